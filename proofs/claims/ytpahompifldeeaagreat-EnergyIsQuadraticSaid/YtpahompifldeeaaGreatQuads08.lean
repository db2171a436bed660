/- Part 8 of the proof that For every valid body with few parts -/
import Derived.Test.YtpahompifldeeaaGreatQuads06
import Derived.Test.YtpahompifldeeaaGreatQuads07
import Derived.Maps.RangeRun
import Derived.Shelf.SlSortCmp.NoneTotal
import Derived.Ground.SlsfProg
import Derived.KernelRfl
import Derived.Test.YtpahompifldeeaaGreatProg
import Derived.Test.YtpahompifldeeaaGreatChecked
set_option linter.unusedVariables false
set_option linter.unusedSimpArgs false
set_option linter.unnecessarySimpa false
set_option linter.defProp false
set_option maxRecDepth 20000
namespace Go.Proofs.YtpahompifldeeaaGreat
noncomputable section
set_option maxHeartbeats 0
noncomputable section
namespace Sy
open Go Go.Proofs
def PK:Ann:=let o0:LO:=[(4098,.one K3 (.dv K3)),(4099,.one K3 (.dv K3))]
 let o1:LO:=[(4098,.one K3 (.dv K3)),(4099,.one K3 (.dv K3)),(122887,.one K1 (.dv K1)),(163843,.one K6 (.st [K1,Ti,K5] [.dv K1,.di,.dv K5]))]
 let o2:LO:=[(4098,.one K3 (.dv K3)),(4099,.one K3 (.dv K3)),(73735,.one K1 (.dv K1)),(114691,.one K6 (.st [K1,Ti,K5] [.dv K1,.di,.dv K5]))]
 let o3:LO:=[(4098,.keep K3 2),(4099,.keep K3 3)]
 let o4:LO:=[(4098,.one K3 (.dv K3)),(4099,.one K3 (.dv K3)),(122887,.one K1 (.dv K1))]
 let o5:LO:=[(4098,.one K3 (.dv K3)),(4099,.one K3 (.dv K3)),(73735,.one K1 (.dv K1))]
 let o6:LS:=[(3,.sp K6 163843),(5,.ow K6),(6,.dv Ty.bool)]
 let o7:LS:=[(3,.sp K6 114691),(5,.ow K6),(6,.dv Ty.bool)]
 let o8:LS:=[(2,.sp K3 4098),(3,.sp K3 4099)]
 (.tl (.two (.regI [] 3 (.two (.tl (.two (.regI [] 4 (.two (.tl (.tl (.two (.tl (.two (.loop ⟨[(3,.ow K6),(4,.di)],o0,[0]⟩ [(.exit 0,⟨[(3,.ow K6)],o0,[]⟩)] (.tl (.two (.two (.tl (.two (.loop ⟨[(3,.ow K6),(5,.di)],o0,[0,4]⟩ [(.exit 2,⟨[(3,.ow K6)],o0,[0,4]⟩)] (.tl (.two (.two (.tl (.two (.loop ⟨[(3,.ow K6),(6,.di)],o0,[0,4,5]⟩ [(.exit 4,⟨[(3,.ow K6)],o0,[0,4,5]⟩)] (.tl (.two (.two (.two (.reg [] 14) (.tl (.two (.loop ⟨[(3,.ow K6),(7,.sp K1 73735),(8,.di)],o5,[0,4,5,6]⟩ [(.exit 6,⟨[(3,.ow K6)],o0,[0,4,5,6]⟩)] (.tl (.two (.two (.two (.reg [] 6) (.tl (.tl (.cut [(.normal,⟨[(3,.ow K6),(7,.sp K1 73735)],[(4098,.one K3 (.dv K3)),(4099,.one K3 (.dv K3)),(73735,.keep K1 7)],[0,4,5,6,8]⟩)] [0,4,5,6,8] [73735] (.tl (.two (.regI [] 10 (.two (.tl (.tl (.tl (.two (.tl (.two (.loop ⟨[(0,.dv K7),(3,.sp K6 114691),(5,.ow K6),(6,.dv Ty.bool),(7,.di)],o2,[]⟩ [(.exit 0,⟨o7,o2,[]⟩)] (.tl (.two (.two (.two (.reg [] 8) (.cut [(.normal,⟨o7,o2,[0,7]⟩)] [0,7] [] .leaf .leaf)) .leaf) .leaf))) .leaf)) (.cut [(.normal,⟨[(5,.ow K6)],o5,[]⟩)] [] [] .leaf .leaf))))) .leaf)) .leaf)) .leaf)))) .leaf) .leaf))) .leaf))) .leaf) .leaf))) .leaf)) .leaf) .leaf))) .leaf)) .leaf) .leaf))) .leaf)) .leaf))) .leaf)) .leaf)) .leaf)) (.two (.regI [] 5 (.two (.tl (.two (.regI [] 4 (.two (.tl (.tl (.two (.tl (.two (.loop ⟨[(3,.ow K6),(4,.di)],o0,[0]⟩ [(.exit 0,⟨[(3,.ow K6)],o0,[]⟩)] (.tl (.two (.two (.tl (.two (.loop ⟨[(3,.ow K6),(5,.di)],o0,[0,4]⟩ [(.exit 2,⟨[(3,.ow K6)],o0,[0,4]⟩)] (.tl (.two (.two (.tl (.two (.loop ⟨[(3,.ow K6),(6,.di)],o0,[0,4,5]⟩ [(.exit 4,⟨[(3,.ow K6)],o0,[0,4,5]⟩)] (.tl (.two (.two (.two (.reg [] 14) (.tl (.two (.loop ⟨[(3,.ow K6),(7,.sp K1 122887),(8,.di)],o4,[0,4,5,6]⟩ [(.exit 6,⟨[(3,.ow K6)],o0,[0,4,5,6]⟩)] (.tl (.two (.two (.two (.reg [] 6) (.tl (.tl (.cut [(.normal,⟨[(3,.ow K6),(7,.sp K1 122887)],[(4098,.one K3 (.dv K3)),(4099,.one K3 (.dv K3)),(122887,.keep K1 7)],[0,4,5,6,8]⟩)] [0,4,5,6,8] [122887] (.tl (.two (.regI [] 10 (.two (.tl (.tl (.tl (.two (.tl (.two (.loop ⟨[(0,.dv K7),(3,.sp K6 163843),(5,.ow K6),(6,.dv Ty.bool),(7,.di)],o1,[]⟩ [(.exit 0,⟨o6,o1,[]⟩)] (.tl (.two (.two (.two (.reg [] 8) (.cut [(.normal,⟨o6,o1,[0,7]⟩)] [0,7] [] .leaf .leaf)) .leaf) .leaf))) .leaf)) (.cut [(.normal,⟨[(5,.ow K6)],o4,[]⟩)] [] [] .leaf .leaf))))) .leaf)) .leaf)) .leaf)))) .leaf) .leaf))) .leaf))) .leaf) .leaf))) .leaf)) .leaf) .leaf))) .leaf)) .leaf) .leaf))) .leaf)) .leaf))) .leaf)) .leaf)) .leaf)) (.two (.tl (.two (.loop ⟨[(2,.sp K3 4098),(3,.sp K3 4099),(5,.ow K6),(6,.di)],o3,[]⟩ [(.ret,⟨[(4,.dv Ty.bool)],[],[]⟩),(.exit 0,⟨o8,o3,[]⟩)] (.tl (.two (.two (.two (.reg [] 8) .leaf) .leaf) .leaf))) .leaf)) (.tl (.tl (.two (.tl (.two (.loop ⟨[(2,.sp K3 4098),(3,.sp K3 4099),(10,.di)],o3,[8,9]⟩ [(.ret,⟨[(4,.dv Ty.bool)],[],[]⟩),(.exit 2,⟨[],[],[]⟩)] (.tl (.two (.two (.tl (.two (.loop ⟨[(2,.sp K3 4098),(3,.sp K3 4099),(11,.di)],o3,[8,9,10]⟩ [(.ret,⟨[(4,.dv Ty.bool)],[],[]⟩),(.exit 4,⟨o8,o3,[8,9,10]⟩)] (.tl (.two (.two (.two (.reg [] 11) .leaf) .leaf) .leaf))) .leaf)) .leaf) .leaf))) .leaf)) .leaf)))))))
def HW(lp:Lp)(c:Ca)(a0:D)(a1:D):Option D:=
 qG a0 [0] λx1=>
(IJ lp c x1 a0 a1).bind λr74=>
 qG (gx r74.2 2) [0] λx75=>
(IJ lp c x75 (gx r74.2 1) (gx r74.2 2)).bind λr148=>
 if List.length (qV r74.2 0)+List.length (qV r148.2 0)<=1073741824 then((qZ lp (λv149=>
 qC .lss (gx v149 1) (Jn (List.length (qV v149 0))) λb151=>
 if b151 then((D.idx (gx v149 1) (List.length (qV v149 0))).bind λi152=>
((qV v149 0)[i152]?).bind λx153=>
(D.fld x153 0).bind λx154=>
(c 376 [(gx r148.2 1),(gx r148.2 2),x154]).bind λr155=>
 qT r155 λb156=>
 if b156 then(iR (0,[(D.bool true)])) else(qB .add (gx v149 1) (Jn 1) λx157=>
 iL [(qW v149 0),x157])) else(iR (1,[]))) [(D.sl ((qV r74.2 0)++(qV r148.2 0))),(Jn 0)]).bind λr158=>
 if r158.1=0 then(some (gx r158.2 0)) else((c 377 [(gx r148.2 1)]).bind λr159=>
(c 377 [(gx r148.2 2)]).bind λr160=>
(qZ lp (λv161=>
 qL r159 (gx v161 0) λb164=>
 if b164 then((qZ lp (λv165=>
 qL r160 (gx v165 0) λb168=>
 if b168 then(qX r159 (gx v161 0) λx171=>
 qX r160 (gx v165 0) λx174=>
(c 379 [x171,x174]).bind λr175=>
(c 378 [r175]).bind λr176=>
(c 376 [(gx r148.2 1),(gx r148.2 2),r176]).bind λr177=>
 qT r177 λb178=>
 if b178 then(iR (0,[(D.bool true)])) else(qB .add (gx v165 0) (Jn 1) λx179=>
 iL [x179])) else(iR (1,[]))) [(Jn 0)]).bind λr180=>
 if r180.1=0 then(iR (0,[(gx r180.2 0)])) else(qB .add (gx v161 0) (Jn 1) λx181=>
 iL [x181])) else(iR (1,[]))) [(Jn 0)]).bind λr182=>
 if r182.1=0 then(some (gx r182.2 0)) else(some (D.bool false)))) else none
def RM{lp}(hlp:ar lp):aj 363 (m2 (HW lp)):=a8 2 Tryz.f130 PK hlp
def PL:Ann:=(.tl (.two (.regI [] 4 (.two (.tl (.two (.regI [] 5 (.two (.tl (.two (.tl (.two (.loop ⟨[(1,.same (.clo 180 [])),(8,.di)],[],[0,7]⟩ [(.ret,⟨[(4,.di)],[],[]⟩),(.exit 0,⟨[],[],[]⟩)] (.tl (.tl (.two (.two (.tl (.two (.regI [] 6 .leaf) .leaf)) .leaf) .leaf)))) .leaf)) .leaf)) .leaf)) .leaf)) .leaf)) .leaf))
def HX(lp:Lp)(c:Ca)(a0:D):Option D:=
 qS a0 λl1=>
(qZ lp (λv2=>
 qC .lss (gx v2 0) (Jn (l1.length)) λb4=>
 if b4 then(qX a0 (gx v2 0) λx7=>
(c 381 [x7]).bind λr8=>
 qT (D.bool (!(D.beq r8 (Jn 0)))) λb9=>
 if b9 then(iR (0,[(gx v2 0)])) else(qB .add (gx v2 0) (Jn 1) λx10=>
 iL [x10])) else(iR (1,[]))) [(Jn 0)]).bind λr11=>
 if r11.1=0 then(qB .geq (gx r11.2 0) (Jn 0) λx14=>
(D.un .not x14).bind λx15=>
 some x15) else(qB .geq (Jn (-1)) (Jn 0) λx12=>
(D.un .not x12).bind λx13=>
 some x13)
def RN{lp}(hlp:ar lp):aj 366 (m1 (HX lp)):=ba 0 Tryz.f137 PL hlp
def HY(lp:Lp)(c:Ca)(a0:D)(a1:D)(a2:D):Option D:=
 qG a0 [2] λx1=>
 qG a0 [1] λx2=>
 qB .mul a1 x2 λx3=>
 qB .add x3 a2 λx4=>
 qX x1 x4 λx7=>
 some x7
def RO{lp}(hlp:ar lp):aj 367 (m3 (HY lp)):=lM 0 Tryz.f140 .leaf hlp
def L8:Ann:=(.tl (.two (.tl (.two (.loop ⟨[(2,.sp gK 4098),(3,.sp gK 4099),(4,.sp gK 4100),(6,.di)],[(4098,.one gK (.dv gK)),(4099,.keep gK 3),(4100,.keep gK 4)],[]⟩ [(.exit 0,⟨[(2,.sp gK 4098),(4,.sp gK 4100)],[(4098,.one gK (.dv gK)),(4100,.keep gK 4)],[]⟩)] (.tl (.tl (.two (.two (.tl (.reg [] 9)) .leaf) .leaf)))) .leaf)) .leaf))
def RP{lp}(hlp:ar lp):aj 371 (fD 0 lp 371 Tryz.f160 L8):=cB hlp (by kernel_rfl) (by kernel_rfl)
def L9:Ann:=let o0:LO:=[(4100,.keep gK 4),(12294,.one gK (.dv gK))]
 (.tl (.tl (.tl (.two (.tl (.two (.loop ⟨[(4,.sp gK 4100),(6,.sp gK 12294),(14,.di)],o0,[5,13]⟩ [(.exit 0,⟨[(4,.sp gK 4100),(6,.sp gK 12294)],o0,[]⟩)] .leaf) .leaf)) .leaf))))
def RQ{lp}(hlp:ar lp):aj 372 (fD 0 lp 372 Tryz.f161 L9):=cB hlp (by kernel_rfl) (by kernel_rfl)
def HZ(lp:Lp)(c:Ca)(a0:D):Option D:=
 qC .geq a0 (D.int .u8 97) λb2=>
(if b2 then(qB .leq a0 (D.int .u8 122) λx3=>
 D.truth x3) else(some false)).bind λb4=>
 qT (D.bool b4) λb5=>
(if b5 then(some true) else(qC .geq a0 (D.int .u8 65) λb7=>
 if b7 then(qB .leq a0 (D.int .u8 90) λx8=>
 D.truth x8) else(some false))).bind λb9=>
 some (D.bool b9)
def RR{lp}(hlp:ar lp):aj 375 (m1 (HZ lp)):=ba 0 Tryz.f168 .leaf hlp
def H0(lp:Lp)(c:Ca)(a0:D)(a1:D)(a2:D):Option D:=
 qT (D.bool (D.beq a2 (D.st [(Jn 0),(Jn 0),(Jn 0)]))) λb1=>
 if b1 then(some (D.bool false)) else((c 389 [a0,a2]).bind λr2=>
(c 389 [a1,a2]).bind λr3=>
 qG r2 [1] λx4=>
 qG r3 [0] λx5=>
(c 32 [x4,x5]).bind λr6=>
 qC .leq r6 (Jn 0) λb8=>
(if b8 then(some true) else(qG r3 [1] λx9=>
 qG r2 [0] λx10=>
(c 32 [x9,x10]).bind λr11=>
 qB .leq r11 (Jn 0) λx12=>
 D.truth x12)).bind λb13=>
 some (D.bool b13))
def RS{lp}(hlp:ar lp):aj 376 (m3 (H0 lp)):=lM 0 Tryz.f172 .leaf hlp
def PM:Ann:=(.tl (.tl (.tl (.two (.tl (.two (.loop ⟨[(1,.sp K3 4097),(3,.ow K1),(5,.di)],[(4097,.keep K3 1)],[4]⟩ [(.exit 0,⟨[(3,.ow K1)],[],[]⟩)] (.tl (.two (.two (.reg [] 21) .leaf) .leaf))) .leaf)) .leaf))))
def H1(lp:Lp)(c:Ca)(a0:D):Option D:=
(c 22 [a0]).bind λr1=>
(qZ lp (λv2=>
 qL r1 (gx v2 1) λb5=>
 if b5 then(qG a0 [0] λx6=>
 qX r1 (gx v2 1) λx9=>
(D.fld x9 1).bind λx10=>
 qX x6 x10 λx13=>
 qG a0 [0] λx14=>
 qX r1 (gx v2 1) λx17=>
(D.fld x17 0).bind λx18=>
 qX x14 x18 λx21=>
(c 112 [x13,x21]).bind λr22=>
 if List.length (qV v2 0)+List.length [r22]<=1073741824 then(qB .add (gx v2 1) (Jn 1) λx23=>
 iL [(D.sl ((qV v2 0)++[r22])),x23]) else none) else(iR (0,[(qW v2 0)]))) [(D.sl []),(Jn 0)]).bind λr24=>
 some (qW r24.2 0)
def RT{lp}(hlp:ar lp):aj 377 (m1 (H1 lp)):=ba 0 Tryz.f173 PM hlp
def H2(lp:Lp)(c:Ca)(a0:D):Option D:=
 qG a0 [0] λx1=>
(c 186 [x1]).bind λr2=>
(D.tupAt r2 0).bind λx3=>
(D.tupAt r2 1).bind λx4=>
 qG a0 [1] λx5=>
(c 186 [x5]).bind λr6=>
(D.tupAt r6 0).bind λx7=>
(D.tupAt r6 1).bind λx8=>
 qG a0 [2] λx9=>
(c 186 [x9]).bind λr10=>
(D.tupAt r10 0).bind λx11=>
(D.tupAt r10 1).bind λx12=>
 some (D.st [x3,x7,x11])
def RU{lp}(hlp:ar lp):aj 378 (m1 (H2 lp)):=ba 0 Tryz.f174 .leaf hlp
def PN:Ann:=(.tl (.two (.reg [] 5) .leaf))
def H3(lp:Lp)(c:Ca)(a0:D)(a1:D):Option D:=
(c 80 [a0]).bind λr1=>
(c 80 [a1]).bind λr2=>
(c 390 [r1,r2]).bind λr3=>
 some r3
def RW{lp}(hlp:ar lp):aj 379 (m2 (H3 lp)):=a8 0 Tryz.f175 PN hlp
def H4(lp:Lp)(c:Ca)(a0:D):Option D:=
 qG a0 [0] λx1=>
 qC .lss x1 (Jn 0) λb3=>
(if b3 then(some true) else(qG a0 [0] λx4=>
 qB .gtr x4 (Jn 200) λx5=>
 D.truth x5)).bind λb6=>
 qT (D.bool b6) λb7=>
(if b7 then(some true) else(qG a0 [1] λx8=>
 qB .lss x8 (Jn 0) λx9=>
 D.truth x9)).bind λb10=>
 qT (D.bool b10) λb11=>
(if b11 then(some true) else(qG a0 [1] λx12=>
 qB .gtr x12 (Jn 200) λx13=>
 D.truth x13)).bind λb14=>
 qT (D.bool b14) λb15=>
 if b15 then(some (Jn 2)) else(qP a0 [2] λl17=>
 qG a0 [0] λx18=>
 qG a0 [1] λx19=>
 qB .mul x18 x19 λx20=>
 qT (D.bool (!(D.beq (Jn (l17.length)) x20))) λb21=>
(if b21 then(some true) else(qG a0 [2] λx22=>
(c 382 [x22]).bind λr23=>
(D.un .not r23).bind λx24=>
 D.truth x24)).bind λb25=>
 qT (D.bool b25) λb26=>
 if b26 then(some (Jn 1)) else(some (Jn 0)))
def RY{lp}(hlp:ar lp):aj 381 (m1 (H4 lp)):=ba 0 Tryz.f181 .leaf hlp
def PO:Ann:=(.tl (.two (.regI [] 4 (.two (.tl (.two (.regI [] 5 (.two (.tl (.two (.tl (.two (.loop ⟨[(1,.same (.clo 216 [])),(8,.di)],[],[0,7]⟩ [(.ret,⟨[(4,.di)],[],[]⟩),(.exit 0,⟨[],[],[]⟩)] (.tl (.tl (.two (.two (.tl (.two (.regI [] 6 .leaf) .leaf)) .leaf) .leaf)))) .leaf)) .leaf)) .leaf)) .leaf)) .leaf)) .leaf))
def H5(lp:Lp)(c:Ca)(a0:D):Option D:=
 qS a0 λl1=>
(qZ lp (λv2=>
 qC .lss (gx v2 0) (Jn (l1.length)) λb4=>
 if b4 then(qX a0 (gx v2 0) λx7=>
(c 136 [x7]).bind λr8=>
 qN r8 λb10=>
 if b10 then(iR (0,[(gx v2 0)])) else(qB .add (gx v2 0) (Jn 1) λx11=>
 iL [x11])) else(iR (1,[]))) [(Jn 0)]).bind λr12=>
 if r12.1=0 then(qB .geq (gx r12.2 0) (Jn 0) λx15=>
(D.un .not x15).bind λx16=>
 some x16) else(qB .geq (Jn (-1)) (Jn 0) λx13=>
(D.un .not x13).bind λx14=>
 some x14)
def RZ{lp}(hlp:ar lp):aj 382 (m1 (H5 lp)):=ba 0 Tryz.f182 PO hlp
def R0{lp}(hlp:ar lp):aj 385 (fD 0 lp 385 Tryz.f199 .leaf):=cB hlp (by kernel_rfl) (by kernel_rfl)
def Ma:Ann:=(.tl (.tl (.tl (.two (.tl (.two (.loop ⟨[(3,.sp K1 4099),(4,.sp K1 4100),(5,.sp Mq 8197),(6,.sp K1 12294),(10,.di)],[(4099,.keep K1 3),(4100,.keep K1 4),(8197,.keep Mq 5),(12294,.one K1 (.dv K1))],[]⟩ [(.exit 0,⟨[(4,.sp K1 4100),(6,.sp K1 12294)],[(4100,.keep K1 4),(12294,.one K1 (.dv K1))],[]⟩)] (.tl (.tl (.two (.two (.tl (.reg [] 24)) .leaf) .leaf)))) .leaf)) .leaf))))
def R5{lp}(hlp:ar lp):aj 386 (fD 0 lp 386 Tryz.f200 Ma):=cB hlp (by kernel_rfl) (by kernel_rfl)
end Sy
end
end
noncomputable section
set_option maxHeartbeats 0
noncomputable section
namespace Sy
open Go Go.Proofs
def PP:Ann:=let o0:LO:=[(4098,.keep K3 2),(4099,.keep K1 3),(4100,.keep aX 4),(12294,.one aX (.dv aX))]
 (.tl (.two (.reg [] 7) (.tl (.two (.tl (.two (.loop ⟨[(2,.sp K3 4098),(3,.sp K1 4099),(4,.sp aX 4100),(6,.sp aX 12294),(7,.di)],o0,[]⟩ [(.exit 0,⟨[(4,.sp aX 4100),(6,.sp aX 12294)],[(4100,.keep aX 4),(12294,.one aX (.dv aX))],[]⟩)] (.tl (.cut [(.normal,⟨[(2,.sp K3 4098),(3,.sp K1 4099),(4,.sp aX 4100),(6,.sp aX 12294)],o0,[7]⟩)] [7] [4098,4099,4100] (.two (.two (.reg [] 8) (.cut [(.normal,⟨[(2,.sp K3 4098),(3,.sp K1 4099),(4,.sp aX 4100),(6,.sp aX 12294),(8,.sp aK 28680)],[(4098,.keep K3 2),(4099,.keep K1 3),(4100,.keep aX 4),(12294,.one aX (.dv aX)),(28680,.keep aK 8)],[7]⟩)] [7] [4098,4099,4100,28680] .leaf .leaf)) .leaf) .leaf))) .leaf)) .leaf))))
def H6(lp:Lp)(c:Ca)(a0:D)(a1:D):Option D:=
 qY a0 [0] (Jn 0) λx4=>
(c 33 [a1,x4]).bind λr5=>
(qZ lp (λv6=>
 qM a0 [0] (gx v6 0) λb10=>
 if b10 then((qY a0 [0] (gx v6 0) λx14=>
(c 33 [a1,x14]).bind λr15=>
(qG (gx v6 1) [0] λx16=>
(c 32 [r15,x16]).bind λr17=>
 qC .lss r17 (Jn 0) λb19=>
 if b19 then((D.set (gx v6 1) [0] r15).bind λx20=>
 some (0,[x20])) else(some (0,[(gx v6 1)]))).bind λ(r21:Nat×List D)=>
 qG (gx r21.2 0) [1] λx22=>
(c 32 [r15,x22]).bind λr23=>
 qC .gtr r23 (Jn 0) λb25=>
 if b25 then((D.set (gx r21.2 0) [1] r15).bind λx26=>
 some (0,[x26])) else(some (0,[(gx r21.2 0)]))).bind λ(r27:Nat×List D)=>
 qB .add (gx v6 0) (Jn 1) λx28=>
 iL [x28,(gx r27.2 0)]) else(iR (0,[(gx v6 1)]))) [(Jn 1),(D.st [r5,r5])]).bind λr29=>
 some (gx r29.2 0)
def R7{lp}(hlp:ar lp):aj 389 (m2 (H6 lp)):=a8 0 Tryz.f205 PP hlp
def PQ:Ann:=(.tl (.two (.reg [] 28) .leaf))
def H7(lp:Lp)(c:Ca)(a0:D)(a1:D):Option D:=
 qG a0 [1] λx1=>
 qG a1 [2] λx2=>
 qG a0 [2] λx3=>
 qG a1 [1] λx4=>
(c 395 [x1,x2,x3,x4]).bind λr5=>
 qG a0 [2] λx6=>
 qG a1 [0] λx7=>
 qG a0 [0] λx8=>
 qG a1 [2] λx9=>
(c 395 [x6,x7,x8,x9]).bind λr10=>
 qG a0 [0] λx11=>
 qG a1 [1] λx12=>
 qG a0 [1] λx13=>
 qG a1 [0] λx14=>
(c 395 [x11,x12,x13,x14]).bind λr15=>
 some (D.st [r5,r10,r15])
def R8{lp}(hlp:ar lp):aj 390 (m2 (H7 lp)):=a8 0 Tryz.f208 PQ hlp
def R9{lp}(hlp:ar lp):aj 392 (fD 0 lp 392 Tryz.f221 .leaf):=cB hlp (by kernel_rfl) (by kernel_rfl)
def Mb:Ann:=(.tl (.two (.reg [] 11) .leaf))
def Sa{lp}(hlp:ar lp):aj 393 (fD 0 lp 393 Tryz.f222 Mb):=cB hlp (by kernel_rfl) (by kernel_rfl)
def Mc:Ann:=(.tl (.tl (.two (.tl (.two (.loop ⟨[(3,.di),(4,.di)],[],[0]⟩ [(.exit 0,⟨[(3,.di)],[],[]⟩)] (.tl (.two (.two (.reg [] 12) .leaf) .leaf))) .leaf)) .leaf)))
def Sc{lp}(hlp:ar lp):aj 394 (fD 0 lp 394 Tryz.f223 Mc):=cB hlp (by kernel_rfl) (by kernel_rfl)
def PR:Ann:=(.tl (.two (.reg [] 7) .leaf))
def H8(lp:Lp)(c:Ca)(a0:D)(a1:D)(a2:D)(a3:D):Option D:=
(c 89 [a0,a1]).bind λr1=>
(c 89 [a2,a3]).bind λr2=>
(c 396 [r1,r2]).bind λr3=>
 some r3
def Sd{lp}(hlp:ar lp):aj 395 (m4 (H8 lp)):=Fc 0 Tryz.f231 PR hlp
def PS:Ann:=(.tl (.two (.reg [] 4) .leaf))
def H9(lp:Lp)(c:Ca)(a0:D)(a1:D):Option D:=
(c 86 [a1]).bind λr1=>
(c 59 [a0,r1]).bind λr2=>
 some r2
def Se{lp}(hlp:ar lp):aj 396 (m2 (H9 lp)):=a8 0 Tryz.f246 PS hlp
def PT:Ann:=(.tl (.two (.reg [] 6) .leaf))
def Ia(lp:Lp)(c:Ca)(a0:D)(a1:D)(a2:D)(a3:D):Option D:=
(c 367 [a2,a0,a1]).bind λr1=>
(c 174 [r1,a3]).bind λr2=>
 some r2
def Sg{lp}(hlp:ar lp):aj 402 (m4 (Ia lp)):=Fc 0 Tryz.f141 PT hlp
def PU:Ann:=(.tl (.two (.reg [] 9) .leaf))
def Ib(lp:Lp)(c:Ca)(a0:D)(a1:D)(a2:D)(a3:D):Option D:=
(c 367 [a2,a0,a1]).bind λr1=>
(c 367 [a3,a0,a1]).bind λr2=>
(c 173 [r1,r2]).bind λr3=>
 some r3
def Si{lp}(hlp:ar lp):aj 407 (m4 (Ib lp)):=Fc 0 Tryz.f139 PU hlp
end Sy
end
end
noncomputable section
namespace Sy
open Go Go.Proofs Go.Sort Go.Lib
variable{ro:Option Nat}{nn:Nat}
inductive AnnT where
 | hand
 | seq (a:Ann) (b:AnnT)
def KR(E:Env)(K:St->Option D):Code->AnnT->St->Option D
 | .seq c d,.seq a b,s=>ev E c a D s λe s'=>match e with
  | .normal=>KR E K d b s'
  | _=>none
 | _,.hand,s=>K s
 | _,_,_=>none
def vN:Code->AnnT->Code
 | .seq _ d,.seq _ b=>vN d b
 | c,_=>c
def s8(fn:Func)(tys:List Ty)(args:List D):St:={ tm:=lK tys args,ob:=λ_=>none,fresh:=0,dead:=[],nt:=fn.ntmps,lkS:=[],lkO:=[4095] }
def KO(E:Env)(K:St->Option D)(fn:Func)(ann:AnnT)(tys:List Ty)(args:List D):Option D:=
 match fn.body with
 | none=>none
 | some c=>KR E K c ann (s8 fn tys args)
section
variable{P:Program}{E:Env}{w0:Root}
def Fm.df0{s:St}{S S':Nat->Nat->Prop}{γ γ':Nat->Option Nat}{a a':Act}{w w':World}(h:Fm s S γ a w S' γ' a' w')(h4:4095∈s.lkO)(hd:a.defers=[]):a'.defers=[]:=by
 obtain⟨_,m,e,_,z⟩:=h.dfs;rw[e,z h4,hd];rfl
def jh.eq{w w':World}{b:Nat}{o:Obj}(h:jh w w' b)(ho:w.heap[b]?=some o)(hl:∀ r,o≠.loop r):w'.heap[b]?=some o:=by
 rcases h with h|⟨r,_,h1,_⟩
 ·exact h.trans ho
 ·rw[ho] at h1;cases h1;exact absurd rfl (hl r)
def KS(hE:EnvOk P E){K:St->Option D}{Q:Exit->Act->World->Prop}{y:D}:∀ (c:Code) (ann:AnnT) {S:Nat->Nat->Prop} {γ:Nat->Option Nat} {β:Nat->Option (Nat×Nat)} {s:St} {a:Act} {w:World},
  Rp w0 S γ β s a w->a.defers=[]->4095∈s.lkO->KR E K c ann s=some y->(∀ s' S' γ' β' a' w',Rp w0 S' γ' β' s' a' w'->a'.defers=[]->K s'=some y->(vN c ann).wpIn (FW none) nn P Q a' w')->c.wpIn (FW none) nn P Q a w:=by
 intro c
 induction c with
 | seq c d _ ih=>
  intro ann S γ β s a w h hd h4 hev hQ;cases ann with
  | hand=>exact hQ s S γ β a w h hd (by simpa only[KR] using hev)
  | seq a1 b=>
   simp only[KR] at hev;refine wpIn_seq (BJ hE c a1 D _ y h hev λe s' S' γ' β' a' w' n1 n2 n3 n4=>?_);cases e with
   | normal=>exact ih b n1 (n2.df0 h4 hd) (by rw[n3.lkO];exact h4) n4 hQ
   | ret=>cases n4
   | exit i=>cases n4
 | _=>
  intro ann S γ β s a w h hd h4 hev hQ;cases ann with
  | hand=>exact hQ s S γ β a w h hd (by simpa only[KR] using hev)
  | seq a1 b=>simp[KR] at hev
def dI(s:St)(e:Ty)(x:Nat):Option (List D):=match s.tm x with
 | .own e' v l=>if e'.beq e&&!(s.dead.contains v)&&decide (l.length<=1073741824) then some l else none
 | .nils=>some []
 | _=>none
def Lm(s:St)(x:Nat)(e:Ty)(l:List D):St:={ tm:=λi=>if i=x then .d (.sl e) (.sl l) else .undef,ob:=λ_=>none,fresh:=s.fresh+1,dead:=[],nt:=s.nt,lkS:=[],lkO:=[4095] }
def D7{w:World}{S:Nat->Nat->Prop}{l:List D}{a:Option Addr}{n cap:Nat}(h:CR w S (.sl l) (.slice a n cap)):gj w S (.sl l) (.slice a n cap):=by
 refine⟨λcs h=>(by cases h),rfl,λi d c hd hc=>?_⟩
 cases i with
 | zero=>simp only[D.flat,zeb,zda,Value.cells] at hd hc;subst hd;first|(subst hc;exact h)|(simp at hc;subst hc;exact h)
 | succ i=>simp[D.flat] at hd
theorem mB{e:Ty}(hc:bL e=true):∀ l:List D,(∀ x∈l,wt e x)->∀ d∈D.flats l,qE d=true
 | [],_,d,hd=>by simp[D.flats] at hd
 | y::l,h,d,hd=>by
  simp only[D.flats,zDa] at hd;rcases hd with hd|hd
  ·exact j6 e y hc (h y zka) d hd
  ·exact mB hc l (λz hz=>h z (zha _ hz)) d hd
def Rp.new{S S':Nat->Nat->Prop}{γ:Nat->Option Nat}{β:Nat->Option (Nat×Nat)}{s:St}{a a':Act}{w w':World}(h:Rp w0 S γ β s a w)(he:ln w0 w'){x:Nat}{e:Ty}{l:List D}(hn:au e=true)(hx:x<s.nt)(hwt:∀ y∈l,wt e y)
  (hv:gj w' S' (.sl l) (a'.tmps.getD x undef)) (hnt:a'.tmps.size=s.nt) (hdf:a'.defers=[]) (hSb:∀ b o,S' b o->b<w'.heap.size) (hSo:∀ b o,S' b o->w0.Old b->w0.S0 b o):Rp w0 S' (λ_=>none) (λ_=>none) (Lm s x e l) a' w':=by
 refine⟨he,λt ht=>?_,hnt,λt ht=>?_,λid o b ho=>(by cases ho),λid b hb=>(by cases hb),λid id' b hb=>(by cases hb),λ_ _=>rfl,λv b e _ hb=>(by cases hb),λv v' b e e' _ _ hb=>(by cases hb),λv id b e _ hb=>(by cases hb),λ_ _=>rfl,hSb,hSo⟩
 ·show AR _ (if t=x then AV.d (.sl e) (.sl l) else .undef) (a'.tmps.getD t undef)
  by_cases htx:t=x
  ·rw[if_pos htx];subst htx;exact .inl ⟨by simp only[au];exact hn,⟨l,rfl,hwt⟩,hv⟩
  ·rw[if_neg htx];simp only[AR]
 ·show(if t=x then AV.d (.sl e) (.sl l) else .undef)=_
  rw[if_neg (λh=>by subst h;exact absurd hx (zzc.2 ht))]
def Jp(hE:EnvOk P E){f:Nat}{e:Ty}(hf:SortOk P f e){g:Nat}(hsig:E.sig g=some ([e,e],.int .i64)/\E.free g=0){id x t d2:Nat}{ops:Array Oper}{ty1 ty2:TypeId}{p1 p2:String}{af1 af2:Array Edge}{args:Array Operand}{ats:Array TypeId}
  (hops:ops.toList=[⟨some t,.move (.tmp x),ty1,p1,af1,none⟩,⟨some d2,.call ⟨.value (.func f),args,ats⟩,ty2,p2,af2,none⟩]) (hargs:args=#[.tmp t,.func g]) {Q:Exit->Act->World->Prop}
  {S:Nat->Nat->Prop} {γ:Nat->Option Nat} {β:Nat->Option (Nat×Nat)} {s:St} {a:Act} {w:World} (h:Rp w0 S γ β s a w) (hdf:a.defers=[]) (hxt:x≠t) (hxd:x≠d2) (ht:t<s.nt) {l l':List D} (hv:dI s e x=some l) (hs:kj E g l=some l')
  (hQ:∀ a' w' S',Rp w0 S' (λ_=>none) (λ_=>none) (Lm s x e l') a' w'->a'.defers=[]->Q .normal a' w'):(Code.region id ops false).wpIn (FW ro) nn P Q a w:=by
 have hx:x<s.nt:=by
  rcases zna x s.nt with k|k
  ·exact k
  ·unfold dI at hv;rw[h.tmu x k] at hv;cases hv
 have hax:AR ⟨w,S,γ,β,s.ob,s.dead⟩ (s.tm x) (a.tmps.getD x undef):=h.tms x (by rw[h.nt];exact hx)
 obtain⟨ad,cap,val,hwt,hcr,hown⟩:∃ ad cap,a.tmps.getD x undef=.slice ad l.length cap/\(∀ y∈l,wt e y)/\CR w S (.sl l) (.slice ad l.length cap)/\(l≠[]->∃ b off row,ad=some ⟨b,off,none⟩/\bN w b=some row/\¬ w0.Old b/\b<w.heap.size)/\l.length<=1073741824:=by
  unfold dI at hv;split at hv
  ·rename_i e' v l0 htm;split at hv
   ·rename_i hb;simp only[zaa,zLa,decide_eq_true_eq] at hb;obtain⟨⟨hb1,hb2⟩,hb3⟩:=hb;cases hv;have:=Ty.eq_of_beq _ _ hb1;subst this;rw[htm] at hax;simp only[AR,AC] at hax;obtain⟨n0,n1,n2,ad,cap,n3,n4,n5⟩:=hax;have hval:=az n0 n3;have hdead:v ∉ s.dead:=by simpa using hb2
    refine⟨ad,cap,hval,n2,n4,λhne=>?_,hb3⟩;rcases n5 hdead with⟨q1,q2⟩|⟨b,off,q1,q2,n,q3,q4⟩
    ·exfalso;obtain⟨_,_,b,off,e1,e2,e3,e4⟩:=n4.elems;cases e1;rcases e2 with e2|e2
     ·exact hne e2
     ·rw[q1] at e2;cases e2
    ·obtain⟨k1,k2,_⟩:=h.βn v b _ hdead q2;unfold mU at q3;cases hr:bN w b with
     | none=>rw[hr] at q3;cases q3
     | some row=>exact⟨b,off,row,q1,hr,k1,k2⟩
   ·cases hv
  ·rename_i htm;cases hv;rw[htm] at hax;simp only[AR,AC] at hax;have hval:=az hax.1 hax.2;exact⟨none,0,hval,by simp,CR.of_elems (b:=0) (off:=0) (.inl rfl) (zja _) ⟨[],cS.nil,by simp⟩,λh=>absurd rfl h,by simp⟩
  ·cases hv
 obtain⟨hown,hlen⟩:=hown;have hperm:l'.Perm l:=by
  unfold kj at hs;split at hs
  ·cases hs;exact gD _ l
  ·cases hs
 have hll:l'.length=l.length:=hperm.length_eq;have hwt':∀ y∈l',wt e y:=λy hy=>hwt y (hperm.subset hy);refine wpIn_region_list ?_;rw[hops];simp only[wpListIn,Region.wanted,if_true];refine(bg (K:=λv w1=>v=a.tmps.getD x undef/\w=w1) (et.value (v:=a.eval (.tmp x)) (w':=w) rfl ⟨rfl,rfl⟩) ?_);rintro _ _ ⟨rfl,rfl⟩;have hsz:(a.put (some t) (a.tmps.getD x undef)).tmps.size=s.nt:=by simp[Act.put,h.nt]
 have ht1:(a.put (some t) (a.tmps.getD x undef)).eval (.tmp t)=a.tmps.getD x undef:=by
  have:t<a.tmps.size:=by rw[h.nt];exact ht
  simp[Act.eval,Act.put,Array.getD,this]
 have hx1:(a.put (some t) (a.tmps.getD x undef)).tmps.getD x undef=a.tmps.getD x undef:=by
  exact bQ (λe=>hxt (by cases e;rfl))
 have hdf1:(a.put (some t) (a.tmps.getD x undef)).defers=[]:=hdf;generalize (a.put (some t) (a.tmps.getD x undef))=a1 at *;refine(bg (K:=λv w1=>∃ S',ln w0 w1/\gj w1 S' (.sl l') (a.tmps.getD x undef)/\(∀ b o,S' b o->b<w1.heap.size)/\(∀ b o,S' b o->w0.Old b->w0.S0 b o)) ?_ ?_)
 ·obtain⟨fn,f1,f2,f3⟩:=hf.fn;refine et.enter (f:=f) (args:=#[.slice ad l.length cap,.func (.func g) #[] #[]]) (w':=w) ?_ ?_
  ·have hb:¬ fn.body=none:=by intro hh;rw[hh] at f3;cases f3
   have f2' : ¬ fn.name = "runtime.NumGoroutine" := by simpa using f2
   have e1:a1.eval (.tmp t)=.slice ad l.length cap:=by rw[ht1,val]
   subst hargs;have e2:a1.eval (.func g)=.func (.func g) #[] #[]:=rfl;simp[execOp,resolve,Deferred.ofValue,invoke,callFunc,f1,f2',hb,e1,e2];simp[Act.eval,f1,f2',hb]
  ·by_cases hne:l=[]
   ·subst hne;have e0:l'=[]:=by cases l' with|nil=>rfl|cons y l'=>simp at hll
    subst e0;refine(hf.empty ad cap _ w).mono ?_;rintro en w1 ⟨rfl,rfl⟩;exact⟨_,rfl,S,h.ext,by rw[val];exact D7 hcr,h.Sb,h.So⟩
   ·obtain⟨b,off,row,rfl,hr,hold,hbs⟩:=hown hne;have hcell:∀ (i:Nat) (d:D),(D.flats l)[i]?=some d->w.cell? ⟨b,off+i,none⟩=some (fK d):=by
     obtain⟨_,_,b',off',e1,e2,e3,cs,e4,e5⟩:=hcr.elems;cases e1;rcases e2 with e2|e2
     ·exact absurd e2 hne
     ·cases e2;have hleaf:=mB hf.cmp l hwt;have:=(fO hleaf).1 e4;subst this;intro i d hd;exact(e5 i (fK d) (by rw[zcb,hd];rfl)).2
    refine(DM hE hf hsig hwt hs hne (b:=b) (off:=off) (cap:=cap) hr hcell (by omega)).mono ?_
    rintro en w1 ⟨rfl,_,q1,q2,q3,q4,q5,q6,q7⟩;refine⟨_,rfl,λb' o=>(S b' o/\b'≠b)\/(b'=b/\off<=o/\o<off+(D.flats l').length),?_,?_,?_,?_⟩
    ·refine nv h.ext q2 q3 q4 q5 q1 λb' hb'=>q6 b' (λe=>hold (e ▸ hb')) (zPa hb'.1 h.ext.sz)
    ·rw[val];refine D7 ?_;rw[<-hll];refine CR.of_elems (b:=b) (off:=off) (.inr rfl) (by obtain⟨_,_,_,_,e1,_,e3,_⟩:=hcr.elems;cases e1;rw[hll];exact e3) ⟨(D.flats l').map fK,?_,λi c hc=>?_⟩
     ·exact(fO (mB hf.cmp l' hwt')).2 rfl
     ·rw[zcb] at hc;cases hd:(D.flats l')[i]? with
      | none=>rw[hd] at hc;cases hc
      | some d=>
       rw[hd] at hc;simp only[zFb,zda] at hc;subst hc;exact⟨.inr ⟨rfl,by omega,by have:=(zla.1 hd).1;omega⟩,q7 i d hd⟩
    ·rintro b' o (⟨hb',_⟩|⟨rfl,_,_⟩)
     ·exact zPa (h.Sb b' o hb') q5
     ·exact zPa hbs q5
    ·rintro b' o (⟨hb',_⟩|⟨rfl,_,_⟩) ho
     ·exact h.So b' o hb' ho
     ·exact absurd ho hold
 ·rintro v w1 ⟨S',k1,k2,k3,k4⟩;refine hQ _ w1 S' (Rp.new h k1 hf.nt hx hwt' ?_ (by simp[Act.put,hsz]) hdf1 k3 k4) hdf1
  have:(a1.put (some d2) v).tmps.getD x undef=a.tmps.getD x undef:=by
   rw[<-hx1];exact bQ (λe=>hxd (by cases e;rfl))
  rw[this];exact k2
end
end Sy
end
noncomputable section
namespace Sy
open Go Go.Proofs Go.Sort Go.Lib
variable{ro:Option Nat}{nn:Nat}
open Go.ChangeMaps (setBlock)
section
variable{P:Program}{E:Env}{w0:Root}
theorem uc{ops ops':Array Oper}{Q:Exit->Act->World->Prop}:∀ (l:List Oper) (a:Act) (w:World),(∀ o∈l,o.guard=none)->wpListIn (FW ro) nn P ops Q l a w->wpListIn (FW ro) nn P ops' Q l a w
 | [],_,_,_,h=>h
 | o::l,a,w,hg,h=>by
  have hgo:=hg o zka;have hfun:∀ a w,wpListIn (FW ro) nn P ops Q l a w->wpListIn (FW ro) nn P ops' Q l a w:=λa w=>uc l a w λo ho=>hg o (zha _ ho);simp only[wpListIn,Region.wanted,hgo,if_true] at h ⊢;exact Oper.wpIn_mono hfun h
def IZ(hE:EnvOk P E){Q:Exit->Act->World->Prop}{id:Nat}{ops:Array Oper}{R:Type}{S:Nat->Nat->Prop}{γ:Nat->Option Nat}{β:Nat->Option (Nat×Nat)}{s:St}{a:Act}{w:World}{k:Ex->St->Option R}{r:R}
  (h:Rp w0 S γ β s a w) (hev:ev E (.region id ops false) .leaf R s k=some r) (hQ:Kp Q w0 s S γ a w k r):wpListIn (FW ro) nn P ops Q ops.toList a w:=by
 obtain⟨S1,f1,f2,f3⟩:=pH (Ann.leaf).fz h;obtain⟨s1,hs1⟩:∃ s1,s1={ fV s (Ann.leaf).fz with fresh:=s.fresh+1 }:=⟨_,rfl⟩;obtain⟨h1,h23⟩:=uV hs1 hev;obtain⟨h2,h3⟩:(!false||pC E ops ((Ann.leaf).heads ops.size))=true/\_:=h23.resolve_right λh=>h.elim (λh=>by cases h.1) (λh=>h.elim (λh=>by cases h.1) (λh=>by cases h.1))
 have hb1:s1.base=s.base+4096:=by rw[hs1];simp only[St.base];omega
 have r1:Rp w0 S1 γ β s1 a w:=by
  rw[hs1];have q1:∀ id,({ fV s (Ann.leaf).fz with fresh:=s.fresh+1 }:St).base+4096<=id->s.base+4096<=id:=λid hid=>by
   have e:({ fV s (Ann.leaf).fz with fresh:=s.fresh+1 }:St).base=s.base+4096:=by simp only[St.base];omega
   rw[e] at hid;exact zAa (zjc _ _) hid
  exact⟨f1.ext,f1.tms,f1.nt,f1.tmu,f1.obs,f1.γn,f1.γi,λid hid=>h.γf id (q1 id hid),f1.βn,f1.βi,f1.βγ,λv hv=>h.βf v (q1 v hv),f1.Sb,f1.So⟩
 have hle1:∀ d,s.base+4096<=s1.base+d:=λd=>by have:=zjc s1.base d;rw[hb1] at this ⊢;exact this
 have hg:∀ d,γ (s1.base+d)=none:=λd=>h.γf (s1.base+d) (hle1 d);have hgb:∀ d,β (s1.base+d)=none:=λd=>h.βf (s1.base+d) (hle1 d);obtain⟨r2,m2⟩:=Cf (E:=E) ops.toList r1 hg;have hmk:=h1;simp only[bP,zaa,zpa] at hmk;obtain⟨⟨hm1,hm2⟩,hm3⟩:=hmk;have hfr:CA E (ib E ops.toList s1) γ β ops.toList:=by
  intro o ho hc d hd;rw[m2.base_eq];have hd4:=hm2 o ho;rw[hd] at hd4;simp only[decide_eq_true_eq] at hd4;exact⟨hd4,hg d,hgb d,λT t e1 e2=>xi ops.toList hm1 ho e1 hd e2⟩
 have hsk:Sk s (ib E ops.toList s1):=by
  refine⟨m2.lkS.trans ?_,m2.lkO.trans ?_,m2.nt.trans ?_⟩<;>rw[hs1]
  ·exact f3.lkS
  ·exact f3.lkO
  ·exact f3.nt
 have hstores:(ops.toList.all λo=>match o.op with|.store ..=>o.dst.isNone|_=>true)=true:=by
  simp only[bP,zaa] at h1;exact h1.2
 have:=sJ (ro:=ro) (nn:=nn) (ops:=ops) hE hstores _ R (aQ 0 ops.toList) _ r _ r2 (by rw[aY];exact hfr) (by rw[aY];exact λA B o o' e ho d hd=>eG hm1 A B o o' e ho d hd) (λp hp=>iS hp) h3
  (Q:=Q) λs' S' γ' β' a' w' n1 n2 n3 n4=>hQ .normal s' S' γ' β' a' w' n1 (f2.tr n2 hsk) (hsk.trans n3) n4
 rwa [aY] at this
def σL(nt o it:Nat)(X:AV):St:={ tm:=λi=>if i=o then X else .undef,ob:=λ_=>none,fresh:=0,dead:=[],nt:=nt,lkS:=[it],lkO:=[0,1,4095] }
def γs(m r:Nat):Nat->Option Nat:=λi=>if i=0 then some m else if i=1 then some r else none
def JU(e:Ty)(L:List D)(X:AV):Prop:=(X=.nils/\L=[])\/X=.own e 5 L
def Am{s:St}{e:Ty}{o:Nat}{L:List D}(h:dI s e o=some L):(s.tm o=.nils/\L=[])\/∃ v,s.tm o=.own e v L/\v ∉ s.dead:=by
 unfold dI at h;split at h
 ·rename_i e' v l htm;split at h
  ·rename_i hb;simp only[zaa,zLa,decide_eq_true_eq] at hb;cases h;have:=Ty.eq_of_beq _ _ hb.1.1;subst this;exact .inr ⟨v,htm,by simpa using hb.1.2⟩
  ·cases h
 ·rename_i htm;cases h;exact .inl ⟨htm,rfl⟩
 ·cases h
def Rp.std{S:Nat->Nat->Prop}{γ:Nat->Option Nat}{β:Nat->Option (Nat×Nat)}{s:St}{a:Act}{w:World}(h:Rp w0 S γ β s a w){m r:Nat}(hm:¬ w0.Old m/\m<w.heap.size)(hr:¬ w0.Old r/\r<w.heap.size)(hmr:m≠r)
  (hβ:∀ v b e,v ∉ s.dead->β v=some (b,e)->b≠m/\b≠r) {e:Ty} (hce:bL e=true) {o:Nat} {L:List D} (hv:dI s e o=some L) (it:Nat) :
  ∃ β' X,JU e L X/\Rp w0 (λb i=>S b i/\b≠m/\b≠r) (γs m r) β' (σL s.nt o it X) a w:=by
 have ho:o<s.nt:=by
  rcases zna o s.nt with k|k
  ·exact k
  ·unfold dI at hv;rw[h.tmu o k] at hv;cases hv
 have hao:=h.tms o (by rw[h.nt];exact ho)
 have g1:∀ id b,γs m r id=some b->(id=0/\b=m)\/(id=1/\b=r):=λid b hb=>by
  unfold γs at hb;split at hb
  ·rename_i e;cases hb;exact .inl ⟨e,rfl⟩
  ·split at hb
   ·rename_i e;cases hb;exact .inr ⟨e,rfl⟩
   ·cases hb
 have γn':∀ id b,γs m r id=some b->¬ w0.Old b/\b<w.heap.size:=λid b hb=>by
  rcases g1 id b hb with⟨_,rfl⟩|⟨_,rfl⟩
  ·exact hm
  ·exact hr
 have γi':∀ id id' b,γs m r id=some b->γs m r id'=some b->id=id':=λid id' b hb hb'=>by
  rcases g1 id b hb with⟨k1,k2⟩|⟨k1,k2⟩<;>rcases g1 id' b hb' with⟨k3,k4⟩|⟨k3,k4⟩
  ·omega
  ·exact absurd (k2.symm.trans k4) hmr
  ·exact absurd (k4.symm.trans k2) hmr
  ·omega
 have γf':∀ id,0*4096+4096<=id->γs m r id=none:=λid hid=>by
  unfold γs;rw[if_neg (by omega),if_neg (by omega)]
 rcases Am hv with⟨h1,h2⟩|⟨v,h1,h2⟩
 ·refine⟨λ_=>none,.nils,.inl ⟨rfl,h2⟩,h.ext,λt ht=>?_,h.nt,λt ht=>?_,λid o b ho=>(by cases ho),γn',γi',γf',λv b e _ hb=>(by cases hb),λv v' b e e' _ _ hb=>(by cases hb),λv id b e _ hb=>(by cases hb),λ_ _=>rfl,λb i hb=>h.Sb b i hb.1,λb i hb=>h.So b i hb.1⟩
  ·show AR _ (if t=o then AV.nils else .undef) (a.tmps.getD t undef)
   by_cases hto:t=o
   ·rw[if_pos hto];subst hto;rw[h1] at hao;simpa only[AR,AC] using hao
   ·rw[if_neg hto];simp only[AR]
  ·show(if t=o then AV.nils else .undef)=_
   rw[if_neg (λh=>by subst h;exact absurd ho (zzc.2 ht))]
 ·refine⟨λi=>if i=5 then β v else none,.own e 5 L,.inr rfl,h.ext,λt ht=>?_,h.nt,λt ht=>?_,λid o b ho=>(by cases ho),γn',γi',γf',λu b e' _ hb=>?_,λu u' b e' e'' _ _ hb hb'=>?_,λu id b e' _ hb hid=>?_,λu hu=>?_,λb i hb=>h.Sb b i hb.1,λb i hb=>h.So b i hb.1⟩
  ·show AR _ (if t=o then AV.own e 5 L else .undef) (a.tmps.getD t undef)
   by_cases hto:t=o
   ·rw[if_pos hto];subst hto;rw[h1] at hao;simp only[AR,AC] at hao ⊢;obtain⟨n0,n1,n2,ad,cap,n3,n4,n5⟩:=hao;have n4':CR w (λb i=>S b i/\b≠m/\b≠r) (.sl L) (.slice ad L.length cap):=by
     obtain⟨ad',cap',b',off',e1,e2,e3,cs,e4,e5⟩:=n4.elems;cases e1;by_cases hL:L=[]
     ·subst hL;exact CR.of_elems (b:=0) (off:=0) (.inl rfl) e3 ⟨[],cS.nil,by simp⟩
     ·have e2:ad=some ⟨b',off',none⟩:=e2.resolve_left hL;have hb':b'≠m/\b'≠r:=by
       rcases n5 h2 with q|⟨b,off,q1,q2,q3⟩
       ·rw[q.1] at e2;cases e2
       ·rw[q1] at e2;cases e2;exact hβ v _ _ h2 q2
      have lf:=mB hce L n2;exact CR.of_elems (.inr e2) e3 ⟨cs,(fO lf).2 ((fO lf).1 e4),λi c hc=>⟨⟨(e5 i c hc).1,hb'⟩,(e5 i c hc).2⟩⟩
    refine⟨n0,n1,n2,ad,cap,n3,n4',λ_=>?_⟩;rcases n5 h2 with q|⟨b,off,q1,q2,q3⟩
    ·exact .inl q
    ·exact .inr ⟨b,off,q1,by simpa using q2,q3⟩
   ·rw[if_neg hto];simp only[AR]
  ·show(if t=o then AV.own e 5 L else .undef)=_
   rw[if_neg (λh=>by subst h;exact absurd ho (zzc.2 ht))]
  ·have hb:(if u=5 then β v else none)=some (b,e'):=hb
   split at hb
   ·obtain⟨q1,q2,q3⟩:=h.βn v b e' h2 hb;exact⟨q1,q2,λi hi hs=>q3 i hi hs.1⟩
   ·cases hb
  ·have hb:(if u=5 then β v else none)=some (b,e'):=hb
   have hb':(if u'=5 then β v else none)=some (b,e''):=hb'
   split at hb<;>split at hb'<;>first|(cases hb;done)|(cases hb';done)|omega
  ·have hb:(if u=5 then β v else none)=some (b,e'):=hb
   split at hb
   ·have:=hβ v b e' h2 hb;rcases g1 id b hid with⟨_,q⟩|⟨_,q⟩
    ·exact this.1 q
    ·exact this.2 q
   ·cases hb
  ·have hu':4096<=u:=by simpa [σL,St.base] using hu
   show(if u=5 then β v else none)=none
   rw[if_neg (by omega)]
def Rp.setB{S:Nat->Nat->Prop}{γ:Nat->Option Nat}{β:Nat->Option (Nat×Nat)}{s:St}{a:Act}{w:World}(h:Rp w0 S γ β s a w){id b:Nat}(ho:s.ob id=none)(hγ:γ id=some b)(hS:∀ o,¬ S b o)(x:Obj) :
  Rp w0 S γ β s a (setBlock w b x):=by
 have hbS:∀ b' o,S b' o->b'≠b:=λb' o hb e=>hS o (e ▸ hb);have hh:∀ b',b'≠b->(setBlock w b x).heap[b']?=w.heap[b']?:=λb' hb'=>by simp only[setBlock];rw[z3c (Ne.symm hb')]
 have hsz:(setBlock w b x).heap.size=w.heap.size:=by simp[setBlock]
 have hle:Cx.le ⟨w,S,γ,β,s.ob,s.dead⟩ ⟨setBlock w b x,S,γ,β,s.ob,s.dead⟩:=by
  refine⟨λb' o hb=>by simp only[World.cell?,hh b' (hbS b' o hb)],λ_ _ hb=>hb,λ_ _ hb=>hb,λi y hy _=>⟨y,hy,λp=>⟨rfl,rfl⟩,λt l e=>⟨l,e,rfl⟩,λ_ _ l e=>⟨l,e⟩⟩,λv hv=>⟨hv,λb' e he=>⟨he,λn hn=>?_⟩⟩⟩
  have hne:b'≠b:=λe'=>h.βγ v id b' e hv he (e' ▸ hγ);have hn':mU w b'=some n:=hn;show mU (setBlock w b x) b'=some n;simp only[mU,bN,hh b' hne] at hn' ⊢;exact hn'
 refine⟨nv h.ext rfl rfl rfl (by rw[hsz];exact zja _) (zja _) (λb' hb'=>hh b' λe=>(h.γn id b hγ).1 (e ▸ hb')),λt ht=>(h.tms t ht).mono hle,h.nt,h.tmu,λi y b' hy hb'=>?_,λi b' hb'=>by rw[hsz];exact h.γn i b' hb',h.γi,h.γf,
  λv b' e hv he=>by rw[hsz];exact h.βn v b' e hv he,h.βi,h.βγ,h.βf,λb' o hb=>by rw[hsz];exact h.Sb b' o hb,h.So⟩
 have hne:b'≠b:=λe'=>by
  have:=h.γi i id b' hb' (e' ▸ hγ);subst this;rw[ho] at hy;cases hy
 exact(h.obs i y b' hy hb').mono hle (hh b' hne) λ_ hh=>hh
end
end Sy
end
noncomputable section
namespace Sy
open Go Go.Proofs Go.Sort Go.Lib
variable{ro:Option Nat}{nn:Nat}
open Go.ChangeMaps (setBlock)
def uu:D->D
 | .st (k::_)=>k
 | x=>x
theorem Eg{c:Cx}{kt vt:Ty}:∀ {l:List D} {es:List MapEntry} {j:Nat},iA c kt vt j l es->es.length=l.length/\∀ (i:Nat) (en:MapEntry),es[i]?=some en->en.born=j+i/\∃ k v,l[i]?=some (.st [k,v])/\wt kt k/\wt vt v/\gj c.w c.S k en.key/\gj c.w c.S v en.val
 | [],[],j,_=>⟨rfl,λi en h=>by simp at h⟩
 | [],_::_,_,h=>h.elim
 | _::_,[],_,h=>h.elim
 | x::l,e::es,j,h=>by
  simp only[iA] at h;obtain⟨⟨h1,k,v,rfl,h2,h3,h4,h5⟩,h6⟩:=h;obtain⟨q1,q2⟩:=Eg h6;refine⟨by simp[q1],λi en hi=>?_⟩
  cases i with
  | zero=>simp at hi;subst hi;exact⟨by simpa using h1,k,v,by simp,h2,h3,h4,h5⟩
  | succ i=>
   simp only[z7a] at hi;obtain⟨r1,r2⟩:=q2 i en hi;exact⟨by omega,by simpa using r2⟩
def Bj{t:Ty}(hc:bL t=true){x:D}(hx:wt t x){w w':World}{S S':Nat->Nat->Prop}{v:Value}(h:gj w S x v):gj w' S' x v:=by
 have lf:=j6 t x hc hx;exact⟨h.1,(fO lf).2 ((fO lf).1 h.2)⟩
theorem y8:∀ (n:Nat) (l:List Nat),l.Nodup->(∀ x∈l,x<n)->l.length<=n
 | 0,l,_,h=>by
  cases l with
  | nil=>simp
  | cons x l=>exact absurd (h x zka) (by omega)
 | n+1,l,hn,h=>by
  have h1:(l.erase n).length<=n:=y8 n (l.erase n) (hn.erase n) λx hx=>by
   have hx':=(hn.mem_erase_iff).1 hx;have:=h x hx'.2;have:=hx'.1;omega
  have h2:=List.length_erase (a:=n) (l:=l);split at h2<;>omega
section
variable{P:Program}{E:Env}{w0:Root}
def kp{a:Act}{o:Oper}{m:Sem Value}{v:Value}{w w':World}(hex:execOp a.eval o=(m >>= λr=>pure (Next.value r)))(hrun:m.run P w=.ok v w'):(execOp a.eval o).run P w=.ok (.value v) w':=by
 rw[hex];simp only[zga,hrun,zea,zma]
def xL{nt o it t:Nat}{X:AV}(h:t≠o):(σL nt o it X).put (some t) .undef=σL nt o it X:=by
 unfold St.put σL;simp only;split
 ·congr 1;funext i;by_cases hi:i=t
  ·subst hi;rw[if_pos rfl,if_neg h]
  ·rw[if_neg hi]
 ·rfl
def jW{a:Act}{t:Nat}{v:Value}(h:t<a.tmps.size):(a.put (some t) v).eval (.tmp t)=v:=by
 simp[Act.eval,Act.put,Array.getD,h]
def tU{a:Act}{d:Option Nat}{v:Value}:(a.put d v).tmps.size=a.tmps.size:=by
 cases d<;>simp[Act.put]
def I0(hE:EnvOk P E){e vt:Ty}(he:bL e=true)(hvt:bL vt=true)(hne:au e=true)(hnv:au vt=true){id23 id24 id25 b b2:Nat}{t72 m0 it T nx ok en o:Nat}{o23 o24 o25:Array Oper}{rest:List Oper}{c26:Code}
  {y1 y2 y3 y4 y5:TypeId} {p1 p2 p3 p4 p5:String} {f1 f2 f3 f4 f5:Array Edge} {TK TV:TypeId}
  (h23:o23.toList=[⟨some t72,.move (.tmp m0),y1,p1,f1,none⟩,⟨some it,.range T (.tmp t72),y2,p2,f2,none⟩])
  (h24:o24.toList=[⟨some nx,.next (.tmp it) false,y3,p3,f3,none⟩,⟨some ok,.extract (.tmp nx) 0,y4,p4,f4,none⟩])
  (h25:o25.toList=⟨some en,.entry (.tmp it),y5,p5,f5,none⟩::rest) (hrest:∀ x∈rest,x.guard=none) (hT:P.underlying T=some (.map TK TV))
  {S:Nat->Nat->Prop} {γ:Nat->Option Nat} {β:Nat->Option (Nat×Nat)} {s:St} {a:Act} {w:World} (h:Rp w0 S γ β s a w) (hdf:a.defers=[])
  (d1:o≠t72) (d2:o≠it) (d3:nx≠o) (d4:ok≠o) (d5:en≠o) (d6:it≠t72) (d7:it≠nx) (d8:it≠ok) (d9:it≠en) (d10:nx≠ok) (n1:t72<s.nt) (n2:it<s.nt) (n3:nx<s.nt) (n4:ok<s.nt) (n5:en<s.nt)
  {idm:Nat} {l:List D} (hm:s.tm m0=.map e vt idm) (hob:s.ob idm=some (.mp e vt l)) (hl:l.length<=1073741824) (hv:dI s e o=some [])
  (hround:∀ X L k v,JU e L X->L.length<1073741824->wt e k->ev E (.region 0 rest.toArray false) .leaf D ((σL s.nt o it X).put (some en) (.d (.tup [e,vt]) (.tup [k,v]))) (λx s'=>match x with
   | .normal=>ev E c26 .leaf D s' (λx s''=>match x with|.normal=>(dI s'' e o).bind λl=>some (.sl l)|_=>none)
   | _=>none)=some (.sl (L++[k])))
  {Q:Exit->Act->World->Prop} (hQ:∀ L S' γ' β' X a' w',JU e L X->L.Perm (l.map uu)->Rp w0 S' γ' β' (σL s.nt o it X) a' w'->a'.defers=[]->Q .normal a' w') :
  (Code.seq (.region id23 o23 false) (.block b (.loop (.seq (.region id24 o24 false) (.seq (.cond (.tmp ok) .skip (.exit b)) (.block b2 (.seq (.region id25 o25 false) c26))))))).wpIn (FW none) nn P Q a w:=by
 have hm0:m0<s.nt:=by
  rcases zna m0 s.nt with k|k
  ·exact k
  ·rw[h.tmu m0 k] at hm;cases hm
 have hmv:=h.tms m0 (by rw[h.nt];exact hm0)
 rw[hm] at hmv;simp only[AR,AC] at hmv;obtain⟨hna,m,hmc,hγm,_,_,_⟩:=hmv;have hmval:=az hna hmc;have hO:=h.obs idm _ m hob hγm;simp only[gL] at hO;obtain⟨_,_,hSm,es,hes,hM⟩:=hO;obtain⟨hesl,hesat⟩:=Eg hM;have hmn:=h.γn idm m hγm;have hborn:∀ x∈es.toList,x.born<l.length:=λx hx=>by
  obtain⟨i,hi,rfl⟩:=zTa hx;have:=(hesat i _ (zca hi)).1;omega
 have hbn:(es.toList.map (·.born)).Nodup:=by
  rw[List.Nodup,zrb];intro i j hi hj hij;simp only[zta] at hi hj;have a1:=(hesat i _ (zca hi)).1;have a2:=(hesat j _ (zca hj)).1;simp only[List.getElem_map,a1,a2];omega
 refine wpIn_seq ?_;refine wpIn_region_list ?_;rw[h23];simp only[wpListIn,Region.wanted,if_true];refine(bg (K:=λv w1=>v=a.tmps.getD m0 undef/\w=w1) (et.value (v:=a.eval (.tmp m0)) (w':=w) rfl ⟨rfl,rfl⟩) ?_);rintro _ _ ⟨rfl,rfl⟩;rw[hmval];have ha1:(a.put (some t72) (.map (some m))).eval (.tmp t72)=.map (some m):=jW (by rw[h.nt];exact n1)
 refine(bg (K:=λv w1=>v=.pointer (some ⟨w.heap.size,0,none⟩)/\w1=w.alloc (.mapIter (some m) l.length #[] l.length)) (et.value (kp (m:=Instr.range T (.map (some m))) ?_ (run_range_map w T TK TV m es l.length hT hes)) ⟨rfl,rfl⟩) ?_)
 ·show(Instr.range T ((a.put (some t72) (.map (some m))).eval (.tmp t72)) >>= λr=>pure (Next.value r))=_;rw[ha1]
 rintro _ _ ⟨rfl,rfl⟩;simp only[Exit.then];refine wpIn_block ?_;obtain⟨r,hr0⟩:∃ r,r=w.heap.size:=⟨_,rfl⟩;rw[<-hr0];have hmr:m≠r:=by have:=hmn.2;omega
 have hgr:w.alloc (.mapIter (some m) l.length #[] l.length)=grown w [.mapIter (some m) l.length #[] l.length] w.drawn:=by
  show({ w with heap:=w.heap.push (.mapIter (some m) l.length #[] l.length) }:World)={ w with heap:=w.heap++[Obj.mapIter (some m) l.length #[] l.length].toArray,drawn:=w.drawn };rw[zEd]
 have h1:Rp w0 S γ β ((s.put (some t72) .undef).put (some it) .undef) ((a.put (some t72) (.map (some m))).put (some it) (.pointer (some ⟨r,0,none⟩))) (w.alloc (.mapIter (some m) l.length #[] l.length)):=by
  rw[hgr];exact(((h.put (v:=.undef) (val:=.map (some m)) (by simp[AR]) (some t72)).put (v:=.undef) (val:=.pointer (some ⟨r,0,none⟩)) (by simp[AR]) (some it)).grow (os:=[.mapIter (some m) l.length #[] l.length]) (d:=w.drawn) (zja _) (S':=S) (λ_ _ hb=>hb) (λ_ _ hb=>.inl hb)).1
 have hv1:dI ((s.put (some t72) .undef).put (some it) .undef) e o=some []:=by
  have q1:((s.put (some t72) .undef).put (some it) .undef).tm o=s.tm o:=by rw[tH (λe=>d2 (by cases e;rfl)),tH (λe=>d1 (by cases e;rfl))]
  have q2:((s.put (some t72) .undef).put (some it) .undef).dead=s.dead:=by
   rw[(St.put_fields _ _ _).2.2.1,(St.put_fields _ _ _).2.2.1]
  unfold dI at hv ⊢;rw[q1,q2];exact hv
 have hnt1:((s.put (some t72) .undef).put (some it) .undef).nt=s.nt:=by rw[(St.put_fields _ _ _).2.2.2.1,(St.put_fields _ _ _).2.2.2.1]
 have hsz1:(w.alloc (.mapIter (some m) l.length #[] l.length)).heap.size=w.heap.size+1:=by rw[hgr];simp[grown]
 have hrn:¬ w0.Old r:=λho=>by have:=ho.1;have:=h.ext.sz;omega
 have hdead1:((s.put (some t72) .undef).put (some it) .undef).dead=s.dead:=by rw[(St.put_fields _ _ _).2.2.1,(St.put_fields _ _ _).2.2.1]
 obtain⟨β1,X1,hX1,R1⟩:=h1.std (m:=m) (r:=r) ⟨hmn.1,by rw[hsz1];omega⟩ ⟨hrn,by rw[hsz1];omega⟩ hmr (λv bb ee hd hb=>by
  rw[hdead1] at hd;exact⟨λeq=>h.βγ v idm bb ee hd hb (eq ▸ hγm),λeq=>by have:=(h.βn v bb ee hd hb).2.1;omega⟩) he hv1 it
 rw[hnt1] at R1;have hes1:(w.alloc (.mapIter (some m) l.length #[] l.length)).heap[m]?=some (.map es l.length):=by
  rw[hgr,cJ hmn.2];exact hes
 have hit1:(w.alloc (.mapIter (some m) l.length #[] l.length)).heap[r]?=some (.mapIter (some m) l.length #[] l.length):=by rw[hr0];exact heap_alloc_new w _
 have hp1:((a.put (some t72) (.map (some m))).put (some it) (.pointer (some ⟨r,0,none⟩))).tmps.getD it undef=.pointer (some ⟨r,0,none⟩):=by
  exact jW (by rw[tU,h.nt];exact n2)
 refine wc (m:=l.length) (λn a w=>∃ (S:Nat->Nat->Prop) (β:Nat->Option (Nat×Nat)) (X:AV) (L:List D) (seen:Array Nat) (c0:Nat),JU e L X/\Rp w0 (λb i=>S b i/\b≠m/\b≠r) (γs m r) β (σL s.nt o it X) a w/\a.defers=[]/\a.tmps.getD it undef=.pointer (some ⟨r,0,none⟩) ∧
  w.heap[m]?=some (.map es l.length)/\w.heap[r]?=some (.mapIter (some m) l.length seen c0)/\l.length<=c0/\L=seen.toList.map (λj=>uu (l.getD j default))/\seen.toList.Nodup/\(∀ j∈seen.toList,j<l.length)/\n+seen.size=l.length)
  ⟨S,β1,X1,[],#[],l.length,hX1,R1,hdf,hp1,hes1,hit1,zja _,rfl,by simp,by simp,by simp⟩ ?_
 clear R1 h1 hv1 hp1 hes1 hit1 hX1 hgr;rintro n a w ⟨S,β,X,L,seen,c0,hX,R,hda,hp,hes,hit,hc0,hL,hnd,hlt,hn⟩;have hsz:=R.nt;refine wpIn_seq (wpIn_region_list ?_);rw[h24];simp only[wpListIn,Region.wanted,if_true];have hev:a.eval (.tmp it)=.pointer (some ⟨r,0,none⟩):=hp;rcases run_next_at w y3 r m l.length c0 seen es l.length hit hes hborn hc0 with⟨hz,hrun⟩|⟨e0,he0,w1,hw1,hrun⟩
 ·
  refine(bg (K:=λv w1=>v=.tuple #[.bool false]/\w=w1) (et.value (kp (m:=Instr.next (.pointer (some ⟨r,0,none⟩)) false y3) ?_ hrun) ⟨rfl,rfl⟩) ?_)
  ·show(Instr.next (a.eval (.tmp it)) false y3 >>= λr=>pure (Next.value r))=_
   rw[hev]
  rintro _ _ ⟨rfl,rfl⟩;have ex:(a.put (some nx) (.tuple #[.bool false])).eval (.tmp nx)=.tuple #[.bool false]:=jW (by rw[hsz];exact n3)
  refine(bg (K:=λv w1=>v=.bool false/\w=w1) (et.value (kp (m:=Instr.extract (.tuple #[.bool false]) 0) ?_ (v:=.bool false) (w':=w) rfl) ⟨rfl,rfl⟩) ?_)
  ·show(Instr.extract ((a.put (some nx) (.tuple #[.bool false])).eval (.tmp nx)) 0 >>= λr=>pure (Next.value r))=_;rw[ex]
  rintro _ _ ⟨rfl,rfl⟩;simp only[Exit.then];refine wpIn_seq (wpIn_cond_false (jW (by rw[tU,hsz];exact n4)) (wpIn_exit ?_))
  simp only[Exit.then,Exit.inBlock,if_true];have R2:=(R.put (v:=.undef) (val:=.tuple #[.bool false]) (by simp[AR]) (some nx)).put (v:=.undef) (val:=.bool false) (by simp[AR]) (some ok)
  rw[xL d3,xL d4] at R2;refine hQ L _ _ _ X _ _ hX ?_ R2 hda;have hall:∀ j,j<l.length->j∈seen.toList:=λj hj=>by
   have hj':j<es.toList.length:=by omega
   have e1:=(hesat j _ (zca hj')).1;have hno:es.toList[j] ∉ (leftOf es seen).toList:=λhm=>by
    have:=List.length_pos_of_mem hm;simp at this;omega
   simp only[leftOf,Array.toList_filter,zpc,zra,true_and] at hno;simp at hno;simp only[zFd,z9a] at e1;rw[e1] at hno;simpa using hno
  have hperm:seen.toList.Perm (List.range l.length):=(List.perm_ext_iff_of_nodup hnd List.nodup_range).2 λj=>⟨λhj=>zJa.2 (hlt j hj),λhj=>hall j (zJa.1 hj)⟩;rw[hL];refine(hperm.map _).trans ?_;have:(List.range l.length).map (λj=>uu (l.getD j default))=l.map uu:=by
   apply zcc;intro j;rw[zcb,zcb];rcases zna j l.length with k|k
   ·simp[k,List.getD]
   ·rw[z3a (by simpa using k),z3a k];rfl
  rw[this]
 ·
  have hw1m:w1.heap[m]?=some (.map es l.length):=by rcases hw1 with rfl|rfl<;>exact hes
  have hw1s:w1.heap.size=w.heap.size:=by rcases hw1 with rfl|rfl<;>rfl
  have hrs:r<w1.heap.size:=by rw[hw1s];exact(zfa.1 hit).1
  have Rw:Rp w0 (λb i=>S b i/\b≠m/\b≠r) (γs m r) β (σL s.nt o it X) a w1:=by
   rcases hw1 with rfl|rfl
   ·exact R
   ·have:=(R.grow (os:=[]) (d:=w.drawn+1) (ztc _) (S':=λb i=>S b i/\b≠m/\b≠r) (λ_ _ hb=>hb) (λ_ _ hb=>.inl hb)).1;have e2:grown w [] (w.drawn+1)=w.drew:=by
     unfold grown;rw[show w.heap++([]:List Obj).toArray=w.heap by simp]
     rfl
    rw[e2] at this;exact this
  obtain⟨w2,hw2⟩:∃ w2,w2=setBlock w1 r (.mapIter (some m) l.length (seen.push e0.born) l.length):=⟨_,rfl⟩;rw[<-hw2] at hrun;have R2:Rp w0 (λb i=>S b i/\b≠m/\b≠r) (γs m r) β (σL s.nt o it X) a w2:=by
   rw[hw2];exact Rw.setB (id:=1) rfl rfl (λi hi=>hi.2.2 rfl) _
  have hes2:w2.heap[m]?=some (.map es l.length):=by
   rw[hw2];simp only[setBlock];rw[z3c (Ne.symm hmr)];exact hw1m
  have hit2:w2.heap[r]?=some (.mapIter (some m) l.length (seen.push e0.born) l.length):=by
   rw[hw2];simp only[setBlock];rw[Array.getElem?_setIfInBounds_self_of_lt hrs]
  have he0':e0∈es.toList/\e0.born ∉ seen.toList:=by
   simp only[leftOf,Array.toList_filter,zpc] at he0;exact⟨he0.1,by have:=he0.2;simpa using this⟩
  obtain⟨j,hj,hje⟩:=zTa he0'.1;obtain⟨q1,k,v,q2,q3,q4,q5,q6⟩:=hesat j e0 (by rw[zca hj,hje])
  rw[z9a] at q1;have hjl:j<l.length:=by omega
  have hgetj:l.getD j default=.st [k,v]:=by simp[List.getD,q2]
  refine(bg (K:=λv w1=>v=.tuple #[.bool true,e0.key,e0.val]/\w2=w1) (et.value (kp (m:=Instr.next (.pointer (some ⟨r,0,none⟩)) false y3) ?_ hrun) ⟨rfl,rfl⟩) ?_)
  ·show(Instr.next (a.eval (.tmp it)) false y3 >>= λr=>pure (Next.value r))=_
   rw[hev]
  rintro _ _ ⟨rfl,rfl⟩;have ex:(a.put (some nx) (.tuple #[.bool true,e0.key,e0.val])).eval (.tmp nx)=.tuple #[.bool true,e0.key,e0.val]:=jW (by rw[hsz];exact n3)
  refine(bg (K:=λv w1=>v=.bool true/\w2=w1) (et.value (kp (m:=Instr.extract (.tuple #[.bool true,e0.key,e0.val]) 0) ?_ (v:=.bool true) (w':=w2) rfl) ⟨rfl,rfl⟩) ?_)
  ·show(Instr.extract ((a.put (some nx) (.tuple #[.bool true,e0.key,e0.val])).eval (.tmp nx)) 0 >>= λr=>pure (Next.value r))=_;rw[ex]
  rintro _ _ ⟨rfl,rfl⟩;simp only[Exit.then];refine wpIn_seq (wpIn_cond_true (jW (by rw[tU,hsz];exact n4)) (wpIn_skip ?_))
  simp only[Exit.then];refine wpIn_block (wpIn_seq (wpIn_region_list ?_));have R3:=(R2.put (v:=.undef) (val:=.tuple #[.bool true,e0.key,e0.val]) (by simp[AR]) (some nx)).put (v:=.undef) (val:=.bool true) (by simp[AR]) (some ok)
  rw[xL d3,xL d4] at R3;have hp3:((a.put (some nx) (.tuple #[.bool true,e0.key,e0.val])).put (some ok) (.bool true)).tmps.getD it undef=.pointer (some ⟨r,0,none⟩):=by
   rw[bQ (λe=>d8 (by cases e;rfl)),bQ (λe=>d7 (by cases e;rfl))];exact hp
  have hda3:((a.put (some nx) (.tuple #[.bool true,e0.key,e0.val])).put (some ok) (.bool true)).defers=[]:=hda;generalize ((a.put (some nx) (.tuple #[.bool true,e0.key,e0.val])).put (some ok) (.bool true))=a3 at R3 hp3 hda3 ⊢;rw[h25];simp only[wpListIn,Region.wanted,if_true];refine(bg (K:=λv w1=>v=.tuple #[e0.key,e0.val]/\w2=w1) (et.value (kp (m:=Instr.entry (.pointer (some ⟨r,0,none⟩))) ?_ (run_entry_at w2 r m l.length seen es l.length e0 hit2 hes2 he0'.1 hbn)) ⟨rfl,rfl⟩) ?_)
  ·show(Instr.entry (a3.eval (.tmp it)) >>= λr=>pure (Next.value r))=_;rw[show a3.eval (.tmp it)=.pointer (some ⟨r,0,none⟩) from hp3]
  rintro _ _ ⟨rfl,rfl⟩;have R4:=R3.put (v:=.d (.tup [e,vt]) (.tup [k,v])) (val:=.tuple #[e0.key,e0.val]) (by
   simp only[AR];refine .inr ⟨[e,vt],rfl,by simp[bh,hne,hnv],⟨[k,v],rfl,k,[v],rfl,q3,v,[],rfl,q4,rfl⟩,[e0.key,e0.val],rfl,rfl,λi d u hd hu=>?_⟩
   cases i with
   | zero=>simp at hd hu;subst hd;subst hu;exact Bj he q3 q5
   | succ i=>cases i with
    | zero=>simp at hd hu;subst hd;subst hu;exact Bj hvt q4 q6
    | succ i=>simp at hd) (some en)
  have hp4:(a3.put (some en) (.tuple #[e0.key,e0.val])).tmps.getD it undef=.pointer (some ⟨r,0,none⟩):=by
   rw[bQ (λe=>d9 (by cases e;rfl))];exact hp3
  have hda4:(a3.put (some en) (.tuple #[e0.key,e0.val])).defers=[]:=hda3;generalize (a3.put (some en) (.tuple #[e0.key,e0.val]))=a4 at R4 hp4 hda4 ⊢;have hbs:(e0.born::seen.toList).length<=l.length:=y8 _ _ (List.nodup_cons.2 ⟨he0'.2,hnd⟩) (λx hx=>by
   rcases zCa.1 hx with rfl|hx
   ·omega
   ·exact hlt x hx)
  have hLl:L.length=seen.size:=by rw[hL];simp
  simp only[zBa,zIb] at hbs;have lkS4:((σL s.nt o it X).put (some en) (.d (.tup [e,vt]) (.tup [k,v]))).lkS=[it]:=(St.put_fields _ _ _).2.2.2.2.1;have lkO4:((σL s.nt o it X).put (some en) (.d (.tup [e,vt]) (.tup [k,v]))).lkO=[0,1,4095]:=(St.put_fields _ _ _).2.2.2.2.2.1;refine uc (ops:=rest.toArray) rest _ _ hrest ?_;have key:=IZ (ro:=none) (nn:=nn) hE (Q:=Exit.then (c26.wpIn (FW none) nn P (Exit.inBlock b2 (Exit.then (λa' w'=>∃ m_1,m_1<n/\∃ (S:Nat->Nat->Prop) (β:Nat->Option (Nat×Nat)) (X:AV) (L:List D) (seen:Array Nat) (c0:Nat),JU e L X/\Rp w0 (λb i=>S b i/\b≠m/\b≠r) (γs m r) β (σL s.nt o it X) a' w'/\a'.defers=[]/\a'.tmps.getD it undef=.pointer (some ⟨r,0,none⟩) ∧
   w'.heap[m]?=some (.map es l.length)/\w'.heap[r]?=some (.mapIter (some m) l.length seen c0)/\l.length<=c0/\L=seen.toList.map (λj=>uu (l.getD j default))/\seen.toList.Nodup/\(∀ j∈seen.toList,j<l.length)/\m_1+seen.size=l.length) (Exit.inBlock b Q)))) (Exit.inBlock b2 (Exit.then (λa' w'=>∃ m_1,m_1<n/\∃ (S:Nat->Nat->Prop) (β:Nat->Option (Nat×Nat)) (X:AV) (L:List D) (seen:Array Nat) (c0:Nat),JU e L X/\Rp w0 (λb i=>S b i/\b≠m/\b≠r) (γs m r) β (σL s.nt o it X) a' w'/\a'.defers=[]/\a'.tmps.getD it undef=.pointer (some ⟨r,0,none⟩) ∧
   w'.heap[m]?=some (.map es l.length)/\w'.heap[r]?=some (.mapIter (some m) l.length seen c0)/\l.length<=c0/\L=seen.toList.map (λj=>uu (l.getD j default))/\seen.toList.Nodup/\(∀ j∈seen.toList,j<l.length)/\m_1+seen.size=l.length) (Exit.inBlock b Q)))) R4 (hround X L k v hX (by omega) q3) ?_
  ·simpa using key
  intro x s' S' γ' β' a' w' g1 g2 g3 g4;cases x with
  | ret=>cases g4
  | exit i=>cases g4
  | normal=>
   show c26.wpIn (FW none) nn P _ a' w';refine BJ hE c26 .leaf D _ _ g1 g4 λx2 s2 S2 γ2 β2 a5 w5 k1 k2 k3 k4=>?_;cases x2 with
   | ret=>cases k4
   | exit i=>cases k4
   | normal=>
    have hfr:dI s2 e o=some (L++[k]):=by
     obtain⟨l2,u1,u2⟩:=bind_some_inv k4;simp only[zda,D.sl.injEq] at u2;rw[u1,u2]
    have F:=g2.tr k2 g3;obtain⟨z1,z2⟩:=F.objs 0 (by rw[lkO4];simp) m rfl
    obtain⟨z3,z4⟩:=F.objs 1 (by rw[lkO4];simp) r rfl
    have z5:=F.slots it (by rw[lkS4];simp)
    obtain⟨β6,X6,hX6,R6⟩:=k1.std (m:=m) (r:=r) (k1.γn 0 m z1) (k1.γn 1 r z3) hmr (λu bb ee hd hb=>⟨λeq=>k1.βγ u 0 bb ee hd hb (eq ▸ z1),λeq=>k1.βγ u 1 bb ee hd hb (eq ▸ z3)⟩) he hfr it;have hnt6:s2.nt=s.nt:=by
     rw[k3.nt,g3.nt,(St.put_fields _ _ _).2.2.2.1];rfl
    rw[hnt6] at R6;show ∃ m_1,m_1<n/\_;refine⟨n-1,by omega,S2,β6,X6,L++[k],seen.push e0.born,l.length,hX6,R6,F.df0 (by rw[lkO4];simp) hda4,z5.trans hp4,z2.eq hes2 (λ_ h=>by cases h),z4.eq hit2 (λ_ h=>by cases h),zja _,?_,?_,?_,?_⟩
    ·rw[zud,zPb,<-hL,z6a,List.map_nil,q1,hgetj];rfl
    ·rw[zud,List.nodup_append];refine⟨hnd,by simp,λx hx y hy=>?_⟩
     rw[zIa.1 hy];exact λeq=>he0'.2 (eq ▸ hx)
    ·intro x hx;rw[zud] at hx;rcases zDa.1 hx with hx|hx
     ·exact hlt x hx
     ·rw[zIa.1 hx];omega
    ·simp;omega
end
end Sy
end
noncomputable section
namespace Sy
open Go Go.Proofs Go.Sort Go.Lib
section
variable{P:Program}{E:Env}
def tM(w:World)(S:Nat->Nat->Prop):Root:=⟨w,S,λ_=>False⟩
def LN(P:Program)(fn:Func)(w:World)(S:Nat->Nat->Prop)(rty:Ty)(y:D):Exit->Act->World->Prop:=
 bodyPost P fn λe w'=>∃ v,e=.returned v/\(∃ os d,w.drawn<=d/\w'=grown w os d)/\wt rty y/\DR w' (λb o=>S b o\/(w.heap.size<=b/\b<w'.heap.size)) y v
def KU(hE:EnvOk P E){fn:Func}{rty:Ty}{y:D}{w:World}{S:Nat->Nat->Prop}(hr:iW fn.results.size rty=true){d:Code}{ann:Ann}{S':Nat->Nat->Prop}{γ':Nat->Option Nat}{β':Nat->Option (Nat×Nat)}{s':St}{a':Act}{w':World}
  (h:Rp (tM w S) S' γ' β' s' a' w') (hdf:a'.defers=[]) (h4:4095∈s'.lkO) (hev:(ev E d ann D s' λe s=>match e with|.exit _=>none|_=>results E s rty fn.results.toList)=some y):d.wpIn (FW none) 0 P (LN P fn w S rty y) a' w':=by
 refine BJ hE d ann D _ y h hev λe s' S' γ' β' a' w' n1 n2 n3 n4=>?_;have hres:results E s' rty fn.results.toList=some y->(∃ v,(Go.results fn a'.tmps).run P w'=.ok v w'/\∃ v',Ending.returned v=.returned v'/\(∃ os d,w.drawn<=d/\w'=grown w os d)/\wt rty y/\DR w' (λb o=>S b o\/(w.heap.size<=b/\b<w'.heap.size)) y v'):=λhq=>by
  obtain⟨v,k1,k2,k3⟩:=kL hE n1 hr hq;refine⟨v,k1,v,rfl,kC n1.ext (λ_ hf=>hf),k2,k3.mono (λ_ _ _=>rfl) λb o hb=>?_⟩;rcases zna b w.heap.size with hlt|hge
  ·exact .inl (n1.So b o hb ⟨hlt,λhf=>hf⟩)
  ·exact .inr ⟨hge,n1.Sb b o hb⟩
 cases e with
 | normal=>exact⟨n2.df0 h4 hdf,hres n4⟩
 | ret=>exact⟨n2.df0 h4 hdf,hres n4⟩
 | exit i=>cases n4
def Ae(hE:EnvOk P E){f:FuncId}{fn:Func}{ann:AnnT}{ptys:List Ty}{rty:Ty}{xs:List D}{y:D}{K:St->Option D}(hf:P.funcs[f]?=some fn)(hk:(decide (ptys.length<=fn.ntmps)&&iW fn.results.size rty&&bh ptys)=true)
  (h:KO E K fn ann ptys xs=some y) (hK:∀ c,fn.body=some c->∀ (w:World) (S S':Nat->Nat->Prop) γ' β' s' a' w',Rp (tM w S) S' γ' β' s' a' w'->a'.defers=[]->K s'=some y->(vN c ann).wpIn (FW none) 0 P (LN P fn w S rty y) a' w'):Me P ptys rty f xs y:=by
 intro w S vs hS hwt hlen hvs;simp only[zaa,decide_eq_true_eq] at hk;obtain⟨⟨hsz,hr⟩,hn⟩:=hk;unfold KO at h;split at h<;>first|(cases h;done)|skip
 rename_i c hb;have hxl:xs.length=ptys.length:=kU hwt;have hntm:(vs.toArray++Array.replicate (fn.ntmps-vs.toArray.size) undef).size=fn.ntmps:=by
  simp;omega
 refine wp hf hb (KS (w0:=tM w S) hE c ann (S:=S) (γ:=λ_=>none) (β:=λ_=>none) (s:=s8 fn ptys xs) ?_ rfl (by simp[s8]) h λs' S' γ' β' a' w' n1 nd n2=>hK c hb w S S' γ' β' s' a' w' n1 nd n2)
 refine⟨⟨rfl,rfl,rfl,zja _,zja _,λ_ _=>rfl⟩,λt ht=>?_,hntm,λt ht=>?_,λid o b ho=>(by cases ho),λid b hb=>(by cases hb),λid id' b hb=>(by cases hb),λ_ _=>rfl,λv b e _ hb=>(by cases hb),λv v' b e e' _ _ hb=>(by cases hb),λv id b e _ hb=>(by cases hb),λ_ _=>rfl,hS,λb o hb _=>hb⟩
 ·simp only[s8,lK];split
  ·rename_i ty x e1 e2;have hlt:=(zla.1 e2).1;have hlt':t<vs.length:=by omega
   have hv:(vs.toArray++Array.replicate (fn.ntmps-vs.toArray.size) undef).getD t undef=vs[t]:=by
    simp[Array.getD,zcd,hlt'];omega
   show AR _ _ ((vs.toArray++Array.replicate (fn.ntmps-vs.toArray.size) undef).getD t undef);rw[hv];obtain⟨x',hx',hw'⟩:=ig hwt e1;rw[e2] at hx';cases hx';exact dX (cb hn e1) hw' (hvs t x _ e2 (zca hlt'))
  ·simp only[AR]
 ·have ht':fn.ntmps<=t:=ht;simp only[s8,lK];rw[z3a (by omega)]
def Jh(nt x:Nat)(e:Ty)(l:List D):St:={ tm:=λi=>if i=x then .d (.sl e) (.sl l) else .undef,ob:=λ_=>none,fresh:=0,dead:=[],nt:=nt,lkS:=[],lkO:=[4095] }
def Rp.reset{w0:Root}{S:Nat->Nat->Prop}{s:St}{x:Nat}{e:Ty}{l:List D}{a:Act}{w:World}(h:Rp w0 S (λ_=>none) (λ_=>none) (Lm s x e l) a w){nt:Nat}(hnt:s.nt=nt):Rp w0 S (λ_=>none) (λ_=>none) (Jh nt x e l) a w:=by
 subst hnt;exact⟨h.ext,h.tms,h.nt,h.tmu,λid o b ho=>(by cases ho),h.γn,h.γi,λ_ _=>rfl,h.βn,h.βi,h.βγ,λ_ _=>rfl,h.Sb,h.So⟩
def J0(E:Env)(nt x g:Nat)(e:Ty)(s:St):Option D:=(dI s e x).bind λl=>if s.nt=nt then(kj E g l).bind λl'=>some (.sl l') else none
def DN(hE:EnvOk P E){f0:Nat}{e:Ty}(hf:SortOk P f0 e){g:Nat}(hsig:E.sig g=some ([e,e],.int .i64)/\E.free g=0){fn:Func}{rty:Ty}{y:D}{w:World}{S:Nat->Nat->Prop}(hr:iW fn.results.size rty=true)
  {id x t d2 nt:Nat} {ops:Array Oper} {d:Code} {ann:Ann} {ty1 ty2:TypeId} {p1 p2:String} {af1 af2:Array Edge} {args:Array Operand} {ats:Array TypeId}
  (hops:ops.toList=[⟨some t,.move (.tmp x),ty1,p1,af1,none⟩,⟨some d2,.call ⟨.value (.func f0),args,ats⟩,ty2,p2,af2,none⟩]) (hargs:args=#[.tmp t,.func g]) (hd:(decide (x≠t)&&decide (x≠d2)&&decide (t<nt))=true)
  (hev:∀ l',(ev E d ann D (Jh nt x e l') λe s=>match e with|.exit _=>none|_=>results E s rty fn.results.toList)=some (.sl l'))
  {S':Nat->Nat->Prop} {γ':Nat->Option Nat} {β':Nat->Option (Nat×Nat)} {s':St} {a':Act} {w':World} (h:Rp (tM w S) S' γ' β' s' a' w') (hdf:a'.defers=[]) (hK:J0 E nt x g e s'=some y):(Code.seq (.region id ops false) d).wpIn (FW none) 0 P (LN P fn w S rty y) a' w':=by
 simp only[zaa,decide_eq_true_eq] at hd;obtain⟨⟨hd1,hd2⟩,hd3⟩:=hd;obtain⟨l,h1,h2⟩:=bind_some_inv hK;split at h2<;>first|(cases h2;done)|skip
 rename_i hnt;obtain⟨l',h3,h4⟩:=bind_some_inv h2;cases h4;refine wpIn_seq (Jp hE hf hsig hops hargs h hdf hd1 hd2 (by rw[hnt];exact hd3) h1 h3 λa2 w2 S2 hR hd2'=>?_)
 exact KU hE hr (hR.reset hnt) hd2' (by simp[Jh]) (hev l')
theorem qz{lt:D->D->Bool}{x:D}:∀ {l:List D},(∀ a∈x::l,∀ b∈x::l,∀ c∈x::l,lt a b=true->lt b c=true->lt a c=true)->(∀ y∈l,lt x y=true\/lt y x=true)->l.Pairwise (λa b=>lt a b=true)->(Aq lt x l).Pairwise (λa b=>lt a b=true)
 | [],_,_,_=>by simp[Aq]
 | y::l,htr,hto,hp=>by
  obtain⟨p1,p2⟩:=zQa.1 hp;simp only[Aq];split
  ·rename_i hxy;refine zQa.2 ⟨λz hz=>?_,hp⟩;rcases zCa.1 hz with rfl|hz
   ·exact hxy
   ·exact htr x (by simp) y (by simp) z (by simp[hz]) hxy (p1 z hz)
  ·rename_i hxy;have hyx:lt y x=true:=(hto y zka).resolve_left hxy;refine zQa.2 ⟨λz hz=>?_,qz (λa ha b hb c hc=>?_) (λz hz=>hto z (zha _ hz)) p2⟩
   ·rcases zCa.1 ((pO lt x l).subset hz) with rfl|hz
    ·exact hyx
    ·exact p1 z hz
   ·have up:∀ q,q∈x::l->q∈x::y::l:=λq hq=>by
     rcases zCa.1 hq with rfl|hq
     ·simp
     ·simp[hq]
    exact htr a (up a ha) b (up b hb) c (up c hc)
theorem oP{lt:D->D->Bool}:∀ {l:List D},(∀ a∈l,∀ b∈l,∀ c∈l,lt a b=true->lt b c=true->lt a c=true)->l.Pairwise (λa b=>lt a b=true\/lt b a=true)->(lh lt l).Pairwise (λa b=>lt a b=true)
 | [],_,_=>by simp[lh]
 | x::l,htr,hto=>by
  obtain⟨p1,p2⟩:=zQa.1 hto;have hs:∀ q,q∈lh lt l->q∈l:=λq hq=>(gD lt l).subset hq;have up:∀ q,q∈x::lh lt l->q∈x::l:=λq hq=>by
   rcases zCa.1 hq with rfl|hq
   ·simp
   ·simp[hs q hq]
  exact qz (λa ha b hb c hc=>htr a (up a ha) b (up b hb) c (up c hc)) (λy hy=>p1 y (hs y hy)) (oP (λa ha b hb c hc=>htr a (zha _ ha) b (zha _ hb) c (zha _ hc)) p2)
def zz{g:Nat}{l l':List D}(hc:ul E g l'=true)(hp:l.Perm l'):kj E g l=some l':=by
 obtain⟨h1,h2⟩:=jU hc;have ix:∀ x∈l',∃ i,l'[i]?=some x:=λx hx=>by
  obtain⟨i,k1,k2⟩:=zTa hx;exact⟨i,by rw[zca k1,k2]⟩
 have htr:∀ a∈l,∀ b∈l,∀ c∈l,qF E g a b=true->qF E g b c=true->qF E g a c=true:=λa ha b hb c hc' k1 k2=>by
  obtain⟨i,hi⟩:=ix a (hp.subset ha);obtain⟨j,hj⟩:=ix b (hp.subset hb);obtain⟨k,hk⟩:=ix c (hp.subset hc');have:=(eQ hc hi hj).1.1 k1;have:=(eQ hc hj hk).1.1 k2;exact(eQ hc hi hk).1.2 (by omega)
 have hnd:l.Nodup:=hp.symm.nodup (uN hc);have hto:l.Pairwise (λa b=>qF E g a b=true\/qF E g b a=true):=by
  refine zWc (λ{a b} ha hb hab=>?_) hnd;obtain⟨i,hi⟩:=ix a (hp.subset ha);obtain⟨j,hj⟩:=ix b (hp.subset hb);rcases zpd i j with k|k|k
  ·exact .inl ((eQ hc hi hj).1.2 k)
  ·subst k;rw[hi] at hj;cases hj;exact absurd rfl hab
  ·exact .inr ((eQ hc hj hi).1.2 k)
 have hs:=oP htr hto;have hsp:(lh (qF E g) l).Perm l':=(gD _ l).trans hp;have:lh (qF E g) l=l':=by
  have key:∀ {a b:List D},a.Pairwise (λx y=>qF E g x y=true)->b.Pairwise (λx y=>qF E g x y=true)->a.Perm b->(∀ x∈a,x∈l')->a=b:=by
   intro a
   induction a with
   | nil=>intro b _ _ hp _;exact hp.symm.eq_nil.symm ▸ rfl
   | cons x a ih=>
    intro b ha hb hp hm;cases b with
    | nil=>exact absurd hp.eq_nil (by simp)
    | cons y b=>
     obtain⟨a1,a2⟩:=zQa.1 ha;obtain⟨b1,b2⟩:=zQa.1 hb;have e:x=y:=by
      rcases zCa.1 (hp.subset zka) with e|m1
      ·exact e
      ·rcases zCa.1 (hp.symm.subset (zka (a:=y))) with e|m2
       ·exact e.symm
       ·exfalso;obtain⟨i,hi⟩:=ix x (hm x zka);obtain⟨j,hj⟩:=ix y (hm y (zha _ m2));have:=(eQ hc hi hj).1.1 (a1 y m2);have:=(eQ hc hj hi).1.1 (b1 x m1);omega
     subst e;rw[ih a2 b2 ((List.perm_cons x).1 hp) (λz hz=>hm z (zha _ hz))]
  exact key hs (h1.imp λh=>h.1) hsp λx hx=>hsp.subset hx
 unfold kj;rw[this,if_pos hc]
def A4{g:Nat}{l l2 l':List D}(h:kj E g l=some l')(hp:l2.Perm l):kj E g l2=some l':=by
 have hsd:ul E g l'=true/\l'=lh (qF E g) l:=by
  unfold kj at h;split at h
  ·rename_i hh;cases h;exact⟨hh,rfl⟩
  ·cases h
 exact zz hsd.1 (hp.trans (by rw[hsd.2];exact(gD _ l).symm))
end
end Sy
end
noncomputable section
namespace Sy
open Go Go.Proofs Go.Sort Go.Lib
section
variable{P:Program}{E:Env}
def xo(E:Env)(nt m0 o g:Nat)(e vt:Ty)(s:St):Option D:=
 match s.tm m0 with
 | .map kt vt' id=>if kt.beq e&&vt'.beq vt then(match s.ob id with
   | some (.mp kt2 vt2 l)=>if kt2.beq e&&vt2.beq vt&&decide (l.length<=1073741824) then(match dI s e o with
     | some []=>if s.nt=nt then(kj E g (l.map uu)).bind λl'=>some (.sl l') else none
     | _=>none) else none
   | _=>none) else none
 | _=>none
def AW(hE:EnvOk P E){e vt:Ty}(he:bL e=true)(hvt:bL vt=true)(hne:au e=true)(hnv:au vt=true){fn:Func}{rty:Ty}{y:D}{w:World}{S:Nat->Nat->Prop}(hr:iW fn.results.size rty=true)
  {id23 id24 id25 b b2:Nat} {t72 m0 it T nx ok en o nt:Nat} {o23 o24 o25:Array Oper} {rest:List Oper} {c26:Code}
  {y1 y2 y3 y4 y5:TypeId} {p1 p2 p3 p4 p5:String} {f1 f2 f3 f4 f5:Array Edge} {TK TV:TypeId}
  (h23:o23.toList=[⟨some t72,.move (.tmp m0),y1,p1,f1,none⟩,⟨some it,.range T (.tmp t72),y2,p2,f2,none⟩])
  (h24:o24.toList=[⟨some nx,.next (.tmp it) false,y3,p3,f3,none⟩,⟨some ok,.extract (.tmp nx) 0,y4,p4,f4,none⟩])
  (h25:o25.toList=⟨some en,.entry (.tmp it),y5,p5,f5,none⟩::rest) (hrest:(rest.all λx=>x.guard.isNone)=true) (hT:P.underlying T=some (.map TK TV))
  (hd:(decide (o≠t72)&&decide (o≠it)&&decide (nx≠o)&&decide (ok≠o)&&decide (en≠o)&&decide (it≠t72)&&decide (it≠nx)&&decide (it≠ok)&&decide (it≠en)&&decide (nx≠ok)&&decide (t72<nt)&&decide (it<nt)&&decide (nx<nt)&&decide (ok<nt)&&decide (en<nt))=true)
  (hround:∀ X L k v,JU e L X->L.length<1073741824->wt e k->ev E (.region 0 rest.toArray false) .leaf D ((σL nt o it X).put (some en) (.d (.tup [e,vt]) (.tup [k,v]))) (λx s'=>match x with
   | .normal=>ev E c26 .leaf D s' (λx s''=>match x with|.normal=>(dI s'' e o).bind λl=>some (.sl l)|_=>none)
   | _=>none)=some (.sl (L++[k])))
  {f0 g:Nat} (hf:SortOk P f0 e) (hsig:E.sig g=some ([e,e],.int .i64)/\E.free g=0) {id t d2:Nat} {ops:Array Oper} {d:Code} {ann:Ann} {ty1 ty2:TypeId} {q1 q2:String} {af1 af2:Array Edge} {args:Array Operand} {ats:Array TypeId}
  (hops:ops.toList=[⟨some t,.move (.tmp o),ty1,q1,af1,none⟩,⟨some d2,.call ⟨.value (.func f0),args,ats⟩,ty2,q2,af2,none⟩]) (hargs:args=#[.tmp t,.func g]) (hd':(decide (o≠t)&&decide (o≠d2)&&decide (t<nt))=true)
  (hev:∀ l',(ev E d ann D (Jh nt o e l') λx s=>match x with|.exit _=>none|_=>results E s rty fn.results.toList)=some (.sl l'))
  {S':Nat->Nat->Prop} {γ':Nat->Option Nat} {β':Nat->Option (Nat×Nat)} {s':St} {a':Act} {w':World} (h:Rp (tM w S) S' γ' β' s' a' w') (hdf:a'.defers=[]) (hK:xo E nt m0 o g e vt s'=some y) :
  (Code.seq (Code.seq (.region id23 o23 false) (.block b (.loop (.seq (.region id24 o24 false) (.seq (.cond (.tmp ok) .skip (.exit b)) (.block b2 (.seq (.region id25 o25 false) c26))))))) (Code.seq (.region id ops false) d)).wpIn (FW none) 0 P (LN P fn w S rty y) a' w':=by
 unfold xo at hK;split at hK<;>first|(cases hK;done)|skip
 rename_i kt vt' idm htm;split at hK<;>first|(cases hK;done)|skip
 rename_i hb1;split at hK<;>first|(cases hK;done)|skip
 rename_i kt2 vt2 l hob;split at hK<;>first|(cases hK;done)|skip
 rename_i hb2;split at hK<;>first|(cases hK;done)|skip
 rename_i hfr;split at hK<;>first|(cases hK;done)|skip
 rename_i hnt;obtain⟨l',h3,h4⟩:=bind_some_inv hK;cases h4;simp only[zaa,decide_eq_true_eq] at hb1 hb2 hd;have e1:=Ty.eq_of_beq _ _ hb1.1;have e2:=Ty.eq_of_beq _ _ hb1.2;have e3:=Ty.eq_of_beq _ _ hb2.1.1;have e4:=Ty.eq_of_beq _ _ hb2.1.2;subst e1;subst e2;subst e3;subst e4;obtain⟨⟨⟨⟨⟨⟨⟨⟨⟨⟨⟨⟨⟨⟨d1,d2'⟩,d3⟩,d4⟩,d5⟩,d6⟩,d7⟩,d8⟩,d9⟩,d10⟩,n1⟩,n2⟩,n3⟩,n4⟩,n5⟩:=hd;subst hnt;refine wpIn_seq (I0 hE he hvt hne hnv h23 h24 h25 (λx hx=>by simpa using zpa.1 hrest x hx) hT h hdf d1 d2' d3 d4 d5 d6 d7 d8 d9 d10 n1 n2 n3 n4 n5 htm hob hb2.2 hfr hround λL S2 γ2 β2 X a2 w2 hX hp hR hdf2=>?_)
 have hlen:L.length<=1073741824:=by rw[hp.length_eq];simpa using hb2.2
 have hfX:dI (σL s'.nt o it X) kt2 o=some L:=by
  unfold dI σL;simp only[if_true];rcases hX with⟨rfl,rfl⟩|rfl
  ·rfl
  ·simp only;have:(kt2.beq kt2&&!(([]:List Nat).contains 5)&&decide (L.length<=1073741824))=true:=by
    simp only[zaa,decide_eq_true_eq];exact⟨⟨hb2.1.1,rfl⟩,hlen⟩
   rw[if_pos this]
 refine DN hE hf hsig hr hops hargs hd' hev hR hdf2 ?_;unfold J0;rw[hfX,zba,if_pos (show(σL s'.nt o it X).nt=s'.nt from rfl),A4 h3 hp];rfl
end
end Sy
end
noncomputable section
namespace Go.Proofs
open Go.Shelf
def Tryz.sortP_ren:Go.Shelf.Ren:=⟨λ|6=>235|15=>249|14=>248|28=>218|29=>262|20=>254|21=>255|22=>256|23=>257|24=>258|25=>259|26=>260|27=>261|46=>264|47=>265|48=>266|49=>267|50=>268|57=>269|n=>n,λ|22=>225|24=>228|25=>249|3=>3|39=>149|0=>0|53=>37|55=>147|4=>4|46=>260|45=>259|50=>133|5=>5|9=>9|66=>266|70=>270|76=>272|77=>273|n=>n,λ|n=>n⟩
def Tryz.sortP:Go.Proofs.SlLaysF0.n6 Tryz.prog Tryz.sortP_ren:={
 mixed:=by kernel_rfl
 f6:=⟨Tryz.f235.name,by decide,Tryz.func235.trans (congrArg some (by kernel_rfl))⟩
 f14:=⟨Tryz.f248.name,by decide,Tryz.func248.trans (congrArg some (by kernel_rfl))⟩
 f15:=Tryz.func249.trans (congrArg some (by kernel_rfl))
 f20:=⟨Tryz.f254.name,by decide,Tryz.func254.trans (congrArg some (by kernel_rfl))⟩
 f21:=⟨Tryz.f255.name,by decide,Tryz.func255.trans (congrArg some (by kernel_rfl))⟩
 f22:=⟨Tryz.f256.name,by decide,Tryz.func256.trans (congrArg some (by kernel_rfl))⟩
 f23:=⟨Tryz.f257.name,by decide,Tryz.func257.trans (congrArg some (by kernel_rfl))⟩
 f24:=⟨Tryz.f258.name,by decide,Tryz.func258.trans (congrArg some (by kernel_rfl))⟩
 f25:=⟨Tryz.f259.name,by decide,Tryz.func259.trans (congrArg some (by kernel_rfl))⟩
 f26:=⟨Tryz.f260.name,by decide,Tryz.func260.trans (congrArg some (by kernel_rfl))⟩
 f27:=⟨Tryz.f261.name,by decide,Tryz.func261.trans (congrArg some (by kernel_rfl))⟩
 f28:=Tryz.func218.trans (congrArg some (by kernel_rfl))
 f29:=Tryz.func262.trans (congrArg some (by kernel_rfl))
 f46:=⟨Tryz.f264.name,by decide,Tryz.func264.trans (congrArg some (by kernel_rfl))⟩
 f47:=Tryz.func265.trans (congrArg some (by kernel_rfl))
 f48:=Tryz.func266.trans (congrArg some (by kernel_rfl))
 f49:=⟨Tryz.f267.name,by decide,Tryz.func267.trans (congrArg some (by kernel_rfl))⟩
 f50:=⟨Tryz.f268.name,by decide,Tryz.func268.trans (congrArg some (by kernel_rfl))⟩
 f57:=⟨Tryz.f269.name,by decide,Tryz.func269.trans (congrArg some (by kernel_rfl))⟩
 t0:=Tryz.underlying0
 a0:=Tryz.isAgg0
 z0:=Tryz.sizeOf0
 v0:=Tryz.zeroValue0
 t3:=Tryz.underlying3
 a3:=Tryz.isAgg3
 z3:=Tryz.sizeOf3
 v3:=Tryz.zeroValue3
 t4:=Tryz.underlying4
 a4:=Tryz.isAgg4
 z4:=Tryz.sizeOf4
 v4:=Tryz.zeroValue4
 t5:=Tryz.underlying5
 a5:=Tryz.isAgg5
 z5:=Tryz.sizeOf5
 v5:=Tryz.zeroValue5
 t9:=Tryz.underlying9
 a9:=Tryz.isAgg9
 z9:=Tryz.sizeOf9
 v9:=Tryz.zeroValue9
 t22:=Tryz.underlying225
 a22:=Tryz.isAgg225
 z22:=Tryz.sizeOf225
 v22:=Tryz.zeroValue225
 t25:=Tryz.underlying249
 a25:=Tryz.isAgg249
 z25:=Tryz.sizeOf249
 v25:=Tryz.zeroValue249
 t39:=Tryz.underlying149
 a39:=Tryz.isAgg149
 z39:=Tryz.sizeOf149
 v39:=Tryz.zeroValue149
 t45:=Tryz.underlying259
 a45:=Tryz.isAgg259
 z45:=Tryz.sizeOf259
 v45:=Tryz.zeroValue259
 t46:=Tryz.underlying260
 a46:=Tryz.isAgg260
 z46:=Tryz.sizeOf260
 v46:=Tryz.zeroValue260
 t50:=Tryz.underlying133
 a50:=Tryz.isAgg133
 z50:=Tryz.sizeOf133
 v50:=Tryz.zeroValue133
 t53:=Tryz.underlying37
 a53:=Tryz.isAgg37
 z53:=Tryz.sizeOf37
 v53:=Tryz.zeroValue37
 t55:=Tryz.underlying147
 a55:=Tryz.isAgg147
 z55:=Tryz.sizeOf147
 v55:=Tryz.zeroValue147
 t66:=Tryz.underlying266
 a66:=Tryz.isAgg266
 z66:=Tryz.sizeOf266
 v66:=Tryz.zeroValue266
 t70:=Tryz.underlying270
 a70:=Tryz.isAgg270
 z70:=Tryz.sizeOf270
 v70:=Tryz.zeroValue270
 t76:=Tryz.underlying272
 a76:=Tryz.isAgg272
 z76:=Tryz.sizeOf272
 v76:=Tryz.zeroValue272
 t77:=Tryz.underlying273
 a77:=Tryz.isAgg273
 z77:=Tryz.sizeOf273
 v77:=Tryz.zeroValue273 }
end Go.Proofs
end
noncomputable section
namespace Sy
open Go Go.Proofs Go.Shelf Go.RowKit Go.Lib Go.Sort
def Tn {P : Program} {f : Nat} (h : (match P.funcs[f]? with | some fn => !(fn.name == "runtime.NumGoroutine") && fn.body.isSome | none => false) = true) : ∃ fn, P.funcs[f]? = some fn /\ (fn.name == "runtime.NumGoroutine") = false /\ fn.body.isSome = true := by
 split at h
 ·rename_i fn hf;simp only[zaa,zLa] at h;exact⟨fn,hf,h.1,h.2⟩
 ·cases h
def F6:SortOk Tryz.prog 235 dN:=
 ⟨rfl,rfl,by decide,rfl,Tn (by kernel_rfl),λp cap fv w=>AnyF.slices_SortFunc_none Tryz.sortP p cap fv w,
  λ_ _ enc hk h1 cf hO g blk off cap d w eg hcmp hH hblk hsz=>AnyQ.slices_SortFunc Tryz.sortP 4 Tryz.isAgg228 Tryz.sizeOf228 enc hk h1 cf hO g #[] blk off cap d w eg hcmp hH hblk hsz⟩
end Sy
end
noncomputable section
set_option maxHeartbeats 0
namespace Sy
open Go Go.Proofs
def JT:Code->Code|.block _ c=>c|c=>c
def inLoop:Code->Code|.loop c=>c|c=>c
def VH:Code->Code|.seq a _=>a|c=>c
def OM:Code->Code|.seq _ b=>b|c=>c
def Nt:Code->List Oper|.region _ o _=>o.toList|_=>[]
def Md:AnnT:=(.seq .leaf (.seq .leaf (.seq (.two .leaf (.two (.loop ⟨[(3,.same (.map dN Ty.bool 8204)),(15,.dv (Ty.int .i64))],[(8204,.mp dN Ty.bool)],[0,14]⟩ [(.exit 0,⟨[(3,.same (.map dN Ty.bool 8204))],[(8204,.mp dN Ty.bool)],[]⟩)] (.two .leaf (.two .leaf (.two (.two (.two .leaf (.two .leaf (.two (.loop ⟨[(3,.same (.map dN Ty.bool 8204)),(19,.dv (Ty.int .i64))],[(8204,.mp dN Ty.bool)],[0,4,14,15,18]⟩ [(.exit 2,⟨[(3,.same (.map dN Ty.bool 8204))],[(8204,.mp dN Ty.bool)],[0,14,15]⟩)] (.two .leaf (.two .leaf (.two (.two (.two .leaf (.two .leaf (.two (.loop ⟨[(3,.same (.map dN Ty.bool 8204)),(23,.dv (Ty.int .i64))],[(8204,.mp dN Ty.bool)],[0,4,5,14,15,18,19,22]⟩ [(.exit 4,⟨[(3,.same (.map dN Ty.bool 8204))],[(8204,.mp dN Ty.bool)],[0,4,14,15,18,19]⟩)] (.two .leaf (.two .leaf (.cut [(.normal,⟨[(3,.same (.map dN Ty.bool 8204))],[(8204,.mp dN Ty.bool)],[0,4,5,14,15,18,19,22,23]⟩)] [0,4,5,14,15,18,19,22,23] [] (.two (.two .leaf (.two (.reg [] 14) (.two .leaf (.two .leaf (.two (.loop ⟨[(3,.same (.map dN Ty.bool 8204)),(51,.ow dN),(53,.dv (Ty.int .i64))],[(8204,.mp dN Ty.bool)],[0,4,5,14,15,18,19,22,23,52]⟩ [(.exit 6,⟨[(3,.same (.map dN Ty.bool 8204))],[(8204,.mp dN Ty.bool)],[0,4,5,14,15,18,19,22,23]⟩)] (.two .leaf (.two .leaf (.cut [(.normal,⟨[(3,.same (.map dN Ty.bool 8204)),(51,.ow dN)],[(8204,.mp dN Ty.bool)],[0,4,5,14,15,18,19,22,23,52,53]⟩)] [0,4,5,14,15,18,19,22,23,52,53] [] .leaf .leaf)))) .leaf))))) .leaf) .leaf)))) .leaf))) .leaf) .leaf)))) .leaf))) .leaf) .leaf)))) .leaf)) (.seq .leaf .hand))))
def LI(lp:Lp)(call:Nat->List D->Option D)(a0:D):Option D:=
 Option.bind (D.asSl a0) λl1=>
 Option.bind (lp (β:=Nat×List D) (λ(v2:List D)=>
 Option.bind (D.bin .lss (gx v2 0) (D.int .i64 (List.length l1))) λx3=>
 Option.bind (D.truth x3) λb4=>
 if b4 then(Option.bind (lp (β:=Nat×List D) (λ(v5:List D)=>
 Option.bind (D.bin .lss (gx v5 0) (gx v2 0)) λx6=>
 Option.bind (D.truth x6) λb7=>
 if b7 then(Option.bind (lp (β:=Nat×List D) (λ(v8:List D)=>
 Option.bind (D.bin .lss (gx v8 0) (gx v5 0)) λx9=>
 Option.bind (D.truth x9) λb10=>
 if b10 then(Option.bind (Option.bind (D.asSl a0) λl11=>
 Option.bind (D.idx (gx v2 0) (List.length l11)) λut=>
 Option.bind (l11[ut]?) λx13=>
 Option.bind (D.asSl a0) λl14=>
 Option.bind (D.idx (gx v5 0) (List.length l14)) λi15=>
 Option.bind (l14[i15]?) λx16=>
 Option.bind (D.asSl a0) λl17=>
 Option.bind (D.idx (gx v8 0) (List.length l17)) λi18=>
 Option.bind (l17[i18]?) λx19=>
 Option.bind (call 96 [x13,x16,x19]) λr20=>
 Option.bind (D.get r20 [0]) λx21=>
 Option.bind (D.truth (D.bool (D.beq x21 (D.st [(D.int .i64 0),(D.int .i64 0),(D.int .i64 0)])))) λb22=>
 if b22 then(some (0,[(D.sl (D.els (gx v8 1)))])) else(Option.bind (D.get r20 [0]) λx23=>
 Option.bind (call 97 [x23]) λr24=>
 Option.bind (D.get r20 [1]) λx25=>
 Option.bind (D.un .neg x25) λx26=>
 Option.bind (lp (β:=Nat×List D) (λ(v27:List D)=>
 Option.bind (D.bin .lss (gx v27 1) (D.int .i64 2)) λx28=>
 Option.bind (D.truth x28) λb29=>
 if b29 then(Option.bind (Option.bind (D.idx (gx v27 1) (List.length (D.els (gx v27 0)))) λi30=>
 Option.bind ((D.els (gx v27 0))[i30]?) λx31=>
 Option.bind (D.un .not (Option.getD (D.mget (D.els (gx v27 2)) x31) (D.bool false))) λx32=>
 Option.bind (D.truth x32) λb33=>
 Option.bind (if b33 then(Option.bind (call 98 [a0,x31]) λr34=>
 D.truth r34) else(some false)) λb35=>
 Option.bind (D.truth (D.bool b35)) λb36=>
 if b36 then(some (0,[(D.sl (D.els (gx v27 0))),(D.sl (D.mput (D.els (gx v27 2)) x31 (D.bool true)))])) else(some (0,[(D.sl (D.els (gx v27 0))),(D.sl (D.els (gx v27 2)))]))) λ(r37:Nat×List D)=>
 Option.bind (D.bin .add (gx v27 1) (D.int .i64 1)) λx38=>
 some (Sum.inl [(D.sl (D.els (gx r37.2 0))),x38,(D.sl (D.els (gx r37.2 1)))])) else(some (Sum.inr (0,[(D.sl (D.els (gx v27 2)))])))) [(D.sl [r20,(D.st [r24,x26])]),(D.int .i64 0),(D.sl (D.els (gx v8 1)))]) λr39=>
 some (0,[(D.sl (D.els (gx r39.2 0)))]))) λ(r40:Nat×List D)=>
 Option.bind (D.bin .add (gx v8 0) (D.int .i64 1)) λx41=>
 some (Sum.inl [x41,(D.sl (D.els (gx r40.2 0)))])) else(some (Sum.inr (0,[(D.sl (D.els (gx v8 1)))])))) [(D.int .i64 0),(D.sl (D.els (gx v5 1)))]) λr42=>
 Option.bind (D.bin .add (gx v5 0) (D.int .i64 1)) λx43=>
 some (Sum.inl [x43,(D.sl (D.els (gx r42.2 0)))])) else(some (Sum.inr (0,[(D.sl (D.els (gx v5 1)))])))) [(D.int .i64 0),(D.sl (D.els (gx v2 1)))]) λr44=>
 Option.bind (D.bin .add (gx v2 0) (D.int .i64 1)) λx45=>
 some (Sum.inl [x45,(D.sl (D.els (gx r44.2 0)))])) else(some (Sum.inr (0,[(D.sl (D.els (gx v2 1)))])))) [(D.int .i64 0),(D.sl [])]) λr46=>
 if decide (List.length (D.els (gx r46.2 0))<=1073741824) then(Option.bind (kj (fi lp call (oA lp call)) (eP 100) (List.map uu (D.els (gx r46.2 0)))) λl2=>some (D.sl l2)) else none
def Wv(lp:Lp)(call:Nat->List D->Option D)(a0:D):KO (fi lp call (oA lp call)) (xo (fi lp call (oA lp call)) 85 3 10 (eP 100) dN Ty.bool) Tryz.f210 Md [K2] [a0]=LI lp call a0:=by kernel_rfl
def Kq(f:Func):Code:=match f.body with|some c=>c|none=>.skip
def zo:Code:=JT (OM (OM (inLoop (JT (OM (VH (vN (Kq Tryz.f210) Md)))))))
def AT:List Oper:=(Nt (VH zo)).tail
def Tb:Code:=OM zo
def Jf{lp:Lp}{call:Nat->List D->Option D}:∀ X L k v,JU dN L X->L.length<1073741824->wt dN k->ev (fi lp call (oA lp call)) (.region 0 (AT).toArray false) .leaf D ((σL 85 10 73 X).put (some 76) (.d (.tup [dN,.bool]) (.tup [k,v]))) (λx s'=>match x with
   | .normal=>ev (fi lp call (oA lp call)) Tb .leaf D s' (λx s''=>match x with|.normal=>(dI s'' dN 10).bind λl=>some (.sl l)|_=>none)
   | _=>none)=some (.sl (L++[k])):=by
 intro X L k v hX hL _;rcases hX with⟨rfl,rfl⟩|rfl
 ·kernel_rfl
 ·have key:ev (fi lp call (oA lp call)) (.region 0 (AT).toArray false) .leaf D ((σL 85 10 73 (.own dN 5 L)).put (some 76) (.d (.tup [dN,.bool]) (.tup [k,v]))) (λx s'=>match x with
   | .normal=>ev (fi lp call (oA lp call)) Tb .leaf D s' (λx s''=>match x with|.normal=>(dI s'' dN 10).bind λl=>some (.sl l)|_=>none)
   | _=>none)=(if List.length L+List.length [k]<=1073741824 then(Option.bind (if decide (List.length (L++[k])<=1073741824) then some (L++[k]) else none) λl=>some (.sl l)) else none):=by kernel_rfl
  rw[key,if_pos (by simp;omega),if_pos (by simp;omega)]
  rfl
def M6{lp:Lp}{call:Nat->List D->Option D}(hE:EnvOk Tryz.prog (fi lp call (oA lp call))){a0 y:D}(h:LI lp call a0=some y):Me Tryz.prog [K2] LL (eP 45) [a0] y:=by
 refine Ae hE (f:=eP 45) (fn:=Tryz.f210) (ann:=Md) (K:=xo (fi lp call (oA lp call)) 85 3 10 (eP 100) dN .bool) (by kernel_rfl) (by kernel_rfl) ((Wv lp call a0).trans h) ?_
 intro c hb w S S' γ' β' s' a' w' hR hd hK;have e:∀ c',Tryz.f210.body=some c'->(vN c' Md).wpIn (FW none) 0 Tryz.prog (LN Tryz.prog Tryz.f210 w S LL y) a' w'->(vN c Md).wpIn (FW none) 0 Tryz.prog (LN Tryz.prog Tryz.f210 w S LL y) a' w':=λc' h1 h2=>by
  rw[hb] at h1;cases h1;exact h2
 refine e _ rfl ?_;exact AW hE rfl rfl rfl rfl (by kernel_rfl) (t72:=72) (m0:=3) (it:=73) (T:=244) (nx:=74) (ok:=75) (en:=76) (o:=10) (nt:=85) (c26:=Tb) (rest:=AT) rfl rfl rfl rfl (TK:=228) (TV:=4) (by kernel_rfl) (by decide) Jf F6 (g:=236) ⟨by kernel_rfl,by kernel_rfl⟩ (t:=82) (d2:=83) (ann:=.leaf) rfl rfl (by decide) (λl'=>by kernel_rfl) hR hd hK
end Sy
end
noncomputable section
namespace Sy
open Go Go.Proofs
def WT{lp:Lp}(hlp:ar lp):aj 45 (m1 (LI lp)):=by
 intro call hc ptys rty' xs y hs hy hw;have:qb (eP 45)=some ([K2],LL):=by kernel_rfl
 rw[this] at hs;cases hs;unfold m1 at hy;split at hy<;>first|(cases hy;done)|skip
 have h0:m8 (eP 45)=0:=by kernel_rfl
 rw[h0];exact M6 (Tj hlp hc) hy
end Sy
end
noncomputable section
set_option maxHeartbeats 0
namespace Sy
open Go Go.Proofs
def Jt(lp:Lp):CT:=.node 139 (.node 85 (.node 54 (.node 33 (.node 22 (.node 15 (.node 13 (.leaf 12 (m1 (LG lp))) (.leaf 13 (m2 (NP lp)))) (.node 18 (.leaf 15 (m1 (NQ lp))) (.node 19 (.leaf 18 (m1 (NR lp))) (.leaf 19 (m1 (NS lp)))))) (.node 28 (.node 23 (.leaf 22 (m1 (NT lp))) (.node 24 (.leaf 23 (m1 (NU lp))) (.leaf 24 (m1 (NV lp))))) (.node 29 (.leaf 28 (m1 (NW lp))) (.node 32 (.leaf 29 (m1 (NX lp))) (.leaf 32 (m2 (NY lp))))))) (.node 45 (.node 37 (.node 34 (.leaf 33 (m2 (NZ lp))) (.leaf 34 (m1 (N0 lp)))) (.node 38 (.leaf 37 (m2 (LH lp))) (.node 40 (.leaf 38 (m2 (Mh lp))) (.leaf 40 (m2 (N3 lp)))))) (.node 48 (.node 46 (.leaf 45 (m1 (LI lp))) (.node 47 (.leaf 46 (m2 (N5 lp))) (.leaf 47 (m1 (N6 lp))))) (.node 52 (.leaf 48 (m1 (N7 lp))) (.node 53 (.leaf 52 (m1 (N8 lp))) (.leaf 53 (m2 (N9 lp)))))))) (.node 73 (.node 62 (.node 58 (.node 57 (.leaf 54 (m1 (Oa lp))) (.leaf 57 (m2 (Oc lp)))) (.node 59 (.leaf 58 (m1 (Od lp))) (.node 61 (.leaf 59 (m2 (Mi lp))) (.leaf 61 (m2 (Oe lp)))))) (.node 69 (.node 64 (.leaf 62 (m2 (LJ lp))) (.node 68 (.leaf 64 (m2 (Of lp))) (.leaf 68 (m1 (Og lp))))) (.node 70 (.leaf 69 (m3 (Oh lp))) (.node 72 (.leaf 70 (m1 (Oi lp))) (.leaf 72 (fD 0 lp 72 Tryz.f109 Vk)))))) (.node 79 (.node 76 (.node 74 (.leaf 73 (fD 0 lp 73 Tryz.f105 Vl)) (.node 75 (.leaf 74 (m1 (Oj lp))) (.leaf 75 (m1 (Ok lp))))) (.node 77 (.leaf 76 (m1 (Mj lp))) (.node 78 (.leaf 77 (m1 (Ol lp))) (.leaf 78 (m2 (Om lp)))))) (.node 82 (.node 80 (.leaf 79 (m2 (On lp))) (.node 81 (.leaf 80 (m1 (Oo lp))) (.leaf 81 (m2 (Mk lp))))) (.node 83 (.leaf 82 (m2 (Oq lp))) (.node 84 (.leaf 83 (m1 (Ot lp))) (.leaf 84 (m0 (Ou lp))))))))) (.node 116 (.node 101 (.node 90 (.node 87 (.node 86 (.leaf 85 (m2 (Ml lp))) (.leaf 86 (m1 (Ov lp)))) (.node 88 (.leaf 87 (m2 (Mm lp))) (.node 89 (.leaf 88 (m1 (Mn lp))) (.leaf 89 (m2 (LK lp)))))) (.node 97 (.node 91 (.leaf 90 (fD 0 lp 90 Tryz.f158 Vm)) (.node 96 (.leaf 91 (m2 (Ow lp))) (.leaf 96 (m3 (Ox lp))))) (.node 98 (.leaf 97 (m1 (Oy lp))) (.node 100 (.leaf 98 (m2 (Oz lp))) (.leaf 100 (m2 (GE lp))))))) (.node 108 (.node 105 (.node 103 (.leaf 101 (m2 (D8 lp))) (.node 104 (.leaf 103 (m2 (GF lp))) (.leaf 104 (m3 (GG lp))))) (.node 106 (.leaf 105 (m2 (GH lp))) (.node 107 (.leaf 106 (m3 (GI lp))) (.leaf 107 (m2 (GJ lp)))))) (.node 111 (.node 109 (.leaf 108 (m2 (GK lp))) (.node 110 (.leaf 109 (m3 (GL lp))) (.leaf 110 (m2 (GM lp))))) (.node 112 (.leaf 111 (m3 (GN lp))) (.node 115 (.leaf 112 (m2 (GO lp))) (.leaf 115 (m1 (GP lp)))))))) (.node 127 (.node 121 (.node 118 (.node 117 (.leaf 116 (m2 (GQ lp))) (.leaf 117 (m2 (GR lp)))) (.node 119 (.leaf 118 (m1 (GS lp))) (.node 120 (.leaf 119 (m0 (GT lp))) (.leaf 120 (m2 (GU lp)))))) (.node 124 (.node 122 (.leaf 121 (m2 (GV lp))) (.node 123 (.leaf 122 (m2 (GW lp))) (.leaf 123 (m2 (GX lp))))) (.node 125 (.leaf 124 (m1 (Cw lp))) (.node 126 (.leaf 125 (m0 (GY lp))) (.leaf 126 (m2 (GZ lp))))))) (.node 133 (.node 130 (.node 128 (.leaf 127 (m1 (G0 lp))) (.node 129 (.leaf 128 (m1 (D9 lp))) (.leaf 129 (m1 (G1 lp))))) (.node 131 (.leaf 130 (m0 (G2 lp))) (.node 132 (.leaf 131 (m2 (G3 lp))) (.leaf 132 (m2 (G4 lp)))))) (.node 136 (.node 134 (.leaf 133 (m0 (G5 lp))) (.node 135 (.leaf 134 (m2 (G6 lp))) (.leaf 135 (m1 (G7 lp))))) (.node 137 (.leaf 136 (m1 (Ea lp))) (.node 138 (.leaf 137 (fD 0 lp 137 Tryz.f159 .leaf)) (.leaf 138 (m1 (G8 lp)))))))))) (.node 322 (.node 174 (.node 154 (.node 144 (.node 141 (.node 140 (.leaf 139 (m1 (Eb lp))) (.leaf 140 (m1 (G9 lp)))) (.node 142 (.leaf 141 (m2 (Ha lp))) (.node 143 (.leaf 142 (m1 (Hb lp))) (.leaf 143 (m2 (Hc lp)))))) (.node 147 (.node 145 (.leaf 144 (m2 (Hd lp))) (.node 146 (.leaf 145 (m1 (He lp))) (.leaf 146 (m2 (Hf lp))))) (.node 148 (.leaf 147 (m2 (Hg lp))) (.node 152 (.leaf 148 (m1 (Hh lp))) (.leaf 152 (m2 (Hi lp))))))) (.node 168 (.node 156 (.node 155 (.leaf 154 (m2 (Hj lp))) (.leaf 155 (m1 (Hk lp)))) (.node 165 (.leaf 156 (m5 (Hl lp))) (.node 167 (.leaf 165 (m1 (Hm lp))) (.leaf 167 (m1 (Hn lp)))))) (.node 171 (.node 169 (.leaf 168 (m2 (Ho lp))) (.node 170 (.leaf 169 (m0 (Hp lp))) (.leaf 170 (m2 (Hq lp))))) (.node 172 (.leaf 171 (m1 (Hr lp))) (.node 173 (.leaf 172 (m2 (Hs lp))) (.leaf 173 (m2 (Ec lp)))))))) (.node 203 (.node 194 (.node 186 (.node 175 (.leaf 174 (m2 (Cy lp))) (.leaf 175 (m2 (Ht lp)))) (.node 187 (.leaf 186 (m1 (Hu lp))) (.node 188 (.leaf 187 (m1 (Hv lp))) (.leaf 188 (m2 (Hw lp)))))) (.node 197 (.node 195 (.leaf 194 (m1 (Hx lp))) (.node 196 (.leaf 195 (m2 (Hy lp))) (.leaf 196 (m1 (Hz lp))))) (.node 201 (.leaf 197 (m2 (HA lp))) (.node 202 (.leaf 201 (m2 (HB lp))) (.leaf 202 (m1 (Cz lp))))))) (.node 309 (.node 302 (.node 215 (.leaf 203 (fD 0 lp 203 Tryz.f197 LW)) (.node 217 (.leaf 215 (m1 (HC lp))) (.leaf 217 (m1 (HD lp))))) (.node 306 (.leaf 302 (m3 (HE lp))) (.node 307 (.leaf 306 (m3 (HF lp))) (.leaf 307 (fD 0 lp 307 Tryz.f10 LX))))) (.node 316 (.node 311 (.leaf 309 (m3 (HG lp))) (.node 313 (.leaf 311 (fD 0 lp 311 Tryz.f14 LY)) (.leaf 313 (fD 0 lp 313 Tryz.f16 LZ)))) (.node 318 (.leaf 316 (fD 0 lp 316 Tryz.f19 L0)) (.node 320 (.leaf 318 (fD 0 lp 318 Tryz.f21 L1)) (.leaf 320 (fD 0 lp 320 Tryz.f23 .leaf)))))))) (.node 363 (.node 341 (.node 330 (.node 327 (.node 326 (.leaf 322 (m1 (HH lp))) (.leaf 326 (m1 (HI lp)))) (.node 328 (.leaf 327 (m1 (HJ lp))) (.node 329 (.leaf 328 (fD 0 lp 328 Tryz.f37 L2)) (.leaf 329 (fD 0 lp 329 Tryz.f38 .leaf))))) (.node 334 (.node 332 (.leaf 330 (fD 0 lp 330 Tryz.f39 L3)) (.node 333 (.leaf 332 (m2 (HK lp))) (.leaf 333 (m2 (HL lp))))) (.node 336 (.leaf 334 (m1 (HM lp))) (.node 337 (.leaf 336 (fD 0 lp 336 Tryz.f54 L4)) (.leaf 337 (fD 0 lp 337 Tryz.f56 .leaf)))))) (.node 352 (.node 347 (.node 342 (.leaf 341 (fD 0 lp 341 Tryz.f62 L5)) (.node 346 (.leaf 342 (fD 0 lp 342 Tryz.f63 .leaf)) (.leaf 346 (m1 (HN lp))))) (.node 350 (.leaf 347 (m1 (HO lp))) (.node 351 (.leaf 350 (m2 (HP lp))) (.leaf 351 (m2 (HR lp)))))) (.node 359 (.node 353 (.leaf 352 (m2 (HS lp))) (.node 357 (.leaf 353 (m1 (HT lp))) (.leaf 357 (fD 0 lp 357 Tryz.f101 L6)))) (.node 361 (.leaf 359 (fD 0 lp 359 Tryz.f110 L7)) (.node 362 (.leaf 361 (m1 (HU lp))) (.leaf 362 (m1 (HV lp)))))))) (.node 382 (.node 375 (.node 367 (.node 366 (.leaf 363 (m2 (HW lp))) (.leaf 366 (m1 (HX lp)))) (.node 371 (.leaf 367 (m3 (HY lp))) (.node 372 (.leaf 371 (fD 0 lp 371 Tryz.f160 L8)) (.leaf 372 (fD 0 lp 372 Tryz.f161 L9))))) (.node 378 (.node 376 (.leaf 375 (m1 (HZ lp))) (.node 377 (.leaf 376 (m3 (H0 lp))) (.leaf 377 (m1 (H1 lp))))) (.node 379 (.leaf 378 (m1 (H2 lp))) (.node 381 (.leaf 379 (m2 (H3 lp))) (.leaf 381 (m1 (H4 lp))))))) (.node 393 (.node 389 (.node 385 (.leaf 382 (m1 (H5 lp))) (.node 386 (.leaf 385 (fD 0 lp 385 Tryz.f199 .leaf)) (.leaf 386 (fD 0 lp 386 Tryz.f200 Ma)))) (.node 390 (.leaf 389 (m2 (H6 lp))) (.node 392 (.leaf 390 (m2 (H7 lp))) (.leaf 392 (fD 0 lp 392 Tryz.f221 .leaf))))) (.node 396 (.node 394 (.leaf 393 (fD 0 lp 393 Tryz.f222 Mb)) (.node 395 (.leaf 394 (fD 0 lp 394 Tryz.f223 Mc)) (.leaf 395 (m4 (H8 lp))))) (.node 402 (.leaf 396 (m2 (H9 lp))) (.node 407 (.leaf 402 (m4 (Ia lp))) (.leaf 407 (m4 (Ib lp))))))))))
def Co{lp:Lp}(hlp:ar lp):(Jt lp).ok:=⟨⟨⟨⟨⟨⟨⟨WD hlp,WE hlp⟩,⟨WF hlp,⟨WG hlp,WH hlp⟩⟩⟩,⟨⟨WI hlp,⟨WJ hlp,WK hlp⟩⟩,⟨WL hlp,⟨WM hlp,WN hlp⟩⟩⟩⟩,⟨⟨⟨WO hlp,WP hlp⟩,⟨WQ hlp,⟨WR hlp,WS hlp⟩⟩⟩,⟨⟨WT hlp,⟨WU hlp,WW hlp⟩⟩,⟨WX hlp,⟨WY hlp,WZ hlp⟩⟩⟩⟩⟩,⟨⟨⟨⟨W0 hlp,W2 hlp⟩,⟨W3 hlp,⟨W4 hlp,W5 hlp⟩⟩⟩,⟨⟨W6 hlp,⟨W7 hlp,W8 hlp⟩⟩,⟨W9 hlp,⟨Xa hlp,Xb hlp⟩⟩⟩⟩,⟨⟨⟨Xc hlp,⟨Xd hlp,Xe hlp⟩⟩,⟨Xf hlp,⟨Xg hlp,Xh hlp⟩⟩⟩,⟨⟨Xi hlp,⟨Xj hlp,Xk hlp⟩⟩,⟨Xl hlp,⟨Xm hlp,Xn hlp⟩⟩⟩⟩⟩⟩,⟨⟨⟨⟨⟨Xo hlp,Xp hlp⟩,⟨Xq hlp,⟨Xr hlp,Xs hlp⟩⟩⟩,⟨⟨Xt hlp,⟨Xu hlp,Xv hlp⟩⟩,⟨Xw hlp,⟨Xx hlp,P2 hlp⟩⟩⟩⟩,⟨⟨⟨P3 hlp,⟨P4 hlp,P5 hlp⟩⟩,⟨P6 hlp,⟨P7 hlp,P8 hlp⟩⟩⟩,⟨⟨P9 hlp,⟨Qa hlp,Qb hlp⟩⟩,⟨Qc hlp,⟨Qd hlp,Qe hlp⟩⟩⟩⟩⟩,⟨⟨⟨⟨Qf hlp,Qg hlp⟩,⟨Qh hlp,⟨Qi hlp,Qj hlp⟩⟩⟩,⟨⟨Qk hlp,⟨Ql hlp,Qm hlp⟩⟩,⟨Qn hlp,⟨Qo hlp,Qq hlp⟩⟩⟩⟩,⟨⟨⟨Qr hlp,⟨Qs hlp,Qt hlp⟩⟩,⟨Qu hlp,⟨Qv hlp,Qw hlp⟩⟩⟩,⟨⟨Qx hlp,⟨Qy hlp,Qz hlp⟩⟩,⟨QA hlp,⟨QB hlp,QC hlp⟩⟩⟩⟩⟩⟩⟩,⟨⟨⟨⟨⟨⟨QD hlp,QE hlp⟩,⟨QF hlp,⟨QG hlp,QH hlp⟩⟩⟩,⟨⟨QI hlp,⟨QJ hlp,QK hlp⟩⟩,⟨QL hlp,⟨QM hlp,QN hlp⟩⟩⟩⟩,⟨⟨⟨QO hlp,QP hlp⟩,⟨QQ hlp,⟨QR hlp,QS hlp⟩⟩⟩,⟨⟨QT hlp,⟨QU hlp,QV hlp⟩⟩,⟨QW hlp,⟨QX hlp,QY hlp⟩⟩⟩⟩⟩,⟨⟨⟨⟨QZ hlp,Q0 hlp⟩,⟨Q1 hlp,⟨Q2 hlp,Q3 hlp⟩⟩⟩,⟨⟨Q4 hlp,⟨Q5 hlp,Q6 hlp⟩⟩,⟨Q7 hlp,⟨Q8 hlp,Q9 hlp⟩⟩⟩⟩,⟨⟨⟨Ra hlp,⟨Rb hlp,Rc hlp⟩⟩,⟨Mr hlp,⟨Rd hlp,Re hlp⟩⟩⟩,⟨⟨Rf hlp,⟨Rg hlp,Rh hlp⟩⟩,⟨Ri hlp,⟨Rj hlp,Rk hlp⟩⟩⟩⟩⟩⟩,⟨⟨⟨⟨⟨Rl hlp,Rm hlp⟩,⟨Ro hlp,⟨Rq hlp,Rr hlp⟩⟩⟩,⟨⟨Rs hlp,⟨Rt hlp,Ru hlp⟩⟩,⟨Rv hlp,⟨Rx hlp,Ry hlp⟩⟩⟩⟩,⟨⟨⟨Rz hlp,⟨RA hlp,RB hlp⟩⟩,⟨RC hlp,⟨RD hlp,RE hlp⟩⟩⟩,⟨⟨RF hlp,⟨RG hlp,RH hlp⟩⟩,⟨RJ hlp,⟨RK hlp,RL hlp⟩⟩⟩⟩⟩,⟨⟨⟨⟨RM hlp,RN hlp⟩,⟨RO hlp,⟨RP hlp,RQ hlp⟩⟩⟩,⟨⟨RR hlp,⟨RS hlp,RT hlp⟩⟩,⟨RU hlp,⟨RW hlp,RY hlp⟩⟩⟩⟩,⟨⟨⟨RZ hlp,⟨R0 hlp,R5 hlp⟩⟩,⟨R7 hlp,⟨R8 hlp,R9 hlp⟩⟩⟩,⟨⟨Sa hlp,⟨Sc hlp,Sd hlp⟩⟩,⟨Se hlp,⟨Sg hlp,Si hlp⟩⟩⟩⟩⟩⟩⟩⟩
def EC(lp:Lp):Nat->Nat->List D->Option D
 | 0=>λ_ _=>none
 | n+1=>λf xs=>(Jt lp).get f (EC lp n) xs
theorem ya{lp:Lp}(hlp:ar lp):∀ n,iz Tryz.prog (EC lp n)
 | 0=>λf ptys rty xs y _ h _=>by cases h
 | n+1=>CT.get_ok (Co hlp) (ya hlp n)
end Sy
end
end Go.Proofs.YtpahompifldeeaaGreat
