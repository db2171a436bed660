/- Part 7 of the proof that For every valid body with few parts -/
import Derived.Test.YtpahompifldeeaaGreatQuads06
set_option linter.unusedVariables false
set_option linter.unusedSimpArgs false
set_option linter.unnecessarySimpa false
set_option linter.defProp false
set_option maxRecDepth 20000
namespace Go.Proofs.YtpahompifldeeaaGreat
noncomputable section
set_option maxHeartbeats 0
noncomputable section
namespace Sy
open Go Go.Proofs
def We:Ann:=let o0:LO:=[(4102,.keep aX 6),(8199,.one aK (.dv aK))]
 (.tl (.tl (.two (.tl (.two (.loop ⟨[(6,.sp aX 4102),(7,.sp aK 8199),(8,.di)],o0,[0,1,2]⟩ [(.exit 0,⟨[(6,.sp aX 4102),(7,.sp aK 8199)],o0,[]⟩)] (.tl (.two (.two (.tl (.two (.reg [] 29) (.two (.reg [] 31) (.reg [] 10)))) .leaf) .leaf))) .leaf)) (.two (.reg [] 3) .leaf))))
def Oh(lp:Lp)(c:Ca)(a0:D)(a1:D)(a2:D):Option D:=
(c 34 [(Jn 0)]).bind λr1=>
(qZ lp (λv2=>
 qL a0 (gx v2 0) λb5=>
 if b5 then(qX a0 (gx v2 0) λx8=>
(D.fld x8 0).bind λx9=>
(D.idx a1 3).bind λi10=>
 qG x9 [0,i10] λx11=>
(D.idx a1 3).bind λut=>
 qG x9 [1,ut] λx13=>
 qB .add x11 x13 λx14=>
(D.idx a1 3).bind λi15=>
 qG x9 [2,i15] λx16=>
 qB .add x14 x16 λx17=>
(D.idx a2 3).bind λi18=>
 qG x9 [0,i18] λx19=>
(D.idx a2 3).bind λi20=>
 qG x9 [1,i20] λx21=>
 qB .add x19 x21 λx22=>
(D.idx a2 3).bind λLU=>
 qG x9 [2,LU] λx24=>
 qB .add x22 x24 λx25=>
 qB .mul x17 x25 λx26=>
(D.idx a1 3).bind λi27=>
 qG x9 [0,i27] λx28=>
(D.idx a2 3).bind λi29=>
 qG x9 [0,i29] λx30=>
 qB .mul x28 x30 λx31=>
 qB .add x26 x31 λx32=>
(D.idx a1 3).bind λi33=>
 qG x9 [1,i33] λx34=>
(D.idx a2 3).bind λi35=>
 qG x9 [1,i35] λx36=>
 qB .mul x34 x36 λx37=>
 qB .add x32 x37 λx38=>
(D.idx a1 3).bind λi39=>
 qG x9 [2,i39] λx40=>
(D.idx a2 3).bind λi41=>
 qG x9 [2,i41] λx42=>
 qB .mul x40 x42 λx43=>
 qB .add x38 x43 λx44=>
 qX a0 (gx v2 0) λx47=>
(D.fld x47 1).bind λx48=>
(c 34 [x44]).bind λr49=>
(c 89 [x48,r49]).bind λr50=>
(c 59 [(gx v2 1),r50]).bind λr51=>
 qB .add (gx v2 0) (Jn 1) λx52=>
 iL [x52,r51]) else(iR (0,[(gx v2 1)]))) [(Jn 0),r1]).bind λr53=>
(c 34 [(Jn 120)]).bind λr54=>
(c 37 [(gx r53.2 0),r54]).bind λr55=>
 some r55
def W9{lp}(hlp:ar lp):aj 69 (m3 (Oh lp)):=lM 0 Tryz.f147 We hlp
def Wg:Ann:=(.tl (.tl (.two (.reg [] 6) .leaf)))
def Oi(lp:Lp)(c:Ca)(a0:D):Option D:=
(c 88 [a0]).bind λr1=>
 qN r1 λb3=>
 if b3 then((c 84 []).bind λr4=>
 some r4) else(qG a0 [0] λx5=>
(c 86 [x5]).bind λr6=>
 qG a0 [1] λx7=>
 some (D.st [r6,x7]))
def Xa{lp}(hlp:ar lp):aj 70 (m1 (Oi lp)):=ba 0 Tryz.f71 Wg hlp
def Vk:Ann:=(.tl (.two (.reg [] 4) .leaf))
def Xb{lp}(hlp:ar lp):aj 72 (fD 0 lp 72 Tryz.f109 Vk):=cB hlp (by kernel_rfl) (by kernel_rfl)
def Vl:Ann:=(.tl (.two (.reg [] 5) (.tl (.tl (.tl (.two (.two (.loop ⟨[(2,.sp aX 4098),(3,.sp aX 4099),(7,.di)],[(4098,.one aX (.dv aX)),(4099,.one aX (.dv aX))],[]⟩ [(.exit 1,⟨[(7,.di)],[],[]⟩)] (.two (.two (.two (.reg [] 11) .leaf) (.two (.reg [] 16) (.two (.reg [] 7) .leaf))) .leaf)) .leaf) .leaf))))))
def Xc{lp}(hlp:ar lp):aj 73 (fD 0 lp 73 Tryz.f105 Vl):=cB hlp (by kernel_rfl) (by kernel_rfl)
def Oj(lp:Lp)(c:Ca)(a0:D):Option D:=
(c 54 [a0]).bind λr1=>
(c 138 [r1]).bind λr2=>
 some r2
def Xd{lp}(hlp:ar lp):aj 74 (m1 (Oj lp)):=ba 0 Tryz.f41 .leaf hlp
def Ok(lp:Lp)(c:Ca)(a0:D):Option D:=
(c 34 [a0]).bind λr1=>
(c 133 []).bind λr2=>
(c 37 [r1,r2]).bind λr3=>
 some r3
def Xe{lp}(hlp:ar lp):aj 75 (m1 (Ok lp)):=ba 0 Tryz.f29 .leaf hlp
def Mj(lp:Lp)(c:Ca)(a0:D):Option D:=
(c 139 [a0]).bind λr1=>
 qT r1 λb2=>
(if b2 then(qG a0 [0] λx3=>
(D.un .not x3).bind λx4=>
 D.truth x4) else(some false)).bind λb5=>
 some (D.bool b5)
def Xf{lp}(hlp:ar lp):aj 76 (m1 (Mj lp)):=ba 0 Tryz.f114 .leaf hlp
def Wh:Ann:=(.tl (.tl (.two (.tl (.two (.loop ⟨[(1,.sp aK 4097),(3,.ow Ti),(4,.di)],[(4097,.keep aK 1)],[]⟩ [(.exit 0,⟨[(3,.ow Ti)],[],[]⟩)] (.tl (.two (.two (.reg [] 14) .leaf) .leaf))) .leaf)) .leaf)))
def Ol(lp:Lp)(c:Ca)(a0:D):Option D:=
(qZ lp (λv1=>
 qC .lss (gx v1 1) (Jn 16) λb3=>
 if b3 then((D.idx (gx v1 1) 16).bind λi4=>
 qG a0 [2,i4] λx5=>
 qB .rem x5 (D.int .u32 65536) λx6=>
(D.conv .i64 x6).bind λx7=>
(D.idx (gx v1 1) 16).bind λi8=>
 qG a0 [2,i8] λx9=>
 qB .quo x9 (D.int .u32 65536) λx10=>
(D.conv .i64 x10).bind λx11=>
 if List.length (qV v1 0)+List.length [x7,x11]<=1073741824 then(qB .add (gx v1 1) (Jn 1) λx12=>
 iL [(D.sl ((qV v1 0)++[x7,x11])),x12]) else none) else(iR (0,[(qW v1 0)]))) [(D.sl []),(Jn 0)]).bind λr13=>
(c 140 [(qW r13.2 0)]).bind λr14=>
 some r14
def Xg{lp}(hlp:ar lp):aj 77 (m1 (Ol lp)):=ba 0 Tryz.f115 Wh hlp
def Wi:Ann:=(.tl (.two (.tl (.two (.loop ⟨[(5,.di)],[],[0,1]⟩ [(.ret,⟨[(4,.dv Ty.bool)],[],[]⟩),(.exit 0,⟨[],[],[]⟩)] .leaf) .leaf)) .leaf))
def Om(lp:Lp)(c:Ca)(a0:D)(a1:D):Option D:=
 qS a0 λl1=>
 qS a1 λl2=>
(D.max2 (Jn (l1.length)) (Jn (l2.length))).bind λx3=>
 qB .sub x3 (Jn 1) λx4=>
(qZ lp (λv5=>
 qC .geq (gx v5 0) (Jn 0) λb7=>
 if b7 then((c 141 [a0,(gx v5 0)]).bind λr8=>
(c 141 [a1,(gx v5 0)]).bind λr9=>
 qT (D.bool (!(D.beq r8 r9))) λb10=>
 if b10 then((c 141 [a0,(gx v5 0)]).bind λr11=>
(c 141 [a1,(gx v5 0)]).bind λr12=>
 qB .lss r11 r12 λx13=>
 iR (0,[x13])) else(qB .sub (gx v5 0) (Jn 1) λx14=>
 iL [x14])) else(iR (1,[]))) [x4]).bind λr15=>
 if r15.1=0 then(some (gx r15.2 0)) else(some (D.bool false))
def Xh{lp}(hlp:ar lp):aj 78 (m2 (Om lp)):=a8 0 Tryz.f122 Wi hlp
def Wj:Ann:=(.tl (.tl (.two (.reg [] 7) (.two (.reg [] 7) .leaf))))
def On(lp:Lp)(c:Ca)(a0:D)(a1:D):Option D:=
 qG a0 [0] λx1=>
 qG a1 [0] λx2=>
(c 89 [x1,x2]).bind λr3=>
 qG a0 [1] λx4=>
 qG a1 [1] λx5=>
(c 89 [x4,x5]).bind λr6=>
(c 59 [r3,r6]).bind λr7=>
 qG a0 [2] λx8=>
 qG a1 [2] λx9=>
(c 89 [x8,x9]).bind λr10=>
(c 59 [r7,r10]).bind λr11=>
 some r11
def Xi{lp}(hlp:ar lp):aj 79 (m2 (On lp)):=a8 0 Tryz.f217 Wj hlp
def Wl:Ann:=(.tl (.two (.reg [] 10) .leaf))
def Oo(lp:Lp)(c:Ca)(a0:D):Option D:=
 qG a0 [0] λx1=>
(c 34 [x1]).bind λr2=>
 qG a0 [1] λx3=>
(c 34 [x3]).bind λr4=>
 qG a0 [2] λx5=>
(c 34 [x5]).bind λr6=>
 some (D.st [r2,r4,r6])
def Xj{lp}(hlp:ar lp):aj 80 (m1 (Oo lp)):=ba 0 Tryz.f209 Wl hlp
def Wm:Ann:=let o0:LO:=[(4100,.keep aK 4),(16390,.one aK (.dv aK))]
 let o1:LS:=[(4,.sp aK 4100),(6,.sp aK 16390)]
 (.tl (.tl (.tl (.tl (.two (.tl (.two (.loop ⟨[(4,.sp aK 4100),(6,.sp aK 16390),(7,.di)],o0,[5]⟩ [(.exit 0,⟨o1,o0,[]⟩)] (.tl (.cut [(.normal,⟨o1,o0,[5,7]⟩)] [5,7] [4100] (.two (.tl (.two (.reg [] 15) (.reg [] 16))) .leaf) .leaf))) .leaf)) .leaf)))))
def Mk(lp:Lp)(c:Ca)(a0:D)(a1:D):Option D:=
(c 140 [a1]).bind λr1=>
 qS r1 λl2=>
 qC .gtr (Jn (l2.length)) (Jn 32) λb4=>
 if b4 then((c 125 []).bind λr5=>
 some r5) else(qT a0 λb6=>
(if b6 then(qS r1 λl7=>
 qB .gtr (Jn (l7.length)) (Jn 0) λx8=>
 D.truth x8) else(some false)).bind λb9=>
(qZ lp (λv10=>
 qL r1 (gx v10 0) λb13=>
 if b13 then((qB .rem (gx v10 0) (Jn 2) λx14=>
 qT (D.bool (D.beq x14 (Jn 0))) λb15=>
 if b15 then(qB .quo (gx v10 0) (Jn 2) λx16=>
 qB .quo (gx v10 0) (Jn 2) λx17=>
(D.idx x17 16).bind λi18=>
 qG (gx v10 1) [2,i18] λx19=>
 qX r1 (gx v10 0) λx22=>
(D.conv .u32 x22).bind λx23=>
 qB .add x19 x23 λx24=>
(D.idx x16 16).bind λi25=>
(D.set (gx v10 1) [2,i25] x24).bind λx26=>
 some (0,[x26])) else(qB .quo (gx v10 0) (Jn 2) λx27=>
 qB .quo (gx v10 0) (Jn 2) λx28=>
(D.idx x28 16).bind λi29=>
 qG (gx v10 1) [2,i29] λx30=>
 qX r1 (gx v10 0) λx33=>
(D.conv .u32 x33).bind λx34=>
 qB .mul x34 (D.int .u32 65536) λx35=>
 qB .add x30 x35 λx36=>
(D.idx x27 16).bind λi37=>
(D.set (gx v10 1) [2,i37] x36).bind λx38=>
 some (0,[x38]))).bind λ(r39:Nat×List D)=>
 qB .add (gx v10 0) (Jn 1) λx40=>
 iL [x40,(gx r39.2 0)]) else(iR (0,[(gx v10 1)]))) [(Jn 0),(D.st [(D.bool false),(D.bool b9),(aJ bf)])]).bind λr41=>
 some (gx r41.2 0))
def Xk{lp}(hlp:ar lp):aj 81 (m2 (Mk lp)):=a8 0 Tryz.f119 Wm hlp
def Wn:Ann:=(.tl (.tl (.tl (.two (.tl (.two (.loop ⟨[(5,.ow Ti),(6,.di),(7,.di)],[],[0,1]⟩ [(.exit 0,⟨[(5,.ow Ti)],[],[]⟩)] .leaf) .leaf)) .leaf))))
def Oq(lp:Lp)(c:Ca)(a0:D)(a1:D):Option D:=
(qZ lp (λv1=>
 qS a0 λl2=>
 qS a1 λl3=>
(D.max2 (Jn (l2.length)) (Jn (l3.length))).bind λx4=>
 qB .add x4 (Jn 1) λx5=>
 qC .lss (gx v1 2) x5 λb7=>
 if b7 then((c 141 [a0,(gx v1 2)]).bind λr8=>
(c 141 [a1,(gx v1 2)]).bind λr9=>
 qB .add r8 r9 λx10=>
 qB .add x10 (gx v1 1) λx11=>
 qB .rem x11 (Jn 65536) λx12=>
 if List.length (qV v1 0)+List.length [x12]<=1073741824 then(qB .quo x11 (Jn 65536) λx13=>
 qB .add (gx v1 2) (Jn 1) λx14=>
 iL [(D.sl ((qV v1 0)++[x12])),x13,x14]) else none) else(iR (0,[(qW v1 0)]))) [(D.sl []),(Jn 0),(Jn 0)]).bind λr15=>
(c 140 [(qW r15.2 0)]).bind λr16=>
 some r16
def Xl{lp}(hlp:ar lp):aj 82 (m2 (Oq lp)):=a8 0 Tryz.f121 Wn hlp
def Ot(lp:Lp)(c:Ca)(a0:D):Option D:=
(c 76 [a0]).bind λr1=>
 qN r1 λb3=>
(if b3 then(some true) else((c 77 [a0]).bind λr4=>
 qS r4 λl5=>
 D.truth (D.bool (D.beq (Jn (l5.length)) (Jn 0))))).bind λb6=>
 qT (D.bool b6) λb7=>
 if b7 then(some (Jn 0)) else(qG a0 [1] λx8=>
 qT x8 λb9=>
 if b9 then(some (Jn (-1))) else(some (Jn 1)))
def Xm{lp}(hlp:ar lp):aj 83 (m1 (Ot lp)):=ba 0 Tryz.f66 .leaf hlp
def Ou(lp:Lp)(c:Ca) :Option D:=
(c 125 []).bind λr1=>
(c 133 []).bind λr2=>
 some (D.st [r1,r2])
def Xn{lp}(hlp:ar lp):aj 84 (m0 (Ou lp)):=u7 0 Tryz.f50 .leaf hlp
def Wo:Ann:=(.tl (.tl (.tl (.two (.tl (.two (.two (.two (.loop ⟨[(4,.sp aK 4100),(5,.di),(7,.di)],[(4100,.keep aK 4)],[]⟩ [(.exit 0,⟨[(4,.sp aK 4100),(5,.di)],[(4100,.keep aK 4)],[]⟩)] .leaf) .leaf) .leaf) .leaf)) (.tl (.tl (.tl (.two (.two (.loop ⟨[(4,.sp aK 4100),(10,.dv K5),(11,.dv K5)],[(4100,.keep aK 4)],[]⟩ [(.exit 2,⟨[(4,.sp aK 4100),(10,.dv K5)],[(4100,.keep aK 4)],[]⟩)] .leaf) .leaf) .leaf))))))))
def Ml(lp:Lp)(c:Ca)(a0:D)(a1:D):Option D:=
(c 124 [a0]).bind λr1=>
(D.tupAt r1 0).bind λx2=>
(D.tupAt r1 1).bind λx3=>
(c 124 [a1]).bind λr4=>
(D.tupAt r4 0).bind λx5=>
(D.tupAt r4 1).bind λx6=>
 qT x3 λb7=>
(if b7 then(D.truth x6) else(some false)).bind λb8=>
 qT (D.bool b8) λb9=>
 if b9 then((qZ lp (λv10=>
 qT (D.bool (!(D.beq (gx v10 1) (Jn 0)))) λb11=>
 if b11 then(qB .rem (gx v10 0) (gx v10 1) λx12=>
 iL [(gx v10 1),x12]) else(iR (0,[(gx v10 0)]))) [x2,x5]).bind λr13=>
(c 34 [(gx r13.2 0)]).bind λr14=>
(c 142 [r14]).bind λr15=>
 some r15) else((c 76 [a0]).bind λr16=>
 qN r16 λb18=>
(if b18 then(some true) else((c 76 [a1]).bind λr19=>
(D.un .not r19).bind λx20=>
 D.truth x20)).bind λb21=>
 qT (D.bool b21) λb22=>
 if b22 then((c 125 []).bind λr23=>
 some r23) else((c 77 [a0]).bind λr24=>
(c 77 [a1]).bind λr25=>
(qZ lp (λv26=>
 qS (gx v26 1) λl27=>
 qC .gtr (Jn (l27.length)) (Jn 0) λb29=>
 if b29 then((c 143 [(gx v26 0),(gx v26 1)]).bind λr30=>
(D.tupAt r30 0).bind λx31=>
(D.tupAt r30 1).bind λx32=>
 iL [(gx v26 1),x32]) else(iR (0,[(gx v26 0)]))) [r24,r25]).bind λr33=>
(c 81 [(D.bool false),(gx r33.2 0)]).bind λr34=>
 some r34))
def Xo{lp}(hlp:ar lp):aj 85 (m2 (Ml lp)):=a8 0 Tryz.f76 Wo hlp
def Wp:Ann:=(.tl (.tl (.two (.reg [] 6) .leaf)))
def Ov(lp:Lp)(c:Ca)(a0:D):Option D:=
(c 76 [a0]).bind λr1=>
 qN r1 λb3=>
 if b3 then((c 125 []).bind λr4=>
 some r4) else(qG a0 [1] λx5=>
(D.un .not x5).bind λx6=>
(c 77 [a0]).bind λr7=>
(c 81 [x6,r7]).bind λr8=>
 some r8)
def Xp{lp}(hlp:ar lp):aj 86 (m1 (Ov lp)):=ba 0 Tryz.f116 Wp hlp
def Wq:Ann:=(.tl (.tl (.tl (.tl (.tl (.two (.reg [] 9) (.cut [(.normal,⟨[(2,.sp aK 4098),(3,.sp aK 4099),(4,.sp aK 4100),(9,.dv K5)],[(4098,.keep aK 2),(4099,.keep aK 3),(4100,.keep aK 4)],[]⟩)] [] [4098,4099,4100] .leaf .leaf)))))))
def Mm(lp:Lp)(c:Ca)(a0:D)(a1:D):Option D:=
(c 124 [a0]).bind λr1=>
(D.tupAt r1 0).bind λx2=>
(D.tupAt r1 1).bind λx3=>
(c 124 [a1]).bind λr4=>
(D.tupAt r4 0).bind λx5=>
(D.tupAt r4 1).bind λx6=>
 qT x3 λb7=>
(if b7 then(D.truth x6) else(some false)).bind λb8=>
 qT (D.bool b8) λb9=>
(if b9 then(D.truth (D.bool (!(D.beq x5 (Jn 0))))) else(some false)).bind λb10=>
 qT (D.bool b10) λb11=>
 if b11 then((c 144 [x2,x5]).bind λr12=>
(c 34 [r12]).bind λr13=>
 some r13) else((c 76 [a0]).bind λr14=>
 qN r14 λb16=>
(if b16 then(some true) else((c 76 [a1]).bind λr17=>
(D.un .not r17).bind λx18=>
 D.truth x18)).bind λb19=>
 qT (D.bool b19) λb20=>
(if b20 then(some true) else((c 77 [a1]).bind λr21=>
 qS r21 λl22=>
 D.truth (D.bool (D.beq (Jn (l22.length)) (Jn 0))))).bind λb23=>
 qT (D.bool b23) λb24=>
 if b24 then((c 125 []).bind λr25=>
 some r25) else((c 77 [a0]).bind λr26=>
(c 77 [a1]).bind λr27=>
(c 143 [r26,r27]).bind λr28=>
(D.tupAt r28 0).bind λx29=>
(D.tupAt r28 1).bind λx30=>
(qG a0 [1] λx31=>
 qG a1 [1] λx32=>
 qT (D.bool (!(D.beq x31 x32))) λb33=>
(if b33 then(qS x30 λl34=>
 qB .gtr (Jn (l34.length)) (Jn 0) λx35=>
 D.truth x35) else(some false)).bind λb36=>
 qT (D.bool b36) λb37=>
 if b37 then((c 82 [x29,(D.sl [(Jn 1)])]).bind λr38=>
 some (0,[r38])) else(some (0,[x29]))).bind λ(r39:Nat×List D)=>
 qG a0 [1] λx40=>
 qG a1 [1] λx41=>
(c 81 [(D.bool (!(D.beq x40 x41))),(gx r39.2 0)]).bind λr42=>
 some r42))
def Xq{lp}(hlp:ar lp):aj 87 (m2 (Mm lp)):=a8 0 Tryz.f74 Wq hlp
def Mn(lp:Lp)(c:Ca)(a0:D):Option D:=
 qG a0 [0] λx1=>
(c 76 [x1]).bind λr2=>
 qN r2 λb4=>
(if b4 then(some true) else(qG a0 [1] λx5=>
(c 76 [x5]).bind λr6=>
(D.un .not r6).bind λx7=>
 D.truth x7)).bind λb8=>
 qT (D.bool b8) λb9=>
 if b9 then(some (D.bool false)) else(qG a0 [1] λx10=>
(c 83 [x10]).bind λr11=>
 qC .gtr r11 (Jn 0) λb13=>
(if b13 then(qG a0 [0] λx14=>
 qG a0 [1] λx15=>
(c 85 [x14,x15]).bind λr16=>
(c 133 []).bind λr17=>
 D.truth (D.bool (D.beq r16 r17))) else(some false)).bind λb18=>
 some (D.bool b18))
def Xr{lp}(hlp:ar lp):aj 88 (m1 (Mn lp)):=ba 0 Tryz.f65 .leaf hlp
def Wr:Ann:=(.tl (.tl (.tl (.tl (.tl (.two (.reg [] 11) .leaf))))))
def LK(lp:Lp)(c:Ca)(a0:D)(a1:D):Option D:=
(c 124 [a0]).bind λr1=>
(D.tupAt r1 0).bind λx2=>
(D.tupAt r1 1).bind λx3=>
(c 124 [a1]).bind λr4=>
(D.tupAt r4 0).bind λx5=>
(D.tupAt r4 1).bind λx6=>
 qT x3 λb7=>
(if b7 then(D.truth x6) else(some false)).bind λb8=>
 qT (D.bool b8) λb9=>
(if b9 then((c 145 [x2]).bind λr10=>
 D.truth r10) else(some false)).bind λb11=>
 qT (D.bool b11) λb12=>
(if b12 then((c 145 [x5]).bind λr13=>
 D.truth r13) else(some false)).bind λb14=>
 qT (D.bool b14) λb15=>
 if b15 then(qB .mul x2 x5 λx16=>
(c 34 [x16]).bind λr17=>
 some r17) else((c 76 [a0]).bind λr18=>
 qN r18 λb20=>
(if b20 then(some true) else((c 76 [a1]).bind λr21=>
(D.un .not r21).bind λx22=>
 D.truth x22)).bind λb23=>
 qT (D.bool b23) λb24=>
 if b24 then((c 125 []).bind λr25=>
 some r25) else(qG a0 [1] λx26=>
 qG a1 [1] λx27=>
(c 77 [a0]).bind λr28=>
(c 77 [a1]).bind λr29=>
(c 146 [r28,r29]).bind λr30=>
(c 81 [(D.bool (!(D.beq x26 x27))),r30]).bind λr31=>
 some r31))
def Xs{lp}(hlp:ar lp):aj 89 (m2 (LK lp)):=a8 0 Tryz.f68 Wr hlp
def Vm:Ann:=(.tl (.two (.reg [] 7) .leaf))
def Xt{lp}(hlp:ar lp):aj 90 (fD 0 lp 90 Tryz.f158 Vm):=cB hlp (by kernel_rfl) (by kernel_rfl)
def Ws:Ann:=(.tl (.two (.reg [] 5) .leaf))
def Ow(lp:Lp)(c:Ca)(a0:D)(a1:D):Option D:=
(c 148 [a0]).bind λr1=>
(c 148 [a1]).bind λr2=>
(c 147 [r1,r2]).bind λr3=>
 some r3
def Xu{lp}(hlp:ar lp):aj 91 (m2 (Ow lp)):=a8 0 Tryz.f177 Ws hlp
def Wt:Ann:=(.tl (.two (.reg [] 8) (.cut [(.normal,⟨[(3,.sp K1 4099),(6,.sp dN 4102),(7,.sp K1 8199)],[(4099,.keep K1 3),(4102,.keep dN 6),(8199,.one K1 (.dv K1))],[]⟩)] [] [4099,4102] (.two (.reg [] 8) (.tl (.two (.reg [] 13) .leaf))) (.two (.reg [] 5) .leaf))))
def Ox(lp:Lp)(c:Ca)(a0:D)(a1:D)(a2:D):Option D:=
(c 103 [a1,a0]).bind λr1=>
(c 103 [a2,a0]).bind λr2=>
(c 117 [r1,r2]).bind λr3=>
(qG r3 [0] λx4=>
 qG r3 [1] λx5=>
(c 152 [x4,x5]).bind λr6=>
 qG r3 [2] λx7=>
(c 152 [r6,x7]).bind λr8=>
 qC .gtr r8 (Jn 1) λb10=>
 if b10 then(qG r3 [0] λx11=>
 qB .quo x11 r8 λx12=>
 qG r3 [1] λx13=>
 qB .quo x13 r8 λx14=>
 qG r3 [2] λx15=>
 qB .quo x15 r8 λx16=>
 some (0,[(D.st [x12,x14,x16])])) else(some (0,[r3]))).bind λ(r17:Nat×List D)=>
(c 101 [(gx r17.2 0),a0]).bind λr18=>
 some (D.st [(gx r17.2 0),r18])
def Xv{lp}(hlp:ar lp):aj 96 (m3 (Ox lp)):=lM 0 Tryz.f232 Wt hlp
def Oy(lp:Lp)(c:Ca)(a0:D):Option D:=
 qG a0 [0] λx1=>
(D.un .neg x1).bind λx2=>
 qG a0 [1] λx3=>
(D.un .neg x3).bind λx4=>
 qG a0 [2] λx5=>
(D.un .neg x5).bind λx6=>
 some (D.st [x2,x4,x6])
def Xw{lp}(hlp:ar lp):aj 97 (m1 (Oy lp)):=ba 0 Tryz.f233 .leaf hlp
def Wu:Ann:=(.tl (.tl (.two (.tl (.two (.loop ⟨[(3,.sp dN 4099),(5,.dv Ty.bool),(11,.di)],[(4099,.keep dN 3)],[9,10]⟩ [(.ret,⟨[(4,.dv Ty.bool)],[],[]⟩),(.exit 0,⟨[(5,.dv Ty.bool)],[],[]⟩)] .leaf) .leaf)) .leaf)))
def Oz(lp:Lp)(c:Ca)(a0:D)(a1:D):Option D:=
 qS a0 λl1=>
(qZ lp (λv2=>
 qC .lss (gx v2 1) (Jn (l1.length)) λb4=>
 if b4 then(qX a0 (gx v2 1) λx7=>
 qG a1 [0] λx8=>
(c 101 [x8,x7]).bind λr9=>
 qG a1 [1] λx10=>
 qC .gtr r9 x10 λb12=>
 if b12 then(iR (0,[(D.bool false)])) else(qT (gx v2 0) λb13=>
(if b13 then(qG a1 [1] λx14=>
 D.truth (D.bool (D.beq r9 x14))) else(some false)).bind λb15=>
 qB .add (gx v2 1) (Jn 1) λx16=>
 iL [(D.bool b15),x16])) else(iR (1,[(gx v2 0)]))) [(D.bool true),(Jn 0)]).bind λr17=>
 if r17.1=0 then(some (gx r17.2 0)) else((D.un .not (gx r17.2 0)).bind λx18=>
 some x18)
def Xx{lp}(hlp:ar lp):aj 98 (m2 (Oz lp)):=a8 0 Tryz.f234 Wu hlp
def ON:Ann:=(.tl (.two (.reg [] 23) .leaf))
def GE(lp:Lp)(c:Ca)(a0:D)(a1:D):Option D:=
 qG a0 [0,0] λx1=>
 qG a1 [0,0] λx2=>
(c 53 [x1,x2]).bind λr3=>
 qG a0 [0,1] λx4=>
 qG a1 [0,1] λx5=>
(c 53 [x4,x5]).bind λr6=>
 qG a0 [0,2] λx7=>
 qG a1 [0,2] λx8=>
(c 53 [x7,x8]).bind λr9=>
(c 52 [(D.sl [r3,r6,r9])]).bind λr10=>
 some r10
def P2{lp}(hlp:ar lp):aj 100 (m2 (GE lp)):=a8 0 Tryz.f236 ON hlp
def D8(lp:Lp)(c:Ca)(a0:D)(a1:D):Option D:=
 qG a0 [0] λx1=>
 qG a1 [0] λx2=>
 qB .mul x1 x2 λx3=>
 qG a0 [1] λx4=>
 qG a1 [1] λx5=>
 qB .mul x4 x5 λx6=>
 qB .add x3 x6 λx7=>
 qG a0 [2] λx8=>
 qG a1 [2] λx9=>
 qB .mul x8 x9 λx10=>
 qB .add x7 x10 λx11=>
 some x11
def P3{lp}(hlp:ar lp):aj 101 (m2 (D8 lp)):=a8 0 Tryz.f239 .leaf hlp
def OO:Ann:=(.tl (.two (.reg [] 4) .leaf))
def GF(lp:Lp)(c:Ca)(a0:D)(a1:D):Option D:=
(c 97 [a1]).bind λr1=>
(c 154 [a0,r1]).bind λr2=>
 some r2
def P4{lp}(hlp:ar lp):aj 103 (m2 (GF lp)):=a8 0 Tryz.f241 OO hlp
def OP:Ann:=(.tl (.tl (.two (.tl (.two (.loop ⟨[(7,.sp K1 8199),(14,.di)],[(8199,.keep K1 7)],[13]⟩ [(.ret,⟨[(6,.di)],[],[]⟩),(.exit 0,⟨[],[],[]⟩)] .leaf) .leaf)) .leaf)))
def GG(lp:Lp)(c:Ca)(a0:D)(a1:D)(a2:D):Option D:=
(c 117 [a1,a2]).bind λr1=>
(qZ lp (λv2=>
 qC .lss (gx v2 0) (Jn 3) λb4=>
 if b4 then((D.idx (gx v2 0) 3).bind λi5=>
(D.fld a0 i5).bind λx6=>
 qT (D.bool (!(D.beq x6 (Jn 0)))) λb7=>
 if b7 then(qJ (gx v2 0) 3 r1 λx9=>
(c 53 [x9,(Jn 0)]).bind λr10=>
(c 53 [x6,(Jn 0)]).bind λr11=>
 qB .mul r10 r11 λx12=>
 iR (0,[x12])) else(qB .add (gx v2 0) (Jn 1) λx13=>
 iL [x13])) else(iR (1,[]))) [(Jn 0)]).bind λr14=>
 if r14.1=0 then(some (gx r14.2 0)) else(some (Jn 0))
def P5{lp}(hlp:ar lp):aj 104 (m3 (GG lp)):=lM 0 Tryz.f242 OP hlp
def GH(lp:Lp)(c:Ca)(a0:D)(a1:D):Option D:=
 qG a0 [0] λx1=>
 qG a1 [0] λx2=>
 qT (D.bool (!(D.beq x1 x2))) λb3=>
 if b3 then(qG a0 [0] λx4=>
 qG a1 [0] λx5=>
 qB .lss x4 x5 λx6=>
 some x6) else(qG a0 [1] λx7=>
 qG a1 [1] λx8=>
 qT (D.bool (!(D.beq x7 x8))) λb9=>
 if b9 then(qG a0 [1] λx10=>
 qG a1 [1] λx11=>
 qB .lss x10 x11 λx12=>
 some x12) else(qG a0 [2] λx13=>
 qG a1 [2] λx14=>
 qB .lss x13 x14 λx15=>
 some x15))
def P6{lp}(hlp:ar lp):aj 105 (m2 (GH lp)):=a8 0 Tryz.f224 .leaf hlp
def OQ:Ann:=(.tl (.two (.reg [] 8) .leaf))
def GI(lp:Lp)(c:Ca)(a0:D)(a1:D)(a2:D):Option D:=
(c 112 [a1,a0]).bind λr1=>
(c 112 [a2,a0]).bind λr2=>
(c 123 [r1,r2]).bind λr3=>
(c 80 [r3]).bind λr4=>
(c 155 [r4]).bind λr5=>
 qG r5 [0] λx6=>
 some x6
def P7{lp}(hlp:ar lp):aj 106 (m3 (GI lp)):=lM 0 Tryz.f225 OQ hlp
def GJ(lp:Lp)(c:Ca)(a0:D)(a1:D):Option D:=
 qG a0 [0] λx1=>
 qG a1 [0] λx2=>
 qB .mul x1 x2 λx3=>
 qG a0 [1] λx4=>
 qG a1 [1] λx5=>
 qB .mul x4 x5 λx6=>
 qB .add x3 x6 λx7=>
 qG a0 [2] λx8=>
 qG a1 [2] λx9=>
 qB .mul x8 x9 λx10=>
 qB .add x7 x10 λx11=>
 some x11
def P8{lp}(hlp:ar lp):aj 107 (m2 (GJ lp)):=a8 0 Tryz.f226 .leaf hlp
def OR:Ann:=(.tl (.two (.tl (.two (.loop ⟨[(3,.sp K1 4099),(5,.di)],[(4099,.keep K1 3)],[0]⟩ [(.ret,⟨[(4,.dv Ty.bool)],[],[]⟩),(.exit 0,⟨[],[],[]⟩)] (.tl (.two (.two (.two (.reg [] 6) .leaf) .leaf) .leaf))) .leaf)) .leaf))
def GK(lp:Lp)(c:Ca)(a0:D)(a1:D):Option D:=
(qZ lp (λv1=>
 qL a0 (gx v1 0) λb4=>
 if b4 then(qX a0 (gx v1 0) λx7=>
(D.fld x7 0).bind λx8=>
 qT (D.bool (D.beq x8 a1)) λb9=>
 if b9 then(iR (0,[(D.bool true)])) else(qB .add (gx v1 0) (Jn 1) λx10=>
 iL [x10])) else(iR (1,[]))) [(Jn 0)]).bind λr11=>
 if r11.1=0 then(some (gx r11.2 0)) else(some (D.bool false))
def P9{lp}(hlp:ar lp):aj 108 (m2 (GK lp)):=a8 0 Tryz.f227 OR hlp
def OS:Ann:=(.tl (.tl (.two (.tl (.two (.loop ⟨[(4,.sp K1 4100),(7,.dv Ty.bool),(8,.di)],[(4100,.keep K1 4)],[0,2]⟩ [(.ret,⟨[(6,.dv Ty.bool)],[],[]⟩),(.exit 0,⟨[(7,.dv Ty.bool)],[],[]⟩)] (.tl (.two (.two (.two (.reg [] 6) .leaf) .leaf) .leaf))) .leaf)) .leaf)))
def GL(lp:Lp)(c:Ca)(a0:D)(a1:D)(a2:D):Option D:=
(qZ lp (λv1=>
 qL a0 (gx v1 1) λb4=>
 if b4 then(qX a0 (gx v1 1) λx7=>
(c 107 [a1,x7]).bind λr8=>
 qC .gtr r8 a2 λb10=>
 if b10 then(iR (0,[(D.bool false)])) else(qT (gx v1 0) λb11=>
(if b11 then(some true) else(qB .lss r8 a2 λx12=>
 D.truth x12)).bind λb13=>
 qB .add (gx v1 1) (Jn 1) λx14=>
 iL [(D.bool b13),x14])) else(iR (1,[(gx v1 0)]))) [(D.bool false),(Jn 0)]).bind λr15=>
 if r15.1=0 then(some (gx r15.2 0)) else(some (gx r15.2 0))
def Qa{lp}(hlp:ar lp):aj 109 (m3 (GL lp)):=lM 0 Tryz.f228 OS hlp
end Sy
end
end
noncomputable section
set_option maxHeartbeats 0
noncomputable section
namespace Sy
open Go Go.Proofs
def OT:Ann:=let o0:LS:=[(3,.sp K6 4099),(5,.ow K6),(6,.dv Ty.bool)]
 (.tl (.tl (.tl (.two (.tl (.two (.loop ⟨[(3,.sp K6 4099),(5,.ow K6),(6,.dv Ty.bool),(7,.di)],[(4099,.keep K6 3)],[0]⟩ [(.exit 0,⟨o0,[(4099,.keep K6 3)],[]⟩)] (.tl (.two (.two (.two (.reg [] 8) (.cut [(.normal,⟨o0,[(4099,.keep K6 3)],[0,7]⟩)] [0,7] [4099] .leaf .leaf)) .leaf) .leaf))) .leaf)) (.cut [(.normal,⟨[(5,.ow K6)],[],[]⟩)] [] [] .leaf .leaf)))))
def GM(lp:Lp)(c:Ca)(a0:D)(a1:D):Option D:=
(qZ lp (λv1=>
 qL a0 (gx v1 2) λb4=>
 if b4 then(qG a1 [0] λx5=>
 qX a0 (gx v1 2) λx8=>
(D.fld x8 0).bind λx9=>
(c 105 [x5,x9]).bind λr10=>
(qN (gx v1 1) λb12=>
(if b12 then(D.truth r10) else(some false)).bind λb13=>
 qT (D.bool b13) λb14=>
 if b14 then(if List.length (qV v1 0)+List.length [a1]<=1073741824 then(some (0,[(D.sl ((qV v1 0)++[a1])),(D.bool true)])) else none) else(some (0,[(qW v1 0),(gx v1 1)]))).bind λ(r15:Nat×List D)=>
 qX a0 (gx v1 2) λx18=>
 if List.length (qV r15.2 0)+List.length [x18]<=1073741824 then(qB .add (gx v1 2) (Jn 1) λx19=>
 iL [(D.sl ((qV r15.2 0)++[x18])),(gx r15.2 1),x19]) else none) else(iR (0,[(qW v1 0),(gx v1 1)]))) [(D.sl []),(D.bool false),(Jn 0)]).bind λr20=>
(qN (gx r20.2 1) λb22=>
 if b22 then(if List.length (qV r20.2 0)+List.length [a1]<=1073741824 then(some (0,[(D.sl ((qV r20.2 0)++[a1]))])) else none) else(some (0,[(qW r20.2 0)]))).bind λ(r23:Nat×List D)=>
 some (qW r23.2 0)
def Qb{lp}(hlp:ar lp):aj 110 (m2 (GM lp)):=a8 0 Tryz.f229 OT hlp
def OU:Ann:=let o0:LS:=[(4,.sp K1 4100),(7,.ow Ti),(8,.di)]
 let o1:LS:=[(4,.sp K1 4100),(7,.ow Ti),(11,.di)]
 (.tl (.tl (.tl (.two (.tl (.two (.loop ⟨[(4,.sp K1 4100),(7,.ow Ti),(8,.di),(9,.di)],[(4100,.keep K1 4)],[0,2]⟩ [(.exit 0,⟨o0,[(4100,.keep K1 4)],[0,2]⟩)] (.tl (.cut [(.normal,⟨o0,[(4100,.keep K1 4)],[0,2,9]⟩)] [0,2,9] [4100] (.two (.two (.reg [] 7) .leaf) .leaf) .leaf))) .leaf)) (.tl (.two (.two (.loop ⟨o0,[(4100,.keep K1 4)],[0,2,10]⟩ [(.exit 2,⟨[(7,.ow Ti)],[],[]⟩)] (.tl (.two (.tl (.tl (.two (.tl (.two (.loop ⟨[(4,.sp K1 4100),(7,.ow Ti),(11,.di),(12,.di)],[(4100,.keep K1 4)],[0,2,8,10]⟩ [(.exit 4,⟨o1,[(4100,.keep K1 4)],[0,2,10]⟩)] (.tl (.cut [(.normal,⟨o1,[(4100,.keep K1 4)],[0,2,8,10,12]⟩)] [0,2,8,10,12] [4100] (.two (.tl (.two (.two (.reg [] 12) .leaf) .leaf)) .leaf) .leaf))) .leaf)) .leaf))) .leaf))) .leaf) .leaf))))))
def GN(lp:Lp)(c:Ca)(a0:D)(a1:D)(a2:D):Option D:=
(qZ lp (λv1=>
 qL a0 (gx v1 2) λb4=>
(if b4 then(qB .lss (gx v1 1) (Jn 0) λx5=>
 D.truth x5) else(some false)).bind λb6=>
 qT (D.bool b6) λb7=>
 if b7 then((qX a0 (gx v1 2) λx10=>
(c 107 [a1,x10]).bind λr11=>
 qT (D.bool (D.beq r11 a2)) λb12=>
 if b12 then(some (0,[(qW v1 0),(gx v1 2)])) else(some (0,[(qW v1 0),(gx v1 1)]))).bind λ(r13:Nat×List D)=>
 qB .add (gx v1 2) (Jn 1) λx14=>
 iL [(qW r13.2 0),(gx r13.2 1),x14]) else(iR (0,[(qW v1 0),(gx v1 1)]))) [(D.sl []),(Jn (-1)),(Jn 0)]).bind λr15=>
(qZ lp (λv16=>
 qS a0 λl17=>
 qC .leq (Jn (List.length (qV v16 0))) (Jn (l17.length)) λb19=>
 if b19 then(if List.length (qV v16 0)+List.length [(gx v16 1)]<=1073741824 then((qZ lp (λv20=>
 qL a0 (gx v20 2) λb23=>
(if b23 then(qB .lss (gx v20 1) (Jn 0) λx24=>
 D.truth x24) else(some false)).bind λb25=>
 qT (D.bool b25) λb26=>
 if b26 then((qT (D.bool (!(D.beq (gx v20 2) (gx v16 1)))) λb27=>
(if b27 then(qX a0 (gx v20 2) λx30=>
(c 107 [a1,x30]).bind λr31=>
 D.truth (D.bool (D.beq r31 a2))) else(some false)).bind λb32=>
 qT (D.bool b32) λb33=>
 if b33 then(qX a0 (gx v16 1) λx36=>
 qX a0 (gx v20 2) λx39=>
(c 156 [a0,a1,a2,x36,x39]).bind λr40=>
 qT r40 λb41=>
 if b41 then(some (0,[(qW v20 0),(gx v20 2)])) else(some (0,[(qW v20 0),(gx v20 1)]))) else(some (0,[(qW v20 0),(gx v20 1)]))).bind λ(r42:Nat×List D)=>
 qB .add (gx v20 2) (Jn 1) λx43=>
 iL [(qW r42.2 0),(gx r42.2 1),x43]) else(iR (0,[(qW v20 0),(gx v20 1)]))) [(D.sl ((qV v16 0)++[(gx v16 1)])),(Jn (-1)),(Jn 0)]).bind λr44=>
 qT (D.bool (D.beq (gx r44.2 1) (gx r15.2 1))) λb45=>
(if b45 then(some true) else(qB .lss (gx r44.2 1) (Jn 0) λx46=>
 D.truth x46)).bind λb47=>
 qT (D.bool b47) λb48=>
 if b48 then(iR (0,[(qW r44.2 0)])) else(iL [(qW r44.2 0),(gx r44.2 1)])) else none) else(iR (0,[(qW v16 0)]))) [(qW r15.2 0),(gx r15.2 1)]).bind λr49=>
 some (qW r49.2 0)
def Qc{lp}(hlp:ar lp):aj 111 (m3 (GN lp)):=lM 0 Tryz.f230 OU hlp
def GO(lp:Lp)(c:Ca)(a0:D)(a1:D):Option D:=
 qG a0 [0] λx1=>
 qG a1 [0] λx2=>
 qB .sub x1 x2 λx3=>
 qG a0 [1] λx4=>
 qG a1 [1] λx5=>
 qB .sub x4 x5 λx6=>
 qG a0 [2] λx7=>
 qG a1 [2] λx8=>
 qB .sub x7 x8 λx9=>
 some (D.st [x3,x6,x9])
def Qd{lp}(hlp:ar lp):aj 112 (m2 (GO lp)):=a8 0 Tryz.f26 .leaf hlp
def GP(lp:Lp)(c:Ca)(a0:D):Option D:=
 some (D.bool (!(D.beq a0 a0)))
def Qe{lp}(hlp:ar lp):aj 115 (m1 (GP lp)):=ba 0 Tryz.f250 .leaf hlp
def OV:Ann:=(.tl (.two (.reg [] 8) .leaf))
def GQ(lp:Lp)(c:Ca)(a0:D)(a1:D):Option D:=
 qT a0 λb1=>
(if b1 then(D.truth (D.bool (!(D.beq a1 (D.st (D.putParts (List.replicate 16 (D.int .u32 0)) [])))))) else(some false)).bind λb2=>
 some (D.st [(D.bool false),(D.bool b2),a1])
def Qf{lp}(hlp:ar lp):aj 116 (m2 (GQ lp)):=a8 0 Tryz.f133 OV hlp
def GR(lp:Lp)(c:Ca)(a0:D)(a1:D):Option D:=
 qG a0 [1] λx1=>
 qG a1 [2] λx2=>
 qB .mul x1 x2 λx3=>
 qG a0 [2] λx4=>
 qG a1 [1] λx5=>
 qB .mul x4 x5 λx6=>
 qB .sub x3 x6 λx7=>
 qG a0 [2] λx8=>
 qG a1 [0] λx9=>
 qB .mul x8 x9 λx10=>
 qG a0 [0] λx11=>
 qG a1 [2] λx12=>
 qB .mul x11 x12 λx13=>
 qB .sub x10 x13 λx14=>
 qG a0 [0] λx15=>
 qG a1 [1] λx16=>
 qB .mul x15 x16 λx17=>
 qG a0 [1] λx18=>
 qG a1 [0] λx19=>
 qB .mul x18 x19 λx20=>
 qB .sub x17 x20 λx21=>
 some (D.st [x7,x14,x21])
def Qg{lp}(hlp:ar lp):aj 117 (m2 (GR lp)):=a8 0 Tryz.f178 .leaf hlp
def OX:Ann:=(.tl (.two (.tl (.two (.loop ⟨[(7,.di)],[],[5,6]⟩ [(.ret,⟨[(2,.dv Ty.bool)],[],[]⟩),(.exit 0,⟨[],[],[]⟩)] .leaf) .leaf)) .leaf))
def GS(lp:Lp)(c:Ca)(a0:D):Option D:=
 qS a0 λl1=>
(qZ lp (λv2=>
 qC .lss (gx v2 0) (Jn (l1.length)) λb4=>
 if b4 then(qX a0 (gx v2 0) λx7=>
 qG x7 [0] λx8=>
 qT x8 λb9=>
(if b9 then(some true) else((c 167 [x7]).bind λr10=>
(D.un .not r10).bind λx11=>
 D.truth x11)).bind λb12=>
 qT (D.bool b12) λb13=>
 if b13 then(iR (0,[(D.bool false)])) else(qB .add (gx v2 0) (Jn 1) λx14=>
 iL [x14])) else(iR (1,[]))) [(Jn 0)]).bind λr15=>
 if r15.1=0 then(some (gx r15.2 0)) else(some (D.bool true))
def Qh{lp}(hlp:ar lp):aj 118 (m1 (GS lp)):=ba 0 Tryz.f144 OX hlp
def GT(lp:Lp)(c:Ca) :Option D:=
 some (D.st [(D.bool true),(D.bool false),(aJ bf)])
def Qi{lp}(hlp:ar lp):aj 119 (m0 (GT lp)):=u7 0 Tryz.f89 .leaf hlp
def OY:Ann:=(.tl (.tl (.tl (.two (.tl (.two (.loop ⟨[(2,.sp bf 4098),(3,.sp bf 4099),(4,.sp bf 4100),(6,.sp bf 8198),(7,.dv (Ty.int .u64)),(9,.di)],[(4098,.keep bf 2),(4099,.keep bf 3),(4100,.keep bf 4),(8198,.one bf (.dv bf))],[]⟩ [(.exit 0,⟨[(4,.sp bf 4100),(6,.sp bf 8198),(7,.dv (Ty.int .u64))],[(4100,.keep bf 4),(8198,.one bf (.dv bf))],[]⟩)] (.tl (.tl (.two (.two (.tl (.two (.reg [] 11) .leaf)) .leaf) .leaf)))) .leaf)) .leaf))))
def GU(lp:Lp)(c:Ca)(a0:D)(a1:D):Option D:=
(qZ lp (λv1=>
 qC .lss (gx v1 1) (Jn 16) λb3=>
 if b3 then(qJ (gx v1 1) 16 a0 λx5=>
(D.conv .u64 x5).bind λx6=>
 qJ (gx v1 1) 16 a1 λx8=>
(D.conv .u64 x8).bind λx9=>
 qB .add x6 x9 λx10=>
 qB .add (gx v1 0) x10 λx11=>
(D.conv .u32 x11).bind λx12=>
(D.idx (gx v1 1) 16).bind λi13=>
(D.set (gx v1 2) [i13] x12).bind λx14=>
 qB .shr x11 (D.int .u64 32) λx15=>
 qB .add (gx v1 1) (Jn 1) λx16=>
 iL [x15,x16,x14]) else(iR (0,[(gx v1 0),(gx v1 2)]))) [(D.int .u64 0),(Jn 0),(aJ bf)]).bind λr17=>
 some (D.tup [(gx r17.2 1),(D.bool (D.beq (gx r17.2 0) (D.int .u64 0)))])
def Qj{lp}(hlp:ar lp):aj 120 (m2 (GU lp)):=a8 0 Tryz.f155 OY hlp
def OZ:Ann:=(.tl (.two (.tl (.two (.loop ⟨[(2,.sp bf 4098),(3,.sp bf 4099),(5,.di)],[(4098,.keep bf 2),(4099,.keep bf 3)],[]⟩ [(.ret,⟨[(4,.di)],[],[]⟩),(.exit 0,⟨[],[],[]⟩)] (.tl (.two (.two (.two (.reg [] 6) (.two (.two (.reg [] 7) .leaf) .leaf)) .leaf) .leaf))) .leaf)) .leaf))
def GV(lp:Lp)(c:Ca)(a0:D)(a1:D):Option D:=
(qZ lp (λv1=>
 qC .geq (gx v1 0) (Jn 0) λb3=>
 if b3 then(qJ (gx v1 0) 16 a0 λx5=>
 qJ (gx v1 0) 16 a1 λx7=>
 qT (D.bool (!(D.beq x5 x7))) λb8=>
 if b8 then(qJ (gx v1 0) 16 a0 λx10=>
 qJ (gx v1 0) 16 a1 λx12=>
(c 168 [x10,x12]).bind λr13=>
 iR (0,[r13])) else(qB .sub (gx v1 0) (Jn 1) λx14=>
 iL [x14])) else(iR (1,[]))) [(Jn 15)]).bind λr15=>
 if r15.1=0 then(some (gx r15.2 0)) else(some (Jn 0))
def Qk{lp}(hlp:ar lp):aj 121 (m2 (GV lp)):=a8 0 Tryz.f156 OZ hlp
def O0:Ann:=(.tl (.tl (.tl (.two (.tl (.two (.loop ⟨[(2,.sp bf 4098),(3,.sp bf 4099),(4,.sp bf 4100),(5,.sp bf 8197),(6,.dv (Ty.int .u64)),(9,.di)],[(4098,.keep bf 2),(4099,.keep bf 3),(4100,.keep bf 4),(8197,.one bf (.dv bf))],[]⟩ [(.exit 0,⟨[(4,.sp bf 4100),(5,.sp bf 8197)],[(4100,.keep bf 4),(8197,.one bf (.dv bf))],[]⟩)] (.tl (.tl (.two (.two (.tl (.two (.reg [] 11) .leaf)) .leaf) .leaf)))) .leaf)) .leaf))))
def GW(lp:Lp)(c:Ca)(a0:D)(a1:D):Option D:=
(qZ lp (λv1=>
 qC .lss (gx v1 1) (Jn 16) λb3=>
 if b3 then(qJ (gx v1 1) 16 a0 λx5=>
(D.conv .u64 x5).bind λx6=>
 qJ (gx v1 1) 16 a1 λx8=>
(D.conv .u64 x8).bind λx9=>
 qB .sub x6 x9 λx10=>
 qB .sub x10 (gx v1 0) λx11=>
(D.conv .u32 x11).bind λx12=>
(D.idx (gx v1 1) 16).bind λi13=>
(D.set (gx v1 2) [i13] x12).bind λx14=>
 qB .shr x11 (D.int .u64 63) λx15=>
 qB .add (gx v1 1) (Jn 1) λx16=>
 iL [x15,x16,x14]) else(iR (0,[(gx v1 2)]))) [(D.int .u64 0),(Jn 0),(aJ bf)]).bind λr17=>
 some (gx r17.2 0)
def Ql{lp}(hlp:ar lp):aj 122 (m2 (GW lp)):=a8 0 Tryz.f157 O0 hlp
def GX(lp:Lp)(c:Ca)(a0:D)(a1:D):Option D:=
 qG a0 [1] λx1=>
 qG a1 [2] λx2=>
 qB .mul x1 x2 λx3=>
 qG a0 [2] λx4=>
 qG a1 [1] λx5=>
 qB .mul x4 x5 λx6=>
 qB .sub x3 x6 λx7=>
 qG a0 [2] λx8=>
 qG a1 [0] λx9=>
 qB .mul x8 x9 λx10=>
 qG a0 [0] λx11=>
 qG a1 [2] λx12=>
 qB .mul x11 x12 λx13=>
 qB .sub x10 x13 λx14=>
 qG a0 [0] λx15=>
 qG a1 [1] λx16=>
 qB .mul x15 x16 λx17=>
 qG a0 [1] λx18=>
 qG a1 [0] λx19=>
 qB .mul x18 x19 λx20=>
 qB .sub x17 x20 λx21=>
 some (D.st [x7,x14,x21])
def Qm{lp}(hlp:ar lp):aj 123 (m2 (GX lp)):=a8 0 Tryz.f186 .leaf hlp
def O1:Ann:=(.tl (.tl (.tl (.two (.tl (.two (.loop ⟨[(1,.sp aK 4097),(5,.di)],[(4097,.keep aK 1)],[]⟩ [(.ret,⟨[(2,.di),(3,.dv Ty.bool)],[],[]⟩),(.exit 0,⟨[(1,.sp aK 4097)],[(4097,.keep aK 1)],[]⟩)] .leaf) .leaf)) .leaf))))
def Cw(lp:Lp)(c:Ca)(a0:D):Option D:=
(c 76 [a0]).bind λr1=>
 qN r1 λb3=>
(if b3 then(some true) else(qG a0 [2,1] λx4=>
 qB .geq x4 (D.int .u32 1073741824) λx5=>
 D.truth x5)).bind λb6=>
 qT (D.bool b6) λb7=>
 if b7 then(some (D.tup [(Jn 0),(D.bool false)])) else((qZ lp (λv8=>
 qC .lss (gx v8 0) (Jn 16) λb10=>
 if b10 then((D.idx (gx v8 0) 16).bind λi11=>
 qG a0 [2,i11] λx12=>
 qT (D.bool (!(D.beq x12 (D.int .u32 0)))) λb13=>
 if b13 then(iR (0,[(Jn 0),(D.bool false)])) else(qB .add (gx v8 0) (Jn 1) λx14=>
 iL [x14])) else(iR (1,[]))) [(Jn 2)]).bind λr15=>
 if r15.1=0 then(some (D.tup [(gx r15.2 0),(gx r15.2 1)])) else(qG a0 [2,1] λx16=>
(D.conv .i64 x16).bind λx17=>
 qB .mul x17 (Jn 4294967296) λx18=>
 qG a0 [2,0] λx19=>
(D.conv .i64 x19).bind λx20=>
 qB .add x18 x20 λx21=>
 qG a0 [1] λx22=>
 qT x22 λb23=>
 if b23 then((D.un .neg x21).bind λx24=>
 some (D.tup [x24,(D.bool true)])) else(some (D.tup [x21,(D.bool true)]))))
def Qn{lp}(hlp:ar lp):aj 124 (m1 (Cw lp)):=ba 0 Tryz.f117 O1 hlp
def GY(lp:Lp)(c:Ca) :Option D:=
 some (D.st [(D.bool true),(D.bool false),(aJ bf)])
def Qo{lp}(hlp:ar lp):aj 125 (m0 (GY lp)):=u7 0 Tryz.f100 .leaf hlp
def O2:Ann:=(.tl (.tl (.tl (.two (.tl (.two (.loop ⟨[(5,.ow Ti),(6,.di),(7,.di)],[],[0,1]⟩ [(.exit 0,⟨[(5,.ow Ti)],[],[]⟩)] (.tl (.two (.two (.two (.reg [] 10) (.tl (.cut [(.normal,⟨[(5,.ow Ti),(6,.di),(8,.di)],[],[0,1,7]⟩)] [0,1,7] [] .leaf .leaf))) .leaf) .leaf))) .leaf)) .leaf))))
def GZ(lp:Lp)(c:Ca)(a0:D)(a1:D):Option D:=
(qZ lp (λv1=>
 qL a0 (gx v1 2) λb4=>
 if b4 then(qX a0 (gx v1 2) λx7=>
(c 141 [a1,(gx v1 2)]).bind λr8=>
 qB .sub x7 r8 λx9=>
 qB .sub x9 (gx v1 1) λx10=>
(qC .lss x10 (Jn 0) λb12=>
 if b12 then(qB .add x10 (Jn 65536) λx13=>
 some (0,[(qW v1 0),(Jn 1),x13])) else(some (0,[(qW v1 0),(Jn 0),x10]))).bind λ(r14:Nat×List D)=>
 if List.length (qV r14.2 0)+List.length [(gx r14.2 2)]<=1073741824 then(qB .add (gx v1 2) (Jn 1) λx15=>
 iL [(D.sl ((qV r14.2 0)++[(gx r14.2 2)])),(gx r14.2 1),x15]) else none) else(iR (0,[(qW v1 0)]))) [(D.sl []),(Jn 0),(Jn 0)]).bind λr16=>
(c 140 [(qW r16.2 0)]).bind λr17=>
 some r17
def Qq{lp}(hlp:ar lp):aj 126 (m2 (GZ lp)):=a8 0 Tryz.f125 O2 hlp
def O3:Ann:=(.tl (.tl (.two (.two (.loop ⟨[(1,.sp bf 4097),(3,.di)],[(4097,.keep bf 1)],[]⟩ [(.exit 0,⟨[(3,.di)],[],[]⟩)] .leaf) .leaf) .leaf)))
def G0(lp:Lp)(c:Ca)(a0:D):Option D:=
(qZ lp (λv1=>
 qC .gtr (gx v1 0) (Jn 0) λb3=>
(if b3 then(qB .sub (gx v1 0) (Jn 1) λx4=>
 qJ x4 16 a0 λx6=>
 D.truth (D.bool (D.beq x6 (D.int .u32 0)))) else(some false)).bind λb7=>
 qT (D.bool b7) λb8=>
 if b8 then(qB .sub (gx v1 0) (Jn 1) λx9=>
 iL [x9]) else(iR (0,[(gx v1 0)]))) [(Jn 16)]).bind λr10=>
 some (gx r10.2 0)
def Qr{lp}(hlp:ar lp):aj 127 (m1 (G0 lp)):=ba 0 Tryz.f145 O3 hlp
def D9(lp:Lp)(c:Ca)(a0:D):Option D:=
 qG a0 [0] λx1=>
 qN x1 λb3=>
(if b3 then((c 167 [a0]).bind λr4=>
 D.truth r4) else(some false)).bind λb5=>
 some (D.bool b5)
def Qs{lp}(hlp:ar lp):aj 128 (m1 (D9 lp)):=ba 0 Tryz.f143 .leaf hlp
def G1(lp:Lp)(c:Ca)(a0:D):Option D:=
(c 118 [(D.sl [a0])]).bind λr1=>
 qN r1 λb3=>
(if b3 then(some true) else(qG a0 [2] λx4=>
 D.truth (D.bool (D.beq x4 (D.st (D.putParts (List.replicate 16 (D.int .u32 0)) [])))))).bind λb5=>
 qT (D.bool b5) λb6=>
 if b6 then(some (Jn 0)) else(qG a0 [1] λx7=>
 qT x7 λb8=>
 if b8 then(some (Jn (-1))) else(some (Jn 1)))
def Qt{lp}(hlp:ar lp):aj 129 (m1 (G1 lp)):=ba 0 Tryz.f113 .leaf hlp
def G2(lp:Lp)(c:Ca) :Option D:=
(c 119 []).bind λr1=>
(c 169 []).bind λr2=>
 some (D.st [r1,r2])
def Qu{lp}(hlp:ar lp):aj 130 (m0 (G2 lp)):=u7 0 Tryz.f43 .leaf hlp
def O4:Ann:=(.tl (.tl (.two (.tl (.two (.two (.reg [] 21) (.two (.two (.loop ⟨[(4,.sp aK 4100),(5,.dv (Ty.int .u64)),(6,.dv (Ty.int .u64))],[(4100,.keep aK 4)],[]⟩ [(.exit 0,⟨[(4,.sp aK 4100),(5,.dv (Ty.int .u64))],[(4100,.keep aK 4)],[]⟩)] (.tl (.two (.reg [] 5) .leaf))) .leaf) .leaf)) .leaf)) (.two (.two (.reg [] 6) (.tl (.two (.tl (.two (.reg [] 5) .leaf)) .leaf))) .leaf))))
def G3(lp:Lp)(c:Ca)(a0:D)(a1:D):Option D:=
(c 118 [(D.sl [a0,a1])]).bind λr1=>
 qN r1 λb3=>
 if b3 then((c 119 []).bind λr4=>
 some r4) else(qG a0 [2] λx5=>
(c 127 [x5]).bind λr6=>
 qC .leq r6 (Jn 2) λb8=>
(if b8 then(qG a1 [2] λx9=>
(c 127 [x9]).bind λr10=>
 qB .leq r10 (Jn 2) λx11=>
 D.truth x11) else(some false)).bind λb12=>
 qT (D.bool b12) λb13=>
 if b13 then(qG a0 [2,1] λx14=>
(D.conv .u64 x14).bind λx15=>
 qB .shl x15 (D.int .u64 32) λx16=>
 qG a0 [2,0] λx17=>
(D.conv .u64 x17).bind λx18=>
 qB .or x16 x18 λx19=>
 qG a1 [2,1] λx20=>
(D.conv .u64 x20).bind λx21=>
 qB .shl x21 (D.int .u64 32) λx22=>
 qG a1 [2,0] λx23=>
(D.conv .u64 x23).bind λx24=>
 qB .or x22 x24 λx25=>
(qZ lp (λv26=>
 qT (D.bool (!(D.beq (gx v26 1) (D.int .u64 0)))) λb27=>
 if b27 then(qB .rem (gx v26 0) (gx v26 1) λx28=>
 iL [(gx v26 1),x28]) else(iR (0,[(gx v26 0)]))) [x19,x25]).bind λr29=>
(D.conv .u32 (gx r29.2 0)).bind λx30=>
 qB .shr (gx r29.2 0) (D.int .u64 32) λx31=>
(D.conv .u32 x31).bind λx32=>
(c 116 [(D.bool false),(D.st (D.putParts (List.replicate 16 (D.int .u32 0)) [(0,x30),(1,x32)]))]).bind λr33=>
 some r33) else(qG a0 [2] λx34=>
 qG a1 [2] λx35=>
 qT (D.bool (!(D.beq x35 (D.st (D.putParts (List.replicate 16 (D.int .u32 0)) []))))) λb36=>
 if b36 then((c 170 [x34,x35]).bind λr37=>
(D.tupAt r37 0).bind λx38=>
(D.tupAt r37 1).bind λx39=>
(c 116 [(D.bool false),x35]).bind λr40=>
(c 116 [(D.bool false),x39]).bind λr41=>
(c 131 [r40,r41]).bind λr42=>
 some r42) else((c 171 [a0]).bind λr43=>
 some r43)))
def Qv{lp}(hlp:ar lp):aj 131 (m2 (G3 lp)):=a8 0 Tryz.f102 O4 hlp
def G4(lp:Lp)(c:Ca)(a0:D)(a1:D):Option D:=
(c 172 [a0,a1]).bind λr1=>
(D.tupAt r1 0).bind λx2=>
(D.tupAt r1 1).bind λx3=>
 some x2
def Qw{lp}(hlp:ar lp):aj 132 (m2 (G4 lp)):=a8 0 Tryz.f103 .leaf hlp
def G5(lp:Lp)(c:Ca) :Option D:=
(c 34 [(Jn 1)]).bind λr1=>
 some r1
def Qx{lp}(hlp:ar lp):aj 133 (m0 (G5 lp)):=u7 0 Tryz.f70 .leaf hlp
def O5:Ann:=(.tl (.tl (.two (.tl (.two (.loop ⟨[(2,.sp gK 4098),(3,.sp gK 4099),(4,.sp aX 4100),(5,.sp aX 8197),(8,.di)],[(4098,.keep gK 2),(4099,.keep gK 3),(4100,.keep aX 4),(8197,.one aX (.dv aX))],[]⟩ [(.exit 0,⟨[(4,.sp aX 4100),(5,.sp aX 8197)],[(4100,.keep aX 4),(8197,.one aX (.dv aX))],[]⟩)] (.tl (.tl (.two (.two (.tl (.reg [] 9)) .leaf) .leaf)))) .leaf)) .leaf)))
def G6(lp:Lp)(c:Ca)(a0:D)(a1:D):Option D:=
(c 74 [(Jn 0)]).bind λr1=>
(qZ lp (λv2=>
 qC .lss (gx v2 0) (Jn 3) λb4=>
 if b4 then(qJ (gx v2 0) 3 a0 λx6=>
 qJ (gx v2 0) 3 a1 λx8=>
(c 174 [x6,x8]).bind λr9=>
(c 173 [(gx v2 1),r9]).bind λr10=>
 qB .add (gx v2 0) (Jn 1) λx11=>
 iL [x11,r10]) else(iR (0,[(gx v2 1)]))) [(Jn 0),r1]).bind λr12=>
 some (gx r12.2 0)
def Qy{lp}(hlp:ar lp):aj 134 (m2 (G6 lp)):=a8 0 Tryz.f45 O5 hlp
def O6:Ann:=(.tl (.two (.reg [] 10) .leaf))
def G7(lp:Lp)(c:Ca)(a0:D):Option D:=
 qG a0 [0] λx1=>
(c 74 [x1]).bind λr2=>
 qG a0 [1] λx3=>
(c 74 [x3]).bind λr4=>
 qG a0 [2] λx5=>
(c 74 [x5]).bind λr6=>
 some (D.st [r2,r4,r6])
def Qz{lp}(hlp:ar lp):aj 135 (m1 (G7 lp)):=ba 0 Tryz.f44 O6 hlp
def Ea(lp:Lp)(c:Ca)(a0:D):Option D:=
 qG a0 [0] λx1=>
(c 128 [x1]).bind λr2=>
 qT r2 λb3=>
(if b3 then(qG a0 [1] λx4=>
(c 128 [x4]).bind λr5=>
 D.truth r5) else(some false)).bind λb6=>
 qT (D.bool b6) λb7=>
(if b7 then(qG a0 [1] λx8=>
(c 129 [x8]).bind λr9=>
 qB .gtr r9 (Jn 0) λx10=>
 D.truth x10) else(some false)).bind λb11=>
 qT (D.bool b11) λb12=>
(if b12 then(qG a0 [0] λx13=>
 qG a0 [1] λx14=>
(c 131 [x13,x14]).bind λr15=>
(c 169 []).bind λr16=>
 D.truth (D.bool (D.beq r15 r16))) else(some false)).bind λb17=>
 some (D.bool b17)
def QA{lp}(hlp:ar lp):aj 136 (m1 (Ea lp)):=ba 0 Tryz.f91 .leaf hlp
def QB{lp}(hlp:ar lp):aj 137 (fD 0 lp 137 Tryz.f159 .leaf):=cB hlp (by kernel_rfl) (by kernel_rfl)
def O7:Ann:=(.tl (.two (.reg [] 3) .leaf))
def G8(lp:Lp)(c:Ca)(a0:D):Option D:=
(c 169 []).bind λr1=>
(c 62 [a0,r1]).bind λr2=>
 some r2
def QC{lp}(hlp:ar lp):aj 138 (m1 (G8 lp)):=ba 0 Tryz.f82 O7 hlp
def O8:Ann:=(.tl (.tl (.two (.tl (.two (.loop ⟨[(1,.sp aK 4097),(3,.dv Ty.bool),(4,.di)],[(4097,.keep aK 1)],[]⟩ [(.exit 0,⟨[(1,.sp aK 4097),(3,.dv Ty.bool)],[(4097,.keep aK 1)],[]⟩)] .leaf) .leaf)) .leaf)))
def Eb(lp:Lp)(c:Ca)(a0:D):Option D:=
(qZ lp (λv1=>
 qC .lss (gx v1 1) (Jn 16) λb3=>
 if b3 then(qT (gx v1 0) λb4=>
(if b4 then((D.idx (gx v1 1) 16).bind λi5=>
 qG a0 [2,i5] λx6=>
 D.truth (D.bool (D.beq x6 (D.int .u32 0)))) else(some false)).bind λb7=>
 qB .add (gx v1 1) (Jn 1) λx8=>
 iL [(D.bool b7),x8]) else(iR (0,[(gx v1 0)]))) [(D.bool true),(Jn 0)]).bind λr9=>
 qG a0 [0] λx10=>
 qT x10 λb11=>
 if b11 then(qT (gx r9.2 0) λb12=>
(if b12 then(qG a0 [1] λx13=>
(D.un .not x13).bind λx14=>
 D.truth x14) else(some false)).bind λb15=>
 some (D.bool b15)) else(qN (gx r9.2 0) λb17=>
(if b17 then(some true) else(qG a0 [1] λx18=>
(D.un .not x18).bind λx19=>
 D.truth x19)).bind λb20=>
 some (D.bool b20))
def QD{lp}(hlp:ar lp):aj 139 (m1 (Eb lp)):=ba 0 Tryz.f164 O8 hlp
def O9:Ann:=(.tl (.tl (.two (.two (.loop ⟨[(3,.di)],[],[0]⟩ [(.exit 0,⟨[(3,.di)],[],[0]⟩)] .leaf) .leaf) .leaf)))
def G9(lp:Lp)(c:Ca)(a0:D):Option D:=
 qS a0 λl1=>
(qZ lp (λv2=>
 qC .gtr (gx v2 0) (Jn 0) λb4=>
(if b4 then(qB .sub (gx v2 0) (Jn 1) λx5=>
 qX a0 x5 λx8=>
 D.truth (D.bool (D.beq x8 (Jn 0)))) else(some false)).bind λb9=>
 qT (D.bool b9) λb10=>
 if b10 then(qB .sub (gx v2 0) (Jn 1) λx11=>
 iL [x11]) else(iR (0,[(gx v2 0)]))) [(Jn (l1.length))]).bind λr12=>
 qS a0 λl13=>
(D.natOf (gx r12.2 0)).bind λi14=>
(D.cut l13 0 i14).bind λl15=>
 some (D.sl l15)
def QE{lp}(hlp:ar lp):aj 140 (m1 (G9 lp)):=ba 0 Tryz.f165 O9 hlp
def Ha(lp:Lp)(c:Ca)(a0:D)(a1:D):Option D:=
 qL a0 a1 λb3=>
 if b3 then(qX a0 a1 λx6=>
 some x6) else(some (Jn 0))
def QF{lp}(hlp:ar lp):aj 141 (m2 (Ha lp)):=a8 0 Tryz.f166 .leaf hlp
def Hb(lp:Lp)(c:Ca)(a0:D):Option D:=
(c 76 [a0]).bind λr1=>
 qN r1 λb3=>
 if b3 then((c 125 []).bind λr4=>
 some r4) else((c 77 [a0]).bind λr5=>
(c 81 [(D.bool false),r5]).bind λr6=>
 some r6)
def QG{lp}(hlp:ar lp):aj 142 (m1 (Hb lp)):=ba 0 Tryz.f126 .leaf hlp
end Sy
end
end
noncomputable section
set_option maxHeartbeats 0
noncomputable section
namespace Sy
open Go Go.Proofs
def Pa:Ann:=let o0:LS:=[(6,.same (.mem Ti 8207)),(11,.di),(12,.dv K5)]
 (.tl (.tl (.tl (.two (.reg [] 11) (.tl (.two (.tl (.two (.loop ⟨[(6,.same (.mem Ti 8207)),(9,.dv K5),(10,.di)],[(8207,.many Ti)],[0,1,7,8]⟩ [(.exit 0,⟨[(6,.same (.mem Ti 8207)),(9,.dv K5)],[(8207,.many Ti)],[]⟩)] (.tl (.two (.two (.tl (.tl (.tl (.two (.two (.loop ⟨o0,[(8207,.many Ti)],[0,1,7,8,9,10]⟩ [(.exit 2,⟨o0,[(8207,.many Ti)],[0,1,7,8,9,10]⟩)] .leaf) .leaf) .leaf)))) .leaf) .leaf))) .leaf)) (.two (.reg [6] 5) .leaf)))))))
def Hc(lp:Lp)(c:Ca)(a0:D)(a1:D):Option D:=
 qS a0 λl1=>
(D.natOf (Jn (l1.length))).bind λi2=>
 if i2<=1073741824 then(qS a1 λl3=>
 qB .sub (Jn (l3.length)) (Jn 1) λx4=>
 qX a1 x4 λx7=>
 qB .mul x7 (Jn 65536) λx8=>
 qB .sub (Jn (l3.length)) (Jn 2) λx9=>
(c 175 [a1,x9]).bind λr10=>
 qB .add x8 r10 λx11=>
 qS a0 λl12=>
 qB .sub (Jn (l12.length)) (Jn 1) λx13=>
(qZ lp (λv14=>
 qC .geq (gx v14 1) (Jn 0) λb16=>
 if b16 then(qX a0 (gx v14 1) λx19=>
 qS (gx v14 0) λl20=>
 if List.length [x19]+l20.length<=1073741824 then((c 140 [(D.sl ([x19]++l20))]).bind λr21=>
(c 175 [r21,(Jn (l3.length))]).bind λr22=>
 qB .mul r22 (Jn 4294967296) λx23=>
 qB .sub (Jn (l3.length)) (Jn 1) λx24=>
(c 175 [r21,x24]).bind λr25=>
 qB .mul r25 (Jn 65536) λx26=>
 qB .add x23 x26 λx27=>
 qB .sub (Jn (l3.length)) (Jn 2) λx28=>
(c 175 [r21,x28]).bind λr29=>
 qB .add x27 r29 λx30=>
 qB .quo x30 x11 λx31=>
(D.min2 (Jn 65535) x31).bind λx32=>
(c 146 [a1,(D.sl [x32])]).bind λr33=>
(qZ lp (λv34=>
(c 78 [r21,(gx v34 1)]).bind λr35=>
 qT r35 λb36=>
 if b36 then(qB .sub (gx v34 0) (Jn 1) λx37=>
(c 126 [(gx v34 1),a1]).bind λr38=>
 iL [x37,r38,(qW v34 2)]) else(iR (0,[(gx v34 0),(gx v34 1),(qW v34 2)]))) [x32,r33,(qW v14 2)]).bind λr39=>
(D.idx (gx v14 1) (List.length (qV r39.2 2))).bind λi40=>
((qV r39.2 2)[i40]?).bind λx41=>
(c 126 [r21,(gx r39.2 1)]).bind λr42=>
 qB .sub (gx v14 1) (Jn 1) λx43=>
 iL [r42,x43,(D.sl (List.set (qV r39.2 2) i40 (gx r39.2 0)))]) else none) else(iR (0,[(gx v14 0),(qW v14 2)]))) [(D.sl []),x13,(D.sl (List.replicate i2 (Jn 0)))]).bind λr44=>
(c 140 [(qW r44.2 1)]).bind λr45=>
 some (D.tup [r45,(gx r44.2 0)])) else none
def QH{lp}(hlp:ar lp):aj 143 (m2 (Hc lp)):=a8 0 Tryz.f124 Pa hlp
def Pb:Ann:=(.tl (.tl (.cut [(.normal,⟨[(5,.di)],[],[]⟩)] [] [] .leaf .leaf)))
def Hd(lp:Lp)(c:Ca)(a0:D)(a1:D):Option D:=
 qB .quo a0 a1 λx1=>
(qB .rem a0 a1 λx2=>
 qT (D.bool (!(D.beq x2 (Jn 0)))) λb3=>
(if b3 then(qB .lss a0 (Jn 0) λx4=>
 qB .lss a1 (Jn 0) λx5=>
 D.truth (D.bool (!(D.beq x4 x5)))) else(some false)).bind λb6=>
 qT (D.bool b6) λb7=>
 if b7 then(qB .sub x1 (Jn 1) λx8=>
 some (0,[x8])) else(some (0,[x1]))).bind λ(r9:Nat×List D)=>
 some (gx r9.2 0)
def QI{lp}(hlp:ar lp):aj 144 (m2 (Hd lp)):=a8 0 Tryz.f123 Pb hlp
def He(lp:Lp)(c:Ca)(a0:D):Option D:=
 qC .lss a0 (Jn 2147483648) λb2=>
(if b2 then(qB .gtr a0 (Jn (-2147483648)) λx3=>
 D.truth x3) else(some false)).bind λb4=>
 some (D.bool b4)
def QJ{lp}(hlp:ar lp):aj 145 (m1 (He lp)):=ba 0 Tryz.f118 .leaf hlp
def Pc:Ann:=let o0:LS:=[(5,.same (.mem Ti 8209))]
 (.tl (.tl (.two (.tl (.two (.loop ⟨[(5,.same (.mem Ti 8209)),(6,.di)],[(8209,.many Ti)],[0,1]⟩ [(.exit 0,⟨o0,[(8209,.many Ti)],[]⟩)] (.tl (.two (.two (.two (.tl (.two (.loop ⟨[(5,.same (.mem Ti 8209)),(7,.di)],[(8209,.many Ti)],[0,1,6]⟩ [(.exit 2,⟨o0,[(8209,.many Ti)],[0,1,6]⟩)] (.tl (.two (.two (.reg [] 21) .leaf) .leaf))) .leaf)) (.tl (.tl (.two (.loop ⟨[(5,.same (.mem Ti 8209)),(8,.di),(9,.di)],[(8209,.many Ti)],[0,1,6]⟩ [(.exit 4,⟨o0,[(8209,.many Ti)],[0,1,6]⟩)] .leaf) .leaf)))) .leaf) .leaf))) .leaf)) (.two (.reg [5] 3) .leaf))))
def Hf(lp:Lp)(c:Ca)(a0:D)(a1:D):Option D:=
 qS a0 λl1=>
 qS a1 λl2=>
 qB .add (Jn (l1.length)) (Jn (l2.length)) λx3=>
 qB .add x3 (Jn 1) λx4=>
(D.natOf x4).bind λi5=>
 if i5<=1073741824 then((qZ lp (λv6=>
 qL a0 (gx v6 0) λb9=>
 if b9 then((qZ lp (λv10=>
 qL a1 (gx v10 0) λb13=>
 if b13 then(qB .add (gx v6 0) (gx v10 0) λx14=>
 qB .add (gx v6 0) (gx v10 0) λx15=>
(D.idx x15 (List.length (qV v10 1))).bind λi16=>
((qV v10 1)[i16]?).bind λx17=>
 qX a0 (gx v6 0) λx20=>
 qX a1 (gx v10 0) λx23=>
 qB .mul x20 x23 λx24=>
 qB .add x17 x24 λx25=>
(D.idx x14 (List.length (qV v10 1))).bind λi26=>
((qV v10 1)[i26]?).bind λx27=>
 qB .add (gx v10 0) (Jn 1) λx28=>
 iL [x28,(D.sl (List.set (qV v10 1) i26 x25))]) else(iR (0,[(qW v10 1)]))) [(Jn 0),(qW v6 1)]).bind λr29=>
(qZ lp (λv30=>
 qC .lss (gx v30 1) (Jn (List.length (qV v30 2))) λb32=>
 if b32 then((D.idx (gx v30 1) (List.length (qV v30 2))).bind λi33=>
((qV v30 2)[i33]?).bind λx34=>
 qB .add x34 (gx v30 0) λx35=>
 qB .rem x35 (Jn 65536) λx36=>
(D.idx (gx v30 1) (List.length (qV v30 2))).bind λi37=>
((qV v30 2)[i37]?).bind λx38=>
 qB .quo x35 (Jn 65536) λx39=>
 qB .add (gx v30 1) (Jn 1) λx40=>
 iL [x39,x40,(D.sl (List.set (qV v30 2) i37 x36))]) else(iR (0,[(qW v30 2)]))) [(Jn 0),(Jn 0),(qW r29.2 0)]).bind λr41=>
 qB .add (gx v6 0) (Jn 1) λx42=>
 iL [x42,(qW r41.2 0)]) else(iR (0,[(qW v6 1)]))) [(Jn 0),(D.sl (List.replicate i5 (Jn 0)))]).bind λr43=>
(c 140 [(qW r43.2 0)]).bind λr44=>
 some r44) else none
def QK{lp}(hlp:ar lp):aj 146 (m2 (Hf lp)):=a8 0 Tryz.f120 Pc hlp
def Pd:Ann:=(.tl (.tl (.two (.tl (.two (.loop ⟨[(2,.sp nP 4098),(3,.sp nP 4099),(4,.sp aK 4100),(5,.sp aK 8197),(8,.di)],[(4098,.keep nP 2),(4099,.keep nP 3),(4100,.keep aK 4),(8197,.one aK (.dv aK))],[]⟩ [(.exit 0,⟨[(4,.sp aK 4100),(5,.sp aK 8197)],[(4100,.keep aK 4),(8197,.one aK (.dv aK))],[]⟩)] (.tl (.tl (.two (.two (.tl (.reg [] 9)) .leaf) .leaf)))) .leaf)) .leaf)))
def Hg(lp:Lp)(c:Ca)(a0:D)(a1:D):Option D:=
(c 54 [(Jn 0)]).bind λr1=>
(qZ lp (λv2=>
 qC .lss (gx v2 0) (Jn 3) λb4=>
 if b4 then(qJ (gx v2 0) 3 a0 λx6=>
 qJ (gx v2 0) 3 a1 λx8=>
(c 61 [x6,x8]).bind λr9=>
(c 57 [(gx v2 1),r9]).bind λr10=>
 qB .add (gx v2 0) (Jn 1) λx11=>
 iL [x11,r10]) else(iR (0,[(gx v2 1)]))) [(Jn 0),r1]).bind λr12=>
 some (gx r12.2 0)
def QL{lp}(hlp:ar lp):aj 147 (m2 (Hg lp)):=a8 0 Tryz.f212 Pd hlp
def Pe:Ann:=(.tl (.two (.tl (.two (.loop ⟨[(2,.sp nP 4098),(6,.di)],[(4098,.one nP (.dv nP))],[5]⟩ [(.exit 0,⟨[(2,.sp nP 4098)],[(4098,.one nP (.dv nP))],[]⟩)] .leaf) .leaf)) .leaf))
def Hh(lp:Lp)(c:Ca)(a0:D):Option D:=
(qZ lp (λv1=>
 qC .lss (gx v1 0) (Jn 3) λb3=>
 if b3 then((D.idx (gx v1 0) 3).bind λi4=>
(D.fld a0 i4).bind λx5=>
(c 54 [x5]).bind λr6=>
(D.idx (gx v1 0) 3).bind λi7=>
(D.set (gx v1 1) [i7] r6).bind λx8=>
 qB .add (gx v1 0) (Jn 1) λx9=>
 iL [x9,x8]) else(iR (0,[(gx v1 1)]))) [(Jn 0),(D.st [(D.st [(D.bool false),(D.bool false),(aJ bf)]),(D.st [(D.bool false),(D.bool false),(aJ bf)]),(D.st [(D.bool false),(D.bool false),(aJ bf)])])]).bind λr10=>
 some (gx r10.2 0)
def QM{lp}(hlp:ar lp):aj 148 (m1 (Hh lp)):=ba 0 Tryz.f213 Pe hlp
def Pf:Ann:=(.tl (.two (.two (.loop ⟨[(0,.di),(1,.di)],[],[]⟩ [(.exit 0,⟨[(0,.di)],[],[]⟩)] (.tl (.two (.reg [] 5) .leaf))) .leaf) .leaf))
def Hi(lp:Lp)(c:Ca)(a0:D)(a1:D):Option D:=
(qZ lp (λv1=>
 qT (D.bool (!(D.beq (gx v1 1) (Jn 0)))) λb2=>
 if b2 then(qB .rem (gx v1 0) (gx v1 1) λx3=>
 iL [(gx v1 1),x3]) else(iR (0,[(gx v1 0)]))) [a0,a1]).bind λr4=>
(D.un .neg (gx r4.2 0)).bind λx5=>
(D.max2 (gx r4.2 0) x5).bind λx6=>
 some x6
def QN{lp}(hlp:ar lp):aj 152 (m2 (Hi lp)):=a8 0 Tryz.f247 Pf hlp
def Pg:Ann:=(.tl (.two (.tl (.two (.loop ⟨[(2,.sp K1 4098),(3,.sp K1 4099),(4,.sp K1 4100),(6,.di)],[(4098,.one K1 (.dv K1)),(4099,.keep K1 3),(4100,.keep K1 4)],[]⟩ [(.exit 0,⟨[(2,.sp K1 4098),(4,.sp K1 4100)],[(4098,.one K1 (.dv K1)),(4100,.keep K1 4)],[]⟩)] (.tl (.tl (.two (.two (.tl (.reg [] 8)) .leaf) .leaf)))) .leaf)) .leaf))
def Hj(lp:Lp)(c:Ca)(a0:D)(a1:D):Option D:=
(qZ lp (λv1=>
 qC .lss (gx v1 0) (Jn 3) λb3=>
 if b3 then(qJ (gx v1 0) 3 (gx v1 1) λx5=>
 qJ (gx v1 0) 3 a1 λx7=>
 qB .add x5 x7 λx8=>
(D.idx (gx v1 0) 3).bind λi9=>
(D.set (gx v1 1) [i9] x8).bind λx10=>
 qB .add (gx v1 0) (Jn 1) λx11=>
 iL [x11,x10]) else(iR (0,[(gx v1 1)]))) [(Jn 0),a0]).bind λr12=>
 some (gx r12.2 0)
def QO{lp}(hlp:ar lp):aj 154 (m2 (Hj lp)):=a8 0 Tryz.f251 Pg hlp
def Ph:Ann:=let o0:LO:=[(4097,.keep nP 1),(4098,.keep dN 2),(8195,.one aK (.dv aK))]
 (.tl (.tl (.two (.tl (.two (.loop ⟨[(1,.sp nP 4097),(2,.sp dN 4098),(3,.sp aK 8195),(4,.di)],o0,[]⟩ [(.exit 0,⟨[(1,.sp nP 4097),(2,.sp dN 4098),(3,.sp aK 8195)],o0,[]⟩)] (.tl (.two (.two (.reg [] 5) .leaf) .leaf))) .leaf)) (.tl (.tl (.tl (.two (.tl (.two (.loop ⟨[(1,.sp nP 4097),(2,.sp dN 4098),(3,.sp aK 8195),(5,.sp dN 28677),(6,.di)],[(4097,.keep nP 1),(4098,.one dN (.dv dN)),(8195,.keep aK 3),(28677,.one dN (.dv dN))],[]⟩ [(.ret,⟨[(2,.sp dN 4098)],[(4098,.one dN (.dv dN))],[]⟩),(.exit 2,⟨[(2,.sp dN 4098),(5,.sp dN 28677)],[(4098,.one dN (.dv dN)),(28677,.one dN (.dv dN))],[]⟩)] (.tl (.two (.two (.two (.reg [] 10) .leaf) .leaf) .leaf))) .leaf)) .leaf)))))))
def Hk(lp:Lp)(c:Ca)(a0:D):Option D:=
(c 34 [(Jn 0)]).bind λr1=>
(qZ lp (λv2=>
 qC .lss (gx v2 0) (Jn 3) λb4=>
 if b4 then(qJ (gx v2 0) 3 a0 λx6=>
(c 85 [(gx v2 1),x6]).bind λr7=>
 qB .add (gx v2 0) (Jn 1) λx8=>
 iL [x8,r7]) else(iR (0,[(gx v2 1)]))) [(Jn 0),r1]).bind λr9=>
 qG (gx r9.2 0) [0] λx10=>
 qT x10 λb11=>
 if b11 then(some (D.st [(D.st [(Jn 0),(Jn 0),(Jn 0)]),(Jn 30)])) else((c 83 [(gx r9.2 0)]).bind λr12=>
 qT (D.bool (D.beq r12 (Jn 0))) λb13=>
 if b13 then(some (D.st [(D.st [(Jn 0),(Jn 0),(Jn 0)]),(Jn 31)])) else((qZ lp (λv14=>
 qC .lss (gx v14 0) (Jn 3) λb16=>
 if b16 then(qJ (gx v14 0) 3 a0 λx18=>
(c 87 [x18,(gx r9.2 0)]).bind λr19=>
(c 186 [r19]).bind λr20=>
(D.tupAt r20 0).bind λx21=>
(D.tupAt r20 1).bind λx22=>
 qN x22 λb24=>
 if b24 then(iR (0,[(D.st [(D.st [(Jn 0),(Jn 0),(Jn 0)]),(Jn 30)])])) else((D.idx (gx v14 0) 3).bind λi25=>
(D.set (gx v14 2) [0,i25] x21).bind λx26=>
 qB .add (gx v14 0) (Jn 1) λx27=>
 iL [x27,(gx v14 1),x26])) else(iR (1,[(gx v14 1),(gx v14 2)]))) [(Jn 0),(D.st [(D.st [(Jn 0),(Jn 0),(Jn 0)]),(Jn 0)]),(D.st [(D.st [(Jn 0),(Jn 0),(Jn 0)]),(Jn 0)])]).bind λr28=>
 if r28.1=0 then(some (gx r28.2 0)) else(qG (gx r28.2 1) [0] λx29=>
(c 187 [x29]).bind λr30=>
 qN r30 λb32=>
 if b32 then(some (D.st [(D.st [(Jn 0),(Jn 0),(Jn 0)]),(Jn 30)])) else(some (gx r28.2 1)))))
def QP{lp}(hlp:ar lp):aj 155 (m1 (Hk lp)):=ba 0 Tryz.f244 Ph hlp
def Pi:Ann:=let o0:LO:=[(4102,.keep K1 6),(4104,.keep K1 8),(8203,.keep K1 11)]
 (.tl (.tl (.two (.tl (.two (.loop ⟨[(6,.sp K1 4102),(8,.sp K1 4104),(11,.sp K1 8203),(12,.di)],o0,[0,2]⟩ [(.ret,⟨[(10,.dv Ty.bool)],[],[]⟩),(.exit 0,⟨[],[],[]⟩)] (.tl (.cut [(.normal,⟨[(6,.sp K1 4102),(8,.sp K1 4104),(11,.sp K1 8203)],o0,[0,2,12]⟩),(.ret,⟨[(10,.dv Ty.bool)],[],[]⟩)] [0,2,12] [4102,4104,8203] (.two (.two (.two (.reg [] 7) .leaf) (.two (.reg [] 7) (.two (.reg [] 5) .leaf))) .leaf) .leaf))) .leaf)) .leaf)))
def Hl(lp:Lp)(c:Ca)(a0:D)(a1:D)(a2:D)(a3:D)(a4:D):Option D:=
(c 112 [a4,a3]).bind λr1=>
(qZ lp (λv2=>
 qL a0 (gx v2 0) λb5=>
 if b5 then((qX a0 (gx v2 0) λx8=>
(c 107 [a1,x8]).bind λr9=>
 qT (D.bool (!(D.beq r9 a2))) λb10=>
 if b10 then(some (0,[])) else(qX a0 (gx v2 0) λx13=>
(c 112 [x13,a3]).bind λr14=>
(c 123 [r1,r14]).bind λr15=>
(c 188 [a1,r15]).bind λr16=>
 qC .lss r16 (Jn 0) λb18=>
(if b18 then(some true) else(qT (D.bool (D.beq r16 (Jn 0))) λb19=>
 if b19 then((c 107 [r14,r1]).bind λr20=>
 qC .lss r20 (Jn 0) λb22=>
 if b22 then(some true) else((c 107 [r14,r1]).bind λr23=>
(c 107 [r1,r1]).bind λr24=>
 qB .gtr r23 r24 λx25=>
 D.truth x25)) else(some false))).bind λb26=>
 qT (D.bool b26) λb27=>
 if b27 then(some (1,[(D.bool false)])) else(some (0,[])))).bind λ(r28:Nat×List D)=>
 if r28.1=0 then(qB .add (gx v2 0) (Jn 1) λx29=>
 iL [x29]) else(iR (0,[(gx r28.2 0)]))) else(iR (1,[]))) [(Jn 0)]).bind λr30=>
 if r30.1=0 then(some (gx r30.2 0)) else(some (D.bool true))
def QQ{lp}(hlp:ar lp):aj 156 (m5 (Hl lp)):=Nl 0 Tryz.f245 Pi hlp
def Pj:Ann:=let o0:LS:=[(0,.dv (Ty.int .u32)),(2,.di)]
 (.tl (.cut [(.normal,⟨o0,[],[]⟩)] [] [] .leaf (.cut [(.normal,⟨o0,[],[]⟩)] [] [] .leaf .leaf)))
def Hm(lp:Lp)(c:Ca)(a0:D):Option D:=
(qC .geq a0 (D.int .u32 65536) λb2=>
 if b2 then(qB .shr a0 (D.int .u64 16) λx3=>
 some (0,[x3,(Jn 16)])) else(some (0,[a0,(Jn 0)]))).bind λ(r4:Nat×List D)=>
(qC .geq (gx r4.2 0) (D.int .u32 256) λb6=>
 if b6 then(qB .shr (gx r4.2 0) (D.int .u64 8) λx7=>
 qB .add (gx r4.2 1) (Jn 8) λx8=>
 some (0,[x7,x8])) else(some (0,[(gx r4.2 0),(gx r4.2 1)]))).bind λ(r9:Nat×List D)=>
(D.conv .u8 (gx r9.2 0)).bind λx10=>
(D.strAt (D.str ((oS (EG Tryz.f218)).getD ByteArray.empty)) x10).bind λx11=>
(D.conv .i64 x11).bind λx12=>
 qB .add (gx r9.2 1) x12 λx13=>
 some x13
def QR{lp}(hlp:ar lp):aj 165 (m1 (Hm lp)):=ba 0 Tryz.f218 Pj hlp
def Hn(lp:Lp)(c:Ca)(a0:D):Option D:=
 qG a0 [2] λx1=>
 qG a0 [0] λx2=>
 qT x2 λb3=>
 if b3 then(qT (D.bool (D.beq x1 (D.st (D.putParts (List.replicate 16 (D.int .u32 0)) [])))) λb4=>
(if b4 then(qG a0 [1] λx5=>
(D.un .not x5).bind λx6=>
 D.truth x6) else(some false)).bind λb7=>
 some (D.bool b7)) else(qN (D.bool (D.beq x1 (D.st (D.putParts (List.replicate 16 (D.int .u32 0)) [])))) λb9=>
(if b9 then(some true) else(qG a0 [1] λx10=>
(D.un .not x10).bind λx11=>
 D.truth x11)).bind λb12=>
 some (D.bool b12))
def QS{lp}(hlp:ar lp):aj 167 (m1 (Hn lp)):=ba 0 Tryz.f184 .leaf hlp
def Ho(lp:Lp)(c:Ca)(a0:D)(a1:D):Option D:=
(c 194 [a0]).bind λr1=>
(c 194 [a1]).bind λr2=>
 qT r1 λb3=>
 if b3 then(qT r2 λb4=>
 if b4 then(some (Jn 0)) else(some (Jn (-1)))) else(qT r2 λb5=>
 if b5 then(some (Jn 1)) else(qC .lss a0 a1 λb7=>
 if b7 then(some (Jn (-1))) else(qC .gtr a0 a1 λb9=>
 if b9 then(some (Jn 1)) else(some (Jn 0)))))
def QT{lp}(hlp:ar lp):aj 168 (m2 (Ho lp)):=a8 0 Tryz.f198 .leaf hlp
def Hp(lp:Lp)(c:Ca) :Option D:=
(c 54 [(Jn 1)]).bind λr1=>
 some r1
def QU{lp}(hlp:ar lp):aj 169 (m0 (Hp lp)):=u7 0 Tryz.f90 .leaf hlp
def Pk:Ann:=let o0:LO:=[(4100,.one bf (.dv bf)),(4101,.one bf (.dv bf)),(24587,.one bf (.dv bf)),(32783,.one rq (.dv rq))]
 (.tl (.two (.reg [] 5) (.two (.tl (.two (.two (.reg [] 2) .leaf) .leaf)) (.tl (.tl (.tl (.tl (.tl (.two (.reg [] 2) (.tl (.two (.tl (.two (.loop ⟨[(4,.sp bf 4100),(5,.sp bf 4101),(11,.sp bf 24587),(15,.sp rq 32783),(16,.di)],[(4100,.one bf (.dv bf)),(4101,.keep bf 5),(24587,.keep bf 11),(32783,.one rq (.dv rq))],[6,10]⟩ [(.exit 0,⟨[(4,.sp bf 4100),(5,.sp bf 4101),(15,.sp rq 32783)],[(4100,.one bf (.dv bf)),(4101,.keep bf 5),(32783,.one rq (.dv rq))],[10]⟩)] (.tl (.two (.two (.two (.regI [] 5 (.two (.tl (.two (.reg [] 19) (.tl (.two (.reg [] 7) (.two (.two (.loop ⟨[(0,.sp rq 32783),(5,.sp bf 65541),(11,.dv (Ty.int .u64)),(12,.dv (Ty.int .u64))],[(4100,.one bf (.dv bf)),(4101,.one bf (.dv bf)),(24587,.one bf (.dv bf)),(32783,.keep rq 0),(65541,.keep bf 5)],[2,3,10]⟩ [(.exit 0,⟨[(11,.dv (Ty.int .u64))],[(4100,.one bf (.dv bf)),(4101,.one bf (.dv bf)),(24587,.one bf (.dv bf)),(32783,.keep rq 0)],[]⟩)] .leaf) .leaf) .leaf))))) .leaf)) (.cut [(.normal,⟨[(4,.sp bf 4100),(5,.sp bf 4101),(11,.sp bf 24587),(15,.sp rq 32783),(17,.dv (Ty.int .u64))],[(4100,.keep bf 4),(4101,.keep bf 5),(24587,.keep bf 11),(32783,.one rq (.dv rq))],[6,10,16]⟩)] [6,10,16] [4100,4101,24587] (.two (.regI [] 5 (.two (.tl (.tl (.two (.tl (.two (.loop ⟨[(0,.sp rq 32783),(6,.sp bf 102406),(11,.dv (Ty.int .u64)),(12,.dv (Ty.int .u64)),(17,.di)],[(4100,.one bf (.dv bf)),(4101,.one bf (.dv bf)),(24587,.one bf (.dv bf)),(32783,.one rq (.dv rq)),(102406,.keep bf 6)],[2,3,4,16]⟩ [(.exit 0,⟨[(0,.sp rq 32783),(11,.dv (Ty.int .u64)),(12,.dv (Ty.int .u64))],o0,[2,3]⟩)] .leaf) .leaf)) .leaf))) .leaf)) (.two (.tl (.regI [] 4 (.two (.tl (.tl (.two (.tl (.two (.loop ⟨[(0,.sp rq 32783),(5,.sp bf 147461),(8,.dv (Ty.int .u64)),(11,.di)],[(4100,.one bf (.dv bf)),(4101,.one bf (.dv bf)),(24587,.one bf (.dv bf)),(32783,.one rq (.dv rq)),(147461,.keep bf 5)],[2,3,10]⟩ [(.exit 0,⟨[(0,.sp rq 32783),(8,.dv (Ty.int .u64))],o0,[2,3]⟩)] (.tl (.tl (.two (.two (.tl (.two (.reg [] 15) .leaf)) .leaf) .leaf)))) .leaf)) (.reg [] 12)))) .leaf))) .leaf)) .leaf)) .leaf) .leaf))) .leaf)) (.two (.reg [] 6) .leaf))))))))))))
def Hq(lp:Lp)(c:Ca)(a0:D)(a1:D):Option D:=
(c 127 [a1]).bind λr1=>
(c 127 [a0]).bind λr2=>
(c 121 [a0,a1]).bind λr3=>
 qC .lss r3 (Jn 0) λb5=>
 if b5 then(some (D.tup [(D.st (D.putParts (List.replicate 16 (D.int .u32 0)) [])),a0])) else(qT (D.bool (D.beq r1 (Jn 1))) λb6=>
 if b6 then(qG a1 [0] λx7=>
(c 195 [a0,x7]).bind λr8=>
(D.tupAt r8 0).bind λx9=>
(D.tupAt r8 1).bind λx10=>
 some (D.tup [x9,(D.st (D.putParts (List.replicate 16 (D.int .u32 0)) [(0,x10)]))])) else(qB .sub r1 (Jn 1) λx11=>
 qJ x11 16 a1 λx13=>
(c 196 [x13]).bind λr14=>
(c 197 [a1,r14]).bind λr15=>
(D.tupAt r15 0).bind λx16=>
(D.tupAt r15 1).bind λx17=>
(c 197 [a0,r14]).bind λr18=>
(D.tupAt r18 0).bind λx19=>
(D.tupAt r18 1).bind λx20=>
(D.stl (aJ rq)).bind λl21=>
(D.stl x19).bind λl22=>
(D.set (D.st (List.take 0 l21++(List.take 16 (List.drop 0 l22)++List.drop 16 l21))) [16] x20).bind λx23=>
 qB .sub r2 r1 λx24=>
(qZ lp (λv25=>
 qC .geq (gx v25 0) (Jn 0) λb27=>
 if b27 then(qB .add (gx v25 0) r1 λx28=>
 qJ x28 17 (gx v25 2) λx30=>
(D.conv .u64 x30).bind λx31=>
 qB .shl x31 (D.int .u64 32) λx32=>
 qB .add (gx v25 0) r1 λx33=>
 qB .sub x33 (Jn 1) λx34=>
 qJ x34 17 (gx v25 2) λx36=>
(D.conv .u64 x36).bind λx37=>
 qB .or x32 x37 λx38=>
 qB .sub r1 (Jn 1) λx39=>
 qJ x39 16 x16 λx41=>
(D.conv .u64 x41).bind λx42=>
 qB .quo x38 x42 λx43=>
 qB .rem x38 x42 λx44=>
(qZ lp (λv45=>
 qC .lss (gx v45 1) (D.int .u64 4294967296) λb47=>
(if b47 then(qC .geq (gx v45 0) (D.int .u64 4294967296) λb49=>
 if b49 then(some true) else(qB .sub r1 (Jn 2) λx50=>
 qJ x50 16 x16 λx52=>
(D.conv .u64 x52).bind λx53=>
 qB .mul (gx v45 0) x53 λx54=>
 qB .shl (gx v45 1) (D.int .u64 32) λx55=>
 qB .add (gx v25 0) r1 λx56=>
 qB .sub x56 (Jn 2) λx57=>
 qJ x57 17 (gx v25 2) λx59=>
(D.conv .u64 x59).bind λx60=>
 qB .or x55 x60 λx61=>
 qB .gtr x54 x61 λx62=>
 D.truth x62)) else(some false)).bind λb63=>
 qT (D.bool b63) λb64=>
 if b64 then(qB .sub (gx v45 0) (D.int .u64 1) λx65=>
 qB .add (gx v45 1) x42 λx66=>
 iL [x65,x66,(gx v45 2),(gx v45 3),(gx v45 4)]) else(iR (0,[(gx v45 0),(gx v45 2),(gx v45 3),(gx v45 4)]))) [x43,x44,(gx v25 1),(aJ bf),x16]).bind λr67=>
((qZ lp (λv68=>
 qC .lss (gx v68 2) r1 λb70=>
 if b70 then(qJ (gx v68 2) 16 (gx r67.2 3) λx72=>
(D.conv .u64 x72).bind λx73=>
 qB .mul (gx r67.2 0) x73 λx74=>
 qB .add (gx v68 0) x74 λx75=>
 qB .add (gx v25 0) (gx v68 2) λx76=>
 qJ x76 17 (gx v68 6) λx78=>
(D.conv .u64 x78).bind λx79=>
(D.conv .u32 x75).bind λx80=>
(D.conv .u64 x80).bind λx81=>
 qB .sub x79 x81 λx82=>
 qB .sub x82 (gx v68 1) λx83=>
 qB .add (gx v25 0) (gx v68 2) λx84=>
(D.conv .u32 x83).bind λx85=>
(D.idx x84 17).bind λi86=>
(D.set (gx v68 6) [i86] x85).bind λx87=>
 qB .shr x83 (D.int .u64 63) λx88=>
 qB .shr x75 (D.int .u64 32) λx89=>
 qB .add (gx v68 2) (Jn 1) λx90=>
 iL [x89,x88,x90,(gx v68 3),(gx v68 4),(gx v68 5),x87]) else(iR (0,[(gx v68 0),(gx v68 1),(gx v68 3),(gx v68 4),(gx v68 5),(gx v68 6)]))) [(D.int .u64 0),(D.int .u64 0),(Jn 0),(gx r67.2 1),(gx r67.2 2),(gx r67.2 3),(gx v25 2)]).bind λr91=>
 qB .add (gx v25 0) r1 λx92=>
 qJ x92 17 (gx r91.2 5) λx94=>
(D.conv .u64 x94).bind λx95=>
 qB .sub x95 (gx r91.2 0) λx96=>
 qB .sub x96 (gx r91.2 1) λx97=>
 qB .add (gx v25 0) r1 λx98=>
(D.conv .u32 x97).bind λx99=>
(D.idx x98 17).bind λi100=>
(D.set (gx r91.2 5) [i100] x99).bind λx101=>
 qB .shr x97 (D.int .u64 63) λx102=>
 qT (D.bool (D.beq x102 (D.int .u64 1))) λb103=>
 if b103 then(qB .sub (gx r67.2 0) (D.int .u64 1) λx104=>
(qZ lp (λv105=>
 qC .lss (gx v105 1) r1 λb107=>
 if b107 then(qB .add (gx v25 0) (gx v105 1) λx108=>
 qJ x108 17 (gx v105 5) λx110=>
(D.conv .u64 x110).bind λx111=>
 qJ (gx v105 1) 16 (gx r91.2 4) λx113=>
(D.conv .u64 x113).bind λx114=>
 qB .add x111 x114 λx115=>
 qB .add (gx v105 0) x115 λx116=>
 qB .add (gx v25 0) (gx v105 1) λx117=>
(D.conv .u32 x116).bind λx118=>
(D.idx x117 17).bind λi119=>
(D.set (gx v105 5) [i119] x118).bind λx120=>
 qB .shr x116 (D.int .u64 32) λx121=>
 qB .add (gx v105 1) (Jn 1) λx122=>
 iL [x121,x122,(gx v105 2),(gx v105 3),(gx v105 4),x120]) else(iR (0,[(gx v105 0),(gx v105 2),(gx v105 3),(gx v105 4),(gx v105 5)]))) [(D.int .u64 0),(Jn 0),(gx r91.2 2),(gx r91.2 3),(gx r91.2 4),x101]).bind λr123=>
 qB .add (gx v25 0) r1 λx124=>
 qJ x124 17 (gx r123.2 4) λx126=>
(D.conv .u32 (gx r123.2 0)).bind λx127=>
 qB .add x126 x127 λx128=>
(D.idx x124 17).bind λi129=>
(D.set (gx r123.2 4) [i129] x128).bind λx130=>
 some (0,[x104,x130])) else(some (0,[(gx r67.2 0),x101]))).bind λ(r131:Nat×List D)=>
(D.conv .u32 (gx r131.2 0)).bind λx132=>
(D.idx (gx v25 0) 16).bind λi133=>
(D.set (gx r67.2 1) [i133] x132).bind λx134=>
 qB .sub (gx v25 0) (Jn 1) λx135=>
 iL [x135,x134,(gx r131.2 1)]) else(iR (0,[(gx v25 1),(gx v25 2)]))) [x24,(aJ bf),x23]).bind λr136=>
(match (gx r136.2 1) with
| D.st l137=>(if decide (0+16<=l137.length) then((c 201 [(D.st (List.take 16 (List.drop 0 l137))),r14]).bind λr138=>
 some (D.tup [(gx r136.2 0),r138])) else none)
| _=>none)))
def QV{lp}(hlp:ar lp):aj 170 (m2 (Hq lp)):=a8 0 Tryz.f152 Pk hlp
def Hr(lp:Lp)(c:Ca)(a0:D):Option D:=
(c 118 [(D.sl [a0])]).bind λr1=>
 qN r1 λb3=>
 if b3 then((c 119 []).bind λr4=>
 some r4) else(qG a0 [2] λx5=>
(c 116 [(D.bool false),x5]).bind λr6=>
 some r6)
def QW{lp}(hlp:ar lp):aj 171 (m1 (Hr lp)):=ba 0 Tryz.f153 .leaf hlp
end Sy
end
end
noncomputable section
set_option maxHeartbeats 0
noncomputable section
namespace Sy
open Go Go.Proofs
def Pm:Ann:=(.tl (.tl (.cut [(.ret,⟨[(4,.sp aK 4100),(5,.sp aK 4101)],[(4100,.one aK (.dv aK)),(4101,.one aK (.dv aK))],[]⟩),(.normal,⟨[(2,.sp aK 4098),(3,.sp aK 4099),(4,.sp aK 4100),(5,.sp aK 4101)],[(4098,.keep aK 2),(4099,.keep aK 3),(4100,.one aK (.dv aK)),(4101,.one aK (.dv aK))],[]⟩)] [] [4098,4099] (.tl (.tl (.two (.tl (.tl (.two (.two (.reg [] 7) (.cut [(.normal,⟨[(4,.sp aK 4100),(5,.sp aK 4101),(10,.di),(11,.di)],[(4100,.keep aK 4),(4101,.keep aK 5)],[]⟩)] [] [4100,4101] .leaf .leaf)) .leaf))) .leaf))) (.tl (.tl (.cut [(.normal,⟨[(3,.sp aK 4099),(4,.sp aK 4100),(5,.sp aK 4101),(13,.sp bf 16397),(14,.sp aK 20494)],[(4099,.keep aK 3),(4100,.keep aK 4),(4101,.keep aK 5),(16397,.one bf (.dv bf)),(20494,.one aK (.dv aK))],[]⟩)] [] [4099,4100,4101] (.tl (.two (.reg [] 7) .leaf)) (.two (.reg [] 5) .leaf)))))))
def Hs(lp:Lp)(c:Ca)(a0:D)(a1:D):Option D:=
(c 118 [(D.sl [a0,a1])]).bind λr1=>
 qN r1 λb3=>
(if b3 then(some true) else((c 129 [a1]).bind λr4=>
 D.truth (D.bool (D.beq r4 (Jn 0))))).bind λb5=>
 qT (D.bool b5) λb6=>
 if b6 then((c 119 []).bind λr7=>
(c 119 []).bind λr8=>
 some (D.tup [r7,r8])) else(((c 202 [a0]).bind λr9=>
(D.tupAt r9 0).bind λx10=>
(D.tupAt r9 1).bind λx11=>
 qT x11 λb12=>
(if b12 then(D.truth (D.bool (!(D.beq x10 (Jn (-9223372036854775808)))))) else(some false)).bind λb13=>
 qT (D.bool b13) λb14=>
 if b14 then((c 202 [a1]).bind λr15=>
(D.tupAt r15 0).bind λx16=>
(D.tupAt r15 1).bind λx17=>
 qT x17 λb18=>
(if b18 then(D.truth (D.bool (!(D.beq x16 (Jn (-9223372036854775808)))))) else(some false)).bind λb19=>
 qT (D.bool b19) λb20=>
 if b20 then(qB .quo x10 x16 λx21=>
 qB .rem x10 x16 λx22=>
(qT (D.bool (!(D.beq x22 (Jn 0)))) λb23=>
(if b23 then(qB .lss x22 (Jn 0) λx24=>
 qB .lss x16 (Jn 0) λx25=>
 D.truth (D.bool (!(D.beq x24 x25)))) else(some false)).bind λb26=>
 qT (D.bool b26) λb27=>
 if b27 then(qB .sub x21 (Jn 1) λx28=>
 qB .add x22 x16 λx29=>
 some (0,[x28,x29])) else(some (0,[x21,x22]))).bind λ(r30:Nat×List D)=>
(c 54 [(gx r30.2 0)]).bind λr31=>
(c 54 [(gx r30.2 1)]).bind λr32=>
 some (0,[r31,r32])) else(some (1,[(D.st [(D.bool false),(D.bool false),(aJ bf)]),(D.st [(D.bool false),(D.bool false),(aJ bf)])]))) else(some (1,[(D.st [(D.bool false),(D.bool false),(aJ bf)]),(D.st [(D.bool false),(D.bool false),(aJ bf)])]))).bind λ(r33:Nat×List D)=>
 if r33.1=0 then(some (D.tup [(gx r33.2 0),(gx r33.2 1)])) else(qG a0 [2] λx34=>
 qG a1 [2] λx35=>
(c 170 [x34,x35]).bind λr36=>
(D.tupAt r36 0).bind λx37=>
(D.tupAt r36 1).bind λx38=>
 qG a0 [1] λx39=>
 qG a1 [1] λx40=>
(c 116 [(D.bool (!(D.beq x39 x40))),x37]).bind λr41=>
(qT (D.bool (!(D.beq x38 (D.st (D.putParts (List.replicate 16 (D.int .u32 0)) []))))) λb42=>
(if b42 then(qG a0 [1] λx43=>
 qG a1 [1] λx44=>
 D.truth (D.bool (!(D.beq x43 x44)))) else(some false)).bind λb45=>
 qT (D.bool b45) λb46=>
 if b46 then((c 54 [(Jn 1)]).bind λr47=>
(c 203 [r41,r47]).bind λr48=>
 qG a1 [2] λx49=>
(c 122 [x49,x38]).bind λr50=>
 some (0,[r50,r48])) else(some (0,[x38,r41]))).bind λ(r51:Nat×List D)=>
 qG a1 [1] λx52=>
(c 116 [x52,(gx r51.2 0)]).bind λr53=>
 some (D.tup [(gx r51.2 1),r53])))
def QX{lp}(hlp:ar lp):aj 172 (m2 (Hs lp)):=a8 0 Tryz.f154 Pm hlp
def Pn:Ann:=(.tl (.tl (.tl (.two (.reg [] 10) (.two (.reg [] 14) .leaf)))))
def Ec(lp:Lp)(c:Ca)(a0:D)(a1:D):Option D:=
(c 136 [a0]).bind λr1=>
 qN r1 λb3=>
(if b3 then(some true) else((c 136 [a1]).bind λr4=>
(D.un .not r4).bind λx5=>
 D.truth x5)).bind λb6=>
 qT (D.bool b6) λb7=>
 if b7 then((c 130 []).bind λr8=>
 some r8) else(qG a0 [1] λx9=>
 qG a1 [1] λx10=>
(c 131 [x9,x10]).bind λr11=>
 qG a0 [1] λx12=>
(c 132 [x12,r11]).bind λr13=>
 qG a1 [1] λx14=>
(c 132 [x14,r11]).bind λr15=>
 qG a0 [0] λx16=>
(c 61 [x16,r15]).bind λr17=>
 qG a1 [0] λx18=>
(c 61 [x18,r13]).bind λr19=>
(c 57 [r17,r19]).bind λr20=>
 qG a1 [1] λx21=>
(c 61 [r13,x21]).bind λr22=>
(c 62 [r20,r22]).bind λr23=>
 some r23)
def QY{lp}(hlp:ar lp):aj 173 (m2 (Ec lp)):=a8 0 Tryz.f55 Pn hlp
def Pp:Ann:=(.tl (.tl (.two (.reg [] 12) (.two (.reg [] 12) .leaf))))
def Cy(lp:Lp)(c:Ca)(a0:D)(a1:D):Option D:=
(c 136 [a0]).bind λr1=>
 qN r1 λb3=>
(if b3 then(some true) else((c 136 [a1]).bind λr4=>
(D.un .not r4).bind λx5=>
 D.truth x5)).bind λb6=>
 qT (D.bool b6) λb7=>
 if b7 then((c 130 []).bind λr8=>
 some r8) else(qG a0 [0] λx9=>
 qG a1 [1] λx10=>
(c 62 [x9,x10]).bind λr11=>
 qG a1 [0] λx12=>
 qG a0 [1] λx13=>
(c 62 [x12,x13]).bind λr14=>
 qG r11 [0] λx15=>
 qG r14 [0] λx16=>
(c 61 [x15,x16]).bind λr17=>
 qG r11 [1] λx18=>
 qG r14 [1] λx19=>
(c 61 [x18,x19]).bind λr20=>
 qG r17 [0] λx21=>
 qT x21 λb22=>
(if b22 then(some true) else(qG r20 [0] λx23=>
 D.truth x23)).bind λb24=>
 qT (D.bool b24) λb25=>
 if b25 then((c 130 []).bind λr26=>
 some r26) else(some (D.st [r17,r20])))
def QZ{lp}(hlp:ar lp):aj 174 (m2 (Cy lp)):=a8 0 Tryz.f46 Pp hlp
def Ht(lp:Lp)(c:Ca)(a0:D)(a1:D):Option D:=
 qC .lss a1 (Jn 0) λb2=>
 if b2 then(some (Jn 0)) else((c 141 [a0,a1]).bind λr3=>
 some r3)
def Q0{lp}(hlp:ar lp):aj 175 (m2 (Ht lp)):=a8 0 Tryz.f167 .leaf hlp
def Pq:Ann:=(.tl (.tl (.tl (.tl (.tl (.tl (.cut [(.normal,⟨[(6,.di)],[],[]⟩)] [] [] .leaf .leaf)))))))
def Hu(lp:Lp)(c:Ca)(a0:D):Option D:=
(c 76 [a0]).bind λr1=>
 qN r1 λb3=>
 if b3 then(some (D.tup [(Jn 0),(D.bool false)])) else((c 34 [(Jn (-9223372036854775808))]).bind λr4=>
(c 34 [(Jn 9223372036854775807)]).bind λr5=>
(c 32 [a0,r4]).bind λr6=>
 qC .lss r6 (Jn 0) λb8=>
(if b8 then(some true) else((c 32 [a0,r5]).bind λr9=>
 qB .gtr r9 (Jn 0) λx10=>
 D.truth x10)).bind λb11=>
 qT (D.bool b11) λb12=>
 if b12 then(some (D.tup [(Jn 0),(D.bool false)])) else(qG a0 [2,1] λx13=>
(D.conv .u64 x13).bind λx14=>
 qB .mul x14 (D.int .u64 4294967296) λx15=>
 qG a0 [2,0] λx16=>
(D.conv .u64 x16).bind λx17=>
 qB .add x15 x17 λx18=>
(D.conv .i64 x18).bind λx19=>
(qG a0 [1] λx20=>
 qT x20 λb21=>
 if b21 then((D.un .neg x19).bind λx22=>
 some (0,[x22])) else(some (0,[x19]))).bind λ(r23:Nat×List D)=>
 some (D.tup [(gx r23.2 0),(D.bool true)])))
def Q1{lp}(hlp:ar lp):aj 186 (m1 (Hu lp)):=ba 0 Tryz.f207 Pq hlp
def Pr:Ann:=(.tl (.two (.tl (.two (.loop ⟨[(1,.sp K1 4097),(3,.di)],[(4097,.keep K1 1)],[]⟩ [(.ret,⟨[(2,.dv Ty.bool)],[],[]⟩),(.exit 0,⟨[],[],[]⟩)] .leaf) .leaf)) .leaf))
def Hv(lp:Lp)(c:Ca)(a0:D):Option D:=
(qZ lp (λv1=>
 qC .lss (gx v1 0) (Jn 3) λb3=>
 if b3 then(qJ (gx v1 0) 3 a0 λx5=>
 qC .geq x5 (Jn 2305843009213693952) λb7=>
(if b7 then(some true) else(qJ (gx v1 0) 3 a0 λx9=>
 qB .leq x9 (Jn (-2305843009213693952)) λx10=>
 D.truth x10)).bind λb11=>
 qT (D.bool b11) λb12=>
 if b12 then(iR (0,[(D.bool false)])) else(qB .add (gx v1 0) (Jn 1) λx13=>
 iL [x13])) else(iR (1,[]))) [(Jn 0)]).bind λr14=>
 if r14.1=0 then(some (gx r14.2 0)) else(some (D.bool true))
def Q2{lp}(hlp:ar lp):aj 187 (m1 (Hv lp)):=ba 0 Tryz.f252 Pr hlp
def Ps:Ann:=(.tl (.two (.tl (.two (.loop ⟨[(2,.sp K1 4098),(3,.sp K1 4099),(5,.di)],[(4098,.keep K1 2),(4099,.keep K1 3)],[]⟩ [(.ret,⟨[(4,.di)],[],[]⟩),(.exit 0,⟨[],[],[]⟩)] (.tl (.two (.two (.tl (.two (.two (.reg [] 9) .leaf) .leaf)) .leaf) .leaf))) .leaf)) .leaf))
def Hw(lp:Lp)(c:Ca)(a0:D)(a1:D):Option D:=
(qZ lp (λv1=>
 qC .lss (gx v1 0) (Jn 3) λb3=>
 if b3 then(qJ (gx v1 0) 3 a0 λx5=>
 qT (D.bool (!(D.beq x5 (Jn 0)))) λb6=>
 if b6 then(qJ (gx v1 0) 3 a0 λx8=>
(c 215 [x8]).bind λr9=>
 qJ (gx v1 0) 3 a1 λx11=>
(c 215 [x11]).bind λr12=>
 qB .mul r9 r12 λx13=>
 iR (0,[x13])) else(qB .add (gx v1 0) (Jn 1) λx14=>
 iL [x14])) else(iR (1,[]))) [(Jn 0)]).bind λr15=>
 if r15.1=0 then(some (gx r15.2 0)) else(some (Jn 0))
def Q3{lp}(hlp:ar lp):aj 188 (m2 (Hw lp)):=a8 0 Tryz.f253 Ps hlp
def Hx(lp:Lp)(c:Ca)(a0:D):Option D:=
 some (D.bool (!(D.beq a0 a0)))
def Q4{lp}(hlp:ar lp):aj 194 (m1 (Hx lp)):=ba 0 Tryz.f220 .leaf hlp
def Pt:Ann:=(.tl (.tl (.two (.tl (.two (.loop ⟨[(2,.sp bf 4098),(4,.sp bf 4100),(6,.dv (Ty.int .u64)),(7,.di)],[(4098,.keep bf 2),(4100,.one bf (.dv bf))],[1]⟩ [(.exit 0,⟨[(4,.sp bf 4100),(6,.dv (Ty.int .u64))],[(4100,.one bf (.dv bf))],[]⟩)] .leaf) .leaf)) .leaf)))
def Hy(lp:Lp)(c:Ca)(a0:D)(a1:D):Option D:=
(qZ lp (λv1=>
 qC .geq (gx v1 1) (Jn 0) λb3=>
 if b3 then(qB .shl (gx v1 0) (D.int .u64 32) λx4=>
 qJ (gx v1 1) 16 a0 λx6=>
(D.conv .u64 x6).bind λx7=>
 qB .or x4 x7 λx8=>
(D.conv .u64 a1).bind λx9=>
 qB .quo x8 x9 λx10=>
(D.conv .u32 x10).bind λx11=>
(D.idx (gx v1 1) 16).bind λut=>
(D.set (gx v1 2) [ut] x11).bind λx13=>
(D.conv .u64 a1).bind λx14=>
 qB .rem x8 x14 λx15=>
 qB .sub (gx v1 1) (Jn 1) λx16=>
 iL [x15,x16,x13]) else(iR (0,[(gx v1 0),(gx v1 2)]))) [(D.int .u64 0),(Jn 15),(aJ bf)]).bind λr17=>
(D.conv .u32 (gx r17.2 0)).bind λx18=>
 some (D.tup [(gx r17.2 1),x18])
def Q5{lp}(hlp:ar lp):aj 195 (m2 (Hy lp)):=a8 0 Tryz.f189 Pt hlp
def Hz(lp:Lp)(c:Ca)(a0:D):Option D:=
(c 165 [a0]).bind λr1=>
 qB .sub (Jn 32) r1 λx2=>
 some x2
def Q6{lp}(hlp:ar lp):aj 196 (m1 (Hz lp)):=ba 0 Tryz.f190 .leaf hlp
def Pv:Ann:=(.tl (.tl (.tl (.two (.tl (.two (.loop ⟨[(2,.sp bf 4098),(4,.sp bf 4100),(6,.sp bf 8198),(7,.dv (Ty.int .u64)),(9,.di)],[(4098,.keep bf 2),(4100,.keep bf 4),(8198,.one bf (.dv bf))],[1]⟩ [(.exit 0,⟨[(4,.sp bf 4100),(6,.sp bf 8198),(7,.dv (Ty.int .u64))],[(4100,.keep bf 4),(8198,.one bf (.dv bf))],[]⟩)] .leaf) .leaf)) .leaf))))
def HA(lp:Lp)(c:Ca)(a0:D)(a1:D):Option D:=
(qZ lp (λv1=>
 qC .lss (gx v1 1) (Jn 16) λb3=>
 if b3 then(qJ (gx v1 1) 16 a0 λx5=>
(D.conv .u64 x5).bind λx6=>
 qB .shl x6 a1 λx7=>
 qB .or (gx v1 0) x7 λx8=>
(D.conv .u32 x8).bind λx9=>
(D.idx (gx v1 1) 16).bind λi10=>
(D.set (gx v1 2) [i10] x9).bind λx11=>
 qB .shr x8 (D.int .u64 32) λx12=>
 qB .add (gx v1 1) (Jn 1) λx13=>
 iL [x12,x13,x11]) else(iR (0,[(gx v1 0),(gx v1 2)]))) [(D.int .u64 0),(Jn 0),(aJ bf)]).bind λr14=>
(D.conv .u32 (gx r14.2 0)).bind λx15=>
 some (D.tup [(gx r14.2 1),x15])
def Q7{lp}(hlp:ar lp):aj 197 (m2 (HA lp)):=a8 0 Tryz.f191 Pv hlp
def Pw:Ann:=(.tl (.tl (.two (.tl (.two (.loop ⟨[(2,.sp bf 4098),(4,.sp bf 4100),(5,.sp bf 8197),(8,.di)],[(4098,.keep bf 2),(4100,.keep bf 4),(8197,.one bf (.dv bf))],[1]⟩ [(.exit 0,⟨[(4,.sp bf 4100),(5,.sp bf 8197)],[(4100,.keep bf 4),(8197,.one bf (.dv bf))],[]⟩)] (.tl (.tl (.two (.two (.tl (.tl (.cut [(.normal,⟨[(2,.sp bf 4098),(4,.sp bf 4100),(5,.sp bf 8197),(7,.dv (Ty.int .u64))],[(4098,.keep bf 2),(4100,.keep bf 4),(8197,.keep bf 5)],[1,6,8]⟩)] [1,6,8] [4098,4100,8197] .leaf .leaf))) .leaf) .leaf)))) .leaf)) .leaf)))
def HB(lp:Lp)(c:Ca)(a0:D)(a1:D):Option D:=
(qZ lp (λv1=>
 qC .lss (gx v1 0) (Jn 16) λb3=>
 if b3 then((qB .add (gx v1 0) (Jn 1) λx4=>
 qC .lss x4 (Jn 16) λb6=>
 if b6 then(qB .add (gx v1 0) (Jn 1) λx7=>
 qJ x7 16 a0 λx9=>
(D.conv .u64 x9).bind λx10=>
 some (0,[x10])) else(some (0,[(D.int .u64 0)]))).bind λ(r11:Nat×List D)=>
 qB .shl (gx r11.2 0) (D.int .u64 32) λx12=>
 qJ (gx v1 0) 16 a0 λx14=>
(D.conv .u64 x14).bind λx15=>
 qB .or x12 x15 λx16=>
 qB .shr x16 a1 λx17=>
(D.conv .u32 x17).bind λx18=>
(D.idx (gx v1 0) 16).bind λi19=>
(D.set (gx v1 1) [i19] x18).bind λx20=>
 qB .add (gx v1 0) (Jn 1) λx21=>
 iL [x21,x20]) else(iR (0,[(gx v1 1)]))) [(Jn 0),(aJ bf)]).bind λr22=>
 some (gx r22.2 0)
def Q8{lp}(hlp:ar lp):aj 201 (m2 (HB lp)):=a8 0 Tryz.f195 Pw hlp
def Cz(lp:Lp)(c:Ca)(a0:D):Option D:=
(c 118 [(D.sl [a0])]).bind λr1=>
 qN r1 λb3=>
(if b3 then(some true) else((c 217 [a0]).bind λr4=>
 qB .gtr r4 (Jn 64) λx5=>
 D.truth x5)).bind λb6=>
 qT (D.bool b6) λb7=>
 if b7 then(some (D.tup [(Jn 0),(D.bool false)])) else(qG a0 [2,1] λx8=>
(D.conv .u64 x8).bind λx9=>
 qB .shl x9 (D.int .u64 32) λx10=>
 qG a0 [2,0] λx11=>
(D.conv .u64 x11).bind λx12=>
 qB .or x10 x12 λx13=>
 qG a0 [1] λx14=>
 qT x14 λb15=>
(if b15 then(qB .leq x13 (D.int .u64 9223372036854775808) λx16=>
 D.truth x16) else(some false)).bind λb17=>
 qT (D.bool b17) λb18=>
 if b18 then((D.un .neg x13).bind λx19=>
(D.conv .i64 x19).bind λx20=>
 some (D.tup [x20,(D.bool true)])) else(qG a0 [1] λx21=>
 qN x21 λb23=>
(if b23 then(qB .lss x13 (D.int .u64 9223372036854775808) λx24=>
 D.truth x24) else(some false)).bind λb25=>
 qT (D.bool b25) λb26=>
 if b26 then((D.conv .i64 x13).bind λx27=>
 some (D.tup [x27,(D.bool true)])) else(some (D.tup [(Jn 0),(D.bool false)]))))
def Q9{lp}(hlp:ar lp):aj 202 (m1 (Cz lp)):=ba 0 Tryz.f196 .leaf hlp
def LW:Ann:=(.tl (.two (.reg [] 4) .leaf))
def Ra{lp}(hlp:ar lp):aj 203 (fD 0 lp 203 Tryz.f197 LW):=cB hlp (by kernel_rfl) (by kernel_rfl)
def HC(lp:Lp)(c:Ca)(a0:D):Option D:=
 qC .lss a0 (Jn 0) λb2=>
 if b2 then(some (Jn (-1))) else(qC .gtr a0 (Jn 0) λb4=>
 if b4 then(some (Jn 1)) else(some (Jn 0)))
def Rb{lp}(hlp:ar lp):aj 215 (m1 (HC lp)):=ba 0 Tryz.f263 .leaf hlp
def HD(lp:Lp)(c:Ca)(a0:D):Option D:=
 qG a0 [2] λx1=>
(c 127 [x1]).bind λr2=>
(c 118 [(D.sl [a0])]).bind λr3=>
 qN r3 λb5=>
(if b5 then(some true) else(D.truth (D.bool (D.beq r2 (Jn 0))))).bind λb6=>
 qT (D.bool b6) λb7=>
 if b7 then(some (Jn 0)) else(qB .sub r2 (Jn 1) λx8=>
 qB .mul (Jn 32) x8 λx9=>
 qB .sub r2 (Jn 1) λx10=>
(D.idx x10 16).bind λi11=>
 qG a0 [2,i11] λx12=>
(c 165 [x12]).bind λr13=>
 qB .add x9 r13 λx14=>
 some x14)
def Rc{lp}(hlp:ar lp):aj 217 (m1 (HD lp)):=ba 0 Tryz.f219 .leaf hlp
def Px:Ann:=let o0:LO:=[(4099,.keep gX 3),(4100,.keep K1 4),(4101,.keep K1 5)]
 (.tl (.two (.reg [] 6) (.two (.tl (.two (.loop ⟨[(3,.sp gX 4099),(4,.sp K1 4100),(5,.sp K1 4101),(7,.dv Ty.bool),(8,.di)],o0,[]⟩ [(.exit 0,⟨[(3,.sp gX 4099),(4,.sp K1 4100),(5,.sp K1 4101),(7,.dv Ty.bool)],o0,[]⟩)] .leaf) .leaf)) (.tl (.tl (.tl (.tl (.two (.reg [] 9) (.two (.reg [] 9) (.two (.reg [] 31) .leaf))))))))))
def HE(lp:Lp)(c:Ca)(a0:D)(a1:D)(a2:D):Option D:=
(c 64 [(D.st [(Jn 0),(Jn 0),(Jn 0)]),a1]).bind λr1=>
(c 306 [a0,r1,a2]).bind λr2=>
(qZ lp (λv3=>
 qC .lss (gx v3 1) (Jn 3) λb5=>
 if b5 then(qT (gx v3 0) λb6=>
(if b6 then(qJ (gx v3 1) 3 a1 λx8=>
 qB .lss x8 (Jn 549755813888) λx9=>
 D.truth x9) else(some false)).bind λb10=>
 qT (D.bool b10) λb11=>
(if b11 then(qJ (gx v3 1) 3 a1 λx13=>
 qB .gtr x13 (Jn (-549755813888)) λx14=>
 D.truth x14) else(some false)).bind λb15=>
 qT (D.bool b15) λb16=>
(if b16 then(qJ (gx v3 1) 3 a2 λx18=>
 qB .lss x18 (Jn 549755813888) λx19=>
 D.truth x19) else(some false)).bind λb20=>
 qT (D.bool b20) λb21=>
(if b21 then(qJ (gx v3 1) 3 a2 λx23=>
 qB .gtr x23 (Jn (-549755813888)) λx24=>
 D.truth x24) else(some false)).bind λb25=>
 qB .add (gx v3 1) (Jn 1) λx26=>
 iL [(D.bool b25),x26]) else(iR (0,[(gx v3 0)]))) [r2,(Jn 0)]).bind λr27=>
 qN (gx r27.2 0) λb29=>
 if b29 then((c 307 []).bind λr30=>
 some r30) else((c 309 [a0,a1,a2]).bind λr31=>
 qT (D.bool (D.beq a1 (D.st [(Jn 0),(Jn 0),(Jn 0)]))) λb32=>
(if b32 then(D.truth (D.bool (D.beq a2 (D.st [(Jn 0),(Jn 0),(Jn 0)])))) else(some false)).bind λb33=>
(c 64 [a1,a1]).bind λr34=>
(c 64 [a2,a2]).bind λr35=>
(c 309 [a0,r34,r35]).bind λr36=>
(c 112 [(D.st [(Jn 0),(Jn 0),(Jn 0)]),a1]).bind λr37=>
(c 112 [(D.st [(Jn 0),(Jn 0),(Jn 0)]),a2]).bind λr38=>
(c 309 [a0,r37,r38]).bind λr39=>
(c 307 []).bind λr40=>
 qT r40 λb41=>
(if b41 then(qG r31 [0,0] λx42=>
(D.un .not x42).bind λx43=>
 D.truth x43) else(some false)).bind λb44=>
 qT (D.bool b44) λb45=>
(if b45 then((c 322 [r31]).bind λr46=>
 qB .geq r46 (Jn 0) λx47=>
 D.truth x47) else(some false)).bind λb48=>
 qT (D.bool b48) λb49=>
(if b49 then((c 322 [r31]).bind λr50=>
 D.truth (D.bool (D.beq (D.bool b33) (D.bool (D.beq r50 (Jn 0)))))) else(some false)).bind λb51=>
 qT (D.bool b51) λb52=>
(if b52 then((c 75 [(Jn 4)]).bind λr53=>
(c 38 [r53,r31]).bind λr54=>
 D.truth (D.bool (D.beq r36 r54))) else(some false)).bind λb55=>
 qT (D.bool b55) λb56=>
(if b56 then(D.truth (D.bool (D.beq r39 r31))) else(some false)).bind λb57=>
 some (D.bool b57))
def Mr{lp}(hlp:ar lp):aj 302 (m3 (HE lp)):=lM 0 Tryz.f5 Px hlp
def HF(lp:Lp)(c:Ca)(a0:D)(a1:D)(a2:D):Option D:=
(c 326 [a0]).bind λr1=>
 qT r1 λb2=>
(if b2 then((c 327 [a1]).bind λr3=>
 D.truth r3) else(some false)).bind λb4=>
 qT (D.bool b4) λb5=>
(if b5 then((c 327 [a2]).bind λr6=>
 D.truth r6) else(some false)).bind λb7=>
 some (D.bool b7)
def Rd{lp}(hlp:ar lp):aj 306 (m3 (HF lp)):=lM 0 Tryz.f9 .leaf hlp
def LX:Ann:=(.tl (.tl (.tl (.two (.reg [] 6) (.tl (.two (.reg [] 16) (.two (.reg [] 16) (.two (.reg [] 25) .leaf))))))))
def Re{lp}(hlp:ar lp):aj 307 (fD 0 lp 307 Tryz.f10 LX):=cB hlp (by kernel_rfl) (by kernel_rfl)
def Py:Ann:=(.tl (.tl (.tl (.tl (.tl (.tl (.two (.tl (.two (.loop ⟨[(4,.sp K1 4100),(6,.sp aX 4102),(7,.sp aX 8199),(8,.sp cd 12296),(9,.sp gK 20489),(10,.sp gK 24586),(29,.di)],[(4100,.keep K1 4),(4102,.keep aX 6),(8199,.keep aX 7),(12296,.keep cd 8),(20489,.keep gK 9),(24586,.one gK (.dv gK))],[]⟩ [(.exit 0,⟨[(4,.sp K1 4100),(6,.sp aX 4102),(7,.sp aX 8199),(9,.sp gK 20489),(10,.sp gK 24586)],[(4100,.keep K1 4),(4102,.keep aX 6),(8199,.keep aX 7),(20489,.keep gK 9),(24586,.one gK (.dv gK))],[]⟩)] (.tl (.tl (.two (.two (.tl (.reg [] 14)) .leaf) .leaf)))) .leaf)) (.tl (.two (.reg [] 8) .leaf)))))))))
def HG(lp:Lp)(c:Ca)(a0:D)(a1:D)(a2:D):Option D:=
 qG a0 [2,0] λx1=>
(c 74 [x1]).bind λr2=>
(c 332 [a0,r2]).bind λr3=>
 qP r3 [2] λl5=>
 qT (D.bool (!(D.beq (Jn (l5.length)) (Jn 9)))) λb6=>
 if b6 then((c 130 []).bind λr7=>
 some r7) else((c 135 [a2]).bind λr8=>
(qZ lp (λv9=>
 qC .lss (gx v9 0) (Jn 3) λb11=>
 if b11 then(qG r3 [2] λx12=>
 qB .mul (Jn 3) (gx v9 0) λx13=>
 qB .mul (Jn 3) (gx v9 0) λx14=>
 qB .add x14 (Jn 3) λx15=>
 qS x12 λl16=>
(D.natOf x13).bind λi17=>
(D.natOf x15).bind λi18=>
(D.cut l16 i17 i18).bind λl19=>
 if decide (1<=3)&&decide (3<=l19.length) then((c 134 [(D.st (List.take 3 l19)),r8]).bind λr20=>
(D.idx (gx v9 0) 3).bind λi21=>
(D.set (gx v9 1) [i21] r20).bind λx22=>
 qB .add (gx v9 0) (Jn 1) λx23=>
 iL [x23,x22]) else none) else(iR (0,[(gx v9 1)]))) [(Jn 0),(D.st [(D.st [(D.st [(D.bool false),(D.bool false),(aJ bf)]),(D.st [(D.bool false),(D.bool false),(aJ bf)])]),(D.st [(D.st [(D.bool false),(D.bool false),(aJ bf)]),(D.st [(D.bool false),(D.bool false),(aJ bf)])]),(D.st [(D.st [(D.bool false),(D.bool false),(aJ bf)]),(D.st [(D.bool false),(D.bool false),(aJ bf)])])])]).bind λr24=>
(c 135 [a1]).bind λr25=>
(c 134 [r25,r25]).bind λr26=>
(c 174 [r2,r26]).bind λr27=>
(c 333 [(Jn 1),(Jn 131072)]).bind λr28=>
(c 174 [r27,r28]).bind λr29=>
(c 134 [r8,(gx r24.2 0)]).bind λr30=>
(c 333 [(Jn 1),(Jn 2097152)]).bind λr31=>
(c 174 [r30,r31]).bind λr32=>
(c 334 [(D.sl [r29,r32])]).bind λr33=>
 some r33)
def Rf{lp}(hlp:ar lp):aj 309 (m3 (HG lp)):=lM 0 Tryz.f12 Py hlp
def LY:Ann:=(.tl (.tl (.two (.tl (.two (.loop ⟨[(3,.sp gX 4099),(6,.sp aX 4102),(7,.sp aX 8199),(8,.di)],[(4099,.keep gX 3),(4102,.keep aX 6),(8199,.one aX (.dv aX))],[1,2]⟩ [(.exit 0,⟨[(6,.sp aX 4102),(7,.sp aX 8199)],[(4102,.keep aX 6),(8199,.one aX (.dv aX))],[]⟩)] (.tl (.two (.two (.two (.reg [] 17) (.reg [] 5)) .leaf) .leaf))) .leaf)) .leaf)))
def Rg{lp}(hlp:ar lp):aj 311 (fD 0 lp 311 Tryz.f14 LY):=cB hlp (by kernel_rfl) (by kernel_rfl)
def LZ:Ann:=(.tl (.two (.reg [] 12) .leaf))
def Rh{lp}(hlp:ar lp):aj 313 (fD 0 lp 313 Tryz.f16 LZ):=cB hlp (by kernel_rfl) (by kernel_rfl)
def L0:Ann:=let o0:LO:=[(4100,.one aX (.dv aX)),(16386,.keep zO 1),(16387,.keep pj 2),(45058,.one jL (.ow aX)),(53248,.lp none 0)]
 (.tl (.two (.regI [] 6 (.tl (.two (.tl (.two (.regI [] 3 (.two (.tl (.two (.tl (.two (.two (.tl (.two (.loop ⟨[(0,.same (.yld 53248)),(1,.sp zO 16386),(2,.sp pj 16387),(11,.di)],o0,[9,10]⟩ [(.exit 0,⟨[(0,.same (.yld 53248)),(1,.sp zO 16386),(2,.sp pj 16387)],o0,[]⟩)] (.tl (.tl (.two (.two (.tl (.two (.regI [] 38 .leaf) .leaf)) .leaf) .leaf)))) .leaf)) (.tl (.two (.loop ⟨[(0,.same (.yld 53248)),(2,.sp pj 16387),(58,.di)],[(4100,.one aX (.dv aX)),(16387,.keep pj 2),(45058,.one jL (.ow aX)),(53248,.lp none 0)],[56,57]⟩ [(.exit 2,⟨[(0,.same (.yld 53248))],[(4100,.one aX (.dv aX)),(45058,.one jL (.ow aX)),(53248,.lp none 0)],[]⟩)] (.tl (.tl (.two (.two (.tl (.two (.regI [] 25 .leaf) .leaf)) .leaf) .leaf)))) .leaf))) .leaf)) .leaf)) .leaf)) .leaf)) .leaf))) .leaf))
def Ri{lp}(hlp:ar lp):aj 316 (fD 0 lp 316 Tryz.f19 L0):=cB hlp (by kernel_rfl) (by kernel_rfl)
def L1:Ann:=(.tl (.two (.reg [] 7) .leaf))
def Rj{lp}(hlp:ar lp):aj 318 (fD 0 lp 318 Tryz.f21 L1):=cB hlp (by kernel_rfl) (by kernel_rfl)
def Rk{lp}(hlp:ar lp):aj 320 (fD 0 lp 320 Tryz.f23 .leaf):=cB hlp (by kernel_rfl) (by kernel_rfl)
def HH(lp:Lp)(c:Ca)(a0:D):Option D:=
(c 88 [a0]).bind λr1=>
 qN r1 λb3=>
 if b3 then(some (Jn 0)) else(qG a0 [0] λx4=>
(c 83 [x4]).bind λr5=>
 some r5)
def Rl{lp}(hlp:ar lp):aj 322 (m1 (HH lp)):=ba 0 Tryz.f27 .leaf hlp
def HI(lp:Lp)(c:Ca)(a0:D):Option D:=
(c 346 [a0]).bind λr1=>
 qT r1 λb2=>
(if b2 then((c 347 [a0]).bind λr3=>
 D.truth (D.bool (D.beq r3 (Jn 0)))) else(some false)).bind λb4=>
 some (D.bool b4)
def Rm{lp}(hlp:ar lp):aj 326 (m1 (HI lp)):=ba 0 Tryz.f35 .leaf hlp
def Pz:Ann:=(.tl (.two (.tl (.two (.loop ⟨[(1,.sp K1 4097),(3,.di)],[(4097,.keep K1 1)],[]⟩ [(.ret,⟨[(2,.dv Ty.bool)],[],[]⟩),(.exit 0,⟨[],[],[]⟩)] .leaf) .leaf)) .leaf))
def HJ(lp:Lp)(c:Ca)(a0:D):Option D:=
(qZ lp (λv1=>
 qC .lss (gx v1 0) (Jn 3) λb3=>
 if b3 then(qJ (gx v1 0) 3 a0 λx5=>
 qC .geq x5 (Jn 1099511627776) λb7=>
(if b7 then(some true) else(qJ (gx v1 0) 3 a0 λx9=>
 qB .leq x9 (Jn (-1099511627776)) λx10=>
 D.truth x10)).bind λb11=>
 qT (D.bool b11) λb12=>
 if b12 then(iR (0,[(D.bool false)])) else(qB .add (gx v1 0) (Jn 1) λx13=>
 iL [x13])) else(iR (1,[]))) [(Jn 0)]).bind λr14=>
 if r14.1=0 then(some (gx r14.2 0)) else(some (D.bool true))
def Ro{lp}(hlp:ar lp):aj 327 (m1 (HJ lp)):=ba 0 Tryz.f36 Pz hlp
def L2:Ann:=let o0:LO:=[(4096,.one gX (.st [Ty.str,OA,K8,K8] [.dv Ty.str,.ow K3,.dv K8,.dv K8]))]
 (.tl (.tl (.two (.tl (.two (.loop ⟨[(0,.sp gX 4096),(1,.ow K1),(2,.di)],o0,[]⟩ [(.exit 0,⟨[(0,.sp gX 4096),(1,.ow K1)],o0,[]⟩)] .leaf) .leaf)) .leaf)))
def Rq{lp}(hlp:ar lp):aj 328 (fD 0 lp 328 Tryz.f37 L2):=cB hlp (by kernel_rfl) (by kernel_rfl)
def Rr{lp}(hlp:ar lp):aj 329 (fD 0 lp 329 Tryz.f38 .leaf):=cB hlp (by kernel_rfl) (by kernel_rfl)
def L3:Ann:=(.tl (.two (.reg [] 8) .leaf))
def Rs{lp}(hlp:ar lp):aj 330 (fD 0 lp 330 Tryz.f39 L3):=cB hlp (by kernel_rfl) (by kernel_rfl)
end Sy
end
end
noncomputable section
set_option maxHeartbeats 0
noncomputable section
namespace Sy
open Go Go.Proofs
def tv(lp:Lp)(h:List D->Option D)(a0 a1 xr xc:D):Option (Nat×List D):=
 lp (β:=Nat×List D) (λv1=>
 qC .lss (gx v1 0) xr λb3=>
 if b3 then((qZ lp (λv4=>
 qC .lss (gx v4 0) xc λb6=>
 if b6 then((h [(gx v1 0),(gx v4 0),(gx v4 1),(gx v4 2)]).bind λr7=>
 if List.length (qV v4 11)+List.length [r7]<=1073741824 then(qB .add (gx v4 0) (Jn 1) λx8=>
 iL [x8,(gx v4 1),(gx v4 2),(gx v4 3),(gx v4 4),(qW v4 5),(gx v4 6),(gx v4 7),(qW v4 8),(gx v4 9),(gx v4 10),(D.sl ((qV v4 11)++[r7]))]) else none) else(iR (0,[(gx v4 1),(gx v4 2),(gx v4 3),(gx v4 4),(qW v4 5),(gx v4 6),(gx v4 7),(qW v4 8),(gx v4 9),(gx v4 10),(qW v4 11)]))) [(Jn 0),(gx v1 1),(gx v1 2),(gx v1 3),(gx v1 4),(qW v1 5),(gx v1 6),(gx v1 7),(qW v1 8),(gx v1 9),(gx v1 10),(qW v1 11)]).bind λr9=>
 qB .add (gx v1 0) (Jn 1) λx10=>
 iL [x10,(gx r9.2 0),(gx r9.2 1),(gx r9.2 2),(gx r9.2 3),(qW r9.2 4),(gx r9.2 5),(gx r9.2 6),(qW r9.2 7),(gx r9.2 8),(gx r9.2 9),(qW r9.2 10)]) else(iR (0,[(gx v1 3),(gx v1 4),(qW v1 5),(gx v1 6),(gx v1 7),(qW v1 8),(gx v1 9),(gx v1 10),(qW v1 11)]))) [(Jn 0),a0,a1,(Jn 0),(Jn 0),(D.sl []),(Jn 0),(Jn 0),(D.sl []),xr,xc,(D.sl [])]
def IU(lp:Lp)(call:Ca)(fl c1 c2 m d p:D):Option (Nat×List D):=
(qZ lp (λv43=>
 qL (gx v43 0) (gx v43 3) λb46=>
 if b46 then(qX (gx v43 0) (gx v43 3) λx49=>
(D.fld x49 0).bind λx50=>
(call 105 [(gx v43 7),x50]).bind λr51=>
(qN (gx v43 2) λb53=>
(if b53 then(D.truth r51) else(some false)).bind λb54=>
 qT (D.bool b54) λb55=>
 if b55 then(if List.length (qV v43 1)+List.length [(D.st [(gx v43 7),(gx v43 8),(gx v43 9)])]<=1073741824 then(some (0,[(D.sl ((qV v43 1)++[(D.st [(gx v43 7),(gx v43 8),(gx v43 9)])])),(D.bool true),(gx v43 4),(gx v43 5),(gx v43 6),(gx v43 7),(gx v43 8),(gx v43 9)])) else none) else(some (0,[(qW v43 1),(gx v43 2),(gx v43 4),(gx v43 5),(gx v43 6),(gx v43 7),(gx v43 8),(gx v43 9)]))).bind λ(r56:Nat×List D)=>
 qX (gx v43 0) (gx v43 3) λx59=>
 if List.length (qV r56.2 0)+List.length [x59]<=1073741824 then(qB .add (gx v43 3) (Jn 1) λx60=>
 iL [(gx v43 0),(D.sl ((qV r56.2 0)++[x59])),(gx r56.2 1),x60,(gx r56.2 2),(gx r56.2 3),(gx r56.2 4),(gx r56.2 5),(gx r56.2 6),(gx r56.2 7)]) else none) else(iR (0,[(qW v43 1),(gx v43 2),(gx v43 4),(gx v43 5),(gx v43 6),(gx v43 7),(gx v43 8),(gx v43 9)]))) [fl,(D.sl []),(D.bool false),(Jn 0),c1,c2,m,m,d,p]).bind λr61=>
(qN (gx r61.2 1) λb63=>
 if b63 then(if List.length (qV r61.2 0)+List.length [(D.st [(gx r61.2 5),(gx r61.2 6),(gx r61.2 7)])]<=1073741824 then(some (0,[(D.sl ((qV r61.2 0)++[(D.st [(gx r61.2 5),(gx r61.2 6),(gx r61.2 7)])])),(gx r61.2 2),(gx r61.2 3),(gx r61.2 4)])) else none) else(some (0,[(qW r61.2 0),(gx r61.2 2),(gx r61.2 3),(gx r61.2 4)]))).bind λ(r64:Nat×List D)=>
 some (0,[(qW r64.2 0),(gx r64.2 1),(gx r64.2 2)])
def IJ(lp:Lp)(call:Ca)(x1 c1 c2:D):Option (Nat×List D):=
 lp (β:=Nat×List D) (λv2=>
 qL x1 (gx v2 1) λb5=>
 if b5 then(qB .add (gx v2 1) (Jn 1) λx6=>
(qZ lp (λv7=>
 qL x1 (gx v7 1) λb10=>
 if b10 then(qB .add (gx v7 1) (Jn 1) λx11=>
(qZ lp (λv12=>
 qL x1 (gx v12 1) λb15=>
 if b15 then(qX x1 (gx v2 1) λx18=>
 qX x1 (gx v7 1) λx21=>
 qX x1 (gx v12 1) λx24=>
(call 106 [x18,x21,x24]).bind λr25=>
(qZ lp (λv26=>
 qC .lss (gx v26 1) (Jn 2) λb28=>
 if b28 then(qX x1 (gx v2 1) λx31=>
(call 107 [(gx v26 4),x31]).bind λr32=>
(call 108 [(qW v26 0),(gx v26 4)]).bind λr33=>
(qN r33 λb35=>
(if b35 then((D.un .not (D.bool (D.beq (gx v26 4) (D.st [(Jn 0),(Jn 0),(Jn 0)])))).bind λx36=>
 D.truth x36) else(some false)).bind λb37=>
 qT (D.bool b37) λb38=>
(if b38 then((call 109 [x1,(gx v26 4),r32]).bind λr39=>
 D.truth r39) else(some false)).bind λb40=>
 qT (D.bool b40) λb41=>
 if b41 then((call 111 [x1,(gx v26 4),r32]).bind λr42=>
 IU lp call (qW v26 0) (gx v26 2) (gx v26 3) (gx v26 4) r32 r42) else(some (0,[(qW v26 0),(gx v26 2),(gx v26 3)]))).bind λ(r65:Nat×List D)=>
(call 112 [(D.st [(Jn 0),(Jn 0),(Jn 0)]),(gx v26 4)]).bind λr66=>
 qB .add (gx v26 1) (Jn 1) λx67=>
 iL [(qW r65.2 0),x67,(gx r65.2 1),(gx r65.2 2),r66]) else(iR (0,[(qW v26 0),(gx v26 2),(gx v26 3)]))) [(qW v12 0),(Jn 0),(gx v12 2),(gx v12 3),r25]).bind λr68=>
 qB .add (gx v12 1) (Jn 1) λx69=>
 iL [(qW r68.2 0),x69,(gx r68.2 1),(gx r68.2 2)]) else(iR (0,[(qW v12 0),(gx v12 2),(gx v12 3)]))) [(qW v7 0),x11,(gx v7 2),(gx v7 3)]).bind λr70=>
 qB .add (gx v7 1) (Jn 1) λx71=>
 iL [(qW r70.2 0),x71,(gx r70.2 1),(gx r70.2 2)]) else(iR (0,[(qW v7 0),(gx v7 2),(gx v7 3)]))) [(qW v2 0),x6,(gx v2 2),(gx v2 3)]).bind λr72=>
 qB .add (gx v2 1) (Jn 1) λx73=>
 iL [(qW r72.2 0),x73,(gx r72.2 1),(gx r72.2 2)]) else(iR (0,[(qW v2 0),(gx v2 2),(gx v2 3)]))) [(D.sl []),(Jn 0),c1,c2]
end Sy
end
end
noncomputable section
set_option maxHeartbeats 0
noncomputable section
namespace Sy
open Go Go.Proofs
def PA:Ann:=let o0:LO:=[(4098,.keep gX 2),(4099,.keep aX 3),(4100,.one cd (.st [Ti,Ti,jL] [.di,.di,.ow aX])),(8197,.one cd (.dv cd))]
 let o1:LS:=[(2,.sp gX 4098),(3,.sp aX 4099),(4,.sp cd 4100),(5,.sp cd 8197)]
 let o2:LO:=[(4100,.one cd (.st [Ti,Ti,jL] [.di,.di,.ow aX]))]
 (.tl (.tl (.two (.tl (.two (.loop ⟨[(2,.sp gX 4098),(3,.sp aX 4099),(4,.sp cd 4100),(5,.sp cd 8197),(14,.di)],o0,[12,13]⟩ [(.ret,⟨[(4,.sp cd 4100)],o2,[]⟩),(.exit 0,⟨o1,o0,[]⟩)] (.tl (.tl (.cut [(.normal,⟨o1,o0,[12,13,14]⟩),(.ret,⟨[(4,.sp cd 4100)],o2,[]⟩)] [12,13,14] [4098,4099] (.two (.tl (.tl (.tl (.two (.reg [] 7) .leaf)))) .leaf) .leaf)))) .leaf)) (.two (.reg [] 13) .leaf))))
def HK(lp:Lp)(c:Ca)(a0:D)(a1:D):Option D:=
 qG a0 [1] λx1=>
 qS x1 λl2=>
(qZ lp (λv3=>
 qC .lss (gx v3 0) (Jn (l2.length)) λb5=>
 if b5 then((qX x1 (gx v3 0) λx8=>
 qT (D.bool (D.beq (gx v3 0) (Jn 0))) λb9=>
 if b9 then((c 28 [x8]).bind λr10=>
 some (0,[(gx v3 1),(gx v3 2),(qW v3 3),r10])) else((c 28 [x8]).bind λr11=>
(c 350 [(gx v3 4),r11]).bind λr12=>
(D.tupAt r12 0).bind λx13=>
(D.tupAt r12 1).bind λx14=>
 qT (D.bool (!(D.beq x14 (Jn 0)))) λb15=>
 if b15 then(some (1,[(Jn 0),(Jn 0),(D.sl [])])) else(some (0,[(gx v3 1),(gx v3 2),(qW v3 3),x13])))).bind λ(r16:Nat×List D)=>
 if r16.1=0 then(qB .add (gx v3 0) (Jn 1) λx17=>
 iL [x17,(gx r16.2 0),(gx r16.2 1),(qW r16.2 2),(gx r16.2 3)]) else(iR (0,[(gx r16.2 0),(gx r16.2 1),(qW r16.2 2)]))) else(iR (1,[(gx v3 1),(gx v3 2),(qW v3 3),(gx v3 4)]))) [(Jn 0),(Jn 0),(Jn 0),(D.sl []),(D.st [(Jn 0),(Jn 0),(D.sl [])])]).bind λr18=>
 if r18.1=0 then(some (D.st [(gx r18.2 0),(gx r18.2 1),(qW r18.2 2)])) else((c 74 [(Jn 6)]).bind λr19=>
(c 174 [r19,a1]).bind λr20=>
(c 353 [a0]).bind λr21=>
(c 138 [r21]).bind λr22=>
(c 352 [r20,r22]).bind λr23=>
(c 351 [(gx r18.2 3),r23]).bind λr24=>
(D.tupAt r24 0).bind λx25=>
(D.tupAt r24 1).bind λx26=>
 some x25)
def Rt{lp}(hlp:ar lp):aj 332 (m2 (HK lp)):=a8 0 Tryz.f42 PA hlp
def HL(lp:Lp)(c:Ca)(a0:D)(a1:D):Option D:=
(c 54 [a0]).bind λr1=>
(c 54 [a1]).bind λr2=>
(c 62 [r1,r2]).bind λr3=>
 some r3
def Ru{lp}(hlp:ar lp):aj 333 (m2 (HL lp)):=a8 0 Tryz.f47 .leaf hlp
def PB:Ann:=let o0:LO:=[(4098,.keep aX 2),(8195,.one aX (.dv aX))]
 (.tl (.tl (.two (.tl (.two (.loop ⟨[(2,.sp aX 4098),(3,.sp aX 8195),(9,.di)],o0,[7,8]⟩ [(.exit 0,⟨[(2,.sp aX 4098),(3,.sp aX 8195)],o0,[]⟩)] .leaf) .leaf)) .leaf)))
def HM(lp:Lp)(c:Ca)(a0:D):Option D:=
(c 74 [(Jn 0)]).bind λr1=>
 qS a0 λl2=>
(qZ lp (λv3=>
 qC .lss (gx v3 0) (Jn (l2.length)) λb5=>
 if b5 then(qX a0 (gx v3 0) λx8=>
(c 173 [(gx v3 1),x8]).bind λr9=>
 qB .add (gx v3 0) (Jn 1) λx10=>
 iL [x10,r9]) else(iR (0,[(gx v3 1)]))) [(Jn 0),r1]).bind λr11=>
 some (gx r11.2 0)
def Rv{lp}(hlp:ar lp):aj 334 (m1 (HM lp)):=ba 0 Tryz.f48 PB hlp
def L4:Ann:=(.tl (.two (.reg [] 4) .leaf))
def Rx{lp}(hlp:ar lp):aj 336 (fD 0 lp 336 Tryz.f54 L4):=cB hlp (by kernel_rfl) (by kernel_rfl)
def Ry{lp}(hlp:ar lp):aj 337 (fD 0 lp 337 Tryz.f56 .leaf):=cB hlp (by kernel_rfl) (by kernel_rfl)
def L5:Ann:=(.tl (.tl (.two (.tl (.two (.loop ⟨[(13,.di)],[],[0,1,12]⟩ [(.ret,⟨[(4,.dv Ty.bool)],[],[]⟩),(.exit 0,⟨[],[],[]⟩)] (.tl (.tl (.two (.two (.tl (.two (.reg [] 8) .leaf)) .leaf) .leaf)))) .leaf)) .leaf)))
def Rz{lp}(hlp:ar lp):aj 341 (fD 0 lp 341 Tryz.f62 L5):=cB hlp (by kernel_rfl) (by kernel_rfl)
def RA{lp}(hlp:ar lp):aj 342 (fD 0 lp 342 Tryz.f63 .leaf):=cB hlp (by kernel_rfl) (by kernel_rfl)
def PC:Ann:=(.tl (.two (.tl (.two (.loop ⟨[(1,.sp gX 4097),(3,.di)],[(4097,.keep gX 1)],[]⟩ [(.ret,⟨[(2,.dv Ty.bool)],[],[]⟩),(.exit 0,⟨[(1,.sp gX 4097)],[(4097,.keep gX 1)],[]⟩)] .leaf) .leaf)) .leaf))
def HN(lp:Lp)(c:Ca)(a0:D):Option D:=
(qZ lp (λv1=>
 qM a0 [1] (gx v1 0) λb5=>
 if b5 then(qY a0 [1] (gx v1 0) λx9=>
(D.fld x9 0).bind λx10=>
 qS x10 λl11=>
 qC .gtr (Jn (l11.length)) (Jn 10) λb13=>
 if b13 then(iR (0,[(D.bool false)])) else(qB .add (gx v1 0) (Jn 1) λx14=>
 iL [x14])) else(iR (1,[]))) [(Jn 0)]).bind λr15=>
 if r15.1=0 then(some (gx r15.2 0)) else(qP a0 [1] λl17=>
 qB .leq (Jn (l17.length)) (Jn 3) λx18=>
 some x18)
def RB{lp}(hlp:ar lp):aj 346 (m1 (HN lp)):=ba 0 Tryz.f78 PC hlp
def PD:Ann:=(.tl (.tl (.tl (.tl (.two (.tl (.two (.loop ⟨[(1,.sp gX 4097),(3,.di)],[(4097,.keep gX 1)],[]⟩ [(.ret,⟨[(2,.di)],[],[]⟩),(.exit 0,⟨[(1,.sp gX 4097)],[(4097,.keep gX 1)],[]⟩)] .leaf) .leaf)) (.two (.tl (.two (.loop ⟨[(1,.sp gX 4097),(5,.di)],[(4097,.keep gX 1)],[]⟩ [(.ret,⟨[(2,.di)],[],[]⟩),(.exit 2,⟨[],[],[]⟩)] (.tl (.two (.two (.tl (.two (.loop ⟨[(1,.sp gX 4097),(6,.di)],[(4097,.keep gX 1)],[5]⟩ [(.ret,⟨[(2,.di)],[],[]⟩),(.exit 4,⟨[(1,.sp gX 4097)],[(4097,.keep gX 1)],[5]⟩)] (.tl (.two (.two (.two (.reg [] 11) .leaf) .leaf) .leaf))) .leaf)) .leaf) .leaf))) .leaf)) .leaf))))))
def HO(lp:Lp)(c:Ca)(a0:D):Option D:=
 qG a0 [0] λx1=>
(c 361 [x1]).bind λr2=>
 qN r2 λb4=>
 if b4 then(some (Jn 5)) else(qP a0 [1] λl6=>
 qC .lss (Jn (l6.length)) (Jn 1) λb8=>
(if b8 then(some true) else(qP a0 [1] λl10=>
 qB .gtr (Jn (l10.length)) (Jn 8) λx11=>
 D.truth x11)).bind λb12=>
 qT (D.bool b12) λb13=>
 if b13 then(some (Jn 2)) else(qG a0 [2,0] λx14=>
 qC .lss x14 (Jn 1) λb16=>
(if b16 then(some true) else(qG a0 [2,1] λx17=>
 qG a0 [2,0] λx18=>
 qB .lss x17 x18 λx19=>
 D.truth x19)).bind λb20=>
 qT (D.bool b20) λb21=>
(if b21 then(some true) else(qG a0 [2,1] λx22=>
 qB .gtr x22 (Jn 1099511627776) λx23=>
 D.truth x23)).bind λb24=>
 qT (D.bool b24) λb25=>
(if b25 then(some true) else(qG a0 [3,0] λx26=>
 qB .lss x26 (Jn 0) λx27=>
 D.truth x27)).bind λb28=>
 qT (D.bool b28) λb29=>
(if b29 then(some true) else(qG a0 [3,1] λx30=>
 qG a0 [3,0] λx31=>
 qB .lss x30 x31 λx32=>
 D.truth x32)).bind λb33=>
 qT (D.bool b33) λb34=>
(if b34 then(some true) else(qG a0 [3,1] λx35=>
 qB .gtr x35 (Jn 4000) λx36=>
 D.truth x36)).bind λb37=>
 qT (D.bool b37) λb38=>
 if b38 then(some (Jn 1)) else((qZ lp (λv39=>
 qM a0 [1] (gx v39 0) λb43=>
 if b43 then(qY a0 [1] (gx v39 0) λx47=>
(c 15 [x47]).bind λr48=>
 qT (D.bool (!(D.beq r48 (Jn 0)))) λb49=>
 if b49 then(iR (0,[r48])) else(qY a0 [1] (gx v39 0) λx53=>
(c 362 [x53]).bind λr54=>
 qN r54 λb56=>
 if b56 then(iR (0,[(Jn 1)])) else(qB .add (gx v39 0) (Jn 1) λx57=>
 iL [x57]))) else(iR (1,[]))) [(Jn 0)]).bind λr58=>
 if r58.1=0 then(some (gx r58.2 0)) else((qZ lp (λv59=>
 qM a0 [1] (gx v59 0) λb63=>
 if b63 then((qZ lp (λv64=>
 qC .lss (gx v64 0) (gx v59 0) λb66=>
 if b66 then(qY a0 [1] (gx v64 0) λx70=>
 qY a0 [1] (gx v59 0) λx74=>
(c 363 [x70,x74]).bind λr75=>
 qN r75 λb77=>
 if b77 then(iR (0,[(Jn 150)])) else(qB .add (gx v64 0) (Jn 1) λx78=>
 iL [x78])) else(iR (1,[]))) [(Jn 0)]).bind λr79=>
 if r79.1=0 then(iR (0,[(gx r79.2 0)])) else(qB .add (gx v59 0) (Jn 1) λx80=>
 iL [x80])) else(iR (1,[]))) [(Jn 0)]).bind λr81=>
 if r81.1=0 then(some (gx r81.2 0)) else(some (Jn 0))))))
def RC{lp}(hlp:ar lp):aj 347 (m1 (HO lp)):=ba 0 Tryz.f79 PD hlp
def PE:Ann:=let o0:LO:=[(4098,.one cd (.dv cd)),(4099,.one cd (.dv cd)),(4100,.one cd (.st [Ti,Ti,jL] [.di,.di,.ow aX])),(20486,.one cd (.st [Ti,Ti,jL] [.di,.di,.ow aX])),(24584,.one cd (.st [Ti,Ti,jL] [.di,.di,.ow aX]))]
 (.tl (.tl (.two (.regI [] 10 (.two (.tl (.tl (.two (.tl (.two (.loop ⟨[(2,.same (.clo 139 [(.ptr cd 4098 []),(.ptr cd 4099 [])])),(6,.sp cd 20486),(8,.sp cd 24584),(15,.di)],o0,[1,14]⟩ [(.exit 0,⟨[(6,.sp cd 20486),(8,.sp cd 24584)],[(4100,.one cd (.st [Ti,Ti,jL] [.di,.di,.ow aX])),(20486,.one cd (.st [Ti,Ti,jL] [.di,.di,.ow aX])),(24584,.one cd (.st [Ti,Ti,jL] [.di,.di,.ow aX]))],[]⟩)] (.tl (.tl (.two (.two (.tl (.tl (.two (.loop ⟨[(2,.same (.clo 139 [(.ptr cd 4098 []),(.ptr cd 4099 [])])),(6,.sp cd 20486),(8,.sp cd 24584),(19,.di)],o0,[1,9,14,15,18]⟩ [(.exit 2,⟨[(2,.same (.clo 139 [(.ptr cd 4098 []),(.ptr cd 4099 [])])),(6,.sp cd 20486),(8,.sp cd 24584)],o0,[1,14,15]⟩)] (.tl (.tl (.two (.two (.tl (.reg [] 9)) .leaf) .leaf)))) .leaf))) .leaf) .leaf)))) .leaf)) .leaf))) .leaf)) .leaf)))
def HP(lp:Lp)(c:Ca)(a0:D)(a1:D):Option D:=
(c 366 [(D.sl [a0,a1])]).bind λr1=>
 qN r1 λb3=>
(if b3 then(some true) else(qG a0 [0] λx4=>
 qG a1 [0] λx5=>
 D.truth (D.bool (!(D.beq x4 x5))))).bind λb6=>
 qT (D.bool b6) λb7=>
(if b7 then(some true) else(qG a0 [1] λx8=>
 qG a1 [1] λx9=>
 D.truth (D.bool (!(D.beq x8 x9))))).bind λb10=>
 qT (D.bool b10) λb11=>
 if b11 then(some (D.tup [(D.st [(Jn 0),(Jn 0),(D.sl [])]),(Jn 1)])) else(qG a0 [0] λx12=>
 qG a0 [1] λx13=>
(tv lp (c 407) a0 a1 x12 x13).bind λr24=>
(c 382 [(qW r24.2 8)]).bind λr25=>
 qN r25 λb27=>
 if b27 then((D.tupAt (D.tup [(D.st [(Jn 0),(Jn 0),(D.sl [])]),(Jn 30)]) 0).bind λx28=>
(D.tupAt (D.tup [(D.st [(Jn 0),(Jn 0),(D.sl [])]),(Jn 30)]) 1).bind λx29=>
 some (D.tup [x28,x29])) else((D.tupAt (D.tup [(D.st [(gx r24.2 6),(gx r24.2 7),(qW r24.2 8)]),(Jn 0)]) 0).bind λx30=>
(D.tupAt (D.tup [(D.st [(gx r24.2 6),(gx r24.2 7),(qW r24.2 8)]),(Jn 0)]) 1).bind λx31=>
 some (D.tup [x30,x31])))
def RD{lp}(hlp:ar lp):aj 350 (m2 (HP lp)):=a8 1 Tryz.f85 PE hlp
def PF:Ann:=let o0:LO:=[(4098,.one cd (.dv cd)),(4099,.one aX (.dv aX)),(4100,.one cd (.st [Ti,Ti,jL] [.di,.di,.ow aX])),(20486,.one cd (.st [Ti,Ti,jL] [.di,.di,.ow aX])),(24584,.one cd (.st [Ti,Ti,jL] [.di,.di,.ow aX]))]
 (.tl (.tl (.two (.regI [] 10 (.two (.tl (.tl (.two (.tl (.two (.loop ⟨[(2,.same (.clo 141 [(.ptr cd 4098 []),(.ptr aX 4099 [])])),(6,.sp cd 20486),(8,.sp cd 24584),(15,.di)],o0,[1,14]⟩ [(.exit 0,⟨[(6,.sp cd 20486),(8,.sp cd 24584)],[(4100,.one cd (.st [Ti,Ti,jL] [.di,.di,.ow aX])),(20486,.one cd (.st [Ti,Ti,jL] [.di,.di,.ow aX])),(24584,.one cd (.st [Ti,Ti,jL] [.di,.di,.ow aX]))],[]⟩)] (.tl (.tl (.two (.two (.tl (.tl (.two (.loop ⟨[(2,.same (.clo 141 [(.ptr cd 4098 []),(.ptr aX 4099 [])])),(6,.sp cd 20486),(8,.sp cd 24584),(19,.di)],o0,[1,9,14,15,18]⟩ [(.exit 2,⟨[(2,.same (.clo 141 [(.ptr cd 4098 []),(.ptr aX 4099 [])])),(6,.sp cd 20486),(8,.sp cd 24584)],o0,[1,14,15]⟩)] (.tl (.tl (.two (.two (.tl (.reg [] 9)) .leaf) .leaf)))) .leaf))) .leaf) .leaf)))) .leaf)) .leaf))) .leaf)) .leaf)))
def HR(lp:Lp)(c:Ca)(a0:D)(a1:D):Option D:=
(c 366 [(D.sl [a0])]).bind λr1=>
 qN r1 λb3=>
(if b3 then(some true) else((c 136 [a1]).bind λr4=>
(D.un .not r4).bind λx5=>
 D.truth x5)).bind λb6=>
 qT (D.bool b6) λb7=>
 if b7 then(some (D.tup [(D.st [(Jn 0),(Jn 0),(D.sl [])]),(Jn 1)])) else(qG a0 [0] λx8=>
 qG a0 [1] λx9=>
(tv lp (c 402) a0 a1 x8 x9).bind λr20=>
(c 382 [(qW r20.2 8)]).bind λr21=>
 qN r21 λb23=>
 if b23 then((D.tupAt (D.tup [(D.st [(Jn 0),(Jn 0),(D.sl [])]),(Jn 30)]) 0).bind λx24=>
(D.tupAt (D.tup [(D.st [(Jn 0),(Jn 0),(D.sl [])]),(Jn 30)]) 1).bind λx25=>
 some (D.tup [x24,x25])) else((D.tupAt (D.tup [(D.st [(gx r20.2 6),(gx r20.2 7),(qW r20.2 8)]),(Jn 0)]) 0).bind λx26=>
(D.tupAt (D.tup [(D.st [(gx r20.2 6),(gx r20.2 7),(qW r20.2 8)]),(Jn 0)]) 1).bind λx27=>
 some (D.tup [x26,x27])))
def RE{lp}(hlp:ar lp):aj 351 (m2 (HR lp)):=a8 1 Tryz.f86 PF hlp
def PG:Ann:=(.tl (.tl (.two (.reg [] 7) .leaf)))
def HS(lp:Lp)(c:Ca)(a0:D)(a1:D):Option D:=
(c 136 [a1]).bind λr1=>
 qN r1 λb3=>
 if b3 then((c 130 []).bind λr4=>
 some r4) else(qG a1 [1] λx5=>
 qG a1 [0] λx6=>
(c 62 [x5,x6]).bind λr7=>
(c 174 [a0,r7]).bind λr8=>
 some r8)
def RF{lp}(hlp:ar lp):aj 352 (m2 (HS lp)):=a8 0 Tryz.f87 PG hlp
def PH:Ann:=let o0:LO:=[(4098,.keep aK 2),(8195,.one aK (.dv aK))]
 (.tl (.tl (.two (.tl (.two (.loop ⟨[(2,.sp aK 4098),(3,.sp aK 8195),(10,.di)],o0,[8,9]⟩ [(.exit 0,⟨[(2,.sp aK 4098),(3,.sp aK 8195)],o0,[]⟩)] (.tl (.tl (.two (.two (.tl (.reg [] 4)) .leaf) .leaf)))) .leaf)) .leaf)))
def HT(lp:Lp)(c:Ca)(a0:D):Option D:=
(c 54 [(Jn 0)]).bind λr1=>
 qG a0 [1] λx2=>
 qS x2 λl3=>
(qZ lp (λv4=>
 qC .lss (gx v4 0) (Jn (l3.length)) λb6=>
 if b6 then(qX x2 (gx v4 0) λx9=>
(c 23 [x9]).bind λr10=>
(c 57 [(gx v4 1),r10]).bind λr11=>
 qB .add (gx v4 0) (Jn 1) λx12=>
 iL [x12,r11]) else(iR (0,[(gx v4 1)]))) [(Jn 0),r1]).bind λr13=>
 some (gx r13.2 0)
def RG{lp}(hlp:ar lp):aj 353 (m1 (HT lp)):=ba 0 Tryz.f88 PH hlp
def L6:Ann:=(.tl (.tl (.two (.reg [] 6) .leaf)))
def RH{lp}(hlp:ar lp):aj 357 (fD 0 lp 357 Tryz.f101 L6):=cB hlp (by kernel_rfl) (by kernel_rfl)
def L7:Ann:=(.tl (.two (.reg [] 8) .leaf))
def RJ{lp}(hlp:ar lp):aj 359 (fD 0 lp 359 Tryz.f110 L7):=cB hlp (by kernel_rfl) (by kernel_rfl)
def PI:Ann:=(.tl (.tl (.two (.tl (.two (.loop ⟨[(3,.di)],[],[0]⟩ [(.ret,⟨[(2,.dv Ty.bool)],[],[]⟩),(.exit 0,⟨[],[],[]⟩)] .leaf) .leaf)) .leaf)))
def HU(lp:Lp)(c:Ca)(a0:D):Option D:=
(D.slen a0).bind λx1=>
 qC .lss x1 (Jn 1) λb3=>
(if b3 then(some true) else((D.slen a0).bind λx4=>
 qB .gtr x4 (Jn 32) λx5=>
 D.truth x5)).bind λb6=>
 qT (D.bool b6) λb7=>
 if b7 then(some (D.bool false)) else((qZ lp (λv8=>
(D.slen a0).bind λx9=>
 qC .lss (gx v8 0) x9 λb11=>
 if b11 then((D.strAt a0 (gx v8 0)).bind λx12=>
(c 375 [x12]).bind λr13=>
 qN r13 λb15=>
(if b15 then(qT (D.bool (D.beq (gx v8 0) (Jn 0))) λb16=>
 if b16 then(some true) else((D.strAt a0 (gx v8 0)).bind λx17=>
 qT (D.bool (!(D.beq x17 (D.int .u8 95)))) λb18=>
 if b18 then((D.strAt a0 (gx v8 0)).bind λx19=>
 qC .lss x19 (D.int .u8 48) λb21=>
 if b21 then(some true) else((D.strAt a0 (gx v8 0)).bind λx22=>
 qB .gtr x22 (D.int .u8 57) λx23=>
 D.truth x23)) else(some false))) else(some false)).bind λb24=>
 qT (D.bool b24) λb25=>
 if b25 then(iR (0,[(D.bool false)])) else(qB .add (gx v8 0) (Jn 1) λx26=>
 iL [x26])) else(iR (1,[]))) [(Jn 0)]).bind λr27=>
 if r27.1=0 then(some (gx r27.2 0)) else(some (D.bool true)))
def RK{lp}(hlp:ar lp):aj 361 (m1 (HU lp)):=ba 0 Tryz.f127 PI hlp
def PJ:Ann:=(.tl (.two (.tl (.two (.loop ⟨[(1,.sp K3 4097),(3,.di)],[(4097,.keep K3 1)],[]⟩ [(.ret,⟨[(2,.dv Ty.bool)],[],[]⟩),(.exit 0,⟨[],[],[]⟩)] (.tl (.two (.two (.tl (.two (.loop ⟨[(1,.sp K3 4097),(4,.di)],[(4097,.keep K3 1)],[3]⟩ [(.ret,⟨[(2,.dv Ty.bool)],[],[]⟩),(.exit 2,⟨[(1,.sp K3 4097)],[(4097,.keep K3 1)],[3]⟩)] .leaf) .leaf)) .leaf) .leaf))) .leaf)) .leaf))
def HV(lp:Lp)(c:Ca)(a0:D):Option D:=
(qZ lp (λv1=>
 qM a0 [0] (gx v1 0) λb5=>
 if b5 then((qZ lp (λv6=>
 qC .lss (gx v6 0) (Jn 3) λb8=>
 if b8 then(qY a0 [0] (gx v1 0) λx12=>
(D.idx (gx v6 0) 3).bind λi13=>
(D.fld x12 i13).bind λx14=>
 qC .gtr x14 (Jn 4096) λb16=>
(if b16 then(some true) else(qY a0 [0] (gx v1 0) λx20=>
(D.idx (gx v6 0) 3).bind λi21=>
(D.fld x20 i21).bind λx22=>
 qB .lss x22 (Jn (-4096)) λx23=>
 D.truth x23)).bind λb24=>
 qT (D.bool b24) λb25=>
 if b25 then(iR (0,[(D.bool false)])) else(qB .add (gx v6 0) (Jn 1) λx26=>
 iL [x26])) else(iR (1,[]))) [(Jn 0)]).bind λr27=>
 if r27.1=0 then(iR (0,[(gx r27.2 0)])) else(qB .add (gx v1 0) (Jn 1) λx28=>
 iL [x28])) else(iR (1,[]))) [(Jn 0)]).bind λr29=>
 if r29.1=0 then(some (gx r29.2 0)) else(some (D.bool true))
def RL{lp}(hlp:ar lp):aj 362 (m1 (HV lp)):=ba 0 Tryz.f129 PJ hlp
end Sy
end
end
end Go.Proofs.YtpahompifldeeaaGreat
