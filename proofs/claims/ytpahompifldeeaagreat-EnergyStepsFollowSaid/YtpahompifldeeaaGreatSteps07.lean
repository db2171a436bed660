/- Part 7 of the proof that For every yard with at most 6 things -/
import Derived.Test.YtpahompifldeeaaGreatSteps06
set_option linter.unusedVariables false
set_option linter.unusedSimpArgs false
set_option linter.unnecessarySimpa false
set_option linter.defProp false
set_option maxRecDepth 20000
namespace Go.Proofs.YtpahompifldeeaaGreat
noncomputable section
set_option maxHeartbeats 0
noncomputable section
namespace Sy
open Go Go.Proofs
def Yn:Ann:=let o0:LO:=[(4100,.keep aJ 4),(16390,.one aJ (.dv aJ))]
 let o1:LS:=[(4,.sp aJ 4100),(6,.sp aJ 16390)]
 (.tl (.tl (.tl (.tl (.two (.tl (.two (.loop ⟨[(4,.sp aJ 4100),(6,.sp aJ 16390),(7,.di)],o0,[5]⟩ [(.exit 0,⟨o1,o0,[]⟩)] (.tl (.cut [(.normal,⟨o1,o0,[5,7]⟩)] [5,7] [4100] (.two (.tl (.two (.reg [] 15) (.reg [] 16))) .leaf) .leaf))) .leaf)) .leaf)))))
def Nt(lp:Lp)(c:Ca)(a0:D)(a1:D):Option D:=
(c 140 [a1]).bind λr1=>
 qS r1 λl2=>
 qC .gtr (Jn (l2.length)) (Jn 32) λb4=>
 if b4 then((c 125 []).bind λr5=>
 some r5) else(qT a0 λb6=>
(if b6 then(qS r1 λl7=>
 qB .gtr (Jn (l7.length)) (Jn 0) λx8=>
 D.truth x8) else(some false)).bind λb9=>
(qZ lp (λv10=>
 qL r1 (gx v10 0) λb13=>
 if b13 then((qB .rem (gx v10 0) (Jn 2) λx14=>
 qT (D.bool (D.beq x14 (Jn 0))) λb15=>
 if b15 then(qB .quo (gx v10 0) (Jn 2) λx16=>
 qB .quo (gx v10 0) (Jn 2) λx17=>
(D.idx x17 16).bind λi18=>
 qG (gx v10 1) [2,i18] λx19=>
 qX r1 (gx v10 0) λx22=>
(D.conv .u32 x22).bind λx23=>
 qB .add x19 x23 λx24=>
(D.idx x16 16).bind λi25=>
(D.set (gx v10 1) [2,i25] x24).bind λx26=>
 some (0,[x26])) else(qB .quo (gx v10 0) (Jn 2) λx27=>
 qB .quo (gx v10 0) (Jn 2) λx28=>
(D.idx x28 16).bind λi29=>
 qG (gx v10 1) [2,i29] λx30=>
 qX r1 (gx v10 0) λx33=>
(D.conv .u32 x33).bind λx34=>
 qB .mul x34 (D.int .u32 65536) λx35=>
 qB .add x30 x35 λx36=>
(D.idx x27 16).bind λi37=>
(D.set (gx v10 1) [2,i37] x36).bind λx38=>
 some (0,[x38]))).bind λ(r39:Nat×List D)=>
 qB .add (gx v10 0) (Jn 1) λx40=>
 iL [x40,(gx r39.2 0)]) else(iR (0,[(gx v10 1)]))) [(Jn 0),(D.st [(D.bool false),(D.bool b9),(aB bc)])]).bind λr41=>
 some (gx r41.2 0))
def Zh{lp}(hlp:ap lp):ai 81 (m2 (Nt lp)):=aR 0 Tryz.f119 Yn hlp
def Yo:Ann:=(.tl (.tl (.tl (.two (.tl (.two (.loop ⟨[(5,.ow Ti),(6,.di),(7,.di)],[],[0,1]⟩ [(.exit 0,⟨[(5,.ow Ti)],[],[]⟩)] .leaf) .leaf)) .leaf))))
def PE(lp:Lp)(c:Ca)(a0:D)(a1:D):Option D:=
(qZ lp (λv1=>
 qS a0 λl2=>
 qS a1 λl3=>
(D.max2 (Jn (l2.length)) (Jn (l3.length))).bind λx4=>
 qB .add x4 (Jn 1) λx5=>
 qC .lss (gx v1 2) x5 λb7=>
 if b7 then((c 141 [a0,(gx v1 2)]).bind λr8=>
(c 141 [a1,(gx v1 2)]).bind λr9=>
 qB .add r8 r9 λx10=>
 qB .add x10 (gx v1 1) λx11=>
 qB .rem x11 (Jn 65536) λx12=>
 if List.length (qV v1 0)+List.length [x12]<=1073741824 then(qB .quo x11 (Jn 65536) λx13=>
 qB .add (gx v1 2) (Jn 1) λx14=>
 iL [(D.sl ((qV v1 0)++[x12])),x13,x14]) else none) else(iR (0,[(qW v1 0)]))) [(D.sl []),(Jn 0),(Jn 0)]).bind λr15=>
(c 140 [(qW r15.2 0)]).bind λr16=>
 some r16
def Zi{lp}(hlp:ap lp):ai 82 (m2 (PE lp)):=aR 0 Tryz.f121 Yo hlp
def PF(lp:Lp)(c:Ca)(a0:D):Option D:=
(c 76 [a0]).bind λr1=>
 qN r1 λb3=>
(if b3 then(some true) else((c 77 [a0]).bind λr4=>
 qS r4 λl5=>
 D.truth (D.bool (D.beq (Jn (l5.length)) (Jn 0))))).bind λb6=>
 qT (D.bool b6) λb7=>
 if b7 then(some (Jn 0)) else(qG a0 [1] λx8=>
 qT x8 λb9=>
 if b9 then(some (Jn (-1))) else(some (Jn 1)))
def Zj{lp}(hlp:ap lp):ai 83 (m1 (PF lp)):=aU 0 Tryz.f66 .leaf hlp
def Zk{lp}(hlp:ap lp):ai 84 (mX 0 lp 84 Tryz.f50 .leaf):=gb hlp (by kernel_rfl) (by kernel_rfl)
def Yp:Ann:=(.tl (.tl (.tl (.two (.tl (.two (.two (.two (.loop ⟨[(4,.sp aJ 4100),(5,.di),(7,.di)],[(4100,.keep aJ 4)],[]⟩ [(.exit 0,⟨[(4,.sp aJ 4100),(5,.di)],[(4100,.keep aJ 4)],[]⟩)] .leaf) .leaf) .leaf) .leaf)) (.tl (.tl (.tl (.two (.two (.loop ⟨[(4,.sp aJ 4100),(10,.dv K5),(11,.dv K5)],[(4100,.keep aJ 4)],[]⟩ [(.exit 2,⟨[(4,.sp aJ 4100),(10,.dv K5)],[(4100,.keep aJ 4)],[]⟩)] .leaf) .leaf) .leaf))))))))
def Nu(lp:Lp)(c:Ca)(a0:D)(a1:D):Option D:=
(c 124 [a0]).bind λr1=>
(D.tupAt r1 0).bind λx2=>
(D.tupAt r1 1).bind λx3=>
(c 124 [a1]).bind λr4=>
(D.tupAt r4 0).bind λx5=>
(D.tupAt r4 1).bind λx6=>
 qT x3 λb7=>
(if b7 then(D.truth x6) else(some false)).bind λb8=>
 qT (D.bool b8) λb9=>
 if b9 then((qZ lp (λv10=>
 qT (D.bool (!(D.beq (gx v10 1) (Jn 0)))) λb11=>
 if b11 then(qB .rem (gx v10 0) (gx v10 1) λx12=>
 iL [(gx v10 1),x12]) else(iR (0,[(gx v10 0)]))) [x2,x5]).bind λr13=>
(c 34 [(gx r13.2 0)]).bind λr14=>
(c 142 [r14]).bind λr15=>
 some r15) else((c 76 [a0]).bind λr16=>
 qN r16 λb18=>
(if b18 then(some true) else((c 76 [a1]).bind λr19=>
(D.un .not r19).bind λx20=>
 D.truth x20)).bind λb21=>
 qT (D.bool b21) λb22=>
 if b22 then((c 125 []).bind λr23=>
 some r23) else((c 77 [a0]).bind λr24=>
(c 77 [a1]).bind λr25=>
(qZ lp (λv26=>
 qS (gx v26 1) λl27=>
 qC .gtr (Jn (l27.length)) (Jn 0) λb29=>
 if b29 then((c 143 [(gx v26 0),(gx v26 1)]).bind λr30=>
(D.tupAt r30 0).bind λx31=>
(D.tupAt r30 1).bind λx32=>
 iL [(gx v26 1),x32]) else(iR (0,[(gx v26 0)]))) [r24,r25]).bind λr33=>
(c 81 [(D.bool false),(gx r33.2 0)]).bind λr34=>
 some r34))
def Zl{lp}(hlp:ap lp):ai 85 (m2 (Nu lp)):=aR 0 Tryz.f76 Yp hlp
def Yq:Ann:=(.tl (.tl (.two (.reg [] 6) .leaf)))
def PG(lp:Lp)(c:Ca)(a0:D):Option D:=
(c 76 [a0]).bind λr1=>
 qN r1 λb3=>
 if b3 then((c 125 []).bind λr4=>
 some r4) else(qG a0 [1] λx5=>
(D.un .not x5).bind λx6=>
(c 77 [a0]).bind λr7=>
(c 81 [x6,r7]).bind λr8=>
 some r8)
def Zm{lp}(hlp:ap lp):ai 86 (m1 (PG lp)):=aU 0 Tryz.f116 Yq hlp
def Yr:Ann:=(.tl (.tl (.tl (.tl (.tl (.two (.reg [] 9) (.cut [(.normal,⟨[(2,.sp aJ 4098),(3,.sp aJ 4099),(4,.sp aJ 4100),(9,.dv K5)],[(4098,.keep aJ 2),(4099,.keep aJ 3),(4100,.keep aJ 4)],[]⟩)] [] [4098,4099,4100] .leaf .leaf)))))))
def Nv(lp:Lp)(c:Ca)(a0:D)(a1:D):Option D:=
(c 124 [a0]).bind λr1=>
(D.tupAt r1 0).bind λx2=>
(D.tupAt r1 1).bind λx3=>
(c 124 [a1]).bind λr4=>
(D.tupAt r4 0).bind λx5=>
(D.tupAt r4 1).bind λx6=>
 qT x3 λb7=>
(if b7 then(D.truth x6) else(some false)).bind λb8=>
 qT (D.bool b8) λb9=>
(if b9 then(D.truth (D.bool (!(D.beq x5 (Jn 0))))) else(some false)).bind λb10=>
 qT (D.bool b10) λb11=>
 if b11 then((c 144 [x2,x5]).bind λr12=>
(c 34 [r12]).bind λr13=>
 some r13) else((c 76 [a0]).bind λr14=>
 qN r14 λb16=>
(if b16 then(some true) else((c 76 [a1]).bind λr17=>
(D.un .not r17).bind λx18=>
 D.truth x18)).bind λb19=>
 qT (D.bool b19) λb20=>
(if b20 then(some true) else((c 77 [a1]).bind λr21=>
 qS r21 λl22=>
 D.truth (D.bool (D.beq (Jn (l22.length)) (Jn 0))))).bind λb23=>
 qT (D.bool b23) λb24=>
 if b24 then((c 125 []).bind λr25=>
 some r25) else((c 77 [a0]).bind λr26=>
(c 77 [a1]).bind λr27=>
(c 143 [r26,r27]).bind λr28=>
(D.tupAt r28 0).bind λx29=>
(D.tupAt r28 1).bind λx30=>
(qG a0 [1] λx31=>
 qG a1 [1] λx32=>
 qT (D.bool (!(D.beq x31 x32))) λb33=>
(if b33 then(qS x30 λl34=>
 qB .gtr (Jn (l34.length)) (Jn 0) λx35=>
 D.truth x35) else(some false)).bind λb36=>
 qT (D.bool b36) λb37=>
 if b37 then((c 82 [x29,(D.sl [(Jn 1)])]).bind λr38=>
 some (0,[r38])) else(some (0,[x29]))).bind λ(r39:Nat×List D)=>
 qG a0 [1] λx40=>
 qG a1 [1] λx41=>
(c 81 [(D.bool (!(D.beq x40 x41))),(gx r39.2 0)]).bind λr42=>
 some r42))
def Zn{lp}(hlp:ap lp):ai 87 (m2 (Nv lp)):=aR 0 Tryz.f74 Yr hlp
def PH(lp:Lp)(c:Ca)(a0:D):Option D:=
 qG a0 [0] λx1=>
(c 76 [x1]).bind λr2=>
 qN r2 λb4=>
(if b4 then(some true) else(qG a0 [1] λx5=>
(c 76 [x5]).bind λr6=>
(D.un .not r6).bind λx7=>
 D.truth x7)).bind λb8=>
 qT (D.bool b8) λb9=>
 if b9 then(some (D.bool false)) else(qG a0 [1] λx10=>
(c 83 [x10]).bind λr11=>
 qC .gtr r11 (Jn 0) λb13=>
(if b13 then(qG a0 [0] λx14=>
 qG a0 [1] λx15=>
(c 85 [x14,x15]).bind λr16=>
(c 133 []).bind λr17=>
 D.truth (D.bool (D.beq r16 r17))) else(some false)).bind λb18=>
 some (D.bool b18))
def Zo{lp}(hlp:ap lp):ai 88 (m1 (PH lp)):=aU 0 Tryz.f65 .leaf hlp
def Ys:Ann:=(.tl (.tl (.tl (.tl (.tl (.two (.reg [] 11) .leaf))))))
def Nw(lp:Lp)(c:Ca)(a0:D)(a1:D):Option D:=
(c 124 [a0]).bind λr1=>
(D.tupAt r1 0).bind λx2=>
(D.tupAt r1 1).bind λx3=>
(c 124 [a1]).bind λr4=>
(D.tupAt r4 0).bind λx5=>
(D.tupAt r4 1).bind λx6=>
 qT x3 λb7=>
(if b7 then(D.truth x6) else(some false)).bind λb8=>
 qT (D.bool b8) λb9=>
(if b9 then((c 145 [x2]).bind λr10=>
 D.truth r10) else(some false)).bind λb11=>
 qT (D.bool b11) λb12=>
(if b12 then((c 145 [x5]).bind λr13=>
 D.truth r13) else(some false)).bind λb14=>
 qT (D.bool b14) λb15=>
 if b15 then(qB .mul x2 x5 λx16=>
(c 34 [x16]).bind λr17=>
 some r17) else((c 76 [a0]).bind λr18=>
 qN r18 λb20=>
(if b20 then(some true) else((c 76 [a1]).bind λr21=>
(D.un .not r21).bind λx22=>
 D.truth x22)).bind λb23=>
 qT (D.bool b23) λb24=>
 if b24 then((c 125 []).bind λr25=>
 some r25) else(qG a0 [1] λx26=>
 qG a1 [1] λx27=>
(c 77 [a0]).bind λr28=>
(c 77 [a1]).bind λr29=>
(c 146 [r28,r29]).bind λr30=>
(c 81 [(D.bool (!(D.beq x26 x27))),r30]).bind λr31=>
 some r31))
def Zp{lp}(hlp:ap lp):ai 89 (m2 (Nw lp)):=aR 0 Tryz.f68 Ys hlp
def Xo:Ann:=(.tl (.two (.reg [] 7) .leaf))
def Zq{lp}(hlp:ap lp):ai 90 (mX 0 lp 90 Tryz.f158 Xo):=gb hlp (by kernel_rfl) (by kernel_rfl)
def Yt:Ann:=(.tl (.two (.reg [] 5) .leaf))
def PI(lp:Lp)(c:Ca)(a0:D)(a1:D):Option D:=
(c 148 [a0]).bind λr1=>
(c 148 [a1]).bind λr2=>
(c 147 [r1,r2]).bind λr3=>
 some r3
def Zr{lp}(hlp:ap lp):ai 91 (m2 (PI lp)):=aR 0 Tryz.f177 Yt hlp
def Yu:Ann:=(.tl (.two (.reg [] 8) (.cut [(.normal,⟨[(3,.sp K1 4099),(6,.sp dF 4102),(7,.sp K1 8199)],[(4099,.keep K1 3),(4102,.keep dF 6),(8199,.one K1 (.dv K1))],[]⟩)] [] [4099,4102] (.two (.reg [] 8) (.tl (.two (.reg [] 13) .leaf))) (.two (.reg [] 5) .leaf))))
def PJ(lp:Lp)(c:Ca)(a0:D)(a1:D)(a2:D):Option D:=
(c 103 [a1,a0]).bind λr1=>
(c 103 [a2,a0]).bind λr2=>
(c 117 [r1,r2]).bind λr3=>
(qG r3 [0] λx4=>
 qG r3 [1] λx5=>
(c 152 [x4,x5]).bind λr6=>
 qG r3 [2] λx7=>
(c 152 [r6,x7]).bind λr8=>
 qC .gtr r8 (Jn 1) λb10=>
 if b10 then(qG r3 [0] λx11=>
 qB .quo x11 r8 λx12=>
 qG r3 [1] λx13=>
 qB .quo x13 r8 λx14=>
 qG r3 [2] λx15=>
 qB .quo x15 r8 λx16=>
 some (0,[(D.st [x12,x14,x16])])) else(some (0,[r3]))).bind λ(r17:Nat×List D)=>
(c 101 [(gx r17.2 0),a0]).bind λr18=>
 some (D.st [(gx r17.2 0),r18])
def Zs{lp}(hlp:ap lp):ai 96 (m3 (PJ lp)):=kY 0 Tryz.f232 Yu hlp
def PK(lp:Lp)(c:Ca)(a0:D):Option D:=
 qG a0 [0] λx1=>
(D.un .neg x1).bind λx2=>
 qG a0 [1] λx3=>
(D.un .neg x3).bind λx4=>
 qG a0 [2] λx5=>
(D.un .neg x5).bind λx6=>
 some (D.st [x2,x4,x6])
def Zt{lp}(hlp:ap lp):ai 97 (m1 (PK lp)):=aU 0 Tryz.f233 .leaf hlp
def Yv:Ann:=(.tl (.tl (.two (.tl (.two (.loop ⟨[(3,.sp dF 4099),(5,.dv Ty.bool),(11,.di)],[(4099,.keep dF 3)],[9,10]⟩ [(.ret,⟨[(4,.dv Ty.bool)],[],[]⟩),(.exit 0,⟨[(5,.dv Ty.bool)],[],[]⟩)] .leaf) .leaf)) .leaf)))
def PL(lp:Lp)(c:Ca)(a0:D)(a1:D):Option D:=
 qS a0 λl1=>
(qZ lp (λv2=>
 qC .lss (gx v2 1) (Jn (l1.length)) λb4=>
 if b4 then(qX a0 (gx v2 1) λx7=>
 qG a1 [0] λx8=>
(c 101 [x8,x7]).bind λr9=>
 qG a1 [1] λx10=>
 qC .gtr r9 x10 λb12=>
 if b12 then(iR (0,[(D.bool false)])) else(qT (gx v2 0) λb13=>
(if b13 then(qG a1 [1] λx14=>
 D.truth (D.bool (D.beq r9 x14))) else(some false)).bind λb15=>
 qB .add (gx v2 1) (Jn 1) λx16=>
 iL [(D.bool b15),x16])) else(iR (1,[(gx v2 0)]))) [(D.bool true),(Jn 0)]).bind λr17=>
 if r17.1=0 then(some (gx r17.2 0)) else((D.un .not (gx r17.2 0)).bind λx18=>
 some x18)
def Zu{lp}(hlp:ap lp):ai 98 (m2 (PL lp)):=aR 0 Tryz.f234 Yv hlp
def P3:Ann:=(.tl (.two (.reg [] 23) .leaf))
def Hj(lp:Lp)(c:Ca)(a0:D)(a1:D):Option D:=
 qG a0 [0,0] λx1=>
 qG a1 [0,0] λx2=>
(c 53 [x1,x2]).bind λr3=>
 qG a0 [0,1] λx4=>
 qG a1 [0,1] λx5=>
(c 53 [x4,x5]).bind λr6=>
 qG a0 [0,2] λx7=>
 qG a1 [0,2] λx8=>
(c 53 [x7,x8]).bind λr9=>
(c 52 [(D.sl [r3,r6,r9])]).bind λr10=>
 some r10
def Ry{lp}(hlp:ap lp):ai 100 (m2 (Hj lp)):=aR 0 Tryz.f236 P3 hlp
def EI(lp:Lp)(c:Ca)(a0:D)(a1:D):Option D:=
 qG a0 [0] λx1=>
 qG a1 [0] λx2=>
 qB .mul x1 x2 λx3=>
 qG a0 [1] λx4=>
 qG a1 [1] λx5=>
 qB .mul x4 x5 λx6=>
 qB .add x3 x6 λx7=>
 qG a0 [2] λx8=>
 qG a1 [2] λx9=>
 qB .mul x8 x9 λx10=>
 qB .add x7 x10 λx11=>
 some x11
def Rz{lp}(hlp:ap lp):ai 101 (m2 (EI lp)):=aR 0 Tryz.f239 .leaf hlp
def P4:Ann:=(.tl (.two (.reg [] 4) .leaf))
def Hk(lp:Lp)(c:Ca)(a0:D)(a1:D):Option D:=
(c 97 [a1]).bind λr1=>
(c 154 [a0,r1]).bind λr2=>
 some r2
def RA{lp}(hlp:ap lp):ai 103 (m2 (Hk lp)):=aR 0 Tryz.f241 P4 hlp
def P5:Ann:=(.tl (.tl (.two (.tl (.two (.loop ⟨[(7,.sp K1 8199),(14,.di)],[(8199,.keep K1 7)],[13]⟩ [(.ret,⟨[(6,.di)],[],[]⟩),(.exit 0,⟨[],[],[]⟩)] .leaf) .leaf)) .leaf)))
def Hl(lp:Lp)(c:Ca)(a0:D)(a1:D)(a2:D):Option D:=
(c 117 [a1,a2]).bind λr1=>
(qZ lp (λv2=>
 qC .lss (gx v2 0) (Jn 3) λb4=>
 if b4 then((D.idx (gx v2 0) 3).bind λi5=>
(D.fld a0 i5).bind λx6=>
 qT (D.bool (!(D.beq x6 (Jn 0)))) λb7=>
 if b7 then(qJ (gx v2 0) 3 r1 λx9=>
(c 53 [x9,(Jn 0)]).bind λr10=>
(c 53 [x6,(Jn 0)]).bind λr11=>
 qB .mul r10 r11 λx12=>
 iR (0,[x12])) else(qB .add (gx v2 0) (Jn 1) λx13=>
 iL [x13])) else(iR (1,[]))) [(Jn 0)]).bind λr14=>
 if r14.1=0 then(some (gx r14.2 0)) else(some (Jn 0))
def RB{lp}(hlp:ap lp):ai 104 (m3 (Hl lp)):=kY 0 Tryz.f242 P5 hlp
def Hm(lp:Lp)(c:Ca)(a0:D)(a1:D):Option D:=
 qG a0 [0] λx1=>
 qG a1 [0] λx2=>
 qT (D.bool (!(D.beq x1 x2))) λb3=>
 if b3 then(qG a0 [0] λx4=>
 qG a1 [0] λx5=>
 qB .lss x4 x5 λx6=>
 some x6) else(qG a0 [1] λx7=>
 qG a1 [1] λx8=>
 qT (D.bool (!(D.beq x7 x8))) λb9=>
 if b9 then(qG a0 [1] λx10=>
 qG a1 [1] λx11=>
 qB .lss x10 x11 λx12=>
 some x12) else(qG a0 [2] λx13=>
 qG a1 [2] λx14=>
 qB .lss x13 x14 λx15=>
 some x15))
def RC{lp}(hlp:ap lp):ai 105 (m2 (Hm lp)):=aR 0 Tryz.f224 .leaf hlp
def P6:Ann:=(.tl (.two (.reg [] 8) .leaf))
def Hn(lp:Lp)(c:Ca)(a0:D)(a1:D)(a2:D):Option D:=
(c 112 [a1,a0]).bind λr1=>
(c 112 [a2,a0]).bind λr2=>
(c 123 [r1,r2]).bind λr3=>
(c 80 [r3]).bind λr4=>
(c 155 [r4]).bind λr5=>
 qG r5 [0] λx6=>
 some x6
def RD{lp}(hlp:ap lp):ai 106 (m3 (Hn lp)):=kY 0 Tryz.f225 P6 hlp
def Ho(lp:Lp)(c:Ca)(a0:D)(a1:D):Option D:=
 qG a0 [0] λx1=>
 qG a1 [0] λx2=>
 qB .mul x1 x2 λx3=>
 qG a0 [1] λx4=>
 qG a1 [1] λx5=>
 qB .mul x4 x5 λx6=>
 qB .add x3 x6 λx7=>
 qG a0 [2] λx8=>
 qG a1 [2] λx9=>
 qB .mul x8 x9 λx10=>
 qB .add x7 x10 λx11=>
 some x11
def RE{lp}(hlp:ap lp):ai 107 (m2 (Ho lp)):=aR 0 Tryz.f226 .leaf hlp
def P7:Ann:=(.tl (.two (.tl (.two (.loop ⟨[(3,.sp K1 4099),(5,.di)],[(4099,.keep K1 3)],[0]⟩ [(.ret,⟨[(4,.dv Ty.bool)],[],[]⟩),(.exit 0,⟨[],[],[]⟩)] (.tl (.two (.two (.two (.reg [] 6) .leaf) .leaf) .leaf))) .leaf)) .leaf))
def Hp(lp:Lp)(c:Ca)(a0:D)(a1:D):Option D:=
(qZ lp (λv1=>
 qL a0 (gx v1 0) λb4=>
 if b4 then(qX a0 (gx v1 0) λx7=>
(D.fld x7 0).bind λx8=>
 qT (D.bool (D.beq x8 a1)) λb9=>
 if b9 then(iR (0,[(D.bool true)])) else(qB .add (gx v1 0) (Jn 1) λx10=>
 iL [x10])) else(iR (1,[]))) [(Jn 0)]).bind λr11=>
 if r11.1=0 then(some (gx r11.2 0)) else(some (D.bool false))
def RF{lp}(hlp:ap lp):ai 108 (m2 (Hp lp)):=aR 0 Tryz.f227 P7 hlp
def P8:Ann:=(.tl (.tl (.two (.tl (.two (.loop ⟨[(4,.sp K1 4100),(7,.dv Ty.bool),(8,.di)],[(4100,.keep K1 4)],[0,2]⟩ [(.ret,⟨[(6,.dv Ty.bool)],[],[]⟩),(.exit 0,⟨[(7,.dv Ty.bool)],[],[]⟩)] (.tl (.two (.two (.two (.reg [] 6) .leaf) .leaf) .leaf))) .leaf)) .leaf)))
def Hq(lp:Lp)(c:Ca)(a0:D)(a1:D)(a2:D):Option D:=
(qZ lp (λv1=>
 qL a0 (gx v1 1) λb4=>
 if b4 then(qX a0 (gx v1 1) λx7=>
(c 107 [a1,x7]).bind λr8=>
 qC .gtr r8 a2 λb10=>
 if b10 then(iR (0,[(D.bool false)])) else(qT (gx v1 0) λb11=>
(if b11 then(some true) else(qB .lss r8 a2 λx12=>
 D.truth x12)).bind λb13=>
 qB .add (gx v1 1) (Jn 1) λx14=>
 iL [(D.bool b13),x14])) else(iR (1,[(gx v1 0)]))) [(D.bool false),(Jn 0)]).bind λr15=>
 if r15.1=0 then(some (gx r15.2 0)) else(some (gx r15.2 0))
def RG{lp}(hlp:ap lp):ai 109 (m3 (Hq lp)):=kY 0 Tryz.f228 P8 hlp
def P9:Ann:=let o0:LS:=[(3,.sp K6 4099),(5,.ow K6),(6,.dv Ty.bool)]
 (.tl (.tl (.tl (.two (.tl (.two (.loop ⟨[(3,.sp K6 4099),(5,.ow K6),(6,.dv Ty.bool),(7,.di)],[(4099,.keep K6 3)],[0]⟩ [(.exit 0,⟨o0,[(4099,.keep K6 3)],[]⟩)] (.tl (.two (.two (.two (.reg [] 8) (.cut [(.normal,⟨o0,[(4099,.keep K6 3)],[0,7]⟩)] [0,7] [4099] .leaf .leaf)) .leaf) .leaf))) .leaf)) (.cut [(.normal,⟨[(5,.ow K6)],[],[]⟩)] [] [] .leaf .leaf)))))
def Hr(lp:Lp)(c:Ca)(a0:D)(a1:D):Option D:=
(qZ lp (λv1=>
 qL a0 (gx v1 2) λb4=>
 if b4 then(qG a1 [0] λx5=>
 qX a0 (gx v1 2) λx8=>
(D.fld x8 0).bind λx9=>
(c 105 [x5,x9]).bind λr10=>
(qN (gx v1 1) λb12=>
(if b12 then(D.truth r10) else(some false)).bind λb13=>
 qT (D.bool b13) λb14=>
 if b14 then(if List.length (qV v1 0)+List.length [a1]<=1073741824 then(some (0,[(D.sl ((qV v1 0)++[a1])),(D.bool true)])) else none) else(some (0,[(qW v1 0),(gx v1 1)]))).bind λ(r15:Nat×List D)=>
 qX a0 (gx v1 2) λx18=>
 if List.length (qV r15.2 0)+List.length [x18]<=1073741824 then(qB .add (gx v1 2) (Jn 1) λx19=>
 iL [(D.sl ((qV r15.2 0)++[x18])),(gx r15.2 1),x19]) else none) else(iR (0,[(qW v1 0),(gx v1 1)]))) [(D.sl []),(D.bool false),(Jn 0)]).bind λr20=>
(qN (gx r20.2 1) λb22=>
 if b22 then(if List.length (qV r20.2 0)+List.length [a1]<=1073741824 then(some (0,[(D.sl ((qV r20.2 0)++[a1]))])) else none) else(some (0,[(qW r20.2 0)]))).bind λ(r23:Nat×List D)=>
 some (qW r23.2 0)
def RH{lp}(hlp:ap lp):ai 110 (m2 (Hr lp)):=aR 0 Tryz.f229 P9 hlp
def Qa:Ann:=let o0:LS:=[(4,.sp K1 4100),(7,.ow Ti),(8,.di)]
 let o1:LS:=[(4,.sp K1 4100),(7,.ow Ti),(11,.di)]
 (.tl (.tl (.tl (.two (.tl (.two (.loop ⟨[(4,.sp K1 4100),(7,.ow Ti),(8,.di),(9,.di)],[(4100,.keep K1 4)],[0,2]⟩ [(.exit 0,⟨o0,[(4100,.keep K1 4)],[0,2]⟩)] (.tl (.cut [(.normal,⟨o0,[(4100,.keep K1 4)],[0,2,9]⟩)] [0,2,9] [4100] (.two (.two (.reg [] 7) .leaf) .leaf) .leaf))) .leaf)) (.tl (.two (.two (.loop ⟨o0,[(4100,.keep K1 4)],[0,2,10]⟩ [(.exit 2,⟨[(7,.ow Ti)],[],[]⟩)] (.tl (.two (.tl (.tl (.two (.tl (.two (.loop ⟨[(4,.sp K1 4100),(7,.ow Ti),(11,.di),(12,.di)],[(4100,.keep K1 4)],[0,2,8,10]⟩ [(.exit 4,⟨o1,[(4100,.keep K1 4)],[0,2,10]⟩)] (.tl (.cut [(.normal,⟨o1,[(4100,.keep K1 4)],[0,2,8,10,12]⟩)] [0,2,8,10,12] [4100] (.two (.tl (.two (.two (.reg [] 12) .leaf) .leaf)) .leaf) .leaf))) .leaf)) .leaf))) .leaf))) .leaf) .leaf))))))
def Hs(lp:Lp)(c:Ca)(a0:D)(a1:D)(a2:D):Option D:=
(qZ lp (λv1=>
 qL a0 (gx v1 2) λb4=>
(if b4 then(qB .lss (gx v1 1) (Jn 0) λx5=>
 D.truth x5) else(some false)).bind λb6=>
 qT (D.bool b6) λb7=>
 if b7 then((qX a0 (gx v1 2) λx10=>
(c 107 [a1,x10]).bind λr11=>
 qT (D.bool (D.beq r11 a2)) λb12=>
 if b12 then(some (0,[(qW v1 0),(gx v1 2)])) else(some (0,[(qW v1 0),(gx v1 1)]))).bind λ(r13:Nat×List D)=>
 qB .add (gx v1 2) (Jn 1) λx14=>
 iL [(qW r13.2 0),(gx r13.2 1),x14]) else(iR (0,[(qW v1 0),(gx v1 1)]))) [(D.sl []),(Jn (-1)),(Jn 0)]).bind λr15=>
(qZ lp (λv16=>
 qS a0 λl17=>
 qC .leq (Jn (List.length (qV v16 0))) (Jn (l17.length)) λb19=>
 if b19 then(if List.length (qV v16 0)+List.length [(gx v16 1)]<=1073741824 then((qZ lp (λv20=>
 qL a0 (gx v20 2) λb23=>
(if b23 then(qB .lss (gx v20 1) (Jn 0) λx24=>
 D.truth x24) else(some false)).bind λb25=>
 qT (D.bool b25) λb26=>
 if b26 then((qT (D.bool (!(D.beq (gx v20 2) (gx v16 1)))) λb27=>
(if b27 then(qX a0 (gx v20 2) λx30=>
(c 107 [a1,x30]).bind λr31=>
 D.truth (D.bool (D.beq r31 a2))) else(some false)).bind λb32=>
 qT (D.bool b32) λb33=>
 if b33 then(qX a0 (gx v16 1) λx36=>
 qX a0 (gx v20 2) λx39=>
(c 156 [a0,a1,a2,x36,x39]).bind λr40=>
 qT r40 λb41=>
 if b41 then(some (0,[(qW v20 0),(gx v20 2)])) else(some (0,[(qW v20 0),(gx v20 1)]))) else(some (0,[(qW v20 0),(gx v20 1)]))).bind λ(r42:Nat×List D)=>
 qB .add (gx v20 2) (Jn 1) λx43=>
 iL [(qW r42.2 0),(gx r42.2 1),x43]) else(iR (0,[(qW v20 0),(gx v20 1)]))) [(D.sl ((qV v16 0)++[(gx v16 1)])),(Jn (-1)),(Jn 0)]).bind λr44=>
 qT (D.bool (D.beq (gx r44.2 1) (gx r15.2 1))) λb45=>
(if b45 then(some true) else(qB .lss (gx r44.2 1) (Jn 0) λx46=>
 D.truth x46)).bind λb47=>
 qT (D.bool b47) λb48=>
 if b48 then(iR (0,[(qW r44.2 0)])) else(iL [(qW r44.2 0),(gx r44.2 1)])) else none) else(iR (0,[(qW v16 0)]))) [(qW r15.2 0),(gx r15.2 1)]).bind λr49=>
 some (qW r49.2 0)
def RJ{lp}(hlp:ap lp):ai 111 (m3 (Hs lp)):=kY 0 Tryz.f230 Qa hlp
def Ht(lp:Lp)(c:Ca)(a0:D)(a1:D):Option D:=
 qG a0 [0] λx1=>
 qG a1 [0] λx2=>
 qB .sub x1 x2 λx3=>
 qG a0 [1] λx4=>
 qG a1 [1] λx5=>
 qB .sub x4 x5 λx6=>
 qG a0 [2] λx7=>
 qG a1 [2] λx8=>
 qB .sub x7 x8 λx9=>
 some (D.st [x3,x6,x9])
def RK{lp}(hlp:ap lp):ai 112 (m2 (Ht lp)):=aR 0 Tryz.f26 .leaf hlp
def Hu(lp:Lp)(c:Ca)(a0:D):Option D:=
 some (D.bool (!(D.beq a0 a0)))
def RL{lp}(hlp:ap lp):ai 115 (m1 (Hu lp)):=aU 0 Tryz.f250 .leaf hlp
def Qb:Ann:=(.tl (.two (.reg [] 8) .leaf))
def Hv(lp:Lp)(c:Ca)(a0:D)(a1:D):Option D:=
 qT a0 λb1=>
(if b1 then(D.truth (D.bool (!(D.beq a1 (D.st (D.putParts (List.replicate 16 (D.int .u32 0)) [])))))) else(some false)).bind λb2=>
 some (D.st [(D.bool false),(D.bool b2),a1])
def RM{lp}(hlp:ap lp):ai 116 (m2 (Hv lp)):=aR 0 Tryz.f133 Qb hlp
end Sy
end
end
noncomputable section
set_option maxHeartbeats 0
noncomputable section
namespace Sy
open Go Go.Proofs
def Hw(lp:Lp)(c:Ca)(a0:D)(a1:D):Option D:=
 qG a0 [1] λx1=>
 qG a1 [2] λx2=>
 qB .mul x1 x2 λx3=>
 qG a0 [2] λx4=>
 qG a1 [1] λx5=>
 qB .mul x4 x5 λx6=>
 qB .sub x3 x6 λx7=>
 qG a0 [2] λx8=>
 qG a1 [0] λx9=>
 qB .mul x8 x9 λx10=>
 qG a0 [0] λx11=>
 qG a1 [2] λx12=>
 qB .mul x11 x12 λx13=>
 qB .sub x10 x13 λx14=>
 qG a0 [0] λx15=>
 qG a1 [1] λx16=>
 qB .mul x15 x16 λx17=>
 qG a0 [1] λx18=>
 qG a1 [0] λx19=>
 qB .mul x18 x19 λx20=>
 qB .sub x17 x20 λx21=>
 some (D.st [x7,x14,x21])
def RN{lp}(hlp:ap lp):ai 117 (m2 (Hw lp)):=aR 0 Tryz.f178 .leaf hlp
def Qc:Ann:=(.tl (.two (.tl (.two (.loop ⟨[(7,.di)],[],[5,6]⟩ [(.ret,⟨[(2,.dv Ty.bool)],[],[]⟩),(.exit 0,⟨[],[],[]⟩)] .leaf) .leaf)) .leaf))
def Hx(lp:Lp)(c:Ca)(a0:D):Option D:=
 qS a0 λl1=>
(qZ lp (λv2=>
 qC .lss (gx v2 0) (Jn (l1.length)) λb4=>
 if b4 then(qX a0 (gx v2 0) λx7=>
 qG x7 [0] λx8=>
 qT x8 λb9=>
(if b9 then(some true) else((c 167 [x7]).bind λr10=>
(D.un .not r10).bind λx11=>
 D.truth x11)).bind λb12=>
 qT (D.bool b12) λb13=>
 if b13 then(iR (0,[(D.bool false)])) else(qB .add (gx v2 0) (Jn 1) λx14=>
 iL [x14])) else(iR (1,[]))) [(Jn 0)]).bind λr15=>
 if r15.1=0 then(some (gx r15.2 0)) else(some (D.bool true))
def RO{lp}(hlp:ap lp):ai 118 (m1 (Hx lp)):=aU 0 Tryz.f144 Qc hlp
def Hy(lp:Lp)(c:Ca) :Option D:=
 some (D.st [(D.bool true),(D.bool false),(aB bc)])
def RP{lp}(hlp:ap lp):ai 119 (m0 (Hy lp)):=zf 0 Tryz.f89 .leaf hlp
def Qd:Ann:=(.tl (.tl (.tl (.two (.tl (.two (.loop ⟨[(2,.sp bc 4098),(3,.sp bc 4099),(4,.sp bc 4100),(6,.sp bc 8198),(7,.dv (Ty.int .u64)),(9,.di)],[(4098,.keep bc 2),(4099,.keep bc 3),(4100,.keep bc 4),(8198,.one bc (.dv bc))],[]⟩ [(.exit 0,⟨[(4,.sp bc 4100),(6,.sp bc 8198),(7,.dv (Ty.int .u64))],[(4100,.keep bc 4),(8198,.one bc (.dv bc))],[]⟩)] (.tl (.tl (.two (.two (.tl (.two (.reg [] 11) .leaf)) .leaf) .leaf)))) .leaf)) .leaf))))
def Hz(lp:Lp)(c:Ca)(a0:D)(a1:D):Option D:=
(qZ lp (λv1=>
 qC .lss (gx v1 1) (Jn 16) λb3=>
 if b3 then(qJ (gx v1 1) 16 a0 λx5=>
(D.conv .u64 x5).bind λx6=>
 qJ (gx v1 1) 16 a1 λx8=>
(D.conv .u64 x8).bind λx9=>
 qB .add x6 x9 λx10=>
 qB .add (gx v1 0) x10 λx11=>
(D.conv .u32 x11).bind λx12=>
(D.idx (gx v1 1) 16).bind λi13=>
(D.set (gx v1 2) [i13] x12).bind λx14=>
 qB .shr x11 (D.int .u64 32) λx15=>
 qB .add (gx v1 1) (Jn 1) λx16=>
 iL [x15,x16,x14]) else(iR (0,[(gx v1 0),(gx v1 2)]))) [(D.int .u64 0),(Jn 0),(aB bc)]).bind λr17=>
 some (D.tup [(gx r17.2 1),(D.bool (D.beq (gx r17.2 0) (D.int .u64 0)))])
def RQ{lp}(hlp:ap lp):ai 120 (m2 (Hz lp)):=aR 0 Tryz.f155 Qd hlp
def Qe:Ann:=(.tl (.two (.tl (.two (.loop ⟨[(2,.sp bc 4098),(3,.sp bc 4099),(5,.di)],[(4098,.keep bc 2),(4099,.keep bc 3)],[]⟩ [(.ret,⟨[(4,.di)],[],[]⟩),(.exit 0,⟨[],[],[]⟩)] (.tl (.two (.two (.two (.reg [] 6) (.two (.two (.reg [] 7) .leaf) .leaf)) .leaf) .leaf))) .leaf)) .leaf))
def HA(lp:Lp)(c:Ca)(a0:D)(a1:D):Option D:=
(qZ lp (λv1=>
 qC .geq (gx v1 0) (Jn 0) λb3=>
 if b3 then(qJ (gx v1 0) 16 a0 λx5=>
 qJ (gx v1 0) 16 a1 λx7=>
 qT (D.bool (!(D.beq x5 x7))) λb8=>
 if b8 then(qJ (gx v1 0) 16 a0 λx10=>
 qJ (gx v1 0) 16 a1 λx12=>
(c 168 [x10,x12]).bind λr13=>
 iR (0,[r13])) else(qB .sub (gx v1 0) (Jn 1) λx14=>
 iL [x14])) else(iR (1,[]))) [(Jn 15)]).bind λr15=>
 if r15.1=0 then(some (gx r15.2 0)) else(some (Jn 0))
def RR{lp}(hlp:ap lp):ai 121 (m2 (HA lp)):=aR 0 Tryz.f156 Qe hlp
def Qf:Ann:=(.tl (.tl (.tl (.two (.tl (.two (.loop ⟨[(2,.sp bc 4098),(3,.sp bc 4099),(4,.sp bc 4100),(5,.sp bc 8197),(6,.dv (Ty.int .u64)),(9,.di)],[(4098,.keep bc 2),(4099,.keep bc 3),(4100,.keep bc 4),(8197,.one bc (.dv bc))],[]⟩ [(.exit 0,⟨[(4,.sp bc 4100),(5,.sp bc 8197)],[(4100,.keep bc 4),(8197,.one bc (.dv bc))],[]⟩)] (.tl (.tl (.two (.two (.tl (.two (.reg [] 11) .leaf)) .leaf) .leaf)))) .leaf)) .leaf))))
def HB(lp:Lp)(c:Ca)(a0:D)(a1:D):Option D:=
(qZ lp (λv1=>
 qC .lss (gx v1 1) (Jn 16) λb3=>
 if b3 then(qJ (gx v1 1) 16 a0 λx5=>
(D.conv .u64 x5).bind λx6=>
 qJ (gx v1 1) 16 a1 λx8=>
(D.conv .u64 x8).bind λx9=>
 qB .sub x6 x9 λx10=>
 qB .sub x10 (gx v1 0) λx11=>
(D.conv .u32 x11).bind λx12=>
(D.idx (gx v1 1) 16).bind λi13=>
(D.set (gx v1 2) [i13] x12).bind λx14=>
 qB .shr x11 (D.int .u64 63) λx15=>
 qB .add (gx v1 1) (Jn 1) λx16=>
 iL [x15,x16,x14]) else(iR (0,[(gx v1 2)]))) [(D.int .u64 0),(Jn 0),(aB bc)]).bind λr17=>
 some (gx r17.2 0)
def RS{lp}(hlp:ap lp):ai 122 (m2 (HB lp)):=aR 0 Tryz.f157 Qf hlp
def HC(lp:Lp)(c:Ca)(a0:D)(a1:D):Option D:=
 qG a0 [1] λx1=>
 qG a1 [2] λx2=>
 qB .mul x1 x2 λx3=>
 qG a0 [2] λx4=>
 qG a1 [1] λx5=>
 qB .mul x4 x5 λx6=>
 qB .sub x3 x6 λx7=>
 qG a0 [2] λx8=>
 qG a1 [0] λx9=>
 qB .mul x8 x9 λx10=>
 qG a0 [0] λx11=>
 qG a1 [2] λx12=>
 qB .mul x11 x12 λx13=>
 qB .sub x10 x13 λx14=>
 qG a0 [0] λx15=>
 qG a1 [1] λx16=>
 qB .mul x15 x16 λx17=>
 qG a0 [1] λx18=>
 qG a1 [0] λx19=>
 qB .mul x18 x19 λx20=>
 qB .sub x17 x20 λx21=>
 some (D.st [x7,x14,x21])
def RT{lp}(hlp:ap lp):ai 123 (m2 (HC lp)):=aR 0 Tryz.f186 .leaf hlp
def Qg:Ann:=(.tl (.tl (.tl (.two (.tl (.two (.loop ⟨[(1,.sp aJ 4097),(5,.di)],[(4097,.keep aJ 1)],[]⟩ [(.ret,⟨[(2,.di),(3,.dv Ty.bool)],[],[]⟩),(.exit 0,⟨[(1,.sp aJ 4097)],[(4097,.keep aJ 1)],[]⟩)] .leaf) .leaf)) .leaf))))
def EJ(lp:Lp)(c:Ca)(a0:D):Option D:=
(c 76 [a0]).bind λr1=>
 qN r1 λb3=>
(if b3 then(some true) else(qG a0 [2,1] λx4=>
 qB .geq x4 (D.int .u32 1073741824) λx5=>
 D.truth x5)).bind λb6=>
 qT (D.bool b6) λb7=>
 if b7 then(some (D.tup [(Jn 0),(D.bool false)])) else((qZ lp (λv8=>
 qC .lss (gx v8 0) (Jn 16) λb10=>
 if b10 then((D.idx (gx v8 0) 16).bind λi11=>
 qG a0 [2,i11] λx12=>
 qT (D.bool (!(D.beq x12 (D.int .u32 0)))) λb13=>
 if b13 then(iR (0,[(Jn 0),(D.bool false)])) else(qB .add (gx v8 0) (Jn 1) λx14=>
 iL [x14])) else(iR (1,[]))) [(Jn 2)]).bind λr15=>
 if r15.1=0 then(some (D.tup [(gx r15.2 0),(gx r15.2 1)])) else(qG a0 [2,1] λx16=>
(D.conv .i64 x16).bind λx17=>
 qB .mul x17 (Jn 4294967296) λx18=>
 qG a0 [2,0] λx19=>
(D.conv .i64 x19).bind λx20=>
 qB .add x18 x20 λx21=>
 qG a0 [1] λx22=>
 qT x22 λb23=>
 if b23 then((D.un .neg x21).bind λx24=>
 some (D.tup [x24,(D.bool true)])) else(some (D.tup [x21,(D.bool true)]))))
def RU{lp}(hlp:ap lp):ai 124 (m1 (EJ lp)):=aU 0 Tryz.f117 Qg hlp
def HD(lp:Lp)(c:Ca) :Option D:=
 some (D.st [(D.bool true),(D.bool false),(aB bc)])
def RW{lp}(hlp:ap lp):ai 125 (m0 (HD lp)):=zf 0 Tryz.f100 .leaf hlp
def Qh:Ann:=(.tl (.tl (.tl (.two (.tl (.two (.loop ⟨[(5,.ow Ti),(6,.di),(7,.di)],[],[0,1]⟩ [(.exit 0,⟨[(5,.ow Ti)],[],[]⟩)] (.tl (.two (.two (.two (.reg [] 10) (.tl (.cut [(.normal,⟨[(5,.ow Ti),(6,.di),(8,.di)],[],[0,1,7]⟩)] [0,1,7] [] .leaf .leaf))) .leaf) .leaf))) .leaf)) .leaf))))
def HE(lp:Lp)(c:Ca)(a0:D)(a1:D):Option D:=
(qZ lp (λv1=>
 qL a0 (gx v1 2) λb4=>
 if b4 then(qX a0 (gx v1 2) λx7=>
(c 141 [a1,(gx v1 2)]).bind λr8=>
 qB .sub x7 r8 λx9=>
 qB .sub x9 (gx v1 1) λx10=>
(qC .lss x10 (Jn 0) λb12=>
 if b12 then(qB .add x10 (Jn 65536) λx13=>
 some (0,[(qW v1 0),(Jn 1),x13])) else(some (0,[(qW v1 0),(Jn 0),x10]))).bind λ(r14:Nat×List D)=>
 if List.length (qV r14.2 0)+List.length [(gx r14.2 2)]<=1073741824 then(qB .add (gx v1 2) (Jn 1) λx15=>
 iL [(D.sl ((qV r14.2 0)++[(gx r14.2 2)])),(gx r14.2 1),x15]) else none) else(iR (0,[(qW v1 0)]))) [(D.sl []),(Jn 0),(Jn 0)]).bind λr16=>
(c 140 [(qW r16.2 0)]).bind λr17=>
 some r17
def RY{lp}(hlp:ap lp):ai 126 (m2 (HE lp)):=aR 0 Tryz.f125 Qh hlp
def Qi:Ann:=(.tl (.tl (.two (.two (.loop ⟨[(1,.sp bc 4097),(3,.di)],[(4097,.keep bc 1)],[]⟩ [(.exit 0,⟨[(3,.di)],[],[]⟩)] .leaf) .leaf) .leaf)))
def HF(lp:Lp)(c:Ca)(a0:D):Option D:=
(qZ lp (λv1=>
 qC .gtr (gx v1 0) (Jn 0) λb3=>
(if b3 then(qB .sub (gx v1 0) (Jn 1) λx4=>
 qJ x4 16 a0 λx6=>
 D.truth (D.bool (D.beq x6 (D.int .u32 0)))) else(some false)).bind λb7=>
 qT (D.bool b7) λb8=>
 if b8 then(qB .sub (gx v1 0) (Jn 1) λx9=>
 iL [x9]) else(iR (0,[(gx v1 0)]))) [(Jn 16)]).bind λr10=>
 some (gx r10.2 0)
def RZ{lp}(hlp:ap lp):ai 127 (m1 (HF lp)):=aU 0 Tryz.f145 Qi hlp
def EK(lp:Lp)(c:Ca)(a0:D):Option D:=
 qG a0 [0] λx1=>
 qN x1 λb3=>
(if b3 then((c 167 [a0]).bind λr4=>
 D.truth r4) else(some false)).bind λb5=>
 some (D.bool b5)
def R0{lp}(hlp:ap lp):ai 128 (m1 (EK lp)):=aU 0 Tryz.f143 .leaf hlp
def HG(lp:Lp)(c:Ca)(a0:D):Option D:=
(c 118 [(D.sl [a0])]).bind λr1=>
 qN r1 λb3=>
(if b3 then(some true) else(qG a0 [2] λx4=>
 D.truth (D.bool (D.beq x4 (D.st (D.putParts (List.replicate 16 (D.int .u32 0)) [])))))).bind λb5=>
 qT (D.bool b5) λb6=>
 if b6 then(some (Jn 0)) else(qG a0 [1] λx7=>
 qT x7 λb8=>
 if b8 then(some (Jn (-1))) else(some (Jn 1)))
def R5{lp}(hlp:ap lp):ai 129 (m1 (HG lp)):=aU 0 Tryz.f113 .leaf hlp
def HH(lp:Lp)(c:Ca) :Option D:=
(c 119 []).bind λr1=>
(c 169 []).bind λr2=>
 some (D.st [r1,r2])
def R7{lp}(hlp:ap lp):ai 130 (m0 (HH lp)):=zf 0 Tryz.f43 .leaf hlp
def Qj:Ann:=(.tl (.tl (.two (.tl (.two (.two (.reg [] 21) (.two (.two (.loop ⟨[(4,.sp aJ 4100),(5,.dv (Ty.int .u64)),(6,.dv (Ty.int .u64))],[(4100,.keep aJ 4)],[]⟩ [(.exit 0,⟨[(4,.sp aJ 4100),(5,.dv (Ty.int .u64))],[(4100,.keep aJ 4)],[]⟩)] (.tl (.two (.reg [] 5) .leaf))) .leaf) .leaf)) .leaf)) (.two (.two (.reg [] 6) (.tl (.two (.tl (.two (.reg [] 5) .leaf)) .leaf))) .leaf))))
def HI(lp:Lp)(c:Ca)(a0:D)(a1:D):Option D:=
(c 118 [(D.sl [a0,a1])]).bind λr1=>
 qN r1 λb3=>
 if b3 then((c 119 []).bind λr4=>
 some r4) else(qG a0 [2] λx5=>
(c 127 [x5]).bind λr6=>
 qC .leq r6 (Jn 2) λb8=>
(if b8 then(qG a1 [2] λx9=>
(c 127 [x9]).bind λr10=>
 qB .leq r10 (Jn 2) λx11=>
 D.truth x11) else(some false)).bind λb12=>
 qT (D.bool b12) λb13=>
 if b13 then(qG a0 [2,1] λx14=>
(D.conv .u64 x14).bind λx15=>
 qB .shl x15 (D.int .u64 32) λx16=>
 qG a0 [2,0] λx17=>
(D.conv .u64 x17).bind λx18=>
 qB .or x16 x18 λx19=>
 qG a1 [2,1] λx20=>
(D.conv .u64 x20).bind λx21=>
 qB .shl x21 (D.int .u64 32) λx22=>
 qG a1 [2,0] λx23=>
(D.conv .u64 x23).bind λx24=>
 qB .or x22 x24 λx25=>
(qZ lp (λv26=>
 qT (D.bool (!(D.beq (gx v26 1) (D.int .u64 0)))) λb27=>
 if b27 then(qB .rem (gx v26 0) (gx v26 1) λx28=>
 iL [(gx v26 1),x28]) else(iR (0,[(gx v26 0)]))) [x19,x25]).bind λr29=>
(D.conv .u32 (gx r29.2 0)).bind λx30=>
 qB .shr (gx r29.2 0) (D.int .u64 32) λx31=>
(D.conv .u32 x31).bind λx32=>
(c 116 [(D.bool false),(D.st (D.putParts (List.replicate 16 (D.int .u32 0)) [(0,x30),(1,x32)]))]).bind λr33=>
 some r33) else(qG a0 [2] λx34=>
 qG a1 [2] λx35=>
 qT (D.bool (!(D.beq x35 (D.st (D.putParts (List.replicate 16 (D.int .u32 0)) []))))) λb36=>
 if b36 then((c 170 [x34,x35]).bind λr37=>
(D.tupAt r37 0).bind λx38=>
(D.tupAt r37 1).bind λx39=>
(c 116 [(D.bool false),x35]).bind λr40=>
(c 116 [(D.bool false),x39]).bind λr41=>
(c 131 [r40,r41]).bind λr42=>
 some r42) else((c 171 [a0]).bind λr43=>
 some r43)))
def R8{lp}(hlp:ap lp):ai 131 (m2 (HI lp)):=aR 0 Tryz.f102 Qj hlp
def HJ(lp:Lp)(c:Ca)(a0:D)(a1:D):Option D:=
(c 172 [a0,a1]).bind λr1=>
(D.tupAt r1 0).bind λx2=>
(D.tupAt r1 1).bind λx3=>
 some x2
def R9{lp}(hlp:ap lp):ai 132 (m2 (HJ lp)):=aR 0 Tryz.f103 .leaf hlp
def HK(lp:Lp)(c:Ca) :Option D:=
(c 34 [(Jn 1)]).bind λr1=>
 some r1
def Sa{lp}(hlp:ap lp):ai 133 (m0 (HK lp)):=zf 0 Tryz.f70 .leaf hlp
def Qk:Ann:=(.tl (.tl (.two (.tl (.two (.loop ⟨[(2,.sp gG 4098),(3,.sp gG 4099),(4,.sp aY 4100),(5,.sp aY 8197),(8,.di)],[(4098,.keep gG 2),(4099,.keep gG 3),(4100,.keep aY 4),(8197,.one aY (.dv aY))],[]⟩ [(.exit 0,⟨[(4,.sp aY 4100),(5,.sp aY 8197)],[(4100,.keep aY 4),(8197,.one aY (.dv aY))],[]⟩)] (.tl (.tl (.two (.two (.tl (.reg [] 9)) .leaf) .leaf)))) .leaf)) .leaf)))
def HL(lp:Lp)(c:Ca)(a0:D)(a1:D):Option D:=
(c 74 [(Jn 0)]).bind λr1=>
(qZ lp (λv2=>
 qC .lss (gx v2 0) (Jn 3) λb4=>
 if b4 then(qJ (gx v2 0) 3 a0 λx6=>
 qJ (gx v2 0) 3 a1 λx8=>
(c 174 [x6,x8]).bind λr9=>
(c 173 [(gx v2 1),r9]).bind λr10=>
 qB .add (gx v2 0) (Jn 1) λx11=>
 iL [x11,r10]) else(iR (0,[(gx v2 1)]))) [(Jn 0),r1]).bind λr12=>
 some (gx r12.2 0)
def Sc{lp}(hlp:ap lp):ai 134 (m2 (HL lp)):=aR 0 Tryz.f45 Qk hlp
def Ql:Ann:=(.tl (.two (.reg [] 10) .leaf))
def HM(lp:Lp)(c:Ca)(a0:D):Option D:=
 qG a0 [0] λx1=>
(c 74 [x1]).bind λr2=>
 qG a0 [1] λx3=>
(c 74 [x3]).bind λr4=>
 qG a0 [2] λx5=>
(c 74 [x5]).bind λr6=>
 some (D.st [r2,r4,r6])
def Sd{lp}(hlp:ap lp):ai 135 (m1 (HM lp)):=aU 0 Tryz.f44 Ql hlp
def EL(lp:Lp)(c:Ca)(a0:D):Option D:=
 qG a0 [0] λx1=>
(c 128 [x1]).bind λr2=>
 qT r2 λb3=>
(if b3 then(qG a0 [1] λx4=>
(c 128 [x4]).bind λr5=>
 D.truth r5) else(some false)).bind λb6=>
 qT (D.bool b6) λb7=>
(if b7 then(qG a0 [1] λx8=>
(c 129 [x8]).bind λr9=>
 qB .gtr r9 (Jn 0) λx10=>
 D.truth x10) else(some false)).bind λb11=>
 qT (D.bool b11) λb12=>
(if b12 then(qG a0 [0] λx13=>
 qG a0 [1] λx14=>
(c 131 [x13,x14]).bind λr15=>
(c 169 []).bind λr16=>
 D.truth (D.bool (D.beq r15 r16))) else(some false)).bind λb17=>
 some (D.bool b17)
def Se{lp}(hlp:ap lp):ai 136 (m1 (EL lp)):=aU 0 Tryz.f91 .leaf hlp
def Sf{lp}(hlp:ap lp):ai 137 (mX 0 lp 137 Tryz.f159 .leaf):=gb hlp (by kernel_rfl) (by kernel_rfl)
def Qm:Ann:=(.tl (.two (.reg [] 3) .leaf))
def HN(lp:Lp)(c:Ca)(a0:D):Option D:=
(c 169 []).bind λr1=>
(c 62 [a0,r1]).bind λr2=>
 some r2
def Sg{lp}(hlp:ap lp):ai 138 (m1 (HN lp)):=aU 0 Tryz.f82 Qm hlp
def Qn:Ann:=(.tl (.tl (.two (.tl (.two (.loop ⟨[(1,.sp aJ 4097),(3,.dv Ty.bool),(4,.di)],[(4097,.keep aJ 1)],[]⟩ [(.exit 0,⟨[(1,.sp aJ 4097),(3,.dv Ty.bool)],[(4097,.keep aJ 1)],[]⟩)] .leaf) .leaf)) .leaf)))
def HO(lp:Lp)(c:Ca)(a0:D):Option D:=
(qZ lp (λv1=>
 qC .lss (gx v1 1) (Jn 16) λb3=>
 if b3 then(qT (gx v1 0) λb4=>
(if b4 then((D.idx (gx v1 1) 16).bind λi5=>
 qG a0 [2,i5] λx6=>
 D.truth (D.bool (D.beq x6 (D.int .u32 0)))) else(some false)).bind λb7=>
 qB .add (gx v1 1) (Jn 1) λx8=>
 iL [(D.bool b7),x8]) else(iR (0,[(gx v1 0)]))) [(D.bool true),(Jn 0)]).bind λr9=>
 qG a0 [0] λx10=>
 qT x10 λb11=>
 if b11 then(qT (gx r9.2 0) λb12=>
(if b12 then(qG a0 [1] λx13=>
(D.un .not x13).bind λx14=>
 D.truth x14) else(some false)).bind λb15=>
 some (D.bool b15)) else(qN (gx r9.2 0) λb17=>
(if b17 then(some true) else(qG a0 [1] λx18=>
(D.un .not x18).bind λx19=>
 D.truth x19)).bind λb20=>
 some (D.bool b20))
def Si{lp}(hlp:ap lp):ai 139 (m1 (HO lp)):=aU 0 Tryz.f164 Qn hlp
def Qo:Ann:=(.tl (.tl (.two (.two (.loop ⟨[(3,.di)],[],[0]⟩ [(.exit 0,⟨[(3,.di)],[],[0]⟩)] .leaf) .leaf) .leaf)))
def HP(lp:Lp)(c:Ca)(a0:D):Option D:=
 qS a0 λl1=>
(qZ lp (λv2=>
 qC .gtr (gx v2 0) (Jn 0) λb4=>
(if b4 then(qB .sub (gx v2 0) (Jn 1) λx5=>
 qX a0 x5 λx8=>
 D.truth (D.bool (D.beq x8 (Jn 0)))) else(some false)).bind λb9=>
 qT (D.bool b9) λb10=>
 if b10 then(qB .sub (gx v2 0) (Jn 1) λx11=>
 iL [x11]) else(iR (0,[(gx v2 0)]))) [(Jn (l1.length))]).bind λr12=>
 qS a0 λl13=>
(D.natOf (gx r12.2 0)).bind λi14=>
(D.cut l13 0 i14).bind λl15=>
 some (D.sl l15)
def Sj{lp}(hlp:ap lp):ai 140 (m1 (HP lp)):=aU 0 Tryz.f165 Qo hlp
def HR(lp:Lp)(c:Ca)(a0:D)(a1:D):Option D:=
 qL a0 a1 λb3=>
 if b3 then(qX a0 a1 λx6=>
 some x6) else(some (Jn 0))
def Sl{lp}(hlp:ap lp):ai 141 (m2 (HR lp)):=aR 0 Tryz.f166 .leaf hlp
def HS(lp:Lp)(c:Ca)(a0:D):Option D:=
(c 76 [a0]).bind λr1=>
 qN r1 λb3=>
 if b3 then((c 125 []).bind λr4=>
 some r4) else((c 77 [a0]).bind λr5=>
(c 81 [(D.bool false),r5]).bind λr6=>
 some r6)
def Sn{lp}(hlp:ap lp):ai 142 (m1 (HS lp)):=aU 0 Tryz.f126 .leaf hlp
def Qq:Ann:=let o0:LS:=[(6,.same (.mem Ti 8207)),(11,.di),(12,.dv K5)]
 (.tl (.tl (.tl (.two (.reg [] 11) (.tl (.two (.tl (.two (.loop ⟨[(6,.same (.mem Ti 8207)),(9,.dv K5),(10,.di)],[(8207,.many Ti)],[0,1,7,8]⟩ [(.exit 0,⟨[(6,.same (.mem Ti 8207)),(9,.dv K5)],[(8207,.many Ti)],[]⟩)] (.tl (.two (.two (.tl (.tl (.tl (.two (.two (.loop ⟨o0,[(8207,.many Ti)],[0,1,7,8,9,10]⟩ [(.exit 2,⟨o0,[(8207,.many Ti)],[0,1,7,8,9,10]⟩)] .leaf) .leaf) .leaf)))) .leaf) .leaf))) .leaf)) (.two (.reg [6] 5) .leaf)))))))
def HT(lp:Lp)(c:Ca)(a0:D)(a1:D):Option D:=
 qS a0 λl1=>
(D.natOf (Jn (l1.length))).bind λi2=>
 if i2<=1073741824 then(qS a1 λl3=>
 qB .sub (Jn (l3.length)) (Jn 1) λx4=>
 qX a1 x4 λx7=>
 qB .mul x7 (Jn 65536) λx8=>
 qB .sub (Jn (l3.length)) (Jn 2) λx9=>
(c 175 [a1,x9]).bind λr10=>
 qB .add x8 r10 λx11=>
 qS a0 λl12=>
 qB .sub (Jn (l12.length)) (Jn 1) λx13=>
(qZ lp (λv14=>
 qC .geq (gx v14 1) (Jn 0) λb16=>
 if b16 then(qX a0 (gx v14 1) λx19=>
 qS (gx v14 0) λl20=>
 if List.length [x19]+l20.length<=1073741824 then((c 140 [(D.sl ([x19]++l20))]).bind λr21=>
(c 175 [r21,(Jn (l3.length))]).bind λr22=>
 qB .mul r22 (Jn 4294967296) λx23=>
 qB .sub (Jn (l3.length)) (Jn 1) λx24=>
(c 175 [r21,x24]).bind λr25=>
 qB .mul r25 (Jn 65536) λx26=>
 qB .add x23 x26 λx27=>
 qB .sub (Jn (l3.length)) (Jn 2) λx28=>
(c 175 [r21,x28]).bind λr29=>
 qB .add x27 r29 λx30=>
 qB .quo x30 x11 λx31=>
(D.min2 (Jn 65535) x31).bind λx32=>
(c 146 [a1,(D.sl [x32])]).bind λr33=>
(qZ lp (λv34=>
(c 78 [r21,(gx v34 1)]).bind λr35=>
 qT r35 λb36=>
 if b36 then(qB .sub (gx v34 0) (Jn 1) λx37=>
(c 126 [(gx v34 1),a1]).bind λr38=>
 iL [x37,r38,(qW v34 2)]) else(iR (0,[(gx v34 0),(gx v34 1),(qW v34 2)]))) [x32,r33,(qW v14 2)]).bind λr39=>
(D.idx (gx v14 1) (List.length (qV r39.2 2))).bind λi40=>
((qV r39.2 2)[i40]?).bind λx41=>
(c 126 [r21,(gx r39.2 1)]).bind λr42=>
 qB .sub (gx v14 1) (Jn 1) λx43=>
 iL [r42,x43,(D.sl (List.set (qV r39.2 2) i40 (gx r39.2 0)))]) else none) else(iR (0,[(gx v14 0),(qW v14 2)]))) [(D.sl []),x13,(D.sl (List.replicate i2 (Jn 0)))]).bind λr44=>
(c 140 [(qW r44.2 1)]).bind λr45=>
 some (D.tup [r45,(gx r44.2 0)])) else none
def Sp{lp}(hlp:ap lp):ai 143 (m2 (HT lp)):=aR 0 Tryz.f124 Qq hlp
def Qr:Ann:=(.tl (.tl (.cut [(.normal,⟨[(5,.di)],[],[]⟩)] [] [] .leaf .leaf)))
def HU(lp:Lp)(c:Ca)(a0:D)(a1:D):Option D:=
 qB .quo a0 a1 λx1=>
(qB .rem a0 a1 λx2=>
 qT (D.bool (!(D.beq x2 (Jn 0)))) λb3=>
(if b3 then(qB .lss a0 (Jn 0) λx4=>
 qB .lss a1 (Jn 0) λx5=>
 D.truth (D.bool (!(D.beq x4 x5)))) else(some false)).bind λb6=>
 qT (D.bool b6) λb7=>
 if b7 then(qB .sub x1 (Jn 1) λx8=>
 some (0,[x8])) else(some (0,[x1]))).bind λ(r9:Nat×List D)=>
 some (gx r9.2 0)
def Sq{lp}(hlp:ap lp):ai 144 (m2 (HU lp)):=aR 0 Tryz.f123 Qr hlp
def HV(lp:Lp)(c:Ca)(a0:D):Option D:=
 qC .lss a0 (Jn 2147483648) λb2=>
(if b2 then(qB .gtr a0 (Jn (-2147483648)) λx3=>
 D.truth x3) else(some false)).bind λb4=>
 some (D.bool b4)
def Sr{lp}(hlp:ap lp):ai 145 (m1 (HV lp)):=aU 0 Tryz.f118 .leaf hlp
def Qs:Ann:=let o0:LS:=[(5,.same (.mem Ti 8209))]
 (.tl (.tl (.two (.tl (.two (.loop ⟨[(5,.same (.mem Ti 8209)),(6,.di)],[(8209,.many Ti)],[0,1]⟩ [(.exit 0,⟨o0,[(8209,.many Ti)],[]⟩)] (.tl (.two (.two (.two (.tl (.two (.loop ⟨[(5,.same (.mem Ti 8209)),(7,.di)],[(8209,.many Ti)],[0,1,6]⟩ [(.exit 2,⟨o0,[(8209,.many Ti)],[0,1,6]⟩)] (.tl (.two (.two (.reg [] 21) .leaf) .leaf))) .leaf)) (.tl (.tl (.two (.loop ⟨[(5,.same (.mem Ti 8209)),(8,.di),(9,.di)],[(8209,.many Ti)],[0,1,6]⟩ [(.exit 4,⟨o0,[(8209,.many Ti)],[0,1,6]⟩)] .leaf) .leaf)))) .leaf) .leaf))) .leaf)) (.two (.reg [5] 3) .leaf))))
def HW(lp:Lp)(c:Ca)(a0:D)(a1:D):Option D:=
 qS a0 λl1=>
 qS a1 λl2=>
 qB .add (Jn (l1.length)) (Jn (l2.length)) λx3=>
 qB .add x3 (Jn 1) λx4=>
(D.natOf x4).bind λi5=>
 if i5<=1073741824 then((qZ lp (λv6=>
 qL a0 (gx v6 0) λb9=>
 if b9 then((qZ lp (λv10=>
 qL a1 (gx v10 0) λb13=>
 if b13 then(qB .add (gx v6 0) (gx v10 0) λx14=>
 qB .add (gx v6 0) (gx v10 0) λx15=>
(D.idx x15 (List.length (qV v10 1))).bind λi16=>
((qV v10 1)[i16]?).bind λx17=>
 qX a0 (gx v6 0) λx20=>
 qX a1 (gx v10 0) λx23=>
 qB .mul x20 x23 λx24=>
 qB .add x17 x24 λx25=>
(D.idx x14 (List.length (qV v10 1))).bind λi26=>
((qV v10 1)[i26]?).bind λx27=>
 qB .add (gx v10 0) (Jn 1) λx28=>
 iL [x28,(D.sl (List.set (qV v10 1) i26 x25))]) else(iR (0,[(qW v10 1)]))) [(Jn 0),(qW v6 1)]).bind λr29=>
(qZ lp (λv30=>
 qC .lss (gx v30 1) (Jn (List.length (qV v30 2))) λb32=>
 if b32 then((D.idx (gx v30 1) (List.length (qV v30 2))).bind λi33=>
((qV v30 2)[i33]?).bind λx34=>
 qB .add x34 (gx v30 0) λx35=>
 qB .rem x35 (Jn 65536) λx36=>
(D.idx (gx v30 1) (List.length (qV v30 2))).bind λi37=>
((qV v30 2)[i37]?).bind λx38=>
 qB .quo x35 (Jn 65536) λx39=>
 qB .add (gx v30 1) (Jn 1) λx40=>
 iL [x39,x40,(D.sl (List.set (qV v30 2) i37 x36))]) else(iR (0,[(qW v30 2)]))) [(Jn 0),(Jn 0),(qW r29.2 0)]).bind λr41=>
 qB .add (gx v6 0) (Jn 1) λx42=>
 iL [x42,(qW r41.2 0)]) else(iR (0,[(qW v6 1)]))) [(Jn 0),(D.sl (List.replicate i5 (Jn 0)))]).bind λr43=>
(c 140 [(qW r43.2 0)]).bind λr44=>
 some r44) else none
def Ss{lp}(hlp:ap lp):ai 146 (m2 (HW lp)):=aR 0 Tryz.f120 Qs hlp
end Sy
end
end
noncomputable section
set_option maxHeartbeats 0
noncomputable section
namespace Sy
open Go Go.Proofs
def Qt:Ann:=(.tl (.tl (.two (.tl (.two (.loop ⟨[(2,.sp nQ 4098),(3,.sp nQ 4099),(4,.sp aJ 4100),(5,.sp aJ 8197),(8,.di)],[(4098,.keep nQ 2),(4099,.keep nQ 3),(4100,.keep aJ 4),(8197,.one aJ (.dv aJ))],[]⟩ [(.exit 0,⟨[(4,.sp aJ 4100),(5,.sp aJ 8197)],[(4100,.keep aJ 4),(8197,.one aJ (.dv aJ))],[]⟩)] (.tl (.tl (.two (.two (.tl (.reg [] 9)) .leaf) .leaf)))) .leaf)) .leaf)))
def HX(lp:Lp)(c:Ca)(a0:D)(a1:D):Option D:=
(c 54 [(Jn 0)]).bind λr1=>
(qZ lp (λv2=>
 qC .lss (gx v2 0) (Jn 3) λb4=>
 if b4 then(qJ (gx v2 0) 3 a0 λx6=>
 qJ (gx v2 0) 3 a1 λx8=>
(c 61 [x6,x8]).bind λr9=>
(c 57 [(gx v2 1),r9]).bind λr10=>
 qB .add (gx v2 0) (Jn 1) λx11=>
 iL [x11,r10]) else(iR (0,[(gx v2 1)]))) [(Jn 0),r1]).bind λr12=>
 some (gx r12.2 0)
def Su{lp}(hlp:ap lp):ai 147 (m2 (HX lp)):=aR 0 Tryz.f212 Qt hlp
def Qu:Ann:=(.tl (.two (.tl (.two (.loop ⟨[(2,.sp nQ 4098),(6,.di)],[(4098,.one nQ (.dv nQ))],[5]⟩ [(.exit 0,⟨[(2,.sp nQ 4098)],[(4098,.one nQ (.dv nQ))],[]⟩)] .leaf) .leaf)) .leaf))
def HY(lp:Lp)(c:Ca)(a0:D):Option D:=
(qZ lp (λv1=>
 qC .lss (gx v1 0) (Jn 3) λb3=>
 if b3 then((D.idx (gx v1 0) 3).bind λi4=>
(D.fld a0 i4).bind λx5=>
(c 54 [x5]).bind λr6=>
(D.idx (gx v1 0) 3).bind λi7=>
(D.set (gx v1 1) [i7] r6).bind λx8=>
 qB .add (gx v1 0) (Jn 1) λx9=>
 iL [x9,x8]) else(iR (0,[(gx v1 1)]))) [(Jn 0),(D.st [(D.st [(D.bool false),(D.bool false),(aB bc)]),(D.st [(D.bool false),(D.bool false),(aB bc)]),(D.st [(D.bool false),(D.bool false),(aB bc)])])]).bind λr10=>
 some (gx r10.2 0)
def Sv{lp}(hlp:ap lp):ai 148 (m1 (HY lp)):=aU 0 Tryz.f213 Qu hlp
def Qv:Ann:=(.tl (.two (.two (.loop ⟨[(0,.di),(1,.di)],[],[]⟩ [(.exit 0,⟨[(0,.di)],[],[]⟩)] (.tl (.two (.reg [] 5) .leaf))) .leaf) .leaf))
def EM(lp:Lp)(c:Ca)(a0:D)(a1:D):Option D:=
(qZ lp (λv1=>
 qT (D.bool (!(D.beq (gx v1 1) (Jn 0)))) λb2=>
 if b2 then(qB .rem (gx v1 0) (gx v1 1) λx3=>
 iL [(gx v1 1),x3]) else(iR (0,[(gx v1 0)]))) [a0,a1]).bind λr4=>
(D.un .neg (gx r4.2 0)).bind λx5=>
(D.max2 (gx r4.2 0) x5).bind λx6=>
 some x6
def Sw{lp}(hlp:ap lp):ai 152 (m2 (EM lp)):=aR 0 Tryz.f247 Qv hlp
def Qw:Ann:=(.tl (.two (.tl (.two (.loop ⟨[(2,.sp K1 4098),(3,.sp K1 4099),(4,.sp K1 4100),(6,.di)],[(4098,.one K1 (.dv K1)),(4099,.keep K1 3),(4100,.keep K1 4)],[]⟩ [(.exit 0,⟨[(2,.sp K1 4098),(4,.sp K1 4100)],[(4098,.one K1 (.dv K1)),(4100,.keep K1 4)],[]⟩)] (.tl (.tl (.two (.two (.tl (.reg [] 8)) .leaf) .leaf)))) .leaf)) .leaf))
def HZ(lp:Lp)(c:Ca)(a0:D)(a1:D):Option D:=
(qZ lp (λv1=>
 qC .lss (gx v1 0) (Jn 3) λb3=>
 if b3 then(qJ (gx v1 0) 3 (gx v1 1) λx5=>
 qJ (gx v1 0) 3 a1 λx7=>
 qB .add x5 x7 λx8=>
(D.idx (gx v1 0) 3).bind λi9=>
(D.set (gx v1 1) [i9] x8).bind λx10=>
 qB .add (gx v1 0) (Jn 1) λx11=>
 iL [x11,x10]) else(iR (0,[(gx v1 1)]))) [(Jn 0),a0]).bind λr12=>
 some (gx r12.2 0)
def Sx{lp}(hlp:ap lp):ai 154 (m2 (HZ lp)):=aR 0 Tryz.f251 Qw hlp
def Qx:Ann:=let o0:LO:=[(4097,.keep nQ 1),(4098,.keep dF 2),(8195,.one aJ (.dv aJ))]
 (.tl (.tl (.two (.tl (.two (.loop ⟨[(1,.sp nQ 4097),(2,.sp dF 4098),(3,.sp aJ 8195),(4,.di)],o0,[]⟩ [(.exit 0,⟨[(1,.sp nQ 4097),(2,.sp dF 4098),(3,.sp aJ 8195)],o0,[]⟩)] (.tl (.two (.two (.reg [] 5) .leaf) .leaf))) .leaf)) (.tl (.tl (.tl (.two (.tl (.two (.loop ⟨[(1,.sp nQ 4097),(2,.sp dF 4098),(3,.sp aJ 8195),(5,.sp dF 28677),(6,.di)],[(4097,.keep nQ 1),(4098,.one dF (.dv dF)),(8195,.keep aJ 3),(28677,.one dF (.dv dF))],[]⟩ [(.ret,⟨[(2,.sp dF 4098)],[(4098,.one dF (.dv dF))],[]⟩),(.exit 2,⟨[(2,.sp dF 4098),(5,.sp dF 28677)],[(4098,.one dF (.dv dF)),(28677,.one dF (.dv dF))],[]⟩)] (.tl (.two (.two (.two (.reg [] 10) .leaf) .leaf) .leaf))) .leaf)) .leaf)))))))
def H0(lp:Lp)(c:Ca)(a0:D):Option D:=
(c 34 [(Jn 0)]).bind λr1=>
(qZ lp (λv2=>
 qC .lss (gx v2 0) (Jn 3) λb4=>
 if b4 then(qJ (gx v2 0) 3 a0 λx6=>
(c 85 [(gx v2 1),x6]).bind λr7=>
 qB .add (gx v2 0) (Jn 1) λx8=>
 iL [x8,r7]) else(iR (0,[(gx v2 1)]))) [(Jn 0),r1]).bind λr9=>
 qG (gx r9.2 0) [0] λx10=>
 qT x10 λb11=>
 if b11 then(some (D.st [(D.st [(Jn 0),(Jn 0),(Jn 0)]),(Jn 30)])) else((c 83 [(gx r9.2 0)]).bind λr12=>
 qT (D.bool (D.beq r12 (Jn 0))) λb13=>
 if b13 then(some (D.st [(D.st [(Jn 0),(Jn 0),(Jn 0)]),(Jn 31)])) else((qZ lp (λv14=>
 qC .lss (gx v14 0) (Jn 3) λb16=>
 if b16 then(qJ (gx v14 0) 3 a0 λx18=>
(c 87 [x18,(gx r9.2 0)]).bind λr19=>
(c 186 [r19]).bind λr20=>
(D.tupAt r20 0).bind λx21=>
(D.tupAt r20 1).bind λx22=>
 qN x22 λb24=>
 if b24 then(iR (0,[(D.st [(D.st [(Jn 0),(Jn 0),(Jn 0)]),(Jn 30)])])) else((D.idx (gx v14 0) 3).bind λi25=>
(D.set (gx v14 2) [0,i25] x21).bind λx26=>
 qB .add (gx v14 0) (Jn 1) λx27=>
 iL [x27,(gx v14 1),x26])) else(iR (1,[(gx v14 1),(gx v14 2)]))) [(Jn 0),(D.st [(D.st [(Jn 0),(Jn 0),(Jn 0)]),(Jn 0)]),(D.st [(D.st [(Jn 0),(Jn 0),(Jn 0)]),(Jn 0)])]).bind λr28=>
 if r28.1=0 then(some (gx r28.2 0)) else(qG (gx r28.2 1) [0] λx29=>
(c 187 [x29]).bind λr30=>
 qN r30 λb32=>
 if b32 then(some (D.st [(D.st [(Jn 0),(Jn 0),(Jn 0)]),(Jn 30)])) else(some (gx r28.2 1)))))
def Sz{lp}(hlp:ap lp):ai 155 (m1 (H0 lp)):=aU 0 Tryz.f244 Qx hlp
def Qy:Ann:=let o0:LO:=[(4102,.keep K1 6),(4104,.keep K1 8),(8203,.keep K1 11)]
 (.tl (.tl (.two (.tl (.two (.loop ⟨[(6,.sp K1 4102),(8,.sp K1 4104),(11,.sp K1 8203),(12,.di)],o0,[0,2]⟩ [(.ret,⟨[(10,.dv Ty.bool)],[],[]⟩),(.exit 0,⟨[],[],[]⟩)] (.tl (.cut [(.normal,⟨[(6,.sp K1 4102),(8,.sp K1 4104),(11,.sp K1 8203)],o0,[0,2,12]⟩),(.ret,⟨[(10,.dv Ty.bool)],[],[]⟩)] [0,2,12] [4102,4104,8203] (.two (.two (.two (.reg [] 7) .leaf) (.two (.reg [] 7) (.two (.reg [] 5) .leaf))) .leaf) .leaf))) .leaf)) .leaf)))
def H1(lp:Lp)(c:Ca)(a0:D)(a1:D)(a2:D)(a3:D)(a4:D):Option D:=
(c 112 [a4,a3]).bind λr1=>
(qZ lp (λv2=>
 qL a0 (gx v2 0) λb5=>
 if b5 then((qX a0 (gx v2 0) λx8=>
(c 107 [a1,x8]).bind λr9=>
 qT (D.bool (!(D.beq r9 a2))) λb10=>
 if b10 then(some (0,[])) else(qX a0 (gx v2 0) λx13=>
(c 112 [x13,a3]).bind λr14=>
(c 123 [r1,r14]).bind λr15=>
(c 188 [a1,r15]).bind λr16=>
 qC .lss r16 (Jn 0) λb18=>
(if b18 then(some true) else(qT (D.bool (D.beq r16 (Jn 0))) λb19=>
 if b19 then((c 107 [r14,r1]).bind λr20=>
 qC .lss r20 (Jn 0) λb22=>
 if b22 then(some true) else((c 107 [r14,r1]).bind λr23=>
(c 107 [r1,r1]).bind λr24=>
 qB .gtr r23 r24 λx25=>
 D.truth x25)) else(some false))).bind λb26=>
 qT (D.bool b26) λb27=>
 if b27 then(some (1,[(D.bool false)])) else(some (0,[])))).bind λ(r28:Nat×List D)=>
 if r28.1=0 then(qB .add (gx v2 0) (Jn 1) λx29=>
 iL [x29]) else(iR (0,[(gx r28.2 0)]))) else(iR (1,[]))) [(Jn 0)]).bind λr30=>
 if r30.1=0 then(some (gx r30.2 0)) else(some (D.bool true))
def SA{lp}(hlp:ap lp):ai 156 (m5 (H1 lp)):=Ox 0 Tryz.f245 Qy hlp
def Qz:Ann:=let o0:LS:=[(0,.dv (Ty.int .u32)),(2,.di)]
 (.tl (.cut [(.normal,⟨o0,[],[]⟩)] [] [] .leaf (.cut [(.normal,⟨o0,[],[]⟩)] [] [] .leaf .leaf)))
def H2(lp:Lp)(c:Ca)(a0:D):Option D:=
(qC .geq a0 (D.int .u32 65536) λb2=>
 if b2 then(qB .shr a0 (D.int .u64 16) λx3=>
 some (0,[x3,(Jn 16)])) else(some (0,[a0,(Jn 0)]))).bind λ(r4:Nat×List D)=>
(qC .geq (gx r4.2 0) (D.int .u32 256) λb6=>
 if b6 then(qB .shr (gx r4.2 0) (D.int .u64 8) λx7=>
 qB .add (gx r4.2 1) (Jn 8) λx8=>
 some (0,[x7,x8])) else(some (0,[(gx r4.2 0),(gx r4.2 1)]))).bind λ(r9:Nat×List D)=>
(D.conv .u8 (gx r9.2 0)).bind λx10=>
(D.strAt (D.str ((oW (Fi Tryz.f218)).getD ByteArray.empty)) x10).bind λx11=>
(D.conv .i64 x11).bind λx12=>
 qB .add (gx r9.2 1) x12 λx13=>
 some x13
def SB{lp}(hlp:ap lp):ai 165 (m1 (H2 lp)):=aU 0 Tryz.f218 Qz hlp
def H3(lp:Lp)(c:Ca)(a0:D):Option D:=
 qG a0 [2] λx1=>
 qG a0 [0] λx2=>
 qT x2 λb3=>
 if b3 then(qT (D.bool (D.beq x1 (D.st (D.putParts (List.replicate 16 (D.int .u32 0)) [])))) λb4=>
(if b4 then(qG a0 [1] λx5=>
(D.un .not x5).bind λx6=>
 D.truth x6) else(some false)).bind λb7=>
 some (D.bool b7)) else(qN (D.bool (D.beq x1 (D.st (D.putParts (List.replicate 16 (D.int .u32 0)) [])))) λb9=>
(if b9 then(some true) else(qG a0 [1] λx10=>
(D.un .not x10).bind λx11=>
 D.truth x11)).bind λb12=>
 some (D.bool b12))
def SC{lp}(hlp:ap lp):ai 167 (m1 (H3 lp)):=aU 0 Tryz.f184 .leaf hlp
def H4(lp:Lp)(c:Ca)(a0:D)(a1:D):Option D:=
(c 194 [a0]).bind λr1=>
(c 194 [a1]).bind λr2=>
 qT r1 λb3=>
 if b3 then(qT r2 λb4=>
 if b4 then(some (Jn 0)) else(some (Jn (-1)))) else(qT r2 λb5=>
 if b5 then(some (Jn 1)) else(qC .lss a0 a1 λb7=>
 if b7 then(some (Jn (-1))) else(qC .gtr a0 a1 λb9=>
 if b9 then(some (Jn 1)) else(some (Jn 0)))))
def SD{lp}(hlp:ap lp):ai 168 (m2 (H4 lp)):=aR 0 Tryz.f198 .leaf hlp
def H5(lp:Lp)(c:Ca) :Option D:=
(c 54 [(Jn 1)]).bind λr1=>
 some r1
def SE{lp}(hlp:ap lp):ai 169 (m0 (H5 lp)):=zf 0 Tryz.f90 .leaf hlp
def QA:Ann:=let o0:LO:=[(4100,.one bc (.dv bc)),(4101,.one bc (.dv bc)),(24587,.one bc (.dv bc)),(32783,.one rJ (.dv rJ))]
 (.tl (.two (.reg [] 5) (.two (.tl (.two (.two (.reg [] 2) .leaf) .leaf)) (.tl (.tl (.tl (.tl (.tl (.two (.reg [] 2) (.tl (.two (.tl (.two (.loop ⟨[(4,.sp bc 4100),(5,.sp bc 4101),(11,.sp bc 24587),(15,.sp rJ 32783),(16,.di)],[(4100,.one bc (.dv bc)),(4101,.keep bc 5),(24587,.keep bc 11),(32783,.one rJ (.dv rJ))],[6,10]⟩ [(.exit 0,⟨[(4,.sp bc 4100),(5,.sp bc 4101),(15,.sp rJ 32783)],[(4100,.one bc (.dv bc)),(4101,.keep bc 5),(32783,.one rJ (.dv rJ))],[10]⟩)] (.tl (.two (.two (.two (.regI [] 5 (.two (.tl (.two (.reg [] 19) (.tl (.two (.reg [] 7) (.two (.two (.loop ⟨[(0,.sp rJ 32783),(5,.sp bc 65541),(11,.dv (Ty.int .u64)),(12,.dv (Ty.int .u64))],[(4100,.one bc (.dv bc)),(4101,.one bc (.dv bc)),(24587,.one bc (.dv bc)),(32783,.keep rJ 0),(65541,.keep bc 5)],[2,3,10]⟩ [(.exit 0,⟨[(11,.dv (Ty.int .u64))],[(4100,.one bc (.dv bc)),(4101,.one bc (.dv bc)),(24587,.one bc (.dv bc)),(32783,.keep rJ 0)],[]⟩)] .leaf) .leaf) .leaf))))) .leaf)) (.cut [(.normal,⟨[(4,.sp bc 4100),(5,.sp bc 4101),(11,.sp bc 24587),(15,.sp rJ 32783),(17,.dv (Ty.int .u64))],[(4100,.keep bc 4),(4101,.keep bc 5),(24587,.keep bc 11),(32783,.one rJ (.dv rJ))],[6,10,16]⟩)] [6,10,16] [4100,4101,24587] (.two (.regI [] 5 (.two (.tl (.tl (.two (.tl (.two (.loop ⟨[(0,.sp rJ 32783),(6,.sp bc 102406),(11,.dv (Ty.int .u64)),(12,.dv (Ty.int .u64)),(17,.di)],[(4100,.one bc (.dv bc)),(4101,.one bc (.dv bc)),(24587,.one bc (.dv bc)),(32783,.one rJ (.dv rJ)),(102406,.keep bc 6)],[2,3,4,16]⟩ [(.exit 0,⟨[(0,.sp rJ 32783),(11,.dv (Ty.int .u64)),(12,.dv (Ty.int .u64))],o0,[2,3]⟩)] .leaf) .leaf)) .leaf))) .leaf)) (.two (.tl (.regI [] 4 (.two (.tl (.tl (.two (.tl (.two (.loop ⟨[(0,.sp rJ 32783),(5,.sp bc 147461),(8,.dv (Ty.int .u64)),(11,.di)],[(4100,.one bc (.dv bc)),(4101,.one bc (.dv bc)),(24587,.one bc (.dv bc)),(32783,.one rJ (.dv rJ)),(147461,.keep bc 5)],[2,3,10]⟩ [(.exit 0,⟨[(0,.sp rJ 32783),(8,.dv (Ty.int .u64))],o0,[2,3]⟩)] (.tl (.tl (.two (.two (.tl (.two (.reg [] 15) .leaf)) .leaf) .leaf)))) .leaf)) (.reg [] 12)))) .leaf))) .leaf)) .leaf)) .leaf) .leaf))) .leaf)) (.two (.reg [] 6) .leaf))))))))))))
def H6(lp:Lp)(c:Ca)(a0:D)(a1:D):Option D:=
(c 127 [a1]).bind λr1=>
(c 127 [a0]).bind λr2=>
(c 121 [a0,a1]).bind λr3=>
 qC .lss r3 (Jn 0) λb5=>
 if b5 then(some (D.tup [(D.st (D.putParts (List.replicate 16 (D.int .u32 0)) [])),a0])) else(qT (D.bool (D.beq r1 (Jn 1))) λb6=>
 if b6 then(qG a1 [0] λx7=>
(c 195 [a0,x7]).bind λr8=>
(D.tupAt r8 0).bind λx9=>
(D.tupAt r8 1).bind λx10=>
 some (D.tup [x9,(D.st (D.putParts (List.replicate 16 (D.int .u32 0)) [(0,x10)]))])) else(qB .sub r1 (Jn 1) λx11=>
 qJ x11 16 a1 λx13=>
(c 196 [x13]).bind λr14=>
(c 197 [a1,r14]).bind λr15=>
(D.tupAt r15 0).bind λx16=>
(D.tupAt r15 1).bind λx17=>
(c 197 [a0,r14]).bind λr18=>
(D.tupAt r18 0).bind λx19=>
(D.tupAt r18 1).bind λx20=>
(D.stl (aB rJ)).bind λl21=>
(D.stl x19).bind λl22=>
(D.set (D.st (List.take 0 l21++(List.take 16 (List.drop 0 l22)++List.drop 16 l21))) [16] x20).bind λx23=>
 qB .sub r2 r1 λx24=>
(qZ lp (λv25=>
 qC .geq (gx v25 0) (Jn 0) λb27=>
 if b27 then(qB .add (gx v25 0) r1 λx28=>
 qJ x28 17 (gx v25 2) λx30=>
(D.conv .u64 x30).bind λx31=>
 qB .shl x31 (D.int .u64 32) λx32=>
 qB .add (gx v25 0) r1 λx33=>
 qB .sub x33 (Jn 1) λx34=>
 qJ x34 17 (gx v25 2) λx36=>
(D.conv .u64 x36).bind λx37=>
 qB .or x32 x37 λx38=>
 qB .sub r1 (Jn 1) λx39=>
 qJ x39 16 x16 λx41=>
(D.conv .u64 x41).bind λx42=>
 qB .quo x38 x42 λx43=>
 qB .rem x38 x42 λx44=>
(qZ lp (λv45=>
 qC .lss (gx v45 1) (D.int .u64 4294967296) λb47=>
(if b47 then(qC .geq (gx v45 0) (D.int .u64 4294967296) λb49=>
 if b49 then(some true) else(qB .sub r1 (Jn 2) λx50=>
 qJ x50 16 x16 λx52=>
(D.conv .u64 x52).bind λx53=>
 qB .mul (gx v45 0) x53 λx54=>
 qB .shl (gx v45 1) (D.int .u64 32) λx55=>
 qB .add (gx v25 0) r1 λx56=>
 qB .sub x56 (Jn 2) λx57=>
 qJ x57 17 (gx v25 2) λx59=>
(D.conv .u64 x59).bind λx60=>
 qB .or x55 x60 λx61=>
 qB .gtr x54 x61 λx62=>
 D.truth x62)) else(some false)).bind λb63=>
 qT (D.bool b63) λb64=>
 if b64 then(qB .sub (gx v45 0) (D.int .u64 1) λx65=>
 qB .add (gx v45 1) x42 λx66=>
 iL [x65,x66,(gx v45 2),(gx v45 3),(gx v45 4)]) else(iR (0,[(gx v45 0),(gx v45 2),(gx v45 3),(gx v45 4)]))) [x43,x44,(gx v25 1),(aB bc),x16]).bind λr67=>
((qZ lp (λv68=>
 qC .lss (gx v68 2) r1 λb70=>
 if b70 then(qJ (gx v68 2) 16 (gx r67.2 3) λx72=>
(D.conv .u64 x72).bind λx73=>
 qB .mul (gx r67.2 0) x73 λx74=>
 qB .add (gx v68 0) x74 λx75=>
 qB .add (gx v25 0) (gx v68 2) λx76=>
 qJ x76 17 (gx v68 6) λx78=>
(D.conv .u64 x78).bind λx79=>
(D.conv .u32 x75).bind λx80=>
(D.conv .u64 x80).bind λx81=>
 qB .sub x79 x81 λx82=>
 qB .sub x82 (gx v68 1) λx83=>
 qB .add (gx v25 0) (gx v68 2) λx84=>
(D.conv .u32 x83).bind λx85=>
(D.idx x84 17).bind λi86=>
(D.set (gx v68 6) [i86] x85).bind λx87=>
 qB .shr x83 (D.int .u64 63) λx88=>
 qB .shr x75 (D.int .u64 32) λx89=>
 qB .add (gx v68 2) (Jn 1) λx90=>
 iL [x89,x88,x90,(gx v68 3),(gx v68 4),(gx v68 5),x87]) else(iR (0,[(gx v68 0),(gx v68 1),(gx v68 3),(gx v68 4),(gx v68 5),(gx v68 6)]))) [(D.int .u64 0),(D.int .u64 0),(Jn 0),(gx r67.2 1),(gx r67.2 2),(gx r67.2 3),(gx v25 2)]).bind λr91=>
 qB .add (gx v25 0) r1 λx92=>
 qJ x92 17 (gx r91.2 5) λx94=>
(D.conv .u64 x94).bind λx95=>
 qB .sub x95 (gx r91.2 0) λx96=>
 qB .sub x96 (gx r91.2 1) λx97=>
 qB .add (gx v25 0) r1 λx98=>
(D.conv .u32 x97).bind λx99=>
(D.idx x98 17).bind λi100=>
(D.set (gx r91.2 5) [i100] x99).bind λx101=>
 qB .shr x97 (D.int .u64 63) λx102=>
 qT (D.bool (D.beq x102 (D.int .u64 1))) λb103=>
 if b103 then(qB .sub (gx r67.2 0) (D.int .u64 1) λx104=>
(qZ lp (λv105=>
 qC .lss (gx v105 1) r1 λb107=>
 if b107 then(qB .add (gx v25 0) (gx v105 1) λx108=>
 qJ x108 17 (gx v105 5) λx110=>
(D.conv .u64 x110).bind λx111=>
 qJ (gx v105 1) 16 (gx r91.2 4) λx113=>
(D.conv .u64 x113).bind λx114=>
 qB .add x111 x114 λx115=>
 qB .add (gx v105 0) x115 λx116=>
 qB .add (gx v25 0) (gx v105 1) λx117=>
(D.conv .u32 x116).bind λx118=>
(D.idx x117 17).bind λi119=>
(D.set (gx v105 5) [i119] x118).bind λx120=>
 qB .shr x116 (D.int .u64 32) λx121=>
 qB .add (gx v105 1) (Jn 1) λx122=>
 iL [x121,x122,(gx v105 2),(gx v105 3),(gx v105 4),x120]) else(iR (0,[(gx v105 0),(gx v105 2),(gx v105 3),(gx v105 4),(gx v105 5)]))) [(D.int .u64 0),(Jn 0),(gx r91.2 2),(gx r91.2 3),(gx r91.2 4),x101]).bind λr123=>
 qB .add (gx v25 0) r1 λx124=>
 qJ x124 17 (gx r123.2 4) λx126=>
(D.conv .u32 (gx r123.2 0)).bind λx127=>
 qB .add x126 x127 λx128=>
(D.idx x124 17).bind λi129=>
(D.set (gx r123.2 4) [i129] x128).bind λx130=>
 some (0,[x104,x130])) else(some (0,[(gx r67.2 0),x101]))).bind λ(r131:Nat×List D)=>
(D.conv .u32 (gx r131.2 0)).bind λx132=>
(D.idx (gx v25 0) 16).bind λi133=>
(D.set (gx r67.2 1) [i133] x132).bind λx134=>
 qB .sub (gx v25 0) (Jn 1) λx135=>
 iL [x135,x134,(gx r131.2 1)]) else(iR (0,[(gx v25 1),(gx v25 2)]))) [x24,(aB bc),x23]).bind λr136=>
(match (gx r136.2 1) with
| D.st l137=>(if decide (0+16<=l137.length) then((c 201 [(D.st (List.take 16 (List.drop 0 l137))),r14]).bind λr138=>
 some (D.tup [(gx r136.2 0),r138])) else none)
| _=>none)))
def SF{lp}(hlp:ap lp):ai 170 (m2 (H6 lp)):=aR 0 Tryz.f152 QA hlp
def H7(lp:Lp)(c:Ca)(a0:D):Option D:=
(c 118 [(D.sl [a0])]).bind λr1=>
 qN r1 λb3=>
 if b3 then((c 119 []).bind λr4=>
 some r4) else(qG a0 [2] λx5=>
(c 116 [(D.bool false),x5]).bind λr6=>
 some r6)
def SG{lp}(hlp:ap lp):ai 171 (m1 (H7 lp)):=aU 0 Tryz.f153 .leaf hlp
def QB:Ann:=(.tl (.tl (.cut [(.ret,⟨[(4,.sp aJ 4100),(5,.sp aJ 4101)],[(4100,.one aJ (.dv aJ)),(4101,.one aJ (.dv aJ))],[]⟩),(.normal,⟨[(2,.sp aJ 4098),(3,.sp aJ 4099),(4,.sp aJ 4100),(5,.sp aJ 4101)],[(4098,.keep aJ 2),(4099,.keep aJ 3),(4100,.one aJ (.dv aJ)),(4101,.one aJ (.dv aJ))],[]⟩)] [] [4098,4099] (.tl (.tl (.two (.tl (.tl (.two (.two (.reg [] 7) (.cut [(.normal,⟨[(4,.sp aJ 4100),(5,.sp aJ 4101),(10,.di),(11,.di)],[(4100,.keep aJ 4),(4101,.keep aJ 5)],[]⟩)] [] [4100,4101] .leaf .leaf)) .leaf))) .leaf))) (.tl (.tl (.cut [(.normal,⟨[(3,.sp aJ 4099),(4,.sp aJ 4100),(5,.sp aJ 4101),(13,.sp bc 16397),(14,.sp aJ 20494)],[(4099,.keep aJ 3),(4100,.keep aJ 4),(4101,.keep aJ 5),(16397,.one bc (.dv bc)),(20494,.one aJ (.dv aJ))],[]⟩)] [] [4099,4100,4101] (.tl (.two (.reg [] 7) .leaf)) (.two (.reg [] 5) .leaf)))))))
def H8(lp:Lp)(c:Ca)(a0:D)(a1:D):Option D:=
(c 118 [(D.sl [a0,a1])]).bind λr1=>
 qN r1 λb3=>
(if b3 then(some true) else((c 129 [a1]).bind λr4=>
 D.truth (D.bool (D.beq r4 (Jn 0))))).bind λb5=>
 qT (D.bool b5) λb6=>
 if b6 then((c 119 []).bind λr7=>
(c 119 []).bind λr8=>
 some (D.tup [r7,r8])) else(((c 202 [a0]).bind λr9=>
(D.tupAt r9 0).bind λx10=>
(D.tupAt r9 1).bind λx11=>
 qT x11 λb12=>
(if b12 then(D.truth (D.bool (!(D.beq x10 (Jn (-9223372036854775808)))))) else(some false)).bind λb13=>
 qT (D.bool b13) λb14=>
 if b14 then((c 202 [a1]).bind λr15=>
(D.tupAt r15 0).bind λx16=>
(D.tupAt r15 1).bind λx17=>
 qT x17 λb18=>
(if b18 then(D.truth (D.bool (!(D.beq x16 (Jn (-9223372036854775808)))))) else(some false)).bind λb19=>
 qT (D.bool b19) λb20=>
 if b20 then(qB .quo x10 x16 λx21=>
 qB .rem x10 x16 λx22=>
(qT (D.bool (!(D.beq x22 (Jn 0)))) λb23=>
(if b23 then(qB .lss x22 (Jn 0) λx24=>
 qB .lss x16 (Jn 0) λx25=>
 D.truth (D.bool (!(D.beq x24 x25)))) else(some false)).bind λb26=>
 qT (D.bool b26) λb27=>
 if b27 then(qB .sub x21 (Jn 1) λx28=>
 qB .add x22 x16 λx29=>
 some (0,[x28,x29])) else(some (0,[x21,x22]))).bind λ(r30:Nat×List D)=>
(c 54 [(gx r30.2 0)]).bind λr31=>
(c 54 [(gx r30.2 1)]).bind λr32=>
 some (0,[r31,r32])) else(some (1,[(D.st [(D.bool false),(D.bool false),(aB bc)]),(D.st [(D.bool false),(D.bool false),(aB bc)])]))) else(some (1,[(D.st [(D.bool false),(D.bool false),(aB bc)]),(D.st [(D.bool false),(D.bool false),(aB bc)])]))).bind λ(r33:Nat×List D)=>
 if r33.1=0 then(some (D.tup [(gx r33.2 0),(gx r33.2 1)])) else(qG a0 [2] λx34=>
 qG a1 [2] λx35=>
(c 170 [x34,x35]).bind λr36=>
(D.tupAt r36 0).bind λx37=>
(D.tupAt r36 1).bind λx38=>
 qG a0 [1] λx39=>
 qG a1 [1] λx40=>
(c 116 [(D.bool (!(D.beq x39 x40))),x37]).bind λr41=>
(qT (D.bool (!(D.beq x38 (D.st (D.putParts (List.replicate 16 (D.int .u32 0)) []))))) λb42=>
(if b42 then(qG a0 [1] λx43=>
 qG a1 [1] λx44=>
 D.truth (D.bool (!(D.beq x43 x44)))) else(some false)).bind λb45=>
 qT (D.bool b45) λb46=>
 if b46 then((c 54 [(Jn 1)]).bind λr47=>
(c 203 [r41,r47]).bind λr48=>
 qG a1 [2] λx49=>
(c 122 [x49,x38]).bind λr50=>
 some (0,[r50,r48])) else(some (0,[x38,r41]))).bind λ(r51:Nat×List D)=>
 qG a1 [1] λx52=>
(c 116 [x52,(gx r51.2 0)]).bind λr53=>
 some (D.tup [(gx r51.2 1),r53])))
def SH{lp}(hlp:ap lp):ai 172 (m2 (H8 lp)):=aR 0 Tryz.f154 QB hlp
def QC:Ann:=(.tl (.tl (.tl (.two (.reg [] 10) (.two (.reg [] 14) .leaf)))))
def EN(lp:Lp)(c:Ca)(a0:D)(a1:D):Option D:=
(c 136 [a0]).bind λr1=>
 qN r1 λb3=>
(if b3 then(some true) else((c 136 [a1]).bind λr4=>
(D.un .not r4).bind λx5=>
 D.truth x5)).bind λb6=>
 qT (D.bool b6) λb7=>
 if b7 then((c 130 []).bind λr8=>
 some r8) else(qG a0 [1] λx9=>
 qG a1 [1] λx10=>
(c 131 [x9,x10]).bind λr11=>
 qG a0 [1] λx12=>
(c 132 [x12,r11]).bind λr13=>
 qG a1 [1] λx14=>
(c 132 [x14,r11]).bind λr15=>
 qG a0 [0] λx16=>
(c 61 [x16,r15]).bind λr17=>
 qG a1 [0] λx18=>
(c 61 [x18,r13]).bind λr19=>
(c 57 [r17,r19]).bind λr20=>
 qG a1 [1] λx21=>
(c 61 [r13,x21]).bind λr22=>
(c 62 [r20,r22]).bind λr23=>
 some r23)
def SI{lp}(hlp:ap lp):ai 173 (m2 (EN lp)):=aR 0 Tryz.f55 QC hlp
def QD:Ann:=(.tl (.tl (.two (.reg [] 12) (.two (.reg [] 12) .leaf))))
def C9(lp:Lp)(c:Ca)(a0:D)(a1:D):Option D:=
(c 136 [a0]).bind λr1=>
 qN r1 λb3=>
(if b3 then(some true) else((c 136 [a1]).bind λr4=>
(D.un .not r4).bind λx5=>
 D.truth x5)).bind λb6=>
 qT (D.bool b6) λb7=>
 if b7 then((c 130 []).bind λr8=>
 some r8) else(qG a0 [0] λx9=>
 qG a1 [1] λx10=>
(c 62 [x9,x10]).bind λr11=>
 qG a1 [0] λx12=>
 qG a0 [1] λx13=>
(c 62 [x12,x13]).bind λr14=>
 qG r11 [0] λx15=>
 qG r14 [0] λx16=>
(c 61 [x15,x16]).bind λr17=>
 qG r11 [1] λx18=>
 qG r14 [1] λx19=>
(c 61 [x18,x19]).bind λr20=>
 qG r17 [0] λx21=>
 qT x21 λb22=>
(if b22 then(some true) else(qG r20 [0] λx23=>
 D.truth x23)).bind λb24=>
 qT (D.bool b24) λb25=>
 if b25 then((c 130 []).bind λr26=>
 some r26) else(some (D.st [r17,r20])))
def SJ{lp}(hlp:ap lp):ai 174 (m2 (C9 lp)):=aR 0 Tryz.f46 QD hlp
def H9(lp:Lp)(c:Ca)(a0:D)(a1:D):Option D:=
 qC .lss a1 (Jn 0) λb2=>
 if b2 then(some (Jn 0)) else((c 141 [a0,a1]).bind λr3=>
 some r3)
def SK{lp}(hlp:ap lp):ai 175 (m2 (H9 lp)):=aR 0 Tryz.f167 .leaf hlp
def QE:Ann:=(.tl (.tl (.tl (.tl (.tl (.tl (.cut [(.normal,⟨[(6,.di)],[],[]⟩)] [] [] .leaf .leaf)))))))
def Ia(lp:Lp)(c:Ca)(a0:D):Option D:=
(c 76 [a0]).bind λr1=>
 qN r1 λb3=>
 if b3 then(some (D.tup [(Jn 0),(D.bool false)])) else((c 34 [(Jn (-9223372036854775808))]).bind λr4=>
(c 34 [(Jn 9223372036854775807)]).bind λr5=>
(c 32 [a0,r4]).bind λr6=>
 qC .lss r6 (Jn 0) λb8=>
(if b8 then(some true) else((c 32 [a0,r5]).bind λr9=>
 qB .gtr r9 (Jn 0) λx10=>
 D.truth x10)).bind λb11=>
 qT (D.bool b11) λb12=>
 if b12 then(some (D.tup [(Jn 0),(D.bool false)])) else(qG a0 [2,1] λx13=>
(D.conv .u64 x13).bind λx14=>
 qB .mul x14 (D.int .u64 4294967296) λx15=>
 qG a0 [2,0] λx16=>
(D.conv .u64 x16).bind λx17=>
 qB .add x15 x17 λx18=>
(D.conv .i64 x18).bind λx19=>
(qG a0 [1] λx20=>
 qT x20 λb21=>
 if b21 then((D.un .neg x19).bind λx22=>
 some (0,[x22])) else(some (0,[x19]))).bind λ(r23:Nat×List D)=>
 some (D.tup [(gx r23.2 0),(D.bool true)])))
def SL{lp}(hlp:ap lp):ai 186 (m1 (Ia lp)):=aU 0 Tryz.f207 QE hlp
end Sy
end
end
noncomputable section
set_option maxHeartbeats 0
noncomputable section
namespace Sy
open Go Go.Proofs
def QF:Ann:=(.tl (.two (.tl (.two (.loop ⟨[(1,.sp K1 4097),(3,.di)],[(4097,.keep K1 1)],[]⟩ [(.ret,⟨[(2,.dv Ty.bool)],[],[]⟩),(.exit 0,⟨[],[],[]⟩)] .leaf) .leaf)) .leaf))
def Ib(lp:Lp)(c:Ca)(a0:D):Option D:=
(qZ lp (λv1=>
 qC .lss (gx v1 0) (Jn 3) λb3=>
 if b3 then(qJ (gx v1 0) 3 a0 λx5=>
 qC .geq x5 (Jn 2305843009213693952) λb7=>
(if b7 then(some true) else(qJ (gx v1 0) 3 a0 λx9=>
 qB .leq x9 (Jn (-2305843009213693952)) λx10=>
 D.truth x10)).bind λb11=>
 qT (D.bool b11) λb12=>
 if b12 then(iR (0,[(D.bool false)])) else(qB .add (gx v1 0) (Jn 1) λx13=>
 iL [x13])) else(iR (1,[]))) [(Jn 0)]).bind λr14=>
 if r14.1=0 then(some (gx r14.2 0)) else(some (D.bool true))
def SM{lp}(hlp:ap lp):ai 187 (m1 (Ib lp)):=aU 0 Tryz.f252 QF hlp
def QG:Ann:=(.tl (.two (.tl (.two (.loop ⟨[(2,.sp K1 4098),(3,.sp K1 4099),(5,.di)],[(4098,.keep K1 2),(4099,.keep K1 3)],[]⟩ [(.ret,⟨[(4,.di)],[],[]⟩),(.exit 0,⟨[],[],[]⟩)] (.tl (.two (.two (.tl (.two (.two (.reg [] 9) .leaf) .leaf)) .leaf) .leaf))) .leaf)) .leaf))
def Ic(lp:Lp)(c:Ca)(a0:D)(a1:D):Option D:=
(qZ lp (λv1=>
 qC .lss (gx v1 0) (Jn 3) λb3=>
 if b3 then(qJ (gx v1 0) 3 a0 λx5=>
 qT (D.bool (!(D.beq x5 (Jn 0)))) λb6=>
 if b6 then(qJ (gx v1 0) 3 a0 λx8=>
(c 215 [x8]).bind λr9=>
 qJ (gx v1 0) 3 a1 λx11=>
(c 215 [x11]).bind λr12=>
 qB .mul r9 r12 λx13=>
 iR (0,[x13])) else(qB .add (gx v1 0) (Jn 1) λx14=>
 iL [x14])) else(iR (1,[]))) [(Jn 0)]).bind λr15=>
 if r15.1=0 then(some (gx r15.2 0)) else(some (Jn 0))
def SN{lp}(hlp:ap lp):ai 188 (m2 (Ic lp)):=aR 0 Tryz.f253 QG hlp
def Id(lp:Lp)(c:Ca)(a0:D):Option D:=
 some (D.bool (!(D.beq a0 a0)))
def SO{lp}(hlp:ap lp):ai 194 (m1 (Id lp)):=aU 0 Tryz.f220 .leaf hlp
def QH:Ann:=(.tl (.tl (.two (.tl (.two (.loop ⟨[(2,.sp bc 4098),(4,.sp bc 4100),(6,.dv (Ty.int .u64)),(7,.di)],[(4098,.keep bc 2),(4100,.one bc (.dv bc))],[1]⟩ [(.exit 0,⟨[(4,.sp bc 4100),(6,.dv (Ty.int .u64))],[(4100,.one bc (.dv bc))],[]⟩)] .leaf) .leaf)) .leaf)))
def Ie(lp:Lp)(c:Ca)(a0:D)(a1:D):Option D:=
(qZ lp (λv1=>
 qC .geq (gx v1 1) (Jn 0) λb3=>
 if b3 then(qB .shl (gx v1 0) (D.int .u64 32) λx4=>
 qJ (gx v1 1) 16 a0 λx6=>
(D.conv .u64 x6).bind λx7=>
 qB .or x4 x7 λx8=>
(D.conv .u64 a1).bind λx9=>
 qB .quo x8 x9 λx10=>
(D.conv .u32 x10).bind λx11=>
(D.idx (gx v1 1) 16).bind λtg=>
(D.set (gx v1 2) [tg] x11).bind λx13=>
(D.conv .u64 a1).bind λx14=>
 qB .rem x8 x14 λx15=>
 qB .sub (gx v1 1) (Jn 1) λx16=>
 iL [x15,x16,x13]) else(iR (0,[(gx v1 0),(gx v1 2)]))) [(D.int .u64 0),(Jn 15),(aB bc)]).bind λr17=>
(D.conv .u32 (gx r17.2 0)).bind λx18=>
 some (D.tup [(gx r17.2 1),x18])
def SP{lp}(hlp:ap lp):ai 195 (m2 (Ie lp)):=aR 0 Tryz.f189 QH hlp
def If(lp:Lp)(c:Ca)(a0:D):Option D:=
(c 165 [a0]).bind λr1=>
 qB .sub (Jn 32) r1 λx2=>
 some x2
def SQ{lp}(hlp:ap lp):ai 196 (m1 (If lp)):=aU 0 Tryz.f190 .leaf hlp
def QI:Ann:=(.tl (.tl (.tl (.two (.tl (.two (.loop ⟨[(2,.sp bc 4098),(4,.sp bc 4100),(6,.sp bc 8198),(7,.dv (Ty.int .u64)),(9,.di)],[(4098,.keep bc 2),(4100,.keep bc 4),(8198,.one bc (.dv bc))],[1]⟩ [(.exit 0,⟨[(4,.sp bc 4100),(6,.sp bc 8198),(7,.dv (Ty.int .u64))],[(4100,.keep bc 4),(8198,.one bc (.dv bc))],[]⟩)] .leaf) .leaf)) .leaf))))
def Ig(lp:Lp)(c:Ca)(a0:D)(a1:D):Option D:=
(qZ lp (λv1=>
 qC .lss (gx v1 1) (Jn 16) λb3=>
 if b3 then(qJ (gx v1 1) 16 a0 λx5=>
(D.conv .u64 x5).bind λx6=>
 qB .shl x6 a1 λx7=>
 qB .or (gx v1 0) x7 λx8=>
(D.conv .u32 x8).bind λx9=>
(D.idx (gx v1 1) 16).bind λi10=>
(D.set (gx v1 2) [i10] x9).bind λx11=>
 qB .shr x8 (D.int .u64 32) λx12=>
 qB .add (gx v1 1) (Jn 1) λx13=>
 iL [x12,x13,x11]) else(iR (0,[(gx v1 0),(gx v1 2)]))) [(D.int .u64 0),(Jn 0),(aB bc)]).bind λr14=>
(D.conv .u32 (gx r14.2 0)).bind λx15=>
 some (D.tup [(gx r14.2 1),x15])
def SR{lp}(hlp:ap lp):ai 197 (m2 (Ig lp)):=aR 0 Tryz.f191 QI hlp
def QJ:Ann:=(.tl (.tl (.two (.tl (.two (.loop ⟨[(2,.sp bc 4098),(4,.sp bc 4100),(5,.sp bc 8197),(8,.di)],[(4098,.keep bc 2),(4100,.keep bc 4),(8197,.one bc (.dv bc))],[1]⟩ [(.exit 0,⟨[(4,.sp bc 4100),(5,.sp bc 8197)],[(4100,.keep bc 4),(8197,.one bc (.dv bc))],[]⟩)] (.tl (.tl (.two (.two (.tl (.tl (.cut [(.normal,⟨[(2,.sp bc 4098),(4,.sp bc 4100),(5,.sp bc 8197),(7,.dv (Ty.int .u64))],[(4098,.keep bc 2),(4100,.keep bc 4),(8197,.keep bc 5)],[1,6,8]⟩)] [1,6,8] [4098,4100,8197] .leaf .leaf))) .leaf) .leaf)))) .leaf)) .leaf)))
def Ih(lp:Lp)(c:Ca)(a0:D)(a1:D):Option D:=
(qZ lp (λv1=>
 qC .lss (gx v1 0) (Jn 16) λb3=>
 if b3 then((qB .add (gx v1 0) (Jn 1) λx4=>
 qC .lss x4 (Jn 16) λb6=>
 if b6 then(qB .add (gx v1 0) (Jn 1) λx7=>
 qJ x7 16 a0 λx9=>
(D.conv .u64 x9).bind λx10=>
 some (0,[x10])) else(some (0,[(D.int .u64 0)]))).bind λ(r11:Nat×List D)=>
 qB .shl (gx r11.2 0) (D.int .u64 32) λx12=>
 qJ (gx v1 0) 16 a0 λx14=>
(D.conv .u64 x14).bind λx15=>
 qB .or x12 x15 λx16=>
 qB .shr x16 a1 λx17=>
(D.conv .u32 x17).bind λx18=>
(D.idx (gx v1 0) 16).bind λi19=>
(D.set (gx v1 1) [i19] x18).bind λx20=>
 qB .add (gx v1 0) (Jn 1) λx21=>
 iL [x21,x20]) else(iR (0,[(gx v1 1)]))) [(Jn 0),(aB bc)]).bind λr22=>
 some (gx r22.2 0)
def SS{lp}(hlp:ap lp):ai 201 (m2 (Ih lp)):=aR 0 Tryz.f195 QJ hlp
def Da(lp:Lp)(c:Ca)(a0:D):Option D:=
(c 118 [(D.sl [a0])]).bind λr1=>
 qN r1 λb3=>
(if b3 then(some true) else((c 217 [a0]).bind λr4=>
 qB .gtr r4 (Jn 64) λx5=>
 D.truth x5)).bind λb6=>
 qT (D.bool b6) λb7=>
 if b7 then(some (D.tup [(Jn 0),(D.bool false)])) else(qG a0 [2,1] λx8=>
(D.conv .u64 x8).bind λx9=>
 qB .shl x9 (D.int .u64 32) λx10=>
 qG a0 [2,0] λx11=>
(D.conv .u64 x11).bind λx12=>
 qB .or x10 x12 λx13=>
 qG a0 [1] λx14=>
 qT x14 λb15=>
(if b15 then(qB .leq x13 (D.int .u64 9223372036854775808) λx16=>
 D.truth x16) else(some false)).bind λb17=>
 qT (D.bool b17) λb18=>
 if b18 then((D.un .neg x13).bind λx19=>
(D.conv .i64 x19).bind λx20=>
 some (D.tup [x20,(D.bool true)])) else(qG a0 [1] λx21=>
 qN x21 λb23=>
(if b23 then(qB .lss x13 (D.int .u64 9223372036854775808) λx24=>
 D.truth x24) else(some false)).bind λb25=>
 qT (D.bool b25) λb26=>
 if b26 then((D.conv .i64 x13).bind λx27=>
 some (D.tup [x27,(D.bool true)])) else(some (D.tup [(Jn 0),(D.bool false)]))))
def SU{lp}(hlp:ap lp):ai 202 (m1 (Da lp)):=aU 0 Tryz.f196 .leaf hlp
def Nj:Ann:=(.tl (.two (.reg [] 4) .leaf))
def SV{lp}(hlp:ap lp):ai 203 (mX 0 lp 203 Tryz.f197 Nj):=gb hlp (by kernel_rfl) (by kernel_rfl)
def Ii(lp:Lp)(c:Ca)(a0:D):Option D:=
 qC .lss a0 (Jn 0) λb2=>
 if b2 then(some (Jn (-1))) else(qC .gtr a0 (Jn 0) λb4=>
 if b4 then(some (Jn 1)) else(some (Jn 0)))
def SW{lp}(hlp:ap lp):ai 215 (m1 (Ii lp)):=aU 0 Tryz.f263 .leaf hlp
def Ij(lp:Lp)(c:Ca)(a0:D):Option D:=
 qG a0 [2] λx1=>
(c 127 [x1]).bind λr2=>
(c 118 [(D.sl [a0])]).bind λr3=>
 qN r3 λb5=>
(if b5 then(some true) else(D.truth (D.bool (D.beq r2 (Jn 0))))).bind λb6=>
 qT (D.bool b6) λb7=>
 if b7 then(some (Jn 0)) else(qB .sub r2 (Jn 1) λx8=>
 qB .mul (Jn 32) x8 λx9=>
 qB .sub r2 (Jn 1) λx10=>
(D.idx x10 16).bind λi11=>
 qG a0 [2,i11] λx12=>
(c 165 [x12]).bind λr13=>
 qB .add x9 r13 λx14=>
 some x14)
def SX{lp}(hlp:ap lp):ai 217 (m1 (Ij lp)):=aU 0 Tryz.f219 .leaf hlp
def QK:Ann:=(.tl (.tl (.tl (.tl (.tl (.tl (.tl (.tl (.tl (.tl (.tl (.two (.reg [] 25) .leaf))))))))))))
def Ik(lp:Lp)(c:Ca)(a0:D)(a1:D)(a2:D)(a3:D):Option D:=
(c 315 [a0,a1]).bind λr1=>
(c 315 [a0,a2]).bind λr2=>
(c 315 [a0,a3]).bind λr3=>
 qN r1 λb5=>
(if b5 then(some true) else((D.un .not r2).bind λx6=>
 D.truth x6)).bind λb7=>
 qT (D.bool b7) λb8=>
(if b8 then(some true) else((D.un .not r3).bind λx9=>
 D.truth x9)).bind λb10=>
 qT (D.bool b10) λb11=>
 if b11 then((c 307 []).bind λr12=>
 some r12) else((c 320 [a0,a1,a1]).bind λr13=>
 qT (D.bool (!(D.beq r13 (Jn 0)))) λb14=>
 if b14 then((c 307 []).bind λr15=>
 qT r15 λb16=>
(if b16 then((c 320 [a0,a1,a1]).bind λr17=>
 D.truth (D.bool (D.beq r17 (Jn 30)))) else(some false)).bind λb18=>
 some (D.bool b18)) else((c 320 [a0,a1,a2]).bind λr19=>
(c 320 [a0,a2,a3]).bind λr20=>
 qT (D.bool (D.beq r19 (Jn 0))) λb21=>
(if b21 then(D.truth (D.bool (D.beq r20 (Jn 0)))) else(some false)).bind λb22=>
 qT (D.bool b22) λb23=>
(if b23 then((c 320 [a0,a1,a3]).bind λr24=>
 D.truth (D.bool (!(D.beq r24 (Jn 0))))) else(some false)).bind λb25=>
 qT (D.bool b25) λb26=>
 if b26 then((c 307 []).bind λr27=>
 qT r27 λb28=>
(if b28 then((c 320 [a0,a1,a3]).bind λr29=>
 D.truth (D.bool (D.beq r29 (Jn 30)))) else(some false)).bind λb30=>
 some (D.bool b30)) else((c 320 [a0,a2,a1]).bind λr31=>
 qT (D.bool (D.beq r19 (Jn 1))) λb32=>
(if b32 then(some true) else(D.truth (D.bool (D.beq r19 (Jn 30))))).bind λb33=>
 qT (D.bool b33) λb34=>
(if b34 then(some true) else(D.truth (D.bool (D.beq r31 (Jn 30))))).bind λb35=>
 qT (D.bool b35) λb36=>
 if b36 then((c 307 []).bind λr37=>
 qT r37 λb38=>
(if b38 then(D.truth (D.bool (D.beq (D.bool (D.beq r19 (Jn 1))) (D.bool (D.beq r31 (Jn 1)))))) else(some false)).bind λb39=>
 some (D.bool b39)) else((c 307 []).bind λr40=>
 qT r40 λb41=>
(if b41 then(qT (D.bool (D.beq r19 (Jn 0))) λb42=>
 if b42 then((c 316 [a0,a1]).bind λr43=>
(c 316 [a0,a2]).bind λr44=>
 D.truth (D.bool (D.beq (D.bool (D.beq r31 (Jn 0))) (D.bool (D.beq r43 r44))))) else((c 316 [a0,a1]).bind λr45=>
(c 316 [a0,a2]).bind λr46=>
 D.truth (D.bool (D.beq (D.bool false) (D.bool (D.beq r45 r46)))))) else(some false)).bind λb47=>
 qT (D.bool b47) λb48=>
(if b48 then(qT (D.bool (D.beq r19 (Jn 0))) λb49=>
 if b49 then(some true) else(D.truth (D.bool (D.beq r31 (Jn 0))))) else(some false)).bind λb50=>
 some (D.bool b50)))))
def NA{lp}(hlp:ap lp):ai 304 (m4 (Ik lp)):=Ct 0 Tryz.f7 QK hlp
def Nk:Ann:=(.tl (.tl (.tl (.two (.reg [] 6) (.tl (.two (.reg [] 16) (.two (.reg [] 16) (.two (.reg [] 25) .leaf))))))))
def SY{lp}(hlp:ap lp):ai 307 (mX 0 lp 307 Tryz.f10 Nk):=gb hlp (by kernel_rfl) (by kernel_rfl)
def QL:Ann:=(.tl (.two (.tl (.two (.loop ⟨[(1,.sp Ao 4097),(3,.di)],[(4097,.keep Ao 1)],[]⟩ [(.ret,⟨[(2,.di)],[],[]⟩),(.exit 0,⟨[(1,.sp Ao 4097)],[(4097,.keep Ao 1)],[]⟩)] .leaf) .leaf)) .leaf))
def Il(lp:Lp)(c:Ca)(a0:D):Option D:=
(qZ lp (λv1=>
 qC .lss (gx v1 0) (Jn 3) λb3=>
 if b3 then((D.idx (gx v1 0) 3).bind λi4=>
 qG a0 [0,i4] λx5=>
 qC .geq x5 (Jn 140737488355328) λb7=>
(if b7 then(some true) else((D.idx (gx v1 0) 3).bind λi8=>
 qG a0 [0,i8] λx9=>
 qB .leq x9 (Jn (-140737488355328)) λx10=>
 D.truth x10)).bind λb11=>
 qT (D.bool b11) λb12=>
 if b12 then(iR (0,[(Jn 1)])) else(qB .add (gx v1 0) (Jn 1) λx13=>
 iL [x13])) else(iR (1,[]))) [(Jn 0)]).bind λr14=>
 if r14.1=0 then(some (gx r14.2 0)) else(qG a0 [1] λx15=>
(c 331 [x15]).bind λr16=>
 qN r16 λb18=>
 if b18 then(some (Jn 1)) else(some (Jn 0)))
def SZ{lp}(hlp:ap lp):ai 308 (m1 (Il lp)):=aU 0 Tryz.f11 QL hlp
def QM:Ann:=(.tl (.tl (.tl (.tl (.tl (.tl (.two (.tl (.two (.loop ⟨[(4,.sp K1 4100),(6,.sp aY 4102),(7,.sp aY 8199),(8,.sp bX 12296),(9,.sp gG 20489),(10,.sp gG 24586),(29,.di)],[(4100,.keep K1 4),(4102,.keep aY 6),(8199,.keep aY 7),(12296,.keep bX 8),(20489,.keep gG 9),(24586,.one gG (.dv gG))],[]⟩ [(.exit 0,⟨[(4,.sp K1 4100),(6,.sp aY 4102),(7,.sp aY 8199),(9,.sp gG 20489),(10,.sp gG 24586)],[(4100,.keep K1 4),(4102,.keep aY 6),(8199,.keep aY 7),(20489,.keep gG 9),(24586,.one gG (.dv gG))],[]⟩)] (.tl (.tl (.two (.two (.tl (.reg [] 14)) .leaf) .leaf)))) .leaf)) (.tl (.two (.reg [] 8) .leaf)))))))))
def Im(lp:Lp)(c:Ca)(a0:D)(a1:D)(a2:D):Option D:=
 qG a0 [2,0] λx1=>
(c 74 [x1]).bind λr2=>
(c 332 [a0,r2]).bind λr3=>
 qP r3 [2] λl5=>
 qT (D.bool (!(D.beq (Jn (l5.length)) (Jn 9)))) λb6=>
 if b6 then((c 130 []).bind λr7=>
 some r7) else((c 135 [a2]).bind λr8=>
(qZ lp (λv9=>
 qC .lss (gx v9 0) (Jn 3) λb11=>
 if b11 then(qG r3 [2] λx12=>
 qB .mul (Jn 3) (gx v9 0) λx13=>
 qB .mul (Jn 3) (gx v9 0) λx14=>
 qB .add x14 (Jn 3) λx15=>
 qS x12 λl16=>
(D.natOf x13).bind λi17=>
(D.natOf x15).bind λi18=>
(D.cut l16 i17 i18).bind λl19=>
 if decide (1<=3)&&decide (3<=l19.length) then((c 134 [(D.st (List.take 3 l19)),r8]).bind λr20=>
(D.idx (gx v9 0) 3).bind λi21=>
(D.set (gx v9 1) [i21] r20).bind λx22=>
 qB .add (gx v9 0) (Jn 1) λx23=>
 iL [x23,x22]) else none) else(iR (0,[(gx v9 1)]))) [(Jn 0),(D.st [(D.st [(D.st [(D.bool false),(D.bool false),(aB bc)]),(D.st [(D.bool false),(D.bool false),(aB bc)])]),(D.st [(D.st [(D.bool false),(D.bool false),(aB bc)]),(D.st [(D.bool false),(D.bool false),(aB bc)])]),(D.st [(D.st [(D.bool false),(D.bool false),(aB bc)]),(D.st [(D.bool false),(D.bool false),(aB bc)])])])]).bind λr24=>
(c 135 [a1]).bind λr25=>
(c 134 [r25,r25]).bind λr26=>
(c 174 [r2,r26]).bind λr27=>
(c 333 [(Jn 1),(Jn 131072)]).bind λr28=>
(c 174 [r27,r28]).bind λr29=>
(c 134 [r8,(gx r24.2 0)]).bind λr30=>
(c 333 [(Jn 1),(Jn 2097152)]).bind λr31=>
(c 174 [r30,r31]).bind λr32=>
(c 334 [(D.sl [r29,r32])]).bind λr33=>
 some r33)
def S4{lp}(hlp:ap lp):ai 309 (m3 (Im lp)):=kY 0 Tryz.f12 QM hlp
def Nl:Ann:=(.tl (.tl (.two (.tl (.two (.loop ⟨[(3,.sp iZ 4099),(6,.sp aY 4102),(7,.sp aY 8199),(8,.di)],[(4099,.keep iZ 3),(4102,.keep aY 6),(8199,.one aY (.dv aY))],[1,2]⟩ [(.exit 0,⟨[(6,.sp aY 4102),(7,.sp aY 8199)],[(4102,.keep aY 6),(8199,.one aY (.dv aY))],[]⟩)] (.tl (.two (.two (.two (.reg [] 17) (.reg [] 5)) .leaf) .leaf))) .leaf)) .leaf)))
def S5{lp}(hlp:ap lp):ai 311 (mX 0 lp 311 Tryz.f14 Nl):=gb hlp (by kernel_rfl) (by kernel_rfl)
def QN:Ann:=(.tl (.two (.reg [] 12) .leaf))
def Io(lp:Lp)(c:Ca)(a0:D)(a1:D)(a2:D):Option D:=
 qG a0 [2,0] λx1=>
(c 74 [x1]).bind λr2=>
(c 74 [a1]).bind λr3=>
(c 174 [r2,r3]).bind λr4=>
 qG a2 [0,2] λx5=>
(c 74 [x5]).bind λr6=>
(c 174 [r4,r6]).bind λr7=>
 some r7
def S6{lp}(hlp:ap lp):ai 313 (m3 (Io lp)):=kY 0 Tryz.f16 QN hlp
def QO:Ann:=let o0:LO:=[(4098,.keep nj 2),(4099,.keep ja 3)]
 (.tl (.tl (.tl (.tl (.two (.tl (.two (.loop ⟨[(2,.sp nj 4098),(3,.sp ja 4099),(7,.di)],o0,[6]⟩ [(.ret,⟨[(4,.dv Ty.bool)],[],[]⟩),(.exit 0,⟨[(2,.sp nj 4098),(3,.sp ja 4099)],o0,[]⟩)] .leaf) .leaf)) (.two (.tl (.two (.loop ⟨[(2,.sp nj 4098),(3,.sp ja 4099),(8,.di)],o0,[]⟩ [(.ret,⟨[(4,.dv Ty.bool)],[],[]⟩),(.exit 2,⟨[],[],[]⟩)] .leaf) .leaf)) .leaf))))))
def Ip(lp:Lp)(c:Ca)(a0:D)(a1:D):Option D:=
(c 338 [a0]).bind λr1=>
 qP a0 [2] λl3=>
 qN r1 λb5=>
(if b5 then(some true) else(qP a1 [0] λl7=>
 D.truth (D.bool (!(D.beq (Jn (l7.length)) (Jn (l3.length))))))).bind λb8=>
 qT (D.bool b8) λb9=>
(if b9 then(some true) else(qP a1 [1] λl11=>
 D.truth (D.bool (!(D.beq (Jn (l11.length)) (Jn (l3.length))))))).bind λb12=>
 qT (D.bool b12) λb13=>
(if b13 then(some true) else(qP a1 [2] λl15=>
 D.truth (D.bool (!(D.beq (Jn (l15.length)) (Jn (l3.length))))))).bind λb16=>
 qT (D.bool b16) λb17=>
(if b17 then(some true) else(qP a1 [3] λl19=>
 D.truth (D.bool (!(D.beq (Jn (l19.length)) (Jn (l3.length))))))).bind λb20=>
 qT (D.bool b20) λb21=>
(if b21 then(some true) else(qP a1 [5] λl23=>
 qP a0 [4] λl25=>
 D.truth (D.bool (!(D.beq (Jn (l23.length)) (Jn (l25.length))))))).bind λb26=>
 qT (D.bool b26) λb27=>
 if b27 then(some (D.bool false)) else((qZ lp (λv28=>
 qC .lss (gx v28 0) (Jn (l3.length)) λb30=>
 if b30 then(qY a1 [1] (gx v28 0) λx34=>
(c 308 [x34]).bind λr35=>
 qT (D.bool (!(D.beq r35 (Jn 0)))) λb36=>
(if b36 then(some true) else(qY a1 [2] (gx v28 0) λx40=>
(c 327 [x40]).bind λr41=>
(D.un .not r41).bind λx42=>
 D.truth x42)).bind λb43=>
 qT (D.bool b43) λb44=>
(if b44 then(some true) else(qY a1 [3] (gx v28 0) λx48=>
(c 327 [x48]).bind λr49=>
(D.un .not r49).bind λx50=>
 D.truth x50)).bind λb51=>
 qT (D.bool b51) λb52=>
 if b52 then(iR (0,[(D.bool false)])) else(qB .add (gx v28 0) (Jn 1) λx53=>
 iL [x53])) else(iR (1,[]))) [(Jn 0)]).bind λr54=>
 if r54.1=0 then(some (gx r54.2 0)) else((qZ lp (λv55=>
 qM a0 [4] (gx v55 0) λb59=>
 if b59 then(qY a1 [5] (gx v55 0) λx63=>
 qT x63 λb64=>
(if b64 then(qG a1 [0] λx65=>
 qY a0 [4] (gx v55 0) λx69=>
(D.fld x69 0).bind λx70=>
 qB .sub x70 (Jn 1) λx71=>
 qX x65 x71 λx74=>
(D.un .not x74).bind λx75=>
 D.truth x75) else(some false)).bind λb76=>
 qT (D.bool b76) λb77=>
 if b77 then(iR (0,[(D.bool false)])) else(qB .add (gx v55 0) (Jn 1) λx78=>
 iL [x78])) else(iR (1,[]))) [(Jn 0)]).bind λr79=>
 if r79.1=0 then(some (gx r79.2 0)) else(some (D.bool true))))
def S7{lp}(hlp:ap lp):ai 315 (m2 (Ip lp)):=aR 0 Tryz.f18 QO hlp
def QP:Ann:=let o0:LO:=[(4100,.one aY (.dv aY)),(16386,.keep nj 1),(16387,.keep ja 2),(45058,.one jD (.ow aY)),(53248,.lp none 0)]
 (.tl (.two (.regI [] 6 (.tl (.two (.tl (.two (.regI [] 3 (.two (.tl (.two (.tl (.two (.two (.tl (.two (.loop ⟨[(0,.same (.yld 53248)),(1,.sp nj 16386),(2,.sp ja 16387),(11,.di)],o0,[9,10]⟩ [(.exit 0,⟨[(0,.same (.yld 53248)),(1,.sp nj 16386),(2,.sp ja 16387)],o0,[]⟩)] (.tl (.tl (.two (.two (.tl (.two (.regI [] 38 .leaf) .leaf)) .leaf) .leaf)))) .leaf)) (.tl (.two (.loop ⟨[(0,.same (.yld 53248)),(2,.sp ja 16387),(58,.di)],[(4100,.one aY (.dv aY)),(16387,.keep ja 2),(45058,.one jD (.ow aY)),(53248,.lp none 0)],[56,57]⟩ [(.exit 2,⟨[(0,.same (.yld 53248))],[(4100,.one aY (.dv aY)),(45058,.one jD (.ow aY)),(53248,.lp none 0)],[]⟩)] (.tl (.tl (.two (.two (.tl (.two (.regI [] 25 .leaf) .leaf)) .leaf) .leaf)))) .leaf))) .leaf)) .leaf)) .leaf)) .leaf)) .leaf))) .leaf))
def Iq(lp:Lp)(c:Ca)(a0:D)(a1:D):Option D:=
 qG a0 [2] λx1=>
 qS x1 λl2=>
(qZ lp (λv3=>
 qC .lss (gx v3 0) (Jn (l2.length)) λb5=>
 if b5 then(qX x1 (gx v3 0) λx8=>
 qY a1 [0] (gx v3 0) λx12=>
 qT x12 λb13=>
 if b13 then(qG x8 [1] λx14=>
 qY a1 [2] (gx v3 0) λx18=>
 qY a1 [3] (gx v3 0) λx22=>
(c 309 [x14,x18,x22]).bind λr23=>
 if List.length (qV v3 2)+List.length [r23]<=1073741824 then(qG x8 [1] λx24=>
 qG a0 [0] λx25=>
 qY a1 [1] (gx v3 0) λx29=>
(c 313 [x24,x25,x29]).bind λr30=>
 if List.length ((qV v3 2)++[r23])+List.length [r30]<=1073741824 then(qB .add (gx v3 0) (Jn 1) λx31=>
 iL [x31,(gx v3 1),(D.sl (((qV v3 2)++[r23])++[r30]))]) else none) else none) else(qB .add (gx v3 0) (Jn 1) λx32=>
 iL [x32,(gx v3 1),(qW v3 2)])) else(iR (0,[(gx v3 1),(qW v3 2)]))) [(Jn 0),(D.st [(D.st [(D.bool false),(D.bool false),(aB bc)]),(D.st [(D.bool false),(D.bool false),(aB bc)])]),(D.sl [])]).bind λr33=>
 qG a0 [4] λx34=>
 qS x34 λl35=>
(qZ lp (λv36=>
 qC .lss (gx v36 0) (Jn (l35.length)) λb38=>
 if b38 then(qX x34 (gx v36 0) λx41=>
 qY a1 [5] (gx v36 0) λx45=>
 qT x45 λb46=>
 if b46 then(qG x41 [2,0] λx47=>
 qG a1 [1] λx48=>
 qG x41 [0] λx49=>
 qB .sub x49 (Jn 1) λx50=>
 qX x48 x50 λx53=>
 qG x41 [1] λx54=>
(c 359 [x53,x54]).bind λr55=>
(c 72 [x47,r55]).bind λr56=>
(c 357 [r56]).bind λr57=>
 if List.length (qV v36 2)+List.length [r57]<=1073741824 then(qB .add (gx v36 0) (Jn 1) λx58=>
 iL [x58,(gx v36 1),(D.sl ((qV v36 2)++[r57]))]) else none) else(qB .add (gx v36 0) (Jn 1) λx59=>
 iL [x59,(gx v36 1),(qW v36 2)])) else(iR (0,[(gx v36 1),(qW v36 2)]))) [(Jn 0),(gx r33.2 0),(qW r33.2 1)]).bind λr60=>
(c 334 [(qW r60.2 1)]).bind λr61=>
 some r61
def S8{lp}(hlp:ap lp):ai 316 (m2 (Iq lp)):=aR 0 Tryz.f19 QP hlp
def QQ:Ann:=(.tl (.two (.reg [] 7) .leaf))
def Ir(lp:Lp)(c:Ca)(a0:D)(a1:D)(a2:D):Option D:=
(c 316 [a0,a2]).bind λr1=>
(c 316 [a0,a1]).bind λr2=>
(c 336 [r1,r2]).bind λr3=>
 some r3
def S9{lp}(hlp:ap lp):ai 318 (m3 (Ir lp)):=kY 0 Tryz.f21 QQ hlp
def Is(lp:Lp)(c:Ca)(a0:D)(a1:D)(a2:D):Option D:=
 qG a1 [0] λx1=>
 qG a2 [0] λx2=>
(c 341 [x1,x2]).bind λr3=>
 qN r3 λb5=>
(if b5 then(some true) else(qG a1 [4] λx6=>
 qG a2 [4] λx7=>
(c 341 [x6,x7]).bind λr8=>
(D.un .not r8).bind λx9=>
 D.truth x9)).bind λb10=>
 qT (D.bool b10) λb11=>
(if b11 then(some true) else(qG a1 [5] λx12=>
 qG a2 [5] λx13=>
(c 341 [x12,x13]).bind λr14=>
(D.un .not r14).bind λx15=>
 D.truth x15)).bind λb16=>
 qT (D.bool b16) λb17=>
 if b17 then(some (Jn 1)) else((c 318 [a0,a1,a2]).bind λr18=>
 qG r18 [0,0] λx19=>
 qT x19 λb20=>
 if b20 then(some (Jn 30)) else((c 342 [r18]).bind λr21=>
 qC .gtr r21 (Jn 0) λb23=>
 if b23 then(some (Jn 270)) else(some (Jn 0))))
def Ta{lp}(hlp:ap lp):ai 320 (m3 (Is lp)):=kY 0 Tryz.f23 .leaf hlp
def It(lp:Lp)(c:Ca)(a0:D):Option D:=
(c 346 [a0]).bind λr1=>
 qT r1 λb2=>
(if b2 then((c 347 [a0]).bind λr3=>
 D.truth (D.bool (D.beq r3 (Jn 0)))) else(some false)).bind λb4=>
 some (D.bool b4)
def Tb{lp}(hlp:ap lp):ai 326 (m1 (It lp)):=aU 0 Tryz.f35 .leaf hlp
def QR:Ann:=(.tl (.two (.tl (.two (.loop ⟨[(1,.sp K1 4097),(3,.di)],[(4097,.keep K1 1)],[]⟩ [(.ret,⟨[(2,.dv Ty.bool)],[],[]⟩),(.exit 0,⟨[],[],[]⟩)] .leaf) .leaf)) .leaf))
def Iu(lp:Lp)(c:Ca)(a0:D):Option D:=
(qZ lp (λv1=>
 qC .lss (gx v1 0) (Jn 3) λb3=>
 if b3 then(qJ (gx v1 0) 3 a0 λx5=>
 qC .geq x5 (Jn 1099511627776) λb7=>
(if b7 then(some true) else(qJ (gx v1 0) 3 a0 λx9=>
 qB .leq x9 (Jn (-1099511627776)) λx10=>
 D.truth x10)).bind λb11=>
 qT (D.bool b11) λb12=>
 if b12 then(iR (0,[(D.bool false)])) else(qB .add (gx v1 0) (Jn 1) λx13=>
 iL [x13])) else(iR (1,[]))) [(Jn 0)]).bind λr14=>
 if r14.1=0 then(some (gx r14.2 0)) else(some (D.bool true))
def Tc{lp}(hlp:ap lp):ai 327 (m1 (Iu lp)):=aU 0 Tryz.f36 QR hlp
def Nm:Ann:=let o0:LO:=[(4096,.one iZ (.st [Ty.str,PM,K8,K8] [.dv Ty.str,.ow K3,.dv K8,.dv K8]))]
 (.tl (.tl (.two (.tl (.two (.loop ⟨[(0,.sp iZ 4096),(1,.ow K1),(2,.di)],o0,[]⟩ [(.exit 0,⟨[(0,.sp iZ 4096),(1,.ow K1)],o0,[]⟩)] .leaf) .leaf)) .leaf)))
def Td{lp}(hlp:ap lp):ai 328 (mX 0 lp 328 Tryz.f37 Nm):=gb hlp (by kernel_rfl) (by kernel_rfl)
def Te{lp}(hlp:ap lp):ai 329 (mX 0 lp 329 Tryz.f38 .leaf):=gb hlp (by kernel_rfl) (by kernel_rfl)
end Sy
end
end
noncomputable section
set_option maxHeartbeats 0
noncomputable section
namespace Sy
open Go Go.Proofs
def tJ(lp:Lp)(h:List D->Option D)(a0 a1 xr xc:D):Option (Nat×List D):=
 lp (β:=Nat×List D) (λv1=>
 qC .lss (gx v1 0) xr λb3=>
 if b3 then((qZ lp (λv4=>
 qC .lss (gx v4 0) xc λb6=>
 if b6 then((h [(gx v1 0),(gx v4 0),(gx v4 1),(gx v4 2)]).bind λr7=>
 if List.length (qV v4 11)+List.length [r7]<=1073741824 then(qB .add (gx v4 0) (Jn 1) λx8=>
 iL [x8,(gx v4 1),(gx v4 2),(gx v4 3),(gx v4 4),(qW v4 5),(gx v4 6),(gx v4 7),(qW v4 8),(gx v4 9),(gx v4 10),(D.sl ((qV v4 11)++[r7]))]) else none) else(iR (0,[(gx v4 1),(gx v4 2),(gx v4 3),(gx v4 4),(qW v4 5),(gx v4 6),(gx v4 7),(qW v4 8),(gx v4 9),(gx v4 10),(qW v4 11)]))) [(Jn 0),(gx v1 1),(gx v1 2),(gx v1 3),(gx v1 4),(qW v1 5),(gx v1 6),(gx v1 7),(qW v1 8),(gx v1 9),(gx v1 10),(qW v1 11)]).bind λr9=>
 qB .add (gx v1 0) (Jn 1) λx10=>
 iL [x10,(gx r9.2 0),(gx r9.2 1),(gx r9.2 2),(gx r9.2 3),(qW r9.2 4),(gx r9.2 5),(gx r9.2 6),(qW r9.2 7),(gx r9.2 8),(gx r9.2 9),(qW r9.2 10)]) else(iR (0,[(gx v1 3),(gx v1 4),(qW v1 5),(gx v1 6),(gx v1 7),(qW v1 8),(gx v1 9),(gx v1 10),(qW v1 11)]))) [(Jn 0),a0,a1,(Jn 0),(Jn 0),(D.sl []),(Jn 0),(Jn 0),(D.sl []),xr,xc,(D.sl [])]
def JZ(lp:Lp)(call:Ca)(fl c1 c2 m d p:D):Option (Nat×List D):=
(qZ lp (λv43=>
 qL (gx v43 0) (gx v43 3) λb46=>
 if b46 then(qX (gx v43 0) (gx v43 3) λx49=>
(D.fld x49 0).bind λx50=>
(call 105 [(gx v43 7),x50]).bind λr51=>
(qN (gx v43 2) λb53=>
(if b53 then(D.truth r51) else(some false)).bind λb54=>
 qT (D.bool b54) λb55=>
 if b55 then(if List.length (qV v43 1)+List.length [(D.st [(gx v43 7),(gx v43 8),(gx v43 9)])]<=1073741824 then(some (0,[(D.sl ((qV v43 1)++[(D.st [(gx v43 7),(gx v43 8),(gx v43 9)])])),(D.bool true),(gx v43 4),(gx v43 5),(gx v43 6),(gx v43 7),(gx v43 8),(gx v43 9)])) else none) else(some (0,[(qW v43 1),(gx v43 2),(gx v43 4),(gx v43 5),(gx v43 6),(gx v43 7),(gx v43 8),(gx v43 9)]))).bind λ(r56:Nat×List D)=>
 qX (gx v43 0) (gx v43 3) λx59=>
 if List.length (qV r56.2 0)+List.length [x59]<=1073741824 then(qB .add (gx v43 3) (Jn 1) λx60=>
 iL [(gx v43 0),(D.sl ((qV r56.2 0)++[x59])),(gx r56.2 1),x60,(gx r56.2 2),(gx r56.2 3),(gx r56.2 4),(gx r56.2 5),(gx r56.2 6),(gx r56.2 7)]) else none) else(iR (0,[(qW v43 1),(gx v43 2),(gx v43 4),(gx v43 5),(gx v43 6),(gx v43 7),(gx v43 8),(gx v43 9)]))) [fl,(D.sl []),(D.bool false),(Jn 0),c1,c2,m,m,d,p]).bind λr61=>
(qN (gx r61.2 1) λb63=>
 if b63 then(if List.length (qV r61.2 0)+List.length [(D.st [(gx r61.2 5),(gx r61.2 6),(gx r61.2 7)])]<=1073741824 then(some (0,[(D.sl ((qV r61.2 0)++[(D.st [(gx r61.2 5),(gx r61.2 6),(gx r61.2 7)])])),(gx r61.2 2),(gx r61.2 3),(gx r61.2 4)])) else none) else(some (0,[(qW r61.2 0),(gx r61.2 2),(gx r61.2 3),(gx r61.2 4)]))).bind λ(r64:Nat×List D)=>
 some (0,[(qW r64.2 0),(gx r64.2 1),(gx r64.2 2)])
def JQ(lp:Lp)(call:Ca)(x1 c1 c2:D):Option (Nat×List D):=
 lp (β:=Nat×List D) (λv2=>
 qL x1 (gx v2 1) λb5=>
 if b5 then(qB .add (gx v2 1) (Jn 1) λx6=>
(qZ lp (λv7=>
 qL x1 (gx v7 1) λb10=>
 if b10 then(qB .add (gx v7 1) (Jn 1) λx11=>
(qZ lp (λv12=>
 qL x1 (gx v12 1) λb15=>
 if b15 then(qX x1 (gx v2 1) λx18=>
 qX x1 (gx v7 1) λx21=>
 qX x1 (gx v12 1) λx24=>
(call 106 [x18,x21,x24]).bind λr25=>
(qZ lp (λv26=>
 qC .lss (gx v26 1) (Jn 2) λb28=>
 if b28 then(qX x1 (gx v2 1) λx31=>
(call 107 [(gx v26 4),x31]).bind λr32=>
(call 108 [(qW v26 0),(gx v26 4)]).bind λr33=>
(qN r33 λb35=>
(if b35 then((D.un .not (D.bool (D.beq (gx v26 4) (D.st [(Jn 0),(Jn 0),(Jn 0)])))).bind λx36=>
 D.truth x36) else(some false)).bind λb37=>
 qT (D.bool b37) λb38=>
(if b38 then((call 109 [x1,(gx v26 4),r32]).bind λr39=>
 D.truth r39) else(some false)).bind λb40=>
 qT (D.bool b40) λb41=>
 if b41 then((call 111 [x1,(gx v26 4),r32]).bind λr42=>
 JZ lp call (qW v26 0) (gx v26 2) (gx v26 3) (gx v26 4) r32 r42) else(some (0,[(qW v26 0),(gx v26 2),(gx v26 3)]))).bind λ(r65:Nat×List D)=>
(call 112 [(D.st [(Jn 0),(Jn 0),(Jn 0)]),(gx v26 4)]).bind λr66=>
 qB .add (gx v26 1) (Jn 1) λx67=>
 iL [(qW r65.2 0),x67,(gx r65.2 1),(gx r65.2 2),r66]) else(iR (0,[(qW v26 0),(gx v26 2),(gx v26 3)]))) [(qW v12 0),(Jn 0),(gx v12 2),(gx v12 3),r25]).bind λr68=>
 qB .add (gx v12 1) (Jn 1) λx69=>
 iL [(qW r68.2 0),x69,(gx r68.2 1),(gx r68.2 2)]) else(iR (0,[(qW v12 0),(gx v12 2),(gx v12 3)]))) [(qW v7 0),x11,(gx v7 2),(gx v7 3)]).bind λr70=>
 qB .add (gx v7 1) (Jn 1) λx71=>
 iL [(qW r70.2 0),x71,(gx r70.2 1),(gx r70.2 2)]) else(iR (0,[(qW v7 0),(gx v7 2),(gx v7 3)]))) [(qW v2 0),x6,(gx v2 2),(gx v2 3)]).bind λr72=>
 qB .add (gx v2 1) (Jn 1) λx73=>
 iL [(qW r72.2 0),x73,(gx r72.2 1),(gx r72.2 2)]) else(iR (0,[(qW v2 0),(gx v2 2),(gx v2 3)]))) [(D.sl []),(Jn 0),c1,c2]
end Sy
end
end
noncomputable section
set_option maxHeartbeats 0
noncomputable section
namespace Sy
open Go Go.Proofs
def Nn:Ann:=(.tl (.two (.reg [] 8) .leaf))
def Tf{lp}(hlp:ap lp):ai 330 (mX 0 lp 330 Tryz.f39 Nn):=gb hlp (by kernel_rfl) (by kernel_rfl)
def Iv(lp:Lp)(c:Ca)(a0:D):Option D:=
(c 348 [a0]).bind λr1=>
 qN r1 λb3=>
 if b3 then(some (D.bool false)) else((c 349 [a0]).bind λr4=>
(D.tupAt r4 0).bind λx5=>
(D.tupAt r4 1).bind λx6=>
 qT x6 λb7=>
(if b7 then(D.truth (D.bool (D.beq x5 a0))) else(some false)).bind λb8=>
 some (D.bool b8))
def Tg{lp}(hlp:ap lp):ai 331 (m1 (Iv lp)):=aU 0 Tryz.f40 .leaf hlp
def QS:Ann:=let o0:LO:=[(4098,.keep iZ 2),(4099,.keep aY 3),(4100,.one bX (.st [Ti,Ti,jD] [.di,.di,.ow aY])),(8197,.one bX (.dv bX))]
 let o1:LS:=[(2,.sp iZ 4098),(3,.sp aY 4099),(4,.sp bX 4100),(5,.sp bX 8197)]
 let o2:LO:=[(4100,.one bX (.st [Ti,Ti,jD] [.di,.di,.ow aY]))]
 (.tl (.tl (.two (.tl (.two (.loop ⟨[(2,.sp iZ 4098),(3,.sp aY 4099),(4,.sp bX 4100),(5,.sp bX 8197),(14,.di)],o0,[12,13]⟩ [(.ret,⟨[(4,.sp bX 4100)],o2,[]⟩),(.exit 0,⟨o1,o0,[]⟩)] (.tl (.tl (.cut [(.normal,⟨o1,o0,[12,13,14]⟩),(.ret,⟨[(4,.sp bX 4100)],o2,[]⟩)] [12,13,14] [4098,4099] (.two (.tl (.tl (.tl (.two (.reg [] 7) .leaf)))) .leaf) .leaf)))) .leaf)) (.two (.reg [] 13) .leaf))))
def Iw(lp:Lp)(c:Ca)(a0:D)(a1:D):Option D:=
 qG a0 [1] λx1=>
 qS x1 λl2=>
(qZ lp (λv3=>
 qC .lss (gx v3 0) (Jn (l2.length)) λb5=>
 if b5 then((qX x1 (gx v3 0) λx8=>
 qT (D.bool (D.beq (gx v3 0) (Jn 0))) λb9=>
 if b9 then((c 28 [x8]).bind λr10=>
 some (0,[(gx v3 1),(gx v3 2),(qW v3 3),r10])) else((c 28 [x8]).bind λr11=>
(c 350 [(gx v3 4),r11]).bind λr12=>
(D.tupAt r12 0).bind λx13=>
(D.tupAt r12 1).bind λx14=>
 qT (D.bool (!(D.beq x14 (Jn 0)))) λb15=>
 if b15 then(some (1,[(Jn 0),(Jn 0),(D.sl [])])) else(some (0,[(gx v3 1),(gx v3 2),(qW v3 3),x13])))).bind λ(r16:Nat×List D)=>
 if r16.1=0 then(qB .add (gx v3 0) (Jn 1) λx17=>
 iL [x17,(gx r16.2 0),(gx r16.2 1),(qW r16.2 2),(gx r16.2 3)]) else(iR (0,[(gx r16.2 0),(gx r16.2 1),(qW r16.2 2)]))) else(iR (1,[(gx v3 1),(gx v3 2),(qW v3 3),(gx v3 4)]))) [(Jn 0),(Jn 0),(Jn 0),(D.sl []),(D.st [(Jn 0),(Jn 0),(D.sl [])])]).bind λr18=>
 if r18.1=0 then(some (D.st [(gx r18.2 0),(gx r18.2 1),(qW r18.2 2)])) else((c 74 [(Jn 6)]).bind λr19=>
(c 174 [r19,a1]).bind λr20=>
(c 353 [a0]).bind λr21=>
(c 138 [r21]).bind λr22=>
(c 352 [r20,r22]).bind λr23=>
(c 351 [(gx r18.2 3),r23]).bind λr24=>
(D.tupAt r24 0).bind λx25=>
(D.tupAt r24 1).bind λx26=>
 some x25)
def Th{lp}(hlp:ap lp):ai 332 (m2 (Iw lp)):=aR 0 Tryz.f42 QS hlp
def EO(lp:Lp)(c:Ca)(a0:D)(a1:D):Option D:=
(c 54 [a0]).bind λr1=>
(c 54 [a1]).bind λr2=>
(c 62 [r1,r2]).bind λr3=>
 some r3
def Tj{lp}(hlp:ap lp):ai 333 (m2 (EO lp)):=aR 0 Tryz.f47 .leaf hlp
def QT:Ann:=let o0:LO:=[(4098,.keep aY 2),(8195,.one aY (.dv aY))]
 (.tl (.tl (.two (.tl (.two (.loop ⟨[(2,.sp aY 4098),(3,.sp aY 8195),(9,.di)],o0,[7,8]⟩ [(.exit 0,⟨[(2,.sp aY 4098),(3,.sp aY 8195)],o0,[]⟩)] .leaf) .leaf)) .leaf)))
def Ix(lp:Lp)(c:Ca)(a0:D):Option D:=
(c 74 [(Jn 0)]).bind λr1=>
 qS a0 λl2=>
(qZ lp (λv3=>
 qC .lss (gx v3 0) (Jn (l2.length)) λb5=>
 if b5 then(qX a0 (gx v3 0) λx8=>
(c 173 [(gx v3 1),x8]).bind λr9=>
 qB .add (gx v3 0) (Jn 1) λx10=>
 iL [x10,r9]) else(iR (0,[(gx v3 1)]))) [(Jn 0),r1]).bind λr11=>
 some (gx r11.2 0)
def Tk{lp}(hlp:ap lp):ai 334 (m1 (Ix lp)):=aU 0 Tryz.f48 QT hlp
def QU:Ann:=(.tl (.two (.reg [] 4) .leaf))
def Iy(lp:Lp)(c:Ca)(a0:D)(a1:D):Option D:=
(c 357 [a1]).bind λr1=>
(c 173 [a0,r1]).bind λr2=>
 some r2
def Tl{lp}(hlp:ap lp):ai 336 (m2 (Iy lp)):=aR 0 Tryz.f54 QU hlp
def Tm{lp}(hlp:ap lp):ai 337 (mX 0 lp 337 Tryz.f56 .leaf):=gb hlp (by kernel_rfl) (by kernel_rfl)
def QV:Ann:=(.tl (.tl (.two (.tl (.two (.loop ⟨[(1,.sp nj 4097),(3,.di)],[(4097,.keep nj 1)],[]⟩ [(.ret,⟨[(2,.dv Ty.bool)],[],[]⟩),(.exit 0,⟨[(1,.sp nj 4097)],[(4097,.keep nj 1)],[]⟩)] .leaf) .leaf)) (.two (.tl (.two (.loop ⟨[(1,.sp nj 4097),(5,.di)],[(4097,.keep nj 1)],[]⟩ [(.ret,⟨[(2,.dv Ty.bool)],[],[]⟩),(.exit 2,⟨[],[],[]⟩)] .leaf) .leaf)) .leaf))))
def Iz(lp:Lp)(c:Ca)(a0:D):Option D:=
 qP a0 [2] λl2=>
 qC .gtr (Jn (l2.length)) (Jn 6) λb4=>
(if b4 then(some true) else(qP a0 [4] λl6=>
 qB .gtr (Jn (l6.length)) (Jn 16) λx7=>
 D.truth x7)).bind λb8=>
 qT (D.bool b8) λb9=>
(if b9 then(some true) else(qG a0 [0] λx10=>
 qB .lss x10 (Jn 0) λx11=>
 D.truth x11)).bind λb12=>
 qT (D.bool b12) λb13=>
(if b13 then(some true) else(qG a0 [0] λx14=>
 qB .gtr x14 (Jn 1048576) λx15=>
 D.truth x15)).bind λb16=>
 qT (D.bool b16) λb17=>
 if b17 then(some (D.bool false)) else((qZ lp (λv18=>
 qM a0 [2] (gx v18 0) λb22=>
 if b22 then(qY a0 [2] (gx v18 0) λx26=>
(D.fld x26 1).bind λx27=>
(c 326 [x27]).bind λr28=>
 qN r28 λb30=>
 if b30 then(iR (0,[(D.bool false)])) else(qB .add (gx v18 0) (Jn 1) λx31=>
 iL [x31])) else(iR (1,[]))) [(Jn 0)]).bind λr32=>
 if r32.1=0 then(some (gx r32.2 0)) else((qZ lp (λv33=>
 qM a0 [4] (gx v33 0) λb37=>
 if b37 then(qY a0 [4] (gx v33 0) λx41=>
 qG x41 [0] λx42=>
 qC .lss x42 (Jn 1) λb44=>
(if b44 then(some true) else(qG x41 [0] λx45=>
 qP a0 [2] λl47=>
 qB .gtr x45 (Jn (l47.length)) λx48=>
 D.truth x48)).bind λb49=>
 qT (D.bool b49) λb50=>
(if b50 then(some true) else(qG x41 [1] λx51=>
(c 358 [x51,(Jn 4096)]).bind λr52=>
(D.un .not r52).bind λx53=>
 D.truth x53)).bind λb54=>
 qT (D.bool b54) λb55=>
(if b55 then(some true) else(qG x41 [2,0] λx56=>
(c 358 [x56,(Jn 1099511627776)]).bind λr57=>
(D.un .not r57).bind λx58=>
 D.truth x58)).bind λb59=>
 qT (D.bool b59) λb60=>
(if b60 then(some true) else(qG x41 [2,1] λx61=>
(c 358 [x61,(Jn 1099511627776)]).bind λr62=>
(D.un .not r62).bind λx63=>
 D.truth x63)).bind λb64=>
 qT (D.bool b64) λb65=>
 if b65 then(iR (0,[(D.bool false)])) else(qB .add (gx v33 0) (Jn 1) λx66=>
 iL [x66])) else(iR (1,[]))) [(Jn 0)]).bind λr67=>
 if r67.1=0 then(some (gx r67.2 0)) else(some (D.bool true))))
def Tn{lp}(hlp:ap lp):ai 338 (m1 (Iz lp)):=aU 0 Tryz.f57 QV hlp
def QW:Ann:=(.tl (.tl (.two (.tl (.two (.loop ⟨[(13,.di)],[],[0,1,12]⟩ [(.ret,⟨[(4,.dv Ty.bool)],[],[]⟩),(.exit 0,⟨[],[],[]⟩)] (.tl (.tl (.two (.two (.tl (.two (.reg [] 8) .leaf)) .leaf) .leaf)))) .leaf)) .leaf)))
def IA(lp:Lp)(c:Ca)(a0:D)(a1:D):Option D:=
 qS a0 λl1=>
 qS a1 λl2=>
 qT (D.bool (!(D.beq (Jn (l1.length)) (Jn (l2.length))))) λb3=>
 if b3 then(some (D.bool false)) else(qS a0 λl4=>
(qZ lp (λv5=>
 qC .lss (gx v5 0) (Jn (l4.length)) λb7=>
 if b7 then(qX a0 (gx v5 0) λx10=>
 qX a1 (gx v5 0) λx13=>
 qT (D.bool (!(D.beq x10 x13))) λb14=>
 if b14 then(iR (0,[(D.bool false)])) else(qB .add (gx v5 0) (Jn 1) λx15=>
 iL [x15])) else(iR (1,[]))) [(Jn 0)]).bind λr16=>
 if r16.1=0 then(some (gx r16.2 0)) else(some (D.bool true)))
def To{lp}(hlp:ap lp):ai 341 (m2 (IA lp)):=aR 0 Tryz.f62 QW hlp
def IB(lp:Lp)(c:Ca)(a0:D):Option D:=
(c 136 [a0]).bind λr1=>
 qN r1 λb3=>
 if b3 then(some (Jn 0)) else(qG a0 [0] λx4=>
(c 129 [x4]).bind λr5=>
 some r5)
def Tp{lp}(hlp:ap lp):ai 342 (m1 (IB lp)):=aU 0 Tryz.f63 .leaf hlp
def QX:Ann:=(.tl (.two (.tl (.two (.loop ⟨[(1,.sp iZ 4097),(3,.di)],[(4097,.keep iZ 1)],[]⟩ [(.ret,⟨[(2,.dv Ty.bool)],[],[]⟩),(.exit 0,⟨[(1,.sp iZ 4097)],[(4097,.keep iZ 1)],[]⟩)] .leaf) .leaf)) .leaf))
def IC(lp:Lp)(c:Ca)(a0:D):Option D:=
(qZ lp (λv1=>
 qM a0 [1] (gx v1 0) λb5=>
 if b5 then(qY a0 [1] (gx v1 0) λx9=>
(D.fld x9 0).bind λx10=>
 qS x10 λl11=>
 qC .gtr (Jn (l11.length)) (Jn 10) λb13=>
 if b13 then(iR (0,[(D.bool false)])) else(qB .add (gx v1 0) (Jn 1) λx14=>
 iL [x14])) else(iR (1,[]))) [(Jn 0)]).bind λr15=>
 if r15.1=0 then(some (gx r15.2 0)) else(qP a0 [1] λl17=>
 qB .leq (Jn (l17.length)) (Jn 3) λx18=>
 some x18)
def Tq{lp}(hlp:ap lp):ai 346 (m1 (IC lp)):=aU 0 Tryz.f78 QX hlp
def QY:Ann:=(.tl (.tl (.tl (.tl (.two (.tl (.two (.loop ⟨[(1,.sp iZ 4097),(3,.di)],[(4097,.keep iZ 1)],[]⟩ [(.ret,⟨[(2,.di)],[],[]⟩),(.exit 0,⟨[(1,.sp iZ 4097)],[(4097,.keep iZ 1)],[]⟩)] .leaf) .leaf)) (.two (.tl (.two (.loop ⟨[(1,.sp iZ 4097),(5,.di)],[(4097,.keep iZ 1)],[]⟩ [(.ret,⟨[(2,.di)],[],[]⟩),(.exit 2,⟨[],[],[]⟩)] (.tl (.two (.two (.tl (.two (.loop ⟨[(1,.sp iZ 4097),(6,.di)],[(4097,.keep iZ 1)],[5]⟩ [(.ret,⟨[(2,.di)],[],[]⟩),(.exit 4,⟨[(1,.sp iZ 4097)],[(4097,.keep iZ 1)],[5]⟩)] (.tl (.two (.two (.two (.reg [] 11) .leaf) .leaf) .leaf))) .leaf)) .leaf) .leaf))) .leaf)) .leaf))))))
def ID(lp:Lp)(c:Ca)(a0:D):Option D:=
 qG a0 [0] λx1=>
(c 361 [x1]).bind λr2=>
 qN r2 λb4=>
 if b4 then(some (Jn 5)) else(qP a0 [1] λl6=>
 qC .lss (Jn (l6.length)) (Jn 1) λb8=>
(if b8 then(some true) else(qP a0 [1] λl10=>
 qB .gtr (Jn (l10.length)) (Jn 8) λx11=>
 D.truth x11)).bind λb12=>
 qT (D.bool b12) λb13=>
 if b13 then(some (Jn 2)) else(qG a0 [2,0] λx14=>
 qC .lss x14 (Jn 1) λb16=>
(if b16 then(some true) else(qG a0 [2,1] λx17=>
 qG a0 [2,0] λx18=>
 qB .lss x17 x18 λx19=>
 D.truth x19)).bind λb20=>
 qT (D.bool b20) λb21=>
(if b21 then(some true) else(qG a0 [2,1] λx22=>
 qB .gtr x22 (Jn 1099511627776) λx23=>
 D.truth x23)).bind λb24=>
 qT (D.bool b24) λb25=>
(if b25 then(some true) else(qG a0 [3,0] λx26=>
 qB .lss x26 (Jn 0) λx27=>
 D.truth x27)).bind λb28=>
 qT (D.bool b28) λb29=>
(if b29 then(some true) else(qG a0 [3,1] λx30=>
 qG a0 [3,0] λx31=>
 qB .lss x30 x31 λx32=>
 D.truth x32)).bind λb33=>
 qT (D.bool b33) λb34=>
(if b34 then(some true) else(qG a0 [3,1] λx35=>
 qB .gtr x35 (Jn 4000) λx36=>
 D.truth x36)).bind λb37=>
 qT (D.bool b37) λb38=>
 if b38 then(some (Jn 1)) else((qZ lp (λv39=>
 qM a0 [1] (gx v39 0) λb43=>
 if b43 then(qY a0 [1] (gx v39 0) λx47=>
(c 15 [x47]).bind λr48=>
 qT (D.bool (!(D.beq r48 (Jn 0)))) λb49=>
 if b49 then(iR (0,[r48])) else(qY a0 [1] (gx v39 0) λx53=>
(c 362 [x53]).bind λr54=>
 qN r54 λb56=>
 if b56 then(iR (0,[(Jn 1)])) else(qB .add (gx v39 0) (Jn 1) λx57=>
 iL [x57]))) else(iR (1,[]))) [(Jn 0)]).bind λr58=>
 if r58.1=0 then(some (gx r58.2 0)) else((qZ lp (λv59=>
 qM a0 [1] (gx v59 0) λb63=>
 if b63 then((qZ lp (λv64=>
 qC .lss (gx v64 0) (gx v59 0) λb66=>
 if b66 then(qY a0 [1] (gx v64 0) λx70=>
 qY a0 [1] (gx v59 0) λx74=>
(c 363 [x70,x74]).bind λr75=>
 qN r75 λb77=>
 if b77 then(iR (0,[(Jn 150)])) else(qB .add (gx v64 0) (Jn 1) λx78=>
 iL [x78])) else(iR (1,[]))) [(Jn 0)]).bind λr79=>
 if r79.1=0 then(iR (0,[(gx r79.2 0)])) else(qB .add (gx v59 0) (Jn 1) λx80=>
 iL [x80])) else(iR (1,[]))) [(Jn 0)]).bind λr81=>
 if r81.1=0 then(some (gx r81.2 0)) else(some (Jn 0))))))
def Tr{lp}(hlp:ap lp):ai 347 (m1 (ID lp)):=aU 0 Tryz.f79 QY hlp
def QZ:Ann:=(.tl (.two (.tl (.two (.loop ⟨[(1,.sp ph 4097),(3,.di)],[(4097,.keep ph 1)],[]⟩ [(.ret,⟨[(2,.dv Ty.bool)],[],[]⟩),(.exit 0,⟨[],[],[]⟩)] .leaf) .leaf)) .leaf))
def IE(lp:Lp)(c:Ca)(a0:D):Option D:=
(qZ lp (λv1=>
 qC .lss (gx v1 0) (Jn 4) λb3=>
 if b3 then(qJ (gx v1 0) 4 a0 λx5=>
 qC .gtr x5 (Jn 64) λb7=>
(if b7 then(some true) else(qJ (gx v1 0) 4 a0 λx9=>
 qB .lss x9 (Jn (-64)) λx10=>
 D.truth x10)).bind λb11=>
 qT (D.bool b11) λb12=>
 if b12 then(iR (0,[(D.bool false)])) else(qB .add (gx v1 0) (Jn 1) λx13=>
 iL [x13])) else(iR (1,[]))) [(Jn 0)]).bind λr14=>
 if r14.1=0 then(some (gx r14.2 0)) else(some (D.bool true))
def Tt{lp}(hlp:ap lp):ai 348 (m1 (IE lp)):=aU 0 Tryz.f80 QZ hlp
def Q0:Ann:=let o0:LO:=[(4097,.keep ph 1),(4098,.keep ph 2)]
 let o1:LS:=[(1,.sp ph 4097),(2,.sp ph 4098),(4,.di),(5,.di)]
 (.tl (.tl (.tl (.two (.tl (.two (.loop ⟨[(1,.sp ph 4097),(2,.sp ph 4098),(4,.di),(5,.di),(6,.di)],o0,[]⟩ [(.exit 0,⟨o1,o0,[]⟩)] (.tl (.cut [(.normal,⟨o1,o0,[6]⟩)] [6] [4097,4098] .leaf .leaf))) .leaf)) (.tl (.tl (.two (.reg [] 17) .leaf)))))))
def IF(lp:Lp)(c:Ca)(a0:D):Option D:=
(qZ lp (λv1=>
 qC .geq (gx v1 2) (Jn 0) λb3=>
 if b3 then((qJ (gx v1 2) 4 a0 λx5=>
(c 364 [(gx v1 0),x5]).bind λr6=>
 qJ (gx v1 2) 4 a0 λx8=>
 qT (D.bool (!(D.beq x8 (Jn 0)))) λb9=>
 if b9 then(qJ (gx v1 2) 4 a0 λx11=>
(c 365 [x11]).bind λr12=>
 some (0,[r6,r12])) else(some (0,[r6,(gx v1 1)]))).bind λ(r13:Nat×List D)=>
 qB .sub (gx v1 2) (Jn 1) λx14=>
 iL [(gx r13.2 0),(gx r13.2 1),x14]) else(iR (0,[(gx v1 0),(gx v1 1)]))) [(Jn 0),(Jn 0),(Jn 3)]).bind λr15=>
(D.un .neg (gx r15.2 0)).bind λx16=>
(D.max2 (gx r15.2 0) x16).bind λx17=>
 qB .mul (gx r15.2 1) x17 λx18=>
 qT (D.bool (D.beq x18 (Jn 0))) λb19=>
 if b19 then(some (D.tup [(D.st [(Jn 0),(Jn 0),(Jn 0),(Jn 0)]),(D.bool false)])) else(qG a0 [0] λx20=>
 qB .quo x20 x18 λx21=>
 qG a0 [1] λx22=>
 qB .quo x22 x18 λx23=>
 qG a0 [2] λx24=>
 qB .quo x24 x18 λx25=>
 qG a0 [3] λx26=>
 qB .quo x26 x18 λx27=>
 some (D.tup [(D.st [x21,x23,x25,x27]),(D.bool true)]))
def Tu{lp}(hlp:ap lp):ai 349 (m1 (IF lp)):=aU 0 Tryz.f81 Q0 hlp
def Q1:Ann:=let o0:LO:=[(4098,.one bX (.dv bX)),(4099,.one bX (.dv bX)),(4100,.one bX (.st [Ti,Ti,jD] [.di,.di,.ow aY])),(20486,.one bX (.st [Ti,Ti,jD] [.di,.di,.ow aY])),(24584,.one bX (.st [Ti,Ti,jD] [.di,.di,.ow aY]))]
 (.tl (.tl (.two (.regI [] 10 (.two (.tl (.tl (.two (.tl (.two (.loop ⟨[(2,.same (.clo 139 [(.ptr bX 4098 []),(.ptr bX 4099 [])])),(6,.sp bX 20486),(8,.sp bX 24584),(15,.di)],o0,[1,14]⟩ [(.exit 0,⟨[(6,.sp bX 20486),(8,.sp bX 24584)],[(4100,.one bX (.st [Ti,Ti,jD] [.di,.di,.ow aY])),(20486,.one bX (.st [Ti,Ti,jD] [.di,.di,.ow aY])),(24584,.one bX (.st [Ti,Ti,jD] [.di,.di,.ow aY]))],[]⟩)] (.tl (.tl (.two (.two (.tl (.tl (.two (.loop ⟨[(2,.same (.clo 139 [(.ptr bX 4098 []),(.ptr bX 4099 [])])),(6,.sp bX 20486),(8,.sp bX 24584),(19,.di)],o0,[1,9,14,15,18]⟩ [(.exit 2,⟨[(2,.same (.clo 139 [(.ptr bX 4098 []),(.ptr bX 4099 [])])),(6,.sp bX 20486),(8,.sp bX 24584)],o0,[1,14,15]⟩)] (.tl (.tl (.two (.two (.tl (.reg [] 9)) .leaf) .leaf)))) .leaf))) .leaf) .leaf)))) .leaf)) .leaf))) .leaf)) .leaf)))
def IG(lp:Lp)(c:Ca)(a0:D)(a1:D):Option D:=
(c 366 [(D.sl [a0,a1])]).bind λr1=>
 qN r1 λb3=>
(if b3 then(some true) else(qG a0 [0] λx4=>
 qG a1 [0] λx5=>
 D.truth (D.bool (!(D.beq x4 x5))))).bind λb6=>
 qT (D.bool b6) λb7=>
(if b7 then(some true) else(qG a0 [1] λx8=>
 qG a1 [1] λx9=>
 D.truth (D.bool (!(D.beq x8 x9))))).bind λb10=>
 qT (D.bool b10) λb11=>
 if b11 then(some (D.tup [(D.st [(Jn 0),(Jn 0),(D.sl [])]),(Jn 1)])) else(qG a0 [0] λx12=>
 qG a0 [1] λx13=>
(tJ lp (c 407) a0 a1 x12 x13).bind λr24=>
(c 382 [(qW r24.2 8)]).bind λr25=>
 qN r25 λb27=>
 if b27 then((D.tupAt (D.tup [(D.st [(Jn 0),(Jn 0),(D.sl [])]),(Jn 30)]) 0).bind λx28=>
(D.tupAt (D.tup [(D.st [(Jn 0),(Jn 0),(D.sl [])]),(Jn 30)]) 1).bind λx29=>
 some (D.tup [x28,x29])) else((D.tupAt (D.tup [(D.st [(gx r24.2 6),(gx r24.2 7),(qW r24.2 8)]),(Jn 0)]) 0).bind λx30=>
(D.tupAt (D.tup [(D.st [(gx r24.2 6),(gx r24.2 7),(qW r24.2 8)]),(Jn 0)]) 1).bind λx31=>
 some (D.tup [x30,x31])))
def Tv{lp}(hlp:ap lp):ai 350 (m2 (IG lp)):=aR 1 Tryz.f85 Q1 hlp
end Sy
end
end
noncomputable section
set_option maxHeartbeats 0
noncomputable section
namespace Sy
open Go Go.Proofs
def Q2:Ann:=let o0:LO:=[(4098,.one bX (.dv bX)),(4099,.one aY (.dv aY)),(4100,.one bX (.st [Ti,Ti,jD] [.di,.di,.ow aY])),(20486,.one bX (.st [Ti,Ti,jD] [.di,.di,.ow aY])),(24584,.one bX (.st [Ti,Ti,jD] [.di,.di,.ow aY]))]
 (.tl (.tl (.two (.regI [] 10 (.two (.tl (.tl (.two (.tl (.two (.loop ⟨[(2,.same (.clo 141 [(.ptr bX 4098 []),(.ptr aY 4099 [])])),(6,.sp bX 20486),(8,.sp bX 24584),(15,.di)],o0,[1,14]⟩ [(.exit 0,⟨[(6,.sp bX 20486),(8,.sp bX 24584)],[(4100,.one bX (.st [Ti,Ti,jD] [.di,.di,.ow aY])),(20486,.one bX (.st [Ti,Ti,jD] [.di,.di,.ow aY])),(24584,.one bX (.st [Ti,Ti,jD] [.di,.di,.ow aY]))],[]⟩)] (.tl (.tl (.two (.two (.tl (.tl (.two (.loop ⟨[(2,.same (.clo 141 [(.ptr bX 4098 []),(.ptr aY 4099 [])])),(6,.sp bX 20486),(8,.sp bX 24584),(19,.di)],o0,[1,9,14,15,18]⟩ [(.exit 2,⟨[(2,.same (.clo 141 [(.ptr bX 4098 []),(.ptr aY 4099 [])])),(6,.sp bX 20486),(8,.sp bX 24584)],o0,[1,14,15]⟩)] (.tl (.tl (.two (.two (.tl (.reg [] 9)) .leaf) .leaf)))) .leaf))) .leaf) .leaf)))) .leaf)) .leaf))) .leaf)) .leaf)))
def IH(lp:Lp)(c:Ca)(a0:D)(a1:D):Option D:=
(c 366 [(D.sl [a0])]).bind λr1=>
 qN r1 λb3=>
(if b3 then(some true) else((c 136 [a1]).bind λr4=>
(D.un .not r4).bind λx5=>
 D.truth x5)).bind λb6=>
 qT (D.bool b6) λb7=>
 if b7 then(some (D.tup [(D.st [(Jn 0),(Jn 0),(D.sl [])]),(Jn 1)])) else(qG a0 [0] λx8=>
 qG a0 [1] λx9=>
(tJ lp (c 402) a0 a1 x8 x9).bind λr20=>
(c 382 [(qW r20.2 8)]).bind λr21=>
 qN r21 λb23=>
 if b23 then((D.tupAt (D.tup [(D.st [(Jn 0),(Jn 0),(D.sl [])]),(Jn 30)]) 0).bind λx24=>
(D.tupAt (D.tup [(D.st [(Jn 0),(Jn 0),(D.sl [])]),(Jn 30)]) 1).bind λx25=>
 some (D.tup [x24,x25])) else((D.tupAt (D.tup [(D.st [(gx r20.2 6),(gx r20.2 7),(qW r20.2 8)]),(Jn 0)]) 0).bind λx26=>
(D.tupAt (D.tup [(D.st [(gx r20.2 6),(gx r20.2 7),(qW r20.2 8)]),(Jn 0)]) 1).bind λx27=>
 some (D.tup [x26,x27])))
def Tw{lp}(hlp:ap lp):ai 351 (m2 (IH lp)):=aR 1 Tryz.f86 Q2 hlp
def Q3:Ann:=(.tl (.tl (.two (.reg [] 7) .leaf)))
def II(lp:Lp)(c:Ca)(a0:D)(a1:D):Option D:=
(c 136 [a1]).bind λr1=>
 qN r1 λb3=>
 if b3 then((c 130 []).bind λr4=>
 some r4) else(qG a1 [1] λx5=>
 qG a1 [0] λx6=>
(c 62 [x5,x6]).bind λr7=>
(c 174 [a0,r7]).bind λr8=>
 some r8)
def Tx{lp}(hlp:ap lp):ai 352 (m2 (II lp)):=aR 0 Tryz.f87 Q3 hlp
def Q4:Ann:=let o0:LO:=[(4098,.keep aJ 2),(8195,.one aJ (.dv aJ))]
 (.tl (.tl (.two (.tl (.two (.loop ⟨[(2,.sp aJ 4098),(3,.sp aJ 8195),(10,.di)],o0,[8,9]⟩ [(.exit 0,⟨[(2,.sp aJ 4098),(3,.sp aJ 8195)],o0,[]⟩)] (.tl (.tl (.two (.two (.tl (.reg [] 4)) .leaf) .leaf)))) .leaf)) .leaf)))
def IJ(lp:Lp)(c:Ca)(a0:D):Option D:=
(c 54 [(Jn 0)]).bind λr1=>
 qG a0 [1] λx2=>
 qS x2 λl3=>
(qZ lp (λv4=>
 qC .lss (gx v4 0) (Jn (l3.length)) λb6=>
 if b6 then(qX x2 (gx v4 0) λx9=>
(c 23 [x9]).bind λr10=>
(c 57 [(gx v4 1),r10]).bind λr11=>
 qB .add (gx v4 0) (Jn 1) λx12=>
 iL [x12,r11]) else(iR (0,[(gx v4 1)]))) [(Jn 0),r1]).bind λr13=>
 some (gx r13.2 0)
def Tz{lp}(hlp:ap lp):ai 353 (m1 (IJ lp)):=aU 0 Tryz.f88 Q4 hlp
def Q5:Ann:=(.tl (.tl (.two (.reg [] 6) .leaf)))
def EP(lp:Lp)(c:Ca)(a0:D):Option D:=
(c 136 [a0]).bind λr1=>
 qN r1 λb3=>
 if b3 then((c 130 []).bind λr4=>
 some r4) else(qG a0 [0] λx5=>
(c 68 [x5]).bind λr6=>
 qG a0 [1] λx7=>
 some (D.st [r6,x7]))
def TA{lp}(hlp:ap lp):ai 357 (m1 (EP lp)):=aU 0 Tryz.f101 Q5 hlp
def Q6:Ann:=(.tl (.two (.tl (.two (.loop ⟨[(2,.sp K1 4098),(5,.di)],[(4098,.keep K1 2)],[1]⟩ [(.ret,⟨[(4,.dv Ty.bool)],[],[]⟩),(.exit 0,⟨[],[],[]⟩)] .leaf) .leaf)) .leaf))
def IK(lp:Lp)(c:Ca)(a0:D)(a1:D):Option D:=
(qZ lp (λv1=>
 qC .lss (gx v1 0) (Jn 3) λb3=>
 if b3 then(qJ (gx v1 0) 3 a0 λx5=>
 qC .gtr x5 a1 λb7=>
(if b7 then(some true) else(qJ (gx v1 0) 3 a0 λx9=>
(D.un .neg a1).bind λx10=>
 qB .lss x9 x10 λx11=>
 D.truth x11)).bind λb12=>
 qT (D.bool b12) λb13=>
 if b13 then(iR (0,[(D.bool false)])) else(qB .add (gx v1 0) (Jn 1) λx14=>
 iL [x14])) else(iR (1,[]))) [(Jn 0)]).bind λr15=>
 if r15.1=0 then(some (gx r15.2 0)) else(some (D.bool true))
def TC{lp}(hlp:ap lp):ai 358 (m2 (IK lp)):=aR 0 Tryz.f106 Q6 hlp
def Q7:Ann:=(.tl (.two (.reg [] 8) .leaf))
def IL(lp:Lp)(c:Ca)(a0:D)(a1:D):Option D:=
 qG a0 [0] λx1=>
(c 135 [x1]).bind λr2=>
 qG a0 [1] λx3=>
(c 372 [x3,a1]).bind λr4=>
(c 371 [r2,r4]).bind λr5=>
 some r5
def TD{lp}(hlp:ap lp):ai 359 (m2 (IL lp)):=aR 0 Tryz.f110 Q7 hlp
def Q8:Ann:=(.tl (.tl (.two (.tl (.two (.loop ⟨[(3,.di)],[],[0]⟩ [(.ret,⟨[(2,.dv Ty.bool)],[],[]⟩),(.exit 0,⟨[],[],[]⟩)] .leaf) .leaf)) .leaf)))
def IM(lp:Lp)(c:Ca)(a0:D):Option D:=
(D.slen a0).bind λx1=>
 qC .lss x1 (Jn 1) λb3=>
(if b3 then(some true) else((D.slen a0).bind λx4=>
 qB .gtr x4 (Jn 32) λx5=>
 D.truth x5)).bind λb6=>
 qT (D.bool b6) λb7=>
 if b7 then(some (D.bool false)) else((qZ lp (λv8=>
(D.slen a0).bind λx9=>
 qC .lss (gx v8 0) x9 λb11=>
 if b11 then((D.strAt a0 (gx v8 0)).bind λx12=>
(c 375 [x12]).bind λr13=>
 qN r13 λb15=>
(if b15 then(qT (D.bool (D.beq (gx v8 0) (Jn 0))) λb16=>
 if b16 then(some true) else((D.strAt a0 (gx v8 0)).bind λx17=>
 qT (D.bool (!(D.beq x17 (D.int .u8 95)))) λb18=>
 if b18 then((D.strAt a0 (gx v8 0)).bind λx19=>
 qC .lss x19 (D.int .u8 48) λb21=>
 if b21 then(some true) else((D.strAt a0 (gx v8 0)).bind λx22=>
 qB .gtr x22 (D.int .u8 57) λx23=>
 D.truth x23)) else(some false))) else(some false)).bind λb24=>
 qT (D.bool b24) λb25=>
 if b25 then(iR (0,[(D.bool false)])) else(qB .add (gx v8 0) (Jn 1) λx26=>
 iL [x26])) else(iR (1,[]))) [(Jn 0)]).bind λr27=>
 if r27.1=0 then(some (gx r27.2 0)) else(some (D.bool true)))
def TE{lp}(hlp:ap lp):ai 361 (m1 (IM lp)):=aU 0 Tryz.f127 Q8 hlp
def Q9:Ann:=(.tl (.two (.tl (.two (.loop ⟨[(1,.sp K3 4097),(3,.di)],[(4097,.keep K3 1)],[]⟩ [(.ret,⟨[(2,.dv Ty.bool)],[],[]⟩),(.exit 0,⟨[],[],[]⟩)] (.tl (.two (.two (.tl (.two (.loop ⟨[(1,.sp K3 4097),(4,.di)],[(4097,.keep K3 1)],[3]⟩ [(.ret,⟨[(2,.dv Ty.bool)],[],[]⟩),(.exit 2,⟨[(1,.sp K3 4097)],[(4097,.keep K3 1)],[3]⟩)] .leaf) .leaf)) .leaf) .leaf))) .leaf)) .leaf))
def IN(lp:Lp)(c:Ca)(a0:D):Option D:=
(qZ lp (λv1=>
 qM a0 [0] (gx v1 0) λb5=>
 if b5 then((qZ lp (λv6=>
 qC .lss (gx v6 0) (Jn 3) λb8=>
 if b8 then(qY a0 [0] (gx v1 0) λx12=>
(D.idx (gx v6 0) 3).bind λi13=>
(D.fld x12 i13).bind λx14=>
 qC .gtr x14 (Jn 4096) λb16=>
(if b16 then(some true) else(qY a0 [0] (gx v1 0) λx20=>
(D.idx (gx v6 0) 3).bind λi21=>
(D.fld x20 i21).bind λx22=>
 qB .lss x22 (Jn (-4096)) λx23=>
 D.truth x23)).bind λb24=>
 qT (D.bool b24) λb25=>
 if b25 then(iR (0,[(D.bool false)])) else(qB .add (gx v6 0) (Jn 1) λx26=>
 iL [x26])) else(iR (1,[]))) [(Jn 0)]).bind λr27=>
 if r27.1=0 then(iR (0,[(gx r27.2 0)])) else(qB .add (gx v1 0) (Jn 1) λx28=>
 iL [x28])) else(iR (1,[]))) [(Jn 0)]).bind λr29=>
 if r29.1=0 then(some (gx r29.2 0)) else(some (D.bool true))
def TF{lp}(hlp:ap lp):ai 362 (m1 (IN lp)):=aU 0 Tryz.f129 Q9 hlp
end Sy
end
end
end Go.Proofs.YtpahompifldeeaaGreat
