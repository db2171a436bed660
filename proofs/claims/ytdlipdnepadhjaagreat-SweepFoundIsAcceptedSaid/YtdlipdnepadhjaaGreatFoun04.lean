/- Part 4 of the proof that SweepFoundIsAccepted answers true at every input -/
import Derived.Test.YtdlipdnepadhjaaGreatFoun03
import Derived.Maps.RangeRun
import Derived.Shelf.SlSortCmp.NoneTotal
import Derived.Ground.SlsfProg
import Derived.KernelRfl
import Derived.Test.YtdlipdnepadhjaaGreatProg
import Derived.Test.YtdlipdnepadhjaaGreatChecked
set_option linter.all false
set_option maxRecDepth 20000
namespace Go.Proofs.YtdlipdnepadhjaaGreat
noncomputable section
set_option maxHeartbeats 0
noncomputable section
namespace Sy
open Go Go.Proofs
section
variable{lp}(a:am lp)
def Z4:Ann:=let a:LO:=[sv,iq,ie,mi];(.t (.w WaY (.w (.t (.w WbJ .o)) (.t (.t (.t (.t (.t (.w (.g [] 2) (.t (.w (.t (.w (.p [sw,WbQ,(11,.s bf 24587),Wbp,(16,.i)] [sv,Wbw,(24587,.k bf 11),mi] [6,10] [(.x 0,y [sw,WbQ,Wbp] [sv,Wbw,mi] [10])] (.t (.w (.w (.w (.regI [] 5 (.w (.t (.w (.g [] 19) (.t (.w Wab (.w (.w (.p [Wac,(5,.s bf 65541),U',WaU] [sv,iq,ie,(32783,.k vi 0),(65541,.k bf 5)] [2,3,10] [(.x 0,y [U'] [sv,iq,ie,(32783,.k vi 0)] [])] .o) .o) .o))))) .o)) (.cut [(.m,y [sw,WbQ,(11,.s bf 24587),Wbp,(17,.v (Ty.int .u64))] [rI,Wbw,(24587,.k bf 11),mi] [6,10,16])] [6,10,16] [4100,4101,24587] (.w (.regI [] 5 (.w (.t (.t (.w (.t (.w (.p [Wac,(6,.s bf 102406),U',WaU,(17,.i)] [sv,iq,ie,mi,(102406,.k bf 6)] [2,3,4,16] [(.x 0,y [Wac,U',WaU] a [2,3])] .o) .o)) .o))) .o)) (.w (.t (.regI [] 4 (.w (.t (.t (.w (.t (.w (.p [Wac,(5,.s bf 147461),(8,.v (Ty.int .u64)),Wbi] [sv,iq,ie,mi,(147461,.k bf 5)] [2,3,10] [(.x 0,y [Wac,(8,.v (Ty.int .u64))] a [2,3])] (.t (.t (.w (.w fx .o) .o)))) .o)) WaJ))) .o))) .o)) .o)) .o) .o))) .o)) nf)))))))))))
def OQ(lp:q)(c:Ca)(a0 a1:D):Option D:=(c 127 [a1]).bind λr1=>(c 127 [a0]).bind λr2=>(c 121 [a0,a1]).bind λr3=>qC .lss r3 (Jn 0) λb5=>if b5 then(some (D.tup [(D.st (akx (List.replicate 16 (D.int .u32 0)) [])),a0])) else(qT (D.bool (D.beq r1 (Jn 1))) λb6=>if b6 then(Q a1 [0] λx7=>(c 195 [a0,x7]).bind λr8=>(D.tupAt r8 0).bind λx9=>(D.tupAt r8 1).bind λad=>some (D.tup [x9,(D.st (akx (List.replicate 16 (D.int .u32 0)) [(0,ad)]))])) else(P .sub r1 (Jn 1) λal=>qJ al 16 a1 λan=>(c 196 [an]).bind λl=>(c 197 [a1,l]).bind λs=>(D.tupAt s 0).bind λm=>(D.tupAt s 1).bind λdq=>(c 197 [a0,l]).bind λt=>(D.tupAt t 0).bind λax=>(D.tupAt t 1).bind λaI=>(D.stl (az vi)).bind λd2=>(D.stl ax).bind λZ=>(D.set (D.st (List.take 0 d2++(List.take 16 (List.drop 0 Z)++List.drop 16 d2))) [16] aI).bind λaO=>P .sub r2 r1 λa2=>(qZ lp (λv25=>qC .geq (Y v25 0) (Jn 0) λT=>if T then(P .add (Y v25 0) r1 λa3=>qJ a3 17 (Y v25 2) λa4=>(D.conv .u64 a4).bind λa5=>P .shl a5 (D.int .u64 32) λa6=>P .add (Y v25 0) r1 λa7=>P .sub a7 (Jn 1) λa8=>qJ a8 17 (Y v25 2) λa9=>(D.conv .u64 a9).bind λba=>P .or a6 ba λd1=>P .sub r1 (Jn 1) λbh=>qJ bh 16 m λbj=>(D.conv .u64 bj).bind λn=>P .quo d1 n λbl=>P .rem d1 n λbm=>(qZ lp (λv45=>qC .lss (Y v45 1) (D.int .u64 4294967296) λU=>(if U then(qC .geq (Y v45 0) (D.int .u64 4294967296) λV=>if V then(some true) else(P .sub r1 (Jn 2) λbp=>qJ bp 16 m λbs=>(D.conv .u64 bs).bind λbt=>P .mul (Y v45 0) bt λbv=>P .shl (Y v45 1) (D.int .u64 32) λbx=>P .add (Y v25 0) r1 λbz=>P .sub bz (Jn 2) λbY=>qJ bY 17 (Y v25 2) λb1=>(D.conv .u64 b1).bind λb2=>P .or bx b2 λb3=>P .gtr bv b3 λb4=>D.truth b4)) else(some false)).bind λW=>qT (D.bool W) λX=>if X then(P .sub (Y v45 0) (D.int .u64 1) λb7=>P .add (Y v45 1) n λb8=>iL [b7,b8,(Y v45 2),(Y v45 3),(Y v45 4)]) else(iR (0,[(Y v45 0),(Y v45 2),(Y v45 3),(Y v45 4)]))) [bl,bm,(Y v25 1),(az bf),m]).bind λb=>((qZ lp (λa=>qC .lss (Y a 2) r1 λb0=>if b0 then(qJ (Y a 2) 16 (Y b.2 3) λb9=>(D.conv .u64 b9).bind λcd=>P .mul (Y b.2 0) cd λcf=>P .add (Y a 0) cf λd0=>P .add (Y v25 0) (Y a 2) λch=>qJ ch 17 (Y a 6) λcs=>(D.conv .u64 cs).bind λcv=>(D.conv .u32 d0).bind λcx=>(D.conv .u64 cx).bind λcy=>P .sub cv cy λcI=>P .sub cI (Y a 1) λR=>P .add (Y v25 0) (Y a 2) λcS=>(D.conv .u32 R).bind λc0=>(D.idx cS 17).bind λi86=>(D.set (Y a 6) [i86] c0).bind λc1=>P .shr R (D.int .u64 63) λc2=>P .shr d0 (D.int .u64 32) λc3=>P .add (Y a 2) (Jn 1) λc4=>iL [c3,c2,c4,(Y a 3),(Y a 4),(Y a 5),c1]) else(iR (0,[(Y a 0),(Y a 1),(Y a 3),(Y a 4),(Y a 5),(Y a 6)]))) [(D.int .u64 0),(D.int .u64 0),(Jn 0),(Y b.2 1),(Y b.2 2),(Y b.2 3),(Y v25 2)]).bind λd=>P .add (Y v25 0) r1 λc5=>qJ c5 17 (Y d.2 5) λda=>(D.conv .u64 da).bind λdb=>P .sub db (Y d.2 0) λdk=>P .sub dk (Y d.2 1) λS=>P .add (Y v25 0) r1 λdm=>(D.conv .u32 S).bind λdp=>(D.idx dm 17).bind λi100=>(D.set (Y d.2 5) [i100] dp).bind λi=>P .shr S (D.int .u64 63) λu=>qT (D.bool (D.beq u (D.int .u64 1))) λo=>if o then(P .sub (Y b.2 0) (D.int .u64 1) λv=>(qZ lp (λv105=>qC .lss (Y v105 1) r1 λp=>if p then(P .add (Y v25 0) (Y v105 1) λw=>qJ w 17 (Y v105 5) λx=>(D.conv .u64 x).bind λy=>qJ (Y v105 1) 16 (Y d.2 4) λz=>(D.conv .u64 z).bind λA=>P .add y A λB=>P .add (Y v105 0) B λj=>P .add (Y v25 0) (Y v105 1) λC=>(D.conv .u32 j).bind λE=>(D.idx C 17).bind λi119=>(D.set (Y v105 5) [i119] E).bind λF=>P .shr j (D.int .u64 32) λG=>P .add (Y v105 1) (Jn 1) λH=>iL [G,H,(Y v105 2),(Y v105 3),(Y v105 4),F]) else(iR (0,[(Y v105 0),(Y v105 2),(Y v105 3),(Y v105 4),(Y v105 5)]))) [(D.int .u64 0),(Jn 0),(Y d.2 2),(Y d.2 3),(Y d.2 4),i]).bind λe=>P .add (Y v25 0) r1 λk=>qJ k 17 (Y e.2 4) λI=>(D.conv .u32 (Y e.2 0)).bind λJ=>P .add I J λK=>(D.idx k 17).bind λi129=>(D.set (Y e.2 4) [i129] K).bind λL=>some (0,[v,L])) else(some (0,[(Y b.2 0),i]))).bind λ(g:Nat×List D)=>(D.conv .u32 (Y g.2 0)).bind λM=>(D.idx (Y v25 0) 16).bind λi133=>(D.set (Y b.2 1) [i133] M).bind λN=>P .sub (Y v25 0) (Jn 1) λO=>iL [O,N,(Y g.2 1)]) else(iR (0,[(Y v25 1),(Y v25 2)]))) [a2,(az bf),aO]).bind λh=>(match (Y h.2 1) with
| D.st f=>(if decide (0+16<=f.length) then((c 201 [(D.st (List.take 16 (List.drop 0 f))),l]).bind λr=> some (D.tup [(Y h.2 0),r])) else none)
| _=>none)))
def ab4:l 170 (G (OQ lp)):=aQ 0 Tryz.f155 Z4 a
def OR(lp:q)(c:Ca)(a0:D):Option D:=Z c 118 [(D.sl [a0])] λr1=>qn r1 (Z c 119 [] λb=>some b) (Q a0 [2] λe=>Z c 116 [bF,e] λd=>some d)
def ab5:l 171 (m1 (OR lp)):=aY 0 Tryz.f156 .leaf a
def Z5:Ann:=.t (.t (.cut [(.r,y [vd,Wa1] [fT,ep] []),(.m,y [pI,kd,vd,Wa1] [kS,J',fT,ep] [])] [] [4098,4099] (.t (.t (.w (.t (.t (.w (.w Wab (.cut [(.m,y [vd,Wa1,WaG,Wbi] [tp,(4101,.k c 5)] [])] [] [4100,4101] .o .o)) .o))) .o))) (.t (.t (.cut [(.m,y [kd,vd,Wa1,(13,.s bf 16397),(14,.s c 20494)] [J',tp,(4101,.k c 5),(16397,.e bf (.v bf)),(20494,.e c (.v c))] [])] [] [4099,4100,4101] (.t tw) vb)))))
def Kd(lp:q)(c:Ca)(a0 a1:D):Option D:=Z c 118 [(D.sl [a0,a1])] λr1=>qN r1 λV=>qO V (Z c 129 [a1] λa3=>D.truth (bq a3 J0)) (Z c 119 [] λu=>Z c 119 [] λr8=>some (D.tup [u,r8])) (qb (Z c 202 [a0] λU=>qp U 0 λe=>qp U 1 λF=>qT F λm=>qA m (D.truth (nq e (Jn (-9223372036854775808)))) (Z c 202 [a1] λg=>qp g 0 λa=>qp g 1 λG=>qT G λp=>qA p (D.truth (nq a (Jn (-9223372036854775808)))) (P .quo e a λl=>P .rem e a λb=>qb (qT (nq b J0) λs=>qA s (P .lss b J0 λH=>P .lss a J0 λI=>D.truth (nq H I)) (P .sub l J1 λJ=>P .add b a λK=>some (0,[J,K])) (some (0,[l,b]))) λh=>Z c 54 [(Y h.2 0)] λy=>Z c 54 [(Y h.2 1)] λz=>some (0,[y,z])) (some (1,[(D.st [bF,bF,(az bf)]),(D.st [bF,bF,(az bf)])]))) (some (1,[(D.st [bF,bF,(az bf)]),(D.st [bF,bF,(az bf)])]))) λd=>if d.1=0 then(some (D.tup [(Y d.2 0),(Y d.2 1)])) else(Q a0 [2] λL=>Q a1 [2] λM=>Z c 170 [L,M] λi=>qp i 0 λN=>qp i 1 λf=>Q a0 [1] λO=>Q a1 [1] λa2=>Z c 116 [(nq O a2),N] λj=>qb (qT (nq f (D.st (akx (List.replicate 16 (D.int .u32 0)) []))) λv=>qA v (Q a0 [1] λX=>Q a1 [1] λR=>D.truth (nq X R)) (Z c 54 [J1] λA=>Z c 203 [j,A] λB=>Q a1 [2] λS=>Z c 122 [S,f] λC=>some (0,[C,B])) (some (0,[f,j]))) λk=>Q a1 [1] λT=>Z c 116 [T,(Y k.2 0)] λE=>some (D.tup [(Y k.2 1),E])))
def ab6:l 172 (G (Kd lp)):=aQ 0 Tryz.f157 Z5 a
def Z6:Ann:=.t (.t (.t (.w X' Wai)))
def H2(lp:q)(c:Ca)(a0 a1:D):Option D:=Z c 136 [a0] λr1=>qN r1 λp=>qO p (Z c 136 [a1] λs=>qz s) (Z c 130 [] λt=>some t) (Q a0 [1] λv=>Q a1 [1] λj=>Z c 131 [v,j] λa=>Q a0 [1] λk=>Z c 132 [k,a] λb=>Q a1 [1] λl=>Z c 132 [l,a] λd=>Q a0 [0] λm=>Z c 61 [m,d] λe=>Q a1 [0] λn=>Z c 61 [n,b] λf=>Z c 57 [e,f] λg=>Q a1 [1] λo=>Z c 61 [b,o] λh=>Z c 62 [g,h] λi=>some i)
def ab7:l 173 (G (H2 lp)):=aQ 0 Tryz.f74 Z6 a
def Z7:Ann:=.t (.t (.w WaJ oq))
def H3(lp:q)(c:Ca)(a0 a1:D):Option D:=Z c 136 [a0] λr1=>qN r1 λs=>qO s (Z c 136 [a1] λv=>qz v) (Z c 130 [] λw=>some w) (Q a0 [0] λy=>Q a1 [1] λj=>Z c 62 [y,j] λa=>Q a1 [0] λk=>Q a0 [1] λl=>Z c 62 [k,l] λb=>Q a [0] λm=>Q b [0] λn=>Z c 61 [m,n] λd=>Q a [1] λo=>Q b [1] λp=>Z c 61 [o,p] λe=>Q d [0] λh=>qT h λf=>qO f (Q e [0] λr=>D.truth r) (Z c 130 [] λi=>some i) (some (D.st [d,e])))
def ab8:l 174 (G (H3 lp)):=aQ 0 Tryz.f73 Z7 a
def OS(lp:q)(c:Ca)(a0 a1:D):Option D:=qc .lss a1 J0 (some J0) (Z c 141 [a0,a1] λa=>some a)
def ab9:l 175 (G (OS lp)):=aQ 0 Tryz.f258 .leaf a
def Z8:Ann:=.t (.t (.t (.t (.t (.t (.cut [(.m,S1 [mI])] [] [] .o .o))))))
def OT(lp:q)(c:Ca)(a0:D):Option D:=Z c 76 [a0] λr1=>qn r1 (some (D.tup [J0,bF])) (Z c 34 [(Jn (-9223372036854775808))] λr=>Z c 34 [(Jn 9223372036854775807)] λs=>Z c 32 [a0,r] λt=>qC .lss t J0 λy=>qO y (Z c 32 [a0,s] λu=>qh .gtr u J0) (some (D.tup [J0,bF])) (Q a0 [2,1] λh=>qw .u64 h λi=>P .mul i (D.int .u64 4294967296) λj=>Q a0 [2,0] λk=>qw .u64 k λl=>P .add j l λm=>qw .i64 m λa=>qb (Q a0 [1] λn=>qt n ((akz .neg a).bind λo=>some (0,[o])) (some (0,[a]))) λf=>some (D.tup [(Y f.2 0),bT])))
def aca:l 186 (m1 (OT lp)):=aY 0 Tryz.f204 Z8 a
def Z9:Ann:=.t (.w (.t (.w (.p [(1,.s h 4097),iz] [(4097,.k h 1)] [] [(.r,mg),(.x 0,pd)] .o) .o)) .o)
def OU(lp:q)(c:Ca)(a0:D):Option D:=qy lp (λv1=>qc .lss (Y v1 0) J3 (qJ (Y v1 0) 3 a0 λi=>qC .geq i (Jn 2305843009213693952) λh=>qO h (qJ (Y v1 0) 3 a0 λj=>qh .leq j (Jn (-2305843009213693952))) (iR (0,[bF])) (qj (Y v1 0) λf=>iL [f])) (iR (1,[]))) [J0] λa=>qr a (some bT)
def acb:l 187 (m1 (OU lp)):=aY 0 Tryz.f304 Z9 a
def aaa:Ann:=.t (.w (.t (.w (.p [ky,mb,Waa] [(4098,.k h 2),k7] [] [(.r,WaB),(.x 0,pd)] (.t (.w Wbe .o))) .o)) .o)
def OV(lp:q)(c:Ca)(a0 a1:D):Option D:=qy lp (λv1=>qc .lss (Y v1 0) J3 (qJ (Y v1 0) 3 a0 λj=>qt (nq j J0) (qJ (Y v1 0) 3 a0 λk=>Z c 215 [k] λi=>qJ (Y v1 0) 3 a1 λd=>Z c 215 [d] λb=>P .mul i b λe=>iR (0,[e])) (qj (Y v1 0) λf=>iL [f])) (iR (1,[]))) [J0] λa=>qr a (some J0)
def acc:l 188 (G (OV lp)):=aQ 0 Tryz.f320 aaa a
def OX(lp:q)(c:Ca)(a0:D):Option D:=some (nq a0 a0)
def acd:l 194 (m1 (OX lp)):=aY 0 Tryz.f272 .leaf a
def aab:Ann:=.t (.t (.w (.t (.w (.p [h7,sw,G',Wau] [k8,sv] [1] [(.x 0,y [sw,G'] [sv] [])] .o) .o)) .o))
def OY(lp:q)(c:Ca)(a0 a1:D):Option D:=qy lp (λv1=>qc .geq (Y v1 1) J0 (P .shl (Y v1 0) (D.int .u64 32) λl=>qJ (Y v1 1) 16 a0 λm=>qw .u64 m λn=>P .or l n λj=>qw .u64 a1 λo=>P .quo j o λb=>qw .u32 b λd=>qi (Y v1 1) 16 λyb=>qs (Y v1 2) [yb] d λe=>qw .u64 a1 λf=>P .rem j f λg=>P .sub (Y v1 1) J1 λh=>iL [g,h,e]) (iR (0,[(Y v1 0),(Y v1 2)]))) [(D.int .u64 0),(Jn 15),(az bf)] λa=>qw .u32 (Y a.2 0) λi=>some (D.tup [(Y a.2 1),i])
def ace:l 195 (G (OY lp)):=aQ 0 Tryz.f239 aab a
def OZ(lp:q)(c:Ca)(a0:D):Option D:=Z c 165 [a0] λr1=>P .sub (Jn 32) r1 λa=>some a
def acf:l 196 (m1 (OZ lp)):=aY 0 Tryz.f240 .leaf a
def aac:Ann:=.t (.t (.t (.w (.t (.w (.p [h7,sw,WbN,H',(9,.i)] [k8,rI,WaM] [1] [(.x 0,ig)] .o) .o)) .o)))
def O0(lp:q)(c:Ca)(a0 a1:D):Option D:=qy lp (λv1=>qc .lss (Y v1 1) (Jn 16) (qJ (Y v1 1) 16 a0 λi=>qw .u64 i λj=>P .shl j a1 λk=>P .or (Y v1 0) k λg=>qw .u32 g λl=>qi (Y v1 1) 16 λi10=>qs (Y v1 2) [i10] l λb=>P .shr g (D.int .u64 32) λd=>qj (Y v1 1) λe=>iL [d,e,b]) (iR (0,[(Y v1 0),(Y v1 2)]))) [(D.int .u64 0),J0,(az bf)] λa=>qw .u32 (Y a.2 0) λf=>some (D.tup [(Y a.2 1),f])
def acg:l 197 (G (O0 lp)):=aQ 0 Tryz.f241 aac a
def aad:Ann:=.t (.t (.w (.t (.w (.p [h7,sw,Waj,fl] [k8,rI,fI] [1] [(.x 0,WbO)] (.t (.t (.w (.w (.t (.t (.cut [(.m,y [h7,sw,Waj,H'] [k8,rI,(8197,.k bf 5)] [1,6,8])] [1,6,8] [4098,4100,8197] .o .o))) .o) .o)))) .o)) .o))
def O1(lp:q)(c:Ca)(a0 a1:D):Option D:=qy lp (λv1=>qc .lss (Y v1 0) (Jn 16) (qb (qj (Y v1 0) λo=>qc .lss o (Jn 16) (qj (Y v1 0) λp=>qJ p 16 a0 λy=>qw .u64 y λd=>some (0,[d])) (some (0,[(D.int .u64 0)]))) λa=>P .shl (Y a.2 0) (D.int .u64 32) λe=>qJ (Y v1 0) 16 a0 λf=>qw .u64 f λg=>P .or e g λh=>P .shr h a1 λi=>qw .u32 i λj=>qi (Y v1 0) 16 λi19=>qs (Y v1 1) [i19] j λk=>qj (Y v1 0) λl=>iL [l,k]) (iR (0,[(Y v1 1)]))) [J0,(az bf)] λb=>some (Y b.2 0)
def ach:l 201 (G (O1 lp)):=aQ 0 Tryz.f245 aad a
def H4(lp:q)(c:Ca)(a0:D):Option D:=Z c 118 [(D.sl [a0])] λr1=>qN r1 λs=>qO s (Z c 217 [a0] λv=>qh .gtr v (Jn 64)) (some (D.tup [J0,bF])) (Q a0 [2,1] λx=>qw .u64 x λy=>P .shl y (D.int .u64 32) λi=>Q a0 [2,0] λj=>qw .u64 j λk=>P .or i k λa=>Q a0 [1] λl=>qT l λb=>qA b (qh .leq a (D.int .u64 9223372036854775808)) ((akz .neg a).bind λn=>qw .i64 n λo=>some (D.tup [o,bT])) (Q a0 [1] λp=>qN p λf=>qA f (qh .lss a (D.int .u64 9223372036854775808)) (qw .i64 a λr=>some (D.tup [r,bT])) (some (D.tup [J0,bF]))))
def aci:l 202 (m1 (H4 lp)):=aY 0 Tryz.f201 .leaf a
def aae:Ann:=.t mB
def Ke(lp:q)(c:Ca)(a0 a1:D):Option D:=Z c 68 [a1] λr1=>Z c 57 [a0,r1] λa=>some a
def acj:l 203 (G (Ke lp)):=aQ 0 Tryz.f226 aae a
def O2(lp:q)(c:Ca)(a0:D):Option D:=qc .lss a0 J0 (some (Jn (-1))) (qc .gtr a0 J0 (some J1) (some J0))
def ack:l 215 (m1 (O2 lp)):=aY 0 Tryz.f338 .leaf a
def O3(lp:q)(c:Ca)(a0:D):Option D:=Q a0 [2] λx1=>Z c 127 [x1] λb=>Z c 118 [(D.sl [a0])] λj=>qN j λg=>qO g (D.truth (bq b J0)) (some J0) (P .sub b J1 λk=>P .mul (Jn 32) k λl=>P .sub b J1 λd=>qi d 16 λi11=>Q a0 [2,i11] λe=>Z c 165 [e] λa=>P .add l a λf=>some f)
def acl:l 217 (m1 (O3 lp)):=aY 0 Tryz.f17 .leaf a
def O4(lp:q)(c:Ca)(a0:D):Option D:=Z c 348 [a0] λr1=>qn r1 (some bF) (Z c 349 [a0] λa=>qp a 0 λf=>qp a 1 λg=>qT g λd=>(qe d (D.truth (bq f a0)) (some false)).bind λe=>some (D.bool e))
def acm:l 331 (m1 (O4 lp)):=aY 0 Tryz.f88 .leaf a
def O5(lp:q)(c:Ca)(a0 a1:D):Option D:=Z c 54 [a0] λr1=>Z c 54 [a1] λa=>Z c 62 [r1,a] λb=>some b
def acn:l 333 (G (O5 lp)):=aQ 0 Tryz.f42 .leaf a
def aaf:Ann:=.t mB
def O6(lp:q)(c:Ca)(a0 a1:D):Option D:=Z c 357 [a1] λr1=>Z c 173 [a0,r1] λa=>some a
def aco:l 336 (G (O6 lp)):=aQ 0 Tryz.f118 aaf a
def O7(lp:q)(c:Ca)(a0 a1:D):Option D:=Z c 136 [a0] λr1=>qN r1 λb=>qO b (Z c 136 [a1] λf=>qz f) (Z c 130 [] λg=>some g) (Z c 73 [a0,a1] λh=>qc .lss h J0 (some a1) (some a0))
def acp:l 337 (G (O7 lp)):=aQ 0 Tryz.f113 .leaf a
def O8(lp:q)(c:Ca)(a0:D):Option D:=Z c 136 [a0] λr1=>qn r1 (some J0) (Q a0 [0] λd=>Z c 129 [d] λb=>some b)
def acq:l 342 (m1 (O8 lp)):=aY 0 Tryz.f27 .leaf a
end
end Sy
end
set_option maxHeartbeats 0
noncomputable section
namespace Sy
open Go Go.Proofs
section
variable{lp}(a:am lp)
def aag:Ann:=.t (.w (.t (.w (.p [g',iz] [Wbx] [] [(.r,mg),(.x 0,pd)] .o) .o)) .o)
def O9(lp:q)(c:Ca)(a0:D):Option D:=qy lp (λv1=>qc .lss (Y v1 0) (Jn 4) (qJ (Y v1 0) 4 a0 λi=>qC .gtr i (Jn 64) λh=>qO h (qJ (Y v1 0) 4 a0 λj=>qh .lss j (Jn (-64))) (iR (0,[bF])) (qj (Y v1 0) λf=>iL [f])) (iR (1,[]))) [J0] λa=>qr a (some bT)
def acr:l 348 (m1 (O9 lp)):=aY 0 Tryz.f167 aag a
def aah:Ann:=let a:LO:=[Wbx,gl];let b:LS:=[g',sI,R',Waa];(.t (.t (.t (.w (.t (.w (.p [g',sI,R',Waa,mI] a [] [(.x 0,y b a [])] (.t (.cut [(.m,y b a [6])] [6] [4097,4098] .o .o))) .o)) (.t (.t (.w (.g [] 17) .o)))))))
def Pa(lp:q)(c:Ca)(a0:D):Option D:=qy lp (λv1=>qc .geq (Y v1 2) J0 (qb (qJ (Y v1 2) 4 a0 λv=>Z c 364 [(Y v1 0),v] λs=>qJ (Y v1 2) 4 a0 λw=>qt (nq w J0) (qJ (Y v1 2) 4 a0 λg=>Z c 365 [g] λf=>some (0,[s,f])) (some (0,[s,(Y v1 1)]))) λd=>P .sub (Y v1 2) J1 λh=>iL [(Y d.2 0),(Y d.2 1),h]) (iR (0,[(Y v1 0),(Y v1 1)]))) [J0,J0,J3] λb=>(akz .neg (Y b.2 0)).bind λi=>(D.max2 (Y b.2 0) i).bind λj=>P .mul (Y b.2 1) j λa=>qt (bq a J0) (some (D.tup [(D.st [J0,J0,J0,J0]),bF])) (Q a0 [0] λk=>P .quo k a λl=>Q a0 [1] λm=>P .quo m a λn=>Q a0 [2] λo=>P .quo o a λp=>Q a0 [3] λy=>P .quo y a λr=>some (D.tup [(D.st [l,n,p,r]),bT]))
def acs:l 349 (m1 (Pa lp)):=aY 0 Tryz.f168 aah a
def aai:Ann:=.t (.t tw)
def Pb(lp:q)(c:Ca)(a0 a1:D):Option D:=Z c 136 [a1] λr1=>qn r1 (Z c 130 [] λb=>some b) (Q a1 [1] λf=>Q a1 [0] λg=>Z c 62 [f,g] λd=>Z c 174 [a0,d] λe=>some e)
def acu:l 352 (G (Pb lp)):=aQ 0 Tryz.f84 aai a
def aaj:Ann:=.t (.t nf)
def Kf(lp:q)(c:Ca)(a0:D):Option D:=Z c 136 [a0] λr1=>qn r1 (Z c 130 [] λb=>some b) (Q a0 [0] λe=>Z c 68 [e] λd=>Q a0 [1] λf=>some (D.st [d,f]))
def acv:l 357 (m1 (Kf lp)):=aY 0 Tryz.f24 aaj a
def aak:Ann:=.t (.w (.w (.loop Wbo [(.x 0,S1 [(0,.i)])] .o) .o) .o)
def Pc(lp:q)(c:Ca)(a0 a1:D):Option D:=qy lp (λv1=>qt (nq (Y v1 1) J0) (P .rem (Y v1 0) (Y v1 1) λb=>iL [(Y v1 1),b]) (iR (0,[(Y v1 0)]))) [a0,a1] λa=>(akz .neg (Y a.2 0)).bind λd=>(D.max2 (Y a.2 0) d).bind λe=>some e
def acw:l 364 (G (Pc lp)):=aQ 0 Tryz.f254 aak a
def Pd(lp:q)(c:Ca)(a0:D):Option D:=qc .lss a0 J0 (some (Jn (-1))) ((D.min2 a0 J1).bind λa=>some a)
def acx:l 365 (m1 (Pd lp)):=aY 0 Tryz.f255 .leaf a
def Pe(lp:q)(c:Ca)(a0:D):Option D:=Z c 392 [a0,a0] λr1=>some r1
def acy:l 385 (m1 (Pe lp)):=aY 0 Tryz.f165 .leaf a
def aal:Ann:=.t (.t (.t (.w (.t (.w (.p [mb,ri,(5,.s Zj 8197),(6,.s h 12294),WaG] [k7,tI,(8197,.k Zj 5),(12294,.e h (.v h))] [] [(.x 0,y [ri,(6,.s h 12294)] [tI,(12294,.e h (.v h))] [])] (.t (.t (.w (.w (.t (.g [] 24)) .o) .o)))) .o)) .o)))
def Kg(lp:q)(c:Ca)(a0 a1:D):Option D:=Z c 393 [a0] λr1=>qy lp (λv2=>qc .lss (Y v2 0) J3 (P .mul J3 (Y v2 0) λn=>qJ n 9 r1 λo=>Q a1 [0] λp=>P .mul J3 (Y v2 0) λy=>qj y λd=>qJ d 9 r1 λe=>Q a1 [1] λf=>P .mul J3 (Y v2 0) λg=>P .add g J2 λh=>qJ h 9 r1 λi=>Q a1 [2] λj=>Z c 394 [(D.sl [o,p,e,f,i,j])] λa=>qi (Y v2 0) 3 λi20=>qs (Y v2 1) [i20] a λk=>qj (Y v2 0) λl=>iL [l,k]) (iR (0,[(Y v2 1)]))) [J0,(D.st [J0,J0,J0])] λb=>some (Y b.2 0)
def acz:l 386 (G (Kg lp)):=aQ 0 Tryz.f166 aal a
def Kh(lp:q)(c:Ca)(a0 a1:D):Option D:=Q a0 [0] λx1=>Q a1 [0] λb=>Q a0 [1] λd=>Q a1 [1] λe=>Q a0 [2] λf=>Q a1 [2] λg=>Q a0 [3] λh=>Q a1 [3] λi=>Z c 394 [(D.sl [x1,b,d,e,f,g,h,i])] λa=>some a
def acA:l 392 (G (Kh lp)):=aQ 0 Tryz.f246 .leaf a
def aam:Ann:=.t ot
def Pf(lp:q)(c:Ca)(a0:D):Option D:=Q a0 [0] λx1=>Q a0 [1] λa=>Q a0 [2] λb=>Q a0 [3] λd=>(akz .neg b).bind λz=>(akz .neg d).bind λA=>Z c 394 [(D.sl [x1,x1,a,a,z,b,A,d])] λx=>(akz .neg x1).bind λB=>Z c 394 [(D.sl [a,b,B,d])] λy=>P .mul J2 y λl=>Z c 394 [(D.sl [a,d,x1,b])] λe=>P .mul J2 e λm=>Z c 394 [(D.sl [a,b,x1,d])] λf=>P .mul J2 f λn=>(akz .neg a).bind λo=>(akz .neg d).bind λp=>Z c 394 [(D.sl [x1,x1,o,a,b,b,p,d])] λg=>(akz .neg x1).bind λS=>Z c 394 [(D.sl [b,d,S,a])] λh=>P .mul J2 h λr=>(akz .neg x1).bind λs=>Z c 394 [(D.sl [a,d,s,b])] λi=>P .mul J2 i λt=>Z c 394 [(D.sl [b,d,x1,a])] λj=>P .mul J2 j λu=>(akz .neg a).bind λv=>(akz .neg b).bind λw=>Z c 394 [(D.sl [x1,x1,v,a,w,b,d,d])] λk=>some (D.st (akx (List.replicate 9 J0) [(0,x),(1,l),(2,m),(3,n),(4,g),(5,r),(6,t),(7,u),(8,k)]))
def acB:l 393 (m1 (Pf lp)):=aY 0 Tryz.f252 aam a
def aan:Ann:=.t (.t (.w (.t (.w (.p [iz,R'] [] [0] [(.x 0,S1 [iz])] WaH) .o)) .o))
def H5(lp:q)(c:Ca)(a0:D):Option D:=qy lp (λv1=>qj (Y v1 1) λh=>ql a0 h (qX a0 (Y v1 1) λi=>qj (Y v1 1) λj=>qX a0 j λb=>P .mul i b λd=>P .add (Y v1 0) d λe=>P .add (Y v1 1) J2 λf=>iL [e,f]) (iR (0,[(Y v1 0)]))) [J0,J0] λa=>some (Y a.2 0)
def acC:l 394 (m1 (H5 lp)):=aY 0 Tryz.f253 aan a
end
end Sy
end
set_option maxHeartbeats 0
noncomputable section
namespace Sy
open Go Go.Proofs
section
variable{lp}(a:am lp)
def aao:Ann:=let a:LO:=[ub,un,u3,wm,va,zc,eu];let c:LO:=[ub,un,u3,wm,va,zc,(32770,.k cF 1),(32771,.k cF 2),eu,vl,x6,v8];let e:LO:=[ub,un,u3,wm,va,zc,eu,vl,x6,v8];let b:LS:=[ra];let d:LS:=[kO,hP];(.t (.w gp (.t (.t (.t (.w (.w (.regI [] 3 .o) (.w (.all [(.m,y b a []),(.r,y b a [])] [] [45056] (.t (.t (.t (.w (.t (.w (.p [ra,WaP,WaQ,wa,(20,.ow cF),(22,.i)] c [21] [(.r,y b a []),(.x 0,y [ra,WaP,WaQ,wa] c [])] (.t (.t (.w (.w (.t (.t (.w (.p [ra,WaP,WaQ,wa,(7,.s cF 77831),(20,.ow cF),(31,.i)] [ub,un,u3,wm,va,zc,(32770,.k cF 1),(32771,.k cF 2),eu,vl,x6,v8,(77831,.k cF 7)] [6,21,22,29,30] [(.r,y b a []),(.x 2,y [ra,WaP,WaQ,wa,(20,.ow cF)] c [21,22])] (.t (.t (.w (.w (.t (.w (.regI [] 13 (.w (.all [(.r,y d [ub,un,u3,wm,va,zc,WaC,WaD,hC,vl,x6,v8,WaE] [])] [] [45056] (.t (.t (.cut [(.m,y [M',kO,(7,.s h 110599)] [ub,un,u3,wm,va,zc,WaC,WaD,hC,vl,x6,v8,WaE,(110599,.e h (.v h))] [8])] [8] [45056] .o (.t (.t (.w (.regI [] 4 (.w (.t (.all [(.m,y [] [Wby,Wbj,Wbk,wm,va,zc,WaC,WaD,vl,x6,v8,WaE] [])] [] [4104,8202,8203] sq)) .o)) .o))))))) .o)) .o)) .o) .o)))) .o))) .o) .o)))) .o)) (.t (.t (.w (.p [ra,wa,(55,.i)] e [10,53,54] [(.r,y b a []),(.x 4,y b a [])] (.t (.t (.w (.w (.t (.t (.w (.p [ra,wa,(12,.s h 90124),(61,.i)] [ub,un,u3,wm,va,zc,eu,vl,x6,v8,(90124,.k h 12)] [10,53,54,55,59,60] [(.r,y b a []),(.x 6,y [ra,wa] e [10,53,54,55])] (.t (.t (.w (.w (.t (.t (.w (.regI [] 10 (.w (.all [(.r,y d [ub,un,u3,wm,va,zc,hC,vl,x6,v8,mj,Wav] [])] [] [45056] (.t (.t (.cut [(.m,y [M',kO,(7,.s h 126983)] [ub,un,u3,wm,va,zc,hC,vl,x6,v8,mj,Wav,(126983,.e h (.v h))] [8])] [8] [45056] .o (.t (.t (.w (.regI [] 4 (.w (.t (.all [(.m,y [] [Wby,Wbj,Wbk,wm,va,zc,vl,x6,v8,mj,Wav] [])] [] [4104,8202,8203] sq)) .o)) .o))))))) (.w (.all [(.r,y d [ub,un,u3,wm,va,zc,hC,vl,x6,v8,mj] [])] [] [45056] (.t (.t (.cut [(.m,y [M',kO,(7,.s h 139271)] [ub,un,u3,wm,va,zc,hC,vl,x6,v8,mj,(139271,.e h (.v h))] [8])] [8] [45056] .o (.t (.t (.w (.regI [] 4 (.w (.t (.all [(.m,y [] [Wby,Wbj,Wbk,wm,va,zc,vl,x6,v8,mj] [])] [] [4104,8202,8203] sq)) .o)) .o))))))) .o))) .o))) .o) .o)))) .o))) .o) .o)))) .o)))))))) .o)) WbJ))))))
def Pg(lp:q)(c:Ca)(a0 a1:D)(a2 a3:D):Option D:=Z c 433 [a0,a1] λr1=>Z c 433 [a2,a3] λA=>qb (qy lp (λv3=>qc .lss (Y v3 1) J2 (qi (Y v3 1) (List.length (qV v3 0)) λi6=>((qV v3 0)[i6]?).bind λx7=>Q x7 [1] λx8=>Z c 18 [x8] λr9=>qS r9 λcd=>qy lp (λv11=>qc .lss (Y v11 1) (jl cd) (qX r9 (Y v11 1) λdt=>Q x7 [0,1] λdv=>Q dt [0] λdx=>Z c 386 [dv,dx] λcs=>Z c 448 [cs] λcv=>P .mul J2 (Y v3 1) λdy=>P .sub J1 dy λdz=>qb (Z c 447 [cv] λad=>qp ad 0 λa8=>qp ad 1 λdB=>qb (qc .lss dz J0 (Z c 97 [a8] λcx=>some (0,[(Y v11 2),(Y v11 3),(Y v11 4),(Y v11 5),(Y v11 6),(Y v11 7),r1,A,(qW v11 8),x7,cx])) (some (0,[(Y v11 2),(Y v11 3),(Y v11 4),(Y v11 5),(Y v11 6),(Y v11 7),r1,A,(qW v11 8),x7,a8]))) λb=>qT (nq dB J0) λbj=>qO bj (D.truth (Option.getD (akr (qV b.2 8) (Y b.2 10)) bF)) (some (0,[bT,(Y b.2 0),(Y b.2 1),(Y b.2 2),(Y b.2 3),(Y b.2 4),(Y b.2 5),(Y b.2 6),(Y b.2 7),(qW b.2 8),(Y b.2 9)])) (qb (Z c 434 [(Y b.2 10),(Y b.2 1),(Y b.2 2)] λs=>Z c 342 [s] λcy=>qc .lss cy J0 (some (0,[(Y b.2 3),(Y b.2 4),(Y b.2 5),(Y b.2 6),(Y b.2 7),(D.sl (aks (qV b.2 8) (Y b.2 10) bT)),(Y b.2 9)])) (Z c 174 [s,s] λcI=>Z c 91 [(Y b.2 10),(Y b.2 10)] λcS=>Z c 54 [J1] λc0=>Z c 62 [cS,c0] λc1=>Z c 352 [cI,c1] λal=>qT (Y b.2 5) λbs=>qA bs (Z c 73 [al,(Y b.2 4)] λc2=>qh .leq c2 J0) (some (0,[(Y b.2 3),(Y b.2 4),(Y b.2 5),(Y b.2 6),(Y b.2 7),(D.sl (aks (qV b.2 8) (Y b.2 10) bT)),(Y b.2 9)])) (Z c 435 [(Y b.2 1),(Y b.2 10)] λc3=>Z c 74 [J2] λc4=>Z c 352 [s,c4] λc5=>Z c 173 [c3,c5] λda=>some (0,[(D.st [(Y b.2 10),da]),al,bT,(Y b.2 6),(Y b.2 7),(D.sl (aks (qV b.2 8) (Y b.2 10) bT)),(Y b.2 9)])))) λa5=>some (0,[bT,(Y b.2 0),(Y b.2 1),(Y b.2 2),(Y a5.2 0),(Y a5.2 1),(Y a5.2 2),(Y a5.2 3),(Y a5.2 4),(qW a5.2 5),(Y a5.2 6)]))) λl=>qn (Y l.2 0) (iR (0,[(Y l.2 1),(Y l.2 2),(Y l.2 3),(Y l.2 4),(Y l.2 5),(Y l.2 6)])) (qj (Y v11 1) λdR=>iL [(qW v11 0),dR,(Y l.2 1),(Y l.2 2),(Y l.2 3),(Y l.2 4),(Y l.2 5),(Y l.2 6),(qW l.2 9)])) (iR (1,[(qW v11 0),(Y v11 2),(Y v11 3),(Y v11 4),(Y v11 5),(Y v11 6),(Y v11 7),(qW v11 8)]))) [(qW v3 0),J0,(Y v3 2),(Y v3 3),(Y v3 4),(Y v3 5),(Y v3 6),(Y v3 7),(qW v3 8)] λk=>if k.1=0 then(iR (0,[(Y k.2 0),(Y k.2 1),(Y k.2 2),(Y k.2 3),(Y k.2 4),(Y k.2 5)])) else(qj (Y v3 1) λd0=>iL [(qW k.2 0),d0,(Y k.2 1),(Y k.2 2),(Y k.2 3),(Y k.2 4),(Y k.2 5),(Y k.2 6),(qW k.2 7)])) (iR (1,[(Y v3 2),(Y v3 3),(Y v3 4),(Y v3 5),(Y v3 6),(Y v3 7),(qW v3 8)]))) [(D.sl [r1,A]),J0,(D.st [(D.st [J0,J0,J0]),(D.st [(D.st [bF,bF,(az bf)]),(D.st [bF,bF,(az bf)])])]),r1,A,(D.st [(D.st [J0,J0,J0]),(D.st [(D.st [bF,bF,(az bf)]),(D.st [bF,bF,(az bf)])])]),(D.st [(D.st [bF,bF,(az bf)]),(D.st [bF,bF,(az bf)])]),bF,(D.sl [])] λm=>if m.1=0 then(some (1,[(Y m.2 0),(Y m.2 1),(Y m.2 2),(Y m.2 3),(Y m.2 4),(Y m.2 5)])) else(Z c 449 [A] λan=>Z c 449 [r1] λax=>qS ax λcf=>qy lp (λj=>qc .lss (Y j 0) (jl cf) (qX ax (Y j 0) λy=>qS an λch=>qy lp (λf=>qc .lss (Y f 0) (jl ch) (qX an (Y f 0) λd1=>Z c 450 [y,d1] λx=>qb (Z c 447 [x] λaI=>qp aI 0 λa9=>qp aI 1 λd2=>qb (qc .lss J1 J0 (Z c 97 [a9] λdb=>some (0,[(Y f 1),(Y f 2),(Y f 3),(Y f 4),(Y f 5),(Y f 6),(qW f 7),y,x,db])) (some (0,[(Y f 1),(Y f 2),(Y f 3),(Y f 4),(Y f 5),(Y f 6),(qW f 7),y,x,a9]))) λd=>qT (nq d2 J0) λb2=>qO b2 (D.truth (Option.getD (akr (qV d.2 6) (Y d.2 9)) bF)) (some (0,[bT,(Y d.2 0),(Y d.2 1),(Y d.2 2),(Y d.2 3),(Y d.2 4),(Y d.2 5),(qW d.2 6),(Y d.2 7),(Y d.2 8)])) (qb (Z c 434 [(Y d.2 9),(Y d.2 1),(Y d.2 2)] λt=>Z c 342 [t] λdk=>qc .lss dk J0 (some (0,[(Y d.2 3),(Y d.2 4),(Y d.2 5),(D.sl (aks (qV d.2 6) (Y d.2 9) bT)),(Y d.2 7),(Y d.2 8)])) (Z c 174 [t,t] λdm=>Z c 91 [(Y d.2 9),(Y d.2 9)] λdp=>Z c 54 [J1] λdq=>Z c 62 [dp,dq] λdr=>Z c 352 [dm,dr] λaO=>qT (Y d.2 5) λb7=>qA b7 (Z c 73 [aO,(Y d.2 4)] λds=>qh .leq ds J0) (some (0,[(Y d.2 3),(Y d.2 4),(Y d.2 5),(D.sl (aks (qV d.2 6) (Y d.2 9) bT)),(Y d.2 7),(Y d.2 8)])) (Z c 435 [(Y d.2 1),(Y d.2 9)] λK=>Z c 74 [J2] λL=>Z c 352 [t,L] λM=>Z c 173 [K,M] λN=>some (0,[(D.st [(Y d.2 9),N]),aO,bT,(D.sl (aks (qV d.2 6) (Y d.2 9) bT)),(Y d.2 7),(Y d.2 8)])))) λn=>some (0,[bT,(Y d.2 0),(Y d.2 1),(Y d.2 2),(Y n.2 0),(Y n.2 1),(Y n.2 2),(qW n.2 3),(Y n.2 4),(Y n.2 5)]))) λe=>qn (Y e.2 0) (iR (0,[(Y e.2 1),(Y e.2 2),(Y e.2 3),(Y e.2 4),(Y e.2 5),(Y e.2 6)])) (qb (Z c 447 [(Y e.2 9)] λu=>qp u 0 λw=>qp u 1 λa4=>qb (qc .lss (Jn (-1)) J0 (Z c 97 [w] λO=>some (0,[(Y e.2 1),(Y e.2 2),(Y e.2 3),(Y e.2 4),(Y e.2 5),(Y e.2 6),(qW e.2 7),(Y e.2 8),O])) (some (0,[(Y e.2 1),(Y e.2 2),(Y e.2 3),(Y e.2 4),(Y e.2 5),(Y e.2 6),(qW e.2 7),(Y e.2 8),w]))) λa=>qT (nq a4 J0) λB=>qO B (D.truth (Option.getD (akr (qV a.2 6) (Y a.2 8)) bF)) (some (0,[bT,(Y a.2 0),(Y a.2 1),(Y a.2 2),(Y a.2 3),(Y a.2 4),(Y a.2 5),(qW a.2 6),(Y a.2 7)])) (qb (Z c 434 [(Y a.2 8),(Y a.2 1),(Y a.2 2)] λr=>Z c 342 [r] λF=>qc .lss F J0 (some (0,[(Y a.2 3),(Y a.2 4),(Y a.2 5),(D.sl (aks (qV a.2 6) (Y a.2 8) bT)),(Y a.2 7)])) (Z c 174 [r,r] λE=>Z c 91 [(Y a.2 8),(Y a.2 8)] λR=>Z c 54 [J1] λS=>Z c 62 [R,S] λT=>Z c 352 [E,T] λv=>qT (Y a.2 5) λG=>qA G (Z c 73 [v,(Y a.2 4)] λU=>qh .leq U J0) (some (0,[(Y a.2 3),(Y a.2 4),(Y a.2 5),(D.sl (aks (qV a.2 6) (Y a.2 8) bT)),(Y a.2 7)])) (Z c 435 [(Y a.2 1),(Y a.2 8)] λV=>Z c 74 [J2] λW=>Z c 352 [r,W] λX=>Z c 173 [V,X] λz=>some (0,[(D.st [(Y a.2 8),z]),v,bT,(D.sl (aks (qV a.2 6) (Y a.2 8) bT)),(Y a.2 7)])))) λo=>some (0,[bT,(Y a.2 0),(Y a.2 1),(Y a.2 2),(Y o.2 0),(Y o.2 1),(Y o.2 2),(qW o.2 3),(Y o.2 4)]))) λg=>qn (Y g.2 0) (iR (0,[(Y g.2 1),(Y g.2 2),(Y g.2 3),(Y g.2 4),(Y g.2 5),(Y g.2 6)])) (qj (Y f 0) λa6=>iL [a6,(Y g.2 1),(Y g.2 2),(Y g.2 3),(Y g.2 4),(Y g.2 5),(Y g.2 6),(qW g.2 7)]))) (iR (1,[(Y f 1),(Y f 2),(Y f 3),(Y f 4),(Y f 5),(Y f 6),(qW f 7)]))) [J0,(Y j 1),(Y j 2),(Y j 3),(Y j 4),(Y j 5),(Y j 6),(qW j 7)] λh=>if h.1=0 then(iR (0,[(Y h.2 0),(Y h.2 1),(Y h.2 2),(Y h.2 3),(Y h.2 4),(Y h.2 5)])) else(qj (Y j 0) λa7=>iL [a7,(Y h.2 0),(Y h.2 1),(Y h.2 2),(Y h.2 3),(Y h.2 4),(Y h.2 5),(qW h.2 6)])) (iR (1,[(Y j 1),(Y j 2),(Y j 3),(Y j 4),(Y j 5),(Y j 6)]))) [J0,(Y m.2 0),(Y m.2 1),(Y m.2 2),(Y m.2 3),(Y m.2 4),(Y m.2 5),(qW m.2 6)] λi=>if i.1=0 then(some (1,[(Y i.2 0),(Y i.2 1),(Y i.2 2),(Y i.2 3),(Y i.2 4),(Y i.2 5)])) else(some (0,[(Y i.2 0),(Y i.2 1),(Y i.2 2),(Y i.2 3),(Y i.2 4),(Y i.2 5)])))) λp=>if p.1=0 then(some (D.tup [(Y p.2 3),(Y p.2 5)])) else(some (D.tup [(Y p.2 3),(Y p.2 5)]))
def acD:l 416 (m4 (Pg lp)):=Tn 0 Tryz.f43 aao a
def aap:Ann:=.t (.w (.t (.w (.p [(1,.s jp 4097),iz] [(4097,.k jp 1)] [] [(.r,mg),(.x 0,y [(1,.s jp 4097)] [(4097,.k jp 1)] [])] .o) .o)) .o)
def Ph(lp:q)(c:Ca)(a0:D):Option D:=qy lp (λv1=>qc .lss (Y v1 0) J3 (qi (Y v1 0) 3 λi4=>Q a0 [0,i4] λk=>qC .geq k (Jn 140737488355328) λj=>qO j (qi (Y v1 0) 3 λi8=>Q a0 [0,i8] λl=>qh .leq l (Jn (-140737488355328))) (iR (0,[bF])) (qj (Y v1 0) λg=>iL [g])) (iR (1,[]))) [J0] λa=>qr a (Q a0 [1] λh=>Z c 331 [h] λe=>some e)
def acE:l 427 (m1 (Ph lp)):=aY 0 Tryz.f32 aap a
def aaq:Ann:=.t (.t (.w (.t (.w (.loop ⟨[Wa2,Waa],D',[]⟩ [(.r,rf),(.x 0,⟨[Wa2],D',[]⟩)] (.t (.w (.w (.t (.w (.loop ⟨[Wa2,mI],D',[5]⟩ [(.r,rf),(.x 2,⟨[Wa2],D',[5]⟩)] .o) .o)) .o) .o))) .o)) .o))
def Pi(lp:q)(c:Ca)(a0 a1:D):Option D:=qP a0 [0] λr=>qc .gtr (jl r) a1 (some bF) (qy lp (λv5=>qm a0 [0] (Y v5 0) (qy lp (λv10=>qc .lss (Y v10 0) J3 (qY a0 [0] (Y v5 0) λi=>qi (Y v10 0) 3 λi17=>qf i i17 λj=>qC .gtr j (Jn 4096) λe=>qO e (qY a0 [0] (Y v5 0) λk=>qi (Y v10 0) 3 λi25=>qf k i25 λl=>qh .lss l (Jn (-4096))) (iR (0,[bF])) (qj (Y v10 0) λn=>iL [n])) (iR (1,[]))) [J0] λa=>if a.1=0 then(iR (0,[(Y a.2 0)])) else(qj (Y v5 0) λo=>iL [o])) (iR (1,[]))) [J0] λb=>qr b (Z c 15 [a0] λh=>some (bq h J0)))
def acF:l 431 (G (Pi lp)):=aQ 0 Tryz.f33 aaq a
end
end Sy
end
set_option maxHeartbeats 0
noncomputable section
namespace Sy
open Go Go.Proofs
section
variable{lp}(a:am lp)
def aar:Ann:=let a:LO:=[(4098,.k jp 2),sL,om,(28680,.e h (.v h))];(.t (.w Wab (.w (.t (.w (.p [WbR,Wa3,Wa4,(19,.i)] [(4098,.k jp 2),sL,om] [17,18] [(.x 0,y [Wa3,Wa4] [sL,om] [])] (.t (.t (.w (.w (.t (.t (.w (.t (.w (.p [WbR,Wa3,Wa4,(8,.s h 28680),(27,.i)] a [17,18,19] [(.x 2,y [WbR,Wa3,Wa4,(8,.s h 28680)] a [17,18,19])] (.t (.t (.w (.w (.t WaJ) .o) .o)))) .o)) .o))) .o) .o)))) .o)) .o)))
def Pj(lp:q)(c:Ca)(a0 a1:D):Option D:=Q a0 [1] λx1=>Z c 385 [x1] λs=>Q a1 [0] λp=>qS p λr=>qy lp (λv5=>qc .lss (Y v5 0) (jl r) (qX p (Y v5 0) λg=>Q a0 [1] λh=>Z c 386 [h,g] λf=>qy lp (λa=>qc .lss (Y a 0) J3 (qJ (Y a 0) 3 (Y a 9) λi=>qi (Y a 0) 3 λi18=>Q a0 [0,i18] λj=>P .mul (Y a 7) j λk=>P .add i k λl=>qi (Y a 0) 3 λi22=>qs (Y a 9) [i22] l λm=>qj (Y a 0) λn=>iL [n,(Y a 1),(qW a 2),(Y a 3),(qW a 4),(Y a 5),(Y a 6),(Y a 7),(qW a 8),m]) (iR (0,[(Y a 1),(qW a 2),(Y a 3),(qW a 4),(Y a 5),(Y a 6),(Y a 7),(qW a 8),(Y a 9)]))) [J0,(Y v5 1),(qW v5 2),(Y v5 3),(qW v5 4),(Y v5 5),(Y v5 6),(Y v5 7),(qW v5 8),f] λb=>qu (qV b.2 7) [(Y b.2 8)] (qj (Y v5 0) λo=>iL [o,(Y b.2 0),(qW b.2 1),(Y b.2 2),(qW b.2 3),(Y b.2 4),(Y b.2 5),(Y b.2 6),(D.sl ((qV b.2 7)++[(Y b.2 8)]))])) (iR (0,[(Y v5 1),(qW v5 2),(Y v5 3),(qW v5 4),(Y v5 5),(Y v5 6),(Y v5 7),(qW v5 8)]))) [J0,(D.st [(D.st [J0,J0,J0]),(D.st [J0,J0,J0,J0])]),(D.sl []),J0,(D.sl []),a0,a1,s,(D.sl [])] λd=>some (D.st [(Y d.2 4),(Y d.2 5),(Y d.2 6),(qW d.2 7)])
def acG:l 433 (G (Pj lp)):=aQ 0 Tryz.f86 aar a
def aas:Ann:=.t ng
def Pm(lp:q)(c:Ca)(a0 a1 a2:D):Option D:=Z c 97 [a0] λr1=>Z c 435 [a2,r1] λa=>Z c 435 [a1,a0] λb=>Z c 173 [a,b] λd=>Z c 357 [d] λe=>some e
def acH:l 434 (m3 (Pm lp)):=kN 0 Tryz.f102 aas a
def aat:Ann:=let a:LO:=[(4098,.k cF 2),k7,I',oj];(.t (.w Wab (.w (.t (.w (.p [WbS,mb,fw,sd,(19,.i)] a [17,18] [(.x 0,y [WbS,fw,sd] [(4098,.k cF 2),I',oj] [])] (.t (.t (.cut [(.m,y [WbS,mb,fw,sd] a [17,18,19])] [17,18,19] [4098,4099,4100] .o .o)))) .o)) vb)))
def Pn(lp:q)(c:Ca)(a0 a1:D):Option D:=qY a0 [3] J0 λp=>Z c 91 [a1,p] λo=>qP a0 [3] λm=>(D.cut m 1 (m.length)).bind λn=>qy lp (λv9=>qc .lss (Y v9 0) (jl n) (qb (qI (Y v9 0) n λj=>Z c 91 [a1,j] λa=>Z c 90 [a,(Y v9 1)] λe=>qc .gtr e J0 (some (0,[a])) (some (0,[(Y v9 1)]))) λf=>qj (Y v9 0) λk=>iL [k,(Y f.2 0)]) (iR (0,[(Y v9 1)]))) [J0,o] λg=>Q a0 [2] λl=>Z c 54 [l] λh=>Z c 62 [(Y g.2 0),h] λi=>some i
def acI:l 435 (G (Pn lp)):=aQ 0 Tryz.f87 aat a
def aau:Ann:=let a:LO:=[Wbv,(4098,.k h 2),(8196,.e c (.v c))];(.t (.t (.w (.t (.w (.p [Wak,ky,gb,(14,.i)] a [13] [(.x 0,y [Wak,ky,gb] a [])] .o) .o)) (.t (.t (.w (.t (.w (.p [ky,gb,(7,.s h 28679),(31,.i)] [im,Wbz,(28679,.e h (.v h))] [30] [(.r,y [ky,iz] [im] []),(.x 3,y [ky,(7,.s h 28679)] [im,(28679,.e h (.v h))] [])] .o) .o)) .o))))))
def Po(lp:q)(c:Ca)(a0:D):Option D:=Z c 54 [J0] λr1=>qy lp (λv2=>qc .lss (Y v2 0) J3 (qi (Y v2 0) 3 λi5=>qf a0 i5 λz=>Z c 131 [(Y v2 1),z] λy=>qj (Y v2 0) λA=>iL [A,y]) (iR (0,[(Y v2 1)]))) [J0,r1] λp=>Q (Y p.2 0) [0] λf=>qt f (some (D.tup [(D.st [J0,J0,J0]),(Jn 30)])) (Z c 129 [(Y p.2 0)] λn=>qt (bq n J0) (some (D.tup [(D.st [J0,J0,J0]),(Jn 31)])) (qy lp (λa=>qc .lss (Y a 0) J3 (qi (Y a 0) 3 λi17=>qf a0 i17 λr=>Z c 132 [r,(Y p.2 0)] λo=>Z c 202 [o] λe=>qp e 0 λd=>qp e 1 λs=>qN s λi=>qo i (qh .geq d (Jn 2305843009213693952)) λk=>qO k (qh .leq d (Jn (-2305843009213693952))) (iR (0,[(Jn 30),(D.st [J0,J0,J0])])) (qi (Y a 0) 3 λi31=>qs (Y a 2) [i31] d λv=>qj (Y a 0) λw=>iL [w,(Y a 1),v])) (iR (1,[(Y a 1),(Y a 2)]))) [J0,(D.st [J0,J0,J0]),(D.st [J0,J0,J0])] λb=>if b.1=0 then(some (D.tup [(Y b.2 1),(Y b.2 0)])) else(some (D.tup [(Y b.2 1),J0]))))
def acJ:l 447 (m1 (Po lp)):=aY 0 Tryz.f182 aau a
def aav:Ann:=vv
def Pp(lp:q)(c:Ca)(a0:D):Option D:=Q a0 [0] λx1=>Z c 54 [x1] λa=>Q a0 [1] λe=>Z c 54 [e] λb=>Q a0 [2] λf=>Z c 54 [f] λd=>some (D.st [a,b,d])
def acK:l 448 (m1 (Pp lp)):=aY 0 Tryz.f184 aav a
def aaw:Ann:=.t (.t (.w (.t (.w (.p [(1,.s cF 4097),Wbc,WaG] [(4097,.k cF 1)] [8,9] [(.x 0,S1 [Wbc])] (.t (.t (.w (.w (.t (.g [] 21)) .o) .o)))) .o)) .o))
def Pq(lp:q)(c:Ca)(a0:D):Option D:=Q a0 [1] λx1=>Z c 21 [x1] λm=>qS m λp=>qy lp (λv4=>qc .lss (Y v4 1) (jl p) (qX m (Y v4 1) λn=>Q a0 [0,1] λe=>Q a0 [1,0] λf=>Q n [1] λg=>qX f g λh=>Q a0 [1,0] λi=>Q n [0] λj=>qX i j λk=>Z c 103 [h,k] λb=>Z c 386 [e,b] λa=>qu (qV v4 0) [a] (qj (Y v4 1) λl=>iL [(D.sl ((qV v4 0)++[a])),l])) (iR (0,[(qW v4 0)]))) [(D.sl []),J0] λd=>some (qW d.2 0)
def acL:l 449 (m1 (Pq lp)):=aY 0 Tryz.f185 aaw a
def aax:Ann:=Wbg
def Pr(lp:q)(c:Ca)(a0 a1:D):Option D:=Z c 148 [a0] λr1=>Z c 148 [a1] λa=>Z c 456 [r1,a] λb=>some b
def acM:l 450 (G (Pr lp)):=aQ 0 Tryz.f186 aax a
def aay:Ann:=.t (.w (.t (.w (.p [Wa0,(3,.s ku 4099),(4,.s ku 4100),fl] [(4098,.k ku 2),(4099,.k ku 3),(4100,.e ku (.v ku))] [] [(.x 0,y [(4,.s ku 4100)] [(4100,.e ku (.v ku))] [])] (.t (.t (.w (.w (.t (.t (.g [] 17))) .o) .o)))) .o)) .o)
def Ps(lp:q)(c:Ca)(a0 a1:D):Option D:=qy lp (λv1=>qc .lss (Y v1 0) J3 (qj (Y v1 0) λn=>P .rem n J3 λk=>P .add (Y v1 0) J2 λo=>P .rem o J3 λl=>qJ k 3 a0 λp=>qJ l 3 a1 λf=>Z c 61 [p,f] λa=>qJ l 3 a0 λg=>qJ k 3 a1 λh=>Z c 61 [g,h] λb=>Z c 203 [a,b] λd=>qi (Y v1 0) 3 λi19=>qs (Y v1 1) [i19] d λi=>qj (Y v1 0) λj=>iL [j,i]) (iR (0,[(Y v1 1)]))) [J0,(D.st [(D.st [bF,bF,(az bf)]),(D.st [bF,bF,(az bf)]),(D.st [bF,bF,(az bf)])])] λe=>some (Y e.2 0)
def acN:l 456 (G (Ps lp)):=aQ 0 Tryz.f263 aay a
def aaz:Ann:=.t (.t (.t (.t (.t (.t (.t (.w (.t (.w (.p [Wa5,WbT,WbU,WbV,(15,.ow Ks),(16,.ow Ks),(17,.s j 28689),(70,.i)] [WaF,WbA,WbB,WbC,(28689,.e j (.v j))] [5,13,68,69] [(.x 0,y [Wa5,WbT,WbU,WbV,(15,.ow Ks),(16,.ow Ks)] [WaF,WbA,WbB,WbC] [])] (.t (.t (.w (.w (.t (.t (.w X' (.t (.cut [(.m,y [Wa5,WbT,WbU,WbV,(15,.ow Ks),(16,.ow Ks),(17,.s j 28689),(19,.s Ks 45075)] [WaF,WbA,WbB,WbC,(28689,.k j 17),(45075,.k Ks 19)] [5,13,68,69,70])] [5,13,68,69,70] [4102,4103,4104,4105,28689,45075] (.t ng) .o))))) .o) .o)))) .o)) .o)))))))
def Pt(lp:q)(c:Ca)(a0 a1:D)(a2 a3:D)(a4 a5:D):Option D:=Z c 471 [a0,a1,a2,a3,(Jn 8)] λr1=>qn r1 (Z c 473 [] λV=>some V) (qw .i64 a4 λW=>P .rem W (Jn 5) λX=>Z c 474 [a0,a1,a2,a3,X] λT=>qp T 0 λe=>qp T 1 λS=>qt (nq S J0) (Z c 473 [] λB=>qT B λj=>qa j (qS e λx=>D.truth (bq (jl x) J0)) λl=>(qe l (qt (bq S (Jn 150)) (some true) (D.truth (bq S (Jn 160)))) (some false)).bind λn=>some (D.bool n)) (qS e λy=>qT (bq (jl y) J0) λo=>qO o (Z c 481 [a0,a1,a2,a3,e] λC=>qz C) (some bF) (Z c 74 [J0] λE=>qS e λz=>qy lp (λv26=>qc .lss (Y v26 2) (jl z) (qX e (Y v26 2) λa=>Q a [1,0] λL=>Z c 97 [L] λF=>Q a [1,1] λM=>Z c 357 [M] λG=>qs a [1] (D.st [F,G]) λd=>qu (qV v26 0) [d] (qb (qw .i64 a5 λN=>qS e λA=>P .rem N (jl A) λO=>qt (bq (Y v26 2) O) (Q a [0] λu=>Z c 485 [(Y v26 3),u] λf=>Q a [1] λh=>qu (qV v26 1) [(D.st [f,h])] (some (0,[(D.sl ((qV v26 0)++[d])),(D.sl ((qV v26 1)++[(D.st [f,h])]))]))) (some (0,[(D.sl ((qV v26 0)++[d])),(qW v26 1)]))) λb=>qu (qV b.2 1) [a] (Q a [0] λa6=>qj (Y v26 2) λR=>iL [(qW b.2 0),(D.sl ((qV b.2 1)++[a])),R,a6]))) (iR (0,[(qW v26 0),(qW v26 1)]))) [(D.sl []),(D.sl []),J0,E] λg=>Z c 473 [] λH=>qT H λt=>qa t (Z c 481 [a2,a3,a0,a1,(qW g.2 0)] λI=>D.truth I) λv=>(qe v (Z c 481 [a0,a1,a2,a3,(qW g.2 1)] λJ=>D.truth J) (some false)).bind λw=>some (D.bool w))))
def WI:l 469 (m6 (Pt lp)):=Md 0 Tryz.f5 aaz a
def aaA:Ann:=let a:LO:=[(4102,.k K3 6),(4104,.k K3 8)];(.t (.t (.w (.t (.w (.p [Wan,Wao,(11,.ow jp),(12,.i)] a [4] [(.r,ov),(.x 0,y [Wan,Wao] a [4])] (.t (.w (.w (.w (.t (.w (.p [Wan,Wao,(11,.ow jp),(13,.i)] a [4,12] [(.r,ov),(.x 2,y [Wan,Wao,(11,.ow jp)] a [4,12])] .o) .o)) .o) .o) .o))) .o)) .o)))
def Pu(lp:q)(c:Ca)(a0 a1:D)(a2 a3 a4:D):Option D:=Q a0 [0] λx1=>Q a0 [1] λz=>Q a2 [0] λA=>Q a2 [1] λB=>qy lp (λv5=>qc .lss (Y v5 1) (Jn 4) (qy lp (λb=>qc .lss (Y b 1) J3 (qi (Y v5 1) (List.length (qV b 0)) λi11=>((qV b 0)[i11]?).bind λo=>qf o 0 λp=>qi (Y b 1) 3 λi14=>qf p i14 λh=>qC .gtr h (Jn 1000) λf=>qO f (qi (Y v5 1) (List.length (qV b 0)) λi18=>((qV b 0)[i18]?).bind λr=>qf r 0 λs=>qi (Y b 1) 3 λi21=>qf s i21 λt=>qh .lss t (Jn (-1000))) (iR (0,[bF])) (qj (Y b 1) λv=>iL [(qW b 0),v])) (iR (1,[(qW b 0)]))) [(qW v5 0),J0] λa=>if a.1=0 then(iR (0,[(Y a.2 0)])) else(qi (Y v5 1) (List.length (qV a.2 0)) λi28=>((qV a.2 0)[i28]?).bind λw=>Z c 427 [w] λl=>qn l (iR (0,[bF])) (qj (Y v5 1) λx=>iL [(qW a.2 0),x]))) (iR (1,[]))) [(D.sl [x1,z,A,B]),J0] λd=>qr d (Z c 431 [a1,a4] λm=>qT m λj=>(qe j (Z c 431 [a3,a4] λn=>D.truth n) (some false)).bind λk=>some (D.bool k))
def acO:l 471 (m5 (Pu lp)):=Hh 0 Tryz.f7 aaA a
def Wy:Ann:=.t (.t (.t (.w ir (.w ir (.w ir (.w ir (.t (.t (.w (.g [] 33) (.t (.w (.g [] 28) .o)))))))))))
def acP:l 473 (B6 0 lp 473 Tryz.f9 Wy):=mY a B B
def aaB:Ann:=.t (.t (.t (.t (.t oq))))
def Pv(lp:q)(c:Ca)(a0 a1:D)(a2 a3 a4:D):Option D:=qC .lss a4 J0 λb2=>qO b2 (qh .gtr a4 (Jn 12)) (some (D.tup [(D.sl []),J1])) (Q a0 [0] λw=>Q a2 [0] λx=>Z c 416 [w,a1,x,a3] λr=>qp r 0 λy=>qp r 1 λk=>Q a0 [1] λl=>Q a2 [1] λm=>Z c 416 [l,a1,m,a3] λa=>qp a 0 λu=>qp a 1 λn=>qN k λd=>qO d (qz n) (some (D.tup [(D.sl []),(Jn 150)])) (Z c 74 [J0] λi=>Z c 74 [J1] λj=>Z c 479 [a0,a1,a2,a3,i,j,a4] λb=>qp b 0 λp=>qS p λh=>qp b 1 λf=>qn f (some (D.tup [(D.sl []),(Jn 160)])) (some (D.tup [(D.sl h),J0]))))
def acQ:l 474 (m5 (Pv lp)):=Hh 0 Tryz.f10 aaB a
def aaC:Ann:=let b:LO:=[ez,eB,eE,eF,eL,eU,Z',mu,(36864,.lp (some (.ret)) 0)];let a:LS:=[iA];(.t (.w (.w Wbf (.w (.t (.w (.p [iA,(2,.s dG 16390),(3,.s K3 16391),(4,.s dG 16392),(5,.s K3 16393),Wbq,(13,.i)] [ez,eB,eE,eF,eL,eU,Z',mu,(16390,.k dG 2),(16391,.k K3 3),(16392,.k dG 4),(16393,.k K3 5),(20493,.k oo 1),WaR,Y'] [12] [(.r,y a b []),(.x 0,y a [ez,eB,eE,eF,eL,eU,Z',mu,Y'] [])] (.t (.t (.cut [(.m,y [iA,(2,.s dG 16390),(3,.s K3 16391),(4,.s dG 16392),(5,.s K3 16393),Wbq] [ez,eB,eE,eF,eL,eU,Z',mu,(16390,.k dG 2),(16391,.k K3 3),(16392,.k dG 4),(16393,.k K3 5),(20493,.e oo (.v oo)),WaR,Y'] [12,13]),(.r,y a b [])] [12,13] [16390,16391,16392,16393,36864] (.w (.t (.w (.g [] 13) (.t (.w (.regI [] 20 Wbe) .o)))) .o) .o)))) .o)) .o)) .o))
def Pw(lp:q)(c:Ca)(a0 a1:D)(a2 a3:D)(a4 a5:D):Option D:=Z c 485 [a4,a5] λr1=>qy lp (λv2=>qc .lss (Y v2 0) J3 (qb (qi (Y v2 0) 3 λi5=>qf (D.st [r1,a4,a5]) i5 λs=>Z c 508 [a0,s] λu=>Z c 508 [a2,s] λv=>Z c 416 [u,a1,v,a3] λr=>qp r 0 λd=>qp r 1 λn=>qn n (some (0,[(Y v2 1),(Y v2 2),(Y v2 3),(Y v2 4),(Y v2 5),(Y v2 6),(Y v2 7),(Y v2 8),(D.st [r1,a4,a5])])) (Q d [0] λf=>Q d [0] λo=>Z c 507 [o,a0,a1,(D.st [r1,a4,a5])] λi=>Q d [0] λp=>Z c 97 [p] λj=>Z c 507 [j,a2,a3,(D.st [r1,a4,a5])] λk=>Z c 357 [k] λl=>Z c 490 [i,l] λe=>Z c 483 [(D.st [f,e]),(Y v2 1),(Y v2 2),(Y v2 3),(Y v2 4),(Y v2 5),(Y v2 6)] λm=>qt m (some (1,[(Y v2 1),(Y v2 2),(Y v2 3),(Y v2 4),(Y v2 5),(Y v2 6),(D.st [f,e]),bT])) (some (0,[(Y v2 1),(Y v2 2),(Y v2 3),(Y v2 4),(Y v2 5),(Y v2 6),(Y v2 7),(Y v2 8),(D.st [r1,a4,a5])])))) λa=>if a.1=0 then(qj (Y v2 0) λh=>iL [h,(Y a.2 0),(Y a.2 1),(Y a.2 2),(Y a.2 3),(Y a.2 4),(Y a.2 5),(Y a.2 6),(Y a.2 7)]) else(iR (0,[(Y a.2 0),(Y a.2 1),(Y a.2 2),(Y a.2 3),(Y a.2 4),(Y a.2 5),(Y a.2 6),(Y a.2 7)]))) (iR (1,[(Y v2 1),(Y v2 2),(Y v2 3),(Y v2 4),(Y v2 5),(Y v2 6),(Y v2 7),(Y v2 8)]))) [J0,a0,a1,a2,a3,a4,a5,(D.st [(D.st [J0,J0,J0]),(D.st [(D.st [bF,bF,(az bf)]),(D.st [bF,bF,(az bf)])])]),bF] λb=>if b.1=0 then(some (D.tup [(Y b.2 6),(Y b.2 7)])) else(some (D.tup [(D.st [(D.st [J0,J0,J0]),(D.st [(D.st [bF,bF,(az bf)]),(D.st [bF,bF,(az bf)])])]),bF]))
def acR:l 476 (m6 (Pw lp)):=Md 3 Tryz.f12 aaC a
def Wz:Ann:=tk
def acS:l 478 (B6 0 lp 478 Tryz.f14 Wz):=mY a B B
def Px(lp:q)(c:Ca)(a0 a1:D)(a2 a3:D)(a4 a5 a6:D):Option D:=Z c 476 [a0,a1,a2,a3,a4,a5] λr1=>qp r1 0 λp=>qp r1 1 λf=>qt f (some (D.tup [(D.sl [(D.st [a5,p])]),bT])) (qc .leq a6 J0 (some (D.tup [(D.sl []),bF])) (Z c 485 [a4,a5] λl=>P .sub a6 J1 λr=>Z c 479 [a0,a1,a2,a3,a4,l,r] λm=>qp m 0 λg=>qS g λa=>qp m 1 λh=>qn h (some (D.tup [(D.sl []),bF])) (P .sub a6 J1 λi=>Z c 479 [a0,a1,a2,a3,l,a5,i] λd=>qp d 0 λj=>qS j λb=>qp d 1 λk=>qn k (some (D.tup [(D.sl []),bF])) (qu a b (some (D.tup [(D.sl (a++b)),bT]))))))
def acT:l 479 (m7 (Px lp)):=Tp 0 Tryz.f15 .leaf a
end
end Sy
end
set_option maxHeartbeats 0
noncomputable section
namespace Sy
open Go Go.Proofs
section
variable{lp}(a:am lp)
def aaD:Ann:=.t (.t (.w (.t (.w (.p [Wa6,Wan,(7,.s dG 4103),Wao,(11,.s j 8203),(12,.s j 8204),(19,.i)] [WbD,(4102,.k K3 6),(4103,.k dG 7),(4104,.k K3 8),(8203,.e j (.v j)),(8204,.k j 12)] [17,18] [(.r,ov),(.x 0,y [(11,.s j 8203),(12,.s j 8204)] [(8203,.e j (.v j)),(8204,.k j 12)] [])] .o) .o)) .o))
def Py(lp:q)(c:Ca)(a0 a1:D)(a2 a3 a4:D):Option D:=Z c 74 [J0] λr1=>Z c 74 [J1] λF=>qS a4 λH=>qy lp (λv4=>qc .lss (Y v4 0) (jl H) (qX a4 (Y v4 0) λb=>Q b [0] λs=>Z c 136 [s] λm=>qN m λd=>qo d (Q b [0] λt=>Z c 73 [t,(Y v4 1)] λn=>qh .leq n J0) λf=>qo f (Q b [0] λv=>Z c 73 [v,F] λo=>qh .gtr o J0) λh=>qo h (Q b [0,1] λx=>Z c 54 [(Jn 1048576)] λp=>Z c 90 [x,p] λl=>qh .gtr l J0) λj=>qO j (Q b [1] λz=>Q b [0] λA=>Z c 483 [z,a0,a1,a2,a3,(Y v4 1),A] λr=>qz r) (iR (0,[bF])) (Q b [0] λC=>qj (Y v4 0) λE=>iL [E,C])) (iR (1,[(Y v4 1)]))) [J0,r1] λa=>qr a (some (bq (Y a.2 0) F))
def acU:l 481 (m5 (Py lp)):=Hh 0 Tryz.f18 aaD a
def Ki(lp:q)(c:Ca)(a0 a1:D)(a2 a3:D)(a4 a5 a6:D):Option D:=Z c 496 [a0] λr1=>qn r1 (some bF) (Z c 497 [a1,a2,(Jn (-1)),a0,a5,a6] λe=>qT e λb=>(qe b (Z c 497 [a3,a4,J1,a0,a5,a6] λf=>D.truth f) (some false)).bind λd=>some (D.bool d))
def acV:l 483 (m7 (Ki lp)):=Tp 1 Tryz.f21 .leaf a
def Pz(lp:q)(c:Ca)(a0 a1:D):Option D:=Z c 173 [a0,a1] λr1=>Z c 333 [J1,J2] λa=>Z c 174 [r1,a] λb=>some b
def acW:l 485 (G (Pz lp)):=aQ 0 Tryz.f25 .leaf a
def aaE:Ann:=.t (.t (.t (.w (.t (.w (.p [(5,.s j 4101),(6,.s oo 4102),(7,.s Aq 8199),(9,.s oo 12297),(17,.i)] [(4101,.k j 5),(4102,.k oo 6),(8199,.k Aq 7),(12297,.e oo (.v oo))] [8] [(.x 0,y [(6,.s oo 4102),(9,.s oo 12297)] [(4102,.k oo 6),(12297,.e oo (.v oo))] [])] V') .o)) .o)))
def PA(lp:q)(c:Ca)(a0 a1 a2:D):Option D:=Z c 505 [a0,a1] λr1=>qp r1 0 λi=>qp r1 1 λj=>qy lp (λv4=>qc .lss (Y v4 0) J3 (qJ (Y v4 0) 3 i λk=>Z c 506 [k,a2] λh=>Z c 506 [j,a2] λa=>Z c 352 [h,a] λb=>qi (Y v4 0) 3 λyb=>qs (Y v4 1) [yb] b λe=>qj (Y v4 0) λf=>iL [f,e]) (iR (0,[(Y v4 1)]))) [J0,(D.st [(D.st [(D.st [bF,bF,(az bf)]),(D.st [bF,bF,(az bf)])]),(D.st [(D.st [bF,bF,(az bf)]),(D.st [bF,bF,(az bf)])]),(D.st [(D.st [bF,bF,(az bf)]),(D.st [bF,bF,(az bf)])])])] λd=>some (Y d.2 0)
def acX:l 486 (m3 (PA lp)):=kN 0 Tryz.f30 aaE a
def WA:Ann:=let a:LO:=[(4096,.e K3 (.st [K2] [.ow h])),(8193,.e K3 (.st [K2] [.ow h]))];(.t (.t (.w (.t (.w (.p [(0,.s K3 4096),(1,.s K3 8193),iz] a [] [(.x 0,y [(0,.s K3 4096),(1,.s K3 8193)] a [])] .o) .o)) .o)))
def acY:l 487 (B6 0 lp 487 Tryz.f39 WA):=mY a B B
def acZ:l 488 (B6 0 lp 488 Tryz.f40 .leaf):=mY a B B
def aaF:Ann:=.t (.w (.w (.t (.t (.t (.t (.t (.w nf .o)))))) .o) (.t fx))
def Kj(lp:q)(c:Ca)(a0 a1:D):Option D:=Z c 136 [a0] λr1=>qN r1 λI=>qo I (Z c 136 [a1] λL=>qz L) λK=>qO K (Z c 73 [a0,a1] λM=>qh .gtr M J0) (Z c 130 [] λk=>some k) (Z c 342 [a0] λl=>qC .leq l J0 λf=>qA f (Z c 342 [a1] λm=>qh .geq m J0) (Z c 74 [J0] λn=>some n) (Z c 342 [a1] λo=>qc .lss o J0 (Z c 357 [a1] λp=>Z c 357 [a0] λh=>Z c 490 [p,h] λr=>Z c 357 [r] λs=>some s) (Z c 509 [a0] λt=>Z c 138 [t] λb=>Z c 73 [b,a1] λu=>qc .leq u J0 (some b) (Z c 510 [a0] λv=>Z c 138 [v] λa=>Z c 74 [J1] λw=>Z c 74 [J1] λx=>Z c 336 [a1,a] λy=>Z c 352 [x,y] λz=>Z c 74 [J1] λA=>Z c 336 [a0,a] λB=>Z c 352 [A,B] λC=>Z c 490 [z,C] λE=>Z c 352 [w,E] λF=>Z c 173 [a,F] λG=>some G))))
def ac0:l 490 (G (Kj lp)):=aQ 0 Tryz.f46 aaF a
def aaG:Ann:=.t (.w (.t (.w (.p [(1,.s eh 4097),Wau] [(4097,.k eh 1)] [6] [(.r,mg),(.x 0,y [(1,.s eh 4097)] [(4097,.k eh 1)] [])] .o) .o)) .o)
def PC(lp:q)(c:Ca)(a0:D):Option D:=Q a0 [0] λx1=>qy lp (λv2=>qc .lss (Y v2 0) J3 (qi (Y v2 0) 3 λi5=>qf x1 i5 λk=>qC .geq k (Jn 2305843009213693952) λm=>qO m (qh .leq k (Jn (-2305843009213693952))) (iR (0,[bF])) (qj (Y v2 0) λh=>iL [h])) (iR (1,[]))) [J0] λa=>qr a (Q a0 [0] λi=>qT (nq i (D.st [J0,J0,J0])) λe=>(qe e (Q a0 [1] λj=>Z c 136 [j] λg=>D.truth g) (some false)).bind λf=>some (D.bool f))
def ac1:l 496 (m1 (PC lp)):=aY 0 Tryz.f62 aaG a
def aaH:Ann:=let a:LO:=[(0,.k eh 3),(1,.k j 4),(2,.k j 5)];(.t (.w (.t (.w (.p [(3,.s eh 0),(4,.s j 1),(5,.s j 2),Wa5,WbK] [(0,.k eh 3),(1,.k j 4),(2,.k j 5),WaF] [2,13,14] [(.r,y [(3,.s eh 0),(4,.s j 1),(5,.s j 2),WaW] a []),(.x 0,y [(3,.s eh 0),(4,.s j 1),(5,.s j 2)] a [])] (.t (.t (.w (.w vv .o) .o)))) .o)) .o))
def PD(lp:q)(c:Ca)(a0 a1:D)(a2 a3:D)(a4 a5:D):Option D:=Q a1 [0] λx1=>qS x1 λi=>qy lp (λv3=>qc .lss (Y v3 0) (jl i) (qX x1 (Y v3 0) λk=>Z c 500 [a0,k,a3] λj=>Z c 54 [a2] λd=>Z c 499 [j,d] λe=>Z c 498 [e,a4,a5] λf=>qn f (iR (0,[bF])) (qj (Y v3 0) λg=>iL [g])) (iR (1,[]))) [J0] λa=>qr a (some bT)
def ac2:l 497 (m6 (PD lp)):=Md 0 Tryz.f63 aaH a
def aaI:Ann:=.t (.t (.w (.t (.w (.p [(8,.b),(20,.i)] [] [18,19] [(.x 0,S1 [(8,.b)])] .o) .o)) .o))
def PE(lp:q)(c:Ca)(a0 a1 a2:D):Option D:=Z c 516 [a0,a1,a2] λr1=>qp r1 0 λi=>qp r1 1 λl=>qS i λk=>qy lp (λv5=>qc .lss (Y v5 1) (jl k) (qX i (Y v5 1) λf=>qT (Y v5 0) λa=>(qe a (Z c 129 [f] λd=>qh .geq d J0) (some false)).bind λb=>qj (Y v5 1) λh=>iL [(D.bool b),h]) (iR (0,[(Y v5 0)]))) [l,J0] λe=>some (Y e.2 0)
def ac3:l 498 (m3 (PE lp)):=kN 0 Tryz.f64 aaI a
def aaJ:Ann:=.t (.t (.w (.regI [] 4 (.w (.t (.t (.w (.regI [] 8 (.w (.t (.t (.w (.t (.w (.loop ⟨rk,[(4099,.e c (.v c)),(20483,.e cq (.v cq)),(20484,.e cq (.ow c)),(20485,.fv (.clo 141 [(.ptr c 4099 [])]))],[14]⟩ [(.r,rz),(.x 0,sy)] wb) .o)) zb))) .o)) .o))) .o)) .o))
def PF(lp:q)(c:Ca)(a0 a1:D):Option D:=Z c 517 [a1] λr1=>qn r1 (Z c 518 [] λN=>some N) (Z c 546 [a0] λO=>qT O λK=>qO K (Z c 546 [(D.sl [])] λh=>D.truth h) (Z c 518 [] λu=>some u) (qS a0 λn=>(D.max2 (jl n) J0).bind λg=>(D.max2 g J0).bind λC=>(D.natOf C).bind λi14=>if i14<=1073741824 then((D.max2 g J0).bind λE=>qy lp (λa=>qc .lss (Y a 1) E (Z c 550 [(Y a 3),(Y a 1)] λv=>Z c 550 [(qW a 4),(Y a 1)] λw=>Z c 519 [v,w,(Y a 2)] λx=>Z c 552 [x] λd=>Z c 517 [d] λy=>qn y (Z c 518 [] λz=>iR (0,[z])) (qu (qV a 0) [d] (qj (Y a 1) λF=>iL [(D.sl ((qV a 0)++[d])),F,(Y a 2),(Y a 3),(qW a 4)]))) (iR (1,[(qW a 0)]))) [(D.sl []),J0,a1,a0,(D.sl [])] λe=>qr e (qy lp (λb=>qS (Y b 0) λo=>qC .gtr (jl o) J0 λj=>qA j (qS (Y b 0) λp=>P .sub (jl p) J1 λG=>qX (Y b 0) G λH=>Z c 129 [H] λA=>D.truth (bq A J0)) (qS (Y b 0) λl=>P .sub (jl l) J1 λI=>qS (Y b 0) λr=>(D.natOf I).bind λi44=>(D.cut r 0 i44).bind λs=>iL [(D.sl s)]) (iR (0,[(Y b 0)]))) [(qW e.2 0)] λf=>qS (Y f.2 0) λt=>qc .gtr (jl t) (Jn 25) (Z c 518 [] λB=>some B) (some (Y f.2 0)))) else none))
def ac4:l 499 (G (PF lp)):=aQ 4 Tryz.f65 aaJ a
def aaK:Ann:=.t (.t (.t (.w (.t (.w (.p [(5,.s eh 4101),(9,.v cq),(19,.i)] [(4101,.k eh 5)] [8,18] [(.x 0,y [(5,.s eh 4101),(9,.v cq)] [(4101,.k eh 5)] [8])] .o) .o)) ot)))
def PH(lp:q)(c:Ca)(a0 a1 a2:D):Option D:=Z c 505 [a0,a1] λr1=>qp r1 0 λn=>qp r1 1 λo=>qy lp (λv4=>qc .lss (Y v4 1) J3 (qi (Y v4 1) 3 λi7=>qf n i7 λp=>qi (Y v4 1) 3 λi9=>Q a2 [0,i9] λi=>Z c 54 [i] λa=>Z c 499 [p,a] λb=>Z c 520 [(Y v4 0),b] λd=>qj (Y v4 1) λj=>iL [d,j]) (iR (0,[(Y v4 0)]))) [(D.sl []),J0] λe=>Q a2 [1,1] λk=>Z c 499 [(Y e.2 0),k] λf=>Q a2 [1,0] λl=>Z c 499 [o,l] λg=>Z c 521 [f,g] λh=>some h
def ac5:l 500 (m3 (PH lp)):=kN 0 Tryz.f66 aaK a
def aaL:Ann:=let a:LO:=[(4098,.k dG 2),k7,(4100,.k Aq 4),(86030,.k WH 14),(90127,.e Aq (.v Aq))];(.t (.w WaY (.w WaI (.t (.t (.w (.regI [] 57 .o) (.t (.w (.t (.w (.p [Wap,mb,Wa7,Wbr,Waz,(89,.i)] a [7] [(.x 0,y [Wa7,Waz] [(4100,.k Aq 4),(90127,.e Aq (.v Aq))] [7])] (.t (.t (.w (.w (.t (.w (.g [] 22) (.t (.w (.p [Wap,mb,Wa7,Wbr,Waz,(115,.i)] a [7,16,89,114] [(.x 2,y [Wap,mb,Wa7,Wbr,Waz] a [7,89])] (.t (.t (.w (.w (.t (.g [] 15)) .o) .o)))) .o)))) .o) .o)))) .o)) .o))))))))
def PI(lp:q)(c:Ca)(a0 a1:D):Option D:=Z c 530 [a0] λr1=>Z c 531 [a0] λS=>Q r1 [0] λf=>Q r1 [1] λb=>Q r1 [2] λd=>Q r1 [3] λe=>Z c 54 [(Jn (-1))] λT=>Z c 499 [f,T] λE=>Z c 533 [J1,(D.sl [f,f,b,b])] λU=>Z c 533 [J1,(D.sl [d,d,e,e])] λi=>Z c 521 [U,i] λj=>Z c 533 [J2,(D.sl [b,d,E,e])] λk=>Z c 533 [J2,(D.sl [b,e,f,d])] λl=>Z c 533 [J2,(D.sl [b,d,f,e])] λm=>Z c 533 [J1,(D.sl [f,f,d,d])] λn=>Z c 533 [J1,(D.sl [b,b,e,e])] λo=>Z c 521 [n,o] λp=>Z c 533 [J2,(D.sl [d,e,E,b])] λa3=>Z c 533 [J2,(D.sl [b,e,E,d])] λr=>Z c 533 [J2,(D.sl [d,e,f,b])] λs=>Z c 533 [J1,(D.sl [f,f,e,e])] λt=>Z c 533 [J1,(D.sl [b,b,d,d])] λu=>Z c 521 [t,u] λv=>qy lp (λv24=>qc .lss (Y v24 0) J3 (qi (Y v24 0) 3 λi27=>Q a0 [0,0,i27] λF=>qi (Y v24 0) 3 λi29=>Q a0 [1,0,i29] λG=>qi (Y v24 0) 3 λi31=>Q a0 [0,0,i31] λH=>P .sub G H λI=>Z c 535 [(D.sl [F,I])] λw=>Z c 534 [S,w] λx=>qi (Y v24 0) 3 λi36=>qs (Y v24 1) [i36] x λJ=>qy lp (λa=>qc .lss (Y a 0) J3 (qi (Y a 0) 3 λi41=>qf a1 i41 λK=>qJ (Y v24 0) 3 (Y a 1) λL=>P .mul J3 (Y v24 0) λM=>P .add M (Y a 0) λN=>qi N 9 λi47=>Q (D.st (akx (List.replicate 9 (D.sl [])) [(0,j),(1,k),(2,l),(3,m),(4,p),(5,a3),(6,r),(7,s),(8,v)])) [i47] λO=>Z c 54 [K] λy=>Z c 499 [O,y] λz=>Z c 520 [L,z] λA=>qi (Y v24 0) 3 λi52=>qs (Y a 1) [i52] A λa2=>qj (Y a 0) λh=>iL [h,a2]) (iR (0,[(Y a 1)]))) [J0,J] λB=>qj (Y v24 0) λR=>iL [R,(Y B.2 0)]) (iR (0,[(Y v24 1)]))) [J0,(D.st [(D.sl []),(D.sl []),(D.sl [])])] λC=>some (D.tup [(Y C.2 0),S])
def ac6:l 505 (G (PI lp)):=aQ 0 Tryz.f83 aaL a
def PJ(lp:q)(c:Ca)(a0 a1:D):Option D:=Z c 536 [a0,a1] λr1=>qp r1 0 λb=>qp r1 1 λd=>Z c 62 [b,d] λa=>some a
def ac7:l 506 (G (PJ lp)):=aQ 0 Tryz.f85 .leaf a
def aaM:Ann:=let a:LO:=[(0,.k oo 3),tI,WbD,WbE,WaS];(.t (.w WaI (.w (.t (.w (.p [WbF,ri,Wa6,Wa8,Wa9,(26,.i)] a [24,25] [(.x 0,y [WbF,Wa8,Wa9] [(0,.k oo 3),WbE,WaS] [])] (.t (.t (.w (.w (.t (.t (.w (.p [WbF,ri,Wa6,Wa8,Wa9,(10,.s h 24586),(31,.i)] [(0,.k oo 3),tI,WbD,WbE,WaS,(24586,.k h 10)] [24,25,26,30] [(.x 2,y [WbF,ri,Wa6,Wa8,Wa9] a [24,25,26])] Was) .o))) .o) .o)))) .o)) .o)))
def PK(lp:q)(c:Ca)(a0 a1:D)(a2 a3:D):Option D:=qY a2 [0] J0 λr=>Q a3 [0] λs=>Z c 486 [a1,r,s] λp=>Z c 72 [a0,p] λy=>Q a2 [0] λn=>qS n λo=>qy lp (λv10=>qc .lss (Y v10 0) (jl o) (qX n (Y v10 0) λj=>qy lp (λa=>qc .lss (Y a 0) J3 (qi (Y a 0) 3 λi19=>qf a3 i19 λk=>Z c 486 [a1,j,k] λe=>Z c 72 [a0,e] λf=>Z c 337 [(Y a 1),f] λg=>qj (Y a 0) λl=>iL [l,g]) (iR (0,[(Y a 1)]))) [J0,(Y v10 1)] λh=>qj (Y v10 0) λm=>iL [m,(Y h.2 0)]) (iR (0,[(Y v10 1)]))) [J0,y] λi=>some (Y i.2 0)
def ac8:l 507 (m4 (PK lp)):=Tn 0 Tryz.f112 aaM a
def aaN:Ann:=let a:LO:=[(4098,.k dG 2),(4099,.k j 3),WbG,(8197,.e jp (.v jp))];(.t (.t (.w (.t (.w (.p [Wap,WaZ,Wba,Wbb,(16,.i)] a [15] [(.x 0,y [Wap,WaZ,Wba,Wbb] a [])] (.t (.t (.w (.w (.t Wai) .o) .o)))) .o)) (.t (.w (.t (.w (.p [WaZ,Wba,Wbb,(9,.s JN 20489),(45,.i)] [(4099,.k j 3),WbG,(8197,.k jp 5),(20489,.e JN (.v JN))] [44] [(.x 2,y [Wba,Wbb,(9,.s JN 20489)] [WbG,(8197,.k jp 5),(20489,.e JN (.v JN))] [])] (.t (.t (.w (.w (.t (.t X')) .o) .o)))) .o)) .o)))))
def PL(lp:q)(c:Ca)(a0 a1:D):Option D:=Q a0 [0,0] λx1=>qy lp (λv2=>qc .lss (Y v2 0) J3 (qi (Y v2 0) 3 λi5=>qf x1 i5 λA=>Z c 74 [A] λC=>qi (Y v2 0) 3 λi8=>Q a0 [1,0,i8] λG=>P .sub G A λo=>Z c 74 [o] λf=>Z c 174 [a1,f] λg=>Z c 173 [C,g] λh=>Z c 537 [h] λi=>Z c 202 [i] λa=>qp a 0 λp=>qp a 1 λE=>qi (Y v2 0) 3 λi18=>qs (Y v2 1) [0,i18] p λS=>qj (Y v2 0) λr=>iL [r,S]) (iR (0,[(Y v2 1)]))) [J0,(D.st [(D.st [J0,J0,J0]),(D.st [J0,J0,J0,J0])])] λj=>Z c 530 [a0] λk=>qy lp (λv23=>qc .lss (Y v23 0) (Jn 4) (qi (Y v23 0) 4 λi26=>qf k i26 λs=>Z c 506 [s,a1] λb=>Q b [0] λt=>Q a1 [1] λu=>Q b [1] λv=>Z c 132 [u,v] λl=>Z c 61 [t,l] λm=>qi (Y v23 0) 4 λi34=>qs (Y v23 1) [i34] m λw=>qj (Y v23 0) λx=>iL [x,w]) (iR (0,[(Y v23 1)]))) [J0,(D.st [(D.st [bF,bF,(az bf)]),(D.st [bF,bF,(az bf)]),(D.st [bF,bF,(az bf)]),(D.st [bF,bF,(az bf)])])] λn=>Z c 538 [(Y n.2 0)] λd=>qp d 0 λy=>qp d 1 λF=>qs (Y j.2 0) [1] y λz=>some z
def ac9:l 508 (G (PL lp)):=aQ 0 Tryz.f115 aaN a
def PM(lp:q)(c:Ca)(a0:D):Option D:=Z c 357 [a0] λr1=>Z c 510 [r1] λa=>Z c 68 [a] λb=>some b
def ada:l 509 (m1 (PM lp)):=aY 0 Tryz.f116 .leaf a
def PN(lp:q)(c:Ca)(a0:D):Option D:=Z c 136 [a0] λr1=>qn r1 (Z c 119 [] λb=>some b) (Q a0 [0] λe=>Q a0 [1] λf=>Z c 132 [e,f] λd=>some d)
def adb:l 510 (m1 (PN lp)):=aY 0 Tryz.f117 .leaf a
end
end Sy
end
end
noncomputable section
namespace Sy
open Go Go.Proofs Go.Sort Go.Lib
section
variable{S:Nat->Nat->Prop}{γ:Nat->Option Nat}{a:Act}{l:List D}
variable{ro:Option Nat}{nn:Nat}
inductive AnnT where
 | hand
 | seq (a:Ann) (b:AnnT)
def Ta(E:Env)(K:St->Option D):Code->AnnT->St->Option D
 | .seq c d,.seq a b,s=>ev E c a D s λe s'=>match e with
  | .normal=>Ta E K d b s'
  | _=>none
 | _,.hand,s=>K s
 | _,_,_=>none
def uV:Code->AnnT->Code
 | .seq _ d,.seq _ b=>uV d b
 | c,_=>c
def p8(fn:Func)(a:List Ty)(args:List D):St:={ tm:=gN a args,ob:=λ_=>none,fresh:=0,dead:=[],nt:=fn.ntmps,lkS:=[],lkO:=[4095] }
def LE(E:Env)(K:St->Option D)(fn:Func)(ann:AnnT)(a:List Ty)(args:List D):Option D:=
 match fn.body with
 | none=>none
 | some c=>Ta E K c ann (p8 fn a args)
section
variable{P:Program}{E:Env}{w0:Root}
def Fm.df0{s:St}{S':Nat->Nat->Prop}{γ':Nat->Option Nat}{a':Act}{w w':World}(h:Fm s S γ a w S' γ' a' w')(b:4095∈s.lkO)(c:a.defers=[]):a'.defers=[]:=by
 obtain⟨_,m,e,_,z⟩:=h.dfs
 simp_all
theorem kw.eq{w w':World}{b:Nat}{o:Obj}(h:kw w w' b)(a:w.heap[b]?=some o)(hl:∀ r,o≠.loop r):w'.heap[b]?=some o:=by
 rcases h with h|⟨r,_,h1,_⟩
 ·simp_all
 ·grind
def UW(l:EnvOk P E){K:St->Option D}{Q:Exit->Act->World->Prop}{y:D}:∀ (c:Code) (ann:AnnT) {S:Nat->Nat->Prop} {γ:Nat->Option Nat} {β:Nat->Option (Nat×Nat)} {s:St} {a:Act} {w:World},
  Rp w0 S γ β s a w->a.defers=[]->4095∈s.lkO->Ta E K c ann s=some y->(∀ s' S' γ' β' a' w',Rp w0 S' γ' β' s' a' w'->a'.defers=[]->K s'=some y->(uV c ann).wpIn (FW none) nn P Q a' w')->c.wpIn (FW none) nn P Q a w:=by
 intro c
 induction c with
 | seq c d _ ih=>
  intro ann S γ β s a w h g j f hQ;cases ann with
  | hand=>exact hQ s S γ β a w h g (by simpa only[Ta] using f)
  | seq a1 b=>
   simp only[Ta] at f;refine wpIn_seq (CL l c a1 D _ y h f λe s' S' γ' β' a' w' m n o k=>?_);cases e with
   | normal=>exact ih b m (n.df0 j g) (by rw[o.lkO];exact j) k hQ
   | ret=>cases k
   | exit i=>cases k
 | _=>
  intro ann S γ β s a w h g j f hQ;cases ann with
  | hand=>exact hQ s S γ β a w h g (by simpa only[Ta] using f)
  | seq a1 b=>simp[Ta] at f
def eI(s:St)(e:Ty)(x:Nat):Option (List D):=match s.tm x with
 | .own a v l=>if a.beq e&&!(s.dead.contains v)&&decide (l.length<=1073741824) then some l else none
 | .nils=>some []
 | _=>none
def VM(s:St)(x:Nat)(e:Ty)(l:List D):St:={ tm:=λi=>if i=x then .d (.sl e) (.sl l) else .undef,ob:=λ_=>none,fresh:=s.fresh+1,dead:=[],nt:=s.nt,lkS:=[],lkO:=[4095] }
def J4{w:World}{a:Option Addr}{n cap:Nat}(h:CR w S (.sl l) (.slice a n cap)):fX w S (.sl l) (.slice a n cap):=by
 refine⟨λcs h=>(by cases h),rfl,λi d c b hc=>?_⟩
 cases i with
 | zero=>simp only[D.flat,zAb,zca,Value.cells] at b hc;subst b;first|(subst hc;exact h)|(simp at hc;subst hc;exact h)
 | succ i=>simp[D.flat] at b
theorem iG{e:Ty}(hc:bX e=true):∀ l:List D,(∀ x∈l,wt e x)->∀ d∈N l,uM d=true
 | [],_,d,a=>by simp[N] at a
 | y::l,h,d,a=>by
  simp only[N,zKa] at a;rcases a with a|a
  ·exact iF e y hc (h y zBa) d a
  ·exact iG hc l (λz b=>h z (zsa _ b)) d a
def Rp.new{S':Nat->Nat->Prop}{β:Nat->Option (Nat×Nat)}{s:St}{a':Act}{w w':World}(h:Rp w0 S γ β s a w)(he:oh w0 w'){x:Nat}{e:Ty}(hn:ak e=true)(hx:x<s.nt)(j:∀ y∈l,wt e y)
  (n:fX w' S' (.sl l) (a'.tmps.getD x undef)) (i:a'.tmps.size=s.nt) (k:a'.defers=[]) (f:∀ b o,S' b o->b<w'.heap.size) (g:∀ b o,S' b o->w0.Old b->w0.S0 b o):Rp w0 S' (λ_=>none) (λ_=>none) (VM s x e l) a' w':=by
 refine⟨he,λt ht=>?_,i,λt ht=>?_,λid o b m=>(by cases m),λid b c=>(by cases c),λid p b c=>(by cases c),λ_ _=>rfl,λv b e _ c=>(by cases c),λv v' b e q _ _ c=>(by cases c),λv id b e _ c=>(by cases c),λ_ _=>rfl,f,g⟩
 ·show AR _ (if t=x then AV.d (.sl e) (.sl l) else .undef) (a'.tmps.getD t undef)
  by_cases htx:t=x
  ·rw[zla htx];subst htx;exact .inl ⟨by simp only[ak];exact hn,⟨l,rfl,j⟩,n⟩
  ·simp_all [AR]
 ·show(if t=x then AV.d (.sl e) (.sl l) else .undef)=_
  rw[zia (λh=>by subst h;exact zgb hx (zPc.2 ht))]
def Si(hE:EnvOk P E){f:Nat}{e:Ty}(hf:SortOk P f e){g:Nat}(hsig:E.sig g=some ([e,e],.int .i64)/\E.free g=0){id x t d2:Nat}{ops:Array Oper}{ty1 ty2:TypeId}{p1 p2:String}{af1 af2:Array Edge}{args:Array Operand}{ats:Array TypeId}
  (hops:ops.toList=[⟨some t,.move (.tmp x),ty1,p1,af1,none⟩,⟨some d2,.call ⟨.value (.func f),args,ats⟩,ty2,p2,af2,none⟩]) (hargs:args=#[.tmp t,.func g]) {Q:Exit->Act->World->Prop}
  {S:Nat->Nat->Prop} {γ:Nat->Option Nat} {β:Nat->Option (Nat×Nat)} {s:St} {a:Act} {w:World} (h:Rp w0 S γ β s a w) (hdf:a.defers=[]) (hxt:x≠t) (hxd:x≠d2) (ht:t<s.nt) {l l':List D} (hv:eI s e x=some l) (hs:kR E g l=some l')
  (hQ:∀ a' w' S',Rp w0 S' (λ_=>none) (λ_=>none) (VM s x e l') a' w'->a'.defers=[]->Q .normal a' w'):(Code.region id ops false).wpIn (FW ro) nn P Q a w:=by
 have hx:x<s.nt:=by all_goals grind [eI,h.tmu]
 have hax:=h.tms x (by rw[h.nt];exact hx)
 obtain⟨ad,cap,val,hwt,hcr,hown⟩:∃ ad cap,a.tmps.getD x undef=.slice ad l.length cap/\(∀ y∈l,wt e y)/\CR w S (.sl l) (.slice ad l.length cap)/\(l≠[]->∃ b off row,ad=some ⟨b,off,none⟩/\ck w b=some row/\¬ w0.Old b/\b<w.heap.size)/\l.length<=1073741824:=by
  unfold eI at hv;split at hv
  ·rename_i e' v l0 htm;split at hv
   ·rename_i hb;simp only[X,zEa,zea] at hb;obtain⟨⟨hb1,hb2⟩,hb3⟩:=hb;cases hv;have:=alb _ _ hb1;subst this;rw[htm] at hax;simp only[AR,AC] at hax;obtain⟨n0,n1,n2,ad,cap,n3,n4,n5⟩:=hax;have hval:=ap n0 n3;have hdead:v ∉ s.dead:=by simpa using hb2
    refine⟨ad,cap,hval,n2,n4,λhne=>?_,hb3⟩;rcases n5 hdead with⟨q1,q2⟩|⟨b,off,q1,q2,n,q3,q4⟩
    ·exfalso;obtain⟨_,_,b,off,e1,e2,e3,e4⟩:=n4.elems;all_goals simp_all
    ·obtain⟨k1,k2,_⟩:=h.βn v b _ hdead q2;unfold rA at q3;cases hr:ck w b with
     | none=>rw[hr] at q3;cases q3
     | some row=>exact⟨b,off,row,q1,hr,k1,k2⟩
   ·cases hv
  ·rename_i htm;cases hv;rw[htm] at hax;simp only[AR,AC] at hax;have hval:=ap hax.1 hax.2;exact⟨none,0,hval,j2,akg (b:=0) (off:=0) (.inl rfl) (zja _) ⟨[],cY.nil,j2⟩,λh=>zgb rfl h,j2⟩
  ·cases hv
 obtain⟨hown,hlen⟩:=hown;have hperm:l'.Perm l:=by
  unfold kR at hs;split at hs
  ·cases hs;exact iM _ l
  ·cases hs
 have hll:=hperm.length_eq;have hwt':∀ y∈l',wt e y:=λy hy=>hwt y (hperm.subset hy);refine wpIn_region_list ?_;rw[hops];simp only[wpListIn,Region.wanted,if_true];refine(bI (K:=λv w1=>v=a.tmps.getD x undef/\w=w1) (eY.value (v:=a.eval (.tmp x)) (w':=w) rfl ⟨rfl,rfl⟩) ?_);rintro _ _ ⟨rfl,rfl⟩;have hsz:(a.put (some t) (a.tmps.getD x undef)).tmps.size=s.nt:=by simp[Act.put,h.nt]
 have ht1:(a.put (some t) (a.tmps.getD x undef)).eval (.tmp t)=a.tmps.getD x undef:=by simp_all [h.nt,Act.eval,Act.put,Array.getD]
 have hx1:(a.put (some t) (a.tmps.getD x undef)).tmps.getD x undef=a.tmps.getD x undef:=by exact ct (λe=>hxt (by cases e;rfl))
 have hdf1:(a.put (some t) (a.tmps.getD x undef)).defers=[]:=hdf;generalize (a.put (some t) (a.tmps.getD x undef))=a1 at *;refine(bI (K:=λv w1=>∃ S',oh w0 w1/\fX w1 S' (.sl l') (a.tmps.getD x undef)/\(∀ b o,S' b o->b<w1.heap.size)/\(∀ b o,S' b o->w0.Old b->w0.S0 b o)) ?_ ?_)
 ·obtain⟨fn,f1,f2,f3⟩:=hf.fn;refine eY.enter (f:=f) (args:=#[.slice ad l.length cap,.func (.func g) #[] #[]]) (w':=w) ?_ ?_
  ·have hb:¬ fn.body=none:=by intro hh;rw[hh] at f3;cases f3
   have f2' : ¬ fn.name = "runtime.NumGoroutine" := by simpa using f2
   have e1:a1.eval (.tmp t)=.slice ad l.length cap:=by rw[ht1,val]
   subst hargs;have e2:a1.eval (.func g)=.func (.func g) #[] #[]:=rfl;simp[execOp,resolve,Deferred.ofValue,invoke,callFunc,f1,f2',hb,e1,e2];simp[Act.eval,f1,f2',hb]
  ·by_cases hne:l=[]
   ·subst hne;have e0:l'=[]:=by simp_all
    subst e0;refine(hf.empty ad cap _ w).mono ?_;rintro en w1 ⟨rfl,rfl⟩;exact⟨_,rfl,S,h.ext,by rw[val];exact J4 hcr,h.Sb,h.So⟩
   ·obtain⟨b,off,row,rfl,hr,hold,hbs⟩:=hown hne;have hcell:∀ (i:Nat) (d:D),(N l)[i]?=some d->w.cell? ⟨b,off+i,none⟩=some (gU d):=by
     obtain⟨_,_,b',off',e1,e2,e3,cs,e4,e5⟩:=hcr.elems;cases e1;rcases e2 with e2|e2
     ·simp_all
     ·cases e2;have hleaf:=iG hf.cmp l hwt;have:=(df hleaf).1 e4
      simp_all
    refine(Js hE hf hsig hwt hs hne (b:=b) (off:=off) (cap:=cap) hr hcell u0).mono ?_
    rintro en w1 ⟨rfl,_,q1,q2,q3,q4,q5,q6,q7⟩;refine⟨_,rfl,λb' o=>(S b' o/\b'≠b)\/(b'=b/\off<=o/\o<off+(N l').length),?_,?_,?_,?_⟩
    ·refine pT h.ext q2 q3 q4 q5 q1 λb' hb'=>q6 b' (λe=>hold (e ▸ hb')) (zdb hb'.1 h.ext.sz)
    ·rw[val];refine J4 ?_;rw[<-hll];refine akg (b:=b) (off:=off) (.inr rfl) (by obtain⟨_,_,_,_,e1,_,e3,_⟩:=hcr.elems;cases e1;rw[hll];exact e3) ⟨(N l').map gU,?_,λi c hc=>?_⟩
     ·exact(df (iG hf.cmp l' hwt')).2 rfl
     ·grind
    ·rintro b' o (⟨hb',_⟩|⟨rfl,_,_⟩)
     ·exact zdb (h.Sb b' o hb') q5
     ·omega
    ·rintro b' o (⟨hb',_⟩|⟨rfl,_,_⟩) ho
     ·exact h.So b' o hb' ho
     ·simp_all
 ·rintro v w1 ⟨S',k1,k2,k3,k4⟩;refine hQ _ w1 S' (Rp.new h k1 hf.nt hx hwt' ?_ (by simp[Act.put,hsz]) hdf1 k3 k4) hdf1
  have:(a1.put (some d2) v).tmps.getD x undef=a.tmps.getD x undef:=by rw[<-hx1];exact ct (λe=>hxd (by cases e;rfl))
  simp_all
end
end
section
variable{S:Nat->Nat->Prop}{γ:Nat->Option Nat}{β:Nat->Option (Nat×Nat)}{a:Act}
variable{ro:Option Nat}{nn:Nat}
open Go.ChangeMaps (setBlock)
section
variable{P:Program}{E:Env}{w0:Root}
theorem xX{ops b:Array Oper}{Q:Exit->Act->World->Prop}:∀ (l:List Oper) (a:Act) (w:World),(∀ o∈l,o.guard=none)->wpListIn (FW ro) nn P ops Q l a w->wpListIn (FW ro) nn P b Q l a w
 | [],_,_,_,h=>h
 | o::l,a,w,e,h=>by have d:=e o zBa;have c:∀ a w,wpListIn (FW ro) nn P ops Q l a w->wpListIn (FW ro) nn P b Q l a w:=λa w=>xX l a w λo f=>e o (zsa _ f);simp only[wpListIn,Region.wanted,d,if_true] at h ⊢;exact Oper.wpIn_mono c h
def Rl(L:EnvOk P E){Q:Exit->Act->World->Prop}{id:Nat}{ops:Array Oper}{R:Type}{s:St}{w:World}{k:Ex->St->Option R}{r:R}
  (h:Rp w0 S γ β s a w) (C:ev E (.region id ops false) .leaf R s k=some r) (hQ:Kp Q w0 s S γ a w k r):wpListIn (FW ro) nn P ops Q ops.toList a w:=by
 obtain⟨S1,f1,f2,f3⟩:=tP (Ann.leaf).fz h;obtain⟨s1,c⟩:∃ s1,s1={ iC s (Ann.leaf).fz with fresh:=s.fresh+1 }:=⟨_,rfl⟩;obtain⟨h1,y⟩:=y8 c C;obtain⟨Y,K⟩:(!false||tJ E ops ((Ann.leaf).heads ops.size))=true/\_:=y.resolve_right λh=>h.elim (λh=>by cases h.1) (λh=>by cases h.1)
 have z:s1.base=s.base+4096:=by rw[c];simp only[St.base];omega
 have r1:Rp w0 S1 γ β s1 a w:=by
  rw[c];have q1:∀ id,({ iC s (Ann.leaf).fz with fresh:=s.fresh+1 }:St).base+4096<=id->s.base+4096<=id:=λid hid=>by
   have e:({ iC s (Ann.leaf).fz with fresh:=s.fresh+1 }:St).base=s.base+4096:=by simp only[St.base];omega
   rw[e] at hid;exact zva (zbd _ _) hid
  exact⟨f1.ext,f1.tms,f1.nt,f1.tmu,f1.obs,f1.γn,f1.γi,λid hid=>h.γf id (q1 id hid),f1.βn,f1.βi,f1.βγ,λv N=>h.βf v (q1 v N),f1.Sb,f1.So⟩
 have g:∀ d,s.base+4096<=s1.base+d:=λd=>by have:=zbd s1.base d;rw[z] at this ⊢;exact this
 have H:∀ d,γ (s1.base+d)=none:=λd=>h.γf (s1.base+d) (g d);have F:∀ d,β (s1.base+d)=none:=λd=>h.βf (s1.base+d) (g d);obtain⟨a0,G⟩:=Br (E:=E) ops.toList r1 H;have m:=h1;simp only[cV,X,zya] at m;obtain⟨⟨l,a1⟩,M⟩:=m;have D:JM E (gX E ops.toList s1) γ β ops.toList:=by intro o x hc d u;rw[G.base_eq];have j:=a1 o x;rw[u] at j;simp only[zea] at j;exact⟨j,H d,F d,λT t I J=>vH ops.toList l x I u J⟩
 have q:Sk s (gX E ops.toList s1):=by
  refine⟨G.lkS.trans ?_,G.lkO.trans ?_,G.nt.trans ?_⟩<;>rw[c]
  ·exact f3.lkS
  ·exact f3.lkO
  ·exact f3.nt
 have b:(ops.toList.all λo=>match o.op with|.store ..=>o.dst.isNone|_=>true)=true:=by simp only[cV,X] at h1;exact h1.2
 have:=AN (ro:=ro) (nn:=nn) (ops:=ops) L b _ R (be 0 ops.toList) _ r _ a0 (by rw[bu];exact D) (by rw[bu];exact λA B o o' e x d u=>gm l A B o o' e x d u) (λp hp=>mD hp) K
  (Q:=Q) λs' S' γ' β' a' w' O U V W=>hQ .normal s' S' γ' β' a' w' O (f2.tr U q) (q.trans V) W
 rwa [bu] at this
def σL(nt o it:Nat)(X:AV):St:={ tm:=λi=>if i=o then X else .undef,ob:=λ_=>none,fresh:=0,dead:=[],nt:=nt,lkS:=[it],lkO:=[0,1,4095] }
def γs(m r:Nat):Nat->Option Nat:=λi=>if i=0 then some m else if i=1 then some r else none
def Tk(e:Ty)(L:List D)(X:AV):Prop:=(X=.nils/\L=[])\/X=.own e 5 L
def EW{s:St}{e:Ty}{o:Nat}{L:List D}(h:eI s e o=some L):(s.tm o=.nils/\L=[])\/∃ v,s.tm o=.own e v L/\v ∉ s.dead:=by
 unfold eI at h;split at h
 ·rename_i c v l a;split at h
  ·rename_i b;simp only[X,zEa,zea] at b;cases h;have:=alb _ _ b.1.1;subst this;exact .inr ⟨v,a,by simpa using b.1.2⟩
  ·cases h
 ·rename_i a;cases h;exact .inl ⟨a,rfl⟩
 ·cases h
def Rp.std{s:St}{w:World}(h:Rp w0 S γ β s a w){m r:Nat}(hm:¬ w0.Old m/\m<w.heap.size)(Z:¬ w0.Old r/\r<w.heap.size)(z:m≠r)
  (Q:∀ v b e,v ∉ s.dead->β v=some (b,e)->b≠m/\b≠r) {e:Ty} (I:bX e=true) {o:Nat} {L:List D} (C:eI s e o=some L) (it:Nat) :
  ∃ β' X,Tk e L X/\Rp w0 (λb i=>S b i/\b≠m/\b≠r) (γs m r) β' (σL s.nt o it X) a w:=by
 have y:o<s.nt:=by
  rcases zua o s.nt with k|k
  ·exact k
  ·unfold eI at C;rw[h.tmu o k] at C;cases C
 have g:=h.tms o (by rw[h.nt];exact y)
 have g1:∀ id b,γs m r id=some b->(id=0/\b=m)\/(id=1/\b=r):=λid b d=>by
  unfold γs at d;split at d
  ·rename_i e;cases d;exact .inl ⟨e,rfl⟩
  ·split at d
   ·rename_i e;cases d;exact .inr ⟨e,rfl⟩
   ·cases d
 have γn':∀ id b,γs m r id=some b->¬ w0.Old b/\b<w.heap.size:=λid b d=>by
  rcases g1 id b d with⟨_,rfl⟩|⟨_,rfl⟩
  ·exact hm
  ·exact Z
 have γi':∀ id j b,γs m r id=some b->γs m r j=some b->id=j:=λid j b d f=>by
  rcases g1 id b d with⟨k1,J⟩|⟨k1,J⟩<;>rcases g1 j b f with⟨k3,K⟩|⟨k3,K⟩
  ·omega
  ·exact zgb (J.symm.trans K) z
  ·exact zgb (K.symm.trans J) z
  ·omega
 have γf':∀ id,0*4096+4096<=id->γs m r id=none:=λid hid=>by unfold γs;rw[zia u0,zia u0]
 rcases EW C with⟨h1,x⟩|⟨v,h1,x⟩
 ·refine⟨λ_=>none,.nils,.inl ⟨rfl,x⟩,h.ext,λt ht=>?_,h.nt,λt ht=>?_,λid o b y=>(by cases y),γn',γi',γf',λv b e _ d=>(by cases d),λv v' b e l _ _ d=>(by cases d),λv id b e _ d=>(by cases d),λ_ _=>rfl,λb i d=>h.Sb b i d.1,λb i d=>h.So b i d.1⟩
  ·show AR _ (if t=o then AV.nils else .undef) (a.tmps.getD t undef)
   by_cases hto:t=o
   ·rw[zla hto];subst hto;rw[h1] at g;simpa only[AR,AC] using g
   ·rw[zia hto];simp only[AR]
  ·show(if t=o then AV.nils else .undef)=_
   rw[zia (λh=>by subst h;exact zgb y (zPc.2 ht))]
 ·refine⟨λi=>if i=5 then β v else none,.own e 5 L,.inr rfl,h.ext,λt ht=>?_,h.nt,λt ht=>?_,λid o b y=>(by cases y),γn',γi',γf',λu b l _ d=>?_,λu u' b l H _ _ d f=>?_,λu id b l _ d hid=>?_,λu hu=>?_,λb i d=>h.Sb b i d.1,λb i d=>h.So b i d.1⟩
  ·show AR _ (if t=o then AV.own e 5 L else .undef) (a.tmps.getD t undef)
   by_cases hto:t=o
   ·rw[zla hto];subst hto;rw[h1] at g;simp only[AR,AC] at g ⊢;obtain⟨n0,n1,T,F,cap,n3,n4,U⟩:=g;have M:CR w (λb i=>S b i/\b≠m/\b≠r) (.sl L) (.slice F L.length cap):=by
     obtain⟨V,N,G,A,W,p,O,cs,Y,P⟩:=n4.elems;cases W;by_cases hL:L=[]
     ·subst hL;exact akg (b:=0) (off:=0) (.inl rfl) O ⟨[],cY.nil,j2⟩
     ·have p:F=some ⟨G,A,none⟩:=p.resolve_left hL;have f:G≠m/\G≠r:=by
       rcases U x with q|⟨b,off,q1,B,E⟩
       ·rw[q.1] at p;cases p
       ·rw[q1] at p;cases p;exact Q v _ _ x B
      have R:=iG I L T;exact akg (.inr p) O ⟨cs,(df R).2 ((df R).1 Y),λi c hc=>⟨⟨(P i c hc).1,f⟩,(P i c hc).2⟩⟩
    refine⟨n0,n1,T,F,cap,n3,M,λ_=>?_⟩;rcases U x with q|⟨b,off,q1,B,E⟩
    ·exact .inl q
    ·exact .inr ⟨b,off,q1,by simpa using B,E⟩
   ·rw[zia hto];simp only[AR]
  ·show(if t=o then AV.own e 5 L else .undef)=_
   rw[zia (λh=>by subst h;exact zgb y (zPc.2 ht))]
  ·have d:(if u=5 then β v else none)=some (b,l):=d
   split at d
   ·obtain⟨q1,B,E⟩:=h.βn v b l x d;exact⟨q1,B,λi hi hs=>E i hi hs.1⟩
   ·cases d
  ·have d:(if u=5 then β v else none)=some (b,l):=d
   have f:(if u'=5 then β v else none)=some (b,H):=f
   split at d<;>split at f<;>first|(cases d;done)|(cases f;done)|omega
  ·have d:(if u=5 then β v else none)=some (b,l):=d
   split at d
   ·have:=Q v b l x d;rcases g1 id b hid with⟨_,q⟩|⟨_,q⟩
    ·exact this.1 q
    ·exact this.2 q
   ·cases d
  ·have al:4096<=u:=by simpa [σL,St.base] using hu
   show(if u=5 then β v else none)=none
   rw[zia u0]
def Rp.setB{s:St}{w:World}(h:Rp w0 S γ β s a w){id b:Nat}(C:s.ob id=none)(A:γ id=some b)(B:∀ o,¬ S b o)(x:Obj) :
  Rp w0 S γ β s a (setBlock w b x):=by
 have z:∀ c o,S c o->c≠b:=λc o g e=>B o (e ▸ g);have hh:∀ c,c≠b->(setBlock w b x).heap[c]?=w.heap[c]?:=λc d=>by simp only[setBlock];rw[z8c (Ne.symm d)]
 have j:(setBlock w b x).heap.size=w.heap.size:=by simp[setBlock]
 have hle:Cx.le ⟨w,S,γ,β,s.ob,s.dead⟩ ⟨setBlock w b x,S,γ,β,s.ob,s.dead⟩:=by
  refine⟨λc o g=>by simp only[World.cell?,hh c (z c o g)],λ_ _ g=>g,λ_ _ g=>g,λi y q _=>⟨y,q,λp=>⟨rfl,rfl⟩,λt l e=>⟨l,e,rfl⟩,λ_ _ l e=>⟨l,e⟩⟩,λv r=>⟨r,λc e he=>⟨he,λn hn=>?_⟩⟩⟩
  have k:c≠b:=λu=>h.βγ v id c e r he (u ▸ A);have m:rA w c=some n:=hn;show rA (setBlock w b x) c=some n;simp only[rA,ck,hh c k] at m ⊢;exact m
 refine⟨pT h.ext rfl rfl rfl (by rw[j];exact zja _) (zja _) (λc d=>hh c λe=>(h.γn id b A).1 (e ▸ d)),λt ht=>(h.tms t ht).mono hle,h.nt,h.tmu,λi y c q d=>?_,λi c d=>by rw[j];exact h.γn i c d,h.γi,h.γf,
  λv c e r he=>by rw[j];exact h.βn v c e r he,h.βi,h.βγ,h.βf,λc o g=>by rw[j];exact h.Sb c o g,h.So⟩
 have k:c≠b:=λu=>by have:=h.γi i id c d (u ▸ A);subst this;rw[C] at q;cases q
 exact(h.obs i y c q d).mono hle (hh c k) λ_ hh=>hh
end
end
section
variable{a:Act}{S:Nat->Nat->Prop}{H J M:String}
variable{ro:Option Nat}{nn:Nat}
open Go.ChangeMaps (setBlock)
def yn:D->D
 | .st (k::_)=>k
 | x=>x
theorem Kv{c:Cx}{a vt:Ty}:∀ {l:List D} {es:List MapEntry} {j:Nat},jR c a vt j l es->es.length=l.length/\∀ (i:Nat) (en:MapEntry),es[i]?=some en->en.born=j+i/\∃ k v,l[i]?=some (.st [k,v])/\wt a k/\wt vt v/\fX c.w c.S k en.key/\fX c.w c.S v en.val
 | [],[],j,_=>⟨rfl,λi en h=>by simp at h⟩
 | [],_::_,_,h=>h.elim
 | _::_,[],_,h=>h.elim
 | x::l,e::es,j,h=>by simp only[jR] at h;obtain⟨⟨h1,k,v,rfl,d,f,g,m⟩,b⟩:=h;obtain⟨q1,n⟩:=Kv b;grind
def Ao{t:Ty}(hc:bX t=true){x:D}(hx:wt t x){w w':World}{S':Nat->Nat->Prop}{v:Value}(h:fX w S x v):fX w' S' x v:=by have a:=iF t x hc hx;exact⟨h.1,(df a).2 ((df a).1 h.2)⟩
theorem Dt:∀ (n:Nat) (l:List Nat),l.Nodup->(∀ x∈l,x<n)->l.length<=n
 | 0,l,_,h=>by
  cases l with
  | nil=>simp
  | cons x l=>exact zgb (h x zBa) u0
 | n+1,l,hn,h=>by
  have h1:=Dt n (l.erase n) (hn.erase n) λx hx=>by grind
  grind
section
variable{P:Program}{E:Env}{w0:Root}
def lZ{o:Oper}{m:Sem Value}{v:Value}{w w':World}(hex:execOp a.eval o=(m >>= λr=>pure (Next.value r)))(b:m.run P w=.ok v w'):(execOp a.eval o).run P w=.ok (.value v) w':=by simp_all
theorem B4{nt o it t:Nat}{X:AV}(h:t≠o):(σL nt o it X).put (some t) .undef=σL nt o it X:=by unfold St.put σL;all_goals grind
def lD{t:Nat}{v:Value}(h:t<a.tmps.size):(a.put (some t) v).eval (.tmp t)=v:=by simp[Act.eval,Act.put,Array.getD,h]
def xE{d:Option Nat}{v:Value}:(a.put d v).tmps.size=a.tmps.size:=by cases d<;>simp[Act.put]
theorem Rm(hE:EnvOk P E){e vt:Ty}(he:bX e=true)(ea:bX vt=true)(dz:ak e=true)(dB:ak vt=true){cv cx cy b b2:Nat}{t72 m0 it T nx ok en o:Nat}{cS c1 c2:Array Oper}{rest:List Oper}{c26:Code}
  {y1 y2 y3 y4 y5:TypeId} {p1 p5:String} {f1 f2 f3 f4 f5:Array Edge} {TK TV:TypeId}
  (c3:cS.toList=[⟨some t72,.move (.tmp m0),y1,p1,f1,none⟩,⟨some it,.range T (.tmp t72),y2,H,f2,none⟩])
  (c4:c1.toList=[⟨some nx,.next (.tmp it) false,y3,J,f3,none⟩,⟨some ok,.extract (.tmp nx) 0,y4,M,f4,none⟩])
  (c5:c2.toList=⟨some en,.entry (.tmp it),y5,p5,f5,none⟩::rest) (bt:∀ x∈rest,x.guard=none) (hT:P.underlying T=some (.map TK TV))
   {γ:Nat->Option Nat} {β:Nat->Option (Nat×Nat)} {s:St}  {w:World} (h:Rp w0 S γ β s a w) (dq:a.defers=[])
  (d1:o≠t72) (d2:o≠it) (d3:nx≠o) (d4:ok≠o) (d5:en≠o) (d6:it≠t72) (d7:it≠nx) (d8:it≠ok) (d9:it≠en) (d10:nx≠ok) (n1:t72<s.nt) (n2:it<s.nt) (n3:nx<s.nt) (n4:ok<s.nt) (n5:en<s.nt)
  {B:Nat} {l:List D} (hm:s.tm m0=.map e vt B) (dE:s.ob B=some (.mp e vt l)) (hl:l.length<=1073741824) (hv:eI s e o=some [])
  (W:∀ X L k v,Tk e L X->L.length<1073741824->wt e k->ev E (.region 0 rest.toArray false) .leaf D ((σL s.nt o it X).put (some en) (.d (.tup [e,vt]) (.tup [k,v]))) (λx s'=>match x with
   | .normal=>ev E c26 .leaf D s' (λx eb=>match x with|.normal=>(eI eb e o).bind λl=>some (.sl l)|_=>none)
   | _=>none)=some (.sl (L++[k])))
  {Q:Exit->Act->World->Prop} (hQ:∀ L S' γ' β' X a' w',Tk e L X->L.Perm (l.map yn)->Rp w0 S' γ' β' (σL s.nt o it X) a' w'->a'.defers=[]->Q .normal a' w') :
  (Code.seq (.region cv cS false) (.block b (.loop (.seq (.region cx c1 false) (.seq (.cond (.tmp ok) .skip (.exit b)) (.block b2 (.seq (.region cy c2 false) c26))))))).wpIn (FW none) nn P Q a w:=by
 have dv:m0<s.nt:=by
  rcases zua m0 s.nt with k|k
  ·exact k
  ·rw[h.tmu m0 k] at hm;cases hm
 have bj:=h.tms m0 (by rw[h.nt];exact dv)
 rw[hm] at bj;simp only[AR,AC] at bj;obtain⟨dy,m,dx,bx,_,_,_⟩:=bj;have bl:=ap dy dx;have hO:=h.obs B _ m dE bx;simp only[gF] at hO;obtain⟨_,_,eg,es,A,hM⟩:=hO;obtain⟨ec,f⟩:=Kv hM;have b5:=h.γn B m bx;have a7:∀ x∈es.toList,x.born<l.length:=λx hx=>by obtain⟨i,hi,rfl⟩:=z3a hx;have:=(f i _ (zda hi)).1;omega
 have dk:(es.toList.map (·.born)).Nodup:=by rw[List.Nodup,zGb];intro i j hi U ei;simp only[zka] at hi U;have a1:=(f i _ (zda hi)).1;have a2:=(f j _ (zda U)).1;grind
 refine wpIn_seq ?_;refine wpIn_region_list ?_;rw[c3];simp only[wpListIn,Region.wanted,if_true];refine(bI (K:=λv w1=>v=a.tmps.getD m0 undef/\w=w1) (eY.value (v:=a.eval (.tmp m0)) (w':=w) rfl ⟨rfl,rfl⟩) ?_);rintro _ _ ⟨rfl,rfl⟩;rw[bl];have db:(a.put (some t72) (.map (some m))).eval (.tmp t72)=.map (some m):=lD (by rw[h.nt];exact n1)
 refine(bI (K:=λv w1=>v=.pointer (some ⟨w.heap.size,0,none⟩)/\w1=w.alloc (.mapIter (some m) l.length #[] l.length)) (eY.value (lZ (m:=Instr.range T (.map (some m))) ?_ (run_range_map w T TK TV m es l.length hT A)) ⟨rfl,rfl⟩) ?_)
 ·show(Instr.range T ((a.put (some t72) (.map (some m))).eval (.tmp t72)) >>= λr=>pure (Next.value r))=_;rw[db]
 rintro _ _ ⟨rfl,rfl⟩;simp only[Exit.then];refine wpIn_block ?_;obtain⟨r,cd⟩:∃ r,r=w.heap.size:=⟨_,rfl⟩;rw[<-cd];have bh:m≠r:=u0
 have O:w.alloc (.mapIter (some m) l.length #[] l.length)=grown w [.mapIter (some m) l.length #[] l.length] w.drawn:=by
  show({ w with heap:=w.heap.push (.mapIter (some m) l.length #[] l.length) }:World)={ w with heap:=w.heap++[Obj.mapIter (some m) l.length #[] l.length].toArray,drawn:=w.drawn }
  simp_all
 have h1:Rp w0 S γ β ((s.put (some t72) .undef).put (some it) .undef) ((a.put (some t72) (.map (some m))).put (some it) (.pointer (some ⟨r,0,none⟩))) (w.alloc (.mapIter (some m) l.length #[] l.length)):=by rw[O];exact(((h.put (v:=.undef) (val:=.map (some m)) (by simp[AR]) (some t72)).put (v:=.undef) (val:=.pointer (some ⟨r,0,none⟩)) (by simp[AR]) (some it)).grow (os:=[.mapIter (some m) l.length #[] l.length]) (d:=w.drawn) (zja _) (S':=S) (λ_ _ t=>t) (λ_ _ t=>.inl t)).1
 have cf:eI ((s.put (some t72) .undef).put (some it) .undef) e o=some []:=by
  have q1:((s.put (some t72) .undef).put (some it) .undef).tm o=s.tm o:=by rw[Bu (λe=>d2 (by cases e;rfl)),Bu (λe=>d1 (by cases e;rfl))]
  have q2:((s.put (some t72) .undef).put (some it) .undef).dead=s.dead:=by simp_all [ak5]
  simp_all [eI,q1,q2]
 have b6:((s.put (some t72) .undef).put (some it) .undef).nt=s.nt:=by rw[(ak5 _ _ _).2.2.2.1,(ak5 _ _ _).2.2.2.1]
 have a6:(w.alloc (.mapIter (some m) l.length #[] l.length)).heap.size=w.heap.size+1:=by rw[O];simp[grown]
 have dR:¬ w0.Old r:=λho=>by have:=ho.1;have:=h.ext.sz;omega
 have N:((s.put (some t72) .undef).put (some it) .undef).dead=s.dead:=by rw[(ak5 _ _ _).2.2.1,(ak5 _ _ _).2.2.1]
 obtain⟨β1,X1,bz,R1⟩:=h1.std (m:=m) (r:=r) ⟨b5.1,by rw[a6];omega⟩ ⟨dR,by rw[a6];omega⟩ bh (λv bb ee z t=>by rw[N] at z;exact⟨λeq=>h.βγ v B bb ee z t (eq ▸ bx),λeq=>by have:=(h.βn v bb ee z t).2.1;omega⟩) he cf it
 rw[b6] at R1;have an:(w.alloc (.mapIter (some m) l.length #[] l.length)).heap[m]?=some (.map es l.length):=by rw[O,dK b5.2];exact A
 have aI:(w.alloc (.mapIter (some m) l.length #[] l.length)).heap[r]?=some (.mapIter (some m) l.length #[] l.length):=by rw[cd];exact heap_alloc_new w _
 have b8:((a.put (some t72) (.map (some m))).put (some it) (.pointer (some ⟨r,0,none⟩))).tmps.getD it undef=.pointer (some ⟨r,0,none⟩):=by exact lD (by rw[xE,h.nt];exact n2)
 refine Ak (m:=l.length) (λn a w=>∃ (S:Nat->Nat->Prop) (β:Nat->Option (Nat×Nat)) (X:AV) (L:List D) (seen:Array Nat) (G:Nat),Tk e L X/\Rp w0 (λb i=>S b i/\b≠m/\b≠r) (γs m r) β (σL s.nt o it X) a w/\a.defers=[]/\a.tmps.getD it undef=.pointer (some ⟨r,0,none⟩) ∧
  w.heap[m]?=some (.map es l.length)/\w.heap[r]?=some (.mapIter (some m) l.length seen G)/\l.length<=G/\L=seen.toList.map (λj=>yn (l.getD j default))/\seen.toList.Nodup/\(∀ j∈seen.toList,j<l.length)/\n+seen.size=l.length)
  ⟨S,β1,X1,[],#[],l.length,bz,R1,dq,b8,an,aI,zja _,rfl,j2,j2,j2⟩ ?_
 clear R1 h1 cf b8 an aI bz O;rintro n a w ⟨S,β,X,L,seen,G,hX,R,b1,hp,A,b4,dp,hL,bm,ba,hn⟩;have Y:=R.nt;refine wpIn_seq (wpIn_region_list ?_);rw[c4];simp only[wpListIn,Region.wanted,if_true];have b3:a.eval (.tmp it)=.pointer (some ⟨r,0,none⟩):=hp;rcases run_next_at w y3 r m l.length G seen es l.length b4 A a7 dp with⟨hz,q⟩|⟨c,a8,w1,bv,q⟩
 ·
  refine(bI (K:=λv w1=>v=.tuple #[.bool false]/\w=w1) (eY.value (lZ (m:=Instr.next (.pointer (some ⟨r,0,none⟩)) false y3) ?_ q) ⟨rfl,rfl⟩) ?_)
  ·show(Instr.next (a.eval (.tmp it)) false y3 >>= λr=>pure (Next.value r))=_
   rw[b3]
  rintro _ _ ⟨rfl,rfl⟩;have ex:(a.put (some nx) (.tuple #[.bool false])).eval (.tmp nx)=.tuple #[.bool false]:=lD (by rw[Y];exact n3)
  refine(bI (K:=λv w1=>v=.bool false/\w=w1) (eY.value (lZ (m:=Instr.extract (.tuple #[.bool false]) 0) ?_ (v:=.bool false) (w':=w) rfl) ⟨rfl,rfl⟩) ?_)
  ·show(Instr.extract ((a.put (some nx) (.tuple #[.bool false])).eval (.tmp nx)) 0 >>= λr=>pure (Next.value r))=_;rw[ex]
  rintro _ _ ⟨rfl,rfl⟩;simp only[Exit.then];refine wpIn_seq (wpIn_cond_false (lD (by rw[xE,Y];exact n4)) (wpIn_exit ?_))
  simp only[Exit.then,Exit.inBlock,if_true];have R2:=(R.put (v:=.undef) (val:=.tuple #[.bool false]) (by simp[AR]) (some nx)).put (v:=.undef) (val:=.bool false) (by simp[AR]) (some ok)
  rw[B4 d3,B4 d4] at R2;refine hQ L _ _ _ X _ _ hX ?_ R2 b1;have bY:∀ j,j<l.length->j∈seen.toList:=λj U=>by
   have ds:j<es.toList.length:=u0
   have e1:=(f j _ (zda ds)).1;have V:es.toList[j] ∉ (leftOf es seen).toList:=λhm=>by have:=List.length_pos_of_mem hm;simp at this;omega
   simp only[leftOf,Array.toList_filter,zJc,zGa,true_and] at V;simp at V;simp only[zDd,zbb] at e1;rw[e1] at V;simpa using V
  have bs:=(List.perm_ext_iff_of_nodup bm List.nodup_range).2 λj=>⟨λU=>zRa.2 (ba j U),λU=>bY j (zRa.1 U)⟩;rw[hL];refine(bs.map _).trans ?_;have:(List.range l.length).map (λj=>yn (l.getD j default))=l.map yn:=by
   apply zOb;intro j;rw[z2b,z2b];rcases zua j l.length with k|k
   ·simp[k,List.getD]
   ·rw[zXa (by simpa using k),zXa k];rfl
  rw[this]
 ·
  have ch:w1.heap[m]?=some (.map es l.length):=by rcases bv with rfl|rfl<;>exact A
  have cs:w1.heap.size=w.heap.size:=by rcases bv with rfl|rfl<;>rfl
  have d0:r<w1.heap.size:=by rw[cs];exact(zpa.1 b4).1
  have Rw:Rp w0 (λb i=>S b i/\b≠m/\b≠r) (γs m r) β (σL s.nt o it X) a w1:=by
   rcases bv with rfl|rfl
   ·exact R
   ·have:=(R.grow (os:=[]) (d:=w.drawn+1) (zHc _) (S':=λb i=>S b i/\b≠m/\b≠r) (λ_ _ t=>t) (λ_ _ t=>.inl t)).1;have e2:grown w [] (w.drawn+1)=w.drew:=by
     unfold grown;rw[show w.heap++([]:List Obj).toArray=w.heap by simp]
     rfl
    rw[e2] at this;exact this
  obtain⟨I,Z⟩:∃ I,I=setBlock w1 r (.mapIter (some m) l.length (seen.push c.born) l.length):=⟨_,rfl⟩;rw[<-Z] at q;have R2:Rp w0 (λb i=>S b i/\b≠m/\b≠r) (γs m r) β (σL s.nt o it X) a I:=by rw[Z];exact Rw.setB (id:=1) rfl rfl (λi hi=>hi.2.2 rfl) _
  have ax:I.heap[m]?=some (.map es l.length):=by rw[Z];simp only[setBlock];rw[z8c (Ne.symm bh)];exact ch
  have aO:I.heap[r]?=some (.mapIter (some m) l.length (seen.push c.born) l.length):=by rw[Z];simp only[setBlock];rw[Array.getElem?_setIfInBounds_self_of_lt d0]
  have p:c∈es.toList/\c.born ∉ seen.toList:=by simp only[leftOf,Array.toList_filter,zJc] at a8;exact⟨a8.1,by have:=a8.2;simpa using this⟩
  obtain⟨j,U,dt⟩:=z3a p.1;obtain⟨q1,k,v,q2,q3,q4,q5,q6⟩:=f j c (by rw[zda U,dt])
  rw[zbb] at q1;have ej:j<l.length:=u0
  have a9:l.getD j default=.st [k,v]:=by simp[List.getD,q2]
  refine(bI (K:=λv w1=>v=.tuple #[.bool true,c.key,c.val]/\I=w1) (eY.value (lZ (m:=Instr.next (.pointer (some ⟨r,0,none⟩)) false y3) ?_ q) ⟨rfl,rfl⟩) ?_)
  ·show(Instr.next (a.eval (.tmp it)) false y3 >>= λr=>pure (Next.value r))=_
   rw[b3]
  rintro _ _ ⟨rfl,rfl⟩;have ex:(a.put (some nx) (.tuple #[.bool true,c.key,c.val])).eval (.tmp nx)=.tuple #[.bool true,c.key,c.val]:=lD (by rw[Y];exact n3)
  refine(bI (K:=λv w1=>v=.bool true/\I=w1) (eY.value (lZ (m:=Instr.extract (.tuple #[.bool true,c.key,c.val]) 0) ?_ (v:=.bool true) (w':=I) rfl) ⟨rfl,rfl⟩) ?_)
  ·show(Instr.extract ((a.put (some nx) (.tuple #[.bool true,c.key,c.val])).eval (.tmp nx)) 0 >>= λr=>pure (Next.value r))=_;rw[ex]
  rintro _ _ ⟨rfl,rfl⟩;simp only[Exit.then];refine wpIn_seq (wpIn_cond_true (lD (by rw[xE,Y];exact n4)) (wpIn_skip ?_))
  simp only[Exit.then];refine wpIn_block (wpIn_seq (wpIn_region_list ?_));have R3:=(R2.put (v:=.undef) (val:=.tuple #[.bool true,c.key,c.val]) (by simp[AR]) (some nx)).put (v:=.undef) (val:=.bool true) (by simp[AR]) (some ok)
  rw[B4 d3,B4 d4] at R3;have bp:((a.put (some nx) (.tuple #[.bool true,c.key,c.val])).put (some ok) (.bool true)).tmps.getD it undef=.pointer (some ⟨r,0,none⟩):=by rw[ct (λe=>d8 (by cases e;rfl)),ct (λe=>d7 (by cases e;rfl))];exact hp
  have ad:((a.put (some nx) (.tuple #[.bool true,c.key,c.val])).put (some ok) (.bool true)).defers=[]:=b1;generalize ((a.put (some nx) (.tuple #[.bool true,c.key,c.val])).put (some ok) (.bool true))=a3 at R3 bp ad ⊢;rw[c5];simp only[wpListIn,Region.wanted,if_true];refine(bI (K:=λv w1=>v=.tuple #[c.key,c.val]/\I=w1) (eY.value (lZ (m:=Instr.entry (.pointer (some ⟨r,0,none⟩))) ?_ (run_entry_at I r m l.length seen es l.length c aO ax p.1 dk)) ⟨rfl,rfl⟩) ?_)
  ·show(Instr.entry (a3.eval (.tmp it)) >>= λr=>pure (Next.value r))=_;rw[show a3.eval (.tmp it)=.pointer (some ⟨r,0,none⟩) from bp]
  rintro _ _ ⟨rfl,rfl⟩;have R4:=R3.put (v:=.d (.tup [e,vt]) (.tup [k,v])) (val:=.tuple #[c.key,c.val]) (by
   simp only[AR];refine .inr ⟨[e,vt],rfl,by simp[aR,dz,dB],⟨[k,v],rfl,k,[v],rfl,q3,v,[],rfl,q4,rfl⟩,[c.key,c.val],rfl,rfl,λi d u z hu=>?_⟩
   cases i with
   | zero=>simp at z hu;subst z;subst hu;exact Ao he q3 q5
   | succ i=>cases i with
    | zero=>simp at z hu;subst z;subst hu;exact Ao ea q4 q6
    | succ i=>simp at z) (some en)
  have b9:(a3.put (some en) (.tuple #[c.key,c.val])).tmps.getD it undef=.pointer (some ⟨r,0,none⟩):=by rw[ct (λe=>d9 (by cases e;rfl))];exact bp
  have al:(a3.put (some en) (.tuple #[c.key,c.val])).defers=[]:=ad;generalize (a3.put (some en) (.tuple #[c.key,c.val]))=a4 at R4 b9 al ⊢;have dm:(c.born::seen.toList).length<=l.length:=Dt _ _ (List.nodup_cons.2 ⟨p.2,bm⟩) (λx hx=>by
   rcases zOa.1 hx with rfl|hx
   ·omega
   ·exact ba x hx)
  have ed:L.length=seen.size:=by rw[hL];simp
  simp only[zPa,zEb] at dm;have cI:((σL s.nt o it X).put (some en) (.d (.tup [e,vt]) (.tup [k,v]))).lkS=[it]:=(ak5 _ _ _).2.2.2.2.1;have C:((σL s.nt o it X).put (some en) (.d (.tup [e,vt]) (.tup [k,v]))).lkO=[0,1,4095]:=(ak5 _ _ _).2.2.2.2.2.1;refine xX (ops:=rest.toArray) rest _ _ bt ?_;have key:=Rl (ro:=none) (nn:=nn) hE (Q:=Exit.then (c26.wpIn (FW none) nn P (Exit.inBlock b2 (Exit.then (λa' w'=>∃ g,g<n/\∃ (S:Nat->Nat->Prop) (β:Nat->Option (Nat×Nat)) (X:AV) (L:List D) (seen:Array Nat) (G:Nat),Tk e L X/\Rp w0 (λb i=>S b i/\b≠m/\b≠r) (γs m r) β (σL s.nt o it X) a' w'/\a'.defers=[]/\a'.tmps.getD it undef=.pointer (some ⟨r,0,none⟩) ∧
   w'.heap[m]?=some (.map es l.length)/\w'.heap[r]?=some (.mapIter (some m) l.length seen G)/\l.length<=G/\L=seen.toList.map (λj=>yn (l.getD j default))/\seen.toList.Nodup/\(∀ j∈seen.toList,j<l.length)/\g+seen.size=l.length) (Exit.inBlock b Q)))) (Exit.inBlock b2 (Exit.then (λa' w'=>∃ g,g<n/\∃ (S:Nat->Nat->Prop) (β:Nat->Option (Nat×Nat)) (X:AV) (L:List D) (seen:Array Nat) (G:Nat),Tk e L X/\Rp w0 (λb i=>S b i/\b≠m/\b≠r) (γs m r) β (σL s.nt o it X) a' w'/\a'.defers=[]/\a'.tmps.getD it undef=.pointer (some ⟨r,0,none⟩) ∧
   w'.heap[m]?=some (.map es l.length)/\w'.heap[r]?=some (.mapIter (some m) l.length seen G)/\l.length<=G/\L=seen.toList.map (λj=>yn (l.getD j default))/\seen.toList.Nodup/\(∀ j∈seen.toList,j<l.length)/\g+seen.size=l.length) (Exit.inBlock b Q)))) R4 (W X L k v hX u0 q3) ?_
  ·simpa using key
  intro x s' S' γ' β' a' w' g1 g2 g3 g4;cases x with
  | ret=>cases g4
  | exit i=>cases g4
  | normal=>
   show c26.wpIn (FW none) nn P _ a' w';refine CL hE c26 .leaf D _ _ g1 g4 λx2 s2 S2 γ2 β2 a5 w5 k1 k2 k3 k4=>?_;cases x2 with
   | ret=>cases k4
   | exit i=>cases k4
   | normal=>
    have dr:eI s2 e o=some (L++[k]):=by obtain⟨l2,u1,u2⟩:=ab k4;simp only[zca,D.sl.injEq] at u2;rw[u1,u2]
    have F:=g2.tr k2 g3;obtain⟨z1,z2⟩:=F.objs 0 (by rw[C];simp) m rfl
    obtain⟨z3,z4⟩:=F.objs 1 (by rw[C];simp) r rfl
    have z5:=F.slots it (by rw[cI];simp)
    obtain⟨β6,X6,da,R6⟩:=k1.std (m:=m) (r:=r) (k1.γn 0 m z1) (k1.γn 1 r z3) bh (λu bb ee z t=>⟨λeq=>k1.βγ u 0 bb ee z t (eq ▸ z1),λeq=>k1.βγ u 1 bb ee z t (eq ▸ z3)⟩) he dr it;have b7:s2.nt=s.nt:=by rw[k3.nt,g3.nt,(ak5 _ _ _).2.2.2.1];rfl
    rw[b7] at R6;show ∃ g,g<n/\_;refine⟨n-1,u0,S2,β6,X6,L++[k],seen.push c.born,l.length,da,R6,F.df0 (by rw[C];simp) al,z5.trans b9,z2.eq ax (λ_ h=>by cases h),z4.eq aO (λ_ h=>by cases h),zja _,?_,?_,?_,?_⟩
    ·rw[zqd,zib,<-hL,z4a,zld,q1,a9];rfl
    ·rw[zqd,List.nodup_append];refine⟨bm,j2,λx hx y hy=>?_⟩
     rw[zUa.1 hy];exact λeq=>p.2 (eq ▸ hx)
    ·intro x hx;rw[zqd] at hx;rcases zKa.1 hx with hx|hx
     ·exact ba x hx
     ·rw[zUa.1 hx];omega
    ·simp;omega
end
end
section
variable{y:D}{S:Nat->Nat->Prop}{l q:List D}{z:Ty}
section
variable{P:Program}{E:Env}
def q9(w:World)(S:Nat->Nat->Prop):Root:=⟨w,S,λ_=>False⟩
def NN(P:Program)(fn:Func)(w:World)(S:Nat->Nat->Prop)(a:Ty)(y:D):Exit->Act->World->Prop:=
 bodyPost P fn λe w'=>∃ v,e=.returned v/\(∃ os d,w.drawn<=d/\w'=grown w os d)/\wt a y/\DR w' (λb o=>S b o\/(w.heap.size<=b/\b<w'.heap.size)) y v
def LJ(p:EnvOk P E){fn:Func}{w:World}(t:fZ fn.results.size z=true){d:Code}{ann:Ann}{S':Nat->Nat->Prop}{γ':Nat->Option Nat}{β':Nat->Option (Nat×Nat)}{s':St}{a':Act}{w':World}
  (h:Rp (q9 w S) S' γ' β' s' a' w') (c:a'.defers=[]) (n:4095∈s'.lkO) (g:(ev E d ann D s' λe s=>match e with|.exit _=>none|_=>results E s z fn.results.toList)=some y):d.wpIn (FW none) 0 P (NN P fn w S z y) a' w':=by
 refine CL p d ann D _ y h g λe s' S' γ' β' a' w' f r B m=>?_;have a:results E s' z fn.results.toList=some y->(∃ v,(Go.results fn a'.tmps).run P w'=.ok v w'/\∃ v',Ending.returned v=.returned v'/\(∃ os d,w.drawn<=d/\w'=grown w os d)/\wt z y/\DR w' (λb o=>S b o\/(w.heap.size<=b/\b<w'.heap.size)) y v'):=λhq=>by
  obtain⟨v,u,x,A⟩:=ke p f t hq;refine⟨v,u,v,rfl,fN f.ext (λ_ j=>j),x,A.mono (λ_ _ _=>rfl) λb o q=>?_⟩;rcases zua b w.heap.size with l|k
  ·exact .inl (f.So b o q ⟨l,λj=>j⟩)
  ·exact .inr ⟨k,f.Sb b o q⟩
 cases e with
 | normal=>exact⟨r.df0 n c,a m⟩
 | ret=>exact⟨r.df0 n c,a m⟩
 | exit i=>cases m
def pQ(q:EnvOk P E){f:FuncId}{fn:Func}{ann:AnnT}{a:List Ty}{xs:List D}{K:St->Option D}(A:P.funcs[f]?=some fn)(hk:(decide (a.length<=fn.ntmps)&&fZ fn.results.size z&&aR a)=true)
  (h:LE E K fn ann a xs=some y) (r:∀ c,fn.body=some c->∀ (w:World) (S S':Nat->Nat->Prop) γ' β' s' a' w',Rp (q9 w S) S' γ' β' s' a' w'->a'.defers=[]->K s'=some y->(uV c ann).wpIn (FW none) 0 P (NN P fn w S z y) a' w'):NY P a z f xs y:=by
 intro w S vs u j hlen m;simp only[X,zea] at hk;obtain⟨⟨F,O⟩,hn⟩:=hk;unfold LE at h;split at h<;>try(cases h;done)
 rename_i c d;have I:=iP j;have i:(vs.toArray++Array.replicate (fn.ntmps-vs.toArray.size) undef).size=fn.ntmps:=by simp;omega
 refine AA A d (UW (w0:=q9 w S) q c ann (S:=S) (γ:=λ_=>none) (β:=λ_=>none) (s:=p8 fn a xs) ?_ rfl (by simp[p8]) h λs' S' γ' β' a' w' L nd M=>r c d w S S' γ' β' s' a' w' L nd M)
 refine⟨⟨rfl,rfl,rfl,zja _,zja _,λ_ _=>rfl⟩,λt ht=>?_,i,λt ht=>?_,λid o b C=>(by cases C),λid b d=>(by cases d),λid J b d=>(by cases d),λ_ _=>rfl,λv b e _ d=>(by cases d),λv v' b e N _ _ d=>(by cases d),λv id b e _ d=>(by cases d),λ_ _=>rfl,u,λb o d _=>d⟩
 ·simp only[p8,gN];split
  ·rename_i ty x p l;have B:=(zra.1 l).1;have g:t<vs.length:=u0
   have H:(vs.toArray++Array.replicate (fn.ntmps-vs.toArray.size) undef).getD t undef=vs[t]:=by simp[Array.getD,zEd,g];omega
   rw[H];obtain⟨Q,k,n⟩:=ge j p;rw[l] at k;cases k;exact dA (cc hn p) n (m t x _ l (zda g))
  ·simp only[AR]
 ·have G:fn.ntmps<=t:=ht;simp only[p8,gN];rw[zXa u0]
def RT(nt x:Nat)(e:Ty)(l:List D):St:={ tm:=λi=>if i=x then .d (.sl e) (.sl l) else .undef,ob:=λ_=>none,fresh:=0,dead:=[],nt:=nt,lkS:=[],lkO:=[4095] }
def Rp.reset{w0:Root}{s:St}{x:Nat}{e:Ty}{a:Act}{w:World}(h:Rp w0 S (λ_=>none) (λ_=>none) (VM s x e l) a w){nt:Nat}(c:s.nt=nt):Rp w0 S (λ_=>none) (λ_=>none) (RT nt x e l) a w:=by subst c;exact⟨h.ext,h.tms,h.nt,h.tmu,λid o b d=>(by cases d),h.γn,h.γi,λ_ _=>rfl,h.βn,h.βi,h.βγ,λ_ _=>rfl,h.Sb,h.So⟩
def HR(E:Env)(nt x g:Nat)(e:Ty)(s:St):Option D:=(eI s e x).bind λl=>if s.nt=nt then(kR E g l).bind λl'=>some (.sl l') else none
def z7(B:EnvOk P E){f0:Nat}{e:Ty}(J:SortOk P f0 e){g:Nat}(i:E.sig g=some ([e,e],.int .i64)/\E.free g=0){fn:Func}{w:World}(K:fZ fn.results.size z=true)
  {id x t d2 nt:Nat} {ops:Array Oper} {d:Code} {ann:Ann} {v A:TypeId} {p1 L:String} {j k:Array Edge} {args:Array Operand} {m:Array TypeId}
  (f:ops.toList=[⟨some t,.move (.tmp x),v,p1,j,none⟩,⟨some d2,.call ⟨.value (.func f0),args,m⟩,A,L,k,none⟩]) (a:args=#[.tmp t,.func g]) (C:(decide (x≠t)&&decide (x≠d2)&&decide (t<nt))=true)
  (u:∀ l',(ev E d ann D (RT nt x e l') λe s=>match e with|.exit _=>none|_=>results E s z fn.results.toList)=some (.sl l'))
  {S':Nat->Nat->Prop} {γ':Nat->Option Nat} {β':Nat->Option (Nat×Nat)} {s':St} {a':Act} {w':World} (h:Rp (q9 w S) S' γ' β' s' a' w') (r:a'.defers=[]) (H:HR E nt x g e s'=some y):(Code.seq (.region id ops false) d).wpIn (FW none) 0 P (NN P fn w S z y) a' w':=by
 simp only[X,zea] at C;obtain⟨⟨o,p⟩,q⟩:=C;obtain⟨l,h1,n⟩:=ab H;split at n<;>try(cases n;done)
 rename_i c;obtain⟨l',F,G⟩:=ab n;cases G;refine wpIn_seq (Si B J i f a h r o p (by rw[c];exact q) h1 F λa2 M S2 I b=>?_)
 exact LJ B K (I.reset c) b (by simp[RT]) (u l')
theorem uJ{lt:D->D->Bool}{x:D}:∀ {l:List D},(∀ a∈x::l,∀ b∈x::l,∀ c∈x::l,lt a b=true->lt b c=true->lt a c=true)->(∀ y∈l,lt x y=true\/lt y x=true)->l.Pairwise (λa b=>lt a b=true)->(E7 lt x l).Pairwise (λa b=>lt a b=true)
 | [],_,_,_=>by simp[E7]
 | y::l,g,f,hp=>by
  obtain⟨p1,k⟩:=zNa.1 hp;simp only[E7];split
  ·rename_i e;refine zNa.2 ⟨λz d=>?_,hp⟩;rcases zOa.1 d with rfl|d
   ·exact e
   ·exact g x j2 y j2 z (by simp[d]) e (p1 z d)
  ·rename_i e;have h:=(f y zBa).resolve_left e;refine zNa.2 ⟨λz d=>?_,uJ (λa i b j c hc=>?_) (λz d=>f z (zsa _ d)) k⟩
   ·rcases zOa.1 ((tW lt x l).subset d) with rfl|d
    ·exact h
    ·exact p1 z d
   ·have up:∀ q,q∈x::l->q∈x::y::l:=λq hq=>by
     rcases zOa.1 hq with rfl|hq
     ·simp
     ·simp[hq]
    exact g a (up a i) b (up b j) c (up c hc)
theorem sV{lt:D->D->Bool}:∀ {l:List D},(∀ a∈l,∀ b∈l,∀ c∈l,lt a b=true->lt b c=true->lt a c=true)->l.Pairwise (λa b=>lt a b=true\/lt b a=true)->(nc lt l).Pairwise (λa b=>lt a b=true)
 | [],_,_=>by simp[nc]
 | x::l,d,g=>by
  obtain⟨p1,j⟩:=zNa.1 g;have h:∀ q,q∈nc lt l->q∈l:=λq hq=>(iM lt l).subset hq;have up:∀ q,q∈x::nc lt l->q∈x::l:=λq hq=>by
   rcases zOa.1 hq with rfl|hq
   ·simp
   ·simp[h q hq]
  exact uJ (λa e b f c hc=>d a (up a e) b (up b f) c (up c hc)) (λy i=>p1 y (h y i)) (sV (λa e b f c hc=>d a (zsa _ e) b (zsa _ f) c (zsa _ hc)) j)
def xG{g:Nat}{l':List D}(hc:u6 E g l'=true)(hp:l.Perm l'):kR E g l=some l':=by
 obtain⟨h1,B⟩:=lr hc;have f:∀ x∈l',∃ i,l'[i]?=some x:=λx hx=>by obtain⟨i,u,v⟩:=z3a hx;exact⟨i,by rw[zda u,v]⟩
 have t:∀ a∈l,∀ b∈l,∀ c∈l,ua E g a b=true->ua E g b c=true->ua E g a c=true:=λa m b n c q u v=>by obtain⟨i,hi⟩:=f a (hp.subset m);obtain⟨j,d⟩:=f b (hp.subset n);obtain⟨k,hk⟩:=f c (hp.subset q);have:=(fK hc hi d).1.1 u;have:=(fK hc d hk).1.1 v;exact(fK hc hi hk).1.2 u0
 have r:l.Nodup:=hp.symm.nodup (yO hc);have s:l.Pairwise (λa b=>ua E g a b=true\/ua E g b a=true):=by
  refine z3c (λ{a b} m n p=>?_) r;obtain⟨i,hi⟩:=f a (hp.subset m);obtain⟨j,d⟩:=f b (hp.subset n);rcases zod i j with k|k|k
  ·exact .inl ((fK hc hi d).1.2 k)
  ·subst k;rw[hi] at d;cases d;exact zgb rfl p
  ·exact .inr ((fK hc d hi).1.2 k)
 have w:=sV t s;have o:(nc (ua E g) l).Perm l':=(iM _ l).trans hp;have:nc (ua E g) l=l':=by
  have key:∀ {a b:List D},a.Pairwise (λx y=>ua E g x y=true)->b.Pairwise (λx y=>ua E g x y=true)->a.Perm b->(∀ x∈a,x∈l')->a=b:=by
   intro a
   induction a with
   | nil=>intro b _ _ hp _;exact hp.symm.eq_nil.symm ▸ rfl
   | cons x a ih=>
    intro b m n hp hm;cases b with
    | nil=>exact zgb hp.eq_nil j2
    | cons y b=>
     obtain⟨a1,a2⟩:=zNa.1 m;obtain⟨b1,b2⟩:=zNa.1 n;have e:x=y:=by
      rcases zOa.1 (hp.subset zBa) with e|m1
      ·exact e
      ·rcases zOa.1 (hp.symm.subset (zBa (a:=y))) with e|G
       ·exact e.symm
       ·exfalso;obtain⟨i,hi⟩:=f x (hm x zBa);obtain⟨j,d⟩:=f y (hm y (zsa _ G));have:=(fK hc hi d).1.1 (a1 y G);have:=(fK hc d hi).1.1 (b1 x m1);omega
     subst e;rw[ih a2 b2 ((List.perm_cons x).1 hp) (λz A=>hm z (zsa _ A))]
  exact key w (h1.imp λh=>h.1) o λx hx=>o.subset hx
 unfold kR;rw[this,zla hc]
def FT{g:Nat}{l':List D}(h:kR E g l=some l')(hp:q.Perm l):kR E g q=some l':=by
 have a:u6 E g l'=true/\l'=nc (ua E g) l:=by
  unfold kR at h;split at h
  ·rename_i hh;cases h;exact⟨hh,rfl⟩
  ·cases h
 exact xG a.1 (hp.trans (by rw[a.2];exact(iM _ l).symm))
end
end
end Sy
end
noncomputable section
namespace Sy
open Go Go.Proofs
section
variable{y:D}{f:Nat}{z:Ty}
inductive AnnU where
 | fin (a:Ann)
 | seq (a:Ann) (b:AnnU)
 | next (a:Ann) (b:AnnU)
 | asc (a:AnnU)
 | thaw (x:Nat) (e:Ty) (a b:AnnU)
mutual
def ny(dead:List Nat):AV->Bool
 | .d t _=>bX t
 | .nils=>true
 | .own t v _=>bX t&&!(dead.contains v)
 | .st _ l=>AB dead l
 | _=>false
def AB(dead:List Nat):List AV->Bool
 | []=>true
 | a::l=>ny dead a&&AB dead l
end
def Ef(dead:List Nat)(v:AV):AV:=if ny dead v then v else match v with
 | .ptr t id p=>.ptr t id p
 | _=>.undef
def Ee(dead:List Nat):Option Ob->Option Ob
 | some (.one t v)=>if ny dead v then some (.one t v) else none
 | _=>none
def Dg(s:St)(x:Nat):List Nat:=match s.tm x with
 | .own _ v _=>v::s.dead
 | _=>s.dead
def Ae(s:St)(e:Ty)(x:Nat):Option (List D):=match s.tm x with
 | .own a v l=>if a.beq e&&!(s.dead.contains v)&&bX e&&ak e then some l else none
 | _=>none
def thaw(s:St)(x:Nat)(e:Ty)(l:List D):St:=
 { tm:=λi=>if i=x then .mem e ((s.fresh+1)*4096) else Ef (Dg s x) (s.tm i),ob:=λi=>if i=(s.fresh+1)*4096 then some (.many e l) else Ee (Dg s x) (s.ob i),fresh:=s.fresh+1,dead:=Dg s x,nt:=s.nt,lkS:=[],lkO:=[4095] }
def CK(E:Env)(fn:Func)(f:Ty):Code->List Code->AnnU->St->Option D
 | c,[],.fin a,s=>ev E c a D s λe s=>match e with
  | .exit _=>none
  | _=>results E s f fn.results.toList
 | .seq c d,st,.seq a b,s=>ev E c a D s λe s'=>match e with
  | .normal=>CK E fn f d st b s'
  | .ret=>results E s' f fn.results.toList
  | .exit _=>none
 | c,d::st,.next a b,s=>ev E c a D s λe s'=>match e with
  | .normal=>CK E fn f d st b s'
  | .ret=>results E s' f fn.results.toList
  | .exit _=>none
 | .seq c d,st,.asc a,s=>CK E fn f c (d::st) a s
 | c,st,.thaw x e a b,s=>(Ae s e x).bind λl=>if l.isEmpty then CK E fn f c st a (s.put (some x) (.d (.sl e) (.sl []))) else CK E fn f c st b (thaw s x e l)
 | _,_,_,_=>none
def US(E:Env)(fn:Func)(ann:AnnU)(b:List Ty)(a:Ty)(args:List D):Option D:=
 match fn.body with
 | none=>none
 | some c=>CK E fn a c [] ann (p8 fn b args)
section
variable{P:Program}{E:Env}{w0:Root}{S:Nat->Nat->Prop}{γ:Nat->Option Nat}{β:Nat->Option (Nat×Nat)}{s:St}{a:Act}{w:World}
def JV{w w':World}{S S':Nat->Nat->Prop}{t:Ty}{x:D}{cs:List Value}(hc:bX t=true)(hw:wt t x)(h:cY w S x.flat cs):cY w' S' x.flat cs:=
 (df (iF t x hc hw)).2 ((df (iF t x hc hw)).1 h)
mutual
theorem Am{w:World}{S:Nat->Nat->Prop}{γ γ':Nat->Option Nat}{β:Nat->Option (Nat×Nat)}{ob ob':Nat->Option Ob}{dead:List Nat}{v b':Nat}(hb:∀ u b e,u ∉ v::dead->β u=some (b,e)->b≠b') :
  ∀ (x:AV) (cs:List Value),ny (v::dead) x=true->AC ⟨w,S,γ,β,ob,dead⟩ x cs->AC ⟨w,λb o=>S b o/\b≠b',γ',β,ob',v::dead⟩ x cs
 | .d t x,cs,h,k=>by simp only[AC] at k ⊢;exact⟨k.1,k.2.1,JV h k.1 k.2.2⟩
 | .nils,cs,_,k=>by simpa only[AC] using k
 | .own t u l,cs,h,k=>by
  simp only[ny,X,zEa] at h;have hu:u ∉ v::dead:=by simpa using h.2
  have hu':u ∉ dead:=λhh=>hu (zsa _ hh);simp only[AC] at k ⊢;obtain⟨k1,k2,A,cap,k3,k4,k5⟩:=k;refine⟨k1,k2,A,cap,k3,?_,λ_=>k5 hu'⟩;obtain⟨_,_,b,off,e1,e2,e3,cs2,e4,e5⟩:=k4.elems;cases e1;have lf:=iG h.1 l k2;by_cases hne:l=[]
  ·subst hne;exact akg (b:=0) (off:=0) (.inl rfl) e3 ⟨[],cY.nil,j2⟩
  ·replace e2:=e2.resolve_left hne;refine akg (.inr e2) e3 ⟨cs2,(df lf).2 ((df lf).1 e4),λi c hi=>⟨⟨(e5 i c hi).1,?_⟩,(e5 i c hi).2⟩⟩;rcases k5 hu' with⟨z1,_⟩|⟨b2,off2,z1,z2,_⟩
   ·simp_all
   ·grind
 | .st ts l,cs,h,k=>by simp only[AC] at k ⊢;exact⟨k.1,k.2.1,B7 hb l cs (by simpa only[ny] using h) k.2.2⟩
 | .ptr ..,_,h,_|.fptr ..,_,h,_|.mem ..,_,h,_|.clo ..,_,h,_|.map ..,_,h,_|.sub ..,_,h,_|.yld ..,_,h,_|.tpo ..,_,h,_|.gone,_,h,_|.undef,_,h,_=>by cases h
theorem B7{w:World}{S:Nat->Nat->Prop}{γ γ':Nat->Option Nat}{β:Nat->Option (Nat×Nat)}{ob ob':Nat->Option Ob}{dead:List Nat}{v b':Nat}(hb:∀ u b e,u ∉ v::dead->β u=some (b,e)->b≠b') :
  ∀ (l:List AV) (cs:List Value),AB (v::dead) l=true->jM ⟨w,S,γ,β,ob,dead⟩ l cs->jM ⟨w,λb o=>S b o/\b≠b',γ',β,ob',v::dead⟩ l cs
 | [],cs,_,k=>by simpa only[jM] using k
 | x::l,cs,h,k=>by simp only[AB,X] at h;simp only[jM] at k ⊢;obtain⟨c1,c2,e,k1,k2⟩:=k;exact⟨c1,c2,e,Am hb x c1 h.1 k1,B7 hb l c2 h.2 k2⟩
end
def NX{w:World}{S:Nat->Nat->Prop}{γ γ':Nat->Option Nat}{β:Nat->Option (Nat×Nat)}{ob a:Nat->Option Ob}{dead:List Nat}{v:Nat}(g:∀ u b e,u ∉ v::dead->β u=some (b,e)->b≠f)
  {y:AV} {x:Value} (h:ny (v::dead) y=true) (k:AR ⟨w,S,γ,β,ob,dead⟩ y x):AR ⟨w,λb o=>S b o/\b≠f,γ',β,a,v::dead⟩ y x:=by
 cases y<;>simp only[AR] at k ⊢<;>try(cases h;done)
 case d t y=>
  simp only[ny] at h;rcases k with⟨i,c,j⟩|⟨ts,rfl,_⟩
  ·exact .inl ⟨i,c,Ao h c j⟩
  ·simp[bX] at h
 all_goals exact⟨k.1,Am g _ _ h k.2⟩
def FY(dead:List Nat)(v:AV):(ny dead v=true/\Ef dead v=v)\/(∃ t id p,v=.ptr t id p/\Ef dead v=v)\/Ef dead v=.undef:=by
 by_cases h:ny dead v=true
 ·exact .inl ⟨h,zla h⟩
 ·cases v<;>first
   | exact .inr (.inl ⟨_,_,_,rfl,rfl⟩)
   | exact .inr (.inr (zia h))
theorem xL{dead:List Nat}{o:Option Ob}{o':Ob}(h:Ee dead o=some o'):∃ t v,o=some (.one t v)/\o'=.one t v/\ny dead v=true:=by unfold Ee at h;grind
theorem Rp.thaw(h:Rp w0 S γ β s a w){x:Nat}{e:Ty}{l:List D}(hl:Ae s e x=some l)(U:l≠[]):∃ S' γ' β',Rp w0 S' γ' β' (thaw s x e l) a w:=by
 unfold Ae at hl;split at hl<;>try(cases hl;done)
 rename_i y v l0 F;split at hl<;>try(cases hl;done)
 rename_i c;cases hl;simp only[X,zEa] at c;obtain⟨⟨⟨Q,R⟩,hc⟩,hn⟩:=c;have:=alb _ _ Q;subst this;have L:v ∉ s.dead:=by simpa using R
 have hx:x<s.nt:=by
  rcases zua x s.nt with k|k
  ·exact k
  ·have:=h.tmu x k;rw[F] at this;cases this
 have C:=h.tms x (by rw[h.nt];exact hx)
 rw[F] at C;simp only[AR,AC] at C;obtain⟨n0,n1,V,ad,cap,n3,n4,n5⟩:=C;obtain⟨al,W,A,a0,H,z,e3,cs,c1,c2⟩:=n4.elems;cases H;replace z:=z.resolve_left U;rcases n5 L with⟨rfl,_⟩|⟨b,off,q1,N,n,q3,q4,q5⟩
 ·cases z
 rw[z] at q1;cases q1;subst q5;obtain⟨row,B,ax⟩:=rd q3;obtain⟨k1,k2,k3⟩:=h.βn v _ _ L N;have E:ck w A=some (cs++row.toList.drop cs.length).toArray:=by
  rw[B];congr 1;apply zic;have:row.toList.take cs.length=cs:=by
   apply zOb;intro i;rcases zua i cs.length with hi|hi
   ·have:=(c2 i cs[i] (zda hi)).2;rw[cell_of_row w B,zbb] at this
    simp_all
   ·grind
  conv=>lhs;rw[<-zza cs.length row.toList,this]
 have d:Dg s x=v::s.dead:=by simp only[Dg,F]
 have K:∀ u b e,u ∉ v::s.dead->β u=some (b,e)->b≠A:=λu b e hu he J=>by subst J;exact hu (by rw[h.βi u v b e _ (λhh=>hu (zsa _ hh)) L he N];exact zBa)
 have hid:γ ((s.fresh+1)*4096)=none:=h.γf _ (by unfold St.base;omega)
 obtain⟨id,m⟩:∃ id,id=(s.fresh+1)*4096:=⟨_,rfl⟩;rw[<-m] at hid;refine⟨λb o=>S b o/\b≠A,λi=>if i=id then some A else γ i,β,⟨h.ext,λt ht=>?_,h.nt,λt ht=>?_,λi o b r c=>?_,λi b c=>?_,λi I b c g=>?_,λi hi=>?_,λu b e hu c=>?_,λu Y b e y hu a1 c g=>?_,λu i b e hu c M=>?_,λu hu=>h.βf u ?_,λb o c=>h.Sb b o c.1,λb o c=>h.So b o c.1⟩⟩
 ·have j:=h.tms t ht;have e0:(Sy.thaw s x y l).tm t=if t=x then .mem y id else Ef (v::s.dead) (s.tm t):=by rw[m,<-d];rfl
  have H:(Sy.thaw s x y l).ob=λi=>if i=id then some (.many y l) else Ee (v::s.dead) (s.ob i):=by rw[m,<-d];rfl
  have P:(Sy.thaw s x y l).dead=v::s.dead:=d;rw[e0,H,P];by_cases htx:t=x
  ·subst htx;rw[zla rfl];simp only[AR,AC]
   simp_all
  ·rw[zia htx];rcases FY (v::s.dead) (s.tm t) with⟨T,z⟩|⟨t',I,p,hp,z⟩|z
   ·rw[z];exact NX K T j
   ·rw[z,hp];rw[hp] at j;simp only[AR,AC] at j ⊢;obtain⟨m0,b,off,m1,G,m3⟩:=j;have q:I≠id:=λJ=>by rw[J,hid] at G;cases G
    refine⟨m0,b,off,m1,by rw[zia q];exact G,λo r=>?_⟩
    rw[zia q] at r;obtain⟨t2,v2,Z,z2,_⟩:=xL r
    simp_all
   ·rw[z];simp only[AR]
 ·have j:=ht;simp only[Sy.thaw];rw[zia (λJ=>by subst J;exact zgb hx (zPc.2 j)),h.tmu t j]
  rfl
 ·have H:(Sy.thaw s x y l).ob=λi=>if i=id then some (.many y l) else Ee (v::s.dead) (s.ob i):=by rw[m,<-d];rfl
  have P:(Sy.thaw s x y l).dead=v::s.dead:=d;rw[H] at r;rw[H,P];simp only at r c;by_cases hii:i=id
  ·subst hii;rw[zla rfl] at r c;cases r;cases c;simp only[gF];exact⟨hn,V,λo r=>r.2 rfl,cs,_,E,(df (iG hc l V)).2 ((df (iG hc l V)).1 c1)⟩
  ·rw[zia hii] at r c;obtain⟨t2,v2,Z,rfl,z3⟩:=xL r;have hO:=h.obs i _ b Z c;simp only[gF] at hO ⊢;obtain⟨o1,o2,o3,O,o4,o5,o6⟩:=hO;exact⟨o1,o2,λo hh=>o3 o hh.1,O,o4,Am K _ _ z3 o5,o6⟩
 ·replace c:(if i=id then some A else γ i)=some b:=c
  split at c
  ·simp_all
  ·exact h.γn i b c
 ·replace c:(if i=id then some A else γ i)=some b:=c
  replace g:(if I=id then some A else γ I)=some b:=g
  split at c<;>split at g
  ·simp_all
  ·cases c;exact zgb g (h.βγ v I _ _ L N)
  ·cases g;exact zgb c (h.βγ v i _ _ L N)
  ·exact h.γi i I b c g
 ·have an:(s.fresh+1)*4096+4096<=i:=by simpa only[St.base,Sy.thaw] using hi
  have q:i≠id:=u0
  rw[zia q];refine h.γf i ?_;have e5:s.base=s.fresh*4096:=rfl;omega
 ·replace hu:u ∉ v::s.dead:=by rw[<-d];exact hu
  obtain⟨m1,G,m3⟩:=h.βn u b e (λhh=>hu (zsa _ hh)) c
  simp_all
 ·replace hu:u ∉ v::s.dead:=by rw[<-d];exact hu
  replace a1:Y ∉ v::s.dead:=by rw[<-d];exact a1
  exact h.βi u Y b e y (λhh=>hu (zsa _ hh)) (λhh=>a1 (zsa _ hh)) c g
 ·replace hu:u ∉ v::s.dead:=by rw[<-d];exact hu
  replace M:(if i=id then some A else γ i)=some b:=M
  split at M
  ·grind
  ·exact h.βγ u i b e (λhh=>hu (zsa _ hh)) c M
 ·grind [St.base,Sy.thaw]
def Rp.empty(h:Rp w0 S γ β s a w){x:Nat}{e:Ty}(hl:Ae s e x=some []):Rp w0 S γ β (s.put (some x) (.d (.sl e) (.sl []))) a w:=by
 unfold Ae at hl;split at hl<;>try(cases hl;done)
 rename_i j v l0 c;split at hl<;>try(cases hl;done)
 rename_i g;cases hl;simp only[X,zEa] at g;obtain⟨⟨⟨f,l⟩,hc⟩,hn⟩:=g;have:=alb _ _ f;subst this;have hx:x<s.nt:=by
  rcases zua x s.nt with k|k
  ·exact k
  ·have:=h.tmu x k;rw[c] at this;cases this
 have b:=h.tms x (by rw[h.nt];exact hx)
 rw[c] at b;simp only[AR,AC] at b;obtain⟨n,r,t,q,cap,o,p,u⟩:=b;have:=h.put (v:=.d (.sl j) (.sl [])) (val:=a.tmps.getD x undef) (by have m:=ap n o;rw[m];refine dA (by simpa only[ak] using hn) (by simp only[wt];exact⟨[],rfl,j2⟩) (akA p)) (some x)
 have e:a.put (some x) (a.tmps.getD x undef)=a:=by
  have:a.tmps.setIfInBounds x (a.tmps.getD x undef)=a.tmps:=by
   apply Array.ext_getElem?;intro i;rw[Array.getElem?_setIfInBounds];split
   ·rename_i hi;subst hi;split
    ·simp_all
    ·simp_all
   ·rfl
  show({ a with tmps:=a.tmps.setIfInBounds x (a.tmps.getD x undef) }:Act)=a;rw[this]
 rwa [e] at this
def TD(h:EnvOk P E){fn:Func}{w:World}{S:Nat->Nat->Prop}(i:fZ fn.results.size z=true){S':Nat->Nat->Prop}{γ':Nat->Option Nat}{β':Nat->Option (Nat×Nat)}{s':St}{a':Act}{w':World}
  (a:Rp (q9 w S) S' γ' β' s' a' w') (hq:results E s' z fn.results.toList=some y):∃ v,(Go.results fn a'.tmps).run P w'=.ok v w'/\∃ v',Ending.returned v=.returned v'/\(∃ os d,w.drawn<=d/\w'=grown w os d)/\wt z y/\DR w' (λb o=>S b o\/(w.heap.size<=b/\b<w'.heap.size)) y v':=by
 obtain⟨v,j,k,l⟩:=ke h a i hq;refine⟨v,j,v,rfl,fN a.ext (λ_ c=>c),k,l.mono (λ_ _ _=>rfl) λb o g=>?_⟩;rcases zua b w.heap.size with f|e
 ·exact .inl (a.So b o g ⟨f,λc=>c⟩)
 ·exact .inr ⟨e,a.Sb b o g⟩
def Zk(P:Program)(fn:Func)(w:World)(S:Nat->Nat->Prop)(a:Ty)(y:D):List Code->Exit->Act->World->Prop
 | []=>NN P fn w S a y
 | d::st=>Exit.then (d.wpIn (FW none) 0 P (Zk P fn w S a y st)) (Zk P fn w S a y st)
theorem Ar{fn:Func}{w:World}{S:Nat->Nat->Prop}{a':Act}{w':World}(h:NN P fn w S z y .ret a' w'):∀ st,Zk P fn w S z y st .ret a' w'
 | []=>h
 | _::st=>Ar h st
theorem tL(m:EnvOk P E){fn:Func}{w:World}{S:Nat->Nat->Prop}(n:fZ fn.results.size z=true):∀ (ann:AnnU) (c:Code) (st:List Code) {S':Nat->Nat->Prop} {γ':Nat->Option Nat} {β':Nat->Option (Nat×Nat)} {s':St} {a':Act} {w':World},
  Rp (q9 w S) S' γ' β' s' a' w'->a'.defers=[]->4095∈s'.lkO->CK E fn z c st ann s'=some y->c.wpIn (FW none) 0 P (Zk P fn w S z y st) a' w'
 | .fin ann,c,st,S',γ',β',s',a',w',h,j,g,a=>by
  cases st with
  | nil=>exact LJ m n h j g (by cases c<;>exact a)
  | cons d st=>cases c<;>simp[CK] at a
 | .seq a1 b,c,st,S',γ',β',s',a',w',h,j,g,a=>by
  cases c<;>first|(cases st<;>simp[CK] at a;done)|skip
  rename_i c d;have f:(ev E c a1 D s' λe s'=>match e with|.normal=>CK E fn z d st b s'|.ret=>results E s' z fn.results.toList|.exit _=>none)=some y:=by cases st<;>exact a
  refine wpIn_seq (CL m c a1 D _ y h f λe s2 S2 u t a2 v p q s o=>?_);cases e with
  | normal=>exact tL m n b d st p (q.df0 g j) (by rw[s.lkO];exact g) o
  | ret=>exact Ar ⟨q.df0 g j,TD m n p o⟩ st
  | exit i=>cases o
 | .next a1 b,c,st,S',γ',β',s',a',w',h,j,g,a=>by
  cases st with
  | nil=>cases c<;>simp[CK] at a
  | cons d st=>
   have f:(ev E c a1 D s' λe s'=>match e with|.normal=>CK E fn z d st b s'|.ret=>results E s' z fn.results.toList|.exit _=>none)=some y:=by cases c<;>exact a
   refine CL m c a1 D _ y h f λe s2 S2 u t a2 v p q s o=>?_;cases e with
   | normal=>exact tL m n b d st p (q.df0 g j) (by rw[s.lkO];exact g) o
   | ret=>exact Ar ⟨q.df0 g j,TD m n p o⟩ (d::st)
   | exit i=>cases o
 | .asc b,c,st,S',γ',β',s',a',w',h,j,g,a=>by
  cases c<;>first|(cases st<;>simp[CK] at a;done)|skip
  rename_i c d;exact wpIn_seq (tL m n b c (d::st) h j g (by cases st<;>exact a))
 | .thaw x e a1 b,c,st,S',γ',β',s',a',w',h,j,g,a=>by
  have f:((Ae s' e x).bind λl=>if l.isEmpty then CK E fn z c st a1 (s'.put (some x) (.d (.sl e) (.sl []))) else CK E fn z c st b (Sy.thaw s' x e l))=some y:=by cases c<;>cases st<;>exact a
  obtain⟨l,h1,r⟩:=ab f;split at r
  ·rename_i he;have:l=[]:=by simpa using he
   subst this;exact tL m n a1 c st (h.empty h1) j (by rw[(ak5 _ _ _).2.2.2.2.2.1];exact g) r
  ·rename_i he;obtain⟨S2,u,t,k⟩:=h.thaw h1 (by simpa using he)
   exact tL m n b c st k j (by simp[Sy.thaw]) r
def EK(e:EnvOk P E){f:FuncId}{fn:Func}{ann:AnnU}{a:List Ty}{xs:List D}(i:P.funcs[f]?=some fn)(hk:(decide (a.length<=fn.ntmps)&&fZ fn.results.size z&&aR a)=true)
  (h:US E fn ann a z xs=some y):NY P a z f xs y:=by
 have j:fZ fn.results.size z=true:=by simp_all
 refine pQ e (ann:=.hand) (K:=λs=>if s.lkO.contains 4095 then fn.body.bind λc=>CK E fn z c [] ann s else none) i hk ?_ λc d w S S' γ' β' s' a' w' k nd b=>?_
 ·unfold US at h;unfold LE;split at h<;>try(cases h;done)
  rename_i c d;rw[d];try simp only
  have:Ta E (λs=>if s.lkO.contains 4095 then(some c).bind λc=>CK E fn z c [] ann s else none) c .hand (p8 fn a xs)=some y:=by cases c<;>exact h
  omega
 ·split at b
  ·rename_i g;rw[d] at b;have key:=tL e j ann c [] k nd (by simpa using g) b
   cases c<;>exact key
  ·cases b
end
def UT(v:Nat)(lp:q)(f:Nat)(fn:Func)(ann:AnnU)(call:Nat->List D->Option D)(xs:List D):Option D:=
 (oW (cp f)).bind λs=>US (c7 lp call (E6 v lp call)) fn ann s.1 s.2 xs
def Vr(f:Nat)(fn:Func):Bool:=match oW (cp f) with
 | some (p,r)=>decide (p.length<=fn.ntmps)&&fZ fn.results.size r&&aR p&&(Nat.beq (jY (cp f)) 0&&!(pC (cp f)))
 | none=>false
def XX{v:Nat}{lp:q}(b:am lp){fn:Func}{ann:AnnU}(d:Tryz.prog.funcs[cp f]?=some fn)(hk:Vr f fn=true):l f (UT v lp f fn ann):=by intro call hc c m xs y e a hw;unfold UT at a;unfold Vr at hk;rw[e] at a hk;simp only[zba] at a;simp only[X,zEa,zea] at hk;obtain⟨⟨⟨g,i⟩,j⟩,k,a0⟩:=hk;rw[z1b k,a0];exact⟨EK (UN (v:=v) b hc) d (by simp[g,i,j]) a,λh=>by cases h⟩
def Vt(v:Nat)(fn:Func)(ann:AnnU){lp:q}(c:am lp){F:(Nat->List D->Option D)->D->D->D->Option D}(g:Tryz.prog.funcs[cp f]?=some fn:=by kernel_rfl)(hk:Vr f fn=true:=by kernel_rfl)
  (e:∀ call a0 a1 a2,UT v lp f fn ann call [a0,a1,a2]=F call a0 a1 a2:=by intros;kernel_rfl):l f (m3 F):=by
 intro call hc a d xs y h b hw;unfold m3 at b;split at b<;>try(cases b;done)
 exact XX (v:=v) c g hk call hc a d _ y h ((e call _ _ _).trans b) hw
end
end Sy
end
noncomputable section
set_option maxHeartbeats 0
noncomputable section
namespace Sy
open Go Go.Proofs
section
variable{lp}(a:am lp)
def aaO:AnnU:=(.seq .leaf (.seq .leaf (.seq (.reg [] 6) (.seq .leaf (.seq .leaf (.seq (.tl (.two (.loop ⟨[(9,.ow c),(35,.di)],[],[0,8,34]⟩ [(.ret,⟨[(6,.ow c),(7,.dv Ty.bool)],[],[]⟩),(.exit 0,⟨[(9,.ow c)],[],[]⟩)] (.tl (.tl (.two (.two (.tl (.tl (.two (.tl (.two (.loop ⟨[(9,.ow c),(11,.sp c 40971),(44,.di)],[(40971,.one c (.dv c))],[0,8,34,35,42,43]⟩ [(.exit 2,⟨[(9,.ow c),(11,.sp c 40971)],[(40971,.one c (.dv c))],[0,8,34,35]⟩)] (.tl (.tl (.two (.two (.tl (.reg [] 7)) .leaf) .leaf)))) .leaf)) .leaf))) .leaf) .leaf)))) .leaf)) (.asc (.seq .leaf (.seq .leaf (.thaw 9 c (.next (.two (.tl (.two (.loop ⟨[(14,.sp c 32782),(71,.di)],[(32782,.keep c 14)],[9,70]⟩ [(.exit 4,⟨[],[],[9]⟩)] (.tl (.tl (.two (.two (.tl (.reg [] 9)) .leaf) .leaf)))) .leaf)) .leaf) (.fin .leaf)) (.next (.two (.tl (.two (.loop ⟨[(9,.same (.mem c 40960)),(14,.sp c 32782),(71,.di)],[(32782,.keep c 14),(40960,.many c)],[70]⟩ [(.exit 4,⟨[(9,.same (.mem c 40960))],[(40960,.many c)],[]⟩)] (.tl (.tl (.two (.two (.tl (.reg [] 9)) .leaf) .leaf)))) .leaf)) .leaf) (.fin (.two (.reg [9] 3) .leaf)))))))))))))
def PO(lp:q)(c:Ca)(a0 a1 a2:D):Option D:=Z c 546 [a0] λr1=>qT r1 λb2=>qO b2 (Z c 547 [(D.sl [a1,a2])] λK=>qz K) (some (D.tup [(D.sl []),bF])) (Z c 336 [a2,a1] λN=>Z c 548 [a0,a1,N] λH=>Z c 546 [H] λO=>qt O (some (D.tup [(D.sl []),bF])) (qS a0 λl=>qy lp (λv12=>qc .lss (Y v12 1) (jl l) (qS a0 λr=>P .sub (jl r) J1 λy=>Z c 549 [y,(Y v12 1)] λg=>qS g λs=>qy lp (λd=>qc .lss (Y d 1) (jl s) (qX g (Y d 1) λz=>Z c 550 [H,(Y d 1)] λt=>Z c 61 [z,t] λu=>Z c 57 [(Y d 2),u] λv=>qj (Y d 1) λA=>iL [(qW d 0),A,v]) (iR (0,[(qW d 0),(Y d 2)]))) [(qW v12 0),J0,(D.st [bF,bF,(az bf)])] λe=>Q (Y e.2 1) [0] λB=>qt B (iR (0,[(D.sl []),bF])) (qu (qV e.2 0) [(Y e.2 1)] (qj (Y v12 1) λC=>iL [(D.sl ((qV e.2 0)++[(Y e.2 1)])),C]))) (iR (1,[(qW v12 0)]))) [(D.sl []),J0] λb=>if b.1=0 then(some (D.tup [(qW b.2 0),(Y b.2 1)])) else(Z c 551 [(qW b.2 0)] λf=>Z c 129 [f] λh=>if(List.isEmpty (qV b.2 0)) then(qt (nq h J0) (qy lp (λv37=>qc .lss (Y v37 0) J0 (qi (Y v37 0) 0 λi40=>(([]:List D)[i40]?).bind λE=>Z c 132 [E,f] λL=>qi (Y v37 0) 0 λi43=>(([]:List D)[i43]?).bind λj=>none) (iR (0,[]))) [J0] λM=>some (D.tup [(D.sl []),bT])) (some (D.tup [(D.sl []),bT]))) else(qt (nq h J0) (qy lp (λa=>qc .lss (Y a 0) (Jn (List.length (qV b.2 0))) (qi (Y a 0) (List.length (qV a 1)) λi50=>((qV a 1)[i50]?).bind λF=>Z c 132 [F,f] λw=>qi (Y a 0) (List.length (qV a 1)) λi53=>((qV a 1)[i53]?).bind λR=>qj (Y a 0) λG=>iL [G,(D.sl (List.set (qV a 1) i53 w))]) (iR (0,[(qW a 1)]))) [J0,(qW b.2 0)] λx=>some (D.tup [(qW x.2 0),bT])) (some (D.tup [(qW b.2 0),bT]))))))
def adc:l 516 (m3 (PO lp)):=Vt 0 Tryz.f137 aaO a
end
end Sy
end
set_option maxHeartbeats 0
noncomputable section
namespace Sy
open Go Go.Proofs
section
variable{lp}(a:am lp)
def PP(lp:q)(c:Ca)(a0:D):Option D:=Q a0 [0] λx1=>qN x1 λa=>(qe a (Z c 167 [a0] λd=>D.truth d) (some false)).bind λb=>some (D.bool b)
def ade:l 517 (m1 (PP lp)):=aY 0 Tryz.f138 .leaf a
def WD(lp:q)(c:Ca) :Option D:=Z c 119 [] λr1=>some (D.sl [r1])
def adf:l 518 (m0 (WD lp)):=zm 0 Tryz.f139 .leaf a
def PQ(lp:q)(c:Ca)(a0 a1 a2:D):Option D:=Z c 61 [a0,a2] λr1=>some r1
def adg:l 519 (m3 (PQ lp)):=kN 0 Tryz.f141 .leaf a
def aaP:Ann:=.t (.w (.regI [] 4 (.w (.t (.t (.w (.regI [] 8 (.w (.t (.t (.w (.t (.w (.loop ⟨rv,[(16387,.e cq (.v cq)),(16388,.e cq (.v cq)),(16389,.fv (.clo 154 []))],[14]⟩ [(.r,rz),(.x 0,sy)] wb) .o)) zb))) .o)) .o))) .o)) .o)
def PR(lp:q)(c:Ca)(a0 a1:D):Option D:=Z c 546 [a0] λr1=>qT r1 λb2=>qO b2 (Z c 546 [a1] λK=>D.truth K) (Z c 518 [] λL=>some L) (qS a0 λI=>qS a1 λJ=>(D.max2 (jl I) (jl J)).bind λF=>(D.max2 F J0).bind λy=>(D.natOf y).bind λi11=>if i11<=1073741824 then((D.max2 F J0).bind λz=>qy lp (λa=>qc .lss (Y a 1) z (Z c 550 [(Y a 2),(Y a 1)] λr=>Z c 550 [(Y a 3),(Y a 1)] λs=>Z c 57 [r,s] λt=>Z c 552 [t] λb=>Z c 517 [b] λu=>qn u (Z c 518 [] λv=>iR (0,[v])) (qu (qV a 0) [b] (qj (Y a 1) λA=>iL [(D.sl ((qV a 0)++[b])),A,(Y a 2),(Y a 3)]))) (iR (1,[(qW a 0)]))) [(D.sl []),J0,a0,a1] λd=>qr d (qy lp (λv26=>qS (Y v26 0) λl=>qC .gtr (jl l) J0 λh=>qA h (qS (Y v26 0) λm=>P .sub (jl m) J1 λB=>qX (Y v26 0) B λC=>Z c 129 [C] λw=>D.truth (bq w J0)) (qS (Y v26 0) λn=>P .sub (jl n) J1 λE=>qS (Y v26 0) λo=>(D.natOf E).bind λi41=>(D.cut o 0 i41).bind λp=>iL [(D.sl p)]) (iR (0,[(Y v26 0)]))) [(qW d.2 0)] λe=>qS (Y e.2 0) λf=>qc .gtr (jl f) (Jn 25) (Z c 518 [] λx=>some x) (some (Y e.2 0)))) else none)
def adh:l 520 (G (PR lp)):=aQ 4 Tryz.f143 aaP a
def aaQ:Ann:=.t (.w (.regI [] 4 (.w (.t (.t (.w (.regI [] 8 (.w (.t (.t (.w (.t (.w (.loop ⟨rv,[(16387,.e cq (.v cq)),(16388,.e cq (.v cq)),(16389,.fv (.clo 226 []))],[14]⟩ [(.r,rz),(.x 0,sy)] wb) .o)) zb))) .o)) .o))) .o)) .o)
def PS(lp:q)(c:Ca)(a0 a1:D):Option D:=Z c 546 [a0] λr1=>qT r1 λb2=>qO b2 (Z c 546 [a1] λK=>D.truth K) (Z c 518 [] λL=>some L) (qS a0 λI=>qS a1 λJ=>(D.max2 (jl I) (jl J)).bind λF=>(D.max2 F J0).bind λy=>(D.natOf y).bind λi11=>if i11<=1073741824 then((D.max2 F J0).bind λz=>qy lp (λa=>qc .lss (Y a 1) z (Z c 550 [(Y a 2),(Y a 1)] λr=>Z c 550 [(Y a 3),(Y a 1)] λs=>Z c 203 [r,s] λt=>Z c 552 [t] λb=>Z c 517 [b] λu=>qn u (Z c 518 [] λv=>iR (0,[v])) (qu (qV a 0) [b] (qj (Y a 1) λA=>iL [(D.sl ((qV a 0)++[b])),A,(Y a 2),(Y a 3)]))) (iR (1,[(qW a 0)]))) [(D.sl []),J0,a0,a1] λd=>qr d (qy lp (λv26=>qS (Y v26 0) λl=>qC .gtr (jl l) J0 λh=>qA h (qS (Y v26 0) λm=>P .sub (jl m) J1 λB=>qX (Y v26 0) B λC=>Z c 129 [C] λw=>D.truth (bq w J0)) (qS (Y v26 0) λn=>P .sub (jl n) J1 λE=>qS (Y v26 0) λo=>(D.natOf E).bind λi41=>(D.cut o 0 i41).bind λp=>iL [(D.sl p)]) (iR (0,[(Y v26 0)]))) [(qW d.2 0)] λe=>qS (Y e.2 0) λf=>qc .gtr (jl f) (Jn 25) (Z c 518 [] λx=>some x) (some (Y e.2 0)))) else none)
def adi:l 521 (G (PS lp)):=aQ 4 Tryz.f144 aaQ a
def aaR:Ann:=.t (.t (.cut [(.m,y [(1,.s dG 4097),WbW,iz] [(4097,.k dG 1),WbH] [])] [] [4097,4098] .o (.t (.w (.t (.w (.p [(1,.s dG 4097),WbW,(4,.s Gm 16388),(18,.i)] [(4097,.k dG 1),WbH,(16388,.e Gm (.v Gm))] [3,17] [(.x 0,y [WbW,(4,.s Gm 16388)] [WbH,(16388,.e Gm (.v Gm))] [])] .o) .o)) .o))))
def PT(lp:q)(c:Ca)(a0:D):Option D:=qb (Q a0 [0,1] λx1=>Q a0 [1,1] λo=>Z c 392 [x1,o] λm=>qc .lss m J0 (some (0,[(Jn (-1))])) (some (0,[J1]))) λn=>Q a0 [0,1] λp=>qy lp (λa=>qc .lss (Y a 0) (Jn 4) (qi (Y a 0) 4 λi11=>qf p i11 λb=>qi (Y a 0) 4 λi13=>Q a0 [1,1,i13] λg=>P .mul (Y n.2 0) g λh=>P .sub h b λi=>Z c 535 [(D.sl [b,i])] λe=>qi (Y a 0) 4 λi18=>qs (Y a 1) [i18] e λj=>qj (Y a 0) λk=>iL [k,j]) (iR (0,[(Y a 1)]))) [J0,(D.st [(D.sl []),(D.sl []),(D.sl []),(D.sl [])])] λf=>some (Y f.2 0)
def adj:l 530 (m1 (PT lp)):=aY 0 Tryz.f158 aaR a
def PU(lp:q)(c:Ca)(a0:D):Option D:=Z c 530 [a0] λr1=>Q r1 [0] λb=>Q r1 [0] λd=>Q r1 [1] λe=>Q r1 [1] λf=>Q r1 [2] λg=>Q r1 [2] λh=>Q r1 [3] λi=>Q r1 [3] λj=>Z c 533 [J1,(D.sl [b,d,e,f,g,h,i,j])] λa=>some a
def adk:l 531 (m1 (PU lp)):=aY 0 Tryz.f159 .leaf a
def aaS:Ann:=.t (.t (.w (.t (.w (.p [(5,.v cq),mI] [] [0,1] [(.x 0,y [(5,.v cq)] [] [0])] WaH) .o)) .o))
def Kk(lp:q)(c:Ca)(a0 a1:D):Option D:=qy lp (λv1=>qj (Y v1 1) λj=>ql a1 j (qX a1 (Y v1 1) λk=>qj (Y v1 1) λl=>qX a1 l λg=>Z c 534 [k,g] λa=>Z c 520 [(Y v1 0),a] λb=>P .add (Y v1 1) J2 λh=>iL [b,h]) (iR (0,[(Y v1 0)]))) [(D.sl []),J0] λd=>Z c 54 [a0] λe=>Z c 499 [(Y d.2 0),e] λf=>some f
def adl:l 533 (G (Kk lp)):=aQ 0 Tryz.f161 aaS a
def aaT:Ann:=.t (.t (.t (.w (.regI [] 9 (.w (.t (.t (.w (.t (.w (.loop ⟨[(1,.same (.clo 247 [(.ptr cq 4099 []),(.ptr cq 4098 [])])),fy,Wad,WbK],[WaT,(4099,.e cq (.v cq))],[14]⟩ [(.r,rz),(.x 0,sy)] .o) .o)) zb))) .o)) .o)))
def PW(lp:q)(c:Ca)(a0 a1:D):Option D:=Z c 546 [a0] λr1=>qT r1 λb2=>qO b2 (Z c 546 [a1] λO=>D.truth O) (Z c 518 [] λh=>some h) (qS a0 λM=>qT (bq (jl M) J0) λL=>qO L (qS a1 λN=>D.truth (bq (jl N) J0)) (some (D.sl [])) (qS a0 λo=>qS a1 λp=>P .add (jl o) (jl p) λB=>P .sub B J1 λf=>(D.max2 f J0).bind λC=>(D.natOf C).bind λi17=>if i17<=1073741824 then((D.max2 f J0).bind λE=>qy lp (λa=>qc .lss (Y a 1) E (Z c 563 [(Y a 1),(Y a 3),(Y a 2)] λw=>Z c 552 [w] λb=>Z c 517 [b] λx=>qn x (Z c 518 [] λy=>iR (0,[y])) (qu (qV a 0) [b] (qj (Y a 1) λF=>iL [(D.sl ((qV a 0)++[b])),F,(Y a 2),(Y a 3)]))) (iR (1,[(qW a 0)]))) [(D.sl []),J0,a0,a1] λd=>qr d (qy lp (λv30=>qS (Y v30 0) λj=>qC .gtr (jl j) J0 λk=>qA k (qS (Y v30 0) λr=>P .sub (jl r) J1 λG=>qX (Y v30 0) G λH=>Z c 129 [H] λz=>D.truth (bq z J0)) (qS (Y v30 0) λs=>P .sub (jl s) J1 λI=>qS (Y v30 0) λt=>(D.natOf I).bind λi45=>(D.cut t 0 i45).bind λu=>iL [(D.sl u)]) (iR (0,[(Y v30 0)]))) [(qW d.2 0)] λe=>qS (Y e.2 0) λv=>qc .gtr (jl v) (Jn 25) (Z c 518 [] λA=>some A) (some (Y e.2 0)))) else none))
def adm:l 534 (G (PW lp)):=aQ 1 Tryz.f162 aaT a
def aaU:Ann:=.t (.w (.regI [] 5 (.w (.t (.t (.w (.t (.w (.loop ⟨[(1,.same (.clo 249 [(.ptr K5 4097 [])])),(2,.same (.clo 58 [])),Wad,WbK],[(4097,.e K5 (.v K5))],[14]⟩ [(.r,rz),(.x 0,sy)] .o) .o)) zb))) .o)) .o)
def PX(lp:q)(c:Ca)(a0:D):Option D:=qS a0 λl1=>(D.max2 (jl l1) J0).bind λA=>(D.natOf A).bind λi3=>if i3<=1073741824 then((D.max2 (jl l1) J0).bind λB=>qy lp (λv5=>qc .lss (Y v5 1) B (Z c 564 [(Y v5 1),(Y v5 2)] λz=>Z c 54 [z] λt=>Z c 517 [t] λp=>qn p (Z c 518 [] λh=>iR (0,[h])) (qu (qV v5 0) [t] (qj (Y v5 1) λu=>iL [(D.sl ((qV v5 0)++[t])),u,(Y v5 2)]))) (iR (1,[(qW v5 0)]))) [(D.sl []),J0,a0] λb=>qr b (qy lp (λa=>qS (Y a 0) λj=>qC .gtr (jl j) J0 λf=>qA f (qS (Y a 0) λk=>P .sub (jl k) J1 λv=>qX (Y a 0) v λw=>Z c 129 [w] λr=>D.truth (bq r J0)) (qS (Y a 0) λl=>P .sub (jl l) J1 λx=>qS (Y a 0) λm=>(D.natOf x).bind λi31=>(D.cut m 0 i31).bind λn=>iL [(D.sl n)]) (iR (0,[(Y a 0)]))) [(qW b.2 0)] λd=>qS (Y d.2 0) λo=>qc .gtr (jl o) (Jn 25) (Z c 518 [] λs=>some s) (some (Y d.2 0)))) else none
def adn:l 535 (m1 (PX lp)):=aY 1 Tryz.f163 aaU a
def aaV:Ann:=.t (.t (.t (.w (.w (.regI [] 2 .o) (.w (.t (.w (.p [iA,(1,.s cq 24577),iz] [WaT,WaL,fT,ep,(12294,.e cq (.v cq)),(24577,.k cq 1),Y'] [] [(.x 0,y [iA] [WaT,WaL,fT,ep,(12294,.e cq (.v cq)),Y'] [])] (.t (.w (.w (.w (.regI [] 8 (.w fx .o)) .o) .o) .o))) .o)) .o)) sx)))
def PY(lp:q)(c:Ca)(a0 a1:D):Option D:=Z c 546 [a0] λr1=>qT r1 λb2=>qO b2 (Z c 547 [(D.sl [a1])] λy=>qz y) (Z c 119 [] λz=>Z c 54 [J1] λA=>some (D.tup [z,A])) (Q a1 [1] λC=>qS a0 λe=>Z c 565 [C,(jl e)] λi=>qS a0 λf=>P .sub (jl f) J1 λm=>qy lp (λa=>qc .geq (Y a 0) J0 (qX a0 (Y a 0) λn=>Q (Y a 2) [0] λo=>Z c 61 [(Y a 3),o] λj=>qS (Y a 1) λg=>P .sub (jl g) J1 λp=>P .sub p (Y a 0) λS=>qX (Y a 5) S λr=>Z c 61 [n,r] λk=>Z c 57 [j,k] λl=>P .sub (Y a 0) J1 λs=>iL [s,(Y a 1),(Y a 2),l,(Y a 4),(Y a 5)]) (iR (0,[(Y a 1),(Y a 2),(Y a 3),(Y a 4),(Y a 5)]))) [m,a0,a1,(D.st [bF,bF,(az bf)]),(D.st [bF,bF,(az bf)]),i] λb=>qS (Y b.2 0) λh=>P .sub (jl h) J1 λt=>(D.max2 J0 t).bind λu=>qX (Y b.2 4) u λv=>some (D.tup [(Y b.2 2),v]))
def ado:l 536 (G (PY lp)):=aQ 0 Tryz.f164 aaV a
def aaW:Ann:=.t (.t (.t (.w (.t (.w WaX (.w Wat .o))) .o)))
def PZ(lp:q)(c:Ca)(a0:D):Option D:=Z c 510 [a0] λr1=>Q r1 [0] λi=>qt i (some r1) (Q a0 [0] λj=>Q a0 [1] λk=>Z c 137 [j,k] λe=>Q a0 [1] λl=>Z c 203 [l,e] λg=>Z c 90 [e,g] λh=>qc .geq h J0 (Z c 169 [] λb=>Z c 57 [r1,b] λd=>some d) (some r1))
def adp:l 537 (m1 (PZ lp)):=aY 0 Tryz.f202 aaW a
def aaX:Ann:=let a:LO:=[(4097,.k JN 1),iw,(8196,.e c (.v c)),oj];let b:LS:=[(1,.s JN 4097),sI,gb,sd];(.t (.t (.w (.t (.w (.p [(1,.s JN 4097),sI,gb,sd,(16,.i)] a [15] [(.r,y [sI,iz] [iw] []),(.x 0,y b a [])] (.t (.t (.cut [(.r,y [sI,iz] [iw] []),(.m,y b a [15,16])] [15,16] [4097] .o .o)))) .o)) (.t (.t (.t (.t (.w (.t (.w (.p [sI,gb,sd,(9,.s c 28681),Wbs,(52,.i)] [gl,Wbz,(8197,.k c 5),(28681,.k c 9),(32778,.e fR (.v fR))] [51] [(.x 2,y [sI,Wbs] [gl,(32778,.e fR (.v fR))] [])] (.t (.t (.w (.w (.t (.t (.cut [(.m,y [sI,gb,sd,(9,.s c 28681),Wbs,(12,.s c 49164)] [gl,Wbz,(8197,.k c 5),(28681,.k c 9),(32778,.k fR 10),(49164,.e c (.v c))] [11,51,52])] [11,51,52] [4098,8196,8197,28681,32778] Wbg .o))) .o) .o)))) .o)) .o))))))))
def P3(lp:q)(c:Ca)(a0:D):Option D:=qy lp (λv1=>qc .lss (Y v1 0) (Jn 4) (qb (qi (Y v1 0) 4 λi4=>qf a0 i4 λk=>Q k [0] λO=>qT O λK=>qo K (Z c 167 [k] λL=>qz L) λm=>qO m (Z c 217 [k] λt=>qh .gtr t (Jn 400)) (some (0,[J1,(D.st [J0,J0,J0,J0])])) (Z c 131 [(Y v1 2),k] λd=>Z c 171 [k] λe=>Z c 90 [e,(Y v1 3)] λu=>qc .gtr u J0 (some (1,[(Y v1 1),d,e])) (some (1,[(Y v1 1),d,(Y v1 3)])))) λb=>if b.1=0 then(iR (0,[(Y b.2 0),(Y b.2 1)])) else(qj (Y v1 0) λC=>iL [C,(Y b.2 0),(Y b.2 1),(Y b.2 2)])) (iR (1,[(Y v1 1),(Y v1 2),(Y v1 3)]))) [J0,(D.st [J0,J0,J0,J0]),(D.st [bF,bF,(az bf)]),(D.st [bF,bF,(az bf)])] λa=>if a.1=0 then(some (D.tup [(Y a.2 1),(Y a.2 0)])) else(Z c 129 [(Y a.2 1)] λv=>qt (bq v J0) (some (D.tup [(D.st [J0,J0,J0,J0]),J1])) (Z c 132 [(Y a.2 2),(Y a.2 1)] λf=>Z c 54 [(Jn 64)] λg=>qy lp (λv28=>qc .lss (Y v28 0) (Jn 4) (qi (Y v28 0) 4 λi31=>qf a0 i31 λE=>Z c 132 [E,(Y a.2 1)] λh=>qb (Z c 90 [f,g] λw=>qc .gtr w J0 (Z c 61 [h,g] λx=>Z c 566 [x,f] λy=>some (0,[y])) (some (0,[h]))) λz=>Z c 202 [(Y z.2 0)] λi=>qp i 0 λF=>qp i 1 λM=>qi (Y v28 0) 4 λi43=>qs (Y v28 1) [i43] F λG=>qj (Y v28 0) λH=>iL [H,G]) (iR (0,[(Y v28 1)]))) [J0,(D.st [J0,J0,J0,J0])] λA=>Z c 567 [(Y A.2 0)] λj=>qp j 0 λI=>qp j 1 λN=>some (D.tup [I,J0])))
def adq:l 538 (m1 (P3 lp)):=aY 0 Tryz.f203 aaX a
def aaY:Ann:=.t (.w (.regI [] 3 (.w (.t (.w (.regI [] 5 (.w (.t (.w (.t (.w (.loop ⟨[(1,.same (.clo 274 [])),fl],[],[0,7]⟩ [(.r,WaB),(.x 0,pd)] iB) .o)) .o)) .o)) .o)) .o)) .o)
def P4(lp:q)(c:Ca)(a0:D):Option D:=qS a0 λl1=>qy lp (λv2=>qc .lss (Y v2 0) (jl l1) (qX a0 (Y v2 0) λi=>Z c 517 [i] λh=>qn h (iR (0,[(Y v2 0)])) (qj (Y v2 0) λd=>iL [d])) (iR (1,[]))) [J0] λa=>if a.1=0 then(P .geq (Y a.2 0) J0 λf=>some f) else(P .geq (Jn (-1)) J0 λe=>some e)
def adr:l 546 (m1 (P4 lp)):=aY 0 Tryz.f217 aaY a
def aaZ:Ann:=.t (.w (.regI [] 4 (.w (.t (.w (.regI [] 5 (.w (.t (.w (.t (.w (.loop ⟨[(1,.same (.clo 276 [])),fl],[],[0,7]⟩ [(.r,WaB),(.x 0,pd)] iB) .o)) .o)) .o)) .o)) .o)) .o)
def Kl(lp:q)(c:Ca)(a0:D):Option D:=qS a0 λl1=>qy lp (λv2=>qc .lss (Y v2 0) (jl l1) (qX a0 (Y v2 0) λk=>Z c 136 [k] λj=>qn j (iR (0,[(Y v2 0)])) (qj (Y v2 0) λd=>iL [d])) (iR (1,[]))) [J0] λa=>if a.1=0 then(P .geq (Y a.2 0) J0 λg=>(akz .not g).bind λh=>some h) else(P .geq (Jn (-1)) J0 λe=>(akz .not e).bind λf=>some f)
def ads:l 547 (m1 (Kl lp)):=aY 0 Tryz.f218 aaZ a
def P5(lp:q)(c:Ca)(a0 a1 a2:D):Option D:=Z c 573 [a0,a1,a2] λr1=>Z c 572 [r1] λa=>some a
def adt:l 548 (m3 (P5 lp)):=kN 0 Tryz.f219 .leaf a
def aa0:Ann:=let a:LO:=[oj];(.t (.t (.w (.t (.w (.p [sd,mI] a [0,1] [(.x 0,y [sd] a [0,1])] (.t (.w mB .o))) .o)) (.t (.w (.t (.w (.p [sd,Wad,(21,.i)] a [0,1,20] [(.x 2,sy)] (.t (.t (.cut [(.m,y [sd,Wad] a [0,1,20,21])] [0,1,20,21] [] (.w (.t (.t (.t ot))) .o) .o)))) .o)) .o)))))
def P6(lp:q)(c:Ca)(a0 a1:D):Option D:=Z c 54 [J1] λr1=>qy lp (λv2=>qc .leq (Y v2 0) a0 (Z c 54 [(Y v2 0)] λn=>Z c 61 [(Y v2 1),n] λo=>qj (Y v2 0) λy=>iL [y,o]) (iR (0,[(Y v2 1)]))) [J2,r1] λp=>qj a1 λr=>qy lp (λv10=>qc .lss (Y v10 1) r (qb (qu (qV v10 0) [(Y v10 2)] (qc .lss (Y v10 1) a0 (P .sub a1 (Y v10 1) λj=>Z c 54 [j] λe=>Z c 61 [(Y v10 2),e] λf=>P .sub a0 (Y v10 1) λk=>Z c 54 [k] λg=>Z c 132 [f,g] λh=>some (0,[(D.sl ((qV v10 0)++[(Y v10 2)])),h])) (some (0,[(D.sl ((qV v10 0)++[(Y v10 2)])),(Y v10 2)])))) λa=>qj (Y v10 1) λl=>iL [(qW a.2 0),l,(Y a.2 1)]) (iR (0,[(qW v10 0)]))) [(D.sl []),J0,(Y p.2 0)] λi=>some (qW i.2 0)
def adu:l 549 (G (P6 lp)):=aQ 0 Tryz.f220 aa0 a
def P7(lp:q)(c:Ca)(a0 a1:D):Option D:=qC .lss a1 J0 λb2=>qO b2 (qS a0 λd=>qh .geq a1 (jl d)) (some (D.st [bF,bF,(az bf)])) (qX a0 a1 λf=>some f)
def adv:l 550 (G (P7 lp)):=aQ 0 Tryz.f221 .leaf a
end
end Sy
end
set_option maxHeartbeats 0
noncomputable section
namespace Sy
open Go Go.Proofs
section
variable{lp}(a:am lp)
def aa1:Ann:=let a:LO:=[kS,WaN];(.t (.t (.w (.t (.w (.p [pI,Wam,fl] a [6,7] [(.x 0,y [pI,Wam] a [])] .o) .o)) .o)))
def P8(lp:q)(c:Ca)(a0:D):Option D:=qS a0 λl1=>qy lp (λv2=>qc .lss (Y v2 0) (jl l1) (qX a0 (Y v2 0) λe=>Z c 131 [(Y v2 1),e] λd=>qj (Y v2 0) λf=>iL [f,d]) (iR (0,[(Y v2 1)]))) [J0,(D.st [bF,bF,(az bf)])] λa=>some (Y a.2 0)
def adw:l 551 (m1 (P8 lp)):=aY 0 Tryz.f222 aa1 a
def TZ(lp:q)(c:Ca)(a0:D):Option D:=some a0
def adx:l 552 (m1 (TZ lp)):=aY 0 Tryz.f225 .leaf a
def aa2:Ann:=let a:LO:=[(0,.k cq 1),(1,.k cq 2),tp,oj];(.t (.t (.w (.t (.w (.p [(1,.s cq 0),(2,.s cq 1),vd,sd,mI] a [0] [(.x 0,y [(1,.s cq 0),(2,.s cq 1),vd,sd] a [])] (.t (.w WbI .o))) .o)) .o)))
def P9(lp:q)(c:Ca)(a0 a1 a2:D):Option D:=qS a1 λl1=>P .sub a0 (jl l1) λk=>qj k λl=>(D.max2 J0 l).bind λm=>qy lp (λv5=>qS a2 λj=>P .sub (jl j) J1 λn=>(D.min2 a0 n).bind λo=>qc .leq (Y v5 0) o (qX a2 (Y v5 0) λf=>P .sub a0 (Y v5 0) λg=>qX a1 g λh=>Z c 61 [f,h] λb=>Z c 57 [(Y v5 1),b] λd=>qj (Y v5 0) λi=>iL [i,d]) (iR (0,[(Y v5 1)]))) [m,(D.st [bF,bF,(az bf)])] λe=>some (Y e.2 0)
def ady:l 563 (m3 (P9 lp)):=kN 0 Tryz.f247 aa2 a
def Qa(lp:q)(c:Ca)(a0 a1:D):Option D:=qX a1 a0 λa=>some a
def adz:l 564 (G (Qa lp)):=aQ 0 Tryz.f249 .leaf a
def aa3:Ann:=.t (.t (.w (.w (.p [pI,(5,.ow c)] [kS] [1] [(.x 0,S1 [(5,.ow c)])] vv) .o) .o))
def Qb(lp:q)(c:Ca)(a0 a1:D):Option D:=Z c 54 [J1] λr1=>qy lp (λv2=>qc .lss (Jn (List.length (qV v2 0))) a1 (P .sub (Jn (List.length (qV v2 0))) J1 λe=>qi e (List.length (qV v2 0)) λi6=>((qV v2 0)[i6]?).bind λf=>Z c 61 [f,a0] λa=>qu (qV v2 0) [a] (iL [(D.sl ((qV v2 0)++[a]))])) (iR (0,[(qW v2 0)]))) [(D.sl [r1])] λd=>some (qW d.2 0)
def adA:l 565 (G (Qb lp)):=aQ 0 Tryz.f250 aa3 a
def aa4:Ann:=.t (.w (.t (.w vb .o)) (.w gp (.cut [(.m,y [vd,(5,.s c 12293)] [tp,(12293,.e c (.v c))] [])] [] [4100] (.w WaY Wat) .o)))
def Km(lp:q)(c:Ca)(a0 a1:D):Option D:=Z c 129 [a0] λr1=>qc .lss r1 J0 (Z c 68 [a0] λj=>Z c 566 [j,a1] λk=>Z c 68 [k] λl=>some l) (Z c 132 [a0,a1] λg=>Z c 137 [a0,a1] λh=>qb (Z c 57 [h,h] λm=>Z c 90 [m,a1] λb=>qc .gtr b J0 (Z c 54 [J1] λd=>Z c 57 [g,d] λe=>some (0,[e])) (some (0,[g]))) λf=>some (Y f.2 0))
def adB:l 566 (G (Km lp)):=aQ 0 Tryz.f268 aa4 a
def aa5:Ann:=let a:LO:=[Wbx,gl];let b:LO:=[(4097,.e fR (.v fR)),iw];let c:LO:=[(4097,.k fR 11),iw];let d:LO:=[(4097,.e fR (.v fR)),gl];let e:LS:=[g',sI,R'];(.t (.w (.regI [] 3 (.w (.t (.t (.w (.t (.w (.p [iz,gy,(9,.i)] b [8] [(.x 0,y [iz] b [])] (.t (.t (.w (.w (.t (.t (.w (.p [iz,mI,gy] c [8,9] [(.x 2,y [iz,gy] c [8,9])] Wbg) .o))) .o) .o)))) .o)) .o))) .o)) (.t (.w (.t (.w (.p [g',sI,R',(14,.i)] a [13] [(.x 0,y e a [])] (.t (.t (.w (.w (.t (.t (.w (.cut [(.m,y e a [])] [] [4097,4098] .o .o) .o))) .o) .o)))) .o)) (.w (.t (.w (.p [g',sI,(24,.i)] d [4] [(.x 2,y [g',sI] d [])] .o) .o)) .o)))))
def Qc(lp:q)(c:Ca)(a0:D):Option D:=qy lp (λv1=>qc .lss (Y v1 1) (Jn 4) (qi (Y v1 1) 4 λi4=>Q (Y v1 2) [(0+i4)] λx=>(akz .neg x).bind λA=>(D.max2 x A).bind λB=>qy lp (λe=>qt (nq (Y e 1) J0) (P .rem (Y e 0) (Y e 1) λp=>iL [(Y e 1),p,(Y e 2)]) (iR (0,[(Y e 0),(Y e 2)]))) [(Y v1 0),B,(Y v1 3)] λf=>qj (Y v1 1) λh=>iL [(Y f.2 0),h,(Y v1 2),(Y f.2 1)]) (iR (0,[(Y v1 0),(Y v1 2),(Y v1 3)]))) [J0,J0,a0,(D.st [J0,J0,J0,J0])] λd=>qt (bq (Y d.2 0) J0) (some (D.tup [(D.st [J0,J0,J0,J0]),bF])) (qy lp (λa=>qc .lss (Y a 1) (Jn 4) (qi (Y a 1) 4 λi18=>qf (Y d.2 1) i18 λg=>qt (nq g J0) (qb (qc .lss g J0 ((akz .neg (Y a 0)).bind λr=>some (0,[r])) (some (0,[(Y a 0)]))) λm=>iR (0,[(Y m.2 0)])) (qj (Y a 1) λs=>iL [(Y a 0),s])) (iR (0,[(Y a 0)]))) [(Y d.2 0),J0] λn=>qy lp (λb=>qc .lss (Y b 0) (Jn 4) (qJ (Y b 0) 4 (Y b 1) λt=>P .quo t (Y n.2 0) λu=>qi (Y b 0) 4 λi33=>qs (Y b 1) [i33] u λv=>qj (Y b 0) λw=>iL [w,v]) (iR (0,[(Y b 1)]))) [J0,(Y d.2 1)] λo=>some (D.tup [(Y o.2 0),bT]))
def adC:l 567 (m1 (Qc lp)):=aY 2 Tryz.f269 aa5 a
def aa6:Ann:=.t (.t (.w (.regI [] 4 (.w (.t (.t (.w (.regI [] 8 (.w (.t (.t (.w (.t (.w (.loop ⟨rk,[WaN,(20483,.e cq (.v cq)),(20484,.e cq (.ow c)),(20485,.fv (.clo 309 [(.ptr c 8195 [])]))],[14]⟩ [(.r,rz),(.x 0,sy)] wb) .o)) zb))) .o)) .o))) .o)) .o))
def Qd(lp:q)(c:Ca)(a0:D):Option D:=Z c 551 [a0] λr1=>Z c 546 [a0] λK=>qT K λG=>qO G (Z c 546 [(D.sl [])] λL=>D.truth L) (Z c 518 [] λM=>some M) (qS a0 λJ=>(D.max2 (jl J) J0).bind λF=>(D.max2 F J0).bind λy=>(D.natOf y).bind λi11=>if i11<=1073741824 then((D.max2 F J0).bind λz=>qy lp (λa=>qc .lss (Y a 1) z (Z c 550 [(Y a 3),(Y a 1)] λr=>Z c 550 [(qW a 4),(Y a 1)] λs=>Z c 580 [r,s,(Y a 2)] λt=>Z c 552 [t] λb=>Z c 517 [b] λu=>qn u (Z c 518 [] λv=>iR (0,[v])) (qu (qV a 0) [b] (qj (Y a 1) λA=>iL [(D.sl ((qV a 0)++[b])),A,(Y a 2),(Y a 3),(qW a 4)]))) (iR (1,[(qW a 0)]))) [(D.sl []),J0,r1,a0,(D.sl [])] λd=>qr d (qy lp (λv26=>qS (Y v26 0) λl=>qC .gtr (jl l) J0 λh=>qA h (qS (Y v26 0) λm=>P .sub (jl m) J1 λB=>qX (Y v26 0) B λC=>Z c 129 [C] λw=>D.truth (bq w J0)) (qS (Y v26 0) λn=>P .sub (jl n) J1 λE=>qS (Y v26 0) λo=>(D.natOf E).bind λi41=>(D.cut o 0 i41).bind λp=>iL [(D.sl p)]) (iR (0,[(Y v26 0)]))) [(qW d.2 0)] λe=>qS (Y e.2 0) λf=>qc .gtr (jl f) (Jn 25) (Z c 518 [] λx=>some x) (some (Y e.2 0)))) else none)
def adD:l 572 (m1 (Qd lp)):=aY 4 Tryz.f277 aa6 a
def aa7:Ann:=.t (.t (.w WaJ (.t (.t (.w (.t (.w (.p [(9,.v cq),WaG] [] [0,7,8] [(.x 0,S1 [(9,.v cq)])] (.t (.w (.w (.g [] 19) .o) .o))) .o)) .o)))))
def Qe(lp:q)(c:Ca)(a0 a1 a2:D):Option D:=Z c 546 [a0] λr1=>qT r1 λb2=>qO b2 (Z c 547 [(D.sl [a1,a2])] λB=>qz B) (Z c 518 [] λC=>some C) (Q a1 [0] λF=>Q a2 [1] λG=>Z c 61 [F,G] λf=>Q a2 [0] λp=>Q a1 [1] λz=>Z c 61 [p,z] λg=>Z c 581 [(D.sl [f,g])] λh=>Q a1 [1] λr=>Q a2 [1] λs=>Z c 61 [r,s] λi=>qS a0 λb=>Z c 565 [i,(jl b)] λj=>qS a0 λd=>P .sub (jl d) J1 λt=>qy lp (λv22=>qc .geq (Y v22 1) J0 (Z c 534 [(Y v22 0),h] λk=>qX a0 (Y v22 1) λu=>qS a0 λe=>P .sub (jl e) J1 λv=>P .sub v (Y v22 1) λw=>qX j w λx=>Z c 61 [u,x] λl=>Z c 581 [(D.sl [l])] λm=>Z c 520 [k,m] λn=>P .sub (Y v22 1) J1 λy=>iL [n,y]) (iR (0,[(Y v22 0)]))) [(D.sl []),t] λo=>some (Y o.2 0))
def adE:l 573 (m3 (Qe lp)):=kN 0 Tryz.f278 aa7 a
def Qf(lp:q)(c:Ca)(a0 a1 a2:D):Option D:=Z c 132 [a0,a2] λr1=>some r1
def adF:l 580 (m3 (Qf lp)):=kN 0 Tryz.f309 .leaf a
def aa8:Ann:=.t (.w (.regI [] 5 (.w (.t (.t (.w (.t (.w (.loop ⟨[(1,.same (.clo 319 [(.ptr cq 4097 [])])),fy,Wad,WbK],[(4097,.e cq (.v cq))],[14]⟩ [(.r,rz),(.x 0,sy)] .o) .o)) zb))) .o)) .o)
def Qg(lp:q)(c:Ca)(a0:D):Option D:=qS a0 λl1=>(D.max2 (jl l1) J0).bind λA=>(D.natOf A).bind λi3=>if i3<=1073741824 then((D.max2 (jl l1) J0).bind λB=>qy lp (λv5=>qc .lss (Y v5 1) B (Z c 582 [(Y v5 1),(Y v5 2)] λz=>Z c 552 [z] λt=>Z c 517 [t] λp=>qn p (Z c 518 [] λh=>iR (0,[h])) (qu (qV v5 0) [t] (qj (Y v5 1) λu=>iL [(D.sl ((qV v5 0)++[t])),u,(Y v5 2)]))) (iR (1,[(qW v5 0)]))) [(D.sl []),J0,a0] λb=>qr b (qy lp (λa=>qS (Y a 0) λj=>qC .gtr (jl j) J0 λf=>qA f (qS (Y a 0) λk=>P .sub (jl k) J1 λv=>qX (Y a 0) v λw=>Z c 129 [w] λr=>D.truth (bq r J0)) (qS (Y a 0) λl=>P .sub (jl l) J1 λx=>qS (Y a 0) λm=>(D.natOf x).bind λi31=>(D.cut m 0 i31).bind λn=>iL [(D.sl n)]) (iR (0,[(Y a 0)]))) [(qW b.2 0)] λd=>qS (Y d.2 0) λo=>qc .gtr (jl o) (Jn 25) (Z c 518 [] λs=>some s) (some (Y d.2 0)))) else none
def adG:l 581 (m1 (Qg lp)):=aY 1 Tryz.f310 aa8 a
def Qh(lp:q)(c:Ca)(a0 a1:D):Option D:=qX a1 a0 λa=>some a
def adH:l 582 (G (Qh lp)):=aQ 0 Tryz.f319 .leaf a
end
end Sy
end
end
noncomputable section
namespace Sy
open Go Go.Proofs Go.Sort Go.Lib
section
variable{a c f:Nat}{j q u:TypeId}{A B C z:String}{F G:Array Edge}{K M N:Array Oper}
section
variable{P:Program}{E:Env}
def BB(E:Env)(nt m0 o g:Nat)(e vt:Ty)(s:St):Option D:=
 match s.tm m0 with
 | .map d b id=>if d.beq e&&b.beq vt then(match s.ob id with
   | some (.mp a c l)=>if a.beq e&&c.beq vt&&decide (l.length<=1073741824) then(match eI s e o with
     | some []=>if s.nt=nt then(kR E g (l.map yn)).bind λl'=>some (.sl l') else none
     | _=>none) else none
   | _=>none) else none
 | _=>none
def FH(hE:EnvOk P E){e vt:Ty}(he:bX e=true)(a6:bX vt=true)(aO:ak e=true)(a3:ak vt=true){fn:Func}{J:Ty}{y:D}{w:World}{S:Nat->Nat->Prop}(hr:fZ fn.results.size J=true)
  {b b2:Nat} {t72 m0 it T nx ok en o nt:Nat}  {rest:List Oper} {c26:Code}
  {y4 y5:TypeId} {p1:String} {f1 f2 f3 f4 f5:Array Edge} {TK TV:TypeId}
  (W:K.toList=[⟨some t72,.move (.tmp m0),j,p1,f1,none⟩,⟨some it,.range T (.tmp t72),q,z,f2,none⟩])
  (Y:M.toList=[⟨some nx,.next (.tmp it) false,u,A,f3,none⟩,⟨some ok,.extract (.tmp nx) 0,y4,B,f4,none⟩])
  (Z:N.toList=⟨some en,.entry (.tmp it),y5,C,f5,none⟩::rest) (H:(rest.all λx=>x.guard.isNone)=true) (hT:P.underlying T=some (.map TK TV))
  (hd:(decide (o≠t72)&&decide (o≠it)&&decide (nx≠o)&&decide (ok≠o)&&decide (en≠o)&&decide (it≠t72)&&decide (it≠nx)&&decide (it≠ok)&&decide (it≠en)&&decide (nx≠ok)&&decide (t72<nt)&&decide (it<nt)&&decide (nx<nt)&&decide (ok<nt)&&decide (en<nt))=true)
  (n:∀ a0 L k v,Tk e L a0->L.length<1073741824->wt e k->ev E (.region 0 rest.toArray false) .leaf D ((σL nt o it a0).put (some en) (.d (.tup [e,vt]) (.tup [k,v]))) (λx s'=>match x with
   | .normal=>ev E c26 .leaf D s' (λx a7=>match x with|.normal=>(eI a7 e o).bind λl=>some (.sl l)|_=>none)
   | _=>none)=some (.sl (L++[k])))
  {f0 g:Nat} (hf:SortOk P f0 e) (R:E.sig g=some ([e,e],.int .i64)/\E.free g=0) {id t d2:Nat} {ops:Array Oper} {d:Code} {ann:Ann} {a8 a9:TypeId} {q1 q2:String}  {args:Array Operand} {U:Array TypeId}
  (Q:ops.toList=[⟨some t,.move (.tmp o),a8,q1,F,none⟩,⟨some d2,.call ⟨.value (.func f0),args,U⟩,a9,q2,G,none⟩]) (p:args=#[.tmp t,.func g]) (ad:(decide (o≠t)&&decide (o≠d2)&&decide (t<nt))=true)
  (an:∀ l',(ev E d ann D (RT nt o e l') λx s=>match x with|.exit _=>none|_=>results E s J fn.results.toList)=some (.sl l'))
  {S':Nat->Nat->Prop} {γ':Nat->Option Nat} {β':Nat->Option (Nat×Nat)} {s':St} {a':Act} {w':World} (h:Rp (q9 w S) S' γ' β' s' a' w') (al:a'.defers=[]) (i:BB E nt m0 o g e vt s'=some y) :
  (Code.seq (Code.seq (.region a K false) (.block b (.loop (.seq (.region c M false) (.seq (.cond (.tmp ok) .skip (.exit b)) (.block b2 (.seq (.region f N false) c26))))))) (Code.seq (.region id ops false) d)).wpIn (FW none) 0 P (NN P fn w S J y) a' w':=by
 unfold BB at i;split at i<;>try(cases i;done)
 rename_i kt bh ba a5;split at i<;>try(cases i;done)
 rename_i r;split at i<;>try(cases i;done)
 rename_i I bj l a4;split at i<;>try(cases i;done)
 rename_i m;split at i<;>try(cases i;done)
 rename_i aI;split at i<;>try(cases i;done)
 rename_i a1;obtain⟨l',h3,h4⟩:=ab i;cases h4;simp only[X,zea] at r m hd;have e1:=alb _ _ r.1;have e2:=alb _ _ r.2;have e3:=alb _ _ m.1.1;have e4:=alb _ _ m.1.2;subst e1;subst e2;subst e3;subst e4;obtain⟨⟨⟨⟨⟨⟨⟨⟨⟨⟨⟨⟨⟨⟨d1,V⟩,d3⟩,d4⟩,d5⟩,d6⟩,d7⟩,d8⟩,d9⟩,d10⟩,n1⟩,n2⟩,n3⟩,n4⟩,n5⟩:=hd;subst a1;refine wpIn_seq (Rm hE he a6 aO a3 W Y Z (λx hx=>by simpa using zya.1 H x hx) hT h al d1 V d3 d4 d5 d6 d7 d8 d9 d10 n1 n2 n3 n4 n5 a5 a4 m.2 aI n λL S2 γ2 β2 a0 a2 w2 hX hp hR O=>?_)
 have hlen:L.length<=1073741824:=by rw[hp.length_eq];simpa using m.2
 have ax:eI (σL s'.nt o it a0) I o=some L:=by
  unfold eI σL;simp only[if_true];rcases hX with⟨rfl,rfl⟩|rfl
  ·rfl
  ·simp only;have:(I.beq I&&!(([]:List Nat).contains 5)&&decide (L.length<=1073741824))=true:=by
    simp only[X,zea];exact⟨⟨m.1.1,rfl⟩,hlen⟩
   rw[zla this]
 refine z7 hE hf R hr Q p ad an hR O ?_;unfold HR;rw[ax,zba,zla (show(σL s'.nt o it a0).nt=s'.nt from rfl),FT h3 hp];rfl
end
end
end Sy
end
noncomputable section
namespace Go.Proofs
open Go.Shelf
def ak9:Go.Shelf.Ren:=⟨λ|6=>294|15=>316|14=>315|28=>56|29=>329|20=>321|21=>322|22=>323|23=>324|24=>325|25=>326|26=>327|27=>328|46=>339|47=>340|48=>341|49=>342|50=>343|57=>347|n=>n,λ|22=>261|24=>264|25=>291|3=>3|39=>155|0=>0|53=>33|55=>157|4=>4|46=>304|45=>303|50=>195|5=>5|9=>9|66=>315|70=>319|76=>323|77=>324|n=>n,λ|n=>n⟩
def ak8:Go.Proofs.SlLaysF0.n6 Tryz.prog ak9:={
 mixed:=B
 f6:=⟨Tryz.f294.name,H,Tryz.func294.trans (zIa some B)⟩
 f14:=⟨Tryz.f315.name,H,Tryz.func315.trans (zIa some B)⟩
 f15:=Tryz.func316.trans (zIa some B)
 f20:=⟨Tryz.f321.name,H,Tryz.func321.trans (zIa some B)⟩
 f21:=⟨Tryz.f322.name,H,Tryz.func322.trans (zIa some B)⟩
 f22:=⟨Tryz.f323.name,H,Tryz.func323.trans (zIa some B)⟩
 f23:=⟨Tryz.f324.name,H,Tryz.func324.trans (zIa some B)⟩
 f24:=⟨Tryz.f325.name,H,Tryz.func325.trans (zIa some B)⟩
 f25:=⟨Tryz.f326.name,H,Tryz.func326.trans (zIa some B)⟩
 f26:=⟨Tryz.f327.name,H,Tryz.func327.trans (zIa some B)⟩
 f27:=⟨Tryz.f328.name,H,Tryz.func328.trans (zIa some B)⟩
 f28:=Tryz.func56.trans (zIa some B)
 f29:=Tryz.func329.trans (zIa some B)
 f46:=⟨Tryz.f339.name,H,Tryz.func339.trans (zIa some B)⟩
 f47:=Tryz.func340.trans (zIa some B)
 f48:=Tryz.func341.trans (zIa some B)
 f49:=⟨Tryz.f342.name,H,Tryz.func342.trans (zIa some B)⟩
 f50:=⟨Tryz.f343.name,H,Tryz.func343.trans (zIa some B)⟩
 f57:=⟨Tryz.f347.name,H,Tryz.func347.trans (zIa some B)⟩
 t0:=Tryz.underlying0
 a0:=Tryz.isAgg0
 z0:=Tryz.sizeOf0
 v0:=Tryz.zeroValue0
 t3:=Tryz.underlying3
 a3:=Tryz.isAgg3
 z3:=Tryz.sizeOf3
 v3:=Tryz.zeroValue3
 t4:=Tryz.underlying4
 a4:=Tryz.isAgg4
 z4:=Tryz.sizeOf4
 v4:=Tryz.zeroValue4
 t5:=Tryz.underlying5
 a5:=Tryz.isAgg5
 z5:=Tryz.sizeOf5
 v5:=Tryz.zeroValue5
 t9:=Tryz.underlying9
 a9:=Tryz.isAgg9
 z9:=Tryz.sizeOf9
 v9:=Tryz.zeroValue9
 t22:=Tryz.underlying261
 a22:=Tryz.isAgg261
 z22:=Tryz.sizeOf261
 v22:=Tryz.zeroValue261
 t25:=Tryz.underlying291
 a25:=Tryz.isAgg291
 z25:=Tryz.sizeOf291
 v25:=Tryz.zeroValue291
 t39:=Tryz.underlying155
 a39:=Tryz.isAgg155
 z39:=Tryz.sizeOf155
 v39:=Tryz.zeroValue155
 t45:=Tryz.underlying303
 a45:=Tryz.isAgg303
 z45:=Tryz.sizeOf303
 v45:=Tryz.zeroValue303
 t46:=Tryz.underlying304
 a46:=Tryz.isAgg304
 z46:=Tryz.sizeOf304
 v46:=Tryz.zeroValue304
 t50:=Tryz.underlying195
 a50:=Tryz.isAgg195
 z50:=Tryz.sizeOf195
 v50:=Tryz.zeroValue195
 t53:=Tryz.underlying33
 a53:=Tryz.isAgg33
 z53:=Tryz.sizeOf33
 v53:=Tryz.zeroValue33
 t55:=Tryz.underlying157
 a55:=Tryz.isAgg157
 z55:=Tryz.sizeOf157
 v55:=Tryz.zeroValue157
 t66:=Tryz.underlying315
 a66:=Tryz.isAgg315
 z66:=Tryz.sizeOf315
 v66:=Tryz.zeroValue315
 t70:=Tryz.underlying319
 a70:=Tryz.isAgg319
 z70:=Tryz.sizeOf319
 v70:=Tryz.zeroValue319
 t76:=Tryz.underlying323
 a76:=Tryz.isAgg323
 z76:=Tryz.sizeOf323
 v76:=Tryz.zeroValue323
 t77:=Tryz.underlying324
 a77:=Tryz.isAgg324
 z77:=Tryz.sizeOf324
 v77:=Tryz.zeroValue324 }
def ak7:Go.Shelf.Ren:=⟨λ|6=>301|15=>316|14=>318|28=>56|29=>329|20=>330|21=>331|22=>332|23=>333|24=>334|25=>335|26=>336|27=>337|46=>344|47=>340|48=>341|49=>345|50=>346|57=>348|n=>n,λ|22=>217|24=>219|25=>294|3=>3|39=>155|0=>0|53=>33|55=>157|4=>4|46=>304|45=>303|50=>195|5=>5|9=>9|66=>315|70=>319|76=>323|77=>324|n=>n,λ|n=>n⟩
def ak6:Go.Proofs.SlLaysF0.n6 Tryz.prog ak7:={
 mixed:=B
 f6:=⟨Tryz.f301.name,H,Tryz.func301.trans (zIa some B)⟩
 f14:=⟨Tryz.f318.name,H,Tryz.func318.trans (zIa some B)⟩
 f15:=Tryz.func316.trans (zIa some B)
 f20:=⟨Tryz.f330.name,H,Tryz.func330.trans (zIa some B)⟩
 f21:=⟨Tryz.f331.name,H,Tryz.func331.trans (zIa some B)⟩
 f22:=⟨Tryz.f332.name,H,Tryz.func332.trans (zIa some B)⟩
 f23:=⟨Tryz.f333.name,H,Tryz.func333.trans (zIa some B)⟩
 f24:=⟨Tryz.f334.name,H,Tryz.func334.trans (zIa some B)⟩
 f25:=⟨Tryz.f335.name,H,Tryz.func335.trans (zIa some B)⟩
 f26:=⟨Tryz.f336.name,H,Tryz.func336.trans (zIa some B)⟩
 f27:=⟨Tryz.f337.name,H,Tryz.func337.trans (zIa some B)⟩
 f28:=Tryz.func56.trans (zIa some B)
 f29:=Tryz.func329.trans (zIa some B)
 f46:=⟨Tryz.f344.name,H,Tryz.func344.trans (zIa some B)⟩
 f47:=Tryz.func340.trans (zIa some B)
 f48:=Tryz.func341.trans (zIa some B)
 f49:=⟨Tryz.f345.name,H,Tryz.func345.trans (zIa some B)⟩
 f50:=⟨Tryz.f346.name,H,Tryz.func346.trans (zIa some B)⟩
 f57:=⟨Tryz.f348.name,H,Tryz.func348.trans (zIa some B)⟩
 t0:=Tryz.underlying0
 a0:=Tryz.isAgg0
 z0:=Tryz.sizeOf0
 v0:=Tryz.zeroValue0
 t3:=Tryz.underlying3
 a3:=Tryz.isAgg3
 z3:=Tryz.sizeOf3
 v3:=Tryz.zeroValue3
 t4:=Tryz.underlying4
 a4:=Tryz.isAgg4
 z4:=Tryz.sizeOf4
 v4:=Tryz.zeroValue4
 t5:=Tryz.underlying5
 a5:=Tryz.isAgg5
 z5:=Tryz.sizeOf5
 v5:=Tryz.zeroValue5
 t9:=Tryz.underlying9
 a9:=Tryz.isAgg9
 z9:=Tryz.sizeOf9
 v9:=Tryz.zeroValue9
 t22:=Tryz.underlying217
 a22:=Tryz.isAgg217
 z22:=Tryz.sizeOf217
 v22:=Tryz.zeroValue217
 t25:=Tryz.underlying294
 a25:=Tryz.isAgg294
 z25:=Tryz.sizeOf294
 v25:=Tryz.zeroValue294
 t39:=Tryz.underlying155
 a39:=Tryz.isAgg155
 z39:=Tryz.sizeOf155
 v39:=Tryz.zeroValue155
 t45:=Tryz.underlying303
 a45:=Tryz.isAgg303
 z45:=Tryz.sizeOf303
 v45:=Tryz.zeroValue303
 t46:=Tryz.underlying304
 a46:=Tryz.isAgg304
 z46:=Tryz.sizeOf304
 v46:=Tryz.zeroValue304
 t50:=Tryz.underlying195
 a50:=Tryz.isAgg195
 z50:=Tryz.sizeOf195
 v50:=Tryz.zeroValue195
 t53:=Tryz.underlying33
 a53:=Tryz.isAgg33
 z53:=Tryz.sizeOf33
 v53:=Tryz.zeroValue33
 t55:=Tryz.underlying157
 a55:=Tryz.isAgg157
 z55:=Tryz.sizeOf157
 v55:=Tryz.zeroValue157
 t66:=Tryz.underlying315
 a66:=Tryz.isAgg315
 z66:=Tryz.sizeOf315
 v66:=Tryz.zeroValue315
 t70:=Tryz.underlying319
 a70:=Tryz.isAgg319
 z70:=Tryz.sizeOf319
 v70:=Tryz.zeroValue319
 t76:=Tryz.underlying323
 a76:=Tryz.isAgg323
 z76:=Tryz.sizeOf323
 v76:=Tryz.zeroValue323
 t77:=Tryz.underlying324
 a77:=Tryz.isAgg324
 z77:=Tryz.sizeOf324
 v77:=Tryz.zeroValue324 }
end Go.Proofs
end
noncomputable section
namespace Sy
open Go Go.Proofs Go.Shelf Go.RowKit Go.Lib Go.Sort
def XM {P : Program} {f : Nat} (h : (match P.funcs[f]? with | some fn => !(fn.name == "runtime.NumGoroutine") && fn.body.isSome | none => false) = true) : ∃ fn, P.funcs[f]? = some fn /\ (fn.name == "runtime.NumGoroutine") = false /\ fn.body.isSome = true := by
 split at h
 ·rename_i fn hf;simp only[X,zEa] at h;exact⟨fn,hf,h.1,h.2⟩
 ·cases h
def Nl:SortOk Tryz.prog 301 K8:=
 ⟨rfl,rfl,H,rfl,XM B,λp cap fv w=>AnyF.slices_SortFunc_none ak6 p cap fv w,
  λ_ _ enc hk h1 e hO g b off cap d w f a hH hblk c=>AnyQ.slices_SortFunc ak6 2 Tryz.isAgg219 Tryz.sizeOf219 enc hk h1 e hO g #[] b off cap d w f a hH hblk c⟩
def Nm:SortOk Tryz.prog 294 eS:=
 ⟨rfl,rfl,H,rfl,XM B,λp cap fv w=>AnyF.slices_SortFunc_none ak8 p cap fv w,
  λ_ _ enc hk h1 e hO g b off cap d w f a hH hblk c=>AnyQ.slices_SortFunc ak8 4 Tryz.isAgg264 Tryz.sizeOf264 enc hk h1 e hO g #[] b off cap d w f a hH hblk c⟩
end Sy
end
noncomputable section
set_option maxHeartbeats 0
namespace Sy
open Go Go.Proofs
section
variable{y:D}
def Th:Code->Code|.block _ c=>c|c=>c
def inLoop:Code->Code|.loop c=>c|c=>c
def sq1:Code->Code|.seq a _=>a|c=>c
def Zt:Code->Code|.seq _ b=>b|c=>c
def Ya:Code->List Oper|.region _ o _=>o.toList|_=>[]
def YL:AnnT:=(.seq .leaf (.seq .leaf (.seq (.two .leaf (.two (.loop ⟨[(3,.ow K8),(12,.dv (Ty.int .i64))],[],[10,11]⟩ [(.exit 0,⟨[(3,.ow K8)],[],[]⟩)] (.two .leaf (.two .leaf (.two (.two (.two .leaf (.two .leaf (.two (.loop ⟨[(3,.ow K8),(5,.same (.ptr K6 24581 [])),(19,.dv (Ty.int .i64))],[(24581,.keep K6 5)],[10,11,12,17,18]⟩ [(.exit 2,⟨[(3,.ow K8)],[],[10,11,12]⟩)] (.two .leaf (.two .leaf (.cut [(.normal,⟨[(3,.ow K8),(5,.same (.ptr K6 24581 []))],[(24581,.keep K6 5)],[10,11,12,17,18,19]⟩)] [10,11,12,17,18,19] [24581] (.two (.two .leaf (.two (.reg [] 10) .leaf)) .leaf) .leaf)))) .leaf))) .leaf) .leaf)))) .leaf)) .hand)))
def Wm(lp:q)(call:Nat->List D->Option D)(a0:D):Option D:=
 (call 18 [a0]).bind λr1=>
 (D.asSl r1).bind λi=>
 Option.bind (lp (β:=Nat×List D) (λ(v3:List D)=>
 (akk .lss (Y v3 1) (D.int .i64 (List.length i))).bind λy=>
 (D.truth y).bind λx=>
 if x then((D.asSl r1).bind λv=>
 (D.idx (Y v3 1) (List.length v)).bind λi7=>
 (v[i7]?).bind λu=>
 (D.get u [2]).bind λw=>
 (D.asSl w).bind λh=>
 Option.bind (lp (β:=Nat×List D) (λ(v11:List D)=>
 (akk .lss (Y v11 1) (D.int .i64 (List.length h))).bind λm=>
 (D.truth m).bind λf=>
 if f then(Option.bind ((D.asSl w).bind λc=>
 (D.idx (Y v11 1) (List.length c)).bind λi15=>
 (c[i15]?).bind λa=>
 (D.get u [2]).bind λn=>
 (akk .add (Y v11 1) (D.int .i64 1)).bind λo=>
 (D.get u [2]).bind λp=>
 (D.asSl p).bind λj=>
 (akk .rem o (D.int .i64 (List.length j))).bind λz=>
 (D.asSl n).bind λd=>
 (D.idx z (List.length d)).bind λTg=>
 (d[Tg]?).bind λb=>
 (akk .lss a b).bind λr=>
 (D.truth r).bind λg=>
 if g then(if List.length (D.els (Y v11 0))+List.length [(D.st [a,b])]<=1073741824 then(some (0,[(D.sl ((D.els (Y v11 0))++[(D.st [a,b])]))])) else none) else(some (0,[(D.sl (D.els (Y v11 0)))]))) λ(k:Nat×List D)=>
 (akk .add (Y v11 1) (D.int .i64 1)).bind λs=>
 some (Sum.inl [(D.sl (D.els (Y k.2 0))),s])) else(some (Sum.inr (0,[(D.sl (D.els (Y v11 0)))])))) [(D.sl (D.els (Y v3 0))),(D.int .i64 0)]) λl=>
 (akk .add (Y v3 1) (D.int .i64 1)).bind λt=>
 some (Sum.inl [(D.sl (D.els (Y l.2 0))),t])) else(some (Sum.inr (0,[(D.sl (D.els (Y v3 0)))])))) [(D.sl []),(D.int .i64 0)]) λe=>
 Option.bind (if decide (List.length (D.els (Y e.2 0))<=1073741824) then some (D.els (Y e.2 0)) else none) λl1=>
 (kR (c7 lp call (kB lp call)) (cp 51) l1).bind λi=>some (D.sl i)
def E21(lp:q)(call:Nat->List D->Option D)(a0:D):LE (c7 lp call (kB lp call)) (HR (c7 lp call (kB lp call)) 48 3 (cp 51) K8) Tryz.f261 YL [K3] [a0]=Wm lp call a0:=B
def Wx:AnnT:=(.seq .leaf (.seq .leaf (.seq (.two .leaf (.two (.loop ⟨[(3,.same (.map eS Ty.bool 8204)),(15,.dv (Ty.int .i64))],[(8204,.mp eS Ty.bool)],[0,14]⟩ [(.exit 0,⟨[(3,.same (.map eS Ty.bool 8204))],[(8204,.mp eS Ty.bool)],[]⟩)] (.two .leaf (.two .leaf (.two (.two (.two .leaf (.two .leaf (.two (.loop ⟨[(3,.same (.map eS Ty.bool 8204)),(19,.dv (Ty.int .i64))],[(8204,.mp eS Ty.bool)],[0,4,14,15,18]⟩ [(.exit 2,⟨[(3,.same (.map eS Ty.bool 8204))],[(8204,.mp eS Ty.bool)],[0,14,15]⟩)] (.two .leaf (.two .leaf (.two (.two (.two .leaf (.two .leaf (.two (.loop ⟨[(3,.same (.map eS Ty.bool 8204)),(23,.dv (Ty.int .i64))],[(8204,.mp eS Ty.bool)],[0,4,5,14,15,18,19,22]⟩ [(.exit 4,⟨[(3,.same (.map eS Ty.bool 8204))],[(8204,.mp eS Ty.bool)],[0,4,14,15,18,19]⟩)] (.two .leaf (.two .leaf (.cut [(.normal,⟨[(3,.same (.map eS Ty.bool 8204))],[(8204,.mp eS Ty.bool)],[0,4,5,14,15,18,19,22,23]⟩)] [0,4,5,14,15,18,19,22,23] [] (.two (.two .leaf (.two (.reg [] 14) (.two .leaf (.two .leaf (.two (.loop ⟨[(3,.same (.map eS Ty.bool 8204)),(51,.ow eS),(53,.dv (Ty.int .i64))],[(8204,.mp eS Ty.bool)],[0,4,5,14,15,18,19,22,23,52]⟩ [(.exit 6,⟨[(3,.same (.map eS Ty.bool 8204))],[(8204,.mp eS Ty.bool)],[0,4,5,14,15,18,19,22,23]⟩)] (.two .leaf (.two .leaf (.cut [(.normal,⟨[(3,.same (.map eS Ty.bool 8204)),(51,.ow eS)],[(8204,.mp eS Ty.bool)],[0,4,5,14,15,18,19,22,23,52,53]⟩)] [0,4,5,14,15,18,19,22,23,52,53] [] .leaf .leaf)))) .leaf))))) .leaf) .leaf)))) .leaf))) .leaf) .leaf)))) .leaf))) .leaf) .leaf)))) .leaf)) (.seq .leaf .hand))))
def Wn(lp:q)(call:Nat->List D->Option D)(a0:D):Option D:=
 (D.asSl a0).bind λl1=>
 Option.bind (lp (β:=Nat×List D) (λ(v2:List D)=>
 (akk .lss (Y v2 0) (D.int .i64 (List.length l1))).bind λM=>
 (D.truth M).bind λJ=>
 if J then(Option.bind (lp (β:=Nat×List D) (λ(v5:List D)=>
 (akk .lss (Y v5 0) (Y v2 0)).bind λN=>
 (D.truth N).bind λK=>
 if K then(Option.bind (lp (β:=Nat×List D) (λ(d:List D)=>
 (akk .lss (Y d 0) (Y v5 0)).bind λO=>
 (D.truth O).bind λj=>
 if j then(Option.bind ((D.asSl a0).bind λe=>
 (D.idx (Y v2 0) (List.length e)).bind λyb=>
 (e[yb]?).bind λv=>
 (D.asSl a0).bind λf=>
 (D.idx (Y v5 0) (List.length f)).bind λi15=>
 (f[i15]?).bind λw=>
 (D.asSl a0).bind λg=>
 (D.idx (Y d 0) (List.length g)).bind λi18=>
 (g[i18]?).bind λx=>
 (call 96 [v,w,x]).bind λb=>
 (D.get b [0]).bind λy=>
 (D.truth (D.bool (D.beq y (D.st [(D.int .i64 0),(D.int .i64 0),(D.int .i64 0)])))).bind λk=>
 if k then(some (0,[(D.sl (D.els (Y d 1)))])) else((D.get b [0]).bind λz=>
 (call 97 [z]).bind λp=>
 (D.get b [1]).bind λA=>
 (akz .neg A).bind λB=>
 Option.bind (lp (β:=Nat×List D) (λ(a:List D)=>
 (akk .lss (Y a 1) (D.int .i64 2)).bind λC=>
 (D.truth C).bind λl=>
 if l then(Option.bind ((D.idx (Y a 1) (List.length (D.els (Y a 0)))).bind λi30=>
 ((D.els (Y a 0))[i30]?).bind λc=>
 (akz .not (Option.getD (akr (D.els (Y a 2)) c) (D.bool false))).bind λE=>
 (D.truth E).bind λm=>
 Option.bind (if m then((call 98 [a0,c]).bind λS=>
 D.truth S) else(some false)) λn=>
 (D.truth (D.bool n)).bind λo=>
 if o then(some (0,[(D.sl (D.els (Y a 0))),(D.sl (aks (D.els (Y a 2)) c (D.bool true)))])) else(some (0,[(D.sl (D.els (Y a 0))),(D.sl (D.els (Y a 2)))]))) λ(h:Nat×List D)=>
 (akk .add (Y a 1) (D.int .i64 1)).bind λF=>
 some (Sum.inl [(D.sl (D.els (Y h.2 0))),F,(D.sl (D.els (Y h.2 1)))])) else(some (Sum.inr (0,[(D.sl (D.els (Y a 2)))])))) [(D.sl [b,(D.st [p,B])]),(D.int .i64 0),(D.sl (D.els (Y d 1)))]) λr=>
 some (0,[(D.sl (D.els (Y r.2 0)))]))) λ(s:Nat×List D)=>
 (akk .add (Y d 0) (D.int .i64 1)).bind λG=>
 some (Sum.inl [G,(D.sl (D.els (Y s.2 0)))])) else(some (Sum.inr (0,[(D.sl (D.els (Y d 1)))])))) [(D.int .i64 0),(D.sl (D.els (Y v5 1)))]) λt=>
 (akk .add (Y v5 0) (D.int .i64 1)).bind λH=>
 some (Sum.inl [H,(D.sl (D.els (Y t.2 0)))])) else(some (Sum.inr (0,[(D.sl (D.els (Y v5 1)))])))) [(D.int .i64 0),(D.sl (D.els (Y v2 1)))]) λu=>
 (akk .add (Y v2 0) (D.int .i64 1)).bind λI=>
 some (Sum.inl [I,(D.sl (D.els (Y u.2 0)))])) else(some (Sum.inr (0,[(D.sl (D.els (Y v2 1)))])))) [(D.int .i64 0),(D.sl [])]) λi=>
 if decide (List.length (D.els (Y i.2 0))<=1073741824) then((kR (c7 lp call (kB lp call)) (cp 100) (List.map yn (D.els (Y i.2 0)))).bind λL=>some (D.sl L)) else none
def E45(lp:q)(call:Nat->List D->Option D)(a0:D):LE (c7 lp call (kB lp call)) (BB (c7 lp call (kB lp call)) 85 3 10 (cp 100) eS Ty.bool) Tryz.f259 Wx [K2] [a0]=Wn lp call a0:=B
def Ue(f:Func):Code:=match f.body with|some c=>c|none=>.skip
def DO:Code:=Th (Zt (Zt (inLoop (Th (Zt (sq1 (uV (Ue Tryz.f259) Wx)))))))
def FF:List Oper:=(Ya (sq1 DO)).tail
def c45:Code:=Zt DO
def Xu{lp:q}{call:Nat->List D->Option D}(a:EnvOk Tryz.prog (c7 lp call (kB lp call))){a0:D}(h:Wm lp call a0=some y):NY Tryz.prog [K3] K9 (cp 21) [a0] y:=by
 refine pQ a (f:=cp 21) (fn:=Tryz.f261) (ann:=YL) (K:=HR (c7 lp call (kB lp call)) 48 3 (cp 51) K8) B B ((E21 lp call a0).trans h) ?_
 intro c j w S S' γ' β' s' a' w' i k d;have e:∀ c',Tryz.f261.body=some c'->(uV c' YL).wpIn (FW none) 0 Tryz.prog (NN Tryz.prog Tryz.f261 w S K9 y) a' w'->(uV c YL).wpIn (FW none) 0 Tryz.prog (NN Tryz.prog Tryz.f261 w S K9 y) a' w':=λc' h1 b=>by rw[j] at h1;cases h1;exact b
 refine e _ rfl ?_;exact z7 a Nl (g:=302) ⟨B,B⟩ B (x:=3) (t:=45) (d2:=46) (nt:=48) (ann:=.leaf) rfl rfl H (λl'=>B) i k d
def RS{lp:q}{call:Nat->List D->Option D}:∀ X L k v,Tk eS L X->L.length<1073741824->wt eS k->ev (c7 lp call (kB lp call)) (.region 0 (FF).toArray false) .leaf D ((σL 85 10 73 X).put (some 76) (.d (.tup [eS,.bool]) (.tup [k,v]))) (λx s'=>match x with
   | .normal=>ev (c7 lp call (kB lp call)) c45 .leaf D s' (λx a=>match x with|.normal=>(eI a eS 10).bind λl=>some (.sl l)|_=>none)
   | _=>none)=some (.sl (L++[k])):=by
 intro X L k v b hL _;rcases b with⟨rfl,rfl⟩|rfl
 ·kernel_rfl
 ·have key:ev (c7 lp call (kB lp call)) (.region 0 (FF).toArray false) .leaf D ((σL 85 10 73 (.own eS 5 L)).put (some 76) (.d (.tup [eS,.bool]) (.tup [k,v]))) (λx s'=>match x with
   | .normal=>ev (c7 lp call (kB lp call)) c45 .leaf D s' (λx a=>match x with|.normal=>(eI a eS 10).bind λl=>some (.sl l)|_=>none)
   | _=>none)=(if List.length L+List.length [k]<=1073741824 then(Option.bind (if decide (List.length (L++[k])<=1073741824) then some (L++[k]) else none) λl=>some (.sl l)) else none):=B
  rw[key,zla (by simp;omega),zla (by simp;omega)]
  rfl
def Xv{lp:q}{call:Nat->List D->Option D}(a:EnvOk Tryz.prog (c7 lp call (kB lp call))){a0:D}(h:Wn lp call a0=some y):NY Tryz.prog [K2] Wp (cp 45) [a0] y:=by
 refine pQ a (f:=cp 45) (fn:=Tryz.f259) (ann:=Wx) (K:=BB (c7 lp call (kB lp call)) 85 3 10 (cp 100) eS .bool) B B ((E45 lp call a0).trans h) ?_
 intro c j w S S' γ' β' s' a' w' i k d;have e:∀ c',Tryz.f259.body=some c'->(uV c' Wx).wpIn (FW none) 0 Tryz.prog (NN Tryz.prog Tryz.f259 w S Wp y) a' w'->(uV c Wx).wpIn (FW none) 0 Tryz.prog (NN Tryz.prog Tryz.f259 w S Wp y) a' w':=λc' h1 b=>by rw[j] at h1;cases h1;exact b
 refine e _ rfl ?_;exact FH a rfl rfl rfl rfl B (t72:=72) (m0:=3) (it:=73) (T:=287) (nx:=74) (ok:=75) (en:=76) (o:=10) (nt:=85) (c26:=c45) (rest:=FF) rfl rfl rfl rfl (TK:=264) (TV:=4) B H RS Nm (g:=295) ⟨B,B⟩ (t:=82) (d2:=83) (ann:=.leaf) rfl rfl H (λl'=>B) i k d
end
end Sy
end
noncomputable section
namespace Sy
open Go Go.Proofs
def L21{lp:q}(b:am lp):l 21 (m1 (Wm lp)):=by
 intro call hc d e xs y c a hw;have:oW (cp 21)=some ([K3],K9):=B
 rw[this] at c;cases c;unfold m1 at a;split at a<;>try(cases a;done)
 have h0:jY (cp 21)=0:=B
 rw[h0];exact⟨Xu (XE b hc) a,λh=>by rw[show pC (cp 21)=false by kernel_rfl] at h;cases h⟩
def L45{lp:q}(b:am lp):l 45 (m1 (Wn lp)):=by
 intro call hc d e xs y c a hw;have:oW (cp 45)=some ([K2],Wp):=B
 rw[this] at c;cases c;unfold m1 at a;split at a<;>try(cases a;done)
 have h0:jY (cp 45)=0:=B
 rw[h0];exact⟨Xv (XE b hc) a,λh=>by rw[show pC (cp 45)=false by kernel_rfl] at h;cases h⟩
end Sy
end
noncomputable section
set_option maxHeartbeats 0
namespace Sy
open Go Go.Proofs
def Sr(lp:q):CT:=.node 174 (.node 110 (.node 76 (.node 48 (.node 22 (.node 18 (.node 13 (.leaf 12 (m1 (Wl lp))) (.node 15 (.leaf 13 (G (YM lp))) (.leaf 15 (m1 (YN lp))))) (.node 19 (.leaf 18 (m1 (YO lp))) (.node 21 (.leaf 19 (m1 (YP lp))) (.leaf 21 (m1 (Wm lp)))))) (.node 45 (.node 32 (.leaf 22 (m1 (YQ lp))) (.node 34 (.leaf 32 (G (YR lp))) (.leaf 34 (m1 (YS lp))))) (.node 46 (.leaf 45 (m1 (Wn lp))) (.node 47 (.leaf 46 (G (YT lp))) (.leaf 47 (m1 (YU lp))))))) (.node 61 (.node 53 (.node 51 (.leaf 48 (m1 (YV lp))) (.node 52 (.leaf 51 (G (YW lp))) (.leaf 52 (m1 (YX lp))))) (.node 54 (.leaf 53 (G (YY lp))) (.node 57 (.leaf 54 (m1 (YZ lp))) (.leaf 57 (G (Y0 lp)))))) (.node 72 (.node 62 (.leaf 61 (G (Y1 lp))) (.node 68 (.leaf 62 (G (Wo lp))) (.leaf 68 (m1 (Y2 lp))))) (.node 73 (.leaf 72 (G (Y3 lp))) (.node 74 (.leaf 73 (G (Y4 lp))) (.leaf 74 (m1 (Y5 lp)))))))) (.node 96 (.node 83 (.node 80 (.node 77 (.leaf 76 (m1 (WE lp))) (.node 78 (.leaf 77 (m1 (Y6 lp))) (.leaf 78 (G (Y7 lp))))) (.node 81 (.leaf 80 (m1 (Y8 lp))) (.node 82 (.leaf 81 (G (Y9 lp))) (.leaf 82 (G (Za lp)))))) (.node 88 (.node 85 (.leaf 83 (m1 (Zb lp))) (.node 87 (.leaf 85 (G (WF lp))) (.leaf 87 (G (Zc lp))))) (.node 90 (.leaf 88 (m1 (T1 lp))) (.node 91 (.leaf 90 (G (Zd lp))) (.leaf 91 (G (Ze lp))))))) (.node 104 (.node 100 (.node 97 (.leaf 96 (m3 (Zf lp))) (.node 98 (.leaf 97 (m1 (Zg lp))) (.leaf 98 (G (Zh lp))))) (.node 101 (.leaf 100 (G (N0 lp))) (.node 103 (.leaf 101 (G (J7 lp))) (.leaf 103 (G (N3 lp)))))) (.node 107 (.node 105 (.leaf 104 (m3 (N5 lp))) (.node 106 (.leaf 105 (G (N6 lp))) (.leaf 106 (m3 (N7 lp))))) (.node 108 (.leaf 107 (G (N8 lp))) (.node 109 (.leaf 108 (G (N9 lp))) (.leaf 109 (m3 (Oa lp))))))))) (.node 136 (.node 124 (.node 118 (.node 115 (.node 111 (.leaf 110 (G (Oc lp))) (.node 112 (.leaf 111 (m3 (Od lp))) (.leaf 112 (G (Oe lp))))) (.node 116 (.leaf 115 (m1 (Of lp))) (.node 117 (.leaf 116 (G (Og lp))) (.leaf 117 (G (Oh lp)))))) (.node 121 (.node 119 (.leaf 118 (m1 (Oi lp))) (.node 120 (.leaf 119 (m0 (Oj lp))) (.leaf 120 (G (Ol lp))))) (.node 122 (.leaf 121 (G (Om lp))) (.node 123 (.leaf 122 (G (On lp))) (.leaf 123 (G (Oo lp))))))) (.node 130 (.node 127 (.node 125 (.leaf 124 (m1 (J8 lp))) (.node 126 (.leaf 125 (m0 (WC lp))) (.leaf 126 (G (Oq lp))))) (.node 128 (.leaf 127 (m1 (Ot lp))) (.node 129 (.leaf 128 (m1 (H1 lp))) (.leaf 129 (m1 (Ou lp)))))) (.node 133 (.node 131 (.leaf 130 (m0 (Ov lp))) (.node 132 (.leaf 131 (G (Ow lp))) (.leaf 132 (G (J9 lp))))) (.node 134 (.leaf 133 (m0 (Ox lp))) (.node 135 (.leaf 134 (G (Oy lp))) (.leaf 135 (m1 (Oz lp)))))))) (.node 152 (.node 142 (.node 139 (.node 137 (.leaf 136 (m1 (Ap lp))) (.node 138 (.leaf 137 (G (OA lp))) (.leaf 138 (m1 (OB lp))))) (.node 140 (.leaf 139 (m1 (Ka lp))) (.node 141 (.leaf 140 (m1 (OC lp))) (.leaf 141 (G (OD lp)))))) (.node 146 (.node 143 (.leaf 142 (m1 (OE lp))) (.node 144 (.leaf 143 (G (OF lp))) (.leaf 144 (G (OG lp))))) (.node 147 (.leaf 146 (G (OH lp))) (.node 148 (.leaf 147 (G (OI lp))) (.leaf 148 (m1 (OJ lp))))))) (.node 168 (.node 156 (.node 154 (.leaf 152 (G (Kb lp))) (.node 155 (.leaf 154 (G (OK lp))) (.leaf 155 (m1 (OL lp))))) (.node 165 (.leaf 156 (m5 (OM lp))) (.node 167 (.leaf 165 (m1 (ON lp))) (.leaf 167 (m1 (Kc lp)))))) (.node 171 (.node 169 (.leaf 168 (G (OO lp))) (.node 170 (.leaf 169 (m0 (OP lp))) (.leaf 170 (G (OQ lp))))) (.node 172 (.leaf 171 (m1 (OR lp))) (.node 173 (.leaf 172 (G (Kd lp))) (.leaf 173 (G (H2 lp)))))))))) (.node 481 (.node 365 (.node 215 (.node 195 (.node 187 (.node 175 (.leaf 174 (G (H3 lp))) (.node 186 (.leaf 175 (G (OS lp))) (.leaf 186 (m1 (OT lp))))) (.node 188 (.leaf 187 (m1 (OU lp))) (.node 194 (.leaf 188 (G (OV lp))) (.leaf 194 (m1 (OX lp)))))) (.node 201 (.node 196 (.leaf 195 (G (OY lp))) (.node 197 (.leaf 196 (m1 (OZ lp))) (.leaf 197 (G (O0 lp))))) (.node 202 (.leaf 201 (G (O1 lp))) (.node 203 (.leaf 202 (m1 (H4 lp))) (.leaf 203 (G (Ke lp))))))) (.node 342 (.node 333 (.node 217 (.leaf 215 (m1 (O2 lp))) (.node 331 (.leaf 217 (m1 (O3 lp))) (.leaf 331 (m1 (O4 lp))))) (.node 336 (.leaf 333 (G (O5 lp))) (.node 337 (.leaf 336 (G (O6 lp))) (.leaf 337 (G (O7 lp)))))) (.node 352 (.node 348 (.leaf 342 (m1 (O8 lp))) (.node 349 (.leaf 348 (m1 (O9 lp))) (.leaf 349 (m1 (Pa lp))))) (.node 357 (.leaf 352 (G (Pb lp))) (.node 364 (.leaf 357 (m1 (Kf lp))) (.leaf 364 (G (Pc lp)))))))) (.node 447 (.node 416 (.node 392 (.node 385 (.leaf 365 (m1 (Pd lp))) (.node 386 (.leaf 385 (m1 (Pe lp))) (.leaf 386 (G (Kg lp))))) (.node 393 (.leaf 392 (G (Kh lp))) (.node 394 (.leaf 393 (m1 (Pf lp))) (.leaf 394 (m1 (H5 lp)))))) (.node 433 (.node 427 (.leaf 416 (m4 (Pg lp))) (.node 431 (.leaf 427 (m1 (Ph lp))) (.leaf 431 (G (Pi lp))))) (.node 434 (.leaf 433 (G (Pj lp))) (.node 435 (.leaf 434 (m3 (Pm lp))) (.leaf 435 (G (Pn lp))))))) (.node 471 (.node 450 (.node 448 (.leaf 447 (m1 (Po lp))) (.node 449 (.leaf 448 (m1 (Pp lp))) (.leaf 449 (m1 (Pq lp))))) (.node 456 (.leaf 450 (G (Pr lp))) (.node 469 (.leaf 456 (G (Ps lp))) (.leaf 469 (m6 (Pt lp)))))) (.node 476 (.node 473 (.leaf 471 (m5 (Pu lp))) (.node 474 (.leaf 473 (B6 0 lp 473 Tryz.f9 Wy)) (.leaf 474 (m5 (Pv lp))))) (.node 478 (.leaf 476 (m6 (Pw lp))) (.node 479 (.leaf 478 (B6 0 lp 478 Tryz.f14 Wz)) (.leaf 479 (m7 (Px lp))))))))) (.node 530 (.node 505 (.node 490 (.node 486 (.node 483 (.leaf 481 (m5 (Py lp))) (.node 485 (.leaf 483 (m7 (Ki lp))) (.leaf 485 (G (Pz lp))))) (.node 487 (.leaf 486 (m3 (PA lp))) (.node 488 (.leaf 487 (B6 0 lp 487 Tryz.f39 WA)) (.leaf 488 (B6 0 lp 488 Tryz.f40 .leaf))))) (.node 498 (.node 496 (.leaf 490 (G (Kj lp))) (.node 497 (.leaf 496 (m1 (PC lp))) (.leaf 497 (m6 (PD lp))))) (.node 499 (.leaf 498 (m3 (PE lp))) (.node 500 (.leaf 499 (G (PF lp))) (.leaf 500 (m3 (PH lp))))))) (.node 516 (.node 508 (.node 506 (.leaf 505 (G (PI lp))) (.node 507 (.leaf 506 (G (PJ lp))) (.leaf 507 (m4 (PK lp))))) (.node 509 (.leaf 508 (G (PL lp))) (.node 510 (.leaf 509 (m1 (PM lp))) (.leaf 510 (m1 (PN lp)))))) (.node 519 (.node 517 (.leaf 516 (m3 (PO lp))) (.node 518 (.leaf 517 (m1 (PP lp))) (.leaf 518 (m0 (WD lp))))) (.node 520 (.leaf 519 (m3 (PQ lp))) (.node 521 (.leaf 520 (G (PR lp))) (.leaf 521 (G (PS lp)))))))) (.node 550 (.node 537 (.node 534 (.node 531 (.leaf 530 (m1 (PT lp))) (.node 533 (.leaf 531 (m1 (PU lp))) (.leaf 533 (G (Kk lp))))) (.node 535 (.leaf 534 (G (PW lp))) (.node 536 (.leaf 535 (m1 (PX lp))) (.leaf 536 (G (PY lp)))))) (.node 547 (.node 538 (.leaf 537 (m1 (PZ lp))) (.node 546 (.leaf 538 (m1 (P3 lp))) (.leaf 546 (m1 (P4 lp))))) (.node 548 (.leaf 547 (m1 (Kl lp))) (.node 549 (.leaf 548 (m3 (P5 lp))) (.leaf 549 (G (P6 lp))))))) (.node 566 (.node 563 (.node 551 (.leaf 550 (G (P7 lp))) (.node 552 (.leaf 551 (m1 (P8 lp))) (.leaf 552 (m1 (TZ lp))))) (.node 564 (.leaf 563 (m3 (P9 lp))) (.node 565 (.leaf 564 (G (Qa lp))) (.leaf 565 (G (Qb lp)))))) (.node 573 (.node 567 (.leaf 566 (G (Km lp))) (.node 572 (.leaf 567 (m1 (Qc lp))) (.leaf 572 (m1 (Qd lp))))) (.node 581 (.node 580 (.leaf 573 (m3 (Qe lp))) (.leaf 580 (m3 (Qf lp)))) (.node 582 (.leaf 581 (m1 (Qg lp))) (.leaf 582 (G (Qh lp))))))))))
def HV{lp:q}(a:am lp):(Sr lp).ok:=⟨⟨⟨⟨⟨⟨⟨L12 a,⟨L13 a,L15 a⟩⟩,⟨L18 a,⟨L19 a,L21 a⟩⟩⟩,⟨⟨L22 a,⟨L32 a,L34 a⟩⟩,⟨L45 a,⟨L46 a,L47 a⟩⟩⟩⟩,⟨⟨⟨L48 a,⟨L51 a,L52 a⟩⟩,⟨L53 a,⟨L54 a,L57 a⟩⟩⟩,⟨⟨L61 a,⟨L62 a,L68 a⟩⟩,⟨L72 a,⟨L73 a,L74 a⟩⟩⟩⟩⟩,⟨⟨⟨⟨L76 a,⟨L77 a,L78 a⟩⟩,⟨L80 a,⟨L81 a,L82 a⟩⟩⟩,⟨⟨L83 a,⟨L85 a,L87 a⟩⟩,⟨L88 a,⟨L90 a,L91 a⟩⟩⟩⟩,⟨⟨⟨L96 a,⟨L97 a,L98 a⟩⟩,⟨abc a,⟨abd a,abe a⟩⟩⟩,⟨⟨abf a,⟨abg a,abh a⟩⟩,⟨abi a,⟨abj a,abk a⟩⟩⟩⟩⟩⟩,⟨⟨⟨⟨⟨abl a,⟨abm a,abn a⟩⟩,⟨abo a,⟨abp a,abq a⟩⟩⟩,⟨⟨abr a,⟨abt a,abu a⟩⟩,⟨abv a,⟨abw a,abx a⟩⟩⟩⟩,⟨⟨⟨aby a,⟨abz a,abA a⟩⟩,⟨abB a,⟨abC a,abD a⟩⟩⟩,⟨⟨abE a,⟨abF a,abG a⟩⟩,⟨abH a,⟨abI a,abJ a⟩⟩⟩⟩⟩,⟨⟨⟨⟨abK a,⟨abL a,abM a⟩⟩,⟨abN a,⟨abO a,abP a⟩⟩⟩,⟨⟨abQ a,⟨abR a,abS a⟩⟩,⟨abT a,⟨abU a,abV a⟩⟩⟩⟩,⟨⟨⟨abW a,⟨abX a,abY a⟩⟩,⟨abZ a,⟨ab0 a,ab1 a⟩⟩⟩,⟨⟨ab2 a,⟨ab3 a,ab4 a⟩⟩,⟨ab5 a,⟨ab6 a,ab7 a⟩⟩⟩⟩⟩⟩⟩,⟨⟨⟨⟨⟨⟨ab8 a,⟨ab9 a,aca a⟩⟩,⟨acb a,⟨acc a,acd a⟩⟩⟩,⟨⟨ace a,⟨acf a,acg a⟩⟩,⟨ach a,⟨aci a,acj a⟩⟩⟩⟩,⟨⟨⟨ack a,⟨acl a,acm a⟩⟩,⟨acn a,⟨aco a,acp a⟩⟩⟩,⟨⟨acq a,⟨acr a,acs a⟩⟩,⟨acu a,⟨acv a,acw a⟩⟩⟩⟩⟩,⟨⟨⟨⟨acx a,⟨acy a,acz a⟩⟩,⟨acA a,⟨acB a,acC a⟩⟩⟩,⟨⟨acD a,⟨acE a,acF a⟩⟩,⟨acG a,⟨acH a,acI a⟩⟩⟩⟩,⟨⟨⟨acJ a,⟨acK a,acL a⟩⟩,⟨acM a,⟨acN a,WI a⟩⟩⟩,⟨⟨acO a,⟨acP a,acQ a⟩⟩,⟨acR a,⟨acS a,acT a⟩⟩⟩⟩⟩⟩,⟨⟨⟨⟨⟨acU a,⟨acV a,acW a⟩⟩,⟨acX a,⟨acY a,acZ a⟩⟩⟩,⟨⟨ac0 a,⟨ac1 a,ac2 a⟩⟩,⟨ac3 a,⟨ac4 a,ac5 a⟩⟩⟩⟩,⟨⟨⟨ac6 a,⟨ac7 a,ac8 a⟩⟩,⟨ac9 a,⟨ada a,adb a⟩⟩⟩,⟨⟨adc a,⟨ade a,adf a⟩⟩,⟨adg a,⟨adh a,adi a⟩⟩⟩⟩⟩,⟨⟨⟨⟨adj a,⟨adk a,adl a⟩⟩,⟨adm a,⟨adn a,ado a⟩⟩⟩,⟨⟨adp a,⟨adq a,adr a⟩⟩,⟨ads a,⟨adt a,adu a⟩⟩⟩⟩,⟨⟨⟨adv a,⟨adw a,adx a⟩⟩,⟨ady a,⟨adz a,adA a⟩⟩⟩,⟨⟨adB a,⟨adC a,adD a⟩⟩,⟨⟨adE a,adF a⟩,⟨adG a,adH a⟩⟩⟩⟩⟩⟩⟩⟩
def Lb(lp:q):Nat->Nat->List D->Option D
 | 0=>λ_ _=>none
 | n+1=>λf xs=>(Sr lp).get f (Lb lp n) xs
theorem wl{lp:q}(a:am lp):∀ n,gf Tryz.prog (Lb lp n)
 | 0=>λf b c xs y _ h _=>by cases h
 | n+1=>aki (HV a) (wl a n)
end Sy
end
noncomputable section
namespace Sy
open Go Go.Proofs
def F:q:=λ{α β} body=>nJ (α:=α) (β:=β) body
def C(n:Nat):Nat->List D->Option D:=Lb F n
section
variable(n:Nat)(a0 a1 a2 a3 a4 a5 a6:D)
def u12:C (n+1) 12 [a0]=Wl F (C n) a0:=B
def u13:C (n+1) 13 [a0,a1]=YM F (C n) a0 a1:=B
def u15:C (n+1) 15 [a0]=YN F (C n) a0:=B
def u18:C (n+1) 18 [a0]=YO F (C n) a0:=B
def u19:C (n+1) 19 [a0]=YP F (C n) a0:=B
def u21:C (n+1) 21 [a0]=Wm F (C n) a0:=B
def u22:C (n+1) 22 [a0]=YQ F (C n) a0:=B
def u32:C (n+1) 32 [a0,a1]=YR F (C n) a0 a1:=B
def u34:C (n+1) 34 [a0]=YS F (C n) a0:=B
def u45:C (n+1) 45 [a0]=Wn F (C n) a0:=B
def u46:C (n+1) 46 [a0,a1]=YT F (C n) a0 a1:=B
def u47:C (n+1) 47 [a0]=YU F (C n) a0:=B
def u48:C (n+1) 48 [a0]=YV F (C n) a0:=B
def u51:C (n+1) 51 [a0,a1]=YW F (C n) a0 a1:=B
def u52:C (n+1) 52 [a0]=YX F (C n) a0:=B
def u53:C (n+1) 53 [a0,a1]=YY F (C n) a0 a1:=B
def u54:C (n+1) 54 [a0]=YZ F (C n) a0:=B
def u57:C (n+1) 57 [a0,a1]=Y0 F (C n) a0 a1:=B
def u61:C (n+1) 61 [a0,a1]=Y1 F (C n) a0 a1:=B
def u62:C (n+1) 62 [a0,a1]=Wo F (C n) a0 a1:=B
def u68:C (n+1) 68 [a0]=Y2 F (C n) a0:=B
def u72:C (n+1) 72 [a0,a1]=Y3 F (C n) a0 a1:=B
def u73:C (n+1) 73 [a0,a1]=Y4 F (C n) a0 a1:=B
def u74:C (n+1) 74 [a0]=Y5 F (C n) a0:=B
def u76:C (n+1) 76 [a0]=WE F (C n) a0:=B
def u77:C (n+1) 77 [a0]=Y6 F (C n) a0:=B
def u78:C (n+1) 78 [a0,a1]=Y7 F (C n) a0 a1:=B
def u80:C (n+1) 80 [a0]=Y8 F (C n) a0:=B
def u81:C (n+1) 81 [a0,a1]=Y9 F (C n) a0 a1:=B
def u82:C (n+1) 82 [a0,a1]=Za F (C n) a0 a1:=B
def u83:C (n+1) 83 [a0]=Zb F (C n) a0:=B
def u85:C (n+1) 85 [a0,a1]=WF F (C n) a0 a1:=B
def u87:C (n+1) 87 [a0,a1]=Zc F (C n) a0 a1:=B
def Zu:C (n+1) 88 [a0]=T1 F (C n) a0:=B
def u90:C (n+1) 90 [a0,a1]=Zd F (C n) a0 a1:=B
def u91:C (n+1) 91 [a0,a1]=Ze F (C n) a0 a1:=B
def u96:C (n+1) 96 [a0,a1,a2]=Zf F (C n) a0 a1 a2:=B
def u97:C (n+1) 97 [a0]=Zg F (C n) a0:=B
def u98:C (n+1) 98 [a0,a1]=Zh F (C n) a0 a1:=B
def afp:C (n+1) 100 [a0,a1]=N0 F (C n) a0 a1:=B
def afq:C (n+1) 101 [a0,a1]=J7 F (C n) a0 a1:=B
def afr:C (n+1) 103 [a0,a1]=N3 F (C n) a0 a1:=B
def afs:C (n+1) 104 [a0,a1,a2]=N5 F (C n) a0 a1 a2:=B
def aft:C (n+1) 105 [a0,a1]=N6 F (C n) a0 a1:=B
def afu:C (n+1) 106 [a0,a1,a2]=N7 F (C n) a0 a1 a2:=B
def afv:C (n+1) 107 [a0,a1]=N8 F (C n) a0 a1:=B
def afw:C (n+1) 108 [a0,a1]=N9 F (C n) a0 a1:=B
def afx:C (n+1) 109 [a0,a1,a2]=Oa F (C n) a0 a1 a2:=B
def afy:C (n+1) 110 [a0,a1]=Oc F (C n) a0 a1:=B
def afz:C (n+1) 111 [a0,a1,a2]=Od F (C n) a0 a1 a2:=B
def afA:C (n+1) 112 [a0,a1]=Oe F (C n) a0 a1:=B
def afB:C (n+1) 115 [a0]=Of F (C n) a0:=B
def afC:C (n+1) 116 [a0,a1]=Og F (C n) a0 a1:=B
def afD:C (n+1) 117 [a0,a1]=Oh F (C n) a0 a1:=B
def afE:C (n+1) 118 [a0]=Oi F (C n) a0:=B
def afF:C (n+1) 119 []=Oj F (C n) :=B
def afH:C (n+1) 120 [a0,a1]=Ol F (C n) a0 a1:=B
def afI:C (n+1) 121 [a0,a1]=Om F (C n) a0 a1:=B
def afJ:C (n+1) 122 [a0,a1]=On F (C n) a0 a1:=B
def afK:C (n+1) 123 [a0,a1]=Oo F (C n) a0 a1:=B
def Yq:C (n+1) 124 [a0]=J8 F (C n) a0:=B
def afL:C (n+1) 126 [a0,a1]=Oq F (C n) a0 a1:=B
def afM:C (n+1) 127 [a0]=Ot F (C n) a0:=B
def V8:C (n+1) 128 [a0]=H1 F (C n) a0:=B
def afN:C (n+1) 129 [a0]=Ou F (C n) a0:=B
def afO:C (n+1) 130 []=Ov F (C n) :=B
def afP:C (n+1) 131 [a0,a1]=Ow F (C n) a0 a1:=B
def Yr:C (n+1) 132 [a0,a1]=J9 F (C n) a0 a1:=B
def afQ:C (n+1) 133 []=Ox F (C n) :=B
def afR:C (n+1) 134 [a0,a1]=Oy F (C n) a0 a1:=B
def afS:C (n+1) 135 [a0]=Oz F (C n) a0:=B
def JD:C (n+1) 136 [a0]=Ap F (C n) a0:=B
def afT:C (n+1) 137 [a0,a1]=OA F (C n) a0 a1:=B
def afU:C (n+1) 138 [a0]=OB F (C n) a0:=B
def Ys:C (n+1) 139 [a0]=Ka F (C n) a0:=B
def afV:C (n+1) 140 [a0]=OC F (C n) a0:=B
def afW:C (n+1) 141 [a0,a1]=OD F (C n) a0 a1:=B
def afX:C (n+1) 142 [a0]=OE F (C n) a0:=B
def afY:C (n+1) 143 [a0,a1]=OF F (C n) a0 a1:=B
def afZ:C (n+1) 144 [a0,a1]=OG F (C n) a0 a1:=B
def af0:C (n+1) 146 [a0,a1]=OH F (C n) a0 a1:=B
def af3:C (n+1) 147 [a0,a1]=OI F (C n) a0 a1:=B
def af4:C (n+1) 148 [a0]=OJ F (C n) a0:=B
def Yt:C (n+1) 152 [a0,a1]=Kb F (C n) a0 a1:=B
def af5:C (n+1) 154 [a0,a1]=OK F (C n) a0 a1:=B
def af6:C (n+1) 155 [a0]=OL F (C n) a0:=B
def af7:C (n+1) 156 [a0,a1,a2,a3,a4]=OM F (C n) a0 a1 a2 a3 a4:=B
def af8:C (n+1) 165 [a0]=ON F (C n) a0:=B
def Yu:C (n+1) 167 [a0]=Kc F (C n) a0:=B
def af9:C (n+1) 168 [a0,a1]=OO F (C n) a0 a1:=B
def aga:C (n+1) 169 []=OP F (C n) :=B
def agb:C (n+1) 170 [a0,a1]=OQ F (C n) a0 a1:=B
def agc:C (n+1) 171 [a0]=OR F (C n) a0:=B
def Yv:C (n+1) 172 [a0,a1]=Kd F (C n) a0 a1:=B
def V9:C (n+1) 173 [a0,a1]=H2 F (C n) a0 a1:=B
def Wa:C (n+1) 174 [a0,a1]=H3 F (C n) a0 a1:=B
def agd:C (n+1) 175 [a0,a1]=OS F (C n) a0 a1:=B
def age:C (n+1) 186 [a0]=OT F (C n) a0:=B
def agf:C (n+1) 187 [a0]=OU F (C n) a0:=B
def agh:C (n+1) 188 [a0,a1]=OV F (C n) a0 a1:=B
def agi:C (n+1) 194 [a0]=OX F (C n) a0:=B
def agj:C (n+1) 195 [a0,a1]=OY F (C n) a0 a1:=B
def agk:C (n+1) 196 [a0]=OZ F (C n) a0:=B
def agl:C (n+1) 197 [a0,a1]=O0 F (C n) a0 a1:=B
def agm:C (n+1) 201 [a0,a1]=O1 F (C n) a0 a1:=B
def agn:C (n+1) 202 [a0]=H4 F (C n) a0:=B
def Yw:C (n+1) 203 [a0,a1]=Ke F (C n) a0 a1:=B
def ago:C (n+1) 215 [a0]=O2 F (C n) a0:=B
def agp:C (n+1) 217 [a0]=O3 F (C n) a0:=B
def agq:C (n+1) 331 [a0]=O4 F (C n) a0:=B
def agr:C (n+1) 333 [a0,a1]=O5 F (C n) a0 a1:=B
def ags:C (n+1) 336 [a0,a1]=O6 F (C n) a0 a1:=B
def agt:C (n+1) 337 [a0,a1]=O7 F (C n) a0 a1:=B
def agu:C (n+1) 342 [a0]=O8 F (C n) a0:=B
def agv:C (n+1) 348 [a0]=O9 F (C n) a0:=B
def agw:C (n+1) 349 [a0]=Pa F (C n) a0:=B
def agx:C (n+1) 352 [a0,a1]=Pb F (C n) a0 a1:=B
def Yx:C (n+1) 357 [a0]=Kf F (C n) a0:=B
def agy:C (n+1) 364 [a0,a1]=Pc F (C n) a0 a1:=B
def agz:C (n+1) 365 [a0]=Pd F (C n) a0:=B
def agA:C (n+1) 385 [a0]=Pe F (C n) a0:=B
def Yy:C (n+1) 386 [a0,a1]=Kg F (C n) a0 a1:=B
def Yz:C (n+1) 392 [a0,a1]=Kh F (C n) a0 a1:=B
def agB:C (n+1) 393 [a0]=Pf F (C n) a0:=B
def Wb:C (n+1) 394 [a0]=H5 F (C n) a0:=B
def agC:C (n+1) 416 [a0,a1,a2,a3]=Pg F (C n) a0 a1 a2 a3:=B
def agD:C (n+1) 427 [a0]=Ph F (C n) a0:=B
def agE:C (n+1) 431 [a0,a1]=Pi F (C n) a0 a1:=B
def agF:C (n+1) 433 [a0,a1]=Pj F (C n) a0 a1:=B
def agG:C (n+1) 434 [a0,a1,a2]=Pm F (C n) a0 a1 a2:=B
def agH:C (n+1) 435 [a0,a1]=Pn F (C n) a0 a1:=B
def agI:C (n+1) 447 [a0]=Po F (C n) a0:=B
def agJ:C (n+1) 448 [a0]=Pp F (C n) a0:=B
def agK:C (n+1) 449 [a0]=Pq F (C n) a0:=B
def agL:C (n+1) 450 [a0,a1]=Pr F (C n) a0 a1:=B
def agM:C (n+1) 456 [a0,a1]=Ps F (C n) a0 a1:=B
def agN:C (n+1) 471 [a0,a1,a2,a3,a4]=Pu F (C n) a0 a1 a2 a3 a4:=B
def agO:C (n+1) 474 [a0,a1,a2,a3,a4]=Pv F (C n) a0 a1 a2 a3 a4:=B
def agP:C (n+1) 476 [a0,a1,a2,a3,a4,a5]=Pw F (C n) a0 a1 a2 a3 a4 a5:=B
def agQ:C (n+1) 479 [a0,a1,a2,a3,a4,a5,a6]=Px F (C n) a0 a1 a2 a3 a4 a5 a6:=B
def agR:C (n+1) 481 [a0,a1,a2,a3,a4]=Py F (C n) a0 a1 a2 a3 a4:=B
def YA:C (n+1) 483 [a0,a1,a2,a3,a4,a5,a6]=Ki F (C n) a0 a1 a2 a3 a4 a5 a6:=B
def agS:C (n+1) 485 [a0,a1]=Pz F (C n) a0 a1:=B
def agT:C (n+1) 486 [a0,a1,a2]=PA F (C n) a0 a1 a2:=B
def YB:C (n+1) 490 [a0,a1]=Kj F (C n) a0 a1:=B
def agU:C (n+1) 496 [a0]=PC F (C n) a0:=B
def agV:C (n+1) 497 [a0,a1,a2,a3,a4,a5]=PD F (C n) a0 a1 a2 a3 a4 a5:=B
def agW:C (n+1) 498 [a0,a1,a2]=PE F (C n) a0 a1 a2:=B
def agX:C (n+1) 499 [a0,a1]=PF F (C n) a0 a1:=B
def agY:C (n+1) 500 [a0,a1,a2]=PH F (C n) a0 a1 a2:=B
def agZ:C (n+1) 505 [a0,a1]=PI F (C n) a0 a1:=B
def ag0:C (n+1) 506 [a0,a1]=PJ F (C n) a0 a1:=B
def ag1:C (n+1) 507 [a0,a1,a2,a3]=PK F (C n) a0 a1 a2 a3:=B
def ag2:C (n+1) 508 [a0,a1]=PL F (C n) a0 a1:=B
def ag3:C (n+1) 509 [a0]=PM F (C n) a0:=B
def ag4:C (n+1) 510 [a0]=PN F (C n) a0:=B
def ag5:C (n+1) 516 [a0,a1,a2]=PO F (C n) a0 a1 a2:=B
def ag6:C (n+1) 517 [a0]=PP F (C n) a0:=B
def ag7:C (n+1) 519 [a0,a1,a2]=PQ F (C n) a0 a1 a2:=B
def ag8:C (n+1) 520 [a0,a1]=PR F (C n) a0 a1:=B
def ag9:C (n+1) 521 [a0,a1]=PS F (C n) a0 a1:=B
def aha:C (n+1) 530 [a0]=PT F (C n) a0:=B
def ahb:C (n+1) 531 [a0]=PU F (C n) a0:=B
def YC:C (n+1) 533 [a0,a1]=Kk F (C n) a0 a1:=B
def ahc:C (n+1) 534 [a0,a1]=PW F (C n) a0 a1:=B
def ahd:C (n+1) 535 [a0]=PX F (C n) a0:=B
def ahe:C (n+1) 536 [a0,a1]=PY F (C n) a0 a1:=B
def ahf:C (n+1) 537 [a0]=PZ F (C n) a0:=B
def ahg:C (n+1) 538 [a0]=P3 F (C n) a0:=B
def ahh:C (n+1) 546 [a0]=P4 F (C n) a0:=B
def YD:C (n+1) 547 [a0]=Kl F (C n) a0:=B
def ahi:C (n+1) 548 [a0,a1,a2]=P5 F (C n) a0 a1 a2:=B
def ahj:C (n+1) 549 [a0,a1]=P6 F (C n) a0 a1:=B
def ahk:C (n+1) 550 [a0,a1]=P7 F (C n) a0 a1:=B
def ahl:C (n+1) 551 [a0]=P8 F (C n) a0:=B
def ahm:C (n+1) 552 [a0]=TZ F (C n) a0:=B
def ahn:C (n+1) 563 [a0,a1,a2]=P9 F (C n) a0 a1 a2:=B
def aho:C (n+1) 564 [a0,a1]=Qa F (C n) a0 a1:=B
def ahp:C (n+1) 565 [a0,a1]=Qb F (C n) a0 a1:=B
def YE:C (n+1) 566 [a0,a1]=Km F (C n) a0 a1:=B
def ahq:C (n+1) 567 [a0]=Qc F (C n) a0:=B
def ahr:C (n+1) 572 [a0]=Qd F (C n) a0:=B
def ahs:C (n+1) 573 [a0,a1,a2]=Qe F (C n) a0 a1 a2:=B
def aht:C (n+1) 580 [a0,a1,a2]=Qf F (C n) a0 a1 a2:=B
def ahu:C (n+1) 581 [a0]=Qg F (C n) a0:=B
def ahv:C (n+1) 582 [a0,a1]=Qh F (C n) a0 a1:=B
end
end Sy
end
noncomputable section
namespace Geo
section
variable{a c y z:Nat}{l:List Nat}{S:Nat->Nat->Prop}
structure V where
 x:Int
 y:Int
 z:Int
deriving DecidableEq
namespace V
def sub(a b:V):V:=⟨a.x-b.x,a.y-b.y,a.z-b.z⟩
def neg(a:V):V:=⟨-a.x,-a.y,-a.z⟩
def add(a b:V):V:=⟨a.x+b.x,a.y+b.y,a.z+b.z⟩
def smul(k:Int)(a:V):V:=⟨k*a.x,k*a.y,k*a.z⟩
def dot(a b:V):Int:=a.x*b.x+a.y*b.y+a.z*b.z
def cross(a b:V):V:=⟨a.y*b.z-a.z*b.y,a.z*b.x-a.x*b.z,a.x*b.y-a.y*b.x⟩
def zero:V:=⟨0,0,0⟩
def ext'{a b:V}(h1:a.x=b.x)(c:a.y=b.y)(d:a.z=b.z):a=b:=by cases a;cases b;simp_all
end V
open V
def FU{a:Int}(h:a≠0):0<a*a:=by
 rcases Int.lt_or_lt_of_ne h with h|h
 ·exact zdc h h
 ·exact zCb h h
def oa(a:Int):0<=a*a:=by
 rcases zQb a 0 with h|h|h
 ·exact zWa (zdc h h)
 ·simp_all
 ·exact zWa (zCb h h)
theorem uA(a:V):0<=dot a a:=by have:=oa a.x;have:=oa a.y;have:=oa a.z;grind [dot]
def yj{a:V}(h:dot a a=0):a=zero:=by
 have h1:=oa a.x;have e:=oa a.y;have f:=oa a.z;simp only[dot] at h;have b:a.x*a.x=0:=u0
 have c:a.y*a.y=0:=u0
 have d:a.z*a.z=0:=u0
 apply V.ext'<;>simp only[zero]<;>(first|(rcases zMc.1 b with h|h<;>exact h)|(rcases zMc.1 c with h|h<;>exact h)|(rcases zMc.1 d with h|h<;>exact h))
def bR{a:V}(h:a≠zero):0<dot a a:=by
 have:=uA a;rcases zBb this with h1|h1
 ·exact h1
 ·exact zgb (yj h1.symm) h
def T(n u v:V):Int:=dot n (cross u v)
def xo{a b:Int}(d:0<a)(h:0<a*b):0<b:=by
 rcases zQb b 0 with c|c|c
 ·have:=zIb d c;omega
 ·simp_all
 ·exact c
def zI{a b:Int}(d:0<a)(h:0<=a*b):0<=b:=by
 rcases zvc b 0 with c|c
 ·have:=zIb d c;omega
 ·exact c
def bQ{a b:Int}(c:0<a)(h:a*b=0):b=0:=by
 rcases zMc.1 h with h|h
 ·omega
 ·exact h
section plane
variable{n:V}(hn:n≠zero)
include hn
theorem HB(f:V){u v w:V}(hu:dot n u=0)(a:dot n v=0)(hw:dot n w=0) :
  dot f u*T n v w+dot f v*T n w u+dot f w*T n u v=0:=by
 have h:dot n n*(dot f u*T n v w+dot f v*T n w u+dot f w*T n u v)=0:=by simp only[T,dot,cross] at *;grind
 exact bQ (bR hn) h
theorem Gr{f u v w:V}(hu:dot n u=0)(d:dot n v=0)(hw:dot n w=0)(a:0<dot f u)(fv:0<dot f v)(b:0<dot f w)
  (h1:0<=T n u v) (c:0<=T n v w):0<=T n u w/\(0<T n u v\/0<T n v w->0<T n u w):=by
 have p:=HB hn f hu d hw;have e:T n w u=- T n u w:=by simp only[T,dot,cross];grind
 rw[e] at p;have q:dot f v*T n u w=dot f u*T n v w+dot f w*T n u v:=by grind
 have q1:=zWb (zWa a) c;have g:=zWb (zWa b) h1;refine⟨zI fv u0,λh=>xo fv ?_⟩
 rcases h with h|h
 ·have:=zCb b h;omega
 ·have:=zCb a h;omega
theorem ft{u v:V}(hu:dot n u=0)(d:dot n v=0)(h:T n u v=0):cross u v=zero:=by
 have hp:=bR hn;have a:dot n n*(cross u v).x=T n u v*n.x:=by simp only[T,dot,cross] at *;grind
 have b:dot n n*(cross u v).y=T n u v*n.y:=by simp only[T,dot,cross] at *;grind
 have c:dot n n*(cross u v).z=T n u v*n.z:=by simp only[T,dot,cross] at *;grind
 rw[h,zKc] at a b c;exact V.ext' (bQ hp a) (bQ hp b) (bQ hp c)
end plane
theorem RA{u v:V}(h:cross u v=zero)(f:V):smul (dot f u) v=smul (dot f v) u:=by
 have h1:(cross u v).x=0:=by rw[h];rfl
 have a:(cross u v).y=0:=by rw[h];rfl
 have b:(cross u v).z=0:=by rw[h];rfl
 grind [cross,smul,dot]
theorem MI{u v:V}(h:cross u v=zero)(hu:u≠zero)(a:dot v u=dot u u):v=u:=by
 have p:=RA h u;have e:dot u v=dot v u:=by simp only[dot];grind
 have hp:=bR hu;rw[e,a] at p;have p1:dot u u*(v.x-u.x)=0:=by grind [smul]
 have b:dot u u*(v.y-u.y)=0:=by grind [smul]
 have c:dot u u*(v.z-u.z)=0:=by grind [smul]
 have:=bQ hp p1;have:=bQ hp b;have:=bQ hp c;exact V.ext' u0 u0 u0
theorem j7{α:Type}(φ:α->Int):∀ l:List α,∃ N:Int,0<N/\∀ x∈l,-N<φ x/\φ x<N
 | []=>⟨1,H,j2⟩
 | a::l=>by
  obtain⟨N,h0,h⟩:=j7 φ l;refine⟨N+(φ a).natAbs+1,u0,λx hx=>?_⟩
  all_goals grind
def M(P:Nat->V)(a x:Nat):V:=sub (P x) (P a)
structure Side(n:V)(P:Nat->V)(on:List Nat)(a b:Nat):Prop where
 mem:b∈on
 ne:b≠a
 all:∀ x∈on,0<=T n (M P a b) (M P a x)/\(T n (M P a b) (M P a x)=0->0<=dot (M P a x) (M P a b)/\dot (M P a x) (M P a b)<=dot (M P a b) (M P a b))
def oh(P:Nat->V)(on:List Nat)(a:Nat):Prop:=∃ f:V,∀ x∈on,x≠a->0<dot f (M P a x)
structure Flat(n:V)(P:Nat->V)(on:List Nat):Prop where
 nz:n≠zero
 pl:∀ x∈on,∀ y∈on,dot n (M P x y)=0
 inj:∀ x∈on,∀ y∈on,P x=P y->x=y
section poly
variable{n:V}{P:Nat->V}{on:List Nat}
def uZ(h:Flat n P on){b:Nat}(i:a∈on)(j:b∈on)(c:b≠a):M P a b≠zero:=λe=>by apply c;apply h.inj b j a i;have d:=zIa V.x e;have f:=zIa V.y e;have g:=zIa V.z e;simp only[M,sub,zero] at d f g;exact V.ext' u0 u0 u0
def NL{b:Nat}(h:M P a b=M P a c):P b=P c:=by have d:=zIa V.x h;have e:=zIa V.y h;have f:=zIa V.z h;simp only[M,sub] at d e f;exact V.ext' u0 u0 u0
theorem ak4(h:Flat n P on){b:Nat}(f:a∈on)(d:Side n P on a b)(hc:Side n P on a c):b=c:=by
 have h1:=d.all c hc.mem;have j:=hc.all b d.mem;have e:T n (M P a c) (M P a b)=- T n (M P a b) (M P a c):=by simp only[T,dot,cross];grind
 rw[e] at j;have t0:T n (M P a b) (M P a c)=0:=u0
 have k:=h1.2 t0;have l:=j.2 u0
 have es:dot (M P a b) (M P a c)=dot (M P a c) (M P a b):=by simp only[dot];grind
 have hx:=ft h.nz (h.pl a f b d.mem) (h.pl a f c hc.mem) t0;have hq:dot (M P a b) (M P a b)*dot (M P a c) (M P a c)=dot (M P a c) (M P a b)*dot (M P a c) (M P a b):=by have p:=RA hx (M P a b);grind [smul,dot]
 have m:=bR (uZ h f d.mem d.ne);have g:=bR (uZ h f hc.mem hc.ne);have hle:dot (M P a c) (M P a b)=dot (M P a b) (M P a b):=by
  generalize dot (M P a b) (M P a b)=B at *;generalize dot (M P a c) (M P a c)=C at *;generalize dot (M P a c) (M P a b)=X at *;rw[es] at l;rcases zBb k.2 with i|heq
  ·exfalso;have:X*X<B*C:=by
    have a1:=zvb l.2 k.1;have a2:=Int.mul_lt_mul_of_pos_right i g;omega
   omega
  ·exact heq
 have:=MI hx (uZ h f d.mem d.ne) hle;exact(h.inj c hc.mem b d.mem (NL this)).symm
theorem Side.ext(h:Flat n P on){b:Nat}(d:a∈on)(c:Side n P on a b):oh P on b:=by
 obtain⟨N,m,hN⟩:=j7 (λx=>dot (M P b a) (M P b x)) on;refine⟨add (smul N (cross n (M P a b))) (M P b a),λx hx g=>?_⟩;have e:dot (add (smul N (cross n (M P a b))) (M P b a)) (M P b x)=N*T n (M P a b) (M P a x)+dot (M P b a) (M P b x):=by simp only[T,dot,cross,add,smul,M,sub];grind
 rw[e];obtain⟨h1,k⟩:=c.all x hx;have p:=hN x hx;rcases zBb h1 with o|heq
 ·have:N*1<=N*T n (M P a b) (M P a x):=zvb u0 u0
  omega
 ·rw[<-heq,znd,zuc];have l:=k heq.symm;have j:dot (M P b a) (M P b x)=dot (M P a b) (M P a b)-dot (M P a x) (M P a b):=by simp only[dot,M,sub];grind
  rw[j];rcases zBb l.2 with i|i
  ·omega
  ·exfalso;have f:=ft h.nz (h.pl a d b c.mem) (h.pl a d x hx) heq.symm;exact g (h.inj x hx b c.mem (NL (MI f (uZ h d c.mem c.ne) i)))
theorem akB(h:Flat n P on){x:Nat}(i:a∈on)(hx:x∈on)(q:y∈on)(v:oh P on a)(ex:oh P on x)(w:oh P on y)(d:x≠a)(e:y≠a)(ht:T n (M P a x) (M P a y)=0):x=y:=by
 by_cases hxy:x=y
 ·exact hxy
 exfalso;obtain⟨f,t⟩:=v;obtain⟨g,u⟩:=ex;obtain⟨k,hk⟩:=w;have c:=ft h.nz (h.pl a i x hx) (h.pl a i y q) ht;have p:=RA c f;have C:=t x hx d;have s:=t y q e;have g1:=u a i (Ne.symm d);have g2:=u y q (Ne.symm hxy);have E:=hk a i (Ne.symm e);have F:=hk x hx hxy;have q1:dot f (M P a x)*dot g (M P a y)=dot f (M P a y)*dot g (M P a x):=by grind [smul,dot]
 have I:dot f (M P a x)*dot k (M P a y)=dot f (M P a y)*dot k (M P a x):=by have p1:=zIa V.x p;have G:=zIa V.y p;have H:=zIa V.z p;simp only[smul] at p1 G H;generalize dot f (M P a x)=A at *;generalize dot f (M P a y)=B at *;simp only[dot];grind
 have j:dot g (M P x a)=- dot g (M P a x):=by simp only[dot,M,sub];grind
 have l:dot g (M P x y)=dot g (M P a y)-dot g (M P a x):=by simp only[dot,M,sub];grind
 have m:dot k (M P y a)=- dot k (M P a y):=by simp only[dot,M,sub];grind
 have o:dot k (M P y x)=dot k (M P a x)-dot k (M P a y):=by simp only[dot,M,sub];grind
 rw[j] at g1;rw[l] at g2;rw[m] at E;rw[o] at F;generalize dot f (M P a x)=A at *;generalize dot f (M P a y)=B at *;generalize dot g (M P a x)=Y at *;generalize dot g (M P a y)=D at *;generalize dot k (M P a x)=r at *;generalize dot k (M P a y)=b at *;have r1:B<A:=by
  rcases zvc B A with hh|hh
  ·exact hh
  ·exfalso;have s1:B*Y<=A*Y:=by
    simp_all
   have s2:A*Y<A*D:=zSc u0 C
   omega
 have K:A*b<B*b:=by
  have J:B*b<B*r:=zSc u0 s
  have L:A*b=B*r:=I;have Q:A*b<=B*b:=by
   have:=Int.mul_le_mul_of_nonneg_right (zWa r1) (show 0<=-b by omega)
   grind
  omega
 have J:B*b<B*r:=zSc u0 s
 omega
theorem Yn(a x y:Nat):T n (M P x y) (M P x a)=T n (M P a x) (M P a y):=by grind [T,dot,cross,M,sub]
theorem TL(u v:V):T n v u=- T n u v:=by simp only[T,dot,cross];grind
def Side.after(h:Flat n P on){x:Nat}(f:a∈on)(hx:x∈on)(g:oh P on a)(ex:oh P on x)(d:x≠a)(b:Side n P on x y)(e:y≠a):0<T n (M P a x) (M P a y):=by
 have h1:=(b.all a f).1;rw[Yn] at h1;rcases zBb h1 with c|c
 ·exact c
 ·exact zgb (akB h f hx b.mem g ex (b.ext h hx) d e c.symm) b.ne.symm
theorem Qv(h:Flat n P on){x:Nat}(l:a∈on)(hx:x∈on)(b:z∈on)(d:Side n P on x y)(q:oh P on z)(h1:0<T n (M P a x) (M P a z))(k:0<T n (M P a z) (M P a y)):False:=by
 obtain⟨f,c⟩:=q;have g:a≠z:=λe=>by subst e;simp[T,dot,cross,M,sub] at k
 have i:x≠z:=λe=>by grind [T,dot,cross]
 have j:y≠z:=λe=>by grind [T,dot,cross]
 have f1:=c a l g;have f2:=c x hx i;have f3:=c y d.mem j;have r:=(d.all z b).1;have e:dot n n*(T n (M P x y) (M P x z)*dot f (M P z a)+T n (M P a z) (M P a y)*dot f (M P z x)+T n (M P a x) (M P a z)*dot f (M P z y))=0:=by
  have p1:=h.pl z b a l;have s:=h.pl z b x hx;have t:=h.pl z b y d.mem;have m:T n (M P x y) (M P x z)=T n (M P z x) (M P z y):=Yn z x y;have o:T n (M P a z) (M P a y)=T n (M P z y) (M P z a):=by simp only[T,dot,cross,M,sub];grind
  have p:T n (M P a x) (M P a z)=T n (M P z a) (M P z x):=by simp only[T,dot,cross,M,sub];grind
  rw[m,o,p];have v:=HB h.nz f p1 s t;grind
 have u:=bQ (bR h.nz) e;have m1:=zWb r (zWa f1);have G:=zCb k f2;have m3:=zCb h1 f3;omega
theorem yQ{α:Type}{p q:α->Bool}:∀ {l:List α},(∀ x∈l,p x=true->q x=true)->(∃ y∈l,q y=true/\p y=false)->l.countP p<l.countP q
 | [],_,h=>by simp_all
 | a::l,h,c=>by
  have hl:l.countP p<=l.countP q:=by have b:∀ x∈l,p x=true->q x=true:=λx hx=>h x (zsa _ hx);exact List.countP_mono_left b
  have d:=h a zBa;rw[List.countP_cons,List.countP_cons];obtain⟨y,hm,hq,hp⟩:=c;rcases zOa.1 hm with rfl|hm
  ·grind
  ·have:=yQ (l:=l) (λx hx=>h x (zsa _ hx)) ⟨y,hm,hq,hp⟩;all_goals grind
inductive Chain(S:Nat->Nat->Prop)(a₀:Nat):Nat->List Nat->Prop
 | done {c:Nat}:S c a₀->Chain S a₀ c [c]
 | step {c y:Nat} {l:List Nat}:S c y->y≠a₀->Chain S a₀ y l->Chain S a₀ c (c::l)
theorem walk(h:Flat n P on)(p:a∈on)(w:oh P on a)(j:∀ c∈on,oh P on c->∃ b,Side n P on c b)(hc:c∈on)(t:oh P on c)(q:c≠a) :
  ∃ l,Chain (Side n P on) a c l/\(∀ z∈l,z∈on/\oh P on z/\z≠a/\(z=c\/0<T n (M P a c) (M P a z)))/\(∀ z∈on,oh P on z->z≠a->0<T n (M P a c) (M P a z)->z∈l) ∧
   l.Pairwise (λx y=>0<T n (M P a x) (M P a y)):=by
 generalize hm:on.countP (λz=>decide (0<T n (M P a c) (M P a z)))=m
 induction m using Nat.strongRecOn generalizing c with
 | _ m ih=>
  obtain⟨y,g⟩:=j c hc t;obtain⟨f,r⟩:=w;by_cases hya:y=a
  ·subst hya;refine⟨[c],.done g,λz d=>?_,λz d s i ht=>?_,j2⟩
   ·simp_all
   ·have h1:=(g.all z d).1;have e:T n (M P c y) (M P c z)=- T n (M P y c) (M P y z):=by simp only[T,dot,cross,M,sub];grind
    omega
  ·have k:=Side.after h p hc ⟨f,r⟩ t q g hya;have u:=g.ext h hc;have tr:∀ z∈on,0<T n (M P a y) (M P a z)->0<T n (M P a c) (M P a z):=λz d ht=>by
    have i:z≠a:=λe=>by simp_all [T,dot,cross,M,sub]
    exact(Gr h.nz (h.pl a p c hc) (h.pl a p y g.mem) (h.pl a p z d) (r c hc q) (r y g.mem hya) (r z d i) (zWa k) (zWa ht)).2 (.inl k)
   have o:T n (M P a y) (M P a y)=0:=by simp only[T,dot,cross];grind
   obtain⟨l,v,D,E,C⟩:=ih _ (by rw[<-hm];refine yQ (λz d ht=>by simp only[zea] at ht ⊢;exact tr z d ht) ⟨y,g.mem,by simpa using k,by simp[o]⟩) g.mem u hya rfl
   refine⟨c::l,.step g hya v,λz d=>?_,λz d s i ht=>?_,zNa.2 ⟨λz d=>?_,C⟩⟩
   ·grind
   ·rcases zQb (T n (M P a y) (M P a z)) 0 with B|heq|A
    ·have e:=TL (n:=n) (M P a y) (M P a z);exact(Qv h p hc d g s ht u0).elim
    ·have:=akB h p g.mem d ⟨f,r⟩ u s hya i heq;subst this;have:y∈l:=by cases v<;>exact zBa
     simp_all
    ·simp_all
   ·grind
def to(n:V)(P:Nat->V)(a b k:Nat):Bool:=
 decide (T n (M P a b) (M P a k)<0)||(decide (T n (M P a b) (M P a k)=0)&&decide (dot (M P a b) (M P a b)<dot (M P a k) (M P a k)))
def dU(n:V)(P:Nat->V)(a:Nat)(best:Option Nat)(k:Nat):Option Nat:=
 if k=a then best else match best with
  | none=>some k
  | some b=>if to n P a b k then some k else some b
theorem uN(h:Flat n P on)(j:a∈on)(s:oh P on a):∀ (l pre:List Nat) (best:Option Nat),(∀ x∈pre,x∈on)->(∀ x∈l,x∈on) ->
  (match best with
   | none=>∀ x∈pre,x=a
   | some b=>b∈pre/\b≠a/\∀ x∈pre,x≠a->0<T n (M P a b) (M P a x)\/(T n (M P a b) (M P a x)=0/\dot (M P a x) (M P a x)<=dot (M P a b) (M P a b))) ->
  match l.foldl (dU n P a) best with
   | none=>∀ x∈pre++l,x=a
   | some b=>b∈pre++l/\b≠a/\∀ x∈pre++l,x≠a->0<T n (M P a b) (M P a x)\/(T n (M P a b) (M P a x)=0/\dot (M P a x) (M P a x)<=dot (M P a b) (M P a b))
 | [],pre,best,_,_,e=>by simpa using e
 | k::l,pre,best,h1,t,e=>by
  rw[zzc];have hk:=t k zBa;rw[show pre++k::l=(pre++[k])++l by simp]
  refine uN h j s l (pre++[k]) _ (λx hx=>?_) (λx hx=>t x (zsa _ hx)) ?_
  ·rcases zKa.1 hx with hx|hx
   ·exact h1 x hx
   ·rw[zUa] at hx;exact hx ▸ hk
  unfold dU;by_cases hka:k=a
  ·rw[zla hka];subst hka;cases best with
   | none=>
    simp only at e ⊢;intro x hx;rcases zKa.1 hx with hx|hx
    ·exact e x hx
    ·exact zUa.1 hx
   | some b=>
    simp only at e ⊢;refine⟨List.mem_append_left _ e.1,e.2.1,λx hx d=>?_⟩;rcases zKa.1 hx with hx|hx
    ·exact e.2.2 x hx d
    ·exact zgb (zUa.1 hx) d
  ·rw[zia hka];cases best with
   | none=>
    simp only at e ⊢;refine⟨z9a _ (zUa.2 rfl),hka,λx hx d=>?_⟩;rcases zKa.1 hx with hx|hx
    ·exact zgb (e x hx) d
    ·rw[zUa.1 hx];right;exact⟨by simp only[T,dot,cross];grind,Int.le_refl _⟩
   | some b=>
    simp only at e ⊢;obtain⟨b1,b2,r⟩:=e;have g:=h1 b b1;obtain⟨f,m⟩:=s;by_cases hbt:to n P a b k=true
    ·rw[zla hbt];simp only;refine⟨z9a _ (zUa.2 rfl),hka,λx hx d=>?_⟩;have u:=TL (n:=n) (M P a b) (M P a k);simp only[to,zFb,X,zea] at hbt;rcases zKa.1 hx with hx|hx
     ·have i:=h1 x hx;have c:=r x hx d;have p:0<=T n (M P a k) (M P a b):=u0
      have q:0<=T n (M P a b) (M P a x):=u0
      obtain⟨t1,t2⟩:=Gr h.nz (h.pl a j k hk) (h.pl a j b g) (h.pl a j x i) (m k hk hka) (m b g b2) (m x i d) p q;rcases zBb t1 with o|heq
      ·exact .inl o
      ·right;refine⟨heq.symm,?_⟩;have:¬ (0<T n (M P a k) (M P a b)\/0<T n (M P a b) (M P a x)):=λhh=>by have:=t2 hh;omega
       omega
     ·rw[zUa.1 hx];right;exact⟨by simp only[T,dot,cross];grind,Int.le_refl _⟩
    ·rw[zia hbt];simp only;refine⟨List.mem_append_left _ b1,b2,λx hx d=>?_⟩;rcases zKa.1 hx with hx|hx
     ·exact r x hx d
     ·rw[zUa.1 hx];simp only[to,zFb,X,zea] at hbt;omega
theorem zH(h:Flat n P on)(l:a∈on)(q:oh P on a)(t:∃ x∈on,x≠a):∃ b,on.foldl (dU n P a) none=some b/\Side n P on a b:=by
 have key:=uN h l q on [] none j2 (λx hx=>hx) j2
 cases hr:on.foldl (dU n P a) none with
 | none=>
  rw[hr] at key;obtain⟨x,hx,d⟩:=t
  simp_all
 | some b=>
  rw[hr] at key;simp only[z4b] at key;obtain⟨m,o,u⟩:=key;refine⟨b,rfl,m,o,λx hx=>?_⟩;by_cases d:x=a
  ·subst d;have e:M P x x=zero:=by simp[M,sub,zero]
   have:T n (M P x b) (M P x x)=0:=by rw[e];simp[T,dot,cross,zero]
   have hp:=uA (M P x b);have v:dot (M P x x) (M P x b)=0:=by rw[e];simp[dot,zero]
   omega
  ·have c:=u x hx d;refine⟨u0,λt0=>?_⟩
   have c2:dot (M P a x) (M P a x)<=dot (M P a b) (M P a b):=u0
   obtain⟨f,r⟩:=q;have k:=ft h.nz (h.pl a l b m) (h.pl a l x hx) t0;have p:=RA k f;have fb:=r b m o;have s:=r x hx d;have i:=bR (uZ h l m o);have q1:dot f (M P a b)*dot (M P a x) (M P a b)=dot f (M P a x)*dot (M P a b) (M P a b):=by grind [smul,dot]
   have g:=xo fb (by rw[q1];exact zCb s i)
   refine⟨zWa g,?_⟩;have w:dot (M P a b) (M P a b)*dot (M P a x) (M P a x)=dot (M P a x) (M P a b)*dot (M P a x) (M P a b):=by have p:=RA k (M P a b);grind [smul,dot]
   generalize dot (M P a b) (M P a b)=B at *;generalize dot (M P a x) (M P a x)=X at *;generalize dot (M P a x) (M P a b)=D at *;rcases zvc B D with j|hle
   ·exfalso;have a1:=zvb c2 (zWa i);have a2:=zSc j i;have a3:=Int.mul_lt_mul_of_pos_right j g;omega
   ·exact hle
end poly
open V
def aP(a b:V):Prop:=a.x<b.x\/a.x=b.x/\(a.y<b.y\/a.y=b.y/\a.z<b.z)
theorem Iu{P:Nat->V}{on:List Nat}(h:∀ x∈on,x≠a->aP (P a) (P x)):oh P on a:=by
 obtain⟨N1,p1,b1⟩:=j7 (λx=>(M P a x).y) on;obtain⟨N2,m,b2⟩:=j7 (λx=>(M P a x).z) on;refine⟨⟨(N1+N2)*(N1+N2)+(N1+N2),N1+N2,1⟩,λx hx f=>?_⟩;have c1:=b1 x hx;have c2:=b2 x hx;have hl:=h x hx f;simp only[M,sub,aP,dot] at *;generalize hX:(P x).x-(P a).x=X at *;generalize hY:(P x).y-(P a).y=Y at *;generalize hZ:(P x).z-(P a).z=Z at *;generalize hN:N1+N2=N;have b:0<N:=u0
 have d:-N+1<=Y:=u0
 have j:Y<=N-1:=u0
 have k:-N+1<=Z:=u0
 have m1:=zvb d (zWa b);have G:N*(-N+1)=-(N*N)+N:=s6
 have g:=zCb b b;rcases hl with hl|⟨h1,hl|⟨l,hl⟩⟩
 ·have c:1<=X:=u0
  have m3:(N*N+N)*1<=(N*N+N)*X:=zvb c u0
  omega
 ·have i:X=0:=u0
  have e:1<=Y:=u0
  have m3:N*1<=N*Y:=zvb e u0
  grind
 ·grind
section poly
variable{n:V}{P:Nat->V}{on:List Nat}
def Chain.head(h:Chain S a c l):∃ l',l=c::l':=by cases h<;>exact⟨_,rfl⟩
theorem Chain.pairs:∀ {c:Nat} {l:List Nat},Chain S a c l->∀ i x,l[i]?=some x->∃ y,(l++[a])[i+1]?=some y/\S x y
 | c,_,.done h,i,x,hx=>by all_goals grind
 | c,_,.step (y:=y) (l:=l) h hne k,i,x,hx=>by
  cases i with
  | zero=>
   simp at hx;subst hx;obtain⟨l',rfl⟩:=k.head
   simp_all
  | succ i=>
   obtain⟨z,h1,b⟩:=Chain.pairs k i x (by simpa using hx)
   simp_all
theorem Fw(h:Flat n P on)(i:a∈on)(j:oh P on a)(p:∀ c∈on,∃ x∈on,x≠c) :
  ∃ l,Chain (Side n P on) a a l/\l.Nodup/\(∀ z∈l,z∈on/\oh P on z)/\∀ z∈on,oh P on z->z∈l:=by
 have d:∀ c∈on,oh P on c->∃ b,Side n P on c b:=λc hc g=>by obtain⟨b,_,t⟩:=zH h hc g (p c hc);grind
 obtain⟨c,f⟩:=d a i j;have g:=f.ext h i;obtain⟨l,m,r,u,s⟩:=walk h i j d f.mem g f.ne;refine⟨a::l,.step f f.ne m,List.nodup_cons.2 ⟨λhm=>(r a hm).2.2.1 rfl,?_⟩,λz k=>?_,λz k o=>?_⟩
 ·refine List.Pairwise.imp (λ{x y} q e=>?_) s;grind [T,dot,cross]
 ·grind
 ·by_cases hza:z=a
  ·simp_all
  ·refine zsa _ ?_;have h0:=(f.all z k).1;rcases zBb h0 with hp|he
   ·simp_all
   ·have:=akB h i f.mem k j g o f.ne hza he.symm;subst this;obtain⟨l',rfl⟩:=m.head
    simp_all
end poly
def sg(x:Int):Int:=if x<0 then -1 else if 0<x then 1 else 0
def xC(a b:Int):sg a*sg b=sg (a*b):=by
 rcases zQb a 0 with h|h|h<;>rcases zQb b 0 with k|k|k
 ·have:=zdc h k;simp[sg,h,k,this,zAc.2 (zWa this)]
 ·subst k;simp[sg]
 ·have:=Int.mul_neg_of_neg_of_pos h k;simp[sg,h,k,this,zAc.2 (zWa k)]
 ·subst h;simp[sg]
 ·subst h;simp[sg]
 ·subst h;simp[sg]
 ·have:=zIb h k;simp[sg,h,k,this,zAc.2 (zWa h)]
 ·subst k;simp[sg]
 ·have:=zCb h k;simp[sg,h,k,this,zAc.2 (zWa h),zAc.2 (zWa k),zAc.2 (zWa this)]
def gQ{x:Int}(h:0<x):sg x=1:=by simp[sg,h,zAc.2 (zWa h)]
def FO{x:Int}(h:x<0):sg x=-1:=by simp[sg,h]
def zo(n c:V):Int:=if n.x≠0 then sg n.x*sg c.x else if n.y≠0 then sg n.y*sg c.y else if n.z≠0 then sg n.z*sg c.z else 0
def xD{a b p:Int}(hp:0<p){q:Int}(hq:0<q)(h:a*p=q*b):sg a=sg b:=by
 have h1:sg (a*p)=sg a:=by rw[<-xC,gQ hp];simp
 have c:sg (q*b)=sg b:=by rw[<-xC,gQ hq];simp
 simp_all
theorem Hi{n c:V}(hn:n≠zero)(h:cross n c=zero):zo n c=sg (dot n c):=by
 have h1:=zIa V.x h;have e:=zIa V.y h;have f:=zIa V.z h;simp only[cross,zero] at h1 e f;have hp:=bR hn;have a:n.x*c.x*dot n n=n.x*n.x*dot n c:=by simp only[dot];grind
 have b:n.y*c.y*dot n n=n.y*n.y*dot n c:=by simp only[dot];grind
 have d:n.z*c.z*dot n n=n.z*n.z*dot n c:=by simp only[dot];grind
 unfold zo;split
 ·rename_i k;rw[xC];exact xD hp (FU k) a
 ·split
  ·rename_i k;rw[xC];exact xD hp (FU k) b
  ·split
   ·rename_i k;rw[xC];exact xD hp (FU k) d
   ·rename_i g i j;exact zgb (V.ext' (by simpa [zero] using g) (by simpa [zero] using i) (by simpa [zero] using j)) hn
theorem lv{n u v:V}(hu:dot n u=0)(a:dot n v=0):cross n (cross u v)=zero:=by grind [dot,cross,zero]
open V
def bU(P:Nat->V)(N:Nat)(n:V)(d:Int):List Nat:=(List.range N).filter λk=>decide (dot n (P k)=d)
def Ey(P:Nat->V)(N:Nat)(n:V)(d:Int):Prop:=(∀ k,k<N->dot n (P k)<=d)/\∃ k,k<N/\dot n (P k)<d
def gq(P:Nat->V)(i j k:Nat):V:=cross (M P i j) (M P i k)
def br(v:V):Nat:=Nat.gcd (Nat.gcd v.x.natAbs v.y.natAbs) v.z.natAbs
def aS(v:V):V:=⟨v.x/br v,v.y/br v,v.z/br v⟩
structure IsF(P:Nat->V)(N:Nat)(n:V)(d:Int):Prop where
 ex:∃ i j k,i<j/\j<k/\k<N/\gq P i j k≠zero/\(n=aS (gq P i j k)\/n=neg (aS (gq P i j k)))/\d=dot n (P i)
 supp:Ey P N n d
def jZ{v:V}(h:v≠zero):0<br v:=by
 rcases zKb (br v) with e|p
 ·exfalso;unfold br at e;rw[Nat.gcd_eq_zero_iff,Nat.gcd_eq_zero_iff] at e;exact h (V.ext' (by simp[zero];omega) (by simp[zero];omega) (by simp[zero];omega))
 ·exact p
def j9(v:V):v=smul (br v) (aS v):=by
 have d1:(br v:Int) ∣ v.x:=zfb.2 (zCc (zhb _ _) (zhb _ _));have d2:(br v:Int) ∣ v.y:=zfb.2 (zCc (zhb _ _) (zpb _ _));have d3:(br v:Int) ∣ v.z:=zfb.2 (zpb _ _);apply V.ext'
 ·exact(zUc d1).symm
 ·exact(zUc d2).symm
 ·exact(zUc d3).symm
def tR(k:Nat)(v:V):br (smul k v)=k*br v:=by simp_all [br,smul,zwa,zha,Nat.gcd_mul_left]
def zf{v:V}(h:v≠zero):br (aS v)=1:=by have p:=jZ h;have e:=tR (br v) (aS v);rw[<-j9 v] at e;exact(Nat.eq_of_mul_eq_mul_left p u0).symm
def CO(v:V):br (neg v)=br v:=by simp[br,neg]
theorem DF(v:V):aS (neg v)=neg (aS v):=by have e:=j9 v;unfold aS;rw[CO];have d1:(br v:Int) ∣ v.x:=zfb.2 (zCc (zhb _ _) (zhb _ _));have d2:(br v:Int) ∣ v.y:=zfb.2 (zCc (zhb _ _) (zpb _ _));have d3:(br v:Int) ∣ v.z:=zfb.2 (zpb _ _);simp only[neg,z0c d1,z0c d2,z0c d3]
def vI{v:V}(h:v≠zero):aS v≠zero:=λe=>h (by rw[j9 v,e];apply V.ext'<;>simp[smul,zero])
def MP{u v:V}(hu:br u=1)(k:br v=1){a b:Int}(i:0<a)(j:0<b)(h:smul a u=smul b v):u=v:=by
 obtain⟨a,rfl⟩:=zDc (zWa i);obtain⟨b,rfl⟩:=zDc (zWa j);have e:=tR a u;have g:=tR b v;rw[h,g,hu,k] at e;have:a=b:=u0
 subst this;have h1:=zIa V.x h;have d:=zIa V.y h;have f:=zIa V.z h;simp only[smul] at h1 d f;have c:(a:Int)≠0:=u0
 exact V.ext' (Int.eq_of_mul_eq_mul_left c h1) (Int.eq_of_mul_eq_mul_left c d) (Int.eq_of_mul_eq_mul_left c f)
section
variable{P:Nat->V}{N:Nat}
def IsF.nz{n:V}{d:Int}(h:IsF P N n d):n≠zero/\br n=1:=by
 obtain⟨i,j,k,_,_,_,h1,a|a,_⟩:=h.ex
 ·subst a;exact⟨vI h1,zf h1⟩
 ·subst a;refine⟨λe=>vI h1 ?_,by rw[CO];exact zf h1⟩
  have b:=zIa V.x e;have c:=zIa V.y e;have f:=zIa V.z e;simp only[neg,zero] at b c f;exact V.ext' (by simp only[zero];omega) (by simp only[zero];omega) (by simp only[zero];omega)
def bc{n:V}{d:Int}{k:Nat}:k∈bU P N n d↔k<N/\dot n (P k)=d:=by simp[bU]
theorem fd(n:V)(i k:Nat):dot n (M P i k)=dot n (P k)-dot n (P i):=by simp only[dot,M,sub];grind
theorem IsF.three{n:V}{d:Int}(h:IsF P N n d):∃ i j k,i<j/\j<k/\k<N/\i∈bU P N n d/\j∈bU P N n d/\k∈bU P N n d/\gq P i j k≠zero:=by
 obtain⟨i,j,k,a,b,hk,h1,m,o⟩:=h.ex;have g:=jZ h1;have e:=j9 (gq P i j k);have t1:dot (gq P i j k) (M P i j)=0:=by simp only[gq,dot,cross];grind
 have t2:dot (gq P i j k) (M P i k)=0:=by simp only[gq,dot,cross];grind
 have key:∀ v:V,dot (gq P i j k) v=0->dot n v=0:=λv c=>by
  rw[e] at c;have:(br (gq P i j k):Int)*dot (aS (gq P i j k)) v=0:=by rw[<-c];simp only[dot,smul];grind
  have h0:=bQ u0 this
  all_goals grind [dot,neg]
 have f:=key _ t1;have l:=key _ t2;rw[fd] at f l;exact⟨i,j,k,a,b,hk,bc.2 ⟨u0,u0⟩,bc.2 ⟨u0,u0⟩,bc.2 ⟨hk,u0⟩,h1⟩
theorem IsF.flat(hl:∀ i j,i<j->j<N->aP (P i) (P j)){n:V}{d:Int}(h:IsF P N n d):Flat n P (bU P N n d):=by
 refine⟨h.nz.1,λx hx y f=>?_,λx hx y f e=>?_⟩
 ·have a:=(bc.1 hx).2;have b:=(bc.1 f).2;rw[fd];omega
 ·have a:=(bc.1 hx).1;have b:=(bc.1 f).1;rcases zod x y with c|c|c
  ·grind [aP]
  ·exact c
  ·grind [aP]
theorem IsF.left(hl:∀ i j,i<j->j<N->aP (P i) (P j)){n:V}{d:Int}(h:IsF P N n d){b:Nat}(g:a∈bU P N n d)(c:Side n P (bU P N n d) a b) :
  ∃ x∈bU P N n d,0<T n (M P a b) (M P a x):=by
 obtain⟨i,j,k,r,s,hk,t,E,mk,ht⟩:=h.three;have F:=h.flat hl;have key:∀ x∈bU P N n d,0<T n (M P a b) (M P a x)\/cross (M P a b) (M P a x)=zero:=λx hx=>by
  rcases zBb (c.all x hx).1 with h1|h1
  ·omega
  ·exact .inr (ft F.nz (F.pl a g b c.mem) (F.pl a g x hx) h1.symm)
 rcases key i t with h1|h1
 ·grind
 rcases key j E with o|o
 ·grind
 rcases key k mk with p|p
 ·grind
 exfalso;apply ht;have q:=bR (uZ F g c.mem c.ne);have p1:=RA h1 (M P a b);have l:=RA o (M P a b);have m:=RA p (M P a b);have w1:M P i j=sub (M P a j) (M P a i):=by grind [M,sub]
 have L:M P i k=sub (M P a k) (M P a i):=by grind [M,sub]
 unfold gq;rw[w1,L];generalize M P a b=e at *;generalize M P a i=u at *;generalize M P a j=v at *;generalize M P a k=w at *;generalize dot e u=A at *;generalize dot e v=B at *;generalize dot e w=C at *;generalize dot e e=D at *;have q1:=zIa V.x p1;have G:=zIa V.y p1;have H:=zIa V.z p1;have r1:=zIa V.x l;have I:=zIa V.y l;have J:=zIa V.z l;have s1:=zIa V.x m;have s2:=zIa V.y m;have K:=zIa V.z m;simp only[smul] at q1 G H r1 I J s1 s2 K;have f:=zCb q q;apply V.ext'<;>simp only[cross,sub,zero]<;>refine bQ f ?_<;>grind
theorem far{n e:V}(he:dot n e=0){w:Nat->V}:∀ l:List Nat,l≠[]->(∀ y∈l,dot n (w y)<0)->∃ y∈l,∀ x∈l,0<=dot e (cross (w y) (w x))
 | [],h,_=>zgb rfl h
 | [y],_,hn=>⟨y,zBa,λx hx=>by
   rw[zUa.1 hx];have:dot e (cross (w y) (w y))=0:=by simp only[dot,cross];grind
   omega⟩
 | z::j::l,_,hn=>by
  obtain⟨y,b,a⟩:=far he (j::l) j2 (λy b=>hn y (zsa _ b))
  have self:∀ v:V,dot e (cross v v)=0:=λv=>by simp only[dot,cross];grind
  have i:∀ u v:V,dot e (cross v u)=- dot e (cross u v):=λu v=>by simp only[dot,cross];grind
  have pl:∀ x y z:V,dot n x*dot e (cross y z)=dot n z*dot e (cross y x)+dot n y*dot e (cross x z):=λx y z=>by
   have:dot n x*dot e (cross y z)-(dot n z*dot e (cross y x)+dot n y*dot e (cross x z))=dot n e*dot x (cross y z):=by simp only[dot,cross];grind
   rw[he] at this;omega
  rcases zvc (dot e (cross (w y) (w z))) 0 with d|c
  ·refine⟨z,zBa,λx hx=>?_⟩;rcases zOa.1 hx with rfl|hx
   ·have:=self (w x);omega
   ·have h1:=a x hx;have k:=pl (w y) (w z) (w x);have o:=hn y (zsa _ b);have f:=hn z zBa;have g:=hn x (zsa _ hx);have m:=i (w y) (w z);have a1:dot n (w x)*dot e (cross (w z) (w y))<=0:=Int.mul_nonpos_of_nonpos_of_nonneg (zWa g) u0
    have a2:dot n (w z)*dot e (cross (w y) (w x))<=0:=Int.mul_nonpos_of_nonpos_of_nonneg (zWa f) h1;have a3:0<=(-(dot n (w y)))*dot e (cross (w z) (w x)):=by rw[Int.neg_mul];omega
    exact zI u0 a3
  ·refine⟨y,zsa _ b,λx hx=>?_⟩;rcases zOa.1 hx with rfl|hx
   ·exact c
   ·exact a x hx
theorem Vo{p q r:Nat}(hp:p<N)(hq:q<N)(z:r<N)(h1:p≠q)(u:p≠r)(w:q≠r){m:V}(hm:m=gq P p q r)(hle:∀ x,x<N->dot m (M P p x)<=0)(o:∃ x,x<N/\dot m (M P p x)<0) :
  ∃ s,∃ g:Int,0<g/\m=smul g s/\IsF P N s (dot s (P p)):=by
 have d:m≠zero:=λe=>by grind [dot,zero]
 have B:=jZ d;have e:=j9 m;refine⟨aS m,br m,u0,e,?_,?_⟩
 ·have perm:∀ i j k,i<j->j<k->k<N->(m=gq P i j k\/m=neg (gq P i j k))->(dot (aS m) (M P i p)=0)->∃ i j k,i<j/\j<k/\k<N/\gq P i j k≠zero/\(aS m=aS (gq P i j k)\/aS m=neg (aS (gq P i j k)))/\dot (aS m) (P p)=dot (aS m) (P i):=by
   intro i j k l n hk c y;rw[fd] at y;refine⟨i,j,k,l,n,hk,λt=>d ?_,?_,u0⟩
   ·rcases c with c|c
    ·rw[c,t]
    ·rw[c,t];rfl
   ·grind [DF]
  have f:∀ v:V,dot m v=0->dot (aS m) v=0:=λv C=>by
   have:(br m:Int)*dot (aS m) v=0:=by grind [dot,smul]
   exact bQ u0 this
  have A:dot (aS m) (M P p p)=0:=f _ (by simp only[dot,M,sub];grind)
  have z2:dot (aS m) (M P q p)=0:=f _ (by rw[hm];simp only[dot,gq,cross,M,sub];grind)
  have z3:dot (aS m) (M P r p)=0:=f _ (by rw[hm];simp only[dot,gq,cross,M,sub];grind)
  rcases Nat.lt_or_gt_of_ne h1 with a1|a1<;>rcases Nat.lt_or_gt_of_ne u with a2|a2<;>rcases Nat.lt_or_gt_of_ne w with a3|a3
  ·grind
  ·exact perm p r q a2 a3 hq (.inr (by rw[hm];apply V.ext'<;>simp only[gq,neg,cross,M,sub]<;>grind)) A
  ·omega
  ·exact perm r p q a2 a1 hq (.inl (by rw[hm];apply V.ext'<;>simp only[gq,neg,cross,M,sub]<;>grind)) z3
  ·exact perm q p r a1 a2 z (.inr (by rw[hm];apply V.ext'<;>simp only[gq,neg,cross,M,sub]<;>grind)) z2
  ·omega
  ·exact perm q r p a3 a2 hp (.inl (by rw[hm];apply V.ext'<;>simp only[gq,neg,cross,M,sub]<;>grind)) z2
  ·exact perm r q p a3 a1 hp (.inr (by rw[hm];apply V.ext'<;>simp only[gq,neg,cross,M,sub]<;>grind)) z3
 ·have sc:∀ v:V,dot m v=(br m:Int)*dot (aS m) v:=λv=>by
   conv=>lhs;rw[e]
   grind [dot,smul]
  refine⟨λx hx=>?_,?_⟩
  ·have h:=hle x hx;rw[sc,fd] at h;rcases zvc (dot (aS m) (P p)) (dot (aS m) (P x)) with k|k
   ·have:=zCb (a:=(br m:Int)) (b:=dot (aS m) (P x)-dot (aS m) (P p)) u0 u0
    omega
   ·exact k
  ·obtain⟨x,hx,h⟩:=o;rw[sc,fd] at h;refine⟨x,hx,?_⟩;rcases zvc (dot (aS m) (P x)) (dot (aS m) (P p)) with k|k
   ·exact k
   ·have:=zWb (a:=(br m:Int)) (b:=dot (aS m) (P x)-dot (aS m) (P p)) u0 u0
    omega
end
open V
section
variable{P:Nat->V}{N:Nat}
theorem EM(hl:∀ i j,i<j->j<N->aP (P i) (P j)){n:V}{d:Int}(h:IsF P N n d){b:Nat}(G:a∈bU P N n d)(A:Side n P (bU P N n d) a b) :
  ∃ f d',IsF P N f d'/\a∈bU P N f d'/\b∈bU P N f d'/\Side f P (bU P N f d') b a:=by
 have F:=h.flat hl;have I:=(bc.1 G).1;have a3:=(bc.1 G).2;have K:=(bc.1 A.mem).1;have he:dot n (M P a b)=0:=F.pl a G b A.mem;obtain⟨x1,B,H⟩:=h.left hl G A;have Q:dot n (M P a x1)=0:=F.pl a G x1 B;have hle:∀ x,x<N->dot n (M P a x)<=0:=λx hx=>by rw[fd];have:=h.supp.1 x hx;omega
 have s:=bR F.nz;obtain⟨z,aI,hz⟩:=h.supp.2;obtain⟨y,X,a0⟩:=far (w:=M P a) he ((List.range N).filter λk=>decide (dot n (M P a k)<0)) (List.ne_nil_of_mem (a:=z) (by simp[aI,fd];omega)) (λy X=>by simpa using(zJc.1 X).2)
 have al:y<N:=by simpa using(zJc.1 X).1
 have C:dot n (M P a y)<0:=by simpa using(zJc.1 X).2
 have o:∀ x,x<N->dot n (M P a x)<0->0<=dot (M P a b) (cross (M P a y) (M P a x)):=λx hx hn=>a0 x (by simp[hx,hn])
 have m:∀ u v:V,dot n u=0->dot n v=0->∀ y:V,dot n n*dot (cross u v) y=dot n (cross u v)*dot n y:=λu v hu hv y=>by have c:=lv hu hv;have c1:=zIa V.x c;have c2:=zIa V.y c;have Y:=zIa V.z c;generalize cross u v=k at *;simp only[cross,zero] at c1 c2 Y;simp only[dot];grind
 have S:∀ v:V,dot (cross (M P a y) (M P a b)) v=- dot (M P a b) (cross (M P a y) v):=λv=>by simp only[dot,cross];grind
 have D:∀ v:V,dot (cross (M P a y) (M P a b)) v=dot (cross (M P a b) v) (M P a y):=λv=>by simp only[dot,cross];grind
 have E:∀ x∈bU P N n d,dot n n*dot (cross (M P a y) (M P a b)) (M P a x)=T n (M P a b) (M P a x)*dot n (M P a y):=λx hx=>by rw[D];exact m _ _ he (F.pl a G x hx) _
 have aO:∀ x,x<N->dot (cross (M P a y) (M P a b)) (M P a x)<=0:=λx hx=>by
  rcases zBb (hle x hx) with k|k
  ·rw[S];have:=o x hx k;omega
  ·have l:x∈bU P N n d:=bc.2 ⟨hx,by rw[fd] at k;omega⟩
   have e:=E x l;have t:=(A.all x l).1;have:T n (M P a b) (M P a x)*dot n (M P a y)<=0:=Int.mul_nonpos_of_nonneg_of_nonpos t (zWa C);rcases zvc 0 (dot (cross (M P a y) (M P a b)) (M P a x)) with q|q
   ·have:=zCb s q;omega
   ·exact q
 have U:dot (cross (M P a y) (M P a b)) (M P a x1)<0:=by
  have e:=E x1 B;have:T n (M P a b) (M P a x1)*dot n (M P a y)<0:=zIb H C;rcases zvc (dot (cross (M P a y) (M P a b)) (M P a x1)) 0 with q|q
  ·exact q
  ·have:=zWb (zWa s) q;omega
 have an:a≠y:=λe=>by subst e;rw[show dot n (M P a a)=0 by simp only[dot,M,sub];grind] at C;omega
 have ax:y≠b:=λe=>by subst e;omega
 obtain⟨f,g,hg,hm,hF⟩:=Vo (p:=a) (q:=y) (r:=b) I al K an (Ne.symm A.ne) ax rfl aO ⟨x1,(bc.1 B).1,U⟩;have sc:∀ v:V,dot (cross (M P a y) (M P a b)) v=g*dot f v:=λv=>by have:gq P a y b=cross (M P a y) (M P a b):=rfl;rw[<-this,hm];simp only[dot,smul];grind
 have L:dot f (M P a b)=0:=bQ hg (by rw[<-sc];simp only[dot,cross];grind)
 have J:a∈bU P N f (dot f (P a)):=bc.2 ⟨I,rfl⟩;have ad:b∈bU P N f (dot f (P a)):=bc.2 ⟨K,by rw[fd] at L;omega⟩
 refine⟨f,_,hF,J,ad,J,Ne.symm A.ne,λx hx=>?_⟩;have R:=(bc.1 hx).1;have O:dot f (M P a x)=0:=by rw[fd];have:=(bc.1 hx).2;omega
 have a1:dot (cross (M P a y) (M P a b)) (M P a x)=0:=by rw[sc,O,znd]
 have tE:T f (M P b a) (M P b x)=dot f (cross (M P a x) (M P a b)):=by simp only[T,dot,cross,M,sub];grind
 have dE:dot (M P b x) (M P b a)=dot (M P a b) (M P a b)-dot (M P a x) (M P a b):=by simp only[dot,M,sub];grind
 have Z:dot (M P b a) (M P b a)=dot (M P a b) (M P a b):=by simp only[dot,M,sub];grind
 rw[tE,dE,Z];rcases zBb (hle x R) with k|k
 ·
  have c1:dot (cross (M P a x) (M P a b)) (M P a x1)<0:=by
   have e:=m (M P a b) (M P a x1) he Q (M P a x);have e2:dot (cross (M P a x) (M P a b)) (M P a x1)=dot (cross (M P a b) (M P a x1)) (M P a x):=by simp only[dot,cross];grind
   have:T n (M P a b) (M P a x1)*dot n (M P a x)<0:=zIb H k;rw[e2];simp only[T] at this;rcases zvc (dot (cross (M P a b) (M P a x1)) (M P a x)) 0 with q|q
   ·exact q
   ·have:=zWb (zWa s) q;omega
  have a2:dot f f*dot (cross (M P a x) (M P a b)) (M P a x1)=dot f (cross (M P a x) (M P a b))*dot f (M P a x1):=by have c:=lv O L;have c1:=zIa V.x c;have c2:=zIa V.y c;have Y:=zIa V.z c;generalize cross (M P a x) (M P a b)=k at *;simp only[cross,zero] at c1 c2 Y;simp only[dot];grind
  have W:=bR hF.nz.1;have n1:dot f (M P a x1)<0:=by
   rw[sc] at U;rcases zvc (dot f (M P a x1)) 0 with q|q
   ·exact q
   ·have:=zWb (zWa hg) q;omega
  have l1:=zIb W c1;have pos:0<dot f (cross (M P a x) (M P a b)):=by
   rcases zvc 0 (dot f (cross (M P a x) (M P a b))) with q|q
   ·exact q
   ·have:=Int.mul_nonneg_of_nonpos_of_nonpos q (zWa n1);omega
  exact⟨zWa pos,λh0=>u0⟩
 ·have l:x∈bU P N n d:=bc.2 ⟨R,by rw[fd] at k;omega⟩
  have e:=E x l;rw[a1,znd] at e;have t0:T n (M P a b) (M P a x)=0:=by
   rcases zMc.1 e.symm with q|q
   ·exact q
   ·omega
  have s2:=(A.all x l).2 t0;have c0:=ft F.nz he k t0;have:dot f (cross (M P a x) (M P a b))=0:=by
   have e2:dot f (cross (M P a x) (M P a b))=- dot f (cross (M P a b) (M P a x)):=by simp only[dot,cross];grind
   rw[e2,c0];simp[dot,zero]
  rw[this];exact⟨Int.le_refl _,λ_=>⟨u0,u0⟩⟩
theorem Ly(hl:∀ i j,i<j->j<N->aP (P i) (P j)){d g:V}{d1 d2:Int}(h1:IsF P N d d1)(E:IsF P N g d2){b:Nat}(l:a∈bU P N d d1)(m:a∈bU P N g d2)
  (o:Side d P (bU P N d d1) a b) (w:Side g P (bU P N g d2) a b):d=g:=by
 have F1:=h1.flat hl;have F2:=E.flat hl;obtain⟨x1,B,a0⟩:=h1.left hl l o;obtain⟨f,p,A⟩:=E.left hl m w;have F:=F1.pl a l b o.mem;have J:=F2.pl a m b w.mem;have S:=F1.pl a l x1 B;have z2:=F2.pl a m f p;have H:dot d (M P a f)<=0:=by rw[fd];have:=h1.supp.1 f (bc.1 p).1;have:=(bc.1 l).2;omega
 have I:dot g (M P a x1)<=0:=by rw[fd];have:=E.supp.1 x1 (bc.1 B).1;have:=(bc.1 m).2;omega
 have s:=bR F1.nz;have t:=bR F2.nz;have h:∀ (n u v:V),dot n u=0->dot n v=0->smul (dot n n) (cross u v)=smul (dot n (cross u v)) n:=λn u v hu O=>by have c:=lv hu O;have c1:=zIa V.x c;have c2:=zIa V.y c;have X:=zIa V.z c;generalize cross u v=k at *;simp only[cross,zero] at c1 c2 X;apply V.ext'<;>simp only[smul,dot]<;>grind
 have r:∀ (k:Int) (u v:V),dot (smul k u) v=k*dot u v:=λk u v=>by simp only[dot,smul];grind
 have K:dot d d*dot (cross (M P a b) (M P a x1)) (M P a f)=T d (M P a b) (M P a x1)*dot d (M P a f):=by have:=zIa (λv=>dot v (M P a f)) (h d _ _ F S);simp only[r] at this;exact this
 have Q:dot g g*dot (cross (M P a b) (M P a f)) (M P a x1)=T g (M P a b) (M P a f)*dot g (M P a x1):=by have:=zIa (λv=>dot v (M P a x1)) (h g _ _ J z2);simp only[r] at this;exact this
 have R:dot (cross (M P a b) (M P a f)) (M P a x1)=- dot (cross (M P a b) (M P a x1)) (M P a f):=by simp only[dot,cross];grind
 have m1:=Int.mul_nonpos_of_nonneg_of_nonpos (zWa a0) H;have G:=Int.mul_nonpos_of_nonneg_of_nonpos (zWa A) I;have D0:dot (cross (M P a b) (M P a x1)) (M P a f)=0:=by
  rw[R] at Q;generalize dot (cross (M P a b) (M P a x1)) (M P a f)=D at *;rcases zQb D 0 with q|q|q
  ·have:=zCb (a:=dot g g) (b:=-D) t u0;omega
  ·exact q
  ·have:=zCb s q;omega
 have n12:dot d (M P a f)=0:=by
  rw[D0,znd] at K;rcases zMc.1 K.symm with q|q
  ·omega
  ·exact q
 have C:f∈bU P N d d1:=bc.2 ⟨(bc.1 p).1,by rw[fd] at n12;have:=(bc.1 l).2;omega⟩
 have c2:=h g _ _ J z2;have c1:=h d _ _ F n12;have t12:=(o.all f C).1;have ne:T d (M P a b) (M P a f)≠0:=λe=>by
  have L:=ft F1.nz F n12 e
  simp_all [T,L,dot,zero]
 refine MP h1.nz.2 E.nz.2 (a:=T d (M P a b) (M P a f)*dot g g) (b:=T g (M P a b) (M P a f)*dot d d) (zCb u0 t) (zCb A s) ?_
 grind [T,smul]
end
open V
section
variable{n:V}{P:Nat->V}{on:List Nat}
theorem Side.start(h:Flat n P on){b:Nat}(d:a∈on)(f:Side n P on a b):oh P on a:=by
 obtain⟨K,r,s⟩:=j7 (λx=>dot (M P a b) (M P a x)) on;refine⟨add (smul K (cross n (M P a b))) (M P a b),λx hx i=>?_⟩;have e:dot (add (smul K (cross n (M P a b))) (M P a b)) (M P a x)=K*T n (M P a b) (M P a x)+dot (M P a b) (M P a x):=by simp only[T,dot,add,smul,cross];grind
 rw[e];obtain⟨h1,q⟩:=f.all x hx;have c:=s x hx;rcases zBb h1 with k|k
 ·have:K*1<=K*T n (M P a b) (M P a x):=zvb u0 (zWa r)
  omega
 ·rw[<-k,znd,zuc];obtain⟨q1,t⟩:=q k.symm;have m:dot (M P a b) (M P a x)=dot (M P a x) (M P a b):=by simp only[dot];grind
  rw[m];rcases zBb q1 with p|p
  ·exact p
  ·exfalso;have o:=ft h.nz (h.pl a d b f.mem) (h.pl a d x hx) k.symm;have g:=RA o (M P a b);rw[m,<-p] at g;have hp:=bR (uZ h d f.mem f.ne);apply uZ h d hx i;have p1:=zIa V.x g;have j:=zIa V.y g;have l:=zIa V.z g;simp only[smul,zKc] at p1 j l;exact V.ext' (bQ hp p1) (bQ hp j) (bQ hp l)
end
theorem oK{α:Type}{r:α->α->Prop}(d:∀ a,¬ r a a)(c:∀ a b,r a b->¬ r b a):∀ {l l':List α},l.Pairwise r->l'.Pairwise r->(∀ x,x∈l↔x∈l')->l=l'
 | [],[],_,_,_=>rfl
 | [],b::l',_,_,h=>zgb ((h b).2 zBa) j2
 | a::l,[],_,_,h=>zgb ((h a).1 zBa) j2
 | a::l,b::l',h1,f,h=>by
  obtain⟨j,g⟩:=zNa.1 h1;obtain⟨k,i⟩:=zNa.1 f;have e:a=b:=by
   rcases zOa.1 ((h a).1 zBa) with e|m
   ·exact e
   ·rcases zOa.1 ((h b).2 zBa) with e|n
    ·exact e.symm
    ·grind
  subst e;rw[oK d c g i λx=>?_];all_goals grind
def oF(a:V):¬ aP a a:=by simp only[aP];omega
def zp(a b:V):aP a b->¬ aP b a:=by simp only[aP];omega
def nI{a b c:V}:aP a b->aP b c->aP a c:=by simp only[aP];omega
def t6{a b:V}(h:a≠b):aP a b\/aP b a:=by simp only[aP];rcases zQb a.x b.x with h1|h1|h1<;>rcases zQb a.y b.y with c|c|c<;>rcases zQb a.z b.z with d|d|d<;>first|omega|exact zgb (V.ext' h1 c d) h
structure Facets(P:Nat->V)(N:Nat)(L:List (V×Int)):Prop where
 ord:L.Pairwise (λa b=>aP a.1 b.1)
 mem:∀ q,q∈L↔IsF P N q.1 q.2
def Facets.eq{P:Nat->V}{N:Nat}{L L':List (V×Int)}(h:Facets P N L)(c:Facets P N L'):L=L':=
 oK (r:=λa b=>aP a.1 b.1) (λa=>oF a.1) (λa b=>zp a.1 b.1) h.ord c.ord λx=>(h.mem x).trans (c.mem x).symm
section
variable{P:Nat->V}{N:Nat}{n:V}{d:Int}
def akC{d':Int}(h:IsF P N n d)(a:IsF P N n d'):d=d':=by
 obtain⟨i,_,_,f,g,hk,_,_,e⟩:=h.ex;obtain⟨k,_,_,b,c,j,_,_,l⟩:=a.ex;have h1:=h.supp.1 k u0
 have m:=a.supp.1 i u0
 omega
def bZ(P:Nat->V)(N:Nat)(n:V)(d:Int)(l:List Nat):Prop:=∃ a,(bU P N n d).head?=some a/\Chain (Side n P (bU P N n d)) a a l
def MD:(bU P N n d).Pairwise (·<·):=List.Pairwise.sublist List.filter_sublist List.pairwise_lt_range
theorem IsF.head(hl:∀ i j,i<j->j<N->aP (P i) (P j))(h:IsF P N n d):∃ a,(bU P N n d).head?=some a/\a∈bU P N n d/\oh P (bU P N n d) a/\(∀ x∈bU P N n d,a<=x)/\∀ c∈bU P N n d,∃ x∈bU P N n d,x≠c:=by
 obtain⟨i,j,k,e,f,hk,b,o,mk,ht⟩:=h.three;cases hon:bU P N n d with
 | nil=>rw[hon] at b;simp at b
 | cons a l=>
  have g:(a::l).Pairwise (·<·):=by rw[<-hon];exact MD
  rw[zNa] at g;have hle:∀ x∈a::l,a<=x:=λx hx=>by all_goals grind
  refine⟨a,rfl,zBa,Iu λx hx m=>?_,hle,λc hc=>?_⟩
  ·have:=hle x hx;rw[<-hon] at hx;exact hl a x u0 (bc.1 hx).1
  ·grind
def IsF.poly(hl:∀ i j,i<j->j<N->aP (P i) (P j))(h:IsF P N n d) :
  ∃ l,bZ P N n d l/\l.Nodup/\∀ z,z∈l↔z∈bU P N n d/\oh P (bU P N n d) z:=by
 obtain⟨a,h1,b,c,p,e⟩:=h.head hl;obtain⟨l,f,g,k,m⟩:=Fw (h.flat hl) b c e;exact⟨l,⟨a,h1,f⟩,g,λz=>⟨k z,λ⟨q1,o⟩=>m z q1 o⟩⟩
theorem bZ.eq(hl:∀ i j,i<j->j<N->aP (P i) (P j))(h:IsF P N n d){l':List Nat}(k:bZ P N n d l)(m:bZ P N n d l'):l=l':=by
 obtain⟨a,h1,r⟩:=k;obtain⟨a',g,p⟩:=m;rw[h1] at g;cases g;obtain⟨b,g1,g2,g3,g4,g5⟩:=h.head hl;rw[h1] at g1;cases g1;have F:=h.flat hl;have key:∀ {c:Nat} {l l':List Nat},c∈bU P N n d->Chain (Side n P (bU P N n d)) a c l->Chain (Side n P (bU P N n d)) a c l'->l=l':=by
  intro c l l' hc q
  induction q generalizing l' with
  | done s=>intro o;cases o with
   | done _=>rfl
   | step s' f _=>exact zgb (ak4 F hc s' s) f
  | step s f k ih=>intro o;cases o with
   | done s'=>exact zgb (ak4 F hc s s') f
   | step s' _ m=> have e:=ak4 F hc s s';subst e;rw[ih s.mem m]
 grind
def mq(l:List Nat):List (Nat×Nat):=(List.range l.length).filterMap λk=>if l.getD k 0<l.getD ((k+1)%l.length) 0 then some (l.getD k 0,l.getD ((k+1)%l.length) 0) else none
def bZ.next(k:bZ P N n d l){i:Nat}(hi:i<l.length):Side n P (bU P N n d) (l.getD i 0) (l.getD ((i+1)%l.length) 0):=by
 obtain⟨a,h1,b⟩:=k;obtain⟨l',e⟩:=b.head;obtain⟨y,q1,g⟩:=b.pairs i (l.getD i 0) (by simp[List.getD,zda hi])
 rcases zua (i+1) l.length with c|c
 ·rw[zab c] at q1;rw[z0a c]
  simp_all
 ·have f:i+1=l.length:=u0
  simp_all
theorem nN{b:Nat}:(a,b)∈mq l↔a<b/\∃ i,i<l.length/\l.getD i 0=a/\l.getD ((i+1)%l.length) 0=b:=by simp only[mq,z4c,zRa];all_goals grind
def J5(P:Nat->V)(N:Nat)(n:V)(d:Int)(a b:Nat):Prop:=a∈bU P N n d/\Side n P (bU P N n d) a b
theorem akD(hl:∀ i j,i<j->j<N->aP (P i) (P j))(h:IsF P N n d)(k:bZ P N n d l){b:Nat} :
  (∃ i,i<l.length/\l.getD i 0=a/\l.getD ((i+1)%l.length) 0=b)↔J5 P N n d a b:=by
 obtain⟨o,p1,p,g⟩:=h.poly hl;have:=bZ.eq hl h k p1;subst this;constructor
 ·rintro⟨i,hi,h1,m⟩;have s:=k.next hi
  rw[h1,m] at s;refine⟨((g a).1 ?_).1,s⟩;grind
 ·rintro⟨c,s⟩;have hm:=(g a).2 ⟨c,s.start (h.flat hl) c⟩;obtain⟨i,hi,e⟩:=z3a hm;have f:l.getD i 0=a:=by simp_all
  have s2:=k.next hi
  rw[f] at s2;exact⟨i,hi,f,ak4 (h.flat hl) c s2 s⟩
theorem yk(h:l.Nodup):(mq l).Nodup:=by
 unfold mq;refine List.Pairwise.filterMap _ (R:=λi j:Nat=>i≠j/\i<l.length/\j<l.length) (S:=λx y=>x≠y) ?_ ?_
 ·intro i j ⟨b,hi,d⟩ x hx y f e;subst e;simp only[Option.ite_none_right_eq_some,zca] at hx f;have a:l.getD i 0=l.getD j 0:=s6
  simp only[List.getD,zda hi,zda d,zYb] at a;rcases Nat.lt_or_gt_of_ne b with c|c
  ·exact zGb.1 h i j hi d c a
  ·exact zGb.1 h j i d hi c a.symm
 ·have:=List.nodup_range (n:=l.length);refine z3c ?_ this
  simp_all
end
def DC(a b:Nat×Nat):Prop:=a.1<b.1\/a.1=b.1/\a.2<b.2
def dD(L:List (V×Int))(poly:V×Int->List Nat):List (Nat×Nat):=L.flatMap λq=>mq (poly q)
section
variable{P:Nat->V}{N:Nat}
def Em(hl:∀ i j,i<j->j<N->aP (P i) (P j)){L:List (V×Int)}(hL:Facets P N L){poly:V×Int->List Nat}(hp:∀ q∈L,bZ P N q.1 q.2 (poly q)){b:Nat} :
  (a,b)∈dD L poly↔a<b/\∃ n d,IsF P N n d/\J5 P N n d a b:=by
 simp only[dD,zqb,nN];constructor
 ·rintro⟨q,hq,c,hi⟩;exact⟨c,q.1,q.2,(hL.mem q).1 hq,(akD hl ((hL.mem q).1 hq) (hp q hq)).1 hi⟩
 ·rintro⟨c,n,d,e,f⟩;have hq:=(hL.mem (n,d)).2 e;exact⟨(n,d),hq,c,(akD hl e (hp _ hq)).2 f⟩
def yA(hl:∀ i j,i<j->j<N->aP (P i) (P j)){L:List (V×Int)}(hL:Facets P N L){poly:V×Int->List Nat}(hp:∀ q∈L,bZ P N q.1 q.2 (poly q)):(dD L poly).Nodup:=by
 unfold dD List.Nodup;rw[List.pairwise_flatMap];refine⟨λq hq=>?_,?_⟩
 ·obtain⟨l,p1,m,_⟩:=((hL.mem q).1 hq).poly hl;have:=bZ.eq hl ((hL.mem q).1 hq) (hp q hq) p1;rw[this];exact yk m
 ·refine z3c ?_ hL.ord;intro q h hq d c x hx y k e;subst e;obtain⟨a,b⟩:=x;have F:=(hL.mem q).1 hq;have F':=(hL.mem h).1 d;obtain⟨d1,d2⟩:=(akD hl F (hp q hq)).1 (nN.1 hx).2;obtain⟨f,g⟩:=(akD hl F' (hp h d)).1 (nN.1 k).2;have:=Ly hl F F' d1 f d2 g;rw[this] at c;exact oF _ c
theorem EN(hl:∀ i j,i<j->j<N->aP (P i) (P j)){b:Nat}:(∃ n d,IsF P N n d/\(J5 P N n d a b\/J5 P N n d b a))↔∃ n d,IsF P N n d/\J5 P N n d a b:=by
 constructor
 ·rintro⟨n,d,f,h|h⟩
  ·grind
  ·obtain⟨g,d',h1,k,c,e⟩:=EM hl f h.1 h.2;exact⟨g,d',h1,c,e⟩
 ·grind
end
end
end Geo
end
noncomputable section
namespace Sy
open Go Go.Proofs Geo
section
variable{A B a:Int}{u:V}
abbrev I(n:Int):D:=.int .i64 n
def ag(v:V):D:=.st [I v.x,I v.y,I v.z]
def inR(n:Int):Prop:=-9223372036854775808<=n/\n<=9223372036854775807
theorem iX{n:Int}(h:inR n):IntKind.wrap .i64 n=n:=by obtain⟨h1,a⟩:=h;grind [IntKind.wrap,IntKind.signed,IntKind.bits]
def ay{b:Int}(h:inR (a+b)):akk .add (I a) (I b)=some (I (a+b)):=by simp only[akk,if_true,iX h]
theorem bW{b:Int}(h:inR (a-b)):akk .sub (I a) (I b)=some (I (a-b)):=by simp only[akk,if_true,iX h]
def cN{a b:Int}(h:inR (a*b)):akk .mul (I a) (I b)=some (I (a*b)):=by simp only[akk,if_true,iX h]
def ah{a b:Int}:akk .lss (I a) (I b)=some (.bool (decide (a<b))):=by simp only[akk,if_true]
def ja{b:Int}:akk .leq (I a) (I b)=some (.bool (decide (a<=b))):=by simp only[akk,if_true]
def cn{b:Int}:akk .gtr (I a) (I b)=some (.bool (decide (a>b))):=by simp only[akk,if_true]
def fS{b:Int}:akk .geq (I a) (I b)=some (.bool (decide (a ≥ b))):=by simp only[akk,if_true]
def ph{b:Int}(h:b≠0):akk .rem (I a) (I b)=some (I (a.tmod b)):=by simp only[akk,if_true,h,if_false]
def uw{b:Int}(h:b≠0)(c:inR (a.tdiv b)):akk .quo (I a) (I b)=some (I (a.tdiv b)):=by simp only[akk,if_true,h,if_false,iX c]
theorem nj{a:Int}(h:inR (-a)):akz .neg (I a)=some (I (-a)):=by simp only[akz,Int.zero_sub,iX h]
def aJ{b:Bool}:akz .not (.bool b)=some (.bool (!b)):=rfl
def ac{b:Bool}:D.truth (.bool b)=some b:=rfl
theorem sB{a b:Int}:D.max2 (I a) (I b)=some (I (max a b)):=by grind [D.max2]
theorem Mo{b:Int}:D.min2 (I a) (I b)=some (I (min a b)):=by grind [D.min2]
theorem ci{b:Int}:D.beq (I a) (I b)=decide (a=b):=by simp[D.beq]
def pX(v:V):D.get (ag v) [0]=some (I v.x):=rfl
def pY(v:V):D.get (ag v) [1]=some (I v.y):=rfl
def pZ(v:V):D.get (ag v) [2]=some (I v.z):=rfl
def wI(x y z:Int):D.st [D.int .i64 x,D.int .i64 y,D.int .i64 z]=ag ⟨x,y,z⟩:=rfl
def bd(k:Int)(v:V):Prop:=(-k<=v.x/\v.x<=k)/\(-k<=v.y/\v.y<=k)/\(-k<=v.z/\v.z<=k)
def jx{b A B:Int}(f:-A<=a/\a<=A)(g:-B<=b/\b<=B):-(A*B)<=a*b/\a*b<=A*B:=by
 have c:0<=A:=u0
 have d:0<=B:=u0
 have h1:(a*b).natAbs<=(A*B).natAbs:=by rw[zwa,zwa];exact zFa u0 u0
 have e:=zWb c d;omega
theorem k9{v:V}(hu:bd A u)(a:bd B v):bd (A+B) (u.sub v):=by grind [bd,V.sub]
theorem tn(hu:bd A u):bd A u.neg:=by grind [bd,V.neg]
theorem jU{v:V}(hu:bd A u)(a:bd B v):bd (2*(A*B)) (V.cross u v):=by have:=jx hu.1 a.1;have:=jx hu.1 a.2.1;have:=jx hu.1 a.2.2;have:=jx hu.2.1 a.1;have:=jx hu.2.1 a.2.1;have:=jx hu.2.1 a.2.2;have:=jx hu.2.2 a.1;have:=jx hu.2.2 a.2.1;have:=jx hu.2.2 a.2.2;grind [bd,V.cross]
theorem KE{v:V}(hu:bd A u)(a:bd B v):-(3*(A*B))<=V.dot u v/\V.dot u v<=3*(A*B):=by have:=jx hu.1 a.1;have:=jx hu.2.1 a.2.1;have:=jx hu.2.2 a.2.2;grind [V.dot]
theorem CF{v:V}(hu:bd A u)(a:bd B v)(h:3*(A*B)<=9223372036854775807) :
  inR (u.x*v.x)/\inR (u.y*v.y)/\inR (u.z*v.z)/\inR (u.x*v.x+u.y*v.y)/\inR (u.x*v.x+u.y*v.y+u.z*v.z):=by
 have:=jx hu.1 a.1;have:=jx hu.2.1 a.2.1;have:=jx hu.2.2 a.2.2;grind [inR]
def f101{call:Nat->List D->Option D}{v:V}(hu:bd A u)(e:bd B v)(h:3*(A*B)<=9223372036854775807):J7 F call (ag u) (ag v)=some (I (V.dot u v)):=by obtain⟨h1,a,b,c,d⟩:=CF hu e h;simp only[J7,Q,P,pX,pY,pZ,zba,cN h1,cN a,cN b,ay c,ay d];rfl
def KO(n:Nat){v:V}(hu:bd A u)(a:bd B v)(h:3*(A*B)<=9223372036854775807):C (n+1) 101 [ag u,ag v]=some (I (V.dot u v)):=by rw[afq];exact f101 hu a h
def H9(n:Nat){v:V}(hu:bd A u)(e:bd B v)(h:3*(A*B)<=9223372036854775807):C (n+1) 107 [ag u,ag v]=some (I (V.dot u v)):=by obtain⟨h1,a,b,c,d⟩:=CF hu e h;rw[afv];simp only[N8,Q,P,pX,pY,pZ,zba,cN h1,cN a,cN b,ay c,ay d];rfl
theorem wu{v:V}(hu:bd A u)(a:bd B v)(h:2*(A*B)<=9223372036854775807) :
  inR (u.y*v.z)/\inR (u.z*v.y)/\inR (u.z*v.x)/\inR (u.x*v.z)/\inR (u.x*v.y)/\inR (u.y*v.x)/\inR (u.y*v.z-u.z*v.y)/\inR (u.z*v.x-u.x*v.z)/\inR (u.x*v.y-u.y*v.x):=by
 have:=jx hu.1 a.1;have:=jx hu.1 a.2.1;have:=jx hu.1 a.2.2;have:=jx hu.2.1 a.1;have:=jx hu.2.1 a.2.1;have:=jx hu.2.1 a.2.2;have:=jx hu.2.2 a.1;have:=jx hu.2.2 a.2.1;have:=jx hu.2.2 a.2.2;grind [inR]
def WY(n:Nat){v:V}(hu:bd A u)(j:bd B v)(h:2*(A*B)<=9223372036854775807):C (n+1) 117 [ag u,ag v]=some (ag (V.cross u v)):=by obtain⟨h1,a,b,c,d,e,f,g,i⟩:=wu hu j h;rw[afD];simp only[Oh,Q,P,pX,pY,pZ,zba,cN h1,cN a,cN b,cN c,cN d,cN e,bW f,bW g,bW i];rfl
def W0(n:Nat){v:V}(hu:bd A u)(j:bd B v)(h:2*(A*B)<=9223372036854775807):C (n+1) 123 [ag u,ag v]=some (ag (V.cross u v)):=by obtain⟨h1,a,b,c,d,e,f,g,i⟩:=wu hu j h;rw[afK];simp only[Oo,Q,P,pX,pY,pZ,zba,cN h1,cN a,cN b,cN c,cN d,cN e,bW f,bW g,bW i];rfl
def QL(n:Nat)(hu:bd A u)(h:A<=9223372036854775807):C (n+1) 97 [ag u]=some (ag u.neg):=by
 have h1:inR (-u.x):=by simp only[bd,inR] at *;omega
 have a:inR (-u.y):=by simp only[bd,inR] at *;omega
 have b:inR (-u.z):=by simp only[bd,inR] at *;omega
 rw[u97];simp only[Zg,Q,pX,pY,pZ,zba,nj h1,nj a,nj b];rfl
end
end Sy
end
end Go.Proofs.YtdlipdnepadhjaaGreat
