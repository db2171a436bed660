/- Part 7 of the proof that PlaneSeparatesAsSpecified answers true at every input -/
import Derived.Test.YtphlmegkommlnaaGreatDoorSepa06
set_option linter.unusedVariables false
set_option linter.unusedSimpArgs false
set_option linter.unnecessarySimpa false
set_option linter.defProp false
set_option maxRecDepth 20000
namespace Go.Proofs.YtphlmegkommlnaaGreatDoor
noncomputable section
set_option maxHeartbeats 0
noncomputable section
namespace Sy
open Go Go.Proofs
def Qe:Ann:=let a:LS:=[(3,.sp K6 4099),(5,.ow K6),(6,.dv Ty.bool)]
 (.tl (.tl (.tl (.two (.tl (.two (.loop ⟨[(3,.sp K6 4099),(5,.ow K6),(6,.dv Ty.bool),(7,.di)],[(4099,.keep K6 3)],[0]⟩ [(.exit 0,⟨a,[(4099,.keep K6 3)],[]⟩)] (.tl (.two (.two (.two (.reg [] 8) (.cut [(.normal,⟨a,[(4099,.keep K6 3)],[0,7]⟩)] [0,7] [4099] .leaf .leaf)) .leaf) .leaf))) .leaf)) (.cut [(.normal,⟨[(5,.ow K6)],[],[]⟩)] [] [] .leaf .leaf)))))
def HB(lp:Lp)(c:Ca)(a0:D)(a1:D):Option D:=
(qZ lp (λv1=>
 qL a0 (gx v1 2) λl=>
 if l then(qG a1 [0] λm=>
 qX a0 (gx v1 2) λn=>
(D.fld n 0).bind λo=>
(c 105 [m,o]).bind λi=>
(qN (gx v1 1) λe=>
(if e then(D.truth i) else(some false)).bind λf=>
 qT (D.bool f) λg=>
 if g then(if List.length (qV v1 0)+List.length [a1]<=1073741824 then(some (0,[(D.sl ((qV v1 0)++[a1])),(D.bool true)])) else none) else(some (0,[(qW v1 0),(gx v1 1)]))).bind λ(b:Nat×List D)=>
 qX a0 (gx v1 2) λd=>
 if List.length (qV b.2 0)+List.length [d]<=1073741824 then(qB .add (gx v1 2) (Jn 1) λk=>
 iL [(D.sl ((qV b.2 0)++[d])),(gx b.2 1),k]) else none) else(iR (0,[(qW v1 0),(gx v1 1)]))) [(D.sl []),(D.bool false),(Jn 0)]).bind λa=>
(qN (gx a.2 1) λh=>
 if h then(if List.length (qV a.2 0)+List.length [a1]<=1073741824 then(some (0,[(D.sl ((qV a.2 0)++[a1]))])) else none) else(some (0,[(qW a.2 0)]))).bind λ(j:Nat×List D)=>
 some (qW j.2 0)
def RT{lp}(a:ak lp):af 110 (m2 (HB lp)):=aB 0 Tryz.f188 Qe a
def Qf:Ann:=let a:LS:=[(4,.sp K1 4100),(7,.ow Ti),(8,.di)]
 let b:LS:=[(4,.sp K1 4100),(7,.ow Ti),(11,.di)]
 (.tl (.tl (.tl (.two (.tl (.two (.loop ⟨[(4,.sp K1 4100),(7,.ow Ti),(8,.di),(9,.di)],[(4100,.keep K1 4)],[0,2]⟩ [(.exit 0,⟨a,[(4100,.keep K1 4)],[0,2]⟩)] (.tl (.cut [(.normal,⟨a,[(4100,.keep K1 4)],[0,2,9]⟩)] [0,2,9] [4100] (.two (.two (.reg [] 7) .leaf) .leaf) .leaf))) .leaf)) (.tl (.two (.two (.loop ⟨a,[(4100,.keep K1 4)],[0,2,10]⟩ [(.exit 2,⟨[(7,.ow Ti)],[],[]⟩)] (.tl (.two (.tl (.tl (.two (.tl (.two (.loop ⟨[(4,.sp K1 4100),(7,.ow Ti),(11,.di),(12,.di)],[(4100,.keep K1 4)],[0,2,8,10]⟩ [(.exit 4,⟨b,[(4100,.keep K1 4)],[0,2,10]⟩)] (.tl (.cut [(.normal,⟨b,[(4100,.keep K1 4)],[0,2,8,10,12]⟩)] [0,2,8,10,12] [4100] (.two (.tl (.two (.two (.reg [] 12) .leaf) .leaf)) .leaf) .leaf))) .leaf)) .leaf))) .leaf))) .leaf) .leaf))))))
def HC(lp:Lp)(c:Ca)(a0:D)(a1:D)(a2:D):Option D:=
(qZ lp (λv1=>
 qL a0 (gx v1 2) λG=>
(if G then(qB .lss (gx v1 1) (Jn 0) λJ=>
 D.truth J) else(some false)).bind λH=>
 qT (D.bool H) λI=>
 if I then((qX a0 (gx v1 2) λx=>
(c 107 [a1,x]).bind λt=>
 qT (D.bool (D.beq t a2)) λg=>
 if g then(some (0,[(qW v1 0),(gx v1 2)])) else(some (0,[(qW v1 0),(gx v1 1)]))).bind λ(e:Nat×List D)=>
 qB .add (gx v1 2) (Jn 1) λy=>
 iL [(qW e.2 0),(gx e.2 1),y]) else(iR (0,[(qW v1 0),(gx v1 1)]))) [(D.sl []),(Jn (-1)),(Jn 0)]).bind λd=>
(qZ lp (λa=>
 qS a0 λs=>
 qC .leq (Jn (List.length (qV a 0))) (Jn (s.length)) λh=>
 if h then(if List.length (qV a 0)+List.length [(gx a 1)]<=1073741824 then((qZ lp (λv20=>
 qL a0 (gx v20 2) λi=>
(if i then(qB .lss (gx v20 1) (Jn 0) λz=>
 D.truth z) else(some false)).bind λj=>
 qT (D.bool j) λk=>
 if k then((qT (D.bool (!(D.beq (gx v20 2) (gx a 1)))) λl=>
(if l then(qX a0 (gx v20 2) λA=>
(c 107 [a1,A]).bind λu=>
 D.truth (D.bool (D.beq u a2))) else(some false)).bind λm=>
 qT (D.bool m) λn=>
 if n then(qX a0 (gx a 1) λB=>
 qX a0 (gx v20 2) λC=>
(c 156 [a0,a1,a2,B,C]).bind λv=>
 qT v λo=>
 if o then(some (0,[(qW v20 0),(gx v20 2)])) else(some (0,[(qW v20 0),(gx v20 1)]))) else(some (0,[(qW v20 0),(gx v20 1)]))).bind λ(f:Nat×List D)=>
 qB .add (gx v20 2) (Jn 1) λE=>
 iL [(qW f.2 0),(gx f.2 1),E]) else(iR (0,[(qW v20 0),(gx v20 1)]))) [(D.sl ((qV a 0)++[(gx a 1)])),(Jn (-1)),(Jn 0)]).bind λb=>
 qT (D.bool (D.beq (gx b.2 1) (gx d.2 1))) λp=>
(if p then(some true) else(qB .lss (gx b.2 1) (Jn 0) λF=>
 D.truth F)).bind λq=>
 qT (D.bool q) λr=>
 if r then(iR (0,[(qW b.2 0)])) else(iL [(qW b.2 0),(gx b.2 1)])) else none) else(iR (0,[(qW a 0)]))) [(qW d.2 0),(gx d.2 1)]).bind λw=>
 some (qW w.2 0)
def RU{lp}(a:ak lp):af 111 (m3 (HC lp)):=nq 0 Tryz.f189 Qf a
def HD(lp:Lp)(c:Ca)(a0:D)(a1:D):Option D:=
 qG a0 [0] λa=>
 qG a1 [0] λb=>
 qB .sub a b λd=>
 qG a0 [1] λe=>
 qG a1 [1] λf=>
 qB .sub e f λg=>
 qG a0 [2] λh=>
 qG a1 [2] λi=>
 qB .sub h i λj=>
 some (D.st [d,g,j])
def RW{lp}(a:ak lp):af 112 (m2 (HD lp)):=aB 0 Tryz.f122 .leaf a
def HE(lp:Lp)(c:Ca)(a0:D):Option D:=
 some (D.bool (!(D.beq a0 a0)))
def RY{lp}(a:ak lp):af 115 (m1 (HE lp)):=a7 0 Tryz.f214 .leaf a
def Qg:Ann:=(.tl (.two (.reg [] 8) .leaf))
def HF(lp:Lp)(c:Ca)(a0:D)(a1:D):Option D:=
 qT a0 λa=>
(if a then(D.truth (D.bool (!(D.beq a1 (D.st (D.putParts (List.replicate 16 (D.int .u32 0)) [])))))) else(some false)).bind λb=>
 some (D.st [(D.bool false),(D.bool b),a1])
def RZ{lp}(a:ak lp):af 116 (m2 (HF lp)):=aB 0 Tryz.f115 Qg a
def HG(lp:Lp)(c:Ca)(a0:D)(a1:D):Option D:=
 qG a0 [1] λn=>
 qG a1 [2] λo=>
 qB .mul n o λp=>
 qG a0 [2] λq=>
 qG a1 [1] λr=>
 qB .mul q r λs=>
 qB .sub p s λt=>
 qG a0 [2] λu=>
 qG a1 [0] λv=>
 qB .mul u v λa=>
 qG a0 [0] λb=>
 qG a1 [2] λd=>
 qB .mul b d λe=>
 qB .sub a e λf=>
 qG a0 [0] λg=>
 qG a1 [1] λh=>
 qB .mul g h λi=>
 qG a0 [1] λj=>
 qG a1 [0] λk=>
 qB .mul j k λl=>
 qB .sub i l λm=>
 some (D.st [t,f,m])
def R5{lp}(a:ak lp):af 117 (m2 (HG lp)):=aB 0 Tryz.f210 .leaf a
def Qh:Ann:=(.tl (.two (.tl (.two (.loop ⟨[(7,.di)],[],[5,6]⟩ [(.ret,⟨[(2,.dv Ty.bool)],[],[]⟩),(.exit 0,⟨[],[],[]⟩)] .leaf) .leaf)) .leaf))
def HH(lp:Lp)(c:Ca)(a0:D):Option D:=
 qS a0 λk=>
(qZ lp (λv2=>
 qC .lss (gx v2 0) (Jn (k.length)) λi=>
 if i then(qX a0 (gx v2 0) λh=>
 qG h [0] λl=>
 qT l λj=>
(if j then(some true) else((c 167 [h]).bind λe=>
(D.un .not e).bind λf=>
 D.truth f)).bind λb=>
 qT (D.bool b) λd=>
 if d then(iR (0,[(D.bool false)])) else(qB .add (gx v2 0) (Jn 1) λg=>
 iL [g])) else(iR (1,[]))) [(Jn 0)]).bind λa=>
 if a.1=0 then(some (gx a.2 0)) else(some (D.bool true))
def R7{lp}(a:ak lp):af 118 (m1 (HH lp)):=a7 0 Tryz.f163 Qh a
def HI(lp:Lp)(c:Ca) :Option D:=
 some (D.st [(D.bool true),(D.bool false),(av aU)])
def R8{lp}(a:ak lp):af 119 (m0 (HI lp)):=vK 0 Tryz.f164 .leaf a
def Qi:Ann:=(.tl (.tl (.tl (.two (.tl (.two (.loop ⟨[(2,.sp aU 4098),(3,.sp aU 4099),(4,.sp aU 4100),(6,.sp aU 8198),(7,.dv (Ty.int .u64)),(9,.di)],[(4098,.keep aU 2),(4099,.keep aU 3),(4100,.keep aU 4),(8198,.one aU (.dv aU))],[]⟩ [(.exit 0,⟨[(4,.sp aU 4100),(6,.sp aU 8198),(7,.dv (Ty.int .u64))],[(4100,.keep aU 4),(8198,.one aU (.dv aU))],[]⟩)] (.tl (.tl (.two (.two (.tl (.two (.reg [] 11) .leaf)) .leaf) .leaf)))) .leaf)) .leaf))))
def HJ(lp:Lp)(c:Ca)(a0:D)(a1:D):Option D:=
(qZ lp (λv1=>
 qC .lss (gx v1 1) (Jn 16) λi=>
 if i then(qJ (gx v1 1) 16 a0 λj=>
(D.conv .u64 j).bind λk=>
 qJ (gx v1 1) 16 a1 λl=>
(D.conv .u64 l).bind λm=>
 qB .add k m λd=>
 qB .add (gx v1 0) d λb=>
(D.conv .u32 b).bind λe=>
(D.idx (gx v1 1) 16).bind λi13=>
(D.set (gx v1 2) [i13] e).bind λf=>
 qB .shr b (D.int .u64 32) λg=>
 qB .add (gx v1 1) (Jn 1) λh=>
 iL [g,h,f]) else(iR (0,[(gx v1 0),(gx v1 2)]))) [(D.int .u64 0),(Jn 0),(av aU)]).bind λa=>
 some (D.tup [(gx a.2 1),(D.bool (D.beq (gx a.2 0) (D.int .u64 0)))])
def R9{lp}(a:ak lp):af 120 (m2 (HJ lp)):=aB 0 Tryz.f171 Qi a
def Qj:Ann:=(.tl (.two (.tl (.two (.loop ⟨[(2,.sp aU 4098),(3,.sp aU 4099),(5,.di)],[(4098,.keep aU 2),(4099,.keep aU 3)],[]⟩ [(.ret,⟨[(4,.di)],[],[]⟩),(.exit 0,⟨[],[],[]⟩)] (.tl (.two (.two (.two (.reg [] 6) (.two (.two (.reg [] 7) .leaf) .leaf)) .leaf) .leaf))) .leaf)) .leaf))
def HK(lp:Lp)(c:Ca)(a0:D)(a1:D):Option D:=
(qZ lp (λv1=>
 qC .geq (gx v1 0) (Jn 0) λg=>
 if g then(qJ (gx v1 0) 16 a0 λi=>
 qJ (gx v1 0) 16 a1 λj=>
 qT (D.bool (!(D.beq i j))) λh=>
 if h then(qJ (gx v1 0) 16 a0 λd=>
 qJ (gx v1 0) 16 a1 λe=>
(c 168 [d,e]).bind λb=>
 iR (0,[b])) else(qB .sub (gx v1 0) (Jn 1) λf=>
 iL [f])) else(iR (1,[]))) [(Jn 15)]).bind λa=>
 if a.1=0 then(some (gx a.2 0)) else(some (Jn 0))
def Sa{lp}(a:ak lp):af 121 (m2 (HK lp)):=aB 0 Tryz.f170 Qj a
def Qk:Ann:=(.tl (.tl (.tl (.two (.tl (.two (.loop ⟨[(2,.sp aU 4098),(3,.sp aU 4099),(4,.sp aU 4100),(5,.sp aU 8197),(6,.dv (Ty.int .u64)),(9,.di)],[(4098,.keep aU 2),(4099,.keep aU 3),(4100,.keep aU 4),(8197,.one aU (.dv aU))],[]⟩ [(.exit 0,⟨[(4,.sp aU 4100),(5,.sp aU 8197)],[(4100,.keep aU 4),(8197,.one aU (.dv aU))],[]⟩)] (.tl (.tl (.two (.two (.tl (.two (.reg [] 11) .leaf)) .leaf) .leaf)))) .leaf)) .leaf))))
def HL(lp:Lp)(c:Ca)(a0:D)(a1:D):Option D:=
(qZ lp (λv1=>
 qC .lss (gx v1 1) (Jn 16) λi=>
 if i then(qJ (gx v1 1) 16 a0 λj=>
(D.conv .u64 j).bind λk=>
 qJ (gx v1 1) 16 a1 λl=>
(D.conv .u64 l).bind λm=>
 qB .sub k m λd=>
 qB .sub d (gx v1 0) λa=>
(D.conv .u32 a).bind λe=>
(D.idx (gx v1 1) 16).bind λi13=>
(D.set (gx v1 2) [i13] e).bind λf=>
 qB .shr a (D.int .u64 63) λg=>
 qB .add (gx v1 1) (Jn 1) λh=>
 iL [g,h,f]) else(iR (0,[(gx v1 2)]))) [(D.int .u64 0),(Jn 0),(av aU)]).bind λb=>
 some (gx b.2 0)
def Sc{lp}(a:ak lp):af 122 (m2 (HL lp)):=aB 0 Tryz.f172 Qk a
def HM(lp:Lp)(c:Ca)(a0:D)(a1:D):Option D:=
 qG a0 [1] λn=>
 qG a1 [2] λo=>
 qB .mul n o λp=>
 qG a0 [2] λq=>
 qG a1 [1] λr=>
 qB .mul q r λs=>
 qB .sub p s λt=>
 qG a0 [2] λu=>
 qG a1 [0] λv=>
 qB .mul u v λa=>
 qG a0 [0] λb=>
 qG a1 [2] λd=>
 qB .mul b d λe=>
 qB .sub a e λf=>
 qG a0 [0] λg=>
 qG a1 [1] λh=>
 qB .mul g h λi=>
 qG a0 [1] λj=>
 qG a1 [0] λk=>
 qB .mul j k λl=>
 qB .sub i l λm=>
 some (D.st [t,f,m])
def Sd{lp}(a:ak lp):af 123 (m2 (HM lp)):=aB 0 Tryz.f215 .leaf a
def Ql:Ann:=(.tl (.tl (.tl (.two (.tl (.two (.loop ⟨[(1,.sp aP 4097),(5,.di)],[(4097,.keep aP 1)],[]⟩ [(.ret,⟨[(2,.di),(3,.dv Ty.bool)],[],[]⟩),(.exit 0,⟨[(1,.sp aP 4097)],[(4097,.keep aP 1)],[]⟩)] .leaf) .leaf)) .leaf))))
def Db(lp:Lp)(c:Ca)(a0:D):Option D:=
(c 76 [a0]).bind λr1=>
 qN r1 λq=>
(if q then(some true) else(qG a0 [2,1] λt=>
 qB .geq t (D.int .u32 1073741824) λu=>
 D.truth u)).bind λr=>
 qT (D.bool r) λs=>
 if s then(some (D.tup [(Jn 0),(D.bool false)])) else((qZ lp (λg=>
 qC .lss (gx g 0) (Jn 16) λd=>
 if d then((D.idx (gx g 0) 16).bind λi11=>
 qG a0 [2,i11] λh=>
 qT (D.bool (!(D.beq h (D.int .u32 0)))) λe=>
 if e then(iR (0,[(Jn 0),(D.bool false)])) else(qB .add (gx g 0) (Jn 1) λi=>
 iL [i])) else(iR (1,[]))) [(Jn 2)]).bind λa=>
 if a.1=0 then(some (D.tup [(gx a.2 0),(gx a.2 1)])) else(qG a0 [2,1] λj=>
(D.conv .i64 j).bind λk=>
 qB .mul k (Jn 4294967296) λl=>
 qG a0 [2,0] λm=>
(D.conv .i64 m).bind λn=>
 qB .add l n λb=>
 qG a0 [1] λo=>
 qT o λf=>
 if f then((D.un .neg b).bind λp=>
 some (D.tup [p,(D.bool true)])) else(some (D.tup [b,(D.bool true)]))))
def Se{lp}(a:ak lp):af 124 (m1 (Db lp)):=a7 0 Tryz.f148 Ql a
def HN(lp:Lp)(c:Ca) :Option D:=
 some (D.st [(D.bool true),(D.bool false),(av aU)])
def Sf{lp}(a:ak lp):af 125 (m0 (HN lp)):=vK 0 Tryz.f147 .leaf a
def Qm:Ann:=(.tl (.tl (.tl (.two (.tl (.two (.loop ⟨[(5,.ow Ti),(6,.di),(7,.di)],[],[0,1]⟩ [(.exit 0,⟨[(5,.ow Ti)],[],[]⟩)] (.tl (.two (.two (.two (.reg [] 10) (.tl (.cut [(.normal,⟨[(5,.ow Ti),(6,.di),(8,.di)],[],[0,1,7]⟩)] [0,1,7] [] .leaf .leaf))) .leaf) .leaf))) .leaf)) .leaf))))
def HO(lp:Lp)(c:Ca)(a0:D)(a1:D):Option D:=
(qZ lp (λv1=>
 qL a0 (gx v1 2) λi=>
 if i then(qX a0 (gx v1 2) λk=>
(c 141 [a1,(gx v1 2)]).bind λj=>
 qB .sub k j λl=>
 qB .sub l (gx v1 1) λb=>
(qC .lss b (Jn 0) λd=>
 if d then(qB .add b (Jn 65536) λg=>
 some (0,[(qW v1 0),(Jn 1),g])) else(some (0,[(qW v1 0),(Jn 0),b]))).bind λ(a:Nat×List D)=>
 if List.length (qV a.2 0)+List.length [(gx a.2 2)]<=1073741824 then(qB .add (gx v1 2) (Jn 1) λh=>
 iL [(D.sl ((qV a.2 0)++[(gx a.2 2)])),(gx a.2 1),h]) else none) else(iR (0,[(qW v1 0)]))) [(D.sl []),(Jn 0),(Jn 0)]).bind λe=>
(c 140 [(qW e.2 0)]).bind λf=>
 some f
def Sg{lp}(a:ak lp):af 126 (m2 (HO lp)):=aB 0 Tryz.f155 Qm a
def Qn:Ann:=(.tl (.tl (.two (.two (.loop ⟨[(1,.sp aU 4097),(3,.di)],[(4097,.keep aU 1)],[]⟩ [(.exit 0,⟨[(3,.di)],[],[]⟩)] .leaf) .leaf) .leaf)))
def HP(lp:Lp)(c:Ca)(a0:D):Option D:=
(qZ lp (λv1=>
 qC .gtr (gx v1 0) (Jn 0) λb=>
(if b then(qB .sub (gx v1 0) (Jn 1) λf=>
 qJ f 16 a0 λg=>
 D.truth (D.bool (D.beq g (D.int .u32 0)))) else(some false)).bind λd=>
 qT (D.bool d) λe=>
 if e then(qB .sub (gx v1 0) (Jn 1) λh=>
 iL [h]) else(iR (0,[(gx v1 0)]))) [(Jn 16)]).bind λa=>
 some (gx a.2 0)
def Si{lp}(a:ak lp):af 127 (m1 (HP lp)):=a7 0 Tryz.f165 Qn a
def ER(lp:Lp)(c:Ca)(a0:D):Option D:=
 qG a0 [0] λe=>
 qN e λa=>
(if a then((c 167 [a0]).bind λd=>
 D.truth d) else(some false)).bind λb=>
 some (D.bool b)
def Sj{lp}(a:ak lp):af 128 (m1 (ER lp)):=a7 0 Tryz.f109 .leaf a
def HR(lp:Lp)(c:Ca)(a0:D):Option D:=
(c 118 [(D.sl [a0])]).bind λr1=>
 qN r1 λa=>
(if a then(some true) else(qG a0 [2] λf=>
 D.truth (D.bool (D.beq f (D.st (D.putParts (List.replicate 16 (D.int .u32 0)) [])))))).bind λb=>
 qT (D.bool b) λd=>
 if d then(some (Jn 0)) else(qG a0 [1] λg=>
 qT g λe=>
 if e then(some (Jn (-1))) else(some (Jn 1)))
def Sl{lp}(a:ak lp):af 129 (m1 (HR lp)):=a7 0 Tryz.f106 .leaf a
def HS(lp:Lp)(c:Ca) :Option D:=
(c 119 []).bind λr1=>
(c 169 []).bind λa=>
 some (D.st [r1,a])
def Sn{lp}(a:ak lp):af 130 (m0 (HS lp)):=vK 0 Tryz.f107 .leaf a
def Qo:Ann:=(.tl (.tl (.two (.tl (.two (.two (.reg [] 21) (.two (.two (.loop ⟨[(4,.sp aP 4100),(5,.dv (Ty.int .u64)),(6,.dv (Ty.int .u64))],[(4100,.keep aP 4)],[]⟩ [(.exit 0,⟨[(4,.sp aP 4100),(5,.dv (Ty.int .u64))],[(4100,.keep aP 4)],[]⟩)] (.tl (.two (.reg [] 5) .leaf))) .leaf) .leaf)) .leaf)) (.two (.two (.reg [] 6) (.tl (.two (.tl (.two (.reg [] 5) .leaf)) .leaf))) .leaf))))
def HT(lp:Lp)(c:Ca)(a0:D)(a1:D):Option D:=
(c 118 [(D.sl [a0,a1])]).bind λr1=>
 qN r1 λI=>
 if I then((c 119 []).bind λK=>
 some K) else(qG a0 [2] λN=>
(c 127 [N]).bind λL=>
 qC .leq L (Jn 2) λJ=>
(if J then(qG a1 [2] λO=>
(c 127 [O]).bind λi=>
 qB .leq i (Jn 2) λo=>
 D.truth o) else(some false)).bind λe=>
 qT (D.bool e) λf=>
 if f then(qG a0 [2,1] λp=>
(D.conv .u64 p).bind λq=>
 qB .shl q (D.int .u64 32) λr=>
 qG a0 [2,0] λs=>
(D.conv .u64 s).bind λt=>
 qB .or r t λu=>
 qG a1 [2,1] λv=>
(D.conv .u64 v).bind λw=>
 qB .shl w (D.int .u64 32) λx=>
 qG a1 [2,0] λy=>
(D.conv .u64 y).bind λz=>
 qB .or x z λA=>
(qZ lp (λv26=>
 qT (D.bool (!(D.beq (gx v26 1) (D.int .u64 0)))) λg=>
 if g then(qB .rem (gx v26 0) (gx v26 1) λB=>
 iL [(gx v26 1),B]) else(iR (0,[(gx v26 0)]))) [u,A]).bind λb=>
(D.conv .u32 (gx b.2 0)).bind λC=>
 qB .shr (gx b.2 0) (D.int .u64 32) λE=>
(D.conv .u32 E).bind λF=>
(c 116 [(D.bool false),(D.st (D.putParts (List.replicate 16 (D.int .u32 0)) [(0,C),(1,F)]))]).bind λj=>
 some j) else(qG a0 [2] λG=>
 qG a1 [2] λa=>
 qT (D.bool (!(D.beq a (D.st (D.putParts (List.replicate 16 (D.int .u32 0)) []))))) λh=>
 if h then((c 170 [G,a]).bind λd=>
(D.tupAt d 0).bind λM=>
(D.tupAt d 1).bind λH=>
(c 116 [(D.bool false),a]).bind λk=>
(c 116 [(D.bool false),H]).bind λl=>
(c 131 [k,l]).bind λm=>
 some m) else((c 171 [a0]).bind λn=>
 some n)))
def Sp{lp}(a:ak lp):af 131 (m2 (HT lp)):=aB 0 Tryz.f110 Qo a
def ES(lp:Lp)(c:Ca)(a0:D)(a1:D):Option D:=
(c 172 [a0,a1]).bind λr1=>
(D.tupAt r1 0).bind λa=>
(D.tupAt r1 1).bind λb=>
 some a
def Sq{lp}(a:ak lp):af 132 (m2 (ES lp)):=aB 0 Tryz.f112 .leaf a
def HU(lp:Lp)(c:Ca) :Option D:=
(c 34 [(Jn 1)]).bind λr1=>
 some r1
def Sr{lp}(a:ak lp):af 133 (m0 (HU lp)):=vK 0 Tryz.f91 .leaf a
def Qq:Ann:=(.tl (.tl (.two (.tl (.two (.loop ⟨[(2,.sp bY 4098),(3,.sp bY 4099),(4,.sp bK 4100),(5,.sp bK 8197),(8,.di)],[(4098,.keep bY 2),(4099,.keep bY 3),(4100,.keep bK 4),(8197,.one bK (.dv bK))],[]⟩ [(.exit 0,⟨[(4,.sp bK 4100),(5,.sp bK 8197)],[(4100,.keep bK 4),(8197,.one bK (.dv bK))],[]⟩)] (.tl (.tl (.two (.two (.tl (.reg [] 9)) .leaf) .leaf)))) .leaf)) .leaf)))
def Nd(lp:Lp)(c:Ca)(a0:D)(a1:D):Option D:=
(c 74 [(Jn 0)]).bind λr1=>
(qZ lp (λv2=>
 qC .lss (gx v2 0) (Jn 3) λe=>
 if e then(qJ (gx v2 0) 3 a0 λg=>
 qJ (gx v2 0) 3 a1 λh=>
(c 174 [g,h]).bind λf=>
(c 173 [(gx v2 1),f]).bind λa=>
 qB .add (gx v2 0) (Jn 1) λd=>
 iL [d,a]) else(iR (0,[(gx v2 1)]))) [(Jn 0),r1]).bind λb=>
 some (gx b.2 0)
def Ss{lp}(a:ak lp):af 134 (m2 (Nd lp)):=aB 0 Tryz.f130 Qq a
def Qr:Ann:=(.tl (.two (.reg [] 10) .leaf))
def Nf(lp:Lp)(c:Ca)(a0:D):Option D:=
 qG a0 [0] λe=>
(c 74 [e]).bind λa=>
 qG a0 [1] λf=>
(c 74 [f]).bind λb=>
 qG a0 [2] λg=>
(c 74 [g]).bind λd=>
 some (D.st [a,b,d])
def Su{lp}(a:ak lp):af 135 (m1 (Nf lp)):=a7 0 Tryz.f62 Qr a
def ET(lp:Lp)(c:Ca)(a0:D):Option D:=
 qG a0 [0] λp=>
(c 128 [p]).bind λm=>
 qT m λj=>
(if j then(qG a0 [1] λq=>
(c 128 [q]).bind λn=>
 D.truth n) else(some false)).bind λk=>
 qT (D.bool k) λl=>
(if l then(qG a0 [1] λr=>
(c 129 [r]).bind λo=>
 qB .gtr o (Jn 0) λg=>
 D.truth g) else(some false)).bind λa=>
 qT (D.bool a) λb=>
(if b then(qG a0 [0] λh=>
 qG a0 [1] λi=>
(c 131 [h,i]).bind λe=>
(c 169 []).bind λf=>
 D.truth (D.bool (D.beq e f))) else(some false)).bind λd=>
 some (D.bool d)
def Sv{lp}(a:ak lp):af 136 (m1 (ET lp)):=a7 0 Tryz.f105 .leaf a
def HV(lp:Lp)(c:Ca)(a0:D)(a1:D):Option D:=
(c 172 [a0,a1]).bind λr1=>
(D.tupAt r1 0).bind λb=>
(D.tupAt r1 1).bind λa=>
 some a
def Sw{lp}(a:ak lp):af 137 (m2 (HV lp)):=aB 0 Tryz.f117 .leaf a
def Qs:Ann:=(.tl (.two (.reg [] 3) .leaf))
def HW(lp:Lp)(c:Ca)(a0:D):Option D:=
(c 169 []).bind λr1=>
(c 62 [a0,r1]).bind λa=>
 some a
def Sx{lp}(a:ak lp):af 138 (m1 (HW lp)):=a7 0 Tryz.f119 Qs a
def Qt:Ann:=(.tl (.tl (.two (.tl (.two (.loop ⟨[(1,.sp aP 4097),(3,.dv Ty.bool),(4,.di)],[(4097,.keep aP 1)],[]⟩ [(.exit 0,⟨[(1,.sp aP 4097),(3,.dv Ty.bool)],[(4097,.keep aP 1)],[]⟩)] .leaf) .leaf)) .leaf)))
def EU(lp:Lp)(c:Ca)(a0:D):Option D:=
(qZ lp (λv1=>
 qC .lss (gx v1 1) (Jn 16) λm=>
 if m then(qT (gx v1 0) λn=>
(if n then((D.idx (gx v1 1) 16).bind λi5=>
 qG a0 [2,i5] λp=>
 D.truth (D.bool (D.beq p (D.int .u32 0)))) else(some false)).bind λo=>
 qB .add (gx v1 1) (Jn 1) λq=>
 iL [(D.bool o),q]) else(iR (0,[(gx v1 0)]))) [(D.bool true),(Jn 0)]).bind λl=>
 qG a0 [0] λg=>
 qT g λa=>
 if a then(qT (gx l.2 0) λb=>
(if b then(qG a0 [1] λh=>
(D.un .not h).bind λi=>
 D.truth i) else(some false)).bind λd=>
 some (D.bool d)) else(qN (gx l.2 0) λe=>
(if e then(some true) else(qG a0 [1] λj=>
(D.un .not j).bind λk=>
 D.truth k)).bind λf=>
 some (D.bool f))
def SA{lp}(a:ak lp):af 139 (m1 (EU lp)):=a7 0 Tryz.f142 Qt a
def Qu:Ann:=(.tl (.tl (.two (.two (.loop ⟨[(3,.di)],[],[0]⟩ [(.exit 0,⟨[(3,.di)],[],[0]⟩)] .leaf) .leaf) .leaf)))
def HX(lp:Lp)(c:Ca)(a0:D):Option D:=
 qS a0 λi=>
(qZ lp (λv2=>
 qC .gtr (gx v2 0) (Jn 0) λg=>
(if g then(qB .sub (gx v2 0) (Jn 1) λj=>
 qX a0 j λk=>
 D.truth (D.bool (D.beq k (Jn 0)))) else(some false)).bind λh=>
 qT (D.bool h) λa=>
 if a then(qB .sub (gx v2 0) (Jn 1) λf=>
 iL [f]) else(iR (0,[(gx v2 0)]))) [(Jn (i.length))]).bind λe=>
 qS a0 λb=>
(D.natOf (gx e.2 0)).bind λi14=>
(D.cut b 0 i14).bind λd=>
 some (D.sl d)
def SB{lp}(a:ak lp):af 140 (m1 (HX lp)):=a7 0 Tryz.f143 Qu a
def HY(lp:Lp)(c:Ca)(a0:D)(a1:D):Option D:=
 qL a0 a1 λa=>
 if a then(qX a0 a1 λb=>
 some b) else(some (Jn 0))
def SC{lp}(a:ak lp):af 141 (m2 (HY lp)):=aB 0 Tryz.f144 .leaf a
def HZ(lp:Lp)(c:Ca)(a0:D):Option D:=
(c 76 [a0]).bind λr1=>
 qN r1 λa=>
 if a then((c 125 []).bind λb=>
 some b) else((c 77 [a0]).bind λd=>
(c 81 [(D.bool false),d]).bind λe=>
 some e)
def SD{lp}(a:ak lp):af 142 (m1 (HZ lp)):=a7 0 Tryz.f149 .leaf a
end Sy
end
end
noncomputable section
set_option maxHeartbeats 0
noncomputable section
namespace Sy
open Go Go.Proofs
def Qv:Ann:=let a:LS:=[(6,.same (.mem Ti 8207)),(11,.di),(12,.dv K5)]
 (.tl (.tl (.tl (.two (.reg [] 11) (.tl (.two (.tl (.two (.loop ⟨[(6,.same (.mem Ti 8207)),(9,.dv K5),(10,.di)],[(8207,.many Ti)],[0,1,7,8]⟩ [(.exit 0,⟨[(6,.same (.mem Ti 8207)),(9,.dv K5)],[(8207,.many Ti)],[]⟩)] (.tl (.two (.two (.tl (.tl (.tl (.two (.two (.loop ⟨a,[(8207,.many Ti)],[0,1,7,8,9,10]⟩ [(.exit 2,⟨a,[(8207,.many Ti)],[0,1,7,8,9,10]⟩)] .leaf) .leaf) .leaf)))) .leaf) .leaf))) .leaf)) (.two (.reg [6] 5) .leaf)))))))
def H0(lp:Lp)(c:Ca)(a0:D)(a1:D):Option D:=
 qS a0 λI=>
(D.natOf (Jn (I.length))).bind λi2=>
 if i2<=1073741824 then(qS a1 λg=>
 qB .sub (Jn (g.length)) (Jn 1) λJ=>
 qX a1 J λL=>
 qB .mul L (Jn 65536) λM=>
 qB .sub (Jn (g.length)) (Jn 2) λN=>
(c 175 [a1,N]).bind λn=>
 qB .add M n λw=>
 qS a0 λm=>
 qB .sub (Jn (m.length)) (Jn 1) λx=>
(qZ lp (λa=>
 qC .geq (gx a 1) (Jn 0) λk=>
 if k then(qX a0 (gx a 1) λi=>
 qS (gx a 0) λf=>
 if List.length [i]+f.length<=1073741824 then((c 140 [(D.sl ([i]++f))]).bind λd=>
(c 175 [d,(Jn (g.length))]).bind λo=>
 qB .mul o (Jn 4294967296) λy=>
 qB .sub (Jn (g.length)) (Jn 1) λz=>
(c 175 [d,z]).bind λp=>
 qB .mul p (Jn 65536) λA=>
 qB .add y A λB=>
 qB .sub (Jn (g.length)) (Jn 2) λC=>
(c 175 [d,C]).bind λq=>
 qB .add B q λE=>
 qB .quo E w λF=>
(D.min2 (Jn 65535) F).bind λj=>
(c 146 [a1,(D.sl [j])]).bind λr=>
(qZ lp (λb=>
(c 78 [d,(gx b 1)]).bind λs=>
 qT s λl=>
 if l then(qB .sub (gx b 0) (Jn 1) λG=>
(c 126 [(gx b 1),a1]).bind λt=>
 iL [G,t,(qW b 2)]) else(iR (0,[(gx b 0),(gx b 1),(qW b 2)]))) [j,r,(qW a 2)]).bind λe=>
(D.idx (gx a 1) (List.length (qV e.2 2))).bind λi40=>
((qV e.2 2)[i40]?).bind λK=>
(c 126 [d,(gx e.2 1)]).bind λu=>
 qB .sub (gx a 1) (Jn 1) λH=>
 iL [u,H,(D.sl (List.set (qV e.2 2) i40 (gx e.2 0)))]) else none) else(iR (0,[(gx a 0),(qW a 2)]))) [(D.sl []),x,(D.sl (List.replicate i2 (Jn 0)))]).bind λh=>
(c 140 [(qW h.2 1)]).bind λv=>
 some (D.tup [v,(gx h.2 0)])) else none
def SE{lp}(a:ak lp):af 143 (m2 (H0 lp)):=aB 0 Tryz.f150 Qv a
def Qw:Ann:=(.tl (.tl (.cut [(.normal,⟨[(5,.di)],[],[]⟩)] [] [] .leaf .leaf)))
def EV(lp:Lp)(c:Ca)(a0:D)(a1:D):Option D:=
 qB .quo a0 a1 λa=>
(qB .rem a0 a1 λg=>
 qT (D.bool (!(D.beq g (Jn 0)))) λb=>
(if b then(qB .lss a0 (Jn 0) λh=>
 qB .lss a1 (Jn 0) λi=>
 D.truth (D.bool (!(D.beq h i)))) else(some false)).bind λd=>
 qT (D.bool d) λe=>
 if e then(qB .sub a (Jn 1) λj=>
 some (0,[j])) else(some (0,[a]))).bind λ(f:Nat×List D)=>
 some (gx f.2 0)
def SF{lp}(a:ak lp):af 144 (m2 (EV lp)):=aB 0 Tryz.f152 Qw a
def H1(lp:Lp)(c:Ca)(a0:D):Option D:=
 qC .lss a0 (Jn 2147483648) λa=>
(if a then(qB .gtr a0 (Jn (-2147483648)) λd=>
 D.truth d) else(some false)).bind λb=>
 some (D.bool b)
def SG{lp}(a:ak lp):af 145 (m1 (H1 lp)):=a7 0 Tryz.f156 .leaf a
def Qx:Ann:=let a:LS:=[(5,.same (.mem Ti 8209))]
 (.tl (.tl (.two (.tl (.two (.loop ⟨[(5,.same (.mem Ti 8209)),(6,.di)],[(8209,.many Ti)],[0,1]⟩ [(.exit 0,⟨a,[(8209,.many Ti)],[]⟩)] (.tl (.two (.two (.two (.tl (.two (.loop ⟨[(5,.same (.mem Ti 8209)),(7,.di)],[(8209,.many Ti)],[0,1,6]⟩ [(.exit 2,⟨a,[(8209,.many Ti)],[0,1,6]⟩)] (.tl (.two (.two (.reg [] 21) .leaf) .leaf))) .leaf)) (.tl (.tl (.two (.loop ⟨[(5,.same (.mem Ti 8209)),(8,.di),(9,.di)],[(8209,.many Ti)],[0,1,6]⟩ [(.exit 4,⟨a,[(8209,.many Ti)],[0,1,6]⟩)] .leaf) .leaf)))) .leaf) .leaf))) .leaf)) (.two (.reg [5] 3) .leaf))))
def H2(lp:Lp)(c:Ca)(a0:D)(a1:D):Option D:=
 qS a0 λw=>
 qS a1 λx=>
 qB .add (Jn (w.length)) (Jn (x.length)) λz=>
 qB .add z (Jn 1) λB=>
(D.natOf B).bind λi5=>
 if i5<=1073741824 then((qZ lp (λv6=>
 qL a0 (gx v6 0) λv=>
 if v then((qZ lp (λv10=>
 qL a1 (gx v10 0) λb=>
 if b then(qB .add (gx v6 0) (gx v10 0) λi=>
 qB .add (gx v6 0) (gx v10 0) λj=>
(D.idx j (List.length (qV v10 1))).bind λi16=>
((qV v10 1)[i16]?).bind λk=>
 qX a0 (gx v6 0) λl=>
 qX a1 (gx v10 0) λm=>
 qB .mul l m λn=>
 qB .add k n λo=>
(D.idx i (List.length (qV v10 1))).bind λi26=>
((qV v10 1)[i26]?).bind λy=>
 qB .add (gx v10 0) (Jn 1) λp=>
 iL [p,(D.sl (List.set (qV v10 1) i26 o))]) else(iR (0,[(qW v10 1)]))) [(Jn 0),(qW v6 1)]).bind λe=>
(qZ lp (λv30=>
 qC .lss (gx v30 1) (Jn (List.length (qV v30 2))) λd=>
 if d then((D.idx (gx v30 1) (List.length (qV v30 2))).bind λi33=>
((qV v30 2)[i33]?).bind λq=>
 qB .add q (gx v30 0) λa=>
 qB .rem a (Jn 65536) λr=>
(D.idx (gx v30 1) (List.length (qV v30 2))).bind λi37=>
((qV v30 2)[i37]?).bind λA=>
 qB .quo a (Jn 65536) λs=>
 qB .add (gx v30 1) (Jn 1) λt=>
 iL [s,t,(D.sl (List.set (qV v30 2) i37 r))]) else(iR (0,[(qW v30 2)]))) [(Jn 0),(Jn 0),(qW e.2 0)]).bind λf=>
 qB .add (gx v6 0) (Jn 1) λu=>
 iL [u,(qW f.2 0)]) else(iR (0,[(qW v6 1)]))) [(Jn 0),(D.sl (List.replicate i5 (Jn 0)))]).bind λg=>
(c 140 [(qW g.2 0)]).bind λh=>
 some h) else none
def SH{lp}(a:ak lp):af 146 (m2 (H2 lp)):=aB 0 Tryz.f157 Qx a
def Qy:Ann:=(.tl (.tl (.two (.tl (.two (.loop ⟨[(2,.sp fB 4098),(3,.sp fB 4099),(4,.sp aP 4100),(5,.sp aP 8197),(8,.di)],[(4098,.keep fB 2),(4099,.keep fB 3),(4100,.keep aP 4),(8197,.one aP (.dv aP))],[]⟩ [(.exit 0,⟨[(4,.sp aP 4100),(5,.sp aP 8197)],[(4100,.keep aP 4),(8197,.one aP (.dv aP))],[]⟩)] (.tl (.tl (.two (.two (.tl (.reg [] 9)) .leaf) .leaf)))) .leaf)) .leaf)))
def H3(lp:Lp)(c:Ca)(a0:D)(a1:D):Option D:=
(c 54 [(Jn 0)]).bind λr1=>
(qZ lp (λv2=>
 qC .lss (gx v2 0) (Jn 3) λe=>
 if e then(qJ (gx v2 0) 3 a0 λg=>
 qJ (gx v2 0) 3 a1 λh=>
(c 61 [g,h]).bind λf=>
(c 57 [(gx v2 1),f]).bind λa=>
 qB .add (gx v2 0) (Jn 1) λd=>
 iL [d,a]) else(iR (0,[(gx v2 1)]))) [(Jn 0),r1]).bind λb=>
 some (gx b.2 0)
def SI{lp}(a:ak lp):af 147 (m2 (H3 lp)):=aB 0 Tryz.f113 Qy a
def Qz:Ann:=(.tl (.two (.tl (.two (.loop ⟨[(2,.sp fB 4098),(6,.di)],[(4098,.one fB (.dv fB))],[5]⟩ [(.exit 0,⟨[(2,.sp fB 4098)],[(4098,.one fB (.dv fB))],[]⟩)] .leaf) .leaf)) .leaf))
def H4(lp:Lp)(c:Ca)(a0:D):Option D:=
(qZ lp (λv1=>
 qC .lss (gx v1 0) (Jn 3) λb=>
 if b then((D.idx (gx v1 0) 3).bind λi4=>
(D.fld a0 i4).bind λe=>
(c 54 [e]).bind λd=>
(D.idx (gx v1 0) 3).bind λi7=>
(D.set (gx v1 1) [i7] d).bind λf=>
 qB .add (gx v1 0) (Jn 1) λg=>
 iL [g,f]) else(iR (0,[(gx v1 1)]))) [(Jn 0),(D.st [(D.st [(D.bool false),(D.bool false),(av aU)]),(D.st [(D.bool false),(D.bool false),(av aU)]),(D.st [(D.bool false),(D.bool false),(av aU)])])]).bind λa=>
 some (gx a.2 0)
def SJ{lp}(a:ak lp):af 148 (m1 (H4 lp)):=a7 0 Tryz.f114 Qz a
def QA:Ann:=(.tl (.two (.two (.loop ⟨[(0,.di),(1,.di)],[],[]⟩ [(.exit 0,⟨[(0,.di)],[],[]⟩)] (.tl (.two (.reg [] 5) .leaf))) .leaf) .leaf))
def EW(lp:Lp)(c:Ca)(a0:D)(a1:D):Option D:=
(qZ lp (λv1=>
 qT (D.bool (!(D.beq (gx v1 1) (Jn 0)))) λb=>
 if b then(qB .rem (gx v1 0) (gx v1 1) λd=>
 iL [(gx v1 1),d]) else(iR (0,[(gx v1 0)]))) [a0,a1]).bind λa=>
(D.un .neg (gx a.2 0)).bind λe=>
(D.max2 (gx a.2 0) e).bind λf=>
 some f
def SK{lp}(a:ak lp):af 152 (m2 (EW lp)):=aB 0 Tryz.f211 QA a
def QB:Ann:=(.tl (.two (.tl (.two (.loop ⟨[(2,.sp K1 4098),(3,.sp K1 4099),(4,.sp K1 4100),(6,.di)],[(4098,.one K1 (.dv K1)),(4099,.keep K1 3),(4100,.keep K1 4)],[]⟩ [(.exit 0,⟨[(2,.sp K1 4098),(4,.sp K1 4100)],[(4098,.one K1 (.dv K1)),(4100,.keep K1 4)],[]⟩)] (.tl (.tl (.two (.two (.tl (.reg [] 8)) .leaf) .leaf)))) .leaf)) .leaf))
def H5(lp:Lp)(c:Ca)(a0:D)(a1:D):Option D:=
(qZ lp (λv1=>
 qC .lss (gx v1 0) (Jn 3) λe=>
 if e then(qJ (gx v1 0) 3 (gx v1 1) λf=>
 qJ (gx v1 0) 3 a1 λg=>
 qB .add f g λh=>
(D.idx (gx v1 0) 3).bind λi9=>
(D.set (gx v1 1) [i9] h).bind λb=>
 qB .add (gx v1 0) (Jn 1) λd=>
 iL [d,b]) else(iR (0,[(gx v1 1)]))) [(Jn 0),a0]).bind λa=>
 some (gx a.2 0)
def SL{lp}(a:ak lp):af 154 (m2 (H5 lp)):=aB 0 Tryz.f200 QB a
def QC:Ann:=let a:LO:=[(4097,.keep fB 1),(4098,.keep dq 2),(8195,.one aP (.dv aP))]
 (.tl (.tl (.two (.tl (.two (.loop ⟨[(1,.sp fB 4097),(2,.sp dq 4098),(3,.sp aP 8195),(4,.di)],a,[]⟩ [(.exit 0,⟨[(1,.sp fB 4097),(2,.sp dq 4098),(3,.sp aP 8195)],a,[]⟩)] (.tl (.two (.two (.reg [] 5) .leaf) .leaf))) .leaf)) (.tl (.tl (.tl (.two (.tl (.two (.loop ⟨[(1,.sp fB 4097),(2,.sp dq 4098),(3,.sp aP 8195),(5,.sp dq 28677),(6,.di)],[(4097,.keep fB 1),(4098,.one dq (.dv dq)),(8195,.keep aP 3),(28677,.one dq (.dv dq))],[]⟩ [(.ret,⟨[(2,.sp dq 4098)],[(4098,.one dq (.dv dq))],[]⟩),(.exit 2,⟨[(2,.sp dq 4098),(5,.sp dq 28677)],[(4098,.one dq (.dv dq)),(28677,.one dq (.dv dq))],[]⟩)] (.tl (.two (.two (.two (.reg [] 10) .leaf) .leaf) .leaf))) .leaf)) .leaf)))))))
def H6(lp:Lp)(c:Ca)(a0:D):Option D:=
(c 34 [(Jn 0)]).bind λr1=>
(qZ lp (λv2=>
 qC .lss (gx v2 0) (Jn 3) λu=>
 if u then(qJ (gx v2 0) 3 a0 λw=>
(c 85 [(gx v2 1),w]).bind λv=>
 qB .add (gx v2 0) (Jn 1) λx=>
 iL [x,v]) else(iR (0,[(gx v2 1)]))) [(Jn 0),r1]).bind λm=>
 qG (gx m.2 0) [0] λn=>
 qT n λe=>
 if e then(some (D.st [(D.st [(Jn 0),(Jn 0),(Jn 0)]),(Jn 30)])) else((c 83 [(gx m.2 0)]).bind λj=>
 qT (D.bool (D.beq j (Jn 0))) λf=>
 if f then(some (D.st [(D.st [(Jn 0),(Jn 0),(Jn 0)]),(Jn 31)])) else((qZ lp (λa=>
 qC .lss (gx a 0) (Jn 3) λg=>
 if g then(qJ (gx a 0) 3 a0 λo=>
(c 87 [o,(gx m.2 0)]).bind λk=>
(c 186 [k]).bind λd=>
(D.tupAt d 0).bind λp=>
(D.tupAt d 1).bind λq=>
 qN q λh=>
 if h then(iR (0,[(D.st [(D.st [(Jn 0),(Jn 0),(Jn 0)]),(Jn 30)])])) else((D.idx (gx a 0) 3).bind λi25=>
(D.set (gx a 2) [0,i25] p).bind λr=>
 qB .add (gx a 0) (Jn 1) λs=>
 iL [s,(gx a 1),r])) else(iR (1,[(gx a 1),(gx a 2)]))) [(Jn 0),(D.st [(D.st [(Jn 0),(Jn 0),(Jn 0)]),(Jn 0)]),(D.st [(D.st [(Jn 0),(Jn 0),(Jn 0)]),(Jn 0)])]).bind λb=>
 if b.1=0 then(some (gx b.2 0)) else(qG (gx b.2 1) [0] λt=>
(c 187 [t]).bind λl=>
 qN l λi=>
 if i then(some (D.st [(D.st [(Jn 0),(Jn 0),(Jn 0)]),(Jn 30)])) else(some (gx b.2 1)))))
def SM{lp}(a:ak lp):af 155 (m1 (H6 lp)):=a7 0 Tryz.f173 QC a
def QD:Ann:=let a:LO:=[(4102,.keep K1 6),(4104,.keep K1 8),(8203,.keep K1 11)]
 (.tl (.tl (.two (.tl (.two (.loop ⟨[(6,.sp K1 4102),(8,.sp K1 4104),(11,.sp K1 8203),(12,.di)],a,[0,2]⟩ [(.ret,⟨[(10,.dv Ty.bool)],[],[]⟩),(.exit 0,⟨[],[],[]⟩)] (.tl (.cut [(.normal,⟨[(6,.sp K1 4102),(8,.sp K1 4104),(11,.sp K1 8203)],a,[0,2,12]⟩),(.ret,⟨[(10,.dv Ty.bool)],[],[]⟩)] [0,2,12] [4102,4104,8203] (.two (.two (.two (.reg [] 7) .leaf) (.two (.reg [] 7) (.two (.reg [] 5) .leaf))) .leaf) .leaf))) .leaf)) .leaf)))
def H7(lp:Lp)(c:Ca)(a0:D)(a1:D)(a2:D)(a3:D)(a4:D):Option D:=
(c 112 [a4,a3]).bind λr1=>
(qZ lp (λv2=>
 qL a0 (gx v2 0) λs=>
 if s then((qX a0 (gx v2 0) λu=>
(c 107 [a1,u]).bind λt=>
 qT (D.bool (!(D.beq t a2))) λf=>
 if f then(some (0,[])) else(qX a0 (gx v2 0) λp=>
(c 112 [p,a3]).bind λa=>
(c 123 [r1,a]).bind λl=>
(c 188 [a1,l]).bind λb=>
 qC .lss b (Jn 0) λg=>
(if g then(some true) else(qT (D.bool (D.beq b (Jn 0))) λh=>
 if h then((c 107 [a,r1]).bind λm=>
 qC .lss m (Jn 0) λi=>
 if i then(some true) else((c 107 [a,r1]).bind λn=>
(c 107 [r1,r1]).bind λo=>
 qB .gtr n o λq=>
 D.truth q)) else(some false))).bind λj=>
 qT (D.bool j) λk=>
 if k then(some (1,[(D.bool false)])) else(some (0,[])))).bind λ(d:Nat×List D)=>
 if d.1=0 then(qB .add (gx v2 0) (Jn 1) λr=>
 iL [r]) else(iR (0,[(gx d.2 0)]))) else(iR (1,[]))) [(Jn 0)]).bind λe=>
 if e.1=0 then(some (gx e.2 0)) else(some (D.bool true))
def SN{lp}(a:ak lp):af 156 (m5 (H7 lp)):=Cs 0 Tryz.f217 QD a
def QE:Ann:=let a:LS:=[(0,.dv (Ty.int .u32)),(2,.di)]
 (.tl (.cut [(.normal,⟨a,[],[]⟩)] [] [] .leaf (.cut [(.normal,⟨a,[],[]⟩)] [] [] .leaf .leaf)))
def H8(lp:Lp)(c:Ca)(a0:D):Option D:=
(qC .geq a0 (D.int .u32 65536) λh=>
 if h then(qB .shr a0 (D.int .u64 16) λj=>
 some (0,[j,(Jn 16)])) else(some (0,[a0,(Jn 0)]))).bind λ(a:Nat×List D)=>
(qC .geq (gx a.2 0) (D.int .u32 256) λi=>
 if i then(qB .shr (gx a.2 0) (D.int .u64 8) λk=>
 qB .add (gx a.2 1) (Jn 8) λl=>
 some (0,[k,l])) else(some (0,[(gx a.2 0),(gx a.2 1)]))).bind λ(g:Nat×List D)=>
(D.conv .u8 (gx g.2 0)).bind λb=>
(D.strAt (D.str ((pj (FF Tryz.f219)).getD ByteArray.empty)) b).bind λd=>
(D.conv .i64 d).bind λe=>
 qB .add (gx g.2 1) e λf=>
 some f
def SO{lp}(a:ak lp):af 165 (m1 (H8 lp)):=a7 0 Tryz.f219 QE a
def H9(lp:Lp)(c:Ca)(a0:D):Option D:=
 qG a0 [2] λe=>
 qG a0 [0] λj=>
 qT j λf=>
 if f then(qT (D.bool (D.beq e (D.st (D.putParts (List.replicate 16 (D.int .u32 0)) [])))) λg=>
(if g then(qG a0 [1] λk=>
(D.un .not k).bind λl=>
 D.truth l) else(some false)).bind λh=>
 some (D.bool h)) else(qN (D.bool (D.beq e (D.st (D.putParts (List.replicate 16 (D.int .u32 0)) [])))) λi=>
(if i then(some true) else(qG a0 [1] λb=>
(D.un .not b).bind λd=>
 D.truth d)).bind λa=>
 some (D.bool a))
def SP{lp}(a:ak lp):af 167 (m1 (H9 lp)):=a7 0 Tryz.f166 .leaf a
def Ia(lp:Lp)(c:Ca)(a0:D)(a1:D):Option D:=
(c 194 [a0]).bind λr1=>
(c 194 [a1]).bind λa=>
 qT r1 λb=>
 if b then(qT a λd=>
 if d then(some (Jn 0)) else(some (Jn (-1)))) else(qT a λe=>
 if e then(some (Jn 1)) else(qC .lss a0 a1 λf=>
 if f then(some (Jn (-1))) else(qC .gtr a0 a1 λg=>
 if g then(some (Jn 1)) else(some (Jn 0)))))
def SQ{lp}(a:ak lp):af 168 (m2 (Ia lp)):=aB 0 Tryz.f207 .leaf a
def Ib(lp:Lp)(c:Ca) :Option D:=
(c 54 [(Jn 1)]).bind λr1=>
 some r1
def SR{lp}(a:ak lp):af 169 (m0 (Ib lp)):=vK 0 Tryz.f141 .leaf a
def QF:Ann:=let a:LO:=[(4100,.one aU (.dv aU)),(4101,.one aU (.dv aU)),(24587,.one aU (.dv aU)),(32783,.one rQ (.dv rQ))]
 (.tl (.two (.reg [] 5) (.two (.tl (.two (.two (.reg [] 2) .leaf) .leaf)) (.tl (.tl (.tl (.tl (.tl (.two (.reg [] 2) (.tl (.two (.tl (.two (.loop ⟨[(4,.sp aU 4100),(5,.sp aU 4101),(11,.sp aU 24587),(15,.sp rQ 32783),(16,.di)],[(4100,.one aU (.dv aU)),(4101,.keep aU 5),(24587,.keep aU 11),(32783,.one rQ (.dv rQ))],[6,10]⟩ [(.exit 0,⟨[(4,.sp aU 4100),(5,.sp aU 4101),(15,.sp rQ 32783)],[(4100,.one aU (.dv aU)),(4101,.keep aU 5),(32783,.one rQ (.dv rQ))],[10]⟩)] (.tl (.two (.two (.two (.regI [] 5 (.two (.tl (.two (.reg [] 19) (.tl (.two (.reg [] 7) (.two (.two (.loop ⟨[(0,.sp rQ 32783),(5,.sp aU 65541),(11,.dv (Ty.int .u64)),(12,.dv (Ty.int .u64))],[(4100,.one aU (.dv aU)),(4101,.one aU (.dv aU)),(24587,.one aU (.dv aU)),(32783,.keep rQ 0),(65541,.keep aU 5)],[2,3,10]⟩ [(.exit 0,⟨[(11,.dv (Ty.int .u64))],[(4100,.one aU (.dv aU)),(4101,.one aU (.dv aU)),(24587,.one aU (.dv aU)),(32783,.keep rQ 0)],[]⟩)] .leaf) .leaf) .leaf))))) .leaf)) (.cut [(.normal,⟨[(4,.sp aU 4100),(5,.sp aU 4101),(11,.sp aU 24587),(15,.sp rQ 32783),(17,.dv (Ty.int .u64))],[(4100,.keep aU 4),(4101,.keep aU 5),(24587,.keep aU 11),(32783,.one rQ (.dv rQ))],[6,10,16]⟩)] [6,10,16] [4100,4101,24587] (.two (.regI [] 5 (.two (.tl (.tl (.two (.tl (.two (.loop ⟨[(0,.sp rQ 32783),(6,.sp aU 102406),(11,.dv (Ty.int .u64)),(12,.dv (Ty.int .u64)),(17,.di)],[(4100,.one aU (.dv aU)),(4101,.one aU (.dv aU)),(24587,.one aU (.dv aU)),(32783,.one rQ (.dv rQ)),(102406,.keep aU 6)],[2,3,4,16]⟩ [(.exit 0,⟨[(0,.sp rQ 32783),(11,.dv (Ty.int .u64)),(12,.dv (Ty.int .u64))],a,[2,3]⟩)] .leaf) .leaf)) .leaf))) .leaf)) (.two (.tl (.regI [] 4 (.two (.tl (.tl (.two (.tl (.two (.loop ⟨[(0,.sp rQ 32783),(5,.sp aU 147461),(8,.dv (Ty.int .u64)),(11,.di)],[(4100,.one aU (.dv aU)),(4101,.one aU (.dv aU)),(24587,.one aU (.dv aU)),(32783,.one rQ (.dv rQ)),(147461,.keep aU 5)],[2,3,10]⟩ [(.exit 0,⟨[(0,.sp rQ 32783),(8,.dv (Ty.int .u64))],a,[2,3]⟩)] (.tl (.tl (.two (.two (.tl (.two (.reg [] 15) .leaf)) .leaf) .leaf)))) .leaf)) (.reg [] 12)))) .leaf))) .leaf)) .leaf)) .leaf) .leaf))) .leaf)) (.two (.reg [] 6) .leaf))))))))))))
def Ic(lp:Lp)(c:Ca)(a0:D)(a1:D):Option D:=
(c 127 [a1]).bind λr1=>
(c 127 [a0]).bind λr2=>
(c 121 [a0,a1]).bind λr3=>
 qC .lss r3 (Jn 0) λb5=>
 if b5 then(some (D.tup [(D.st (D.putParts (List.replicate 16 (D.int .u32 0)) [])),a0])) else(qT (D.bool (D.beq r1 (Jn 1))) λb6=>
 if b6 then(qG a1 [0] λx7=>
(c 195 [a0,x7]).bind λr8=>
(D.tupAt r8 0).bind λx9=>
(D.tupAt r8 1).bind λad=>
 some (D.tup [x9,(D.st (D.putParts (List.replicate 16 (D.int .u32 0)) [(0,ad)]))])) else(qB .sub r1 (Jn 1) λal=>
 qJ al 16 a1 λan=>
(c 196 [an]).bind λl=>
(c 197 [a1,l]).bind λs=>
(D.tupAt s 0).bind λm=>
(D.tupAt s 1).bind λd3=>
(c 197 [a0,l]).bind λt=>
(D.tupAt t 0).bind λax=>
(D.tupAt t 1).bind λaI=>
(D.stl (av rQ)).bind λq=>
(D.stl ax).bind λZ=>
(D.set (D.st (List.take 0 q++(List.take 16 (List.drop 0 Z)++List.drop 16 q))) [16] aI).bind λa2=>
 qB .sub r2 r1 λa3=>
(qZ lp (λv25=>
 qC .geq (gx v25 0) (Jn 0) λT=>
 if T then(qB .add (gx v25 0) r1 λa4=>
 qJ a4 17 (gx v25 2) λa5=>
(D.conv .u64 a5).bind λa6=>
 qB .shl a6 (D.int .u64 32) λa9=>
 qB .add (gx v25 0) r1 λbj=>
 qB .sub bj (Jn 1) λbl=>
 qJ bl 17 (gx v25 2) λbm=>
(D.conv .u64 bm).bind λbp=>
 qB .or a9 bp λP=>
 qB .sub r1 (Jn 1) λbs=>
 qJ bs 16 m λbt=>
(D.conv .u64 bt).bind λn=>
 qB .quo P n λbv=>
 qB .rem P n λb0=>
(qZ lp (λv45=>
 qC .lss (gx v45 1) (D.int .u64 4294967296) λU=>
(if U then(qC .geq (gx v45 0) (D.int .u64 4294967296) λV=>
 if V then(some true) else(qB .sub r1 (Jn 2) λb1=>
 qJ b1 16 m λb2=>
(D.conv .u64 b2).bind λb3=>
 qB .mul (gx v45 0) b3 λb4=>
 qB .shl (gx v45 1) (D.int .u64 32) λb7=>
 qB .add (gx v25 0) r1 λb8=>
 qB .sub b8 (Jn 2) λb9=>
 qJ b9 17 (gx v25 2) λcf=>
(D.conv .u64 cf).bind λch=>
 qB .or b7 ch λcs=>
 qB .gtr b4 cs λcv=>
 D.truth cv)) else(some false)).bind λW=>
 qT (D.bool W) λX=>
 if X then(qB .sub (gx v45 0) (D.int .u64 1) λcx=>
 qB .add (gx v45 1) n λcy=>
 iL [cx,cy,(gx v45 2),(gx v45 3),(gx v45 4)]) else(iR (0,[(gx v45 0),(gx v45 2),(gx v45 3),(gx v45 4)]))) [bv,b0,(gx v25 1),(av aU),m]).bind λb=>
((qZ lp (λa=>
 qC .lss (gx a 2) r1 λY=>
 if Y then(qJ (gx a 2) 16 (gx b.2 3) λcI=>
(D.conv .u64 cI).bind λc0=>
 qB .mul (gx b.2 0) c0 λc1=>
 qB .add (gx a 0) c1 λQ=>
 qB .add (gx v25 0) (gx a 2) λc2=>
 qJ c2 17 (gx a 6) λc3=>
(D.conv .u64 c3).bind λc4=>
(D.conv .u32 Q).bind λc5=>
(D.conv .u64 c5).bind λdk=>
 qB .sub c4 dk λdp=>
 qB .sub dp (gx a 1) λR=>
 qB .add (gx v25 0) (gx a 2) λdr=>
(D.conv .u32 R).bind λds=>
(D.idx dr 17).bind λi86=>
(D.set (gx a 6) [i86] ds).bind λdv=>
 qB .shr R (D.int .u64 63) λdx=>
 qB .shr Q (D.int .u64 32) λdy=>
 qB .add (gx a 2) (Jn 1) λdz=>
 iL [dy,dx,dz,(gx a 3),(gx a 4),(gx a 5),dv]) else(iR (0,[(gx a 0),(gx a 1),(gx a 3),(gx a 4),(gx a 5),(gx a 6)]))) [(D.int .u64 0),(D.int .u64 0),(Jn 0),(gx b.2 1),(gx b.2 2),(gx b.2 3),(gx v25 2)]).bind λd=>
 qB .add (gx v25 0) r1 λdB=>
 qJ dB 17 (gx d.2 5) λdE=>
(D.conv .u64 dE).bind λdR=>
 qB .sub dR (gx d.2 0) λd0=>
 qB .sub d0 (gx d.2 1) λS=>
 qB .add (gx v25 0) r1 λd1=>
(D.conv .u32 S).bind λd2=>
(D.idx d1 17).bind λi100=>
(D.set (gx d.2 5) [i100] d2).bind λi=>
 qB .shr S (D.int .u64 63) λu=>
 qT (D.bool (D.beq u (D.int .u64 1))) λo=>
 if o then(qB .sub (gx b.2 0) (D.int .u64 1) λv=>
(qZ lp (λv105=>
 qC .lss (gx v105 1) r1 λp=>
 if p then(qB .add (gx v25 0) (gx v105 1) λw=>
 qJ w 17 (gx v105 5) λx=>
(D.conv .u64 x).bind λy=>
 qJ (gx v105 1) 16 (gx d.2 4) λz=>
(D.conv .u64 z).bind λA=>
 qB .add y A λB=>
 qB .add (gx v105 0) B λj=>
 qB .add (gx v25 0) (gx v105 1) λC=>
(D.conv .u32 j).bind λE=>
(D.idx C 17).bind λi119=>
(D.set (gx v105 5) [i119] E).bind λF=>
 qB .shr j (D.int .u64 32) λG=>
 qB .add (gx v105 1) (Jn 1) λH=>
 iL [G,H,(gx v105 2),(gx v105 3),(gx v105 4),F]) else(iR (0,[(gx v105 0),(gx v105 2),(gx v105 3),(gx v105 4),(gx v105 5)]))) [(D.int .u64 0),(Jn 0),(gx d.2 2),(gx d.2 3),(gx d.2 4),i]).bind λe=>
 qB .add (gx v25 0) r1 λk=>
 qJ k 17 (gx e.2 4) λI=>
(D.conv .u32 (gx e.2 0)).bind λJ=>
 qB .add I J λK=>
(D.idx k 17).bind λi129=>
(D.set (gx e.2 4) [i129] K).bind λL=>
 some (0,[v,L])) else(some (0,[(gx b.2 0),i]))).bind λ(g:Nat×List D)=>
(D.conv .u32 (gx g.2 0)).bind λM=>
(D.idx (gx v25 0) 16).bind λi133=>
(D.set (gx b.2 1) [i133] M).bind λN=>
 qB .sub (gx v25 0) (Jn 1) λO=>
 iL [O,N,(gx g.2 1)]) else(iR (0,[(gx v25 1),(gx v25 2)]))) [a3,(av aU),a2]).bind λh=>
(match (gx h.2 1) with
| D.st f=>(if decide (0+16<=f.length) then((c 201 [(D.st (List.take 16 (List.drop 0 f))),l]).bind λr=>
 some (D.tup [(gx h.2 0),r])) else none)
| _=>none)))
def SS{lp}(a:ak lp):af 170 (m2 (Ic lp)):=aB 0 Tryz.f167 QF a
def Id(lp:Lp)(c:Ca)(a0:D):Option D:=
(c 118 [(D.sl [a0])]).bind λr1=>
 qN r1 λa=>
 if a then((c 119 []).bind λb=>
 some b) else(qG a0 [2] λe=>
(c 116 [(D.bool false),e]).bind λd=>
 some d)
def ST{lp}(a:ak lp):af 171 (m1 (Id lp)):=a7 0 Tryz.f168 .leaf a
end Sy
end
end
noncomputable section
set_option maxHeartbeats 0
noncomputable section
namespace Sy
open Go Go.Proofs
def QG:Ann:=(.tl (.tl (.cut [(.ret,⟨[(4,.sp aP 4100),(5,.sp aP 4101)],[(4100,.one aP (.dv aP)),(4101,.one aP (.dv aP))],[]⟩),(.normal,⟨[(2,.sp aP 4098),(3,.sp aP 4099),(4,.sp aP 4100),(5,.sp aP 4101)],[(4098,.keep aP 2),(4099,.keep aP 3),(4100,.one aP (.dv aP)),(4101,.one aP (.dv aP))],[]⟩)] [] [4098,4099] (.tl (.tl (.two (.tl (.tl (.two (.two (.reg [] 7) (.cut [(.normal,⟨[(4,.sp aP 4100),(5,.sp aP 4101),(10,.di),(11,.di)],[(4100,.keep aP 4),(4101,.keep aP 5)],[]⟩)] [] [4100,4101] .leaf .leaf)) .leaf))) .leaf))) (.tl (.tl (.cut [(.normal,⟨[(3,.sp aP 4099),(4,.sp aP 4100),(5,.sp aP 4101),(13,.sp aU 16397),(14,.sp aP 20494)],[(4099,.keep aP 3),(4100,.keep aP 4),(4101,.keep aP 5),(16397,.one aU (.dv aU)),(20494,.one aP (.dv aP))],[]⟩)] [] [4099,4100,4101] (.tl (.two (.reg [] 7) .leaf)) (.two (.reg [] 5) .leaf)))))))
def EX(lp:Lp)(c:Ca)(a0:D)(a1:D):Option D:=
(c 118 [(D.sl [a0,a1])]).bind λr1=>
 qN r1 λV=>
(if V then(some true) else((c 129 [a1]).bind λY=>
 D.truth (D.bool (D.beq Y (Jn 0))))).bind λW=>
 qT (D.bool W) λX=>
 if X then((c 119 []).bind λZ=>
(c 119 []).bind λr8=>
 some (D.tup [Z,r8])) else(((c 202 [a0]).bind λU=>
(D.tupAt U 0).bind λe=>
(D.tupAt U 1).bind λF=>
 qT F λm=>
(if m then(D.truth (D.bool (!(D.beq e (Jn (-9223372036854775808)))))) else(some false)).bind λn=>
 qT (D.bool n) λo=>
 if o then((c 202 [a1]).bind λg=>
(D.tupAt g 0).bind λa=>
(D.tupAt g 1).bind λG=>
 qT G λp=>
(if p then(D.truth (D.bool (!(D.beq a (Jn (-9223372036854775808)))))) else(some false)).bind λq=>
 qT (D.bool q) λr=>
 if r then(qB .quo e a λl=>
 qB .rem e a λb=>
(qT (D.bool (!(D.beq b (Jn 0)))) λs=>
(if s then(qB .lss b (Jn 0) λH=>
 qB .lss a (Jn 0) λI=>
 D.truth (D.bool (!(D.beq H I)))) else(some false)).bind λt=>
 qT (D.bool t) λu=>
 if u then(qB .sub l (Jn 1) λJ=>
 qB .add b a λK=>
 some (0,[J,K])) else(some (0,[l,b]))).bind λ(h:Nat×List D)=>
(c 54 [(gx h.2 0)]).bind λy=>
(c 54 [(gx h.2 1)]).bind λz=>
 some (0,[y,z])) else(some (1,[(D.st [(D.bool false),(D.bool false),(av aU)]),(D.st [(D.bool false),(D.bool false),(av aU)])]))) else(some (1,[(D.st [(D.bool false),(D.bool false),(av aU)]),(D.st [(D.bool false),(D.bool false),(av aU)])]))).bind λ(d:Nat×List D)=>
 if d.1=0 then(some (D.tup [(gx d.2 0),(gx d.2 1)])) else(qG a0 [2] λL=>
 qG a1 [2] λM=>
(c 170 [L,M]).bind λi=>
(D.tupAt i 0).bind λN=>
(D.tupAt i 1).bind λf=>
 qG a0 [1] λO=>
 qG a1 [1] λP=>
(c 116 [(D.bool (!(D.beq O P))),N]).bind λj=>
(qT (D.bool (!(D.beq f (D.st (D.putParts (List.replicate 16 (D.int .u32 0)) []))))) λv=>
(if v then(qG a0 [1] λQ=>
 qG a1 [1] λR=>
 D.truth (D.bool (!(D.beq Q R)))) else(some false)).bind λw=>
 qT (D.bool w) λx=>
 if x then((c 54 [(Jn 1)]).bind λA=>
(c 203 [j,A]).bind λB=>
 qG a1 [2] λS=>
(c 122 [S,f]).bind λC=>
 some (0,[C,B])) else(some (0,[f,j]))).bind λ(k:Nat×List D)=>
 qG a1 [1] λT=>
(c 116 [T,(gx k.2 0)]).bind λE=>
 some (D.tup [(gx k.2 1),E])))
def SU{lp}(a:ak lp):af 172 (m2 (EX lp)):=aB 0 Tryz.f169 QG a
def QH:Ann:=(.tl (.tl (.tl (.two (.reg [] 10) (.two (.reg [] 14) .leaf)))))
def EY(lp:Lp)(c:Ca)(a0:D)(a1:D):Option D:=
(c 136 [a0]).bind λr1=>
 qN r1 λp=>
(if p then(some true) else((c 136 [a1]).bind λs=>
(D.un .not s).bind λu=>
 D.truth u)).bind λq=>
 qT (D.bool q) λr=>
 if r then((c 130 []).bind λt=>
 some t) else(qG a0 [1] λv=>
 qG a1 [1] λj=>
(c 131 [v,j]).bind λa=>
 qG a0 [1] λk=>
(c 132 [k,a]).bind λb=>
 qG a1 [1] λl=>
(c 132 [l,a]).bind λd=>
 qG a0 [0] λm=>
(c 61 [m,d]).bind λe=>
 qG a1 [0] λn=>
(c 61 [n,b]).bind λf=>
(c 57 [e,f]).bind λg=>
 qG a1 [1] λo=>
(c 61 [b,o]).bind λh=>
(c 62 [g,h]).bind λi=>
 some i)
def SV{lp}(a:ak lp):af 173 (m2 (EY lp)):=aB 0 Tryz.f47 QH a
def QI:Ann:=(.tl (.tl (.two (.reg [] 12) (.two (.reg [] 12) .leaf))))
def EZ(lp:Lp)(c:Ca)(a0:D)(a1:D):Option D:=
(c 136 [a0]).bind λr1=>
 qN r1 λs=>
(if s then(some true) else((c 136 [a1]).bind λv=>
(D.un .not v).bind λx=>
 D.truth x)).bind λt=>
 qT (D.bool t) λu=>
 if u then((c 130 []).bind λw=>
 some w) else(qG a0 [0] λy=>
 qG a1 [1] λj=>
(c 62 [y,j]).bind λa=>
 qG a1 [0] λk=>
 qG a0 [1] λl=>
(c 62 [k,l]).bind λb=>
 qG a [0] λm=>
 qG b [0] λn=>
(c 61 [m,n]).bind λd=>
 qG a [1] λo=>
 qG b [1] λp=>
(c 61 [o,p]).bind λe=>
 qG d [0] λq=>
 qT q λf=>
(if f then(some true) else(qG e [0] λr=>
 D.truth r)).bind λg=>
 qT (D.bool g) λh=>
 if h then((c 130 []).bind λi=>
 some i) else(some (D.st [d,e])))
def SW{lp}(a:ak lp):af 174 (m2 (EZ lp)):=aB 0 Tryz.f42 QI a
def Ie(lp:Lp)(c:Ca)(a0:D)(a1:D):Option D:=
 qC .lss a1 (Jn 0) λa=>
 if a then(some (Jn 0)) else((c 141 [a0,a1]).bind λb=>
 some b)
def SX{lp}(a:ak lp):af 175 (m2 (Ie lp)):=aB 0 Tryz.f198 .leaf a
def QJ:Ann:=(.tl (.tl (.tl (.tl (.tl (.tl (.cut [(.normal,⟨[(6,.di)],[],[]⟩)] [] [] .leaf .leaf)))))))
def If(lp:Lp)(c:Ca)(a0:D):Option D:=
(c 76 [a0]).bind λr1=>
 qN r1 λp=>
 if p then(some (D.tup [(Jn 0),(D.bool false)])) else((c 34 [(Jn (-9223372036854775808))]).bind λr=>
(c 34 [(Jn 9223372036854775807)]).bind λs=>
(c 32 [a0,r]).bind λt=>
 qC .lss t (Jn 0) λq=>
(if q then(some true) else((c 32 [a0,s]).bind λu=>
 qB .gtr u (Jn 0) λg=>
 D.truth g)).bind λb=>
 qT (D.bool b) λd=>
 if d then(some (D.tup [(Jn 0),(D.bool false)])) else(qG a0 [2,1] λh=>
(D.conv .u64 h).bind λi=>
 qB .mul i (D.int .u64 4294967296) λj=>
 qG a0 [2,0] λk=>
(D.conv .u64 k).bind λl=>
 qB .add j l λm=>
(D.conv .i64 m).bind λa=>
(qG a0 [1] λn=>
 qT n λe=>
 if e then((D.un .neg a).bind λo=>
 some (0,[o])) else(some (0,[a]))).bind λ(f:Nat×List D)=>
 some (D.tup [(gx f.2 0),(D.bool true)])))
def SY{lp}(a:ak lp):af 186 (m1 (If lp)):=a7 0 Tryz.f208 QJ a
def QK:Ann:=(.tl (.two (.tl (.two (.loop ⟨[(1,.sp K1 4097),(3,.di)],[(4097,.keep K1 1)],[]⟩ [(.ret,⟨[(2,.dv Ty.bool)],[],[]⟩),(.exit 0,⟨[],[],[]⟩)] .leaf) .leaf)) .leaf))
def Ig(lp:Lp)(c:Ca)(a0:D):Option D:=
(qZ lp (λv1=>
 qC .lss (gx v1 0) (Jn 3) λg=>
 if g then(qJ (gx v1 0) 3 a0 λi=>
 qC .geq i (Jn 2305843009213693952) λh=>
(if h then(some true) else(qJ (gx v1 0) 3 a0 λj=>
 qB .leq j (Jn (-2305843009213693952)) λe=>
 D.truth e)).bind λb=>
 qT (D.bool b) λd=>
 if d then(iR (0,[(D.bool false)])) else(qB .add (gx v1 0) (Jn 1) λf=>
 iL [f])) else(iR (1,[]))) [(Jn 0)]).bind λa=>
 if a.1=0 then(some (gx a.2 0)) else(some (D.bool true))
def SZ{lp}(a:ak lp):af 187 (m1 (Ig lp)):=a7 0 Tryz.f14 QK a
def QL:Ann:=(.tl (.two (.tl (.two (.loop ⟨[(2,.sp K1 4098),(3,.sp K1 4099),(5,.di)],[(4098,.keep K1 2),(4099,.keep K1 3)],[]⟩ [(.ret,⟨[(4,.di)],[],[]⟩),(.exit 0,⟨[],[],[]⟩)] (.tl (.two (.two (.tl (.two (.two (.reg [] 9) .leaf) .leaf)) .leaf) .leaf))) .leaf)) .leaf))
def Ih(lp:Lp)(c:Ca)(a0:D)(a1:D):Option D:=
(qZ lp (λv1=>
 qC .lss (gx v1 0) (Jn 3) λg=>
 if g then(qJ (gx v1 0) 3 a0 λj=>
 qT (D.bool (!(D.beq j (Jn 0)))) λh=>
 if h then(qJ (gx v1 0) 3 a0 λk=>
(c 215 [k]).bind λi=>
 qJ (gx v1 0) 3 a1 λd=>
(c 215 [d]).bind λb=>
 qB .mul i b λe=>
 iR (0,[e])) else(qB .add (gx v1 0) (Jn 1) λf=>
 iL [f])) else(iR (1,[]))) [(Jn 0)]).bind λa=>
 if a.1=0 then(some (gx a.2 0)) else(some (Jn 0))
def S4{lp}(a:ak lp):af 188 (m2 (Ih lp)):=aB 0 Tryz.f232 QL a
def Ii(lp:Lp)(c:Ca)(a0:D):Option D:=
 some (D.bool (!(D.beq a0 a0)))
def S5{lp}(a:ak lp):af 194 (m1 (Ii lp)):=a7 0 Tryz.f221 .leaf a
def QM:Ann:=(.tl (.tl (.two (.tl (.two (.loop ⟨[(2,.sp aU 4098),(4,.sp aU 4100),(6,.dv (Ty.int .u64)),(7,.di)],[(4098,.keep aU 2),(4100,.one aU (.dv aU))],[1]⟩ [(.exit 0,⟨[(4,.sp aU 4100),(6,.dv (Ty.int .u64))],[(4100,.one aU (.dv aU))],[]⟩)] .leaf) .leaf)) .leaf)))
def Ij(lp:Lp)(c:Ca)(a0:D)(a1:D):Option D:=
(qZ lp (λv1=>
 qC .geq (gx v1 1) (Jn 0) λk=>
 if k then(qB .shl (gx v1 0) (D.int .u64 32) λl=>
 qJ (gx v1 1) 16 a0 λm=>
(D.conv .u64 m).bind λn=>
 qB .or l n λj=>
(D.conv .u64 a1).bind λo=>
 qB .quo j o λb=>
(D.conv .u32 b).bind λd=>
(D.idx (gx v1 1) 16).bind λrZ=>
(D.set (gx v1 2) [rZ] d).bind λe=>
(D.conv .u64 a1).bind λf=>
 qB .rem j f λg=>
 qB .sub (gx v1 1) (Jn 1) λh=>
 iL [g,h,e]) else(iR (0,[(gx v1 0),(gx v1 2)]))) [(D.int .u64 0),(Jn 15),(av aU)]).bind λa=>
(D.conv .u32 (gx a.2 0)).bind λi=>
 some (D.tup [(gx a.2 1),i])
def S6{lp}(a:ak lp):af 195 (m2 (Ij lp)):=aB 0 Tryz.f202 QM a
def Ik(lp:Lp)(c:Ca)(a0:D):Option D:=
(c 165 [a0]).bind λr1=>
 qB .sub (Jn 32) r1 λa=>
 some a
def S7{lp}(a:ak lp):af 196 (m1 (Ik lp)):=a7 0 Tryz.f203 .leaf a
def QN:Ann:=(.tl (.tl (.tl (.two (.tl (.two (.loop ⟨[(2,.sp aU 4098),(4,.sp aU 4100),(6,.sp aU 8198),(7,.dv (Ty.int .u64)),(9,.di)],[(4098,.keep aU 2),(4100,.keep aU 4),(8198,.one aU (.dv aU))],[1]⟩ [(.exit 0,⟨[(4,.sp aU 4100),(6,.sp aU 8198),(7,.dv (Ty.int .u64))],[(4100,.keep aU 4),(8198,.one aU (.dv aU))],[]⟩)] .leaf) .leaf)) .leaf))))
def Il(lp:Lp)(c:Ca)(a0:D)(a1:D):Option D:=
(qZ lp (λv1=>
 qC .lss (gx v1 1) (Jn 16) λh=>
 if h then(qJ (gx v1 1) 16 a0 λi=>
(D.conv .u64 i).bind λj=>
 qB .shl j a1 λk=>
 qB .or (gx v1 0) k λg=>
(D.conv .u32 g).bind λl=>
(D.idx (gx v1 1) 16).bind λi10=>
(D.set (gx v1 2) [i10] l).bind λb=>
 qB .shr g (D.int .u64 32) λd=>
 qB .add (gx v1 1) (Jn 1) λe=>
 iL [d,e,b]) else(iR (0,[(gx v1 0),(gx v1 2)]))) [(D.int .u64 0),(Jn 0),(av aU)]).bind λa=>
(D.conv .u32 (gx a.2 0)).bind λf=>
 some (D.tup [(gx a.2 1),f])
def S8{lp}(a:ak lp):af 197 (m2 (Il lp)):=aB 0 Tryz.f194 QN a
def QO:Ann:=(.tl (.tl (.two (.tl (.two (.loop ⟨[(2,.sp aU 4098),(4,.sp aU 4100),(5,.sp aU 8197),(8,.di)],[(4098,.keep aU 2),(4100,.keep aU 4),(8197,.one aU (.dv aU))],[1]⟩ [(.exit 0,⟨[(4,.sp aU 4100),(5,.sp aU 8197)],[(4100,.keep aU 4),(8197,.one aU (.dv aU))],[]⟩)] (.tl (.tl (.two (.two (.tl (.tl (.cut [(.normal,⟨[(2,.sp aU 4098),(4,.sp aU 4100),(5,.sp aU 8197),(7,.dv (Ty.int .u64))],[(4098,.keep aU 2),(4100,.keep aU 4),(8197,.keep aU 5)],[1,6,8]⟩)] [1,6,8] [4098,4100,8197] .leaf .leaf))) .leaf) .leaf)))) .leaf)) .leaf)))
def Im(lp:Lp)(c:Ca)(a0:D)(a1:D):Option D:=
(qZ lp (λv1=>
 qC .lss (gx v1 0) (Jn 16) λm=>
 if m then((qB .add (gx v1 0) (Jn 1) λo=>
 qC .lss o (Jn 16) λn=>
 if n then(qB .add (gx v1 0) (Jn 1) λp=>
 qJ p 16 a0 λq=>
(D.conv .u64 q).bind λd=>
 some (0,[d])) else(some (0,[(D.int .u64 0)]))).bind λ(a:Nat×List D)=>
 qB .shl (gx a.2 0) (D.int .u64 32) λe=>
 qJ (gx v1 0) 16 a0 λf=>
(D.conv .u64 f).bind λg=>
 qB .or e g λh=>
 qB .shr h a1 λi=>
(D.conv .u32 i).bind λj=>
(D.idx (gx v1 0) 16).bind λi19=>
(D.set (gx v1 1) [i19] j).bind λk=>
 qB .add (gx v1 0) (Jn 1) λl=>
 iL [l,k]) else(iR (0,[(gx v1 1)]))) [(Jn 0),(av aU)]).bind λb=>
 some (gx b.2 0)
def S9{lp}(a:ak lp):af 201 (m2 (Im lp)):=aB 0 Tryz.f195 QO a
def Dc(lp:Lp)(c:Ca)(a0:D):Option D:=
(c 118 [(D.sl [a0])]).bind λr1=>
 qN r1 λs=>
(if s then(some true) else((c 217 [a0]).bind λv=>
 qB .gtr v (Jn 64) λw=>
 D.truth w)).bind λt=>
 qT (D.bool t) λu=>
 if u then(some (D.tup [(Jn 0),(D.bool false)])) else(qG a0 [2,1] λx=>
(D.conv .u64 x).bind λy=>
 qB .shl y (D.int .u64 32) λi=>
 qG a0 [2,0] λj=>
(D.conv .u64 j).bind λk=>
 qB .or i k λa=>
 qG a0 [1] λl=>
 qT l λb=>
(if b then(qB .leq a (D.int .u64 9223372036854775808) λm=>
 D.truth m) else(some false)).bind λd=>
 qT (D.bool d) λe=>
 if e then((D.un .neg a).bind λn=>
(D.conv .i64 n).bind λo=>
 some (D.tup [o,(D.bool true)])) else(qG a0 [1] λp=>
 qN p λf=>
(if f then(qB .lss a (D.int .u64 9223372036854775808) λq=>
 D.truth q) else(some false)).bind λg=>
 qT (D.bool g) λh=>
 if h then((D.conv .i64 a).bind λr=>
 some (D.tup [r,(D.bool true)])) else(some (D.tup [(Jn 0),(D.bool false)]))))
def Ta{lp}(a:ak lp):af 202 (m1 (Dc lp)):=a7 0 Tryz.f160 .leaf a
def QP:Ann:=(.tl (.two (.reg [] 4) .leaf))
def E0(lp:Lp)(c:Ca)(a0:D)(a1:D):Option D:=
(c 68 [a1]).bind λr1=>
(c 57 [a0,r1]).bind λa=>
 some a
def Tb{lp}(a:ak lp):af 203 (m2 (E0 lp)):=aB 0 Tryz.f201 QP a
def Io(lp:Lp)(c:Ca)(a0:D):Option D:=
 qC .lss a0 (Jn 0) λa=>
 if a then(some (Jn (-1))) else(qC .gtr a0 (Jn 0) λb=>
 if b then(some (Jn 1)) else(some (Jn 0)))
def Tc{lp}(a:ak lp):af 215 (m1 (Io lp)):=a7 0 Tryz.f247 .leaf a
def Ip(lp:Lp)(c:Ca)(a0:D):Option D:=
 qG a0 [2] λk=>
(c 127 [k]).bind λb=>
(c 118 [(D.sl [a0])]).bind λj=>
 qN j λg=>
(if g then(some true) else(D.truth (D.bool (D.beq b (Jn 0))))).bind λh=>
 qT (D.bool h) λi=>
 if i then(some (Jn 0)) else(qB .sub b (Jn 1) λl=>
 qB .mul (Jn 32) l λm=>
 qB .sub b (Jn 1) λd=>
(D.idx d 16).bind λi11=>
 qG a0 [2,i11] λe=>
(c 165 [e]).bind λa=>
 qB .add m a λf=>
 some f)
def Td{lp}(a:ak lp):af 217 (m1 (Ip lp)):=a7 0 Tryz.f192 .leaf a
def Iq(lp:Lp)(c:Ca)(a0:D):Option D:=
(c 88 [a0]).bind λr1=>
 qN r1 λa=>
 if a then(some (Jn 0)) else(qG a0 [0] λd=>
(c 83 [d]).bind λb=>
 some b)
def Te{lp}(a:ak lp):af 322 (m1 (Iq lp)):=a7 0 Tryz.f23 .leaf a
def QQ:Ann:=(.tl (.tl (.tl (.two (.tl (.two (.two (.reg [] 7) .leaf) .leaf)) (.tl (.tl (.tl (.two (.loop ⟨[(7,.di),(8,.sp Lu 24584),(9,.sp Lu 28681)],[(24584,.one Lu (.dv Lu)),(28681,.one Lu (.dv Lu))],[]⟩ [(.ret,⟨[(4,.di)],[],[]⟩)] (.two (.tl (.tl (.tl (.tl (.two (.reg [] 8) (.two (.reg [] 8) (.two (.tl (.two (.two (.reg [] 9) .leaf) .leaf)) .leaf))))))) .leaf)) .leaf))))))))
def Ir(lp:Lp)(c:Ca)(a0:D)(a1:D):Option D:=
(c 88 [a0]).bind λr1=>
(c 88 [a1]).bind λK=>
 qN r1 λL=>
(if L then(some true) else((D.un .not K).bind λQ=>
 D.truth Q)).bind λM=>
 qT (D.bool M) λN=>
 if N then((c 344 [a0,r1]).bind λO=>
(c 344 [a1,K]).bind λP=>
(c 32 [O,P]).bind λj=>
 some j) else(qG a0 [0] λr=>
 qG a0 [1] λs=>
 qG a1 [0] λt=>
 qG a1 [1] λu=>
(qZ lp (λa=>
 qG (gx a 1) [0] λv=>
 qG (gx a 1) [1] λw=>
(c 87 [v,w]).bind λk=>
 qG (gx a 2) [0] λx=>
 qG (gx a 2) [1] λy=>
(c 87 [x,y]).bind λl=>
(c 32 [k,l]).bind λe=>
 qT (D.bool (!(D.beq e (Jn 0)))) λf=>
 if f then(qB .mul (gx a 0) e λz=>
 iR (0,[z])) else(qG (gx a 1) [1] λA=>
 qG (gx a 1) [0] λB=>
 qG (gx a 1) [1] λC=>
(c 345 [B,C]).bind λb=>
 qG (gx a 2) [1] λE=>
 qG (gx a 2) [0] λF=>
 qG (gx a 2) [1] λG=>
(c 345 [F,G]).bind λd=>
(c 83 [b]).bind λm=>
 qT (D.bool (D.beq m (Jn 0))) λg=>
(if g then(some true) else((c 83 [d]).bind λn=>
 D.truth (D.bool (D.beq n (Jn 0))))).bind λh=>
 qT (D.bool h) λi=>
 if i then((c 83 [b]).bind λo=>
(c 83 [d]).bind λp=>
 qB .sub o p λH=>
 qB .mul (gx a 0) H λI=>
 iR (0,[I])) else((D.un .neg (gx a 0)).bind λJ=>
 iL [J,(D.st [A,b]),(D.st [E,d])]))) [(Jn 1),(D.st [r,s]),(D.st [t,u])]).bind λq=>
 some (gx q.2 0))
def Tf{lp}(a:ak lp):af 324 (m2 (Ir lp)):=aB 0 Tryz.f35 QQ a
def Is(lp:Lp)(c:Ca)(a0:D):Option D:=
(c 348 [a0]).bind λr1=>
 qN r1 λb=>
 if b then(some (D.bool false)) else((c 349 [a0]).bind λa=>
(D.tupAt a 0).bind λf=>
(D.tupAt a 1).bind λg=>
 qT g λd=>
(if d then(D.truth (D.bool (D.beq f a0))) else(some false)).bind λe=>
 some (D.bool e))
def Tg{lp}(a:ak lp):af 331 (m1 (Is lp)):=a7 0 Tryz.f83 .leaf a
def Ng(lp:Lp)(c:Ca)(a0:D)(a1:D):Option D:=
(c 54 [a0]).bind λr1=>
(c 54 [a1]).bind λa=>
(c 62 [r1,a]).bind λb=>
 some b
def Th{lp}(a:ak lp):af 333 (m2 (Ng lp)):=aB 0 Tryz.f77 .leaf a
def QR:Ann:=(.tl (.two (.reg [] 4) .leaf))
def Nh(lp:Lp)(c:Ca)(a0:D)(a1:D):Option D:=
(c 357 [a1]).bind λr1=>
(c 173 [a0,r1]).bind λa=>
 some a
def Tj{lp}(a:ak lp):af 336 (m2 (Nh lp)):=aB 0 Tryz.f126 QR a
def It(lp:Lp)(c:Ca)(a0:D):Option D:=
(c 136 [a0]).bind λr1=>
 qN r1 λa=>
 if a then(some (Jn 0)) else(qG a0 [0] λd=>
(c 129 [d]).bind λb=>
 some b)
def Tk{lp}(a:ak lp):af 342 (m1 (It lp)):=a7 0 Tryz.f40 .leaf a
def Iu(lp:Lp)(c:Ca)(a0:D)(a1:D):Option D:=
 qT a1 λa=>
 if a then((c 34 [(Jn 0)]).bind λb=>
 some b) else((c 125 []).bind λd=>
 some d)
def Tl{lp}(a:ak lp):af 344 (m2 (Iu lp)):=aB 0 Tryz.f96 .leaf a
def QS:Ann:=(.tl (.tl (.tl (.tl (.tl (.two (.reg [] 9) (.cut [(.normal,⟨[(3,.sp aP 4099),(4,.sp aP 4100),(10,.dv K5)],[(4099,.keep aP 3),(4100,.keep aP 4)],[]⟩)] [] [4099,4100] .leaf .leaf)))))))
def Iv(lp:Lp)(c:Ca)(a0:D)(a1:D):Option D:=
(c 124 [a0]).bind λr1=>
(D.tupAt r1 0).bind λL=>
(D.tupAt r1 1).bind λP=>
(c 124 [a1]).bind λK=>
(D.tupAt K 0).bind λJ=>
(D.tupAt K 1).bind λR=>
 qT P λM=>
(if M then(D.truth R) else(some false)).bind λN=>
 qT (D.bool N) λO=>
(if O then(D.truth (D.bool (!(D.beq J (Jn 0))))) else(some false)).bind λd=>
 qT (D.bool d) λe=>
 if e then((c 144 [L,J]).bind λp=>
 qB .mul J p λB=>
 qB .sub L B λC=>
(c 34 [C]).bind λq=>
 some q) else((c 76 [a0]).bind λr=>
 qN r λf=>
(if f then(some true) else((c 76 [a1]).bind λs=>
(D.un .not s).bind λE=>
 D.truth E)).bind λg=>
 qT (D.bool g) λh=>
(if h then(some true) else((c 77 [a1]).bind λt=>
 qS t λn=>
 D.truth (D.bool (D.beq (Jn (n.length)) (Jn 0))))).bind λi=>
 qT (D.bool i) λj=>
 if j then((c 125 []).bind λu=>
 some u) else((c 77 [a0]).bind λv=>
(c 77 [a1]).bind λw=>
(c 143 [v,w]).bind λb=>
(D.tupAt b 0).bind λQ=>
(D.tupAt b 1).bind λa=>
(qG a0 [1] λF=>
 qG a1 [1] λG=>
 qT (D.bool (!(D.beq F G))) λk=>
(if k then(qS a λo=>
 qB .gtr (Jn (o.length)) (Jn 0) λH=>
 D.truth H) else(some false)).bind λl=>
 qT (D.bool l) λm=>
 if m then((c 77 [a1]).bind λx=>
(c 126 [x,a]).bind λy=>
 some (0,[y])) else(some (0,[a]))).bind λ(z:Nat×List D)=>
 qG a1 [1] λI=>
(c 81 [I,(gx z.2 0)]).bind λA=>
 some A))
def Tm{lp}(a:ak lp):af 345 (m2 (Iv lp)):=aB 0 Tryz.f97 QS a
def QT:Ann:=(.tl (.two (.tl (.two (.loop ⟨[(1,.sp qH 4097),(3,.di)],[(4097,.keep qH 1)],[]⟩ [(.ret,⟨[(2,.dv Ty.bool)],[],[]⟩),(.exit 0,⟨[],[],[]⟩)] .leaf) .leaf)) .leaf))
def Iw(lp:Lp)(c:Ca)(a0:D):Option D:=
(qZ lp (λv1=>
 qC .lss (gx v1 0) (Jn 4) λg=>
 if g then(qJ (gx v1 0) 4 a0 λi=>
 qC .gtr i (Jn 64) λh=>
(if h then(some true) else(qJ (gx v1 0) 4 a0 λj=>
 qB .lss j (Jn (-64)) λe=>
 D.truth e)).bind λb=>
 qT (D.bool b) λd=>
 if d then(iR (0,[(D.bool false)])) else(qB .add (gx v1 0) (Jn 1) λf=>
 iL [f])) else(iR (1,[]))) [(Jn 0)]).bind λa=>
 if a.1=0 then(some (gx a.2 0)) else(some (D.bool true))
def Tn{lp}(a:ak lp):af 348 (m1 (Iw lp)):=a7 0 Tryz.f145 QT a
def QU:Ann:=let a:LO:=[(4097,.keep qH 1),(4098,.keep qH 2)]
 let b:LS:=[(1,.sp qH 4097),(2,.sp qH 4098),(4,.di),(5,.di)]
 (.tl (.tl (.tl (.two (.tl (.two (.loop ⟨[(1,.sp qH 4097),(2,.sp qH 4098),(4,.di),(5,.di),(6,.di)],a,[]⟩ [(.exit 0,⟨b,a,[]⟩)] (.tl (.cut [(.normal,⟨b,a,[6]⟩)] [6] [4097,4098] .leaf .leaf))) .leaf)) (.tl (.tl (.two (.reg [] 17) .leaf)))))))
def Ix(lp:Lp)(c:Ca)(a0:D):Option D:=
(qZ lp (λv1=>
 qC .geq (gx v1 2) (Jn 0) λt=>
 if t then((qJ (gx v1 2) 4 a0 λv=>
(c 364 [(gx v1 0),v]).bind λs=>
 qJ (gx v1 2) 4 a0 λw=>
 qT (D.bool (!(D.beq w (Jn 0)))) λu=>
 if u then(qJ (gx v1 2) 4 a0 λg=>
(c 365 [g]).bind λf=>
 some (0,[s,f])) else(some (0,[s,(gx v1 1)]))).bind λ(d:Nat×List D)=>
 qB .sub (gx v1 2) (Jn 1) λh=>
 iL [(gx d.2 0),(gx d.2 1),h]) else(iR (0,[(gx v1 0),(gx v1 1)]))) [(Jn 0),(Jn 0),(Jn 3)]).bind λb=>
(D.un .neg (gx b.2 0)).bind λi=>
(D.max2 (gx b.2 0) i).bind λj=>
 qB .mul (gx b.2 1) j λa=>
 qT (D.bool (D.beq a (Jn 0))) λe=>
 if e then(some (D.tup [(D.st [(Jn 0),(Jn 0),(Jn 0),(Jn 0)]),(D.bool false)])) else(qG a0 [0] λk=>
 qB .quo k a λl=>
 qG a0 [1] λm=>
 qB .quo m a λn=>
 qG a0 [2] λo=>
 qB .quo o a λp=>
 qG a0 [3] λq=>
 qB .quo q a λr=>
 some (D.tup [(D.st [l,n,p,r]),(D.bool true)]))
def To{lp}(a:ak lp):af 349 (m1 (Ix lp)):=a7 0 Tryz.f146 QU a
def QV:Ann:=(.tl (.tl (.two (.reg [] 7) .leaf)))
def Iy(lp:Lp)(c:Ca)(a0:D)(a1:D):Option D:=
(c 136 [a1]).bind λr1=>
 qN r1 λa=>
 if a then((c 130 []).bind λb=>
 some b) else(qG a1 [1] λf=>
 qG a1 [0] λg=>
(c 62 [f,g]).bind λd=>
(c 174 [a0,d]).bind λe=>
 some e)
def Tp{lp}(a:ak lp):af 352 (m2 (Iy lp)):=aB 0 Tryz.f41 QV a
def QW:Ann:=(.tl (.tl (.two (.reg [] 6) .leaf)))
def E1(lp:Lp)(c:Ca)(a0:D):Option D:=
(c 136 [a0]).bind λr1=>
 qN r1 λa=>
 if a then((c 130 []).bind λb=>
 some b) else(qG a0 [0] λe=>
(c 68 [e]).bind λd=>
 qG a0 [1] λf=>
 some (D.st [d,f]))
def Tq{lp}(a:ak lp):af 357 (m1 (E1 lp)):=a7 0 Tryz.f59 QW a
def QX:Ann:=(.tl (.two (.two (.loop ⟨[(0,.di),(1,.di)],[],[]⟩ [(.exit 0,⟨[(0,.di)],[],[]⟩)] .leaf) .leaf) .leaf))
def Iz(lp:Lp)(c:Ca)(a0:D)(a1:D):Option D:=
(qZ lp (λv1=>
 qT (D.bool (!(D.beq (gx v1 1) (Jn 0)))) λb=>
 if b then(qB .rem (gx v1 0) (gx v1 1) λd=>
 iL [(gx v1 1),d]) else(iR (0,[(gx v1 0)]))) [a0,a1]).bind λa=>
(D.un .neg (gx a.2 0)).bind λe=>
(D.max2 (gx a.2 0) e).bind λf=>
 some f
def Tr{lp}(a:ak lp):af 364 (m2 (Iz lp)):=aB 0 Tryz.f196 QX a
def IA(lp:Lp)(c:Ca)(a0:D):Option D:=
 qC .lss a0 (Jn 0) λa=>
 if a then(some (Jn (-1))) else((D.min2 a0 (Jn 1)).bind λb=>
 some b)
def Tt{lp}(a:ak lp):af 365 (m1 (IA lp)):=a7 0 Tryz.f197 .leaf a
end Sy
end
end
noncomputable section
set_option maxHeartbeats 0
noncomputable section
namespace Sy
open Go Go.Proofs
def QY:Ann:=(.tl (.two (.tl (.two (.loop ⟨[(2,.sp bY 4098),(3,.sp bY 4099),(4,.sp bY 4100),(6,.di)],[(4098,.one bY (.dv bY)),(4099,.keep bY 3),(4100,.keep bY 4)],[]⟩ [(.exit 0,⟨[(2,.sp bY 4098),(4,.sp bY 4100)],[(4098,.one bY (.dv bY)),(4100,.keep bY 4)],[]⟩)] (.tl (.tl (.two (.two (.tl (.reg [] 9)) .leaf) .leaf)))) .leaf)) .leaf))
def Ni(lp:Lp)(c:Ca)(a0:D)(a1:D):Option D:=
(qZ lp (λv1=>
 qC .lss (gx v1 0) (Jn 3) λe=>
 if e then(qJ (gx v1 0) 3 (gx v1 1) λg=>
 qJ (gx v1 0) 3 a1 λh=>
(c 173 [g,h]).bind λf=>
(D.idx (gx v1 0) 3).bind λi9=>
(D.set (gx v1 1) [i9] f).bind λb=>
 qB .add (gx v1 0) (Jn 1) λd=>
 iL [d,b]) else(iR (0,[(gx v1 1)]))) [(Jn 0),a0]).bind λa=>
 some (gx a.2 0)
def Tu{lp}(a:ak lp):af 371 (m2 (Ni lp)):=aB 0 Tryz.f75 QY a
def QZ:Ann:=(.tl (.tl (.tl (.two (.tl (.two (.loop ⟨[(3,.sp K1 4099),(4,.sp K1 4100),(5,.sp Lv 8197),(6,.sp K1 12294),(7,.di)],[(4099,.keep K1 3),(4100,.keep K1 4),(8197,.keep Lv 5),(12294,.one K1 (.dv K1))],[]⟩ [(.exit 0,⟨[(4,.sp K1 4100),(6,.sp K1 12294)],[(4100,.keep K1 4),(12294,.one K1 (.dv K1))],[]⟩)] (.tl (.two (.two (.reg [] 27) .leaf) .leaf))) .leaf)) .leaf))))
def E2(lp:Lp)(c:Ca)(a0:D)(a1:D):Option D:=
(c 387 [a0]).bind λr1=>
(qZ lp (λv2=>
 qC .lss (gx v2 0) (Jn 3) λq=>
 if q then(qB .mul (Jn 3) (gx v2 0) λr=>
 qJ r 9 r1 λs=>
 qG a1 [0] λt=>
 qB .mul s t λu=>
 qB .mul (Jn 3) (gx v2 0) λb=>
 qB .add b (Jn 1) λd=>
 qJ d 9 r1 λe=>
 qG a1 [1] λf=>
 qB .mul e f λg=>
 qB .add u g λh=>
 qB .mul (Jn 3) (gx v2 0) λi=>
 qB .add i (Jn 2) λj=>
 qJ j 9 r1 λk=>
 qG a1 [2] λl=>
 qB .mul k l λm=>
 qB .add h m λn=>
(D.idx (gx v2 0) 3).bind λi24=>
(D.set (gx v2 1) [i24] n).bind λo=>
 qB .add (gx v2 0) (Jn 1) λp=>
 iL [p,o]) else(iR (0,[(gx v2 1)]))) [(Jn 0),(D.st [(Jn 0),(Jn 0),(Jn 0)])]).bind λa=>
 some (gx a.2 0)
def Tv{lp}(a:ak lp):af 373 (m2 (E2 lp)):=aB 0 Tryz.f71 QZ a
def IB(lp:Lp)(c:Ca)(a0:D):Option D:=
(c 388 [a0,a0]).bind λr1=>
 some r1
def Tw{lp}(a:ak lp):af 374 (m1 (IB lp)):=a7 0 Tryz.f72 .leaf a
def Q0:Ann:=(.tl (.two (.reg [] 5) .leaf))
def IC(lp:Lp)(c:Ca)(a0:D)(a1:D):Option D:=
(c 80 [a0]).bind λr1=>
(c 80 [a1]).bind λa=>
(c 390 [r1,a]).bind λb=>
 some b
def Tx{lp}(a:ak lp):af 379 (m2 (IC lp)):=aB 0 Tryz.f123 Q0 a
def ID(lp:Lp)(c:Ca)(a0:D):Option D:=
(c 392 [a0,a0]).bind λr1=>
 some r1
def Tz{lp}(a:ak lp):af 385 (m1 (ID lp)):=a7 0 Tryz.f63 .leaf a
def Q3:Ann:=(.tl (.tl (.tl (.two (.tl (.two (.loop ⟨[(3,.sp K1 4099),(4,.sp K1 4100),(5,.sp Lv 8197),(6,.sp K1 12294),(10,.di)],[(4099,.keep K1 3),(4100,.keep K1 4),(8197,.keep Lv 5),(12294,.one K1 (.dv K1))],[]⟩ [(.exit 0,⟨[(4,.sp K1 4100),(6,.sp K1 12294)],[(4100,.keep K1 4),(12294,.one K1 (.dv K1))],[]⟩)] (.tl (.tl (.two (.two (.tl (.reg [] 24)) .leaf) .leaf)))) .leaf)) .leaf))))
def E3(lp:Lp)(c:Ca)(a0:D)(a1:D):Option D:=
(c 393 [a0]).bind λr1=>
(qZ lp (λv2=>
 qC .lss (gx v2 0) (Jn 3) λm=>
 if m then(qB .mul (Jn 3) (gx v2 0) λn=>
 qJ n 9 r1 λo=>
 qG a1 [0] λp=>
 qB .mul (Jn 3) (gx v2 0) λq=>
 qB .add q (Jn 1) λd=>
 qJ d 9 r1 λe=>
 qG a1 [1] λf=>
 qB .mul (Jn 3) (gx v2 0) λg=>
 qB .add g (Jn 2) λh=>
 qJ h 9 r1 λi=>
 qG a1 [2] λj=>
(c 394 [(D.sl [o,p,e,f,i,j])]).bind λa=>
(D.idx (gx v2 0) 3).bind λi20=>
(D.set (gx v2 1) [i20] a).bind λk=>
 qB .add (gx v2 0) (Jn 1) λl=>
 iL [l,k]) else(iR (0,[(gx v2 1)]))) [(Jn 0),(D.st [(Jn 0),(Jn 0),(Jn 0)])]).bind λb=>
 some (gx b.2 0)
def TA{lp}(a:ak lp):af 386 (m2 (E3 lp)):=aB 0 Tryz.f66 Q3 a
def IE(lp:Lp)(c:Ca)(a0:D):Option D:=
 qG a0 [0] λa=>
 qG a0 [1] λb=>
 qG a0 [2] λd=>
 qG a0 [3] λe=>
 qB .mul a a λU=>
 qB .mul b b λV=>
 qB .add U V λW=>
 qB .mul d d λX=>
 qB .sub W X λY=>
 qB .mul e e λf=>
 qB .sub Y f λg=>
 qB .mul b d λh=>
 qB .mul a e λi=>
 qB .sub h i λj=>
 qB .mul (Jn 2) j λk=>
 qB .mul b e λl=>
 qB .mul a d λm=>
 qB .add l m λn=>
 qB .mul (Jn 2) n λo=>
 qB .mul b d λp=>
 qB .mul a e λq=>
 qB .add p q λr=>
 qB .mul (Jn 2) r λs=>
 qB .mul a a λt=>
 qB .mul b b λu=>
 qB .sub t u λv=>
 qB .mul d d λw=>
 qB .add v w λx=>
 qB .mul e e λy=>
 qB .sub x y λz=>
 qB .mul d e λA=>
 qB .mul a b λB=>
 qB .sub A B λC=>
 qB .mul (Jn 2) C λE=>
 qB .mul b e λF=>
 qB .mul a d λG=>
 qB .sub F G λH=>
 qB .mul (Jn 2) H λI=>
 qB .mul d e λJ=>
 qB .mul a b λK=>
 qB .add J K λL=>
 qB .mul (Jn 2) L λM=>
 qB .mul a a λN=>
 qB .mul b b λO=>
 qB .sub N O λP=>
 qB .mul d d λQ=>
 qB .sub P Q λR=>
 qB .mul e e λS=>
 qB .add R S λT=>
 some (D.st (D.putParts (List.replicate 9 (Jn 0)) [(0,g),(1,k),(2,o),(3,s),(4,z),(5,E),(6,I),(7,M),(8,T)]))
def TC{lp}(a:ak lp):af 387 (m1 (IE lp)):=a7 0 Tryz.f135 .leaf a
def IF(lp:Lp)(c:Ca)(a0:D)(a1:D):Option D:=
 qG a0 [0] λh=>
 qG a1 [0] λi=>
 qB .mul h i λj=>
 qG a0 [1] λk=>
 qG a1 [1] λl=>
 qB .mul k l λm=>
 qB .add j m λn=>
 qG a0 [2] λo=>
 qG a1 [2] λp=>
 qB .mul o p λa=>
 qB .add n a λb=>
 qG a0 [3] λd=>
 qG a1 [3] λe=>
 qB .mul d e λf=>
 qB .add b f λg=>
 some g
def TD{lp}(a:ak lp):af 388 (m2 (IF lp)):=aB 0 Tryz.f136 .leaf a
def Q4:Ann:=(.tl (.two (.reg [] 28) .leaf))
def IG(lp:Lp)(c:Ca)(a0:D)(a1:D):Option D:=
 qG a0 [1] λi=>
 qG a1 [2] λj=>
 qG a0 [2] λk=>
 qG a1 [1] λl=>
(c 395 [i,j,k,l]).bind λh=>
 qG a0 [2] λm=>
 qG a1 [0] λn=>
 qG a0 [0] λo=>
 qG a1 [2] λp=>
(c 395 [m,n,o,p]).bind λa=>
 qG a0 [0] λd=>
 qG a1 [1] λe=>
 qG a0 [1] λf=>
 qG a1 [0] λg=>
(c 395 [d,e,f,g]).bind λb=>
 some (D.st [h,a,b])
def TE{lp}(a:ak lp):af 390 (m2 (IG lp)):=aB 0 Tryz.f174 Q4 a
def IH(lp:Lp)(c:Ca)(a0:D)(a1:D):Option D:=
 qG a0 [0] λb=>
 qG a1 [0] λd=>
 qG a0 [1] λe=>
 qG a1 [1] λf=>
 qG a0 [2] λg=>
 qG a1 [2] λh=>
 qG a0 [3] λi=>
 qG a1 [3] λj=>
(c 394 [(D.sl [b,d,e,f,g,h,i,j])]).bind λa=>
 some a
def TF{lp}(a:ak lp):af 392 (m2 (IH lp)):=aB 0 Tryz.f127 .leaf a
def Q5:Ann:=(.tl (.two (.reg [] 11) .leaf))
def II(lp:Lp)(c:Ca)(a0:D):Option D:=
 qG a0 [0] λa=>
 qG a0 [1] λb=>
 qG a0 [2] λd=>
 qG a0 [3] λe=>
(D.un .neg d).bind λA=>
(D.un .neg e).bind λB=>
(c 394 [(D.sl [a,a,b,b,A,d,B,e])]).bind λy=>
(D.un .neg a).bind λC=>
(c 394 [(D.sl [b,d,C,e])]).bind λz=>
 qB .mul (Jn 2) z λm=>
(c 394 [(D.sl [b,e,a,d])]).bind λf=>
 qB .mul (Jn 2) f λn=>
(c 394 [(D.sl [b,d,a,e])]).bind λg=>
 qB .mul (Jn 2) g λo=>
(D.un .neg b).bind λp=>
(D.un .neg e).bind λq=>
(c 394 [(D.sl [a,a,p,b,d,d,q,e])]).bind λh=>
(D.un .neg a).bind λr=>
(c 394 [(D.sl [d,e,r,b])]).bind λi=>
 qB .mul (Jn 2) i λs=>
(D.un .neg a).bind λt=>
(c 394 [(D.sl [b,e,t,d])]).bind λj=>
 qB .mul (Jn 2) j λu=>
(c 394 [(D.sl [d,e,a,b])]).bind λk=>
 qB .mul (Jn 2) k λv=>
(D.un .neg b).bind λw=>
(D.un .neg d).bind λx=>
(c 394 [(D.sl [a,a,w,b,x,d,e,e])]).bind λl=>
 some (D.st (D.putParts (List.replicate 9 (Jn 0)) [(0,y),(1,m),(2,n),(3,o),(4,h),(5,s),(6,u),(7,v),(8,l)]))
def TG{lp}(a:ak lp):af 393 (m1 (II lp)):=a7 0 Tryz.f131 Q5 a
def Q6:Ann:=(.tl (.tl (.two (.tl (.two (.loop ⟨[(3,.di),(4,.di)],[],[0]⟩ [(.exit 0,⟨[(3,.di)],[],[]⟩)] (.tl (.two (.two (.reg [] 12) .leaf) .leaf))) .leaf)) .leaf)))
def Dd(lp:Lp)(c:Ca)(a0:D):Option D:=
(qZ lp (λv1=>
 qB .add (gx v1 1) (Jn 1) λh=>
 qL a0 h λg=>
 if g then(qX a0 (gx v1 1) λi=>
 qB .add (gx v1 1) (Jn 1) λj=>
 qX a0 j λb=>
 qB .mul i b λd=>
 qB .add (gx v1 0) d λe=>
 qB .add (gx v1 1) (Jn 2) λf=>
 iL [e,f]) else(iR (0,[(gx v1 0)]))) [(Jn 0),(Jn 0)]).bind λa=>
 some (gx a.2 0)
def TH{lp}(a:ak lp):af 394 (m1 (Dd lp)):=a7 0 Tryz.f132 Q6 a
def Q7:Ann:=(.tl (.two (.reg [] 7) .leaf))
def IJ(lp:Lp)(c:Ca)(a0:D)(a1:D)(a2:D)(a3:D):Option D:=
(c 89 [a0,a1]).bind λr1=>
(c 89 [a2,a3]).bind λa=>
(c 396 [r1,a]).bind λb=>
 some b
def TI{lp}(a:ak lp):af 395 (m4 (IJ lp)):=tA 0 Tryz.f209 Q7 a
def Q8:Ann:=(.tl (.two (.reg [] 4) .leaf))
def IK(lp:Lp)(c:Ca)(a0:D)(a1:D):Option D:=
(c 86 [a1]).bind λr1=>
(c 59 [a0,r1]).bind λa=>
 some a
def TJ{lp}(a:ak lp):af 396 (m2 (IK lp)):=aB 0 Tryz.f222 Q8 a
def IL(lp:Lp)(c:Ca)(a0:D)(a1:D)(a2:D)(a3:D):Option D:=
(c 414 [a0,a1,a2,a3]).bind λr1=>
 qN r1 λj=>
 if j then((c 415 []).bind λk=>
 some k) else((c 416 [a0,a1,a2,a3]).bind λh=>
(D.tupAt h 0).bind λm=>
(D.tupAt h 1).bind λn=>
(c 417 [a0,a1,a2,a3]).bind λi=>
(c 415 []).bind λl=>
 qT l λa=>
(if a then(qG i [1] λf=>
 D.truth (D.bool (D.beq n f))) else(some false)).bind λb=>
 qT (D.bool b) λd=>
(if d then(qG i [0] λg=>
 D.truth (D.bool (D.beq m g))) else(some false)).bind λe=>
 some (D.bool e))
def NI{lp}(a:ak lp):af 408 (m4 (IL lp)):=tA 0 Tryz.f3 .leaf a
def IM(lp:Lp)(c:Ca)(a0:D)(a1:D)(a2:D)(a3:D):Option D:=
(c 427 [a0]).bind λr1=>
 qT r1 λb=>
(if b then((c 427 [a2]).bind λh=>
 D.truth h) else(some false)).bind λd=>
 qT (D.bool d) λe=>
(if e then((c 431 [a1,(Jn 10)]).bind λi=>
 D.truth i) else(some false)).bind λf=>
 qT (D.bool f) λg=>
(if g then((c 431 [a3,(Jn 10)]).bind λj=>
 D.truth j) else(some false)).bind λa=>
 some (D.bool a)
def TL{lp}(a:ak lp):af 414 (m4 (IM lp)):=tA 0 Tryz.f9 .leaf a
def M9:Ann:=(.tl (.tl (.tl (.two (.reg [] 9) (.two (.reg [] 9) (.two (.reg [] 9) (.tl (.two (.reg [] 29) (.two (.reg [] 9) (.two (.reg [] 9) (.tl (.two (.reg [] 20) (.tl (.two (.reg [] 18) (.two (.reg [] 21) (.two (.reg [] 27) .leaf))))))))))))))))
def TM{lp}(a:ak lp):af 415 (Dx 0 lp 415 Tryz.f10 M9):=oQ a (by kernel_rfl) (by kernel_rfl)
end Sy
end
end
noncomputable section
set_option maxHeartbeats 0
noncomputable section
namespace Sy
open Go Go.Proofs
def Q9:Ann:=let a:LO:=[(4104,.one eV (.dv eV)),(8202,.one bB (.dv bB)),(8203,.one bB (.dv bB)),(12300,.one eV (.dv eV)),(16397,.one bK (.dv bK)),(20494,.one Ty.bool (.dv Ty.bool)),(45056,.lp none 0)]
 let c:LO:=[(4104,.one eV (.dv eV)),(8202,.one bB (.dv bB)),(8203,.one bB (.dv bB)),(12300,.one eV (.dv eV)),(16397,.one bK (.dv bK)),(20494,.one Ty.bool (.dv Ty.bool)),(32770,.keep bB 1),(32771,.keep bB 2),(45056,.lp none 0),(53251,.fv (.yld 45056)),(57348,.fv (.map K1 Ty.bool 57360)),(57360,.mp K1 Ty.bool)]
 let e:LO:=[(4104,.one eV (.dv eV)),(8202,.one bB (.dv bB)),(8203,.one bB (.dv bB)),(12300,.one eV (.dv eV)),(16397,.one bK (.dv bK)),(20494,.one Ty.bool (.dv Ty.bool)),(45056,.lp none 0),(53251,.fv (.yld 45056)),(57348,.fv (.map K1 Ty.bool 57360)),(57360,.mp K1 Ty.bool)]
 let b:LS:=[(0,.same (.yld 45056))]
 let d:LS:=[(3,.same (.ptr Ty.fn 53251 [])),(6,.dv Ty.bool)]
 (.tl (.two (.reg [] 8) (.tl (.tl (.tl (.two (.two (.regI [] 3 .leaf) (.two (.all [(.normal,⟨b,a,[]⟩),(.ret,⟨b,a,[]⟩)] [] [45056] (.tl (.tl (.tl (.two (.tl (.two (.loop ⟨[(0,.same (.yld 45056)),(1,.sp bB 32770),(2,.sp bB 32771),(5,.same (.clo 100 [(.ptr Ty.fn 57348 []),(.ptr Ty.fn 53251 [])])),(20,.ow bB),(22,.di)],c,[21]⟩ [(.ret,⟨b,a,[]⟩),(.exit 0,⟨[(0,.same (.yld 45056)),(1,.sp bB 32770),(2,.sp bB 32771),(5,.same (.clo 100 [(.ptr Ty.fn 57348 []),(.ptr Ty.fn 53251 [])]))],c,[]⟩)] (.tl (.tl (.two (.two (.tl (.tl (.two (.loop ⟨[(0,.same (.yld 45056)),(1,.sp bB 32770),(2,.sp bB 32771),(5,.same (.clo 100 [(.ptr Ty.fn 57348 []),(.ptr Ty.fn 53251 [])])),(7,.sp bB 77831),(20,.ow bB),(31,.di)],[(4104,.one eV (.dv eV)),(8202,.one bB (.dv bB)),(8203,.one bB (.dv bB)),(12300,.one eV (.dv eV)),(16397,.one bK (.dv bK)),(20494,.one Ty.bool (.dv Ty.bool)),(32770,.keep bB 1),(32771,.keep bB 2),(45056,.lp none 0),(53251,.fv (.yld 45056)),(57348,.fv (.map K1 Ty.bool 57360)),(57360,.mp K1 Ty.bool),(77831,.keep bB 7)],[6,21,22,29,30]⟩ [(.ret,⟨b,a,[]⟩),(.exit 2,⟨[(0,.same (.yld 45056)),(1,.sp bB 32770),(2,.sp bB 32771),(5,.same (.clo 100 [(.ptr Ty.fn 57348 []),(.ptr Ty.fn 53251 [])])),(20,.ow bB)],c,[21,22]⟩)] (.tl (.tl (.two (.two (.tl (.two (.regI [] 13 (.two (.all [(.ret,⟨d,[(4104,.one eV (.dv eV)),(8202,.one bB (.dv bB)),(8203,.one bB (.dv bB)),(12300,.one eV (.dv eV)),(16397,.one bK (.dv bK)),(20494,.one Ty.bool (.dv Ty.bool)),(32770,.one bB (.dv bB)),(32771,.one bB (.dv bB)),(45056,.lp none 3),(53251,.fv (.yld 45056)),(57348,.fv (.map K1 Ty.bool 57360)),(57360,.mp K1 Ty.bool),(77831,.one bB (.dv bB))],[]⟩)] [] [45056] (.tl (.tl (.cut [(.normal,⟨[(2,.same (.ptr Ty.fn 57348 [])),(3,.same (.ptr Ty.fn 53251 [])),(7,.sp K1 110599)],[(4104,.one eV (.dv eV)),(8202,.one bB (.dv bB)),(8203,.one bB (.dv bB)),(12300,.one eV (.dv eV)),(16397,.one bK (.dv bK)),(20494,.one Ty.bool (.dv Ty.bool)),(32770,.one bB (.dv bB)),(32771,.one bB (.dv bB)),(45056,.lp none 3),(53251,.fv (.yld 45056)),(57348,.fv (.map K1 Ty.bool 57360)),(57360,.mp K1 Ty.bool),(77831,.one bB (.dv bB)),(110599,.one K1 (.dv K1))],[8]⟩)] [8] [45056] .leaf (.tl (.tl (.two (.regI [] 4 (.two (.tl (.all [(.normal,⟨[],[(4104,.keep eV 8),(8202,.keep bB 10),(8203,.keep bB 11),(12300,.one eV (.dv eV)),(16397,.one bK (.dv bK)),(20494,.one Ty.bool (.dv Ty.bool)),(32770,.one bB (.dv bB)),(32771,.one bB (.dv bB)),(53251,.fv (.yld 45056)),(57348,.fv (.map K1 Ty.bool 57360)),(57360,.mp K1 Ty.bool),(77831,.one bB (.dv bB))],[]⟩)] [] [4104,8202,8203] (.two (.tl (.tl (.two (.reg [] 10) (.tl (.two (.reg [] 8) (.reg [] 4)))))) .leaf))) .leaf)) .leaf))))))) .leaf)) .leaf)) .leaf) .leaf)))) .leaf))) .leaf) .leaf)))) .leaf)) (.tl (.tl (.two (.loop ⟨[(0,.same (.yld 45056)),(5,.same (.clo 100 [(.ptr Ty.fn 57348 []),(.ptr Ty.fn 53251 [])])),(55,.di)],e,[10,53,54]⟩ [(.ret,⟨b,a,[]⟩),(.exit 4,⟨b,a,[]⟩)] (.tl (.tl (.two (.two (.tl (.tl (.two (.loop ⟨[(0,.same (.yld 45056)),(5,.same (.clo 100 [(.ptr Ty.fn 57348 []),(.ptr Ty.fn 53251 [])])),(12,.sp K1 90124),(61,.di)],[(4104,.one eV (.dv eV)),(8202,.one bB (.dv bB)),(8203,.one bB (.dv bB)),(12300,.one eV (.dv eV)),(16397,.one bK (.dv bK)),(20494,.one Ty.bool (.dv Ty.bool)),(45056,.lp none 0),(53251,.fv (.yld 45056)),(57348,.fv (.map K1 Ty.bool 57360)),(57360,.mp K1 Ty.bool),(90124,.keep K1 12)],[10,53,54,55,59,60]⟩ [(.ret,⟨b,a,[]⟩),(.exit 6,⟨[(0,.same (.yld 45056)),(5,.same (.clo 100 [(.ptr Ty.fn 57348 []),(.ptr Ty.fn 53251 [])]))],e,[10,53,54,55]⟩)] (.tl (.tl (.two (.two (.tl (.tl (.two (.regI [] 10 (.two (.all [(.ret,⟨d,[(4104,.one eV (.dv eV)),(8202,.one bB (.dv bB)),(8203,.one bB (.dv bB)),(12300,.one eV (.dv eV)),(16397,.one bK (.dv bK)),(20494,.one Ty.bool (.dv Ty.bool)),(45056,.lp none 3),(53251,.fv (.yld 45056)),(57348,.fv (.map K1 Ty.bool 57360)),(57360,.mp K1 Ty.bool),(90124,.one K1 (.dv K1)),(110607,.one fB (.dv fB))],[]⟩)] [] [45056] (.tl (.tl (.cut [(.normal,⟨[(2,.same (.ptr Ty.fn 57348 [])),(3,.same (.ptr Ty.fn 53251 [])),(7,.sp K1 126983)],[(4104,.one eV (.dv eV)),(8202,.one bB (.dv bB)),(8203,.one bB (.dv bB)),(12300,.one eV (.dv eV)),(16397,.one bK (.dv bK)),(20494,.one Ty.bool (.dv Ty.bool)),(45056,.lp none 3),(53251,.fv (.yld 45056)),(57348,.fv (.map K1 Ty.bool 57360)),(57360,.mp K1 Ty.bool),(90124,.one K1 (.dv K1)),(110607,.one fB (.dv fB)),(126983,.one K1 (.dv K1))],[8]⟩)] [8] [45056] .leaf (.tl (.tl (.two (.regI [] 4 (.two (.tl (.all [(.normal,⟨[],[(4104,.keep eV 8),(8202,.keep bB 10),(8203,.keep bB 11),(12300,.one eV (.dv eV)),(16397,.one bK (.dv bK)),(20494,.one Ty.bool (.dv Ty.bool)),(53251,.fv (.yld 45056)),(57348,.fv (.map K1 Ty.bool 57360)),(57360,.mp K1 Ty.bool),(90124,.one K1 (.dv K1)),(110607,.one fB (.dv fB))],[]⟩)] [] [4104,8202,8203] (.two (.tl (.tl (.two (.reg [] 10) (.tl (.two (.reg [] 8) (.reg [] 4)))))) .leaf))) .leaf)) .leaf))))))) (.two (.all [(.ret,⟨d,[(4104,.one eV (.dv eV)),(8202,.one bB (.dv bB)),(8203,.one bB (.dv bB)),(12300,.one eV (.dv eV)),(16397,.one bK (.dv bK)),(20494,.one Ty.bool (.dv Ty.bool)),(45056,.lp none 3),(53251,.fv (.yld 45056)),(57348,.fv (.map K1 Ty.bool 57360)),(57360,.mp K1 Ty.bool),(90124,.one K1 (.dv K1))],[]⟩)] [] [45056] (.tl (.tl (.cut [(.normal,⟨[(2,.same (.ptr Ty.fn 57348 [])),(3,.same (.ptr Ty.fn 53251 [])),(7,.sp K1 139271)],[(4104,.one eV (.dv eV)),(8202,.one bB (.dv bB)),(8203,.one bB (.dv bB)),(12300,.one eV (.dv eV)),(16397,.one bK (.dv bK)),(20494,.one Ty.bool (.dv Ty.bool)),(45056,.lp none 3),(53251,.fv (.yld 45056)),(57348,.fv (.map K1 Ty.bool 57360)),(57360,.mp K1 Ty.bool),(90124,.one K1 (.dv K1)),(139271,.one K1 (.dv K1))],[8]⟩)] [8] [45056] .leaf (.tl (.tl (.two (.regI [] 4 (.two (.tl (.all [(.normal,⟨[],[(4104,.keep eV 8),(8202,.keep bB 10),(8203,.keep bB 11),(12300,.one eV (.dv eV)),(16397,.one bK (.dv bK)),(20494,.one Ty.bool (.dv Ty.bool)),(53251,.fv (.yld 45056)),(57348,.fv (.map K1 Ty.bool 57360)),(57360,.mp K1 Ty.bool),(90124,.one K1 (.dv K1))],[]⟩)] [] [4104,8202,8203] (.two (.tl (.tl (.two (.reg [] 10) (.tl (.two (.reg [] 8) (.reg [] 4)))))) .leaf))) .leaf)) .leaf))))))) .leaf))) .leaf))) .leaf) .leaf)))) .leaf))) .leaf) .leaf)))) .leaf)))))))) .leaf)) (.two (.reg [] 2) .leaf)))))))
def IN(lp:Lp)(c:Ca)(a0:D)(a1:D)(a2:D)(a3:D):Option D:=
(c 433 [a0,a1]).bind λr1=>
(c 433 [a2,a3]).bind λZ=>
((qZ lp (λv3=>
 qC .lss (gx v3 1) (Jn 2) λb5=>
 if b5 then((D.idx (gx v3 1) (List.length (qV v3 0))).bind λi6=>
((qV v3 0)[i6]?).bind λx7=>
 qG x7 [1] λx8=>
(c 18 [x8]).bind λr9=>
 qS r9 λc0=>
(qZ lp (λv11=>
 qC .lss (gx v11 1) (Jn (c0.length)) λbp=>
 if bp then(qX r9 (gx v11 1) λd6=>
 qG x7 [0,1] λd7=>
 qG d6 [0] λd8=>
(c 386 [d7,d8]).bind λc3=>
(c 448 [c3]).bind λc4=>
 qB .mul (Jn 2) (gx v3 1) λd9=>
 qB .sub (Jn 1) d9 λea=>
((c 447 [c4]).bind λad=>
(D.tupAt ad 0).bind λbl=>
(D.tupAt ad 1).bind λeb=>
(qC .lss ea (Jn 0) λbs=>
 if bs then((c 97 [bl]).bind λc5=>
 some (0,[(gx v11 2),(gx v11 3),(gx v11 4),(gx v11 5),(gx v11 6),(gx v11 7),r1,Z,(qW v11 8),x7,c5])) else(some (0,[(gx v11 2),(gx v11 3),(gx v11 4),(gx v11 5),(gx v11 6),(gx v11 7),r1,Z,(qW v11 8),x7,bl]))).bind λ(b:Nat×List D)=>
 qT (D.bool (!(D.beq eb (Jn 0)))) λbt=>
(if bt then(some true) else(D.truth (Option.getD (D.mget (qV b.2 8) (gx b.2 10)) (D.bool false)))).bind λbv=>
 qT (D.bool bv) λb0=>
 if b0 then(some (0,[(D.bool true),(gx b.2 0),(gx b.2 1),(gx b.2 2),(gx b.2 3),(gx b.2 4),(gx b.2 5),(gx b.2 6),(gx b.2 7),(qW b.2 8),(gx b.2 9)])) else(((c 434 [(gx b.2 10),(gx b.2 1),(gx b.2 2)]).bind λs=>
(c 342 [s]).bind λdk=>
 qC .lss dk (Jn 0) λb1=>
 if b1 then(some (0,[(gx b.2 3),(gx b.2 4),(gx b.2 5),(gx b.2 6),(gx b.2 7),(D.sl (D.mput (qV b.2 8) (gx b.2 10) (D.bool true))),(gx b.2 9)])) else((c 174 [s,s]).bind λdp=>
(c 91 [(gx b.2 10),(gx b.2 10)]).bind λdr=>
(c 54 [(Jn 1)]).bind λds=>
(c 62 [dr,ds]).bind λdv=>
(c 352 [dp,dv]).bind λal=>
 qT (gx b.2 5) λb2=>
(if b2 then((c 73 [al,(gx b.2 4)]).bind λdx=>
 qB .leq dx (Jn 0) λec=>
 D.truth ec) else(some false)).bind λb3=>
 qT (D.bool b3) λb4=>
 if b4 then(some (0,[(gx b.2 3),(gx b.2 4),(gx b.2 5),(gx b.2 6),(gx b.2 7),(D.sl (D.mput (qV b.2 8) (gx b.2 10) (D.bool true))),(gx b.2 9)])) else((c 435 [(gx b.2 1),(gx b.2 10)]).bind λdy=>
(c 74 [(Jn 2)]).bind λdz=>
(c 352 [s,dz]).bind λdB=>
(c 173 [dy,dB]).bind λdE=>
 some (0,[(D.st [(gx b.2 10),dE]),al,(D.bool true),(gx b.2 6),(gx b.2 7),(D.sl (D.mput (qV b.2 8) (gx b.2 10) (D.bool true))),(gx b.2 9)])))).bind λ(q:Nat×List D)=>
 some (0,[(D.bool true),(gx b.2 0),(gx b.2 1),(gx b.2 2),(gx q.2 0),(gx q.2 1),(gx q.2 2),(gx q.2 3),(gx q.2 4),(qW q.2 5),(gx q.2 6)]))).bind λ(l:Nat×List D)=>
 qN (gx l.2 0) λb6=>
 if b6 then(iR (0,[(gx l.2 1),(gx l.2 2),(gx l.2 3),(gx l.2 4),(gx l.2 5),(gx l.2 6)])) else(qB .add (gx v11 1) (Jn 1) λee=>
 iL [(qW v11 0),ee,(gx l.2 1),(gx l.2 2),(gx l.2 3),(gx l.2 4),(gx l.2 5),(gx l.2 6),(qW l.2 9)])) else(iR (1,[(qW v11 0),(gx v11 2),(gx v11 3),(gx v11 4),(gx v11 5),(gx v11 6),(gx v11 7),(qW v11 8)]))) [(qW v3 0),(Jn 0),(gx v3 2),(gx v3 3),(gx v3 4),(gx v3 5),(gx v3 6),(gx v3 7),(qW v3 8)]).bind λk=>
 if k.1=0 then(iR (0,[(gx k.2 0),(gx k.2 1),(gx k.2 2),(gx k.2 3),(gx k.2 4),(gx k.2 5)])) else(qB .add (gx v3 1) (Jn 1) λeg=>
 iL [(qW k.2 0),eg,(gx k.2 1),(gx k.2 2),(gx k.2 3),(gx k.2 4),(gx k.2 5),(gx k.2 6),(qW k.2 7)])) else(iR (1,[(gx v3 2),(gx v3 3),(gx v3 4),(gx v3 5),(gx v3 6),(gx v3 7),(qW v3 8)]))) [(D.sl [r1,Z]),(Jn 0),(D.st [(D.st [(Jn 0),(Jn 0),(Jn 0)]),(D.st [(D.st [(D.bool false),(D.bool false),(av aU)]),(D.st [(D.bool false),(D.bool false),(av aU)])])]),r1,Z,(D.st [(D.st [(Jn 0),(Jn 0),(Jn 0)]),(D.st [(D.st [(D.bool false),(D.bool false),(av aU)]),(D.st [(D.bool false),(D.bool false),(av aU)])])]),(D.st [(D.st [(D.bool false),(D.bool false),(av aU)]),(D.st [(D.bool false),(D.bool false),(av aU)])]),(D.bool false),(D.sl [])]).bind λm=>
 if m.1=0 then(some (1,[(gx m.2 0),(gx m.2 1),(gx m.2 2),(gx m.2 3),(gx m.2 4),(gx m.2 5)])) else((c 449 [Z]).bind λan=>
(c 449 [r1]).bind λax=>
 qS ax λc1=>
(qZ lp (λj=>
 qC .lss (gx j 0) (Jn (c1.length)) λb7=>
 if b7 then(qX ax (gx j 0) λy=>
 qS an λc2=>
(qZ lp (λf=>
 qC .lss (gx f 0) (Jn (c2.length)) λb8=>
 if b8 then(qX an (gx f 0) λei=>
(c 450 [y,ei]).bind λx=>
((c 447 [x]).bind λaI=>
(D.tupAt aI 0).bind λbm=>
(D.tupAt aI 1).bind λej=>
(qC .lss (Jn 1) (Jn 0) λb9=>
 if b9 then((c 97 [bm]).bind λdR=>
 some (0,[(gx f 1),(gx f 2),(gx f 3),(gx f 4),(gx f 5),(gx f 6),(qW f 7),y,x,dR])) else(some (0,[(gx f 1),(gx f 2),(gx f 3),(gx f 4),(gx f 5),(gx f 6),(qW f 7),y,x,bm]))).bind λ(d:Nat×List D)=>
 qT (D.bool (!(D.beq ej (Jn 0)))) λcf=>
(if cf then(some true) else(D.truth (Option.getD (D.mget (qV d.2 6) (gx d.2 9)) (D.bool false)))).bind λch=>
 qT (D.bool ch) λcs=>
 if cs then(some (0,[(D.bool true),(gx d.2 0),(gx d.2 1),(gx d.2 2),(gx d.2 3),(gx d.2 4),(gx d.2 5),(qW d.2 6),(gx d.2 7),(gx d.2 8)])) else(((c 434 [(gx d.2 9),(gx d.2 1),(gx d.2 2)]).bind λt=>
(c 342 [t]).bind λd0=>
 qC .lss d0 (Jn 0) λcv=>
 if cv then(some (0,[(gx d.2 3),(gx d.2 4),(gx d.2 5),(D.sl (D.mput (qV d.2 6) (gx d.2 9) (D.bool true))),(gx d.2 7),(gx d.2 8)])) else((c 174 [t,t]).bind λd1=>
(c 91 [(gx d.2 9),(gx d.2 9)]).bind λd2=>
(c 54 [(Jn 1)]).bind λd3=>
(c 62 [d2,d3]).bind λd4=>
(c 352 [d1,d4]).bind λa4=>
 qT (gx d.2 5) λcx=>
(if cx then((c 73 [a4,(gx d.2 4)]).bind λd5=>
 qB .leq d5 (Jn 0) λek=>
 D.truth ek) else(some false)).bind λcy=>
 qT (D.bool cy) λcI=>
 if cI then(some (0,[(gx d.2 3),(gx d.2 4),(gx d.2 5),(D.sl (D.mput (qV d.2 6) (gx d.2 9) (D.bool true))),(gx d.2 7),(gx d.2 8)])) else((c 435 [(gx d.2 1),(gx d.2 9)]).bind λK=>
(c 74 [(Jn 2)]).bind λL=>
(c 352 [t,L]).bind λM=>
(c 173 [K,M]).bind λN=>
 some (0,[(D.st [(gx d.2 9),N]),a4,(D.bool true),(D.sl (D.mput (qV d.2 6) (gx d.2 9) (D.bool true))),(gx d.2 7),(gx d.2 8)])))).bind λ(n:Nat×List D)=>
 some (0,[(D.bool true),(gx d.2 0),(gx d.2 1),(gx d.2 2),(gx n.2 0),(gx n.2 1),(gx n.2 2),(qW n.2 3),(gx n.2 4),(gx n.2 5)]))).bind λ(e:Nat×List D)=>
 qN (gx e.2 0) λz=>
 if z then(iR (0,[(gx e.2 1),(gx e.2 2),(gx e.2 3),(gx e.2 4),(gx e.2 5),(gx e.2 6)])) else(((c 447 [(gx e.2 9)]).bind λu=>
(D.tupAt u 0).bind λw=>
(D.tupAt u 1).bind λa5=>
(qC .lss (Jn (-1)) (Jn 0) λA=>
 if A then((c 97 [w]).bind λO=>
 some (0,[(gx e.2 1),(gx e.2 2),(gx e.2 3),(gx e.2 4),(gx e.2 5),(gx e.2 6),(qW e.2 7),(gx e.2 8),O])) else(some (0,[(gx e.2 1),(gx e.2 2),(gx e.2 3),(gx e.2 4),(gx e.2 5),(gx e.2 6),(qW e.2 7),(gx e.2 8),w]))).bind λ(a:Nat×List D)=>
 qT (D.bool (!(D.beq a5 (Jn 0)))) λB=>
(if B then(some true) else(D.truth (Option.getD (D.mget (qV a.2 6) (gx a.2 8)) (D.bool false)))).bind λC=>
 qT (D.bool C) λE=>
 if E then(some (0,[(D.bool true),(gx a.2 0),(gx a.2 1),(gx a.2 2),(gx a.2 3),(gx a.2 4),(gx a.2 5),(qW a.2 6),(gx a.2 7)])) else(((c 434 [(gx a.2 8),(gx a.2 1),(gx a.2 2)]).bind λr=>
(c 342 [r]).bind λP=>
 qC .lss P (Jn 0) λF=>
 if F then(some (0,[(gx a.2 3),(gx a.2 4),(gx a.2 5),(D.sl (D.mput (qV a.2 6) (gx a.2 8) (D.bool true))),(gx a.2 7)])) else((c 174 [r,r]).bind λQ=>
(c 91 [(gx a.2 8),(gx a.2 8)]).bind λR=>
(c 54 [(Jn 1)]).bind λS=>
(c 62 [R,S]).bind λT=>
(c 352 [Q,T]).bind λv=>
 qT (gx a.2 5) λG=>
(if G then((c 73 [v,(gx a.2 4)]).bind λU=>
 qB .leq U (Jn 0) λa6=>
 D.truth a6) else(some false)).bind λH=>
 qT (D.bool H) λI=>
 if I then(some (0,[(gx a.2 3),(gx a.2 4),(gx a.2 5),(D.sl (D.mput (qV a.2 6) (gx a.2 8) (D.bool true))),(gx a.2 7)])) else((c 435 [(gx a.2 1),(gx a.2 8)]).bind λV=>
(c 74 [(Jn 2)]).bind λW=>
(c 352 [r,W]).bind λX=>
(c 173 [V,X]).bind λY=>
 some (0,[(D.st [(gx a.2 8),Y]),v,(D.bool true),(D.sl (D.mput (qV a.2 6) (gx a.2 8) (D.bool true))),(gx a.2 7)])))).bind λ(o:Nat×List D)=>
 some (0,[(D.bool true),(gx a.2 0),(gx a.2 1),(gx a.2 2),(gx o.2 0),(gx o.2 1),(gx o.2 2),(qW o.2 3),(gx o.2 4)]))).bind λ(g:Nat×List D)=>
 qN (gx g.2 0) λJ=>
 if J then(iR (0,[(gx g.2 1),(gx g.2 2),(gx g.2 3),(gx g.2 4),(gx g.2 5),(gx g.2 6)])) else(qB .add (gx f 0) (Jn 1) λa9=>
 iL [a9,(gx g.2 1),(gx g.2 2),(gx g.2 3),(gx g.2 4),(gx g.2 5),(gx g.2 6),(qW g.2 7)]))) else(iR (1,[(gx f 1),(gx f 2),(gx f 3),(gx f 4),(gx f 5),(gx f 6),(qW f 7)]))) [(Jn 0),(gx j 1),(gx j 2),(gx j 3),(gx j 4),(gx j 5),(gx j 6),(qW j 7)]).bind λh=>
 if h.1=0 then(iR (0,[(gx h.2 0),(gx h.2 1),(gx h.2 2),(gx h.2 3),(gx h.2 4),(gx h.2 5)])) else(qB .add (gx j 0) (Jn 1) λbj=>
 iL [bj,(gx h.2 0),(gx h.2 1),(gx h.2 2),(gx h.2 3),(gx h.2 4),(gx h.2 5),(qW h.2 6)])) else(iR (1,[(gx j 1),(gx j 2),(gx j 3),(gx j 4),(gx j 5),(gx j 6)]))) [(Jn 0),(gx m.2 0),(gx m.2 1),(gx m.2 2),(gx m.2 3),(gx m.2 4),(gx m.2 5),(qW m.2 6)]).bind λi=>
 if i.1=0 then(some (1,[(gx i.2 0),(gx i.2 1),(gx i.2 2),(gx i.2 3),(gx i.2 4),(gx i.2 5)])) else(some (0,[(gx i.2 0),(gx i.2 1),(gx i.2 2),(gx i.2 3),(gx i.2 4),(gx i.2 5)])))).bind λ(p:Nat×List D)=>
 if p.1=0 then(some (D.tup [(gx p.2 3),(gx p.2 5)])) else(some (D.tup [(gx p.2 3),(gx p.2 5)]))
def TN{lp}(a:ak lp):af 416 (m4 (IN lp)):=tA 0 Tryz.f11 Q9 a
def Ra:Ann:=let a:LO:=[(4100,.keep bn 4),(4101,.keep K3 5),(4102,.keep bn 6),(4103,.keep K3 7),(4104,.keep Av 8),(12298,.one Av (.dv Av)),(16395,.one bK (.dv bK))]
 (.tl (.tl (.tl (.tl (.two (.tl (.two (.loop ⟨[(4,.sp bn 4100),(5,.sp K3 4101),(6,.sp bn 4102),(7,.sp K3 4103),(8,.sp Av 4104),(10,.sp Av 12298),(11,.sp bK 16395),(12,.di)],a,[9]⟩ [(.exit 0,⟨[(8,.sp Av 4104),(10,.sp Av 12298)],[(4104,.keep Av 8),(12298,.one Av (.dv Av))],[]⟩)] (.tl (.cut [(.normal,⟨[(4,.sp bn 4100),(5,.sp K3 4101),(6,.sp bn 4102),(7,.sp K3 4103),(8,.sp Av 4104),(10,.sp Av 12298),(11,.sp bK 16395)],a,[9,12]⟩)] [9,12] [4100,4101,4102,4103,4104] (.two (.two (.reg [] 10) (.tl (.two (.reg [] 7) (.tl (.two (.two (.reg [] 18) (.two (.reg [] 9) .leaf)) .leaf))))) .leaf) .leaf))) .leaf)) .leaf)))))
def IP(lp:Lp)(c:Ca)(a0:D)(a1:D)(a2:D)(a3:D):Option D:=
(c 436 [a0,a1,a2,a3]).bind λr1=>
(c 75 [(Jn 0)]).bind λA=>
(qZ lp (λv3=>
 qL r1 (gx v3 0) λz=>
 if z then((qX r1 (gx v3 0) λB=>
(c 420 [B,a0,a1,a2,a3]).bind λa=>
(c 322 [a]).bind λi=>
 qC .lss i (Jn 0) λe=>
 if e then(some (0,[(gx v3 1),(gx v3 2)])) else(qX r1 (gx v3 0) λs=>
(c 428 [s,a]).bind λb=>
 qG (gx v3 1) [1] λt=>
 qN t λf=>
(if f then(some true) else((c 324 [b,(gx v3 2)]).bind λj=>
 qB .gtr j (Jn 0) λu=>
 D.truth u)).bind λg=>
 qT (D.bool g) λh=>
 if h then(qX r1 (gx v3 0) λv=>
(c 437 [v,a0,a1]).bind λk=>
 qX r1 (gx v3 0) λw=>
(c 438 [w]).bind λl=>
(c 437 [l,a2,a3]).bind λm=>
(c 70 [m]).bind λn=>
(c 40 [k,n]).bind λo=>
 qX r1 (gx v3 0) λx=>
(c 42 [(Jn 1),(Jn 2)]).bind λp=>
(c 38 [o,p]).bind λq=>
 some (0,[(D.st [(D.st [x,q]),(D.bool true)]),b])) else(some (0,[(gx v3 1),(gx v3 2)])))).bind λ(d:Nat×List D)=>
 qB .add (gx v3 0) (Jn 1) λy=>
 iL [y,(gx d.2 0),(gx d.2 1)]) else(iR (0,[(gx v3 1)]))) [(Jn 0),(D.st [(D.st [(D.st [(Jn 0),(Jn 0),(Jn 0)]),(D.st [(D.st [(D.bool false),(D.bool false),(av aU)]),(D.st [(D.bool false),(D.bool false),(av aU)])])]),(D.bool false)]),A]).bind λr=>
 some (gx r.2 0)
def TO{lp}(a:ak lp):af 417 (m4 (IP lp)):=tA 0 Tryz.f12 Ra a
def Rb:Ann:=(.tl (.two (.reg [] 8) .leaf))
def Nl(lp:Lp)(c:Ca)(a0:D)(a1:D)(a2:D)(a3:D)(a4:D):Option D:=
(c 433 [a1,a2]).bind λr1=>
(c 433 [a3,a4]).bind λa=>
(c 434 [a0,r1,a]).bind λb=>
 some b
def TP{lp}(a:ak lp):af 419 (m5 (Nl lp)):=Cs 0 Tryz.f15 Rb a
def Rc:Ann:=(.tl (.two (.reg [] 7) (.two (.reg [] 6) .leaf)))
def IQ(lp:Lp)(c:Ca)(a0:D)(a1:D)(a2:D)(a3:D)(a4:D):Option D:=
(c 438 [a0]).bind λr1=>
(c 437 [r1,a3,a4]).bind λa=>
(c 70 [a]).bind λb=>
(c 437 [a0,a1,a2]).bind λd=>
(c 39 [b,d]).bind λe=>
 some e
def TQ{lp}(a:ak lp):af 420 (m5 (IQ lp)):=Cs 0 Tryz.f16 Rc a
def Rd:Ann:=let a:LO:=[(4101,.keep eV 5),(4102,.keep bn 6),(4103,.keep K3 7),(4104,.keep bn 8),(4105,.keep K3 9)]
 (.tl (.two (.tl (.two (.loop ⟨[(5,.sp eV 4101),(6,.sp bn 4102),(7,.sp K3 4103),(8,.sp bn 4104),(9,.sp K3 4105),(15,.di)],a,[14]⟩ [(.ret,⟨[(10,.dv Ty.bool)],[],[]⟩),(.exit 0,⟨[(5,.sp eV 4101),(6,.sp bn 4102),(7,.sp K3 4103),(8,.sp bn 4104),(9,.sp K3 4105)],a,[]⟩)] .leaf) .leaf)) (.tl (.two (.reg [] 24) .leaf))))
def Nm(lp:Lp)(c:Ca)(a0:D)(a1:D)(a2:D)(a3:D)(a4:D):Option D:=
 qG a0 [0] λC=>
(qZ lp (λv2=>
 qC .lss (gx v2 0) (Jn 3) λA=>
 if A then((D.idx (gx v2 0) 3).bind λi5=>
(D.fld C i5).bind λz=>
 qC .geq z (Jn 2305843009213693952) λB=>
(if B then(some true) else(qB .leq z (Jn (-2305843009213693952)) λE=>
 D.truth E)).bind λb=>
 qT (D.bool b) λd=>
 if d then(iR (0,[(D.bool false)])) else(qB .add (gx v2 0) (Jn 1) λr=>
 iL [r])) else(iR (1,[]))) [(Jn 0)]).bind λa=>
 if a.1=0 then(some (gx a.2 0)) else(qG a0 [0] λs=>
 qT (D.bool (D.beq s (D.st [(Jn 0),(Jn 0),(Jn 0)]))) λe=>
(if e then(some true) else(qG a0 [1,0,0] λt=>
 D.truth t)).bind λf=>
 qT (D.bool f) λg=>
 if g then(some (D.bool false)) else((c 433 [a1,a2]).bind λj=>
 qG a0 [0] λu=>
(c 435 [j,u]).bind λk=>
 qG a0 [1] λv=>
(c 73 [k,v]).bind λl=>
 qC .leq l (Jn 0) λh=>
(if h then((c 433 [a3,a4]).bind λm=>
 qG a0 [0] λw=>
(c 97 [w]).bind λn=>
(c 435 [m,n]).bind λo=>
 qG a0 [1] λx=>
(c 357 [x]).bind λp=>
(c 73 [o,p]).bind λq=>
 qB .leq q (Jn 0) λy=>
 D.truth y) else(some false)).bind λi=>
 some (D.bool i)))
def TR{lp}(a:ak lp):af 421 (m5 (Nm lp)):=Cs 0 Tryz.f17 Rd a
end Sy
end
end
noncomputable section
set_option maxHeartbeats 0
noncomputable section
namespace Sy
open Go Go.Proofs
def Re:Ann:=(.tl (.tl (.two (.reg [] 6) (.tl (.tl (.two (.tl (.two (.loop ⟨[(3,.sp bn 4099),(7,.sp bY 12295),(9,.di),(25,.di)],[(4099,.keep bn 3),(12295,.keep bY 7)],[8,23,24]⟩ [(.exit 0,⟨[(9,.di)],[],[]⟩)] (.tl (.tl (.two (.two (.tl (.reg [] 15)) .leaf) .leaf)))) .leaf)) .leaf))))))
def Nn(lp:Lp)(c:Ca)(a0:D)(a1:D)(a2:D):Option D:=
(c 71 [a2]).bind λr1=>
 qT r1 λp=>
 if p then(some (Jn (-1))) else(qG a0 [0] λu=>
(c 135 [u]).bind λr=>
(c 440 [a2,r]).bind λs=>
 qG a0 [1] λv=>
(c 385 [v]).bind λt=>
(c 18 [a1]).bind λo=>
 qS o λq=>
(qZ lp (λv10=>
 qC .lss (gx v10 1) (Jn (q.length)) λb=>
 if b then(qX o (gx v10 1) λa=>
 qG a [1] λi=>
 qB .mul t i λj=>
(c 74 [j]).bind λd=>
 qG a0 [1] λk=>
 qG a [0] λl=>
(c 386 [k,l]).bind λe=>
(c 72 [e,s]).bind λf=>
(c 73 [d,f]).bind λg=>
(D.min2 (gx v10 0) g).bind λm=>
 qB .add (gx v10 1) (Jn 1) λn=>
 iL [m,n]) else(iR (0,[(gx v10 0)]))) [(Jn 1),(Jn 0)]).bind λh=>
 some (gx h.2 0))
def TS{lp}(a:ak lp):af 423 (m3 (Nn lp)):=nq 0 Tryz.f19 Re a
def Rf:Ann:=let a:LO:=[(4100,.keep bn 4),(4101,.keep K3 5),(4102,.keep bn 6),(4103,.keep K3 7),(4104,.keep bY 8),(36879,.keep bY 15),(53265,.one bY (.dv bY))]
 let b:LO:=[(4100,.keep bn 4),(4101,.keep K3 5),(4102,.keep bn 6),(4103,.keep K3 7),(4104,.keep bY 8),(36879,.one bY (.dv bY))]
 (.tl (.two (.reg [] 8) (.two (.reg [] 6) (.tl (.two (.tl (.two (.loop ⟨[(4,.sp bn 4100),(5,.sp K3 4101),(6,.sp bn 4102),(7,.sp K3 4103),(8,.sp bY 4104),(12,.ow bY),(37,.ow Ti),(39,.di)],[(4100,.keep bn 4),(4101,.keep K3 5),(4102,.keep bn 6),(4103,.keep K3 7),(4104,.one bY (.dv bY))],[38]⟩ [(.ret,⟨[(8,.sp bY 4104),(9,.dv Ty.bool)],[(4104,.one bY (.dv bY))],[]⟩),(.exit 0,⟨[(8,.sp bY 4104)],[(4104,.one bY (.dv bY))],[]⟩)] (.tl (.tl (.two (.two (.tl (.tl (.two (.tl (.two (.loop ⟨[(4,.sp bn 4100),(5,.sp K3 4101),(6,.sp bn 4102),(7,.sp K3 4103),(8,.sp bY 4104),(12,.ow bY),(15,.sp bY 36879),(37,.ow Ti),(45,.dv yn),(47,.di)],b,[14,38,39,46]⟩ [(.exit 2,⟨[(4,.sp bn 4100),(5,.sp K3 4101),(6,.sp bn 4102),(7,.sp K3 4103),(8,.sp bY 4104),(12,.ow bY),(15,.sp bY 36879),(37,.ow Ti)],b,[38,39]⟩)] (.tl (.tl (.two (.two (.tl (.two (.tl (.two (.loop ⟨[(4,.sp bn 4100),(5,.sp K3 4101),(6,.sp bn 4102),(7,.sp K3 4103),(8,.sp bY 4104),(12,.ow bY),(15,.sp bY 36879),(17,.sp bY 53265),(37,.ow Ti),(51,.di)],a,[14,38,39,45,46,47]⟩ [(.exit 4,⟨[(4,.sp bn 4100),(5,.sp K3 4101),(6,.sp bn 4102),(7,.sp K3 4103),(8,.sp bY 4104),(12,.ow bY),(15,.sp bY 36879),(17,.sp bY 53265),(37,.ow Ti)],a,[14,38,39,45,46,47]⟩)] .leaf) .leaf)) .leaf)) .leaf) .leaf)))) .leaf)) (.two (.reg [] 6) .leaf)))) .leaf) .leaf)))) .leaf)) .leaf)))))
def No(lp:Lp)(c:Ca)(a0:D)(a1:D)(a2:D)(a3:D):Option D:=
(c 433 [a0,a1]).bind λr1=>
(c 433 [a2,a3]).bind λC=>
(c 443 [r1,C]).bind λF=>
 qS F λn=>
(c 443 [C,r1]).bind λG=>
 qS G λo=>
 if n.length+o.length<=1073741824 then(qC .lss (Jn (List.length (n++o))) (Jn 4) λE=>
 if E then(some (D.tup [(D.st [(D.st [(D.st [(D.bool false),(D.bool false),(av aU)]),(D.st [(D.bool false),(D.bool false),(av aU)])]),(D.st [(D.st [(D.bool false),(D.bool false),(av aU)]),(D.st [(D.bool false),(D.bool false),(av aU)])]),(D.st [(D.st [(D.bool false),(D.bool false),(av aU)]),(D.st [(D.bool false),(D.bool false),(av aU)])])]),(D.bool false)])) else((qZ lp (λv9=>
 qC .lss (gx v9 2) (Jn 4) λh=>
 if h then((D.idx (gx v9 2) (List.length (qV v9 1))).bind λrZ=>
((qV v9 1)[rZ]?).bind λu=>
(c 135 [(D.st [(Jn 0),(Jn 0),(Jn 0)])]).bind λp=>
(qZ lp (λa=>
 qC .lss (gx a 3) (Jn (List.length (qV v9 0))) λi=>
 if i then(qX (gx a 2) (gx a 3) λv=>
(qZ lp (λv21=>
 qC .lss (gx v21 2) (Jn 3) λj=>
 if j then(qJ (gx v21 2) 3 (gx v21 3) λw=>
(c 444 [w,u]).bind λg=>
(D.tupAt g 0).bind λx=>
(D.tupAt g 1).bind λH=>
(D.idx (gx v21 2) 3).bind λi29=>
(D.set (gx v21 3) [i29] x).bind λy=>
 qB .add (gx v21 2) (Jn 1) λz=>
 iL [(qW v21 0),(qW v21 1),z,y]) else(iR (0,[(qW v21 0),(qW v21 1),(gx v21 3)]))) [(qW a 0),(qW a 1),(Jn 0),v]).bind λd=>
(c 371 [(gx a 4),(gx d.2 2)]).bind λq=>
 qB .add (gx a 3) (Jn 1) λA=>
 iL [(qW d.2 0),(qW d.2 1),(gx a 2),A,q]) else(iR (0,[(qW a 0),(qW a 1),(gx a 4)]))) [(qW v9 0),(qW v9 1),(qW v9 0),(Jn 0),p]).bind λb=>
(c 333 [(Jn 1),(Jn (List.length (qV b.2 0)))]).bind λr=>
(c 445 [r,(gx b.2 2)]).bind λe=>
(c 423 [a0,a1,e]).bind λs=>
 qT (D.bool (D.beq s (Jn 1))) λk=>
(if k then((c 423 [a2,a3,e]).bind λt=>
 D.truth (D.bool (D.beq t (Jn 1)))) else(some false)).bind λl=>
 qT (D.bool l) λm=>
 if m then(iR (0,[(D.bool true),e])) else(qB .add (gx v9 2) (Jn 1) λB=>
 iL [(qW b.2 0),(qW b.2 1),B,(gx v9 3)])) else(iR (1,[(gx v9 3)]))) [(D.sl (n++o)),(D.sl [(Jn 20),(Jn 60),(Jn 120),(Jn 240)]),(Jn 0),(D.st [(D.st [(D.st [(D.bool false),(D.bool false),(av aU)]),(D.st [(D.bool false),(D.bool false),(av aU)])]),(D.st [(D.st [(D.bool false),(D.bool false),(av aU)]),(D.st [(D.bool false),(D.bool false),(av aU)])]),(D.st [(D.st [(D.bool false),(D.bool false),(av aU)]),(D.st [(D.bool false),(D.bool false),(av aU)])])])]).bind λf=>
 if f.1=0 then(some (D.tup [(gx f.2 1),(gx f.2 0)])) else(some (D.tup [(D.st [(D.st [(D.st [(D.bool false),(D.bool false),(av aU)]),(D.st [(D.bool false),(D.bool false),(av aU)])]),(D.st [(D.st [(D.bool false),(D.bool false),(av aU)]),(D.st [(D.bool false),(D.bool false),(av aU)])]),(D.st [(D.st [(D.bool false),(D.bool false),(av aU)]),(D.st [(D.bool false),(D.bool false),(av aU)])])]),(D.bool false)])))) else none
def TT{lp}(a:ak lp):af 425 (m4 (No lp)):=tA 0 Tryz.f21 Rf a
def Rg:Ann:=(.tl (.two (.tl (.two (.loop ⟨[(1,.sp bn 4097),(3,.di)],[(4097,.keep bn 1)],[]⟩ [(.ret,⟨[(2,.dv Ty.bool)],[],[]⟩),(.exit 0,⟨[(1,.sp bn 4097)],[(4097,.keep bn 1)],[]⟩)] .leaf) .leaf)) .leaf))
def IR(lp:Lp)(c:Ca)(a0:D):Option D:=
(qZ lp (λv1=>
 qC .lss (gx v1 0) (Jn 3) λi=>
 if i then((D.idx (gx v1 0) 3).bind λi4=>
 qG a0 [0,i4] λk=>
 qC .geq k (Jn 140737488355328) λj=>
(if j then(some true) else((D.idx (gx v1 0) 3).bind λi8=>
 qG a0 [0,i8] λl=>
 qB .leq l (Jn (-140737488355328)) λf=>
 D.truth f)).bind λb=>
 qT (D.bool b) λd=>
 if d then(iR (0,[(D.bool false)])) else(qB .add (gx v1 0) (Jn 1) λg=>
 iL [g])) else(iR (1,[]))) [(Jn 0)]).bind λa=>
 if a.1=0 then(some (gx a.2 0)) else(qG a0 [1] λh=>
(c 331 [h]).bind λe=>
 some e)
def TU{lp}(a:ak lp):af 427 (m1 (IR lp)):=a7 0 Tryz.f25 Rg a
def Rh:Ann:=(.tl (.two (.reg [] 8) .leaf))
def IS(lp:Lp)(c:Ca)(a0:D)(a1:D):Option D:=
(c 38 [a1,a1]).bind λr1=>
(c 33 [a0,a0]).bind λa=>
(c 63 [a]).bind λb=>
(c 65 [r1,b]).bind λd=>
 some d
def TW{lp}(a:ak lp):af 428 (m2 (IS lp)):=aB 0 Tryz.f26 Rh a
def Ri:Ann:=(.tl (.tl (.two (.tl (.two (.loop ⟨[(2,.sp K1 4098),(3,.sp K1 4099),(4,.sp K3 4100),(5,.ow K1),(6,.di)],[(4098,.keep K1 2),(4099,.keep K1 3),(4100,.one K3 (.st [K2] [.ow K1]))],[]⟩ [(.exit 0,⟨[(4,.sp K3 4100),(5,.ow K1)],[(4100,.one K3 (.st [K2] [.ow K1]))],[]⟩)] .leaf) .leaf)) .leaf)))
def Np(lp:Lp)(c:Ca)(a0:D)(a1:D):Option D:=
(qZ lp (λv1=>
 qC .lss (gx v1 1) (Jn 8) λo=>
 if o then(qG a0 [0] λp=>
 qB .quo (gx v1 1) (Jn 4) λq=>
 qG a1 [0] λr=>
 qB .mul q r λs=>
 qB .add p s λn=>
 qG a0 [1] λt=>
 qB .quo (gx v1 1) (Jn 2) λe=>
 qB .rem e (Jn 2) λf=>
 qG a1 [1] λg=>
 qB .mul f g λh=>
 qB .add t h λa=>
 qG a0 [2] λi=>
 qB .rem (gx v1 1) (Jn 2) λj=>
 qG a1 [2] λk=>
 qB .mul j k λl=>
 qB .add i l λb=>
 if List.length (qV v1 0)+List.length [(D.st [n,a,b])]<=1073741824 then(qB .add (gx v1 1) (Jn 1) λm=>
 iL [(D.sl ((qV v1 0)++[(D.st [n,a,b])])),m,(qW v1 2)]) else none) else(iR (0,[(qW v1 0),(qW v1 2)]))) [(D.sl []),(Jn 0),(D.sl [])]).bind λd=>
 some (D.st [(qW d.2 0)])
def TX{lp}(a:ak lp):af 429 (m2 (Np lp)):=aB 0 Tryz.f30 Ri a
def Nq(lp:Lp)(c:Ca)(a0:D)(a1:D)(a2:D):Option D:=
 some (D.st [(D.st [a0,a1,a2]),(D.st [(Jn 1),(Jn 0),(Jn 0),(Jn 0)])])
def TY{lp}(a:ak lp):af 430 (m3 (Nq lp)):=nq 0 Tryz.f31 .leaf a
def Rj:Ann:=(.tl (.tl (.two (.tl (.two (.loop ⟨[(2,.sp K3 4098),(5,.di)],[(4098,.keep K3 2)],[]⟩ [(.ret,⟨[(4,.dv Ty.bool)],[],[]⟩),(.exit 0,⟨[(2,.sp K3 4098)],[(4098,.keep K3 2)],[]⟩)] (.tl (.two (.two (.tl (.two (.loop ⟨[(2,.sp K3 4098),(6,.di)],[(4098,.keep K3 2)],[5]⟩ [(.ret,⟨[(4,.dv Ty.bool)],[],[]⟩),(.exit 2,⟨[(2,.sp K3 4098)],[(4098,.keep K3 2)],[5]⟩)] .leaf) .leaf)) .leaf) .leaf))) .leaf)) .leaf)))
def IT(lp:Lp)(c:Ca)(a0:D)(a1:D):Option D:=
 qP a0 [0] λr=>
 qC .gtr (Jn (r.length)) a1 λp=>
 if p then(some (D.bool false)) else((qZ lp (λv5=>
 qM a0 [0] (gx v5 0) λq=>
 if q then((qZ lp (λv10=>
 qC .lss (gx v10 0) (Jn 3) λd=>
 if d then(qY a0 [0] (gx v5 0) λi=>
(D.idx (gx v10 0) 3).bind λi17=>
(D.fld i i17).bind λj=>
 qC .gtr j (Jn 4096) λe=>
(if e then(some true) else(qY a0 [0] (gx v5 0) λk=>
(D.idx (gx v10 0) 3).bind λi25=>
(D.fld k i25).bind λl=>
 qB .lss l (Jn (-4096)) λm=>
 D.truth m)).bind λf=>
 qT (D.bool f) λg=>
 if g then(iR (0,[(D.bool false)])) else(qB .add (gx v10 0) (Jn 1) λn=>
 iL [n])) else(iR (1,[]))) [(Jn 0)]).bind λa=>
 if a.1=0 then(iR (0,[(gx a.2 0)])) else(qB .add (gx v5 0) (Jn 1) λo=>
 iL [o])) else(iR (1,[]))) [(Jn 0)]).bind λb=>
 if b.1=0 then(some (gx b.2 0)) else((c 15 [a0]).bind λh=>
 some (D.bool (D.beq h (Jn 0)))))
def TZ{lp}(a:ak lp):af 431 (m2 (IT lp)):=aB 0 Tryz.f32 Rj a
def Rk:Ann:=(.tl (.two (.reg [] 4) .leaf))
def Nr(lp:Lp)(c:Ca)(a0:D)(a1:D):Option D:=
(c 75 [a1]).bind λr1=>
 some (D.st [a0,r1])
def T1{lp}(a:ak lp):af 432 (m2 (Nr lp)):=aB 0 Tryz.f33 Rk a
def Rl:Ann:=let a:LO:=[(4098,.keep bn 2),(4100,.one bB (.st [bn,K3,Ti,K2] [.dv bn,.st [K2] [.ow K1],.di,.ow K1])),(8197,.one bB (.st [bn,K3,Ti,K2] [.dv bn,.dv K3,.di,.ow K1])),(28680,.one K1 (.dv K1))]
 (.tl (.two (.reg [] 7) (.two (.tl (.two (.loop ⟨[(2,.sp bn 4098),(4,.sp bB 4100),(5,.sp bB 8197),(19,.di)],[(4098,.keep bn 2),(4100,.one bB (.st [bn,K3,Ti,K2] [.dv bn,.st [K2] [.ow K1],.di,.ow K1])),(8197,.one bB (.st [bn,K3,Ti,K2] [.dv bn,.dv K3,.di,.ow K1]))],[17,18]⟩ [(.exit 0,⟨[(4,.sp bB 4100),(5,.sp bB 8197)],[(4100,.one bB (.st [bn,K3,Ti,K2] [.dv bn,.st [K2] [.ow K1],.di,.ow K1])),(8197,.one bB (.st [bn,K3,Ti,K2] [.dv bn,.dv K3,.di,.ow K1]))],[]⟩)] (.tl (.tl (.two (.two (.tl (.tl (.two (.tl (.two (.loop ⟨[(2,.sp bn 4098),(4,.sp bB 4100),(5,.sp bB 8197),(8,.sp K1 28680),(27,.di)],a,[17,18,19]⟩ [(.exit 2,⟨[(2,.sp bn 4098),(4,.sp bB 4100),(5,.sp bB 8197),(8,.sp K1 28680)],a,[17,18,19]⟩)] (.tl (.tl (.two (.two (.tl (.reg [] 12)) .leaf) .leaf)))) .leaf)) .leaf))) .leaf) .leaf)))) .leaf)) .leaf)))
def IU(lp:Lp)(c:Ca)(a0:D)(a1:D):Option D:=
 qG a0 [1] λt=>
(c 385 [t]).bind λs=>
 qG a1 [0] λp=>
 qS p λr=>
(qZ lp (λv5=>
 qC .lss (gx v5 0) (Jn (r.length)) λq=>
 if q then(qX p (gx v5 0) λg=>
 qG a0 [1] λh=>
(c 386 [h,g]).bind λf=>
(qZ lp (λa=>
 qC .lss (gx a 0) (Jn 3) λe=>
 if e then(qJ (gx a 0) 3 (gx a 9) λi=>
(D.idx (gx a 0) 3).bind λi18=>
 qG a0 [0,i18] λj=>
 qB .mul (gx a 7) j λk=>
 qB .add i k λl=>
(D.idx (gx a 0) 3).bind λi22=>
(D.set (gx a 9) [i22] l).bind λm=>
 qB .add (gx a 0) (Jn 1) λn=>
 iL [n,(gx a 1),(qW a 2),(gx a 3),(qW a 4),(gx a 5),(gx a 6),(gx a 7),(qW a 8),m]) else(iR (0,[(gx a 1),(qW a 2),(gx a 3),(qW a 4),(gx a 5),(gx a 6),(gx a 7),(qW a 8),(gx a 9)]))) [(Jn 0),(gx v5 1),(qW v5 2),(gx v5 3),(qW v5 4),(gx v5 5),(gx v5 6),(gx v5 7),(qW v5 8),f]).bind λb=>
 if List.length (qV b.2 7)+List.length [(gx b.2 8)]<=1073741824 then(qB .add (gx v5 0) (Jn 1) λo=>
 iL [o,(gx b.2 0),(qW b.2 1),(gx b.2 2),(qW b.2 3),(gx b.2 4),(gx b.2 5),(gx b.2 6),(D.sl ((qV b.2 7)++[(gx b.2 8)]))]) else none) else(iR (0,[(gx v5 1),(qW v5 2),(gx v5 3),(qW v5 4),(gx v5 5),(gx v5 6),(gx v5 7),(qW v5 8)]))) [(Jn 0),(D.st [(D.st [(Jn 0),(Jn 0),(Jn 0)]),(D.st [(Jn 0),(Jn 0),(Jn 0),(Jn 0)])]),(D.sl []),(Jn 0),(D.sl []),a0,a1,s,(D.sl [])]).bind λd=>
 some (D.st [(gx d.2 4),(gx d.2 5),(gx d.2 6),(qW d.2 7)])
def T2{lp}(a:ak lp):af 433 (m2 (IU lp)):=aB 0 Tryz.f37 Rl a
def Rm:Ann:=(.tl (.two (.reg [] 9) .leaf))
def IV(lp:Lp)(c:Ca)(a0:D)(a1:D)(a2:D):Option D:=
(c 97 [a0]).bind λr1=>
(c 435 [a2,r1]).bind λa=>
(c 435 [a1,a0]).bind λb=>
(c 173 [a,b]).bind λd=>
(c 357 [d]).bind λe=>
 some e
def T4{lp}(a:ak lp):af 434 (m3 (IV lp)):=nq 0 Tryz.f39 Rm a
def Ro:Ann:=let a:LO:=[(4098,.keep bB 2),(4099,.keep K1 3),(4100,.keep bK 4),(8197,.one aP (.dv aP))]
 (.tl (.two (.reg [] 7) (.two (.tl (.two (.loop ⟨[(2,.sp bB 4098),(3,.sp K1 4099),(4,.sp bK 4100),(5,.sp aP 8197),(19,.di)],a,[17,18]⟩ [(.exit 0,⟨[(2,.sp bB 4098),(4,.sp bK 4100),(5,.sp aP 8197)],[(4098,.keep bB 2),(4100,.keep bK 4),(8197,.one aP (.dv aP))],[]⟩)] (.tl (.tl (.cut [(.normal,⟨[(2,.sp bB 4098),(3,.sp K1 4099),(4,.sp bK 4100),(5,.sp aP 8197)],a,[17,18,19]⟩)] [17,18,19] [4098,4099,4100] .leaf .leaf)))) .leaf)) (.two (.reg [] 5) .leaf))))
def IW(lp:Lp)(c:Ca)(a0:D)(a1:D):Option D:=
 qY a0 [3] (Jn 0) λp=>
(c 91 [a1,p]).bind λo=>
 qP a0 [3] λm=>
(D.cut m 1 (m.length)).bind λn=>
(qZ lp (λv9=>
 qC .lss (gx v9 0) (Jn (n.length)) λb=>
 if b then((qI (gx v9 0) n λj=>
(c 91 [a1,j]).bind λa=>
(c 90 [a,(gx v9 1)]).bind λe=>
 qC .gtr e (Jn 0) λd=>
 if d then(some (0,[a])) else(some (0,[(gx v9 1)]))).bind λ(f:Nat×List D)=>
 qB .add (gx v9 0) (Jn 1) λk=>
 iL [k,(gx f.2 0)]) else(iR (0,[(gx v9 1)]))) [(Jn 0),o]).bind λg=>
 qG a0 [2] λl=>
(c 54 [l]).bind λh=>
(c 62 [(gx g.2 0),h]).bind λi=>
 some i
def T5{lp}(a:ak lp):af 435 (m2 (IW lp)):=aB 0 Tryz.f48 Ro a
end Sy
end
end
end Go.Proofs.YtphlmegkommlnaaGreatDoor
