/- Part 8 of the proof that PlaneIsSymmetric answers true at every input -/
import Derived.Test.YtphlmegkommlnaaGreatDoorSymm06
import Derived.Maps.RangeRun
import Derived.Shelf.SlSortCmp.NoneTotal
import Derived.Ground.SlsfProg
import Derived.KernelRfl
import Derived.Test.YtphlmegkommlnaaGreatDoorProg
import Derived.Test.YtphlmegkommlnaaGreatDoorChecked
set_option linter.unusedVariables false
set_option linter.unusedSimpArgs false
set_option linter.unnecessarySimpa false
set_option linter.defProp false
set_option maxRecDepth 20000
namespace Go.Proofs.YtphlmegkommlnaaGreatDoor
noncomputable section
set_option maxHeartbeats 0
noncomputable section
namespace Sy
open Go Go.Proofs
def Qd:Ann:=let o0:LO:=[(4104,.one eG (.dv eG)),(8202,.one bx (.dv bx)),(8203,.one bx (.dv bx)),(12300,.one eG (.dv eG)),(16397,.one bN (.dv bN)),(20494,.one Ty.bool (.dv Ty.bool)),(45056,.lp none 0)]
 let o1:LO:=[(4104,.one eG (.dv eG)),(8202,.one bx (.dv bx)),(8203,.one bx (.dv bx)),(12300,.one eG (.dv eG)),(16397,.one bN (.dv bN)),(20494,.one Ty.bool (.dv Ty.bool)),(32770,.keep bx 1),(32771,.keep bx 2),(45056,.lp none 0),(53251,.fv (.yld 45056)),(57348,.fv (.map K1 Ty.bool 57360)),(57360,.mp K1 Ty.bool)]
 let o2:LO:=[(4104,.one eG (.dv eG)),(8202,.one bx (.dv bx)),(8203,.one bx (.dv bx)),(12300,.one eG (.dv eG)),(16397,.one bN (.dv bN)),(20494,.one Ty.bool (.dv Ty.bool)),(45056,.lp none 0),(53251,.fv (.yld 45056)),(57348,.fv (.map K1 Ty.bool 57360)),(57360,.mp K1 Ty.bool)]
 let o3:LS:=[(0,.same (.yld 45056))]
 let o4:LS:=[(3,.same (.ptr Ty.fn 53251 [])),(6,.dv Ty.bool)]
 (.tl (.two (.reg [] 8) (.tl (.tl (.tl (.two (.two (.regI [] 3 .leaf) (.two (.all [(.normal,⟨o3,o0,[]⟩),(.ret,⟨o3,o0,[]⟩)] [] [45056] (.tl (.tl (.tl (.two (.tl (.two (.loop ⟨[(0,.same (.yld 45056)),(1,.sp bx 32770),(2,.sp bx 32771),(5,.same (.clo 100 [(.ptr Ty.fn 57348 []),(.ptr Ty.fn 53251 [])])),(20,.ow bx),(22,.di)],o1,[21]⟩ [(.ret,⟨o3,o0,[]⟩),(.exit 0,⟨[(0,.same (.yld 45056)),(1,.sp bx 32770),(2,.sp bx 32771),(5,.same (.clo 100 [(.ptr Ty.fn 57348 []),(.ptr Ty.fn 53251 [])]))],o1,[]⟩)] (.tl (.tl (.two (.two (.tl (.tl (.two (.loop ⟨[(0,.same (.yld 45056)),(1,.sp bx 32770),(2,.sp bx 32771),(5,.same (.clo 100 [(.ptr Ty.fn 57348 []),(.ptr Ty.fn 53251 [])])),(7,.sp bx 77831),(20,.ow bx),(31,.di)],[(4104,.one eG (.dv eG)),(8202,.one bx (.dv bx)),(8203,.one bx (.dv bx)),(12300,.one eG (.dv eG)),(16397,.one bN (.dv bN)),(20494,.one Ty.bool (.dv Ty.bool)),(32770,.keep bx 1),(32771,.keep bx 2),(45056,.lp none 0),(53251,.fv (.yld 45056)),(57348,.fv (.map K1 Ty.bool 57360)),(57360,.mp K1 Ty.bool),(77831,.keep bx 7)],[6,21,22,29,30]⟩ [(.ret,⟨o3,o0,[]⟩),(.exit 2,⟨[(0,.same (.yld 45056)),(1,.sp bx 32770),(2,.sp bx 32771),(5,.same (.clo 100 [(.ptr Ty.fn 57348 []),(.ptr Ty.fn 53251 [])])),(20,.ow bx)],o1,[21,22]⟩)] (.tl (.tl (.two (.two (.tl (.two (.regI [] 13 (.two (.all [(.ret,⟨o4,[(4104,.one eG (.dv eG)),(8202,.one bx (.dv bx)),(8203,.one bx (.dv bx)),(12300,.one eG (.dv eG)),(16397,.one bN (.dv bN)),(20494,.one Ty.bool (.dv Ty.bool)),(32770,.one bx (.dv bx)),(32771,.one bx (.dv bx)),(45056,.lp none 3),(53251,.fv (.yld 45056)),(57348,.fv (.map K1 Ty.bool 57360)),(57360,.mp K1 Ty.bool),(77831,.one bx (.dv bx))],[]⟩)] [] [45056] (.tl (.tl (.cut [(.normal,⟨[(2,.same (.ptr Ty.fn 57348 [])),(3,.same (.ptr Ty.fn 53251 [])),(7,.sp K1 110599)],[(4104,.one eG (.dv eG)),(8202,.one bx (.dv bx)),(8203,.one bx (.dv bx)),(12300,.one eG (.dv eG)),(16397,.one bN (.dv bN)),(20494,.one Ty.bool (.dv Ty.bool)),(32770,.one bx (.dv bx)),(32771,.one bx (.dv bx)),(45056,.lp none 3),(53251,.fv (.yld 45056)),(57348,.fv (.map K1 Ty.bool 57360)),(57360,.mp K1 Ty.bool),(77831,.one bx (.dv bx)),(110599,.one K1 (.dv K1))],[8]⟩)] [8] [45056] .leaf (.tl (.tl (.two (.regI [] 4 (.two (.tl (.all [(.normal,⟨[],[(4104,.keep eG 8),(8202,.keep bx 10),(8203,.keep bx 11),(12300,.one eG (.dv eG)),(16397,.one bN (.dv bN)),(20494,.one Ty.bool (.dv Ty.bool)),(32770,.one bx (.dv bx)),(32771,.one bx (.dv bx)),(53251,.fv (.yld 45056)),(57348,.fv (.map K1 Ty.bool 57360)),(57360,.mp K1 Ty.bool),(77831,.one bx (.dv bx))],[]⟩)] [] [4104,8202,8203] (.two (.tl (.tl (.two (.reg [] 10) (.tl (.two (.reg [] 8) (.reg [] 4)))))) .leaf))) .leaf)) .leaf))))))) .leaf)) .leaf)) .leaf) .leaf)))) .leaf))) .leaf) .leaf)))) .leaf)) (.tl (.tl (.two (.loop ⟨[(0,.same (.yld 45056)),(5,.same (.clo 100 [(.ptr Ty.fn 57348 []),(.ptr Ty.fn 53251 [])])),(55,.di)],o2,[10,53,54]⟩ [(.ret,⟨o3,o0,[]⟩),(.exit 4,⟨o3,o0,[]⟩)] (.tl (.tl (.two (.two (.tl (.tl (.two (.loop ⟨[(0,.same (.yld 45056)),(5,.same (.clo 100 [(.ptr Ty.fn 57348 []),(.ptr Ty.fn 53251 [])])),(12,.sp K1 90124),(61,.di)],[(4104,.one eG (.dv eG)),(8202,.one bx (.dv bx)),(8203,.one bx (.dv bx)),(12300,.one eG (.dv eG)),(16397,.one bN (.dv bN)),(20494,.one Ty.bool (.dv Ty.bool)),(45056,.lp none 0),(53251,.fv (.yld 45056)),(57348,.fv (.map K1 Ty.bool 57360)),(57360,.mp K1 Ty.bool),(90124,.keep K1 12)],[10,53,54,55,59,60]⟩ [(.ret,⟨o3,o0,[]⟩),(.exit 6,⟨[(0,.same (.yld 45056)),(5,.same (.clo 100 [(.ptr Ty.fn 57348 []),(.ptr Ty.fn 53251 [])]))],o2,[10,53,54,55]⟩)] (.tl (.tl (.two (.two (.tl (.tl (.two (.regI [] 10 (.two (.all [(.ret,⟨o4,[(4104,.one eG (.dv eG)),(8202,.one bx (.dv bx)),(8203,.one bx (.dv bx)),(12300,.one eG (.dv eG)),(16397,.one bN (.dv bN)),(20494,.one Ty.bool (.dv Ty.bool)),(45056,.lp none 3),(53251,.fv (.yld 45056)),(57348,.fv (.map K1 Ty.bool 57360)),(57360,.mp K1 Ty.bool),(90124,.one K1 (.dv K1)),(110607,.one gf (.dv gf))],[]⟩)] [] [45056] (.tl (.tl (.cut [(.normal,⟨[(2,.same (.ptr Ty.fn 57348 [])),(3,.same (.ptr Ty.fn 53251 [])),(7,.sp K1 126983)],[(4104,.one eG (.dv eG)),(8202,.one bx (.dv bx)),(8203,.one bx (.dv bx)),(12300,.one eG (.dv eG)),(16397,.one bN (.dv bN)),(20494,.one Ty.bool (.dv Ty.bool)),(45056,.lp none 3),(53251,.fv (.yld 45056)),(57348,.fv (.map K1 Ty.bool 57360)),(57360,.mp K1 Ty.bool),(90124,.one K1 (.dv K1)),(110607,.one gf (.dv gf)),(126983,.one K1 (.dv K1))],[8]⟩)] [8] [45056] .leaf (.tl (.tl (.two (.regI [] 4 (.two (.tl (.all [(.normal,⟨[],[(4104,.keep eG 8),(8202,.keep bx 10),(8203,.keep bx 11),(12300,.one eG (.dv eG)),(16397,.one bN (.dv bN)),(20494,.one Ty.bool (.dv Ty.bool)),(53251,.fv (.yld 45056)),(57348,.fv (.map K1 Ty.bool 57360)),(57360,.mp K1 Ty.bool),(90124,.one K1 (.dv K1)),(110607,.one gf (.dv gf))],[]⟩)] [] [4104,8202,8203] (.two (.tl (.tl (.two (.reg [] 10) (.tl (.two (.reg [] 8) (.reg [] 4)))))) .leaf))) .leaf)) .leaf))))))) (.two (.all [(.ret,⟨o4,[(4104,.one eG (.dv eG)),(8202,.one bx (.dv bx)),(8203,.one bx (.dv bx)),(12300,.one eG (.dv eG)),(16397,.one bN (.dv bN)),(20494,.one Ty.bool (.dv Ty.bool)),(45056,.lp none 3),(53251,.fv (.yld 45056)),(57348,.fv (.map K1 Ty.bool 57360)),(57360,.mp K1 Ty.bool),(90124,.one K1 (.dv K1))],[]⟩)] [] [45056] (.tl (.tl (.cut [(.normal,⟨[(2,.same (.ptr Ty.fn 57348 [])),(3,.same (.ptr Ty.fn 53251 [])),(7,.sp K1 139271)],[(4104,.one eG (.dv eG)),(8202,.one bx (.dv bx)),(8203,.one bx (.dv bx)),(12300,.one eG (.dv eG)),(16397,.one bN (.dv bN)),(20494,.one Ty.bool (.dv Ty.bool)),(45056,.lp none 3),(53251,.fv (.yld 45056)),(57348,.fv (.map K1 Ty.bool 57360)),(57360,.mp K1 Ty.bool),(90124,.one K1 (.dv K1)),(139271,.one K1 (.dv K1))],[8]⟩)] [8] [45056] .leaf (.tl (.tl (.two (.regI [] 4 (.two (.tl (.all [(.normal,⟨[],[(4104,.keep eG 8),(8202,.keep bx 10),(8203,.keep bx 11),(12300,.one eG (.dv eG)),(16397,.one bN (.dv bN)),(20494,.one Ty.bool (.dv Ty.bool)),(53251,.fv (.yld 45056)),(57348,.fv (.map K1 Ty.bool 57360)),(57360,.mp K1 Ty.bool),(90124,.one K1 (.dv K1))],[]⟩)] [] [4104,8202,8203] (.two (.tl (.tl (.two (.reg [] 10) (.tl (.two (.reg [] 8) (.reg [] 4)))))) .leaf))) .leaf)) .leaf))))))) .leaf))) .leaf))) .leaf) .leaf)))) .leaf))) .leaf) .leaf)))) .leaf)))))))) .leaf)) (.two (.reg [] 2) .leaf)))))))
def H5(lp:Lp)(c:Ca)(a0:D)(a1:D)(a2:D)(a3:D):Option D:=
(c 433 [a0,a1]).bind λr1=>
(c 433 [a2,a3]).bind λr2=>
((qZ lp (λv3=>
 qC .lss (gx v3 1) (Jn 2) λb5=>
 if b5 then((D.idx (gx v3 1) (List.length (qV v3 0))).bind λi6=>
((qV v3 0)[i6]?).bind λx7=>
 qG x7 [1] λx8=>
(c 18 [x8]).bind λr9=>
 qS r9 λl10=>
(qZ lp (λv11=>
 qC .lss (gx v11 1) (Jn (l10.length)) λb13=>
 if b13 then(qX r9 (gx v11 1) λx16=>
 qG x7 [0,1] λx17=>
 qG x16 [0] λx18=>
(c 386 [x17,x18]).bind λr19=>
(c 448 [r19]).bind λr20=>
 qB .mul (Jn 2) (gx v3 1) λx21=>
 qB .sub (Jn 1) x21 λx22=>
((c 447 [r20]).bind λr23=>
(D.tupAt r23 0).bind λx24=>
(D.tupAt r23 1).bind λx25=>
(qC .lss x22 (Jn 0) λb27=>
 if b27 then((c 97 [x24]).bind λr28=>
 some (0,[(gx v11 2),(gx v11 3),(gx v11 4),(gx v11 5),(gx v11 6),(gx v11 7),r1,r2,(qW v11 8),x7,r28])) else(some (0,[(gx v11 2),(gx v11 3),(gx v11 4),(gx v11 5),(gx v11 6),(gx v11 7),r1,r2,(qW v11 8),x7,x24]))).bind λ(r29:Nat×List D)=>
 qT (D.bool (!(D.beq x25 (Jn 0)))) λb30=>
(if b30 then(some true) else(D.truth (Option.getD (D.mget (qV r29.2 8) (gx r29.2 10)) (D.bool false)))).bind λb31=>
 qT (D.bool b31) λb32=>
 if b32 then(some (0,[(D.bool true),(gx r29.2 0),(gx r29.2 1),(gx r29.2 2),(gx r29.2 3),(gx r29.2 4),(gx r29.2 5),(gx r29.2 6),(gx r29.2 7),(qW r29.2 8),(gx r29.2 9)])) else(((c 434 [(gx r29.2 10),(gx r29.2 1),(gx r29.2 2)]).bind λr33=>
(c 342 [r33]).bind λr34=>
 qC .lss r34 (Jn 0) λb36=>
 if b36 then(some (0,[(gx r29.2 3),(gx r29.2 4),(gx r29.2 5),(gx r29.2 6),(gx r29.2 7),(D.sl (D.mput (qV r29.2 8) (gx r29.2 10) (D.bool true))),(gx r29.2 9)])) else((c 174 [r33,r33]).bind λr37=>
(c 91 [(gx r29.2 10),(gx r29.2 10)]).bind λr38=>
(c 54 [(Jn 1)]).bind λr39=>
(c 62 [r38,r39]).bind λr40=>
(c 352 [r37,r40]).bind λr41=>
 qT (gx r29.2 5) λb42=>
(if b42 then((c 73 [r41,(gx r29.2 4)]).bind λr43=>
 qB .leq r43 (Jn 0) λx44=>
 D.truth x44) else(some false)).bind λb45=>
 qT (D.bool b45) λb46=>
 if b46 then(some (0,[(gx r29.2 3),(gx r29.2 4),(gx r29.2 5),(gx r29.2 6),(gx r29.2 7),(D.sl (D.mput (qV r29.2 8) (gx r29.2 10) (D.bool true))),(gx r29.2 9)])) else((c 435 [(gx r29.2 1),(gx r29.2 10)]).bind λr47=>
(c 74 [(Jn 2)]).bind λr48=>
(c 352 [r33,r48]).bind λr49=>
(c 173 [r47,r49]).bind λr50=>
 some (0,[(D.st [(gx r29.2 10),r50]),r41,(D.bool true),(gx r29.2 6),(gx r29.2 7),(D.sl (D.mput (qV r29.2 8) (gx r29.2 10) (D.bool true))),(gx r29.2 9)])))).bind λ(r51:Nat×List D)=>
 some (0,[(D.bool true),(gx r29.2 0),(gx r29.2 1),(gx r29.2 2),(gx r51.2 0),(gx r51.2 1),(gx r51.2 2),(gx r51.2 3),(gx r51.2 4),(qW r51.2 5),(gx r51.2 6)]))).bind λ(r52:Nat×List D)=>
 qN (gx r52.2 0) λb54=>
 if b54 then(iR (0,[(gx r52.2 1),(gx r52.2 2),(gx r52.2 3),(gx r52.2 4),(gx r52.2 5),(gx r52.2 6)])) else(qB .add (gx v11 1) (Jn 1) λx55=>
 iL [(qW v11 0),x55,(gx r52.2 1),(gx r52.2 2),(gx r52.2 3),(gx r52.2 4),(gx r52.2 5),(gx r52.2 6),(qW r52.2 9)])) else(iR (1,[(qW v11 0),(gx v11 2),(gx v11 3),(gx v11 4),(gx v11 5),(gx v11 6),(gx v11 7),(qW v11 8)]))) [(qW v3 0),(Jn 0),(gx v3 2),(gx v3 3),(gx v3 4),(gx v3 5),(gx v3 6),(gx v3 7),(qW v3 8)]).bind λr56=>
 if r56.1=0 then(iR (0,[(gx r56.2 0),(gx r56.2 1),(gx r56.2 2),(gx r56.2 3),(gx r56.2 4),(gx r56.2 5)])) else(qB .add (gx v3 1) (Jn 1) λx57=>
 iL [(qW r56.2 0),x57,(gx r56.2 1),(gx r56.2 2),(gx r56.2 3),(gx r56.2 4),(gx r56.2 5),(gx r56.2 6),(qW r56.2 7)])) else(iR (1,[(gx v3 2),(gx v3 3),(gx v3 4),(gx v3 5),(gx v3 6),(gx v3 7),(qW v3 8)]))) [(D.sl [r1,r2]),(Jn 0),(D.st [(D.st [(Jn 0),(Jn 0),(Jn 0)]),(D.st [(D.st [(D.bool false),(D.bool false),(ar aQ)]),(D.st [(D.bool false),(D.bool false),(ar aQ)])])]),r1,r2,(D.st [(D.st [(Jn 0),(Jn 0),(Jn 0)]),(D.st [(D.st [(D.bool false),(D.bool false),(ar aQ)]),(D.st [(D.bool false),(D.bool false),(ar aQ)])])]),(D.st [(D.st [(D.bool false),(D.bool false),(ar aQ)]),(D.st [(D.bool false),(D.bool false),(ar aQ)])]),(D.bool false),(D.sl [])]).bind λr58=>
 if r58.1=0 then(some (1,[(gx r58.2 0),(gx r58.2 1),(gx r58.2 2),(gx r58.2 3),(gx r58.2 4),(gx r58.2 5)])) else((c 449 [r2]).bind λr59=>
(c 449 [r1]).bind λr60=>
 qS r60 λl61=>
(qZ lp (λv62=>
 qC .lss (gx v62 0) (Jn (l61.length)) λb64=>
 if b64 then(qX r60 (gx v62 0) λx67=>
 qS r59 λl68=>
(qZ lp (λv69=>
 qC .lss (gx v69 0) (Jn (l68.length)) λb71=>
 if b71 then(qX r59 (gx v69 0) λx74=>
(c 450 [x67,x74]).bind λr75=>
((c 447 [r75]).bind λr76=>
(D.tupAt r76 0).bind λx77=>
(D.tupAt r76 1).bind λx78=>
(qC .lss (Jn 1) (Jn 0) λb80=>
 if b80 then((c 97 [x77]).bind λr81=>
 some (0,[(gx v69 1),(gx v69 2),(gx v69 3),(gx v69 4),(gx v69 5),(gx v69 6),(qW v69 7),x67,r75,r81])) else(some (0,[(gx v69 1),(gx v69 2),(gx v69 3),(gx v69 4),(gx v69 5),(gx v69 6),(qW v69 7),x67,r75,x77]))).bind λ(r82:Nat×List D)=>
 qT (D.bool (!(D.beq x78 (Jn 0)))) λb83=>
(if b83 then(some true) else(D.truth (Option.getD (D.mget (qV r82.2 6) (gx r82.2 9)) (D.bool false)))).bind λb84=>
 qT (D.bool b84) λb85=>
 if b85 then(some (0,[(D.bool true),(gx r82.2 0),(gx r82.2 1),(gx r82.2 2),(gx r82.2 3),(gx r82.2 4),(gx r82.2 5),(qW r82.2 6),(gx r82.2 7),(gx r82.2 8)])) else(((c 434 [(gx r82.2 9),(gx r82.2 1),(gx r82.2 2)]).bind λr86=>
(c 342 [r86]).bind λr87=>
 qC .lss r87 (Jn 0) λb89=>
 if b89 then(some (0,[(gx r82.2 3),(gx r82.2 4),(gx r82.2 5),(D.sl (D.mput (qV r82.2 6) (gx r82.2 9) (D.bool true))),(gx r82.2 7),(gx r82.2 8)])) else((c 174 [r86,r86]).bind λr90=>
(c 91 [(gx r82.2 9),(gx r82.2 9)]).bind λr91=>
(c 54 [(Jn 1)]).bind λr92=>
(c 62 [r91,r92]).bind λr93=>
(c 352 [r90,r93]).bind λr94=>
 qT (gx r82.2 5) λb95=>
(if b95 then((c 73 [r94,(gx r82.2 4)]).bind λr96=>
 qB .leq r96 (Jn 0) λx97=>
 D.truth x97) else(some false)).bind λb98=>
 qT (D.bool b98) λb99=>
 if b99 then(some (0,[(gx r82.2 3),(gx r82.2 4),(gx r82.2 5),(D.sl (D.mput (qV r82.2 6) (gx r82.2 9) (D.bool true))),(gx r82.2 7),(gx r82.2 8)])) else((c 435 [(gx r82.2 1),(gx r82.2 9)]).bind λr100=>
(c 74 [(Jn 2)]).bind λr101=>
(c 352 [r86,r101]).bind λr102=>
(c 173 [r100,r102]).bind λr103=>
 some (0,[(D.st [(gx r82.2 9),r103]),r94,(D.bool true),(D.sl (D.mput (qV r82.2 6) (gx r82.2 9) (D.bool true))),(gx r82.2 7),(gx r82.2 8)])))).bind λ(r104:Nat×List D)=>
 some (0,[(D.bool true),(gx r82.2 0),(gx r82.2 1),(gx r82.2 2),(gx r104.2 0),(gx r104.2 1),(gx r104.2 2),(qW r104.2 3),(gx r104.2 4),(gx r104.2 5)]))).bind λ(r105:Nat×List D)=>
 qN (gx r105.2 0) λb107=>
 if b107 then(iR (0,[(gx r105.2 1),(gx r105.2 2),(gx r105.2 3),(gx r105.2 4),(gx r105.2 5),(gx r105.2 6)])) else(((c 447 [(gx r105.2 9)]).bind λr108=>
(D.tupAt r108 0).bind λx109=>
(D.tupAt r108 1).bind λx110=>
(qC .lss (Jn (-1)) (Jn 0) λb112=>
 if b112 then((c 97 [x109]).bind λr113=>
 some (0,[(gx r105.2 1),(gx r105.2 2),(gx r105.2 3),(gx r105.2 4),(gx r105.2 5),(gx r105.2 6),(qW r105.2 7),(gx r105.2 8),r113])) else(some (0,[(gx r105.2 1),(gx r105.2 2),(gx r105.2 3),(gx r105.2 4),(gx r105.2 5),(gx r105.2 6),(qW r105.2 7),(gx r105.2 8),x109]))).bind λ(r114:Nat×List D)=>
 qT (D.bool (!(D.beq x110 (Jn 0)))) λb115=>
(if b115 then(some true) else(D.truth (Option.getD (D.mget (qV r114.2 6) (gx r114.2 8)) (D.bool false)))).bind λb116=>
 qT (D.bool b116) λb117=>
 if b117 then(some (0,[(D.bool true),(gx r114.2 0),(gx r114.2 1),(gx r114.2 2),(gx r114.2 3),(gx r114.2 4),(gx r114.2 5),(qW r114.2 6),(gx r114.2 7)])) else(((c 434 [(gx r114.2 8),(gx r114.2 1),(gx r114.2 2)]).bind λr118=>
(c 342 [r118]).bind λr119=>
 qC .lss r119 (Jn 0) λb121=>
 if b121 then(some (0,[(gx r114.2 3),(gx r114.2 4),(gx r114.2 5),(D.sl (D.mput (qV r114.2 6) (gx r114.2 8) (D.bool true))),(gx r114.2 7)])) else((c 174 [r118,r118]).bind λr122=>
(c 91 [(gx r114.2 8),(gx r114.2 8)]).bind λr123=>
(c 54 [(Jn 1)]).bind λr124=>
(c 62 [r123,r124]).bind λr125=>
(c 352 [r122,r125]).bind λr126=>
 qT (gx r114.2 5) λb127=>
(if b127 then((c 73 [r126,(gx r114.2 4)]).bind λr128=>
 qB .leq r128 (Jn 0) λx129=>
 D.truth x129) else(some false)).bind λb130=>
 qT (D.bool b130) λb131=>
 if b131 then(some (0,[(gx r114.2 3),(gx r114.2 4),(gx r114.2 5),(D.sl (D.mput (qV r114.2 6) (gx r114.2 8) (D.bool true))),(gx r114.2 7)])) else((c 435 [(gx r114.2 1),(gx r114.2 8)]).bind λr132=>
(c 74 [(Jn 2)]).bind λr133=>
(c 352 [r118,r133]).bind λr134=>
(c 173 [r132,r134]).bind λr135=>
 some (0,[(D.st [(gx r114.2 8),r135]),r126,(D.bool true),(D.sl (D.mput (qV r114.2 6) (gx r114.2 8) (D.bool true))),(gx r114.2 7)])))).bind λ(r136:Nat×List D)=>
 some (0,[(D.bool true),(gx r114.2 0),(gx r114.2 1),(gx r114.2 2),(gx r136.2 0),(gx r136.2 1),(gx r136.2 2),(qW r136.2 3),(gx r136.2 4)]))).bind λ(r137:Nat×List D)=>
 qN (gx r137.2 0) λb139=>
 if b139 then(iR (0,[(gx r137.2 1),(gx r137.2 2),(gx r137.2 3),(gx r137.2 4),(gx r137.2 5),(gx r137.2 6)])) else(qB .add (gx v69 0) (Jn 1) λx140=>
 iL [x140,(gx r137.2 1),(gx r137.2 2),(gx r137.2 3),(gx r137.2 4),(gx r137.2 5),(gx r137.2 6),(qW r137.2 7)]))) else(iR (1,[(gx v69 1),(gx v69 2),(gx v69 3),(gx v69 4),(gx v69 5),(gx v69 6),(qW v69 7)]))) [(Jn 0),(gx v62 1),(gx v62 2),(gx v62 3),(gx v62 4),(gx v62 5),(gx v62 6),(qW v62 7)]).bind λr141=>
 if r141.1=0 then(iR (0,[(gx r141.2 0),(gx r141.2 1),(gx r141.2 2),(gx r141.2 3),(gx r141.2 4),(gx r141.2 5)])) else(qB .add (gx v62 0) (Jn 1) λx142=>
 iL [x142,(gx r141.2 0),(gx r141.2 1),(gx r141.2 2),(gx r141.2 3),(gx r141.2 4),(gx r141.2 5),(qW r141.2 6)])) else(iR (1,[(gx v62 1),(gx v62 2),(gx v62 3),(gx v62 4),(gx v62 5),(gx v62 6)]))) [(Jn 0),(gx r58.2 0),(gx r58.2 1),(gx r58.2 2),(gx r58.2 3),(gx r58.2 4),(gx r58.2 5),(qW r58.2 6)]).bind λr143=>
 if r143.1=0 then(some (1,[(gx r143.2 0),(gx r143.2 1),(gx r143.2 2),(gx r143.2 3),(gx r143.2 4),(gx r143.2 5)])) else(some (0,[(gx r143.2 0),(gx r143.2 1),(gx r143.2 2),(gx r143.2 3),(gx r143.2 4),(gx r143.2 5)])))).bind λ(r144:Nat×List D)=>
 if r144.1=0 then(some (D.tup [(gx r144.2 3),(gx r144.2 5)])) else(some (D.tup [(gx r144.2 3),(gx r144.2 5)]))
def Sw{lp}(hlp:ak lp):af 416 (m4 (H5 lp)):=Fy 0 Tryz.f11 Qd hlp
def Qe:Ann:=(.tl (.two (.reg [] 8) .leaf))
def H6(lp:Lp)(c:Ca)(a0:D)(a1:D)(a2:D)(a3:D)(a4:D):Option D:=
(c 433 [a1,a2]).bind λr1=>
(c 433 [a3,a4]).bind λr2=>
(c 434 [a0,r1,r2]).bind λr3=>
 some r3
def Sx{lp}(hlp:ak lp):af 419 (m5 (H6 lp)):=BT 0 Tryz.f15 Qe hlp
def Qf:Ann:=let o0:LO:=[(4101,.keep eG 5),(4102,.keep cG 6),(4103,.keep K3 7),(4104,.keep cG 8),(4105,.keep K3 9)]
 (.tl (.two (.tl (.two (.loop ⟨[(5,.sp eG 4101),(6,.sp cG 4102),(7,.sp K3 4103),(8,.sp cG 4104),(9,.sp K3 4105),(15,.di)],o0,[14]⟩ [(.ret,⟨[(10,.dv Ty.bool)],[],[]⟩),(.exit 0,⟨[(5,.sp eG 4101),(6,.sp cG 4102),(7,.sp K3 4103),(8,.sp cG 4104),(9,.sp K3 4105)],o0,[]⟩)] .leaf) .leaf)) (.tl (.two (.reg [] 24) .leaf))))
def Mq(lp:Lp)(c:Ca)(a0:D)(a1:D)(a2:D)(a3:D)(a4:D):Option D:=
 qG a0 [0] λx1=>
(qZ lp (λv2=>
 qC .lss (gx v2 0) (Jn 3) λb4=>
 if b4 then((D.idx (gx v2 0) 3).bind λi5=>
(D.fld x1 i5).bind λx6=>
 qC .geq x6 (Jn 2305843009213693952) λb8=>
(if b8 then(some true) else(qB .leq x6 (Jn (-2305843009213693952)) λx9=>
 D.truth x9)).bind λb10=>
 qT (D.bool b10) λb11=>
 if b11 then(iR (0,[(D.bool false)])) else(qB .add (gx v2 0) (Jn 1) λx12=>
 iL [x12])) else(iR (1,[]))) [(Jn 0)]).bind λr13=>
 if r13.1=0 then(some (gx r13.2 0)) else(qG a0 [0] λx14=>
 qT (D.bool (D.beq x14 (D.st [(Jn 0),(Jn 0),(Jn 0)]))) λb15=>
(if b15 then(some true) else(qG a0 [1,0,0] λx16=>
 D.truth x16)).bind λb17=>
 qT (D.bool b17) λb18=>
 if b18 then(some (D.bool false)) else((c 433 [a1,a2]).bind λr19=>
 qG a0 [0] λx20=>
(c 435 [r19,x20]).bind λr21=>
 qG a0 [1] λx22=>
(c 73 [r21,x22]).bind λr23=>
 qC .leq r23 (Jn 0) λb25=>
(if b25 then((c 433 [a3,a4]).bind λr26=>
 qG a0 [0] λx27=>
(c 97 [x27]).bind λr28=>
(c 435 [r26,r28]).bind λr29=>
 qG a0 [1] λx30=>
(c 357 [x30]).bind λr31=>
(c 73 [r29,r31]).bind λr32=>
 qB .leq r32 (Jn 0) λx33=>
 D.truth x33) else(some false)).bind λb34=>
 some (D.bool b34)))
def SA{lp}(hlp:ak lp):af 421 (m5 (Mq lp)):=BT 0 Tryz.f17 Qf hlp
def Qg:Ann:=(.tl (.tl (.two (.reg [] 6) (.tl (.tl (.two (.tl (.two (.loop ⟨[(3,.sp cG 4099),(7,.sp bS 12295),(9,.di),(25,.di)],[(4099,.keep cG 3),(12295,.keep bS 7)],[8,23,24]⟩ [(.exit 0,⟨[(9,.di)],[],[]⟩)] (.tl (.tl (.two (.two (.tl (.reg [] 15)) .leaf) .leaf)))) .leaf)) .leaf))))))
def Mr(lp:Lp)(c:Ca)(a0:D)(a1:D)(a2:D):Option D:=
(c 71 [a2]).bind λr1=>
 qT r1 λb2=>
 if b2 then(some (Jn (-1))) else(qG a0 [0] λx3=>
(c 135 [x3]).bind λr4=>
(c 440 [a2,r4]).bind λr5=>
 qG a0 [1] λx6=>
(c 385 [x6]).bind λr7=>
(c 18 [a1]).bind λr8=>
 qS r8 λl9=>
(qZ lp (λv10=>
 qC .lss (gx v10 1) (Jn (l9.length)) λb12=>
 if b12 then(qX r8 (gx v10 1) λx15=>
 qG x15 [1] λx16=>
 qB .mul r7 x16 λx17=>
(c 74 [x17]).bind λr18=>
 qG a0 [1] λx19=>
 qG x15 [0] λx20=>
(c 386 [x19,x20]).bind λr21=>
(c 72 [r21,r5]).bind λr22=>
(c 73 [r18,r22]).bind λr23=>
(D.min2 (gx v10 0) r23).bind λx24=>
 qB .add (gx v10 1) (Jn 1) λx25=>
 iL [x24,x25]) else(iR (0,[(gx v10 0)]))) [(Jn 1),(Jn 0)]).bind λr26=>
 some (gx r26.2 0))
def SB{lp}(hlp:ak lp):af 423 (m3 (Mr lp)):=og 0 Tryz.f19 Qg hlp
end Sy
end
end
noncomputable section
set_option maxHeartbeats 0
noncomputable section
namespace Sy
open Go Go.Proofs
def Qh:Ann:=let o0:LO:=[(4100,.keep cG 4),(4101,.keep K3 5),(4102,.keep cG 6),(4103,.keep K3 7),(4104,.keep bS 8),(36879,.keep bS 15),(53265,.one bS (.dv bS))]
 let o1:LO:=[(4100,.keep cG 4),(4101,.keep K3 5),(4102,.keep cG 6),(4103,.keep K3 7),(4104,.keep bS 8),(36879,.one bS (.dv bS))]
 (.tl (.two (.reg [] 8) (.two (.reg [] 6) (.tl (.two (.tl (.two (.loop ⟨[(4,.sp cG 4100),(5,.sp K3 4101),(6,.sp cG 4102),(7,.sp K3 4103),(8,.sp bS 4104),(12,.ow bS),(37,.ow Ti),(39,.di)],[(4100,.keep cG 4),(4101,.keep K3 5),(4102,.keep cG 6),(4103,.keep K3 7),(4104,.one bS (.dv bS))],[38]⟩ [(.ret,⟨[(8,.sp bS 4104),(9,.dv Ty.bool)],[(4104,.one bS (.dv bS))],[]⟩),(.exit 0,⟨[(8,.sp bS 4104)],[(4104,.one bS (.dv bS))],[]⟩)] (.tl (.tl (.two (.two (.tl (.tl (.two (.tl (.two (.loop ⟨[(4,.sp cG 4100),(5,.sp K3 4101),(6,.sp cG 4102),(7,.sp K3 4103),(8,.sp bS 4104),(12,.ow bS),(15,.sp bS 36879),(37,.ow Ti),(45,.dv xJ),(47,.di)],o1,[14,38,39,46]⟩ [(.exit 2,⟨[(4,.sp cG 4100),(5,.sp K3 4101),(6,.sp cG 4102),(7,.sp K3 4103),(8,.sp bS 4104),(12,.ow bS),(15,.sp bS 36879),(37,.ow Ti)],o1,[38,39]⟩)] (.tl (.tl (.two (.two (.tl (.two (.tl (.two (.loop ⟨[(4,.sp cG 4100),(5,.sp K3 4101),(6,.sp cG 4102),(7,.sp K3 4103),(8,.sp bS 4104),(12,.ow bS),(15,.sp bS 36879),(17,.sp bS 53265),(37,.ow Ti),(51,.di)],o0,[14,38,39,45,46,47]⟩ [(.exit 4,⟨[(4,.sp cG 4100),(5,.sp K3 4101),(6,.sp cG 4102),(7,.sp K3 4103),(8,.sp bS 4104),(12,.ow bS),(15,.sp bS 36879),(17,.sp bS 53265),(37,.ow Ti)],o0,[14,38,39,45,46,47]⟩)] .leaf) .leaf)) .leaf)) .leaf) .leaf)))) .leaf)) (.two (.reg [] 6) .leaf)))) .leaf) .leaf)))) .leaf)) .leaf)))))
def Ms(lp:Lp)(c:Ca)(a0:D)(a1:D)(a2:D)(a3:D):Option D:=
(c 433 [a0,a1]).bind λr1=>
(c 433 [a2,a3]).bind λr2=>
(c 443 [r1,r2]).bind λr3=>
 qS r3 λl4=>
(c 443 [r2,r1]).bind λr5=>
 qS r5 λl6=>
 if l4.length+l6.length<=1073741824 then(qC .lss (Jn (List.length (l4++l6))) (Jn 4) λb8=>
 if b8 then(some (D.tup [(D.st [(D.st [(D.st [(D.bool false),(D.bool false),(ar aQ)]),(D.st [(D.bool false),(D.bool false),(ar aQ)])]),(D.st [(D.st [(D.bool false),(D.bool false),(ar aQ)]),(D.st [(D.bool false),(D.bool false),(ar aQ)])]),(D.st [(D.st [(D.bool false),(D.bool false),(ar aQ)]),(D.st [(D.bool false),(D.bool false),(ar aQ)])])]),(D.bool false)])) else((qZ lp (λv9=>
 qC .lss (gx v9 2) (Jn 4) λb11=>
 if b11 then((D.idx (gx v9 2) (List.length (qV v9 1))).bind λrq=>
((qV v9 1)[rq]?).bind λx13=>
(c 135 [(D.st [(Jn 0),(Jn 0),(Jn 0)])]).bind λr14=>
(qZ lp (λv15=>
 qC .lss (gx v15 3) (Jn (List.length (qV v9 0))) λb17=>
 if b17 then(qX (gx v15 2) (gx v15 3) λx20=>
(qZ lp (λv21=>
 qC .lss (gx v21 2) (Jn 3) λb23=>
 if b23 then(qJ (gx v21 2) 3 (gx v21 3) λx25=>
(c 444 [x25,x13]).bind λr26=>
(D.tupAt r26 0).bind λx27=>
(D.tupAt r26 1).bind λx28=>
(D.idx (gx v21 2) 3).bind λi29=>
(D.set (gx v21 3) [i29] x27).bind λx30=>
 qB .add (gx v21 2) (Jn 1) λx31=>
 iL [(qW v21 0),(qW v21 1),x31,x30]) else(iR (0,[(qW v21 0),(qW v21 1),(gx v21 3)]))) [(qW v15 0),(qW v15 1),(Jn 0),x20]).bind λr32=>
(c 371 [(gx v15 4),(gx r32.2 2)]).bind λr33=>
 qB .add (gx v15 3) (Jn 1) λx34=>
 iL [(qW r32.2 0),(qW r32.2 1),(gx v15 2),x34,r33]) else(iR (0,[(qW v15 0),(qW v15 1),(gx v15 4)]))) [(qW v9 0),(qW v9 1),(qW v9 0),(Jn 0),r14]).bind λr35=>
(c 333 [(Jn 1),(Jn (List.length (qV r35.2 0)))]).bind λr36=>
(c 445 [r36,(gx r35.2 2)]).bind λr37=>
(c 423 [a0,a1,r37]).bind λr38=>
 qT (D.bool (D.beq r38 (Jn 1))) λb39=>
(if b39 then((c 423 [a2,a3,r37]).bind λr40=>
 D.truth (D.bool (D.beq r40 (Jn 1)))) else(some false)).bind λb41=>
 qT (D.bool b41) λb42=>
 if b42 then(iR (0,[(D.bool true),r37])) else(qB .add (gx v9 2) (Jn 1) λx43=>
 iL [(qW r35.2 0),(qW r35.2 1),x43,(gx v9 3)])) else(iR (1,[(gx v9 3)]))) [(D.sl (l4++l6)),(D.sl [(Jn 20),(Jn 60),(Jn 120),(Jn 240)]),(Jn 0),(D.st [(D.st [(D.st [(D.bool false),(D.bool false),(ar aQ)]),(D.st [(D.bool false),(D.bool false),(ar aQ)])]),(D.st [(D.st [(D.bool false),(D.bool false),(ar aQ)]),(D.st [(D.bool false),(D.bool false),(ar aQ)])]),(D.st [(D.st [(D.bool false),(D.bool false),(ar aQ)]),(D.st [(D.bool false),(D.bool false),(ar aQ)])])])]).bind λr44=>
 if r44.1=0 then(some (D.tup [(gx r44.2 1),(gx r44.2 0)])) else(some (D.tup [(D.st [(D.st [(D.st [(D.bool false),(D.bool false),(ar aQ)]),(D.st [(D.bool false),(D.bool false),(ar aQ)])]),(D.st [(D.st [(D.bool false),(D.bool false),(ar aQ)]),(D.st [(D.bool false),(D.bool false),(ar aQ)])]),(D.st [(D.st [(D.bool false),(D.bool false),(ar aQ)]),(D.st [(D.bool false),(D.bool false),(ar aQ)])])]),(D.bool false)])))) else none
def SC{lp}(hlp:ak lp):af 425 (m4 (Ms lp)):=Fy 0 Tryz.f21 Qh hlp
def Qi:Ann:=(.tl (.two (.tl (.two (.loop ⟨[(1,.sp cG 4097),(3,.di)],[(4097,.keep cG 1)],[]⟩ [(.ret,⟨[(2,.dv Ty.bool)],[],[]⟩),(.exit 0,⟨[(1,.sp cG 4097)],[(4097,.keep cG 1)],[]⟩)] .leaf) .leaf)) .leaf))
def H7(lp:Lp)(c:Ca)(a0:D):Option D:=
(qZ lp (λv1=>
 qC .lss (gx v1 0) (Jn 3) λb3=>
 if b3 then((D.idx (gx v1 0) 3).bind λi4=>
 qG a0 [0,i4] λx5=>
 qC .geq x5 (Jn 140737488355328) λb7=>
(if b7 then(some true) else((D.idx (gx v1 0) 3).bind λi8=>
 qG a0 [0,i8] λx9=>
 qB .leq x9 (Jn (-140737488355328)) λx10=>
 D.truth x10)).bind λb11=>
 qT (D.bool b11) λb12=>
 if b12 then(iR (0,[(D.bool false)])) else(qB .add (gx v1 0) (Jn 1) λx13=>
 iL [x13])) else(iR (1,[]))) [(Jn 0)]).bind λr14=>
 if r14.1=0 then(some (gx r14.2 0)) else(qG a0 [1] λx15=>
(c 331 [x15]).bind λr16=>
 some r16)
def SD{lp}(hlp:ak lp):af 427 (m1 (H7 lp)):=bc 0 Tryz.f25 Qi hlp
def Qj:Ann:=(.tl (.two (.reg [] 8) .leaf))
def H8(lp:Lp)(c:Ca)(a0:D)(a1:D):Option D:=
(c 38 [a1,a1]).bind λr1=>
(c 33 [a0,a0]).bind λr2=>
(c 63 [r2]).bind λr3=>
(c 65 [r1,r3]).bind λr4=>
 some r4
def SE{lp}(hlp:ak lp):af 428 (m2 (H8 lp)):=aA 0 Tryz.f26 Qj hlp
def Qk:Ann:=(.tl (.tl (.two (.tl (.two (.loop ⟨[(2,.sp K1 4098),(3,.sp K1 4099),(4,.sp K3 4100),(5,.ow K1),(6,.di)],[(4098,.keep K1 2),(4099,.keep K1 3),(4100,.one K3 (.st [K2] [.ow K1]))],[]⟩ [(.exit 0,⟨[(4,.sp K3 4100),(5,.ow K1)],[(4100,.one K3 (.st [K2] [.ow K1]))],[]⟩)] .leaf) .leaf)) .leaf)))
def Mt(lp:Lp)(c:Ca)(a0:D)(a1:D):Option D:=
(qZ lp (λv1=>
 qC .lss (gx v1 1) (Jn 8) λb3=>
 if b3 then(qG a0 [0] λx4=>
 qB .quo (gx v1 1) (Jn 4) λx5=>
 qG a1 [0] λx6=>
 qB .mul x5 x6 λx7=>
 qB .add x4 x7 λx8=>
 qG a0 [1] λx9=>
 qB .quo (gx v1 1) (Jn 2) λx10=>
 qB .rem x10 (Jn 2) λx11=>
 qG a1 [1] λx12=>
 qB .mul x11 x12 λx13=>
 qB .add x9 x13 λx14=>
 qG a0 [2] λx15=>
 qB .rem (gx v1 1) (Jn 2) λx16=>
 qG a1 [2] λx17=>
 qB .mul x16 x17 λx18=>
 qB .add x15 x18 λx19=>
 if List.length (qV v1 0)+List.length [(D.st [x8,x14,x19])]<=1073741824 then(qB .add (gx v1 1) (Jn 1) λx20=>
 iL [(D.sl ((qV v1 0)++[(D.st [x8,x14,x19])])),x20,(qW v1 2)]) else none) else(iR (0,[(qW v1 0),(qW v1 2)]))) [(D.sl []),(Jn 0),(D.sl [])]).bind λr21=>
 some (D.st [(qW r21.2 0)])
def SF{lp}(hlp:ak lp):af 429 (m2 (Mt lp)):=aA 0 Tryz.f30 Qk hlp
def Mu(lp:Lp)(c:Ca)(a0:D)(a1:D)(a2:D):Option D:=
 some (D.st [(D.st [a0,a1,a2]),(D.st [(Jn 1),(Jn 0),(Jn 0),(Jn 0)])])
def SG{lp}(hlp:ak lp):af 430 (m3 (Mu lp)):=og 0 Tryz.f31 .leaf hlp
def Ql:Ann:=(.tl (.tl (.two (.tl (.two (.loop ⟨[(2,.sp K3 4098),(5,.di)],[(4098,.keep K3 2)],[]⟩ [(.ret,⟨[(4,.dv Ty.bool)],[],[]⟩),(.exit 0,⟨[(2,.sp K3 4098)],[(4098,.keep K3 2)],[]⟩)] (.tl (.two (.two (.tl (.two (.loop ⟨[(2,.sp K3 4098),(6,.di)],[(4098,.keep K3 2)],[5]⟩ [(.ret,⟨[(4,.dv Ty.bool)],[],[]⟩),(.exit 2,⟨[(2,.sp K3 4098)],[(4098,.keep K3 2)],[5]⟩)] .leaf) .leaf)) .leaf) .leaf))) .leaf)) .leaf)))
def H9(lp:Lp)(c:Ca)(a0:D)(a1:D):Option D:=
 qP a0 [0] λl2=>
 qC .gtr (Jn (l2.length)) a1 λb4=>
 if b4 then(some (D.bool false)) else((qZ lp (λv5=>
 qM a0 [0] (gx v5 0) λb9=>
 if b9 then((qZ lp (λv10=>
 qC .lss (gx v10 0) (Jn 3) λb12=>
 if b12 then(qY a0 [0] (gx v5 0) λx16=>
(D.idx (gx v10 0) 3).bind λi17=>
(D.fld x16 i17).bind λx18=>
 qC .gtr x18 (Jn 4096) λb20=>
(if b20 then(some true) else(qY a0 [0] (gx v5 0) λx24=>
(D.idx (gx v10 0) 3).bind λi25=>
(D.fld x24 i25).bind λx26=>
 qB .lss x26 (Jn (-4096)) λx27=>
 D.truth x27)).bind λb28=>
 qT (D.bool b28) λb29=>
 if b29 then(iR (0,[(D.bool false)])) else(qB .add (gx v10 0) (Jn 1) λx30=>
 iL [x30])) else(iR (1,[]))) [(Jn 0)]).bind λr31=>
 if r31.1=0 then(iR (0,[(gx r31.2 0)])) else(qB .add (gx v5 0) (Jn 1) λx32=>
 iL [x32])) else(iR (1,[]))) [(Jn 0)]).bind λr33=>
 if r33.1=0 then(some (gx r33.2 0)) else((c 15 [a0]).bind λr34=>
 some (D.bool (D.beq r34 (Jn 0)))))
def SH{lp}(hlp:ak lp):af 431 (m2 (H9 lp)):=aA 0 Tryz.f32 Ql hlp
def Qm:Ann:=(.tl (.two (.reg [] 4) .leaf))
def Mv(lp:Lp)(c:Ca)(a0:D)(a1:D):Option D:=
(c 75 [a1]).bind λr1=>
 some (D.st [a0,r1])
def SI{lp}(hlp:ak lp):af 432 (m2 (Mv lp)):=aA 0 Tryz.f33 Qm hlp
def Qn:Ann:=let o0:LO:=[(4098,.keep cG 2),(4100,.one bx (.st [cG,K3,Ti,K2] [.dv cG,.st [K2] [.ow K1],.di,.ow K1])),(8197,.one bx (.st [cG,K3,Ti,K2] [.dv cG,.dv K3,.di,.ow K1])),(28680,.one K1 (.dv K1))]
 (.tl (.two (.reg [] 7) (.two (.tl (.two (.loop ⟨[(2,.sp cG 4098),(4,.sp bx 4100),(5,.sp bx 8197),(19,.di)],[(4098,.keep cG 2),(4100,.one bx (.st [cG,K3,Ti,K2] [.dv cG,.st [K2] [.ow K1],.di,.ow K1])),(8197,.one bx (.st [cG,K3,Ti,K2] [.dv cG,.dv K3,.di,.ow K1]))],[17,18]⟩ [(.exit 0,⟨[(4,.sp bx 4100),(5,.sp bx 8197)],[(4100,.one bx (.st [cG,K3,Ti,K2] [.dv cG,.st [K2] [.ow K1],.di,.ow K1])),(8197,.one bx (.st [cG,K3,Ti,K2] [.dv cG,.dv K3,.di,.ow K1]))],[]⟩)] (.tl (.tl (.two (.two (.tl (.tl (.two (.tl (.two (.loop ⟨[(2,.sp cG 4098),(4,.sp bx 4100),(5,.sp bx 8197),(8,.sp K1 28680),(27,.di)],o0,[17,18,19]⟩ [(.exit 2,⟨[(2,.sp cG 4098),(4,.sp bx 4100),(5,.sp bx 8197),(8,.sp K1 28680)],o0,[17,18,19]⟩)] (.tl (.tl (.two (.two (.tl (.reg [] 12)) .leaf) .leaf)))) .leaf)) .leaf))) .leaf) .leaf)))) .leaf)) .leaf)))
def Ia(lp:Lp)(c:Ca)(a0:D)(a1:D):Option D:=
 qG a0 [1] λx1=>
(c 385 [x1]).bind λr2=>
 qG a1 [0] λx3=>
 qS x3 λl4=>
(qZ lp (λv5=>
 qC .lss (gx v5 0) (Jn (l4.length)) λb7=>
 if b7 then(qX x3 (gx v5 0) λx10=>
 qG a0 [1] λx11=>
(c 386 [x11,x10]).bind λr12=>
(qZ lp (λv13=>
 qC .lss (gx v13 0) (Jn 3) λb15=>
 if b15 then(qJ (gx v13 0) 3 (gx v13 9) λx17=>
(D.idx (gx v13 0) 3).bind λi18=>
 qG a0 [0,i18] λx19=>
 qB .mul (gx v13 7) x19 λx20=>
 qB .add x17 x20 λx21=>
(D.idx (gx v13 0) 3).bind λi22=>
(D.set (gx v13 9) [i22] x21).bind λx23=>
 qB .add (gx v13 0) (Jn 1) λx24=>
 iL [x24,(gx v13 1),(qW v13 2),(gx v13 3),(qW v13 4),(gx v13 5),(gx v13 6),(gx v13 7),(qW v13 8),x23]) else(iR (0,[(gx v13 1),(qW v13 2),(gx v13 3),(qW v13 4),(gx v13 5),(gx v13 6),(gx v13 7),(qW v13 8),(gx v13 9)]))) [(Jn 0),(gx v5 1),(qW v5 2),(gx v5 3),(qW v5 4),(gx v5 5),(gx v5 6),(gx v5 7),(qW v5 8),r12]).bind λr25=>
 if List.length (qV r25.2 7)+List.length [(gx r25.2 8)]<=1073741824 then(qB .add (gx v5 0) (Jn 1) λx26=>
 iL [x26,(gx r25.2 0),(qW r25.2 1),(gx r25.2 2),(qW r25.2 3),(gx r25.2 4),(gx r25.2 5),(gx r25.2 6),(D.sl ((qV r25.2 7)++[(gx r25.2 8)]))]) else none) else(iR (0,[(gx v5 1),(qW v5 2),(gx v5 3),(qW v5 4),(gx v5 5),(gx v5 6),(gx v5 7),(qW v5 8)]))) [(Jn 0),(D.st [(D.st [(Jn 0),(Jn 0),(Jn 0)]),(D.st [(Jn 0),(Jn 0),(Jn 0),(Jn 0)])]),(D.sl []),(Jn 0),(D.sl []),a0,a1,r2,(D.sl [])]).bind λr27=>
 some (D.st [(gx r27.2 4),(gx r27.2 5),(gx r27.2 6),(qW r27.2 7)])
def SJ{lp}(hlp:ak lp):af 433 (m2 (Ia lp)):=aA 0 Tryz.f37 Qn hlp
def Qo:Ann:=(.tl (.two (.reg [] 9) .leaf))
def Ib(lp:Lp)(c:Ca)(a0:D)(a1:D)(a2:D):Option D:=
(c 97 [a0]).bind λr1=>
(c 435 [a2,r1]).bind λr2=>
(c 435 [a1,a0]).bind λr3=>
(c 173 [r2,r3]).bind λr4=>
(c 357 [r4]).bind λr5=>
 some r5
def SK{lp}(hlp:ak lp):af 434 (m3 (Ib lp)):=og 0 Tryz.f39 Qo hlp
def Qq:Ann:=let o0:LO:=[(4098,.keep bx 2),(4099,.keep K1 3),(4100,.keep bN 4),(8197,.one aM (.dv aM))]
 (.tl (.two (.reg [] 7) (.two (.tl (.two (.loop ⟨[(2,.sp bx 4098),(3,.sp K1 4099),(4,.sp bN 4100),(5,.sp aM 8197),(19,.di)],o0,[17,18]⟩ [(.exit 0,⟨[(2,.sp bx 4098),(4,.sp bN 4100),(5,.sp aM 8197)],[(4098,.keep bx 2),(4100,.keep bN 4),(8197,.one aM (.dv aM))],[]⟩)] (.tl (.tl (.cut [(.normal,⟨[(2,.sp bx 4098),(3,.sp K1 4099),(4,.sp bN 4100),(5,.sp aM 8197)],o0,[17,18,19]⟩)] [17,18,19] [4098,4099,4100] .leaf .leaf)))) .leaf)) (.two (.reg [] 5) .leaf))))
def Ic(lp:Lp)(c:Ca)(a0:D)(a1:D):Option D:=
 qY a0 [3] (Jn 0) λx4=>
(c 91 [a1,x4]).bind λr5=>
 qP a0 [3] λl7=>
(D.cut l7 1 (l7.length)).bind λl8=>
(qZ lp (λv9=>
 qC .lss (gx v9 0) (Jn (l8.length)) λb11=>
 if b11 then((qI (gx v9 0) l8 λx13=>
(c 91 [a1,x13]).bind λr14=>
(c 90 [r14,(gx v9 1)]).bind λr15=>
 qC .gtr r15 (Jn 0) λb17=>
 if b17 then(some (0,[r14])) else(some (0,[(gx v9 1)]))).bind λ(r18:Nat×List D)=>
 qB .add (gx v9 0) (Jn 1) λx19=>
 iL [x19,(gx r18.2 0)]) else(iR (0,[(gx v9 1)]))) [(Jn 0),r5]).bind λr20=>
 qG a0 [2] λx21=>
(c 54 [x21]).bind λr22=>
(c 62 [(gx r20.2 0),r22]).bind λr23=>
 some r23
def SL{lp}(hlp:ak lp):af 435 (m2 (Ic lp)):=aA 0 Tryz.f48 Qq hlp
def Qr:Ann:=(.tl (.two (.tl (.two (.loop ⟨[(2,.sp bS 4098),(3,.sp bS 4099),(4,.sp bS 4100),(6,.di)],[(4098,.one bS (.dv bS)),(4099,.keep bS 3),(4100,.keep bS 4)],[]⟩ [(.exit 0,⟨[(2,.sp bS 4098),(4,.sp bS 4100)],[(4098,.one bS (.dv bS)),(4100,.keep bS 4)],[]⟩)] (.tl (.tl (.two (.two (.tl (.reg [] 9)) .leaf) .leaf)))) .leaf)) .leaf))
def Mw(lp:Lp)(c:Ca)(a0:D)(a1:D):Option D:=
(qZ lp (λv1=>
 qC .lss (gx v1 0) (Jn 3) λb3=>
 if b3 then(qJ (gx v1 0) 3 (gx v1 1) λx5=>
 qJ (gx v1 0) 3 a1 λx7=>
(c 336 [x5,x7]).bind λr8=>
(D.idx (gx v1 0) 3).bind λi9=>
(D.set (gx v1 1) [i9] r8).bind λx10=>
 qB .add (gx v1 0) (Jn 1) λx11=>
 iL [x11,x10]) else(iR (0,[(gx v1 1)]))) [(Jn 0),a0]).bind λr12=>
 some (gx r12.2 0)
def SM{lp}(hlp:ak lp):af 440 (m2 (Mw lp)):=aA 0 Tryz.f61 Qr hlp
def Qs:Ann:=let o0:LO:=[(4098,.keep bx 2),(4099,.keep bx 3),(8197,.one xJ (.ow bS))]
 let o1:LS:=[(2,.sp bx 4098),(3,.sp bx 4099),(5,.sp xJ 8197),(6,.same (.clo 137 [(.ptr bx 4098 []),(.ptr bx 4099 []),(.ptr xJ 8197 [])]))]
 let o2:LO:=[(4098,.keep bx 2),(4099,.keep bx 3),(8197,.one xJ (.ow bS)),(45067,.keep bS 11),(49164,.keep bS 12)]
 (.tl (.tl (.tl (.two (.tl (.two (.loop ⟨[(2,.sp bx 4098),(3,.sp bx 4099),(5,.sp xJ 8197),(6,.same (.clo 137 [(.ptr bx 4098 []),(.ptr bx 4099 []),(.ptr xJ 8197 [])])),(23,.di)],o0,[22]⟩ [(.exit 0,⟨o1,o0,[]⟩)] (.tl (.tl (.two (.two (.tl (.regI [] 5 .leaf)) .leaf) .leaf)))) .leaf)) (.tl (.two (.tl (.two (.loop ⟨[(2,.sp bx 4098),(3,.sp bx 4099),(5,.sp xJ 8197),(6,.same (.clo 137 [(.ptr bx 4098 []),(.ptr bx 4099 []),(.ptr xJ 8197 [])])),(39,.di)],o0,[8,37,38]⟩ [(.exit 2,⟨[(5,.sp xJ 8197)],[(8197,.one xJ (.ow bS))],[]⟩)] (.tl (.tl (.two (.two (.tl (.tl (.two (.reg [] 7) (.tl (.two (.loop ⟨[(2,.sp bx 4098),(3,.sp bx 4099),(5,.sp xJ 8197),(6,.same (.clo 137 [(.ptr bx 4098 []),(.ptr bx 4099 []),(.ptr xJ 8197 [])])),(11,.sp bS 45067),(12,.sp bS 49164),(55,.di)],o2,[8,37,38,39,53,54]⟩ [(.exit 4,⟨o1,o0,[8,37,38,39]⟩)] (.tl (.tl (.cut [(.normal,⟨[(2,.sp bx 4098),(3,.sp bx 4099),(5,.sp xJ 8197),(6,.same (.clo 137 [(.ptr bx 4098 []),(.ptr bx 4099 []),(.ptr xJ 8197 [])])),(11,.sp bS 45067),(12,.sp bS 49164)],o2,[8,37,38,39,53,54,55]⟩)] [8,37,38,39,53,54,55] [4098,4099,45067,49164] (.two (.tl (.tl (.tl (.tl (.two (.reg [] 16) (.tl (.tl (.two (.regI [] 6 .leaf) .leaf)))))))) .leaf) .leaf)))) .leaf))))) .leaf) .leaf)))) .leaf)) .leaf))))))
def Mx(lp:Lp)(c:Ca)(a0:D)(a1:D):Option D:=
(qP a0 [3] λl2=>
(qZ lp (λv3=>
 qC .lss (gx v3 0) (Jn (l2.length)) λb5=>
 if b5 then((c 454 [a0,(gx v3 0)]).bind λr6=>
 qG a0 [0] λx7=>
 qG a0 [1] λx8=>
(c 423 [x7,x8,r6]).bind λr9=>
 qC .geq r9 (Jn 0) λb11=>
(if b11 then(qG a1 [0] λx12=>
 qG a1 [1] λx13=>
(c 423 [x12,x13,r6]).bind λr14=>
 qB .geq r14 (Jn 0) λx15=>
 D.truth x15) else(some false)).bind λb16=>
 qT (D.bool b16) λb17=>
 if b17 then(if List.length (qV v3 1)+List.length [r6]<=1073741824 then(qB .add (gx v3 0) (Jn 1) λx18=>
 iL [x18,(D.sl ((qV v3 1)++[r6]))]) else none) else(qB .add (gx v3 0) (Jn 1) λx19=>
 iL [x19,(qW v3 1)])) else(iR (0,[(qW v3 1)]))) [(Jn 0),(D.sl [])]).bind λr20=>
 qG a1 [1] λx21=>
(c 18 [x21]).bind λr22=>
 qG a0 [1] λx23=>
(c 21 [x23]).bind λr24=>
 qS r24 λl25=>
(qZ lp (λv26=>
 qC .lss (gx v26 0) (Jn (l25.length)) λb28=>
 if b28 then(qX r24 (gx v26 0) λx31=>
 qG x31 [0] λx32=>
(c 454 [a0,x32]).bind λr33=>
 qG x31 [1] λx34=>
(c 454 [a0,x34]).bind λr35=>
(c 440 [r35,r33]).bind λr36=>
 qS r22 λl37=>
(qZ lp (λv38=>
 qC .lss (gx v38 0) (Jn (l37.length)) λb40=>
 if b40 then((qX r22 (gx v38 0) λx43=>
 qG a1 [0,1] λx44=>
 qG x43 [0] λx45=>
(c 386 [x44,x45]).bind λr46=>
(c 72 [r46,r36]).bind λr47=>
(c 342 [r47]).bind λr48=>
 qT (D.bool (D.beq r48 (Jn 0))) λb49=>
 if b49 then(some (0,[(qW v38 1)])) else(qG a1 [2] λx50=>
 qG x43 [1] λx51=>
 qB .mul x50 x51 λx52=>
(c 74 [x52]).bind λr53=>
 qG a1 [0,0] λx54=>
(c 135 [x54]).bind λr55=>
(c 440 [r33,r55]).bind λr56=>
(c 72 [r46,r56]).bind λr57=>
(c 336 [r53,r57]).bind λr58=>
(c 352 [r58,r47]).bind λr59=>
(c 342 [r59]).bind λr60=>
 qC .gtr r60 (Jn 0) λb62=>
(if b62 then((c 74 [(Jn 1)]).bind λr63=>
(c 73 [r59,r63]).bind λr64=>
 qB .lss r64 (Jn 0) λx65=>
 D.truth x65) else(some false)).bind λb66=>
 qT (D.bool b66) λb67=>
 if b67 then((c 445 [r59,r36]).bind λr68=>
(c 371 [r33,r68]).bind λr69=>
 qG a0 [0] λx70=>
 qG a0 [1] λx71=>
(c 423 [x70,x71,r69]).bind λr72=>
 qC .geq r72 (Jn 0) λb74=>
(if b74 then(qG a1 [0] λx75=>
 qG a1 [1] λx76=>
(c 423 [x75,x76,r69]).bind λr77=>
 qB .geq r77 (Jn 0) λx78=>
 D.truth x78) else(some false)).bind λb79=>
 qT (D.bool b79) λb80=>
 if b80 then(if List.length (qV v38 1)+List.length [r69]<=1073741824 then(some (0,[(D.sl ((qV v38 1)++[r69]))])) else none) else(some (0,[(qW v38 1)]))) else(some (0,[(qW v38 1)])))).bind λ(r81:Nat×List D)=>
 qB .add (gx v38 0) (Jn 1) λx82=>
 iL [x82,(qW r81.2 0)]) else(iR (0,[(qW v38 1)]))) [(Jn 0),(qW v26 1)]).bind λr83=>
 qB .add (gx v26 0) (Jn 1) λx84=>
 iL [x84,(qW r83.2 0)]) else(iR (0,[(qW v26 1)]))) [(Jn 0),(qW r20.2 0)]).bind λr85=>
 some (qV r85.2 0)).bind λl0=>some (D.sl l0)
def SN{lp}(hlp:ak lp):af 443 (m2 (Mx lp)):=aA 0 Tryz.f73 Qs hlp
def Qt:Ann:=(.tl (.tl (.tl (.two (.reg [] 6) (.two (.reg [] 8) (.tl (.two (.reg [] 2) .leaf)))))))
def My(lp:Lp)(c:Ca)(a0:D)(a1:D):Option D:=
(c 136 [a0]).bind λr1=>
 qN r1 λb3=>
(if b3 then(some true) else(qB .lss a1 (Jn 0) λx4=>
 D.truth x4)).bind λb5=>
 qT (D.bool b5) λb6=>
(if b6 then(some true) else(qB .gtr a1 (Jn 256) λx7=>
 D.truth x7)).bind λb8=>
 qT (D.bool b8) λb9=>
 if b9 then((c 130 []).bind λr10=>
(c 130 []).bind λr11=>
 some (D.tup [r10,r11])) else(qG a0 [0] λx12=>
(c 455 [x12,a1]).bind λr13=>
(c 169 []).bind λr14=>
(c 455 [r14,a1]).bind λr15=>
 qG a0 [1] λx16=>
(c 132 [r13,x16]).bind λr17=>
(c 62 [r17,r15]).bind λr18=>
(c 68 [r13]).bind λr19=>
 qG a0 [1] λx20=>
(c 132 [r19,x20]).bind λr21=>
(c 68 [r21]).bind λr22=>
(c 62 [r22,r15]).bind λr23=>
(c 136 [r18]).bind λr24=>
 qN r24 λb26=>
(if b26 then(some true) else((c 136 [r23]).bind λr27=>
(D.un .not r27).bind λx28=>
 D.truth x28)).bind λb29=>
 qT (D.bool b29) λb30=>
 if b30 then((c 130 []).bind λr31=>
(c 130 []).bind λr32=>
 some (D.tup [r31,r32])) else(some (D.tup [r18,r23])))
def SO{lp}(hlp:ak lp):af 444 (m2 (My lp)):=aA 0 Tryz.f74 Qt hlp
def Qu:Ann:=(.tl (.two (.tl (.two (.loop ⟨[(2,.sp bN 4098),(3,.sp bS 4099),(4,.sp bS 4100),(6,.di)],[(4098,.keep bN 2),(4099,.one bS (.dv bS)),(4100,.keep bS 4)],[]⟩ [(.exit 0,⟨[(3,.sp bS 4099),(4,.sp bS 4100)],[(4099,.one bS (.dv bS)),(4100,.keep bS 4)],[]⟩)] (.tl (.tl (.two (.two (.tl (.reg [] 7)) .leaf) .leaf)))) .leaf)) .leaf))
def Mz(lp:Lp)(c:Ca)(a0:D)(a1:D):Option D:=
(qZ lp (λv1=>
 qC .lss (gx v1 0) (Jn 3) λb3=>
 if b3 then(qJ (gx v1 0) 3 (gx v1 1) λx5=>
(c 174 [a0,x5]).bind λr6=>
(D.idx (gx v1 0) 3).bind λi7=>
(D.set (gx v1 1) [i7] r6).bind λx8=>
 qB .add (gx v1 0) (Jn 1) λx9=>
 iL [x9,x8]) else(iR (0,[(gx v1 1)]))) [(Jn 0),a1]).bind λr10=>
 some (gx r10.2 0)
def SP{lp}(hlp:ak lp):af 445 (m2 (Mz lp)):=aA 0 Tryz.f76 Qu hlp
end Sy
end
end
noncomputable section
set_option maxHeartbeats 0
noncomputable section
namespace Sy
open Go Go.Proofs
def Qv:Ann:=let o0:LO:=[(4097,.keep gf 1),(4098,.keep K1 2),(8196,.one aM (.dv aM))]
 (.tl (.tl (.two (.tl (.two (.loop ⟨[(1,.sp gf 4097),(2,.sp K1 4098),(4,.sp aM 8196),(14,.di)],o0,[13]⟩ [(.exit 0,⟨[(1,.sp gf 4097),(2,.sp K1 4098),(4,.sp aM 8196)],o0,[]⟩)] .leaf) .leaf)) (.tl (.tl (.two (.tl (.two (.loop ⟨[(2,.sp K1 4098),(4,.sp aM 8196),(7,.sp K1 28679),(31,.di)],[(4098,.one K1 (.dv K1)),(8196,.keep aM 4),(28679,.one K1 (.dv K1))],[30]⟩ [(.ret,⟨[(2,.sp K1 4098),(3,.di)],[(4098,.one K1 (.dv K1))],[]⟩),(.exit 3,⟨[(2,.sp K1 4098),(7,.sp K1 28679)],[(4098,.one K1 (.dv K1)),(28679,.one K1 (.dv K1))],[]⟩)] .leaf) .leaf)) .leaf))))))
def Id(lp:Lp)(c:Ca)(a0:D):Option D:=
(c 54 [(Jn 0)]).bind λr1=>
(qZ lp (λv2=>
 qC .lss (gx v2 0) (Jn 3) λb4=>
 if b4 then((D.idx (gx v2 0) 3).bind λi5=>
(D.fld a0 i5).bind λx6=>
(c 131 [(gx v2 1),x6]).bind λr7=>
 qB .add (gx v2 0) (Jn 1) λx8=>
 iL [x8,r7]) else(iR (0,[(gx v2 1)]))) [(Jn 0),r1]).bind λr9=>
 qG (gx r9.2 0) [0] λx10=>
 qT x10 λb11=>
 if b11 then(some (D.tup [(D.st [(Jn 0),(Jn 0),(Jn 0)]),(Jn 30)])) else((c 129 [(gx r9.2 0)]).bind λr12=>
 qT (D.bool (D.beq r12 (Jn 0))) λb13=>
 if b13 then(some (D.tup [(D.st [(Jn 0),(Jn 0),(Jn 0)]),(Jn 31)])) else((qZ lp (λv14=>
 qC .lss (gx v14 0) (Jn 3) λb16=>
 if b16 then((D.idx (gx v14 0) 3).bind λi17=>
(D.fld a0 i17).bind λx18=>
(c 132 [x18,(gx r9.2 0)]).bind λr19=>
(c 202 [r19]).bind λr20=>
(D.tupAt r20 0).bind λx21=>
(D.tupAt r20 1).bind λx22=>
 qN x22 λb24=>
(if b24 then(some true) else(qB .geq x21 (Jn 2305843009213693952) λx25=>
 D.truth x25)).bind λb26=>
 qT (D.bool b26) λb27=>
(if b27 then(some true) else(qB .leq x21 (Jn (-2305843009213693952)) λx28=>
 D.truth x28)).bind λb29=>
 qT (D.bool b29) λb30=>
 if b30 then(iR (0,[(Jn 30),(D.st [(Jn 0),(Jn 0),(Jn 0)])])) else((D.idx (gx v14 0) 3).bind λi31=>
(D.set (gx v14 2) [i31] x21).bind λx32=>
 qB .add (gx v14 0) (Jn 1) λx33=>
 iL [x33,(gx v14 1),x32])) else(iR (1,[(gx v14 1),(gx v14 2)]))) [(Jn 0),(D.st [(Jn 0),(Jn 0),(Jn 0)]),(D.st [(Jn 0),(Jn 0),(Jn 0)])]).bind λr34=>
 if r34.1=0 then(some (D.tup [(gx r34.2 1),(gx r34.2 0)])) else(some (D.tup [(gx r34.2 1),(Jn 0)]))))
def SQ{lp}(hlp:ak lp):af 447 (m1 (Id lp)):=bc 0 Tryz.f101 Qv hlp
def Qw:Ann:=(.tl (.two (.reg [] 10) .leaf))
def Ie(lp:Lp)(c:Ca)(a0:D):Option D:=
 qG a0 [0] λx1=>
(c 54 [x1]).bind λr2=>
 qG a0 [1] λx3=>
(c 54 [x3]).bind λr4=>
 qG a0 [2] λx5=>
(c 54 [x5]).bind λr6=>
 some (D.st [r2,r4,r6])
def SR{lp}(hlp:ak lp):af 448 (m1 (Ie lp)):=bc 0 Tryz.f102 Qw hlp
def Qx:Ann:=(.tl (.tl (.two (.tl (.two (.loop ⟨[(1,.sp bx 4097),(3,.ow K1),(10,.di)],[(4097,.keep bx 1)],[8,9]⟩ [(.exit 0,⟨[(3,.ow K1)],[],[]⟩)] (.tl (.tl (.two (.two (.tl (.reg [] 21)) .leaf) .leaf)))) .leaf)) .leaf)))
def If(lp:Lp)(c:Ca)(a0:D):Option D:=
 qG a0 [1] λx1=>
(c 21 [x1]).bind λr2=>
 qS r2 λl3=>
(qZ lp (λv4=>
 qC .lss (gx v4 1) (Jn (l3.length)) λb6=>
 if b6 then(qX r2 (gx v4 1) λx9=>
 qG a0 [0,1] λx10=>
 qG a0 [1,0] λx11=>
 qG x9 [1] λx12=>
 qX x11 x12 λx15=>
 qG a0 [1,0] λx16=>
 qG x9 [0] λx17=>
 qX x16 x17 λx20=>
(c 103 [x15,x20]).bind λr21=>
(c 386 [x10,r21]).bind λr22=>
 if List.length (qV v4 0)+List.length [r22]<=1073741824 then(qB .add (gx v4 1) (Jn 1) λx23=>
 iL [(D.sl ((qV v4 0)++[r22])),x23]) else none) else(iR (0,[(qW v4 0)]))) [(D.sl []),(Jn 0)]).bind λr24=>
 some (qW r24.2 0)
def SS{lp}(hlp:ak lp):af 449 (m1 (If lp)):=bc 0 Tryz.f103 Qx hlp
def Qy:Ann:=(.tl (.two (.reg [] 5) .leaf))
def Ig(lp:Lp)(c:Ca)(a0:D)(a1:D):Option D:=
(c 148 [a0]).bind λr1=>
(c 148 [a1]).bind λr2=>
(c 456 [r1,r2]).bind λr3=>
 some r3
def ST{lp}(hlp:ak lp):af 450 (m2 (Ig lp)):=aA 0 Tryz.f104 Qy hlp
def Qz:Ann:=(.tl (.two (.tl (.two (.loop ⟨[(2,.sp bx 4098),(4,.sp bS 4100),(12,.di)],[(4098,.keep bx 2),(4100,.one bS (.dv bS))],[11]⟩ [(.exit 0,⟨[(4,.sp bS 4100)],[(4100,.one bS (.dv bS))],[]⟩)] .leaf) .leaf)) .leaf))
def MA(lp:Lp)(c:Ca)(a0:D)(a1:D):Option D:=
 qY a0 [3] a1 λx4=>
(qZ lp (λv5=>
 qC .lss (gx v5 0) (Jn 3) λb7=>
 if b7 then((D.idx (gx v5 0) 3).bind λi8=>
(D.fld x4 i8).bind λx9=>
 qG a0 [2] λx10=>
(c 333 [x9,x10]).bind λr11=>
(D.idx (gx v5 0) 3).bind λrq=>
(D.set (gx v5 1) [rq] r11).bind λx13=>
 qB .add (gx v5 0) (Jn 1) λx14=>
 iL [x14,x13]) else(iR (0,[(gx v5 1)]))) [(Jn 0),(D.st [(D.st [(D.st [(D.bool false),(D.bool false),(ar aQ)]),(D.st [(D.bool false),(D.bool false),(ar aQ)])]),(D.st [(D.st [(D.bool false),(D.bool false),(ar aQ)]),(D.st [(D.bool false),(D.bool false),(ar aQ)])]),(D.st [(D.st [(D.bool false),(D.bool false),(ar aQ)]),(D.st [(D.bool false),(D.bool false),(ar aQ)])])])]).bind λr15=>
 some (gx r15.2 0)
def SU{lp}(hlp:ak lp):af 454 (m2 (MA lp)):=aA 0 Tryz.f138 Qz hlp
def Me:Ann:=(.tl (.tl (.tl (.tl (.two (.tl (.two (.two (.reg [] 4) .leaf) .leaf)) (.two (.reg [] 5) .leaf))))))
def SV{lp}(hlp:ak lp):af 455 (C1 0 lp 455 Tryz.f140 Me):=oh hlp (by kernel_rfl) (by kernel_rfl)
def QA:Ann:=(.tl (.two (.tl (.two (.loop ⟨[(2,.sp gf 4098),(3,.sp gf 4099),(4,.sp gf 4100),(8,.di)],[(4098,.keep gf 2),(4099,.keep gf 3),(4100,.one gf (.dv gf))],[]⟩ [(.exit 0,⟨[(4,.sp gf 4100)],[(4100,.one gf (.dv gf))],[]⟩)] (.tl (.tl (.two (.two (.tl (.tl (.reg [] 17))) .leaf) .leaf)))) .leaf)) .leaf))
def Ih(lp:Lp)(c:Ca)(a0:D)(a1:D):Option D:=
(qZ lp (λv1=>
 qC .lss (gx v1 0) (Jn 3) λb3=>
 if b3 then(qB .add (gx v1 0) (Jn 1) λx4=>
 qB .rem x4 (Jn 3) λx5=>
 qB .add (gx v1 0) (Jn 2) λx6=>
 qB .rem x6 (Jn 3) λx7=>
 qJ x5 3 a0 λx9=>
 qJ x7 3 a1 λx11=>
(c 61 [x9,x11]).bind λr12=>
 qJ x7 3 a0 λx14=>
 qJ x5 3 a1 λx16=>
(c 61 [x14,x16]).bind λr17=>
(c 203 [r12,r17]).bind λr18=>
(D.idx (gx v1 0) 3).bind λi19=>
(D.set (gx v1 1) [i19] r18).bind λx20=>
 qB .add (gx v1 0) (Jn 1) λx21=>
 iL [x21,x20]) else(iR (0,[(gx v1 1)]))) [(Jn 0),(D.st [(D.st [(D.bool false),(D.bool false),(ar aQ)]),(D.st [(D.bool false),(D.bool false),(ar aQ)]),(D.st [(D.bool false),(D.bool false),(ar aQ)])])]).bind λr22=>
 some (gx r22.2 0)
def SW{lp}(hlp:ak lp):af 456 (m2 (Ih lp)):=aA 0 Tryz.f162 QA hlp
def QB:Ann:=(.tl (.tl (.two (.tl (.two (.two (.reg [] 3) .leaf) .leaf)) .leaf)))
def MB(lp:Lp)(c:Ca)(a0:D)(a1:D)(a2:D):Option D:=
 qG a0 [1] λx1=>
(c 116 [x1,a1]).bind λr2=>
 qG a0 [1] λx3=>
 qT x3 λb4=>
(if b4 then(qS a2 λl5=>
 qT (D.bool (D.beq (Jn (l5.length)) (Jn 0))) λb6=>
 if b6 then(some true) else(qG a0 [2] λx7=>
(c 458 [x7]).bind λr8=>
 qX a2 (Jn 0) λx11=>
 qB .lss r8 x11 λx12=>
 D.truth x12)) else(some false)).bind λb13=>
 qT (D.bool b13) λb14=>
 if b14 then((c 54 [(Jn 1)]).bind λr15=>
(c 203 [r2,r15]).bind λr16=>
 some r16) else(some r2)
def SX{lp}(hlp:ak lp):af 457 (m3 (MB lp)):=og 0 Tryz.f193 QB hlp
def QC:Ann:=(.tl (.tl (.two (.two (.loop ⟨[(1,.sp aQ 4097),(3,.di)],[(4097,.keep aQ 1)],[]⟩ [(.exit 0,⟨[(1,.sp aQ 4097),(3,.di)],[(4097,.keep aQ 1)],[]⟩)] .leaf) .leaf) .leaf)))
def MC(lp:Lp)(c:Ca)(a0:D):Option D:=
(qZ lp (λv1=>
 qJ (gx v1 0) 16 a0 λx3=>
 qT (D.bool (D.beq x3 (D.int .u32 0))) λb4=>
 if b4 then(qB .add (gx v1 0) (Jn 1) λx5=>
 iL [x5]) else(iR (0,[(gx v1 0)]))) [(Jn 0)]).bind λr6=>
 qB .mul (Jn 32) (gx r6.2 0) λx7=>
 qJ (gx r6.2 0) 16 a0 λx9=>
(c 459 [x9]).bind λr10=>
 qB .add x7 r10 λx11=>
 some x11
def SY{lp}(hlp:ak lp):af 458 (m1 (MC lp)):=bc 0 Tryz.f220 QC hlp
def MD(lp:Lp)(c:Ca)(a0:D):Option D:=
 qT (D.bool (D.beq a0 (D.int .u32 0))) λb1=>
 if b1 then(some (Jn 32)) else((D.un .neg a0).bind λx2=>
 qB .and a0 x2 λx3=>
 qB .mul x3 (D.int .u32 125613361) λx4=>
 qB .shr x4 (D.int .u64 27) λx5=>
 none)
def SZ{lp}(hlp:ak lp):af 459 (m1 (MD lp)):=bc 0 Tryz.f241 .leaf hlp
end Sy
end
end
noncomputable section
namespace Sy
open Go Go.Proofs Go.Sort Go.Lib
variable{ro:Option Nat}{nn:Nat}
inductive AnnT where
 | hand
 | seq (a:Ann) (b:AnnT)
def Lg(E:Env)(K:St->Option D):Code->AnnT->St->Option D
 | .seq c d,.seq a b,s=>ev E c a D s λe s'=>match e with
  | .normal=>Lg E K d b s'
  | _=>none
 | _,.hand,s=>K s
 | _,_,_=>none
def qA:Code->AnnT->Code
 | .seq _ d,.seq _ b=>qA d b
 | c,_=>c
def sN(fn:Func)(tys:List Ty)(args:List D):St:={ tm:=ic tys args,ob:=λ_=>none,fresh:=0,dead:=[],nt:=fn.ntmps,lkS:=[],lkO:=[4095] }
def IW(E:Env)(K:St->Option D)(fn:Func)(ann:AnnT)(tys:List Ty)(args:List D):Option D:=
 match fn.body with
 | none=>none
 | some c=>Lg E K c ann (sN fn tys args)
section
variable{P:Program}{E:Env}{w0:Root}
def Fm.df0{s:St}{S S':Nat->Nat->Prop}{γ γ':Nat->Option Nat}{a a':Act}{w w':World}(h:Fm s S γ a w S' γ' a' w')(h4:4095∈s.lkO)(hd:a.defers=[]):a'.defers=[]:=by
 obtain⟨_,m,e,_,z⟩:=h.dfs;rw[e,z h4,hd];rfl
def iN.eq{w w':World}{b:Nat}{o:Obj}(h:iN w w' b)(ho:w.heap[b]?=some o)(hl:∀ r,o≠.loop r):w'.heap[b]?=some o:=by
 rcases h with h|⟨r,_,h1,_⟩
 ·exact h.trans ho
 ·rw[ho] at h1;cases h1;exact absurd rfl (hl r)
def Lh(hE:EnvOk P E){K:St->Option D}{Q:Exit->Act->World->Prop}{y:D}:∀ (c:Code) (ann:AnnT) {S:Nat->Nat->Prop} {γ:Nat->Option Nat} {β:Nat->Option (Nat×Nat)} {s:St} {a:Act} {w:World},
  Rp w0 S γ β s a w->a.defers=[]->4095∈s.lkO->Lg E K c ann s=some y->(∀ s' S' γ' β' a' w',Rp w0 S' γ' β' s' a' w'->a'.defers=[]->K s'=some y->(qA c ann).wpIn (FW none) nn P Q a' w')->c.wpIn (FW none) nn P Q a w:=by
 intro c
 induction c with
 | seq c d _ ih=>
  intro ann S γ β s a w h hd h4 hev hQ;cases ann with
  | hand=>exact hQ s S γ β a w h hd (by simpa only[Lg] using hev)
  | seq a1 b=>
   simp only[Lg] at hev;refine wpIn_seq (E9 hE c a1 D _ y h hev λe s' S' γ' β' a' w' n1 n2 n3 n4=>?_);cases e with
   | normal=>exact ih b n1 (n2.df0 h4 hd) (by rw[n3.lkO];exact h4) n4 hQ
   | ret=>cases n4
   | exit i=>cases n4
 | _=>
  intro ann S γ β s a w h hd h4 hev hQ;cases ann with
  | hand=>exact hQ s S γ β a w h hd (by simpa only[Lg] using hev)
  | seq a1 b=>simp[Lg] at hev
def dh(s:St)(e:Ty)(x:Nat):Option (List D):=match s.tm x with
 | .own e' v l=>if e'.beq e&&!(s.dead.contains v)&&decide (l.length<=1073741824) then some l else none
 | .nils=>some []
 | _=>none
def LG(s:St)(x:Nat)(e:Ty)(l:List D):St:={ tm:=λi=>if i=x then .d (.sl e) (.sl l) else .undef,ob:=λ_=>none,fresh:=s.fresh+1,dead:=[],nt:=s.nt,lkS:=[],lkO:=[4095] }
def D9{w:World}{S:Nat->Nat->Prop}{l:List D}{a:Option Addr}{n cap:Nat}(h:CR w S (.sl l) (.slice a n cap)):fD w S (.sl l) (.slice a n cap):=by
 refine⟨λcs h=>(by cases h),rfl,λi d c hd hc=>?_⟩
 cases i with
 | zero=>simp only[D.flat,zEb,zca,Value.cells] at hd hc;subst hd;first|(subst hc;exact h)|(simp at hc;subst hc;exact h)
 | succ i=>simp[D.flat] at hd
theorem lT{e:Ty}(hc:bH e=true):∀ l:List D,(∀ x∈l,wt e x)->∀ d∈D.flats l,qn d=true
 | [],_,d,hd=>by simp[D.flats] at hd
 | y::l,h,d,hd=>by
  simp only[D.flats,List.mem_append] at hd;rcases hd with hd|hd
  ·exact jE e y hc (h y zoa) d hd
  ·exact lT hc l (λz hz=>h z (zia _ hz)) d hd
def Rp.new{S S':Nat->Nat->Prop}{γ:Nat->Option Nat}{β:Nat->Option (Nat×Nat)}{s:St}{a a':Act}{w w':World}(h:Rp w0 S γ β s a w)(he:lK w0 w'){x:Nat}{e:Ty}{l:List D}(hn:aj e=true)(hx:x<s.nt)(hwt:∀ y∈l,wt e y)
  (hv:fD w' S' (.sl l) (a'.tmps.getD x undef)) (hnt:a'.tmps.size=s.nt) (hdf:a'.defers=[]) (hSb:∀ b o,S' b o->b<w'.heap.size) (hSo:∀ b o,S' b o->w0.Old b->w0.S0 b o):Rp w0 S' (λ_=>none) (λ_=>none) (LG s x e l) a' w':=by
 refine⟨he,λt ht=>?_,hnt,λt ht=>?_,λid o b ho=>(by cases ho),λid b hb=>(by cases hb),λid id' b hb=>(by cases hb),λ_ _=>rfl,λv b e _ hb=>(by cases hb),λv v' b e e' _ _ hb=>(by cases hb),λv id b e _ hb=>(by cases hb),λ_ _=>rfl,hSb,hSo⟩
 ·show AR _ (if t=x then AV.d (.sl e) (.sl l) else .undef) (a'.tmps.getD t undef)
  by_cases htx:t=x
  ·rw[if_pos htx];subst htx;exact .inl ⟨by simp only[aj];exact hn,⟨l,rfl,hwt⟩,hv⟩
  ·rw[if_neg htx];simp only[AR]
 ·show(if t=x then AV.d (.sl e) (.sl l) else .undef)=_
  rw[if_neg (λh=>by subst h;exact absurd hx (zwc.2 ht))]
def JF(hE:EnvOk P E){f:Nat}{e:Ty}(hf:SortOk P f e){g:Nat}(hsig:E.sig g=some ([e,e],.int .i64)/\E.free g=0){id x t d2:Nat}{ops:Array Oper}{ty1 ty2:TypeId}{p1 p2:String}{af1 af2:Array Edge}{args:Array Operand}{ats:Array TypeId}
  (hops:ops.toList=[⟨some t,.move (.tmp x),ty1,p1,af1,none⟩,⟨some d2,.call ⟨.value (.func f),args,ats⟩,ty2,p2,af2,none⟩]) (hargs:args=#[.tmp t,.func g]) {Q:Exit->Act->World->Prop}
  {S:Nat->Nat->Prop} {γ:Nat->Option Nat} {β:Nat->Option (Nat×Nat)} {s:St} {a:Act} {w:World} (h:Rp w0 S γ β s a w) (hdf:a.defers=[]) (hxt:x≠t) (hxd:x≠d2) (ht:t<s.nt) {l l':List D} (hv:dh s e x=some l) (hs:je E g l=some l')
  (hQ:∀ a' w' S',Rp w0 S' (λ_=>none) (λ_=>none) (LG s x e l') a' w'->a'.defers=[]->Q .normal a' w'):(Code.region id ops false).wpIn (FW ro) nn P Q a w:=by
 have hx:x<s.nt:=by
  rcases zna x s.nt with k|k
  ·exact k
  ·unfold dh at hv;rw[h.tmu x k] at hv;cases hv
 have hax:AR ⟨w,S,γ,β,s.ob,s.dead⟩ (s.tm x) (a.tmps.getD x undef):=h.tms x (by rw[h.nt];exact hx)
 obtain⟨ad,cap,val,hwt,hcr,hown⟩:∃ ad cap,a.tmps.getD x undef=.slice ad l.length cap/\(∀ y∈l,wt e y)/\CR w S (.sl l) (.slice ad l.length cap)/\(l≠[]->∃ b off row,ad=some ⟨b,off,none⟩/\bE w b=some row/\¬ w0.Old b/\b<w.heap.size)/\l.length<=1073741824:=by
  unfold dh at hv;split at hv
  ·rename_i e' v l0 htm;split at hv
   ·rename_i hb;simp only[zaa,zFa,decide_eq_true_eq] at hb;obtain⟨⟨hb1,hb2⟩,hb3⟩:=hb;cases hv;have:=Ty.eq_of_beq _ _ hb1;subst this;rw[htm] at hax;simp only[AR,AC] at hax;obtain⟨n0,n1,n2,ad,cap,n3,n4,n5⟩:=hax;have hval:=am n0 n3;have hdead:v ∉ s.dead:=by simpa using hb2
    refine⟨ad,cap,hval,n2,n4,λhne=>?_,hb3⟩;rcases n5 hdead with⟨q1,q2⟩|⟨b,off,q1,q2,n,q3,q4⟩
    ·exfalso;obtain⟨_,_,b,off,e1,e2,e3,e4⟩:=n4.elems;cases e1;rcases e2 with e2|e2
     ·exact hne e2
     ·rw[q1] at e2;cases e2
    ·obtain⟨k1,k2,_⟩:=h.βn v b _ hdead q2;unfold lu at q3;cases hr:bE w b with
     | none=>rw[hr] at q3;cases q3
     | some row=>exact⟨b,off,row,q1,hr,k1,k2⟩
   ·cases hv
  ·rename_i htm;cases hv;rw[htm] at hax;simp only[AR,AC] at hax;have hval:=am hax.1 hax.2;exact⟨none,0,hval,by simp,CR.of_elems (b:=0) (off:=0) (.inl rfl) (zha _) ⟨[],cF.nil,by simp⟩,λh=>absurd rfl h,by simp⟩
  ·cases hv
 obtain⟨hown,hlen⟩:=hown;have hperm:l'.Perm l:=by
  unfold je at hs;split at hs
  ·cases hs;exact fX _ l
  ·cases hs
 have hll:l'.length=l.length:=hperm.length_eq;have hwt':∀ y∈l',wt e y:=λy hy=>hwt y (hperm.subset hy);refine wpIn_region_list ?_;rw[hops];simp only[wpListIn,Region.wanted,if_true];refine(bf (K:=λv w1=>v=a.tmps.getD x undef/\w=w1) (dH.value (v:=a.eval (.tmp x)) (w':=w) rfl ⟨rfl,rfl⟩) ?_);rintro _ _ ⟨rfl,rfl⟩;have hsz:(a.put (some t) (a.tmps.getD x undef)).tmps.size=s.nt:=by simp[Act.put,h.nt]
 have ht1:(a.put (some t) (a.tmps.getD x undef)).eval (.tmp t)=a.tmps.getD x undef:=by
  have:t<a.tmps.size:=by rw[h.nt];exact ht
  simp[Act.eval,Act.put,Array.getD,this]
 have hx1:(a.put (some t) (a.tmps.getD x undef)).tmps.getD x undef=a.tmps.getD x undef:=by
  exact bM (λe=>hxt (by cases e;rfl))
 have hdf1:(a.put (some t) (a.tmps.getD x undef)).defers=[]:=hdf;generalize (a.put (some t) (a.tmps.getD x undef))=a1 at *;refine(bf (K:=λv w1=>∃ S',lK w0 w1/\fD w1 S' (.sl l') (a.tmps.getD x undef)/\(∀ b o,S' b o->b<w1.heap.size)/\(∀ b o,S' b o->w0.Old b->w0.S0 b o)) ?_ ?_)
 ·obtain⟨fn,f1,f2,f3⟩:=hf.fn;refine dH.enter (f:=f) (args:=#[.slice ad l.length cap,.func (.func g) #[] #[]]) (w':=w) ?_ ?_
  ·have hb:¬ fn.body=none:=by intro hh;rw[hh] at f3;cases f3
   have f2' : ¬ fn.name = "runtime.NumGoroutine" := by simpa using f2
   have e1:a1.eval (.tmp t)=.slice ad l.length cap:=by rw[ht1,val]
   subst hargs;have e2:a1.eval (.func g)=.func (.func g) #[] #[]:=rfl;simp[execOp,resolve,Deferred.ofValue,invoke,callFunc,f1,f2',hb,e1,e2];simp[Act.eval,f1,f2',hb]
  ·by_cases hne:l=[]
   ·subst hne;have e0:l'=[]:=by cases l' with|nil=>rfl|cons y l'=>simp at hll
    subst e0;refine(hf.empty ad cap _ w).mono ?_;rintro en w1 ⟨rfl,rfl⟩;exact⟨_,rfl,S,h.ext,by rw[val];exact D9 hcr,h.Sb,h.So⟩
   ·obtain⟨b,off,row,rfl,hr,hold,hbs⟩:=hown hne;have hcell:∀ (i:Nat) (d:D),(D.flats l)[i]?=some d->w.cell? ⟨b,off+i,none⟩=some (fe d):=by
     obtain⟨_,_,b',off',e1,e2,e3,cs,e4,e5⟩:=hcr.elems;cases e1;rcases e2 with e2|e2
     ·exact absurd e2 hne
     ·cases e2;have hleaf:=lT hf.cmp l hwt;have:=(fg hleaf).1 e4;subst this;intro i d hd;exact(e5 i (fe d) (by rw[z8a,hd];rfl)).2
    refine(DL hE hf hsig hwt hs hne (b:=b) (off:=off) (cap:=cap) hr hcell (by omega)).mono ?_
    rintro en w1 ⟨rfl,_,q1,q2,q3,q4,q5,q6,q7⟩;refine⟨_,rfl,λb' o=>(S b' o/\b'≠b)\/(b'=b/\off<=o/\o<off+(D.flats l').length),?_,?_,?_,?_⟩
    ·refine mT h.ext q2 q3 q4 q5 q1 λb' hb'=>q6 b' (λe=>hold (e ▸ hb')) (zOa hb'.1 h.ext.sz)
    ·rw[val];refine D9 ?_;rw[<-hll];refine CR.of_elems (b:=b) (off:=off) (.inr rfl) (by obtain⟨_,_,_,_,e1,_,e3,_⟩:=hcr.elems;cases e1;rw[hll];exact e3) ⟨(D.flats l').map fe,?_,λi c hc=>?_⟩
     ·exact(fg (lT hf.cmp l' hwt')).2 rfl
     ·rw[z8a] at hc;cases hd:(D.flats l')[i]? with
      | none=>rw[hd] at hc;cases hc
      | some d=>
       rw[hd] at hc;simp only[zkb,zca] at hc;subst hc;exact⟨.inr ⟨rfl,by omega,by have:=(zja.1 hd).1;omega⟩,q7 i d hd⟩
    ·rintro b' o (⟨hb',_⟩|⟨rfl,_,_⟩)
     ·exact zOa (h.Sb b' o hb') q5
     ·exact zOa hbs q5
    ·rintro b' o (⟨hb',_⟩|⟨rfl,_,_⟩) ho
     ·exact h.So b' o hb' ho
     ·exact absurd ho hold
 ·rintro v w1 ⟨S',k1,k2,k3,k4⟩;refine hQ _ w1 S' (Rp.new h k1 hf.nt hx hwt' ?_ (by simp[Act.put,hsz]) hdf1 k3 k4) hdf1
  have:(a1.put (some d2) v).tmps.getD x undef=a.tmps.getD x undef:=by
   rw[<-hx1];exact bM (λe=>hxd (by cases e;rfl))
  rw[this];exact k2
end
end Sy
end
noncomputable section
namespace Sy
open Go Go.Proofs Go.Sort Go.Lib
variable{ro:Option Nat}{nn:Nat}
open Go.ChangeMaps (setBlock)
section
variable{P:Program}{E:Env}{w0:Root}
theorem tY{ops ops':Array Oper}{Q:Exit->Act->World->Prop}:∀ (l:List Oper) (a:Act) (w:World),(∀ o∈l,o.guard=none)->wpListIn (FW ro) nn P ops Q l a w->wpListIn (FW ro) nn P ops' Q l a w
 | [],_,_,_,h=>h
 | o::l,a,w,hg,h=>by
  have hgo:=hg o zoa;have hfun:∀ a w,wpListIn (FW ro) nn P ops Q l a w->wpListIn (FW ro) nn P ops' Q l a w:=λa w=>tY l a w λo ho=>hg o (zia _ ho);simp only[wpListIn,Region.wanted,hgo,if_true] at h ⊢;exact Oper.wpIn_mono hfun h
def Jc(hE:EnvOk P E){Q:Exit->Act->World->Prop}{id:Nat}{ops:Array Oper}{R:Type}{S:Nat->Nat->Prop}{γ:Nat->Option Nat}{β:Nat->Option (Nat×Nat)}{s:St}{a:Act}{w:World}{k:Ex->St->Option R}{r:R}
  (h:Rp w0 S γ β s a w) (hev:ev E (.region id ops false) .leaf R s k=some r) (hQ:Kp Q w0 s S γ a w k r):wpListIn (FW ro) nn P ops Q ops.toList a w:=by
 obtain⟨S1,f1,f2,f3⟩:=pn (Ann.leaf).fz h;obtain⟨s1,hs1⟩:∃ s1,s1={ fN s (Ann.leaf).fz with fresh:=s.fresh+1 }:=⟨_,rfl⟩;obtain⟨h1,h23⟩:=uS hs1 hev;obtain⟨h2,h3⟩:(!false||pi E ops ((Ann.leaf).heads ops.size))=true/\_:=h23.resolve_right λh=>h.elim (λh=>by cases h.1) (λh=>h.elim (λh=>by cases h.1) (λh=>by cases h.1))
 have hb1:s1.base=s.base+4096:=by rw[hs1];simp only[St.base];omega
 have r1:Rp w0 S1 γ β s1 a w:=by
  rw[hs1];have q1:∀ id,({ fN s (Ann.leaf).fz with fresh:=s.fresh+1 }:St).base+4096<=id->s.base+4096<=id:=λid hid=>by
   have e:({ fN s (Ann.leaf).fz with fresh:=s.fresh+1 }:St).base=s.base+4096:=by simp only[St.base];omega
   rw[e] at hid;exact zDa (zNc _ _) hid
  exact⟨f1.ext,f1.tms,f1.nt,f1.tmu,f1.obs,f1.γn,f1.γi,λid hid=>h.γf id (q1 id hid),f1.βn,f1.βi,f1.βγ,λv hv=>h.βf v (q1 v hv),f1.Sb,f1.So⟩
 have hle1:∀ d,s.base+4096<=s1.base+d:=λd=>by have:=zNc s1.base d;rw[hb1] at this ⊢;exact this
 have hg:∀ d,γ (s1.base+d)=none:=λd=>h.γf (s1.base+d) (hle1 d);have hgb:∀ d,β (s1.base+d)=none:=λd=>h.βf (s1.base+d) (hle1 d);obtain⟨r2,m2⟩:=Ch (E:=E) ops.toList r1 hg;have hmk:=h1;simp only[bL,zaa,zka] at hmk;obtain⟨⟨hm1,hm2⟩,hm3⟩:=hmk;have hfr:CD E (gM E ops.toList s1) γ β ops.toList:=by
  intro o ho hc d hd;rw[m2.base_eq];have hd4:=hm2 o ho;rw[hd] at hd4;simp only[decide_eq_true_eq] at hd4;exact⟨hd4,hg d,hgb d,λT t e1 e2=>xc ops.toList hm1 ho e1 hd e2⟩
 have hsk:Sk s (gM E ops.toList s1):=by
  refine⟨m2.lkS.trans ?_,m2.lkO.trans ?_,m2.nt.trans ?_⟩<;>rw[hs1]
  ·exact f3.lkS
  ·exact f3.lkO
  ·exact f3.nt
 have hstores:(ops.toList.all λo=>match o.op with|.store ..=>o.dst.isNone|_=>true)=true:=by
  simp only[bL,zaa] at h1;exact h1.2
 have:=sB (ro:=ro) (nn:=nn) (ops:=ops) hE hstores _ R (aJ 0 ops.toList) _ r _ r2 (by rw[aV];exact hfr) (by rw[aV];exact λA B o o' e ho d hd=>dL hm1 A B o o' e ho d hd) (λp hp=>iu hp) h3
  (Q:=Q) λs' S' γ' β' a' w' n1 n2 n3 n4=>hQ .normal s' S' γ' β' a' w' n1 (f2.tr n2 hsk) (hsk.trans n3) n4
 rwa [aV] at this
def σL(nt o it:Nat)(X:AV):St:={ tm:=λi=>if i=o then X else .undef,ob:=λ_=>none,fresh:=0,dead:=[],nt:=nt,lkS:=[it],lkO:=[0,1,4095] }
def γs(m r:Nat):Nat->Option Nat:=λi=>if i=0 then some m else if i=1 then some r else none
def Ki(e:Ty)(L:List D)(X:AV):Prop:=(X=.nils/\L=[])\/X=.own e 5 L
def Ar{s:St}{e:Ty}{o:Nat}{L:List D}(h:dh s e o=some L):(s.tm o=.nils/\L=[])\/∃ v,s.tm o=.own e v L/\v ∉ s.dead:=by
 unfold dh at h;split at h
 ·rename_i e' v l htm;split at h
  ·rename_i hb;simp only[zaa,zFa,decide_eq_true_eq] at hb;cases h;have:=Ty.eq_of_beq _ _ hb.1.1;subst this;exact .inr ⟨v,htm,by simpa using hb.1.2⟩
  ·cases h
 ·rename_i htm;cases h;exact .inl ⟨htm,rfl⟩
 ·cases h
def Rp.std{S:Nat->Nat->Prop}{γ:Nat->Option Nat}{β:Nat->Option (Nat×Nat)}{s:St}{a:Act}{w:World}(h:Rp w0 S γ β s a w){m r:Nat}(hm:¬ w0.Old m/\m<w.heap.size)(hr:¬ w0.Old r/\r<w.heap.size)(hmr:m≠r)
  (hβ:∀ v b e,v ∉ s.dead->β v=some (b,e)->b≠m/\b≠r) {e:Ty} (hce:bH e=true) {o:Nat} {L:List D} (hv:dh s e o=some L) (it:Nat) :
  ∃ β' X,Ki e L X/\Rp w0 (λb i=>S b i/\b≠m/\b≠r) (γs m r) β' (σL s.nt o it X) a w:=by
 have ho:o<s.nt:=by
  rcases zna o s.nt with k|k
  ·exact k
  ·unfold dh at hv;rw[h.tmu o k] at hv;cases hv
 have hao:=h.tms o (by rw[h.nt];exact ho)
 have g1:∀ id b,γs m r id=some b->(id=0/\b=m)\/(id=1/\b=r):=λid b hb=>by
  unfold γs at hb;split at hb
  ·rename_i e;cases hb;exact .inl ⟨e,rfl⟩
  ·split at hb
   ·rename_i e;cases hb;exact .inr ⟨e,rfl⟩
   ·cases hb
 have γn':∀ id b,γs m r id=some b->¬ w0.Old b/\b<w.heap.size:=λid b hb=>by
  rcases g1 id b hb with⟨_,rfl⟩|⟨_,rfl⟩
  ·exact hm
  ·exact hr
 have γi':∀ id id' b,γs m r id=some b->γs m r id'=some b->id=id':=λid id' b hb hb'=>by
  rcases g1 id b hb with⟨k1,k2⟩|⟨k1,k2⟩<;>rcases g1 id' b hb' with⟨k3,k4⟩|⟨k3,k4⟩
  ·omega
  ·exact absurd (k2.symm.trans k4) hmr
  ·exact absurd (k4.symm.trans k2) hmr
  ·omega
 have γf':∀ id,0*4096+4096<=id->γs m r id=none:=λid hid=>by
  unfold γs;rw[if_neg (by omega),if_neg (by omega)]
 rcases Ar hv with⟨h1,h2⟩|⟨v,h1,h2⟩
 ·refine⟨λ_=>none,.nils,.inl ⟨rfl,h2⟩,h.ext,λt ht=>?_,h.nt,λt ht=>?_,λid o b ho=>(by cases ho),γn',γi',γf',λv b e _ hb=>(by cases hb),λv v' b e e' _ _ hb=>(by cases hb),λv id b e _ hb=>(by cases hb),λ_ _=>rfl,λb i hb=>h.Sb b i hb.1,λb i hb=>h.So b i hb.1⟩
  ·show AR _ (if t=o then AV.nils else .undef) (a.tmps.getD t undef)
   by_cases hto:t=o
   ·rw[if_pos hto];subst hto;rw[h1] at hao;simpa only[AR,AC] using hao
   ·rw[if_neg hto];simp only[AR]
  ·show(if t=o then AV.nils else .undef)=_
   rw[if_neg (λh=>by subst h;exact absurd ho (zwc.2 ht))]
 ·refine⟨λi=>if i=5 then β v else none,.own e 5 L,.inr rfl,h.ext,λt ht=>?_,h.nt,λt ht=>?_,λid o b ho=>(by cases ho),γn',γi',γf',λu b e' _ hb=>?_,λu u' b e' e'' _ _ hb hb'=>?_,λu id b e' _ hb hid=>?_,λu hu=>?_,λb i hb=>h.Sb b i hb.1,λb i hb=>h.So b i hb.1⟩
  ·show AR _ (if t=o then AV.own e 5 L else .undef) (a.tmps.getD t undef)
   by_cases hto:t=o
   ·rw[if_pos hto];subst hto;rw[h1] at hao;simp only[AR,AC] at hao ⊢;obtain⟨n0,n1,n2,ad,cap,n3,n4,n5⟩:=hao;have n4':CR w (λb i=>S b i/\b≠m/\b≠r) (.sl L) (.slice ad L.length cap):=by
     obtain⟨ad',cap',b',off',e1,e2,e3,cs,e4,e5⟩:=n4.elems;cases e1;by_cases hL:L=[]
     ·subst hL;exact CR.of_elems (b:=0) (off:=0) (.inl rfl) e3 ⟨[],cF.nil,by simp⟩
     ·have e2:ad=some ⟨b',off',none⟩:=e2.resolve_left hL;have hb':b'≠m/\b'≠r:=by
       rcases n5 h2 with q|⟨b,off,q1,q2,q3⟩
       ·rw[q.1] at e2;cases e2
       ·rw[q1] at e2;cases e2;exact hβ v _ _ h2 q2
      have lf:=lT hce L n2;exact CR.of_elems (.inr e2) e3 ⟨cs,(fg lf).2 ((fg lf).1 e4),λi c hc=>⟨⟨(e5 i c hc).1,hb'⟩,(e5 i c hc).2⟩⟩
    refine⟨n0,n1,n2,ad,cap,n3,n4',λ_=>?_⟩;rcases n5 h2 with q|⟨b,off,q1,q2,q3⟩
    ·exact .inl q
    ·exact .inr ⟨b,off,q1,by simpa using q2,q3⟩
   ·rw[if_neg hto];simp only[AR]
  ·show(if t=o then AV.own e 5 L else .undef)=_
   rw[if_neg (λh=>by subst h;exact absurd ho (zwc.2 ht))]
  ·have hb:(if u=5 then β v else none)=some (b,e'):=hb
   split at hb
   ·obtain⟨q1,q2,q3⟩:=h.βn v b e' h2 hb;exact⟨q1,q2,λi hi hs=>q3 i hi hs.1⟩
   ·cases hb
  ·have hb:(if u=5 then β v else none)=some (b,e'):=hb
   have hb':(if u'=5 then β v else none)=some (b,e''):=hb'
   split at hb<;>split at hb'<;>first|(cases hb;done)|(cases hb';done)|omega
  ·have hb:(if u=5 then β v else none)=some (b,e'):=hb
   split at hb
   ·have:=hβ v b e' h2 hb;rcases g1 id b hid with⟨_,q⟩|⟨_,q⟩
    ·exact this.1 q
    ·exact this.2 q
   ·cases hb
  ·have hu':4096<=u:=by simpa [σL,St.base] using hu
   show(if u=5 then β v else none)=none
   rw[if_neg (by omega)]
def Rp.setB{S:Nat->Nat->Prop}{γ:Nat->Option Nat}{β:Nat->Option (Nat×Nat)}{s:St}{a:Act}{w:World}(h:Rp w0 S γ β s a w){id b:Nat}(ho:s.ob id=none)(hγ:γ id=some b)(hS:∀ o,¬ S b o)(x:Obj) :
  Rp w0 S γ β s a (setBlock w b x):=by
 have hbS:∀ b' o,S b' o->b'≠b:=λb' o hb e=>hS o (e ▸ hb);have hh:∀ b',b'≠b->(setBlock w b x).heap[b']?=w.heap[b']?:=λb' hb'=>by simp only[setBlock];rw[zUc (Ne.symm hb')]
 have hsz:(setBlock w b x).heap.size=w.heap.size:=by simp[setBlock]
 have hle:Cx.le ⟨w,S,γ,β,s.ob,s.dead⟩ ⟨setBlock w b x,S,γ,β,s.ob,s.dead⟩:=by
  refine⟨λb' o hb=>by simp only[World.cell?,hh b' (hbS b' o hb)],λ_ _ hb=>hb,λ_ _ hb=>hb,λi y hy _=>⟨y,hy,λp=>⟨rfl,rfl⟩,λt l e=>⟨l,e,rfl⟩,λ_ _ l e=>⟨l,e⟩⟩,λv hv=>⟨hv,λb' e he=>⟨he,λn hn=>?_⟩⟩⟩
  have hne:b'≠b:=λe'=>h.βγ v id b' e hv he (e' ▸ hγ);have hn':lu w b'=some n:=hn;show lu (setBlock w b x) b'=some n;simp only[lu,bE,hh b' hne] at hn' ⊢;exact hn'
 refine⟨mT h.ext rfl rfl rfl (by rw[hsz];exact zha _) (zha _) (λb' hb'=>hh b' λe=>(h.γn id b hγ).1 (e ▸ hb')),λt ht=>(h.tms t ht).mono hle,h.nt,h.tmu,λi y b' hy hb'=>?_,λi b' hb'=>by rw[hsz];exact h.γn i b' hb',h.γi,h.γf,
  λv b' e hv he=>by rw[hsz];exact h.βn v b' e hv he,h.βi,h.βγ,h.βf,λb' o hb=>by rw[hsz];exact h.Sb b' o hb,h.So⟩
 have hne:b'≠b:=λe'=>by
  have:=h.γi i id b' hb' (e' ▸ hγ);subst this;rw[ho] at hy;cases hy
 exact(h.obs i y b' hy hb').mono hle (hh b' hne) λ_ hh=>hh
end
end Sy
end
noncomputable section
namespace Sy
open Go Go.Proofs Go.Sort Go.Lib
variable{ro:Option Nat}{nn:Nat}
open Go.ChangeMaps (setBlock)
def uk:D->D
 | .st (k::_)=>k
 | x=>x
theorem Eu{c:Cx}{kt vt:Ty}:∀ {l:List D} {es:List MapEntry} {j:Nat},gW c kt vt j l es->es.length=l.length/\∀ (i:Nat) (en:MapEntry),es[i]?=some en->en.born=j+i/\∃ k v,l[i]?=some (.st [k,v])/\wt kt k/\wt vt v/\fD c.w c.S k en.key/\fD c.w c.S v en.val
 | [],[],j,_=>⟨rfl,λi en h=>by simp at h⟩
 | [],_::_,_,h=>h.elim
 | _::_,[],_,h=>h.elim
 | x::l,e::es,j,h=>by
  simp only[gW] at h;obtain⟨⟨h1,k,v,rfl,h2,h3,h4,h5⟩,h6⟩:=h;obtain⟨q1,q2⟩:=Eu h6;refine⟨by simp[q1],λi en hi=>?_⟩
  cases i with
  | zero=>simp at hi;subst hi;exact⟨by simpa using h1,k,v,by simp,h2,h3,h4,h5⟩
  | succ i=>
   simp only[zdb] at hi;obtain⟨r1,r2⟩:=q2 i en hi;exact⟨by omega,by simpa using r2⟩
def Bg{t:Ty}(hc:bH t=true){x:D}(hx:wt t x){w w':World}{S S':Nat->Nat->Prop}{v:Value}(h:fD w S x v):fD w' S' x v:=by
 have lf:=jE t x hc hx;exact⟨h.1,(fg lf).2 ((fg lf).1 h.2)⟩
theorem zb:∀ (n:Nat) (l:List Nat),l.Nodup->(∀ x∈l,x<n)->l.length<=n
 | 0,l,_,h=>by
  cases l with
  | nil=>simp
  | cons x l=>exact absurd (h x zoa) (by omega)
 | n+1,l,hn,h=>by
  have h1:(l.erase n).length<=n:=zb n (l.erase n) (hn.erase n) λx hx=>by
   have hx':=(hn.mem_erase_iff).1 hx;have:=h x hx'.2;have:=hx'.1;omega
  have h2:=List.length_erase (a:=n) (l:=l);split at h2<;>omega
section
variable{P:Program}{E:Env}{w0:Root}
def jU{a:Act}{o:Oper}{m:Sem Value}{v:Value}{w w':World}(hex:execOp a.eval o=(m >>= λr=>pure (Next.value r)))(hrun:m.run P w=.ok v w'):(execOp a.eval o).run P w=.ok (.value v) w':=by
 rw[hex];simp only[zga,hrun,zea,zla]
def xI{nt o it t:Nat}{X:AV}(h:t≠o):(σL nt o it X).put (some t) .undef=σL nt o it X:=by
 unfold St.put σL;simp only;split
 ·congr 1;funext i;by_cases hi:i=t
  ·subst hi;rw[if_pos rfl,if_neg h]
  ·rw[if_neg hi]
 ·rfl
def jA{a:Act}{t:Nat}{v:Value}(h:t<a.tmps.size):(a.put (some t) v).eval (.tmp t)=v:=by
 simp[Act.eval,Act.put,Array.getD,h]
def tL{a:Act}{d:Option Nat}{v:Value}:(a.put d v).tmps.size=a.tmps.size:=by
 cases d<;>simp[Act.put]
def Je(hE:EnvOk P E){e vt:Ty}(he:bH e=true)(hvt:bH vt=true)(hne:aj e=true)(hnv:aj vt=true){id23 id24 id25 b b2:Nat}{t72 m0 it T nx ok en o:Nat}{o23 o24 o25:Array Oper}{rest:List Oper}{c26:Code}
  {y1 y2 y3 y4 y5:TypeId} {p1 p2 p3 p4 p5:String} {f1 f2 f3 f4 f5:Array Edge} {TK TV:TypeId}
  (h23:o23.toList=[⟨some t72,.move (.tmp m0),y1,p1,f1,none⟩,⟨some it,.range T (.tmp t72),y2,p2,f2,none⟩])
  (h24:o24.toList=[⟨some nx,.next (.tmp it) false,y3,p3,f3,none⟩,⟨some ok,.extract (.tmp nx) 0,y4,p4,f4,none⟩])
  (h25:o25.toList=⟨some en,.entry (.tmp it),y5,p5,f5,none⟩::rest) (hrest:∀ x∈rest,x.guard=none) (hT:P.underlying T=some (.map TK TV))
  {S:Nat->Nat->Prop} {γ:Nat->Option Nat} {β:Nat->Option (Nat×Nat)} {s:St} {a:Act} {w:World} (h:Rp w0 S γ β s a w) (hdf:a.defers=[])
  (d1:o≠t72) (d2:o≠it) (d3:nx≠o) (d4:ok≠o) (d5:en≠o) (d6:it≠t72) (d7:it≠nx) (d8:it≠ok) (d9:it≠en) (d10:nx≠ok) (n1:t72<s.nt) (n2:it<s.nt) (n3:nx<s.nt) (n4:ok<s.nt) (n5:en<s.nt)
  {idm:Nat} {l:List D} (hm:s.tm m0=.map e vt idm) (hob:s.ob idm=some (.mp e vt l)) (hl:l.length<=1073741824) (hv:dh s e o=some [])
  (hround:∀ X L k v,Ki e L X->L.length<1073741824->wt e k->ev E (.region 0 rest.toArray false) .leaf D ((σL s.nt o it X).put (some en) (.d (.tup [e,vt]) (.tup [k,v]))) (λx s'=>match x with
   | .normal=>ev E c26 .leaf D s' (λx s''=>match x with|.normal=>(dh s'' e o).bind λl=>some (.sl l)|_=>none)
   | _=>none)=some (.sl (L++[k])))
  {Q:Exit->Act->World->Prop} (hQ:∀ L S' γ' β' X a' w',Ki e L X->L.Perm (l.map uk)->Rp w0 S' γ' β' (σL s.nt o it X) a' w'->a'.defers=[]->Q .normal a' w') :
  (Code.seq (.region id23 o23 false) (.block b (.loop (.seq (.region id24 o24 false) (.seq (.cond (.tmp ok) .skip (.exit b)) (.block b2 (.seq (.region id25 o25 false) c26))))))).wpIn (FW none) nn P Q a w:=by
 have hm0:m0<s.nt:=by
  rcases zna m0 s.nt with k|k
  ·exact k
  ·rw[h.tmu m0 k] at hm;cases hm
 have hmv:=h.tms m0 (by rw[h.nt];exact hm0)
 rw[hm] at hmv;simp only[AR,AC] at hmv;obtain⟨hna,m,hmc,hγm,_,_,_⟩:=hmv;have hmval:=am hna hmc;have hO:=h.obs idm _ m hob hγm;simp only[fh] at hO;obtain⟨_,_,hSm,es,hes,hM⟩:=hO;obtain⟨hesl,hesat⟩:=Eu hM;have hmn:=h.γn idm m hγm;have hborn:∀ x∈es.toList,x.born<l.length:=λx hx=>by
  obtain⟨i,hi,rfl⟩:=zRa hx;have:=(hesat i _ (zda hi)).1;omega
 have hbn:(es.toList.map (·.born)).Nodup:=by
  rw[List.Nodup,zAb];intro i j hi hj hij;simp only[zua] at hi hj;have a1:=(hesat i _ (zda hi)).1;have a2:=(hesat j _ (zda hj)).1;simp only[List.getElem_map,a1,a2];omega
 refine wpIn_seq ?_;refine wpIn_region_list ?_;rw[h23];simp only[wpListIn,Region.wanted,if_true];refine(bf (K:=λv w1=>v=a.tmps.getD m0 undef/\w=w1) (dH.value (v:=a.eval (.tmp m0)) (w':=w) rfl ⟨rfl,rfl⟩) ?_);rintro _ _ ⟨rfl,rfl⟩;rw[hmval];have ha1:(a.put (some t72) (.map (some m))).eval (.tmp t72)=.map (some m):=jA (by rw[h.nt];exact n1)
 refine(bf (K:=λv w1=>v=.pointer (some ⟨w.heap.size,0,none⟩)/\w1=w.alloc (.mapIter (some m) l.length #[] l.length)) (dH.value (jU (m:=Instr.range T (.map (some m))) ?_ (run_range_map w T TK TV m es l.length hT hes)) ⟨rfl,rfl⟩) ?_)
 ·show(Instr.range T ((a.put (some t72) (.map (some m))).eval (.tmp t72)) >>= λr=>pure (Next.value r))=_;rw[ha1]
 rintro _ _ ⟨rfl,rfl⟩;simp only[Exit.then];refine wpIn_block ?_;obtain⟨r,hr0⟩:∃ r,r=w.heap.size:=⟨_,rfl⟩;rw[<-hr0];have hmr:m≠r:=by have:=hmn.2;omega
 have hgr:w.alloc (.mapIter (some m) l.length #[] l.length)=grown w [.mapIter (some m) l.length #[] l.length] w.drawn:=by
  show({ w with heap:=w.heap.push (.mapIter (some m) l.length #[] l.length) }:World)={ w with heap:=w.heap++[Obj.mapIter (some m) l.length #[] l.length].toArray,drawn:=w.drawn };rw[zxd]
 have h1:Rp w0 S γ β ((s.put (some t72) .undef).put (some it) .undef) ((a.put (some t72) (.map (some m))).put (some it) (.pointer (some ⟨r,0,none⟩))) (w.alloc (.mapIter (some m) l.length #[] l.length)):=by
  rw[hgr];exact(((h.put (v:=.undef) (val:=.map (some m)) (by simp[AR]) (some t72)).put (v:=.undef) (val:=.pointer (some ⟨r,0,none⟩)) (by simp[AR]) (some it)).grow (os:=[.mapIter (some m) l.length #[] l.length]) (d:=w.drawn) (zha _) (S':=S) (λ_ _ hb=>hb) (λ_ _ hb=>.inl hb)).1
 have hv1:dh ((s.put (some t72) .undef).put (some it) .undef) e o=some []:=by
  have q1:((s.put (some t72) .undef).put (some it) .undef).tm o=s.tm o:=by rw[to (λe=>d2 (by cases e;rfl)),to (λe=>d1 (by cases e;rfl))]
  have q2:((s.put (some t72) .undef).put (some it) .undef).dead=s.dead:=by
   rw[(St.put_fields _ _ _).2.2.1,(St.put_fields _ _ _).2.2.1]
  unfold dh at hv ⊢;rw[q1,q2];exact hv
 have hnt1:((s.put (some t72) .undef).put (some it) .undef).nt=s.nt:=by rw[(St.put_fields _ _ _).2.2.2.1,(St.put_fields _ _ _).2.2.2.1]
 have hsz1:(w.alloc (.mapIter (some m) l.length #[] l.length)).heap.size=w.heap.size+1:=by rw[hgr];simp[grown]
 have hrn:¬ w0.Old r:=λho=>by have:=ho.1;have:=h.ext.sz;omega
 have hdead1:((s.put (some t72) .undef).put (some it) .undef).dead=s.dead:=by rw[(St.put_fields _ _ _).2.2.1,(St.put_fields _ _ _).2.2.1]
 obtain⟨β1,X1,hX1,R1⟩:=h1.std (m:=m) (r:=r) ⟨hmn.1,by rw[hsz1];omega⟩ ⟨hrn,by rw[hsz1];omega⟩ hmr (λv bb ee hd hb=>by
  rw[hdead1] at hd;exact⟨λeq=>h.βγ v idm bb ee hd hb (eq ▸ hγm),λeq=>by have:=(h.βn v bb ee hd hb).2.1;omega⟩) he hv1 it
 rw[hnt1] at R1;have hes1:(w.alloc (.mapIter (some m) l.length #[] l.length)).heap[m]?=some (.map es l.length):=by
  rw[hgr,ct hmn.2];exact hes
 have hit1:(w.alloc (.mapIter (some m) l.length #[] l.length)).heap[r]?=some (.mapIter (some m) l.length #[] l.length):=by rw[hr0];exact heap_alloc_new w _
 have hp1:((a.put (some t72) (.map (some m))).put (some it) (.pointer (some ⟨r,0,none⟩))).tmps.getD it undef=.pointer (some ⟨r,0,none⟩):=by
  exact jA (by rw[tL,h.nt];exact n2)
 refine wd (m:=l.length) (λn a w=>∃ (S:Nat->Nat->Prop) (β:Nat->Option (Nat×Nat)) (X:AV) (L:List D) (seen:Array Nat) (c0:Nat),Ki e L X/\Rp w0 (λb i=>S b i/\b≠m/\b≠r) (γs m r) β (σL s.nt o it X) a w/\a.defers=[]/\a.tmps.getD it undef=.pointer (some ⟨r,0,none⟩) ∧
  w.heap[m]?=some (.map es l.length)/\w.heap[r]?=some (.mapIter (some m) l.length seen c0)/\l.length<=c0/\L=seen.toList.map (λj=>uk (l.getD j default))/\seen.toList.Nodup/\(∀ j∈seen.toList,j<l.length)/\n+seen.size=l.length)
  ⟨S,β1,X1,[],#[],l.length,hX1,R1,hdf,hp1,hes1,hit1,zha _,rfl,by simp,by simp,by simp⟩ ?_
 clear R1 h1 hv1 hp1 hes1 hit1 hX1 hgr;rintro n a w ⟨S,β,X,L,seen,c0,hX,R,hda,hp,hes,hit,hc0,hL,hnd,hlt,hn⟩;have hsz:=R.nt;refine wpIn_seq (wpIn_region_list ?_);rw[h24];simp only[wpListIn,Region.wanted,if_true];have hev:a.eval (.tmp it)=.pointer (some ⟨r,0,none⟩):=hp;rcases run_next_at w y3 r m l.length c0 seen es l.length hit hes hborn hc0 with⟨hz,hrun⟩|⟨e0,he0,w1,hw1,hrun⟩
 ·
  refine(bf (K:=λv w1=>v=.tuple #[.bool false]/\w=w1) (dH.value (jU (m:=Instr.next (.pointer (some ⟨r,0,none⟩)) false y3) ?_ hrun) ⟨rfl,rfl⟩) ?_)
  ·show(Instr.next (a.eval (.tmp it)) false y3 >>= λr=>pure (Next.value r))=_
   rw[hev]
  rintro _ _ ⟨rfl,rfl⟩;have ex:(a.put (some nx) (.tuple #[.bool false])).eval (.tmp nx)=.tuple #[.bool false]:=jA (by rw[hsz];exact n3)
  refine(bf (K:=λv w1=>v=.bool false/\w=w1) (dH.value (jU (m:=Instr.extract (.tuple #[.bool false]) 0) ?_ (v:=.bool false) (w':=w) rfl) ⟨rfl,rfl⟩) ?_)
  ·show(Instr.extract ((a.put (some nx) (.tuple #[.bool false])).eval (.tmp nx)) 0 >>= λr=>pure (Next.value r))=_;rw[ex]
  rintro _ _ ⟨rfl,rfl⟩;simp only[Exit.then];refine wpIn_seq (wpIn_cond_false (jA (by rw[tL,hsz];exact n4)) (wpIn_exit ?_))
  simp only[Exit.then,Exit.inBlock,if_true];have R2:=(R.put (v:=.undef) (val:=.tuple #[.bool false]) (by simp[AR]) (some nx)).put (v:=.undef) (val:=.bool false) (by simp[AR]) (some ok)
  rw[xI d3,xI d4] at R2;refine hQ L _ _ _ X _ _ hX ?_ R2 hda;have hall:∀ j,j<l.length->j∈seen.toList:=λj hj=>by
   have hj':j<es.toList.length:=by omega
   have e1:=(hesat j _ (zda hj')).1;have hno:es.toList[j] ∉ (leftOf es seen).toList:=λhm=>by
    have:=List.length_pos_of_mem hm;simp at this;omega
   simp only[leftOf,Array.toList_filter,zpc,zIa,true_and] at hno;simp at hno;simp only[zyd,z6a] at e1;rw[e1] at hno;simpa using hno
  have hperm:seen.toList.Perm (List.range l.length):=(List.perm_ext_iff_of_nodup hnd List.nodup_range).2 λj=>⟨λhj=>zNa.2 (hlt j hj),λhj=>hall j (zNa.1 hj)⟩;rw[hL];refine(hperm.map _).trans ?_;have:(List.range l.length).map (λj=>uk (l.getD j default))=l.map uk:=by
   apply zbc;intro j;rw[z8a,z8a];rcases zna j l.length with k|k
   ·simp[k,List.getD]
   ·rw[zUa (by simpa using k),zUa k];rfl
  rw[this]
 ·
  have hw1m:w1.heap[m]?=some (.map es l.length):=by rcases hw1 with rfl|rfl<;>exact hes
  have hw1s:w1.heap.size=w.heap.size:=by rcases hw1 with rfl|rfl<;>rfl
  have hrs:r<w1.heap.size:=by rw[hw1s];exact(zfa.1 hit).1
  have Rw:Rp w0 (λb i=>S b i/\b≠m/\b≠r) (γs m r) β (σL s.nt o it X) a w1:=by
   rcases hw1 with rfl|rfl
   ·exact R
   ·have:=(R.grow (os:=[]) (d:=w.drawn+1) (ztc _) (S':=λb i=>S b i/\b≠m/\b≠r) (λ_ _ hb=>hb) (λ_ _ hb=>.inl hb)).1;have e2:grown w [] (w.drawn+1)=w.drew:=by
     unfold grown;rw[show w.heap++([]:List Obj).toArray=w.heap by simp]
     rfl
    rw[e2] at this;exact this
  obtain⟨w2,hw2⟩:∃ w2,w2=setBlock w1 r (.mapIter (some m) l.length (seen.push e0.born) l.length):=⟨_,rfl⟩;rw[<-hw2] at hrun;have R2:Rp w0 (λb i=>S b i/\b≠m/\b≠r) (γs m r) β (σL s.nt o it X) a w2:=by
   rw[hw2];exact Rw.setB (id:=1) rfl rfl (λi hi=>hi.2.2 rfl) _
  have hes2:w2.heap[m]?=some (.map es l.length):=by
   rw[hw2];simp only[setBlock];rw[zUc (Ne.symm hmr)];exact hw1m
  have hit2:w2.heap[r]?=some (.mapIter (some m) l.length (seen.push e0.born) l.length):=by
   rw[hw2];simp only[setBlock];rw[Array.getElem?_setIfInBounds_self_of_lt hrs]
  have he0':e0∈es.toList/\e0.born ∉ seen.toList:=by
   simp only[leftOf,Array.toList_filter,zpc] at he0;exact⟨he0.1,by have:=he0.2;simpa using this⟩
  obtain⟨j,hj,hje⟩:=zRa he0'.1;obtain⟨q1,k,v,q2,q3,q4,q5,q6⟩:=hesat j e0 (by rw[zda hj,hje])
  rw[z6a] at q1;have hjl:j<l.length:=by omega
  have hgetj:l.getD j default=.st [k,v]:=by simp[List.getD,q2]
  refine(bf (K:=λv w1=>v=.tuple #[.bool true,e0.key,e0.val]/\w2=w1) (dH.value (jU (m:=Instr.next (.pointer (some ⟨r,0,none⟩)) false y3) ?_ hrun) ⟨rfl,rfl⟩) ?_)
  ·show(Instr.next (a.eval (.tmp it)) false y3 >>= λr=>pure (Next.value r))=_
   rw[hev]
  rintro _ _ ⟨rfl,rfl⟩;have ex:(a.put (some nx) (.tuple #[.bool true,e0.key,e0.val])).eval (.tmp nx)=.tuple #[.bool true,e0.key,e0.val]:=jA (by rw[hsz];exact n3)
  refine(bf (K:=λv w1=>v=.bool true/\w2=w1) (dH.value (jU (m:=Instr.extract (.tuple #[.bool true,e0.key,e0.val]) 0) ?_ (v:=.bool true) (w':=w2) rfl) ⟨rfl,rfl⟩) ?_)
  ·show(Instr.extract ((a.put (some nx) (.tuple #[.bool true,e0.key,e0.val])).eval (.tmp nx)) 0 >>= λr=>pure (Next.value r))=_;rw[ex]
  rintro _ _ ⟨rfl,rfl⟩;simp only[Exit.then];refine wpIn_seq (wpIn_cond_true (jA (by rw[tL,hsz];exact n4)) (wpIn_skip ?_))
  simp only[Exit.then];refine wpIn_block (wpIn_seq (wpIn_region_list ?_));have R3:=(R2.put (v:=.undef) (val:=.tuple #[.bool true,e0.key,e0.val]) (by simp[AR]) (some nx)).put (v:=.undef) (val:=.bool true) (by simp[AR]) (some ok)
  rw[xI d3,xI d4] at R3;have hp3:((a.put (some nx) (.tuple #[.bool true,e0.key,e0.val])).put (some ok) (.bool true)).tmps.getD it undef=.pointer (some ⟨r,0,none⟩):=by
   rw[bM (λe=>d8 (by cases e;rfl)),bM (λe=>d7 (by cases e;rfl))];exact hp
  have hda3:((a.put (some nx) (.tuple #[.bool true,e0.key,e0.val])).put (some ok) (.bool true)).defers=[]:=hda;generalize ((a.put (some nx) (.tuple #[.bool true,e0.key,e0.val])).put (some ok) (.bool true))=a3 at R3 hp3 hda3 ⊢;rw[h25];simp only[wpListIn,Region.wanted,if_true];refine(bf (K:=λv w1=>v=.tuple #[e0.key,e0.val]/\w2=w1) (dH.value (jU (m:=Instr.entry (.pointer (some ⟨r,0,none⟩))) ?_ (run_entry_at w2 r m l.length seen es l.length e0 hit2 hes2 he0'.1 hbn)) ⟨rfl,rfl⟩) ?_)
  ·show(Instr.entry (a3.eval (.tmp it)) >>= λr=>pure (Next.value r))=_;rw[show a3.eval (.tmp it)=.pointer (some ⟨r,0,none⟩) from hp3]
  rintro _ _ ⟨rfl,rfl⟩;have R4:=R3.put (v:=.d (.tup [e,vt]) (.tup [k,v])) (val:=.tuple #[e0.key,e0.val]) (by
   simp only[AR];refine .inr ⟨[e,vt],rfl,by simp[bg,hne,hnv],⟨[k,v],rfl,k,[v],rfl,q3,v,[],rfl,q4,rfl⟩,[e0.key,e0.val],rfl,rfl,λi d u hd hu=>?_⟩
   cases i with
   | zero=>simp at hd hu;subst hd;subst hu;exact Bg he q3 q5
   | succ i=>cases i with
    | zero=>simp at hd hu;subst hd;subst hu;exact Bg hvt q4 q6
    | succ i=>simp at hd) (some en)
  have hp4:(a3.put (some en) (.tuple #[e0.key,e0.val])).tmps.getD it undef=.pointer (some ⟨r,0,none⟩):=by
   rw[bM (λe=>d9 (by cases e;rfl))];exact hp3
  have hda4:(a3.put (some en) (.tuple #[e0.key,e0.val])).defers=[]:=hda3;generalize (a3.put (some en) (.tuple #[e0.key,e0.val]))=a4 at R4 hp4 hda4 ⊢;have hbs:(e0.born::seen.toList).length<=l.length:=zb _ _ (List.nodup_cons.2 ⟨he0'.2,hnd⟩) (λx hx=>by
   rcases zva.1 hx with rfl|hx
   ·omega
   ·exact hlt x hx)
  have hLl:L.length=seen.size:=by rw[hL];simp
  simp only[zza,zDb] at hbs;have lkS4:((σL s.nt o it X).put (some en) (.d (.tup [e,vt]) (.tup [k,v]))).lkS=[it]:=(St.put_fields _ _ _).2.2.2.2.1;have lkO4:((σL s.nt o it X).put (some en) (.d (.tup [e,vt]) (.tup [k,v]))).lkO=[0,1,4095]:=(St.put_fields _ _ _).2.2.2.2.2.1;refine tY (ops:=rest.toArray) rest _ _ hrest ?_;have key:=Jc (ro:=none) (nn:=nn) hE (Q:=Exit.then (c26.wpIn (FW none) nn P (Exit.inBlock b2 (Exit.then (λa' w'=>∃ m_1,m_1<n/\∃ (S:Nat->Nat->Prop) (β:Nat->Option (Nat×Nat)) (X:AV) (L:List D) (seen:Array Nat) (c0:Nat),Ki e L X/\Rp w0 (λb i=>S b i/\b≠m/\b≠r) (γs m r) β (σL s.nt o it X) a' w'/\a'.defers=[]/\a'.tmps.getD it undef=.pointer (some ⟨r,0,none⟩) ∧
   w'.heap[m]?=some (.map es l.length)/\w'.heap[r]?=some (.mapIter (some m) l.length seen c0)/\l.length<=c0/\L=seen.toList.map (λj=>uk (l.getD j default))/\seen.toList.Nodup/\(∀ j∈seen.toList,j<l.length)/\m_1+seen.size=l.length) (Exit.inBlock b Q)))) (Exit.inBlock b2 (Exit.then (λa' w'=>∃ m_1,m_1<n/\∃ (S:Nat->Nat->Prop) (β:Nat->Option (Nat×Nat)) (X:AV) (L:List D) (seen:Array Nat) (c0:Nat),Ki e L X/\Rp w0 (λb i=>S b i/\b≠m/\b≠r) (γs m r) β (σL s.nt o it X) a' w'/\a'.defers=[]/\a'.tmps.getD it undef=.pointer (some ⟨r,0,none⟩) ∧
   w'.heap[m]?=some (.map es l.length)/\w'.heap[r]?=some (.mapIter (some m) l.length seen c0)/\l.length<=c0/\L=seen.toList.map (λj=>uk (l.getD j default))/\seen.toList.Nodup/\(∀ j∈seen.toList,j<l.length)/\m_1+seen.size=l.length) (Exit.inBlock b Q)))) R4 (hround X L k v hX (by omega) q3) ?_
  ·simpa using key
  intro x s' S' γ' β' a' w' g1 g2 g3 g4;cases x with
  | ret=>cases g4
  | exit i=>cases g4
  | normal=>
   show c26.wpIn (FW none) nn P _ a' w';refine E9 hE c26 .leaf D _ _ g1 g4 λx2 s2 S2 γ2 β2 a5 w5 k1 k2 k3 k4=>?_;cases x2 with
   | ret=>cases k4
   | exit i=>cases k4
   | normal=>
    have hfr:dh s2 e o=some (L++[k]):=by
     obtain⟨l2,u1,u2⟩:=bind_some_inv k4;simp only[zca,D.sl.injEq] at u2;rw[u1,u2]
    have F:=g2.tr k2 g3;obtain⟨z1,z2⟩:=F.objs 0 (by rw[lkO4];simp) m rfl
    obtain⟨z3,z4⟩:=F.objs 1 (by rw[lkO4];simp) r rfl
    have z5:=F.slots it (by rw[lkS4];simp)
    obtain⟨β6,X6,hX6,R6⟩:=k1.std (m:=m) (r:=r) (k1.γn 0 m z1) (k1.γn 1 r z3) hmr (λu bb ee hd hb=>⟨λeq=>k1.βγ u 0 bb ee hd hb (eq ▸ z1),λeq=>k1.βγ u 1 bb ee hd hb (eq ▸ z3)⟩) he hfr it;have hnt6:s2.nt=s.nt:=by
     rw[k3.nt,g3.nt,(St.put_fields _ _ _).2.2.2.1];rfl
    rw[hnt6] at R6;show ∃ m_1,m_1<n/\_;refine⟨n-1,by omega,S2,β6,X6,L++[k],seen.push e0.born,l.length,hX6,R6,F.df0 (by rw[lkO4];simp) hda4,z5.trans hp4,z2.eq hes2 (λ_ h=>by cases h),z4.eq hit2 (λ_ h=>by cases h),zha _,?_,?_,?_,?_⟩
    ·rw[zjd,z3b,<-hL,z4a,zbd,q1,hgetj];rfl
    ·rw[zjd,List.nodup_append];refine⟨hnd,by simp,λx hx y hy=>?_⟩
     rw[zHa.1 hy];exact λeq=>he0'.2 (eq ▸ hx)
    ·intro x hx;rw[zjd] at hx;rcases List.mem_append.1 hx with hx|hx
     ·exact hlt x hx
     ·rw[zHa.1 hx];omega
    ·simp;omega
end
end Sy
end
noncomputable section
namespace Sy
open Go Go.Proofs Go.Sort Go.Lib
section
variable{P:Program}{E:Env}
def tx(w:World)(S:Nat->Nat->Prop):Root:=⟨w,S,λ_=>False⟩
def JX(P:Program)(fn:Func)(w:World)(S:Nat->Nat->Prop)(rty:Ty)(y:D):Exit->Act->World->Prop:=
 bodyPost P fn λe w'=>∃ v,e=.returned v/\(∃ os d,w.drawn<=d/\w'=grown w os d)/\wt rty y/\DR w' (λb o=>S b o\/(w.heap.size<=b/\b<w'.heap.size)) y v
def Li(hE:EnvOk P E){fn:Func}{rty:Ty}{y:D}{w:World}{S:Nat->Nat->Prop}(hr:iB fn.results.size rty=true){d:Code}{ann:Ann}{S':Nat->Nat->Prop}{γ':Nat->Option Nat}{β':Nat->Option (Nat×Nat)}{s':St}{a':Act}{w':World}
  (h:Rp (tx w S) S' γ' β' s' a' w') (hdf:a'.defers=[]) (h4:4095∈s'.lkO) (hev:(ev E d ann D s' λe s=>match e with|.exit _=>none|_=>results E s rty fn.results.toList)=some y):d.wpIn (FW none) 0 P (JX P fn w S rty y) a' w':=by
 refine E9 hE d ann D _ y h hev λe s' S' γ' β' a' w' n1 n2 n3 n4=>?_;have hres:results E s' rty fn.results.toList=some y->(∃ v,(Go.results fn a'.tmps).run P w'=.ok v w'/\∃ v',Ending.returned v=.returned v'/\(∃ os d,w.drawn<=d/\w'=grown w os d)/\wt rty y/\DR w' (λb o=>S b o\/(w.heap.size<=b/\b<w'.heap.size)) y v'):=λhq=>by
  obtain⟨v,k1,k2,k3⟩:=kl hE n1 hr hq;refine⟨v,k1,v,rfl,gI n1.ext (λ_ hf=>hf),k2,k3.mono (λ_ _ _=>rfl) λb o hb=>?_⟩;rcases zna b w.heap.size with hlt|hge
  ·exact .inl (n1.So b o hb ⟨hlt,λhf=>hf⟩)
  ·exact .inr ⟨hge,n1.Sb b o hb⟩
 cases e with
 | normal=>exact⟨n2.df0 h4 hdf,hres n4⟩
 | ret=>exact⟨n2.df0 h4 hdf,hres n4⟩
 | exit i=>cases n4
def sa(hE:EnvOk P E){f:FuncId}{fn:Func}{ann:AnnT}{ptys:List Ty}{rty:Ty}{xs:List D}{y:D}{K:St->Option D}(hf:P.funcs[f]?=some fn)(hk:(decide (ptys.length<=fn.ntmps)&&iB fn.results.size rty&&bg ptys)=true)
  (h:IW E K fn ann ptys xs=some y) (hK:∀ c,fn.body=some c->∀ (w:World) (S S':Nat->Nat->Prop) γ' β' s' a' w',Rp (tx w S) S' γ' β' s' a' w'->a'.defers=[]->K s'=some y->(qA c ann).wpIn (FW none) 0 P (JX P fn w S rty y) a' w'):Kx P ptys rty f xs y:=by
 intro w S vs hS hwt hlen hvs;simp only[zaa,decide_eq_true_eq] at hk;obtain⟨⟨hsz,hr⟩,hn⟩:=hk;unfold IW at h;split at h<;>first|(cases h;done)|skip
 rename_i c hb;have hxl:xs.length=ptys.length:=iJ hwt;have hntm:(vs.toArray++Array.replicate (fn.ntmps-vs.toArray.size) undef).size=fn.ntmps:=by
  simp;omega
 refine wo hf hb (Lh (w0:=tx w S) hE c ann (S:=S) (γ:=λ_=>none) (β:=λ_=>none) (s:=sN fn ptys xs) ?_ rfl (by simp[sN]) h λs' S' γ' β' a' w' n1 nd n2=>hK c hb w S S' γ' β' s' a' w' n1 nd n2)
 refine⟨⟨rfl,rfl,rfl,zha _,zha _,λ_ _=>rfl⟩,λt ht=>?_,hntm,λt ht=>?_,λid o b ho=>(by cases ho),λid b hb=>(by cases hb),λid id' b hb=>(by cases hb),λ_ _=>rfl,λv b e _ hb=>(by cases hb),λv v' b e e' _ _ hb=>(by cases hb),λv id b e _ hb=>(by cases hb),λ_ _=>rfl,hS,λb o hb _=>hb⟩
 ·simp only[sN,ic];split
  ·rename_i ty x e1 e2;have hlt:=(zja.1 e2).1;have hlt':t<vs.length:=by omega
   have hv:(vs.toArray++Array.replicate (fn.ntmps-vs.toArray.size) undef).getD t undef=vs[t]:=by
    simp[Array.getD,zKc,hlt'];omega
   show AR _ _ ((vs.toArray++Array.replicate (fn.ntmps-vs.toArray.size) undef).getD t undef);rw[hv];obtain⟨x',hx',hw'⟩:=ge hwt e1;rw[e2] at hx';cases hx';exact dc (bI hn e1) hw' (hvs t x _ e2 (zda hlt'))
  ·simp only[AR]
 ·have ht':fn.ntmps<=t:=ht;simp only[sN,ic];rw[zUa (by omega)]
def Jy(nt x:Nat)(e:Ty)(l:List D):St:={ tm:=λi=>if i=x then .d (.sl e) (.sl l) else .undef,ob:=λ_=>none,fresh:=0,dead:=[],nt:=nt,lkS:=[],lkO:=[4095] }
def Rp.reset{w0:Root}{S:Nat->Nat->Prop}{s:St}{x:Nat}{e:Ty}{l:List D}{a:Act}{w:World}(h:Rp w0 S (λ_=>none) (λ_=>none) (LG s x e l) a w){nt:Nat}(hnt:s.nt=nt):Rp w0 S (λ_=>none) (λ_=>none) (Jy nt x e l) a w:=by
 subst hnt;exact⟨h.ext,h.tms,h.nt,h.tmu,λid o b ho=>(by cases ho),h.γn,h.γi,λ_ _=>rfl,h.βn,h.βi,h.βγ,λ_ _=>rfl,h.Sb,h.So⟩
def Cr(E:Env)(nt x g:Nat)(e:Ty)(s:St):Option D:=(dh s e x).bind λl=>if s.nt=nt then(je E g l).bind λl'=>some (.sl l') else none
def vS(hE:EnvOk P E){f0:Nat}{e:Ty}(hf:SortOk P f0 e){g:Nat}(hsig:E.sig g=some ([e,e],.int .i64)/\E.free g=0){fn:Func}{rty:Ty}{y:D}{w:World}{S:Nat->Nat->Prop}(hr:iB fn.results.size rty=true)
  {id x t d2 nt:Nat} {ops:Array Oper} {d:Code} {ann:Ann} {ty1 ty2:TypeId} {p1 p2:String} {af1 af2:Array Edge} {args:Array Operand} {ats:Array TypeId}
  (hops:ops.toList=[⟨some t,.move (.tmp x),ty1,p1,af1,none⟩,⟨some d2,.call ⟨.value (.func f0),args,ats⟩,ty2,p2,af2,none⟩]) (hargs:args=#[.tmp t,.func g]) (hd:(decide (x≠t)&&decide (x≠d2)&&decide (t<nt))=true)
  (hev:∀ l',(ev E d ann D (Jy nt x e l') λe s=>match e with|.exit _=>none|_=>results E s rty fn.results.toList)=some (.sl l'))
  {S':Nat->Nat->Prop} {γ':Nat->Option Nat} {β':Nat->Option (Nat×Nat)} {s':St} {a':Act} {w':World} (h:Rp (tx w S) S' γ' β' s' a' w') (hdf:a'.defers=[]) (hK:Cr E nt x g e s'=some y):(Code.seq (.region id ops false) d).wpIn (FW none) 0 P (JX P fn w S rty y) a' w':=by
 simp only[zaa,decide_eq_true_eq] at hd;obtain⟨⟨hd1,hd2⟩,hd3⟩:=hd;obtain⟨l,h1,h2⟩:=bind_some_inv hK;split at h2<;>first|(cases h2;done)|skip
 rename_i hnt;obtain⟨l',h3,h4⟩:=bind_some_inv h2;cases h4;refine wpIn_seq (JF hE hf hsig hops hargs h hdf hd1 hd2 (by rw[hnt];exact hd3) h1 h3 λa2 w2 S2 hR hd2'=>?_)
 exact Li hE hr (hR.reset hnt) hd2' (by simp[Jy]) (hev l')
theorem qj{lt:D->D->Bool}{x:D}:∀ {l:List D},(∀ a∈x::l,∀ b∈x::l,∀ c∈x::l,lt a b=true->lt b c=true->lt a c=true)->(∀ y∈l,lt x y=true\/lt y x=true)->l.Pairwise (λa b=>lt a b=true)->(Au lt x l).Pairwise (λa b=>lt a b=true)
 | [],_,_,_=>by simp[Au]
 | y::l,htr,hto,hp=>by
  obtain⟨p1,p2⟩:=zCa.1 hp;simp only[Au];split
  ·rename_i hxy;refine zCa.2 ⟨λz hz=>?_,hp⟩;rcases zva.1 hz with rfl|hz
   ·exact hxy
   ·exact htr x (by simp) y (by simp) z (by simp[hz]) hxy (p1 z hz)
  ·rename_i hxy;have hyx:lt y x=true:=(hto y zoa).resolve_left hxy;refine zCa.2 ⟨λz hz=>?_,qj (λa ha b hb c hc=>?_) (λz hz=>hto z (zia _ hz)) p2⟩
   ·rcases zva.1 ((pB lt x l).subset hz) with rfl|hz
    ·exact hyx
    ·exact p1 z hz
   ·have up:∀ q,q∈x::l->q∈x::y::l:=λq hq=>by
     rcases zva.1 hq with rfl|hq
     ·simp
     ·simp[hq]
    exact htr a (up a ha) b (up b hb) c (up c hc)
theorem oJ{lt:D->D->Bool}:∀ {l:List D},(∀ a∈l,∀ b∈l,∀ c∈l,lt a b=true->lt b c=true->lt a c=true)->l.Pairwise (λa b=>lt a b=true\/lt b a=true)->(kD lt l).Pairwise (λa b=>lt a b=true)
 | [],_,_=>by simp[kD]
 | x::l,htr,hto=>by
  obtain⟨p1,p2⟩:=zCa.1 hto;have hs:∀ q,q∈kD lt l->q∈l:=λq hq=>(fX lt l).subset hq;have up:∀ q,q∈x::kD lt l->q∈x::l:=λq hq=>by
   rcases zva.1 hq with rfl|hq
   ·simp
   ·simp[hs q hq]
  exact qj (λa ha b hb c hc=>htr a (up a ha) b (up b hb) c (up c hc)) (λy hy=>p1 y (hs y hy)) (oJ (λa ha b hb c hc=>htr a (zia _ ha) b (zia _ hb) c (zia _ hc)) p2)
def tM{g:Nat}{l l':List D}(hc:qR E g l'=true)(hp:l.Perm l'):je E g l=some l':=by
 obtain⟨h1,h2⟩:=jx hc;have ix:∀ x∈l',∃ i,l'[i]?=some x:=λx hx=>by
  obtain⟨i,k1,k2⟩:=zRa hx;exact⟨i,by rw[zda k1,k2]⟩
 have htr:∀ a∈l,∀ b∈l,∀ c∈l,pG E g a b=true->pG E g b c=true->pG E g a c=true:=λa ha b hb c hc' k1 k2=>by
  obtain⟨i,hi⟩:=ix a (hp.subset ha);obtain⟨j,hj⟩:=ix b (hp.subset hb);obtain⟨k,hk⟩:=ix c (hp.subset hc');have:=(dU hc hi hj).1.1 k1;have:=(dU hc hj hk).1.1 k2;exact(dU hc hi hk).1.2 (by omega)
 have hnd:l.Nodup:=hp.symm.nodup (uG hc);have hto:l.Pairwise (λa b=>pG E g a b=true\/pG E g b a=true):=by
  refine zRc (λ{a b} ha hb hab=>?_) hnd;obtain⟨i,hi⟩:=ix a (hp.subset ha);obtain⟨j,hj⟩:=ix b (hp.subset hb);rcases zgd i j with k|k|k
  ·exact .inl ((dU hc hi hj).1.2 k)
  ·subst k;rw[hi] at hj;cases hj;exact absurd rfl hab
  ·exact .inr ((dU hc hj hi).1.2 k)
 have hs:=oJ htr hto;have hsp:(kD (pG E g) l).Perm l':=(fX _ l).trans hp;have:kD (pG E g) l=l':=by
  have key:∀ {a b:List D},a.Pairwise (λx y=>pG E g x y=true)->b.Pairwise (λx y=>pG E g x y=true)->a.Perm b->(∀ x∈a,x∈l')->a=b:=by
   intro a
   induction a with
   | nil=>intro b _ _ hp _;exact hp.symm.eq_nil.symm ▸ rfl
   | cons x a ih=>
    intro b ha hb hp hm;cases b with
    | nil=>exact absurd hp.eq_nil (by simp)
    | cons y b=>
     obtain⟨a1,a2⟩:=zCa.1 ha;obtain⟨b1,b2⟩:=zCa.1 hb;have e:x=y:=by
      rcases zva.1 (hp.subset zoa) with e|m1
      ·exact e
      ·rcases zva.1 (hp.symm.subset (zoa (a:=y))) with e|m2
       ·exact e.symm
       ·exfalso;obtain⟨i,hi⟩:=ix x (hm x zoa);obtain⟨j,hj⟩:=ix y (hm y (zia _ m2));have:=(dU hc hi hj).1.1 (a1 y m2);have:=(dU hc hj hi).1.1 (b1 x m1);omega
     subst e;rw[ih a2 b2 ((List.perm_cons x).1 hp) (λz hz=>hm z (zia _ hz))]
  exact key hs (h1.imp λh=>h.1) hsp λx hx=>hsp.subset hx
 unfold je;rw[this,if_pos hc]
def A2{g:Nat}{l l2 l':List D}(h:je E g l=some l')(hp:l2.Perm l):je E g l2=some l':=by
 have hsd:qR E g l'=true/\l'=kD (pG E g) l:=by
  unfold je at h;split at h
  ·rename_i hh;cases h;exact⟨hh,rfl⟩
  ·cases h
 exact tM hsd.1 (hp.trans (by rw[hsd.2];exact(fX _ l).symm))
end
end Sy
end
noncomputable section
namespace Sy
open Go Go.Proofs Go.Sort Go.Lib
section
variable{P:Program}{E:Env}
def xm(E:Env)(nt m0 o g:Nat)(e vt:Ty)(s:St):Option D:=
 match s.tm m0 with
 | .map kt vt' id=>if kt.beq e&&vt'.beq vt then(match s.ob id with
   | some (.mp kt2 vt2 l)=>if kt2.beq e&&vt2.beq vt&&decide (l.length<=1073741824) then(match dh s e o with
     | some []=>if s.nt=nt then(je E g (l.map uk)).bind λl'=>some (.sl l') else none
     | _=>none) else none
   | _=>none) else none
 | _=>none
def AW(hE:EnvOk P E){e vt:Ty}(he:bH e=true)(hvt:bH vt=true)(hne:aj e=true)(hnv:aj vt=true){fn:Func}{rty:Ty}{y:D}{w:World}{S:Nat->Nat->Prop}(hr:iB fn.results.size rty=true)
  {id23 id24 id25 b b2:Nat} {t72 m0 it T nx ok en o nt:Nat} {o23 o24 o25:Array Oper} {rest:List Oper} {c26:Code}
  {y1 y2 y3 y4 y5:TypeId} {p1 p2 p3 p4 p5:String} {f1 f2 f3 f4 f5:Array Edge} {TK TV:TypeId}
  (h23:o23.toList=[⟨some t72,.move (.tmp m0),y1,p1,f1,none⟩,⟨some it,.range T (.tmp t72),y2,p2,f2,none⟩])
  (h24:o24.toList=[⟨some nx,.next (.tmp it) false,y3,p3,f3,none⟩,⟨some ok,.extract (.tmp nx) 0,y4,p4,f4,none⟩])
  (h25:o25.toList=⟨some en,.entry (.tmp it),y5,p5,f5,none⟩::rest) (hrest:(rest.all λx=>x.guard.isNone)=true) (hT:P.underlying T=some (.map TK TV))
  (hd:(decide (o≠t72)&&decide (o≠it)&&decide (nx≠o)&&decide (ok≠o)&&decide (en≠o)&&decide (it≠t72)&&decide (it≠nx)&&decide (it≠ok)&&decide (it≠en)&&decide (nx≠ok)&&decide (t72<nt)&&decide (it<nt)&&decide (nx<nt)&&decide (ok<nt)&&decide (en<nt))=true)
  (hround:∀ X L k v,Ki e L X->L.length<1073741824->wt e k->ev E (.region 0 rest.toArray false) .leaf D ((σL nt o it X).put (some en) (.d (.tup [e,vt]) (.tup [k,v]))) (λx s'=>match x with
   | .normal=>ev E c26 .leaf D s' (λx s''=>match x with|.normal=>(dh s'' e o).bind λl=>some (.sl l)|_=>none)
   | _=>none)=some (.sl (L++[k])))
  {f0 g:Nat} (hf:SortOk P f0 e) (hsig:E.sig g=some ([e,e],.int .i64)/\E.free g=0) {id t d2:Nat} {ops:Array Oper} {d:Code} {ann:Ann} {ty1 ty2:TypeId} {q1 q2:String} {af1 af2:Array Edge} {args:Array Operand} {ats:Array TypeId}
  (hops:ops.toList=[⟨some t,.move (.tmp o),ty1,q1,af1,none⟩,⟨some d2,.call ⟨.value (.func f0),args,ats⟩,ty2,q2,af2,none⟩]) (hargs:args=#[.tmp t,.func g]) (hd':(decide (o≠t)&&decide (o≠d2)&&decide (t<nt))=true)
  (hev:∀ l',(ev E d ann D (Jy nt o e l') λx s=>match x with|.exit _=>none|_=>results E s rty fn.results.toList)=some (.sl l'))
  {S':Nat->Nat->Prop} {γ':Nat->Option Nat} {β':Nat->Option (Nat×Nat)} {s':St} {a':Act} {w':World} (h:Rp (tx w S) S' γ' β' s' a' w') (hdf:a'.defers=[]) (hK:xm E nt m0 o g e vt s'=some y) :
  (Code.seq (Code.seq (.region id23 o23 false) (.block b (.loop (.seq (.region id24 o24 false) (.seq (.cond (.tmp ok) .skip (.exit b)) (.block b2 (.seq (.region id25 o25 false) c26))))))) (Code.seq (.region id ops false) d)).wpIn (FW none) 0 P (JX P fn w S rty y) a' w':=by
 unfold xm at hK;split at hK<;>first|(cases hK;done)|skip
 rename_i kt vt' idm htm;split at hK<;>first|(cases hK;done)|skip
 rename_i hb1;split at hK<;>first|(cases hK;done)|skip
 rename_i kt2 vt2 l hob;split at hK<;>first|(cases hK;done)|skip
 rename_i hb2;split at hK<;>first|(cases hK;done)|skip
 rename_i hfr;split at hK<;>first|(cases hK;done)|skip
 rename_i hnt;obtain⟨l',h3,h4⟩:=bind_some_inv hK;cases h4;simp only[zaa,decide_eq_true_eq] at hb1 hb2 hd;have e1:=Ty.eq_of_beq _ _ hb1.1;have e2:=Ty.eq_of_beq _ _ hb1.2;have e3:=Ty.eq_of_beq _ _ hb2.1.1;have e4:=Ty.eq_of_beq _ _ hb2.1.2;subst e1;subst e2;subst e3;subst e4;obtain⟨⟨⟨⟨⟨⟨⟨⟨⟨⟨⟨⟨⟨⟨d1,d2'⟩,d3⟩,d4⟩,d5⟩,d6⟩,d7⟩,d8⟩,d9⟩,d10⟩,n1⟩,n2⟩,n3⟩,n4⟩,n5⟩:=hd;subst hnt;refine wpIn_seq (Je hE he hvt hne hnv h23 h24 h25 (λx hx=>by simpa using zka.1 hrest x hx) hT h hdf d1 d2' d3 d4 d5 d6 d7 d8 d9 d10 n1 n2 n3 n4 n5 htm hob hb2.2 hfr hround λL S2 γ2 β2 X a2 w2 hX hp hR hdf2=>?_)
 have hlen:L.length<=1073741824:=by rw[hp.length_eq];simpa using hb2.2
 have hfX:dh (σL s'.nt o it X) kt2 o=some L:=by
  unfold dh σL;simp only[if_true];rcases hX with⟨rfl,rfl⟩|rfl
  ·rfl
  ·simp only;have:(kt2.beq kt2&&!(([]:List Nat).contains 5)&&decide (L.length<=1073741824))=true:=by
    simp only[zaa,decide_eq_true_eq];exact⟨⟨hb2.1.1,rfl⟩,hlen⟩
   rw[if_pos this]
 refine vS hE hf hsig hr hops hargs hd' hev hR hdf2 ?_;unfold Cr;rw[hfX,zba,if_pos (show(σL s'.nt o it X).nt=s'.nt from rfl),A2 h3 hp];rfl
end
end Sy
end
noncomputable section
namespace Go.Proofs
open Go.Shelf
def Tryz.sortP_ren:Go.Shelf.Ren:=⟨λ|6=>177|15=>213|14=>212|28=>219|29=>231|20=>223|21=>224|22=>225|23=>226|24=>227|25=>228|26=>229|27=>230|46=>242|47=>243|48=>244|49=>245|50=>246|57=>251|n=>n,λ|22=>137|24=>140|25=>187|3=>3|39=>130|0=>0|53=>33|55=>128|4=>4|46=>221|45=>220|50=>154|5=>5|9=>9|66=>232|70=>236|76=>241|77=>242|n=>n,λ|n=>n⟩
def Tryz.sortP:Go.Proofs.SlLaysF0.n6 Tryz.prog Tryz.sortP_ren:={
 mixed:=by kernel_rfl
 f6:=⟨Tryz.f177.name,by decide,Tryz.func177.trans (congrArg some (by kernel_rfl))⟩
 f14:=⟨Tryz.f212.name,by decide,Tryz.func212.trans (congrArg some (by kernel_rfl))⟩
 f15:=Tryz.func213.trans (congrArg some (by kernel_rfl))
 f20:=⟨Tryz.f223.name,by decide,Tryz.func223.trans (congrArg some (by kernel_rfl))⟩
 f21:=⟨Tryz.f224.name,by decide,Tryz.func224.trans (congrArg some (by kernel_rfl))⟩
 f22:=⟨Tryz.f225.name,by decide,Tryz.func225.trans (congrArg some (by kernel_rfl))⟩
 f23:=⟨Tryz.f226.name,by decide,Tryz.func226.trans (congrArg some (by kernel_rfl))⟩
 f24:=⟨Tryz.f227.name,by decide,Tryz.func227.trans (congrArg some (by kernel_rfl))⟩
 f25:=⟨Tryz.f228.name,by decide,Tryz.func228.trans (congrArg some (by kernel_rfl))⟩
 f26:=⟨Tryz.f229.name,by decide,Tryz.func229.trans (congrArg some (by kernel_rfl))⟩
 f27:=⟨Tryz.f230.name,by decide,Tryz.func230.trans (congrArg some (by kernel_rfl))⟩
 f28:=Tryz.func219.trans (congrArg some (by kernel_rfl))
 f29:=Tryz.func231.trans (congrArg some (by kernel_rfl))
 f46:=⟨Tryz.f242.name,by decide,Tryz.func242.trans (congrArg some (by kernel_rfl))⟩
 f47:=Tryz.func243.trans (congrArg some (by kernel_rfl))
 f48:=Tryz.func244.trans (congrArg some (by kernel_rfl))
 f49:=⟨Tryz.f245.name,by decide,Tryz.func245.trans (congrArg some (by kernel_rfl))⟩
 f50:=⟨Tryz.f246.name,by decide,Tryz.func246.trans (congrArg some (by kernel_rfl))⟩
 f57:=⟨Tryz.f251.name,by decide,Tryz.func251.trans (congrArg some (by kernel_rfl))⟩
 t0:=Tryz.underlying0
 a0:=Tryz.isAgg0
 z0:=Tryz.sizeOf0
 v0:=Tryz.zeroValue0
 t3:=Tryz.underlying3
 a3:=Tryz.isAgg3
 z3:=Tryz.sizeOf3
 v3:=Tryz.zeroValue3
 t4:=Tryz.underlying4
 a4:=Tryz.isAgg4
 z4:=Tryz.sizeOf4
 v4:=Tryz.zeroValue4
 t5:=Tryz.underlying5
 a5:=Tryz.isAgg5
 z5:=Tryz.sizeOf5
 v5:=Tryz.zeroValue5
 t9:=Tryz.underlying9
 a9:=Tryz.isAgg9
 z9:=Tryz.sizeOf9
 v9:=Tryz.zeroValue9
 t22:=Tryz.underlying137
 a22:=Tryz.isAgg137
 z22:=Tryz.sizeOf137
 v22:=Tryz.zeroValue137
 t25:=Tryz.underlying187
 a25:=Tryz.isAgg187
 z25:=Tryz.sizeOf187
 v25:=Tryz.zeroValue187
 t39:=Tryz.underlying130
 a39:=Tryz.isAgg130
 z39:=Tryz.sizeOf130
 v39:=Tryz.zeroValue130
 t45:=Tryz.underlying220
 a45:=Tryz.isAgg220
 z45:=Tryz.sizeOf220
 v45:=Tryz.zeroValue220
 t46:=Tryz.underlying221
 a46:=Tryz.isAgg221
 z46:=Tryz.sizeOf221
 v46:=Tryz.zeroValue221
 t50:=Tryz.underlying154
 a50:=Tryz.isAgg154
 z50:=Tryz.sizeOf154
 v50:=Tryz.zeroValue154
 t53:=Tryz.underlying33
 a53:=Tryz.isAgg33
 z53:=Tryz.sizeOf33
 v53:=Tryz.zeroValue33
 t55:=Tryz.underlying128
 a55:=Tryz.isAgg128
 z55:=Tryz.sizeOf128
 v55:=Tryz.zeroValue128
 t66:=Tryz.underlying232
 a66:=Tryz.isAgg232
 z66:=Tryz.sizeOf232
 v66:=Tryz.zeroValue232
 t70:=Tryz.underlying236
 a70:=Tryz.isAgg236
 z70:=Tryz.sizeOf236
 v70:=Tryz.zeroValue236
 t76:=Tryz.underlying241
 a76:=Tryz.isAgg241
 z76:=Tryz.sizeOf241
 v76:=Tryz.zeroValue241
 t77:=Tryz.underlying242
 a77:=Tryz.isAgg242
 z77:=Tryz.sizeOf242
 v77:=Tryz.zeroValue242 }
def Tryz.sortE_ren:Go.Shelf.Ren:=⟨λ|6=>190|15=>213|14=>218|28=>219|29=>231|20=>233|21=>234|22=>235|23=>236|24=>237|25=>238|26=>239|27=>240|46=>248|47=>243|48=>244|49=>249|50=>250|57=>252|n=>n,λ|22=>132|24=>134|25=>197|3=>3|39=>130|0=>0|53=>33|55=>128|4=>4|46=>221|45=>220|50=>154|5=>5|9=>9|66=>232|70=>236|76=>241|77=>242|n=>n,λ|n=>n⟩
def Tryz.sortE:Go.Proofs.SlLaysF0.n6 Tryz.prog Tryz.sortE_ren:={
 mixed:=by kernel_rfl
 f6:=⟨Tryz.f190.name,by decide,Tryz.func190.trans (congrArg some (by kernel_rfl))⟩
 f14:=⟨Tryz.f218.name,by decide,Tryz.func218.trans (congrArg some (by kernel_rfl))⟩
 f15:=Tryz.func213.trans (congrArg some (by kernel_rfl))
 f20:=⟨Tryz.f233.name,by decide,Tryz.func233.trans (congrArg some (by kernel_rfl))⟩
 f21:=⟨Tryz.f234.name,by decide,Tryz.func234.trans (congrArg some (by kernel_rfl))⟩
 f22:=⟨Tryz.f235.name,by decide,Tryz.func235.trans (congrArg some (by kernel_rfl))⟩
 f23:=⟨Tryz.f236.name,by decide,Tryz.func236.trans (congrArg some (by kernel_rfl))⟩
 f24:=⟨Tryz.f237.name,by decide,Tryz.func237.trans (congrArg some (by kernel_rfl))⟩
 f25:=⟨Tryz.f238.name,by decide,Tryz.func238.trans (congrArg some (by kernel_rfl))⟩
 f26:=⟨Tryz.f239.name,by decide,Tryz.func239.trans (congrArg some (by kernel_rfl))⟩
 f27:=⟨Tryz.f240.name,by decide,Tryz.func240.trans (congrArg some (by kernel_rfl))⟩
 f28:=Tryz.func219.trans (congrArg some (by kernel_rfl))
 f29:=Tryz.func231.trans (congrArg some (by kernel_rfl))
 f46:=⟨Tryz.f248.name,by decide,Tryz.func248.trans (congrArg some (by kernel_rfl))⟩
 f47:=Tryz.func243.trans (congrArg some (by kernel_rfl))
 f48:=Tryz.func244.trans (congrArg some (by kernel_rfl))
 f49:=⟨Tryz.f249.name,by decide,Tryz.func249.trans (congrArg some (by kernel_rfl))⟩
 f50:=⟨Tryz.f250.name,by decide,Tryz.func250.trans (congrArg some (by kernel_rfl))⟩
 f57:=⟨Tryz.f252.name,by decide,Tryz.func252.trans (congrArg some (by kernel_rfl))⟩
 t0:=Tryz.underlying0
 a0:=Tryz.isAgg0
 z0:=Tryz.sizeOf0
 v0:=Tryz.zeroValue0
 t3:=Tryz.underlying3
 a3:=Tryz.isAgg3
 z3:=Tryz.sizeOf3
 v3:=Tryz.zeroValue3
 t4:=Tryz.underlying4
 a4:=Tryz.isAgg4
 z4:=Tryz.sizeOf4
 v4:=Tryz.zeroValue4
 t5:=Tryz.underlying5
 a5:=Tryz.isAgg5
 z5:=Tryz.sizeOf5
 v5:=Tryz.zeroValue5
 t9:=Tryz.underlying9
 a9:=Tryz.isAgg9
 z9:=Tryz.sizeOf9
 v9:=Tryz.zeroValue9
 t22:=Tryz.underlying132
 a22:=Tryz.isAgg132
 z22:=Tryz.sizeOf132
 v22:=Tryz.zeroValue132
 t25:=Tryz.underlying197
 a25:=Tryz.isAgg197
 z25:=Tryz.sizeOf197
 v25:=Tryz.zeroValue197
 t39:=Tryz.underlying130
 a39:=Tryz.isAgg130
 z39:=Tryz.sizeOf130
 v39:=Tryz.zeroValue130
 t45:=Tryz.underlying220
 a45:=Tryz.isAgg220
 z45:=Tryz.sizeOf220
 v45:=Tryz.zeroValue220
 t46:=Tryz.underlying221
 a46:=Tryz.isAgg221
 z46:=Tryz.sizeOf221
 v46:=Tryz.zeroValue221
 t50:=Tryz.underlying154
 a50:=Tryz.isAgg154
 z50:=Tryz.sizeOf154
 v50:=Tryz.zeroValue154
 t53:=Tryz.underlying33
 a53:=Tryz.isAgg33
 z53:=Tryz.sizeOf33
 v53:=Tryz.zeroValue33
 t55:=Tryz.underlying128
 a55:=Tryz.isAgg128
 z55:=Tryz.sizeOf128
 v55:=Tryz.zeroValue128
 t66:=Tryz.underlying232
 a66:=Tryz.isAgg232
 z66:=Tryz.sizeOf232
 v66:=Tryz.zeroValue232
 t70:=Tryz.underlying236
 a70:=Tryz.isAgg236
 z70:=Tryz.sizeOf236
 v70:=Tryz.zeroValue236
 t76:=Tryz.underlying241
 a76:=Tryz.isAgg241
 z76:=Tryz.sizeOf241
 v76:=Tryz.zeroValue241
 t77:=Tryz.underlying242
 a77:=Tryz.isAgg242
 z77:=Tryz.sizeOf242
 v77:=Tryz.zeroValue242 }
end Go.Proofs
end
noncomputable section
namespace Sy
open Go Go.Proofs Go.Shelf Go.RowKit Go.Lib Go.Sort
def NG {P : Program} {f : Nat} (h : (match P.funcs[f]? with | some fn => !(fn.name == "runtime.NumGoroutine") && fn.body.isSome | none => false) = true) : ∃ fn, P.funcs[f]? = some fn /\ (fn.name == "runtime.NumGoroutine") = false /\ fn.body.isSome = true := by
 split at h
 ·rename_i fn hf;simp only[zaa,zFa] at h;exact⟨fn,hf,h.1,h.2⟩
 ·cases h
def Gp:SortOk Tryz.prog 190 K8:=
 ⟨rfl,rfl,by decide,rfl,NG (by kernel_rfl),λp cap fv w=>AnyF.slices_SortFunc_none Tryz.sortE p cap fv w,
  λ_ _ enc hk h1 cf hO g blk off cap d w eg hcmp hH hblk hsz=>AnyQ.slices_SortFunc Tryz.sortE 2 Tryz.isAgg134 Tryz.sizeOf134 enc hk h1 cf hO g #[] blk off cap d w eg hcmp hH hblk hsz⟩
def Gq:SortOk Tryz.prog 177 dm:=
 ⟨rfl,rfl,by decide,rfl,NG (by kernel_rfl),λp cap fv w=>AnyF.slices_SortFunc_none Tryz.sortP p cap fv w,
  λ_ _ enc hk h1 cf hO g blk off cap d w eg hcmp hH hblk hsz=>AnyQ.slices_SortFunc Tryz.sortP 4 Tryz.isAgg140 Tryz.sizeOf140 enc hk h1 cf hO g #[] blk off cap d w eg hcmp hH hblk hsz⟩
end Sy
end
end Go.Proofs.YtphlmegkommlnaaGreatDoor
