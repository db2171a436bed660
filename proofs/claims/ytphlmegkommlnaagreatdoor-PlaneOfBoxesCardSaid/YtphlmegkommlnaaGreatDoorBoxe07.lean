/- Part 7 of the proof that PlaneOfBoxes answers true at every input -/
import Derived.Test.YtphlmegkommlnaaGreatDoorBoxe05
import Derived.Test.YtphlmegkommlnaaGreatDoorBoxe06
import Derived.Maps.RangeRun
import Derived.Shelf.SlSortCmp.NoneTotal
import Derived.Ground.SlsfProg
import Derived.KernelRfl
import Derived.Test.YtphlmegkommlnaaGreatDoorProg
import Derived.Test.YtphlmegkommlnaaGreatDoorChecked
set_option linter.unusedVariables false
set_option linter.unusedSimpArgs false
set_option linter.unnecessarySimpa false
set_option linter.defProp false
set_option maxRecDepth 20000
namespace Go.Proofs.YtphlmegkommlnaaGreatDoor
noncomputable section
set_option maxHeartbeats 0
noncomputable section
namespace Sy
open Go Go.Proofs
section
variable{lp}(a:av lp)
def Uo:Ann:=(.tl (.tl (.two (.tl (.two (.loop ⟨[(3,.di),(4,.di)],[],[0]⟩ [(.exit 0,⟨[(3,.di)],[],[]⟩)] (.tl (.two (.two (.reg [] 12) .leaf) .leaf))) .leaf)) .leaf)))
def FF(lp:Lp)(c:Ca)(a0:D):Option D:=(qZ lp (λv1=>qB .add (gx v1 1) (Jn 1) λh=>qL a0 h λg=>if g then(qX a0 (gx v1 1) λi=>qB .add (gx v1 1) (Jn 1) λj=>qX a0 j λb=>qB .mul i b λd=>qB .add (gx v1 0) d λe=>qB .add (gx v1 1) (Jn 2) λf=>iL [e,f]) else(iR (0,[(gx v1 0)]))) [(Jn 0),(Jn 0)]).bind λa=>some (gx a.2 0)
def We:ae 394 (m1 (FF lp)):=bD 0 Tryz.f132 Uo a
def Up:Ann:=(.tl (.tl (.tl (.tl (.tl (.tl (.two (.tl (.two (.loop ⟨[(6,.sp CI 4102),(7,.sp CI 4103),(9,.sp K3 8201),(10,.sp K3 12298),(11,.sp dm 16395),(12,.sp dm 20492),(13,.dv Ty.bool),(14,.di)],[(4102,.keep CI 6),(4103,.keep CI 7),(8201,.keep K3 9),(12298,.keep K3 10),(16395,.keep dm 11),(20492,.keep dm 12)],[]⟩ [(.exit 0,⟨[(9,.sp K3 8201),(10,.sp K3 12298),(11,.sp dm 16395),(12,.sp dm 20492),(13,.dv Ty.bool)],[(8201,.keep K3 9),(12298,.keep K3 10),(16395,.keep dm 11),(20492,.keep dm 12)],[]⟩)] (.tl (.two (.two (.reg [] 35) .leaf) .leaf))) .leaf)) .leaf)))))))
def Hw(lp:Lp)(c:Ca)(a0 a1:D)(a2 a3:D):Option D:=qG a2 [0] λx1=>(D.conv .i64 x1).bind λx2=>qB .add (Jn 1) x2 λx3=>qG a2 [1] λx4=>(D.conv .i64 x4).bind λx5=>qB .add (Jn 1) x5 λx6=>qG a2 [2] λx7=>(D.conv .i64 x7).bind λx8=>qB .add (Jn 1) x8 λx9=>(c 429 [(D.st [(Jn 0),(Jn 0),(Jn 0)]),(D.st [x3,x6,x9])]).bind λd=>qG a3 [0] λx=>(D.conv .i64 x).bind λy=>qB .add (Jn 1) y λz=>qG a3 [1] λA=>(D.conv .i64 A).bind λB=>qB .add (Jn 1) B λC=>qG a3 [2] λE=>(D.conv .i64 E).bind λF=>qB .add (Jn 1) F λG=>(c 429 [(D.st [(Jn 0),(Jn 0),(Jn 0)]),(D.st [z,C,G])]).bind λe=>qG a0 [0] λH=>qB .rem H (Jn 1000000) λI=>qG a0 [1] λJ=>qB .rem J (Jn 1000000) λK=>qG a0 [2] λL=>qB .rem L (Jn 1000000) λM=>(c 430 [I,K,M]).bind λa=>qG a1 [0] λN=>qB .rem N (Jn 1000000) λO=>qG a1 [1] λP=>qB .rem P (Jn 1000000) λQ=>qG a1 [2] λR=>qB .rem R (Jn 1000000) λS=>(c 430 [O,Q,S]).bind λb=>(qZ lp (λv35=>qC .lss (gx v35 1) (Jn 3) λj=>if j then(qT (gx v35 0) λk=>(if k then(some true) else((D.idx (gx v35 1) 3).bind λi39=>qG a [0,i39] λT=>qB .add T (Jn 1) λU=>qJ (gx v35 1) 3 a2 λV=>(D.conv .i64 V).bind λW=>qB .add U W λX=>(D.idx (gx v35 1) 3).bind λi46=>qG b [0,i46] λY=>qB .leq X Y λZ=>D.truth Z)).bind λl=>qT (D.bool l) λm=>(if m then(some true) else((D.idx (gx v35 1) 3).bind λi51=>qG b [0,i51] λad=>qB .add ad (Jn 1) λai=>qJ (gx v35 1) 3 a3 λaj=>(D.conv .i64 aj).bind λak=>qB .add ai ak λal=>(D.idx (gx v35 1) 3).bind λi58=>qG a [0,i58] λan=>qB .leq al an λax=>D.truth ax)).bind λn=>qB .add (gx v35 1) (Jn 1) λaB=>iL [(D.bool n),aB]) else(iR (0,[(gx v35 0)]))) [(D.bool false),(Jn 0)]).bind λf=>(c 416 [a,d,b,e]).bind λg=>(D.tupAt g 0).bind λaI=>(D.tupAt g 1).bind λi=>(c 425 [a,d,b,e]).bind λh=>(D.tupAt h 0).bind λa6=>(D.tupAt h 1).bind λa4=>(c 415 []).bind λv=>qT v λo=>(if o then(D.truth (D.bool (D.beq i (gx f.2 0)))) else(some false)).bind λp=>qT (D.bool p) λq=>(if q then((abU .not (gx f.2 0)).bind λa5=>D.truth (D.bool (D.beq a4 a5))) else(some false)).bind λr=>qT (D.bool r) λs=>(if s then(qN i λt=>if t then(some true) else((c 421 [aI,a,d,b,e]).bind λw=>D.truth w)) else(some false)).bind λu=>some (D.bool u)
def QS:ae 413 (m4 (Hw lp)):=IZ 0 Tryz.f8 Up a
def Qy:Ann:=(.tl (.tl (.tl (.two (.reg [] 9) (.two (.reg [] 9) (.two (.reg [] 9) (.tl (.two (.reg [] 29) (.two (.reg [] 9) (.two (.reg [] 9) (.tl (.two (.reg [] 20) (.tl (.two (.reg [] 18) (.two (.reg [] 21) (.two (.reg [] 27) .leaf))))))))))))))))
def Wf:ae 415 (F9 0 lp 415 Tryz.f10 Qy):=qc a u3 u3
def Uq:Ann:=let a:LO:=[(4104,.one fM (.dv fM)),(8202,.one bI (.dv bI)),(8203,.one bI (.dv bI)),(12300,.one fM (.dv fM)),(16397,.one cd (.dv cd)),(20494,.one Ty.bool (.dv Ty.bool)),(45056,.lp none 0)];let c:LO:=[(4104,.one fM (.dv fM)),(8202,.one bI (.dv bI)),(8203,.one bI (.dv bI)),(12300,.one fM (.dv fM)),(16397,.one cd (.dv cd)),(20494,.one Ty.bool (.dv Ty.bool)),(32770,.keep bI 1),(32771,.keep bI 2),(45056,.lp none 0),(53251,.fv (.yld 45056)),(57348,.fv (.map K1 Ty.bool 57360)),(57360,.mp K1 Ty.bool)];let e:LO:=[(4104,.one fM (.dv fM)),(8202,.one bI (.dv bI)),(8203,.one bI (.dv bI)),(12300,.one fM (.dv fM)),(16397,.one cd (.dv cd)),(20494,.one Ty.bool (.dv Ty.bool)),(45056,.lp none 0),(53251,.fv (.yld 45056)),(57348,.fv (.map K1 Ty.bool 57360)),(57360,.mp K1 Ty.bool)];let b:LS:=[(0,.same (.yld 45056))];let d:LS:=[(3,.same (.ptr Ty.fn 53251 [])),(6,.dv Ty.bool)];(.tl (.two (.reg [] 8) (.tl (.tl (.tl (.two (.two (.regI [] 3 .leaf) (.two (.all [(.normal,⟨b,a,[]⟩),(.ret,⟨b,a,[]⟩)] [] [45056] (.tl (.tl (.tl (.two (.tl (.two (.loop ⟨[(0,.same (.yld 45056)),(1,.sp bI 32770),(2,.sp bI 32771),(5,.same (.clo 100 [(.ptr Ty.fn 57348 []),(.ptr Ty.fn 53251 [])])),(20,.ow bI),(22,.di)],c,[21]⟩ [(.ret,⟨b,a,[]⟩),(.exit 0,⟨[(0,.same (.yld 45056)),(1,.sp bI 32770),(2,.sp bI 32771),(5,.same (.clo 100 [(.ptr Ty.fn 57348 []),(.ptr Ty.fn 53251 [])]))],c,[]⟩)] (.tl (.tl (.two (.two (.tl (.tl (.two (.loop ⟨[(0,.same (.yld 45056)),(1,.sp bI 32770),(2,.sp bI 32771),(5,.same (.clo 100 [(.ptr Ty.fn 57348 []),(.ptr Ty.fn 53251 [])])),(7,.sp bI 77831),(20,.ow bI),(31,.di)],[(4104,.one fM (.dv fM)),(8202,.one bI (.dv bI)),(8203,.one bI (.dv bI)),(12300,.one fM (.dv fM)),(16397,.one cd (.dv cd)),(20494,.one Ty.bool (.dv Ty.bool)),(32770,.keep bI 1),(32771,.keep bI 2),(45056,.lp none 0),(53251,.fv (.yld 45056)),(57348,.fv (.map K1 Ty.bool 57360)),(57360,.mp K1 Ty.bool),(77831,.keep bI 7)],[6,21,22,29,30]⟩ [(.ret,⟨b,a,[]⟩),(.exit 2,⟨[(0,.same (.yld 45056)),(1,.sp bI 32770),(2,.sp bI 32771),(5,.same (.clo 100 [(.ptr Ty.fn 57348 []),(.ptr Ty.fn 53251 [])])),(20,.ow bI)],c,[21,22]⟩)] (.tl (.tl (.two (.two (.tl (.two (.regI [] 13 (.two (.all [(.ret,⟨d,[(4104,.one fM (.dv fM)),(8202,.one bI (.dv bI)),(8203,.one bI (.dv bI)),(12300,.one fM (.dv fM)),(16397,.one cd (.dv cd)),(20494,.one Ty.bool (.dv Ty.bool)),(32770,.one bI (.dv bI)),(32771,.one bI (.dv bI)),(45056,.lp none 3),(53251,.fv (.yld 45056)),(57348,.fv (.map K1 Ty.bool 57360)),(57360,.mp K1 Ty.bool),(77831,.one bI (.dv bI))],[]⟩)] [] [45056] (.tl (.tl (.cut [(.normal,⟨[(2,.same (.ptr Ty.fn 57348 [])),(3,.same (.ptr Ty.fn 53251 [])),(7,.sp K1 110599)],[(4104,.one fM (.dv fM)),(8202,.one bI (.dv bI)),(8203,.one bI (.dv bI)),(12300,.one fM (.dv fM)),(16397,.one cd (.dv cd)),(20494,.one Ty.bool (.dv Ty.bool)),(32770,.one bI (.dv bI)),(32771,.one bI (.dv bI)),(45056,.lp none 3),(53251,.fv (.yld 45056)),(57348,.fv (.map K1 Ty.bool 57360)),(57360,.mp K1 Ty.bool),(77831,.one bI (.dv bI)),(110599,.one K1 (.dv K1))],[8]⟩)] [8] [45056] .leaf (.tl (.tl (.two (.regI [] 4 (.two (.tl (.all [(.normal,⟨[],[(4104,.keep fM 8),(8202,.keep bI 10),(8203,.keep bI 11),(12300,.one fM (.dv fM)),(16397,.one cd (.dv cd)),(20494,.one Ty.bool (.dv Ty.bool)),(32770,.one bI (.dv bI)),(32771,.one bI (.dv bI)),(53251,.fv (.yld 45056)),(57348,.fv (.map K1 Ty.bool 57360)),(57360,.mp K1 Ty.bool),(77831,.one bI (.dv bI))],[]⟩)] [] [4104,8202,8203] (.two (.tl (.tl (.two (.reg [] 10) (.tl (.two (.reg [] 8) (.reg [] 4)))))) .leaf))) .leaf)) .leaf))))))) .leaf)) .leaf)) .leaf) .leaf)))) .leaf))) .leaf) .leaf)))) .leaf)) (.tl (.tl (.two (.loop ⟨[(0,.same (.yld 45056)),(5,.same (.clo 100 [(.ptr Ty.fn 57348 []),(.ptr Ty.fn 53251 [])])),(55,.di)],e,[10,53,54]⟩ [(.ret,⟨b,a,[]⟩),(.exit 4,⟨b,a,[]⟩)] (.tl (.tl (.two (.two (.tl (.tl (.two (.loop ⟨[(0,.same (.yld 45056)),(5,.same (.clo 100 [(.ptr Ty.fn 57348 []),(.ptr Ty.fn 53251 [])])),(12,.sp K1 90124),(61,.di)],[(4104,.one fM (.dv fM)),(8202,.one bI (.dv bI)),(8203,.one bI (.dv bI)),(12300,.one fM (.dv fM)),(16397,.one cd (.dv cd)),(20494,.one Ty.bool (.dv Ty.bool)),(45056,.lp none 0),(53251,.fv (.yld 45056)),(57348,.fv (.map K1 Ty.bool 57360)),(57360,.mp K1 Ty.bool),(90124,.keep K1 12)],[10,53,54,55,59,60]⟩ [(.ret,⟨b,a,[]⟩),(.exit 6,⟨[(0,.same (.yld 45056)),(5,.same (.clo 100 [(.ptr Ty.fn 57348 []),(.ptr Ty.fn 53251 [])]))],e,[10,53,54,55]⟩)] (.tl (.tl (.two (.two (.tl (.tl (.two (.regI [] 10 (.two (.all [(.ret,⟨d,[(4104,.one fM (.dv fM)),(8202,.one bI (.dv bI)),(8203,.one bI (.dv bI)),(12300,.one fM (.dv fM)),(16397,.one cd (.dv cd)),(20494,.one Ty.bool (.dv Ty.bool)),(45056,.lp none 3),(53251,.fv (.yld 45056)),(57348,.fv (.map K1 Ty.bool 57360)),(57360,.mp K1 Ty.bool),(90124,.one K1 (.dv K1)),(110607,.one ii (.dv ii))],[]⟩)] [] [45056] (.tl (.tl (.cut [(.normal,⟨[(2,.same (.ptr Ty.fn 57348 [])),(3,.same (.ptr Ty.fn 53251 [])),(7,.sp K1 126983)],[(4104,.one fM (.dv fM)),(8202,.one bI (.dv bI)),(8203,.one bI (.dv bI)),(12300,.one fM (.dv fM)),(16397,.one cd (.dv cd)),(20494,.one Ty.bool (.dv Ty.bool)),(45056,.lp none 3),(53251,.fv (.yld 45056)),(57348,.fv (.map K1 Ty.bool 57360)),(57360,.mp K1 Ty.bool),(90124,.one K1 (.dv K1)),(110607,.one ii (.dv ii)),(126983,.one K1 (.dv K1))],[8]⟩)] [8] [45056] .leaf (.tl (.tl (.two (.regI [] 4 (.two (.tl (.all [(.normal,⟨[],[(4104,.keep fM 8),(8202,.keep bI 10),(8203,.keep bI 11),(12300,.one fM (.dv fM)),(16397,.one cd (.dv cd)),(20494,.one Ty.bool (.dv Ty.bool)),(53251,.fv (.yld 45056)),(57348,.fv (.map K1 Ty.bool 57360)),(57360,.mp K1 Ty.bool),(90124,.one K1 (.dv K1)),(110607,.one ii (.dv ii))],[]⟩)] [] [4104,8202,8203] (.two (.tl (.tl (.two (.reg [] 10) (.tl (.two (.reg [] 8) (.reg [] 4)))))) .leaf))) .leaf)) .leaf))))))) (.two (.all [(.ret,⟨d,[(4104,.one fM (.dv fM)),(8202,.one bI (.dv bI)),(8203,.one bI (.dv bI)),(12300,.one fM (.dv fM)),(16397,.one cd (.dv cd)),(20494,.one Ty.bool (.dv Ty.bool)),(45056,.lp none 3),(53251,.fv (.yld 45056)),(57348,.fv (.map K1 Ty.bool 57360)),(57360,.mp K1 Ty.bool),(90124,.one K1 (.dv K1))],[]⟩)] [] [45056] (.tl (.tl (.cut [(.normal,⟨[(2,.same (.ptr Ty.fn 57348 [])),(3,.same (.ptr Ty.fn 53251 [])),(7,.sp K1 139271)],[(4104,.one fM (.dv fM)),(8202,.one bI (.dv bI)),(8203,.one bI (.dv bI)),(12300,.one fM (.dv fM)),(16397,.one cd (.dv cd)),(20494,.one Ty.bool (.dv Ty.bool)),(45056,.lp none 3),(53251,.fv (.yld 45056)),(57348,.fv (.map K1 Ty.bool 57360)),(57360,.mp K1 Ty.bool),(90124,.one K1 (.dv K1)),(139271,.one K1 (.dv K1))],[8]⟩)] [8] [45056] .leaf (.tl (.tl (.two (.regI [] 4 (.two (.tl (.all [(.normal,⟨[],[(4104,.keep fM 8),(8202,.keep bI 10),(8203,.keep bI 11),(12300,.one fM (.dv fM)),(16397,.one cd (.dv cd)),(20494,.one Ty.bool (.dv Ty.bool)),(53251,.fv (.yld 45056)),(57348,.fv (.map K1 Ty.bool 57360)),(57360,.mp K1 Ty.bool),(90124,.one K1 (.dv K1))],[]⟩)] [] [4104,8202,8203] (.two (.tl (.tl (.two (.reg [] 10) (.tl (.two (.reg [] 8) (.reg [] 4)))))) .leaf))) .leaf)) .leaf))))))) .leaf))) .leaf))) .leaf) .leaf)))) .leaf))) .leaf) .leaf)))) .leaf)))))))) .leaf)) (.two (.reg [] 2) .leaf)))))))
def LK(lp:Lp)(c:Ca)(a0 a1:D)(a2 a3:D):Option D:=(c 433 [a0,a1]).bind λr1=>(c 433 [a2,a3]).bind λZ=>((qZ lp (λv3=>qC .lss (gx v3 1) (Jn 2) λb5=>if b5 then((D.idx (gx v3 1) (List.length (qV v3 0))).bind λi6=>((qV v3 0)[i6]?).bind λx7=>qG x7 [1] λx8=>(c 18 [x8]).bind λr9=>qS r9 λb1=>(qZ lp (λv11=>qC .lss (gx v11 1) (Jn (b1.length)) λa7=>if a7 then(qX r9 (gx v11 1) λc1=>qG x7 [0,1] λc2=>qG c1 [0] λc3=>(c 386 [c2,c3]).bind λb4=>(c 448 [b4]).bind λb6=>qB .mul (Jn 2) (gx v3 1) λc4=>qB .sub (Jn 1) c4 λc5=>((c 447 [b6]).bind λad=>(D.tupAt ad 0).bind λa5=>(D.tupAt ad 1).bind λdk=>(qC .lss c5 (Jn 0) λa9=>if a9 then((c 97 [a5]).bind λb7=>some (0,[(gx v11 2),(gx v11 3),(gx v11 4),(gx v11 5),(gx v11 6),(gx v11 7),r1,Z,(qW v11 8),x7,b7])) else(some (0,[(gx v11 2),(gx v11 3),(gx v11 4),(gx v11 5),(gx v11 6),(gx v11 7),r1,Z,(qW v11 8),x7,a5]))).bind λ(b:Nat×List D)=>qT (D.bool (!(D.beq dk (Jn 0)))) λbi=>(if bi then(some true) else(D.truth (Option.getD (abN (qV b.2 8) (gx b.2 10)) (D.bool false)))).bind λbj=>qT (D.bool bj) λbk=>if bk then(some (0,[(D.bool true),(gx b.2 0),(gx b.2 1),(gx b.2 2),(gx b.2 3),(gx b.2 4),(gx b.2 5),(gx b.2 6),(gx b.2 7),(qW b.2 8),(gx b.2 9)])) else(((c 434 [(gx b.2 10),(gx b.2 1),(gx b.2 2)]).bind λs=>(c 342 [s]).bind λb8=>qC .lss b8 (Jn 0) λbl=>if bl then(some (0,[(gx b.2 3),(gx b.2 4),(gx b.2 5),(gx b.2 6),(gx b.2 7),(D.sl (abO (qV b.2 8) (gx b.2 10) (D.bool true))),(gx b.2 9)])) else((c 174 [s,s]).bind λb9=>(c 91 [(gx b.2 10),(gx b.2 10)]).bind λca=>(c 54 [(Jn 1)]).bind λcb=>(c 62 [ca,cb]).bind λcc=>(c 352 [b9,cc]).bind λai=>qT (gx b.2 5) λbm=>(if bm then((c 73 [ai,(gx b.2 4)]).bind λcf=>qB .leq cf (Jn 0) λdn=>D.truth dn) else(some false)).bind λbn=>qT (D.bool bn) λbp=>if bp then(some (0,[(gx b.2 3),(gx b.2 4),(gx b.2 5),(gx b.2 6),(gx b.2 7),(D.sl (abO (qV b.2 8) (gx b.2 10) (D.bool true))),(gx b.2 9)])) else((c 435 [(gx b.2 1),(gx b.2 10)]).bind λch=>(c 74 [(Jn 2)]).bind λci=>(c 352 [s,ci]).bind λcj=>(c 173 [ch,cj]).bind λcp=>some (0,[(D.st [(gx b.2 10),cp]),ai,(D.bool true),(gx b.2 6),(gx b.2 7),(D.sl (abO (qV b.2 8) (gx b.2 10) (D.bool true))),(gx b.2 9)])))).bind λ(q:Nat×List D)=>some (0,[(D.bool true),(gx b.2 0),(gx b.2 1),(gx b.2 2),(gx q.2 0),(gx q.2 1),(gx q.2 2),(gx q.2 3),(gx q.2 4),(qW q.2 5),(gx q.2 6)]))).bind λ(l:Nat×List D)=>qN (gx l.2 0) λbs=>if bs then(iR (0,[(gx l.2 1),(gx l.2 2),(gx l.2 3),(gx l.2 4),(gx l.2 5),(gx l.2 6)])) else(qB .add (gx v11 1) (Jn 1) λdp=>iL [(qW v11 0),dp,(gx l.2 1),(gx l.2 2),(gx l.2 3),(gx l.2 4),(gx l.2 5),(gx l.2 6),(qW l.2 9)])) else(iR (1,[(qW v11 0),(gx v11 2),(gx v11 3),(gx v11 4),(gx v11 5),(gx v11 6),(gx v11 7),(qW v11 8)]))) [(qW v3 0),(Jn 0),(gx v3 2),(gx v3 3),(gx v3 4),(gx v3 5),(gx v3 6),(gx v3 7),(qW v3 8)]).bind λk=>if k.1=0 then(iR (0,[(gx k.2 0),(gx k.2 1),(gx k.2 2),(gx k.2 3),(gx k.2 4),(gx k.2 5)])) else(qB .add (gx v3 1) (Jn 1) λdr=>iL [(qW k.2 0),dr,(gx k.2 1),(gx k.2 2),(gx k.2 3),(gx k.2 4),(gx k.2 5),(gx k.2 6),(qW k.2 7)])) else(iR (1,[(gx v3 2),(gx v3 3),(gx v3 4),(gx v3 5),(gx v3 6),(gx v3 7),(qW v3 8)]))) [(D.sl [r1,Z]),(Jn 0),(D.st [(D.st [(Jn 0),(Jn 0),(Jn 0)]),(D.st [(D.st [(D.bool false),(D.bool false),(aq aP)]),(D.st [(D.bool false),(D.bool false),(aq aP)])])]),r1,Z,(D.st [(D.st [(Jn 0),(Jn 0),(Jn 0)]),(D.st [(D.st [(D.bool false),(D.bool false),(aq aP)]),(D.st [(D.bool false),(D.bool false),(aq aP)])])]),(D.st [(D.st [(D.bool false),(D.bool false),(aq aP)]),(D.st [(D.bool false),(D.bool false),(aq aP)])]),(D.bool false),(D.sl [])]).bind λm=>if m.1=0 then(some (1,[(gx m.2 0),(gx m.2 1),(gx m.2 2),(gx m.2 3),(gx m.2 4),(gx m.2 5)])) else((c 449 [Z]).bind λaj=>(c 449 [r1]).bind λak=>qS ak λb2=>(qZ lp (λj=>qC .lss (gx j 0) (Jn (b2.length)) λbt=>if bt then(qX ak (gx j 0) λy=>qS aj λb3=>(qZ lp (λf=>qC .lss (gx f 0) (Jn (b3.length)) λbv=>if bv then(qX aj (gx f 0) λds=>(c 450 [y,ds]).bind λx=>((c 447 [x]).bind λal=>(D.tupAt al 0).bind λa6=>(D.tupAt al 1).bind λdt=>(qC .lss (Jn 1) (Jn 0) λbx=>if bx then((c 97 [a6]).bind λcs=>some (0,[(gx f 1),(gx f 2),(gx f 3),(gx f 4),(gx f 5),(gx f 6),(qW f 7),y,x,cs])) else(some (0,[(gx f 1),(gx f 2),(gx f 3),(gx f 4),(gx f 5),(gx f 6),(qW f 7),y,x,a6]))).bind λ(d:Nat×List D)=>qT (D.bool (!(D.beq dt (Jn 0)))) λbL=>(if bL then(some true) else(D.truth (Option.getD (abN (qV d.2 6) (gx d.2 9)) (D.bool false)))).bind λbM=>qT (D.bool bM) λbN=>if bN then(some (0,[(D.bool true),(gx d.2 0),(gx d.2 1),(gx d.2 2),(gx d.2 3),(gx d.2 4),(gx d.2 5),(qW d.2 6),(gx d.2 7),(gx d.2 8)])) else(((c 434 [(gx d.2 9),(gx d.2 1),(gx d.2 2)]).bind λt=>(c 342 [t]).bind λcv=>qC .lss cv (Jn 0) λbP=>if bP then(some (0,[(gx d.2 3),(gx d.2 4),(gx d.2 5),(D.sl (abO (qV d.2 6) (gx d.2 9) (D.bool true))),(gx d.2 7),(gx d.2 8)])) else((c 174 [t,t]).bind λcx=>(c 91 [(gx d.2 9),(gx d.2 9)]).bind λcy=>(c 54 [(Jn 1)]).bind λcB=>(c 62 [cy,cB]).bind λcI=>(c 352 [cx,cI]).bind λan=>qT (gx d.2 5) λbT=>(if bT then((c 73 [an,(gx d.2 4)]).bind λc0=>qB .leq c0 (Jn 0) λdu=>D.truth du) else(some false)).bind λbW=>qT (D.bool bW) λb0=>if b0 then(some (0,[(gx d.2 3),(gx d.2 4),(gx d.2 5),(D.sl (abO (qV d.2 6) (gx d.2 9) (D.bool true))),(gx d.2 7),(gx d.2 8)])) else((c 435 [(gx d.2 1),(gx d.2 9)]).bind λK=>(c 74 [(Jn 2)]).bind λL=>(c 352 [t,L]).bind λM=>(c 173 [K,M]).bind λN=>some (0,[(D.st [(gx d.2 9),N]),an,(D.bool true),(D.sl (abO (qV d.2 6) (gx d.2 9) (D.bool true))),(gx d.2 7),(gx d.2 8)])))).bind λ(n:Nat×List D)=>some (0,[(D.bool true),(gx d.2 0),(gx d.2 1),(gx d.2 2),(gx n.2 0),(gx n.2 1),(gx n.2 2),(qW n.2 3),(gx n.2 4),(gx n.2 5)]))).bind λ(e:Nat×List D)=>qN (gx e.2 0) λz=>if z then(iR (0,[(gx e.2 1),(gx e.2 2),(gx e.2 3),(gx e.2 4),(gx e.2 5),(gx e.2 6)])) else(((c 447 [(gx e.2 9)]).bind λu=>(D.tupAt u 0).bind λw=>(D.tupAt u 1).bind λax=>(qC .lss (Jn (-1)) (Jn 0) λA=>if A then((c 97 [w]).bind λO=>some (0,[(gx e.2 1),(gx e.2 2),(gx e.2 3),(gx e.2 4),(gx e.2 5),(gx e.2 6),(qW e.2 7),(gx e.2 8),O])) else(some (0,[(gx e.2 1),(gx e.2 2),(gx e.2 3),(gx e.2 4),(gx e.2 5),(gx e.2 6),(qW e.2 7),(gx e.2 8),w]))).bind λ(a:Nat×List D)=>qT (D.bool (!(D.beq ax (Jn 0)))) λB=>(if B then(some true) else(D.truth (Option.getD (abN (qV a.2 6) (gx a.2 8)) (D.bool false)))).bind λC=>qT (D.bool C) λE=>if E then(some (0,[(D.bool true),(gx a.2 0),(gx a.2 1),(gx a.2 2),(gx a.2 3),(gx a.2 4),(gx a.2 5),(qW a.2 6),(gx a.2 7)])) else(((c 434 [(gx a.2 8),(gx a.2 1),(gx a.2 2)]).bind λr=>(c 342 [r]).bind λP=>qC .lss P (Jn 0) λF=>if F then(some (0,[(gx a.2 3),(gx a.2 4),(gx a.2 5),(D.sl (abO (qV a.2 6) (gx a.2 8) (D.bool true))),(gx a.2 7)])) else((c 174 [r,r]).bind λQ=>(c 91 [(gx a.2 8),(gx a.2 8)]).bind λR=>(c 54 [(Jn 1)]).bind λS=>(c 62 [R,S]).bind λT=>(c 352 [Q,T]).bind λv=>qT (gx a.2 5) λG=>(if G then((c 73 [v,(gx a.2 4)]).bind λU=>qB .leq U (Jn 0) λaB=>D.truth aB) else(some false)).bind λH=>qT (D.bool H) λI=>if I then(some (0,[(gx a.2 3),(gx a.2 4),(gx a.2 5),(D.sl (abO (qV a.2 6) (gx a.2 8) (D.bool true))),(gx a.2 7)])) else((c 435 [(gx a.2 1),(gx a.2 8)]).bind λV=>(c 74 [(Jn 2)]).bind λW=>(c 352 [r,W]).bind λX=>(c 173 [V,X]).bind λY=>some (0,[(D.st [(gx a.2 8),Y]),v,(D.bool true),(D.sl (abO (qV a.2 6) (gx a.2 8) (D.bool true))),(gx a.2 7)])))).bind λ(o:Nat×List D)=>some (0,[(D.bool true),(gx a.2 0),(gx a.2 1),(gx a.2 2),(gx o.2 0),(gx o.2 1),(gx o.2 2),(qW o.2 3),(gx o.2 4)]))).bind λ(g:Nat×List D)=>qN (gx g.2 0) λJ=>if J then(iR (0,[(gx g.2 1),(gx g.2 2),(gx g.2 3),(gx g.2 4),(gx g.2 5),(gx g.2 6)])) else(qB .add (gx f 0) (Jn 1) λaI=>iL [aI,(gx g.2 1),(gx g.2 2),(gx g.2 3),(gx g.2 4),(gx g.2 5),(gx g.2 6),(qW g.2 7)]))) else(iR (1,[(gx f 1),(gx f 2),(gx f 3),(gx f 4),(gx f 5),(gx f 6),(qW f 7)]))) [(Jn 0),(gx j 1),(gx j 2),(gx j 3),(gx j 4),(gx j 5),(gx j 6),(qW j 7)]).bind λh=>if h.1=0 then(iR (0,[(gx h.2 0),(gx h.2 1),(gx h.2 2),(gx h.2 3),(gx h.2 4),(gx h.2 5)])) else(qB .add (gx j 0) (Jn 1) λa4=>iL [a4,(gx h.2 0),(gx h.2 1),(gx h.2 2),(gx h.2 3),(gx h.2 4),(gx h.2 5),(qW h.2 6)])) else(iR (1,[(gx j 1),(gx j 2),(gx j 3),(gx j 4),(gx j 5),(gx j 6)]))) [(Jn 0),(gx m.2 0),(gx m.2 1),(gx m.2 2),(gx m.2 3),(gx m.2 4),(gx m.2 5),(qW m.2 6)]).bind λi=>if i.1=0 then(some (1,[(gx i.2 0),(gx i.2 1),(gx i.2 2),(gx i.2 3),(gx i.2 4),(gx i.2 5)])) else(some (0,[(gx i.2 0),(gx i.2 1),(gx i.2 2),(gx i.2 3),(gx i.2 4),(gx i.2 5)])))).bind λ(p:Nat×List D)=>if p.1=0 then(some (D.tup [(gx p.2 3),(gx p.2 5)])) else(some (D.tup [(gx p.2 3),(gx p.2 5)]))
def Wg:ae 416 (m4 (LK lp)):=IZ 0 Tryz.f11 Uq a
def Ur:Ann:=(.tl (.two (.reg [] 8) .leaf))
def QL(lp:Lp)(c:Ca)(a0 a1:D)(a2 a3 a4:D):Option D:=(c 433 [a1,a2]).bind λr1=>(c 433 [a3,a4]).bind λa=>(c 434 [a0,r1,a]).bind λb=>some b
def Wh:ae 419 (m5 (QL lp)):=I0 0 Tryz.f15 Ur a
end
end Sy
end
set_option maxHeartbeats 0
noncomputable section
namespace Sy
open Go Go.Proofs
section
variable{lp}(a:av lp)
def Us:Ann:=let a:LO:=[(4101,.keep fM 5),(4102,.keep dm 6),(4103,.keep K3 7),(4104,.keep dm 8),(4105,.keep K3 9)];(.tl (.two (.tl (.two (.loop ⟨[(5,.sp fM 4101),(6,.sp dm 4102),(7,.sp K3 4103),(8,.sp dm 4104),(9,.sp K3 4105),(15,.di)],a,[14]⟩ [(.ret,⟨[(10,.dv Ty.bool)],[],[]⟩),(.exit 0,⟨[(5,.sp fM 4101),(6,.sp dm 4102),(7,.sp K3 4103),(8,.sp dm 4104),(9,.sp K3 4105)],a,[]⟩)] .leaf) .leaf)) (.tl (.two (.reg [] 24) .leaf))))
def LL(lp:Lp)(c:Ca)(a0 a1:D)(a2 a3 a4:D):Option D:=qG a0 [0] λC=>(qZ lp (λv2=>qC .lss (gx v2 0) (Jn 3) λA=>if A then((D.idx (gx v2 0) 3).bind λi5=>(D.fld C i5).bind λz=>qC .geq z (Jn 2305843009213693952) λB=>(if B then(some true) else(qB .leq z (Jn (-2305843009213693952)) λE=>D.truth E)).bind λb=>qT (D.bool b) λd=>if d then(iR (0,[(D.bool false)])) else(qB .add (gx v2 0) (Jn 1) λr=>iL [r])) else(iR (1,[]))) [(Jn 0)]).bind λa=>if a.1=0 then(some (gx a.2 0)) else(qG a0 [0] λs=>qT (D.bool (D.beq s (D.st [(Jn 0),(Jn 0),(Jn 0)]))) λe=>(if e then(some true) else(qG a0 [1,0,0] λt=>D.truth t)).bind λf=>qT (D.bool f) λg=>if g then(some (D.bool false)) else((c 433 [a1,a2]).bind λj=>qG a0 [0] λu=>(c 435 [j,u]).bind λk=>qG a0 [1] λv=>(c 73 [k,v]).bind λl=>qC .leq l (Jn 0) λh=>(if h then((c 433 [a3,a4]).bind λm=>qG a0 [0] λw=>(c 97 [w]).bind λn=>(c 435 [m,n]).bind λo=>qG a0 [1] λx=>(c 357 [x]).bind λp=>(c 73 [o,p]).bind λq=>qB .leq q (Jn 0) λy=>D.truth y) else(some false)).bind λi=>some (D.bool i)))
def Wi:ae 421 (m5 (LL lp)):=I0 0 Tryz.f17 Us a
def Ut:Ann:=(.tl (.tl (.two (.reg [] 6) (.tl (.tl (.two (.tl (.two (.loop ⟨[(3,.sp dm 4099),(7,.sp cr 12295),(9,.di),(25,.di)],[(4099,.keep dm 3),(12295,.keep cr 7)],[8,23,24]⟩ [(.exit 0,⟨[(9,.di)],[],[]⟩)] (.tl (.tl (.two (.two (.tl (.reg [] 15)) .leaf) .leaf)))) .leaf)) .leaf))))))
def LN(lp:Lp)(c:Ca)(a0 a1 a2:D):Option D:=(c 71 [a2]).bind λr1=>qT r1 λp=>if p then(some (Jn (-1))) else(qG a0 [0] λu=>(c 135 [u]).bind λr=>(c 440 [a2,r]).bind λs=>qG a0 [1] λv=>(c 385 [v]).bind λt=>(c 18 [a1]).bind λo=>qS o λq=>(qZ lp (λv10=>qC .lss (gx v10 1) (Jn (q.length)) λb=>if b then(qX o (gx v10 1) λa=>qG a [1] λi=>qB .mul t i λj=>(c 74 [j]).bind λd=>qG a0 [1] λk=>qG a [0] λl=>(c 386 [k,l]).bind λe=>(c 72 [e,s]).bind λf=>(c 73 [d,f]).bind λg=>(D.min2 (gx v10 0) g).bind λm=>qB .add (gx v10 1) (Jn 1) λn=>iL [m,n]) else(iR (0,[(gx v10 0)]))) [(Jn 1),(Jn 0)]).bind λh=>some (gx h.2 0))
def Wj:ae 423 (m3 (LN lp)):=qb 0 Tryz.f19 Ut a
def Uu:Ann:=let a:LO:=[(4100,.keep dm 4),(4101,.keep K3 5),(4102,.keep dm 6),(4103,.keep K3 7),(4104,.keep cr 8),(36879,.keep cr 15),(53265,.one cr (.dv cr))];let b:LO:=[(4100,.keep dm 4),(4101,.keep K3 5),(4102,.keep dm 6),(4103,.keep K3 7),(4104,.keep cr 8),(36879,.one cr (.dv cr))];(.tl (.two (.reg [] 8) (.two (.reg [] 6) (.tl (.two (.tl (.two (.loop ⟨[(4,.sp dm 4100),(5,.sp K3 4101),(6,.sp dm 4102),(7,.sp K3 4103),(8,.sp cr 4104),(12,.ow cr),(37,.ow Ti),(39,.di)],[(4100,.keep dm 4),(4101,.keep K3 5),(4102,.keep dm 6),(4103,.keep K3 7),(4104,.one cr (.dv cr))],[38]⟩ [(.ret,⟨[(8,.sp cr 4104),(9,.dv Ty.bool)],[(4104,.one cr (.dv cr))],[]⟩),(.exit 0,⟨[(8,.sp cr 4104)],[(4104,.one cr (.dv cr))],[]⟩)] (.tl (.tl (.two (.two (.tl (.tl (.two (.tl (.two (.loop ⟨[(4,.sp dm 4100),(5,.sp K3 4101),(6,.sp dm 4102),(7,.sp K3 4103),(8,.sp cr 4104),(12,.ow cr),(15,.sp cr 36879),(37,.ow Ti),(45,.dv AG),(47,.di)],b,[14,38,39,46]⟩ [(.exit 2,⟨[(4,.sp dm 4100),(5,.sp K3 4101),(6,.sp dm 4102),(7,.sp K3 4103),(8,.sp cr 4104),(12,.ow cr),(15,.sp cr 36879),(37,.ow Ti)],b,[38,39]⟩)] (.tl (.tl (.two (.two (.tl (.two (.tl (.two (.loop ⟨[(4,.sp dm 4100),(5,.sp K3 4101),(6,.sp dm 4102),(7,.sp K3 4103),(8,.sp cr 4104),(12,.ow cr),(15,.sp cr 36879),(17,.sp cr 53265),(37,.ow Ti),(51,.di)],a,[14,38,39,45,46,47]⟩ [(.exit 4,⟨[(4,.sp dm 4100),(5,.sp K3 4101),(6,.sp dm 4102),(7,.sp K3 4103),(8,.sp cr 4104),(12,.ow cr),(15,.sp cr 36879),(17,.sp cr 53265),(37,.ow Ti)],a,[14,38,39,45,46,47]⟩)] .leaf) .leaf)) .leaf)) .leaf) .leaf)))) .leaf)) (.two (.reg [] 6) .leaf)))) .leaf) .leaf)))) .leaf)) .leaf)))))
def LP(lp:Lp)(c:Ca)(a0 a1:D)(a2 a3:D):Option D:=(c 433 [a0,a1]).bind λr1=>(c 433 [a2,a3]).bind λC=>(c 443 [r1,C]).bind λF=>qS F λn=>(c 443 [C,r1]).bind λG=>qS G λo=>if n.length+o.length<=1073741824 then(qC .lss (Jn (List.length (n++o))) (Jn 4) λE=>if E then(some (D.tup [(D.st [(D.st [(D.st [(D.bool false),(D.bool false),(aq aP)]),(D.st [(D.bool false),(D.bool false),(aq aP)])]),(D.st [(D.st [(D.bool false),(D.bool false),(aq aP)]),(D.st [(D.bool false),(D.bool false),(aq aP)])]),(D.st [(D.st [(D.bool false),(D.bool false),(aq aP)]),(D.st [(D.bool false),(D.bool false),(aq aP)])])]),(D.bool false)])) else((qZ lp (λv9=>qC .lss (gx v9 2) (Jn 4) λh=>if h then((D.idx (gx v9 2) (List.length (qV v9 1))).bind λAI=>((qV v9 1)[AI]?).bind λu=>(c 135 [(D.st [(Jn 0),(Jn 0),(Jn 0)])]).bind λp=>(qZ lp (λa=>qC .lss (gx a 3) (Jn (List.length (qV v9 0))) λi=>if i then(qX (gx a 2) (gx a 3) λv=>(qZ lp (λv21=>qC .lss (gx v21 2) (Jn 3) λj=>if j then(qJ (gx v21 2) 3 (gx v21 3) λw=>(c 444 [w,u]).bind λg=>(D.tupAt g 0).bind λx=>(D.tupAt g 1).bind λH=>(D.idx (gx v21 2) 3).bind λi29=>(D.set (gx v21 3) [i29] x).bind λy=>qB .add (gx v21 2) (Jn 1) λz=>iL [(qW v21 0),(qW v21 1),z,y]) else(iR (0,[(qW v21 0),(qW v21 1),(gx v21 3)]))) [(qW a 0),(qW a 1),(Jn 0),v]).bind λd=>(c 371 [(gx a 4),(gx d.2 2)]).bind λq=>qB .add (gx a 3) (Jn 1) λA=>iL [(qW d.2 0),(qW d.2 1),(gx a 2),A,q]) else(iR (0,[(qW a 0),(qW a 1),(gx a 4)]))) [(qW v9 0),(qW v9 1),(qW v9 0),(Jn 0),p]).bind λb=>(c 333 [(Jn 1),(Jn (List.length (qV b.2 0)))]).bind λr=>(c 445 [r,(gx b.2 2)]).bind λe=>(c 423 [a0,a1,e]).bind λs=>qT (D.bool (D.beq s (Jn 1))) λk=>(if k then((c 423 [a2,a3,e]).bind λt=>D.truth (D.bool (D.beq t (Jn 1)))) else(some false)).bind λl=>qT (D.bool l) λm=>if m then(iR (0,[(D.bool true),e])) else(qB .add (gx v9 2) (Jn 1) λB=>iL [(qW b.2 0),(qW b.2 1),B,(gx v9 3)])) else(iR (1,[(gx v9 3)]))) [(D.sl (n++o)),(D.sl [(Jn 20),(Jn 60),(Jn 120),(Jn 240)]),(Jn 0),(D.st [(D.st [(D.st [(D.bool false),(D.bool false),(aq aP)]),(D.st [(D.bool false),(D.bool false),(aq aP)])]),(D.st [(D.st [(D.bool false),(D.bool false),(aq aP)]),(D.st [(D.bool false),(D.bool false),(aq aP)])]),(D.st [(D.st [(D.bool false),(D.bool false),(aq aP)]),(D.st [(D.bool false),(D.bool false),(aq aP)])])])]).bind λf=>if f.1=0 then(some (D.tup [(gx f.2 1),(gx f.2 0)])) else(some (D.tup [(D.st [(D.st [(D.st [(D.bool false),(D.bool false),(aq aP)]),(D.st [(D.bool false),(D.bool false),(aq aP)])]),(D.st [(D.st [(D.bool false),(D.bool false),(aq aP)]),(D.st [(D.bool false),(D.bool false),(aq aP)])]),(D.st [(D.st [(D.bool false),(D.bool false),(aq aP)]),(D.st [(D.bool false),(D.bool false),(aq aP)])])]),(D.bool false)])))) else none
def Wl:ae 425 (m4 (LP lp)):=IZ 0 Tryz.f21 Uu a
def Uv:Ann:=(.tl (.tl (.two (.tl (.two (.loop ⟨[(2,.sp K1 4098),(3,.sp K1 4099),(4,.sp K3 4100),(5,.ow K1),(6,.di)],[(4098,.keep K1 2),(4099,.keep K1 3),(4100,.one K3 (.st [K2] [.ow K1]))],[]⟩ [(.exit 0,⟨[(4,.sp K3 4100),(5,.ow K1)],[(4100,.one K3 (.st [K2] [.ow K1]))],[]⟩)] .leaf) .leaf)) .leaf)))
def LQ(lp:Lp)(c:Ca)(a0 a1:D):Option D:=(qZ lp (λv1=>qC .lss (gx v1 1) (Jn 8) λo=>if o then(qG a0 [0] λp=>qB .quo (gx v1 1) (Jn 4) λq=>qG a1 [0] λr=>qB .mul q r λs=>qB .add p s λn=>qG a0 [1] λt=>qB .quo (gx v1 1) (Jn 2) λe=>qB .rem e (Jn 2) λf=>qG a1 [1] λg=>qB .mul f g λh=>qB .add t h λa=>qG a0 [2] λi=>qB .rem (gx v1 1) (Jn 2) λj=>qG a1 [2] λk=>qB .mul j k λl=>qB .add i l λb=>if List.length (qV v1 0)+List.length [(D.st [n,a,b])]<=1073741824 then(qB .add (gx v1 1) (Jn 1) λm=>iL [(D.sl ((qV v1 0)++[(D.st [n,a,b])])),m,(qW v1 2)]) else none) else(iR (0,[(qW v1 0),(qW v1 2)]))) [(D.sl []),(Jn 0),(D.sl [])]).bind λd=>some (D.st [(qW d.2 0)])
def Wm:ae 429 (m2 (LQ lp)):=aR 0 Tryz.f30 Uv a
def OQ(lp:Lp)(c:Ca)(a0 a1 a2:D):Option D:=some (D.st [(D.st [a0,a1,a2]),(D.st [(Jn 1),(Jn 0),(Jn 0),(Jn 0)])])
def Wn:ae 430 (m3 (OQ lp)):=qb 0 Tryz.f31 .leaf a
def Uw:Ann:=(.tl (.two (.reg [] 4) .leaf))
def QM(lp:Lp)(c:Ca)(a0 a1:D):Option D:=(c 75 [a1]).bind λr1=>some (D.st [a0,r1])
def Wo:ae 432 (m2 (QM lp)):=aR 0 Tryz.f33 Uw a
def Ux:Ann:=let a:LO:=[(4098,.keep dm 2),(4100,.one bI (.st [dm,K3,Ti,K2] [.dv dm,.st [K2] [.ow K1],.di,.ow K1])),(8197,.one bI (.st [dm,K3,Ti,K2] [.dv dm,.dv K3,.di,.ow K1])),(28680,.one K1 (.dv K1))];(.tl (.two (.reg [] 7) (.two (.tl (.two (.loop ⟨[(2,.sp dm 4098),(4,.sp bI 4100),(5,.sp bI 8197),(19,.di)],[(4098,.keep dm 2),(4100,.one bI (.st [dm,K3,Ti,K2] [.dv dm,.st [K2] [.ow K1],.di,.ow K1])),(8197,.one bI (.st [dm,K3,Ti,K2] [.dv dm,.dv K3,.di,.ow K1]))],[17,18]⟩ [(.exit 0,⟨[(4,.sp bI 4100),(5,.sp bI 8197)],[(4100,.one bI (.st [dm,K3,Ti,K2] [.dv dm,.st [K2] [.ow K1],.di,.ow K1])),(8197,.one bI (.st [dm,K3,Ti,K2] [.dv dm,.dv K3,.di,.ow K1]))],[]⟩)] (.tl (.tl (.two (.two (.tl (.tl (.two (.tl (.two (.loop ⟨[(2,.sp dm 4098),(4,.sp bI 4100),(5,.sp bI 8197),(8,.sp K1 28680),(27,.di)],a,[17,18,19]⟩ [(.exit 2,⟨[(2,.sp dm 4098),(4,.sp bI 4100),(5,.sp bI 8197),(8,.sp K1 28680)],a,[17,18,19]⟩)] (.tl (.tl (.two (.two (.tl (.reg [] 12)) .leaf) .leaf)))) .leaf)) .leaf))) .leaf) .leaf)))) .leaf)) .leaf)))
def LR(lp:Lp)(c:Ca)(a0 a1:D):Option D:=qG a0 [1] λt=>(c 385 [t]).bind λs=>qG a1 [0] λp=>qS p λr=>(qZ lp (λv5=>qC .lss (gx v5 0) (Jn (r.length)) λq=>if q then(qX p (gx v5 0) λg=>qG a0 [1] λh=>(c 386 [h,g]).bind λf=>(qZ lp (λa=>qC .lss (gx a 0) (Jn 3) λe=>if e then(qJ (gx a 0) 3 (gx a 9) λi=>(D.idx (gx a 0) 3).bind λi18=>qG a0 [0,i18] λj=>qB .mul (gx a 7) j λk=>qB .add i k λl=>(D.idx (gx a 0) 3).bind λi22=>(D.set (gx a 9) [i22] l).bind λm=>qB .add (gx a 0) (Jn 1) λn=>iL [n,(gx a 1),(qW a 2),(gx a 3),(qW a 4),(gx a 5),(gx a 6),(gx a 7),(qW a 8),m]) else(iR (0,[(gx a 1),(qW a 2),(gx a 3),(qW a 4),(gx a 5),(gx a 6),(gx a 7),(qW a 8),(gx a 9)]))) [(Jn 0),(gx v5 1),(qW v5 2),(gx v5 3),(qW v5 4),(gx v5 5),(gx v5 6),(gx v5 7),(qW v5 8),f]).bind λb=>if List.length (qV b.2 7)+List.length [(gx b.2 8)]<=1073741824 then(qB .add (gx v5 0) (Jn 1) λo=>iL [o,(gx b.2 0),(qW b.2 1),(gx b.2 2),(qW b.2 3),(gx b.2 4),(gx b.2 5),(gx b.2 6),(D.sl ((qV b.2 7)++[(gx b.2 8)]))]) else none) else(iR (0,[(gx v5 1),(qW v5 2),(gx v5 3),(qW v5 4),(gx v5 5),(gx v5 6),(gx v5 7),(qW v5 8)]))) [(Jn 0),(D.st [(D.st [(Jn 0),(Jn 0),(Jn 0)]),(D.st [(Jn 0),(Jn 0),(Jn 0),(Jn 0)])]),(D.sl []),(Jn 0),(D.sl []),a0,a1,s,(D.sl [])]).bind λd=>some (D.st [(gx d.2 4),(gx d.2 5),(gx d.2 6),(qW d.2 7)])
def Wp:ae 433 (m2 (LR lp)):=aR 0 Tryz.f37 Ux a
def Uy:Ann:=(.tl (.two (.reg [] 9) .leaf))
def LT(lp:Lp)(c:Ca)(a0 a1 a2:D):Option D:=(c 97 [a0]).bind λr1=>(c 435 [a2,r1]).bind λa=>(c 435 [a1,a0]).bind λb=>(c 173 [a,b]).bind λd=>(c 357 [d]).bind λe=>some e
def Wq:ae 434 (m3 (LT lp)):=qb 0 Tryz.f39 Uy a
def Uz:Ann:=let a:LO:=[(4098,.keep bI 2),(4099,.keep K1 3),(4100,.keep cd 4),(8197,.one aQ (.dv aQ))];(.tl (.two (.reg [] 7) (.two (.tl (.two (.loop ⟨[(2,.sp bI 4098),(3,.sp K1 4099),(4,.sp cd 4100),(5,.sp aQ 8197),(19,.di)],a,[17,18]⟩ [(.exit 0,⟨[(2,.sp bI 4098),(4,.sp cd 4100),(5,.sp aQ 8197)],[(4098,.keep bI 2),(4100,.keep cd 4),(8197,.one aQ (.dv aQ))],[]⟩)] (.tl (.tl (.cut [(.normal,⟨[(2,.sp bI 4098),(3,.sp K1 4099),(4,.sp cd 4100),(5,.sp aQ 8197)],a,[17,18,19]⟩)] [17,18,19] [4098,4099,4100] .leaf .leaf)))) .leaf)) (.two (.reg [] 5) .leaf))))
def LU(lp:Lp)(c:Ca)(a0 a1:D):Option D:=qY a0 [3] (Jn 0) λp=>(c 91 [a1,p]).bind λo=>qP a0 [3] λm=>(D.cut m 1 (m.length)).bind λn=>(qZ lp (λv9=>qC .lss (gx v9 0) (Jn (n.length)) λb=>if b then((qI (gx v9 0) n λj=>(c 91 [a1,j]).bind λa=>(c 90 [a,(gx v9 1)]).bind λe=>qC .gtr e (Jn 0) λd=>if d then(some (0,[a])) else(some (0,[(gx v9 1)]))).bind λ(f:Nat×List D)=>qB .add (gx v9 0) (Jn 1) λk=>iL [k,(gx f.2 0)]) else(iR (0,[(gx v9 1)]))) [(Jn 0),o]).bind λg=>qG a0 [2] λl=>(c 54 [l]).bind λh=>(c 62 [(gx g.2 0),h]).bind λi=>some i
def Wr:ae 435 (m2 (LU lp)):=aR 0 Tryz.f48 Uz a
def UA:Ann:=(.tl (.two (.tl (.two (.loop ⟨[(2,.sp cr 4098),(3,.sp cr 4099),(4,.sp cr 4100),(6,.di)],[(4098,.one cr (.dv cr)),(4099,.keep cr 3),(4100,.keep cr 4)],[]⟩ [(.exit 0,⟨[(2,.sp cr 4098),(4,.sp cr 4100)],[(4098,.one cr (.dv cr)),(4100,.keep cr 4)],[]⟩)] (.tl (.tl (.two (.two (.tl (.reg [] 9)) .leaf) .leaf)))) .leaf)) .leaf))
def LV(lp:Lp)(c:Ca)(a0 a1:D):Option D:=(qZ lp (λv1=>qC .lss (gx v1 0) (Jn 3) λe=>if e then(qJ (gx v1 0) 3 (gx v1 1) λg=>qJ (gx v1 0) 3 a1 λh=>(c 336 [g,h]).bind λf=>(D.idx (gx v1 0) 3).bind λi9=>(D.set (gx v1 1) [i9] f).bind λb=>qB .add (gx v1 0) (Jn 1) λd=>iL [d,b]) else(iR (0,[(gx v1 1)]))) [(Jn 0),a0]).bind λa=>some (gx a.2 0)
def Ws:ae 440 (m2 (LV lp)):=aR 0 Tryz.f61 UA a
def UB:Ann:=let a:LO:=[(4098,.keep bI 2),(4099,.keep bI 3),(8197,.one AG (.ow cr))];let b:LS:=[(2,.sp bI 4098),(3,.sp bI 4099),(5,.sp AG 8197),(6,.same (.clo 137 [(.ptr bI 4098 []),(.ptr bI 4099 []),(.ptr AG 8197 [])]))];let c:LO:=[(4098,.keep bI 2),(4099,.keep bI 3),(8197,.one AG (.ow cr)),(45067,.keep cr 11),(49164,.keep cr 12)];(.tl (.tl (.tl (.two (.tl (.two (.loop ⟨[(2,.sp bI 4098),(3,.sp bI 4099),(5,.sp AG 8197),(6,.same (.clo 137 [(.ptr bI 4098 []),(.ptr bI 4099 []),(.ptr AG 8197 [])])),(23,.di)],a,[22]⟩ [(.exit 0,⟨b,a,[]⟩)] (.tl (.tl (.two (.two (.tl (.regI [] 5 .leaf)) .leaf) .leaf)))) .leaf)) (.tl (.two (.tl (.two (.loop ⟨[(2,.sp bI 4098),(3,.sp bI 4099),(5,.sp AG 8197),(6,.same (.clo 137 [(.ptr bI 4098 []),(.ptr bI 4099 []),(.ptr AG 8197 [])])),(39,.di)],a,[8,37,38]⟩ [(.exit 2,⟨[(5,.sp AG 8197)],[(8197,.one AG (.ow cr))],[]⟩)] (.tl (.tl (.two (.two (.tl (.tl (.two (.reg [] 7) (.tl (.two (.loop ⟨[(2,.sp bI 4098),(3,.sp bI 4099),(5,.sp AG 8197),(6,.same (.clo 137 [(.ptr bI 4098 []),(.ptr bI 4099 []),(.ptr AG 8197 [])])),(11,.sp cr 45067),(12,.sp cr 49164),(55,.di)],c,[8,37,38,39,53,54]⟩ [(.exit 4,⟨b,a,[8,37,38,39]⟩)] (.tl (.tl (.cut [(.normal,⟨[(2,.sp bI 4098),(3,.sp bI 4099),(5,.sp AG 8197),(6,.same (.clo 137 [(.ptr bI 4098 []),(.ptr bI 4099 []),(.ptr AG 8197 [])])),(11,.sp cr 45067),(12,.sp cr 49164)],c,[8,37,38,39,53,54,55]⟩)] [8,37,38,39,53,54,55] [4098,4099,45067,49164] (.two (.tl (.tl (.tl (.tl (.two (.reg [] 16) (.tl (.tl (.two (.regI [] 6 .leaf) .leaf)))))))) .leaf) .leaf)))) .leaf))))) .leaf) .leaf)))) .leaf)) .leaf))))))
def LW(lp:Lp)(c:Ca)(a0 a1:D):Option D:=(qP a0 [3] λl2=>(qZ lp (λv3=>qC .lss (gx v3 0) (Jn (l2.length)) λb5=>if b5 then((c 454 [a0,(gx v3 0)]).bind λm=>qG a0 [0] λx7=>qG a0 [1] λx8=>(c 423 [x7,x8,m]).bind λr9=>qC .geq r9 (Jn 0) λn=>(if n then(qG a1 [0] λU=>qG a1 [1] λV=>(c 423 [U,V,m]).bind λB=>qB .geq B (Jn 0) λW=>D.truth W) else(some false)).bind λo=>qT (D.bool o) λp=>if p then(if List.length (qV v3 1)+List.length [m]<=1073741824 then(qB .add (gx v3 0) (Jn 1) λX=>iL [X,(D.sl ((qV v3 1)++[m]))]) else none) else(qB .add (gx v3 0) (Jn 1) λY=>iL [Y,(qW v3 1)])) else(iR (0,[(qW v3 1)]))) [(Jn 0),(D.sl [])]).bind λC=>qG a1 [1] λZ=>(c 18 [Z]).bind λf=>qG a0 [1] λad=>(c 21 [ad]).bind λg=>qS g λz=>(qZ lp (λv26=>qC .lss (gx v26 0) (Jn (z.length)) λq=>if q then(qX g (gx v26 0) λk=>qG k [0] λai=>(c 454 [a0,ai]).bind λd=>qG k [1] λaj=>(c 454 [a0,aj]).bind λE=>(c 440 [E,d]).bind λh=>qS f λA=>(qZ lp (λa=>qC .lss (gx a 0) (Jn (A.length)) λr=>if r then((qX f (gx a 0) λl=>qG a1 [0,1] λak=>qG l [0] λal=>(c 386 [ak,al]).bind λi=>(c 72 [i,h]).bind λj=>(c 342 [j]).bind λF=>qT (D.bool (D.beq F (Jn 0))) λs=>if s then(some (0,[(qW a 1)])) else(qG a1 [2] λan=>qG l [1] λax=>qB .mul an ax λaB=>(c 74 [aB]).bind λG=>qG a1 [0,0] λaI=>(c 135 [aI]).bind λH=>(c 440 [d,H]).bind λI=>(c 72 [i,I]).bind λJ=>(c 336 [G,J]).bind λK=>(c 352 [K,j]).bind λe=>(c 342 [e]).bind λL=>qC .gtr L (Jn 0) λt=>(if t then((c 74 [(Jn 1)]).bind λM=>(c 73 [e,M]).bind λN=>qB .lss N (Jn 0) λa2=>D.truth a2) else(some false)).bind λu=>qT (D.bool u) λv=>if v then((c 445 [e,h]).bind λO=>(c 371 [d,O]).bind λb=>qG a0 [0] λa3=>qG a0 [1] λa4=>(c 423 [a3,a4,b]).bind λP=>qC .geq P (Jn 0) λw=>(if w then(qG a1 [0] λa5=>qG a1 [1] λa6=>(c 423 [a5,a6,b]).bind λQ=>qB .geq Q (Jn 0) λa7=>D.truth a7) else(some false)).bind λx=>qT (D.bool x) λy=>if y then(if List.length (qV a 1)+List.length [b]<=1073741824 then(some (0,[(D.sl ((qV a 1)++[b]))])) else none) else(some (0,[(qW a 1)]))) else(some (0,[(qW a 1)])))).bind λ(R:Nat×List D)=>qB .add (gx a 0) (Jn 1) λa9=>iL [a9,(qW R.2 0)]) else(iR (0,[(qW a 1)]))) [(Jn 0),(qW v26 1)]).bind λS=>qB .add (gx v26 0) (Jn 1) λbi=>iL [bi,(qW S.2 0)]) else(iR (0,[(qW v26 1)]))) [(Jn 0),(qW C.2 0)]).bind λT=>some (qV T.2 0)).bind λl0=>some (D.sl l0)
def Wt:ae 443 (m2 (LW lp)):=aR 0 Tryz.f73 UB a
def UC:Ann:=(.tl (.tl (.tl (.two (.reg [] 6) (.two (.reg [] 8) (.tl (.two (.reg [] 2) .leaf)))))))
def LX(lp:Lp)(c:Ca)(a0 a1:D):Option D:=(c 136 [a0]).bind λr1=>qN r1 λx=>(if x then(some true) else(qB .lss a1 (Jn 0) λC=>D.truth C)).bind λy=>qT (D.bool y) λz=>(if z then(some true) else(qB .gtr a1 (Jn 256) λE=>D.truth E)).bind λA=>qT (D.bool A) λB=>if B then((c 130 []).bind λi=>(c 130 []).bind λj=>some (D.tup [i,j])) else(qG a0 [0] λt=>(c 455 [t,a1]).bind λa=>(c 169 []).bind λk=>(c 455 [k,a1]).bind λb=>qG a0 [1] λu=>(c 132 [a,u]).bind λl=>(c 62 [l,b]).bind λd=>(c 68 [a]).bind λm=>qG a0 [1] λv=>(c 132 [m,v]).bind λn=>(c 68 [n]).bind λo=>(c 62 [o,b]).bind λe=>(c 136 [d]).bind λp=>qN p λf=>(if f then(some true) else((c 136 [e]).bind λq=>(abU .not q).bind λw=>D.truth w)).bind λg=>qT (D.bool g) λh=>if h then((c 130 []).bind λr=>(c 130 []).bind λs=>some (D.tup [r,s])) else(some (D.tup [d,e])))
def Wu:ae 444 (m2 (LX lp)):=aR 0 Tryz.f74 UC a
def UD:Ann:=(.tl (.two (.tl (.two (.loop ⟨[(2,.sp cd 4098),(3,.sp cr 4099),(4,.sp cr 4100),(6,.di)],[(4098,.keep cd 2),(4099,.one cr (.dv cr)),(4100,.keep cr 4)],[]⟩ [(.exit 0,⟨[(3,.sp cr 4099),(4,.sp cr 4100)],[(4099,.one cr (.dv cr)),(4100,.keep cr 4)],[]⟩)] (.tl (.tl (.two (.two (.tl (.reg [] 7)) .leaf) .leaf)))) .leaf)) .leaf))
def LY(lp:Lp)(c:Ca)(a0 a1:D):Option D:=(qZ lp (λv1=>qC .lss (gx v1 0) (Jn 3) λb=>if b then(qJ (gx v1 0) 3 (gx v1 1) λe=>(c 174 [a0,e]).bind λd=>(D.idx (gx v1 0) 3).bind λi7=>(D.set (gx v1 1) [i7] d).bind λf=>qB .add (gx v1 0) (Jn 1) λg=>iL [g,f]) else(iR (0,[(gx v1 1)]))) [(Jn 0),a1]).bind λa=>some (gx a.2 0)
def Wv:ae 445 (m2 (LY lp)):=aR 0 Tryz.f76 UD a
end
end Sy
end
set_option maxHeartbeats 0
noncomputable section
namespace Sy
open Go Go.Proofs
section
variable{lp}(a:av lp)
def UE:Ann:=let a:LO:=[(4097,.keep ii 1),(4098,.keep K1 2),(8196,.one aQ (.dv aQ))];(.tl (.tl (.two (.tl (.two (.loop ⟨[(1,.sp ii 4097),(2,.sp K1 4098),(4,.sp aQ 8196),(14,.di)],a,[13]⟩ [(.exit 0,⟨[(1,.sp ii 4097),(2,.sp K1 4098),(4,.sp aQ 8196)],a,[]⟩)] .leaf) .leaf)) (.tl (.tl (.two (.tl (.two (.loop ⟨[(2,.sp K1 4098),(4,.sp aQ 8196),(7,.sp K1 28679),(31,.di)],[(4098,.one K1 (.dv K1)),(8196,.keep aQ 4),(28679,.one K1 (.dv K1))],[30]⟩ [(.ret,⟨[(2,.sp K1 4098),(3,.di)],[(4098,.one K1 (.dv K1))],[]⟩),(.exit 3,⟨[(2,.sp K1 4098),(7,.sp K1 28679)],[(4098,.one K1 (.dv K1)),(28679,.one K1 (.dv K1))],[]⟩)] .leaf) .leaf)) .leaf))))))
def LZ(lp:Lp)(c:Ca)(a0:D):Option D:=(c 54 [(Jn 0)]).bind λr1=>(qZ lp (λv2=>qC .lss (gx v2 0) (Jn 3) λx=>if x then((D.idx (gx v2 0) 3).bind λi5=>(D.fld a0 i5).bind λz=>(c 131 [(gx v2 1),z]).bind λy=>qB .add (gx v2 0) (Jn 1) λA=>iL [A,y]) else(iR (0,[(gx v2 1)]))) [(Jn 0),r1]).bind λp=>qG (gx p.2 0) [0] λq=>qT q λf=>if f then(some (D.tup [(D.st [(Jn 0),(Jn 0),(Jn 0)]),(Jn 30)])) else((c 129 [(gx p.2 0)]).bind λn=>qT (D.bool (D.beq n (Jn 0))) λg=>if g then(some (D.tup [(D.st [(Jn 0),(Jn 0),(Jn 0)]),(Jn 31)])) else((qZ lp (λa=>qC .lss (gx a 0) (Jn 3) λh=>if h then((D.idx (gx a 0) 3).bind λi17=>(D.fld a0 i17).bind λr=>(c 132 [r,(gx p.2 0)]).bind λo=>(c 202 [o]).bind λe=>(D.tupAt e 0).bind λd=>(D.tupAt e 1).bind λs=>qN s λi=>(if i then(some true) else(qB .geq d (Jn 2305843009213693952) λt=>D.truth t)).bind λj=>qT (D.bool j) λk=>(if k then(some true) else(qB .leq d (Jn (-2305843009213693952)) λu=>D.truth u)).bind λl=>qT (D.bool l) λm=>if m then(iR (0,[(Jn 30),(D.st [(Jn 0),(Jn 0),(Jn 0)])])) else((D.idx (gx a 0) 3).bind λi31=>(D.set (gx a 2) [i31] d).bind λv=>qB .add (gx a 0) (Jn 1) λw=>iL [w,(gx a 1),v])) else(iR (1,[(gx a 1),(gx a 2)]))) [(Jn 0),(D.st [(Jn 0),(Jn 0),(Jn 0)]),(D.st [(Jn 0),(Jn 0),(Jn 0)])]).bind λb=>if b.1=0 then(some (D.tup [(gx b.2 1),(gx b.2 0)])) else(some (D.tup [(gx b.2 1),(Jn 0)]))))
def Ww:ae 447 (m1 (LZ lp)):=bD 0 Tryz.f101 UE a
def UF:Ann:=(.tl (.two (.reg [] 10) .leaf))
def L4(lp:Lp)(c:Ca)(a0:D):Option D:=qG a0 [0] λe=>(c 54 [e]).bind λa=>qG a0 [1] λf=>(c 54 [f]).bind λb=>qG a0 [2] λg=>(c 54 [g]).bind λd=>some (D.st [a,b,d])
def Wx:ae 448 (m1 (L4 lp)):=bD 0 Tryz.f102 UF a
def UG:Ann:=(.tl (.tl (.two (.tl (.two (.loop ⟨[(1,.sp bI 4097),(3,.ow K1),(10,.di)],[(4097,.keep bI 1)],[8,9]⟩ [(.exit 0,⟨[(3,.ow K1)],[],[]⟩)] (.tl (.tl (.two (.two (.tl (.reg [] 21)) .leaf) .leaf)))) .leaf)) .leaf)))
def L5(lp:Lp)(c:Ca)(a0:D):Option D:=qG a0 [1] λq=>(c 21 [q]).bind λm=>qS m λp=>(qZ lp (λv4=>qC .lss (gx v4 1) (Jn (p.length)) λo=>if o then(qX m (gx v4 1) λn=>qG a0 [0,1] λe=>qG a0 [1,0] λf=>qG n [1] λg=>qX f g λh=>qG a0 [1,0] λi=>qG n [0] λj=>qX i j λk=>(c 103 [h,k]).bind λb=>(c 386 [e,b]).bind λa=>if List.length (qV v4 0)+List.length [a]<=1073741824 then(qB .add (gx v4 1) (Jn 1) λl=>iL [(D.sl ((qV v4 0)++[a])),l]) else none) else(iR (0,[(qW v4 0)]))) [(D.sl []),(Jn 0)]).bind λd=>some (qW d.2 0)
def Wy:ae 449 (m1 (L5 lp)):=bD 0 Tryz.f103 UG a
def UH:Ann:=(.tl (.two (.reg [] 5) .leaf))
def L6(lp:Lp)(c:Ca)(a0 a1:D):Option D:=(c 148 [a0]).bind λr1=>(c 148 [a1]).bind λa=>(c 456 [r1,a]).bind λb=>some b
def Wz:ae 450 (m2 (L6 lp)):=aR 0 Tryz.f104 UH a
def UI:Ann:=(.tl (.two (.tl (.two (.loop ⟨[(2,.sp bI 4098),(4,.sp cr 4100),(12,.di)],[(4098,.keep bI 2),(4100,.one cr (.dv cr))],[11]⟩ [(.exit 0,⟨[(4,.sp cr 4100)],[(4100,.one cr (.dv cr))],[]⟩)] .leaf) .leaf)) .leaf))
def L7(lp:Lp)(c:Ca)(a0 a1:D):Option D:=qY a0 [3] a1 λh=>(qZ lp (λv5=>qC .lss (gx v5 0) (Jn 3) λg=>if g then((D.idx (gx v5 0) 3).bind λi8=>(D.fld h i8).bind λi=>qG a0 [2] λd=>(c 333 [i,d]).bind λa=>(D.idx (gx v5 0) 3).bind λAI=>(D.set (gx v5 1) [AI] a).bind λe=>qB .add (gx v5 0) (Jn 1) λf=>iL [f,e]) else(iR (0,[(gx v5 1)]))) [(Jn 0),(D.st [(D.st [(D.st [(D.bool false),(D.bool false),(aq aP)]),(D.st [(D.bool false),(D.bool false),(aq aP)])]),(D.st [(D.st [(D.bool false),(D.bool false),(aq aP)]),(D.st [(D.bool false),(D.bool false),(aq aP)])]),(D.st [(D.st [(D.bool false),(D.bool false),(aq aP)]),(D.st [(D.bool false),(D.bool false),(aq aP)])])])]).bind λb=>some (gx b.2 0)
def WA:ae 454 (m2 (L7 lp)):=aR 0 Tryz.f138 UI a
def QA:Ann:=(.tl (.tl (.tl (.tl (.two (.tl (.two (.two (.reg [] 4) .leaf) .leaf)) (.two (.reg [] 5) .leaf))))))
def WB:ae 455 (F9 0 lp 455 Tryz.f140 QA):=qc a u3 u3
def UJ:Ann:=(.tl (.two (.tl (.two (.loop ⟨[(2,.sp ii 4098),(3,.sp ii 4099),(4,.sp ii 4100),(8,.di)],[(4098,.keep ii 2),(4099,.keep ii 3),(4100,.one ii (.dv ii))],[]⟩ [(.exit 0,⟨[(4,.sp ii 4100)],[(4100,.one ii (.dv ii))],[]⟩)] (.tl (.tl (.two (.two (.tl (.tl (.reg [] 17))) .leaf) .leaf)))) .leaf)) .leaf))
def L8(lp:Lp)(c:Ca)(a0 a1:D):Option D:=(qZ lp (λv1=>qC .lss (gx v1 0) (Jn 3) λm=>if m then(qB .add (gx v1 0) (Jn 1) λn=>qB .rem n (Jn 3) λk=>qB .add (gx v1 0) (Jn 2) λo=>qB .rem o (Jn 3) λl=>qJ k 3 a0 λp=>qJ l 3 a1 λf=>(c 61 [p,f]).bind λa=>qJ l 3 a0 λg=>qJ k 3 a1 λh=>(c 61 [g,h]).bind λb=>(c 203 [a,b]).bind λd=>(D.idx (gx v1 0) 3).bind λi19=>(D.set (gx v1 1) [i19] d).bind λi=>qB .add (gx v1 0) (Jn 1) λj=>iL [j,i]) else(iR (0,[(gx v1 1)]))) [(Jn 0),(D.st [(D.st [(D.bool false),(D.bool false),(aq aP)]),(D.st [(D.bool false),(D.bool false),(aq aP)]),(D.st [(D.bool false),(D.bool false),(aq aP)])])]).bind λe=>some (gx e.2 0)
def WC:ae 456 (m2 (L8 lp)):=aR 0 Tryz.f162 UJ a
def UK:Ann:=(.tl (.tl (.two (.tl (.two (.two (.reg [] 3) .leaf) .leaf)) .leaf)))
def QN(lp:Lp)(c:Ca)(a0 a1 a2:D):Option D:=qG a0 [1] λm=>(c 116 [m,a1]).bind λh=>qG a0 [1] λn=>qT n λi=>(if i then(qS a2 λk=>qT (D.bool (D.beq (Jn (k.length)) (Jn 0))) λj=>if j then(some true) else(qG a0 [2] λo=>(c 458 [o]).bind λl=>qX a2 (Jn 0) λf=>qB .lss l f λg=>D.truth g)) else(some false)).bind λa=>qT (D.bool a) λb=>if b then((c 54 [(Jn 1)]).bind λd=>(c 203 [h,d]).bind λe=>some e) else(some h)
def WD:ae 457 (m3 (QN lp)):=qb 0 Tryz.f193 UK a
def UL:Ann:=(.tl (.tl (.two (.two (.loop ⟨[(1,.sp aP 4097),(3,.di)],[(4097,.keep aP 1)],[]⟩ [(.exit 0,⟨[(1,.sp aP 4097),(3,.di)],[(4097,.keep aP 1)],[]⟩)] .leaf) .leaf) .leaf)))
def QO(lp:Lp)(c:Ca)(a0:D):Option D:=(qZ lp (λv1=>qJ (gx v1 0) 16 a0 λf=>qT (D.bool (D.beq f (D.int .u32 0))) λe=>if e then(qB .add (gx v1 0) (Jn 1) λg=>iL [g]) else(iR (0,[(gx v1 0)]))) [(Jn 0)]).bind λd=>qB .mul (Jn 32) (gx d.2 0) λh=>qJ (gx d.2 0) 16 a0 λi=>(c 459 [i]).bind λa=>qB .add h a λb=>some b
def WE:ae 458 (m1 (QO lp)):=bD 0 Tryz.f220 UL a
def QP(lp:Lp)(c:Ca)(a0:D):Option D:=qT (D.bool (D.beq a0 (D.int .u32 0))) λa=>if a then(some (Jn 32)) else((abU .neg a0).bind λb=>qB .and a0 b λd=>qB .mul d (D.int .u32 125613361) λe=>qB .shr e (D.int .u64 27) λf=>none)
def WF:ae 459 (m1 (QP lp)):=bD 0 Tryz.f241 .leaf a
end
end Sy
end
end
noncomputable section
namespace Sy
open Go Go.Proofs Go.Sort Go.Lib
variable{ro:Option Nat}{nn:Nat}
inductive AnnT where
 | hand
 | seq (a:Ann) (b:AnnT)
def Pw(E:Env)(K:St->Option D):Code->AnnT->St->Option D
 | .seq c d,.seq a b,s=>ev E c a D s λe s'=>match e with
  | .normal=>Pw E K d b s'
  | _=>none
 | _,.hand,s=>K s
 | _,_,_=>none
def tA:Code->AnnT->Code
 | .seq _ d,.seq _ b=>tA d b
 | c,_=>c
def u9(fn:Func)(a:List Ty)(args:List D):St:={ tm:=jF a args,ob:=λ_=>none,fresh:=0,dead:=[],nt:=fn.ntmps,lkS:=[],lkO:=[4095] }
def MP(E:Env)(K:St->Option D)(fn:Func)(ann:AnnT)(a:List Ty)(args:List D):Option D:=
 match fn.body with
 | none=>none
 | some c=>Pw E K c ann (u9 fn a args)
section
variable{P:Program}{E:Env}{w0:Root}
def Fm.df0{s:St}{S S':Nat->Nat->Prop}{γ γ':Nat->Option Nat}{a a':Act}{w w':World}(h:Fm s S γ a w S' γ' a' w')(b:4095∈s.lkO)(c:a.defers=[]):a'.defers=[]:=by obtain⟨_,m,e,_,z⟩:=h.dfs;rw[e,z b,c];rfl
def km.eq{w w':World}{b:Nat}{o:Obj}(h:km w w' b)(a:w.heap[b]?=some o)(hl:∀ r,o≠.loop r):w'.heap[b]?=some o:=by
 rcases h with h|⟨r,_,h1,_⟩
 ·exact h.trans a
 ·rw[a] at h1;cases h1;exact z3a rfl (hl r)
def Px(m:EnvOk P E){K:St->Option D}{Q:Exit->Act->World->Prop}{y:D}:∀ (c:Code) (ann:AnnT) {S:Nat->Nat->Prop} {γ:Nat->Option Nat} {β:Nat->Option (Nat×Nat)} {s:St} {a:Act} {w:World},
  Rp w0 S γ β s a w->a.defers=[]->4095∈s.lkO->Pw E K c ann s=some y->(∀ s' S' γ' β' a' w',Rp w0 S' γ' β' s' a' w'->a'.defers=[]->K s'=some y->(tA c ann).wpIn (FW none) nn P Q a' w')->c.wpIn (FW none) nn P Q a w:=by
 intro c
 induction c with
 | seq c d _ ih=>
  intro ann S γ β s a w h j k f g;cases ann with
  | hand=>exact g s S γ β a w h j (by simpa only[Pw] using f)
  | seq a1 b=>
   simp only[Pw] at f;refine wpIn_seq (ID m c a1 D _ y h f λe s' S' γ' β' a' w' n1 n2 n l=>?_);cases e with
   | normal=>exact ih b n1 (n2.df0 k j) (by rw[n.lkO];exact k) l g
   | ret=>cases l
   | exit i=>cases l
 | _=>
  intro ann S γ β s a w h j k f g;cases ann with
  | hand=>exact g s S γ β a w h j (by simpa only[Pw] using f)
  | seq a1 b=>simp[Pw] at f
def dQ(s:St)(e:Ty)(x:Nat):Option (List D):=match s.tm x with
 | .own a v l=>if a.beq e&&!(s.dead.contains v)&&decide (l.length<=1073741824) then some l else none
 | .nils=>some []
 | _=>none
def P4(s:St)(x:Nat)(e:Ty)(l:List D):St:={ tm:=λi=>if i=x then .d (.sl e) (.sl l) else .undef,ob:=λ_=>none,fresh:=s.fresh+1,dead:=[],nt:=s.nt,lkS:=[],lkO:=[4095] }
def Hl{w:World}{S:Nat->Nat->Prop}{l:List D}{a:Option Addr}{n cap:Nat}(h:CR w S (.sl l) (.slice a n cap)):gE w S (.sl l) (.slice a n cap):=by
 refine⟨λcs h=>(by cases h),rfl,λi d c b hc=>?_⟩
 cases i with
 | zero=>simp only[D.flat,zWb,zda,Value.cells] at b hc;subst b;first|(subst hc;exact h)|(simp at hc;subst hc;exact h)
 | succ i=>simp[D.flat] at b
theorem nU{e:Ty}(hc:bV e=true):∀ l:List D,(∀ x∈l,wt e x)->∀ d∈abM l,td d=true
 | [],_,d,a=>by simp[abM] at a
 | y::l,h,d,a=>by
  simp only[abM,List.mem_append] at a;rcases a with a|a
  ·exact kU e y hc (h y zsa) d a
  ·exact nU hc l (λz b=>h z (zoa _ b)) d a
def Rp.new{S S':Nat->Nat->Prop}{γ:Nat->Option Nat}{β:Nat->Option (Nat×Nat)}{s:St}{a a':Act}{w w':World}(h:Rp w0 S γ β s a w)(he:mG w0 w'){x:Nat}{e:Ty}{l:List D}(hn:am e=true)(hx:x<s.nt)(j:∀ y∈l,wt e y)
  (n:gE w' S' (.sl l) (a'.tmps.getD x undef)) (i:a'.tmps.size=s.nt) (k:a'.defers=[]) (f:∀ b o,S' b o->b<w'.heap.size) (g:∀ b o,S' b o->w0.Old b->w0.S0 b o):Rp w0 S' (λ_=>none) (λ_=>none) (P4 s x e l) a' w':=by
 refine⟨he,λt ht=>?_,i,λt ht=>?_,λid o b m=>(by cases m),λid b c=>(by cases c),λid p b c=>(by cases c),λ_ _=>rfl,λv b e _ c=>(by cases c),λv v' b e q _ _ c=>(by cases c),λv id b e _ c=>(by cases c),λ_ _=>rfl,f,g⟩
 ·show AR _ (if t=x then AV.d (.sl e) (.sl l) else .undef) (a'.tmps.getD t undef)
  by_cases htx:t=x
  ·rw[zna htx];subst htx;exact .inl ⟨by simp only[am];exact hn,⟨l,rfl,j⟩,n⟩
  ·rw[zka htx];simp only[AR]
 ·show(if t=x then AV.d (.sl e) (.sl l) else .undef)=_
  rw[zka (λh=>by subst h;exact z3a hx (zCc.2 ht))]
def NK(hE:EnvOk P E){f:Nat}{e:Ty}(hf:SortOk P f e){g:Nat}(hsig:E.sig g=some ([e,e],.int .i64)/\E.free g=0){id x t d2:Nat}{ops:Array Oper}{ty1 ty2:TypeId}{p1 p2:String}{af1 af2:Array Edge}{args:Array Operand}{ats:Array TypeId}
  (hops:ops.toList=[⟨some t,.move (.tmp x),ty1,p1,af1,none⟩,⟨some d2,.call ⟨.value (.func f),args,ats⟩,ty2,p2,af2,none⟩]) (hargs:args=#[.tmp t,.func g]) {Q:Exit->Act->World->Prop}
  {S:Nat->Nat->Prop} {γ:Nat->Option Nat} {β:Nat->Option (Nat×Nat)} {s:St} {a:Act} {w:World} (h:Rp w0 S γ β s a w) (hdf:a.defers=[]) (hxt:x≠t) (hxd:x≠d2) (ht:t<s.nt) {l l':List D} (hv:dQ s e x=some l) (hs:ki E g l=some l')
  (hQ:∀ a' w' S',Rp w0 S' (λ_=>none) (λ_=>none) (P4 s x e l') a' w'->a'.defers=[]->Q .normal a' w'):(Code.region id ops false).wpIn (FW ro) nn P Q a w:=by
 have hx:x<s.nt:=by
  rcases zxa x s.nt with k|k
  ·exact k
  ·unfold dQ at hv;rw[h.tmu x k] at hv;cases hv
 have hax:AR ⟨w,S,γ,β,s.ob,s.dead⟩ (s.tm x) (a.tmps.getD x undef):=h.tms x (by rw[h.nt];exact hx)
 obtain⟨ad,cap,val,hwt,hcr,hown⟩:∃ ad cap,a.tmps.getD x undef=.slice ad l.length cap/\(∀ y∈l,wt e y)/\CR w S (.sl l) (.slice ad l.length cap)/\(l≠[]->∃ b off row,ad=some ⟨b,off,none⟩/\bO w b=some row/\¬ w0.Old b/\b<w.heap.size)/\l.length<=1073741824:=by
  unfold dQ at hv;split at hv
  ·rename_i e' v l0 htm;split at hv
   ·rename_i hb;simp only[zaa,zTa,zfa] at hb;obtain⟨⟨hb1,hb2⟩,hb3⟩:=hb;cases hv;have:=aco _ _ hb1;subst this;rw[htm] at hax;simp only[AR,AC] at hax;obtain⟨n0,n1,n2,ad,cap,n3,n4,n5⟩:=hax;have hval:=ar n0 n3;have hdead:v ∉ s.dead:=by simpa using hb2
    refine⟨ad,cap,hval,n2,n4,λhne=>?_,hb3⟩;rcases n5 hdead with⟨q1,q2⟩|⟨b,off,q1,q2,n,q3,q4⟩
    ·exfalso;obtain⟨_,_,b,off,e1,e2,e3,e4⟩:=n4.elems;cases e1;rcases e2 with e2|e2
     ·exact hne e2
     ·rw[q1] at e2;cases e2
    ·obtain⟨k1,k2,_⟩:=h.βn v b _ hdead q2;unfold nk at q3;cases hr:bO w b with
     | none=>rw[hr] at q3;cases q3
     | some row=>exact⟨b,off,row,q1,hr,k1,k2⟩
   ·cases hv
  ·rename_i htm;cases hv;rw[htm] at hax;simp only[AR,AC] at hax;have hval:=ar hax.1 hax.2;exact⟨none,0,hval,j3,abC (b:=0) (off:=0) (.inl rfl) (zia _) ⟨[],c8.nil,j3⟩,λh=>z3a rfl h,j3⟩
  ·cases hv
 obtain⟨hown,hlen⟩:=hown;have hperm:l'.Perm l:=by
  unfold ki at hs;split at hs
  ·cases hs;exact gW _ l
  ·cases hs
 have hll:l'.length=l.length:=hperm.length_eq;have hwt':∀ y∈l',wt e y:=λy hy=>hwt y (hperm.subset hy);refine wpIn_region_list ?_;rw[hops];simp only[wpListIn,Region.wanted,if_true];refine(bC (K:=λv w1=>v=a.tmps.getD x undef/\w=w1) (eY.value (v:=a.eval (.tmp x)) (w':=w) rfl ⟨rfl,rfl⟩) ?_);rintro _ _ ⟨rfl,rfl⟩;have hsz:(a.put (some t) (a.tmps.getD x undef)).tmps.size=s.nt:=by simp[Act.put,h.nt]
 have ht1:(a.put (some t) (a.tmps.getD x undef)).eval (.tmp t)=a.tmps.getD x undef:=by
  have:t<a.tmps.size:=by rw[h.nt];exact ht
  simp[Act.eval,Act.put,Array.getD,this]
 have hx1:(a.put (some t) (a.tmps.getD x undef)).tmps.getD x undef=a.tmps.getD x undef:=by exact co (λe=>hxt (by cases e;rfl))
 have hdf1:(a.put (some t) (a.tmps.getD x undef)).defers=[]:=hdf;generalize (a.put (some t) (a.tmps.getD x undef))=a1 at *;refine(bC (K:=λv w1=>∃ S',mG w0 w1/\gE w1 S' (.sl l') (a.tmps.getD x undef)/\(∀ b o,S' b o->b<w1.heap.size)/\(∀ b o,S' b o->w0.Old b->w0.S0 b o)) ?_ ?_)
 ·obtain⟨fn,f1,f2,f3⟩:=hf.fn;refine eY.enter (f:=f) (args:=#[.slice ad l.length cap,.func (.func g) #[] #[]]) (w':=w) ?_ ?_
  ·have hb:¬ fn.body=none:=by intro hh;rw[hh] at f3;cases f3
   have f2' : ¬ fn.name = "runtime.NumGoroutine" := by simpa using f2
   have e1:a1.eval (.tmp t)=.slice ad l.length cap:=by rw[ht1,val]
   subst hargs;have e2:a1.eval (.func g)=.func (.func g) #[] #[]:=rfl;simp[execOp,resolve,Deferred.ofValue,invoke,callFunc,f1,f2',hb,e1,e2];simp[Act.eval,f1,f2',hb]
  ·by_cases hne:l=[]
   ·subst hne;have e0:l'=[]:=by cases l' with|nil=>rfl|cons y l'=>simp at hll
    subst e0;refine(hf.empty ad cap _ w).mono ?_;rintro en w1 ⟨rfl,rfl⟩;exact⟨_,rfl,S,h.ext,by rw[val];exact Hl hcr,h.Sb,h.So⟩
   ·obtain⟨b,off,row,rfl,hr,hold,hbs⟩:=hown hne;have hcell:∀ (i:Nat) (d:D),(abM l)[i]?=some d->w.cell? ⟨b,off+i,none⟩=some (gh d):=by
     obtain⟨_,_,b',off',e1,e2,e3,cs,e4,e5⟩:=hcr.elems;cases e1;rcases e2 with e2|e2
     ·exact z3a e2 hne
     ·cases e2;have hleaf:=nU hf.cmp l hwt;have:=(gk hleaf).1 e4;subst this;intro i d hd;exact(e5 i (gh d) (by rw[zhb,hd];rfl)).2
    refine(GU hE hf hsig hwt hs hne (b:=b) (off:=off) (cap:=cap) hr hcell j1).mono ?_
    rintro en w1 ⟨rfl,_,q1,q2,q3,q4,q5,q6,q7⟩;refine⟨_,rfl,λb' o=>(S b' o/\b'≠b)\/(b'=b/\off<=o/\o<off+(abM l').length),?_,?_,?_,?_⟩
    ·refine oS h.ext q2 q3 q4 q5 q1 λb' hb'=>q6 b' (λe=>hold (e ▸ hb')) (znb hb'.1 h.ext.sz)
    ·rw[val];refine Hl ?_;rw[<-hll];refine abC (b:=b) (off:=off) (.inr rfl) (by obtain⟨_,_,_,_,e1,_,e3,_⟩:=hcr.elems;cases e1;rw[hll];exact e3) ⟨(abM l').map gh,?_,λi c hc=>?_⟩
     ·exact(gk (nU hf.cmp l' hwt')).2 rfl
     ·rw[zhb] at hc;cases hd:(abM l')[i]? with
      | none=>rw[hd] at hc;cases hc
      | some d=> rw[hd] at hc;simp only[zIb,zda] at hc;subst hc;exact⟨.inr ⟨rfl,j1,by have:=(zqa.1 hd).1;omega⟩,q7 i d hd⟩
    ·rintro b' o (⟨hb',_⟩|⟨rfl,_,_⟩)
     ·exact znb (h.Sb b' o hb') q5
     ·exact znb hbs q5
    ·rintro b' o (⟨hb',_⟩|⟨rfl,_,_⟩) ho
     ·exact h.So b' o hb' ho
     ·exact z3a ho hold
 ·rintro v w1 ⟨S',k1,k2,k3,k4⟩;refine hQ _ w1 S' (Rp.new h k1 hf.nt hx hwt' ?_ (by simp[Act.put,hsz]) hdf1 k3 k4) hdf1
  have:(a1.put (some d2) v).tmps.getD x undef=a.tmps.getD x undef:=by rw[<-hx1];exact co (λe=>hxd (by cases e;rfl))
  rw[this];exact k2
end
end Sy
end
noncomputable section
namespace Sy
open Go Go.Proofs Go.Sort Go.Lib
variable{ro:Option Nat}{nn:Nat}
open Go.ChangeMaps (setBlock)
section
variable{P:Program}{E:Env}{w0:Root}
theorem wE{ops b:Array Oper}{Q:Exit->Act->World->Prop}:∀ (l:List Oper) (a:Act) (w:World),(∀ o∈l,o.guard=none)->wpListIn (FW ro) nn P ops Q l a w->wpListIn (FW ro) nn P b Q l a w
 | [],_,_,_,h=>h
 | o::l,a,w,e,h=>by have d:=e o zsa;have c:∀ a w,wpListIn (FW ro) nn P ops Q l a w->wpListIn (FW ro) nn P b Q l a w:=λa w=>wE l a w λo f=>e o (zoa _ f);simp only[wpListIn,Region.wanted,d,if_true] at h ⊢;exact Oper.wpIn_mono c h
def Nc(L:EnvOk P E){Q:Exit->Act->World->Prop}{id:Nat}{ops:Array Oper}{R:Type}{S:Nat->Nat->Prop}{γ:Nat->Option Nat}{β:Nat->Option (Nat×Nat)}{s:St}{a:Act}{w:World}{k:Ex->St->Option R}{r:R}
  (h:Rp w0 S γ β s a w) (C:ev E (.region id ops false) .leaf R s k=some r) (M:Kp Q w0 s S γ a w k r):wpListIn (FW ro) nn P ops Q ops.toList a w:=by
 obtain⟨S1,f1,f2,f3⟩:=rI (Ann.leaf).fz h;obtain⟨s1,c⟩:∃ s1,s1={ gN s (Ann.leaf).fz with fresh:=s.fresh+1 }:=⟨_,rfl⟩;obtain⟨h1,y⟩:=xx c C;obtain⟨h2,h3⟩:(!false||rG E ops ((Ann.leaf).heads ops.size))=true/\_:=y.resolve_right λh=>(by cases h.1)
 have z:s1.base=s.base+4096:=by rw[c];simp only[St.base];omega
 have r1:Rp w0 S1 γ β s1 a w:=by
  rw[c];have I:∀ id,({ gN s (Ann.leaf).fz with fresh:=s.fresh+1 }:St).base+4096<=id->s.base+4096<=id:=λid hid=>by
   have e:({ gN s (Ann.leaf).fz with fresh:=s.fresh+1 }:St).base=s.base+4096:=by simp only[St.base];omega
   rw[e] at hid;exact zIa (zwd _ _) hid
  exact⟨f1.ext,f1.tms,f1.nt,f1.tmu,f1.obs,f1.γn,f1.γi,λid hid=>h.γf id (I id hid),f1.βn,f1.βi,f1.βγ,λv O=>h.βf v (I v O),f1.Sb,f1.So⟩
 have g:∀ d,s.base+4096<=s1.base+d:=λd=>by have:=zwd s1.base d;rw[z] at this ⊢;exact this
 have H:∀ d,γ (s1.base+d)=none:=λd=>h.γf (s1.base+d) (g d);have F:∀ d,β (s1.base+d)=none:=λd=>h.βf (s1.base+d) (g d);obtain⟨W,m2⟩:=E8 (E:=E) ops.toList r1 H;have m:=h1;simp only[dZ,zaa,zCa] at m;obtain⟨⟨l,G⟩,N⟩:=m;have D:L9 E (lg E ops.toList s1) γ β ops.toList:=by intro o x hc d u;rw[m2.base_eq];have j:=G o x;rw[u] at j;simp only[zfa] at j;exact⟨j,H d,F d,λT t J K=>zX ops.toList l x J u K⟩
 have q:Sk s (lg E ops.toList s1):=by
  refine⟨m2.lkS.trans ?_,m2.lkO.trans ?_,m2.nt.trans ?_⟩<;>rw[c]
  ·exact f3.lkS
  ·exact f3.lkO
  ·exact f3.nt
 have b:(ops.toList.all λo=>match o.op with|.store ..=>o.dst.isNone|_=>true)=true:=by simp only[dZ,zaa] at h1;exact h1.2
 have:=zk (ro:=ro) (nn:=nn) (ops:=ops) L b _ R (bK 0 ops.toList) _ r _ W (by rw[bG];exact D) (by rw[bG];exact λA B o o' e x d u=>fU l A B o o' e x d u) (λp hp=>mc hp) h3
  (Q:=Q) λs' S' γ' β' a' w' n1 n2 U V=>M .normal s' S' γ' β' a' w' n1 (f2.tr n2 q) (q.trans U) V
 rwa [bG] at this
def σL(nt o it:Nat)(X:AV):St:={ tm:=λi=>if i=o then X else .undef,ob:=λ_=>none,fresh:=0,dead:=[],nt:=nt,lkS:=[it],lkO:=[0,1,4095] }
def γs(m r:Nat):Nat->Option Nat:=λi=>if i=0 then some m else if i=1 then some r else none
def OB(e:Ty)(L:List D)(X:AV):Prop:=(X=.nils/\L=[])\/X=.own e 5 L
def C9{s:St}{e:Ty}{o:Nat}{L:List D}(h:dQ s e o=some L):(s.tm o=.nils/\L=[])\/∃ v,s.tm o=.own e v L/\v ∉ s.dead:=by
 unfold dQ at h;split at h
 ·rename_i c v l a;split at h
  ·rename_i b;simp only[zaa,zTa,zfa] at b;cases h;have:=aco _ _ b.1.1;subst this;exact .inr ⟨v,a,by simpa using b.1.2⟩
  ·cases h
 ·rename_i a;cases h;exact .inl ⟨a,rfl⟩
 ·cases h
def Rp.std{S:Nat->Nat->Prop}{γ:Nat->Option Nat}{β:Nat->Option (Nat×Nat)}{s:St}{a:Act}{w:World}(h:Rp w0 S γ β s a w){m r:Nat}(hm:¬ w0.Old m/\m<w.heap.size)(Z:¬ w0.Old r/\r<w.heap.size)(y:m≠r)
  (Q:∀ v b e,v ∉ s.dead->β v=some (b,e)->b≠m/\b≠r) {e:Ty} (I:bV e=true) {o:Nat} {L:List D} (C:dQ s e o=some L) (it:Nat) :
  ∃ β' X,OB e L X/\Rp w0 (λb i=>S b i/\b≠m/\b≠r) (γs m r) β' (σL s.nt o it X) a w:=by
 have x:o<s.nt:=by
  rcases zxa o s.nt with k|k
  ·exact k
  ·unfold dQ at C;rw[h.tmu o k] at C;cases C
 have g:=h.tms o (by rw[h.nt];exact x)
 have g1:∀ id b,γs m r id=some b->(id=0/\b=m)\/(id=1/\b=r):=λid b d=>by
  unfold γs at d;split at d
  ·rename_i e;cases d;exact .inl ⟨e,rfl⟩
  ·split at d
   ·rename_i e;cases d;exact .inr ⟨e,rfl⟩
   ·cases d
 have γn':∀ id b,γs m r id=some b->¬ w0.Old b/\b<w.heap.size:=λid b d=>by
  rcases g1 id b d with⟨_,rfl⟩|⟨_,rfl⟩
  ·exact hm
  ·exact Z
 have γi':∀ id j b,γs m r id=some b->γs m r j=some b->id=j:=λid j b d f=>by
  rcases g1 id b d with⟨k1,J⟩|⟨k1,J⟩<;>rcases g1 j b f with⟨k3,K⟩|⟨k3,K⟩
  ·omega
  ·exact z3a (J.symm.trans K) y
  ·exact z3a (K.symm.trans J) y
  ·omega
 have γf':∀ id,0*4096+4096<=id->γs m r id=none:=λid hid=>by unfold γs;rw[zka j1,zka j1]
 rcases C9 C with⟨h1,h2⟩|⟨v,h1,h2⟩
 ·refine⟨λ_=>none,.nils,.inl ⟨rfl,h2⟩,h.ext,λt ht=>?_,h.nt,λt ht=>?_,λid o b x=>(by cases x),γn',γi',γf',λv b e _ d=>(by cases d),λv v' b e l _ _ d=>(by cases d),λv id b e _ d=>(by cases d),λ_ _=>rfl,λb i d=>h.Sb b i d.1,λb i d=>h.So b i d.1⟩
  ·show AR _ (if t=o then AV.nils else .undef) (a.tmps.getD t undef)
   by_cases hto:t=o
   ·rw[zna hto];subst hto;rw[h1] at g;simpa only[AR,AC] using g
   ·rw[zka hto];simp only[AR]
  ·show(if t=o then AV.nils else .undef)=_
   rw[zka (λh=>by subst h;exact z3a x (zCc.2 ht))]
 ·refine⟨λi=>if i=5 then β v else none,.own e 5 L,.inr rfl,h.ext,λt ht=>?_,h.nt,λt ht=>?_,λid o b x=>(by cases x),γn',γi',γf',λu b l _ d=>?_,λu u' b l H _ _ d f=>?_,λu id b l _ d hid=>?_,λu hu=>?_,λb i d=>h.Sb b i d.1,λb i d=>h.So b i d.1⟩
  ·show AR _ (if t=o then AV.own e 5 L else .undef) (a.tmps.getD t undef)
   by_cases hto:t=o
   ·rw[zna hto];subst hto;rw[h1] at g;simp only[AR,AC] at g ⊢;obtain⟨n0,n1,n2,F,cap,n3,n4,T⟩:=g;have M:CR w (λb i=>S b i/\b≠m/\b≠r) (.sl L) (.slice F L.length cap):=by
     obtain⟨U,N,G,z,V,p,O,cs,W,P⟩:=n4.elems;cases V;by_cases hL:L=[]
     ·subst hL;exact abC (b:=0) (off:=0) (.inl rfl) O ⟨[],c8.nil,j3⟩
     ·have p:F=some ⟨G,z,none⟩:=p.resolve_left hL;have f:G≠m/\G≠r:=by
       rcases T h2 with q|⟨b,off,A,B,E⟩
       ·rw[q.1] at p;cases p
       ·rw[A] at p;cases p;exact Q v _ _ h2 B
      have R:=nU I L n2;exact abC (.inr p) O ⟨cs,(gk R).2 ((gk R).1 W),λi c hc=>⟨⟨(P i c hc).1,f⟩,(P i c hc).2⟩⟩
    refine⟨n0,n1,n2,F,cap,n3,M,λ_=>?_⟩;rcases T h2 with q|⟨b,off,A,B,E⟩
    ·exact .inl q
    ·exact .inr ⟨b,off,A,by simpa using B,E⟩
   ·rw[zka hto];simp only[AR]
  ·show(if t=o then AV.own e 5 L else .undef)=_
   rw[zka (λh=>by subst h;exact z3a x (zCc.2 ht))]
  ·have d:(if u=5 then β v else none)=some (b,l):=d
   split at d
   ·obtain⟨A,B,E⟩:=h.βn v b l h2 d;exact⟨A,B,λi Y hs=>E i Y hs.1⟩
   ·cases d
  ·have d:(if u=5 then β v else none)=some (b,l):=d
   have f:(if u'=5 then β v else none)=some (b,H):=f
   split at d<;>split at f<;>first|(cases d;done)|(cases f;done)|omega
  ·have d:(if u=5 then β v else none)=some (b,l):=d
   split at d
   ·have:=Q v b l h2 d;rcases g1 id b hid with⟨_,q⟩|⟨_,q⟩
    ·exact this.1 q
    ·exact this.2 q
   ·cases d
  ·have ai:4096<=u:=by simpa [σL,St.base] using hu
   show(if u=5 then β v else none)=none
   rw[zka j1]
def Rp.setB{S:Nat->Nat->Prop}{γ:Nat->Option Nat}{β:Nat->Option (Nat×Nat)}{s:St}{a:Act}{w:World}(h:Rp w0 S γ β s a w){id b:Nat}(C:s.ob id=none)(A:γ id=some b)(B:∀ o,¬ S b o)(x:Obj) :
  Rp w0 S γ β s a (setBlock w b x):=by
 have z:∀ c o,S c o->c≠b:=λc o g e=>B o (e ▸ g);have m:∀ c,c≠b->(setBlock w b x).heap[c]?=w.heap[c]?:=λc d=>by simp only[setBlock];rw[z3c (Ne.symm d)]
 have j:(setBlock w b x).heap.size=w.heap.size:=by simp[setBlock]
 have hle:Cx.le ⟨w,S,γ,β,s.ob,s.dead⟩ ⟨setBlock w b x,S,γ,β,s.ob,s.dead⟩:=by
  refine⟨λc o g=>by simp only[World.cell?,m c (z c o g)],λ_ _ g=>g,λ_ _ g=>g,λi y hy _=>⟨y,hy,λp=>⟨rfl,rfl⟩,λt l e=>⟨l,e,rfl⟩,λ_ _ l e=>⟨l,e⟩⟩,λv r=>⟨r,λc e he=>⟨he,λn hn=>?_⟩⟩⟩
  have k:c≠b:=λu=>h.βγ v id c e r he (u ▸ A);have q:nk w c=some n:=hn;show nk (setBlock w b x) c=some n;simp only[nk,bO,m c k] at q ⊢;exact q
 refine⟨oS h.ext rfl rfl rfl (by rw[j];exact zia _) (zia _) (λc d=>m c λe=>(h.γn id b A).1 (e ▸ d)),λt ht=>(h.tms t ht).mono hle,h.nt,h.tmu,λi y c hy d=>?_,λi c d=>by rw[j];exact h.γn i c d,h.γi,h.γf,
  λv c e r he=>by rw[j];exact h.βn v c e r he,h.βi,h.βγ,h.βf,λc o g=>by rw[j];exact h.Sb c o g,h.So⟩
 have k:c≠b:=λu=>by have:=h.γi i id c d (u ▸ A);subst this;rw[C] at hy;cases hy
 exact(h.obs i y c hy d).mono hle (m c k) λ_ m=>m
end
end Sy
end
noncomputable section
namespace Sy
open Go Go.Proofs Go.Sort Go.Lib
variable{ro:Option Nat}{nn:Nat}
open Go.ChangeMaps (setBlock)
def wS:D->D
 | .st (k::_)=>k
 | x=>x
theorem HA{c:Cx}{b vt:Ty}:∀ {l:List D} {es:List MapEntry} {j:Nat},jt c b vt j l es->es.length=l.length/\∀ (i:Nat) (en:MapEntry),es[i]?=some en->en.born=j+i/\∃ k v,l[i]?=some (.st [k,v])/\wt b k/\wt vt v/\gE c.w c.S k en.key/\gE c.w c.S v en.val
 | [],[],j,_=>⟨rfl,λi en h=>by simp at h⟩
 | [],_::_,_,h=>h.elim
 | _::_,[],_,h=>h.elim
 | x::l,e::es,j,h=>by
  simp only[jt] at h;obtain⟨⟨h1,k,v,rfl,h2,h3,d,f⟩,g⟩:=h;obtain⟨m,n⟩:=HA g;refine⟨by simp[m],λi en a=>?_⟩
  cases i with
  | zero=>simp at a;subst a;exact⟨by simpa using h1,k,v,j3,h2,h3,d,f⟩
  | succ i=> simp only[zpb] at a;obtain⟨r1,o⟩:=n i en a;exact⟨j1,by simpa using o⟩
def D7{t:Ty}(hc:bV t=true){x:D}(hx:wt t x){w w':World}{S S':Nat->Nat->Prop}{v:Value}(h:gE w S x v):gE w' S' x v:=by have a:=kU t x hc hx;exact⟨h.1,(gk a).2 ((gk a).1 h.2)⟩
theorem BU:∀ (n:Nat) (l:List Nat),l.Nodup->(∀ x∈l,x<n)->l.length<=n
 | 0,l,_,h=>by
  cases l with
  | nil=>simp
  | cons x l=>exact z3a (h x zsa) j1
 | n+1,l,hn,h=>by
  have h1:(l.erase n).length<=n:=BU n (l.erase n) (hn.erase n) λx hx=>by have b:=(hn.mem_erase_iff).1 hx;have:=h x b.2;have:=b.1;omega
  have h2:=List.length_erase (a:=n) (l:=l);split at h2<;>omega
section
variable{P:Program}{E:Env}{w0:Root}
def lD{a:Act}{o:Oper}{m:Sem Value}{v:Value}{w w':World}(hex:execOp a.eval o=(m >>= λr=>pure (Next.value r)))(b:m.run P w=.ok v w'):(execOp a.eval o).run P w=.ok (.value v) w':=by rw[hex];simp only[zla,b,zga,zra]
def AF{nt o it t:Nat}{X:AV}(h:t≠o):(σL nt o it X).put (some t) .undef=σL nt o it X:=by
 unfold St.put σL;simp only;split
 ·congr 1;funext i;by_cases a:i=t
  ·subst a;rw[zna rfl,zka h]
  ·rw[zka a]
 ·rfl
def kP{a:Act}{t:Nat}{v:Value}(h:t<a.tmps.size):(a.put (some t) v).eval (.tmp t)=v:=by simp[Act.eval,Act.put,Array.getD,h]
def wd{a:Act}{d:Option Nat}{v:Value}:(a.put d v).tmps.size=a.tmps.size:=by cases d<;>simp[Act.put]
def Nf(hE:EnvOk P E){e vt:Ty}(he:bV e=true)(dk:bV vt=true)(c1:am e=true)(c2:am vt=true){b1 b3 b4 b b2:Nat}{t72 m0 it T nx ok en o:Nat}{b6 b7 b8:Array Oper}{rest:List Oper}{c26:Code}
  {y1 y2 y3 y4 y5:TypeId} {p1 p2 p3 p4 p5:String} {f1 f2 f3 f4 f5:Array Edge} {TK TV:TypeId}
  (b9:b6.toList=[⟨some t72,.move (.tmp m0),y1,p1,f1,none⟩,⟨some it,.range T (.tmp t72),y2,p2,f2,none⟩])
  (ca:b7.toList=[⟨some nx,.next (.tmp it) false,y3,p3,f3,none⟩,⟨some ok,.extract (.tmp nx) 0,y4,p4,f4,none⟩])
  (cb:b8.toList=⟨some en,.entry (.tmp it),y5,p5,f5,none⟩::rest) (bk:∀ x∈rest,x.guard=none) (hT:P.underlying T=some (.map TK TV))
  {S:Nat->Nat->Prop} {γ:Nat->Option Nat} {β:Nat->Option (Nat×Nat)} {s:St} {a:Act} {w:World} (h:Rp w0 S γ β s a w) (cp:a.defers=[])
  (d1:o≠t72) (d2:o≠it) (d3:nx≠o) (d4:ok≠o) (d5:en≠o) (d6:it≠t72) (d7:it≠nx) (d8:it≠ok) (d9:it≠en) (d10:nx≠ok) (n1:t72<s.nt) (n2:it<s.nt) (n3:nx<s.nt) (n4:ok<s.nt) (n5:en<s.nt)
  {B:Nat} {l:List D} (hm:s.tm m0=.map e vt B) (c3:s.ob B=some (.mp e vt l)) (hl:l.length<=1073741824) (hv:dQ s e o=some [])
  (O:∀ X L k v,OB e L X->L.length<1073741824->wt e k->ev E (.region 0 rest.toArray false) .leaf D ((σL s.nt o it X).put (some en) (.d (.tup [e,vt]) (.tup [k,v]))) (λx s'=>match x with
   | .normal=>ev E c26 .leaf D s' (λx dn=>match x with|.normal=>(dQ dn e o).bind λl=>some (.sl l)|_=>none)
   | _=>none)=some (.sl (L++[k])))
  {Q:Exit->Act->World->Prop} (hQ:∀ L S' γ' β' X a' w',OB e L X->L.Perm (l.map wS)->Rp w0 S' γ' β' (σL s.nt o it X) a' w'->a'.defers=[]->Q .normal a' w') :
  (Code.seq (.region b1 b6 false) (.block b (.loop (.seq (.region b3 b7 false) (.seq (.cond (.tmp ok) .skip (.exit b)) (.block b2 (.seq (.region b4 b8 false) c26))))))).wpIn (FW none) nn P Q a w:=by
 have cy:m0<s.nt:=by
  rcases zxa m0 s.nt with k|k
  ·exact k
  ·rw[h.tmu m0 k] at hm;cases hm
 have a6:=h.tms m0 (by rw[h.nt];exact cy)
 rw[hm] at a6;simp only[AR,AC] at a6;obtain⟨cI,m,cB,bm,_,_,_⟩:=a6;have a7:=ar cI cB;have hO:=h.obs B _ m c3 bm;simp only[gm] at hO;obtain⟨_,_,ds,es,A,hM⟩:=hO;obtain⟨dp,f⟩:=HA hM;have aI:=h.γn B m bm;have al:∀ x∈es.toList,x.born<l.length:=λx hx=>by obtain⟨i,hi,rfl⟩:=zYa hx;have:=(f i _ (zca hi)).1;omega
 have ch:(es.toList.map (·.born)).Nodup:=by rw[List.Nodup,z3b];intro i j hi M dt;simp only[zya] at hi M;have a1:=(f i _ (zca hi)).1;have a2:=(f j _ (zca M)).1;simp only[zNc,a1,a2];omega
 refine wpIn_seq ?_;refine wpIn_region_list ?_;rw[b9];simp only[wpListIn,Region.wanted,if_true];refine(bC (K:=λv w1=>v=a.tmps.getD m0 undef/\w=w1) (eY.value (v:=a.eval (.tmp m0)) (w':=w) rfl ⟨rfl,rfl⟩) ?_);rintro _ _ ⟨rfl,rfl⟩;rw[a7];have cf:(a.put (some t72) (.map (some m))).eval (.tmp t72)=.map (some m):=kP (by rw[h.nt];exact n1)
 refine(bC (K:=λv w1=>v=.pointer (some ⟨w.heap.size,0,none⟩)/\w1=w.alloc (.mapIter (some m) l.length #[] l.length)) (eY.value (lD (m:=Instr.range T (.map (some m))) ?_ (run_range_map w T TK TV m es l.length hT A)) ⟨rfl,rfl⟩) ?_)
 ·show(Instr.range T ((a.put (some t72) (.map (some m))).eval (.tmp t72)) >>= λr=>pure (Next.value r))=_;rw[cf]
 rintro _ _ ⟨rfl,rfl⟩;simp only[Exit.then];refine wpIn_block ?_;obtain⟨r,bP⟩:∃ r,r=w.heap.size:=⟨_,rfl⟩;rw[<-bP];have a0:m≠r:=by have:=aI.2;omega
 have J:w.alloc (.mapIter (some m) l.length #[] l.length)=grown w [.mapIter (some m) l.length #[] l.length] w.drawn:=by show({ w with heap:=w.heap.push (.mapIter (some m) l.length #[] l.length) }:World)={ w with heap:=w.heap++[Obj.mapIter (some m) l.length #[] l.length].toArray,drawn:=w.drawn };rw[zCd]
 have h1:Rp w0 S γ β ((s.put (some t72) .undef).put (some it) .undef) ((a.put (some t72) (.map (some m))).put (some it) (.pointer (some ⟨r,0,none⟩))) (w.alloc (.mapIter (some m) l.length #[] l.length)):=by rw[J];exact(((h.put (v:=.undef) (val:=.map (some m)) (by simp[AR]) (some t72)).put (v:=.undef) (val:=.pointer (some ⟨r,0,none⟩)) (by simp[AR]) (some it)).grow (os:=[.mapIter (some m) l.length #[] l.length]) (d:=w.drawn) (zia _) (S':=S) (λ_ _ t=>t) (λ_ _ t=>.inl t)).1
 have bT:dQ ((s.put (some t72) .undef).put (some it) .undef) e o=some []:=by
  have q1:((s.put (some t72) .undef).put (some it) .undef).tm o=s.tm o:=by rw[z8 (λe=>d2 (by cases e;rfl)),z8 (λe=>d1 (by cases e;rfl))]
  have q2:((s.put (some t72) .undef).put (some it) .undef).dead=s.dead:=by rw[(aci _ _ _).2.2.1,(aci _ _ _).2.2.1]
  unfold dQ at hv ⊢;rw[q1,q2];exact hv
 have bx:((s.put (some t72) .undef).put (some it) .undef).nt=s.nt:=by rw[(aci _ _ _).2.2.2.1,(aci _ _ _).2.2.2.1]
 have ak:(w.alloc (.mapIter (some m) l.length #[] l.length)).heap.size=w.heap.size+1:=by rw[J];simp[grown]
 have c4:¬ w0.Old r:=λho=>by have:=ho.1;have:=h.ext.sz;omega
 have I:((s.put (some t72) .undef).put (some it) .undef).dead=s.dead:=by rw[(aci _ _ _).2.2.1,(aci _ _ _).2.2.1]
 obtain⟨β1,X1,bn,R1⟩:=h1.std (m:=m) (r:=r) ⟨aI.1,by rw[ak];omega⟩ ⟨c4,by rw[ak];omega⟩ a0 (λv bb ee z t=>by rw[I] at z;exact⟨λeq=>h.βγ v B bb ee z t (eq ▸ bm),λeq=>by have:=(h.βn v bb ee z t).2.1;omega⟩) he bT it
 rw[bx] at R1;have Z:(w.alloc (.mapIter (some m) l.length #[] l.length)).heap[m]?=some (.map es l.length):=by rw[J,dB aI.2];exact A
 have ai:(w.alloc (.mapIter (some m) l.length #[] l.length)).heap[r]?=some (.mapIter (some m) l.length #[] l.length):=by rw[bP];exact heap_alloc_new w _
 have bM:((a.put (some t72) (.map (some m))).put (some it) (.pointer (some ⟨r,0,none⟩))).tmps.getD it undef=.pointer (some ⟨r,0,none⟩):=by exact kP (by rw[wd,h.nt];exact n2)
 refine yM (m:=l.length) (λn a w=>∃ (S:Nat->Nat->Prop) (β:Nat->Option (Nat×Nat)) (X:AV) (L:List D) (seen:Array Nat) (G:Nat),OB e L X/\Rp w0 (λb i=>S b i/\b≠m/\b≠r) (γs m r) β (σL s.nt o it X) a w/\a.defers=[]/\a.tmps.getD it undef=.pointer (some ⟨r,0,none⟩) ∧
  w.heap[m]?=some (.map es l.length)/\w.heap[r]?=some (.mapIter (some m) l.length seen G)/\l.length<=G/\L=seen.toList.map (λj=>wS (l.getD j default))/\seen.toList.Nodup/\(∀ j∈seen.toList,j<l.length)/\n+seen.size=l.length)
  ⟨S,β1,X1,[],#[],l.length,bn,R1,cp,bM,Z,ai,zia _,rfl,j3,j3,j3⟩ ?_
 clear R1 h1 bT bM Z ai bn J;rintro n a w ⟨S,β,X,L,seen,G,hX,R,bs,hp,A,bv,cj,hL,a9,aB,hn⟩;have U:=R.nt;refine wpIn_seq (wpIn_region_list ?_);rw[ca];simp only[wpListIn,Region.wanted,if_true];have bt:a.eval (.tmp it)=.pointer (some ⟨r,0,none⟩):=hp;rcases run_next_at w y3 r m l.length G seen es l.length bv A al cj with⟨hz,q⟩|⟨c,an,w1,bl,q⟩
 ·
  refine(bC (K:=λv w1=>v=.tuple #[.bool false]/\w=w1) (eY.value (lD (m:=Instr.next (.pointer (some ⟨r,0,none⟩)) false y3) ?_ q) ⟨rfl,rfl⟩) ?_)
  ·show(Instr.next (a.eval (.tmp it)) false y3 >>= λr=>pure (Next.value r))=_
   rw[bt]
  rintro _ _ ⟨rfl,rfl⟩;have ex:(a.put (some nx) (.tuple #[.bool false])).eval (.tmp nx)=.tuple #[.bool false]:=kP (by rw[U];exact n3)
  refine(bC (K:=λv w1=>v=.bool false/\w=w1) (eY.value (lD (m:=Instr.extract (.tuple #[.bool false]) 0) ?_ (v:=.bool false) (w':=w) rfl) ⟨rfl,rfl⟩) ?_)
  ·show(Instr.extract ((a.put (some nx) (.tuple #[.bool false])).eval (.tmp nx)) 0 >>= λr=>pure (Next.value r))=_;rw[ex]
  rintro _ _ ⟨rfl,rfl⟩;simp only[Exit.then];refine wpIn_seq (wpIn_cond_false (kP (by rw[wd,U];exact n4)) (wpIn_exit ?_))
  simp only[Exit.then,Exit.inBlock,if_true];have R2:=(R.put (v:=.undef) (val:=.tuple #[.bool false]) (by simp[AR]) (some nx)).put (v:=.undef) (val:=.bool false) (by simp[AR]) (some ok)
  rw[AF d3,AF d4] at R2;refine hQ L _ _ _ X _ _ hX ?_ R2 bs;have bp:∀ j,j<l.length->j∈seen.toList:=λj M=>by
   have cv:j<es.toList.length:=j1
   have e1:=(f j _ (zca cv)).1;have N:es.toList[j] ∉ (leftOf es seen).toList:=λhm=>by have:=List.length_pos_of_mem hm;simp at this;omega
   simp only[leftOf,Array.toList_filter,zqb,zFa,true_and] at N;simp at N;simp only[zDd,zcb] at e1;rw[e1] at N;simpa using N
  have bj:seen.toList.Perm (List.range l.length):=(List.perm_ext_iff_of_nodup a9 List.nodup_range).2 λj=>⟨λM=>zWa.2 (aB j M),λM=>bp j (zWa.1 M)⟩;rw[hL];refine(bj.map _).trans ?_;have:(List.range l.length).map (λj=>wS (l.getD j default))=l.map wS:=by
   apply zuc;intro j;rw[zhb,zhb];rcases zxa j l.length with k|k
   ·simp[k,List.getD]
   ·rw[zeb (by simpa using k),zeb k];rfl
  rw[this]
 ·
  have bW:w1.heap[m]?=some (.map es l.length):=by rcases bl with rfl|rfl<;>exact A
  have b0:w1.heap.size=w.heap.size:=by rcases bl with rfl|rfl<;>rfl
  have c5:r<w1.heap.size:=by rw[b0];exact(zza.1 bv).1
  have Rw:Rp w0 (λb i=>S b i/\b≠m/\b≠r) (γs m r) β (σL s.nt o it X) a w1:=by
   rcases bl with rfl|rfl
   ·exact R
   ·have:=(R.grow (os:=[]) (d:=w.drawn+1) (z1c _) (S':=λb i=>S b i/\b≠m/\b≠r) (λ_ _ t=>t) (λ_ _ t=>.inl t)).1;have e2:grown w [] (w.drawn+1)=w.drew:=by
     unfold grown;rw[show w.heap++([]:List Obj).toArray=w.heap by simp]
     rfl
    rw[e2] at this;exact this
  obtain⟨H,V⟩:∃ H,H=setBlock w1 r (.mapIter (some m) l.length (seen.push c.born) l.length):=⟨_,rfl⟩;rw[<-V] at q;have R2:Rp w0 (λb i=>S b i/\b≠m/\b≠r) (γs m r) β (σL s.nt o it X) a H:=by rw[V];exact Rw.setB (id:=1) rfl rfl (λi hi=>hi.2.2 rfl) _
  have ad:H.heap[m]?=some (.map es l.length):=by rw[V];simp only[setBlock];rw[z3c (Ne.symm a0)];exact bW
  have aj:H.heap[r]?=some (.mapIter (some m) l.length (seen.push c.born) l.length):=by rw[V];simp only[setBlock];rw[Array.getElem?_setIfInBounds_self_of_lt c5]
  have p:c∈es.toList/\c.born ∉ seen.toList:=by simp only[leftOf,Array.toList_filter,zqb] at an;exact⟨an.1,by have:=an.2;simpa using this⟩
  obtain⟨j,M,cx⟩:=zYa p.1;obtain⟨q1,k,v,q2,q3,q4,q5,q6⟩:=f j c (by rw[zca M,cx])
  rw[zcb] at q1;have du:j<l.length:=j1
  have ax:l.getD j default=.st [k,v]:=by simp[List.getD,q2]
  refine(bC (K:=λv w1=>v=.tuple #[.bool true,c.key,c.val]/\H=w1) (eY.value (lD (m:=Instr.next (.pointer (some ⟨r,0,none⟩)) false y3) ?_ q) ⟨rfl,rfl⟩) ?_)
  ·show(Instr.next (a.eval (.tmp it)) false y3 >>= λr=>pure (Next.value r))=_
   rw[bt]
  rintro _ _ ⟨rfl,rfl⟩;have ex:(a.put (some nx) (.tuple #[.bool true,c.key,c.val])).eval (.tmp nx)=.tuple #[.bool true,c.key,c.val]:=kP (by rw[U];exact n3)
  refine(bC (K:=λv w1=>v=.bool true/\H=w1) (eY.value (lD (m:=Instr.extract (.tuple #[.bool true,c.key,c.val]) 0) ?_ (v:=.bool true) (w':=H) rfl) ⟨rfl,rfl⟩) ?_)
  ·show(Instr.extract ((a.put (some nx) (.tuple #[.bool true,c.key,c.val])).eval (.tmp nx)) 0 >>= λr=>pure (Next.value r))=_;rw[ex]
  rintro _ _ ⟨rfl,rfl⟩;simp only[Exit.then];refine wpIn_seq (wpIn_cond_true (kP (by rw[wd,U];exact n4)) (wpIn_skip ?_))
  simp only[Exit.then];refine wpIn_block (wpIn_seq (wpIn_region_list ?_));have R3:=(R2.put (v:=.undef) (val:=.tuple #[.bool true,c.key,c.val]) (by simp[AR]) (some nx)).put (v:=.undef) (val:=.bool true) (by simp[AR]) (some ok)
  rw[AF d3,AF d4] at R3;have bi:((a.put (some nx) (.tuple #[.bool true,c.key,c.val])).put (some ok) (.bool true)).tmps.getD it undef=.pointer (some ⟨r,0,none⟩):=by rw[co (λe=>d8 (by cases e;rfl)),co (λe=>d7 (by cases e;rfl))];exact hp
  have W:((a.put (some nx) (.tuple #[.bool true,c.key,c.val])).put (some ok) (.bool true)).defers=[]:=bs;generalize ((a.put (some nx) (.tuple #[.bool true,c.key,c.val])).put (some ok) (.bool true))=a3 at R3 bi W ⊢;rw[cb];simp only[wpListIn,Region.wanted,if_true];refine(bC (K:=λv w1=>v=.tuple #[c.key,c.val]/\H=w1) (eY.value (lD (m:=Instr.entry (.pointer (some ⟨r,0,none⟩))) ?_ (run_entry_at H r m l.length seen es l.length c aj ad p.1 ch)) ⟨rfl,rfl⟩) ?_)
  ·show(Instr.entry (a3.eval (.tmp it)) >>= λr=>pure (Next.value r))=_;rw[show a3.eval (.tmp it)=.pointer (some ⟨r,0,none⟩) from bi]
  rintro _ _ ⟨rfl,rfl⟩;have R4:=R3.put (v:=.d (.tup [e,vt]) (.tup [k,v])) (val:=.tuple #[c.key,c.val]) (by
   simp only[AR];refine .inr ⟨[e,vt],rfl,by simp[bq,c1,c2],⟨[k,v],rfl,k,[v],rfl,q3,v,[],rfl,q4,rfl⟩,[c.key,c.val],rfl,rfl,λi d u z hu=>?_⟩
   cases i with
   | zero=>simp at z hu;subst z;subst hu;exact D7 he q3 q5
   | succ i=>cases i with
    | zero=>simp at z hu;subst z;subst hu;exact D7 dk q4 q6
    | succ i=>simp at z) (some en)
  have bN:(a3.put (some en) (.tuple #[c.key,c.val])).tmps.getD it undef=.pointer (some ⟨r,0,none⟩):=by rw[co (λe=>d9 (by cases e;rfl))];exact bi
  have Y:(a3.put (some en) (.tuple #[c.key,c.val])).defers=[]:=W;generalize (a3.put (some en) (.tuple #[c.key,c.val]))=a4 at R4 bN Y ⊢;have ci:(c.born::seen.toList).length<=l.length:=BU _ _ (List.nodup_cons.2 ⟨p.2,a9⟩) (λx hx=>by
   rcases zEa.1 hx with rfl|hx
   ·omega
   ·exact aB x hx)
  have dr:L.length=seen.size:=by rw[hL];simp
  simp only[zQa,zRb] at ci;have b5:((σL s.nt o it X).put (some en) (.d (.tup [e,vt]) (.tup [k,v]))).lkS=[it]:=(aci _ _ _).2.2.2.2.1;have C:((σL s.nt o it X).put (some en) (.d (.tup [e,vt]) (.tup [k,v]))).lkO=[0,1,4095]:=(aci _ _ _).2.2.2.2.2.1;refine wE (ops:=rest.toArray) rest _ _ bk ?_;have key:=Nc (ro:=none) (nn:=nn) hE (Q:=Exit.then (c26.wpIn (FW none) nn P (Exit.inBlock b2 (Exit.then (λa' w'=>∃ g,g<n/\∃ (S:Nat->Nat->Prop) (β:Nat->Option (Nat×Nat)) (X:AV) (L:List D) (seen:Array Nat) (G:Nat),OB e L X/\Rp w0 (λb i=>S b i/\b≠m/\b≠r) (γs m r) β (σL s.nt o it X) a' w'/\a'.defers=[]/\a'.tmps.getD it undef=.pointer (some ⟨r,0,none⟩) ∧
   w'.heap[m]?=some (.map es l.length)/\w'.heap[r]?=some (.mapIter (some m) l.length seen G)/\l.length<=G/\L=seen.toList.map (λj=>wS (l.getD j default))/\seen.toList.Nodup/\(∀ j∈seen.toList,j<l.length)/\g+seen.size=l.length) (Exit.inBlock b Q)))) (Exit.inBlock b2 (Exit.then (λa' w'=>∃ g,g<n/\∃ (S:Nat->Nat->Prop) (β:Nat->Option (Nat×Nat)) (X:AV) (L:List D) (seen:Array Nat) (G:Nat),OB e L X/\Rp w0 (λb i=>S b i/\b≠m/\b≠r) (γs m r) β (σL s.nt o it X) a' w'/\a'.defers=[]/\a'.tmps.getD it undef=.pointer (some ⟨r,0,none⟩) ∧
   w'.heap[m]?=some (.map es l.length)/\w'.heap[r]?=some (.mapIter (some m) l.length seen G)/\l.length<=G/\L=seen.toList.map (λj=>wS (l.getD j default))/\seen.toList.Nodup/\(∀ j∈seen.toList,j<l.length)/\g+seen.size=l.length) (Exit.inBlock b Q)))) R4 (O X L k v hX j1 q3) ?_
  ·simpa using key
  intro x s' S' γ' β' a' w' g1 g2 g3 g4;cases x with
  | ret=>cases g4
  | exit i=>cases g4
  | normal=>
   show c26.wpIn (FW none) nn P _ a' w';refine ID hE c26 .leaf D _ _ g1 g4 λx2 s2 S2 γ2 β2 a5 w5 k1 k2 k3 k4=>?_;cases x2 with
   | ret=>cases k4
   | exit i=>cases k4
   | normal=>
    have cs:dQ s2 e o=some (L++[k]):=by obtain⟨l2,u1,u2⟩:=ab k4;simp only[zda,D.sl.injEq] at u2;rw[u1,u2]
    have F:=g2.tr k2 g3;obtain⟨z1,z2⟩:=F.objs 0 (by rw[C];simp) m rfl
    obtain⟨z3,z4⟩:=F.objs 1 (by rw[C];simp) r rfl
    have z5:=F.slots it (by rw[b5];simp)
    obtain⟨β6,X6,cc,R6⟩:=k1.std (m:=m) (r:=r) (k1.γn 0 m z1) (k1.γn 1 r z3) a0 (λu bb ee z t=>⟨λeq=>k1.βγ u 0 bb ee z t (eq ▸ z1),λeq=>k1.βγ u 1 bb ee z t (eq ▸ z3)⟩) he cs it;have bL:s2.nt=s.nt:=by rw[k3.nt,g3.nt,(aci _ _ _).2.2.2.1];rfl
    rw[bL] at R6;show ∃ g,g<n/\_;refine⟨n-1,j1,S2,β6,X6,L++[k],seen.push c.born,l.length,cc,R6,F.df0 (by rw[C];simp) Y,z5.trans bN,z2.eq ad (λ_ h=>by cases h),z4.eq aj (λ_ h=>by cases h),zia _,?_,?_,?_,?_⟩
    ·rw[ztd,zKb,<-hL,zab,zkd,q1,ax];rfl
    ·rw[ztd,List.nodup_append];refine⟨a9,j3,λx hx y hy=>?_⟩
     rw[zLa.1 hy];exact λeq=>p.2 (eq ▸ hx)
    ·intro x hx;rw[ztd] at hx;rcases List.mem_append.1 hx with hx|hx
     ·exact aB x hx
     ·rw[zLa.1 hx];omega
    ·simp;omega
end
end Sy
end
noncomputable section
namespace Sy
open Go Go.Proofs Go.Sort Go.Lib
section
variable{P:Program}{E:Env}
def vS(w:World)(S:Nat->Nat->Prop):Root:=⟨w,S,λ_=>False⟩
def N3(P:Program)(fn:Func)(w:World)(S:Nat->Nat->Prop)(a:Ty)(y:D):Exit->Act->World->Prop:=
 bodyPost P fn λe w'=>∃ v,e=.returned v/\(∃ os d,w.drawn<=d/\w'=grown w os d)/\wt a y/\DR w' (λb o=>S b o\/(w.heap.size<=b/\b<w'.heap.size)) y v
def PA(n:EnvOk P E){fn:Func}{a:Ty}{y:D}{w:World}{S:Nat->Nat->Prop}(q:jK fn.results.size a=true){d:Code}{ann:Ann}{S':Nat->Nat->Prop}{γ':Nat->Option Nat}{β':Nat->Option (Nat×Nat)}{s':St}{a':Act}{w':World}
  (h:Rp (vS w S) S' γ' β' s' a' w') (f:a'.defers=[]) (m:4095∈s'.lkO) (g:(ev E d ann D s' λe s=>match e with|.exit _=>none|_=>results E s a fn.results.toList)=some y):d.wpIn (FW none) 0 P (N3 P fn w S a y) a' w':=by
 refine ID n d ann D _ y h g λe s' S' γ' β' a' w' n1 n2 x l=>?_;have c:results E s' a fn.results.toList=some y->(∃ v,(Go.results fn a'.tmps).run P w'=.ok v w'/\∃ v',Ending.returned v=.returned v'/\(∃ os d,w.drawn<=d/\w'=grown w os d)/\wt a y/\DR w' (λb o=>S b o\/(w.heap.size<=b/\b<w'.heap.size)) y v'):=λhq=>by
  obtain⟨v,r,t,u⟩:=mn n n1 q hq;refine⟨v,r,v,rfl,je n1.ext (λ_ hf=>hf),t,u.mono (λ_ _ _=>rfl) λb o p=>?_⟩;rcases zxa b w.heap.size with k|j
  ·exact .inl (n1.So b o p ⟨k,λhf=>hf⟩)
  ·exact .inr ⟨j,n1.Sb b o p⟩
 cases e with
 | normal=>exact⟨n2.df0 m f,c l⟩
 | ret=>exact⟨n2.df0 m f,c l⟩
 | exit i=>cases l
def uI(r:EnvOk P E){f:FuncId}{fn:Func}{ann:AnnT}{a:List Ty}{i:Ty}{xs:List D}{y:D}{K:St->Option D}(hf:P.funcs[f]?=some fn)(hk:(decide (a.length<=fn.ntmps)&&jK fn.results.size i&&bq a)=true)
  (h:MP E K fn ann a xs=some y) (hK:∀ c,fn.body=some c->∀ (w:World) (S S':Nat->Nat->Prop) γ' β' s' a' w',Rp (vS w S) S' γ' β' s' a' w'->a'.defers=[]->K s'=some y->(tA c ann).wpIn (FW none) 0 P (N3 P fn w S i y) a' w'):OP P a i f xs y:=by
 intro w S vs u k hlen n;simp only[zaa,zfa] at hk;obtain⟨⟨B,J⟩,hn⟩:=hk;unfold MP at h;split at h<;>first|(cases h;done)|skip
 rename_i c d;have G:xs.length=a.length:=jS k;have j:(vs.toArray++Array.replicate (fn.ntmps-vs.toArray.size) undef).size=fn.ntmps:=by simp;omega
 refine y7 hf d (Px (w0:=vS w S) r c ann (S:=S) (γ:=λ_=>none) (β:=λ_=>none) (s:=u9 fn a xs) ?_ rfl (by simp[u9]) h λs' S' γ' β' a' w' n1 nd n2=>hK c d w S S' γ' β' s' a' w' n1 nd n2)
 refine⟨⟨rfl,rfl,rfl,zia _,zia _,λ_ _=>rfl⟩,λt ht=>?_,j,λt ht=>?_,λid o b A=>(by cases A),λid b d=>(by cases d),λid H b d=>(by cases d),λ_ _=>rfl,λv b e _ d=>(by cases d),λv v' b e I _ _ d=>(by cases d),λv id b e _ d=>(by cases d),λ_ _=>rfl,u,λb o d _=>d⟩
 ·simp only[u9,jF];split
  ·rename_i ty x q m;have z:=(zqa.1 m).1;have g:t<vs.length:=j1
   have F:(vs.toArray++Array.replicate (fn.ntmps-vs.toArray.size) undef).getD t undef=vs[t]:=by simp[Array.getD,zJc,g];omega
   show AR _ _ ((vs.toArray++Array.replicate (fn.ntmps-vs.toArray.size) undef).getD t undef);rw[F];obtain⟨L,l,p⟩:=ib k q;rw[m] at l;cases l;exact dK (bX hn q) p (n t x _ m (zca g))
  ·simp only[AR]
 ·have C:fn.ntmps<=t:=ht;simp only[u9,jF];rw[zeb j1]
def Nz(nt x:Nat)(e:Ty)(l:List D):St:={ tm:=λi=>if i=x then .d (.sl e) (.sl l) else .undef,ob:=λ_=>none,fresh:=0,dead:=[],nt:=nt,lkS:=[],lkO:=[4095] }
def Rp.reset{w0:Root}{S:Nat->Nat->Prop}{s:St}{x:Nat}{e:Ty}{l:List D}{a:Act}{w:World}(h:Rp w0 S (λ_=>none) (λ_=>none) (P4 s x e l) a w){nt:Nat}(c:s.nt=nt):Rp w0 S (λ_=>none) (λ_=>none) (Nz nt x e l) a w:=by subst c;exact⟨h.ext,h.tms,h.nt,h.tmu,λid o b d=>(by cases d),h.γn,h.γi,λ_ _=>rfl,h.βn,h.βi,h.βγ,λ_ _=>rfl,h.Sb,h.So⟩
def Fi(E:Env)(nt x g:Nat)(e:Ty)(s:St):Option D:=(dQ s e x).bind λl=>if s.nt=nt then(ki E g l).bind λl'=>some (.sl l') else none
def yC(A:EnvOk P E){f0:Nat}{e:Ty}(hf:SortOk P f0 e){g:Nat}(j:E.sig g=some ([e,e],.int .i64)/\E.free g=0){fn:Func}{b:Ty}{y:D}{w:World}{S:Nat->Nat->Prop}(G:jK fn.results.size b=true)
  {id x t d2 nt:Nat} {ops:Array Oper} {d:Code} {ann:Ann} {v z:TypeId} {H I:String} {k m:Array Edge} {args:Array Operand} {n:Array TypeId}
  (i:ops.toList=[⟨some t,.move (.tmp x),v,H,k,none⟩,⟨some d2,.call ⟨.value (.func f0),args,n⟩,z,I,m,none⟩]) (a:args=#[.tmp t,.func g]) (B:(decide (x≠t)&&decide (x≠d2)&&decide (t<nt))=true)
  (u:∀ l',(ev E d ann D (Nz nt x e l') λe s=>match e with|.exit _=>none|_=>results E s b fn.results.toList)=some (.sl l'))
  {S':Nat->Nat->Prop} {γ':Nat->Option Nat} {β':Nat->Option (Nat×Nat)} {s':St} {a':Act} {w':World} (h:Rp (vS w S) S' γ' β' s' a' w') (r:a'.defers=[]) (hK:Fi E nt x g e s'=some y):(Code.seq (.region id ops false) d).wpIn (FW none) 0 P (N3 P fn w S b y) a' w':=by
 simp only[zaa,zfa] at B;obtain⟨⟨o,p⟩,q⟩:=B;obtain⟨l,h1,h2⟩:=ab hK;split at h2<;>first|(cases h2;done)|skip
 rename_i f;obtain⟨l',h3,C⟩:=ab h2;cases C;refine wpIn_seq (NK A hf j i a h r o p (by rw[f];exact q) h1 h3 λa2 J S2 F c=>?_)
 exact PA A G (F.reset f) c (by simp[Nz]) (u l')
theorem s7{lt:D->D->Bool}{x:D}:∀ {l:List D},(∀ a∈x::l,∀ b∈x::l,∀ c∈x::l,lt a b=true->lt b c=true->lt a c=true)->(∀ y∈l,lt x y=true\/lt y x=true)->l.Pairwise (λa b=>lt a b=true)->(Df lt x l).Pairwise (λa b=>lt a b=true)
 | [],_,_,_=>by simp[Df]
 | y::l,g,f,hp=>by
  obtain⟨i,m⟩:=zSa.1 hp;simp only[Df];split
  ·rename_i e;refine zSa.2 ⟨λz d=>?_,hp⟩;rcases zEa.1 d with rfl|d
   ·exact e
   ·exact g x j3 y j3 z (by simp[d]) e (i z d)
  ·rename_i e;have h:lt y x=true:=(f y zsa).resolve_left e;refine zSa.2 ⟨λz d=>?_,s7 (λa j b k c hc=>?_) (λz d=>f z (zoa _ d)) m⟩
   ·rcases zEa.1 ((rP lt x l).subset d) with rfl|d
    ·exact h
    ·exact i z d
   ·have up:∀ q,q∈x::l->q∈x::y::l:=λq hq=>by
     rcases zEa.1 hq with rfl|hq
     ·simp
     ·simp[hq]
    exact g a (up a j) b (up b k) c (up c hc)
theorem qy{lt:D->D->Bool}:∀ {l:List D},(∀ a∈l,∀ b∈l,∀ c∈l,lt a b=true->lt b c=true->lt a c=true)->l.Pairwise (λa b=>lt a b=true\/lt b a=true)->(mC lt l).Pairwise (λa b=>lt a b=true)
 | [],_,_=>by simp[mC]
 | x::l,d,g=>by
  obtain⟨h,i⟩:=zSa.1 g;have hs:∀ q,q∈mC lt l->q∈l:=λq hq=>(gW lt l).subset hq;have up:∀ q,q∈x::mC lt l->q∈x::l:=λq hq=>by
   rcases zEa.1 hq with rfl|hq
   ·simp
   ·simp[hs q hq]
  exact s7 (λa e b f c hc=>d a (up a e) b (up b f) c (up c hc)) (λy hy=>h y (hs y hy)) (qy (λa e b f c hc=>d a (zoa _ e) b (zoa _ f) c (zoa _ hc)) i)
def wh{g:Nat}{l l':List D}(hc:tK E g l'=true)(hp:l.Perm l'):ki E g l=some l':=by
 obtain⟨h1,h2⟩:=kL hc;have m:∀ x∈l',∃ i,l'[i]?=some x:=λx hx=>by obtain⟨i,v,w⟩:=zYa hx;exact⟨i,by rw[zca v,w]⟩
 have u:∀ a∈l,∀ b∈l,∀ c∈l,rV E g a b=true->rV E g b c=true->rV E g a c=true:=λa n b o c r v w=>by obtain⟨i,f⟩:=m a (hp.subset n);obtain⟨j,d⟩:=m b (hp.subset o);obtain⟨k,hk⟩:=m c (hp.subset r);have:=(fq hc f d).1.1 v;have:=(fq hc d hk).1.1 w;exact(fq hc f hk).1.2 j1
 have s:l.Nodup:=hp.symm.nodup (xh hc);have t:l.Pairwise (λa b=>rV E g a b=true\/rV E g b a=true):=by
  refine zTc (λ{a b} n o q=>?_) s;obtain⟨i,f⟩:=m a (hp.subset n);obtain⟨j,d⟩:=m b (hp.subset o);rcases zpd i j with k|k|k
  ·exact .inl ((fq hc f d).1.2 k)
  ·subst k;rw[f] at d;cases d;exact z3a rfl q
  ·exact .inr ((fq hc d f).1.2 k)
 have hs:=qy u t;have p:(mC (rV E g) l).Perm l':=(gW _ l).trans hp;have:mC (rV E g) l=l':=by
  have key:∀ {a b:List D},a.Pairwise (λx y=>rV E g x y=true)->b.Pairwise (λx y=>rV E g x y=true)->a.Perm b->(∀ x∈a,x∈l')->a=b:=by
   intro a
   induction a with
   | nil=>intro b _ _ hp _;exact hp.symm.eq_nil.symm ▸ rfl
   | cons x a ih=>
    intro b n o hp hm;cases b with
    | nil=>exact z3a hp.eq_nil j3
    | cons y b=>
     obtain⟨a1,a2⟩:=zSa.1 n;obtain⟨A,B⟩:=zSa.1 o;have e:x=y:=by
      rcases zEa.1 (hp.subset zsa) with e|m1
      ·exact e
      ·rcases zEa.1 (hp.symm.subset (zsa (a:=y))) with e|m2
       ·exact e.symm
       ·exfalso;obtain⟨i,f⟩:=m x (hm x zsa);obtain⟨j,d⟩:=m y (hm y (zoa _ m2));have:=(fq hc f d).1.1 (a1 y m2);have:=(fq hc d f).1.1 (A x m1);omega
     subst e;rw[ih a2 B ((List.perm_cons x).1 hp) (λz C=>hm z (zoa _ C))]
  exact key hs (h1.imp λh=>h.1) p λx hx=>p.subset hx
 unfold ki;rw[this,zna hc]
def DN{g:Nat}{l b l':List D}(h:ki E g l=some l')(hp:b.Perm l):ki E g b=some l':=by
 have a:tK E g l'=true/\l'=mC (rV E g) l:=by
  unfold ki at h;split at h
  ·rename_i c;cases h;exact⟨c,rfl⟩
  ·cases h
 exact wh a.1 (hp.trans (by rw[a.2];exact(gW _ l).symm))
end
section
variable{P:Program}{E:Env}
def Ae(E:Env)(nt m0 o g:Nat)(e vt:Ty)(s:St):Option D:=
 match s.tm m0 with
 | .map d b id=>if d.beq e&&b.beq vt then(match s.ob id with
   | some (.mp a c l)=>if a.beq e&&c.beq vt&&decide (l.length<=1073741824) then(match dQ s e o with
     | some []=>if s.nt=nt then(ki E g (l.map wS)).bind λl'=>some (.sl l') else none
     | _=>none) else none
   | _=>none) else none
 | _=>none
def DH(hE:EnvOk P E){e vt:Ty}(he:bV e=true)(aj:bV vt=true)(W:am e=true)(Z:am vt=true){fn:Func}{n:Ty}{y:D}{w:World}{S:Nat->Nat->Prop}(hr:jK fn.results.size n=true)
  {u z A b b2:Nat} {t72 m0 it T nx ok en o nt:Nat} {B C F:Array Oper} {rest:List Oper} {c26:Code}
  {y1 y2 y3 y4 y5:TypeId} {p1 p2 p3 p4 p5:String} {f1 f2 f3 f4 f5:Array Edge} {TK TV:TypeId}
  (K:B.toList=[⟨some t72,.move (.tmp m0),y1,p1,f1,none⟩,⟨some it,.range T (.tmp t72),y2,p2,f2,none⟩])
  (M:C.toList=[⟨some nx,.next (.tmp it) false,y3,p3,f3,none⟩,⟨some ok,.extract (.tmp nx) 0,y4,p4,f4,none⟩])
  (N:F.toList=⟨some en,.entry (.tmp it),y5,p5,f5,none⟩::rest) (j:(rest.all λx=>x.guard.isNone)=true) (hT:P.underlying T=some (.map TK TV))
  (hd:(decide (o≠t72)&&decide (o≠it)&&decide (nx≠o)&&decide (ok≠o)&&decide (en≠o)&&decide (it≠t72)&&decide (it≠nx)&&decide (it≠ok)&&decide (it≠en)&&decide (nx≠ok)&&decide (t72<nt)&&decide (it<nt)&&decide (nx<nt)&&decide (ok<nt)&&decide (en<nt))=true)
  (c:∀ X L k v,OB e L X->L.length<1073741824->wt e k->ev E (.region 0 rest.toArray false) .leaf D ((σL nt o it X).put (some en) (.d (.tup [e,vt]) (.tup [k,v]))) (λx s'=>match x with
   | .normal=>ev E c26 .leaf D s' (λx ak=>match x with|.normal=>(dQ ak e o).bind λl=>some (.sl l)|_=>none)
   | _=>none)=some (.sl (L++[k])))
  {f0 g:Nat} (hf:SortOk P f0 e) (r:E.sig g=some ([e,e],.int .i64)/\E.free g=0) {id t d2:Nat} {ops:Array Oper} {d:Code} {ann:Ann} {al an:TypeId} {q1 q2:String} {G H:Array Edge} {args:Array Operand} {I:Array TypeId}
  (q:ops.toList=[⟨some t,.move (.tmp o),al,q1,G,none⟩,⟨some d2,.call ⟨.value (.func f0),args,I⟩,an,q2,H,none⟩]) (f:args=#[.tmp t,.func g]) (O:(decide (o≠t)&&decide (o≠d2)&&decide (t<nt))=true)
  (R:∀ l',(ev E d ann D (Nz nt o e l') λx s=>match x with|.exit _=>none|_=>results E s n fn.results.toList)=some (.sl l'))
  {S':Nat->Nat->Prop} {γ':Nat->Option Nat} {β':Nat->Option (Nat×Nat)} {s':St} {a':Act} {w':World} (h:Rp (vS w S) S' γ' β' s' a' w') (Q:a'.defers=[]) (hK:Ae E nt m0 o g e vt s'=some y) :
  (Code.seq (Code.seq (.region u B false) (.block b (.loop (.seq (.region z C false) (.seq (.cond (.tmp ok) .skip (.exit b)) (.block b2 (.seq (.region A F false) c26))))))) (Code.seq (.region id ops false) d)).wpIn (FW none) 0 P (N3 P fn w S n y) a' w':=by
 unfold Ae at hK;split at hK<;>first|(cases hK;done)|skip
 rename_i kt aB ax ai;split at hK<;>first|(cases hK;done)|skip
 rename_i i;split at hK<;>first|(cases hK;done)|skip
 rename_i m aI l ad;split at hK<;>first|(cases hK;done)|skip
 rename_i a;split at hK<;>first|(cases hK;done)|skip
 rename_i V;split at hK<;>first|(cases hK;done)|skip
 rename_i Y;obtain⟨l',h3,h4⟩:=ab hK;cases h4;simp only[zaa,zfa] at i a hd;have e1:=aco _ _ i.1;have e2:=aco _ _ i.2;have e3:=aco _ _ a.1.1;have e4:=aco _ _ a.1.2;subst e1;subst e2;subst e3;subst e4;obtain⟨⟨⟨⟨⟨⟨⟨⟨⟨⟨⟨⟨⟨⟨d1,J⟩,d3⟩,d4⟩,d5⟩,d6⟩,d7⟩,d8⟩,d9⟩,d10⟩,n1⟩,n2⟩,n3⟩,n4⟩,n5⟩:=hd;subst Y;refine wpIn_seq (Nf hE he aj W Z K M N (λx hx=>by simpa using zCa.1 j x hx) hT h Q d1 J d3 d4 d5 d6 d7 d8 d9 d10 n1 n2 n3 n4 n5 ai ad a.2 V c λL S2 γ2 β2 X a2 w2 hX hp hR p=>?_)
 have hlen:L.length<=1073741824:=by rw[hp.length_eq];simpa using a.2
 have U:dQ (σL s'.nt o it X) m o=some L:=by
  unfold dQ σL;simp only[if_true];rcases hX with⟨rfl,rfl⟩|rfl
  ·rfl
  ·simp only;have:(m.beq m&&!(([]:List Nat).contains 5)&&decide (L.length<=1073741824))=true:=by
    simp only[zaa,zfa];exact⟨⟨a.1.1,rfl⟩,hlen⟩
   rw[zna this]
 refine yC hE hf r hr q f O R hR p ?_;unfold Fi;rw[U,zba,zna (show(σL s'.nt o it X).nt=s'.nt from rfl),DN h3 hp];rfl
end
end Sy
end
noncomputable section
namespace Go.Proofs
open Go.Shelf
def acm:Go.Shelf.Ren:=⟨λ|6=>177|15=>213|14=>212|28=>219|29=>231|20=>223|21=>224|22=>225|23=>226|24=>227|25=>228|26=>229|27=>230|46=>242|47=>243|48=>244|49=>245|50=>246|57=>251|n=>n,λ|22=>137|24=>140|25=>187|3=>3|39=>130|0=>0|53=>33|55=>128|4=>4|46=>221|45=>220|50=>154|5=>5|9=>9|66=>232|70=>236|76=>241|77=>242|n=>n,λ|n=>n⟩
def acl:Go.Proofs.SlLaysF0.n6 Tryz.prog acm:={
 mixed:=u3
 f6:=⟨Tryz.f177.name,j2,Tryz.func177.trans (zma some u3)⟩
 f14:=⟨Tryz.f212.name,j2,Tryz.func212.trans (zma some u3)⟩
 f15:=Tryz.func213.trans (zma some u3)
 f20:=⟨Tryz.f223.name,j2,Tryz.func223.trans (zma some u3)⟩
 f21:=⟨Tryz.f224.name,j2,Tryz.func224.trans (zma some u3)⟩
 f22:=⟨Tryz.f225.name,j2,Tryz.func225.trans (zma some u3)⟩
 f23:=⟨Tryz.f226.name,j2,Tryz.func226.trans (zma some u3)⟩
 f24:=⟨Tryz.f227.name,j2,Tryz.func227.trans (zma some u3)⟩
 f25:=⟨Tryz.f228.name,j2,Tryz.func228.trans (zma some u3)⟩
 f26:=⟨Tryz.f229.name,j2,Tryz.func229.trans (zma some u3)⟩
 f27:=⟨Tryz.f230.name,j2,Tryz.func230.trans (zma some u3)⟩
 f28:=Tryz.func219.trans (zma some u3)
 f29:=Tryz.func231.trans (zma some u3)
 f46:=⟨Tryz.f242.name,j2,Tryz.func242.trans (zma some u3)⟩
 f47:=Tryz.func243.trans (zma some u3)
 f48:=Tryz.func244.trans (zma some u3)
 f49:=⟨Tryz.f245.name,j2,Tryz.func245.trans (zma some u3)⟩
 f50:=⟨Tryz.f246.name,j2,Tryz.func246.trans (zma some u3)⟩
 f57:=⟨Tryz.f251.name,j2,Tryz.func251.trans (zma some u3)⟩
 t0:=Tryz.underlying0
 a0:=Tryz.isAgg0
 z0:=Tryz.sizeOf0
 v0:=Tryz.zeroValue0
 t3:=Tryz.underlying3
 a3:=Tryz.isAgg3
 z3:=Tryz.sizeOf3
 v3:=Tryz.zeroValue3
 t4:=Tryz.underlying4
 a4:=Tryz.isAgg4
 z4:=Tryz.sizeOf4
 v4:=Tryz.zeroValue4
 t5:=Tryz.underlying5
 a5:=Tryz.isAgg5
 z5:=Tryz.sizeOf5
 v5:=Tryz.zeroValue5
 t9:=Tryz.underlying9
 a9:=Tryz.isAgg9
 z9:=Tryz.sizeOf9
 v9:=Tryz.zeroValue9
 t22:=Tryz.underlying137
 a22:=Tryz.isAgg137
 z22:=Tryz.sizeOf137
 v22:=Tryz.zeroValue137
 t25:=Tryz.underlying187
 a25:=Tryz.isAgg187
 z25:=Tryz.sizeOf187
 v25:=Tryz.zeroValue187
 t39:=Tryz.underlying130
 a39:=Tryz.isAgg130
 z39:=Tryz.sizeOf130
 v39:=Tryz.zeroValue130
 t45:=Tryz.underlying220
 a45:=Tryz.isAgg220
 z45:=Tryz.sizeOf220
 v45:=Tryz.zeroValue220
 t46:=Tryz.underlying221
 a46:=Tryz.isAgg221
 z46:=Tryz.sizeOf221
 v46:=Tryz.zeroValue221
 t50:=Tryz.underlying154
 a50:=Tryz.isAgg154
 z50:=Tryz.sizeOf154
 v50:=Tryz.zeroValue154
 t53:=Tryz.underlying33
 a53:=Tryz.isAgg33
 z53:=Tryz.sizeOf33
 v53:=Tryz.zeroValue33
 t55:=Tryz.underlying128
 a55:=Tryz.isAgg128
 z55:=Tryz.sizeOf128
 v55:=Tryz.zeroValue128
 t66:=Tryz.underlying232
 a66:=Tryz.isAgg232
 z66:=Tryz.sizeOf232
 v66:=Tryz.zeroValue232
 t70:=Tryz.underlying236
 a70:=Tryz.isAgg236
 z70:=Tryz.sizeOf236
 v70:=Tryz.zeroValue236
 t76:=Tryz.underlying241
 a76:=Tryz.isAgg241
 z76:=Tryz.sizeOf241
 v76:=Tryz.zeroValue241
 t77:=Tryz.underlying242
 a77:=Tryz.isAgg242
 z77:=Tryz.sizeOf242
 v77:=Tryz.zeroValue242 }
def ack:Go.Shelf.Ren:=⟨λ|6=>190|15=>213|14=>218|28=>219|29=>231|20=>233|21=>234|22=>235|23=>236|24=>237|25=>238|26=>239|27=>240|46=>248|47=>243|48=>244|49=>249|50=>250|57=>252|n=>n,λ|22=>132|24=>134|25=>197|3=>3|39=>130|0=>0|53=>33|55=>128|4=>4|46=>221|45=>220|50=>154|5=>5|9=>9|66=>232|70=>236|76=>241|77=>242|n=>n,λ|n=>n⟩
def acj:Go.Proofs.SlLaysF0.n6 Tryz.prog ack:={
 mixed:=u3
 f6:=⟨Tryz.f190.name,j2,Tryz.func190.trans (zma some u3)⟩
 f14:=⟨Tryz.f218.name,j2,Tryz.func218.trans (zma some u3)⟩
 f15:=Tryz.func213.trans (zma some u3)
 f20:=⟨Tryz.f233.name,j2,Tryz.func233.trans (zma some u3)⟩
 f21:=⟨Tryz.f234.name,j2,Tryz.func234.trans (zma some u3)⟩
 f22:=⟨Tryz.f235.name,j2,Tryz.func235.trans (zma some u3)⟩
 f23:=⟨Tryz.f236.name,j2,Tryz.func236.trans (zma some u3)⟩
 f24:=⟨Tryz.f237.name,j2,Tryz.func237.trans (zma some u3)⟩
 f25:=⟨Tryz.f238.name,j2,Tryz.func238.trans (zma some u3)⟩
 f26:=⟨Tryz.f239.name,j2,Tryz.func239.trans (zma some u3)⟩
 f27:=⟨Tryz.f240.name,j2,Tryz.func240.trans (zma some u3)⟩
 f28:=Tryz.func219.trans (zma some u3)
 f29:=Tryz.func231.trans (zma some u3)
 f46:=⟨Tryz.f248.name,j2,Tryz.func248.trans (zma some u3)⟩
 f47:=Tryz.func243.trans (zma some u3)
 f48:=Tryz.func244.trans (zma some u3)
 f49:=⟨Tryz.f249.name,j2,Tryz.func249.trans (zma some u3)⟩
 f50:=⟨Tryz.f250.name,j2,Tryz.func250.trans (zma some u3)⟩
 f57:=⟨Tryz.f252.name,j2,Tryz.func252.trans (zma some u3)⟩
 t0:=Tryz.underlying0
 a0:=Tryz.isAgg0
 z0:=Tryz.sizeOf0
 v0:=Tryz.zeroValue0
 t3:=Tryz.underlying3
 a3:=Tryz.isAgg3
 z3:=Tryz.sizeOf3
 v3:=Tryz.zeroValue3
 t4:=Tryz.underlying4
 a4:=Tryz.isAgg4
 z4:=Tryz.sizeOf4
 v4:=Tryz.zeroValue4
 t5:=Tryz.underlying5
 a5:=Tryz.isAgg5
 z5:=Tryz.sizeOf5
 v5:=Tryz.zeroValue5
 t9:=Tryz.underlying9
 a9:=Tryz.isAgg9
 z9:=Tryz.sizeOf9
 v9:=Tryz.zeroValue9
 t22:=Tryz.underlying132
 a22:=Tryz.isAgg132
 z22:=Tryz.sizeOf132
 v22:=Tryz.zeroValue132
 t25:=Tryz.underlying197
 a25:=Tryz.isAgg197
 z25:=Tryz.sizeOf197
 v25:=Tryz.zeroValue197
 t39:=Tryz.underlying130
 a39:=Tryz.isAgg130
 z39:=Tryz.sizeOf130
 v39:=Tryz.zeroValue130
 t45:=Tryz.underlying220
 a45:=Tryz.isAgg220
 z45:=Tryz.sizeOf220
 v45:=Tryz.zeroValue220
 t46:=Tryz.underlying221
 a46:=Tryz.isAgg221
 z46:=Tryz.sizeOf221
 v46:=Tryz.zeroValue221
 t50:=Tryz.underlying154
 a50:=Tryz.isAgg154
 z50:=Tryz.sizeOf154
 v50:=Tryz.zeroValue154
 t53:=Tryz.underlying33
 a53:=Tryz.isAgg33
 z53:=Tryz.sizeOf33
 v53:=Tryz.zeroValue33
 t55:=Tryz.underlying128
 a55:=Tryz.isAgg128
 z55:=Tryz.sizeOf128
 v55:=Tryz.zeroValue128
 t66:=Tryz.underlying232
 a66:=Tryz.isAgg232
 z66:=Tryz.sizeOf232
 v66:=Tryz.zeroValue232
 t70:=Tryz.underlying236
 a70:=Tryz.isAgg236
 z70:=Tryz.sizeOf236
 v70:=Tryz.zeroValue236
 t76:=Tryz.underlying241
 a76:=Tryz.isAgg241
 z76:=Tryz.sizeOf241
 v76:=Tryz.zeroValue241
 t77:=Tryz.underlying242
 a77:=Tryz.isAgg242
 z77:=Tryz.sizeOf242
 v77:=Tryz.zeroValue242 }
end Go.Proofs
end
noncomputable section
namespace Sy
open Go Go.Proofs Go.Shelf Go.RowKit Go.Lib Go.Sort
def RF {P : Program} {f : Nat} (h : (match P.funcs[f]? with | some fn => !(fn.name == "runtime.NumGoroutine") && fn.body.isSome | none => false) = true) : ∃ fn, P.funcs[f]? = some fn /\ (fn.name == "runtime.NumGoroutine") = false /\ fn.body.isSome = true := by
 split at h
 ·rename_i fn hf;simp only[zaa,zTa] at h;exact⟨fn,hf,h.1,h.2⟩
 ·cases h
def JU:SortOk Tryz.prog 190 K8:=
 ⟨rfl,rfl,j2,rfl,RF u3,λp cap fv w=>AnyF.slices_SortFunc_none acj p cap fv w,
  λ_ _ enc hk h1 e hO g b off cap d w f a hH hblk c=>AnyQ.slices_SortFunc acj 2 Tryz.isAgg134 Tryz.sizeOf134 enc hk h1 e hO g #[] b off cap d w f a hH hblk c⟩
def JV:SortOk Tryz.prog 177 dX:=
 ⟨rfl,rfl,j2,rfl,RF u3,λp cap fv w=>AnyF.slices_SortFunc_none acl p cap fv w,
  λ_ _ enc hk h1 e hO g b off cap d w f a hH hblk c=>AnyQ.slices_SortFunc acl 4 Tryz.isAgg140 Tryz.sizeOf140 enc hk h1 e hO g #[] b off cap d w f a hH hblk c⟩
end Sy
end
noncomputable section
set_option maxHeartbeats 0
namespace Sy
open Go Go.Proofs
def Ox:Code->Code|.block _ c=>c|c=>c
def inLoop:Code->Code|.loop c=>c|c=>c
def Zo:Code->Code|.seq a _=>a|c=>c
def Tt:Code->Code|.seq _ b=>b|c=>c
def RW:Code->List Oper|.region _ o _=>o.toList|_=>[]
def SJ:AnnT:=(.seq .leaf (.seq .leaf (.seq (.two .leaf (.two (.loop ⟨[(3,.ow K8),(12,.dv (Ty.int .i64))],[],[10,11]⟩ [(.exit 0,⟨[(3,.ow K8)],[],[]⟩)] (.two .leaf (.two .leaf (.two (.two (.two .leaf (.two .leaf (.two (.loop ⟨[(3,.ow K8),(5,.same (.ptr K6 24581 [])),(19,.dv (Ty.int .i64))],[(24581,.keep K6 5)],[10,11,12,17,18]⟩ [(.exit 2,⟨[(3,.ow K8)],[],[10,11,12]⟩)] (.two .leaf (.two .leaf (.cut [(.normal,⟨[(3,.ow K8),(5,.same (.ptr K6 24581 []))],[(24581,.keep K6 5)],[10,11,12,17,18,19]⟩)] [10,11,12,17,18,19] [24581] (.two (.two .leaf (.two (.reg [] 10) .leaf)) .leaf) .leaf)))) .leaf))) .leaf) .leaf)))) .leaf)) .hand)))
def Qn(lp:Lp)(call:Nat->List D->Option D)(a0:D):Option D:=
 (call 18 [a0]).bind λr1=>
 (D.asSl r1).bind λi=>
 Option.bind (lp (β:=Nat×List D) (λ(v3:List D)=>
 (abG .lss (gx v3 1) (D.int .i64 (List.length i))).bind λz=>
 (D.truth z).bind λx=>
 if x then((D.asSl r1).bind λv=>
 (D.idx (gx v3 1) (List.length v)).bind λi7=>
 (v[i7]?).bind λu=>
 (D.get u [2]).bind λw=>
 (D.asSl w).bind λh=>
 Option.bind (lp (β:=Nat×List D) (λ(v11:List D)=>
 (abG .lss (gx v11 1) (D.int .i64 (List.length h))).bind λm=>
 (D.truth m).bind λf=>
 if f then(Option.bind ((D.asSl w).bind λc=>
 (D.idx (gx v11 1) (List.length c)).bind λi15=>
 (c[i15]?).bind λa=>
 (D.get u [2]).bind λn=>
 (abG .add (gx v11 1) (D.int .i64 1)).bind λo=>
 (D.get u [2]).bind λp=>
 (D.asSl p).bind λj=>
 (abG .rem o (D.int .i64 (List.length j))).bind λq=>
 (D.asSl n).bind λd=>
 (D.idx q (List.length d)).bind λOw=>
 (d[Ow]?).bind λb=>
 (abG .lss a b).bind λr=>
 (D.truth r).bind λg=>
 if g then(if List.length (D.els (gx v11 0))+List.length [(D.st [a,b])]<=1073741824 then(some (0,[(D.sl ((D.els (gx v11 0))++[(D.st [a,b])]))])) else none) else(some (0,[(D.sl (D.els (gx v11 0)))]))) λ(k:Nat×List D)=>
 (abG .add (gx v11 1) (D.int .i64 1)).bind λs=>
 some (Sum.inl [(D.sl (D.els (gx k.2 0))),s])) else(some (Sum.inr (0,[(D.sl (D.els (gx v11 0)))])))) [(D.sl (D.els (gx v3 0))),(D.int .i64 0)]) λl=>
 (abG .add (gx v3 1) (D.int .i64 1)).bind λt=>
 some (Sum.inl [(D.sl (D.els (gx l.2 0))),t])) else(some (Sum.inr (0,[(D.sl (D.els (gx v3 0)))])))) [(D.sl []),(D.int .i64 0)]) λe=>
 Option.bind (if decide (List.length (D.els (gx e.2 0))<=1073741824) then some (D.els (gx e.2 0)) else none) λy=>
 (ki (c9 lp call (jW lp call)) (cz 51) y).bind λi=>some (D.sl i)
def ZT(lp:Lp)(call:Nat->List D->Option D)(a0:D):MP (c9 lp call (jW lp call)) (Fi (c9 lp call (jW lp call)) 48 3 (cz 51) K8) Tryz.f139 SJ [K3] [a0]=Qn lp call a0:=u3
def Qz:AnnT:=(.seq .leaf (.seq .leaf (.seq (.two .leaf (.two (.loop ⟨[(3,.same (.map dX Ty.bool 8204)),(15,.dv (Ty.int .i64))],[(8204,.mp dX Ty.bool)],[0,14]⟩ [(.exit 0,⟨[(3,.same (.map dX Ty.bool 8204))],[(8204,.mp dX Ty.bool)],[]⟩)] (.two .leaf (.two .leaf (.two (.two (.two .leaf (.two .leaf (.two (.loop ⟨[(3,.same (.map dX Ty.bool 8204)),(19,.dv (Ty.int .i64))],[(8204,.mp dX Ty.bool)],[0,4,14,15,18]⟩ [(.exit 2,⟨[(3,.same (.map dX Ty.bool 8204))],[(8204,.mp dX Ty.bool)],[0,14,15]⟩)] (.two .leaf (.two .leaf (.two (.two (.two .leaf (.two .leaf (.two (.loop ⟨[(3,.same (.map dX Ty.bool 8204)),(23,.dv (Ty.int .i64))],[(8204,.mp dX Ty.bool)],[0,4,5,14,15,18,19,22]⟩ [(.exit 4,⟨[(3,.same (.map dX Ty.bool 8204))],[(8204,.mp dX Ty.bool)],[0,4,14,15,18,19]⟩)] (.two .leaf (.two .leaf (.cut [(.normal,⟨[(3,.same (.map dX Ty.bool 8204))],[(8204,.mp dX Ty.bool)],[0,4,5,14,15,18,19,22,23]⟩)] [0,4,5,14,15,18,19,22,23] [] (.two (.two .leaf (.two (.reg [] 14) (.two .leaf (.two .leaf (.two (.loop ⟨[(3,.same (.map dX Ty.bool 8204)),(51,.ow dX),(53,.dv (Ty.int .i64))],[(8204,.mp dX Ty.bool)],[0,4,5,14,15,18,19,22,23,52]⟩ [(.exit 6,⟨[(3,.same (.map dX Ty.bool 8204))],[(8204,.mp dX Ty.bool)],[0,4,5,14,15,18,19,22,23]⟩)] (.two .leaf (.two .leaf (.cut [(.normal,⟨[(3,.same (.map dX Ty.bool 8204)),(51,.ow dX)],[(8204,.mp dX Ty.bool)],[0,4,5,14,15,18,19,22,23,52,53]⟩)] [0,4,5,14,15,18,19,22,23,52,53] [] .leaf .leaf)))) .leaf))))) .leaf) .leaf)))) .leaf))) .leaf) .leaf)))) .leaf))) .leaf) .leaf)))) .leaf)) (.seq .leaf .hand))))
def Qo(lp:Lp)(call:Nat->List D->Option D)(a0:D):Option D:=
 (D.asSl a0).bind λL=>
 Option.bind (lp (β:=Nat×List D) (λ(v2:List D)=>
 (abG .lss (gx v2 0) (D.int .i64 (List.length L))).bind λN=>
 (D.truth N).bind λJ=>
 if J then(Option.bind (lp (β:=Nat×List D) (λ(v5:List D)=>
 (abG .lss (gx v5 0) (gx v2 0)).bind λO=>
 (D.truth O).bind λK=>
 if K then(Option.bind (lp (β:=Nat×List D) (λ(d:List D)=>
 (abG .lss (gx d 0) (gx v5 0)).bind λP=>
 (D.truth P).bind λj=>
 if j then(Option.bind ((D.asSl a0).bind λe=>
 (D.idx (gx v2 0) (List.length e)).bind λAI=>
 (e[AI]?).bind λv=>
 (D.asSl a0).bind λf=>
 (D.idx (gx v5 0) (List.length f)).bind λi15=>
 (f[i15]?).bind λw=>
 (D.asSl a0).bind λg=>
 (D.idx (gx d 0) (List.length g)).bind λi18=>
 (g[i18]?).bind λx=>
 (call 96 [v,w,x]).bind λb=>
 (D.get b [0]).bind λy=>
 (D.truth (D.bool (D.beq y (D.st [(D.int .i64 0),(D.int .i64 0),(D.int .i64 0)])))).bind λk=>
 if k then(some (0,[(D.sl (D.els (gx d 1)))])) else((D.get b [0]).bind λz=>
 (call 97 [z]).bind λp=>
 (D.get b [1]).bind λA=>
 (abU .neg A).bind λB=>
 Option.bind (lp (β:=Nat×List D) (λ(a:List D)=>
 (abG .lss (gx a 1) (D.int .i64 2)).bind λC=>
 (D.truth C).bind λl=>
 if l then(Option.bind ((D.idx (gx a 1) (List.length (D.els (gx a 0)))).bind λi30=>
 ((D.els (gx a 0))[i30]?).bind λc=>
 (abU .not (Option.getD (abN (D.els (gx a 2)) c) (D.bool false))).bind λE=>
 (D.truth E).bind λm=>
 Option.bind (if m then((call 98 [a0,c]).bind λq=>
 D.truth q) else(some false)) λn=>
 (D.truth (D.bool n)).bind λo=>
 if o then(some (0,[(D.sl (D.els (gx a 0))),(D.sl (abO (D.els (gx a 2)) c (D.bool true)))])) else(some (0,[(D.sl (D.els (gx a 0))),(D.sl (D.els (gx a 2)))]))) λ(h:Nat×List D)=>
 (abG .add (gx a 1) (D.int .i64 1)).bind λF=>
 some (Sum.inl [(D.sl (D.els (gx h.2 0))),F,(D.sl (D.els (gx h.2 1)))])) else(some (Sum.inr (0,[(D.sl (D.els (gx a 2)))])))) [(D.sl [b,(D.st [p,B])]),(D.int .i64 0),(D.sl (D.els (gx d 1)))]) λr=>
 some (0,[(D.sl (D.els (gx r.2 0)))]))) λ(s:Nat×List D)=>
 (abG .add (gx d 0) (D.int .i64 1)).bind λG=>
 some (Sum.inl [G,(D.sl (D.els (gx s.2 0)))])) else(some (Sum.inr (0,[(D.sl (D.els (gx d 1)))])))) [(D.int .i64 0),(D.sl (D.els (gx v5 1)))]) λt=>
 (abG .add (gx v5 0) (D.int .i64 1)).bind λH=>
 some (Sum.inl [H,(D.sl (D.els (gx t.2 0)))])) else(some (Sum.inr (0,[(D.sl (D.els (gx v5 1)))])))) [(D.int .i64 0),(D.sl (D.els (gx v2 1)))]) λu=>
 (abG .add (gx v2 0) (D.int .i64 1)).bind λI=>
 some (Sum.inl [I,(D.sl (D.els (gx u.2 0)))])) else(some (Sum.inr (0,[(D.sl (D.els (gx v2 1)))])))) [(D.int .i64 0),(D.sl [])]) λi=>
 if decide (List.length (D.els (gx i.2 0))<=1073741824) then((ki (c9 lp call (jW lp call)) (cz 100) (List.map wS (D.els (gx i.2 0)))).bind λM=>some (D.sl M)) else none
def ZU(lp:Lp)(call:Nat->List D->Option D)(a0:D):MP (c9 lp call (jW lp call)) (Ae (c9 lp call (jW lp call)) 85 3 10 (cz 100) dX Ty.bool) Tryz.f128 Qz [K2] [a0]=Qo lp call a0:=u3
def OY(f:Func):Code:=match f.body with|some c=>c|none=>.skip
def Cg:Code:=Ox (Tt (Tt (inLoop (Ox (Tt (Zo (tA (OY Tryz.f128) Qz)))))))
def DE:List Oper:=(RW (Zo Cg)).tail
def Xi:Code:=Tt Cg
def Rs{lp:Lp}{call:Nat->List D->Option D}(a:EnvOk Tryz.prog (c9 lp call (jW lp call))){a0 y:D}(h:Qn lp call a0=some y):OP Tryz.prog [K3] K9 (cz 21) [a0] y:=by
 refine uI a (f:=cz 21) (fn:=Tryz.f139) (ann:=SJ) (K:=Fi (c9 lp call (jW lp call)) 48 3 (cz 51) K8) u3 u3 ((ZT lp call a0).trans h) ?_
 intro c d w S S' γ' β' s' a' w' b i hK;have e:∀ c',Tryz.f139.body=some c'->(tA c' SJ).wpIn (FW none) 0 Tryz.prog (N3 Tryz.prog Tryz.f139 w S K9 y) a' w'->(tA c SJ).wpIn (FW none) 0 Tryz.prog (N3 Tryz.prog Tryz.f139 w S K9 y) a' w':=λc' h1 h2=>by rw[d] at h1;cases h1;exact h2
 refine e _ rfl ?_;exact yC a JU (g:=191) ⟨u3,u3⟩ u3 (x:=3) (t:=45) (d2:=46) (nt:=48) (ann:=.leaf) rfl rfl j2 (λl'=>u3) b i hK
def Ny{lp:Lp}{call:Nat->List D->Option D}:∀ X L k v,OB dX L X->L.length<1073741824->wt dX k->ev (c9 lp call (jW lp call)) (.region 0 (DE).toArray false) .leaf D ((σL 85 10 73 X).put (some 76) (.d (.tup [dX,.bool]) (.tup [k,v]))) (λx s'=>match x with
   | .normal=>ev (c9 lp call (jW lp call)) Xi .leaf D s' (λx a=>match x with|.normal=>(dQ a dX 10).bind λl=>some (.sl l)|_=>none)
   | _=>none)=some (.sl (L++[k])):=by
 intro X L k v b hL _;rcases b with⟨rfl,rfl⟩|rfl
 ·kernel_rfl
 ·have key:ev (c9 lp call (jW lp call)) (.region 0 (DE).toArray false) .leaf D ((σL 85 10 73 (.own dX 5 L)).put (some 76) (.d (.tup [dX,.bool]) (.tup [k,v]))) (λx s'=>match x with
   | .normal=>ev (c9 lp call (jW lp call)) Xi .leaf D s' (λx a=>match x with|.normal=>(dQ a dX 10).bind λl=>some (.sl l)|_=>none)
   | _=>none)=(if List.length L+List.length [k]<=1073741824 then(Option.bind (if decide (List.length (L++[k])<=1073741824) then some (L++[k]) else none) λl=>some (.sl l)) else none):=u3
  rw[key,zna (by simp;omega),zna (by simp;omega)]
  rfl
def Rt{lp:Lp}{call:Nat->List D->Option D}(a:EnvOk Tryz.prog (c9 lp call (jW lp call))){a0 y:D}(h:Qo lp call a0=some y):OP Tryz.prog [K2] Qr (cz 45) [a0] y:=by
 refine uI a (f:=cz 45) (fn:=Tryz.f128) (ann:=Qz) (K:=Ae (c9 lp call (jW lp call)) 85 3 10 (cz 100) dX .bool) u3 u3 ((ZU lp call a0).trans h) ?_
 intro c d w S S' γ' β' s' a' w' b i hK;have e:∀ c',Tryz.f128.body=some c'->(tA c' Qz).wpIn (FW none) 0 Tryz.prog (N3 Tryz.prog Tryz.f128 w S Qr y) a' w'->(tA c Qz).wpIn (FW none) 0 Tryz.prog (N3 Tryz.prog Tryz.f128 w S Qr y) a' w':=λc' h1 h2=>by rw[d] at h1;cases h1;exact h2
 refine e _ rfl ?_;exact DH a rfl rfl rfl rfl u3 (t72:=72) (m0:=3) (it:=73) (T:=183) (nx:=74) (ok:=75) (en:=76) (o:=10) (nt:=85) (c26:=Xi) (rest:=DE) rfl rfl rfl rfl (TK:=140) (TV:=4) u3 j2 Ny JV (g:=178) ⟨u3,u3⟩ (t:=82) (d2:=83) (ann:=.leaf) rfl rfl j2 (λl'=>u3) b i hK
end Sy
end
noncomputable section
namespace Sy
open Go Go.Proofs
def L21{lp:Lp}(a:av lp):ae 21 (m1 (Qn lp)):=by
 intro call hc b c xs y hs hy hw;have:qx (cz 21)=some ([K3],K9):=u3
 rw[this] at hs;cases hs;unfold m1 at hy;split at hy<;>first|(cases hy;done)|skip
 have h0:j8 (cz 21)=0:=u3
 rw[h0];exact⟨Rs (Ry a hc) hy,λh=>by rw[show qm (cz 21)=false by kernel_rfl] at h;cases h⟩
def L45{lp:Lp}(a:av lp):ae 45 (m1 (Qo lp)):=by
 intro call hc b c xs y hs hy hw;have:qx (cz 45)=some ([K2],Qr):=u3
 rw[this] at hs;cases hs;unfold m1 at hy;split at hy<;>first|(cases hy;done)|skip
 have h0:j8 (cz 45)=0:=u3
 rw[h0];exact⟨Rt (Ry a hc) hy,λh=>by rw[show qm (cz 45)=false by kernel_rfl] at h;cases h⟩
end Sy
end
end Go.Proofs.YtphlmegkommlnaaGreatDoor
