/- Part 9 of the proof that EnergyOfPaths answers true at every input -/
import Derived.Test.YtpahompifldeeaaGreatPaths06
import Derived.Test.YtpahompifldeeaaGreatPaths07
import Derived.Test.YtpahompifldeeaaGreatPaths08
import Derived.Maps.RangeRun
import Derived.Shelf.SlSortCmp.NoneTotal
import Derived.Ground.SlsfProg
import Derived.KernelRfl
import Derived.Test.YtpahompifldeeaaGreatProg
import Derived.Test.YtpahompifldeeaaGreatChecked
set_option linter.unusedVariables false
set_option linter.unusedSimpArgs false
set_option linter.unnecessarySimpa false
set_option maxRecDepth 20000
namespace Go.Proofs.YtpahompifldeeaaGreat
noncomputable section
set_option maxHeartbeats 0
noncomputable section
namespace Sy
open Go Go.Proofs
def Lg:Ann:=(.tl (.two (.regI [] 3 (.two (.tl (.two (.regI [] 4 (.two (.tl (.tl (.two (.tl (.two (.loop ⟨[(3,.ow K6),(4,.di)],[(4098,.one K3 (.dv K3)),(4099,.one K3 (.dv K3))],[0]⟩ [(.exit 0,⟨[(3,.ow K6)],[(4098,.one K3 (.dv K3)),(4099,.one K3 (.dv K3))],[]⟩)] (.tl (.two (.two (.tl (.two (.loop ⟨[(3,.ow K6),(5,.di)],[(4098,.one K3 (.dv K3)),(4099,.one K3 (.dv K3))],[0,4]⟩ [(.exit 2,⟨[(3,.ow K6)],[(4098,.one K3 (.dv K3)),(4099,.one K3 (.dv K3))],[0,4]⟩)] (.tl (.two (.two (.tl (.two (.loop ⟨[(3,.ow K6),(6,.di)],[(4098,.one K3 (.dv K3)),(4099,.one K3 (.dv K3))],[0,4,5]⟩ [(.exit 4,⟨[(3,.ow K6)],[(4098,.one K3 (.dv K3)),(4099,.one K3 (.dv K3))],[0,4,5]⟩)] (.tl (.two (.two (.two (.reg [] 14) (.tl (.two (.loop ⟨[(3,.ow K6),(7,.sp K1 73735),(8,.di)],[(4098,.one K3 (.dv K3)),(4099,.one K3 (.dv K3)),(73735,.one K1 (.dv K1))],[0,4,5,6]⟩ [(.exit 6,⟨[(3,.ow K6)],[(4098,.one K3 (.dv K3)),(4099,.one K3 (.dv K3))],[0,4,5,6]⟩)] (.tl (.two (.two (.two (.reg [] 6) (.tl (.tl (.cut [(.normal,⟨[(3,.ow K6),(7,.sp K1 73735)],[(4098,.one K3 (.dv K3)),(4099,.one K3 (.dv K3)),(73735,.keep K1 7)],[0,4,5,6,8]⟩)] [0,4,5,6,8] [73735] (.tl (.two (.regI [] 10 (.two (.tl (.tl (.tl (.two (.tl (.two (.loop ⟨[(0,.dv K7),(3,.sp K6 114691),(5,.ow K6),(6,.dv Ty.bool),(7,.di)],[(4098,.one K3 (.dv K3)),(4099,.one K3 (.dv K3)),(73735,.one K1 (.dv K1)),(114691,.one K6 (.st [K1,Ti,K5] [.dv K1,.di,.dv K5]))],[]⟩ [(.exit 0,⟨[(3,.sp K6 114691),(5,.ow K6),(6,.dv Ty.bool)],[(4098,.one K3 (.dv K3)),(4099,.one K3 (.dv K3)),(73735,.one K1 (.dv K1)),(114691,.one K6 (.st [K1,Ti,K5] [.dv K1,.di,.dv K5]))],[]⟩)] (.tl (.two (.two (.two (.reg [] 8) (.cut [(.normal,⟨[(3,.sp K6 114691),(5,.ow K6),(6,.dv Ty.bool)],[(4098,.one K3 (.dv K3)),(4099,.one K3 (.dv K3)),(73735,.one K1 (.dv K1)),(114691,.one K6 (.st [K1,Ti,K5] [.dv K1,.di,.dv K5]))],[0,7]⟩)] [0,7] [] .leaf .leaf)) .leaf) .leaf))) .leaf)) (.cut [(.normal,⟨[(5,.ow K6)],[(4098,.one K3 (.dv K3)),(4099,.one K3 (.dv K3)),(73735,.one K1 (.dv K1))],[]⟩)] [] [] .leaf .leaf))))) .leaf)) .leaf)) .leaf)))) .leaf) .leaf))) .leaf))) .leaf) .leaf))) .leaf)) .leaf) .leaf))) .leaf)) .leaf) .leaf))) .leaf)) .leaf))) .leaf)) .leaf)) .leaf)) (.two (.regI [] 5 (.two (.tl (.two (.regI [] 4 (.two (.tl (.tl (.two (.tl (.two (.loop ⟨[(3,.ow K6),(4,.di)],[(4098,.one K3 (.dv K3)),(4099,.one K3 (.dv K3))],[0]⟩ [(.exit 0,⟨[(3,.ow K6)],[(4098,.one K3 (.dv K3)),(4099,.one K3 (.dv K3))],[]⟩)] (.tl (.two (.two (.tl (.two (.loop ⟨[(3,.ow K6),(5,.di)],[(4098,.one K3 (.dv K3)),(4099,.one K3 (.dv K3))],[0,4]⟩ [(.exit 2,⟨[(3,.ow K6)],[(4098,.one K3 (.dv K3)),(4099,.one K3 (.dv K3))],[0,4]⟩)] (.tl (.two (.two (.tl (.two (.loop ⟨[(3,.ow K6),(6,.di)],[(4098,.one K3 (.dv K3)),(4099,.one K3 (.dv K3))],[0,4,5]⟩ [(.exit 4,⟨[(3,.ow K6)],[(4098,.one K3 (.dv K3)),(4099,.one K3 (.dv K3))],[0,4,5]⟩)] (.tl (.two (.two (.two (.reg [] 14) (.tl (.two (.loop ⟨[(3,.ow K6),(7,.sp K1 122887),(8,.di)],[(4098,.one K3 (.dv K3)),(4099,.one K3 (.dv K3)),(122887,.one K1 (.dv K1))],[0,4,5,6]⟩ [(.exit 6,⟨[(3,.ow K6)],[(4098,.one K3 (.dv K3)),(4099,.one K3 (.dv K3))],[0,4,5,6]⟩)] (.tl (.two (.two (.two (.reg [] 6) (.tl (.tl (.cut [(.normal,⟨[(3,.ow K6),(7,.sp K1 122887)],[(4098,.one K3 (.dv K3)),(4099,.one K3 (.dv K3)),(122887,.keep K1 7)],[0,4,5,6,8]⟩)] [0,4,5,6,8] [122887] (.tl (.two (.regI [] 10 (.two (.tl (.tl (.tl (.two (.tl (.two (.loop ⟨[(0,.dv K7),(3,.sp K6 163843),(5,.ow K6),(6,.dv Ty.bool),(7,.di)],[(4098,.one K3 (.dv K3)),(4099,.one K3 (.dv K3)),(122887,.one K1 (.dv K1)),(163843,.one K6 (.st [K1,Ti,K5] [.dv K1,.di,.dv K5]))],[]⟩ [(.exit 0,⟨[(3,.sp K6 163843),(5,.ow K6),(6,.dv Ty.bool)],[(4098,.one K3 (.dv K3)),(4099,.one K3 (.dv K3)),(122887,.one K1 (.dv K1)),(163843,.one K6 (.st [K1,Ti,K5] [.dv K1,.di,.dv K5]))],[]⟩)] (.tl (.two (.two (.two (.reg [] 8) (.cut [(.normal,⟨[(3,.sp K6 163843),(5,.ow K6),(6,.dv Ty.bool)],[(4098,.one K3 (.dv K3)),(4099,.one K3 (.dv K3)),(122887,.one K1 (.dv K1)),(163843,.one K6 (.st [K1,Ti,K5] [.dv K1,.di,.dv K5]))],[0,7]⟩)] [0,7] [] .leaf .leaf)) .leaf) .leaf))) .leaf)) (.cut [(.normal,⟨[(5,.ow K6)],[(4098,.one K3 (.dv K3)),(4099,.one K3 (.dv K3)),(122887,.one K1 (.dv K1))],[]⟩)] [] [] .leaf .leaf))))) .leaf)) .leaf)) .leaf)))) .leaf) .leaf))) .leaf))) .leaf) .leaf))) .leaf)) .leaf) .leaf))) .leaf)) .leaf) .leaf))) .leaf)) .leaf))) .leaf)) .leaf)) .leaf)) (.two (.tl (.two (.loop ⟨[(2,.sp K3 4098),(3,.sp K3 4099),(5,.ow K6),(6,.di)],[(4098,.keep K3 2),(4099,.keep K3 3)],[]⟩ [(.ret,⟨[(4,.dv Ty.bool)],[],[]⟩),(.exit 0,⟨[(2,.sp K3 4098),(3,.sp K3 4099)],[(4098,.keep K3 2),(4099,.keep K3 3)],[]⟩)] (.tl (.two (.two (.two (.reg [] 8) .leaf) .leaf) .leaf))) .leaf)) (.tl (.tl (.two (.tl (.two (.loop ⟨[(2,.sp K3 4098),(3,.sp K3 4099),(10,.di)],[(4098,.keep K3 2),(4099,.keep K3 3)],[8,9]⟩ [(.ret,⟨[(4,.dv Ty.bool)],[],[]⟩),(.exit 2,⟨[],[],[]⟩)] (.tl (.two (.two (.tl (.two (.loop ⟨[(2,.sp K3 4098),(3,.sp K3 4099),(11,.di)],[(4098,.keep K3 2),(4099,.keep K3 3)],[8,9,10]⟩ [(.ret,⟨[(4,.dv Ty.bool)],[],[]⟩),(.exit 4,⟨[(2,.sp K3 4098),(3,.sp K3 4099)],[(4098,.keep K3 2),(4099,.keep K3 3)],[8,9,10]⟩)] (.tl (.two (.two (.two (.reg [] 11) .leaf) .leaf) .leaf))) .leaf)) .leaf) .leaf))) .leaf)) .leaf)))))))
def Eb(lp:Lp)(call:Ca)(a0:D)(a1:D):Option D:=
(D.get a0 [0]).bind fun x1=>
(lp (β:=Nat×List D) (fun v2=>
(D.asSl x1).bind fun l3=>
(D.bin .lss (gx v2 1) (Jn (l3.length))).bind fun x4=>
(D.truth x4).bind fun b5=>
 if b5 then((D.bin .add (gx v2 1) (Jn 1)).bind fun x6=>
(lp (β:=Nat×List D) (fun v7=>
(D.asSl x1).bind fun l8=>
(D.bin .lss (gx v7 1) (Jn (l8.length))).bind fun x9=>
(D.truth x9).bind fun b10=>
 if b10 then((D.bin .add (gx v7 1) (Jn 1)).bind fun x11=>
(lp (β:=Nat×List D) (fun v12=>
(D.asSl x1).bind fun l13=>
(D.bin .lss (gx v12 1) (Jn (l13.length))).bind fun x14=>
(D.truth x14).bind fun b15=>
 if b15 then((D.asSl x1).bind fun l16=>
(D.idx (gx v2 1) (l16.length)).bind fun i17=>
(l16[i17]?).bind fun x18=>
(D.asSl x1).bind fun l19=>
(D.idx (gx v7 1) (l19.length)).bind fun i20=>
(l19[i20]?).bind fun x21=>
(D.asSl x1).bind fun l22=>
(D.idx (gx v12 1) (l22.length)).bind fun wP=>
(l22[wP]?).bind fun x24=>
(call 106 [x18,x21,x24]).bind fun r25=>
(lp (β:=Nat×List D) (fun v26=>
(D.bin .lss (gx v26 1) (Jn 2)).bind fun x27=>
(D.truth x27).bind fun b28=>
 if b28 then((D.asSl x1).bind fun l29=>
(D.idx (gx v2 1) (l29.length)).bind fun i30=>
(l29[i30]?).bind fun x31=>
(call 107 [(gx v26 4),x31]).bind fun r32=>
(call 108 [(D.sl ((gx v26 0).els)),(gx v26 4)]).bind fun r33=>
((D.un .not r33).bind fun x34=>
(D.truth x34).bind fun b35=>
(if b35 then((D.un .not (D.bool (D.beq (gx v26 4) (D.st [(Jn 0),(Jn 0),(Jn 0)])))).bind fun x36=>
 D.truth x36) else(some false)).bind fun b37=>
(D.truth (D.bool b37)).bind fun b38=>
(if b38 then((call 109 [x1,(gx v26 4),r32]).bind fun r39=>
 D.truth r39) else(some false)).bind fun b40=>
(D.truth (D.bool b40)).bind fun b41=>
 if b41 then((call 111 [x1,(gx v26 4),r32]).bind fun r42=>
(lp (β:=Nat×List D) (fun v43=>
(D.asSl (gx v43 0)).bind fun l44=>
(D.bin .lss (gx v43 3) (Jn (l44.length))).bind fun x45=>
(D.truth x45).bind fun b46=>
 if b46 then((D.asSl (gx v43 0)).bind fun l47=>
(D.idx (gx v43 3) (l47.length)).bind fun i48=>
(l47[i48]?).bind fun x49=>
(D.fld x49 0).bind fun x50=>
(call 105 [(gx v43 7),x50]).bind fun r51=>
((D.un .not (gx v43 2)).bind fun x52=>
(D.truth x52).bind fun b53=>
(if b53 then(D.truth r51) else(some false)).bind fun b54=>
(D.truth (D.bool b54)).bind fun b55=>
 if b55 then(if List.length ((gx v43 1).els)+List.length [(D.st [(gx v43 7),(gx v43 8),(gx v43 9)])]<=1073741824 then(some (0,[(D.sl (((gx v43 1).els)++[(D.st [(gx v43 7),(gx v43 8),(gx v43 9)])])),(D.bool true),(gx v43 4),(gx v43 5),(gx v43 6),(gx v43 7),(gx v43 8),(gx v43 9)])) else none) else(some (0,[(D.sl ((gx v43 1).els)),(gx v43 2),(gx v43 4),(gx v43 5),(gx v43 6),(gx v43 7),(gx v43 8),(gx v43 9)]))).bind fun(r56:Nat×List D)=>
(D.asSl (gx v43 0)).bind fun l57=>
(D.idx (gx v43 3) (l57.length)).bind fun i58=>
(l57[i58]?).bind fun x59=>
 if List.length ((gx r56.2 0).els)+List.length [x59]<=1073741824 then((D.bin .add (gx v43 3) (Jn 1)).bind fun x60=>
 some (Sum.inl [(gx v43 0),(D.sl (((gx r56.2 0).els)++[x59])),(gx r56.2 1),x60,(gx r56.2 2),(gx r56.2 3),(gx r56.2 4),(gx r56.2 5),(gx r56.2 6),(gx r56.2 7)])) else none) else(some (Sum.inr (0,[(D.sl ((gx v43 1).els)),(gx v43 2),(gx v43 4),(gx v43 5),(gx v43 6),(gx v43 7),(gx v43 8),(gx v43 9)])))) [(D.sl ((gx v26 0).els)),(D.sl []),(D.bool false),(Jn 0),(gx v26 2),(gx v26 3),(gx v26 4),(gx v26 4),r32,r42]).bind fun r61=>
((D.un .not (gx r61.2 1)).bind fun x62=>
(D.truth x62).bind fun b63=>
 if b63 then(if List.length ((gx r61.2 0).els)+List.length [(D.st [(gx r61.2 5),(gx r61.2 6),(gx r61.2 7)])]<=1073741824 then(some (0,[(D.sl (((gx r61.2 0).els)++[(D.st [(gx r61.2 5),(gx r61.2 6),(gx r61.2 7)])])),(gx r61.2 2),(gx r61.2 3),(gx r61.2 4)])) else none) else(some (0,[(D.sl ((gx r61.2 0).els)),(gx r61.2 2),(gx r61.2 3),(gx r61.2 4)]))).bind fun(r64:Nat×List D)=>
 some (0,[(D.sl ((gx r64.2 0).els)),(gx r64.2 1),(gx r64.2 2)])) else(some (0,[(D.sl ((gx v26 0).els)),(gx v26 2),(gx v26 3)]))).bind fun(r65:Nat×List D)=>
(call 112 [(D.st [(Jn 0),(Jn 0),(Jn 0)]),(gx v26 4)]).bind fun r66=>
(D.bin .add (gx v26 1) (Jn 1)).bind fun x67=>
 some (Sum.inl [(D.sl ((gx r65.2 0).els)),x67,(gx r65.2 1),(gx r65.2 2),r66])) else(some (Sum.inr (0,[(D.sl ((gx v26 0).els)),(gx v26 2),(gx v26 3)])))) [(D.sl ((gx v12 0).els)),(Jn 0),(gx v12 2),(gx v12 3),r25]).bind fun r68=>
(D.bin .add (gx v12 1) (Jn 1)).bind fun x69=>
 some (Sum.inl [(D.sl ((gx r68.2 0).els)),x69,(gx r68.2 1),(gx r68.2 2)])) else(some (Sum.inr (0,[(D.sl ((gx v12 0).els)),(gx v12 2),(gx v12 3)])))) [(D.sl ((gx v7 0).els)),x11,(gx v7 2),(gx v7 3)]).bind fun r70=>
(D.bin .add (gx v7 1) (Jn 1)).bind fun x71=>
 some (Sum.inl [(D.sl ((gx r70.2 0).els)),x71,(gx r70.2 1),(gx r70.2 2)])) else(some (Sum.inr (0,[(D.sl ((gx v7 0).els)),(gx v7 2),(gx v7 3)])))) [(D.sl ((gx v2 0).els)),x6,(gx v2 2),(gx v2 3)]).bind fun r72=>
(D.bin .add (gx v2 1) (Jn 1)).bind fun x73=>
 some (Sum.inl [(D.sl ((gx r72.2 0).els)),x73,(gx r72.2 1),(gx r72.2 2)])) else(some (Sum.inr (0,[(D.sl ((gx v2 0).els)),(gx v2 2),(gx v2 3)])))) [(D.sl []),(Jn 0),a0,a1]).bind fun r74=>
(D.get (gx r74.2 2) [0]).bind fun x75=>
(lp (β:=Nat×List D) (fun v76=>
(D.asSl x75).bind fun l77=>
(D.bin .lss (gx v76 1) (Jn (l77.length))).bind fun x78=>
(D.truth x78).bind fun b79=>
 if b79 then((D.bin .add (gx v76 1) (Jn 1)).bind fun x80=>
(lp (β:=Nat×List D) (fun v81=>
(D.asSl x75).bind fun l82=>
(D.bin .lss (gx v81 1) (Jn (l82.length))).bind fun x83=>
(D.truth x83).bind fun b84=>
 if b84 then((D.bin .add (gx v81 1) (Jn 1)).bind fun x85=>
(lp (β:=Nat×List D) (fun v86=>
(D.asSl x75).bind fun l87=>
(D.bin .lss (gx v86 1) (Jn (l87.length))).bind fun x88=>
(D.truth x88).bind fun b89=>
 if b89 then((D.asSl x75).bind fun l90=>
(D.idx (gx v76 1) (l90.length)).bind fun i91=>
(l90[i91]?).bind fun x92=>
(D.asSl x75).bind fun l93=>
(D.idx (gx v81 1) (l93.length)).bind fun i94=>
(l93[i94]?).bind fun x95=>
(D.asSl x75).bind fun l96=>
(D.idx (gx v86 1) (l96.length)).bind fun i97=>
(l96[i97]?).bind fun x98=>
(call 106 [x92,x95,x98]).bind fun r99=>
(lp (β:=Nat×List D) (fun v100=>
(D.bin .lss (gx v100 1) (Jn 2)).bind fun x101=>
(D.truth x101).bind fun b102=>
 if b102 then((D.asSl x75).bind fun l103=>
(D.idx (gx v76 1) (l103.length)).bind fun i104=>
(l103[i104]?).bind fun x105=>
(call 107 [(gx v100 4),x105]).bind fun r106=>
(call 108 [(D.sl ((gx v100 0).els)),(gx v100 4)]).bind fun r107=>
((D.un .not r107).bind fun x108=>
(D.truth x108).bind fun b109=>
(if b109 then((D.un .not (D.bool (D.beq (gx v100 4) (D.st [(Jn 0),(Jn 0),(Jn 0)])))).bind fun x110=>
 D.truth x110) else(some false)).bind fun b111=>
(D.truth (D.bool b111)).bind fun b112=>
(if b112 then((call 109 [x75,(gx v100 4),r106]).bind fun r113=>
 D.truth r113) else(some false)).bind fun b114=>
(D.truth (D.bool b114)).bind fun b115=>
 if b115 then((call 111 [x75,(gx v100 4),r106]).bind fun r116=>
(lp (β:=Nat×List D) (fun v117=>
(D.asSl (gx v117 0)).bind fun l118=>
(D.bin .lss (gx v117 3) (Jn (l118.length))).bind fun x119=>
(D.truth x119).bind fun b120=>
 if b120 then((D.asSl (gx v117 0)).bind fun l121=>
(D.idx (gx v117 3) (l121.length)).bind fun i122=>
(l121[i122]?).bind fun x123=>
(D.fld x123 0).bind fun x124=>
(call 105 [(gx v117 7),x124]).bind fun r125=>
((D.un .not (gx v117 2)).bind fun x126=>
(D.truth x126).bind fun b127=>
(if b127 then(D.truth r125) else(some false)).bind fun b128=>
(D.truth (D.bool b128)).bind fun b129=>
 if b129 then(if List.length ((gx v117 1).els)+List.length [(D.st [(gx v117 7),(gx v117 8),(gx v117 9)])]<=1073741824 then(some (0,[(D.sl (((gx v117 1).els)++[(D.st [(gx v117 7),(gx v117 8),(gx v117 9)])])),(D.bool true),(gx v117 4),(gx v117 5),(gx v117 6),(gx v117 7),(gx v117 8),(gx v117 9)])) else none) else(some (0,[(D.sl ((gx v117 1).els)),(gx v117 2),(gx v117 4),(gx v117 5),(gx v117 6),(gx v117 7),(gx v117 8),(gx v117 9)]))).bind fun(r130:Nat×List D)=>
(D.asSl (gx v117 0)).bind fun l131=>
(D.idx (gx v117 3) (l131.length)).bind fun i132=>
(l131[i132]?).bind fun x133=>
 if List.length ((gx r130.2 0).els)+List.length [x133]<=1073741824 then((D.bin .add (gx v117 3) (Jn 1)).bind fun x134=>
 some (Sum.inl [(gx v117 0),(D.sl (((gx r130.2 0).els)++[x133])),(gx r130.2 1),x134,(gx r130.2 2),(gx r130.2 3),(gx r130.2 4),(gx r130.2 5),(gx r130.2 6),(gx r130.2 7)])) else none) else(some (Sum.inr (0,[(D.sl ((gx v117 1).els)),(gx v117 2),(gx v117 4),(gx v117 5),(gx v117 6),(gx v117 7),(gx v117 8),(gx v117 9)])))) [(D.sl ((gx v100 0).els)),(D.sl []),(D.bool false),(Jn 0),(gx v100 2),(gx v100 3),(gx v100 4),(gx v100 4),r106,r116]).bind fun r135=>
((D.un .not (gx r135.2 1)).bind fun x136=>
(D.truth x136).bind fun b137=>
 if b137 then(if List.length ((gx r135.2 0).els)+List.length [(D.st [(gx r135.2 5),(gx r135.2 6),(gx r135.2 7)])]<=1073741824 then(some (0,[(D.sl (((gx r135.2 0).els)++[(D.st [(gx r135.2 5),(gx r135.2 6),(gx r135.2 7)])])),(gx r135.2 2),(gx r135.2 3),(gx r135.2 4)])) else none) else(some (0,[(D.sl ((gx r135.2 0).els)),(gx r135.2 2),(gx r135.2 3),(gx r135.2 4)]))).bind fun(r138:Nat×List D)=>
 some (0,[(D.sl ((gx r138.2 0).els)),(gx r138.2 1),(gx r138.2 2)])) else(some (0,[(D.sl ((gx v100 0).els)),(gx v100 2),(gx v100 3)]))).bind fun(r139:Nat×List D)=>
(call 112 [(D.st [(Jn 0),(Jn 0),(Jn 0)]),(gx v100 4)]).bind fun r140=>
(D.bin .add (gx v100 1) (Jn 1)).bind fun x141=>
 some (Sum.inl [(D.sl ((gx r139.2 0).els)),x141,(gx r139.2 1),(gx r139.2 2),r140])) else(some (Sum.inr (0,[(D.sl ((gx v100 0).els)),(gx v100 2),(gx v100 3)])))) [(D.sl ((gx v86 0).els)),(Jn 0),(gx v86 2),(gx v86 3),r99]).bind fun r142=>
(D.bin .add (gx v86 1) (Jn 1)).bind fun x143=>
 some (Sum.inl [(D.sl ((gx r142.2 0).els)),x143,(gx r142.2 1),(gx r142.2 2)])) else(some (Sum.inr (0,[(D.sl ((gx v86 0).els)),(gx v86 2),(gx v86 3)])))) [(D.sl ((gx v81 0).els)),x85,(gx v81 2),(gx v81 3)]).bind fun r144=>
(D.bin .add (gx v81 1) (Jn 1)).bind fun x145=>
 some (Sum.inl [(D.sl ((gx r144.2 0).els)),x145,(gx r144.2 1),(gx r144.2 2)])) else(some (Sum.inr (0,[(D.sl ((gx v81 0).els)),(gx v81 2),(gx v81 3)])))) [(D.sl ((gx v76 0).els)),x80,(gx v76 2),(gx v76 3)]).bind fun r146=>
(D.bin .add (gx v76 1) (Jn 1)).bind fun x147=>
 some (Sum.inl [(D.sl ((gx r146.2 0).els)),x147,(gx r146.2 1),(gx r146.2 2)])) else(some (Sum.inr (0,[(D.sl ((gx v76 0).els)),(gx v76 2),(gx v76 3)])))) [(D.sl []),(Jn 0),(gx r74.2 1),(gx r74.2 2)]).bind fun r148=>
 if List.length ((gx r74.2 0).els)+List.length ((gx r148.2 0).els)<=1073741824 then((lp (β:=Nat×List D) (fun v149=>
(D.bin .lss (gx v149 1) (Jn (List.length ((gx v149 0).els)))).bind fun x150=>
(D.truth x150).bind fun b151=>
 if b151 then((D.idx (gx v149 1) (List.length ((gx v149 0).els))).bind fun i152=>
(((gx v149 0).els)[i152]?).bind fun x153=>
(D.fld x153 0).bind fun x154=>
(call 376 [(gx r148.2 1),(gx r148.2 2),x154]).bind fun r155=>
(D.truth r155).bind fun b156=>
 if b156 then(some (Sum.inr (0,[(D.bool true)]))) else((D.bin .add (gx v149 1) (Jn 1)).bind fun x157=>
 some (Sum.inl [(D.sl ((gx v149 0).els)),x157]))) else(some (Sum.inr (1,[])))) [(D.sl (((gx r74.2 0).els)++((gx r148.2 0).els))),(Jn 0)]).bind fun r158=>
 if r158.1=0 then(some (gx r158.2 0)) else((call 377 [(gx r148.2 1)]).bind fun r159=>
(call 377 [(gx r148.2 2)]).bind fun r160=>
(lp (β:=Nat×List D) (fun v161=>
(D.asSl r159).bind fun l162=>
(D.bin .lss (gx v161 0) (Jn (l162.length))).bind fun x163=>
(D.truth x163).bind fun b164=>
 if b164 then((lp (β:=Nat×List D) (fun v165=>
(D.asSl r160).bind fun l166=>
(D.bin .lss (gx v165 0) (Jn (l166.length))).bind fun x167=>
(D.truth x167).bind fun b168=>
 if b168 then((D.asSl r159).bind fun l169=>
(D.idx (gx v161 0) (l169.length)).bind fun i170=>
(l169[i170]?).bind fun x171=>
(D.asSl r160).bind fun l172=>
(D.idx (gx v165 0) (l172.length)).bind fun i173=>
(l172[i173]?).bind fun x174=>
(call 379 [x171,x174]).bind fun r175=>
(call 378 [r175]).bind fun r176=>
(call 376 [(gx r148.2 1),(gx r148.2 2),r176]).bind fun r177=>
(D.truth r177).bind fun b178=>
 if b178 then(some (Sum.inr (0,[(D.bool true)]))) else((D.bin .add (gx v165 0) (Jn 1)).bind fun x179=>
 some (Sum.inl [x179]))) else(some (Sum.inr (1,[])))) [(Jn 0)]).bind fun r180=>
 if r180.1=0 then(some (Sum.inr (0,[(gx r180.2 0)]))) else((D.bin .add (gx v161 0) (Jn 1)).bind fun x181=>
 some (Sum.inl [x181]))) else(some (Sum.inr (1,[])))) [(Jn 0)]).bind fun r182=>
 if r182.1=0 then(some (gx r182.2 0)) else(some (D.bool false)))) else none
theorem Nr{lp}(hlp:ak lp):ac 363 (m2 (Eb lp)):=aO (v:=2) (fn:=Tryz.f130) (ann:=Lg) hlp
def Lh:Ann:=(.tl (.two (.two (.loop ⟨[(0,.di),(1,.di)],[],[]⟩ [(.exit 0,⟨[(0,.di)],[],[]⟩)] .leaf) .leaf) .leaf))
def Ec(lp:Lp)(call:Ca)(a0:D)(a1:D):Option D:=
(lp (β:=Nat×List D) (fun v1=>
(D.truth (D.bool (!(D.beq (gx v1 1) (Jn 0))))).bind fun b2=>
 if b2 then((D.bin .rem (gx v1 0) (gx v1 1)).bind fun x3=>
 some (Sum.inl [(gx v1 1),x3])) else(some (Sum.inr (0,[(gx v1 0)])))) [a0,a1]).bind fun r4=>
(D.un .neg (gx r4.2 0)).bind fun x5=>
(D.max2 (gx r4.2 0) x5).bind fun x6=>
 some x6
theorem Ns{lp}(hlp:ak lp):ac 364 (m2 (Ec lp)):=aO (v:=0) (fn:=Tryz.f131) (ann:=Lh) hlp
def Ed(lp:Lp)(call:Ca)(a0:D):Option D:=
(D.bin .lss a0 (Jn 0)).bind fun x1=>
(D.truth x1).bind fun b2=>
 if b2 then(some (Jn (-1))) else((D.min2 a0 (Jn 1)).bind fun x3=>
 some x3)
theorem Nt{lp}(hlp:ak lp):ac 365 (m1 (Ed lp)):=aU (v:=0) (fn:=Tryz.f132) (ann:=.leaf) hlp
def HO:Ann:=(.tl (.two (.regI [] 4 (.two (.tl (.two (.regI [] 5 (.two (.tl (.two (.tl (.two (.loop ⟨[(1,.same (.clo 180 [])),(8,.di)],[],[0,7]⟩ [(.ret,⟨[(4,.di)],[],[]⟩),(.exit 0,⟨[],[],[]⟩)] (.tl (.tl (.two (.two (.tl (.two (.regI [] 6 .leaf) .leaf)) .leaf) .leaf)))) .leaf)) .leaf)) .leaf)) .leaf)) .leaf)) .leaf))
theorem Nu{lp}(hlp:ak lp):ac 366 (cY 0 lp 366 Tryz.f137 HO):=bx hlp (by kernel_rfl) (by kernel_rfl)
def H4(lp:Lp)(call:Ca)(a0:D)(a1:D)(a2:D):Option D:=
(D.get a0 [2]).bind fun x1=>
(D.get a0 [1]).bind fun x2=>
(D.bin .mul a1 x2).bind fun x3=>
(D.bin .add x3 a2).bind fun x4=>
(D.asSl x1).bind fun l5=>
(D.idx x4 (l5.length)).bind fun i6=>
(l5[i6]?).bind fun x7=>
 some x7
theorem Nv{lp}(hlp:ak lp):ac 367 (m3 (H4 lp)):=jO (v:=0) (fn:=Tryz.f140) (ann:=.leaf) hlp
def HP:Ann:=(.tl (.two (.tl (.two (.loop ⟨[(2,.sp fc 4098),(3,.sp fc 4099),(4,.sp fc 4100),(6,.di)],[(4098,.one fc (.dv fc)),(4099,.keep fc 3),(4100,.keep fc 4)],[]⟩ [(.exit 0,⟨[(2,.sp fc 4098),(4,.sp fc 4100)],[(4098,.one fc (.dv fc)),(4100,.keep fc 4)],[]⟩)] (.tl (.tl (.two (.two (.tl (.reg [] 9)) .leaf) .leaf)))) .leaf)) .leaf))
theorem Nw{lp}(hlp:ak lp):ac 371 (cY 0 lp 371 Tryz.f160 HP):=bx hlp (by kernel_rfl) (by kernel_rfl)
def HR:Ann:=(.tl (.tl (.tl (.two (.tl (.two (.loop ⟨[(4,.sp fc 4100),(6,.sp fc 12294),(14,.di)],[(4100,.keep fc 4),(12294,.one fc (.dv fc))],[5,13]⟩ [(.exit 0,⟨[(4,.sp fc 4100),(6,.sp fc 12294)],[(4100,.keep fc 4),(12294,.one fc (.dv fc))],[]⟩)] .leaf) .leaf)) .leaf))))
theorem Nx{lp}(hlp:ak lp):ac 372 (cY 0 lp 372 Tryz.f161 HR):=bx hlp (by kernel_rfl) (by kernel_rfl)
def Ee(lp:Lp)(call:Ca)(a0:D):Option D:=
(D.bin .geq a0 (D.int .u8 97)).bind fun x1=>
(D.truth x1).bind fun b2=>
(if b2 then((D.bin .leq a0 (D.int .u8 122)).bind fun x3=>
 D.truth x3) else(some false)).bind fun b4=>
(D.truth (D.bool b4)).bind fun b5=>
(if b5 then(some true) else((D.bin .geq a0 (D.int .u8 65)).bind fun x6=>
(D.truth x6).bind fun b7=>
 if b7 then((D.bin .leq a0 (D.int .u8 90)).bind fun x8=>
 D.truth x8) else(some false))).bind fun b9=>
 some (D.bool b9)
theorem Ny{lp}(hlp:ak lp):ac 375 (m1 (Ee lp)):=aU (v:=0) (fn:=Tryz.f168) (ann:=.leaf) hlp
def Ef(lp:Lp)(call:Ca)(a0:D)(a1:D)(a2:D):Option D:=
(D.truth (D.bool (D.beq a2 (D.st [(Jn 0),(Jn 0),(Jn 0)])))).bind fun b1=>
 if b1 then(some (D.bool false)) else((call 389 [a0,a2]).bind fun r2=>
(call 389 [a1,a2]).bind fun r3=>
(D.get r2 [1]).bind fun x4=>
(D.get r3 [0]).bind fun x5=>
(call 32 [x4,x5]).bind fun r6=>
(D.bin .leq r6 (Jn 0)).bind fun x7=>
(D.truth x7).bind fun b8=>
(if b8 then(some true) else((D.get r3 [1]).bind fun x9=>
(D.get r2 [0]).bind fun x10=>
(call 32 [x9,x10]).bind fun r11=>
(D.bin .leq r11 (Jn 0)).bind fun x12=>
 D.truth x12)).bind fun b13=>
 some (D.bool b13))
theorem Nz{lp}(hlp:ak lp):ac 376 (m3 (Ef lp)):=jO (v:=0) (fn:=Tryz.f172) (ann:=.leaf) hlp
def Li:Ann:=(.tl (.tl (.tl (.two (.tl (.two (.loop ⟨[(1,.sp K3 4097),(3,.ow K1),(5,.di)],[(4097,.keep K3 1)],[4]⟩ [(.exit 0,⟨[(3,.ow K1)],[],[]⟩)] (.tl (.two (.two (.reg [] 21) .leaf) .leaf))) .leaf)) .leaf))))
def Eg(lp:Lp)(call:Ca)(a0:D):Option D:=
(call 22 [a0]).bind fun r1=>
(lp (β:=Nat×List D) (fun v2=>
(D.asSl r1).bind fun l3=>
(D.bin .lss (gx v2 1) (Jn (l3.length))).bind fun x4=>
(D.truth x4).bind fun b5=>
 if b5 then((D.get a0 [0]).bind fun x6=>
(D.asSl r1).bind fun l7=>
(D.idx (gx v2 1) (l7.length)).bind fun i8=>
(l7[i8]?).bind fun x9=>
(D.fld x9 1).bind fun x10=>
(D.asSl x6).bind fun l11=>
(D.idx x10 (l11.length)).bind fun lg=>
(l11[lg]?).bind fun x13=>
(D.get a0 [0]).bind fun x14=>
(D.asSl r1).bind fun l15=>
(D.idx (gx v2 1) (l15.length)).bind fun i16=>
(l15[i16]?).bind fun x17=>
(D.fld x17 0).bind fun x18=>
(D.asSl x14).bind fun l19=>
(D.idx x18 (l19.length)).bind fun i20=>
(l19[i20]?).bind fun x21=>
(call 112 [x13,x21]).bind fun r22=>
 if List.length ((gx v2 0).els)+List.length [r22]<=1073741824 then((D.bin .add (gx v2 1) (Jn 1)).bind fun x23=>
 some (Sum.inl [(D.sl (((gx v2 0).els)++[r22])),x23])) else none) else(some (Sum.inr (0,[(D.sl ((gx v2 0).els))])))) [(D.sl []),(Jn 0)]).bind fun r24=>
 some (D.sl ((gx r24.2 0).els))
theorem NA{lp}(hlp:ak lp):ac 377 (m1 (Eg lp)):=aU (v:=0) (fn:=Tryz.f173) (ann:=Li) hlp
def Eh(lp:Lp)(call:Ca)(a0:D):Option D:=
(D.get a0 [0]).bind fun x1=>
(call 186 [x1]).bind fun r2=>
(D.tupAt r2 0).bind fun x3=>
(D.tupAt r2 1).bind fun x4=>
(D.get a0 [1]).bind fun x5=>
(call 186 [x5]).bind fun r6=>
(D.tupAt r6 0).bind fun x7=>
(D.tupAt r6 1).bind fun x8=>
(D.get a0 [2]).bind fun x9=>
(call 186 [x9]).bind fun r10=>
(D.tupAt r10 0).bind fun x11=>
(D.tupAt r10 1).bind fun x12=>
 some (D.st [x3,x7,x11])
theorem NB{lp}(hlp:ak lp):ac 378 (m1 (Eh lp)):=aU (v:=0) (fn:=Tryz.f174) (ann:=.leaf) hlp
def Lj:Ann:=(.tl (.two (.reg [] 5) .leaf))
def Ei(lp:Lp)(call:Ca)(a0:D)(a1:D):Option D:=
(call 80 [a0]).bind fun r1=>
(call 80 [a1]).bind fun r2=>
(call 390 [r1,r2]).bind fun r3=>
 some r3
theorem NC{lp}(hlp:ak lp):ac 379 (m2 (Ei lp)):=aO (v:=0) (fn:=Tryz.f175) (ann:=Lj) hlp
theorem ND{lp}(hlp:ak lp):ac 381 (cY 0 lp 381 Tryz.f181 .leaf):=bx hlp (by kernel_rfl) (by kernel_rfl)
def HS:Ann:=(.tl (.two (.regI [] 4 (.two (.tl (.two (.regI [] 5 (.two (.tl (.two (.tl (.two (.loop ⟨[(1,.same (.clo 216 [])),(8,.di)],[],[0,7]⟩ [(.ret,⟨[(4,.di)],[],[]⟩),(.exit 0,⟨[],[],[]⟩)] (.tl (.tl (.two (.two (.tl (.two (.regI [] 6 .leaf) .leaf)) .leaf) .leaf)))) .leaf)) .leaf)) .leaf)) .leaf)) .leaf)) .leaf))
theorem NE{lp}(hlp:ak lp):ac 382 (cY 0 lp 382 Tryz.f182 HS):=bx hlp (by kernel_rfl) (by kernel_rfl)
theorem NF{lp}(hlp:ak lp):ac 385 (cY 0 lp 385 Tryz.f199 .leaf):=bx hlp (by kernel_rfl) (by kernel_rfl)
def HT:Ann:=(.tl (.tl (.tl (.two (.tl (.two (.loop ⟨[(3,.sp K1 4099),(4,.sp K1 4100),(5,.sp Id 8197),(6,.sp K1 12294),(10,.di)],[(4099,.keep K1 3),(4100,.keep K1 4),(8197,.keep Id 5),(12294,.one K1 (.dv K1))],[]⟩ [(.exit 0,⟨[(4,.sp K1 4100),(6,.sp K1 12294)],[(4100,.keep K1 4),(12294,.one K1 (.dv K1))],[]⟩)] (.tl (.tl (.two (.two (.tl (.reg [] 24)) .leaf) .leaf)))) .leaf)) .leaf))))
theorem NG{lp}(hlp:ak lp):ac 386 (cY 0 lp 386 Tryz.f200 HT):=bx hlp (by kernel_rfl) (by kernel_rfl)
end Sy
end
end
noncomputable section
set_option maxHeartbeats 0
noncomputable section
namespace Sy
open Go Go.Proofs
def Lk:Ann:=(.tl (.two (.reg [] 7) (.tl (.two (.tl (.two (.loop ⟨[(2,.sp K3 4098),(3,.sp K1 4099),(4,.sp aL 4100),(6,.sp aL 12294),(7,.di)],[(4098,.keep K3 2),(4099,.keep K1 3),(4100,.keep aL 4),(12294,.one aL (.dv aL))],[]⟩ [(.exit 0,⟨[(4,.sp aL 4100),(6,.sp aL 12294)],[(4100,.keep aL 4),(12294,.one aL (.dv aL))],[]⟩)] (.tl (.cut [(.normal,⟨[(2,.sp K3 4098),(3,.sp K1 4099),(4,.sp aL 4100),(6,.sp aL 12294)],[(4098,.keep K3 2),(4099,.keep K1 3),(4100,.keep aL 4),(12294,.one aL (.dv aL))],[7]⟩)] [7] [4098,4099,4100] (.two (.two (.reg [] 8) (.cut [(.normal,⟨[(2,.sp K3 4098),(3,.sp K1 4099),(4,.sp aL 4100),(6,.sp aL 12294),(8,.sp aw 28680)],[(4098,.keep K3 2),(4099,.keep K1 3),(4100,.keep aL 4),(12294,.one aL (.dv aL)),(28680,.keep aw 8)],[7]⟩)] [7] [4098,4099,4100,28680] .leaf .leaf)) .leaf) .leaf))) .leaf)) .leaf))))
def Ej(lp:Lp)(call:Ca)(a0:D)(a1:D):Option D:=
(D.get a0 [0]).bind fun x1=>
(D.asSl x1).bind fun l2=>
(D.idx (Jn 0) (l2.length)).bind fun i3=>
(l2[i3]?).bind fun x4=>
(call 33 [a1,x4]).bind fun r5=>
(lp (β:=Nat×List D) (fun v6=>
(D.get a0 [0]).bind fun x7=>
(D.asSl x7).bind fun l8=>
(D.bin .lss (gx v6 0) (Jn (l8.length))).bind fun x9=>
(D.truth x9).bind fun b10=>
 if b10 then(((D.get a0 [0]).bind fun x11=>
(D.asSl x11).bind fun l12=>
(D.idx (gx v6 0) (l12.length)).bind fun i13=>
(l12[i13]?).bind fun x14=>
(call 33 [a1,x14]).bind fun r15=>
((D.get (gx v6 1) [0]).bind fun x16=>
(call 32 [r15,x16]).bind fun r17=>
(D.bin .lss r17 (Jn 0)).bind fun x18=>
(D.truth x18).bind fun b19=>
 if b19 then((D.set (gx v6 1) [0] r15).bind fun x20=>
 some (0,[x20])) else(some (0,[(gx v6 1)]))).bind fun(r21:Nat×List D)=>
(D.get (gx r21.2 0) [1]).bind fun x22=>
(call 32 [r15,x22]).bind fun r23=>
(D.bin .gtr r23 (Jn 0)).bind fun x24=>
(D.truth x24).bind fun b25=>
 if b25 then((D.set (gx r21.2 0) [1] r15).bind fun x26=>
 some (0,[x26])) else(some (0,[(gx r21.2 0)]))).bind fun(r27:Nat×List D)=>
(D.bin .add (gx v6 0) (Jn 1)).bind fun x28=>
 some (Sum.inl [x28,(gx r27.2 0)])) else(some (Sum.inr (0,[(gx v6 1)])))) [(Jn 1),(D.st [r5,r5])]).bind fun r29=>
 some (gx r29.2 0)
theorem NH{lp}(hlp:ak lp):ac 389 (m2 (Ej lp)):=aO (v:=0) (fn:=Tryz.f205) (ann:=Lk) hlp
def Ll:Ann:=(.tl (.two (.reg [] 28) .leaf))
def Ek(lp:Lp)(call:Ca)(a0:D)(a1:D):Option D:=
(D.get a0 [1]).bind fun x1=>
(D.get a1 [2]).bind fun x2=>
(D.get a0 [2]).bind fun x3=>
(D.get a1 [1]).bind fun x4=>
(call 395 [x1,x2,x3,x4]).bind fun r5=>
(D.get a0 [2]).bind fun x6=>
(D.get a1 [0]).bind fun x7=>
(D.get a0 [0]).bind fun x8=>
(D.get a1 [2]).bind fun x9=>
(call 395 [x6,x7,x8,x9]).bind fun r10=>
(D.get a0 [0]).bind fun x11=>
(D.get a1 [1]).bind fun x12=>
(D.get a0 [1]).bind fun x13=>
(D.get a1 [0]).bind fun x14=>
(call 395 [x11,x12,x13,x14]).bind fun r15=>
 some (D.st [r5,r10,r15])
theorem NI{lp}(hlp:ak lp):ac 390 (m2 (Ek lp)):=aO (v:=0) (fn:=Tryz.f208) (ann:=Ll) hlp
theorem NJ{lp}(hlp:ak lp):ac 392 (cY 0 lp 392 Tryz.f221 .leaf):=bx hlp (by kernel_rfl) (by kernel_rfl)
def HU:Ann:=(.tl (.two (.reg [] 11) .leaf))
theorem NK{lp}(hlp:ak lp):ac 393 (cY 0 lp 393 Tryz.f222 HU):=bx hlp (by kernel_rfl) (by kernel_rfl)
def HV:Ann:=(.tl (.tl (.two (.tl (.two (.loop ⟨[(3,.di),(4,.di)],[],[0]⟩ [(.exit 0,⟨[(3,.di)],[],[]⟩)] (.tl (.two (.two (.reg [] 12) .leaf) .leaf))) .leaf)) .leaf)))
theorem NL{lp}(hlp:ak lp):ac 394 (cY 0 lp 394 Tryz.f223 HV):=bx hlp (by kernel_rfl) (by kernel_rfl)
def Lm:Ann:=(.tl (.two (.reg [] 7) .leaf))
def El(lp:Lp)(call:Ca)(a0:D)(a1:D)(a2:D)(a3:D):Option D:=
(call 89 [a0,a1]).bind fun r1=>
(call 89 [a2,a3]).bind fun r2=>
(call 396 [r1,r2]).bind fun r3=>
 some r3
theorem NM{lp}(hlp:ak lp):ac 395 (m4 (El lp)):=F9 (v:=0) (fn:=Tryz.f231) (ann:=Lm) hlp
def Ln:Ann:=(.tl (.two (.reg [] 4) .leaf))
def Em(lp:Lp)(call:Ca)(a0:D)(a1:D):Option D:=
(call 86 [a1]).bind fun r1=>
(call 59 [a0,r1]).bind fun r2=>
 some r2
theorem NN{lp}(hlp:ak lp):ac 396 (m2 (Em lp)):=aO (v:=0) (fn:=Tryz.f246) (ann:=Ln) hlp
def Lo:Ann:=(.tl (.two (.reg [] 6) .leaf))
def H5(lp:Lp)(call:Ca)(a0:D)(a1:D)(a2:D)(a3:D):Option D:=
(call 367 [a2,a0,a1]).bind fun r1=>
(call 174 [r1,a3]).bind fun r2=>
 some r2
theorem NO{lp}(hlp:ak lp):ac 402 (m4 (H5 lp)):=F9 (v:=0) (fn:=Tryz.f141) (ann:=Lo) hlp
def HW:Ann:=(.tl (.two (.reg [] 9) .leaf))
theorem NP{lp}(hlp:ak lp):ac 407 (cY 0 lp 407 Tryz.f139 HW):=bx hlp (by kernel_rfl) (by kernel_rfl)
end Sy
end
end
noncomputable section
namespace Sy
open Go Go.Proofs Go.Sort Go.Lib
variable{ro:Option Nat}{nn:Nat}
inductive AnnT where
 | hand
 | seq (a:Ann) (b:AnnT)
def GX(E:Env)(K:St->Option D):Code->AnnT->St->Option D
 | .seq c d,.seq a b,s=>ev E c a D s fun e s'=>match e with
  | .normal=>GX E K d b s'
  | _=>none
 | _,.hand,s=>K s
 | _,_,_=>none
def sT:Code->AnnT->Code
 | .seq _ d,.seq _ b=>sT d b
 | c,_=>c
def pZ(fn:Func)(tys:List Ty)(args:List D):St:={ tm:=jM tys args,ob:=fun _=>none,fresh:=0,dead:=[],nt:=fn.ntmps,lkS:=[],lkO:=[4095] }
def GU(E:Env)(K:St->Option D)(fn:Func)(ann:AnnT)(tys:List Ty)(args:List D):Option D:=
 match fn.body with
 | none=>none
 | some c=>GX E K c ann (pZ fn tys args)
section
variable{P:Program}{E:Env}{w0:Root}
theorem Fm.df0{s:St}{S S':Nat->Nat->Prop}{γ γ':Nat->Option Nat}{a a':Act}{w w':World}(h:Fm s S γ a w S' γ' a' w')(h4:4095∈s.lkO)(hd:a.defers=[]):a'.defers=[]:=by
 obtain⟨_,m,e,_,z⟩:=h.dfs
 rw[e,z h4,hd];rfl
theorem gN.eq{w w':World}{b:Nat}{o:Obj}(h:gN w w' b)(ho:w.heap[b]?=some o)(hl:∀ r,o≠.loop r):w'.heap[b]?=some o:=by
 rcases h with h|⟨r,_,h1,_⟩
 ·exact h.trans ho
 ·rw[ho] at h1;cases h1;exact absurd rfl (hl r)
theorem GY(hE:EnvOk P E){K:St->Option D}{Q:Exit->Act->World->Prop}{y:D}:∀ (c:Code) (ann:AnnT) {S:Nat->Nat->Prop} {γ:Nat->Option Nat} {β:Nat->Option (Nat×Nat)} {s:St} {a:Act} {w:World},
  Rp w0 S γ β s a w->a.defers=[]->4095∈s.lkO->GX E K c ann s=some y->(∀ s' S' γ' β' a' w',Rp w0 S' γ' β' s' a' w'->a'.defers=[]->K s'=some y->(sT c ann).wpIn (FW none) nn P Q a' w')->c.wpIn (FW none) nn P Q a w:=by
 intro c
 induction c with
 | seq c d _ ih=>
  intro ann S γ β s a w h hd h4 hev hQ
  cases ann with
  | hand=>exact hQ s S γ β a w h hd (by simpa only[GX] using hev)
  | seq a1 b=>
   simp only[GX] at hev
   refine wpIn_seq (yB hE c a1 D _ y h hev fun e s' S' γ' β' a' w' n1 n2 n3 n4=>?_)
   cases e with
   | normal=>exact ih b n1 (n2.df0 h4 hd) (by rw[n3.lkO];exact h4) n4 hQ
   | ret=>cases n4
   | exit i=>cases n4
 | _=>
  intro ann S γ β s a w h hd h4 hev hQ
  cases ann with
  | hand=>exact hQ s S γ β a w h hd (by simpa only[GX] using hev)
  | seq a1 b=>simp[GX] at hev
def c6(s:St)(e:Ty)(x:Nat):Option (List D):=match s.tm x with
 | .own e' v l=>if e'.beq e&&!(s.dead.contains v)&&decide (l.length<=1073741824) then some l else none
 | .nils=>some []
 | _=>none
def Hc(s:St)(x:Nat)(e:Ty)(l:List D):St:={ tm:=fun i=>if i=x then .d (.sl e) (.sl l) else .undef,ob:=fun _=>none,fresh:=s.fresh+1,dead:=[],nt:=s.nt,lkS:=[],lkO:=[4095] }
theorem AO{w:World}{S:Nat->Nat->Prop}{l:List D}{a:Option Addr}{n cap:Nat}(h:CR w S (.sl l) (.slice a n cap)):eZ w S (.sl l) (.slice a n cap):=by
 refine⟨fun cs h=>(by cases h),rfl,fun i d c hd hc=>?_⟩
 cases i with
 | zero=>simp only[D.flat,List.getElem?_cons_zero,Option.some.injEq,Value.cells] at hd hc;subst hd;first|(subst hc;exact h)|(simp at hc;subst hc;exact h)
 | succ i=>simp[D.flat] at hd
theorem kn{e:Ty}(hc:bu e=true):∀ l:List D,(∀ x∈l,wt e x)->∀ d∈D.flats l,oy d=true
 | [],_,d,hd=>by simp[D.flats] at hd
 | y::l,h,d,hd=>by
  simp only[D.flats,List.mem_append] at hd
  rcases hd with hd|hd
  ·exact iA e y hc (h y List.mem_cons_self) d hd
  ·exact kn hc l (fun z hz=>h z (List.mem_cons_of_mem _ hz)) d hd
theorem Rp.new{S S':Nat->Nat->Prop}{γ:Nat->Option Nat}{β:Nat->Option (Nat×Nat)}{s:St}{a a':Act}{w w':World}(h:Rp w0 S γ β s a w)(he:jz w0 w'){x:Nat}{e:Ty}{l:List D}(hn:am e=true)(hx:x<s.nt)(hwt:∀ y∈l,wt e y)
  (hv:eZ w' S' (.sl l) (a'.tmps.getD x undef)) (hnt:a'.tmps.size=s.nt) (hdf:a'.defers=[]) (hSb:∀ b o,S' b o->b<w'.heap.size) (hSo:∀ b o,S' b o->w0.Old b->w0.S0 b o):Rp w0 S' (fun _=>none) (fun _=>none) (Hc s x e l) a' w':=by
 refine⟨he,fun t ht=>?_,hnt,fun t ht=>?_,fun id o b ho=>(by cases ho),fun id b hb=>(by cases hb),fun id id' b hb=>(by cases hb),fun _ _=>rfl,fun v b e _ hb=>(by cases hb),fun v v' b e e' _ _ hb=>(by cases hb),fun v id b e _ hb=>(by cases hb),fun _ _=>rfl,hSb,hSo⟩
 ·show AR _ (if t=x then AV.d (.sl e) (.sl l) else .undef) (a'.tmps.getD t undef)
  by_cases htx:t=x
  ·rw[if_pos htx]
   subst htx
   exact .inl ⟨by simp only[am];exact hn,⟨l,rfl,hwt⟩,hv⟩
  ·rw[if_neg htx]
   simp only[AR]
 ·show(if t=x then AV.d (.sl e) (.sl l) else .undef)=_
  rw[if_neg (fun h=>by subst h;exact absurd hx (Nat.not_lt.2 ht))]
theorem Fy(hE:EnvOk P E){f:Nat}{e:Ty}(hf:SortOk P f e){g:Nat}(hsig:E.sig g=some ([e,e],.int .i64)/\E.free g=0){id x t d2:Nat}{ops:Array Oper}{ty1 ty2:TypeId}{p1 p2:String}{af1 af2:Array Edge}{args:Array Operand}{ats:Array TypeId}
  (hops:ops.toList=[⟨some t,.move (.tmp x),ty1,p1,af1,none⟩,⟨some d2,.call ⟨.value (.func f),args,ats⟩,ty2,p2,af2,none⟩]) (hargs:args=#[.tmp t,.func g]) {Q:Exit->Act->World->Prop}
  {S:Nat->Nat->Prop} {γ:Nat->Option Nat} {β:Nat->Option (Nat×Nat)} {s:St} {a:Act} {w:World} (h:Rp w0 S γ β s a w) (hdf:a.defers=[]) (hxt:x≠t) (hxd:x≠d2) (ht:t<s.nt) {l l':List D} (hv:c6 s e x=some l) (hs:iK E g l=some l')
  (hQ:∀ a' w' S',Rp w0 S' (fun _=>none) (fun _=>none) (Hc s x e l') a' w'->a'.defers=[]->Q .normal a' w'):(Code.region id ops false).wpIn (FW ro) nn P Q a w:=by
 have hx:x<s.nt:=by
  rcases Nat.lt_or_ge x s.nt with k|k
  ·exact k
  ·unfold c6 at hv;rw[h.tmu x k] at hv;cases hv
 have hax:AR ⟨w,S,γ,β,s.ob,s.dead⟩ (s.tm x) (a.tmps.getD x undef):=h.tms x (by rw[h.nt];exact hx)
 obtain⟨ad,cap,val,hwt,hcr,hown⟩:∃ ad cap,a.tmps.getD x undef=.slice ad l.length cap/\(∀ y∈l,wt e y)/\CR w S (.sl l) (.slice ad l.length cap)/\(l≠[]->∃ b off row,ad=some ⟨b,off,none⟩/\bw w b=some row/\¬ w0.Old b/\b<w.heap.size)/\l.length<=1073741824:=by
  unfold c6 at hv
  split at hv
  ·rename_i e' v l0 htm
   split at hv
   ·rename_i hb
    simp only[Bool.and_eq_true,Bool.not_eq_true',decide_eq_true_eq] at hb
    obtain⟨⟨hb1,hb2⟩,hb3⟩:=hb
    cases hv
    have:=Ty.eq_of_beq _ _ hb1;subst this
    rw[htm] at hax
    simp only[AR,AC] at hax
    obtain⟨n0,n1,n2,ad,cap,n3,n4,n5⟩:=hax
    have hval:=au n0 n3
    have hdead:v ∉ s.dead:=by simpa using hb2
    refine⟨ad,cap,hval,n2,n4,fun hne=>?_,hb3⟩
    rcases n5 hdead with⟨q1,q2⟩|⟨b,off,q1,q2,n,q3,q4⟩
    ·exfalso
     obtain⟨_,_,b,off,e1,e2,e3,e4⟩:=n4.elems
     cases e1
     rcases e2 with e2|e2
     ·exact hne e2
     ·rw[q1] at e2;cases e2
    ·obtain⟨k1,k2,_⟩:=h.βn v b _ hdead q2
     unfold kF at q3
     cases hr:bw w b with
     | none=>rw[hr] at q3;cases q3
     | some row=>exact⟨b,off,row,q1,hr,k1,k2⟩
   ·cases hv
  ·rename_i htm
   cases hv
   rw[htm] at hax
   simp only[AR,AC] at hax
   have hval:=au hax.1 hax.2
   exact⟨none,0,hval,by simp,CR.of_elems (b:=0) (off:=0) (.inl rfl) (Nat.le_refl _) ⟨[],cw.nil,by simp⟩,fun h=>absurd rfl h,by simp⟩
  ·cases hv
 obtain⟨hown,hlen⟩:=hown
 have hperm:l'.Perm l:=by
  unfold iK at hs
  split at hs
  ·cases hs;exact fC _ l
  ·cases hs
 have hll:l'.length=l.length:=hperm.length_eq
 have hwt':∀ y∈l',wt e y:=fun y hy=>hwt y (hperm.subset hy)
 refine wpIn_region_list ?_
 rw[hops]
 simp only[wpListIn,Region.wanted,if_true]
 refine(aV (K:=fun v w1=>v=a.tmps.getD x undef/\w=w1) (dq.value (v:=a.eval (.tmp x)) (w':=w) rfl ⟨rfl,rfl⟩) ?_)
 rintro _ _ ⟨rfl,rfl⟩
 have hsz:(a.put (some t) (a.tmps.getD x undef)).tmps.size=s.nt:=by simp[Act.put,h.nt]
 have ht1:(a.put (some t) (a.tmps.getD x undef)).eval (.tmp t)=a.tmps.getD x undef:=by
  have:t<a.tmps.size:=by rw[h.nt];exact ht
  simp[Act.eval,Act.put,Array.getD,this]
 have hx1:(a.put (some t) (a.tmps.getD x undef)).tmps.getD x undef=a.tmps.getD x undef:=by
  exact bB (fun e=>hxt (by cases e;rfl))
 have hdf1:(a.put (some t) (a.tmps.getD x undef)).defers=[]:=hdf
 generalize (a.put (some t) (a.tmps.getD x undef))=a1 at *
 refine(aV (K:=fun v w1=>∃ S',jz w0 w1/\eZ w1 S' (.sl l') (a.tmps.getD x undef)/\(∀ b o,S' b o->b<w1.heap.size)/\(∀ b o,S' b o->w0.Old b->w0.S0 b o)) ?_ ?_)
 ·obtain⟨fn,f1,f2,f3⟩:=hf.fn
  refine dq.enter (f:=f) (args:=#[.slice ad l.length cap,.func (.func g) #[] #[]]) (w':=w) ?_ ?_
  ·have hb:¬ fn.body=none:=by intro hh;rw[hh] at f3;cases f3
   have f2' : ¬ fn.name = "runtime.NumGoroutine" := by simpa using f2
   have e1:a1.eval (.tmp t)=.slice ad l.length cap:=by rw[ht1,val]
   subst hargs
   have e2:a1.eval (.func g)=.func (.func g) #[] #[]:=rfl
   simp[execOp,resolve,Deferred.ofValue,invoke,callFunc,f1,f2',hb,e1,e2]
   simp[Act.eval,f1,f2',hb]
  ·by_cases hne:l=[]
   ·subst hne
    have e0:l'=[]:=by cases l' with|nil=>rfl|cons y l'=>simp at hll
    subst e0
    refine(hf.empty ad cap _ w).mono ?_
    rintro en w1 ⟨rfl,rfl⟩
    exact⟨_,rfl,S,h.ext,by rw[val];exact AO hcr,h.Sb,h.So⟩
   ·obtain⟨b,off,row,rfl,hr,hold,hbs⟩:=hown hne
    have hcell:∀ (i:Nat) (d:D),(D.flats l)[i]?=some d->w.cell? ⟨b,off+i,none⟩=some (eC d):=by
     obtain⟨_,_,b',off',e1,e2,e3,cs,e4,e5⟩:=hcr.elems
     cases e1
     rcases e2 with e2|e2
     ·exact absurd e2 hne
     ·cases e2
      have hleaf:=kn hf.cmp l hwt
      have:=(eI hleaf).1 e4
      subst this
      intro i d hd
      exact(e5 i (eC d) (by rw[List.getElem?_map,hd];rfl)).2
    refine(At hE hf hsig hwt hs hne (b:=b) (off:=off) (cap:=cap) hr hcell (by omega)).mono ?_
    rintro en w1 ⟨rfl,_,q1,q2,q3,q4,q5,q6,q7⟩
    refine⟨_,rfl,fun b' o=>(S b' o/\b'≠b)\/(b'=b/\off<=o/\o<off+(D.flats l').length),?_,?_,?_,?_⟩
    ·refine lc h.ext q2 q3 q4 q5 q1 fun b' hb'=>q6 b' (fun e=>hold (e ▸ hb')) (Nat.lt_of_lt_of_le hb'.1 h.ext.sz)
    ·rw[val]
     refine AO ?_
     rw[<-hll]
     refine CR.of_elems (b:=b) (off:=off) (.inr rfl) (by obtain⟨_,_,_,_,e1,_,e3,_⟩:=hcr.elems;cases e1;rw[hll];exact e3) ⟨(D.flats l').map eC,?_,fun i c hc=>?_⟩
     ·exact(eI (kn hf.cmp l' hwt')).2 rfl
     ·rw[List.getElem?_map] at hc
      cases hd:(D.flats l')[i]? with
      | none=>rw[hd] at hc;cases hc
      | some d=>
       rw[hd] at hc
       simp only[Option.map_some,Option.some.injEq] at hc
       subst hc
       exact⟨.inr ⟨rfl,by omega,by have:=(List.getElem?_eq_some_iff.1 hd).1;omega⟩,q7 i d hd⟩
    ·rintro b' o (⟨hb',_⟩|⟨rfl,_,_⟩)
     ·exact Nat.lt_of_lt_of_le (h.Sb b' o hb') q5
     ·exact Nat.lt_of_lt_of_le hbs q5
    ·rintro b' o (⟨hb',_⟩|⟨rfl,_,_⟩) ho
     ·exact h.So b' o hb' ho
     ·exact absurd ho hold
 ·rintro v w1 ⟨S',k1,k2,k3,k4⟩
  refine hQ _ w1 S' (Rp.new h k1 hf.nt hx hwt' ?_ (by simp[Act.put,hsz]) hdf1 k3 k4) hdf1
  have:(a1.put (some d2) v).tmps.getD x undef=a.tmps.getD x undef:=by
   rw[<-hx1]
   exact bB (fun e=>hxd (by cases e;rfl))
  rw[this];exact k2
end
end Sy
end
noncomputable section
namespace Sy
open Go Go.Proofs Go.Sort Go.Lib
variable{ro:Option Nat}{nn:Nat}
open Go.ChangeMaps (setBlock)
section
variable{P:Program}{E:Env}{w0:Root}
theorem qV{ops ops':Array Oper}{Q:Exit->Act->World->Prop}:∀ (l:List Oper) (a:Act) (w:World),(∀ o∈l,o.guard=none)->wpListIn (FW ro) nn P ops Q l a w->wpListIn (FW ro) nn P ops' Q l a w
 | [],_,_,_,h=>h
 | o::l,a,w,hg,h=>by
  have hgo:=hg o List.mem_cons_self
  have hfun:∀ a w,wpListIn (FW ro) nn P ops Q l a w->wpListIn (FW ro) nn P ops' Q l a w:=fun a w=>qV l a w fun o ho=>hg o (List.mem_cons_of_mem _ ho)
  simp only[wpListIn,Region.wanted,hgo,if_true] at h ⊢
  exact Oper.wpIn_mono hfun h
theorem E9(hE:EnvOk P E){Q:Exit->Act->World->Prop}{id:Nat}{ops:Array Oper}{R:Type}{S:Nat->Nat->Prop}{γ:Nat->Option Nat}{β:Nat->Option (Nat×Nat)}{s:St}{a:Act}{w:World}{k:Ex->St->Option R}{r:R}
  (h:Rp w0 S γ β s a w) (hev:ev E (.region id ops false) .leaf R s k=some r) (hQ:Kp Q w0 s S γ a w k r):wpListIn (FW ro) nn P ops Q ops.toList a w:=by
 obtain⟨S1,f1,f2,f3⟩:=np (Ann.leaf).fz h
 obtain⟨s1,hs1⟩:∃ s1,s1={ eO s (Ann.leaf).fz with fresh:=s.fresh+1 }:=⟨_,rfl⟩
 obtain⟨h1,h23⟩:=rR hs1 hev
 obtain⟨h2,h3⟩:(!false||ni E ops ((Ann.leaf).heads ops.size))=true/\_:=h23.resolve_right fun h=>h.elim (fun h=>by cases h.1) (fun h=>h.elim (fun h=>by cases h.1) (fun h=>by cases h.1))
 have hb1:s1.base=s.base+4096:=by rw[hs1];simp only[St.base];omega
 have r1:Rp w0 S1 γ β s1 a w:=by
  rw[hs1]
  have q1:∀ id,({ eO s (Ann.leaf).fz with fresh:=s.fresh+1 }:St).base+4096<=id->s.base+4096<=id:=fun id hid=>by
   have e:({ eO s (Ann.leaf).fz with fresh:=s.fresh+1 }:St).base=s.base+4096:=by simp only[St.base];omega
   rw[e] at hid
   exact Nat.le_trans (Nat.le_add_right _ _) hid
  exact⟨f1.ext,f1.tms,f1.nt,f1.tmu,f1.obs,f1.γn,f1.γi,fun id hid=>h.γf id (q1 id hid),f1.βn,f1.βi,f1.βγ,fun v hv=>h.βf v (q1 v hv),f1.Sb,f1.So⟩
 have hle1:∀ d,s.base+4096<=s1.base+d:=fun d=>by have:=Nat.le_add_right s1.base d;rw[hb1] at this ⊢;exact this
 have hg:∀ d,γ (s1.base+d)=none:=fun d=>h.γf (s1.base+d) (hle1 d)
 have hgb:∀ d,β (s1.base+d)=none:=fun d=>h.βf (s1.base+d) (hle1 d)
 obtain⟨r2,m2⟩:=yY (E:=E) ops.toList r1 hg
 have hmk:=h1
 simp only[bz,Bool.and_eq_true,List.all_eq_true] at hmk
 obtain⟨⟨hm1,hm2⟩,hm3⟩:=hmk
 have hfr:zh E (fZ E ops.toList s1) γ β ops.toList:=by
  intro o ho hc d hd
  rw[m2.base_eq]
  have hd4:=hm2 o ho
  rw[hd] at hd4
  simp only[decide_eq_true_eq] at hd4
  exact⟨hd4,hg d,hgb d,fun T t e1 e2=>ua ops.toList hm1 ho e1 hd e2⟩
 have hsk:Sk s (fZ E ops.toList s1):=by
  refine⟨m2.lkS.trans ?_,m2.lkO.trans ?_,m2.nt.trans ?_⟩<;>rw[hs1]
  ·exact f3.lkS
  ·exact f3.lkO
  ·exact f3.nt
 have hstores:(ops.toList.all fun o=>match o.op with|.store ..=>o.dst.isNone|_=>true)=true:=by
  simp only[bz,Bool.and_eq_true] at h1;exact h1.2
 have:=pP (ro:=ro) (nn:=nn) (ops:=ops) hE hstores _ R (aJ 0 ops.toList) _ r _ r2 (by rw[aS];exact hfr) (by rw[aS];exact fun A B o o' e ho d hd=>du hm1 A B o o' e ho d hd) (fun p hp=>gB hp) h3
  (Q:=Q) fun s' S' γ' β' a' w' n1 n2 n3 n4=>hQ .normal s' S' γ' β' a' w' n1 (f2.tr n2 hsk) (hsk.trans n3) n4
 rwa [aS] at this
def σL(nt o it:Nat)(X:AV):St:={ tm:=fun i=>if i=o then X else .undef,ob:=fun _=>none,fresh:=0,dead:=[],nt:=nt,lkS:=[it],lkO:=[0,1,4095] }
def γs(m r:Nat):Nat->Option Nat:=fun i=>if i=0 then some m else if i=1 then some r else none
def FZ(e:Ty)(L:List D)(X:AV):Prop:=(X=.nils/\L=[])\/X=.own e 5 L
theorem xd{s:St}{e:Ty}{o:Nat}{L:List D}(h:c6 s e o=some L):(s.tm o=.nils/\L=[])\/∃ v,s.tm o=.own e v L/\v ∉ s.dead:=by
 unfold c6 at h
 split at h
 ·rename_i e' v l htm
  split at h
  ·rename_i hb
   simp only[Bool.and_eq_true,Bool.not_eq_true',decide_eq_true_eq] at hb
   cases h
   have:=Ty.eq_of_beq _ _ hb.1.1;subst this
   exact .inr ⟨v,htm,by simpa using hb.1.2⟩
  ·cases h
 ·rename_i htm
  cases h
  exact .inl ⟨htm,rfl⟩
 ·cases h
theorem Rp.std{S:Nat->Nat->Prop}{γ:Nat->Option Nat}{β:Nat->Option (Nat×Nat)}{s:St}{a:Act}{w:World}(h:Rp w0 S γ β s a w){m r:Nat}(hm:¬ w0.Old m/\m<w.heap.size)(hr:¬ w0.Old r/\r<w.heap.size)(hmr:m≠r)
  (hβ:∀ v b e,v ∉ s.dead->β v=some (b,e)->b≠m/\b≠r) {e:Ty} (hce:bu e=true) {o:Nat} {L:List D} (hv:c6 s e o=some L) (it:Nat) :
  ∃ β' X,FZ e L X/\Rp w0 (fun b i=>S b i/\b≠m/\b≠r) (γs m r) β' (σL s.nt o it X) a w:=by
 have ho:o<s.nt:=by
  rcases Nat.lt_or_ge o s.nt with k|k
  ·exact k
  ·unfold c6 at hv;rw[h.tmu o k] at hv;cases hv
 have hao:=h.tms o (by rw[h.nt];exact ho)
 have g1:∀ id b,γs m r id=some b->(id=0/\b=m)\/(id=1/\b=r):=fun id b hb=>by
  unfold γs at hb
  split at hb
  ·rename_i e;cases hb;exact .inl ⟨e,rfl⟩
  ·split at hb
   ·rename_i e;cases hb;exact .inr ⟨e,rfl⟩
   ·cases hb
 have γn':∀ id b,γs m r id=some b->¬ w0.Old b/\b<w.heap.size:=fun id b hb=>by
  rcases g1 id b hb with⟨_,rfl⟩|⟨_,rfl⟩
  ·exact hm
  ·exact hr
 have γi':∀ id id' b,γs m r id=some b->γs m r id'=some b->id=id':=fun id id' b hb hb'=>by
  rcases g1 id b hb with⟨k1,k2⟩|⟨k1,k2⟩<;>rcases g1 id' b hb' with⟨k3,k4⟩|⟨k3,k4⟩
  ·omega
  ·exact absurd (k2.symm.trans k4) hmr
  ·exact absurd (k4.symm.trans k2) hmr
  ·omega
 have γf':∀ id,0*4096+4096<=id->γs m r id=none:=fun id hid=>by
  unfold γs;rw[if_neg (by omega),if_neg (by omega)]
 rcases xd hv with⟨h1,h2⟩|⟨v,h1,h2⟩
 ·refine⟨fun _=>none,.nils,.inl ⟨rfl,h2⟩,h.ext,fun t ht=>?_,h.nt,fun t ht=>?_,fun id o b ho=>(by cases ho),γn',γi',γf',fun v b e _ hb=>(by cases hb),fun v v' b e e' _ _ hb=>(by cases hb),fun v id b e _ hb=>(by cases hb),fun _ _=>rfl,fun b i hb=>h.Sb b i hb.1,fun b i hb=>h.So b i hb.1⟩
  ·show AR _ (if t=o then AV.nils else .undef) (a.tmps.getD t undef)
   by_cases hto:t=o
   ·rw[if_pos hto];subst hto;rw[h1] at hao;simpa only[AR,AC] using hao
   ·rw[if_neg hto];simp only[AR]
  ·show(if t=o then AV.nils else .undef)=_
   rw[if_neg (fun h=>by subst h;exact absurd ho (Nat.not_lt.2 ht))]
 ·refine⟨fun i=>if i=5 then β v else none,.own e 5 L,.inr rfl,h.ext,fun t ht=>?_,h.nt,fun t ht=>?_,fun id o b ho=>(by cases ho),γn',γi',γf',fun u b e' _ hb=>?_,fun u u' b e' e'' _ _ hb hb'=>?_,fun u id b e' _ hb hid=>?_,fun u hu=>?_,fun b i hb=>h.Sb b i hb.1,fun b i hb=>h.So b i hb.1⟩
  ·show AR _ (if t=o then AV.own e 5 L else .undef) (a.tmps.getD t undef)
   by_cases hto:t=o
   ·rw[if_pos hto]
    subst hto
    rw[h1] at hao
    simp only[AR,AC] at hao ⊢
    obtain⟨n0,n1,n2,ad,cap,n3,n4,n5⟩:=hao
    have n4':CR w (fun b i=>S b i/\b≠m/\b≠r) (.sl L) (.slice ad L.length cap):=by
     obtain⟨ad',cap',b',off',e1,e2,e3,cs,e4,e5⟩:=n4.elems
     cases e1
     by_cases hL:L=[]
     ·subst hL;exact CR.of_elems (b:=0) (off:=0) (.inl rfl) e3 ⟨[],cw.nil,by simp⟩
     ·have e2:ad=some ⟨b',off',none⟩:=e2.resolve_left hL
      have hb':b'≠m/\b'≠r:=by
       rcases n5 h2 with q|⟨b,off,q1,q2,q3⟩
       ·rw[q.1] at e2;cases e2
       ·rw[q1] at e2;cases e2;exact hβ v _ _ h2 q2
      have lf:=kn hce L n2
      exact CR.of_elems (.inr e2) e3 ⟨cs,(eI lf).2 ((eI lf).1 e4),fun i c hc=>⟨⟨(e5 i c hc).1,hb'⟩,(e5 i c hc).2⟩⟩
    refine⟨n0,n1,n2,ad,cap,n3,n4',fun _=>?_⟩
    rcases n5 h2 with q|⟨b,off,q1,q2,q3⟩
    ·exact .inl q
    ·exact .inr ⟨b,off,q1,by simpa using q2,q3⟩
   ·rw[if_neg hto];simp only[AR]
  ·show(if t=o then AV.own e 5 L else .undef)=_
   rw[if_neg (fun h=>by subst h;exact absurd ho (Nat.not_lt.2 ht))]
  ·have hb:(if u=5 then β v else none)=some (b,e'):=hb
   split at hb
   ·obtain⟨q1,q2,q3⟩:=h.βn v b e' h2 hb
    exact⟨q1,q2,fun i hi hs=>q3 i hi hs.1⟩
   ·cases hb
  ·have hb:(if u=5 then β v else none)=some (b,e'):=hb
   have hb':(if u'=5 then β v else none)=some (b,e''):=hb'
   split at hb<;>split at hb'<;>first|(cases hb;done)|(cases hb';done)|omega
  ·have hb:(if u=5 then β v else none)=some (b,e'):=hb
   split at hb
   ·have:=hβ v b e' h2 hb
    rcases g1 id b hid with⟨_,q⟩|⟨_,q⟩
    ·exact this.1 q
    ·exact this.2 q
   ·cases hb
  ·have hu':4096<=u:=by simpa [σL,St.base] using hu
   show(if u=5 then β v else none)=none
   rw[if_neg (by omega)]
theorem Rp.setB{S:Nat->Nat->Prop}{γ:Nat->Option Nat}{β:Nat->Option (Nat×Nat)}{s:St}{a:Act}{w:World}(h:Rp w0 S γ β s a w){id b:Nat}(ho:s.ob id=none)(hγ:γ id=some b)(hS:∀ o,¬ S b o)(x:Obj) :
  Rp w0 S γ β s a (setBlock w b x):=by
 have hbS:∀ b' o,S b' o->b'≠b:=fun b' o hb e=>hS o (e ▸ hb)
 have hh:∀ b',b'≠b->(setBlock w b x).heap[b']?=w.heap[b']?:=fun b' hb'=>by simp only[setBlock];rw[Array.getElem?_setIfInBounds_ne (Ne.symm hb')]
 have hsz:(setBlock w b x).heap.size=w.heap.size:=by simp[setBlock]
 have hle:Cx.le ⟨w,S,γ,β,s.ob,s.dead⟩ ⟨setBlock w b x,S,γ,β,s.ob,s.dead⟩:=by
  refine⟨fun b' o hb=>by simp only[World.cell?,hh b' (hbS b' o hb)],fun _ _ hb=>hb,fun _ _ hb=>hb,fun i y hy _=>⟨y,hy,fun p=>⟨rfl,rfl⟩,fun t l e=>⟨l,e,rfl⟩,fun _ _ l e=>⟨l,e⟩⟩,fun v hv=>⟨hv,fun b' e he=>⟨he,fun n hn=>?_⟩⟩⟩
  have hne:b'≠b:=fun e'=>h.βγ v id b' e hv he (e' ▸ hγ)
  have hn':kF w b'=some n:=hn
  show kF (setBlock w b x) b'=some n
  simp only[kF,bw,hh b' hne] at hn' ⊢
  exact hn'
 refine⟨lc h.ext rfl rfl rfl (by rw[hsz];exact Nat.le_refl _) (Nat.le_refl _) (fun b' hb'=>hh b' fun e=>(h.γn id b hγ).1 (e ▸ hb')),fun t ht=>(h.tms t ht).mono hle,h.nt,h.tmu,fun i y b' hy hb'=>?_,fun i b' hb'=>by rw[hsz];exact h.γn i b' hb',h.γi,h.γf,
  fun v b' e hv he=>by rw[hsz];exact h.βn v b' e hv he,h.βi,h.βγ,h.βf,fun b' o hb=>by rw[hsz];exact h.Sb b' o hb,h.So⟩
 have hne:b'≠b:=fun e'=>by
  have:=h.γi i id b' hb' (e' ▸ hγ)
  subst this
  rw[ho] at hy;cases hy
 exact(h.obs i y b' hy hb').mono hle (hh b' hne) fun _ hh=>hh
end
end Sy
end
noncomputable section
namespace Sy
open Go Go.Proofs Go.Sort Go.Lib
variable{ro:Option Nat}{nn:Nat}
open Go.ChangeMaps (setBlock)
def rl:D->D
 | .st (k::_)=>k
 | x=>x
theorem AW{c:Cx}{kt vt:Ty}:∀ {l:List D} {es:List MapEntry} {j:Nat},gk c kt vt j l es->es.length=l.length/\∀ (i:Nat) (en:MapEntry),es[i]?=some en->en.born=j+i/\∃ k v,l[i]?=some (.st [k,v])/\wt kt k/\wt vt v/\eZ c.w c.S k en.key/\eZ c.w c.S v en.val
 | [],[],j,_=>⟨rfl,fun i en h=>by simp at h⟩
 | [],_::_,_,h=>h.elim
 | _::_,[],_,h=>h.elim
 | x::l,e::es,j,h=>by
  simp only[gk] at h
  obtain⟨⟨h1,k,v,rfl,h2,h3,h4,h5⟩,h6⟩:=h
  obtain⟨q1,q2⟩:=AW h6
  refine⟨by simp[q1],fun i en hi=>?_⟩
  cases i with
  | zero=>simp at hi;subst hi;exact⟨by simpa using h1,k,v,by simp,h2,h3,h4,h5⟩
  | succ i=>
   simp only[List.getElem?_cons_succ] at hi
   obtain⟨r1,r2⟩:=q2 i en hi
   exact⟨by omega,by simpa using r2⟩
theorem yb{t:Ty}(hc:bu t=true){x:D}(hx:wt t x){w w':World}{S S':Nat->Nat->Prop}{v:Value}(h:eZ w S x v):eZ w' S' x v:=by
 have lf:=iA t x hc hx
 exact⟨h.1,(eI lf).2 ((eI lf).1 h.2)⟩
theorem wa:∀ (n:Nat) (l:List Nat),l.Nodup->(∀ x∈l,x<n)->l.length<=n
 | 0,l,_,h=>by
  cases l with
  | nil=>simp
  | cons x l=>exact absurd (h x List.mem_cons_self) (by omega)
 | n+1,l,hn,h=>by
  have h1:(l.erase n).length<=n:=wa n (l.erase n) (hn.erase n) fun x hx=>by
   have hx':=(hn.mem_erase_iff).1 hx
   have:=h x hx'.2
   have:=hx'.1
   omega
  have h2:=List.length_erase (a:=n) (l:=l)
  split at h2<;>omega
section
variable{P:Program}{E:Env}{w0:Root}
theorem iO{a:Act}{o:Oper}{m:Sem Value}{v:Value}{w w':World}(hex:execOp a.eval o=(m >>= fun r=>pure (Next.value r)))(hrun:m.run P w=.ok v w'):(execOp a.eval o).run P w=.ok (.value v) w':=by
 rw[hex]
 simp only[Sem.run_bind,hrun,Result.andThen_ok,Sem.run_pure]
theorem uG{nt o it t:Nat}{X:AV}(h:t≠o):(σL nt o it X).put (some t) .undef=σL nt o it X:=by
 unfold St.put σL
 simp only
 split
 ·congr 1
  funext i
  by_cases hi:i=t
  ·subst hi;rw[if_pos rfl,if_neg h]
  ·rw[if_neg hi]
 ·rfl
theorem ir{a:Act}{t:Nat}{v:Value}(h:t<a.tmps.size):(a.put (some t) v).eval (.tmp t)=v:=by
 simp[Act.eval,Act.put,Array.getD,h]
theorem qL{a:Act}{d:Option Nat}{v:Value}:(a.put d v).tmps.size=a.tmps.size:=by
 cases d<;>simp[Act.put]
theorem Fa(hE:EnvOk P E){e vt:Ty}(he:bu e=true)(hvt:bu vt=true)(hne:am e=true)(hnv:am vt=true){id23 id24 id25 b b2:Nat}{t72 m0 it T nx ok en o:Nat}{o23 o24 o25:Array Oper}{rest:List Oper}{c26:Code}
  {y1 y2 y3 y4 y5:TypeId} {p1 p2 p3 p4 p5:String} {f1 f2 f3 f4 f5:Array Edge} {TK TV:TypeId}
  (h23:o23.toList=[⟨some t72,.move (.tmp m0),y1,p1,f1,none⟩,⟨some it,.range T (.tmp t72),y2,p2,f2,none⟩])
  (h24:o24.toList=[⟨some nx,.next (.tmp it) false,y3,p3,f3,none⟩,⟨some ok,.extract (.tmp nx) 0,y4,p4,f4,none⟩])
  (h25:o25.toList=⟨some en,.entry (.tmp it),y5,p5,f5,none⟩::rest) (hrest:∀ x∈rest,x.guard=none) (hT:P.underlying T=some (.map TK TV))
  {S:Nat->Nat->Prop} {γ:Nat->Option Nat} {β:Nat->Option (Nat×Nat)} {s:St} {a:Act} {w:World} (h:Rp w0 S γ β s a w) (hdf:a.defers=[])
  (d1:o≠t72) (d2:o≠it) (d3:nx≠o) (d4:ok≠o) (d5:en≠o) (d6:it≠t72) (d7:it≠nx) (d8:it≠ok) (d9:it≠en) (d10:nx≠ok) (n1:t72<s.nt) (n2:it<s.nt) (n3:nx<s.nt) (n4:ok<s.nt) (n5:en<s.nt)
  {idm:Nat} {l:List D} (hm:s.tm m0=.map e vt idm) (hob:s.ob idm=some (.mp e vt l)) (hl:l.length<=1073741824) (hv:c6 s e o=some [])
  (hround:∀ X L k v,FZ e L X->L.length<1073741824->wt e k->ev E (.region 0 rest.toArray false) .leaf D ((σL s.nt o it X).put (some en) (.d (.tup [e,vt]) (.tup [k,v]))) (fun x s'=>match x with
   | .normal=>ev E c26 .leaf D s' (fun x s''=>match x with|.normal=>(c6 s'' e o).bind fun l=>some (.sl l)|_=>none)
   | _=>none)=some (.sl (L++[k])))
  {Q:Exit->Act->World->Prop} (hQ:∀ L S' γ' β' X a' w',FZ e L X->L.Perm (l.map rl)->Rp w0 S' γ' β' (σL s.nt o it X) a' w'->a'.defers=[]->Q .normal a' w') :
  (Code.seq (.region id23 o23 false) (.block b (.loop (.seq (.region id24 o24 false) (.seq (.cond (.tmp ok) .skip (.exit b)) (.block b2 (.seq (.region id25 o25 false) c26))))))).wpIn (FW none) nn P Q a w:=by
 have hm0:m0<s.nt:=by
  rcases Nat.lt_or_ge m0 s.nt with k|k
  ·exact k
  ·rw[h.tmu m0 k] at hm;cases hm
 have hmv:=h.tms m0 (by rw[h.nt];exact hm0)
 rw[hm] at hmv
 simp only[AR,AC] at hmv
 obtain⟨hna,m,hmc,hγm,_,_,_⟩:=hmv
 have hmval:=au hna hmc
 have hO:=h.obs idm _ m hob hγm
 simp only[fK] at hO
 obtain⟨_,_,hSm,es,hes,hM⟩:=hO
 obtain⟨hesl,hesat⟩:=AW hM
 have hmn:=h.γn idm m hγm
 have hborn:∀ x∈es.toList,x.born<l.length:=fun x hx=>by
  obtain⟨i,hi,rfl⟩:=List.getElem_of_mem hx
  have:=(hesat i _ (List.getElem?_eq_getElem hi)).1
  omega
 have hbn:(es.toList.map (·.born)).Nodup:=by
  rw[List.Nodup,List.pairwise_iff_getElem]
  intro i j hi hj hij
  simp only[List.length_map] at hi hj
  have a1:=(hesat i _ (List.getElem?_eq_getElem hi)).1
  have a2:=(hesat j _ (List.getElem?_eq_getElem hj)).1
  simp only[List.getElem_map,a1,a2]
  omega
 refine wpIn_seq ?_
 refine wpIn_region_list ?_
 rw[h23]
 simp only[wpListIn,Region.wanted,if_true]
 refine(aV (K:=fun v w1=>v=a.tmps.getD m0 undef/\w=w1) (dq.value (v:=a.eval (.tmp m0)) (w':=w) rfl ⟨rfl,rfl⟩) ?_)
 rintro _ _ ⟨rfl,rfl⟩
 rw[hmval]
 have ha1:(a.put (some t72) (.map (some m))).eval (.tmp t72)=.map (some m):=ir (by rw[h.nt];exact n1)
 refine(aV (K:=fun v w1=>v=.pointer (some ⟨w.heap.size,0,none⟩)/\w1=w.alloc (.mapIter (some m) l.length #[] l.length)) (dq.value (iO (m:=Instr.range T (.map (some m))) ?_ (run_range_map w T TK TV m es l.length hT hes)) ⟨rfl,rfl⟩) ?_)
 ·show(Instr.range T ((a.put (some t72) (.map (some m))).eval (.tmp t72)) >>= fun r=>pure (Next.value r))=_
  rw[ha1]
 rintro _ _ ⟨rfl,rfl⟩
 simp only[Exit.then]
 refine wpIn_block ?_
 obtain⟨r,hr0⟩:∃ r,r=w.heap.size:=⟨_,rfl⟩
 rw[<-hr0]
 have hmr:m≠r:=by have:=hmn.2;omega
 have hgr:w.alloc (.mapIter (some m) l.length #[] l.length)=grown w [.mapIter (some m) l.length #[] l.length] w.drawn:=by
  show({ w with heap:=w.heap.push (.mapIter (some m) l.length #[] l.length) }:World)={ w with heap:=w.heap++[Obj.mapIter (some m) l.length #[] l.length].toArray,drawn:=w.drawn }
  rw[Array.push_eq_append]
 have h1:Rp w0 S γ β ((s.put (some t72) .undef).put (some it) .undef) ((a.put (some t72) (.map (some m))).put (some it) (.pointer (some ⟨r,0,none⟩))) (w.alloc (.mapIter (some m) l.length #[] l.length)):=by
  rw[hgr]
  exact(((h.put (v:=.undef) (val:=.map (some m)) (by simp[AR]) (some t72)).put (v:=.undef) (val:=.pointer (some ⟨r,0,none⟩)) (by simp[AR]) (some it)).grow (os:=[.mapIter (some m) l.length #[] l.length]) (d:=w.drawn) (Nat.le_refl _) (S':=S) (fun _ _ hb=>hb) (fun _ _ hb=>.inl hb)).1
 have hv1:c6 ((s.put (some t72) .undef).put (some it) .undef) e o=some []:=by
  have q1:((s.put (some t72) .undef).put (some it) .undef).tm o=s.tm o:=by rw[qy (fun e=>d2 (by cases e;rfl)),qy (fun e=>d1 (by cases e;rfl))]
  have q2:((s.put (some t72) .undef).put (some it) .undef).dead=s.dead:=by
   rw[(St.put_fields _ _ _).2.2.1,(St.put_fields _ _ _).2.2.1]
  unfold c6 at hv ⊢
  rw[q1,q2];exact hv
 have hnt1:((s.put (some t72) .undef).put (some it) .undef).nt=s.nt:=by rw[(St.put_fields _ _ _).2.2.2.1,(St.put_fields _ _ _).2.2.2.1]
 have hsz1:(w.alloc (.mapIter (some m) l.length #[] l.length)).heap.size=w.heap.size+1:=by rw[hgr];simp[grown]
 have hrn:¬ w0.Old r:=fun ho=>by have:=ho.1;have:=h.ext.sz;omega
 have hdead1:((s.put (some t72) .undef).put (some it) .undef).dead=s.dead:=by rw[(St.put_fields _ _ _).2.2.1,(St.put_fields _ _ _).2.2.1]
 obtain⟨β1,X1,hX1,R1⟩:=h1.std (m:=m) (r:=r) ⟨hmn.1,by rw[hsz1];omega⟩ ⟨hrn,by rw[hsz1];omega⟩ hmr (fun v bb ee hd hb=>by
  rw[hdead1] at hd
  exact⟨fun eq=>h.βγ v idm bb ee hd hb (eq ▸ hγm),fun eq=>by have:=(h.βn v bb ee hd hb).2.1;omega⟩) he hv1 it
 rw[hnt1] at R1
 have hes1:(w.alloc (.mapIter (some m) l.length #[] l.length)).heap[m]?=some (.map es l.length):=by
  rw[hgr,bW hmn.2];exact hes
 have hit1:(w.alloc (.mapIter (some m) l.length #[] l.length)).heap[r]?=some (.mapIter (some m) l.length #[] l.length):=by rw[hr0];exact heap_alloc_new w _
 have hp1:((a.put (some t72) (.map (some m))).put (some it) (.pointer (some ⟨r,0,none⟩))).tmps.getD it undef=.pointer (some ⟨r,0,none⟩):=by
  exact ir (by rw[qL,h.nt];exact n2)
 refine te (m:=l.length) (fun n a w=>∃ (S:Nat->Nat->Prop) (β:Nat->Option (Nat×Nat)) (X:AV) (L:List D) (seen:Array Nat) (c0:Nat),FZ e L X/\Rp w0 (fun b i=>S b i/\b≠m/\b≠r) (γs m r) β (σL s.nt o it X) a w/\a.defers=[]/\a.tmps.getD it undef=.pointer (some ⟨r,0,none⟩) ∧
  w.heap[m]?=some (.map es l.length)/\w.heap[r]?=some (.mapIter (some m) l.length seen c0)/\l.length<=c0/\L=seen.toList.map (fun j=>rl (l.getD j default))/\seen.toList.Nodup/\(∀ j∈seen.toList,j<l.length)/\n+seen.size=l.length)
  ⟨S,β1,X1,[],#[],l.length,hX1,R1,hdf,hp1,hes1,hit1,Nat.le_refl _,rfl,by simp,by simp,by simp⟩ ?_
 clear R1 h1 hv1 hp1 hes1 hit1 hX1 hgr
 rintro n a w ⟨S,β,X,L,seen,c0,hX,R,hda,hp,hes,hit,hc0,hL,hnd,hlt,hn⟩
 have hsz:=R.nt
 refine wpIn_seq (wpIn_region_list ?_)
 rw[h24]
 simp only[wpListIn,Region.wanted,if_true]
 have hev:a.eval (.tmp it)=.pointer (some ⟨r,0,none⟩):=hp
 rcases run_next_at w y3 r m l.length c0 seen es l.length hit hes hborn hc0 with⟨hz,hrun⟩|⟨e0,he0,w1,hw1,hrun⟩
 ·
  refine(aV (K:=fun v w1=>v=.tuple #[.bool false]/\w=w1) (dq.value (iO (m:=Instr.next (.pointer (some ⟨r,0,none⟩)) false y3) ?_ hrun) ⟨rfl,rfl⟩) ?_)
  ·show(Instr.next (a.eval (.tmp it)) false y3 >>= fun r=>pure (Next.value r))=_
   rw[hev]
  rintro _ _ ⟨rfl,rfl⟩
  have ex:(a.put (some nx) (.tuple #[.bool false])).eval (.tmp nx)=.tuple #[.bool false]:=ir (by rw[hsz];exact n3)
  refine(aV (K:=fun v w1=>v=.bool false/\w=w1) (dq.value (iO (m:=Instr.extract (.tuple #[.bool false]) 0) ?_ (v:=.bool false) (w':=w) rfl) ⟨rfl,rfl⟩) ?_)
  ·show(Instr.extract ((a.put (some nx) (.tuple #[.bool false])).eval (.tmp nx)) 0 >>= fun r=>pure (Next.value r))=_
   rw[ex]
  rintro _ _ ⟨rfl,rfl⟩
  simp only[Exit.then]
  refine wpIn_seq (wpIn_cond_false (ir (by rw[qL,hsz];exact n4)) (wpIn_exit ?_))
  simp only[Exit.then,Exit.inBlock,if_true]
  have R2:=(R.put (v:=.undef) (val:=.tuple #[.bool false]) (by simp[AR]) (some nx)).put (v:=.undef) (val:=.bool false) (by simp[AR]) (some ok)
  rw[uG d3,uG d4] at R2
  refine hQ L _ _ _ X _ _ hX ?_ R2 hda
  have hall:∀ j,j<l.length->j∈seen.toList:=fun j hj=>by
   have hj':j<es.toList.length:=by omega
   have e1:=(hesat j _ (List.getElem?_eq_getElem hj')).1
   have hno:es.toList[j] ∉ (leftOf es seen).toList:=fun hm=>by
    have:=List.length_pos_of_mem hm
    simp at this;omega
   simp only[leftOf,Array.toList_filter,List.mem_filter,List.getElem_mem,true_and] at hno
   simp at hno
   simp only[Array.getElem_toList,Nat.zero_add] at e1
   rw[e1] at hno
   simpa using hno
  have hperm:seen.toList.Perm (List.range l.length):=(List.perm_ext_iff_of_nodup hnd List.nodup_range).2 fun j=>⟨fun hj=>List.mem_range.2 (hlt j hj),fun hj=>hall j (List.mem_range.1 hj)⟩
  rw[hL]
  refine(hperm.map _).trans ?_
  have:(List.range l.length).map (fun j=>rl (l.getD j default))=l.map rl:=by
   apply List.ext_getElem?
   intro j
   rw[List.getElem?_map,List.getElem?_map]
   rcases Nat.lt_or_ge j l.length with k|k
   ·simp[k,List.getD]
   ·rw[List.getElem?_eq_none (by simpa using k),List.getElem?_eq_none k];rfl
  rw[this]
 ·
  have hw1m:w1.heap[m]?=some (.map es l.length):=by rcases hw1 with rfl|rfl<;>exact hes
  have hw1s:w1.heap.size=w.heap.size:=by rcases hw1 with rfl|rfl<;>rfl
  have hrs:r<w1.heap.size:=by rw[hw1s];exact(Array.getElem?_eq_some_iff.1 hit).1
  have Rw:Rp w0 (fun b i=>S b i/\b≠m/\b≠r) (γs m r) β (σL s.nt o it X) a w1:=by
   rcases hw1 with rfl|rfl
   ·exact R
   ·have:=(R.grow (os:=[]) (d:=w.drawn+1) (Nat.le_succ _) (S':=fun b i=>S b i/\b≠m/\b≠r) (fun _ _ hb=>hb) (fun _ _ hb=>.inl hb)).1
    have e2:grown w [] (w.drawn+1)=w.drew:=by
     unfold grown
     rw[show w.heap++([]:List Obj).toArray=w.heap by simp]
     rfl
    rw[e2] at this
    exact this
  obtain⟨w2,hw2⟩:∃ w2,w2=setBlock w1 r (.mapIter (some m) l.length (seen.push e0.born) l.length):=⟨_,rfl⟩
  rw[<-hw2] at hrun
  have R2:Rp w0 (fun b i=>S b i/\b≠m/\b≠r) (γs m r) β (σL s.nt o it X) a w2:=by
   rw[hw2]
   exact Rw.setB (id:=1) rfl rfl (fun i hi=>hi.2.2 rfl) _
  have hes2:w2.heap[m]?=some (.map es l.length):=by
   rw[hw2];simp only[setBlock];rw[Array.getElem?_setIfInBounds_ne (Ne.symm hmr)];exact hw1m
  have hit2:w2.heap[r]?=some (.mapIter (some m) l.length (seen.push e0.born) l.length):=by
   rw[hw2];simp only[setBlock];rw[Array.getElem?_setIfInBounds_self_of_lt hrs]
  have he0':e0∈es.toList/\e0.born ∉ seen.toList:=by
   simp only[leftOf,Array.toList_filter,List.mem_filter] at he0
   exact⟨he0.1,by have:=he0.2;simpa using this⟩
  obtain⟨j,hj,hje⟩:=List.getElem_of_mem he0'.1
  obtain⟨q1,k,v,q2,q3,q4,q5,q6⟩:=hesat j e0 (by rw[List.getElem?_eq_getElem hj,hje])
  rw[Nat.zero_add] at q1
  have hjl:j<l.length:=by omega
  have hgetj:l.getD j default=.st [k,v]:=by simp[List.getD,q2]
  refine(aV (K:=fun v w1=>v=.tuple #[.bool true,e0.key,e0.val]/\w2=w1) (dq.value (iO (m:=Instr.next (.pointer (some ⟨r,0,none⟩)) false y3) ?_ hrun) ⟨rfl,rfl⟩) ?_)
  ·show(Instr.next (a.eval (.tmp it)) false y3 >>= fun r=>pure (Next.value r))=_
   rw[hev]
  rintro _ _ ⟨rfl,rfl⟩
  have ex:(a.put (some nx) (.tuple #[.bool true,e0.key,e0.val])).eval (.tmp nx)=.tuple #[.bool true,e0.key,e0.val]:=ir (by rw[hsz];exact n3)
  refine(aV (K:=fun v w1=>v=.bool true/\w2=w1) (dq.value (iO (m:=Instr.extract (.tuple #[.bool true,e0.key,e0.val]) 0) ?_ (v:=.bool true) (w':=w2) rfl) ⟨rfl,rfl⟩) ?_)
  ·show(Instr.extract ((a.put (some nx) (.tuple #[.bool true,e0.key,e0.val])).eval (.tmp nx)) 0 >>= fun r=>pure (Next.value r))=_
   rw[ex]
  rintro _ _ ⟨rfl,rfl⟩
  simp only[Exit.then]
  refine wpIn_seq (wpIn_cond_true (ir (by rw[qL,hsz];exact n4)) (wpIn_skip ?_))
  simp only[Exit.then]
  refine wpIn_block (wpIn_seq (wpIn_region_list ?_))
  have R3:=(R2.put (v:=.undef) (val:=.tuple #[.bool true,e0.key,e0.val]) (by simp[AR]) (some nx)).put (v:=.undef) (val:=.bool true) (by simp[AR]) (some ok)
  rw[uG d3,uG d4] at R3
  have hp3:((a.put (some nx) (.tuple #[.bool true,e0.key,e0.val])).put (some ok) (.bool true)).tmps.getD it undef=.pointer (some ⟨r,0,none⟩):=by
   rw[bB (fun e=>d8 (by cases e;rfl)),bB (fun e=>d7 (by cases e;rfl))];exact hp
  have hda3:((a.put (some nx) (.tuple #[.bool true,e0.key,e0.val])).put (some ok) (.bool true)).defers=[]:=hda
  generalize ((a.put (some nx) (.tuple #[.bool true,e0.key,e0.val])).put (some ok) (.bool true))=a3 at R3 hp3 hda3 ⊢
  rw[h25]
  simp only[wpListIn,Region.wanted,if_true]
  refine(aV (K:=fun v w1=>v=.tuple #[e0.key,e0.val]/\w2=w1) (dq.value (iO (m:=Instr.entry (.pointer (some ⟨r,0,none⟩))) ?_ (run_entry_at w2 r m l.length seen es l.length e0 hit2 hes2 he0'.1 hbn)) ⟨rfl,rfl⟩) ?_)
  ·show(Instr.entry (a3.eval (.tmp it)) >>= fun r=>pure (Next.value r))=_
   rw[show a3.eval (.tmp it)=.pointer (some ⟨r,0,none⟩) from hp3]
  rintro _ _ ⟨rfl,rfl⟩
  have R4:=R3.put (v:=.d (.tup [e,vt]) (.tup [k,v])) (val:=.tuple #[e0.key,e0.val]) (by
   simp only[AR]
   refine .inr ⟨[e,vt],rfl,by simp[aY,hne,hnv],⟨[k,v],rfl,k,[v],rfl,q3,v,[],rfl,q4,rfl⟩,[e0.key,e0.val],rfl,rfl,fun i d u hd hu=>?_⟩
   cases i with
   | zero=>simp at hd hu;subst hd;subst hu;exact yb he q3 q5
   | succ i=>cases i with
    | zero=>simp at hd hu;subst hd;subst hu;exact yb hvt q4 q6
    | succ i=>simp at hd) (some en)
  have hp4:(a3.put (some en) (.tuple #[e0.key,e0.val])).tmps.getD it undef=.pointer (some ⟨r,0,none⟩):=by
   rw[bB (fun e=>d9 (by cases e;rfl))];exact hp3
  have hda4:(a3.put (some en) (.tuple #[e0.key,e0.val])).defers=[]:=hda3
  generalize (a3.put (some en) (.tuple #[e0.key,e0.val]))=a4 at R4 hp4 hda4 ⊢
  have hbs:(e0.born::seen.toList).length<=l.length:=wa _ _ (List.nodup_cons.2 ⟨he0'.2,hnd⟩) (fun x hx=>by
   rcases List.mem_cons.1 hx with rfl|hx
   ·omega
   ·exact hlt x hx)
  have hLl:L.length=seen.size:=by rw[hL];simp
  simp only[List.length_cons,Array.length_toList] at hbs
  have lkS4:((σL s.nt o it X).put (some en) (.d (.tup [e,vt]) (.tup [k,v]))).lkS=[it]:=(St.put_fields _ _ _).2.2.2.2.1
  have lkO4:((σL s.nt o it X).put (some en) (.d (.tup [e,vt]) (.tup [k,v]))).lkO=[0,1,4095]:=(St.put_fields _ _ _).2.2.2.2.2.1
  refine qV (ops:=rest.toArray) rest _ _ hrest ?_
  have key:=E9 (ro:=none) (nn:=nn) hE (Q:=Exit.then (c26.wpIn (FW none) nn P (Exit.inBlock b2 (Exit.then (fun a' w'=>∃ m_1,m_1<n/\∃ (S:Nat->Nat->Prop) (β:Nat->Option (Nat×Nat)) (X:AV) (L:List D) (seen:Array Nat) (c0:Nat),FZ e L X/\Rp w0 (fun b i=>S b i/\b≠m/\b≠r) (γs m r) β (σL s.nt o it X) a' w'/\a'.defers=[]/\a'.tmps.getD it undef=.pointer (some ⟨r,0,none⟩) ∧
   w'.heap[m]?=some (.map es l.length)/\w'.heap[r]?=some (.mapIter (some m) l.length seen c0)/\l.length<=c0/\L=seen.toList.map (fun j=>rl (l.getD j default))/\seen.toList.Nodup/\(∀ j∈seen.toList,j<l.length)/\m_1+seen.size=l.length) (Exit.inBlock b Q)))) (Exit.inBlock b2 (Exit.then (fun a' w'=>∃ m_1,m_1<n/\∃ (S:Nat->Nat->Prop) (β:Nat->Option (Nat×Nat)) (X:AV) (L:List D) (seen:Array Nat) (c0:Nat),FZ e L X/\Rp w0 (fun b i=>S b i/\b≠m/\b≠r) (γs m r) β (σL s.nt o it X) a' w'/\a'.defers=[]/\a'.tmps.getD it undef=.pointer (some ⟨r,0,none⟩) ∧
   w'.heap[m]?=some (.map es l.length)/\w'.heap[r]?=some (.mapIter (some m) l.length seen c0)/\l.length<=c0/\L=seen.toList.map (fun j=>rl (l.getD j default))/\seen.toList.Nodup/\(∀ j∈seen.toList,j<l.length)/\m_1+seen.size=l.length) (Exit.inBlock b Q)))) R4 (hround X L k v hX (by omega) q3) ?_
  ·simpa using key
  intro x s' S' γ' β' a' w' g1 g2 g3 g4
  cases x with
  | ret=>cases g4
  | exit i=>cases g4
  | normal=>
   show c26.wpIn (FW none) nn P _ a' w'
   refine yB hE c26 .leaf D _ _ g1 g4 fun x2 s2 S2 γ2 β2 a5 w5 k1 k2 k3 k4=>?_
   cases x2 with
   | ret=>cases k4
   | exit i=>cases k4
   | normal=>
    have hfr:c6 s2 e o=some (L++[k]):=by
     obtain⟨l2,u1,u2⟩:=bind_some_inv k4
     simp only[Option.some.injEq,D.sl.injEq] at u2
     rw[u1,u2]
    have F:=g2.tr k2 g3
    obtain⟨z1,z2⟩:=F.objs 0 (by rw[lkO4];simp) m rfl
    obtain⟨z3,z4⟩:=F.objs 1 (by rw[lkO4];simp) r rfl
    have z5:=F.slots it (by rw[lkS4];simp)
    obtain⟨β6,X6,hX6,R6⟩:=k1.std (m:=m) (r:=r) (k1.γn 0 m z1) (k1.γn 1 r z3) hmr (fun u bb ee hd hb=>⟨fun eq=>k1.βγ u 0 bb ee hd hb (eq ▸ z1),fun eq=>k1.βγ u 1 bb ee hd hb (eq ▸ z3)⟩) he hfr it
    have hnt6:s2.nt=s.nt:=by
     rw[k3.nt,g3.nt,(St.put_fields _ _ _).2.2.2.1];rfl
    rw[hnt6] at R6
    show ∃ m_1,m_1<n/\_
    refine⟨n-1,by omega,S2,β6,X6,L++[k],seen.push e0.born,l.length,hX6,R6,F.df0 (by rw[lkO4];simp) hda4,z5.trans hp4,z2.eq hes2 (fun _ h=>by cases h),z4.eq hit2 (fun _ h=>by cases h),Nat.le_refl _,?_,?_,?_,?_⟩
    ·rw[Array.toList_push,List.map_append,<-hL,List.map_cons,List.map_nil,q1,hgetj];rfl
    ·rw[Array.toList_push,List.nodup_append]
     refine⟨hnd,by simp,fun x hx y hy=>?_⟩
     rw[List.mem_singleton.1 hy]
     exact fun eq=>he0'.2 (eq ▸ hx)
    ·intro x hx
     rw[Array.toList_push] at hx
     rcases List.mem_append.1 hx with hx|hx
     ·exact hlt x hx
     ·rw[List.mem_singleton.1 hx];omega
    ·simp;omega
end
end Sy
end
noncomputable section
namespace Sy
open Go Go.Proofs Go.Sort Go.Lib
section
variable{P:Program}{E:Env}
def qD(w:World)(S:Nat->Nat->Prop):Root:=⟨w,S,fun _=>False⟩
def Hu(P:Program)(fn:Func)(w:World)(S:Nat->Nat->Prop)(rty:Ty)(y:D):Exit->Act->World->Prop:=
 bodyPost P fn fun e w'=>∃ v,e=.returned v/\(∃ os d,w.drawn<=d/\w'=grown w os d)/\wt rty y/\DR w' (fun b o=>S b o\/(w.heap.size<=b/\b<w'.heap.size)) y v
theorem GZ(hE:EnvOk P E){fn:Func}{rty:Ty}{y:D}{w:World}{S:Nat->Nat->Prop}(hr:gD fn.results.size rty=true){d:Code}{ann:Ann}{S':Nat->Nat->Prop}{γ':Nat->Option Nat}{β':Nat->Option (Nat×Nat)}{s':St}{a':Act}{w':World}
  (h:Rp (qD w S) S' γ' β' s' a' w') (hdf:a'.defers=[]) (h4:4095∈s'.lkO) (hev:(ev E d ann D s' fun e s=>match e with|.exit _=>none|_=>results E s rty fn.results.toList)=some y):d.wpIn (FW none) 0 P (Hu P fn w S rty y) a' w':=by
 refine yB hE d ann D _ y h hev fun e s' S' γ' β' a' w' n1 n2 n3 n4=>?_
 have hres:results E s' rty fn.results.toList=some y->(∃ v,(Go.results fn a'.tmps).run P w'=.ok v w'/\∃ v',Ending.returned v=.returned v'/\(∃ os d,w.drawn<=d/\w'=grown w os d)/\wt rty y/\DR w' (fun b o=>S b o\/(w.heap.size<=b/\b<w'.heap.size)) y v'):=fun hq=>by
  obtain⟨v,k1,k2,k3⟩:=jf hE n1 hr hq
  refine⟨v,k1,v,rfl,iY n1.ext (fun _ hf=>hf),k2,k3.mono (fun _ _ _=>rfl) fun b o hb=>?_⟩
  rcases Nat.lt_or_ge b w.heap.size with hlt|hge
  ·exact .inl (n1.So b o hb ⟨hlt,fun hf=>hf⟩)
  ·exact .inr ⟨hge,n1.Sb b o hb⟩
 cases e with
 | normal=>exact⟨n2.df0 h4 hdf,hres n4⟩
 | ret=>exact⟨n2.df0 h4 hdf,hres n4⟩
 | exit i=>cases n4
theorem w6(hE:EnvOk P E){f:FuncId}{fn:Func}{ann:AnnT}{ptys:List Ty}{rty:Ty}{xs:List D}{y:D}{K:St->Option D}(hf:P.funcs[f]?=some fn)(hk:(decide (ptys.length<=fn.ntmps)&&gD fn.results.size rty&&aY ptys)=true)
  (h:GU E K fn ann ptys xs=some y) (hK:∀ c,fn.body=some c->∀ (w:World) (S S':Nat->Nat->Prop) γ' β' s' a' w',Rp (qD w S) S' γ' β' s' a' w'->a'.defers=[]->K s'=some y->(sT c ann).wpIn (FW none) 0 P (Hu P fn w S rty y) a' w'):HY P ptys rty f xs y:=by
 intro w S vs hS hwt hlen hvs
 simp only[Bool.and_eq_true,decide_eq_true_eq] at hk
 obtain⟨⟨hsz,hr⟩,hn⟩:=hk
 unfold GU at h
 split at h<;>first|(cases h;done)|skip
 rename_i c hb
 have hxl:xs.length=ptys.length:=jn hwt
 have hntm:(vs.toArray++Array.replicate (fn.ntmps-vs.toArray.size) undef).size=fn.ntmps:=by
  simp;omega
 refine tv hf hb (GY (w0:=qD w S) hE c ann (S:=S) (γ:=fun _=>none) (β:=fun _=>none) (s:=pZ fn ptys xs) ?_ rfl (by simp[pZ]) h fun s' S' γ' β' a' w' n1 nd n2=>hK c hb w S S' γ' β' s' a' w' n1 nd n2)
 refine⟨⟨rfl,rfl,rfl,Nat.le_refl _,Nat.le_refl _,fun _ _=>rfl⟩,fun t ht=>?_,hntm,fun t ht=>?_,fun id o b ho=>(by cases ho),fun id b hb=>(by cases hb),fun id id' b hb=>(by cases hb),fun _ _=>rfl,fun v b e _ hb=>(by cases hb),fun v v' b e e' _ _ hb=>(by cases hb),fun v id b e _ hb=>(by cases hb),fun _ _=>rfl,hS,fun b o hb _=>hb⟩
 ·simp only[pZ,jM]
  split
  ·rename_i ty x e1 e2
   have hlt:=(List.getElem?_eq_some_iff.1 e2).1
   have hlt':t<vs.length:=by omega
   have hv:(vs.toArray++Array.replicate (fn.ntmps-vs.toArray.size) undef).getD t undef=vs[t]:=by
    simp[Array.getD,Array.getElem_append,hlt']
    omega
   show AR _ _ ((vs.toArray++Array.replicate (fn.ntmps-vs.toArray.size) undef).getD t undef)
   rw[hv]
   obtain⟨x',hx',hw'⟩:=ga hwt e1
   rw[e2] at hx';cases hx'
   exact df (bH hn e1) hw' (hvs t x _ e2 (List.getElem?_eq_getElem hlt'))
  ·simp only[AR]
 ·have ht':fn.ntmps<=t:=ht
  simp only[pZ,jM]
  rw[List.getElem?_eq_none (by omega)]
def Fu(nt x:Nat)(e:Ty)(l:List D):St:={ tm:=fun i=>if i=x then .d (.sl e) (.sl l) else .undef,ob:=fun _=>none,fresh:=0,dead:=[],nt:=nt,lkS:=[],lkO:=[4095] }
theorem Rp.reset{w0:Root}{S:Nat->Nat->Prop}{s:St}{x:Nat}{e:Ty}{l:List D}{a:Act}{w:World}(h:Rp w0 S (fun _=>none) (fun _=>none) (Hc s x e l) a w){nt:Nat}(hnt:s.nt=nt):Rp w0 S (fun _=>none) (fun _=>none) (Fu nt x e l) a w:=by
 subst hnt
 exact⟨h.ext,h.tms,h.nt,h.tmu,fun id o b ho=>(by cases ho),h.γn,h.γi,fun _ _=>rfl,h.βn,h.βi,h.βγ,fun _ _=>rfl,h.Sb,h.So⟩
def Gc(E:Env)(nt x g:Nat)(e:Ty)(s:St):Option D:=(c6 s e x).bind fun l=>if s.nt=nt then(iK E g l).bind fun l'=>some (.sl l') else none
theorem Au(hE:EnvOk P E){f0:Nat}{e:Ty}(hf:SortOk P f0 e){g:Nat}(hsig:E.sig g=some ([e,e],.int .i64)/\E.free g=0){fn:Func}{rty:Ty}{y:D}{w:World}{S:Nat->Nat->Prop}(hr:gD fn.results.size rty=true)
  {id x t d2 nt:Nat} {ops:Array Oper} {d:Code} {ann:Ann} {ty1 ty2:TypeId} {p1 p2:String} {af1 af2:Array Edge} {args:Array Operand} {ats:Array TypeId}
  (hops:ops.toList=[⟨some t,.move (.tmp x),ty1,p1,af1,none⟩,⟨some d2,.call ⟨.value (.func f0),args,ats⟩,ty2,p2,af2,none⟩]) (hargs:args=#[.tmp t,.func g]) (hd:(decide (x≠t)&&decide (x≠d2)&&decide (t<nt))=true)
  (hev:∀ l',(ev E d ann D (Fu nt x e l') fun e s=>match e with|.exit _=>none|_=>results E s rty fn.results.toList)=some (.sl l'))
  {S':Nat->Nat->Prop} {γ':Nat->Option Nat} {β':Nat->Option (Nat×Nat)} {s':St} {a':Act} {w':World} (h:Rp (qD w S) S' γ' β' s' a' w') (hdf:a'.defers=[]) (hK:Gc E nt x g e s'=some y):(Code.seq (.region id ops false) d).wpIn (FW none) 0 P (Hu P fn w S rty y) a' w':=by
 simp only[Bool.and_eq_true,decide_eq_true_eq] at hd
 obtain⟨⟨hd1,hd2⟩,hd3⟩:=hd
 obtain⟨l,h1,h2⟩:=bind_some_inv hK
 split at h2<;>first|(cases h2;done)|skip
 rename_i hnt
 obtain⟨l',h3,h4⟩:=bind_some_inv h2
 cases h4
 refine wpIn_seq (Fy hE hf hsig hops hargs h hdf hd1 hd2 (by rw[hnt];exact hd3) h1 h3 fun a2 w2 S2 hR hd2'=>?_)
 exact GZ hE hr (hR.reset hnt) hd2' (by simp[Fu]) (hev l')
theorem ou{lt:D->D->Bool}{x:D}:∀ {l:List D},(∀ a∈x::l,∀ b∈x::l,∀ c∈x::l,lt a b=true->lt b c=true->lt a c=true)->(∀ y∈l,lt x y=true\/lt y x=true)->l.Pairwise (fun a b=>lt a b=true)->(xg lt x l).Pairwise (fun a b=>lt a b=true)
 | [],_,_,_=>by simp[xg]
 | y::l,htr,hto,hp=>by
  obtain⟨p1,p2⟩:=List.pairwise_cons.1 hp
  simp only[xg]
  split
  ·rename_i hxy
   refine List.pairwise_cons.2 ⟨fun z hz=>?_,hp⟩
   rcases List.mem_cons.1 hz with rfl|hz
   ·exact hxy
   ·exact htr x (by simp) y (by simp) z (by simp[hz]) hxy (p1 z hz)
  ·rename_i hxy
   have hyx:lt y x=true:=(hto y List.mem_cons_self).resolve_left hxy
   refine List.pairwise_cons.2 ⟨fun z hz=>?_,ou (fun a ha b hb c hc=>?_) (fun z hz=>hto z (List.mem_cons_of_mem _ hz)) p2⟩
   ·rcases List.mem_cons.1 ((ny lt x l).subset hz) with rfl|hz
    ·exact hyx
    ·exact p1 z hz
   ·have up:∀ q,q∈x::l->q∈x::y::l:=fun q hq=>by
     rcases List.mem_cons.1 hq with rfl|hq
     ·simp
     ·simp[hq]
    exact htr a (up a ha) b (up b hb) c (up c hc)
theorem mF{lt:D->D->Bool}:∀ {l:List D},(∀ a∈l,∀ b∈l,∀ c∈l,lt a b=true->lt b c=true->lt a c=true)->l.Pairwise (fun a b=>lt a b=true\/lt b a=true)->(ju lt l).Pairwise (fun a b=>lt a b=true)
 | [],_,_=>by simp[ju]
 | x::l,htr,hto=>by
  obtain⟨p1,p2⟩:=List.pairwise_cons.1 hto
  have hs:∀ q,q∈ju lt l->q∈l:=fun q hq=>(fC lt l).subset hq
  have up:∀ q,q∈x::ju lt l->q∈x::l:=fun q hq=>by
   rcases List.mem_cons.1 hq with rfl|hq
   ·simp
   ·simp[hs q hq]
  exact ou (fun a ha b hb c hc=>htr a (up a ha) b (up b hb) c (up c hc)) (fun y hy=>p1 y (hs y hy)) (mF (fun a ha b hb c hc=>htr a (List.mem_cons_of_mem _ ha) b (List.mem_cons_of_mem _ hb) c (List.mem_cons_of_mem _ hc)) p2)
theorem wE{g:Nat}{l l':List D}(hc:rb E g l'=true)(hp:l.Perm l'):iK E g l=some l':=by
 obtain⟨h1,h2⟩:=ip hc
 have ix:∀ x∈l',∃ i,l'[i]?=some x:=fun x hx=>by
  obtain⟨i,k1,k2⟩:=List.getElem_of_mem hx
  exact⟨i,by rw[List.getElem?_eq_getElem k1,k2]⟩
 have htr:∀ a∈l,∀ b∈l,∀ c∈l,oz E g a b=true->oz E g b c=true->oz E g a c=true:=fun a ha b hb c hc' k1 k2=>by
  obtain⟨i,hi⟩:=ix a (hp.subset ha);obtain⟨j,hj⟩:=ix b (hp.subset hb);obtain⟨k,hk⟩:=ix c (hp.subset hc')
  have:=(dF hc hi hj).1.1 k1
  have:=(dF hc hj hk).1.1 k2
  exact(dF hc hi hk).1.2 (by omega)
 have hnd:l.Nodup:=hp.symm.nodup (rH hc)
 have hto:l.Pairwise (fun a b=>oz E g a b=true\/oz E g b a=true):=by
  refine List.Pairwise.imp_of_mem (fun{a b} ha hb hab=>?_) hnd
  obtain⟨i,hi⟩:=ix a (hp.subset ha);obtain⟨j,hj⟩:=ix b (hp.subset hb)
  rcases Nat.lt_trichotomy i j with k|k|k
  ·exact .inl ((dF hc hi hj).1.2 k)
  ·subst k;rw[hi] at hj;cases hj;exact absurd rfl hab
  ·exact .inr ((dF hc hj hi).1.2 k)
 have hs:=mF htr hto
 have hsp:(ju (oz E g) l).Perm l':=(fC _ l).trans hp
 have:ju (oz E g) l=l':=by
  have key:∀ {a b:List D},a.Pairwise (fun x y=>oz E g x y=true)->b.Pairwise (fun x y=>oz E g x y=true)->a.Perm b->(∀ x∈a,x∈l')->a=b:=by
   intro a
   induction a with
   | nil=>intro b _ _ hp _;exact hp.symm.eq_nil.symm ▸ rfl
   | cons x a ih=>
    intro b ha hb hp hm
    cases b with
    | nil=>exact absurd hp.eq_nil (by simp)
    | cons y b=>
     obtain⟨a1,a2⟩:=List.pairwise_cons.1 ha
     obtain⟨b1,b2⟩:=List.pairwise_cons.1 hb
     have e:x=y:=by
      rcases List.mem_cons.1 (hp.subset List.mem_cons_self) with e|m1
      ·exact e
      ·rcases List.mem_cons.1 (hp.symm.subset (List.mem_cons_self (a:=y))) with e|m2
       ·exact e.symm
       ·exfalso
        obtain⟨i,hi⟩:=ix x (hm x List.mem_cons_self)
        obtain⟨j,hj⟩:=ix y (hm y (List.mem_cons_of_mem _ m2))
        have:=(dF hc hi hj).1.1 (a1 y m2)
        have:=(dF hc hj hi).1.1 (b1 x m1)
        omega
     subst e
     rw[ih a2 b2 ((List.perm_cons x).1 hp) (fun z hz=>hm z (List.mem_cons_of_mem _ hz))]
  exact key hs (h1.imp fun h=>h.1) hsp fun x hx=>hsp.subset hx
 unfold iK
 rw[this,if_pos hc]
theorem xP{g:Nat}{l l2 l':List D}(h:iK E g l=some l')(hp:l2.Perm l):iK E g l2=some l':=by
 have hsd:rb E g l'=true/\l'=ju (oz E g) l:=by
  unfold iK at h
  split at h
  ·rename_i hh;cases h;exact⟨hh,rfl⟩
  ·cases h
 exact wE hsd.1 (hp.trans (by rw[hsd.2];exact(fC _ l).symm))
end
end Sy
end
noncomputable section
namespace Sy
open Go Go.Proofs Go.Sort Go.Lib
section
variable{P:Program}{E:Env}
def uf(E:Env)(nt m0 o g:Nat)(e vt:Ty)(s:St):Option D:=
 match s.tm m0 with
 | .map kt vt' id=>if kt.beq e&&vt'.beq vt then(match s.ob id with
   | some (.mp kt2 vt2 l)=>if kt2.beq e&&vt2.beq vt&&decide (l.length<=1073741824) then(match c6 s e o with
     | some []=>if s.nt=nt then(iK E g (l.map rl)).bind fun l'=>some (.sl l') else none
     | _=>none) else none
   | _=>none) else none
 | _=>none
theorem xI(hE:EnvOk P E){e vt:Ty}(he:bu e=true)(hvt:bu vt=true)(hne:am e=true)(hnv:am vt=true){fn:Func}{rty:Ty}{y:D}{w:World}{S:Nat->Nat->Prop}(hr:gD fn.results.size rty=true)
  {id23 id24 id25 b b2:Nat} {t72 m0 it T nx ok en o nt:Nat} {o23 o24 o25:Array Oper} {rest:List Oper} {c26:Code}
  {y1 y2 y3 y4 y5:TypeId} {p1 p2 p3 p4 p5:String} {f1 f2 f3 f4 f5:Array Edge} {TK TV:TypeId}
  (h23:o23.toList=[⟨some t72,.move (.tmp m0),y1,p1,f1,none⟩,⟨some it,.range T (.tmp t72),y2,p2,f2,none⟩])
  (h24:o24.toList=[⟨some nx,.next (.tmp it) false,y3,p3,f3,none⟩,⟨some ok,.extract (.tmp nx) 0,y4,p4,f4,none⟩])
  (h25:o25.toList=⟨some en,.entry (.tmp it),y5,p5,f5,none⟩::rest) (hrest:(rest.all fun x=>x.guard.isNone)=true) (hT:P.underlying T=some (.map TK TV))
  (hd:(decide (o≠t72)&&decide (o≠it)&&decide (nx≠o)&&decide (ok≠o)&&decide (en≠o)&&decide (it≠t72)&&decide (it≠nx)&&decide (it≠ok)&&decide (it≠en)&&decide (nx≠ok)&&decide (t72<nt)&&decide (it<nt)&&decide (nx<nt)&&decide (ok<nt)&&decide (en<nt))=true)
  (hround:∀ X L k v,FZ e L X->L.length<1073741824->wt e k->ev E (.region 0 rest.toArray false) .leaf D ((σL nt o it X).put (some en) (.d (.tup [e,vt]) (.tup [k,v]))) (fun x s'=>match x with
   | .normal=>ev E c26 .leaf D s' (fun x s''=>match x with|.normal=>(c6 s'' e o).bind fun l=>some (.sl l)|_=>none)
   | _=>none)=some (.sl (L++[k])))
  {f0 g:Nat} (hf:SortOk P f0 e) (hsig:E.sig g=some ([e,e],.int .i64)/\E.free g=0) {id t d2:Nat} {ops:Array Oper} {d:Code} {ann:Ann} {ty1 ty2:TypeId} {q1 q2:String} {af1 af2:Array Edge} {args:Array Operand} {ats:Array TypeId}
  (hops:ops.toList=[⟨some t,.move (.tmp o),ty1,q1,af1,none⟩,⟨some d2,.call ⟨.value (.func f0),args,ats⟩,ty2,q2,af2,none⟩]) (hargs:args=#[.tmp t,.func g]) (hd':(decide (o≠t)&&decide (o≠d2)&&decide (t<nt))=true)
  (hev:∀ l',(ev E d ann D (Fu nt o e l') fun x s=>match x with|.exit _=>none|_=>results E s rty fn.results.toList)=some (.sl l'))
  {S':Nat->Nat->Prop} {γ':Nat->Option Nat} {β':Nat->Option (Nat×Nat)} {s':St} {a':Act} {w':World} (h:Rp (qD w S) S' γ' β' s' a' w') (hdf:a'.defers=[]) (hK:uf E nt m0 o g e vt s'=some y) :
  (Code.seq (Code.seq (.region id23 o23 false) (.block b (.loop (.seq (.region id24 o24 false) (.seq (.cond (.tmp ok) .skip (.exit b)) (.block b2 (.seq (.region id25 o25 false) c26))))))) (Code.seq (.region id ops false) d)).wpIn (FW none) 0 P (Hu P fn w S rty y) a' w':=by
 unfold uf at hK
 split at hK<;>first|(cases hK;done)|skip
 rename_i kt vt' idm htm
 split at hK<;>first|(cases hK;done)|skip
 rename_i hb1
 split at hK<;>first|(cases hK;done)|skip
 rename_i kt2 vt2 l hob
 split at hK<;>first|(cases hK;done)|skip
 rename_i hb2
 split at hK<;>first|(cases hK;done)|skip
 rename_i hfr
 split at hK<;>first|(cases hK;done)|skip
 rename_i hnt
 obtain⟨l',h3,h4⟩:=bind_some_inv hK
 cases h4
 simp only[Bool.and_eq_true,decide_eq_true_eq] at hb1 hb2 hd
 have e1:=Ty.eq_of_beq _ _ hb1.1;have e2:=Ty.eq_of_beq _ _ hb1.2;have e3:=Ty.eq_of_beq _ _ hb2.1.1;have e4:=Ty.eq_of_beq _ _ hb2.1.2
 subst e1;subst e2;subst e3;subst e4
 obtain⟨⟨⟨⟨⟨⟨⟨⟨⟨⟨⟨⟨⟨⟨d1,d2'⟩,d3⟩,d4⟩,d5⟩,d6⟩,d7⟩,d8⟩,d9⟩,d10⟩,n1⟩,n2⟩,n3⟩,n4⟩,n5⟩:=hd
 subst hnt
 refine wpIn_seq (Fa hE he hvt hne hnv h23 h24 h25 (fun x hx=>by simpa using List.all_eq_true.1 hrest x hx) hT h hdf d1 d2' d3 d4 d5 d6 d7 d8 d9 d10 n1 n2 n3 n4 n5 htm hob hb2.2 hfr hround fun L S2 γ2 β2 X a2 w2 hX hp hR hdf2=>?_)
 have hlen:L.length<=1073741824:=by rw[hp.length_eq];simpa using hb2.2
 have hfX:c6 (σL s'.nt o it X) kt2 o=some L:=by
  unfold c6 σL
  simp only[if_true]
  rcases hX with⟨rfl,rfl⟩|rfl
  ·rfl
  ·simp only
   have:(kt2.beq kt2&&!(([]:List Nat).contains 5)&&decide (L.length<=1073741824))=true:=by
    simp only[Bool.and_eq_true,decide_eq_true_eq]
    exact⟨⟨hb2.1.1,rfl⟩,hlen⟩
   rw[if_pos this]
 refine Au hE hf hsig hr hops hargs hd' hev hR hdf2 ?_
 unfold Gc
 rw[hfX,Option.bind_some,if_pos (show(σL s'.nt o it X).nt=s'.nt from rfl),xP h3 hp]
 rfl
end
end Sy
end
noncomputable section
namespace Go.Proofs
open Go.Shelf
def Tryz.sortP_ren:Go.Shelf.Ren:=⟨fun|6=>235|15=>249|14=>248|28=>218|29=>262|20=>254|21=>255|22=>256|23=>257|24=>258|25=>259|26=>260|27=>261|46=>264|47=>265|48=>266|49=>267|50=>268|57=>269|n=>n,fun|22=>225|24=>228|25=>249|3=>3|39=>149|0=>0|53=>37|55=>147|4=>4|46=>260|45=>259|50=>133|5=>5|9=>9|66=>266|70=>270|76=>272|77=>273|n=>n,fun|n=>n⟩
theorem Tryz.sortP:Go.Proofs.SlLaysF0.n6 Tryz.prog Tryz.sortP_ren:={
 mixed:=by kernel_rfl
 f6:=⟨Tryz.f235.name,by decide,Tryz.func235.trans (congrArg some (by kernel_rfl))⟩
 f14:=⟨Tryz.f248.name,by decide,Tryz.func248.trans (congrArg some (by kernel_rfl))⟩
 f15:=Tryz.func249.trans (congrArg some (by kernel_rfl))
 f20:=⟨Tryz.f254.name,by decide,Tryz.func254.trans (congrArg some (by kernel_rfl))⟩
 f21:=⟨Tryz.f255.name,by decide,Tryz.func255.trans (congrArg some (by kernel_rfl))⟩
 f22:=⟨Tryz.f256.name,by decide,Tryz.func256.trans (congrArg some (by kernel_rfl))⟩
 f23:=⟨Tryz.f257.name,by decide,Tryz.func257.trans (congrArg some (by kernel_rfl))⟩
 f24:=⟨Tryz.f258.name,by decide,Tryz.func258.trans (congrArg some (by kernel_rfl))⟩
 f25:=⟨Tryz.f259.name,by decide,Tryz.func259.trans (congrArg some (by kernel_rfl))⟩
 f26:=⟨Tryz.f260.name,by decide,Tryz.func260.trans (congrArg some (by kernel_rfl))⟩
 f27:=⟨Tryz.f261.name,by decide,Tryz.func261.trans (congrArg some (by kernel_rfl))⟩
 f28:=Tryz.func218.trans (congrArg some (by kernel_rfl))
 f29:=Tryz.func262.trans (congrArg some (by kernel_rfl))
 f46:=⟨Tryz.f264.name,by decide,Tryz.func264.trans (congrArg some (by kernel_rfl))⟩
 f47:=Tryz.func265.trans (congrArg some (by kernel_rfl))
 f48:=Tryz.func266.trans (congrArg some (by kernel_rfl))
 f49:=⟨Tryz.f267.name,by decide,Tryz.func267.trans (congrArg some (by kernel_rfl))⟩
 f50:=⟨Tryz.f268.name,by decide,Tryz.func268.trans (congrArg some (by kernel_rfl))⟩
 f57:=⟨Tryz.f269.name,by decide,Tryz.func269.trans (congrArg some (by kernel_rfl))⟩
 t0:=Tryz.underlying0
 a0:=Tryz.isAgg0
 z0:=Tryz.sizeOf0
 v0:=Tryz.zeroValue0
 t3:=Tryz.underlying3
 a3:=Tryz.isAgg3
 z3:=Tryz.sizeOf3
 v3:=Tryz.zeroValue3
 t4:=Tryz.underlying4
 a4:=Tryz.isAgg4
 z4:=Tryz.sizeOf4
 v4:=Tryz.zeroValue4
 t5:=Tryz.underlying5
 a5:=Tryz.isAgg5
 z5:=Tryz.sizeOf5
 v5:=Tryz.zeroValue5
 t9:=Tryz.underlying9
 a9:=Tryz.isAgg9
 z9:=Tryz.sizeOf9
 v9:=Tryz.zeroValue9
 t22:=Tryz.underlying225
 a22:=Tryz.isAgg225
 z22:=Tryz.sizeOf225
 v22:=Tryz.zeroValue225
 t25:=Tryz.underlying249
 a25:=Tryz.isAgg249
 z25:=Tryz.sizeOf249
 v25:=Tryz.zeroValue249
 t39:=Tryz.underlying149
 a39:=Tryz.isAgg149
 z39:=Tryz.sizeOf149
 v39:=Tryz.zeroValue149
 t45:=Tryz.underlying259
 a45:=Tryz.isAgg259
 z45:=Tryz.sizeOf259
 v45:=Tryz.zeroValue259
 t46:=Tryz.underlying260
 a46:=Tryz.isAgg260
 z46:=Tryz.sizeOf260
 v46:=Tryz.zeroValue260
 t50:=Tryz.underlying133
 a50:=Tryz.isAgg133
 z50:=Tryz.sizeOf133
 v50:=Tryz.zeroValue133
 t53:=Tryz.underlying37
 a53:=Tryz.isAgg37
 z53:=Tryz.sizeOf37
 v53:=Tryz.zeroValue37
 t55:=Tryz.underlying147
 a55:=Tryz.isAgg147
 z55:=Tryz.sizeOf147
 v55:=Tryz.zeroValue147
 t66:=Tryz.underlying266
 a66:=Tryz.isAgg266
 z66:=Tryz.sizeOf266
 v66:=Tryz.zeroValue266
 t70:=Tryz.underlying270
 a70:=Tryz.isAgg270
 z70:=Tryz.sizeOf270
 v70:=Tryz.zeroValue270
 t76:=Tryz.underlying272
 a76:=Tryz.isAgg272
 z76:=Tryz.sizeOf272
 v76:=Tryz.zeroValue272
 t77:=Tryz.underlying273
 a77:=Tryz.isAgg273
 z77:=Tryz.sizeOf273
 v77:=Tryz.zeroValue273 }
end Go.Proofs
end
noncomputable section
namespace Sy
open Go Go.Proofs Go.Shelf Go.RowKit Go.Lib Go.Sort
theorem OR {P : Program} {f : Nat} (h : (match P.funcs[f]? with | some fn => !(fn.name == "runtime.NumGoroutine") && fn.body.isSome | none => false) = true) : ∃ fn, P.funcs[f]? = some fn /\ (fn.name == "runtime.NumGoroutine") = false /\ fn.body.isSome = true := by
 split at h
 ·rename_i fn hf
  simp only[Bool.and_eq_true,Bool.not_eq_true'] at h
  exact⟨fn,hf,h.1,h.2⟩
 ·cases h
theorem Cj:SortOk Tryz.prog 235 cM:=
 ⟨rfl,rfl,by decide,rfl,OR (by kernel_rfl),fun p cap fv w=>AnyF.slices_SortFunc_none Tryz.sortP p cap fv w,
  fun _ _ enc hk h1 cf hO g blk off cap d w eg hcmp hH hblk hsz=>AnyQ.slices_SortFunc Tryz.sortP 4 Tryz.isAgg228 Tryz.sizeOf228 enc hk h1 cf hO g #[] blk off cap d w eg hcmp hH hblk hsz⟩
end Sy
end
noncomputable section
set_option maxHeartbeats 0
namespace Sy
open Go Go.Proofs
def FY:Code->Code|.block _ c=>c|c=>c
def inLoop:Code->Code|.loop c=>c|c=>c
def QW:Code->Code|.seq a _=>a|c=>c
def J7:Code->Code|.seq _ b=>b|c=>c
def I2:Code->List Oper|.region _ o _=>o.toList|_=>[]
def HX:AnnT:=(.seq .leaf (.seq .leaf (.seq (.two .leaf (.two (.loop ⟨[(3,.same (.map cM Ty.bool 8204)),(15,.dv (Ty.int .i64))],[(8204,.mp cM Ty.bool)],[0,14]⟩ [(.exit 0,⟨[(3,.same (.map cM Ty.bool 8204))],[(8204,.mp cM Ty.bool)],[]⟩)] (.two .leaf (.two .leaf (.two (.two (.two .leaf (.two .leaf (.two (.loop ⟨[(3,.same (.map cM Ty.bool 8204)),(19,.dv (Ty.int .i64))],[(8204,.mp cM Ty.bool)],[0,4,14,15,18]⟩ [(.exit 2,⟨[(3,.same (.map cM Ty.bool 8204))],[(8204,.mp cM Ty.bool)],[0,14,15]⟩)] (.two .leaf (.two .leaf (.two (.two (.two .leaf (.two .leaf (.two (.loop ⟨[(3,.same (.map cM Ty.bool 8204)),(23,.dv (Ty.int .i64))],[(8204,.mp cM Ty.bool)],[0,4,5,14,15,18,19,22]⟩ [(.exit 4,⟨[(3,.same (.map cM Ty.bool 8204))],[(8204,.mp cM Ty.bool)],[0,4,14,15,18,19]⟩)] (.two .leaf (.two .leaf (.cut [(.normal,⟨[(3,.same (.map cM Ty.bool 8204))],[(8204,.mp cM Ty.bool)],[0,4,5,14,15,18,19,22,23]⟩)] [0,4,5,14,15,18,19,22,23] [] (.two (.two .leaf (.two (.reg [] 14) (.two .leaf (.two .leaf (.two (.loop ⟨[(3,.same (.map cM Ty.bool 8204)),(51,.ow cM),(53,.dv (Ty.int .i64))],[(8204,.mp cM Ty.bool)],[0,4,5,14,15,18,19,22,23,52]⟩ [(.exit 6,⟨[(3,.same (.map cM Ty.bool 8204))],[(8204,.mp cM Ty.bool)],[0,4,5,14,15,18,19,22,23]⟩)] (.two .leaf (.two .leaf (.cut [(.normal,⟨[(3,.same (.map cM Ty.bool 8204)),(51,.ow cM)],[(8204,.mp cM Ty.bool)],[0,4,5,14,15,18,19,22,23,52,53]⟩)] [0,4,5,14,15,18,19,22,23,52,53] [] .leaf .leaf)))) .leaf))))) .leaf) .leaf)))) .leaf))) .leaf) .leaf)))) .leaf))) .leaf) .leaf)))) .leaf)) (.seq .leaf .hand))))
def Hs(lp:Lp)(call:Nat->List D->Option D)(a0:D):Option D:=
 Option.bind (D.asSl a0) fun l1=>
 Option.bind (lp (β:=Nat×List D) (fun(v2:List D)=>
 Option.bind (D.bin .lss (gx v2 0) (D.int .i64 (List.length l1))) fun x3=>
 Option.bind (D.truth x3) fun b4=>
 if b4 then(Option.bind (lp (β:=Nat×List D) (fun(v5:List D)=>
 Option.bind (D.bin .lss (gx v5 0) (gx v2 0)) fun x6=>
 Option.bind (D.truth x6) fun b7=>
 if b7 then(Option.bind (lp (β:=Nat×List D) (fun(v8:List D)=>
 Option.bind (D.bin .lss (gx v8 0) (gx v5 0)) fun x9=>
 Option.bind (D.truth x9) fun b10=>
 if b10 then(Option.bind (Option.bind (D.asSl a0) fun l11=>
 Option.bind (D.idx (gx v2 0) (List.length l11)) fun lg=>
 Option.bind (l11[lg]?) fun x13=>
 Option.bind (D.asSl a0) fun l14=>
 Option.bind (D.idx (gx v5 0) (List.length l14)) fun i15=>
 Option.bind (l14[i15]?) fun x16=>
 Option.bind (D.asSl a0) fun l17=>
 Option.bind (D.idx (gx v8 0) (List.length l17)) fun i18=>
 Option.bind (l17[i18]?) fun x19=>
 Option.bind (call 96 [x13,x16,x19]) fun r20=>
 Option.bind (D.get r20 [0]) fun x21=>
 Option.bind (D.truth (D.bool (D.beq x21 (D.st [(D.int .i64 0),(D.int .i64 0),(D.int .i64 0)])))) fun b22=>
 if b22 then(some (0,[(D.sl (D.els (gx v8 1)))])) else(Option.bind (D.get r20 [0]) fun x23=>
 Option.bind (call 97 [x23]) fun r24=>
 Option.bind (D.get r20 [1]) fun x25=>
 Option.bind (D.un .neg x25) fun x26=>
 Option.bind (lp (β:=Nat×List D) (fun(v27:List D)=>
 Option.bind (D.bin .lss (gx v27 1) (D.int .i64 2)) fun x28=>
 Option.bind (D.truth x28) fun b29=>
 if b29 then(Option.bind (Option.bind (D.idx (gx v27 1) (List.length (D.els (gx v27 0)))) fun i30=>
 Option.bind ((D.els (gx v27 0))[i30]?) fun x31=>
 Option.bind (D.un .not (Option.getD (D.mget (D.els (gx v27 2)) x31) (D.bool false))) fun x32=>
 Option.bind (D.truth x32) fun b33=>
 Option.bind (if b33 then(Option.bind (call 98 [a0,x31]) fun r34=>
 D.truth r34) else(some false)) fun b35=>
 Option.bind (D.truth (D.bool b35)) fun b36=>
 if b36 then(some (0,[(D.sl (D.els (gx v27 0))),(D.sl (D.mput (D.els (gx v27 2)) x31 (D.bool true)))])) else(some (0,[(D.sl (D.els (gx v27 0))),(D.sl (D.els (gx v27 2)))]))) fun(r37:Nat×List D)=>
 Option.bind (D.bin .add (gx v27 1) (D.int .i64 1)) fun x38=>
 some (Sum.inl [(D.sl (D.els (gx r37.2 0))),x38,(D.sl (D.els (gx r37.2 1)))])) else(some (Sum.inr (0,[(D.sl (D.els (gx v27 2)))])))) [(D.sl [r20,(D.st [r24,x26])]),(D.int .i64 0),(D.sl (D.els (gx v8 1)))]) fun r39=>
 some (0,[(D.sl (D.els (gx r39.2 0)))]))) fun(r40:Nat×List D)=>
 Option.bind (D.bin .add (gx v8 0) (D.int .i64 1)) fun x41=>
 some (Sum.inl [x41,(D.sl (D.els (gx r40.2 0)))])) else(some (Sum.inr (0,[(D.sl (D.els (gx v8 1)))])))) [(D.int .i64 0),(D.sl (D.els (gx v5 1)))]) fun r42=>
 Option.bind (D.bin .add (gx v5 0) (D.int .i64 1)) fun x43=>
 some (Sum.inl [x43,(D.sl (D.els (gx r42.2 0)))])) else(some (Sum.inr (0,[(D.sl (D.els (gx v5 1)))])))) [(D.int .i64 0),(D.sl (D.els (gx v2 1)))]) fun r44=>
 Option.bind (D.bin .add (gx v2 0) (D.int .i64 1)) fun x45=>
 some (Sum.inl [x45,(D.sl (D.els (gx r44.2 0)))])) else(some (Sum.inr (0,[(D.sl (D.els (gx v2 1)))])))) [(D.int .i64 0),(D.sl [])]) fun r46=>
 if decide (List.length (D.els (gx r46.2 0))<=1073741824) then(Option.bind (iK (dQ lp call (mh lp call)) (dE 100) (List.map rl (D.els (gx r46.2 0)))) fun l2=>some (D.sl l2)) else none
theorem RF(lp:Lp)(call:Nat->List D->Option D)(a0:D):GU (dQ lp call (mh lp call)) (uf (dQ lp call (mh lp call)) 85 3 10 (dE 100) cM Ty.bool) Tryz.f210 HX [K2] [a0]=Hs lp call a0:=by kernel_rfl
def GB(f:Func):Code:=match f.body with|some c=>c|none=>.skip
def wq:Code:=FY (J7 (J7 (inLoop (FY (J7 (QW (sT (GB Tryz.f210) HX)))))))
def xG:List Oper:=(I2 (QW wq)).tail
def OI:Code:=J7 wq
theorem Ft{lp:Lp}{call:Nat->List D->Option D}:∀ X L k v,FZ cM L X->L.length<1073741824->wt cM k->ev (dQ lp call (mh lp call)) (.region 0 (xG).toArray false) .leaf D ((σL 85 10 73 X).put (some 76) (.d (.tup [cM,.bool]) (.tup [k,v]))) (fun x s'=>match x with
   | .normal=>ev (dQ lp call (mh lp call)) OI .leaf D s' (fun x s''=>match x with|.normal=>(c6 s'' cM 10).bind fun l=>some (.sl l)|_=>none)
   | _=>none)=some (.sl (L++[k])):=by
 intro X L k v hX hL _
 rcases hX with⟨rfl,rfl⟩|rfl
 ·kernel_rfl
 ·have key:ev (dQ lp call (mh lp call)) (.region 0 (xG).toArray false) .leaf D ((σL 85 10 73 (.own cM 5 L)).put (some 76) (.d (.tup [cM,.bool]) (.tup [k,v]))) (fun x s'=>match x with
   | .normal=>ev (dQ lp call (mh lp call)) OI .leaf D s' (fun x s''=>match x with|.normal=>(c6 s'' cM 10).bind fun l=>some (.sl l)|_=>none)
   | _=>none)=(if List.length L+List.length [k]<=1073741824 then(Option.bind (if decide (List.length (L++[k])<=1073741824) then some (L++[k]) else none) fun l=>some (.sl l)) else none):=by kernel_rfl
  rw[key,if_pos (by simp;omega),if_pos (by simp;omega)]
  rfl
theorem IF{lp:Lp}{call:Nat->List D->Option D}(hE:EnvOk Tryz.prog (dQ lp call (mh lp call))){a0 y:D}(h:Hs lp call a0=some y):HY Tryz.prog [K2] Ht (dE 45) [a0] y:=by
 refine w6 hE (f:=dE 45) (fn:=Tryz.f210) (ann:=HX) (K:=uf (dQ lp call (mh lp call)) 85 3 10 (dE 100) cM .bool) (by kernel_rfl) (by kernel_rfl) ((RF lp call a0).trans h) ?_
 intro c hb w S S' γ' β' s' a' w' hR hd hK
 have e:∀ c',Tryz.f210.body=some c'->(sT c' HX).wpIn (FW none) 0 Tryz.prog (Hu Tryz.prog Tryz.f210 w S Ht y) a' w'->(sT c HX).wpIn (FW none) 0 Tryz.prog (Hu Tryz.prog Tryz.f210 w S Ht y) a' w':=fun c' h1 h2=>by
  rw[hb] at h1;cases h1;exact h2
 refine e _ rfl ?_
 exact xI hE rfl rfl rfl rfl (by kernel_rfl) (t72:=72) (m0:=3) (it:=73) (T:=244) (nx:=74) (ok:=75) (en:=76) (o:=10) (nt:=85) (c26:=OI) (rest:=xG) rfl rfl rfl rfl (TK:=228) (TV:=4) (by kernel_rfl) (by decide) Ft Cj (g:=236) ⟨by kernel_rfl,by kernel_rfl⟩ (t:=82) (d2:=83) (ann:=.leaf) rfl rfl (by decide) (fun l'=>by kernel_rfl) hR hd hK
end Sy
end
noncomputable section
namespace Sy
open Go Go.Proofs
theorem R8{lp:Lp}(hlp:ak lp):ac 45 (m1 (Hs lp)):=by
 intro call hc ptys rty' xs y hs hy hw
 have:nO (dE 45)=some ([K2],Ht):=by kernel_rfl
 rw[this] at hs;cases hs
 unfold m1 at hy
 split at hy<;>first|(cases hy;done)|skip
 have h0:kK (dE 45)=0:=by kernel_rfl
 rw[h0]
 exact IF (ON hlp hc) hy
end Sy
end
noncomputable section
set_option maxHeartbeats 0
namespace Sy
open Go Go.Proofs
def FC(lp:Lp):CT:=.node 146 (.node 91 (.node 61 (.node 37 (.node 22 (.node 15 (.node 13 (.leaf 12 (m1 (Hr lp))) (.leaf 13 (m2 (Jj lp)))) (.node 18 (.leaf 15 (m1 (Jk lp))) (.node 19 (.leaf 18 (m1 (Jl lp))) (.leaf 19 (m1 (Jm lp)))))) (.node 32 (.node 23 (.leaf 22 (m1 (Jo lp))) (.node 28 (.leaf 23 (m1 (QG lp))) (.leaf 28 (m1 (QH lp))))) (.node 33 (.leaf 32 (m2 (Jp lp))) (.node 34 (.leaf 33 (m2 (Jq lp))) (.leaf 34 (m1 (Jr lp))))))) (.node 48 (.node 45 (.node 39 (.leaf 37 (m2 (Js lp))) (.node 40 (.leaf 39 (m2 (Jt lp))) (.leaf 40 (m2 (Ju lp))))) (.node 46 (.leaf 45 (m1 (Hs lp))) (.node 47 (.leaf 46 (m2 (Jv lp))) (.leaf 47 (m1 (Jw lp)))))) (.node 54 (.node 52 (.leaf 48 (m1 (Jx lp))) (.node 53 (.leaf 52 (m1 (Jy lp))) (.leaf 53 (m2 (Jz lp))))) (.node 57 (.leaf 54 (m1 (JA lp))) (.node 59 (.leaf 57 (m2 (JB lp))) (.leaf 59 (m2 (H6 lp)))))))) (.node 79 (.node 73 (.node 68 (.node 62 (.leaf 61 (m2 (JC lp))) (.leaf 62 (m2 (JD lp)))) (.node 70 (.leaf 68 (m1 (JE lp))) (.node 72 (.leaf 70 (m1 (JF lp))) (.leaf 72 (cY 0 lp 72 Tryz.f109 QE))))) (.node 76 (.node 74 (.leaf 73 (m2 (JG lp))) (.node 75 (.leaf 74 (m1 (JH lp))) (.leaf 75 (cY 0 lp 75 Tryz.f29 .leaf)))) (.node 77 (.leaf 76 (m1 (JI lp))) (.node 78 (.leaf 77 (m1 (JJ lp))) (.leaf 78 (m2 (JK lp))))))) (.node 85 (.node 82 (.node 80 (.leaf 79 (m2 (JL lp))) (.node 81 (.leaf 80 (m1 (JM lp))) (.leaf 81 (m2 (H7 lp))))) (.node 83 (.leaf 82 (m2 (JN lp))) (.node 84 (.leaf 83 (m1 (JO lp))) (.leaf 84 (cY 0 lp 84 Tryz.f50 .leaf))))) (.node 88 (.node 86 (.leaf 85 (m2 (H8 lp))) (.node 87 (.leaf 86 (m1 (JP lp))) (.leaf 87 (m2 (H9 lp))))) (.node 89 (.leaf 88 (m1 (JQ lp))) (.node 90 (.leaf 89 (m2 (Ia lp))) (.leaf 90 (m2 (JR lp))))))))) (.node 122 (.node 108 (.node 101 (.node 97 (.node 96 (.leaf 91 (cY 0 lp 91 Tryz.f177 QF)) (.leaf 96 (m3 (JS lp)))) (.node 98 (.leaf 97 (m1 (JT lp))) (.node 100 (.leaf 98 (m2 (JU lp))) (.leaf 100 (m2 (CN lp)))))) (.node 105 (.node 103 (.leaf 101 (m2 (AP lp))) (.node 104 (.leaf 103 (m2 (CO lp))) (.leaf 104 (m3 (CP lp))))) (.node 106 (.leaf 105 (m2 (CQ lp))) (.node 107 (.leaf 106 (m3 (CS lp))) (.leaf 107 (m2 (CU lp))))))) (.node 116 (.node 111 (.node 109 (.leaf 108 (m2 (CV lp))) (.node 110 (.leaf 109 (m3 (CW lp))) (.leaf 110 (m2 (CX lp))))) (.node 112 (.leaf 111 (m3 (CY lp))) (.node 115 (.leaf 112 (m2 (CZ lp))) (.leaf 115 (m1 (C0 lp)))))) (.node 119 (.node 117 (.leaf 116 (m2 (C1 lp))) (.node 118 (.leaf 117 (m2 (C2 lp))) (.leaf 118 (m1 (C3 lp))))) (.node 120 (.leaf 119 (m0 (C4 lp))) (.node 121 (.leaf 120 (m2 (C5 lp))) (.leaf 121 (m2 (C6 lp)))))))) (.node 134 (.node 128 (.node 125 (.node 123 (.leaf 122 (m2 (C7 lp))) (.node 124 (.leaf 123 (m2 (C8 lp))) (.leaf 124 (m1 (AQ lp))))) (.node 126 (.leaf 125 (m0 (C9 lp))) (.node 127 (.leaf 126 (m2 (Da lp))) (.leaf 127 (m1 (Db lp)))))) (.node 131 (.node 129 (.leaf 128 (m1 (Dc lp))) (.node 130 (.leaf 129 (m1 (Dd lp))) (.leaf 130 (cY 0 lp 130 Tryz.f43 .leaf)))) (.node 132 (.leaf 131 (m2 (De lp))) (.node 133 (.leaf 132 (m2 (Df lp))) (.leaf 133 (m0 (Dg lp))))))) (.node 140 (.node 137 (.node 135 (.leaf 134 (m2 (H0 lp))) (.node 136 (.leaf 135 (cY 0 lp 135 Tryz.f44 Hz)) (.leaf 136 (m1 (Dh lp))))) (.node 138 (.leaf 137 (m2 (Di lp))) (.node 139 (.leaf 138 (m1 (Dj lp))) (.leaf 139 (m1 (Dk lp)))))) (.node 143 (.node 141 (.leaf 140 (m1 (Dl lp))) (.node 142 (.leaf 141 (m2 (Dm lp))) (.leaf 142 (m1 (Dn lp))))) (.node 144 (.leaf 143 (m2 (Do lp))) (.node 145 (.leaf 144 (m2 (Dp lp))) (.leaf 145 (m1 (Dq lp)))))))))) (.node 331 (.node 197 (.node 170 (.node 155 (.node 148 (.node 147 (.leaf 146 (m2 (Dr lp))) (.leaf 147 (m2 (H1 lp)))) (.node 152 (.leaf 148 (m1 (H2 lp))) (.node 154 (.leaf 152 (m2 (AS lp))) (.leaf 154 (m2 (Ds lp)))))) (.node 167 (.node 156 (.leaf 155 (m1 (Dt lp))) (.node 165 (.leaf 156 (m5 (Du lp))) (.leaf 165 (m1 (Dv lp))))) (.node 168 (.leaf 167 (m1 (Dw lp))) (.node 169 (.leaf 168 (m2 (Dx lp))) (.leaf 169 (m0 (Dy lp))))))) (.node 186 (.node 173 (.node 171 (.leaf 170 (m2 (Dz lp))) (.node 172 (.leaf 171 (m1 (DA lp))) (.leaf 172 (m2 (DB lp))))) (.node 174 (.leaf 173 (m2 (DC lp))) (.node 175 (.leaf 174 (m2 (DD lp))) (.leaf 175 (m2 (DE lp)))))) (.node 194 (.node 187 (.leaf 186 (m1 (DF lp))) (.node 188 (.leaf 187 (m1 (DG lp))) (.leaf 188 (m2 (DH lp))))) (.node 195 (.leaf 194 (m1 (DI lp))) (.node 196 (.leaf 195 (m2 (DJ lp))) (.leaf 196 (m1 (DK lp)))))))) (.node 313 (.node 303 (.node 203 (.node 201 (.leaf 197 (m2 (DL lp))) (.node 202 (.leaf 201 (m2 (DM lp))) (.leaf 202 (m1 (zg lp))))) (.node 215 (.leaf 203 (cY 0 lp 203 Tryz.f197 HA)) (.node 217 (.leaf 215 (m1 (DN lp))) (.leaf 217 (m1 (DO lp)))))) (.node 308 (.node 306 (.leaf 303 (m3 (DP lp))) (.node 307 (.leaf 306 (m3 (DQ lp))) (.leaf 307 (cY 0 lp 307 Tryz.f10 HB)))) (.node 309 (.leaf 308 (m1 (DS lp))) (.node 311 (.leaf 309 (cY 0 lp 309 Tryz.f12 HC)) (.leaf 311 (m3 (DT lp))))))) (.node 324 (.node 320 (.node 316 (.leaf 313 (m3 (DU lp))) (.node 318 (.leaf 316 (cY 0 lp 316 Tryz.f19 HD)) (.leaf 318 (cY 0 lp 318 Tryz.f21 HE)))) (.node 322 (.leaf 320 (cY 0 lp 320 Tryz.f23 .leaf)) (.node 323 (.leaf 322 (m1 (DV lp))) (.leaf 323 (m1 (DW lp)))))) (.node 328 (.node 326 (.leaf 324 (m2 (DX lp))) (.node 327 (.leaf 326 (m1 (DY lp))) (.leaf 327 (m1 (DZ lp))))) (.node 329 (.leaf 328 (cY 0 lp 328 Tryz.f37 HF)) (.node 330 (.leaf 329 (cY 0 lp 329 Tryz.f38 .leaf)) (.leaf 330 (cY 0 lp 330 Tryz.f39 HG)))))))) (.node 364 (.node 347 (.node 337 (.node 333 (.node 332 (.leaf 331 (m1 (D0 lp))) (.leaf 332 (cY 0 lp 332 Tryz.f42 HH))) (.node 334 (.leaf 333 (cY 0 lp 333 Tryz.f47 .leaf)) (.node 336 (.leaf 334 (cY 0 lp 334 Tryz.f48 HI)) (.leaf 336 (m2 (D1 lp)))))) (.node 344 (.node 341 (.leaf 337 (m2 (D2 lp))) (.node 342 (.leaf 341 (cY 0 lp 341 Tryz.f62 HJ)) (.leaf 342 (cY 0 lp 342 Tryz.f63 .leaf)))) (.node 345 (.leaf 344 (cY 0 lp 344 Tryz.f73 .leaf)) (.node 346 (.leaf 345 (m2 (D3 lp))) (.leaf 346 (m1 (D4 lp))))))) (.node 353 (.node 350 (.node 348 (.leaf 347 (m1 (D5 lp))) (.node 349 (.leaf 348 (m1 (D6 lp))) (.leaf 349 (m1 (D7 lp))))) (.node 351 (.leaf 350 (cY 1 lp 350 Tryz.f85 HK)) (.node 352 (.leaf 351 (m2 (H3 lp))) (.leaf 352 (cY 0 lp 352 Tryz.f87 HL))))) (.node 361 (.node 357 (.leaf 353 (cY 0 lp 353 Tryz.f88 HM)) (.node 359 (.leaf 357 (m1 (D8 lp))) (.leaf 359 (cY 0 lp 359 Tryz.f110 HN)))) (.node 362 (.leaf 361 (m1 (D9 lp))) (.node 363 (.leaf 362 (m1 (Ea lp))) (.leaf 363 (m2 (Eb lp)))))))) (.node 382 (.node 375 (.node 367 (.node 365 (.leaf 364 (m2 (Ec lp))) (.node 366 (.leaf 365 (m1 (Ed lp))) (.leaf 366 (cY 0 lp 366 Tryz.f137 HO)))) (.node 371 (.leaf 367 (m3 (H4 lp))) (.node 372 (.leaf 371 (cY 0 lp 371 Tryz.f160 HP)) (.leaf 372 (cY 0 lp 372 Tryz.f161 HR))))) (.node 378 (.node 376 (.leaf 375 (m1 (Ee lp))) (.node 377 (.leaf 376 (m3 (Ef lp))) (.leaf 377 (m1 (Eg lp))))) (.node 379 (.leaf 378 (m1 (Eh lp))) (.node 381 (.leaf 379 (m2 (Ei lp))) (.leaf 381 (cY 0 lp 381 Tryz.f181 .leaf)))))) (.node 393 (.node 389 (.node 385 (.leaf 382 (cY 0 lp 382 Tryz.f182 HS)) (.node 386 (.leaf 385 (cY 0 lp 385 Tryz.f199 .leaf)) (.leaf 386 (cY 0 lp 386 Tryz.f200 HT)))) (.node 390 (.leaf 389 (m2 (Ej lp))) (.node 392 (.leaf 390 (m2 (Ek lp))) (.leaf 392 (cY 0 lp 392 Tryz.f221 .leaf))))) (.node 396 (.node 394 (.leaf 393 (cY 0 lp 393 Tryz.f222 HU)) (.node 395 (.leaf 394 (cY 0 lp 394 Tryz.f223 HV)) (.leaf 395 (m4 (El lp))))) (.node 402 (.leaf 396 (m2 (Em lp))) (.node 407 (.leaf 402 (m4 (H5 lp))) (.leaf 407 (cY 0 lp 407 Tryz.f139 HW)))))))))
theorem y9{lp:Lp}(hlp:ak lp):(FC lp).ok:=⟨⟨⟨⟨⟨⟨⟨RN hlp,RO hlp⟩,⟨RP hlp,⟨RQ hlp,RR hlp⟩⟩⟩,⟨⟨RS hlp,⟨RT hlp,RU hlp⟩⟩,⟨RW hlp,⟨RY hlp,RZ hlp⟩⟩⟩⟩,⟨⟨⟨R0 hlp,⟨R5 hlp,R7 hlp⟩⟩,⟨R8 hlp,⟨R9 hlp,Sa hlp⟩⟩⟩,⟨⟨Sc hlp,⟨Sd hlp,Se hlp⟩⟩,⟨Sf hlp,⟨Sg hlp,Si hlp⟩⟩⟩⟩⟩,⟨⟨⟨⟨Sj hlp,Sl hlp⟩,⟨Sn hlp,⟨Sp hlp,Sq hlp⟩⟩⟩,⟨⟨Sr hlp,⟨Ss hlp,Su hlp⟩⟩,⟨Sv hlp,⟨Sw hlp,Sx hlp⟩⟩⟩⟩,⟨⟨⟨Sz hlp,⟨SA hlp,SB hlp⟩⟩,⟨SC hlp,⟨SD hlp,SE hlp⟩⟩⟩,⟨⟨SF hlp,⟨SG hlp,SH hlp⟩⟩,⟨SI hlp,⟨SJ hlp,SK hlp⟩⟩⟩⟩⟩⟩,⟨⟨⟨⟨⟨SL hlp,SM hlp⟩,⟨SN hlp,⟨SO hlp,Ly hlp⟩⟩⟩,⟨⟨Lz hlp,⟨LA hlp,LB hlp⟩⟩,⟨LC hlp,⟨LD hlp,LE hlp⟩⟩⟩⟩,⟨⟨⟨LF hlp,⟨LG hlp,LH hlp⟩⟩,⟨LI hlp,⟨LJ hlp,LK hlp⟩⟩⟩,⟨⟨LL hlp,⟨LN hlp,LO hlp⟩⟩,⟨LP hlp,⟨LQ hlp,LR hlp⟩⟩⟩⟩⟩,⟨⟨⟨⟨LS hlp,⟨LT hlp,LU hlp⟩⟩,⟨LV hlp,⟨LW hlp,LX hlp⟩⟩⟩,⟨⟨LY hlp,⟨LZ hlp,L0 hlp⟩⟩,⟨L1 hlp,⟨L2 hlp,L3 hlp⟩⟩⟩⟩,⟨⟨⟨L4 hlp,⟨L5 hlp,L6 hlp⟩⟩,⟨L7 hlp,⟨L8 hlp,L9 hlp⟩⟩⟩,⟨⟨Ma hlp,⟨Mb hlp,Mc hlp⟩⟩,⟨Md hlp,⟨Me hlp,Mf hlp⟩⟩⟩⟩⟩⟩⟩,⟨⟨⟨⟨⟨⟨Mg hlp,Mh hlp⟩,⟨Mi hlp,⟨Mj hlp,Mk hlp⟩⟩⟩,⟨⟨Ml hlp,⟨Mm hlp,Mn hlp⟩⟩,⟨Mo hlp,⟨Mp hlp,Mq hlp⟩⟩⟩⟩,⟨⟨⟨Mr hlp,⟨Ms hlp,Mt hlp⟩⟩,⟨Mu hlp,⟨Mv hlp,Mw hlp⟩⟩⟩,⟨⟨Mx hlp,⟨My hlp,Mz hlp⟩⟩,⟨MA hlp,⟨MB hlp,MC hlp⟩⟩⟩⟩⟩,⟨⟨⟨⟨MD hlp,⟨ME hlp,MF hlp⟩⟩,⟨MG hlp,⟨MH hlp,MI hlp⟩⟩⟩,⟨⟨Ie hlp,⟨MJ hlp,MK hlp⟩⟩,⟨ML hlp,⟨MM hlp,MN hlp⟩⟩⟩⟩,⟨⟨⟨MO hlp,⟨MP hlp,MQ hlp⟩⟩,⟨MR hlp,⟨MS hlp,MT hlp⟩⟩⟩,⟨⟨MU hlp,⟨MW hlp,MX hlp⟩⟩,⟨MY hlp,⟨MZ hlp,M0 hlp⟩⟩⟩⟩⟩⟩,⟨⟨⟨⟨⟨M4 hlp,M5 hlp⟩,⟨M6 hlp,⟨M7 hlp,M8 hlp⟩⟩⟩,⟨⟨M9 hlp,⟨Na hlp,Nb hlp⟩⟩,⟨Nc hlp,⟨Nd hlp,Nf hlp⟩⟩⟩⟩,⟨⟨⟨Ng hlp,⟨Nh hlp,Ni hlp⟩⟩,⟨Nj hlp,⟨Nk hlp,Nl hlp⟩⟩⟩,⟨⟨Nm hlp,⟨Nn hlp,No hlp⟩⟩,⟨Np hlp,⟨Nq hlp,Nr hlp⟩⟩⟩⟩⟩,⟨⟨⟨⟨Ns hlp,⟨Nt hlp,Nu hlp⟩⟩,⟨Nv hlp,⟨Nw hlp,Nx hlp⟩⟩⟩,⟨⟨Ny hlp,⟨Nz hlp,NA hlp⟩⟩,⟨NB hlp,⟨NC hlp,ND hlp⟩⟩⟩⟩,⟨⟨⟨NE hlp,⟨NF hlp,NG hlp⟩⟩,⟨NH hlp,⟨NI hlp,NJ hlp⟩⟩⟩,⟨⟨NK hlp,⟨NL hlp,NM hlp⟩⟩,⟨NN hlp,⟨NO hlp,NP hlp⟩⟩⟩⟩⟩⟩⟩⟩
def Ba(lp:Lp):Nat->Nat->List D->Option D
 | 0=>fun _ _=>none
 | n+1=>fun f xs=>(FC lp).get f (Ba lp n) xs
theorem uS{lp:Lp}(hlp:ak lp):∀ n,gj Tryz.prog (Ba lp n)
 | 0=>fun f ptys rty xs y _ h _=>by cases h
 | n+1=>CT.get_ok (y9 hlp) (uS hlp n)
end Sy
end
end Go.Proofs.YtpahompifldeeaaGreat
