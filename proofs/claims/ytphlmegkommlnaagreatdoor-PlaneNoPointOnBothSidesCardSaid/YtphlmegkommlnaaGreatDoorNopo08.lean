/- Part 8 of the proof that PlaneNoPointOnBothSides answers true at every input -/
import Derived.Test.YtphlmegkommlnaaGreatDoorNopo06
import Derived.Test.YtphlmegkommlnaaGreatDoorNopo07
import Derived.Maps.RangeRun
import Derived.Shelf.SlSortCmp.NoneTotal
import Derived.Ground.SlsfProg
import Derived.KernelRfl
import Derived.Test.YtphlmegkommlnaaGreatDoorProg
import Derived.Test.YtphlmegkommlnaaGreatDoorChecked
set_option linter.unusedVariables false
set_option linter.unusedSimpArgs false
set_option linter.unnecessarySimpa false
set_option linter.defProp false
set_option maxRecDepth 20000
namespace Go.Proofs.YtphlmegkommlnaaGreatDoor
noncomputable section
set_option maxHeartbeats 0
noncomputable section
namespace Sy
open Go Go.Proofs
def TT:Ann:=let a:LO:=[(4100,.keep dh 4),(4101,.keep K3 5),(4102,.keep dh 6),(4103,.keep K3 7),(4104,.keep co 8),(36879,.keep co 15),(53265,.one co (.dv co))]
 let b:LO:=[(4100,.keep dh 4),(4101,.keep K3 5),(4102,.keep dh 6),(4103,.keep K3 7),(4104,.keep co 8),(36879,.one co (.dv co))]
 (.tl (.two (.reg [] 8) (.two (.reg [] 6) (.tl (.two (.tl (.two (.loop ⟨[(4,.sp dh 4100),(5,.sp K3 4101),(6,.sp dh 4102),(7,.sp K3 4103),(8,.sp co 4104),(12,.ow co),(37,.ow Ti),(39,.di)],[(4100,.keep dh 4),(4101,.keep K3 5),(4102,.keep dh 6),(4103,.keep K3 7),(4104,.one co (.dv co))],[38]⟩ [(.ret,⟨[(8,.sp co 4104),(9,.dv Ty.bool)],[(4104,.one co (.dv co))],[]⟩),(.exit 0,⟨[(8,.sp co 4104)],[(4104,.one co (.dv co))],[]⟩)] (.tl (.tl (.two (.two (.tl (.tl (.two (.tl (.two (.loop ⟨[(4,.sp dh 4100),(5,.sp K3 4101),(6,.sp dh 4102),(7,.sp K3 4103),(8,.sp co 4104),(12,.ow co),(15,.sp co 36879),(37,.ow Ti),(45,.dv Af),(47,.di)],b,[14,38,39,46]⟩ [(.exit 2,⟨[(4,.sp dh 4100),(5,.sp K3 4101),(6,.sp dh 4102),(7,.sp K3 4103),(8,.sp co 4104),(12,.ow co),(15,.sp co 36879),(37,.ow Ti)],b,[38,39]⟩)] (.tl (.tl (.two (.two (.tl (.two (.tl (.two (.loop ⟨[(4,.sp dh 4100),(5,.sp K3 4101),(6,.sp dh 4102),(7,.sp K3 4103),(8,.sp co 4104),(12,.ow co),(15,.sp co 36879),(17,.sp co 53265),(37,.ow Ti),(51,.di)],a,[14,38,39,45,46,47]⟩ [(.exit 4,⟨[(4,.sp dh 4100),(5,.sp K3 4101),(6,.sp dh 4102),(7,.sp K3 4103),(8,.sp co 4104),(12,.ow co),(15,.sp co 36879),(17,.sp co 53265),(37,.ow Ti)],a,[14,38,39,45,46,47]⟩)] .leaf) .leaf)) .leaf)) .leaf) .leaf)))) .leaf)) (.two (.reg [] 6) .leaf)))) .leaf) .leaf)))) .leaf)) .leaf)))))
def Ld(lp:Lp)(c:Ca)(a0:D)(a1:D)(a2:D)(a3:D):Option D:=
(c 433 [a0,a1]).bind λr1=>
(c 433 [a2,a3]).bind λC=>
(c 443 [r1,C]).bind λF=>
 qS F λn=>
(c 443 [C,r1]).bind λG=>
 qS G λo=>
 if n.length+o.length<=1073741824 then(qC .lss (Jn (List.length (n++o))) (Jn 4) λE=>
 if E then(some (D.tup [(D.st [(D.st [(D.st [(D.bool false),(D.bool false),(av aW)]),(D.st [(D.bool false),(D.bool false),(av aW)])]),(D.st [(D.st [(D.bool false),(D.bool false),(av aW)]),(D.st [(D.bool false),(D.bool false),(av aW)])]),(D.st [(D.st [(D.bool false),(D.bool false),(av aW)]),(D.st [(D.bool false),(D.bool false),(av aW)])])]),(D.bool false)])) else((qZ lp (λv9=>
 qC .lss (gx v9 2) (Jn 4) λh=>
 if h then((D.idx (gx v9 2) (List.length (qV v9 1))).bind λtR=>
((qV v9 1)[tR]?).bind λu=>
(c 135 [(D.st [(Jn 0),(Jn 0),(Jn 0)])]).bind λp=>
(qZ lp (λa=>
 qC .lss (gx a 3) (Jn (List.length (qV v9 0))) λi=>
 if i then(qX (gx a 2) (gx a 3) λv=>
(qZ lp (λv21=>
 qC .lss (gx v21 2) (Jn 3) λj=>
 if j then(qJ (gx v21 2) 3 (gx v21 3) λw=>
(c 444 [w,u]).bind λg=>
(D.tupAt g 0).bind λx=>
(D.tupAt g 1).bind λH=>
(D.idx (gx v21 2) 3).bind λi29=>
(D.set (gx v21 3) [i29] x).bind λy=>
 qB .add (gx v21 2) (Jn 1) λz=>
 iL [(qW v21 0),(qW v21 1),z,y]) else(iR (0,[(qW v21 0),(qW v21 1),(gx v21 3)]))) [(qW a 0),(qW a 1),(Jn 0),v]).bind λd=>
(c 371 [(gx a 4),(gx d.2 2)]).bind λq=>
 qB .add (gx a 3) (Jn 1) λA=>
 iL [(qW d.2 0),(qW d.2 1),(gx a 2),A,q]) else(iR (0,[(qW a 0),(qW a 1),(gx a 4)]))) [(qW v9 0),(qW v9 1),(qW v9 0),(Jn 0),p]).bind λb=>
(c 333 [(Jn 1),(Jn (List.length (qV b.2 0)))]).bind λr=>
(c 445 [r,(gx b.2 2)]).bind λe=>
(c 423 [a0,a1,e]).bind λs=>
 qT (D.bool (D.beq s (Jn 1))) λk=>
(if k then((c 423 [a2,a3,e]).bind λt=>
 D.truth (D.bool (D.beq t (Jn 1)))) else(some false)).bind λl=>
 qT (D.bool l) λm=>
 if m then(iR (0,[(D.bool true),e])) else(qB .add (gx v9 2) (Jn 1) λB=>
 iL [(qW b.2 0),(qW b.2 1),B,(gx v9 3)])) else(iR (1,[(gx v9 3)]))) [(D.sl (n++o)),(D.sl [(Jn 20),(Jn 60),(Jn 120),(Jn 240)]),(Jn 0),(D.st [(D.st [(D.st [(D.bool false),(D.bool false),(av aW)]),(D.st [(D.bool false),(D.bool false),(av aW)])]),(D.st [(D.st [(D.bool false),(D.bool false),(av aW)]),(D.st [(D.bool false),(D.bool false),(av aW)])]),(D.st [(D.st [(D.bool false),(D.bool false),(av aW)]),(D.st [(D.bool false),(D.bool false),(av aW)])])])]).bind λf=>
 if f.1=0 then(some (D.tup [(gx f.2 1),(gx f.2 0)])) else(some (D.tup [(D.st [(D.st [(D.st [(D.bool false),(D.bool false),(av aW)]),(D.st [(D.bool false),(D.bool false),(av aW)])]),(D.st [(D.st [(D.bool false),(D.bool false),(av aW)]),(D.st [(D.bool false),(D.bool false),(av aW)])]),(D.st [(D.st [(D.bool false),(D.bool false),(av aW)]),(D.st [(D.bool false),(D.bool false),(av aW)])])]),(D.bool false)])))) else none
def VY{lp}(a:ar lp):ah 425 (m4 (Ld lp)):=If 0 Tryz.f21 TT a
def TU:Ann:=(.tl (.tl (.tl (.tl (.two (.two (.loop ⟨[(4,.di)],[],[3]⟩ [(.exit 0,⟨[(4,.di)],[],[]⟩)] .leaf) .leaf) .leaf)))))
def Le(lp:Lp)(c:Ca)(a0:D):Option D:=
(c 76 [a0]).bind λr1=>
 qN r1 λj=>
 if j then(some (Jn 0)) else((c 77 [a0]).bind λi=>
 qS i λl=>
 qB .mul (Jn 16) (Jn (l.length)) λm=>
(qZ lp (λa=>
 qC .gtr (gx a 0) (Jn 0) λk=>
(if k then(qB .sub (gx a 0) (Jn 1) λg=>
(c 446 [i,g]).bind λe=>
 D.truth (D.bool (D.beq e (Jn 0)))) else(some false)).bind λb=>
 qT (D.bool b) λd=>
 if d then(qB .sub (gx a 0) (Jn 1) λh=>
 iL [h]) else(iR (0,[(gx a 0)]))) [m]).bind λf=>
 some (gx f.2 0))
def VZ{lp}(a:ar lp):ah 426 (m1 (Le lp)):=bh 0 Tryz.f22 TU a
def TW:Ann:=(.tl (.two (.tl (.two (.loop ⟨[(1,.sp dh 4097),(3,.di)],[(4097,.keep dh 1)],[]⟩ [(.ret,⟨[(2,.dv Ty.bool)],[],[]⟩),(.exit 0,⟨[(1,.sp dh 4097)],[(4097,.keep dh 1)],[]⟩)] .leaf) .leaf)) .leaf))
def Lf(lp:Lp)(c:Ca)(a0:D):Option D:=
(qZ lp (λv1=>
 qC .lss (gx v1 0) (Jn 3) λi=>
 if i then((D.idx (gx v1 0) 3).bind λi4=>
 qG a0 [0,i4] λk=>
 qC .geq k (Jn 140737488355328) λj=>
(if j then(some true) else((D.idx (gx v1 0) 3).bind λi8=>
 qG a0 [0,i8] λl=>
 qB .leq l (Jn (-140737488355328)) λf=>
 D.truth f)).bind λb=>
 qT (D.bool b) λd=>
 if d then(iR (0,[(D.bool false)])) else(qB .add (gx v1 0) (Jn 1) λg=>
 iL [g])) else(iR (1,[]))) [(Jn 0)]).bind λa=>
 if a.1=0 then(some (gx a.2 0)) else(qG a0 [1] λh=>
(c 331 [h]).bind λe=>
 some e)
def V0{lp}(a:ar lp):ah 427 (m1 (Lf lp)):=bh 0 Tryz.f25 TW a
def TX:Ann:=(.tl (.tl (.two (.tl (.two (.loop ⟨[(2,.sp K1 4098),(3,.sp K1 4099),(4,.sp K3 4100),(5,.ow K1),(6,.di)],[(4098,.keep K1 2),(4099,.keep K1 3),(4100,.one K3 (.st [K2] [.ow K1]))],[]⟩ [(.exit 0,⟨[(4,.sp K3 4100),(5,.ow K1)],[(4100,.one K3 (.st [K2] [.ow K1]))],[]⟩)] .leaf) .leaf)) .leaf)))
def PY(lp:Lp)(c:Ca)(a0:D)(a1:D):Option D:=
(qZ lp (λv1=>
 qC .lss (gx v1 1) (Jn 8) λo=>
 if o then(qG a0 [0] λp=>
 qB .quo (gx v1 1) (Jn 4) λq=>
 qG a1 [0] λr=>
 qB .mul q r λs=>
 qB .add p s λn=>
 qG a0 [1] λt=>
 qB .quo (gx v1 1) (Jn 2) λe=>
 qB .rem e (Jn 2) λf=>
 qG a1 [1] λg=>
 qB .mul f g λh=>
 qB .add t h λa=>
 qG a0 [2] λi=>
 qB .rem (gx v1 1) (Jn 2) λj=>
 qG a1 [2] λk=>
 qB .mul j k λl=>
 qB .add i l λb=>
 if List.length (qV v1 0)+List.length [(D.st [n,a,b])]<=1073741824 then(qB .add (gx v1 1) (Jn 1) λm=>
 iL [(D.sl ((qV v1 0)++[(D.st [n,a,b])])),m,(qW v1 2)]) else none) else(iR (0,[(qW v1 0),(qW v1 2)]))) [(D.sl []),(Jn 0),(D.sl [])]).bind λd=>
 some (D.st [(qW d.2 0)])
def V1{lp}(a:ar lp):ah 429 (m2 (PY lp)):=aO 0 Tryz.f30 TX a
def PZ(lp:Lp)(c:Ca)(a0:D)(a1:D)(a2:D):Option D:=
 some (D.st [(D.st [a0,a1,a2]),(D.st [(Jn 1),(Jn 0),(Jn 0),(Jn 0)])])
def V2{lp}(a:ar lp):ah 430 (m3 (PZ lp)):=qa 0 Tryz.f31 .leaf a
def TY:Ann:=(.tl (.tl (.two (.tl (.two (.loop ⟨[(2,.sp K3 4098),(5,.di)],[(4098,.keep K3 2)],[]⟩ [(.ret,⟨[(4,.dv Ty.bool)],[],[]⟩),(.exit 0,⟨[(2,.sp K3 4098)],[(4098,.keep K3 2)],[]⟩)] (.tl (.two (.two (.tl (.two (.loop ⟨[(2,.sp K3 4098),(6,.di)],[(4098,.keep K3 2)],[5]⟩ [(.ret,⟨[(4,.dv Ty.bool)],[],[]⟩),(.exit 2,⟨[(2,.sp K3 4098)],[(4098,.keep K3 2)],[5]⟩)] .leaf) .leaf)) .leaf) .leaf))) .leaf)) .leaf)))
def Lg(lp:Lp)(c:Ca)(a0:D)(a1:D):Option D:=
 qP a0 [0] λr=>
 qC .gtr (Jn (r.length)) a1 λp=>
 if p then(some (D.bool false)) else((qZ lp (λv5=>
 qM a0 [0] (gx v5 0) λq=>
 if q then((qZ lp (λv10=>
 qC .lss (gx v10 0) (Jn 3) λd=>
 if d then(qY a0 [0] (gx v5 0) λi=>
(D.idx (gx v10 0) 3).bind λi17=>
(D.fld i i17).bind λj=>
 qC .gtr j (Jn 4096) λe=>
(if e then(some true) else(qY a0 [0] (gx v5 0) λk=>
(D.idx (gx v10 0) 3).bind λi25=>
(D.fld k i25).bind λl=>
 qB .lss l (Jn (-4096)) λm=>
 D.truth m)).bind λf=>
 qT (D.bool f) λg=>
 if g then(iR (0,[(D.bool false)])) else(qB .add (gx v10 0) (Jn 1) λn=>
 iL [n])) else(iR (1,[]))) [(Jn 0)]).bind λa=>
 if a.1=0 then(iR (0,[(gx a.2 0)])) else(qB .add (gx v5 0) (Jn 1) λo=>
 iL [o])) else(iR (1,[]))) [(Jn 0)]).bind λb=>
 if b.1=0 then(some (gx b.2 0)) else((c 15 [a0]).bind λh=>
 some (D.bool (D.beq h (Jn 0)))))
def V3{lp}(a:ar lp):ah 431 (m2 (Lg lp)):=aO 0 Tryz.f32 TY a
def TZ:Ann:=(.tl (.two (.reg [] 4) .leaf))
def P0(lp:Lp)(c:Ca)(a0:D)(a1:D):Option D:=
(c 75 [a1]).bind λr1=>
 some (D.st [a0,r1])
def V4{lp}(a:ar lp):ah 432 (m2 (P0 lp)):=aO 0 Tryz.f33 TZ a
def T1:Ann:=let a:LO:=[(4098,.keep dh 2),(4100,.one bI (.st [dh,K3,Ti,K2] [.dv dh,.st [K2] [.ow K1],.di,.ow K1])),(8197,.one bI (.st [dh,K3,Ti,K2] [.dv dh,.dv K3,.di,.ow K1])),(28680,.one K1 (.dv K1))]
 (.tl (.two (.reg [] 7) (.two (.tl (.two (.loop ⟨[(2,.sp dh 4098),(4,.sp bI 4100),(5,.sp bI 8197),(19,.di)],[(4098,.keep dh 2),(4100,.one bI (.st [dh,K3,Ti,K2] [.dv dh,.st [K2] [.ow K1],.di,.ow K1])),(8197,.one bI (.st [dh,K3,Ti,K2] [.dv dh,.dv K3,.di,.ow K1]))],[17,18]⟩ [(.exit 0,⟨[(4,.sp bI 4100),(5,.sp bI 8197)],[(4100,.one bI (.st [dh,K3,Ti,K2] [.dv dh,.st [K2] [.ow K1],.di,.ow K1])),(8197,.one bI (.st [dh,K3,Ti,K2] [.dv dh,.dv K3,.di,.ow K1]))],[]⟩)] (.tl (.tl (.two (.two (.tl (.tl (.two (.tl (.two (.loop ⟨[(2,.sp dh 4098),(4,.sp bI 4100),(5,.sp bI 8197),(8,.sp K1 28680),(27,.di)],a,[17,18,19]⟩ [(.exit 2,⟨[(2,.sp dh 4098),(4,.sp bI 4100),(5,.sp bI 8197),(8,.sp K1 28680)],a,[17,18,19]⟩)] (.tl (.tl (.two (.two (.tl (.reg [] 12)) .leaf) .leaf)))) .leaf)) .leaf))) .leaf) .leaf)))) .leaf)) .leaf)))
def Lh(lp:Lp)(c:Ca)(a0:D)(a1:D):Option D:=
 qG a0 [1] λt=>
(c 385 [t]).bind λs=>
 qG a1 [0] λp=>
 qS p λr=>
(qZ lp (λv5=>
 qC .lss (gx v5 0) (Jn (r.length)) λq=>
 if q then(qX p (gx v5 0) λg=>
 qG a0 [1] λh=>
(c 386 [h,g]).bind λf=>
(qZ lp (λa=>
 qC .lss (gx a 0) (Jn 3) λe=>
 if e then(qJ (gx a 0) 3 (gx a 9) λi=>
(D.idx (gx a 0) 3).bind λi18=>
 qG a0 [0,i18] λj=>
 qB .mul (gx a 7) j λk=>
 qB .add i k λl=>
(D.idx (gx a 0) 3).bind λi22=>
(D.set (gx a 9) [i22] l).bind λm=>
 qB .add (gx a 0) (Jn 1) λn=>
 iL [n,(gx a 1),(qW a 2),(gx a 3),(qW a 4),(gx a 5),(gx a 6),(gx a 7),(qW a 8),m]) else(iR (0,[(gx a 1),(qW a 2),(gx a 3),(qW a 4),(gx a 5),(gx a 6),(gx a 7),(qW a 8),(gx a 9)]))) [(Jn 0),(gx v5 1),(qW v5 2),(gx v5 3),(qW v5 4),(gx v5 5),(gx v5 6),(gx v5 7),(qW v5 8),f]).bind λb=>
 if List.length (qV b.2 7)+List.length [(gx b.2 8)]<=1073741824 then(qB .add (gx v5 0) (Jn 1) λo=>
 iL [o,(gx b.2 0),(qW b.2 1),(gx b.2 2),(qW b.2 3),(gx b.2 4),(gx b.2 5),(gx b.2 6),(D.sl ((qV b.2 7)++[(gx b.2 8)]))]) else none) else(iR (0,[(gx v5 1),(qW v5 2),(gx v5 3),(qW v5 4),(gx v5 5),(gx v5 6),(gx v5 7),(qW v5 8)]))) [(Jn 0),(D.st [(D.st [(Jn 0),(Jn 0),(Jn 0)]),(D.st [(Jn 0),(Jn 0),(Jn 0),(Jn 0)])]),(D.sl []),(Jn 0),(D.sl []),a0,a1,s,(D.sl [])]).bind λd=>
 some (D.st [(gx d.2 4),(gx d.2 5),(gx d.2 6),(qW d.2 7)])
def V5{lp}(a:ar lp):ah 433 (m2 (Lh lp)):=aO 0 Tryz.f37 T1 a
def T2:Ann:=(.tl (.two (.reg [] 9) .leaf))
def Li(lp:Lp)(c:Ca)(a0:D)(a1:D)(a2:D):Option D:=
(c 97 [a0]).bind λr1=>
(c 435 [a2,r1]).bind λa=>
(c 435 [a1,a0]).bind λb=>
(c 173 [a,b]).bind λd=>
(c 357 [d]).bind λe=>
 some e
def V6{lp}(a:ar lp):ah 434 (m3 (Li lp)):=qa 0 Tryz.f39 T2 a
def T4:Ann:=let a:LO:=[(4098,.keep bI 2),(4099,.keep K1 3),(4100,.keep bY 4),(8197,.one aT (.dv aT))]
 (.tl (.two (.reg [] 7) (.two (.tl (.two (.loop ⟨[(2,.sp bI 4098),(3,.sp K1 4099),(4,.sp bY 4100),(5,.sp aT 8197),(19,.di)],a,[17,18]⟩ [(.exit 0,⟨[(2,.sp bI 4098),(4,.sp bY 4100),(5,.sp aT 8197)],[(4098,.keep bI 2),(4100,.keep bY 4),(8197,.one aT (.dv aT))],[]⟩)] (.tl (.tl (.cut [(.normal,⟨[(2,.sp bI 4098),(3,.sp K1 4099),(4,.sp bY 4100),(5,.sp aT 8197)],a,[17,18,19]⟩)] [17,18,19] [4098,4099,4100] .leaf .leaf)))) .leaf)) (.two (.reg [] 5) .leaf))))
def Lj(lp:Lp)(c:Ca)(a0:D)(a1:D):Option D:=
 qY a0 [3] (Jn 0) λp=>
(c 91 [a1,p]).bind λo=>
 qP a0 [3] λm=>
(D.cut m 1 (m.length)).bind λn=>
(qZ lp (λv9=>
 qC .lss (gx v9 0) (Jn (n.length)) λb=>
 if b then((qI (gx v9 0) n λj=>
(c 91 [a1,j]).bind λa=>
(c 90 [a,(gx v9 1)]).bind λe=>
 qC .gtr e (Jn 0) λd=>
 if d then(some (0,[a])) else(some (0,[(gx v9 1)]))).bind λ(f:Nat×List D)=>
 qB .add (gx v9 0) (Jn 1) λk=>
 iL [k,(gx f.2 0)]) else(iR (0,[(gx v9 1)]))) [(Jn 0),o]).bind λg=>
 qG a0 [2] λl=>
(c 54 [l]).bind λh=>
(c 62 [(gx g.2 0),h]).bind λi=>
 some i
def V7{lp}(a:ar lp):ah 435 (m2 (Lj lp)):=aO 0 Tryz.f48 T4 a
def T5:Ann:=(.tl (.tl (.two (.reg [] 6) .leaf)))
def GY(lp:Lp)(c:Ca)(a0:D):Option D:=
(c 88 [a0]).bind λr1=>
 qT r1 λa=>
(if a then(some true) else((c 84 []).bind λd=>
 D.truth (D.bool (D.beq a0 d)))).bind λb=>
 some (D.bool b)
def V8{lp}(a:ar lp):ah 439 (m1 (GY lp)):=bh 0 Tryz.f56 T5 a
def T6:Ann:=(.tl (.two (.tl (.two (.loop ⟨[(2,.sp co 4098),(3,.sp co 4099),(4,.sp co 4100),(6,.di)],[(4098,.one co (.dv co)),(4099,.keep co 3),(4100,.keep co 4)],[]⟩ [(.exit 0,⟨[(2,.sp co 4098),(4,.sp co 4100)],[(4098,.one co (.dv co)),(4100,.keep co 4)],[]⟩)] (.tl (.tl (.two (.two (.tl (.reg [] 9)) .leaf) .leaf)))) .leaf)) .leaf))
def Lk(lp:Lp)(c:Ca)(a0:D)(a1:D):Option D:=
(qZ lp (λv1=>
 qC .lss (gx v1 0) (Jn 3) λe=>
 if e then(qJ (gx v1 0) 3 (gx v1 1) λg=>
 qJ (gx v1 0) 3 a1 λh=>
(c 336 [g,h]).bind λf=>
(D.idx (gx v1 0) 3).bind λi9=>
(D.set (gx v1 1) [i9] f).bind λb=>
 qB .add (gx v1 0) (Jn 1) λd=>
 iL [d,b]) else(iR (0,[(gx v1 1)]))) [(Jn 0),a0]).bind λa=>
 some (gx a.2 0)
def V9{lp}(a:ar lp):ah 440 (m2 (Lk lp)):=aO 0 Tryz.f61 T6 a
def T7:Ann:=let a:LO:=[(4098,.keep bI 2),(4099,.keep bI 3),(8197,.one Af (.ow co))]
 let b:LS:=[(2,.sp bI 4098),(3,.sp bI 4099),(5,.sp Af 8197),(6,.same (.clo 137 [(.ptr bI 4098 []),(.ptr bI 4099 []),(.ptr Af 8197 [])]))]
 let c:LO:=[(4098,.keep bI 2),(4099,.keep bI 3),(8197,.one Af (.ow co)),(45067,.keep co 11),(49164,.keep co 12)]
 (.tl (.tl (.tl (.two (.tl (.two (.loop ⟨[(2,.sp bI 4098),(3,.sp bI 4099),(5,.sp Af 8197),(6,.same (.clo 137 [(.ptr bI 4098 []),(.ptr bI 4099 []),(.ptr Af 8197 [])])),(23,.di)],a,[22]⟩ [(.exit 0,⟨b,a,[]⟩)] (.tl (.tl (.two (.two (.tl (.regI [] 5 .leaf)) .leaf) .leaf)))) .leaf)) (.tl (.two (.tl (.two (.loop ⟨[(2,.sp bI 4098),(3,.sp bI 4099),(5,.sp Af 8197),(6,.same (.clo 137 [(.ptr bI 4098 []),(.ptr bI 4099 []),(.ptr Af 8197 [])])),(39,.di)],a,[8,37,38]⟩ [(.exit 2,⟨[(5,.sp Af 8197)],[(8197,.one Af (.ow co))],[]⟩)] (.tl (.tl (.two (.two (.tl (.tl (.two (.reg [] 7) (.tl (.two (.loop ⟨[(2,.sp bI 4098),(3,.sp bI 4099),(5,.sp Af 8197),(6,.same (.clo 137 [(.ptr bI 4098 []),(.ptr bI 4099 []),(.ptr Af 8197 [])])),(11,.sp co 45067),(12,.sp co 49164),(55,.di)],c,[8,37,38,39,53,54]⟩ [(.exit 4,⟨b,a,[8,37,38,39]⟩)] (.tl (.tl (.cut [(.normal,⟨[(2,.sp bI 4098),(3,.sp bI 4099),(5,.sp Af 8197),(6,.same (.clo 137 [(.ptr bI 4098 []),(.ptr bI 4099 []),(.ptr Af 8197 [])])),(11,.sp co 45067),(12,.sp co 49164)],c,[8,37,38,39,53,54,55]⟩)] [8,37,38,39,53,54,55] [4098,4099,45067,49164] (.two (.tl (.tl (.tl (.tl (.two (.reg [] 16) (.tl (.tl (.two (.regI [] 6 .leaf) .leaf)))))))) .leaf) .leaf)))) .leaf))))) .leaf) .leaf)))) .leaf)) .leaf))))))
def Ll(lp:Lp)(c:Ca)(a0:D)(a1:D):Option D:=
(qP a0 [3] λl2=>
(qZ lp (λv3=>
 qC .lss (gx v3 0) (Jn (l2.length)) λb5=>
 if b5 then((c 454 [a0,(gx v3 0)]).bind λm=>
 qG a0 [0] λx7=>
 qG a0 [1] λx8=>
(c 423 [x7,x8,m]).bind λr9=>
 qC .geq r9 (Jn 0) λn=>
(if n then(qG a1 [0] λU=>
 qG a1 [1] λV=>
(c 423 [U,V,m]).bind λB=>
 qB .geq B (Jn 0) λW=>
 D.truth W) else(some false)).bind λo=>
 qT (D.bool o) λp=>
 if p then(if List.length (qV v3 1)+List.length [m]<=1073741824 then(qB .add (gx v3 0) (Jn 1) λX=>
 iL [X,(D.sl ((qV v3 1)++[m]))]) else none) else(qB .add (gx v3 0) (Jn 1) λY=>
 iL [Y,(qW v3 1)])) else(iR (0,[(qW v3 1)]))) [(Jn 0),(D.sl [])]).bind λC=>
 qG a1 [1] λZ=>
(c 18 [Z]).bind λf=>
 qG a0 [1] λad=>
(c 21 [ad]).bind λg=>
 qS g λz=>
(qZ lp (λv26=>
 qC .lss (gx v26 0) (Jn (z.length)) λq=>
 if q then(qX g (gx v26 0) λk=>
 qG k [0] λai=>
(c 454 [a0,ai]).bind λd=>
 qG k [1] λaj=>
(c 454 [a0,aj]).bind λE=>
(c 440 [E,d]).bind λh=>
 qS f λA=>
(qZ lp (λa=>
 qC .lss (gx a 0) (Jn (A.length)) λr=>
 if r then((qX f (gx a 0) λl=>
 qG a1 [0,1] λak=>
 qG l [0] λal=>
(c 386 [ak,al]).bind λi=>
(c 72 [i,h]).bind λj=>
(c 342 [j]).bind λF=>
 qT (D.bool (D.beq F (Jn 0))) λs=>
 if s then(some (0,[(qW a 1)])) else(qG a1 [2] λan=>
 qG l [1] λax=>
 qB .mul an ax λaI=>
(c 74 [aI]).bind λG=>
 qG a1 [0,0] λa2=>
(c 135 [a2]).bind λH=>
(c 440 [d,H]).bind λI=>
(c 72 [i,I]).bind λJ=>
(c 336 [G,J]).bind λK=>
(c 352 [K,j]).bind λe=>
(c 342 [e]).bind λL=>
 qC .gtr L (Jn 0) λt=>
(if t then((c 74 [(Jn 1)]).bind λM=>
(c 73 [e,M]).bind λN=>
 qB .lss N (Jn 0) λa3=>
 D.truth a3) else(some false)).bind λu=>
 qT (D.bool u) λv=>
 if v then((c 445 [e,h]).bind λO=>
(c 371 [d,O]).bind λb=>
 qG a0 [0] λa4=>
 qG a0 [1] λa5=>
(c 423 [a4,a5,b]).bind λP=>
 qC .geq P (Jn 0) λw=>
(if w then(qG a1 [0] λa6=>
 qG a1 [1] λa9=>
(c 423 [a6,a9,b]).bind λQ=>
 qB .geq Q (Jn 0) λbi=>
 D.truth bi) else(some false)).bind λx=>
 qT (D.bool x) λy=>
 if y then(if List.length (qV a 1)+List.length [b]<=1073741824 then(some (0,[(D.sl ((qV a 1)++[b]))])) else none) else(some (0,[(qW a 1)]))) else(some (0,[(qW a 1)])))).bind λ(R:Nat×List D)=>
 qB .add (gx a 0) (Jn 1) λbj=>
 iL [bj,(qW R.2 0)]) else(iR (0,[(qW a 1)]))) [(Jn 0),(qW v26 1)]).bind λS=>
 qB .add (gx v26 0) (Jn 1) λbk=>
 iL [bk,(qW S.2 0)]) else(iR (0,[(qW v26 1)]))) [(Jn 0),(qW C.2 0)]).bind λT=>
 some (qV T.2 0)).bind λl0=>some (D.sl l0)
def Wa{lp}(a:ar lp):ah 443 (m2 (Ll lp)):=aO 0 Tryz.f73 T7 a
def T8:Ann:=(.tl (.tl (.tl (.two (.reg [] 6) (.two (.reg [] 8) (.tl (.two (.reg [] 2) .leaf)))))))
def Lm(lp:Lp)(c:Ca)(a0:D)(a1:D):Option D:=
(c 136 [a0]).bind λr1=>
 qN r1 λx=>
(if x then(some true) else(qB .lss a1 (Jn 0) λC=>
 D.truth C)).bind λy=>
 qT (D.bool y) λz=>
(if z then(some true) else(qB .gtr a1 (Jn 256) λE=>
 D.truth E)).bind λA=>
 qT (D.bool A) λB=>
 if B then((c 130 []).bind λi=>
(c 130 []).bind λj=>
 some (D.tup [i,j])) else(qG a0 [0] λt=>
(c 455 [t,a1]).bind λa=>
(c 169 []).bind λk=>
(c 455 [k,a1]).bind λb=>
 qG a0 [1] λu=>
(c 132 [a,u]).bind λl=>
(c 62 [l,b]).bind λd=>
(c 68 [a]).bind λm=>
 qG a0 [1] λv=>
(c 132 [m,v]).bind λn=>
(c 68 [n]).bind λo=>
(c 62 [o,b]).bind λe=>
(c 136 [d]).bind λp=>
 qN p λf=>
(if f then(some true) else((c 136 [e]).bind λq=>
(D.un .not q).bind λw=>
 D.truth w)).bind λg=>
 qT (D.bool g) λh=>
 if h then((c 130 []).bind λr=>
(c 130 []).bind λs=>
 some (D.tup [r,s])) else(some (D.tup [d,e])))
def Wb{lp}(a:ar lp):ah 444 (m2 (Lm lp)):=aO 0 Tryz.f74 T8 a
def T9:Ann:=(.tl (.two (.tl (.two (.loop ⟨[(2,.sp bY 4098),(3,.sp co 4099),(4,.sp co 4100),(6,.di)],[(4098,.keep bY 2),(4099,.one co (.dv co)),(4100,.keep co 4)],[]⟩ [(.exit 0,⟨[(3,.sp co 4099),(4,.sp co 4100)],[(4099,.one co (.dv co)),(4100,.keep co 4)],[]⟩)] (.tl (.tl (.two (.two (.tl (.reg [] 7)) .leaf) .leaf)))) .leaf)) .leaf))
def Ln(lp:Lp)(c:Ca)(a0:D)(a1:D):Option D:=
(qZ lp (λv1=>
 qC .lss (gx v1 0) (Jn 3) λb=>
 if b then(qJ (gx v1 0) 3 (gx v1 1) λe=>
(c 174 [a0,e]).bind λd=>
(D.idx (gx v1 0) 3).bind λi7=>
(D.set (gx v1 1) [i7] d).bind λf=>
 qB .add (gx v1 0) (Jn 1) λg=>
 iL [g,f]) else(iR (0,[(gx v1 1)]))) [(Jn 0),a1]).bind λa=>
 some (gx a.2 0)
def Wc{lp}(a:ar lp):ah 445 (m2 (Ln lp)):=aO 0 Tryz.f76 T9 a
def Lo(lp:Lp)(c:Ca)(a0:D)(a1:D):Option D:=
 qB .quo a1 (Jn 16) λb=>
(c 141 [a0,b]).bind λa=>
 qB .rem a1 (Jn 16) λd=>
 qB .shr a d λe=>
 qB .rem e (Jn 2) λf=>
 some f
def We{lp}(a:ar lp):ah 446 (m2 (Lo lp)):=aO 0 Tryz.f80 .leaf a
end Sy
end
end
noncomputable section
set_option maxHeartbeats 0
noncomputable section
namespace Sy
open Go Go.Proofs
def Ua:Ann:=let a:LO:=[(4097,.keep ia 1),(4098,.keep K1 2),(8196,.one aT (.dv aT))]
 (.tl (.tl (.two (.tl (.two (.loop ⟨[(1,.sp ia 4097),(2,.sp K1 4098),(4,.sp aT 8196),(14,.di)],a,[13]⟩ [(.exit 0,⟨[(1,.sp ia 4097),(2,.sp K1 4098),(4,.sp aT 8196)],a,[]⟩)] .leaf) .leaf)) (.tl (.tl (.two (.tl (.two (.loop ⟨[(2,.sp K1 4098),(4,.sp aT 8196),(7,.sp K1 28679),(31,.di)],[(4098,.one K1 (.dv K1)),(8196,.keep aT 4),(28679,.one K1 (.dv K1))],[30]⟩ [(.ret,⟨[(2,.sp K1 4098),(3,.di)],[(4098,.one K1 (.dv K1))],[]⟩),(.exit 3,⟨[(2,.sp K1 4098),(7,.sp K1 28679)],[(4098,.one K1 (.dv K1)),(28679,.one K1 (.dv K1))],[]⟩)] .leaf) .leaf)) .leaf))))))
def Lr(lp:Lp)(c:Ca)(a0:D):Option D:=
(c 54 [(Jn 0)]).bind λr1=>
(qZ lp (λv2=>
 qC .lss (gx v2 0) (Jn 3) λx=>
 if x then((D.idx (gx v2 0) 3).bind λi5=>
(D.fld a0 i5).bind λz=>
(c 131 [(gx v2 1),z]).bind λy=>
 qB .add (gx v2 0) (Jn 1) λA=>
 iL [A,y]) else(iR (0,[(gx v2 1)]))) [(Jn 0),r1]).bind λp=>
 qG (gx p.2 0) [0] λq=>
 qT q λf=>
 if f then(some (D.tup [(D.st [(Jn 0),(Jn 0),(Jn 0)]),(Jn 30)])) else((c 129 [(gx p.2 0)]).bind λn=>
 qT (D.bool (D.beq n (Jn 0))) λg=>
 if g then(some (D.tup [(D.st [(Jn 0),(Jn 0),(Jn 0)]),(Jn 31)])) else((qZ lp (λa=>
 qC .lss (gx a 0) (Jn 3) λh=>
 if h then((D.idx (gx a 0) 3).bind λi17=>
(D.fld a0 i17).bind λr=>
(c 132 [r,(gx p.2 0)]).bind λo=>
(c 202 [o]).bind λe=>
(D.tupAt e 0).bind λd=>
(D.tupAt e 1).bind λs=>
 qN s λi=>
(if i then(some true) else(qB .geq d (Jn 2305843009213693952) λt=>
 D.truth t)).bind λj=>
 qT (D.bool j) λk=>
(if k then(some true) else(qB .leq d (Jn (-2305843009213693952)) λu=>
 D.truth u)).bind λl=>
 qT (D.bool l) λm=>
 if m then(iR (0,[(Jn 30),(D.st [(Jn 0),(Jn 0),(Jn 0)])])) else((D.idx (gx a 0) 3).bind λi31=>
(D.set (gx a 2) [i31] d).bind λv=>
 qB .add (gx a 0) (Jn 1) λw=>
 iL [w,(gx a 1),v])) else(iR (1,[(gx a 1),(gx a 2)]))) [(Jn 0),(D.st [(Jn 0),(Jn 0),(Jn 0)]),(D.st [(Jn 0),(Jn 0),(Jn 0)])]).bind λb=>
 if b.1=0 then(some (D.tup [(gx b.2 1),(gx b.2 0)])) else(some (D.tup [(gx b.2 1),(Jn 0)]))))
def Wf{lp}(a:ar lp):ah 447 (m1 (Lr lp)):=bh 0 Tryz.f101 Ua a
def Ub:Ann:=(.tl (.two (.reg [] 10) .leaf))
def Ls(lp:Lp)(c:Ca)(a0:D):Option D:=
 qG a0 [0] λe=>
(c 54 [e]).bind λa=>
 qG a0 [1] λf=>
(c 54 [f]).bind λb=>
 qG a0 [2] λg=>
(c 54 [g]).bind λd=>
 some (D.st [a,b,d])
def Wg{lp}(a:ar lp):ah 448 (m1 (Ls lp)):=bh 0 Tryz.f102 Ub a
def Uc:Ann:=(.tl (.tl (.two (.tl (.two (.loop ⟨[(1,.sp bI 4097),(3,.ow K1),(10,.di)],[(4097,.keep bI 1)],[8,9]⟩ [(.exit 0,⟨[(3,.ow K1)],[],[]⟩)] (.tl (.tl (.two (.two (.tl (.reg [] 21)) .leaf) .leaf)))) .leaf)) .leaf)))
def Lt(lp:Lp)(c:Ca)(a0:D):Option D:=
 qG a0 [1] λq=>
(c 21 [q]).bind λm=>
 qS m λp=>
(qZ lp (λv4=>
 qC .lss (gx v4 1) (Jn (p.length)) λo=>
 if o then(qX m (gx v4 1) λn=>
 qG a0 [0,1] λe=>
 qG a0 [1,0] λf=>
 qG n [1] λg=>
 qX f g λh=>
 qG a0 [1,0] λi=>
 qG n [0] λj=>
 qX i j λk=>
(c 103 [h,k]).bind λb=>
(c 386 [e,b]).bind λa=>
 if List.length (qV v4 0)+List.length [a]<=1073741824 then(qB .add (gx v4 1) (Jn 1) λl=>
 iL [(D.sl ((qV v4 0)++[a])),l]) else none) else(iR (0,[(qW v4 0)]))) [(D.sl []),(Jn 0)]).bind λd=>
 some (qW d.2 0)
def Wh{lp}(a:ar lp):ah 449 (m1 (Lt lp)):=bh 0 Tryz.f103 Uc a
def Ud:Ann:=(.tl (.two (.reg [] 5) .leaf))
def Lu(lp:Lp)(c:Ca)(a0:D)(a1:D):Option D:=
(c 148 [a0]).bind λr1=>
(c 148 [a1]).bind λa=>
(c 456 [r1,a]).bind λb=>
 some b
def Wi{lp}(a:ar lp):ah 450 (m2 (Lu lp)):=aO 0 Tryz.f104 Ud a
def Ue:Ann:=(.tl (.two (.tl (.two (.loop ⟨[(2,.sp bI 4098),(4,.sp co 4100),(12,.di)],[(4098,.keep bI 2),(4100,.one co (.dv co))],[11]⟩ [(.exit 0,⟨[(4,.sp co 4100)],[(4100,.one co (.dv co))],[]⟩)] .leaf) .leaf)) .leaf))
def Lv(lp:Lp)(c:Ca)(a0:D)(a1:D):Option D:=
 qY a0 [3] a1 λh=>
(qZ lp (λv5=>
 qC .lss (gx v5 0) (Jn 3) λg=>
 if g then((D.idx (gx v5 0) 3).bind λi8=>
(D.fld h i8).bind λi=>
 qG a0 [2] λd=>
(c 333 [i,d]).bind λa=>
(D.idx (gx v5 0) 3).bind λtR=>
(D.set (gx v5 1) [tR] a).bind λe=>
 qB .add (gx v5 0) (Jn 1) λf=>
 iL [f,e]) else(iR (0,[(gx v5 1)]))) [(Jn 0),(D.st [(D.st [(D.st [(D.bool false),(D.bool false),(av aW)]),(D.st [(D.bool false),(D.bool false),(av aW)])]),(D.st [(D.st [(D.bool false),(D.bool false),(av aW)]),(D.st [(D.bool false),(D.bool false),(av aW)])]),(D.st [(D.st [(D.bool false),(D.bool false),(av aW)]),(D.st [(D.bool false),(D.bool false),(av aW)])])])]).bind λb=>
 some (gx b.2 0)
def Wj{lp}(a:ar lp):ah 454 (m2 (Lv lp)):=aO 0 Tryz.f138 Ue a
def PS:Ann:=(.tl (.tl (.tl (.tl (.two (.tl (.two (.two (.reg [] 4) .leaf) .leaf)) (.two (.reg [] 5) .leaf))))))
def Wl{lp}(a:ar lp):ah 455 (Fo 0 lp 455 Tryz.f140 PS):=qb a (by kernel_rfl) (by kernel_rfl)
def Uf:Ann:=(.tl (.two (.tl (.two (.loop ⟨[(2,.sp ia 4098),(3,.sp ia 4099),(4,.sp ia 4100),(8,.di)],[(4098,.keep ia 2),(4099,.keep ia 3),(4100,.one ia (.dv ia))],[]⟩ [(.exit 0,⟨[(4,.sp ia 4100)],[(4100,.one ia (.dv ia))],[]⟩)] (.tl (.tl (.two (.two (.tl (.tl (.reg [] 17))) .leaf) .leaf)))) .leaf)) .leaf))
def Lw(lp:Lp)(c:Ca)(a0:D)(a1:D):Option D:=
(qZ lp (λv1=>
 qC .lss (gx v1 0) (Jn 3) λm=>
 if m then(qB .add (gx v1 0) (Jn 1) λn=>
 qB .rem n (Jn 3) λk=>
 qB .add (gx v1 0) (Jn 2) λo=>
 qB .rem o (Jn 3) λl=>
 qJ k 3 a0 λp=>
 qJ l 3 a1 λf=>
(c 61 [p,f]).bind λa=>
 qJ l 3 a0 λg=>
 qJ k 3 a1 λh=>
(c 61 [g,h]).bind λb=>
(c 203 [a,b]).bind λd=>
(D.idx (gx v1 0) 3).bind λi19=>
(D.set (gx v1 1) [i19] d).bind λi=>
 qB .add (gx v1 0) (Jn 1) λj=>
 iL [j,i]) else(iR (0,[(gx v1 1)]))) [(Jn 0),(D.st [(D.st [(D.bool false),(D.bool false),(av aW)]),(D.st [(D.bool false),(D.bool false),(av aW)]),(D.st [(D.bool false),(D.bool false),(av aW)])])]).bind λe=>
 some (gx e.2 0)
def Wm{lp}(a:ar lp):ah 456 (m2 (Lw lp)):=aO 0 Tryz.f162 Uf a
def Ug:Ann:=(.tl (.tl (.two (.tl (.two (.two (.reg [] 3) .leaf) .leaf)) .leaf)))
def P3(lp:Lp)(c:Ca)(a0:D)(a1:D)(a2:D):Option D:=
 qG a0 [1] λm=>
(c 116 [m,a1]).bind λh=>
 qG a0 [1] λn=>
 qT n λi=>
(if i then(qS a2 λk=>
 qT (D.bool (D.beq (Jn (k.length)) (Jn 0))) λj=>
 if j then(some true) else(qG a0 [2] λo=>
(c 458 [o]).bind λl=>
 qX a2 (Jn 0) λf=>
 qB .lss l f λg=>
 D.truth g)) else(some false)).bind λa=>
 qT (D.bool a) λb=>
 if b then((c 54 [(Jn 1)]).bind λd=>
(c 203 [h,d]).bind λe=>
 some e) else(some h)
def Wn{lp}(a:ar lp):ah 457 (m3 (P3 lp)):=qa 0 Tryz.f193 Ug a
def Uh:Ann:=(.tl (.tl (.two (.two (.loop ⟨[(1,.sp aW 4097),(3,.di)],[(4097,.keep aW 1)],[]⟩ [(.exit 0,⟨[(1,.sp aW 4097),(3,.di)],[(4097,.keep aW 1)],[]⟩)] .leaf) .leaf) .leaf)))
def P4(lp:Lp)(c:Ca)(a0:D):Option D:=
(qZ lp (λv1=>
 qJ (gx v1 0) 16 a0 λf=>
 qT (D.bool (D.beq f (D.int .u32 0))) λe=>
 if e then(qB .add (gx v1 0) (Jn 1) λg=>
 iL [g]) else(iR (0,[(gx v1 0)]))) [(Jn 0)]).bind λd=>
 qB .mul (Jn 32) (gx d.2 0) λh=>
 qJ (gx d.2 0) 16 a0 λi=>
(c 459 [i]).bind λa=>
 qB .add h a λb=>
 some b
def Wo{lp}(a:ar lp):ah 458 (m1 (P4 lp)):=bh 0 Tryz.f220 Uh a
def P5(lp:Lp)(c:Ca)(a0:D):Option D:=
 qT (D.bool (D.beq a0 (D.int .u32 0))) λa=>
 if a then(some (Jn 32)) else((D.un .neg a0).bind λb=>
 qB .and a0 b λd=>
 qB .mul d (D.int .u32 125613361) λe=>
 qB .shr e (D.int .u64 27) λf=>
 none)
def Wp{lp}(a:ar lp):ah 459 (m1 (P5 lp)):=bh 0 Tryz.f241 .leaf a
end Sy
end
end
noncomputable section
namespace Sy
open Go Go.Proofs Go.Sort Go.Lib
variable{ro:Option Nat}{nn:Nat}
inductive AnnT where
 | hand
 | seq (a:Ann) (b:AnnT)
def OR(E:Env)(K:St->Option D):Code->AnnT->St->Option D
 | .seq c d,.seq a b,s=>ev E c a D s λe s'=>match e with
  | .normal=>OR E K d b s'
  | _=>none
 | _,.hand,s=>K s
 | _,_,_=>none
def th:Code->AnnT->Code
 | .seq _ d,.seq _ b=>th d b
 | c,_=>c
def uR(fn:Func)(a:List Ty)(args:List D):St:={ tm:=jn a args,ob:=λ_=>none,fresh:=0,dead:=[],nt:=fn.ntmps,lkS:=[],lkO:=[4095] }
def Mb(E:Env)(K:St->Option D)(fn:Func)(ann:AnnT)(a:List Ty)(args:List D):Option D:=
 match fn.body with
 | none=>none
 | some c=>OR E K c ann (uR fn a args)
section
variable{P:Program}{E:Env}{w0:Root}
def Fm.df0{s:St}{S S':Nat->Nat->Prop}{γ γ':Nat->Option Nat}{a a':Act}{w w':World}(h:Fm s S γ a w S' γ' a' w')(b:4095∈s.lkO)(c:a.defers=[]):a'.defers=[]:=by
 obtain⟨_,m,e,_,z⟩:=h.dfs;rw[e,z b,c];rfl
def jL.eq{w w':World}{b:Nat}{o:Obj}(h:jL w w' b)(a:w.heap[b]?=some o)(hl:∀ r,o≠.loop r):w'.heap[b]?=some o:=by
 rcases h with h|⟨r,_,h1,_⟩
 ·exact h.trans a
 ·rw[a] at h1;cases h1;exact absurd rfl (hl r)
def OS(m:EnvOk P E){K:St->Option D}{Q:Exit->Act->World->Prop}{y:D}:∀ (c:Code) (ann:AnnT) {S:Nat->Nat->Prop} {γ:Nat->Option Nat} {β:Nat->Option (Nat×Nat)} {s:St} {a:Act} {w:World},
  Rp w0 S γ β s a w->a.defers=[]->4095∈s.lkO->OR E K c ann s=some y->(∀ s' S' γ' β' a' w',Rp w0 S' γ' β' s' a' w'->a'.defers=[]->K s'=some y->(th c ann).wpIn (FW none) nn P Q a' w')->c.wpIn (FW none) nn P Q a w:=by
 intro c
 induction c with
 | seq c d _ ih=>
  intro ann S γ β s a w h j k f g;cases ann with
  | hand=>exact g s S γ β a w h j (by simpa only[OR] using f)
  | seq a1 b=>
   simp only[OR] at f;refine wpIn_seq (HP m c a1 D _ y h f λe s' S' γ' β' a' w' n o p l=>?_);cases e with
   | normal=>exact ih b n (o.df0 k j) (by rw[p.lkO];exact k) l g
   | ret=>cases l
   | exit i=>cases l
 | _=>
  intro ann S γ β s a w h j k f g;cases ann with
  | hand=>exact g s S γ β a w h j (by simpa only[OR] using f)
  | seq a1 b=>simp[OR] at f
def dY(s:St)(e:Ty)(x:Nat):Option (List D):=match s.tm x with
 | .own a v l=>if a.beq e&&!(s.dead.contains v)&&decide (l.length<=1073741824) then some l else none
 | .nils=>some []
 | _=>none
def Pm(s:St)(x:Nat)(e:Ty)(l:List D):St:={ tm:=λi=>if i=x then .d (.sl e) (.sl l) else .undef,ob:=λ_=>none,fresh:=s.fresh+1,dead:=[],nt:=s.nt,lkS:=[],lkO:=[4095] }
def GL{w:World}{S:Nat->Nat->Prop}{l:List D}{a:Option Addr}{n cap:Nat}(h:CR w S (.sl l) (.slice a n cap)):gD w S (.sl l) (.slice a n cap):=by
 refine⟨λcs h=>(by cases h),rfl,λi d c b hc=>?_⟩
 cases i with
 | zero=>simp only[D.flat,zQb,zda,Value.cells] at b hc;subst b;first|(subst hc;exact h)|(simp at hc;subst hc;exact h)
 | succ i=>simp[D.flat] at b
theorem nE{e:Ty}(hc:bU e=true):∀ l:List D,(∀ x∈l,wt e x)->∀ d∈D.flats l,sY d=true
 | [],_,d,a=>by simp[D.flats] at a
 | y::l,h,d,a=>by
  simp only[D.flats,List.mem_append] at a;rcases a with a|a
  ·exact kD e y hc (h y zoa) d a
  ·exact nE hc l (λz b=>h z (zia _ b)) d a
def Rp.new{S S':Nat->Nat->Prop}{γ:Nat->Option Nat}{β:Nat->Option (Nat×Nat)}{s:St}{a a':Act}{w w':World}(h:Rp w0 S γ β s a w)(he:ml w0 w'){x:Nat}{e:Ty}{l:List D}(hn:aq e=true)(hx:x<s.nt)(j:∀ y∈l,wt e y)
  (p:gD w' S' (.sl l) (a'.tmps.getD x undef)) (i:a'.tmps.size=s.nt) (m:a'.defers=[]) (f:∀ b o,S' b o->b<w'.heap.size) (g:∀ b o,S' b o->w0.Old b->w0.S0 b o):Rp w0 S' (λ_=>none) (λ_=>none) (Pm s x e l) a' w':=by
 refine⟨he,λt k=>?_,i,λt k=>?_,λid o b n=>(by cases n),λid b c=>(by cases c),λid q b c=>(by cases c),λ_ _=>rfl,λv b e _ c=>(by cases c),λv v' b e r _ _ c=>(by cases c),λv id b e _ c=>(by cases c),λ_ _=>rfl,f,g⟩
 ·show AR _ (if t=x then AV.d (.sl e) (.sl l) else .undef) (a'.tmps.getD t undef)
  by_cases htx:t=x
  ·rw[if_pos htx];subst htx;exact .inl ⟨by simp only[aq];exact hn,⟨l,rfl,j⟩,p⟩
  ·rw[if_neg htx];simp only[AR]
 ·show(if t=x then AV.d (.sl e) (.sl l) else .undef)=_
  rw[if_neg (λh=>by subst h;exact absurd hx (zEc.2 k))]
def MU(hE:EnvOk P E){f:Nat}{e:Ty}(hf:SortOk P f e){g:Nat}(hsig:E.sig g=some ([e,e],.int .i64)/\E.free g=0){id x t d2:Nat}{ops:Array Oper}{ty1 ty2:TypeId}{p1 p2:String}{af1 af2:Array Edge}{args:Array Operand}{ats:Array TypeId}
  (hops:ops.toList=[⟨some t,.move (.tmp x),ty1,p1,af1,none⟩,⟨some d2,.call ⟨.value (.func f),args,ats⟩,ty2,p2,af2,none⟩]) (hargs:args=#[.tmp t,.func g]) {Q:Exit->Act->World->Prop}
  {S:Nat->Nat->Prop} {γ:Nat->Option Nat} {β:Nat->Option (Nat×Nat)} {s:St} {a:Act} {w:World} (h:Rp w0 S γ β s a w) (hdf:a.defers=[]) (hxt:x≠t) (hxd:x≠d2) (ht:t<s.nt) {l l':List D} (hv:dY s e x=some l) (hs:jZ E g l=some l')
  (hQ:∀ a' w' S',Rp w0 S' (λ_=>none) (λ_=>none) (Pm s x e l') a' w'->a'.defers=[]->Q .normal a' w'):(Code.region id ops false).wpIn (FW ro) nn P Q a w:=by
 have hx:x<s.nt:=by
  rcases zla x s.nt with k|k
  ·exact k
  ·unfold dY at hv;rw[h.tmu x k] at hv;cases hv
 have hax:AR ⟨w,S,γ,β,s.ob,s.dead⟩ (s.tm x) (a.tmps.getD x undef):=h.tms x (by rw[h.nt];exact hx)
 obtain⟨ad,cap,val,hwt,hcr,hown⟩:∃ ad cap,a.tmps.getD x undef=.slice ad l.length cap/\(∀ y∈l,wt e y)/\CR w S (.sl l) (.slice ad l.length cap)/\(l≠[]->∃ b off row,ad=some ⟨b,off,none⟩/\bO w b=some row/\¬ w0.Old b/\b<w.heap.size)/\l.length<=1073741824:=by
  unfold dY at hv;split at hv
  ·rename_i e' v l0 htm;split at hv
   ·rename_i hb;simp only[zaa,zCa,decide_eq_true_eq] at hb;obtain⟨⟨hb1,hb2⟩,hb3⟩:=hb;cases hv;have:=Ty.eq_of_beq _ _ hb1;subst this;rw[htm] at hax;simp only[AR,AC] at hax;obtain⟨n0,n1,n2,ad,cap,n3,n4,n5⟩:=hax;have hval:=au n0 n3;have hdead:v ∉ s.dead:=by simpa using hb2
    refine⟨ad,cap,hval,n2,n4,λhne=>?_,hb3⟩;rcases n5 hdead with⟨q1,q2⟩|⟨b,off,q1,q2,n,q3,q4⟩
    ·exfalso;obtain⟨_,_,b,off,e1,e2,e3,e4⟩:=n4.elems;cases e1;rcases e2 with e2|e2
     ·exact hne e2
     ·rw[q1] at e2;cases e2
    ·obtain⟨k1,k2,_⟩:=h.βn v b _ hdead q2;unfold mX at q3;cases hr:bO w b with
     | none=>rw[hr] at q3;cases q3
     | some row=>exact⟨b,off,row,q1,hr,k1,k2⟩
   ·cases hv
  ·rename_i htm;cases hv;rw[htm] at hax;simp only[AR,AC] at hax;have hval:=au hax.1 hax.2;exact⟨none,0,hval,by simp,CR.of_elems (b:=0) (off:=0) (.inl rfl) (zfa _) ⟨[],df.nil,by simp⟩,λh=>absurd rfl h,by simp⟩
  ·cases hv
 obtain⟨hown,hlen⟩:=hown;have hperm:l'.Perm l:=by
  unfold jZ at hs;split at hs
  ·cases hs;exact gW _ l
  ·cases hs
 have hll:l'.length=l.length:=hperm.length_eq;have hwt':∀ y∈l',wt e y:=λy hy=>hwt y (hperm.subset hy);refine wpIn_region_list ?_;rw[hops];simp only[wpListIn,Region.wanted,if_true];refine(bu (K:=λv w1=>v=a.tmps.getD x undef/\w=w1) (eP.value (v:=a.eval (.tmp x)) (w':=w) rfl ⟨rfl,rfl⟩) ?_);rintro _ _ ⟨rfl,rfl⟩;have hsz:(a.put (some t) (a.tmps.getD x undef)).tmps.size=s.nt:=by simp[Act.put,h.nt]
 have ht1:(a.put (some t) (a.tmps.getD x undef)).eval (.tmp t)=a.tmps.getD x undef:=by
  have:t<a.tmps.size:=by rw[h.nt];exact ht
  simp[Act.eval,Act.put,Array.getD,this]
 have hx1:(a.put (some t) (a.tmps.getD x undef)).tmps.getD x undef=a.tmps.getD x undef:=by
  exact ci (λe=>hxt (by cases e;rfl))
 have hdf1:(a.put (some t) (a.tmps.getD x undef)).defers=[]:=hdf;generalize (a.put (some t) (a.tmps.getD x undef))=a1 at *;refine(bu (K:=λv w1=>∃ S',ml w0 w1/\gD w1 S' (.sl l') (a.tmps.getD x undef)/\(∀ b o,S' b o->b<w1.heap.size)/\(∀ b o,S' b o->w0.Old b->w0.S0 b o)) ?_ ?_)
 ·obtain⟨fn,f1,f2,f3⟩:=hf.fn;refine eP.enter (f:=f) (args:=#[.slice ad l.length cap,.func (.func g) #[] #[]]) (w':=w) ?_ ?_
  ·have hb:¬ fn.body=none:=by intro hh;rw[hh] at f3;cases f3
   have f2' : ¬ fn.name = "runtime.NumGoroutine" := by simpa using f2
   have e1:a1.eval (.tmp t)=.slice ad l.length cap:=by rw[ht1,val]
   subst hargs;have e2:a1.eval (.func g)=.func (.func g) #[] #[]:=rfl;simp[execOp,resolve,Deferred.ofValue,invoke,callFunc,f1,f2',hb,e1,e2];simp[Act.eval,f1,f2',hb]
  ·by_cases hne:l=[]
   ·subst hne;have e0:l'=[]:=by cases l' with|nil=>rfl|cons y l'=>simp at hll
    subst e0;refine(hf.empty ad cap _ w).mono ?_;rintro en w1 ⟨rfl,rfl⟩;exact⟨_,rfl,S,h.ext,by rw[val];exact GL hcr,h.Sb,h.So⟩
   ·obtain⟨b,off,row,rfl,hr,hold,hbs⟩:=hown hne;have hcell:∀ (i:Nat) (d:D),(D.flats l)[i]?=some d->w.cell? ⟨b,off+i,none⟩=some (ge d):=by
     obtain⟨_,_,b',off',e1,e2,e3,cs,e4,e5⟩:=hcr.elems;cases e1;rcases e2 with e2|e2
     ·exact absurd e2 hne
     ·cases e2;have hleaf:=nE hf.cmp l hwt;have:=(gh hleaf).1 e4;subst this;intro i d hd;exact(e5 i (ge d) (by rw[z7a,hd];rfl)).2
    refine(Gi hE hf hsig hwt hs hne (b:=b) (off:=off) (cap:=cap) hr hcell (by omega)).mono ?_
    rintro en w1 ⟨rfl,_,q1,q2,q3,q4,q5,q6,q7⟩;refine⟨_,rfl,λb' o=>(S b' o/\b'≠b)\/(b'=b/\off<=o/\o<off+(D.flats l').length),?_,?_,?_,?_⟩
    ·refine oP h.ext q2 q3 q4 q5 q1 λb' hb'=>q6 b' (λe=>hold (e ▸ hb')) (zYa hb'.1 h.ext.sz)
    ·rw[val];refine GL ?_;rw[<-hll];refine CR.of_elems (b:=b) (off:=off) (.inr rfl) (by obtain⟨_,_,_,_,e1,_,e3,_⟩:=hcr.elems;cases e1;rw[hll];exact e3) ⟨(D.flats l').map ge,?_,λi c hc=>?_⟩
     ·exact(gh (nE hf.cmp l' hwt')).2 rfl
     ·rw[z7a] at hc;cases hd:(D.flats l')[i]? with
      | none=>rw[hd] at hc;cases hc
      | some d=>
       rw[hd] at hc;simp only[zvb,zda] at hc;subst hc;exact⟨.inr ⟨rfl,by omega,by have:=(zka.1 hd).1;omega⟩,q7 i d hd⟩
    ·rintro b' o (⟨hb',_⟩|⟨rfl,_,_⟩)
     ·exact zYa (h.Sb b' o hb') q5
     ·exact zYa hbs q5
    ·rintro b' o (⟨hb',_⟩|⟨rfl,_,_⟩) ho
     ·exact h.So b' o hb' ho
     ·exact absurd ho hold
 ·rintro v w1 ⟨S',k1,k2,k3,k4⟩;refine hQ _ w1 S' (Rp.new h k1 hf.nt hx hwt' ?_ (by simp[Act.put,hsz]) hdf1 k3 k4) hdf1
  have:(a1.put (some d2) v).tmps.getD x undef=a.tmps.getD x undef:=by
   rw[<-hx1];exact ci (λe=>hxd (by cases e;rfl))
  rw[this];exact k2
end
end Sy
end
noncomputable section
namespace Sy
open Go Go.Proofs Go.Sort Go.Lib
variable{ro:Option Nat}{nn:Nat}
open Go.ChangeMaps (setBlock)
section
variable{P:Program}{E:Env}{w0:Root}
theorem we{ops b:Array Oper}{Q:Exit->Act->World->Prop}:∀ (l:List Oper) (a:Act) (w:World),(∀ o∈l,o.guard=none)->wpListIn (FW ro) nn P ops Q l a w->wpListIn (FW ro) nn P b Q l a w
 | [],_,_,_,h=>h
 | o::l,a,w,e,h=>by
  have d:=e o zoa;have c:∀ a w,wpListIn (FW ro) nn P ops Q l a w->wpListIn (FW ro) nn P b Q l a w:=λa w=>we l a w λo f=>e o (zia _ f);simp only[wpListIn,Region.wanted,d,if_true] at h ⊢;exact Oper.wpIn_mono c h
def Mq(M:EnvOk P E){Q:Exit->Act->World->Prop}{id:Nat}{ops:Array Oper}{R:Type}{S:Nat->Nat->Prop}{γ:Nat->Option Nat}{β:Nat->Option (Nat×Nat)}{s:St}{a:Act}{w:World}{k:Ex->St->Option R}{r:R}
  (h:Rp w0 S γ β s a w) (C:ev E (.region id ops false) .leaf R s k=some r) (N:Kp Q w0 s S γ a w k r):wpListIn (FW ro) nn P ops Q ops.toList a w:=by
 obtain⟨S1,f1,f2,f3⟩:=rC (Ann.leaf).fz h;obtain⟨s1,c⟩:∃ s1,s1={ gL s (Ann.leaf).fz with fresh:=s.fresh+1 }:=⟨_,rfl⟩;obtain⟨h1,y⟩:=xi c C;obtain⟨h2,L⟩:(!false||rz E ops ((Ann.leaf).heads ops.size))=true/\_:=y.resolve_right λh=>h.elim (λh=>by cases h.1) (λh=>h.elim (λh=>by cases h.1) (λh=>by cases h.1))
 have z:s1.base=s.base+4096:=by rw[c];simp only[St.base];omega
 have r1:Rp w0 S1 γ β s1 a w:=by
  rw[c];have I:∀ id,({ gL s (Ann.leaf).fz with fresh:=s.fresh+1 }:St).base+4096<=id->s.base+4096<=id:=λid hid=>by
   have e:({ gL s (Ann.leaf).fz with fresh:=s.fresh+1 }:St).base=s.base+4096:=by simp only[St.base];omega
   rw[e] at hid;exact zEa (zad _ _) hid
  exact⟨f1.ext,f1.tms,f1.nt,f1.tmu,f1.obs,f1.γn,f1.γi,λid hid=>h.γf id (I id hid),f1.βn,f1.βi,f1.βγ,λv U=>h.βf v (I v U),f1.Sb,f1.So⟩
 have g:∀ d,s.base+4096<=s1.base+d:=λd=>by have:=zad s1.base d;rw[z] at this ⊢;exact this
 have H:∀ d,γ (s1.base+d)=none:=λd=>h.γf (s1.base+d) (g d);have F:∀ d,β (s1.base+d)=none:=λd=>h.βf (s1.base+d) (g d);obtain⟨Z,m2⟩:=EB (E:=E) ops.toList r1 H;have m:=h1;simp only[cg,zaa,zma] at m;obtain⟨⟨l,G⟩,O⟩:=m;have D:E3 E (iV E ops.toList s1) γ β ops.toList:=by
  intro o x hc d u;rw[m2.base_eq];have j:=G o x;rw[u] at j;simp only[decide_eq_true_eq] at j;exact⟨j,H d,F d,λT t J K=>zv ops.toList l x J u K⟩
 have q:Sk s (iV E ops.toList s1):=by
  refine⟨m2.lkS.trans ?_,m2.lkO.trans ?_,m2.nt.trans ?_⟩<;>rw[c]
  ·exact f3.lkS
  ·exact f3.lkO
  ·exact f3.nt
 have b:(ops.toList.all λo=>match o.op with|.store ..=>o.dst.isNone|_=>true)=true:=by
  simp only[cg,zaa] at h1;exact h1.2
 have:=uH (ro:=ro) (nn:=nn) (ops:=ops) M b _ R (aR 0 ops.toList) _ r _ Z (by rw[ba];exact D) (by rw[ba];exact λA B o o' e x d u=>eY l A B o o' e x d u) (λp hp=>jx hp) L
  (Q:=Q) λs' S' γ' β' a' w' V W X Y=>N .normal s' S' γ' β' a' w' V (f2.tr W q) (q.trans X) Y
 rwa [ba] at this
def σL(nt o it:Nat)(X:AV):St:={ tm:=λi=>if i=o then X else .undef,ob:=λ_=>none,fresh:=0,dead:=[],nt:=nt,lkS:=[it],lkO:=[0,1,4095] }
def γs(m r:Nat):Nat->Option Nat:=λi=>if i=0 then some m else if i=1 then some r else none
def NO(e:Ty)(L:List D)(X:AV):Prop:=(X=.nils/\L=[])\/X=.own e 5 L
def CB{s:St}{e:Ty}{o:Nat}{L:List D}(h:dY s e o=some L):(s.tm o=.nils/\L=[])\/∃ v,s.tm o=.own e v L/\v ∉ s.dead:=by
 unfold dY at h;split at h
 ·rename_i c v l a;split at h
  ·rename_i b;simp only[zaa,zCa,decide_eq_true_eq] at b;cases h;have:=Ty.eq_of_beq _ _ b.1.1;subst this;exact .inr ⟨v,a,by simpa using b.1.2⟩
  ·cases h
 ·rename_i a;cases h;exact .inl ⟨a,rfl⟩
 ·cases h
def Rp.std{S:Nat->Nat->Prop}{γ:Nat->Option Nat}{β:Nat->Option (Nat×Nat)}{s:St}{a:Act}{w:World}(h:Rp w0 S γ β s a w){m r:Nat}(hm:¬ w0.Old m/\m<w.heap.size)(hr:¬ w0.Old r/\r<w.heap.size)(z:m≠r)
  (T:∀ v b e,v ∉ s.dead->β v=some (b,e)->b≠m/\b≠r) {e:Ty} (K:bU e=true) {o:Nat} {L:List D} (F:dY s e o=some L) (it:Nat) :
  ∃ β' X,NO e L X/\Rp w0 (λb i=>S b i/\b≠m/\b≠r) (γs m r) β' (σL s.nt o it X) a w:=by
 have y:o<s.nt:=by
  rcases zla o s.nt with k|k
  ·exact k
  ·unfold dY at F;rw[h.tmu o k] at F;cases F
 have g:=h.tms o (by rw[h.nt];exact y)
 have g1:∀ id b,γs m r id=some b->(id=0/\b=m)\/(id=1/\b=r):=λid b d=>by
  unfold γs at d;split at d
  ·rename_i e;cases d;exact .inl ⟨e,rfl⟩
  ·split at d
   ·rename_i e;cases d;exact .inr ⟨e,rfl⟩
   ·cases d
 have γn':∀ id b,γs m r id=some b->¬ w0.Old b/\b<w.heap.size:=λid b d=>by
  rcases g1 id b d with⟨_,rfl⟩|⟨_,rfl⟩
  ·exact hm
  ·exact hr
 have γi':∀ id j b,γs m r id=some b->γs m r j=some b->id=j:=λid j b d f=>by
  rcases g1 id b d with⟨k1,M⟩|⟨k1,M⟩<;>rcases g1 j b f with⟨k3,N⟩|⟨k3,N⟩
  ·omega
  ·exact absurd (M.symm.trans N) z
  ·exact absurd (N.symm.trans M) z
  ·omega
 have γf':∀ id,0*4096+4096<=id->γs m r id=none:=λid hid=>by
  unfold γs;rw[if_neg (by omega),if_neg (by omega)]
 rcases CB F with⟨h1,x⟩|⟨v,h1,x⟩
 ·refine⟨λ_=>none,.nils,.inl ⟨rfl,x⟩,h.ext,λt A=>?_,h.nt,λt A=>?_,λid o b y=>(by cases y),γn',γi',γf',λv b e _ d=>(by cases d),λv v' b e l _ _ d=>(by cases d),λv id b e _ d=>(by cases d),λ_ _=>rfl,λb i d=>h.Sb b i d.1,λb i d=>h.So b i d.1⟩
  ·show AR _ (if t=o then AV.nils else .undef) (a.tmps.getD t undef)
   by_cases hto:t=o
   ·rw[if_pos hto];subst hto;rw[h1] at g;simpa only[AR,AC] using g
   ·rw[if_neg hto];simp only[AR]
  ·show(if t=o then AV.nils else .undef)=_
   rw[if_neg (λh=>by subst h;exact absurd y (zEc.2 A))]
 ·refine⟨λi=>if i=5 then β v else none,.own e 5 L,.inr rfl,h.ext,λt A=>?_,h.nt,λt A=>?_,λid o b y=>(by cases y),γn',γi',γf',λu b l _ d=>?_,λu u' b l J _ _ d f=>?_,λu id b l _ d hid=>?_,λu hu=>?_,λb i d=>h.Sb b i d.1,λb i d=>h.So b i d.1⟩
  ·show AR _ (if t=o then AV.own e 5 L else .undef) (a.tmps.getD t undef)
   by_cases hto:t=o
   ·rw[if_pos hto];subst hto;rw[h1] at g;simp only[AR,AC] at g ⊢;obtain⟨n0,n1,V,H,cap,n3,n4,W⟩:=g;have O:CR w (λb i=>S b i/\b≠m/\b≠r) (.sl L) (.slice H L.length cap):=by
     obtain⟨Y,P,I,B,Z,p,Q,cs,e4,R⟩:=n4.elems;cases Z;by_cases hL:L=[]
     ·subst hL;exact CR.of_elems (b:=0) (off:=0) (.inl rfl) Q ⟨[],df.nil,by simp⟩
     ·have p:H=some ⟨I,B,none⟩:=p.resolve_left hL;have f:I≠m/\I≠r:=by
       rcases W x with q|⟨b,off,C,E,G⟩
       ·rw[q.1] at p;cases p
       ·rw[C] at p;cases p;exact T v _ _ x E
      have U:=nE K L V;exact CR.of_elems (.inr p) Q ⟨cs,(gh U).2 ((gh U).1 e4),λi c hc=>⟨⟨(R i c hc).1,f⟩,(R i c hc).2⟩⟩
    refine⟨n0,n1,V,H,cap,n3,O,λ_=>?_⟩;rcases W x with q|⟨b,off,C,E,G⟩
    ·exact .inl q
    ·exact .inr ⟨b,off,C,by simpa using E,G⟩
   ·rw[if_neg hto];simp only[AR]
  ·show(if t=o then AV.own e 5 L else .undef)=_
   rw[if_neg (λh=>by subst h;exact absurd y (zEc.2 A))]
  ·have d:(if u=5 then β v else none)=some (b,l):=d
   split at d
   ·obtain⟨C,E,G⟩:=h.βn v b l x d;exact⟨C,E,λi hi hs=>G i hi hs.1⟩
   ·cases d
  ·have d:(if u=5 then β v else none)=some (b,l):=d
   have f:(if u'=5 then β v else none)=some (b,J):=f
   split at d<;>split at f<;>first|(cases d;done)|(cases f;done)|omega
  ·have d:(if u=5 then β v else none)=some (b,l):=d
   split at d
   ·have:=T v b l x d;rcases g1 id b hid with⟨_,q⟩|⟨_,q⟩
    ·exact this.1 q
    ·exact this.2 q
   ·cases d
  ·have ai:4096<=u:=by simpa [σL,St.base] using hu
   show(if u=5 then β v else none)=none
   rw[if_neg (by omega)]
def Rp.setB{S:Nat->Nat->Prop}{γ:Nat->Option Nat}{β:Nat->Option (Nat×Nat)}{s:St}{a:Act}{w:World}(h:Rp w0 S γ β s a w){id b:Nat}(D:s.ob id=none)(B:γ id=some b)(C:∀ o,¬ S b o)(x:Obj) :
  Rp w0 S γ β s a (setBlock w b x):=by
 have A:∀ c o,S c o->c≠b:=λc o g e=>C o (e ▸ g);have m:∀ c,c≠b->(setBlock w b x).heap[c]?=w.heap[c]?:=λc d=>by simp only[setBlock];rw[z5c (Ne.symm d)]
 have j:(setBlock w b x).heap.size=w.heap.size:=by simp[setBlock]
 have hle:Cx.le ⟨w,S,γ,β,s.ob,s.dead⟩ ⟨setBlock w b x,S,γ,β,s.ob,s.dead⟩:=by
  refine⟨λc o g=>by simp only[World.cell?,m c (A c o g)],λ_ _ g=>g,λ_ _ g=>g,λi y r _=>⟨y,r,λp=>⟨rfl,rfl⟩,λt l e=>⟨l,e,rfl⟩,λ_ _ l e=>⟨l,e⟩⟩,λv u=>⟨u,λc e he=>⟨he,λn hn=>?_⟩⟩⟩
  have k:c≠b:=λz=>h.βγ v id c e u he (z ▸ B);have q:mX w c=some n:=hn;show mX (setBlock w b x) c=some n;simp only[mX,bO,m c k] at q ⊢;exact q
 refine⟨oP h.ext rfl rfl rfl (by rw[j];exact zfa _) (zfa _) (λc d=>m c λe=>(h.γn id b B).1 (e ▸ d)),λt E=>(h.tms t E).mono hle,h.nt,h.tmu,λi y c r d=>?_,λi c d=>by rw[j];exact h.γn i c d,h.γi,h.γf,
  λv c e u he=>by rw[j];exact h.βn v c e u he,h.βi,h.βγ,h.βf,λc o g=>by rw[j];exact h.Sb c o g,h.So⟩
 have k:c≠b:=λz=>by
  have:=h.γi i id c d (z ▸ B);subst this;rw[D] at r;cases r
 exact(h.obs i y c r d).mono hle (m c k) λ_ m=>m
end
end Sy
end
noncomputable section
namespace Sy
open Go Go.Proofs Go.Sort Go.Lib
variable{ro:Option Nat}{nn:Nat}
open Go.ChangeMaps (setBlock)
def wv:D->D
 | .st (k::_)=>k
 | x=>x
theorem G4{c:Cx}{b vt:Ty}:∀ {l:List D} {es:List MapEntry} {j:Nat},jf c b vt j l es->es.length=l.length/\∀ (i:Nat) (en:MapEntry),es[i]?=some en->en.born=j+i/\∃ k v,l[i]?=some (.st [k,v])/\wt b k/\wt vt v/\gD c.w c.S k en.key/\gD c.w c.S v en.val
 | [],[],j,_=>⟨rfl,λi en h=>by simp at h⟩
 | [],_::_,_,h=>h.elim
 | _::_,[],_,h=>h.elim
 | x::l,e::es,j,h=>by
  simp only[jf] at h;obtain⟨⟨h1,k,v,rfl,d,f,g,m⟩,n⟩:=h;obtain⟨o,p⟩:=G4 n;refine⟨by simp[o],λi en a=>?_⟩
  cases i with
  | zero=>simp at a;subst a;exact⟨by simpa using h1,k,v,by simp,d,f,g,m⟩
  | succ i=>
   simp only[zjb] at a;obtain⟨r1,q⟩:=p i en a;exact⟨by omega,by simpa using q⟩
def Dy{t:Ty}(hc:bU t=true){x:D}(hx:wt t x){w w':World}{S S':Nat->Nat->Prop}{v:Value}(h:gD w S x v):gD w' S' x v:=by
 have a:=kD t x hc hx;exact⟨h.1,(gh a).2 ((gh a).1 h.2)⟩
theorem Bp:∀ (n:Nat) (l:List Nat),l.Nodup->(∀ x∈l,x<n)->l.length<=n
 | 0,l,_,h=>by
  cases l with
  | nil=>simp
  | cons x l=>exact absurd (h x zoa) (by omega)
 | n+1,l,hn,h=>by
  have h1:(l.erase n).length<=n:=Bp n (l.erase n) (hn.erase n) λx hx=>by
   have b:=(hn.mem_erase_iff).1 hx;have:=h x b.2;have:=b.1;omega
  have c:=List.length_erase (a:=n) (l:=l);split at c<;>omega
section
variable{P:Program}{E:Env}{w0:Root}
def kW{a:Act}{o:Oper}{m:Sem Value}{v:Value}{w w':World}(hex:execOp a.eval o=(m >>= λr=>pure (Next.value r)))(b:m.run P w=.ok v w'):(execOp a.eval o).run P w=.ok (.value v) w':=by
 rw[hex];simp only[zha,b,zea,zna]
def Ae{nt o it t:Nat}{X:AV}(h:t≠o):(σL nt o it X).put (some t) .undef=σL nt o it X:=by
 unfold St.put σL;simp only;split
 ·congr 1;funext i;by_cases a:i=t
  ·subst a;rw[if_pos rfl,if_neg h]
  ·rw[if_neg a]
 ·rfl
def ks{a:Act}{t:Nat}{v:Value}(h:t<a.tmps.size):(a.put (some t) v).eval (.tmp t)=v:=by
 simp[Act.eval,Act.put,Array.getD,h]
def vN{a:Act}{d:Option Nat}{v:Value}:(a.put d v).tmps.size=a.tmps.size:=by
 cases d<;>simp[Act.put]
def Ms(hE:EnvOk P E){e vt:Ty}(he:bU e=true)(dt:bU vt=true)(dk:aq e=true)(dn:aq vt=true){b6 b7 b8 b b2:Nat}{t72 m0 it T nx ok en o:Nat}{ca cb cc:Array Oper}{rest:List Oper}{c26:Code}
  {y1 y2 y3 y4 y5:TypeId} {p1 p2 p3 p4 p5:String} {f1 f2 f3 f4 f5:Array Edge} {TK TV:TypeId}
  (cf:ca.toList=[⟨some t72,.move (.tmp m0),y1,p1,f1,none⟩,⟨some it,.range T (.tmp t72),y2,p2,f2,none⟩])
  (ch:cb.toList=[⟨some nx,.next (.tmp it) false,y3,p3,f3,none⟩,⟨some ok,.extract (.tmp nx) 0,y4,p4,f4,none⟩])
  (cp:cc.toList=⟨some en,.entry (.tmp it),y5,p5,f5,none⟩::rest) (bm:∀ x∈rest,x.guard=none) (hT:P.underlying T=some (.map TK TV))
  {S:Nat->Nat->Prop} {γ:Nat->Option Nat} {β:Nat->Option (Nat×Nat)} {s:St} {a:Act} {w:World} (h:Rp w0 S γ β s a w) (cW:a.defers=[])
  (d1:o≠t72) (d2:o≠it) (d3:nx≠o) (d4:ok≠o) (d5:en≠o) (d6:it≠t72) (d7:it≠nx) (d8:it≠ok) (d9:it≠en) (d10:nx≠ok) (n1:t72<s.nt) (n2:it<s.nt) (n3:nx<s.nt) (n4:ok<s.nt) (n5:en<s.nt)
  {B:Nat} {l:List D} (hm:s.tm m0=.map e vt B) (dp:s.ob B=some (.mp e vt l)) (hl:l.length<=1073741824) (hv:dY s e o=some [])
  (O:∀ X L k v,NO e L X->L.length<1073741824->wt e k->ev E (.region 0 rest.toArray false) .leaf D ((σL s.nt o it X).put (some en) (.d (.tup [e,vt]) (.tup [k,v]))) (λx s'=>match x with
   | .normal=>ev E c26 .leaf D s' (λx dv=>match x with|.normal=>(dY dv e o).bind λl=>some (.sl l)|_=>none)
   | _=>none)=some (.sl (L++[k])))
  {Q:Exit->Act->World->Prop} (hQ:∀ L S' γ' β' X a' w',NO e L X->L.Perm (l.map wv)->Rp w0 S' γ' β' (σL s.nt o it X) a' w'->a'.defers=[]->Q .normal a' w') :
  (Code.seq (.region b6 ca false) (.block b (.loop (.seq (.region b7 cb false) (.seq (.cond (.tmp ok) .skip (.exit b)) (.block b2 (.seq (.region b8 cc false) c26))))))).wpIn (FW none) nn P Q a w:=by
 have c4:m0<s.nt:=by
  rcases zla m0 s.nt with k|k
  ·exact k
  ·rw[h.tmu m0 k] at hm;cases hm
 have a9:=h.tms m0 (by rw[h.nt];exact c4)
 rw[hm] at a9;simp only[AR,AC] at a9;obtain⟨c6,m,c5,bs,_,_,_⟩:=a9;have bi:=au c6 c5;have hO:=h.obs B _ m dp bs;simp only[gl] at hO;obtain⟨_,_,dz,es,A,hM⟩:=hO;obtain⟨dx,f⟩:=G4 hM;have a0:=h.γn B m bs;have al:∀ x∈es.toList,x.born<l.length:=λx hx=>by
  obtain⟨i,hi,rfl⟩:=zQa hx;have:=(f i _ (zca hi)).1;omega
 have cx:(es.toList.map (·.born)).Nodup:=by
  rw[List.Nodup,zJb];intro i j hi M dB;simp only[zsa] at hi M;have a1:=(f i _ (zca hi)).1;have a2:=(f j _ (zca M)).1;simp only[zDc,a1,a2];omega
 refine wpIn_seq ?_;refine wpIn_region_list ?_;rw[cf];simp only[wpListIn,Region.wanted,if_true];refine(bu (K:=λv w1=>v=a.tmps.getD m0 undef/\w=w1) (eP.value (v:=a.eval (.tmp m0)) (w':=w) rfl ⟨rfl,rfl⟩) ?_);rintro _ _ ⟨rfl,rfl⟩;rw[bi];have cv:(a.put (some t72) (.map (some m))).eval (.tmp t72)=.map (some m):=ks (by rw[h.nt];exact n1)
 refine(bu (K:=λv w1=>v=.pointer (some ⟨w.heap.size,0,none⟩)/\w1=w.alloc (.mapIter (some m) l.length #[] l.length)) (eP.value (kW (m:=Instr.range T (.map (some m))) ?_ (run_range_map w T TK TV m es l.length hT A)) ⟨rfl,rfl⟩) ?_)
 ·show(Instr.range T ((a.put (some t72) (.map (some m))).eval (.tmp t72)) >>= λr=>pure (Next.value r))=_;rw[cv]
 rintro _ _ ⟨rfl,rfl⟩;simp only[Exit.then];refine wpIn_block ?_;obtain⟨r,b1⟩:∃ r,r=w.heap.size:=⟨_,rfl⟩;rw[<-b1];have a6:m≠r:=by have:=a0.2;omega
 have J:w.alloc (.mapIter (some m) l.length #[] l.length)=grown w [.mapIter (some m) l.length #[] l.length] w.drawn:=by
  show({ w with heap:=w.heap.push (.mapIter (some m) l.length #[] l.length) }:World)={ w with heap:=w.heap++[Obj.mapIter (some m) l.length #[] l.length].toArray,drawn:=w.drawn };rw[zEd]
 have h1:Rp w0 S γ β ((s.put (some t72) .undef).put (some it) .undef) ((a.put (some t72) (.map (some m))).put (some it) (.pointer (some ⟨r,0,none⟩))) (w.alloc (.mapIter (some m) l.length #[] l.length)):=by
  rw[J];exact(((h.put (v:=.undef) (val:=.map (some m)) (by simp[AR]) (some t72)).put (v:=.undef) (val:=.pointer (some ⟨r,0,none⟩)) (by simp[AR]) (some it)).grow (os:=[.mapIter (some m) l.length #[] l.length]) (d:=w.drawn) (zfa _) (S':=S) (λ_ _ t=>t) (λ_ _ t=>.inl t)).1
 have b3:dY ((s.put (some t72) .undef).put (some it) .undef) e o=some []:=by
  have q1:((s.put (some t72) .undef).put (some it) .undef).tm o=s.tm o:=by rw[vw (λe=>d2 (by cases e;rfl)),vw (λe=>d1 (by cases e;rfl))]
  have q2:((s.put (some t72) .undef).put (some it) .undef).dead=s.dead:=by
   rw[(St.put_fields _ _ _).2.2.1,(St.put_fields _ _ _).2.2.1]
  unfold dY at hv ⊢;rw[q1,q2];exact hv
 have bN:((s.put (some t72) .undef).put (some it) .undef).nt=s.nt:=by rw[(St.put_fields _ _ _).2.2.2.1,(St.put_fields _ _ _).2.2.2.1]
 have ak:(w.alloc (.mapIter (some m) l.length #[] l.length)).heap.size=w.heap.size+1:=by rw[J];simp[grown]
 have dr:¬ w0.Old r:=λho=>by have:=ho.1;have:=h.ext.sz;omega
 have I:((s.put (some t72) .undef).put (some it) .undef).dead=s.dead:=by rw[(St.put_fields _ _ _).2.2.1,(St.put_fields _ _ _).2.2.1]
 obtain⟨β1,X1,bt,R1⟩:=h1.std (m:=m) (r:=r) ⟨a0.1,by rw[ak];omega⟩ ⟨dr,by rw[ak];omega⟩ a6 (λv bb ee z t=>by
  rw[I] at z;exact⟨λeq=>h.βγ v B bb ee z t (eq ▸ bs),λeq=>by have:=(h.βn v bb ee z t).2.1;omega⟩) he b3 it
 rw[bN] at R1;have Z:(w.alloc (.mapIter (some m) l.length #[] l.length)).heap[m]?=some (.map es l.length):=by
  rw[J,cT a0.2];exact A
 have ai:(w.alloc (.mapIter (some m) l.length #[] l.length)).heap[r]?=some (.mapIter (some m) l.length #[] l.length):=by rw[b1];exact heap_alloc_new w _
 have bW:((a.put (some t72) (.map (some m))).put (some it) (.pointer (some ⟨r,0,none⟩))).tmps.getD it undef=.pointer (some ⟨r,0,none⟩):=by
  exact ks (by rw[vN,h.nt];exact n2)
 refine yy (m:=l.length) (λn a w=>∃ (S:Nat->Nat->Prop) (β:Nat->Option (Nat×Nat)) (X:AV) (L:List D) (seen:Array Nat) (G:Nat),NO e L X/\Rp w0 (λb i=>S b i/\b≠m/\b≠r) (γs m r) β (σL s.nt o it X) a w/\a.defers=[]/\a.tmps.getD it undef=.pointer (some ⟨r,0,none⟩) ∧
  w.heap[m]?=some (.map es l.length)/\w.heap[r]?=some (.mapIter (some m) l.length seen G)/\l.length<=G/\L=seen.toList.map (λj=>wv (l.getD j default))/\seen.toList.Nodup/\(∀ j∈seen.toList,j<l.length)/\n+seen.size=l.length)
  ⟨S,β1,X1,[],#[],l.length,bt,R1,cW,bW,Z,ai,zfa _,rfl,by simp,by simp,by simp⟩ ?_
 clear R1 h1 b3 bW Z ai bt J;rintro n a w ⟨S,β,X,L,seen,G,hX,R,bx,hp,A,bM,cI,hL,bj,aI,hn⟩;have U:=R.nt;refine wpIn_seq (wpIn_region_list ?_);rw[ch];simp only[wpListIn,Region.wanted,if_true];have bL:a.eval (.tmp it)=.pointer (some ⟨r,0,none⟩):=hp;rcases run_next_at w y3 r m l.length G seen es l.length bM A al cI with⟨hz,q⟩|⟨c,an,w1,bp,q⟩
 ·
  refine(bu (K:=λv w1=>v=.tuple #[.bool false]/\w=w1) (eP.value (kW (m:=Instr.next (.pointer (some ⟨r,0,none⟩)) false y3) ?_ q) ⟨rfl,rfl⟩) ?_)
  ·show(Instr.next (a.eval (.tmp it)) false y3 >>= λr=>pure (Next.value r))=_
   rw[bL]
  rintro _ _ ⟨rfl,rfl⟩;have ex:(a.put (some nx) (.tuple #[.bool false])).eval (.tmp nx)=.tuple #[.bool false]:=ks (by rw[U];exact n3)
  refine(bu (K:=λv w1=>v=.bool false/\w=w1) (eP.value (kW (m:=Instr.extract (.tuple #[.bool false]) 0) ?_ (v:=.bool false) (w':=w) rfl) ⟨rfl,rfl⟩) ?_)
  ·show(Instr.extract ((a.put (some nx) (.tuple #[.bool false])).eval (.tmp nx)) 0 >>= λr=>pure (Next.value r))=_;rw[ex]
  rintro _ _ ⟨rfl,rfl⟩;simp only[Exit.then];refine wpIn_seq (wpIn_cond_false (ks (by rw[vN,U];exact n4)) (wpIn_exit ?_))
  simp only[Exit.then,Exit.inBlock,if_true];have R2:=(R.put (v:=.undef) (val:=.tuple #[.bool false]) (by simp[AR]) (some nx)).put (v:=.undef) (val:=.bool false) (by simp[AR]) (some ok)
  rw[Ae d3,Ae d4] at R2;refine hQ L _ _ _ X _ _ hX ?_ R2 bx;have bv:∀ j,j<l.length->j∈seen.toList:=λj M=>by
   have c2:j<es.toList.length:=by omega
   have e1:=(f j _ (zca c2)).1;have N:es.toList[j] ∉ (leftOf es seen).toList:=λhm=>by
    have:=List.length_pos_of_mem hm;simp at this;omega
   simp only[leftOf,Array.toList_filter,zxb,zza,true_and] at N;simp at N;simp only[zFd,zWa] at e1;rw[e1] at N;simpa using N
  have bl:seen.toList.Perm (List.range l.length):=(List.perm_ext_iff_of_nodup bj List.nodup_range).2 λj=>⟨λM=>zLa.2 (aI j M),λM=>bv j (zLa.1 M)⟩;rw[hL];refine(bl.map _).trans ?_;have:(List.range l.length).map (λj=>wv (l.getD j default))=l.map wv:=by
   apply zmc;intro j;rw[z7a,z7a];rcases zla j l.length with k|k
   ·simp[k,List.getD]
   ·rw[zbb (by simpa using k),zbb k];rfl
  rw[this]
 ·
  have b4:w1.heap[m]?=some (.map es l.length):=by rcases bp with rfl|rfl<;>exact A
  have b5:w1.heap.size=w.heap.size:=by rcases bp with rfl|rfl<;>rfl
  have ds:r<w1.heap.size:=by rw[b5];exact(zga.1 bM).1
  have Rw:Rp w0 (λb i=>S b i/\b≠m/\b≠r) (γs m r) β (σL s.nt o it X) a w1:=by
   rcases bp with rfl|rfl
   ·exact R
   ·have:=(R.grow (os:=[]) (d:=w.drawn+1) (zAc _) (S':=λb i=>S b i/\b≠m/\b≠r) (λ_ _ t=>t) (λ_ _ t=>.inl t)).1;have e2:grown w [] (w.drawn+1)=w.drew:=by
     unfold grown;rw[show w.heap++([]:List Obj).toArray=w.heap by simp]
     rfl
    rw[e2] at this;exact this
  obtain⟨H,V⟩:∃ H,H=setBlock w1 r (.mapIter (some m) l.length (seen.push c.born) l.length):=⟨_,rfl⟩;rw[<-V] at q;have R2:Rp w0 (λb i=>S b i/\b≠m/\b≠r) (γs m r) β (σL s.nt o it X) a H:=by
   rw[V];exact Rw.setB (id:=1) rfl rfl (λi hi=>hi.2.2 rfl) _
  have ad:H.heap[m]?=some (.map es l.length):=by
   rw[V];simp only[setBlock];rw[z5c (Ne.symm a6)];exact b4
  have aj:H.heap[r]?=some (.mapIter (some m) l.length (seen.push c.born) l.length):=by
   rw[V];simp only[setBlock];rw[Array.getElem?_setIfInBounds_self_of_lt ds]
  have p:c∈es.toList/\c.born ∉ seen.toList:=by
   simp only[leftOf,Array.toList_filter,zxb] at an;exact⟨an.1,by have:=an.2;simpa using this⟩
  obtain⟨j,M,c3⟩:=zQa p.1;obtain⟨q1,k,v,q2,q3,q4,q5,q6⟩:=f j c (by rw[zca M,c3])
  rw[zWa] at q1;have dE:j<l.length:=by omega
  have ax:l.getD j default=.st [k,v]:=by simp[List.getD,q2]
  refine(bu (K:=λv w1=>v=.tuple #[.bool true,c.key,c.val]/\H=w1) (eP.value (kW (m:=Instr.next (.pointer (some ⟨r,0,none⟩)) false y3) ?_ q) ⟨rfl,rfl⟩) ?_)
  ·show(Instr.next (a.eval (.tmp it)) false y3 >>= λr=>pure (Next.value r))=_
   rw[bL]
  rintro _ _ ⟨rfl,rfl⟩;have ex:(a.put (some nx) (.tuple #[.bool true,c.key,c.val])).eval (.tmp nx)=.tuple #[.bool true,c.key,c.val]:=ks (by rw[U];exact n3)
  refine(bu (K:=λv w1=>v=.bool true/\H=w1) (eP.value (kW (m:=Instr.extract (.tuple #[.bool true,c.key,c.val]) 0) ?_ (v:=.bool true) (w':=H) rfl) ⟨rfl,rfl⟩) ?_)
  ·show(Instr.extract ((a.put (some nx) (.tuple #[.bool true,c.key,c.val])).eval (.tmp nx)) 0 >>= λr=>pure (Next.value r))=_;rw[ex]
  rintro _ _ ⟨rfl,rfl⟩;simp only[Exit.then];refine wpIn_seq (wpIn_cond_true (ks (by rw[vN,U];exact n4)) (wpIn_skip ?_))
  simp only[Exit.then];refine wpIn_block (wpIn_seq (wpIn_region_list ?_));have R3:=(R2.put (v:=.undef) (val:=.tuple #[.bool true,c.key,c.val]) (by simp[AR]) (some nx)).put (v:=.undef) (val:=.bool true) (by simp[AR]) (some ok)
  rw[Ae d3,Ae d4] at R3;have bk:((a.put (some nx) (.tuple #[.bool true,c.key,c.val])).put (some ok) (.bool true)).tmps.getD it undef=.pointer (some ⟨r,0,none⟩):=by
   rw[ci (λe=>d8 (by cases e;rfl)),ci (λe=>d7 (by cases e;rfl))];exact hp
  have W:((a.put (some nx) (.tuple #[.bool true,c.key,c.val])).put (some ok) (.bool true)).defers=[]:=bx;generalize ((a.put (some nx) (.tuple #[.bool true,c.key,c.val])).put (some ok) (.bool true))=a3 at R3 bk W ⊢;rw[cp];simp only[wpListIn,Region.wanted,if_true];refine(bu (K:=λv w1=>v=.tuple #[c.key,c.val]/\H=w1) (eP.value (kW (m:=Instr.entry (.pointer (some ⟨r,0,none⟩))) ?_ (run_entry_at H r m l.length seen es l.length c aj ad p.1 cx)) ⟨rfl,rfl⟩) ?_)
  ·show(Instr.entry (a3.eval (.tmp it)) >>= λr=>pure (Next.value r))=_;rw[show a3.eval (.tmp it)=.pointer (some ⟨r,0,none⟩) from bk]
  rintro _ _ ⟨rfl,rfl⟩;have R4:=R3.put (v:=.d (.tup [e,vt]) (.tup [k,v])) (val:=.tuple #[c.key,c.val]) (by
   simp only[AR];refine .inr ⟨[e,vt],rfl,by simp[bw,dk,dn],⟨[k,v],rfl,k,[v],rfl,q3,v,[],rfl,q4,rfl⟩,[c.key,c.val],rfl,rfl,λi d u z hu=>?_⟩
   cases i with
   | zero=>simp at z hu;subst z;subst hu;exact Dy he q3 q5
   | succ i=>cases i with
    | zero=>simp at z hu;subst z;subst hu;exact Dy dt q4 q6
    | succ i=>simp at z) (some en)
  have b0:(a3.put (some en) (.tuple #[c.key,c.val])).tmps.getD it undef=.pointer (some ⟨r,0,none⟩):=by
   rw[ci (λe=>d9 (by cases e;rfl))];exact bk
  have Y:(a3.put (some en) (.tuple #[c.key,c.val])).defers=[]:=W;generalize (a3.put (some en) (.tuple #[c.key,c.val]))=a4 at R4 b0 Y ⊢;have cy:(c.born::seen.toList).length<=l.length:=Bp _ _ (List.nodup_cons.2 ⟨p.2,bj⟩) (λx hx=>by
   rcases zwa.1 hx with rfl|hx
   ·omega
   ·exact aI x hx)
  have dy:L.length=seen.size:=by rw[hL];simp
  simp only[zKa,zNb] at cy;have b9:((σL s.nt o it X).put (some en) (.d (.tup [e,vt]) (.tup [k,v]))).lkS=[it]:=(St.put_fields _ _ _).2.2.2.2.1;have C:((σL s.nt o it X).put (some en) (.d (.tup [e,vt]) (.tup [k,v]))).lkO=[0,1,4095]:=(St.put_fields _ _ _).2.2.2.2.2.1;refine we (ops:=rest.toArray) rest _ _ bm ?_;have key:=Mq (ro:=none) (nn:=nn) hE (Q:=Exit.then (c26.wpIn (FW none) nn P (Exit.inBlock b2 (Exit.then (λa' w'=>∃ g,g<n/\∃ (S:Nat->Nat->Prop) (β:Nat->Option (Nat×Nat)) (X:AV) (L:List D) (seen:Array Nat) (G:Nat),NO e L X/\Rp w0 (λb i=>S b i/\b≠m/\b≠r) (γs m r) β (σL s.nt o it X) a' w'/\a'.defers=[]/\a'.tmps.getD it undef=.pointer (some ⟨r,0,none⟩) ∧
   w'.heap[m]?=some (.map es l.length)/\w'.heap[r]?=some (.mapIter (some m) l.length seen G)/\l.length<=G/\L=seen.toList.map (λj=>wv (l.getD j default))/\seen.toList.Nodup/\(∀ j∈seen.toList,j<l.length)/\g+seen.size=l.length) (Exit.inBlock b Q)))) (Exit.inBlock b2 (Exit.then (λa' w'=>∃ g,g<n/\∃ (S:Nat->Nat->Prop) (β:Nat->Option (Nat×Nat)) (X:AV) (L:List D) (seen:Array Nat) (G:Nat),NO e L X/\Rp w0 (λb i=>S b i/\b≠m/\b≠r) (γs m r) β (σL s.nt o it X) a' w'/\a'.defers=[]/\a'.tmps.getD it undef=.pointer (some ⟨r,0,none⟩) ∧
   w'.heap[m]?=some (.map es l.length)/\w'.heap[r]?=some (.mapIter (some m) l.length seen G)/\l.length<=G/\L=seen.toList.map (λj=>wv (l.getD j default))/\seen.toList.Nodup/\(∀ j∈seen.toList,j<l.length)/\g+seen.size=l.length) (Exit.inBlock b Q)))) R4 (O X L k v hX (by omega) q3) ?_
  ·simpa using key
  intro x s' S' γ' β' a' w' g1 g2 g3 g4;cases x with
  | ret=>cases g4
  | exit i=>cases g4
  | normal=>
   show c26.wpIn (FW none) nn P _ a' w';refine HP hE c26 .leaf D _ _ g1 g4 λx2 s2 S2 γ2 β2 a5 w5 k1 k2 k3 k4=>?_;cases x2 with
   | ret=>cases k4
   | exit i=>cases k4
   | normal=>
    have c1:dY s2 e o=some (L++[k]):=by
     obtain⟨l2,u1,u2⟩:=bind_some_inv k4;simp only[zda,D.sl.injEq] at u2;rw[u1,u2]
    have F:=g2.tr k2 g3;obtain⟨z1,z2⟩:=F.objs 0 (by rw[C];simp) m rfl
    obtain⟨z3,z4⟩:=F.objs 1 (by rw[C];simp) r rfl
    have z5:=F.slots it (by rw[b9];simp)
    obtain⟨β6,X6,cs,R6⟩:=k1.std (m:=m) (r:=r) (k1.γn 0 m z1) (k1.γn 1 r z3) a6 (λu bb ee z t=>⟨λeq=>k1.βγ u 0 bb ee z t (eq ▸ z1),λeq=>k1.βγ u 1 bb ee z t (eq ▸ z3)⟩) he c1 it;have bP:s2.nt=s.nt:=by
     rw[k3.nt,g3.nt,(St.put_fields _ _ _).2.2.2.1];rfl
    rw[bP] at R6;show ∃ g,g<n/\_;refine⟨n-1,by omega,S2,β6,X6,L++[k],seen.push c.born,l.length,cs,R6,F.df0 (by rw[C];simp) Y,z5.trans b0,z2.eq ad (λ_ h=>by cases h),z4.eq aj (λ_ h=>by cases h),zfa _,?_,?_,?_,?_⟩
    ·rw[zvd,zMb,<-hL,z9a,zld,q1,ax];rfl
    ·rw[zvd,List.nodup_append];refine⟨bj,by simp,λx hx y hy=>?_⟩
     rw[zDa.1 hy];exact λeq=>p.2 (eq ▸ hx)
    ·intro x hx;rw[zvd] at hx;rcases List.mem_append.1 hx with hx|hx
     ·exact aI x hx
     ·rw[zDa.1 hx];omega
    ·simp;omega
end
end Sy
end
noncomputable section
namespace Sy
open Go Go.Proofs Go.Sort Go.Lib
section
variable{P:Program}{E:Env}
def vD(w:World)(S:Nat->Nat->Prop):Root:=⟨w,S,λ_=>False⟩
def Nl(P:Program)(fn:Func)(w:World)(S:Nat->Nat->Prop)(a:Ty)(y:D):Exit->Act->World->Prop:=
 bodyPost P fn λe w'=>∃ v,e=.returned v/\(∃ os d,w.drawn<=d/\w'=grown w os d)/\wt a y/\DR w' (λb o=>S b o\/(w.heap.size<=b/\b<w'.heap.size)) y v
def OT(q:EnvOk P E){fn:Func}{a:Ty}{y:D}{w:World}{S:Nat->Nat->Prop}(u:jy fn.results.size a=true){d:Code}{ann:Ann}{S':Nat->Nat->Prop}{γ':Nat->Option Nat}{β':Nat->Option (Nat×Nat)}{s':St}{a':Act}{w':World}
  (h:Rp (vD w S) S' γ' β' s' a' w') (f:a'.defers=[]) (p:4095∈s'.lkO) (j:(ev E d ann D s' λe s=>match e with|.exit _=>none|_=>results E s a fn.results.toList)=some y):d.wpIn (FW none) 0 P (Nl P fn w S a y) a' w':=by
 refine HP q d ann D _ y h j λe s' S' γ' β' a' w' g t B n=>?_;have c:results E s' a fn.results.toList=some y->(∃ v,(Go.results fn a'.tmps).run P w'=.ok v w'/\∃ v',Ending.returned v=.returned v'/\(∃ os d,w.drawn<=d/\w'=grown w os d)/\wt a y/\DR w' (λb o=>S b o\/(w.heap.size<=b/\b<w'.heap.size)) y v'):=λhq=>by
  obtain⟨v,x,z,A⟩:=lM q g u hq;refine⟨v,x,v,rfl,iQ g.ext (λ_ k=>k),z,A.mono (λ_ _ _=>rfl) λb o r=>?_⟩;rcases zla b w.heap.size with m|l
  ·exact .inl (g.So b o r ⟨m,λk=>k⟩)
  ·exact .inr ⟨l,g.Sb b o r⟩
 cases e with
 | normal=>exact⟨t.df0 p f,c n⟩
 | ret=>exact⟨t.df0 p f,c n⟩
 | exit i=>cases n
def ut(u:EnvOk P E){f:FuncId}{fn:Func}{ann:AnnT}{a:List Ty}{i:Ty}{xs:List D}{y:D}{K:St->Option D}(B:P.funcs[f]?=some fn)(hk:(decide (a.length<=fn.ntmps)&&jy fn.results.size i&&bw a)=true)
  (h:Mb E K fn ann a xs=some y) (z:∀ c,fn.body=some c->∀ (w:World) (S S':Nat->Nat->Prop) γ' β' s' a' w',Rp (vD w S) S' γ' β' s' a' w'->a'.defers=[]->K s'=some y->(th c ann).wpIn (FW none) 0 P (Nl P fn w S i y) a' w'):N7 P a i f xs y:=by
 intro w S vs A k hlen n;simp only[zaa,decide_eq_true_eq] at hk;obtain⟨⟨G,Q⟩,hn⟩:=hk;unfold Mb at h;split at h<;>first|(cases h;done)|skip
 rename_i c d;have J:xs.length=a.length:=jI k;have j:(vs.toArray++Array.replicate (fn.ntmps-vs.toArray.size) undef).size=fn.ntmps:=by
  simp;omega
 refine yK B d (OS (w0:=vD w S) u c ann (S:=S) (γ:=λ_=>none) (β:=λ_=>none) (s:=uR fn a xs) ?_ rfl (by simp[uR]) h λs' S' γ' β' a' w' M nd N=>z c d w S S' γ' β' s' a' w' M nd N)
 refine⟨⟨rfl,rfl,rfl,zfa _,zfa _,λ_ _=>rfl⟩,λt r=>?_,j,λt r=>?_,λid o b F=>(by cases F),λid b d=>(by cases d),λid L b d=>(by cases d),λ_ _=>rfl,λv b e _ d=>(by cases d),λv v' b e O _ _ d=>(by cases d),λv id b e _ d=>(by cases d),λ_ _=>rfl,A,λb o d _=>d⟩
 ·simp only[uR,jn];split
  ·rename_i ty x q m;have C:=(zka.1 m).1;have g:t<vs.length:=by omega
   have I:(vs.toArray++Array.replicate (fn.ntmps-vs.toArray.size) undef).getD t undef=vs[t]:=by
    simp[Array.getD,zRc,g];omega
   show AR _ _ ((vs.toArray++Array.replicate (fn.ntmps-vs.toArray.size) undef).getD t undef);rw[I];obtain⟨R,l,p⟩:=hC k q;rw[m] at l;cases l;exact dT (cd hn q) p (n t x _ m (zca g))
  ·simp only[AR]
 ·have H:fn.ntmps<=t:=r;simp only[uR,jn];rw[zbb (by omega)]
def ML(nt x:Nat)(e:Ty)(l:List D):St:={ tm:=λi=>if i=x then .d (.sl e) (.sl l) else .undef,ob:=λ_=>none,fresh:=0,dead:=[],nt:=nt,lkS:=[],lkO:=[4095] }
def Rp.reset{w0:Root}{S:Nat->Nat->Prop}{s:St}{x:Nat}{e:Ty}{l:List D}{a:Act}{w:World}(h:Rp w0 S (λ_=>none) (λ_=>none) (Pm s x e l) a w){nt:Nat}(c:s.nt=nt):Rp w0 S (λ_=>none) (λ_=>none) (ML nt x e l) a w:=by
 subst c;exact⟨h.ext,h.tms,h.nt,h.tmu,λid o b d=>(by cases d),h.γn,h.γi,λ_ _=>rfl,h.βn,h.βi,h.βγ,λ_ _=>rfl,h.Sb,h.So⟩
def EN(E:Env)(nt x g:Nat)(e:Ty)(s:St):Option D:=(dY s e x).bind λl=>if s.nt=nt then(jZ E g l).bind λl'=>some (.sl l') else none
def ym(B:EnvOk P E){f0:Nat}{e:Ty}(J:SortOk P f0 e){g:Nat}(j:E.sig g=some ([e,e],.int .i64)/\E.free g=0){fn:Func}{b:Ty}{y:D}{w:World}{S:Nat->Nat->Prop}(K:jy fn.results.size b=true)
  {id x t d2 nt:Nat} {ops:Array Oper} {d:Code} {ann:Ann} {z A:TypeId} {L M:String} {k m:Array Edge} {args:Array Operand} {n:Array TypeId}
  (i:ops.toList=[⟨some t,.move (.tmp x),z,L,k,none⟩,⟨some d2,.call ⟨.value (.func f0),args,n⟩,A,M,m,none⟩]) (a:args=#[.tmp t,.func g]) (C:(decide (x≠t)&&decide (x≠d2)&&decide (t<nt))=true)
  (v:∀ l',(ev E d ann D (ML nt x e l') λe s=>match e with|.exit _=>none|_=>results E s b fn.results.toList)=some (.sl l'))
  {S':Nat->Nat->Prop} {γ':Nat->Option Nat} {β':Nat->Option (Nat×Nat)} {s':St} {a':Act} {w':World} (h:Rp (vD w S) S' γ' β' s' a' w') (u:a'.defers=[]) (H:EN E nt x g e s'=some y):(Code.seq (.region id ops false) d).wpIn (FW none) 0 P (Nl P fn w S b y) a' w':=by
 simp only[zaa,decide_eq_true_eq] at C;obtain⟨⟨p,q⟩,r⟩:=C;obtain⟨l,h1,o⟩:=bind_some_inv H;split at o<;>first|(cases o;done)|skip
 rename_i f;obtain⟨l',F,G⟩:=bind_some_inv o;cases G;refine wpIn_seq (MU B J j i a h u p q (by rw[f];exact r) h1 F λa2 N S2 I c=>?_)
 exact OT B K (I.reset f) c (by simp[ML]) (v l')
theorem sU{lt:D->D->Bool}{x:D}:∀ {l:List D},(∀ a∈x::l,∀ b∈x::l,∀ c∈x::l,lt a b=true->lt b c=true->lt a c=true)->(∀ y∈l,lt x y=true\/lt y x=true)->l.Pairwise (λa b=>lt a b=true)->(CH lt x l).Pairwise (λa b=>lt a b=true)
 | [],_,_,_=>by simp[CH]
 | y::l,g,f,hp=>by
  obtain⟨i,m⟩:=zFa.1 hp;simp only[CH];split
  ·rename_i e;refine zFa.2 ⟨λz d=>?_,hp⟩;rcases zwa.1 d with rfl|d
   ·exact e
   ·exact g x (by simp) y (by simp) z (by simp[d]) e (i z d)
  ·rename_i e;have h:lt y x=true:=(f y zoa).resolve_left e;refine zFa.2 ⟨λz d=>?_,sU (λa j b k c hc=>?_) (λz d=>f z (zia _ d)) m⟩
   ·rcases zwa.1 ((rK lt x l).subset d) with rfl|d
    ·exact h
    ·exact i z d
   ·have up:∀ q,q∈x::l->q∈x::y::l:=λq hq=>by
     rcases zwa.1 hq with rfl|hq
     ·simp
     ·simp[hq]
    exact g a (up a j) b (up b k) c (up c hc)
theorem qt{lt:D->D->Bool}:∀ {l:List D},(∀ a∈l,∀ b∈l,∀ c∈l,lt a b=true->lt b c=true->lt a c=true)->l.Pairwise (λa b=>lt a b=true\/lt b a=true)->(mb lt l).Pairwise (λa b=>lt a b=true)
 | [],_,_=>by simp[mb]
 | x::l,d,g=>by
  obtain⟨j,k⟩:=zFa.1 g;have h:∀ q,q∈mb lt l->q∈l:=λq hq=>(gW lt l).subset hq;have up:∀ q,q∈x::mb lt l->q∈x::l:=λq hq=>by
   rcases zwa.1 hq with rfl|hq
   ·simp
   ·simp[h q hq]
  exact sU (λa e b f c hc=>d a (up a e) b (up b f) c (up c hc)) (λy i=>j y (h y i)) (qt (λa e b f c hc=>d a (zia _ e) b (zia _ f) c (zia _ hc)) k)
def vO{g:Nat}{l l':List D}(hc:tB E g l'=true)(hp:l.Perm l'):jZ E g l=some l':=by
 obtain⟨h1,G⟩:=kq hc;have m:∀ x∈l',∃ i,l'[i]?=some x:=λx hx=>by
  obtain⟨i,v,w⟩:=zQa hx;exact⟨i,by rw[zca v,w]⟩
 have u:∀ a∈l,∀ b∈l,∀ c∈l,rP E g a b=true->rP E g b c=true->rP E g a c=true:=λa n b o c r v w=>by
  obtain⟨i,f⟩:=m a (hp.subset n);obtain⟨j,d⟩:=m b (hp.subset o);obtain⟨k,hk⟩:=m c (hp.subset r);have:=(fl hc f d).1.1 v;have:=(fl hc d hk).1.1 w;exact(fl hc f hk).1.2 (by omega)
 have s:l.Nodup:=hp.symm.nodup (wX hc);have t:l.Pairwise (λa b=>rP E g a b=true\/rP E g b a=true):=by
  refine z1c (λ{a b} n o q=>?_) s;obtain⟨i,f⟩:=m a (hp.subset n);obtain⟨j,d⟩:=m b (hp.subset o);rcases zrd i j with k|k|k
  ·exact .inl ((fl hc f d).1.2 k)
  ·subst k;rw[f] at d;cases d;exact absurd rfl q
  ·exact .inr ((fl hc d f).1.2 k)
 have C:=qt u t;have p:(mb (rP E g) l).Perm l':=(gW _ l).trans hp;have:mb (rP E g) l=l':=by
  have key:∀ {a b:List D},a.Pairwise (λx y=>rP E g x y=true)->b.Pairwise (λx y=>rP E g x y=true)->a.Perm b->(∀ x∈a,x∈l')->a=b:=by
   intro a
   induction a with
   | nil=>intro b _ _ hp _;exact hp.symm.eq_nil.symm ▸ rfl
   | cons x a ih=>
    intro b n o hp hm;cases b with
    | nil=>exact absurd hp.eq_nil (by simp)
    | cons y b=>
     obtain⟨a1,a2⟩:=zFa.1 n;obtain⟨A,B⟩:=zFa.1 o;have e:x=y:=by
      rcases zwa.1 (hp.subset zoa) with e|m1
      ·exact e
      ·rcases zwa.1 (hp.symm.subset (zoa (a:=y))) with e|m2
       ·exact e.symm
       ·exfalso;obtain⟨i,f⟩:=m x (hm x zoa);obtain⟨j,d⟩:=m y (hm y (zia _ m2));have:=(fl hc f d).1.1 (a1 y m2);have:=(fl hc d f).1.1 (A x m1);omega
     subst e;rw[ih a2 B ((List.perm_cons x).1 hp) (λz F=>hm z (zia _ F))]
  exact key C (h1.imp λh=>h.1) p λx hx=>p.subset hx
 unfold jZ;rw[this,if_pos hc]
def Dk{g:Nat}{l b l':List D}(h:jZ E g l=some l')(hp:b.Perm l):jZ E g b=some l':=by
 have a:tB E g l'=true/\l'=mb (rP E g) l:=by
  unfold jZ at h;split at h
  ·rename_i c;cases h;exact⟨c,rfl⟩
  ·cases h
 exact vO a.1 (hp.trans (by rw[a.2];exact(gW _ l).symm))
end
end Sy
end
noncomputable section
namespace Sy
open Go Go.Proofs Go.Sort Go.Lib
section
variable{P:Program}{E:Env}
def zF(E:Env)(nt m0 o g:Nat)(e vt:Ty)(s:St):Option D:=
 match s.tm m0 with
 | .map d b id=>if d.beq e&&b.beq vt then(match s.ob id with
   | some (.mp a c l)=>if a.beq e&&c.beq vt&&decide (l.length<=1073741824) then(match dY s e o with
     | some []=>if s.nt=nt then(jZ E g (l.map wv)).bind λl'=>some (.sl l') else none
     | _=>none) else none
   | _=>none) else none
 | _=>none
def De(hE:EnvOk P E){e vt:Ty}(he:bU e=true)(ak:bU vt=true)(Y:aq e=true)(ad:aq vt=true){fn:Func}{p:Ty}{y:D}{w:World}{S:Nat->Nat->Prop}(hr:jy fn.results.size p=true)
  {z A B b b2:Nat} {t72 m0 it T nx ok en o nt:Nat} {C F G:Array Oper} {rest:List Oper} {c26:Code}
  {y1 y2 y3 y4 y5:TypeId} {p1 p2 p3 p4 p5:String} {f1 f2 f3 f4 f5:Array Edge} {TK TV:TypeId}
  (M:C.toList=[⟨some t72,.move (.tmp m0),y1,p1,f1,none⟩,⟨some it,.range T (.tmp t72),y2,p2,f2,none⟩])
  (N:F.toList=[⟨some nx,.next (.tmp it) false,y3,p3,f3,none⟩,⟨some ok,.extract (.tmp nx) 0,y4,p4,f4,none⟩])
  (O:G.toList=⟨some en,.entry (.tmp it),y5,p5,f5,none⟩::rest) (m:(rest.all λx=>x.guard.isNone)=true) (hT:P.underlying T=some (.map TK TV))
  (hd:(decide (o≠t72)&&decide (o≠it)&&decide (nx≠o)&&decide (ok≠o)&&decide (en≠o)&&decide (it≠t72)&&decide (it≠nx)&&decide (it≠ok)&&decide (it≠en)&&decide (nx≠ok)&&decide (t72<nt)&&decide (it<nt)&&decide (nx<nt)&&decide (ok<nt)&&decide (en<nt))=true)
  (f:∀ X L k v,NO e L X->L.length<1073741824->wt e k->ev E (.region 0 rest.toArray false) .leaf D ((σL nt o it X).put (some en) (.d (.tup [e,vt]) (.tup [k,v]))) (λx s'=>match x with
   | .normal=>ev E c26 .leaf D s' (λx al=>match x with|.normal=>(dY al e o).bind λl=>some (.sl l)|_=>none)
   | _=>none)=some (.sl (L++[k])))
  {f0 g:Nat} (hf:SortOk P f0 e) (u:E.sig g=some ([e,e],.int .i64)/\E.free g=0) {id t d2:Nat} {ops:Array Oper} {d:Code} {ann:Ann} {an ax:TypeId} {q1 q2:String} {H I:Array Edge} {args:Array Operand} {J:Array TypeId}
  (r:ops.toList=[⟨some t,.move (.tmp o),an,q1,H,none⟩,⟨some d2,.call ⟨.value (.func f0),args,J⟩,ax,q2,I,none⟩]) (i:args=#[.tmp t,.func g]) (Q:(decide (o≠t)&&decide (o≠d2)&&decide (t<nt))=true)
  (U:∀ l',(ev E d ann D (ML nt o e l') λx s=>match x with|.exit _=>none|_=>results E s p fn.results.toList)=some (.sl l'))
  {S':Nat->Nat->Prop} {γ':Nat->Option Nat} {β':Nat->Option (Nat×Nat)} {s':St} {a':Act} {w':World} (h:Rp (vD w S) S' γ' β' s' a' w') (R:a'.defers=[]) (a:zF E nt m0 o g e vt s'=some y) :
  (Code.seq (Code.seq (.region z C false) (.block b (.loop (.seq (.region A F false) (.seq (.cond (.tmp ok) .skip (.exit b)) (.block b2 (.seq (.region B G false) c26))))))) (Code.seq (.region id ops false) d)).wpIn (FW none) 0 P (Nl P fn w S p y) a' w':=by
 unfold zF at a;split at a<;>first|(cases a;done)|skip
 rename_i kt a0 aI aj;split at a<;>first|(cases a;done)|skip
 rename_i j;split at a<;>first|(cases a;done)|skip
 rename_i n a1 l ai;split at a<;>first|(cases a;done)|skip
 rename_i c;split at a<;>first|(cases a;done)|skip
 rename_i W;split at a<;>first|(cases a;done)|skip
 rename_i Z;obtain⟨l',h3,h4⟩:=bind_some_inv a;cases h4;simp only[zaa,decide_eq_true_eq] at j c hd;have e1:=Ty.eq_of_beq _ _ j.1;have e2:=Ty.eq_of_beq _ _ j.2;have e3:=Ty.eq_of_beq _ _ c.1.1;have e4:=Ty.eq_of_beq _ _ c.1.2;subst e1;subst e2;subst e3;subst e4;obtain⟨⟨⟨⟨⟨⟨⟨⟨⟨⟨⟨⟨⟨⟨d1,K⟩,d3⟩,d4⟩,d5⟩,d6⟩,d7⟩,d8⟩,d9⟩,d10⟩,n1⟩,n2⟩,n3⟩,n4⟩,n5⟩:=hd;subst Z;refine wpIn_seq (Ms hE he ak Y ad M N O (λx hx=>by simpa using zma.1 m x hx) hT h R d1 K d3 d4 d5 d6 d7 d8 d9 d10 n1 n2 n3 n4 n5 aj ai c.2 W f λL S2 γ2 β2 X a2 w2 hX hp hR q=>?_)
 have hlen:L.length<=1073741824:=by rw[hp.length_eq];simpa using c.2
 have V:dY (σL s'.nt o it X) n o=some L:=by
  unfold dY σL;simp only[if_true];rcases hX with⟨rfl,rfl⟩|rfl
  ·rfl
  ·simp only;have:(n.beq n&&!(([]:List Nat).contains 5)&&decide (L.length<=1073741824))=true:=by
    simp only[zaa,decide_eq_true_eq];exact⟨⟨c.1.1,rfl⟩,hlen⟩
   rw[if_pos this]
 refine ym hE hf u hr r i Q U hR q ?_;unfold EN;rw[V,zba,if_pos (show(σL s'.nt o it X).nt=s'.nt from rfl),Dk h3 hp];rfl
end
end Sy
end
noncomputable section
namespace Go.Proofs
open Go.Shelf
def Tryz.sortP_ren:Go.Shelf.Ren:=⟨λ|6=>177|15=>213|14=>212|28=>219|29=>231|20=>223|21=>224|22=>225|23=>226|24=>227|25=>228|26=>229|27=>230|46=>242|47=>243|48=>244|49=>245|50=>246|57=>251|n=>n,λ|22=>137|24=>140|25=>187|3=>3|39=>130|0=>0|53=>33|55=>128|4=>4|46=>221|45=>220|50=>154|5=>5|9=>9|66=>232|70=>236|76=>241|77=>242|n=>n,λ|n=>n⟩
def Tryz.sortP:Go.Proofs.SlLaysF0.n6 Tryz.prog Tryz.sortP_ren:={
 mixed:=by kernel_rfl
 f6:=⟨Tryz.f177.name,by decide,Tryz.func177.trans (congrArg some (by kernel_rfl))⟩
 f14:=⟨Tryz.f212.name,by decide,Tryz.func212.trans (congrArg some (by kernel_rfl))⟩
 f15:=Tryz.func213.trans (congrArg some (by kernel_rfl))
 f20:=⟨Tryz.f223.name,by decide,Tryz.func223.trans (congrArg some (by kernel_rfl))⟩
 f21:=⟨Tryz.f224.name,by decide,Tryz.func224.trans (congrArg some (by kernel_rfl))⟩
 f22:=⟨Tryz.f225.name,by decide,Tryz.func225.trans (congrArg some (by kernel_rfl))⟩
 f23:=⟨Tryz.f226.name,by decide,Tryz.func226.trans (congrArg some (by kernel_rfl))⟩
 f24:=⟨Tryz.f227.name,by decide,Tryz.func227.trans (congrArg some (by kernel_rfl))⟩
 f25:=⟨Tryz.f228.name,by decide,Tryz.func228.trans (congrArg some (by kernel_rfl))⟩
 f26:=⟨Tryz.f229.name,by decide,Tryz.func229.trans (congrArg some (by kernel_rfl))⟩
 f27:=⟨Tryz.f230.name,by decide,Tryz.func230.trans (congrArg some (by kernel_rfl))⟩
 f28:=Tryz.func219.trans (congrArg some (by kernel_rfl))
 f29:=Tryz.func231.trans (congrArg some (by kernel_rfl))
 f46:=⟨Tryz.f242.name,by decide,Tryz.func242.trans (congrArg some (by kernel_rfl))⟩
 f47:=Tryz.func243.trans (congrArg some (by kernel_rfl))
 f48:=Tryz.func244.trans (congrArg some (by kernel_rfl))
 f49:=⟨Tryz.f245.name,by decide,Tryz.func245.trans (congrArg some (by kernel_rfl))⟩
 f50:=⟨Tryz.f246.name,by decide,Tryz.func246.trans (congrArg some (by kernel_rfl))⟩
 f57:=⟨Tryz.f251.name,by decide,Tryz.func251.trans (congrArg some (by kernel_rfl))⟩
 t0:=Tryz.underlying0
 a0:=Tryz.isAgg0
 z0:=Tryz.sizeOf0
 v0:=Tryz.zeroValue0
 t3:=Tryz.underlying3
 a3:=Tryz.isAgg3
 z3:=Tryz.sizeOf3
 v3:=Tryz.zeroValue3
 t4:=Tryz.underlying4
 a4:=Tryz.isAgg4
 z4:=Tryz.sizeOf4
 v4:=Tryz.zeroValue4
 t5:=Tryz.underlying5
 a5:=Tryz.isAgg5
 z5:=Tryz.sizeOf5
 v5:=Tryz.zeroValue5
 t9:=Tryz.underlying9
 a9:=Tryz.isAgg9
 z9:=Tryz.sizeOf9
 v9:=Tryz.zeroValue9
 t22:=Tryz.underlying137
 a22:=Tryz.isAgg137
 z22:=Tryz.sizeOf137
 v22:=Tryz.zeroValue137
 t25:=Tryz.underlying187
 a25:=Tryz.isAgg187
 z25:=Tryz.sizeOf187
 v25:=Tryz.zeroValue187
 t39:=Tryz.underlying130
 a39:=Tryz.isAgg130
 z39:=Tryz.sizeOf130
 v39:=Tryz.zeroValue130
 t45:=Tryz.underlying220
 a45:=Tryz.isAgg220
 z45:=Tryz.sizeOf220
 v45:=Tryz.zeroValue220
 t46:=Tryz.underlying221
 a46:=Tryz.isAgg221
 z46:=Tryz.sizeOf221
 v46:=Tryz.zeroValue221
 t50:=Tryz.underlying154
 a50:=Tryz.isAgg154
 z50:=Tryz.sizeOf154
 v50:=Tryz.zeroValue154
 t53:=Tryz.underlying33
 a53:=Tryz.isAgg33
 z53:=Tryz.sizeOf33
 v53:=Tryz.zeroValue33
 t55:=Tryz.underlying128
 a55:=Tryz.isAgg128
 z55:=Tryz.sizeOf128
 v55:=Tryz.zeroValue128
 t66:=Tryz.underlying232
 a66:=Tryz.isAgg232
 z66:=Tryz.sizeOf232
 v66:=Tryz.zeroValue232
 t70:=Tryz.underlying236
 a70:=Tryz.isAgg236
 z70:=Tryz.sizeOf236
 v70:=Tryz.zeroValue236
 t76:=Tryz.underlying241
 a76:=Tryz.isAgg241
 z76:=Tryz.sizeOf241
 v76:=Tryz.zeroValue241
 t77:=Tryz.underlying242
 a77:=Tryz.isAgg242
 z77:=Tryz.sizeOf242
 v77:=Tryz.zeroValue242 }
def Tryz.sortE_ren:Go.Shelf.Ren:=⟨λ|6=>190|15=>213|14=>218|28=>219|29=>231|20=>233|21=>234|22=>235|23=>236|24=>237|25=>238|26=>239|27=>240|46=>248|47=>243|48=>244|49=>249|50=>250|57=>252|n=>n,λ|22=>132|24=>134|25=>197|3=>3|39=>130|0=>0|53=>33|55=>128|4=>4|46=>221|45=>220|50=>154|5=>5|9=>9|66=>232|70=>236|76=>241|77=>242|n=>n,λ|n=>n⟩
def Tryz.sortE:Go.Proofs.SlLaysF0.n6 Tryz.prog Tryz.sortE_ren:={
 mixed:=by kernel_rfl
 f6:=⟨Tryz.f190.name,by decide,Tryz.func190.trans (congrArg some (by kernel_rfl))⟩
 f14:=⟨Tryz.f218.name,by decide,Tryz.func218.trans (congrArg some (by kernel_rfl))⟩
 f15:=Tryz.func213.trans (congrArg some (by kernel_rfl))
 f20:=⟨Tryz.f233.name,by decide,Tryz.func233.trans (congrArg some (by kernel_rfl))⟩
 f21:=⟨Tryz.f234.name,by decide,Tryz.func234.trans (congrArg some (by kernel_rfl))⟩
 f22:=⟨Tryz.f235.name,by decide,Tryz.func235.trans (congrArg some (by kernel_rfl))⟩
 f23:=⟨Tryz.f236.name,by decide,Tryz.func236.trans (congrArg some (by kernel_rfl))⟩
 f24:=⟨Tryz.f237.name,by decide,Tryz.func237.trans (congrArg some (by kernel_rfl))⟩
 f25:=⟨Tryz.f238.name,by decide,Tryz.func238.trans (congrArg some (by kernel_rfl))⟩
 f26:=⟨Tryz.f239.name,by decide,Tryz.func239.trans (congrArg some (by kernel_rfl))⟩
 f27:=⟨Tryz.f240.name,by decide,Tryz.func240.trans (congrArg some (by kernel_rfl))⟩
 f28:=Tryz.func219.trans (congrArg some (by kernel_rfl))
 f29:=Tryz.func231.trans (congrArg some (by kernel_rfl))
 f46:=⟨Tryz.f248.name,by decide,Tryz.func248.trans (congrArg some (by kernel_rfl))⟩
 f47:=Tryz.func243.trans (congrArg some (by kernel_rfl))
 f48:=Tryz.func244.trans (congrArg some (by kernel_rfl))
 f49:=⟨Tryz.f249.name,by decide,Tryz.func249.trans (congrArg some (by kernel_rfl))⟩
 f50:=⟨Tryz.f250.name,by decide,Tryz.func250.trans (congrArg some (by kernel_rfl))⟩
 f57:=⟨Tryz.f252.name,by decide,Tryz.func252.trans (congrArg some (by kernel_rfl))⟩
 t0:=Tryz.underlying0
 a0:=Tryz.isAgg0
 z0:=Tryz.sizeOf0
 v0:=Tryz.zeroValue0
 t3:=Tryz.underlying3
 a3:=Tryz.isAgg3
 z3:=Tryz.sizeOf3
 v3:=Tryz.zeroValue3
 t4:=Tryz.underlying4
 a4:=Tryz.isAgg4
 z4:=Tryz.sizeOf4
 v4:=Tryz.zeroValue4
 t5:=Tryz.underlying5
 a5:=Tryz.isAgg5
 z5:=Tryz.sizeOf5
 v5:=Tryz.zeroValue5
 t9:=Tryz.underlying9
 a9:=Tryz.isAgg9
 z9:=Tryz.sizeOf9
 v9:=Tryz.zeroValue9
 t22:=Tryz.underlying132
 a22:=Tryz.isAgg132
 z22:=Tryz.sizeOf132
 v22:=Tryz.zeroValue132
 t25:=Tryz.underlying197
 a25:=Tryz.isAgg197
 z25:=Tryz.sizeOf197
 v25:=Tryz.zeroValue197
 t39:=Tryz.underlying130
 a39:=Tryz.isAgg130
 z39:=Tryz.sizeOf130
 v39:=Tryz.zeroValue130
 t45:=Tryz.underlying220
 a45:=Tryz.isAgg220
 z45:=Tryz.sizeOf220
 v45:=Tryz.zeroValue220
 t46:=Tryz.underlying221
 a46:=Tryz.isAgg221
 z46:=Tryz.sizeOf221
 v46:=Tryz.zeroValue221
 t50:=Tryz.underlying154
 a50:=Tryz.isAgg154
 z50:=Tryz.sizeOf154
 v50:=Tryz.zeroValue154
 t53:=Tryz.underlying33
 a53:=Tryz.isAgg33
 z53:=Tryz.sizeOf33
 v53:=Tryz.zeroValue33
 t55:=Tryz.underlying128
 a55:=Tryz.isAgg128
 z55:=Tryz.sizeOf128
 v55:=Tryz.zeroValue128
 t66:=Tryz.underlying232
 a66:=Tryz.isAgg232
 z66:=Tryz.sizeOf232
 v66:=Tryz.zeroValue232
 t70:=Tryz.underlying236
 a70:=Tryz.isAgg236
 z70:=Tryz.sizeOf236
 v70:=Tryz.zeroValue236
 t76:=Tryz.underlying241
 a76:=Tryz.isAgg241
 z76:=Tryz.sizeOf241
 v76:=Tryz.zeroValue241
 t77:=Tryz.underlying242
 a77:=Tryz.isAgg242
 z77:=Tryz.sizeOf242
 v77:=Tryz.zeroValue242 }
end Go.Proofs
end
noncomputable section
namespace Sy
open Go Go.Proofs Go.Shelf Go.RowKit Go.Lib Go.Sort
def Q4 {P : Program} {f : Nat} (h : (match P.funcs[f]? with | some fn => !(fn.name == "runtime.NumGoroutine") && fn.body.isSome | none => false) = true) : ∃ fn, P.funcs[f]? = some fn /\ (fn.name == "runtime.NumGoroutine") = false /\ fn.body.isSome = true := by
 split at h
 ·rename_i fn hf;simp only[zaa,zCa] at h;exact⟨fn,hf,h.1,h.2⟩
 ·cases h
def I7:SortOk Tryz.prog 190 K8:=
 ⟨rfl,rfl,by decide,rfl,Q4 (by kernel_rfl),λp cap fv w=>AnyF.slices_SortFunc_none Tryz.sortE p cap fv w,
  λ_ _ enc hk h1 e hO g b off cap d w f a hH hblk c=>AnyQ.slices_SortFunc Tryz.sortE 2 Tryz.isAgg134 Tryz.sizeOf134 enc hk h1 e hO g #[] b off cap d w f a hH hblk c⟩
def I8:SortOk Tryz.prog 177 eB:=
 ⟨rfl,rfl,by decide,rfl,Q4 (by kernel_rfl),λp cap fv w=>AnyF.slices_SortFunc_none Tryz.sortP p cap fv w,
  λ_ _ enc hk h1 e hO g b off cap d w f a hH hblk c=>AnyQ.slices_SortFunc Tryz.sortP 4 Tryz.isAgg140 Tryz.sizeOf140 enc hk h1 e hO g #[] b off cap d w f a hH hblk c⟩
end Sy
end
noncomputable section
set_option maxHeartbeats 0
namespace Sy
open Go Go.Proofs
def NL:Code->Code|.block _ c=>c|c=>c
def inLoop:Code->Code|.loop c=>c|c=>c
def Zt:Code->Code|.seq a _=>a|c=>c
def SM:Code->Code|.seq _ b=>b|c=>c
def Rg:Code->List Oper|.region _ o _=>o.toList|_=>[]
def RP:AnnT:=(.seq .leaf (.seq .leaf (.seq (.two .leaf (.two (.loop ⟨[(3,.ow K8),(12,.dv (Ty.int .i64))],[],[10,11]⟩ [(.exit 0,⟨[(3,.ow K8)],[],[]⟩)] (.two .leaf (.two .leaf (.two (.two (.two .leaf (.two .leaf (.two (.loop ⟨[(3,.ow K8),(5,.same (.ptr K6 24581 [])),(19,.dv (Ty.int .i64))],[(24581,.keep K6 5)],[10,11,12,17,18]⟩ [(.exit 2,⟨[(3,.ow K8)],[],[10,11,12]⟩)] (.two .leaf (.two .leaf (.cut [(.normal,⟨[(3,.ow K8),(5,.same (.ptr K6 24581 []))],[(24581,.keep K6 5)],[10,11,12,17,18,19]⟩)] [10,11,12,17,18,19] [24581] (.two (.two .leaf (.two (.reg [] 10) .leaf)) .leaf) .leaf)))) .leaf))) .leaf) .leaf)))) .leaf)) .hand)))
def PH(lp:Lp)(call:Nat->List D->Option D)(a0:D):Option D:=
 Option.bind (call 18 [a0]) λr1=>
 Option.bind (D.asSl r1) λi=>
 Option.bind (lp (β:=Nat×List D) (λ(v3:List D)=>
 Option.bind (D.bin .lss (gx v3 1) (D.int .i64 (List.length i))) λz=>
 Option.bind (D.truth z) λx=>
 if x then(Option.bind (D.asSl r1) λv=>
 Option.bind (D.idx (gx v3 1) (List.length v)) λi7=>
 Option.bind (v[i7]?) λu=>
 Option.bind (D.get u [2]) λw=>
 Option.bind (D.asSl w) λh=>
 Option.bind (lp (β:=Nat×List D) (λ(v11:List D)=>
 Option.bind (D.bin .lss (gx v11 1) (D.int .i64 (List.length h))) λm=>
 Option.bind (D.truth m) λf=>
 if f then(Option.bind (Option.bind (D.asSl w) λc=>
 Option.bind (D.idx (gx v11 1) (List.length c)) λi15=>
 Option.bind (c[i15]?) λa=>
 Option.bind (D.get u [2]) λn=>
 Option.bind (D.bin .add (gx v11 1) (D.int .i64 1)) λo=>
 Option.bind (D.get u [2]) λp=>
 Option.bind (D.asSl p) λj=>
 Option.bind (D.bin .rem o (D.int .i64 (List.length j))) λq=>
 Option.bind (D.asSl n) λd=>
 Option.bind (D.idx q (List.length d)) λNK=>
 Option.bind (d[NK]?) λb=>
 Option.bind (D.bin .lss a b) λr=>
 Option.bind (D.truth r) λg=>
 if g then(if List.length (D.els (gx v11 0))+List.length [(D.st [a,b])]<=1073741824 then(some (0,[(D.sl ((D.els (gx v11 0))++[(D.st [a,b])]))])) else none) else(some (0,[(D.sl (D.els (gx v11 0)))]))) λ(k:Nat×List D)=>
 Option.bind (D.bin .add (gx v11 1) (D.int .i64 1)) λs=>
 some (Sum.inl [(D.sl (D.els (gx k.2 0))),s])) else(some (Sum.inr (0,[(D.sl (D.els (gx v11 0)))])))) [(D.sl (D.els (gx v3 0))),(D.int .i64 0)]) λl=>
 Option.bind (D.bin .add (gx v3 1) (D.int .i64 1)) λt=>
 some (Sum.inl [(D.sl (D.els (gx l.2 0))),t])) else(some (Sum.inr (0,[(D.sl (D.els (gx v3 0)))])))) [(D.sl []),(D.int .i64 0)]) λe=>
 Option.bind (if decide (List.length (D.els (gx e.2 0))<=1073741824) then some (D.els (gx e.2 0)) else none) λy=>
 Option.bind (jZ (dm lp call (jN lp call)) (cw 51) y) λi=>some (D.sl i)
def Z5(lp:Lp)(call:Nat->List D->Option D)(a0:D):Mb (dm lp call (jN lp call)) (EN (dm lp call (jN lp call)) 48 3 (cw 51) K8) Tryz.f139 RP [K3] [a0]=PH lp call a0:=by kernel_rfl
def PR:AnnT:=(.seq .leaf (.seq .leaf (.seq (.two .leaf (.two (.loop ⟨[(3,.same (.map eB Ty.bool 8204)),(15,.dv (Ty.int .i64))],[(8204,.mp eB Ty.bool)],[0,14]⟩ [(.exit 0,⟨[(3,.same (.map eB Ty.bool 8204))],[(8204,.mp eB Ty.bool)],[]⟩)] (.two .leaf (.two .leaf (.two (.two (.two .leaf (.two .leaf (.two (.loop ⟨[(3,.same (.map eB Ty.bool 8204)),(19,.dv (Ty.int .i64))],[(8204,.mp eB Ty.bool)],[0,4,14,15,18]⟩ [(.exit 2,⟨[(3,.same (.map eB Ty.bool 8204))],[(8204,.mp eB Ty.bool)],[0,14,15]⟩)] (.two .leaf (.two .leaf (.two (.two (.two .leaf (.two .leaf (.two (.loop ⟨[(3,.same (.map eB Ty.bool 8204)),(23,.dv (Ty.int .i64))],[(8204,.mp eB Ty.bool)],[0,4,5,14,15,18,19,22]⟩ [(.exit 4,⟨[(3,.same (.map eB Ty.bool 8204))],[(8204,.mp eB Ty.bool)],[0,4,14,15,18,19]⟩)] (.two .leaf (.two .leaf (.cut [(.normal,⟨[(3,.same (.map eB Ty.bool 8204))],[(8204,.mp eB Ty.bool)],[0,4,5,14,15,18,19,22,23]⟩)] [0,4,5,14,15,18,19,22,23] [] (.two (.two .leaf (.two (.reg [] 14) (.two .leaf (.two .leaf (.two (.loop ⟨[(3,.same (.map eB Ty.bool 8204)),(51,.ow eB),(53,.dv (Ty.int .i64))],[(8204,.mp eB Ty.bool)],[0,4,5,14,15,18,19,22,23,52]⟩ [(.exit 6,⟨[(3,.same (.map eB Ty.bool 8204))],[(8204,.mp eB Ty.bool)],[0,4,5,14,15,18,19,22,23]⟩)] (.two .leaf (.two .leaf (.cut [(.normal,⟨[(3,.same (.map eB Ty.bool 8204)),(51,.ow eB)],[(8204,.mp eB Ty.bool)],[0,4,5,14,15,18,19,22,23,52,53]⟩)] [0,4,5,14,15,18,19,22,23,52,53] [] .leaf .leaf)))) .leaf))))) .leaf) .leaf)))) .leaf))) .leaf) .leaf)))) .leaf))) .leaf) .leaf)))) .leaf)) (.seq .leaf .hand))))
def PI(lp:Lp)(call:Nat->List D->Option D)(a0:D):Option D:=
 Option.bind (D.asSl a0) λL=>
 Option.bind (lp (β:=Nat×List D) (λ(v2:List D)=>
 Option.bind (D.bin .lss (gx v2 0) (D.int .i64 (List.length L))) λN=>
 Option.bind (D.truth N) λJ=>
 if J then(Option.bind (lp (β:=Nat×List D) (λ(v5:List D)=>
 Option.bind (D.bin .lss (gx v5 0) (gx v2 0)) λO=>
 Option.bind (D.truth O) λK=>
 if K then(Option.bind (lp (β:=Nat×List D) (λ(d:List D)=>
 Option.bind (D.bin .lss (gx d 0) (gx v5 0)) λP=>
 Option.bind (D.truth P) λj=>
 if j then(Option.bind (Option.bind (D.asSl a0) λe=>
 Option.bind (D.idx (gx v2 0) (List.length e)) λtR=>
 Option.bind (e[tR]?) λv=>
 Option.bind (D.asSl a0) λf=>
 Option.bind (D.idx (gx v5 0) (List.length f)) λi15=>
 Option.bind (f[i15]?) λw=>
 Option.bind (D.asSl a0) λg=>
 Option.bind (D.idx (gx d 0) (List.length g)) λi18=>
 Option.bind (g[i18]?) λx=>
 Option.bind (call 96 [v,w,x]) λb=>
 Option.bind (D.get b [0]) λy=>
 Option.bind (D.truth (D.bool (D.beq y (D.st [(D.int .i64 0),(D.int .i64 0),(D.int .i64 0)])))) λk=>
 if k then(some (0,[(D.sl (D.els (gx d 1)))])) else(Option.bind (D.get b [0]) λz=>
 Option.bind (call 97 [z]) λp=>
 Option.bind (D.get b [1]) λA=>
 Option.bind (D.un .neg A) λB=>
 Option.bind (lp (β:=Nat×List D) (λ(a:List D)=>
 Option.bind (D.bin .lss (gx a 1) (D.int .i64 2)) λC=>
 Option.bind (D.truth C) λl=>
 if l then(Option.bind (Option.bind (D.idx (gx a 1) (List.length (D.els (gx a 0)))) λi30=>
 Option.bind ((D.els (gx a 0))[i30]?) λc=>
 Option.bind (D.un .not (Option.getD (D.mget (D.els (gx a 2)) c) (D.bool false))) λE=>
 Option.bind (D.truth E) λm=>
 Option.bind (if m then(Option.bind (call 98 [a0,c]) λq=>
 D.truth q) else(some false)) λn=>
 Option.bind (D.truth (D.bool n)) λo=>
 if o then(some (0,[(D.sl (D.els (gx a 0))),(D.sl (D.mput (D.els (gx a 2)) c (D.bool true)))])) else(some (0,[(D.sl (D.els (gx a 0))),(D.sl (D.els (gx a 2)))]))) λ(h:Nat×List D)=>
 Option.bind (D.bin .add (gx a 1) (D.int .i64 1)) λF=>
 some (Sum.inl [(D.sl (D.els (gx h.2 0))),F,(D.sl (D.els (gx h.2 1)))])) else(some (Sum.inr (0,[(D.sl (D.els (gx a 2)))])))) [(D.sl [b,(D.st [p,B])]),(D.int .i64 0),(D.sl (D.els (gx d 1)))]) λr=>
 some (0,[(D.sl (D.els (gx r.2 0)))]))) λ(s:Nat×List D)=>
 Option.bind (D.bin .add (gx d 0) (D.int .i64 1)) λG=>
 some (Sum.inl [G,(D.sl (D.els (gx s.2 0)))])) else(some (Sum.inr (0,[(D.sl (D.els (gx d 1)))])))) [(D.int .i64 0),(D.sl (D.els (gx v5 1)))]) λt=>
 Option.bind (D.bin .add (gx v5 0) (D.int .i64 1)) λH=>
 some (Sum.inl [H,(D.sl (D.els (gx t.2 0)))])) else(some (Sum.inr (0,[(D.sl (D.els (gx v5 1)))])))) [(D.int .i64 0),(D.sl (D.els (gx v2 1)))]) λu=>
 Option.bind (D.bin .add (gx v2 0) (D.int .i64 1)) λI=>
 some (Sum.inl [I,(D.sl (D.els (gx u.2 0)))])) else(some (Sum.inr (0,[(D.sl (D.els (gx v2 1)))])))) [(D.int .i64 0),(D.sl [])]) λi=>
 if decide (List.length (D.els (gx i.2 0))<=1073741824) then(Option.bind (jZ (dm lp call (jN lp call)) (cw 100) (List.map wv (D.els (gx i.2 0)))) λM=>some (D.sl M)) else none
def Z6(lp:Lp)(call:Nat->List D->Option D)(a0:D):Mb (dm lp call (jN lp call)) (zF (dm lp call (jN lp call)) 85 3 10 (cw 100) eB Ty.bool) Tryz.f128 PR [K2] [a0]=PI lp call a0:=by kernel_rfl
def Oi(f:Func):Code:=match f.body with|some c=>c|none=>.skip
def BF:Code:=NL (SM (SM (inLoop (NL (SM (Zt (th (Oi Tryz.f128) PR)))))))
def Dc:List Oper:=(Rg (Zt BF)).tail
def Xe:Code:=SM BF
def QM{lp:Lp}{call:Nat->List D->Option D}(a:EnvOk Tryz.prog (dm lp call (jN lp call))){a0 y:D}(h:PH lp call a0=some y):N7 Tryz.prog [K3] K9 (cw 21) [a0] y:=by
 refine ut a (f:=cw 21) (fn:=Tryz.f139) (ann:=RP) (K:=EN (dm lp call (jN lp call)) 48 3 (cw 51) K8) (by kernel_rfl) (by kernel_rfl) ((Z5 lp call a0).trans h) ?_
 intro c j w S S' γ' β' s' a' w' i k d;have e:∀ c',Tryz.f139.body=some c'->(th c' RP).wpIn (FW none) 0 Tryz.prog (Nl Tryz.prog Tryz.f139 w S K9 y) a' w'->(th c RP).wpIn (FW none) 0 Tryz.prog (Nl Tryz.prog Tryz.f139 w S K9 y) a' w':=λc' h1 b=>by
  rw[j] at h1;cases h1;exact b
 refine e _ rfl ?_;exact ym a I7 (g:=191) ⟨by kernel_rfl,by kernel_rfl⟩ (by kernel_rfl) (x:=3) (t:=45) (d2:=46) (nt:=48) (ann:=.leaf) rfl rfl (by decide) (λl'=>by kernel_rfl) i k d
def MK{lp:Lp}{call:Nat->List D->Option D}:∀ X L k v,NO eB L X->L.length<1073741824->wt eB k->ev (dm lp call (jN lp call)) (.region 0 (Dc).toArray false) .leaf D ((σL 85 10 73 X).put (some 76) (.d (.tup [eB,.bool]) (.tup [k,v]))) (λx s'=>match x with
   | .normal=>ev (dm lp call (jN lp call)) Xe .leaf D s' (λx a=>match x with|.normal=>(dY a eB 10).bind λl=>some (.sl l)|_=>none)
   | _=>none)=some (.sl (L++[k])):=by
 intro X L k v b hL _;rcases b with⟨rfl,rfl⟩|rfl
 ·kernel_rfl
 ·have key:ev (dm lp call (jN lp call)) (.region 0 (Dc).toArray false) .leaf D ((σL 85 10 73 (.own eB 5 L)).put (some 76) (.d (.tup [eB,.bool]) (.tup [k,v]))) (λx s'=>match x with
   | .normal=>ev (dm lp call (jN lp call)) Xe .leaf D s' (λx a=>match x with|.normal=>(dY a eB 10).bind λl=>some (.sl l)|_=>none)
   | _=>none)=(if List.length L+List.length [k]<=1073741824 then(Option.bind (if decide (List.length (L++[k])<=1073741824) then some (L++[k]) else none) λl=>some (.sl l)) else none):=by kernel_rfl
  rw[key,if_pos (by simp;omega),if_pos (by simp;omega)]
  rfl
def QN{lp:Lp}{call:Nat->List D->Option D}(a:EnvOk Tryz.prog (dm lp call (jN lp call))){a0 y:D}(h:PI lp call a0=some y):N7 Tryz.prog [K2] PL (cw 45) [a0] y:=by
 refine ut a (f:=cw 45) (fn:=Tryz.f128) (ann:=PR) (K:=zF (dm lp call (jN lp call)) 85 3 10 (cw 100) eB .bool) (by kernel_rfl) (by kernel_rfl) ((Z6 lp call a0).trans h) ?_
 intro c j w S S' γ' β' s' a' w' i k d;have e:∀ c',Tryz.f128.body=some c'->(th c' PR).wpIn (FW none) 0 Tryz.prog (Nl Tryz.prog Tryz.f128 w S PL y) a' w'->(th c PR).wpIn (FW none) 0 Tryz.prog (Nl Tryz.prog Tryz.f128 w S PL y) a' w':=λc' h1 b=>by
  rw[j] at h1;cases h1;exact b
 refine e _ rfl ?_;exact De a rfl rfl rfl rfl (by kernel_rfl) (t72:=72) (m0:=3) (it:=73) (T:=183) (nx:=74) (ok:=75) (en:=76) (o:=10) (nt:=85) (c26:=Xe) (rest:=Dc) rfl rfl rfl rfl (TK:=140) (TV:=4) (by kernel_rfl) (by decide) MK I8 (g:=178) ⟨by kernel_rfl,by kernel_rfl⟩ (t:=82) (d2:=83) (ann:=.leaf) rfl rfl (by decide) (λl'=>by kernel_rfl) i k d
end Sy
end
noncomputable section
namespace Sy
open Go Go.Proofs
def L21{lp:Lp}(b:ar lp):ah 21 (m1 (PH lp)):=by
 intro call hc d e xs y c a hw;have:qs (cw 21)=some ([K3],K9):=by kernel_rfl
 rw[this] at c;cases c;unfold m1 at a;split at a<;>first|(cases a;done)|skip
 have h0:jT (cw 21)=0:=by kernel_rfl
 rw[h0];exact⟨QM (QV b hc) a,λh=>by rw[show qi (cw 21)=false by kernel_rfl] at h;cases h⟩
def L45{lp:Lp}(b:ar lp):ah 45 (m1 (PI lp)):=by
 intro call hc d e xs y c a hw;have:qs (cw 45)=some ([K2],PL):=by kernel_rfl
 rw[this] at c;cases c;unfold m1 at a;split at a<;>first|(cases a;done)|skip
 have h0:jT (cw 45)=0:=by kernel_rfl
 rw[h0];exact⟨QN (QV b hc) a,λh=>by rw[show qi (cw 45)=false by kernel_rfl] at h;cases h⟩
end Sy
end
noncomputable section
set_option maxHeartbeats 0
namespace Sy
open Go Go.Proofs
def Jb(lp:Lp):CT:=.node 143 (.node 96 (.node 62 (.node 37 (.node 21 (.node 15 (.node 13 (.leaf 12 (m1 (PG lp))) (.leaf 13 (m2 (RQ lp)))) (.node 18 (.leaf 15 (m1 (RR lp))) (.node 19 (.leaf 18 (m1 (RS lp))) (.leaf 19 (m1 (RT lp)))))) (.node 31 (.node 22 (.leaf 21 (m1 (PH lp))) (.leaf 22 (m1 (RU lp)))) (.node 32 (.leaf 31 (m1 (Zf lp))) (.node 34 (.leaf 32 (m2 (RW lp))) (.leaf 34 (m1 (RY lp))))))) (.node 51 (.node 46 (.node 45 (.leaf 37 (m2 (Zg lp))) (.leaf 45 (m1 (PI lp)))) (.node 47 (.leaf 46 (m2 (RZ lp))) (.node 48 (.leaf 47 (m1 (R5 lp))) (.leaf 48 (m1 (R7 lp)))))) (.node 54 (.node 52 (.leaf 51 (m2 (R8 lp))) (.node 53 (.leaf 52 (m1 (R9 lp))) (.leaf 53 (m2 (Sa lp))))) (.node 57 (.leaf 54 (m1 (Sc lp))) (.node 61 (.leaf 57 (m2 (Sd lp))) (.leaf 61 (m2 (Se lp)))))))) (.node 80 (.node 74 (.node 71 (.node 68 (.leaf 62 (m2 (PJ lp))) (.leaf 68 (m1 (Sf lp)))) (.node 72 (.leaf 71 (m1 (Sg lp))) (.node 73 (.leaf 72 (m2 (Si lp))) (.leaf 73 (m2 (Sj lp)))))) (.node 76 (.node 75 (.leaf 74 (m1 (Sl lp))) (.leaf 75 (m1 (Zh lp)))) (.node 77 (.leaf 76 (m1 (PK lp))) (.node 78 (.leaf 77 (m1 (Sn lp))) (.leaf 78 (m2 (Sp lp))))))) (.node 85 (.node 82 (.node 81 (.leaf 80 (m1 (Sq lp))) (.leaf 81 (m2 (Sr lp)))) (.node 83 (.leaf 82 (m2 (Ss lp))) (.node 84 (.leaf 83 (m1 (Su lp))) (.leaf 84 (m0 (Sv lp)))))) (.node 88 (.node 86 (.leaf 85 (m2 (P6 lp))) (.node 87 (.leaf 86 (m1 (Zi lp))) (.leaf 87 (m2 (Sw lp))))) (.node 90 (.leaf 88 (m1 (Lx lp))) (.node 91 (.leaf 90 (m2 (Sx lp))) (.leaf 91 (m2 (SA lp))))))))) (.node 121 (.node 108 (.node 103 (.node 98 (.node 97 (.leaf 96 (m3 (SB lp))) (.leaf 97 (m1 (SC lp)))) (.node 100 (.leaf 98 (m2 (SD lp))) (.node 101 (.leaf 100 (m2 (JK lp))) (.leaf 101 (m2 (GN lp)))))) (.node 105 (.node 104 (.leaf 103 (m2 (JL lp))) (.leaf 104 (m3 (JM lp)))) (.node 106 (.leaf 105 (m2 (JN lp))) (.node 107 (.leaf 106 (m3 (JO lp))) (.leaf 107 (m2 (JP lp))))))) (.node 115 (.node 110 (.node 109 (.leaf 108 (m2 (JQ lp))) (.leaf 109 (m3 (JR lp)))) (.node 111 (.leaf 110 (m2 (JS lp))) (.node 112 (.leaf 111 (m3 (JT lp))) (.leaf 112 (m2 (JU lp)))))) (.node 118 (.node 116 (.leaf 115 (m1 (JV lp))) (.node 117 (.leaf 116 (m2 (JW lp))) (.leaf 117 (m2 (JX lp))))) (.node 119 (.leaf 118 (m1 (JY lp))) (.node 120 (.leaf 119 (m0 (JZ lp))) (.leaf 120 (m2 (J0 lp)))))))) (.node 132 (.node 126 (.node 123 (.node 122 (.leaf 121 (m2 (J1 lp))) (.leaf 122 (m2 (J2 lp)))) (.node 124 (.leaf 123 (m2 (J3 lp))) (.node 125 (.leaf 124 (m1 (GO lp))) (.leaf 125 (m0 (J4 lp)))))) (.node 129 (.node 127 (.leaf 126 (m2 (J5 lp))) (.node 128 (.leaf 127 (m1 (J6 lp))) (.leaf 128 (m1 (GP lp))))) (.node 130 (.leaf 129 (m1 (J7 lp))) (.node 131 (.leaf 130 (m0 (J8 lp))) (.leaf 131 (m2 (J9 lp))))))) (.node 137 (.node 134 (.node 133 (.leaf 132 (m2 (EY lp))) (.leaf 133 (m0 (Ka lp)))) (.node 135 (.leaf 134 (m2 (Kb lp))) (.node 136 (.leaf 135 (m1 (Kc lp))) (.leaf 136 (m1 (GQ lp)))))) (.node 140 (.node 138 (.leaf 137 (m2 (Kd lp))) (.node 139 (.leaf 138 (m1 (Ke lp))) (.leaf 139 (m1 (EZ lp))))) (.node 141 (.leaf 140 (m1 (Kf lp))) (.node 142 (.leaf 141 (m2 (Kg lp))) (.leaf 142 (m1 (Kh lp)))))))))) (.node 357 (.node 188 (.node 167 (.node 152 (.node 146 (.node 144 (.leaf 143 (m2 (Ki lp))) (.leaf 144 (m2 (Kj lp)))) (.node 147 (.leaf 146 (m2 (Kk lp))) (.node 148 (.leaf 147 (m2 (Kl lp))) (.leaf 148 (m1 (Km lp)))))) (.node 155 (.node 154 (.leaf 152 (m2 (GR lp))) (.leaf 154 (m2 (Kn lp)))) (.node 156 (.leaf 155 (m1 (Ko lp))) (.node 165 (.leaf 156 (m5 (Kq lp))) (.leaf 165 (m1 (Kr lp))))))) (.node 172 (.node 169 (.node 168 (.leaf 167 (m1 (Ks lp))) (.leaf 168 (m2 (Kt lp)))) (.node 170 (.leaf 169 (m0 (Ku lp))) (.node 171 (.leaf 170 (m2 (Kv lp))) (.leaf 171 (m1 (Kw lp)))))) (.node 175 (.node 173 (.leaf 172 (m2 (E0 lp))) (.node 174 (.leaf 173 (m2 (GS lp))) (.leaf 174 (m2 (GT lp))))) (.node 186 (.leaf 175 (m2 (Kx lp))) (.node 187 (.leaf 186 (m1 (Ky lp))) (.leaf 187 (m1 (Kz lp)))))))) (.node 322 (.node 201 (.node 195 (.node 194 (.leaf 188 (m2 (KA lp))) (.leaf 194 (m1 (KB lp)))) (.node 196 (.leaf 195 (m2 (KC lp))) (.node 197 (.leaf 196 (m1 (KD lp))) (.leaf 197 (m2 (KE lp)))))) (.node 203 (.node 202 (.leaf 201 (m2 (KF lp))) (.leaf 202 (m1 (E1 lp)))) (.node 215 (.leaf 203 (m2 (GU lp))) (.node 217 (.leaf 215 (m1 (KG lp))) (.leaf 217 (m1 (KH lp))))))) (.node 342 (.node 331 (.node 324 (.leaf 322 (m1 (KI lp))) (.leaf 324 (m2 (PU lp)))) (.node 333 (.leaf 331 (m1 (KJ lp))) (.node 336 (.leaf 333 (m2 (KK lp))) (.leaf 336 (m2 (KL lp)))))) (.node 348 (.node 344 (.leaf 342 (m1 (KM lp))) (.node 345 (.leaf 344 (m2 (PW lp))) (.leaf 345 (m2 (PX lp))))) (.node 349 (.leaf 348 (m1 (KN lp))) (.node 352 (.leaf 349 (m1 (KO lp))) (.leaf 352 (m2 (KP lp))))))))) (.node 430 (.node 414 (.node 386 (.node 365 (.node 364 (.leaf 357 (m1 (GV lp))) (.leaf 364 (m2 (KQ lp)))) (.node 371 (.leaf 365 (m1 (KR lp))) (.node 385 (.leaf 371 (m2 (KS lp))) (.leaf 385 (m1 (KU lp)))))) (.node 393 (.node 392 (.leaf 386 (m2 (GW lp))) (.leaf 392 (m2 (KV lp)))) (.node 394 (.leaf 393 (m1 (KW lp))) (.node 411 (.leaf 394 (m1 (E2 lp))) (.leaf 411 (m6 (KX lp))))))) (.node 421 (.node 416 (.node 415 (.leaf 414 (m4 (KY lp))) (.leaf 415 (Fo 0 lp 415 Tryz.f10 PQ))) (.node 418 (.leaf 416 (m4 (KZ lp))) (.node 419 (.leaf 418 (m1 (GX lp))) (.leaf 419 (m5 (La lp)))))) (.node 426 (.node 423 (.leaf 421 (m5 (Lb lp))) (.node 425 (.leaf 423 (m3 (Lc lp))) (.leaf 425 (m4 (Ld lp))))) (.node 427 (.leaf 426 (m1 (Le lp))) (.node 429 (.leaf 427 (m1 (Lf lp))) (.leaf 429 (m2 (PY lp)))))))) (.node 446 (.node 435 (.node 432 (.node 431 (.leaf 430 (m3 (PZ lp))) (.leaf 431 (m2 (Lg lp)))) (.node 433 (.leaf 432 (m2 (P0 lp))) (.node 434 (.leaf 433 (m2 (Lh lp))) (.leaf 434 (m3 (Li lp)))))) (.node 443 (.node 439 (.leaf 435 (m2 (Lj lp))) (.node 440 (.leaf 439 (m1 (GY lp))) (.leaf 440 (m2 (Lk lp))))) (.node 444 (.leaf 443 (m2 (Ll lp))) (.node 445 (.leaf 444 (m2 (Lm lp))) (.leaf 445 (m2 (Ln lp))))))) (.node 454 (.node 448 (.node 447 (.leaf 446 (m2 (Lo lp))) (.leaf 447 (m1 (Lr lp)))) (.node 449 (.leaf 448 (m1 (Ls lp))) (.node 450 (.leaf 449 (m1 (Lt lp))) (.leaf 450 (m2 (Lu lp)))))) (.node 457 (.node 455 (.leaf 454 (m2 (Lv lp))) (.node 456 (.leaf 455 (Fo 0 lp 455 Tryz.f140 PS)) (.leaf 456 (m2 (Lw lp))))) (.node 458 (.leaf 457 (m3 (P3 lp))) (.node 459 (.leaf 458 (m1 (P4 lp))) (.leaf 459 (m1 (P5 lp))))))))))
def zT{lp:Lp}(a:ar lp):(Jb lp).ok:=⟨⟨⟨⟨⟨⟨⟨L12 a,L13 a⟩,⟨L15 a,⟨L18 a,L19 a⟩⟩⟩,⟨⟨L21 a,L22 a⟩,⟨L31 a,⟨L32 a,L34 a⟩⟩⟩⟩,⟨⟨⟨L37 a,L45 a⟩,⟨L46 a,⟨L47 a,L48 a⟩⟩⟩,⟨⟨L51 a,⟨L52 a,L53 a⟩⟩,⟨L54 a,⟨L57 a,L61 a⟩⟩⟩⟩⟩,⟨⟨⟨⟨L62 a,L68 a⟩,⟨L71 a,⟨L72 a,L73 a⟩⟩⟩,⟨⟨L74 a,L75 a⟩,⟨L76 a,⟨L77 a,L78 a⟩⟩⟩⟩,⟨⟨⟨L80 a,L81 a⟩,⟨L82 a,⟨L83 a,L84 a⟩⟩⟩,⟨⟨L85 a,⟨L86 a,L87 a⟩⟩,⟨L88 a,⟨L90 a,L91 a⟩⟩⟩⟩⟩⟩,⟨⟨⟨⟨⟨L96 a,L97 a⟩,⟨L98 a,⟨Um a,Un a⟩⟩⟩,⟨⟨Uo a,Up a⟩,⟨Uq a,⟨Ur a,Us a⟩⟩⟩⟩,⟨⟨⟨Ut a,Uu a⟩,⟨Uv a,⟨Uw a,Ux a⟩⟩⟩,⟨⟨Uy a,⟨Uz a,UA a⟩⟩,⟨UB a,⟨UC a,UD a⟩⟩⟩⟩⟩,⟨⟨⟨⟨UE a,UF a⟩,⟨UG a,⟨UH a,UI a⟩⟩⟩,⟨⟨UJ a,⟨UK a,UL a⟩⟩,⟨UM a,⟨UN a,UO a⟩⟩⟩⟩,⟨⟨⟨UP a,UQ a⟩,⟨UR a,⟨US a,UT a⟩⟩⟩,⟨⟨UU a,⟨UV a,UW a⟩⟩,⟨UX a,⟨UY a,UZ a⟩⟩⟩⟩⟩⟩⟩,⟨⟨⟨⟨⟨⟨U0 a,U2 a⟩,⟨U3 a,⟨U4 a,U5 a⟩⟩⟩,⟨⟨U6 a,U7 a⟩,⟨U8 a,⟨U9 a,Va a⟩⟩⟩⟩,⟨⟨⟨Vb a,Vc a⟩,⟨Vd a,⟨Ve a,Vf a⟩⟩⟩,⟨⟨Vg a,⟨Vh a,Vi a⟩⟩,⟨Vj a,⟨Vk a,Vl a⟩⟩⟩⟩⟩,⟨⟨⟨⟨Vm a,Vn a⟩,⟨Vo a,⟨Vp a,Vq a⟩⟩⟩,⟨⟨Vr a,Vs a⟩,⟨Vt a,⟨Vu a,Vv a⟩⟩⟩⟩,⟨⟨⟨Vw a,Vx a⟩,⟨Vy a,⟨Vz a,VA a⟩⟩⟩,⟨⟨VB a,⟨VC a,VD a⟩⟩,⟨VE a,⟨VF a,VG a⟩⟩⟩⟩⟩⟩,⟨⟨⟨⟨⟨VH a,VI a⟩,⟨VJ a,⟨VK a,VL a⟩⟩⟩,⟨⟨VM a,VN a⟩,⟨VO a,⟨VP a,P9 a⟩⟩⟩⟩,⟨⟨⟨VQ a,VR a⟩,⟨VS a,⟨VU a,VV a⟩⟩⟩,⟨⟨VW a,⟨VX a,VY a⟩⟩,⟨VZ a,⟨V0 a,V1 a⟩⟩⟩⟩⟩,⟨⟨⟨⟨V2 a,V3 a⟩,⟨V4 a,⟨V5 a,V6 a⟩⟩⟩,⟨⟨V7 a,⟨V8 a,V9 a⟩⟩,⟨Wa a,⟨Wb a,Wc a⟩⟩⟩⟩,⟨⟨⟨We a,Wf a⟩,⟨Wg a,⟨Wh a,Wi a⟩⟩⟩,⟨⟨Wj a,⟨Wl a,Wm a⟩⟩,⟨Wn a,⟨Wo a,Wp a⟩⟩⟩⟩⟩⟩⟩⟩
def Hu(lp:Lp):Nat->Nat->List D->Option D
 | 0=>λ_ _=>none
 | n+1=>λf xs=>(Jb lp).get f (Hu lp n) xs
theorem Au{lp:Lp}(a:ar lp):∀ n,iC Tryz.prog (Hu lp n)
 | 0=>λf b c xs y _ h _=>by cases h
 | n+1=>CT.get_ok (zT a) (Au a n)
end Sy
end
end Go.Proofs.YtphlmegkommlnaaGreatDoor
