/- Part 9 of the proof that SweepChecksAsSpecified answers true at every input -/
import Derived.Test.YtmnkibhalflchaaGreatChek06
import Derived.Test.YtmnkibhalflchaaGreatChek07
import Derived.Test.YtmnkibhalflchaaGreatChek08
import Derived.Shelf.SlSortCmp.NoneTotal
import Derived.Ground.SlsfProg
import Derived.KernelRfl
import Derived.Test.YtmnkibhalflchaaGreatProg
import Derived.Test.YtmnkibhalflchaaGreatChecked
set_option linter.unusedVariables false
set_option linter.unusedSimpArgs false
set_option linter.unnecessarySimpa false
set_option linter.defProp false
set_option maxRecDepth 20000
namespace Go.Proofs.YtmnkibhalflchaaGreat
noncomputable section
set_option maxHeartbeats 0
noncomputable section
namespace Sy
open Go Go.Proofs
section
variable{lp}(a:aj lp)
def TS:Ann:=(.tl (.tl (.cut [(.normal,⟨[(1,.sp bP 4097),(2,.sp pF 4098),(3,.di)],[(4097,.keep bP 1),(4098,.keep pF 2)],[]⟩)] [] [4097,4098] .leaf (.tl (.two (.tl (.two (.loop ⟨[(1,.sp bP 4097),(2,.sp pF 4098),(4,.sp pF 16388),(18,.di)],[(4097,.keep bP 1),(4098,.keep pF 2),(16388,.one pF (.dv pF))],[3,17]⟩ [(.exit 0,⟨[(2,.sp pF 4098),(4,.sp pF 16388)],[(4098,.keep pF 2),(16388,.one pF (.dv pF))],[]⟩)] .leaf) .leaf)) .leaf)))))
def Jy(lp:Lp)(c:Ca)(a0:D):Option D:=(qG a0 [0,1] λx1=>qG a0 [1,1] λo=>(c 392 [x1,o]).bind λm=>qC .lss m (Jn 0) λl=>if l then(some (0,[(Jn (-1))])) else(some (0,[(Jn 1)]))).bind λ(n:Nat×List D)=>qG a0 [0,1] λp=>(qZ lp (λa=>qC .lss (gx a 0) (Jn 4) λd=>if d then((D.idx (gx a 0) 4).bind λi11=>(D.fld p i11).bind λb=>(D.idx (gx a 0) 4).bind λi13=>qG a0 [1,1,i13] λg=>qB .mul (gx n.2 0) g λh=>qB .sub h b λi=>(c 535 [(D.sl [b,i])]).bind λe=>(D.idx (gx a 0) 4).bind λi18=>(D.set (gx a 1) [i18] e).bind λj=>qB .add (gx a 0) (Jn 1) λk=>iL [k,j]) else(iR (0,[(gx a 1)]))) [(Jn 0),(D.st [(D.sl []),(D.sl []),(D.sl []),(D.sl [])])]).bind λf=>some (gx f.2 0)
def WY:af 530 (m1 (Jy lp)):=aJ 0 Tryz.f158 TS a
def Jz(lp:Lp)(c:Ca)(a0:D):Option D:=(c 530 [a0]).bind λr1=>qG r1 [0] λb=>qG r1 [0] λd=>qG r1 [1] λe=>qG r1 [1] λf=>qG r1 [2] λg=>qG r1 [2] λh=>qG r1 [3] λi=>qG r1 [3] λj=>(c 533 [(Jn 1),(D.sl [b,d,e,f,g,h,i,j])]).bind λa=>some a
def WZ:af 531 (m1 (Jz lp)):=aJ 0 Tryz.f159 .leaf a
def TT:Ann:=(.tl (.tl (.two (.tl (.two (.loop ⟨[(5,.dv be),(6,.di)],[],[0,1]⟩ [(.exit 0,⟨[(5,.dv be)],[],[0]⟩)] (.tl (.two (.two (.reg [] 12) .leaf) .leaf))) .leaf)) .leaf)))
def Fh(lp:Lp)(c:Ca)(a0 a1:D):Option D:=(qZ lp (λv1=>qB .add (gx v1 1) (Jn 1) λj=>qL a1 j λi=>if i then(qX a1 (gx v1 1) λk=>qB .add (gx v1 1) (Jn 1) λl=>qX a1 l λg=>(c 534 [k,g]).bind λa=>(c 520 [(gx v1 0),a]).bind λb=>qB .add (gx v1 1) (Jn 2) λh=>iL [b,h]) else(iR (0,[(gx v1 0)]))) [(D.sl []),(Jn 0)]).bind λd=>(c 54 [a0]).bind λe=>(c 499 [(gx d.2 0),e]).bind λf=>some f
def W0:af 533 (m2 (Fh lp)):=aD 0 Tryz.f161 TT a
def TU:Ann:=(.tl (.tl (.tl (.two (.regI [] 9 (.two (.tl (.tl (.two (.tl (.two (.loop ⟨[(1,.same (.clo 247 [(.ptr be 4099 []),(.ptr be 4098 [])])),(2,.same (.clo 225 [])),(7,.ow am),(15,.di)],[(4098,.one be (.dv be)),(4099,.one be (.dv be))],[14]⟩ [(.ret,⟨[(6,.dv be)],[],[]⟩),(.exit 0,⟨[(7,.ow am)],[],[]⟩)] .leaf) .leaf)) (.two (.two (.loop ⟨[(7,.dv be)],[],[]⟩ [(.exit 2,⟨[(7,.dv be)],[],[]⟩)] .leaf) .leaf) .leaf)))) .leaf)) .leaf))))
def JA(lp:Lp)(c:Ca)(a0 a1:D):Option D:=(c 546 [a0]).bind λr1=>qT r1 λb2=>(if b2 then(some true) else((c 546 [a1]).bind λO=>D.truth O)).bind λJ=>qT (D.bool J) λK=>if K then((c 518 []).bind λP=>some P) else(qS a0 λM=>qT (D.bool (D.beq (Jn (M.length)) (Jn 0))) λL=>(if L then(some true) else(qS a1 λN=>D.truth (D.bool (D.beq (Jn (N.length)) (Jn 0))))).bind λg=>qT (D.bool g) λh=>if h then(some (D.sl [])) else(qS a0 λo=>qS a1 λp=>qB .add (Jn (o.length)) (Jn (p.length)) λB=>qB .sub B (Jn 1) λf=>(D.max2 f (Jn 0)).bind λC=>(D.natOf C).bind λi17=>if i17<=1073741824 then((D.max2 f (Jn 0)).bind λE=>(qZ lp (λa=>qC .lss (gx a 1) E λi=>if i then((c 563 [(gx a 1),(gx a 3),(gx a 2)]).bind λw=>(c 552 [w]).bind λb=>(c 517 [b]).bind λx=>qN x λj=>if j then((c 518 []).bind λy=>iR (0,[y])) else(if List.length (qV a 0)+List.length [b]<=1073741824 then(qB .add (gx a 1) (Jn 1) λF=>iL [(D.sl ((qV a 0)++[b])),F,(gx a 2),(gx a 3)]) else none)) else(iR (1,[(qW a 0)]))) [(D.sl []),(Jn 0),a0,a1]).bind λd=>if d.1=0 then(some (gx d.2 0)) else((qZ lp (λv30=>qS (gx v30 0) λq=>qC .gtr (Jn (q.length)) (Jn 0) λk=>(if k then(qS (gx v30 0) λr=>qB .sub (Jn (r.length)) (Jn 1) λG=>qX (gx v30 0) G λH=>(c 129 [H]).bind λz=>D.truth (D.bool (D.beq z (Jn 0)))) else(some false)).bind λl=>qT (D.bool l) λm=>if m then(qS (gx v30 0) λs=>qB .sub (Jn (s.length)) (Jn 1) λI=>qS (gx v30 0) λt=>(D.natOf I).bind λi45=>(D.cut t 0 i45).bind λu=>iL [(D.sl u)]) else(iR (0,[(gx v30 0)]))) [(qW d.2 0)]).bind λe=>qS (gx e.2 0) λv=>qC .gtr (Jn (v.length)) (Jn 25) λn=>if n then((c 518 []).bind λA=>some A) else(some (gx e.2 0)))) else none))
def W2:af 534 (m2 (JA lp)):=aD 1 Tryz.f162 TU a
def TW:Ann:=(.tl (.two (.regI [] 5 (.two (.tl (.tl (.two (.tl (.two (.loop ⟨[(1,.same (.clo 249 [(.ptr K5 4097 [])])),(2,.same (.clo 58 [])),(7,.ow am),(15,.di)],[(4097,.one K5 (.dv K5))],[14]⟩ [(.ret,⟨[(6,.dv be)],[],[]⟩),(.exit 0,⟨[(7,.ow am)],[],[]⟩)] .leaf) .leaf)) (.two (.two (.loop ⟨[(7,.dv be)],[],[]⟩ [(.exit 2,⟨[(7,.dv be)],[],[]⟩)] .leaf) .leaf) .leaf)))) .leaf)) .leaf))
def JB(lp:Lp)(c:Ca)(a0:D):Option D:=qS a0 λy=>(D.max2 (Jn (y.length)) (Jn 0)).bind λB=>(D.natOf B).bind λi3=>if i3<=1073741824 then((D.max2 (Jn (y.length)) (Jn 0)).bind λC=>(qZ lp (λv5=>qC .lss (gx v5 1) C λz=>if z then((c 564 [(gx v5 1),(gx v5 2)]).bind λA=>(c 54 [A]).bind λt=>(c 517 [t]).bind λp=>qN p λe=>if e then((c 518 []).bind λq=>iR (0,[q])) else(if List.length (qV v5 0)+List.length [t]<=1073741824 then(qB .add (gx v5 1) (Jn 1) λu=>iL [(D.sl ((qV v5 0)++[t])),u,(gx v5 2)]) else none)) else(iR (1,[(qW v5 0)]))) [(D.sl []),(Jn 0),a0]).bind λb=>if b.1=0 then(some (gx b.2 0)) else((qZ lp (λa=>qS (gx a 0) λj=>qC .gtr (Jn (j.length)) (Jn 0) λf=>(if f then(qS (gx a 0) λk=>qB .sub (Jn (k.length)) (Jn 1) λv=>qX (gx a 0) v λw=>(c 129 [w]).bind λr=>D.truth (D.bool (D.beq r (Jn 0)))) else(some false)).bind λg=>qT (D.bool g) λh=>if h then(qS (gx a 0) λl=>qB .sub (Jn (l.length)) (Jn 1) λx=>qS (gx a 0) λm=>(D.natOf x).bind λi31=>(D.cut m 0 i31).bind λn=>iL [(D.sl n)]) else(iR (0,[(gx a 0)]))) [(qW b.2 0)]).bind λd=>qS (gx d.2 0) λo=>qC .gtr (Jn (o.length)) (Jn 25) λi=>if i then((c 518 []).bind λs=>some s) else(some (gx d.2 0)))) else none
def W3:af 535 (m1 (JB lp)):=aJ 1 Tryz.f163 TW a
def TX:Ann:=(.tl (.tl (.tl (.two (.two (.regI [] 2 .leaf) (.two (.tl (.two (.loop ⟨[(0,.same (.yld 36864)),(1,.sp be 24577),(3,.di)],[(4098,.one be (.dv be)),(4099,.one aG (.dv aG)),(4100,.one am (.dv am)),(4101,.one am (.dv am)),(12294,.one be (.dv be)),(24577,.keep be 1),(36864,.lp none 0)],[]⟩ [(.exit 0,⟨[(0,.same (.yld 36864))],[(4098,.one be (.dv be)),(4099,.one aG (.dv aG)),(4100,.one am (.dv am)),(4101,.one am (.dv am)),(12294,.one be (.dv be)),(36864,.lp none 0)],[]⟩)] (.tl (.two (.two (.two (.regI [] 8 (.two (.tl (.two (.reg [] 15) .leaf)) .leaf)) .leaf) .leaf) .leaf))) .leaf)) .leaf)) (.two (.reg [] 8) .leaf)))))
def Pk(lp:Lp)(c:Ca)(a0 a1:D):Option D:=(c 546 [a0]).bind λr1=>qT r1 λb2=>(if b2 then(some true) else((c 547 [(D.sl [a1])]).bind λy=>(aeb .not y).bind λB=>D.truth B)).bind λw=>qT (D.bool w) λx=>if x then((c 119 []).bind λz=>(c 54 [(Jn 1)]).bind λA=>some (D.tup [z,A])) else(qG a1 [1] λC=>qS a0 λe=>(c 565 [C,(Jn (e.length))]).bind λi=>qS a0 λf=>qB .sub (Jn (f.length)) (Jn 1) λm=>(qZ lp (λa=>qC .geq (gx a 0) (Jn 0) λd=>if d then(qX a0 (gx a 0) λn=>qG (gx a 2) [0] λo=>(c 61 [(gx a 3),o]).bind λj=>qS (gx a 1) λg=>qB .sub (Jn (g.length)) (Jn 1) λp=>qB .sub p (gx a 0) λq=>qX (gx a 5) q λr=>(c 61 [n,r]).bind λk=>(c 57 [j,k]).bind λl=>qB .sub (gx a 0) (Jn 1) λs=>iL [s,(gx a 1),(gx a 2),l,(gx a 4),(gx a 5)]) else(iR (0,[(gx a 1),(gx a 2),(gx a 3),(gx a 4),(gx a 5)]))) [m,a0,a1,(D.st [(D.bool false),(D.bool false),(az aZ)]),(D.st [(D.bool false),(D.bool false),(az aZ)]),i]).bind λb=>qS (gx b.2 0) λh=>qB .sub (Jn (h.length)) (Jn 1) λt=>(D.max2 (Jn 0) t).bind λu=>qX (gx b.2 4) u λv=>some (D.tup [(gx b.2 2),v]))
def W4:af 536 (m2 (Pk lp)):=aD 0 Tryz.f164 TX a
def TY:Ann:=(.tl (.tl (.tl (.two (.tl (.two (.reg [] 6) (.two (.two (.reg [] 3) .leaf) .leaf))) .leaf))))
def Pm(lp:Lp)(c:Ca)(a0:D):Option D:=(c 510 [a0]).bind λr1=>qG r1 [0] λi=>qT i λf=>if f then(some r1) else(qG a0 [0] λj=>qG a0 [1] λk=>(c 137 [j,k]).bind λe=>qG a0 [1] λl=>(c 203 [l,e]).bind λg=>(c 90 [e,g]).bind λh=>qC .geq h (Jn 0) λa=>if a then((c 169 []).bind λb=>(c 57 [r1,b]).bind λd=>some d) else(some r1))
def W5:af 537 (m1 (Pm lp)):=aJ 0 Tryz.f202 TY a
def TZ:Ann:=let a:LO:=[(4097,.keep B6 1),(4098,.one ew (.dv ew)),(8196,.one am (.dv am)),(8197,.one am (.dv am))];let b:LS:=[(1,.sp B6 4097),(2,.sp ew 4098),(4,.sp am 8196),(5,.sp am 8197)];(.tl (.tl (.two (.tl (.two (.loop ⟨[(1,.sp B6 4097),(2,.sp ew 4098),(4,.sp am 8196),(5,.sp am 8197),(16,.di)],a,[15]⟩ [(.ret,⟨[(2,.sp ew 4098),(3,.di)],[(4098,.one ew (.dv ew))],[]⟩),(.exit 0,⟨b,a,[]⟩)] (.tl (.tl (.cut [(.ret,⟨[(2,.sp ew 4098),(3,.di)],[(4098,.one ew (.dv ew))],[]⟩),(.normal,⟨b,a,[15,16]⟩)] [15,16] [4097] .leaf .leaf)))) .leaf)) (.tl (.tl (.tl (.tl (.two (.tl (.two (.loop ⟨[(2,.sp ew 4098),(4,.sp am 8196),(5,.sp am 8197),(9,.sp am 28681),(10,.sp ew 32778),(52,.di)],[(4098,.keep ew 2),(8196,.keep am 4),(8197,.keep am 5),(28681,.keep am 9),(32778,.one ew (.dv ew))],[51]⟩ [(.exit 2,⟨[(2,.sp ew 4098),(10,.sp ew 32778)],[(4098,.keep ew 2),(32778,.one ew (.dv ew))],[]⟩)] (.tl (.tl (.two (.two (.tl (.tl (.cut [(.normal,⟨[(2,.sp ew 4098),(4,.sp am 8196),(5,.sp am 8197),(9,.sp am 28681),(10,.sp ew 32778),(12,.sp am 49164)],[(4098,.keep ew 2),(8196,.keep am 4),(8197,.keep am 5),(28681,.keep am 9),(32778,.keep ew 10),(49164,.one am (.dv am))],[11,51,52]⟩)] [11,51,52] [4098,8196,8197,28681,32778] (.tl (.two (.reg [] 5) .leaf)) .leaf))) .leaf) .leaf)))) .leaf)) .leaf))))))))
def Pn(lp:Lp)(c:Ca)(a0:D):Option D:=(qZ lp (λv1=>qC .lss (gx v1 0) (Jn 4) λJ=>if J then(((D.idx (gx v1 0) 4).bind λi4=>(D.fld a0 i4).bind λk=>qG k [0] λO=>qT O λK=>(if K then(some true) else((c 167 [k]).bind λL=>(aeb .not L).bind λP=>D.truth P)).bind λl=>qT (D.bool l) λm=>(if m then(some true) else((c 217 [k]).bind λt=>qB .gtr t (Jn 400) λB=>D.truth B)).bind λn=>qT (D.bool n) λo=>if o then(some (0,[(Jn 1),(D.st [(Jn 0),(Jn 0),(Jn 0),(Jn 0)])])) else((c 131 [(gx v1 2),k]).bind λd=>(c 171 [k]).bind λe=>(c 90 [e,(gx v1 3)]).bind λu=>qC .gtr u (Jn 0) λp=>if p then(some (1,[(gx v1 1),d,e])) else(some (1,[(gx v1 1),d,(gx v1 3)])))).bind λ(b:Nat×List D)=>if b.1=0 then(iR (0,[(gx b.2 0),(gx b.2 1)])) else(qB .add (gx v1 0) (Jn 1) λC=>iL [C,(gx b.2 0),(gx b.2 1),(gx b.2 2)])) else(iR (1,[(gx v1 1),(gx v1 2),(gx v1 3)]))) [(Jn 0),(D.st [(Jn 0),(Jn 0),(Jn 0),(Jn 0)]),(D.st [(D.bool false),(D.bool false),(az aZ)]),(D.st [(D.bool false),(D.bool false),(az aZ)])]).bind λa=>if a.1=0 then(some (D.tup [(gx a.2 1),(gx a.2 0)])) else((c 129 [(gx a.2 1)]).bind λv=>qT (D.bool (D.beq v (Jn 0))) λq=>if q then(some (D.tup [(D.st [(Jn 0),(Jn 0),(Jn 0),(Jn 0)]),(Jn 1)])) else((c 132 [(gx a.2 2),(gx a.2 1)]).bind λf=>(c 54 [(Jn 64)]).bind λg=>(qZ lp (λv28=>qC .lss (gx v28 0) (Jn 4) λr=>if r then((D.idx (gx v28 0) 4).bind λi31=>(D.fld a0 i31).bind λE=>(c 132 [E,(gx a.2 1)]).bind λh=>((c 90 [f,g]).bind λw=>qC .gtr w (Jn 0) λs=>if s then((c 61 [h,g]).bind λx=>(c 566 [x,f]).bind λy=>some (0,[y])) else(some (0,[h]))).bind λ(z:Nat×List D)=>(c 202 [(gx z.2 0)]).bind λi=>(D.tupAt i 0).bind λF=>(D.tupAt i 1).bind λM=>(D.idx (gx v28 0) 4).bind λi43=>(D.set (gx v28 1) [i43] F).bind λG=>qB .add (gx v28 0) (Jn 1) λH=>iL [H,G]) else(iR (0,[(gx v28 1)]))) [(Jn 0),(D.st [(Jn 0),(Jn 0),(Jn 0),(Jn 0)])]).bind λA=>(c 567 [(gx A.2 0)]).bind λj=>(D.tupAt j 0).bind λI=>(D.tupAt j 1).bind λN=>some (D.tup [I,(Jn 0)])))
def W6:af 538 (m1 (Pn lp)):=aJ 0 Tryz.f203 TZ a
def T1:Ann:=(.tl (.two (.regI [] 3 (.two (.tl (.two (.regI [] 5 (.two (.tl (.two (.tl (.two (.loop ⟨[(1,.same (.clo 274 [])),(8,.di)],[],[0,7]⟩ [(.ret,⟨[(4,.di)],[],[]⟩),(.exit 0,⟨[],[],[]⟩)] (.tl (.tl (.two (.two (.tl (.two (.regI [] 6 .leaf) .leaf)) .leaf) .leaf)))) .leaf)) .leaf)) .leaf)) .leaf)) .leaf)) .leaf))
def JC(lp:Lp)(c:Ca)(a0:D):Option D:=qS a0 λh=>(qZ lp (λv2=>qC .lss (gx v2 0) (Jn (h.length)) λg=>if g then(qX a0 (gx v2 0) λj=>(c 517 [j]).bind λi=>qN i λb=>if b then(iR (0,[(gx v2 0)])) else(qB .add (gx v2 0) (Jn 1) λd=>iL [d])) else(iR (1,[]))) [(Jn 0)]).bind λa=>if a.1=0 then(qB .geq (gx a.2 0) (Jn 0) λf=>some f) else(qB .geq (Jn (-1)) (Jn 0) λe=>some e)
def W7:af 546 (m1 (JC lp)):=aJ 0 Tryz.f217 T1 a
def T2:Ann:=(.tl (.two (.regI [] 4 (.two (.tl (.two (.regI [] 5 (.two (.tl (.two (.tl (.two (.loop ⟨[(1,.same (.clo 276 [])),(8,.di)],[],[0,7]⟩ [(.ret,⟨[(4,.di)],[],[]⟩),(.exit 0,⟨[],[],[]⟩)] (.tl (.tl (.two (.two (.tl (.two (.regI [] 6 .leaf) .leaf)) .leaf) .leaf)))) .leaf)) .leaf)) .leaf)) .leaf)) .leaf)) .leaf))
def JD(lp:Lp)(c:Ca)(a0:D):Option D:=qS a0 λj=>(qZ lp (λv2=>qC .lss (gx v2 0) (Jn (j.length)) λi=>if i then(qX a0 (gx v2 0) λl=>(c 136 [l]).bind λk=>qN k λb=>if b then(iR (0,[(gx v2 0)])) else(qB .add (gx v2 0) (Jn 1) λd=>iL [d])) else(iR (1,[]))) [(Jn 0)]).bind λa=>if a.1=0 then(qB .geq (gx a.2 0) (Jn 0) λg=>(aeb .not g).bind λh=>some h) else(qB .geq (Jn (-1)) (Jn 0) λe=>(aeb .not e).bind λf=>some f)
def W8:af 547 (m1 (JD lp)):=aJ 0 Tryz.f218 T2 a
def JE(lp:Lp)(c:Ca)(a0 a1 a2:D):Option D:=(c 573 [a0,a1,a2]).bind λr1=>(c 572 [r1]).bind λa=>some a
def W9:af 548 (m3 (JE lp)):=gN 0 Tryz.f219 .leaf a
def T4:Ann:=let a:LO:=[(8197,.one am (.dv am))];(.tl (.tl (.two (.tl (.two (.loop ⟨[(5,.sp am 8197),(6,.di)],a,[0,1]⟩ [(.exit 0,⟨[(5,.sp am 8197)],a,[0,1]⟩)] (.tl (.two (.two (.reg [] 4) .leaf) .leaf))) .leaf)) (.tl (.two (.tl (.two (.loop ⟨[(5,.sp am 8197),(7,.ow am),(21,.di)],a,[0,1,20]⟩ [(.exit 2,⟨[(7,.ow am)],[],[]⟩)] (.tl (.tl (.cut [(.normal,⟨[(5,.sp am 8197),(7,.ow am)],a,[0,1,20,21]⟩)] [0,1,20,21] [] (.two (.tl (.tl (.tl (.two (.reg [] 11) .leaf)))) .leaf) .leaf)))) .leaf)) .leaf)))))
def JF(lp:Lp)(c:Ca)(a0 a1:D):Option D:=(c 54 [(Jn 1)]).bind λr1=>(qZ lp (λv2=>qC .leq (gx v2 0) a0 λm=>if m then((c 54 [(gx v2 0)]).bind λn=>(c 61 [(gx v2 1),n]).bind λo=>qB .add (gx v2 0) (Jn 1) λq=>iL [q,o]) else(iR (0,[(gx v2 1)]))) [(Jn 2),r1]).bind λp=>qB .add a1 (Jn 1) λr=>(qZ lp (λv10=>qC .lss (gx v10 1) r λb=>if b then((if List.length (qV v10 0)+List.length [(gx v10 2)]<=1073741824 then(qC .lss (gx v10 1) a0 λd=>if d then(qB .sub a1 (gx v10 1) λj=>(c 54 [j]).bind λe=>(c 61 [(gx v10 2),e]).bind λf=>qB .sub a0 (gx v10 1) λk=>(c 54 [k]).bind λg=>(c 132 [f,g]).bind λh=>some (0,[(D.sl ((qV v10 0)++[(gx v10 2)])),h])) else(some (0,[(D.sl ((qV v10 0)++[(gx v10 2)])),(gx v10 2)]))) else none).bind λ(a:Nat×List D)=>qB .add (gx v10 1) (Jn 1) λl=>iL [(qW a.2 0),l,(gx a.2 1)]) else(iR (0,[(qW v10 0)]))) [(D.sl []),(Jn 0),(gx p.2 0)]).bind λi=>some (qW i.2 0)
def Xa:af 549 (m2 (JF lp)):=aD 0 Tryz.f220 T4 a
def JG(lp:Lp)(c:Ca)(a0 a1:D):Option D:=qC .lss a1 (Jn 0) λb2=>(if b2 then(some true) else(qS a0 λd=>qB .geq a1 (Jn (d.length)) λe=>D.truth e)).bind λa=>qT (D.bool a) λb=>if b then(some (D.st [(D.bool false),(D.bool false),(az aZ)])) else(qX a0 a1 λf=>some f)
def Xb:af 550 (m2 (JG lp)):=aD 0 Tryz.f221 .leaf a
def T5:Ann:=let a:LO:=[(4098,.keep am 2),(8195,.one am (.dv am))];(.tl (.tl (.two (.tl (.two (.loop ⟨[(2,.sp am 4098),(3,.sp am 8195),(8,.di)],a,[6,7]⟩ [(.exit 0,⟨[(2,.sp am 4098),(3,.sp am 8195)],a,[]⟩)] .leaf) .leaf)) .leaf)))
def JH(lp:Lp)(c:Ca)(a0:D):Option D:=qS a0 λd=>(qZ lp (λv2=>qC .lss (gx v2 0) (Jn (d.length)) λb=>if b then(qX a0 (gx v2 0) λf=>(c 131 [(gx v2 1),f]).bind λe=>qB .add (gx v2 0) (Jn 1) λg=>iL [g,e]) else(iR (0,[(gx v2 1)]))) [(Jn 0),(D.st [(D.bool false),(D.bool false),(az aZ)])]).bind λa=>some (gx a.2 0)
def Xc:af 551 (m1 (JH lp)):=aJ 0 Tryz.f222 T5 a
def MG(lp:Lp)(c:Ca)(a0:D):Option D:=some a0
def Xd:af 552 (m1 (MG lp)):=aJ 0 Tryz.f225 .leaf a
def T6:Ann:=(.tl (.tl (.two (.reg [] 7) (.two (.reg [] 9) .leaf))))
def JI(lp:Lp)(c:Ca)(a0:D):Option D:=(c 574 [a0]).bind λr1=>qG r1 [0] λi=>(c 575 [i]).bind λe=>qG r1 [1] λj=>(c 575 [j]).bind λf=>(c 527 [e,f]).bind λg=>qG r1 [2] λk=>(c 575 [k]).bind λh=>qG r1 [3] λl=>(c 575 [l]).bind λa=>(c 527 [h,a]).bind λb=>(c 527 [g,b]).bind λd=>some d
def Xe:af 553 (m1 (JI lp)):=aJ 0 Tryz.f227 T6 a
def T7:Ann:=(.tl (.tl (.two (.reg [] 82) .leaf)))
def JJ(lp:Lp)(c:Ca)(a0:D):Option D:=(c 574 [a0]).bind λr1=>qG r1 [0] λO=>qG r1 [1] λP=>qG r1 [2] λQ=>qG r1 [3] λR=>(c 576 [O,P,Q,R]).bind λN=>qG r1 [1] λS=>qG r1 [2] λT=>qG r1 [0] λU=>qG r1 [3] λj=>(c 577 [S,T,U,j,(Jn (-1))]).bind λa=>qG r1 [1] λk=>qG r1 [3] λl=>qG r1 [0] λm=>qG r1 [2] λn=>(c 577 [k,l,m,n,(Jn 1)]).bind λb=>qG r1 [1] λo=>qG r1 [2] λp=>qG r1 [0] λq=>qG r1 [3] λr=>(c 577 [o,p,q,r,(Jn 1)]).bind λd=>qG r1 [0] λs=>qG r1 [2] λt=>qG r1 [1] λu=>qG r1 [3] λv=>(c 576 [s,t,u,v]).bind λe=>qG r1 [2] λw=>qG r1 [3] λx=>qG r1 [0] λy=>qG r1 [1] λz=>(c 577 [w,x,y,z,(Jn (-1))]).bind λf=>qG r1 [1] λA=>qG r1 [3] λB=>qG r1 [0] λC=>qG r1 [2] λE=>(c 577 [A,B,C,E,(Jn (-1))]).bind λg=>qG r1 [2] λF=>qG r1 [3] λG=>qG r1 [0] λH=>qG r1 [1] λI=>(c 577 [F,G,H,I,(Jn 1)]).bind λh=>qG r1 [0] λJ=>qG r1 [3] λK=>qG r1 [1] λL=>qG r1 [2] λM=>(c 576 [J,K,L,M]).bind λi=>some (D.st (ad9 (List.replicate 9 (D.sl [])) [(0,N),(1,a),(2,b),(3,d),(4,e),(5,f),(6,g),(7,h),(8,i)]))
def Xf:af 554 (m1 (JJ lp)):=aJ 0 Tryz.f228 T7 a
def T8:Ann:=(.tl (.tl (.two (.tl (.two (.loop ⟨[(3,.ow am),(4,.di)],[],[0]⟩ [(.exit 0,⟨[(3,.ow am)],[],[]⟩)] .leaf) .leaf)) .leaf)))
def JK(lp:Lp)(c:Ca)(a0:D):Option D:=(qZ lp (λv1=>qL a0 (gx v1 1) λe=>if e then(qX a0 (gx v1 1) λf=>(c 34 [f]).bind λd=>if List.length (qV v1 0)+List.length [d]<=1073741824 then(qB .add (gx v1 1) (Jn 1) λg=>iL [(D.sl ((qV v1 0)++[d])),g]) else none) else(iR (0,[(qW v1 0)]))) [(D.sl []),(Jn 0)]).bind λa=>(c 525 [(qW a.2 0)]).bind λb=>some b
def Xg:af 555 (m1 (JK lp)):=aJ 0 Tryz.f229 T8 a
end
end Sy
end
set_option maxHeartbeats 0
noncomputable section
namespace Sy
open Go Go.Proofs
section
variable{lp}(a:aj lp)
def T9:Ann:=let a:LO:=[(32775,.one am (.dv am))];let b:LS:=[(5,.ow am),(7,.sp am 32775)];(.tl (.tl (.tl (.tl (.two (.tl (.two (.loop ⟨[(5,.ow am),(6,.di)],[],[0,1]⟩ [(.exit 0,⟨[(5,.ow am)],[],[]⟩)] (.tl (.two (.two (.tl (.two (.tl (.two (.loop ⟨[(5,.ow am),(7,.sp am 32775),(8,.di)],a,[0,1,6]⟩ [(.exit 2,⟨b,a,[0,1,6]⟩)] (.tl (.cut [(.normal,⟨b,a,[0,1,6,8]⟩)] [0,1,6,8] [] (.two (.tl (.two (.reg [] 13) .leaf)) .leaf) .leaf))) .leaf)) .leaf)) .leaf) .leaf))) .leaf)) .leaf)))))
def JL(lp:Lp)(c:Ca)(a0 a1:D):Option D:=(c 522 [a0]).bind λr1=>qT r1 λb2=>(if b2 then(some true) else((c 522 [a1]).bind λH=>D.truth H)).bind λB=>qT (D.bool B) λC=>if C then((c 524 []).bind λI=>some I) else(qS a0 λF=>qT (D.bool (D.beq (Jn (F.length)) (Jn 0))) λE=>(if E then(some true) else(qS a1 λG=>D.truth (D.bool (D.beq (Jn (G.length)) (Jn 0))))).bind λe=>qT (D.bool e) λf=>if f then(some (D.sl [])) else((qZ lp (λv12=>qS a0 λl=>qS a1 λm=>qB .add (Jn (l.length)) (Jn (m.length)) λs=>qB .sub s (Jn 1) λt=>qC .lss (gx v12 1) t λg=>if g then((qZ lp (λa=>qC .leq (gx a 1) (gx v12 1) λh=>if h then((qL a0 (gx a 1) λi=>(if i then(qB .sub (gx v12 1) (gx a 1) λu=>qS a1 λn=>qB .lss u (Jn (n.length)) λv=>D.truth v) else(some false)).bind λj=>qT (D.bool j) λk=>if k then(qX a0 (gx a 1) λw=>qB .sub (gx v12 1) (gx a 1) λx=>qX a1 x λy=>(c 89 [w,y]).bind λo=>(c 59 [(gx a 2),o]).bind λp=>some (0,[(qW a 0),p])) else(some (0,[(qW a 0),(gx a 2)]))).bind λ(d:Nat×List D)=>qB .add (gx a 1) (Jn 1) λz=>iL [(qW d.2 0),z,(gx d.2 1)]) else(iR (0,[(qW a 0),(gx a 2)]))) [(qW v12 0),(Jn 0),(D.st [(D.bool false),(D.bool false),(az aZ)])]).bind λb=>if List.length (qV b.2 0)+List.length [(gx b.2 1)]<=1073741824 then(qB .add (gx v12 1) (Jn 1) λA=>iL [(D.sl ((qV b.2 0)++[(gx b.2 1)])),A]) else none) else(iR (0,[(qW v12 0)]))) [(D.sl []),(Jn 0)]).bind λq=>(c 525 [(qW q.2 0)]).bind λr=>some r))
def Xh:af 556 (m2 (JL lp)):=aD 0 Tryz.f230 T9 a
def JM(lp:Lp)(c:Ca)(a0 a1:D):Option D:=qC .lss a1 (Jn 0) λb2=>(if b2 then(some true) else(qS a0 λd=>qB .geq a1 (Jn (d.length)) λe=>D.truth e)).bind λa=>qT (D.bool a) λb=>if b then(some (D.st [(D.bool false),(D.bool false),(az aZ)])) else(qX a0 a1 λf=>some f)
def Xi:af 557 (m2 (JM lp)):=aD 0 Tryz.f231 .leaf a
def JN(lp:Lp)(c:Ca)(a0:D):Option D:=qG a0 [0] λx1=>(c 523 [x1]).bind λn=>qN n λk=>(if k then(some true) else(qG a0 [1] λp=>(c 523 [p]).bind λo=>(aeb .not o).bind λq=>D.truth q)).bind λl=>qT (D.bool l) λm=>(if m then(some true) else(qG a0 [1] λg=>(c 83 [g]).bind λd=>qB .leq d (Jn 0) λh=>D.truth h)).bind λa=>qT (D.bool a) λb=>if b then(some (D.bool false)) else(qG a0 [0] λi=>qG a0 [1] λj=>(c 85 [i,j]).bind λe=>(c 34 [(Jn 1)]).bind λf=>some (D.bool (D.beq e f)))
def Xj:af 558 (m1 (JN lp)):=aJ 0 Tryz.f232 .leaf a
def Ua:Ann:=(.tl (.tl (.two (.reg [] 12) (.tl (.tl (.two (.tl (.two (.loop ⟨[(8,.sp am 16392),(9,.dv be),(10,.di)],[(16392,.keep am 8)],[0,7]⟩ [(.exit 0,⟨[(9,.dv be)],[],[]⟩)] (.tl (.two (.two (.reg [] 18) .leaf) .leaf))) .leaf)) .leaf))))))
def JO(lp:Lp)(c:Ca)(a0 a1 a2:D):Option D:=(c 522 [a0]).bind λr1=>qT r1 λb2=>(if b2 then(some true) else((c 558 [a1]).bind λG=>(aeb .not G).bind λI=>D.truth I)).bind λC=>qT (D.bool C) λE=>(if E then(some true) else((c 558 [a2]).bind λH=>(aeb .not H).bind λJ=>D.truth J)).bind λF=>qT (D.bool F) λa=>if a then((c 524 []).bind λf=>some f) else(qG a1 [0] λr=>qG a2 [1] λs=>(c 89 [r,s]).bind λg=>qG a2 [0] λt=>qG a1 [1] λu=>(c 89 [t,u]).bind λh=>(c 525 [(D.sl [g,h])]).bind λi=>qG a1 [1] λv=>qG a2 [1] λw=>(c 89 [v,w]).bind λj=>qS a0 λd=>qB .sub (Jn (d.length)) (Jn 1) λx=>(qZ lp (λv24=>qC .geq (gx v24 1) (Jn 0) λb=>if b then((c 556 [(gx v24 0),i]).bind λk=>qX a0 (gx v24 1) λy=>qS a0 λe=>qB .sub (Jn (e.length)) (Jn 1) λz=>qB .sub z (gx v24 1) λA=>(c 569 [j,A]).bind λl=>(c 89 [y,l]).bind λm=>(c 525 [(D.sl [m])]).bind λn=>(c 527 [k,n]).bind λo=>qB .sub (gx v24 1) (Jn 1) λB=>iL [o,B]) else(iR (0,[(gx v24 0)]))) [(D.sl []),x]).bind λp=>(c 578 [(gx p.2 0)]).bind λq=>some q)
def Xk:af 559 (m3 (JO lp)):=gN 0 Tryz.f233 Ua a
def Ub:Ann:=(.tl (.tl (.two (.tl (.two (.loop ⟨[(5,.di),(6,.di)],[],[0,1]⟩ [(.exit 0,⟨[(5,.di)],[],[]⟩)] .leaf) .leaf)) .leaf)))
def JP(lp:Lp)(c:Ca)(a0 a1:D):Option D:=(qZ lp (λv1=>qC .lss (gx v1 1) a1 λa=>if a then(qB .sub a0 (gx v1 1) λd=>qB .mul (gx v1 0) d λe=>qB .add (gx v1 1) (Jn 1) λf=>qB .quo e f λg=>qB .add (gx v1 1) (Jn 1) λh=>iL [g,h]) else(iR (0,[(gx v1 0)]))) [(Jn 1),(Jn 0)]).bind λb=>some (gx b.2 0)
def Xl:af 560 (m2 (JP lp)):=aD 0 Tryz.f234 Ub a
def Uc:Ann:=let a:LO:=[(4098,.keep am 2),(8195,.one am (.dv am))];(.tl (.tl (.two (.tl (.two (.loop ⟨[(2,.sp am 4098),(3,.sp am 8195),(4,.di)],a,[0]⟩ [(.exit 0,⟨[(2,.sp am 4098),(3,.sp am 8195)],a,[]⟩)] (.tl (.two (.two (.reg [] 4) .leaf) .leaf))) .leaf)) .leaf)))
def JQ(lp:Lp)(c:Ca)(a0:D):Option D:=(c 34 [(Jn 1)]).bind λr1=>(qZ lp (λv2=>qC .leq (gx v2 0) a0 λa=>if a then((c 34 [(gx v2 0)]).bind λb=>(c 89 [(gx v2 1),b]).bind λd=>qB .add (gx v2 0) (Jn 1) λf=>iL [f,d]) else(iR (0,[(gx v2 1)]))) [(Jn 2),r1]).bind λe=>some (gx e.2 0)
def Xm:af 561 (m1 (JQ lp)):=aJ 0 Tryz.f235 Uc a
def Ud:Ann:=let a:LO:=[(4098,.keep am 2),(8195,.one am (.dv am))];(.tl (.tl (.two (.tl (.two (.loop ⟨[(2,.sp am 4098),(3,.sp am 8195),(4,.di)],a,[0]⟩ [(.exit 0,⟨[(2,.sp am 4098),(3,.sp am 8195)],a,[]⟩)] (.tl (.two (.two (.reg [] 6) .leaf) .leaf))) .leaf)) .leaf)))
def JR(lp:Lp)(c:Ca)(a0:D):Option D:=(qZ lp (λv1=>qL a0 (gx v1 0) λb=>if b then(qX a0 (gx v1 0) λe=>(c 85 [(gx v1 1),e]).bind λd=>qB .add (gx v1 0) (Jn 1) λf=>iL [f,d]) else(iR (0,[(gx v1 1)]))) [(Jn 0),(D.st [(D.bool false),(D.bool false),(az aZ)])]).bind λa=>some (gx a.2 0)
def Xn:af 562 (m1 (JR lp)):=aJ 0 Tryz.f236 Ud a
def Ue:Ann:=let a:LO:=[(0,.keep be 1),(1,.keep be 2),(4100,.keep am 4),(8197,.one am (.dv am))];(.tl (.tl (.two (.tl (.two (.loop ⟨[(1,.sp be 0),(2,.sp be 1),(4,.sp am 4100),(5,.sp am 8197),(6,.di)],a,[0]⟩ [(.exit 0,⟨[(1,.sp be 0),(2,.sp be 1),(4,.sp am 4100),(5,.sp am 8197)],a,[]⟩)] (.tl (.two (.two (.reg [] 13) .leaf) .leaf))) .leaf)) .leaf)))
def JS(lp:Lp)(c:Ca)(a0 a1 a2:D):Option D:=qS a1 λj=>qB .sub a0 (Jn (j.length)) λl=>qB .add l (Jn 1) λm=>(D.max2 (Jn 0) m).bind λn=>(qZ lp (λv5=>qS a2 λk=>qB .sub (Jn (k.length)) (Jn 1) λo=>(D.min2 a0 o).bind λp=>qC .leq (gx v5 0) p λa=>if a then(qX a2 (gx v5 0) λf=>qB .sub a0 (gx v5 0) λg=>qX a1 g λh=>(c 61 [f,h]).bind λb=>(c 57 [(gx v5 1),b]).bind λd=>qB .add (gx v5 0) (Jn 1) λi=>iL [i,d]) else(iR (0,[(gx v5 1)]))) [n,(D.st [(D.bool false),(D.bool false),(az aZ)])]).bind λe=>some (gx e.2 0)
def Xo:af 563 (m3 (JS lp)):=gN 0 Tryz.f247 Ue a
def JT(lp:Lp)(c:Ca)(a0 a1:D):Option D:=qX a1 a0 λa=>some a
def Xp:af 564 (m2 (JT lp)):=aD 0 Tryz.f249 .leaf a
def Uf:Ann:=(.tl (.tl (.two (.two (.loop ⟨[(2,.sp am 4098),(5,.ow am)],[(4098,.keep am 2)],[1]⟩ [(.exit 0,⟨[(5,.ow am)],[],[]⟩)] (.tl (.two (.reg [] 10) .leaf))) .leaf) .leaf)))
def JU(lp:Lp)(c:Ca)(a0 a1:D):Option D:=(c 54 [(Jn 1)]).bind λr1=>(qZ lp (λv2=>qC .lss (Jn (List.length (qV v2 0))) a1 λb=>if b then(qB .sub (Jn (List.length (qV v2 0))) (Jn 1) λe=>(D.idx e (List.length (qV v2 0))).bind λi6=>((qV v2 0)[i6]?).bind λf=>(c 61 [f,a0]).bind λa=>if List.length (qV v2 0)+List.length [a]<=1073741824 then(iL [(D.sl ((qV v2 0)++[a]))]) else none) else(iR (0,[(qW v2 0)]))) [(D.sl [r1])]).bind λd=>some (qW d.2 0)
def Xq:af 565 (m2 (JU lp)):=aD 0 Tryz.f250 Uf a
def Ug:Ann:=(.tl (.two (.tl (.two (.two (.reg [] 5) .leaf) .leaf)) (.two (.reg [] 8) (.cut [(.normal,⟨[(4,.sp am 4100),(5,.sp am 12293)],[(4100,.keep am 4),(12293,.one am (.dv am))],[]⟩)] [] [4100] (.two (.reg [] 5) (.two (.reg [] 3) .leaf)) .leaf))))
def Po(lp:Lp)(c:Ca)(a0 a1:D):Option D:=(c 129 [a0]).bind λr1=>qC .lss r1 (Jn 0) λi=>if i then((c 68 [a0]).bind λj=>(c 566 [j,a1]).bind λk=>(c 68 [k]).bind λl=>some l) else((c 132 [a0,a1]).bind λg=>(c 137 [a0,a1]).bind λh=>((c 57 [h,h]).bind λm=>(c 90 [m,a1]).bind λb=>qC .gtr b (Jn 0) λa=>if a then((c 54 [(Jn 1)]).bind λd=>(c 57 [g,d]).bind λe=>some (0,[e])) else(some (0,[g]))).bind λ(f:Nat×List D)=>some (gx f.2 0))
def Xr:af 566 (m2 (Po lp)):=aD 0 Tryz.f268 Ug a
def Uh:Ann:=let a:LO:=[(4097,.keep ew 1),(4098,.keep ew 2)];let b:LO:=[(4097,.one ew (.dv ew)),(4098,.one ew (.dv ew))];let c:LO:=[(4097,.keep ew 11),(4098,.one ew (.dv ew))];let d:LO:=[(4097,.one ew (.dv ew)),(4098,.keep ew 2)];let e:LS:=[(1,.sp ew 4097),(2,.sp ew 4098),(4,.di)];(.tl (.two (.regI [] 3 (.two (.tl (.tl (.two (.tl (.two (.loop ⟨[(3,.di),(7,.same (.sub true Ti 4097 [] 0 4)),(9,.di)],b,[8]⟩ [(.exit 0,⟨[(3,.di)],b,[]⟩)] (.tl (.tl (.two (.two (.tl (.tl (.two (.loop ⟨[(3,.di),(6,.di),(7,.same (.sub true Ti 4097 [] 0 4))],c,[8,9]⟩ [(.exit 2,⟨[(3,.di),(7,.same (.sub true Ti 4097 [] 0 4))],c,[8,9]⟩)] (.tl (.two (.reg [] 5) .leaf))) .leaf))) .leaf) .leaf)))) .leaf)) .leaf))) .leaf)) (.tl (.two (.tl (.two (.loop ⟨[(1,.sp ew 4097),(2,.sp ew 4098),(4,.di),(14,.di)],a,[13]⟩ [(.exit 0,⟨e,a,[]⟩)] (.tl (.tl (.two (.two (.tl (.tl (.two (.cut [(.normal,⟨e,a,[]⟩)] [] [4097,4098] .leaf .leaf) .leaf))) .leaf) .leaf)))) .leaf)) (.two (.tl (.two (.loop ⟨[(1,.sp ew 4097),(2,.sp ew 4098),(24,.di)],d,[4]⟩ [(.exit 2,⟨[(1,.sp ew 4097),(2,.sp ew 4098)],d,[]⟩)] .leaf) .leaf)) .leaf)))))
def Pp(lp:Lp)(c:Ca)(a0:D):Option D:=(qZ lp (λv1=>qC .lss (gx v1 1) (Jn 4) λy=>if y then((D.idx (gx v1 1) 4).bind λi4=>qG (gx v1 2) [(0+i4)] λx=>(aeb .neg x).bind λA=>(D.max2 x A).bind λB=>(qZ lp (λe=>qT (D.bool (!(D.beq (gx e 1) (Jn 0)))) λz=>if z then(qB .rem (gx e 0) (gx e 1) λp=>iL [(gx e 1),p,(gx e 2)]) else(iR (0,[(gx e 0),(gx e 2)]))) [(gx v1 0),B,(gx v1 3)]).bind λf=>qB .add (gx v1 1) (Jn 1) λq=>iL [(gx f.2 0),q,(gx v1 2),(gx f.2 1)]) else(iR (0,[(gx v1 0),(gx v1 2),(gx v1 3)]))) [(Jn 0),(Jn 0),a0,(D.st [(Jn 0),(Jn 0),(Jn 0),(Jn 0)])]).bind λd=>qT (D.bool (D.beq (gx d.2 0) (Jn 0))) λh=>if h then(some (D.tup [(D.st [(Jn 0),(Jn 0),(Jn 0),(Jn 0)]),(D.bool false)])) else((qZ lp (λa=>qC .lss (gx a 1) (Jn 4) λi=>if i then((D.idx (gx a 1) 4).bind λi18=>(D.fld (gx d.2 1) i18).bind λg=>qT (D.bool (!(D.beq g (Jn 0)))) λj=>if j then((qC .lss g (Jn 0) λk=>if k then((aeb .neg (gx a 0)).bind λr=>some (0,[r])) else(some (0,[(gx a 0)]))).bind λ(m:Nat×List D)=>iR (0,[(gx m.2 0)])) else(qB .add (gx a 1) (Jn 1) λs=>iL [(gx a 0),s])) else(iR (0,[(gx a 0)]))) [(gx d.2 0),(Jn 0)]).bind λn=>(qZ lp (λb=>qC .lss (gx b 0) (Jn 4) λl=>if l then(qJ (gx b 0) 4 (gx b 1) λt=>qB .quo t (gx n.2 0) λu=>(D.idx (gx b 0) 4).bind λi33=>(D.set (gx b 1) [i33] u).bind λv=>qB .add (gx b 0) (Jn 1) λw=>iL [w,v]) else(iR (0,[(gx b 1)]))) [(Jn 0),(gx d.2 1)]).bind λo=>some (D.tup [(gx o.2 0),(D.bool true)]))
def Xs:af 567 (m1 (Pp lp)):=aJ 2 Tryz.f269 Uh a
def Ui:Ann:=(.tl (.tl (.two (.tl (.two (.loop ⟨[(2,.sp am 4098),(4,.sp am 4100),(5,.sp am 8197),(6,.di)],[(4098,.keep am 2),(4100,.keep am 4),(8197,.one am (.dv am))],[1]⟩ [(.exit 0,⟨[(4,.sp am 4100),(5,.sp am 8197)],[(4100,.keep am 4),(8197,.one am (.dv am))],[]⟩)] .leaf) .leaf)) .leaf)))
def JV(lp:Lp)(c:Ca)(a0 a1:D):Option D:=(c 34 [(Jn 1)]).bind λr1=>(qZ lp (λv2=>qC .lss (gx v2 0) a1 λa=>if a then((c 89 [(gx v2 1),a0]).bind λb=>qB .add (gx v2 0) (Jn 1) λe=>iL [e,b]) else(iR (0,[(gx v2 1)]))) [(Jn 0),r1]).bind λd=>some (gx d.2 0)
def Xt:af 569 (m2 (JV lp)):=aD 0 Tryz.f271 Ui a
def Uj:Ann:=(.tl (.tl (.two (.regI [] 4 (.two (.tl (.tl (.two (.regI [] 8 (.two (.tl (.tl (.two (.tl (.two (.loop ⟨[(1,.same (.clo 224 [(.ptr Ty.fn 20485 []),(.ptr be 20483 []),(.ptr be 20484 [])])),(2,.same (.clo 225 [])),(7,.ow am),(15,.di)],[(8195,.one am (.dv am)),(20483,.one be (.dv be)),(20484,.one be (.ow am)),(20485,.fv (.clo 309 [(.ptr am 8195 [])]))],[14]⟩ [(.ret,⟨[(6,.dv be)],[],[]⟩),(.exit 0,⟨[(7,.ow am)],[],[]⟩)] (.tl (.tl (.two (.two (.tl (.two (.regI [] 7 (.two (.tl (.two (.reg [] 7) .leaf)) .leaf)) .leaf)) .leaf) .leaf)))) .leaf)) (.two (.two (.loop ⟨[(7,.dv be)],[],[]⟩ [(.exit 2,⟨[(7,.dv be)],[],[]⟩)] .leaf) .leaf) .leaf)))) .leaf)) .leaf))) .leaf)) .leaf)))
def JW(lp:Lp)(c:Ca)(a0:D):Option D:=(c 551 [a0]).bind λr1=>(c 546 [a0]).bind λK=>qT K λG=>(if G then(some true) else((c 546 [(D.sl [])]).bind λL=>D.truth L)).bind λH=>qT (D.bool H) λI=>if I then((c 518 []).bind λM=>some M) else(qS a0 λJ=>(D.max2 (Jn (J.length)) (Jn 0)).bind λF=>(D.max2 F (Jn 0)).bind λy=>(D.natOf y).bind λi11=>if i11<=1073741824 then((D.max2 F (Jn 0)).bind λz=>(qZ lp (λa=>qC .lss (gx a 1) z λf=>if f then((c 550 [(gx a 3),(gx a 1)]).bind λr=>(c 550 [(qW a 4),(gx a 1)]).bind λs=>(c 580 [r,s,(gx a 2)]).bind λt=>(c 552 [t]).bind λb=>(c 517 [b]).bind λu=>qN u λg=>if g then((c 518 []).bind λv=>iR (0,[v])) else(if List.length (qV a 0)+List.length [b]<=1073741824 then(qB .add (gx a 1) (Jn 1) λA=>iL [(D.sl ((qV a 0)++[b])),A,(gx a 2),(gx a 3),(qW a 4)]) else none)) else(iR (1,[(qW a 0)]))) [(D.sl []),(Jn 0),r1,a0,(D.sl [])]).bind λd=>if d.1=0 then(some (gx d.2 0)) else((qZ lp (λv26=>qS (gx v26 0) λl=>qC .gtr (Jn (l.length)) (Jn 0) λh=>(if h then(qS (gx v26 0) λm=>qB .sub (Jn (m.length)) (Jn 1) λB=>qX (gx v26 0) B λC=>(c 129 [C]).bind λw=>D.truth (D.bool (D.beq w (Jn 0)))) else(some false)).bind λi=>qT (D.bool i) λj=>if j then(qS (gx v26 0) λn=>qB .sub (Jn (n.length)) (Jn 1) λE=>qS (gx v26 0) λo=>(D.natOf E).bind λi41=>(D.cut o 0 i41).bind λp=>iL [(D.sl p)]) else(iR (0,[(gx v26 0)]))) [(qW d.2 0)]).bind λe=>qS (gx e.2 0) λq=>qC .gtr (Jn (q.length)) (Jn 25) λk=>if k then((c 518 []).bind λx=>some x) else(some (gx e.2 0)))) else none)
def Xu:af 572 (m1 (JW lp)):=aJ 4 Tryz.f277 Uj a
def Uk:Ann:=(.tl (.tl (.two (.reg [] 12) (.tl (.tl (.two (.tl (.two (.loop ⟨[(9,.dv be),(10,.di)],[],[0,7,8]⟩ [(.exit 0,⟨[(9,.dv be)],[],[]⟩)] (.tl (.two (.two (.reg [] 19) .leaf) .leaf))) .leaf)) .leaf))))))
def JX(lp:Lp)(c:Ca)(a0 a1 a2:D):Option D:=(c 546 [a0]).bind λr1=>qT r1 λb2=>(if b2 then(some true) else((c 547 [(D.sl [a1,a2])]).bind λB=>(aeb .not B).bind λE=>D.truth E)).bind λz=>qT (D.bool z) λA=>if A then((c 518 []).bind λC=>some C) else(qG a1 [0] λF=>qG a2 [1] λG=>(c 61 [F,G]).bind λf=>qG a2 [0] λp=>qG a1 [1] λq=>(c 61 [p,q]).bind λg=>(c 581 [(D.sl [f,g])]).bind λh=>qG a1 [1] λr=>qG a2 [1] λs=>(c 61 [r,s]).bind λi=>qS a0 λb=>(c 565 [i,(Jn (b.length))]).bind λj=>qS a0 λd=>qB .sub (Jn (d.length)) (Jn 1) λt=>(qZ lp (λv22=>qC .geq (gx v22 1) (Jn 0) λa=>if a then((c 534 [(gx v22 0),h]).bind λk=>qX a0 (gx v22 1) λu=>qS a0 λe=>qB .sub (Jn (e.length)) (Jn 1) λv=>qB .sub v (gx v22 1) λw=>qX j w λx=>(c 61 [u,x]).bind λl=>(c 581 [(D.sl [l])]).bind λm=>(c 520 [k,m]).bind λn=>qB .sub (gx v22 1) (Jn 1) λy=>iL [n,y]) else(iR (0,[(gx v22 0)]))) [(D.sl []),t]).bind λo=>some (gx o.2 0))
def Xv:af 573 (m3 (JX lp)):=gN 0 Tryz.f278 Uk a
def Ul:Ann:=(.tl (.tl (.cut [(.normal,⟨[(1,.sp bP 4097),(2,.sp pF 4098),(3,.di)],[(4097,.keep bP 1),(4098,.keep pF 2)],[]⟩)] [] [4097,4098] .leaf (.tl (.two (.tl (.two (.loop ⟨[(1,.sp bP 4097),(2,.sp pF 4098),(4,.sp pF 16388),(5,.di)],[(4097,.keep bP 1),(4098,.keep pF 2),(16388,.one pF (.dv pF))],[3]⟩ [(.exit 0,⟨[(2,.sp pF 4098),(4,.sp pF 16388)],[(4098,.keep pF 2),(16388,.one pF (.dv pF))],[]⟩)] (.tl (.two (.two (.reg [] 22) .leaf) .leaf))) .leaf)) .leaf)))))
def JY(lp:Lp)(c:Ca)(a0:D):Option D:=(qG a0 [0,1] λx1=>qG a0 [1,1] λp=>(c 388 [x1,p]).bind λn=>qC .lss n (Jn 0) λl=>if l then(some (0,[(Jn (-1))])) else(some (0,[(Jn 1)]))).bind λ(o:Nat×List D)=>(qZ lp (λa=>qC .lss (gx a 0) (Jn 4) λm=>if m then((D.idx (gx a 0) 4).bind λi10=>qG a0 [0,1,i10] λe=>(D.idx (gx a 0) 4).bind λvD=>qG a0 [1,1,vD] λf=>qB .mul (gx o.2 0) f λg=>(D.idx (gx a 0) 4).bind λi15=>qG a0 [0,1,i15] λh=>qB .sub g h λi=>(c 555 [(D.sl [e,i])]).bind λb=>(D.idx (gx a 0) 4).bind λi19=>(D.set (gx a 1) [i19] b).bind λj=>qB .add (gx a 0) (Jn 1) λk=>iL [k,j]) else(iR (0,[(gx a 1)]))) [(Jn 0),(D.st [(D.sl []),(D.sl []),(D.sl []),(D.sl [])])]).bind λd=>some (gx d.2 0)
def Xw:af 574 (m1 (JY lp)):=aJ 0 Tryz.f279 Ul a
def JZ(lp:Lp)(c:Ca)(a0:D):Option D:=(c 556 [a0,a0]).bind λr1=>some r1
def Xx:af 575 (m1 (JZ lp)):=aJ 0 Tryz.f280 .leaf a
def J0(lp:Lp)(c:Ca)(a0 a1:D)(a2 a3:D):Option D:=(c 575 [a0]).bind λr1=>(c 575 [a1]).bind λa=>(c 527 [r1,a]).bind λb=>(c 575 [a2]).bind λd=>(c 575 [a3]).bind λe=>(c 527 [d,e]).bind λf=>(c 528 [b,f]).bind λg=>some g
def Xy:af 576 (m4 (J0 lp)):=GB 0 Tryz.f281 .leaf a
def J1(lp:Lp)(c:Ca)(a0 a1:D)(a2 a3 a4:D):Option D:=(c 556 [a2,a3]).bind λr1=>(c 34 [a4]).bind λa=>(c 502 [r1,a]).bind λb=>(c 556 [a0,a1]).bind λd=>(c 527 [d,b]).bind λe=>(c 34 [(Jn 2)]).bind λf=>(c 502 [e,f]).bind λg=>some g
def Xz:af 577 (m5 (J1 lp)):=vH 0 Tryz.f282 .leaf a
def Um:Ann:=(.tl (.tl (.tl (.tl (.two (.tl (.two (.loop ⟨[(3,.sp am 12291),(4,.ow am),(5,.di)],[(12291,.keep am 3)],[0]⟩ [(.exit 0,⟨[(4,.ow am)],[],[]⟩)] (.tl (.two (.two (.reg [] 8) .leaf) .leaf))) .leaf)) .leaf)))))
def J2(lp:Lp)(c:Ca)(a0:D):Option D:=(c 522 [a0]).bind λr1=>qT r1 λb2=>if b2 then((c 524 []).bind λh=>some h) else((c 562 [a0]).bind λi=>(qZ lp (λv5=>qL a0 (gx v5 1) λg=>if g then(qX a0 (gx v5 1) λe=>(c 87 [e,i]).bind λa=>if List.length (qV v5 0)+List.length [a]<=1073741824 then(qB .add (gx v5 1) (Jn 1) λf=>iL [(D.sl ((qV v5 0)++[a])),f]) else none) else(iR (0,[(qW v5 0)]))) [(D.sl []),(Jn 0)]).bind λb=>(c 525 [(qW b.2 0)]).bind λd=>some d)
def XA:af 578 (m1 (J2 lp)):=aJ 0 Tryz.f283 Um a
def J3(lp:Lp)(c:Ca)(a0 a1 a2:D):Option D:=(c 132 [a0,a2]).bind λr1=>some r1
def XB:af 580 (m3 (J3 lp)):=gN 0 Tryz.f309 .leaf a
end
end Sy
end
set_option maxHeartbeats 0
noncomputable section
namespace Sy
open Go Go.Proofs
section
variable{lp}(a:aj lp)
def Un:Ann:=(.tl (.two (.regI [] 5 (.two (.tl (.tl (.two (.tl (.two (.loop ⟨[(1,.same (.clo 319 [(.ptr be 4097 [])])),(2,.same (.clo 225 [])),(7,.ow am),(15,.di)],[(4097,.one be (.dv be))],[14]⟩ [(.ret,⟨[(6,.dv be)],[],[]⟩),(.exit 0,⟨[(7,.ow am)],[],[]⟩)] .leaf) .leaf)) (.two (.two (.loop ⟨[(7,.dv be)],[],[]⟩ [(.exit 2,⟨[(7,.dv be)],[],[]⟩)] .leaf) .leaf) .leaf)))) .leaf)) .leaf))
def J4(lp:Lp)(c:Ca)(a0:D):Option D:=qS a0 λy=>(D.max2 (Jn (y.length)) (Jn 0)).bind λB=>(D.natOf B).bind λi3=>if i3<=1073741824 then((D.max2 (Jn (y.length)) (Jn 0)).bind λC=>(qZ lp (λv5=>qC .lss (gx v5 1) C λz=>if z then((c 582 [(gx v5 1),(gx v5 2)]).bind λA=>(c 552 [A]).bind λt=>(c 517 [t]).bind λp=>qN p λe=>if e then((c 518 []).bind λq=>iR (0,[q])) else(if List.length (qV v5 0)+List.length [t]<=1073741824 then(qB .add (gx v5 1) (Jn 1) λu=>iL [(D.sl ((qV v5 0)++[t])),u,(gx v5 2)]) else none)) else(iR (1,[(qW v5 0)]))) [(D.sl []),(Jn 0),a0]).bind λb=>if b.1=0 then(some (gx b.2 0)) else((qZ lp (λa=>qS (gx a 0) λj=>qC .gtr (Jn (j.length)) (Jn 0) λf=>(if f then(qS (gx a 0) λk=>qB .sub (Jn (k.length)) (Jn 1) λv=>qX (gx a 0) v λw=>(c 129 [w]).bind λr=>D.truth (D.bool (D.beq r (Jn 0)))) else(some false)).bind λg=>qT (D.bool g) λh=>if h then(qS (gx a 0) λl=>qB .sub (Jn (l.length)) (Jn 1) λx=>qS (gx a 0) λm=>(D.natOf x).bind λi31=>(D.cut m 0 i31).bind λn=>iL [(D.sl n)]) else(iR (0,[(gx a 0)]))) [(qW b.2 0)]).bind λd=>qS (gx d.2 0) λo=>qC .gtr (Jn (o.length)) (Jn 25) λi=>if i then((c 518 []).bind λs=>some s) else(some (gx d.2 0)))) else none
def XC:af 581 (m1 (J4 lp)):=aJ 1 Tryz.f310 Un a
def J5(lp:Lp)(c:Ca)(a0 a1:D):Option D:=qX a1 a0 λa=>some a
def XD:af 582 (m2 (J5 lp)):=aD 0 Tryz.f319 .leaf a
end
end Sy
end
end
noncomputable section
namespace Sy
open Go Go.Proofs Go.Sort Go.Lib
section
variable{P:Program}{E:Env}
def xL(E:Env)(nt m0 o g:Nat)(e vt:Ty)(s:St):Option D:=
 match s.tm m0 with
 | .map d b id=>if d.beq e&&b.beq vt then(match s.ob id with
   | some (.mp a c l)=>if a.beq e&&c.beq vt&&decide (l.length<=1073741824) then(match dF s e o with
     | some []=>if s.nt=nt then(jX E g (l.map zp)).bind λl'=>some (.sl l') else none
     | _=>none) else none
   | _=>none) else none
 | _=>none
def BC(hE:EnvOk P E){e vt:Ty}(he:bE e=true)(ax:bE vt=true)(Y:ao e=true)(ad:ao vt=true){fn:Func}{p:Ty}{y:D}{w:World}{S:Nat->Nat->Prop}(hr:fd fn.results.size p=true)
  {z A B b b2:Nat} {t72 m0 it T nx ok en o nt:Nat} {C F G:Array Oper} {rest:List Oper} {c26:Code}
  {y1 y2 y3 y4 y5:TypeId} {p1 p2 p3 p4 p5:String} {f1 f2 f3 f4 f5:Array Edge} {TK TV:TypeId}
  (M:C.toList=[⟨some t72,.move (.tmp m0),y1,p1,f1,none⟩,⟨some it,.range T (.tmp t72),y2,p2,f2,none⟩])
  (N:F.toList=[⟨some nx,.next (.tmp it) false,y3,p3,f3,none⟩,⟨some ok,.extract (.tmp nx) 0,y4,p4,f4,none⟩])
  (O:G.toList=⟨some en,.entry (.tmp it),y5,p5,f5,none⟩::rest) (m:(rest.all λx=>x.guard.isNone)=true) (hT:P.underlying T=some (.map TK TV))
  (hd:(decide (o≠t72)&&decide (o≠it)&&decide (nx≠o)&&decide (ok≠o)&&decide (en≠o)&&decide (it≠t72)&&decide (it≠nx)&&decide (it≠ok)&&decide (it≠en)&&decide (nx≠ok)&&decide (t72<nt)&&decide (it<nt)&&decide (nx<nt)&&decide (ok<nt)&&decide (en<nt))=true)
  (f:∀ X L k v,Mh e L X->L.length<1073741824->wt e k->ev E (.region 0 rest.toArray false) .leaf D ((σL nt o it X).put (some en) (.d (.tup [e,vt]) (.tup [k,v]))) (λx s'=>match x with
   | .normal=>ev E c26 .leaf D s' (λx aI=>match x with|.normal=>(dF aI e o).bind λl=>some (.sl l)|_=>none)
   | _=>none)=some (.sl (L++[k])))
  {f0 g:Nat} (hf:SortOk P f0 e) (u:E.sig g=some ([e,e],.int .i64)/\E.free g=0) {id t d2:Nat} {ops:Array Oper} {d:Code} {ann:Ann} {a0 a1:TypeId} {q1 q2:String} {H I:Array Edge} {args:Array Operand} {J:Array TypeId}
  (r:ops.toList=[⟨some t,.move (.tmp o),a0,q1,H,none⟩,⟨some d2,.call ⟨.value (.func f0),args,J⟩,a1,q2,I,none⟩]) (i:args=#[.tmp t,.func g]) (Q:(decide (o≠t)&&decide (o≠d2)&&decide (t<nt))=true)
  (U:∀ l',(ev E d ann D (Lv nt o e l') λx s=>match x with|.exit _=>none|_=>results E s p fn.results.toList)=some (.sl l'))
  {S':Nat->Nat->Prop} {γ':Nat->Option Nat} {β':Nat->Option (Nat×Nat)} {s':St} {a':Act} {w':World} (h:Rp (nO w S) S' γ' β' s' a' w') (R:a'.defers=[]) (a:xL E nt m0 o g e vt s'=some y) :
  (Code.seq (Code.seq (.region z C false) (.block b (.loop (.seq (.region A F false) (.seq (.cond (.tmp ok) .skip (.exit b)) (.block b2 (.seq (.region B G false) c26))))))) (Code.seq (.region id ops false) d)).wpIn (FW none) 0 P (Fp P fn w S p y) a' w':=by
 unfold xL at a;split at a<;>first|(cases a;done)|skip
 rename_i kt a4 a3 an;split at a<;>first|(cases a;done)|skip
 rename_i j;split at a<;>first|(cases a;done)|skip
 rename_i n a5 l al;split at a<;>first|(cases a;done)|skip
 rename_i c;split at a<;>first|(cases a;done)|skip
 rename_i W;split at a<;>first|(cases a;done)|skip
 rename_i Z;obtain⟨l',h3,h4⟩:=ab a;cases h4;simp only[zaa,zia] at j c hd;have e1:=aeK _ _ j.1;have e2:=aeK _ _ j.2;have e3:=aeK _ _ c.1.1;have e4:=aeK _ _ c.1.2;subst e1;subst e2;subst e3;subst e4;obtain⟨⟨⟨⟨⟨⟨⟨⟨⟨⟨⟨⟨⟨⟨d1,K⟩,d3⟩,d4⟩,d5⟩,d6⟩,d7⟩,d8⟩,d9⟩,d10⟩,n1⟩,n2⟩,n3⟩,n4⟩,n5⟩:=hd;subst Z;refine wpIn_seq (KY hE he ax Y ad M N O (λx hx=>by simpa using zya.1 m x hx) hT h R d1 K d3 d4 d5 d6 d7 d8 d9 d10 n1 n2 n3 n4 n5 an al c.2 W f λL S2 γ2 β2 X a2 w2 hX hp hR q=>?_)
 have hlen:L.length<=1073741824:=by rw[hp.length_eq];simpa using c.2
 have V:dF (σL s'.nt o it X) n o=some L:=by
  unfold dF σL;simp only[if_true];rcases hX with⟨rfl,rfl⟩|rfl
  ·rfl
  ·simp only;have:(n.beq n&&!(([]:List Nat).contains 5)&&decide (L.length<=1073741824))=true:=by
    simp only[zaa,zia];exact⟨⟨c.1.1,rfl⟩,hlen⟩
   rw[zja this]
 refine wp hE hf u hr r i Q U hR q ?_;unfold Dj;rw[V,zba,zja (show(σL s'.nt o it X).nt=s'.nt from rfl),BI h3 hp];rfl
end
end Sy
end
noncomputable section
namespace Go.Proofs
open Go.Shelf
def aeI:Go.Shelf.Ren:=⟨λ|6=>294|15=>316|14=>315|28=>56|29=>329|20=>321|21=>322|22=>323|23=>324|24=>325|25=>326|26=>327|27=>328|46=>339|47=>340|48=>341|49=>342|50=>343|57=>347|n=>n,λ|22=>261|24=>264|25=>291|3=>3|39=>155|0=>0|53=>33|55=>157|4=>4|46=>304|45=>303|50=>195|5=>5|9=>9|66=>315|70=>319|76=>323|77=>324|n=>n,λ|n=>n⟩
def aeH:Go.Proofs.SlLaysF0.n6 Tryz.prog aeI:={
 mixed:=x6
 f6:=⟨Tryz.f294.name,j2,Tryz.func294.trans (zxa some x6)⟩
 f14:=⟨Tryz.f315.name,j2,Tryz.func315.trans (zxa some x6)⟩
 f15:=Tryz.func316.trans (zxa some x6)
 f20:=⟨Tryz.f321.name,j2,Tryz.func321.trans (zxa some x6)⟩
 f21:=⟨Tryz.f322.name,j2,Tryz.func322.trans (zxa some x6)⟩
 f22:=⟨Tryz.f323.name,j2,Tryz.func323.trans (zxa some x6)⟩
 f23:=⟨Tryz.f324.name,j2,Tryz.func324.trans (zxa some x6)⟩
 f24:=⟨Tryz.f325.name,j2,Tryz.func325.trans (zxa some x6)⟩
 f25:=⟨Tryz.f326.name,j2,Tryz.func326.trans (zxa some x6)⟩
 f26:=⟨Tryz.f327.name,j2,Tryz.func327.trans (zxa some x6)⟩
 f27:=⟨Tryz.f328.name,j2,Tryz.func328.trans (zxa some x6)⟩
 f28:=Tryz.func56.trans (zxa some x6)
 f29:=Tryz.func329.trans (zxa some x6)
 f46:=⟨Tryz.f339.name,j2,Tryz.func339.trans (zxa some x6)⟩
 f47:=Tryz.func340.trans (zxa some x6)
 f48:=Tryz.func341.trans (zxa some x6)
 f49:=⟨Tryz.f342.name,j2,Tryz.func342.trans (zxa some x6)⟩
 f50:=⟨Tryz.f343.name,j2,Tryz.func343.trans (zxa some x6)⟩
 f57:=⟨Tryz.f347.name,j2,Tryz.func347.trans (zxa some x6)⟩
 t0:=Tryz.underlying0
 a0:=Tryz.isAgg0
 z0:=Tryz.sizeOf0
 v0:=Tryz.zeroValue0
 t3:=Tryz.underlying3
 a3:=Tryz.isAgg3
 z3:=Tryz.sizeOf3
 v3:=Tryz.zeroValue3
 t4:=Tryz.underlying4
 a4:=Tryz.isAgg4
 z4:=Tryz.sizeOf4
 v4:=Tryz.zeroValue4
 t5:=Tryz.underlying5
 a5:=Tryz.isAgg5
 z5:=Tryz.sizeOf5
 v5:=Tryz.zeroValue5
 t9:=Tryz.underlying9
 a9:=Tryz.isAgg9
 z9:=Tryz.sizeOf9
 v9:=Tryz.zeroValue9
 t22:=Tryz.underlying261
 a22:=Tryz.isAgg261
 z22:=Tryz.sizeOf261
 v22:=Tryz.zeroValue261
 t25:=Tryz.underlying291
 a25:=Tryz.isAgg291
 z25:=Tryz.sizeOf291
 v25:=Tryz.zeroValue291
 t39:=Tryz.underlying155
 a39:=Tryz.isAgg155
 z39:=Tryz.sizeOf155
 v39:=Tryz.zeroValue155
 t45:=Tryz.underlying303
 a45:=Tryz.isAgg303
 z45:=Tryz.sizeOf303
 v45:=Tryz.zeroValue303
 t46:=Tryz.underlying304
 a46:=Tryz.isAgg304
 z46:=Tryz.sizeOf304
 v46:=Tryz.zeroValue304
 t50:=Tryz.underlying195
 a50:=Tryz.isAgg195
 z50:=Tryz.sizeOf195
 v50:=Tryz.zeroValue195
 t53:=Tryz.underlying33
 a53:=Tryz.isAgg33
 z53:=Tryz.sizeOf33
 v53:=Tryz.zeroValue33
 t55:=Tryz.underlying157
 a55:=Tryz.isAgg157
 z55:=Tryz.sizeOf157
 v55:=Tryz.zeroValue157
 t66:=Tryz.underlying315
 a66:=Tryz.isAgg315
 z66:=Tryz.sizeOf315
 v66:=Tryz.zeroValue315
 t70:=Tryz.underlying319
 a70:=Tryz.isAgg319
 z70:=Tryz.sizeOf319
 v70:=Tryz.zeroValue319
 t76:=Tryz.underlying323
 a76:=Tryz.isAgg323
 z76:=Tryz.sizeOf323
 v76:=Tryz.zeroValue323
 t77:=Tryz.underlying324
 a77:=Tryz.isAgg324
 z77:=Tryz.sizeOf324
 v77:=Tryz.zeroValue324 }
def aeG:Go.Shelf.Ren:=⟨λ|6=>301|15=>316|14=>318|28=>56|29=>329|20=>330|21=>331|22=>332|23=>333|24=>334|25=>335|26=>336|27=>337|46=>344|47=>340|48=>341|49=>345|50=>346|57=>348|n=>n,λ|22=>217|24=>219|25=>294|3=>3|39=>155|0=>0|53=>33|55=>157|4=>4|46=>304|45=>303|50=>195|5=>5|9=>9|66=>315|70=>319|76=>323|77=>324|n=>n,λ|n=>n⟩
def aeF:Go.Proofs.SlLaysF0.n6 Tryz.prog aeG:={
 mixed:=x6
 f6:=⟨Tryz.f301.name,j2,Tryz.func301.trans (zxa some x6)⟩
 f14:=⟨Tryz.f318.name,j2,Tryz.func318.trans (zxa some x6)⟩
 f15:=Tryz.func316.trans (zxa some x6)
 f20:=⟨Tryz.f330.name,j2,Tryz.func330.trans (zxa some x6)⟩
 f21:=⟨Tryz.f331.name,j2,Tryz.func331.trans (zxa some x6)⟩
 f22:=⟨Tryz.f332.name,j2,Tryz.func332.trans (zxa some x6)⟩
 f23:=⟨Tryz.f333.name,j2,Tryz.func333.trans (zxa some x6)⟩
 f24:=⟨Tryz.f334.name,j2,Tryz.func334.trans (zxa some x6)⟩
 f25:=⟨Tryz.f335.name,j2,Tryz.func335.trans (zxa some x6)⟩
 f26:=⟨Tryz.f336.name,j2,Tryz.func336.trans (zxa some x6)⟩
 f27:=⟨Tryz.f337.name,j2,Tryz.func337.trans (zxa some x6)⟩
 f28:=Tryz.func56.trans (zxa some x6)
 f29:=Tryz.func329.trans (zxa some x6)
 f46:=⟨Tryz.f344.name,j2,Tryz.func344.trans (zxa some x6)⟩
 f47:=Tryz.func340.trans (zxa some x6)
 f48:=Tryz.func341.trans (zxa some x6)
 f49:=⟨Tryz.f345.name,j2,Tryz.func345.trans (zxa some x6)⟩
 f50:=⟨Tryz.f346.name,j2,Tryz.func346.trans (zxa some x6)⟩
 f57:=⟨Tryz.f348.name,j2,Tryz.func348.trans (zxa some x6)⟩
 t0:=Tryz.underlying0
 a0:=Tryz.isAgg0
 z0:=Tryz.sizeOf0
 v0:=Tryz.zeroValue0
 t3:=Tryz.underlying3
 a3:=Tryz.isAgg3
 z3:=Tryz.sizeOf3
 v3:=Tryz.zeroValue3
 t4:=Tryz.underlying4
 a4:=Tryz.isAgg4
 z4:=Tryz.sizeOf4
 v4:=Tryz.zeroValue4
 t5:=Tryz.underlying5
 a5:=Tryz.isAgg5
 z5:=Tryz.sizeOf5
 v5:=Tryz.zeroValue5
 t9:=Tryz.underlying9
 a9:=Tryz.isAgg9
 z9:=Tryz.sizeOf9
 v9:=Tryz.zeroValue9
 t22:=Tryz.underlying217
 a22:=Tryz.isAgg217
 z22:=Tryz.sizeOf217
 v22:=Tryz.zeroValue217
 t25:=Tryz.underlying294
 a25:=Tryz.isAgg294
 z25:=Tryz.sizeOf294
 v25:=Tryz.zeroValue294
 t39:=Tryz.underlying155
 a39:=Tryz.isAgg155
 z39:=Tryz.sizeOf155
 v39:=Tryz.zeroValue155
 t45:=Tryz.underlying303
 a45:=Tryz.isAgg303
 z45:=Tryz.sizeOf303
 v45:=Tryz.zeroValue303
 t46:=Tryz.underlying304
 a46:=Tryz.isAgg304
 z46:=Tryz.sizeOf304
 v46:=Tryz.zeroValue304
 t50:=Tryz.underlying195
 a50:=Tryz.isAgg195
 z50:=Tryz.sizeOf195
 v50:=Tryz.zeroValue195
 t53:=Tryz.underlying33
 a53:=Tryz.isAgg33
 z53:=Tryz.sizeOf33
 v53:=Tryz.zeroValue33
 t55:=Tryz.underlying157
 a55:=Tryz.isAgg157
 z55:=Tryz.sizeOf157
 v55:=Tryz.zeroValue157
 t66:=Tryz.underlying315
 a66:=Tryz.isAgg315
 z66:=Tryz.sizeOf315
 v66:=Tryz.zeroValue315
 t70:=Tryz.underlying319
 a70:=Tryz.isAgg319
 z70:=Tryz.sizeOf319
 v70:=Tryz.zeroValue319
 t76:=Tryz.underlying323
 a76:=Tryz.isAgg323
 z76:=Tryz.sizeOf323
 v76:=Tryz.zeroValue323
 t77:=Tryz.underlying324
 a77:=Tryz.isAgg324
 z77:=Tryz.sizeOf324
 v77:=Tryz.zeroValue324 }
end Go.Proofs
end
noncomputable section
namespace Sy
open Go Go.Proofs Go.Shelf Go.RowKit Go.Lib Go.Sort
def Qu {P : Program} {f : Nat} (h : (match P.funcs[f]? with | some fn => !(fn.name == "runtime.NumGoroutine") && fn.body.isSome | none => false) = true) : ∃ fn, P.funcs[f]? = some fn /\ (fn.name == "runtime.NumGoroutine") = false /\ fn.body.isSome = true := by
 split at h
 ·rename_i fn hf;simp only[zaa,zCa] at h;exact⟨fn,hf,h.1,h.2⟩
 ·cases h
def Hp:SortOk Tryz.prog 301 K8:=
 ⟨rfl,rfl,j2,rfl,Qu x6,λp cap fv w=>AnyF.slices_SortFunc_none aeF p cap fv w,
  λ_ _ enc hk h1 e hO g b off cap d w f a hH hblk c=>AnyQ.slices_SortFunc aeF 2 Tryz.isAgg219 Tryz.sizeOf219 enc hk h1 e hO g #[] b off cap d w f a hH hblk c⟩
def Hq:SortOk Tryz.prog 294 dK:=
 ⟨rfl,rfl,j2,rfl,Qu x6,λp cap fv w=>AnyF.slices_SortFunc_none aeH p cap fv w,
  λ_ _ enc hk h1 e hO g b off cap d w f a hH hblk c=>AnyQ.slices_SortFunc aeH 4 Tryz.isAgg264 Tryz.sizeOf264 enc hk h1 e hO g #[] b off cap d w f a hH hblk c⟩
end Sy
end
noncomputable section
set_option maxHeartbeats 0
namespace Sy
open Go Go.Proofs
def Mf:Code->Code|.block _ c=>c|c=>c
def inLoop:Code->Code|.loop c=>c|c=>c
def sq1:Code->Code|.seq a _=>a|c=>c
def RU:Code->Code|.seq _ b=>b|c=>c
def QL:Code->List Oper|.region _ o _=>o.toList|_=>[]
def Re:AnnT:=(.seq .leaf (.seq .leaf (.seq (.two .leaf (.two (.loop ⟨[(3,.ow K8),(12,.dv (Ty.int .i64))],[],[10,11]⟩ [(.exit 0,⟨[(3,.ow K8)],[],[]⟩)] (.two .leaf (.two .leaf (.two (.two (.two .leaf (.two .leaf (.two (.loop ⟨[(3,.ow K8),(5,.same (.ptr K6 24581 [])),(19,.dv (Ty.int .i64))],[(24581,.keep K6 5)],[10,11,12,17,18]⟩ [(.exit 2,⟨[(3,.ow K8)],[],[10,11,12]⟩)] (.two .leaf (.two .leaf (.cut [(.normal,⟨[(3,.ow K8),(5,.same (.ptr K6 24581 []))],[(24581,.keep K6 5)],[10,11,12,17,18,19]⟩)] [10,11,12,17,18,19] [24581] (.two (.two .leaf (.two (.reg [] 10) .leaf)) .leaf) .leaf)))) .leaf))) .leaf) .leaf)))) .leaf)) .hand)))
def Rh(lp:Lp)(call:Nat->List D->Option D)(a0:D):Option D:=
 (call 18 [a0]).bind λr1=>
 (D.asSl r1).bind λi=>
 Option.bind (lp (β:=Nat×List D) (λ(v3:List D)=>
 (adW .lss (gx v3 1) (D.int .i64 (List.length i))).bind λz=>
 (D.truth z).bind λx=>
 if x then((D.asSl r1).bind λv=>
 (D.idx (gx v3 1) (List.length v)).bind λi7=>
 (v[i7]?).bind λu=>
 (D.get u [2]).bind λw=>
 (D.asSl w).bind λh=>
 Option.bind (lp (β:=Nat×List D) (λ(v11:List D)=>
 (adW .lss (gx v11 1) (D.int .i64 (List.length h))).bind λm=>
 (D.truth m).bind λf=>
 if f then(Option.bind ((D.asSl w).bind λc=>
 (D.idx (gx v11 1) (List.length c)).bind λi15=>
 (c[i15]?).bind λa=>
 (D.get u [2]).bind λn=>
 (adW .add (gx v11 1) (D.int .i64 1)).bind λo=>
 (D.get u [2]).bind λp=>
 (D.asSl p).bind λj=>
 (adW .rem o (D.int .i64 (List.length j))).bind λq=>
 (D.asSl n).bind λd=>
 (D.idx q (List.length d)).bind λQw=>
 (d[Qw]?).bind λb=>
 (adW .lss a b).bind λr=>
 (D.truth r).bind λg=>
 if g then(if List.length (D.els (gx v11 0))+List.length [(D.st [a,b])]<=1073741824 then(some (0,[(D.sl ((D.els (gx v11 0))++[(D.st [a,b])]))])) else none) else(some (0,[(D.sl (D.els (gx v11 0)))]))) λ(k:Nat×List D)=>
 (adW .add (gx v11 1) (D.int .i64 1)).bind λs=>
 some (Sum.inl [(D.sl (D.els (gx k.2 0))),s])) else(some (Sum.inr (0,[(D.sl (D.els (gx v11 0)))])))) [(D.sl (D.els (gx v3 0))),(D.int .i64 0)]) λl=>
 (adW .add (gx v3 1) (D.int .i64 1)).bind λt=>
 some (Sum.inl [(D.sl (D.els (gx l.2 0))),t])) else(some (Sum.inr (0,[(D.sl (D.els (gx v3 0)))])))) [(D.sl []),(D.int .i64 0)]) λe=>
 Option.bind (if decide (List.length (D.els (gx e.2 0))<=1073741824) then some (D.els (gx e.2 0)) else none) λy=>
 (jX (dL lp call (nC lp call)) (cw 51) y).bind λi=>some (D.sl i)
def E21(lp:Lp)(call:Nat->List D->Option D)(a0:D):Ge (dL lp call (nC lp call)) (Dj (dL lp call (nC lp call)) 48 3 (cw 51) K8) Tryz.f261 Re [K3] [a0]=Rh lp call a0:=x6
def Oz:AnnT:=(.seq .leaf (.seq .leaf (.seq (.two .leaf (.two (.loop ⟨[(3,.same (.map dK Ty.bool 8204)),(15,.dv (Ty.int .i64))],[(8204,.mp dK Ty.bool)],[0,14]⟩ [(.exit 0,⟨[(3,.same (.map dK Ty.bool 8204))],[(8204,.mp dK Ty.bool)],[]⟩)] (.two .leaf (.two .leaf (.two (.two (.two .leaf (.two .leaf (.two (.loop ⟨[(3,.same (.map dK Ty.bool 8204)),(19,.dv (Ty.int .i64))],[(8204,.mp dK Ty.bool)],[0,4,14,15,18]⟩ [(.exit 2,⟨[(3,.same (.map dK Ty.bool 8204))],[(8204,.mp dK Ty.bool)],[0,14,15]⟩)] (.two .leaf (.two .leaf (.two (.two (.two .leaf (.two .leaf (.two (.loop ⟨[(3,.same (.map dK Ty.bool 8204)),(23,.dv (Ty.int .i64))],[(8204,.mp dK Ty.bool)],[0,4,5,14,15,18,19,22]⟩ [(.exit 4,⟨[(3,.same (.map dK Ty.bool 8204))],[(8204,.mp dK Ty.bool)],[0,4,14,15,18,19]⟩)] (.two .leaf (.two .leaf (.cut [(.normal,⟨[(3,.same (.map dK Ty.bool 8204))],[(8204,.mp dK Ty.bool)],[0,4,5,14,15,18,19,22,23]⟩)] [0,4,5,14,15,18,19,22,23] [] (.two (.two .leaf (.two (.reg [] 14) (.two .leaf (.two .leaf (.two (.loop ⟨[(3,.same (.map dK Ty.bool 8204)),(51,.ow dK),(53,.dv (Ty.int .i64))],[(8204,.mp dK Ty.bool)],[0,4,5,14,15,18,19,22,23,52]⟩ [(.exit 6,⟨[(3,.same (.map dK Ty.bool 8204))],[(8204,.mp dK Ty.bool)],[0,4,5,14,15,18,19,22,23]⟩)] (.two .leaf (.two .leaf (.cut [(.normal,⟨[(3,.same (.map dK Ty.bool 8204)),(51,.ow dK)],[(8204,.mp dK Ty.bool)],[0,4,5,14,15,18,19,22,23,52,53]⟩)] [0,4,5,14,15,18,19,22,23,52,53] [] .leaf .leaf)))) .leaf))))) .leaf) .leaf)))) .leaf))) .leaf) .leaf)))) .leaf))) .leaf) .leaf)))) .leaf)) (.seq .leaf .hand))))
def Rk(lp:Lp)(call:Nat->List D->Option D)(a0:D):Option D:=
 (D.asSl a0).bind λL=>
 Option.bind (lp (β:=Nat×List D) (λ(v2:List D)=>
 (adW .lss (gx v2 0) (D.int .i64 (List.length L))).bind λN=>
 (D.truth N).bind λJ=>
 if J then(Option.bind (lp (β:=Nat×List D) (λ(v5:List D)=>
 (adW .lss (gx v5 0) (gx v2 0)).bind λO=>
 (D.truth O).bind λK=>
 if K then(Option.bind (lp (β:=Nat×List D) (λ(d:List D)=>
 (adW .lss (gx d 0) (gx v5 0)).bind λP=>
 (D.truth P).bind λj=>
 if j then(Option.bind ((D.asSl a0).bind λe=>
 (D.idx (gx v2 0) (List.length e)).bind λvD=>
 (e[vD]?).bind λv=>
 (D.asSl a0).bind λf=>
 (D.idx (gx v5 0) (List.length f)).bind λi15=>
 (f[i15]?).bind λw=>
 (D.asSl a0).bind λg=>
 (D.idx (gx d 0) (List.length g)).bind λi18=>
 (g[i18]?).bind λx=>
 (call 96 [v,w,x]).bind λb=>
 (D.get b [0]).bind λy=>
 (D.truth (D.bool (D.beq y (D.st [(D.int .i64 0),(D.int .i64 0),(D.int .i64 0)])))).bind λk=>
 if k then(some (0,[(D.sl (D.els (gx d 1)))])) else((D.get b [0]).bind λz=>
 (call 97 [z]).bind λp=>
 (D.get b [1]).bind λA=>
 (aeb .neg A).bind λB=>
 Option.bind (lp (β:=Nat×List D) (λ(a:List D)=>
 (adW .lss (gx a 1) (D.int .i64 2)).bind λC=>
 (D.truth C).bind λl=>
 if l then(Option.bind ((D.idx (gx a 1) (List.length (D.els (gx a 0)))).bind λi30=>
 ((D.els (gx a 0))[i30]?).bind λc=>
 (aeb .not (Option.getD (ad3 (D.els (gx a 2)) c) (D.bool false))).bind λE=>
 (D.truth E).bind λm=>
 Option.bind (if m then((call 98 [a0,c]).bind λq=>
 D.truth q) else(some false)) λn=>
 (D.truth (D.bool n)).bind λo=>
 if o then(some (0,[(D.sl (D.els (gx a 0))),(D.sl (ad4 (D.els (gx a 2)) c (D.bool true)))])) else(some (0,[(D.sl (D.els (gx a 0))),(D.sl (D.els (gx a 2)))]))) λ(h:Nat×List D)=>
 (adW .add (gx a 1) (D.int .i64 1)).bind λF=>
 some (Sum.inl [(D.sl (D.els (gx h.2 0))),F,(D.sl (D.els (gx h.2 1)))])) else(some (Sum.inr (0,[(D.sl (D.els (gx a 2)))])))) [(D.sl [b,(D.st [p,B])]),(D.int .i64 0),(D.sl (D.els (gx d 1)))]) λr=>
 some (0,[(D.sl (D.els (gx r.2 0)))]))) λ(s:Nat×List D)=>
 (adW .add (gx d 0) (D.int .i64 1)).bind λG=>
 some (Sum.inl [G,(D.sl (D.els (gx s.2 0)))])) else(some (Sum.inr (0,[(D.sl (D.els (gx d 1)))])))) [(D.int .i64 0),(D.sl (D.els (gx v5 1)))]) λt=>
 (adW .add (gx v5 0) (D.int .i64 1)).bind λH=>
 some (Sum.inl [H,(D.sl (D.els (gx t.2 0)))])) else(some (Sum.inr (0,[(D.sl (D.els (gx v5 1)))])))) [(D.int .i64 0),(D.sl (D.els (gx v2 1)))]) λu=>
 (adW .add (gx v2 0) (D.int .i64 1)).bind λI=>
 some (Sum.inl [I,(D.sl (D.els (gx u.2 0)))])) else(some (Sum.inr (0,[(D.sl (D.els (gx v2 1)))])))) [(D.int .i64 0),(D.sl [])]) λi=>
 if decide (List.length (D.els (gx i.2 0))<=1073741824) then((jX (dL lp call (nC lp call)) (cw 100) (List.map zp (D.els (gx i.2 0)))).bind λM=>some (D.sl M)) else none
def E45(lp:Lp)(call:Nat->List D->Option D)(a0:D):Ge (dL lp call (nC lp call)) (xL (dL lp call (nC lp call)) 85 3 10 (cw 100) dK Ty.bool) Tryz.f259 Oz [K2] [a0]=Rk lp call a0:=x6
def MR(f:Func):Code:=match f.body with|some c=>c|none=>.skip
def z7:Code:=Mf (RU (RU (inLoop (Mf (RU (sq1 (rh (MR Tryz.f259) Oz)))))))
def BA:List Oper:=(QL (sq1 z7)).tail
def Yf:Code:=RU z7
def Qj{lp:Lp}{call:Nat->List D->Option D}(a:EnvOk Tryz.prog (dL lp call (nC lp call))){a0 y:D}(h:Rh lp call a0=some y):HZ Tryz.prog [K3] K9 (cw 21) [a0] y:=by
 refine np a (f:=cw 21) (fn:=Tryz.f261) (ann:=Re) (K:=Dj (dL lp call (nC lp call)) 48 3 (cw 51) K8) x6 x6 ((E21 lp call a0).trans h) ?_
 intro c j w S S' γ' β' s' a' w' i k d;have e:∀ c',Tryz.f261.body=some c'->(rh c' Re).wpIn (FW none) 0 Tryz.prog (Fp Tryz.prog Tryz.f261 w S K9 y) a' w'->(rh c Re).wpIn (FW none) 0 Tryz.prog (Fp Tryz.prog Tryz.f261 w S K9 y) a' w':=λc' h1 b=>by rw[j] at h1;cases h1;exact b
 refine e _ rfl ?_;exact wp a Hp (g:=302) ⟨x6,x6⟩ x6 (x:=3) (t:=45) (d2:=46) (nt:=48) (ann:=.leaf) rfl rfl j2 (λl'=>x6) i k d
def Lt{lp:Lp}{call:Nat->List D->Option D}:∀ X L k v,Mh dK L X->L.length<1073741824->wt dK k->ev (dL lp call (nC lp call)) (.region 0 (BA).toArray false) .leaf D ((σL 85 10 73 X).put (some 76) (.d (.tup [dK,.bool]) (.tup [k,v]))) (λx s'=>match x with
   | .normal=>ev (dL lp call (nC lp call)) Yf .leaf D s' (λx a=>match x with|.normal=>(dF a dK 10).bind λl=>some (.sl l)|_=>none)
   | _=>none)=some (.sl (L++[k])):=by
 intro X L k v b hL _;rcases b with⟨rfl,rfl⟩|rfl
 ·kernel_rfl
 ·have key:ev (dL lp call (nC lp call)) (.region 0 (BA).toArray false) .leaf D ((σL 85 10 73 (.own dK 5 L)).put (some 76) (.d (.tup [dK,.bool]) (.tup [k,v]))) (λx s'=>match x with
   | .normal=>ev (dL lp call (nC lp call)) Yf .leaf D s' (λx a=>match x with|.normal=>(dF a dK 10).bind λl=>some (.sl l)|_=>none)
   | _=>none)=(if List.length L+List.length [k]<=1073741824 then(Option.bind (if decide (List.length (L++[k])<=1073741824) then some (L++[k]) else none) λl=>some (.sl l)) else none):=x6
  rw[key,zja (by simp;omega),zja (by simp;omega)]
  rfl
def Qk{lp:Lp}{call:Nat->List D->Option D}(a:EnvOk Tryz.prog (dL lp call (nC lp call))){a0 y:D}(h:Rk lp call a0=some y):HZ Tryz.prog [K2] Ou (cw 45) [a0] y:=by
 refine np a (f:=cw 45) (fn:=Tryz.f259) (ann:=Oz) (K:=xL (dL lp call (nC lp call)) 85 3 10 (cw 100) dK .bool) x6 x6 ((E45 lp call a0).trans h) ?_
 intro c j w S S' γ' β' s' a' w' i k d;have e:∀ c',Tryz.f259.body=some c'->(rh c' Oz).wpIn (FW none) 0 Tryz.prog (Fp Tryz.prog Tryz.f259 w S Ou y) a' w'->(rh c Oz).wpIn (FW none) 0 Tryz.prog (Fp Tryz.prog Tryz.f259 w S Ou y) a' w':=λc' h1 b=>by rw[j] at h1;cases h1;exact b
 refine e _ rfl ?_;exact BC a rfl rfl rfl rfl x6 (t72:=72) (m0:=3) (it:=73) (T:=287) (nx:=74) (ok:=75) (en:=76) (o:=10) (nt:=85) (c26:=Yf) (rest:=BA) rfl rfl rfl rfl (TK:=264) (TV:=4) x6 j2 Lt Hq (g:=295) ⟨x6,x6⟩ (t:=82) (d2:=83) (ann:=.leaf) rfl rfl j2 (λl'=>x6) i k d
end Sy
end
noncomputable section
namespace Sy
open Go Go.Proofs
def L21{lp:Lp}(b:aj lp):af 21 (m1 (Rh lp)):=by
 intro call hc d e xs y c a hw;have:mK (cw 21)=some ([K3],K9):=x6
 rw[this] at c;cases c;unfold m1 at a;split at a<;>first|(cases a;done)|skip
 have h0:iF (cw 21)=0:=x6
 rw[h0];exact⟨Qj (Qr b hc) a,λh=>by rw[show mX (cw 21)=false by kernel_rfl] at h;cases h⟩
def L45{lp:Lp}(b:aj lp):af 45 (m1 (Rk lp)):=by
 intro call hc d e xs y c a hw;have:mK (cw 45)=some ([K2],Ou):=x6
 rw[this] at c;cases c;unfold m1 at a;split at a<;>first|(cases a;done)|skip
 have h0:iF (cw 45)=0:=x6
 rw[h0];exact⟨Qk (Qr b hc) a,λh=>by rw[show mX (cw 45)=false by kernel_rfl] at h;cases h⟩
end Sy
end
noncomputable section
set_option maxHeartbeats 0
namespace Sy
open Go Go.Proofs
def LG(lp:Lp):CT:=.node 331 (.node 116 (.node 77 (.node 51 (.node 37 (.node 18 (.node 13 (.leaf 12 (m1 (Oi lp))) (.node 15 (.leaf 13 (m2 (Rf lp))) (.leaf 15 (m1 (Rg lp))))) (.node 32 (.node 21 (.leaf 18 (m1 (F18 lp))) (.leaf 21 (m1 (Rh lp)))) (.node 34 (.leaf 32 (m2 (Oj lp))) (.leaf 34 (m1 (Ri lp)))))) (.node 45 (.node 39 (.leaf 37 (m2 (Ol lp))) (.node 40 (.leaf 39 (m2 (Rj lp))) (.leaf 40 (m2 (OY lp))))) (.node 47 (.node 46 (.leaf 45 (m1 (Rk lp))) (.leaf 46 (m2 (F46 lp)))) (.node 48 (.leaf 47 (m1 (Rl lp))) (.leaf 48 (m1 (Rm lp))))))) (.node 62 (.node 54 (.node 52 (.leaf 51 (m2 (F51 lp))) (.node 53 (.leaf 52 (m1 (F52 lp))) (.leaf 53 (m2 (F53 lp))))) (.node 59 (.node 57 (.leaf 54 (m1 (Ro lp))) (.leaf 57 (m2 (Rq lp)))) (.node 61 (.leaf 59 (m2 (Om lp))) (.leaf 61 (m2 (Rr lp)))))) (.node 73 (.node 70 (.node 68 (.leaf 62 (m2 (On lp))) (.leaf 68 (m1 (Rs lp)))) (.node 72 (.leaf 70 (m1 (Pq lp))) (.leaf 72 (m2 (F72 lp))))) (.node 75 (.node 74 (.leaf 73 (m2 (Rt lp))) (.leaf 74 (m1 (Ru lp)))) (.node 76 (.leaf 75 (m1 (Rv lp))) (.leaf 76 (m1 (Oo lp)))))))) (.node 97 (.node 85 (.node 81 (.node 78 (.leaf 77 (m1 (Rx lp))) (.node 80 (.leaf 78 (m2 (Ry lp))) (.leaf 80 (m1 (Rz lp))))) (.node 83 (.node 82 (.leaf 81 (m2 (Pr lp))) (.leaf 82 (m2 (RA lp)))) (.node 84 (.leaf 83 (m1 (RB lp))) (.leaf 84 (m0 (RC lp)))))) (.node 89 (.node 87 (.node 86 (.leaf 85 (m2 (Ps lp))) (.leaf 86 (m1 (RD lp)))) (.node 88 (.leaf 87 (m2 (Oq lp))) (.leaf 88 (m1 (J6 lp))))) (.node 91 (.node 90 (.leaf 89 (m2 (Ot lp))) (.leaf 90 (m2 (RE lp)))) (.node 96 (.leaf 91 (m2 (F91 lp))) (.leaf 96 (m3 (F96 lp))))))) (.node 106 (.node 101 (.node 98 (.leaf 97 (m1 (F97 lp))) (.node 100 (.leaf 98 (m2 (F98 lp))) (.leaf 100 (m2 (OF lp))))) (.node 104 (.node 103 (.leaf 101 (m2 (H1 lp))) (.leaf 103 (m2 (OG lp)))) (.node 105 (.leaf 104 (m3 (OH lp))) (.leaf 105 (m2 (H2 lp)))))) (.node 110 (.node 108 (.node 107 (.leaf 106 (m3 (H3 lp))) (.leaf 107 (m2 (H4 lp)))) (.node 109 (.leaf 108 (m2 (H5 lp))) (.leaf 109 (m3 (H6 lp))))) (.node 112 (.node 111 (.leaf 110 (m2 (H7 lp))) (.leaf 111 (m3 (H8 lp)))) (.node 115 (.leaf 112 (m2 (H9 lp))) (.leaf 115 (m1 (OI lp))))))))) (.node 146 (.node 131 (.node 123 (.node 119 (.node 117 (.leaf 116 (m2 (Ia lp))) (.node 118 (.leaf 117 (m2 (OJ lp))) (.leaf 118 (m1 (E7 lp))))) (.node 121 (.node 120 (.leaf 119 (m0 (Ib lp))) (.leaf 120 (m2 (Ic lp)))) (.node 122 (.leaf 121 (m2 (Id lp))) (.leaf 122 (m2 (Ie lp)))))) (.node 127 (.node 125 (.node 124 (.leaf 123 (m2 (If lp))) (.leaf 124 (m1 (Ds lp)))) (.node 126 (.leaf 125 (m0 (Ig lp))) (.leaf 126 (m2 (Ih lp))))) (.node 129 (.node 128 (.leaf 127 (m1 (Ii lp))) (.leaf 128 (m1 (Dt lp)))) (.node 130 (.leaf 129 (m1 (Ij lp))) (.leaf 130 (m0 (Ik lp))))))) (.node 138 (.node 134 (.node 132 (.leaf 131 (m2 (Il lp))) (.node 133 (.leaf 132 (m2 (E8 lp))) (.leaf 133 (m0 (Im lp))))) (.node 136 (.node 135 (.leaf 134 (m2 (OK lp))) (.leaf 135 (m1 (OL lp)))) (.node 137 (.leaf 136 (m1 (wM lp))) (.leaf 137 (m2 (Io lp)))))) (.node 142 (.node 140 (.node 139 (.leaf 138 (m1 (Ip lp))) (.leaf 139 (m1 (Du lp)))) (.node 141 (.leaf 140 (m1 (Iq lp))) (.leaf 141 (m2 (Ir lp))))) (.node 144 (.node 143 (.leaf 142 (m1 (Is lp))) (.leaf 143 (m2 (It lp)))) (.node 145 (.leaf 144 (m2 (E9 lp))) (.leaf 145 (m1 (Iu lp)))))))) (.node 174 (.node 165 (.node 152 (.node 147 (.leaf 146 (m2 (Iv lp))) (.node 148 (.leaf 147 (m2 (OM lp))) (.leaf 148 (m1 (ON lp))))) (.node 155 (.node 154 (.leaf 152 (m2 (Fa lp))) (.leaf 154 (m2 (OO lp)))) (.node 156 (.leaf 155 (m1 (Iw lp))) (.leaf 156 (m5 (Ix lp)))))) (.node 170 (.node 168 (.node 167 (.leaf 165 (m1 (Iy lp))) (.leaf 167 (m1 (Fb lp)))) (.node 169 (.leaf 168 (m2 (Iz lp))) (.leaf 169 (m0 (IA lp))))) (.node 172 (.node 171 (.leaf 170 (m2 (IB lp))) (.leaf 171 (m1 (IC lp)))) (.node 173 (.leaf 172 (m2 (Fc lp))) (.leaf 173 (m2 (Fd lp))))))) (.node 196 (.node 187 (.node 175 (.leaf 174 (m2 (OP lp))) (.node 186 (.leaf 175 (m2 (ID lp))) (.leaf 186 (m1 (IE lp))))) (.node 194 (.node 188 (.leaf 187 (m1 (IF lp))) (.leaf 188 (m2 (IG lp)))) (.node 195 (.leaf 194 (m1 (IH lp))) (.leaf 195 (m2 (II lp)))))) (.node 203 (.node 201 (.node 197 (.leaf 196 (m1 (IJ lp))) (.leaf 197 (m2 (IK lp)))) (.node 202 (.leaf 201 (m2 (IL lp))) (.leaf 202 (m1 (Dv lp))))) (.node 217 (.node 215 (.leaf 203 (m2 (Fe lp))) (.leaf 215 (m1 (IM lp)))) (.node 324 (.leaf 217 (m1 (Ff lp))) (.leaf 324 (m2 (IN lp)))))))))) (.node 506 (.node 448 (.node 386 (.node 348 (.node 337 (.node 333 (.leaf 331 (m1 (IP lp))) (.node 336 (.leaf 333 (m2 (OQ lp))) (.leaf 336 (m2 (IQ lp))))) (.node 344 (.node 342 (.leaf 337 (m2 (OR lp))) (.leaf 342 (m1 (OS lp)))) (.node 345 (.leaf 344 (m2 (IR lp))) (.leaf 345 (m2 (IS lp)))))) (.node 357 (.node 349 (.leaf 348 (m1 (IT lp))) (.node 352 (.leaf 349 (m1 (IU lp))) (.leaf 352 (m2 (OT lp))))) (.node 365 (.node 364 (.leaf 357 (m1 (Fg lp))) (.leaf 364 (m2 (IV lp)))) (.node 385 (.leaf 365 (m1 (IW lp))) (.leaf 385 (m1 (OU lp))))))) (.node 426 (.node 393 (.node 388 (.leaf 386 (m2 (OV lp))) (.node 392 (.leaf 388 (m2 (IX lp))) (.leaf 392 (m2 (IY lp))))) (.node 396 (.node 394 (.leaf 393 (m1 (OX lp))) (.leaf 394 (m1 (IZ lp)))) (.node 416 (.leaf 396 (m2 (I0 lp))) (.leaf 416 (m4 (OZ lp)))))) (.node 434 (.node 431 (.node 427 (.leaf 426 (m1 (I1 lp))) (.leaf 427 (m1 (I2 lp)))) (.node 433 (.leaf 431 (m2 (I3 lp))) (.leaf 433 (m2 (O0 lp))))) (.node 446 (.node 435 (.leaf 434 (m3 (O1 lp))) (.leaf 435 (m2 (O2 lp)))) (.node 447 (.leaf 446 (m2 (I4 lp))) (.leaf 447 (m1 (O3 lp)))))))) (.node 485 (.node 474 (.node 456 (.node 449 (.leaf 448 (m1 (O4 lp))) (.node 450 (.leaf 449 (m1 (O5 lp))) (.leaf 450 (m2 (O6 lp))))) (.node 471 (.node 468 (.leaf 456 (m2 (O7 lp))) (.leaf 468 (m5 (I5 lp)))) (.node 473 (.leaf 471 (m5 (I6 lp))) (.leaf 473 (vp 0 lp 473 Tryz.f9 OA))))) (.node 481 (.node 478 (.node 476 (.leaf 474 (vp 0 lp 474 Tryz.f10 OB)) (.leaf 476 (m6 (O8 lp)))) (.node 479 (.leaf 478 (vp 0 lp 478 Tryz.f14 OC)) (.leaf 479 (m7 (O9 lp))))) (.node 483 (.node 482 (.leaf 481 (m5 (I7 lp))) (.leaf 482 (m5 (I8 lp)))) (.node 484 (.leaf 483 (m7 (I9 lp))) (.leaf 484 (m7 (Ja lp))))))) (.node 498 (.node 488 (.node 486 (.leaf 485 (m2 (Pa lp))) (.node 487 (.leaf 486 (m3 (Pb lp))) (.leaf 487 (vp 0 lp 487 Tryz.f39 OD)))) (.node 496 (.node 490 (.leaf 488 (vp 0 lp 488 Tryz.f40 .leaf)) (.leaf 490 (m2 (Pc lp)))) (.node 497 (.leaf 496 (m1 (Jb lp))) (.leaf 497 (m6 (Jc lp)))))) (.node 502 (.node 500 (.node 499 (.leaf 498 (m3 (Jd lp))) (.leaf 499 (m2 (Je lp)))) (.node 501 (.leaf 500 (m3 (Jf lp))) (.leaf 501 (m1 (Jg lp))))) (.node 504 (.node 503 (.leaf 502 (m2 (Jh lp))) (.leaf 503 (m3 (Ji lp)))) (.node 505 (.leaf 504 (m3 (Jj lp))) (.leaf 505 (m2 (Jk lp))))))))) (.node 549 (.node 526 (.node 518 (.node 509 (.node 507 (.leaf 506 (m2 (Pd lp))) (.node 508 (.leaf 507 (m4 (Pe lp))) (.leaf 508 (m2 (Pf lp))))) (.node 516 (.node 510 (.leaf 509 (m1 (Pg lp))) (.leaf 510 (m1 (Ph lp)))) (.node 517 (.leaf 516 (m3 (Jl lp))) (.leaf 517 (m1 (Jm lp)))))) (.node 522 (.node 520 (.node 519 (.leaf 518 (m0 (Pi lp))) (.leaf 519 (m3 (Jo lp)))) (.node 521 (.leaf 520 (m2 (Jp lp))) (.leaf 521 (m2 (Jq lp))))) (.node 524 (.node 523 (.leaf 522 (m1 (Jr lp))) (.leaf 523 (m1 (Js lp)))) (.node 525 (.leaf 524 (m0 (Pj lp))) (.leaf 525 (m1 (Jt lp))))))) (.node 534 (.node 529 (.node 527 (.leaf 526 (m2 (Ju lp))) (.node 528 (.leaf 527 (m2 (Jv lp))) (.leaf 528 (m2 (Jw lp))))) (.node 531 (.node 530 (.leaf 529 (m3 (Jx lp))) (.leaf 530 (m1 (Jy lp)))) (.node 533 (.leaf 531 (m1 (Jz lp))) (.leaf 533 (m2 (Fh lp)))))) (.node 538 (.node 536 (.node 535 (.leaf 534 (m2 (JA lp))) (.leaf 535 (m1 (JB lp)))) (.node 537 (.leaf 536 (m2 (Pk lp))) (.leaf 537 (m1 (Pm lp))))) (.node 547 (.node 546 (.leaf 538 (m1 (Pn lp))) (.leaf 546 (m1 (JC lp)))) (.node 548 (.leaf 547 (m1 (JD lp))) (.leaf 548 (m3 (JE lp)))))))) (.node 564 (.node 556 (.node 552 (.node 550 (.leaf 549 (m2 (JF lp))) (.node 551 (.leaf 550 (m2 (JG lp))) (.leaf 551 (m1 (JH lp))))) (.node 554 (.node 553 (.leaf 552 (m1 (MG lp))) (.leaf 553 (m1 (JI lp)))) (.node 555 (.leaf 554 (m1 (JJ lp))) (.leaf 555 (m1 (JK lp)))))) (.node 560 (.node 558 (.node 557 (.leaf 556 (m2 (JL lp))) (.leaf 557 (m2 (JM lp)))) (.node 559 (.leaf 558 (m1 (JN lp))) (.leaf 559 (m3 (JO lp))))) (.node 562 (.node 561 (.leaf 560 (m2 (JP lp))) (.leaf 561 (m1 (JQ lp)))) (.node 563 (.leaf 562 (m1 (JR lp))) (.leaf 563 (m3 (JS lp))))))) (.node 574 (.node 567 (.node 565 (.leaf 564 (m2 (JT lp))) (.node 566 (.leaf 565 (m2 (JU lp))) (.leaf 566 (m2 (Po lp))))) (.node 572 (.node 569 (.leaf 567 (m1 (Pp lp))) (.leaf 569 (m2 (JV lp)))) (.node 573 (.leaf 572 (m1 (JW lp))) (.leaf 573 (m3 (JX lp)))))) (.node 578 (.node 576 (.node 575 (.leaf 574 (m1 (JY lp))) (.leaf 575 (m1 (JZ lp)))) (.node 577 (.leaf 576 (m4 (J0 lp))) (.leaf 577 (m5 (J1 lp))))) (.node 581 (.node 580 (.leaf 578 (m1 (J2 lp))) (.leaf 580 (m3 (J3 lp)))) (.node 582 (.leaf 581 (m1 (J4 lp))) (.leaf 582 (m2 (J5 lp))))))))))
def Dl{lp:Lp}(a:aj lp):(LG lp).ok:=⟨⟨⟨⟨⟨⟨⟨L12 a,⟨L13 a,L15 a⟩⟩,⟨⟨L18 a,L21 a⟩,⟨L32 a,L34 a⟩⟩⟩,⟨⟨L37 a,⟨L39 a,L40 a⟩⟩,⟨⟨L45 a,L46 a⟩,⟨L47 a,L48 a⟩⟩⟩⟩,⟨⟨⟨L51 a,⟨L52 a,L53 a⟩⟩,⟨⟨L54 a,L57 a⟩,⟨L59 a,L61 a⟩⟩⟩,⟨⟨⟨L62 a,L68 a⟩,⟨L70 a,L72 a⟩⟩,⟨⟨L73 a,L74 a⟩,⟨L75 a,L76 a⟩⟩⟩⟩⟩,⟨⟨⟨⟨L77 a,⟨L78 a,L80 a⟩⟩,⟨⟨L81 a,L82 a⟩,⟨L83 a,L84 a⟩⟩⟩,⟨⟨⟨L85 a,L86 a⟩,⟨L87 a,L88 a⟩⟩,⟨⟨L89 a,L90 a⟩,⟨L91 a,L96 a⟩⟩⟩⟩,⟨⟨⟨L97 a,⟨L98 a,Uu a⟩⟩,⟨⟨Uv a,Uw a⟩,⟨Ux a,Uy a⟩⟩⟩,⟨⟨⟨Uz a,UA a⟩,⟨UB a,UC a⟩⟩,⟨⟨UD a,UE a⟩,⟨UF a,UG a⟩⟩⟩⟩⟩⟩,⟨⟨⟨⟨⟨UH a,⟨UI a,UJ a⟩⟩,⟨⟨UK a,UL a⟩,⟨UM a,UN a⟩⟩⟩,⟨⟨⟨UO a,UP a⟩,⟨UQ a,UR a⟩⟩,⟨⟨US a,UT a⟩,⟨UU a,UV a⟩⟩⟩⟩,⟨⟨⟨UW a,⟨UX a,UY a⟩⟩,⟨⟨UZ a,U0 a⟩,⟨U2 a,U3 a⟩⟩⟩,⟨⟨⟨U4 a,U5 a⟩,⟨U6 a,U7 a⟩⟩,⟨⟨U8 a,U9 a⟩,⟨Va a,Vb a⟩⟩⟩⟩⟩,⟨⟨⟨⟨Vc a,⟨Vd a,Ve a⟩⟩,⟨⟨Vf a,Vg a⟩,⟨Vh a,Vi a⟩⟩⟩,⟨⟨⟨Vj a,Vk a⟩,⟨Vl a,Vm a⟩⟩,⟨⟨Vn a,Vo a⟩,⟨Vp a,Vq a⟩⟩⟩⟩,⟨⟨⟨Vr a,⟨Vs a,Vt a⟩⟩,⟨⟨Vu a,Vv a⟩,⟨Vw a,Vx a⟩⟩⟩,⟨⟨⟨Vy a,Vz a⟩,⟨VA a,VB a⟩⟩,⟨⟨VC a,VD a⟩,⟨VE a,VF a⟩⟩⟩⟩⟩⟩⟩,⟨⟨⟨⟨⟨⟨VG a,⟨VH a,VI a⟩⟩,⟨⟨VJ a,VK a⟩,⟨VL a,VM a⟩⟩⟩,⟨⟨VN a,⟨VO a,VP a⟩⟩,⟨⟨VQ a,VR a⟩,⟨VS a,VU a⟩⟩⟩⟩,⟨⟨⟨VV a,⟨VW a,VX a⟩⟩,⟨⟨VY a,VZ a⟩,⟨V0 a,V1 a⟩⟩⟩,⟨⟨⟨V2 a,V3 a⟩,⟨V4 a,V5 a⟩⟩,⟨⟨V6 a,V7 a⟩,⟨V8 a,V9 a⟩⟩⟩⟩⟩,⟨⟨⟨⟨Wa a,⟨Wb a,Wc a⟩⟩,⟨⟨We a,Pv a⟩,⟨Wf a,Wg a⟩⟩⟩,⟨⟨⟨Wh a,Wi a⟩,⟨Wj a,Wl a⟩⟩,⟨⟨Wm a,Wn a⟩,⟨Wo a,Wp a⟩⟩⟩⟩,⟨⟨⟨Wq a,⟨Wr a,Ws a⟩⟩,⟨⟨Wt a,Wu a⟩,⟨Wv a,Ww a⟩⟩⟩,⟨⟨⟨Wx a,Wy a⟩,⟨Wz a,WA a⟩⟩,⟨⟨WB a,WC a⟩,⟨WD a,WE a⟩⟩⟩⟩⟩⟩,⟨⟨⟨⟨⟨WF a,⟨WG a,WH a⟩⟩,⟨⟨WI a,WJ a⟩,⟨WK a,WL a⟩⟩⟩,⟨⟨⟨WM a,WN a⟩,⟨WO a,WP a⟩⟩,⟨⟨WQ a,WR a⟩,⟨WS a,WT a⟩⟩⟩⟩,⟨⟨⟨WU a,⟨WV a,WW a⟩⟩,⟨⟨WX a,WY a⟩,⟨WZ a,W0 a⟩⟩⟩,⟨⟨⟨W2 a,W3 a⟩,⟨W4 a,W5 a⟩⟩,⟨⟨W6 a,W7 a⟩,⟨W8 a,W9 a⟩⟩⟩⟩⟩,⟨⟨⟨⟨Xa a,⟨Xb a,Xc a⟩⟩,⟨⟨Xd a,Xe a⟩,⟨Xf a,Xg a⟩⟩⟩,⟨⟨⟨Xh a,Xi a⟩,⟨Xj a,Xk a⟩⟩,⟨⟨Xl a,Xm a⟩,⟨Xn a,Xo a⟩⟩⟩⟩,⟨⟨⟨Xp a,⟨Xq a,Xr a⟩⟩,⟨⟨Xs a,Xt a⟩,⟨Xu a,Xv a⟩⟩⟩,⟨⟨⟨Xw a,Xx a⟩,⟨Xy a,Xz a⟩⟩,⟨⟨XA a,XB a⟩,⟨XC a,XD a⟩⟩⟩⟩⟩⟩⟩⟩
def FM(lp:Lp):Nat->Nat->List D->Option D
 | 0=>λ_ _=>none
 | n+1=>λf xs=>(LG lp).get f (FM lp n) xs
theorem sH{lp:Lp}(a:aj lp):∀ n,fh Tryz.prog (FM lp n)
 | 0=>λf b c xs y _ h _=>by cases h
 | n+1=>adU (Dl a) (sH a n)
end Sy
end
noncomputable section
namespace Sy
open Go Go.Proofs
def aR:Lp:=λ{α β} body=>lw (α:=α) (β:=β) body
def cA(n:Nat):Nat->List D->Option D:=FM aR n
section
variable(n:Nat)(a0 a1 a2 a3 a4 a5 a6:D)
def Za:cA (n+1) 12 [a0]=Oi aR (cA n) a0:=x6
def u13:cA (n+1) 13 [a0,a1]=Rf aR (cA n) a0 a1:=x6
def u15:cA (n+1) 15 [a0]=Rg aR (cA n) a0:=x6
def u32:cA (n+1) 32 [a0,a1]=Oj aR (cA n) a0 a1:=x6
def u34:cA (n+1) 34 [a0]=Ri aR (cA n) a0:=x6
def ZV:cA (n+1) 37 [a0,a1]=Ol aR (cA n) a0 a1:=x6
def u39:cA (n+1) 39 [a0,a1]=Rj aR (cA n) a0 a1:=x6
def u40:cA (n+1) 40 [a0,a1]=OY aR (cA n) a0 a1:=x6
def u47:cA (n+1) 47 [a0]=Rl aR (cA n) a0:=x6
def u48:cA (n+1) 48 [a0]=Rm aR (cA n) a0:=x6
def u54:cA (n+1) 54 [a0]=Ro aR (cA n) a0:=x6
def u57:cA (n+1) 57 [a0,a1]=Rq aR (cA n) a0 a1:=x6
def u59:cA (n+1) 59 [a0,a1]=Om aR (cA n) a0 a1:=x6
def u61:cA (n+1) 61 [a0,a1]=Rr aR (cA n) a0 a1:=x6
def u62:cA (n+1) 62 [a0,a1]=On aR (cA n) a0 a1:=x6
def u68:cA (n+1) 68 [a0]=Rs aR (cA n) a0:=x6
def u70:cA (n+1) 70 [a0]=Pq aR (cA n) a0:=x6
def u73:cA (n+1) 73 [a0,a1]=Rt aR (cA n) a0 a1:=x6
def u74:cA (n+1) 74 [a0]=Ru aR (cA n) a0:=x6
def u75:cA (n+1) 75 [a0]=Rv aR (cA n) a0:=x6
def u76:cA (n+1) 76 [a0]=Oo aR (cA n) a0:=x6
def u77:cA (n+1) 77 [a0]=Rx aR (cA n) a0:=x6
def u78:cA (n+1) 78 [a0,a1]=Ry aR (cA n) a0 a1:=x6
def u80:cA (n+1) 80 [a0]=Rz aR (cA n) a0:=x6
def u81:cA (n+1) 81 [a0,a1]=Pr aR (cA n) a0 a1:=x6
def u82:cA (n+1) 82 [a0,a1]=RA aR (cA n) a0 a1:=x6
def u83:cA (n+1) 83 [a0]=RB aR (cA n) a0:=x6
def u84:cA (n+1) 84 []=RC aR (cA n) :=x6
def u85:cA (n+1) 85 [a0,a1]=Ps aR (cA n) a0 a1:=x6
def u86:cA (n+1) 86 [a0]=RD aR (cA n) a0:=x6
def u87:cA (n+1) 87 [a0,a1]=Oq aR (cA n) a0 a1:=x6
def Oy:cA (n+1) 88 [a0]=J6 aR (cA n) a0:=x6
def u89:cA (n+1) 89 [a0,a1]=Ot aR (cA n) a0 a1:=x6
def u90:cA (n+1) 90 [a0,a1]=RE aR (cA n) a0 a1:=x6
def Y0:cA (n+1) 105 [a0,a1]=H2 aR (cA n) a0 a1:=x6
def Y1:cA (n+1) 106 [a0,a1,a2]=H3 aR (cA n) a0 a1 a2:=x6
def Y2:cA (n+1) 107 [a0,a1]=H4 aR (cA n) a0 a1:=x6
def Y3:cA (n+1) 108 [a0,a1]=H5 aR (cA n) a0 a1:=x6
def Y4:cA (n+1) 109 [a0,a1,a2]=H6 aR (cA n) a0 a1 a2:=x6
def Y5:cA (n+1) 110 [a0,a1]=H7 aR (cA n) a0 a1:=x6
def Y6:cA (n+1) 111 [a0,a1,a2]=H8 aR (cA n) a0 a1 a2:=x6
def Y7:cA (n+1) 112 [a0,a1]=H9 aR (cA n) a0 a1:=x6
def Y8:cA (n+1) 116 [a0,a1]=Ia aR (cA n) a0 a1:=x6
def QV:cA (n+1) 118 [a0]=E7 aR (cA n) a0:=x6
def Y9:cA (n+1) 119 []=Ib aR (cA n) :=x6
def Zb:cA (n+1) 120 [a0,a1]=Ic aR (cA n) a0 a1:=x6
def Zc:cA (n+1) 121 [a0,a1]=Id aR (cA n) a0 a1:=x6
def Zd:cA (n+1) 122 [a0,a1]=Ie aR (cA n) a0 a1:=x6
def Ze:cA (n+1) 123 [a0,a1]=If aR (cA n) a0 a1:=x6
def N5:cA (n+1) 124 [a0]=Ds aR (cA n) a0:=x6
def Zf:cA (n+1) 125 []=Ig aR (cA n) :=x6
def Zg:cA (n+1) 126 [a0,a1]=Ih aR (cA n) a0 a1:=x6
def Zh:cA (n+1) 127 [a0]=Ii aR (cA n) a0:=x6
def N6:cA (n+1) 128 [a0]=Dt aR (cA n) a0:=x6
def Zi:cA (n+1) 129 [a0]=Ij aR (cA n) a0:=x6
def Zj:cA (n+1) 130 []=Ik aR (cA n) :=x6
def Zk:cA (n+1) 131 [a0,a1]=Il aR (cA n) a0 a1:=x6
def QW:cA (n+1) 132 [a0,a1]=E8 aR (cA n) a0 a1:=x6
def Zl:cA (n+1) 133 []=Im aR (cA n) :=x6
def EO:cA (n+1) 136 [a0]=wM aR (cA n) a0:=x6
def Zm:cA (n+1) 137 [a0,a1]=Io aR (cA n) a0 a1:=x6
def Zn:cA (n+1) 138 [a0]=Ip aR (cA n) a0:=x6
def N7:cA (n+1) 139 [a0]=Du aR (cA n) a0:=x6
def Zo:cA (n+1) 140 [a0]=Iq aR (cA n) a0:=x6
def Zp:cA (n+1) 141 [a0,a1]=Ir aR (cA n) a0 a1:=x6
def Zq:cA (n+1) 142 [a0]=Is aR (cA n) a0:=x6
def Zr:cA (n+1) 143 [a0,a1]=It aR (cA n) a0 a1:=x6
def QX:cA (n+1) 144 [a0,a1]=E9 aR (cA n) a0 a1:=x6
def Zs:cA (n+1) 145 [a0]=Iu aR (cA n) a0:=x6
def Zt:cA (n+1) 146 [a0,a1]=Iv aR (cA n) a0 a1:=x6
def QY:cA (n+1) 152 [a0,a1]=Fa aR (cA n) a0 a1:=x6
def Zu:cA (n+1) 155 [a0]=Iw aR (cA n) a0:=x6
def Zv:cA (n+1) 156 [a0,a1,a2,a3,a4]=Ix aR (cA n) a0 a1 a2 a3 a4:=x6
def Zw:cA (n+1) 165 [a0]=Iy aR (cA n) a0:=x6
def QZ:cA (n+1) 167 [a0]=Fb aR (cA n) a0:=x6
def Zx:cA (n+1) 168 [a0,a1]=Iz aR (cA n) a0 a1:=x6
def Zy:cA (n+1) 169 []=IA aR (cA n) :=x6
def Zz:cA (n+1) 170 [a0,a1]=IB aR (cA n) a0 a1:=x6
def ZA:cA (n+1) 171 [a0]=IC aR (cA n) a0:=x6
def Q0:cA (n+1) 172 [a0,a1]=Fc aR (cA n) a0 a1:=x6
def Q3:cA (n+1) 173 [a0,a1]=Fd aR (cA n) a0 a1:=x6
def ZB:cA (n+1) 175 [a0,a1]=ID aR (cA n) a0 a1:=x6
def ZC:cA (n+1) 186 [a0]=IE aR (cA n) a0:=x6
def ZD:cA (n+1) 187 [a0]=IF aR (cA n) a0:=x6
def ZE:cA (n+1) 188 [a0,a1]=IG aR (cA n) a0 a1:=x6
def ZF:cA (n+1) 194 [a0]=IH aR (cA n) a0:=x6
def ZG:cA (n+1) 195 [a0,a1]=II aR (cA n) a0 a1:=x6
def ZH:cA (n+1) 196 [a0]=IJ aR (cA n) a0:=x6
def ZI:cA (n+1) 197 [a0,a1]=IK aR (cA n) a0 a1:=x6
def ZJ:cA (n+1) 201 [a0,a1]=IL aR (cA n) a0 a1:=x6
def ZK:cA (n+1) 202 [a0]=Dv aR (cA n) a0:=x6
def Q4:cA (n+1) 203 [a0,a1]=Fe aR (cA n) a0 a1:=x6
def ZL:cA (n+1) 215 [a0]=IM aR (cA n) a0:=x6
def Q5:cA (n+1) 217 [a0]=Ff aR (cA n) a0:=x6
def ZM:cA (n+1) 324 [a0,a1]=IN aR (cA n) a0 a1:=x6
def ZN:cA (n+1) 331 [a0]=IP aR (cA n) a0:=x6
def ZO:cA (n+1) 336 [a0,a1]=IQ aR (cA n) a0 a1:=x6
def ZP:cA (n+1) 344 [a0,a1]=IR aR (cA n) a0 a1:=x6
def ZQ:cA (n+1) 345 [a0,a1]=IS aR (cA n) a0 a1:=x6
def ZR:cA (n+1) 348 [a0]=IT aR (cA n) a0:=x6
def ZS:cA (n+1) 349 [a0]=IU aR (cA n) a0:=x6
def Q6:cA (n+1) 357 [a0]=Fg aR (cA n) a0:=x6
def ZT:cA (n+1) 364 [a0,a1]=IV aR (cA n) a0 a1:=x6
def ZU:cA (n+1) 365 [a0]=IW aR (cA n) a0:=x6
def ZW:cA (n+1) 388 [a0,a1]=IX aR (cA n) a0 a1:=x6
def ZX:cA (n+1) 392 [a0,a1]=IY aR (cA n) a0 a1:=x6
def ZY:cA (n+1) 394 [a0]=IZ aR (cA n) a0:=x6
def ZZ:cA (n+1) 396 [a0,a1]=I0 aR (cA n) a0 a1:=x6
def Z0:cA (n+1) 426 [a0]=I1 aR (cA n) a0:=x6
def Z1:cA (n+1) 427 [a0]=I2 aR (cA n) a0:=x6
def Z3:cA (n+1) 431 [a0,a1]=I3 aR (cA n) a0 a1:=x6
def Z4:cA (n+1) 446 [a0,a1]=I4 aR (cA n) a0 a1:=x6
def Z5:cA (n+1) 471 [a0,a1,a2,a3,a4]=I6 aR (cA n) a0 a1 a2 a3 a4:=x6
def Z6:cA (n+1) 481 [a0,a1,a2,a3,a4]=I7 aR (cA n) a0 a1 a2 a3 a4:=x6
def Z7:cA (n+1) 482 [a0,a1,a2,a3,a4]=I8 aR (cA n) a0 a1 a2 a3 a4:=x6
def Z8:cA (n+1) 483 [a0,a1,a2,a3,a4,a5,a6]=I9 aR (cA n) a0 a1 a2 a3 a4 a5 a6:=x6
def Z9:cA (n+1) 484 [a0,a1,a2,a3,a4,a5,a6]=Ja aR (cA n) a0 a1 a2 a3 a4 a5 a6:=x6
def aaa:cA (n+1) 496 [a0]=Jb aR (cA n) a0:=x6
def aab:cA (n+1) 497 [a0,a1,a2,a3,a4,a5]=Jc aR (cA n) a0 a1 a2 a3 a4 a5:=x6
def aac:cA (n+1) 498 [a0,a1,a2]=Jd aR (cA n) a0 a1 a2:=x6
def aad:cA (n+1) 499 [a0,a1]=Je aR (cA n) a0 a1:=x6
def aae:cA (n+1) 500 [a0,a1,a2]=Jf aR (cA n) a0 a1 a2:=x6
def aaf:cA (n+1) 501 [a0]=Jg aR (cA n) a0:=x6
def aag:cA (n+1) 502 [a0,a1]=Jh aR (cA n) a0 a1:=x6
def aah:cA (n+1) 503 [a0,a1,a2]=Ji aR (cA n) a0 a1 a2:=x6
def aai:cA (n+1) 504 [a0,a1,a2]=Jj aR (cA n) a0 a1 a2:=x6
def aaj:cA (n+1) 505 [a0,a1]=Jk aR (cA n) a0 a1:=x6
def aak:cA (n+1) 516 [a0,a1,a2]=Jl aR (cA n) a0 a1 a2:=x6
def aal:cA (n+1) 517 [a0]=Jm aR (cA n) a0:=x6
def aam:cA (n+1) 519 [a0,a1,a2]=Jo aR (cA n) a0 a1 a2:=x6
def aan:cA (n+1) 520 [a0,a1]=Jp aR (cA n) a0 a1:=x6
def aao:cA (n+1) 521 [a0,a1]=Jq aR (cA n) a0 a1:=x6
def aap:cA (n+1) 522 [a0]=Jr aR (cA n) a0:=x6
def aaq:cA (n+1) 523 [a0]=Js aR (cA n) a0:=x6
def aar:cA (n+1) 525 [a0]=Jt aR (cA n) a0:=x6
def aas:cA (n+1) 526 [a0,a1]=Ju aR (cA n) a0 a1:=x6
def aat:cA (n+1) 527 [a0,a1]=Jv aR (cA n) a0 a1:=x6
def aau:cA (n+1) 528 [a0,a1]=Jw aR (cA n) a0 a1:=x6
def aav:cA (n+1) 529 [a0,a1,a2]=Jx aR (cA n) a0 a1 a2:=x6
def aaw:cA (n+1) 530 [a0]=Jy aR (cA n) a0:=x6
def aax:cA (n+1) 531 [a0]=Jz aR (cA n) a0:=x6
def Q7:cA (n+1) 533 [a0,a1]=Fh aR (cA n) a0 a1:=x6
def aay:cA (n+1) 534 [a0,a1]=JA aR (cA n) a0 a1:=x6
def aaz:cA (n+1) 535 [a0]=JB aR (cA n) a0:=x6
def aaA:cA (n+1) 546 [a0]=JC aR (cA n) a0:=x6
def aaB:cA (n+1) 547 [a0]=JD aR (cA n) a0:=x6
def aaC:cA (n+1) 548 [a0,a1,a2]=JE aR (cA n) a0 a1 a2:=x6
def aaD:cA (n+1) 549 [a0,a1]=JF aR (cA n) a0 a1:=x6
def aaE:cA (n+1) 550 [a0,a1]=JG aR (cA n) a0 a1:=x6
def aaF:cA (n+1) 551 [a0]=JH aR (cA n) a0:=x6
def aaG:cA (n+1) 552 [a0]=MG aR (cA n) a0:=x6
def aaH:cA (n+1) 553 [a0]=JI aR (cA n) a0:=x6
def aaI:cA (n+1) 554 [a0]=JJ aR (cA n) a0:=x6
def aaJ:cA (n+1) 555 [a0]=JK aR (cA n) a0:=x6
def aaK:cA (n+1) 556 [a0,a1]=JL aR (cA n) a0 a1:=x6
def aaL:cA (n+1) 557 [a0,a1]=JM aR (cA n) a0 a1:=x6
def aaM:cA (n+1) 558 [a0]=JN aR (cA n) a0:=x6
def aaN:cA (n+1) 559 [a0,a1,a2]=JO aR (cA n) a0 a1 a2:=x6
def aaO:cA (n+1) 560 [a0,a1]=JP aR (cA n) a0 a1:=x6
def aaP:cA (n+1) 561 [a0]=JQ aR (cA n) a0:=x6
def aaQ:cA (n+1) 562 [a0]=JR aR (cA n) a0:=x6
def aaR:cA (n+1) 563 [a0,a1,a2]=JS aR (cA n) a0 a1 a2:=x6
def aaS:cA (n+1) 564 [a0,a1]=JT aR (cA n) a0 a1:=x6
def aaT:cA (n+1) 565 [a0,a1]=JU aR (cA n) a0 a1:=x6
def aaU:cA (n+1) 569 [a0,a1]=JV aR (cA n) a0 a1:=x6
def aaV:cA (n+1) 572 [a0]=JW aR (cA n) a0:=x6
def aaW:cA (n+1) 573 [a0,a1,a2]=JX aR (cA n) a0 a1 a2:=x6
def aaX:cA (n+1) 574 [a0]=JY aR (cA n) a0:=x6
def aaY:cA (n+1) 575 [a0]=JZ aR (cA n) a0:=x6
def aaZ:cA (n+1) 576 [a0,a1,a2,a3]=J0 aR (cA n) a0 a1 a2 a3:=x6
def aa0:cA (n+1) 577 [a0,a1,a2,a3,a4]=J1 aR (cA n) a0 a1 a2 a3 a4:=x6
def aa1:cA (n+1) 578 [a0]=J2 aR (cA n) a0:=x6
def aa2:cA (n+1) 580 [a0,a1,a2]=J3 aR (cA n) a0 a1 a2:=x6
def aa3:cA (n+1) 581 [a0]=J4 aR (cA n) a0:=x6
def aa4:cA (n+1) 582 [a0,a1]=J5 aR (cA n) a0 a1:=x6
end
end Sy
end
end Go.Proofs.YtmnkibhalflchaaGreat
