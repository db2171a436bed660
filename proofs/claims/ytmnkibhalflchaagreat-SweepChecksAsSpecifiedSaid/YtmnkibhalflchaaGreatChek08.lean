/- Part 8 of the proof that SweepChecksAsSpecified answers true at every input -/
import Derived.Test.YtmnkibhalflchaaGreatChek06
import Derived.Maps.RangeRun
set_option linter.unusedVariables false
set_option linter.unusedSimpArgs false
set_option linter.unnecessarySimpa false
set_option linter.defProp false
set_option maxRecDepth 20000
namespace Go.Proofs.YtmnkibhalflchaaGreat
noncomputable section
set_option maxHeartbeats 0
noncomputable section
namespace Sy
open Go Go.Proofs
section
variable{lp}(a:aj lp)
def Tp:Ann:=(.tl (.tl (.tl (.two (.tl (.two (.loop ⟨[(5,.sp bP 4101),(6,.sp K3 4102),(7,.sp bP 4103),(8,.sp K3 4104),(11,.sp aG 8203),(12,.sp aG 12300),(13,.di)],[(4101,.keep bP 5),(4102,.keep K3 6),(4103,.keep bP 7),(4104,.keep K3 8),(8203,.one aG (.dv aG)),(12300,.keep aG 12)],[4]⟩ [(.ret,⟨[(10,.dv Ty.bool)],[],[]⟩),(.exit 0,⟨[(11,.sp aG 8203),(12,.sp aG 12300)],[(8203,.one aG (.dv aG)),(12300,.keep aG 12)],[]⟩)] (.tl (.two (.two (.tl (.tl (.two (.reg [] 12) .leaf))) .leaf) .leaf))) .leaf)) .leaf))))
def I8(lp:Lp)(c:Ca)(a0 a1:D)(a2 a3 a4:D):Option D:=(c 75 [(Jn 0)]).bind λr1=>(c 75 [(Jn 1)]).bind λG=>(qZ lp (λv3=>qL a4 (gx v3 0) λH=>if H then(qX a4 (gx v3 0) λI=>(D.fld I 0).bind λa=>(c 88 [a]).bind λo=>qN o λd=>(if d then(some true) else((c 324 [a,(gx v3 1)]).bind λp=>qB .leq p (Jn 0) λw=>D.truth w)).bind λe=>qT (D.bool e) λf=>(if f then(some true) else((c 324 [a,G]).bind λq=>qB .gtr q (Jn 0) λx=>D.truth x)).bind λg=>qT (D.bool g) λh=>(if h then(some true) else(qG a [1] λy=>(c 426 [y]).bind λr=>qB .gtr r (Jn 21) λz=>D.truth z)).bind λi=>qT (D.bool i) λj=>(if j then(some true) else(qG a [1] λA=>(c 426 [A]).bind λs=>qT (D.bool (D.beq s (Jn 21))) λk=>if k then(qG a [1] λB=>(c 34 [(Jn 1048576)]).bind λt=>(c 32 [B,t]).bind λu=>D.truth (D.bool (!(D.beq u (Jn 0))))) else(some false))).bind λl=>qT (D.bool l) λm=>if m then(iR (0,[(D.bool false)])) else(qX a4 (gx v3 0) λC=>(D.fld C 1).bind λE=>(c 484 [E,a0,a1,a2,a3,(gx v3 1),a]).bind λv=>qN v λn=>if n then(iR (0,[(D.bool false)])) else(qB .add (gx v3 0) (Jn 1) λF=>iL [F,a]))) else(iR (1,[(gx v3 1)]))) [(Jn 0),r1]).bind λb=>if b.1=0 then(some (gx b.2 0)) else(some (D.bool (D.beq (gx b.2 0) G)))
def Wn:af 482 (m5 (I8 lp)):=vH 0 Tryz.f19 Tp a
def I9(lp:Lp)(c:Ca)(a0 a1:D)(a2 a3:D)(a4 a5 a6:D):Option D:=(c 496 [a0]).bind λr1=>qN r1 λa=>if a then(some (D.bool false)) else((c 497 [a1,a2,(Jn (-1)),a0,a5,a6]).bind λe=>qT e λb=>(if b then((c 497 [a3,a4,(Jn 1),a0,a5,a6]).bind λf=>D.truth f) else(some false)).bind λd=>some (D.bool d))
def Wo:af 483 (m7 (I9 lp)):=GC 1 Tryz.f21 .leaf a
def Tq:Ann:=let a:LO:=[(4103,.keep cR 7),(4106,.keep bP 10),(4107,.keep K3 11),(4108,.keep aG 12),(4109,.keep aG 13)];(.tl (.tl (.two (.tl (.two (.loop ⟨[(7,.sp cR 4103),(8,.sp bP 4104),(9,.sp K3 4105),(10,.sp bP 4106),(11,.sp K3 4107),(12,.sp aG 4108),(13,.sp aG 4109),(15,.di)],[(4103,.keep cR 7),(4104,.keep bP 8),(4105,.keep K3 9),(4106,.keep bP 10),(4107,.keep K3 11),(4108,.keep aG 12),(4109,.keep aG 13)],[]⟩ [(.ret,⟨[(14,.dv Ty.bool)],[],[]⟩),(.exit 0,⟨[(7,.sp cR 4103),(10,.sp bP 4106),(11,.sp K3 4107),(12,.sp aG 4108),(13,.sp aG 4109)],a,[]⟩)] (.tl (.two (.two (.two (.reg [] 10) .leaf) .leaf) .leaf))) .leaf)) (.two (.tl (.two (.loop ⟨[(7,.sp cR 4103),(10,.sp bP 4106),(11,.sp K3 4107),(12,.sp aG 4108),(13,.sp aG 4109),(18,.di)],a,[]⟩ [(.ret,⟨[(14,.dv Ty.bool)],[],[]⟩),(.exit 2,⟨[],[],[]⟩)] (.tl (.two (.two (.two (.reg [] 11) .leaf) .leaf) .leaf))) .leaf)) .leaf))))
def Ja(lp:Lp)(c:Ca)(a0 a1:D)(a2 a3:D)(a4 a5 a6:D):Option D:=(c 501 [a0]).bind λr1=>qN r1 λq=>if q then(some (D.bool false)) else((qZ lp (λv4=>qM a2 [0] (gx v4 0) λr=>if r then(qY a2 [0] (gx v4 0) λm=>(c 503 [a1,m,a0]).bind λg=>(c 34 [(Jn (-1))]).bind λh=>(c 502 [g,h]).bind λi=>(c 504 [i,a5,a6]).bind λj=>qN j λd=>if d then(iR (0,[(D.bool false)])) else(qB .add (gx v4 0) (Jn 1) λn=>iL [n])) else(iR (1,[]))) [(Jn 0)]).bind λa=>if a.1=0 then(some (gx a.2 0)) else((qZ lp (λv21=>qM a4 [0] (gx v21 0) λe=>if e then(qY a4 [0] (gx v21 0) λo=>(c 503 [a3,o,a0]).bind λk=>(c 504 [k,a5,a6]).bind λl=>qN l λf=>if f then(iR (0,[(D.bool false)])) else(qB .add (gx v21 0) (Jn 1) λp=>iL [p])) else(iR (1,[]))) [(Jn 0)]).bind λb=>if b.1=0 then(some (gx b.2 0)) else(some (D.bool true))))
def Wp:af 484 (m7 (Ja lp)):=GC 0 Tryz.f22 Tq a
def Pa(lp:Lp)(c:Ca)(a0 a1:D):Option D:=(c 173 [a0,a1]).bind λr1=>(c 333 [(Jn 1),(Jn 2)]).bind λa=>(c 174 [r1,a]).bind λb=>some b
def Wq:af 485 (m2 (Pa lp)):=aD 0 Tryz.f25 .leaf a
def Tr:Ann:=(.tl (.tl (.tl (.two (.tl (.two (.loop ⟨[(5,.sp aG 4101),(6,.sp jz 4102),(7,.sp pE 8199),(9,.sp jz 12297),(17,.di)],[(4101,.keep aG 5),(4102,.keep jz 6),(8199,.keep pE 7),(12297,.one jz (.dv jz))],[8]⟩ [(.exit 0,⟨[(6,.sp jz 4102),(9,.sp jz 12297)],[(4102,.keep jz 6),(12297,.one jz (.dv jz))],[]⟩)] (.tl (.tl (.two (.two (.tl (.reg [] 11)) .leaf) .leaf)))) .leaf)) .leaf))))
def Pb(lp:Lp)(c:Ca)(a0 a1 a2:D):Option D:=(c 505 [a0,a1]).bind λr1=>(D.tupAt r1 0).bind λi=>(D.tupAt r1 1).bind λj=>(qZ lp (λv4=>qC .lss (gx v4 0) (Jn 3) λg=>if g then(qJ (gx v4 0) 3 i λk=>(c 506 [k,a2]).bind λh=>(c 506 [j,a2]).bind λa=>(c 352 [h,a]).bind λb=>(D.idx (gx v4 0) 3).bind λvD=>(D.set (gx v4 1) [vD] b).bind λe=>qB .add (gx v4 0) (Jn 1) λf=>iL [f,e]) else(iR (0,[(gx v4 1)]))) [(Jn 0),(D.st [(D.st [(D.st [(D.bool false),(D.bool false),(az aZ)]),(D.st [(D.bool false),(D.bool false),(az aZ)])]),(D.st [(D.st [(D.bool false),(D.bool false),(az aZ)]),(D.st [(D.bool false),(D.bool false),(az aZ)])]),(D.st [(D.st [(D.bool false),(D.bool false),(az aZ)]),(D.st [(D.bool false),(D.bool false),(az aZ)])])])]).bind λd=>some (gx d.2 0)
def Wr:af 486 (m3 (Pb lp)):=gN 0 Tryz.f30 Tr a
def OD:Ann:=let a:LO:=[(4096,.one K3 (.st [K2] [.ow K1])),(8193,.one K3 (.st [K2] [.ow K1]))];(.tl (.tl (.two (.tl (.two (.loop ⟨[(0,.sp K3 4096),(1,.sp K3 8193),(3,.di)],a,[]⟩ [(.exit 0,⟨[(0,.sp K3 4096),(1,.sp K3 8193)],a,[]⟩)] .leaf) .leaf)) .leaf)))
def Ws:af 487 (vp 0 lp 487 Tryz.f39 OD):=jN a x6 x6
def Wt:af 488 (vp 0 lp 488 Tryz.f40 .leaf):=jN a x6 x6
def Tt:Ann:=(.tl (.two (.two (.tl (.tl (.tl (.tl (.tl (.two (.two (.reg [] 6) .leaf) .leaf)))))) .leaf) (.tl (.tl (.two (.reg [] 15) .leaf)))))
def Pc(lp:Lp)(c:Ca)(a0 a1:D):Option D:=(c 136 [a0]).bind λr1=>qN r1 λI=>(if I then(some true) else((c 136 [a1]).bind λL=>(aeb .not L).bind λN=>D.truth N)).bind λJ=>qT (D.bool J) λK=>(if K then(some true) else((c 73 [a0,a1]).bind λM=>qB .gtr M (Jn 0) λO=>D.truth O)).bind λd=>qT (D.bool d) λe=>if e then((c 130 []).bind λk=>some k) else((c 342 [a0]).bind λl=>qC .leq l (Jn 0) λf=>(if f then((c 342 [a1]).bind λm=>qB .geq m (Jn 0) λH=>D.truth H) else(some false)).bind λg=>qT (D.bool g) λh=>if h then((c 74 [(Jn 0)]).bind λn=>some n) else((c 342 [a1]).bind λo=>qC .lss o (Jn 0) λi=>if i then((c 357 [a1]).bind λp=>(c 357 [a0]).bind λq=>(c 490 [p,q]).bind λr=>(c 357 [r]).bind λs=>some s) else((c 509 [a0]).bind λt=>(c 138 [t]).bind λb=>(c 73 [b,a1]).bind λu=>qC .leq u (Jn 0) λj=>if j then(some b) else((c 510 [a0]).bind λv=>(c 138 [v]).bind λa=>(c 74 [(Jn 1)]).bind λw=>(c 74 [(Jn 1)]).bind λx=>(c 336 [a1,a]).bind λy=>(c 352 [x,y]).bind λz=>(c 74 [(Jn 1)]).bind λA=>(c 336 [a0,a]).bind λB=>(c 352 [A,B]).bind λC=>(c 490 [z,C]).bind λE=>(c 352 [w,E]).bind λF=>(c 173 [a,F]).bind λG=>some G))))
def Wu:af 490 (m2 (Pc lp)):=aD 0 Tryz.f46 Tt a
def Tu:Ann:=(.tl (.two (.tl (.two (.loop ⟨[(1,.sp cR 4097),(7,.di)],[(4097,.keep cR 1)],[6]⟩ [(.ret,⟨[(2,.dv Ty.bool)],[],[]⟩),(.exit 0,⟨[(1,.sp cR 4097)],[(4097,.keep cR 1)],[]⟩)] .leaf) .leaf)) .leaf))
def Jb(lp:Lp)(c:Ca)(a0:D):Option D:=qG a0 [0] λx1=>(qZ lp (λv2=>qC .lss (gx v2 0) (Jn 3) λl=>if l then((D.idx (gx v2 0) 3).bind λi5=>(D.fld x1 i5).bind λk=>qC .geq k (Jn 2305843009213693952) λm=>(if m then(some true) else(qB .leq k (Jn (-2305843009213693952)) λn=>D.truth n)).bind λb=>qT (D.bool b) λd=>if d then(iR (0,[(D.bool false)])) else(qB .add (gx v2 0) (Jn 1) λh=>iL [h])) else(iR (1,[]))) [(Jn 0)]).bind λa=>if a.1=0 then(some (gx a.2 0)) else(qG a0 [0] λi=>qT (D.bool (!(D.beq i (D.st [(Jn 0),(Jn 0),(Jn 0)])))) λe=>(if e then(qG a0 [1] λj=>(c 136 [j]).bind λg=>D.truth g) else(some false)).bind λf=>some (D.bool f))
def Wv:af 496 (m1 (Jb lp)):=aJ 0 Tryz.f62 Tu a
def Tv:Ann:=let a:LO:=[(0,.keep cR 3),(1,.keep aG 4),(2,.keep aG 5)];(.tl (.two (.tl (.two (.loop ⟨[(3,.sp cR 0),(4,.sp aG 1),(5,.sp aG 2),(6,.sp bP 4102),(15,.di)],[(0,.keep cR 3),(1,.keep aG 4),(2,.keep aG 5),(4102,.keep bP 6)],[2,13,14]⟩ [(.ret,⟨[(3,.sp cR 0),(4,.sp aG 1),(5,.sp aG 2),(9,.dv Ty.bool)],a,[]⟩),(.exit 0,⟨[(3,.sp cR 0),(4,.sp aG 1),(5,.sp aG 2)],a,[]⟩)] (.tl (.tl (.two (.two (.tl (.two (.reg [] 10) .leaf)) .leaf) .leaf)))) .leaf)) .leaf))
def Jc(lp:Lp)(c:Ca)(a0 a1:D)(a2 a3:D)(a4 a5:D):Option D:=qG a1 [0] λx1=>qS x1 λi=>(qZ lp (λv3=>qC .lss (gx v3 0) (Jn (i.length)) λh=>if h then(qX x1 (gx v3 0) λk=>(c 500 [a0,k,a3]).bind λj=>(c 54 [a2]).bind λd=>(c 499 [j,d]).bind λe=>(c 498 [e,a4,a5]).bind λf=>qN f λb=>if b then(iR (0,[(D.bool false)])) else(qB .add (gx v3 0) (Jn 1) λg=>iL [g])) else(iR (1,[]))) [(Jn 0)]).bind λa=>if a.1=0 then(some (gx a.2 0)) else(some (D.bool true))
def Ww:af 497 (m6 (Jc lp)):=Mm 0 Tryz.f63 Tv a
def Tw:Ann:=(.tl (.tl (.two (.tl (.two (.loop ⟨[(8,.dv Ty.bool),(20,.di)],[],[18,19]⟩ [(.exit 0,⟨[(8,.dv Ty.bool)],[],[]⟩)] .leaf) .leaf)) .leaf)))
def Jd(lp:Lp)(c:Ca)(a0 a1 a2:D):Option D:=(c 516 [a0,a1,a2]).bind λr1=>(D.tupAt r1 0).bind λi=>(D.tupAt r1 1).bind λl=>qS i λk=>(qZ lp (λv5=>qC .lss (gx v5 1) (Jn (k.length)) λj=>if j then(qX i (gx v5 1) λf=>qT (gx v5 0) λa=>(if a then((c 129 [f]).bind λd=>qB .geq d (Jn 0) λg=>D.truth g) else(some false)).bind λb=>qB .add (gx v5 1) (Jn 1) λh=>iL [(D.bool b),h]) else(iR (0,[(gx v5 0)]))) [l,(Jn 0)]).bind λe=>some (gx e.2 0)
def Wx:af 498 (m3 (Jd lp)):=gN 0 Tryz.f64 Tw a
def Tx:Ann:=(.tl (.tl (.two (.regI [] 4 (.two (.tl (.tl (.two (.regI [] 8 (.two (.tl (.tl (.two (.tl (.two (.loop ⟨[(1,.same (.clo 224 [(.ptr Ty.fn 20485 []),(.ptr be 20483 []),(.ptr be 20484 [])])),(2,.same (.clo 225 [])),(7,.ow am),(15,.di)],[(4099,.one am (.dv am)),(20483,.one be (.dv be)),(20484,.one be (.ow am)),(20485,.fv (.clo 141 [(.ptr am 4099 [])]))],[14]⟩ [(.ret,⟨[(6,.dv be)],[],[]⟩),(.exit 0,⟨[(7,.ow am)],[],[]⟩)] (.tl (.tl (.two (.two (.tl (.two (.regI [] 7 (.two (.tl (.two (.reg [] 7) .leaf)) .leaf)) .leaf)) .leaf) .leaf)))) .leaf)) (.two (.two (.loop ⟨[(7,.dv be)],[],[]⟩ [(.exit 2,⟨[(7,.dv be)],[],[]⟩)] .leaf) .leaf) .leaf)))) .leaf)) .leaf))) .leaf)) .leaf)))
def Je(lp:Lp)(c:Ca)(a0 a1:D):Option D:=(c 517 [a1]).bind λr1=>qN r1 λJ=>if J then((c 518 []).bind λN=>some N) else((c 546 [a0]).bind λO=>qT O λK=>(if K then(some true) else((c 546 [(D.sl [])]).bind λP=>D.truth P)).bind λL=>qT (D.bool L) λM=>if M then((c 518 []).bind λu=>some u) else(qS a0 λn=>(D.max2 (Jn (n.length)) (Jn 0)).bind λg=>(D.max2 g (Jn 0)).bind λC=>(D.natOf C).bind λi14=>if i14<=1073741824 then((D.max2 g (Jn 0)).bind λE=>(qZ lp (λa=>qC .lss (gx a 1) E λh=>if h then((c 550 [(gx a 3),(gx a 1)]).bind λv=>(c 550 [(qW a 4),(gx a 1)]).bind λw=>(c 519 [v,w,(gx a 2)]).bind λx=>(c 552 [x]).bind λd=>(c 517 [d]).bind λy=>qN y λi=>if i then((c 518 []).bind λz=>iR (0,[z])) else(if List.length (qV a 0)+List.length [d]<=1073741824 then(qB .add (gx a 1) (Jn 1) λF=>iL [(D.sl ((qV a 0)++[d])),F,(gx a 2),(gx a 3),(qW a 4)]) else none)) else(iR (1,[(qW a 0)]))) [(D.sl []),(Jn 0),a1,a0,(D.sl [])]).bind λe=>if e.1=0 then(some (gx e.2 0)) else((qZ lp (λb=>qS (gx b 0) λo=>qC .gtr (Jn (o.length)) (Jn 0) λj=>(if j then(qS (gx b 0) λp=>qB .sub (Jn (p.length)) (Jn 1) λG=>qX (gx b 0) G λH=>(c 129 [H]).bind λA=>D.truth (D.bool (D.beq A (Jn 0)))) else(some false)).bind λk=>qT (D.bool k) λl=>if l then(qS (gx b 0) λq=>qB .sub (Jn (q.length)) (Jn 1) λI=>qS (gx b 0) λr=>(D.natOf I).bind λi44=>(D.cut r 0 i44).bind λs=>iL [(D.sl s)]) else(iR (0,[(gx b 0)]))) [(qW e.2 0)]).bind λf=>qS (gx f.2 0) λt=>qC .gtr (Jn (t.length)) (Jn 25) λm=>if m then((c 518 []).bind λB=>some B) else(some (gx f.2 0)))) else none))
def Wy:af 499 (m2 (Je lp)):=aD 4 Tryz.f65 Tx a
def Tz:Ann:=(.tl (.tl (.tl (.two (.tl (.two (.loop ⟨[(5,.sp cR 4101),(9,.dv be),(19,.di)],[(4101,.keep cR 5)],[8,18]⟩ [(.exit 0,⟨[(5,.sp cR 4101),(9,.dv be)],[(4101,.keep cR 5)],[8]⟩)] .leaf) .leaf)) (.two (.reg [] 11) .leaf)))))
def Jf(lp:Lp)(c:Ca)(a0 a1 a2:D):Option D:=(c 505 [a0,a1]).bind λr1=>(D.tupAt r1 0).bind λn=>(D.tupAt r1 1).bind λo=>(qZ lp (λv4=>qC .lss (gx v4 1) (Jn 3) λm=>if m then((D.idx (gx v4 1) 3).bind λi7=>(D.fld n i7).bind λp=>(D.idx (gx v4 1) 3).bind λi9=>qG a2 [0,i9] λi=>(c 54 [i]).bind λa=>(c 499 [p,a]).bind λb=>(c 520 [(gx v4 0),b]).bind λd=>qB .add (gx v4 1) (Jn 1) λj=>iL [d,j]) else(iR (0,[(gx v4 0)]))) [(D.sl []),(Jn 0)]).bind λe=>qG a2 [1,1] λk=>(c 499 [(gx e.2 0),k]).bind λf=>qG a2 [1,0] λl=>(c 499 [o,l]).bind λg=>(c 521 [f,g]).bind λh=>some h
def Wz:af 500 (m3 (Jf lp)):=gN 0 Tryz.f66 Tz a
def TA:Ann:=(.tl (.tl (.two (.tl (.two (.loop ⟨[(1,.sp cR 4097),(4,.di)],[(4097,.keep cR 1)],[3]⟩ [(.ret,⟨[(2,.dv Ty.bool)],[],[]⟩),(.exit 0,⟨[(1,.sp cR 4097)],[(4097,.keep cR 1)],[3]⟩)] .leaf) .leaf)) .leaf)))
def Jg(lp:Lp)(c:Ca)(a0:D):Option D:=qG a0 [0] λx1=>(qZ lp (λv2=>qC .lss (gx v2 0) (Jn 3) λl=>if l then((D.idx (gx v2 0) 3).bind λi5=>qG a0 [0,i5] λn=>qC .geq n (Jn 2305843009213693952) λm=>(if m then(some true) else((D.idx (gx v2 0) 3).bind λi9=>qG a0 [0,i9] λh=>qB .leq h (Jn (-2305843009213693952)) λi=>D.truth i)).bind λb=>qT (D.bool b) λd=>if d then(iR (0,[(D.bool false)])) else(qB .add (gx v2 0) (Jn 1) λj=>iL [j])) else(iR (1,[]))) [(Jn 0)]).bind λa=>if a.1=0 then(some (gx a.2 0)) else(qN (D.bool (D.beq x1 (D.st [(Jn 0),(Jn 0),(Jn 0)]))) λe=>(if e then(qG a0 [1] λk=>(c 88 [k]).bind λg=>D.truth g) else(some false)).bind λf=>some (D.bool f))
def WA:af 501 (m1 (Jg lp)):=aJ 0 Tryz.f67 TA a
def TC:Ann:=(.tl (.tl (.tl (.two (.tl (.two (.loop ⟨[(3,.sp am 4099),(5,.ow am),(6,.di)],[(4099,.keep am 3)],[0]⟩ [(.exit 0,⟨[(5,.ow am)],[],[]⟩)] (.tl (.two (.two (.reg [] 8) .leaf) .leaf))) .leaf)) .leaf))))
def Jh(lp:Lp)(c:Ca)(a0 a1:D):Option D:=(c 522 [a0]).bind λr1=>qT r1 λb2=>(if b2 then(some true) else((c 523 [a1]).bind λk=>(aeb .not k).bind λm=>D.truth m)).bind λi=>qT (D.bool i) λj=>if j then((c 524 []).bind λl=>some l) else((qZ lp (λa=>qL a0 (gx a 1) λd=>if d then(qX a0 (gx a 1) λg=>(c 89 [g,a1]).bind λb=>if List.length (qV a 0)+List.length [b]<=1073741824 then(qB .add (gx a 1) (Jn 1) λh=>iL [(D.sl ((qV a 0)++[b])),h]) else none) else(iR (0,[(qW a 0)]))) [(D.sl []),(Jn 0)]).bind λe=>(c 525 [(qW e.2 0)]).bind λf=>some f)
def WB:af 502 (m2 (Jh lp)):=aD 0 Tryz.f68 TC a
def TD:Ann:=(.tl (.tl (.two (.reg [] 8) (.two (.reg [] 10) (.two (.reg [] 10) (.two (.reg [] 12) .leaf))))))
def Ji(lp:Lp)(c:Ca)(a0 a1 a2:D):Option D:=(c 526 [a0,a1]).bind λr1=>qG r1 [0,0] λr=>qG a2 [0,0] λs=>(c 34 [s]).bind λn=>(c 502 [r,n]).bind λo=>qG r1 [0,1] λt=>qG a2 [0,1] λu=>(c 34 [u]).bind λp=>(c 502 [t,p]).bind λq=>(c 527 [o,q]).bind λa=>qG r1 [0,2] λi=>qG a2 [0,2] λj=>(c 34 [j]).bind λb=>(c 502 [i,b]).bind λd=>(c 527 [a,d]).bind λe=>qG a2 [1,1] λk=>(c 502 [e,k]).bind λf=>qG r1 [1] λl=>qG a2 [1,0] λm=>(c 502 [l,m]).bind λg=>(c 528 [f,g]).bind λh=>some h
def WC:af 503 (m3 (Ji lp)):=gN 0 Tryz.f69 TD a
def TE:Ann:=(.tl (.tl (.tl (.two (.tl (.two (.loop ⟨[(7,.sp uF 8199),(8,.dv Ty.bool),(9,.di)],[(8199,.keep uF 7)],[]⟩ [(.exit 0,⟨[(8,.dv Ty.bool)],[],[]⟩)] .leaf) .leaf)) .leaf))))
def Jj(lp:Lp)(c:Ca)(a0 a1 a2:D):Option D:=(c 529 [a0,a1,a2]).bind λr1=>qG r1 [1] λj=>(qZ lp (λv3=>qM r1 [0] (gx v3 1) λh=>if h then(qT (gx v3 0) λi=>(if i then(qY r1 [0] (gx v3 1) λe=>(c 83 [e]).bind λb=>qB .geq b (Jn 0) λf=>D.truth f) else(some false)).bind λa=>qB .add (gx v3 1) (Jn 1) λg=>iL [(D.bool a),g]) else(iR (0,[(gx v3 0)]))) [j,(Jn 0)]).bind λd=>some (gx d.2 0)
def WD:af 504 (m3 (Jj lp)):=gN 0 Tryz.f70 TE a
def TF:Ann:=let a:LO:=[(4098,.keep bP 2),(4099,.keep K1 3),(4100,.keep pE 4),(86030,.keep HS 14),(90127,.one pE (.dv pE))];(.tl (.two (.reg [] 5) (.two (.reg [] 11) (.tl (.tl (.two (.regI [] 57 .leaf) (.tl (.two (.tl (.two (.loop ⟨[(2,.sp bP 4098),(3,.sp K1 4099),(4,.sp pE 4100),(14,.sp HS 86030),(15,.sp pE 90127),(89,.di)],a,[7]⟩ [(.exit 0,⟨[(4,.sp pE 4100),(15,.sp pE 90127)],[(4100,.keep pE 4),(90127,.one pE (.dv pE))],[7]⟩)] (.tl (.tl (.two (.two (.tl (.two (.reg [] 22) (.tl (.two (.loop ⟨[(2,.sp bP 4098),(3,.sp K1 4099),(4,.sp pE 4100),(14,.sp HS 86030),(15,.sp pE 90127),(115,.di)],a,[7,16,89,114]⟩ [(.exit 2,⟨[(2,.sp bP 4098),(3,.sp K1 4099),(4,.sp pE 4100),(14,.sp HS 86030),(15,.sp pE 90127)],a,[7,89]⟩)] (.tl (.tl (.two (.two (.tl (.reg [] 15)) .leaf) .leaf)))) .leaf)))) .leaf) .leaf)))) .leaf)) .leaf))))))))
def Jk(lp:Lp)(c:Ca)(a0 a1:D):Option D:=(c 530 [a0]).bind λr1=>(c 531 [a0]).bind λS=>qG r1 [0] λf=>qG r1 [1] λb=>qG r1 [2] λd=>qG r1 [3] λe=>(c 54 [(Jn (-1))]).bind λT=>(c 499 [f,T]).bind λE=>(c 533 [(Jn 1),(D.sl [f,f,b,b])]).bind λU=>(c 533 [(Jn 1),(D.sl [d,d,e,e])]).bind λi=>(c 521 [U,i]).bind λj=>(c 533 [(Jn 2),(D.sl [b,d,E,e])]).bind λk=>(c 533 [(Jn 2),(D.sl [b,e,f,d])]).bind λl=>(c 533 [(Jn 2),(D.sl [b,d,f,e])]).bind λm=>(c 533 [(Jn 1),(D.sl [f,f,d,d])]).bind λn=>(c 533 [(Jn 1),(D.sl [b,b,e,e])]).bind λo=>(c 521 [n,o]).bind λp=>(c 533 [(Jn 2),(D.sl [d,e,E,b])]).bind λq=>(c 533 [(Jn 2),(D.sl [b,e,E,d])]).bind λr=>(c 533 [(Jn 2),(D.sl [d,e,f,b])]).bind λs=>(c 533 [(Jn 1),(D.sl [f,f,e,e])]).bind λt=>(c 533 [(Jn 1),(D.sl [b,b,d,d])]).bind λu=>(c 521 [t,u]).bind λv=>(qZ lp (λv24=>qC .lss (gx v24 0) (Jn 3) λg=>if g then((D.idx (gx v24 0) 3).bind λi27=>qG a0 [0,0,i27] λF=>(D.idx (gx v24 0) 3).bind λi29=>qG a0 [1,0,i29] λG=>(D.idx (gx v24 0) 3).bind λi31=>qG a0 [0,0,i31] λH=>qB .sub G H λI=>(c 535 [(D.sl [F,I])]).bind λw=>(c 534 [S,w]).bind λx=>(D.idx (gx v24 0) 3).bind λi36=>(D.set (gx v24 1) [i36] x).bind λJ=>(qZ lp (λa=>qC .lss (gx a 0) (Jn 3) λh=>if h then((D.idx (gx a 0) 3).bind λi41=>(D.fld a1 i41).bind λK=>qJ (gx v24 0) 3 (gx a 1) λL=>qB .mul (Jn 3) (gx v24 0) λM=>qB .add M (gx a 0) λN=>(D.idx N 9).bind λi47=>qG (D.st (ad9 (List.replicate 9 (D.sl [])) [(0,j),(1,k),(2,l),(3,m),(4,p),(5,q),(6,r),(7,s),(8,v)])) [i47] λO=>(c 54 [K]).bind λy=>(c 499 [O,y]).bind λz=>(c 520 [L,z]).bind λA=>(D.idx (gx v24 0) 3).bind λi52=>(D.set (gx a 1) [i52] A).bind λP=>qB .add (gx a 0) (Jn 1) λQ=>iL [Q,P]) else(iR (0,[(gx a 1)]))) [(Jn 0),J]).bind λB=>qB .add (gx v24 0) (Jn 1) λR=>iL [R,(gx B.2 0)]) else(iR (0,[(gx v24 1)]))) [(Jn 0),(D.st [(D.sl []),(D.sl []),(D.sl [])])]).bind λC=>some (D.tup [(gx C.2 0),S])
def WE:af 505 (m2 (Jk lp)):=aD 0 Tryz.f83 TF a
def Pd(lp:Lp)(c:Ca)(a0 a1:D):Option D:=(c 536 [a0,a1]).bind λr1=>(D.tupAt r1 0).bind λb=>(D.tupAt r1 1).bind λd=>(c 62 [b,d]).bind λa=>some a
def WF:af 506 (m2 (Pd lp)):=aD 0 Tryz.f85 .leaf a
end
end Sy
end
set_option maxHeartbeats 0
noncomputable section
namespace Sy
open Go Go.Proofs
section
variable{lp}(a:aj lp)
def TG:Ann:=let a:LO:=[(0,.keep jz 3),(4100,.keep K1 4),(4101,.keep bP 5),(4103,.keep aG 7),(8200,.one aG (.dv aG))];(.tl (.two (.reg [] 11) (.two (.tl (.two (.loop ⟨[(3,.sp jz 0),(4,.sp K1 4100),(5,.sp bP 4101),(7,.sp aG 4103),(8,.sp aG 8200),(26,.di)],a,[24,25]⟩ [(.exit 0,⟨[(3,.sp jz 0),(7,.sp aG 4103),(8,.sp aG 8200)],[(0,.keep jz 3),(4103,.keep aG 7),(8200,.one aG (.dv aG))],[]⟩)] (.tl (.tl (.two (.two (.tl (.tl (.two (.loop ⟨[(3,.sp jz 0),(4,.sp K1 4100),(5,.sp bP 4101),(7,.sp aG 4103),(8,.sp aG 8200),(10,.sp K1 24586),(31,.di)],[(0,.keep jz 3),(4100,.keep K1 4),(4101,.keep bP 5),(4103,.keep aG 7),(8200,.one aG (.dv aG)),(24586,.keep K1 10)],[24,25,26,30]⟩ [(.exit 2,⟨[(3,.sp jz 0),(4,.sp K1 4100),(5,.sp bP 4101),(7,.sp aG 4103),(8,.sp aG 8200)],a,[24,25,26]⟩)] (.tl (.tl (.two (.two (.tl (.reg [] 8)) .leaf) .leaf)))) .leaf))) .leaf) .leaf)))) .leaf)) .leaf)))
def Pe(lp:Lp)(c:Ca)(a0 a1:D)(a2 a3:D):Option D:=qY a2 [0] (Jn 0) λr=>qG a3 [0] λs=>(c 486 [a1,r,s]).bind λp=>(c 72 [a0,p]).bind λq=>qG a2 [0] λn=>qS n λo=>(qZ lp (λv10=>qC .lss (gx v10 0) (Jn (o.length)) λb=>if b then(qX n (gx v10 0) λj=>(qZ lp (λa=>qC .lss (gx a 0) (Jn 3) λd=>if d then((D.idx (gx a 0) 3).bind λi19=>(D.fld a3 i19).bind λk=>(c 486 [a1,j,k]).bind λe=>(c 72 [a0,e]).bind λf=>(c 337 [(gx a 1),f]).bind λg=>qB .add (gx a 0) (Jn 1) λl=>iL [l,g]) else(iR (0,[(gx a 1)]))) [(Jn 0),(gx v10 1)]).bind λh=>qB .add (gx v10 0) (Jn 1) λm=>iL [m,(gx h.2 0)]) else(iR (0,[(gx v10 1)]))) [(Jn 0),q]).bind λi=>some (gx i.2 0)
def WG:af 507 (m4 (Pe lp)):=GB 0 Tryz.f112 TG a
def TH:Ann:=let a:LO:=[(4098,.keep bP 2),(4099,.keep aG 3),(4100,.keep fC 4),(8197,.one fC (.dv fC))];(.tl (.tl (.two (.tl (.two (.loop ⟨[(2,.sp bP 4098),(3,.sp aG 4099),(4,.sp fC 4100),(5,.sp fC 8197),(16,.di)],a,[15]⟩ [(.exit 0,⟨[(2,.sp bP 4098),(3,.sp aG 4099),(4,.sp fC 4100),(5,.sp fC 8197)],a,[]⟩)] (.tl (.tl (.two (.two (.tl (.two (.reg [] 14) .leaf)) .leaf) .leaf)))) .leaf)) (.tl (.two (.tl (.two (.loop ⟨[(3,.sp aG 4099),(4,.sp fC 4100),(5,.sp fC 8197),(9,.sp B6 20489),(45,.di)],[(4099,.keep aG 3),(4100,.keep fC 4),(8197,.keep fC 5),(20489,.one B6 (.dv B6))],[44]⟩ [(.exit 2,⟨[(4,.sp fC 4100),(5,.sp fC 8197),(9,.sp B6 20489)],[(4100,.keep fC 4),(8197,.keep fC 5),(20489,.one B6 (.dv B6))],[]⟩)] (.tl (.tl (.two (.two (.tl (.tl (.reg [] 10))) .leaf) .leaf)))) .leaf)) .leaf)))))
def Pf(lp:Lp)(c:Ca)(a0 a1:D):Option D:=qG a0 [0,0] λx1=>(qZ lp (λv2=>qC .lss (gx v2 0) (Jn 3) λB=>if B then((D.idx (gx v2 0) 3).bind λi5=>(D.fld x1 i5).bind λA=>(c 74 [A]).bind λC=>(D.idx (gx v2 0) 3).bind λi8=>qG a0 [1,0,i8] λG=>qB .sub G A λo=>(c 74 [o]).bind λf=>(c 174 [a1,f]).bind λg=>(c 173 [C,g]).bind λh=>(c 537 [h]).bind λi=>(c 202 [i]).bind λa=>(D.tupAt a 0).bind λp=>(D.tupAt a 1).bind λE=>(D.idx (gx v2 0) 3).bind λi18=>(D.set (gx v2 1) [0,i18] p).bind λq=>qB .add (gx v2 0) (Jn 1) λr=>iL [r,q]) else(iR (0,[(gx v2 1)]))) [(Jn 0),(D.st [(D.st [(Jn 0),(Jn 0),(Jn 0)]),(D.st [(Jn 0),(Jn 0),(Jn 0),(Jn 0)])])]).bind λj=>(c 530 [a0]).bind λk=>(qZ lp (λv23=>qC .lss (gx v23 0) (Jn 4) λe=>if e then((D.idx (gx v23 0) 4).bind λi26=>(D.fld k i26).bind λs=>(c 506 [s,a1]).bind λb=>qG b [0] λt=>qG a1 [1] λu=>qG b [1] λv=>(c 132 [u,v]).bind λl=>(c 61 [t,l]).bind λm=>(D.idx (gx v23 0) 4).bind λi34=>(D.set (gx v23 1) [i34] m).bind λw=>qB .add (gx v23 0) (Jn 1) λx=>iL [x,w]) else(iR (0,[(gx v23 1)]))) [(Jn 0),(D.st [(D.st [(D.bool false),(D.bool false),(az aZ)]),(D.st [(D.bool false),(D.bool false),(az aZ)]),(D.st [(D.bool false),(D.bool false),(az aZ)]),(D.st [(D.bool false),(D.bool false),(az aZ)])])]).bind λn=>(c 538 [(gx n.2 0)]).bind λd=>(D.tupAt d 0).bind λy=>(D.tupAt d 1).bind λF=>(D.set (gx j.2 0) [1] y).bind λz=>some z
def WH:af 508 (m2 (Pf lp)):=aD 0 Tryz.f115 TH a
def Pg(lp:Lp)(c:Ca)(a0:D):Option D:=(c 357 [a0]).bind λr1=>(c 510 [r1]).bind λa=>(c 68 [a]).bind λb=>some b
def WI:af 509 (m1 (Pg lp)):=aJ 0 Tryz.f116 .leaf a
def Ph(lp:Lp)(c:Ca)(a0:D):Option D:=(c 136 [a0]).bind λr1=>qN r1 λa=>if a then((c 119 []).bind λb=>some b) else(qG a0 [0] λe=>qG a0 [1] λf=>(c 132 [e,f]).bind λd=>some d)
def WJ:af 510 (m1 (Ph lp)):=aJ 0 Tryz.f117 .leaf a
end
end Sy
end
end
noncomputable section
namespace Sy
open Go Go.Proofs Go.Sort Go.Lib
variable{ro:Option Nat}{nn:Nat}
inductive AnnT where
 | hand
 | seq (a:Ann) (b:AnnT)
def Mc(E:Env)(K:St->Option D):Code->AnnT->St->Option D
 | .seq c d,.seq a b,s=>ev E c a D s λe s'=>match e with
  | .normal=>Mc E K d b s'
  | _=>none
 | _,.hand,s=>K s
 | _,_,_=>none
def rh:Code->AnnT->Code
 | .seq _ d,.seq _ b=>rh d b
 | c,_=>c
def nB(fn:Func)(a:List Ty)(args:List D):St:={ tm:=fX a args,ob:=λ_=>none,fresh:=0,dead:=[],nt:=fn.ntmps,lkS:=[],lkO:=[4095] }
def Ge(E:Env)(K:St->Option D)(fn:Func)(ann:AnnT)(a:List Ty)(args:List D):Option D:=
 match fn.body with
 | none=>none
 | some c=>Mc E K c ann (nB fn a args)
section
variable{P:Program}{E:Env}{w0:Root}
def Fm.df0{s:St}{S S':Nat->Nat->Prop}{γ γ':Nat->Option Nat}{a a':Act}{w w':World}(h:Fm s S γ a w S' γ' a' w')(b:4095∈s.lkO)(c:a.defers=[]):a'.defers=[]:=by obtain⟨_,m,e,_,z⟩:=h.dfs;rw[e,z b,c];rfl
def jd.eq{w w':World}{b:Nat}{o:Obj}(h:jd w w' b)(a:w.heap[b]?=some o)(hl:∀ r,o≠.loop r):w'.heap[b]?=some o:=by
 rcases h with h|⟨r,_,h1,_⟩
 ·exact h.trans a
 ·rw[a] at h1;cases h1;exact z3a rfl (hl r)
def No(m:EnvOk P E){K:St->Option D}{Q:Exit->Act->World->Prop}{y:D}:∀ (c:Code) (ann:AnnT) {S:Nat->Nat->Prop} {γ:Nat->Option Nat} {β:Nat->Option (Nat×Nat)} {s:St} {a:Act} {w:World},
  Rp w0 S γ β s a w->a.defers=[]->4095∈s.lkO->Mc E K c ann s=some y->(∀ s' S' γ' β' a' w',Rp w0 S' γ' β' s' a' w'->a'.defers=[]->K s'=some y->(rh c ann).wpIn (FW none) nn P Q a' w')->c.wpIn (FW none) nn P Q a w:=by
 intro c
 induction c with
 | seq c d _ ih=>
  intro ann S γ β s a w h j k f g;cases ann with
  | hand=>exact g s S γ β a w h j (by simpa only[Mc] using f)
  | seq a1 b=>
   simp only[Mc] at f;refine wpIn_seq (yX m c a1 D _ y h f λe s' S' γ' β' a' w' n o p l=>?_);cases e with
   | normal=>exact ih b n (o.df0 k j) (by rw[p.lkO];exact k) l g
   | ret=>cases l
   | exit i=>cases l
 | _=>
  intro ann S γ β s a w h j k f g;cases ann with
  | hand=>exact g s S γ β a w h j (by simpa only[Mc] using f)
  | seq a1 b=>simp[Mc] at f
def dF(s:St)(e:Ty)(x:Nat):Option (List D):=match s.tm x with
 | .own a v l=>if a.beq e&&!(s.dead.contains v)&&decide (l.length<=1073741824) then some l else none
 | .nils=>some []
 | _=>none
def NQ(s:St)(x:Nat)(e:Ty)(l:List D):St:={ tm:=λi=>if i=x then .d (.sl e) (.sl l) else .undef,ob:=λ_=>none,fresh:=s.fresh+1,dead:=[],nt:=s.nt,lkS:=[],lkO:=[4095] }
def E5{w:World}{S:Nat->Nat->Prop}{l:List D}{a:Option Addr}{n cap:Nat}(h:CR w S (.sl l) (.slice a n cap)):fa w S (.sl l) (.slice a n cap):=by
 refine⟨λcs h=>(by cases h),rfl,λi d c b hc=>?_⟩
 cases i with
 | zero=>simp only[D.flat,zMb,zda,Value.cells] at b hc;subst b;first|(subst hc;exact h)|(simp at hc;subst hc;exact h)
 | succ i=>simp[D.flat] at b
theorem gu{e:Ty}(hc:bE e=true):∀ l:List D,(∀ x∈l,wt e x)->∀ d∈ad2 l,qF d=true
 | [],_,d,a=>by simp[ad2] at a
 | y::l,h,d,a=>by
  simp only[ad2,zIa] at a;rcases a with a|a
  ·exact gt e y hc (h y zwa) d a
  ·exact gu hc l (λz b=>h z (zma _ b)) d a
def Rp.new{S S':Nat->Nat->Prop}{γ:Nat->Option Nat}{β:Nat->Option (Nat×Nat)}{s:St}{a a':Act}{w w':World}(h:Rp w0 S γ β s a w)(he:kU w0 w'){x:Nat}{e:Ty}{l:List D}(hn:ao e=true)(hx:x<s.nt)(j:∀ y∈l,wt e y)
  (p:fa w' S' (.sl l) (a'.tmps.getD x undef)) (i:a'.tmps.size=s.nt) (m:a'.defers=[]) (f:∀ b o,S' b o->b<w'.heap.size) (g:∀ b o,S' b o->w0.Old b->w0.S0 b o):Rp w0 S' (λ_=>none) (λ_=>none) (NQ s x e l) a' w':=by
 refine⟨he,λt k=>?_,i,λt k=>?_,λid o b n=>(by cases n),λid b c=>(by cases c),λid q b c=>(by cases c),λ_ _=>rfl,λv b e _ c=>(by cases c),λv v' b e r _ _ c=>(by cases c),λv id b e _ c=>(by cases c),λ_ _=>rfl,f,g⟩
 ·show AR _ (if t=x then AV.d (.sl e) (.sl l) else .undef) (a'.tmps.getD t undef)
  by_cases htx:t=x
  ·rw[zja htx];subst htx;exact .inl ⟨by simp only[ao];exact hn,⟨l,rfl,j⟩,p⟩
  ·rw[zga htx];simp only[AR]
 ·show(if t=x then AV.d (.sl e) (.sl l) else .undef)=_
  rw[zga (λh=>by subst h;exact z3a hx (zIc.2 k))]
def LB(hE:EnvOk P E){f:Nat}{e:Ty}(hf:SortOk P f e){g:Nat}(hsig:E.sig g=some ([e,e],.int .i64)/\E.free g=0){id x t d2:Nat}{ops:Array Oper}{ty1 ty2:TypeId}{p1 p2:String}{af1 af2:Array Edge}{args:Array Operand}{ats:Array TypeId}
  (hops:ops.toList=[⟨some t,.move (.tmp x),ty1,p1,af1,none⟩,⟨some d2,.call ⟨.value (.func f),args,ats⟩,ty2,p2,af2,none⟩]) (hargs:args=#[.tmp t,.func g]) {Q:Exit->Act->World->Prop}
  {S:Nat->Nat->Prop} {γ:Nat->Option Nat} {β:Nat->Option (Nat×Nat)} {s:St} {a:Act} {w:World} (h:Rp w0 S γ β s a w) (hdf:a.defers=[]) (hxt:x≠t) (hxd:x≠d2) (ht:t<s.nt) {l l':List D} (hv:dF s e x=some l) (hs:jX E g l=some l')
  (hQ:∀ a' w' S',Rp w0 S' (λ_=>none) (λ_=>none) (NQ s x e l') a' w'->a'.defers=[]->Q .normal a' w'):(Code.region id ops false).wpIn (FW ro) nn P Q a w:=by
 have hx:x<s.nt:=by
  rcases zta x s.nt with k|k
  ·exact k
  ·unfold dF at hv;rw[h.tmu x k] at hv;cases hv
 have hax:AR ⟨w,S,γ,β,s.ob,s.dead⟩ (s.tm x) (a.tmps.getD x undef):=h.tms x (by rw[h.nt];exact hx)
 obtain⟨ad,cap,val,hwt,hcr,hown⟩:∃ ad cap,a.tmps.getD x undef=.slice ad l.length cap/\(∀ y∈l,wt e y)/\CR w S (.sl l) (.slice ad l.length cap)/\(l≠[]->∃ b off row,ad=some ⟨b,off,none⟩/\bO w b=some row/\¬ w0.Old b/\b<w.heap.size)/\l.length<=1073741824:=by
  unfold dF at hv;split at hv
  ·rename_i e' v l0 htm;split at hv
   ·rename_i hb;simp only[zaa,zCa,zia] at hb;obtain⟨⟨hb1,hb2⟩,hb3⟩:=hb;cases hv;have:=aeK _ _ hb1;subst this;rw[htm] at hax;simp only[AR,AC] at hax;obtain⟨n0,n1,n2,ad,cap,n3,n4,n5⟩:=hax;have hval:=ar n0 n3;have hdead:v ∉ s.dead:=by simpa using hb2
    refine⟨ad,cap,hval,n2,n4,λhne=>?_,hb3⟩;rcases n5 hdead with⟨q1,q2⟩|⟨b,off,q1,q2,n,q3,q4⟩
    ·exfalso;obtain⟨_,_,b,off,e1,e2,e3,e4⟩:=n4.elems;cases e1;rcases e2 with e2|e2
     ·exact hne e2
     ·rw[q1] at e2;cases e2
    ·obtain⟨k1,k2,_⟩:=h.βn v b _ hdead q2;unfold kW at q3;cases hr:bO w b with
     | none=>rw[hr] at q3;cases q3
     | some row=>exact⟨b,off,row,q1,hr,k1,k2⟩
   ·cases hv
  ·rename_i htm;cases hv;rw[htm] at hax;simp only[AR,AC] at hax;have hval:=ar hax.1 hax.2;exact⟨none,0,hval,s6,adS (b:=0) (off:=0) (.inl rfl) (zka _) ⟨[],cL.nil,s6⟩,λh=>z3a rfl h,s6⟩
  ·cases hv
 obtain⟨hown,hlen⟩:=hown;have hperm:l'.Perm l:=by
  unfold jX at hs;split at hs
  ·cases hs;exact gz _ l
  ·cases hs
 have hll:l'.length=l.length:=hperm.length_eq;have hwt':∀ y∈l',wt e y:=λy hy=>hwt y (hperm.subset hy);refine wpIn_region_list ?_;rw[hops];simp only[wpListIn,Region.wanted,if_true];refine(bq (K:=λv w1=>v=a.tmps.getD x undef/\w=w1) (dT.value (v:=a.eval (.tmp x)) (w':=w) rfl ⟨rfl,rfl⟩) ?_);rintro _ _ ⟨rfl,rfl⟩;have hsz:(a.put (some t) (a.tmps.getD x undef)).tmps.size=s.nt:=by simp[Act.put,h.nt]
 have ht1:(a.put (some t) (a.tmps.getD x undef)).eval (.tmp t)=a.tmps.getD x undef:=by
  have:t<a.tmps.size:=by rw[h.nt];exact ht
  simp[Act.eval,Act.put,Array.getD,this]
 have hx1:(a.put (some t) (a.tmps.getD x undef)).tmps.getD x undef=a.tmps.getD x undef:=by exact bZ (λe=>hxt (by cases e;rfl))
 have hdf1:(a.put (some t) (a.tmps.getD x undef)).defers=[]:=hdf;generalize (a.put (some t) (a.tmps.getD x undef))=a1 at *;refine(bq (K:=λv w1=>∃ S',kU w0 w1/\fa w1 S' (.sl l') (a.tmps.getD x undef)/\(∀ b o,S' b o->b<w1.heap.size)/\(∀ b o,S' b o->w0.Old b->w0.S0 b o)) ?_ ?_)
 ·obtain⟨fn,f1,f2,f3⟩:=hf.fn;refine dT.enter (f:=f) (args:=#[.slice ad l.length cap,.func (.func g) #[] #[]]) (w':=w) ?_ ?_
  ·have hb:¬ fn.body=none:=by intro hh;rw[hh] at f3;cases f3
   have f2' : ¬ fn.name = "runtime.NumGoroutine" := by simpa using f2
   have e1:a1.eval (.tmp t)=.slice ad l.length cap:=by rw[ht1,val]
   subst hargs;have e2:a1.eval (.func g)=.func (.func g) #[] #[]:=rfl;simp[execOp,resolve,Deferred.ofValue,invoke,callFunc,f1,f2',hb,e1,e2];simp[Act.eval,f1,f2',hb]
  ·by_cases hne:l=[]
   ·subst hne;have e0:l'=[]:=by cases l' with|nil=>rfl|cons y l'=>simp at hll
    subst e0;refine(hf.empty ad cap _ w).mono ?_;rintro en w1 ⟨rfl,rfl⟩;exact⟨_,rfl,S,h.ext,by rw[val];exact E5 hcr,h.Sb,h.So⟩
   ·obtain⟨b,off,row,rfl,hr,hold,hbs⟩:=hown hne;have hcell:∀ (i:Nat) (d:D),(ad2 l)[i]?=some d->w.cell? ⟨b,off+i,none⟩=some (fM d):=by
     obtain⟨_,_,b',off',e1,e2,e3,cs,e4,e5⟩:=hcr.elems;cases e1;rcases e2 with e2|e2
     ·exact z3a e2 hne
     ·cases e2;have hleaf:=gu hf.cmp l hwt;have:=(cV hleaf).1 e4;subst this;intro i d hd;exact(e5 i (fM d) (by rw[zgb,hd];rfl)).2
    refine(EG hE hf hsig hwt hs hne (b:=b) (off:=off) (cap:=cap) hr hcell j1).mono ?_
    rintro en w1 ⟨rfl,_,q1,q2,q3,q4,q5,q6,q7⟩;refine⟨_,rfl,λb' o=>(S b' o/\b'≠b)\/(b'=b/\off<=o/\o<off+(ad2 l').length),?_,?_,?_,?_⟩
    ·refine nu h.ext q2 q3 q4 q5 q1 λb' hb'=>q6 b' (λe=>hold (e ▸ hb')) (zQa hb'.1 h.ext.sz)
    ·rw[val];refine E5 ?_;rw[<-hll];refine adS (b:=b) (off:=off) (.inr rfl) (by obtain⟨_,_,_,_,e1,_,e3,_⟩:=hcr.elems;cases e1;rw[hll];exact e3) ⟨(ad2 l').map fM,?_,λi c hc=>?_⟩
     ·exact(cV (gu hf.cmp l' hwt')).2 rfl
     ·rw[zgb] at hc;cases hd:(ad2 l')[i]? with
      | none=>rw[hd] at hc;cases hc
      | some d=> rw[hd] at hc;simp only[zSb,zda] at hc;subst hc;exact⟨.inr ⟨rfl,j1,by have:=(zna.1 hd).1;omega⟩,q7 i d hd⟩
    ·rintro b' o (⟨hb',_⟩|⟨rfl,_,_⟩)
     ·exact zQa (h.Sb b' o hb') q5
     ·exact zQa hbs q5
    ·rintro b' o (⟨hb',_⟩|⟨rfl,_,_⟩) ho
     ·exact h.So b' o hb' ho
     ·exact z3a ho hold
 ·rintro v w1 ⟨S',k1,k2,k3,k4⟩;refine hQ _ w1 S' (Rp.new h k1 hf.nt hx hwt' ?_ (by simp[Act.put,hsz]) hdf1 k3 k4) hdf1
  have:(a1.put (some d2) v).tmps.getD x undef=a.tmps.getD x undef:=by rw[<-hx1];exact bZ (λe=>hxd (by cases e;rfl))
  rw[this];exact k2
end
end Sy
end
noncomputable section
namespace Sy
open Go Go.Proofs Go.Sort Go.Lib
variable{ro:Option Nat}{nn:Nat}
open Go.ChangeMaps (setBlock)
section
variable{P:Program}{E:Env}{w0:Root}
theorem uC{ops b:Array Oper}{Q:Exit->Act->World->Prop}:∀ (l:List Oper) (a:Act) (w:World),(∀ o∈l,o.guard=none)->wpListIn (FW ro) nn P ops Q l a w->wpListIn (FW ro) nn P b Q l a w
 | [],_,_,_,h=>h
 | o::l,a,w,e,h=>by have d:=e o zwa;have c:∀ a w,wpListIn (FW ro) nn P ops Q l a w->wpListIn (FW ro) nn P b Q l a w:=λa w=>uC l a w λo f=>e o (zma _ f);simp only[wpListIn,Region.wanted,d,if_true] at h ⊢;exact Oper.wpIn_mono c h
def KX(L:EnvOk P E){Q:Exit->Act->World->Prop}{id:Nat}{ops:Array Oper}{R:Type}{S:Nat->Nat->Prop}{γ:Nat->Option Nat}{β:Nat->Option (Nat×Nat)}{s:St}{a:Act}{w:World}{k:Ex->St->Option R}{r:R}
  (h:Rp w0 S γ β s a w) (C:ev E (.region id ops false) .leaf R s k=some r) (M:Kp Q w0 s S γ a w k r):wpListIn (FW ro) nn P ops Q ops.toList a w:=by
 obtain⟨S1,f1,f2,f3⟩:=pR (Ann.leaf).fz h;obtain⟨s1,c⟩:∃ s1,s1={ gn s (Ann.leaf).fz with fresh:=s.fresh+1 }:=⟨_,rfl⟩;obtain⟨h1,y⟩:=vq c C;obtain⟨Z,K⟩:(!false||pN E ops ((Ann.leaf).heads ops.size))=true/\_:=y.resolve_right λh=>h.elim (λh=>by cases h.1) (λh=>by cases h.1)
 have z:s1.base=s.base+4096:=by rw[c];simp only[St.base];omega
 have r1:Rp w0 S1 γ β s1 a w:=by
  rw[c];have q1:∀ id,({ gn s (Ann.leaf).fz with fresh:=s.fresh+1 }:St).base+4096<=id->s.base+4096<=id:=λid hid=>by
   have e:({ gn s (Ann.leaf).fz with fresh:=s.fresh+1 }:St).base=s.base+4096:=by simp only[St.base];omega
   rw[e] at hid;exact zNa (zad _ _) hid
  exact⟨f1.ext,f1.tms,f1.nt,f1.tmu,f1.obs,f1.γn,f1.γi,λid hid=>h.γf id (q1 id hid),f1.βn,f1.βi,f1.βγ,λv O=>h.βf v (q1 v O),f1.Sb,f1.So⟩
 have g:∀ d,s.base+4096<=s1.base+d:=λd=>by have:=zad s1.base d;rw[z] at this ⊢;exact this
 have H:∀ d,γ (s1.base+d)=none:=λd=>h.γf (s1.base+d) (g d);have F:∀ d,β (s1.base+d)=none:=λd=>h.βf (s1.base+d) (g d);obtain⟨Y,m2⟩:=xC (E:=E) ops.toList r1 H;have m:=h1;simp only[cH,zaa,zya] at m;obtain⟨⟨l,G⟩,N⟩:=m;have D:EV E (gf E ops.toList s1) γ β ops.toList:=by intro o x hc d u;rw[m2.base_eq];have j:=G o x;rw[u] at j;simp only[zia] at j;exact⟨j,H d,F d,λT t I J=>rT ops.toList l x I u J⟩
 have q:Sk s (gf E ops.toList s1):=by
  refine⟨m2.lkS.trans ?_,m2.lkO.trans ?_,m2.nt.trans ?_⟩<;>rw[c]
  ·exact f3.lkS
  ·exact f3.lkO
  ·exact f3.nt
 have b:(ops.toList.all λo=>match o.op with|.store ..=>o.dst.isNone|_=>true)=true:=by simp only[cH,zaa] at h1;exact h1.2
 have:=xe (ro:=ro) (nn:=nn) (ops:=ops) L b _ R (aW 0 ops.toList) _ r _ Y (by rw[bi];exact D) (by rw[bi];exact λA B o o' e x d u=>fr l A B o o' e x d u) (λp hp=>kn hp) K
  (Q:=Q) λs' S' γ' β' a' w' U V W X=>M .normal s' S' γ' β' a' w' U (f2.tr V q) (q.trans W) X
 rwa [bi] at this
def σL(nt o it:Nat)(X:AV):St:={ tm:=λi=>if i=o then X else .undef,ob:=λ_=>none,fresh:=0,dead:=[],nt:=nt,lkS:=[it],lkO:=[0,1,4095] }
def γs(m r:Nat):Nat->Option Nat:=λi=>if i=0 then some m else if i=1 then some r else none
def Mh(e:Ty)(L:List D)(X:AV):Prop:=(X=.nils/\L=[])\/X=.own e 5 L
def A6{s:St}{e:Ty}{o:Nat}{L:List D}(h:dF s e o=some L):(s.tm o=.nils/\L=[])\/∃ v,s.tm o=.own e v L/\v ∉ s.dead:=by
 unfold dF at h;split at h
 ·rename_i c v l a;split at h
  ·rename_i b;simp only[zaa,zCa,zia] at b;cases h;have:=aeK _ _ b.1.1;subst this;exact .inr ⟨v,a,by simpa using b.1.2⟩
  ·cases h
 ·rename_i a;cases h;exact .inl ⟨a,rfl⟩
 ·cases h
def Rp.std{S:Nat->Nat->Prop}{γ:Nat->Option Nat}{β:Nat->Option (Nat×Nat)}{s:St}{a:Act}{w:World}(h:Rp w0 S γ β s a w){m r:Nat}(hm:¬ w0.Old m/\m<w.heap.size)(hr:¬ w0.Old r/\r<w.heap.size)(z:m≠r)
  (R:∀ v b e,v ∉ s.dead->β v=some (b,e)->b≠m/\b≠r) {e:Ty} (J:bE e=true) {o:Nat} {L:List D} (E:dF s e o=some L) (it:Nat) :
  ∃ β' X,Mh e L X/\Rp w0 (λb i=>S b i/\b≠m/\b≠r) (γs m r) β' (σL s.nt o it X) a w:=by
 have y:o<s.nt:=by
  rcases zta o s.nt with k|k
  ·exact k
  ·unfold dF at E;rw[h.tmu o k] at E;cases E
 have g:=h.tms o (by rw[h.nt];exact y)
 have g1:∀ id b,γs m r id=some b->(id=0/\b=m)\/(id=1/\b=r):=λid b d=>by
  unfold γs at d;split at d
  ·rename_i e;cases d;exact .inl ⟨e,rfl⟩
  ·split at d
   ·rename_i e;cases d;exact .inr ⟨e,rfl⟩
   ·cases d
 have γn':∀ id b,γs m r id=some b->¬ w0.Old b/\b<w.heap.size:=λid b d=>by
  rcases g1 id b d with⟨_,rfl⟩|⟨_,rfl⟩
  ·exact hm
  ·exact hr
 have γi':∀ id j b,γs m r id=some b->γs m r j=some b->id=j:=λid j b d f=>by
  rcases g1 id b d with⟨k1,K⟩|⟨k1,K⟩<;>rcases g1 j b f with⟨k3,M⟩|⟨k3,M⟩
  ·omega
  ·exact z3a (K.symm.trans M) z
  ·exact z3a (M.symm.trans K) z
  ·omega
 have γf':∀ id,0*4096+4096<=id->γs m r id=none:=λid hid=>by unfold γs;rw[zga j1,zga j1]
 rcases A6 E with⟨h1,x⟩|⟨v,h1,x⟩
 ·refine⟨λ_=>none,.nils,.inl ⟨rfl,x⟩,h.ext,λt A=>?_,h.nt,λt A=>?_,λid o b y=>(by cases y),γn',γi',γf',λv b e _ d=>(by cases d),λv v' b e l _ _ d=>(by cases d),λv id b e _ d=>(by cases d),λ_ _=>rfl,λb i d=>h.Sb b i d.1,λb i d=>h.So b i d.1⟩
  ·show AR _ (if t=o then AV.nils else .undef) (a.tmps.getD t undef)
   by_cases hto:t=o
   ·rw[zja hto];subst hto;rw[h1] at g;simpa only[AR,AC] using g
   ·rw[zga hto];simp only[AR]
  ·show(if t=o then AV.nils else .undef)=_
   rw[zga (λh=>by subst h;exact z3a y (zIc.2 A))]
 ·refine⟨λi=>if i=5 then β v else none,.own e 5 L,.inr rfl,h.ext,λt A=>?_,h.nt,λt A=>?_,λid o b y=>(by cases y),γn',γi',γf',λu b l _ d=>?_,λu u' b l I _ _ d f=>?_,λu id b l _ d hid=>?_,λu hu=>?_,λb i d=>h.Sb b i d.1,λb i d=>h.So b i d.1⟩
  ·show AR _ (if t=o then AV.own e 5 L else .undef) (a.tmps.getD t undef)
   by_cases hto:t=o
   ·rw[zja hto];subst hto;rw[h1] at g;simp only[AR,AC] at g ⊢;obtain⟨n0,n1,U,G,cap,n3,n4,V⟩:=g;have N:CR w (λb i=>S b i/\b≠m/\b≠r) (.sl L) (.slice G L.length cap):=by
     obtain⟨W,O,H,B,Y,p,P,cs,Z,Q⟩:=n4.elems;cases Y;by_cases hL:L=[]
     ·subst hL;exact adS (b:=0) (off:=0) (.inl rfl) P ⟨[],cL.nil,s6⟩
     ·have p:G=some ⟨H,B,none⟩:=p.resolve_left hL;have f:H≠m/\H≠r:=by
       rcases V x with q|⟨b,off,q1,C,F⟩
       ·rw[q.1] at p;cases p
       ·rw[q1] at p;cases p;exact R v _ _ x C
      have T:=gu J L U;exact adS (.inr p) P ⟨cs,(cV T).2 ((cV T).1 Z),λi c hc=>⟨⟨(Q i c hc).1,f⟩,(Q i c hc).2⟩⟩
    refine⟨n0,n1,U,G,cap,n3,N,λ_=>?_⟩;rcases V x with q|⟨b,off,q1,C,F⟩
    ·exact .inl q
    ·exact .inr ⟨b,off,q1,by simpa using C,F⟩
   ·rw[zga hto];simp only[AR]
  ·show(if t=o then AV.own e 5 L else .undef)=_
   rw[zga (λh=>by subst h;exact z3a y (zIc.2 A))]
  ·have d:(if u=5 then β v else none)=some (b,l):=d
   split at d
   ·obtain⟨q1,C,F⟩:=h.βn v b l x d;exact⟨q1,C,λi hi hs=>F i hi hs.1⟩
   ·cases d
  ·have d:(if u=5 then β v else none)=some (b,l):=d
   have f:(if u'=5 then β v else none)=some (b,I):=f
   split at d<;>split at f<;>first|(cases d;done)|(cases f;done)|omega
  ·have d:(if u=5 then β v else none)=some (b,l):=d
   split at d
   ·have:=R v b l x d;rcases g1 id b hid with⟨_,q⟩|⟨_,q⟩
    ·exact this.1 q
    ·exact this.2 q
   ·cases d
  ·have al:4096<=u:=by simpa [σL,St.base] using hu
   show(if u=5 then β v else none)=none
   rw[zga j1]
def Rp.setB{S:Nat->Nat->Prop}{γ:Nat->Option Nat}{β:Nat->Option (Nat×Nat)}{s:St}{a:Act}{w:World}(h:Rp w0 S γ β s a w){id b:Nat}(D:s.ob id=none)(B:γ id=some b)(C:∀ o,¬ S b o)(x:Obj) :
  Rp w0 S γ β s a (setBlock w b x):=by
 have A:∀ c o,S c o->c≠b:=λc o g e=>C o (e ▸ g);have m:∀ c,c≠b->(setBlock w b x).heap[c]?=w.heap[c]?:=λc d=>by simp only[setBlock];rw[z4c (Ne.symm d)]
 have j:(setBlock w b x).heap.size=w.heap.size:=by simp[setBlock]
 have hle:Cx.le ⟨w,S,γ,β,s.ob,s.dead⟩ ⟨setBlock w b x,S,γ,β,s.ob,s.dead⟩:=by
  refine⟨λc o g=>by simp only[World.cell?,m c (A c o g)],λ_ _ g=>g,λ_ _ g=>g,λi y r _=>⟨y,r,λp=>⟨rfl,rfl⟩,λt l e=>⟨l,e,rfl⟩,λ_ _ l e=>⟨l,e⟩⟩,λv u=>⟨u,λc e he=>⟨he,λn hn=>?_⟩⟩⟩
  have k:c≠b:=λz=>h.βγ v id c e u he (z ▸ B);have q:kW w c=some n:=hn;show kW (setBlock w b x) c=some n;simp only[kW,bO,m c k] at q ⊢;exact q
 refine⟨nu h.ext rfl rfl rfl (by rw[j];exact zka _) (zka _) (λc d=>m c λe=>(h.γn id b B).1 (e ▸ d)),λt E=>(h.tms t E).mono hle,h.nt,h.tmu,λi y c r d=>?_,λi c d=>by rw[j];exact h.γn i c d,h.γi,h.γf,
  λv c e u he=>by rw[j];exact h.βn v c e u he,h.βi,h.βγ,h.βf,λc o g=>by rw[j];exact h.Sb c o g,h.So⟩
 have k:c≠b:=λz=>by have:=h.γi i id c d (z ▸ B);subst this;rw[D] at r;cases r
 exact(h.obs i y c r d).mono hle (m c k) λ_ m=>m
end
end Sy
end
noncomputable section
namespace Sy
open Go Go.Proofs Go.Sort Go.Lib
variable{ro:Option Nat}{nn:Nat}
open Go.ChangeMaps (setBlock)
def zp:D->D
 | .st (k::_)=>k
 | x=>x
theorem Fn{c:Cx}{b vt:Ty}:∀ {l:List D} {es:List MapEntry} {j:Nat},iA c b vt j l es->es.length=l.length/\∀ (i:Nat) (en:MapEntry),es[i]?=some en->en.born=j+i/\∃ k v,l[i]?=some (.st [k,v])/\wt b k/\wt vt v/\fa c.w c.S k en.key/\fa c.w c.S v en.val
 | [],[],j,_=>⟨rfl,λi en h=>by simp at h⟩
 | [],_::_,_,h=>h.elim
 | _::_,[],_,h=>h.elim
 | x::l,e::es,j,h=>by
  simp only[iA] at h;obtain⟨⟨h1,k,v,rfl,d,f,g,m⟩,n⟩:=h;obtain⟨q1,o⟩:=Fn n;refine⟨by simp[q1],λi en a=>?_⟩
  cases i with
  | zero=>simp at a;subst a;exact⟨by simpa using h1,k,v,s6,d,f,g,m⟩
  | succ i=> simp only[zhb] at a;obtain⟨r1,p⟩:=o i en a;exact⟨j1,by simpa using p⟩
def wL{t:Ty}(hc:bE t=true){x:D}(hx:wt t x){w w':World}{S S':Nat->Nat->Prop}{v:Value}(h:fa w S x v):fa w' S' x v:=by have a:=gt t x hc hx;exact⟨h.1,(cV a).2 ((cV a).1 h.2)⟩
theorem zK:∀ (n:Nat) (l:List Nat),l.Nodup->(∀ x∈l,x<n)->l.length<=n
 | 0,l,_,h=>by
  cases l with
  | nil=>simp
  | cons x l=>exact z3a (h x zwa) j1
 | n+1,l,hn,h=>by
  have h1:(l.erase n).length<=n:=zK n (l.erase n) (hn.erase n) λx hx=>by have b:=(hn.mem_erase_iff).1 hx;have:=h x b.2;have:=b.1;omega
  have c:=List.length_erase (a:=n) (l:=l);split at c<;>omega
section
variable{P:Program}{E:Env}{w0:Root}
def j3{a:Act}{o:Oper}{m:Sem Value}{v:Value}{w w':World}(hex:execOp a.eval o=(m >>= λr=>pure (Next.value r)))(b:m.run P w=.ok v w'):(execOp a.eval o).run P w=.ok (.value v) w':=by rw[hex];simp only[zla,b,zfa,zra]
def yi{nt o it t:Nat}{X:AV}(h:t≠o):(σL nt o it X).put (some t) .undef=σL nt o it X:=by
 unfold St.put σL;simp only;split
 ·congr 1;funext i;by_cases a:i=t
  ·subst a;rw[zja rfl,zga h]
  ·rw[zga a]
 ·rfl
def jH{a:Act}{t:Nat}{v:Value}(h:t<a.tmps.size):(a.put (some t) v).eval (.tmp t)=v:=by simp[Act.eval,Act.put,Array.getD,h]
def ub{a:Act}{d:Option Nat}{v:Value}:(a.put d v).tmps.size=a.tmps.size:=by cases d<;>simp[Act.put]
def KY(hE:EnvOk P E){e vt:Ty}(he:bE e=true)(ek:bE vt=true)(ec:ao e=true)(ed:ao vt=true){cv cx cy b b2:Nat}{t72 m0 it T nx ok en o:Nat}{c1 c2 c3:Array Oper}{rest:List Oper}{c26:Code}
  {y1 y2 y3 y4 y5:TypeId} {p1 p2 p3 p4 p5:String} {f1 f2 f3 f4 f5:Array Edge} {TK TV:TypeId}
  (c4:c1.toList=[⟨some t72,.move (.tmp m0),y1,p1,f1,none⟩,⟨some it,.range T (.tmp t72),y2,p2,f2,none⟩])
  (c5:c2.toList=[⟨some nx,.next (.tmp it) false,y3,p3,f3,none⟩,⟨some ok,.extract (.tmp nx) 0,y4,p4,f4,none⟩])
  (dk:c3.toList=⟨some en,.entry (.tmp it),y5,p5,f5,none⟩::rest) (bt:∀ x∈rest,x.guard=none) (hT:P.underlying T=some (.map TK TV))
  {S:Nat->Nat->Prop} {γ:Nat->Option Nat} {β:Nat->Option (Nat×Nat)} {s:St} {a:Act} {w:World} (h:Rp w0 S γ β s a w) (dz:a.defers=[])
  (d1:o≠t72) (d2:o≠it) (d3:nx≠o) (d4:ok≠o) (d5:en≠o) (d6:it≠t72) (d7:it≠nx) (d8:it≠ok) (d9:it≠en) (d10:nx≠ok) (n1:t72<s.nt) (n2:it<s.nt) (n3:nx<s.nt) (n4:ok<s.nt) (n5:en<s.nt)
  {B:Nat} {l:List D} (hm:s.tm m0=.map e vt B) (eg:s.ob B=some (.mp e vt l)) (hl:l.length<=1073741824) (hv:dF s e o=some [])
  (O:∀ X L k v,Mh e L X->L.length<1073741824->wt e k->ev E (.region 0 rest.toArray false) .leaf D ((σL s.nt o it X).put (some en) (.d (.tup [e,vt]) (.tup [k,v]))) (λx s'=>match x with
   | .normal=>ev E c26 .leaf D s' (λx el=>match x with|.normal=>(dF el e o).bind λl=>some (.sl l)|_=>none)
   | _=>none)=some (.sl (L++[k])))
  {Q:Exit->Act->World->Prop} (hQ:∀ L S' γ' β' X a' w',Mh e L X->L.Perm (l.map zp)->Rp w0 S' γ' β' (σL s.nt o it X) a' w'->a'.defers=[]->Q .normal a' w') :
  (Code.seq (.region cv c1 false) (.block b (.loop (.seq (.region cx c2 false) (.seq (.cond (.tmp ok) .skip (.exit b)) (.block b2 (.seq (.region cy c3 false) c26))))))).wpIn (FW none) nn P Q a w:=by
 have d0:m0<s.nt:=by
  rcases zta m0 s.nt with k|k
  ·exact k
  ·rw[h.tmu m0 k] at hm;cases hm
 have bj:=h.tms m0 (by rw[h.nt];exact d0)
 rw[hm] at bj;simp only[AR,AC] at bj;obtain⟨eb,m,ea,bz,_,_,_⟩:=bj;have bl:=ar eb ea;have hO:=h.obs B _ m eg bz;simp only[fN] at hO;obtain⟨_,_,ep,es,A,hM⟩:=hO;obtain⟨em,f⟩:=Fn hM;have a8:=h.γn B m bz;have aI:∀ x∈es.toList,x.born<l.length:=λx hx=>by obtain⟨i,hi,rfl⟩:=z2a hx;have:=(f i _ (zea hi)).1;omega
 have dv:(es.toList.map (·.born)).Nodup:=by rw[List.Nodup,z7b];intro i j hi M et;simp only[zva] at hi M;have a1:=(f i _ (zea hi)).1;have a2:=(f j _ (zea M)).1;simp only[zBd,a1,a2];omega
 refine wpIn_seq ?_;refine wpIn_region_list ?_;rw[c4];simp only[wpListIn,Region.wanted,if_true];refine(bq (K:=λv w1=>v=a.tmps.getD m0 undef/\w=w1) (dT.value (v:=a.eval (.tmp m0)) (w':=w) rfl ⟨rfl,rfl⟩) ?_);rintro _ _ ⟨rfl,rfl⟩;rw[bl];have ds:(a.put (some t72) (.map (some m))).eval (.tmp t72)=.map (some m):=jH (by rw[h.nt];exact n1)
 refine(bq (K:=λv w1=>v=.pointer (some ⟨w.heap.size,0,none⟩)/\w1=w.alloc (.mapIter (some m) l.length #[] l.length)) (dT.value (j3 (m:=Instr.range T (.map (some m))) ?_ (run_range_map w T TK TV m es l.length hT A)) ⟨rfl,rfl⟩) ?_)
 ·show(Instr.range T ((a.put (some t72) (.map (some m))).eval (.tmp t72)) >>= λr=>pure (Next.value r))=_;rw[ds]
 rintro _ _ ⟨rfl,rfl⟩;simp only[Exit.then];refine wpIn_block ?_;obtain⟨r,cf⟩:∃ r,r=w.heap.size:=⟨_,rfl⟩;rw[<-cf];have a9:m≠r:=by have:=a8.2;omega
 have J:w.alloc (.mapIter (some m) l.length #[] l.length)=grown w [.mapIter (some m) l.length #[] l.length] w.drawn:=by show({ w with heap:=w.heap.push (.mapIter (some m) l.length #[] l.length) }:World)={ w with heap:=w.heap++[Obj.mapIter (some m) l.length #[] l.length].toArray,drawn:=w.drawn };rw[zJd]
 have h1:Rp w0 S γ β ((s.put (some t72) .undef).put (some it) .undef) ((a.put (some t72) (.map (some m))).put (some it) (.pointer (some ⟨r,0,none⟩))) (w.alloc (.mapIter (some m) l.length #[] l.length)):=by rw[J];exact(((h.put (v:=.undef) (val:=.map (some m)) (by simp[AR]) (some t72)).put (v:=.undef) (val:=.pointer (some ⟨r,0,none⟩)) (by simp[AR]) (some it)).grow (os:=[.mapIter (some m) l.length #[] l.length]) (d:=w.drawn) (zka _) (S':=S) (λ_ _ t=>t) (λ_ _ t=>.inl t)).1
 have ch:dF ((s.put (some t72) .undef).put (some it) .undef) e o=some []:=by
  have q1:((s.put (some t72) .undef).put (some it) .undef).tm o=s.tm o:=by rw[xE (λe=>d2 (by cases e;rfl)),xE (λe=>d1 (by cases e;rfl))]
  have q2:((s.put (some t72) .undef).put (some it) .undef).dead=s.dead:=by rw[(aeE _ _ _).2.2.1,(aeE _ _ _).2.2.1]
  unfold dF at hv ⊢;rw[q1,q2];exact hv
 have b6:((s.put (some t72) .undef).put (some it) .undef).nt=s.nt:=by rw[(aeE _ _ _).2.2.2.1,(aeE _ _ _).2.2.2.1]
 have ax:(w.alloc (.mapIter (some m) l.length #[] l.length)).heap.size=w.heap.size+1:=by rw[J];simp[grown]
 have ei:¬ w0.Old r:=λho=>by have:=ho.1;have:=h.ext.sz;omega
 have I:((s.put (some t72) .undef).put (some it) .undef).dead=s.dead:=by rw[(aeE _ _ _).2.2.1,(aeE _ _ _).2.2.1]
 obtain⟨β1,X1,b0,R1⟩:=h1.std (m:=m) (r:=r) ⟨a8.1,by rw[ax];omega⟩ ⟨ei,by rw[ax];omega⟩ a9 (λv bb ee z t=>by rw[I] at z;exact⟨λeq=>h.βγ v B bb ee z t (eq ▸ bz),λeq=>by have:=(h.βn v bb ee z t).2.1;omega⟩) he ch it
 rw[b6] at R1;have Z:(w.alloc (.mapIter (some m) l.length #[] l.length)).heap[m]?=some (.map es l.length):=by rw[J,c9 a8.2];exact A
 have al:(w.alloc (.mapIter (some m) l.length #[] l.length)).heap[r]?=some (.mapIter (some m) l.length #[] l.length):=by rw[cf];exact heap_alloc_new w _
 have b8:((a.put (some t72) (.map (some m))).put (some it) (.pointer (some ⟨r,0,none⟩))).tmps.getD it undef=.pointer (some ⟨r,0,none⟩):=by exact jH (by rw[ub,h.nt];exact n2)
 refine wH (m:=l.length) (λn a w=>∃ (S:Nat->Nat->Prop) (β:Nat->Option (Nat×Nat)) (X:AV) (L:List D) (seen:Array Nat) (G:Nat),Mh e L X/\Rp w0 (λb i=>S b i/\b≠m/\b≠r) (γs m r) β (σL s.nt o it X) a w/\a.defers=[]/\a.tmps.getD it undef=.pointer (some ⟨r,0,none⟩) ∧
  w.heap[m]?=some (.map es l.length)/\w.heap[r]?=some (.mapIter (some m) l.length seen G)/\l.length<=G/\L=seen.toList.map (λj=>zp (l.getD j default))/\seen.toList.Nodup/\(∀ j∈seen.toList,j<l.length)/\n+seen.size=l.length)
  ⟨S,β1,X1,[],#[],l.length,b0,R1,dz,b8,Z,al,zka _,rfl,s6,s6,s6⟩ ?_
 clear R1 h1 ch b8 Z al b0 J;rintro n a w ⟨S,β,X,L,seen,G,hX,R,b3,hp,A,b5,dy,hL,bm,a7,hn⟩;have U:=R.nt;refine wpIn_seq (wpIn_region_list ?_);rw[c5];simp only[wpListIn,Region.wanted,if_true];have b4:a.eval (.tmp it)=.pointer (some ⟨r,0,none⟩):=hp;rcases run_next_at w y3 r m l.length G seen es l.length b5 A aI dy with⟨hz,q⟩|⟨c,a0,w1,bv,q⟩
 ·
  refine(bq (K:=λv w1=>v=.tuple #[.bool false]/\w=w1) (dT.value (j3 (m:=Instr.next (.pointer (some ⟨r,0,none⟩)) false y3) ?_ q) ⟨rfl,rfl⟩) ?_)
  ·show(Instr.next (a.eval (.tmp it)) false y3 >>= λr=>pure (Next.value r))=_
   rw[b4]
  rintro _ _ ⟨rfl,rfl⟩;have ex:(a.put (some nx) (.tuple #[.bool false])).eval (.tmp nx)=.tuple #[.bool false]:=jH (by rw[U];exact n3)
  refine(bq (K:=λv w1=>v=.bool false/\w=w1) (dT.value (j3 (m:=Instr.extract (.tuple #[.bool false]) 0) ?_ (v:=.bool false) (w':=w) rfl) ⟨rfl,rfl⟩) ?_)
  ·show(Instr.extract ((a.put (some nx) (.tuple #[.bool false])).eval (.tmp nx)) 0 >>= λr=>pure (Next.value r))=_;rw[ex]
  rintro _ _ ⟨rfl,rfl⟩;simp only[Exit.then];refine wpIn_seq (wpIn_cond_false (jH (by rw[ub,U];exact n4)) (wpIn_exit ?_))
  simp only[Exit.then,Exit.inBlock,if_true];have R2:=(R.put (v:=.undef) (val:=.tuple #[.bool false]) (by simp[AR]) (some nx)).put (v:=.undef) (val:=.bool false) (by simp[AR]) (some ok)
  rw[yi d3,yi d4] at R2;refine hQ L _ _ _ X _ _ hX ?_ R2 b3;have b1:∀ j,j<l.length->j∈seen.toList:=λj M=>by
   have dE:j<es.toList.length:=j1
   have e1:=(f j _ (zea dE)).1;have N:es.toList[j] ∉ (leftOf es seen).toList:=λhm=>by have:=List.length_pos_of_mem hm;simp at this;omega
   simp only[leftOf,Array.toList_filter,zYc,zWa,true_and] at N;simp at N;simp only[zKd,z8a] at e1;rw[e1] at N;simpa using N
  have bs:seen.toList.Perm (List.range l.length):=(List.perm_ext_iff_of_nodup bm List.nodup_range).2 λj=>⟨λM=>zHa.2 (a7 j M),λM=>b1 j (zHa.1 M)⟩;rw[hL];refine(bs.map _).trans ?_;have:(List.range l.length).map (λj=>zp (l.getD j default))=l.map zp:=by
   apply zNb;intro j;rw[zgb,zgb];rcases zta j l.length with k|k
   ·simp[k,List.getD]
   ·rw[zBa (by simpa using k),zBa k];rfl
  rw[this]
 ·
  have cm:w1.heap[m]?=some (.map es l.length):=by rcases bv with rfl|rfl<;>exact A
  have cs:w1.heap.size=w.heap.size:=by rcases bv with rfl|rfl<;>rfl
  have ej:r<w1.heap.size:=by rw[cs];exact(zpa.1 b5).1
  have Rw:Rp w0 (λb i=>S b i/\b≠m/\b≠r) (γs m r) β (σL s.nt o it X) a w1:=by
   rcases bv with rfl|rfl
   ·exact R
   ·have:=(R.grow (os:=[]) (d:=w.drawn+1) (zCc _) (S':=λb i=>S b i/\b≠m/\b≠r) (λ_ _ t=>t) (λ_ _ t=>.inl t)).1;have e2:grown w [] (w.drawn+1)=w.drew:=by
     unfold grown;rw[show w.heap++([]:List Obj).toArray=w.heap by simp]
     rfl
    rw[e2] at this;exact this
  obtain⟨H,V⟩:∃ H,H=setBlock w1 r (.mapIter (some m) l.length (seen.push c.born) l.length):=⟨_,rfl⟩;rw[<-V] at q;have R2:Rp w0 (λb i=>S b i/\b≠m/\b≠r) (γs m r) β (σL s.nt o it X) a H:=by rw[V];exact Rw.setB (id:=1) rfl rfl (λi hi=>hi.2.2 rfl) _
  have ad:H.heap[m]?=some (.map es l.length):=by rw[V];simp only[setBlock];rw[z4c (Ne.symm a9)];exact cm
  have an:H.heap[r]?=some (.mapIter (some m) l.length (seen.push c.born) l.length):=by rw[V];simp only[setBlock];rw[Array.getElem?_setIfInBounds_self_of_lt ej]
  have p:c∈es.toList/\c.born ∉ seen.toList:=by simp only[leftOf,Array.toList_filter,zYc] at a0;exact⟨a0.1,by have:=a0.2;simpa using this⟩
  obtain⟨j,M,dR⟩:=z2a p.1;obtain⟨q1,k,v,q2,q3,q4,q5,q6⟩:=f j c (by rw[zea M,dR])
  rw[z8a] at q1;have ey:j<l.length:=j1
  have a6:l.getD j default=.st [k,v]:=by simp[List.getD,q2]
  refine(bq (K:=λv w1=>v=.tuple #[.bool true,c.key,c.val]/\H=w1) (dT.value (j3 (m:=Instr.next (.pointer (some ⟨r,0,none⟩)) false y3) ?_ q) ⟨rfl,rfl⟩) ?_)
  ·show(Instr.next (a.eval (.tmp it)) false y3 >>= λr=>pure (Next.value r))=_
   rw[b4]
  rintro _ _ ⟨rfl,rfl⟩;have ex:(a.put (some nx) (.tuple #[.bool true,c.key,c.val])).eval (.tmp nx)=.tuple #[.bool true,c.key,c.val]:=jH (by rw[U];exact n3)
  refine(bq (K:=λv w1=>v=.bool true/\H=w1) (dT.value (j3 (m:=Instr.extract (.tuple #[.bool true,c.key,c.val]) 0) ?_ (v:=.bool true) (w':=H) rfl) ⟨rfl,rfl⟩) ?_)
  ·show(Instr.extract ((a.put (some nx) (.tuple #[.bool true,c.key,c.val])).eval (.tmp nx)) 0 >>= λr=>pure (Next.value r))=_;rw[ex]
  rintro _ _ ⟨rfl,rfl⟩;simp only[Exit.then];refine wpIn_seq (wpIn_cond_true (jH (by rw[ub,U];exact n4)) (wpIn_skip ?_))
  simp only[Exit.then];refine wpIn_block (wpIn_seq (wpIn_region_list ?_));have R3:=(R2.put (v:=.undef) (val:=.tuple #[.bool true,c.key,c.val]) (by simp[AR]) (some nx)).put (v:=.undef) (val:=.bool true) (by simp[AR]) (some ok)
  rw[yi d3,yi d4] at R3;have bp:((a.put (some nx) (.tuple #[.bool true,c.key,c.val])).put (some ok) (.bool true)).tmps.getD it undef=.pointer (some ⟨r,0,none⟩):=by rw[bZ (λe=>d8 (by cases e;rfl)),bZ (λe=>d7 (by cases e;rfl))];exact hp
  have W:((a.put (some nx) (.tuple #[.bool true,c.key,c.val])).put (some ok) (.bool true)).defers=[]:=b3;generalize ((a.put (some nx) (.tuple #[.bool true,c.key,c.val])).put (some ok) (.bool true))=a3 at R3 bp W ⊢;rw[dk];simp only[wpListIn,Region.wanted,if_true];refine(bq (K:=λv w1=>v=.tuple #[c.key,c.val]/\H=w1) (dT.value (j3 (m:=Instr.entry (.pointer (some ⟨r,0,none⟩))) ?_ (run_entry_at H r m l.length seen es l.length c an ad p.1 dv)) ⟨rfl,rfl⟩) ?_)
  ·show(Instr.entry (a3.eval (.tmp it)) >>= λr=>pure (Next.value r))=_;rw[show a3.eval (.tmp it)=.pointer (some ⟨r,0,none⟩) from bp]
  rintro _ _ ⟨rfl,rfl⟩;have R4:=R3.put (v:=.d (.tup [e,vt]) (.tup [k,v])) (val:=.tuple #[c.key,c.val]) (by
   simp only[AR];refine .inr ⟨[e,vt],rfl,by simp[aO,ec,ed],⟨[k,v],rfl,k,[v],rfl,q3,v,[],rfl,q4,rfl⟩,[c.key,c.val],rfl,rfl,λi d u z hu=>?_⟩
   cases i with
   | zero=>simp at z hu;subst z;subst hu;exact wL he q3 q5
   | succ i=>cases i with
    | zero=>simp at z hu;subst z;subst hu;exact wL ek q4 q6
    | succ i=>simp at z) (some en)
  have b9:(a3.put (some en) (.tuple #[c.key,c.val])).tmps.getD it undef=.pointer (some ⟨r,0,none⟩):=by rw[bZ (λe=>d9 (by cases e;rfl))];exact bp
  have Y:(a3.put (some en) (.tuple #[c.key,c.val])).defers=[]:=W;generalize (a3.put (some en) (.tuple #[c.key,c.val]))=a4 at R4 b9 Y ⊢;have dx:(c.born::seen.toList).length<=l.length:=zK _ _ (List.nodup_cons.2 ⟨p.2,bm⟩) (λx hx=>by
   rcases zGa.1 hx with rfl|hx
   ·omega
   ·exact a7 x hx)
  have eo:L.length=seen.size:=by rw[hL];simp
  simp only[zOa,zFb] at dx;have cI:((σL s.nt o it X).put (some en) (.d (.tup [e,vt]) (.tup [k,v]))).lkS=[it]:=(aeE _ _ _).2.2.2.2.1;have C:((σL s.nt o it X).put (some en) (.d (.tup [e,vt]) (.tup [k,v]))).lkO=[0,1,4095]:=(aeE _ _ _).2.2.2.2.2.1;refine uC (ops:=rest.toArray) rest _ _ bt ?_;have key:=KX (ro:=none) (nn:=nn) hE (Q:=Exit.then (c26.wpIn (FW none) nn P (Exit.inBlock b2 (Exit.then (λa' w'=>∃ g,g<n/\∃ (S:Nat->Nat->Prop) (β:Nat->Option (Nat×Nat)) (X:AV) (L:List D) (seen:Array Nat) (G:Nat),Mh e L X/\Rp w0 (λb i=>S b i/\b≠m/\b≠r) (γs m r) β (σL s.nt o it X) a' w'/\a'.defers=[]/\a'.tmps.getD it undef=.pointer (some ⟨r,0,none⟩) ∧
   w'.heap[m]?=some (.map es l.length)/\w'.heap[r]?=some (.mapIter (some m) l.length seen G)/\l.length<=G/\L=seen.toList.map (λj=>zp (l.getD j default))/\seen.toList.Nodup/\(∀ j∈seen.toList,j<l.length)/\g+seen.size=l.length) (Exit.inBlock b Q)))) (Exit.inBlock b2 (Exit.then (λa' w'=>∃ g,g<n/\∃ (S:Nat->Nat->Prop) (β:Nat->Option (Nat×Nat)) (X:AV) (L:List D) (seen:Array Nat) (G:Nat),Mh e L X/\Rp w0 (λb i=>S b i/\b≠m/\b≠r) (γs m r) β (σL s.nt o it X) a' w'/\a'.defers=[]/\a'.tmps.getD it undef=.pointer (some ⟨r,0,none⟩) ∧
   w'.heap[m]?=some (.map es l.length)/\w'.heap[r]?=some (.mapIter (some m) l.length seen G)/\l.length<=G/\L=seen.toList.map (λj=>zp (l.getD j default))/\seen.toList.Nodup/\(∀ j∈seen.toList,j<l.length)/\g+seen.size=l.length) (Exit.inBlock b Q)))) R4 (O X L k v hX j1 q3) ?_
  ·simpa using key
  intro x s' S' γ' β' a' w' g1 g2 g3 g4;cases x with
  | ret=>cases g4
  | exit i=>cases g4
  | normal=>
   show c26.wpIn (FW none) nn P _ a' w';refine yX hE c26 .leaf D _ _ g1 g4 λx2 s2 S2 γ2 β2 a5 w5 k1 k2 k3 k4=>?_;cases x2 with
   | ret=>cases k4
   | exit i=>cases k4
   | normal=>
    have dB:dF s2 e o=some (L++[k]):=by obtain⟨l2,u1,u2⟩:=ab k4;simp only[zda,D.sl.injEq] at u2;rw[u1,u2]
    have F:=g2.tr k2 g3;obtain⟨z1,z2⟩:=F.objs 0 (by rw[C];simp) m rfl
    obtain⟨z3,z4⟩:=F.objs 1 (by rw[C];simp) r rfl
    have z5:=F.slots it (by rw[cI];simp)
    obtain⟨β6,X6,dr,R6⟩:=k1.std (m:=m) (r:=r) (k1.γn 0 m z1) (k1.γn 1 r z3) a9 (λu bb ee z t=>⟨λeq=>k1.βγ u 0 bb ee z t (eq ▸ z1),λeq=>k1.βγ u 1 bb ee z t (eq ▸ z3)⟩) he dB it;have b7:s2.nt=s.nt:=by rw[k3.nt,g3.nt,(aeE _ _ _).2.2.2.1];rfl
    rw[b7] at R6;show ∃ g,g<n/\_;refine⟨n-1,j1,S2,β6,X6,L++[k],seen.push c.born,l.length,dr,R6,F.df0 (by rw[C];simp) Y,z5.trans b9,z2.eq ad (λ_ h=>by cases h),z4.eq an (λ_ h=>by cases h),zka _,?_,?_,?_,?_⟩
    ·rw[ztd,zmb,<-hL,znb,List.map_nil,q1,a6];rfl
    ·rw[ztd,List.nodup_append];refine⟨bm,s6,λx hx y hy=>?_⟩
     rw[zKa.1 hy];exact λeq=>p.2 (eq ▸ hx)
    ·intro x hx;rw[ztd] at hx;rcases zIa.1 hx with hx|hx
     ·exact a7 x hx
     ·rw[zKa.1 hx];omega
    ·simp;omega
end
end Sy
end
noncomputable section
namespace Sy
open Go Go.Proofs Go.Sort Go.Lib
section
variable{P:Program}{E:Env}
def nO(w:World)(S:Nat->Nat->Prop):Root:=⟨w,S,λ_=>False⟩
def Fp(P:Program)(fn:Func)(w:World)(S:Nat->Nat->Prop)(a:Ty)(y:D):Exit->Act->World->Prop:=
 bodyPost P fn λe w'=>∃ v,e=.returned v/\(∃ os d,w.drawn<=d/\w'=grown w os d)/\wt a y/\DR w' (λb o=>S b o\/(w.heap.size<=b/\b<w'.heap.size)) y v
def Gi(q:EnvOk P E){fn:Func}{a:Ty}{y:D}{w:World}{S:Nat->Nat->Prop}(u:fd fn.results.size a=true){d:Code}{ann:Ann}{S':Nat->Nat->Prop}{γ':Nat->Option Nat}{β':Nat->Option (Nat×Nat)}{s':St}{a':Act}{w':World}
  (h:Rp (nO w S) S' γ' β' s' a' w') (f:a'.defers=[]) (p:4095∈s'.lkO) (j:(ev E d ann D s' λe s=>match e with|.exit _=>none|_=>results E s a fn.results.toList)=some y):d.wpIn (FW none) 0 P (Fp P fn w S a y) a' w':=by
 refine yX q d ann D _ y h j λe s' S' γ' β' a' w' g t B n=>?_;have c:results E s' a fn.results.toList=some y->(∃ v,(Go.results fn a'.tmps).run P w'=.ok v w'/\∃ v',Ending.returned v=.returned v'/\(∃ os d,w.drawn<=d/\w'=grown w os d)/\wt a y/\DR w' (λb o=>S b o\/(w.heap.size<=b/\b<w'.heap.size)) y v'):=λhq=>by
  obtain⟨v,x,z,A⟩:=iP q g u hq;refine⟨v,x,v,rfl,eO g.ext (λ_ k=>k),z,A.mono (λ_ _ _=>rfl) λb o r=>?_⟩;rcases zta b w.heap.size with m|l
  ·exact .inl (g.So b o r ⟨m,λk=>k⟩)
  ·exact .inr ⟨l,g.Sb b o r⟩
 cases e with
 | normal=>exact⟨t.df0 p f,c n⟩
 | ret=>exact⟨t.df0 p f,c n⟩
 | exit i=>cases n
def np(u:EnvOk P E){f:FuncId}{fn:Func}{ann:AnnT}{a:List Ty}{i:Ty}{xs:List D}{y:D}{K:St->Option D}(B:P.funcs[f]?=some fn)(hk:(decide (a.length<=fn.ntmps)&&fd fn.results.size i&&aO a)=true)
  (h:Ge E K fn ann a xs=some y) (z:∀ c,fn.body=some c->∀ (w:World) (S S':Nat->Nat->Prop) γ' β' s' a' w',Rp (nO w S) S' γ' β' s' a' w'->a'.defers=[]->K s'=some y->(rh c ann).wpIn (FW none) 0 P (Fp P fn w S i y) a' w'):HZ P a i f xs y:=by
 intro w S vs A k hlen n;simp only[zaa,zia] at hk;obtain⟨⟨G,Q⟩,hn⟩:=hk;unfold Ge at h;split at h<;>first|(cases h;done)|skip
 rename_i c d;have J:xs.length=a.length:=gA k;have j:(vs.toArray++Array.replicate (fn.ntmps-vs.toArray.size) undef).size=fn.ntmps:=by simp;omega
 refine wX B d (No (w0:=nO w S) u c ann (S:=S) (γ:=λ_=>none) (β:=λ_=>none) (s:=nB fn a xs) ?_ rfl (by simp[nB]) h λs' S' γ' β' a' w' M nd N=>z c d w S S' γ' β' s' a' w' M nd N)
 refine⟨⟨rfl,rfl,rfl,zka _,zka _,λ_ _=>rfl⟩,λt r=>?_,j,λt r=>?_,λid o b F=>(by cases F),λid b d=>(by cases d),λid L b d=>(by cases d),λ_ _=>rfl,λv b e _ d=>(by cases d),λv v' b e O _ _ d=>(by cases d),λv id b e _ d=>(by cases d),λ_ _=>rfl,A,λb o d _=>d⟩
 ·simp only[nB,fX];split
  ·rename_i ty x q m;have C:=(zna.1 m).1;have g:t<vs.length:=j1
   have I:(vs.toArray++Array.replicate (fn.ntmps-vs.toArray.size) undef).getD t undef=vs[t]:=by simp[Array.getD,zuc,g];omega
   show AR _ _ ((vs.toArray++Array.replicate (fn.ntmps-vs.toArray.size) undef).getD t undef);rw[I];obtain⟨R,l,p⟩:=fg k q;rw[m] at l;cases l;exact c6 (bJ hn q) p (n t x _ m (zea g))
  ·simp only[AR]
 ·have H:fn.ntmps<=t:=r;simp only[nB,fX];rw[zBa j1]
def Lv(nt x:Nat)(e:Ty)(l:List D):St:={ tm:=λi=>if i=x then .d (.sl e) (.sl l) else .undef,ob:=λ_=>none,fresh:=0,dead:=[],nt:=nt,lkS:=[],lkO:=[4095] }
def Rp.reset{w0:Root}{S:Nat->Nat->Prop}{s:St}{x:Nat}{e:Ty}{l:List D}{a:Act}{w:World}(h:Rp w0 S (λ_=>none) (λ_=>none) (NQ s x e l) a w){nt:Nat}(c:s.nt=nt):Rp w0 S (λ_=>none) (λ_=>none) (Lv nt x e l) a w:=by subst c;exact⟨h.ext,h.tms,h.nt,h.tmu,λid o b d=>(by cases d),h.γn,h.γi,λ_ _=>rfl,h.βn,h.βi,h.βγ,λ_ _=>rfl,h.Sb,h.So⟩
def Dj(E:Env)(nt x g:Nat)(e:Ty)(s:St):Option D:=(dF s e x).bind λl=>if s.nt=nt then(jX E g l).bind λl'=>some (.sl l') else none
def wp(B:EnvOk P E){f0:Nat}{e:Ty}(J:SortOk P f0 e){g:Nat}(j:E.sig g=some ([e,e],.int .i64)/\E.free g=0){fn:Func}{b:Ty}{y:D}{w:World}{S:Nat->Nat->Prop}(K:fd fn.results.size b=true)
  {id x t d2 nt:Nat} {ops:Array Oper} {d:Code} {ann:Ann} {z A:TypeId} {p1 L:String} {k m:Array Edge} {args:Array Operand} {n:Array TypeId}
  (i:ops.toList=[⟨some t,.move (.tmp x),z,p1,k,none⟩,⟨some d2,.call ⟨.value (.func f0),args,n⟩,A,L,m,none⟩]) (a:args=#[.tmp t,.func g]) (C:(decide (x≠t)&&decide (x≠d2)&&decide (t<nt))=true)
  (v:∀ l',(ev E d ann D (Lv nt x e l') λe s=>match e with|.exit _=>none|_=>results E s b fn.results.toList)=some (.sl l'))
  {S':Nat->Nat->Prop} {γ':Nat->Option Nat} {β':Nat->Option (Nat×Nat)} {s':St} {a':Act} {w':World} (h:Rp (nO w S) S' γ' β' s' a' w') (u:a'.defers=[]) (H:Dj E nt x g e s'=some y):(Code.seq (.region id ops false) d).wpIn (FW none) 0 P (Fp P fn w S b y) a' w':=by
 simp only[zaa,zia] at C;obtain⟨⟨p,q⟩,r⟩:=C;obtain⟨l,h1,o⟩:=ab H;split at o<;>first|(cases o;done)|skip
 rename_i f;obtain⟨l',F,G⟩:=ab o;cases G;refine wpIn_seq (LB B J j i a h u p q (by rw[f];exact r) h1 F λa2 M S2 I c=>?_)
 exact Gi B K (I.reset f) c (by simp[Lv]) (v l')
theorem qz{lt:D->D->Bool}{x:D}:∀ {l:List D},(∀ a∈x::l,∀ b∈x::l,∀ c∈x::l,lt a b=true->lt b c=true->lt a c=true)->(∀ y∈l,lt x y=true\/lt y x=true)->l.Pairwise (λa b=>lt a b=true)->(Bc lt x l).Pairwise (λa b=>lt a b=true)
 | [],_,_,_=>by simp[Bc]
 | y::l,g,f,hp=>by
  obtain⟨p1,k⟩:=z9a.1 hp;simp only[Bc];split
  ·rename_i e;refine z9a.2 ⟨λz d=>?_,hp⟩;rcases zGa.1 d with rfl|d
   ·exact e
   ·exact g x s6 y s6 z (by simp[d]) e (p1 z d)
  ·rename_i e;have h:lt y x=true:=(f y zwa).resolve_left e;refine z9a.2 ⟨λz d=>?_,qz (λa i b j c hc=>?_) (λz d=>f z (zma _ d)) k⟩
   ·rcases zGa.1 ((pV lt x l).subset d) with rfl|d
    ·exact h
    ·exact p1 z d
   ·have up:∀ q,q∈x::l->q∈x::y::l:=λq hq=>by
     rcases zGa.1 hq with rfl|hq
     ·simp
     ·simp[hq]
    exact g a (up a i) b (up b j) c (up c hc)
theorem pg{lt:D->D->Bool}:∀ {l:List D},(∀ a∈l,∀ b∈l,∀ c∈l,lt a b=true->lt b c=true->lt a c=true)->l.Pairwise (λa b=>lt a b=true\/lt b a=true)->(kL lt l).Pairwise (λa b=>lt a b=true)
 | [],_,_=>by simp[kL]
 | x::l,d,g=>by
  obtain⟨p1,j⟩:=z9a.1 g;have h:∀ q,q∈kL lt l->q∈l:=λq hq=>(gz lt l).subset hq;have up:∀ q,q∈x::kL lt l->q∈x::l:=λq hq=>by
   rcases zGa.1 hq with rfl|hq
   ·simp
   ·simp[h q hq]
  exact qz (λa e b f c hc=>d a (up a e) b (up b f) c (up c hc)) (λy i=>p1 y (h y i)) (pg (λa e b f c hc=>d a (zma _ e) b (zma _ f) c (zma _ hc)) j)
def Ho{g:Nat}{l l':List D}(hc:yJ E g l'=true)(hp:l.Perm l'):jX E g l=some l':=by
 obtain⟨h1,C⟩:=jC hc;have m:∀ x∈l',∃ i,l'[i]?=some x:=λx hx=>by obtain⟨i,v,w⟩:=z2a hx;exact⟨i,by rw[zea v,w]⟩
 have u:∀ a∈l,∀ b∈l,∀ c∈l,rt E g a b=true->rt E g b c=true->rt E g a c=true:=λa n b o c r v w=>by obtain⟨i,f⟩:=m a (hp.subset n);obtain⟨j,d⟩:=m b (hp.subset o);obtain⟨k,hk⟩:=m c (hp.subset r);have:=(eM hc f d).1.1 v;have:=(eM hc d hk).1.1 w;exact(eM hc f hk).1.2 j1
 have s:l.Nodup:=hp.symm.nodup (vc hc);have t:l.Pairwise (λa b=>rt E g a b=true\/rt E g b a=true):=by
  refine List.Pairwise.imp_of_mem (λ{a b} n o q=>?_) s;obtain⟨i,f⟩:=m a (hp.subset n);obtain⟨j,d⟩:=m b (hp.subset o);rcases zrd i j with k|k|k
  ·exact .inl ((eM hc f d).1.2 k)
  ·subst k;rw[f] at d;cases d;exact z3a rfl q
  ·exact .inr ((eM hc d f).1.2 k)
 have A:=pg u t;have p:(kL (rt E g) l).Perm l':=(gz _ l).trans hp;have:kL (rt E g) l=l':=by
  have key:∀ {a b:List D},a.Pairwise (λx y=>rt E g x y=true)->b.Pairwise (λx y=>rt E g x y=true)->a.Perm b->(∀ x∈a,x∈l')->a=b:=by
   intro a
   induction a with
   | nil=>intro b _ _ hp _;exact hp.symm.eq_nil.symm ▸ rfl
   | cons x a ih=>
    intro b n o hp hm;cases b with
    | nil=>exact z3a hp.eq_nil s6
    | cons y b=>
     obtain⟨a1,a2⟩:=z9a.1 n;obtain⟨b1,b2⟩:=z9a.1 o;have e:x=y:=by
      rcases zGa.1 (hp.subset zwa) with e|m1
      ·exact e
      ·rcases zGa.1 (hp.symm.subset (zwa (a:=y))) with e|m2
       ·exact e.symm
       ·exfalso;obtain⟨i,f⟩:=m x (hm x zwa);obtain⟨j,d⟩:=m y (hm y (zma _ m2));have:=(eM hc f d).1.1 (a1 y m2);have:=(eM hc d f).1.1 (b1 x m1);omega
     subst e;rw[ih a2 b2 ((List.perm_cons x).1 hp) (λz B=>hm z (zma _ B))]
  exact key A (h1.imp λh=>h.1) p λx hx=>p.subset hx
 unfold jX;rw[this,zja hc]
def BI{g:Nat}{l b l':List D}(h:jX E g l=some l')(hp:b.Perm l):jX E g b=some l':=by
 have a:yJ E g l'=true/\l'=kL (rt E g) l:=by
  unfold jX at h;split at h
  ·rename_i c;cases h;exact⟨c,rfl⟩
  ·cases h
 exact Ho a.1 (hp.trans (by rw[a.2];exact(gz _ l).symm))
end
end Sy
end
noncomputable section
namespace Sy
open Go Go.Proofs
inductive AnnU where
 | fin (a:Ann)
 | seq (a:Ann) (b:AnnU)
 | next (a:Ann) (b:AnnU)
 | asc (a:AnnU)
 | thaw (x:Nat) (e:Ty) (a b:AnnU)
mutual
def lg(dead:List Nat):AV->Bool
 | .d t _=>bE t
 | .nils=>true
 | .own t v _=>bE t&&!(dead.contains v)
 | .st _ l=>wY dead l
 | _=>false
def wY(dead:List Nat):List AV->Bool
 | []=>true
 | a::l=>lg dead a&&wY dead l
end
def Aq(dead:List Nat)(v:AV):AV:=if lg dead v then v else match v with
 | .ptr t id p=>.ptr t id p
 | _=>.undef
def Ap(dead:List Nat):Option Ob->Option Ob
 | some (.one t v)=>if lg dead v then some (.one t v) else none
 | _=>none
def zA(s:St)(x:Nat):List Nat:=match s.tm x with
 | .own _ v _=>v::s.dead
 | _=>s.dead
def ww(s:St)(e:Ty)(x:Nat):Option (List D):=match s.tm x with
 | .own a v l=>if a.beq e&&!(s.dead.contains v)&&bE e&&ao e then some l else none
 | _=>none
def thaw(s:St)(x:Nat)(e:Ty)(l:List D):St:=
 { tm:=λi=>if i=x then .mem e ((s.fresh+1)*4096) else Aq (zA s x) (s.tm i),ob:=λi=>if i=(s.fresh+1)*4096 then some (.many e l) else Ap (zA s x) (s.ob i),fresh:=s.fresh+1,dead:=zA s x,nt:=s.nt,lkS:=[],lkO:=[4095] }
def yW(E:Env)(fn:Func)(f:Ty):Code->List Code->AnnU->St->Option D
 | c,[],.fin a,s=>ev E c a D s λe s=>match e with
  | .exit _=>none
  | _=>results E s f fn.results.toList
 | .seq c d,st,.seq a b,s=>ev E c a D s λe s'=>match e with
  | .normal=>yW E fn f d st b s'
  | .ret=>results E s' f fn.results.toList
  | .exit _=>none
 | c,d::st,.next a b,s=>ev E c a D s λe s'=>match e with
  | .normal=>yW E fn f d st b s'
  | .ret=>results E s' f fn.results.toList
  | .exit _=>none
 | .seq c d,st,.asc a,s=>yW E fn f c (d::st) a s
 | c,st,.thaw x e a b,s=>(ww s e x).bind λl=>if l.isEmpty then yW E fn f c st a (s.put (some x) (.d (.sl e) (.sl []))) else yW E fn f c st b (thaw s x e l)
 | _,_,_,_=>none
def Nk(E:Env)(fn:Func)(ann:AnnU)(b:List Ty)(a:Ty)(args:List D):Option D:=
 match fn.body with
 | none=>none
 | some c=>yW E fn a c [] ann (nB fn b args)
section
variable{P:Program}{E:Env}{w0:Root}{S:Nat->Nat->Prop}{γ:Nat->Option Nat}{β:Nat->Option (Nat×Nat)}{s:St}{a:Act}{w:World}
def E1{w w':World}{S S':Nat->Nat->Prop}{t:Ty}{x:D}{cs:List Value}(hc:bE t=true)(hw:wt t x)(h:cL w S x.flat cs):cL w' S' x.flat cs:=
 (cV (gt t x hc hw)).2 ((cV (gt t x hc hw)).1 h)
mutual
theorem wJ{w:World}{S:Nat->Nat->Prop}{γ γ':Nat->Option Nat}{β:Nat->Option (Nat×Nat)}{ob ob':Nat->Option Ob}{dead:List Nat}{v b':Nat}(hb:∀ u b e,u ∉ v::dead->β u=some (b,e)->b≠b') :
  ∀ (x:AV) (cs:List Value),lg (v::dead) x=true->AC ⟨w,S,γ,β,ob,dead⟩ x cs->AC ⟨w,λb o=>S b o/\b≠b',γ',β,ob',v::dead⟩ x cs
 | .d t x,cs,h,k=>by simp only[AC] at k ⊢;exact⟨k.1,k.2.1,E1 h k.1 k.2.2⟩
 | .nils,cs,_,k=>by simpa only[AC] using k
 | .own t u l,cs,h,k=>by
  simp only[lg,zaa,zCa] at h;have hu:u ∉ v::dead:=by simpa using h.2
  have hu':u ∉ dead:=λhh=>hu (zma _ hh);simp only[AC] at k ⊢;obtain⟨k1,k2,A,cap,k3,k4,k5⟩:=k;refine⟨k1,k2,A,cap,k3,?_,λ_=>k5 hu'⟩;obtain⟨_,_,b,off,e1,e2,e3,cs2,e4,e5⟩:=k4.elems;cases e1;have lf:=gu h.1 l k2;by_cases hne:l=[]
  ·subst hne;exact adS (b:=0) (off:=0) (.inl rfl) e3 ⟨[],cL.nil,s6⟩
  ·replace e2:=e2.resolve_left hne;refine adS (.inr e2) e3 ⟨cs2,(cV lf).2 ((cV lf).1 e4),λi c hi=>⟨⟨(e5 i c hi).1,?_⟩,(e5 i c hi).2⟩⟩;rcases k5 hu' with⟨z1,_⟩|⟨b2,off2,z1,z2,_⟩
   ·rw[z1] at e2;cases e2
   ·rw[z1] at e2;cases e2;exact hb u _ _ hu z2
 | .st ts l,cs,h,k=>by simp only[AC] at k ⊢;exact⟨k.1,k.2.1,ym hb l cs (by simpa only[lg] using h) k.2.2⟩
 | .ptr ..,_,h,_|.fptr ..,_,h,_|.mem ..,_,h,_|.clo ..,_,h,_|.map ..,_,h,_|.sub ..,_,h,_|.yld ..,_,h,_|.tpo ..,_,h,_|.gone,_,h,_|.undef,_,h,_=>by cases h
theorem ym{w:World}{S:Nat->Nat->Prop}{γ γ':Nat->Option Nat}{β:Nat->Option (Nat×Nat)}{ob ob':Nat->Option Ob}{dead:List Nat}{v b':Nat}(hb:∀ u b e,u ∉ v::dead->β u=some (b,e)->b≠b') :
  ∀ (l:List AV) (cs:List Value),wY (v::dead) l=true->il ⟨w,S,γ,β,ob,dead⟩ l cs->il ⟨w,λb o=>S b o/\b≠b',γ',β,ob',v::dead⟩ l cs
 | [],cs,_,k=>by simpa only[il] using k
 | x::l,cs,h,k=>by simp only[wY,zaa] at h;simp only[il] at k ⊢;obtain⟨c1,c2,e,k1,k2⟩:=k;exact⟨c1,c2,e,wJ hb x c1 h.1 k1,ym hb l c2 h.2 k2⟩
end
def HY{w:World}{S:Nat->Nat->Prop}{γ γ':Nat->Option Nat}{β:Nat->Option (Nat×Nat)}{ob a:Nat->Option Ob}{dead:List Nat}{v c:Nat}(g:∀ u b e,u ∉ v::dead->β u=some (b,e)->b≠c)
  {y:AV} {x:Value} (h:lg (v::dead) y=true) (k:AR ⟨w,S,γ,β,ob,dead⟩ y x):AR ⟨w,λb o=>S b o/\b≠c,γ',β,a,v::dead⟩ y x:=by
 cases y<;>simp only[AR] at k ⊢<;>first|(cases h;done)|skip
 case d t y=>
  simp only[lg] at h;rcases k with⟨i,f,j⟩|⟨l,rfl,_⟩
  ·exact .inl ⟨i,f,wL h f j⟩
  ·simp[bE] at h
 all_goals exact⟨k.1,wJ g _ _ h k.2⟩
def BO(dead:List Nat)(v:AV):(lg dead v=true/\Aq dead v=v)\/(∃ t id p,v=.ptr t id p/\Aq dead v=v)\/Aq dead v=.undef:=by
 by_cases h:lg dead v=true
 ·exact .inl ⟨h,zja h⟩
 ·cases v<;>first
   | exact .inr (.inl ⟨_,_,_,rfl,rfl⟩)
   | exact .inr (.inr (zga h))
def uj{dead:List Nat}{o:Option Ob}{o':Ob}(h:Ap dead o=some o'):∃ t v,o=some (.one t v)/\o'=.one t v/\lg dead v=true:=by
 unfold Ap at h;split at h<;>first|(cases h;done)|skip
 split at h<;>first|(cases h;done)|skip
 rename_i t v a;cases h;exact⟨t,v,rfl,rfl,a⟩
theorem Rp.thaw(h:Rp w0 S γ β s a w){x:Nat}{e:Ty}{l:List D}(hl:ww s e x=some l)(W:l≠[]):∃ S' γ' β',Rp w0 S' γ' β' (thaw s x e l) a w:=by
 unfold ww at hl;split at hl<;>first|(cases hl;done)|skip
 rename_i B v l0 J;split at hl<;>first|(cases hl;done)|skip
 rename_i c;cases hl;simp only[zaa,zCa] at c;obtain⟨⟨⟨T,U⟩,hc⟩,hn⟩:=c;have:=aeK _ _ T;subst this;have N:v ∉ s.dead:=by simpa using U
 have hx:x<s.nt:=by
  rcases zta x s.nt with k|k
  ·exact k
  ·have:=h.tmu x k;rw[J] at this;cases this
 have F:=h.tms x (by rw[h.nt];exact hx)
 rw[J] at F;simp only[AR,AC] at F;obtain⟨n0,n1,Y,ad,cap,n3,n4,n5⟩:=F;obtain⟨ax,al,A,an,K,y,e3,cs,c1,c2⟩:=n4.elems;cases K;replace y:=y.resolve_left W;rcases n5 N with⟨rfl,_⟩|⟨b,off,q1,P,n,q3,q4,q5⟩
 ·cases y
 rw[y] at q1;cases q1;subst q5;obtain⟨row,E,a0⟩:=nP q3;obtain⟨k1,k2,k3⟩:=h.βn v _ _ N P;have I:bO w A=some (cs++row.toList.drop cs.length).toArray:=by
  rw[E];congr 1;apply zdc;have:row.toList.take cs.length=cs:=by
   apply zNb;intro i;rcases zta i cs.length with H|H
   ·have:=(c2 i cs[i] (zea H)).2;rw[cell_of_row w E,z8a] at this;rw[zsb H,zea H,zJa];exact this
   ·rw[zBa H,zBa (by simp;omega)]
  conv=>lhs;rw[<-zua cs.length row.toList,this]
 have d:zA s x=v::s.dead:=by simp only[zA,J]
 have G:∀ u b e,u ∉ v::s.dead->β u=some (b,e)->b≠A:=λu b e hu he M=>by subst M;exact hu (by rw[h.βi u v b e _ (λz=>hu (zma _ z)) N he P];exact zwa)
 have hid:γ ((s.fresh+1)*4096)=none:=h.γf _ (by unfold St.base;omega)
 obtain⟨id,q⟩:∃ id,id=(s.fresh+1)*4096:=⟨_,rfl⟩;rw[<-q] at hid;refine⟨λb o=>S b o/\b≠A,λi=>if i=id then some A else γ i,β,⟨h.ext,λt X=>?_,h.nt,λt X=>?_,λi o b j c=>?_,λi b c=>?_,λi L b c g=>?_,λi H=>?_,λu b e hu c=>?_,λu u' b e B hu C c g=>?_,λu i b e hu c O=>?_,λu hu=>h.βf u ?_,λb o c=>h.Sb b o c.1,λb o c=>h.So b o c.1⟩⟩
 ·have m:=h.tms t X;have e0:(Sy.thaw s x B l).tm t=if t=x then .mem B id else Aq (v::s.dead) (s.tm t):=by rw[q,<-d];rfl
  have K:(Sy.thaw s x B l).ob=λi=>if i=id then some (.many B l) else Ap (v::s.dead) (s.ob i):=by rw[q,<-d];rfl
  have R:(Sy.thaw s x B l).dead=v::s.dead:=d;rw[e0,K,R];by_cases htx:t=x
  ·subst htx;rw[zja rfl];simp only[AR,AC];refine⟨n0,hn,A,s6,λo j=>?_⟩
   simp only[if_true,zda] at j;subst j;exact⟨l,cap,rfl,e3,by rw[n3,y]⟩
  ·rw[zga htx];rcases BO (v::s.dead) (s.tm t) with⟨V,y⟩|⟨t',L,p,hp,y⟩|y
   ·rw[y];exact HY G V m
   ·rw[y,hp];rw[hp] at m;simp only[AR,AC] at m ⊢;obtain⟨m0,b,off,m1,m2,m3⟩:=m;have r:L≠id:=λM=>by rw[M,hid] at m2;cases m2
    refine⟨m0,b,off,m1,by rw[zga r];exact m2,λo j=>?_⟩
    rw[zga r] at j;obtain⟨t2,v2,Z,z2,_⟩:=uj j;exact m3 o (by rw[Z,z2])
   ·rw[y];simp only[AR]
 ·have m:s.nt<=t:=X;simp only[Sy.thaw];rw[zga (λM=>by subst M;exact z3a hx (zIc.2 m)),h.tmu t m]
  rfl
 ·have K:(Sy.thaw s x B l).ob=λi=>if i=id then some (.many B l) else Ap (v::s.dead) (s.ob i):=by rw[q,<-d];rfl
  have R:(Sy.thaw s x B l).dead=v::s.dead:=d;rw[K] at j;rw[K,R];simp only at j c;by_cases hii:i=id
  ·subst hii;rw[zja rfl] at j c;cases j;cases c;simp only[fN];exact⟨hn,Y,λo j=>j.2 rfl,cs,_,I,(cV (gu hc l Y)).2 ((cV (gu hc l Y)).1 c1)⟩
  ·rw[zga hii] at j c;obtain⟨t2,v2,Z,rfl,z3⟩:=uj j;have hO:=h.obs i _ b Z c;simp only[fN] at hO ⊢;obtain⟨o1,o2,o3,Q,o4,o5,o6⟩:=hO;exact⟨o1,o2,λo z=>o3 o z.1,Q,o4,wJ G _ _ z3 o5,o6⟩
 ·replace c:(if i=id then some A else γ i)=some b:=c
  split at c
  ·cases c;exact⟨k1,k2⟩
  ·exact h.γn i b c
 ·replace c:(if i=id then some A else γ i)=some b:=c
  replace g:(if L=id then some A else γ L)=some b:=g
  split at c<;>split at g
  ·simp_all
  ·cases c;exact z3a g (h.βγ v L _ _ N P)
  ·cases g;exact z3a c (h.βγ v i _ _ N P)
  ·exact h.γi i L b c g
 ·have aI:(s.fresh+1)*4096+4096<=i:=by simpa only[St.base,Sy.thaw] using H
  show(if i=id then some A else γ i)=none
  have r:i≠id:=j1
  rw[zga r];refine h.γf i ?_;have e5:s.base=s.fresh*4096:=rfl;omega
 ·replace hu:u ∉ v::s.dead:=by rw[<-d];exact hu
  obtain⟨m1,m2,m3⟩:=h.βn u b e (λz=>hu (zma _ z)) c;exact⟨m1,m2,λo j hs=>m3 o j hs.1⟩
 ·replace hu:u ∉ v::s.dead:=by rw[<-d];exact hu
  replace C:u' ∉ v::s.dead:=by rw[<-d];exact C
  exact h.βi u u' b e B (λz=>hu (zma _ z)) (λz=>C (zma _ z)) c g
 ·replace hu:u ∉ v::s.dead:=by rw[<-d];exact hu
  replace O:(if i=id then some A else γ i)=some b:=O
  split at O
  ·cases O;exact G u _ _ hu c rfl
  ·exact h.βγ u i b e (λz=>hu (zma _ z)) c O
 ·have C:(s.fresh+1)*4096+4096<=u:=by simpa only[St.base,Sy.thaw] using hu
  have e5:s.base=s.fresh*4096:=rfl;omega
def Rp.empty(h:Rp w0 S γ β s a w){x:Nat}{e:Ty}(hl:ww s e x=some []):Rp w0 S γ β (s.put (some x) (.d (.sl e) (.sl []))) a w:=by
 unfold ww at hl;split at hl<;>first|(cases hl;done)|skip
 rename_i l v u f;split at hl<;>first|(cases hl;done)|skip
 rename_i j;cases hl;simp only[zaa,zCa] at j;obtain⟨⟨⟨g,m⟩,hc⟩,hn⟩:=j;have:=aeK _ _ g;subst this;have hx:x<s.nt:=by
  rcases zta x s.nt with k|k
  ·exact k
  ·have:=h.tmu x k;rw[f] at this;cases this
 have c:=h.tms x (by rw[h.nt];exact hx)
 rw[f] at c;simp only[AR,AC] at c;obtain⟨p,y,z,t,cap,q,r,A⟩:=c;have:=h.put (v:=.d (.sl l) (.sl [])) (val:=a.tmps.getD x undef) (by have o:=ar p q;rw[o];refine c6 (by simpa only[ao] using hn) (by simp only[wt];exact⟨[],rfl,s6⟩) (aec r)) (some x)
 have e:a.put (some x) (a.tmps.getD x undef)=a:=by
  have:a.tmps.setIfInBounds x (a.tmps.getD x undef)=a.tmps:=by
   apply Array.ext_getElem?;intro i;rw[Array.getElem?_setIfInBounds];split
   ·rename_i n;subst n;split
    ·rename_i b;simp[Array.getD,b]
    ·rename_i b;simp at b;simp[b]
   ·rfl
  show({ a with tmps:=a.tmps.setIfInBounds x (a.tmps.getD x undef) }:Act)=a;rw[this]
 rwa [e] at this
def Ms(i:EnvOk P E){fn:Func}{a:Ty}{y:D}{w:World}{S:Nat->Nat->Prop}(j:fd fn.results.size a=true){S':Nat->Nat->Prop}{γ':Nat->Option Nat}{β':Nat->Option (Nat×Nat)}{s':St}{a':Act}{w':World}
  (c:Rp (nO w S) S' γ' β' s' a' w') (hq:results E s' a fn.results.toList=some y):∃ v,(Go.results fn a'.tmps).run P w'=.ok v w'/\∃ v',Ending.returned v=.returned v'/\(∃ os d,w.drawn<=d/\w'=grown w os d)/\wt a y/\DR w' (λb o=>S b o\/(w.heap.size<=b/\b<w'.heap.size)) y v':=by
 obtain⟨v,k,l,m⟩:=iP i c j hq;refine⟨v,k,v,rfl,eO c.ext (λ_ e=>e),l,m.mono (λ_ _ _=>rfl) λb o h=>?_⟩;rcases zta b w.heap.size with g|f
 ·exact .inl (c.So b o h ⟨g,λe=>e⟩)
 ·exact .inr ⟨f,c.Sb b o h⟩
def RH(P:Program)(fn:Func)(w:World)(S:Nat->Nat->Prop)(a:Ty)(y:D):List Code->Exit->Act->World->Prop
 | []=>Fp P fn w S a y
 | d::st=>Exit.then (d.wpIn (FW none) 0 P (RH P fn w S a y st)) (RH P fn w S a y st)
theorem wP{fn:Func}{w:World}{S:Nat->Nat->Prop}{a:Ty}{y:D}{a':Act}{w':World}(h:Fp P fn w S a y .ret a' w'):∀ st,RH P fn w S a y st .ret a' w'
 | []=>h
 | _::st=>wP h st
theorem pP(n:EnvOk P E){fn:Func}{f:Ty}{y:D}{w:World}{S:Nat->Nat->Prop}(o:fd fn.results.size f=true):∀ (ann:AnnU) (c:Code) (st:List Code) {S':Nat->Nat->Prop} {γ':Nat->Option Nat} {β':Nat->Option (Nat×Nat)} {s':St} {a':Act} {w':World},
  Rp (nO w S) S' γ' β' s' a' w'->a'.defers=[]->4095∈s'.lkO->yW E fn f c st ann s'=some y->c.wpIn (FW none) 0 P (RH P fn w S f y st) a' w'
 | .fin ann,c,st,S',γ',β',s',a',w',h,m,j,a=>by
  cases st with
  | nil=>exact Gi n o h m j (by cases c<;>exact a)
  | cons d st=>cases c<;>simp[yW] at a
 | .seq a1 b,c,st,S',γ',β',s',a',w',h,m,j,a=>by
  cases c<;>first|(cases st<;>simp[yW] at a;done)|skip
  rename_i c d;have g:(ev E c a1 D s' λe s'=>match e with|.normal=>yW E fn f d st b s'|.ret=>results E s' f fn.results.toList|.exit _=>none)=some y:=by cases st<;>exact a
  refine wpIn_seq (yX n c a1 D _ y h g λe s2 S2 v u a2 z q r t p=>?_);cases e with
  | normal=>exact pP n o b d st q (r.df0 j m) (by rw[t.lkO];exact j) p
  | ret=>exact wP ⟨r.df0 j m,Ms n o q p⟩ st
  | exit i=>cases p
 | .next a1 b,c,st,S',γ',β',s',a',w',h,m,j,a=>by
  cases st with
  | nil=>cases c<;>simp[yW] at a
  | cons d st=>
   have g:(ev E c a1 D s' λe s'=>match e with|.normal=>yW E fn f d st b s'|.ret=>results E s' f fn.results.toList|.exit _=>none)=some y:=by cases c<;>exact a
   refine yX n c a1 D _ y h g λe s2 S2 v u a2 z q r t p=>?_;cases e with
   | normal=>exact pP n o b d st q (r.df0 j m) (by rw[t.lkO];exact j) p
   | ret=>exact wP ⟨r.df0 j m,Ms n o q p⟩ (d::st)
   | exit i=>cases p
 | .asc b,c,st,S',γ',β',s',a',w',h,m,j,a=>by
  cases c<;>first|(cases st<;>simp[yW] at a;done)|skip
  rename_i c d;exact wpIn_seq (pP n o b c (d::st) h m j (by cases st<;>exact a))
 | .thaw x e a1 b,c,st,S',γ',β',s',a',w',h,m,j,a=>by
  have g:((ww s' e x).bind λl=>if l.isEmpty then yW E fn f c st a1 (s'.put (some x) (.d (.sl e) (.sl []))) else yW E fn f c st b (Sy.thaw s' x e l))=some y:=by cases c<;>cases st<;>exact a
  obtain⟨l,h1,s⟩:=ab g;split at s
  ·rename_i he;have:l=[]:=by simpa using he
   subst this;exact pP n o a1 c st (h.empty h1) m (by rw[(aeE _ _ _).2.2.2.2.2.1];exact j) s
  ·rename_i he;obtain⟨S2,v,u,k⟩:=h.thaw h1 (by simpa using he)
   exact pP n o b c st k m (by simp[Sy.thaw]) s
def AU(g:EnvOk P E){f:FuncId}{fn:Func}{ann:AnnU}{a:List Ty}{b:Ty}{xs:List D}{y:D}(j:P.funcs[f]?=some fn)(hk:(decide (a.length<=fn.ntmps)&&fd fn.results.size b&&aO a)=true)
  (h:Nk E fn ann a b xs=some y):HZ P a b f xs y:=by
 have k:fd fn.results.size b=true:=by simp only[zaa] at hk;exact hk.1.2
 refine np g (ann:=.hand) (K:=λs=>if s.lkO.contains 4095 then fn.body.bind λc=>yW E fn b c [] ann s else none) j hk ?_ λc e w S S' γ' β' s' a' w' l nd d=>?_
 ·unfold Nk at h;unfold Ge;split at h<;>first|(cases h;done)|skip
  rename_i c e;rw[e];try simp only
  have:Mc E (λs=>if s.lkO.contains 4095 then(some c).bind λc=>yW E fn b c [] ann s else none) c .hand (nB fn a xs)=some y:=by cases c<;>exact h
  exact this
 ·split at d
  ·rename_i i;rw[e] at d;have key:c.wpIn (FW none) 0 P (Fp P fn w S b y) a' w':=pP g k ann c [] l nd (by simpa using i) d
   cases c<;>exact key
  ·cases d
end
def Nl(v:Nat)(lp:Lp)(f:Nat)(fn:Func)(ann:AnnU)(call:Nat->List D->Option D)(xs:List D):Option D:=
 (mK (cw f)).bind λs=>Nk (dL lp call (Bb v lp call)) fn ann s.1 s.2 xs
def NI(f:Nat)(fn:Func):Bool:=match mK (cw f) with
 | some (p,r)=>decide (p.length<=fn.ntmps)&&fd fn.results.size r&&aO p&&(Nat.beq (iF (cw f)) 0&&!(mX (cw f)))
 | none=>false
def QG{v:Nat}{lp:Lp}(b:aj lp){f:Nat}{fn:Func}{ann:AnnU}(d:Tryz.prog.funcs[cw f]?=some fn)(hk:NI f fn=true):af f (Nl v lp f fn ann):=by intro call hc c m xs y e a hw;unfold Nl at a;unfold NI at hk;rw[e] at a hk;simp only[zba] at a;simp only[zaa,zCa,zia] at hk;obtain⟨⟨⟨g,i⟩,j⟩,k,l⟩:=hk;rw[zVb k,l];exact⟨AU (Nf (v:=v) b hc) d (by simp[g,i,j]) a,λh=>by cases h⟩
def GD(v:Nat)(fn:Func)(ann:AnnU){lp:Lp}(c:aj lp){f:Nat}{F:(Nat->List D->Option D)->D->D->D->Option D}(g:Tryz.prog.funcs[cw f]?=some fn:=by kernel_rfl)(hk:NI f fn=true:=by kernel_rfl)
  (e:∀ call a0 a1 a2,Nl v lp f fn ann call [a0,a1,a2]=F call a0 a1 a2:=by intros;kernel_rfl):af f (m3 F):=by
 intro call hc a d xs y h b hw;unfold m3 at b;split at b<;>first|(cases b;done)|skip
 exact QG (v:=v) c g hk call hc a d _ y h ((e call _ _ _).trans b) hw
end Sy
end
noncomputable section
set_option maxHeartbeats 0
noncomputable section
namespace Sy
open Go Go.Proofs
section
variable{lp}(a:aj lp)
def TI:AnnU:=(.seq .leaf (.seq .leaf (.seq (.reg [] 6) (.seq .leaf (.seq .leaf (.seq (.tl (.two (.loop ⟨[(9,.ow am),(35,.di)],[],[0,8,34]⟩ [(.ret,⟨[(6,.ow am),(7,.dv Ty.bool)],[],[]⟩),(.exit 0,⟨[(9,.ow am)],[],[]⟩)] (.tl (.tl (.two (.two (.tl (.tl (.two (.tl (.two (.loop ⟨[(9,.ow am),(11,.sp am 40971),(44,.di)],[(40971,.one am (.dv am))],[0,8,34,35,42,43]⟩ [(.exit 2,⟨[(9,.ow am),(11,.sp am 40971)],[(40971,.one am (.dv am))],[0,8,34,35]⟩)] (.tl (.tl (.two (.two (.tl (.reg [] 7)) .leaf) .leaf)))) .leaf)) .leaf))) .leaf) .leaf)))) .leaf)) (.asc (.seq .leaf (.seq .leaf (.thaw 9 am (.next (.two (.tl (.two (.loop ⟨[(14,.sp am 32782),(71,.di)],[(32782,.keep am 14)],[9,70]⟩ [(.exit 4,⟨[],[],[9]⟩)] (.tl (.tl (.two (.two (.tl (.reg [] 9)) .leaf) .leaf)))) .leaf)) .leaf) (.fin .leaf)) (.next (.two (.tl (.two (.loop ⟨[(9,.same (.mem am 40960)),(14,.sp am 32782),(71,.di)],[(32782,.keep am 14),(40960,.many am)],[70]⟩ [(.exit 4,⟨[(9,.same (.mem am 40960))],[(40960,.many am)],[]⟩)] (.tl (.tl (.two (.two (.tl (.reg [] 9)) .leaf) .leaf)))) .leaf)) .leaf) (.fin (.two (.reg [9] 3) .leaf)))))))))))))
def Jl(lp:Lp)(c:Ca)(a0 a1 a2:D):Option D:=(c 546 [a0]).bind λr1=>qT r1 λb2=>(if b2 then(some true) else((c 547 [(D.sl [a1,a2])]).bind λK=>(aeb .not K).bind λP=>D.truth P)).bind λI=>qT (D.bool I) λJ=>if J then(some (D.tup [(D.sl []),(D.bool false)])) else((c 336 [a2,a1]).bind λN=>(c 548 [a0,a1,N]).bind λH=>(c 546 [H]).bind λO=>qT O λi=>if i then(some (D.tup [(D.sl []),(D.bool false)])) else(qS a0 λq=>(qZ lp (λv12=>qC .lss (gx v12 1) (Jn (q.length)) λj=>if j then(qS a0 λr=>qB .sub (Jn (r.length)) (Jn 1) λy=>(c 549 [y,(gx v12 1)]).bind λg=>qS g λs=>(qZ lp (λd=>qC .lss (gx d 1) (Jn (s.length)) λk=>if k then(qX g (gx d 1) λz=>(c 550 [H,(gx d 1)]).bind λt=>(c 61 [z,t]).bind λu=>(c 57 [(gx d 2),u]).bind λv=>qB .add (gx d 1) (Jn 1) λA=>iL [(qW d 0),A,v]) else(iR (0,[(qW d 0),(gx d 2)]))) [(qW v12 0),(Jn 0),(D.st [(D.bool false),(D.bool false),(az aZ)])]).bind λe=>qG (gx e.2 1) [0] λB=>qT B λl=>if l then(iR (0,[(D.sl []),(D.bool false)])) else(if List.length (qV e.2 0)+List.length [(gx e.2 1)]<=1073741824 then(qB .add (gx v12 1) (Jn 1) λC=>iL [(D.sl ((qV e.2 0)++[(gx e.2 1)])),C]) else none)) else(iR (1,[(qW v12 0)]))) [(D.sl []),(Jn 0)]).bind λb=>if b.1=0 then(some (D.tup [(qW b.2 0),(gx b.2 1)])) else((c 551 [(qW b.2 0)]).bind λf=>(c 129 [f]).bind λh=>if(List.isEmpty (qV b.2 0)) then(qT (D.bool (!(D.beq h (Jn 0)))) λm=>if m then((qZ lp (λv37=>qC .lss (gx v37 0) (Jn 0) λn=>if n then((D.idx (gx v37 0) 0).bind λi40=>(([]:List D)[i40]?).bind λE=>(c 132 [E,f]).bind λL=>(D.idx (gx v37 0) 0).bind λi43=>(([]:List D)[i43]?).bind λQ=>none) else(iR (0,[]))) [(Jn 0)]).bind λM=>some (D.tup [(D.sl []),(D.bool true)])) else(some (D.tup [(D.sl []),(D.bool true)]))) else(qT (D.bool (!(D.beq h (Jn 0)))) λo=>if o then((qZ lp (λa=>qC .lss (gx a 0) (Jn (List.length (qV b.2 0))) λp=>if p then((D.idx (gx a 0) (List.length (qV a 1))).bind λi50=>((qV a 1)[i50]?).bind λF=>(c 132 [F,f]).bind λw=>(D.idx (gx a 0) (List.length (qV a 1))).bind λi53=>((qV a 1)[i53]?).bind λR=>qB .add (gx a 0) (Jn 1) λG=>iL [G,(D.sl (List.set (qV a 1) i53 w))]) else(iR (0,[(qW a 1)]))) [(Jn 0),(qW b.2 0)]).bind λx=>some (D.tup [(qW x.2 0),(D.bool true)])) else(some (D.tup [(qW b.2 0),(D.bool true)]))))))
def WK:af 516 (m3 (Jl lp)):=GD 0 Tryz.f137 TI a
end
end Sy
end
set_option maxHeartbeats 0
noncomputable section
namespace Sy
open Go Go.Proofs
section
variable{lp}(a:aj lp)
def Jm(lp:Lp)(c:Ca)(a0:D):Option D:=qG a0 [0] λx1=>qN x1 λa=>(if a then((c 167 [a0]).bind λd=>D.truth d) else(some false)).bind λb=>some (D.bool b)
def WL:af 517 (m1 (Jm lp)):=aJ 0 Tryz.f138 .leaf a
def Pi(lp:Lp)(c:Ca) :Option D:=(c 119 []).bind λr1=>some (D.sl [r1])
def WM:af 518 (m0 (Pi lp)):=qE 0 Tryz.f139 .leaf a
def Jo(lp:Lp)(c:Ca)(a0 a1 a2:D):Option D:=(c 61 [a0,a2]).bind λr1=>some r1
def WN:af 519 (m3 (Jo lp)):=gN 0 Tryz.f141 .leaf a
def TJ:Ann:=(.tl (.two (.regI [] 4 (.two (.tl (.tl (.two (.regI [] 8 (.two (.tl (.tl (.two (.tl (.two (.loop ⟨[(1,.same (.clo 224 [(.ptr Ty.fn 16389 []),(.ptr be 16387 []),(.ptr be 16388 [])])),(2,.same (.clo 225 [])),(7,.ow am),(15,.di)],[(16387,.one be (.dv be)),(16388,.one be (.dv be)),(16389,.fv (.clo 154 []))],[14]⟩ [(.ret,⟨[(6,.dv be)],[],[]⟩),(.exit 0,⟨[(7,.ow am)],[],[]⟩)] (.tl (.tl (.two (.two (.tl (.two (.regI [] 7 (.two (.tl (.two (.reg [] 7) .leaf)) .leaf)) .leaf)) .leaf) .leaf)))) .leaf)) (.two (.two (.loop ⟨[(7,.dv be)],[],[]⟩ [(.exit 2,⟨[(7,.dv be)],[],[]⟩)] .leaf) .leaf) .leaf)))) .leaf)) .leaf))) .leaf)) .leaf))
def Jp(lp:Lp)(c:Ca)(a0 a1:D):Option D:=(c 546 [a0]).bind λr1=>qT r1 λb2=>(if b2 then(some true) else((c 546 [a1]).bind λK=>D.truth K)).bind λG=>qT (D.bool G) λH=>if H then((c 518 []).bind λL=>some L) else(qS a0 λI=>qS a1 λJ=>(D.max2 (Jn (I.length)) (Jn (J.length))).bind λF=>(D.max2 F (Jn 0)).bind λy=>(D.natOf y).bind λi11=>if i11<=1073741824 then((D.max2 F (Jn 0)).bind λz=>(qZ lp (λa=>qC .lss (gx a 1) z λf=>if f then((c 550 [(gx a 2),(gx a 1)]).bind λr=>(c 550 [(gx a 3),(gx a 1)]).bind λs=>(c 57 [r,s]).bind λt=>(c 552 [t]).bind λb=>(c 517 [b]).bind λu=>qN u λg=>if g then((c 518 []).bind λv=>iR (0,[v])) else(if List.length (qV a 0)+List.length [b]<=1073741824 then(qB .add (gx a 1) (Jn 1) λA=>iL [(D.sl ((qV a 0)++[b])),A,(gx a 2),(gx a 3)]) else none)) else(iR (1,[(qW a 0)]))) [(D.sl []),(Jn 0),a0,a1]).bind λd=>if d.1=0 then(some (gx d.2 0)) else((qZ lp (λv26=>qS (gx v26 0) λl=>qC .gtr (Jn (l.length)) (Jn 0) λh=>(if h then(qS (gx v26 0) λm=>qB .sub (Jn (m.length)) (Jn 1) λB=>qX (gx v26 0) B λC=>(c 129 [C]).bind λw=>D.truth (D.bool (D.beq w (Jn 0)))) else(some false)).bind λi=>qT (D.bool i) λj=>if j then(qS (gx v26 0) λn=>qB .sub (Jn (n.length)) (Jn 1) λE=>qS (gx v26 0) λo=>(D.natOf E).bind λi41=>(D.cut o 0 i41).bind λp=>iL [(D.sl p)]) else(iR (0,[(gx v26 0)]))) [(qW d.2 0)]).bind λe=>qS (gx e.2 0) λq=>qC .gtr (Jn (q.length)) (Jn 25) λk=>if k then((c 518 []).bind λx=>some x) else(some (gx e.2 0)))) else none)
def WO:af 520 (m2 (Jp lp)):=aD 4 Tryz.f143 TJ a
def TL:Ann:=(.tl (.two (.regI [] 4 (.two (.tl (.tl (.two (.regI [] 8 (.two (.tl (.tl (.two (.tl (.two (.loop ⟨[(1,.same (.clo 224 [(.ptr Ty.fn 16389 []),(.ptr be 16387 []),(.ptr be 16388 [])])),(2,.same (.clo 225 [])),(7,.ow am),(15,.di)],[(16387,.one be (.dv be)),(16388,.one be (.dv be)),(16389,.fv (.clo 226 []))],[14]⟩ [(.ret,⟨[(6,.dv be)],[],[]⟩),(.exit 0,⟨[(7,.ow am)],[],[]⟩)] (.tl (.tl (.two (.two (.tl (.two (.regI [] 7 (.two (.tl (.two (.reg [] 7) .leaf)) .leaf)) .leaf)) .leaf) .leaf)))) .leaf)) (.two (.two (.loop ⟨[(7,.dv be)],[],[]⟩ [(.exit 2,⟨[(7,.dv be)],[],[]⟩)] .leaf) .leaf) .leaf)))) .leaf)) .leaf))) .leaf)) .leaf))
def Jq(lp:Lp)(c:Ca)(a0 a1:D):Option D:=(c 546 [a0]).bind λr1=>qT r1 λb2=>(if b2 then(some true) else((c 546 [a1]).bind λK=>D.truth K)).bind λG=>qT (D.bool G) λH=>if H then((c 518 []).bind λL=>some L) else(qS a0 λI=>qS a1 λJ=>(D.max2 (Jn (I.length)) (Jn (J.length))).bind λF=>(D.max2 F (Jn 0)).bind λy=>(D.natOf y).bind λi11=>if i11<=1073741824 then((D.max2 F (Jn 0)).bind λz=>(qZ lp (λa=>qC .lss (gx a 1) z λf=>if f then((c 550 [(gx a 2),(gx a 1)]).bind λr=>(c 550 [(gx a 3),(gx a 1)]).bind λs=>(c 203 [r,s]).bind λt=>(c 552 [t]).bind λb=>(c 517 [b]).bind λu=>qN u λg=>if g then((c 518 []).bind λv=>iR (0,[v])) else(if List.length (qV a 0)+List.length [b]<=1073741824 then(qB .add (gx a 1) (Jn 1) λA=>iL [(D.sl ((qV a 0)++[b])),A,(gx a 2),(gx a 3)]) else none)) else(iR (1,[(qW a 0)]))) [(D.sl []),(Jn 0),a0,a1]).bind λd=>if d.1=0 then(some (gx d.2 0)) else((qZ lp (λv26=>qS (gx v26 0) λl=>qC .gtr (Jn (l.length)) (Jn 0) λh=>(if h then(qS (gx v26 0) λm=>qB .sub (Jn (m.length)) (Jn 1) λB=>qX (gx v26 0) B λC=>(c 129 [C]).bind λw=>D.truth (D.bool (D.beq w (Jn 0)))) else(some false)).bind λi=>qT (D.bool i) λj=>if j then(qS (gx v26 0) λn=>qB .sub (Jn (n.length)) (Jn 1) λE=>qS (gx v26 0) λo=>(D.natOf E).bind λi41=>(D.cut o 0 i41).bind λp=>iL [(D.sl p)]) else(iR (0,[(gx v26 0)]))) [(qW d.2 0)]).bind λe=>qS (gx e.2 0) λq=>qC .gtr (Jn (q.length)) (Jn 25) λk=>if k then((c 518 []).bind λx=>some x) else(some (gx e.2 0)))) else none)
def WP:af 521 (m2 (Jq lp)):=aD 4 Tryz.f144 TL a
def TM:Ann:=(.tl (.two (.tl (.two (.loop ⟨[(3,.di)],[],[0]⟩ [(.ret,⟨[(2,.dv Ty.bool)],[],[]⟩),(.exit 0,⟨[],[],[]⟩)] .leaf) .leaf)) .leaf))
def Jr(lp:Lp)(c:Ca)(a0:D):Option D:=(qZ lp (λv1=>qL a0 (gx v1 0) λe=>if e then(qX a0 (gx v1 0) λg=>(c 523 [g]).bind λf=>qN f λb=>if b then(iR (0,[(D.bool true)])) else(qB .add (gx v1 0) (Jn 1) λd=>iL [d])) else(iR (1,[]))) [(Jn 0)]).bind λa=>if a.1=0 then(some (gx a.2 0)) else(some (D.bool false))
def WQ:af 522 (m1 (Jr lp)):=aJ 0 Tryz.f145 TM a
def Js(lp:Lp)(c:Ca)(a0:D):Option D:=qG a0 [0] λx1=>qN x1 λa=>(if a then((c 139 [a0]).bind λd=>D.truth d) else(some false)).bind λb=>some (D.bool b)
def WR:af 523 (m1 (Js lp)):=aJ 0 Tryz.f146 .leaf a
def Pj(lp:Lp)(c:Ca) :Option D:=(c 125 []).bind λr1=>some (D.sl [r1])
def WS:af 524 (m0 (Pj lp)):=qE 0 Tryz.f147 .leaf a
def TN:Ann:=(.tl (.tl (.two (.tl (.two (.loop ⟨[(3,.di),(4,.di)],[],[0]⟩ [(.ret,⟨[(2,.dv be)],[],[]⟩),(.exit 0,⟨[(3,.di)],[],[0]⟩)] (.tl (.cut [(.ret,⟨[(2,.dv be)],[],[]⟩),(.normal,⟨[(3,.di)],[],[0,4]⟩)] [0,4] [] .leaf .leaf))) .leaf)) (.tl (.tl (.two (.tl (.two (.loop ⟨[(6,.ow am),(7,.di)],[],[0,3]⟩ [(.exit 2,⟨[(6,.ow am)],[],[]⟩)] .leaf) .leaf)) .leaf))))))
def Jt(lp:Lp)(c:Ca)(a0:D):Option D:=(qZ lp (λv1=>qL a0 (gx v1 1) λp=>if p then((qX a0 (gx v1 1) λr=>(c 523 [r]).bind λq=>qN q λe=>if e then((c 524 []).bind λi=>some (0,[i])) else(qX a0 (gx v1 1) λm=>(c 83 [m]).bind λj=>qT (D.bool (!(D.beq j (Jn 0)))) λf=>if f then(some (1,[(gx v1 1)])) else(some (1,[(gx v1 0)])))).bind λ(b:Nat×List D)=>if b.1=0 then(iR (0,[(gx b.2 0)])) else(qB .add (gx v1 1) (Jn 1) λn=>iL [(gx b.2 0),n])) else(iR (1,[(gx v1 0)]))) [(Jn (-1)),(Jn 0)]).bind λa=>if a.1=0 then(some (gx a.2 0)) else(qC .gtr (gx a.2 0) (Jn 24) λg=>if g then((c 524 []).bind λk=>some k) else((qZ lp (λv23=>qC .leq (gx v23 1) (gx a.2 0) λh=>if h then(qX a0 (gx v23 1) λd=>if List.length (qV v23 0)+List.length [d]<=1073741824 then(qB .add (gx v23 1) (Jn 1) λo=>iL [(D.sl ((qV v23 0)++[d])),o]) else none) else(iR (0,[(qW v23 0)]))) [(D.sl []),(Jn 0)]).bind λl=>some (qW l.2 0)))
def WT:af 525 (m1 (Jt lp)):=aJ 0 Tryz.f148 TN a
def TO:Ann:=let a:LO:=[(4098,.keep bP 2),(4099,.keep K1 3),(4100,.one AD (.st [pE,be] [.dv pE,.ow am])),(8197,.one AD (.st [pE,be] [.dv pE,.dv be])),(12294,.keep HS 6)];(.tl (.tl (.tl (.two (.tl (.two (.loop ⟨[(2,.sp bP 4098),(3,.sp K1 4099),(4,.sp AD 4100),(5,.sp AD 8197),(6,.sp HS 12294),(7,.di)],a,[]⟩ [(.exit 0,⟨[(4,.sp AD 4100),(5,.sp AD 8197)],[(4100,.one AD (.st [pE,be] [.dv pE,.ow am])),(8197,.one AD (.st [pE,be] [.dv pE,.dv be]))],[]⟩)] (.tl (.two (.two (.two (.reg [] 18) (.tl (.two (.tl (.two (.loop ⟨[(2,.sp bP 4098),(3,.sp K1 4099),(4,.sp AD 4100),(5,.sp AD 8197),(6,.sp HS 12294),(9,.dv be),(10,.di)],a,[7]⟩ [(.exit 2,⟨[(2,.sp bP 4098),(3,.sp K1 4099),(4,.sp AD 4100),(5,.sp AD 8197),(6,.sp HS 12294),(9,.dv be)],a,[7]⟩)] (.tl (.two (.two (.reg [] 13) .leaf) .leaf))) .leaf)) .leaf))) .leaf) .leaf))) .leaf)) .leaf))))
def Ju(lp:Lp)(c:Ca)(a0 a1:D):Option D:=(c 553 [a0]).bind λr1=>(c 554 [a0]).bind λu=>(qZ lp (λv3=>qC .lss (gx v3 0) (Jn 3) λt=>if t then((D.idx (gx v3 0) 3).bind λi6=>qG a0 [0,0,i6] λv=>(D.idx (gx v3 0) 3).bind λi8=>qG a0 [1,0,i8] λw=>(D.idx (gx v3 0) 3).bind λi10=>qG a0 [0,0,i10] λk=>qB .sub w k λl=>(c 555 [(D.sl [v,l])]).bind λf=>(c 556 [(gx v3 4),f]).bind λg=>(qZ lp (λa=>qC .lss (gx a 1) (Jn 3) λe=>if e then(qB .mul (Jn 3) (gx v3 0) λm=>qB .add m (gx a 1) λn=>qJ n 9 u λo=>qJ (gx a 1) 3 a1 λp=>(c 34 [p]).bind λh=>(c 502 [o,h]).bind λi=>(c 527 [(gx a 0),i]).bind λj=>qB .add (gx a 1) (Jn 1) λq=>iL [j,q,(gx a 2),(qW a 3),(gx a 4),(gx a 5)]) else(iR (0,[(gx a 0),(gx a 2),(qW a 3),(gx a 4),(gx a 5)]))) [g,(Jn 0),(gx v3 1),(qW v3 2),(gx v3 3),(gx v3 4)]).bind λb=>(D.idx (gx v3 0) 3).bind λi29=>(D.set (gx b.2 3) [i29] (gx b.2 0)).bind λr=>qB .add (gx v3 0) (Jn 1) λs=>iL [s,(gx b.2 1),(qW b.2 2),r,(gx b.2 4)]) else(iR (0,[(gx v3 1),(qW v3 2),(gx v3 3),(gx v3 4)]))) [(Jn 0),(D.st [(D.sl []),(D.sl []),(D.sl [])]),(D.sl []),(D.st [(D.sl []),(D.sl []),(D.sl [])]),r1]).bind λd=>some (D.st [(gx d.2 2),(gx d.2 3)])
def WU:af 526 (m2 (Ju lp)):=aD 0 Tryz.f149 TO a
def TP:Ann:=(.tl (.tl (.tl (.two (.tl (.two (.loop ⟨[(5,.ow am),(6,.di)],[],[0,1]⟩ [(.exit 0,⟨[(5,.ow am)],[],[]⟩)] .leaf) .leaf)) .leaf))))
def Jv(lp:Lp)(c:Ca)(a0 a1:D):Option D:=(c 522 [a0]).bind λr1=>qT r1 λb2=>(if b2 then(some true) else((c 522 [a1]).bind λo=>D.truth o)).bind λk=>qT (D.bool k) λl=>if l then((c 524 []).bind λp=>some p) else((qZ lp (λa=>qS a0 λm=>qS a1 λn=>(D.max2 (Jn (m.length)) (Jn (n.length))).bind λi=>qC .lss (gx a 1) i λd=>if d then((c 557 [a0,(gx a 1)]).bind λe=>(c 557 [a1,(gx a 1)]).bind λf=>(c 59 [e,f]).bind λb=>if List.length (qV a 0)+List.length [b]<=1073741824 then(qB .add (gx a 1) (Jn 1) λj=>iL [(D.sl ((qV a 0)++[b])),j]) else none) else(iR (0,[(qW a 0)]))) [(D.sl []),(Jn 0)]).bind λg=>(c 525 [(qW g.2 0)]).bind λh=>some h)
def WV:af 527 (m2 (Jv lp)):=aD 0 Tryz.f150 TP a
def TQ:Ann:=(.tl (.tl (.tl (.two (.tl (.two (.loop ⟨[(5,.ow am),(6,.di)],[],[0,1]⟩ [(.exit 0,⟨[(5,.ow am)],[],[]⟩)] .leaf) .leaf)) .leaf))))
def Jw(lp:Lp)(c:Ca)(a0 a1:D):Option D:=(c 522 [a0]).bind λr1=>qT r1 λb2=>(if b2 then(some true) else((c 522 [a1]).bind λo=>D.truth o)).bind λk=>qT (D.bool k) λl=>if l then((c 524 []).bind λp=>some p) else((qZ lp (λa=>qS a0 λm=>qS a1 λn=>(D.max2 (Jn (m.length)) (Jn (n.length))).bind λi=>qC .lss (gx a 1) i λd=>if d then((c 557 [a0,(gx a 1)]).bind λe=>(c 557 [a1,(gx a 1)]).bind λf=>(c 396 [e,f]).bind λb=>if List.length (qV a 0)+List.length [b]<=1073741824 then(qB .add (gx a 1) (Jn 1) λj=>iL [(D.sl ((qV a 0)++[b])),j]) else none) else(iR (0,[(qW a 0)]))) [(D.sl []),(Jn 0)]).bind λg=>(c 525 [(qW g.2 0)]).bind λh=>some h)
def WW:af 528 (m2 (Jw lp)):=aD 0 Tryz.f151 TQ a
end
end Sy
end
set_option maxHeartbeats 0
noncomputable section
namespace Sy
open Go Go.Proofs
section
variable{lp}(a:aj lp)
def TR:AnnU:=let a:LO:=[(4102,.one uF (.st [be,Ty.bool] [.ow am,.dv Ty.bool]))];let b:LO:=[(4102,.one uF (.st [be,Ty.bool] [.ow am,.dv Ty.bool])),(36878,.keep am 14),(40960,.many am)];let c:LO:=[(4102,.one uF (.st [be,Ty.bool] [.ow am,.dv Ty.bool])),(40971,.one am (.dv am))];let d:LO:=[(4102,.one uF (.st [be,Ty.bool] [.ow am,.dv Ty.bool])),(36878,.keep am 14)];(.seq .leaf (.seq .leaf (.seq (.reg [] 6) (.seq .leaf (.seq .leaf (.seq .leaf (.seq (.tl (.two (.loop ⟨[(6,.sp uF 4102),(9,.ow am),(10,.di)],a,[7,8]⟩ [(.ret,⟨[(6,.sp uF 4102)],a,[]⟩),(.exit 0,⟨[(6,.sp uF 4102),(9,.ow am)],a,[]⟩)] (.tl (.two (.two (.tl (.two (.tl (.two (.loop ⟨[(6,.sp uF 4102),(9,.ow am),(11,.sp am 40971),(12,.di)],c,[7,8,10]⟩ [(.exit 2,⟨[(6,.sp uF 4102),(9,.ow am),(11,.sp am 40971)],c,[7,8,10]⟩)] (.tl (.two (.two (.tl (.reg [] 7)) .leaf) .leaf))) .leaf)) .leaf)) .leaf) .leaf))) .leaf)) (.seq .leaf (.thaw 9 am (.fin (.two (.tl (.two (.loop ⟨[(6,.sp uF 4102),(14,.sp am 36878),(15,.di)],d,[9]⟩ [(.exit 4,⟨[(6,.sp uF 4102)],a,[9]⟩)] (.tl (.cut [(.normal,⟨[(6,.sp uF 4102),(14,.sp am 36878)],d,[9,15]⟩)] [9,15] [36878] (.two (.tl (.two (.reg [] 9) .leaf)) .leaf) .leaf))) .leaf)) .leaf)) (.fin (.two (.tl (.two (.loop ⟨[(6,.sp uF 4102),(9,.same (.mem am 40960)),(14,.sp am 36878),(15,.di)],b,[]⟩ [(.exit 4,⟨[(6,.sp uF 4102),(9,.same (.mem am 40960))],[(4102,.one uF (.st [be,Ty.bool] [.ow am,.dv Ty.bool])),(40960,.many am)],[]⟩)] (.tl (.cut [(.normal,⟨[(6,.sp uF 4102),(9,.same (.mem am 40960)),(14,.sp am 36878)],b,[15]⟩)] [15] [36878] (.two (.tl (.two (.reg [] 9) .leaf)) .leaf) .leaf))) .leaf)) (.two (.reg [9] 3) .leaf))))))))))))
def Jx(lp:Lp)(c:Ca)(a0 a1 a2:D):Option D:=(c 522 [a0]).bind λr1=>qT r1 λb2=>(if b2 then(some true) else((c 558 [a1]).bind λT=>(aeb .not T).bind λX=>D.truth X)).bind λQ=>qT (D.bool Q) λR=>(if R then(some true) else((c 558 [a2]).bind λW=>(aeb .not W).bind λx8=>D.truth x8)).bind λS=>qT (D.bool S) λi=>if i then(some (D.st [(D.sl []),(D.bool false)])) else((c 39 [a2,a1]).bind λs=>(c 559 [a0,a1,s]).bind λf=>(c 522 [f]).bind λt=>qT t λj=>if j then(some (D.st [(D.sl []),(D.bool false)])) else(qS a0 λr=>qB .sub (Jn (r.length)) (Jn 1) λh=>(qZ lp (λv17=>qC .leq (gx v17 1) h λk=>if k then((qZ lp (λv20=>qC .leq (gx v20 1) (gx v17 1) λl=>if l then((c 560 [(gx v17 1),(gx v20 1)]).bind λu=>(c 34 [u]).bind λv=>(c 561 [(gx v20 1)]).bind λw=>qB .sub h (gx v20 1) λI=>(c 561 [I]).bind λx=>(c 89 [w,x]).bind λy=>(c 89 [v,y]).bind λz=>(c 557 [f,(gx v20 1)]).bind λA=>(c 89 [z,A]).bind λB=>(c 59 [(gx v20 4),B]).bind λC=>qB .add (gx v20 1) (Jn 1) λJ=>iL [(qW v20 0),J,(qW v20 2),(gx v20 3),C]) else(iR (0,[(qW v20 0),(qW v20 2),(gx v20 3),(gx v20 4)]))) [(qW v17 0),(Jn 0),(qW v17 2),(gx v17 3),(D.st [(D.bool false),(D.bool false),(az aZ)])]).bind λb=>qG (gx b.2 3) [0] λK=>qT K λm=>if m then(iR (0,[(D.sl []),(D.bool false)])) else(if List.length (qV b.2 0)+List.length [(gx b.2 3)]<=1073741824 then(qB .add (gx v17 1) (Jn 1) λL=>iL [(D.sl ((qV b.2 0)++[(gx b.2 3)])),L,(qW b.2 1),(gx b.2 2)]) else none)) else(iR (1,[(qW v17 0),(qW v17 2),(gx v17 3)]))) [(D.sl []),(Jn 0),(D.sl []),(D.bool false)]).bind λa=>if a.1=0 then(some (D.st [(qW a.2 0),(gx a.2 1)])) else((c 562 [(qW a.2 0)]).bind λd=>if(List.isEmpty (qV a.2 0)) then((qZ lp (λv40=>qC .lss (gx v40 0) (Jn 0) λn=>if n then(((c 83 [d]).bind λE=>qT (D.bool (!(D.beq E (Jn 0)))) λo=>if o then((D.idx (gx v40 0) 0).bind λi45=>(([]:List D)[i45]?).bind λM=>(c 87 [M,d]).bind λU=>(D.idx (gx v40 0) 0).bind λi48=>(([]:List D)[i48]?).bind λY=>none) else(some (0,[(qW v40 1),(gx v40 2)]))).bind λ(g:Nat×List D)=>qB .add (gx v40 0) (Jn 1) λN=>iL [N,(qW g.2 0),(gx g.2 1)]) else(iR (0,[(qW v40 1),(gx v40 2)]))) [(Jn 0),(qW a.2 1),(gx a.2 2)]).bind λV=>some (D.st [(D.sl []),(D.bool true)])) else((qZ lp (λv53=>qC .lss (gx v53 0) (Jn (List.length (qV v53 3))) λp=>if p then(((c 83 [d]).bind λF=>qT (D.bool (!(D.beq F (Jn 0)))) λq=>if q then((D.idx (gx v53 0) (List.length (qV v53 3))).bind λi58=>((qV v53 3)[i58]?).bind λO=>(c 87 [O,d]).bind λG=>(D.idx (gx v53 0) (List.length (qV v53 3))).bind λi61=>((qV v53 3)[i61]?).bind λZ=>some (0,[(qW v53 1),(gx v53 2),(D.sl (List.set (qV v53 3) i61 G))])) else(some (0,[(qW v53 1),(gx v53 2),(qW v53 3)]))).bind λ(e:Nat×List D)=>qB .add (gx v53 0) (Jn 1) λP=>iL [P,(qW e.2 0),(gx e.2 1),(qW e.2 2)]) else(iR (0,[(qW v53 1),(gx v53 2),(qW v53 3)]))) [(Jn 0),(qW a.2 1),(gx a.2 2),(qW a.2 0)]).bind λH=>some (D.st [(qW H.2 2),(D.bool true)])))))
def WX:af 529 (m3 (Jx lp)):=GD 0 Tryz.f152 TR a
end
end Sy
end
end
end Go.Proofs.YtmnkibhalflchaaGreat
