/- Part 7 of the proof that PlaneOrPoint answers true at every input -/
import Derived.Test.YtphlmegkommlnaaGreatDoorOrpt05
import Derived.Test.YtphlmegkommlnaaGreatDoorOrpt06
import Derived.Maps.RangeRun
set_option linter.unusedVariables false
set_option linter.unusedSimpArgs false
set_option linter.unnecessarySimpa false
set_option linter.defProp false
set_option maxRecDepth 20000
namespace Go.Proofs.YtphlmegkommlnaaGreatDoor
noncomputable section
set_option maxHeartbeats 0
noncomputable section
namespace Sy
open Go Go.Proofs
section
variable{lp}(a:au lp)
def Gx(lp:Lp)(c:Ca)(a0:D):Option D:=(c 118 [(D.sl [a0])]).bind λr1=>qN r1 λs=>(if s then(some true) else((c 217 [a0]).bind λv=>qB .gtr v (Jn 64) λw=>D.truth w)).bind λt=>qT (D.bool t) λu=>if u then(some (D.tup [(Jn 0),(D.bool false)])) else(qG a0 [2,1] λx=>(D.conv .u64 x).bind λy=>qB .shl y (D.int .u64 32) λi=>qG a0 [2,0] λj=>(D.conv .u64 j).bind λk=>qB .or i k λa=>qG a0 [1] λl=>qT l λb=>(if b then(qB .leq a (D.int .u64 9223372036854775808) λm=>D.truth m) else(some false)).bind λd=>qT (D.bool d) λe=>if e then((afB .neg a).bind λn=>(D.conv .i64 n).bind λo=>some (D.tup [o,(D.bool true)])) else(qG a0 [1] λp=>qN p λf=>(if f then(qB .lss a (D.int .u64 9223372036854775808) λq=>D.truth q) else(some false)).bind λg=>qT (D.bool g) λh=>if h then((D.conv .i64 a).bind λr=>some (D.tup [r,(D.bool true)])) else(some (D.tup [(Jn 0),(D.bool false)]))))
def XX:ag 202 (m1 (Gx lp)):=bA 0 Tryz.f160 .leaf a
def VZ:Ann:=(.tl (.two (.reg [] 4) .leaf))
def Ia(lp:Lp)(c:Ca)(a0 a1:D):Option D:=(c 68 [a1]).bind λr1=>(c 57 [a0,r1]).bind λa=>some a
def XY:ag 203 (m2 (Ia lp)):=aN 0 Tryz.f201 VZ a
def Mq(lp:Lp)(c:Ca)(a0:D):Option D:=qC .lss a0 (Jn 0) λa=>if a then(some (Jn (-1))) else(qC .gtr a0 (Jn 0) λb=>if b then(some (Jn 1)) else(some (Jn 0)))
def XZ:ag 215 (m1 (Mq lp)):=bA 0 Tryz.f247 .leaf a
def Mr(lp:Lp)(c:Ca)(a0:D):Option D:=qG a0 [2] λk=>(c 127 [k]).bind λb=>(c 118 [(D.sl [a0])]).bind λj=>qN j λg=>(if g then(some true) else(D.truth (D.bool (D.beq b (Jn 0))))).bind λh=>qT (D.bool h) λi=>if i then(some (Jn 0)) else(qB .sub b (Jn 1) λl=>qB .mul (Jn 32) l λm=>qB .sub b (Jn 1) λd=>(D.idx d 16).bind λi11=>qG a0 [2,i11] λe=>(c 165 [e]).bind λa=>qB .add m a λf=>some f)
def X3:ag 217 (m1 (Mr lp)):=bA 0 Tryz.f192 .leaf a
def V0:Ann:=(.tl (.tl (.tl (.two (.tl (.two (.two (.reg [] 7) .leaf) .leaf)) (.tl (.tl (.tl (.two (.loop ⟨[(7,.di),(8,.sp P5 24584),(9,.sp P5 28681)],[(24584,.one P5 (.dv P5)),(28681,.one P5 (.dv P5))],[]⟩ [(.ret,⟨[(4,.di)],[],[]⟩)] (.two (.tl (.tl (.tl (.tl (.two (.reg [] 8) (.two (.reg [] 8) (.two (.tl (.two (.two (.reg [] 9) .leaf) .leaf)) .leaf))))))) .leaf)) .leaf))))))))
def Ms(lp:Lp)(c:Ca)(a0 a1:D):Option D:=(c 88 [a0]).bind λr1=>(c 88 [a1]).bind λK=>qN r1 λL=>(if L then(some true) else((afB .not K).bind λQ=>D.truth Q)).bind λM=>qT (D.bool M) λN=>if N then((c 344 [a0,r1]).bind λO=>(c 344 [a1,K]).bind λP=>(c 32 [O,P]).bind λj=>some j) else(qG a0 [0] λr=>qG a0 [1] λs=>qG a1 [0] λt=>qG a1 [1] λu=>(qZ lp (λa=>qG (gx a 1) [0] λv=>qG (gx a 1) [1] λw=>(c 87 [v,w]).bind λk=>qG (gx a 2) [0] λx=>qG (gx a 2) [1] λy=>(c 87 [x,y]).bind λl=>(c 32 [k,l]).bind λe=>qT (D.bool (!(D.beq e (Jn 0)))) λf=>if f then(qB .mul (gx a 0) e λz=>iR (0,[z])) else(qG (gx a 1) [1] λA=>qG (gx a 1) [0] λB=>qG (gx a 1) [1] λC=>(c 345 [B,C]).bind λb=>qG (gx a 2) [1] λE=>qG (gx a 2) [0] λF=>qG (gx a 2) [1] λG=>(c 345 [F,G]).bind λd=>(c 83 [b]).bind λm=>qT (D.bool (D.beq m (Jn 0))) λg=>(if g then(some true) else((c 83 [d]).bind λn=>D.truth (D.bool (D.beq n (Jn 0))))).bind λh=>qT (D.bool h) λi=>if i then((c 83 [b]).bind λo=>(c 83 [d]).bind λp=>qB .sub o p λH=>qB .mul (gx a 0) H λI=>iR (0,[I])) else((afB .neg (gx a 0)).bind λJ=>iL [J,(D.st [A,b]),(D.st [E,d])]))) [(Jn 1),(D.st [r,s]),(D.st [t,u])]).bind λq=>some (gx q.2 0))
def X4:ag 324 (m2 (Ms lp)):=aN 0 Tryz.f35 V0 a
def Mt(lp:Lp)(c:Ca)(a0:D):Option D:=(c 348 [a0]).bind λr1=>qN r1 λb=>if b then(some (D.bool false)) else((c 349 [a0]).bind λa=>(D.tupAt a 0).bind λf=>(D.tupAt a 1).bind λg=>qT g λd=>(if d then(D.truth (D.bool (D.beq f a0))) else(some false)).bind λe=>some (D.bool e))
def X5:ag 331 (m1 (Mt lp)):=bA 0 Tryz.f83 .leaf a
def Mu(lp:Lp)(c:Ca)(a0 a1:D):Option D:=(c 54 [a0]).bind λr1=>(c 54 [a1]).bind λa=>(c 62 [r1,a]).bind λb=>some b
def X7:ag 333 (m2 (Mu lp)):=aN 0 Tryz.f77 .leaf a
def V1:Ann:=(.tl (.two (.reg [] 4) .leaf))
def Mv(lp:Lp)(c:Ca)(a0 a1:D):Option D:=(c 357 [a1]).bind λr1=>(c 173 [a0,r1]).bind λa=>some a
def X8:ag 336 (m2 (Mv lp)):=aN 0 Tryz.f126 V1 a
def V2:Ann:=(.tl (.two (.reg [] 4) .leaf))
def Mw(lp:Lp)(c:Ca)(a0 a1:D):Option D:=(c 31 [a0]).bind λr1=>(c 41 [r1,a1]).bind λa=>some a
def X9:ag 340 (m2 (Mw lp)):=aN 0 Tryz.f70 V2 a
def Mx(lp:Lp)(c:Ca)(a0:D):Option D:=(c 136 [a0]).bind λr1=>qN r1 λa=>if a then(some (Jn 0)) else(qG a0 [0] λd=>(c 129 [d]).bind λb=>some b)
def Ya:ag 342 (m1 (Mx lp)):=bA 0 Tryz.f40 .leaf a
def My(lp:Lp)(c:Ca)(a0 a1:D):Option D:=qT a1 λa=>if a then((c 34 [(Jn 0)]).bind λb=>some b) else((c 125 []).bind λd=>some d)
def Yb:ag 344 (m2 (My lp)):=aN 0 Tryz.f96 .leaf a
def V3:Ann:=(.tl (.tl (.tl (.tl (.tl (.two (.reg [] 9) (.cut [(.normal,⟨[(3,.sp be 4099),(4,.sp be 4100),(10,.dv K5)],[(4099,.keep be 3),(4100,.keep be 4)],[]⟩)] [] [4099,4100] .leaf .leaf)))))))
def MA(lp:Lp)(c:Ca)(a0 a1:D):Option D:=(c 124 [a0]).bind λr1=>(D.tupAt r1 0).bind λL=>(D.tupAt r1 1).bind λP=>(c 124 [a1]).bind λK=>(D.tupAt K 0).bind λJ=>(D.tupAt K 1).bind λR=>qT P λM=>(if M then(D.truth R) else(some false)).bind λN=>qT (D.bool N) λO=>(if O then(D.truth (D.bool (!(D.beq J (Jn 0))))) else(some false)).bind λd=>qT (D.bool d) λe=>if e then((c 144 [L,J]).bind λp=>qB .mul J p λB=>qB .sub L B λC=>(c 34 [C]).bind λq=>some q) else((c 76 [a0]).bind λr=>qN r λf=>(if f then(some true) else((c 76 [a1]).bind λs=>(afB .not s).bind λE=>D.truth E)).bind λg=>qT (D.bool g) λh=>(if h then(some true) else((c 77 [a1]).bind λt=>qS t λn=>D.truth (D.bool (D.beq (Jn (n.length)) (Jn 0))))).bind λi=>qT (D.bool i) λj=>if j then((c 125 []).bind λu=>some u) else((c 77 [a0]).bind λv=>(c 77 [a1]).bind λw=>(c 143 [v,w]).bind λb=>(D.tupAt b 0).bind λQ=>(D.tupAt b 1).bind λa=>(qG a0 [1] λF=>qG a1 [1] λG=>qT (D.bool (!(D.beq F G))) λk=>(if k then(qS a λo=>qB .gtr (Jn (o.length)) (Jn 0) λH=>D.truth H) else(some false)).bind λl=>qT (D.bool l) λm=>if m then((c 77 [a1]).bind λx=>(c 126 [x,a]).bind λy=>some (0,[y])) else(some (0,[a]))).bind λ(z:Nat×List D)=>qG a1 [1] λI=>(c 81 [I,(gx z.2 0)]).bind λA=>some A))
def Yc:ag 345 (m2 (MA lp)):=aN 0 Tryz.f97 V3 a
def V4:Ann:=(.tl (.two (.tl (.two (.loop ⟨[(1,.sp tQ 4097),(3,.di)],[(4097,.keep tQ 1)],[]⟩ [(.ret,⟨[(2,.dv Ty.bool)],[],[]⟩),(.exit 0,⟨[],[],[]⟩)] .leaf) .leaf)) .leaf))
def MB(lp:Lp)(c:Ca)(a0:D):Option D:=(qZ lp (λv1=>qC .lss (gx v1 0) (Jn 4) λg=>if g then(qJ (gx v1 0) 4 a0 λi=>qC .gtr i (Jn 64) λh=>(if h then(some true) else(qJ (gx v1 0) 4 a0 λj=>qB .lss j (Jn (-64)) λe=>D.truth e)).bind λb=>qT (D.bool b) λd=>if d then(iR (0,[(D.bool false)])) else(qB .add (gx v1 0) (Jn 1) λf=>iL [f])) else(iR (1,[]))) [(Jn 0)]).bind λa=>if a.1=0 then(some (gx a.2 0)) else(some (D.bool true))
def Yd:ag 348 (m1 (MB lp)):=bA 0 Tryz.f145 V4 a
def V5:Ann:=let a:LO:=[(4097,.keep tQ 1),(4098,.keep tQ 2)];let b:LS:=[(1,.sp tQ 4097),(2,.sp tQ 4098),(4,.di),(5,.di)];(.tl (.tl (.tl (.two (.tl (.two (.loop ⟨[(1,.sp tQ 4097),(2,.sp tQ 4098),(4,.di),(5,.di),(6,.di)],a,[]⟩ [(.exit 0,⟨b,a,[]⟩)] (.tl (.cut [(.normal,⟨b,a,[6]⟩)] [6] [4097,4098] .leaf .leaf))) .leaf)) (.tl (.tl (.two (.reg [] 17) .leaf)))))))
def MC(lp:Lp)(c:Ca)(a0:D):Option D:=(qZ lp (λv1=>qC .geq (gx v1 2) (Jn 0) λt=>if t then((qJ (gx v1 2) 4 a0 λv=>(c 364 [(gx v1 0),v]).bind λs=>qJ (gx v1 2) 4 a0 λw=>qT (D.bool (!(D.beq w (Jn 0)))) λu=>if u then(qJ (gx v1 2) 4 a0 λg=>(c 365 [g]).bind λf=>some (0,[s,f])) else(some (0,[s,(gx v1 1)]))).bind λ(d:Nat×List D)=>qB .sub (gx v1 2) (Jn 1) λh=>iL [(gx d.2 0),(gx d.2 1),h]) else(iR (0,[(gx v1 0),(gx v1 1)]))) [(Jn 0),(Jn 0),(Jn 3)]).bind λb=>(afB .neg (gx b.2 0)).bind λi=>(D.max2 (gx b.2 0) i).bind λj=>qB .mul (gx b.2 1) j λa=>qT (D.bool (D.beq a (Jn 0))) λe=>if e then(some (D.tup [(D.st [(Jn 0),(Jn 0),(Jn 0),(Jn 0)]),(D.bool false)])) else(qG a0 [0] λk=>qB .quo k a λl=>qG a0 [1] λm=>qB .quo m a λn=>qG a0 [2] λo=>qB .quo o a λp=>qG a0 [3] λq=>qB .quo q a λr=>some (D.tup [(D.st [l,n,p,r]),(D.bool true)]))
def Ye:ag 349 (m1 (MC lp)):=bA 0 Tryz.f146 V5 a
def V6:Ann:=(.tl (.tl (.two (.reg [] 7) .leaf)))
def MD(lp:Lp)(c:Ca)(a0 a1:D):Option D:=(c 136 [a1]).bind λr1=>qN r1 λa=>if a then((c 130 []).bind λb=>some b) else(qG a1 [1] λf=>qG a1 [0] λg=>(c 62 [f,g]).bind λd=>(c 174 [a0,d]).bind λe=>some e)
def Yf:ag 352 (m2 (MD lp)):=aN 0 Tryz.f41 V6 a
def V7:Ann:=(.tl (.tl (.two (.reg [] 6) .leaf)))
def Ib(lp:Lp)(c:Ca)(a0:D):Option D:=(c 136 [a0]).bind λr1=>qN r1 λa=>if a then((c 130 []).bind λb=>some b) else(qG a0 [0] λe=>(c 68 [e]).bind λd=>qG a0 [1] λf=>some (D.st [d,f]))
def Yg:ag 357 (m1 (Ib lp)):=bA 0 Tryz.f59 V7 a
def V8:Ann:=(.tl (.two (.two (.loop ⟨[(0,.di),(1,.di)],[],[]⟩ [(.exit 0,⟨[(0,.di)],[],[]⟩)] .leaf) .leaf) .leaf))
def ME(lp:Lp)(c:Ca)(a0 a1:D):Option D:=(qZ lp (λv1=>qT (D.bool (!(D.beq (gx v1 1) (Jn 0)))) λb=>if b then(qB .rem (gx v1 0) (gx v1 1) λd=>iL [(gx v1 1),d]) else(iR (0,[(gx v1 0)]))) [a0,a1]).bind λa=>(afB .neg (gx a.2 0)).bind λe=>(D.max2 (gx a.2 0) e).bind λf=>some f
def Yh:ag 364 (m2 (ME lp)):=aN 0 Tryz.f196 V8 a
def MF(lp:Lp)(c:Ca)(a0:D):Option D:=qC .lss a0 (Jn 0) λa=>if a then(some (Jn (-1))) else((D.min2 a0 (Jn 1)).bind λb=>some b)
def Yi:ag 365 (m1 (MF lp)):=bA 0 Tryz.f197 .leaf a
def V9:Ann:=(.tl (.two (.tl (.two (.loop ⟨[(2,.sp cC 4098),(3,.sp cC 4099),(4,.sp cC 4100),(6,.di)],[(4098,.one cC (.dv cC)),(4099,.keep cC 3),(4100,.keep cC 4)],[]⟩ [(.exit 0,⟨[(2,.sp cC 4098),(4,.sp cC 4100)],[(4098,.one cC (.dv cC)),(4100,.keep cC 4)],[]⟩)] (.tl (.tl (.two (.two (.tl (.reg [] 9)) .leaf) .leaf)))) .leaf)) .leaf))
def MG(lp:Lp)(c:Ca)(a0 a1:D):Option D:=(qZ lp (λv1=>qC .lss (gx v1 0) (Jn 3) λe=>if e then(qJ (gx v1 0) 3 (gx v1 1) λg=>qJ (gx v1 0) 3 a1 λh=>(c 173 [g,h]).bind λf=>(D.idx (gx v1 0) 3).bind λi9=>(D.set (gx v1 1) [i9] f).bind λb=>qB .add (gx v1 0) (Jn 1) λd=>iL [d,b]) else(iR (0,[(gx v1 1)]))) [(Jn 0),a0]).bind λa=>some (gx a.2 0)
def Yj:ag 371 (m2 (MG lp)):=aN 0 Tryz.f75 V9 a
def Wa:Ann:=(.tl (.tl (.tl (.two (.tl (.two (.loop ⟨[(3,.sp K1 4099),(4,.sp K1 4100),(5,.sp P6 8197),(6,.sp K1 12294),(7,.di)],[(4099,.keep K1 3),(4100,.keep K1 4),(8197,.keep P6 5),(12294,.one K1 (.dv K1))],[]⟩ [(.exit 0,⟨[(4,.sp K1 4100),(6,.sp K1 12294)],[(4100,.keep K1 4),(12294,.one K1 (.dv K1))],[]⟩)] (.tl (.two (.two (.reg [] 27) .leaf) .leaf))) .leaf)) .leaf))))
def Ic(lp:Lp)(c:Ca)(a0 a1:D):Option D:=(c 387 [a0]).bind λr1=>(qZ lp (λv2=>qC .lss (gx v2 0) (Jn 3) λq=>if q then(qB .mul (Jn 3) (gx v2 0) λr=>qJ r 9 r1 λs=>qG a1 [0] λt=>qB .mul s t λu=>qB .mul (Jn 3) (gx v2 0) λb=>qB .add b (Jn 1) λd=>qJ d 9 r1 λe=>qG a1 [1] λf=>qB .mul e f λg=>qB .add u g λh=>qB .mul (Jn 3) (gx v2 0) λi=>qB .add i (Jn 2) λj=>qJ j 9 r1 λk=>qG a1 [2] λl=>qB .mul k l λm=>qB .add h m λn=>(D.idx (gx v2 0) 3).bind λi24=>(D.set (gx v2 1) [i24] n).bind λo=>qB .add (gx v2 0) (Jn 1) λp=>iL [p,o]) else(iR (0,[(gx v2 1)]))) [(Jn 0),(D.st [(Jn 0),(Jn 0),(Jn 0)])]).bind λa=>some (gx a.2 0)
def Yk:ag 373 (m2 (Ic lp)):=aN 0 Tryz.f71 Wa a
def MH(lp:Lp)(c:Ca)(a0:D):Option D:=(c 388 [a0,a0]).bind λr1=>some r1
def Yl:ag 374 (m1 (MH lp)):=bA 0 Tryz.f72 .leaf a
def MI(lp:Lp)(c:Ca)(a0:D):Option D:=(c 392 [a0,a0]).bind λr1=>some r1
def Ym:ag 385 (m1 (MI lp)):=bA 0 Tryz.f63 .leaf a
def Wb:Ann:=(.tl (.tl (.tl (.two (.tl (.two (.loop ⟨[(3,.sp K1 4099),(4,.sp K1 4100),(5,.sp P6 8197),(6,.sp K1 12294),(10,.di)],[(4099,.keep K1 3),(4100,.keep K1 4),(8197,.keep P6 5),(12294,.one K1 (.dv K1))],[]⟩ [(.exit 0,⟨[(4,.sp K1 4100),(6,.sp K1 12294)],[(4100,.keep K1 4),(12294,.one K1 (.dv K1))],[]⟩)] (.tl (.tl (.two (.two (.tl (.reg [] 24)) .leaf) .leaf)))) .leaf)) .leaf))))
def Id(lp:Lp)(c:Ca)(a0 a1:D):Option D:=(c 393 [a0]).bind λr1=>(qZ lp (λv2=>qC .lss (gx v2 0) (Jn 3) λm=>if m then(qB .mul (Jn 3) (gx v2 0) λn=>qJ n 9 r1 λo=>qG a1 [0] λp=>qB .mul (Jn 3) (gx v2 0) λq=>qB .add q (Jn 1) λd=>qJ d 9 r1 λe=>qG a1 [1] λf=>qB .mul (Jn 3) (gx v2 0) λg=>qB .add g (Jn 2) λh=>qJ h 9 r1 λi=>qG a1 [2] λj=>(c 394 [(D.sl [o,p,e,f,i,j])]).bind λa=>(D.idx (gx v2 0) 3).bind λi20=>(D.set (gx v2 1) [i20] a).bind λk=>qB .add (gx v2 0) (Jn 1) λl=>iL [l,k]) else(iR (0,[(gx v2 1)]))) [(Jn 0),(D.st [(Jn 0),(Jn 0),(Jn 0)])]).bind λb=>some (gx b.2 0)
def Yn:ag 386 (m2 (Id lp)):=aN 0 Tryz.f66 Wb a
def MJ(lp:Lp)(c:Ca)(a0:D):Option D:=qG a0 [0] λa=>qG a0 [1] λb=>qG a0 [2] λd=>qG a0 [3] λe=>qB .mul a a λU=>qB .mul b b λV=>qB .add U V λW=>qB .mul d d λX=>qB .sub W X λY=>qB .mul e e λf=>qB .sub Y f λg=>qB .mul b d λh=>qB .mul a e λi=>qB .sub h i λj=>qB .mul (Jn 2) j λk=>qB .mul b e λl=>qB .mul a d λm=>qB .add l m λn=>qB .mul (Jn 2) n λo=>qB .mul b d λp=>qB .mul a e λq=>qB .add p q λr=>qB .mul (Jn 2) r λs=>qB .mul a a λt=>qB .mul b b λu=>qB .sub t u λv=>qB .mul d d λw=>qB .add v w λx=>qB .mul e e λy=>qB .sub x y λz=>qB .mul d e λA=>qB .mul a b λB=>qB .sub A B λC=>qB .mul (Jn 2) C λE=>qB .mul b e λF=>qB .mul a d λG=>qB .sub F G λH=>qB .mul (Jn 2) H λI=>qB .mul d e λJ=>qB .mul a b λK=>qB .add J K λL=>qB .mul (Jn 2) L λM=>qB .mul a a λN=>qB .mul b b λO=>qB .sub N O λP=>qB .mul d d λQ=>qB .sub P Q λR=>qB .mul e e λS=>qB .add R S λT=>some (D.st (afz (List.replicate 9 (Jn 0)) [(0,g),(1,k),(2,o),(3,s),(4,z),(5,E),(6,I),(7,M),(8,T)]))
def Yo:ag 387 (m1 (MJ lp)):=bA 0 Tryz.f135 .leaf a
def MK(lp:Lp)(c:Ca)(a0 a1:D):Option D:=qG a0 [0] λh=>qG a1 [0] λi=>qB .mul h i λj=>qG a0 [1] λk=>qG a1 [1] λl=>qB .mul k l λm=>qB .add j m λn=>qG a0 [2] λo=>qG a1 [2] λp=>qB .mul o p λa=>qB .add n a λb=>qG a0 [3] λd=>qG a1 [3] λe=>qB .mul d e λf=>qB .add b f λg=>some g
def Yp:ag 388 (m2 (MK lp)):=aN 0 Tryz.f136 .leaf a
def ML(lp:Lp)(c:Ca)(a0 a1:D):Option D:=qG a0 [0] λb=>qG a1 [0] λd=>qG a0 [1] λe=>qG a1 [1] λf=>qG a0 [2] λg=>qG a1 [2] λh=>qG a0 [3] λi=>qG a1 [3] λj=>(c 394 [(D.sl [b,d,e,f,g,h,i,j])]).bind λa=>some a
def Yq:ag 392 (m2 (ML lp)):=aN 0 Tryz.f127 .leaf a
def Wc:Ann:=(.tl (.two (.reg [] 11) .leaf))
def MM(lp:Lp)(c:Ca)(a0:D):Option D:=qG a0 [0] λa=>qG a0 [1] λb=>qG a0 [2] λd=>qG a0 [3] λe=>(afB .neg d).bind λA=>(afB .neg e).bind λB=>(c 394 [(D.sl [a,a,b,b,A,d,B,e])]).bind λy=>(afB .neg a).bind λC=>(c 394 [(D.sl [b,d,C,e])]).bind λz=>qB .mul (Jn 2) z λm=>(c 394 [(D.sl [b,e,a,d])]).bind λf=>qB .mul (Jn 2) f λn=>(c 394 [(D.sl [b,d,a,e])]).bind λg=>qB .mul (Jn 2) g λo=>(afB .neg b).bind λp=>(afB .neg e).bind λq=>(c 394 [(D.sl [a,a,p,b,d,d,q,e])]).bind λh=>(afB .neg a).bind λr=>(c 394 [(D.sl [d,e,r,b])]).bind λi=>qB .mul (Jn 2) i λs=>(afB .neg a).bind λt=>(c 394 [(D.sl [b,e,t,d])]).bind λj=>qB .mul (Jn 2) j λu=>(c 394 [(D.sl [d,e,a,b])]).bind λk=>qB .mul (Jn 2) k λv=>(afB .neg b).bind λw=>(afB .neg d).bind λx=>(c 394 [(D.sl [a,a,w,b,x,d,e,e])]).bind λl=>some (D.st (afz (List.replicate 9 (Jn 0)) [(0,y),(1,m),(2,n),(3,o),(4,h),(5,s),(6,u),(7,v),(8,l)]))
def Yr:ag 393 (m1 (MM lp)):=bA 0 Tryz.f131 Wc a
def We:Ann:=(.tl (.tl (.two (.tl (.two (.loop ⟨[(3,.di),(4,.di)],[],[0]⟩ [(.exit 0,⟨[(3,.di)],[],[]⟩)] (.tl (.two (.two (.reg [] 12) .leaf) .leaf))) .leaf)) .leaf)))
def Gy(lp:Lp)(c:Ca)(a0:D):Option D:=(qZ lp (λv1=>qB .add (gx v1 1) (Jn 1) λh=>qL a0 h λg=>if g then(qX a0 (gx v1 1) λi=>qB .add (gx v1 1) (Jn 1) λj=>qX a0 j λb=>qB .mul i b λd=>qB .add (gx v1 0) d λe=>qB .add (gx v1 1) (Jn 2) λf=>iL [e,f]) else(iR (0,[(gx v1 0)]))) [(Jn 0),(Jn 0)]).bind λa=>some (gx a.2 0)
def Ys:ag 394 (m1 (Gy lp)):=bA 0 Tryz.f132 We a
def Wf:Ann:=let a:LO:=[(4100,.keep cS 4),(4101,.keep K3 5),(4102,.keep cS 6),(4103,.keep K3 7),(16394,.keep fV 10),(20492,.keep cC 12)];(.tl (.tl (.tl (.tl (.tl (.tl (.tl (.two (.tl (.two (.loop ⟨[(4,.sp cS 4100),(5,.sp K3 4101),(6,.sp cS 4102),(7,.sp K3 4103),(10,.sp fV 16394),(12,.sp cC 20492),(14,.di)],a,[]⟩ [(.ret,⟨[(8,.dv Ty.bool)],[],[]⟩),(.exit 0,⟨[(4,.sp cS 4100),(5,.sp K3 4101),(6,.sp cS 4102),(7,.sp K3 4103),(10,.sp fV 16394),(12,.sp cC 20492)],a,[]⟩)] .leaf) .leaf)) .leaf))))))))
def MN(lp:Lp)(c:Ca)(a0 a1:D)(a2 a3:D):Option D:=(c 414 [a0,a1,a2,a3]).bind λr1=>qN r1 λN=>if N then((c 415 []).bind λO=>some O) else((c 416 [a0,a1,a2,a3]).bind λK=>(D.tupAt K 0).bind λJ=>(D.tupAt K 1).bind λM=>(c 425 [a0,a1,a2,a3]).bind λL=>(D.tupAt L 0).bind λb=>(D.tupAt L 1).bind λE=>qT (D.bool (D.beq M E)) λd=>if d then(some (D.bool false)) else(qT M λe=>if e then((c 415 []).bind λv=>qT v λf=>(if f then((c 421 [J,a0,a1,a2,a3]).bind λw=>D.truth w) else(some false)).bind λg=>qT (D.bool g) λh=>(if h then((c 422 [J,a0,a1,a2,a3]).bind λx=>D.truth x) else(some false)).bind λi=>qT (D.bool i) λj=>(if j then(D.truth (D.bool (D.beq b (D.st [(D.st [(D.st [(D.bool false),(D.bool false),(aw bc)]),(D.st [(D.bool false),(D.bool false),(aw bc)])]),(D.st [(D.st [(D.bool false),(D.bool false),(aw bc)]),(D.st [(D.bool false),(D.bool false),(aw bc)])]),(D.st [(D.st [(D.bool false),(D.bool false),(aw bc)]),(D.st [(D.bool false),(D.bool false),(aw bc)])])])))) else(some false)).bind λk=>some (D.bool k)) else((qZ lp (λv22=>qC .lss (gx v22 0) (Jn 3) λl=>if l then((D.idx (gx v22 0) 3).bind λi25=>qG b [i25,0] λF=>(c 426 [F]).bind λy=>qC .gtr y (Jn 400) λm=>(if m then(some true) else((D.idx (gx v22 0) 3).bind λi30=>qG b [i30,1] λG=>(c 426 [G]).bind λz=>qB .gtr z (Jn 400) λH=>D.truth H)).bind λn=>qT (D.bool n) λo=>if o then(iR (0,[(D.bool false)])) else(qB .add (gx v22 0) (Jn 1) λI=>iL [I])) else(iR (1,[]))) [(Jn 0)]).bind λa=>if a.1=0 then(some (gx a.2 0)) else((c 415 []).bind λA=>qT A λp=>(if p then((c 424 [a0,a1,b]).bind λB=>D.truth (D.bool (D.beq B (Jn 1)))) else(some false)).bind λq=>qT (D.bool q) λr=>(if r then((c 424 [a2,a3,b]).bind λC=>D.truth (D.bool (D.beq C (Jn 1)))) else(some false)).bind λs=>qT (D.bool s) λt=>(if t then(D.truth (D.bool (D.beq J (D.st [(D.st [(Jn 0),(Jn 0),(Jn 0)]),(D.st [(D.st [(D.bool false),(D.bool false),(aw bc)]),(D.st [(D.bool false),(D.bool false),(aw bc)])])])))) else(some false)).bind λu=>some (D.bool u)))))
def Sx:ag 410 (m4 (MN lp)):=FB 0 Tryz.f5 Wf a
def MO(lp:Lp)(c:Ca)(a0 a1:D)(a2 a3:D):Option D:=(c 427 [a0]).bind λr1=>qT r1 λb=>(if b then((c 427 [a2]).bind λh=>D.truth h) else(some false)).bind λd=>qT (D.bool d) λe=>(if e then((c 431 [a1,(Jn 10)]).bind λi=>D.truth i) else(some false)).bind λf=>qT (D.bool f) λg=>(if g then((c 431 [a3,(Jn 10)]).bind λj=>D.truth j) else(some false)).bind λa=>some (D.bool a)
def Yt:ag 414 (m4 (MO lp)):=FB 0 Tryz.f9 .leaf a
def R8:Ann:=(.tl (.tl (.tl (.two (.reg [] 9) (.two (.reg [] 9) (.two (.reg [] 9) (.tl (.two (.reg [] 29) (.two (.reg [] 9) (.two (.reg [] 9) (.tl (.two (.reg [] 20) (.tl (.two (.reg [] 18) (.two (.reg [] 21) (.two (.reg [] 27) .leaf))))))))))))))))
def Yu:ag 415 (GS 0 lp 415 Tryz.f10 R8):=rp a u3 u3
end
end Sy
end
set_option maxHeartbeats 0
noncomputable section
namespace Sy
open Go Go.Proofs
section
variable{lp}(a:au lp)
def Wg:Ann:=let a:LO:=[(4104,.one fV (.dv fV)),(8202,.one bZ (.dv bZ)),(8203,.one bZ (.dv bZ)),(12300,.one fV (.dv fV)),(16397,.one cq (.dv cq)),(20494,.one Ty.bool (.dv Ty.bool)),(45056,.lp none 0)];let c:LO:=[(4104,.one fV (.dv fV)),(8202,.one bZ (.dv bZ)),(8203,.one bZ (.dv bZ)),(12300,.one fV (.dv fV)),(16397,.one cq (.dv cq)),(20494,.one Ty.bool (.dv Ty.bool)),(32770,.keep bZ 1),(32771,.keep bZ 2),(45056,.lp none 0),(53251,.fv (.yld 45056)),(57348,.fv (.map K1 Ty.bool 57360)),(57360,.mp K1 Ty.bool)];let e:LO:=[(4104,.one fV (.dv fV)),(8202,.one bZ (.dv bZ)),(8203,.one bZ (.dv bZ)),(12300,.one fV (.dv fV)),(16397,.one cq (.dv cq)),(20494,.one Ty.bool (.dv Ty.bool)),(45056,.lp none 0),(53251,.fv (.yld 45056)),(57348,.fv (.map K1 Ty.bool 57360)),(57360,.mp K1 Ty.bool)];let b:LS:=[(0,.same (.yld 45056))];let d:LS:=[(3,.same (.ptr Ty.fn 53251 [])),(6,.dv Ty.bool)];(.tl (.two (.reg [] 8) (.tl (.tl (.tl (.two (.two (.regI [] 3 .leaf) (.two (.all [(.normal,⟨b,a,[]⟩),(.ret,⟨b,a,[]⟩)] [] [45056] (.tl (.tl (.tl (.two (.tl (.two (.loop ⟨[(0,.same (.yld 45056)),(1,.sp bZ 32770),(2,.sp bZ 32771),(5,.same (.clo 100 [(.ptr Ty.fn 57348 []),(.ptr Ty.fn 53251 [])])),(20,.ow bZ),(22,.di)],c,[21]⟩ [(.ret,⟨b,a,[]⟩),(.exit 0,⟨[(0,.same (.yld 45056)),(1,.sp bZ 32770),(2,.sp bZ 32771),(5,.same (.clo 100 [(.ptr Ty.fn 57348 []),(.ptr Ty.fn 53251 [])]))],c,[]⟩)] (.tl (.tl (.two (.two (.tl (.tl (.two (.loop ⟨[(0,.same (.yld 45056)),(1,.sp bZ 32770),(2,.sp bZ 32771),(5,.same (.clo 100 [(.ptr Ty.fn 57348 []),(.ptr Ty.fn 53251 [])])),(7,.sp bZ 77831),(20,.ow bZ),(31,.di)],[(4104,.one fV (.dv fV)),(8202,.one bZ (.dv bZ)),(8203,.one bZ (.dv bZ)),(12300,.one fV (.dv fV)),(16397,.one cq (.dv cq)),(20494,.one Ty.bool (.dv Ty.bool)),(32770,.keep bZ 1),(32771,.keep bZ 2),(45056,.lp none 0),(53251,.fv (.yld 45056)),(57348,.fv (.map K1 Ty.bool 57360)),(57360,.mp K1 Ty.bool),(77831,.keep bZ 7)],[6,21,22,29,30]⟩ [(.ret,⟨b,a,[]⟩),(.exit 2,⟨[(0,.same (.yld 45056)),(1,.sp bZ 32770),(2,.sp bZ 32771),(5,.same (.clo 100 [(.ptr Ty.fn 57348 []),(.ptr Ty.fn 53251 [])])),(20,.ow bZ)],c,[21,22]⟩)] (.tl (.tl (.two (.two (.tl (.two (.regI [] 13 (.two (.all [(.ret,⟨d,[(4104,.one fV (.dv fV)),(8202,.one bZ (.dv bZ)),(8203,.one bZ (.dv bZ)),(12300,.one fV (.dv fV)),(16397,.one cq (.dv cq)),(20494,.one Ty.bool (.dv Ty.bool)),(32770,.one bZ (.dv bZ)),(32771,.one bZ (.dv bZ)),(45056,.lp none 3),(53251,.fv (.yld 45056)),(57348,.fv (.map K1 Ty.bool 57360)),(57360,.mp K1 Ty.bool),(77831,.one bZ (.dv bZ))],[]⟩)] [] [45056] (.tl (.tl (.cut [(.normal,⟨[(2,.same (.ptr Ty.fn 57348 [])),(3,.same (.ptr Ty.fn 53251 [])),(7,.sp K1 110599)],[(4104,.one fV (.dv fV)),(8202,.one bZ (.dv bZ)),(8203,.one bZ (.dv bZ)),(12300,.one fV (.dv fV)),(16397,.one cq (.dv cq)),(20494,.one Ty.bool (.dv Ty.bool)),(32770,.one bZ (.dv bZ)),(32771,.one bZ (.dv bZ)),(45056,.lp none 3),(53251,.fv (.yld 45056)),(57348,.fv (.map K1 Ty.bool 57360)),(57360,.mp K1 Ty.bool),(77831,.one bZ (.dv bZ)),(110599,.one K1 (.dv K1))],[8]⟩)] [8] [45056] .leaf (.tl (.tl (.two (.regI [] 4 (.two (.tl (.all [(.normal,⟨[],[(4104,.keep fV 8),(8202,.keep bZ 10),(8203,.keep bZ 11),(12300,.one fV (.dv fV)),(16397,.one cq (.dv cq)),(20494,.one Ty.bool (.dv Ty.bool)),(32770,.one bZ (.dv bZ)),(32771,.one bZ (.dv bZ)),(53251,.fv (.yld 45056)),(57348,.fv (.map K1 Ty.bool 57360)),(57360,.mp K1 Ty.bool),(77831,.one bZ (.dv bZ))],[]⟩)] [] [4104,8202,8203] (.two (.tl (.tl (.two (.reg [] 10) (.tl (.two (.reg [] 8) (.reg [] 4)))))) .leaf))) .leaf)) .leaf))))))) .leaf)) .leaf)) .leaf) .leaf)))) .leaf))) .leaf) .leaf)))) .leaf)) (.tl (.tl (.two (.loop ⟨[(0,.same (.yld 45056)),(5,.same (.clo 100 [(.ptr Ty.fn 57348 []),(.ptr Ty.fn 53251 [])])),(55,.di)],e,[10,53,54]⟩ [(.ret,⟨b,a,[]⟩),(.exit 4,⟨b,a,[]⟩)] (.tl (.tl (.two (.two (.tl (.tl (.two (.loop ⟨[(0,.same (.yld 45056)),(5,.same (.clo 100 [(.ptr Ty.fn 57348 []),(.ptr Ty.fn 53251 [])])),(12,.sp K1 90124),(61,.di)],[(4104,.one fV (.dv fV)),(8202,.one bZ (.dv bZ)),(8203,.one bZ (.dv bZ)),(12300,.one fV (.dv fV)),(16397,.one cq (.dv cq)),(20494,.one Ty.bool (.dv Ty.bool)),(45056,.lp none 0),(53251,.fv (.yld 45056)),(57348,.fv (.map K1 Ty.bool 57360)),(57360,.mp K1 Ty.bool),(90124,.keep K1 12)],[10,53,54,55,59,60]⟩ [(.ret,⟨b,a,[]⟩),(.exit 6,⟨[(0,.same (.yld 45056)),(5,.same (.clo 100 [(.ptr Ty.fn 57348 []),(.ptr Ty.fn 53251 [])]))],e,[10,53,54,55]⟩)] (.tl (.tl (.two (.two (.tl (.tl (.two (.regI [] 10 (.two (.all [(.ret,⟨d,[(4104,.one fV (.dv fV)),(8202,.one bZ (.dv bZ)),(8203,.one bZ (.dv bZ)),(12300,.one fV (.dv fV)),(16397,.one cq (.dv cq)),(20494,.one Ty.bool (.dv Ty.bool)),(45056,.lp none 3),(53251,.fv (.yld 45056)),(57348,.fv (.map K1 Ty.bool 57360)),(57360,.mp K1 Ty.bool),(90124,.one K1 (.dv K1)),(110607,.one iP (.dv iP))],[]⟩)] [] [45056] (.tl (.tl (.cut [(.normal,⟨[(2,.same (.ptr Ty.fn 57348 [])),(3,.same (.ptr Ty.fn 53251 [])),(7,.sp K1 126983)],[(4104,.one fV (.dv fV)),(8202,.one bZ (.dv bZ)),(8203,.one bZ (.dv bZ)),(12300,.one fV (.dv fV)),(16397,.one cq (.dv cq)),(20494,.one Ty.bool (.dv Ty.bool)),(45056,.lp none 3),(53251,.fv (.yld 45056)),(57348,.fv (.map K1 Ty.bool 57360)),(57360,.mp K1 Ty.bool),(90124,.one K1 (.dv K1)),(110607,.one iP (.dv iP)),(126983,.one K1 (.dv K1))],[8]⟩)] [8] [45056] .leaf (.tl (.tl (.two (.regI [] 4 (.two (.tl (.all [(.normal,⟨[],[(4104,.keep fV 8),(8202,.keep bZ 10),(8203,.keep bZ 11),(12300,.one fV (.dv fV)),(16397,.one cq (.dv cq)),(20494,.one Ty.bool (.dv Ty.bool)),(53251,.fv (.yld 45056)),(57348,.fv (.map K1 Ty.bool 57360)),(57360,.mp K1 Ty.bool),(90124,.one K1 (.dv K1)),(110607,.one iP (.dv iP))],[]⟩)] [] [4104,8202,8203] (.two (.tl (.tl (.two (.reg [] 10) (.tl (.two (.reg [] 8) (.reg [] 4)))))) .leaf))) .leaf)) .leaf))))))) (.two (.all [(.ret,⟨d,[(4104,.one fV (.dv fV)),(8202,.one bZ (.dv bZ)),(8203,.one bZ (.dv bZ)),(12300,.one fV (.dv fV)),(16397,.one cq (.dv cq)),(20494,.one Ty.bool (.dv Ty.bool)),(45056,.lp none 3),(53251,.fv (.yld 45056)),(57348,.fv (.map K1 Ty.bool 57360)),(57360,.mp K1 Ty.bool),(90124,.one K1 (.dv K1))],[]⟩)] [] [45056] (.tl (.tl (.cut [(.normal,⟨[(2,.same (.ptr Ty.fn 57348 [])),(3,.same (.ptr Ty.fn 53251 [])),(7,.sp K1 139271)],[(4104,.one fV (.dv fV)),(8202,.one bZ (.dv bZ)),(8203,.one bZ (.dv bZ)),(12300,.one fV (.dv fV)),(16397,.one cq (.dv cq)),(20494,.one Ty.bool (.dv Ty.bool)),(45056,.lp none 3),(53251,.fv (.yld 45056)),(57348,.fv (.map K1 Ty.bool 57360)),(57360,.mp K1 Ty.bool),(90124,.one K1 (.dv K1)),(139271,.one K1 (.dv K1))],[8]⟩)] [8] [45056] .leaf (.tl (.tl (.two (.regI [] 4 (.two (.tl (.all [(.normal,⟨[],[(4104,.keep fV 8),(8202,.keep bZ 10),(8203,.keep bZ 11),(12300,.one fV (.dv fV)),(16397,.one cq (.dv cq)),(20494,.one Ty.bool (.dv Ty.bool)),(53251,.fv (.yld 45056)),(57348,.fv (.map K1 Ty.bool 57360)),(57360,.mp K1 Ty.bool),(90124,.one K1 (.dv K1))],[]⟩)] [] [4104,8202,8203] (.two (.tl (.tl (.two (.reg [] 10) (.tl (.two (.reg [] 8) (.reg [] 4)))))) .leaf))) .leaf)) .leaf))))))) .leaf))) .leaf))) .leaf) .leaf)))) .leaf))) .leaf) .leaf)))) .leaf)))))))) .leaf)) (.two (.reg [] 2) .leaf)))))))
def MP(lp:Lp)(c:Ca)(a0 a1:D)(a2 a3:D):Option D:=(c 433 [a0,a1]).bind λr1=>(c 433 [a2,a3]).bind λZ=>((qZ lp (λv3=>qC .lss (gx v3 1) (Jn 2) λb5=>if b5 then((D.idx (gx v3 1) (List.length (qV v3 0))).bind λi6=>((qV v3 0)[i6]?).bind λx7=>qG x7 [1] λx8=>(c 18 [x8]).bind λr9=>qS r9 λb2=>(qZ lp (λv11=>qC .lss (gx v11 1) (Jn (b2.length)) λa9=>if a9 then(qX r9 (gx v11 1) λc4=>qG x7 [0,1] λc5=>qG c4 [0] λdk=>(c 386 [c5,dk]).bind λb6=>(c 448 [b6]).bind λb7=>qB .mul (Jn 2) (gx v3 1) λdn=>qB .sub (Jn 1) dn λdp=>((c 447 [b7]).bind λad=>(D.tupAt ad 0).bind λa5=>(D.tupAt ad 1).bind λdr=>(qC .lss dp (Jn 0) λbi=>if bi then((c 97 [a5]).bind λb8=>some (0,[(gx v11 2),(gx v11 3),(gx v11 4),(gx v11 5),(gx v11 6),(gx v11 7),r1,Z,(qW v11 8),x7,b8])) else(some (0,[(gx v11 2),(gx v11 3),(gx v11 4),(gx v11 5),(gx v11 6),(gx v11 7),r1,Z,(qW v11 8),x7,a5]))).bind λ(b:Nat×List D)=>qT (D.bool (!(D.beq dr (Jn 0)))) λbj=>(if bj then(some true) else(D.truth (Option.getD (afu (qV b.2 8) (gx b.2 10)) (D.bool false)))).bind λbk=>qT (D.bool bk) λbl=>if bl then(some (0,[(D.bool true),(gx b.2 0),(gx b.2 1),(gx b.2 2),(gx b.2 3),(gx b.2 4),(gx b.2 5),(gx b.2 6),(gx b.2 7),(qW b.2 8),(gx b.2 9)])) else(((c 434 [(gx b.2 10),(gx b.2 1),(gx b.2 2)]).bind λs=>(c 342 [s]).bind λb9=>qC .lss b9 (Jn 0) λbm=>if bm then(some (0,[(gx b.2 3),(gx b.2 4),(gx b.2 5),(gx b.2 6),(gx b.2 7),(D.sl (afv (qV b.2 8) (gx b.2 10) (D.bool true))),(gx b.2 9)])) else((c 174 [s,s]).bind λca=>(c 91 [(gx b.2 10),(gx b.2 10)]).bind λcb=>(c 54 [(Jn 1)]).bind λcc=>(c 62 [cb,cc]).bind λcf=>(c 352 [ca,cf]).bind λai=>qT (gx b.2 5) λbn=>(if bn then((c 73 [ai,(gx b.2 4)]).bind λch=>qB .leq ch (Jn 0) λds=>D.truth ds) else(some false)).bind λbp=>qT (D.bool bp) λbs=>if bs then(some (0,[(gx b.2 3),(gx b.2 4),(gx b.2 5),(gx b.2 6),(gx b.2 7),(D.sl (afv (qV b.2 8) (gx b.2 10) (D.bool true))),(gx b.2 9)])) else((c 435 [(gx b.2 1),(gx b.2 10)]).bind λcp=>(c 74 [(Jn 2)]).bind λcs=>(c 352 [s,cs]).bind λcv=>(c 173 [cp,cv]).bind λcx=>some (0,[(D.st [(gx b.2 10),cx]),ai,(D.bool true),(gx b.2 6),(gx b.2 7),(D.sl (afv (qV b.2 8) (gx b.2 10) (D.bool true))),(gx b.2 9)])))).bind λ(q:Nat×List D)=>some (0,[(D.bool true),(gx b.2 0),(gx b.2 1),(gx b.2 2),(gx q.2 0),(gx q.2 1),(gx q.2 2),(gx q.2 3),(gx q.2 4),(qW q.2 5),(gx q.2 6)]))).bind λ(l:Nat×List D)=>qN (gx l.2 0) λbt=>if bt then(iR (0,[(gx l.2 1),(gx l.2 2),(gx l.2 3),(gx l.2 4),(gx l.2 5),(gx l.2 6)])) else(qB .add (gx v11 1) (Jn 1) λdt=>iL [(qW v11 0),dt,(gx l.2 1),(gx l.2 2),(gx l.2 3),(gx l.2 4),(gx l.2 5),(gx l.2 6),(qW l.2 9)])) else(iR (1,[(qW v11 0),(gx v11 2),(gx v11 3),(gx v11 4),(gx v11 5),(gx v11 6),(gx v11 7),(qW v11 8)]))) [(qW v3 0),(Jn 0),(gx v3 2),(gx v3 3),(gx v3 4),(gx v3 5),(gx v3 6),(gx v3 7),(qW v3 8)]).bind λk=>if k.1=0 then(iR (0,[(gx k.2 0),(gx k.2 1),(gx k.2 2),(gx k.2 3),(gx k.2 4),(gx k.2 5)])) else(qB .add (gx v3 1) (Jn 1) λdu=>iL [(qW k.2 0),du,(gx k.2 1),(gx k.2 2),(gx k.2 3),(gx k.2 4),(gx k.2 5),(gx k.2 6),(qW k.2 7)])) else(iR (1,[(gx v3 2),(gx v3 3),(gx v3 4),(gx v3 5),(gx v3 6),(gx v3 7),(qW v3 8)]))) [(D.sl [r1,Z]),(Jn 0),(D.st [(D.st [(Jn 0),(Jn 0),(Jn 0)]),(D.st [(D.st [(D.bool false),(D.bool false),(aw bc)]),(D.st [(D.bool false),(D.bool false),(aw bc)])])]),r1,Z,(D.st [(D.st [(Jn 0),(Jn 0),(Jn 0)]),(D.st [(D.st [(D.bool false),(D.bool false),(aw bc)]),(D.st [(D.bool false),(D.bool false),(aw bc)])])]),(D.st [(D.st [(D.bool false),(D.bool false),(aw bc)]),(D.st [(D.bool false),(D.bool false),(aw bc)])]),(D.bool false),(D.sl [])]).bind λm=>if m.1=0 then(some (1,[(gx m.2 0),(gx m.2 1),(gx m.2 2),(gx m.2 3),(gx m.2 4),(gx m.2 5)])) else((c 449 [Z]).bind λaj=>(c 449 [r1]).bind λak=>qS ak λb3=>(qZ lp (λj=>qC .lss (gx j 0) (Jn (b3.length)) λbv=>if bv then(qX ak (gx j 0) λy=>qS aj λb4=>(qZ lp (λf=>qC .lss (gx f 0) (Jn (b4.length)) λbx=>if bx then(qX aj (gx f 0) λdv=>(c 450 [y,dv]).bind λx=>((c 447 [x]).bind λal=>(D.tupAt al 0).bind λa6=>(D.tupAt al 1).bind λdx=>(qC .lss (Jn 1) (Jn 0) λbL=>if bL then((c 97 [a6]).bind λcy=>some (0,[(gx f 1),(gx f 2),(gx f 3),(gx f 4),(gx f 5),(gx f 6),(qW f 7),y,x,cy])) else(some (0,[(gx f 1),(gx f 2),(gx f 3),(gx f 4),(gx f 5),(gx f 6),(qW f 7),y,x,a6]))).bind λ(d:Nat×List D)=>qT (D.bool (!(D.beq dx (Jn 0)))) λbM=>(if bM then(some true) else(D.truth (Option.getD (afu (qV d.2 6) (gx d.2 9)) (D.bool false)))).bind λbN=>qT (D.bool bN) λbP=>if bP then(some (0,[(D.bool true),(gx d.2 0),(gx d.2 1),(gx d.2 2),(gx d.2 3),(gx d.2 4),(gx d.2 5),(qW d.2 6),(gx d.2 7),(gx d.2 8)])) else(((c 434 [(gx d.2 9),(gx d.2 1),(gx d.2 2)]).bind λt=>(c 342 [t]).bind λcB=>qC .lss cB (Jn 0) λbT=>if bT then(some (0,[(gx d.2 3),(gx d.2 4),(gx d.2 5),(D.sl (afv (qV d.2 6) (gx d.2 9) (D.bool true))),(gx d.2 7),(gx d.2 8)])) else((c 174 [t,t]).bind λcI=>(c 91 [(gx d.2 9),(gx d.2 9)]).bind λc0=>(c 54 [(Jn 1)]).bind λc1=>(c 62 [c0,c1]).bind λc2=>(c 352 [cI,c2]).bind λan=>qT (gx d.2 5) λbW=>(if bW then((c 73 [an,(gx d.2 4)]).bind λc3=>qB .leq c3 (Jn 0) λdy=>D.truth dy) else(some false)).bind λb0=>qT (D.bool b0) λb1=>if b1 then(some (0,[(gx d.2 3),(gx d.2 4),(gx d.2 5),(D.sl (afv (qV d.2 6) (gx d.2 9) (D.bool true))),(gx d.2 7),(gx d.2 8)])) else((c 435 [(gx d.2 1),(gx d.2 9)]).bind λK=>(c 74 [(Jn 2)]).bind λL=>(c 352 [t,L]).bind λM=>(c 173 [K,M]).bind λN=>some (0,[(D.st [(gx d.2 9),N]),an,(D.bool true),(D.sl (afv (qV d.2 6) (gx d.2 9) (D.bool true))),(gx d.2 7),(gx d.2 8)])))).bind λ(n:Nat×List D)=>some (0,[(D.bool true),(gx d.2 0),(gx d.2 1),(gx d.2 2),(gx n.2 0),(gx n.2 1),(gx n.2 2),(qW n.2 3),(gx n.2 4),(gx n.2 5)]))).bind λ(e:Nat×List D)=>qN (gx e.2 0) λz=>if z then(iR (0,[(gx e.2 1),(gx e.2 2),(gx e.2 3),(gx e.2 4),(gx e.2 5),(gx e.2 6)])) else(((c 447 [(gx e.2 9)]).bind λu=>(D.tupAt u 0).bind λw=>(D.tupAt u 1).bind λax=>(qC .lss (Jn (-1)) (Jn 0) λA=>if A then((c 97 [w]).bind λO=>some (0,[(gx e.2 1),(gx e.2 2),(gx e.2 3),(gx e.2 4),(gx e.2 5),(gx e.2 6),(qW e.2 7),(gx e.2 8),O])) else(some (0,[(gx e.2 1),(gx e.2 2),(gx e.2 3),(gx e.2 4),(gx e.2 5),(gx e.2 6),(qW e.2 7),(gx e.2 8),w]))).bind λ(a:Nat×List D)=>qT (D.bool (!(D.beq ax (Jn 0)))) λB=>(if B then(some true) else(D.truth (Option.getD (afu (qV a.2 6) (gx a.2 8)) (D.bool false)))).bind λC=>qT (D.bool C) λE=>if E then(some (0,[(D.bool true),(gx a.2 0),(gx a.2 1),(gx a.2 2),(gx a.2 3),(gx a.2 4),(gx a.2 5),(qW a.2 6),(gx a.2 7)])) else(((c 434 [(gx a.2 8),(gx a.2 1),(gx a.2 2)]).bind λr=>(c 342 [r]).bind λP=>qC .lss P (Jn 0) λF=>if F then(some (0,[(gx a.2 3),(gx a.2 4),(gx a.2 5),(D.sl (afv (qV a.2 6) (gx a.2 8) (D.bool true))),(gx a.2 7)])) else((c 174 [r,r]).bind λQ=>(c 91 [(gx a.2 8),(gx a.2 8)]).bind λR=>(c 54 [(Jn 1)]).bind λS=>(c 62 [R,S]).bind λT=>(c 352 [Q,T]).bind λv=>qT (gx a.2 5) λG=>(if G then((c 73 [v,(gx a.2 4)]).bind λU=>qB .leq U (Jn 0) λaB=>D.truth aB) else(some false)).bind λH=>qT (D.bool H) λI=>if I then(some (0,[(gx a.2 3),(gx a.2 4),(gx a.2 5),(D.sl (afv (qV a.2 6) (gx a.2 8) (D.bool true))),(gx a.2 7)])) else((c 435 [(gx a.2 1),(gx a.2 8)]).bind λV=>(c 74 [(Jn 2)]).bind λW=>(c 352 [r,W]).bind λX=>(c 173 [V,X]).bind λY=>some (0,[(D.st [(gx a.2 8),Y]),v,(D.bool true),(D.sl (afv (qV a.2 6) (gx a.2 8) (D.bool true))),(gx a.2 7)])))).bind λ(o:Nat×List D)=>some (0,[(D.bool true),(gx a.2 0),(gx a.2 1),(gx a.2 2),(gx o.2 0),(gx o.2 1),(gx o.2 2),(qW o.2 3),(gx o.2 4)]))).bind λ(g:Nat×List D)=>qN (gx g.2 0) λJ=>if J then(iR (0,[(gx g.2 1),(gx g.2 2),(gx g.2 3),(gx g.2 4),(gx g.2 5),(gx g.2 6)])) else(qB .add (gx f 0) (Jn 1) λaI=>iL [aI,(gx g.2 1),(gx g.2 2),(gx g.2 3),(gx g.2 4),(gx g.2 5),(gx g.2 6),(qW g.2 7)]))) else(iR (1,[(gx f 1),(gx f 2),(gx f 3),(gx f 4),(gx f 5),(gx f 6),(qW f 7)]))) [(Jn 0),(gx j 1),(gx j 2),(gx j 3),(gx j 4),(gx j 5),(gx j 6),(qW j 7)]).bind λh=>if h.1=0 then(iR (0,[(gx h.2 0),(gx h.2 1),(gx h.2 2),(gx h.2 3),(gx h.2 4),(gx h.2 5)])) else(qB .add (gx j 0) (Jn 1) λa4=>iL [a4,(gx h.2 0),(gx h.2 1),(gx h.2 2),(gx h.2 3),(gx h.2 4),(gx h.2 5),(qW h.2 6)])) else(iR (1,[(gx j 1),(gx j 2),(gx j 3),(gx j 4),(gx j 5),(gx j 6)]))) [(Jn 0),(gx m.2 0),(gx m.2 1),(gx m.2 2),(gx m.2 3),(gx m.2 4),(gx m.2 5),(qW m.2 6)]).bind λi=>if i.1=0 then(some (1,[(gx i.2 0),(gx i.2 1),(gx i.2 2),(gx i.2 3),(gx i.2 4),(gx i.2 5)])) else(some (0,[(gx i.2 0),(gx i.2 1),(gx i.2 2),(gx i.2 3),(gx i.2 4),(gx i.2 5)])))).bind λ(p:Nat×List D)=>if p.1=0 then(some (D.tup [(gx p.2 3),(gx p.2 5)])) else(some (D.tup [(gx p.2 3),(gx p.2 5)]))
def Yv:ag 416 (m4 (MP lp)):=FB 0 Tryz.f11 Wg a
def Wh:Ann:=(.tl (.two (.reg [] 8) .leaf))
def Sf(lp:Lp)(c:Ca)(a0 a1:D)(a2 a3 a4:D):Option D:=(c 433 [a1,a2]).bind λr1=>(c 433 [a3,a4]).bind λa=>(c 434 [a0,r1,a]).bind λb=>some b
def Yw:ag 419 (m5 (Sf lp)):=FC 0 Tryz.f15 Wh a
def Wi:Ann:=let a:LO:=[(4101,.keep fV 5),(4102,.keep cS 6),(4103,.keep K3 7),(4104,.keep cS 8),(4105,.keep K3 9)];(.tl (.two (.tl (.two (.loop ⟨[(5,.sp fV 4101),(6,.sp cS 4102),(7,.sp K3 4103),(8,.sp cS 4104),(9,.sp K3 4105),(15,.di)],a,[14]⟩ [(.ret,⟨[(10,.dv Ty.bool)],[],[]⟩),(.exit 0,⟨[(5,.sp fV 4101),(6,.sp cS 4102),(7,.sp K3 4103),(8,.sp cS 4104),(9,.sp K3 4105)],a,[]⟩)] .leaf) .leaf)) (.tl (.two (.reg [] 24) .leaf))))
def MQ(lp:Lp)(c:Ca)(a0 a1:D)(a2 a3 a4:D):Option D:=qG a0 [0] λC=>(qZ lp (λv2=>qC .lss (gx v2 0) (Jn 3) λA=>if A then((D.idx (gx v2 0) 3).bind λi5=>(D.fld C i5).bind λz=>qC .geq z (Jn 2305843009213693952) λB=>(if B then(some true) else(qB .leq z (Jn (-2305843009213693952)) λE=>D.truth E)).bind λb=>qT (D.bool b) λd=>if d then(iR (0,[(D.bool false)])) else(qB .add (gx v2 0) (Jn 1) λr=>iL [r])) else(iR (1,[]))) [(Jn 0)]).bind λa=>if a.1=0 then(some (gx a.2 0)) else(qG a0 [0] λs=>qT (D.bool (D.beq s (D.st [(Jn 0),(Jn 0),(Jn 0)]))) λe=>(if e then(some true) else(qG a0 [1,0,0] λt=>D.truth t)).bind λf=>qT (D.bool f) λg=>if g then(some (D.bool false)) else((c 433 [a1,a2]).bind λj=>qG a0 [0] λu=>(c 435 [j,u]).bind λk=>qG a0 [1] λv=>(c 73 [k,v]).bind λl=>qC .leq l (Jn 0) λh=>(if h then((c 433 [a3,a4]).bind λm=>qG a0 [0] λw=>(c 97 [w]).bind λn=>(c 435 [m,n]).bind λo=>qG a0 [1] λx=>(c 357 [x]).bind λp=>(c 73 [o,p]).bind λq=>qB .leq q (Jn 0) λy=>D.truth y) else(some false)).bind λi=>some (D.bool i)))
def Yx:ag 421 (m5 (MQ lp)):=FC 0 Tryz.f17 Wi a
def Wj:Ann:=(.tl (.tl (.tl (.tl (.two (.reg [] 8) (.two (.reg [] 16) .leaf))))))
def MR(lp:Lp)(c:Ca)(a0 a1:D)(a2 a3 a4:D):Option D:=qG a0 [0] λu=>(c 187 [u]).bind λt=>qG a0 [0] λv=>qN t λp=>(if p then(some true) else(D.truth (D.bool (D.beq v (D.st [(Jn 0),(Jn 0),(Jn 0)]))))).bind λq=>qT (D.bool q) λr=>(if r then(some true) else(qG a0 [1,0,0] λw=>D.truth w)).bind λs=>qT (D.bool s) λa=>if a then(some (D.bool false)) else(qG a0 [0] λk=>(c 438 [k]).bind λe=>(c 437 [e,a3,a4]).bind λf=>(c 70 [f]).bind λg=>qG a0 [0] λl=>(c 437 [l,a1,a2]).bind λh=>qG a0 [1] λm=>(c 324 [h,m]).bind λi=>qC .leq i (Jn 0) λb=>(if b then(qG a0 [1] λn=>(c 324 [g,n]).bind λj=>qB .geq j (Jn 0) λo=>D.truth o) else(some false)).bind λd=>some (D.bool d))
def Yy:ag 422 (m5 (MR lp)):=FC 0 Tryz.f18 Wj a
def Wl:Ann:=(.tl (.tl (.two (.reg [] 6) (.tl (.tl (.two (.tl (.two (.loop ⟨[(3,.sp cS 4099),(7,.sp cC 12295),(9,.di),(25,.di)],[(4099,.keep cS 3),(12295,.keep cC 7)],[8,23,24]⟩ [(.exit 0,⟨[(9,.di)],[],[]⟩)] (.tl (.tl (.two (.two (.tl (.reg [] 15)) .leaf) .leaf)))) .leaf)) .leaf))))))
def MS(lp:Lp)(c:Ca)(a0 a1 a2:D):Option D:=(c 71 [a2]).bind λr1=>qT r1 λp=>if p then(some (Jn (-1))) else(qG a0 [0] λu=>(c 135 [u]).bind λr=>(c 440 [a2,r]).bind λs=>qG a0 [1] λv=>(c 385 [v]).bind λt=>(c 18 [a1]).bind λo=>qS o λq=>(qZ lp (λv10=>qC .lss (gx v10 1) (Jn (q.length)) λb=>if b then(qX o (gx v10 1) λa=>qG a [1] λi=>qB .mul t i λj=>(c 74 [j]).bind λd=>qG a0 [1] λk=>qG a [0] λl=>(c 386 [k,l]).bind λe=>(c 72 [e,s]).bind λf=>(c 73 [d,f]).bind λg=>(D.min2 (gx v10 0) g).bind λm=>qB .add (gx v10 1) (Jn 1) λn=>iL [m,n]) else(iR (0,[(gx v10 0)]))) [(Jn 1),(Jn 0)]).bind λh=>some (gx h.2 0))
def Yz:ag 423 (m3 (MS lp)):=nS 0 Tryz.f19 Wl a
end
end Sy
end
set_option maxHeartbeats 0
noncomputable section
namespace Sy
open Go Go.Proofs
section
variable{lp}(a:au lp)
def Wm:Ann:=(.tl (.tl (.two (.reg [] 6) (.tl (.tl (.two (.tl (.two (.loop ⟨[(3,.sp cS 4099),(7,.sp cC 12295),(9,.di),(10,.di)],[(4099,.keep cS 3),(12295,.keep cC 7)],[8]⟩ [(.exit 0,⟨[(9,.di)],[],[]⟩)] (.tl (.two (.two (.two (.reg [] 11) (.reg [] 14)) .leaf) .leaf))) .leaf)) .leaf))))))
def MT(lp:Lp)(c:Ca)(a0 a1 a2:D):Option D:=(c 441 [a2]).bind λr1=>qT r1 λt=>if t then(some (Jn (-1))) else(qG a0 [0] λw=>(c 31 [w]).bind λu=>(c 442 [a2,u]).bind λv=>(c 19 [a1]).bind λj=>(qZ lp (λa=>qL j (gx a 1) λb=>if b then(qG a0 [1] λk=>qX j (gx a 1) λl=>(D.fld l 0).bind λm=>(c 373 [k,m]).bind λd=>(c 340 [d,v]).bind λe=>qG a0 [1] λn=>(c 374 [n]).bind λf=>qX j (gx a 1) λo=>(D.fld o 1).bind λp=>qB .mul f p λq=>(c 75 [q]).bind λg=>(c 324 [g,e]).bind λh=>(D.min2 (gx a 0) h).bind λr=>qB .add (gx a 1) (Jn 1) λs=>iL [r,s]) else(iR (0,[(gx a 0)]))) [(Jn 1),(Jn 0)]).bind λi=>some (gx i.2 0))
def YA:ag 424 (m3 (MT lp)):=nS 0 Tryz.f20 Wm a
def Wn:Ann:=let a:LO:=[(4100,.keep cS 4),(4101,.keep K3 5),(4102,.keep cS 6),(4103,.keep K3 7),(4104,.keep cC 8),(36879,.keep cC 15),(53265,.one cC (.dv cC))];let b:LO:=[(4100,.keep cS 4),(4101,.keep K3 5),(4102,.keep cS 6),(4103,.keep K3 7),(4104,.keep cC 8),(36879,.one cC (.dv cC))];(.tl (.two (.reg [] 8) (.two (.reg [] 6) (.tl (.two (.tl (.two (.loop ⟨[(4,.sp cS 4100),(5,.sp K3 4101),(6,.sp cS 4102),(7,.sp K3 4103),(8,.sp cC 4104),(12,.ow cC),(37,.ow Ti),(39,.di)],[(4100,.keep cS 4),(4101,.keep K3 5),(4102,.keep cS 6),(4103,.keep K3 7),(4104,.one cC (.dv cC))],[38]⟩ [(.ret,⟨[(8,.sp cC 4104),(9,.dv Ty.bool)],[(4104,.one cC (.dv cC))],[]⟩),(.exit 0,⟨[(8,.sp cC 4104)],[(4104,.one cC (.dv cC))],[]⟩)] (.tl (.tl (.two (.two (.tl (.tl (.two (.tl (.two (.loop ⟨[(4,.sp cS 4100),(5,.sp K3 4101),(6,.sp cS 4102),(7,.sp K3 4103),(8,.sp cC 4104),(12,.ow cC),(15,.sp cC 36879),(37,.ow Ti),(45,.dv Bm),(47,.di)],b,[14,38,39,46]⟩ [(.exit 2,⟨[(4,.sp cS 4100),(5,.sp K3 4101),(6,.sp cS 4102),(7,.sp K3 4103),(8,.sp cC 4104),(12,.ow cC),(15,.sp cC 36879),(37,.ow Ti)],b,[38,39]⟩)] (.tl (.tl (.two (.two (.tl (.two (.tl (.two (.loop ⟨[(4,.sp cS 4100),(5,.sp K3 4101),(6,.sp cS 4102),(7,.sp K3 4103),(8,.sp cC 4104),(12,.ow cC),(15,.sp cC 36879),(17,.sp cC 53265),(37,.ow Ti),(51,.di)],a,[14,38,39,45,46,47]⟩ [(.exit 4,⟨[(4,.sp cS 4100),(5,.sp K3 4101),(6,.sp cS 4102),(7,.sp K3 4103),(8,.sp cC 4104),(12,.ow cC),(15,.sp cC 36879),(17,.sp cC 53265),(37,.ow Ti)],a,[14,38,39,45,46,47]⟩)] .leaf) .leaf)) .leaf)) .leaf) .leaf)))) .leaf)) (.two (.reg [] 6) .leaf)))) .leaf) .leaf)))) .leaf)) .leaf)))))
def MU(lp:Lp)(c:Ca)(a0 a1:D)(a2 a3:D):Option D:=(c 433 [a0,a1]).bind λr1=>(c 433 [a2,a3]).bind λC=>(c 443 [r1,C]).bind λF=>qS F λn=>(c 443 [C,r1]).bind λG=>qS G λo=>if n.length+o.length<=1073741824 then(qC .lss (Jn (List.length (n++o))) (Jn 4) λE=>if E then(some (D.tup [(D.st [(D.st [(D.st [(D.bool false),(D.bool false),(aw bc)]),(D.st [(D.bool false),(D.bool false),(aw bc)])]),(D.st [(D.st [(D.bool false),(D.bool false),(aw bc)]),(D.st [(D.bool false),(D.bool false),(aw bc)])]),(D.st [(D.st [(D.bool false),(D.bool false),(aw bc)]),(D.st [(D.bool false),(D.bool false),(aw bc)])])]),(D.bool false)])) else((qZ lp (λv9=>qC .lss (gx v9 2) (Jn 4) λh=>if h then((D.idx (gx v9 2) (List.length (qV v9 1))).bind λuY=>((qV v9 1)[uY]?).bind λu=>(c 135 [(D.st [(Jn 0),(Jn 0),(Jn 0)])]).bind λp=>(qZ lp (λa=>qC .lss (gx a 3) (Jn (List.length (qV v9 0))) λi=>if i then(qX (gx a 2) (gx a 3) λv=>(qZ lp (λv21=>qC .lss (gx v21 2) (Jn 3) λj=>if j then(qJ (gx v21 2) 3 (gx v21 3) λw=>(c 444 [w,u]).bind λg=>(D.tupAt g 0).bind λx=>(D.tupAt g 1).bind λH=>(D.idx (gx v21 2) 3).bind λi29=>(D.set (gx v21 3) [i29] x).bind λy=>qB .add (gx v21 2) (Jn 1) λz=>iL [(qW v21 0),(qW v21 1),z,y]) else(iR (0,[(qW v21 0),(qW v21 1),(gx v21 3)]))) [(qW a 0),(qW a 1),(Jn 0),v]).bind λd=>(c 371 [(gx a 4),(gx d.2 2)]).bind λq=>qB .add (gx a 3) (Jn 1) λA=>iL [(qW d.2 0),(qW d.2 1),(gx a 2),A,q]) else(iR (0,[(qW a 0),(qW a 1),(gx a 4)]))) [(qW v9 0),(qW v9 1),(qW v9 0),(Jn 0),p]).bind λb=>(c 333 [(Jn 1),(Jn (List.length (qV b.2 0)))]).bind λr=>(c 445 [r,(gx b.2 2)]).bind λe=>(c 423 [a0,a1,e]).bind λs=>qT (D.bool (D.beq s (Jn 1))) λk=>(if k then((c 423 [a2,a3,e]).bind λt=>D.truth (D.bool (D.beq t (Jn 1)))) else(some false)).bind λl=>qT (D.bool l) λm=>if m then(iR (0,[(D.bool true),e])) else(qB .add (gx v9 2) (Jn 1) λB=>iL [(qW b.2 0),(qW b.2 1),B,(gx v9 3)])) else(iR (1,[(gx v9 3)]))) [(D.sl (n++o)),(D.sl [(Jn 20),(Jn 60),(Jn 120),(Jn 240)]),(Jn 0),(D.st [(D.st [(D.st [(D.bool false),(D.bool false),(aw bc)]),(D.st [(D.bool false),(D.bool false),(aw bc)])]),(D.st [(D.st [(D.bool false),(D.bool false),(aw bc)]),(D.st [(D.bool false),(D.bool false),(aw bc)])]),(D.st [(D.st [(D.bool false),(D.bool false),(aw bc)]),(D.st [(D.bool false),(D.bool false),(aw bc)])])])]).bind λf=>if f.1=0 then(some (D.tup [(gx f.2 1),(gx f.2 0)])) else(some (D.tup [(D.st [(D.st [(D.st [(D.bool false),(D.bool false),(aw bc)]),(D.st [(D.bool false),(D.bool false),(aw bc)])]),(D.st [(D.st [(D.bool false),(D.bool false),(aw bc)]),(D.st [(D.bool false),(D.bool false),(aw bc)])]),(D.st [(D.st [(D.bool false),(D.bool false),(aw bc)]),(D.st [(D.bool false),(D.bool false),(aw bc)])])]),(D.bool false)])))) else none
def YB:ag 425 (m4 (MU lp)):=FB 0 Tryz.f21 Wn a
def Wo:Ann:=(.tl (.tl (.tl (.tl (.two (.two (.loop ⟨[(4,.di)],[],[3]⟩ [(.exit 0,⟨[(4,.di)],[],[]⟩)] .leaf) .leaf) .leaf)))))
def MW(lp:Lp)(c:Ca)(a0:D):Option D:=(c 76 [a0]).bind λr1=>qN r1 λj=>if j then(some (Jn 0)) else((c 77 [a0]).bind λi=>qS i λl=>qB .mul (Jn 16) (Jn (l.length)) λm=>(qZ lp (λa=>qC .gtr (gx a 0) (Jn 0) λk=>(if k then(qB .sub (gx a 0) (Jn 1) λg=>(c 446 [i,g]).bind λe=>D.truth (D.bool (D.beq e (Jn 0)))) else(some false)).bind λb=>qT (D.bool b) λd=>if d then(qB .sub (gx a 0) (Jn 1) λh=>iL [h]) else(iR (0,[(gx a 0)]))) [m]).bind λf=>some (gx f.2 0))
def YC:ag 426 (m1 (MW lp)):=bA 0 Tryz.f22 Wo a
def Wp:Ann:=(.tl (.two (.tl (.two (.loop ⟨[(1,.sp cS 4097),(3,.di)],[(4097,.keep cS 1)],[]⟩ [(.ret,⟨[(2,.dv Ty.bool)],[],[]⟩),(.exit 0,⟨[(1,.sp cS 4097)],[(4097,.keep cS 1)],[]⟩)] .leaf) .leaf)) .leaf))
def MX(lp:Lp)(c:Ca)(a0:D):Option D:=(qZ lp (λv1=>qC .lss (gx v1 0) (Jn 3) λi=>if i then((D.idx (gx v1 0) 3).bind λi4=>qG a0 [0,i4] λk=>qC .geq k (Jn 140737488355328) λj=>(if j then(some true) else((D.idx (gx v1 0) 3).bind λi8=>qG a0 [0,i8] λl=>qB .leq l (Jn (-140737488355328)) λf=>D.truth f)).bind λb=>qT (D.bool b) λd=>if d then(iR (0,[(D.bool false)])) else(qB .add (gx v1 0) (Jn 1) λg=>iL [g])) else(iR (1,[]))) [(Jn 0)]).bind λa=>if a.1=0 then(some (gx a.2 0)) else(qG a0 [1] λh=>(c 331 [h]).bind λe=>some e)
def YD:ag 427 (m1 (MX lp)):=bA 0 Tryz.f25 Wp a
def Wq:Ann:=(.tl (.tl (.two (.tl (.two (.loop ⟨[(2,.sp K1 4098),(3,.sp K1 4099),(4,.sp K3 4100),(5,.ow K1),(6,.di)],[(4098,.keep K1 2),(4099,.keep K1 3),(4100,.one K3 (.st [K2] [.ow K1]))],[]⟩ [(.exit 0,⟨[(4,.sp K3 4100),(5,.ow K1)],[(4100,.one K3 (.st [K2] [.ow K1]))],[]⟩)] .leaf) .leaf)) .leaf)))
def Sg(lp:Lp)(c:Ca)(a0 a1:D):Option D:=(qZ lp (λv1=>qC .lss (gx v1 1) (Jn 8) λo=>if o then(qG a0 [0] λp=>qB .quo (gx v1 1) (Jn 4) λq=>qG a1 [0] λr=>qB .mul q r λs=>qB .add p s λn=>qG a0 [1] λt=>qB .quo (gx v1 1) (Jn 2) λe=>qB .rem e (Jn 2) λf=>qG a1 [1] λg=>qB .mul f g λh=>qB .add t h λa=>qG a0 [2] λi=>qB .rem (gx v1 1) (Jn 2) λj=>qG a1 [2] λk=>qB .mul j k λl=>qB .add i l λb=>if List.length (qV v1 0)+List.length [(D.st [n,a,b])]<=1073741824 then(qB .add (gx v1 1) (Jn 1) λm=>iL [(D.sl ((qV v1 0)++[(D.st [n,a,b])])),m,(qW v1 2)]) else none) else(iR (0,[(qW v1 0),(qW v1 2)]))) [(D.sl []),(Jn 0),(D.sl [])]).bind λd=>some (D.st [(qW d.2 0)])
def YE:ag 429 (m2 (Sg lp)):=aN 0 Tryz.f30 Wq a
def Si(lp:Lp)(c:Ca)(a0 a1 a2:D):Option D:=some (D.st [(D.st [a0,a1,a2]),(D.st [(Jn 1),(Jn 0),(Jn 0),(Jn 0)])])
def YF:ag 430 (m3 (Si lp)):=nS 0 Tryz.f31 .leaf a
def Wr:Ann:=(.tl (.tl (.two (.tl (.two (.loop ⟨[(2,.sp K3 4098),(5,.di)],[(4098,.keep K3 2)],[]⟩ [(.ret,⟨[(4,.dv Ty.bool)],[],[]⟩),(.exit 0,⟨[(2,.sp K3 4098)],[(4098,.keep K3 2)],[]⟩)] (.tl (.two (.two (.tl (.two (.loop ⟨[(2,.sp K3 4098),(6,.di)],[(4098,.keep K3 2)],[5]⟩ [(.ret,⟨[(4,.dv Ty.bool)],[],[]⟩),(.exit 2,⟨[(2,.sp K3 4098)],[(4098,.keep K3 2)],[5]⟩)] .leaf) .leaf)) .leaf) .leaf))) .leaf)) .leaf)))
def MY(lp:Lp)(c:Ca)(a0 a1:D):Option D:=qP a0 [0] λr=>qC .gtr (Jn (r.length)) a1 λp=>if p then(some (D.bool false)) else((qZ lp (λv5=>qM a0 [0] (gx v5 0) λq=>if q then((qZ lp (λv10=>qC .lss (gx v10 0) (Jn 3) λd=>if d then(qY a0 [0] (gx v5 0) λi=>(D.idx (gx v10 0) 3).bind λi17=>(D.fld i i17).bind λj=>qC .gtr j (Jn 4096) λe=>(if e then(some true) else(qY a0 [0] (gx v5 0) λk=>(D.idx (gx v10 0) 3).bind λi25=>(D.fld k i25).bind λl=>qB .lss l (Jn (-4096)) λm=>D.truth m)).bind λf=>qT (D.bool f) λg=>if g then(iR (0,[(D.bool false)])) else(qB .add (gx v10 0) (Jn 1) λn=>iL [n])) else(iR (1,[]))) [(Jn 0)]).bind λa=>if a.1=0 then(iR (0,[(gx a.2 0)])) else(qB .add (gx v5 0) (Jn 1) λo=>iL [o])) else(iR (1,[]))) [(Jn 0)]).bind λb=>if b.1=0 then(some (gx b.2 0)) else((c 15 [a0]).bind λh=>some (D.bool (D.beq h (Jn 0)))))
def YG:ag 431 (m2 (MY lp)):=aN 0 Tryz.f32 Wr a
def Ws:Ann:=(.tl (.two (.reg [] 4) .leaf))
def Sj(lp:Lp)(c:Ca)(a0 a1:D):Option D:=(c 75 [a1]).bind λr1=>some (D.st [a0,r1])
def YH:ag 432 (m2 (Sj lp)):=aN 0 Tryz.f33 Ws a
def Wt:Ann:=let a:LO:=[(4098,.keep cS 2),(4100,.one bZ (.st [cS,K3,Ti,K2] [.dv cS,.st [K2] [.ow K1],.di,.ow K1])),(8197,.one bZ (.st [cS,K3,Ti,K2] [.dv cS,.dv K3,.di,.ow K1])),(28680,.one K1 (.dv K1))];(.tl (.two (.reg [] 7) (.two (.tl (.two (.loop ⟨[(2,.sp cS 4098),(4,.sp bZ 4100),(5,.sp bZ 8197),(19,.di)],[(4098,.keep cS 2),(4100,.one bZ (.st [cS,K3,Ti,K2] [.dv cS,.st [K2] [.ow K1],.di,.ow K1])),(8197,.one bZ (.st [cS,K3,Ti,K2] [.dv cS,.dv K3,.di,.ow K1]))],[17,18]⟩ [(.exit 0,⟨[(4,.sp bZ 4100),(5,.sp bZ 8197)],[(4100,.one bZ (.st [cS,K3,Ti,K2] [.dv cS,.st [K2] [.ow K1],.di,.ow K1])),(8197,.one bZ (.st [cS,K3,Ti,K2] [.dv cS,.dv K3,.di,.ow K1]))],[]⟩)] (.tl (.tl (.two (.two (.tl (.tl (.two (.tl (.two (.loop ⟨[(2,.sp cS 4098),(4,.sp bZ 4100),(5,.sp bZ 8197),(8,.sp K1 28680),(27,.di)],a,[17,18,19]⟩ [(.exit 2,⟨[(2,.sp cS 4098),(4,.sp bZ 4100),(5,.sp bZ 8197),(8,.sp K1 28680)],a,[17,18,19]⟩)] (.tl (.tl (.two (.two (.tl (.reg [] 12)) .leaf) .leaf)))) .leaf)) .leaf))) .leaf) .leaf)))) .leaf)) .leaf)))
def MZ(lp:Lp)(c:Ca)(a0 a1:D):Option D:=qG a0 [1] λt=>(c 385 [t]).bind λs=>qG a1 [0] λp=>qS p λr=>(qZ lp (λv5=>qC .lss (gx v5 0) (Jn (r.length)) λq=>if q then(qX p (gx v5 0) λg=>qG a0 [1] λh=>(c 386 [h,g]).bind λf=>(qZ lp (λa=>qC .lss (gx a 0) (Jn 3) λe=>if e then(qJ (gx a 0) 3 (gx a 9) λi=>(D.idx (gx a 0) 3).bind λi18=>qG a0 [0,i18] λj=>qB .mul (gx a 7) j λk=>qB .add i k λl=>(D.idx (gx a 0) 3).bind λi22=>(D.set (gx a 9) [i22] l).bind λm=>qB .add (gx a 0) (Jn 1) λn=>iL [n,(gx a 1),(qW a 2),(gx a 3),(qW a 4),(gx a 5),(gx a 6),(gx a 7),(qW a 8),m]) else(iR (0,[(gx a 1),(qW a 2),(gx a 3),(qW a 4),(gx a 5),(gx a 6),(gx a 7),(qW a 8),(gx a 9)]))) [(Jn 0),(gx v5 1),(qW v5 2),(gx v5 3),(qW v5 4),(gx v5 5),(gx v5 6),(gx v5 7),(qW v5 8),f]).bind λb=>if List.length (qV b.2 7)+List.length [(gx b.2 8)]<=1073741824 then(qB .add (gx v5 0) (Jn 1) λo=>iL [o,(gx b.2 0),(qW b.2 1),(gx b.2 2),(qW b.2 3),(gx b.2 4),(gx b.2 5),(gx b.2 6),(D.sl ((qV b.2 7)++[(gx b.2 8)]))]) else none) else(iR (0,[(gx v5 1),(qW v5 2),(gx v5 3),(qW v5 4),(gx v5 5),(gx v5 6),(gx v5 7),(qW v5 8)]))) [(Jn 0),(D.st [(D.st [(Jn 0),(Jn 0),(Jn 0)]),(D.st [(Jn 0),(Jn 0),(Jn 0),(Jn 0)])]),(D.sl []),(Jn 0),(D.sl []),a0,a1,s,(D.sl [])]).bind λd=>some (D.st [(gx d.2 4),(gx d.2 5),(gx d.2 6),(qW d.2 7)])
def YI:ag 433 (m2 (MZ lp)):=aN 0 Tryz.f37 Wt a
def Wu:Ann:=(.tl (.two (.reg [] 9) .leaf))
def M4(lp:Lp)(c:Ca)(a0 a1 a2:D):Option D:=(c 97 [a0]).bind λr1=>(c 435 [a2,r1]).bind λa=>(c 435 [a1,a0]).bind λb=>(c 173 [a,b]).bind λd=>(c 357 [d]).bind λe=>some e
def YJ:ag 434 (m3 (M4 lp)):=nS 0 Tryz.f39 Wu a
def Wv:Ann:=let a:LO:=[(4098,.keep bZ 2),(4099,.keep K1 3),(4100,.keep cq 4),(8197,.one be (.dv be))];(.tl (.two (.reg [] 7) (.two (.tl (.two (.loop ⟨[(2,.sp bZ 4098),(3,.sp K1 4099),(4,.sp cq 4100),(5,.sp be 8197),(19,.di)],a,[17,18]⟩ [(.exit 0,⟨[(2,.sp bZ 4098),(4,.sp cq 4100),(5,.sp be 8197)],[(4098,.keep bZ 2),(4100,.keep cq 4),(8197,.one be (.dv be))],[]⟩)] (.tl (.tl (.cut [(.normal,⟨[(2,.sp bZ 4098),(3,.sp K1 4099),(4,.sp cq 4100),(5,.sp be 8197)],a,[17,18,19]⟩)] [17,18,19] [4098,4099,4100] .leaf .leaf)))) .leaf)) (.two (.reg [] 5) .leaf))))
def M5(lp:Lp)(c:Ca)(a0 a1:D):Option D:=qY a0 [3] (Jn 0) λp=>(c 91 [a1,p]).bind λo=>qP a0 [3] λm=>(D.cut m 1 (m.length)).bind λn=>(qZ lp (λv9=>qC .lss (gx v9 0) (Jn (n.length)) λb=>if b then((qI (gx v9 0) n λj=>(c 91 [a1,j]).bind λa=>(c 90 [a,(gx v9 1)]).bind λe=>qC .gtr e (Jn 0) λd=>if d then(some (0,[a])) else(some (0,[(gx v9 1)]))).bind λ(f:Nat×List D)=>qB .add (gx v9 0) (Jn 1) λk=>iL [k,(gx f.2 0)]) else(iR (0,[(gx v9 1)]))) [(Jn 0),o]).bind λg=>qG a0 [2] λl=>(c 54 [l]).bind λh=>(c 62 [(gx g.2 0),h]).bind λi=>some i
def YK:ag 435 (m2 (M5 lp)):=aN 0 Tryz.f48 Wv a
def Ww:Ann:=let a:LO:=[(4099,.keep K1 3),(4100,.keep cS 4),(4102,.keep cq 6),(12296,.one be (.dv be))];(.tl (.tl (.two (.reg [] 6) (.two (.tl (.two (.loop ⟨[(3,.sp K1 4099),(4,.sp cS 4100),(6,.sp cq 4102),(8,.sp be 12296),(9,.di)],a,[7]⟩ [(.exit 0,⟨[(4,.sp cS 4100),(6,.sp cq 4102),(8,.sp be 12296)],[(4100,.keep cS 4),(4102,.keep cq 6),(12296,.one be (.dv be))],[]⟩)] (.tl (.cut [(.normal,⟨[(3,.sp K1 4099),(4,.sp cS 4100),(6,.sp cq 4102),(8,.sp be 12296)],a,[7,9]⟩)] [7,9] [4099,4100,4102] (.two (.two (.reg [] 7) .leaf) .leaf) .leaf))) .leaf)) (.two (.reg [] 6) .leaf)))))
def M6(lp:Lp)(c:Ca)(a0 a1 a2:D):Option D:=(c 452 [a1,a2]).bind λr1=>qX r1 (Jn 0) λo=>(c 33 [a0,o]).bind λn=>(qZ lp (λv6=>qL r1 (gx v6 0) λm=>if m then((qX r1 (gx v6 0) λj=>(c 33 [a0,j]).bind λa=>(c 32 [a,(gx v6 1)]).bind λd=>qC .gtr d (Jn 0) λb=>if b then(some (0,[a])) else(some (0,[(gx v6 1)]))).bind λ(e:Nat×List D)=>qB .add (gx v6 0) (Jn 1) λk=>iL [k,(gx e.2 0)]) else(iR (0,[(gx v6 1)]))) [(Jn 1),n]).bind λf=>qG a1 [1] λl=>(c 374 [l]).bind λg=>(c 34 [g]).bind λh=>(c 37 [(gx f.2 0),h]).bind λi=>some i
def YL:ag 437 (m3 (M6 lp)):=nS 0 Tryz.f51 Ww a
def M7(lp:Lp)(c:Ca)(a0:D):Option D:=(c 112 [(D.st [(Jn 0),(Jn 0),(Jn 0)]),a0]).bind λr1=>some r1
def YM:ag 438 (m1 (M7 lp)):=bA 0 Tryz.f53 .leaf a
def Wx:Ann:=(.tl (.two (.tl (.two (.loop ⟨[(2,.sp cC 4098),(3,.sp cC 4099),(4,.sp cC 4100),(6,.di)],[(4098,.one cC (.dv cC)),(4099,.keep cC 3),(4100,.keep cC 4)],[]⟩ [(.exit 0,⟨[(2,.sp cC 4098),(4,.sp cC 4100)],[(4098,.one cC (.dv cC)),(4100,.keep cC 4)],[]⟩)] (.tl (.tl (.two (.two (.tl (.reg [] 9)) .leaf) .leaf)))) .leaf)) .leaf))
def M8(lp:Lp)(c:Ca)(a0 a1:D):Option D:=(qZ lp (λv1=>qC .lss (gx v1 0) (Jn 3) λe=>if e then(qJ (gx v1 0) 3 (gx v1 1) λg=>qJ (gx v1 0) 3 a1 λh=>(c 336 [g,h]).bind λf=>(D.idx (gx v1 0) 3).bind λi9=>(D.set (gx v1 1) [i9] f).bind λb=>qB .add (gx v1 0) (Jn 1) λd=>iL [d,b]) else(iR (0,[(gx v1 1)]))) [(Jn 0),a0]).bind λa=>some (gx a.2 0)
def YN:ag 440 (m2 (M8 lp)):=aN 0 Tryz.f61 Wx a
def M9(lp:Lp)(c:Ca)(a0:D):Option D:=qG a0 [0,0,0] λf=>qT f λa=>(if a then(some true) else(qG a0 [1,0,0] λg=>D.truth g)).bind λb=>qT (D.bool b) λd=>(if d then(some true) else(qG a0 [2,0,0] λh=>D.truth h)).bind λe=>some (D.bool e)
def YO:ag 441 (m1 (M9 lp)):=bA 0 Tryz.f67 .leaf a
def Wy:Ann:=(.tl (.two (.reg [] 16) .leaf))
def Nc(lp:Lp)(c:Ca)(a0 a1:D):Option D:=qG a0 [0] λe=>qG a1 [0] λf=>(c 39 [e,f]).bind λa=>qG a0 [1] λg=>qG a1 [1] λh=>(c 39 [g,h]).bind λb=>qG a0 [2] λi=>qG a1 [2] λj=>(c 39 [i,j]).bind λd=>some (D.st [a,b,d])
def YP:ag 442 (m2 (Nc lp)):=aN 0 Tryz.f68 Wy a
end
end Sy
end
set_option maxHeartbeats 0
noncomputable section
namespace Sy
open Go Go.Proofs
section
variable{lp}(a:au lp)
def Wz:Ann:=let a:LO:=[(4098,.keep bZ 2),(4099,.keep bZ 3),(8197,.one Bm (.ow cC))];let b:LS:=[(2,.sp bZ 4098),(3,.sp bZ 4099),(5,.sp Bm 8197),(6,.same (.clo 137 [(.ptr bZ 4098 []),(.ptr bZ 4099 []),(.ptr Bm 8197 [])]))];let c:LO:=[(4098,.keep bZ 2),(4099,.keep bZ 3),(8197,.one Bm (.ow cC)),(45067,.keep cC 11),(49164,.keep cC 12)];(.tl (.tl (.tl (.two (.tl (.two (.loop ⟨[(2,.sp bZ 4098),(3,.sp bZ 4099),(5,.sp Bm 8197),(6,.same (.clo 137 [(.ptr bZ 4098 []),(.ptr bZ 4099 []),(.ptr Bm 8197 [])])),(23,.di)],a,[22]⟩ [(.exit 0,⟨b,a,[]⟩)] (.tl (.tl (.two (.two (.tl (.regI [] 5 .leaf)) .leaf) .leaf)))) .leaf)) (.tl (.two (.tl (.two (.loop ⟨[(2,.sp bZ 4098),(3,.sp bZ 4099),(5,.sp Bm 8197),(6,.same (.clo 137 [(.ptr bZ 4098 []),(.ptr bZ 4099 []),(.ptr Bm 8197 [])])),(39,.di)],a,[8,37,38]⟩ [(.exit 2,⟨[(5,.sp Bm 8197)],[(8197,.one Bm (.ow cC))],[]⟩)] (.tl (.tl (.two (.two (.tl (.tl (.two (.reg [] 7) (.tl (.two (.loop ⟨[(2,.sp bZ 4098),(3,.sp bZ 4099),(5,.sp Bm 8197),(6,.same (.clo 137 [(.ptr bZ 4098 []),(.ptr bZ 4099 []),(.ptr Bm 8197 [])])),(11,.sp cC 45067),(12,.sp cC 49164),(55,.di)],c,[8,37,38,39,53,54]⟩ [(.exit 4,⟨b,a,[8,37,38,39]⟩)] (.tl (.tl (.cut [(.normal,⟨[(2,.sp bZ 4098),(3,.sp bZ 4099),(5,.sp Bm 8197),(6,.same (.clo 137 [(.ptr bZ 4098 []),(.ptr bZ 4099 []),(.ptr Bm 8197 [])])),(11,.sp cC 45067),(12,.sp cC 49164)],c,[8,37,38,39,53,54,55]⟩)] [8,37,38,39,53,54,55] [4098,4099,45067,49164] (.two (.tl (.tl (.tl (.tl (.two (.reg [] 16) (.tl (.tl (.two (.regI [] 6 .leaf) .leaf)))))))) .leaf) .leaf)))) .leaf))))) .leaf) .leaf)))) .leaf)) .leaf))))))
def Nd(lp:Lp)(c:Ca)(a0 a1:D):Option D:=(qP a0 [3] λl2=>(qZ lp (λv3=>qC .lss (gx v3 0) (Jn (l2.length)) λb5=>if b5 then((c 454 [a0,(gx v3 0)]).bind λm=>qG a0 [0] λx7=>qG a0 [1] λx8=>(c 423 [x7,x8,m]).bind λr9=>qC .geq r9 (Jn 0) λn=>(if n then(qG a1 [0] λU=>qG a1 [1] λV=>(c 423 [U,V,m]).bind λB=>qB .geq B (Jn 0) λW=>D.truth W) else(some false)).bind λo=>qT (D.bool o) λp=>if p then(if List.length (qV v3 1)+List.length [m]<=1073741824 then(qB .add (gx v3 0) (Jn 1) λX=>iL [X,(D.sl ((qV v3 1)++[m]))]) else none) else(qB .add (gx v3 0) (Jn 1) λY=>iL [Y,(qW v3 1)])) else(iR (0,[(qW v3 1)]))) [(Jn 0),(D.sl [])]).bind λC=>qG a1 [1] λZ=>(c 18 [Z]).bind λf=>qG a0 [1] λad=>(c 21 [ad]).bind λg=>qS g λz=>(qZ lp (λv26=>qC .lss (gx v26 0) (Jn (z.length)) λq=>if q then(qX g (gx v26 0) λk=>qG k [0] λai=>(c 454 [a0,ai]).bind λd=>qG k [1] λaj=>(c 454 [a0,aj]).bind λE=>(c 440 [E,d]).bind λh=>qS f λA=>(qZ lp (λa=>qC .lss (gx a 0) (Jn (A.length)) λr=>if r then((qX f (gx a 0) λl=>qG a1 [0,1] λak=>qG l [0] λal=>(c 386 [ak,al]).bind λi=>(c 72 [i,h]).bind λj=>(c 342 [j]).bind λF=>qT (D.bool (D.beq F (Jn 0))) λs=>if s then(some (0,[(qW a 1)])) else(qG a1 [2] λan=>qG l [1] λax=>qB .mul an ax λaB=>(c 74 [aB]).bind λG=>qG a1 [0,0] λaI=>(c 135 [aI]).bind λH=>(c 440 [d,H]).bind λI=>(c 72 [i,I]).bind λJ=>(c 336 [G,J]).bind λK=>(c 352 [K,j]).bind λe=>(c 342 [e]).bind λL=>qC .gtr L (Jn 0) λt=>(if t then((c 74 [(Jn 1)]).bind λM=>(c 73 [e,M]).bind λN=>qB .lss N (Jn 0) λa2=>D.truth a2) else(some false)).bind λu=>qT (D.bool u) λv=>if v then((c 445 [e,h]).bind λO=>(c 371 [d,O]).bind λb=>qG a0 [0] λa3=>qG a0 [1] λa4=>(c 423 [a3,a4,b]).bind λP=>qC .geq P (Jn 0) λw=>(if w then(qG a1 [0] λa5=>qG a1 [1] λa6=>(c 423 [a5,a6,b]).bind λQ=>qB .geq Q (Jn 0) λa9=>D.truth a9) else(some false)).bind λx=>qT (D.bool x) λy=>if y then(if List.length (qV a 1)+List.length [b]<=1073741824 then(some (0,[(D.sl ((qV a 1)++[b]))])) else none) else(some (0,[(qW a 1)]))) else(some (0,[(qW a 1)])))).bind λ(R:Nat×List D)=>qB .add (gx a 0) (Jn 1) λbi=>iL [bi,(qW R.2 0)]) else(iR (0,[(qW a 1)]))) [(Jn 0),(qW v26 1)]).bind λS=>qB .add (gx v26 0) (Jn 1) λbj=>iL [bj,(qW S.2 0)]) else(iR (0,[(qW v26 1)]))) [(Jn 0),(qW C.2 0)]).bind λT=>some (qV T.2 0)).bind λl0=>some (D.sl l0)
def YQ:ag 443 (m2 (Nd lp)):=aN 0 Tryz.f73 Wz a
def WA:Ann:=(.tl (.tl (.tl (.two (.reg [] 6) (.two (.reg [] 8) (.tl (.two (.reg [] 2) .leaf)))))))
def Nf(lp:Lp)(c:Ca)(a0 a1:D):Option D:=(c 136 [a0]).bind λr1=>qN r1 λx=>(if x then(some true) else(qB .lss a1 (Jn 0) λC=>D.truth C)).bind λy=>qT (D.bool y) λz=>(if z then(some true) else(qB .gtr a1 (Jn 256) λE=>D.truth E)).bind λA=>qT (D.bool A) λB=>if B then((c 130 []).bind λi=>(c 130 []).bind λj=>some (D.tup [i,j])) else(qG a0 [0] λt=>(c 455 [t,a1]).bind λa=>(c 169 []).bind λk=>(c 455 [k,a1]).bind λb=>qG a0 [1] λu=>(c 132 [a,u]).bind λl=>(c 62 [l,b]).bind λd=>(c 68 [a]).bind λm=>qG a0 [1] λv=>(c 132 [m,v]).bind λn=>(c 68 [n]).bind λo=>(c 62 [o,b]).bind λe=>(c 136 [d]).bind λp=>qN p λf=>(if f then(some true) else((c 136 [e]).bind λq=>(afB .not q).bind λw=>D.truth w)).bind λg=>qT (D.bool g) λh=>if h then((c 130 []).bind λr=>(c 130 []).bind λs=>some (D.tup [r,s])) else(some (D.tup [d,e])))
def YR:ag 444 (m2 (Nf lp)):=aN 0 Tryz.f74 WA a
def WB:Ann:=(.tl (.two (.tl (.two (.loop ⟨[(2,.sp cq 4098),(3,.sp cC 4099),(4,.sp cC 4100),(6,.di)],[(4098,.keep cq 2),(4099,.one cC (.dv cC)),(4100,.keep cC 4)],[]⟩ [(.exit 0,⟨[(3,.sp cC 4099),(4,.sp cC 4100)],[(4099,.one cC (.dv cC)),(4100,.keep cC 4)],[]⟩)] (.tl (.tl (.two (.two (.tl (.reg [] 7)) .leaf) .leaf)))) .leaf)) .leaf))
def Ng(lp:Lp)(c:Ca)(a0 a1:D):Option D:=(qZ lp (λv1=>qC .lss (gx v1 0) (Jn 3) λb=>if b then(qJ (gx v1 0) 3 (gx v1 1) λe=>(c 174 [a0,e]).bind λd=>(D.idx (gx v1 0) 3).bind λi7=>(D.set (gx v1 1) [i7] d).bind λf=>qB .add (gx v1 0) (Jn 1) λg=>iL [g,f]) else(iR (0,[(gx v1 1)]))) [(Jn 0),a1]).bind λa=>some (gx a.2 0)
def YS:ag 445 (m2 (Ng lp)):=aN 0 Tryz.f76 WB a
def Nh(lp:Lp)(c:Ca)(a0 a1:D):Option D:=qB .quo a1 (Jn 16) λb=>(c 141 [a0,b]).bind λa=>qB .rem a1 (Jn 16) λd=>qB .shr a d λe=>qB .rem e (Jn 2) λf=>some f
def YT:ag 446 (m2 (Nh lp)):=aN 0 Tryz.f80 .leaf a
def WC:Ann:=let a:LO:=[(4097,.keep iP 1),(4098,.keep K1 2),(8196,.one be (.dv be))];(.tl (.tl (.two (.tl (.two (.loop ⟨[(1,.sp iP 4097),(2,.sp K1 4098),(4,.sp be 8196),(14,.di)],a,[13]⟩ [(.exit 0,⟨[(1,.sp iP 4097),(2,.sp K1 4098),(4,.sp be 8196)],a,[]⟩)] .leaf) .leaf)) (.tl (.tl (.two (.tl (.two (.loop ⟨[(2,.sp K1 4098),(4,.sp be 8196),(7,.sp K1 28679),(31,.di)],[(4098,.one K1 (.dv K1)),(8196,.keep be 4),(28679,.one K1 (.dv K1))],[30]⟩ [(.ret,⟨[(2,.sp K1 4098),(3,.di)],[(4098,.one K1 (.dv K1))],[]⟩),(.exit 3,⟨[(2,.sp K1 4098),(7,.sp K1 28679)],[(4098,.one K1 (.dv K1)),(28679,.one K1 (.dv K1))],[]⟩)] .leaf) .leaf)) .leaf))))))
def Ni(lp:Lp)(c:Ca)(a0:D):Option D:=(c 54 [(Jn 0)]).bind λr1=>(qZ lp (λv2=>qC .lss (gx v2 0) (Jn 3) λx=>if x then((D.idx (gx v2 0) 3).bind λi5=>(D.fld a0 i5).bind λz=>(c 131 [(gx v2 1),z]).bind λy=>qB .add (gx v2 0) (Jn 1) λA=>iL [A,y]) else(iR (0,[(gx v2 1)]))) [(Jn 0),r1]).bind λp=>qG (gx p.2 0) [0] λq=>qT q λf=>if f then(some (D.tup [(D.st [(Jn 0),(Jn 0),(Jn 0)]),(Jn 30)])) else((c 129 [(gx p.2 0)]).bind λn=>qT (D.bool (D.beq n (Jn 0))) λg=>if g then(some (D.tup [(D.st [(Jn 0),(Jn 0),(Jn 0)]),(Jn 31)])) else((qZ lp (λa=>qC .lss (gx a 0) (Jn 3) λh=>if h then((D.idx (gx a 0) 3).bind λi17=>(D.fld a0 i17).bind λr=>(c 132 [r,(gx p.2 0)]).bind λo=>(c 202 [o]).bind λe=>(D.tupAt e 0).bind λd=>(D.tupAt e 1).bind λs=>qN s λi=>(if i then(some true) else(qB .geq d (Jn 2305843009213693952) λt=>D.truth t)).bind λj=>qT (D.bool j) λk=>(if k then(some true) else(qB .leq d (Jn (-2305843009213693952)) λu=>D.truth u)).bind λl=>qT (D.bool l) λm=>if m then(iR (0,[(Jn 30),(D.st [(Jn 0),(Jn 0),(Jn 0)])])) else((D.idx (gx a 0) 3).bind λi31=>(D.set (gx a 2) [i31] d).bind λv=>qB .add (gx a 0) (Jn 1) λw=>iL [w,(gx a 1),v])) else(iR (1,[(gx a 1),(gx a 2)]))) [(Jn 0),(D.st [(Jn 0),(Jn 0),(Jn 0)]),(D.st [(Jn 0),(Jn 0),(Jn 0)])]).bind λb=>if b.1=0 then(some (D.tup [(gx b.2 1),(gx b.2 0)])) else(some (D.tup [(gx b.2 1),(Jn 0)]))))
def YU:ag 447 (m1 (Ni lp)):=bA 0 Tryz.f101 WC a
def WD:Ann:=(.tl (.two (.reg [] 10) .leaf))
def Nj(lp:Lp)(c:Ca)(a0:D):Option D:=qG a0 [0] λe=>(c 54 [e]).bind λa=>qG a0 [1] λf=>(c 54 [f]).bind λb=>qG a0 [2] λg=>(c 54 [g]).bind λd=>some (D.st [a,b,d])
def YV:ag 448 (m1 (Nj lp)):=bA 0 Tryz.f102 WD a
def WE:Ann:=(.tl (.tl (.two (.tl (.two (.loop ⟨[(1,.sp bZ 4097),(3,.ow K1),(10,.di)],[(4097,.keep bZ 1)],[8,9]⟩ [(.exit 0,⟨[(3,.ow K1)],[],[]⟩)] (.tl (.tl (.two (.two (.tl (.reg [] 21)) .leaf) .leaf)))) .leaf)) .leaf)))
def Nk(lp:Lp)(c:Ca)(a0:D):Option D:=qG a0 [1] λq=>(c 21 [q]).bind λm=>qS m λp=>(qZ lp (λv4=>qC .lss (gx v4 1) (Jn (p.length)) λo=>if o then(qX m (gx v4 1) λn=>qG a0 [0,1] λe=>qG a0 [1,0] λf=>qG n [1] λg=>qX f g λh=>qG a0 [1,0] λi=>qG n [0] λj=>qX i j λk=>(c 103 [h,k]).bind λb=>(c 386 [e,b]).bind λa=>if List.length (qV v4 0)+List.length [a]<=1073741824 then(qB .add (gx v4 1) (Jn 1) λl=>iL [(D.sl ((qV v4 0)++[a])),l]) else none) else(iR (0,[(qW v4 0)]))) [(D.sl []),(Jn 0)]).bind λd=>some (qW d.2 0)
def YW:ag 449 (m1 (Nk lp)):=bA 0 Tryz.f103 WE a
def WF:Ann:=(.tl (.two (.reg [] 5) .leaf))
def Nl(lp:Lp)(c:Ca)(a0 a1:D):Option D:=(c 148 [a0]).bind λr1=>(c 148 [a1]).bind λa=>(c 456 [r1,a]).bind λb=>some b
def YX:ag 450 (m2 (Nl lp)):=aN 0 Tryz.f104 WF a
def WG:Ann:=(.tl (.tl (.tl (.two (.tl (.two (.loop ⟨[(2,.sp cS 4098),(3,.sp K3 4099),(6,.ow K1),(7,.di)],[(4098,.keep cS 2),(4099,.keep K3 3)],[5]⟩ [(.exit 0,⟨[(6,.ow K1)],[],[]⟩)] (.tl (.two (.two (.two (.reg [] 9) .leaf) .leaf) .leaf))) .leaf)) .leaf))))
def Nm(lp:Lp)(c:Ca)(a0 a1:D):Option D:=qG a0 [1] λt=>(c 374 [t]).bind λf=>(qZ lp (λv3=>qM a1 [0] (gx v3 1) λs=>if s then(qG a0 [1] λu=>qY a1 [0] (gx v3 1) λh=>(c 373 [u,h]).bind λa=>qG a [0] λi=>qG a0 [0,0] λj=>qB .mul f j λk=>qB .add i k λb=>qG a [1] λl=>qG a0 [0,1] λm=>qB .mul f m λn=>qB .add l n λd=>qG a [2] λo=>qG a0 [0,2] λp=>qB .mul f p λq=>qB .add o q λe=>if List.length (qV v3 0)+List.length [(D.st [b,d,e])]<=1073741824 then(qB .add (gx v3 1) (Jn 1) λr=>iL [(D.sl ((qV v3 0)++[(D.st [b,d,e])])),r]) else none) else(iR (0,[(qW v3 0)]))) [(D.sl []),(Jn 0)]).bind λg=>some (qW g.2 0)
def YY:ag 452 (m2 (Nm lp)):=aN 0 Tryz.f124 WG a
def WH:Ann:=(.tl (.two (.tl (.two (.loop ⟨[(2,.sp bZ 4098),(4,.sp cC 4100),(12,.di)],[(4098,.keep bZ 2),(4100,.one cC (.dv cC))],[11]⟩ [(.exit 0,⟨[(4,.sp cC 4100)],[(4100,.one cC (.dv cC))],[]⟩)] .leaf) .leaf)) .leaf))
def Nn(lp:Lp)(c:Ca)(a0 a1:D):Option D:=qY a0 [3] a1 λh=>(qZ lp (λv5=>qC .lss (gx v5 0) (Jn 3) λg=>if g then((D.idx (gx v5 0) 3).bind λi8=>(D.fld h i8).bind λi=>qG a0 [2] λd=>(c 333 [i,d]).bind λa=>(D.idx (gx v5 0) 3).bind λuY=>(D.set (gx v5 1) [uY] a).bind λe=>qB .add (gx v5 0) (Jn 1) λf=>iL [f,e]) else(iR (0,[(gx v5 1)]))) [(Jn 0),(D.st [(D.st [(D.st [(D.bool false),(D.bool false),(aw bc)]),(D.st [(D.bool false),(D.bool false),(aw bc)])]),(D.st [(D.st [(D.bool false),(D.bool false),(aw bc)]),(D.st [(D.bool false),(D.bool false),(aw bc)])]),(D.st [(D.st [(D.bool false),(D.bool false),(aw bc)]),(D.st [(D.bool false),(D.bool false),(aw bc)])])])]).bind λb=>some (gx b.2 0)
def YZ:ag 454 (m2 (Nn lp)):=aN 0 Tryz.f138 WH a
def Sa:Ann:=(.tl (.tl (.tl (.tl (.two (.tl (.two (.two (.reg [] 4) .leaf) .leaf)) (.two (.reg [] 5) .leaf))))))
def Y0:ag 455 (GS 0 lp 455 Tryz.f140 Sa):=rp a u3 u3
def WI:Ann:=(.tl (.two (.tl (.two (.loop ⟨[(2,.sp iP 4098),(3,.sp iP 4099),(4,.sp iP 4100),(8,.di)],[(4098,.keep iP 2),(4099,.keep iP 3),(4100,.one iP (.dv iP))],[]⟩ [(.exit 0,⟨[(4,.sp iP 4100)],[(4100,.one iP (.dv iP))],[]⟩)] (.tl (.tl (.two (.two (.tl (.tl (.reg [] 17))) .leaf) .leaf)))) .leaf)) .leaf))
def No(lp:Lp)(c:Ca)(a0 a1:D):Option D:=(qZ lp (λv1=>qC .lss (gx v1 0) (Jn 3) λm=>if m then(qB .add (gx v1 0) (Jn 1) λn=>qB .rem n (Jn 3) λk=>qB .add (gx v1 0) (Jn 2) λo=>qB .rem o (Jn 3) λl=>qJ k 3 a0 λp=>qJ l 3 a1 λf=>(c 61 [p,f]).bind λa=>qJ l 3 a0 λg=>qJ k 3 a1 λh=>(c 61 [g,h]).bind λb=>(c 203 [a,b]).bind λd=>(D.idx (gx v1 0) 3).bind λi19=>(D.set (gx v1 1) [i19] d).bind λi=>qB .add (gx v1 0) (Jn 1) λj=>iL [j,i]) else(iR (0,[(gx v1 1)]))) [(Jn 0),(D.st [(D.st [(D.bool false),(D.bool false),(aw bc)]),(D.st [(D.bool false),(D.bool false),(aw bc)]),(D.st [(D.bool false),(D.bool false),(aw bc)])])]).bind λe=>some (gx e.2 0)
def Y1:ag 456 (m2 (No lp)):=aN 0 Tryz.f162 WI a
def WJ:Ann:=(.tl (.tl (.two (.tl (.two (.two (.reg [] 3) .leaf) .leaf)) .leaf)))
def Sl(lp:Lp)(c:Ca)(a0 a1 a2:D):Option D:=qG a0 [1] λm=>(c 116 [m,a1]).bind λh=>qG a0 [1] λn=>qT n λi=>(if i then(qS a2 λk=>qT (D.bool (D.beq (Jn (k.length)) (Jn 0))) λj=>if j then(some true) else(qG a0 [2] λo=>(c 458 [o]).bind λl=>qX a2 (Jn 0) λf=>qB .lss l f λg=>D.truth g)) else(some false)).bind λa=>qT (D.bool a) λb=>if b then((c 54 [(Jn 1)]).bind λd=>(c 203 [h,d]).bind λe=>some e) else(some h)
def Y2:ag 457 (m3 (Sl lp)):=nS 0 Tryz.f193 WJ a
def WK:Ann:=(.tl (.tl (.two (.two (.loop ⟨[(1,.sp bc 4097),(3,.di)],[(4097,.keep bc 1)],[]⟩ [(.exit 0,⟨[(1,.sp bc 4097),(3,.di)],[(4097,.keep bc 1)],[]⟩)] .leaf) .leaf) .leaf)))
def Sn(lp:Lp)(c:Ca)(a0:D):Option D:=(qZ lp (λv1=>qJ (gx v1 0) 16 a0 λf=>qT (D.bool (D.beq f (D.int .u32 0))) λe=>if e then(qB .add (gx v1 0) (Jn 1) λg=>iL [g]) else(iR (0,[(gx v1 0)]))) [(Jn 0)]).bind λd=>qB .mul (Jn 32) (gx d.2 0) λh=>qJ (gx d.2 0) 16 a0 λi=>(c 459 [i]).bind λa=>qB .add h a λb=>some b
def Y3:ag 458 (m1 (Sn lp)):=bA 0 Tryz.f220 WK a
def Sp(lp:Lp)(c:Ca)(a0:D):Option D:=qT (D.bool (D.beq a0 (D.int .u32 0))) λa=>if a then(some (Jn 32)) else((afB .neg a0).bind λb=>qB .and a0 b λd=>qB .mul d (D.int .u32 125613361) λe=>qB .shr e (D.int .u64 27) λf=>none)
def Y4:ag 459 (m1 (Sp lp)):=bA 0 Tryz.f241 .leaf a
end
end Sy
end
end
noncomputable section
namespace Sy
open Go Go.Proofs Go.Sort Go.Lib
variable{ro:Option Nat}{nn:Nat}
inductive AnnT where
 | hand
 | seq (a:Ann) (b:AnnT)
def QS(E:Env)(K:St->Option D):Code->AnnT->St->Option D
 | .seq c d,.seq a b,s=>ev E c a D s λe s'=>match e with
  | .normal=>QS E K d b s'
  | _=>none
 | _,.hand,s=>K s
 | _,_,_=>none
def ut:Code->AnnT->Code
 | .seq _ d,.seq _ b=>ut d b
 | c,_=>c
def we(fn:Func)(a:List Ty)(args:List D):St:={ tm:=jU a args,ob:=λ_=>none,fresh:=0,dead:=[],nt:=fn.ntmps,lkS:=[],lkO:=[4095] }
def N5(E:Env)(K:St->Option D)(fn:Func)(ann:AnnT)(a:List Ty)(args:List D):Option D:=
 match fn.body with
 | none=>none
 | some c=>QS E K c ann (we fn a args)
section
variable{P:Program}{E:Env}{w0:Root}
def Fm.df0{s:St}{S S':Nat->Nat->Prop}{γ γ':Nat->Option Nat}{a a':Act}{w w':World}(h:Fm s S γ a w S' γ' a' w')(b:4095∈s.lkO)(c:a.defers=[]):a'.defers=[]:=by obtain⟨_,m,e,_,z⟩:=h.dfs;rw[e,z b,c];rfl
def kN.eq{w w':World}{b:Nat}{o:Obj}(h:kN w w' b)(a:w.heap[b]?=some o)(hl:∀ r,o≠.loop r):w'.heap[b]?=some o:=by
 rcases h with h|⟨r,_,h1,_⟩
 ·exact h.trans a
 ·rw[a] at h1;cases h1;exact z4a rfl (hl r)
def QT(m:EnvOk P E){K:St->Option D}{Q:Exit->Act->World->Prop}{y:D}:∀ (c:Code) (ann:AnnT) {S:Nat->Nat->Prop} {γ:Nat->Option Nat} {β:Nat->Option (Nat×Nat)} {s:St} {a:Act} {w:World},
  Rp w0 S γ β s a w->a.defers=[]->4095∈s.lkO->QS E K c ann s=some y->(∀ s' S' γ' β' a' w',Rp w0 S' γ' β' s' a' w'->a'.defers=[]->K s'=some y->(ut c ann).wpIn (FW none) nn P Q a' w')->c.wpIn (FW none) nn P Q a w:=by
 intro c
 induction c with
 | seq c d _ ih=>
  intro ann S γ β s a w h j k f g;cases ann with
  | hand=>exact g s S γ β a w h j (by simpa only[QS] using f)
  | seq a1 b=>
   simp only[QS] at f;refine wpIn_seq (Je m c a1 D _ y h f λe s' S' γ' β' a' w' n1 n2 n l=>?_);cases e with
   | normal=>exact ih b n1 (n2.df0 k j) (by rw[n.lkO];exact k) l g
   | ret=>cases l
   | exit i=>cases l
 | _=>
  intro ann S γ β s a w h j k f g;cases ann with
  | hand=>exact g s S γ β a w h j (by simpa only[QS] using f)
  | seq a1 b=>simp[QS] at f
def eH(s:St)(e:Ty)(x:Nat):Option (List D):=match s.tm x with
 | .own a v l=>if a.beq e&&!(s.dead.contains v)&&decide (l.length<=1073741824) then some l else none
 | .nils=>some []
 | _=>none
def Rq(s:St)(x:Nat)(e:Ty)(l:List D):St:={ tm:=λi=>if i=x then .d (.sl e) (.sl l) else .undef,ob:=λ_=>none,fresh:=s.fresh+1,dead:=[],nt:=s.nt,lkS:=[],lkO:=[4095] }
def HZ{w:World}{S:Nat->Nat->Prop}{l:List D}{a:Option Addr}{n cap:Nat}(h:CR w S (.sl l) (.slice a n cap)):gY w S (.sl l) (.slice a n cap):=by
 refine⟨λcs h=>(by cases h),rfl,λi d c b hc=>?_⟩
 cases i with
 | zero=>simp only[D.flat,z0b,zea,Value.cells] at b hc;subst b;first|(subst hc;exact h)|(simp at hc;subst hc;exact h)
 | succ i=>simp[D.flat] at b
theorem oK{e:Ty}(hc:cn e=true):∀ l:List D,(∀ x∈l,wt e x)->∀ d∈aft l,ue d=true
 | [],_,d,a=>by simp[aft] at a
 | y::l,h,d,a=>by
  simp only[aft,List.mem_append] at a;rcases a with a|a
  ·exact lH e y hc (h y zva) d a
  ·exact oK hc l (λz b=>h z (zoa _ b)) d a
def Rp.new{S S':Nat->Nat->Prop}{γ:Nat->Option Nat}{β:Nat->Option (Nat×Nat)}{s:St}{a a':Act}{w w':World}(h:Rp w0 S γ β s a w)(he:nu w0 w'){x:Nat}{e:Ty}{l:List D}(hn:av e=true)(hx:x<s.nt)(j:∀ y∈l,wt e y)
  (n:gY w' S' (.sl l) (a'.tmps.getD x undef)) (i:a'.tmps.size=s.nt) (k:a'.defers=[]) (f:∀ b o,S' b o->b<w'.heap.size) (g:∀ b o,S' b o->w0.Old b->w0.S0 b o):Rp w0 S' (λ_=>none) (λ_=>none) (Rq s x e l) a' w':=by
 refine⟨he,λt ht=>?_,i,λt ht=>?_,λid o b m=>(by cases m),λid b c=>(by cases c),λid p b c=>(by cases c),λ_ _=>rfl,λv b e _ c=>(by cases c),λv v' b e q _ _ c=>(by cases c),λv id b e _ c=>(by cases c),λ_ _=>rfl,f,g⟩
 ·show AR _ (if t=x then AV.d (.sl e) (.sl l) else .undef) (a'.tmps.getD t undef)
  by_cases htx:t=x
  ·rw[zja htx];subst htx;exact .inl ⟨by simp only[av];exact hn,⟨l,rfl,j⟩,n⟩
  ·rw[zia htx];simp only[AR]
 ·show(if t=x then AV.d (.sl e) (.sl l) else .undef)=_
  rw[zia (λh=>by subst h;exact z4a hx (zMc.2 ht))]
def OR(hE:EnvOk P E){f:Nat}{e:Ty}(hf:SortOk P f e){g:Nat}(hsig:E.sig g=some ([e,e],.int .i64)/\E.free g=0){id x t d2:Nat}{ops:Array Oper}{ty1 ty2:TypeId}{p1 p2:String}{af1 af2:Array Edge}{args:Array Operand}{ats:Array TypeId}
  (hops:ops.toList=[⟨some t,.move (.tmp x),ty1,p1,af1,none⟩,⟨some d2,.call ⟨.value (.func f),args,ats⟩,ty2,p2,af2,none⟩]) (hargs:args=#[.tmp t,.func g]) {Q:Exit->Act->World->Prop}
  {S:Nat->Nat->Prop} {γ:Nat->Option Nat} {β:Nat->Option (Nat×Nat)} {s:St} {a:Act} {w:World} (h:Rp w0 S γ β s a w) (hdf:a.defers=[]) (hxt:x≠t) (hxd:x≠d2) (ht:t<s.nt) {l l':List D} (hv:eH s e x=some l) (hs:kJ E g l=some l')
  (hQ:∀ a' w' S',Rp w0 S' (λ_=>none) (λ_=>none) (Rq s x e l') a' w'->a'.defers=[]->Q .normal a' w'):(Code.region id ops false).wpIn (FW ro) nn P Q a w:=by
 have hx:x<s.nt:=by
  rcases zAa x s.nt with k|k
  ·exact k
  ·unfold eH at hv;rw[h.tmu x k] at hv;cases hv
 have hax:AR ⟨w,S,γ,β,s.ob,s.dead⟩ (s.tm x) (a.tmps.getD x undef):=h.tms x (by rw[h.nt];exact hx)
 obtain⟨ad,cap,val,hwt,hcr,hown⟩:∃ ad cap,a.tmps.getD x undef=.slice ad l.length cap/\(∀ y∈l,wt e y)/\CR w S (.sl l) (.slice ad l.length cap)/\(l≠[]->∃ b off row,ad=some ⟨b,off,none⟩/\cg w b=some row/\¬ w0.Old b/\b<w.heap.size)/\l.length<=1073741824:=by
  unfold eH at hv;split at hv
  ·rename_i e' v l0 htm;split at hv
   ·rename_i hb;simp only[zaa,zWa,zfa] at hb;obtain⟨⟨hb1,hb2⟩,hb3⟩:=hb;cases hv;have:=af7 _ _ hb1;subst this;rw[htm] at hax;simp only[AR,AC] at hax;obtain⟨n0,n1,n2,ad,cap,n3,n4,n5⟩:=hax;have hval:=aA n0 n3;have hdead:v ∉ s.dead:=by simpa using hb2
    refine⟨ad,cap,hval,n2,n4,λhne=>?_,hb3⟩;rcases n5 hdead with⟨q1,q2⟩|⟨b,off,q1,q2,n,q3,q4⟩
    ·exfalso;obtain⟨_,_,b,off,e1,e2,e3,e4⟩:=n4.elems;cases e1;rcases e2 with e2|e2
     ·exact hne e2
     ·rw[q1] at e2;cases e2
    ·obtain⟨k1,k2,_⟩:=h.βn v b _ hdead q2;unfold n8 at q3;cases hr:cg w b with
     | none=>rw[hr] at q3;cases q3
     | some row=>exact⟨b,off,row,q1,hr,k1,k2⟩
   ·cases hv
  ·rename_i htm;cases hv;rw[htm] at hax;simp only[AR,AC] at hax;have hval:=aA hax.1 hax.2;exact⟨none,0,hval,j3,afj (b:=0) (off:=0) (.inl rfl) (zka _) ⟨[],dF.nil,j3⟩,λh=>z4a rfl h,j3⟩
  ·cases hv
 obtain⟨hown,hlen⟩:=hown;have hperm:l'.Perm l:=by
  unfold kJ at hs;split at hs
  ·cases hs;exact iG _ l
  ·cases hs
 have hll:l'.length=l.length:=hperm.length_eq;have hwt':∀ y∈l',wt e y:=λy hy=>hwt y (hperm.subset hy);refine wpIn_region_list ?_;rw[hops];simp only[wpListIn,Region.wanted,if_true];refine(bO (K:=λv w1=>v=a.tmps.getD x undef/\w=w1) (ft.value (v:=a.eval (.tmp x)) (w':=w) rfl ⟨rfl,rfl⟩) ?_);rintro _ _ ⟨rfl,rfl⟩;have hsz:(a.put (some t) (a.tmps.getD x undef)).tmps.size=s.nt:=by simp[Act.put,h.nt]
 have ht1:(a.put (some t) (a.tmps.getD x undef)).eval (.tmp t)=a.tmps.getD x undef:=by
  have:t<a.tmps.size:=by rw[h.nt];exact ht
  simp[Act.eval,Act.put,Array.getD,this]
 have hx1:(a.put (some t) (a.tmps.getD x undef)).tmps.getD x undef=a.tmps.getD x undef:=by exact cH (λe=>hxt (by cases e;rfl))
 have hdf1:(a.put (some t) (a.tmps.getD x undef)).defers=[]:=hdf;generalize (a.put (some t) (a.tmps.getD x undef))=a1 at *;refine(bO (K:=λv w1=>∃ S',nu w0 w1/\gY w1 S' (.sl l') (a.tmps.getD x undef)/\(∀ b o,S' b o->b<w1.heap.size)/\(∀ b o,S' b o->w0.Old b->w0.S0 b o)) ?_ ?_)
 ·obtain⟨fn,f1,f2,f3⟩:=hf.fn;refine ft.enter (f:=f) (args:=#[.slice ad l.length cap,.func (.func g) #[] #[]]) (w':=w) ?_ ?_
  ·have hb:¬ fn.body=none:=by intro hh;rw[hh] at f3;cases f3
   have f2' : ¬ fn.name = "runtime.NumGoroutine" := by simpa using f2
   have e1:a1.eval (.tmp t)=.slice ad l.length cap:=by rw[ht1,val]
   subst hargs;have e2:a1.eval (.func g)=.func (.func g) #[] #[]:=rfl;simp[execOp,resolve,Deferred.ofValue,invoke,callFunc,f1,f2',hb,e1,e2];simp[Act.eval,f1,f2',hb]
  ·by_cases hne:l=[]
   ·subst hne;have e0:l'=[]:=by cases l' with|nil=>rfl|cons y l'=>simp at hll
    subst e0;refine(hf.empty ad cap _ w).mono ?_;rintro en w1 ⟨rfl,rfl⟩;exact⟨_,rfl,S,h.ext,by rw[val];exact HZ hcr,h.Sb,h.So⟩
   ·obtain⟨b,off,row,rfl,hr,hold,hbs⟩:=hown hne;have hcell:∀ (i:Nat) (d:D),(aft l)[i]?=some d->w.cell? ⟨b,off+i,none⟩=some (gI d):=by
     obtain⟨_,_,b',off',e1,e2,e3,cs,e4,e5⟩:=hcr.elems;cases e1;rcases e2 with e2|e2
     ·exact z4a e2 hne
     ·cases e2;have hleaf:=oK hf.cmp l hwt;have:=(gK hleaf).1 e4;subst this;intro i d hd;exact(e5 i (gI d) (by rw[zmb,hd];rfl)).2
    refine(HA hE hf hsig hwt hs hne (b:=b) (off:=off) (cap:=cap) hr hcell j1).mono ?_
    rintro en w1 ⟨rfl,_,q1,q2,q3,q4,q5,q6,q7⟩;refine⟨_,rfl,λb' o=>(S b' o/\b'≠b)\/(b'=b/\off<=o/\o<off+(aft l').length),?_,?_,?_,?_⟩
    ·refine pP h.ext q2 q3 q4 q5 q1 λb' hb'=>q6 b' (λe=>hold (e ▸ hb')) (zZa hb'.1 h.ext.sz)
    ·rw[val];refine HZ ?_;rw[<-hll];refine afj (b:=b) (off:=off) (.inr rfl) (by obtain⟨_,_,_,_,e1,_,e3,_⟩:=hcr.elems;cases e1;rw[hll];exact e3) ⟨(aft l').map gI,?_,λi c hc=>?_⟩
     ·exact(gK (oK hf.cmp l' hwt')).2 rfl
     ·rw[zmb] at hc;cases hd:(aft l')[i]? with
      | none=>rw[hd] at hc;cases hc
      | some d=> rw[hd] at hc;simp only[zMb,zea] at hc;subst hc;exact⟨.inr ⟨rfl,j1,by have:=(zra.1 hd).1;omega⟩,q7 i d hd⟩
    ·rintro b' o (⟨hb',_⟩|⟨rfl,_,_⟩)
     ·exact zZa (h.Sb b' o hb') q5
     ·exact zZa hbs q5
    ·rintro b' o (⟨hb',_⟩|⟨rfl,_,_⟩) ho
     ·exact h.So b' o hb' ho
     ·exact z4a ho hold
 ·rintro v w1 ⟨S',k1,k2,k3,k4⟩;refine hQ _ w1 S' (Rp.new h k1 hf.nt hx hwt' ?_ (by simp[Act.put,hsz]) hdf1 k3 k4) hdf1
  have:(a1.put (some d2) v).tmps.getD x undef=a.tmps.getD x undef:=by rw[<-hx1];exact cH (λe=>hxd (by cases e;rfl))
  rw[this];exact k2
end
end Sy
end
noncomputable section
namespace Sy
open Go Go.Proofs Go.Sort Go.Lib
variable{ro:Option Nat}{nn:Nat}
open Go.ChangeMaps (setBlock)
section
variable{P:Program}{E:Env}{w0:Root}
theorem xy{ops b:Array Oper}{Q:Exit->Act->World->Prop}:∀ (l:List Oper) (a:Act) (w:World),(∀ o∈l,o.guard=none)->wpListIn (FW ro) nn P ops Q l a w->wpListIn (FW ro) nn P b Q l a w
 | [],_,_,_,h=>h
 | o::l,a,w,e,h=>by have d:=e o zva;have c:∀ a w,wpListIn (FW ro) nn P ops Q l a w->wpListIn (FW ro) nn P b Q l a w:=λa w=>xy l a w λo f=>e o (zoa _ f);simp only[wpListIn,Region.wanted,d,if_true] at h ⊢;exact Oper.wpIn_mono c h
def Ok(L:EnvOk P E){Q:Exit->Act->World->Prop}{id:Nat}{ops:Array Oper}{R:Type}{S:Nat->Nat->Prop}{γ:Nat->Option Nat}{β:Nat->Option (Nat×Nat)}{s:St}{a:Act}{w:World}{k:Ex->St->Option R}{r:R}
  (h:Rp w0 S γ β s a w) (C:ev E (.region id ops false) .leaf R s k=some r) (M:Kp Q w0 s S γ a w k r):wpListIn (FW ro) nn P ops Q ops.toList a w:=by
 obtain⟨S1,f1,f2,f3⟩:=s7 (Ann.leaf).fz h;obtain⟨s1,c⟩:∃ s1,s1={ ij s (Ann.leaf).fz with fresh:=s.fresh+1 }:=⟨_,rfl⟩;obtain⟨h1,y⟩:=yw c C;obtain⟨h2,h3⟩:(!false||sW E ops ((Ann.leaf).heads ops.size))=true/\_:=y.resolve_right λh=>(by cases h.1)
 have z:s1.base=s.base+4096:=by rw[c];simp only[St.base];omega
 have r1:Rp w0 S1 γ β s1 a w:=by
  rw[c];have I:∀ id,({ ij s (Ann.leaf).fz with fresh:=s.fresh+1 }:St).base+4096<=id->s.base+4096<=id:=λid hid=>by
   have e:({ ij s (Ann.leaf).fz with fresh:=s.fresh+1 }:St).base=s.base+4096:=by simp only[St.base];omega
   rw[e] at hid;exact zHa (zhd _ _) hid
  exact⟨f1.ext,f1.tms,f1.nt,f1.tmu,f1.obs,f1.γn,f1.γi,λid hid=>h.γf id (I id hid),f1.βn,f1.βi,f1.βγ,λv O=>h.βf v (I v O),f1.Sb,f1.So⟩
 have g:∀ d,s.base+4096<=s1.base+d:=λd=>by have:=zhd s1.base d;rw[z] at this ⊢;exact this
 have H:∀ d,γ (s1.base+d)=none:=λd=>h.γf (s1.base+d) (g d);have F:∀ d,β (s1.base+d)=none:=λd=>h.βf (s1.base+d) (g d);obtain⟨W,m2⟩:=FZ (E:=E) ops.toList r1 H;have m:=h1;simp only[fa,zaa,zDa] at m;obtain⟨⟨l,G⟩,N⟩:=m;have D:Np E (lT E ops.toList s1) γ β ops.toList:=by intro o x hc d u;rw[m2.base_eq];have j:=G o x;rw[u] at j;simp only[zfa] at j;exact⟨j,H d,F d,λT t J K=>AL ops.toList l x J u K⟩
 have q:Sk s (lT E ops.toList s1):=by
  refine⟨m2.lkS.trans ?_,m2.lkO.trans ?_,m2.nt.trans ?_⟩<;>rw[c]
  ·exact f3.lkS
  ·exact f3.lkO
  ·exact f3.nt
 have b:(ops.toList.all λo=>match o.op with|.store ..=>o.dst.isNone|_=>true)=true:=by simp only[fa,zaa] at h1;exact h1.2
 have:=Ad (ro:=ro) (nn:=nn) (ops:=ops) L b _ R (ce 0 ops.toList) _ r _ W (by rw[bV];exact D) (by rw[bV];exact λA B o o' e x d u=>gw l A B o o' e x d u) (λp hp=>mM hp) h3
  (Q:=Q) λs' S' γ' β' a' w' n1 n2 U V=>M .normal s' S' γ' β' a' w' n1 (f2.tr n2 q) (q.trans U) V
 rwa [bV] at this
def σL(nt o it:Nat)(X:AV):St:={ tm:=λi=>if i=o then X else .undef,ob:=λ_=>none,fresh:=0,dead:=[],nt:=nt,lkS:=[it],lkO:=[0,1,4095] }
def γs(m r:Nat):Nat->Option Nat:=λi=>if i=0 then some m else if i=1 then some r else none
def PL(e:Ty)(L:List D)(X:AV):Prop:=(X=.nils/\L=[])\/X=.own e 5 L
def DO{s:St}{e:Ty}{o:Nat}{L:List D}(h:eH s e o=some L):(s.tm o=.nils/\L=[])\/∃ v,s.tm o=.own e v L/\v ∉ s.dead:=by
 unfold eH at h;split at h
 ·rename_i c v l a;split at h
  ·rename_i b;simp only[zaa,zWa,zfa] at b;cases h;have:=af7 _ _ b.1.1;subst this;exact .inr ⟨v,a,by simpa using b.1.2⟩
  ·cases h
 ·rename_i a;cases h;exact .inl ⟨a,rfl⟩
 ·cases h
def Rp.std{S:Nat->Nat->Prop}{γ:Nat->Option Nat}{β:Nat->Option (Nat×Nat)}{s:St}{a:Act}{w:World}(h:Rp w0 S γ β s a w){m r:Nat}(hm:¬ w0.Old m/\m<w.heap.size)(Z:¬ w0.Old r/\r<w.heap.size)(y:m≠r)
  (Q:∀ v b e,v ∉ s.dead->β v=some (b,e)->b≠m/\b≠r) {e:Ty} (I:cn e=true) {o:Nat} {L:List D} (C:eH s e o=some L) (it:Nat) :
  ∃ β' X,PL e L X/\Rp w0 (λb i=>S b i/\b≠m/\b≠r) (γs m r) β' (σL s.nt o it X) a w:=by
 have x:o<s.nt:=by
  rcases zAa o s.nt with k|k
  ·exact k
  ·unfold eH at C;rw[h.tmu o k] at C;cases C
 have g:=h.tms o (by rw[h.nt];exact x)
 have g1:∀ id b,γs m r id=some b->(id=0/\b=m)\/(id=1/\b=r):=λid b d=>by
  unfold γs at d;split at d
  ·rename_i e;cases d;exact .inl ⟨e,rfl⟩
  ·split at d
   ·rename_i e;cases d;exact .inr ⟨e,rfl⟩
   ·cases d
 have γn':∀ id b,γs m r id=some b->¬ w0.Old b/\b<w.heap.size:=λid b d=>by
  rcases g1 id b d with⟨_,rfl⟩|⟨_,rfl⟩
  ·exact hm
  ·exact Z
 have γi':∀ id j b,γs m r id=some b->γs m r j=some b->id=j:=λid j b d f=>by
  rcases g1 id b d with⟨k1,J⟩|⟨k1,J⟩<;>rcases g1 j b f with⟨k3,K⟩|⟨k3,K⟩
  ·omega
  ·exact z4a (J.symm.trans K) y
  ·exact z4a (K.symm.trans J) y
  ·omega
 have γf':∀ id,0*4096+4096<=id->γs m r id=none:=λid hid=>by unfold γs;rw[zia j1,zia j1]
 rcases DO C with⟨h1,h2⟩|⟨v,h1,h2⟩
 ·refine⟨λ_=>none,.nils,.inl ⟨rfl,h2⟩,h.ext,λt ht=>?_,h.nt,λt ht=>?_,λid o b x=>(by cases x),γn',γi',γf',λv b e _ d=>(by cases d),λv v' b e l _ _ d=>(by cases d),λv id b e _ d=>(by cases d),λ_ _=>rfl,λb i d=>h.Sb b i d.1,λb i d=>h.So b i d.1⟩
  ·show AR _ (if t=o then AV.nils else .undef) (a.tmps.getD t undef)
   by_cases hto:t=o
   ·rw[zja hto];subst hto;rw[h1] at g;simpa only[AR,AC] using g
   ·rw[zia hto];simp only[AR]
  ·show(if t=o then AV.nils else .undef)=_
   rw[zia (λh=>by subst h;exact z4a x (zMc.2 ht))]
 ·refine⟨λi=>if i=5 then β v else none,.own e 5 L,.inr rfl,h.ext,λt ht=>?_,h.nt,λt ht=>?_,λid o b x=>(by cases x),γn',γi',γf',λu b l _ d=>?_,λu u' b l H _ _ d f=>?_,λu id b l _ d hid=>?_,λu hu=>?_,λb i d=>h.Sb b i d.1,λb i d=>h.So b i d.1⟩
  ·show AR _ (if t=o then AV.own e 5 L else .undef) (a.tmps.getD t undef)
   by_cases hto:t=o
   ·rw[zja hto];subst hto;rw[h1] at g;simp only[AR,AC] at g ⊢;obtain⟨n0,n1,n2,F,cap,n3,n4,T⟩:=g;have M:CR w (λb i=>S b i/\b≠m/\b≠r) (.sl L) (.slice F L.length cap):=by
     obtain⟨U,N,G,z,V,p,O,cs,W,P⟩:=n4.elems;cases V;by_cases hL:L=[]
     ·subst hL;exact afj (b:=0) (off:=0) (.inl rfl) O ⟨[],dF.nil,j3⟩
     ·have p:F=some ⟨G,z,none⟩:=p.resolve_left hL;have f:G≠m/\G≠r:=by
       rcases T h2 with q|⟨b,off,A,B,E⟩
       ·rw[q.1] at p;cases p
       ·rw[A] at p;cases p;exact Q v _ _ h2 B
      have R:=oK I L n2;exact afj (.inr p) O ⟨cs,(gK R).2 ((gK R).1 W),λi c hc=>⟨⟨(P i c hc).1,f⟩,(P i c hc).2⟩⟩
    refine⟨n0,n1,n2,F,cap,n3,M,λ_=>?_⟩;rcases T h2 with q|⟨b,off,A,B,E⟩
    ·exact .inl q
    ·exact .inr ⟨b,off,A,by simpa using B,E⟩
   ·rw[zia hto];simp only[AR]
  ·show(if t=o then AV.own e 5 L else .undef)=_
   rw[zia (λh=>by subst h;exact z4a x (zMc.2 ht))]
  ·have d:(if u=5 then β v else none)=some (b,l):=d
   split at d
   ·obtain⟨A,B,E⟩:=h.βn v b l h2 d;exact⟨A,B,λi Y hs=>E i Y hs.1⟩
   ·cases d
  ·have d:(if u=5 then β v else none)=some (b,l):=d
   have f:(if u'=5 then β v else none)=some (b,H):=f
   split at d<;>split at f<;>first|(cases d;done)|(cases f;done)|omega
  ·have d:(if u=5 then β v else none)=some (b,l):=d
   split at d
   ·have:=Q v b l h2 d;rcases g1 id b hid with⟨_,q⟩|⟨_,q⟩
    ·exact this.1 q
    ·exact this.2 q
   ·cases d
  ·have ai:4096<=u:=by simpa [σL,St.base] using hu
   show(if u=5 then β v else none)=none
   rw[zia j1]
def Rp.setB{S:Nat->Nat->Prop}{γ:Nat->Option Nat}{β:Nat->Option (Nat×Nat)}{s:St}{a:Act}{w:World}(h:Rp w0 S γ β s a w){id b:Nat}(C:s.ob id=none)(A:γ id=some b)(B:∀ o,¬ S b o)(x:Obj) :
  Rp w0 S γ β s a (setBlock w b x):=by
 have z:∀ c o,S c o->c≠b:=λc o g e=>B o (e ▸ g);have m:∀ c,c≠b->(setBlock w b x).heap[c]?=w.heap[c]?:=λc d=>by simp only[setBlock];rw[zcd (Ne.symm d)]
 have j:(setBlock w b x).heap.size=w.heap.size:=by simp[setBlock]
 have hle:Cx.le ⟨w,S,γ,β,s.ob,s.dead⟩ ⟨setBlock w b x,S,γ,β,s.ob,s.dead⟩:=by
  refine⟨λc o g=>by simp only[World.cell?,m c (z c o g)],λ_ _ g=>g,λ_ _ g=>g,λi y hy _=>⟨y,hy,λp=>⟨rfl,rfl⟩,λt l e=>⟨l,e,rfl⟩,λ_ _ l e=>⟨l,e⟩⟩,λv r=>⟨r,λc e he=>⟨he,λn hn=>?_⟩⟩⟩
  have k:c≠b:=λu=>h.βγ v id c e r he (u ▸ A);have q:n8 w c=some n:=hn;show n8 (setBlock w b x) c=some n;simp only[n8,cg,m c k] at q ⊢;exact q
 refine⟨pP h.ext rfl rfl rfl (by rw[j];exact zka _) (zka _) (λc d=>m c λe=>(h.γn id b A).1 (e ▸ d)),λt ht=>(h.tms t ht).mono hle,h.nt,h.tmu,λi y c hy d=>?_,λi c d=>by rw[j];exact h.γn i c d,h.γi,h.γf,
  λv c e r he=>by rw[j];exact h.βn v c e r he,h.βi,h.βγ,h.βf,λc o g=>by rw[j];exact h.Sb c o g,h.So⟩
 have k:c≠b:=λu=>by have:=h.γi i id c d (u ▸ A);subst this;rw[C] at hy;cases hy
 exact(h.obs i y c hy d).mono hle (m c k) λ_ m=>m
end
end Sy
end
noncomputable section
namespace Sy
open Go Go.Proofs Go.Sort Go.Lib
variable{ro:Option Nat}{nn:Nat}
open Go.ChangeMaps (setBlock)
def xM:D->D
 | .st (k::_)=>k
 | x=>x
theorem Ig{c:Cx}{b vt:Ty}:∀ {l:List D} {es:List MapEntry} {j:Nat},jI c b vt j l es->es.length=l.length/\∀ (i:Nat) (en:MapEntry),es[i]?=some en->en.born=j+i/\∃ k v,l[i]?=some (.st [k,v])/\wt b k/\wt vt v/\gY c.w c.S k en.key/\gY c.w c.S v en.val
 | [],[],j,_=>⟨rfl,λi en h=>by simp at h⟩
 | [],_::_,_,h=>h.elim
 | _::_,[],_,h=>h.elim
 | x::l,e::es,j,h=>by
  simp only[jI] at h;obtain⟨⟨h1,k,v,rfl,h2,h3,d,f⟩,g⟩:=h;obtain⟨m,n⟩:=Ig g;refine⟨by simp[m],λi en a=>?_⟩
  cases i with
  | zero=>simp at a;subst a;exact⟨by simpa using h1,k,v,j3,h2,h3,d,f⟩
  | succ i=> simp only[zvb] at a;obtain⟨r1,o⟩:=n i en a;exact⟨j1,by simpa using o⟩
def EP{t:Ty}(hc:cn t=true){x:D}(hx:wt t x){w w':World}{S S':Nat->Nat->Prop}{v:Value}(h:gY w S x v):gY w' S' x v:=by have a:=lH t x hc hx;exact⟨h.1,(gK a).2 ((gK a).1 h.2)⟩
theorem CD:∀ (n:Nat) (l:List Nat),l.Nodup->(∀ x∈l,x<n)->l.length<=n
 | 0,l,_,h=>by
  cases l with
  | nil=>simp
  | cons x l=>exact z4a (h x zva) j1
 | n+1,l,hn,h=>by
  have h1:(l.erase n).length<=n:=CD n (l.erase n) (hn.erase n) λx hx=>by have b:=(hn.mem_erase_iff).1 hx;have:=h x b.2;have:=b.1;omega
  have h2:=List.length_erase (a:=n) (l:=l);split at h2<;>omega
section
variable{P:Program}{E:Env}{w0:Root}
def mn{a:Act}{o:Oper}{m:Sem Value}{v:Value}{w w':World}(hex:execOp a.eval o=(m >>= λr=>pure (Next.value r)))(b:m.run P w=.ok v w'):(execOp a.eval o).run P w=.ok (.value v) w':=by rw[hex];simp only[zma,b,zga,zua]
def Bl{nt o it t:Nat}{X:AV}(h:t≠o):(σL nt o it X).put (some t) .undef=σL nt o it X:=by
 unfold St.put σL;simp only;split
 ·congr 1;funext i;by_cases a:i=t
  ·subst a;rw[zja rfl,zia h]
  ·rw[zia a]
 ·rfl
def lC{a:Act}{t:Nat}{v:Value}(h:t<a.tmps.size):(a.put (some t) v).eval (.tmp t)=v:=by simp[Act.eval,Act.put,Array.getD,h]
def xg{a:Act}{d:Option Nat}{v:Value}:(a.put d v).tmps.size=a.tmps.size:=by cases d<;>simp[Act.put]
def Om(hE:EnvOk P E){e vt:Ty}(he:cn e=true)(dr:cn vt=true)(c4:av e=true)(c5:av vt=true){b3 b4 b5 b b2:Nat}{t72 m0 it T nx ok en o:Nat}{b7 b8 b9:Array Oper}{rest:List Oper}{c26:Code}
  {y1 y2 y3 y4 y5:TypeId} {p1 p2 p3 p4 p5:String} {f1 f2 f3 f4 f5:Array Edge} {TK TV:TypeId}
  (ca:b7.toList=[⟨some t72,.move (.tmp m0),y1,p1,f1,none⟩,⟨some it,.range T (.tmp t72),y2,p2,f2,none⟩])
  (cb:b8.toList=[⟨some nx,.next (.tmp it) false,y3,p3,f3,none⟩,⟨some ok,.extract (.tmp nx) 0,y4,p4,f4,none⟩])
  (cc:b9.toList=⟨some en,.entry (.tmp it),y5,p5,f5,none⟩::rest) (bl:∀ x∈rest,x.guard=none) (hT:P.underlying T=some (.map TK TV))
  {S:Nat->Nat->Prop} {γ:Nat->Option Nat} {β:Nat->Option (Nat×Nat)} {s:St} {a:Act} {w:World} (h:Rp w0 S γ β s a w) (cx:a.defers=[])
  (d1:o≠t72) (d2:o≠it) (d3:nx≠o) (d4:ok≠o) (d5:en≠o) (d6:it≠t72) (d7:it≠nx) (d8:it≠ok) (d9:it≠en) (d10:nx≠ok) (n1:t72<s.nt) (n2:it<s.nt) (n3:nx<s.nt) (n4:ok<s.nt) (n5:en<s.nt)
  {B:Nat} {l:List D} (hm:s.tm m0=.map e vt B) (dk:s.ob B=some (.mp e vt l)) (hl:l.length<=1073741824) (hv:eH s e o=some [])
  (O:∀ X L k v,PL e L X->L.length<1073741824->wt e k->ev E (.region 0 rest.toArray false) .leaf D ((σL s.nt o it X).put (some en) (.d (.tup [e,vt]) (.tup [k,v]))) (λx s'=>match x with
   | .normal=>ev E c26 .leaf D s' (λx ds=>match x with|.normal=>(eH ds e o).bind λl=>some (.sl l)|_=>none)
   | _=>none)=some (.sl (L++[k])))
  {Q:Exit->Act->World->Prop} (hQ:∀ L S' γ' β' X a' w',PL e L X->L.Perm (l.map xM)->Rp w0 S' γ' β' (σL s.nt o it X) a' w'->a'.defers=[]->Q .normal a' w') :
  (Code.seq (.region b3 b7 false) (.block b (.loop (.seq (.region b4 b8 false) (.seq (.cond (.tmp ok) .skip (.exit b)) (.block b2 (.seq (.region b5 b9 false) c26))))))).wpIn (FW none) nn P Q a w:=by
 have c1:m0<s.nt:=by
  rcases zAa m0 s.nt with k|k
  ·exact k
  ·rw[h.tmu m0 k] at hm;cases hm
 have a6:=h.tms m0 (by rw[h.nt];exact c1)
 rw[hm] at a6;simp only[AR,AC] at a6;obtain⟨c3,m,c2,bn,_,_,_⟩:=a6;have a9:=aA c3 c2;have hO:=h.obs B _ m dk bn;simp only[gM] at hO;obtain⟨_,_,dv,es,A,hM⟩:=hO;obtain⟨dt,f⟩:=Ig hM;have aI:=h.γn B m bn;have al:∀ x∈es.toList,x.born<l.length:=λx hx=>by obtain⟨i,hi,rfl⟩:=z3a hx;have:=(f i _ (zda hi)).1;omega
 have cp:(es.toList.map (·.born)).Nodup:=by rw[List.Nodup,zRb];intro i j hi M dx;simp only[zxa] at hi M;have a1:=(f i _ (zda hi)).1;have a2:=(f j _ (zda M)).1;simp only[zYc,a1,a2];omega
 refine wpIn_seq ?_;refine wpIn_region_list ?_;rw[ca];simp only[wpListIn,Region.wanted,if_true];refine(bO (K:=λv w1=>v=a.tmps.getD m0 undef/\w=w1) (ft.value (v:=a.eval (.tmp m0)) (w':=w) rfl ⟨rfl,rfl⟩) ?_);rintro _ _ ⟨rfl,rfl⟩;rw[a9];have ch:(a.put (some t72) (.map (some m))).eval (.tmp t72)=.map (some m):=lC (by rw[h.nt];exact n1)
 refine(bO (K:=λv w1=>v=.pointer (some ⟨w.heap.size,0,none⟩)/\w1=w.alloc (.mapIter (some m) l.length #[] l.length)) (ft.value (mn (m:=Instr.range T (.map (some m))) ?_ (run_range_map w T TK TV m es l.length hT A)) ⟨rfl,rfl⟩) ?_)
 ·show(Instr.range T ((a.put (some t72) (.map (some m))).eval (.tmp t72)) >>= λr=>pure (Next.value r))=_;rw[ch]
 rintro _ _ ⟨rfl,rfl⟩;simp only[Exit.then];refine wpIn_block ?_;obtain⟨r,bT⟩:∃ r,r=w.heap.size:=⟨_,rfl⟩;rw[<-bT];have a0:m≠r:=by have:=aI.2;omega
 have J:w.alloc (.mapIter (some m) l.length #[] l.length)=grown w [.mapIter (some m) l.length #[] l.length] w.drawn:=by show({ w with heap:=w.heap.push (.mapIter (some m) l.length #[] l.length) }:World)={ w with heap:=w.heap++[Obj.mapIter (some m) l.length #[] l.length].toArray,drawn:=w.drawn };rw[zJd]
 have h1:Rp w0 S γ β ((s.put (some t72) .undef).put (some it) .undef) ((a.put (some t72) (.map (some m))).put (some it) (.pointer (some ⟨r,0,none⟩))) (w.alloc (.mapIter (some m) l.length #[] l.length)):=by rw[J];exact(((h.put (v:=.undef) (val:=.map (some m)) (by simp[AR]) (some t72)).put (v:=.undef) (val:=.pointer (some ⟨r,0,none⟩)) (by simp[AR]) (some it)).grow (os:=[.mapIter (some m) l.length #[] l.length]) (d:=w.drawn) (zka _) (S':=S) (λ_ _ t=>t) (λ_ _ t=>.inl t)).1
 have bW:eH ((s.put (some t72) .undef).put (some it) .undef) e o=some []:=by
  have q1:((s.put (some t72) .undef).put (some it) .undef).tm o=s.tm o:=by rw[AN (λe=>d2 (by cases e;rfl)),AN (λe=>d1 (by cases e;rfl))]
  have q2:((s.put (some t72) .undef).put (some it) .undef).dead=s.dead:=by rw[(afZ _ _ _).2.2.1,(afZ _ _ _).2.2.1]
  unfold eH at hv ⊢;rw[q1,q2];exact hv
 have bL:((s.put (some t72) .undef).put (some it) .undef).nt=s.nt:=by rw[(afZ _ _ _).2.2.2.1,(afZ _ _ _).2.2.2.1]
 have ak:(w.alloc (.mapIter (some m) l.length #[] l.length)).heap.size=w.heap.size+1:=by rw[J];simp[grown]
 have dn:¬ w0.Old r:=λho=>by have:=ho.1;have:=h.ext.sz;omega
 have I:((s.put (some t72) .undef).put (some it) .undef).dead=s.dead:=by rw[(afZ _ _ _).2.2.1,(afZ _ _ _).2.2.1]
 obtain⟨β1,X1,bp,R1⟩:=h1.std (m:=m) (r:=r) ⟨aI.1,by rw[ak];omega⟩ ⟨dn,by rw[ak];omega⟩ a0 (λv bb ee z t=>by rw[I] at z;exact⟨λeq=>h.βγ v B bb ee z t (eq ▸ bn),λeq=>by have:=(h.βn v bb ee z t).2.1;omega⟩) he bW it
 rw[bL] at R1;have Z:(w.alloc (.mapIter (some m) l.length #[] l.length)).heap[m]?=some (.map es l.length):=by rw[J,dX aI.2];exact A
 have ai:(w.alloc (.mapIter (some m) l.length #[] l.length)).heap[r]?=some (.mapIter (some m) l.length #[] l.length):=by rw[bT];exact heap_alloc_new w _
 have bN:((a.put (some t72) (.map (some m))).put (some it) (.pointer (some ⟨r,0,none⟩))).tmps.getD it undef=.pointer (some ⟨r,0,none⟩):=by exact lC (by rw[xg,h.nt];exact n2)
 refine zF (m:=l.length) (λn a w=>∃ (S:Nat->Nat->Prop) (β:Nat->Option (Nat×Nat)) (X:AV) (L:List D) (seen:Array Nat) (G:Nat),PL e L X/\Rp w0 (λb i=>S b i/\b≠m/\b≠r) (γs m r) β (σL s.nt o it X) a w/\a.defers=[]/\a.tmps.getD it undef=.pointer (some ⟨r,0,none⟩) ∧
  w.heap[m]?=some (.map es l.length)/\w.heap[r]?=some (.mapIter (some m) l.length seen G)/\l.length<=G/\L=seen.toList.map (λj=>xM (l.getD j default))/\seen.toList.Nodup/\(∀ j∈seen.toList,j<l.length)/\n+seen.size=l.length)
  ⟨S,β1,X1,[],#[],l.length,bp,R1,cx,bN,Z,ai,zka _,rfl,j3,j3,j3⟩ ?_
 clear R1 h1 bW bN Z ai bp J;rintro n a w ⟨S,β,X,L,seen,G,hX,R,bt,hp,A,bx,cv,hL,bi,aB,hn⟩;have U:=R.nt;refine wpIn_seq (wpIn_region_list ?_);rw[cb];simp only[wpListIn,Region.wanted,if_true];have bv:a.eval (.tmp it)=.pointer (some ⟨r,0,none⟩):=hp;rcases run_next_at w y3 r m l.length G seen es l.length bx A al cv with⟨hz,q⟩|⟨c,an,w1,bm,q⟩
 ·
  refine(bO (K:=λv w1=>v=.tuple #[.bool false]/\w=w1) (ft.value (mn (m:=Instr.next (.pointer (some ⟨r,0,none⟩)) false y3) ?_ q) ⟨rfl,rfl⟩) ?_)
  ·show(Instr.next (a.eval (.tmp it)) false y3 >>= λr=>pure (Next.value r))=_
   rw[bv]
  rintro _ _ ⟨rfl,rfl⟩;have ex:(a.put (some nx) (.tuple #[.bool false])).eval (.tmp nx)=.tuple #[.bool false]:=lC (by rw[U];exact n3)
  refine(bO (K:=λv w1=>v=.bool false/\w=w1) (ft.value (mn (m:=Instr.extract (.tuple #[.bool false]) 0) ?_ (v:=.bool false) (w':=w) rfl) ⟨rfl,rfl⟩) ?_)
  ·show(Instr.extract ((a.put (some nx) (.tuple #[.bool false])).eval (.tmp nx)) 0 >>= λr=>pure (Next.value r))=_;rw[ex]
  rintro _ _ ⟨rfl,rfl⟩;simp only[Exit.then];refine wpIn_seq (wpIn_cond_false (lC (by rw[xg,U];exact n4)) (wpIn_exit ?_))
  simp only[Exit.then,Exit.inBlock,if_true];have R2:=(R.put (v:=.undef) (val:=.tuple #[.bool false]) (by simp[AR]) (some nx)).put (v:=.undef) (val:=.bool false) (by simp[AR]) (some ok)
  rw[Bl d3,Bl d4] at R2;refine hQ L _ _ _ X _ _ hX ?_ R2 bt;have bs:∀ j,j<l.length->j∈seen.toList:=λj M=>by
   have cB:j<es.toList.length:=j1
   have e1:=(f j _ (zda cB)).1;have N:es.toList[j] ∉ (leftOf es seen).toList:=λhm=>by have:=List.length_pos_of_mem hm;simp at this;omega
   simp only[leftOf,Array.toList_filter,zrb,zBa,true_and] at N;simp at N;simp only[zKd,zfb] at e1;rw[e1] at N;simpa using N
  have bk:seen.toList.Perm (List.range l.length):=(List.perm_ext_iff_of_nodup bi List.nodup_range).2 λj=>⟨λM=>z0a.2 (aB j M),λM=>bs j (z0a.1 M)⟩;rw[hL];refine(bk.map _).trans ?_;have:(List.range l.length).map (λj=>xM (l.getD j default))=l.map xM:=by
   apply zrc;intro j;rw[zmb,zmb];rcases zAa j l.length with k|k
   ·simp[k,List.getD]
   ·rw[znb (by simpa using k),znb k];rfl
  rw[this]
 ·
  have b0:w1.heap[m]?=some (.map es l.length):=by rcases bm with rfl|rfl<;>exact A
  have b1:w1.heap.size=w.heap.size:=by rcases bm with rfl|rfl<;>rfl
  have dp:r<w1.heap.size:=by rw[b1];exact(zCa.1 bx).1
  have Rw:Rp w0 (λb i=>S b i/\b≠m/\b≠r) (γs m r) β (σL s.nt o it X) a w1:=by
   rcases bm with rfl|rfl
   ·exact R
   ·have:=(R.grow (os:=[]) (d:=w.drawn+1) (z0c _) (S':=λb i=>S b i/\b≠m/\b≠r) (λ_ _ t=>t) (λ_ _ t=>.inl t)).1;have e2:grown w [] (w.drawn+1)=w.drew:=by
     unfold grown;rw[show w.heap++([]:List Obj).toArray=w.heap by simp]
     rfl
    rw[e2] at this;exact this
  obtain⟨H,V⟩:∃ H,H=setBlock w1 r (.mapIter (some m) l.length (seen.push c.born) l.length):=⟨_,rfl⟩;rw[<-V] at q;have R2:Rp w0 (λb i=>S b i/\b≠m/\b≠r) (γs m r) β (σL s.nt o it X) a H:=by rw[V];exact Rw.setB (id:=1) rfl rfl (λi hi=>hi.2.2 rfl) _
  have ad:H.heap[m]?=some (.map es l.length):=by rw[V];simp only[setBlock];rw[zcd (Ne.symm a0)];exact b0
  have aj:H.heap[r]?=some (.mapIter (some m) l.length (seen.push c.born) l.length):=by rw[V];simp only[setBlock];rw[Array.getElem?_setIfInBounds_self_of_lt dp]
  have p:c∈es.toList/\c.born ∉ seen.toList:=by simp only[leftOf,Array.toList_filter,zrb] at an;exact⟨an.1,by have:=an.2;simpa using this⟩
  obtain⟨j,M,cI⟩:=z3a p.1;obtain⟨q1,k,v,q2,q3,q4,q5,q6⟩:=f j c (by rw[zda M,cI])
  rw[zfb] at q1;have dy:j<l.length:=j1
  have ax:l.getD j default=.st [k,v]:=by simp[List.getD,q2]
  refine(bO (K:=λv w1=>v=.tuple #[.bool true,c.key,c.val]/\H=w1) (ft.value (mn (m:=Instr.next (.pointer (some ⟨r,0,none⟩)) false y3) ?_ q) ⟨rfl,rfl⟩) ?_)
  ·show(Instr.next (a.eval (.tmp it)) false y3 >>= λr=>pure (Next.value r))=_
   rw[bv]
  rintro _ _ ⟨rfl,rfl⟩;have ex:(a.put (some nx) (.tuple #[.bool true,c.key,c.val])).eval (.tmp nx)=.tuple #[.bool true,c.key,c.val]:=lC (by rw[U];exact n3)
  refine(bO (K:=λv w1=>v=.bool true/\H=w1) (ft.value (mn (m:=Instr.extract (.tuple #[.bool true,c.key,c.val]) 0) ?_ (v:=.bool true) (w':=H) rfl) ⟨rfl,rfl⟩) ?_)
  ·show(Instr.extract ((a.put (some nx) (.tuple #[.bool true,c.key,c.val])).eval (.tmp nx)) 0 >>= λr=>pure (Next.value r))=_;rw[ex]
  rintro _ _ ⟨rfl,rfl⟩;simp only[Exit.then];refine wpIn_seq (wpIn_cond_true (lC (by rw[xg,U];exact n4)) (wpIn_skip ?_))
  simp only[Exit.then];refine wpIn_block (wpIn_seq (wpIn_region_list ?_));have R3:=(R2.put (v:=.undef) (val:=.tuple #[.bool true,c.key,c.val]) (by simp[AR]) (some nx)).put (v:=.undef) (val:=.bool true) (by simp[AR]) (some ok)
  rw[Bl d3,Bl d4] at R3;have bj:((a.put (some nx) (.tuple #[.bool true,c.key,c.val])).put (some ok) (.bool true)).tmps.getD it undef=.pointer (some ⟨r,0,none⟩):=by rw[cH (λe=>d8 (by cases e;rfl)),cH (λe=>d7 (by cases e;rfl))];exact hp
  have W:((a.put (some nx) (.tuple #[.bool true,c.key,c.val])).put (some ok) (.bool true)).defers=[]:=bt;generalize ((a.put (some nx) (.tuple #[.bool true,c.key,c.val])).put (some ok) (.bool true))=a3 at R3 bj W ⊢;rw[cc];simp only[wpListIn,Region.wanted,if_true];refine(bO (K:=λv w1=>v=.tuple #[c.key,c.val]/\H=w1) (ft.value (mn (m:=Instr.entry (.pointer (some ⟨r,0,none⟩))) ?_ (run_entry_at H r m l.length seen es l.length c aj ad p.1 cp)) ⟨rfl,rfl⟩) ?_)
  ·show(Instr.entry (a3.eval (.tmp it)) >>= λr=>pure (Next.value r))=_;rw[show a3.eval (.tmp it)=.pointer (some ⟨r,0,none⟩) from bj]
  rintro _ _ ⟨rfl,rfl⟩;have R4:=R3.put (v:=.d (.tup [e,vt]) (.tup [k,v])) (val:=.tuple #[c.key,c.val]) (by
   simp only[AR];refine .inr ⟨[e,vt],rfl,by simp[bG,c4,c5],⟨[k,v],rfl,k,[v],rfl,q3,v,[],rfl,q4,rfl⟩,[c.key,c.val],rfl,rfl,λi d u z hu=>?_⟩
   cases i with
   | zero=>simp at z hu;subst z;subst hu;exact EP he q3 q5
   | succ i=>cases i with
    | zero=>simp at z hu;subst z;subst hu;exact EP dr q4 q6
    | succ i=>simp at z) (some en)
  have bP:(a3.put (some en) (.tuple #[c.key,c.val])).tmps.getD it undef=.pointer (some ⟨r,0,none⟩):=by rw[cH (λe=>d9 (by cases e;rfl))];exact bj
  have Y:(a3.put (some en) (.tuple #[c.key,c.val])).defers=[]:=W;generalize (a3.put (some en) (.tuple #[c.key,c.val]))=a4 at R4 bP Y ⊢;have cs:(c.born::seen.toList).length<=l.length:=CD _ _ (List.nodup_cons.2 ⟨p.2,bi⟩) (λx hx=>by
   rcases zEa.1 hx with rfl|hx
   ·omega
   ·exact aB x hx)
  have du:L.length=seen.size:=by rw[hL];simp
  simp only[zQa,zYb] at cs;have b6:((σL s.nt o it X).put (some en) (.d (.tup [e,vt]) (.tup [k,v]))).lkS=[it]:=(afZ _ _ _).2.2.2.2.1;have C:((σL s.nt o it X).put (some en) (.d (.tup [e,vt]) (.tup [k,v]))).lkO=[0,1,4095]:=(afZ _ _ _).2.2.2.2.2.1;refine xy (ops:=rest.toArray) rest _ _ bl ?_;have key:=Ok (ro:=none) (nn:=nn) hE (Q:=Exit.then (c26.wpIn (FW none) nn P (Exit.inBlock b2 (Exit.then (λa' w'=>∃ g,g<n/\∃ (S:Nat->Nat->Prop) (β:Nat->Option (Nat×Nat)) (X:AV) (L:List D) (seen:Array Nat) (G:Nat),PL e L X/\Rp w0 (λb i=>S b i/\b≠m/\b≠r) (γs m r) β (σL s.nt o it X) a' w'/\a'.defers=[]/\a'.tmps.getD it undef=.pointer (some ⟨r,0,none⟩) ∧
   w'.heap[m]?=some (.map es l.length)/\w'.heap[r]?=some (.mapIter (some m) l.length seen G)/\l.length<=G/\L=seen.toList.map (λj=>xM (l.getD j default))/\seen.toList.Nodup/\(∀ j∈seen.toList,j<l.length)/\g+seen.size=l.length) (Exit.inBlock b Q)))) (Exit.inBlock b2 (Exit.then (λa' w'=>∃ g,g<n/\∃ (S:Nat->Nat->Prop) (β:Nat->Option (Nat×Nat)) (X:AV) (L:List D) (seen:Array Nat) (G:Nat),PL e L X/\Rp w0 (λb i=>S b i/\b≠m/\b≠r) (γs m r) β (σL s.nt o it X) a' w'/\a'.defers=[]/\a'.tmps.getD it undef=.pointer (some ⟨r,0,none⟩) ∧
   w'.heap[m]?=some (.map es l.length)/\w'.heap[r]?=some (.mapIter (some m) l.length seen G)/\l.length<=G/\L=seen.toList.map (λj=>xM (l.getD j default))/\seen.toList.Nodup/\(∀ j∈seen.toList,j<l.length)/\g+seen.size=l.length) (Exit.inBlock b Q)))) R4 (O X L k v hX j1 q3) ?_
  ·simpa using key
  intro x s' S' γ' β' a' w' g1 g2 g3 g4;cases x with
  | ret=>cases g4
  | exit i=>cases g4
  | normal=>
   show c26.wpIn (FW none) nn P _ a' w';refine Je hE c26 .leaf D _ _ g1 g4 λx2 s2 S2 γ2 β2 a5 w5 k1 k2 k3 k4=>?_;cases x2 with
   | ret=>cases k4
   | exit i=>cases k4
   | normal=>
    have cy:eH s2 e o=some (L++[k]):=by obtain⟨l2,u1,u2⟩:=ab k4;simp only[zea,D.sl.injEq] at u2;rw[u1,u2]
    have F:=g2.tr k2 g3;obtain⟨z1,z2⟩:=F.objs 0 (by rw[C];simp) m rfl
    obtain⟨z3,z4⟩:=F.objs 1 (by rw[C];simp) r rfl
    have z5:=F.slots it (by rw[b6];simp)
    obtain⟨β6,X6,cf,R6⟩:=k1.std (m:=m) (r:=r) (k1.γn 0 m z1) (k1.γn 1 r z3) a0 (λu bb ee z t=>⟨λeq=>k1.βγ u 0 bb ee z t (eq ▸ z1),λeq=>k1.βγ u 1 bb ee z t (eq ▸ z3)⟩) he cy it;have bM:s2.nt=s.nt:=by rw[k3.nt,g3.nt,(afZ _ _ _).2.2.2.1];rfl
    rw[bM] at R6;show ∃ g,g<n/\_;refine⟨n-1,j1,S2,β6,X6,L++[k],seen.push c.born,l.length,cf,R6,F.df0 (by rw[C];simp) Y,z5.trans bP,z2.eq ad (λ_ h=>by cases h),z4.eq aj (λ_ h=>by cases h),zka _,?_,?_,?_,?_⟩
    ·rw[zBd,zXb,<-hL,zjb,zrd,q1,ax];rfl
    ·rw[zBd,List.nodup_append];refine⟨bi,j3,λx hx y hy=>?_⟩
     rw[zKa.1 hy];exact λeq=>p.2 (eq ▸ hx)
    ·intro x hx;rw[zBd] at hx;rcases List.mem_append.1 hx with hx|hx
     ·exact aB x hx
     ·rw[zKa.1 hx];omega
    ·simp;omega
end
end Sy
end
noncomputable section
namespace Sy
open Go Go.Proofs Go.Sort Go.Lib
section
variable{P:Program}{E:Env}
def wZ(w:World)(S:Nat->Nat->Prop):Root:=⟨w,S,λ_=>False⟩
def Pb(P:Program)(fn:Func)(w:World)(S:Nat->Nat->Prop)(a:Ty)(y:D):Exit->Act->World->Prop:=
 bodyPost P fn λe w'=>∃ v,e=.returned v/\(∃ os d,w.drawn<=d/\w'=grown w os d)/\wt a y/\DR w' (λb o=>S b o\/(w.heap.size<=b/\b<w'.heap.size)) y v
def QW(n:EnvOk P E){fn:Func}{a:Ty}{y:D}{w:World}{S:Nat->Nat->Prop}(q:j4 fn.results.size a=true){d:Code}{ann:Ann}{S':Nat->Nat->Prop}{γ':Nat->Option Nat}{β':Nat->Option (Nat×Nat)}{s':St}{a':Act}{w':World}
  (h:Rp (wZ w S) S' γ' β' s' a' w') (f:a'.defers=[]) (m:4095∈s'.lkO) (g:(ev E d ann D s' λe s=>match e with|.exit _=>none|_=>results E s a fn.results.toList)=some y):d.wpIn (FW none) 0 P (Pb P fn w S a y) a' w':=by
 refine Je n d ann D _ y h g λe s' S' γ' β' a' w' n1 n2 x l=>?_;have c:results E s' a fn.results.toList=some y->(∃ v,(Go.results fn a'.tmps).run P w'=.ok v w'/\∃ v',Ending.returned v=.returned v'/\(∃ os d,w.drawn<=d/\w'=grown w os d)/\wt a y/\DR w' (λb o=>S b o\/(w.heap.size<=b/\b<w'.heap.size)) y v'):=λhq=>by
  obtain⟨v,r,t,u⟩:=mR n n1 q hq;refine⟨v,r,v,rfl,js n1.ext (λ_ hf=>hf),t,u.mono (λ_ _ _=>rfl) λb o p=>?_⟩;rcases zAa b w.heap.size with k|j
  ·exact .inl (n1.So b o p ⟨k,λhf=>hf⟩)
  ·exact .inr ⟨j,n1.Sb b o p⟩
 cases e with
 | normal=>exact⟨n2.df0 m f,c l⟩
 | ret=>exact⟨n2.df0 m f,c l⟩
 | exit i=>cases l
def vH(r:EnvOk P E){f:FuncId}{fn:Func}{ann:AnnT}{a:List Ty}{i:Ty}{xs:List D}{y:D}{K:St->Option D}(hf:P.funcs[f]?=some fn)(hk:(decide (a.length<=fn.ntmps)&&j4 fn.results.size i&&bG a)=true)
  (h:N5 E K fn ann a xs=some y) (hK:∀ c,fn.body=some c->∀ (w:World) (S S':Nat->Nat->Prop) γ' β' s' a' w',Rp (wZ w S) S' γ' β' s' a' w'->a'.defers=[]->K s'=some y->(ut c ann).wpIn (FW none) 0 P (Pb P fn w S i y) a' w'):P4 P a i f xs y:=by
 intro w S vs u k hlen n;simp only[zaa,zfa] at hk;obtain⟨⟨B,J⟩,hn⟩:=hk;unfold N5 at h;split at h<;>first|(cases h;done)|skip
 rename_i c d;have G:xs.length=a.length:=kg k;have j:(vs.toArray++Array.replicate (fn.ntmps-vs.toArray.size) undef).size=fn.ntmps:=by simp;omega
 refine zS hf d (QT (w0:=wZ w S) r c ann (S:=S) (γ:=λ_=>none) (β:=λ_=>none) (s:=we fn a xs) ?_ rfl (by simp[we]) h λs' S' γ' β' a' w' n1 nd n2=>hK c d w S S' γ' β' s' a' w' n1 nd n2)
 refine⟨⟨rfl,rfl,rfl,zka _,zka _,λ_ _=>rfl⟩,λt ht=>?_,j,λt ht=>?_,λid o b A=>(by cases A),λid b d=>(by cases d),λid H b d=>(by cases d),λ_ _=>rfl,λv b e _ d=>(by cases d),λv v' b e I _ _ d=>(by cases d),λv id b e _ d=>(by cases d),λ_ _=>rfl,u,λb o d _=>d⟩
 ·simp only[we,jU];split
  ·rename_i ty x q m;have z:=(zra.1 m).1;have g:t<vs.length:=j1
   have F:(vs.toArray++Array.replicate (fn.ntmps-vs.toArray.size) undef).getD t undef=vs[t]:=by simp[Array.getD,zTc,g];omega
   show AR _ _ ((vs.toArray++Array.replicate (fn.ntmps-vs.toArray.size) undef).getD t undef);rw[F];obtain⟨L,l,p⟩:=iO k q;rw[m] at l;cases l;exact eC (cu hn q) p (n t x _ m (zda g))
  ·simp only[AR]
 ·have C:fn.ntmps<=t:=ht;simp only[we,jU];rw[znb j1]
def OJ(nt x:Nat)(e:Ty)(l:List D):St:={ tm:=λi=>if i=x then .d (.sl e) (.sl l) else .undef,ob:=λ_=>none,fresh:=0,dead:=[],nt:=nt,lkS:=[],lkO:=[4095] }
def Rp.reset{w0:Root}{S:Nat->Nat->Prop}{s:St}{x:Nat}{e:Ty}{l:List D}{a:Act}{w:World}(h:Rp w0 S (λ_=>none) (λ_=>none) (Rq s x e l) a w){nt:Nat}(c:s.nt=nt):Rp w0 S (λ_=>none) (λ_=>none) (OJ nt x e l) a w:=by subst c;exact⟨h.ext,h.tms,h.nt,h.tmu,λid o b d=>(by cases d),h.γn,h.γi,λ_ _=>rfl,h.βn,h.βi,h.βγ,λ_ _=>rfl,h.Sb,h.So⟩
def Gf(E:Env)(nt x g:Nat)(e:Ty)(s:St):Option D:=(eH s e x).bind λl=>if s.nt=nt then(kJ E g l).bind λl'=>some (.sl l') else none
def zr(A:EnvOk P E){f0:Nat}{e:Ty}(hf:SortOk P f0 e){g:Nat}(j:E.sig g=some ([e,e],.int .i64)/\E.free g=0){fn:Func}{b:Ty}{y:D}{w:World}{S:Nat->Nat->Prop}(G:j4 fn.results.size b=true)
  {id x t d2 nt:Nat} {ops:Array Oper} {d:Code} {ann:Ann} {v z:TypeId} {H I:String} {k m:Array Edge} {args:Array Operand} {n:Array TypeId}
  (i:ops.toList=[⟨some t,.move (.tmp x),v,H,k,none⟩,⟨some d2,.call ⟨.value (.func f0),args,n⟩,z,I,m,none⟩]) (a:args=#[.tmp t,.func g]) (B:(decide (x≠t)&&decide (x≠d2)&&decide (t<nt))=true)
  (u:∀ l',(ev E d ann D (OJ nt x e l') λe s=>match e with|.exit _=>none|_=>results E s b fn.results.toList)=some (.sl l'))
  {S':Nat->Nat->Prop} {γ':Nat->Option Nat} {β':Nat->Option (Nat×Nat)} {s':St} {a':Act} {w':World} (h:Rp (wZ w S) S' γ' β' s' a' w') (r:a'.defers=[]) (hK:Gf E nt x g e s'=some y):(Code.seq (.region id ops false) d).wpIn (FW none) 0 P (Pb P fn w S b y) a' w':=by
 simp only[zaa,zfa] at B;obtain⟨⟨o,p⟩,q⟩:=B;obtain⟨l,h1,h2⟩:=ab hK;split at h2<;>first|(cases h2;done)|skip
 rename_i f;obtain⟨l',h3,C⟩:=ab h2;cases C;refine wpIn_seq (OR A hf j i a h r o p (by rw[f];exact q) h1 h3 λa2 J S2 F c=>?_)
 exact QW A G (F.reset f) c (by simp[OJ]) (u l')
theorem ua{lt:D->D->Bool}{x:D}:∀ {l:List D},(∀ a∈x::l,∀ b∈x::l,∀ c∈x::l,lt a b=true->lt b c=true->lt a c=true)->(∀ y∈l,lt x y=true\/lt y x=true)->l.Pairwise (λa b=>lt a b=true)->(DT lt x l).Pairwise (λa b=>lt a b=true)
 | [],_,_,_=>by simp[DT]
 | y::l,g,f,hp=>by
  obtain⟨i,m⟩:=zOa.1 hp;simp only[DT];split
  ·rename_i e;refine zOa.2 ⟨λz d=>?_,hp⟩;rcases zEa.1 d with rfl|d
   ·exact e
   ·exact g x j3 y j3 z (by simp[d]) e (i z d)
  ·rename_i e;have h:lt y x=true:=(f y zva).resolve_left e;refine zOa.2 ⟨λz d=>?_,ua (λa j b k c hc=>?_) (λz d=>f z (zoa _ d)) m⟩
   ·rcases zEa.1 ((tf lt x l).subset d) with rfl|d
    ·exact h
    ·exact i z d
   ·have up:∀ q,q∈x::l->q∈x::y::l:=λq hq=>by
     rcases zEa.1 hq with rfl|hq
     ·simp
     ·simp[hq]
    exact g a (up a j) b (up b k) c (up c hc)
theorem rN{lt:D->D->Bool}:∀ {l:List D},(∀ a∈l,∀ b∈l,∀ c∈l,lt a b=true->lt b c=true->lt a c=true)->l.Pairwise (λa b=>lt a b=true\/lt b a=true)->(nk lt l).Pairwise (λa b=>lt a b=true)
 | [],_,_=>by simp[nk]
 | x::l,d,g=>by
  obtain⟨h,i⟩:=zOa.1 g;have hs:∀ q,q∈nk lt l->q∈l:=λq hq=>(iG lt l).subset hq;have up:∀ q,q∈x::nk lt l->q∈x::l:=λq hq=>by
   rcases zEa.1 hq with rfl|hq
   ·simp
   ·simp[hs q hq]
  exact ua (λa e b f c hc=>d a (up a e) b (up b f) c (up c hc)) (λy hy=>h y (hs y hy)) (rN (λa e b f c hc=>d a (zoa _ e) b (zoa _ f) c (zoa _ hc)) i)
def xi{g:Nat}{l l':List D}(hc:uG E g l'=true)(hp:l.Perm l'):kJ E g l=some l':=by
 obtain⟨h1,h2⟩:=lu hc;have m:∀ x∈l',∃ i,l'[i]?=some x:=λx hx=>by obtain⟨i,v,w⟩:=z3a hx;exact⟨i,by rw[zda v,w]⟩
 have u:∀ a∈l,∀ b∈l,∀ c∈l,tw E g a b=true->tw E g b c=true->tw E g a c=true:=λa n b o c r v w=>by obtain⟨i,f⟩:=m a (hp.subset n);obtain⟨j,d⟩:=m b (hp.subset o);obtain⟨k,hk⟩:=m c (hp.subset r);have:=(fK hc f d).1.1 v;have:=(fK hc d hk).1.1 w;exact(fK hc f hk).1.2 j1
 have s:l.Nodup:=hp.symm.nodup (yf hc);have t:l.Pairwise (λa b=>tw E g a b=true\/tw E g b a=true):=by
  refine z5c (λ{a b} n o q=>?_) s;obtain⟨i,f⟩:=m a (hp.subset n);obtain⟨j,d⟩:=m b (hp.subset o);rcases zxd i j with k|k|k
  ·exact .inl ((fK hc f d).1.2 k)
  ·subst k;rw[f] at d;cases d;exact z4a rfl q
  ·exact .inr ((fK hc d f).1.2 k)
 have hs:=rN u t;have p:(nk (tw E g) l).Perm l':=(iG _ l).trans hp;have:nk (tw E g) l=l':=by
  have key:∀ {a b:List D},a.Pairwise (λx y=>tw E g x y=true)->b.Pairwise (λx y=>tw E g x y=true)->a.Perm b->(∀ x∈a,x∈l')->a=b:=by
   intro a
   induction a with
   | nil=>intro b _ _ hp _;exact hp.symm.eq_nil.symm ▸ rfl
   | cons x a ih=>
    intro b n o hp hm;cases b with
    | nil=>exact z4a hp.eq_nil j3
    | cons y b=>
     obtain⟨a1,a2⟩:=zOa.1 n;obtain⟨A,B⟩:=zOa.1 o;have e:x=y:=by
      rcases zEa.1 (hp.subset zva) with e|m1
      ·exact e
      ·rcases zEa.1 (hp.symm.subset (zva (a:=y))) with e|m2
       ·exact e.symm
       ·exfalso;obtain⟨i,f⟩:=m x (hm x zva);obtain⟨j,d⟩:=m y (hm y (zoa _ m2));have:=(fK hc f d).1.1 (a1 y m2);have:=(fK hc d f).1.1 (A x m1);omega
     subst e;rw[ih a2 B ((List.perm_cons x).1 hp) (λz C=>hm z (zoa _ C))]
  exact key hs (h1.imp λh=>h.1) p λx hx=>p.subset hx
 unfold kJ;rw[this,zja hc]
def Ez{g:Nat}{l b l':List D}(h:kJ E g l=some l')(hp:b.Perm l):kJ E g b=some l':=by
 have a:uG E g l'=true/\l'=nk (tw E g) l:=by
  unfold kJ at h;split at h
  ·rename_i c;cases h;exact⟨c,rfl⟩
  ·cases h
 exact xi a.1 (hp.trans (by rw[a.2];exact(iG _ l).symm))
end
end Sy
end
end Go.Proofs.YtphlmegkommlnaaGreatDoor
