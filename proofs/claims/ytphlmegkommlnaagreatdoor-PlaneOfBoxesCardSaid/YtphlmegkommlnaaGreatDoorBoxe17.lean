/- Part 17 of the proof that PlaneOfBoxes answers true at every input -/
import Derived.Test.YtphlmegkommlnaaGreatDoorBoxe08
set_option linter.unusedVariables false
set_option linter.unusedSimpArgs false
set_option linter.unnecessarySimpa false
set_option linter.defProp false
set_option maxRecDepth 20000
namespace Go.Proofs.YtphlmegkommlnaaGreatDoor
noncomputable section
namespace Sy
open Go Go.Proofs
def bf:Lp:=λ{α β} body=>mX (α:=α) (β:=β) body
def cA(n:Nat):Nat->List D->Option D:=Ib bf n
section
variable(n:Nat)(a0 a1 a2 a3 a4:D)
def u18:cA (n+1) 18 [a0]=SL bf (cA n) a0:=u3
def u19:cA (n+1) 19 [a0]=SM bf (cA n) a0:=u3
def u21:cA (n+1) 21 [a0]=Qn bf (cA n) a0:=u3
def u32:cA (n+1) 32 [a0,a1]=SN bf (cA n) a0 a1:=u3
def u34:cA (n+1) 34 [a0]=SO bf (cA n) a0:=u3
def u45:cA (n+1) 45 [a0]=Qo bf (cA n) a0:=u3
def u46:cA (n+1) 46 [a0,a1]=SP bf (cA n) a0 a1:=u3
def u48:cA (n+1) 48 [a0]=SQ bf (cA n) a0:=u3
def u51:cA (n+1) 51 [a0,a1]=SR bf (cA n) a0 a1:=u3
def u52:cA (n+1) 52 [a0]=SS bf (cA n) a0:=u3
def u53:cA (n+1) 53 [a0,a1]=ST bf (cA n) a0 a1:=u3
def u54:cA (n+1) 54 [a0]=SU bf (cA n) a0:=u3
def u57:cA (n+1) 57 [a0,a1]=SV bf (cA n) a0 a1:=u3
def u61:cA (n+1) 61 [a0,a1]=SW bf (cA n) a0 a1:=u3
def Y4:cA (n+1) 62 [a0,a1]=Qq bf (cA n) a0 a1:=u3
def u68:cA (n+1) 68 [a0]=SX bf (cA n) a0:=u3
def u71:cA (n+1) 71 [a0]=SY bf (cA n) a0:=u3
def u72:cA (n+1) 72 [a0,a1]=SZ bf (cA n) a0 a1:=u3
def u73:cA (n+1) 73 [a0,a1]=S4 bf (cA n) a0 a1:=u3
def u74:cA (n+1) 74 [a0]=S5 bf (cA n) a0:=u3
def u76:cA (n+1) 76 [a0]=S6 bf (cA n) a0:=u3
def u77:cA (n+1) 77 [a0]=S7 bf (cA n) a0:=u3
def u78:cA (n+1) 78 [a0,a1]=S8 bf (cA n) a0 a1:=u3
def u80:cA (n+1) 80 [a0]=S9 bf (cA n) a0:=u3
def u81:cA (n+1) 81 [a0,a1]=Ta bf (cA n) a0 a1:=u3
def u82:cA (n+1) 82 [a0,a1]=Tb bf (cA n) a0 a1:=u3
def u83:cA (n+1) 83 [a0]=Tc bf (cA n) a0:=u3
def u85:cA (n+1) 85 [a0,a1]=Td bf (cA n) a0 a1:=u3
def u87:cA (n+1) 87 [a0,a1]=Te bf (cA n) a0 a1:=u3
def u90:cA (n+1) 90 [a0,a1]=Tf bf (cA n) a0 a1:=u3
def u91:cA (n+1) 91 [a0,a1]=Tg bf (cA n) a0 a1:=u3
def u96:cA (n+1) 96 [a0,a1,a2]=Th bf (cA n) a0 a1 a2:=u3
def u97:cA (n+1) 97 [a0]=Tj bf (cA n) a0:=u3
def u98:cA (n+1) 98 [a0,a1]=Tk bf (cA n) a0 a1:=u3
def XE:cA (n+1) 100 [a0,a1]=Kv bf (cA n) a0 a1:=u3
def XF:cA (n+1) 101 [a0,a1]=Hn bf (cA n) a0 a1:=u3
def XG:cA (n+1) 103 [a0,a1]=Kw bf (cA n) a0 a1:=u3
def XH:cA (n+1) 104 [a0,a1,a2]=Kx bf (cA n) a0 a1 a2:=u3
def XI:cA (n+1) 105 [a0,a1]=Ky bf (cA n) a0 a1:=u3
def XJ:cA (n+1) 106 [a0,a1,a2]=KA bf (cA n) a0 a1 a2:=u3
def XK:cA (n+1) 107 [a0,a1]=KB bf (cA n) a0 a1:=u3
def XL:cA (n+1) 108 [a0,a1]=KC bf (cA n) a0 a1:=u3
def XM:cA (n+1) 109 [a0,a1,a2]=KD bf (cA n) a0 a1 a2:=u3
def XN:cA (n+1) 110 [a0,a1]=KE bf (cA n) a0 a1:=u3
def XO:cA (n+1) 111 [a0,a1,a2]=KF bf (cA n) a0 a1 a2:=u3
def XP:cA (n+1) 112 [a0,a1]=KG bf (cA n) a0 a1:=u3
def XQ:cA (n+1) 115 [a0]=KH bf (cA n) a0:=u3
def XR:cA (n+1) 116 [a0,a1]=KI bf (cA n) a0 a1:=u3
def XS:cA (n+1) 117 [a0,a1]=KJ bf (cA n) a0 a1:=u3
def XT:cA (n+1) 118 [a0]=KK bf (cA n) a0:=u3
def XU:cA (n+1) 119 []=KL bf (cA n) :=u3
def XV:cA (n+1) 120 [a0,a1]=KM bf (cA n) a0 a1:=u3
def XW:cA (n+1) 121 [a0,a1]=KN bf (cA n) a0 a1:=u3
def XX:cA (n+1) 122 [a0,a1]=KO bf (cA n) a0 a1:=u3
def XY:cA (n+1) 123 [a0,a1]=KP bf (cA n) a0 a1:=u3
def Sq:cA (n+1) 124 [a0]=Ho bf (cA n) a0:=u3
def XZ:cA (n+1) 127 [a0]=KQ bf (cA n) a0:=u3
def Sr:cA (n+1) 128 [a0]=Hp bf (cA n) a0:=u3
def X3:cA (n+1) 129 [a0]=KR bf (cA n) a0:=u3
def X4:cA (n+1) 130 []=KS bf (cA n) :=u3
def X5:cA (n+1) 131 [a0,a1]=KU bf (cA n) a0 a1:=u3
def Qf:cA (n+1) 132 [a0,a1]=FC bf (cA n) a0 a1:=u3
def X7:cA (n+1) 134 [a0,a1]=KV bf (cA n) a0 a1:=u3
def X8:cA (n+1) 135 [a0]=KW bf (cA n) a0:=u3
def Ss:cA (n+1) 136 [a0]=Hq bf (cA n) a0:=u3
def X9:cA (n+1) 137 [a0,a1]=KX bf (cA n) a0 a1:=u3
def Ya:cA (n+1) 138 [a0]=KY bf (cA n) a0:=u3
def Yb:cA (n+1) 139 [a0]=KZ bf (cA n) a0:=u3
def Yc:cA (n+1) 140 [a0]=La bf (cA n) a0:=u3
def Yd:cA (n+1) 141 [a0,a1]=Lb bf (cA n) a0 a1:=u3
def Ye:cA (n+1) 142 [a0]=Lc bf (cA n) a0:=u3
def Yf:cA (n+1) 144 [a0,a1]=Ld bf (cA n) a0 a1:=u3
def Yg:cA (n+1) 147 [a0,a1]=Le bf (cA n) a0 a1:=u3
def Yh:cA (n+1) 148 [a0]=Lf bf (cA n) a0:=u3
def Yi:cA (n+1) 152 [a0,a1]=Lg bf (cA n) a0 a1:=u3
def Yj:cA (n+1) 154 [a0,a1]=Lh bf (cA n) a0 a1:=u3
def Yk:cA (n+1) 155 [a0]=Li bf (cA n) a0:=u3
def Yl:cA (n+1) 156 [a0,a1,a2,a3,a4]=Lj bf (cA n) a0 a1 a2 a3 a4:=u3
def Ym:cA (n+1) 165 [a0]=Lk bf (cA n) a0:=u3
def Yn:cA (n+1) 167 [a0]=Ll bf (cA n) a0:=u3
def Yo:cA (n+1) 168 [a0,a1]=Lm bf (cA n) a0 a1:=u3
def Yp:cA (n+1) 169 []=Ln bf (cA n) :=u3
def Yq:cA (n+1) 170 [a0,a1]=Lo bf (cA n) a0 a1:=u3
def Yr:cA (n+1) 171 [a0]=Lr bf (cA n) a0:=u3
def Qg:cA (n+1) 172 [a0,a1]=FD bf (cA n) a0 a1:=u3
def Su:cA (n+1) 173 [a0,a1]=Hr bf (cA n) a0 a1:=u3
def Sv:cA (n+1) 174 [a0,a1]=Hs bf (cA n) a0 a1:=u3
def Ys:cA (n+1) 186 [a0]=Ls bf (cA n) a0:=u3
def Yt:cA (n+1) 187 [a0]=Lt bf (cA n) a0:=u3
def Yu:cA (n+1) 188 [a0,a1]=Lu bf (cA n) a0 a1:=u3
def Yv:cA (n+1) 194 [a0]=Lv bf (cA n) a0:=u3
def Yw:cA (n+1) 195 [a0,a1]=Lw bf (cA n) a0 a1:=u3
def Yx:cA (n+1) 196 [a0]=Lx bf (cA n) a0:=u3
def Yy:cA (n+1) 197 [a0,a1]=Ly bf (cA n) a0 a1:=u3
def Yz:cA (n+1) 201 [a0,a1]=Lz bf (cA n) a0 a1:=u3
def YA:cA (n+1) 202 [a0]=FE bf (cA n) a0:=u3
def Sw:cA (n+1) 203 [a0,a1]=Ht bf (cA n) a0 a1:=u3
def YB:cA (n+1) 215 [a0]=LA bf (cA n) a0:=u3
def YC:cA (n+1) 217 [a0]=LB bf (cA n) a0:=u3
def YD:cA (n+1) 333 [a0,a1]=LC bf (cA n) a0 a1:=u3
def YE:cA (n+1) 336 [a0,a1]=LD bf (cA n) a0 a1:=u3
def YF:cA (n+1) 342 [a0]=LE bf (cA n) a0:=u3
def YG:cA (n+1) 352 [a0,a1]=LF bf (cA n) a0 a1:=u3
def Sx:cA (n+1) 357 [a0]=Hu bf (cA n) a0:=u3
def YH:cA (n+1) 371 [a0,a1]=LG bf (cA n) a0 a1:=u3
def YI:cA (n+1) 385 [a0]=LH bf (cA n) a0:=u3
def SA:cA (n+1) 386 [a0,a1]=Hv bf (cA n) a0 a1:=u3
def YJ:cA (n+1) 392 [a0,a1]=LI bf (cA n) a0 a1:=u3
def YK:cA (n+1) 393 [a0]=LJ bf (cA n) a0:=u3
def Qh:cA (n+1) 394 [a0]=FF bf (cA n) a0:=u3
def YL:cA (n+1) 416 [a0,a1,a2,a3]=LK bf (cA n) a0 a1 a2 a3:=u3
def YM:cA (n+1) 421 [a0,a1,a2,a3,a4]=LL bf (cA n) a0 a1 a2 a3 a4:=u3
def YN:cA (n+1) 423 [a0,a1,a2]=LN bf (cA n) a0 a1 a2:=u3
def YO:cA (n+1) 425 [a0,a1,a2,a3]=LP bf (cA n) a0 a1 a2 a3:=u3
def YP:cA (n+1) 429 [a0,a1]=LQ bf (cA n) a0 a1:=u3
def YQ:cA (n+1) 430 [a0,a1,a2]=OQ bf (cA n) a0 a1 a2:=u3
def YR:cA (n+1) 433 [a0,a1]=LR bf (cA n) a0 a1:=u3
def YS:cA (n+1) 434 [a0,a1,a2]=LT bf (cA n) a0 a1 a2:=u3
def YT:cA (n+1) 435 [a0,a1]=LU bf (cA n) a0 a1:=u3
def YU:cA (n+1) 440 [a0,a1]=LV bf (cA n) a0 a1:=u3
def YV:cA (n+1) 443 [a0,a1]=LW bf (cA n) a0 a1:=u3
def YW:cA (n+1) 444 [a0,a1]=LX bf (cA n) a0 a1:=u3
def YX:cA (n+1) 445 [a0,a1]=LY bf (cA n) a0 a1:=u3
def YY:cA (n+1) 447 [a0]=LZ bf (cA n) a0:=u3
def YZ:cA (n+1) 448 [a0]=L4 bf (cA n) a0:=u3
def Y0:cA (n+1) 449 [a0]=L5 bf (cA n) a0:=u3
def Y1:cA (n+1) 450 [a0,a1]=L6 bf (cA n) a0 a1:=u3
def Y2:cA (n+1) 454 [a0,a1]=L7 bf (cA n) a0 a1:=u3
def Y3:cA (n+1) 456 [a0,a1]=L8 bf (cA n) a0 a1:=u3
end
end Sy
end
noncomputable section
namespace Geo
structure V where
 x:Int
 y:Int
 z:Int
deriving DecidableEq
namespace V
def sub(a b:V):V:=⟨a.x-b.x,a.y-b.y,a.z-b.z⟩
def neg(a:V):V:=⟨-a.x,-a.y,-a.z⟩
def add(a b:V):V:=⟨a.x+b.x,a.y+b.y,a.z+b.z⟩
def smul(k:Int)(a:V):V:=⟨k*a.x,k*a.y,k*a.z⟩
def dot(a b:V):Int:=a.x*b.x+a.y*b.y+a.z*b.z
def cross(a b:V):V:=⟨a.y*b.z-a.z*b.y,a.z*b.x-a.x*b.z,a.x*b.y-a.y*b.x⟩
def zero:V:=⟨0,0,0⟩
def ext'{a b:V}(h1:a.x=b.x)(h2:a.y=b.y)(h3:a.z=b.z):a=b:=by cases a;cases b;simp_all
end V
open V
def Aq{a:Int}(h:a≠0):0<a*a:=by
 rcases Int.lt_or_lt_of_ne h with h|h
 ·exact zPb h h
 ·exact zBa h h
def nv(a:Int):0<=a*a:=by
 rcases zxb a 0 with h|h|h
 ·exact zpa (zPb h h)
 ·subst h;decide
 ·exact zpa (zBa h h)
def io(a:V):0<=dot a a:=by have:=nv a.x;have:=nv a.y;have:=nv a.z;simp only[dot];omega
def oD{a:V}(h:dot a a=0):a=zero:=by
 have h1:=nv a.x;have h2:=nv a.y;have h3:=nv a.z;simp only[dot] at h;have b:a.x*a.x=0:=j1
 have c:a.y*a.y=0:=j1
 have d:a.z*a.z=0:=j1
 apply V.ext'<;>simp only[zero]<;>(first|(rcases z7a.1 b with h|h<;>exact h)|(rcases z7a.1 c with h|h<;>exact h)|(rcases z7a.1 d with h|h<;>exact h))
def aJ{a:V}(h:a≠zero):0<dot a a:=by
 have:=io a;rcases zVa this with h1|h1
 ·exact h1
 ·exact z3a (oD h1.symm) h
def T(n u v:V):Int:=dot n (cross u v)
def gS{a b:Int}(d:0<a)(h:0<a*b):0<b:=by
 rcases zxb b 0 with c|c|c
 ·have:=zXa d c;omega
 ·subst c;simp at h
 ·exact c
def nW{a b:Int}(d:0<a)(h:0<=a*b):0<=b:=by
 rcases zwb b 0 with c|c
 ·have:=zXa d c;omega
 ·exact c
def aA{a b:Int}(c:0<a)(h:a*b=0):b=0:=by
 rcases z7a.1 h with h|h
 ·omega
 ·exact h
section plane
variable{n:V}(hn:n≠zero)
include hn
def zU(f:V){u v w:V}(hu:dot n u=0)(a:dot n v=0)(hw:dot n w=0) :
  dot f u*T n v w+dot f v*T n w u+dot f w*T n u v=0:=by
 have h:dot n n*(dot f u*T n v w+dot f v*T n w u+dot f w*T n u v)=0:=by simp only[T,dot,cross] at *;grind
 exact aA (aJ hn) h
def Ea{f u v w:V}(hu:dot n u=0)(c:dot n v=0)(hw:dot n w=0)(a:0<dot f u)(fv:0<dot f v)(b:0<dot f w)
  (h1:0<=T n u v) (h2:0<=T n v w):0<=T n u w/\(0<T n u v\/0<T n v w->0<T n u w):=by
 have p:=zU hn f hu c hw;have e:T n w u=- T n u w:=by simp only[T,dot,cross];grind
 rw[e] at p;have q:dot f v*T n u w=dot f u*T n v w+dot f w*T n u v:=by have:dot f v*-T n u w=-(dot f v*T n u w):=zFb _ _;omega
 have d:=z8a (zpa a) h2;have g:=z8a (zpa b) h1;refine⟨nW fv j1,λh=>gS fv ?_⟩
 rcases h with h|h
 ·have:=zBa b h;omega
 ·have:=zBa a h;omega
def dO{u v:V}(hu:dot n u=0)(d:dot n v=0)(h:T n u v=0):cross u v=zero:=by
 have hp:=aJ hn;have a:dot n n*(cross u v).x=T n u v*n.x:=by simp only[T,dot,cross] at *;grind
 have b:dot n n*(cross u v).y=T n u v*n.y:=by simp only[T,dot,cross] at *;grind
 have c:dot n n*(cross u v).z=T n u v*n.z:=by simp only[T,dot,cross] at *;grind
 rw[h,z7b] at a b c;exact V.ext' (aA hp a) (aA hp b) (aA hp c)
end plane
def zT{u v:V}(h:cross u v=zero)(f:V):smul (dot f u) v=smul (dot f v) u:=by
 have h1:(cross u v).x=0:=by rw[h];rfl
 have h2:(cross u v).y=0:=by rw[h];rfl
 have h3:(cross u v).z=0:=by rw[h];rfl
 simp only[cross] at h1 h2 h3;apply V.ext'<;>simp only[smul,dot]<;>grind
def Ju{u v:V}(h:cross u v=zero)(hu:u≠zero)(a:dot v u=dot u u):v=u:=by
 have p:=zT h u;have e:dot u v=dot v u:=by simp only[dot];grind
 have hp:=aJ hu;rw[e,a] at p;have b:dot u u*(v.x-u.x)=0:=by have:=zma V.x p;simp only[smul] at this;grind
 have c:dot u u*(v.y-u.y)=0:=by have:=zma V.y p;simp only[smul] at this;grind
 have d:dot u u*(v.z-u.z)=0:=by have:=zma V.z p;simp only[smul] at this;grind
 have:=aA hp b;have:=aA hp c;have:=aA hp d;exact V.ext' j1 j1 j1
theorem gR{α:Type}(φ:α->Int):∀ l:List α,∃ N:Int,0<N/\∀ x∈l,-N<φ x/\φ x<N
 | []=>⟨1,j2,j3⟩
 | a::l=>by
  obtain⟨N,h0,h⟩:=gR φ l;refine⟨N+(φ a).natAbs+1,j1,λx hx=>?_⟩
  rcases zEa.1 hx with rfl|hx
  ·omega
  ·have:=h x hx;omega
def wy(P:Nat->V)(a x:Nat):V:=sub (P x) (P a)
structure Side(n:V)(P:Nat->V)(on:List Nat)(a b:Nat):Prop where
 mem:b∈on
 ne:b≠a
 all:∀ x∈on,0<=T n (wy P a b) (wy P a x)/\(T n (wy P a b) (wy P a x)=0->0<=dot (wy P a x) (wy P a b)/\dot (wy P a x) (wy P a b)<=dot (wy P a b) (wy P a b))
def mG(P:Nat->V)(on:List Nat)(a:Nat):Prop:=∃ f:V,∀ x∈on,x≠a->0<dot f (wy P a x)
structure Flat(n:V)(P:Nat->V)(on:List Nat):Prop where
 nz:n≠zero
 pl:∀ x∈on,∀ y∈on,dot n (wy P x y)=0
 inj:∀ x∈on,∀ y∈on,P x=P y->x=y
section poly
variable{n:V}{P:Nat->V}{on:List Nat}
def qQ(h:Flat n P on){a b:Nat}(i:a∈on)(j:b∈on)(c:b≠a):wy P a b≠zero:=λe=>by apply c;apply h.inj b j a i;have d:=zma V.x e;have f:=zma V.y e;have g:=zma V.z e;simp only[wy,sub,zero] at d f g;exact V.ext' j1 j1 j1
def Km{a b c:Nat}(h:wy P a b=wy P a c):P b=P c:=by have d:=zma V.x h;have e:=zma V.y h;have f:=zma V.z h;simp only[wy,sub] at d e f;exact V.ext' j1 j1 j1
def ach(h:Flat n P on){a b c:Nat}(f:a∈on)(d:Side n P on a b)(hc:Side n P on a c):b=c:=by
 have h1:=d.all c hc.mem;have h2:=hc.all b d.mem;have e:T n (wy P a c) (wy P a b)=- T n (wy P a b) (wy P a c):=by simp only[T,dot,cross];grind
 rw[e] at h2;have t0:T n (wy P a b) (wy P a c)=0:=j1
 have j:=h1.2 t0;have k:=h2.2 j1
 have es:dot (wy P a b) (wy P a c)=dot (wy P a c) (wy P a b):=by simp only[dot];grind
 have hx:=dO h.nz (h.pl a f b d.mem) (h.pl a f c hc.mem) t0;have hq:dot (wy P a b) (wy P a b)*dot (wy P a c) (wy P a c)=dot (wy P a c) (wy P a b)*dot (wy P a c) (wy P a b):=by have p:=zT hx (wy P a b);have m:=zma V.x p;have o:=zma V.y p;have q:=zma V.z p;simp only[smul] at m o q;simp only[dot] at *;grind
 have l:=aJ (qQ h f d.mem d.ne);have g:=aJ (qQ h f hc.mem hc.ne);have hle:dot (wy P a c) (wy P a b)=dot (wy P a b) (wy P a b):=by
  generalize dot (wy P a b) (wy P a b)=B at *;generalize dot (wy P a c) (wy P a c)=C at *;generalize dot (wy P a c) (wy P a b)=X at *;rw[es] at k;rcases zVa j.2 with i|heq
  ·exfalso;have:X*X<B*C:=by
    have a1:X*X<=X*C:=zja k.2 j.1;have a2:X*C<B*C:=Int.mul_lt_mul_of_pos_right i g;omega
   omega
  ·exact heq
 have:=Ju hx (qQ h f d.mem d.ne) hle;exact(h.inj c hc.mem b d.mem (Km this)).symm
def Side.ext(h:Flat n P on){a b:Nat}(d:a∈on)(c:Side n P on a b):mG P on b:=by
 obtain⟨N,m,l⟩:=gR (λx=>dot (wy P b a) (wy P b x)) on;refine⟨add (smul N (cross n (wy P a b))) (wy P b a),λx hx g=>?_⟩;have e:dot (add (smul N (cross n (wy P a b))) (wy P b a)) (wy P b x)=N*T n (wy P a b) (wy P a x)+dot (wy P b a) (wy P b x):=by simp only[T,dot,cross,add,smul,wy,sub];grind
 rw[e];obtain⟨h1,h2⟩:=c.all x hx;have h3:=l x hx;rcases zVa h1 with o|heq
 ·have:N*1<=N*T n (wy P a b) (wy P a x):=zja j1 j1
  omega
 ·rw[<-heq,zrb,zrc];have k:=h2 heq.symm;have j:dot (wy P b a) (wy P b x)=dot (wy P a b) (wy P a b)-dot (wy P a x) (wy P a b):=by simp only[dot,wy,sub];grind
  rw[j];rcases zVa k.2 with i|i
  ·omega
  ·exfalso;have f:=dO h.nz (h.pl a d b c.mem) (h.pl a d x hx) heq.symm;exact g (h.inj x hx b c.mem (Km (Ju f (qQ h d c.mem c.ne) i)))
def abW(h:Flat n P on){a x y:Nat}(i:a∈on)(hx:x∈on)(hy:y∈on)(C:mG P on a)(ex:mG P on x)(D:mG P on y)(d:x≠a)(e:y≠a)(ht:T n (wy P a x) (wy P a y)=0):x=y:=by
 by_cases hxy:x=y
 ·exact hxy
 exfalso;obtain⟨f,hf⟩:=C;obtain⟨g,w⟩:=ex;obtain⟨k,hk⟩:=D;have c:=dO h.nz (h.pl a i x hx) (h.pl a i y hy) ht;have p:=zT c f;have E:=hf x hx d;have v:=hf y hy e;have g1:=w a i (Ne.symm d);have g2:=w y hy (Ne.symm hxy);have G:=hk a i (Ne.symm e);have H:=hk x hx hxy;have K:dot f (wy P a x)*dot g (wy P a y)=dot f (wy P a y)*dot g (wy P a x):=by have s:=zma V.x p;have t:=zma V.y p;have u:=zma V.z p;simp only[smul] at s t u;generalize dot f (wy P a x)=A at *;generalize dot f (wy P a y)=B at *;simp only[dot];grind
 have I:dot f (wy P a x)*dot k (wy P a y)=dot f (wy P a y)*dot k (wy P a x):=by have s:=zma V.x p;have t:=zma V.y p;have u:=zma V.z p;simp only[smul] at s t u;generalize dot f (wy P a x)=A at *;generalize dot f (wy P a y)=B at *;simp only[dot];grind
 have j:dot g (wy P x a)=- dot g (wy P a x):=by simp only[dot,wy,sub];grind
 have l:dot g (wy P x y)=dot g (wy P a y)-dot g (wy P a x):=by simp only[dot,wy,sub];grind
 have m:dot k (wy P y a)=- dot k (wy P a y):=by simp only[dot,wy,sub];grind
 have o:dot k (wy P y x)=dot k (wy P a x)-dot k (wy P a y):=by simp only[dot,wy,sub];grind
 rw[j] at g1;rw[l] at g2;rw[m] at G;rw[o] at H;generalize dot f (wy P a x)=A at *;generalize dot f (wy P a y)=B at *;generalize dot g (wy P a x)=gx at *;generalize dot g (wy P a y)=F at *;generalize dot k (wy P a x)=r at *;generalize dot k (wy P a y)=b at *;have r1:B<A:=by
  rcases zwb B A with q|q
  ·exact q
  ·exfalso;have s1:B*gx<=A*gx:=by
    have:=z1b q (show 0<=-gx by omega)
    simp only[zFb] at this;omega
   have s2:A*gx<A*F:=zmb j1 E
   omega
 have L:A*b<B*b:=by
  have J:B*b<B*r:=zmb j1 v
  have M:A*b=B*r:=I;have N:A*b<=B*b:=by
   have:=z1b (zpa r1) (show 0<=-b by omega)
   simp only[zFb] at this;omega
  omega
 have J:B*b<B*r:=zmb j1 v
 omega
def Sl(a x y:Nat):T n (wy P x y) (wy P x a)=T n (wy P a x) (wy P a y):=by simp only[T,dot,cross,wy,sub];grind
def Fw(u v:V):T n v u=- T n u v:=by simp only[T,dot,cross];grind
def Side.after(h:Flat n P on){a x y:Nat}(d:a∈on)(hx:x∈on)(e:mG P on a)(ex:mG P on x)(b:x≠a)(hs:Side n P on x y)(c:y≠a):0<T n (wy P a x) (wy P a y):=by
 have h1:=(hs.all a d).1;rw[Sl] at h1;rcases zVa h1 with h2|h2
 ·exact h2
 ·exact z3a (abW h d hx hs.mem e ex (hs.ext h hx) b c h2.symm) hs.ne.symm
def Mn(h:Flat n P on){a x y z:Nat}(i:a∈on)(hx:x∈on)(b:z∈on)(hs:Side n P on x y)(o:mG P on z)(h1:0<T n (wy P a x) (wy P a z))(h2:0<T n (wy P a z) (wy P a y)):False:=by
 obtain⟨f,hf⟩:=o;have c:a≠z:=λe=>by subst e;simp[T,dot,cross,wy,sub] at h2
 have d:x≠z:=λe=>by
  subst e;have:T n (wy P a x) (wy P a x)=0:=by simp only[T,dot,cross];grind
  omega
 have g:y≠z:=λe=>by
  subst e;have:T n (wy P a y) (wy P a y)=0:=by simp only[T,dot,cross];grind
  omega
 have f1:=hf a i c;have f2:=hf x hx d;have f3:=hf y hs.mem g;have h3:=(hs.all z b).1;have e:dot n n*(T n (wy P x y) (wy P x z)*dot f (wy P z a)+T n (wy P a z) (wy P a y)*dot f (wy P z x)+T n (wy P a x) (wy P a z)*dot f (wy P z y))=0:=by
  have p:=h.pl z b a i;have q:=h.pl z b x hx;have r:=h.pl z b y hs.mem;have k:T n (wy P x y) (wy P x z)=T n (wy P z x) (wy P z y):=Sl z x y;have l:T n (wy P a z) (wy P a y)=T n (wy P z y) (wy P z a):=by simp only[T,dot,cross,wy,sub];grind
  have m:T n (wy P a x) (wy P a z)=T n (wy P z a) (wy P z x):=by simp only[T,dot,cross,wy,sub];grind
  rw[k,l,m];have j:=zU h.nz f p q r;rw[zHa (dot f (wy P z a)),zHa (dot f (wy P z x)),zHa (dot f (wy P z y))] at j;rw[show T n (wy P z x) (wy P z y)*dot f (wy P z a)+T n (wy P z y) (wy P z a)*dot f (wy P z x)+T n (wy P z a) (wy P z x)*dot f (wy P z y)=0 from j,zrb]
 have s:=aA (aJ h.nz) e;have m1:=z8a h3 (zpa f1);have m2:=zBa h2 f2;have m3:=zBa h1 f3;omega
theorem xj{α:Type}{p q:α->Bool}:∀ {l:List α},(∀ x∈l,p x=true->q x=true)->(∃ y∈l,q y=true/\p y=false)->l.countP p<l.countP q
 | [],_,h=>by obtain⟨y,hy,_⟩:=h;cases hy
 | a::l,h,hy=>by
  have hl:l.countP p<=l.countP q:=by have b:∀ x∈l,p x=true->q x=true:=λx hx=>h x (zoa _ hx);exact List.countP_mono_left b
  have c:=h a zsa;rw[List.countP_cons,List.countP_cons];obtain⟨y,hm,hq,hp⟩:=hy;rcases zEa.1 hm with rfl|hm
  ·simp[hq,hp];omega
  ·have:=xj (l:=l) (λx hx=>h x (zoa _ hx)) ⟨y,hm,hq,hp⟩;cases hpa:p a
   ·simp;omega
   ·simp[c hpa];omega
inductive Chain(S:Nat->Nat->Prop)(a₀:Nat):Nat->List Nat->Prop
 | done {c:Nat}:S c a₀->Chain S a₀ c [c]
 | step {c y:Nat} {l:List Nat}:S c y->y≠a₀->Chain S a₀ y l->Chain S a₀ c (c::l)
def walk(h:Flat n P on){a:Nat}(q:a∈on)(D:mG P on a)(k:∀ c∈on,mG P on c->∃ b,Side n P on c b){c:Nat}(hc:c∈on)(r:mG P on c)(j:c≠a) :
  ∃ l,Chain (Side n P on) a c l/\(∀ z∈l,z∈on/\mG P on z/\z≠a/\(z=c\/0<T n (wy P a c) (wy P a z)))/\(∀ z∈on,mG P on z->z≠a->0<T n (wy P a c) (wy P a z)->z∈l) ∧
   l.Pairwise (λx y=>0<T n (wy P a x) (wy P a y)):=by
 generalize hm:on.countP (λz=>decide (0<T n (wy P a c) (wy P a z)))=m
 induction m using Nat.strongRecOn generalizing c with
 | _ m ih=>
  obtain⟨y,hy⟩:=k c hc r;obtain⟨f,hf⟩:=D;by_cases hya:y=a
  ·subst hya;refine⟨[c],.done hy,λz d=>?_,λz d s i ht=>?_,j3⟩
   ·rw[zLa] at d;subst d;exact⟨hc,r,j,.inl rfl⟩
   ·have h1:=(hy.all z d).1;have e:T n (wy P c y) (wy P c z)=- T n (wy P y c) (wy P y z):=by simp only[T,dot,cross,wy,sub];grind
    omega
  ·have g:=Side.after h q hc ⟨f,hf⟩ r j hy hya;have v:=hy.ext h hc;have tr:∀ z∈on,0<T n (wy P a y) (wy P a z)->0<T n (wy P a c) (wy P a z):=λz d ht=>by
    have i:z≠a:=λe=>by
     subst e;have:T n (wy P z y) (wy P z z)=0:=by simp[T,dot,cross,wy,sub]
     omega
    exact(Ea h.nz (h.pl a q c hc) (h.pl a q y hy.mem) (h.pl a q z d) (hf c hc j) (hf y hy.mem hya) (hf z d i) (zpa g) (zpa ht)).2 (.inl g)
   have p:T n (wy P a y) (wy P a y)=0:=by simp only[T,dot,cross];grind
   obtain⟨l,w,A,F,G⟩:=ih _ (by rw[<-hm];refine xj (λz d ht=>by simp only[zfa] at ht ⊢;exact tr z d ht) ⟨y,hy.mem,by simpa using g,by simp[p]⟩) hy.mem v hya rfl
   refine⟨c::l,.step hy hya w,λz d=>?_,λz d s i ht=>?_,zSa.2 ⟨λz d=>?_,G⟩⟩
   ·rcases zEa.1 d with rfl|d
    ·exact⟨hc,r,j,.inl rfl⟩
    ·obtain⟨t,B,C,o⟩:=A z d;refine⟨t,B,C,.inr ?_⟩;rcases o with rfl|o
     ·exact g
     ·exact tr z t o
   ·rcases zxb (T n (wy P a y) (wy P a z)) 0 with E|heq|u
    ·have e:=Fw (n:=n) (wy P a y) (wy P a z);exact(Mn h q hc d hy s ht j1).elim
    ·have:=abW h q hy.mem d ⟨f,hf⟩ v s hya i heq;subst this;have:y∈l:=by cases w<;>exact zsa
     exact zoa _ this
    ·exact zoa _ (F z d s i u)
   ·obtain⟨t,B,C,o⟩:=A z d;rcases o with rfl|o
    ·exact g
    ·exact tr z t o
def rm(n:V)(P:Nat->V)(a b k:Nat):Bool:=
 decide (T n (wy P a b) (wy P a k)<0)||(decide (T n (wy P a b) (wy P a k)=0)&&decide (dot (wy P a b) (wy P a b)<dot (wy P a k) (wy P a k)))
def dh(n:V)(P:Nat->V)(a:Nat)(best:Option Nat)(k:Nat):Option Nat:=
 if k=a then best else match best with
  | none=>some k
  | some b=>if rm n P a b k then some k else some b
theorem tg(h:Flat n P on){a:Nat}(j:a∈on)(t:mG P on a):∀ (l pre:List Nat) (best:Option Nat),(∀ x∈pre,x∈on)->(∀ x∈l,x∈on) ->
  (match best with
   | none=>∀ x∈pre,x=a
   | some b=>b∈pre/\b≠a/\∀ x∈pre,x≠a->0<T n (wy P a b) (wy P a x)\/(T n (wy P a b) (wy P a x)=0/\dot (wy P a x) (wy P a x)<=dot (wy P a b) (wy P a b))) ->
  match l.foldl (dh n P a) best with
   | none=>∀ x∈pre++l,x=a
   | some b=>b∈pre++l/\b≠a/\∀ x∈pre++l,x≠a->0<T n (wy P a b) (wy P a x)\/(T n (wy P a b) (wy P a x)=0/\dot (wy P a x) (wy P a x)<=dot (wy P a b) (wy P a b))
 | [],pre,best,_,_,e=>by simpa using e
 | k::l,pre,best,h1,h2,e=>by
  rw[zWc];have hk:k∈on:=h2 k zsa;rw[show pre++k::l=(pre++[k])++l by simp]
  refine tg h j t l (pre++[k]) _ (λx hx=>?_) (λx hx=>h2 x (zoa _ hx)) ?_
  ·rcases List.mem_append.1 hx with hx|hx
   ·exact h1 x hx
   ·rw[zLa] at hx;exact hx ▸ hk
  unfold dh;by_cases hka:k=a
  ·rw[zna hka];subst hka;cases best with
   | none=>
    simp only at e ⊢;intro x hx;rcases List.mem_append.1 hx with hx|hx
    ·exact e x hx
    ·exact zLa.1 hx
   | some b=>
    simp only at e ⊢;refine⟨List.mem_append_left _ e.1,e.2.1,λx hx d=>?_⟩;rcases List.mem_append.1 hx with hx|hx
    ·exact e.2.2 x hx d
    ·exact z3a (zLa.1 hx) d
  ·rw[zka hka];cases best with
   | none=>
    simp only at e ⊢;refine⟨zJa _ (zLa.2 rfl),hka,λx hx d=>?_⟩;rcases List.mem_append.1 hx with hx|hx
    ·exact z3a (e x hx) d
    ·rw[zLa.1 hx];right;exact⟨by simp only[T,dot,cross];grind,zjc _⟩
   | some b=>
    simp only at e ⊢;obtain⟨q,r,s⟩:=e;have g:=h1 b q;obtain⟨f,hf⟩:=t;by_cases hbt:rm n P a b k=true
    ·rw[zna hbt];simp only;refine⟨zJa _ (zLa.2 rfl),hka,λx hx d=>?_⟩;have v:=Fw (n:=n) (wy P a b) (wy P a k);simp only[rm,z9b,zaa,zfa] at hbt;rcases List.mem_append.1 hx with hx|hx
     ·have i:=h1 x hx;have c:=s x hx d;have o:0<=T n (wy P a k) (wy P a b):=j1
      have p:0<=T n (wy P a b) (wy P a x):=j1
      obtain⟨t1,t2⟩:=Ea h.nz (h.pl a j k hk) (h.pl a j b g) (h.pl a j x i) (hf k hk hka) (hf b g r) (hf x i d) o p;rcases zVa t1 with m|heq
      ·exact .inl m
      ·right;refine⟨heq.symm,?_⟩;have:¬ (0<T n (wy P a k) (wy P a b)\/0<T n (wy P a b) (wy P a x)):=λu=>by have:=t2 u;omega
       omega
     ·rw[zLa.1 hx];right;exact⟨by simp only[T,dot,cross];grind,zjc _⟩
    ·rw[zka hbt];simp only;refine⟨List.mem_append_left _ q,r,λx hx d=>?_⟩;rcases List.mem_append.1 hx with hx|hx
     ·exact s x hx d
     ·rw[zLa.1 hx];simp only[rm,z9b,zaa,zfa] at hbt;omega
def yh(h:Flat n P on){a:Nat}(l:a∈on)(t:mG P on a)(h2:∃ x∈on,x≠a):∃ b,on.foldl (dh n P a) none=some b/\Side n P on a b:=by
 have key:=tg h l t on [] none j3 (λx hx=>hx) j3
 cases hr:on.foldl (dh n P a) none with
 | none=> rw[hr] at key;obtain⟨x,hx,d⟩:=h2;exact z3a (key x (by simpa using hx)) d
 | some b=>
  rw[hr] at key;simp only[ztc] at key;obtain⟨m,o,w⟩:=key;refine⟨b,rfl,m,o,λx hx=>?_⟩;by_cases d:x=a
  ·subst d;have e:wy P x x=zero:=by simp[wy,sub,zero]
   have:T n (wy P x b) (wy P x x)=0:=by rw[e];simp[T,dot,cross,zero]
   have hp:=io (wy P x b);have u:dot (wy P x x) (wy P x b)=0:=by rw[e];simp[dot,zero]
   rw[this,u];exact⟨zjc _,λ_=>⟨zjc _,hp⟩⟩
  ·have c:=w x hx d;refine⟨j1,λt0=>?_⟩
   have c2:dot (wy P a x) (wy P a x)<=dot (wy P a b) (wy P a b):=j1
   obtain⟨f,hf⟩:=t;have k:=dO h.nz (h.pl a l b m) (h.pl a l x hx) t0;have p:=zT k f;have fb:=hf b m o;have v:=hf x hx d;have i:=aJ (qQ h l m o);have C:dot f (wy P a b)*dot (wy P a x) (wy P a b)=dot f (wy P a x)*dot (wy P a b) (wy P a b):=by have q:=zma V.x p;have r:=zma V.y p;have s:=zma V.z p;simp only[smul] at q r s;generalize dot f (wy P a b)=A at *;generalize dot f (wy P a x)=B at *;simp only[dot];grind
   have g:0<dot (wy P a x) (wy P a b):=gS fb (by rw[C];exact zBa v i)
   refine⟨zpa g,?_⟩;have E:dot (wy P a b) (wy P a b)*dot (wy P a x) (wy P a x)=dot (wy P a x) (wy P a b)*dot (wy P a x) (wy P a b):=by have p:=zT k (wy P a b);have q:=zma V.x p;have r:=zma V.y p;have s:=zma V.z p;simp only[smul] at q r s;simp only[dot] at *;grind
   generalize dot (wy P a b) (wy P a b)=B at *;generalize dot (wy P a x) (wy P a x)=X at *;generalize dot (wy P a x) (wy P a b)=D at *;rcases zwb B D with j|hle
   ·exfalso;have a1:B*X<=B*B:=zja c2 (zpa i);have a2:B*B<B*D:=zmb j i;have a3:B*D<D*D:=Int.mul_lt_mul_of_pos_right j g;omega
   ·exact hle
end poly
open V
def aN(a b:V):Prop:=a.x<b.x\/a.x=b.x/\(a.y<b.y\/a.y=b.y/\a.z<b.z)
def Ga{P:Nat->V}{on:List Nat}{a:Nat}(h:∀ x∈on,x≠a->aN (P a) (P x)):mG P on a:=by
 obtain⟨N1,o,j⟩:=gR (λx=>(wy P a x).y) on;obtain⟨N2,p,k⟩:=gR (λx=>(wy P a x).z) on;refine⟨⟨(N1+N2)*(N1+N2)+(N1+N2),N1+N2,1⟩,λx hx i=>?_⟩;have c1:=j x hx;have c2:=k x hx;have hl:=h x hx i;simp only[wy,sub,aN,dot] at *;generalize hX:(P x).x-(P a).x=X at *;generalize hY:(P x).y-(P a).y=Y at *;generalize hZ:(P x).z-(P a).z=Z at *;generalize hN:N1+N2=N;have b:0<N:=j1
 have f:-N+1<=Y:=j1
 have m:Y<=N-1:=j1
 have n:-N+1<=Z:=j1
 have m1:N*(-N+1)<=N*Y:=zja f (zpa b);have m2:N*(-N+1)=-(N*N)+N:=h7
 have l:0<N*N:=zBa b b;rcases hl with hl|⟨h1,hl|⟨h2,hl⟩⟩
 ·have d:1<=X:=j1
  have m3:(N*N+N)*1<=(N*N+N)*X:=zja d j1
  omega
 ·have c:X=0:=j1
  have g:1<=Y:=j1
  have m3:N*1<=N*Y:=zja g j1
  subst c;simp only[zrb];omega
 ·have c:X=0:=j1
  have e:Y=0:=j1
  subst c;subst e;simp only[zrb];omega
section poly
variable{n:V}{P:Nat->V}{on:List Nat}
def Chain.head{S:Nat->Nat->Prop}{a c:Nat}{l:List Nat}(h:Chain S a c l):∃ l',l=c::l':=by cases h<;>exact⟨_,rfl⟩
theorem Chain.pairs{S:Nat->Nat->Prop}{a:Nat}:∀ {c:Nat} {l:List Nat},Chain S a c l->∀ i x,l[i]?=some x->∃ y,(l++[a])[i+1]?=some y/\S x y
 | c,_,.done h,i,x,hx=>by
  cases i with
  | zero=>simp at hx;subst hx;exact⟨a,j3,h⟩
  | succ i=>simp at hx
 | c,_,.step (y:=y) (l:=l) h hne k,i,x,hx=>by
  cases i with
  | zero=> simp at hx;subst hx;obtain⟨l',rfl⟩:=k.head;exact⟨y,j3,h⟩
  | succ i=>
   obtain⟨z,h1,h2⟩:=Chain.pairs k i x (by simpa using hx)
   exact⟨z,by simpa using h1,h2⟩
def Dx(h:Flat n P on){a:Nat}(g:a∈on)(i:mG P on a)(h3:∀ c∈on,∃ x∈on,x≠c) :
  ∃ l,Chain (Side n P on) a a l/\l.Nodup/\(∀ z∈l,z∈on/\mG P on z)/\∀ z∈on,mG P on z->z∈l:=by
 have d:∀ c∈on,mG P on c->∃ b,Side n P on c b:=λc hc j=>by obtain⟨b,_,p⟩:=yh h hc j (h3 c hc);exact⟨b,p⟩
 obtain⟨c,hs⟩:=d a g i;have j:=hs.ext h g;obtain⟨l,o,k,r,s⟩:=walk h g i d hs.mem j hs.ne;refine⟨a::l,.step hs hs.ne o,List.nodup_cons.2 ⟨λhm=>(k a hm).2.2.1 rfl,?_⟩,λz f=>?_,λz f m=>?_⟩
 ·refine List.Pairwise.imp (λ{x y} q e=>?_) s;subst e;have:T n (wy P a x) (wy P a x)=0:=by simp only[T,dot,cross];grind
  omega
 ·rcases zEa.1 f with rfl|f
  ·exact⟨g,i⟩
  ·exact⟨(k z f).1,(k z f).2.1⟩
 ·by_cases hza:z=a
  ·subst hza;exact zsa
  ·refine zoa _ ?_;have h0:=(hs.all z f).1;rcases zVa h0 with hp|he
   ·exact r z f m hza hp
   ·have:=abW h g hs.mem f i j m hs.ne hza he.symm;subst this;obtain⟨l',rfl⟩:=o.head;exact zsa
end poly
def sg(x:Int):Int:=if x<0 then -1 else if 0<x then 1 else 0
def v7(a b:Int):sg a*sg b=sg (a*b):=by
 rcases zxb a 0 with h|h|h<;>rcases zxb b 0 with k|k|k
 ·have:=zPb h k;simp[sg,h,k,this,zQb.2 (zpa this)]
 ·subst k;simp[sg]
 ·have:=zLc h k;simp[sg,h,k,this,zQb.2 (zpa k)]
 ·subst h;simp[sg]
 ·subst h;simp[sg]
 ·subst h;simp[sg]
 ·have:=zXa h k;simp[sg,h,k,this,zQb.2 (zpa h)]
 ·subst k;simp[sg]
 ·have:=zBa h k;simp[sg,h,k,this,zQb.2 (zpa h),zQb.2 (zpa k),zQb.2 (zpa this)]
def iU{x:Int}(h:0<x):sg x=1:=by simp[sg,h,zQb.2 (zpa h)]
def Aj{x:Int}(h:x<0):sg x=-1:=by simp[sg,h]
def xM(n c:V):Int:=if n.x≠0 then sg n.x*sg c.x else if n.y≠0 then sg n.y*sg c.y else if n.z≠0 then sg n.z*sg c.z else 0
def wa{a b p:Int}(hp:0<p){q:Int}(hq:0<q)(h:a*p=q*b):sg a=sg b:=by
 have h1:sg (a*p)=sg a:=by rw[<-v7,iU hp];simp
 have h2:sg (q*b)=sg b:=by rw[<-v7,iU hq];simp
 rw[<-h1,<-h2,h]
def EQ{n c:V}(hn:n≠zero)(h:cross n c=zero):xM n c=sg (dot n c):=by
 have h1:=zma V.x h;have h2:=zma V.y h;have h3:=zma V.z h;simp only[cross,zero] at h1 h2 h3;have hp:=aJ hn;have a:n.x*c.x*dot n n=n.x*n.x*dot n c:=by simp only[dot];grind
 have b:n.y*c.y*dot n n=n.y*n.y*dot n c:=by simp only[dot];grind
 have d:n.z*c.z*dot n n=n.z*n.z*dot n c:=by simp only[dot];grind
 unfold xM;split
 ·rename_i k;rw[v7];exact wa hp (Aq k) a
 ·split
  ·rename_i k;rw[v7];exact wa hp (Aq k) b
  ·split
   ·rename_i k;rw[v7];exact wa hp (Aq k) d
   ·rename_i e f g;exact z3a (V.ext' (by simpa [zero] using e) (by simpa [zero] using f) (by simpa [zero] using g)) hn
def eh{n u v:V}(hu:dot n u=0)(a:dot n v=0):cross n (cross u v)=zero:=by simp only[dot] at hu a;apply V.ext'<;>simp only[cross,zero]<;>grind
open V
def aL(P:Nat->V)(N:Nat)(n:V)(d:Int):List Nat:=(List.range N).filter λk=>decide (dot n (P k)=d)
def CN(P:Nat->V)(N:Nat)(n:V)(d:Int):Prop:=(∀ k,k<N->dot n (P k)<=d)/\∃ k,k<N/\dot n (P k)<d
def cO(P:Nat->V)(i j k:Nat):V:=cross (wy P i j) (wy P i k)
def aW(v:V):Nat:=Nat.gcd (Nat.gcd v.x.natAbs v.y.natAbs) v.z.natAbs
def aF(v:V):V:=⟨v.x/aW v,v.y/aW v,v.z/aW v⟩
structure IsF(P:Nat->V)(N:Nat)(n:V)(d:Int):Prop where
 ex:∃ i j k,i<j/\j<k/\k<N/\cO P i j k≠zero/\(n=aF (cO P i j k)\/n=neg (aF (cO P i j k)))/\d=dot n (P i)
 supp:CN P N n d
def fh{v:V}(h:v≠zero):0<aW v:=by
 rcases zhc (aW v) with e|p
 ·exfalso;unfold aW at e;rw[Nat.gcd_eq_zero_iff,Nat.gcd_eq_zero_iff] at e;exact h (V.ext' (by simp[zero];omega) (by simp[zero];omega) (by simp[zero];omega))
 ·exact p
def fL(v:V):v=smul (aW v) (aF v):=by
 have d1:(aW v:Int) ∣ v.x:=z6a.2 (zbd (ztb _ _) (ztb _ _));have d2:(aW v:Int) ∣ v.y:=z6a.2 (zbd (ztb _ _) (zUb _ _));have d3:(aW v:Int) ∣ v.z:=z6a.2 (zUb _ _);apply V.ext'
 ·exact(zBd d1).symm
 ·exact(zBd d2).symm
 ·exact(zBd d3).symm
def rJ(k:Nat)(v:V):aW (smul k v)=k*aW v:=by simp only[aW,smul,zNa,zva];rw[Nat.gcd_mul_left,Nat.gcd_mul_left]
def jm{v:V}(h:v≠zero):aW (aF v)=1:=by have p:=fh h;have e:=rJ (aW v) (aF v);rw[<-fL v] at e;exact(Nat.eq_of_mul_eq_mul_left p j1).symm
def pV(v:V):aW (neg v)=aW v:=by simp[aW,neg]
def B4(v:V):aF (neg v)=neg (aF v):=by have e:=fL v;unfold aF;rw[pV];have d1:(aW v:Int) ∣ v.x:=z6a.2 (zbd (ztb _ _) (ztb _ _));have d2:(aW v:Int) ∣ v.y:=z6a.2 (zbd (ztb _ _) (zUb _ _));have d3:(aW v:Int) ∣ v.z:=z6a.2 (zUb _ _);simp only[neg,zPc d1,zPc d2,zPc d3]
def uf{v:V}(h:v≠zero):aF v≠zero:=λe=>h (by rw[fL v,e];apply V.ext'<;>simp[smul,zero])
def lh{u v:V}(hu:aW u=1)(i:aW v=1){a b:Int}(f:0<a)(g:0<b)(h:smul a u=smul b v):u=v:=by
 obtain⟨a,rfl⟩:=zYc (zpa f);obtain⟨b,rfl⟩:=zYc (zpa g);have e:=rJ a u;have d:=rJ b v;rw[h,d,hu,i] at e;have:a=b:=j1
 subst this;have h1:=zma V.x h;have h2:=zma V.y h;have h3:=zma V.z h;simp only[smul] at h1 h2 h3;have c:(a:Int)≠0:=j1
 exact V.ext' (Int.eq_of_mul_eq_mul_left c h1) (Int.eq_of_mul_eq_mul_left c h2) (Int.eq_of_mul_eq_mul_left c h3)
section
variable{P:Nat->V}{N:Nat}
def IsF.nz{n:V}{d:Int}(h:IsF P N n d):n≠zero/\aW n=1:=by
 obtain⟨i,j,k,_,_,_,h1,h2|h2,_⟩:=h.ex
 ·subst h2;exact⟨uf h1,jm h1⟩
 ·subst h2;refine⟨λe=>uf h1 ?_,by rw[pV];exact jm h1⟩
  have a:=zma V.x e;have b:=zma V.y e;have c:=zma V.z e;simp only[neg,zero] at a b c;exact V.ext' (by simp only[zero];omega) (by simp only[zero];omega) (by simp only[zero];omega)
def au{n:V}{d:Int}{k:Nat}:k∈aL P N n d↔k<N/\dot n (P k)=d:=by simp[aL]
theorem bo(n:V)(i k:Nat):dot n (wy P i k)=dot n (P k)-dot n (P i):=by simp only[dot,wy,sub];grind
def IsF.three{n:V}{d:Int}(h:IsF P N n d):∃ i j k,i<j/\j<k/\k<N/\i∈aL P N n d/\j∈aL P N n d/\k∈aL P N n d/\cO P i j k≠zero:=by
 obtain⟨i,j,k,a,b,hk,h1,h2,h3⟩:=h.ex;have g:=fh h1;have e:=fL (cO P i j k);have t1:dot (cO P i j k) (wy P i j)=0:=by simp only[cO,dot,cross];grind
 have t2:dot (cO P i j k) (wy P i k)=0:=by simp only[cO,dot,cross];grind
 have key:∀ v:V,dot (cO P i j k) v=0->dot n v=0:=λv c=>by
  rw[e] at c;have:(aW (cO P i j k):Int)*dot (aF (cO P i j k)) v=0:=by rw[<-c];simp only[dot,smul];grind
  have h0:=aA j1 this
  rcases h2 with h2|h2
  ·rw[h2];exact h0
  ·rw[h2];have:dot (neg (aF (cO P i j k))) v=- dot (aF (cO P i j k)) v:=by simp only[dot,neg];grind
   omega
 have f:=key _ t1;have l:=key _ t2;rw[bo] at f l;exact⟨i,j,k,a,b,hk,au.2 ⟨j1,j1⟩,au.2 ⟨j1,j1⟩,au.2 ⟨hk,j1⟩,h1⟩
theorem IsF.flat(hl:∀ i j,i<j->j<N->aN (P i) (P j)){n:V}{d:Int}(h:IsF P N n d):Flat n P (aL P N n d):=by
 refine⟨h.nz.1,λx hx y hy=>?_,λx hx y hy e=>?_⟩
 ·have a:=(au.1 hx).2;have b:=(au.1 hy).2;rw[bo];omega
 ·have a:=(au.1 hx).1;have b:=(au.1 hy).1;rcases zpd x y with c|c|c
  ·have:=hl x y c b;rw[e] at this;simp only[aN] at this;omega
  ·exact c
  ·have:=hl y x c a;rw[e] at this;simp only[aN] at this;omega
def IsF.left(hl:∀ i j,i<j->j<N->aN (P i) (P j)){n:V}{d:Int}(h:IsF P N n d){a b:Nat}(f:a∈aL P N n d)(hs:Side n P (aL P N n d) a b) :
  ∃ x∈aL P N n d,0<T n (wy P a b) (wy P a x):=by
 obtain⟨i,j,k,r,s,hk,p,q,mk,ht⟩:=h.three;have F:=h.flat hl;have key:∀ x∈aL P N n d,0<T n (wy P a b) (wy P a x)\/cross (wy P a b) (wy P a x)=zero:=λx hx=>by
  rcases zVa (hs.all x hx).1 with h1|h1
  ·exact .inl h1
  ·exact .inr (dO F.nz (F.pl a f b hs.mem) (F.pl a f x hx) h1.symm)
 rcases key i p with h1|h1
 ·exact⟨i,p,h1⟩
 rcases key j q with h2|h2
 ·exact⟨j,q,h2⟩
 rcases key k mk with h3|h3
 ·exact⟨k,mk,h3⟩
 exfalso;apply ht;have o:=aJ (qQ F f hs.mem hs.ne);have g:=zT h1 (wy P a b);have l:=zT h2 (wy P a b);have m:=zT h3 (wy P a b);have w1:wy P i j=sub (wy P a j) (wy P a i):=by apply V.ext'<;>simp only[wy,sub]<;>omega
 have K:wy P i k=sub (wy P a k) (wy P a i):=by apply V.ext'<;>simp only[wy,sub]<;>omega
 unfold cO;rw[w1,K];generalize wy P a b=e at *;generalize wy P a i=u at *;generalize wy P a j=v at *;generalize wy P a k=w at *;generalize dot e u=A at *;generalize dot e v=B at *;generalize dot e w=C at *;generalize dot e e=D at *;have t:=zma V.x g;have E:=zma V.y g;have G:=zma V.z g;have r1:=zma V.x l;have H:=zma V.y l;have I:=zma V.z l;have s1:=zma V.x m;have s2:=zma V.y m;have J:=zma V.z m;simp only[smul] at t E G r1 H I s1 s2 J;have c:0<D*D:=zBa o o;apply V.ext'<;>simp only[cross,sub,zero]<;>refine aA c ?_<;>grind
theorem far{n e:V}(he:dot n e=0){w:Nat->V}:∀ l:List Nat,l≠[]->(∀ y∈l,dot n (w y)<0)->∃ y∈l,∀ x∈l,0<=dot e (cross (w y) (w x))
 | [],h,_=>z3a rfl h
 | [y],_,hn=>⟨y,zsa,λx hx=>by
   rw[zLa.1 hx];have:dot e (cross (w y) (w y))=0:=by simp only[dot,cross];grind
   omega⟩
 | z::g::l,_,hn=>by
  obtain⟨y,hy,a⟩:=far he (g::l) j3 (λy hy=>hn y (zoa _ hy))
  have self:∀ v:V,dot e (cross v v)=0:=λv=>by simp only[dot,cross];grind
  have f:∀ u v:V,dot e (cross v u)=- dot e (cross u v):=λu v=>by simp only[dot,cross];grind
  have pl:∀ x y z:V,dot n x*dot e (cross y z)=dot n z*dot e (cross y x)+dot n y*dot e (cross x z):=λx y z=>by
   have:dot n x*dot e (cross y z)-(dot n z*dot e (cross y x)+dot n y*dot e (cross x z))=dot n e*dot x (cross y z):=by simp only[dot,cross];grind
   rw[he] at this;omega
  rcases zwb (dot e (cross (w y) (w z))) 0 with c|b
  ·refine⟨z,zsa,λx hx=>?_⟩;rcases zEa.1 hx with rfl|hx
   ·have:=self (w x);omega
   ·have h1:=a x hx;have h2:=pl (w y) (w z) (w x);have n1:=hn y (zoa _ hy);have n2:=hn z zsa;have d:=hn x (zoa _ hx);have h3:=f (w y) (w z);have a1:dot n (w x)*dot e (cross (w z) (w y))<=0:=Int.mul_nonpos_of_nonpos_of_nonneg (zpa d) j1
    have a2:dot n (w z)*dot e (cross (w y) (w x))<=0:=Int.mul_nonpos_of_nonpos_of_nonneg (zpa n2) h1;have a3:0<=(-(dot n (w y)))*dot e (cross (w z) (w x)):=by rw[Int.neg_mul];omega
    exact nW j1 a3
  ·refine⟨y,zoa _ hy,λx hx=>?_⟩;rcases zEa.1 hx with rfl|hx
   ·exact b
   ·exact a x hx
def zA{p q r:Nat}(hp:p<N)(hq:q<N)(u:r<N)(h1:p≠q)(h2:p≠r)(h3:q≠r){m:V}(hm:m=cO P p q r)(hle:∀ x,x<N->dot m (wy P p x)<=0)(d:∃ x,x<N/\dot m (wy P p x)<0) :
  ∃ s,∃ g:Int,0<g/\m=smul g s/\IsF P N s (dot s (P p)):=by
 have f:m≠zero:=λe=>by obtain⟨x,_,hx⟩:=d;rw[e] at hx;simp[dot,zero] at hx
 have A:=fh f;have e:=fL m;refine⟨aF m,aW m,j1,e,?_,?_⟩
 ·have perm:∀ i j k,i<j->j<k->k<N->(m=cO P i j k\/m=neg (cO P i j k))->(dot (aF m) (wy P i p)=0)->∃ i j k,i<j/\j<k/\k<N/\cO P i j k≠zero/\(aF m=aF (cO P i j k)\/aF m=neg (aF (cO P i j k)))/\dot (aF m) (P p)=dot (aF m) (P i):=by
   intro i j k n o hk c y;rw[bo] at y;refine⟨i,j,k,n,o,hk,λt=>f ?_,?_,j1⟩
   ·rcases c with c|c
    ·rw[c,t]
    ·rw[c,t];rfl
   ·rcases c with c|c
    ·exact .inl (by rw[c])
    ·exact .inr (by rw[c,B4])
  have l:∀ v:V,dot m v=0->dot (aF m) v=0:=λv z=>by
   have:(aW m:Int)*dot (aF m) v=0:=by
    rw[<-z]
    conv=>rhs;rw[e]
    simp only[dot,smul];grind
   exact aA j1 this
  have w:dot (aF m) (wy P p p)=0:=l _ (by simp only[dot,wy,sub];grind)
  have z2:dot (aF m) (wy P q p)=0:=l _ (by rw[hm];simp only[dot,cO,cross,wy,sub];grind)
  have z3:dot (aF m) (wy P r p)=0:=l _ (by rw[hm];simp only[dot,cO,cross,wy,sub];grind)
  rcases Nat.lt_or_gt_of_ne h1 with a1|a1<;>rcases Nat.lt_or_gt_of_ne h2 with a2|a2<;>rcases Nat.lt_or_gt_of_ne h3 with a3|a3
  ·exact perm p q r a1 a3 u (.inl hm) w
  ·exact perm p r q a2 a3 hq (.inr (by rw[hm];apply V.ext'<;>simp only[cO,neg,cross,wy,sub]<;>grind)) w
  ·omega
  ·exact perm r p q a2 a1 hq (.inl (by rw[hm];apply V.ext'<;>simp only[cO,neg,cross,wy,sub]<;>grind)) z3
  ·exact perm q p r a1 a2 u (.inr (by rw[hm];apply V.ext'<;>simp only[cO,neg,cross,wy,sub]<;>grind)) z2
  ·omega
  ·exact perm q r p a3 a2 hp (.inl (by rw[hm];apply V.ext'<;>simp only[cO,neg,cross,wy,sub]<;>grind)) z2
  ·exact perm r q p a3 a1 hp (.inr (by rw[hm];apply V.ext'<;>simp only[cO,neg,cross,wy,sub]<;>grind)) z3
 ·have sc:∀ v:V,dot m v=(aW m:Int)*dot (aF m) v:=λv=>by
   conv=>lhs;rw[e]
   simp only[dot,smul];grind
  refine⟨λx hx=>?_,?_⟩
  ·have h:=hle x hx;rw[sc,bo] at h;rcases zwb (dot (aF m) (P p)) (dot (aF m) (P x)) with k|k
   ·have:=zBa (a:=(aW m:Int)) (b:=dot (aF m) (P x)-dot (aF m) (P p)) j1 j1
    omega
   ·exact k
  ·obtain⟨x,hx,h⟩:=d;rw[sc,bo] at h;refine⟨x,hx,?_⟩;rcases zwb (dot (aF m) (P x)) (dot (aF m) (P p)) with k|k
   ·exact k
   ·have:=z8a (a:=(aW m:Int)) (b:=dot (aF m) (P x)-dot (aF m) (P p)) j1 j1
    omega
end
open V
section
variable{P:Nat->V}{N:Nat}
def C5(hl:∀ i j,i<j->j<N->aN (P i) (P j)){n:V}{d:Int}(h:IsF P N n d){a b:Nat}(G:a∈aL P N n d)(hs:Side n P (aL P N n d) a b) :
  ∃ f d',IsF P N f d'/\a∈aL P N f d'/\b∈aL P N f d'/\Side f P (aL P N f d') b a:=by
 have F:=h.flat hl;have I:=(au.1 G).1;have aI:=(au.1 G).2;have K:=(au.1 hs.mem).1;have he:dot n (wy P a b)=0:=F.pl a G b hs.mem;obtain⟨l,B,H⟩:=h.left hl G hs;have Q:dot n (wy P a l)=0:=F.pl a G l B;have hle:∀ x,x<N->dot n (wy P a x)<=0:=λx hx=>by rw[bo];have:=h.supp.1 x hx;omega
 have A:=aJ F.nz;obtain⟨z,al,hz⟩:=h.supp.2;obtain⟨y,hy,M⟩:=far (w:=wy P a) he ((List.range N).filter λk=>decide (dot n (wy P a k)<0)) (List.ne_nil_of_mem (a:=z) (by simp[al,bo];omega)) (λy hy=>by simpa using(zqb.1 hy).2)
 have ai:y<N:=by simpa using(zqb.1 hy).1
 have C:dot n (wy P a y)<0:=by simpa using(zqb.1 hy).2
 have s:∀ x,x<N->dot n (wy P a x)<0->0<=dot (wy P a b) (cross (wy P a y) (wy P a x)):=λx hx hn=>M x (by simp[hx,hn])
 have o:∀ u v:V,dot n u=0->dot n v=0->∀ y:V,dot n n*dot (cross u v) y=dot n (cross u v)*dot n y:=λu v hu hv y=>by have c:=eh hu hv;have c1:=zma V.x c;have c2:=zma V.y c;have X:=zma V.z c;generalize cross u v=k at *;simp only[cross,zero] at c1 c2 X;simp only[dot];grind
 have S:∀ v:V,dot (cross (wy P a y) (wy P a b)) v=- dot (wy P a b) (cross (wy P a y) v):=λv=>by simp only[dot,cross];grind
 have D:∀ v:V,dot (cross (wy P a y) (wy P a b)) v=dot (cross (wy P a b) v) (wy P a y):=λv=>by simp only[dot,cross];grind
 have E:∀ x∈aL P N n d,dot n n*dot (cross (wy P a y) (wy P a b)) (wy P a x)=T n (wy P a b) (wy P a x)*dot n (wy P a y):=λx hx=>by rw[D];exact o _ _ he (F.pl a G x hx) _
 have an:∀ x,x<N->dot (cross (wy P a y) (wy P a b)) (wy P a x)<=0:=λx hx=>by
  rcases zVa (hle x hx) with k|k
  ·rw[S];have:=s x hx k;omega
  ·have m:x∈aL P N n d:=au.2 ⟨hx,by rw[bo] at k;omega⟩
   have e:=E x m;have t:=(hs.all x m).1;have:T n (wy P a b) (wy P a x)*dot n (wy P a y)<=0:=Int.mul_nonpos_of_nonneg_of_nonpos t (zpa C);rcases zwb 0 (dot (cross (wy P a y) (wy P a b)) (wy P a x)) with q|q
   ·have:=zBa A q;omega
   ·exact q
 have U:dot (cross (wy P a y) (wy P a b)) (wy P a l)<0:=by
  have e:=E l B;have:T n (wy P a b) (wy P a l)*dot n (wy P a y)<0:=zXa H C;rcases zwb (dot (cross (wy P a y) (wy P a b)) (wy P a l)) 0 with q|q
  ·exact q
  ·have:=z8a (zpa A) q;omega
 have aj:a≠y:=λe=>by subst e;rw[show dot n (wy P a a)=0 by simp only[dot,wy,sub];grind] at C;omega
 have ak:y≠b:=λe=>by subst e;omega
 obtain⟨f,g,hg,hm,hF⟩:=zA (p:=a) (q:=y) (r:=b) I ai K aj (Ne.symm hs.ne) ak rfl an ⟨l,(au.1 B).1,U⟩;have sc:∀ v:V,dot (cross (wy P a y) (wy P a b)) v=g*dot f v:=λv=>by have:cO P a y b=cross (wy P a y) (wy P a b):=rfl;rw[<-this,hm];simp only[dot,smul];grind
 have L:dot f (wy P a b)=0:=aA hg (by rw[<-sc];simp only[dot,cross];grind)
 have J:a∈aL P N f (dot f (P a)):=au.2 ⟨I,rfl⟩;have ad:b∈aL P N f (dot f (P a)):=au.2 ⟨K,by rw[bo] at L;omega⟩
 refine⟨f,_,hF,J,ad,J,Ne.symm hs.ne,λx hx=>?_⟩;have R:=(au.1 hx).1;have O:dot f (wy P a x)=0:=by rw[bo];have:=(au.1 hx).2;omega
 have ax:dot (cross (wy P a y) (wy P a b)) (wy P a x)=0:=by rw[sc,O,zrb]
 have tE:T f (wy P b a) (wy P b x)=dot f (cross (wy P a x) (wy P a b)):=by simp only[T,dot,cross,wy,sub];grind
 have dE:dot (wy P b x) (wy P b a)=dot (wy P a b) (wy P a b)-dot (wy P a x) (wy P a b):=by simp only[dot,wy,sub];grind
 have Y:dot (wy P b a) (wy P b a)=dot (wy P a b) (wy P a b):=by simp only[dot,wy,sub];grind
 rw[tE,dE,Y];rcases zVa (hle x R) with k|k
 ·
  have c1:dot (cross (wy P a x) (wy P a b)) (wy P a l)<0:=by
   have e:=o (wy P a b) (wy P a l) he Q (wy P a x);have Z:dot (cross (wy P a x) (wy P a b)) (wy P a l)=dot (cross (wy P a b) (wy P a l)) (wy P a x):=by simp only[dot,cross];grind
   have:T n (wy P a b) (wy P a l)*dot n (wy P a x)<0:=zXa H k;rw[Z];simp only[T] at this;rcases zwb (dot (cross (wy P a b) (wy P a l)) (wy P a x)) 0 with q|q
   ·exact q
   ·have:=z8a (zpa A) q;omega
  have aB:dot f f*dot (cross (wy P a x) (wy P a b)) (wy P a l)=dot f (cross (wy P a x) (wy P a b))*dot f (wy P a l):=by have c:=eh O L;have c1:=zma V.x c;have c2:=zma V.y c;have X:=zma V.z c;generalize cross (wy P a x) (wy P a b)=k at *;simp only[cross,zero] at c1 c2 X;simp only[dot];grind
  have W:=aJ hF.nz.1;have n1:dot f (wy P a l)<0:=by
   rw[sc] at U;rcases zwb (dot f (wy P a l)) 0 with q|q
   ·exact q
   ·have:=z8a (zpa hg) q;omega
  have l1:dot f f*dot (cross (wy P a x) (wy P a b)) (wy P a l)<0:=zXa W c1;have pos:0<dot f (cross (wy P a x) (wy P a b)):=by
   rcases zwb 0 (dot f (cross (wy P a x) (wy P a b))) with q|q
   ·exact q
   ·have:=Int.mul_nonneg_of_nonpos_of_nonpos q (zpa n1);omega
  exact⟨zpa pos,λh0=>j1⟩
 ·have m:x∈aL P N n d:=au.2 ⟨R,by rw[bo] at k;omega⟩
  have e:=E x m;rw[ax,zrb] at e;have t0:T n (wy P a b) (wy P a x)=0:=by
   rcases z7a.1 e.symm with q|q
   ·exact q
   ·omega
  have s2:=(hs.all x m).2 t0;have c0:=dO F.nz he k t0;have:dot f (cross (wy P a x) (wy P a b))=0:=by
   have Z:dot f (cross (wy P a x) (wy P a b))=- dot f (cross (wy P a b) (wy P a x)):=by simp only[dot,cross];grind
   rw[Z,c0];simp[dot,zero]
  rw[this];exact⟨zjc _,λ_=>⟨j1,j1⟩⟩
def Iv(hl:∀ i j,i<j->j<N->aN (P i) (P j)){n1 n2:V}{d1 d2:Int}(h1:IsF P N n1 d1)(h2:IsF P N n2 d2){a b:Nat}(h:a∈aL P N n1 d1)(l:a∈aL P N n2 d2)
  (m:Side n1 P (aL P N n1 d1) a b) (t:Side n2 P (aL P N n2 d2) a b):n1=n2:=by
 have F1:=h1.flat hl;have F2:=h2.flat hl;obtain⟨f,C,G⟩:=h1.left hl h m;obtain⟨d,o,w⟩:=h2.left hl l t;have F:dot n1 (wy P a b)=0:=F1.pl a h b m.mem;have J:dot n2 (wy P a b)=0:=F2.pl a l b t.mem;have z1:dot n1 (wy P a f)=0:=F1.pl a h f C;have z2:dot n2 (wy P a d)=0:=F2.pl a l d o;have H:dot n1 (wy P a d)<=0:=by rw[bo];have:=h1.supp.1 d (au.1 o).1;have:=(au.1 h).2;omega
 have I:dot n2 (wy P a f)<=0:=by rw[bo];have:=h2.supp.1 f (au.1 C).1;have:=(au.1 l).2;omega
 have r:=aJ F1.nz;have s:=aJ F2.nz;have g:∀ (n u v:V),dot n u=0->dot n v=0->smul (dot n n) (cross u v)=smul (dot n (cross u v)) n:=λn u v hu Q=>by have c:=eh hu Q;have c1:=zma V.x c;have c2:=zma V.y c;have O:=zma V.z c;generalize cross u v=k at *;simp only[cross,zero] at c1 c2 O;apply V.ext'<;>simp only[smul,dot]<;>grind
 have p:∀ (k:Int) (u v:V),dot (smul k u) v=k*dot u v:=λk u v=>by simp only[dot,smul];grind
 have L:dot n1 n1*dot (cross (wy P a b) (wy P a f)) (wy P a d)=T n1 (wy P a b) (wy P a f)*dot n1 (wy P a d):=by have:=zma (λv=>dot v (wy P a d)) (g n1 _ _ F z1);simp only[p] at this;exact this
 have R:dot n2 n2*dot (cross (wy P a b) (wy P a d)) (wy P a f)=T n2 (wy P a b) (wy P a d)*dot n2 (wy P a f):=by have:=zma (λv=>dot v (wy P a f)) (g n2 _ _ J z2);simp only[p] at this;exact this
 have Z:dot (cross (wy P a b) (wy P a d)) (wy P a f)=- dot (cross (wy P a b) (wy P a f)) (wy P a d):=by simp only[dot,cross];grind
 have m1:T n1 (wy P a b) (wy P a f)*dot n1 (wy P a d)<=0:=Int.mul_nonpos_of_nonneg_of_nonpos (zpa G) H;have m2:T n2 (wy P a b) (wy P a d)*dot n2 (wy P a f)<=0:=Int.mul_nonpos_of_nonneg_of_nonpos (zpa w) I;have D0:dot (cross (wy P a b) (wy P a f)) (wy P a d)=0:=by
  rw[Z] at R;generalize dot (cross (wy P a b) (wy P a f)) (wy P a d)=D at *;rcases zxb D 0 with q|q|q
  ·have:=zBa (a:=dot n2 n2) (b:=-D) s j1;omega
  ·exact q
  ·have:=zBa r q;omega
 have n12:dot n1 (wy P a d)=0:=by
  rw[D0,zrb] at L;rcases z7a.1 L.symm with q|q
  ·omega
  ·exact q
 have E:d∈aL P N n1 d1:=au.2 ⟨(au.1 o).1,by rw[bo] at n12;have:=(au.1 h).2;omega⟩
 have c2:=g n2 _ _ J z2;have c1:=g n1 _ _ F n12;have t12:=(m.all d E).1;have ne:T n1 (wy P a b) (wy P a d)≠0:=λe=>by
  have M:=dO F1.nz F n12 e;have:T n2 (wy P a b) (wy P a d)=0:=by simp only[T];rw[M];simp[dot,zero]
  omega
 refine lh h1.nz.2 h2.nz.2 (a:=T n1 (wy P a b) (wy P a d)*dot n2 n2) (b:=T n2 (wy P a b) (wy P a d)*dot n1 n1) (zBa j1 s) (zBa w r) ?_
 simp only[T] at *;generalize cross (wy P a b) (wy P a d)=K at *;have S:=zma V.x c1;have U:=zma V.y c1;have W:=zma V.z c1;have r1:=zma V.x c2;have X:=zma V.y c2;have Y:=zma V.z c2;generalize dot n1 n1=A at *;generalize dot n2 n2=B at *;generalize dot n1 K=A' at *;generalize dot n2 K=B' at *;simp only[smul] at S U W r1 X Y;apply V.ext'<;>simp only[smul]<;>grind
end
open V
section
variable{n:V}{P:Nat->V}{on:List Nat}
def Side.start(h:Flat n P on){a b:Nat}(d:a∈on)(hs:Side n P on a b):mG P on a:=by
 obtain⟨K,hK,q⟩:=gR (λx=>dot (wy P a b) (wy P a x)) on;refine⟨add (smul K (cross n (wy P a b))) (wy P a b),λx hx g=>?_⟩;have e:dot (add (smul K (cross n (wy P a b))) (wy P a b)) (wy P a x)=K*T n (wy P a b) (wy P a x)+dot (wy P a b) (wy P a x):=by simp only[T,dot,add,smul,cross];grind
 rw[e];obtain⟨h1,h2⟩:=hs.all x hx;have c:=q x hx;rcases zVa h1 with k|k
 ·have:K*1<=K*T n (wy P a b) (wy P a x):=zja j1 (zpa hK)
  omega
 ·rw[<-k,zrb,zrc];obtain⟨r,s⟩:=h2 k.symm;have m:dot (wy P a b) (wy P a x)=dot (wy P a x) (wy P a b):=by simp only[dot];grind
  rw[m];rcases zVa r with p|p
  ·exact p
  ·exfalso;have o:=dO h.nz (h.pl a d b hs.mem) (h.pl a d x hx) k.symm;have f:=zT o (wy P a b);rw[m,<-p] at f;have hp:=aJ (qQ h d hs.mem hs.ne);apply qQ h d hx g;have i:=zma V.x f;have j:=zma V.y f;have l:=zma V.z f;simp only[smul,z7b] at i j l;exact V.ext' (aA hp i) (aA hp j) (aA hp l)
end
theorem su{α:Type}{r:α->α->Prop}(c:∀ a,¬ r a a)(d:∀ a b,r a b->¬ r b a):∀ {l l':List α},l.Pairwise r->l'.Pairwise r->(∀ x,x∈l↔x∈l')->l=l'
 | [],[],_,_,_=>rfl
 | [],b::l',_,_,h=>z3a ((h b).2 zsa) j3
 | a::l,[],_,_,h=>z3a ((h a).1 zsa) j3
 | a::l,b::l',h1,h2,h=>by
  obtain⟨f,i⟩:=zSa.1 h1;obtain⟨g,j⟩:=zSa.1 h2;have e:a=b:=by
   rcases zEa.1 ((h a).1 zsa) with e|m
   ·exact e
   ·rcases zEa.1 ((h b).2 zsa) with e|k
    ·exact e.symm
    ·exact z3a (f b k) (d _ _ (g a m))
  subst e;rw[su c d i j λx=>?_];constructor
  ·intro hx;rcases zEa.1 ((h x).1 (zoa _ hx)) with e|m
   ·subst e;exact z3a (f x hx) (c x)
   ·exact m
  ·intro hx;rcases zEa.1 ((h x).2 (zoa _ hx)) with e|m
   ·subst e;exact z3a (g x hx) (c x)
   ·exact m
def nV(a:V):¬ aN a a:=by simp only[aN];omega
def Gi(a b:V):aN a b->¬ aN b a:=by simp only[aN];omega
def te{a b c:V}:aN a b->aN b c->aN a c:=by simp only[aN];omega
def xN{a b:V}(h:a≠b):aN a b\/aN b a:=by simp only[aN];rcases zxb a.x b.x with h1|h1|h1<;>rcases zxb a.y b.y with h2|h2|h2<;>rcases zxb a.z b.z with h3|h3|h3<;>first|omega|exact z3a (V.ext' h1 h2 h3) h
structure Facets(P:Nat->V)(N:Nat)(L:List (V×Int)):Prop where
 ord:L.Pairwise (λa b=>aN a.1 b.1)
 mem:∀ q,q∈L↔IsF P N q.1 q.2
def Facets.eq{P:Nat->V}{N:Nat}{L L':List (V×Int)}(h:Facets P N L)(c:Facets P N L'):L=L':=
 su (r:=λa b=>aN a.1 b.1) (λa=>nV a.1) (λa b=>Gi a.1 b.1) h.ord c.ord λx=>(h.mem x).trans (c.mem x).symm
section
variable{P:Nat->V}{N:Nat}{n:V}{d:Int}
def abX{d':Int}(h:IsF P N n d)(a:IsF P N n d'):d=d':=by
 obtain⟨i,_,_,f,g,hk,_,_,e⟩:=h.ex;obtain⟨k,_,_,b,c,j,_,_,l⟩:=a.ex;have h1:=h.supp.1 k j1
 have h2:=a.supp.1 i j1
 omega
def bA(P:Nat->V)(N:Nat)(n:V)(d:Int)(l:List Nat):Prop:=∃ a,(aL P N n d).head?=some a/\Chain (Side n P (aL P N n d)) a a l
def Jp:(aL P N n d).Pairwise (·<·):=List.Pairwise.sublist List.filter_sublist List.pairwise_lt_range
theorem IsF.head(hl:∀ i j,i<j->j<N->aN (P i) (P j))(h:IsF P N n d):∃ a,(aL P N n d).head?=some a/\a∈aL P N n d/\mG P (aL P N n d) a/\(∀ x∈aL P N n d,a<=x)/\∀ c∈aL P N n d,∃ x∈aL P N n d,x≠c:=by
 obtain⟨i,j,k,o,p,hk,b,g,mk,ht⟩:=h.three;cases hon:aL P N n d with
 | nil=>rw[hon] at b;simp at b
 | cons a l=>
  have f:(a::l).Pairwise (·<·):=by rw[<-hon];exact Jp
  rw[zSa] at f;have hle:∀ x∈a::l,a<=x:=λx hx=>by
   rcases zEa.1 hx with e|m
   ·omega
   ·exact zyc (f.1 x m)
  refine⟨a,rfl,zsa,Ga λx hx q=>?_,hle,λc hc=>?_⟩
  ·have:=hle x hx;rw[<-hon] at hx;exact hl a x j1 (au.1 hx).1
  ·rw[hon] at b g;by_cases e:i=c
   ·exact⟨j,g,j1⟩
   ·exact⟨i,b,e⟩
def IsF.poly(hl:∀ i j,i<j->j<N->aN (P i) (P j))(h:IsF P N n d) :
  ∃ l,bA P N n d l/\l.Nodup/\∀ z,z∈l↔z∈aL P N n d/\mG P (aL P N n d) z:=by
 obtain⟨a,h1,h2,h3,o,b⟩:=h.head hl;obtain⟨l,c,e,f,g⟩:=Dx (h.flat hl) h2 h3 b;exact⟨l,⟨a,h1,c⟩,e,λz=>⟨f z,λ⟨k,m⟩=>g z k m⟩⟩
def bA.eq(hl:∀ i j,i<j->j<N->aN (P i) (P j))(h:IsF P N n d){l l':List Nat}(k:bA P N n d l)(o:bA P N n d l'):l=l':=by
 obtain⟨a,h1,h2⟩:=k;obtain⟨a',g,m⟩:=o;rw[h1] at g;cases g;obtain⟨b,g1,g2,g3,g4,g5⟩:=h.head hl;rw[h1] at g1;cases g1;have F:=h.flat hl;have key:∀ {c:Nat} {l l':List Nat},c∈aL P N n d->Chain (Side n P (aL P N n d)) a c l->Chain (Side n P (aL P N n d)) a c l'->l=l':=by
  intro c l l' hc q
  induction q generalizing l' with
  | done s=>intro p;cases p with
   | done _=>rfl
   | step s' f _=>exact z3a (ach F hc s' s) f
  | step s f k ih=>intro p;cases p with
   | done s'=>exact z3a (ach F hc s s') f
   | step s' _ o=> have e:=ach F hc s s';subst e;rw[ih s.mem o]
 exact key g2 h2 m
def lR(l:List Nat):List (Nat×Nat):=(List.range l.length).filterMap λk=>if l.getD k 0<l.getD ((k+1)%l.length) 0 then some (l.getD k 0,l.getD ((k+1)%l.length) 0) else none
def bA.next{l:List Nat}(k:bA P N n d l){i:Nat}(h:i<l.length):Side n P (aL P N n d) (l.getD i 0) (l.getD ((i+1)%l.length) 0):=by
 obtain⟨a,h1,h2⟩:=k;obtain⟨l',e⟩:=h2.head;obtain⟨y,b,g⟩:=h2.pairs i (l.getD i 0) (by simp[List.getD,zca h])
 rcases zxa (i+1) l.length with c|c
 ·rw[zvb c] at b;rw[zUa c];simp only[List.getD,b,zSb];exact g
 ·have f:i+1=l.length:=j1
  rw[zYb j1,f,Nat.sub_self] at b
  simp at b;subst b;rw[f,Nat.mod_self];have:l.getD 0 0=a:=by rw[e];rfl
  rw[this];exact g
def mY{l:List Nat}{a b:Nat}:(a,b)∈lR l↔a<b/\∃ i,i<l.length/\l.getD i 0=a/\l.getD ((i+1)%l.length) 0=b:=by
 simp only[lR,zUc,zWa];constructor
 ·rintro⟨i,d,h⟩;split at h
  ·rename_i c;simp only[zda,Prod.mk.injEq] at h;exact⟨j1,i,d,h.1,h.2⟩
  ·cases h
 ·rintro⟨c,i,d,h1,h2⟩;exact⟨i,d,by rw[h1,h2,zna c]⟩
def uo(P:Nat->V)(N:Nat)(n:V)(d:Int)(a b:Nat):Prop:=a∈aL P N n d/\Side n P (aL P N n d) a b
def abY(hl:∀ i j,i<j->j<N->aN (P i) (P j))(h:IsF P N n d){l:List Nat}(k:bA P N n d l){a b:Nat} :
  (∃ i,i<l.length/\l.getD i 0=a/\l.getD ((i+1)%l.length) 0=b)↔uo P N n d a b:=by
 obtain⟨p,o,q,m⟩:=h.poly hl;have:=bA.eq hl h k o;subst this;constructor
 ·rintro⟨i,c,h1,h2⟩;have s:=k.next c
  rw[h1,h2] at s;refine⟨((m a).1 ?_).1,s⟩;rw[<-h1];simp[List.getD,zca c]
 ·rintro⟨f,s⟩;have hm:=(m a).2 ⟨f,s.start (h.flat hl) f⟩;obtain⟨i,c,e⟩:=zYa hm;have g:l.getD i 0=a:=by simp[List.getD,zca c,e]
  have s2:=k.next c
  rw[g] at s2;exact⟨i,c,g,ach (h.flat hl) f s2 s⟩
def wP{l:List Nat}(h:l.Nodup):(lR l).Nodup:=by
 unfold lR;refine List.Pairwise.filterMap _ (R:=λi j:Nat=>i≠j/\i<l.length/\j<l.length) (S:=λx y=>x≠y) ?_ ?_
 ·intro i j ⟨f,a,b⟩ x hx y hy e;subst e;simp only[Option.ite_none_right_eq_some,zda] at hx hy;have d:l.getD i 0=l.getD j 0:=by have:=zma Prod.fst (hx.2.trans hy.2.symm);exact this
  simp only[List.getD,zca a,zca b,zSb] at d;rcases Nat.lt_or_gt_of_ne f with c|c
  ·exact z3b.1 h i j a b c d
  ·exact z3b.1 h j i b a c d.symm
 ·have:=List.nodup_range (n:=l.length);refine zTc ?_ this;intro i j a b g;exact⟨g,zWa.1 a,zWa.1 b⟩
end
def B0(a b:Nat×Nat):Prop:=a.1<b.1\/a.1=b.1/\a.2<b.2
def c7(L:List (V×Int))(poly:V×Int->List Nat):List (Nat×Nat):=L.flatMap λq=>lR (poly q)
section
variable{P:Nat->V}{N:Nat}
def CF(hl:∀ i j,i<j->j<N->aN (P i) (P j)){L:List (V×Int)}(hL:Facets P N L){poly:V×Int->List Nat}(hp:∀ q∈L,bA P N q.1 q.2 (poly q)){a b:Nat} :
  (a,b)∈c7 L poly↔a<b/\∃ n d,IsF P N n d/\uo P N n d a b:=by
 simp only[c7,zPa,mY];constructor
 ·rintro⟨q,hq,c,f⟩;exact⟨c,q.1,q.2,(hL.mem q).1 hq,(abY hl ((hL.mem q).1 hq) (hp q hq)).1 f⟩
 ·rintro⟨c,n,d,hF,e⟩;have hq:=(hL.mem (n,d)).2 hF;exact⟨(n,d),hq,c,(abY hl hF (hp _ hq)).2 e⟩
def w7(hl:∀ i j,i<j->j<N->aN (P i) (P j)){L:List (V×Int)}(hL:Facets P N L){poly:V×Int->List Nat}(hp:∀ q∈L,bA P N q.1 q.2 (poly q)):(c7 L poly).Nodup:=by
 unfold c7 List.Nodup;rw[List.pairwise_flatMap];refine⟨λq hq=>?_,?_⟩
 ·obtain⟨l,k,m,_⟩:=((hL.mem q).1 hq).poly hl;have:=bA.eq hl ((hL.mem q).1 hq) (hp q hq) k;rw[this];exact wP m
 ·refine zTc ?_ hL.ord;intro q h hq d c x hx y hy e;subst e;obtain⟨a,b⟩:=x;have F:=(hL.mem q).1 hq;have F':=(hL.mem h).1 d;obtain⟨d1,d2⟩:=(abY hl F (hp q hq)).1 (mY.1 hx).2;obtain⟨f,g⟩:=(abY hl F' (hp h d)).1 (mY.1 hy).2;have:=Iv hl F F' d1 f d2 g;rw[this] at c;exact nV _ c
def uQ(hl:∀ i j,i<j->j<N->aN (P i) (P j)){a b:Nat}:(∃ n d,IsF P N n d/\(uo P N n d a b\/uo P N n d b a))↔∃ n d,IsF P N n d/\uo P N n d a b:=by
 constructor
 ·rintro⟨n,d,hF,h|h⟩
  ·exact⟨n,d,hF,h⟩
  ·obtain⟨e,d',h1,h2,h3,c⟩:=C5 hl hF h.1 h.2;exact⟨e,d',h1,h3,c⟩
 ·rintro⟨n,d,hF,h⟩;exact⟨n,d,hF,.inl h⟩
end
end Geo
end
noncomputable section
namespace Sy
open Go Go.Proofs Geo
abbrev I(n:Int):D:=.int .i64 n
def af(v:V):D:=.st [I v.x,I v.y,I v.z]
def inR(n:Int):Prop:=-9223372036854775808<=n/\n<=9223372036854775807
def ia{n:Int}(h:inR n):IntKind.wrap .i64 n=n:=by
 obtain⟨h1,h2⟩:=h;simp only[IntKind.wrap,IntKind.signed,IntKind.bits];first
  | omega
  | (simp;omega)
def az{a b:Int}(h:inR (a+b)):abG .add (I a) (I b)=some (I (a+b)):=by simp only[abG,if_true,ia h]
def fd{a b:Int}(h:inR (a-b)):abG .sub (I a) (I b)=some (I (a-b)):=by simp only[abG,if_true,ia h]
def ct{a b:Int}(h:inR (a*b)):abG .mul (I a) (I b)=some (I (a*b)):=by simp only[abG,if_true,ia h]
def ah{a b:Int}:abG .lss (I a) (I b)=some (.bool (decide (a<b))):=by simp only[abG,if_true]
def mJ{a b:Int}:abG .leq (I a) (I b)=some (.bool (decide (a<=b))):=by simp only[abG,if_true]
def fH{a b:Int}:abG .gtr (I a) (I b)=some (.bool (decide (a>b))):=by simp only[abG,if_true]
def ik{a b:Int}:abG .geq (I a) (I b)=some (.bool (decide (a ≥ b))):=by simp only[abG,if_true]
def jY{a b:Int}(h:b≠0):abG .rem (I a) (I b)=some (I (a.tmod b)):=by simp only[abG,if_true,h,if_false]
def ut{a b:Int}(h:b≠0)(c:inR (a.tdiv b)):abG .quo (I a) (I b)=some (I (a.tdiv b)):=by simp only[abG,if_true,h,if_false,ia c]
def qE{a:Int}(h:inR (-a)):abU .neg (I a)=some (I (-a)):=by simp only[abU,Int.zero_sub,ia h]
def bz{b:Bool}:abU .not (.bool b)=some (.bool (!b)):=rfl
def ac{b:Bool}:D.truth (.bool b)=some b:=rfl
def I7{a b:Int}:D.max2 (I a) (I b)=some (I (max a b)):=by simp only[D.max2];congr 2;split<;>omega
def RR{a b:Int}:D.min2 (I a) (I b)=some (I (min a b)):=by simp only[D.min2];congr 2;split<;>omega
def bZ{a b:Int}:D.beq (I a) (I b)=decide (a=b):=by simp[D.beq]
def oV(v:V):D.get (af v) [0]=some (I v.x):=rfl
def oW(v:V):D.get (af v) [1]=some (I v.y):=rfl
def oX(v:V):D.get (af v) [2]=some (I v.z):=rfl
def uS(x y z:Int):D.st [D.int .i64 x,D.int .i64 y,D.int .i64 z]=af ⟨x,y,z⟩:=rfl
def bd(k:Int)(v:V):Prop:=(-k<=v.x/\v.x<=k)/\(-k<=v.y/\v.y<=k)/\(-k<=v.z/\v.z<=k)
def iQ{a b A B:Int}(e:-A<=a/\a<=A)(f:-B<=b/\b<=B):-(A*B)<=a*b/\a*b<=A*B:=by
 have c:0<=A:=j1
 have d:0<=B:=j1
 have h1:(a*b).natAbs<=(A*B).natAbs:=by rw[zNa,zNa];exact z4a j1 j1
 have h2:0<=A*B:=z8a c d;omega
def kq{A B:Int}{u v:V}(hu:bd A u)(a:bd B v):bd (A+B) (u.sub v):=by simp only[bd,V.sub] at *;omega
def rl{A:Int}{u:V}(hu:bd A u):bd A u.neg:=by simp only[bd,V.neg] at *;omega
def ju{A B:Int}{u v:V}(hu:bd A u)(a:bd B v):bd (2*(A*B)) (V.cross u v):=by have:=iQ hu.1 a.1;have:=iQ hu.1 a.2.1;have:=iQ hu.1 a.2.2;have:=iQ hu.2.1 a.1;have:=iQ hu.2.1 a.2.1;have:=iQ hu.2.1 a.2.2;have:=iQ hu.2.2 a.1;have:=iQ hu.2.2 a.2.1;have:=iQ hu.2.2 a.2.2;simp only[bd,V.cross];omega
def HK{A B:Int}{u v:V}(hu:bd A u)(a:bd B v):-(3*(A*B))<=V.dot u v/\V.dot u v<=3*(A*B):=by have:=iQ hu.1 a.1;have:=iQ hu.2.1 a.2.1;have:=iQ hu.2.2 a.2.2;simp only[V.dot];omega
def Bi{A B:Int}{u v:V}(hu:bd A u)(a:bd B v)(h:3*(A*B)<=9223372036854775807) :
  inR (u.x*v.x)/\inR (u.y*v.y)/\inR (u.z*v.z)/\inR (u.x*v.x+u.y*v.y)/\inR (u.x*v.x+u.y*v.y+u.z*v.z):=by
 have:=iQ hu.1 a.1;have:=iQ hu.2.1 a.2.1;have:=iQ hu.2.2 a.2.2;simp only[inR];omega
def f101{call:Nat->List D->Option D}{A B:Int}{u v:V}(hu:bd A u)(c:bd B v)(h:3*(A*B)<=9223372036854775807):Hn bf call (af u) (af v)=some (I (V.dot u v)):=by obtain⟨h1,h2,h3,a,b⟩:=Bi hu c h;simp only[Hn,qG,qB,oV,oW,oX,zba,ct h1,ct h2,ct h3,az a,az b];rfl
def HY(n:Nat){A B:Int}{u v:V}(hu:bd A u)(a:bd B v)(h:3*(A*B)<=9223372036854775807):cA (n+1) 101 [af u,af v]=some (I (V.dot u v)):=by rw[XF];exact f101 hu a h
def FN(n:Nat){A B:Int}{u v:V}(hu:bd A u)(c:bd B v)(h:3*(A*B)<=9223372036854775807):cA (n+1) 107 [af u,af v]=some (I (V.dot u v)):=by obtain⟨h1,h2,h3,a,b⟩:=Bi hu c h;rw[XK];simp only[KB,qG,qB,oV,oW,oX,zba,ct h1,ct h2,ct h3,az a,az b];rfl
def uG{A B:Int}{u v:V}(hu:bd A u)(a:bd B v)(h:2*(A*B)<=9223372036854775807) :
  inR (u.y*v.z)/\inR (u.z*v.y)/\inR (u.z*v.x)/\inR (u.x*v.z)/\inR (u.x*v.y)/\inR (u.y*v.x)/\inR (u.y*v.z-u.z*v.y)/\inR (u.z*v.x-u.x*v.z)/\inR (u.x*v.y-u.y*v.x):=by
 have:=iQ hu.1 a.1;have:=iQ hu.1 a.2.1;have:=iQ hu.1 a.2.2;have:=iQ hu.2.1 a.1;have:=iQ hu.2.1 a.2.1;have:=iQ hu.2.1 a.2.2;have:=iQ hu.2.2 a.1;have:=iQ hu.2.2 a.2.1;have:=iQ hu.2.2 a.2.2;simp only[inR];omega
def Q0(n:Nat){A B:Int}{u v:V}(hu:bd A u)(g:bd B v)(h:2*(A*B)<=9223372036854775807):cA (n+1) 117 [af u,af v]=some (af (V.cross u v)):=by obtain⟨h1,h2,h3,a,b,c,d,e,f⟩:=uG hu g h;rw[XS];simp only[KJ,qG,qB,oV,oW,oX,zba,ct h1,ct h2,ct h3,ct a,ct b,ct c,fd d,fd e,fd f];rfl
def Q4(n:Nat){A B:Int}{u v:V}(hu:bd A u)(g:bd B v)(h:2*(A*B)<=9223372036854775807):cA (n+1) 123 [af u,af v]=some (af (V.cross u v)):=by obtain⟨h1,h2,h3,a,b,c,d,e,f⟩:=uG hu g h;rw[XY];simp only[KP,qG,qB,oV,oW,oX,zba,ct h1,ct h2,ct h3,ct a,ct b,ct c,fd d,fd e,fd f];rfl
def Qu(n:Nat){A:Int}{u:V}(hu:bd A u)(h:A<=9223372036854775807):cA (n+1) 97 [af u]=some (af u.neg):=by
 have h1:inR (-u.x):=by simp only[bd,inR] at *;omega
 have h2:inR (-u.y):=by simp only[bd,inR] at *;omega
 have h3:inR (-u.z):=by simp only[bd,inR] at *;omega
 rw[u97];simp only[Tj,qG,oV,oW,oX,zba,qE h1,qE h2,qE h3];rfl
abbrev Bd:=List D->Option (Sum (List D) (Nat×List D))
def cQ{body:Bd}{s s':List D}{k:Nat×List D->Option D}{y:D}(h:body s=some (.inl s'))(hk:(bf body s').bind k=some y):(bf body s).bind k=some y:=by have:bf body s=bf body s':=dR h;rw[this];exact hk
def gv{body:Bd}{s:List D}{r:Nat×List D}{k:Nat×List D->Option D}{y:D}(h:body s=some (.inr r))(hk:k r=some y):(bf body s).bind k=some y:=by have:bf body s=some r:=ew h;rw[this];exact hk
def zG{body:Bd}{s:List D}{r:Nat×List D}{k:Nat×List D->Option D}{y:D}(h:bf body s=some r)(hk:k r=some y):(bf body s).bind k=some y:=by rw[h];exact hk
def cg{body:Bd}{s0:List D}{k:Nat×List D->Option D}{y:D}(J:Nat->List D->Prop)(n i0:Nat)(a:i0<=n)(h0:J i0 s0)
  (hs:∀ i,i<n->∀ s,J i s->(∃ s',body s=some (.inl s')/\J (i+1) s')\/∃ r,body s=some (.inr r)/\k r=some y) (he:∀ s,J n s->∃ r,body s=some (.inr r)/\k r=some y):(bf body s0).bind k=some y:=by
 obtain⟨m,hm⟩:∃ m,m=n-i0:=⟨_,rfl⟩
 induction m generalizing i0 s0 with
 | zero=>
  have:i0=n:=j1
  subst this;obtain⟨r,h1,h2⟩:=he s0 h0;exact gv h1 h2
 | succ m ih=>
  rcases hs i0 j1 s0 h0 with⟨s',h1,h2⟩|⟨r,h1,h2⟩
  ·exact cQ h1 (ih (i0:=i0+1) j1 h2 j1)
  ·exact gv h1 h2
def aw{i n:Nat}(h:i<n):D.idx (I (i:Int)) n=some i:=by simp only[D.idx];rw[zna j1];simp
def aU{i:Nat}(h:i<=9223372036854775806):inR ((i:Int)+1):=by simp only[inR];omega
def g0{x:D}{l:List D}{d:D}:List.getD (x::l) 0 d=x:=rfl
def g1{x y:D}{l:List D}{d:D}:List.getD (x::y::l) 1 d=y:=rfl
def g2{x y z:D}{l:List D}{d:D}:List.getD (x::y::z::l) 2 d=z:=rfl
def g3{x y z w:D}{l:List D}{d:D}:List.getD (x::y::z::w::l) 3 d=w:=rfl
def XB(v:V)(a:Int):D.set (af v) [0] (I a)=some (af ⟨a,v.y,v.z⟩):=rfl
def XC(v:V)(a:Int):D.set (af v) [1] (I a)=some (af ⟨v.x,a,v.z⟩):=rfl
def XD(v:V)(a:Int):D.set (af v) [2] (I a)=some (af ⟨v.x,v.y,a⟩):=rfl
def IU:D.idx (I 0) 3=some 0:=rfl
def IV:D.idx (I 1) 3=some 1:=rfl
def IW:D.idx (I 2) 3=some 2:=rfl
def WZ(n:Nat){A B:Int}{u v:V}(hu:bd A u)(a:bd B v)(h:A+B<=9223372036854775807):cA (n+1) 154 [af u,af v]=some (af (u.add v)):=by
 have h1:inR (u.x+v.x):=by simp only[bd,inR] at *;omega
 have h2:inR (u.y+v.y):=by simp only[bd,inR] at *;omega
 have h3:inR (u.z+v.z):=by simp only[bd,inR] at *;omega
 rw[Yj]
 delta Lh qB qC qJ qZ iL iR Jn
 refine cQ (s':=[I 1,af ⟨u.x+v.x,u.y,u.z⟩]) ?_ (cQ (s':=[I 2,af ⟨u.x+v.x,u.y+v.y,u.z⟩]) ?_ (cQ (s':=[I 3,af ⟨u.x+v.x,u.y+v.y,u.z+v.z⟩]) ?_ (gv (r:=(0,[af (u.add v)])) ?_ rfl)))
 ·simp only[g0,g1,ah,zba,ac,IU,oV,XB,az h1,az (show inR (0+1) from⟨j2,j2⟩)];rfl
 ·simp only[g0,g1,ah,zba,ac,IV,oW,XC,az h2,az (show inR (1+1) from⟨j2,j2⟩)];rfl
 ·simp only[g0,g1,ah,zba,ac,IW,oX,XD,az h3,az (show inR (2+1) from⟨j2,j2⟩)];rfl
 ·simp only[g0,g1,ah,zba,ac];rfl
def Mj(u v:V):u.add v.neg=u.sub v:=by apply V.ext'<;>simp only[V.add,V.neg,V.sub]<;>omega
def HZ(n:Nat){A B:Int}{u v:V}(hu:bd A u)(a:bd B v)(h:A+B<=9223372036854775807):cA (n+2) 103 [af u,af v]=some (af (u.sub v)):=by
 have b:0<=A:=by simp only[bd] at hu;omega
 rw[XG];simp only[Kw,Qu n a j1,zba,WZ n hu (rl a) h,Mj]
def FO(n:Nat){A B:Int}{u v:V}(hu:bd A u)(a:bd B v)(h:A+B<=9223372036854775807):cA (n+1) 112 [af u,af v]=some (af (u.sub v)):=by
 have h1:inR (u.x-v.x):=by simp only[bd,inR] at *;omega
 have h2:inR (u.y-v.y):=by simp only[bd,inR] at *;omega
 have h3:inR (u.z-v.z):=by simp only[bd,inR] at *;omega
 rw[XP];simp only[KG,qG,qB,oV,oW,oX,zba,fd h1,fd h2,fd h3];rfl
def bg(a b:Int):Int:=if a<b then -1 else if a>b then 1 else 0
def WR(n:Nat)(a:Int):cA (n+1) 115 [I a]=some (.bool false):=by rw[XQ];simp only[KH,bZ];simp
def Rr(n:Nat)(a b:Int):cA (n+2) 53 [I a,I b]=some (I (bg a b)):=by
 rw[u53];simp only[ST,qC,qT,Jn,WR,zba,ac,zDa,if_false,ah,fH,bg,zfa];split
 ·rfl
 ·split<;>rfl
def q8:List Int->Int
 | []=>0
 | x::l=>if x=0 then q8 l else x
def Zj(n:Nat)(l:List Int)(hl:l.length<=1000):cA (n+1) 52 [.sl (l.map λx=>I x)]=some (I (q8 l)):=by
 rw[u52]
 delta SS qB qC qT qS qX qZ iL iR Jn
 simp only[D.asSl,zba];refine cg (λi s=>s=[I i]/\q8 l=q8 (l.drop i)) l.length 0 (zAa _) ⟨rfl,rfl⟩ (λi c s b=>?_) (λs b=>?_)
 ·obtain⟨rfl,a⟩:=b;have hx:(l.map λx=>I x)[i]?=some (I l[i]):=by simp[c]
  simp only[g0,zya,ah,zba,ac,zfa,show((i:Int)<(l.length:Int)) from by omega,if_true,aw c,hx,bZ]
  have d:l.drop i=l[i]::l.drop (i+1):=z4b c;rw[d] at a;by_cases h0:l[i]=0
  ·left;refine⟨[I ((i+1:Nat):Int)],?_,rfl,?_⟩
   ·simp only[h0,decide_true,zlc,zDa,if_false,az (aU (i:=i) j1),zba];rfl
   ·rw[a];simp[q8,h0]
  ·right;refine⟨(0,[I l[i]]),?_,?_⟩
   ·simp[h0]
   ·rw[a];simp[q8,h0]
 ·obtain⟨rfl,a⟩:=b;refine⟨(1,[]),?_,?_⟩
  ·simp only[g0,zya,ah,zba,ac,zfa,zFc,if_false]
  ·rw[a];simp[q8]
def Bq{body:Bd}(h0:∀ a b:Int,b≠0->body [I a,I b]=some (.inl [I b,I (a.tmod b)]))(h1:∀ a:Int,body [I a,I 0]=some (.inr (0,[I a]))) :
  ∀ (m:Nat) (a b:Int),b.natAbs=m->∃ r:Int,bf body [I a,I b]=some (0,[I r])/\r.natAbs=Nat.gcd a.natAbs b.natAbs:=by
 intro m
 induction m using Nat.strongRecOn with
 | _ m ih=>
  intro a b e;by_cases d:b=0
  ·subst d;exact⟨a,ew (h1 a),j3⟩
  ·have c:(a.tmod b).natAbs<m:=by
    rw[Int.natAbs_tmod,<-e];exact z2a _ j1
   obtain⟨r,f,g⟩:=ih _ c b (a.tmod b) rfl;refine⟨r,?_,?_⟩
   ·rw[show bf body [I a,I b]=bf body [I b,I (a.tmod b)] from dR (h0 a b d)];exact f
   ·rw[g,Int.natAbs_tmod,z6c a.natAbs,Nat.gcd_rec b.natAbs a.natAbs,z6c]
def u5{a b:Int}{k:Nat}(c:a.natAbs<=k)(d:b.natAbs<=k):Nat.gcd a.natAbs b.natAbs<=k:=by
 rcases zhc a.natAbs with h|h
 ·rw[h,Nat.gcd_zero_left];exact d
 ·exact zIa (Nat.le_of_dvd h (ztb _ _)) c
def Q8(n:Nat){a b:Int}(e:a.natAbs<=9223372036854775807)(c:b.natAbs<=9223372036854775807):cA (n+1) 152 [I a,I b]=some (I (Nat.gcd a.natAbs b.natAbs:Nat)):=by
 rw[Yi]
 delta Lg qB qT qZ iL iR Jn
 obtain⟨r,h1,h2⟩:=Bq (body:=λ(v1:List D)=>
  (D.truth (D.bool (!(D.beq (gx v1 1) (D.int .i64 0))))).bind λd=>
  if d then((abG .rem (gx v1 0) (gx v1 1)).bind λf=>
  some (Sum.inl [(gx v1 1),f])) else(some (Sum.inr (0,[(gx v1 0)]))))
  (λa b c=>by simp only[g0,g1,bZ,ac,zba,c,decide_false,zTb,if_true,jY c])
  (λa=>by simp only[g0,g1,bZ,ac,zba,decide_true,zlc,zDa,if_false]) _ a b rfl
 refine zG h1 ?_;have g:r.natAbs<=9223372036854775807:=by rw[h2];exact u5 e c
 have hn:inR (-r):=by simp only[inR];omega
 simp only[zba,g0,qE hn,I7];congr 2;omega
def gX{a:Int}{g:Nat}(b:0<g)(h:(g:Int) ∣ a):a.tdiv g=a/g:=by obtain⟨c,rfl⟩:=h;rw[zsd _ j1,zlb _ j1]
def xq(v:V):(aW v:Int) ∣ v.x:=z6a.2 (zbd (ztb _ _) (ztb _ _))
def xr(v:V):(aW v:Int) ∣ v.y:=z6a.2 (zbd (ztb _ _) (zUb _ _))
def xt(v:V):(aW v:Int) ∣ v.z:=z6a.2 (zUb _ _)
def rE{a:Int}{g:Nat}{k:Int}(h:-k<=a/\a<=k)(b:(g:Int) ∣ a):-k<=a/g/\a/g<=k:=by
 have h1:(a/(g:Int)).natAbs<=a.natAbs:=by
  rcases zhc g with e|e
  ·subst e;simp
  ·obtain⟨c,rfl⟩:=b;rw[zlb _ j1,zNa]
   exact z2b _ j1
 omega
def fp{k:Int}{v:V}(h:bd k v):bd k (aF v):=⟨rE h.1 (xq v),rE h.2.1 (xr v),rE h.2.2 (xt v)⟩
def cF(q:V×Int):D:=.st [af q.1,I q.2]
def MV:Int:=262144
def oB{P:Nat->V}{i j:Nat}(a:bd MV (P i))(b:bd MV (P j)):bd 524288 (wy P i j):=by have:=kq b a;simpa [MV,wy] using this
def c96(n:Nat){a b c:V}(g:bd MV a)(i:bd MV b)(hc:bd MV c):cA (n+3) 96 [af a,af b,af c]=some (cF (aF (V.cross (b.sub a) (c.sub a)),V.dot (aF (V.cross (b.sub a) (c.sub a))) a)):=by
 have h1:bd 524288 (b.sub a):=by have:=kq i g;simpa [MV] using this
 have h2:bd 524288 (c.sub a):=by have:=kq hc g;simpa [MV] using this
 rw[u96]
 delta Th qG qB qC Jn
 simp only[HZ n i g j2,HZ n hc g j2,zba,Q0 (n+1) h1 h2 j2]
 have h3:=ju h1 h2;generalize V.cross (b.sub a) (c.sub a)=m at *;have j:m.x.natAbs<=549755813888:=by have:=h3.1;omega
 have l:m.y.natAbs<=549755813888:=by have:=h3.2.1;omega
 have s:m.z.natAbs<=549755813888:=by have:=h3.2.2;omega
 have t:Nat.gcd m.x.natAbs m.y.natAbs<=549755813888:=u5 j l;have o:Nat.gcd (Nat.gcd m.x.natAbs m.y.natAbs) m.z.natAbs=aW m:=rfl;simp only[oV,oW,oX,zba,Q8 (n+1) (a:=m.x) (b:=m.y) j1 j1,Q8 (n+1) (a:=((Nat.gcd m.x.natAbs m.y.natAbs:Nat):Int)) (b:=m.z) (by rw[zva];omega) j1,zva,o,fH,ac,zfa]
 have p:=fp h3;have fin:∀ w:V,w=aF m->cA (n+2) 101 [af w,af a]=some (I (V.dot w a)):=λw hw=>HY (n+1) (hw ▸ p) g j2
 by_cases hg:(aW m:Int)>1
 ·have f:(aW m:Int)≠0:=j1
  have d:0<aW m:=j1
  have r1:inR (m.x.tdiv (aW m)):=by rw[gX d (xq m)];have:=rE h3.1 (xq m);simp only[inR];omega
  have q:inR (m.y.tdiv (aW m)):=by rw[gX d (xr m)];have:=rE h3.2.1 (xr m);simp only[inR];omega
  have r:inR (m.z.tdiv (aW m)):=by rw[gX d (xt m)];have:=rE h3.2.2 (xt m);simp only[inR];omega
  have h:(D.st [I (m.x.tdiv (aW m)),I (m.y.tdiv (aW m)),I (m.z.tdiv (aW m))])=af (aF m):=by rw[gX d (xq m),gX d (xr m),gX d (xt m)];rfl
  simp only[zna hg,ut f r1,ut f q,ut f r,zba,g0,h,fin _ rfl];rfl
 ·have h:m=aF m:=by
   rcases zxa 0 (aW m) with k|k
   ·have e:aW m=1:=j1
    have:=fL m;rw[e] at this;rw[this]
    conv=>rhs;rw[<-this]
    apply V.ext'<;>simp[V.smul]
   ·have e:aW m=0:=j1
    have hm:m=V.zero:=by
     by_cases hm:m=V.zero
     ·exact hm
     ·have:=fh hm;omega
    rw[hm];rfl
  simp only[zka hg,zba,g0,fin m h];rw[<-h];rfl
def Xw(a b:Int):D.sl [I a,I b]=D.sl ([a,b].map λx=>I x):=rfl
def Xx(a b c:Int):D.sl [I a,I b,I c]=D.sl ([a,b,c].map λx=>I x):=rfl
def c51(n:Nat)(a b c d:Int):cA (n+3) 51 [.st [I a,I b],.st [I c,I d]]=some (I (q8 [bg a c,bg b d])):=by
 rw[u51]
 delta SR qG
 simp only[show ∀ a b:Int,D.get (.st [I a,I b]) [0]=some (I a) from λ_ _=>rfl,show ∀ a b:Int,D.get (.st [I a,I b]) [1]=some (I b) from λ_ _=>rfl,zba,Rr,Xw,Zj (n+1) [bg a c,bg b d] j3]
def WK(n:Nat)(p q:V×Int):cA (n+3) 100 [cF p,cF q]=some (I (q8 [bg p.1.x q.1.x,bg p.1.y q.1.y,bg p.1.z q.1.z])):=by
 rw[XE]
 delta Kv qG
 simp only[show ∀ p:V×Int,D.get (cF p) [0]=some (af p.1) from λ_=>rfl,show ∀ p:V×Int,D.get (cF p) [0,0]=some (I p.1.x) from λ_=>rfl,show ∀ p:V×Int,D.get (cF p) [0,1]=some (I p.1.y) from λ_=>rfl,show ∀ p:V×Int,D.get (cF p) [0,2]=some (I p.1.z) from λ_=>rfl,oV,oW,oX,zba,Rr,Xx,Zj (n+1) [bg p.1.x q.1.x,bg p.1.y q.1.y,bg p.1.z q.1.z] j3]
def y9(a:Int):bg a 0=sg a:=rfl
def Sc(a:Int):-1<=sg a/\sg a<=1:=by unfold sg;split<;>(try split)<;>omega
def rM(a b:Int):inR (sg a*sg b):=by have:=iQ (A:=1) (B:=1) (Sc a) (Sc b);simp only[inR];omega
def RC(v:V):D.fld (af v) 0=some (I v.x):=rfl
def RD(v:V):D.fld (af v) 1=some (I v.y):=rfl
def RE(v:V):D.fld (af v) 2=some (I v.z):=rfl
def Ov:inR (0+1):=⟨j2,j2⟩
def AI:inR (1+1):=⟨j2,j2⟩
def Ow:inR (2+1):=⟨j2,j2⟩
def WL(n:Nat){A B:Int}{m u v:V}(hu:bd A u)(a:bd B v)(h:2*(A*B)<=9223372036854775807):cA (n+3) 104 [af m,af u,af v]=some (I (xM m (V.cross u v))):=by
 rw[XH]
 delta Kx qB qC qT qJ qZ iL iR Jn
 simp only[Q0 (n+1) hu a h,zba];generalize V.cross u v=c;unfold xM;by_cases hx:m.x=0
 ·refine cQ (s':=[I 1]) (by simp only[g0,ah,zba,ac,IU,RC,bZ,hx,decide_true,zlc,zDa,if_false,az Ov];rfl) ?_
  by_cases hy:m.y=0
  ·refine cQ (s':=[I 2]) (by simp only[g0,ah,zba,ac,IV,RD,bZ,hy,decide_true,zlc,zDa,if_false,az AI];rfl) ?_
   by_cases hz:m.z=0
   ·refine cQ (s':=[I 3]) (by simp only[g0,ah,zba,ac,IW,RE,bZ,hz,decide_true,zlc,zDa,if_false,az Ow];rfl) ?_
    refine gv (r:=(1,[])) (by simp only[g0,ah,zba,ac];rfl) ?_
    simp[hx,hy,hz]
   ·refine gv (r:=(0,[I (sg c.z*sg m.z)])) ?_ (by simp[hx,hy,hz,zHa])
    simp only[g0,ah,zba,ac,IW,RE,oX,bZ,hz,decide_false,zTb,if_true,Rr,y9,ct (rM _ _)];rfl
  ·refine gv (r:=(0,[I (sg c.y*sg m.y)])) ?_ (by simp[hx,hy,zHa])
   simp only[g0,ah,zba,ac,IV,RD,oW,bZ,hy,decide_false,zTb,if_true,Rr,y9,ct (rM _ _)];rfl
 ·refine gv (r:=(0,[I (sg c.x*sg m.x)])) ?_ (by simp[hx,zHa])
  simp only[g0,ah,zba,ac,IU,RC,oV,bZ,hx,decide_false,zTb,if_true,Rr,y9,ct (rM _ _)];rfl
def O7(n:Nat)(a:Int):cA (n+1) 215 [I a]=some (I (sg a)):=by
 rw[YB];simp only[LA,qC,Jn,ah,fH,zba,ac,zfa,sg];split
 ·rfl
 ·split
  ·rfl
  ·rfl
def W7(n:Nat)(m c:V):cA (n+2) 188 [af m,af c]=some (I (xM m c)):=by
 rw[Yu]
 delta Lu qB qC qT qJ qZ iL iR Jn xM
 by_cases hx:m.x=0
 ·refine cQ (s':=[I 1]) (by simp only[g0,ah,zba,ac,IU,oV,bZ,hx,decide_true,zlc,zDa,if_false,az Ov];rfl) ?_
  by_cases hy:m.y=0
  ·refine cQ (s':=[I 2]) (by simp only[g0,ah,zba,ac,IV,oW,bZ,hy,decide_true,zlc,zDa,if_false,az AI];rfl) ?_
   by_cases hz:m.z=0
   ·refine cQ (s':=[I 3]) (by simp only[g0,ah,zba,ac,IW,oX,bZ,hz,decide_true,zlc,zDa,if_false,az Ow];rfl) ?_
    refine gv (r:=(1,[])) (by simp only[g0,ah,zba,ac];rfl) ?_
    simp[hx,hy,hz]
   ·refine gv (r:=(0,[I (sg m.z*sg c.z)])) ?_ (by simp[hx,hy,hz])
    simp only[g0,ah,zba,ac,IW,oX,bZ,hz,decide_false,zTb,if_true,O7,ct (rM _ _)];rfl
  ·refine gv (r:=(0,[I (sg m.y*sg c.y)])) ?_ (by simp[hx,hy])
   simp only[g0,ah,zba,ac,IV,oW,bZ,hy,decide_false,zTb,if_true,O7,ct (rM _ _)];rfl
 ·refine gv (r:=(0,[I (sg m.x*sg c.x)])) ?_ (by simp[hx])
  simp only[g0,ah,zba,ac,IU,oV,bZ,hx,decide_false,zTb,if_true,O7,ct (rM _ _)];rfl
instance decLex (a b:V):Decidable (aN a b):=by unfold aN;exact inferInstance
def WM(n:Nat)(a b:V):cA (n+1) 105 [af a,af b]=some (.bool (decide (aN a b))):=by
 rw[XI];simp only[Ky,qG,qB,qT,oV,oW,oX,zba,bZ,ac,ah,zTa,decide_eq_false_iff_not];by_cases h1:a.x=b.x
 ·by_cases h2:a.y=b.y
  ·simp[h1,h2,aN]
  ·simp only[h1,h2,aN,not_true,if_false,not_false_iff,if_true,zFc,false_or,true_and,false_and,or_false]
 ·simp only[h1,aN,not_false_iff,if_true,false_and,or_false]
def eG(l:List V):D:=.sl (l.map af)
def sD(l:List V)(m:V)(d:Int):Bool:=l.all λx=>decide (V.dot m x<=d)
def kV(l:List V)(m:V)(d:Int):Bool:=l.any λx=>decide (V.dot m x<d)
def RJ{l:List V}{i:Nat}(h:i<l.length):(l.map af)[i]?=some (af l[i]):=by simp[h]
def WP(n:Nat){A:Int}{l:List V}{m:V}{d:Int}(hl:∀ x∈l,bd MV x)(hm:bd A m)(c:3*(A*262144)<=9223372036854775807)(hlen:l.length<=1000000):cA (n+2) 109 [eG l,af m,I d]=some (.bool (sD l m d&&kV l m d)):=by
 rw[XM]
 delta KD qB qC qT qX qL qZ iL iR Jn
 refine cg (λi s=>s=[.bool (kV (l.take i) m d),I i]/\sD (l.take i) m d=true) l.length 0 (zAa _) ⟨by simp[kV],by simp[sD]⟩ (λi a s b=>?_) (λs b=>?_)
 ·obtain⟨rfl,hs⟩:=b;have ht:l.take (i+1)=l.take i++[l[i]]:=zkb a;have hc:=FN n hm (hl l[i] (zFa a)) c;simp only[eG,D.asSl,g0,g1,zya,ah,fH,zba,ac,zfa,show((i:Int)<(l.length:Int)) from by omega,if_true,aw a,RJ a,hc]
  by_cases hgt:V.dot m l[i]>d
  ·right;refine⟨(0,[.bool false]),by simp only[hgt,if_true],?_⟩
   have:sD l m d=false:=by rw[zoc];intro h;have:=zCa.1 h l[i] (zFa a);simp at this;omega
   simp[g0,this]
  ·left;refine⟨[.bool (kV (l.take (i+1)) m d),I ((i+1:Nat):Int)],?_,rfl,?_⟩
   ·simp only[hgt,if_false,az (aU (i:=i) j1),zba]
    have e:kV (l.take (i+1)) m d=(kV (l.take i) m d||decide (V.dot m l[i]<d)):=by rw[ht];simp only[kV,List.any_append,List.any_cons,List.any_nil,Bool.or_false]
    rw[e];cases kV (l.take i) m d<;>simp
   ·rw[ht];simp only[sD,zgd,zaa] at hs ⊢;exact⟨hs,by simp;omega⟩
 ·obtain⟨rfl,hs⟩:=b;refine⟨(1,[.bool (kV (l.take l.length) m d)]),?_,?_⟩
  ·simp only[eG,D.asSl,g0,g1,zya,ah,zba,ac,zfa,zFc,if_false]
  ·rw[zOb] at *;simp[g0,hs]
def c98(n:Nat){A:Int}{l:List V}{m:V}{d:Int}(hl:∀ x∈l,bd MV x)(hm:bd A m)(c:3*(A*262144)<=9223372036854775807)(hlen:l.length<=1000000):cA (n+2) 98 [eG l,cF (m,d)]=some (.bool (sD l m d&&kV l m d)):=by
 rw[u98]
 delta Tk qG qB qC qT qS qX qZ iL iR Jn
 simp only[eG,D.asSl,zba];refine cg (λi s=>s=[.bool (!kV (l.take i) m d),I i]/\sD (l.take i) m d=true) l.length 0 (zAa _) ⟨by simp[kV],by simp[sD]⟩ (λi a s b=>?_) (λs b=>?_)
 ·obtain⟨rfl,hs⟩:=b;have ht:l.take (i+1)=l.take i++[l[i]]:=zkb a;have hc:=HY n hm (hl l[i] (zFa a)) c;simp only[g0,g1,zya,ah,fH,zba,ac,zfa,show((i:Int)<(l.length:Int)) from by omega,if_true,aw a,RJ a,show D.get (cF (m,d)) [0]=some (af m) from rfl,show D.get (cF (m,d)) [1]=some (I d) from rfl,hc,bZ]
  by_cases hgt:V.dot m l[i]>d
  ·right;refine⟨(0,[.bool false]),by simp only[hgt,if_true],?_⟩
   have:sD l m d=false:=by rw[zoc];intro h;have:=zCa.1 h l[i] (zFa a);simp at this;omega
   simp[g0,this]
  ·left;refine⟨[.bool (!kV (l.take (i+1)) m d),I ((i+1:Nat):Int)],?_,rfl,?_⟩
   ·simp only[hgt,if_false,az (aU (i:=i) j1),zba]
    have e:(!kV (l.take (i+1)) m d)=(!kV (l.take i) m d&&decide (V.dot m l[i]=d)):=by
     rw[ht];simp only[kV,List.any_append,List.any_cons,List.any_nil,Bool.or_false,Bool.not_or];congr 1;by_cases h2:V.dot m l[i]=d
     ·simp[h2]
     ·have:V.dot m l[i]<d:=j1
      simp[h2,this]
    rw[e];cases kV (l.take i) m d<;>simp
   ·rw[ht];simp only[sD,zgd,zaa] at hs ⊢;exact⟨hs,by simp;omega⟩
 ·obtain⟨rfl,hs⟩:=b;refine⟨(1,[.bool (!kV (l.take l.length) m d)]),?_,?_⟩
  ·simp only[g0,g1,zya,ah,zba,ac,zfa,zFc,if_false]
  ·rw[zOb] at *;simp[g0,hs,bz]
def qe{α:Type}{body:Bd}{s0:List D}{k:Nat×List D->Option α}{Y:α->Prop}(J:Nat->List D->Prop)(n i0:Nat)(b:i0<=n)(h0:J i0 s0)
  (hs:∀ i,i<n->∀ s,J i s->∃ z,body s=some z/\match z with|.inl s'=>J (i+1) s'|.inr r=>∃ y,k r=some y/\Y y)
  (he:∀ s,J n s->∃ z,body s=some z/\match z with|.inl _=>False|.inr r=>∃ y,k r=some y/\Y y):∃ y,(bf body s0).bind k=some y/\Y y:=by
 obtain⟨m,hm⟩:∃ m,m=n-i0:=⟨_,rfl⟩
 induction m generalizing i0 s0 with
 | zero=>
  have:i0=n:=j1
  subst this;obtain⟨z,h1,h2⟩:=he s0 h0;cases z with
  | inl s'=>exact h2.elim
  | inr r=>obtain⟨y,h3,a⟩:=h2;exact⟨y,by rw[show bf body s0=some r from ew h1];exact h3,a⟩
 | succ m ih=>
  obtain⟨z,h1,h2⟩:=hs i0 j1 s0 h0
  cases z with
  | inl s'=>
   obtain⟨y,h3,a⟩:=ih (i0:=i0+1) j1 h2 j1
   exact⟨y,by rw[show bf body s0=bf body s' from dR h1];exact h3,a⟩
  | inr r=>obtain⟨y,h3,a⟩:=h2;exact⟨y,by rw[show bf body s0=some r from ew h1];exact h3,a⟩
def aS{α:Type}{body:Bd}{s s':List D}{k:Nat×List D->Option α}{y:α}(h:body s=some (.inl s'))(hk:(bf body s').bind k=some y):(bf body s).bind k=some y:=by have:bf body s=bf body s':=dR h;rw[this];exact hk
def dS{α:Type}{body:Bd}{s:List D}{r:Nat×List D}{k:Nat×List D->Option α}{y:α}(h:body s=some (.inr r))(hk:k r=some y):(bf body s).bind k=some y:=by have:bf body s=some r:=ew h;rw[this];exact hk
def c6{α:Type}{body:Bd}{s0:List D}{k:Nat×List D->Option α}{y:α}(J:Nat->List D->Prop)(n i0:Nat)(a:i0<=n)(h0:J i0 s0)
  (hs:∀ i,i<n->∀ s,J i s->(∃ s',body s=some (.inl s')/\J (i+1) s')\/∃ r,body s=some (.inr r)/\k r=some y) (he:∀ s,J n s->∃ r,body s=some (.inr r)/\k r=some y):(bf body s0).bind k=some y:=by
 obtain⟨m,hm⟩:∃ m,m=n-i0:=⟨_,rfl⟩
 induction m generalizing i0 s0 with
 | zero=>
  have:i0=n:=j1
  subst this;obtain⟨r,h1,h2⟩:=he s0 h0;exact dS h1 h2
 | succ m ih=>
  rcases hs i0 j1 s0 h0 with⟨s',h1,h2⟩|⟨r,h1,h2⟩
  ·exact aS h1 (ih (i0:=i0+1) j1 h2 j1)
  ·exact dS h1 h2
def aa{α β:Type}{A:Option α}{g:α->Option β}{z:α}{y:β}(h:A=some z)(hk:g z=some y):Option.bind A g=some y:=by rw[h];exact hk
theorem j0{α β:Type}{A:Option α}{g:α->Option β}{y:β}(z:α)(k:g z=some y)(h:A=some z:=by exact rfl):Option.bind A g=some y:=aa h k
def mM(u v:V):D.beq (af u) (af v)=decide (u=v):=by
 simp only[af,D.beq,D.beqs,decide_true,zCb,Bool.and_true];by_cases h:u=v
 ·subst h;simp
 ·by_cases h1:u.x=v.x<;>by_cases h2:u.y=v.y<;>by_cases h3:u.z=v.z<;>simp[h,h1,h2,h3];exact h (V.ext' h1 h2 h3)
def N5(p q:V×Int):D.beq (cF p) (cF q)=decide (p=q):=by have:D.beq (cF p) (cF q)=(D.beq (af p.1) (af q.1)&&(D.beq (I p.2) (I q.2)&&true)):=rfl;rw[this,mM,bZ];obtain⟨a,b⟩:=p;obtain⟨c,d⟩:=q;by_cases h1:a=c<;>by_cases h2:b=d<;>simp[h1,h2]
def jf(K:List (V×Int)):List D:=K.map λq=>.st [cF q,.bool true]
theorem xV:∀ (K:List (V×Int)) (q:V×Int),abN (jf K) (cF q)=if q∈K then some (.bool true) else none
 | [],q=>by simp[jf,abN]
 | p::K,q=>by
  have ih:=xV K q;simp only[jf,zab,abN,N5] at ih ⊢;by_cases h:q=p
  ·simp[h]
  ·rw[ih];simp[h]
theorem xX:∀ (K:List (V×Int)) (q:V×Int),q ∉ K->abO (jf K) (cF q) (.bool true)=jf (K++[q])
 | [],q,_=>rfl
 | p::K,q,h=>by
  have ih:=xX K q (λhq=>h (zoa _ hq));have a:¬ q=p:=λe=>h (by rw[e];exact zsa)
  simp only[jf,zab,zzb,abO,N5,a,decide_false,zDa,if_false] at ih ⊢;rw[ih]
def Gg(K:List (V×Int)):(jf K).map wS=K.map cF:=by simp[jf,wS]
def supp(l:List V)(q:V×Int):Bool:=sD l q.1 q.2&&kV l q.1 q.2
def jJ(l:List V)(K:List (V×Int))(q:V×Int):List (V×Int):=if q∈K then K else if supp l q then K++[q] else K
def vF{l:List V}{K:List (V×Int)}{q x:V×Int}(h:x∈K):x∈jJ l K q:=by
 unfold jJ;split
 ·exact h
 ·split
  ·exact List.mem_append_left _ h
  ·exact h
def BX{l:List V}{K:List (V×Int)}{q:V×Int}(h:supp l q=true):q∈jJ l K q:=by
 unfold jJ;split
 ·assumption
 ·simp
def BW{l:List V}{K:List (V×Int)}{q x:V×Int}(h:x∈jJ l K q):x∈K\/(x=q/\supp l q=true):=by
 unfold jJ at h;split at h
 ·exact .inl h
 ·split at h
  ·rename_i hs;rcases List.mem_append.1 h with h|h
   ·exact .inl h
   ·exact .inr ⟨zLa.1 h,hs⟩
  ·exact .inl h
def vE{l:List V}{K:List (V×Int)}{q:V×Int}(h:K.Nodup):(jJ l K q).Nodup:=by
 unfold jJ;split
 ·exact h
 ·rename_i hq;split
  ·exact List.nodup_append.2 ⟨h,j3,λx hx y hy e=>hq (by rw[zLa.1 hy] at e;exact e ▸ hx)⟩
  ·exact h
def qD(a b c:V):V×Int:=(aF (V.cross (b.sub a) (c.sub a)),V.dot (aF (V.cross (b.sub a) (c.sub a))) a)
def og(q:V×Int):V×Int:=(q.1.neg,-q.2)
def Cd(l:List V)(i j k:Nat)(q:V×Int):Prop:=(qD (l.getD i V.zero) (l.getD j V.zero) (l.getD k V.zero)).1≠V.zero/\(q=qD (l.getD i V.zero) (l.getD j V.zero) (l.getD k V.zero)\/q=og (qD (l.getD i V.zero) (l.getD j V.zero) (l.getD k V.zero)))
structure Known(l:List V)(i j k:Nat)(K:List (V×Int)):Prop where
 nd:K.Nodup
 ok:∀ q∈K,supp l q=true/\∃ i j k,k<j/\j<i/\i<l.length/\Cd l i j k q
 all:∀ i' j' k',k'<j'->j'<i'->i'<l.length->(i'<i\/i'=i/\(j'<j\/j'=j/\k'<k))->∀ q,Cd l i' j' k' q->supp l q=true->q∈K
def OX{a b c:V}(d:bd MV a)(f:bd MV b)(hc:bd MV c):bd 549755813888 (qD a b c).1/\inR (qD a b c).2/\inR (-(qD a b c).2):=by
 have h1:bd 524288 (b.sub a):=by have:=kq f d;simpa [MV] using this
 have h2:bd 524288 (c.sub a):=by have:=kq hc d;simpa [MV] using this
 have h3:=fp (ju h1 h2);have e:=HK h3 d;simp only[MV] at e;refine⟨h3,?_,?_⟩<;>simp only[inR,qD]<;>omega
def Known.step{l:List V}{i j k:Nat}{K:List (V×Int)}(h:Known l i j k K)(hk:k<j)(b:j<i)(a:i<l.length)(c:(qD (l.getD i V.zero) (l.getD j V.zero) (l.getD k V.zero)).1≠V.zero) :
  Known l i j (k+1) (jJ l (jJ l K (qD (l.getD i V.zero) (l.getD j V.zero) (l.getD k V.zero))) (og (qD (l.getD i V.zero) (l.getD j V.zero) (l.getD k V.zero)))):=by
 refine⟨vE (vE h.nd),λq hq=>?_,λd f g h1 h2 h3 m q hq hs=>?_⟩
 ·rcases BW hq with hq|⟨rfl,hs⟩
  ·rcases BW hq with hq|⟨rfl,hs⟩
   ·exact h.ok q hq
   ·exact⟨hs,i,j,k,hk,b,a,c,.inl rfl⟩
  ·exact⟨hs,i,j,k,hk,b,a,c,.inr rfl⟩
 ·by_cases e:d=i/\f=j/\g=k
  ·obtain⟨rfl,rfl,rfl⟩:=e;rcases hq.2 with rfl|rfl
   ·exact vF (BX hs)
   ·exact BX hs
  ·exact vF (vF (h.all d f g h1 h2 h3 j1 q hq hs))
def Known.skip{l:List V}{i j k:Nat}{K:List (V×Int)}(h:Known l i j k K)(d:(qD (l.getD i V.zero) (l.getD j V.zero) (l.getD k V.zero)).1=V.zero):Known l i j (k+1) K:=by
 refine⟨h.nd,h.ok,λa b c h1 h2 h3 f q hq hs=>?_⟩;by_cases e:a=i/\b=j/\c=k
 ·obtain⟨rfl,rfl,rfl⟩:=e;exact z3a d hq.1
 ·exact h.all a b c h1 h2 h3 j1 q hq hs
def Known.next{l:List V}{i j:Nat}{K:List (V×Int)}(h:Known l i j j K):Known l i (j+1) 0 K:=
 ⟨h.nd,h.ok,λa b c h1 h2 h3 d=>h.all a b c h1 h2 h3 j1⟩
def Known.next2{l:List V}{i:Nat}{K:List (V×Int)}(h:Known l i i 0 K):Known l (i+1) 0 0 K:=
 ⟨h.nd,h.ok,λa b c h1 h2 h3 d=>h.all a b c h1 h2 h3 j1⟩
theorem kw{α β:Type}{f:α->List β}{c:Nat}:∀ l:List α,(∀ x∈l,(f x).length=c)->(l.flatMap f).length=l.length*c
 | [],_=>j3
 | x::l,h=>by rw[List.flatMap_cons,zta,h x zsa,kw l (λy hy=>h y (zoa _ hy)),zQa,Nat.succ_mul];omega
def Known.len{l:List V}{i j k:Nat}{K:List (V×Int)}(h:Known l i j k K)(hl:l.length<=100):K.length<=2000000:=by
 have h1:=z0b (l₂:=(List.range l.length).flatMap λi=>(List.range l.length).flatMap λj=>(List.range l.length).flatMap λk=>[qD (l.getD i V.zero) (l.getD j V.zero) (l.getD k V.zero),og (qD (l.getD i V.zero) (l.getD j V.zero) (l.getD k V.zero))]) h.nd (λq hq=>by
  obtain⟨_,i,j,k,h1,h2,h3,a⟩:=h.ok q hq;refine zPa.2 ⟨i,zWa.2 h3,zPa.2 ⟨j,zWa.2 j1,zPa.2 ⟨k,zWa.2 j1,?_⟩⟩⟩
  rcases a.2 with rfl|rfl<;>simp)
 rw[kw (c:=l.length*(l.length*2)) _ (λi _=>by rw[kw (c:=l.length*2) _ (λj _=>by rw[kw (c:=2) _ (λk _=>rfl),zsb]),zsb]),zsb] at h1
 refine zIa h1 ?_;have a1:l.length*2<=200:=j1
 have a2:l.length*(l.length*2)<=100*200:=z4a hl a1;have a3:l.length*(l.length*(l.length*2))<=100*(100*200):=z4a hl a2;exact a3
def f9{l:List V}{i:Nat}(h:i<l.length):(l.map af)[i]?=some (af (l.getD i V.zero)):=by simp[h,List.getD]
def cW{l:List V}{i:Nat}(h:i<l.length):l.getD i V.zero∈l:=by simp[List.getD,h]
def Gy{n:Nat}{l:List V}{K:List (V×Int)}{q:V×Int}(hl:∀ x∈l,bd MV x)(hq:bd 549755813888 q.1)(hlen:l.length<=1000) :
  (if(!decide (q∈K))=true then((cA (n+2) 98 [eG l,cF q]).bind λr=>D.truth r) else some false)=some (!decide (q∈K)&&supp l q):=by
 obtain⟨m,d⟩:=q;have hc:=c98 n (d:=d) hl hq j2 j1
 simp only[hc,zba,ac];cases decide ((m,d)∈K)<;>rfl
def MG{a b:V}(h:aN a b):q8 [bg a.x b.x,bg a.y b.y,bg a.z b.z]=-1:=by
 simp only[aN] at h;rcases h with h|⟨h1,h|⟨h2,h⟩⟩
 ·simp[q8,bg,h]
 ·simp[q8,bg,h1,h]
 ·simp[q8,bg,h1,h2,h]
def MF{a b:V}(h:aN b a):q8 [bg a.x b.x,bg a.y b.y,bg a.z b.z]=1:=by
 simp only[aN] at h;rcases h with h|⟨h1,h|⟨h2,h⟩⟩
 ·simp[q8,bg,h,zQb.2 (zpa h)]
 ·simp[q8,bg,h1,h,zQb.2 (zpa h)]
 ·simp[q8,bg,h1,h2,h,zQb.2 (zpa h)]
def ME(a:V):q8 [bg a.x a.x,bg a.y a.y,bg a.z a.z]=0:=by simp[q8,bg]
theorem Fj{α:Type}(key:α->V):∀ (K:List α),K.Pairwise (λa b=>key a≠key b)->∃ L:List α,L.Perm K/\L.Pairwise (λa b=>aN (key a) (key b))
 | [],_=>⟨[],.refl _,.nil⟩
 | x::K,h=>by
  obtain⟨h1,h2⟩:=zSa.1 h;obtain⟨L,e,g⟩:=Fj key K h2;have d:∀ y∈L,key x≠key y:=λy hy=>h1 y (e.subset hy);have ins:∀ L:List α,L.Pairwise (λa b=>aN (key a) (key b))->(∀ y∈L,key x≠key y)->∃ M:List α,M.Perm (x::L)/\M.Pairwise (λa b=>aN (key a) (key b)):=by
   intro L
   induction L with
   | nil=>intro _ _;exact⟨[x],.refl _,j3⟩
   | cons y L ih=>
    intro hp hn;obtain⟨f,i⟩:=zSa.1 hp;rcases xN (hn y zsa) with k|k
    ·refine⟨x::y::L,.refl _,zSa.2 ⟨λz c=>?_,hp⟩⟩;rcases zEa.1 c with rfl|c
     ·exact k
     ·exact te k (f z c)
    ·obtain⟨M,m1,m2⟩:=ih i (λz c=>hn z (zoa _ c));refine⟨y::M,(m1.cons y).trans (.swap x y L),zSa.2 ⟨λz c=>?_,m2⟩⟩;rcases zEa.1 (m1.subset c) with rfl|c
     ·exact k
     ·exact f z c
  obtain⟨M,m1,m2⟩:=ins L g d;exact⟨M,m1.trans (e.cons x),m2⟩
def Et(n:Nat)(p q:V×Int):uE (c9 bf (cA (n+3)) (jW bf (cA (n+3)))) (cz 100) (cF p) (cF q)=some (q8 [bg p.1.x q.1.x,bg p.1.y q.1.y,bg p.1.z q.1.z]):=by
 unfold uE;rw[show ∀ l,(c9 bf (cA (n+3)) (jW bf (cA (n+3)))).call (cz 100) l=cA (n+3) 100 l from λl=>congrFun (zma (cA (n+3)) (show uB (cz 100)=100 by kernel_rfl)) l,WK]
 rfl
theorem Ie(n:Nat):∀ (L:List (V×Int)),L.Pairwise (λa b=>aN a.1 b.1)->tK (c9 bf (cA (n+3)) (jW bf (cA (n+3)))) (cz 100) (L.map cF)=true
 | [],_=>rfl
 | p::L,h=>by
  obtain⟨h1,h2⟩:=zSa.1 h;simp only[zab,tK,zaa,zCa,zMa];refine⟨⟨?_,?_⟩,Ie n L h2⟩
  ·simp only[Hf,Et,ME];decide
  ·rintro _ ⟨q,hq,rfl⟩;simp only[rV,Hf,Et,MG (h1 q hq),MF (h1 q hq)];decide
def NJ(n:Nat){K L:List (V×Int)}(hp:L.Perm K)(h:L.Pairwise (λa b=>aN a.1 b.1)):ki (c9 bf (cA (n+3)) (jW bf (cA (n+3)))) (cz 100) (K.map cF)=some (L.map cF):=
 wh (Ie n L h) (hp.symm.map _)
def pt(l:List V)(i:Nat):V:=l.getD i V.zero
def nJ(a b:V):V.dot a.neg b=- V.dot a b:=by simp only[V.dot,V.neg];grind
def Cd.dist{l:List V}{i j k:Nat}{q:V×Int}(h:Cd l i j k q):q.2=V.dot q.1 (l.getD i V.zero):=by
 rcases h.2 with rfl|rfl
 ·rfl
 ·simp only[og,nJ];rfl
def Fq{l:List V}{q:V×Int}(h:supp l q=true){x:V}(hx:x∈l):V.dot q.1 x<=q.2:=by simp only[supp,sD,zaa,zCa,zfa] at h;exact h.1 x hx
def Known.keys{l:List V}{i j k:Nat}{K:List (V×Int)}(h:Known l i j k K):K.Pairwise (λa b=>a.1≠b.1):=by refine zTc (λ{a b} f g c e=>c ?_) h.nd;obtain⟨s1,i1,o,q,_,_,h1,c1⟩:=h.ok a f;obtain⟨s2,i2,p,r,_,_,h2,c2⟩:=h.ok b g;have d:=c1.dist;have n:=c2.dist;have m:=Fq s1 (cW h2);have s:=Fq s2 (cW h1);rw[e] at d m;exact Prod.ext e j1
def p45(n:Nat){l:List V}(hl:∀ x∈l,bd MV x)(hlen:l.length<=100):∃ y,cA (n+6) 45 [eG l]=some y/\∃ K L:List (V×Int),Known l l.length 0 0 K/\L.Perm K/\L.Pairwise (λa b=>aN a.1 b.1)/\y=.sl (L.map cF):=by
 rw[u45];unfold Qo;simp only[eG,D.asSl,zba];refine qe (λi s=>∃ K,s=[I i,.sl (jf K)]/\Known l i 0 0 K) l.length 0 (zAa _) ⟨[],rfl,⟨List.nodup_nil,j3,λH J M _ _ _ h=>j1⟩⟩ (λi d s c=>?_) (λs c=>?_)
 ·obtain⟨K,rfl,hK⟩:=c;simp only[g0,g1,zya,ah,zba,ac,zfa,show((i:Int)<(l.length:Int)) from by omega,if_true,D.els]
  refine qe (λj s=>∃ K,s=[I j,.sl (jf K)]/\Known l i j 0 K) i 0 (zAa _) ⟨K,rfl,hK⟩ (λj F s c=>?_) (λs c=>?_)
  ·obtain⟨K,rfl,hK⟩:=c;simp only[g0,g1,ah,zba,ac,zfa,show((j:Int)<(i:Int)) from by omega,if_true,D.els]
   refine qe (λk s=>∃ K,s=[I k,.sl (jf K)]/\Known l i j k K) j 0 (zAa _) ⟨K,rfl,hK⟩ (λk hk s c=>?_) (λs c=>?_)
   ·obtain⟨K,rfl,hK⟩:=c;have e:=OX (hl _ (cW d)) (hl _ (cW (show j<l.length by omega))) (hl _ (cW (show k<l.length by omega)))
    have hc:=c96 (n+2) (hl _ (cW d)) (hl _ (cW (show j<l.length by omega))) (hl _ (cW (show k<l.length by omega)))
    rw[show(aF (V.cross ((l.getD j V.zero).sub (l.getD i V.zero)) ((l.getD k V.zero).sub (l.getD i V.zero))),V.dot (aF (V.cross ((l.getD j V.zero).sub (l.getD i V.zero)) ((l.getD k V.zero).sub (l.getD i V.zero)))) (l.getD i V.zero))=qD (l.getD i V.zero) (l.getD j V.zero) (l.getD k V.zero) from rfl] at hc;simp only[g0,g1,ah,zba,ac,zfa,show((k:Int)<(j:Int)) from by omega,if_true,D.els,zya,aw d,aw (show j<l.length by omega),aw (show k<l.length by omega),f9 d,f9 (show j<l.length by omega),f9 (show k<l.length by omega),hc]
    by_cases hz:(qD (l.getD i V.zero) (l.getD j V.zero) (l.getD k V.zero)).1=V.zero
    ·have t:D.beq (af (qD (l.getD i V.zero) (l.getD j V.zero) (l.getD k V.zero)).1) (D.st [D.int .i64 0,D.int .i64 0,D.int .i64 0])=true:=by
      rw[uS,mM];exact zha hz
     simp only[show D.get (cF (qD (l.getD i V.zero) (l.getD j V.zero) (l.getD k V.zero))) [0]=some (af (qD (l.getD i V.zero) (l.getD j V.zero) (l.getD k V.zero)).1) from rfl,zba,t,ac,if_true,g0,D.els,az (aU (i:=k) j1)]
     exact⟨_,rfl,K,rfl,hK.skip hz⟩
    ·have t:D.beq (af (qD (l.getD i V.zero) (l.getD j V.zero) (l.getD k V.zero)).1) (D.st [D.int .i64 0,D.int .i64 0,D.int .i64 0])=false:=by
      rw[uS,mM];exact zea hz
     have step:=hK.step hk F d hz;generalize hq:qD (l.getD i V.zero) (l.getD j V.zero) (l.getD k V.zero)=q at *;obtain⟨f,G,C⟩:=e;have u:D.st [af q.1.neg,I (-q.2)]=cF (og q):=rfl;have E:bd 549755813888 (og q).1:=rl f;simp only[show D.get (cF q) [0]=some (af q.1) from rfl,show D.get (cF q) [1]=some (I q.2) from rfl,zba,t,ac,zDa,if_false,Qu (n+4) f j2,qE C,u]
     have one:∀ (K:List (V×Int)) (p:V×Int),bd 549755813888 p.1->((abU .not (Option.getD (abN (jf K) (cF p)) (D.bool false))).bind λw=>(D.truth w).bind λg=>Option.bind (if g then((cA (n+5) 98 [D.sl (l.map af),cF p]).bind λv=>D.truth v) else(some false)) λm=>
       if m then(some ((0:Nat),[(D.sl [cF q,cF (og q)]),(D.sl (abO (jf K) (cF p) (D.bool true)))])) else(some (0,[(D.sl [cF q,cF (og q)]),(D.sl (jf K))])))=some (0,[D.sl [cF q,cF (og q)],D.sl (jf (jJ l K p))]):=λK p hp=>by
      rw[xV];have ht:=Gy (n:=n+3) (K:=K) hl hp j1
      simp only[eG] at ht;by_cases hm:p∈K
      ·simp[hm,bz,ac,jJ]
      ·simp only[hm,if_false,Option.getD_none,bz,zTb,zba,ac,if_true,decide_false,zCb] at ht ⊢;rw[ht];simp only[zba,jJ,hm,if_false];split
       ·rw[xX K p hm]
       ·rfl
     refine⟨.inl [I ((k+1:Nat):Int),.sl (jf (jJ l (jJ l K q) (og q)))],?_,_,rfl,step⟩;refine aa (z:=(0,[.sl (jf (jJ l (jJ l K q) (og q)))])) ?_ ?_
     ·refine aS (s':=[.sl [cF q,cF (og q)],I 1,.sl (jf (jJ l K q))]) ?_ (aS (s':=[.sl [cF q,cF (og q)],I 2,.sl (jf (jJ l (jJ l K q) (og q)))]) ?_ (dS (r:=(0,[.sl (jf (jJ l (jJ l K q) (og q)))])) ?_ rfl))
      ·simp only[g0,g1,g2,D.els,ah,zba,ac,zfa,show((0:Int)<2) from by decide,if_true,zQa,zLb,show D.idx (I 0) (0+1+1)=some 0 from rfl,zWb,az Ov]
       exact aa (one K q f) rfl
      ·simp only[g0,g1,g2,D.els,ah,zba,ac,zfa,show((1:Int)<2) from by decide,if_true,zQa,zLb,show D.idx (I 1) (0+1+1)=some 1 from rfl,zpb,zWb,az AI]
       exact aa (one (jJ l K q) (og q) E) rfl
      ·simp only[g0,g1,g2,D.els,ah,zba,ac];rfl
     ·simp only[g0,D.els,az (aU (i:=k) j1),zba]
      rfl
   ·obtain⟨K,rfl,hK⟩:=c;simp only[g0,g1,ah,zba,ac,zfa,zFc,if_false,D.els];refine⟨_,rfl,.inl [I ((j+1:Nat):Int),.sl (jf K)],?_,K,rfl,hK.next⟩
    simp only[g0,D.els,az (aU (i:=j) j1),zba]
    rfl
  ·obtain⟨K,rfl,hK⟩:=c;simp only[g0,g1,ah,zba,ac,zfa,zFc,if_false,D.els];refine⟨_,rfl,.inl [I ((i+1:Nat):Int),.sl (jf K)],?_,K,rfl,hK.next2⟩;simp only[g0,D.els,az (aU (i:=i) j1),zba]
   rfl
 ·obtain⟨K,rfl,hK⟩:=c;simp only[g0,g1,zya,ah,zba,ac,zfa,zFc,if_false,D.els];obtain⟨L,A,B⟩:=Fj (λq:V×Int=>q.1) K hK.keys;refine⟨_,rfl,.sl (L.map cF),?_,K,L,hK,A,B,rfl⟩;have o:(jf K).length<=1073741824:=by
   have:=hK.len hlen;simp only[jf,zya];omega
  simp only[g0,D.els,o,decide_true,if_true,Gg,NJ (n+2) A B,zba]
def qA{l:List V}{q:V×Int}:supp l q=true↔CN (pt l) l.length q.1 q.2:=by
 simp only[supp,sD,kV,zaa,zCa,zic,zfa,CN,pt];constructor
 ·rintro⟨h1,x,hx,h2⟩;obtain⟨k,hk,rfl⟩:=zYa hx;exact⟨λk hk=>h1 _ (cW hk),k,hk,by simpa [List.getD,hk] using h2⟩
 ·rintro⟨h1,k,hk,h2⟩;refine⟨λx hx=>?_,_,cW hk,h2⟩;obtain⟨k,hk,rfl⟩:=zYa hx;simpa [List.getD,hk] using h1 k hk
def NS(P:Nat->V)(i j k:Nat):V.cross ((P j).sub (P i)) ((P k).sub (P i))=(cO P k j i).neg:=by apply V.ext'<;>simp only[cO,wy,V.cross,V.sub,V.neg]<;>grind
def Bh{P:Nat->V}{i j k:Nat}:V.dot (aF (cO P i j k)) (P k)=V.dot (aF (cO P i j k)) (P i):=by
 by_cases h:cO P i j k=V.zero
 ·have a:aF V.zero=V.zero:=by apply V.ext'<;>simp[aF,V.zero]
  rw[h,a];simp[V.dot,V.zero]
 ·have g:=fh h;have e:=fL (cO P i j k);have t2:V.dot (cO P i j k) (wy P i k)=0:=by simp only[cO,V.dot,V.cross];grind
  rw[e] at t2;have:(aW (cO P i j k):Int)*V.dot (aF (cO P i j k)) (wy P i k)=0:=by rw[<-t2];simp only[V.dot,V.smul];grind
  have h0:=aA j1 this
  rw[bo] at h0;omega
def Jl{v:V}(h:v≠V.zero):v.neg≠V.zero:=λe=>by have a:=zma V.x e;have b:=zma V.y e;have c:=zma V.z e;simp only[V.neg,V.zero] at a b c;exact h (V.ext' (by simp only[V.zero];omega) (by simp only[V.zero];omega) (by simp only[V.zero];omega))
def NP(l:List V)(i j k:Nat):(qD (pt l i) (pt l j) (pt l k)).1=(aF (cO (pt l) k j i)).neg:=by simp only[qD,NS (pt l) i j k,B4]
def BS(v:V):v.neg.neg=v:=by apply V.ext'<;>simp[V.neg]
def Hi{l:List V}{i j k:Nat}{q:V×Int}:Cd l i j k q↔cO (pt l) k j i≠V.zero/\(q.1=aF (cO (pt l) k j i)\/q.1=(aF (cO (pt l) k j i)).neg)/\q.2=V.dot q.1 (pt l k):=by
 have e:=NP l i j k;have c:V.dot (aF (cO (pt l) k j i)) (pt l i)=V.dot (aF (cO (pt l) k j i)) (pt l k):=Bh;have g:(qD (pt l i) (pt l j) (pt l k)).1≠V.zero↔cO (pt l) k j i≠V.zero:=by
  rw[e];constructor
  ·intro h h0;rw[h0] at h;exact h rfl
  ·intro h;exact Jl (uf h)
 constructor
 ·intro h;have d:=h.dist;obtain⟨h1,h2⟩:=h;refine⟨g.1 h1,?_⟩;have hq:q.1=aF (cO (pt l) k j i)\/q.1=(aF (cO (pt l) k j i)).neg:=by
   rcases h2 with rfl|rfl
   ·exact .inr e
   ·left;show(qD (pt l i) (pt l j) (pt l k)).1.neg=_;rw[e,BS]
  refine⟨hq,?_⟩;rw[d];rcases hq with hq|hq
  ·rw[hq];exact c
  ·rw[hq,nJ,nJ];exact zma Neg.neg c
 ·rintro⟨h1,h2,h3⟩;refine⟨g.2 h1,?_⟩;have f:(qD (pt l i) (pt l j) (pt l k)).2=V.dot (qD (pt l i) (pt l j) (pt l k)).1 (pt l i):=rfl;obtain⟨a,b⟩:=q;simp only at h2 h3;subst h3;rcases h2 with rfl|rfl
  ·right;show _=((qD (pt l i) (pt l j) (pt l k)).1.neg,-(qD (pt l i) (pt l j) (pt l k)).2);rw[f,e,BS,nJ,c,Int.neg_neg]
  ·left;refine Prod.ext e.symm ?_;show _=(qD (pt l i) (pt l j) (pt l k)).2;rw[f,e,nJ,nJ,c]
def Known.facets{l:List V}{K L:List (V×Int)}(h:Known l l.length 0 0 K)(hp:L.Perm K)(d:L.Pairwise (λa b=>aN a.1 b.1)):Facets (pt l) l.length L:=by
 refine⟨d,λq=>⟨λhq=>?_,λhq=>?_⟩⟩
 ·obtain⟨hs,i,j,k,h1,h2,h3,hc⟩:=h.ok q (hp.subset hq);obtain⟨c1,c2,c⟩:=Hi.1 hc;exact⟨⟨k,j,i,h1,h2,h3,c1,c2,c⟩,qA.1 hs⟩
 ·obtain⟨⟨i,j,k,h1,h2,h3,c1,c2,c⟩,hs⟩:=hq;exact hp.symm.subset (h.all k j i h1 h2 h3 (.inl h3) q (Hi.2 ⟨c1,c2,c⟩) (qA.2 hs))
def kr:Option Nat->D
 | none=>I (-1)
 | some b=>I (b:Int)
def PO{α:Type}{p:Prop}[Decidable p]{A B:α}(h:p):(if decide p=true then A else B)=A:=by rw[zna (zha h)]
def PP{α:Type}{p:Prop}[Decidable p]{A B:α}(h:¬ p):(if decide p=true then A else B)=B:=by rw[zka (by simpa using h)]
def aY{α:Type}{p:Prop}[Decidable p]{A B y:α}(h:p)(a:A=y):(if decide p=true then A else B)=y:=by rw[zna (zha h)];exact a
def be{α:Type}{p:Prop}[Decidable p]{A B y:α}(h:¬ p)(a:B=y):(if decide p=true then A else B)=y:=by rw[zka (by simpa using h)];exact a
def Fg{x:Int}:sg x<0↔x<0:=by unfold sg;split<;>(try split)<;>omega
def hC{x:Int}:sg x=0↔x=0:=by unfold sg;split<;>(try split)<;>omega
def eK(a b:Nat):D.beq (I (a:Int)) (I (b:Int))=decide (a=b):=by rw[bZ];by_cases h:a=b<;>simp[h];omega
def Pm(n:Nat){l:List V}(hl:∀ x∈l,bd MV x){m:V}{d:Int}{a k:Nat}{best:Option Nat}(E:m≠V.zero)(e:a<l.length)(hk:k<l.length)(Z:∀ b,best=some b->b<l.length/\V.dot m (wy (pt l) a b)=0)(B:V.dot m (wy (pt l) a k)=0)(X:D) :
  ((D.truth (D.bool (D.beq (I (k:Int)) (I (a:Int))))).bind λs=>
  if s then(some ((0:Nat),[kr best,X])) else((abG .lss (kr best) (D.int .i64 0)).bind λJ=>
  (D.truth J).bind λt=>
  if t then(some (0,[I (k:Int),X])) else((D.asSl (eG l)).bind λi=>
  (D.idx (I (k:Int)) (List.length i)).bind λi29=>
  (i[i29]?).bind λK=>
  (D.asSl (eG l)).bind λj=>
  (D.idx (I (a:Int)) (List.length j)).bind λi32=>
  (j[i32]?).bind λL=>
  (cA (n+4) 103 [K,L]).bind λf=>
  (D.asSl (eG l)).bind λo=>
  (D.idx (kr best) (List.length o)).bind λi36=>
  (o[i36]?).bind λM=>
  (D.asSl (eG l)).bind λp=>
  (D.idx (I (a:Int)) (List.length p)).bind λi39=>
  (p[i39]?).bind λN=>
  (cA (n+4) 103 [M,N]).bind λg=>
  (D.get (cF (m,d)) [0]).bind λO=>
  (cA (n+4) 104 [O,g,f]).bind λq=>
  (abG .lss q (D.int .i64 0)).bind λP=>
  (D.truth P).bind λu=>
  Option.bind (if u then(some true) else((D.truth (D.bool (D.beq q (D.int .i64 0)))).bind λv=>
  if v then((cA (n+4) 101 [f,f]).bind λF=>
  (cA (n+4) 101 [g,g]).bind λG=>
  (abG .gtr F G).bind λQ=>
  D.truth Q) else(some false))) λw=>
  (D.truth (D.bool w)).bind λy=>
  if y then(some (0,[I (k:Int),X])) else(some (0,[kr best,X])))))=some (0,[kr (dh m (pt l) a best k),X]):=by
 by_cases hka:k=a
 ·subst hka;have h0:D.beq (I (k:Int)) (I (k:Int))=true:=by rw[eK];simp
  rw[h0,show dh m (pt l) k best k=best from zna rfl];exact j0 true (zna rfl)
 ·have h0:D.beq (I (k:Int)) (I (a:Int))=false:=by rw[eK];simp[hka]
  rw[h0];refine j0 false ?_;rw[zka j2]
  have h:∀ b,dh m (pt l) a b k=match b with
   | none=>some k
   | some b=>if rm m (pt l) a b k then some k else some b:=λb=>zka hka
  rw[h];clear h h0;cases best with
  | none=>exact j0 (.bool true) (j0 true rfl)
  | some b=>
   obtain⟨c,A⟩:=Z b rfl;have c1:=HZ (n+2) (hl _ (cW hk)) (hl _ (cW e)) j2
   have c2:=HZ (n+2) (hl _ (cW c)) (hl _ (cW e)) j2
   have w1:bd 524288 (wy (pt l) a k):=oB (hl _ (cW e)) (hl _ (cW hk));have H:bd 524288 (wy (pt l) a b):=oB (hl _ (cW e)) (hl _ (cW c));have W:(l.getD k V.zero).sub (l.getD a V.zero)=wy (pt l) a k:=rfl;have Y:(l.getD b V.zero).sub (l.getD a V.zero)=wy (pt l) a b:=rfl;rw[W] at c1;rw[Y] at c2;have R:=WL (n+1) (m:=m) H w1 j2
   have S:=HY (n+3) w1 w1 j2
   have U:=HY (n+3) H H j2
   have hle:=EQ E (eh A B);rw[hle] at R;have C:¬ ((b:Int)<0):=j1
   have r:(l.map af).length=l.length:=zya ..;refine aa (z:=.bool false) (by rw[show kr (some b)=I (b:Int) from rfl,ah,zea C]) (j0 false ?_)
   rw[zka j2]
   refine j0 (l.map af) (aa (z:=k) (by rw[r];exact aw hk) (aa (f9 hk) ?_))
   refine j0 (l.map af) (aa (z:=a) (by rw[r];exact aw e) (aa (f9 e) ?_))
   refine aa c1 ?_;refine j0 (l.map af) (aa (z:=b) (by rw[r];exact aw c) (aa (f9 c) ?_))
   refine j0 (l.map af) (aa (z:=a) (by rw[r];exact aw e) (aa (f9 e) ?_))
   refine aa c2 (j0 (af m) (aa R (aa ah (aa ac ?_))));simp only[Fg,bZ,hC,ac,zba,S,U,fH,rm,T];by_cases t1:V.dot m (V.cross (wy (pt l) a b) (wy (pt l) a k))<0
   ·simp[t1,kr]
   ·by_cases t2:V.dot m (V.cross (wy (pt l) a b) (wy (pt l) a k))=0
    ·by_cases t3:V.dot (wy (pt l) a b) (wy (pt l) a b)<V.dot (wy (pt l) a k) (wy (pt l) a k)
     ·simp[t2,t3,kr]
     ·simp[t2,t3,kr]
    ·simp[t1,t2,kr]
def ao(L:List Nat):List D:=L.map λ(k:Nat)=>I (k:Int)
def aG(L:List Nat):(ao L).length=L.length:=zya ..
def xv{L:List Nat}{t k:Nat}(h:L[t]?=some k):(ao L)[t]?=some (I (k:Int)):=by simp[ao,h]
def EI{n:Nat}(h:0<n):D.idx (D.int .i64 0) n=some 0:=aw (i:=0) h
theorem u4{m:V}{P:Nat->V}{a:Nat}:∀ (L:List Nat) (best:Option Nat) (b:Nat),L.foldl (dh m P a) best=some b->b∈L\/best=some b
 | [],best,b,h=>.inr h
 | k::L,best,b,h=>by
  rw[zWc] at h;rcases u4 L _ b h with h1|h1
  ·exact .inl (zoa _ h1)
  ·unfold dh at h1;split at h1
   ·exact .inr h1
   ·split at h1
    ·cases h1;exact .inl zsa
    ·split at h1<;>cases h1
     ·exact .inl zsa
     ·exact .inr rfl
theorem uD{body:Bd}{S:Nat->Nat->Prop}{a:Nat}{G:Nat->Prop}(g:∀ c b,G c->S c b->b≠a->G b)
  (d:∀ (c b:Nat) (out:List Nat),G c->c≠a->S c b->out.length<=1000->body [.sl (ao out),I (c:Int)]=some (.inl [.sl (ao (out++[c])),I (b:Int)]))
  (e:∀ out:List Nat,body [.sl (ao out),I (a:Int)]=some (.inr (0,[.sl (ao out)]))) :
  ∀ {c:Nat} {p:List Nat},Chain S a c p->G c->c≠a->∀ out:List Nat,(out++p).length<=1000->bf body [.sl (ao out),I (c:Int)]=some (0,[.sl (ao (out++p))])
 | c,_,.done s,hc,f,out,hl=>by
  have h1:=d c a out hc f s (by simp at hl;omega)
  rw[show bf body [.sl (ao out),I (c:Int)]=bf body [.sl (ao (out++[c])),I (a:Int)] from dR h1];exact ew (e _)
 | c,_,.step (y:=y) (l:=p) s hy k,hc,f,out,hl=>by
  have h1:=d c y out hc f s (by simp at hl;omega)
  rw[show bf body [.sl (ao out),I (c:Int)]=bf body [.sl (ao (out++[c])),I (y:Int)] from dR h1];have:=uD g d e k (g c y hc s hy) hy (out++[c]) (by simpa using hl)
  rw[this];simp
def lc{P:Nat->V}{i:Nat}{m:V}{d:Int}:aL P (i+1) m d=if V.dot m (P i)=d then aL P i m d++[i] else aL P i m d:=by
 unfold aL;rw[zgc,List.filter_append];by_cases h:V.dot m (P i)=d
 ·simp[h]
 ·simp[h]
def p46(n:Nat){l:List V}(hl:∀ x∈l,bd MV x)(hlen:l.length<=100)(hs:∀ i j,i<j->j<l.length->aN (pt l i) (pt l j)){m:V}{d:Int}(hF:IsF (pt l) l.length m d)(hm:bd 549755813888 m) :
  ∃ p,bA (pt l) l.length m d p/\cA (n+5) 46 [eG l,cF (m,d)]=some (.sl (ao p)):=by
 obtain⟨p,hp,ai,A⟩:=hF.poly hs;refine⟨p,hp,?_⟩;have F:=hF.flat hs;obtain⟨a,q,C,O,K,h3⟩:=hF.head hs;obtain⟨a',v,L⟩:=hp;rw[q] at v;cases v;obtain⟨on,u⟩:∃ on,aL (pt l) l.length m d=on:=⟨_,rfl⟩;rw[u] at F q C O K h3 L A;have H:∀ k∈on,k<l.length:=λk hk=>by rw[<-u] at hk;exact(au.1 hk).1
 have N:∀ k∈on,V.dot m (pt l k)=d:=λk hk=>by rw[<-u] at hk;exact(au.1 hk).2
 have hw:∀ b∈on,∀ k∈on,V.dot m (wy (pt l) b k)=0:=λb w k hk=>by rw[bo,N b w,N k hk];omega
 have al:on.length<=100:=by rw[<-u];unfold aL;exact zIa (zAc _ _) (by rw[zsb];exact hlen)
 have ax:p.length<=on.length:=z0b ai λz hz=>((A z).1 hz).1;have ll:(l.map af).length=l.length:=zya ..;have r:=λ(c k:Nat) (hc:c∈on) (hk:k∈on) (best:Option Nat) (w:∀ b,best=some b->b∈on) (X:D)=>Pm n hl (d:=d) hF.nz.1 (H c hc) (H k hk) (best:=best) (λb e=>⟨H b (w b e),hw c hc b (w b e)⟩) (hw c hc k hk) X;have P:∀ c∈on,Geo.mG (pt l) on c->∃ b,on.foldl (dh m (pt l) c) none=some b/\Side m (pt l) on c b:=λc hc ec=>yh F hc ec (h3 c hc);obtain⟨t0,B⟩:∃ t0,on=a::t0:=by
  cases hx:on with
  | nil=>rw[hx] at C;simp at C
  | cons y t0=>rw[hx] at q;simp at q;subst q;exact⟨t0,rfl⟩
 have f:(ao on)[0]?=some (I (a:Int)):=by rw[B];rfl
 have g:0<(ao on).length:=by rw[aG,B];simp
 rw[u46]
 delta SP qG qB qC qT qS qX qV qW qZ iL iR Jn
 refine j0 (l.map af) ?_;refine cg (λi s=>s=[I (i:Int),.sl (ao (aL (pt l) i m d))]) l.length 0 (zAa _) rfl (λi hi s o=>?_) (λs o=>?_)
 ·subst o;left;refine⟨_,?_,rfl⟩;refine aa ah (aa ac ?_);refine aY (by show((i:Int)<((l.map af).length:Int));rw[ll];omega) ?_
  refine aa (z:=(0,[.sl (ao (aL (pt l) (i+1) m d))])) ?_ (aa (az (aU (i:=i) j1)) rfl)
  refine j0 (l.map af) (aa (z:=i) (by rw[ll];exact aw hi) (aa (f9 hi) (j0 (af m) (aa (HY (n+3) hm (hl _ (cW hi)) j2) (j0 (I d) ?_)))))
  rw[bZ];refine aa ac ?_;rw[lc];by_cases hd:V.dot m (pt l i)=d
  ·have E:V.dot m (l.getD i V.zero)=d:=hd;rw[zna hd,PO E,zna ?_]
   ·simp[g1,D.els,ao,g0]
   ·have:(aL (pt l) i m d).length<=i:=by unfold aL;exact zIa (zAc _ _) j3
    simp only[g0,g1,D.els,aG,zQa,zLb];omega
  ·have E:¬ V.dot m (l.getD i V.zero)=d:=hd;rw[zka hd,PP E];rfl
 ·subst o;refine⟨(0,[.sl (ao on)]),?_,?_⟩
  ·refine aa ah (aa ac ?_);rw[<-u];exact be (by show ¬ ((l.length:Int)<((l.map af).length:Int));rw[ll];omega) rfl
  refine aa (EI g) (aa f (aa (EI g) (aa f ?_)));obtain⟨U,Z,J⟩:=P a C O;refine cg (λt s=>s=[kr ((on.take t).foldl (dh m (pt l) a) none),.sl (ao on),I (t:Int),.sl (ao on)]) on.length 0 (zAa _) rfl (λt ht s o=>?_) (λs o=>?_)
  ·subst o;left;refine⟨_,?_,rfl⟩;refine aa ah (aa ac ?_);refine aY (by show((t:Int)<((ao on).length:Int));rw[aG];omega) ?_
   have hk:on[t]?=some on[t]:=zca ht;refine aa (z:=(0,[kr ((on.take (t+1)).foldl (dh m (pt l) a) none),.sl (ao on)])) ?_ (aa (az (aU (i:=t) j1)) rfl)
   refine j0 (ao on) (aa (z:=t) (by rw[aG];exact aw ht) (aa (xv hk) ?_))
   rw[zkb ht,List.foldl_append,zWc,List.foldl_nil];exact r a on[t] C (zFa ht) _ (λb w=>by
    rcases u4 _ _ b w with h|h
    ·exact zRa h
    ·cases h) (.sl (ao on))
  ·subst o;rw[zOb,Z];refine⟨(0,[I (U:Int),.sl (ao on)]),?_,?_⟩
   ·refine aa ah (aa ac ?_);refine be (by show ¬ ((on.length:Int)<((ao on).length:Int));rw[aG];omega) ?_
    rfl
   obtain⟨T,Q,M,hy⟩:∃ T,p=a::T/\Chain (Side m (pt l) on) a U T/\U≠a:=by
    cases L with
    | done s=>exact z3a rfl s.ne
    | step s aj k=> have:=ach F C s J;subst this;exact⟨_,rfl,k,aj⟩
   refine zG (uD (S:=Side m (pt l) on) (a:=a) (G:=λc=>c∈on/\Geo.mG (pt l) on c) (λc b hc s _=>⟨s.mem,s.ext F hc.1⟩) (λc b out hc ad ak an=>?_) (λout=>?_) M ⟨J.mem,J.ext F C⟩ hy [a] ?_) ?_
   ·obtain⟨b',Y,R⟩:=P c hc.1 hc.2;have:=ach F hc.1 ak R;subst this;refine j0 (ao on) (aa (EI g) (aa f ?_));have W:D.beq (I (c:Int)) (I (a:Int))=false:=by rw[eK];simp[ad]
    refine aa (z:=true) (by show D.truth (D.bool (!(D.beq (I (c:Int)) (I (a:Int)))))=_;rw[W];rfl) ?_
    rw[zna rfl,zna (by simp only[g0,D.els,aG,zQa,zLb];omega)]
    refine j0 (ao on) ?_;refine c6 (λt s=>s=[kr ((on.take t).foldl (dh m (pt l) c) none),I (t:Int)]) on.length 0 (zAa _) rfl (λt ht s o=>?_) (λs o=>?_)
    ·subst o;left;refine⟨_,?_,rfl⟩;refine aa ah (aa ac ?_);refine aY (by show((t:Int)<((ao on).length:Int));rw[aG];omega) ?_
     have hk:on[t]?=some on[t]:=zca ht;refine aa (z:=(0,[kr ((on.take (t+1)).foldl (dh m (pt l) c) none),.sl (ao on)])) ?_ (aa (az (aU (i:=t) j1)) rfl)
     refine j0 (ao on) (aa (z:=t) (by rw[aG];exact aw ht) (aa (xv hk) ?_))
     rw[zkb ht,List.foldl_append,zWc,List.foldl_nil];exact r c on[t] hc.1 (zFa ht) _ (λb w=>by
      rcases u4 _ _ b w with h|h
      ·exact zRa h
      ·cases h) (.sl (ao on))
    ·subst o;rw[zOb,Y];refine⟨(0,[I (b:Int)]),?_,?_⟩
     ·refine aa ah (aa ac ?_);refine be (by show ¬ ((on.length:Int)<((ao on).length:Int));rw[aG];omega) ?_
      rfl
     ·simp[g0,g1,D.els,ao]
   ·refine j0 (ao on) (aa (EI g) (aa f ?_));have W:D.beq (I (a:Int)) (I (a:Int))=true:=by rw[eK];simp
    refine aa (z:=false) (by show D.truth (D.bool (!(D.beq (I (a:Int)) (I (a:Int)))))=_;rw[W];rfl) ?_
    rfl
   ·have:([a]++T).length=p.length:=by rw[Q];rfl
    omega
   ·rw[Q];rfl
end Sy
end
end Go.Proofs.YtphlmegkommlnaaGreatDoor
