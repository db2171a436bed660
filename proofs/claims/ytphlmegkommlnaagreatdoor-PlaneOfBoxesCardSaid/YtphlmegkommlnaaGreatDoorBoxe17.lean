/- Part 17 of the proof that PlaneOfBoxes answers true at every input -/
import Derived.Test.YtphlmegkommlnaaGreatDoorBoxe08
set_option linter.unusedVariables false
set_option linter.unusedSimpArgs false
set_option linter.unnecessarySimpa false
set_option linter.defProp false
set_option maxRecDepth 20000
namespace Go.Proofs.YtphlmegkommlnaaGreatDoor
noncomputable section
namespace Sy
open Go Go.Proofs
def bf:Lp:=λ{α β} body=>nj (α:=α) (β:=β) body
def cA(n:Nat):Nat->List D->Option D:=Iu bf n
section
variable(n:Nat)(a0 a1 a2 a3 a4:D)
def u18:cA (n+1) 18 [a0]=Tf bf (cA n) a0:=u3
def u19:cA (n+1) 19 [a0]=Tg bf (cA n) a0:=u3
def u21:cA (n+1) 21 [a0]=QP bf (cA n) a0:=u3
def u32:cA (n+1) 32 [a0,a1]=Th bf (cA n) a0 a1:=u3
def u34:cA (n+1) 34 [a0]=Tj bf (cA n) a0:=u3
def u45:cA (n+1) 45 [a0]=QQ bf (cA n) a0:=u3
def u46:cA (n+1) 46 [a0,a1]=Tk bf (cA n) a0 a1:=u3
def u48:cA (n+1) 48 [a0]=Tl bf (cA n) a0:=u3
def u51:cA (n+1) 51 [a0,a1]=Tm bf (cA n) a0 a1:=u3
def u52:cA (n+1) 52 [a0]=Tn bf (cA n) a0:=u3
def u53:cA (n+1) 53 [a0,a1]=To bf (cA n) a0 a1:=u3
def u54:cA (n+1) 54 [a0]=Tp bf (cA n) a0:=u3
def u57:cA (n+1) 57 [a0,a1]=Tq bf (cA n) a0 a1:=u3
def u61:cA (n+1) 61 [a0,a1]=Tr bf (cA n) a0 a1:=u3
def Zt:cA (n+1) 62 [a0,a1]=QR bf (cA n) a0 a1:=u3
def u68:cA (n+1) 68 [a0]=Tt bf (cA n) a0:=u3
def u71:cA (n+1) 71 [a0]=Tu bf (cA n) a0:=u3
def u72:cA (n+1) 72 [a0,a1]=Tv bf (cA n) a0 a1:=u3
def u73:cA (n+1) 73 [a0,a1]=Tw bf (cA n) a0 a1:=u3
def u74:cA (n+1) 74 [a0]=Tx bf (cA n) a0:=u3
def u76:cA (n+1) 76 [a0]=Tz bf (cA n) a0:=u3
def u77:cA (n+1) 77 [a0]=TA bf (cA n) a0:=u3
def u78:cA (n+1) 78 [a0,a1]=TB bf (cA n) a0 a1:=u3
def u80:cA (n+1) 80 [a0]=TC bf (cA n) a0:=u3
def u81:cA (n+1) 81 [a0,a1]=TD bf (cA n) a0 a1:=u3
def u82:cA (n+1) 82 [a0,a1]=TE bf (cA n) a0 a1:=u3
def u83:cA (n+1) 83 [a0]=TF bf (cA n) a0:=u3
def u85:cA (n+1) 85 [a0,a1]=TG bf (cA n) a0 a1:=u3
def u87:cA (n+1) 87 [a0,a1]=TH bf (cA n) a0 a1:=u3
def u90:cA (n+1) 90 [a0,a1]=TI bf (cA n) a0 a1:=u3
def u91:cA (n+1) 91 [a0,a1]=TJ bf (cA n) a0 a1:=u3
def u96:cA (n+1) 96 [a0,a1,a2]=TL bf (cA n) a0 a1 a2:=u3
def u97:cA (n+1) 97 [a0]=TM bf (cA n) a0:=u3
def u98:cA (n+1) 98 [a0,a1]=TN bf (cA n) a0 a1:=u3
def X7:cA (n+1) 100 [a0,a1]=KQ bf (cA n) a0 a1:=u3
def X8:cA (n+1) 101 [a0,a1]=HD bf (cA n) a0 a1:=u3
def X9:cA (n+1) 103 [a0,a1]=KR bf (cA n) a0 a1:=u3
def Ya:cA (n+1) 104 [a0,a1,a2]=KS bf (cA n) a0 a1 a2:=u3
def Yb:cA (n+1) 105 [a0,a1]=KU bf (cA n) a0 a1:=u3
def Yc:cA (n+1) 106 [a0,a1,a2]=KV bf (cA n) a0 a1 a2:=u3
def Yd:cA (n+1) 107 [a0,a1]=KW bf (cA n) a0 a1:=u3
def Ye:cA (n+1) 108 [a0,a1]=KX bf (cA n) a0 a1:=u3
def Yf:cA (n+1) 109 [a0,a1,a2]=KY bf (cA n) a0 a1 a2:=u3
def Yg:cA (n+1) 110 [a0,a1]=KZ bf (cA n) a0 a1:=u3
def Yh:cA (n+1) 111 [a0,a1,a2]=La bf (cA n) a0 a1 a2:=u3
def Yi:cA (n+1) 112 [a0,a1]=Lb bf (cA n) a0 a1:=u3
def Yj:cA (n+1) 115 [a0]=Lc bf (cA n) a0:=u3
def Yk:cA (n+1) 116 [a0,a1]=Ld bf (cA n) a0 a1:=u3
def Yl:cA (n+1) 117 [a0,a1]=Le bf (cA n) a0 a1:=u3
def Ym:cA (n+1) 118 [a0]=Lf bf (cA n) a0:=u3
def Yn:cA (n+1) 119 []=Lg bf (cA n) :=u3
def Yo:cA (n+1) 120 [a0,a1]=Lh bf (cA n) a0 a1:=u3
def Yp:cA (n+1) 121 [a0,a1]=Li bf (cA n) a0 a1:=u3
def Yq:cA (n+1) 122 [a0,a1]=Lj bf (cA n) a0 a1:=u3
def Yr:cA (n+1) 123 [a0,a1]=Lk bf (cA n) a0 a1:=u3
def ST:cA (n+1) 124 [a0]=HE bf (cA n) a0:=u3
def Ys:cA (n+1) 127 [a0]=Ll bf (cA n) a0:=u3
def SU:cA (n+1) 128 [a0]=HF bf (cA n) a0:=u3
def Yt:cA (n+1) 129 [a0]=Lm bf (cA n) a0:=u3
def Yu:cA (n+1) 130 []=Ln bf (cA n) :=u3
def Yv:cA (n+1) 131 [a0,a1]=Lo bf (cA n) a0 a1:=u3
def QH:cA (n+1) 132 [a0,a1]=FR bf (cA n) a0 a1:=u3
def Yw:cA (n+1) 134 [a0,a1]=Lr bf (cA n) a0 a1:=u3
def Yx:cA (n+1) 135 [a0]=Ls bf (cA n) a0:=u3
def SV:cA (n+1) 136 [a0]=HG bf (cA n) a0:=u3
def Yy:cA (n+1) 137 [a0,a1]=Lt bf (cA n) a0 a1:=u3
def Yz:cA (n+1) 138 [a0]=Lu bf (cA n) a0:=u3
def YA:cA (n+1) 139 [a0]=Lv bf (cA n) a0:=u3
def YB:cA (n+1) 140 [a0]=Lw bf (cA n) a0:=u3
def YC:cA (n+1) 141 [a0,a1]=Lx bf (cA n) a0 a1:=u3
def YD:cA (n+1) 142 [a0]=Ly bf (cA n) a0:=u3
def YE:cA (n+1) 144 [a0,a1]=Lz bf (cA n) a0 a1:=u3
def YF:cA (n+1) 147 [a0,a1]=LA bf (cA n) a0 a1:=u3
def YG:cA (n+1) 148 [a0]=LB bf (cA n) a0:=u3
def YH:cA (n+1) 152 [a0,a1]=LC bf (cA n) a0 a1:=u3
def YI:cA (n+1) 154 [a0,a1]=LD bf (cA n) a0 a1:=u3
def YJ:cA (n+1) 155 [a0]=LE bf (cA n) a0:=u3
def YK:cA (n+1) 156 [a0,a1,a2,a3,a4]=LF bf (cA n) a0 a1 a2 a3 a4:=u3
def YL:cA (n+1) 165 [a0]=LG bf (cA n) a0:=u3
def YM:cA (n+1) 167 [a0]=LH bf (cA n) a0:=u3
def YN:cA (n+1) 168 [a0,a1]=LI bf (cA n) a0 a1:=u3
def YO:cA (n+1) 169 []=LJ bf (cA n) :=u3
def YP:cA (n+1) 170 [a0,a1]=LK bf (cA n) a0 a1:=u3
def YQ:cA (n+1) 171 [a0]=LL bf (cA n) a0:=u3
def QI:cA (n+1) 172 [a0,a1]=FS bf (cA n) a0 a1:=u3
def SW:cA (n+1) 173 [a0,a1]=HH bf (cA n) a0 a1:=u3
def SX:cA (n+1) 174 [a0,a1]=HI bf (cA n) a0 a1:=u3
def YR:cA (n+1) 186 [a0]=LN bf (cA n) a0:=u3
def YS:cA (n+1) 187 [a0]=LP bf (cA n) a0:=u3
def YT:cA (n+1) 188 [a0,a1]=LQ bf (cA n) a0 a1:=u3
def YU:cA (n+1) 194 [a0]=LR bf (cA n) a0:=u3
def YV:cA (n+1) 195 [a0,a1]=LT bf (cA n) a0 a1:=u3
def YW:cA (n+1) 196 [a0]=LU bf (cA n) a0:=u3
def YX:cA (n+1) 197 [a0,a1]=LV bf (cA n) a0 a1:=u3
def YY:cA (n+1) 201 [a0,a1]=LW bf (cA n) a0 a1:=u3
def YZ:cA (n+1) 202 [a0]=FT bf (cA n) a0:=u3
def SY:cA (n+1) 203 [a0,a1]=HJ bf (cA n) a0 a1:=u3
def Y0:cA (n+1) 215 [a0]=LX bf (cA n) a0:=u3
def Y1:cA (n+1) 217 [a0]=LY bf (cA n) a0:=u3
def Y2:cA (n+1) 333 [a0,a1]=LZ bf (cA n) a0 a1:=u3
def Y3:cA (n+1) 336 [a0,a1]=L4 bf (cA n) a0 a1:=u3
def Y4:cA (n+1) 342 [a0]=L5 bf (cA n) a0:=u3
def Y5:cA (n+1) 352 [a0,a1]=L6 bf (cA n) a0 a1:=u3
def SZ:cA (n+1) 357 [a0]=HK bf (cA n) a0:=u3
def Y6:cA (n+1) 371 [a0,a1]=L7 bf (cA n) a0 a1:=u3
def Y7:cA (n+1) 385 [a0]=L8 bf (cA n) a0:=u3
def S4:cA (n+1) 386 [a0,a1]=HL bf (cA n) a0 a1:=u3
def Y8:cA (n+1) 392 [a0,a1]=L9 bf (cA n) a0 a1:=u3
def Y9:cA (n+1) 393 [a0]=Md bf (cA n) a0:=u3
def QJ:cA (n+1) 394 [a0]=FU bf (cA n) a0:=u3
def Za:cA (n+1) 416 [a0,a1,a2,a3]=Me bf (cA n) a0 a1 a2 a3:=u3
def Zb:cA (n+1) 421 [a0,a1,a2,a3,a4]=Mf bf (cA n) a0 a1 a2 a3 a4:=u3
def Zc:cA (n+1) 423 [a0,a1,a2]=Mg bf (cA n) a0 a1 a2:=u3
def Zd:cA (n+1) 425 [a0,a1,a2,a3]=Mh bf (cA n) a0 a1 a2 a3:=u3
def Ze:cA (n+1) 429 [a0,a1]=Mi bf (cA n) a0 a1:=u3
def Zf:cA (n+1) 430 [a0,a1,a2]=Pe bf (cA n) a0 a1 a2:=u3
def Zg:cA (n+1) 433 [a0,a1]=Mj bf (cA n) a0 a1:=u3
def Zh:cA (n+1) 434 [a0,a1,a2]=Mk bf (cA n) a0 a1 a2:=u3
def Zi:cA (n+1) 435 [a0,a1]=Ml bf (cA n) a0 a1:=u3
def Zj:cA (n+1) 440 [a0,a1]=Mm bf (cA n) a0 a1:=u3
def Zk:cA (n+1) 443 [a0,a1]=Mn bf (cA n) a0 a1:=u3
def Zl:cA (n+1) 444 [a0,a1]=Mo bf (cA n) a0 a1:=u3
def Zm:cA (n+1) 445 [a0,a1]=Mp bf (cA n) a0 a1:=u3
def Zn:cA (n+1) 447 [a0]=Mq bf (cA n) a0:=u3
def Zo:cA (n+1) 448 [a0]=Mr bf (cA n) a0:=u3
def Zp:cA (n+1) 449 [a0]=Ms bf (cA n) a0:=u3
def Zq:cA (n+1) 450 [a0,a1]=Mt bf (cA n) a0 a1:=u3
def Zr:cA (n+1) 454 [a0,a1]=Mu bf (cA n) a0 a1:=u3
def Zs:cA (n+1) 456 [a0,a1]=Mv bf (cA n) a0 a1:=u3
end
end Sy
end
noncomputable section
namespace Geo
structure V where
 x:Int
 y:Int
 z:Int
deriving DecidableEq
namespace V
def sub(a b:V):V:=⟨a.x-b.x,a.y-b.y,a.z-b.z⟩
def neg(a:V):V:=⟨-a.x,-a.y,-a.z⟩
def add(a b:V):V:=⟨a.x+b.x,a.y+b.y,a.z+b.z⟩
def smul(k:Int)(a:V):V:=⟨k*a.x,k*a.y,k*a.z⟩
def dot(a b:V):Int:=a.x*b.x+a.y*b.y+a.z*b.z
def cross(a b:V):V:=⟨a.y*b.z-a.z*b.y,a.z*b.x-a.x*b.z,a.x*b.y-a.y*b.x⟩
def zero:V:=⟨0,0,0⟩
def ext'{a b:V}(h1:a.x=b.x)(h2:a.y=b.y)(h3:a.z=b.z):a=b:=by cases a;cases b;simp_all
end V
open V
def AA{a:Int}(h:a≠0):0<a*a:=by
 rcases Int.lt_or_lt_of_ne h with h|h
 ·exact zRb h h
 ·exact zCa h h
def nG(a:Int):0<=a*a:=by
 rcases zzb a 0 with h|h|h
 ·exact zpa (zRb h h)
 ·subst h;decide
 ·exact zpa (zCa h h)
def iC(a:V):0<=dot a a:=by have:=nG a.x;have:=nG a.y;have:=nG a.z;simp only[dot];omega
def oL{a:V}(h:dot a a=0):a=zero:=by
 have h1:=nG a.x;have h2:=nG a.y;have h3:=nG a.z;simp only[dot] at h;have b:a.x*a.x=0:=j1
 have c:a.y*a.y=0:=j1
 have d:a.z*a.z=0:=j1
 apply V.ext'<;>simp only[zero]<;>(first|(rcases z8a.1 b with h|h<;>exact h)|(rcases z8a.1 c with h|h<;>exact h)|(rcases z8a.1 d with h|h<;>exact h))
def aL{a:V}(h:a≠zero):0<dot a a:=by
 have:=iC a;rcases zWa this with h1|h1
 ·exact h1
 ·exact z3a (oL h1.symm) h
def T(n u v:V):Int:=dot n (cross u v)
def gU{a b:Int}(d:0<a)(h:0<a*b):0<b:=by
 rcases zzb b 0 with c|c|c
 ·have:=zYa d c;omega
 ·subst c;simp at h
 ·exact c
def oa{a b:Int}(d:0<a)(h:0<=a*b):0<=b:=by
 rcases zyb b 0 with c|c
 ·have:=zYa d c;omega
 ·exact c
def aA{a b:Int}(c:0<a)(h:a*b=0):b=0:=by
 rcases z8a.1 h with h|h
 ·omega
 ·exact h
section plane
variable{n:V}(hn:n≠zero)
include hn
def Ac(f:V){u v w:V}(hu:dot n u=0)(a:dot n v=0)(hw:dot n w=0) :
  dot f u*T n v w+dot f v*T n w u+dot f w*T n u v=0:=by
 have h:dot n n*(dot f u*T n v w+dot f v*T n w u+dot f w*T n u v)=0:=by simp only[T,dot,cross] at *;grind
 exact aA (aL hn) h
def Eo{f u v w:V}(hu:dot n u=0)(c:dot n v=0)(hw:dot n w=0)(a:0<dot f u)(fv:0<dot f v)(b:0<dot f w)
  (h1:0<=T n u v) (h2:0<=T n v w):0<=T n u w/\(0<T n u v\/0<T n v w->0<T n u w):=by
 have p:=Ac hn f hu c hw;have e:T n w u=- T n u w:=by simp only[T,dot,cross];grind
 rw[e] at p;have q:dot f v*T n u w=dot f u*T n v w+dot f w*T n u v:=by have:dot f v*-T n u w=-(dot f v*T n u w):=zGb _ _;omega
 have d:=z9a (zpa a) h2;have g:=z9a (zpa b) h1;refine⟨oa fv j1,λh=>gU fv ?_⟩
 rcases h with h|h
 ·have:=zCa b h;omega
 ·have:=zCa a h;omega
def dT{u v:V}(hu:dot n u=0)(d:dot n v=0)(h:T n u v=0):cross u v=zero:=by
 have hp:=aL hn;have a:dot n n*(cross u v).x=T n u v*n.x:=by simp only[T,dot,cross] at *;grind
 have b:dot n n*(cross u v).y=T n u v*n.y:=by simp only[T,dot,cross] at *;grind
 have c:dot n n*(cross u v).z=T n u v*n.z:=by simp only[T,dot,cross] at *;grind
 rw[h,z7b] at a b c;exact V.ext' (aA hp a) (aA hp b) (aA hp c)
end plane
def Ab{u v:V}(h:cross u v=zero)(f:V):smul (dot f u) v=smul (dot f v) u:=by
 have h1:(cross u v).x=0:=by rw[h];rfl
 have h2:(cross u v).y=0:=by rw[h];rfl
 have h3:(cross u v).z=0:=by rw[h];rfl
 simp only[cross] at h1 h2 h3;apply V.ext'<;>simp only[smul,dot]<;>grind
def JP{u v:V}(h:cross u v=zero)(hu:u≠zero)(a:dot v u=dot u u):v=u:=by
 have p:=Ab h u;have e:dot u v=dot v u:=by simp only[dot];grind
 have hp:=aL hu;rw[e,a] at p;have b:dot u u*(v.x-u.x)=0:=by have:=zna V.x p;simp only[smul] at this;grind
 have c:dot u u*(v.y-u.y)=0:=by have:=zna V.y p;simp only[smul] at this;grind
 have d:dot u u*(v.z-u.z)=0:=by have:=zna V.z p;simp only[smul] at this;grind
 have:=aA hp b;have:=aA hp c;have:=aA hp d;exact V.ext' j1 j1 j1
theorem gT{α:Type}(φ:α->Int):∀ l:List α,∃ N:Int,0<N/\∀ x∈l,-N<φ x/\φ x<N
 | []=>⟨1,j2,j3⟩
 | a::l=>by
  obtain⟨N,h0,h⟩:=gT φ l;refine⟨N+(φ a).natAbs+1,j1,λx hx=>?_⟩
  rcases zBa.1 hx with rfl|hx
  ·omega
  ·have:=h x hx;omega
def wy(P:Nat->V)(a x:Nat):V:=sub (P x) (P a)
structure Side(n:V)(P:Nat->V)(on:List Nat)(a b:Nat):Prop where
 mem:b∈on
 ne:b≠a
 all:∀ x∈on,0<=T n (wy P a b) (wy P a x)/\(T n (wy P a b) (wy P a x)=0->0<=dot (wy P a x) (wy P a b)/\dot (wy P a x) (wy P a b)<=dot (wy P a b) (wy P a b))
def mN(P:Nat->V)(on:List Nat)(a:Nat):Prop:=∃ f:V,∀ x∈on,x≠a->0<dot f (wy P a x)
structure Flat(n:V)(P:Nat->V)(on:List Nat):Prop where
 nz:n≠zero
 pl:∀ x∈on,∀ y∈on,dot n (wy P x y)=0
 inj:∀ x∈on,∀ y∈on,P x=P y->x=y
section poly
variable{n:V}{P:Nat->V}{on:List Nat}
def rl(h:Flat n P on){a b:Nat}(i:a∈on)(j:b∈on)(c:b≠a):wy P a b≠zero:=λe=>by apply c;apply h.inj b j a i;have d:=zna V.x e;have f:=zna V.y e;have g:=zna V.z e;simp only[wy,sub,zero] at d f g;exact V.ext' j1 j1 j1
def KJ{a b c:Nat}(h:wy P a b=wy P a c):P b=P c:=by have d:=zna V.x h;have e:=zna V.y h;have f:=zna V.z h;simp only[wy,sub] at d e f;exact V.ext' j1 j1 j1
def acJ(h:Flat n P on){a b c:Nat}(f:a∈on)(d:Side n P on a b)(hc:Side n P on a c):b=c:=by
 have h1:=d.all c hc.mem;have h2:=hc.all b d.mem;have e:T n (wy P a c) (wy P a b)=- T n (wy P a b) (wy P a c):=by simp only[T,dot,cross];grind
 rw[e] at h2;have t0:T n (wy P a b) (wy P a c)=0:=j1
 have j:=h1.2 t0;have k:=h2.2 j1
 have es:dot (wy P a b) (wy P a c)=dot (wy P a c) (wy P a b):=by simp only[dot];grind
 have hx:=dT h.nz (h.pl a f b d.mem) (h.pl a f c hc.mem) t0;have hq:dot (wy P a b) (wy P a b)*dot (wy P a c) (wy P a c)=dot (wy P a c) (wy P a b)*dot (wy P a c) (wy P a b):=by have p:=Ab hx (wy P a b);have m:=zna V.x p;have o:=zna V.y p;have q:=zna V.z p;simp only[smul] at m o q;simp only[dot] at *;grind
 have l:=aL (rl h f d.mem d.ne);have g:=aL (rl h f hc.mem hc.ne);have hle:dot (wy P a c) (wy P a b)=dot (wy P a b) (wy P a b):=by
  generalize dot (wy P a b) (wy P a b)=B at *;generalize dot (wy P a c) (wy P a c)=C at *;generalize dot (wy P a c) (wy P a b)=X at *;rw[es] at k;rcases zWa j.2 with i|heq
  ·exfalso;have:X*X<B*C:=by
    have a1:X*X<=X*C:=zka k.2 j.1;have a2:X*C<B*C:=Int.mul_lt_mul_of_pos_right i g;omega
   omega
  ·exact heq
 have:=JP hx (rl h f d.mem d.ne) hle;exact(h.inj c hc.mem b d.mem (KJ this)).symm
def Side.ext(h:Flat n P on){a b:Nat}(d:a∈on)(c:Side n P on a b):mN P on b:=by
 obtain⟨N,m,l⟩:=gT (λx=>dot (wy P b a) (wy P b x)) on;refine⟨add (smul N (cross n (wy P a b))) (wy P b a),λx hx g=>?_⟩;have e:dot (add (smul N (cross n (wy P a b))) (wy P b a)) (wy P b x)=N*T n (wy P a b) (wy P a x)+dot (wy P b a) (wy P b x):=by simp only[T,dot,cross,add,smul,wy,sub];grind
 rw[e];obtain⟨h1,h2⟩:=c.all x hx;have h3:=l x hx;rcases zWa h1 with o|heq
 ·have:N*1<=N*T n (wy P a b) (wy P a x):=zka j1 j1
  omega
 ·rw[<-heq,zrb,zrc];have k:=h2 heq.symm;have j:dot (wy P b a) (wy P b x)=dot (wy P a b) (wy P a b)-dot (wy P a x) (wy P a b):=by simp only[dot,wy,sub];grind
  rw[j];rcases zWa k.2 with i|i
  ·omega
  ·exfalso;have f:=dT h.nz (h.pl a d b c.mem) (h.pl a d x hx) heq.symm;exact g (h.inj x hx b c.mem (KJ (JP f (rl h d c.mem c.ne) i)))
def acn(h:Flat n P on){a x y:Nat}(i:a∈on)(hx:x∈on)(hy:y∈on)(C:mN P on a)(ex:mN P on x)(D:mN P on y)(d:x≠a)(e:y≠a)(ht:T n (wy P a x) (wy P a y)=0):x=y:=by
 by_cases hxy:x=y
 ·exact hxy
 exfalso;obtain⟨f,hf⟩:=C;obtain⟨g,w⟩:=ex;obtain⟨k,hk⟩:=D;have c:=dT h.nz (h.pl a i x hx) (h.pl a i y hy) ht;have p:=Ab c f;have E:=hf x hx d;have v:=hf y hy e;have g1:=w a i (Ne.symm d);have g2:=w y hy (Ne.symm hxy);have G:=hk a i (Ne.symm e);have H:=hk x hx hxy;have K:dot f (wy P a x)*dot g (wy P a y)=dot f (wy P a y)*dot g (wy P a x):=by have s:=zna V.x p;have t:=zna V.y p;have u:=zna V.z p;simp only[smul] at s t u;generalize dot f (wy P a x)=A at *;generalize dot f (wy P a y)=B at *;simp only[dot];grind
 have I:dot f (wy P a x)*dot k (wy P a y)=dot f (wy P a y)*dot k (wy P a x):=by have s:=zna V.x p;have t:=zna V.y p;have u:=zna V.z p;simp only[smul] at s t u;generalize dot f (wy P a x)=A at *;generalize dot f (wy P a y)=B at *;simp only[dot];grind
 have j:dot g (wy P x a)=- dot g (wy P a x):=by simp only[dot,wy,sub];grind
 have l:dot g (wy P x y)=dot g (wy P a y)-dot g (wy P a x):=by simp only[dot,wy,sub];grind
 have m:dot k (wy P y a)=- dot k (wy P a y):=by simp only[dot,wy,sub];grind
 have o:dot k (wy P y x)=dot k (wy P a x)-dot k (wy P a y):=by simp only[dot,wy,sub];grind
 rw[j] at g1;rw[l] at g2;rw[m] at G;rw[o] at H;generalize dot f (wy P a x)=A at *;generalize dot f (wy P a y)=B at *;generalize dot g (wy P a x)=gx at *;generalize dot g (wy P a y)=F at *;generalize dot k (wy P a x)=r at *;generalize dot k (wy P a y)=b at *;have r1:B<A:=by
  rcases zyb B A with q|q
  ·exact q
  ·exfalso;have s1:B*gx<=A*gx:=by
    have:=z3b q (show 0<=-gx by omega)
    simp only[zGb] at this;omega
   have s2:A*gx<A*F:=zmb j1 E
   omega
 have L:A*b<B*b:=by
  have J:B*b<B*r:=zmb j1 v
  have M:A*b=B*r:=I;have N:A*b<=B*b:=by
   have:=z3b (zpa r1) (show 0<=-b by omega)
   simp only[zGb] at this;omega
  omega
 have J:B*b<B*r:=zmb j1 v
 omega
def SQ(a x y:Nat):T n (wy P x y) (wy P x a)=T n (wy P a x) (wy P a y):=by simp only[T,dot,cross,wy,sub];grind
def FK(u v:V):T n v u=- T n u v:=by simp only[T,dot,cross];grind
def Side.after(h:Flat n P on){a x y:Nat}(d:a∈on)(hx:x∈on)(e:mN P on a)(ex:mN P on x)(b:x≠a)(hs:Side n P on x y)(c:y≠a):0<T n (wy P a x) (wy P a y):=by
 have h1:=(hs.all a d).1;rw[SQ] at h1;rcases zWa h1 with h2|h2
 ·exact h2
 ·exact z3a (acn h d hx hs.mem e ex (hs.ext h hx) b c h2.symm) hs.ne.symm
def MI(h:Flat n P on){a x y z:Nat}(i:a∈on)(hx:x∈on)(b:z∈on)(hs:Side n P on x y)(o:mN P on z)(h1:0<T n (wy P a x) (wy P a z))(h2:0<T n (wy P a z) (wy P a y)):False:=by
 obtain⟨f,hf⟩:=o;have c:a≠z:=λe=>by subst e;simp[T,dot,cross,wy,sub] at h2
 have d:x≠z:=λe=>by
  subst e;have:T n (wy P a x) (wy P a x)=0:=by simp only[T,dot,cross];grind
  omega
 have g:y≠z:=λe=>by
  subst e;have:T n (wy P a y) (wy P a y)=0:=by simp only[T,dot,cross];grind
  omega
 have f1:=hf a i c;have f2:=hf x hx d;have f3:=hf y hs.mem g;have h3:=(hs.all z b).1;have e:dot n n*(T n (wy P x y) (wy P x z)*dot f (wy P z a)+T n (wy P a z) (wy P a y)*dot f (wy P z x)+T n (wy P a x) (wy P a z)*dot f (wy P z y))=0:=by
  have p:=h.pl z b a i;have q:=h.pl z b x hx;have r:=h.pl z b y hs.mem;have k:T n (wy P x y) (wy P x z)=T n (wy P z x) (wy P z y):=SQ z x y;have l:T n (wy P a z) (wy P a y)=T n (wy P z y) (wy P z a):=by simp only[T,dot,cross,wy,sub];grind
  have m:T n (wy P a x) (wy P a z)=T n (wy P z a) (wy P z x):=by simp only[T,dot,cross,wy,sub];grind
  rw[k,l,m];have j:=Ac h.nz f p q r;rw[zIa (dot f (wy P z a)),zIa (dot f (wy P z x)),zIa (dot f (wy P z y))] at j;rw[show T n (wy P z x) (wy P z y)*dot f (wy P z a)+T n (wy P z y) (wy P z a)*dot f (wy P z x)+T n (wy P z a) (wy P z x)*dot f (wy P z y)=0 from j,zrb]
 have s:=aA (aL h.nz) e;have m1:=z9a h3 (zpa f1);have m2:=zCa h2 f2;have m3:=zCa h1 f3;omega
theorem xx{α:Type}{p q:α->Bool}:∀ {l:List α},(∀ x∈l,p x=true->q x=true)->(∃ y∈l,q y=true/\p y=false)->l.countP p<l.countP q
 | [],_,h=>by obtain⟨y,hy,_⟩:=h;cases hy
 | a::l,h,hy=>by
  have hl:l.countP p<=l.countP q:=by have b:∀ x∈l,p x=true->q x=true:=λx hx=>h x (zoa _ hx);exact List.countP_mono_left b
  have c:=h a zsa;rw[List.countP_cons,List.countP_cons];obtain⟨y,hm,hq,hp⟩:=hy;rcases zBa.1 hm with rfl|hm
  ·simp[hq,hp];omega
  ·have:=xx (l:=l) (λx hx=>h x (zoa _ hx)) ⟨y,hm,hq,hp⟩;cases hpa:p a
   ·simp;omega
   ·simp[c hpa];omega
inductive Chain(S:Nat->Nat->Prop)(a₀:Nat):Nat->List Nat->Prop
 | done {c:Nat}:S c a₀->Chain S a₀ c [c]
 | step {c y:Nat} {l:List Nat}:S c y->y≠a₀->Chain S a₀ y l->Chain S a₀ c (c::l)
def walk(h:Flat n P on){a:Nat}(q:a∈on)(D:mN P on a)(k:∀ c∈on,mN P on c->∃ b,Side n P on c b){c:Nat}(hc:c∈on)(r:mN P on c)(j:c≠a) :
  ∃ l,Chain (Side n P on) a c l/\(∀ z∈l,z∈on/\mN P on z/\z≠a/\(z=c\/0<T n (wy P a c) (wy P a z)))/\(∀ z∈on,mN P on z->z≠a->0<T n (wy P a c) (wy P a z)->z∈l) ∧
   l.Pairwise (λx y=>0<T n (wy P a x) (wy P a y)):=by
 generalize hm:on.countP (λz=>decide (0<T n (wy P a c) (wy P a z)))=m
 induction m using Nat.strongRecOn generalizing c with
 | _ m ih=>
  obtain⟨y,hy⟩:=k c hc r;obtain⟨f,hf⟩:=D;by_cases hya:y=a
  ·subst hya;refine⟨[c],.done hy,λz d=>?_,λz d s i ht=>?_,j3⟩
   ·rw[zKa] at d;subst d;exact⟨hc,r,j,.inl rfl⟩
   ·have h1:=(hy.all z d).1;have e:T n (wy P c y) (wy P c z)=- T n (wy P y c) (wy P y z):=by simp only[T,dot,cross,wy,sub];grind
    omega
  ·have g:=Side.after h q hc ⟨f,hf⟩ r j hy hya;have v:=hy.ext h hc;have tr:∀ z∈on,0<T n (wy P a y) (wy P a z)->0<T n (wy P a c) (wy P a z):=λz d ht=>by
    have i:z≠a:=λe=>by
     subst e;have:T n (wy P z y) (wy P z z)=0:=by simp[T,dot,cross,wy,sub]
     omega
    exact(Eo h.nz (h.pl a q c hc) (h.pl a q y hy.mem) (h.pl a q z d) (hf c hc j) (hf y hy.mem hya) (hf z d i) (zpa g) (zpa ht)).2 (.inl g)
   have p:T n (wy P a y) (wy P a y)=0:=by simp only[T,dot,cross];grind
   obtain⟨l,w,A,F,G⟩:=ih _ (by rw[<-hm];refine xx (λz d ht=>by simp only[zfa] at ht ⊢;exact tr z d ht) ⟨y,hy.mem,by simpa using g,by simp[p]⟩) hy.mem v hya rfl
   refine⟨c::l,.step hy hya w,λz d=>?_,λz d s i ht=>?_,zJa.2 ⟨λz d=>?_,G⟩⟩
   ·rcases zBa.1 d with rfl|d
    ·exact⟨hc,r,j,.inl rfl⟩
    ·obtain⟨t,B,C,o⟩:=A z d;refine⟨t,B,C,.inr ?_⟩;rcases o with rfl|o
     ·exact g
     ·exact tr z t o
   ·rcases zzb (T n (wy P a y) (wy P a z)) 0 with E|heq|u
    ·have e:=FK (n:=n) (wy P a y) (wy P a z);exact(MI h q hc d hy s ht j1).elim
    ·have:=acn h q hy.mem d ⟨f,hf⟩ v s hya i heq;subst this;have:y∈l:=by cases w<;>exact zsa
     exact zoa _ this
    ·exact zoa _ (F z d s i u)
   ·obtain⟨t,B,C,o⟩:=A z d;rcases o with rfl|o
    ·exact g
    ·exact tr z t o
def rB(n:V)(P:Nat->V)(a b k:Nat):Bool:=
 decide (T n (wy P a b) (wy P a k)<0)||(decide (T n (wy P a b) (wy P a k)=0)&&decide (dot (wy P a b) (wy P a b)<dot (wy P a k) (wy P a k)))
def dm(n:V)(P:Nat->V)(a:Nat)(best:Option Nat)(k:Nat):Option Nat:=
 if k=a then best else match best with
  | none=>some k
  | some b=>if rB n P a b k then some k else some b
theorem tA(h:Flat n P on){a:Nat}(j:a∈on)(t:mN P on a):∀ (l pre:List Nat) (best:Option Nat),(∀ x∈pre,x∈on)->(∀ x∈l,x∈on) ->
  (match best with
   | none=>∀ x∈pre,x=a
   | some b=>b∈pre/\b≠a/\∀ x∈pre,x≠a->0<T n (wy P a b) (wy P a x)\/(T n (wy P a b) (wy P a x)=0/\dot (wy P a x) (wy P a x)<=dot (wy P a b) (wy P a b))) ->
  match l.foldl (dm n P a) best with
   | none=>∀ x∈pre++l,x=a
   | some b=>b∈pre++l/\b≠a/\∀ x∈pre++l,x≠a->0<T n (wy P a b) (wy P a x)\/(T n (wy P a b) (wy P a x)=0/\dot (wy P a x) (wy P a x)<=dot (wy P a b) (wy P a b))
 | [],pre,best,_,_,e=>by simpa using e
 | k::l,pre,best,h1,h2,e=>by
  rw[zCc];have hk:k∈on:=h2 k zsa;rw[show pre++k::l=(pre++[k])++l by simp]
  refine tA h j t l (pre++[k]) _ (λx hx=>?_) (λx hx=>h2 x (zoa _ hx)) ?_
  ·rcases List.mem_append.1 hx with hx|hx
   ·exact h1 x hx
   ·rw[zKa] at hx;exact hx ▸ hk
  unfold dm;by_cases hka:k=a
  ·rw[zma hka];subst hka;cases best with
   | none=>
    simp only at e ⊢;intro x hx;rcases List.mem_append.1 hx with hx|hx
    ·exact e x hx
    ·exact zKa.1 hx
   | some b=>
    simp only at e ⊢;refine⟨List.mem_append_left _ e.1,e.2.1,λx hx d=>?_⟩;rcases List.mem_append.1 hx with hx|hx
    ·exact e.2.2 x hx d
    ·exact z3a (zKa.1 hx) d
  ·rw[zia hka];cases best with
   | none=>
    simp only at e ⊢;refine⟨zLa _ (zKa.2 rfl),hka,λx hx d=>?_⟩;rcases List.mem_append.1 hx with hx|hx
    ·exact z3a (e x hx) d
    ·rw[zKa.1 hx];right;exact⟨by simp only[T,dot,cross];grind,zjc _⟩
   | some b=>
    simp only at e ⊢;obtain⟨q,r,s⟩:=e;have g:=h1 b q;obtain⟨f,hf⟩:=t;by_cases hbt:rB n P a b k=true
    ·rw[zma hbt];simp only;refine⟨zLa _ (zKa.2 rfl),hka,λx hx d=>?_⟩;have v:=FK (n:=n) (wy P a b) (wy P a k);simp only[rB,zac,zaa,zfa] at hbt;rcases List.mem_append.1 hx with hx|hx
     ·have i:=h1 x hx;have c:=s x hx d;have o:0<=T n (wy P a k) (wy P a b):=j1
      have p:0<=T n (wy P a b) (wy P a x):=j1
      obtain⟨t1,t2⟩:=Eo h.nz (h.pl a j k hk) (h.pl a j b g) (h.pl a j x i) (hf k hk hka) (hf b g r) (hf x i d) o p;rcases zWa t1 with m|heq
      ·exact .inl m
      ·right;refine⟨heq.symm,?_⟩;have:¬ (0<T n (wy P a k) (wy P a b)\/0<T n (wy P a b) (wy P a x)):=λu=>by have:=t2 u;omega
       omega
     ·rw[zKa.1 hx];right;exact⟨by simp only[T,dot,cross];grind,zjc _⟩
    ·rw[zia hbt];simp only;refine⟨List.mem_append_left _ q,r,λx hx d=>?_⟩;rcases List.mem_append.1 hx with hx|hx
     ·exact s x hx d
     ·rw[zKa.1 hx];simp only[rB,zac,zaa,zfa] at hbt;omega
def yu(h:Flat n P on){a:Nat}(l:a∈on)(t:mN P on a)(h2:∃ x∈on,x≠a):∃ b,on.foldl (dm n P a) none=some b/\Side n P on a b:=by
 have key:=tA h l t on [] none j3 (λx hx=>hx) j3
 cases hr:on.foldl (dm n P a) none with
 | none=> rw[hr] at key;obtain⟨x,hx,d⟩:=h2;exact z3a (key x (by simpa using hx)) d
 | some b=>
  rw[hr] at key;simp only[ztc] at key;obtain⟨m,o,w⟩:=key;refine⟨b,rfl,m,o,λx hx=>?_⟩;by_cases d:x=a
  ·subst d;have e:wy P x x=zero:=by simp[wy,sub,zero]
   have:T n (wy P x b) (wy P x x)=0:=by rw[e];simp[T,dot,cross,zero]
   have hp:=iC (wy P x b);have u:dot (wy P x x) (wy P x b)=0:=by rw[e];simp[dot,zero]
   rw[this,u];exact⟨zjc _,λ_=>⟨zjc _,hp⟩⟩
  ·have c:=w x hx d;refine⟨j1,λt0=>?_⟩
   have c2:dot (wy P a x) (wy P a x)<=dot (wy P a b) (wy P a b):=j1
   obtain⟨f,hf⟩:=t;have k:=dT h.nz (h.pl a l b m) (h.pl a l x hx) t0;have p:=Ab k f;have fb:=hf b m o;have v:=hf x hx d;have i:=aL (rl h l m o);have C:dot f (wy P a b)*dot (wy P a x) (wy P a b)=dot f (wy P a x)*dot (wy P a b) (wy P a b):=by have q:=zna V.x p;have r:=zna V.y p;have s:=zna V.z p;simp only[smul] at q r s;generalize dot f (wy P a b)=A at *;generalize dot f (wy P a x)=B at *;simp only[dot];grind
   have g:0<dot (wy P a x) (wy P a b):=gU fb (by rw[C];exact zCa v i)
   refine⟨zpa g,?_⟩;have E:dot (wy P a b) (wy P a b)*dot (wy P a x) (wy P a x)=dot (wy P a x) (wy P a b)*dot (wy P a x) (wy P a b):=by have p:=Ab k (wy P a b);have q:=zna V.x p;have r:=zna V.y p;have s:=zna V.z p;simp only[smul] at q r s;simp only[dot] at *;grind
   generalize dot (wy P a b) (wy P a b)=B at *;generalize dot (wy P a x) (wy P a x)=X at *;generalize dot (wy P a x) (wy P a b)=D at *;rcases zyb B D with j|hle
   ·exfalso;have a1:B*X<=B*B:=zka c2 (zpa i);have a2:B*B<B*D:=zmb j i;have a3:B*D<D*D:=Int.mul_lt_mul_of_pos_right j g;omega
   ·exact hle
end poly
open V
def aE(a b:V):Prop:=a.x<b.x\/a.x=b.x/\(a.y<b.y\/a.y=b.y/\a.z<b.z)
def Gq{P:Nat->V}{on:List Nat}{a:Nat}(h:∀ x∈on,x≠a->aE (P a) (P x)):mN P on a:=by
 obtain⟨N1,o,j⟩:=gT (λx=>(wy P a x).y) on;obtain⟨N2,p,k⟩:=gT (λx=>(wy P a x).z) on;refine⟨⟨(N1+N2)*(N1+N2)+(N1+N2),N1+N2,1⟩,λx hx i=>?_⟩;have c1:=j x hx;have c2:=k x hx;have hl:=h x hx i;simp only[wy,sub,aE,dot] at *;generalize hX:(P x).x-(P a).x=X at *;generalize hY:(P x).y-(P a).y=Y at *;generalize hZ:(P x).z-(P a).z=Z at *;generalize hN:N1+N2=N;have b:0<N:=j1
 have f:-N+1<=Y:=j1
 have m:Y<=N-1:=j1
 have n:-N+1<=Z:=j1
 have m1:N*(-N+1)<=N*Y:=zka f (zpa b);have m2:N*(-N+1)=-(N*N)+N:=h7
 have l:0<N*N:=zCa b b;rcases hl with hl|⟨h1,hl|⟨h2,hl⟩⟩
 ·have d:1<=X:=j1
  have m3:(N*N+N)*1<=(N*N+N)*X:=zka d j1
  omega
 ·have c:X=0:=j1
  have g:1<=Y:=j1
  have m3:N*1<=N*Y:=zka g j1
  subst c;simp only[zrb];omega
 ·have c:X=0:=j1
  have e:Y=0:=j1
  subst c;subst e;simp only[zrb];omega
section poly
variable{n:V}{P:Nat->V}{on:List Nat}
def Chain.head{S:Nat->Nat->Prop}{a c:Nat}{l:List Nat}(h:Chain S a c l):∃ l',l=c::l':=by cases h<;>exact⟨_,rfl⟩
theorem Chain.pairs{S:Nat->Nat->Prop}{a:Nat}:∀ {c:Nat} {l:List Nat},Chain S a c l->∀ i x,l[i]?=some x->∃ y,(l++[a])[i+1]?=some y/\S x y
 | c,_,.done h,i,x,hx=>by
  cases i with
  | zero=>simp at hx;subst hx;exact⟨a,j3,h⟩
  | succ i=>simp at hx
 | c,_,.step (y:=y) (l:=l) h hne k,i,x,hx=>by
  cases i with
  | zero=> simp at hx;subst hx;obtain⟨l',rfl⟩:=k.head;exact⟨y,j3,h⟩
  | succ i=>
   obtain⟨z,h1,h2⟩:=Chain.pairs k i x (by simpa using hx)
   exact⟨z,by simpa using h1,h2⟩
def DJ(h:Flat n P on){a:Nat}(g:a∈on)(i:mN P on a)(h3:∀ c∈on,∃ x∈on,x≠c) :
  ∃ l,Chain (Side n P on) a a l/\l.Nodup/\(∀ z∈l,z∈on/\mN P on z)/\∀ z∈on,mN P on z->z∈l:=by
 have d:∀ c∈on,mN P on c->∃ b,Side n P on c b:=λc hc j=>by obtain⟨b,_,p⟩:=yu h hc j (h3 c hc);exact⟨b,p⟩
 obtain⟨c,hs⟩:=d a g i;have j:=hs.ext h g;obtain⟨l,o,k,r,s⟩:=walk h g i d hs.mem j hs.ne;refine⟨a::l,.step hs hs.ne o,List.nodup_cons.2 ⟨λhm=>(k a hm).2.2.1 rfl,?_⟩,λz f=>?_,λz f m=>?_⟩
 ·refine List.Pairwise.imp (λ{x y} q e=>?_) s;subst e;have:T n (wy P a x) (wy P a x)=0:=by simp only[T,dot,cross];grind
  omega
 ·rcases zBa.1 f with rfl|f
  ·exact⟨g,i⟩
  ·exact⟨(k z f).1,(k z f).2.1⟩
 ·by_cases hza:z=a
  ·subst hza;exact zsa
  ·refine zoa _ ?_;have h0:=(hs.all z f).1;rcases zWa h0 with hp|he
   ·exact r z f m hza hp
   ·have:=acn h g hs.mem f i j m hs.ne hza he.symm;subst this;obtain⟨l',rfl⟩:=o.head;exact zsa
end poly
def sg(x:Int):Int:=if x<0 then -1 else if 0<x then 1 else 0
def wq(a b:Int):sg a*sg b=sg (a*b):=by
 rcases zzb a 0 with h|h|h<;>rcases zzb b 0 with k|k|k
 ·have:=zRb h k;simp[sg,h,k,this,zSb.2 (zpa this)]
 ·subst k;simp[sg]
 ·have:=zMc h k;simp[sg,h,k,this,zSb.2 (zpa k)]
 ·subst h;simp[sg]
 ·subst h;simp[sg]
 ·subst h;simp[sg]
 ·have:=zYa h k;simp[sg,h,k,this,zSb.2 (zpa h)]
 ·subst k;simp[sg]
 ·have:=zCa h k;simp[sg,h,k,this,zSb.2 (zpa h),zSb.2 (zpa k),zSb.2 (zpa this)]
def iX{x:Int}(h:0<x):sg x=1:=by simp[sg,h,zSb.2 (zpa h)]
def At{x:Int}(h:x<0):sg x=-1:=by simp[sg,h]
def xX(n c:V):Int:=if n.x≠0 then sg n.x*sg c.x else if n.y≠0 then sg n.y*sg c.y else if n.z≠0 then sg n.z*sg c.z else 0
def ws{a b p:Int}(hp:0<p){q:Int}(hq:0<q)(h:a*p=q*b):sg a=sg b:=by
 have h1:sg (a*p)=sg a:=by rw[<-wq,iX hp];simp
 have h2:sg (q*b)=sg b:=by rw[<-wq,iX hq];simp
 rw[<-h1,<-h2,h]
def E4{n c:V}(hn:n≠zero)(h:cross n c=zero):xX n c=sg (dot n c):=by
 have h1:=zna V.x h;have h2:=zna V.y h;have h3:=zna V.z h;simp only[cross,zero] at h1 h2 h3;have hp:=aL hn;have a:n.x*c.x*dot n n=n.x*n.x*dot n c:=by simp only[dot];grind
 have b:n.y*c.y*dot n n=n.y*n.y*dot n c:=by simp only[dot];grind
 have d:n.z*c.z*dot n n=n.z*n.z*dot n c:=by simp only[dot];grind
 unfold xX;split
 ·rename_i k;rw[wq];exact ws hp (AA k) a
 ·split
  ·rename_i k;rw[wq];exact ws hp (AA k) b
  ·split
   ·rename_i k;rw[wq];exact ws hp (AA k) d
   ·rename_i e f g;exact z3a (V.ext' (by simpa [zero] using e) (by simpa [zero] using f) (by simpa [zero] using g)) hn
def eD{n u v:V}(hu:dot n u=0)(a:dot n v=0):cross n (cross u v)=zero:=by simp only[dot] at hu a;apply V.ext'<;>simp only[cross,zero]<;>grind
open V
def aN(P:Nat->V)(N:Nat)(n:V)(d:Int):List Nat:=(List.range N).filter λk=>decide (dot n (P k)=d)
def C1(P:Nat->V)(N:Nat)(n:V)(d:Int):Prop:=(∀ k,k<N->dot n (P k)<=d)/\∃ k,k<N/\dot n (P k)<d
def cR(P:Nat->V)(i j k:Nat):V:=cross (wy P i j) (wy P i k)
def aZ(v:V):Nat:=Nat.gcd (Nat.gcd v.x.natAbs v.y.natAbs) v.z.natAbs
def aJ(v:V):V:=⟨v.x/aZ v,v.y/aZ v,v.z/aZ v⟩
structure IsF(P:Nat->V)(N:Nat)(n:V)(d:Int):Prop where
 ex:∃ i j k,i<j/\j<k/\k<N/\cR P i j k≠zero/\(n=aJ (cR P i j k)\/n=neg (aJ (cR P i j k)))/\d=dot n (P i)
 supp:C1 P N n d
def fk{v:V}(h:v≠zero):0<aZ v:=by
 rcases zhc (aZ v) with e|p
 ·exfalso;unfold aZ at e;rw[Nat.gcd_eq_zero_iff,Nat.gcd_eq_zero_iff] at e;exact h (V.ext' (by simp[zero];omega) (by simp[zero];omega) (by simp[zero];omega))
 ·exact p
def fO(v:V):v=smul (aZ v) (aJ v):=by
 have d1:(aZ v:Int) ∣ v.x:=z7a.2 (zcd (ztb _ _) (ztb _ _));have d2:(aZ v:Int) ∣ v.y:=z7a.2 (zcd (ztb _ _) (zWb _ _));have d3:(aZ v:Int) ∣ v.z:=z7a.2 (zWb _ _);apply V.ext'
 ·exact(zCd d1).symm
 ·exact(zCd d2).symm
 ·exact(zCd d3).symm
def rR(k:Nat)(v:V):aZ (smul k v)=k*aZ v:=by simp only[aZ,smul,zOa,zwa];rw[Nat.gcd_mul_left,Nat.gcd_mul_left]
def jp{v:V}(h:v≠zero):aZ (aJ v)=1:=by have p:=fk h;have e:=rR (aZ v) (aJ v);rw[<-fO v] at e;exact(Nat.eq_of_mul_eq_mul_left p j1).symm
def qb(v:V):aZ (neg v)=aZ v:=by simp[aZ,neg]
def Ci(v:V):aJ (neg v)=neg (aJ v):=by have e:=fO v;unfold aJ;rw[qb];have d1:(aZ v:Int) ∣ v.x:=z7a.2 (zcd (ztb _ _) (ztb _ _));have d2:(aZ v:Int) ∣ v.y:=z7a.2 (zcd (ztb _ _) (zWb _ _));have d3:(aZ v:Int) ∣ v.z:=z7a.2 (zWb _ _);simp only[neg,zQc d1,zQc d2,zQc d3]
def uq{v:V}(h:v≠zero):aJ v≠zero:=λe=>h (by rw[fO v,e];apply V.ext'<;>simp[smul,zero])
def lr{u v:V}(hu:aZ u=1)(i:aZ v=1){a b:Int}(f:0<a)(g:0<b)(h:smul a u=smul b v):u=v:=by
 obtain⟨a,rfl⟩:=zYc (zpa f);obtain⟨b,rfl⟩:=zYc (zpa g);have e:=rR a u;have d:=rR b v;rw[h,d,hu,i] at e;have:a=b:=j1
 subst this;have h1:=zna V.x h;have h2:=zna V.y h;have h3:=zna V.z h;simp only[smul] at h1 h2 h3;have c:(a:Int)≠0:=j1
 exact V.ext' (Int.eq_of_mul_eq_mul_left c h1) (Int.eq_of_mul_eq_mul_left c h2) (Int.eq_of_mul_eq_mul_left c h3)
section
variable{P:Nat->V}{N:Nat}
def IsF.nz{n:V}{d:Int}(h:IsF P N n d):n≠zero/\aZ n=1:=by
 obtain⟨i,j,k,_,_,_,h1,h2|h2,_⟩:=h.ex
 ·subst h2;exact⟨uq h1,jp h1⟩
 ·subst h2;refine⟨λe=>uq h1 ?_,by rw[qb];exact jp h1⟩
  have a:=zna V.x e;have b:=zna V.y e;have c:=zna V.z e;simp only[neg,zero] at a b c;exact V.ext' (by simp only[zero];omega) (by simp only[zero];omega) (by simp only[zero];omega)
def av{n:V}{d:Int}{k:Nat}:k∈aN P N n d↔k<N/\dot n (P k)=d:=by simp[aN]
theorem bq(n:V)(i k:Nat):dot n (wy P i k)=dot n (P k)-dot n (P i):=by simp only[dot,wy,sub];grind
def IsF.three{n:V}{d:Int}(h:IsF P N n d):∃ i j k,i<j/\j<k/\k<N/\i∈aN P N n d/\j∈aN P N n d/\k∈aN P N n d/\cR P i j k≠zero:=by
 obtain⟨i,j,k,a,b,hk,h1,h2,h3⟩:=h.ex;have g:=fk h1;have e:=fO (cR P i j k);have t1:dot (cR P i j k) (wy P i j)=0:=by simp only[cR,dot,cross];grind
 have t2:dot (cR P i j k) (wy P i k)=0:=by simp only[cR,dot,cross];grind
 have key:∀ v:V,dot (cR P i j k) v=0->dot n v=0:=λv c=>by
  rw[e] at c;have:(aZ (cR P i j k):Int)*dot (aJ (cR P i j k)) v=0:=by rw[<-c];simp only[dot,smul];grind
  have h0:=aA j1 this
  rcases h2 with h2|h2
  ·rw[h2];exact h0
  ·rw[h2];have:dot (neg (aJ (cR P i j k))) v=- dot (aJ (cR P i j k)) v:=by simp only[dot,neg];grind
   omega
 have f:=key _ t1;have l:=key _ t2;rw[bq] at f l;exact⟨i,j,k,a,b,hk,av.2 ⟨j1,j1⟩,av.2 ⟨j1,j1⟩,av.2 ⟨hk,j1⟩,h1⟩
theorem IsF.flat(hl:∀ i j,i<j->j<N->aE (P i) (P j)){n:V}{d:Int}(h:IsF P N n d):Flat n P (aN P N n d):=by
 refine⟨h.nz.1,λx hx y hy=>?_,λx hx y hy e=>?_⟩
 ·have a:=(av.1 hx).2;have b:=(av.1 hy).2;rw[bq];omega
 ·have a:=(av.1 hx).1;have b:=(av.1 hy).1;rcases zqd x y with c|c|c
  ·have:=hl x y c b;rw[e] at this;simp only[aE] at this;omega
  ·exact c
  ·have:=hl y x c a;rw[e] at this;simp only[aE] at this;omega
def IsF.left(hl:∀ i j,i<j->j<N->aE (P i) (P j)){n:V}{d:Int}(h:IsF P N n d){a b:Nat}(f:a∈aN P N n d)(hs:Side n P (aN P N n d) a b) :
  ∃ x∈aN P N n d,0<T n (wy P a b) (wy P a x):=by
 obtain⟨i,j,k,r,s,hk,p,q,mk,ht⟩:=h.three;have F:=h.flat hl;have key:∀ x∈aN P N n d,0<T n (wy P a b) (wy P a x)\/cross (wy P a b) (wy P a x)=zero:=λx hx=>by
  rcases zWa (hs.all x hx).1 with h1|h1
  ·exact .inl h1
  ·exact .inr (dT F.nz (F.pl a f b hs.mem) (F.pl a f x hx) h1.symm)
 rcases key i p with h1|h1
 ·exact⟨i,p,h1⟩
 rcases key j q with h2|h2
 ·exact⟨j,q,h2⟩
 rcases key k mk with h3|h3
 ·exact⟨k,mk,h3⟩
 exfalso;apply ht;have o:=aL (rl F f hs.mem hs.ne);have g:=Ab h1 (wy P a b);have l:=Ab h2 (wy P a b);have m:=Ab h3 (wy P a b);have w1:wy P i j=sub (wy P a j) (wy P a i):=by apply V.ext'<;>simp only[wy,sub]<;>omega
 have K:wy P i k=sub (wy P a k) (wy P a i):=by apply V.ext'<;>simp only[wy,sub]<;>omega
 unfold cR;rw[w1,K];generalize wy P a b=e at *;generalize wy P a i=u at *;generalize wy P a j=v at *;generalize wy P a k=w at *;generalize dot e u=A at *;generalize dot e v=B at *;generalize dot e w=C at *;generalize dot e e=D at *;have t:=zna V.x g;have E:=zna V.y g;have G:=zna V.z g;have r1:=zna V.x l;have H:=zna V.y l;have I:=zna V.z l;have s1:=zna V.x m;have s2:=zna V.y m;have J:=zna V.z m;simp only[smul] at t E G r1 H I s1 s2 J;have c:0<D*D:=zCa o o;apply V.ext'<;>simp only[cross,sub,zero]<;>refine aA c ?_<;>grind
theorem far{n e:V}(he:dot n e=0){w:Nat->V}:∀ l:List Nat,l≠[]->(∀ y∈l,dot n (w y)<0)->∃ y∈l,∀ x∈l,0<=dot e (cross (w y) (w x))
 | [],h,_=>z3a rfl h
 | [y],_,hn=>⟨y,zsa,λx hx=>by
   rw[zKa.1 hx];have:dot e (cross (w y) (w y))=0:=by simp only[dot,cross];grind
   omega⟩
 | z::g::l,_,hn=>by
  obtain⟨y,hy,a⟩:=far he (g::l) j3 (λy hy=>hn y (zoa _ hy))
  have self:∀ v:V,dot e (cross v v)=0:=λv=>by simp only[dot,cross];grind
  have f:∀ u v:V,dot e (cross v u)=- dot e (cross u v):=λu v=>by simp only[dot,cross];grind
  have pl:∀ x y z:V,dot n x*dot e (cross y z)=dot n z*dot e (cross y x)+dot n y*dot e (cross x z):=λx y z=>by
   have:dot n x*dot e (cross y z)-(dot n z*dot e (cross y x)+dot n y*dot e (cross x z))=dot n e*dot x (cross y z):=by simp only[dot,cross];grind
   rw[he] at this;omega
  rcases zyb (dot e (cross (w y) (w z))) 0 with c|b
  ·refine⟨z,zsa,λx hx=>?_⟩;rcases zBa.1 hx with rfl|hx
   ·have:=self (w x);omega
   ·have h1:=a x hx;have h2:=pl (w y) (w z) (w x);have n1:=hn y (zoa _ hy);have n2:=hn z zsa;have d:=hn x (zoa _ hx);have h3:=f (w y) (w z);have a1:dot n (w x)*dot e (cross (w z) (w y))<=0:=Int.mul_nonpos_of_nonpos_of_nonneg (zpa d) j1
    have a2:dot n (w z)*dot e (cross (w y) (w x))<=0:=Int.mul_nonpos_of_nonpos_of_nonneg (zpa n2) h1;have a3:0<=(-(dot n (w y)))*dot e (cross (w z) (w x)):=by rw[Int.neg_mul];omega
    exact oa j1 a3
  ·refine⟨y,zoa _ hy,λx hx=>?_⟩;rcases zBa.1 hx with rfl|hx
   ·exact b
   ·exact a x hx
def zL{p q r:Nat}(hp:p<N)(hq:q<N)(u:r<N)(h1:p≠q)(h2:p≠r)(h3:q≠r){m:V}(hm:m=cR P p q r)(hle:∀ x,x<N->dot m (wy P p x)<=0)(d:∃ x,x<N/\dot m (wy P p x)<0) :
  ∃ s,∃ g:Int,0<g/\m=smul g s/\IsF P N s (dot s (P p)):=by
 have f:m≠zero:=λe=>by obtain⟨x,_,hx⟩:=d;rw[e] at hx;simp[dot,zero] at hx
 have A:=fk f;have e:=fO m;refine⟨aJ m,aZ m,j1,e,?_,?_⟩
 ·have perm:∀ i j k,i<j->j<k->k<N->(m=cR P i j k\/m=neg (cR P i j k))->(dot (aJ m) (wy P i p)=0)->∃ i j k,i<j/\j<k/\k<N/\cR P i j k≠zero/\(aJ m=aJ (cR P i j k)\/aJ m=neg (aJ (cR P i j k)))/\dot (aJ m) (P p)=dot (aJ m) (P i):=by
   intro i j k n o hk c y;rw[bq] at y;refine⟨i,j,k,n,o,hk,λt=>f ?_,?_,j1⟩
   ·rcases c with c|c
    ·rw[c,t]
    ·rw[c,t];rfl
   ·rcases c with c|c
    ·exact .inl (by rw[c])
    ·exact .inr (by rw[c,Ci])
  have l:∀ v:V,dot m v=0->dot (aJ m) v=0:=λv z=>by
   have:(aZ m:Int)*dot (aJ m) v=0:=by
    rw[<-z]
    conv=>rhs;rw[e]
    simp only[dot,smul];grind
   exact aA j1 this
  have w:dot (aJ m) (wy P p p)=0:=l _ (by simp only[dot,wy,sub];grind)
  have z2:dot (aJ m) (wy P q p)=0:=l _ (by rw[hm];simp only[dot,cR,cross,wy,sub];grind)
  have z3:dot (aJ m) (wy P r p)=0:=l _ (by rw[hm];simp only[dot,cR,cross,wy,sub];grind)
  rcases Nat.lt_or_gt_of_ne h1 with a1|a1<;>rcases Nat.lt_or_gt_of_ne h2 with a2|a2<;>rcases Nat.lt_or_gt_of_ne h3 with a3|a3
  ·exact perm p q r a1 a3 u (.inl hm) w
  ·exact perm p r q a2 a3 hq (.inr (by rw[hm];apply V.ext'<;>simp only[cR,neg,cross,wy,sub]<;>grind)) w
  ·omega
  ·exact perm r p q a2 a1 hq (.inl (by rw[hm];apply V.ext'<;>simp only[cR,neg,cross,wy,sub]<;>grind)) z3
  ·exact perm q p r a1 a2 u (.inr (by rw[hm];apply V.ext'<;>simp only[cR,neg,cross,wy,sub]<;>grind)) z2
  ·omega
  ·exact perm q r p a3 a2 hp (.inl (by rw[hm];apply V.ext'<;>simp only[cR,neg,cross,wy,sub]<;>grind)) z2
  ·exact perm r q p a3 a1 hp (.inr (by rw[hm];apply V.ext'<;>simp only[cR,neg,cross,wy,sub]<;>grind)) z3
 ·have sc:∀ v:V,dot m v=(aZ m:Int)*dot (aJ m) v:=λv=>by
   conv=>lhs;rw[e]
   simp only[dot,smul];grind
  refine⟨λx hx=>?_,?_⟩
  ·have h:=hle x hx;rw[sc,bq] at h;rcases zyb (dot (aJ m) (P p)) (dot (aJ m) (P x)) with k|k
   ·have:=zCa (a:=(aZ m:Int)) (b:=dot (aJ m) (P x)-dot (aJ m) (P p)) j1 j1
    omega
   ·exact k
  ·obtain⟨x,hx,h⟩:=d;rw[sc,bq] at h;refine⟨x,hx,?_⟩;rcases zyb (dot (aJ m) (P x)) (dot (aJ m) (P p)) with k|k
   ·exact k
   ·have:=z9a (a:=(aZ m:Int)) (b:=dot (aJ m) (P x)-dot (aJ m) (P p)) j1 j1
    omega
end
open V
section
variable{P:Nat->V}{N:Nat}
def Dh(hl:∀ i j,i<j->j<N->aE (P i) (P j)){n:V}{d:Int}(h:IsF P N n d){a b:Nat}(G:a∈aN P N n d)(hs:Side n P (aN P N n d) a b) :
  ∃ f d',IsF P N f d'/\a∈aN P N f d'/\b∈aN P N f d'/\Side f P (aN P N f d') b a:=by
 have F:=h.flat hl;have I:=(av.1 G).1;have aI:=(av.1 G).2;have K:=(av.1 hs.mem).1;have he:dot n (wy P a b)=0:=F.pl a G b hs.mem;obtain⟨l,B,H⟩:=h.left hl G hs;have Q:dot n (wy P a l)=0:=F.pl a G l B;have hle:∀ x,x<N->dot n (wy P a x)<=0:=λx hx=>by rw[bq];have:=h.supp.1 x hx;omega
 have A:=aL F.nz;obtain⟨z,al,hz⟩:=h.supp.2;obtain⟨y,hy,M⟩:=far (w:=wy P a) he ((List.range N).filter λk=>decide (dot n (wy P a k)<0)) (List.ne_nil_of_mem (a:=z) (by simp[al,bq];omega)) (λy hy=>by simpa using(znb.1 hy).2)
 have ai:y<N:=by simpa using(znb.1 hy).1
 have C:dot n (wy P a y)<0:=by simpa using(znb.1 hy).2
 have s:∀ x,x<N->dot n (wy P a x)<0->0<=dot (wy P a b) (cross (wy P a y) (wy P a x)):=λx hx hn=>M x (by simp[hx,hn])
 have o:∀ u v:V,dot n u=0->dot n v=0->∀ y:V,dot n n*dot (cross u v) y=dot n (cross u v)*dot n y:=λu v hu hv y=>by have c:=eD hu hv;have c1:=zna V.x c;have c2:=zna V.y c;have X:=zna V.z c;generalize cross u v=k at *;simp only[cross,zero] at c1 c2 X;simp only[dot];grind
 have S:∀ v:V,dot (cross (wy P a y) (wy P a b)) v=- dot (wy P a b) (cross (wy P a y) v):=λv=>by simp only[dot,cross];grind
 have D:∀ v:V,dot (cross (wy P a y) (wy P a b)) v=dot (cross (wy P a b) v) (wy P a y):=λv=>by simp only[dot,cross];grind
 have E:∀ x∈aN P N n d,dot n n*dot (cross (wy P a y) (wy P a b)) (wy P a x)=T n (wy P a b) (wy P a x)*dot n (wy P a y):=λx hx=>by rw[D];exact o _ _ he (F.pl a G x hx) _
 have an:∀ x,x<N->dot (cross (wy P a y) (wy P a b)) (wy P a x)<=0:=λx hx=>by
  rcases zWa (hle x hx) with k|k
  ·rw[S];have:=s x hx k;omega
  ·have m:x∈aN P N n d:=av.2 ⟨hx,by rw[bq] at k;omega⟩
   have e:=E x m;have t:=(hs.all x m).1;have:T n (wy P a b) (wy P a x)*dot n (wy P a y)<=0:=Int.mul_nonpos_of_nonneg_of_nonpos t (zpa C);rcases zyb 0 (dot (cross (wy P a y) (wy P a b)) (wy P a x)) with q|q
   ·have:=zCa A q;omega
   ·exact q
 have U:dot (cross (wy P a y) (wy P a b)) (wy P a l)<0:=by
  have e:=E l B;have:T n (wy P a b) (wy P a l)*dot n (wy P a y)<0:=zYa H C;rcases zyb (dot (cross (wy P a y) (wy P a b)) (wy P a l)) 0 with q|q
  ·exact q
  ·have:=z9a (zpa A) q;omega
 have aj:a≠y:=λe=>by subst e;rw[show dot n (wy P a a)=0 by simp only[dot,wy,sub];grind] at C;omega
 have ak:y≠b:=λe=>by subst e;omega
 obtain⟨f,g,hg,hm,hF⟩:=zL (p:=a) (q:=y) (r:=b) I ai K aj (Ne.symm hs.ne) ak rfl an ⟨l,(av.1 B).1,U⟩;have sc:∀ v:V,dot (cross (wy P a y) (wy P a b)) v=g*dot f v:=λv=>by have:cR P a y b=cross (wy P a y) (wy P a b):=rfl;rw[<-this,hm];simp only[dot,smul];grind
 have L:dot f (wy P a b)=0:=aA hg (by rw[<-sc];simp only[dot,cross];grind)
 have J:a∈aN P N f (dot f (P a)):=av.2 ⟨I,rfl⟩;have ad:b∈aN P N f (dot f (P a)):=av.2 ⟨K,by rw[bq] at L;omega⟩
 refine⟨f,_,hF,J,ad,J,Ne.symm hs.ne,λx hx=>?_⟩;have R:=(av.1 hx).1;have O:dot f (wy P a x)=0:=by rw[bq];have:=(av.1 hx).2;omega
 have ax:dot (cross (wy P a y) (wy P a b)) (wy P a x)=0:=by rw[sc,O,zrb]
 have tE:T f (wy P b a) (wy P b x)=dot f (cross (wy P a x) (wy P a b)):=by simp only[T,dot,cross,wy,sub];grind
 have dE:dot (wy P b x) (wy P b a)=dot (wy P a b) (wy P a b)-dot (wy P a x) (wy P a b):=by simp only[dot,wy,sub];grind
 have Y:dot (wy P b a) (wy P b a)=dot (wy P a b) (wy P a b):=by simp only[dot,wy,sub];grind
 rw[tE,dE,Y];rcases zWa (hle x R) with k|k
 ·
  have c1:dot (cross (wy P a x) (wy P a b)) (wy P a l)<0:=by
   have e:=o (wy P a b) (wy P a l) he Q (wy P a x);have Z:dot (cross (wy P a x) (wy P a b)) (wy P a l)=dot (cross (wy P a b) (wy P a l)) (wy P a x):=by simp only[dot,cross];grind
   have:T n (wy P a b) (wy P a l)*dot n (wy P a x)<0:=zYa H k;rw[Z];simp only[T] at this;rcases zyb (dot (cross (wy P a b) (wy P a l)) (wy P a x)) 0 with q|q
   ·exact q
   ·have:=z9a (zpa A) q;omega
  have aB:dot f f*dot (cross (wy P a x) (wy P a b)) (wy P a l)=dot f (cross (wy P a x) (wy P a b))*dot f (wy P a l):=by have c:=eD O L;have c1:=zna V.x c;have c2:=zna V.y c;have X:=zna V.z c;generalize cross (wy P a x) (wy P a b)=k at *;simp only[cross,zero] at c1 c2 X;simp only[dot];grind
  have W:=aL hF.nz.1;have n1:dot f (wy P a l)<0:=by
   rw[sc] at U;rcases zyb (dot f (wy P a l)) 0 with q|q
   ·exact q
   ·have:=z9a (zpa hg) q;omega
  have l1:dot f f*dot (cross (wy P a x) (wy P a b)) (wy P a l)<0:=zYa W c1;have pos:0<dot f (cross (wy P a x) (wy P a b)):=by
   rcases zyb 0 (dot f (cross (wy P a x) (wy P a b))) with q|q
   ·exact q
   ·have:=Int.mul_nonneg_of_nonpos_of_nonpos q (zpa n1);omega
  exact⟨zpa pos,λh0=>j1⟩
 ·have m:x∈aN P N n d:=av.2 ⟨R,by rw[bq] at k;omega⟩
  have e:=E x m;rw[ax,zrb] at e;have t0:T n (wy P a b) (wy P a x)=0:=by
   rcases z8a.1 e.symm with q|q
   ·exact q
   ·omega
  have s2:=(hs.all x m).2 t0;have c0:=dT F.nz he k t0;have:dot f (cross (wy P a x) (wy P a b))=0:=by
   have Z:dot f (cross (wy P a x) (wy P a b))=- dot f (cross (wy P a b) (wy P a x)):=by simp only[dot,cross];grind
   rw[Z,c0];simp[dot,zero]
  rw[this];exact⟨zjc _,λ_=>⟨j1,j1⟩⟩
def IN(hl:∀ i j,i<j->j<N->aE (P i) (P j)){n1 n2:V}{d1 d2:Int}(h1:IsF P N n1 d1)(h2:IsF P N n2 d2){a b:Nat}(h:a∈aN P N n1 d1)(l:a∈aN P N n2 d2)
  (m:Side n1 P (aN P N n1 d1) a b) (t:Side n2 P (aN P N n2 d2) a b):n1=n2:=by
 have F1:=h1.flat hl;have F2:=h2.flat hl;obtain⟨f,C,G⟩:=h1.left hl h m;obtain⟨d,o,w⟩:=h2.left hl l t;have F:dot n1 (wy P a b)=0:=F1.pl a h b m.mem;have J:dot n2 (wy P a b)=0:=F2.pl a l b t.mem;have z1:dot n1 (wy P a f)=0:=F1.pl a h f C;have z2:dot n2 (wy P a d)=0:=F2.pl a l d o;have H:dot n1 (wy P a d)<=0:=by rw[bq];have:=h1.supp.1 d (av.1 o).1;have:=(av.1 h).2;omega
 have I:dot n2 (wy P a f)<=0:=by rw[bq];have:=h2.supp.1 f (av.1 C).1;have:=(av.1 l).2;omega
 have r:=aL F1.nz;have s:=aL F2.nz;have g:∀ (n u v:V),dot n u=0->dot n v=0->smul (dot n n) (cross u v)=smul (dot n (cross u v)) n:=λn u v hu Q=>by have c:=eD hu Q;have c1:=zna V.x c;have c2:=zna V.y c;have O:=zna V.z c;generalize cross u v=k at *;simp only[cross,zero] at c1 c2 O;apply V.ext'<;>simp only[smul,dot]<;>grind
 have p:∀ (k:Int) (u v:V),dot (smul k u) v=k*dot u v:=λk u v=>by simp only[dot,smul];grind
 have L:dot n1 n1*dot (cross (wy P a b) (wy P a f)) (wy P a d)=T n1 (wy P a b) (wy P a f)*dot n1 (wy P a d):=by have:=zna (λv=>dot v (wy P a d)) (g n1 _ _ F z1);simp only[p] at this;exact this
 have R:dot n2 n2*dot (cross (wy P a b) (wy P a d)) (wy P a f)=T n2 (wy P a b) (wy P a d)*dot n2 (wy P a f):=by have:=zna (λv=>dot v (wy P a f)) (g n2 _ _ J z2);simp only[p] at this;exact this
 have Z:dot (cross (wy P a b) (wy P a d)) (wy P a f)=- dot (cross (wy P a b) (wy P a f)) (wy P a d):=by simp only[dot,cross];grind
 have m1:T n1 (wy P a b) (wy P a f)*dot n1 (wy P a d)<=0:=Int.mul_nonpos_of_nonneg_of_nonpos (zpa G) H;have m2:T n2 (wy P a b) (wy P a d)*dot n2 (wy P a f)<=0:=Int.mul_nonpos_of_nonneg_of_nonpos (zpa w) I;have D0:dot (cross (wy P a b) (wy P a f)) (wy P a d)=0:=by
  rw[Z] at R;generalize dot (cross (wy P a b) (wy P a f)) (wy P a d)=D at *;rcases zzb D 0 with q|q|q
  ·have:=zCa (a:=dot n2 n2) (b:=-D) s j1;omega
  ·exact q
  ·have:=zCa r q;omega
 have n12:dot n1 (wy P a d)=0:=by
  rw[D0,zrb] at L;rcases z8a.1 L.symm with q|q
  ·omega
  ·exact q
 have E:d∈aN P N n1 d1:=av.2 ⟨(av.1 o).1,by rw[bq] at n12;have:=(av.1 h).2;omega⟩
 have c2:=g n2 _ _ J z2;have c1:=g n1 _ _ F n12;have t12:=(m.all d E).1;have ne:T n1 (wy P a b) (wy P a d)≠0:=λe=>by
  have M:=dT F1.nz F n12 e;have:T n2 (wy P a b) (wy P a d)=0:=by simp only[T];rw[M];simp[dot,zero]
  omega
 refine lr h1.nz.2 h2.nz.2 (a:=T n1 (wy P a b) (wy P a d)*dot n2 n2) (b:=T n2 (wy P a b) (wy P a d)*dot n1 n1) (zCa j1 s) (zCa w r) ?_
 simp only[T] at *;generalize cross (wy P a b) (wy P a d)=K at *;have S:=zna V.x c1;have U:=zna V.y c1;have W:=zna V.z c1;have r1:=zna V.x c2;have X:=zna V.y c2;have Y:=zna V.z c2;generalize dot n1 n1=A at *;generalize dot n2 n2=B at *;generalize dot n1 K=A' at *;generalize dot n2 K=B' at *;simp only[smul] at S U W r1 X Y;apply V.ext'<;>simp only[smul]<;>grind
end
open V
section
variable{n:V}{P:Nat->V}{on:List Nat}
def Side.start(h:Flat n P on){a b:Nat}(d:a∈on)(hs:Side n P on a b):mN P on a:=by
 obtain⟨K,hK,q⟩:=gT (λx=>dot (wy P a b) (wy P a x)) on;refine⟨add (smul K (cross n (wy P a b))) (wy P a b),λx hx g=>?_⟩;have e:dot (add (smul K (cross n (wy P a b))) (wy P a b)) (wy P a x)=K*T n (wy P a b) (wy P a x)+dot (wy P a b) (wy P a x):=by simp only[T,dot,add,smul,cross];grind
 rw[e];obtain⟨h1,h2⟩:=hs.all x hx;have c:=q x hx;rcases zWa h1 with k|k
 ·have:K*1<=K*T n (wy P a b) (wy P a x):=zka j1 (zpa hK)
  omega
 ·rw[<-k,zrb,zrc];obtain⟨r,s⟩:=h2 k.symm;have m:dot (wy P a b) (wy P a x)=dot (wy P a x) (wy P a b):=by simp only[dot];grind
  rw[m];rcases zWa r with p|p
  ·exact p
  ·exfalso;have o:=dT h.nz (h.pl a d b hs.mem) (h.pl a d x hx) k.symm;have f:=Ab o (wy P a b);rw[m,<-p] at f;have hp:=aL (rl h d hs.mem hs.ne);apply rl h d hx g;have i:=zna V.x f;have j:=zna V.y f;have l:=zna V.z f;simp only[smul,z7b] at i j l;exact V.ext' (aA hp i) (aA hp j) (aA hp l)
end
theorem sO{α:Type}{r:α->α->Prop}(c:∀ a,¬ r a a)(d:∀ a b,r a b->¬ r b a):∀ {l l':List α},l.Pairwise r->l'.Pairwise r->(∀ x,x∈l↔x∈l')->l=l'
 | [],[],_,_,_=>rfl
 | [],b::l',_,_,h=>z3a ((h b).2 zsa) j3
 | a::l,[],_,_,h=>z3a ((h a).1 zsa) j3
 | a::l,b::l',h1,h2,h=>by
  obtain⟨f,i⟩:=zJa.1 h1;obtain⟨g,j⟩:=zJa.1 h2;have e:a=b:=by
   rcases zBa.1 ((h a).1 zsa) with e|m
   ·exact e
   ·rcases zBa.1 ((h b).2 zsa) with e|k
    ·exact e.symm
    ·exact z3a (f b k) (d _ _ (g a m))
  subst e;rw[sO c d i j λx=>?_];constructor
  ·intro hx;rcases zBa.1 ((h x).1 (zoa _ hx)) with e|m
   ·subst e;exact z3a (f x hx) (c x)
   ·exact m
  ·intro hx;rcases zBa.1 ((h x).2 (zoa _ hx)) with e|m
   ·subst e;exact z3a (g x hx) (c x)
   ·exact m
def n9(a:V):¬ aE a a:=by simp only[aE];omega
def Gy(a b:V):aE a b->¬ aE b a:=by simp only[aE];omega
def ni{a b c:V}:aE a b->aE b c->aE a c:=by simp only[aE];omega
def sf{a b:V}(h:a≠b):aE a b\/aE b a:=by simp only[aE];rcases zzb a.x b.x with h1|h1|h1<;>rcases zzb a.y b.y with h2|h2|h2<;>rcases zzb a.z b.z with h3|h3|h3<;>first|omega|exact z3a (V.ext' h1 h2 h3) h
structure Facets(P:Nat->V)(N:Nat)(L:List (V×Int)):Prop where
 ord:L.Pairwise (λa b=>aE a.1 b.1)
 mem:∀ q,q∈L↔IsF P N q.1 q.2
def Facets.eq{P:Nat->V}{N:Nat}{L L':List (V×Int)}(h:Facets P N L)(c:Facets P N L'):L=L':=
 sO (r:=λa b=>aE a.1 b.1) (λa=>n9 a.1) (λa b=>Gy a.1 b.1) h.ord c.ord λx=>(h.mem x).trans (c.mem x).symm
section
variable{P:Nat->V}{N:Nat}{n:V}{d:Int}
def aco{d':Int}(h:IsF P N n d)(a:IsF P N n d'):d=d':=by
 obtain⟨i,_,_,f,g,hk,_,_,e⟩:=h.ex;obtain⟨k,_,_,b,c,j,_,_,l⟩:=a.ex;have h1:=h.supp.1 k j1
 have h2:=a.supp.1 i j1
 omega
def bB(P:Nat->V)(N:Nat)(n:V)(d:Int)(l:List Nat):Prop:=∃ a,(aN P N n d).head?=some a/\Chain (Side n P (aN P N n d)) a a l
def JK:(aN P N n d).Pairwise (·<·):=List.Pairwise.sublist List.filter_sublist List.pairwise_lt_range
theorem IsF.head(hl:∀ i j,i<j->j<N->aE (P i) (P j))(h:IsF P N n d):∃ a,(aN P N n d).head?=some a/\a∈aN P N n d/\mN P (aN P N n d) a/\(∀ x∈aN P N n d,a<=x)/\∀ c∈aN P N n d,∃ x∈aN P N n d,x≠c:=by
 obtain⟨i,j,k,o,p,hk,b,g,mk,ht⟩:=h.three;cases hon:aN P N n d with
 | nil=>rw[hon] at b;simp at b
 | cons a l=>
  have f:(a::l).Pairwise (·<·):=by rw[<-hon];exact JK
  rw[zJa] at f;have hle:∀ x∈a::l,a<=x:=λx hx=>by
   rcases zBa.1 hx with e|m
   ·omega
   ·exact zyc (f.1 x m)
  refine⟨a,rfl,zsa,Gq λx hx q=>?_,hle,λc hc=>?_⟩
  ·have:=hle x hx;rw[<-hon] at hx;exact hl a x j1 (av.1 hx).1
  ·rw[hon] at b g;by_cases e:i=c
   ·exact⟨j,g,j1⟩
   ·exact⟨i,b,e⟩
def IsF.poly(hl:∀ i j,i<j->j<N->aE (P i) (P j))(h:IsF P N n d) :
  ∃ l,bB P N n d l/\l.Nodup/\∀ z,z∈l↔z∈aN P N n d/\mN P (aN P N n d) z:=by
 obtain⟨a,h1,h2,h3,o,b⟩:=h.head hl;obtain⟨l,c,e,f,g⟩:=DJ (h.flat hl) h2 h3 b;exact⟨l,⟨a,h1,c⟩,e,λz=>⟨f z,λ⟨k,m⟩=>g z k m⟩⟩
def bB.eq(hl:∀ i j,i<j->j<N->aE (P i) (P j))(h:IsF P N n d){l l':List Nat}(k:bB P N n d l)(o:bB P N n d l'):l=l':=by
 obtain⟨a,h1,h2⟩:=k;obtain⟨a',g,m⟩:=o;rw[h1] at g;cases g;obtain⟨b,g1,g2,g3,g4,g5⟩:=h.head hl;rw[h1] at g1;cases g1;have F:=h.flat hl;have key:∀ {c:Nat} {l l':List Nat},c∈aN P N n d->Chain (Side n P (aN P N n d)) a c l->Chain (Side n P (aN P N n d)) a c l'->l=l':=by
  intro c l l' hc q
  induction q generalizing l' with
  | done s=>intro p;cases p with
   | done _=>rfl
   | step s' f _=>exact z3a (acJ F hc s' s) f
  | step s f k ih=>intro p;cases p with
   | done s'=>exact z3a (acJ F hc s s') f
   | step s' _ o=> have e:=acJ F hc s s';subst e;rw[ih s.mem o]
 exact key g2 h2 m
def lX(l:List Nat):List (Nat×Nat):=(List.range l.length).filterMap λk=>if l.getD k 0<l.getD ((k+1)%l.length) 0 then some (l.getD k 0,l.getD ((k+1)%l.length) 0) else none
def bB.next{l:List Nat}(k:bB P N n d l){i:Nat}(h:i<l.length):Side n P (aN P N n d) (l.getD i 0) (l.getD ((i+1)%l.length) 0):=by
 obtain⟨a,h1,h2⟩:=k;obtain⟨l',e⟩:=h2.head;obtain⟨y,b,g⟩:=h2.pairs i (l.getD i 0) (by simp[List.getD,zca h])
 rcases zza (i+1) l.length with c|c
 ·rw[zxb c] at b;rw[zVa c];simp only[List.getD,b,zUb];exact g
 ·have f:i+1=l.length:=j1
  rw[z0b j1,f,Nat.sub_self] at b
  simp at b;subst b;rw[f,Nat.mod_self];have:l.getD 0 0=a:=by rw[e];rfl
  rw[this];exact g
def nk{l:List Nat}{a b:Nat}:(a,b)∈lX l↔a<b/\∃ i,i<l.length/\l.getD i 0=a/\l.getD ((i+1)%l.length) 0=b:=by
 simp only[lX,zVc,zXa];constructor
 ·rintro⟨i,d,h⟩;split at h
  ·rename_i c;simp only[zda,Prod.mk.injEq] at h;exact⟨j1,i,d,h.1,h.2⟩
  ·cases h
 ·rintro⟨c,i,d,h1,h2⟩;exact⟨i,d,by rw[h1,h2,zma c]⟩
def uA(P:Nat->V)(N:Nat)(n:V)(d:Int)(a b:Nat):Prop:=a∈aN P N n d/\Side n P (aN P N n d) a b
def acp(hl:∀ i j,i<j->j<N->aE (P i) (P j))(h:IsF P N n d){l:List Nat}(k:bB P N n d l){a b:Nat} :
  (∃ i,i<l.length/\l.getD i 0=a/\l.getD ((i+1)%l.length) 0=b)↔uA P N n d a b:=by
 obtain⟨p,o,q,m⟩:=h.poly hl;have:=bB.eq hl h k o;subst this;constructor
 ·rintro⟨i,c,h1,h2⟩;have s:=k.next c
  rw[h1,h2] at s;refine⟨((m a).1 ?_).1,s⟩;rw[<-h1];simp[List.getD,zca c]
 ·rintro⟨f,s⟩;have hm:=(m a).2 ⟨f,s.start (h.flat hl) f⟩;obtain⟨i,c,e⟩:=zZa hm;have g:l.getD i 0=a:=by simp[List.getD,zca c,e]
  have s2:=k.next c
  rw[g] at s2;exact⟨i,c,g,acJ (h.flat hl) f s2 s⟩
def w6{l:List Nat}(h:l.Nodup):(lX l).Nodup:=by
 unfold lX;refine List.Pairwise.filterMap _ (R:=λi j:Nat=>i≠j/\i<l.length/\j<l.length) (S:=λx y=>x≠y) ?_ ?_
 ·intro i j ⟨f,a,b⟩ x hx y hy e;subst e;simp only[Option.ite_none_right_eq_some,zda] at hx hy;have d:l.getD i 0=l.getD j 0:=by have:=zna Prod.fst (hx.2.trans hy.2.symm);exact this
  simp only[List.getD,zca a,zca b,zUb] at d;rcases Nat.lt_or_gt_of_ne f with c|c
  ·exact zPb.1 h i j a b c d
  ·exact zPb.1 h j i b a c d.symm
 ·have:=List.nodup_range (n:=l.length);refine zUc ?_ this;intro i j a b g;exact⟨g,zXa.1 a,zXa.1 b⟩
end
def Cf(a b:Nat×Nat):Prop:=a.1<b.1\/a.1=b.1/\a.2<b.2
def c9(L:List (V×Int))(poly:V×Int->List Nat):List (Nat×Nat):=L.flatMap λq=>lX (poly q)
section
variable{P:Nat->V}{N:Nat}
def CU(hl:∀ i j,i<j->j<N->aE (P i) (P j)){L:List (V×Int)}(hL:Facets P N L){poly:V×Int->List Nat}(hp:∀ q∈L,bB P N q.1 q.2 (poly q)){a b:Nat} :
  (a,b)∈c9 L poly↔a<b/\∃ n d,IsF P N n d/\uA P N n d a b:=by
 simp only[c9,zQa,nk];constructor
 ·rintro⟨q,hq,c,f⟩;exact⟨c,q.1,q.2,(hL.mem q).1 hq,(acp hl ((hL.mem q).1 hq) (hp q hq)).1 f⟩
 ·rintro⟨c,n,d,hF,e⟩;have hq:=(hL.mem (n,d)).2 hF;exact⟨(n,d),hq,c,(acp hl hF (hp _ hq)).2 e⟩
def xi(hl:∀ i j,i<j->j<N->aE (P i) (P j)){L:List (V×Int)}(hL:Facets P N L){poly:V×Int->List Nat}(hp:∀ q∈L,bB P N q.1 q.2 (poly q)):(c9 L poly).Nodup:=by
 unfold c9 List.Nodup;rw[List.pairwise_flatMap];refine⟨λq hq=>?_,?_⟩
 ·obtain⟨l,k,m,_⟩:=((hL.mem q).1 hq).poly hl;have:=bB.eq hl ((hL.mem q).1 hq) (hp q hq) k;rw[this];exact w6 m
 ·refine zUc ?_ hL.ord;intro q h hq d c x hx y hy e;subst e;obtain⟨a,b⟩:=x;have F:=(hL.mem q).1 hq;have F':=(hL.mem h).1 d;obtain⟨d1,d2⟩:=(acp hl F (hp q hq)).1 (nk.1 hx).2;obtain⟨f,g⟩:=(acp hl F' (hp h d)).1 (nk.1 hy).2;have:=IN hl F F' d1 f d2 g;rw[this] at c;exact n9 _ c
def uY(hl:∀ i j,i<j->j<N->aE (P i) (P j)){a b:Nat}:(∃ n d,IsF P N n d/\(uA P N n d a b\/uA P N n d b a))↔∃ n d,IsF P N n d/\uA P N n d a b:=by
 constructor
 ·rintro⟨n,d,hF,h|h⟩
  ·exact⟨n,d,hF,h⟩
  ·obtain⟨e,d',h1,h2,h3,c⟩:=Dh hl hF h.1 h.2;exact⟨e,d',h1,h3,c⟩
 ·rintro⟨n,d,hF,h⟩;exact⟨n,d,hF,.inl h⟩
end
end Geo
end
noncomputable section
namespace Sy
open Go Go.Proofs Geo
abbrev I(n:Int):D:=.int .i64 n
def ae(v:V):D:=.st [I v.x,I v.y,I v.z]
def inR(n:Int):Prop:=-9223372036854775808<=n/\n<=9223372036854775807
def ic{n:Int}(h:inR n):IntKind.wrap .i64 n=n:=by
 obtain⟨h1,h2⟩:=h;simp only[IntKind.wrap,IntKind.signed,IntKind.bits];first
  | omega
  | (simp;omega)
def ay{a b:Int}(h:inR (a+b)):ab7 .add (I a) (I b)=some (I (a+b)):=by simp only[ab7,if_true,ic h]
def fg{a b:Int}(h:inR (a-b)):ab7 .sub (I a) (I b)=some (I (a-b)):=by simp only[ab7,if_true,ic h]
def cw{a b:Int}(h:inR (a*b)):ab7 .mul (I a) (I b)=some (I (a*b)):=by simp only[ab7,if_true,ic h]
def af{a b:Int}:ab7 .lss (I a) (I b)=some (.bool (decide (a<b))):=by simp only[ab7,if_true]
def mQ{a b:Int}:ab7 .leq (I a) (I b)=some (.bool (decide (a<=b))):=by simp only[ab7,if_true]
def dM{a b:Int}:ab7 .gtr (I a) (I b)=some (.bool (decide (a>b))):=by simp only[ab7,if_true]
def io{a b:Int}:ab7 .geq (I a) (I b)=some (.bool (decide (a ≥ b))):=by simp only[ab7,if_true]
def j6{a b:Int}(h:b≠0):ab7 .rem (I a) (I b)=some (I (a.tmod b)):=by simp only[ab7,if_true,h,if_false]
def uD{a b:Int}(h:b≠0)(c:inR (a.tdiv b)):ab7 .quo (I a) (I b)=some (I (a.tdiv b)):=by simp only[ab7,if_true,h,if_false,ic c]
def q8{a:Int}(h:inR (-a)):acl .neg (I a)=some (I (-a)):=by simp only[acl,Int.zero_sub,ic h]
def bA{b:Bool}:acl .not (.bool b)=some (.bool (!b)):=rfl
def ac{b:Bool}:D.truth (.bool b)=some b:=rfl
def Js{a b:Int}:D.max2 (I a) (I b)=some (I (max a b)):=by simp only[D.max2];congr 2;split<;>omega
def Sv{a b:Int}:D.min2 (I a) (I b)=some (I (min a b)):=by simp only[D.min2];congr 2;split<;>omega
def cg{a b:Int}:D.beq (I a) (I b)=decide (a=b):=by simp[D.beq]
def o9(v:V):D.get (ae v) [0]=some (I v.x):=rfl
def pd(v:V):D.get (ae v) [1]=some (I v.y):=rfl
def pe(v:V):D.get (ae v) [2]=some (I v.z):=rfl
def u4(x y z:Int):D.st [D.int .i64 x,D.int .i64 y,D.int .i64 z]=ae ⟨x,y,z⟩:=rfl
def bd(k:Int)(v:V):Prop:=(-k<=v.x/\v.x<=k)/\(-k<=v.y/\v.y<=k)/\(-k<=v.z/\v.z<=k)
def iU{a b A B:Int}(e:-A<=a/\a<=A)(f:-B<=b/\b<=B):-(A*B)<=a*b/\a*b<=A*B:=by
 have c:0<=A:=j1
 have d:0<=B:=j1
 have h1:(a*b).natAbs<=(A*B).natAbs:=by rw[zOa,zOa];exact z5a j1 j1
 have h2:0<=A*B:=z9a c d;omega
def kw{A B:Int}{u v:V}(hu:bd A u)(a:bd B v):bd (A+B) (u.sub v):=by simp only[bd,V.sub] at *;omega
def rA{A:Int}{u:V}(hu:bd A u):bd A u.neg:=by simp only[bd,V.neg] at *;omega
def jy{A B:Int}{u v:V}(hu:bd A u)(a:bd B v):bd (2*(A*B)) (V.cross u v):=by have:=iU hu.1 a.1;have:=iU hu.1 a.2.1;have:=iU hu.1 a.2.2;have:=iU hu.2.1 a.1;have:=iU hu.2.1 a.2.1;have:=iU hu.2.1 a.2.2;have:=iU hu.2.2 a.1;have:=iU hu.2.2 a.2.1;have:=iU hu.2.2 a.2.2;simp only[bd,V.cross];omega
def H2{A B:Int}{u v:V}(hu:bd A u)(a:bd B v):-(3*(A*B))<=V.dot u v/\V.dot u v<=3*(A*B):=by have:=iU hu.1 a.1;have:=iU hu.2.1 a.2.1;have:=iU hu.2.2 a.2.2;simp only[V.dot];omega
def Br{A B:Int}{u v:V}(hu:bd A u)(a:bd B v)(h:3*(A*B)<=9223372036854775807) :
  inR (u.x*v.x)/\inR (u.y*v.y)/\inR (u.z*v.z)/\inR (u.x*v.x+u.y*v.y)/\inR (u.x*v.x+u.y*v.y+u.z*v.z):=by
 have:=iU hu.1 a.1;have:=iU hu.2.1 a.2.1;have:=iU hu.2.2 a.2.2;simp only[inR];omega
def f101{call:Nat->List D->Option D}{A B:Int}{u v:V}(hu:bd A u)(c:bd B v)(h:3*(A*B)<=9223372036854775807):HD bf call (ae u) (ae v)=some (I (V.dot u v)):=by obtain⟨h1,h2,h3,a,b⟩:=Br hu c h;simp only[HD,qG,qB,o9,pd,pe,zba,cw h1,cw h2,cw h3,ay a,ay b];rfl
def If(n:Nat){A B:Int}{u v:V}(hu:bd A u)(a:bd B v)(h:3*(A*B)<=9223372036854775807):cA (n+1) 101 [ae u,ae v]=some (I (V.dot u v)):=by rw[X8];exact f101 hu a h
def F7(n:Nat){A B:Int}{u v:V}(hu:bd A u)(c:bd B v)(h:3*(A*B)<=9223372036854775807):cA (n+1) 107 [ae u,ae v]=some (I (V.dot u v)):=by obtain⟨h1,h2,h3,a,b⟩:=Br hu c h;rw[Yd];simp only[KW,qG,qB,o9,pd,pe,zba,cw h1,cw h2,cw h3,ay a,ay b];rfl
def uO{A B:Int}{u v:V}(hu:bd A u)(a:bd B v)(h:2*(A*B)<=9223372036854775807) :
  inR (u.y*v.z)/\inR (u.z*v.y)/\inR (u.z*v.x)/\inR (u.x*v.z)/\inR (u.x*v.y)/\inR (u.y*v.x)/\inR (u.y*v.z-u.z*v.y)/\inR (u.z*v.x-u.x*v.z)/\inR (u.x*v.y-u.y*v.x):=by
 have:=iU hu.1 a.1;have:=iU hu.1 a.2.1;have:=iU hu.1 a.2.2;have:=iU hu.2.1 a.1;have:=iU hu.2.1 a.2.1;have:=iU hu.2.1 a.2.2;have:=iU hu.2.2 a.1;have:=iU hu.2.2 a.2.1;have:=iU hu.2.2 a.2.2;simp only[inR];omega
def Ru(n:Nat){A B:Int}{u v:V}(hu:bd A u)(g:bd B v)(h:2*(A*B)<=9223372036854775807):cA (n+1) 117 [ae u,ae v]=some (ae (V.cross u v)):=by obtain⟨h1,h2,h3,a,b,c,d,e,f⟩:=uO hu g h;rw[Yl];simp only[Le,qG,qB,o9,pd,pe,zba,cw h1,cw h2,cw h3,cw a,cw b,cw c,fg d,fg e,fg f];rfl
def Rx(n:Nat){A B:Int}{u v:V}(hu:bd A u)(g:bd B v)(h:2*(A*B)<=9223372036854775807):cA (n+1) 123 [ae u,ae v]=some (ae (V.cross u v)):=by obtain⟨h1,h2,h3,a,b,c,d,e,f⟩:=uO hu g h;rw[Yr];simp only[Lk,qG,qB,o9,pd,pe,zba,cw h1,cw h2,cw h3,cw a,cw b,cw c,fg d,fg e,fg f];rfl
def QU(n:Nat){A:Int}{u:V}(hu:bd A u)(h:A<=9223372036854775807):cA (n+1) 97 [ae u]=some (ae u.neg):=by
 have h1:inR (-u.x):=by simp only[bd,inR] at *;omega
 have h2:inR (-u.y):=by simp only[bd,inR] at *;omega
 have h3:inR (-u.z):=by simp only[bd,inR] at *;omega
 rw[u97];simp only[TM,qG,o9,pd,pe,zba,q8 h1,q8 h2,q8 h3];rfl
abbrev Bd:=List D->Option (Sum (List D) (Nat×List D))
def cT{body:Bd}{s s':List D}{k:Nat×List D->Option D}{y:D}(h:body s=some (.inl s'))(hk:(bf body s').bind k=some y):(bf body s).bind k=some y:=by have:bf body s=bf body s':=dV h;rw[this];exact hk
def gC{body:Bd}{s:List D}{r:Nat×List D}{k:Nat×List D->Option D}{y:D}(h:body s=some (.inr r))(hk:k r=some y):(bf body s).bind k=some y:=by have:bf body s=some r:=eH h;rw[this];exact hk
def zQ{body:Bd}{s:List D}{r:Nat×List D}{k:Nat×List D->Option D}{y:D}(h:bf body s=some r)(hk:k r=some y):(bf body s).bind k=some y:=by rw[h];exact hk
def bO{body:Bd}{s0:List D}{k:Nat×List D->Option D}{y:D}(J:Nat->List D->Prop)(n i0:Nat)(a:i0<=n)(h0:J i0 s0)
  (hs:∀ i,i<n->∀ s,J i s->(∃ s',body s=some (.inl s')/\J (i+1) s')\/∃ r,body s=some (.inr r)/\k r=some y) (he:∀ s,J n s->∃ r,body s=some (.inr r)/\k r=some y):(bf body s0).bind k=some y:=by
 obtain⟨m,hm⟩:∃ m,m=n-i0:=⟨_,rfl⟩
 induction m generalizing i0 s0 with
 | zero=>
  have:i0=n:=j1
  subst this;obtain⟨r,h1,h2⟩:=he s0 h0;exact gC h1 h2
 | succ m ih=>
  rcases hs i0 j1 s0 h0 with⟨s',h1,h2⟩|⟨r,h1,h2⟩
  ·exact cT h1 (ih (i0:=i0+1) j1 h2 j1)
  ·exact gC h1 h2
def aq{i n:Nat}(h:i<n):D.idx (I (i:Int)) n=some i:=by simp only[D.idx];rw[zma j1];simp
def aH{i:Nat}(h:i<=9223372036854775806):inR ((i:Int)+1):=by simp only[inR];omega
def g0{x:D}{l:List D}{d:D}:List.getD (x::l) 0 d=x:=rfl
def g1{x y:D}{l:List D}{d:D}:List.getD (x::y::l) 1 d=y:=rfl
def g2{x y z:D}{l:List D}{d:D}:List.getD (x::y::z::l) 2 d=z:=rfl
def g3{x y z w:D}{l:List D}{d:D}:List.getD (x::y::z::w::l) 3 d=w:=rfl
def X3(v:V)(a:Int):D.set (ae v) [0] (I a)=some (ae ⟨a,v.y,v.z⟩):=rfl
def X4(v:V)(a:Int):D.set (ae v) [1] (I a)=some (ae ⟨v.x,a,v.z⟩):=rfl
def X5(v:V)(a:Int):D.set (ae v) [2] (I a)=some (ae ⟨v.x,v.y,a⟩):=rfl
def Je:D.idx (I 0) 3=some 0:=rfl
def Jf:D.idx (I 1) 3=some 1:=rfl
def Jg:D.idx (I 2) 3=some 2:=rfl
def Xp(n:Nat){A B:Int}{u v:V}(hu:bd A u)(a:bd B v)(h:A+B<=9223372036854775807):cA (n+1) 154 [ae u,ae v]=some (ae (u.add v)):=by
 have h1:inR (u.x+v.x):=by simp only[bd,inR] at *;omega
 have h2:inR (u.y+v.y):=by simp only[bd,inR] at *;omega
 have h3:inR (u.z+v.z):=by simp only[bd,inR] at *;omega
 rw[YI]
 delta LD qB qC qJ qZ iL iR Jn
 refine cT (s':=[I 1,ae ⟨u.x+v.x,u.y,u.z⟩]) ?_ (cT (s':=[I 2,ae ⟨u.x+v.x,u.y+v.y,u.z⟩]) ?_ (cT (s':=[I 3,ae ⟨u.x+v.x,u.y+v.y,u.z+v.z⟩]) ?_ (gC (r:=(0,[ae (u.add v)])) ?_ rfl)))
 ·simp only[g0,g1,af,zba,ac,Je,o9,X3,ay h1,ay (show inR (0+1) from⟨j2,j2⟩)];rfl
 ·simp only[g0,g1,af,zba,ac,Jf,pd,X4,ay h2,ay (show inR (1+1) from⟨j2,j2⟩)];rfl
 ·simp only[g0,g1,af,zba,ac,Jg,pe,X5,ay h3,ay (show inR (2+1) from⟨j2,j2⟩)];rfl
 ·simp only[g0,g1,af,zba,ac];rfl
def ME(u v:V):u.add v.neg=u.sub v:=by apply V.ext'<;>simp only[V.add,V.neg,V.sub]<;>omega
def Ig(n:Nat){A B:Int}{u v:V}(hu:bd A u)(a:bd B v)(h:A+B<=9223372036854775807):cA (n+2) 103 [ae u,ae v]=some (ae (u.sub v)):=by
 have b:0<=A:=by simp only[bd] at hu;omega
 rw[X9];simp only[KR,QU n a j1,zba,Xp n hu (rA a) h,ME]
def F8(n:Nat){A B:Int}{u v:V}(hu:bd A u)(a:bd B v)(h:A+B<=9223372036854775807):cA (n+1) 112 [ae u,ae v]=some (ae (u.sub v)):=by
 have h1:inR (u.x-v.x):=by simp only[bd,inR] at *;omega
 have h2:inR (u.y-v.y):=by simp only[bd,inR] at *;omega
 have h3:inR (u.z-v.z):=by simp only[bd,inR] at *;omega
 rw[Yi];simp only[Lb,qG,qB,o9,pd,pe,zba,fg h1,fg h2,fg h3];rfl
def bg(a b:Int):Int:=if a<b then -1 else if a>b then 1 else 0
def Xi(n:Nat)(a:Int):cA (n+1) 115 [I a]=some (.bool false):=by rw[Yj];simp only[Lc,cg];simp
def RT(n:Nat)(a b:Int):cA (n+2) 53 [I a,I b]=some (I (bg a b)):=by
 rw[u53];simp only[To,qC,qT,Jn,Xi,zba,ac,zFa,if_false,af,dM,bg,zfa];split
 ·rfl
 ·split<;>rfl
def rp:List Int->Int
 | []=>0
 | x::l=>if x=0 then rp l else x
def ZL(n:Nat)(l:List Int)(hl:l.length<=1000):cA (n+1) 52 [.sl (l.map λx=>I x)]=some (I (rp l)):=by
 rw[u52]
 delta Tn qB qC qT qS qX qZ iL iR Jn
 simp only[D.asSl,zba];refine bO (λi s=>s=[I i]/\rp l=rp (l.drop i)) l.length 0 (zxa _) ⟨rfl,rfl⟩ (λi c s b=>?_) (λs b=>?_)
 ·obtain⟨rfl,a⟩:=b;have hx:(l.map λx=>I x)[i]?=some (I l[i]):=by simp[c]
  simp only[g0,zta,af,zba,ac,zfa,show((i:Int)<(l.length:Int)) from by omega,if_true,aq c,hx,cg]
  have d:l.drop i=l[i]::l.drop (i+1):=zQb c;rw[d] at a;by_cases h0:l[i]=0
  ·left;refine⟨[I ((i+1:Nat):Int)],?_,rfl,?_⟩
   ·simp only[h0,decide_true,zlc,zFa,if_false,ay (aH (i:=i) j1),zba];rfl
   ·rw[a];simp[rp,h0]
  ·right;refine⟨(0,[I l[i]]),?_,?_⟩
   ·simp[h0]
   ·rw[a];simp[rp,h0]
 ·obtain⟨rfl,a⟩:=b;refine⟨(1,[]),?_,?_⟩
  ·simp only[g0,zta,af,zba,ac,zfa,zGc,if_false]
  ·rw[a];simp[rp]
def Bz{body:Bd}(h0:∀ a b:Int,b≠0->body [I a,I b]=some (.inl [I b,I (a.tmod b)]))(h1:∀ a:Int,body [I a,I 0]=some (.inr (0,[I a]))) :
  ∀ (m:Nat) (a b:Int),b.natAbs=m->∃ r:Int,bf body [I a,I b]=some (0,[I r])/\r.natAbs=Nat.gcd a.natAbs b.natAbs:=by
 intro m
 induction m using Nat.strongRecOn with
 | _ m ih=>
  intro a b e;by_cases d:b=0
  ·subst d;exact⟨a,eH (h1 a),j3⟩
  ·have c:(a.tmod b).natAbs<m:=by
    rw[Int.natAbs_tmod,<-e];exact z4a _ j1
   obtain⟨r,f,g⟩:=ih _ c b (a.tmod b) rfl;refine⟨r,?_,?_⟩
   ·rw[show bf body [I a,I b]=bf body [I b,I (a.tmod b)] from dV (h0 a b d)];exact f
   ·rw[g,Int.natAbs_tmod,z6c a.natAbs,Nat.gcd_rec b.natAbs a.natAbs,z6c]
def vh{a b:Int}{k:Nat}(c:a.natAbs<=k)(d:b.natAbs<=k):Nat.gcd a.natAbs b.natAbs<=k:=by
 rcases zhc a.natAbs with h|h
 ·rw[h,Nat.gcd_zero_left];exact d
 ·exact zHa (Nat.le_of_dvd h (ztb _ _)) c
def RB(n:Nat){a b:Int}(e:a.natAbs<=9223372036854775807)(c:b.natAbs<=9223372036854775807):cA (n+1) 152 [I a,I b]=some (I (Nat.gcd a.natAbs b.natAbs:Nat)):=by
 rw[YH]
 delta LC qB qT qZ iL iR Jn
 obtain⟨r,h1,h2⟩:=Bz (body:=λ(v1:List D)=>
  (D.truth (D.bool (!(D.beq (gx v1 1) (D.int .i64 0))))).bind λd=>
  if d then((ab7 .rem (gx v1 0) (gx v1 1)).bind λf=>
  some (Sum.inl [(gx v1 1),f])) else(some (Sum.inr (0,[(gx v1 0)]))))
  (λa b c=>by simp only[g0,g1,cg,ac,zba,c,decide_false,zVb,if_true,j6 c])
  (λa=>by simp only[g0,g1,cg,ac,zba,decide_true,zlc,zFa,if_false]) _ a b rfl
 refine zQ h1 ?_;have g:r.natAbs<=9223372036854775807:=by rw[h2];exact vh e c
 have hn:inR (-r):=by simp only[inR];omega
 simp only[zba,g0,q8 hn,Js];congr 2;omega
def gZ{a:Int}{g:Nat}(b:0<g)(h:(g:Int) ∣ a):a.tdiv g=a/g:=by obtain⟨c,rfl⟩:=h;rw[ztd _ j1,zlb _ j1]
def xE(v:V):(aZ v:Int) ∣ v.x:=z7a.2 (zcd (ztb _ _) (ztb _ _))
def xF(v:V):(aZ v:Int) ∣ v.y:=z7a.2 (zcd (ztb _ _) (zWb _ _))
def xG(v:V):(aZ v:Int) ∣ v.z:=z7a.2 (zWb _ _)
def rM{a:Int}{g:Nat}{k:Int}(h:-k<=a/\a<=k)(b:(g:Int) ∣ a):-k<=a/g/\a/g<=k:=by
 have h1:(a/(g:Int)).natAbs<=a.natAbs:=by
  rcases zhc g with e|e
  ·subst e;simp
  ·obtain⟨c,rfl⟩:=b;rw[zlb _ j1,zOa]
   exact z4b _ j1
 omega
def fA{k:Int}{v:V}(h:bd k v):bd k (aJ v):=⟨rM h.1 (xE v),rM h.2.1 (xF v),rM h.2.2 (xG v)⟩
def cJ(q:V×Int):D:=.st [ae q.1,I q.2]
def MV:Int:=262144
def oJ{P:Nat->V}{i j:Nat}(a:bd MV (P i))(b:bd MV (P j)):bd 524288 (wy P i j):=by have:=kw b a;simpa [MV,wy] using this
def c96(n:Nat){a b c:V}(g:bd MV a)(i:bd MV b)(hc:bd MV c):cA (n+3) 96 [ae a,ae b,ae c]=some (cJ (aJ (V.cross (b.sub a) (c.sub a)),V.dot (aJ (V.cross (b.sub a) (c.sub a))) a)):=by
 have h1:bd 524288 (b.sub a):=by have:=kw i g;simpa [MV] using this
 have h2:bd 524288 (c.sub a):=by have:=kw hc g;simpa [MV] using this
 rw[u96]
 delta TL qG qB qC Jn
 simp only[Ig n i g j2,Ig n hc g j2,zba,Ru (n+1) h1 h2 j2]
 have h3:=jy h1 h2;generalize V.cross (b.sub a) (c.sub a)=m at *;have j:m.x.natAbs<=549755813888:=by have:=h3.1;omega
 have l:m.y.natAbs<=549755813888:=by have:=h3.2.1;omega
 have s:m.z.natAbs<=549755813888:=by have:=h3.2.2;omega
 have t:Nat.gcd m.x.natAbs m.y.natAbs<=549755813888:=vh j l;have o:Nat.gcd (Nat.gcd m.x.natAbs m.y.natAbs) m.z.natAbs=aZ m:=rfl;simp only[o9,pd,pe,zba,RB (n+1) (a:=m.x) (b:=m.y) j1 j1,RB (n+1) (a:=((Nat.gcd m.x.natAbs m.y.natAbs:Nat):Int)) (b:=m.z) (by rw[zwa];omega) j1,zwa,o,dM,ac,zfa]
 have p:=fA h3;have fin:∀ w:V,w=aJ m->cA (n+2) 101 [ae w,ae a]=some (I (V.dot w a)):=λw hw=>If (n+1) (hw ▸ p) g j2
 by_cases hg:(aZ m:Int)>1
 ·have f:(aZ m:Int)≠0:=j1
  have d:0<aZ m:=j1
  have r1:inR (m.x.tdiv (aZ m)):=by rw[gZ d (xE m)];have:=rM h3.1 (xE m);simp only[inR];omega
  have q:inR (m.y.tdiv (aZ m)):=by rw[gZ d (xF m)];have:=rM h3.2.1 (xF m);simp only[inR];omega
  have r:inR (m.z.tdiv (aZ m)):=by rw[gZ d (xG m)];have:=rM h3.2.2 (xG m);simp only[inR];omega
  have h:(D.st [I (m.x.tdiv (aZ m)),I (m.y.tdiv (aZ m)),I (m.z.tdiv (aZ m))])=ae (aJ m):=by rw[gZ d (xE m),gZ d (xF m),gZ d (xG m)];rfl
  simp only[zma hg,uD f r1,uD f q,uD f r,zba,g0,h,fin _ rfl];rfl
 ·have h:m=aJ m:=by
   rcases zza 0 (aZ m) with k|k
   ·have e:aZ m=1:=j1
    have:=fO m;rw[e] at this;rw[this]
    conv=>rhs;rw[<-this]
    apply V.ext'<;>simp[V.smul]
   ·have e:aZ m=0:=j1
    have hm:m=V.zero:=by
     by_cases hm:m=V.zero
     ·exact hm
     ·have:=fk hm;omega
    rw[hm];rfl
  simp only[zia hg,zba,g0,fin m h];rw[<-h];rfl
def XV(a b:Int):D.sl [I a,I b]=D.sl ([a,b].map λx=>I x):=rfl
def XW(a b c:Int):D.sl [I a,I b,I c]=D.sl ([a,b,c].map λx=>I x):=rfl
def c51(n:Nat)(a b c d:Int):cA (n+3) 51 [.st [I a,I b],.st [I c,I d]]=some (I (rp [bg a c,bg b d])):=by
 rw[u51]
 delta Tm qG
 simp only[show ∀ a b:Int,D.get (.st [I a,I b]) [0]=some (I a) from λ_ _=>rfl,show ∀ a b:Int,D.get (.st [I a,I b]) [1]=some (I b) from λ_ _=>rfl,zba,RT,XV,ZL (n+1) [bg a c,bg b d] j3]
def Xc(n:Nat)(p q:V×Int):cA (n+3) 100 [cJ p,cJ q]=some (I (rp [bg p.1.x q.1.x,bg p.1.y q.1.y,bg p.1.z q.1.z])):=by
 rw[X7]
 delta KQ qG
 simp only[show ∀ p:V×Int,D.get (cJ p) [0]=some (ae p.1) from λ_=>rfl,show ∀ p:V×Int,D.get (cJ p) [0,0]=some (I p.1.x) from λ_=>rfl,show ∀ p:V×Int,D.get (cJ p) [0,1]=some (I p.1.y) from λ_=>rfl,show ∀ p:V×Int,D.get (cJ p) [0,2]=some (I p.1.z) from λ_=>rfl,o9,pd,pe,zba,RT,XW,ZL (n+1) [bg p.1.x q.1.x,bg p.1.y q.1.y,bg p.1.z q.1.z] j3]
def zk(a:Int):bg a 0=sg a:=rfl
def SJ(a:Int):-1<=sg a/\sg a<=1:=by unfold sg;split<;>(try split)<;>omega
def rU(a b:Int):inR (sg a*sg b):=by have:=iU (A:=1) (B:=1) (SJ a) (SJ b);simp only[inR];omega
def Sc(v:V):D.fld (ae v) 0=some (I v.x):=rfl
def Sd(v:V):D.fld (ae v) 1=some (I v.y):=rfl
def Se(v:V):D.fld (ae v) 2=some (I v.z):=rfl
def OS:inR (0+1):=⟨j2,j2⟩
def wT:inR (1+1):=⟨j2,j2⟩
def OT:inR (2+1):=⟨j2,j2⟩
def Xd(n:Nat){A B:Int}{m u v:V}(hu:bd A u)(a:bd B v)(h:2*(A*B)<=9223372036854775807):cA (n+3) 104 [ae m,ae u,ae v]=some (I (xX m (V.cross u v))):=by
 rw[Ya]
 delta KS qB qC qT qJ qZ iL iR Jn
 simp only[Ru (n+1) hu a h,zba];generalize V.cross u v=c;unfold xX;by_cases hx:m.x=0
 ·refine cT (s':=[I 1]) (by simp only[g0,af,zba,ac,Je,Sc,cg,hx,decide_true,zlc,zFa,if_false,ay OS];rfl) ?_
  by_cases hy:m.y=0
  ·refine cT (s':=[I 2]) (by simp only[g0,af,zba,ac,Jf,Sd,cg,hy,decide_true,zlc,zFa,if_false,ay wT];rfl) ?_
   by_cases hz:m.z=0
   ·refine cT (s':=[I 3]) (by simp only[g0,af,zba,ac,Jg,Se,cg,hz,decide_true,zlc,zFa,if_false,ay OT];rfl) ?_
    refine gC (r:=(1,[])) (by simp only[g0,af,zba,ac];rfl) ?_
    simp[hx,hy,hz]
   ·refine gC (r:=(0,[I (sg c.z*sg m.z)])) ?_ (by simp[hx,hy,hz,zIa])
    simp only[g0,af,zba,ac,Jg,Se,pe,cg,hz,decide_false,zVb,if_true,RT,zk,cw (rU _ _)];rfl
  ·refine gC (r:=(0,[I (sg c.y*sg m.y)])) ?_ (by simp[hx,hy,zIa])
   simp only[g0,af,zba,ac,Jf,Sd,pd,cg,hy,decide_false,zVb,if_true,RT,zk,cw (rU _ _)];rfl
 ·refine gC (r:=(0,[I (sg c.x*sg m.x)])) ?_ (by simp[hx,zIa])
  simp only[g0,af,zba,ac,Je,Sc,o9,cg,hx,decide_false,zVb,if_true,RT,zk,cw (rU _ _)];rfl
def Pw(n:Nat)(a:Int):cA (n+1) 215 [I a]=some (I (sg a)):=by
 rw[Y0];simp only[LX,qC,Jn,af,dM,zba,ac,zfa,sg];split
 ·rfl
 ·split
  ·rfl
  ·rfl
def Xw(n:Nat)(m c:V):cA (n+2) 188 [ae m,ae c]=some (I (xX m c)):=by
 rw[YT]
 delta LQ qB qC qT qJ qZ iL iR Jn xX
 by_cases hx:m.x=0
 ·refine cT (s':=[I 1]) (by simp only[g0,af,zba,ac,Je,o9,cg,hx,decide_true,zlc,zFa,if_false,ay OS];rfl) ?_
  by_cases hy:m.y=0
  ·refine cT (s':=[I 2]) (by simp only[g0,af,zba,ac,Jf,pd,cg,hy,decide_true,zlc,zFa,if_false,ay wT];rfl) ?_
   by_cases hz:m.z=0
   ·refine cT (s':=[I 3]) (by simp only[g0,af,zba,ac,Jg,pe,cg,hz,decide_true,zlc,zFa,if_false,ay OT];rfl) ?_
    refine gC (r:=(1,[])) (by simp only[g0,af,zba,ac];rfl) ?_
    simp[hx,hy,hz]
   ·refine gC (r:=(0,[I (sg m.z*sg c.z)])) ?_ (by simp[hx,hy,hz])
    simp only[g0,af,zba,ac,Jg,pe,cg,hz,decide_false,zVb,if_true,Pw,cw (rU _ _)];rfl
  ·refine gC (r:=(0,[I (sg m.y*sg c.y)])) ?_ (by simp[hx,hy])
   simp only[g0,af,zba,ac,Jf,pd,cg,hy,decide_false,zVb,if_true,Pw,cw (rU _ _)];rfl
 ·refine gC (r:=(0,[I (sg m.x*sg c.x)])) ?_ (by simp[hx])
  simp only[g0,af,zba,ac,Je,o9,cg,hx,decide_false,zVb,if_true,Pw,cw (rU _ _)];rfl
instance decLex (a b:V):Decidable (aE a b):=by unfold aE;exact inferInstance
def Rt(n:Nat)(a b:V):cA (n+1) 105 [ae a,ae b]=some (.bool (decide (aE a b))):=by
 rw[Yb];simp only[KU,qG,qB,qT,o9,pd,pe,zba,cg,ac,af,zTa,decide_eq_false_iff_not];by_cases h1:a.x=b.x
 ·by_cases h2:a.y=b.y
  ·simp[h1,h2,aE]
  ·simp only[h1,h2,aE,not_true,if_false,not_false_iff,if_true,zGc,false_or,true_and,false_and,or_false]
 ·simp only[h1,aE,not_false_iff,if_true,false_and,or_false]
def bD(l:List V):D:=.sl (l.map ae)
def sR(l:List V)(m:V)(d:Int):Bool:=l.all λx=>decide (V.dot m x<=d)
def k9(l:List V)(m:V)(d:Int):Bool:=l.any λx=>decide (V.dot m x<d)
def Sj{l:List V}{i:Nat}(h:i<l.length):(l.map ae)[i]?=some (ae l[i]):=by simp[h]
def Xg(n:Nat){A:Int}{l:List V}{m:V}{d:Int}(hl:∀ x∈l,bd MV x)(hm:bd A m)(c:3*(A*262144)<=9223372036854775807)(hlen:l.length<=1000000):cA (n+2) 109 [bD l,ae m,I d]=some (.bool (sR l m d&&k9 l m d)):=by
 rw[Yf]
 delta KY qB qC qT qX qL qZ iL iR Jn
 refine bO (λi s=>s=[.bool (k9 (l.take i) m d),I i]/\sR (l.take i) m d=true) l.length 0 (zxa _) ⟨by simp[k9],by simp[sR]⟩ (λi a s b=>?_) (λs b=>?_)
 ·obtain⟨rfl,hs⟩:=b;have ht:l.take (i+1)=l.take i++[l[i]]:=zUa a;have hc:=F7 n hm (hl l[i] (zDa a)) c;simp only[bD,D.asSl,g0,g1,zta,af,dM,zba,ac,zfa,show((i:Int)<(l.length:Int)) from by omega,if_true,aq a,Sj a,hc]
  by_cases hgt:V.dot m l[i]>d
  ·right;refine⟨(0,[.bool false]),by simp only[hgt,if_true],?_⟩
   have:sR l m d=false:=by rw[zoc];intro h;have:=zEa.1 h l[i] (zDa a);simp at this;omega
   simp[g0,this]
  ·left;refine⟨[.bool (k9 (l.take (i+1)) m d),I ((i+1:Nat):Int)],?_,rfl,?_⟩
   ·simp only[hgt,if_false,ay (aH (i:=i) j1),zba]
    have e:k9 (l.take (i+1)) m d=(k9 (l.take i) m d||decide (V.dot m l[i]<d)):=by rw[ht];simp only[k9,zBd,List.any_cons,List.any_nil,Bool.or_false]
    rw[e];cases k9 (l.take i) m d<;>simp
   ·rw[ht];simp only[sR,zhd,zaa] at hs ⊢;exact⟨hs,by simp;omega⟩
 ·obtain⟨rfl,hs⟩:=b;refine⟨(1,[.bool (k9 (l.take l.length) m d)]),?_,?_⟩
  ·simp only[bD,D.asSl,g0,g1,zta,af,zba,ac,zfa,zGc,if_false]
  ·rw[zub] at *;simp[g0,hs]
def c98(n:Nat){A:Int}{l:List V}{m:V}{d:Int}(hl:∀ x∈l,bd MV x)(hm:bd A m)(c:3*(A*262144)<=9223372036854775807)(hlen:l.length<=1000000):cA (n+2) 98 [bD l,cJ (m,d)]=some (.bool (sR l m d&&k9 l m d)):=by
 rw[u98]
 delta TN qG qB qC qT qS qX qZ iL iR Jn
 simp only[bD,D.asSl,zba];refine bO (λi s=>s=[.bool (!k9 (l.take i) m d),I i]/\sR (l.take i) m d=true) l.length 0 (zxa _) ⟨by simp[k9],by simp[sR]⟩ (λi a s b=>?_) (λs b=>?_)
 ·obtain⟨rfl,hs⟩:=b;have ht:l.take (i+1)=l.take i++[l[i]]:=zUa a;have hc:=If n hm (hl l[i] (zDa a)) c;simp only[g0,g1,zta,af,dM,zba,ac,zfa,show((i:Int)<(l.length:Int)) from by omega,if_true,aq a,Sj a,show D.get (cJ (m,d)) [0]=some (ae m) from rfl,show D.get (cJ (m,d)) [1]=some (I d) from rfl,hc,cg]
  by_cases hgt:V.dot m l[i]>d
  ·right;refine⟨(0,[.bool false]),by simp only[hgt,if_true],?_⟩
   have:sR l m d=false:=by rw[zoc];intro h;have:=zEa.1 h l[i] (zDa a);simp at this;omega
   simp[g0,this]
  ·left;refine⟨[.bool (!k9 (l.take (i+1)) m d),I ((i+1:Nat):Int)],?_,rfl,?_⟩
   ·simp only[hgt,if_false,ay (aH (i:=i) j1),zba]
    have e:(!k9 (l.take (i+1)) m d)=(!k9 (l.take i) m d&&decide (V.dot m l[i]=d)):=by
     rw[ht];simp only[k9,zBd,List.any_cons,List.any_nil,Bool.or_false,Bool.not_or];congr 1;by_cases h2:V.dot m l[i]=d
     ·simp[h2]
     ·have:V.dot m l[i]<d:=j1
      simp[h2,this]
    rw[e];cases k9 (l.take i) m d<;>simp
   ·rw[ht];simp only[sR,zhd,zaa] at hs ⊢;exact⟨hs,by simp;omega⟩
 ·obtain⟨rfl,hs⟩:=b;refine⟨(1,[.bool (!k9 (l.take l.length) m d)]),?_,?_⟩
  ·simp only[g0,g1,zta,af,zba,ac,zfa,zGc,if_false]
  ·rw[zub] at *;simp[g0,hs,bA]
def qn{α:Type}{body:Bd}{s0:List D}{k:Nat×List D->Option α}{Y:α->Prop}(J:Nat->List D->Prop)(n i0:Nat)(b:i0<=n)(h0:J i0 s0)
  (hs:∀ i,i<n->∀ s,J i s->∃ z,body s=some z/\match z with|.inl s'=>J (i+1) s'|.inr r=>∃ y,k r=some y/\Y y)
  (he:∀ s,J n s->∃ z,body s=some z/\match z with|.inl _=>False|.inr r=>∃ y,k r=some y/\Y y):∃ y,(bf body s0).bind k=some y/\Y y:=by
 obtain⟨m,hm⟩:∃ m,m=n-i0:=⟨_,rfl⟩
 induction m generalizing i0 s0 with
 | zero=>
  have:i0=n:=j1
  subst this;obtain⟨z,h1,h2⟩:=he s0 h0;cases z with
  | inl s'=>exact h2.elim
  | inr r=>obtain⟨y,h3,a⟩:=h2;exact⟨y,by rw[show bf body s0=some r from eH h1];exact h3,a⟩
 | succ m ih=>
  obtain⟨z,h1,h2⟩:=hs i0 j1 s0 h0
  cases z with
  | inl s'=>
   obtain⟨y,h3,a⟩:=ih (i0:=i0+1) j1 h2 j1
   exact⟨y,by rw[show bf body s0=bf body s' from dV h1];exact h3,a⟩
  | inr r=>obtain⟨y,h3,a⟩:=h2;exact⟨y,by rw[show bf body s0=some r from eH h1];exact h3,a⟩
def aW{α:Type}{body:Bd}{s s':List D}{k:Nat×List D->Option α}{y:α}(h:body s=some (.inl s'))(hk:(bf body s').bind k=some y):(bf body s).bind k=some y:=by have:bf body s=bf body s':=dV h;rw[this];exact hk
def dW{α:Type}{body:Bd}{s:List D}{r:Nat×List D}{k:Nat×List D->Option α}{y:α}(h:body s=some (.inr r))(hk:k r=some y):(bf body s).bind k=some y:=by have:bf body s=some r:=eH h;rw[this];exact hk
def cD{α:Type}{body:Bd}{s0:List D}{k:Nat×List D->Option α}{y:α}(J:Nat->List D->Prop)(n i0:Nat)(a:i0<=n)(h0:J i0 s0)
  (hs:∀ i,i<n->∀ s,J i s->(∃ s',body s=some (.inl s')/\J (i+1) s')\/∃ r,body s=some (.inr r)/\k r=some y) (he:∀ s,J n s->∃ r,body s=some (.inr r)/\k r=some y):(bf body s0).bind k=some y:=by
 obtain⟨m,hm⟩:∃ m,m=n-i0:=⟨_,rfl⟩
 induction m generalizing i0 s0 with
 | zero=>
  have:i0=n:=j1
  subst this;obtain⟨r,h1,h2⟩:=he s0 h0;exact dW h1 h2
 | succ m ih=>
  rcases hs i0 j1 s0 h0 with⟨s',h1,h2⟩|⟨r,h1,h2⟩
  ·exact aW h1 (ih (i0:=i0+1) j1 h2 j1)
  ·exact dW h1 h2
def aa{α β:Type}{A:Option α}{g:α->Option β}{z:α}{y:β}(h:A=some z)(hk:g z=some y):Option.bind A g=some y:=by rw[h];exact hk
theorem j0{α β:Type}{A:Option α}{g:α->Option β}{y:β}(z:α)(k:g z=some y)(h:A=some z:=by exact rfl):Option.bind A g=some y:=aa h k
def kP(u v:V):D.beq (ae u) (ae v)=decide (u=v):=by
 simp only[ae,D.beq,D.beqs,decide_true,zDb,Bool.and_true];by_cases h:u=v
 ·subst h;simp
 ·by_cases h1:u.x=v.x<;>by_cases h2:u.y=v.y<;>by_cases h3:u.z=v.z<;>simp[h,h1,h2,h3];exact h (V.ext' h1 h2 h3)
def Ow(p q:V×Int):D.beq (cJ p) (cJ q)=decide (p=q):=by have:D.beq (cJ p) (cJ q)=(D.beq (ae p.1) (ae q.1)&&(D.beq (I p.2) (I q.2)&&true)):=rfl;rw[this,kP,cg];obtain⟨a,b⟩:=p;obtain⟨c,d⟩:=q;by_cases h1:a=c<;>by_cases h2:b=d<;>simp[h1,h2]
def ji(K:List (V×Int)):List D:=K.map λq=>.st [cJ q,.bool true]
theorem yf:∀ (K:List (V×Int)) (q:V×Int),ace (ji K) (cJ q)=if q∈K then some (.bool true) else none
 | [],q=>by simp[ji,ace]
 | p::K,q=>by
  have ih:=yf K q;simp only[ji,zbb,ace,Ow] at ih ⊢;by_cases h:q=p
  ·simp[h]
  ·rw[ih];simp[h]
theorem yh:∀ (K:List (V×Int)) (q:V×Int),q ∉ K->acf (ji K) (cJ q) (.bool true)=ji (K++[q])
 | [],q,_=>rfl
 | p::K,q,h=>by
  have ih:=yh K q (λhq=>h (zoa _ hq));have a:¬ q=p:=λe=>h (by rw[e];exact zsa)
  simp only[ji,zbb,zBb,acf,Ow,a,decide_false,zFa,if_false] at ih ⊢;rw[ih]
def Gw(K:List (V×Int)):(ji K).map w9=K.map cJ:=by simp[ji,w9]
def supp(l:List V)(q:V×Int):Bool:=sR l q.1 q.2&&k9 l q.1 q.2
def jM(l:List V)(K:List (V×Int))(q:V×Int):List (V×Int):=if q∈K then K else if supp l q then K++[q] else K
def vO{l:List V}{K:List (V×Int)}{q x:V×Int}(h:x∈K):x∈jM l K q:=by
 unfold jM;split
 ·exact h
 ·split
  ·exact List.mem_append_left _ h
  ·exact h
def Cb{l:List V}{K:List (V×Int)}{q:V×Int}(h:supp l q=true):q∈jM l K q:=by
 unfold jM;split
 ·assumption
 ·simp
def B9{l:List V}{K:List (V×Int)}{q x:V×Int}(h:x∈jM l K q):x∈K\/(x=q/\supp l q=true):=by
 unfold jM at h;split at h
 ·exact .inl h
 ·split at h
  ·rename_i hs;rcases List.mem_append.1 h with h|h
   ·exact .inl h
   ·exact .inr ⟨zKa.1 h,hs⟩
  ·exact .inl h
def vN{l:List V}{K:List (V×Int)}{q:V×Int}(h:K.Nodup):(jM l K q).Nodup:=by
 unfold jM;split
 ·exact h
 ·rename_i hq;split
  ·exact List.nodup_append.2 ⟨h,j3,λx hx y hy e=>hq (by rw[zKa.1 hy] at e;exact e ▸ hx)⟩
  ·exact h
def qU(a b c:V):V×Int:=(aJ (V.cross (b.sub a) (c.sub a)),V.dot (aJ (V.cross (b.sub a) (c.sub a))) a)
def oz(q:V×Int):V×Int:=(q.1.neg,-q.2)
def Cd(l:List V)(i j k:Nat)(q:V×Int):Prop:=(qU (l.getD i V.zero) (l.getD j V.zero) (l.getD k V.zero)).1≠V.zero/\(q=qU (l.getD i V.zero) (l.getD j V.zero) (l.getD k V.zero)\/q=oz (qU (l.getD i V.zero) (l.getD j V.zero) (l.getD k V.zero)))
structure Known(l:List V)(i j k:Nat)(K:List (V×Int)):Prop where
 nd:K.Nodup
 ok:∀ q∈K,supp l q=true/\∃ i j k,k<j/\j<i/\i<l.length/\Cd l i j k q
 all:∀ i' j' k',k'<j'->j'<i'->i'<l.length->(i'<i\/i'=i/\(j'<j\/j'=j/\k'<k))->∀ q,Cd l i' j' k' q->supp l q=true->q∈K
def Pm{a b c:V}(d:bd MV a)(f:bd MV b)(hc:bd MV c):bd 549755813888 (qU a b c).1/\inR (qU a b c).2/\inR (-(qU a b c).2):=by
 have h1:bd 524288 (b.sub a):=by have:=kw f d;simpa [MV] using this
 have h2:bd 524288 (c.sub a):=by have:=kw hc d;simpa [MV] using this
 have h3:=fA (jy h1 h2);have e:=H2 h3 d;simp only[MV] at e;refine⟨h3,?_,?_⟩<;>simp only[inR,qU]<;>omega
def Known.step{l:List V}{i j k:Nat}{K:List (V×Int)}(h:Known l i j k K)(hk:k<j)(b:j<i)(a:i<l.length)(c:(qU (l.getD i V.zero) (l.getD j V.zero) (l.getD k V.zero)).1≠V.zero) :
  Known l i j (k+1) (jM l (jM l K (qU (l.getD i V.zero) (l.getD j V.zero) (l.getD k V.zero))) (oz (qU (l.getD i V.zero) (l.getD j V.zero) (l.getD k V.zero)))):=by
 refine⟨vN (vN h.nd),λq hq=>?_,λd f g h1 h2 h3 m q hq hs=>?_⟩
 ·rcases B9 hq with hq|⟨rfl,hs⟩
  ·rcases B9 hq with hq|⟨rfl,hs⟩
   ·exact h.ok q hq
   ·exact⟨hs,i,j,k,hk,b,a,c,.inl rfl⟩
  ·exact⟨hs,i,j,k,hk,b,a,c,.inr rfl⟩
 ·by_cases e:d=i/\f=j/\g=k
  ·obtain⟨rfl,rfl,rfl⟩:=e;rcases hq.2 with rfl|rfl
   ·exact vO (Cb hs)
   ·exact Cb hs
  ·exact vO (vO (h.all d f g h1 h2 h3 j1 q hq hs))
def Known.skip{l:List V}{i j k:Nat}{K:List (V×Int)}(h:Known l i j k K)(d:(qU (l.getD i V.zero) (l.getD j V.zero) (l.getD k V.zero)).1=V.zero):Known l i j (k+1) K:=by
 refine⟨h.nd,h.ok,λa b c h1 h2 h3 f q hq hs=>?_⟩;by_cases e:a=i/\b=j/\c=k
 ·obtain⟨rfl,rfl,rfl⟩:=e;exact z3a d hq.1
 ·exact h.all a b c h1 h2 h3 j1 q hq hs
def Known.next{l:List V}{i j:Nat}{K:List (V×Int)}(h:Known l i j j K):Known l i (j+1) 0 K:=
 ⟨h.nd,h.ok,λa b c h1 h2 h3 d=>h.all a b c h1 h2 h3 j1⟩
def Known.next2{l:List V}{i:Nat}{K:List (V×Int)}(h:Known l i i 0 K):Known l (i+1) 0 0 K:=
 ⟨h.nd,h.ok,λa b c h1 h2 h3 d=>h.all a b c h1 h2 h3 j1⟩
theorem kD{α β:Type}{f:α->List β}{c:Nat}:∀ l:List α,(∀ x∈l,(f x).length=c)->(l.flatMap f).length=l.length*c
 | [],_=>j3
 | x::l,h=>by rw[List.flatMap_cons,zua,h x zsa,kD l (λy hy=>h y (zoa _ hy)),zRa,Nat.succ_mul];omega
def Known.len{l:List V}{i j k:Nat}{K:List (V×Int)}(h:Known l i j k K)(hl:l.length<=100):K.length<=2000000:=by
 have h1:=z2b (l₂:=(List.range l.length).flatMap λi=>(List.range l.length).flatMap λj=>(List.range l.length).flatMap λk=>[qU (l.getD i V.zero) (l.getD j V.zero) (l.getD k V.zero),oz (qU (l.getD i V.zero) (l.getD j V.zero) (l.getD k V.zero))]) h.nd (λq hq=>by
  obtain⟨_,i,j,k,h1,h2,h3,a⟩:=h.ok q hq;refine zQa.2 ⟨i,zXa.2 h3,zQa.2 ⟨j,zXa.2 j1,zQa.2 ⟨k,zXa.2 j1,?_⟩⟩⟩
  rcases a.2 with rfl|rfl<;>simp)
 rw[kD (c:=l.length*(l.length*2)) _ (λi _=>by rw[kD (c:=l.length*2) _ (λj _=>by rw[kD (c:=2) _ (λk _=>rfl),zsb]),zsb]),zsb] at h1
 refine zHa h1 ?_;have a1:l.length*2<=200:=j1
 have a2:l.length*(l.length*2)<=100*200:=z5a hl a1;have a3:l.length*(l.length*(l.length*2))<=100*(100*200):=z5a hl a2;exact a3
def er{l:List V}{i:Nat}(h:i<l.length):(l.map ae)[i]?=some (ae (l.getD i V.zero)):=by simp[h,List.getD]
def cX{l:List V}{i:Nat}(h:i<l.length):l.getD i V.zero∈l:=by simp[List.getD,h]
def GN{n:Nat}{l:List V}{K:List (V×Int)}{q:V×Int}(hl:∀ x∈l,bd MV x)(hq:bd 549755813888 q.1)(hlen:l.length<=1000) :
  (if(!decide (q∈K))=true then((cA (n+2) 98 [bD l,cJ q]).bind λr=>D.truth r) else some false)=some (!decide (q∈K)&&supp l q):=by
 obtain⟨m,d⟩:=q;have hc:=c98 n (d:=d) hl hq j2 j1
 simp only[hc,zba,ac];cases decide ((m,d)∈K)<;>rfl
def M7{a b:V}(h:aE a b):rp [bg a.x b.x,bg a.y b.y,bg a.z b.z]=-1:=by
 simp only[aE] at h;rcases h with h|⟨h1,h|⟨h2,h⟩⟩
 ·simp[rp,bg,h]
 ·simp[rp,bg,h1,h]
 ·simp[rp,bg,h1,h2,h]
def M6{a b:V}(h:aE b a):rp [bg a.x b.x,bg a.y b.y,bg a.z b.z]=1:=by
 simp only[aE] at h;rcases h with h|⟨h1,h|⟨h2,h⟩⟩
 ·simp[rp,bg,h,zSb.2 (zpa h)]
 ·simp[rp,bg,h1,h,zSb.2 (zpa h)]
 ·simp[rp,bg,h1,h2,h,zSb.2 (zpa h)]
def M5(a:V):rp [bg a.x a.x,bg a.y a.y,bg a.z a.z]=0:=by simp[rp,bg]
theorem FA{α:Type}(key:α->V):∀ (K:List α),K.Pairwise (λa b=>key a≠key b)->∃ L:List α,L.Perm K/\L.Pairwise (λa b=>aE (key a) (key b))
 | [],_=>⟨[],.refl _,.nil⟩
 | x::K,h=>by
  obtain⟨h1,h2⟩:=zJa.1 h;obtain⟨L,e,g⟩:=FA key K h2;have d:∀ y∈L,key x≠key y:=λy hy=>h1 y (e.subset hy);have ins:∀ L:List α,L.Pairwise (λa b=>aE (key a) (key b))->(∀ y∈L,key x≠key y)->∃ M:List α,M.Perm (x::L)/\M.Pairwise (λa b=>aE (key a) (key b)):=by
   intro L
   induction L with
   | nil=>intro _ _;exact⟨[x],.refl _,j3⟩
   | cons y L ih=>
    intro hp hn;obtain⟨f,i⟩:=zJa.1 hp;rcases sf (hn y zsa) with k|k
    ·refine⟨x::y::L,.refl _,zJa.2 ⟨λz c=>?_,hp⟩⟩;rcases zBa.1 c with rfl|c
     ·exact k
     ·exact ni k (f z c)
    ·obtain⟨M,m1,m2⟩:=ih i (λz c=>hn z (zoa _ c));refine⟨y::M,(m1.cons y).trans (.swap x y L),zJa.2 ⟨λz c=>?_,m2⟩⟩;rcases zBa.1 (m1.subset c) with rfl|c
     ·exact k
     ·exact f z c
  obtain⟨M,m1,m2⟩:=ins L g d;exact⟨M,m1.trans (e.cons x),m2⟩
def EI(n:Nat)(p q:V×Int):uM (db bf (cA (n+3)) (jZ bf (cA (n+3)))) (cE 100) (cJ p) (cJ q)=some (rp [bg p.1.x q.1.x,bg p.1.y q.1.y,bg p.1.z q.1.z]):=by
 unfold uM;rw[show ∀ l,(db bf (cA (n+3)) (jZ bf (cA (n+3)))).call (cE 100) l=cA (n+3) 100 l from λl=>congrFun (zna (cA (n+3)) (show uJ (cE 100)=100 by kernel_rfl)) l,Xc]
 rfl
theorem Ix(n:Nat):∀ (L:List (V×Int)),L.Pairwise (λa b=>aE a.1 b.1)->tS (db bf (cA (n+3)) (jZ bf (cA (n+3)))) (cE 100) (L.map cJ)=true
 | [],_=>rfl
 | p::L,h=>by
  obtain⟨h1,h2⟩:=zJa.1 h;simp only[zbb,tS,zaa,zEa,zNa];refine⟨⟨?_,?_⟩,Ix n L h2⟩
  ·simp only[Hv,EI,M5];decide
  ·rintro _ ⟨q,hq,rfl⟩;simp only[sj,Hv,EI,M7 (h1 q hq),M6 (h1 q hq)];decide
def N9(n:Nat){K L:List (V×Int)}(hp:L.Perm K)(h:L.Pairwise (λa b=>aE a.1 b.1)):ko (db bf (cA (n+3)) (jZ bf (cA (n+3)))) (cE 100) (K.map cJ)=some (L.map cJ):=
 ww (Ix n L h) (hp.symm.map _)
def pt(l:List V)(i:Nat):V:=l.getD i V.zero
def nR(a b:V):V.dot a.neg b=- V.dot a b:=by simp only[V.dot,V.neg];grind
def Cd.dist{l:List V}{i j k:Nat}{q:V×Int}(h:Cd l i j k q):q.2=V.dot q.1 (l.getD i V.zero):=by
 rcases h.2 with rfl|rfl
 ·rfl
 ·simp only[oz,nR];rfl
def FF{l:List V}{q:V×Int}(h:supp l q=true){x:V}(hx:x∈l):V.dot q.1 x<=q.2:=by simp only[supp,sR,zaa,zEa,zfa] at h;exact h.1 x hx
def Known.keys{l:List V}{i j k:Nat}{K:List (V×Int)}(h:Known l i j k K):K.Pairwise (λa b=>a.1≠b.1):=by refine zUc (λ{a b} f g c e=>c ?_) h.nd;obtain⟨s1,i1,o,q,_,_,h1,c1⟩:=h.ok a f;obtain⟨s2,i2,p,r,_,_,h2,c2⟩:=h.ok b g;have d:=c1.dist;have n:=c2.dist;have m:=FF s1 (cX h2);have s:=FF s2 (cX h1);rw[e] at d m;exact Prod.ext e j1
def p45(n:Nat){l:List V}(hl:∀ x∈l,bd MV x)(hlen:l.length<=100):∃ y,cA (n+6) 45 [bD l]=some y/\∃ K L:List (V×Int),Known l l.length 0 0 K/\L.Perm K/\L.Pairwise (λa b=>aE a.1 b.1)/\y=.sl (L.map cJ):=by
 rw[u45];unfold QQ;simp only[bD,D.asSl,zba];refine qn (λi s=>∃ K,s=[I i,.sl (ji K)]/\Known l i 0 0 K) l.length 0 (zxa _) ⟨[],rfl,⟨List.nodup_nil,j3,λH J M _ _ _ h=>j1⟩⟩ (λi d s c=>?_) (λs c=>?_)
 ·obtain⟨K,rfl,hK⟩:=c;simp only[g0,g1,zta,af,zba,ac,zfa,show((i:Int)<(l.length:Int)) from by omega,if_true,D.els]
  refine qn (λj s=>∃ K,s=[I j,.sl (ji K)]/\Known l i j 0 K) i 0 (zxa _) ⟨K,rfl,hK⟩ (λj F s c=>?_) (λs c=>?_)
  ·obtain⟨K,rfl,hK⟩:=c;simp only[g0,g1,af,zba,ac,zfa,show((j:Int)<(i:Int)) from by omega,if_true,D.els]
   refine qn (λk s=>∃ K,s=[I k,.sl (ji K)]/\Known l i j k K) j 0 (zxa _) ⟨K,rfl,hK⟩ (λk hk s c=>?_) (λs c=>?_)
   ·obtain⟨K,rfl,hK⟩:=c;have e:=Pm (hl _ (cX d)) (hl _ (cX (show j<l.length by omega))) (hl _ (cX (show k<l.length by omega)))
    have hc:=c96 (n+2) (hl _ (cX d)) (hl _ (cX (show j<l.length by omega))) (hl _ (cX (show k<l.length by omega)))
    rw[show(aJ (V.cross ((l.getD j V.zero).sub (l.getD i V.zero)) ((l.getD k V.zero).sub (l.getD i V.zero))),V.dot (aJ (V.cross ((l.getD j V.zero).sub (l.getD i V.zero)) ((l.getD k V.zero).sub (l.getD i V.zero)))) (l.getD i V.zero))=qU (l.getD i V.zero) (l.getD j V.zero) (l.getD k V.zero) from rfl] at hc;simp only[g0,g1,af,zba,ac,zfa,show((k:Int)<(j:Int)) from by omega,if_true,D.els,zta,aq d,aq (show j<l.length by omega),aq (show k<l.length by omega),er d,er (show j<l.length by omega),er (show k<l.length by omega),hc]
    by_cases hz:(qU (l.getD i V.zero) (l.getD j V.zero) (l.getD k V.zero)).1=V.zero
    ·have t:D.beq (ae (qU (l.getD i V.zero) (l.getD j V.zero) (l.getD k V.zero)).1) (D.st [D.int .i64 0,D.int .i64 0,D.int .i64 0])=true:=by
      rw[u4,kP];exact zha hz
     simp only[show D.get (cJ (qU (l.getD i V.zero) (l.getD j V.zero) (l.getD k V.zero))) [0]=some (ae (qU (l.getD i V.zero) (l.getD j V.zero) (l.getD k V.zero)).1) from rfl,zba,t,ac,if_true,g0,D.els,ay (aH (i:=k) j1)]
     exact⟨_,rfl,K,rfl,hK.skip hz⟩
    ·have t:D.beq (ae (qU (l.getD i V.zero) (l.getD j V.zero) (l.getD k V.zero)).1) (D.st [D.int .i64 0,D.int .i64 0,D.int .i64 0])=false:=by
      rw[u4,kP];exact zea hz
     have step:=hK.step hk F d hz;generalize hq:qU (l.getD i V.zero) (l.getD j V.zero) (l.getD k V.zero)=q at *;obtain⟨f,G,C⟩:=e;have u:D.st [ae q.1.neg,I (-q.2)]=cJ (oz q):=rfl;have E:bd 549755813888 (oz q).1:=rA f;simp only[show D.get (cJ q) [0]=some (ae q.1) from rfl,show D.get (cJ q) [1]=some (I q.2) from rfl,zba,t,ac,zFa,if_false,QU (n+4) f j2,q8 C,u]
     have one:∀ (K:List (V×Int)) (p:V×Int),bd 549755813888 p.1->((acl .not (Option.getD (ace (ji K) (cJ p)) (D.bool false))).bind λw=>(D.truth w).bind λg=>Option.bind (if g then((cA (n+5) 98 [D.sl (l.map ae),cJ p]).bind λv=>D.truth v) else(some false)) λm=>
       if m then(some ((0:Nat),[(D.sl [cJ q,cJ (oz q)]),(D.sl (acf (ji K) (cJ p) (D.bool true)))])) else(some (0,[(D.sl [cJ q,cJ (oz q)]),(D.sl (ji K))])))=some (0,[D.sl [cJ q,cJ (oz q)],D.sl (ji (jM l K p))]):=λK p hp=>by
      rw[yf];have ht:=GN (n:=n+3) (K:=K) hl hp j1
      simp only[bD] at ht;by_cases hm:p∈K
      ·simp[hm,bA,ac,jM]
      ·simp only[hm,if_false,Option.getD_none,bA,zVb,zba,ac,if_true,decide_false,zDb] at ht ⊢;rw[ht];simp only[zba,jM,hm,if_false];split
       ·rw[yh K p hm]
       ·rfl
     refine⟨.inl [I ((k+1:Nat):Int),.sl (ji (jM l (jM l K q) (oz q)))],?_,_,rfl,step⟩;refine aa (z:=(0,[.sl (ji (jM l (jM l K q) (oz q)))])) ?_ ?_
     ·refine aW (s':=[.sl [cJ q,cJ (oz q)],I 1,.sl (ji (jM l K q))]) ?_ (aW (s':=[.sl [cJ q,cJ (oz q)],I 2,.sl (ji (jM l (jM l K q) (oz q)))]) ?_ (dW (r:=(0,[.sl (ji (jM l (jM l K q) (oz q)))])) ?_ rfl))
      ·simp only[g0,g1,g2,D.els,af,zba,ac,zfa,show((0:Int)<2) from by decide,if_true,zRa,zMb,show D.idx (I 0) (0+1+1)=some 0 from rfl,zYb,ay OS]
       exact aa (one K q f) rfl
      ·simp only[g0,g1,g2,D.els,af,zba,ac,zfa,show((1:Int)<2) from by decide,if_true,zRa,zMb,show D.idx (I 1) (0+1+1)=some 1 from rfl,zqb,zYb,ay wT]
       exact aa (one (jM l K q) (oz q) E) rfl
      ·simp only[g0,g1,g2,D.els,af,zba,ac];rfl
     ·simp only[g0,D.els,ay (aH (i:=k) j1),zba]
      rfl
   ·obtain⟨K,rfl,hK⟩:=c;simp only[g0,g1,af,zba,ac,zfa,zGc,if_false,D.els];refine⟨_,rfl,.inl [I ((j+1:Nat):Int),.sl (ji K)],?_,K,rfl,hK.next⟩
    simp only[g0,D.els,ay (aH (i:=j) j1),zba]
    rfl
  ·obtain⟨K,rfl,hK⟩:=c;simp only[g0,g1,af,zba,ac,zfa,zGc,if_false,D.els];refine⟨_,rfl,.inl [I ((i+1:Nat):Int),.sl (ji K)],?_,K,rfl,hK.next2⟩;simp only[g0,D.els,ay (aH (i:=i) j1),zba]
   rfl
 ·obtain⟨K,rfl,hK⟩:=c;simp only[g0,g1,zta,af,zba,ac,zfa,zGc,if_false,D.els];obtain⟨L,A,B⟩:=FA (λq:V×Int=>q.1) K hK.keys;refine⟨_,rfl,.sl (L.map cJ),?_,K,L,hK,A,B,rfl⟩;have o:(ji K).length<=1073741824:=by
   have:=hK.len hlen;simp only[ji,zta];omega
  simp only[g0,D.els,o,decide_true,if_true,Gw,N9 (n+2) A B,zba]
def qR{l:List V}{q:V×Int}:supp l q=true↔C1 (pt l) l.length q.1 q.2:=by
 simp only[supp,sR,k9,zaa,zEa,zic,zfa,C1,pt];constructor
 ·rintro⟨h1,x,hx,h2⟩;obtain⟨k,hk,rfl⟩:=zZa hx;exact⟨λk hk=>h1 _ (cX hk),k,hk,by simpa [List.getD,hk] using h2⟩
 ·rintro⟨h1,k,hk,h2⟩;refine⟨λx hx=>?_,_,cX hk,h2⟩;obtain⟨k,hk,rfl⟩:=zZa hx;simpa [List.getD,hk] using h1 k hk
def Ok(P:Nat->V)(i j k:Nat):V.cross ((P j).sub (P i)) ((P k).sub (P i))=(cR P k j i).neg:=by apply V.ext'<;>simp only[cR,wy,V.cross,V.sub,V.neg]<;>grind
def Bq{P:Nat->V}{i j k:Nat}:V.dot (aJ (cR P i j k)) (P k)=V.dot (aJ (cR P i j k)) (P i):=by
 by_cases h:cR P i j k=V.zero
 ·have a:aJ V.zero=V.zero:=by apply V.ext'<;>simp[aJ,V.zero]
  rw[h,a];simp[V.dot,V.zero]
 ·have g:=fk h;have e:=fO (cR P i j k);have t2:V.dot (cR P i j k) (wy P i k)=0:=by simp only[cR,V.dot,V.cross];grind
  rw[e] at t2;have:(aZ (cR P i j k):Int)*V.dot (aJ (cR P i j k)) (wy P i k)=0:=by rw[<-t2];simp only[V.dot,V.smul];grind
  have h0:=aA j1 this
  rw[bq] at h0;omega
def JH{v:V}(h:v≠V.zero):v.neg≠V.zero:=λe=>by have a:=zna V.x e;have b:=zna V.y e;have c:=zna V.z e;simp only[V.neg,V.zero] at a b c;exact h (V.ext' (by simp only[V.zero];omega) (by simp only[V.zero];omega) (by simp only[V.zero];omega))
def Oh(l:List V)(i j k:Nat):(qU (pt l i) (pt l j) (pt l k)).1=(aJ (cR (pt l) k j i)).neg:=by simp only[qU,Ok (pt l) i j k,Ci]
def B5(v:V):v.neg.neg=v:=by apply V.ext'<;>simp[V.neg]
def Hy{l:List V}{i j k:Nat}{q:V×Int}:Cd l i j k q↔cR (pt l) k j i≠V.zero/\(q.1=aJ (cR (pt l) k j i)\/q.1=(aJ (cR (pt l) k j i)).neg)/\q.2=V.dot q.1 (pt l k):=by
 have e:=Oh l i j k;have c:V.dot (aJ (cR (pt l) k j i)) (pt l i)=V.dot (aJ (cR (pt l) k j i)) (pt l k):=Bq;have g:(qU (pt l i) (pt l j) (pt l k)).1≠V.zero↔cR (pt l) k j i≠V.zero:=by
  rw[e];constructor
  ·intro h h0;rw[h0] at h;exact h rfl
  ·intro h;exact JH (uq h)
 constructor
 ·intro h;have d:=h.dist;obtain⟨h1,h2⟩:=h;refine⟨g.1 h1,?_⟩;have hq:q.1=aJ (cR (pt l) k j i)\/q.1=(aJ (cR (pt l) k j i)).neg:=by
   rcases h2 with rfl|rfl
   ·exact .inr e
   ·left;show(qU (pt l i) (pt l j) (pt l k)).1.neg=_;rw[e,B5]
  refine⟨hq,?_⟩;rw[d];rcases hq with hq|hq
  ·rw[hq];exact c
  ·rw[hq,nR,nR];exact zna Neg.neg c
 ·rintro⟨h1,h2,h3⟩;refine⟨g.2 h1,?_⟩;have f:(qU (pt l i) (pt l j) (pt l k)).2=V.dot (qU (pt l i) (pt l j) (pt l k)).1 (pt l i):=rfl;obtain⟨a,b⟩:=q;simp only at h2 h3;subst h3;rcases h2 with rfl|rfl
  ·right;show _=((qU (pt l i) (pt l j) (pt l k)).1.neg,-(qU (pt l i) (pt l j) (pt l k)).2);rw[f,e,B5,nR,c,Int.neg_neg]
  ·left;refine Prod.ext e.symm ?_;show _=(qU (pt l i) (pt l j) (pt l k)).2;rw[f,e,nR,nR,c]
def Known.facets{l:List V}{K L:List (V×Int)}(h:Known l l.length 0 0 K)(hp:L.Perm K)(d:L.Pairwise (λa b=>aE a.1 b.1)):Facets (pt l) l.length L:=by
 refine⟨d,λq=>⟨λhq=>?_,λhq=>?_⟩⟩
 ·obtain⟨hs,i,j,k,h1,h2,h3,hc⟩:=h.ok q (hp.subset hq);obtain⟨c1,c2,c⟩:=Hy.1 hc;exact⟨⟨k,j,i,h1,h2,h3,c1,c2,c⟩,qR.1 hs⟩
 ·obtain⟨⟨i,j,k,h1,h2,h3,c1,c2,c⟩,hs⟩:=hq;exact hp.symm.subset (h.all k j i h1 h2 h3 (.inl h3) q (Hy.2 ⟨c1,c2,c⟩) (qR.2 hs))
def kA:Option Nat->D
 | none=>I (-1)
 | some b=>I (b:Int)
def Qf{α:Type}{p:Prop}[Decidable p]{A B:α}(h:p):(if decide p=true then A else B)=A:=by rw[zma (zha h)]
def Qg{α:Type}{p:Prop}[Decidable p]{A B:α}(h:¬ p):(if decide p=true then A else B)=B:=by rw[zia (by simpa using h)]
def aO{α:Type}{p:Prop}[Decidable p]{A B y:α}(h:p)(a:A=y):(if decide p=true then A else B)=y:=by rw[zma (zha h)];exact a
def aU{α:Type}{p:Prop}[Decidable p]{A B y:α}(h:¬ p)(a:B=y):(if decide p=true then A else B)=y:=by rw[zia (by simpa using h)];exact a
def Fx{x:Int}:sg x<0↔x<0:=by unfold sg;split<;>(try split)<;>omega
def ib{x:Int}:sg x=0↔x=0:=by unfold sg;split<;>(try split)<;>omega
def dC(a b:Nat):D.beq (I (a:Int)) (I (b:Int))=decide (a=b):=by rw[cg];by_cases h:a=b<;>simp[h];omega
def PK(n:Nat){l:List V}(hl:∀ x∈l,bd MV x){m:V}{d:Int}{a k:Nat}{best:Option Nat}(E:m≠V.zero)(e:a<l.length)(hk:k<l.length)(Z:∀ b,best=some b->b<l.length/\V.dot m (wy (pt l) a b)=0)(B:V.dot m (wy (pt l) a k)=0)(X:D) :
  ((D.truth (D.bool (D.beq (I (k:Int)) (I (a:Int))))).bind λs=>
  if s then(some ((0:Nat),[kA best,X])) else((ab7 .lss (kA best) (D.int .i64 0)).bind λJ=>
  (D.truth J).bind λt=>
  if t then(some (0,[I (k:Int),X])) else((D.asSl (bD l)).bind λi=>
  (D.idx (I (k:Int)) (List.length i)).bind λi29=>
  (i[i29]?).bind λK=>
  (D.asSl (bD l)).bind λj=>
  (D.idx (I (a:Int)) (List.length j)).bind λi32=>
  (j[i32]?).bind λL=>
  (cA (n+4) 103 [K,L]).bind λf=>
  (D.asSl (bD l)).bind λo=>
  (D.idx (kA best) (List.length o)).bind λi36=>
  (o[i36]?).bind λM=>
  (D.asSl (bD l)).bind λp=>
  (D.idx (I (a:Int)) (List.length p)).bind λi39=>
  (p[i39]?).bind λN=>
  (cA (n+4) 103 [M,N]).bind λg=>
  (D.get (cJ (m,d)) [0]).bind λO=>
  (cA (n+4) 104 [O,g,f]).bind λq=>
  (ab7 .lss q (D.int .i64 0)).bind λP=>
  (D.truth P).bind λu=>
  Option.bind (if u then(some true) else((D.truth (D.bool (D.beq q (D.int .i64 0)))).bind λv=>
  if v then((cA (n+4) 101 [f,f]).bind λF=>
  (cA (n+4) 101 [g,g]).bind λG=>
  (ab7 .gtr F G).bind λQ=>
  D.truth Q) else(some false))) λw=>
  (D.truth (D.bool w)).bind λy=>
  if y then(some (0,[I (k:Int),X])) else(some (0,[kA best,X])))))=some (0,[kA (dm m (pt l) a best k),X]):=by
 by_cases hka:k=a
 ·subst hka;have h0:D.beq (I (k:Int)) (I (k:Int))=true:=by rw[dC];simp
  rw[h0,show dm m (pt l) k best k=best from zma rfl];exact j0 true (zma rfl)
 ·have h0:D.beq (I (k:Int)) (I (a:Int))=false:=by rw[dC];simp[hka]
  rw[h0];refine j0 false ?_;rw[zia j2]
  have h:∀ b,dm m (pt l) a b k=match b with
   | none=>some k
   | some b=>if rB m (pt l) a b k then some k else some b:=λb=>zia hka
  rw[h];clear h h0;cases best with
  | none=>exact j0 (.bool true) (j0 true rfl)
  | some b=>
   obtain⟨c,A⟩:=Z b rfl;have c1:=Ig (n+2) (hl _ (cX hk)) (hl _ (cX e)) j2
   have c2:=Ig (n+2) (hl _ (cX c)) (hl _ (cX e)) j2
   have w1:bd 524288 (wy (pt l) a k):=oJ (hl _ (cX e)) (hl _ (cX hk));have H:bd 524288 (wy (pt l) a b):=oJ (hl _ (cX e)) (hl _ (cX c));have W:(l.getD k V.zero).sub (l.getD a V.zero)=wy (pt l) a k:=rfl;have Y:(l.getD b V.zero).sub (l.getD a V.zero)=wy (pt l) a b:=rfl;rw[W] at c1;rw[Y] at c2;have R:=Xd (n+1) (m:=m) H w1 j2
   have S:=If (n+3) w1 w1 j2
   have U:=If (n+3) H H j2
   have hle:=E4 E (eD A B);rw[hle] at R;have C:¬ ((b:Int)<0):=j1
   have r:(l.map ae).length=l.length:=zta ..;refine aa (z:=.bool false) (by rw[show kA (some b)=I (b:Int) from rfl,af,zea C]) (j0 false ?_)
   rw[zia j2]
   refine j0 (l.map ae) (aa (z:=k) (by rw[r];exact aq hk) (aa (er hk) ?_))
   refine j0 (l.map ae) (aa (z:=a) (by rw[r];exact aq e) (aa (er e) ?_))
   refine aa c1 ?_;refine j0 (l.map ae) (aa (z:=b) (by rw[r];exact aq c) (aa (er c) ?_))
   refine j0 (l.map ae) (aa (z:=a) (by rw[r];exact aq e) (aa (er e) ?_))
   refine aa c2 (j0 (ae m) (aa R (aa af (aa ac ?_))));simp only[Fx,cg,ib,ac,zba,S,U,dM,rB,T];by_cases t1:V.dot m (V.cross (wy (pt l) a b) (wy (pt l) a k))<0
   ·simp[t1,kA]
   ·by_cases t2:V.dot m (V.cross (wy (pt l) a b) (wy (pt l) a k))=0
    ·by_cases t3:V.dot (wy (pt l) a b) (wy (pt l) a b)<V.dot (wy (pt l) a k) (wy (pt l) a k)
     ·simp[t2,t3,kA]
     ·simp[t2,t3,kA]
    ·simp[t1,t2,kA]
def am(L:List Nat):List D:=L.map λ(k:Nat)=>I (k:Int)
def aF(L:List Nat):(am L).length=L.length:=zta ..
def xI{L:List Nat}{t k:Nat}(h:L[t]?=some k):(am L)[t]?=some (I (k:Int)):=by simp[am,h]
def EW{n:Nat}(h:0<n):D.idx (D.int .i64 0) n=some 0:=aq (i:=0) h
theorem vg{m:V}{P:Nat->V}{a:Nat}:∀ (L:List Nat) (best:Option Nat) (b:Nat),L.foldl (dm m P a) best=some b->b∈L\/best=some b
 | [],best,b,h=>.inr h
 | k::L,best,b,h=>by
  rw[zCc] at h;rcases vg L _ b h with h1|h1
  ·exact .inl (zoa _ h1)
  ·unfold dm at h1;split at h1
   ·exact .inr h1
   ·split at h1
    ·cases h1;exact .inl zsa
    ·split at h1<;>cases h1
     ·exact .inl zsa
     ·exact .inr rfl
theorem uL{body:Bd}{S:Nat->Nat->Prop}{a:Nat}{G:Nat->Prop}(g:∀ c b,G c->S c b->b≠a->G b)
  (d:∀ (c b:Nat) (out:List Nat),G c->c≠a->S c b->out.length<=1000->body [.sl (am out),I (c:Int)]=some (.inl [.sl (am (out++[c])),I (b:Int)]))
  (e:∀ out:List Nat,body [.sl (am out),I (a:Int)]=some (.inr (0,[.sl (am out)]))) :
  ∀ {c:Nat} {p:List Nat},Chain S a c p->G c->c≠a->∀ out:List Nat,(out++p).length<=1000->bf body [.sl (am out),I (c:Int)]=some (0,[.sl (am (out++p))])
 | c,_,.done s,hc,f,out,hl=>by
  have h1:=d c a out hc f s (by simp at hl;omega)
  rw[show bf body [.sl (am out),I (c:Int)]=bf body [.sl (am (out++[c])),I (a:Int)] from dV h1];exact eH (e _)
 | c,_,.step (y:=y) (l:=p) s hy k,hc,f,out,hl=>by
  have h1:=d c y out hc f s (by simp at hl;omega)
  rw[show bf body [.sl (am out),I (c:Int)]=bf body [.sl (am (out++[c])),I (y:Int)] from dV h1];have:=uL g d e k (g c y hc s hy) hy (out++[c]) (by simpa using hl)
  rw[this];simp
def lm{P:Nat->V}{i:Nat}{m:V}{d:Int}:aN P (i+1) m d=if V.dot m (P i)=d then aN P i m d++[i] else aN P i m d:=by
 unfold aN;rw[z8b,List.filter_append];by_cases h:V.dot m (P i)=d
 ·simp[h]
 ·simp[h]
def p46(n:Nat){l:List V}(hl:∀ x∈l,bd MV x)(hlen:l.length<=100)(hs:∀ i j,i<j->j<l.length->aE (pt l i) (pt l j)){m:V}{d:Int}(hF:IsF (pt l) l.length m d)(hm:bd 549755813888 m) :
  ∃ p,bB (pt l) l.length m d p/\cA (n+5) 46 [bD l,cJ (m,d)]=some (.sl (am p)):=by
 obtain⟨p,hp,ai,A⟩:=hF.poly hs;refine⟨p,hp,?_⟩;have F:=hF.flat hs;obtain⟨a,q,C,O,K,h3⟩:=hF.head hs;obtain⟨a',v,L⟩:=hp;rw[q] at v;cases v;obtain⟨on,u⟩:∃ on,aN (pt l) l.length m d=on:=⟨_,rfl⟩;rw[u] at F q C O K h3 L A;have H:∀ k∈on,k<l.length:=λk hk=>by rw[<-u] at hk;exact(av.1 hk).1
 have N:∀ k∈on,V.dot m (pt l k)=d:=λk hk=>by rw[<-u] at hk;exact(av.1 hk).2
 have hw:∀ b∈on,∀ k∈on,V.dot m (wy (pt l) b k)=0:=λb w k hk=>by rw[bq,N b w,N k hk];omega
 have al:on.length<=100:=by rw[<-u];unfold aN;exact zHa (zAc _ _) (by rw[zsb];exact hlen)
 have ax:p.length<=on.length:=z2b ai λz hz=>((A z).1 hz).1;have ll:(l.map ae).length=l.length:=zta ..;have r:=λ(c k:Nat) (hc:c∈on) (hk:k∈on) (best:Option Nat) (w:∀ b,best=some b->b∈on) (X:D)=>PK n hl (d:=d) hF.nz.1 (H c hc) (H k hk) (best:=best) (λb e=>⟨H b (w b e),hw c hc b (w b e)⟩) (hw c hc k hk) X;have P:∀ c∈on,Geo.mN (pt l) on c->∃ b,on.foldl (dm m (pt l) c) none=some b/\Side m (pt l) on c b:=λc hc ec=>yu F hc ec (h3 c hc);obtain⟨t0,B⟩:∃ t0,on=a::t0:=by
  cases hx:on with
  | nil=>rw[hx] at C;simp at C
  | cons y t0=>rw[hx] at q;simp at q;subst q;exact⟨t0,rfl⟩
 have f:(am on)[0]?=some (I (a:Int)):=by rw[B];rfl
 have g:0<(am on).length:=by rw[aF,B];simp
 rw[u46]
 delta Tk qG qB qC qT qS qX qV qW qZ iL iR Jn
 refine j0 (l.map ae) ?_;refine bO (λi s=>s=[I (i:Int),.sl (am (aN (pt l) i m d))]) l.length 0 (zxa _) rfl (λi hi s o=>?_) (λs o=>?_)
 ·subst o;left;refine⟨_,?_,rfl⟩;refine aa af (aa ac ?_);refine aO (by show((i:Int)<((l.map ae).length:Int));rw[ll];omega) ?_
  refine aa (z:=(0,[.sl (am (aN (pt l) (i+1) m d))])) ?_ (aa (ay (aH (i:=i) j1)) rfl)
  refine j0 (l.map ae) (aa (z:=i) (by rw[ll];exact aq hi) (aa (er hi) (j0 (ae m) (aa (If (n+3) hm (hl _ (cX hi)) j2) (j0 (I d) ?_)))))
  rw[cg];refine aa ac ?_;rw[lm];by_cases hd:V.dot m (pt l i)=d
  ·have E:V.dot m (l.getD i V.zero)=d:=hd;rw[zma hd,Qf E,zma ?_]
   ·simp[g1,D.els,am,g0]
   ·have:(aN (pt l) i m d).length<=i:=by unfold aN;exact zHa (zAc _ _) j3
    simp only[g0,g1,D.els,aF,zRa,zMb];omega
  ·have E:¬ V.dot m (l.getD i V.zero)=d:=hd;rw[zia hd,Qg E];rfl
 ·subst o;refine⟨(0,[.sl (am on)]),?_,?_⟩
  ·refine aa af (aa ac ?_);rw[<-u];exact aU (by show ¬ ((l.length:Int)<((l.map ae).length:Int));rw[ll];omega) rfl
  refine aa (EW g) (aa f (aa (EW g) (aa f ?_)));obtain⟨U,Z,J⟩:=P a C O;refine bO (λt s=>s=[kA ((on.take t).foldl (dm m (pt l) a) none),.sl (am on),I (t:Int),.sl (am on)]) on.length 0 (zxa _) rfl (λt ht s o=>?_) (λs o=>?_)
  ·subst o;left;refine⟨_,?_,rfl⟩;refine aa af (aa ac ?_);refine aO (by show((t:Int)<((am on).length:Int));rw[aF];omega) ?_
   have hk:on[t]?=some on[t]:=zca ht;refine aa (z:=(0,[kA ((on.take (t+1)).foldl (dm m (pt l) a) none),.sl (am on)])) ?_ (aa (ay (aH (i:=t) j1)) rfl)
   refine j0 (am on) (aa (z:=t) (by rw[aF];exact aq ht) (aa (xI hk) ?_))
   rw[zUa ht,List.foldl_append,zCc,List.foldl_nil];exact r a on[t] C (zDa ht) _ (λb w=>by
    rcases vg _ _ b w with h|h
    ·exact zSa h
    ·cases h) (.sl (am on))
  ·subst o;rw[zub,Z];refine⟨(0,[I (U:Int),.sl (am on)]),?_,?_⟩
   ·refine aa af (aa ac ?_);refine aU (by show ¬ ((on.length:Int)<((am on).length:Int));rw[aF];omega) ?_
    rfl
   obtain⟨T,Q,M,hy⟩:∃ T,p=a::T/\Chain (Side m (pt l) on) a U T/\U≠a:=by
    cases L with
    | done s=>exact z3a rfl s.ne
    | step s aj k=> have:=acJ F C s J;subst this;exact⟨_,rfl,k,aj⟩
   refine zQ (uL (S:=Side m (pt l) on) (a:=a) (G:=λc=>c∈on/\Geo.mN (pt l) on c) (λc b hc s _=>⟨s.mem,s.ext F hc.1⟩) (λc b out hc ad ak an=>?_) (λout=>?_) M ⟨J.mem,J.ext F C⟩ hy [a] ?_) ?_
   ·obtain⟨b',Y,R⟩:=P c hc.1 hc.2;have:=acJ F hc.1 ak R;subst this;refine j0 (am on) (aa (EW g) (aa f ?_));have W:D.beq (I (c:Int)) (I (a:Int))=false:=by rw[dC];simp[ad]
    refine aa (z:=true) (by show D.truth (D.bool (!(D.beq (I (c:Int)) (I (a:Int)))))=_;rw[W];rfl) ?_
    rw[zma rfl,zma (by simp only[g0,D.els,aF,zRa,zMb];omega)]
    refine j0 (am on) ?_;refine cD (λt s=>s=[kA ((on.take t).foldl (dm m (pt l) c) none),I (t:Int)]) on.length 0 (zxa _) rfl (λt ht s o=>?_) (λs o=>?_)
    ·subst o;left;refine⟨_,?_,rfl⟩;refine aa af (aa ac ?_);refine aO (by show((t:Int)<((am on).length:Int));rw[aF];omega) ?_
     have hk:on[t]?=some on[t]:=zca ht;refine aa (z:=(0,[kA ((on.take (t+1)).foldl (dm m (pt l) c) none),.sl (am on)])) ?_ (aa (ay (aH (i:=t) j1)) rfl)
     refine j0 (am on) (aa (z:=t) (by rw[aF];exact aq ht) (aa (xI hk) ?_))
     rw[zUa ht,List.foldl_append,zCc,List.foldl_nil];exact r c on[t] hc.1 (zDa ht) _ (λb w=>by
      rcases vg _ _ b w with h|h
      ·exact zSa h
      ·cases h) (.sl (am on))
    ·subst o;rw[zub,Y];refine⟨(0,[I (b:Int)]),?_,?_⟩
     ·refine aa af (aa ac ?_);refine aU (by show ¬ ((on.length:Int)<((am on).length:Int));rw[aF];omega) ?_
      rfl
     ·simp[g0,g1,D.els,am]
   ·refine j0 (am on) (aa (EW g) (aa f ?_));have W:D.beq (I (a:Int)) (I (a:Int))=true:=by rw[dC];simp
    refine aa (z:=false) (by show D.truth (D.bool (!(D.beq (I (a:Int)) (I (a:Int)))))=_;rw[W];rfl) ?_
    rfl
   ·have:([a]++T).length=p.length:=by rw[Q];rfl
    omega
   ·rw[Q];rfl
end Sy
end
end Go.Proofs.YtphlmegkommlnaaGreatDoor
