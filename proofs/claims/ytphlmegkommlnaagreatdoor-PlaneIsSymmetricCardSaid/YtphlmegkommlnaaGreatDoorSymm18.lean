/- Part 18 of the proof that PlaneIsSymmetric answers true at every input -/
import Derived.Test.YtphlmegkommlnaaGreatDoorSymm09
set_option linter.unusedVariables false
set_option linter.unusedSimpArgs false
set_option linter.unnecessarySimpa false
set_option linter.defProp false
set_option maxRecDepth 20000
namespace Go.Proofs.YtphlmegkommlnaaGreatDoor
noncomputable section
namespace Sy
open Go Go.Proofs
def aO:Lp:=λ{α β} body=>lc (α:=α) (β:=β) body
def cA(n:Nat):Nat->List D->Option D:=EO aO n
section
variable(n:Nat)(a0 a1 a2 a3 a4:D)
def Uz:cA (n+1) 12 [a0]=L0 aO (cA n) a0:=by kernel_rfl
def Ye:cA (n+1) 13 [a0,a1]=Oo aO (cA n) a0 a1:=by kernel_rfl
def Yf:cA (n+1) 15 [a0]=Oq aO (cA n) a0:=by kernel_rfl
def Yg:cA (n+1) 18 [a0]=Ot aO (cA n) a0:=by kernel_rfl
def Yh:cA (n+1) 19 [a0]=Ou aO (cA n) a0:=by kernel_rfl
def Yi:cA (n+1) 21 [a0]=L1 aO (cA n) a0:=by kernel_rfl
def Yj:cA (n+1) 22 [a0]=Ov aO (cA n) a0:=by kernel_rfl
def u32:cA (n+1) 32 [a0,a1]=Ow aO (cA n) a0 a1:=by kernel_rfl
def Yk:cA (n+1) 33 [a0,a1]=Ox aO (cA n) a0 a1:=by kernel_rfl
def Yl:cA (n+1) 34 [a0]=Oy aO (cA n) a0:=by kernel_rfl
def Vo:cA (n+1) 37 [a0,a1]=L2 aO (cA n) a0 a1:=by kernel_rfl
def V2:cA (n+1) 38 [a0,a1]=Mo aO (cA n) a0 a1:=by kernel_rfl
def V3:cA (n+1) 40 [a0,a1]=Mp aO (cA n) a0 a1:=by kernel_rfl
def Ym:cA (n+1) 45 [a0]=L3 aO (cA n) a0:=by kernel_rfl
def Yn:cA (n+1) 46 [a0,a1]=Oz aO (cA n) a0 a1:=by kernel_rfl
def Yo:cA (n+1) 47 [a0]=OA aO (cA n) a0:=by kernel_rfl
def Yp:cA (n+1) 48 [a0]=OB aO (cA n) a0:=by kernel_rfl
def Yq:cA (n+1) 51 [a0,a1]=OC aO (cA n) a0 a1:=by kernel_rfl
def Yr:cA (n+1) 52 [a0]=OD aO (cA n) a0:=by kernel_rfl
def Ys:cA (n+1) 53 [a0,a1]=OE aO (cA n) a0 a1:=by kernel_rfl
def Yt:cA (n+1) 54 [a0]=OF aO (cA n) a0:=by kernel_rfl
def Yu:cA (n+1) 57 [a0,a1]=OG aO (cA n) a0 a1:=by kernel_rfl
def VG:cA (n+1) 59 [a0,a1]=L4 aO (cA n) a0 a1:=by kernel_rfl
def Yv:cA (n+1) 61 [a0,a1]=OH aO (cA n) a0 a1:=by kernel_rfl
def VH:cA (n+1) 62 [a0,a1]=L5 aO (cA n) a0 a1:=by kernel_rfl
def Yw:cA (n+1) 63 [a0]=OI aO (cA n) a0:=by kernel_rfl
def u64:cA (n+1) 64 [a0,a1]=OJ aO (cA n) a0 a1:=by kernel_rfl
def Yx:cA (n+1) 65 [a0,a1]=OK aO (cA n) a0 a1:=by kernel_rfl
def Yy:cA (n+1) 68 [a0]=OL aO (cA n) a0:=by kernel_rfl
def Yz:cA (n+1) 73 [a0,a1]=OM aO (cA n) a0 a1:=by kernel_rfl
def YA:cA (n+1) 74 [a0]=ON aO (cA n) a0:=by kernel_rfl
def V4:cA (n+1) 76 [a0]=ME aO (cA n) a0:=by kernel_rfl
def YB:cA (n+1) 77 [a0]=OO aO (cA n) a0:=by kernel_rfl
def YC:cA (n+1) 78 [a0,a1]=OP aO (cA n) a0 a1:=by kernel_rfl
def YD:cA (n+1) 79 [a0,a1]=OQ aO (cA n) a0 a1:=by kernel_rfl
def YE:cA (n+1) 80 [a0]=OR aO (cA n) a0:=by kernel_rfl
def V5:cA (n+1) 81 [a0,a1]=MF aO (cA n) a0 a1:=by kernel_rfl
def YF:cA (n+1) 82 [a0,a1]=OS aO (cA n) a0 a1:=by kernel_rfl
def YG:cA (n+1) 83 [a0]=OT aO (cA n) a0:=by kernel_rfl
def YH:cA (n+1) 84 []=OU aO (cA n) :=by kernel_rfl
def V6:cA (n+1) 85 [a0,a1]=MG aO (cA n) a0 a1:=by kernel_rfl
def YI:cA (n+1) 86 [a0]=OV aO (cA n) a0:=by kernel_rfl
def V7:cA (n+1) 87 [a0,a1]=MH aO (cA n) a0 a1:=by kernel_rfl
def V8:cA (n+1) 88 [a0]=MI aO (cA n) a0:=by kernel_rfl
def VI:cA (n+1) 89 [a0,a1]=L6 aO (cA n) a0 a1:=by kernel_rfl
def YJ:cA (n+1) 90 [a0,a1]=OX aO (cA n) a0 a1:=by kernel_rfl
def YK:cA (n+1) 91 [a0,a1]=OY aO (cA n) a0 a1:=by kernel_rfl
def YL:cA (n+1) 96 [a0,a1,a2]=OZ aO (cA n) a0 a1 a2:=by kernel_rfl
def YM:cA (n+1) 97 [a0]=O0 aO (cA n) a0:=by kernel_rfl
def YN:cA (n+1) 98 [a0,a1]=O1 aO (cA n) a0 a1:=by kernel_rfl
def Ui:cA (n+1) 100 [a0,a1]=GX aO (cA n) a0 a1:=by kernel_rfl
def Uj:cA (n+1) 101 [a0,a1]=Ec aO (cA n) a0 a1:=by kernel_rfl
def Uk:cA (n+1) 103 [a0,a1]=GY aO (cA n) a0 a1:=by kernel_rfl
def Ul:cA (n+1) 104 [a0,a1,a2]=GZ aO (cA n) a0 a1 a2:=by kernel_rfl
def Um:cA (n+1) 105 [a0,a1]=G0 aO (cA n) a0 a1:=by kernel_rfl
def Un:cA (n+1) 106 [a0,a1,a2]=G1 aO (cA n) a0 a1 a2:=by kernel_rfl
def Uo:cA (n+1) 107 [a0,a1]=G2 aO (cA n) a0 a1:=by kernel_rfl
def Up:cA (n+1) 108 [a0,a1]=G3 aO (cA n) a0 a1:=by kernel_rfl
def Uq:cA (n+1) 109 [a0,a1,a2]=G4 aO (cA n) a0 a1 a2:=by kernel_rfl
def Ur:cA (n+1) 110 [a0,a1]=G5 aO (cA n) a0 a1:=by kernel_rfl
def Us:cA (n+1) 111 [a0,a1,a2]=G6 aO (cA n) a0 a1 a2:=by kernel_rfl
def Ut:cA (n+1) 112 [a0,a1]=G7 aO (cA n) a0 a1:=by kernel_rfl
def Uu:cA (n+1) 115 [a0]=G8 aO (cA n) a0:=by kernel_rfl
def Uv:cA (n+1) 116 [a0,a1]=G9 aO (cA n) a0 a1:=by kernel_rfl
def Uw:cA (n+1) 117 [a0,a1]=Ha aO (cA n) a0 a1:=by kernel_rfl
def Ux:cA (n+1) 118 [a0]=Hb aO (cA n) a0:=by kernel_rfl
def Uy:cA (n+1) 119 []=Hc aO (cA n) :=by kernel_rfl
def UA:cA (n+1) 120 [a0,a1]=Hd aO (cA n) a0 a1:=by kernel_rfl
def UB:cA (n+1) 121 [a0,a1]=He aO (cA n) a0 a1:=by kernel_rfl
def UC:cA (n+1) 122 [a0,a1]=Hf aO (cA n) a0 a1:=by kernel_rfl
def UD:cA (n+1) 123 [a0,a1]=Hg aO (cA n) a0 a1:=by kernel_rfl
def LT:cA (n+1) 124 [a0]=CA aO (cA n) a0:=by kernel_rfl
def UE:cA (n+1) 125 []=Hh aO (cA n) :=by kernel_rfl
def UF:cA (n+1) 126 [a0,a1]=Hi aO (cA n) a0 a1:=by kernel_rfl
def UG:cA (n+1) 127 [a0]=Hj aO (cA n) a0:=by kernel_rfl
def N5:cA (n+1) 128 [a0]=Ed aO (cA n) a0:=by kernel_rfl
def UH:cA (n+1) 129 [a0]=Hk aO (cA n) a0:=by kernel_rfl
def UI:cA (n+1) 130 []=Hl aO (cA n) :=by kernel_rfl
def UJ:cA (n+1) 131 [a0,a1]=Hm aO (cA n) a0 a1:=by kernel_rfl
def N6:cA (n+1) 132 [a0,a1]=Ee aO (cA n) a0 a1:=by kernel_rfl
def UK:cA (n+1) 133 []=Hn aO (cA n) :=by kernel_rfl
def N7:cA (n+1) 136 [a0]=Ef aO (cA n) a0:=by kernel_rfl
def UL:cA (n+1) 137 [a0,a1]=Ho aO (cA n) a0 a1:=by kernel_rfl
def UM:cA (n+1) 138 [a0]=Hp aO (cA n) a0:=by kernel_rfl
def N8:cA (n+1) 139 [a0]=Eg aO (cA n) a0:=by kernel_rfl
def UN:cA (n+1) 140 [a0]=Hq aO (cA n) a0:=by kernel_rfl
def UO:cA (n+1) 141 [a0,a1]=Hr aO (cA n) a0 a1:=by kernel_rfl
def UP:cA (n+1) 142 [a0]=Hs aO (cA n) a0:=by kernel_rfl
def UQ:cA (n+1) 143 [a0,a1]=Ht aO (cA n) a0 a1:=by kernel_rfl
def UR:cA (n+1) 144 [a0,a1]=Hu aO (cA n) a0 a1:=by kernel_rfl
def US:cA (n+1) 145 [a0]=Hv aO (cA n) a0:=by kernel_rfl
def UT:cA (n+1) 146 [a0,a1]=Hw aO (cA n) a0 a1:=by kernel_rfl
def UU:cA (n+1) 147 [a0,a1]=Hx aO (cA n) a0 a1:=by kernel_rfl
def UV:cA (n+1) 148 [a0]=Hy aO (cA n) a0:=by kernel_rfl
def N9:cA (n+1) 152 [a0,a1]=Eh aO (cA n) a0 a1:=by kernel_rfl
def UW:cA (n+1) 154 [a0,a1]=Hz aO (cA n) a0 a1:=by kernel_rfl
def UX:cA (n+1) 155 [a0]=HA aO (cA n) a0:=by kernel_rfl
def UY:cA (n+1) 156 [a0,a1,a2,a3,a4]=HB aO (cA n) a0 a1 a2 a3 a4:=by kernel_rfl
def UZ:cA (n+1) 165 [a0]=HC aO (cA n) a0:=by kernel_rfl
def U0:cA (n+1) 167 [a0]=HD aO (cA n) a0:=by kernel_rfl
def U2:cA (n+1) 168 [a0,a1]=HE aO (cA n) a0 a1:=by kernel_rfl
def U3:cA (n+1) 169 []=HF aO (cA n) :=by kernel_rfl
def U4:cA (n+1) 170 [a0,a1]=HG aO (cA n) a0 a1:=by kernel_rfl
def U5:cA (n+1) 171 [a0]=HH aO (cA n) a0:=by kernel_rfl
def Oa:cA (n+1) 172 [a0,a1]=Ei aO (cA n) a0 a1:=by kernel_rfl
def Oc:cA (n+1) 173 [a0,a1]=Ej aO (cA n) a0 a1:=by kernel_rfl
def Od:cA (n+1) 174 [a0,a1]=El aO (cA n) a0 a1:=by kernel_rfl
def U6:cA (n+1) 175 [a0,a1]=HI aO (cA n) a0 a1:=by kernel_rfl
def U7:cA (n+1) 186 [a0]=HJ aO (cA n) a0:=by kernel_rfl
def Oe:cA (n+1) 187 [a0]=Em aO (cA n) a0:=by kernel_rfl
def U8:cA (n+1) 188 [a0,a1]=HK aO (cA n) a0 a1:=by kernel_rfl
def U9:cA (n+1) 194 [a0]=HL aO (cA n) a0:=by kernel_rfl
def Va:cA (n+1) 195 [a0,a1]=HM aO (cA n) a0 a1:=by kernel_rfl
def Vb:cA (n+1) 196 [a0]=HN aO (cA n) a0:=by kernel_rfl
def Vc:cA (n+1) 197 [a0,a1]=HO aO (cA n) a0 a1:=by kernel_rfl
def Vd:cA (n+1) 201 [a0,a1]=HP aO (cA n) a0 a1:=by kernel_rfl
def Ve:cA (n+1) 202 [a0]=CB aO (cA n) a0:=by kernel_rfl
def Of:cA (n+1) 203 [a0,a1]=En aO (cA n) a0 a1:=by kernel_rfl
def Vf:cA (n+1) 215 [a0]=HR aO (cA n) a0:=by kernel_rfl
def Vg:cA (n+1) 217 [a0]=HS aO (cA n) a0:=by kernel_rfl
def Vh:cA (n+1) 331 [a0]=HT aO (cA n) a0:=by kernel_rfl
def Vi:cA (n+1) 342 [a0]=HU aO (cA n) a0:=by kernel_rfl
def Vj:cA (n+1) 348 [a0]=HV aO (cA n) a0:=by kernel_rfl
def Vk:cA (n+1) 349 [a0]=HW aO (cA n) a0:=by kernel_rfl
def Vl:cA (n+1) 352 [a0,a1]=HX aO (cA n) a0 a1:=by kernel_rfl
def Og:cA (n+1) 357 [a0]=Eo aO (cA n) a0:=by kernel_rfl
def Vm:cA (n+1) 364 [a0,a1]=HY aO (cA n) a0 a1:=by kernel_rfl
def Vn:cA (n+1) 365 [a0]=HZ aO (cA n) a0:=by kernel_rfl
def Vp:cA (n+1) 385 [a0]=H0 aO (cA n) a0:=by kernel_rfl
def Oh:cA (n+1) 386 [a0,a1]=Ep aO (cA n) a0 a1:=by kernel_rfl
def Vq:cA (n+1) 392 [a0,a1]=H1 aO (cA n) a0 a1:=by kernel_rfl
def Vr:cA (n+1) 393 [a0]=H2 aO (cA n) a0:=by kernel_rfl
def LU:cA (n+1) 394 [a0]=CC aO (cA n) a0:=by kernel_rfl
def Vs:cA (n+1) 414 [a0,a1,a2,a3]=H4 aO (cA n) a0 a1 a2 a3:=by kernel_rfl
def Vt:cA (n+1) 416 [a0,a1,a2,a3]=H5 aO (cA n) a0 a1 a2 a3:=by kernel_rfl
def Vu:cA (n+1) 419 [a0,a1,a2,a3,a4]=H6 aO (cA n) a0 a1 a2 a3 a4:=by kernel_rfl
def Vv:cA (n+1) 427 [a0]=H7 aO (cA n) a0:=by kernel_rfl
def Vw:cA (n+1) 428 [a0,a1]=H8 aO (cA n) a0 a1:=by kernel_rfl
def Vx:cA (n+1) 431 [a0,a1]=H9 aO (cA n) a0 a1:=by kernel_rfl
def Vy:cA (n+1) 433 [a0,a1]=Ia aO (cA n) a0 a1:=by kernel_rfl
def Vz:cA (n+1) 434 [a0,a1,a2]=Ib aO (cA n) a0 a1 a2:=by kernel_rfl
def VA:cA (n+1) 435 [a0,a1]=Ic aO (cA n) a0 a1:=by kernel_rfl
def VB:cA (n+1) 447 [a0]=Id aO (cA n) a0:=by kernel_rfl
def VC:cA (n+1) 448 [a0]=Ie aO (cA n) a0:=by kernel_rfl
def VD:cA (n+1) 449 [a0]=If aO (cA n) a0:=by kernel_rfl
def VE:cA (n+1) 450 [a0,a1]=Ig aO (cA n) a0 a1:=by kernel_rfl
def VF:cA (n+1) 456 [a0,a1]=Ih aO (cA n) a0 a1:=by kernel_rfl
end
end Sy
end
noncomputable section
namespace Geo
structure V where
 x:Int
 y:Int
 z:Int
deriving DecidableEq
namespace V
def sub(a b:V):V:=⟨a.x-b.x,a.y-b.y,a.z-b.z⟩
def neg(a:V):V:=⟨-a.x,-a.y,-a.z⟩
def add(a b:V):V:=⟨a.x+b.x,a.y+b.y,a.z+b.z⟩
def smul(k:Int)(a:V):V:=⟨k*a.x,k*a.y,k*a.z⟩
def dot(a b:V):Int:=a.x*b.x+a.y*b.y+a.z*b.z
def cross(a b:V):V:=⟨a.y*b.z-a.z*b.y,a.z*b.x-a.x*b.z,a.x*b.y-a.y*b.x⟩
def zero:V:=⟨0,0,0⟩
def ext'{a b:V}(h1:a.x=b.x)(h2:a.y=b.y)(h3:a.z=b.z):a=b:=by cases a;cases b;simp_all
end V
open V
def A3{a:Int}(h:a≠0):0<a*a:=by
 rcases Int.lt_or_lt_of_ne h with h|h
 ·exact zYb h h
 ·exact zrb h h
def lF(a:Int):0<=a*a:=by
 rcases zGb a 0 with h|h|h
 ·exact zMa (zYb h h)
 ·subst h;decide
 ·exact zMa (zrb h h)
def qc(a:V):0<=dot a a:=by
 have:=lF a.x;have:=lF a.y;have:=lF a.z;simp only[dot];omega
def ug{a:V}(h:dot a a=0):a=zero:=by
 have h1:=lF a.x;have h2:=lF a.y;have h3:=lF a.z;simp only[dot] at h;have e1:a.x*a.x=0:=by omega
 have e2:a.y*a.y=0:=by omega
 have e3:a.z*a.z=0:=by omega
 apply V.ext'<;>simp only[zero]<;>(first|(rcases zCc.1 e1 with h|h<;>exact h)|(rcases zCc.1 e2 with h|h<;>exact h)|(rcases zCc.1 e3 with h|h<;>exact h))
def bu{a:V}(h:a≠zero):0<dot a a:=by
 have:=qc a;rcases znb this with h1|h1
 ·exact h1
 ·exact absurd (ug h1.symm) h
def T(n u v:V):Int:=dot n (cross u v)
def th{a b:Int}(ha:0<a)(h:0<a*b):0<b:=by
 rcases zGb b 0 with hb|hb|hb
 ·have:=zMb ha hb;omega
 ·subst hb;simp at h
 ·exact hb
def vC{a b:Int}(ha:0<a)(h:0<=a*b):0<=b:=by
 rcases zlc b 0 with hb|hb
 ·have:=zMb ha hb;omega
 ·exact hb
def bo{a b:Int}(ha:0<a)(h:a*b=0):b=0:=by
 rcases zCc.1 h with h|h
 ·omega
 ·exact h
section plane
variable{n:V}(hn:n≠zero)
include hn
def Cg(f:V){u v w:V}(hu:dot n u=0)(hv:dot n v=0)(hw:dot n w=0) :
  dot f u*T n v w+dot f v*T n w u+dot f w*T n u v=0:=by
 have h:dot n n*(dot f u*T n v w+dot f v*T n w u+dot f w*T n u v)=0:=by
  simp only[T,dot,cross] at *;grind
 exact bo (bu hn) h
def Bk{f u v w:V}(hu:dot n u=0)(hv:dot n v=0)(hw:dot n w=0)(fu:0<dot f u)(fv:0<dot f v)(fw:0<dot f w)
  (h1:0<=T n u v) (h2:0<=T n v w):0<=T n u w/\(0<T n u v\/0<T n v w->0<T n u w):=by
 have p:=Cg hn f hu hv hw;have e:T n w u=- T n u w:=by simp only[T,dot,cross];grind
 rw[e] at p;have q:dot f v*T n u w=dot f u*T n v w+dot f w*T n u v:=by
  have:dot f v*-T n u w=-(dot f v*T n u w):=Int.mul_neg _ _;omega
 have q1:=zRb (zMa fu) h2;have q2:=zRb (zMa fw) h1;refine⟨vC fv (by omega),λh=>th fv ?_⟩
 rcases h with h|h
 ·have:=zrb fw h;omega
 ·have:=zrb fu h;omega
def dK{u v:V}(hu:dot n u=0)(hv:dot n v=0)(h:T n u v=0):cross u v=zero:=by
 have hp:=bu hn;have e1:dot n n*(cross u v).x=T n u v*n.x:=by simp only[T,dot,cross] at *;grind
 have e2:dot n n*(cross u v).y=T n u v*n.y:=by simp only[T,dot,cross] at *;grind
 have e3:dot n n*(cross u v).z=T n u v*n.z:=by simp only[T,dot,cross] at *;grind
 rw[h,zYc] at e1 e2 e3;exact V.ext' (bo hp e1) (bo hp e2) (bo hp e3)
end plane
def Jk{u v:V}(h:cross u v=zero)(f:V):smul (dot f u) v=smul (dot f v) u:=by
 have h1:(cross u v).x=0:=by rw[h];rfl
 have h2:(cross u v).y=0:=by rw[h];rfl
 have h3:(cross u v).z=0:=by rw[h];rfl
 simp only[cross] at h1 h2 h3;apply V.ext'<;>simp only[smul,dot]<;>grind
def FV{u v:V}(h:cross u v=zero)(hu:u≠zero)(hd:dot v u=dot u u):v=u:=by
 have p:=Jk h u;have e:dot u v=dot v u:=by simp only[dot];grind
 have hp:=bu hu;rw[e,hd] at p;have p1:dot u u*(v.x-u.x)=0:=by have:=congrArg V.x p;simp only[smul] at this;grind
 have p2:dot u u*(v.y-u.y)=0:=by have:=congrArg V.y p;simp only[smul] at this;grind
 have p3:dot u u*(v.z-u.z)=0:=by have:=congrArg V.z p;simp only[smul] at this;grind
 have:=bo hp p1;have:=bo hp p2;have:=bo hp p3;exact V.ext' (by omega) (by omega) (by omega)
theorem ik{α:Type}(φ:α->Int):∀ l:List α,∃ N:Int,0<N/\∀ x∈l,-N<φ x/\φ x<N
 | []=>⟨1,by decide,by simp⟩
 | a::l=>by
  obtain⟨N,h0,h⟩:=ik φ l;refine⟨N+(φ a).natAbs+1,by omega,λx hx=>?_⟩
  rcases zva.1 hx with rfl|hx
  ·omega
  ·have:=h x hx;omega
def wy(P:Nat->V)(a x:Nat):V:=sub (P x) (P a)
structure Side(n:V)(P:Nat->V)(on:List Nat)(a b:Nat):Prop where
 mem:b∈on
 ne:b≠a
 all:∀ x∈on,0<=T n (wy P a b) (wy P a x)/\(T n (wy P a b) (wy P a x)=0->0<=dot (wy P a x) (wy P a b)/\dot (wy P a x) (wy P a b)<=dot (wy P a b) (wy P a b))
def lK(P:Nat->V)(on:List Nat)(a:Nat):Prop:=∃ f:V,∀ x∈on,x≠a->0<dot f (wy P a x)
structure Flat(n:V)(P:Nat->V)(on:List Nat):Prop where
 nz:n≠zero
 pl:∀ x∈on,∀ y∈on,dot n (wy P x y)=0
 inj:∀ x∈on,∀ y∈on,P x=P y->x=y
section poly
variable{n:V}{P:Nat->V}{on:List Nat}
def qH(h:Flat n P on){a b:Nat}(ha:a∈on)(hb:b∈on)(hab:b≠a):wy P a b≠zero:=λe=>by
 apply hab;apply h.inj b hb a ha;have e1:=congrArg V.x e;have e2:=congrArg V.y e;have e3:=congrArg V.z e;simp only[wy,sub,zero] at e1 e2 e3;exact V.ext' (by omega) (by omega) (by omega)
def GQ{a b c:Nat}(h:wy P a b=wy P a c):P b=P c:=by
 have e1:=congrArg V.x h;have e2:=congrArg V.y h;have e3:=congrArg V.z h;simp only[wy,sub] at e1 e2 e3;exact V.ext' (by omega) (by omega) (by omega)
def Side.unique(h:Flat n P on){a b c:Nat}(ha:a∈on)(hb:Side n P on a b)(hc:Side n P on a c):b=c:=by
 have h1:=hb.all c hc.mem;have h2:=hc.all b hb.mem;have e:T n (wy P a c) (wy P a b)=- T n (wy P a b) (wy P a c):=by simp only[T,dot,cross];grind
 rw[e] at h2;have t0:T n (wy P a b) (wy P a c)=0:=by omega
 have k1:=h1.2 t0;have k2:=h2.2 (by omega)
 have es:dot (wy P a b) (wy P a c)=dot (wy P a c) (wy P a b):=by simp only[dot];grind
 have hx:=dK h.nz (h.pl a ha b hb.mem) (h.pl a ha c hc.mem) t0;have hq:dot (wy P a b) (wy P a b)*dot (wy P a c) (wy P a c)=dot (wy P a c) (wy P a b)*dot (wy P a c) (wy P a b):=by
  have p:=Jk hx (wy P a b);have p1:=congrArg V.x p;have p2:=congrArg V.y p;have p3:=congrArg V.z p;simp only[smul] at p1 p2 p3;simp only[dot] at *;grind
 have hbp:=bu (qH h ha hb.mem hb.ne);have hcp:=bu (qH h ha hc.mem hc.ne);have hle:dot (wy P a c) (wy P a b)=dot (wy P a b) (wy P a b):=by
  generalize dot (wy P a b) (wy P a b)=B at *;generalize dot (wy P a c) (wy P a c)=C at *;generalize dot (wy P a c) (wy P a b)=X at *;rw[es] at k2;rcases znb k1.2 with hlt|heq
  ·exfalso;have:X*X<B*C:=by
    have a1:X*X<=X*C:=zyb k2.2 k1.1;have a2:X*C<B*C:=Int.mul_lt_mul_of_pos_right hlt hcp;omega
   omega
  ·exact heq
 have:=FV hx (qH h ha hb.mem hb.ne) hle;exact(h.inj c hc.mem b hb.mem (GQ this)).symm
def Side.ext(h:Flat n P on){a b:Nat}(ha:a∈on)(hb:Side n P on a b):lK P on b:=by
 obtain⟨N,hN0,hN⟩:=ik (λx=>dot (wy P b a) (wy P b x)) on;refine⟨add (smul N (cross n (wy P a b))) (wy P b a),λx hx hxb=>?_⟩;have e:dot (add (smul N (cross n (wy P a b))) (wy P b a)) (wy P b x)=N*T n (wy P a b) (wy P a x)+dot (wy P b a) (wy P b x):=by
  simp only[T,dot,cross,add,smul,wy,sub];grind
 rw[e];obtain⟨h1,h2⟩:=hb.all x hx;have h3:=hN x hx;rcases znb h1 with hlt|heq
 ·have:N*1<=N*T n (wy P a b) (wy P a x):=zyb (by omega) (by omega)
  omega
 ·rw[<-heq,zSc,zsc];have h4:=h2 heq.symm;have e2:dot (wy P b a) (wy P b x)=dot (wy P a b) (wy P a b)-dot (wy P a x) (wy P a b):=by simp only[dot,wy,sub];grind
  rw[e2];rcases znb h4.2 with h5|h5
  ·omega
  ·exfalso;have hx0:=dK h.nz (h.pl a ha b hb.mem) (h.pl a ha x hx) heq.symm;exact hxb (h.inj x hx b hb.mem (GQ (FV hx0 (qH h ha hb.mem hb.ne) h5)))
def lK.ray(h:Flat n P on){a x y:Nat}(ha:a∈on)(hx:x∈on)(hy:y∈on)(ea:lK P on a)(ex:lK P on x)(ey:lK P on y)(hxa:x≠a)(hya:y≠a)(ht:T n (wy P a x) (wy P a y)=0):x=y:=by
 by_cases hxy:x=y
 ·exact hxy
 exfalso;obtain⟨f,hf⟩:=ea;obtain⟨g,hg⟩:=ex;obtain⟨k,hk⟩:=ey;have c:=dK h.nz (h.pl a ha x hx) (h.pl a ha y hy) ht;have p:=Jk c f;have fx:=hf x hx hxa;have fy:=hf y hy hya;have g1:=hg a ha (Ne.symm hxa);have g2:=hg y hy (Ne.symm hxy);have k1:=hk a ha (Ne.symm hya);have k2:=hk x hx hxy;have q1:dot f (wy P a x)*dot g (wy P a y)=dot f (wy P a y)*dot g (wy P a x):=by
  have p1:=congrArg V.x p;have p2:=congrArg V.y p;have p3:=congrArg V.z p;simp only[smul] at p1 p2 p3;generalize dot f (wy P a x)=A at *;generalize dot f (wy P a y)=B at *;simp only[dot];grind
 have q2:dot f (wy P a x)*dot k (wy P a y)=dot f (wy P a y)*dot k (wy P a x):=by
  have p1:=congrArg V.x p;have p2:=congrArg V.y p;have p3:=congrArg V.z p;simp only[smul] at p1 p2 p3;generalize dot f (wy P a x)=A at *;generalize dot f (wy P a y)=B at *;simp only[dot];grind
 have eg1:dot g (wy P x a)=- dot g (wy P a x):=by simp only[dot,wy,sub];grind
 have eg2:dot g (wy P x y)=dot g (wy P a y)-dot g (wy P a x):=by simp only[dot,wy,sub];grind
 have ek1:dot k (wy P y a)=- dot k (wy P a y):=by simp only[dot,wy,sub];grind
 have ek2:dot k (wy P y x)=dot k (wy P a x)-dot k (wy P a y):=by simp only[dot,wy,sub];grind
 rw[eg1] at g1;rw[eg2] at g2;rw[ek1] at k1;rw[ek2] at k2;generalize dot f (wy P a x)=A at *;generalize dot f (wy P a y)=B at *;generalize dot g (wy P a x)=gx at *;generalize dot g (wy P a y)=gy at *;generalize dot k (wy P a x)=kx at *;generalize dot k (wy P a y)=ky at *;have r1:B<A:=by
  rcases zlc B A with hh|hh
  ·exact hh
  ·exfalso;have s1:B*gx<=A*gx:=by
    have:=zZc hh (show 0<=-gx by omega)
    simp only[Int.mul_neg] at this;omega
   have s2:A*gx<A*gy:=zGc (by omega) fx
   omega
 have s3:A*ky<B*ky:=by
  have s4:B*ky<B*kx:=zGc (by omega) fy
  have s5:A*ky=B*kx:=q2;have s6:A*ky<=B*ky:=by
   have:=zZc (zMa r1) (show 0<=-ky by omega)
   simp only[Int.mul_neg] at this;omega
  omega
 have s4:B*ky<B*kx:=zGc (by omega) fy
 omega
def N0(a x y:Nat):T n (wy P x y) (wy P x a)=T n (wy P a x) (wy P a y):=by
 simp only[T,dot,cross,wy,sub];grind
def Kn(u v:V):T n v u=- T n u v:=by simp only[T,dot,cross];grind
def Side.after(h:Flat n P on){a x y:Nat}(ha:a∈on)(hx:x∈on)(ea:lK P on a)(ex:lK P on x)(hxa:x≠a)(hs:Side n P on x y)(hya:y≠a):0<T n (wy P a x) (wy P a y):=by
 have h1:=(hs.all a ha).1;rw[N0] at h1;rcases znb h1 with h2|h2
 ·exact h2
 ·exact absurd (lK.ray h ha hx hs.mem ea ex (hs.ext h hx) hxa hya h2.symm) hs.ne.symm
def Ir(h:Flat n P on){a x y z:Nat}(ha:a∈on)(hx:x∈on)(hz:z∈on)(hs:Side n P on x y)(ez:lK P on z)(h1:0<T n (wy P a x) (wy P a z))(h2:0<T n (wy P a z) (wy P a y)):False:=by
 obtain⟨f,hf⟩:=ez;have hza:a≠z:=λe=>by subst e;simp[T,dot,cross,wy,sub] at h2
 have hzx:x≠z:=λe=>by
  subst e;have:T n (wy P a x) (wy P a x)=0:=by simp only[T,dot,cross];grind
  omega
 have hzy:y≠z:=λe=>by
  subst e;have:T n (wy P a y) (wy P a y)=0:=by simp only[T,dot,cross];grind
  omega
 have f1:=hf a ha hza;have f2:=hf x hx hzx;have f3:=hf y hs.mem hzy;have h3:=(hs.all z hz).1;have e:dot n n*(T n (wy P x y) (wy P x z)*dot f (wy P z a)+T n (wy P a z) (wy P a y)*dot f (wy P z x)+T n (wy P a x) (wy P a z)*dot f (wy P z y))=0:=by
  have p1:=h.pl z hz a ha;have p2:=h.pl z hz x hx;have p3:=h.pl z hz y hs.mem;have e1:T n (wy P x y) (wy P x z)=T n (wy P z x) (wy P z y):=N0 z x y;have e2:T n (wy P a z) (wy P a y)=T n (wy P z y) (wy P z a):=by simp only[T,dot,cross,wy,sub];grind
  have e3:T n (wy P a x) (wy P a z)=T n (wy P z a) (wy P z x):=by simp only[T,dot,cross,wy,sub];grind
  rw[e1,e2,e3];have pk:=Cg h.nz f p1 p2 p3;rw[zkc (dot f (wy P z a)),zkc (dot f (wy P z x)),zkc (dot f (wy P z y))] at pk;rw[show T n (wy P z x) (wy P z y)*dot f (wy P z a)+T n (wy P z y) (wy P z a)*dot f (wy P z x)+T n (wy P z a) (wy P z x)*dot f (wy P z y)=0 from pk,zSc]
 have e':=bo (bu h.nz) e;have m1:=zRb h3 (zMa f1);have m2:=zrb h2 f2;have m3:=zrb h1 f3;omega
theorem uH{α:Type}{p q:α->Bool}:∀ {l:List α},(∀ x∈l,p x=true->q x=true)->(∃ y∈l,q y=true/\p y=false)->l.countP p<l.countP q
 | [],_,h=>by obtain⟨y,hy,_⟩:=h;cases hy
 | a::l,h,hy=>by
  have hl:l.countP p<=l.countP q:=by
   have h':∀ x∈l,p x=true->q x=true:=λx hx=>h x (zia _ hx);exact List.countP_mono_left h'
  have ha:=h a zoa;rw[List.countP_cons,List.countP_cons];obtain⟨y,hm,hq,hp⟩:=hy;rcases zva.1 hm with rfl|hm
  ·simp[hq,hp];omega
  ·have:=uH (l:=l) (λx hx=>h x (zia _ hx)) ⟨y,hm,hq,hp⟩;cases hpa:p a
   ·simp;omega
   ·simp[ha hpa];omega
inductive Chain(S:Nat->Nat->Prop)(a₀:Nat):Nat->List Nat->Prop
 | done {c:Nat}:S c a₀->Chain S a₀ c [c]
 | step {c y:Nat} {l:List Nat}:S c y->y≠a₀->Chain S a₀ y l->Chain S a₀ c (c::l)
def walk(h:Flat n P on){a:Nat}(ha:a∈on)(ea:lK P on a)(hnext:∀ c∈on,lK P on c->∃ b,Side n P on c b){c:Nat}(hc:c∈on)(ec:lK P on c)(hca:c≠a) :
  ∃ l,Chain (Side n P on) a c l/\(∀ z∈l,z∈on/\lK P on z/\z≠a/\(z=c\/0<T n (wy P a c) (wy P a z)))/\(∀ z∈on,lK P on z->z≠a->0<T n (wy P a c) (wy P a z)->z∈l) ∧
   l.Pairwise (λx y=>0<T n (wy P a x) (wy P a y)):=by
 generalize hm:on.countP (λz=>decide (0<T n (wy P a c) (wy P a z)))=m
 induction m using Nat.strongRecOn generalizing c with
 | _ m ih=>
  obtain⟨y,hy⟩:=hnext c hc ec;obtain⟨f,hf⟩:=ea;by_cases hya:y=a
  ·subst hya;refine⟨[c],.done hy,λz hz=>?_,λz hz ez hza ht=>?_,by simp⟩
   ·rw[zHa] at hz;subst hz;exact⟨hc,ec,hca,.inl rfl⟩
   ·have h1:=(hy.all z hz).1;have e:T n (wy P c y) (wy P c z)=- T n (wy P y c) (wy P y z):=by simp only[T,dot,cross,wy,sub];grind
    omega
  ·have hxy:=Side.after h ha hc ⟨f,hf⟩ ec hca hy hya;have ey:=hy.ext h hc;have tr:∀ z∈on,0<T n (wy P a y) (wy P a z)->0<T n (wy P a c) (wy P a z):=λz hz ht=>by
    have hza:z≠a:=λe=>by
     subst e;have:T n (wy P z y) (wy P z z)=0:=by simp[T,dot,cross,wy,sub]
     omega
    exact(Bk h.nz (h.pl a ha c hc) (h.pl a ha y hy.mem) (h.pl a ha z hz) (hf c hc hca) (hf y hy.mem hya) (hf z hz hza) (zMa hxy) (zMa ht)).2 (.inl hxy)
   have self0:T n (wy P a y) (wy P a y)=0:=by simp only[T,dot,cross];grind
   obtain⟨l,k1,k2,k3,k4⟩:=ih _ (by
    rw[<-hm];refine uH (λz hz ht=>by simp only[decide_eq_true_eq] at ht ⊢;exact tr z hz ht) ⟨y,hy.mem,by simpa using hxy,by simp[self0]⟩) hy.mem ey hya rfl
   refine⟨c::l,.step hy hya k1,λz hz=>?_,λz hz ez hza ht=>?_,zCa.2 ⟨λz hz=>?_,k4⟩⟩
   ·rcases zva.1 hz with rfl|hz
    ·exact⟨hc,ec,hca,.inl rfl⟩
    ·obtain⟨q1,q2,q3,q4⟩:=k2 z hz;refine⟨q1,q2,q3,.inr ?_⟩;rcases q4 with rfl|q4
     ·exact hxy
     ·exact tr z q1 q4
   ·rcases zGb (T n (wy P a y) (wy P a z)) 0 with hlt|heq|hgt
    ·have e:=Kn (n:=n) (wy P a y) (wy P a z);exact(Ir h ha hc hz hy ez ht (by omega)).elim
    ·have:=lK.ray h ha hy.mem hz ⟨f,hf⟩ ey ez hya hza heq;subst this;have:y∈l:=by cases k1<;>exact zoa
     exact zia _ this
    ·exact zia _ (k3 z hz ez hza hgt)
   ·obtain⟨q1,q2,q3,q4⟩:=k2 z hz;rcases q4 with rfl|q4
    ·exact hxy
    ·exact tr z q1 q4
def oX(n:V)(P:Nat->V)(a b k:Nat):Bool:=
 decide (T n (wy P a b) (wy P a k)<0)||(decide (T n (wy P a b) (wy P a k)=0)&&decide (dot (wy P a b) (wy P a b)<dot (wy P a k) (wy P a k)))
def cQ(n:V)(P:Nat->V)(a:Nat)(best:Option Nat)(k:Nat):Option Nat:=
 if k=a then best else match best with
  | none=>some k
  | some b=>if oX n P a b k then some k else some b
theorem qo(h:Flat n P on){a:Nat}(ha:a∈on)(ea:lK P on a):∀ (l pre:List Nat) (best:Option Nat),(∀ x∈pre,x∈on)->(∀ x∈l,x∈on) ->
  (match best with
   | none=>∀ x∈pre,x=a
   | some b=>b∈pre/\b≠a/\∀ x∈pre,x≠a->0<T n (wy P a b) (wy P a x)\/(T n (wy P a b) (wy P a x)=0/\dot (wy P a x) (wy P a x)<=dot (wy P a b) (wy P a b))) ->
  match l.foldl (cQ n P a) best with
   | none=>∀ x∈pre++l,x=a
   | some b=>b∈pre++l/\b≠a/\∀ x∈pre++l,x≠a->0<T n (wy P a b) (wy P a x)\/(T n (wy P a b) (wy P a x)=0/\dot (wy P a x) (wy P a x)<=dot (wy P a b) (wy P a b))
 | [],pre,best,_,_,hb=>by simpa using hb
 | k::l,pre,best,h1,h2,hb=>by
  rw[zfc];have hk:k∈on:=h2 k zoa;rw[show pre++k::l=(pre++[k])++l by simp]
  refine qo h ha ea l (pre++[k]) _ (λx hx=>?_) (λx hx=>h2 x (zia _ hx)) ?_
  ·rcases List.mem_append.1 hx with hx|hx
   ·exact h1 x hx
   ·rw[zHa] at hx;exact hx ▸ hk
  unfold cQ;by_cases hka:k=a
  ·rw[if_pos hka];subst hka;cases best with
   | none=>
    simp only at hb ⊢;intro x hx;rcases List.mem_append.1 hx with hx|hx
    ·exact hb x hx
    ·exact zHa.1 hx
   | some b=>
    simp only at hb ⊢;refine⟨List.mem_append_left _ hb.1,hb.2.1,λx hx hxa=>?_⟩;rcases List.mem_append.1 hx with hx|hx
    ·exact hb.2.2 x hx hxa
    ·exact absurd (zHa.1 hx) hxa
  ·rw[if_neg hka];cases best with
   | none=>
    simp only at hb ⊢;refine⟨zQa _ (zHa.2 rfl),hka,λx hx hxa=>?_⟩;rcases List.mem_append.1 hx with hx|hx
    ·exact absurd (hb x hx) hxa
    ·rw[zHa.1 hx];right;exact⟨by simp only[T,dot,cross];grind,zmd _⟩
   | some b=>
    simp only at hb ⊢;obtain⟨b1,b2,b3⟩:=hb;have hbon:=h1 b b1;obtain⟨f,hf⟩:=ea;by_cases hbt:oX n P a b k=true
    ·rw[if_pos hbt];simp only;refine⟨zQa _ (zHa.2 rfl),hka,λx hx hxa=>?_⟩;have sw:=Kn (n:=n) (wy P a b) (wy P a k);simp only[oX,zCb,zaa,decide_eq_true_eq] at hbt;rcases List.mem_append.1 hx with hx|hx
     ·have hxon:=h1 x hx;have c:=b3 x hx hxa;have nn1:0<=T n (wy P a k) (wy P a b):=by omega
      have nn2:0<=T n (wy P a b) (wy P a x):=by omega
      obtain⟨t1,t2⟩:=Bk h.nz (h.pl a ha k hk) (h.pl a ha b hbon) (h.pl a ha x hxon) (hf k hk hka) (hf b hbon b2) (hf x hxon hxa) nn1 nn2;rcases znb t1 with hlt|heq
      ·exact .inl hlt
      ·right;refine⟨heq.symm,?_⟩;have:¬ (0<T n (wy P a k) (wy P a b)\/0<T n (wy P a b) (wy P a x)):=λhh=>by have:=t2 hh;omega
       omega
     ·rw[zHa.1 hx];right;exact⟨by simp only[T,dot,cross];grind,zmd _⟩
    ·rw[if_neg hbt];simp only;refine⟨List.mem_append_left _ b1,b2,λx hx hxa=>?_⟩;rcases List.mem_append.1 hx with hx|hx
     ·exact b3 x hx hxa
     ·rw[zHa.1 hx];simp only[oX,zCb,zaa,decide_eq_true_eq] at hbt;omega
def vB(h:Flat n P on){a:Nat}(ha:a∈on)(ea:lK P on a)(h2:∃ x∈on,x≠a):∃ b,on.foldl (cQ n P a) none=some b/\Side n P on a b:=by
 have key:=qo h ha ea on [] none (by simp) (λx hx=>hx) (by simp)
 cases hr:on.foldl (cQ n P a) none with
 | none=>
  rw[hr] at key;obtain⟨x,hx,hxa⟩:=h2;exact absurd (key x (by simpa using hx)) hxa
 | some b=>
  rw[hr] at key;simp only[z2b] at key;obtain⟨k1,k2,k3⟩:=key;refine⟨b,rfl,k1,k2,λx hx=>?_⟩;by_cases hxa:x=a
  ·subst hxa;have e:wy P x x=zero:=by simp[wy,sub,zero]
   have:T n (wy P x b) (wy P x x)=0:=by rw[e];simp[T,dot,cross,zero]
   have hp:=qc (wy P x b);have e2:dot (wy P x x) (wy P x b)=0:=by rw[e];simp[dot,zero]
   rw[this,e2];exact⟨zmd _,λ_=>⟨zmd _,hp⟩⟩
  ·have c:=k3 x hx hxa;refine⟨by omega,λt0=>?_⟩
   have c2:dot (wy P a x) (wy P a x)<=dot (wy P a b) (wy P a b):=by omega
   obtain⟨f,hf⟩:=ea;have hx0:=dK h.nz (h.pl a ha b k1) (h.pl a ha x hx) t0;have p:=Jk hx0 f;have fb:=hf b k1 k2;have fx:=hf x hx hxa;have hbp:=bu (qH h ha k1 k2);have q1:dot f (wy P a b)*dot (wy P a x) (wy P a b)=dot f (wy P a x)*dot (wy P a b) (wy P a b):=by
    have p1:=congrArg V.x p;have p2:=congrArg V.y p;have p3:=congrArg V.z p;simp only[smul] at p1 p2 p3;generalize dot f (wy P a b)=A at *;generalize dot f (wy P a x)=B at *;simp only[dot];grind
   have hpos:0<dot (wy P a x) (wy P a b):=th fb (by rw[q1];exact zrb fx hbp)
   refine⟨zMa hpos,?_⟩;have q2:dot (wy P a b) (wy P a b)*dot (wy P a x) (wy P a x)=dot (wy P a x) (wy P a b)*dot (wy P a x) (wy P a b):=by
    have p:=Jk hx0 (wy P a b);have p1:=congrArg V.x p;have p2:=congrArg V.y p;have p3:=congrArg V.z p;simp only[smul] at p1 p2 p3;simp only[dot] at *;grind
   generalize dot (wy P a b) (wy P a b)=B at *;generalize dot (wy P a x) (wy P a x)=X at *;generalize dot (wy P a x) (wy P a b)=D at *;rcases zlc B D with hlt|hle
   ·exfalso;have a1:B*X<=B*B:=zyb c2 (zMa hbp);have a2:B*B<B*D:=zGc hlt hbp;have a3:B*D<D*D:=Int.mul_lt_mul_of_pos_right hlt hpos;omega
   ·exact hle
end poly
open V
def aC(a b:V):Prop:=a.x<b.x\/a.x=b.x/\(a.y<b.y\/a.y=b.y/\a.z<b.z)
def C2{P:Nat->V}{on:List Nat}{a:Nat}(h:∀ x∈on,x≠a->aC (P a) (P x)):lK P on a:=by
 obtain⟨N1,p1,b1⟩:=ik (λx=>(wy P a x).y) on;obtain⟨N2,p2,b2⟩:=ik (λx=>(wy P a x).z) on;refine⟨⟨(N1+N2)*(N1+N2)+(N1+N2),N1+N2,1⟩,λx hx hxa=>?_⟩;have c1:=b1 x hx;have c2:=b2 x hx;have hl:=h x hx hxa;simp only[wy,sub,aC,dot] at *;generalize hX:(P x).x-(P a).x=X at *;generalize hY:(P x).y-(P a).y=Y at *;generalize hZ:(P x).z-(P a).z=Z at *;generalize hN:N1+N2=N;have hN0:0<N:=by omega
 have hY1:-N+1<=Y:=by omega
 have hY2:Y<=N-1:=by omega
 have hZ1:-N+1<=Z:=by omega
 have m1:N*(-N+1)<=N*Y:=zyb hY1 (zMa hN0);have m2:N*(-N+1)=-(N*N)+N:=by grind
 have hNN:0<N*N:=zrb hN0 hN0;rcases hl with hl|⟨h1,hl|⟨h2,hl⟩⟩
 ·have hX1:1<=X:=by omega
  have m3:(N*N+N)*1<=(N*N+N)*X:=zyb hX1 (by omega)
  omega
 ·have hX0:X=0:=by omega
  have hY3:1<=Y:=by omega
  have m3:N*1<=N*Y:=zyb hY3 (by omega)
  subst hX0;simp only[zSc];omega
 ·have hX0:X=0:=by omega
  have hY0:Y=0:=by omega
  subst hX0;subst hY0;simp only[zSc];omega
section poly
variable{n:V}{P:Nat->V}{on:List Nat}
def Chain.head{S:Nat->Nat->Prop}{a c:Nat}{l:List Nat}(h:Chain S a c l):∃ l',l=c::l':=by
 cases h<;>exact⟨_,rfl⟩
theorem Chain.pairs{S:Nat->Nat->Prop}{a:Nat}:∀ {c:Nat} {l:List Nat},Chain S a c l->∀ i x,l[i]?=some x->∃ y,(l++[a])[i+1]?=some y/\S x y
 | c,_,.done h,i,x,hx=>by
  cases i with
  | zero=>simp at hx;subst hx;exact⟨a,by simp,h⟩
  | succ i=>simp at hx
 | c,_,.step (y:=y) (l:=l) h hne k,i,x,hx=>by
  cases i with
  | zero=>
   simp at hx;subst hx;obtain⟨l',rfl⟩:=k.head;exact⟨y,by simp,h⟩
  | succ i=>
   obtain⟨z,h1,h2⟩:=Chain.pairs k i x (by simpa using hx)
   exact⟨z,by simpa using h1,h2⟩
def AL(h:Flat n P on){a:Nat}(ha:a∈on)(ea:lK P on a)(h3:∀ c∈on,∃ x∈on,x≠c) :
  ∃ l,Chain (Side n P on) a a l/\l.Nodup/\(∀ z∈l,z∈on/\lK P on z)/\∀ z∈on,lK P on z->z∈l:=by
 have hnext:∀ c∈on,lK P on c->∃ b,Side n P on c b:=λc hc ec=>by
  obtain⟨b,_,hb⟩:=vB h hc ec (h3 c hc);exact⟨b,hb⟩
 obtain⟨c,hs⟩:=hnext a ha ea;have ec:=hs.ext h ha;obtain⟨l,k1,k2,k3,k4⟩:=walk h ha ea hnext hs.mem ec hs.ne;refine⟨a::l,.step hs hs.ne k1,List.nodup_cons.2 ⟨λhm=>(k2 a hm).2.2.1 rfl,?_⟩,λz hz=>?_,λz hz ez=>?_⟩
 ·refine List.Pairwise.imp (λ{x y} hxy e=>?_) k4;subst e;have:T n (wy P a x) (wy P a x)=0:=by simp only[T,dot,cross];grind
  omega
 ·rcases zva.1 hz with rfl|hz
  ·exact⟨ha,ea⟩
  ·exact⟨(k2 z hz).1,(k2 z hz).2.1⟩
 ·by_cases hza:z=a
  ·subst hza;exact zoa
  ·refine zia _ ?_;have h0:=(hs.all z hz).1;rcases znb h0 with hp|he
   ·exact k3 z hz ez hza hp
   ·have:=lK.ray h ha hs.mem hz ea ec ez hs.ne hza he.symm;subst this;obtain⟨l',rfl⟩:=k1.head;exact zoa
end poly
def sg(x:Int):Int:=if x<0 then -1 else if 0<x then 1 else 0
def tJ(a b:Int):sg a*sg b=sg (a*b):=by
 rcases zGb a 0 with h|h|h<;>rcases zGb b 0 with k|k|k
 ·have:=zYb h k;simp[sg,h,k,this,z6b.2 (zMa this)]
 ·subst k;simp[sg]
 ·have:=Int.mul_neg_of_neg_of_pos h k;simp[sg,h,k,this,z6b.2 (zMa k)]
 ·subst h;simp[sg]
 ·subst h;simp[sg]
 ·subst h;simp[sg]
 ·have:=zMb h k;simp[sg,h,k,this,z6b.2 (zMa h)]
 ·subst k;simp[sg]
 ·have:=zrb h k;simp[sg,h,k,this,z6b.2 (zMa h),z6b.2 (zMa k),z6b.2 (zMa this)]
def fW{x:Int}(h:0<x):sg x=1:=by simp[sg,h,z6b.2 (zMa h)]
def xr{x:Int}(h:x<0):sg x=-1:=by simp[sg,h]
def u9(n c:V):Int:=if n.x≠0 then sg n.x*sg c.x else if n.y≠0 then sg n.y*sg c.y else if n.z≠0 then sg n.z*sg c.z else 0
def tK{a b p:Int}(hp:0<p){q:Int}(hq:0<q)(h:a*p=q*b):sg a=sg b:=by
 have h1:sg (a*p)=sg a:=by rw[<-tJ,fW hp];simp
 have h2:sg (q*b)=sg b:=by rw[<-tJ,fW hq];simp
 rw[<-h1,<-h2,h]
def BU{n c:V}(hn:n≠zero)(h:cross n c=zero):u9 n c=sg (dot n c):=by
 have h1:=congrArg V.x h;have h2:=congrArg V.y h;have h3:=congrArg V.z h;simp only[cross,zero] at h1 h2 h3;have hp:=bu hn;have e1:n.x*c.x*dot n n=n.x*n.x*dot n c:=by simp only[dot];grind
 have e2:n.y*c.y*dot n n=n.y*n.y*dot n c:=by simp only[dot];grind
 have e3:n.z*c.z*dot n n=n.z*n.z*dot n c:=by simp only[dot];grind
 unfold u9;split
 ·rename_i k;rw[tJ];exact tK hp (A3 k) e1
 ·split
  ·rename_i k;rw[tJ];exact tK hp (A3 k) e2
  ·split
   ·rename_i k;rw[tJ];exact tK hp (A3 k) e3
   ·rename_i k1 k2 k3;exact absurd (V.ext' (by simpa [zero] using k1) (by simpa [zero] using k2) (by simpa [zero] using k3)) hn
def jy{n u v:V}(hu:dot n u=0)(hv:dot n v=0):cross n (cross u v)=zero:=by
 simp only[dot] at hu hv;apply V.ext'<;>simp only[cross,zero]<;>grind
open V
def bq(P:Nat->V)(N:Nat)(n:V)(d:Int):List Nat:=(List.range N).filter λk=>decide (dot n (P k)=d)
def zY(P:Nat->V)(N:Nat)(n:V)(d:Int):Prop:=(∀ k,k<N->dot n (P k)<=d)/\∃ k,k<N/\dot n (P k)<d
def eh(P:Nat->V)(i j k:Nat):V:=cross (wy P i j) (wy P i k)
def be(v:V):Nat:=Nat.gcd (Nat.gcd v.x.natAbs v.y.natAbs) v.z.natAbs
def aE(v:V):V:=⟨v.x/be v,v.y/be v,v.z/be v⟩
structure IsF(P:Nat->V)(N:Nat)(n:V)(d:Int):Prop where
 ex:∃ i j k,i<j/\j<k/\k<N/\eh P i j k≠zero/\(n=aE (eh P i j k)\/n=neg (aE (eh P i j k)))/\d=dot n (P i)
 supp:zY P N n d
def g9{v:V}(h:v≠zero):0<be v:=by
 rcases ztb (be v) with e|p
 ·exfalso;unfold be at e;rw[Nat.gcd_eq_zero_iff,Nat.gcd_eq_zero_iff] at e;exact h (V.ext' (by simp[zero];omega) (by simp[zero];omega) (by simp[zero];omega))
 ·exact p
def iA(v:V):v=smul (be v) (aE v):=by
 have d1:(be v:Int) ∣ v.x:=z1a.2 (z2c (zbb _ _) (zbb _ _));have d2:(be v:Int) ∣ v.y:=z1a.2 (z2c (zbb _ _) (zzb _ _));have d3:(be v:Int) ∣ v.z:=z1a.2 (zzb _ _);apply V.ext'
 ·exact(zwd d1).symm
 ·exact(zwd d2).symm
 ·exact(zwd d3).symm
def po(k:Nat)(v:V):be (smul k v)=k*be v:=by
 simp only[be,smul,zLa,zqa];rw[Nat.gcd_mul_left,Nat.gcd_mul_left]
def uW{v:V}(h:v≠zero):be (aE v)=1:=by
 have p:=g9 h;have e:=po (be v) (aE v);rw[<-iA v] at e;exact(Nat.eq_of_mul_eq_mul_left p (by omega)).symm
def yr(v:V):be (neg v)=be v:=by simp[be,neg]
def ti(v:V):aE (neg v)=neg (aE v):=by
 have e:=iA v;unfold aE;rw[yr];have d1:(be v:Int) ∣ v.x:=z1a.2 (z2c (zbb _ _) (zbb _ _));have d2:(be v:Int) ∣ v.y:=z1a.2 (z2c (zbb _ _) (zzb _ _));have d3:(be v:Int) ∣ v.z:=z1a.2 (zzb _ _);simp only[neg,zQc d1,zQc d2,zQc d3]
def rA{v:V}(h:v≠zero):aE v≠zero:=λe=>h (by rw[iA v,e];apply V.ext'<;>simp[smul,zero])
def FY{u v:V}(hu:be u=1)(hv:be v=1){a b:Int}(ha:0<a)(hb:0<b)(h:smul a u=smul b v):u=v:=by
 obtain⟨a,rfl⟩:=zvc (zMa ha);obtain⟨b,rfl⟩:=zvc (zMa hb);have e:=po a u;have e2:=po b v;rw[h,e2,hu,hv] at e;have:a=b:=by omega
 subst this;have h1:=congrArg V.x h;have h2:=congrArg V.y h;have h3:=congrArg V.z h;simp only[smul] at h1 h2 h3;have hne:(a:Int)≠0:=by omega
 exact V.ext' (Int.eq_of_mul_eq_mul_left hne h1) (Int.eq_of_mul_eq_mul_left hne h2) (Int.eq_of_mul_eq_mul_left hne h3)
section
variable{P:Nat->V}{N:Nat}
def IsF.nz{n:V}{d:Int}(h:IsF P N n d):n≠zero/\be n=1:=by
 obtain⟨i,j,k,_,_,_,h1,h2|h2,_⟩:=h.ex
 ·subst h2;exact⟨rA h1,uW h1⟩
 ·subst h2;refine⟨λe=>rA h1 ?_,by rw[yr];exact uW h1⟩
  have e1:=congrArg V.x e;have e2:=congrArg V.y e;have e3:=congrArg V.z e;simp only[neg,zero] at e1 e2 e3;exact V.ext' (by simp only[zero];omega) (by simp only[zero];omega) (by simp only[zero];omega)
def aR{n:V}{d:Int}{k:Nat}:k∈bq P N n d↔k<N/\dot n (P k)=d:=by simp[bq]
def dt(n:V)(i k:Nat):dot n (wy P i k)=dot n (P k)-dot n (P i):=by simp only[dot,wy,sub];grind
def IsF.three{n:V}{d:Int}(h:IsF P N n d):∃ i j k,i<j/\j<k/\k<N/\i∈bq P N n d/\j∈bq P N n d/\k∈bq P N n d/\eh P i j k≠zero:=by
 obtain⟨i,j,k,hij,hjk,hk,h1,h2,h3⟩:=h.ex;have g:=g9 h1;have e:=iA (eh P i j k);have t1:dot (eh P i j k) (wy P i j)=0:=by simp only[eh,dot,cross];grind
 have t2:dot (eh P i j k) (wy P i k)=0:=by simp only[eh,dot,cross];grind
 have key:∀ v:V,dot (eh P i j k) v=0->dot n v=0:=λv hv=>by
  rw[e] at hv;have:(be (eh P i j k):Int)*dot (aE (eh P i j k)) v=0:=by rw[<-hv];simp only[dot,smul];grind
  have h0:=bo (by omega) this
  rcases h2 with h2|h2
  ·rw[h2];exact h0
  ·rw[h2];have:dot (neg (aE (eh P i j k))) v=- dot (aE (eh P i j k)) v:=by simp only[dot,neg];grind
   omega
 have k1:=key _ t1;have k2:=key _ t2;rw[dt] at k1 k2;exact⟨i,j,k,hij,hjk,hk,aR.2 ⟨by omega,by omega⟩,aR.2 ⟨by omega,by omega⟩,aR.2 ⟨hk,by omega⟩,h1⟩
theorem IsF.flat(hl:∀ i j,i<j->j<N->aC (P i) (P j)){n:V}{d:Int}(h:IsF P N n d):Flat n P (bq P N n d):=by
 refine⟨h.nz.1,λx hx y hy=>?_,λx hx y hy e=>?_⟩
 ·have a:=(aR.1 hx).2;have b:=(aR.1 hy).2;rw[dt];omega
 ·have a:=(aR.1 hx).1;have b:=(aR.1 hy).1;rcases zgd x y with c|c|c
  ·have:=hl x y c b;rw[e] at this;simp only[aC] at this;omega
  ·exact c
  ·have:=hl y x c a;rw[e] at this;simp only[aC] at this;omega
def IsF.left(hl:∀ i j,i<j->j<N->aC (P i) (P j)){n:V}{d:Int}(h:IsF P N n d){a b:Nat}(ha:a∈bq P N n d)(hs:Side n P (bq P N n d) a b) :
  ∃ x∈bq P N n d,0<T n (wy P a b) (wy P a x):=by
 obtain⟨i,j,k,hij,hjk,hk,mi,mj,mk,ht⟩:=h.three;have F:=h.flat hl;have key:∀ x∈bq P N n d,0<T n (wy P a b) (wy P a x)\/cross (wy P a b) (wy P a x)=zero:=λx hx=>by
  rcases znb (hs.all x hx).1 with h1|h1
  ·exact .inl h1
  ·exact .inr (dK F.nz (F.pl a ha b hs.mem) (F.pl a ha x hx) h1.symm)
 rcases key i mi with h1|h1
 ·exact⟨i,mi,h1⟩
 rcases key j mj with h2|h2
 ·exact⟨j,mj,h2⟩
 rcases key k mk with h3|h3
 ·exact⟨k,mk,h3⟩
 exfalso;apply ht;have hb:=bu (qH F ha hs.mem hs.ne);have p1:=Jk h1 (wy P a b);have p2:=Jk h2 (wy P a b);have p3:=Jk h3 (wy P a b);have w1:wy P i j=sub (wy P a j) (wy P a i):=by apply V.ext'<;>simp only[wy,sub]<;>omega
 have w2:wy P i k=sub (wy P a k) (wy P a i):=by apply V.ext'<;>simp only[wy,sub]<;>omega
 unfold eh;rw[w1,w2];generalize wy P a b=e at *;generalize wy P a i=u at *;generalize wy P a j=v at *;generalize wy P a k=w at *;generalize dot e u=A at *;generalize dot e v=B at *;generalize dot e w=C at *;generalize dot e e=D at *;have q1:=congrArg V.x p1;have q2:=congrArg V.y p1;have q3:=congrArg V.z p1;have r1:=congrArg V.x p2;have r2:=congrArg V.y p2;have r3:=congrArg V.z p2;have s1:=congrArg V.x p3;have s2:=congrArg V.y p3;have s3:=congrArg V.z p3;simp only[smul] at q1 q2 q3 r1 r2 r3 s1 s2 s3;have hDD:0<D*D:=zrb hb hb;apply V.ext'<;>simp only[cross,sub,zero]<;>refine bo hDD ?_<;>grind
theorem far{n e:V}(he:dot n e=0){w:Nat->V}:∀ l:List Nat,l≠[]->(∀ y∈l,dot n (w y)<0)->∃ y∈l,∀ x∈l,0<=dot e (cross (w y) (w x))
 | [],h,_=>absurd rfl h
 | [y],_,hn=>⟨y,zoa,λx hx=>by
   rw[zHa.1 hx];have:dot e (cross (w y) (w y))=0:=by simp only[dot,cross];grind
   omega⟩
 | z::y'::l,_,hn=>by
  obtain⟨y,hy,hmax⟩:=far he (y'::l) (by simp) (λy hy=>hn y (zia _ hy))
  have self:∀ v:V,dot e (cross v v)=0:=λv=>by simp only[dot,cross];grind
  have sw:∀ u v:V,dot e (cross v u)=- dot e (cross u v):=λu v=>by simp only[dot,cross];grind
  have pl:∀ x y z:V,dot n x*dot e (cross y z)=dot n z*dot e (cross y x)+dot n y*dot e (cross x z):=λx y z=>by
   have:dot n x*dot e (cross y z)-(dot n z*dot e (cross y x)+dot n y*dot e (cross x z))=dot n e*dot x (cross y z):=by simp only[dot,cross];grind
   rw[he] at this;omega
  rcases zlc (dot e (cross (w y) (w z))) 0 with hlt|hge
  ·refine⟨z,zoa,λx hx=>?_⟩;rcases zva.1 hx with rfl|hx
   ·have:=self (w x);omega
   ·have h1:=hmax x hx;have h2:=pl (w y) (w z) (w x);have n1:=hn y (zia _ hy);have n2:=hn z zoa;have n3:=hn x (zia _ hx);have h3:=sw (w y) (w z);have a1:dot n (w x)*dot e (cross (w z) (w y))<=0:=Int.mul_nonpos_of_nonpos_of_nonneg (zMa n3) (by omega)
    have a2:dot n (w z)*dot e (cross (w y) (w x))<=0:=Int.mul_nonpos_of_nonpos_of_nonneg (zMa n2) h1;have a3:0<=(-(dot n (w y)))*dot e (cross (w z) (w x)):=by rw[Int.neg_mul];omega
    exact vC (by omega) a3
  ·refine⟨y,zia _ hy,λx hx=>?_⟩;rcases zva.1 hx with rfl|hx
   ·exact hge
   ·exact hmax x hx
def Ly{p q r:Nat}(hp:p<N)(hq:q<N)(hr:r<N)(h1:p≠q)(h2:p≠r)(h3:q≠r){m:V}(hm:m=eh P p q r)(hle:∀ x,x<N->dot m (wy P p x)<=0)(hlt:∃ x,x<N/\dot m (wy P p x)<0) :
  ∃ n',∃ g:Int,0<g/\m=smul g n'/\IsF P N n' (dot n' (P p)):=by
 have hm0:m≠zero:=λe=>by
  obtain⟨x,_,hx⟩:=hlt;rw[e] at hx;simp[dot,zero] at hx
 have hg:=g9 hm0;have e:=iA m;refine⟨aE m,be m,by omega,e,?_,?_⟩
 ·have perm:∀ i j k,i<j->j<k->k<N->(m=eh P i j k\/m=neg (eh P i j k))->(dot (aE m) (wy P i p)=0)->∃ i j k,i<j/\j<k/\k<N/\eh P i j k≠zero/\(aE m=aE (eh P i j k)\/aE m=neg (aE (eh P i j k)))/\dot (aE m) (P p)=dot (aE m) (P i):=by
   intro i j k hij hjk hk hmm hd;rw[dt] at hd;refine⟨i,j,k,hij,hjk,hk,λe0=>hm0 ?_,?_,by omega⟩
   ·rcases hmm with hmm|hmm
    ·rw[hmm,e0]
    ·rw[hmm,e0];rfl
   ·rcases hmm with hmm|hmm
    ·exact .inl (by rw[hmm])
    ·exact .inr (by rw[hmm,ti])
  have dz:∀ v:V,dot m v=0->dot (aE m) v=0:=λv hv=>by
   have:(be m:Int)*dot (aE m) v=0:=by
    rw[<-hv]
    conv=>rhs;rw[e]
    simp only[dot,smul];grind
   exact bo (by omega) this
  have z1:dot (aE m) (wy P p p)=0:=dz _ (by simp only[dot,wy,sub];grind)
  have z2:dot (aE m) (wy P q p)=0:=dz _ (by rw[hm];simp only[dot,eh,cross,wy,sub];grind)
  have z3:dot (aE m) (wy P r p)=0:=dz _ (by rw[hm];simp only[dot,eh,cross,wy,sub];grind)
  rcases Nat.lt_or_gt_of_ne h1 with a1|a1<;>rcases Nat.lt_or_gt_of_ne h2 with a2|a2<;>rcases Nat.lt_or_gt_of_ne h3 with a3|a3
  ·exact perm p q r a1 a3 hr (.inl hm) z1
  ·exact perm p r q a2 a3 hq (.inr (by rw[hm];apply V.ext'<;>simp only[eh,neg,cross,wy,sub]<;>grind)) z1
  ·omega
  ·exact perm r p q a2 a1 hq (.inl (by rw[hm];apply V.ext'<;>simp only[eh,neg,cross,wy,sub]<;>grind)) z3
  ·exact perm q p r a1 a2 hr (.inr (by rw[hm];apply V.ext'<;>simp only[eh,neg,cross,wy,sub]<;>grind)) z2
  ·omega
  ·exact perm q r p a3 a2 hp (.inl (by rw[hm];apply V.ext'<;>simp only[eh,neg,cross,wy,sub]<;>grind)) z2
  ·exact perm r q p a3 a1 hp (.inr (by rw[hm];apply V.ext'<;>simp only[eh,neg,cross,wy,sub]<;>grind)) z3
 ·have sc:∀ v:V,dot m v=(be m:Int)*dot (aE m) v:=λv=>by
   conv=>lhs;rw[e]
   simp only[dot,smul];grind
  refine⟨λx hx=>?_,?_⟩
  ·have h:=hle x hx;rw[sc,dt] at h;rcases zlc (dot (aE m) (P p)) (dot (aE m) (P x)) with k|k
   ·have:=zrb (a:=(be m:Int)) (b:=dot (aE m) (P x)-dot (aE m) (P p)) (by omega) (by omega)
    omega
   ·exact k
  ·obtain⟨x,hx,h⟩:=hlt;rw[sc,dt] at h;refine⟨x,hx,?_⟩;rcases zlc (dot (aE m) (P x)) (dot (aE m) (P p)) with k|k
   ·exact k
   ·have:=zRb (a:=(be m:Int)) (b:=dot (aE m) (P x)-dot (aE m) (P p)) (by omega) (by omega)
    omega
end
open V
section
variable{P:Nat->V}{N:Nat}
def Ak(hl:∀ i j,i<j->j<N->aC (P i) (P j)){n:V}{d:Int}(h:IsF P N n d){a b:Nat}(ha:a∈bq P N n d)(hs:Side n P (bq P N n d) a b) :
  ∃ n' d',IsF P N n' d'/\a∈bq P N n' d'/\b∈bq P N n' d'/\Side n' P (bq P N n' d') b a:=by
 have F:=h.flat hl;have haN:=(aR.1 ha).1;have had:=(aR.1 ha).2;have hbN:=(aR.1 hs.mem).1;have he:dot n (wy P a b)=0:=F.pl a ha b hs.mem;obtain⟨x1,hx1,hT1⟩:=h.left hl ha hs;have hx1n:dot n (wy P a x1)=0:=F.pl a ha x1 hx1;have hle:∀ x,x<N->dot n (wy P a x)<=0:=λx hx=>by rw[dt];have:=h.supp.1 x hx;omega
 have hnn:=bu F.nz;obtain⟨z,hzN,hz⟩:=h.supp.2;obtain⟨y,hy,hfar⟩:=far (w:=wy P a) he ((List.range N).filter λk=>decide (dot n (wy P a k)<0)) (List.ne_nil_of_mem (a:=z) (by simp[hzN,dt];omega)) (λy hy=>by simpa using(zpc.1 hy).2)
 have hyN:y<N:=by simpa using(zpc.1 hy).1
 have hyn:dot n (wy P a y)<0:=by simpa using(zpc.1 hy).2
 have hfar':∀ x,x<N->dot n (wy P a x)<0->0<=dot (wy P a b) (cross (wy P a y) (wy P a x)):=λx hx hn=>hfar x (by simp[hx,hn])
 have onpl:∀ u v:V,dot n u=0->dot n v=0->∀ y:V,dot n n*dot (cross u v) y=dot n (cross u v)*dot n y:=λu v hu hv y=>by
  have c:=jy hu hv;have c1:=congrArg V.x c;have c2:=congrArg V.y c;have c3:=congrArg V.z c;generalize cross u v=k at *;simp only[cross,zero] at c1 c2 c3;simp only[dot];grind
 have mdot:∀ v:V,dot (cross (wy P a y) (wy P a b)) v=- dot (wy P a b) (cross (wy P a y) v):=λv=>by simp only[dot,cross];grind
 have mdot2:∀ v:V,dot (cross (wy P a y) (wy P a b)) v=dot (cross (wy P a b) v) (wy P a y):=λv=>by simp only[dot,cross];grind
 have mon:∀ x∈bq P N n d,dot n n*dot (cross (wy P a y) (wy P a b)) (wy P a x)=T n (wy P a b) (wy P a x)*dot n (wy P a y):=λx hx=>by
  rw[mdot2];exact onpl _ _ he (F.pl a ha x hx) _
 have mle:∀ x,x<N->dot (cross (wy P a y) (wy P a b)) (wy P a x)<=0:=λx hx=>by
  rcases znb (hle x hx) with k|k
  ·rw[mdot];have:=hfar' x hx k;omega
  ·have hxm:x∈bq P N n d:=aR.2 ⟨hx,by rw[dt] at k;omega⟩
   have e:=mon x hxm;have t:=(hs.all x hxm).1;have:T n (wy P a b) (wy P a x)*dot n (wy P a y)<=0:=Int.mul_nonpos_of_nonneg_of_nonpos t (zMa hyn);rcases zlc 0 (dot (cross (wy P a y) (wy P a b)) (wy P a x)) with q|q
   ·have:=zrb hnn q;omega
   ·exact q
 have mlt:dot (cross (wy P a y) (wy P a b)) (wy P a x1)<0:=by
  have e:=mon x1 hx1;have:T n (wy P a b) (wy P a x1)*dot n (wy P a y)<0:=zMb hT1 hyn;rcases zlc (dot (cross (wy P a y) (wy P a b)) (wy P a x1)) 0 with q|q
  ·exact q
  ·have:=zRb (zMa hnn) q;omega
 have hya:a≠y:=λe=>by subst e;rw[show dot n (wy P a a)=0 by simp only[dot,wy,sub];grind] at hyn;omega
 have hyb:y≠b:=λe=>by subst e;omega
 obtain⟨n',g,hg,hm,hF⟩:=Ly (p:=a) (q:=y) (r:=b) haN hyN hbN hya (Ne.symm hs.ne) hyb rfl mle ⟨x1,(aR.1 hx1).1,mlt⟩;have sc:∀ v:V,dot (cross (wy P a y) (wy P a b)) v=g*dot n' v:=λv=>by
  have:eh P a y b=cross (wy P a y) (wy P a b):=rfl;rw[<-this,hm];simp only[dot,smul];grind
 have hbe:dot n' (wy P a b)=0:=bo hg (by rw[<-sc];simp only[dot,cross];grind)
 have ham:a∈bq P N n' (dot n' (P a)):=aR.2 ⟨haN,rfl⟩;have hbm:b∈bq P N n' (dot n' (P a)):=aR.2 ⟨hbN,by rw[dt] at hbe;omega⟩
 refine⟨n',_,hF,ham,hbm,ham,Ne.symm hs.ne,λx hx=>?_⟩;have hxN:=(aR.1 hx).1;have hx0:dot n' (wy P a x)=0:=by rw[dt];have:=(aR.1 hx).2;omega
 have mx0:dot (cross (wy P a y) (wy P a b)) (wy P a x)=0:=by rw[sc,hx0,zSc]
 have tE:T n' (wy P b a) (wy P b x)=dot n' (cross (wy P a x) (wy P a b)):=by simp only[T,dot,cross,wy,sub];grind
 have dE:dot (wy P b x) (wy P b a)=dot (wy P a b) (wy P a b)-dot (wy P a x) (wy P a b):=by simp only[dot,wy,sub];grind
 have dE2:dot (wy P b a) (wy P b a)=dot (wy P a b) (wy P a b):=by simp only[dot,wy,sub];grind
 rw[tE,dE,dE2];rcases znb (hle x hxN) with k|k
 ·
  have c1:dot (cross (wy P a x) (wy P a b)) (wy P a x1)<0:=by
   have e:=onpl (wy P a b) (wy P a x1) he hx1n (wy P a x);have e2:dot (cross (wy P a x) (wy P a b)) (wy P a x1)=dot (cross (wy P a b) (wy P a x1)) (wy P a x):=by simp only[dot,cross];grind
   have:T n (wy P a b) (wy P a x1)*dot n (wy P a x)<0:=zMb hT1 k;rw[e2];simp only[T] at this;rcases zlc (dot (cross (wy P a b) (wy P a x1)) (wy P a x)) 0 with q|q
   ·exact q
   ·have:=zRb (zMa hnn) q;omega
  have par2:dot n' n'*dot (cross (wy P a x) (wy P a b)) (wy P a x1)=dot n' (cross (wy P a x) (wy P a b))*dot n' (wy P a x1):=by
   have c:=jy hx0 hbe;have c1:=congrArg V.x c;have c2:=congrArg V.y c;have c3:=congrArg V.z c;generalize cross (wy P a x) (wy P a b)=k at *;simp only[cross,zero] at c1 c2 c3;simp only[dot];grind
  have n'n':=bu hF.nz.1;have n1:dot n' (wy P a x1)<0:=by
   rw[sc] at mlt;rcases zlc (dot n' (wy P a x1)) 0 with q|q
   ·exact q
   ·have:=zRb (zMa hg) q;omega
  have l1:dot n' n'*dot (cross (wy P a x) (wy P a b)) (wy P a x1)<0:=zMb n'n' c1;have pos:0<dot n' (cross (wy P a x) (wy P a b)):=by
   rcases zlc 0 (dot n' (cross (wy P a x) (wy P a b))) with q|q
   ·exact q
   ·have:=Int.mul_nonneg_of_nonpos_of_nonpos q (zMa n1);omega
  exact⟨zMa pos,λh0=>by omega⟩
 ·have hxm:x∈bq P N n d:=aR.2 ⟨hxN,by rw[dt] at k;omega⟩
  have e:=mon x hxm;rw[mx0,zSc] at e;have t0:T n (wy P a b) (wy P a x)=0:=by
   rcases zCc.1 e.symm with q|q
   ·exact q
   ·omega
  have s2:=(hs.all x hxm).2 t0;have c0:=dK F.nz he k t0;have:dot n' (cross (wy P a x) (wy P a b))=0:=by
   have e2:dot n' (cross (wy P a x) (wy P a b))=- dot n' (cross (wy P a b) (wy P a x)):=by simp only[dot,cross];grind
   rw[e2,c0];simp[dot,zero]
  rw[this];exact⟨zmd _,λ_=>⟨by omega,by omega⟩⟩
def E4(hl:∀ i j,i<j->j<N->aC (P i) (P j)){n1 n2:V}{d1 d2:Int}(h1:IsF P N n1 d1)(h2:IsF P N n2 d2){a b:Nat}(ha1:a∈bq P N n1 d1)(ha2:a∈bq P N n2 d2)
  (hs1:Side n1 P (bq P N n1 d1) a b) (hs2:Side n2 P (bq P N n2 d2) a b):n1=n2:=by
 have F1:=h1.flat hl;have F2:=h2.flat hl;obtain⟨x1,hx1,ht1⟩:=h1.left hl ha1 hs1;obtain⟨x2,hx2,ht2⟩:=h2.left hl ha2 hs2;have e1:dot n1 (wy P a b)=0:=F1.pl a ha1 b hs1.mem;have e2:dot n2 (wy P a b)=0:=F2.pl a ha2 b hs2.mem;have z1:dot n1 (wy P a x1)=0:=F1.pl a ha1 x1 hx1;have z2:dot n2 (wy P a x2)=0:=F2.pl a ha2 x2 hx2;have l12:dot n1 (wy P a x2)<=0:=by rw[dt];have:=h1.supp.1 x2 (aR.1 hx2).1;have:=(aR.1 ha1).2;omega
 have l21:dot n2 (wy P a x1)<=0:=by rw[dt];have:=h2.supp.1 x1 (aR.1 hx1).1;have:=(aR.1 ha2).2;omega
 have hp1:=bu F1.nz;have hp2:=bu F2.nz;have onpl:∀ (n u v:V),dot n u=0->dot n v=0->smul (dot n n) (cross u v)=smul (dot n (cross u v)) n:=λn u v hu hv=>by
  have c:=jy hu hv;have c1:=congrArg V.x c;have c2:=congrArg V.y c;have c3:=congrArg V.z c;generalize cross u v=k at *;simp only[cross,zero] at c1 c2 c3;apply V.ext'<;>simp only[smul,dot]<;>grind
 have dsm:∀ (k:Int) (u v:V),dot (smul k u) v=k*dot u v:=λk u v=>by simp only[dot,smul];grind
 have k1:dot n1 n1*dot (cross (wy P a b) (wy P a x1)) (wy P a x2)=T n1 (wy P a b) (wy P a x1)*dot n1 (wy P a x2):=by
  have:=congrArg (λv=>dot v (wy P a x2)) (onpl n1 _ _ e1 z1);simp only[dsm] at this;exact this
 have k2:dot n2 n2*dot (cross (wy P a b) (wy P a x2)) (wy P a x1)=T n2 (wy P a b) (wy P a x2)*dot n2 (wy P a x1):=by
  have:=congrArg (λv=>dot v (wy P a x1)) (onpl n2 _ _ e2 z2);simp only[dsm] at this;exact this
 have sw:dot (cross (wy P a b) (wy P a x2)) (wy P a x1)=- dot (cross (wy P a b) (wy P a x1)) (wy P a x2):=by simp only[dot,cross];grind
 have m1:T n1 (wy P a b) (wy P a x1)*dot n1 (wy P a x2)<=0:=Int.mul_nonpos_of_nonneg_of_nonpos (zMa ht1) l12;have m2:T n2 (wy P a b) (wy P a x2)*dot n2 (wy P a x1)<=0:=Int.mul_nonpos_of_nonneg_of_nonpos (zMa ht2) l21;have D0:dot (cross (wy P a b) (wy P a x1)) (wy P a x2)=0:=by
  rw[sw] at k2;generalize dot (cross (wy P a b) (wy P a x1)) (wy P a x2)=D at *;rcases zGb D 0 with q|q|q
  ·have:=zrb (a:=dot n2 n2) (b:=-D) hp2 (by omega);omega
  ·exact q
  ·have:=zrb hp1 q;omega
 have n12:dot n1 (wy P a x2)=0:=by
  rw[D0,zSc] at k1;rcases zCc.1 k1.symm with q|q
  ·omega
  ·exact q
 have hx2m:x2∈bq P N n1 d1:=aR.2 ⟨(aR.1 hx2).1,by rw[dt] at n12;have:=(aR.1 ha1).2;omega⟩
 have c2:=onpl n2 _ _ e2 z2;have c1:=onpl n1 _ _ e1 n12;have t12:=(hs1.all x2 hx2m).1;have ne:T n1 (wy P a b) (wy P a x2)≠0:=λe=>by
  have c0:=dK F1.nz e1 n12 e;have:T n2 (wy P a b) (wy P a x2)=0:=by simp only[T];rw[c0];simp[dot,zero]
  omega
 refine FY h1.nz.2 h2.nz.2 (a:=T n1 (wy P a b) (wy P a x2)*dot n2 n2) (b:=T n2 (wy P a b) (wy P a x2)*dot n1 n1) (zrb (by omega) hp2) (zrb ht2 hp1) ?_
 simp only[T] at *;generalize cross (wy P a b) (wy P a x2)=K at *;have q1:=congrArg V.x c1;have q2:=congrArg V.y c1;have q3:=congrArg V.z c1;have r1:=congrArg V.x c2;have r2:=congrArg V.y c2;have r3:=congrArg V.z c2;generalize dot n1 n1=A at *;generalize dot n2 n2=B at *;generalize dot n1 K=A' at *;generalize dot n2 K=B' at *;simp only[smul] at q1 q2 q3 r1 r2 r3;apply V.ext'<;>simp only[smul]<;>grind
end
open V
section
variable{n:V}{P:Nat->V}{on:List Nat}
def Side.start(h:Flat n P on){a b:Nat}(ha:a∈on)(hs:Side n P on a b):lK P on a:=by
 obtain⟨K,hK,hb⟩:=ik (λx=>dot (wy P a b) (wy P a x)) on;refine⟨add (smul K (cross n (wy P a b))) (wy P a b),λx hx hxa=>?_⟩;have e:dot (add (smul K (cross n (wy P a b))) (wy P a b)) (wy P a x)=K*T n (wy P a b) (wy P a x)+dot (wy P a b) (wy P a x):=by simp only[T,dot,add,smul,cross];grind
 rw[e];obtain⟨h1,h2⟩:=hs.all x hx;have c:=hb x hx;rcases znb h1 with k|k
 ·have:K*1<=K*T n (wy P a b) (wy P a x):=zyb (by omega) (zMa hK)
  omega
 ·rw[<-k,zSc,zsc];obtain⟨q1,q2⟩:=h2 k.symm;have sw:dot (wy P a b) (wy P a x)=dot (wy P a x) (wy P a b):=by simp only[dot];grind
  rw[sw];rcases znb q1 with p|p
  ·exact p
  ·exfalso;have c0:=dK h.nz (h.pl a ha b hs.mem) (h.pl a ha x hx) k.symm;have pr:=Jk c0 (wy P a b);rw[sw,<-p] at pr;have hp:=bu (qH h ha hs.mem hs.ne);apply qH h ha hx hxa;have p1:=congrArg V.x pr;have p2:=congrArg V.y pr;have p3:=congrArg V.z pr;simp only[smul,zYc] at p1 p2 p3;exact V.ext' (bo hp p1) (bo hp p2) (bo hp p3)
end
theorem mb{α:Type}{r:α->α->Prop}(irr:∀ a,¬ r a a)(asy:∀ a b,r a b->¬ r b a):∀ {l l':List α},l.Pairwise r->l'.Pairwise r->(∀ x,x∈l↔x∈l')->l=l'
 | [],[],_,_,_=>rfl
 | [],b::l',_,_,h=>absurd ((h b).2 zoa) (by simp)
 | a::l,[],_,_,h=>absurd ((h a).1 zoa) (by simp)
 | a::l,b::l',h1,h2,h=>by
  obtain⟨k1,k2⟩:=zCa.1 h1;obtain⟨k3,k4⟩:=zCa.1 h2;have e:a=b:=by
   rcases zva.1 ((h a).1 zoa) with e|m
   ·exact e
   ·rcases zva.1 ((h b).2 zoa) with e|m'
    ·exact e.symm
    ·exact absurd (k1 b m') (asy _ _ (k3 a m))
  subst e;rw[mb irr asy k2 k4 λx=>?_];constructor
  ·intro hx;rcases zva.1 ((h x).1 (zia _ hx)) with e|m
   ·subst e;exact absurd (k1 x hx) (irr x)
   ·exact m
  ·intro hx;rcases zva.1 ((h x).2 (zia _ hx)) with e|m
   ·subst e;exact absurd (k3 x hx) (irr x)
   ·exact m
def lU(a:V):¬ aC a a:=by simp only[aC];omega
def vc(a b:V):aC a b->¬ aC b a:=by simp only[aC];omega
def k9{a b c:V}:aC a b->aC b c->aC a c:=by simp only[aC];omega
def pE{a b:V}(h:a≠b):aC a b\/aC b a:=by
 simp only[aC];rcases zGb a.x b.x with h1|h1|h1<;>rcases zGb a.y b.y with h2|h2|h2<;>rcases zGb a.z b.z with h3|h3|h3<;>first|omega|exact absurd (V.ext' h1 h2 h3) h
structure Facets(P:Nat->V)(N:Nat)(L:List (V×Int)):Prop where
 ord:L.Pairwise (λa b=>aC a.1 b.1)
 mem:∀ q,q∈L↔IsF P N q.1 q.2
def Facets.eq{P:Nat->V}{N:Nat}{L L':List (V×Int)}(h:Facets P N L)(h':Facets P N L'):L=L':=
 mb (r:=λa b=>aC a.1 b.1) (λa=>lU a.1) (λa b=>vc a.1 b.1) h.ord h'.ord λx=>(h.mem x).trans (h'.mem x).symm
section
variable{P:Nat->V}{N:Nat}{n:V}{d:Int}
def IsF.d_eq{d':Int}(h:IsF P N n d)(h':IsF P N n d'):d=d':=by
 obtain⟨i,_,_,hij,hjk,hk,_,_,e⟩:=h.ex;obtain⟨i',_,_,hij',hjk',hk',_,_,e'⟩:=h'.ex;have h1:=h.supp.1 i' (by omega)
 have h2:=h'.supp.1 i (by omega)
 omega
def bz(P:Nat->V)(N:Nat)(n:V)(d:Int)(l:List Nat):Prop:=∃ a,(bq P N n d).head?=some a/\Chain (Side n P (bq P N n d)) a a l
def FQ:(bq P N n d).Pairwise (·<·):=List.Pairwise.sublist List.filter_sublist List.pairwise_lt_range
theorem IsF.head(hl:∀ i j,i<j->j<N->aC (P i) (P j))(h:IsF P N n d):∃ a,(bq P N n d).head?=some a/\a∈bq P N n d/\lK P (bq P N n d) a/\(∀ x∈bq P N n d,a<=x)/\∀ c∈bq P N n d,∃ x∈bq P N n d,x≠c:=by
 obtain⟨i,j,k,hij,hjk,hk,mi,mj,mk,ht⟩:=h.three;cases hon:bq P N n d with
 | nil=>rw[hon] at mi;simp at mi
 | cons a l=>
  have ho:(a::l).Pairwise (·<·):=by rw[<-hon];exact FQ
  rw[zCa] at ho;have hle:∀ x∈a::l,a<=x:=λx hx=>by
   rcases zva.1 hx with e|m
   ·omega
   ·exact zhc (ho.1 x m)
  refine⟨a,rfl,zoa,C2 λx hx hxa=>?_,hle,λc hc=>?_⟩
  ·have:=hle x hx;rw[<-hon] at hx;exact hl a x (by omega) (aR.1 hx).1
  ·rw[hon] at mi mj;by_cases e:i=c
   ·exact⟨j,mj,by omega⟩
   ·exact⟨i,mi,e⟩
def IsF.poly(hl:∀ i j,i<j->j<N->aC (P i) (P j))(h:IsF P N n d) :
  ∃ l,bz P N n d l/\l.Nodup/\∀ z,z∈l↔z∈bq P N n d/\lK P (bq P N n d) z:=by
 obtain⟨a,h1,h2,h3,h4,h5⟩:=h.head hl;obtain⟨l,k1,k2,k3,k4⟩:=AL (h.flat hl) h2 h3 h5;exact⟨l,⟨a,h1,k1⟩,k2,λz=>⟨k3 z,λ⟨q1,q2⟩=>k4 z q1 q2⟩⟩
def bz.eq(hl:∀ i j,i<j->j<N->aC (P i) (P j))(h:IsF P N n d){l l':List Nat}(k:bz P N n d l)(k':bz P N n d l'):l=l':=by
 obtain⟨a,h1,h2⟩:=k;obtain⟨a',h1',h2'⟩:=k';rw[h1] at h1';cases h1';obtain⟨b,g1,g2,g3,g4,g5⟩:=h.head hl;rw[h1] at g1;cases g1;have F:=h.flat hl;have key:∀ {c:Nat} {l l':List Nat},c∈bq P N n d->Chain (Side n P (bq P N n d)) a c l->Chain (Side n P (bq P N n d)) a c l'->l=l':=by
  intro c l l' hc k1
  induction k1 generalizing l' with
  | done s=>intro k2;cases k2 with
   | done _=>rfl
   | step s' hne _=>exact absurd (Side.unique F hc s' s) hne
  | step s hne k ih=>intro k2;cases k2 with
   | done s'=>exact absurd (Side.unique F hc s s') hne
   | step s' _ k'=>
    have e:=Side.unique F hc s s';subst e;rw[ih s.mem k']
 exact key g2 h2 h2'
def j8(l:List Nat):List (Nat×Nat):=(List.range l.length).filterMap λk=>if l.getD k 0<l.getD ((k+1)%l.length) 0 then some (l.getD k 0,l.getD ((k+1)%l.length) 0) else none
def bz.next{l:List Nat}(k:bz P N n d l){i:Nat}(hi:i<l.length):Side n P (bq P N n d) (l.getD i 0) (l.getD ((i+1)%l.length) 0):=by
 obtain⟨a,h1,h2⟩:=k;obtain⟨l',e⟩:=h2.head;obtain⟨y,q1,q2⟩:=h2.pairs i (l.getD i 0) (by simp[List.getD,zda hi])
 rcases zna (i+1) l.length with c|c
 ·rw[zeb c] at q1;rw[zJa c];simp only[List.getD,q1,zxb];exact q2
 ·have ei:i+1=l.length:=by omega
  rw[zub (by omega),ei,z8c] at q1
  simp at q1;subst q1;rw[ei,Nat.mod_self];have:l.getD 0 0=a:=by rw[e];rfl
  rw[this];exact q2
def lh{l:List Nat}{a b:Nat}:(a,b)∈j8 l↔a<b/\∃ i,i<l.length/\l.getD i 0=a/\l.getD ((i+1)%l.length) 0=b:=by
 simp only[j8,zxc,zNa];constructor
 ·rintro⟨i,hi,h⟩;split at h
  ·rename_i hlt;simp only[zca,Prod.mk.injEq] at h;exact⟨by omega,i,hi,h.1,h.2⟩
  ·cases h
 ·rintro⟨hlt,i,hi,h1,h2⟩;exact⟨i,hi,by rw[h1,h2,if_pos hlt]⟩
def Ea(P:Nat->V)(N:Nat)(n:V)(d:Int)(a b:Nat):Prop:=a∈bq P N n d/\Side n P (bq P N n d) a b
def bz.dir(hl:∀ i j,i<j->j<N->aC (P i) (P j))(h:IsF P N n d){l:List Nat}(k:bz P N n d l){a b:Nat} :
  (∃ i,i<l.length/\l.getD i 0=a/\l.getD ((i+1)%l.length) 0=b)↔Ea P N n d a b:=by
 obtain⟨l2,p1,p2,p3⟩:=h.poly hl;have:=bz.eq hl h k p1;subst this;constructor
 ·rintro⟨i,hi,h1,h2⟩;have s:=k.next hi
  rw[h1,h2] at s;refine⟨((p3 a).1 ?_).1,s⟩;rw[<-h1];simp[List.getD,zda hi]
 ·rintro⟨ha,s⟩;have hm:=(p3 a).2 ⟨ha,s.start (h.flat hl) ha⟩;obtain⟨i,hi,e⟩:=zRa hm;have ei:l.getD i 0=a:=by simp[List.getD,zda hi,e]
  have s2:=k.next hi
  rw[ei] at s2;exact⟨i,hi,ei,Side.unique (h.flat hl) ha s2 s⟩
def uh{l:List Nat}(h:l.Nodup):(j8 l).Nodup:=by
 unfold j8;refine List.Pairwise.filterMap _ (R:=λi j:Nat=>i≠j/\i<l.length/\j<l.length) (S:=λx y=>x≠y) ?_ ?_
 ·intro i j ⟨hij,hi,hj⟩ x hx y hy e;subst e;simp only[Option.ite_none_right_eq_some,zca] at hx hy;have e1:l.getD i 0=l.getD j 0:=by have:=congrArg Prod.fst (hx.2.trans hy.2.symm);exact this
  simp only[List.getD,zda hi,zda hj,zxb] at e1;rcases Nat.lt_or_gt_of_ne hij with c|c
  ·exact zAb.1 h i j hi hj c e1
  ·exact zAb.1 h j i hj hi c e1.symm
 ·have:=List.nodup_range (n:=l.length);refine zRc ?_ this;intro i j hi hj hne;exact⟨hne,zNa.1 hi,zNa.1 hj⟩
end
def zi(a b:Nat×Nat):Prop:=a.1<b.1\/a.1=b.1/\a.2<b.2
def cE(L:List (V×Int))(poly:V×Int->List Nat):List (Nat×Nat):=L.flatMap λq=>j8 (poly q)
section
variable{P:Nat->V}{N:Nat}
def zN(hl:∀ i j,i<j->j<N->aC (P i) (P j)){L:List (V×Int)}(hL:Facets P N L){poly:V×Int->List Nat}(hp:∀ q∈L,bz P N q.1 q.2 (poly q)){a b:Nat} :
  (a,b)∈cE L poly↔a<b/\∃ n d,IsF P N n d/\Ea P N n d a b:=by
 simp only[cE,zab,lh];constructor
 ·rintro⟨q,hq,hlt,hi⟩;exact⟨hlt,q.1,q.2,(hL.mem q).1 hq,(bz.dir hl ((hL.mem q).1 hq) (hp q hq)).1 hi⟩
 ·rintro⟨hlt,n,d,hF,hd⟩;have hq:=(hL.mem (n,d)).2 hF;exact⟨(n,d),hq,hlt,(bz.dir hl hF (hp _ hq)).2 hd⟩
def uw(hl:∀ i j,i<j->j<N->aC (P i) (P j)){L:List (V×Int)}(hL:Facets P N L){poly:V×Int->List Nat}(hp:∀ q∈L,bz P N q.1 q.2 (poly q)):(cE L poly).Nodup:=by
 unfold cE List.Nodup;rw[List.pairwise_flatMap];refine⟨λq hq=>?_,?_⟩
 ·obtain⟨l,p1,p2,_⟩:=((hL.mem q).1 hq).poly hl;have:=bz.eq hl ((hL.mem q).1 hq) (hp q hq) p1;rw[this];exact uh p2
 ·refine zRc ?_ hL.ord;intro q q' hq hq' hlt x hx y hy e;subst e;obtain⟨a,b⟩:=x;have F:=(hL.mem q).1 hq;have F':=(hL.mem q').1 hq';obtain⟨d1,d2⟩:=(bz.dir hl F (hp q hq)).1 (lh.1 hx).2;obtain⟨d1',d2'⟩:=(bz.dir hl F' (hp q' hq')).1 (lh.1 hy).2;have:=E4 hl F F' d1 d1' d2 d2';rw[this] at hlt;exact lU _ hlt
def Al(hl:∀ i j,i<j->j<N->aC (P i) (P j)){a b:Nat}:(∃ n d,IsF P N n d/\(Ea P N n d a b\/Ea P N n d b a))↔∃ n d,IsF P N n d/\Ea P N n d a b:=by
 constructor
 ·rintro⟨n,d,hF,h|h⟩
  ·exact⟨n,d,hF,h⟩
  ·obtain⟨n',d',h1,h2,h3,h4⟩:=Ak hl hF h.1 h.2;exact⟨n',d',h1,h3,h4⟩
 ·rintro⟨n,d,hF,h⟩;exact⟨n,d,hF,.inl h⟩
end
end Geo
end
noncomputable section
namespace Sy
open Go Go.Proofs Geo
abbrev I(n:Int):D:=.int .i64 n
def ac(v:V):D:=.st [I v.x,I v.y,I v.z]
def inR(n:Int):Prop:=-9223372036854775808<=n/\n<=9223372036854775807
def gP{n:Int}(h:inR n):IntKind.wrap .i64 n=n:=by
 obtain⟨h1,h2⟩:=h;simp only[IntKind.wrap,IntKind.signed,IntKind.bits];first
  | omega
  | (simp;omega)
def aq{a b:Int}(h:inR (a+b)):D.bin .add (I a) (I b)=some (I (a+b)):=by simp only[D.bin,if_true,gP h]
def cO{a b:Int}(h:inR (a-b)):D.bin .sub (I a) (I b)=some (I (a-b)):=by simp only[D.bin,if_true,gP h]
def ca{a b:Int}(h:inR (a*b)):D.bin .mul (I a) (I b)=some (I (a*b)):=by simp only[D.bin,if_true,gP h]
def ah{a b:Int}:D.bin .lss (I a) (I b)=some (.bool (decide (a<b))):=by simp only[D.bin,if_true]
def pZ{a b:Int}:D.bin .leq (I a) (I b)=some (.bool (decide (a<=b))):=by simp only[D.bin,if_true]
def cV{a b:Int}:D.bin .gtr (I a) (I b)=some (.bool (decide (a>b))):=by simp only[D.bin,if_true]
def gh{a b:Int}:D.bin .geq (I a) (I b)=some (.bool (decide (a ≥ b))):=by simp only[D.bin,if_true]
def nL{a b:Int}(h:b≠0):D.bin .rem (I a) (I b)=some (I (a.tmod b)):=by simp only[D.bin,if_true,h,if_false]
def rJ{a b:Int}(h:b≠0)(hr:inR (a.tdiv b)):D.bin .quo (I a) (I b)=some (I (a.tdiv b)):=by simp only[D.bin,if_true,h,if_false,gP hr]
def mK{a:Int}(h:inR (-a)):D.un .neg (I a)=some (I (-a)):=by simp only[D.un,Int.zero_sub,gP h]
def aP{b:Bool}:D.un .not (.bool b)=some (.bool (!b)):=rfl
def ab{b:Bool}:D.truth (.bool b)=some b:=rfl
def B3{a b:Int}:D.max2 (I a) (I b)=some (I (max a b)):=by
 simp only[D.max2];congr 2;split<;>omega
def NM{a b:Int}:D.min2 (I a) (I b)=some (I (min a b)):=by
 simp only[D.min2];congr 2;split<;>omega
def bK{a b:Int}:D.beq (I a) (I b)=decide (a=b):=by simp[D.beq]
def mW(v:V):D.get (ac v) [0]=some (I v.x):=rfl
def mX(v:V):D.get (ac v) [1]=some (I v.y):=rfl
def mY(v:V):D.get (ac v) [2]=some (I v.z):=rfl
def ss(x y z:Int):D.st [D.int .i64 x,D.int .i64 y,D.int .i64 z]=ac ⟨x,y,z⟩:=rfl
def bd(k:Int)(v:V):Prop:=(-k<=v.x/\v.x<=k)/\(-k<=v.y/\v.y<=k)/\(-k<=v.z/\v.z<=k)
def gm{a b A B:Int}(ha:-A<=a/\a<=A)(hb:-B<=b/\b<=B):-(A*B)<=a*b/\a*b<=A*B:=by
 have hA:0<=A:=by omega
 have hB:0<=B:=by omega
 have h1:(a*b).natAbs<=(A*B).natAbs:=by
  rw[zLa,zLa];exact z2a (by omega) (by omega)
 have h2:0<=A*B:=zRb hA hB;omega
def ji{A B:Int}{u v:V}(hu:bd A u)(hv:bd B v):bd (A+B) (u.sub v):=by
 simp only[bd,V.sub] at *;omega
def oW{A:Int}{u:V}(hu:bd A u):bd A u.neg:=by
 simp only[bd,V.neg] at *;omega
def gX{A B:Int}{u v:V}(hu:bd A u)(hv:bd B v):bd (2*(A*B)) (V.cross u v):=by
 have:=gm hu.1 hv.1;have:=gm hu.1 hv.2.1;have:=gm hu.1 hv.2.2;have:=gm hu.2.1 hv.1;have:=gm hu.2.1 hv.2.1;have:=gm hu.2.1 hv.2.2;have:=gm hu.2.2 hv.1;have:=gm hu.2.2 hv.2.1;have:=gm hu.2.2 hv.2.2;simp only[bd,V.cross];omega
def ED{A B:Int}{u v:V}(hu:bd A u)(hv:bd B v):-(3*(A*B))<=V.dot u v/\V.dot u v<=3*(A*B):=by
 have:=gm hu.1 hv.1;have:=gm hu.2.1 hv.2.1;have:=gm hu.2.2 hv.2.2;simp only[V.dot];omega
def ym{A B:Int}{u v:V}(hu:bd A u)(hv:bd B v)(h:3*(A*B)<=9223372036854775807) :
  inR (u.x*v.x)/\inR (u.y*v.y)/\inR (u.z*v.z)/\inR (u.x*v.x+u.y*v.y)/\inR (u.x*v.x+u.y*v.y+u.z*v.z):=by
 have:=gm hu.1 hv.1;have:=gm hu.2.1 hv.2.1;have:=gm hu.2.2 hv.2.2;simp only[inR];omega
def f101{call:Nat->List D->Option D}{A B:Int}{u v:V}(hu:bd A u)(hv:bd B v)(h:3*(A*B)<=9223372036854775807):Ec aO call (ac u) (ac v)=some (I (V.dot u v)):=by
 obtain⟨h1,h2,h3,h4,h5⟩:=ym hu hv h;simp only[Ec,qG,qB,mW,mX,mY,zba,ca h1,ca h2,ca h3,aq h4,aq h5];rfl
def EG(n:Nat){A B:Int}{u v:V}(hu:bd A u)(hv:bd B v)(h:3*(A*B)<=9223372036854775807):cA (n+1) 101 [ac u,ac v]=some (I (V.dot u v)):=by rw[Uj];exact f101 hu hv h
def CK(n:Nat){A B:Int}{u v:V}(hu:bd A u)(hv:bd B v)(h:3*(A*B)<=9223372036854775807):cA (n+1) 107 [ac u,ac v]=some (I (V.dot u v)):=by
 obtain⟨h1,h2,h3,h4,h5⟩:=ym hu hv h;rw[Uo];simp only[G2,qG,qB,mW,mX,mY,zba,ca h1,ca h2,ca h3,aq h4,aq h5];rfl
def rZ{A B:Int}{u v:V}(hu:bd A u)(hv:bd B v)(h:2*(A*B)<=9223372036854775807) :
  inR (u.y*v.z)/\inR (u.z*v.y)/\inR (u.z*v.x)/\inR (u.x*v.z)/\inR (u.x*v.y)/\inR (u.y*v.x)/\inR (u.y*v.z-u.z*v.y)/\inR (u.z*v.x-u.x*v.z)/\inR (u.x*v.y-u.y*v.x):=by
 have:=gm hu.1 hv.1;have:=gm hu.1 hv.2.1;have:=gm hu.1 hv.2.2;have:=gm hu.2.1 hv.1;have:=gm hu.2.1 hv.2.1;have:=gm hu.2.1 hv.2.2;have:=gm hu.2.2 hv.1;have:=gm hu.2.2 hv.2.1;have:=gm hu.2.2 hv.2.2;simp only[inR];omega
def MU(n:Nat){A B:Int}{u v:V}(hu:bd A u)(hv:bd B v)(h:2*(A*B)<=9223372036854775807):cA (n+1) 117 [ac u,ac v]=some (ac (V.cross u v)):=by
 obtain⟨h1,h2,h3,h4,h5,h6,h7,h8,h9⟩:=rZ hu hv h;rw[Uw];simp only[Ha,qG,qB,mW,mX,mY,zba,ca h1,ca h2,ca h3,ca h4,ca h5,ca h6,cO h7,cO h8,cO h9];rfl
def MX(n:Nat){A B:Int}{u v:V}(hu:bd A u)(hv:bd B v)(h:2*(A*B)<=9223372036854775807):cA (n+1) 123 [ac u,ac v]=some (ac (V.cross u v)):=by
 obtain⟨h1,h2,h3,h4,h5,h6,h7,h8,h9⟩:=rZ hu hv h;rw[UD];simp only[Hg,qG,qB,mW,mX,mY,zba,ca h1,ca h2,ca h3,ca h4,ca h5,ca h6,cO h7,cO h8,cO h9];rfl
def Ns(n:Nat){A:Int}{u:V}(hu:bd A u)(h:A<=9223372036854775807):cA (n+1) 97 [ac u]=some (ac u.neg):=by
 have h1:inR (-u.x):=by simp only[bd,inR] at *;omega
 have h2:inR (-u.y):=by simp only[bd,inR] at *;omega
 have h3:inR (-u.z):=by simp only[bd,inR] at *;omega
 rw[YM];simp only[O0,qG,mW,mX,mY,zba,mK h1,mK h2,mK h3];rfl
end Sy
end
noncomputable section
namespace Sy
open Go Go.Proofs Geo
abbrev Bd:=List D->Option (Sum (List D) (Nat×List D))
def co{body:Bd}{s s':List D}{k:Nat×List D->Option D}{y:D}(h:body s=some (.inl s'))(hk:Option.bind (aO body s') k=some y):Option.bind (aO body s) k=some y:=by
 have:aO body s=aO body s':=cS h;rw[this];exact hk
def fq{body:Bd}{s:List D}{r:Nat×List D}{k:Nat×List D->Option D}{y:D}(h:body s=some (.inr r))(hk:k r=some y):Option.bind (aO body s) k=some y:=by
 have:aO body s=some r:=cM h;rw[this];exact hk
def m9{body:Bd}{s:List D}{r:Nat×List D}{k:Nat×List D->Option D}{y:D}(h:aO body s=some r)(hk:k r=some y):Option.bind (aO body s) k=some y:=by
 rw[h];exact hk
def bk{body:Bd}{s0:List D}{k:Nat×List D->Option D}{y:D}(J:Nat->List D->Prop)(n i0:Nat)(hi:i0<=n)(h0:J i0 s0)
  (hs:∀ i,i<n->∀ s,J i s->(∃ s',body s=some (.inl s')/\J (i+1) s')\/∃ r,body s=some (.inr r)/\k r=some y) (he:∀ s,J n s->∃ r,body s=some (.inr r)/\k r=some y):Option.bind (aO body s0) k=some y:=by
 obtain⟨m,hm⟩:∃ m,m=n-i0:=⟨_,rfl⟩
 induction m generalizing i0 s0 with
 | zero=>
  have:i0=n:=by omega
  subst this;obtain⟨r,h1,h2⟩:=he s0 h0;exact fq h1 h2
 | succ m ih=>
  rcases hs i0 (by omega) s0 h0 with⟨s',h1,h2⟩|⟨r,h1,h2⟩
  ·exact co h1 (ih (i0:=i0+1) (by omega) h2 (by omega))
  ·exact fq h1 h2
def BY{body:Bd}{s0:List D}(J:Nat->List D->Prop)(Q:Nat×List D->Prop)(n i0:Nat)(hi:i0<=n)(h0:J i0 s0)
  (hs:∀ i,i<n->∀ s,J i s->(∃ s',body s=some (.inl s')/\J (i+1) s')\/∃ r,body s=some (.inr r)/\Q r) (he:∀ s,J n s->∃ r,body s=some (.inr r)/\Q r):∃ r,aO body s0=some r/\Q r:=by
 obtain⟨m,hm⟩:∃ m,m=n-i0:=⟨_,rfl⟩
 induction m generalizing i0 s0 with
 | zero=>
  have:i0=n:=by omega
  subst this;obtain⟨r,h1,h2⟩:=he s0 h0;exact⟨r,cM h1,h2⟩
 | succ m ih=>
  rcases hs i0 (by omega) s0 h0 with⟨s',h1,h2⟩|⟨r,h1,h2⟩
  ·obtain⟨r,k1,k2⟩:=ih (i0:=i0+1) (by omega) h2 (by omega)
   exact⟨r,by rw[show aO body s0=aO body s' from cS h1];exact k1,k2⟩
  ·exact⟨r,cM h1,h2⟩
def ap{i n:Nat}(h:i<n):D.idx (I (i:Int)) n=some i:=by
 simp only[D.idx];rw[if_pos (by omega)];simp
def au{i:Nat}(h:i<=9223372036854775806):inR ((i:Int)+1):=by simp only[inR];omega
def g0{x:D}{l:List D}{d:D}:List.getD (x::l) 0 d=x:=rfl
def g1{x y:D}{l:List D}{d:D}:List.getD (x::y::l) 1 d=y:=rfl
def g2{x y z:D}{l:List D}{d:D}:List.getD (x::y::z::l) 2 d=z:=rfl
def g3{x y z w:D}{l:List D}{d:D}:List.getD (x::y::z::w::l) 3 d=w:=rfl
def Uf(v:V)(a:Int):D.set (ac v) [0] (I a)=some (ac ⟨a,v.y,v.z⟩):=rfl
def Ug(v:V)(a:Int):D.set (ac v) [1] (I a)=some (ac ⟨v.x,a,v.z⟩):=rfl
def Uh(v:V)(a:Int):D.set (ac v) [2] (I a)=some (ac ⟨v.x,v.y,a⟩):=rfl
def Ft:D.idx (I 0) 3=some 0:=rfl
def Fu:D.idx (I 1) 3=some 1:=rfl
def Fv:D.idx (I 2) 3=some 2:=rfl
def Tl(n:Nat){A B:Int}{u v:V}(hu:bd A u)(hv:bd B v)(h:A+B<=9223372036854775807):cA (n+1) 154 [ac u,ac v]=some (ac (u.add v)):=by
 have h1:inR (u.x+v.x):=by simp only[bd,inR] at *;omega
 have h2:inR (u.y+v.y):=by simp only[bd,inR] at *;omega
 have h3:inR (u.z+v.z):=by simp only[bd,inR] at *;omega
 rw[UW]
 delta Hz qB qC qJ qZ iL iR Jn
 refine co (s':=[I 1,ac ⟨u.x+v.x,u.y,u.z⟩]) ?_ (co (s':=[I 2,ac ⟨u.x+v.x,u.y+v.y,u.z⟩]) ?_ (co (s':=[I 3,ac ⟨u.x+v.x,u.y+v.y,u.z+v.z⟩]) ?_ (fq (r:=(0,[ac (u.add v)])) ?_ rfl)))
 ·simp only[g0,g1,ah,zba,ab,Ft,mW,Uf,aq h1,aq (show inR (0+1) from⟨by decide,by decide⟩)];rfl
 ·simp only[g0,g1,ah,zba,ab,Fu,mX,Ug,aq h2,aq (show inR (1+1) from⟨by decide,by decide⟩)];rfl
 ·simp only[g0,g1,ah,zba,ab,Fv,mY,Uh,aq h3,aq (show inR (2+1) from⟨by decide,by decide⟩)];rfl
 ·simp only[g0,g1,ah,zba,ab];rfl
def Io(u v:V):u.add v.neg=u.sub v:=by apply V.ext'<;>simp only[V.add,V.neg,V.sub]<;>omega
def EH(n:Nat){A B:Int}{u v:V}(hu:bd A u)(hv:bd B v)(h:A+B<=9223372036854775807):cA (n+2) 103 [ac u,ac v]=some (ac (u.sub v)):=by
 have hA:0<=A:=by simp only[bd] at hu;omega
 rw[Uk];simp only[GY,Ns n hv (by omega),zba,Tl n hu (oW hv) h,Io]
def CL(n:Nat){A B:Int}{u v:V}(hu:bd A u)(hv:bd B v)(h:A+B<=9223372036854775807):cA (n+1) 112 [ac u,ac v]=some (ac (u.sub v)):=by
 have h1:inR (u.x-v.x):=by simp only[bd,inR] at *;omega
 have h2:inR (u.y-v.y):=by simp only[bd,inR] at *;omega
 have h3:inR (u.z-v.z):=by simp only[bd,inR] at *;omega
 rw[Ut];simp only[G7,qG,qB,mW,mX,mY,zba,cO h1,cO h2,cO h3];rfl
def ba(a b:Int):Int:=if a<b then -1 else if a>b then 1 else 0
def Te(n:Nat)(a:Int):cA (n+1) 115 [I a]=some (.bool false):=by
 rw[Uu];simp only[G8,bK];simp
def Nm(n:Nat)(a b:Int):cA (n+2) 53 [I a,I b]=some (I (ba a b)):=by
 rw[Ys];simp only[OE,qC,qT,Jn,Te,zba,ab,zwa,if_false,ah,cV,ba,decide_eq_true_eq];split
 ·rfl
 ·split<;>rfl
def oT:List Int->Int
 | []=>0
 | x::l=>if x=0 then oT l else x
def VS(n:Nat)(l:List Int)(hl:l.length<=1000):cA (n+1) 52 [.sl (l.map λx=>I x)]=some (I (oT l)):=by
 rw[Yr]
 delta OD qB qC qT qS qX qZ iL iR Jn
 simp only[D.asSl,zba];refine bk (λi s=>s=[I i]/\oT l=oT (l.drop i)) l.length 0 (zma _) ⟨rfl,rfl⟩ (λi hi s hJ=>?_) (λs hJ=>?_)
 ·obtain⟨rfl,hz⟩:=hJ;have hx:(l.map λx=>I x)[i]?=some (I l[i]):=by simp[hi]
  simp only[g0,zua,ah,zba,ab,decide_eq_true_eq,show((i:Int)<(l.length:Int)) from by omega,if_true,ap hi,hx,bK]
  have hd:l.drop i=l[i]::l.drop (i+1):=zob hi;rw[hd] at hz;by_cases h0:l[i]=0
  ·left;refine⟨[I ((i+1:Nat):Int)],?_,rfl,?_⟩
   ·simp only[h0,decide_true,zac,zwa,if_false,aq (au (i:=i) (by omega)),zba];rfl
   ·rw[hz];simp[oT,h0]
  ·right;refine⟨(0,[I l[i]]),?_,?_⟩
   ·simp[h0]
   ·rw[hz];simp[oT,h0]
 ·obtain⟨rfl,hz⟩:=hJ;refine⟨(1,[]),?_,?_⟩
  ·simp only[g0,zua,ah,zba,ab,decide_eq_true_eq,zFc,if_false]
  ·rw[hz];simp[oT]
end Sy
end
noncomputable section
namespace Sy
open Go Go.Proofs Geo
def yt{body:Bd}(h0:∀ a b:Int,b≠0->body [I a,I b]=some (.inl [I b,I (a.tmod b)]))(h1:∀ a:Int,body [I a,I 0]=some (.inr (0,[I a]))) :
  ∀ (m:Nat) (a b:Int),b.natAbs=m->∃ r:Int,aO body [I a,I b]=some (0,[I r])/\r.natAbs=Nat.gcd a.natAbs b.natAbs:=by
 intro m
 induction m using Nat.strongRecOn with
 | _ m ih=>
  intro a b hb;by_cases hz:b=0
  ·subst hz;exact⟨a,cM (h1 a),by simp⟩
  ·have hlt:(a.tmod b).natAbs<m:=by
    rw[Int.natAbs_tmod,<-hb];exact zPa _ (by omega)
   obtain⟨r,k1,k2⟩:=ih _ hlt b (a.tmod b) rfl;refine⟨r,?_,?_⟩
   ·rw[show aO body [I a,I b]=aO body [I b,I (a.tmod b)] from cS (h0 a b hz)];exact k1
   ·rw[k2,Int.natAbs_tmod,zzc a.natAbs,Nat.gcd_rec b.natAbs a.natAbs,zzc]
def pp{a b:Int}{k:Nat}(ha:a.natAbs<=k)(hb:b.natAbs<=k):Nat.gcd a.natAbs b.natAbs<=k:=by
 rcases ztb a.natAbs with h|h
 ·rw[h,Nat.gcd_zero_left];exact hb
 ·exact zDa (Nat.le_of_dvd h (zbb _ _)) ha
def KL(n:Nat){a b:Int}(ha:a.natAbs<=9223372036854775807)(hb:b.natAbs<=9223372036854775807):cA (n+1) 152 [I a,I b]=some (I (Nat.gcd a.natAbs b.natAbs:Nat)):=by
 rw[N9]
 delta Eh qB qT qZ iL iR Jn
 obtain⟨r,h1,h2⟩:=yt (body:=λ(v1:List D)=>
  Option.bind (D.truth (D.bool (!(D.beq (gx v1 1) (D.int .i64 0))))) λb2=>
  if b2 then(Option.bind (D.bin .rem (gx v1 0) (gx v1 1)) λx3=>
  some (Sum.inl [(gx v1 1),x3])) else(some (Sum.inr (0,[(gx v1 0)]))))
  (λa b hb=>by simp only[g0,g1,bK,ab,zba,hb,decide_false,zNb,if_true,nL hb])
  (λa=>by simp only[g0,g1,bK,ab,zba,decide_true,zac,zwa,if_false]) _ a b rfl
 refine m9 h1 ?_;have hr:r.natAbs<=9223372036854775807:=by rw[h2];exact pp ha hb
 have hn:inR (-r):=by simp only[inR];omega
 simp only[zba,g0,mK hn,B3];congr 2;omega
def fY{a:Int}{g:Nat}(hg:0<g)(h:(g:Int) ∣ a):a.tdiv g=a/g:=by
 obtain⟨c,rfl⟩:=h;rw[zid _ (by omega),z9a _ (by omega)]
def uL(v:V):(be v:Int) ∣ v.x:=z1a.2 (z2c (zbb _ _) (zbb _ _))
def uM(v:V):(be v:Int) ∣ v.y:=z1a.2 (z2c (zbb _ _) (zzb _ _))
def uN(v:V):(be v:Int) ∣ v.z:=z1a.2 (zzb _ _)
def ph{a:Int}{g:Nat}{k:Int}(h:-k<=a/\a<=k)(hd:(g:Int) ∣ a):-k<=a/g/\a/g<=k:=by
 have h1:(a/(g:Int)).natAbs<=a.natAbs:=by
  rcases ztb g with e|e
  ·subst e;simp
  ·obtain⟨c,rfl⟩:=hd;rw[z9a _ (by omega),zLa]
   exact zKb _ (by omega)
 omega
def dT{k:Int}{v:V}(h:bd k v):bd k (aE v):=⟨ph h.1 (uL v),ph h.2.1 (uM v),ph h.2.2 (uN v)⟩
def bY(q:V×Int):D:=.st [ac q.1,I q.2]
def MV:Int:=262144
def mC{P:Nat->V}{i j:Nat}(hi:bd MV (P i))(hj:bd MV (P j)):bd 524288 (wy P i j):=by
 have:=ji hj hi;simpa [MV,wy] using this
def X8(n:Nat){a b c:V}(ha:bd MV a)(hb:bd MV b)(hc:bd MV c):cA (n+3) 96 [ac a,ac b,ac c]=some (bY (aE (V.cross (b.sub a) (c.sub a)),V.dot (aE (V.cross (b.sub a) (c.sub a))) a)):=by
 have h1:bd 524288 (b.sub a):=by have:=ji hb ha;simpa [MV] using this
 have h2:bd 524288 (c.sub a):=by have:=ji hc ha;simpa [MV] using this
 rw[YL]
 delta OZ qG qB qC Jn
 simp only[EH n hb ha (by decide),EH n hc ha (by decide),zba,MU (n+1) h1 h2 (by decide)]
 have h3:=gX h1 h2;generalize V.cross (b.sub a) (c.sub a)=m at *;have e1:m.x.natAbs<=549755813888:=by have:=h3.1;omega
 have e2:m.y.natAbs<=549755813888:=by have:=h3.2.1;omega
 have e3:m.z.natAbs<=549755813888:=by have:=h3.2.2;omega
 have e4:Nat.gcd m.x.natAbs m.y.natAbs<=549755813888:=pp e1 e2;have e5:Nat.gcd (Nat.gcd m.x.natAbs m.y.natAbs) m.z.natAbs=be m:=rfl;simp only[mW,mX,mY,zba,KL (n+1) (a:=m.x) (b:=m.y) (by omega) (by omega),KL (n+1) (a:=((Nat.gcd m.x.natAbs m.y.natAbs:Nat):Int)) (b:=m.z) (by rw[zqa];omega) (by omega),zqa,e5,cV,ab,decide_eq_true_eq]
 have h4:=dT h3;have fin:∀ w:V,w=aE m->cA (n+2) 101 [ac w,ac a]=some (I (V.dot w a)):=λw hw=>EG (n+1) (hw ▸ h4) ha (by decide)
 by_cases hg:(be m:Int)>1
 ·have hg0:(be m:Int)≠0:=by omega
  have hgp:0<be m:=by omega
  have r1:inR (m.x.tdiv (be m)):=by rw[fY hgp (uL m)];have:=ph h3.1 (uL m);simp only[inR];omega
  have r2:inR (m.y.tdiv (be m)):=by rw[fY hgp (uM m)];have:=ph h3.2.1 (uM m);simp only[inR];omega
  have r3:inR (m.z.tdiv (be m)):=by rw[fY hgp (uN m)];have:=ph h3.2.2 (uN m);simp only[inR];omega
  have ep:(D.st [I (m.x.tdiv (be m)),I (m.y.tdiv (be m)),I (m.z.tdiv (be m))])=ac (aE m):=by
   rw[fY hgp (uL m),fY hgp (uM m),fY hgp (uN m)];rfl
  simp only[if_pos hg,rJ hg0 r1,rJ hg0 r2,rJ hg0 r3,zba,g0,ep,fin _ rfl];rfl
 ·have ep:m=aE m:=by
   rcases zna 0 (be m) with k|k
   ·have e:be m=1:=by omega
    have:=iA m;rw[e] at this;rw[this]
    conv=>rhs;rw[<-this]
    apply V.ext'<;>simp[V.smul]
   ·have e:be m=0:=by omega
    have hm:m=V.zero:=by
     by_cases hm:m=V.zero
     ·exact hm
     ·have:=g9 hm;omega
    rw[hm];rfl
  simp only[if_neg hg,zba,g0,fin m ep];rw[<-ep];rfl
end Sy
end
noncomputable section
namespace Sy
open Go Go.Proofs Geo
def Ua(a b:Int):D.sl [I a,I b]=D.sl ([a,b].map λx=>I x):=rfl
def Ub(a b c:Int):D.sl [I a,I b,I c]=D.sl ([a,b,c].map λx=>I x):=rfl
def X0(n:Nat)(a b c d:Int):cA (n+3) 51 [.st [I a,I b],.st [I c,I d]]=some (I (oT [ba a c,ba b d])):=by
 rw[Yq]
 delta OC qG
 simp only[show ∀ a b:Int,D.get (.st [I a,I b]) [0]=some (I a) from λ_ _=>rfl,show ∀ a b:Int,D.get (.st [I a,I b]) [1]=some (I b) from λ_ _=>rfl,zba,Nm,Ua,VS (n+1) [ba a c,ba b d] (by simp)]
def S8(n:Nat)(p q:V×Int):cA (n+3) 100 [bY p,bY q]=some (I (oT [ba p.1.x q.1.x,ba p.1.y q.1.y,ba p.1.z q.1.z])):=by
 rw[Ui]
 delta GX qG
 simp only[show ∀ p:V×Int,D.get (bY p) [0]=some (ac p.1) from λ_=>rfl,show ∀ p:V×Int,D.get (bY p) [0,0]=some (I p.1.x) from λ_=>rfl,show ∀ p:V×Int,D.get (bY p) [0,1]=some (I p.1.y) from λ_=>rfl,show ∀ p:V×Int,D.get (bY p) [0,2]=some (I p.1.z) from λ_=>rfl,mW,mX,mY,zba,Nm,Ub,VS (n+1) [ba p.1.x q.1.x,ba p.1.y q.1.y,ba p.1.z q.1.z] (by simp)]
def wq(a:Int):ba a 0=sg a:=rfl
def NW(a:Int):-1<=sg a/\sg a<=1:=by unfold sg;split<;>(try split)<;>omega
def pz(a b:Int):inR (sg a*sg b):=by
 have:=gm (A:=1) (B:=1) (NW a) (NW b);simp only[inR];omega
def ND(v:V):D.fld (ac v) 0=some (I v.x):=rfl
def NE(v:V):D.fld (ac v) 1=some (I v.y):=rfl
def NF(v:V):D.fld (ac v) 2=some (I v.z):=rfl
def Ke:inR (0+1):=⟨by decide,by decide⟩
def rq:inR (1+1):=⟨by decide,by decide⟩
def Kf:inR (2+1):=⟨by decide,by decide⟩
def S9(n:Nat){A B:Int}{m u v:V}(hu:bd A u)(hv:bd B v)(h:2*(A*B)<=9223372036854775807):cA (n+3) 104 [ac m,ac u,ac v]=some (I (u9 m (V.cross u v))):=by
 rw[Ul]
 delta GZ qB qC qT qJ qZ iL iR Jn
 simp only[MU (n+1) hu hv h,zba];generalize V.cross u v=c;unfold u9;by_cases hx:m.x=0
 ·refine co (s':=[I 1]) (by simp only[g0,ah,zba,ab,Ft,ND,bK,hx,decide_true,zac,zwa,if_false,aq Ke];rfl) ?_
  by_cases hy:m.y=0
  ·refine co (s':=[I 2]) (by simp only[g0,ah,zba,ab,Fu,NE,bK,hy,decide_true,zac,zwa,if_false,aq rq];rfl) ?_
   by_cases hz:m.z=0
   ·refine co (s':=[I 3]) (by simp only[g0,ah,zba,ab,Fv,NF,bK,hz,decide_true,zac,zwa,if_false,aq Kf];rfl) ?_
    refine fq (r:=(1,[])) (by simp only[g0,ah,zba,ab];rfl) ?_
    simp[hx,hy,hz]
   ·refine fq (r:=(0,[I (sg c.z*sg m.z)])) ?_ (by simp[hx,hy,hz,zkc])
    simp only[g0,ah,zba,ab,Fv,NF,mY,bK,hz,decide_false,zNb,if_true,Nm,wq,ca (pz _ _)];rfl
  ·refine fq (r:=(0,[I (sg c.y*sg m.y)])) ?_ (by simp[hx,hy,zkc])
   simp only[g0,ah,zba,ab,Fu,NE,mX,bK,hy,decide_false,zNb,if_true,Nm,wq,ca (pz _ _)];rfl
 ·refine fq (r:=(0,[I (sg c.x*sg m.x)])) ?_ (by simp[hx,zkc])
  simp only[g0,ah,zba,ab,Ft,ND,mW,bK,hx,decide_false,zNb,if_true,Nm,wq,ca (pz _ _)];rfl
def KP(n:Nat)(a:Int):cA (n+1) 215 [I a]=some (I (sg a)):=by
 rw[Vf];simp only[HR,qC,Jn,ah,cV,zba,ab,decide_eq_true_eq,sg];split
 ·rfl
 ·split
  ·rfl
  ·rfl
def Tu(n:Nat)(m c:V):cA (n+2) 188 [ac m,ac c]=some (I (u9 m c)):=by
 rw[U8]
 delta HK qB qC qT qJ qZ iL iR Jn u9
 by_cases hx:m.x=0
 ·refine co (s':=[I 1]) (by simp only[g0,ah,zba,ab,Ft,mW,bK,hx,decide_true,zac,zwa,if_false,aq Ke];rfl) ?_
  by_cases hy:m.y=0
  ·refine co (s':=[I 2]) (by simp only[g0,ah,zba,ab,Fu,mX,bK,hy,decide_true,zac,zwa,if_false,aq rq];rfl) ?_
   by_cases hz:m.z=0
   ·refine co (s':=[I 3]) (by simp only[g0,ah,zba,ab,Fv,mY,bK,hz,decide_true,zac,zwa,if_false,aq Kf];rfl) ?_
    refine fq (r:=(1,[])) (by simp only[g0,ah,zba,ab];rfl) ?_
    simp[hx,hy,hz]
   ·refine fq (r:=(0,[I (sg m.z*sg c.z)])) ?_ (by simp[hx,hy,hz])
    simp only[g0,ah,zba,ab,Fv,mY,bK,hz,decide_false,zNb,if_true,KP,ca (pz _ _)];rfl
  ·refine fq (r:=(0,[I (sg m.y*sg c.y)])) ?_ (by simp[hx,hy])
   simp only[g0,ah,zba,ab,Fu,mX,bK,hy,decide_false,zNb,if_true,KP,ca (pz _ _)];rfl
 ·refine fq (r:=(0,[I (sg m.x*sg c.x)])) ?_ (by simp[hx])
  simp only[g0,ah,zba,ab,Ft,mW,bK,hx,decide_false,zNb,if_true,KP,ca (pz _ _)];rfl
instance decLex (a b:V):Decidable (aC a b):=by unfold aC;exact inferInstance
def MT(n:Nat)(a b:V):cA (n+1) 105 [ac a,ac b]=some (.bool (decide (aC a b))):=by
 rw[Um];simp only[G0,qG,qB,qT,mW,mX,mY,zba,bK,ab,ah,zFa,decide_eq_false_iff_not];by_cases h1:a.x=b.x
 ·by_cases h2:a.y=b.y
  ·simp[h1,h2,aC]
  ·simp only[h1,h2,aC,not_true,if_false,not_false_iff,if_true,zFc,false_or,true_and,false_and,or_false]
 ·simp only[h1,aC,not_false_iff,if_true,false_and,or_false]
def a7(l:List V):D:=.sl (l.map ac)
def pS(l:List V)(m:V)(d:Int):Bool:=l.all λx=>decide (V.dot m x<=d)
def jG(l:List V)(m:V)(d:Int):Bool:=l.any λx=>decide (V.dot m x<d)
def Ff{l:List V}{i:Nat}(h:i<l.length):(l.map ac)[i]?=some (ac l[i]):=by simp[h]
def Tc(n:Nat){A:Int}{l:List V}{m:V}{d:Int}(hl:∀ x∈l,bd MV x)(hm:bd A m)(hA:3*(A*262144)<=9223372036854775807)(hlen:l.length<=1000000):cA (n+2) 109 [a7 l,ac m,I d]=some (.bool (pS l m d&&jG l m d)):=by
 rw[Uq]
 delta G4 qB qC qT qX qL qZ iL iR Jn
 refine bk (λi s=>s=[.bool (jG (l.take i) m d),I i]/\pS (l.take i) m d=true) l.length 0 (zma _) ⟨by simp[jG],by simp[pS]⟩ (λi hi s hJ=>?_) (λs hJ=>?_)
 ·obtain⟨rfl,hs⟩:=hJ;have ht:l.take (i+1)=l.take i++[l[i]]:=zxa hi;have hc:=CK n hm (hl l[i] (zIa hi)) hA;simp only[a7,D.asSl,g0,g1,zua,ah,cV,zba,ab,decide_eq_true_eq,show((i:Int)<(l.length:Int)) from by omega,if_true,ap hi,Ff hi,hc]
  by_cases hgt:V.dot m l[i]>d
  ·right;refine⟨(0,[.bool false]),by simp only[hgt,if_true],?_⟩
   have:pS l m d=false:=by
    rw[zXb];intro h;have:=zka.1 h l[i] (zIa hi);simp at this;omega
   simp[g0,this]
  ·left;refine⟨[.bool (jG (l.take (i+1)) m d),I ((i+1:Nat):Int)],?_,rfl,?_⟩
   ·simp only[hgt,if_false,aq (au (i:=i) (by omega)),zba]
    have e:jG (l.take (i+1)) m d=(jG (l.take i) m d||decide (V.dot m l[i]<d)):=by rw[ht];simp only[jG,zBc,List.any_cons,List.any_nil,Bool.or_false]
    rw[e];cases jG (l.take i) m d<;>simp
   ·rw[ht];simp only[pS,z5c,zaa] at hs ⊢;exact⟨hs,by simp;omega⟩
 ·obtain⟨rfl,hs⟩:=hJ;refine⟨(1,[.bool (jG (l.take l.length) m d)]),?_,?_⟩
  ·simp only[a7,D.asSl,g0,g1,zua,ah,zba,ab,decide_eq_true_eq,zFc,if_false]
  ·rw[z3a] at *;simp[g0,hs]
def X9(n:Nat){A:Int}{l:List V}{m:V}{d:Int}(hl:∀ x∈l,bd MV x)(hm:bd A m)(hA:3*(A*262144)<=9223372036854775807)(hlen:l.length<=1000000):cA (n+2) 98 [a7 l,bY (m,d)]=some (.bool (pS l m d&&jG l m d)):=by
 rw[YN]
 delta O1 qG qB qC qT qS qX qZ iL iR Jn
 simp only[a7,D.asSl,zba];refine bk (λi s=>s=[.bool (!jG (l.take i) m d),I i]/\pS (l.take i) m d=true) l.length 0 (zma _) ⟨by simp[jG],by simp[pS]⟩ (λi hi s hJ=>?_) (λs hJ=>?_)
 ·obtain⟨rfl,hs⟩:=hJ;have ht:l.take (i+1)=l.take i++[l[i]]:=zxa hi;have hc:=EG n hm (hl l[i] (zIa hi)) hA;simp only[g0,g1,zua,ah,cV,zba,ab,decide_eq_true_eq,show((i:Int)<(l.length:Int)) from by omega,if_true,ap hi,Ff hi,show D.get (bY (m,d)) [0]=some (ac m) from rfl,show D.get (bY (m,d)) [1]=some (I d) from rfl,hc,bK]
  by_cases hgt:V.dot m l[i]>d
  ·right;refine⟨(0,[.bool false]),by simp only[hgt,if_true],?_⟩
   have:pS l m d=false:=by
    rw[zXb];intro h;have:=zka.1 h l[i] (zIa hi);simp at this;omega
   simp[g0,this]
  ·left;refine⟨[.bool (!jG (l.take (i+1)) m d),I ((i+1:Nat):Int)],?_,rfl,?_⟩
   ·simp only[hgt,if_false,aq (au (i:=i) (by omega)),zba]
    have e:(!jG (l.take (i+1)) m d)=(!jG (l.take i) m d&&decide (V.dot m l[i]=d)):=by
     rw[ht];simp only[jG,zBc,List.any_cons,List.any_nil,Bool.or_false,Bool.not_or];congr 1;by_cases h2:V.dot m l[i]=d
     ·simp[h2]
     ·have:V.dot m l[i]<d:=by omega
      simp[h2,this]
    rw[e];cases jG (l.take i) m d<;>simp
   ·rw[ht];simp only[pS,z5c,zaa] at hs ⊢;exact⟨hs,by simp;omega⟩
 ·obtain⟨rfl,hs⟩:=hJ;refine⟨(1,[.bool (!jG (l.take l.length) m d)]),?_,?_⟩
  ·simp only[g0,g1,zua,ah,zba,ab,decide_eq_true_eq,zFc,if_false]
  ·rw[z3a] at *;simp[g0,hs,aP]
end Sy
end
noncomputable section
namespace Sy
open Go Go.Proofs Geo
def oo{α:Type}{body:Bd}{s0:List D}{k:Nat×List D->Option α}{Y:α->Prop}(J:Nat->List D->Prop)(n i0:Nat)(hi:i0<=n)(h0:J i0 s0)
  (hs:∀ i,i<n->∀ s,J i s->∃ z,body s=some z/\match z with|.inl s'=>J (i+1) s'|.inr r=>∃ y,k r=some y/\Y y)
  (he:∀ s,J n s->∃ z,body s=some z/\match z with|.inl _=>False|.inr r=>∃ y,k r=some y/\Y y):∃ y,Option.bind (aO body s0) k=some y/\Y y:=by
 obtain⟨m,hm⟩:∃ m,m=n-i0:=⟨_,rfl⟩
 induction m generalizing i0 s0 with
 | zero=>
  have:i0=n:=by omega
  subst this;obtain⟨z,h1,h2⟩:=he s0 h0;cases z with
  | inl s'=>exact h2.elim
  | inr r=>obtain⟨y,h3,h4⟩:=h2;exact⟨y,by rw[show aO body s0=some r from cM h1];exact h3,h4⟩
 | succ m ih=>
  obtain⟨z,h1,h2⟩:=hs i0 (by omega) s0 h0
  cases z with
  | inl s'=>
   obtain⟨y,h3,h4⟩:=ih (i0:=i0+1) (by omega) h2 (by omega)
   exact⟨y,by rw[show aO body s0=aO body s' from cS h1];exact h3,h4⟩
  | inr r=>obtain⟨y,h3,h4⟩:=h2;exact⟨y,by rw[show aO body s0=some r from cM h1];exact h3,h4⟩
def aU{α:Type}{body:Bd}{s s':List D}{k:Nat×List D->Option α}{y:α}(h:body s=some (.inl s'))(hk:Option.bind (aO body s') k=some y):Option.bind (aO body s) k=some y:=by
 have:aO body s=aO body s':=cS h;rw[this];exact hk
def dD{α:Type}{body:Bd}{s:List D}{r:Nat×List D}{k:Nat×List D->Option α}{y:α}(h:body s=some (.inr r))(hk:k r=some y):Option.bind (aO body s) k=some y:=by
 have:aO body s=some r:=cM h;rw[this];exact hk
def bZ{α:Type}{body:Bd}{s0:List D}{k:Nat×List D->Option α}{y:α}(J:Nat->List D->Prop)(n i0:Nat)(hi:i0<=n)(h0:J i0 s0)
  (hs:∀ i,i<n->∀ s,J i s->(∃ s',body s=some (.inl s')/\J (i+1) s')\/∃ r,body s=some (.inr r)/\k r=some y) (he:∀ s,J n s->∃ r,body s=some (.inr r)/\k r=some y):Option.bind (aO body s0) k=some y:=by
 obtain⟨m,hm⟩:∃ m,m=n-i0:=⟨_,rfl⟩
 induction m generalizing i0 s0 with
 | zero=>
  have:i0=n:=by omega
  subst this;obtain⟨r,h1,h2⟩:=he s0 h0;exact dD h1 h2
 | succ m ih=>
  rcases hs i0 (by omega) s0 h0 with⟨s',h1,h2⟩|⟨r,h1,h2⟩
  ·exact aU h1 (ih (i0:=i0+1) (by omega) h2 (by omega))
  ·exact dD h1 h2
def aa{α β:Type}{A:Option α}{g:α->Option β}{z:α}{y:β}(h:A=some z)(hk:g z=some y):Option.bind A g=some y:=by
 rw[h];exact hk
def iQ(u v:V):D.beq (ac u) (ac v)=decide (u=v):=by
 simp only[ac,D.beq,D.beqs,decide_true,zOb,Bool.and_true];by_cases h:u=v
 ·subst h;simp
 ·by_cases h1:u.x=v.x<;>by_cases h2:u.y=v.y<;>by_cases h3:u.z=v.z<;>simp[h,h1,h2,h3];exact h (V.ext' h1 h2 h3)
def JY(p q:V×Int):D.beq (bY p) (bY q)=decide (p=q):=by
 have:D.beq (bY p) (bY q)=(D.beq (ac p.1) (ac q.1)&&(D.beq (I p.2) (I q.2)&&true)):=rfl;rw[this,iQ,bK];obtain⟨a,b⟩:=p;obtain⟨c,d⟩:=q;by_cases h1:a=c<;>by_cases h2:b=d<;>simp[h1,h2]
def gJ(K:List (V×Int)):List D:=K.map λq=>.st [bY q,.bool true]
theorem vk:∀ (K:List (V×Int)) (q:V×Int),D.mget (gJ K) (bY q)=if q∈K then some (.bool true) else none
 | [],q=>by simp[gJ,D.mget]
 | p::K,q=>by
  have ih:=vk K q;simp only[gJ,z4a,D.mget,JY] at ih ⊢;by_cases h:q=p
  ·simp[h]
  ·rw[ih];simp[h]
theorem vn:∀ (K:List (V×Int)) (q:V×Int),q ∉ K->D.mput (gJ K) (bY q) (.bool true)=gJ (K++[q])
 | [],q,_=>rfl
 | p::K,q,h=>by
  have ih:=vn K q (λhq=>h (zia _ hq));have hne:¬ q=p:=λe=>h (by rw[e];exact zoa)
  simp only[gJ,z4a,zib,D.mput,JY,hne,decide_false,zwa,if_false] at ih ⊢;rw[ih]
def Da(K:List (V×Int)):(gJ K).map uk=K.map bY:=by simp[gJ,uk]
def supp(l:List V)(q:V×Int):Bool:=pS l q.1 q.2&&jG l q.1 q.2
def io(l:List V)(K:List (V×Int))(q:V×Int):List (V×Int):=if q∈K then K else if supp l q then K++[q] else K
def te{l:List V}{K:List (V×Int)}{q x:V×Int}(h:x∈K):x∈io l K q:=by
 unfold io;split
 ·exact h
 ·split
  ·exact List.mem_append_left _ h
  ·exact h
def zg{l:List V}{K:List (V×Int)}{q:V×Int}(h:supp l q=true):q∈io l K q:=by
 unfold io;split
 ·assumption
 ·simp
def zf{l:List V}{K:List (V×Int)}{q x:V×Int}(h:x∈io l K q):x∈K\/(x=q/\supp l q=true):=by
 unfold io at h;split at h
 ·exact .inl h
 ·split at h
  ·rename_i hs;rcases List.mem_append.1 h with h|h
   ·exact .inl h
   ·exact .inr ⟨zHa.1 h,hs⟩
  ·exact .inl h
def td{l:List V}{K:List (V×Int)}{q:V×Int}(h:K.Nodup):(io l K q).Nodup:=by
 unfold io;split
 ·exact h
 ·rename_i hq;split
  ·exact List.nodup_append.2 ⟨h,by simp,λx hx y hy e=>hq (by rw[zHa.1 hy] at e;exact e ▸ hx)⟩
  ·exact h
def oN(a b c:V):V×Int:=(aE (V.cross (b.sub a) (c.sub a)),V.dot (aE (V.cross (b.sub a) (c.sub a))) a)
def mq(q:V×Int):V×Int:=(q.1.neg,-q.2)
def Cd(l:List V)(i j k:Nat)(q:V×Int):Prop:=(oN (l.getD i V.zero) (l.getD j V.zero) (l.getD k V.zero)).1≠V.zero/\(q=oN (l.getD i V.zero) (l.getD j V.zero) (l.getD k V.zero)\/q=mq (oN (l.getD i V.zero) (l.getD j V.zero) (l.getD k V.zero)))
structure Known(l:List V)(i j k:Nat)(K:List (V×Int)):Prop where
 nd:K.Nodup
 ok:∀ q∈K,supp l q=true/\∃ i j k,k<j/\j<i/\i<l.length/\Cd l i j k q
 all:∀ i' j' k',k'<j'->j'<i'->i'<l.length->(i'<i\/i'=i/\(j'<j\/j'=j/\k'<k))->∀ q,Cd l i' j' k' q->supp l q=true->q∈K
def KD{a b c:V}(ha:bd MV a)(hb:bd MV b)(hc:bd MV c):bd 549755813888 (oN a b c).1/\inR (oN a b c).2/\inR (-(oN a b c).2):=by
 have h1:bd 524288 (b.sub a):=by have:=ji hb ha;simpa [MV] using this
 have h2:bd 524288 (c.sub a):=by have:=ji hc ha;simpa [MV] using this
 have h3:=dT (gX h1 h2);have h4:=ED h3 ha;simp only[MV] at h4;refine⟨h3,?_,?_⟩<;>simp only[inR,oN]<;>omega
def Known.step{l:List V}{i j k:Nat}{K:List (V×Int)}(h:Known l i j k K)(hk:k<j)(hj:j<i)(hi:i<l.length)(hz:(oN (l.getD i V.zero) (l.getD j V.zero) (l.getD k V.zero)).1≠V.zero) :
  Known l i j (k+1) (io l (io l K (oN (l.getD i V.zero) (l.getD j V.zero) (l.getD k V.zero))) (mq (oN (l.getD i V.zero) (l.getD j V.zero) (l.getD k V.zero)))):=by
 refine⟨td (td h.nd),λq hq=>?_,λi' j' k' h1 h2 h3 h4 q hq hs=>?_⟩
 ·rcases zf hq with hq|⟨rfl,hs⟩
  ·rcases zf hq with hq|⟨rfl,hs⟩
   ·exact h.ok q hq
   ·exact⟨hs,i,j,k,hk,hj,hi,hz,.inl rfl⟩
  ·exact⟨hs,i,j,k,hk,hj,hi,hz,.inr rfl⟩
 ·by_cases e:i'=i/\j'=j/\k'=k
  ·obtain⟨rfl,rfl,rfl⟩:=e;rcases hq.2 with rfl|rfl
   ·exact te (zg hs)
   ·exact zg hs
  ·exact te (te (h.all i' j' k' h1 h2 h3 (by omega) q hq hs))
def Known.skip{l:List V}{i j k:Nat}{K:List (V×Int)}(h:Known l i j k K)(hz:(oN (l.getD i V.zero) (l.getD j V.zero) (l.getD k V.zero)).1=V.zero):Known l i j (k+1) K:=by
 refine⟨h.nd,h.ok,λi' j' k' h1 h2 h3 h4 q hq hs=>?_⟩;by_cases e:i'=i/\j'=j/\k'=k
 ·obtain⟨rfl,rfl,rfl⟩:=e;exact absurd hz hq.1
 ·exact h.all i' j' k' h1 h2 h3 (by omega) q hq hs
def Known.next{l:List V}{i j:Nat}{K:List (V×Int)}(h:Known l i j j K):Known l i (j+1) 0 K:=
 ⟨h.nd,h.ok,λi' j' k' h1 h2 h3 h4=>h.all i' j' k' h1 h2 h3 (by omega)⟩
def Known.next2{l:List V}{i:Nat}{K:List (V×Int)}(h:Known l i i 0 K):Known l (i+1) 0 0 K:=
 ⟨h.nd,h.ok,λi' j' k' h1 h2 h3 h4=>h.all i' j' k' h1 h2 h3 (by omega)⟩
theorem mZ{α β:Type}{f:α->List β}{c:Nat}:∀ l:List α,(∀ x∈l,(f x).length=c)->(l.flatMap f).length=l.length*c
 | [],_=>by simp
 | x::l,h=>by
  rw[List.flatMap_cons,zta,h x zoa,mZ l (λy hy=>h y (zia _ hy)),zza,Nat.succ_mul];omega
def Known.len{l:List V}{i j k:Nat}{K:List (V×Int)}(h:Known l i j k K)(hl:l.length<=100):K.length<=2000000:=by
 have h1:=z4b (l₂:=(List.range l.length).flatMap λi=>(List.range l.length).flatMap λj=>(List.range l.length).flatMap λk=>[oN (l.getD i V.zero) (l.getD j V.zero) (l.getD k V.zero),mq (oN (l.getD i V.zero) (l.getD j V.zero) (l.getD k V.zero))]) h.nd (λq hq=>by
  obtain⟨_,i,j,k,h1,h2,h3,h4⟩:=h.ok q hq;refine zab.2 ⟨i,zNa.2 h3,zab.2 ⟨j,zNa.2 (by omega),zab.2 ⟨k,zNa.2 (by omega),?_⟩⟩⟩
  rcases h4.2 with rfl|rfl<;>simp)
 rw[mZ (c:=l.length*(l.length*2)) _ (λi _=>by rw[mZ (c:=l.length*2) _ (λj _=>by rw[mZ (c:=2) _ (λk _=>rfl),zQb]),zQb]),zQb] at h1
 refine zDa h1 ?_;have a1:l.length*2<=200:=by omega
 have a2:l.length*(l.length*2)<=100*200:=z2a hl a1;have a3:l.length*(l.length*(l.length*2))<=100*(100*200):=z2a hl a2;exact a3
def cZ{l:List V}{i:Nat}(h:i<l.length):(l.map ac)[i]?=some (ac (l.getD i V.zero)):=by simp[h,List.getD]
def cu{l:List V}{i:Nat}(h:i<l.length):l.getD i V.zero∈l:=by simp[List.getD,h]
def Do{n:Nat}{l:List V}{K:List (V×Int)}{q:V×Int}(hl:∀ x∈l,bd MV x)(hq:bd 549755813888 q.1)(hlen:l.length<=1000) :
  (if(!decide (q∈K))=true then(Option.bind (cA (n+2) 98 [a7 l,bY q]) λr=>D.truth r) else some false)=some (!decide (q∈K)&&supp l q):=by
 obtain⟨m,d⟩:=q;have hc:=X9 n (d:=d) hl hq (by decide) (by omega)
 simp only[hc,zba,ab];cases decide ((m,d)∈K)<;>rfl
end Sy
end
noncomputable section
namespace Sy
open Go Go.Proofs Geo
def IK{a b:V}(h:aC a b):oT [ba a.x b.x,ba a.y b.y,ba a.z b.z]=-1:=by
 simp only[aC] at h;rcases h with h|⟨h1,h|⟨h2,h⟩⟩
 ·simp[oT,ba,h]
 ·simp[oT,ba,h1,h]
 ·simp[oT,ba,h1,h2,h]
def IJ{a b:V}(h:aC b a):oT [ba a.x b.x,ba a.y b.y,ba a.z b.z]=1:=by
 simp only[aC] at h;rcases h with h|⟨h1,h|⟨h2,h⟩⟩
 ·simp[oT,ba,h,z6b.2 (zMa h)]
 ·simp[oT,ba,h1,h,z6b.2 (zMa h)]
 ·simp[oT,ba,h1,h2,h,z6b.2 (zMa h)]
def II(a:V):oT [ba a.x a.x,ba a.y a.y,ba a.z a.z]=0:=by simp[oT,ba]
theorem Cs{α:Type}(key:α->V):∀ (K:List α),K.Pairwise (λa b=>key a≠key b)->∃ L:List α,L.Perm K/\L.Pairwise (λa b=>aC (key a) (key b))
 | [],_=>⟨[],.refl _,.nil⟩
 | x::K,h=>by
  obtain⟨h1,h2⟩:=zCa.1 h;obtain⟨L,p1,p2⟩:=Cs key K h2;have hne:∀ y∈L,key x≠key y:=λy hy=>h1 y (p1.subset hy);have ins:∀ L:List α,L.Pairwise (λa b=>aC (key a) (key b))->(∀ y∈L,key x≠key y)->∃ M:List α,M.Perm (x::L)/\M.Pairwise (λa b=>aC (key a) (key b)):=by
   intro L
   induction L with
   | nil=>intro _ _;exact⟨[x],.refl _,by simp⟩
   | cons y L ih=>
    intro hp hn;obtain⟨q1,q2⟩:=zCa.1 hp;rcases pE (hn y zoa) with k|k
    ·refine⟨x::y::L,.refl _,zCa.2 ⟨λz hz=>?_,hp⟩⟩;rcases zva.1 hz with rfl|hz
     ·exact k
     ·exact k9 k (q1 z hz)
    ·obtain⟨M,m1,m2⟩:=ih q2 (λz hz=>hn z (zia _ hz));refine⟨y::M,(m1.cons y).trans (.swap x y L),zCa.2 ⟨λz hz=>?_,m2⟩⟩;rcases zva.1 (m1.subset hz) with rfl|hz
     ·exact k
     ·exact q1 z hz
  obtain⟨M,m1,m2⟩:=ins L p2 hne;exact⟨M,m1.trans (p1.cons x),m2⟩
def BA(n:Nat)(p q:V×Int):rX (cH aO (cA (n+3)) (iO aO (cA (n+3)))) (bV 100) (bY p) (bY q)=some (oT [ba p.1.x q.1.x,ba p.1.y q.1.y,ba p.1.z q.1.z]):=by
 unfold rX;rw[show ∀ l,(cH aO (cA (n+3)) (iO aO (cA (n+3)))).call (bV 100) l=cA (n+3) 100 l from λl=>congrFun (congrArg (cA (n+3)) (show rT (bV 100)=100 by kernel_rfl)) l,S8]
 rfl
theorem ER(n:Nat):∀ (L:List (V×Int)),L.Pairwise (λa b=>aC a.1 b.1)->qR (cH aO (cA (n+3)) (iO aO (cA (n+3)))) (bV 100) (L.map bY)=true
 | [],_=>rfl
 | p::L,h=>by
  obtain⟨h1,h2⟩:=zCa.1 h;simp only[z4a,qR,zaa,zka,z7a];refine⟨⟨?_,?_⟩,ER n L h2⟩
  ·simp only[D2,BA,II];decide
  ·rintro _ ⟨q,hq,rfl⟩;simp only[pG,D2,BA,IK (h1 q hq),IJ (h1 q hq)];decide
def JE(n:Nat){K L:List (V×Int)}(hp:L.Perm K)(h:L.Pairwise (λa b=>aC a.1 b.1)):je (cH aO (cA (n+3)) (iO aO (cA (n+3)))) (bV 100) (K.map bY)=some (L.map bY):=
 tM (ER n L h) (hp.symm.map _)
def pt(l:List V)(i:Nat):V:=l.getD i V.zero
def lO(a b:V):V.dot a.neg b=- V.dot a b:=by simp only[V.dot,V.neg];grind
def Cd.dist{l:List V}{i j k:Nat}{q:V×Int}(h:Cd l i j k q):q.2=V.dot q.1 (l.getD i V.zero):=by
 rcases h.2 with rfl|rfl
 ·rfl
 ·simp only[mq,lO];rfl
def Ct{l:List V}{q:V×Int}(h:supp l q=true){x:V}(hx:x∈l):V.dot q.1 x<=q.2:=by
 simp only[supp,pS,zaa,zka,decide_eq_true_eq] at h;exact h.1 x hx
def Known.keys{l:List V}{i j k:Nat}{K:List (V×Int)}(h:Known l i j k K):K.Pairwise (λa b=>a.1≠b.1):=by
 refine zRc (λ{a b} ha hb hab e=>hab ?_) h.nd;obtain⟨s1,i1,j1,k1,_,_,h1,c1⟩:=h.ok a ha;obtain⟨s2,i2,j2,k2,_,_,h2,c2⟩:=h.ok b hb;have e1:=c1.dist;have e2:=c2.dist;have l1:=Ct s1 (cu h2);have l2:=Ct s2 (cu h1);rw[e] at e1 l1;exact Prod.ext e (by omega)
def Yc(n:Nat){l:List V}(hl:∀ x∈l,bd MV x)(hlen:l.length<=100):∃ y,cA (n+6) 45 [a7 l]=some y/\∃ K L:List (V×Int),Known l l.length 0 0 K/\L.Perm K/\L.Pairwise (λa b=>aC a.1 b.1)/\y=.sl (L.map bY):=by
 rw[Ym];unfold L3;simp only[a7,D.asSl,zba];refine oo (λi s=>∃ K,s=[I i,.sl (gJ K)]/\Known l i 0 0 K) l.length 0 (zma _) ⟨[],rfl,⟨List.nodup_nil,by simp,λi' j' k' _ _ _ h=>by omega⟩⟩ (λi hi s hJ=>?_) (λs hJ=>?_)
 ·obtain⟨K,rfl,hK⟩:=hJ;simp only[g0,g1,zua,ah,zba,ab,decide_eq_true_eq,show((i:Int)<(l.length:Int)) from by omega,if_true,D.els]
  refine oo (λj s=>∃ K,s=[I j,.sl (gJ K)]/\Known l i j 0 K) i 0 (zma _) ⟨K,rfl,hK⟩ (λj hj s hJ=>?_) (λs hJ=>?_)
  ·obtain⟨K,rfl,hK⟩:=hJ;simp only[g0,g1,ah,zba,ab,decide_eq_true_eq,show((j:Int)<(i:Int)) from by omega,if_true,D.els]
   refine oo (λk s=>∃ K,s=[I k,.sl (gJ K)]/\Known l i j k K) j 0 (zma _) ⟨K,rfl,hK⟩ (λk hk s hJ=>?_) (λs hJ=>?_)
   ·obtain⟨K,rfl,hK⟩:=hJ;have hthr:=KD (hl _ (cu hi)) (hl _ (cu (show j<l.length by omega))) (hl _ (cu (show k<l.length by omega)))
    have hc:=X8 (n+2) (hl _ (cu hi)) (hl _ (cu (show j<l.length by omega))) (hl _ (cu (show k<l.length by omega)))
    rw[show(aE (V.cross ((l.getD j V.zero).sub (l.getD i V.zero)) ((l.getD k V.zero).sub (l.getD i V.zero))),V.dot (aE (V.cross ((l.getD j V.zero).sub (l.getD i V.zero)) ((l.getD k V.zero).sub (l.getD i V.zero)))) (l.getD i V.zero))=oN (l.getD i V.zero) (l.getD j V.zero) (l.getD k V.zero) from rfl] at hc;simp only[g0,g1,ah,zba,ab,decide_eq_true_eq,show((k:Int)<(j:Int)) from by omega,if_true,D.els,zua,ap hi,ap (show j<l.length by omega),ap (show k<l.length by omega),cZ hi,cZ (show j<l.length by omega),cZ (show k<l.length by omega),hc]
    by_cases hz:(oN (l.getD i V.zero) (l.getD j V.zero) (l.getD k V.zero)).1=V.zero
    ·have hb:D.beq (ac (oN (l.getD i V.zero) (l.getD j V.zero) (l.getD k V.zero)).1) (D.st [D.int .i64 0,D.int .i64 0,D.int .i64 0])=true:=by
      rw[ss,iQ];exact decide_eq_true hz
     simp only[show D.get (bY (oN (l.getD i V.zero) (l.getD j V.zero) (l.getD k V.zero))) [0]=some (ac (oN (l.getD i V.zero) (l.getD j V.zero) (l.getD k V.zero)).1) from rfl,zba,hb,ab,if_true,g0,D.els,aq (au (i:=k) (by omega))]
     exact⟨_,rfl,K,rfl,hK.skip hz⟩
    ·have hb:D.beq (ac (oN (l.getD i V.zero) (l.getD j V.zero) (l.getD k V.zero)).1) (D.st [D.int .i64 0,D.int .i64 0,D.int .i64 0])=false:=by
      rw[ss,iQ];exact decide_eq_false hz
     have step:=hK.step hk hj hi hz;generalize hq:oN (l.getD i V.zero) (l.getD j V.zero) (l.getD k V.zero)=q at *;obtain⟨b1,b2,b3⟩:=hthr;have hfl:D.st [ac q.1.neg,I (-q.2)]=bY (mq q):=rfl;have b4:bd 549755813888 (mq q).1:=oW b1;simp only[show D.get (bY q) [0]=some (ac q.1) from rfl,show D.get (bY q) [1]=some (I q.2) from rfl,zba,hb,ab,zwa,if_false,Ns (n+4) b1 (by decide),mK b3,hfl]
     have one:∀ (K:List (V×Int)) (p:V×Int),bd 549755813888 p.1->(Option.bind (D.un .not (Option.getD (D.mget (gJ K) (bY p)) (D.bool false))) λx32=>Option.bind (D.truth x32) λb33=>Option.bind (if b33 then(Option.bind (cA (n+5) 98 [D.sl (l.map ac),bY p]) λr34=>D.truth r34) else(some false)) λb36=>
       if b36 then(some ((0:Nat),[(D.sl [bY q,bY (mq q)]),(D.sl (D.mput (gJ K) (bY p) (D.bool true)))])) else(some (0,[(D.sl [bY q,bY (mq q)]),(D.sl (gJ K))])))=some (0,[D.sl [bY q,bY (mq q)],D.sl (gJ (io l K p))]):=λK p hp=>by
      rw[vk];have ht:=Do (n:=n+3) (K:=K) hl hp (by omega)
      simp only[a7] at ht;by_cases hm:p∈K
      ·simp[hm,aP,ab,io]
      ·simp only[hm,if_false,Option.getD_none,aP,zNb,zba,ab,if_true,decide_false,zOb] at ht ⊢;rw[ht];simp only[zba,io,hm,if_false];split
       ·rw[vn K p hm]
       ·rfl
     refine⟨.inl [I ((k+1:Nat):Int),.sl (gJ (io l (io l K q) (mq q)))],?_,_,rfl,step⟩;refine aa (z:=(0,[.sl (gJ (io l (io l K q) (mq q)))])) ?_ ?_
     ·refine aU (s':=[.sl [bY q,bY (mq q)],I 1,.sl (gJ (io l K q))]) ?_ (aU (s':=[.sl [bY q,bY (mq q)],I 2,.sl (gJ (io l (io l K q) (mq q)))]) ?_ (dD (r:=(0,[.sl (gJ (io l (io l K q) (mq q)))])) ?_ rfl))
      ·simp only[g0,g1,g2,D.els,ah,zba,ab,decide_eq_true_eq,show((0:Int)<2) from by decide,if_true,zza,zmb,show D.idx (I 0) (0+1+1)=some 0 from rfl,zEb,aq Ke]
       exact aa (one K q b1) rfl
      ·simp only[g0,g1,g2,D.els,ah,zba,ab,decide_eq_true_eq,show((1:Int)<2) from by decide,if_true,zza,zmb,show D.idx (I 1) (0+1+1)=some 1 from rfl,zdb,zEb,aq rq]
       exact aa (one (io l K q) (mq q) b4) rfl
      ·simp only[g0,g1,g2,D.els,ah,zba,ab];rfl
     ·simp only[g0,D.els,aq (au (i:=k) (by omega)),zba]
      rfl
   ·obtain⟨K,rfl,hK⟩:=hJ;simp only[g0,g1,ah,zba,ab,decide_eq_true_eq,zFc,if_false,D.els];refine⟨_,rfl,.inl [I ((j+1:Nat):Int),.sl (gJ K)],?_,K,rfl,hK.next⟩
    simp only[g0,D.els,aq (au (i:=j) (by omega)),zba]
    rfl
  ·obtain⟨K,rfl,hK⟩:=hJ;simp only[g0,g1,ah,zba,ab,decide_eq_true_eq,zFc,if_false,D.els];refine⟨_,rfl,.inl [I ((i+1:Nat):Int),.sl (gJ K)],?_,K,rfl,hK.next2⟩;simp only[g0,D.els,aq (au (i:=i) (by omega)),zba]
   rfl
 ·obtain⟨K,rfl,hK⟩:=hJ;simp only[g0,g1,zua,ah,zba,ab,decide_eq_true_eq,zFc,if_false,D.els];obtain⟨L,p1,p2⟩:=Cs (λq:V×Int=>q.1) K hK.keys;refine⟨_,rfl,.sl (L.map bY),?_,K,L,hK,p1,p2,rfl⟩;have hKl:(gJ K).length<=1073741824:=by
   have:=hK.len hlen;simp only[gJ,zua];omega
  simp only[g0,D.els,hKl,decide_true,if_true,Da,JE (n+2) p1 p2,zba]
end Sy
end
noncomputable section
namespace Sy
open Go Go.Proofs Geo
def oM{l:List V}{q:V×Int}:supp l q=true↔zY (pt l) l.length q.1 q.2:=by
 simp only[supp,pS,jG,zaa,zka,z7b,decide_eq_true_eq,zY,pt];constructor
 ·rintro⟨h1,x,hx,h2⟩;obtain⟨k,hk,rfl⟩:=zRa hx;exact⟨λk hk=>h1 _ (cu hk),k,hk,by simpa [List.getD,hk] using h2⟩
 ·rintro⟨h1,k,hk,h2⟩;refine⟨λx hx=>?_,_,cu hk,h2⟩;obtain⟨k,hk,rfl⟩:=zRa hx;simpa [List.getD,hk] using h1 k hk
def JO(P:Nat->V)(i j k:Nat):V.cross ((P j).sub (P i)) ((P k).sub (P i))=(eh P k j i).neg:=by
 apply V.ext'<;>simp only[eh,wy,V.cross,V.sub,V.neg]<;>grind
def yl{P:Nat->V}{i j k:Nat}:V.dot (aE (eh P i j k)) (P k)=V.dot (aE (eh P i j k)) (P i):=by
 by_cases h:eh P i j k=V.zero
 ·have e0:aE V.zero=V.zero:=by apply V.ext'<;>simp[aE,V.zero]
  rw[h,e0];simp[V.dot,V.zero]
 ·have g:=g9 h;have e:=iA (eh P i j k);have t2:V.dot (eh P i j k) (wy P i k)=0:=by simp only[eh,V.dot,V.cross];grind
  rw[e] at t2;have:(be (eh P i j k):Int)*V.dot (aE (eh P i j k)) (wy P i k)=0:=by rw[<-t2];simp only[V.dot,V.smul];grind
  have h0:=bo (by omega) this
  rw[dt] at h0;omega
def FO{v:V}(h:v≠V.zero):v.neg≠V.zero:=λe=>by
 have e1:=congrArg V.x e;have e2:=congrArg V.y e;have e3:=congrArg V.z e;simp only[V.neg,V.zero] at e1 e2 e3;exact h (V.ext' (by simp only[V.zero];omega) (by simp only[V.zero];omega) (by simp only[V.zero];omega))
def JM(l:List V)(i j k:Nat):(oN (pt l i) (pt l j) (pt l k)).1=(aE (eh (pt l) k j i)).neg:=by
 simp only[oN,JO (pt l) i j k,ti]
def y9(v:V):v.neg.neg=v:=by apply V.ext'<;>simp[V.neg]
def D6{l:List V}{i j k:Nat}{q:V×Int}:Cd l i j k q↔eh (pt l) k j i≠V.zero/\(q.1=aE (eh (pt l) k j i)\/q.1=(aE (eh (pt l) k j i)).neg)/\q.2=V.dot q.1 (pt l k):=by
 have e:=JM l i j k;have hd:V.dot (aE (eh (pt l) k j i)) (pt l i)=V.dot (aE (eh (pt l) k j i)) (pt l k):=yl;have hz:(oN (pt l i) (pt l j) (pt l k)).1≠V.zero↔eh (pt l) k j i≠V.zero:=by
  rw[e];constructor
  ·intro h h0;rw[h0] at h;exact h rfl
  ·intro h;exact FO (rA h)
 constructor
 ·intro h;have hds:=h.dist;obtain⟨h1,h2⟩:=h;refine⟨hz.1 h1,?_⟩;have hq:q.1=aE (eh (pt l) k j i)\/q.1=(aE (eh (pt l) k j i)).neg:=by
   rcases h2 with rfl|rfl
   ·exact .inr e
   ·left;show(oN (pt l i) (pt l j) (pt l k)).1.neg=_;rw[e,y9]
  refine⟨hq,?_⟩;rw[hds];rcases hq with hq|hq
  ·rw[hq];exact hd
  ·rw[hq,lO,lO];exact congrArg Neg.neg hd
 ·rintro⟨h1,h2,h3⟩;refine⟨hz.2 h1,?_⟩;have e2:(oN (pt l i) (pt l j) (pt l k)).2=V.dot (oN (pt l i) (pt l j) (pt l k)).1 (pt l i):=rfl;obtain⟨a,b⟩:=q;simp only at h2 h3;subst h3;rcases h2 with rfl|rfl
  ·right;show _=((oN (pt l i) (pt l j) (pt l k)).1.neg,-(oN (pt l i) (pt l j) (pt l k)).2);rw[e2,e,y9,lO,hd,Int.neg_neg]
  ·left;refine Prod.ext e.symm ?_;show _=(oN (pt l i) (pt l j) (pt l k)).2;rw[e2,e,lO,lO,hd]
def Known.facets{l:List V}{K L:List (V×Int)}(h:Known l l.length 0 0 K)(hp:L.Perm K)(ho:L.Pairwise (λa b=>aC a.1 b.1)):Facets (pt l) l.length L:=by
 refine⟨ho,λq=>⟨λhq=>?_,λhq=>?_⟩⟩
 ·obtain⟨hs,i,j,k,h1,h2,h3,hc⟩:=h.ok q (hp.subset hq);obtain⟨c1,c2,c3⟩:=D6.1 hc;exact⟨⟨k,j,i,h1,h2,h3,c1,c2,c3⟩,oM.1 hs⟩
 ·obtain⟨⟨i,j,k,h1,h2,h3,c1,c2,c3⟩,hs⟩:=hq;exact hp.symm.subset (h.all k j i h1 h2 h3 (.inl h3) q (D6.2 ⟨c1,c2,c3⟩) (oM.2 hs))
end Sy
end
noncomputable section
namespace Sy
open Go Go.Proofs Geo
def jl:Option Nat->D
 | none=>I (-1)
 | some b=>I (b:Int)
def Lz{α:Type}{p:Prop}[Decidable p]{A B:α}(h:p):(if decide p=true then A else B)=A:=by rw[if_pos (decide_eq_true h)]
def LA{α:Type}{p:Prop}[Decidable p]{A B:α}(h:¬ p):(if decide p=true then A else B)=B:=by rw[if_neg (by simpa using h)]
def az{α:Type}{p:Prop}[Decidable p]{A B y:α}(h:p)(hA:A=y):(if decide p=true then A else B)=y:=by rw[if_pos (decide_eq_true h)];exact hA
def aG{α:Type}{p:Prop}[Decidable p]{A B y:α}(h:¬ p)(hA:B=y):(if decide p=true then A else B)=y:=by rw[if_neg (by simpa using h)];exact hA
def Co{x:Int}:sg x<0↔x<0:=by unfold sg;split<;>(try split)<;>omega
def jd{x:Int}:sg x=0↔x=0:=by unfold sg;split<;>(try split)<;>omega
def cd(a b:Nat):D.beq (I (a:Int)) (I (b:Int))=decide (a=b):=by
 rw[bK];by_cases h:a=b<;>simp[h];omega
def KZ(n:Nat){l:List V}(hl:∀ x∈l,bd MV x){m:V}{d:Int}{a k:Nat}{best:Option Nat}(hm0:m≠V.zero)(ha:a<l.length)(hk:k<l.length)(hb:∀ b,best=some b->b<l.length/\V.dot m (wy (pt l) a b)=0)(hk0:V.dot m (wy (pt l) a k)=0)(X:D) :
  (Option.bind (D.truth (D.bool (D.beq (I (k:Int)) (I (a:Int))))) λb25=>
  if b25 then(some ((0:Nat),[jl best,X])) else(Option.bind (D.bin .lss (jl best) (D.int .i64 0)) λx26=>
  Option.bind (D.truth x26) λb27=>
  if b27 then(some (0,[I (k:Int),X])) else(Option.bind (D.asSl (a7 l)) λl28=>
  Option.bind (D.idx (I (k:Int)) (List.length l28)) λi29=>
  Option.bind (l28[i29]?) λx30=>
  Option.bind (D.asSl (a7 l)) λl31=>
  Option.bind (D.idx (I (a:Int)) (List.length l31)) λi32=>
  Option.bind (l31[i32]?) λx33=>
  Option.bind (cA (n+4) 103 [x30,x33]) λr34=>
  Option.bind (D.asSl (a7 l)) λl35=>
  Option.bind (D.idx (jl best) (List.length l35)) λi36=>
  Option.bind (l35[i36]?) λx37=>
  Option.bind (D.asSl (a7 l)) λl38=>
  Option.bind (D.idx (I (a:Int)) (List.length l38)) λi39=>
  Option.bind (l38[i39]?) λx40=>
  Option.bind (cA (n+4) 103 [x37,x40]) λr41=>
  Option.bind (D.get (bY (m,d)) [0]) λx42=>
  Option.bind (cA (n+4) 104 [x42,r41,r34]) λr43=>
  Option.bind (D.bin .lss r43 (D.int .i64 0)) λx44=>
  Option.bind (D.truth x44) λb45=>
  Option.bind (if b45 then(some true) else(Option.bind (D.truth (D.bool (D.beq r43 (D.int .i64 0)))) λb46=>
  if b46 then(Option.bind (cA (n+4) 101 [r34,r34]) λr47=>
  Option.bind (cA (n+4) 101 [r41,r41]) λr48=>
  Option.bind (D.bin .gtr r47 r48) λx49=>
  D.truth x49) else(some false))) λb50=>
  Option.bind (D.truth (D.bool b50)) λb51=>
  if b51 then(some (0,[I (k:Int),X])) else(some (0,[jl best,X])))))=some (0,[jl (cQ m (pt l) a best k),X]):=by
 by_cases hka:k=a
 ·subst hka;have h0:D.beq (I (k:Int)) (I (k:Int))=true:=by rw[cd];simp
  rw[h0,show cQ m (pt l) k best k=best from if_pos rfl];exact aa (z:=true) rfl (if_pos rfl)
 ·have h0:D.beq (I (k:Int)) (I (a:Int))=false:=by rw[cd];simp[hka]
  rw[h0];refine aa (z:=false) rfl ?_;rw[if_neg (by decide)]
  have hns:∀ b,cQ m (pt l) a b k=match b with
   | none=>some k
   | some b=>if oX m (pt l) a b k then some k else some b:=λb=>if_neg hka
  rw[hns];clear hns h0;cases best with
  | none=>exact aa (z:=.bool true) rfl (aa (z:=true) rfl rfl)
  | some b=>
   obtain⟨hb1,hb2⟩:=hb b rfl;have c1:=EH (n+2) (hl _ (cu hk)) (hl _ (cu ha)) (by decide)
   have c2:=EH (n+2) (hl _ (cu hb1)) (hl _ (cu ha)) (by decide)
   have w1:bd 524288 (wy (pt l) a k):=mC (hl _ (cu ha)) (hl _ (cu hk));have w2:bd 524288 (wy (pt l) a b):=mC (hl _ (cu ha)) (hl _ (cu hb1));have e1:(l.getD k V.zero).sub (l.getD a V.zero)=wy (pt l) a k:=rfl;have e2:(l.getD b V.zero).sub (l.getD a V.zero)=wy (pt l) a b:=rfl;rw[e1] at c1;rw[e2] at c2;have c3:=S9 (n+1) (m:=m) w2 w1 (by decide)
   have c4:=EG (n+3) w1 w1 (by decide)
   have c5:=EG (n+3) w2 w2 (by decide)
   have hle:=BU hm0 (jy hb2 hk0);rw[hle] at c3;have hlt:¬ ((b:Int)<0):=by omega
   have ll:(l.map ac).length=l.length:=zua ..;refine aa (z:=.bool false) (by rw[show jl (some b)=I (b:Int) from rfl,ah,decide_eq_false hlt]) (aa (z:=false) rfl ?_)
   rw[if_neg (by decide)]
   refine aa (z:=l.map ac) rfl (aa (z:=k) (by rw[ll];exact ap hk) (aa (cZ hk) ?_))
   refine aa (z:=l.map ac) rfl (aa (z:=a) (by rw[ll];exact ap ha) (aa (cZ ha) ?_))
   refine aa c1 ?_;refine aa (z:=l.map ac) rfl (aa (z:=b) (by rw[ll];exact ap hb1) (aa (cZ hb1) ?_))
   refine aa (z:=l.map ac) rfl (aa (z:=a) (by rw[ll];exact ap ha) (aa (cZ ha) ?_))
   refine aa c2 (aa (z:=ac m) rfl (aa c3 (aa ah (aa ab ?_))));simp only[Co,bK,jd,ab,zba,c4,c5,cV,oX,T];by_cases t1:V.dot m (V.cross (wy (pt l) a b) (wy (pt l) a k))<0
   ·simp[t1,jl]
   ·by_cases t2:V.dot m (V.cross (wy (pt l) a b) (wy (pt l) a k))=0
    ·by_cases t3:V.dot (wy (pt l) a b) (wy (pt l) a b)<V.dot (wy (pt l) a k) (wy (pt l) a k)
     ·simp[t2,t3,jl]
     ·simp[t2,t3,jl]
    ·simp[t1,t2,jl]
end Sy
end
end Go.Proofs.YtphlmegkommlnaaGreatDoor
