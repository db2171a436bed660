/- Part 18 of the proof that PlaneChecksMatchSpec answers true at every input -/
import Derived.Test.YtphlmegkommlnaaGreatDoorChecks09
set_option linter.unusedVariables false
set_option linter.unusedSimpArgs false
set_option linter.unnecessarySimpa false
set_option linter.defProp false
set_option maxRecDepth 20000
namespace Go.Proofs.YtphlmegkommlnaaGreatDoor
noncomputable section
namespace Sy
open Go Go.Proofs
def aO:Lp:=λ{α β} body=>kC (α:=α) (β:=β) body
def cA(n:Nat):Nat->List D->Option D:=DP aO n
section
variable(n:Nat)(a0 a1 a2 a3 a4 a5:D)
def T5:cA (n+1) 12 [a0]=KP aO (cA n) a0:=by kernel_rfl
def XO:cA (n+1) 13 [a0,a1]=Np aO (cA n) a0 a1:=by kernel_rfl
def XP:cA (n+1) 15 [a0]=Nq aO (cA n) a0:=by kernel_rfl
def XQ:cA (n+1) 18 [a0]=Nr aO (cA n) a0:=by kernel_rfl
def XR:cA (n+1) 19 [a0]=Ns aO (cA n) a0:=by kernel_rfl
def XS:cA (n+1) 31 [a0]=Nu aO (cA n) a0:=by kernel_rfl
def u32:cA (n+1) 32 [a0,a1]=KQ aO (cA n) a0 a1:=by kernel_rfl
def XT:cA (n+1) 33 [a0,a1]=Nv aO (cA n) a0 a1:=by kernel_rfl
def XU:cA (n+1) 34 [a0]=Nw aO (cA n) a0:=by kernel_rfl
def UY:cA (n+1) 37 [a0,a1]=KR aO (cA n) a0 a1:=by kernel_rfl
def VJ:cA (n+1) 38 [a0,a1]=Lo aO (cA n) a0 a1:=by kernel_rfl
def XV:cA (n+1) 39 [a0,a1]=Nx aO (cA n) a0 a1:=by kernel_rfl
def VK:cA (n+1) 40 [a0,a1]=Lr aO (cA n) a0 a1:=by kernel_rfl
def XW:cA (n+1) 41 [a0,a1]=Ny aO (cA n) a0 a1:=by kernel_rfl
def XX:cA (n+1) 45 [a0]=KS aO (cA n) a0:=by kernel_rfl
def XY:cA (n+1) 46 [a0,a1]=Nz aO (cA n) a0 a1:=by kernel_rfl
def XZ:cA (n+1) 47 [a0]=NA aO (cA n) a0:=by kernel_rfl
def X0:cA (n+1) 48 [a0]=NC aO (cA n) a0:=by kernel_rfl
def X2:cA (n+1) 52 [a0]=ND aO (cA n) a0:=by kernel_rfl
def X3:cA (n+1) 53 [a0,a1]=NE aO (cA n) a0 a1:=by kernel_rfl
def X4:cA (n+1) 54 [a0]=NF aO (cA n) a0:=by kernel_rfl
def X5:cA (n+1) 57 [a0,a1]=NG aO (cA n) a0 a1:=by kernel_rfl
def Vq:cA (n+1) 59 [a0,a1]=KU aO (cA n) a0 a1:=by kernel_rfl
def X7:cA (n+1) 61 [a0,a1]=NH aO (cA n) a0 a1:=by kernel_rfl
def Vr:cA (n+1) 62 [a0,a1]=KV aO (cA n) a0 a1:=by kernel_rfl
def X8:cA (n+1) 68 [a0]=NI aO (cA n) a0:=by kernel_rfl
def VL:cA (n+1) 70 [a0]=LJ aO (cA n) a0:=by kernel_rfl
def X9:cA (n+1) 71 [a0]=NJ aO (cA n) a0:=by kernel_rfl
def Ya:cA (n+1) 72 [a0,a1]=NK aO (cA n) a0 a1:=by kernel_rfl
def Yb:cA (n+1) 73 [a0,a1]=NL aO (cA n) a0 a1:=by kernel_rfl
def Yc:cA (n+1) 74 [a0]=NM aO (cA n) a0:=by kernel_rfl
def Yd:cA (n+1) 75 [a0]=NN aO (cA n) a0:=by kernel_rfl
def Vs:cA (n+1) 76 [a0]=KW aO (cA n) a0:=by kernel_rfl
def Ye:cA (n+1) 77 [a0]=NO aO (cA n) a0:=by kernel_rfl
def Yf:cA (n+1) 78 [a0,a1]=NP aO (cA n) a0 a1:=by kernel_rfl
def Yg:cA (n+1) 79 [a0,a1]=NQ aO (cA n) a0 a1:=by kernel_rfl
def Yh:cA (n+1) 80 [a0]=NR aO (cA n) a0:=by kernel_rfl
def VM:cA (n+1) 81 [a0,a1]=LK aO (cA n) a0 a1:=by kernel_rfl
def Yi:cA (n+1) 82 [a0,a1]=NS aO (cA n) a0 a1:=by kernel_rfl
def Yj:cA (n+1) 83 [a0]=NT aO (cA n) a0:=by kernel_rfl
def Yk:cA (n+1) 84 []=NU aO (cA n) :=by kernel_rfl
def VN:cA (n+1) 85 [a0,a1]=LL aO (cA n) a0 a1:=by kernel_rfl
def Yl:cA (n+1) 86 [a0]=NV aO (cA n) a0:=by kernel_rfl
def Vt:cA (n+1) 87 [a0,a1]=KX aO (cA n) a0 a1:=by kernel_rfl
def Lf:cA (n+1) 88 [a0]=Hj aO (cA n) a0:=by kernel_rfl
def Vu:cA (n+1) 89 [a0,a1]=KY aO (cA n) a0 a1:=by kernel_rfl
def Ym:cA (n+1) 90 [a0,a1]=NW aO (cA n) a0 a1:=by kernel_rfl
def Yn:cA (n+1) 91 [a0,a1]=NX aO (cA n) a0 a1:=by kernel_rfl
def Yo:cA (n+1) 96 [a0,a1,a2]=NY aO (cA n) a0 a1 a2:=by kernel_rfl
def Yp:cA (n+1) 97 [a0]=NZ aO (cA n) a0:=by kernel_rfl
def Yq:cA (n+1) 98 [a0,a1]=N0 aO (cA n) a0 a1:=by kernel_rfl
def TL:cA (n+1) 100 [a0,a1]=FD aO (cA n) a0 a1:=by kernel_rfl
def TM:cA (n+1) 101 [a0,a1]=De aO (cA n) a0 a1:=by kernel_rfl
def TN:cA (n+1) 103 [a0,a1]=FE aO (cA n) a0 a1:=by kernel_rfl
def TO:cA (n+1) 104 [a0,a1,a2]=FF aO (cA n) a0 a1 a2:=by kernel_rfl
def TP:cA (n+1) 105 [a0,a1]=FG aO (cA n) a0 a1:=by kernel_rfl
def TQ:cA (n+1) 106 [a0,a1,a2]=FH aO (cA n) a0 a1 a2:=by kernel_rfl
def TR:cA (n+1) 107 [a0,a1]=FI aO (cA n) a0 a1:=by kernel_rfl
def TS:cA (n+1) 108 [a0,a1]=FJ aO (cA n) a0 a1:=by kernel_rfl
def TT:cA (n+1) 109 [a0,a1,a2]=FK aO (cA n) a0 a1 a2:=by kernel_rfl
def TU:cA (n+1) 110 [a0,a1]=FM aO (cA n) a0 a1:=by kernel_rfl
def TW:cA (n+1) 111 [a0,a1,a2]=FN aO (cA n) a0 a1 a2:=by kernel_rfl
def TX:cA (n+1) 112 [a0,a1]=FO aO (cA n) a0 a1:=by kernel_rfl
def TY:cA (n+1) 115 [a0]=FP aO (cA n) a0:=by kernel_rfl
def TZ:cA (n+1) 116 [a0,a1]=FQ aO (cA n) a0 a1:=by kernel_rfl
def T1:cA (n+1) 117 [a0,a1]=FR aO (cA n) a0 a1:=by kernel_rfl
def T2:cA (n+1) 118 [a0]=FS aO (cA n) a0:=by kernel_rfl
def T4:cA (n+1) 119 []=FT aO (cA n) :=by kernel_rfl
def T6:cA (n+1) 120 [a0,a1]=FU aO (cA n) a0 a1:=by kernel_rfl
def T7:cA (n+1) 121 [a0,a1]=FV aO (cA n) a0 a1:=by kernel_rfl
def T8:cA (n+1) 122 [a0,a1]=FX aO (cA n) a0 a1:=by kernel_rfl
def T9:cA (n+1) 123 [a0,a1]=FY aO (cA n) a0 a1:=by kernel_rfl
def KF:cA (n+1) 124 [a0]=Bx aO (cA n) a0:=by kernel_rfl
def Ua:cA (n+1) 125 []=FZ aO (cA n) :=by kernel_rfl
def Ub:cA (n+1) 126 [a0,a1]=F5 aO (cA n) a0 a1:=by kernel_rfl
def Uc:cA (n+1) 127 [a0]=F6 aO (cA n) a0:=by kernel_rfl
def M5:cA (n+1) 128 [a0]=Df aO (cA n) a0:=by kernel_rfl
def Ud:cA (n+1) 129 [a0]=F7 aO (cA n) a0:=by kernel_rfl
def Ue:cA (n+1) 130 []=F8 aO (cA n) :=by kernel_rfl
def Uf:cA (n+1) 131 [a0,a1]=F9 aO (cA n) a0 a1:=by kernel_rfl
def M6:cA (n+1) 132 [a0,a1]=Dg aO (cA n) a0 a1:=by kernel_rfl
def Ug:cA (n+1) 133 []=Ga aO (cA n) :=by kernel_rfl
def Uh:cA (n+1) 134 [a0,a1]=Gb aO (cA n) a0 a1:=by kernel_rfl
def Ui:cA (n+1) 135 [a0]=Gc aO (cA n) a0:=by kernel_rfl
def M7:cA (n+1) 136 [a0]=Dh aO (cA n) a0:=by kernel_rfl
def Uj:cA (n+1) 137 [a0,a1]=Gd aO (cA n) a0 a1:=by kernel_rfl
def Uk:cA (n+1) 138 [a0]=Ge aO (cA n) a0:=by kernel_rfl
def KG:cA (n+1) 139 [a0]=By aO (cA n) a0:=by kernel_rfl
def Ul:cA (n+1) 140 [a0]=Gf aO (cA n) a0:=by kernel_rfl
def Um:cA (n+1) 141 [a0,a1]=Gg aO (cA n) a0 a1:=by kernel_rfl
def Un:cA (n+1) 142 [a0]=Gh aO (cA n) a0:=by kernel_rfl
def Uo:cA (n+1) 143 [a0,a1]=Gi aO (cA n) a0 a1:=by kernel_rfl
def M8:cA (n+1) 144 [a0,a1]=Di aO (cA n) a0 a1:=by kernel_rfl
def Up:cA (n+1) 145 [a0]=Gj aO (cA n) a0:=by kernel_rfl
def Uq:cA (n+1) 146 [a0,a1]=Gk aO (cA n) a0 a1:=by kernel_rfl
def Ur:cA (n+1) 147 [a0,a1]=Gl aO (cA n) a0 a1:=by kernel_rfl
def Us:cA (n+1) 148 [a0]=Gm aO (cA n) a0:=by kernel_rfl
def M9:cA (n+1) 152 [a0,a1]=Dj aO (cA n) a0 a1:=by kernel_rfl
def Ut:cA (n+1) 154 [a0,a1]=Gn aO (cA n) a0 a1:=by kernel_rfl
def Uu:cA (n+1) 155 [a0]=Gp aO (cA n) a0:=by kernel_rfl
def Uv:cA (n+1) 156 [a0,a1,a2,a3,a4]=Gq aO (cA n) a0 a1 a2 a3 a4:=by kernel_rfl
def Uw:cA (n+1) 165 [a0]=Gr aO (cA n) a0:=by kernel_rfl
def Ux:cA (n+1) 167 [a0]=Gs aO (cA n) a0:=by kernel_rfl
def Uy:cA (n+1) 168 [a0,a1]=Gt aO (cA n) a0 a1:=by kernel_rfl
def Uz:cA (n+1) 169 []=Gu aO (cA n) :=by kernel_rfl
def UA:cA (n+1) 170 [a0,a1]=Gv aO (cA n) a0 a1:=by kernel_rfl
def UB:cA (n+1) 171 [a0]=Gw aO (cA n) a0:=by kernel_rfl
def Na:cA (n+1) 172 [a0,a1]=Dk aO (cA n) a0 a1:=by kernel_rfl
def Nb:cA (n+1) 173 [a0,a1]=Dl aO (cA n) a0 a1:=by kernel_rfl
def Nc:cA (n+1) 174 [a0,a1]=Dm aO (cA n) a0 a1:=by kernel_rfl
def UC:cA (n+1) 175 [a0,a1]=Gx aO (cA n) a0 a1:=by kernel_rfl
def UD:cA (n+1) 186 [a0]=Gy aO (cA n) a0:=by kernel_rfl
def Nd:cA (n+1) 187 [a0]=Dn aO (cA n) a0:=by kernel_rfl
def UE:cA (n+1) 188 [a0,a1]=Gz aO (cA n) a0 a1:=by kernel_rfl
def UF:cA (n+1) 194 [a0]=GA aO (cA n) a0:=by kernel_rfl
def UG:cA (n+1) 195 [a0,a1]=GB aO (cA n) a0 a1:=by kernel_rfl
def UH:cA (n+1) 196 [a0]=GC aO (cA n) a0:=by kernel_rfl
def UI:cA (n+1) 197 [a0,a1]=GD aO (cA n) a0 a1:=by kernel_rfl
def UJ:cA (n+1) 201 [a0,a1]=GE aO (cA n) a0 a1:=by kernel_rfl
def UK:cA (n+1) 202 [a0]=Bz aO (cA n) a0:=by kernel_rfl
def UL:cA (n+1) 203 [a0,a1]=GF aO (cA n) a0 a1:=by kernel_rfl
def UM:cA (n+1) 215 [a0]=GG aO (cA n) a0:=by kernel_rfl
def UN:cA (n+1) 217 [a0]=GH aO (cA n) a0:=by kernel_rfl
def UO:cA (n+1) 324 [a0,a1]=GI aO (cA n) a0 a1:=by kernel_rfl
def UP:cA (n+1) 331 [a0]=GJ aO (cA n) a0:=by kernel_rfl
def UQ:cA (n+1) 336 [a0,a1]=GK aO (cA n) a0 a1:=by kernel_rfl
def UR:cA (n+1) 340 [a0,a1]=GL aO (cA n) a0 a1:=by kernel_rfl
def US:cA (n+1) 344 [a0,a1]=GM aO (cA n) a0 a1:=by kernel_rfl
def UT:cA (n+1) 345 [a0,a1]=GN aO (cA n) a0 a1:=by kernel_rfl
def UU:cA (n+1) 348 [a0]=GO aO (cA n) a0:=by kernel_rfl
def UV:cA (n+1) 349 [a0]=GP aO (cA n) a0:=by kernel_rfl
def Nf:cA (n+1) 357 [a0]=Do aO (cA n) a0:=by kernel_rfl
def UW:cA (n+1) 364 [a0,a1]=GQ aO (cA n) a0 a1:=by kernel_rfl
def UX:cA (n+1) 365 [a0]=GR aO (cA n) a0:=by kernel_rfl
def Ng:cA (n+1) 373 [a0,a1]=Dp aO (cA n) a0 a1:=by kernel_rfl
def UZ:cA (n+1) 374 [a0]=GS aO (cA n) a0:=by kernel_rfl
def U0:cA (n+1) 385 [a0]=GT aO (cA n) a0:=by kernel_rfl
def Nh:cA (n+1) 386 [a0,a1]=Dq aO (cA n) a0 a1:=by kernel_rfl
def U2:cA (n+1) 387 [a0]=GU aO (cA n) a0:=by kernel_rfl
def U3:cA (n+1) 388 [a0,a1]=GV aO (cA n) a0 a1:=by kernel_rfl
def U4:cA (n+1) 392 [a0,a1]=GW aO (cA n) a0 a1:=by kernel_rfl
def U5:cA (n+1) 393 [a0]=GX aO (cA n) a0:=by kernel_rfl
def KH:cA (n+1) 394 [a0]=BA aO (cA n) a0:=by kernel_rfl
def U6:cA (n+1) 414 [a0,a1,a2,a3]=GZ aO (cA n) a0 a1 a2 a3:=by kernel_rfl
def Ni:cA (n+1) 418 [a0]=Dr aO (cA n) a0:=by kernel_rfl
def U7:cA (n+1) 419 [a0,a1,a2,a3,a4]=G0 aO (cA n) a0 a1 a2 a3 a4:=by kernel_rfl
def U8:cA (n+1) 420 [a0,a1,a2,a3,a4]=G1 aO (cA n) a0 a1 a2 a3 a4:=by kernel_rfl
def U9:cA (n+1) 421 [a0,a1,a2,a3,a4]=G2 aO (cA n) a0 a1 a2 a3 a4:=by kernel_rfl
def Va:cA (n+1) 422 [a0,a1,a2,a3,a4]=G3 aO (cA n) a0 a1 a2 a3 a4:=by kernel_rfl
def Vb:cA (n+1) 423 [a0,a1,a2]=G4 aO (cA n) a0 a1 a2:=by kernel_rfl
def Vc:cA (n+1) 424 [a0,a1,a2]=G5 aO (cA n) a0 a1 a2:=by kernel_rfl
def Vd:cA (n+1) 426 [a0]=G6 aO (cA n) a0:=by kernel_rfl
def Ve:cA (n+1) 427 [a0]=G7 aO (cA n) a0:=by kernel_rfl
def Vf:cA (n+1) 431 [a0,a1]=G8 aO (cA n) a0 a1:=by kernel_rfl
def Vg:cA (n+1) 433 [a0,a1]=G9 aO (cA n) a0 a1:=by kernel_rfl
def Vh:cA (n+1) 434 [a0,a1,a2]=Ha aO (cA n) a0 a1 a2:=by kernel_rfl
def Vi:cA (n+1) 435 [a0,a1]=Hb aO (cA n) a0 a1:=by kernel_rfl
def Vj:cA (n+1) 437 [a0,a1,a2]=Hc aO (cA n) a0 a1 a2:=by kernel_rfl
def Vk:cA (n+1) 438 [a0]=Hd aO (cA n) a0:=by kernel_rfl
def Nj:cA (n+1) 439 [a0]=Ds aO (cA n) a0:=by kernel_rfl
def Vl:cA (n+1) 440 [a0,a1]=He aO (cA n) a0 a1:=by kernel_rfl
def Vm:cA (n+1) 441 [a0]=Hf aO (cA n) a0:=by kernel_rfl
def Vn:cA (n+1) 442 [a0,a1]=Hg aO (cA n) a0 a1:=by kernel_rfl
def Vo:cA (n+1) 446 [a0,a1]=Hh aO (cA n) a0 a1:=by kernel_rfl
def Vp:cA (n+1) 452 [a0,a1]=Hi aO (cA n) a0 a1:=by kernel_rfl
end
end Sy
end
noncomputable section
namespace Geo
structure V where
 x:Int
 y:Int
 z:Int
deriving DecidableEq
namespace V
def sub(a b:V):V:=⟨a.x-b.x,a.y-b.y,a.z-b.z⟩
def neg(a:V):V:=⟨-a.x,-a.y,-a.z⟩
def add(a b:V):V:=⟨a.x+b.x,a.y+b.y,a.z+b.z⟩
def smul(k:Int)(a:V):V:=⟨k*a.x,k*a.y,k*a.z⟩
def dot(a b:V):Int:=a.x*b.x+a.y*b.y+a.z*b.z
def cross(a b:V):V:=⟨a.y*b.z-a.z*b.y,a.z*b.x-a.x*b.z,a.x*b.y-a.y*b.x⟩
def zero:V:=⟨0,0,0⟩
def ext'{a b:V}(h1:a.x=b.x)(h2:a.y=b.y)(h3:a.z=b.z):a=b:=by cases a;cases b;simp_all
end V
open V
def zS{a:Int}(h:a≠0):0<a*a:=by
 rcases Int.lt_or_lt_of_ne h with h|h
 ·exact zfc h h
 ·exact zSb h h
def kV(a:Int):0<=a*a:=by
 rcases zTb a 0 with h|h|h
 ·exact z5a (zfc h h)
 ·subst h;decide
 ·exact z5a (zSb h h)
def pw(a:V):0<=dot a a:=by
 have:=kV a.x;have:=kV a.y;have:=kV a.z;simp only[dot];omega
def tg{a:V}(h:dot a a=0):a=zero:=by
 have h1:=kV a.x;have h2:=kV a.y;have h3:=kV a.z;simp only[dot] at h;have e1:a.x*a.x=0:=by omega
 have e2:a.y*a.y=0:=by omega
 have e3:a.z*a.z=0:=by omega
 apply V.ext'<;>simp only[zero]<;>(first|(rcases zZc.1 e1 with h|h<;>exact h)|(rcases zZc.1 e2 with h|h<;>exact h)|(rcases zZc.1 e3 with h|h<;>exact h))
def bX{a:V}(h:a≠zero):0<dot a a:=by
 have:=pw a;rcases zAb this with h1|h1
 ·exact h1
 ·exact absurd (tg h1.symm) h
def T(n u v:V):Int:=dot n (cross u v)
def sf{a b:Int}(ha:0<a)(h:0<a*b):0<b:=by
 rcases zTb b 0 with hb|hb|hb
 ·have:=zDc ha hb;omega
 ·subst hb;simp at h
 ·exact hb
def Cm{a b:Int}(ha:0<a)(h:0<=a*b):0<=b:=by
 rcases Int.lt_or_le b 0 with hb|hb
 ·have:=zDc ha hb;omega
 ·exact hb
def bA{a b:Int}(ha:0<a)(h:a*b=0):b=0:=by
 rcases zZc.1 h with h|h
 ·omega
 ·exact h
section plane
variable{n:V}(hn:n≠zero)
include hn
def Bc(f:V){u v w:V}(hu:dot n u=0)(hv:dot n v=0)(hw:dot n w=0) :
  dot f u*T n v w+dot f v*T n w u+dot f w*T n u v=0:=by
 have h:dot n n*(dot f u*T n v w+dot f v*T n w u+dot f w*T n u v)=0:=by
  simp only[T,dot,cross] at *;grind
 exact bA (bX hn) h
def Ah{f u v w:V}(hu:dot n u=0)(hv:dot n v=0)(hw:dot n w=0)(fu:0<dot f u)(fv:0<dot f v)(fw:0<dot f w)
  (h1:0<=T n u v) (h2:0<=T n v w):0<=T n u w/\(0<T n u v\/0<T n v w->0<T n u w):=by
 have p:=Bc hn f hu hv hw;have e:T n w u=- T n u w:=by simp only[T,dot,cross];grind
 rw[e] at p;have q:dot f v*T n u w=dot f u*T n v w+dot f w*T n u v:=by
  have:dot f v*-T n u w=-(dot f v*T n u w):=Int.mul_neg _ _;omega
 have q1:=zoc (z5a fu) h2;have q2:=zoc (z5a fw) h1;refine⟨Cm fv (by omega),λh=>sf fv ?_⟩
 rcases h with h|h
 ·have:=zSb fw h;omega
 ·have:=zSb fu h;omega
def fA{u v:V}(hu:dot n u=0)(hv:dot n v=0)(h:T n u v=0):cross u v=zero:=by
 have hp:=bX hn;have e1:dot n n*(cross u v).x=T n u v*n.x:=by simp only[T,dot,cross] at *;grind
 have e2:dot n n*(cross u v).y=T n u v*n.y:=by simp only[T,dot,cross] at *;grind
 have e3:dot n n*(cross u v).z=T n u v*n.z:=by simp only[T,dot,cross] at *;grind
 rw[h,zNc] at e1 e2 e3;exact V.ext' (bA hp e1) (bA hp e2) (bA hp e3)
end plane
def Il{u v:V}(h:cross u v=zero)(f:V):smul (dot f u) v=smul (dot f v) u:=by
 have h1:(cross u v).x=0:=by rw[h];rfl
 have h2:(cross u v).y=0:=by rw[h];rfl
 have h3:(cross u v).z=0:=by rw[h];rfl
 simp only[cross] at h1 h2 h3;apply V.ext'<;>simp only[smul,dot]<;>grind
def EM{u v:V}(h:cross u v=zero)(hu:u≠zero)(hd:dot v u=dot u u):v=u:=by
 have p:=Il h u;have e:dot u v=dot v u:=by simp only[dot];grind
 have hp:=bX hu;rw[e,hd] at p;have p1:dot u u*(v.x-u.x)=0:=by have:=congrArg V.x p;simp only[smul] at this;grind
 have p2:dot u u*(v.y-u.y)=0:=by have:=congrArg V.y p;simp only[smul] at this;grind
 have p3:dot u u*(v.z-u.z)=0:=by have:=congrArg V.z p;simp only[smul] at this;grind
 have:=bA hp p1;have:=bA hp p2;have:=bA hp p3;exact V.ext' (by omega) (by omega) (by omega)
theorem gT{α:Type}(φ:α->Int):∀ l:List α,∃ N:Int,0<N/\∀ x∈l,-N<φ x/\φ x<N
 | []=>⟨1,by decide,by simp⟩
 | a::l=>by
  obtain⟨N,h0,h⟩:=gT φ l;refine⟨N+(φ a).natAbs+1,by omega,λx hx=>?_⟩
  rcases zva.1 hx with rfl|hx
  ·omega
  ·have:=h x hx;omega
def wy(P:Nat->V)(a x:Nat):V:=sub (P x) (P a)
structure Side(n:V)(P:Nat->V)(on:List Nat)(a b:Nat):Prop where
 mem:b∈on
 ne:b≠a
 all:∀ x∈on,0<=T n (wy P a b) (wy P a x)/\(T n (wy P a b) (wy P a x)=0->0<=dot (wy P a x) (wy P a b)/\dot (wy P a x) (wy P a b)<=dot (wy P a b) (wy P a b))
def ke(P:Nat->V)(on:List Nat)(a:Nat):Prop:=∃ f:V,∀ x∈on,x≠a->0<dot f (wy P a x)
structure Flat(n:V)(P:Nat->V)(on:List Nat):Prop where
 nz:n≠zero
 pl:∀ x∈on,∀ y∈on,dot n (wy P x y)=0
 inj:∀ x∈on,∀ y∈on,P x=P y->x=y
section poly
variable{n:V}{P:Nat->V}{on:List Nat}
def pW(h:Flat n P on){a b:Nat}(ha:a∈on)(hb:b∈on)(hab:b≠a):wy P a b≠zero:=λe=>by
 apply hab;apply h.inj b hb a ha;have e1:=congrArg V.x e;have e2:=congrArg V.y e;have e3:=congrArg V.z e;simp only[wy,sub,zero] at e1 e2 e3;exact V.ext' (by omega) (by omega) (by omega)
def Fu{a b c:Nat}(h:wy P a b=wy P a c):P b=P c:=by
 have e1:=congrArg V.x h;have e2:=congrArg V.y h;have e3:=congrArg V.z h;simp only[wy,sub] at e1 e2 e3;exact V.ext' (by omega) (by omega) (by omega)
def Side.unique(h:Flat n P on){a b c:Nat}(ha:a∈on)(hb:Side n P on a b)(hc:Side n P on a c):b=c:=by
 have h1:=hb.all c hc.mem;have h2:=hc.all b hb.mem;have e:T n (wy P a c) (wy P a b)=- T n (wy P a b) (wy P a c):=by simp only[T,dot,cross];grind
 rw[e] at h2;have t0:T n (wy P a b) (wy P a c)=0:=by omega
 have k1:=h1.2 t0;have k2:=h2.2 (by omega)
 have es:dot (wy P a b) (wy P a c)=dot (wy P a c) (wy P a b):=by simp only[dot];grind
 have hx:=fA h.nz (h.pl a ha b hb.mem) (h.pl a ha c hc.mem) t0;have hq:dot (wy P a b) (wy P a b)*dot (wy P a c) (wy P a c)=dot (wy P a c) (wy P a b)*dot (wy P a c) (wy P a b):=by
  have p:=Il hx (wy P a b);have p1:=congrArg V.x p;have p2:=congrArg V.y p;have p3:=congrArg V.z p;simp only[smul] at p1 p2 p3;simp only[dot] at *;grind
 have hbp:=bX (pW h ha hb.mem hb.ne);have hcp:=bX (pW h ha hc.mem hc.ne);have hle:dot (wy P a c) (wy P a b)=dot (wy P a b) (wy P a b):=by
  generalize dot (wy P a b) (wy P a b)=B at *;generalize dot (wy P a c) (wy P a c)=C at *;generalize dot (wy P a c) (wy P a b)=X at *;rw[es] at k2;rcases zAb k1.2 with hlt|heq
  ·exfalso;have:X*X<B*C:=by
    have a1:X*X<=X*C:=zwb k2.2 k1.1;have a2:X*C<B*C:=Int.mul_lt_mul_of_pos_right hlt hcp;omega
   omega
  ·exact heq
 have:=EM hx (pW h ha hb.mem hb.ne) hle;exact(h.inj c hc.mem b hb.mem (Fu this)).symm
def Side.ext(h:Flat n P on){a b:Nat}(ha:a∈on)(hb:Side n P on a b):ke P on b:=by
 obtain⟨N,hN0,hN⟩:=gT (λx=>dot (wy P b a) (wy P b x)) on;refine⟨add (smul N (cross n (wy P a b))) (wy P b a),λx hx hxb=>?_⟩;have e:dot (add (smul N (cross n (wy P a b))) (wy P b a)) (wy P b x)=N*T n (wy P a b) (wy P a x)+dot (wy P b a) (wy P b x):=by
  simp only[T,dot,cross,add,smul,wy,sub];grind
 rw[e];obtain⟨h1,h2⟩:=hb.all x hx;have h3:=hN x hx;rcases zAb h1 with hlt|heq
 ·have:N*1<=N*T n (wy P a b) (wy P a x):=zwb (by omega) (by omega)
  omega
 ·rw[<-heq,zmd,zkc];have h4:=h2 heq.symm;have e2:dot (wy P b a) (wy P b x)=dot (wy P a b) (wy P a b)-dot (wy P a x) (wy P a b):=by simp only[dot,wy,sub];grind
  rw[e2];rcases zAb h4.2 with h5|h5
  ·omega
  ·exfalso;have hx0:=fA h.nz (h.pl a ha b hb.mem) (h.pl a ha x hx) heq.symm;exact hxb (h.inj x hx b hb.mem (Fu (EM hx0 (pW h ha hb.mem hb.ne) h5)))
def ke.ray(h:Flat n P on){a x y:Nat}(ha:a∈on)(hx:x∈on)(hy:y∈on)(ea:ke P on a)(ex:ke P on x)(ey:ke P on y)(hxa:x≠a)(hya:y≠a)(ht:T n (wy P a x) (wy P a y)=0):x=y:=by
 by_cases hxy:x=y
 ·exact hxy
 exfalso;obtain⟨f,hf⟩:=ea;obtain⟨g,hg⟩:=ex;obtain⟨k,hk⟩:=ey;have c:=fA h.nz (h.pl a ha x hx) (h.pl a ha y hy) ht;have p:=Il c f;have fx:=hf x hx hxa;have fy:=hf y hy hya;have g1:=hg a ha (Ne.symm hxa);have g2:=hg y hy (Ne.symm hxy);have k1:=hk a ha (Ne.symm hya);have k2:=hk x hx hxy;have q1:dot f (wy P a x)*dot g (wy P a y)=dot f (wy P a y)*dot g (wy P a x):=by
  have p1:=congrArg V.x p;have p2:=congrArg V.y p;have p3:=congrArg V.z p;simp only[smul] at p1 p2 p3;generalize dot f (wy P a x)=A at *;generalize dot f (wy P a y)=B at *;simp only[dot];grind
 have q2:dot f (wy P a x)*dot k (wy P a y)=dot f (wy P a y)*dot k (wy P a x):=by
  have p1:=congrArg V.x p;have p2:=congrArg V.y p;have p3:=congrArg V.z p;simp only[smul] at p1 p2 p3;generalize dot f (wy P a x)=A at *;generalize dot f (wy P a y)=B at *;simp only[dot];grind
 have eg1:dot g (wy P x a)=- dot g (wy P a x):=by simp only[dot,wy,sub];grind
 have eg2:dot g (wy P x y)=dot g (wy P a y)-dot g (wy P a x):=by simp only[dot,wy,sub];grind
 have ek1:dot k (wy P y a)=- dot k (wy P a y):=by simp only[dot,wy,sub];grind
 have ek2:dot k (wy P y x)=dot k (wy P a x)-dot k (wy P a y):=by simp only[dot,wy,sub];grind
 rw[eg1] at g1;rw[eg2] at g2;rw[ek1] at k1;rw[ek2] at k2;generalize dot f (wy P a x)=A at *;generalize dot f (wy P a y)=B at *;generalize dot g (wy P a x)=gx at *;generalize dot g (wy P a y)=gy at *;generalize dot k (wy P a x)=kx at *;generalize dot k (wy P a y)=ky at *;have r1:B<A:=by
  rcases Int.lt_or_le B A with hh|hh
  ·exact hh
  ·exfalso;have s1:B*gx<=A*gx:=by
    have:=zOc hh (show 0<=-gx by omega)
    simp only[Int.mul_neg] at this;omega
   have s2:A*gx<A*gy:=zxc (by omega) fx
   omega
 have s3:A*ky<B*ky:=by
  have s4:B*ky<B*kx:=zxc (by omega) fy
  have s5:A*ky=B*kx:=q2;have s6:A*ky<=B*ky:=by
   have:=zOc (z5a r1) (show 0<=-ky by omega)
   simp only[Int.mul_neg] at this;omega
  omega
 have s4:B*ky<B*kx:=zxc (by omega) fy
 omega
def M0(a x y:Nat):T n (wy P x y) (wy P x a)=T n (wy P a x) (wy P a y):=by
 simp only[T,dot,cross,wy,sub];grind
def Jo(u v:V):T n v u=- T n u v:=by simp only[T,dot,cross];grind
def Side.after(h:Flat n P on){a x y:Nat}(ha:a∈on)(hx:x∈on)(ea:ke P on a)(ex:ke P on x)(hxa:x≠a)(hs:Side n P on x y)(hya:y≠a):0<T n (wy P a x) (wy P a y):=by
 have h1:=(hs.all a ha).1;rw[M0] at h1;rcases zAb h1 with h2|h2
 ·exact h2
 ·exact absurd (ke.ray h ha hx hs.mem ea ex (hs.ext h hx) hxa hya h2.symm) hs.ne.symm
def Hs(h:Flat n P on){a x y z:Nat}(ha:a∈on)(hx:x∈on)(hz:z∈on)(hs:Side n P on x y)(ez:ke P on z)(h1:0<T n (wy P a x) (wy P a z))(h2:0<T n (wy P a z) (wy P a y)):False:=by
 obtain⟨f,hf⟩:=ez;have hza:a≠z:=λe=>by subst e;simp[T,dot,cross,wy,sub] at h2
 have hzx:x≠z:=λe=>by
  subst e;have:T n (wy P a x) (wy P a x)=0:=by simp only[T,dot,cross];grind
  omega
 have hzy:y≠z:=λe=>by
  subst e;have:T n (wy P a y) (wy P a y)=0:=by simp only[T,dot,cross];grind
  omega
 have f1:=hf a ha hza;have f2:=hf x hx hzx;have f3:=hf y hs.mem hzy;have h3:=(hs.all z hz).1;have e:dot n n*(T n (wy P x y) (wy P x z)*dot f (wy P z a)+T n (wy P a z) (wy P a y)*dot f (wy P z x)+T n (wy P a x) (wy P a z)*dot f (wy P z y))=0:=by
  have p1:=h.pl z hz a ha;have p2:=h.pl z hz x hx;have p3:=h.pl z hz y hs.mem;have e1:T n (wy P x y) (wy P x z)=T n (wy P z x) (wy P z y):=M0 z x y;have e2:T n (wy P a z) (wy P a y)=T n (wy P z y) (wy P z a):=by simp only[T,dot,cross,wy,sub];grind
  have e3:T n (wy P a x) (wy P a z)=T n (wy P z a) (wy P z x):=by simp only[T,dot,cross,wy,sub];grind
  rw[e1,e2,e3];have pk:=Bc h.nz f p1 p2 p3;rw[zuc (dot f (wy P z a)),zuc (dot f (wy P z x)),zuc (dot f (wy P z y))] at pk;rw[show T n (wy P z x) (wy P z y)*dot f (wy P z a)+T n (wy P z y) (wy P z a)*dot f (wy P z x)+T n (wy P z a) (wy P z x)*dot f (wy P z y)=0 from pk,zmd]
 have e':=bA (bX h.nz) e;have m1:=zoc h3 (z5a f1);have m2:=zSb h2 f2;have m3:=zSb h1 f3;omega
theorem tK{α:Type}{p q:α->Bool}:∀ {l:List α},(∀ x∈l,p x=true->q x=true)->(∃ y∈l,q y=true/\p y=false)->l.countP p<l.countP q
 | [],_,h=>by obtain⟨y,hy,_⟩:=h;cases hy
 | a::l,h,hy=>by
  have hl:l.countP p<=l.countP q:=by
   have h':∀ x∈l,p x=true->q x=true:=λx hx=>h x (zma _ hx);exact List.countP_mono_left h'
  have ha:=h a zqa;rw[List.countP_cons,List.countP_cons];obtain⟨y,hm,hq,hp⟩:=hy;rcases zva.1 hm with rfl|hm
  ·simp[hq,hp];omega
  ·have:=tK (l:=l) (λx hx=>h x (zma _ hx)) ⟨y,hm,hq,hp⟩;cases hpa:p a
   ·simp;omega
   ·simp[ha hpa];omega
inductive Chain(S:Nat->Nat->Prop)(a₀:Nat):Nat->List Nat->Prop
 | done {c:Nat}:S c a₀->Chain S a₀ c [c]
 | step {c y:Nat} {l:List Nat}:S c y->y≠a₀->Chain S a₀ y l->Chain S a₀ c (c::l)
def walk(h:Flat n P on){a:Nat}(ha:a∈on)(ea:ke P on a)(hnext:∀ c∈on,ke P on c->∃ b,Side n P on c b){c:Nat}(hc:c∈on)(ec:ke P on c)(hca:c≠a) :
  ∃ l,Chain (Side n P on) a c l/\(∀ z∈l,z∈on/\ke P on z/\z≠a/\(z=c\/0<T n (wy P a c) (wy P a z)))/\(∀ z∈on,ke P on z->z≠a->0<T n (wy P a c) (wy P a z)->z∈l) ∧
   l.Pairwise (λx y=>0<T n (wy P a x) (wy P a y)):=by
 generalize hm:on.countP (λz=>decide (0<T n (wy P a c) (wy P a z)))=m
 induction m using Nat.strongRecOn generalizing c with
 | _ m ih=>
  obtain⟨y,hy⟩:=hnext c hc ec;obtain⟨f,hf⟩:=ea;by_cases hya:y=a
  ·subst hya;refine⟨[c],.done hy,λz hz=>?_,λz hz ez hza ht=>?_,by simp⟩
   ·rw[zKa] at hz;subst hz;exact⟨hc,ec,hca,.inl rfl⟩
   ·have h1:=(hy.all z hz).1;have e:T n (wy P c y) (wy P c z)=- T n (wy P y c) (wy P y z):=by simp only[T,dot,cross,wy,sub];grind
    omega
  ·have hxy:=Side.after h ha hc ⟨f,hf⟩ ec hca hy hya;have ey:=hy.ext h hc;have tr:∀ z∈on,0<T n (wy P a y) (wy P a z)->0<T n (wy P a c) (wy P a z):=λz hz ht=>by
    have hza:z≠a:=λe=>by
     subst e;have:T n (wy P z y) (wy P z z)=0:=by simp[T,dot,cross,wy,sub]
     omega
    exact(Ah h.nz (h.pl a ha c hc) (h.pl a ha y hy.mem) (h.pl a ha z hz) (hf c hc hca) (hf y hy.mem hya) (hf z hz hza) (z5a hxy) (z5a ht)).2 (.inl hxy)
   have self0:T n (wy P a y) (wy P a y)=0:=by simp only[T,dot,cross];grind
   obtain⟨l,k1,k2,k3,k4⟩:=ih _ (by
    rw[<-hm];refine tK (λz hz ht=>by simp only[decide_eq_true_eq] at ht ⊢;exact tr z hz ht) ⟨y,hy.mem,by simpa using hxy,by simp[self0]⟩) hy.mem ey hya rfl
   refine⟨c::l,.step hy hya k1,λz hz=>?_,λz hz ez hza ht=>?_,zHa.2 ⟨λz hz=>?_,k4⟩⟩
   ·rcases zva.1 hz with rfl|hz
    ·exact⟨hc,ec,hca,.inl rfl⟩
    ·obtain⟨q1,q2,q3,q4⟩:=k2 z hz;refine⟨q1,q2,q3,.inr ?_⟩;rcases q4 with rfl|q4
     ·exact hxy
     ·exact tr z q1 q4
   ·rcases zTb (T n (wy P a y) (wy P a z)) 0 with hlt|heq|hgt
    ·have e:=Jo (n:=n) (wy P a y) (wy P a z);exact(Hs h ha hc hz hy ez ht (by omega)).elim
    ·have:=ke.ray h ha hy.mem hz ⟨f,hf⟩ ey ez hya hza heq;subst this;have:y∈l:=by cases k1<;>exact zqa
     exact zma _ this
    ·exact zma _ (k3 z hz ez hza hgt)
   ·obtain⟨q1,q2,q3,q4⟩:=k2 z hz;rcases q4 with rfl|q4
    ·exact hxy
    ·exact tr z q1 q4
def n8(n:V)(P:Nat->V)(a b k:Nat):Bool:=
 decide (T n (wy P a b) (wy P a k)<0)||(decide (T n (wy P a b) (wy P a k)=0)&&decide (dot (wy P a b) (wy P a b)<dot (wy P a k) (wy P a k)))
def cO(n:V)(P:Nat->V)(a:Nat)(best:Option Nat)(k:Nat):Option Nat:=
 if k=a then best else match best with
  | none=>some k
  | some b=>if n8 n P a b k then some k else some b
theorem pJ(h:Flat n P on){a:Nat}(ha:a∈on)(ea:ke P on a):∀ (l pre:List Nat) (best:Option Nat),(∀ x∈pre,x∈on)->(∀ x∈l,x∈on) ->
  (match best with
   | none=>∀ x∈pre,x=a
   | some b=>b∈pre/\b≠a/\∀ x∈pre,x≠a->0<T n (wy P a b) (wy P a x)\/(T n (wy P a b) (wy P a x)=0/\dot (wy P a x) (wy P a x)<=dot (wy P a b) (wy P a b))) ->
  match l.foldl (cO n P a) best with
   | none=>∀ x∈pre++l,x=a
   | some b=>b∈pre++l/\b≠a/\∀ x∈pre++l,x≠a->0<T n (wy P a b) (wy P a x)\/(T n (wy P a b) (wy P a x)=0/\dot (wy P a x) (wy P a x)<=dot (wy P a b) (wy P a b))
 | [],pre,best,_,_,hb=>by simpa using hb
 | k::l,pre,best,h1,h2,hb=>by
  rw[z7b];have hk:k∈on:=h2 k zqa;rw[show pre++k::l=(pre++[k])++l by simp]
  refine pJ h ha ea l (pre++[k]) _ (λx hx=>?_) (λx hx=>h2 x (zma _ hx)) ?_
  ·rcases zDa.1 hx with hx|hx
   ·exact h1 x hx
   ·rw[zKa] at hx;exact hx ▸ hk
  unfold cO;by_cases hka:k=a
  ·rw[if_pos hka];subst hka;cases best with
   | none=>
    simp only at hb ⊢;intro x hx;rcases zDa.1 hx with hx|hx
    ·exact hb x hx
    ·exact zKa.1 hx
   | some b=>
    simp only at hb ⊢;refine⟨zab _ hb.1,hb.2.1,λx hx hxa=>?_⟩;rcases zDa.1 hx with hx|hx
    ·exact hb.2.2 x hx hxa
    ·exact absurd (zKa.1 hx) hxa
  ·rw[if_neg hka];cases best with
   | none=>
    simp only at hb ⊢;refine⟨z4a _ (zKa.2 rfl),hka,λx hx hxa=>?_⟩;rcases zDa.1 hx with hx|hx
    ·exact absurd (hb x hx) hxa
    ·rw[zKa.1 hx];right;exact⟨by simp only[T,dot,cross];grind,Int.le_refl _⟩
   | some b=>
    simp only at hb ⊢;obtain⟨b1,b2,b3⟩:=hb;have hbon:=h1 b b1;obtain⟨f,hf⟩:=ea;by_cases hbt:n8 n P a b k=true
    ·rw[if_pos hbt];simp only;refine⟨z4a _ (zKa.2 rfl),hka,λx hx hxa=>?_⟩;have sw:=Jo (n:=n) (wy P a b) (wy P a k);simp only[n8,zKb,zaa,decide_eq_true_eq] at hbt;rcases zDa.1 hx with hx|hx
     ·have hxon:=h1 x hx;have c:=b3 x hx hxa;have nn1:0<=T n (wy P a k) (wy P a b):=by omega
      have nn2:0<=T n (wy P a b) (wy P a x):=by omega
      obtain⟨t1,t2⟩:=Ah h.nz (h.pl a ha k hk) (h.pl a ha b hbon) (h.pl a ha x hxon) (hf k hk hka) (hf b hbon b2) (hf x hxon hxa) nn1 nn2;rcases zAb t1 with hlt|heq
      ·exact .inl hlt
      ·right;refine⟨heq.symm,?_⟩;have:¬ (0<T n (wy P a k) (wy P a b)\/0<T n (wy P a b) (wy P a x)):=λhh=>by have:=t2 hh;omega
       omega
     ·rw[zKa.1 hx];right;exact⟨by simp only[T,dot,cross];grind,Int.le_refl _⟩
    ·rw[if_neg hbt];simp only;refine⟨zab _ b1,b2,λx hx hxa=>?_⟩;rcases zDa.1 hx with hx|hx
     ·exact b3 x hx hxa
     ·rw[zKa.1 hx];simp only[n8,zKb,zaa,decide_eq_true_eq] at hbt;omega
def uw(h:Flat n P on){a:Nat}(ha:a∈on)(ea:ke P on a)(h2:∃ x∈on,x≠a):∃ b,on.foldl (cO n P a) none=some b/\Side n P on a b:=by
 have key:=pJ h ha ea on [] none (by simp) (λx hx=>hx) (by simp)
 cases hr:on.foldl (cO n P a) none with
 | none=>
  rw[hr] at key;obtain⟨x,hx,hxa⟩:=h2;exact absurd (key x (by simpa using hx)) hxa
 | some b=>
  rw[hr] at key;simp only[zXb] at key;obtain⟨k1,k2,k3⟩:=key;refine⟨b,rfl,k1,k2,λx hx=>?_⟩;by_cases hxa:x=a
  ·subst hxa;have e:wy P x x=zero:=by simp[wy,sub,zero]
   have:T n (wy P x b) (wy P x x)=0:=by rw[e];simp[T,dot,cross,zero]
   have hp:=pw (wy P x b);have e2:dot (wy P x x) (wy P x b)=0:=by rw[e];simp[dot,zero]
   rw[this,e2];exact⟨Int.le_refl _,λ_=>⟨Int.le_refl _,hp⟩⟩
  ·have c:=k3 x hx hxa;refine⟨by omega,λt0=>?_⟩
   have c2:dot (wy P a x) (wy P a x)<=dot (wy P a b) (wy P a b):=by omega
   obtain⟨f,hf⟩:=ea;have hx0:=fA h.nz (h.pl a ha b k1) (h.pl a ha x hx) t0;have p:=Il hx0 f;have fb:=hf b k1 k2;have fx:=hf x hx hxa;have hbp:=bX (pW h ha k1 k2);have q1:dot f (wy P a b)*dot (wy P a x) (wy P a b)=dot f (wy P a x)*dot (wy P a b) (wy P a b):=by
    have p1:=congrArg V.x p;have p2:=congrArg V.y p;have p3:=congrArg V.z p;simp only[smul] at p1 p2 p3;generalize dot f (wy P a b)=A at *;generalize dot f (wy P a x)=B at *;simp only[dot];grind
   have hpos:0<dot (wy P a x) (wy P a b):=sf fb (by rw[q1];exact zSb fx hbp)
   refine⟨z5a hpos,?_⟩;have q2:dot (wy P a b) (wy P a b)*dot (wy P a x) (wy P a x)=dot (wy P a x) (wy P a b)*dot (wy P a x) (wy P a b):=by
    have p:=Il hx0 (wy P a b);have p1:=congrArg V.x p;have p2:=congrArg V.y p;have p3:=congrArg V.z p;simp only[smul] at p1 p2 p3;simp only[dot] at *;grind
   generalize dot (wy P a b) (wy P a b)=B at *;generalize dot (wy P a x) (wy P a x)=X at *;generalize dot (wy P a x) (wy P a b)=D at *;rcases Int.lt_or_le B D with hlt|hle
   ·exfalso;have a1:B*X<=B*B:=zwb c2 (z5a hbp);have a2:B*B<B*D:=zxc hlt hbp;have a3:B*D<D*D:=Int.mul_lt_mul_of_pos_right hlt hpos;omega
   ·exact hle
end poly
open V
def aE(a b:V):Prop:=a.x<b.x\/a.x=b.x/\(a.y<b.y\/a.y=b.y/\a.z<b.z)
def BV{P:Nat->V}{on:List Nat}{a:Nat}(h:∀ x∈on,x≠a->aE (P a) (P x)):ke P on a:=by
 obtain⟨N1,p1,b1⟩:=gT (λx=>(wy P a x).y) on;obtain⟨N2,p2,b2⟩:=gT (λx=>(wy P a x).z) on;refine⟨⟨(N1+N2)*(N1+N2)+(N1+N2),N1+N2,1⟩,λx hx hxa=>?_⟩;have c1:=b1 x hx;have c2:=b2 x hx;have hl:=h x hx hxa;simp only[wy,sub,aE,dot] at *;generalize hX:(P x).x-(P a).x=X at *;generalize hY:(P x).y-(P a).y=Y at *;generalize hZ:(P x).z-(P a).z=Z at *;generalize hN:N1+N2=N;have hN0:0<N:=by omega
 have hY1:-N+1<=Y:=by omega
 have hY2:Y<=N-1:=by omega
 have hZ1:-N+1<=Z:=by omega
 have m1:N*(-N+1)<=N*Y:=zwb hY1 (z5a hN0);have m2:N*(-N+1)=-(N*N)+N:=by grind
 have hNN:0<N*N:=zSb hN0 hN0;rcases hl with hl|⟨h1,hl|⟨h2,hl⟩⟩
 ·have hX1:1<=X:=by omega
  have m3:(N*N+N)*1<=(N*N+N)*X:=zwb hX1 (by omega)
  omega
 ·have hX0:X=0:=by omega
  have hY3:1<=Y:=by omega
  have m3:N*1<=N*Y:=zwb hY3 (by omega)
  subst hX0;simp only[zmd];omega
 ·have hX0:X=0:=by omega
  have hY0:Y=0:=by omega
  subst hX0;subst hY0;simp only[zmd];omega
section poly
variable{n:V}{P:Nat->V}{on:List Nat}
def Chain.head{S:Nat->Nat->Prop}{a c:Nat}{l:List Nat}(h:Chain S a c l):∃ l',l=c::l':=by
 cases h<;>exact⟨_,rfl⟩
theorem Chain.pairs{S:Nat->Nat->Prop}{a:Nat}:∀ {c:Nat} {l:List Nat},Chain S a c l->∀ i x,l[i]?=some x->∃ y,(l++[a])[i+1]?=some y/\S x y
 | c,_,.done h,i,x,hx=>by
  cases i with
  | zero=>simp at hx;subst hx;exact⟨a,by simp,h⟩
  | succ i=>simp at hx
 | c,_,.step (y:=y) (l:=l) h hne k,i,x,hx=>by
  cases i with
  | zero=>
   simp at hx;subst hx;obtain⟨l',rfl⟩:=k.head;exact⟨y,by simp,h⟩
  | succ i=>
   obtain⟨z,h1,h2⟩:=Chain.pairs k i x (by simpa using hx)
   exact⟨z,by simpa using h1,h2⟩
def zz(h:Flat n P on){a:Nat}(ha:a∈on)(ea:ke P on a)(h3:∀ c∈on,∃ x∈on,x≠c) :
  ∃ l,Chain (Side n P on) a a l/\l.Nodup/\(∀ z∈l,z∈on/\ke P on z)/\∀ z∈on,ke P on z->z∈l:=by
 have hnext:∀ c∈on,ke P on c->∃ b,Side n P on c b:=λc hc ec=>by
  obtain⟨b,_,hb⟩:=uw h hc ec (h3 c hc);exact⟨b,hb⟩
 obtain⟨c,hs⟩:=hnext a ha ea;have ec:=hs.ext h ha;obtain⟨l,k1,k2,k3,k4⟩:=walk h ha ea hnext hs.mem ec hs.ne;refine⟨a::l,.step hs hs.ne k1,List.nodup_cons.2 ⟨λhm=>(k2 a hm).2.2.1 rfl,?_⟩,λz hz=>?_,λz hz ez=>?_⟩
 ·refine List.Pairwise.imp (λ{x y} hxy e=>?_) k4;subst e;have:T n (wy P a x) (wy P a x)=0:=by simp only[T,dot,cross];grind
  omega
 ·rcases zva.1 hz with rfl|hz
  ·exact⟨ha,ea⟩
  ·exact⟨(k2 z hz).1,(k2 z hz).2.1⟩
 ·by_cases hza:z=a
  ·subst hza;exact zqa
  ·refine zma _ ?_;have h0:=(hs.all z hz).1;rcases zAb h0 with hp|he
   ·exact k3 z hz ez hza hp
   ·have:=ke.ray h ha hs.mem hz ea ec ez hs.ne hza he.symm;subst this;obtain⟨l',rfl⟩:=k1.head;exact zqa
end poly
def sg(x:Int):Int:=if x<0 then -1 else if 0<x then 1 else 0
def sH(a b:Int):sg a*sg b=sg (a*b):=by
 rcases zTb a 0 with h|h|h<;>rcases zTb b 0 with k|k|k
 ·have:=zfc h k;simp[sg,h,k,this,zac.2 (z5a this)]
 ·subst k;simp[sg]
 ·have:=Int.mul_neg_of_neg_of_pos h k;simp[sg,h,k,this,zac.2 (z5a k)]
 ·subst h;simp[sg]
 ·subst h;simp[sg]
 ·subst h;simp[sg]
 ·have:=zDc h k;simp[sg,h,k,this,zac.2 (z5a h)]
 ·subst k;simp[sg]
 ·have:=zSb h k;simp[sg,h,k,this,zac.2 (z5a h),zac.2 (z5a k),zac.2 (z5a this)]
def fK{x:Int}(h:0<x):sg x=1:=by simp[sg,h,zac.2 (z5a h)]
def wa{x:Int}(h:x<0):sg x=-1:=by simp[sg,h]
def ub(n c:V):Int:=if n.x≠0 then sg n.x*sg c.x else if n.y≠0 then sg n.y*sg c.y else if n.z≠0 then sg n.z*sg c.z else 0
def sJ{a b p:Int}(hp:0<p){q:Int}(hq:0<q)(h:a*p=q*b):sg a=sg b:=by
 have h1:sg (a*p)=sg a:=by rw[<-sH,fK hp];simp
 have h2:sg (q*b)=sg b:=by rw[<-sH,fK hq];simp
 rw[<-h1,<-h2,h]
def AU{n c:V}(hn:n≠zero)(h:cross n c=zero):ub n c=sg (dot n c):=by
 have h1:=congrArg V.x h;have h2:=congrArg V.y h;have h3:=congrArg V.z h;simp only[cross,zero] at h1 h2 h3;have hp:=bX hn;have e1:n.x*c.x*dot n n=n.x*n.x*dot n c:=by simp only[dot];grind
 have e2:n.y*c.y*dot n n=n.y*n.y*dot n c:=by simp only[dot];grind
 have e3:n.z*c.z*dot n n=n.z*n.z*dot n c:=by simp only[dot];grind
 unfold ub;split
 ·rename_i k;rw[sH];exact sJ hp (zS k) e1
 ·split
  ·rename_i k;rw[sH];exact sJ hp (zS k) e2
  ·split
   ·rename_i k;rw[sH];exact sJ hp (zS k) e3
   ·rename_i k1 k2 k3;exact absurd (V.ext' (by simpa [zero] using k1) (by simpa [zero] using k2) (by simpa [zero] using k3)) hn
def tL{n u v:V}(hu:dot n u=0)(hv:dot n v=0):cross n (cross u v)=zero:=by
 simp only[dot] at hu hv;apply V.ext'<;>simp only[cross,zero]<;>grind
open V
def bC(P:Nat->V)(N:Nat)(n:V)(d:Int):List Nat:=(List.range N).filter λk=>decide (dot n (P k)=d)
def yP(P:Nat->V)(N:Nat)(n:V)(d:Int):Prop:=(∀ k,k<N->dot n (P k)<=d)/\∃ k,k<N/\dot n (P k)<d
def ge(P:Nat->V)(i j k:Nat):V:=cross (wy P i j) (wy P i k)
def bu(v:V):Nat:=Nat.gcd (Nat.gcd v.x.natAbs v.y.natAbs) v.z.natAbs
def bS(v:V):V:=⟨v.x/bu v,v.y/bu v,v.z/bu v⟩
structure IsF(P:Nat->V)(N:Nat)(n:V)(d:Int):Prop where
 ex:∃ i j k,i<j/\j<k/\k<N/\ge P i j k≠zero/\(n=bS (ge P i j k)\/n=neg (bS (ge P i j k)))/\d=dot n (P i)
 supp:yP P N n d
def ku{v:V}(h:v≠zero):0<bu v:=by
 rcases zrb (bu v) with e|p
 ·exfalso;unfold bu at e;rw[Nat.gcd_eq_zero_iff,Nat.gcd_eq_zero_iff] at e;exact h (V.ext' (by simp[zero];omega) (by simp[zero];omega) (by simp[zero];omega))
 ·exact p
def jd(v:V):v=smul (bu v) (bS v):=by
 have d1:(bu v:Int) ∣ v.x:=zZa.2 (zSc (zhb _ _) (zhb _ _));have d2:(bu v:Int) ∣ v.y:=zZa.2 (zSc (zhb _ _) (zob _ _));have d3:(bu v:Int) ∣ v.z:=zZa.2 (zob _ _);apply V.ext'
 ·exact(zod d1).symm
 ·exact(zod d2).symm
 ·exact(zod d3).symm
def BW(k:Nat)(v:V):bu (smul k v)=k*bu v:=by
 simp only[bu,smul,zOa,zza];rw[Nat.gcd_mul_left,Nat.gcd_mul_left]
def tU{v:V}(h:v≠zero):bu (bS v)=1:=by
 have p:=ku h;have e:=BW (bu v) (bS v);rw[<-jd v] at e;exact(Nat.eq_of_mul_eq_mul_left p (by omega)).symm
def xk(v:V):bu (neg v)=bu v:=by simp[bu,neg]
def EO(v:V):bS (neg v)=neg (bS v):=by
 have e:=jd v;unfold bS;rw[xk];have d1:(bu v:Int) ∣ v.x:=zZa.2 (zSc (zhb _ _) (zhb _ _));have d2:(bu v:Int) ∣ v.y:=zZa.2 (zSc (zhb _ _) (zob _ _));have d3:(bu v:Int) ∣ v.z:=zZa.2 (zob _ _);simp only[neg,zJc d1,zJc d2,zJc d3]
def qn{v:V}(h:v≠zero):bS v≠zero:=λe=>h (by rw[jd v,e];apply V.ext'<;>simp[smul,zero])
section
variable{P:Nat->V}{N:Nat}
def IsF.nz{n:V}{d:Int}(h:IsF P N n d):n≠zero/\bu n=1:=by
 obtain⟨i,j,k,_,_,_,h1,h2|h2,_⟩:=h.ex
 ·subst h2;exact⟨qn h1,tU h1⟩
 ·subst h2;refine⟨λe=>qn h1 ?_,by rw[xk];exact tU h1⟩
  have e1:=congrArg V.x e;have e2:=congrArg V.y e;have e3:=congrArg V.z e;simp only[neg,zero] at e1 e2 e3;exact V.ext' (by simp only[zero];omega) (by simp only[zero];omega) (by simp only[zero];omega)
def cl{n:V}{d:Int}{k:Nat}:k∈bC P N n d↔k<N/\dot n (P k)=d:=by simp[bC]
def oD(n:V)(i k:Nat):dot n (wy P i k)=dot n (P k)-dot n (P i):=by simp only[dot,wy,sub];grind
def IsF.three{n:V}{d:Int}(h:IsF P N n d):∃ i j k,i<j/\j<k/\k<N/\i∈bC P N n d/\j∈bC P N n d/\k∈bC P N n d/\ge P i j k≠zero:=by
 obtain⟨i,j,k,hij,hjk,hk,h1,h2,h3⟩:=h.ex;have g:=ku h1;have e:=jd (ge P i j k);have t1:dot (ge P i j k) (wy P i j)=0:=by simp only[ge,dot,cross];grind
 have t2:dot (ge P i j k) (wy P i k)=0:=by simp only[ge,dot,cross];grind
 have key:∀ v:V,dot (ge P i j k) v=0->dot n v=0:=λv hv=>by
  rw[e] at hv;have:(bu (ge P i j k):Int)*dot (bS (ge P i j k)) v=0:=by rw[<-hv];simp only[dot,smul];grind
  have h0:=bA (by omega) this
  rcases h2 with h2|h2
  ·rw[h2];exact h0
  ·rw[h2];have:dot (neg (bS (ge P i j k))) v=- dot (bS (ge P i j k)) v:=by simp only[dot,neg];grind
   omega
 have k1:=key _ t1;have k2:=key _ t2;rw[oD] at k1 k2;exact⟨i,j,k,hij,hjk,hk,cl.2 ⟨by omega,by omega⟩,cl.2 ⟨by omega,by omega⟩,cl.2 ⟨hk,by omega⟩,h1⟩
theorem IsF.flat(hl:∀ i j,i<j->j<N->aE (P i) (P j)){n:V}{d:Int}(h:IsF P N n d):Flat n P (bC P N n d):=by
 refine⟨h.nz.1,λx hx y hy=>?_,λx hx y hy e=>?_⟩
 ·have a:=(cl.1 hx).2;have b:=(cl.1 hy).2;rw[oD];omega
 ·have a:=(cl.1 hx).1;have b:=(cl.1 hy).1;rcases z7c x y with c|c|c
  ·have:=hl x y c b;rw[e] at this;simp only[aE] at this;omega
  ·exact c
  ·have:=hl y x c a;rw[e] at this;simp only[aE] at this;omega
def IsF.left(hl:∀ i j,i<j->j<N->aE (P i) (P j)){n:V}{d:Int}(h:IsF P N n d){a b:Nat}(ha:a∈bC P N n d)(hs:Side n P (bC P N n d) a b) :
  ∃ x∈bC P N n d,0<T n (wy P a b) (wy P a x):=by
 obtain⟨i,j,k,hij,hjk,hk,mi,mj,mk,ht⟩:=h.three;have F:=h.flat hl;have key:∀ x∈bC P N n d,0<T n (wy P a b) (wy P a x)\/cross (wy P a b) (wy P a x)=zero:=λx hx=>by
  rcases zAb (hs.all x hx).1 with h1|h1
  ·exact .inl h1
  ·exact .inr (fA F.nz (F.pl a ha b hs.mem) (F.pl a ha x hx) h1.symm)
 rcases key i mi with h1|h1
 ·exact⟨i,mi,h1⟩
 rcases key j mj with h2|h2
 ·exact⟨j,mj,h2⟩
 rcases key k mk with h3|h3
 ·exact⟨k,mk,h3⟩
 exfalso;apply ht;have hb:=bX (pW F ha hs.mem hs.ne);have p1:=Il h1 (wy P a b);have p2:=Il h2 (wy P a b);have p3:=Il h3 (wy P a b);have w1:wy P i j=sub (wy P a j) (wy P a i):=by apply V.ext'<;>simp only[wy,sub]<;>omega
 have w2:wy P i k=sub (wy P a k) (wy P a i):=by apply V.ext'<;>simp only[wy,sub]<;>omega
 unfold ge;rw[w1,w2];generalize wy P a b=e at *;generalize wy P a i=u at *;generalize wy P a j=v at *;generalize wy P a k=w at *;generalize dot e u=A at *;generalize dot e v=B at *;generalize dot e w=C at *;generalize dot e e=D at *;have q1:=congrArg V.x p1;have q2:=congrArg V.y p1;have q3:=congrArg V.z p1;have r1:=congrArg V.x p2;have r2:=congrArg V.y p2;have r3:=congrArg V.z p2;have s1:=congrArg V.x p3;have s2:=congrArg V.y p3;have s3:=congrArg V.z p3;simp only[smul] at q1 q2 q3 r1 r2 r3 s1 s2 s3;have hDD:0<D*D:=zSb hb hb;apply V.ext'<;>simp only[cross,sub,zero]<;>refine bA hDD ?_<;>grind
end
open V
section
variable{P:Nat->V}{N:Nat}
end
open V
section
variable{n:V}{P:Nat->V}{on:List Nat}
def Side.start(h:Flat n P on){a b:Nat}(ha:a∈on)(hs:Side n P on a b):ke P on a:=by
 obtain⟨K,hK,hb⟩:=gT (λx=>dot (wy P a b) (wy P a x)) on;refine⟨add (smul K (cross n (wy P a b))) (wy P a b),λx hx hxa=>?_⟩;have e:dot (add (smul K (cross n (wy P a b))) (wy P a b)) (wy P a x)=K*T n (wy P a b) (wy P a x)+dot (wy P a b) (wy P a x):=by simp only[T,dot,add,smul,cross];grind
 rw[e];obtain⟨h1,h2⟩:=hs.all x hx;have c:=hb x hx;rcases zAb h1 with k|k
 ·have:K*1<=K*T n (wy P a b) (wy P a x):=zwb (by omega) (z5a hK)
  omega
 ·rw[<-k,zmd,zkc];obtain⟨q1,q2⟩:=h2 k.symm;have sw:dot (wy P a b) (wy P a x)=dot (wy P a x) (wy P a b):=by simp only[dot];grind
  rw[sw];rcases zAb q1 with p|p
  ·exact p
  ·exfalso;have c0:=fA h.nz (h.pl a ha b hs.mem) (h.pl a ha x hx) k.symm;have pr:=Il c0 (wy P a b);rw[sw,<-p] at pr;have hp:=bX (pW h ha hs.mem hs.ne);apply pW h ha hx hxa;have p1:=congrArg V.x pr;have p2:=congrArg V.y pr;have p3:=congrArg V.z pr;simp only[smul,zNc] at p1 p2 p3;exact V.ext' (bA hp p1) (bA hp p2) (bA hp p3)
end
theorem o9{α:Type}{r:α->α->Prop}(irr:∀ a,¬ r a a)(asy:∀ a b,r a b->¬ r b a):∀ {l l':List α},l.Pairwise r->l'.Pairwise r->(∀ x,x∈l↔x∈l')->l=l'
 | [],[],_,_,_=>rfl
 | [],b::l',_,_,h=>absurd ((h b).2 zqa) (by simp)
 | a::l,[],_,_,h=>absurd ((h a).1 zqa) (by simp)
 | a::l,b::l',h1,h2,h=>by
  obtain⟨k1,k2⟩:=zHa.1 h1;obtain⟨k3,k4⟩:=zHa.1 h2;have e:a=b:=by
   rcases zva.1 ((h a).1 zqa) with e|m
   ·exact e
   ·rcases zva.1 ((h b).2 zqa) with e|m'
    ·exact e.symm
    ·exact absurd (k1 b m') (asy _ _ (k3 a m))
  subst e;rw[o9 irr asy k2 k4 λx=>?_];constructor
  ·intro hx;rcases zva.1 ((h x).1 (zma _ hx)) with e|m
   ·subst e;exact absurd (k1 x hx) (irr x)
   ·exact m
  ·intro hx;rcases zva.1 ((h x).2 (zma _ hx)) with e|m
   ·subst e;exact absurd (k3 x hx) (irr x)
   ·exact m
def oQ(a:V):¬ aE a a:=by simp only[aE];omega
def uc(a b:V):aE a b->¬ aE b a:=by simp only[aE];omega
def kB{a b c:V}:aE a b->aE b c->aE a c:=by simp only[aE];omega
def oR{a b:V}(h:a≠b):aE a b\/aE b a:=by
 simp only[aE];rcases zTb a.x b.x with h1|h1|h1<;>rcases zTb a.y b.y with h2|h2|h2<;>rcases zTb a.z b.z with h3|h3|h3<;>first|omega|exact absurd (V.ext' h1 h2 h3) h
structure Facets(P:Nat->V)(N:Nat)(L:List (V×Int)):Prop where
 ord:L.Pairwise (λa b=>aE a.1 b.1)
 mem:∀ q,q∈L↔IsF P N q.1 q.2
def Facets.eq{P:Nat->V}{N:Nat}{L L':List (V×Int)}(h:Facets P N L)(h':Facets P N L'):L=L':=
 o9 (r:=λa b=>aE a.1 b.1) (λa=>oQ a.1) (λa b=>uc a.1 b.1) h.ord h'.ord λx=>(h.mem x).trans (h'.mem x).symm
section
variable{P:Nat->V}{N:Nat}{n:V}{d:Int}
def IsF.d_eq{d':Int}(h:IsF P N n d)(h':IsF P N n d'):d=d':=by
 obtain⟨i,_,_,hij,hjk,hk,_,_,e⟩:=h.ex;obtain⟨i',_,_,hij',hjk',hk',_,_,e'⟩:=h'.ex;have h1:=h.supp.1 i' (by omega)
 have h2:=h'.supp.1 i (by omega)
 omega
def cn(P:Nat->V)(N:Nat)(n:V)(d:Int)(l:List Nat):Prop:=∃ a,(bC P N n d).head?=some a/\Chain (Side n P (bC P N n d)) a a l
def EH:(bC P N n d).Pairwise (·<·):=List.Pairwise.sublist List.filter_sublist List.pairwise_lt_range
theorem IsF.head(hl:∀ i j,i<j->j<N->aE (P i) (P j))(h:IsF P N n d):∃ a,(bC P N n d).head?=some a/\a∈bC P N n d/\ke P (bC P N n d) a/\(∀ x∈bC P N n d,a<=x)/\∀ c∈bC P N n d,∃ x∈bC P N n d,x≠c:=by
 obtain⟨i,j,k,hij,hjk,hk,mi,mj,mk,ht⟩:=h.three;cases hon:bC P N n d with
 | nil=>rw[hon] at mi;simp at mi
 | cons a l=>
  have ho:(a::l).Pairwise (·<·):=by rw[<-hon];exact EH
  rw[zHa] at ho;have hle:∀ x∈a::l,a<=x:=λx hx=>by
   rcases zva.1 hx with e|m
   ·omega
   ·exact zbc (ho.1 x m)
  refine⟨a,rfl,zqa,BV λx hx hxa=>?_,hle,λc hc=>?_⟩
  ·have:=hle x hx;rw[<-hon] at hx;exact hl a x (by omega) (cl.1 hx).1
  ·rw[hon] at mi mj;by_cases e:i=c
   ·exact⟨j,mj,by omega⟩
   ·exact⟨i,mi,e⟩
def IsF.poly(hl:∀ i j,i<j->j<N->aE (P i) (P j))(h:IsF P N n d) :
  ∃ l,cn P N n d l/\l.Nodup/\∀ z,z∈l↔z∈bC P N n d/\ke P (bC P N n d) z:=by
 obtain⟨a,h1,h2,h3,h4,h5⟩:=h.head hl;obtain⟨l,k1,k2,k3,k4⟩:=zz (h.flat hl) h2 h3 h5;exact⟨l,⟨a,h1,k1⟩,k2,λz=>⟨k3 z,λ⟨q1,q2⟩=>k4 z q1 q2⟩⟩
def cn.eq(hl:∀ i j,i<j->j<N->aE (P i) (P j))(h:IsF P N n d){l l':List Nat}(k:cn P N n d l)(k':cn P N n d l'):l=l':=by
 obtain⟨a,h1,h2⟩:=k;obtain⟨a',h1',h2'⟩:=k';rw[h1] at h1';cases h1';obtain⟨b,g1,g2,g3,g4,g5⟩:=h.head hl;rw[h1] at g1;cases g1;have F:=h.flat hl;have key:∀ {c:Nat} {l l':List Nat},c∈bC P N n d->Chain (Side n P (bC P N n d)) a c l->Chain (Side n P (bC P N n d)) a c l'->l=l':=by
  intro c l l' hc k1
  induction k1 generalizing l' with
  | done s=>intro k2;cases k2 with
   | done _=>rfl
   | step s' hne _=>exact absurd (Side.unique F hc s' s) hne
  | step s hne k ih=>intro k2;cases k2 with
   | done s'=>exact absurd (Side.unique F hc s s') hne
   | step s' _ k'=>
    have e:=Side.unique F hc s s';subst e;rw[ih s.mem k']
 exact key g2 h2 h2'
def cn.next{l:List Nat}(k:cn P N n d l){i:Nat}(hi:i<l.length):Side n P (bC P N n d) (l.getD i 0) (l.getD ((i+1)%l.length) 0):=by
 obtain⟨a,h1,h2⟩:=k;obtain⟨l',e⟩:=h2.head;obtain⟨y,q1,q2⟩:=h2.pairs i (l.getD i 0) (by simp[List.getD,zda hi])
 rcases zla (i+1) l.length with c|c
 ·rw[zdb c] at q1;rw[zAa c];simp only[List.getD,q1,zCb];exact q2
 ·have ei:i+1=l.length:=by omega
  rw[ztb (by omega),ei,z1c] at q1
  simp at q1;subst q1;rw[ei,Nat.mod_self];have:l.getD 0 0=a:=by rw[e];rfl
  rw[this];exact q2
end
section
variable{P:Nat->V}{N:Nat}
end
end Geo
end
noncomputable section
namespace Sy
open Go Go.Proofs Geo
abbrev I(n:Int):D:=.int .i64 n
def ag(v:V):D:=.st [I v.x,I v.y,I v.z]
def inR(n:Int):Prop:=-9223372036854775808<=n/\n<=9223372036854775807
def gD{n:Int}(h:inR n):IntKind.wrap .i64 n=n:=by
 obtain⟨h1,h2⟩:=h;simp only[IntKind.wrap,IntKind.signed,IntKind.bits];first
  | omega
  | (simp;omega)
def au{a b:Int}(h:inR (a+b)):D.bin .add (I a) (I b)=some (I (a+b)):=by simp only[D.bin,if_true,gD h]
def bH{a b:Int}(h:inR (a-b)):D.bin .sub (I a) (I b)=some (I (a-b)):=by simp only[D.bin,if_true,gD h]
def bg{a b:Int}(h:inR (a*b)):D.bin .mul (I a) (I b)=some (I (a*b)):=by simp only[D.bin,if_true,gD h]
def ah{a b:Int}:D.bin .lss (I a) (I b)=some (.bool (decide (a<b))):=by simp only[D.bin,if_true]
def jV{a b:Int}:D.bin .leq (I a) (I b)=some (.bool (decide (a<=b))):=by simp only[D.bin,if_true]
def ca{a b:Int}:D.bin .gtr (I a) (I b)=some (.bool (decide (a>b))):=by simp only[D.bin,if_true]
def fl{a b:Int}:D.bin .geq (I a) (I b)=some (.bool (decide (a ≥ b))):=by simp only[D.bin,if_true]
def jW{a b:Int}(h:b≠0):D.bin .rem (I a) (I b)=some (I (a.tmod b)):=by simp only[D.bin,if_true,h,if_false]
def kl{a b:Int}(h:b≠0)(hr:inR (a.tdiv b)):D.bin .quo (I a) (I b)=some (I (a.tdiv b)):=by simp only[D.bin,if_true,h,if_false,gD hr]
def kX{a:Int}(h:inR (-a)):D.un .neg (I a)=some (I (-a)):=by simp only[D.un,Int.zero_sub,gD h]
def aJ{b:Bool}:D.un .not (.bool b)=some (.bool (!b)):=rfl
def ab{b:Bool}:D.truth (.bool b)=some b:=rfl
def A2{a b:Int}:D.max2 (I a) (I b)=some (I (max a b)):=by
 simp only[D.max2];congr 2;split<;>omega
def Ew{a b:Int}:D.min2 (I a) (I b)=some (I (min a b)):=by
 simp only[D.min2];congr 2;split<;>omega
def bw{a b:Int}:D.beq (I a) (I b)=decide (a=b):=by simp[D.beq]
def ni(v:V):D.get (ag v) [0]=some (I v.x):=rfl
def nj(v:V):D.get (ag v) [1]=some (I v.y):=rfl
def nk(v:V):D.get (ag v) [2]=some (I v.z):=rfl
def rm(x y z:Int):D.st [D.int .i64 x,D.int .i64 y,D.int .i64 z]=ag ⟨x,y,z⟩:=rfl
def bd(k:Int)(v:V):Prop:=(-k<=v.x/\v.x<=k)/\(-k<=v.y/\v.y<=k)/\(-k<=v.z/\v.z<=k)
def fX{a b A B:Int}(ha:-A<=a/\a<=A)(hb:-B<=b/\b<=B):-(A*B)<=a*b/\a*b<=A*B:=by
 have hA:0<=A:=by omega
 have hB:0<=B:=by omega
 have h1:(a*b).natAbs<=(A*B).natAbs:=by
  rw[zOa,zOa];exact zfb (by omega) (by omega)
 have h2:0<=A*B:=zoc hA hB;omega
def jx{A B:Int}{u v:V}(hu:bd A u)(hv:bd B v):bd (A+B) (u.sub v):=by
 simp only[bd,V.sub] at *;omega
def n7{A:Int}{u:V}(hu:bd A u):bd A u.neg:=by
 simp only[bd,V.neg] at *;omega
def gL{A B:Int}{u v:V}(hu:bd A u)(hv:bd B v):bd (2*(A*B)) (V.cross u v):=by
 have:=fX hu.1 hv.1;have:=fX hu.1 hv.2.1;have:=fX hu.1 hv.2.2;have:=fX hu.2.1 hv.1;have:=fX hu.2.1 hv.2.1;have:=fX hu.2.1 hv.2.2;have:=fX hu.2.2 hv.1;have:=fX hu.2.2 hv.2.1;have:=fX hu.2.2 hv.2.2;simp only[bd,V.cross];omega
def DB{A B:Int}{u v:V}(hu:bd A u)(hv:bd B v):-(3*(A*B))<=V.dot u v/\V.dot u v<=3*(A*B):=by
 have:=fX hu.1 hv.1;have:=fX hu.2.1 hv.2.1;have:=fX hu.2.2 hv.2.2;simp only[V.dot];omega
def xc{A B:Int}{u v:V}(hu:bd A u)(hv:bd B v)(h:3*(A*B)<=9223372036854775807) :
  inR (u.x*v.x)/\inR (u.y*v.y)/\inR (u.z*v.z)/\inR (u.x*v.x+u.y*v.y)/\inR (u.x*v.x+u.y*v.y+u.z*v.z):=by
 have:=fX hu.1 hv.1;have:=fX hu.2.1 hv.2.1;have:=fX hu.2.2 hv.2.2;simp only[inR];omega
def f101{call:Nat->List D->Option D}{A B:Int}{u v:V}(hu:bd A u)(hv:bd B v)(h:3*(A*B)<=9223372036854775807):De aO call (ag u) (ag v)=some (I (V.dot u v)):=by
 obtain⟨h1,h2,h3,h4,h5⟩:=xc hu hv h;simp only[De,qG,qB,ni,nj,nk,zba,bg h1,bg h2,bg h3,au h4,au h5];rfl
def DE(n:Nat){A B:Int}{u v:V}(hu:bd A u)(hv:bd B v)(h:3*(A*B)<=9223372036854775807):cA (n+1) 101 [ag u,ag v]=some (I (V.dot u v)):=by rw[TM];exact f101 hu hv h
def BG(n:Nat){A B:Int}{u v:V}(hu:bd A u)(hv:bd B v)(h:3*(A*B)<=9223372036854775807):cA (n+1) 107 [ag u,ag v]=some (I (V.dot u v)):=by
 obtain⟨h1,h2,h3,h4,h5⟩:=xc hu hv h;rw[TR];simp only[FI,qG,qB,ni,nj,nk,zba,bg h1,bg h2,bg h3,au h4,au h5];rfl
def qU{A B:Int}{u v:V}(hu:bd A u)(hv:bd B v)(h:2*(A*B)<=9223372036854775807) :
  inR (u.y*v.z)/\inR (u.z*v.y)/\inR (u.z*v.x)/\inR (u.x*v.z)/\inR (u.x*v.y)/\inR (u.y*v.x)/\inR (u.y*v.z-u.z*v.y)/\inR (u.z*v.x-u.x*v.z)/\inR (u.x*v.y-u.y*v.x):=by
 have:=fX hu.1 hv.1;have:=fX hu.1 hv.2.1;have:=fX hu.1 hv.2.2;have:=fX hu.2.1 hv.1;have:=fX hu.2.1 hv.2.1;have:=fX hu.2.1 hv.2.2;have:=fX hu.2.2 hv.1;have:=fX hu.2.2 hv.2.1;have:=fX hu.2.2 hv.2.2;simp only[inR];omega
def LY(n:Nat){A B:Int}{u v:V}(hu:bd A u)(hv:bd B v)(h:2*(A*B)<=9223372036854775807):cA (n+1) 117 [ag u,ag v]=some (ag (V.cross u v)):=by
 obtain⟨h1,h2,h3,h4,h5,h6,h7,h8,h9⟩:=qU hu hv h;rw[T1];simp only[FR,qG,qB,ni,nj,nk,zba,bg h1,bg h2,bg h3,bg h4,bg h5,bg h6,bH h7,bH h8,bH h9];rfl
def L0(n:Nat){A B:Int}{u v:V}(hu:bd A u)(hv:bd B v)(h:2*(A*B)<=9223372036854775807):cA (n+1) 123 [ag u,ag v]=some (ag (V.cross u v)):=by
 obtain⟨h1,h2,h3,h4,h5,h6,h7,h8,h9⟩:=qU hu hv h;rw[T9];simp only[FY,qG,qB,ni,nj,nk,zba,bg h1,bg h2,bg h3,bg h4,bg h5,bg h6,bH h7,bH h8,bH h9];rfl
def Oe(n:Nat){A:Int}{u:V}(hu:bd A u)(h:A<=9223372036854775807):cA (n+1) 97 [ag u]=some (ag u.neg):=by
 have h1:inR (-u.x):=by simp only[bd,inR] at *;omega
 have h2:inR (-u.y):=by simp only[bd,inR] at *;omega
 have h3:inR (-u.z):=by simp only[bd,inR] at *;omega
 rw[Yp];simp only[NZ,qG,ni,nj,nk,zba,kX h1,kX h2,kX h3];rfl
end Sy
end
noncomputable section
namespace Sy
open Go Go.Proofs Geo
abbrev Bd:=List D->Option (Sum (List D) (Nat×List D))
def co{body:Bd}{s s':List D}{k:Nat×List D->Option D}{y:D}(h:body s=some (.inl s'))(hk:Option.bind (aO body s') k=some y):Option.bind (aO body s) k=some y:=by
 have:aO body s=aO body s':=cR h;rw[this];exact hk
def eZ{body:Bd}{s:List D}{r:Nat×List D}{k:Nat×List D->Option D}{y:D}(h:body s=some (.inr r))(hk:k r=some y):Option.bind (aO body s) k=some y:=by
 have:aO body s=some r:=cJ h;rw[this];exact hk
def kD{body:Bd}{s:List D}{r:Nat×List D}{k:Nat×List D->Option D}{y:D}(h:aO body s=some r)(hk:k r=some y):Option.bind (aO body s) k=some y:=by
 rw[h];exact hk
def bn{body:Bd}{s0:List D}{k:Nat×List D->Option D}{y:D}(J:Nat->List D->Prop)(n i0:Nat)(hi:i0<=n)(h0:J i0 s0)
  (hs:∀ i,i<n->∀ s,J i s->(∃ s',body s=some (.inl s')/\J (i+1) s')\/∃ r,body s=some (.inr r)/\k r=some y) (he:∀ s,J n s->∃ r,body s=some (.inr r)/\k r=some y):Option.bind (aO body s0) k=some y:=by
 obtain⟨m,hm⟩:∃ m,m=n-i0:=⟨_,rfl⟩
 induction m generalizing i0 s0 with
 | zero=>
  have:i0=n:=by omega
  subst this;obtain⟨r,h1,h2⟩:=he s0 h0;exact eZ h1 h2
 | succ m ih=>
  rcases hs i0 (by omega) s0 h0 with⟨s',h1,h2⟩|⟨r,h1,h2⟩
  ·exact co h1 (ih (i0:=i0+1) (by omega) h2 (by omega))
  ·exact eZ h1 h2
def AZ{body:Bd}{s0:List D}(J:Nat->List D->Prop)(Q:Nat×List D->Prop)(n i0:Nat)(hi:i0<=n)(h0:J i0 s0)
  (hs:∀ i,i<n->∀ s,J i s->(∃ s',body s=some (.inl s')/\J (i+1) s')\/∃ r,body s=some (.inr r)/\Q r) (he:∀ s,J n s->∃ r,body s=some (.inr r)/\Q r):∃ r,aO body s0=some r/\Q r:=by
 obtain⟨m,hm⟩:∃ m,m=n-i0:=⟨_,rfl⟩
 induction m generalizing i0 s0 with
 | zero=>
  have:i0=n:=by omega
  subst this;obtain⟨r,h1,h2⟩:=he s0 h0;exact⟨r,cJ h1,h2⟩
 | succ m ih=>
  rcases hs i0 (by omega) s0 h0 with⟨s',h1,h2⟩|⟨r,h1,h2⟩
  ·obtain⟨r,k1,k2⟩:=ih (i0:=i0+1) (by omega) h2 (by omega)
   exact⟨r,by rw[show aO body s0=aO body s' from cR h1];exact k1,k2⟩
  ·exact⟨r,cJ h1,h2⟩
def aq{i n:Nat}(h:i<n):D.idx (I (i:Int)) n=some i:=by
 simp only[D.idx];rw[if_pos (by omega)];simp
def ay{i:Nat}(h:i<=9223372036854775806):inR ((i:Int)+1):=by simp only[inR];omega
def g0{x:D}{l:List D}{d:D}:List.getD (x::l) 0 d=x:=rfl
def g1{x y:D}{l:List D}{d:D}:List.getD (x::y::l) 1 d=y:=rfl
def g2{x y z:D}{l:List D}{d:D}:List.getD (x::y::z::l) 2 d=z:=rfl
def g3{x y z w:D}{l:List D}{d:D}:List.getD (x::y::z::w::l) 3 d=w:=rfl
def TH(v:V)(a:Int):D.set (ag v) [0] (I a)=some (ag ⟨a,v.y,v.z⟩):=rfl
def TI(v:V)(a:Int):D.set (ag v) [1] (I a)=some (ag ⟨v.x,a,v.z⟩):=rfl
def TJ(v:V)(a:Int):D.set (ag v) [2] (I a)=some (ag ⟨v.x,v.y,a⟩):=rfl
def Jg:D.idx (I 0) 3=some 0:=rfl
def Jh:D.idx (I 1) 3=some 1:=rfl
def Ji:D.idx (I 2) 3=some 2:=rfl
def SH(n:Nat){A B:Int}{u v:V}(hu:bd A u)(hv:bd B v)(h:A+B<=9223372036854775807):cA (n+1) 154 [ag u,ag v]=some (ag (u.add v)):=by
 have h1:inR (u.x+v.x):=by simp only[bd,inR] at *;omega
 have h2:inR (u.y+v.y):=by simp only[bd,inR] at *;omega
 have h3:inR (u.z+v.z):=by simp only[bd,inR] at *;omega
 rw[Ut]
 delta Gn qB qC qJ qZ iL iR Jn
 refine co (s':=[I 1,ag ⟨u.x+v.x,u.y,u.z⟩]) ?_ (co (s':=[I 2,ag ⟨u.x+v.x,u.y+v.y,u.z⟩]) ?_ (co (s':=[I 3,ag ⟨u.x+v.x,u.y+v.y,u.z+v.z⟩]) ?_ (eZ (r:=(0,[ag (u.add v)])) ?_ rfl)))
 ·simp only[g0,g1,ah,zba,ab,Jg,ni,TH,au h1,au (show inR (0+1) from⟨by decide,by decide⟩)];rfl
 ·simp only[g0,g1,ah,zba,ab,Jh,nj,TI,au h2,au (show inR (1+1) from⟨by decide,by decide⟩)];rfl
 ·simp only[g0,g1,ah,zba,ab,Ji,nk,TJ,au h3,au (show inR (2+1) from⟨by decide,by decide⟩)];rfl
 ·simp only[g0,g1,ah,zba,ab];rfl
def Ho(u v:V):u.add v.neg=u.sub v:=by apply V.ext'<;>simp only[V.add,V.neg,V.sub]<;>omega
def Hw(n:Nat){A B:Int}{u v:V}(hu:bd A u)(hv:bd B v)(h:A+B<=9223372036854775807):cA (n+2) 103 [ag u,ag v]=some (ag (u.sub v)):=by
 have hA:0<=A:=by simp only[bd] at hu;omega
 rw[TN];simp only[FE,Oe n hv (by omega),zba,SH n hu (n7 hv) h,Ho]
def yU(n:Nat){A B:Int}{u v:V}(hu:bd A u)(hv:bd B v)(h:A+B<=9223372036854775807):cA (n+1) 112 [ag u,ag v]=some (ag (u.sub v)):=by
 have h1:inR (u.x-v.x):=by simp only[bd,inR] at *;omega
 have h2:inR (u.y-v.y):=by simp only[bd,inR] at *;omega
 have h3:inR (u.z-v.z):=by simp only[bd,inR] at *;omega
 rw[TX];simp only[FO,qG,qB,ni,nj,nk,zba,bH h1,bH h2,bH h3];rfl
def bf(a b:Int):Int:=if a<b then -1 else if a>b then 1 else 0
def SA(n:Nat)(a:Int):cA (n+1) 115 [I a]=some (.bool false):=by
 rw[TY];simp only[FP,bw];simp
def N7(n:Nat)(a b:Int):cA (n+2) 53 [I a,I b]=some (I (bf a b)):=by
 rw[X3];simp only[NE,qC,qT,Jn,SA,zba,ab,zsa,if_false,ah,ca,bf,decide_eq_true_eq];split
 ·rfl
 ·split<;>rfl
def vK:List Int->Int
 | []=>0
 | x::l=>if x=0 then vK l else x
def XF(n:Nat)(l:List Int)(hl:l.length<=1000):cA (n+1) 52 [.sl (l.map λx=>I x)]=some (I (vK l)):=by
 rw[X2]
 delta ND qB qC qT qS qX qZ iL iR Jn
 simp only[D.asSl,zba];refine bn (λi s=>s=[I i]/\vK l=vK (l.drop i)) l.length 0 (zoa _) ⟨rfl,rfl⟩ (λi hi s hJ=>?_) (λs hJ=>?_)
 ·obtain⟨rfl,hz⟩:=hJ;have hx:(l.map λx=>I x)[i]?=some (I l[i]):=by simp[hi]
  simp only[g0,zCa,ah,zba,ab,decide_eq_true_eq,show((i:Int)<(l.length:Int)) from by omega,if_true,aq hi,hx,bw]
  have hd:l.drop i=l[i]::l.drop (i+1):=zmb hi;rw[hd] at hz;by_cases h0:l[i]=0
  ·left;refine⟨[I ((i+1:Nat):Int)],?_,rfl,?_⟩
   ·simp only[h0,decide_true,z2b,zsa,if_false,au (ay (i:=i) (by omega)),zba];rfl
   ·rw[hz];simp[vK,h0]
  ·right;refine⟨(0,[I l[i]]),?_,?_⟩
   ·simp[h0]
   ·rw[hz];simp[vK,h0]
 ·obtain⟨rfl,hz⟩:=hJ;refine⟨(1,[]),?_,?_⟩
  ·simp only[g0,zCa,ah,zba,ab,decide_eq_true_eq,zwc,if_false]
  ·rw[hz];simp[vK]
end Sy
end
noncomputable section
namespace Sy
open Go Go.Proofs Geo
def xl{body:Bd}(h0:∀ a b:Int,b≠0->body [I a,I b]=some (.inl [I b,I (a.tmod b)]))(h1:∀ a:Int,body [I a,I 0]=some (.inr (0,[I a]))) :
  ∀ (m:Nat) (a b:Int),b.natAbs=m->∃ r:Int,aO body [I a,I b]=some (0,[I r])/\r.natAbs=Nat.gcd a.natAbs b.natAbs:=by
 intro m
 induction m using Nat.strongRecOn with
 | _ m ih=>
  intro a b hb;by_cases hz:b=0
  ·subst hz;exact⟨a,cJ (h1 a),by simp⟩
  ·have hlt:(a.tmod b).natAbs<m:=by
    rw[Int.natAbs_tmod,<-hb];exact zIa _ (by omega)
   obtain⟨r,k1,k2⟩:=ih _ hlt b (a.tmod b) rfl;refine⟨r,?_,?_⟩
   ·rw[show aO body [I a,I b]=aO body [I b,I (a.tmod b)] from cR (h0 a b hz)];exact k1
   ·rw[k2,Int.natAbs_tmod,zqc a.natAbs,Nat.gcd_rec b.natAbs a.natAbs,zqc]
def oI{a b:Int}{k:Nat}(ha:a.natAbs<=k)(hb:b.natAbs<=k):Nat.gcd a.natAbs b.natAbs<=k:=by
 rcases zrb a.natAbs with h|h
 ·rw[h,Nat.gcd_zero_left];exact hb
 ·exact zMa (Nat.le_of_dvd h (zhb _ _)) ha
def JO(n:Nat){a b:Int}(ha:a.natAbs<=9223372036854775807)(hb:b.natAbs<=9223372036854775807):cA (n+1) 152 [I a,I b]=some (I (Nat.gcd a.natAbs b.natAbs:Nat)):=by
 rw[M9]
 delta Dj qB qT qZ iL iR Jn
 obtain⟨r,h1,h2⟩:=xl (body:=λ(v1:List D)=>
  Option.bind (D.truth (D.bool (!(D.beq (gx v1 1) (D.int .i64 0))))) λb2=>
  if b2 then(Option.bind (D.bin .rem (gx v1 0) (gx v1 1)) λx3=>
  some (Sum.inl [(gx v1 1),x3])) else(some (Sum.inr (0,[(gx v1 0)]))))
  (λa b hb=>by simp only[g0,g1,bw,ab,zba,hb,decide_false,zxb,if_true,jW hb])
  (λa=>by simp only[g0,g1,bw,ab,zba,decide_true,z2b,zsa,if_false]) _ a b rfl
 refine kD h1 ?_;have hr:r.natAbs<=9223372036854775807:=by rw[h2];exact oI ha hb
 have hn:inR (-r):=by simp only[inR];omega
 simp only[zba,g0,kX hn,A2];congr 2;omega
def fM{a:Int}{g:Nat}(hg:0<g)(h:(g:Int) ∣ a):a.tdiv g=a/g:=by
 obtain⟨c,rfl⟩:=h;rw[z9c _ (by omega),z2a _ (by omega)]
def xd(v:V):(bu v:Int) ∣ v.x:=zZa.2 (zSc (zhb _ _) (zhb _ _))
def xe(v:V):(bu v:Int) ∣ v.y:=zZa.2 (zSc (zhb _ _) (zob _ _))
def xf(v:V):(bu v:Int) ∣ v.z:=zZa.2 (zob _ _)
def oB{a:Int}{g:Nat}{k:Int}(h:-k<=a/\a<=k)(hd:(g:Int) ∣ a):-k<=a/g/\a/g<=k:=by
 have h1:(a/(g:Int)).natAbs<=a.natAbs:=by
  rcases zrb g with e|e
  ·subst e;simp
  ·obtain⟨c,rfl⟩:=hd;rw[z2a _ (by omega),zOa]
   exact zJb _ (by omega)
 omega
def jv{k:Int}{v:V}(h:bd k v):bd k (bS v):=⟨oB h.1 (xd v),oB h.2.1 (xe v),oB h.2.2 (xf v)⟩
def bZ(q:V×Int):D:=.st [ag q.1,I q.2]
def MV:Int:=262144
def lP{P:Nat->V}{i j:Nat}(hi:bd MV (P i))(hj:bd MV (P j)):bd 524288 (wy P i j):=by
 have:=jx hj hi;simpa [MV,wy] using this
def XJ(n:Nat){a b c:V}(ha:bd MV a)(hb:bd MV b)(hc:bd MV c):cA (n+3) 96 [ag a,ag b,ag c]=some (bZ (bS (V.cross (b.sub a) (c.sub a)),V.dot (bS (V.cross (b.sub a) (c.sub a))) a)):=by
 have h1:bd 524288 (b.sub a):=by have:=jx hb ha;simpa [MV] using this
 have h2:bd 524288 (c.sub a):=by have:=jx hc ha;simpa [MV] using this
 rw[Yo]
 delta NY qG qB qC Jn
 simp only[Hw n hb ha (by decide),Hw n hc ha (by decide),zba,LY (n+1) h1 h2 (by decide)]
 have h3:=gL h1 h2;generalize V.cross (b.sub a) (c.sub a)=m at *;have e1:m.x.natAbs<=549755813888:=by have:=h3.1;omega
 have e2:m.y.natAbs<=549755813888:=by have:=h3.2.1;omega
 have e3:m.z.natAbs<=549755813888:=by have:=h3.2.2;omega
 have e4:Nat.gcd m.x.natAbs m.y.natAbs<=549755813888:=oI e1 e2;have e5:Nat.gcd (Nat.gcd m.x.natAbs m.y.natAbs) m.z.natAbs=bu m:=rfl;simp only[ni,nj,nk,zba,JO (n+1) (a:=m.x) (b:=m.y) (by omega) (by omega),JO (n+1) (a:=((Nat.gcd m.x.natAbs m.y.natAbs:Nat):Int)) (b:=m.z) (by rw[zza];omega) (by omega),zza,e5,ca,ab,decide_eq_true_eq]
 have h4:=jv h3;have fin:∀ w:V,w=bS m->cA (n+2) 101 [ag w,ag a]=some (I (V.dot w a)):=λw hw=>DE (n+1) (hw ▸ h4) ha (by decide)
 by_cases hg:(bu m:Int)>1
 ·have hg0:(bu m:Int)≠0:=by omega
  have hgp:0<bu m:=by omega
  have r1:inR (m.x.tdiv (bu m)):=by rw[fM hgp (xd m)];have:=oB h3.1 (xd m);simp only[inR];omega
  have r2:inR (m.y.tdiv (bu m)):=by rw[fM hgp (xe m)];have:=oB h3.2.1 (xe m);simp only[inR];omega
  have r3:inR (m.z.tdiv (bu m)):=by rw[fM hgp (xf m)];have:=oB h3.2.2 (xf m);simp only[inR];omega
  have ep:(D.st [I (m.x.tdiv (bu m)),I (m.y.tdiv (bu m)),I (m.z.tdiv (bu m))])=ag (bS m):=by
   rw[fM hgp (xd m),fM hgp (xe m),fM hgp (xf m)];rfl
  simp only[if_pos hg,kl hg0 r1,kl hg0 r2,kl hg0 r3,zba,g0,ep,fin _ rfl];rfl
 ·have ep:m=bS m:=by
   rcases zla 0 (bu m) with k|k
   ·have e:bu m=1:=by omega
    have:=jd m;rw[e] at this;rw[this]
    conv=>rhs;rw[<-this]
    apply V.ext'<;>simp[V.smul]
   ·have e:bu m=0:=by omega
    have hm:m=V.zero:=by
     by_cases hm:m=V.zero
     ·exact hm
     ·have:=ku hm;omega
    rw[hm];rfl
  simp only[if_neg hg,zba,g0,fin m ep];rw[<-ep];rfl
end Sy
end
noncomputable section
namespace Sy
open Go Go.Proofs Geo
def TE(a b c:Int):D.sl [I a,I b,I c]=D.sl ([a,b,c].map λx=>I x):=rfl
def Ss(n:Nat)(p q:V×Int):cA (n+3) 100 [bZ p,bZ q]=some (I (vK [bf p.1.x q.1.x,bf p.1.y q.1.y,bf p.1.z q.1.z])):=by
 rw[TL]
 delta FD qG
 simp only[show ∀ p:V×Int,D.get (bZ p) [0]=some (ag p.1) from λ_=>rfl,show ∀ p:V×Int,D.get (bZ p) [0,0]=some (I p.1.x) from λ_=>rfl,show ∀ p:V×Int,D.get (bZ p) [0,1]=some (I p.1.y) from λ_=>rfl,show ∀ p:V×Int,D.get (bZ p) [0,2]=some (I p.1.z) from λ_=>rfl,ni,nj,nk,zba,N7,TE,XF (n+1) [bf p.1.x q.1.x,bf p.1.y q.1.y,bf p.1.z q.1.z] (by simp)]
def ve(a:Int):bf a 0=sg a:=rfl
def MY(a:Int):-1<=sg a/\sg a<=1:=by unfold sg;split<;>(try split)<;>omega
def oL(a b:Int):inR (sg a*sg b):=by
 have:=fX (A:=1) (B:=1) (MY a) (MY b);simp only[inR];omega
def MF(v:V):D.fld (ag v) 0=some (I v.x):=rfl
def MG(v:V):D.fld (ag v) 1=some (I v.y):=rfl
def MH(v:V):D.fld (ag v) 2=some (I v.z):=rfl
def Lc:inR (0+1):=⟨by decide,by decide⟩
def s9:inR (1+1):=⟨by decide,by decide⟩
def Ld:inR (2+1):=⟨by decide,by decide⟩
def Su(n:Nat){A B:Int}{m u v:V}(hu:bd A u)(hv:bd B v)(h:2*(A*B)<=9223372036854775807):cA (n+3) 104 [ag m,ag u,ag v]=some (I (ub m (V.cross u v))):=by
 rw[TO]
 delta FF qB qC qT qJ qZ iL iR Jn
 simp only[LY (n+1) hu hv h,zba];generalize V.cross u v=c;unfold ub;by_cases hx:m.x=0
 ·refine co (s':=[I 1]) (by simp only[g0,ah,zba,ab,Jg,MF,bw,hx,decide_true,z2b,zsa,if_false,au Lc];rfl) ?_
  by_cases hy:m.y=0
  ·refine co (s':=[I 2]) (by simp only[g0,ah,zba,ab,Jh,MG,bw,hy,decide_true,z2b,zsa,if_false,au s9];rfl) ?_
   by_cases hz:m.z=0
   ·refine co (s':=[I 3]) (by simp only[g0,ah,zba,ab,Ji,MH,bw,hz,decide_true,z2b,zsa,if_false,au Ld];rfl) ?_
    refine eZ (r:=(1,[])) (by simp only[g0,ah,zba,ab];rfl) ?_
    simp[hx,hy,hz]
   ·refine eZ (r:=(0,[I (sg c.z*sg m.z)])) ?_ (by simp[hx,hy,hz,zuc])
    simp only[g0,ah,zba,ab,Ji,MH,nk,bw,hz,decide_false,zxb,if_true,N7,ve,bg (oL _ _)];rfl
  ·refine eZ (r:=(0,[I (sg c.y*sg m.y)])) ?_ (by simp[hx,hy,zuc])
   simp only[g0,ah,zba,ab,Jh,MG,nj,bw,hy,decide_false,zxb,if_true,N7,ve,bg (oL _ _)];rfl
 ·refine eZ (r:=(0,[I (sg c.x*sg m.x)])) ?_ (by simp[hx,zuc])
  simp only[g0,ah,zba,ab,Jg,MF,ni,bw,hx,decide_false,zxb,if_true,N7,ve,bg (oL _ _)];rfl
def JS(n:Nat)(a:Int):cA (n+1) 215 [I a]=some (I (sg a)):=by
 rw[UM];simp only[GG,qC,Jn,ah,ca,zba,ab,decide_eq_true_eq,sg];split
 ·rfl
 ·split
  ·rfl
  ·rfl
def SP(n:Nat)(m c:V):cA (n+2) 188 [ag m,ag c]=some (I (ub m c)):=by
 rw[UE]
 delta Gz qB qC qT qJ qZ iL iR Jn ub
 by_cases hx:m.x=0
 ·refine co (s':=[I 1]) (by simp only[g0,ah,zba,ab,Jg,ni,bw,hx,decide_true,z2b,zsa,if_false,au Lc];rfl) ?_
  by_cases hy:m.y=0
  ·refine co (s':=[I 2]) (by simp only[g0,ah,zba,ab,Jh,nj,bw,hy,decide_true,z2b,zsa,if_false,au s9];rfl) ?_
   by_cases hz:m.z=0
   ·refine co (s':=[I 3]) (by simp only[g0,ah,zba,ab,Ji,nk,bw,hz,decide_true,z2b,zsa,if_false,au Ld];rfl) ?_
    refine eZ (r:=(1,[])) (by simp only[g0,ah,zba,ab];rfl) ?_
    simp[hx,hy,hz]
   ·refine eZ (r:=(0,[I (sg m.z*sg c.z)])) ?_ (by simp[hx,hy,hz])
    simp only[g0,ah,zba,ab,Ji,nk,bw,hz,decide_false,zxb,if_true,JS,bg (oL _ _)];rfl
  ·refine eZ (r:=(0,[I (sg m.y*sg c.y)])) ?_ (by simp[hx,hy])
   simp only[g0,ah,zba,ab,Jh,nj,bw,hy,decide_false,zxb,if_true,JS,bg (oL _ _)];rfl
 ·refine eZ (r:=(0,[I (sg m.x*sg c.x)])) ?_ (by simp[hx])
  simp only[g0,ah,zba,ab,Jg,ni,bw,hx,decide_false,zxb,if_true,JS,bg (oL _ _)];rfl
instance decLex (a b:V):Decidable (aE a b):=by unfold aE;exact inferInstance
def LX(n:Nat)(a b:V):cA (n+1) 105 [ag a,ag b]=some (.bool (decide (aE a b))):=by
 rw[TP];simp only[FG,qG,qB,qT,ni,nj,nk,zba,bw,ab,ah,zxa,decide_eq_false_iff_not];by_cases h1:a.x=b.x
 ·by_cases h2:a.y=b.y
  ·simp[h1,h2,aE]
  ·simp only[h1,h2,aE,not_true,if_false,not_false_iff,if_true,zwc,false_or,true_and,false_and,or_false]
 ·simp only[h1,aE,not_false_iff,if_true,false_and,or_false]
def aX(l:List V):D:=.sl (l.map ag)
def pe(l:List V)(m:V)(d:Int):Bool:=l.all λx=>decide (V.dot m x<=d)
def ja(l:List V)(m:V)(d:Int):Bool:=l.any λx=>decide (V.dot m x<d)
def Ec{l:List V}{i:Nat}(h:i<l.length):(l.map ag)[i]?=some (ag l[i]):=by simp[h]
def Sx(n:Nat){A:Int}{l:List V}{m:V}{d:Int}(hl:∀ x∈l,bd MV x)(hm:bd A m)(hA:3*(A*262144)<=9223372036854775807)(hlen:l.length<=1000000):cA (n+2) 109 [aX l,ag m,I d]=some (.bool (pe l m d&&ja l m d)):=by
 rw[TT]
 delta FK qB qC qT qX qL qZ iL iR Jn
 refine bn (λi s=>s=[.bool (ja (l.take i) m d),I i]/\pe (l.take i) m d=true) l.length 0 (zoa _) ⟨by simp[ja],by simp[pe]⟩ (λi hi s hJ=>?_) (λs hJ=>?_)
 ·obtain⟨rfl,hs⟩:=hJ;have ht:l.take (i+1)=l.take i++[l[i]]:=zEa hi;have hc:=BG n hm (hl l[i] (zLa hi)) hA;simp only[aX,D.asSl,g0,g1,zCa,ah,ca,zba,ab,decide_eq_true_eq,show((i:Int)<(l.length:Int)) from by omega,if_true,aq hi,Ec hi,hc]
  by_cases hgt:V.dot m l[i]>d
  ·right;refine⟨(0,[.bool false]),by simp only[hgt,if_true],?_⟩
   have:pe l m d=false:=by
    rw[zUb];intro h;have:=zja.1 h l[i] (zLa hi);simp at this;omega
   simp[g0,this]
  ·left;refine⟨[.bool (ja (l.take (i+1)) m d),I ((i+1:Nat):Int)],?_,rfl,?_⟩
   ·simp only[hgt,if_false,au (ay (i:=i) (by omega)),zba]
    have e:ja (l.take (i+1)) m d=(ja (l.take i) m d||decide (V.dot m l[i]<d)):=by rw[ht];simp only[ja,zWc,List.any_cons,List.any_nil,Bool.or_false]
    rw[e];cases ja (l.take i) m d<;>simp
   ·rw[ht];simp only[pe,zXc,zaa] at hs ⊢;exact⟨hs,by simp;omega⟩
 ·obtain⟨rfl,hs⟩:=hJ;refine⟨(1,[.bool (ja (l.take l.length) m d)]),?_,?_⟩
  ·simp only[aX,D.asSl,g0,g1,zCa,ah,zba,ab,decide_eq_true_eq,zwc,if_false]
  ·rw[z3a] at *;simp[g0,hs]
def XK(n:Nat){A:Int}{l:List V}{m:V}{d:Int}(hl:∀ x∈l,bd MV x)(hm:bd A m)(hA:3*(A*262144)<=9223372036854775807)(hlen:l.length<=1000000):cA (n+2) 98 [aX l,bZ (m,d)]=some (.bool (pe l m d&&ja l m d)):=by
 rw[Yq]
 delta N0 qG qB qC qT qS qX qZ iL iR Jn
 simp only[aX,D.asSl,zba];refine bn (λi s=>s=[.bool (!ja (l.take i) m d),I i]/\pe (l.take i) m d=true) l.length 0 (zoa _) ⟨by simp[ja],by simp[pe]⟩ (λi hi s hJ=>?_) (λs hJ=>?_)
 ·obtain⟨rfl,hs⟩:=hJ;have ht:l.take (i+1)=l.take i++[l[i]]:=zEa hi;have hc:=DE n hm (hl l[i] (zLa hi)) hA;simp only[g0,g1,zCa,ah,ca,zba,ab,decide_eq_true_eq,show((i:Int)<(l.length:Int)) from by omega,if_true,aq hi,Ec hi,show D.get (bZ (m,d)) [0]=some (ag m) from rfl,show D.get (bZ (m,d)) [1]=some (I d) from rfl,hc,bw]
  by_cases hgt:V.dot m l[i]>d
  ·right;refine⟨(0,[.bool false]),by simp only[hgt,if_true],?_⟩
   have:pe l m d=false:=by
    rw[zUb];intro h;have:=zja.1 h l[i] (zLa hi);simp at this;omega
   simp[g0,this]
  ·left;refine⟨[.bool (!ja (l.take (i+1)) m d),I ((i+1:Nat):Int)],?_,rfl,?_⟩
   ·simp only[hgt,if_false,au (ay (i:=i) (by omega)),zba]
    have e:(!ja (l.take (i+1)) m d)=(!ja (l.take i) m d&&decide (V.dot m l[i]=d)):=by
     rw[ht];simp only[ja,zWc,List.any_cons,List.any_nil,Bool.or_false,Bool.not_or];congr 1;by_cases h2:V.dot m l[i]=d
     ·simp[h2]
     ·have:V.dot m l[i]<d:=by omega
      simp[h2,this]
    rw[e];cases ja (l.take i) m d<;>simp
   ·rw[ht];simp only[pe,zXc,zaa] at hs ⊢;exact⟨hs,by simp;omega⟩
 ·obtain⟨rfl,hs⟩:=hJ;refine⟨(1,[.bool (!ja (l.take l.length) m d)]),?_,?_⟩
  ·simp only[g0,g1,zCa,ah,zba,ab,decide_eq_true_eq,zwc,if_false]
  ·rw[z3a] at *;simp[g0,hs,aJ]
end Sy
end
noncomputable section
namespace Sy
open Go Go.Proofs Geo
def lV{α:Type}{body:Bd}{s0:List D}{k:Nat×List D->Option α}{Y:α->Prop}(J:Nat->List D->Prop)(n i0:Nat)(hi:i0<=n)(h0:J i0 s0)
  (hs:∀ i,i<n->∀ s,J i s->∃ z,body s=some z/\match z with|.inl s'=>J (i+1) s'|.inr r=>∃ y,k r=some y/\Y y)
  (he:∀ s,J n s->∃ z,body s=some z/\match z with|.inl _=>False|.inr r=>∃ y,k r=some y/\Y y):∃ y,Option.bind (aO body s0) k=some y/\Y y:=by
 obtain⟨m,hm⟩:∃ m,m=n-i0:=⟨_,rfl⟩
 induction m generalizing i0 s0 with
 | zero=>
  have:i0=n:=by omega
  subst this;obtain⟨z,h1,h2⟩:=he s0 h0;cases z with
  | inl s'=>exact h2.elim
  | inr r=>obtain⟨y,h3,h4⟩:=h2;exact⟨y,by rw[show aO body s0=some r from cJ h1];exact h3,h4⟩
 | succ m ih=>
  obtain⟨z,h1,h2⟩:=hs i0 (by omega) s0 h0
  cases z with
  | inl s'=>
   obtain⟨y,h3,h4⟩:=ih (i0:=i0+1) (by omega) h2 (by omega)
   exact⟨y,by rw[show aO body s0=aO body s' from cR h1];exact h3,h4⟩
  | inr r=>obtain⟨y,h3,h4⟩:=h2;exact⟨y,by rw[show aO body s0=some r from cJ h1];exact h3,h4⟩
def be{α:Type}{body:Bd}{s s':List D}{k:Nat×List D->Option α}{y:α}(h:body s=some (.inl s'))(hk:Option.bind (aO body s') k=some y):Option.bind (aO body s) k=some y:=by
 have:aO body s=aO body s':=cR h;rw[this];exact hk
def dZ{α:Type}{body:Bd}{s:List D}{r:Nat×List D}{k:Nat×List D->Option α}{y:α}(h:body s=some (.inr r))(hk:k r=some y):Option.bind (aO body s) k=some y:=by
 have:aO body s=some r:=cJ h;rw[this];exact hk
def cN{α:Type}{body:Bd}{s0:List D}{k:Nat×List D->Option α}{y:α}(J:Nat->List D->Prop)(n i0:Nat)(hi:i0<=n)(h0:J i0 s0)
  (hs:∀ i,i<n->∀ s,J i s->(∃ s',body s=some (.inl s')/\J (i+1) s')\/∃ r,body s=some (.inr r)/\k r=some y) (he:∀ s,J n s->∃ r,body s=some (.inr r)/\k r=some y):Option.bind (aO body s0) k=some y:=by
 obtain⟨m,hm⟩:∃ m,m=n-i0:=⟨_,rfl⟩
 induction m generalizing i0 s0 with
 | zero=>
  have:i0=n:=by omega
  subst this;obtain⟨r,h1,h2⟩:=he s0 h0;exact dZ h1 h2
 | succ m ih=>
  rcases hs i0 (by omega) s0 h0 with⟨s',h1,h2⟩|⟨r,h1,h2⟩
  ·exact be h1 (ih (i0:=i0+1) (by omega) h2 (by omega))
  ·exact dZ h1 h2
def aa{α β:Type}{A:Option α}{g:α->Option β}{z:α}{y:β}(h:A=some z)(hk:g z=some y):Option.bind A g=some y:=by
 rw[h];exact hk
def jY(u v:V):D.beq (ag u) (ag v)=decide (u=v):=by
 simp only[ag,D.beq,D.beqs,decide_true,zgb,Bool.and_true];by_cases h:u=v
 ·subst h;simp
 ·by_cases h1:u.x=v.x<;>by_cases h2:u.y=v.y<;>by_cases h3:u.z=v.z<;>simp[h,h1,h2,h3];exact h (V.ext' h1 h2 h3)
def I0(p q:V×Int):D.beq (bZ p) (bZ q)=decide (p=q):=by
 have:D.beq (bZ p) (bZ q)=(D.beq (ag p.1) (ag q.1)&&(D.beq (I p.2) (I q.2)&&true)):=rfl;rw[this,jY,bw];obtain⟨a,b⟩:=p;obtain⟨c,d⟩:=q;by_cases h1:a=c<;>by_cases h2:b=d<;>simp[h1,h2]
def gz(K:List (V×Int)):List D:=K.map λq=>.st [bZ q,.bool true]
theorem ui:∀ (K:List (V×Int)) (q:V×Int),D.mget (gz K) (bZ q)=if q∈K then some (.bool true) else none
 | [],q=>by simp[gz,D.mget]
 | p::K,q=>by
  have ih:=ui K q;simp only[gz,z7a,D.mget,I0] at ih ⊢;by_cases h:q=p
  ·simp[h]
  ·rw[ih];simp[h]
theorem ul:∀ (K:List (V×Int)) (q:V×Int),q ∉ K->D.mput (gz K) (bZ q) (.bool true)=gz (K++[q])
 | [],q,_=>rfl
 | p::K,q,h=>by
  have ih:=ul K q (λhq=>h (zma _ hq));have hne:¬ q=p:=λe=>h (by rw[e];exact zqa)
  simp only[gz,z7a,zib,D.mput,I0,hne,decide_false,zsa,if_false] at ih ⊢;rw[ih]
def B6(K:List (V×Int)):(gz K).map tj=K.map bZ:=by simp[gz,tj]
def supp(l:List V)(q:V×Int):Bool:=pe l q.1 q.2&&ja l q.1 q.2
def gU(l:List V)(K:List (V×Int))(q:V×Int):List (V×Int):=if q∈K then K else if supp l q then K++[q] else K
def se{l:List V}{K:List (V×Int)}{q x:V×Int}(h:x∈K):x∈gU l K q:=by
 unfold gU;split
 ·exact h
 ·split
  ·exact zab _ h
  ·exact h
def xZ{l:List V}{K:List (V×Int)}{q:V×Int}(h:supp l q=true):q∈gU l K q:=by
 unfold gU;split
 ·assumption
 ·simp
def xY{l:List V}{K:List (V×Int)}{q x:V×Int}(h:x∈gU l K q):x∈K\/(x=q/\supp l q=true):=by
 unfold gU at h;split at h
 ·exact .inl h
 ·split at h
  ·rename_i hs;rcases zDa.1 h with h|h
   ·exact .inl h
   ·exact .inr ⟨zKa.1 h,hs⟩
  ·exact .inl h
def sd{l:List V}{K:List (V×Int)}{q:V×Int}(h:K.Nodup):(gU l K q).Nodup:=by
 unfold gU;split
 ·exact h
 ·rename_i hq;split
  ·exact List.nodup_append.2 ⟨h,by simp,λx hx y hy e=>hq (by rw[zKa.1 hy] at e;exact e ▸ hx)⟩
  ·exact h
def nR(a b c:V):V×Int:=(bS (V.cross (b.sub a) (c.sub a)),V.dot (bS (V.cross (b.sub a) (c.sub a))) a)
def lJ(q:V×Int):V×Int:=(q.1.neg,-q.2)
def Cd(l:List V)(i j k:Nat)(q:V×Int):Prop:=(nR (l.getD i V.zero) (l.getD j V.zero) (l.getD k V.zero)).1≠V.zero/\(q=nR (l.getD i V.zero) (l.getD j V.zero) (l.getD k V.zero)\/q=lJ (nR (l.getD i V.zero) (l.getD j V.zero) (l.getD k V.zero)))
structure Known(l:List V)(i j k:Nat)(K:List (V×Int)):Prop where
 nd:K.Nodup
 ok:∀ q∈K,supp l q=true/\∃ i j k,k<j/\j<i/\i<l.length/\Cd l i j k q
 all:∀ i' j' k',k'<j'->j'<i'->i'<l.length->(i'<i\/i'=i/\(j'<j\/j'=j/\k'<k))->∀ q,Cd l i' j' k' q->supp l q=true->q∈K
def JF{a b c:V}(ha:bd MV a)(hb:bd MV b)(hc:bd MV c):bd 549755813888 (nR a b c).1/\inR (nR a b c).2/\inR (-(nR a b c).2):=by
 have h1:bd 524288 (b.sub a):=by have:=jx hb ha;simpa [MV] using this
 have h2:bd 524288 (c.sub a):=by have:=jx hc ha;simpa [MV] using this
 have h3:=jv (gL h1 h2);have h4:=DB h3 ha;simp only[MV] at h4;refine⟨h3,?_,?_⟩<;>simp only[inR,nR]<;>omega
def Known.step{l:List V}{i j k:Nat}{K:List (V×Int)}(h:Known l i j k K)(hk:k<j)(hj:j<i)(hi:i<l.length)(hz:(nR (l.getD i V.zero) (l.getD j V.zero) (l.getD k V.zero)).1≠V.zero) :
  Known l i j (k+1) (gU l (gU l K (nR (l.getD i V.zero) (l.getD j V.zero) (l.getD k V.zero))) (lJ (nR (l.getD i V.zero) (l.getD j V.zero) (l.getD k V.zero)))):=by
 refine⟨sd (sd h.nd),λq hq=>?_,λi' j' k' h1 h2 h3 h4 q hq hs=>?_⟩
 ·rcases xY hq with hq|⟨rfl,hs⟩
  ·rcases xY hq with hq|⟨rfl,hs⟩
   ·exact h.ok q hq
   ·exact⟨hs,i,j,k,hk,hj,hi,hz,.inl rfl⟩
  ·exact⟨hs,i,j,k,hk,hj,hi,hz,.inr rfl⟩
 ·by_cases e:i'=i/\j'=j/\k'=k
  ·obtain⟨rfl,rfl,rfl⟩:=e;rcases hq.2 with rfl|rfl
   ·exact se (xZ hs)
   ·exact xZ hs
  ·exact se (se (h.all i' j' k' h1 h2 h3 (by omega) q hq hs))
def Known.skip{l:List V}{i j k:Nat}{K:List (V×Int)}(h:Known l i j k K)(hz:(nR (l.getD i V.zero) (l.getD j V.zero) (l.getD k V.zero)).1=V.zero):Known l i j (k+1) K:=by
 refine⟨h.nd,h.ok,λi' j' k' h1 h2 h3 h4 q hq hs=>?_⟩;by_cases e:i'=i/\j'=j/\k'=k
 ·obtain⟨rfl,rfl,rfl⟩:=e;exact absurd hz hq.1
 ·exact h.all i' j' k' h1 h2 h3 (by omega) q hq hs
def Known.next{l:List V}{i j:Nat}{K:List (V×Int)}(h:Known l i j j K):Known l i (j+1) 0 K:=
 ⟨h.nd,h.ok,λi' j' k' h1 h2 h3 h4=>h.all i' j' k' h1 h2 h3 (by omega)⟩
def Known.next2{l:List V}{i:Nat}{K:List (V×Int)}(h:Known l i i 0 K):Known l (i+1) 0 0 K:=
 ⟨h.nd,h.ok,λi' j' k' h1 h2 h3 h4=>h.all i' j' k' h1 h2 h3 (by omega)⟩
theorem mr{α β:Type}{f:α->List β}{c:Nat}:∀ l:List α,(∀ x∈l,(f x).length=c)->(l.flatMap f).length=l.length*c
 | [],_=>by simp
 | x::l,h=>by
  rw[List.flatMap_cons,zta,h x zqa,mr l (λy hy=>h y (zma _ hy)),zBa,Nat.succ_mul];omega
def Known.len{l:List V}{i j k:Nat}{K:List (V×Int)}(h:Known l i j k K)(hl:l.length<=100):K.length<=2000000:=by
 have h1:=zYb (l₂:=(List.range l.length).flatMap λi=>(List.range l.length).flatMap λj=>(List.range l.length).flatMap λk=>[nR (l.getD i V.zero) (l.getD j V.zero) (l.getD k V.zero),lJ (nR (l.getD i V.zero) (l.getD j V.zero) (l.getD k V.zero))]) h.nd (λq hq=>by
  obtain⟨_,i,j,k,h1,h2,h3,h4⟩:=h.ok q hq;refine zGc.2 ⟨i,zWa.2 h3,zGc.2 ⟨j,zWa.2 (by omega),zGc.2 ⟨k,zWa.2 (by omega),?_⟩⟩⟩
  rcases h4.2 with rfl|rfl<;>simp)
 rw[mr (c:=l.length*(l.length*2)) _ (λi _=>by rw[mr (c:=l.length*2) _ (λj _=>by rw[mr (c:=2) _ (λk _=>rfl),zLb]),zLb]),zLb] at h1
 refine zMa h1 ?_;have a1:l.length*2<=200:=by omega
 have a2:l.length*(l.length*2)<=100*200:=zfb hl a1;have a3:l.length*(l.length*(l.length*2))<=100*(100*200):=zfb hl a2;exact a3
def cY{l:List V}{i:Nat}(h:i<l.length):(l.map ag)[i]?=some (ag (l.getD i V.zero)):=by simp[h,List.getD]
def ct{l:List V}{i:Nat}(h:i<l.length):l.getD i V.zero∈l:=by simp[List.getD,h]
def Cn{n:Nat}{l:List V}{K:List (V×Int)}{q:V×Int}(hl:∀ x∈l,bd MV x)(hq:bd 549755813888 q.1)(hlen:l.length<=1000) :
  (if(!decide (q∈K))=true then(Option.bind (cA (n+2) 98 [aX l,bZ q]) λr=>D.truth r) else some false)=some (!decide (q∈K)&&supp l q):=by
 obtain⟨m,d⟩:=q;have hc:=XK n (d:=d) hl hq (by decide) (by omega)
 simp only[hc,zba,ab];cases decide ((m,d)∈K)<;>rfl
end Sy
end
noncomputable section
namespace Sy
open Go Go.Proofs Geo
def HP{a b:V}(h:aE a b):vK [bf a.x b.x,bf a.y b.y,bf a.z b.z]=-1:=by
 simp only[aE] at h;rcases h with h|⟨h1,h|⟨h2,h⟩⟩
 ·simp[vK,bf,h]
 ·simp[vK,bf,h1,h]
 ·simp[vK,bf,h1,h2,h]
def HO{a b:V}(h:aE b a):vK [bf a.x b.x,bf a.y b.y,bf a.z b.z]=1:=by
 simp only[aE] at h;rcases h with h|⟨h1,h|⟨h2,h⟩⟩
 ·simp[vK,bf,h,zac.2 (z5a h)]
 ·simp[vK,bf,h1,h,zac.2 (z5a h)]
 ·simp[vK,bf,h1,h2,h,zac.2 (z5a h)]
def HN(a:V):vK [bf a.x a.x,bf a.y a.y,bf a.z a.z]=0:=by simp[vK,bf]
theorem Bo{α:Type}(key:α->V):∀ (K:List α),K.Pairwise (λa b=>key a≠key b)->∃ L:List α,L.Perm K/\L.Pairwise (λa b=>aE (key a) (key b))
 | [],_=>⟨[],.refl _,.nil⟩
 | x::K,h=>by
  obtain⟨h1,h2⟩:=zHa.1 h;obtain⟨L,p1,p2⟩:=Bo key K h2;have hne:∀ y∈L,key x≠key y:=λy hy=>h1 y (p1.subset hy);have ins:∀ L:List α,L.Pairwise (λa b=>aE (key a) (key b))->(∀ y∈L,key x≠key y)->∃ M:List α,M.Perm (x::L)/\M.Pairwise (λa b=>aE (key a) (key b)):=by
   intro L
   induction L with
   | nil=>intro _ _;exact⟨[x],.refl _,by simp⟩
   | cons y L ih=>
    intro hp hn;obtain⟨q1,q2⟩:=zHa.1 hp;rcases oR (hn y zqa) with k|k
    ·refine⟨x::y::L,.refl _,zHa.2 ⟨λz hz=>?_,hp⟩⟩;rcases zva.1 hz with rfl|hz
     ·exact k
     ·exact kB k (q1 z hz)
    ·obtain⟨M,m1,m2⟩:=ih q2 (λz hz=>hn z (zma _ hz));refine⟨y::M,(m1.cons y).trans (.swap x y L),zHa.2 ⟨λz hz=>?_,m2⟩⟩;rcases zva.1 (m1.subset hz) with rfl|hz
     ·exact k
     ·exact q1 z hz
  obtain⟨M,m1,m2⟩:=ins L p2 hne;exact⟨M,m1.trans (p1.cons x),m2⟩
def Ay(n:Nat)(p q:V×Int):u9 (cX aO (cA (n+3)) (jF aO (cA (n+3)))) (cc 100) (bZ p) (bZ q)=some (vK [bf p.1.x q.1.x,bf p.1.y q.1.y,bf p.1.z q.1.z]):=by
 unfold u9;rw[show ∀ l,(cX aO (cA (n+3)) (jF aO (cA (n+3)))).call (cc 100) l=cA (n+3) 100 l from λl=>congrFun (congrArg (cA (n+3)) (show td (cc 100)=100 by kernel_rfl)) l,Ss]
 rfl
theorem DT(n:Nat):∀ (L:List (V×Int)),L.Pairwise (λa b=>aE a.1 b.1)->tf (cX aO (cA (n+3)) (jF aO (cA (n+3)))) (cc 100) (L.map bZ)=true
 | [],_=>rfl
 | p::L,h=>by
  obtain⟨h1,h2⟩:=zHa.1 h;simp only[z7a,tf,zaa,zja,zsb];refine⟨⟨?_,?_⟩,DT n L h2⟩
  ·simp only[FA,Ay,HN];decide
  ·rintro _ ⟨q,hq,rfl⟩;simp only[pI,FA,Ay,HP (h1 q hq),HO (h1 q hq)];decide
def IC(n:Nat){K L:List (V×Int)}(hp:L.Perm K)(h:L.Pairwise (λa b=>aE a.1 b.1)):iB (cX aO (cA (n+3)) (jF aO (cA (n+3)))) (cc 100) (K.map bZ)=some (L.map bZ):=
 yv (DT n L h) (hp.symm.map _)
def pt(l:List V)(i:Nat):V:=l.getD i V.zero
def li(a b:V):V.dot a.neg b=- V.dot a b:=by simp only[V.dot,V.neg];grind
def Cd.dist{l:List V}{i j k:Nat}{q:V×Int}(h:Cd l i j k q):q.2=V.dot q.1 (l.getD i V.zero):=by
 rcases h.2 with rfl|rfl
 ·rfl
 ·simp only[lJ,li];rfl
def Bp{l:List V}{q:V×Int}(h:supp l q=true){x:V}(hx:x∈l):V.dot q.1 x<=q.2:=by
 simp only[supp,pe,zaa,zja,decide_eq_true_eq] at h;exact h.1 x hx
def Known.keys{l:List V}{i j k:Nat}{K:List (V×Int)}(h:Known l i j k K):K.Pairwise (λa b=>a.1≠b.1):=by
 refine List.Pairwise.imp_of_mem (λ{a b} ha hb hab e=>hab ?_) h.nd;obtain⟨s1,i1,j1,k1,_,_,h1,c1⟩:=h.ok a ha;obtain⟨s2,i2,j2,k2,_,_,h2,c2⟩:=h.ok b hb;have e1:=c1.dist;have e2:=c2.dist;have l1:=Bp s1 (ct h2);have l2:=Bp s2 (ct h1);rw[e] at e1 l1;exact Prod.ext e (by omega)
def XM(n:Nat){l:List V}(hl:∀ x∈l,bd MV x)(hlen:l.length<=100):∃ y,cA (n+6) 45 [aX l]=some y/\∃ K L:List (V×Int),Known l l.length 0 0 K/\L.Perm K/\L.Pairwise (λa b=>aE a.1 b.1)/\y=.sl (L.map bZ):=by
 rw[XX];unfold KS;simp only[aX,D.asSl,zba];refine lV (λi s=>∃ K,s=[I i,.sl (gz K)]/\Known l i 0 0 K) l.length 0 (zoa _) ⟨[],rfl,⟨List.nodup_nil,by simp,λi' j' k' _ _ _ h=>by omega⟩⟩ (λi hi s hJ=>?_) (λs hJ=>?_)
 ·obtain⟨K,rfl,hK⟩:=hJ;simp only[g0,g1,zCa,ah,zba,ab,decide_eq_true_eq,show((i:Int)<(l.length:Int)) from by omega,if_true,D.els]
  refine lV (λj s=>∃ K,s=[I j,.sl (gz K)]/\Known l i j 0 K) i 0 (zoa _) ⟨K,rfl,hK⟩ (λj hj s hJ=>?_) (λs hJ=>?_)
  ·obtain⟨K,rfl,hK⟩:=hJ;simp only[g0,g1,ah,zba,ab,decide_eq_true_eq,show((j:Int)<(i:Int)) from by omega,if_true,D.els]
   refine lV (λk s=>∃ K,s=[I k,.sl (gz K)]/\Known l i j k K) j 0 (zoa _) ⟨K,rfl,hK⟩ (λk hk s hJ=>?_) (λs hJ=>?_)
   ·obtain⟨K,rfl,hK⟩:=hJ;have hthr:=JF (hl _ (ct hi)) (hl _ (ct (show j<l.length by omega))) (hl _ (ct (show k<l.length by omega)))
    have hc:=XJ (n+2) (hl _ (ct hi)) (hl _ (ct (show j<l.length by omega))) (hl _ (ct (show k<l.length by omega)))
    rw[show(bS (V.cross ((l.getD j V.zero).sub (l.getD i V.zero)) ((l.getD k V.zero).sub (l.getD i V.zero))),V.dot (bS (V.cross ((l.getD j V.zero).sub (l.getD i V.zero)) ((l.getD k V.zero).sub (l.getD i V.zero)))) (l.getD i V.zero))=nR (l.getD i V.zero) (l.getD j V.zero) (l.getD k V.zero) from rfl] at hc;simp only[g0,g1,ah,zba,ab,decide_eq_true_eq,show((k:Int)<(j:Int)) from by omega,if_true,D.els,zCa,aq hi,aq (show j<l.length by omega),aq (show k<l.length by omega),cY hi,cY (show j<l.length by omega),cY (show k<l.length by omega),hc]
    by_cases hz:(nR (l.getD i V.zero) (l.getD j V.zero) (l.getD k V.zero)).1=V.zero
    ·have hb:D.beq (ag (nR (l.getD i V.zero) (l.getD j V.zero) (l.getD k V.zero)).1) (D.st [D.int .i64 0,D.int .i64 0,D.int .i64 0])=true:=by
      rw[rm,jY];exact decide_eq_true hz
     simp only[show D.get (bZ (nR (l.getD i V.zero) (l.getD j V.zero) (l.getD k V.zero))) [0]=some (ag (nR (l.getD i V.zero) (l.getD j V.zero) (l.getD k V.zero)).1) from rfl,zba,hb,ab,if_true,g0,D.els,au (ay (i:=k) (by omega))]
     exact⟨_,rfl,K,rfl,hK.skip hz⟩
    ·have hb:D.beq (ag (nR (l.getD i V.zero) (l.getD j V.zero) (l.getD k V.zero)).1) (D.st [D.int .i64 0,D.int .i64 0,D.int .i64 0])=false:=by
      rw[rm,jY];exact decide_eq_false hz
     have step:=hK.step hk hj hi hz;generalize hq:nR (l.getD i V.zero) (l.getD j V.zero) (l.getD k V.zero)=q at *;obtain⟨b1,b2,b3⟩:=hthr;have hfl:D.st [ag q.1.neg,I (-q.2)]=bZ (lJ q):=rfl;have b4:bd 549755813888 (lJ q).1:=n7 b1;simp only[show D.get (bZ q) [0]=some (ag q.1) from rfl,show D.get (bZ q) [1]=some (I q.2) from rfl,zba,hb,ab,zsa,if_false,Oe (n+4) b1 (by decide),kX b3,hfl]
     have one:∀ (K:List (V×Int)) (p:V×Int),bd 549755813888 p.1->(Option.bind (D.un .not (Option.getD (D.mget (gz K) (bZ p)) (D.bool false))) λx32=>Option.bind (D.truth x32) λb33=>Option.bind (if b33 then(Option.bind (cA (n+5) 98 [D.sl (l.map ag),bZ p]) λr34=>D.truth r34) else(some false)) λb36=>
       if b36 then(some ((0:Nat),[(D.sl [bZ q,bZ (lJ q)]),(D.sl (D.mput (gz K) (bZ p) (D.bool true)))])) else(some (0,[(D.sl [bZ q,bZ (lJ q)]),(D.sl (gz K))])))=some (0,[D.sl [bZ q,bZ (lJ q)],D.sl (gz (gU l K p))]):=λK p hp=>by
      rw[ui];have ht:=Cn (n:=n+3) (K:=K) hl hp (by omega)
      simp only[aX] at ht;by_cases hm:p∈K
      ·simp[hm,aJ,ab,gU]
      ·simp only[hm,if_false,Option.getD_none,aJ,zxb,zba,ab,if_true,decide_false,zgb] at ht ⊢;rw[ht];simp only[zba,gU,hm,if_false];split
       ·rw[ul K p hm]
       ·rfl
     refine⟨.inl [I ((k+1:Nat):Int),.sl (gz (gU l (gU l K q) (lJ q)))],?_,_,rfl,step⟩;refine aa (z:=(0,[.sl (gz (gU l (gU l K q) (lJ q)))])) ?_ ?_
     ·refine be (s':=[.sl [bZ q,bZ (lJ q)],I 1,.sl (gz (gU l K q))]) ?_ (be (s':=[.sl [bZ q,bZ (lJ q)],I 2,.sl (gz (gU l (gU l K q) (lJ q)))]) ?_ (dZ (r:=(0,[.sl (gz (gU l (gU l K q) (lJ q)))])) ?_ rfl))
      ·simp only[g0,g1,g2,D.els,ah,zba,ab,decide_eq_true_eq,show((0:Int)<2) from by decide,if_true,zBa,zpb,show D.idx (I 0) (0+1+1)=some 0 from rfl,zDb,au Lc]
       exact aa (one K q b1) rfl
      ·simp only[g0,g1,g2,D.els,ah,zba,ab,decide_eq_true_eq,show((1:Int)<2) from by decide,if_true,zBa,zpb,show D.idx (I 1) (0+1+1)=some 1 from rfl,zcb,zDb,au s9]
       exact aa (one (gU l K q) (lJ q) b4) rfl
      ·simp only[g0,g1,g2,D.els,ah,zba,ab];rfl
     ·simp only[g0,D.els,au (ay (i:=k) (by omega)),zba]
      rfl
   ·obtain⟨K,rfl,hK⟩:=hJ;simp only[g0,g1,ah,zba,ab,decide_eq_true_eq,zwc,if_false,D.els];refine⟨_,rfl,.inl [I ((j+1:Nat):Int),.sl (gz K)],?_,K,rfl,hK.next⟩
    simp only[g0,D.els,au (ay (i:=j) (by omega)),zba]
    rfl
  ·obtain⟨K,rfl,hK⟩:=hJ;simp only[g0,g1,ah,zba,ab,decide_eq_true_eq,zwc,if_false,D.els];refine⟨_,rfl,.inl [I ((i+1:Nat):Int),.sl (gz K)],?_,K,rfl,hK.next2⟩;simp only[g0,D.els,au (ay (i:=i) (by omega)),zba]
   rfl
 ·obtain⟨K,rfl,hK⟩:=hJ;simp only[g0,g1,zCa,ah,zba,ab,decide_eq_true_eq,zwc,if_false,D.els];obtain⟨L,p1,p2⟩:=Bo (λq:V×Int=>q.1) K hK.keys;refine⟨_,rfl,.sl (L.map bZ),?_,K,L,hK,p1,p2,rfl⟩;have hKl:(gz K).length<=1073741824:=by
   have:=hK.len hlen;simp only[gz,zCa];omega
  simp only[g0,D.els,hKl,decide_true,if_true,B6,IC (n+2) p1 p2,zba]
end Sy
end
noncomputable section
namespace Sy
open Go Go.Proofs Geo
def nP{l:List V}{q:V×Int}:supp l q=true↔yP (pt l) l.length q.1 q.2:=by
 simp only[supp,pe,ja,zaa,zja,zRc,decide_eq_true_eq,yP,pt];constructor
 ·rintro⟨h1,x,hx,h2⟩;obtain⟨k,hk,rfl⟩:=zRa hx;exact⟨λk hk=>h1 _ (ct hk),k,hk,by simpa [List.getD,hk] using h2⟩
 ·rintro⟨h1,k,hk,h2⟩;refine⟨λx hx=>?_,_,ct hk,h2⟩;obtain⟨k,hk,rfl⟩:=zRa hx;simpa [List.getD,hk] using h1 k hk
def IQ(P:Nat->V)(i j k:Nat):V.cross ((P j).sub (P i)) ((P k).sub (P i))=(ge P k j i).neg:=by
 apply V.ext'<;>simp only[ge,wy,V.cross,V.sub,V.neg]<;>grind
def xb{P:Nat->V}{i j k:Nat}:V.dot (bS (ge P i j k)) (P k)=V.dot (bS (ge P i j k)) (P i):=by
 by_cases h:ge P i j k=V.zero
 ·have e0:bS V.zero=V.zero:=by apply V.ext'<;>simp[bS,V.zero]
  rw[h,e0];simp[V.dot,V.zero]
 ·have g:=ku h;have e:=jd (ge P i j k);have t2:V.dot (ge P i j k) (wy P i k)=0:=by simp only[ge,V.dot,V.cross];grind
  rw[e] at t2;have:(bu (ge P i j k):Int)*V.dot (bS (ge P i j k)) (wy P i k)=0:=by rw[<-t2];simp only[V.dot,V.smul];grind
  have h0:=bA (by omega) this
  rw[oD] at h0;omega
def EF{v:V}(h:v≠V.zero):v.neg≠V.zero:=λe=>by
 have e1:=congrArg V.x e;have e2:=congrArg V.y e;have e3:=congrArg V.z e;simp only[V.neg,V.zero] at e1 e2 e3;exact h (V.ext' (by simp only[V.zero];omega) (by simp only[V.zero];omega) (by simp only[V.zero];omega))
def IN(l:List V)(i j k:Nat):(nR (pt l i) (pt l j) (pt l k)).1=(bS (ge (pt l) k j i)).neg:=by
 simp only[nR,IQ (pt l) i j k,EO]
def xT(v:V):v.neg.neg=v:=by apply V.ext'<;>simp[V.neg]
def C9{l:List V}{i j k:Nat}{q:V×Int}:Cd l i j k q↔ge (pt l) k j i≠V.zero/\(q.1=bS (ge (pt l) k j i)\/q.1=(bS (ge (pt l) k j i)).neg)/\q.2=V.dot q.1 (pt l k):=by
 have e:=IN l i j k;have hd:V.dot (bS (ge (pt l) k j i)) (pt l i)=V.dot (bS (ge (pt l) k j i)) (pt l k):=xb;have hz:(nR (pt l i) (pt l j) (pt l k)).1≠V.zero↔ge (pt l) k j i≠V.zero:=by
  rw[e];constructor
  ·intro h h0;rw[h0] at h;exact h rfl
  ·intro h;exact EF (qn h)
 constructor
 ·intro h;have hds:=h.dist;obtain⟨h1,h2⟩:=h;refine⟨hz.1 h1,?_⟩;have hq:q.1=bS (ge (pt l) k j i)\/q.1=(bS (ge (pt l) k j i)).neg:=by
   rcases h2 with rfl|rfl
   ·exact .inr e
   ·left;show(nR (pt l i) (pt l j) (pt l k)).1.neg=_;rw[e,xT]
  refine⟨hq,?_⟩;rw[hds];rcases hq with hq|hq
  ·rw[hq];exact hd
  ·rw[hq,li,li];exact congrArg Neg.neg hd
 ·rintro⟨h1,h2,h3⟩;refine⟨hz.2 h1,?_⟩;have e2:(nR (pt l i) (pt l j) (pt l k)).2=V.dot (nR (pt l i) (pt l j) (pt l k)).1 (pt l i):=rfl;obtain⟨a,b⟩:=q;simp only at h2 h3;subst h3;rcases h2 with rfl|rfl
  ·right;show _=((nR (pt l i) (pt l j) (pt l k)).1.neg,-(nR (pt l i) (pt l j) (pt l k)).2);rw[e2,e,xT,li,hd,Int.neg_neg]
  ·left;refine Prod.ext e.symm ?_;show _=(nR (pt l i) (pt l j) (pt l k)).2;rw[e2,e,li,li,hd]
def Known.facets{l:List V}{K L:List (V×Int)}(h:Known l l.length 0 0 K)(hp:L.Perm K)(ho:L.Pairwise (λa b=>aE a.1 b.1)):Facets (pt l) l.length L:=by
 refine⟨ho,λq=>⟨λhq=>?_,λhq=>?_⟩⟩
 ·obtain⟨hs,i,j,k,h1,h2,h3,hc⟩:=h.ok q (hp.subset hq);obtain⟨c1,c2,c3⟩:=C9.1 hc;exact⟨⟨k,j,i,h1,h2,h3,c1,c2,c3⟩,nP.1 hs⟩
 ·obtain⟨⟨i,j,k,h1,h2,h3,c1,c2,c3⟩,hs⟩:=hq;exact hp.symm.subset (h.all k j i h1 h2 h3 (.inl h3) q (C9.2 ⟨c1,c2,c3⟩) (nP.2 hs))
end Sy
end
noncomputable section
namespace Sy
open Go Go.Proofs Geo
def iG:Option Nat->D
 | none=>I (-1)
 | some b=>I (b:Int)
def Kq{α:Type}{p:Prop}[Decidable p]{A B:α}(h:p):(if decide p=true then A else B)=A:=by rw[if_pos (decide_eq_true h)]
def Kr{α:Type}{p:Prop}[Decidable p]{A B:α}(h:¬ p):(if decide p=true then A else B)=B:=by rw[if_neg (by simpa using h)]
def aD{α:Type}{p:Prop}[Decidable p]{A B y:α}(h:p)(hA:A=y):(if decide p=true then A else B)=y:=by rw[if_pos (decide_eq_true h)];exact hA
def aH{α:Type}{p:Prop}[Decidable p]{A B y:α}(h:¬ p)(hA:B=y):(if decide p=true then A else B)=y:=by rw[if_neg (by simpa using h)];exact hA
def E0{x:Int}:sg x<0↔x<0:=by unfold sg;split<;>(try split)<;>omega
def dQ{x:Int}:sg x=0↔x=0:=by unfold sg;split<;>(try split)<;>omega
def ce(a b:Nat):D.beq (I (a:Int)) (I (b:Int))=decide (a=b):=by
 rw[bw];by_cases h:a=b<;>simp[h];omega
def J2(n:Nat){l:List V}(hl:∀ x∈l,bd MV x){m:V}{d:Int}{a k:Nat}{best:Option Nat}(hm0:m≠V.zero)(ha:a<l.length)(hk:k<l.length)(hb:∀ b,best=some b->b<l.length/\V.dot m (wy (pt l) a b)=0)(hk0:V.dot m (wy (pt l) a k)=0)(X:D) :
  (Option.bind (D.truth (D.bool (D.beq (I (k:Int)) (I (a:Int))))) λb25=>
  if b25 then(some ((0:Nat),[iG best,X])) else(Option.bind (D.bin .lss (iG best) (D.int .i64 0)) λx26=>
  Option.bind (D.truth x26) λb27=>
  if b27 then(some (0,[I (k:Int),X])) else(Option.bind (D.asSl (aX l)) λl28=>
  Option.bind (D.idx (I (k:Int)) (List.length l28)) λi29=>
  Option.bind (l28[i29]?) λx30=>
  Option.bind (D.asSl (aX l)) λl31=>
  Option.bind (D.idx (I (a:Int)) (List.length l31)) λi32=>
  Option.bind (l31[i32]?) λx33=>
  Option.bind (cA (n+4) 103 [x30,x33]) λr34=>
  Option.bind (D.asSl (aX l)) λl35=>
  Option.bind (D.idx (iG best) (List.length l35)) λi36=>
  Option.bind (l35[i36]?) λx37=>
  Option.bind (D.asSl (aX l)) λl38=>
  Option.bind (D.idx (I (a:Int)) (List.length l38)) λi39=>
  Option.bind (l38[i39]?) λx40=>
  Option.bind (cA (n+4) 103 [x37,x40]) λr41=>
  Option.bind (D.get (bZ (m,d)) [0]) λx42=>
  Option.bind (cA (n+4) 104 [x42,r41,r34]) λr43=>
  Option.bind (D.bin .lss r43 (D.int .i64 0)) λx44=>
  Option.bind (D.truth x44) λb45=>
  Option.bind (if b45 then(some true) else(Option.bind (D.truth (D.bool (D.beq r43 (D.int .i64 0)))) λb46=>
  if b46 then(Option.bind (cA (n+4) 101 [r34,r34]) λr47=>
  Option.bind (cA (n+4) 101 [r41,r41]) λr48=>
  Option.bind (D.bin .gtr r47 r48) λx49=>
  D.truth x49) else(some false))) λb50=>
  Option.bind (D.truth (D.bool b50)) λb51=>
  if b51 then(some (0,[I (k:Int),X])) else(some (0,[iG best,X])))))=some (0,[iG (cO m (pt l) a best k),X]):=by
 by_cases hka:k=a
 ·subst hka;have h0:D.beq (I (k:Int)) (I (k:Int))=true:=by rw[ce];simp
  rw[h0,show cO m (pt l) k best k=best from if_pos rfl];exact aa (z:=true) rfl (if_pos rfl)
 ·have h0:D.beq (I (k:Int)) (I (a:Int))=false:=by rw[ce];simp[hka]
  rw[h0];refine aa (z:=false) rfl ?_;rw[if_neg (by decide)]
  have hns:∀ b,cO m (pt l) a b k=match b with
   | none=>some k
   | some b=>if n8 m (pt l) a b k then some k else some b:=λb=>if_neg hka
  rw[hns];clear hns h0;cases best with
  | none=>exact aa (z:=.bool true) rfl (aa (z:=true) rfl rfl)
  | some b=>
   obtain⟨hb1,hb2⟩:=hb b rfl;have c1:=Hw (n+2) (hl _ (ct hk)) (hl _ (ct ha)) (by decide)
   have c2:=Hw (n+2) (hl _ (ct hb1)) (hl _ (ct ha)) (by decide)
   have w1:bd 524288 (wy (pt l) a k):=lP (hl _ (ct ha)) (hl _ (ct hk));have w2:bd 524288 (wy (pt l) a b):=lP (hl _ (ct ha)) (hl _ (ct hb1));have e1:(l.getD k V.zero).sub (l.getD a V.zero)=wy (pt l) a k:=rfl;have e2:(l.getD b V.zero).sub (l.getD a V.zero)=wy (pt l) a b:=rfl;rw[e1] at c1;rw[e2] at c2;have c3:=Su (n+1) (m:=m) w2 w1 (by decide)
   have c4:=DE (n+3) w1 w1 (by decide)
   have c5:=DE (n+3) w2 w2 (by decide)
   have hle:=AU hm0 (tL hb2 hk0);rw[hle] at c3;have hlt:¬ ((b:Int)<0):=by omega
   have ll:(l.map ag).length=l.length:=zCa ..;refine aa (z:=.bool false) (by rw[show iG (some b)=I (b:Int) from rfl,ah,decide_eq_false hlt]) (aa (z:=false) rfl ?_)
   rw[if_neg (by decide)]
   refine aa (z:=l.map ag) rfl (aa (z:=k) (by rw[ll];exact aq hk) (aa (cY hk) ?_))
   refine aa (z:=l.map ag) rfl (aa (z:=a) (by rw[ll];exact aq ha) (aa (cY ha) ?_))
   refine aa c1 ?_;refine aa (z:=l.map ag) rfl (aa (z:=b) (by rw[ll];exact aq hb1) (aa (cY hb1) ?_))
   refine aa (z:=l.map ag) rfl (aa (z:=a) (by rw[ll];exact aq ha) (aa (cY ha) ?_))
   refine aa c2 (aa (z:=ag m) rfl (aa c3 (aa ah (aa ab ?_))));simp only[E0,bw,dQ,ab,zba,c4,c5,ca,n8,T];by_cases t1:V.dot m (V.cross (wy (pt l) a b) (wy (pt l) a k))<0
   ·simp[t1,iG]
   ·by_cases t2:V.dot m (V.cross (wy (pt l) a b) (wy (pt l) a k))=0
    ·by_cases t3:V.dot (wy (pt l) a b) (wy (pt l) a b)<V.dot (wy (pt l) a k) (wy (pt l) a k)
     ·simp[t2,t3,iG]
     ·simp[t2,t3,iG]
    ·simp[t1,t2,iG]
end Sy
end
noncomputable section
namespace Sy
open Go Go.Proofs Geo
def ae(L:List Nat):List D:=L.map λ(k:Nat)=>I (k:Int)
def aj(L:List Nat):(ae L).length=L.length:=zCa ..
def tO{L:List Nat}{t k:Nat}(h:L[t]?=some k):(ae L)[t]?=some (I (k:Int)):=by simp[ae,h]
def AO{n:Nat}(h:0<n):D.idx (D.int .i64 0) n=some 0:=aq (i:=0) h
theorem rE{m:V}{P:Nat->V}{a:Nat}:∀ (L:List Nat) (best:Option Nat) (b:Nat),L.foldl (cO m P a) best=some b->b∈L\/best=some b
 | [],best,b,h=>.inr h
 | k::L,best,b,h=>by
  rw[z7b] at h;rcases rE L _ b h with h1|h1
  ·exact .inl (zma _ h1)
  ·unfold cO at h1;split at h1
   ·exact .inr h1
   ·split at h1
    ·cases h1;exact .inl zqa
    ·split at h1<;>cases h1
     ·exact .inl zqa
     ·exact .inr rfl
theorem qQ{body:Bd}{S:Nat->Nat->Prop}{a:Nat}{G:Nat->Prop}(hS:∀ c b,G c->S c b->b≠a->G b)
  (hstep:∀ (c b:Nat) (out:List Nat),G c->c≠a->S c b->out.length<=1000->body [.sl (ae out),I (c:Int)]=some (.inl [.sl (ae (out++[c])),I (b:Int)]))
  (hend:∀ out:List Nat,body [.sl (ae out),I (a:Int)]=some (.inr (0,[.sl (ae out)]))) :
  ∀ {c:Nat} {p:List Nat},Chain S a c p->G c->c≠a->∀ out:List Nat,(out++p).length<=1000->aO body [.sl (ae out),I (c:Int)]=some (0,[.sl (ae (out++p))])
 | c,_,.done s,hc,hca,out,hl=>by
  have h1:=hstep c a out hc hca s (by simp at hl;omega)
  rw[show aO body [.sl (ae out),I (c:Int)]=aO body [.sl (ae (out++[c])),I (a:Int)] from cR h1];exact cJ (hend _)
 | c,_,.step (y:=y) (l:=p) s hy k,hc,hca,out,hl=>by
  have h1:=hstep c y out hc hca s (by simp at hl;omega)
  rw[show aO body [.sl (ae out),I (c:Int)]=aO body [.sl (ae (out++[c])),I (y:Int)] from cR h1];have:=qQ hS hstep hend k (hS c y hc s hy) hy (out++[c]) (by simpa using hl)
  rw[this];simp
def jc{P:Nat->V}{i:Nat}{m:V}{d:Int}:bC P (i+1) m d=if V.dot m (P i)=d then bC P i m d++[i] else bC P i m d:=by
 unfold bC;rw[zrc,List.filter_append];by_cases h:V.dot m (P i)=d
 ·simp[h]
 ·simp[h]
def XN(n:Nat){l:List V}(hl:∀ x∈l,bd MV x)(hlen:l.length<=100)(hs:∀ i j,i<j->j<l.length->aE (pt l i) (pt l j)){m:V}{d:Int}(hF:IsF (pt l) l.length m d)(hm:bd 549755813888 m) :
  ∃ p,cn (pt l) l.length m d p/\cA (n+5) 46 [aX l,bZ (m,d)]=some (.sl (ae p)):=by
 obtain⟨p,hp,hnd,hmem⟩:=hF.poly hs;refine⟨p,hp,?_⟩;have F:=hF.flat hs;obtain⟨a,ha1,ha,hea,hale,h3⟩:=hF.head hs;obtain⟨a',ha1',hch⟩:=hp;rw[ha1] at ha1';cases ha1';obtain⟨on,hon⟩:∃ on,bC (pt l) l.length m d=on:=⟨_,rfl⟩;rw[hon] at F ha1 ha hea hale h3 hch hmem;have hlt:∀ k∈on,k<l.length:=λk hk=>by rw[<-hon] at hk;exact(cl.1 hk).1
 have hdk:∀ k∈on,V.dot m (pt l k)=d:=λk hk=>by rw[<-hon] at hk;exact(cl.1 hk).2
 have hw:∀ b∈on,∀ k∈on,V.dot m (wy (pt l) b k)=0:=λb hb k hk=>by rw[oD,hdk b hb,hdk k hk];omega
 have honl:on.length<=100:=by
  rw[<-hon];unfold bC;exact zMa (zsc _ _) (by rw[zLb];exact hlen)
 have hpl:p.length<=on.length:=zYb hnd λz hz=>((hmem z).1 hz).1;have ll:(l.map ag).length=l.length:=zCa ..;have hcore:=λ(c k:Nat) (hc:c∈on) (hk:k∈on) (best:Option Nat) (hb:∀ b,best=some b->b∈on) (X:D)=>J2 n hl (d:=d) hF.nz.1 (hlt c hc) (hlt k hk) (best:=best) (λb e=>⟨hlt b (hb b e),hw c hc b (hb b e)⟩) (hw c hc k hk) X;have hnx:∀ c∈on,Geo.ke (pt l) on c->∃ b,on.foldl (cO m (pt l) c) none=some b/\Side m (pt l) on c b:=λc hc ec=>uw F hc ec (h3 c hc);obtain⟨t0,hon0⟩:∃ t0,on=a::t0:=by
  cases hx:on with
  | nil=>rw[hx] at ha;simp at ha
  | cons y t0=>rw[hx] at ha1;simp at ha1;subst ha1;exact⟨t0,rfl⟩
 have hget0:(ae on)[0]?=some (I (a:Int)):=by rw[hon0];rfl
 have hpos:0<(ae on).length:=by rw[aj,hon0];simp
 rw[XY]
 delta Nz qG qB qC qT qS qX qV qW qZ iL iR Jn
 refine aa (z:=l.map ag) rfl ?_;refine bn (λi s=>s=[I (i:Int),.sl (ae (bC (pt l) i m d))]) l.length 0 (zoa _) rfl (λi hi s hJ=>?_) (λs hJ=>?_)
 ·subst hJ;left;refine⟨_,?_,rfl⟩;refine aa ah (aa ab ?_);refine aD (by show((i:Int)<((l.map ag).length:Int));rw[ll];omega) ?_
  refine aa (z:=(0,[.sl (ae (bC (pt l) (i+1) m d))])) ?_ (aa (au (ay (i:=i) (by omega))) rfl)
  refine aa (z:=l.map ag) rfl (aa (z:=i) (by rw[ll];exact aq hi) (aa (cY hi) (aa (z:=ag m) rfl (aa (DE (n+3) hm (hl _ (ct hi)) (by decide)) (aa (z:=I d) rfl ?_)))))
  rw[bw];refine aa ab ?_;rw[jc];by_cases hd:V.dot m (pt l i)=d
  ·have hd':V.dot m (l.getD i V.zero)=d:=hd;rw[if_pos hd,Kq hd',if_pos ?_]
   ·simp[g1,D.els,ae,g0]
   ·have:(bC (pt l) i m d).length<=i:=by unfold bC;exact zMa (zsc _ _) (by simp)
    simp only[g0,g1,D.els,aj,zBa,zpb];omega
  ·have hd':¬ V.dot m (l.getD i V.zero)=d:=hd;rw[if_neg hd,Kr hd'];rfl
 ·subst hJ;refine⟨(0,[.sl (ae on)]),?_,?_⟩
  ·refine aa ah (aa ab ?_);rw[<-hon];exact aH (by show ¬ ((l.length:Int)<((l.map ag).length:Int));rw[ll];omega) rfl
  refine aa (AO hpos) (aa hget0 (aa (AO hpos) (aa hget0 ?_)));obtain⟨b1,hb1,hs1⟩:=hnx a ha hea;refine bn (λt s=>s=[iG ((on.take t).foldl (cO m (pt l) a) none),.sl (ae on),I (t:Int),.sl (ae on)]) on.length 0 (zoa _) rfl (λt ht s hJ=>?_) (λs hJ=>?_)
  ·subst hJ;left;refine⟨_,?_,rfl⟩;refine aa ah (aa ab ?_);refine aD (by show((t:Int)<((ae on).length:Int));rw[aj];omega) ?_
   have hk:on[t]?=some on[t]:=zda ht;refine aa (z:=(0,[iG ((on.take (t+1)).foldl (cO m (pt l) a) none),.sl (ae on)])) ?_ (aa (au (ay (i:=t) (by omega))) rfl)
   refine aa (z:=ae on) rfl (aa (z:=t) (by rw[aj];exact aq ht) (aa (tO hk) ?_))
   rw[zEa ht,List.foldl_append,z7b,List.foldl_nil];exact hcore a on[t] ha (zLa ht) _ (λb hb=>by
    rcases rE _ _ b hb with h|h
    ·exact zJa h
    ·cases h) (.sl (ae on))
  ·subst hJ;rw[z3a,hb1];refine⟨(0,[I (b1:Int),.sl (ae on)]),?_,?_⟩
   ·refine aa ah (aa ab ?_);refine aH (by show ¬ ((on.length:Int)<((ae on).length:Int));rw[aj];omega) ?_
    rfl
   obtain⟨p',hpp,hch',hy⟩:∃ p',p=a::p'/\Chain (Side m (pt l) on) a b1 p'/\b1≠a:=by
    cases hch with
    | done s=>exact absurd rfl s.ne
    | step s hne k=>
     have:=Side.unique F ha s hs1;subst this;exact⟨_,rfl,k,hne⟩
   refine kD (qQ (S:=Side m (pt l) on) (a:=a) (G:=λc=>c∈on/\Geo.ke (pt l) on c) (λc b hc s _=>⟨s.mem,s.ext F hc.1⟩) (λc b out hc hca hsd hol=>?_) (λout=>?_) hch' ⟨hs1.mem,hs1.ext F ha⟩ hy [a] ?_) ?_
   ·obtain⟨b',hb',hsb'⟩:=hnx c hc.1 hc.2;have:=Side.unique F hc.1 hsd hsb';subst this;refine aa (z:=ae on) rfl (aa (AO hpos) (aa hget0 ?_));have e0:D.beq (I (c:Int)) (I (a:Int))=false:=by rw[ce];simp[hca]
    refine aa (z:=true) (by show D.truth (D.bool (!(D.beq (I (c:Int)) (I (a:Int)))))=_;rw[e0];rfl) ?_
    rw[if_pos rfl,if_pos (by simp only[g0,D.els,aj,zBa,zpb];omega)]
    refine aa (z:=ae on) rfl ?_;refine cN (λt s=>s=[iG ((on.take t).foldl (cO m (pt l) c) none),I (t:Int)]) on.length 0 (zoa _) rfl (λt ht s hJ=>?_) (λs hJ=>?_)
    ·subst hJ;left;refine⟨_,?_,rfl⟩;refine aa ah (aa ab ?_);refine aD (by show((t:Int)<((ae on).length:Int));rw[aj];omega) ?_
     have hk:on[t]?=some on[t]:=zda ht;refine aa (z:=(0,[iG ((on.take (t+1)).foldl (cO m (pt l) c) none),.sl (ae on)])) ?_ (aa (au (ay (i:=t) (by omega))) rfl)
     refine aa (z:=ae on) rfl (aa (z:=t) (by rw[aj];exact aq ht) (aa (tO hk) ?_))
     rw[zEa ht,List.foldl_append,z7b,List.foldl_nil];exact hcore c on[t] hc.1 (zLa ht) _ (λb hb=>by
      rcases rE _ _ b hb with h|h
      ·exact zJa h
      ·cases h) (.sl (ae on))
    ·subst hJ;rw[z3a,hb'];refine⟨(0,[I (b:Int)]),?_,?_⟩
     ·refine aa ah (aa ab ?_);refine aH (by show ¬ ((on.length:Int)<((ae on).length:Int));rw[aj];omega) ?_
      rfl
     ·simp[g0,g1,D.els,ae]
   ·refine aa (z:=ae on) rfl (aa (AO hpos) (aa hget0 ?_));have e0:D.beq (I (a:Int)) (I (a:Int))=true:=by rw[ce];simp
    refine aa (z:=false) (by show D.truth (D.bool (!(D.beq (I (a:Int)) (I (a:Int)))))=_;rw[e0];rfl) ?_
    rfl
   ·have:([a]++p').length=p.length:=by rw[hpp];rfl
    omega
   ·rw[hpp];rfl
end Sy
end
noncomputable section
namespace Sy
open Go Go.Proofs Geo
def xg(q:V×Int)(p:List Nat):D:=.st [ag q.1,I q.2,.sl (ae p)]
def cF(l:List V):D:=.st [aX l]
def Fy(l:List V):Prop:=∀ i j,i<j->j<l.length->aE (pt l i) (pt l j)
def Ko{l:List V}(hl:∀ x∈l,bd MV x){m:V}{d:Int}(h:IsF (pt l) l.length m d):bd 549755813888 m:=by
 obtain⟨i,j,k,h1,h2,h3,h4,h5,h6⟩:=h.ex;have hi:=hl _ (ct (show i<l.length by omega))
 have hj:=hl _ (ct (show j<l.length by omega))
 have hk:=hl _ (ct h3);have:=jv (gL (lP (P:=pt l) hi hj) (lP (P:=pt l) hi hk));rcases h5 with rfl|rfl
 ·exact this
 ·exact n7 this
def VG(n:Nat){l:List V}(hl:∀ x∈l,bd MV x)(hlen:l.length<=100)(hs:Fy l):∃ (L:List (V×Int)) (poly:V×Int->List Nat),Facets (pt l) l.length L/\(∀ q∈L,cn (pt l) l.length q.1 q.2 (poly q))/\L.length<=2000000 ∧
  cA (n+7) 18 [cF l]=some (.sl (L.map λq=>xg q (poly q))):=by
 obtain⟨y,h1,K,L,h2,h3,h4,rfl⟩:=XM n hl hlen;have hLF:=h2.facets h3 h4;have hLl:L.length<=2000000:=by rw[h3.length_eq];exact h2.len hlen
 have hex:∀ q:V×Int,∃ p,q∈L->cn (pt l) l.length q.1 q.2 p/\cA (n+6) 46 [aX l,bZ q]=some (.sl (ae p)):=λq=>by
  by_cases hq:q∈L
  ·have hF:=(hLF.mem q).1 hq;obtain⟨p,k1,k2⟩:=XN (n+1) hl hlen hs hF (Ko hl hF);exact⟨p,λ_=>⟨k1,k2⟩⟩
  ·exact⟨[],λh=>absurd h hq⟩
 obtain⟨poly,hpoly⟩:∃ poly:V×Int->List Nat,∀ q∈L,cn (pt l) l.length q.1 q.2 (poly q)/\cA (n+6) 46 [aX l,bZ q]=some (.sl (ae (poly q))):=⟨λq=>Classical.choose (hex q),λq hq=>Classical.choose_spec (hex q) hq⟩;refine⟨L,poly,hLF,λq hq=>(hpoly q hq).1,hLl,?_⟩;have hp:=λq (hq:q∈L)=>(hpoly q hq).2;rw[XQ]
 delta Nr qG qB qC qS qX qV qW qZ iL iR Jn
 refine aa (z:=aX l) rfl (aa h1 (aa (z:=L.map bZ) rfl ?_));have ll:(L.map bZ).length=L.length:=zCa ..;refine bn (λi s=>s=[.sl ((L.take i).map λq=>xg q (poly q)),I (i:Int)]) L.length 0 (zoa _) rfl (λi hi s hJ=>?_) (λs hJ=>?_)
 ·subst hJ;left;refine⟨_,?_,rfl⟩;refine aa ah (aa ab (aD (by show((i:Int)<((L.map bZ).length:Int));rw[ll];omega) ?_))
  have hg:(L.map bZ)[i]?=some (bZ L[i]):=by simp[hi]
  refine aa (z:=L.map bZ) rfl (aa (z:=i) (by rw[ll];exact aq hi) (aa hg ?_))
  refine aa (z:=ag L[i].1) rfl (aa (z:=I L[i].2) rfl (aa (z:=aX l) rfl (aa (hp L[i] (zLa hi)) ?_)));rw[if_pos (by simp only[g0,D.els,zCa,zbb,zBa,zpb];omega)]
  refine aa (au (ay (i:=i) (by omega))) ?_
  rw[zEa hi,zhc];rfl
 ·subst hJ;refine⟨(0,[.sl ((L.take L.length).map λq=>xg q (poly q))]),?_,?_⟩
  ·refine aa ah (aa ab (aH (by show ¬ ((L.length:Int)<((L.map bZ).length:Int));rw[ll];omega) rfl))
  ·rw[z3a];rfl
def rn{p:List Nat}{k:Nat}(h:k<p.length):(ae p)[k]?=some (I (p.getD k 0:Nat)):=by simp[ae,List.getD,h]
end Sy
end
noncomputable section
namespace Sy
open Go Go.Proofs Geo
abbrev FL:=List ((V×Int)×List Nat)
def aN(L:FL):List D:=L.map λf=>xg f.1 f.2
def a6(L:FL):(aN L).length=L.length:=zCa ..
def eG{L:FL}{i:Nat}(h:i<L.length):(aN L)[i]?=some (xg L[i].1 L[i].2):=by simp[aN,h]
def Sw(n:Nat)(L:FL)(m:V)(hL:L.length<=3000000):cA (n+1) 108 [.sl (aN L),ag m]=some (.bool (L.any λf=>decide (f.1.1=m))):=by
 rw[TS]
 delta FJ qB qT qX qL qZ iL iR Jn
 refine bn (λi s=>s=[I (i:Int)]/\(L.take i).any (λf=>decide (f.1.1=m))=false) L.length 0 (zoa _) ⟨rfl,by simp⟩ (λi hi s hJ=>?_) (λs hJ=>?_)
 ·obtain⟨rfl,hz⟩:=hJ;by_cases he:L[i].1.1=m
  ·right;refine⟨(0,[.bool true]),?_,?_⟩
   ·refine aa (z:=aN L) rfl (aa ah (aa ab (aD (by show((i:Int)<((aN L).length:Int));rw[a6];omega) ?_)))
    refine aa (z:=aN L) rfl (aa (z:=i) (by rw[a6];exact aq hi) (aa (eG hi) (aa (z:=ag L[i].1.1) rfl ?_)))
    rw[jY];exact aa ab (aD he rfl)
   ·have:L.any (λf=>decide (f.1.1=m))=true:=zRc.2 ⟨L[i],zLa hi,by simpa using he⟩
    simp[this,g0]
  ·left;refine⟨[I ((i+1:Nat):Int)],?_,rfl,?_⟩
   ·refine aa (z:=aN L) rfl (aa ah (aa ab (aD (by show((i:Int)<((aN L).length:Int));rw[a6];omega) ?_)))
    refine aa (z:=aN L) rfl (aa (z:=i) (by rw[a6];exact aq hi) (aa (eG hi) (aa (z:=ag L[i].1.1) rfl ?_)))
    rw[jY];exact aa ab (aH he (aa (au (ay (i:=i) (by omega))) rfl))
   ·rw[zEa hi,zWc,hz];simp[he]
 ·obtain⟨rfl,hz⟩:=hJ;rw[z3a] at hz;refine⟨(1,[]),?_,by simp[hz]⟩
  exact aa (z:=aN L) rfl (aa ah (aa ab (aH (by show ¬ ((L.length:Int)<((aN L).length:Int));rw[a6];omega) rfl)))
def j9(f:(V×Int)×List Nat):FL->FL
 | []=>[f]
 | x::L=>if aE f.1.1 x.1.1 then f::x::L else x::j9 f L
def Sz(n:Nat)(L:FL)(f:(V×Int)×List Nat)(hL:L.length<=3000000):cA (n+2) 110 [.sl (aN L),xg f.1 f.2]=some (.sl (aN (j9 f L))):=by
 rw[TU]
 delta FM qG qB qT qN qX qL qV qW qZ iL iR Jn
 have app:∀ (o:FL) (x:(V×Int)×List Nat),aN o++[xg x.1 x.2]=aN (o++[x]):=λo x=>by simp[aN]
 refine bn (λi s=>∃ (out:FL) (put:Bool),s=[.sl (aN out),.bool put,I (i:Int)]/\out.length<=2*i/\(put=false->j9 f L=out++j9 f (L.drop i))/\(put=true->j9 f L=out++L.drop i)) L.length 0 (zoa _) ⟨[],false,rfl,by simp,by simp,by simp⟩ (λi hi s hJ=>?_) (λs hJ=>?_)
 ·obtain⟨out,put,rfl,hol,h1,h2⟩:=hJ;left;have hd:L.drop i=L[i]::L.drop (i+1):=zmb hi;have hc:=LX n f.1.1 L[i].1.1;obtain⟨o,p,he,ho,q1,q2⟩:∃ o p,(if put=false/\aE f.1.1 L[i].1.1 then(out++[f],true) else(out,put))=(o,p)/\o.length<=2*i+1/\(p=false->j9 f L=o++L[i]::j9 f (L.drop (i+1)))/\(p=true->j9 f L=o++L[i]::L.drop (i+1)):=by
   by_cases hput:put=false/\aE f.1.1 L[i].1.1
   ·refine⟨_,_,if_pos hput,by simp;omega,by simp,λ_=>?_⟩
    rw[h1 hput.1,hd];simp[j9,hput.2]
   ·refine⟨_,_,if_neg hput,by omega,λhp=>?_,λhp=>?_⟩
    ·have hnl:¬ aE f.1.1 L[i].1.1:=λh=>hput ⟨hp,h⟩;rw[h1 hp,hd];simp[j9,hnl]
    ·rw[h2 hp,hd]
  refine⟨[.sl (aN (o++[L[i]])),.bool p,I ((i+1:Nat):Int)],?_,o++[L[i]],p,rfl,by simp;omega,λhp=>by rw[q1 hp];simp,λhp=>by rw[q2 hp];simp⟩
  refine aa (z:=aN L) rfl (aa ah (aa ab (aD (by show((i:Int)<((aN L).length:Int));rw[a6];omega) ?_)))
  refine aa (z:=ag f.1.1) rfl (aa (z:=aN L) rfl (aa (z:=i) (by rw[a6];exact aq hi) (aa (eG hi) (aa (z:=ag L[i].1.1) rfl (aa hc ?_)))))
  refine aa (z:=(0,[.sl (aN o),.bool p])) ?_ ?_
  ·refine aa (z:=.bool (!put)) rfl (aa (z:=!put) rfl (aa (z:=!put&&decide (aE f.1.1 L[i].1.1)) ?_ (aa (z:=!put&&decide (aE f.1.1 L[i].1.1)) rfl ?_)))
   ·cases put
    ·exact ab
    ·rfl
   ·by_cases hput:put=false/\aE f.1.1 L[i].1.1
    ·rw[if_pos hput] at he;obtain⟨rfl,hlt⟩:=hput;cases he;rw[show(!false&&decide (aE f.1.1 L[i].1.1))=true by simp[hlt],if_pos rfl,if_pos (by simp only[g0,D.els,a6,zBa,zpb];omega)]
     simp only[g0,D.els,app]
    ·rw[if_neg hput] at he;cases he;rw[show(!put&&decide (aE f.1.1 L[i].1.1))=false by
      cases put
      ·simpa using hput
      ·rfl]
     rfl
  ·refine aa (z:=aN L) rfl (aa (z:=i) (by rw[a6];exact aq hi) (aa (eG hi) ?_))
   rw[if_pos (by simp only[g0,D.els,a6,zBa,zpb];omega)]
   refine aa (au (ay (i:=i) (by omega))) ?_
   simp only[g0,g1,D.els,app];rfl
 ·obtain⟨out,put,rfl,hol,h1,h2⟩:=hJ;refine⟨(0,[.sl (aN out),.bool put]),?_,?_⟩
  ·exact aa (z:=aN L) rfl (aa ah (aa ab (aH (by show ¬ ((L.length:Int)<((aN L).length:Int));rw[a6];omega) rfl)))
  ·cases put
   ·have:=h1 rfl;rw[zQc] at this;rw[this];refine aa (z:=(0,[.sl (aN (out++[f]))])) ?_ rfl;refine aa (z:=.bool true) rfl (aa (z:=true) rfl ?_);rw[if_pos rfl,if_pos (by simp only[g0,D.els,a6,zBa,zpb];omega)]
    simp only[g0,D.els,app]
   ·have:=h2 rfl;rw[zQc,zVc] at this;rw[this];rfl
end Sy
end
end Go.Proofs.YtphlmegkommlnaaGreatDoor
