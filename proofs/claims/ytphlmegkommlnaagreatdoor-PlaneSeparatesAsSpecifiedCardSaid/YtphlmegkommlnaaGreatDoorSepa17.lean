/- Part 17 of the proof that PlaneSeparatesAsSpecified answers true at every input -/
import Derived.Test.YtphlmegkommlnaaGreatDoorSepa08
set_option linter.unusedVariables false
set_option linter.unusedSimpArgs false
set_option linter.unnecessarySimpa false
set_option linter.defProp false
set_option maxRecDepth 20000
namespace Go.Proofs.YtphlmegkommlnaaGreatDoor
noncomputable section
namespace Sy
open Go Go.Proofs
def aL:Lp:=λ{α β} body=>lL (α:=α) (β:=β) body
def cA(n:Nat):Nat->List D->Option D:=Fx aL n
section
variable(n:Nat)(a0 a1 a2 a3 a4:D)
def VX:cA (n+1) 12 [a0]=MO aL (cA n) a0:=by kernel_rfl
def ZR:cA (n+1) 13 [a0,a1]=Ph aL (cA n) a0 a1:=by kernel_rfl
def ZS:cA (n+1) 15 [a0]=Pi aL (cA n) a0:=by kernel_rfl
def ZT:cA (n+1) 18 [a0]=Pj aL (cA n) a0:=by kernel_rfl
def ZU:cA (n+1) 19 [a0]=Pm aL (cA n) a0:=by kernel_rfl
def ZV:cA (n+1) 21 [a0]=MP aL (cA n) a0:=by kernel_rfl
def ZW:cA (n+1) 22 [a0]=Pn aL (cA n) a0:=by kernel_rfl
def u32:cA (n+1) 32 [a0,a1]=MQ aL (cA n) a0 a1:=by kernel_rfl
def ZX:cA (n+1) 33 [a0,a1]=Po aL (cA n) a0 a1:=by kernel_rfl
def ZY:cA (n+1) 34 [a0]=Pp aL (cA n) a0:=by kernel_rfl
def WR:cA (n+1) 37 [a0,a1]=MR aL (cA n) a0 a1:=by kernel_rfl
def XF:cA (n+1) 38 [a0,a1]=Nj aL (cA n) a0 a1:=by kernel_rfl
def ZZ:cA (n+1) 39 [a0,a1]=Pq aL (cA n) a0 a1:=by kernel_rfl
def XG:cA (n+1) 40 [a0,a1]=Nk aL (cA n) a0 a1:=by kernel_rfl
def Z0:cA (n+1) 42 [a0,a1]=Pr aL (cA n) a0 a1:=by kernel_rfl
def Z1:cA (n+1) 45 [a0]=MS aL (cA n) a0:=by kernel_rfl
def Z3:cA (n+1) 46 [a0,a1]=Ps aL (cA n) a0 a1:=by kernel_rfl
def Z4:cA (n+1) 47 [a0]=Pt aL (cA n) a0:=by kernel_rfl
def Z5:cA (n+1) 48 [a0]=Pu aL (cA n) a0:=by kernel_rfl
def Z6:cA (n+1) 51 [a0,a1]=Pv aL (cA n) a0 a1:=by kernel_rfl
def Z7:cA (n+1) 52 [a0]=Pw aL (cA n) a0:=by kernel_rfl
def Z8:cA (n+1) 53 [a0,a1]=Px aL (cA n) a0 a1:=by kernel_rfl
def Z9:cA (n+1) 54 [a0]=Py aL (cA n) a0:=by kernel_rfl
def u57:cA (n+1) 57 [a0,a1]=Pz aL (cA n) a0 a1:=by kernel_rfl
def Xm:cA (n+1) 59 [a0,a1]=MT aL (cA n) a0 a1:=by kernel_rfl
def u61:cA (n+1) 61 [a0,a1]=PA aL (cA n) a0 a1:=by kernel_rfl
def Xn:cA (n+1) 62 [a0,a1]=MU aL (cA n) a0 a1:=by kernel_rfl
def u63:cA (n+1) 63 [a0]=PC aL (cA n) a0:=by kernel_rfl
def u65:cA (n+1) 65 [a0,a1]=PD aL (cA n) a0 a1:=by kernel_rfl
def u68:cA (n+1) 68 [a0]=PE aL (cA n) a0:=by kernel_rfl
def XH:cA (n+1) 70 [a0]=NA aL (cA n) a0:=by kernel_rfl
def u73:cA (n+1) 73 [a0,a1]=PF aL (cA n) a0 a1:=by kernel_rfl
def u74:cA (n+1) 74 [a0]=PG aL (cA n) a0:=by kernel_rfl
def u75:cA (n+1) 75 [a0]=PH aL (cA n) a0:=by kernel_rfl
def XI:cA (n+1) 76 [a0]=NC aL (cA n) a0:=by kernel_rfl
def u77:cA (n+1) 77 [a0]=PI aL (cA n) a0:=by kernel_rfl
def u78:cA (n+1) 78 [a0,a1]=PJ aL (cA n) a0 a1:=by kernel_rfl
def u79:cA (n+1) 79 [a0,a1]=PK aL (cA n) a0 a1:=by kernel_rfl
def u80:cA (n+1) 80 [a0]=PL aL (cA n) a0:=by kernel_rfl
def XJ:cA (n+1) 81 [a0,a1]=ND aL (cA n) a0 a1:=by kernel_rfl
def u82:cA (n+1) 82 [a0,a1]=PM aL (cA n) a0 a1:=by kernel_rfl
def u83:cA (n+1) 83 [a0]=PN aL (cA n) a0:=by kernel_rfl
def u84:cA (n+1) 84 []=PO aL (cA n) :=by kernel_rfl
def XK:cA (n+1) 85 [a0,a1]=NE aL (cA n) a0 a1:=by kernel_rfl
def u86:cA (n+1) 86 [a0]=PP aL (cA n) a0:=by kernel_rfl
def Xo:cA (n+1) 87 [a0,a1]=MW aL (cA n) a0 a1:=by kernel_rfl
def XL:cA (n+1) 88 [a0]=NF aL (cA n) a0:=by kernel_rfl
def Xp:cA (n+1) 89 [a0,a1]=MX aL (cA n) a0 a1:=by kernel_rfl
def u90:cA (n+1) 90 [a0,a1]=PQ aL (cA n) a0 a1:=by kernel_rfl
def u91:cA (n+1) 91 [a0,a1]=PR aL (cA n) a0 a1:=by kernel_rfl
def u96:cA (n+1) 96 [a0,a1,a2]=PS aL (cA n) a0 a1 a2:=by kernel_rfl
def u97:cA (n+1) 97 [a0]=PT aL (cA n) a0:=by kernel_rfl
def u98:cA (n+1) 98 [a0,a1]=PU aL (cA n) a0 a1:=by kernel_rfl
def VF:cA (n+1) 100 [a0,a1]=Ht aL (cA n) a0 a1:=by kernel_rfl
def VG:cA (n+1) 101 [a0,a1]=EQ aL (cA n) a0 a1:=by kernel_rfl
def VH:cA (n+1) 103 [a0,a1]=Hu aL (cA n) a0 a1:=by kernel_rfl
def VI:cA (n+1) 104 [a0,a1,a2]=Hv aL (cA n) a0 a1 a2:=by kernel_rfl
def VJ:cA (n+1) 105 [a0,a1]=Hw aL (cA n) a0 a1:=by kernel_rfl
def VK:cA (n+1) 106 [a0,a1,a2]=Hx aL (cA n) a0 a1 a2:=by kernel_rfl
def VL:cA (n+1) 107 [a0,a1]=Hy aL (cA n) a0 a1:=by kernel_rfl
def VM:cA (n+1) 108 [a0,a1]=Hz aL (cA n) a0 a1:=by kernel_rfl
def VN:cA (n+1) 109 [a0,a1,a2]=HA aL (cA n) a0 a1 a2:=by kernel_rfl
def VO:cA (n+1) 110 [a0,a1]=HB aL (cA n) a0 a1:=by kernel_rfl
def VP:cA (n+1) 111 [a0,a1,a2]=HC aL (cA n) a0 a1 a2:=by kernel_rfl
def VQ:cA (n+1) 112 [a0,a1]=HD aL (cA n) a0 a1:=by kernel_rfl
def VR:cA (n+1) 115 [a0]=HE aL (cA n) a0:=by kernel_rfl
def VS:cA (n+1) 116 [a0,a1]=HF aL (cA n) a0 a1:=by kernel_rfl
def VU:cA (n+1) 117 [a0,a1]=HG aL (cA n) a0 a1:=by kernel_rfl
def VV:cA (n+1) 118 [a0]=HH aL (cA n) a0:=by kernel_rfl
def VW:cA (n+1) 119 []=HI aL (cA n) :=by kernel_rfl
def VY:cA (n+1) 120 [a0,a1]=HJ aL (cA n) a0 a1:=by kernel_rfl
def VZ:cA (n+1) 121 [a0,a1]=HK aL (cA n) a0 a1:=by kernel_rfl
def V0:cA (n+1) 122 [a0,a1]=HL aL (cA n) a0 a1:=by kernel_rfl
def V1:cA (n+1) 123 [a0,a1]=HM aL (cA n) a0 a1:=by kernel_rfl
def MH:cA (n+1) 124 [a0]=Db aL (cA n) a0:=by kernel_rfl
def V2:cA (n+1) 125 []=HN aL (cA n) :=by kernel_rfl
def V3:cA (n+1) 126 [a0,a1]=HO aL (cA n) a0 a1:=by kernel_rfl
def V4:cA (n+1) 127 [a0]=HP aL (cA n) a0:=by kernel_rfl
def OY:cA (n+1) 128 [a0]=ER aL (cA n) a0:=by kernel_rfl
def V5:cA (n+1) 129 [a0]=HR aL (cA n) a0:=by kernel_rfl
def V6:cA (n+1) 130 []=HS aL (cA n) :=by kernel_rfl
def V7:cA (n+1) 131 [a0,a1]=HT aL (cA n) a0 a1:=by kernel_rfl
def OZ:cA (n+1) 132 [a0,a1]=ES aL (cA n) a0 a1:=by kernel_rfl
def V8:cA (n+1) 133 []=HU aL (cA n) :=by kernel_rfl
def O0:cA (n+1) 136 [a0]=ET aL (cA n) a0:=by kernel_rfl
def V9:cA (n+1) 137 [a0,a1]=HV aL (cA n) a0 a1:=by kernel_rfl
def Wa:cA (n+1) 138 [a0]=HW aL (cA n) a0:=by kernel_rfl
def O1:cA (n+1) 139 [a0]=EU aL (cA n) a0:=by kernel_rfl
def Wb:cA (n+1) 140 [a0]=HX aL (cA n) a0:=by kernel_rfl
def Wc:cA (n+1) 141 [a0,a1]=HY aL (cA n) a0 a1:=by kernel_rfl
def We:cA (n+1) 142 [a0]=HZ aL (cA n) a0:=by kernel_rfl
def Wf:cA (n+1) 143 [a0,a1]=H0 aL (cA n) a0 a1:=by kernel_rfl
def O2:cA (n+1) 144 [a0,a1]=EV aL (cA n) a0 a1:=by kernel_rfl
def Wg:cA (n+1) 145 [a0]=H1 aL (cA n) a0:=by kernel_rfl
def Wh:cA (n+1) 146 [a0,a1]=H2 aL (cA n) a0 a1:=by kernel_rfl
def Wi:cA (n+1) 147 [a0,a1]=H3 aL (cA n) a0 a1:=by kernel_rfl
def Wj:cA (n+1) 148 [a0]=H4 aL (cA n) a0:=by kernel_rfl
def O3:cA (n+1) 152 [a0,a1]=EW aL (cA n) a0 a1:=by kernel_rfl
def Wl:cA (n+1) 154 [a0,a1]=H5 aL (cA n) a0 a1:=by kernel_rfl
def Wm:cA (n+1) 155 [a0]=H6 aL (cA n) a0:=by kernel_rfl
def Wn:cA (n+1) 156 [a0,a1,a2,a3,a4]=H7 aL (cA n) a0 a1 a2 a3 a4:=by kernel_rfl
def Wo:cA (n+1) 165 [a0]=H8 aL (cA n) a0:=by kernel_rfl
def Wp:cA (n+1) 167 [a0]=H9 aL (cA n) a0:=by kernel_rfl
def Wq:cA (n+1) 168 [a0,a1]=Ia aL (cA n) a0 a1:=by kernel_rfl
def Wr:cA (n+1) 169 []=Ib aL (cA n) :=by kernel_rfl
def Ws:cA (n+1) 170 [a0,a1]=Ic aL (cA n) a0 a1:=by kernel_rfl
def Wt:cA (n+1) 171 [a0]=Id aL (cA n) a0:=by kernel_rfl
def O4:cA (n+1) 172 [a0,a1]=EX aL (cA n) a0 a1:=by kernel_rfl
def O5:cA (n+1) 173 [a0,a1]=EY aL (cA n) a0 a1:=by kernel_rfl
def O6:cA (n+1) 174 [a0,a1]=EZ aL (cA n) a0 a1:=by kernel_rfl
def Wu:cA (n+1) 175 [a0,a1]=Ie aL (cA n) a0 a1:=by kernel_rfl
def Wv:cA (n+1) 186 [a0]=If aL (cA n) a0:=by kernel_rfl
def Ww:cA (n+1) 187 [a0]=Ig aL (cA n) a0:=by kernel_rfl
def Wx:cA (n+1) 188 [a0,a1]=Ih aL (cA n) a0 a1:=by kernel_rfl
def Wy:cA (n+1) 194 [a0]=Ii aL (cA n) a0:=by kernel_rfl
def Wz:cA (n+1) 195 [a0,a1]=Ij aL (cA n) a0 a1:=by kernel_rfl
def WA:cA (n+1) 196 [a0]=Ik aL (cA n) a0:=by kernel_rfl
def WB:cA (n+1) 197 [a0,a1]=Il aL (cA n) a0 a1:=by kernel_rfl
def WC:cA (n+1) 201 [a0,a1]=Im aL (cA n) a0 a1:=by kernel_rfl
def WD:cA (n+1) 202 [a0]=Dc aL (cA n) a0:=by kernel_rfl
def O7:cA (n+1) 203 [a0,a1]=E0 aL (cA n) a0 a1:=by kernel_rfl
def WE:cA (n+1) 215 [a0]=Io aL (cA n) a0:=by kernel_rfl
def WF:cA (n+1) 217 [a0]=Ip aL (cA n) a0:=by kernel_rfl
def WG:cA (n+1) 322 [a0]=Iq aL (cA n) a0:=by kernel_rfl
def WH:cA (n+1) 324 [a0,a1]=Ir aL (cA n) a0 a1:=by kernel_rfl
def WI:cA (n+1) 331 [a0]=Is aL (cA n) a0:=by kernel_rfl
def WJ:cA (n+1) 342 [a0]=It aL (cA n) a0:=by kernel_rfl
def WK:cA (n+1) 344 [a0,a1]=Iu aL (cA n) a0 a1:=by kernel_rfl
def WL:cA (n+1) 345 [a0,a1]=Iv aL (cA n) a0 a1:=by kernel_rfl
def WM:cA (n+1) 348 [a0]=Iw aL (cA n) a0:=by kernel_rfl
def WN:cA (n+1) 349 [a0]=Ix aL (cA n) a0:=by kernel_rfl
def WO:cA (n+1) 352 [a0,a1]=Iy aL (cA n) a0 a1:=by kernel_rfl
def O8:cA (n+1) 357 [a0]=E1 aL (cA n) a0:=by kernel_rfl
def WP:cA (n+1) 364 [a0,a1]=Iz aL (cA n) a0 a1:=by kernel_rfl
def WQ:cA (n+1) 365 [a0]=IA aL (cA n) a0:=by kernel_rfl
def O9:cA (n+1) 373 [a0,a1]=E2 aL (cA n) a0 a1:=by kernel_rfl
def WS:cA (n+1) 374 [a0]=IB aL (cA n) a0:=by kernel_rfl
def WT:cA (n+1) 379 [a0,a1]=IC aL (cA n) a0 a1:=by kernel_rfl
def WU:cA (n+1) 385 [a0]=ID aL (cA n) a0:=by kernel_rfl
def Pa:cA (n+1) 386 [a0,a1]=E3 aL (cA n) a0 a1:=by kernel_rfl
def WV:cA (n+1) 387 [a0]=IE aL (cA n) a0:=by kernel_rfl
def WW:cA (n+1) 388 [a0,a1]=IF aL (cA n) a0 a1:=by kernel_rfl
def WX:cA (n+1) 390 [a0,a1]=IG aL (cA n) a0 a1:=by kernel_rfl
def WY:cA (n+1) 392 [a0,a1]=IH aL (cA n) a0 a1:=by kernel_rfl
def WZ:cA (n+1) 393 [a0]=II aL (cA n) a0:=by kernel_rfl
def MI:cA (n+1) 394 [a0]=Dd aL (cA n) a0:=by kernel_rfl
def W0:cA (n+1) 395 [a0,a1,a2,a3]=IJ aL (cA n) a0 a1 a2 a3:=by kernel_rfl
def W2:cA (n+1) 396 [a0,a1]=IK aL (cA n) a0 a1:=by kernel_rfl
def W3:cA (n+1) 414 [a0,a1,a2,a3]=IM aL (cA n) a0 a1 a2 a3:=by kernel_rfl
def W4:cA (n+1) 416 [a0,a1,a2,a3]=IN aL (cA n) a0 a1 a2 a3:=by kernel_rfl
def W5:cA (n+1) 417 [a0,a1,a2,a3]=IP aL (cA n) a0 a1 a2 a3:=by kernel_rfl
def W6:cA (n+1) 420 [a0,a1,a2,a3,a4]=IQ aL (cA n) a0 a1 a2 a3 a4:=by kernel_rfl
def W7:cA (n+1) 427 [a0]=IR aL (cA n) a0:=by kernel_rfl
def W8:cA (n+1) 428 [a0,a1]=IS aL (cA n) a0 a1:=by kernel_rfl
def W9:cA (n+1) 431 [a0,a1]=IT aL (cA n) a0 a1:=by kernel_rfl
def Xa:cA (n+1) 433 [a0,a1]=IU aL (cA n) a0 a1:=by kernel_rfl
def Xb:cA (n+1) 434 [a0,a1,a2]=IV aL (cA n) a0 a1 a2:=by kernel_rfl
def Xc:cA (n+1) 435 [a0,a1]=IW aL (cA n) a0 a1:=by kernel_rfl
def Xd:cA (n+1) 436 [a0,a1,a2,a3]=IX aL (cA n) a0 a1 a2 a3:=by kernel_rfl
def Xe:cA (n+1) 437 [a0,a1,a2]=IY aL (cA n) a0 a1 a2:=by kernel_rfl
def Xf:cA (n+1) 438 [a0]=IZ aL (cA n) a0:=by kernel_rfl
def Xg:cA (n+1) 447 [a0]=I0 aL (cA n) a0:=by kernel_rfl
def Xh:cA (n+1) 448 [a0]=I1 aL (cA n) a0:=by kernel_rfl
def Xi:cA (n+1) 449 [a0]=I2 aL (cA n) a0:=by kernel_rfl
def Xj:cA (n+1) 450 [a0,a1]=I3 aL (cA n) a0 a1:=by kernel_rfl
def Xk:cA (n+1) 452 [a0,a1]=I4 aL (cA n) a0 a1:=by kernel_rfl
def Xl:cA (n+1) 456 [a0,a1]=I5 aL (cA n) a0 a1:=by kernel_rfl
end
end Sy
end
noncomputable section
namespace Geo
structure V where
 x:Int
 y:Int
 z:Int
deriving DecidableEq
namespace V
def sub(a b:V):V:=⟨a.x-b.x,a.y-b.y,a.z-b.z⟩
def neg(a:V):V:=⟨-a.x,-a.y,-a.z⟩
def add(a b:V):V:=⟨a.x+b.x,a.y+b.y,a.z+b.z⟩
def smul(k:Int)(a:V):V:=⟨k*a.x,k*a.y,k*a.z⟩
def dot(a b:V):Int:=a.x*b.x+a.y*b.y+a.z*b.z
def cross(a b:V):V:=⟨a.y*b.z-a.z*b.y,a.z*b.x-a.x*b.z,a.x*b.y-a.y*b.x⟩
def zero:V:=⟨0,0,0⟩
def ext'{a b:V}(h1:a.x=b.x)(c:a.y=b.y)(d:a.z=b.z):a=b:=by cases a;cases b;simp_all
end V
open V
def Bv{a:Int}(h:a≠0):0<a*a:=by
 rcases Int.lt_or_lt_of_ne h with h|h
 ·exact zZb h h
 ·exact zub h h
def ml(a:Int):0<=a*a:=by
 rcases zJb a 0 with h|h|h
 ·exact zMa (zZb h h)
 ·subst h;decide
 ·exact zMa (zub h h)
def qR(a:V):0<=dot a a:=by
 have:=ml a.x;have:=ml a.y;have:=ml a.z;simp only[dot];omega
def uM{a:V}(h:dot a a=0):a=zero:=by
 have h1:=ml a.x;have e:=ml a.y;have f:=ml a.z;simp only[dot] at h;have b:a.x*a.x=0:=by omega
 have c:a.y*a.y=0:=by omega
 have d:a.z*a.z=0:=by omega
 apply V.ext'<;>simp only[zero]<;>(first|(rcases zBc.1 b with h|h<;>exact h)|(rcases zBc.1 c with h|h<;>exact h)|(rcases zBc.1 d with h|h<;>exact h))
def bz{a:V}(h:a≠zero):0<dot a a:=by
 have:=qR a;rcases znb this with h1|h1
 ·exact h1
 ·exact absurd (uM h1.symm) h
def T(n u v:V):Int:=dot n (cross u v)
def tV{a b:Int}(d:0<a)(h:0<a*b):0<b:=by
 rcases zJb b 0 with c|c|c
 ·have:=zOb d c;omega
 ·subst c;simp at h
 ·exact c
def wg{a b:Int}(d:0<a)(h:0<=a*b):0<=b:=by
 rcases zlc b 0 with c|c
 ·have:=zOb d c;omega
 ·exact c
def bu{a b:Int}(c:0<a)(h:a*b=0):b=0:=by
 rcases zBc.1 h with h|h
 ·omega
 ·exact h
section plane
variable{n:V}(hn:n≠zero)
include hn
def CN(f:V){u v w:V}(hu:dot n u=0)(a:dot n v=0)(hw:dot n w=0) :
  dot f u*T n v w+dot f v*T n w u+dot f w*T n u v=0:=by
 have h:dot n n*(dot f u*T n v w+dot f v*T n w u+dot f w*T n u v)=0:=by
  simp only[T,dot,cross] at *;grind
 exact bu (bz hn) h
def BK{f u v w:V}(hu:dot n u=0)(d:dot n v=0)(hw:dot n w=0)(a:0<dot f u)(fv:0<dot f v)(b:0<dot f w)
  (h1:0<=T n u v) (c:0<=T n v w):0<=T n u w/\(0<T n u v\/0<T n v w->0<T n u w):=by
 have p:=CN hn f hu d hw;have e:T n w u=- T n u w:=by simp only[T,dot,cross];grind
 rw[e] at p;have q:dot f v*T n u w=dot f u*T n v w+dot f w*T n u v:=by
  have:dot f v*-T n u w=-(dot f v*T n u w):=Int.mul_neg _ _;omega
 have g:=zSb (zMa a) c;have i:=zSb (zMa b) h1;refine⟨wg fv (by omega),λh=>tV fv ?_⟩
 rcases h with h|h
 ·have:=zub b h;omega
 ·have:=zub a h;omega
def dN{u v:V}(hu:dot n u=0)(d:dot n v=0)(h:T n u v=0):cross u v=zero:=by
 have hp:=bz hn;have a:dot n n*(cross u v).x=T n u v*n.x:=by simp only[T,dot,cross] at *;grind
 have b:dot n n*(cross u v).y=T n u v*n.y:=by simp only[T,dot,cross] at *;grind
 have c:dot n n*(cross u v).z=T n u v*n.z:=by simp only[T,dot,cross] at *;grind
 rw[h,z1c] at a b c;exact V.ext' (bu hp a) (bu hp b) (bu hp c)
end plane
def J1{u v:V}(h:cross u v=zero)(f:V):smul (dot f u) v=smul (dot f v) u:=by
 have h1:(cross u v).x=0:=by rw[h];rfl
 have a:(cross u v).y=0:=by rw[h];rfl
 have b:(cross u v).z=0:=by rw[h];rfl
 simp only[cross] at h1 a b;apply V.ext'<;>simp only[smul,dot]<;>grind
def GF{u v:V}(h:cross u v=zero)(hu:u≠zero)(a:dot v u=dot u u):v=u:=by
 have p:=J1 h u;have e:dot u v=dot v u:=by simp only[dot];grind
 have hp:=bz hu;rw[e,a] at p;have b:dot u u*(v.x-u.x)=0:=by have:=congrArg V.x p;simp only[smul] at this;grind
 have c:dot u u*(v.y-u.y)=0:=by have:=congrArg V.y p;simp only[smul] at this;grind
 have d:dot u u*(v.z-u.z)=0:=by have:=congrArg V.z p;simp only[smul] at this;grind
 have:=bu hp b;have:=bu hp c;have:=bu hp d;exact V.ext' (by omega) (by omega) (by omega)
theorem iN{α:Type}(φ:α->Int):∀ l:List α,∃ N:Int,0<N/\∀ x∈l,-N<φ x/\φ x<N
 | []=>⟨1,by decide,by simp⟩
 | a::l=>by
  obtain⟨N,h0,h⟩:=iN φ l;refine⟨N+(φ a).natAbs+1,by omega,λx hx=>?_⟩
  rcases zza.1 hx with rfl|hx
  ·omega
  ·have:=h x hx;omega
def wy(P:Nat->V)(a x:Nat):V:=sub (P x) (P a)
structure Side(n:V)(P:Nat->V)(on:List Nat)(a b:Nat):Prop where
 mem:b∈on
 ne:b≠a
 all:∀ x∈on,0<=T n (wy P a b) (wy P a x)/\(T n (wy P a b) (wy P a x)=0->0<=dot (wy P a x) (wy P a b)/\dot (wy P a x) (wy P a b)<=dot (wy P a b) (wy P a b))
def mu(P:Nat->V)(on:List Nat)(a:Nat):Prop:=∃ f:V,∀ x∈on,x≠a->0<dot f (wy P a x)
structure Flat(n:V)(P:Nat->V)(on:List Nat):Prop where
 nz:n≠zero
 pl:∀ x∈on,∀ y∈on,dot n (wy P x y)=0
 inj:∀ x∈on,∀ y∈on,P x=P y->x=y
section poly
variable{n:V}{P:Nat->V}{on:List Nat}
def rG(h:Flat n P on){a b:Nat}(i:a∈on)(j:b∈on)(c:b≠a):wy P a b≠zero:=λe=>by
 apply c;apply h.inj b j a i;have d:=congrArg V.x e;have f:=congrArg V.y e;have g:=congrArg V.z e;simp only[wy,sub,zero] at d f g;exact V.ext' (by omega) (by omega) (by omega)
def Hn{a b c:Nat}(h:wy P a b=wy P a c):P b=P c:=by
 have d:=congrArg V.x h;have e:=congrArg V.y h;have f:=congrArg V.z h;simp only[wy,sub] at d e f;exact V.ext' (by omega) (by omega) (by omega)
def Side.unique(h:Flat n P on){a b c:Nat}(f:a∈on)(d:Side n P on a b)(hc:Side n P on a c):b=c:=by
 have h1:=d.all c hc.mem;have j:=hc.all b d.mem;have e:T n (wy P a c) (wy P a b)=- T n (wy P a b) (wy P a c):=by simp only[T,dot,cross];grind
 rw[e] at j;have t0:T n (wy P a b) (wy P a c)=0:=by omega
 have k:=h1.2 t0;have l:=j.2 (by omega)
 have es:dot (wy P a b) (wy P a c)=dot (wy P a c) (wy P a b):=by simp only[dot];grind
 have hx:=dN h.nz (h.pl a f b d.mem) (h.pl a f c hc.mem) t0;have hq:dot (wy P a b) (wy P a b)*dot (wy P a c) (wy P a c)=dot (wy P a c) (wy P a b)*dot (wy P a c) (wy P a b):=by
  have p:=J1 hx (wy P a b);have o:=congrArg V.x p;have q:=congrArg V.y p;have r:=congrArg V.z p;simp only[smul] at o q r;simp only[dot] at *;grind
 have m:=bz (rG h f d.mem d.ne);have g:=bz (rG h f hc.mem hc.ne);have hle:dot (wy P a c) (wy P a b)=dot (wy P a b) (wy P a b):=by
  generalize dot (wy P a b) (wy P a b)=B at *;generalize dot (wy P a c) (wy P a c)=C at *;generalize dot (wy P a c) (wy P a b)=X at *;rw[es] at l;rcases znb k.2 with i|heq
  ·exfalso;have:X*X<B*C:=by
    have a1:X*X<=X*C:=zAb l.2 k.1;have a2:X*C<B*C:=Int.mul_lt_mul_of_pos_right i g;omega
   omega
  ·exact heq
 have:=GF hx (rG h f d.mem d.ne) hle;exact(h.inj c hc.mem b d.mem (Hn this)).symm
def Side.ext(h:Flat n P on){a b:Nat}(d:a∈on)(c:Side n P on a b):mu P on b:=by
 obtain⟨N,o,m⟩:=iN (λx=>dot (wy P b a) (wy P b x)) on;refine⟨add (smul N (cross n (wy P a b))) (wy P b a),λx hx g=>?_⟩;have e:dot (add (smul N (cross n (wy P a b))) (wy P b a)) (wy P b x)=N*T n (wy P a b) (wy P a x)+dot (wy P b a) (wy P b x):=by
  simp only[T,dot,cross,add,smul,wy,sub];grind
 rw[e];obtain⟨h1,k⟩:=c.all x hx;have q:=m x hx;rcases znb h1 with p|heq
 ·have:N*1<=N*T n (wy P a b) (wy P a x):=zAb (by omega) (by omega)
  omega
 ·rw[<-heq,zTc,zoc];have l:=k heq.symm;have j:dot (wy P b a) (wy P b x)=dot (wy P a b) (wy P a b)-dot (wy P a x) (wy P a b):=by simp only[dot,wy,sub];grind
  rw[j];rcases znb l.2 with i|i
  ·omega
  ·exfalso;have f:=dN h.nz (h.pl a d b c.mem) (h.pl a d x hx) heq.symm;exact g (h.inj x hx b c.mem (Hn (GF f (rG h d c.mem c.ne) i)))
def mu.ray(h:Flat n P on){a x y:Nat}(i:a∈on)(hx:x∈on)(r:y∈on)(E:mu P on a)(ex:mu P on x)(F:mu P on y)(d:x≠a)(e:y≠a)(I:T n (wy P a x) (wy P a y)=0):x=y:=by
 by_cases hxy:x=y
 ·exact hxy
 exfalso;obtain⟨f,C⟩:=E;obtain⟨g,D⟩:=ex;obtain⟨k,hk⟩:=F;have c:=dN h.nz (h.pl a i x hx) (h.pl a i y r) I;have p:=J1 c f;have G:=C x hx d;have w:=C y r e;have g1:=D a i (Ne.symm d);have g2:=D y r (Ne.symm hxy);have J:=hk a i (Ne.symm e);have K:=hk x hx hxy;have N:dot f (wy P a x)*dot g (wy P a y)=dot f (wy P a y)*dot g (wy P a x):=by
  have t:=congrArg V.x p;have u:=congrArg V.y p;have v:=congrArg V.z p;simp only[smul] at t u v;generalize dot f (wy P a x)=A at *;generalize dot f (wy P a y)=B at *;simp only[dot];grind
 have L:dot f (wy P a x)*dot k (wy P a y)=dot f (wy P a y)*dot k (wy P a x):=by
  have t:=congrArg V.x p;have u:=congrArg V.y p;have v:=congrArg V.z p;simp only[smul] at t u v;generalize dot f (wy P a x)=A at *;generalize dot f (wy P a y)=B at *;simp only[dot];grind
 have j:dot g (wy P x a)=- dot g (wy P a x):=by simp only[dot,wy,sub];grind
 have l:dot g (wy P x y)=dot g (wy P a y)-dot g (wy P a x):=by simp only[dot,wy,sub];grind
 have m:dot k (wy P y a)=- dot k (wy P a y):=by simp only[dot,wy,sub];grind
 have o:dot k (wy P y x)=dot k (wy P a x)-dot k (wy P a y):=by simp only[dot,wy,sub];grind
 rw[j] at g1;rw[l] at g2;rw[m] at J;rw[o] at K;generalize dot f (wy P a x)=A at *;generalize dot f (wy P a y)=B at *;generalize dot g (wy P a x)=gx at *;generalize dot g (wy P a y)=H at *;generalize dot k (wy P a x)=s at *;generalize dot k (wy P a y)=b at *;have r1:B<A:=by
  rcases zlc B A with q|q
  ·exact q
  ·exfalso;have s1:B*gx<=A*gx:=by
    have:=z2c q (show 0<=-gx by omega)
    simp only[Int.mul_neg] at this;omega
   have s2:A*gx<A*H:=zFc (by omega) G
   omega
 have O:A*b<B*b:=by
  have M:B*b<B*s:=zFc (by omega) w
  have Q:A*b=B*s:=L;have R:A*b<=B*b:=by
   have:=z2c (zMa r1) (show 0<=-b by omega)
   simp only[Int.mul_neg] at this;omega
  omega
 have M:B*b<B*s:=zFc (by omega) w
 omega
def OV(a x y:Nat):T n (wy P x y) (wy P x a)=T n (wy P a x) (wy P a y):=by
 simp only[T,dot,cross,wy,sub];grind
def Lh(u v:V):T n v u=- T n u v:=by simp only[T,dot,cross];grind
def Side.after(h:Flat n P on){a x y:Nat}(f:a∈on)(hx:x∈on)(g:mu P on a)(ex:mu P on x)(d:x≠a)(b:Side n P on x y)(e:y≠a):0<T n (wy P a x) (wy P a y):=by
 have h1:=(b.all a f).1;rw[OV] at h1;rcases znb h1 with c|c
 ·exact c
 ·exact absurd (mu.ray h f hx b.mem g ex (b.ext h hx) d e c.symm) b.ne.symm
def Je(h:Flat n P on){a x y z:Nat}(l:a∈on)(hx:x∈on)(b:z∈on)(d:Side n P on x y)(r:mu P on z)(h1:0<T n (wy P a x) (wy P a z))(k:0<T n (wy P a z) (wy P a y)):False:=by
 obtain⟨f,c⟩:=r;have g:a≠z:=λe=>by subst e;simp[T,dot,cross,wy,sub] at k
 have i:x≠z:=λe=>by
  subst e;have:T n (wy P a x) (wy P a x)=0:=by simp only[T,dot,cross];grind
  omega
 have j:y≠z:=λe=>by
  subst e;have:T n (wy P a y) (wy P a y)=0:=by simp only[T,dot,cross];grind
  omega
 have f1:=c a l g;have f2:=c x hx i;have f3:=c y d.mem j;have s:=(d.all z b).1;have e:dot n n*(T n (wy P x y) (wy P x z)*dot f (wy P z a)+T n (wy P a z) (wy P a y)*dot f (wy P z x)+T n (wy P a x) (wy P a z)*dot f (wy P z y))=0:=by
  have t:=h.pl z b a l;have u:=h.pl z b x hx;have v:=h.pl z b y d.mem;have o:T n (wy P x y) (wy P x z)=T n (wy P z x) (wy P z y):=OV z x y;have p:T n (wy P a z) (wy P a y)=T n (wy P z y) (wy P z a):=by simp only[T,dot,cross,wy,sub];grind
  have q:T n (wy P a x) (wy P a z)=T n (wy P z a) (wy P z x):=by simp only[T,dot,cross,wy,sub];grind
  rw[o,p,q];have m:=CN h.nz f t u v;rw[zpc (dot f (wy P z a)),zpc (dot f (wy P z x)),zpc (dot f (wy P z y))] at m;rw[show T n (wy P z x) (wy P z y)*dot f (wy P z a)+T n (wy P z y) (wy P z a)*dot f (wy P z x)+T n (wy P z a) (wy P z x)*dot f (wy P z y)=0 from m,zTc]
 have w:=bu (bz h.nz) e;have m1:=zSb s (zMa f1);have m2:=zub k f2;have m3:=zub h1 f3;omega
theorem vk{α:Type}{p q:α->Bool}:∀ {l:List α},(∀ x∈l,p x=true->q x=true)->(∃ y∈l,q y=true/\p y=false)->l.countP p<l.countP q
 | [],_,h=>by obtain⟨y,b,_⟩:=h;cases b
 | a::l,h,b=>by
  have hl:l.countP p<=l.countP q:=by
   have c:∀ x∈l,p x=true->q x=true:=λx hx=>h x (zia _ hx);exact List.countP_mono_left c
  have d:=h a zra;rw[List.countP_cons,List.countP_cons];obtain⟨y,hm,hq,hp⟩:=b;rcases zza.1 hm with rfl|hm
  ·simp[hq,hp];omega
  ·have:=vk (l:=l) (λx hx=>h x (zia _ hx)) ⟨y,hm,hq,hp⟩;cases hpa:p a
   ·simp;omega
   ·simp[d hpa];omega
inductive Chain(S:Nat->Nat->Prop)(a₀:Nat):Nat->List Nat->Prop
 | done {c:Nat}:S c a₀->Chain S a₀ c [c]
 | step {c y:Nat} {l:List Nat}:S c y->y≠a₀->Chain S a₀ y l->Chain S a₀ c (c::l)
def walk(h:Flat n P on){a:Nat}(s:a∈on)(G:mu P on a)(o:∀ c∈on,mu P on c->∃ b,Side n P on c b){c:Nat}(hc:c∈on)(u:mu P on c)(k:c≠a) :
  ∃ l,Chain (Side n P on) a c l/\(∀ z∈l,z∈on/\mu P on z/\z≠a/\(z=c\/0<T n (wy P a c) (wy P a z)))/\(∀ z∈on,mu P on z->z≠a->0<T n (wy P a c) (wy P a z)->z∈l) ∧
   l.Pairwise (λx y=>0<T n (wy P a x) (wy P a y)):=by
 generalize hm:on.countP (λz=>decide (0<T n (wy P a c) (wy P a z)))=m
 induction m using Nat.strongRecOn generalizing c with
 | _ m ih=>
  obtain⟨y,i⟩:=o c hc u;obtain⟨f,t⟩:=G;by_cases hya:y=a
  ·subst hya;refine⟨[c],.done i,λz d=>?_,λz d v j p=>?_,by simp⟩
   ·rw[zJa] at d;subst d;exact⟨hc,u,k,.inl rfl⟩
   ·have h1:=(i.all z d).1;have e:T n (wy P c y) (wy P c z)=- T n (wy P y c) (wy P y z):=by simp only[T,dot,cross,wy,sub];grind
    omega
  ·have g:=Side.after h s hc ⟨f,t⟩ u k i hya;have B:=i.ext h hc;have tr:∀ z∈on,0<T n (wy P a y) (wy P a z)->0<T n (wy P a c) (wy P a z):=λz d p=>by
    have j:z≠a:=λe=>by
     subst e;have:T n (wy P z y) (wy P z z)=0:=by simp[T,dot,cross,wy,sub]
     omega
    exact(BK h.nz (h.pl a s c hc) (h.pl a s y i.mem) (h.pl a s z d) (t c hc k) (t y i.mem hya) (t z d j) (zMa g) (zMa p)).2 (.inl g)
   have r:T n (wy P a y) (wy P a y)=0:=by simp only[T,dot,cross];grind
   obtain⟨l,C,D,I,J⟩:=ih _ (by
    rw[<-hm];refine vk (λz d p=>by simp only[decide_eq_true_eq] at p ⊢;exact tr z d p) ⟨y,i.mem,by simpa using g,by simp[r]⟩) i.mem B hya rfl
   refine⟨c::l,.step i hya C,λz d=>?_,λz d v j p=>?_,zFa.2 ⟨λz d=>?_,J⟩⟩
   ·rcases zza.1 d with rfl|d
    ·exact⟨hc,u,k,.inl rfl⟩
    ·obtain⟨w,E,F,q⟩:=D z d;refine⟨w,E,F,.inr ?_⟩;rcases q with rfl|q
     ·exact g
     ·exact tr z w q
   ·rcases zJb (T n (wy P a y) (wy P a z)) 0 with H|heq|A
    ·have e:=Lh (n:=n) (wy P a y) (wy P a z);exact(Je h s hc d i v p (by omega)).elim
    ·have:=mu.ray h s i.mem d ⟨f,t⟩ B v hya j heq;subst this;have:y∈l:=by cases C<;>exact zra
     exact zia _ this
    ·exact zia _ (I z d v j A)
   ·obtain⟨w,E,F,q⟩:=D z d;rcases q with rfl|q
    ·exact g
    ·exact tr z w q
def pJ(n:V)(P:Nat->V)(a b k:Nat):Bool:=
 decide (T n (wy P a b) (wy P a k)<0)||(decide (T n (wy P a b) (wy P a k)=0)&&decide (dot (wy P a b) (wy P a b)<dot (wy P a k) (wy P a k)))
def cT(n:V)(P:Nat->V)(a:Nat)(best:Option Nat)(k:Nat):Option Nat:=
 if k=a then best else match best with
  | none=>some k
  | some b=>if pJ n P a b k then some k else some b
theorem rm(h:Flat n P on){a:Nat}(j:a∈on)(u:mu P on a):∀ (l pre:List Nat) (best:Option Nat),(∀ x∈pre,x∈on)->(∀ x∈l,x∈on) ->
  (match best with
   | none=>∀ x∈pre,x=a
   | some b=>b∈pre/\b≠a/\∀ x∈pre,x≠a->0<T n (wy P a b) (wy P a x)\/(T n (wy P a b) (wy P a x)=0/\dot (wy P a x) (wy P a x)<=dot (wy P a b) (wy P a b))) ->
  match l.foldl (cT n P a) best with
   | none=>∀ x∈pre++l,x=a
   | some b=>b∈pre++l/\b≠a/\∀ x∈pre++l,x≠a->0<T n (wy P a b) (wy P a x)\/(T n (wy P a b) (wy P a x)=0/\dot (wy P a x) (wy P a x)<=dot (wy P a b) (wy P a b))
 | [],pre,best,_,_,e=>by simpa using e
 | k::l,pre,best,h1,v,e=>by
  rw[zhc];have hk:k∈on:=v k zra;rw[show pre++k::l=(pre++[k])++l by simp]
  refine rm h j u l (pre++[k]) _ (λx hx=>?_) (λx hx=>v x (zia _ hx)) ?_
  ·rcases zxa.1 hx with hx|hx
   ·exact h1 x hx
   ·rw[zJa] at hx;exact hx ▸ hk
  unfold cT;by_cases hka:k=a
  ·rw[if_pos hka];subst hka;cases best with
   | none=>
    simp only at e ⊢;intro x hx;rcases zxa.1 hx with hx|hx
    ·exact e x hx
    ·exact zJa.1 hx
   | some b=>
    simp only at e ⊢;refine⟨List.mem_append_left _ e.1,e.2.1,λx hx d=>?_⟩;rcases zxa.1 hx with hx|hx
    ·exact e.2.2 x hx d
    ·exact absurd (zJa.1 hx) d
  ·rw[if_neg hka];cases best with
   | none=>
    simp only at e ⊢;refine⟨zTa _ (zJa.2 rfl),hka,λx hx d=>?_⟩;rcases zxa.1 hx with hx|hx
    ·exact absurd (e x hx) d
    ·rw[zJa.1 hx];right;exact⟨by simp only[T,dot,cross];grind,zmd _⟩
   | some b=>
    simp only at e ⊢;obtain⟨r,s,t⟩:=e;have g:=h1 b r;obtain⟨f,m⟩:=u;by_cases hbt:pJ n P a b k=true
    ·rw[if_pos hbt];simp only;refine⟨zTa _ (zJa.2 rfl),hka,λx hx d=>?_⟩;have y:=Lh (n:=n) (wy P a b) (wy P a k);simp only[pJ,zBb,zaa,decide_eq_true_eq] at hbt;rcases zxa.1 hx with hx|hx
     ·have i:=h1 x hx;have c:=t x hx d;have p:0<=T n (wy P a k) (wy P a b):=by omega
      have q:0<=T n (wy P a b) (wy P a x):=by omega
      obtain⟨t1,t2⟩:=BK h.nz (h.pl a j k hk) (h.pl a j b g) (h.pl a j x i) (m k hk hka) (m b g s) (m x i d) p q;rcases znb t1 with o|heq
      ·exact .inl o
      ·right;refine⟨heq.symm,?_⟩;have:¬ (0<T n (wy P a k) (wy P a b)\/0<T n (wy P a b) (wy P a x)):=λw=>by have:=t2 w;omega
       omega
     ·rw[zJa.1 hx];right;exact⟨by simp only[T,dot,cross];grind,zmd _⟩
    ·rw[if_neg hbt];simp only;refine⟨List.mem_append_left _ r,s,λx hx d=>?_⟩;rcases zxa.1 hx with hx|hx
     ·exact t x hx d
     ·rw[zJa.1 hx];simp only[pJ,zBb,zaa,decide_eq_true_eq] at hbt;omega
def we(h:Flat n P on){a:Nat}(l:a∈on)(t:mu P on a)(C:∃ x∈on,x≠a):∃ b,on.foldl (cT n P a) none=some b/\Side n P on a b:=by
 have key:=rm h l t on [] none (by simp) (λx hx=>hx) (by simp)
 cases hr:on.foldl (cT n P a) none with
 | none=>
  rw[hr] at key;obtain⟨x,hx,d⟩:=C;exact absurd (key x (by simpa using hx)) d
 | some b=>
  rw[hr] at key;simp only[z3b] at key;obtain⟨m,o,E⟩:=key;refine⟨b,rfl,m,o,λx hx=>?_⟩;by_cases d:x=a
  ·subst d;have e:wy P x x=zero:=by simp[wy,sub,zero]
   have:T n (wy P x b) (wy P x x)=0:=by rw[e];simp[T,dot,cross,zero]
   have hp:=qR (wy P x b);have v:dot (wy P x x) (wy P x b)=0:=by rw[e];simp[dot,zero]
   rw[this,v];exact⟨zmd _,λ_=>⟨zmd _,hp⟩⟩
  ·have c:=E x hx d;refine⟨by omega,λt0=>?_⟩
   have c2:dot (wy P a x) (wy P a x)<=dot (wy P a b) (wy P a b):=by omega
   obtain⟨f,u⟩:=t;have k:=dN h.nz (h.pl a l b m) (h.pl a l x hx) t0;have p:=J1 k f;have fb:=u b m o;have w:=u x hx d;have i:=bz (rG h l m o);have F:dot f (wy P a b)*dot (wy P a x) (wy P a b)=dot f (wy P a x)*dot (wy P a b) (wy P a b):=by
    have q:=congrArg V.x p;have r:=congrArg V.y p;have s:=congrArg V.z p;simp only[smul] at q r s;generalize dot f (wy P a b)=A at *;generalize dot f (wy P a x)=B at *;simp only[dot];grind
   have g:0<dot (wy P a x) (wy P a b):=tV fb (by rw[F];exact zub w i)
   refine⟨zMa g,?_⟩;have G:dot (wy P a b) (wy P a b)*dot (wy P a x) (wy P a x)=dot (wy P a x) (wy P a b)*dot (wy P a x) (wy P a b):=by
    have p:=J1 k (wy P a b);have q:=congrArg V.x p;have r:=congrArg V.y p;have s:=congrArg V.z p;simp only[smul] at q r s;simp only[dot] at *;grind
   generalize dot (wy P a b) (wy P a b)=B at *;generalize dot (wy P a x) (wy P a x)=X at *;generalize dot (wy P a x) (wy P a b)=D at *;rcases zlc B D with j|hle
   ·exfalso;have a1:B*X<=B*B:=zAb c2 (zMa i);have a2:B*B<B*D:=zFc j i;have a3:B*D<D*D:=Int.mul_lt_mul_of_pos_right j g;omega
   ·exact hle
end poly
open V
def aG(a b:V):Prop:=a.x<b.x\/a.x=b.x/\(a.y<b.y\/a.y=b.y/\a.z<b.z)
def Dy{P:Nat->V}{on:List Nat}{a:Nat}(h:∀ x∈on,x≠a->aG (P a) (P x)):mu P on a:=by
 obtain⟨N1,p,j⟩:=iN (λx=>(wy P a x).y) on;obtain⟨N2,q,k⟩:=iN (λx=>(wy P a x).z) on;refine⟨⟨(N1+N2)*(N1+N2)+(N1+N2),N1+N2,1⟩,λx hx i=>?_⟩;have c1:=j x hx;have c2:=k x hx;have hl:=h x hx i;simp only[wy,sub,aG,dot] at *;generalize hX:(P x).x-(P a).x=X at *;generalize hY:(P x).y-(P a).y=Y at *;generalize hZ:(P x).z-(P a).z=Z at *;generalize hN:N1+N2=N;have b:0<N:=by omega
 have f:-N+1<=Y:=by omega
 have m:Y<=N-1:=by omega
 have n:-N+1<=Z:=by omega
 have m1:N*(-N+1)<=N*Y:=zAb f (zMa b);have m2:N*(-N+1)=-(N*N)+N:=by grind
 have l:0<N*N:=zub b b;rcases hl with hl|⟨h1,hl|⟨o,hl⟩⟩
 ·have d:1<=X:=by omega
  have m3:(N*N+N)*1<=(N*N+N)*X:=zAb d (by omega)
  omega
 ·have c:X=0:=by omega
  have g:1<=Y:=by omega
  have m3:N*1<=N*Y:=zAb g (by omega)
  subst c;simp only[zTc];omega
 ·have c:X=0:=by omega
  have e:Y=0:=by omega
  subst c;subst e;simp only[zTc];omega
section poly
variable{n:V}{P:Nat->V}{on:List Nat}
def Chain.head{S:Nat->Nat->Prop}{a c:Nat}{l:List Nat}(h:Chain S a c l):∃ l',l=c::l':=by
 cases h<;>exact⟨_,rfl⟩
theorem Chain.pairs{S:Nat->Nat->Prop}{a:Nat}:∀ {c:Nat} {l:List Nat},Chain S a c l->∀ i x,l[i]?=some x->∃ y,(l++[a])[i+1]?=some y/\S x y
 | c,_,.done h,i,x,hx=>by
  cases i with
  | zero=>simp at hx;subst hx;exact⟨a,by simp,h⟩
  | succ i=>simp at hx
 | c,_,.step (y:=y) (l:=l) h hne k,i,x,hx=>by
  cases i with
  | zero=>
   simp at hx;subst hx;obtain⟨l',rfl⟩:=k.head;exact⟨y,by simp,h⟩
  | succ i=>
   obtain⟨z,h1,b⟩:=Chain.pairs k i x (by simpa using hx)
   exact⟨z,by simpa using h1,b⟩
def Bf(h:Flat n P on){a:Nat}(i:a∈on)(j:mu P on a)(q:∀ c∈on,∃ x∈on,x≠c) :
  ∃ l,Chain (Side n P on) a a l/\l.Nodup/\(∀ z∈l,z∈on/\mu P on z)/\∀ z∈on,mu P on z->z∈l:=by
 have d:∀ c∈on,mu P on c->∃ b,Side n P on c b:=λc hc k=>by
  obtain⟨b,_,r⟩:=we h hc k (q c hc);exact⟨b,r⟩
 obtain⟨c,f⟩:=d a i j;have k:=f.ext h i;obtain⟨l,p,m,t,u⟩:=walk h i j d f.mem k f.ne;refine⟨a::l,.step f f.ne p,List.nodup_cons.2 ⟨λhm=>(m a hm).2.2.1 rfl,?_⟩,λz g=>?_,λz g o=>?_⟩
 ·refine List.Pairwise.imp (λ{x y} s e=>?_) u;subst e;have:T n (wy P a x) (wy P a x)=0:=by simp only[T,dot,cross];grind
  omega
 ·rcases zza.1 g with rfl|g
  ·exact⟨i,j⟩
  ·exact⟨(m z g).1,(m z g).2.1⟩
 ·by_cases hza:z=a
  ·subst hza;exact zra
  ·refine zia _ ?_;have h0:=(f.all z g).1;rcases znb h0 with hp|he
   ·exact t z g o hza hp
   ·have:=mu.ray h i f.mem g j k o f.ne hza he.symm;subst this;obtain⟨l',rfl⟩:=p.head;exact zra
end poly
def sg(x:Int):Int:=if x<0 then -1 else if 0<x then 1 else 0
def ul(a b:Int):sg a*sg b=sg (a*b):=by
 rcases zJb a 0 with h|h|h<;>rcases zJb b 0 with k|k|k
 ·have:=zZb h k;simp[sg,h,k,this,z6b.2 (zMa this)]
 ·subst k;simp[sg]
 ·have:=Int.mul_neg_of_neg_of_pos h k;simp[sg,h,k,this,z6b.2 (zMa k)]
 ·subst h;simp[sg]
 ·subst h;simp[sg]
 ·subst h;simp[sg]
 ·have:=zOb h k;simp[sg,h,k,this,z6b.2 (zMa h)]
 ·subst k;simp[sg]
 ·have:=zub h k;simp[sg,h,k,this,z6b.2 (zMa h),z6b.2 (zMa k),z6b.2 (zMa this)]
def gg{x:Int}(h:0<x):sg x=1:=by simp[sg,h,z6b.2 (zMa h)]
def xU{x:Int}(h:x<0):sg x=-1:=by simp[sg,h]
def vM(n c:V):Int:=if n.x≠0 then sg n.x*sg c.x else if n.y≠0 then sg n.y*sg c.y else if n.z≠0 then sg n.z*sg c.z else 0
def um{a b p:Int}(hp:0<p){q:Int}(hq:0<q)(h:a*p=q*b):sg a=sg b:=by
 have h1:sg (a*p)=sg a:=by rw[<-ul,gg hp];simp
 have c:sg (q*b)=sg b:=by rw[<-ul,gg hq];simp
 rw[<-h1,<-c,h]
def Ct{n c:V}(hn:n≠zero)(h:cross n c=zero):vM n c=sg (dot n c):=by
 have h1:=congrArg V.x h;have e:=congrArg V.y h;have f:=congrArg V.z h;simp only[cross,zero] at h1 e f;have hp:=bz hn;have a:n.x*c.x*dot n n=n.x*n.x*dot n c:=by simp only[dot];grind
 have b:n.y*c.y*dot n n=n.y*n.y*dot n c:=by simp only[dot];grind
 have d:n.z*c.z*dot n n=n.z*n.z*dot n c:=by simp only[dot];grind
 unfold vM;split
 ·rename_i k;rw[ul];exact um hp (Bv k) a
 ·split
  ·rename_i k;rw[ul];exact um hp (Bv k) b
  ·split
   ·rename_i k;rw[ul];exact um hp (Bv k) d
   ·rename_i g i j;exact absurd (V.ext' (by simpa [zero] using g) (by simpa [zero] using i) (by simpa [zero] using j)) hn
def jM{n u v:V}(hu:dot n u=0)(a:dot n v=0):cross n (cross u v)=zero:=by
 simp only[dot] at hu a;apply V.ext'<;>simp only[cross,zero]<;>grind
open V
def bw(P:Nat->V)(N:Nat)(n:V)(d:Int):List Nat:=(List.range N).filter λk=>decide (dot n (P k)=d)
def Ax(P:Nat->V)(N:Nat)(n:V)(d:Int):Prop:=(∀ k,k<N->dot n (P k)<=d)/\∃ k,k<N/\dot n (P k)<d
def eN(P:Nat->V)(i j k:Nat):V:=cross (wy P i j) (wy P i k)
def bf(v:V):Nat:=Nat.gcd (Nat.gcd v.x.natAbs v.y.natAbs) v.z.natAbs
def az(v:V):V:=⟨v.x/bf v,v.y/bf v,v.z/bf v⟩
structure IsF(P:Nat->V)(N:Nat)(n:V)(d:Int):Prop where
 ex:∃ i j k,i<j/\j<k/\k<N/\eN P i j k≠zero/\(n=az (eN P i j k)\/n=neg (az (eN P i j k)))/\d=dot n (P i)
 supp:Ax P N n d
def iG{v:V}(h:v≠zero):0<bf v:=by
 rcases zwb (bf v) with e|p
 ·exfalso;unfold bf at e;rw[Nat.gcd_eq_zero_iff,Nat.gcd_eq_zero_iff] at e;exact h (V.ext' (by simp[zero];omega) (by simp[zero];omega) (by simp[zero];omega))
 ·exact p
def iQ(v:V):v=smul (bf v) (az v):=by
 have d1:(bf v:Int) ∣ v.x:=z0a.2 (z6c (zcb _ _) (zcb _ _));have d2:(bf v:Int) ∣ v.y:=z0a.2 (z6c (zcb _ _) (zCb _ _));have d3:(bf v:Int) ∣ v.z:=z0a.2 (zCb _ _);apply V.ext'
 ·exact(zud d1).symm
 ·exact(zud d2).symm
 ·exact(zud d3).symm
def pZ(k:Nat)(v:V):bf (smul k v)=k*bf v:=by
 simp only[bf,smul,zKa,zoa];rw[Nat.gcd_mul_left,Nat.gcd_mul_left]
def vD{v:V}(h:v≠zero):bf (az v)=1:=by
 have p:=iG h;have e:=pZ (bf v) (az v);rw[<-iQ v] at e;exact(Nat.eq_of_mul_eq_mul_left p (by omega)).symm
def yX(v:V):bf (neg v)=bf v:=by simp[bf,neg]
def zN(v:V):az (neg v)=neg (az v):=by
 have e:=iQ v;unfold az;rw[yX];have d1:(bf v:Int) ∣ v.x:=z0a.2 (z6c (zcb _ _) (zcb _ _));have d2:(bf v:Int) ∣ v.y:=z0a.2 (z6c (zcb _ _) (zCb _ _));have d3:(bf v:Int) ∣ v.z:=z0a.2 (zCb _ _);simp only[neg,zRc d1,zRc d2,zRc d3]
def si{v:V}(h:v≠zero):az v≠zero:=λe=>h (by rw[iQ v,e];apply V.ext'<;>simp[smul,zero])
def GH{u v:V}(hu:bf u=1)(k:bf v=1){a b:Int}(i:0<a)(j:0<b)(h:smul a u=smul b v):u=v:=by
 obtain⟨a,rfl⟩:=zsc (zMa i);obtain⟨b,rfl⟩:=zsc (zMa j);have e:=pZ a u;have g:=pZ b v;rw[h,g,hu,k] at e;have:a=b:=by omega
 subst this;have h1:=congrArg V.x h;have d:=congrArg V.y h;have f:=congrArg V.z h;simp only[smul] at h1 d f;have c:(a:Int)≠0:=by omega
 exact V.ext' (Int.eq_of_mul_eq_mul_left c h1) (Int.eq_of_mul_eq_mul_left c d) (Int.eq_of_mul_eq_mul_left c f)
section
variable{P:Nat->V}{N:Nat}
def IsF.nz{n:V}{d:Int}(h:IsF P N n d):n≠zero/\bf n=1:=by
 obtain⟨i,j,k,_,_,_,h1,a|a,_⟩:=h.ex
 ·subst a;exact⟨si h1,vD h1⟩
 ·subst a;refine⟨λe=>si h1 ?_,by rw[yX];exact vD h1⟩
  have b:=congrArg V.x e;have c:=congrArg V.y e;have f:=congrArg V.z e;simp only[neg,zero] at b c f;exact V.ext' (by simp only[zero];omega) (by simp only[zero];omega) (by simp only[zero];omega)
def aW{n:V}{d:Int}{k:Nat}:k∈bw P N n d↔k<N/\dot n (P k)=d:=by simp[bw]
def dA(n:V)(i k:Nat):dot n (wy P i k)=dot n (P k)-dot n (P i):=by simp only[dot,wy,sub];grind
def IsF.three{n:V}{d:Int}(h:IsF P N n d):∃ i j k,i<j/\j<k/\k<N/\i∈bw P N n d/\j∈bw P N n d/\k∈bw P N n d/\eN P i j k≠zero:=by
 obtain⟨i,j,k,b,c,hk,h1,a,o⟩:=h.ex;have g:=iG h1;have e:=iQ (eN P i j k);have t1:dot (eN P i j k) (wy P i j)=0:=by simp only[eN,dot,cross];grind
 have t2:dot (eN P i j k) (wy P i k)=0:=by simp only[eN,dot,cross];grind
 have key:∀ v:V,dot (eN P i j k) v=0->dot n v=0:=λv f=>by
  rw[e] at f;have:(bf (eN P i j k):Int)*dot (az (eN P i j k)) v=0:=by rw[<-f];simp only[dot,smul];grind
  have h0:=bu (by omega) this
  rcases a with a|a
  ·rw[a];exact h0
  ·rw[a];have:dot (neg (az (eN P i j k))) v=- dot (az (eN P i j k)) v:=by simp only[dot,neg];grind
   omega
 have l:=key _ t1;have m:=key _ t2;rw[dA] at l m;exact⟨i,j,k,b,c,hk,aW.2 ⟨by omega,by omega⟩,aW.2 ⟨by omega,by omega⟩,aW.2 ⟨hk,by omega⟩,h1⟩
theorem IsF.flat(hl:∀ i j,i<j->j<N->aG (P i) (P j)){n:V}{d:Int}(h:IsF P N n d):Flat n P (bw P N n d):=by
 refine⟨h.nz.1,λx hx y f=>?_,λx hx y f e=>?_⟩
 ·have a:=(aW.1 hx).2;have b:=(aW.1 f).2;rw[dA];omega
 ·have a:=(aW.1 hx).1;have b:=(aW.1 f).1;rcases zgd x y with c|c|c
  ·have:=hl x y c b;rw[e] at this;simp only[aG] at this;omega
  ·exact c
  ·have:=hl y x c a;rw[e] at this;simp only[aG] at this;omega
def IsF.left(hl:∀ i j,i<j->j<N->aG (P i) (P j)){n:V}{d:Int}(h:IsF P N n d){a b:Nat}(m:a∈bw P N n d)(c:Side n P (bw P N n d) a b) :
  ∃ x∈bw P N n d,0<T n (wy P a b) (wy P a x):=by
 obtain⟨i,j,k,E,G,hk,s,t,mk,H⟩:=h.three;have F:=h.flat hl;have key:∀ x∈bw P N n d,0<T n (wy P a b) (wy P a x)\/cross (wy P a b) (wy P a x)=zero:=λx hx=>by
  rcases znb (c.all x hx).1 with h1|h1
  ·exact .inl h1
  ·exact .inr (dN F.nz (F.pl a m b c.mem) (F.pl a m x hx) h1.symm)
 rcases key i s with h1|h1
 ·exact⟨i,s,h1⟩
 rcases key j t with f|f
 ·exact⟨j,t,f⟩
 rcases key k mk with g|g
 ·exact⟨k,mk,g⟩
 exfalso;apply H;have r:=bz (rG F m c.mem c.ne);have o:=J1 h1 (wy P a b);have p:=J1 f (wy P a b);have q:=J1 g (wy P a b);have w1:wy P i j=sub (wy P a j) (wy P a i):=by apply V.ext'<;>simp only[wy,sub]<;>omega
 have Q:wy P i k=sub (wy P a k) (wy P a i):=by apply V.ext'<;>simp only[wy,sub]<;>omega
 unfold eN;rw[w1,Q];generalize wy P a b=e at *;generalize wy P a i=u at *;generalize wy P a j=v at *;generalize wy P a k=w at *;generalize dot e u=A at *;generalize dot e v=B at *;generalize dot e w=C at *;generalize dot e e=D at *;have I:=congrArg V.x o;have J:=congrArg V.y o;have K:=congrArg V.z o;have r1:=congrArg V.x p;have L:=congrArg V.y p;have M:=congrArg V.z p;have s1:=congrArg V.x q;have s2:=congrArg V.y q;have O:=congrArg V.z q;simp only[smul] at I J K r1 L M s1 s2 O;have l:0<D*D:=zub r r;apply V.ext'<;>simp only[cross,sub,zero]<;>refine bu l ?_<;>grind
theorem far{n e:V}(he:dot n e=0){w:Nat->V}:∀ l:List Nat,l≠[]->(∀ y∈l,dot n (w y)<0)->∃ y∈l,∀ x∈l,0<=dot e (cross (w y) (w x))
 | [],h,_=>absurd rfl h
 | [y],_,hn=>⟨y,zra,λx hx=>by
   rw[zJa.1 hx];have:dot e (cross (w y) (w y))=0:=by simp only[dot,cross];grind
   omega⟩
 | z::j::l,_,hn=>by
  obtain⟨y,b,a⟩:=far he (j::l) (by simp) (λy b=>hn y (zia _ b))
  have self:∀ v:V,dot e (cross v v)=0:=λv=>by simp only[dot,cross];grind
  have i:∀ u v:V,dot e (cross v u)=- dot e (cross u v):=λu v=>by simp only[dot,cross];grind
  have pl:∀ x y z:V,dot n x*dot e (cross y z)=dot n z*dot e (cross y x)+dot n y*dot e (cross x z):=λx y z=>by
   have:dot n x*dot e (cross y z)-(dot n z*dot e (cross y x)+dot n y*dot e (cross x z))=dot n e*dot x (cross y z):=by simp only[dot,cross];grind
   rw[he] at this;omega
  rcases zlc (dot e (cross (w y) (w z))) 0 with d|c
  ·refine⟨z,zra,λx hx=>?_⟩;rcases zza.1 hx with rfl|hx
   ·have:=self (w x);omega
   ·have h1:=a x hx;have k:=pl (w y) (w z) (w x);have o:=hn y (zia _ b);have f:=hn z zra;have g:=hn x (zia _ hx);have m:=i (w y) (w z);have a1:dot n (w x)*dot e (cross (w z) (w y))<=0:=Int.mul_nonpos_of_nonpos_of_nonneg (zMa g) (by omega)
    have a2:dot n (w z)*dot e (cross (w y) (w x))<=0:=Int.mul_nonpos_of_nonpos_of_nonneg (zMa f) h1;have a3:0<=(-(dot n (w y)))*dot e (cross (w z) (w x)):=by rw[Int.neg_mul];omega
    exact wg (by omega) a3
  ·refine⟨y,zia _ b,λx hx=>?_⟩;rcases zza.1 hx with rfl|hx
   ·exact c
   ·exact a x hx
def Mq{p q r:Nat}(hp:p<N)(hq:q<N)(u:r<N)(h1:p≠q)(y:p≠r)(z:q≠r){m:V}(hm:m=eN P p q r)(hle:∀ x,x<N->dot m (wy P p x)<=0)(d:∃ x,x<N/\dot m (wy P p x)<0) :
  ∃ s,∃ g:Int,0<g/\m=smul g s/\IsF P N s (dot s (P p)):=by
 have f:m≠zero:=λe=>by
  obtain⟨x,_,hx⟩:=d;rw[e] at hx;simp[dot,zero] at hx
 have C:=iG f;have e:=iQ m;refine⟨az m,bf m,by omega,e,?_,?_⟩
 ·have perm:∀ i j k,i<j->j<k->k<N->(m=eN P i j k\/m=neg (eN P i j k))->(dot (az m) (wy P i p)=0)->∃ i j k,i<j/\j<k/\k<N/\eN P i j k≠zero/\(az m=az (eN P i j k)\/az m=neg (az (eN P i j k)))/\dot (az m) (P p)=dot (az m) (P i):=by
   intro i j k n o hk c A;rw[dA] at A;refine⟨i,j,k,n,o,hk,λt=>f ?_,?_,by omega⟩
   ·rcases c with c|c
    ·rw[c,t]
    ·rw[c,t];rfl
   ·rcases c with c|c
    ·exact .inl (by rw[c])
    ·exact .inr (by rw[c,zN])
  have l:∀ v:V,dot m v=0->dot (az m) v=0:=λv B=>by
   have:(bf m:Int)*dot (az m) v=0:=by
    rw[<-B]
    conv=>rhs;rw[e]
    simp only[dot,smul];grind
   exact bu (by omega) this
  have w:dot (az m) (wy P p p)=0:=l _ (by simp only[dot,wy,sub];grind)
  have z2:dot (az m) (wy P q p)=0:=l _ (by rw[hm];simp only[dot,eN,cross,wy,sub];grind)
  have z3:dot (az m) (wy P r p)=0:=l _ (by rw[hm];simp only[dot,eN,cross,wy,sub];grind)
  rcases Nat.lt_or_gt_of_ne h1 with a1|a1<;>rcases Nat.lt_or_gt_of_ne y with a2|a2<;>rcases Nat.lt_or_gt_of_ne z with a3|a3
  ·exact perm p q r a1 a3 u (.inl hm) w
  ·exact perm p r q a2 a3 hq (.inr (by rw[hm];apply V.ext'<;>simp only[eN,neg,cross,wy,sub]<;>grind)) w
  ·omega
  ·exact perm r p q a2 a1 hq (.inl (by rw[hm];apply V.ext'<;>simp only[eN,neg,cross,wy,sub]<;>grind)) z3
  ·exact perm q p r a1 a2 u (.inr (by rw[hm];apply V.ext'<;>simp only[eN,neg,cross,wy,sub]<;>grind)) z2
  ·omega
  ·exact perm q r p a3 a2 hp (.inl (by rw[hm];apply V.ext'<;>simp only[eN,neg,cross,wy,sub]<;>grind)) z2
  ·exact perm r q p a3 a1 hp (.inr (by rw[hm];apply V.ext'<;>simp only[eN,neg,cross,wy,sub]<;>grind)) z3
 ·have sc:∀ v:V,dot m v=(bf m:Int)*dot (az m) v:=λv=>by
   conv=>lhs;rw[e]
   simp only[dot,smul];grind
  refine⟨λx hx=>?_,?_⟩
  ·have h:=hle x hx;rw[sc,dA] at h;rcases zlc (dot (az m) (P p)) (dot (az m) (P x)) with k|k
   ·have:=zub (a:=(bf m:Int)) (b:=dot (az m) (P x)-dot (az m) (P p)) (by omega) (by omega)
    omega
   ·exact k
  ·obtain⟨x,hx,h⟩:=d;rw[sc,dA] at h;refine⟨x,hx,?_⟩;rcases zlc (dot (az m) (P x)) (dot (az m) (P p)) with k|k
   ·exact k
   ·have:=zSb (a:=(bf m:Int)) (b:=dot (az m) (P x)-dot (az m) (P p)) (by omega) (by omega)
    omega
end
open V
section
variable{P:Nat->V}{N:Nat}
def AK(hl:∀ i j,i<j->j<N->aG (P i) (P j)){n:V}{d:Int}(h:IsF P N n d){a b:Nat}(H:a∈bw P N n d)(B:Side n P (bw P N n d) a b) :
  ∃ f d',IsF P N f d'/\a∈bw P N f d'/\b∈bw P N f d'/\Side f P (bw P N f d') b a:=by
 have F:=h.flat hl;have J:=(aW.1 H).1;have a4:=(aW.1 H).2;have L:=(aW.1 B.mem).1;have he:dot n (wy P a b)=0:=F.pl a H b B.mem;obtain⟨l,C,I⟩:=h.left hl H B;have R:dot n (wy P a l)=0:=F.pl a H l C;have hle:∀ x,x<N->dot n (wy P a x)<=0:=λx hx=>by rw[dA];have:=h.supp.1 x hx;omega
 have A:=bz F.nz;obtain⟨z,a0,hz⟩:=h.supp.2;obtain⟨y,Y,O⟩:=far (w:=wy P a) he ((List.range N).filter λk=>decide (dot n (wy P a k)<0)) (List.ne_nil_of_mem (a:=z) (by simp[a0,dA];omega)) (λy Y=>by simpa using(zxc.1 Y).2)
 have an:y<N:=by simpa using(zxc.1 Y).1
 have D:dot n (wy P a y)<0:=by simpa using(zxc.1 Y).2
 have s:∀ x,x<N->dot n (wy P a x)<0->0<=dot (wy P a b) (cross (wy P a y) (wy P a x)):=λx hx hn=>O x (by simp[hx,hn])
 have o:∀ u v:V,dot n u=0->dot n v=0->∀ y:V,dot n n*dot (cross u v) y=dot n (cross u v)*dot n y:=λu v hu hv y=>by
  have c:=jM hu hv;have c1:=congrArg V.x c;have c2:=congrArg V.y c;have Z:=congrArg V.z c;generalize cross u v=k at *;simp only[cross,zero] at c1 c2 Z;simp only[dot];grind
 have U:∀ v:V,dot (cross (wy P a y) (wy P a b)) v=- dot (wy P a b) (cross (wy P a y) v):=λv=>by simp only[dot,cross];grind
 have E:∀ v:V,dot (cross (wy P a y) (wy P a b)) v=dot (cross (wy P a b) v) (wy P a y):=λv=>by simp only[dot,cross];grind
 have G:∀ x∈bw P N n d,dot n n*dot (cross (wy P a y) (wy P a b)) (wy P a x)=T n (wy P a b) (wy P a x)*dot n (wy P a y):=λx hx=>by
  rw[E];exact o _ _ he (F.pl a H x hx) _
 have a1:∀ x,x<N->dot (cross (wy P a y) (wy P a b)) (wy P a x)<=0:=λx hx=>by
  rcases znb (hle x hx) with k|k
  ·rw[U];have:=s x hx k;omega
  ·have m:x∈bw P N n d:=aW.2 ⟨hx,by rw[dA] at k;omega⟩
   have e:=G x m;have t:=(B.all x m).1;have:T n (wy P a b) (wy P a x)*dot n (wy P a y)<=0:=Int.mul_nonpos_of_nonneg_of_nonpos t (zMa D);rcases zlc 0 (dot (cross (wy P a y) (wy P a b)) (wy P a x)) with q|q
   ·have:=zub A q;omega
   ·exact q
 have W:dot (cross (wy P a y) (wy P a b)) (wy P a l)<0:=by
  have e:=G l C;have:T n (wy P a b) (wy P a l)*dot n (wy P a y)<0:=zOb I D;rcases zlc (dot (cross (wy P a y) (wy P a b)) (wy P a l)) 0 with q|q
  ·exact q
  ·have:=zSb (zMa A) q;omega
 have ax:a≠y:=λe=>by subst e;rw[show dot n (wy P a a)=0 by simp only[dot,wy,sub];grind] at D;omega
 have aI:y≠b:=λe=>by subst e;omega
 obtain⟨f,g,hg,hm,hF⟩:=Mq (p:=a) (q:=y) (r:=b) J an L ax (Ne.symm B.ne) aI rfl a1 ⟨l,(aW.1 C).1,W⟩;have sc:∀ v:V,dot (cross (wy P a y) (wy P a b)) v=g*dot f v:=λv=>by
  have:eN P a y b=cross (wy P a y) (wy P a b):=rfl;rw[<-this,hm];simp only[dot,smul];grind
 have M:dot f (wy P a b)=0:=bu hg (by rw[<-sc];simp only[dot,cross];grind)
 have K:a∈bw P N f (dot f (P a)):=aW.2 ⟨J,rfl⟩;have al:b∈bw P N f (dot f (P a)):=aW.2 ⟨L,by rw[dA] at M;omega⟩
 refine⟨f,_,hF,K,al,K,Ne.symm B.ne,λx hx=>?_⟩;have S:=(aW.1 hx).1;have Q:dot f (wy P a x)=0:=by rw[dA];have:=(aW.1 hx).2;omega
 have a2:dot (cross (wy P a y) (wy P a b)) (wy P a x)=0:=by rw[sc,Q,zTc]
 have tE:T f (wy P b a) (wy P b x)=dot f (cross (wy P a x) (wy P a b)):=by simp only[T,dot,cross,wy,sub];grind
 have dE:dot (wy P b x) (wy P b a)=dot (wy P a b) (wy P a b)-dot (wy P a x) (wy P a b):=by simp only[dot,wy,sub];grind
 have ad:dot (wy P b a) (wy P b a)=dot (wy P a b) (wy P a b):=by simp only[dot,wy,sub];grind
 rw[tE,dE,ad];rcases znb (hle x S) with k|k
 ·
  have c1:dot (cross (wy P a x) (wy P a b)) (wy P a l)<0:=by
   have e:=o (wy P a b) (wy P a l) he R (wy P a x);have e2:dot (cross (wy P a x) (wy P a b)) (wy P a l)=dot (cross (wy P a b) (wy P a l)) (wy P a x):=by simp only[dot,cross];grind
   have:T n (wy P a b) (wy P a l)*dot n (wy P a x)<0:=zOb I k;rw[e2];simp only[T] at this;rcases zlc (dot (cross (wy P a b) (wy P a l)) (wy P a x)) 0 with q|q
   ·exact q
   ·have:=zSb (zMa A) q;omega
  have a3:dot f f*dot (cross (wy P a x) (wy P a b)) (wy P a l)=dot f (cross (wy P a x) (wy P a b))*dot f (wy P a l):=by
   have c:=jM Q M;have c1:=congrArg V.x c;have c2:=congrArg V.y c;have Z:=congrArg V.z c;generalize cross (wy P a x) (wy P a b)=k at *;simp only[cross,zero] at c1 c2 Z;simp only[dot];grind
  have X:=bz hF.nz.1;have n1:dot f (wy P a l)<0:=by
   rw[sc] at W;rcases zlc (dot f (wy P a l)) 0 with q|q
   ·exact q
   ·have:=zSb (zMa hg) q;omega
  have l1:dot f f*dot (cross (wy P a x) (wy P a b)) (wy P a l)<0:=zOb X c1;have pos:0<dot f (cross (wy P a x) (wy P a b)):=by
   rcases zlc 0 (dot f (cross (wy P a x) (wy P a b))) with q|q
   ·exact q
   ·have:=Int.mul_nonneg_of_nonpos_of_nonpos q (zMa n1);omega
  exact⟨zMa pos,λh0=>by omega⟩
 ·have m:x∈bw P N n d:=aW.2 ⟨S,by rw[dA] at k;omega⟩
  have e:=G x m;rw[a2,zTc] at e;have t0:T n (wy P a b) (wy P a x)=0:=by
   rcases zBc.1 e.symm with q|q
   ·exact q
   ·omega
  have s2:=(B.all x m).2 t0;have c0:=dN F.nz he k t0;have:dot f (cross (wy P a x) (wy P a b))=0:=by
   have e2:dot f (cross (wy P a x) (wy P a b))=- dot f (cross (wy P a b) (wy P a x)):=by simp only[dot,cross];grind
   rw[e2,c0];simp[dot,zero]
  rw[this];exact⟨zmd _,λ_=>⟨by omega,by omega⟩⟩
def FK(hl:∀ i j,i<j->j<N->aG (P i) (P j)){d f:V}{d1 d2:Int}(h1:IsF P N d d1)(H:IsF P N f d2){a b:Nat}(m:a∈bw P N d d1)(o:a∈bw P N f d2)
  (p:Side d P (bw P N d d1) a b) (C:Side f P (bw P N f d2) a b):d=f:=by
 have F1:=h1.flat hl;have F2:=H.flat hl;obtain⟨h,F,J⟩:=h1.left hl m p;obtain⟨g,r,E⟩:=H.left hl o C;have I:dot d (wy P a b)=0:=F1.pl a m b p.mem;have O:dot f (wy P a b)=0:=F2.pl a o b C.mem;have z1:dot d (wy P a h)=0:=F1.pl a m h F;have z2:dot f (wy P a g)=0:=F2.pl a o g r;have L:dot d (wy P a g)<=0:=by rw[dA];have:=h1.supp.1 g (aW.1 r).1;have:=(aW.1 m).2;omega
 have M:dot f (wy P a h)<=0:=by rw[dA];have:=H.supp.1 h (aW.1 F).1;have:=(aW.1 o).2;omega
 have t:=bz F1.nz;have w:=bz F2.nz;have l:∀ (n u v:V),dot n u=0->dot n v=0->smul (dot n n) (cross u v)=smul (dot n (cross u v)) n:=λn u v hu U=>by
  have c:=jM hu U;have c1:=congrArg V.x c;have c2:=congrArg V.y c;have S:=congrArg V.z c;generalize cross u v=k at *;simp only[cross,zero] at c1 c2 S;apply V.ext'<;>simp only[smul,dot]<;>grind
 have s:∀ (k:Int) (u v:V),dot (smul k u) v=k*dot u v:=λk u v=>by simp only[dot,smul];grind
 have Q:dot d d*dot (cross (wy P a b) (wy P a h)) (wy P a g)=T d (wy P a b) (wy P a h)*dot d (wy P a g):=by
  have:=congrArg (λv=>dot v (wy P a g)) (l d _ _ I z1);simp only[s] at this;exact this
 have W:dot f f*dot (cross (wy P a b) (wy P a g)) (wy P a h)=T f (wy P a b) (wy P a g)*dot f (wy P a h):=by
  have:=congrArg (λv=>dot v (wy P a h)) (l f _ _ O z2);simp only[s] at this;exact this
 have sw:dot (cross (wy P a b) (wy P a g)) (wy P a h)=- dot (cross (wy P a b) (wy P a h)) (wy P a g):=by simp only[dot,cross];grind
 have m1:T d (wy P a b) (wy P a h)*dot d (wy P a g)<=0:=Int.mul_nonpos_of_nonneg_of_nonpos (zMa J) L;have m2:T f (wy P a b) (wy P a g)*dot f (wy P a h)<=0:=Int.mul_nonpos_of_nonneg_of_nonpos (zMa E) M;have D0:dot (cross (wy P a b) (wy P a h)) (wy P a g)=0:=by
  rw[sw] at W;generalize dot (cross (wy P a b) (wy P a h)) (wy P a g)=D at *;rcases zJb D 0 with q|q|q
  ·have:=zub (a:=dot f f) (b:=-D) w (by omega);omega
  ·exact q
  ·have:=zub t q;omega
 have n12:dot d (wy P a g)=0:=by
  rw[D0,zTc] at Q;rcases zBc.1 Q.symm with q|q
  ·omega
  ·exact q
 have G:g∈bw P N d d1:=aW.2 ⟨(aW.1 r).1,by rw[dA] at n12;have:=(aW.1 m).2;omega⟩
 have c2:=l f _ _ O z2;have c1:=l d _ _ I n12;have t12:=(p.all g G).1;have ne:T d (wy P a b) (wy P a g)≠0:=λe=>by
  have R:=dN F1.nz I n12 e;have:T f (wy P a b) (wy P a g)=0:=by simp only[T];rw[R];simp[dot,zero]
  omega
 refine GH h1.nz.2 H.nz.2 (a:=T d (wy P a b) (wy P a g)*dot f f) (b:=T f (wy P a b) (wy P a g)*dot d d) (zub (by omega) w) (zub E t) ?_
 simp only[T] at *;generalize cross (wy P a b) (wy P a g)=K at *;have X:=congrArg V.x c1;have Y:=congrArg V.y c1;have Z:=congrArg V.z c1;have r1:=congrArg V.x c2;have r2:=congrArg V.y c2;have r3:=congrArg V.z c2;generalize dot d d=A at *;generalize dot f f=B at *;generalize dot d K=A' at *;generalize dot f K=B' at *;simp only[smul] at X Y Z r1 r2 r3;apply V.ext'<;>simp only[smul]<;>grind
end
open V
section
variable{n:V}{P:Nat->V}{on:List Nat}
def Side.start(h:Flat n P on){a b:Nat}(d:a∈on)(f:Side n P on a b):mu P on a:=by
 obtain⟨K,s,t⟩:=iN (λx=>dot (wy P a b) (wy P a x)) on;refine⟨add (smul K (cross n (wy P a b))) (wy P a b),λx hx i=>?_⟩;have e:dot (add (smul K (cross n (wy P a b))) (wy P a b)) (wy P a x)=K*T n (wy P a b) (wy P a x)+dot (wy P a b) (wy P a x):=by simp only[T,dot,add,smul,cross];grind
 rw[e];obtain⟨h1,r⟩:=f.all x hx;have c:=t x hx;rcases znb h1 with k|k
 ·have:K*1<=K*T n (wy P a b) (wy P a x):=zAb (by omega) (zMa s)
  omega
 ·rw[<-k,zTc,zoc];obtain⟨u,v⟩:=r k.symm;have o:dot (wy P a b) (wy P a x)=dot (wy P a x) (wy P a b):=by simp only[dot];grind
  rw[o];rcases znb u with p|p
  ·exact p
  ·exfalso;have q:=dN h.nz (h.pl a d b f.mem) (h.pl a d x hx) k.symm;have g:=J1 q (wy P a b);rw[o,<-p] at g;have hp:=bz (rG h d f.mem f.ne);apply rG h d hx i;have j:=congrArg V.x g;have l:=congrArg V.y g;have m:=congrArg V.z g;simp only[smul,z1c] at j l m;exact V.ext' (bu hp j) (bu hp l) (bu hp m)
end
theorem mO{α:Type}{r:α->α->Prop}(c:∀ a,¬ r a a)(d:∀ a b,r a b->¬ r b a):∀ {l l':List α},l.Pairwise r->l'.Pairwise r->(∀ x,x∈l↔x∈l')->l=l'
 | [],[],_,_,_=>rfl
 | [],b::l',_,_,h=>absurd ((h b).2 zra) (by simp)
 | a::l,[],_,_,h=>absurd ((h a).1 zra) (by simp)
 | a::l,b::l',h1,i,h=>by
  obtain⟨f,j⟩:=zFa.1 h1;obtain⟨g,k⟩:=zFa.1 i;have e:a=b:=by
   rcases zza.1 ((h a).1 zra) with e|m
   ·exact e
   ·rcases zza.1 ((h b).2 zra) with e|n
    ·exact e.symm
    ·exact absurd (f b n) (d _ _ (g a m))
  subst e;rw[mO c d j k λx=>?_];constructor
  ·intro hx;rcases zza.1 ((h x).1 (zia _ hx)) with e|m
   ·subst e;exact absurd (f x hx) (c x)
   ·exact m
  ·intro hx;rcases zza.1 ((h x).2 (zia _ hx)) with e|m
   ·subst e;exact absurd (g x hx) (c x)
   ·exact m
def mG(a:V):¬ aG a a:=by simp only[aG];omega
def vN(a b:V):aG a b->¬ aG b a:=by simp only[aG];omega
def lK{a b c:V}:aG a b->aG b c->aG a c:=by simp only[aG];omega
def qi{a b:V}(h:a≠b):aG a b\/aG b a:=by
 simp only[aG];rcases zJb a.x b.x with h1|h1|h1<;>rcases zJb a.y b.y with c|c|c<;>rcases zJb a.z b.z with d|d|d<;>first|omega|exact absurd (V.ext' h1 c d) h
structure Facets(P:Nat->V)(N:Nat)(L:List (V×Int)):Prop where
 ord:L.Pairwise (λa b=>aG a.1 b.1)
 mem:∀ q,q∈L↔IsF P N q.1 q.2
def Facets.eq{P:Nat->V}{N:Nat}{L L':List (V×Int)}(h:Facets P N L)(c:Facets P N L'):L=L':=
 mO (r:=λa b=>aG a.1 b.1) (λa=>mG a.1) (λa b=>vN a.1 b.1) h.ord c.ord λx=>(h.mem x).trans (c.mem x).symm
section
variable{P:Nat->V}{N:Nat}{n:V}{d:Int}
def IsF.d_eq{d':Int}(h:IsF P N n d)(a:IsF P N n d'):d=d':=by
 obtain⟨i,_,_,f,g,hk,_,_,e⟩:=h.ex;obtain⟨k,_,_,b,c,j,_,_,l⟩:=a.ex;have h1:=h.supp.1 k (by omega)
 have m:=a.supp.1 i (by omega)
 omega
def bD(P:Nat->V)(N:Nat)(n:V)(d:Int)(l:List Nat):Prop:=∃ a,(bw P N n d).head?=some a/\Chain (Side n P (bw P N n d)) a a l
def GA:(bw P N n d).Pairwise (·<·):=List.Pairwise.sublist List.filter_sublist List.pairwise_lt_range
theorem IsF.head(hl:∀ i j,i<j->j<N->aG (P i) (P j))(h:IsF P N n d):∃ a,(bw P N n d).head?=some a/\a∈bw P N n d/\mu P (bw P N n d) a/\(∀ x∈bw P N n d,a<=x)/\∀ c∈bw P N n d,∃ x∈bw P N n d,x≠c:=by
 obtain⟨i,j,k,o,p,hk,b,g,mk,r⟩:=h.three;cases hon:bw P N n d with
 | nil=>rw[hon] at b;simp at b
 | cons a l=>
  have f:(a::l).Pairwise (·<·):=by rw[<-hon];exact GA
  rw[zFa] at f;have hle:∀ x∈a::l,a<=x:=λx hx=>by
   rcases zza.1 hx with e|m
   ·omega
   ·exact zjc (f.1 x m)
  refine⟨a,rfl,zra,Dy λx hx q=>?_,hle,λc hc=>?_⟩
  ·have:=hle x hx;rw[<-hon] at hx;exact hl a x (by omega) (aW.1 hx).1
  ·rw[hon] at b g;by_cases e:i=c
   ·exact⟨j,g,by omega⟩
   ·exact⟨i,b,e⟩
def IsF.poly(hl:∀ i j,i<j->j<N->aG (P i) (P j))(h:IsF P N n d) :
  ∃ l,bD P N n d l/\l.Nodup/\∀ z,z∈l↔z∈bw P N n d/\mu P (bw P N n d) z:=by
 obtain⟨a,h1,b,c,q,e⟩:=h.head hl;obtain⟨l,f,g,k,m⟩:=Bf (h.flat hl) b c e;exact⟨l,⟨a,h1,f⟩,g,λz=>⟨k z,λ⟨o,p⟩=>m z o p⟩⟩
def bD.eq(hl:∀ i j,i<j->j<N->aG (P i) (P j))(h:IsF P N n d){l l':List Nat}(k:bD P N n d l)(o:bD P N n d l'):l=l':=by
 obtain⟨a,h1,q⟩:=k;obtain⟨a',g,m⟩:=o;rw[h1] at g;cases g;obtain⟨b,g1,g2,g3,g4,g5⟩:=h.head hl;rw[h1] at g1;cases g1;have F:=h.flat hl;have key:∀ {c:Nat} {l l':List Nat},c∈bw P N n d->Chain (Side n P (bw P N n d)) a c l->Chain (Side n P (bw P N n d)) a c l'->l=l':=by
  intro c l l' hc r
  induction r generalizing l' with
  | done s=>intro p;cases p with
   | done _=>rfl
   | step s' f _=>exact absurd (Side.unique F hc s' s) f
  | step s f k ih=>intro p;cases p with
   | done s'=>exact absurd (Side.unique F hc s s') f
   | step s' _ o=>
    have e:=Side.unique F hc s s';subst e;rw[ih s.mem o]
 exact key g2 q m
def ks(l:List Nat):List (Nat×Nat):=(List.range l.length).filterMap λk=>if l.getD k 0<l.getD ((k+1)%l.length) 0 then some (l.getD k 0,l.getD ((k+1)%l.length) 0) else none
def bD.next{l:List Nat}(k:bD P N n d l){i:Nat}(j:i<l.length):Side n P (bw P N n d) (l.getD i 0) (l.getD ((i+1)%l.length) 0):=by
 obtain⟨a,h1,g⟩:=k;obtain⟨l',e⟩:=g.head;obtain⟨y,b,h⟩:=g.pairs i (l.getD i 0) (by simp[List.getD,zda j])
 rcases zqa (i+1) l.length with c|c
 ·rw[zeb c] at b;rw[zPa c];simp only[List.getD,b,zGb];exact h
 ·have f:i+1=l.length:=by omega
  rw[zxb (by omega),f,zbd] at b
  simp at b;subst b;rw[f,Nat.mod_self];have:l.getD 0 0=a:=by rw[e];rfl
  rw[this];exact h
def lO{l:List Nat}{a b:Nat}:(a,b)∈ks l↔a<b/\∃ i,i<l.length/\l.getD i 0=a/\l.getD ((i+1)%l.length) 0=b:=by
 simp only[ks,zuc,zNa];constructor
 ·rintro⟨i,d,h⟩;split at h
  ·rename_i c;simp only[zca,Prod.mk.injEq] at h;exact⟨by omega,i,d,h.1,h.2⟩
  ·cases h
 ·rintro⟨c,i,d,h1,e⟩;exact⟨i,d,by rw[h1,e,if_pos c]⟩
def EO(P:Nat->V)(N:Nat)(n:V)(d:Int)(a b:Nat):Prop:=a∈bw P N n d/\Side n P (bw P N n d) a b
def bD.dir(hl:∀ i j,i<j->j<N->aG (P i) (P j))(h:IsF P N n d){l:List Nat}(k:bD P N n d l){a b:Nat} :
  (∃ i,i<l.length/\l.getD i 0=a/\l.getD ((i+1)%l.length) 0=b)↔EO P N n d a b:=by
 obtain⟨q,p,r,m⟩:=h.poly hl;have:=bD.eq hl h k p;subst this;constructor
 ·rintro⟨i,c,h1,o⟩;have s:=k.next c
  rw[h1,o] at s;refine⟨((m a).1 ?_).1,s⟩;rw[<-h1];simp[List.getD,zda c]
 ·rintro⟨f,s⟩;have hm:=(m a).2 ⟨f,s.start (h.flat hl) f⟩;obtain⟨i,c,e⟩:=zQa hm;have g:l.getD i 0=a:=by simp[List.getD,zda c,e]
  have s2:=k.next c
  rw[g] at s2;exact⟨i,c,g,Side.unique (h.flat hl) f s2 s⟩
def uN{l:List Nat}(h:l.Nodup):(ks l).Nodup:=by
 unfold ks;refine List.Pairwise.filterMap _ (R:=λi j:Nat=>i≠j/\i<l.length/\j<l.length) (S:=λx y=>x≠y) ?_ ?_
 ·intro i j ⟨f,a,b⟩ x hx y k e;subst e;simp only[Option.ite_none_right_eq_some,zca] at hx k;have d:l.getD i 0=l.getD j 0:=by have:=congrArg Prod.fst (hx.2.trans k.2.symm);exact this
  simp only[List.getD,zda a,zda b,zGb] at d;rcases Nat.lt_or_gt_of_ne f with c|c
  ·exact zDb.1 h i j a b c d
  ·exact zDb.1 h j i b a c d.symm
 ·have:=List.nodup_range (n:=l.length);refine zSc ?_ this;intro i j a b g;exact⟨g,zNa.1 a,zNa.1 b⟩
end
def zL(a b:Nat×Nat):Prop:=a.1<b.1\/a.1=b.1/\a.2<b.2
def cM(L:List (V×Int))(poly:V×Int->List Nat):List (Nat×Nat):=L.flatMap λq=>ks (poly q)
section
variable{P:Nat->V}{N:Nat}
def Aq(hl:∀ i j,i<j->j<N->aG (P i) (P j)){L:List (V×Int)}(hL:Facets P N L){poly:V×Int->List Nat}(hp:∀ q∈L,bD P N q.1 q.2 (poly q)){a b:Nat} :
  (a,b)∈cM L poly↔a<b/\∃ n d,IsF P N n d/\EO P N n d a b:=by
 simp only[cM,zgb,lO];constructor
 ·rintro⟨q,hq,c,g⟩;exact⟨c,q.1,q.2,(hL.mem q).1 hq,(bD.dir hl ((hL.mem q).1 hq) (hp q hq)).1 g⟩
 ·rintro⟨c,n,d,e,f⟩;have hq:=(hL.mem (n,d)).2 e;exact⟨(n,d),hq,c,(bD.dir hl e (hp _ hq)).2 f⟩
def u0(hl:∀ i j,i<j->j<N->aG (P i) (P j)){L:List (V×Int)}(hL:Facets P N L){poly:V×Int->List Nat}(hp:∀ q∈L,bD P N q.1 q.2 (poly q)):(cM L poly).Nodup:=by
 unfold cM List.Nodup;rw[List.pairwise_flatMap];refine⟨λq hq=>?_,?_⟩
 ·obtain⟨l,m,n,_⟩:=((hL.mem q).1 hq).poly hl;have:=bD.eq hl ((hL.mem q).1 hq) (hp q hq) m;rw[this];exact uN n
 ·refine zSc ?_ hL.ord;intro q h hq d c x hx y k e;subst e;obtain⟨a,b⟩:=x;have F:=(hL.mem q).1 hq;have F':=(hL.mem h).1 d;obtain⟨d1,d2⟩:=(bD.dir hl F (hp q hq)).1 (lO.1 hx).2;obtain⟨f,g⟩:=(bD.dir hl F' (hp h d)).1 (lO.1 k).2;have:=FK hl F F' d1 f d2 g;rw[this] at c;exact mG _ c
def AL(hl:∀ i j,i<j->j<N->aG (P i) (P j)){a b:Nat}:(∃ n d,IsF P N n d/\(EO P N n d a b\/EO P N n d b a))↔∃ n d,IsF P N n d/\EO P N n d a b:=by
 constructor
 ·rintro⟨n,d,c,h|h⟩
  ·exact⟨n,d,c,h⟩
  ·obtain⟨g,d',h1,k,e,f⟩:=AK hl c h.1 h.2;exact⟨g,d',h1,e,f⟩
 ·rintro⟨n,d,c,h⟩;exact⟨n,d,c,.inl h⟩
end
end Geo
end
noncomputable section
namespace Sy
open Go Go.Proofs Geo
abbrev I(n:Int):D:=.int .i64 n
def ab(v:V):D:=.st [I v.x,I v.y,I v.z]
def inR(n:Int):Prop:=-9223372036854775808<=n/\n<=9223372036854775807
def ib{n:Int}(h:inR n):IntKind.wrap .i64 n=n:=by
 obtain⟨h1,a⟩:=h;simp only[IntKind.wrap,IntKind.signed,IntKind.bits];first
  | omega
  | (simp;omega)
def aq{a b:Int}(h:inR (a+b)):D.bin .add (I a) (I b)=some (I (a+b)):=by simp only[D.bin,if_true,ib h]
def bP{a b:Int}(h:inR (a-b)):D.bin .sub (I a) (I b)=some (I (a-b)):=by simp only[D.bin,if_true,ib h]
def br{a b:Int}(h:inR (a*b)):D.bin .mul (I a) (I b)=some (I (a*b)):=by simp only[D.bin,if_true,ib h]
def ah{a b:Int}:D.bin .lss (I a) (I b)=some (.bool (decide (a<b))):=by simp only[D.bin,if_true]
def sB{a b:Int}:D.bin .leq (I a) (I b)=some (.bool (decide (a<=b))):=by simp only[D.bin,if_true]
def cw{a b:Int}:D.bin .gtr (I a) (I b)=some (.bool (decide (a>b))):=by simp only[D.bin,if_true]
def gS{a b:Int}:D.bin .geq (I a) (I b)=some (.bool (decide (a ≥ b))):=by simp only[D.bin,if_true]
def kP{a b:Int}(h:b≠0):D.bin .rem (I a) (I b)=some (I (a.tmod b)):=by simp only[D.bin,if_true,h,if_false]
def ni{a b:Int}(h:b≠0)(c:inR (a.tdiv b)):D.bin .quo (I a) (I b)=some (I (a.tdiv b)):=by simp only[D.bin,if_true,h,if_false,ib c]
def mo{a:Int}(h:inR (-a)):D.un .neg (I a)=some (I (-a)):=by simp only[D.un,Int.zero_sub,ib h]
def aM{b:Bool}:D.un .not (.bool b)=some (.bool (!b)):=rfl
def ac{b:Bool}:D.truth (.bool b)=some b:=rfl
def CC{a b:Int}:D.max2 (I a) (I b)=some (I (max a b)):=by
 simp only[D.max2];congr 2;split<;>omega
def OH{a b:Int}:D.min2 (I a) (I b)=some (I (min a b)):=by
 simp only[D.min2];congr 2;split<;>omega
def bI{a b:Int}:D.beq (I a) (I b)=decide (a=b):=by simp[D.beq]
def nJ(v:V):D.get (ab v) [0]=some (I v.x):=rfl
def nK(v:V):D.get (ab v) [1]=some (I v.y):=rfl
def nL(v:V):D.get (ab v) [2]=some (I v.z):=rfl
def s9(x y z:Int):D.st [D.int .i64 x,D.int .i64 y,D.int .i64 z]=ab ⟨x,y,z⟩:=rfl
def bd(k:Int)(v:V):Prop:=(-k<=v.x/\v.x<=k)/\(-k<=v.y/\v.y<=k)/\(-k<=v.z/\v.z<=k)
def gC{a b A B:Int}(f:-A<=a/\a<=A)(g:-B<=b/\b<=B):-(A*B)<=a*b/\a*b<=A*B:=by
 have c:0<=A:=by omega
 have d:0<=B:=by omega
 have h1:(a*b).natAbs<=(A*B).natAbs:=by
  rw[zKa,zKa];exact z1a (by omega) (by omega)
 have e:0<=A*B:=zSb c d;omega
def jy{A B:Int}{u v:V}(hu:bd A u)(a:bd B v):bd (A+B) (u.sub v):=by
 simp only[bd,V.sub] at *;omega
def pI{A:Int}{u:V}(hu:bd A u):bd A u.neg:=by
 simp only[bd,V.neg] at *;omega
def iA{A B:Int}{u v:V}(hu:bd A u)(a:bd B v):bd (2*(A*B)) (V.cross u v):=by
 have:=gC hu.1 a.1;have:=gC hu.1 a.2.1;have:=gC hu.1 a.2.2;have:=gC hu.2.1 a.1;have:=gC hu.2.1 a.2.1;have:=gC hu.2.1 a.2.2;have:=gC hu.2.2 a.1;have:=gC hu.2.2 a.2.1;have:=gC hu.2.2 a.2.2;simp only[bd,V.cross];omega
def Fe{A B:Int}{u v:V}(hu:bd A u)(a:bd B v):-(3*(A*B))<=V.dot u v/\V.dot u v<=3*(A*B):=by
 have:=gC hu.1 a.1;have:=gC hu.2.1 a.2.1;have:=gC hu.2.2 a.2.2;simp only[V.dot];omega
def yS{A B:Int}{u v:V}(hu:bd A u)(a:bd B v)(h:3*(A*B)<=9223372036854775807) :
  inR (u.x*v.x)/\inR (u.y*v.y)/\inR (u.z*v.z)/\inR (u.x*v.x+u.y*v.y)/\inR (u.x*v.x+u.y*v.y+u.z*v.z):=by
 have:=gC hu.1 a.1;have:=gC hu.2.1 a.2.1;have:=gC hu.2.2 a.2.2;simp only[inR];omega
def f101{call:Nat->List D->Option D}{A B:Int}{u v:V}(hu:bd A u)(e:bd B v)(h:3*(A*B)<=9223372036854775807):EQ aL call (ab u) (ab v)=some (I (V.dot u v)):=by
 obtain⟨h1,a,b,c,d⟩:=yS hu e h;simp only[EQ,qG,qB,nJ,nK,nL,zba,br h1,br a,br b,aq c,aq d];rfl
def Fi(n:Nat){A B:Int}{u v:V}(hu:bd A u)(a:bd B v)(h:3*(A*B)<=9223372036854775807):cA (n+1) 101 [ab u,ab v]=some (I (V.dot u v)):=by rw[VG];exact f101 hu a h
def Dj(n:Nat){A B:Int}{u v:V}(hu:bd A u)(e:bd B v)(h:3*(A*B)<=9223372036854775807):cA (n+1) 107 [ab u,ab v]=some (I (V.dot u v)):=by
 obtain⟨h1,a,b,c,d⟩:=yS hu e h;rw[VL];simp only[Hy,qG,qB,nJ,nK,nL,zba,br h1,br a,br b,aq c,aq d];rfl
def sS{A B:Int}{u v:V}(hu:bd A u)(a:bd B v)(h:2*(A*B)<=9223372036854775807) :
  inR (u.y*v.z)/\inR (u.z*v.y)/\inR (u.z*v.x)/\inR (u.x*v.z)/\inR (u.x*v.y)/\inR (u.y*v.x)/\inR (u.y*v.z-u.z*v.y)/\inR (u.z*v.x-u.x*v.z)/\inR (u.x*v.y-u.y*v.x):=by
 have:=gC hu.1 a.1;have:=gC hu.1 a.2.1;have:=gC hu.1 a.2.2;have:=gC hu.2.1 a.1;have:=gC hu.2.1 a.2.1;have:=gC hu.2.1 a.2.2;have:=gC hu.2.2 a.1;have:=gC hu.2.2 a.2.1;have:=gC hu.2.2 a.2.2;simp only[inR];omega
def NQ(n:Nat){A B:Int}{u v:V}(hu:bd A u)(j:bd B v)(h:2*(A*B)<=9223372036854775807):cA (n+1) 117 [ab u,ab v]=some (ab (V.cross u v)):=by
 obtain⟨h1,a,b,c,d,e,f,g,i⟩:=sS hu j h;rw[VU];simp only[HG,qG,qB,nJ,nK,nL,zba,br h1,br a,br b,br c,br d,br e,bP f,bP g,bP i];rfl
def NS(n:Nat){A B:Int}{u v:V}(hu:bd A u)(j:bd B v)(h:2*(A*B)<=9223372036854775807):cA (n+1) 123 [ab u,ab v]=some (ab (V.cross u v)):=by
 obtain⟨h1,a,b,c,d,e,f,g,i⟩:=sS hu j h;rw[V1];simp only[HM,qG,qB,nJ,nK,nL,zba,br h1,br a,br b,br c,br d,br e,bP f,bP g,bP i];rfl
def Ol(n:Nat){A:Int}{u:V}(hu:bd A u)(h:A<=9223372036854775807):cA (n+1) 97 [ab u]=some (ab u.neg):=by
 have h1:inR (-u.x):=by simp only[bd,inR] at *;omega
 have a:inR (-u.y):=by simp only[bd,inR] at *;omega
 have b:inR (-u.z):=by simp only[bd,inR] at *;omega
 rw[u97];simp only[PT,qG,nJ,nK,nL,zba,mo h1,mo a,mo b];rfl
end Sy
end
noncomputable section
namespace Sy
open Go Go.Proofs Geo
abbrev Bd:=List D->Option (Sum (List D) (Nat×List D))
def ct{body:Bd}{s s':List D}{k:Nat×List D->Option D}{y:D}(h:body s=some (.inl s'))(hk:Option.bind (aL body s') k=some y):Option.bind (aL body s) k=some y:=by
 have:aL body s=aL body s':=cH h;rw[this];exact hk
def fI{body:Bd}{s:List D}{r:Nat×List D}{k:Nat×List D->Option D}{y:D}(h:body s=some (.inr r))(hk:k r=some y):Option.bind (aL body s) k=some y:=by
 have:aL body s=some r:=ck h;rw[this];exact hk
def ql{body:Bd}{s:List D}{r:Nat×List D}{k:Nat×List D->Option D}{y:D}(h:aL body s=some r)(hk:k r=some y):Option.bind (aL body s) k=some y:=by
 rw[h];exact hk
def bq{body:Bd}{s0:List D}{k:Nat×List D->Option D}{y:D}(J:Nat->List D->Prop)(n i0:Nat)(c:i0<=n)(h0:J i0 s0)
  (b:∀ i,i<n->∀ s,J i s->(∃ s',body s=some (.inl s')/\J (i+1) s')\/∃ r,body s=some (.inr r)/\k r=some y) (he:∀ s,J n s->∃ r,body s=some (.inr r)/\k r=some y):Option.bind (aL body s0) k=some y:=by
 obtain⟨m,hm⟩:∃ m,m=n-i0:=⟨_,rfl⟩
 induction m generalizing i0 s0 with
 | zero=>
  have:i0=n:=by omega
  subst this;obtain⟨r,h1,a⟩:=he s0 h0;exact fI h1 a
 | succ m ih=>
  rcases b i0 (by omega) s0 h0 with⟨s',h1,a⟩|⟨r,h1,a⟩
  ·exact ct h1 (ih (i0:=i0+1) (by omega) a (by omega))
  ·exact fI h1 a
def Cy{body:Bd}{s0:List D}(J:Nat->List D->Prop)(Q:Nat×List D->Prop)(n i0:Nat)(e:i0<=n)(h0:J i0 s0)
  (b:∀ i,i<n->∀ s,J i s->(∃ s',body s=some (.inl s')/\J (i+1) s')\/∃ r,body s=some (.inr r)/\Q r) (he:∀ s,J n s->∃ r,body s=some (.inr r)/\Q r):∃ r,aL body s0=some r/\Q r:=by
 obtain⟨m,hm⟩:∃ m,m=n-i0:=⟨_,rfl⟩
 induction m generalizing i0 s0 with
 | zero=>
  have:i0=n:=by omega
  subst this;obtain⟨r,h1,a⟩:=he s0 h0;exact⟨r,ck h1,a⟩
 | succ m ih=>
  rcases b i0 (by omega) s0 h0 with⟨s',h1,a⟩|⟨r,h1,a⟩
  ·obtain⟨r,c,d⟩:=ih (i0:=i0+1) (by omega) a (by omega)
   exact⟨r,by rw[show aL body s0=aL body s' from cH h1];exact c,d⟩
  ·exact⟨r,ck h1,a⟩
def am{i n:Nat}(h:i<n):D.idx (I (i:Int)) n=some i:=by
 simp only[D.idx];rw[if_pos (by omega)];simp
def ay{i:Nat}(h:i<=9223372036854775806):inR ((i:Int)+1):=by simp only[inR];omega
def g0{x:D}{l:List D}{d:D}:List.getD (x::l) 0 d=x:=rfl
def g1{x y:D}{l:List D}{d:D}:List.getD (x::y::l) 1 d=y:=rfl
def g2{x y z:D}{l:List D}{d:D}:List.getD (x::y::z::l) 2 d=z:=rfl
def g3{x y z w:D}{l:List D}{d:D}:List.getD (x::y::z::w::l) 3 d=w:=rfl
def VB(v:V)(a:Int):D.set (ab v) [0] (I a)=some (ab ⟨a,v.y,v.z⟩):=rfl
def VC(v:V)(a:Int):D.set (ab v) [1] (I a)=some (ab ⟨v.x,a,v.z⟩):=rfl
def VD(v:V)(a:Int):D.set (ab v) [2] (I a)=some (ab ⟨v.x,v.y,a⟩):=rfl
def Gf:D.idx (I 0) 3=some 0:=rfl
def Gg:D.idx (I 1) 3=some 1:=rfl
def Gh:D.idx (I 2) 3=some 2:=rfl
def UC(n:Nat){A B:Int}{u v:V}(hu:bd A u)(c:bd B v)(h:A+B<=9223372036854775807):cA (n+1) 154 [ab u,ab v]=some (ab (u.add v)):=by
 have h1:inR (u.x+v.x):=by simp only[bd,inR] at *;omega
 have a:inR (u.y+v.y):=by simp only[bd,inR] at *;omega
 have b:inR (u.z+v.z):=by simp only[bd,inR] at *;omega
 rw[Wl]
 delta H5 qB qC qJ qZ iL iR Jn
 refine ct (s':=[I 1,ab ⟨u.x+v.x,u.y,u.z⟩]) ?_ (ct (s':=[I 2,ab ⟨u.x+v.x,u.y+v.y,u.z⟩]) ?_ (ct (s':=[I 3,ab ⟨u.x+v.x,u.y+v.y,u.z+v.z⟩]) ?_ (fI (r:=(0,[ab (u.add v)])) ?_ rfl)))
 ·simp only[g0,g1,ah,zba,ac,Gf,nJ,VB,aq h1,aq (show inR (0+1) from⟨by decide,by decide⟩)];rfl
 ·simp only[g0,g1,ah,zba,ac,Gg,nK,VC,aq a,aq (show inR (1+1) from⟨by decide,by decide⟩)];rfl
 ·simp only[g0,g1,ah,zba,ac,Gh,nL,VD,aq b,aq (show inR (2+1) from⟨by decide,by decide⟩)];rfl
 ·simp only[g0,g1,ah,zba,ac];rfl
def Ja(u v:V):u.add v.neg=u.sub v:=by apply V.ext'<;>simp only[V.add,V.neg,V.sub]<;>omega
def Fj(n:Nat){A B:Int}{u v:V}(hu:bd A u)(a:bd B v)(h:A+B<=9223372036854775807):cA (n+2) 103 [ab u,ab v]=some (ab (u.sub v)):=by
 have b:0<=A:=by simp only[bd] at hu;omega
 rw[VH];simp only[Hu,Ol n a (by omega),zba,UC n hu (pI a) h,Ja]
def wW(n:Nat){A B:Int}{u v:V}(hu:bd A u)(c:bd B v)(h:A+B<=9223372036854775807):cA (n+1) 112 [ab u,ab v]=some (ab (u.sub v)):=by
 have h1:inR (u.x-v.x):=by simp only[bd,inR] at *;omega
 have a:inR (u.y-v.y):=by simp only[bd,inR] at *;omega
 have b:inR (u.z-v.z):=by simp only[bd,inR] at *;omega
 rw[VQ];simp only[HD,qG,qB,nJ,nK,nL,zba,bP h1,bP a,bP b];rfl
def be(a b:Int):Int:=if a<b then -1 else if a>b then 1 else 0
def Uw(n:Nat)(a:Int):cA (n+1) 115 [I a]=some (.bool false):=by
 rw[VR];simp only[HE,bI];simp
def Oh(n:Nat)(a b:Int):cA (n+2) 53 [I a,I b]=some (I (be a b)):=by
 rw[Z8];simp only[Px,qC,qT,Jn,Uw,zba,ac,zya,if_false,ah,cw,be,decide_eq_true_eq];split
 ·rfl
 ·split<;>rfl
def pF:List Int->Int
 | []=>0
 | x::l=>if x=0 then pF l else x
def Xx(n:Nat)(l:List Int)(hl:l.length<=1000):cA (n+1) 52 [.sl (l.map λx=>I x)]=some (I (pF l)):=by
 rw[Z7]
 delta Pw qB qC qT qS qX qZ iL iR Jn
 simp only[D.asSl,zba];refine bq (λi s=>s=[I i]/\pF l=pF (l.drop i)) l.length 0 (zla _) ⟨rfl,rfl⟩ (λi c s b=>?_) (λs b=>?_)
 ·obtain⟨rfl,a⟩:=b;have hx:(l.map λx=>I x)[i]?=some (I l[i]):=by simp[c]
  simp only[g0,zma,ah,zba,ac,decide_eq_true_eq,show((i:Int)<(l.length:Int)) from by omega,if_true,am c,hx,bI]
  have d:l.drop i=l[i]::l.drop (i+1):=zpb c;rw[d] at a;by_cases h0:l[i]=0
  ·left;refine⟨[I ((i+1:Nat):Int)],?_,rfl,?_⟩
   ·simp only[h0,decide_true,zbc,zya,if_false,aq (ay (i:=i) (by omega)),zba];rfl
   ·rw[a];simp[pF,h0]
  ·right;refine⟨(0,[I l[i]]),?_,?_⟩
   ·simp[h0]
   ·rw[a];simp[pF,h0]
 ·obtain⟨rfl,a⟩:=b;refine⟨(1,[]),?_,?_⟩
  ·simp only[g0,zma,ah,zba,ac,decide_eq_true_eq,zEc,if_false]
  ·rw[a];simp[pF]
end Sy
end
noncomputable section
namespace Sy
open Go Go.Proofs Geo
def yY{body:Bd}(h0:∀ a b:Int,b≠0->body [I a,I b]=some (.inl [I b,I (a.tmod b)]))(h1:∀ a:Int,body [I a,I 0]=some (.inr (0,[I a]))) :
  ∀ (m:Nat) (a b:Int),b.natAbs=m->∃ r:Int,aL body [I a,I b]=some (0,[I r])/\r.natAbs=Nat.gcd a.natAbs b.natAbs:=by
 intro m
 induction m using Nat.strongRecOn with
 | _ m ih=>
  intro a b e;by_cases d:b=0
  ·subst d;exact⟨a,ck (h1 a),by simp⟩
  ·have c:(a.tmod b).natAbs<m:=by
    rw[Int.natAbs_tmod,<-e];exact zRa _ (by omega)
   obtain⟨r,f,g⟩:=ih _ c b (a.tmod b) rfl;refine⟨r,?_,?_⟩
   ·rw[show aL body [I a,I b]=aL body [I b,I (a.tmod b)] from cH (h0 a b d)];exact f
   ·rw[g,Int.natAbs_tmod,zvc a.natAbs,Nat.gcd_rec b.natAbs a.natAbs,zvc]
def p8{a b:Int}{k:Nat}(c:a.natAbs<=k)(d:b.natAbs<=k):Nat.gcd a.natAbs b.natAbs<=k:=by
 rcases zwb a.natAbs with h|h
 ·rw[h,Nat.gcd_zero_left];exact d
 ·exact zBa (Nat.le_of_dvd h (zcb _ _)) c
def LJ(n:Nat){a b:Int}(f:a.natAbs<=9223372036854775807)(c:b.natAbs<=9223372036854775807):cA (n+1) 152 [I a,I b]=some (I (Nat.gcd a.natAbs b.natAbs:Nat)):=by
 rw[O3]
 delta EW qB qT qZ iL iR Jn
 obtain⟨r,h1,e⟩:=yY (body:=λ(v1:List D)=>
  Option.bind (D.truth (D.bool (!(D.beq (gx v1 1) (D.int .i64 0))))) λd=>
  if d then(Option.bind (D.bin .rem (gx v1 0) (gx v1 1)) λg=>
  some (Sum.inl [(gx v1 1),g])) else(some (Sum.inr (0,[(gx v1 0)]))))
  (λa b c=>by simp only[g0,g1,bI,ac,zba,c,decide_false,zPb,if_true,kP c])
  (λa=>by simp only[g0,g1,bI,ac,zba,decide_true,zbc,zya,if_false]) _ a b rfl
 refine ql h1 ?_;have h:r.natAbs<=9223372036854775807:=by rw[e];exact p8 f c
 have hn:inR (-r):=by simp only[inR];omega
 simp only[zba,g0,mo hn,CC];congr 2;omega
def gj{a:Int}{g:Nat}(b:0<g)(h:(g:Int) ∣ a):a.tdiv g=a/g:=by
 obtain⟨c,rfl⟩:=h;rw[zid _ (by omega),z7a _ (by omega)]
def vo(v:V):(bf v:Int) ∣ v.x:=z0a.2 (z6c (zcb _ _) (zcb _ _))
def vp(v:V):(bf v:Int) ∣ v.y:=z0a.2 (z6c (zcb _ _) (zCb _ _))
def vq(v:V):(bf v:Int) ∣ v.z:=z0a.2 (zCb _ _)
def pT{a:Int}{g:Nat}{k:Int}(h:-k<=a/\a<=k)(b:(g:Int) ∣ a):-k<=a/g/\a/g<=k:=by
 have h1:(a/(g:Int)).natAbs<=a.natAbs:=by
  rcases zwb g with e|e
  ·subst e;simp
  ·obtain⟨c,rfl⟩:=b;rw[z7a _ (by omega),zKa]
   exact zNb _ (by omega)
 omega
def cX{k:Int}{v:V}(h:bd k v):bd k (az v):=⟨pT h.1 (vo v),pT h.2.1 (vp v),pT h.2.2 (vq v)⟩
def cg(q:V×Int):D:=.st [ab q.1,I q.2]
def MV:Int:=262144
def nj{P:Nat->V}{i j:Nat}(a:bd MV (P i))(b:bd MV (P j)):bd 524288 (wy P i j):=by
 have:=jy b a;simpa [MV,wy] using this
def ZL(n:Nat){a b c:V}(h:bd MV a)(l:bd MV b)(hc:bd MV c):cA (n+3) 96 [ab a,ab b,ab c]=some (cg (az (V.cross (b.sub a) (c.sub a)),V.dot (az (V.cross (b.sub a) (c.sub a))) a)):=by
 have h1:bd 524288 (b.sub a):=by have:=jy l h;simpa [MV] using this
 have j:bd 524288 (c.sub a):=by have:=jy hc h;simpa [MV] using this
 rw[u96]
 delta PS qG qB qC Jn
 simp only[Fj n l h (by decide),Fj n hc h (by decide),zba,NQ (n+1) h1 j (by decide)]
 have f:=iA h1 j;generalize V.cross (b.sub a) (c.sub a)=m at *;have o:m.x.natAbs<=549755813888:=by have:=f.1;omega
 have p:m.y.natAbs<=549755813888:=by have:=f.2.1;omega
 have u:m.z.natAbs<=549755813888:=by have:=f.2.2;omega
 have v:Nat.gcd m.x.natAbs m.y.natAbs<=549755813888:=p8 o p;have q:Nat.gcd (Nat.gcd m.x.natAbs m.y.natAbs) m.z.natAbs=bf m:=rfl;simp only[nJ,nK,nL,zba,LJ (n+1) (a:=m.x) (b:=m.y) (by omega) (by omega),LJ (n+1) (a:=((Nat.gcd m.x.natAbs m.y.natAbs:Nat):Int)) (b:=m.z) (by rw[zoa];omega) (by omega),zoa,q,cw,ac,decide_eq_true_eq]
 have r:=cX f;have fin:∀ w:V,w=az m->cA (n+2) 101 [ab w,ab a]=some (I (V.dot w a)):=λw hw=>Fi (n+1) (hw ▸ r) h (by decide)
 by_cases hg:(bf m:Int)>1
 ·have g:(bf m:Int)≠0:=by omega
  have d:0<bf m:=by omega
  have r1:inR (m.x.tdiv (bf m)):=by rw[gj d (vo m)];have:=pT f.1 (vo m);simp only[inR];omega
  have s:inR (m.y.tdiv (bf m)):=by rw[gj d (vp m)];have:=pT f.2.1 (vp m);simp only[inR];omega
  have t:inR (m.z.tdiv (bf m)):=by rw[gj d (vq m)];have:=pT f.2.2 (vq m);simp only[inR];omega
  have i:(D.st [I (m.x.tdiv (bf m)),I (m.y.tdiv (bf m)),I (m.z.tdiv (bf m))])=ab (az m):=by
   rw[gj d (vo m),gj d (vp m),gj d (vq m)];rfl
  simp only[if_pos hg,ni g r1,ni g s,ni g t,zba,g0,i,fin _ rfl];rfl
 ·have i:m=az m:=by
   rcases zqa 0 (bf m) with k|k
   ·have e:bf m=1:=by omega
    have:=iQ m;rw[e] at this;rw[this]
    conv=>rhs;rw[<-this]
    apply V.ext'<;>simp[V.smul]
   ·have e:bf m=0:=by omega
    have hm:m=V.zero:=by
     by_cases hm:m=V.zero
     ·exact hm
     ·have:=iG hm;omega
    rw[hm];rfl
  simp only[if_neg hg,zba,g0,fin m i];rw[<-i];rfl
end Sy
end
noncomputable section
namespace Sy
open Go Go.Proofs Geo
def Vx(a b:Int):D.sl [I a,I b]=D.sl ([a,b].map λx=>I x):=rfl
def Vy(a b c:Int):D.sl [I a,I b,I c]=D.sl ([a,b,c].map λx=>I x):=rfl
def ZG(n:Nat)(a b c d:Int):cA (n+3) 51 [.st [I a,I b],.st [I c,I d]]=some (I (pF [be a c,be b d])):=by
 rw[Z6]
 delta Pv qG
 simp only[show ∀ a b:Int,D.get (.st [I a,I b]) [0]=some (I a) from λ_ _=>rfl,show ∀ a b:Int,D.get (.st [I a,I b]) [1]=some (I b) from λ_ _=>rfl,zba,Oh,Vx,Xx (n+1) [be a c,be b d] (by simp)]
def Uq(n:Nat)(p q:V×Int):cA (n+3) 100 [cg p,cg q]=some (I (pF [be p.1.x q.1.x,be p.1.y q.1.y,be p.1.z q.1.z])):=by
 rw[VF]
 delta Ht qG
 simp only[show ∀ p:V×Int,D.get (cg p) [0]=some (ab p.1) from λ_=>rfl,show ∀ p:V×Int,D.get (cg p) [0,0]=some (I p.1.x) from λ_=>rfl,show ∀ p:V×Int,D.get (cg p) [0,1]=some (I p.1.y) from λ_=>rfl,show ∀ p:V×Int,D.get (cg p) [0,2]=some (I p.1.z) from λ_=>rfl,nJ,nK,nL,zba,Oh,Vy,Xx (n+1) [be p.1.x q.1.x,be p.1.y q.1.y,be p.1.z q.1.z] (by simp)]
def w7(a:Int):be a 0=sg a:=rfl
def OS(a:Int):-1<=sg a/\sg a<=1:=by unfold sg;split<;>(try split)<;>omega
def qd(a b:Int):inR (sg a*sg b):=by
 have:=gC (A:=1) (B:=1) (OS a) (OS b);simp only[inR];omega
def Oy(v:V):D.fld (ab v) 0=some (I v.x):=rfl
def Oz(v:V):D.fld (ab v) 1=some (I v.y):=rfl
def OA(v:V):D.fld (ab v) 2=some (I v.z):=rfl
def KX:inR (0+1):=⟨by decide,by decide⟩
def rZ:inR (1+1):=⟨by decide,by decide⟩
def KY:inR (2+1):=⟨by decide,by decide⟩
def Ur(n:Nat){A B:Int}{m u v:V}(hu:bd A u)(a:bd B v)(h:2*(A*B)<=9223372036854775807):cA (n+3) 104 [ab m,ab u,ab v]=some (I (vM m (V.cross u v))):=by
 rw[VI]
 delta Hv qB qC qT qJ qZ iL iR Jn
 simp only[NQ (n+1) hu a h,zba];generalize V.cross u v=c;unfold vM;by_cases hx:m.x=0
 ·refine ct (s':=[I 1]) (by simp only[g0,ah,zba,ac,Gf,Oy,bI,hx,decide_true,zbc,zya,if_false,aq KX];rfl) ?_
  by_cases hy:m.y=0
  ·refine ct (s':=[I 2]) (by simp only[g0,ah,zba,ac,Gg,Oz,bI,hy,decide_true,zbc,zya,if_false,aq rZ];rfl) ?_
   by_cases hz:m.z=0
   ·refine ct (s':=[I 3]) (by simp only[g0,ah,zba,ac,Gh,OA,bI,hz,decide_true,zbc,zya,if_false,aq KY];rfl) ?_
    refine fI (r:=(1,[])) (by simp only[g0,ah,zba,ac];rfl) ?_
    simp[hx,hy,hz]
   ·refine fI (r:=(0,[I (sg c.z*sg m.z)])) ?_ (by simp[hx,hy,hz,zpc])
    simp only[g0,ah,zba,ac,Gh,OA,nL,bI,hz,decide_false,zPb,if_true,Oh,w7,br (qd _ _)];rfl
  ·refine fI (r:=(0,[I (sg c.y*sg m.y)])) ?_ (by simp[hx,hy,zpc])
   simp only[g0,ah,zba,ac,Gg,Oz,nK,bI,hy,decide_false,zPb,if_true,Oh,w7,br (qd _ _)];rfl
 ·refine fI (r:=(0,[I (sg c.x*sg m.x)])) ?_ (by simp[hx,zpc])
  simp only[g0,ah,zba,ac,Gf,Oy,nJ,bI,hx,decide_false,zPb,if_true,Oh,w7,br (qd _ _)];rfl
def LP(n:Nat)(a:Int):cA (n+1) 215 [I a]=some (I (sg a)):=by
 rw[WE];simp only[Io,qC,Jn,ah,cw,zba,ac,decide_eq_true_eq,sg];split
 ·rfl
 ·split
  ·rfl
  ·rfl
def UK(n:Nat)(m c:V):cA (n+2) 188 [ab m,ab c]=some (I (vM m c)):=by
 rw[Wx]
 delta Ih qB qC qT qJ qZ iL iR Jn vM
 by_cases hx:m.x=0
 ·refine ct (s':=[I 1]) (by simp only[g0,ah,zba,ac,Gf,nJ,bI,hx,decide_true,zbc,zya,if_false,aq KX];rfl) ?_
  by_cases hy:m.y=0
  ·refine ct (s':=[I 2]) (by simp only[g0,ah,zba,ac,Gg,nK,bI,hy,decide_true,zbc,zya,if_false,aq rZ];rfl) ?_
   by_cases hz:m.z=0
   ·refine ct (s':=[I 3]) (by simp only[g0,ah,zba,ac,Gh,nL,bI,hz,decide_true,zbc,zya,if_false,aq KY];rfl) ?_
    refine fI (r:=(1,[])) (by simp only[g0,ah,zba,ac];rfl) ?_
    simp[hx,hy,hz]
   ·refine fI (r:=(0,[I (sg m.z*sg c.z)])) ?_ (by simp[hx,hy,hz])
    simp only[g0,ah,zba,ac,Gh,nL,bI,hz,decide_false,zPb,if_true,LP,br (qd _ _)];rfl
  ·refine fI (r:=(0,[I (sg m.y*sg c.y)])) ?_ (by simp[hx,hy])
   simp only[g0,ah,zba,ac,Gg,nK,bI,hy,decide_false,zPb,if_true,LP,br (qd _ _)];rfl
 ·refine fI (r:=(0,[I (sg m.x*sg c.x)])) ?_ (by simp[hx])
  simp only[g0,ah,zba,ac,Gf,nJ,bI,hx,decide_false,zPb,if_true,LP,br (qd _ _)];rfl
instance decLex (a b:V):Decidable (aG a b):=by unfold aG;exact inferInstance
def NP(n:Nat)(a b:V):cA (n+1) 105 [ab a,ab b]=some (.bool (decide (aG a b))):=by
 rw[VJ];simp only[Hw,qG,qB,qT,nJ,nK,nL,zba,bI,ac,ah,zGa,decide_eq_false_iff_not];by_cases h1:a.x=b.x
 ·by_cases h2:a.y=b.y
  ·simp[h1,h2,aG]
  ·simp only[h1,h2,aG,not_true,if_false,not_false_iff,if_true,zEc,false_or,true_and,false_and,or_false]
 ·simp only[h1,aG,not_false_iff,if_true,false_and,or_false]
def aT(l:List V):D:=.sl (l.map ab)
def qy(l:List V)(m:V)(d:Int):Bool:=l.all λx=>decide (V.dot m x<=d)
def jV(l:List V)(m:V)(d:Int):Bool:=l.any λx=>decide (V.dot m x<d)
def DA{l:List V}{i:Nat}(h:i<l.length):(l.map ab)[i]?=some (ab l[i]):=by simp[h]
def Uu(n:Nat){A:Int}{l:List V}{m:V}{d:Int}(hl:∀ x∈l,bd MV x)(hm:bd A m)(g:3*(A*262144)<=9223372036854775807)(hlen:l.length<=1000000):cA (n+2) 109 [aT l,ab m,I d]=some (.bool (qy l m d&&jV l m d)):=by
 rw[VN]
 delta HA qB qC qT qX qL qZ iL iR Jn
 refine bq (λi s=>s=[.bool (jV (l.take i) m d),I i]/\qy (l.take i) m d=true) l.length 0 (zla _) ⟨by simp[jV],by simp[qy]⟩ (λi a s c=>?_) (λs c=>?_)
 ·obtain⟨rfl,b⟩:=c;have f:l.take (i+1)=l.take i++[l[i]]:=zua a;have hc:=Dj n hm (hl l[i] (zva a)) g;simp only[aT,D.asSl,g0,g1,zma,ah,cw,zba,ac,decide_eq_true_eq,show((i:Int)<(l.length:Int)) from by omega,if_true,am a,DA a,hc]
  by_cases hgt:V.dot m l[i]>d
  ·right;refine⟨(0,[.bool false]),by simp only[hgt,if_true],?_⟩
   have:qy l m d=false:=by
    rw[zdc];intro h;have:=zpa.1 h l[i] (zva a);simp at this;omega
   simp[g0,this]
  ·left;refine⟨[.bool (jV (l.take (i+1)) m d),I ((i+1:Nat):Int)],?_,rfl,?_⟩
   ·simp only[hgt,if_false,aq (ay (i:=i) (by omega)),zba]
    have e:jV (l.take (i+1)) m d=(jV (l.take i) m d||decide (V.dot m l[i]<d)):=by rw[f];simp only[jV,zUc,List.any_cons,List.any_nil,Bool.or_false]
    rw[e];cases jV (l.take i) m d<;>simp
   ·rw[f];simp only[qy,z9c,zaa] at b ⊢;exact⟨b,by simp;omega⟩
 ·obtain⟨rfl,b⟩:=c;refine⟨(1,[.bool (jV (l.take l.length) m d)]),?_,?_⟩
  ·simp only[aT,D.asSl,g0,g1,zma,ah,zba,ac,decide_eq_true_eq,zEc,if_false]
  ·rw[z3a] at *;simp[g0,b]
def ZM(n:Nat){A:Int}{l:List V}{m:V}{d:Int}(hl:∀ x∈l,bd MV x)(hm:bd A m)(g:3*(A*262144)<=9223372036854775807)(hlen:l.length<=1000000):cA (n+2) 98 [aT l,cg (m,d)]=some (.bool (qy l m d&&jV l m d)):=by
 rw[u98]
 delta PU qG qB qC qT qS qX qZ iL iR Jn
 simp only[aT,D.asSl,zba];refine bq (λi s=>s=[.bool (!jV (l.take i) m d),I i]/\qy (l.take i) m d=true) l.length 0 (zla _) ⟨by simp[jV],by simp[qy]⟩ (λi a s c=>?_) (λs c=>?_)
 ·obtain⟨rfl,b⟩:=c;have f:l.take (i+1)=l.take i++[l[i]]:=zua a;have hc:=Fi n hm (hl l[i] (zva a)) g;simp only[g0,g1,zma,ah,cw,zba,ac,decide_eq_true_eq,show((i:Int)<(l.length:Int)) from by omega,if_true,am a,DA a,show D.get (cg (m,d)) [0]=some (ab m) from rfl,show D.get (cg (m,d)) [1]=some (I d) from rfl,hc,bI]
  by_cases hgt:V.dot m l[i]>d
  ·right;refine⟨(0,[.bool false]),by simp only[hgt,if_true],?_⟩
   have:qy l m d=false:=by
    rw[zdc];intro h;have:=zpa.1 h l[i] (zva a);simp at this;omega
   simp[g0,this]
  ·left;refine⟨[.bool (!jV (l.take (i+1)) m d),I ((i+1:Nat):Int)],?_,rfl,?_⟩
   ·simp only[hgt,if_false,aq (ay (i:=i) (by omega)),zba]
    have e:(!jV (l.take (i+1)) m d)=(!jV (l.take i) m d&&decide (V.dot m l[i]=d)):=by
     rw[f];simp only[jV,zUc,List.any_cons,List.any_nil,Bool.or_false,Bool.not_or];congr 1;by_cases h2:V.dot m l[i]=d
     ·simp[h2]
     ·have:V.dot m l[i]<d:=by omega
      simp[h2,this]
    rw[e];cases jV (l.take i) m d<;>simp
   ·rw[f];simp only[qy,z9c,zaa] at b ⊢;exact⟨b,by simp;omega⟩
 ·obtain⟨rfl,b⟩:=c;refine⟨(1,[.bool (!jV (l.take l.length) m d)]),?_,?_⟩
  ·simp only[g0,g1,zma,ah,zba,ac,decide_eq_true_eq,zEc,if_false]
  ·rw[z3a] at *;simp[g0,b,aM]
end Sy
end
noncomputable section
namespace Sy
open Go Go.Proofs Geo
def oR{α:Type}{body:Bd}{s0:List D}{k:Nat×List D->Option α}{Y:α->Prop}(J:Nat->List D->Prop)(n i0:Nat)(e:i0<=n)(h0:J i0 s0)
  (d:∀ i,i<n->∀ s,J i s->∃ z,body s=some z/\match z with|.inl s'=>J (i+1) s'|.inr r=>∃ y,k r=some y/\Y y)
  (he:∀ s,J n s->∃ z,body s=some z/\match z with|.inl _=>False|.inr r=>∃ y,k r=some y/\Y y):∃ y,Option.bind (aL body s0) k=some y/\Y y:=by
 obtain⟨m,hm⟩:∃ m,m=n-i0:=⟨_,rfl⟩
 induction m generalizing i0 s0 with
 | zero=>
  have:i0=n:=by omega
  subst this;obtain⟨z,h1,a⟩:=he s0 h0;cases z with
  | inl s'=>exact a.elim
  | inr r=>obtain⟨y,b,c⟩:=a;exact⟨y,by rw[show aL body s0=some r from ck h1];exact b,c⟩
 | succ m ih=>
  obtain⟨z,h1,a⟩:=d i0 (by omega) s0 h0
  cases z with
  | inl s'=>
   obtain⟨y,b,c⟩:=ih (i0:=i0+1) (by omega) a (by omega)
   exact⟨y,by rw[show aL body s0=aL body s' from cH h1];exact b,c⟩
  | inr r=>obtain⟨y,b,c⟩:=a;exact⟨y,by rw[show aL body s0=some r from ck h1];exact b,c⟩
def aY{α:Type}{body:Bd}{s s':List D}{k:Nat×List D->Option α}{y:α}(h:body s=some (.inl s'))(hk:Option.bind (aL body s') k=some y):Option.bind (aL body s) k=some y:=by
 have:aL body s=aL body s':=cH h;rw[this];exact hk
def dI{α:Type}{body:Bd}{s:List D}{r:Nat×List D}{k:Nat×List D->Option α}{y:α}(h:body s=some (.inr r))(hk:k r=some y):Option.bind (aL body s) k=some y:=by
 have:aL body s=some r:=ck h;rw[this];exact hk
def bC{α:Type}{body:Bd}{s0:List D}{k:Nat×List D->Option α}{y:α}(J:Nat->List D->Prop)(n i0:Nat)(c:i0<=n)(h0:J i0 s0)
  (b:∀ i,i<n->∀ s,J i s->(∃ s',body s=some (.inl s')/\J (i+1) s')\/∃ r,body s=some (.inr r)/\k r=some y) (he:∀ s,J n s->∃ r,body s=some (.inr r)/\k r=some y):Option.bind (aL body s0) k=some y:=by
 obtain⟨m,hm⟩:∃ m,m=n-i0:=⟨_,rfl⟩
 induction m generalizing i0 s0 with
 | zero=>
  have:i0=n:=by omega
  subst this;obtain⟨r,h1,a⟩:=he s0 h0;exact dI h1 a
 | succ m ih=>
  rcases b i0 (by omega) s0 h0 with⟨s',h1,a⟩|⟨r,h1,a⟩
  ·exact aY h1 (ih (i0:=i0+1) (by omega) a (by omega))
  ·exact dI h1 a
def aa{α β:Type}{A:Option α}{g:α->Option β}{z:α}{y:β}(h:A=some z)(hk:g z=some y):Option.bind A g=some y:=by
 rw[h];exact hk
def iC(u v:V):D.beq (ab u) (ab v)=decide (u=v):=by
 simp only[ab,D.beq,D.beqs,decide_true,zQb,Bool.and_true];by_cases h:u=v
 ·subst h;simp
 ·by_cases h1:u.x=v.x<;>by_cases h2:u.y=v.y<;>by_cases h3:u.z=v.z<;>simp[h,h1,h2,h3];exact h (V.ext' h1 h2 h3)
def KG(p q:V×Int):D.beq (cg p) (cg q)=decide (p=q):=by
 have:D.beq (cg p) (cg q)=(D.beq (ab p.1) (ab q.1)&&(D.beq (I p.2) (I q.2)&&true)):=rfl;rw[this,iC,bI];obtain⟨a,b⟩:=p;obtain⟨c,d⟩:=q;by_cases h1:a=c<;>by_cases h2:b=d<;>simp[h1,h2]
def gZ(K:List (V×Int)):List D:=K.map λq=>.st [cg q,.bool true]
theorem vT:∀ (K:List (V×Int)) (q:V×Int),D.mget (gZ K) (cg q)=if q∈K then some (.bool true) else none
 | [],q=>by simp[gZ,D.mget]
 | p::K,q=>by
  have ih:=vT K q;simp only[gZ,zWa,D.mget,KG] at ih ⊢;by_cases h:q=p
  ·simp[h]
  ·rw[ih];simp[h]
theorem vW:∀ (K:List (V×Int)) (q:V×Int),q ∉ K->D.mput (gZ K) (cg q) (.bool true)=gZ (K++[q])
 | [],q,_=>rfl
 | p::K,q,h=>by
  have ih:=vW K q (λhq=>h (zia _ hq));have a:¬ q=p:=λe=>h (by rw[e];exact zra)
  simp only[gZ,zWa,zib,D.mput,KG,a,decide_false,zya,if_false] at ih ⊢;rw[ih]
def DH(K:List (V×Int)):(gZ K).map uQ=K.map cg:=by simp[gZ,uQ]
def supp(l:List V)(q:V×Int):Bool:=qy l q.1 q.2&&jV l q.1 q.2
def iO(l:List V)(K:List (V×Int))(q:V×Int):List (V×Int):=if q∈K then K else if supp l q then K++[q] else K
def tS{l:List V}{K:List (V×Int)}{q x:V×Int}(h:x∈K):x∈iO l K q:=by
 unfold iO;split
 ·exact h
 ·split
  ·exact List.mem_append_left _ h
  ·exact h
def zJ{l:List V}{K:List (V×Int)}{q:V×Int}(h:supp l q=true):q∈iO l K q:=by
 unfold iO;split
 ·assumption
 ·simp
def zI{l:List V}{K:List (V×Int)}{q x:V×Int}(h:x∈iO l K q):x∈K\/(x=q/\supp l q=true):=by
 unfold iO at h;split at h
 ·exact .inl h
 ·split at h
  ·rename_i a;rcases zxa.1 h with h|h
   ·exact .inl h
   ·exact .inr ⟨zJa.1 h,a⟩
  ·exact .inl h
def tR{l:List V}{K:List (V×Int)}{q:V×Int}(h:K.Nodup):(iO l K q).Nodup:=by
 unfold iO;split
 ·exact h
 ·rename_i hq;split
  ·exact List.nodup_append.2 ⟨h,by simp,λx hx y a e=>hq (by rw[zJa.1 a] at e;exact e ▸ hx)⟩
  ·exact h
def pp(a b c:V):V×Int:=(az (V.cross (b.sub a) (c.sub a)),V.dot (az (V.cross (b.sub a) (c.sub a))) a)
def mW(q:V×Int):V×Int:=(q.1.neg,-q.2)
def Cd(l:List V)(i j k:Nat)(q:V×Int):Prop:=(pp (l.getD i V.zero) (l.getD j V.zero) (l.getD k V.zero)).1≠V.zero/\(q=pp (l.getD i V.zero) (l.getD j V.zero) (l.getD k V.zero)\/q=mW (pp (l.getD i V.zero) (l.getD j V.zero) (l.getD k V.zero)))
structure Known(l:List V)(i j k:Nat)(K:List (V×Int)):Prop where
 nd:K.Nodup
 ok:∀ q∈K,supp l q=true/\∃ i j k,k<j/\j<i/\i<l.length/\Cd l i j k q
 all:∀ i' j' k',k'<j'->j'<i'->i'<l.length->(i'<i\/i'=i/\(j'<j\/j'=j/\k'<k))->∀ q,Cd l i' j' k' q->supp l q=true->q∈K
def LC{a b c:V}(d:bd MV a)(h:bd MV b)(hc:bd MV c):bd 549755813888 (pp a b c).1/\inR (pp a b c).2/\inR (-(pp a b c).2):=by
 have h1:bd 524288 (b.sub a):=by have:=jy h d;simpa [MV] using this
 have f:bd 524288 (c.sub a):=by have:=jy hc d;simpa [MV] using this
 have e:=cX (iA h1 f);have g:=Fe e d;simp only[MV] at g;refine⟨e,?_,?_⟩<;>simp only[inR,pp]<;>omega
def Known.step{l:List V}{i j k:Nat}{K:List (V×Int)}(h:Known l i j k K)(hk:k<j)(c:j<i)(b:i<l.length)(d:(pp (l.getD i V.zero) (l.getD j V.zero) (l.getD k V.zero)).1≠V.zero) :
  Known l i j (k+1) (iO l (iO l K (pp (l.getD i V.zero) (l.getD j V.zero) (l.getD k V.zero))) (mW (pp (l.getD i V.zero) (l.getD j V.zero) (l.getD k V.zero)))):=by
 refine⟨tR (tR h.nd),λq hq=>?_,λf g m h1 n o p q hq a=>?_⟩
 ·rcases zI hq with hq|⟨rfl,a⟩
  ·rcases zI hq with hq|⟨rfl,a⟩
   ·exact h.ok q hq
   ·exact⟨a,i,j,k,hk,c,b,d,.inl rfl⟩
  ·exact⟨a,i,j,k,hk,c,b,d,.inr rfl⟩
 ·by_cases e:f=i/\g=j/\m=k
  ·obtain⟨rfl,rfl,rfl⟩:=e;rcases hq.2 with rfl|rfl
   ·exact tS (zJ a)
   ·exact zJ a
  ·exact tS (tS (h.all f g m h1 n o (by omega) q hq a))
def Known.skip{l:List V}{i j k:Nat}{K:List (V×Int)}(h:Known l i j k K)(m:(pp (l.getD i V.zero) (l.getD j V.zero) (l.getD k V.zero)).1=V.zero):Known l i j (k+1) K:=by
 refine⟨h.nd,h.ok,λa b c h1 d f n q hq g=>?_⟩;by_cases e:a=i/\b=j/\c=k
 ·obtain⟨rfl,rfl,rfl⟩:=e;exact absurd m hq.1
 ·exact h.all a b c h1 d f (by omega) q hq g
def Known.next{l:List V}{i j:Nat}{K:List (V×Int)}(h:Known l i j j K):Known l i (j+1) 0 K:=
 ⟨h.nd,h.ok,λc d e h1 a b f=>h.all c d e h1 a b (by omega)⟩
def Known.next2{l:List V}{i:Nat}{K:List (V×Int)}(h:Known l i i 0 K):Known l (i+1) 0 0 K:=
 ⟨h.nd,h.ok,λc d e h1 a b f=>h.all c d e h1 a b (by omega)⟩
theorem nM{α β:Type}{f:α->List β}{c:Nat}:∀ l:List α,(∀ x∈l,(f x).length=c)->(l.flatMap f).length=l.length*c
 | [],_=>by simp
 | x::l,h=>by
  rw[List.flatMap_cons,zja,h x zra,nM l (λy a=>h y (zia _ a)),zIa,Nat.succ_mul];omega
def Known.len{l:List V}{i j k:Nat}{K:List (V×Int)}(h:Known l i j k K)(hl:l.length<=100):K.length<=2000000:=by
 have h1:=z4b (l₂:=(List.range l.length).flatMap λi=>(List.range l.length).flatMap λj=>(List.range l.length).flatMap λk=>[pp (l.getD i V.zero) (l.getD j V.zero) (l.getD k V.zero),mW (pp (l.getD i V.zero) (l.getD j V.zero) (l.getD k V.zero))]) h.nd (λq hq=>by
  obtain⟨_,i,j,k,h1,d,a,b⟩:=h.ok q hq;refine zgb.2 ⟨i,zNa.2 a,zgb.2 ⟨j,zNa.2 (by omega),zgb.2 ⟨k,zNa.2 (by omega),?_⟩⟩⟩
  rcases b.2 with rfl|rfl<;>simp)
 rw[nM (c:=l.length*(l.length*2)) _ (λi _=>by rw[nM (c:=l.length*2) _ (λj _=>by rw[nM (c:=2) _ (λk _=>rfl),zRb]),zRb]),zRb] at h1
 refine zBa h1 ?_;have a1:l.length*2<=200:=by omega
 have a2:l.length*(l.length*2)<=100*200:=z1a hl a1;have a3:l.length*(l.length*(l.length*2))<=100*(100*200):=z1a hl a2;exact a3
def cZ{l:List V}{i:Nat}(h:i<l.length):(l.map ab)[i]?=some (ab (l.getD i V.zero)):=by simp[h,List.getD]
def cD{l:List V}{i:Nat}(h:i<l.length):l.getD i V.zero∈l:=by simp[List.getD,h]
def DY{n:Nat}{l:List V}{K:List (V×Int)}{q:V×Int}(hl:∀ x∈l,bd MV x)(hq:bd 549755813888 q.1)(hlen:l.length<=1000) :
  (if(!decide (q∈K))=true then(Option.bind (cA (n+2) 98 [aT l,cg q]) λr=>D.truth r) else some false)=some (!decide (q∈K)&&supp l q):=by
 obtain⟨m,d⟩:=q;have hc:=ZM n (d:=d) hl hq (by decide) (by omega)
 simp only[hc,zba,ac];cases decide ((m,d)∈K)<;>rfl
end Sy
end
noncomputable section
namespace Sy
open Go Go.Proofs Geo
def Jx{a b:V}(h:aG a b):pF [be a.x b.x,be a.y b.y,be a.z b.z]=-1:=by
 simp only[aG] at h;rcases h with h|⟨h1,h|⟨c,h⟩⟩
 ·simp[pF,be,h]
 ·simp[pF,be,h1,h]
 ·simp[pF,be,h1,c,h]
def Jw{a b:V}(h:aG b a):pF [be a.x b.x,be a.y b.y,be a.z b.z]=1:=by
 simp only[aG] at h;rcases h with h|⟨h1,h|⟨c,h⟩⟩
 ·simp[pF,be,h,z6b.2 (zMa h)]
 ·simp[pF,be,h1,h,z6b.2 (zMa h)]
 ·simp[pF,be,h1,c,h,z6b.2 (zMa h)]
def Jv(a:V):pF [be a.x a.x,be a.y a.y,be a.z a.z]=0:=by simp[pF,be]
theorem C3{α:Type}(key:α->V):∀ (K:List α),K.Pairwise (λa b=>key a≠key b)->∃ L:List α,L.Perm K/\L.Pairwise (λa b=>aG (key a) (key b))
 | [],_=>⟨[],.refl _,.nil⟩
 | x::K,h=>by
  obtain⟨h1,g⟩:=zFa.1 h;obtain⟨L,e,j⟩:=C3 key K g;have d:∀ y∈L,key x≠key y:=λy i=>h1 y (e.subset i);have ins:∀ L:List α,L.Pairwise (λa b=>aG (key a) (key b))->(∀ y∈L,key x≠key y)->∃ M:List α,M.Perm (x::L)/\M.Pairwise (λa b=>aG (key a) (key b)):=by
   intro L
   induction L with
   | nil=>intro _ _;exact⟨[x],.refl _,by simp⟩
   | cons y L ih=>
    intro hp hn;obtain⟨f,l⟩:=zFa.1 hp;rcases qi (hn y zra) with k|k
    ·refine⟨x::y::L,.refl _,zFa.2 ⟨λz c=>?_,hp⟩⟩;rcases zza.1 c with rfl|c
     ·exact k
     ·exact lK k (f z c)
    ·obtain⟨M,m1,m2⟩:=ih l (λz c=>hn z (zia _ c));refine⟨y::M,(m1.cons y).trans (.swap x y L),zFa.2 ⟨λz c=>?_,m2⟩⟩;rcases zza.1 (m1.subset c) with rfl|c
     ·exact k
     ·exact f z c
  obtain⟨M,m1,m2⟩:=ins L j d;exact⟨M,m1.trans (e.cons x),m2⟩
def B6(n:Nat)(p q:V×Int):sQ (cO aL (cA (n+3)) (jg aL (cA (n+3)))) (cc 100) (cg p) (cg q)=some (pF [be p.1.x q.1.x,be p.1.y q.1.y,be p.1.z q.1.z]):=by
 unfold sQ;rw[show ∀ l,(cO aL (cA (n+3)) (jg aL (cA (n+3)))).call (cc 100) l=cA (n+3) 100 l from λl=>congrFun (congrArg (cA (n+3)) (show sN (cc 100)=100 by kernel_rfl)) l,Uq]
 rfl
theorem FA(n:Nat):∀ (L:List (V×Int)),L.Pairwise (λa b=>aG a.1 b.1)->rK (cO aL (cA (n+3)) (jg aL (cA (n+3)))) (cc 100) (L.map cg)=true
 | [],_=>rfl
 | p::L,h=>by
  obtain⟨h1,c⟩:=zFa.1 h;simp only[zWa,rK,zaa,zpa,zab];refine⟨⟨?_,?_⟩,FA n L c⟩
  ·simp only[EG,B6,Jv];decide
  ·rintro _ ⟨q,hq,rfl⟩;simp only[qm,EG,B6,Jx (h1 q hq),Jw (h1 q hq)];decide
def Kl(n:Nat){K L:List (V×Int)}(hp:L.Perm K)(h:L.Pairwise (λa b=>aG a.1 b.1)):js (cO aL (cA (n+3)) (jg aL (cA (n+3)))) (cc 100) (K.map cg)=some (L.map cg):=
 ur (FA n L h) (hp.symm.map _)
def pt(l:List V)(i:Nat):V:=l.getD i V.zero
def mA(a b:V):V.dot a.neg b=- V.dot a b:=by simp only[V.dot,V.neg];grind
def Cd.dist{l:List V}{i j k:Nat}{q:V×Int}(h:Cd l i j k q):q.2=V.dot q.1 (l.getD i V.zero):=by
 rcases h.2 with rfl|rfl
 ·rfl
 ·simp only[mW,mA];rfl
def C4{l:List V}{q:V×Int}(h:supp l q=true){x:V}(hx:x∈l):V.dot q.1 x<=q.2:=by
 simp only[supp,qy,zaa,zpa,decide_eq_true_eq] at h;exact h.1 x hx
def Known.keys{l:List V}{i j k:Nat}{K:List (V×Int)}(h:Known l i j k K):K.Pairwise (λa b=>a.1≠b.1):=by
 refine zSc (λ{a b} g m c e=>c ?_) h.nd;obtain⟨s1,i1,p,r,_,_,h1,c1⟩:=h.ok a g;obtain⟨s2,i2,q,s,_,_,f,c2⟩:=h.ok b m;have d:=c1.dist;have o:=c2.dist;have n:=C4 s1 (cD f);have t:=C4 s2 (cD h1);rw[e] at d n;exact Prod.ext e (by omega)
def ZP(n:Nat){l:List V}(hl:∀ x∈l,bd MV x)(hlen:l.length<=100):∃ y,cA (n+6) 45 [aT l]=some y/\∃ K L:List (V×Int),Known l l.length 0 0 K/\L.Perm K/\L.Pairwise (λa b=>aG a.1 b.1)/\y=.sl (L.map cg):=by
 rw[Z1];unfold MS;simp only[aT,D.asSl,zba];refine oR (λi s=>∃ K,s=[I i,.sl (gZ K)]/\Known l i 0 0 K) l.length 0 (zla _) ⟨[],rfl,⟨List.nodup_nil,by simp,λM N O _ _ _ h=>by omega⟩⟩ (λi e s d=>?_) (λs d=>?_)
 ·obtain⟨K,rfl,c⟩:=d;simp only[g0,g1,zma,ah,zba,ac,decide_eq_true_eq,show((i:Int)<(l.length:Int)) from by omega,if_true,D.els]
  refine oR (λj s=>∃ K,s=[I j,.sl (gZ K)]/\Known l i j 0 K) i 0 (zla _) ⟨K,rfl,c⟩ (λj H s d=>?_) (λs d=>?_)
  ·obtain⟨K,rfl,c⟩:=d;simp only[g0,g1,ah,zba,ac,decide_eq_true_eq,show((j:Int)<(i:Int)) from by omega,if_true,D.els]
   refine oR (λk s=>∃ K,s=[I k,.sl (gZ K)]/\Known l i j k K) j 0 (zla _) ⟨K,rfl,c⟩ (λk hk s d=>?_) (λs d=>?_)
   ·obtain⟨K,rfl,c⟩:=d;have f:=LC (hl _ (cD e)) (hl _ (cD (show j<l.length by omega))) (hl _ (cD (show k<l.length by omega)))
    have hc:=ZL (n+2) (hl _ (cD e)) (hl _ (cD (show j<l.length by omega))) (hl _ (cD (show k<l.length by omega)))
    rw[show(az (V.cross ((l.getD j V.zero).sub (l.getD i V.zero)) ((l.getD k V.zero).sub (l.getD i V.zero))),V.dot (az (V.cross ((l.getD j V.zero).sub (l.getD i V.zero)) ((l.getD k V.zero).sub (l.getD i V.zero)))) (l.getD i V.zero))=pp (l.getD i V.zero) (l.getD j V.zero) (l.getD k V.zero) from rfl] at hc;simp only[g0,g1,ah,zba,ac,decide_eq_true_eq,show((k:Int)<(j:Int)) from by omega,if_true,D.els,zma,am e,am (show j<l.length by omega),am (show k<l.length by omega),cZ e,cZ (show j<l.length by omega),cZ (show k<l.length by omega),hc]
    by_cases hz:(pp (l.getD i V.zero) (l.getD j V.zero) (l.getD k V.zero)).1=V.zero
    ·have u:D.beq (ab (pp (l.getD i V.zero) (l.getD j V.zero) (l.getD k V.zero)).1) (D.st [D.int .i64 0,D.int .i64 0,D.int .i64 0])=true:=by
      rw[s9,iC];exact decide_eq_true hz
     simp only[show D.get (cg (pp (l.getD i V.zero) (l.getD j V.zero) (l.getD k V.zero))) [0]=some (ab (pp (l.getD i V.zero) (l.getD j V.zero) (l.getD k V.zero)).1) from rfl,zba,u,ac,if_true,g0,D.els,aq (ay (i:=k) (by omega))]
     exact⟨_,rfl,K,rfl,c.skip hz⟩
    ·have u:D.beq (ab (pp (l.getD i V.zero) (l.getD j V.zero) (l.getD k V.zero)).1) (D.st [D.int .i64 0,D.int .i64 0,D.int .i64 0])=false:=by
      rw[s9,iC];exact decide_eq_false hz
     have step:=c.step hk H e hz;generalize hq:pp (l.getD i V.zero) (l.getD j V.zero) (l.getD k V.zero)=q at *;obtain⟨g,J,F⟩:=f;have v:D.st [ab q.1.neg,I (-q.2)]=cg (mW q):=rfl;have G:bd 549755813888 (mW q).1:=pI g;simp only[show D.get (cg q) [0]=some (ab q.1) from rfl,show D.get (cg q) [1]=some (I q.2) from rfl,zba,u,ac,zya,if_false,Ol (n+4) g (by decide),mo F,v]
     have one:∀ (K:List (V×Int)) (p:V×Int),bd 549755813888 p.1->(Option.bind (D.un .not (Option.getD (D.mget (gZ K) (cg p)) (D.bool false))) λB=>Option.bind (D.truth B) λm=>Option.bind (if m then(Option.bind (cA (n+5) 98 [D.sl (l.map ab),cg p]) λA=>D.truth A) else(some false)) λo=>
       if o then(some ((0:Nat),[(D.sl [cg q,cg (mW q)]),(D.sl (D.mput (gZ K) (cg p) (D.bool true)))])) else(some (0,[(D.sl [cg q,cg (mW q)]),(D.sl (gZ K))])))=some (0,[D.sl [cg q,cg (mW q)],D.sl (gZ (iO l K p))]):=λK p hp=>by
      rw[vT];have w:=DY (n:=n+3) (K:=K) hl hp (by omega)
      simp only[aT] at w;by_cases hm:p∈K
      ·simp[hm,aM,ac,iO]
      ·simp only[hm,if_false,Option.getD_none,aM,zPb,zba,ac,if_true,decide_false,zQb] at w ⊢;rw[w];simp only[zba,iO,hm,if_false];split
       ·rw[vW K p hm]
       ·rfl
     refine⟨.inl [I ((k+1:Nat):Int),.sl (gZ (iO l (iO l K q) (mW q)))],?_,_,rfl,step⟩;refine aa (z:=(0,[.sl (gZ (iO l (iO l K q) (mW q)))])) ?_ ?_
     ·refine aY (s':=[.sl [cg q,cg (mW q)],I 1,.sl (gZ (iO l K q))]) ?_ (aY (s':=[.sl [cg q,cg (mW q)],I 2,.sl (gZ (iO l (iO l K q) (mW q)))]) ?_ (dI (r:=(0,[.sl (gZ (iO l (iO l K q) (mW q)))])) ?_ rfl))
      ·simp only[g0,g1,g2,D.els,ah,zba,ac,decide_eq_true_eq,show((0:Int)<2) from by decide,if_true,zIa,zmb,show D.idx (I 0) (0+1+1)=some 0 from rfl,zHb,aq KX]
       exact aa (one K q g) rfl
      ·simp only[g0,g1,g2,D.els,ah,zba,ac,decide_eq_true_eq,show((1:Int)<2) from by decide,if_true,zIa,zmb,show D.idx (I 1) (0+1+1)=some 1 from rfl,zdb,zHb,aq rZ]
       exact aa (one (iO l K q) (mW q) G) rfl
      ·simp only[g0,g1,g2,D.els,ah,zba,ac];rfl
     ·simp only[g0,D.els,aq (ay (i:=k) (by omega)),zba]
      rfl
   ·obtain⟨K,rfl,c⟩:=d;simp only[g0,g1,ah,zba,ac,decide_eq_true_eq,zEc,if_false,D.els];refine⟨_,rfl,.inl [I ((j+1:Nat):Int),.sl (gZ K)],?_,K,rfl,c.next⟩
    simp only[g0,D.els,aq (ay (i:=j) (by omega)),zba]
    rfl
  ·obtain⟨K,rfl,c⟩:=d;simp only[g0,g1,ah,zba,ac,decide_eq_true_eq,zEc,if_false,D.els];refine⟨_,rfl,.inl [I ((i+1:Nat):Int),.sl (gZ K)],?_,K,rfl,c.next2⟩;simp only[g0,D.els,aq (ay (i:=i) (by omega)),zba]
   rfl
 ·obtain⟨K,rfl,c⟩:=d;simp only[g0,g1,zma,ah,zba,ac,decide_eq_true_eq,zEc,if_false,D.els];obtain⟨L,C,E⟩:=C3 (λq:V×Int=>q.1) K c.keys;refine⟨_,rfl,.sl (L.map cg),?_,K,L,c,C,E,rfl⟩;have t:(gZ K).length<=1073741824:=by
   have:=c.len hlen;simp only[gZ,zma];omega
  simp only[g0,D.els,t,decide_true,if_true,DH,Kl (n+2) C E,zba]
end Sy
end
noncomputable section
namespace Sy
open Go Go.Proofs Geo
def pn{l:List V}{q:V×Int}:supp l q=true↔Ax (pt l) l.length q.1 q.2:=by
 simp only[supp,qy,jV,zaa,zpa,z8b,decide_eq_true_eq,Ax,pt];constructor
 ·rintro⟨h1,x,hx,a⟩;obtain⟨k,hk,rfl⟩:=zQa hx;exact⟨λk hk=>h1 _ (cD hk),k,hk,by simpa [List.getD,hk] using a⟩
 ·rintro⟨h1,k,hk,a⟩;refine⟨λx hx=>?_,_,cD hk,a⟩;obtain⟨k,hk,rfl⟩:=zQa hx;simpa [List.getD,hk] using h1 k hk
def Kw(P:Nat->V)(i j k:Nat):V.cross ((P j).sub (P i)) ((P k).sub (P i))=(eN P k j i).neg:=by
 apply V.ext'<;>simp only[eN,wy,V.cross,V.sub,V.neg]<;>grind
def yR{P:Nat->V}{i j k:Nat}:V.dot (az (eN P i j k)) (P k)=V.dot (az (eN P i j k)) (P i):=by
 by_cases h:eN P i j k=V.zero
 ·have a:az V.zero=V.zero:=by apply V.ext'<;>simp[az,V.zero]
  rw[h,a];simp[V.dot,V.zero]
 ·have g:=iG h;have e:=iQ (eN P i j k);have t2:V.dot (eN P i j k) (wy P i k)=0:=by simp only[eN,V.dot,V.cross];grind
  rw[e] at t2;have:(bf (eN P i j k):Int)*V.dot (az (eN P i j k)) (wy P i k)=0:=by rw[<-t2];simp only[V.dot,V.smul];grind
  have h0:=bu (by omega) this
  rw[dA] at h0;omega
def Gy{v:V}(h:v≠V.zero):v.neg≠V.zero:=λe=>by
 have a:=congrArg V.x e;have b:=congrArg V.y e;have c:=congrArg V.z e;simp only[V.neg,V.zero] at a b c;exact h (V.ext' (by simp only[V.zero];omega) (by simp only[V.zero];omega) (by simp only[V.zero];omega))
def Ku(l:List V)(i j k:Nat):(pp (pt l i) (pt l j) (pt l k)).1=(az (eN (pt l) k j i)).neg:=by
 simp only[pp,Kw (pt l) i j k,zN]
def zD(v:V):v.neg.neg=v:=by apply V.ext'<;>simp[V.neg]
def EK{l:List V}{i j k:Nat}{q:V×Int}:Cd l i j k q↔eN (pt l) k j i≠V.zero/\(q.1=az (eN (pt l) k j i)\/q.1=(az (eN (pt l) k j i)).neg)/\q.2=V.dot q.1 (pt l k):=by
 have e:=Ku l i j k;have d:V.dot (az (eN (pt l) k j i)) (pt l i)=V.dot (az (eN (pt l) k j i)) (pt l k):=yR;have n:(pp (pt l i) (pt l j) (pt l k)).1≠V.zero↔eN (pt l) k j i≠V.zero:=by
  rw[e];constructor
  ·intro h h0;rw[h0] at h;exact h rfl
  ·intro h;exact Gy (si h)
 constructor
 ·intro h;have f:=h.dist;obtain⟨h1,c⟩:=h;refine⟨n.1 h1,?_⟩;have hq:q.1=az (eN (pt l) k j i)\/q.1=(az (eN (pt l) k j i)).neg:=by
   rcases c with rfl|rfl
   ·exact .inr e
   ·left;show(pp (pt l i) (pt l j) (pt l k)).1.neg=_;rw[e,zD]
  refine⟨hq,?_⟩;rw[f];rcases hq with hq|hq
  ·rw[hq];exact d
  ·rw[hq,mA,mA];exact congrArg Neg.neg d
 ·rintro⟨h1,c,m⟩;refine⟨n.2 h1,?_⟩;have g:(pp (pt l i) (pt l j) (pt l k)).2=V.dot (pp (pt l i) (pt l j) (pt l k)).1 (pt l i):=rfl;obtain⟨a,b⟩:=q;simp only at c m;subst m;rcases c with rfl|rfl
  ·right;show _=((pp (pt l i) (pt l j) (pt l k)).1.neg,-(pp (pt l i) (pt l j) (pt l k)).2);rw[g,e,zD,mA,d,Int.neg_neg]
  ·left;refine Prod.ext e.symm ?_;show _=(pp (pt l i) (pt l j) (pt l k)).2;rw[g,e,mA,mA,d]
def Known.facets{l:List V}{K L:List (V×Int)}(h:Known l l.length 0 0 K)(hp:L.Perm K)(g:L.Pairwise (λa b=>aG a.1 b.1)):Facets (pt l) l.length L:=by
 refine⟨g,λq=>⟨λhq=>?_,λhq=>?_⟩⟩
 ·obtain⟨f,i,j,k,h1,e,c,hc⟩:=h.ok q (hp.subset hq);obtain⟨c1,c2,d⟩:=EK.1 hc;exact⟨⟨k,j,i,h1,e,c,c1,c2,d⟩,pn.1 f⟩
 ·obtain⟨⟨i,j,k,h1,e,c,c1,c2,d⟩,f⟩:=hq;exact hp.symm.subset (h.all k j i h1 e c (.inl c) q (EK.2 ⟨c1,c2,d⟩) (pn.2 f))
end Sy
end
noncomputable section
namespace Sy
open Go Go.Proofs Geo
def jz:Option Nat->D
 | none=>I (-1)
 | some b=>I (b:Int)
def Mr{α:Type}{p:Prop}[Decidable p]{A B:α}(h:p):(if decide p=true then A else B)=A:=by rw[if_pos (decide_eq_true h)]
def Ms{α:Type}{p:Prop}[Decidable p]{A B:α}(h:¬ p):(if decide p=true then A else B)=B:=by rw[if_neg (by simpa using h)]
def aA{α:Type}{p:Prop}[Decidable p]{A B y:α}(h:p)(a:A=y):(if decide p=true then A else B)=y:=by rw[if_pos (decide_eq_true h)];exact a
def aD{α:Type}{p:Prop}[Decidable p]{A B y:α}(h:¬ p)(a:B=y):(if decide p=true then A else B)=y:=by rw[if_neg (by simpa using h)];exact a
def CZ{x:Int}:sg x<0↔x<0:=by unfold sg;split<;>(try split)<;>omega
def eB{x:Int}:sg x=0↔x=0:=by unfold sg;split<;>(try split)<;>omega
def ca(a b:Nat):D.beq (I (a:Int)) (I (b:Int))=decide (a=b):=by
 rw[bI];by_cases h:a=b<;>simp[h];omega
def L2(n:Nat){l:List V}(hl:∀ x∈l,bd MV x){m:V}{d:Int}{a k:Nat}{best:Option Nat}(E:m≠V.zero)(e:a<l.length)(hk:k<l.length)(Z:∀ b,best=some b->b<l.length/\V.dot m (wy (pt l) a b)=0)(B:V.dot m (wy (pt l) a k)=0)(X:D) :
  (Option.bind (D.truth (D.bool (D.beq (I (k:Int)) (I (a:Int))))) λs=>
  if s then(some ((0:Nat),[jz best,X])) else(Option.bind (D.bin .lss (jz best) (D.int .i64 0)) λJ=>
  Option.bind (D.truth J) λt=>
  if t then(some (0,[I (k:Int),X])) else(Option.bind (D.asSl (aT l)) λi=>
  Option.bind (D.idx (I (k:Int)) (List.length i)) λi29=>
  Option.bind (i[i29]?) λK=>
  Option.bind (D.asSl (aT l)) λj=>
  Option.bind (D.idx (I (a:Int)) (List.length j)) λi32=>
  Option.bind (j[i32]?) λL=>
  Option.bind (cA (n+4) 103 [K,L]) λf=>
  Option.bind (D.asSl (aT l)) λo=>
  Option.bind (D.idx (jz best) (List.length o)) λi36=>
  Option.bind (o[i36]?) λM=>
  Option.bind (D.asSl (aT l)) λp=>
  Option.bind (D.idx (I (a:Int)) (List.length p)) λi39=>
  Option.bind (p[i39]?) λN=>
  Option.bind (cA (n+4) 103 [M,N]) λg=>
  Option.bind (D.get (cg (m,d)) [0]) λO=>
  Option.bind (cA (n+4) 104 [O,g,f]) λq=>
  Option.bind (D.bin .lss q (D.int .i64 0)) λP=>
  Option.bind (D.truth P) λu=>
  Option.bind (if u then(some true) else(Option.bind (D.truth (D.bool (D.beq q (D.int .i64 0)))) λv=>
  if v then(Option.bind (cA (n+4) 101 [f,f]) λF=>
  Option.bind (cA (n+4) 101 [g,g]) λG=>
  Option.bind (D.bin .gtr F G) λQ=>
  D.truth Q) else(some false))) λw=>
  Option.bind (D.truth (D.bool w)) λy=>
  if y then(some (0,[I (k:Int),X])) else(some (0,[jz best,X])))))=some (0,[jz (cT m (pt l) a best k),X]):=by
 by_cases hka:k=a
 ·subst hka;have h0:D.beq (I (k:Int)) (I (k:Int))=true:=by rw[ca];simp
  rw[h0,show cT m (pt l) k best k=best from if_pos rfl];exact aa (z:=true) rfl (if_pos rfl)
 ·have h0:D.beq (I (k:Int)) (I (a:Int))=false:=by rw[ca];simp[hka]
  rw[h0];refine aa (z:=false) rfl ?_;rw[if_neg (by decide)]
  have h:∀ b,cT m (pt l) a b k=match b with
   | none=>some k
   | some b=>if pJ m (pt l) a b k then some k else some b:=λb=>if_neg hka
  rw[h];clear h h0;cases best with
  | none=>exact aa (z:=.bool true) rfl (aa (z:=true) rfl rfl)
  | some b=>
   obtain⟨c,A⟩:=Z b rfl;have c1:=Fj (n+2) (hl _ (cD hk)) (hl _ (cD e)) (by decide)
   have c2:=Fj (n+2) (hl _ (cD c)) (hl _ (cD e)) (by decide)
   have w1:bd 524288 (wy (pt l) a k):=nj (hl _ (cD e)) (hl _ (cD hk));have H:bd 524288 (wy (pt l) a b):=nj (hl _ (cD e)) (hl _ (cD c));have W:(l.getD k V.zero).sub (l.getD a V.zero)=wy (pt l) a k:=rfl;have Y:(l.getD b V.zero).sub (l.getD a V.zero)=wy (pt l) a b:=rfl;rw[W] at c1;rw[Y] at c2;have R:=Ur (n+1) (m:=m) H w1 (by decide)
   have S:=Fi (n+3) w1 w1 (by decide)
   have U:=Fi (n+3) H H (by decide)
   have hle:=Ct E (jM A B);rw[hle] at R;have C:¬ ((b:Int)<0):=by omega
   have r:(l.map ab).length=l.length:=zma ..;refine aa (z:=.bool false) (by rw[show jz (some b)=I (b:Int) from rfl,ah,decide_eq_false C]) (aa (z:=false) rfl ?_)
   rw[if_neg (by decide)]
   refine aa (z:=l.map ab) rfl (aa (z:=k) (by rw[r];exact am hk) (aa (cZ hk) ?_))
   refine aa (z:=l.map ab) rfl (aa (z:=a) (by rw[r];exact am e) (aa (cZ e) ?_))
   refine aa c1 ?_;refine aa (z:=l.map ab) rfl (aa (z:=b) (by rw[r];exact am c) (aa (cZ c) ?_))
   refine aa (z:=l.map ab) rfl (aa (z:=a) (by rw[r];exact am e) (aa (cZ e) ?_))
   refine aa c2 (aa (z:=ab m) rfl (aa R (aa ah (aa ac ?_))));simp only[CZ,bI,eB,ac,zba,S,U,cw,pJ,T];by_cases t1:V.dot m (V.cross (wy (pt l) a b) (wy (pt l) a k))<0
   ·simp[t1,jz]
   ·by_cases t2:V.dot m (V.cross (wy (pt l) a b) (wy (pt l) a k))=0
    ·by_cases t3:V.dot (wy (pt l) a b) (wy (pt l) a b)<V.dot (wy (pt l) a k) (wy (pt l) a k)
     ·simp[t2,t3,jz]
     ·simp[t2,t3,jz]
    ·simp[t1,t2,jz]
end Sy
end
end Go.Proofs.YtphlmegkommlnaaGreatDoor
