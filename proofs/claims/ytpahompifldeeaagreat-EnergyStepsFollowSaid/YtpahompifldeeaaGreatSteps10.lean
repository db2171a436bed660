/- Part 10 of the proof that For every yard with at most 6 things -/
import Derived.Test.YtpahompifldeeaaGreatSteps08
set_option linter.unusedVariables false
set_option linter.unusedSimpArgs false
set_option linter.unnecessarySimpa false
set_option linter.defProp false
set_option maxRecDepth 20000
namespace Go.Proofs.YtpahompifldeeaaGreat
noncomputable section
namespace Sy
open Go Go.Proofs
def aN:Lp:=λ{α β} body=>lJ (α:=α) (β:=β) body
def cA(n:Nat):Nat->List D->Option D:=Fe aN n
section
variable(n:Nat)(a0 a1 a2 a3 a4:D)
def VF:cA (n+1) 12 [a0]=M9 aN (cA n) a0:=by kernel_rfl
def ZO:cA (n+1) 13 [a0,a1]=O4 aN (cA n) a0 a1:=by kernel_rfl
def ZP:cA (n+1) 15 [a0]=O5 aN (cA n) a0:=by kernel_rfl
def ZQ:cA (n+1) 18 [a0]=O6 aN (cA n) a0:=by kernel_rfl
def ZR:cA (n+1) 19 [a0]=O7 aN (cA n) a0:=by kernel_rfl
def ZS:cA (n+1) 22 [a0]=O8 aN (cA n) a0:=by kernel_rfl
def ZT:cA (n+1) 23 [a0]=O9 aN (cA n) a0:=by kernel_rfl
def ZU:cA (n+1) 24 [a0]=Pa aN (cA n) a0:=by kernel_rfl
def ZV:cA (n+1) 28 [a0]=Pb aN (cA n) a0:=by kernel_rfl
def ZW:cA (n+1) 29 [a0]=Pc aN (cA n) a0:=by kernel_rfl
def u32:cA (n+1) 32 [a0,a1]=Pd aN (cA n) a0 a1:=by kernel_rfl
def ZX:cA (n+1) 33 [a0,a1]=Pe aN (cA n) a0 a1:=by kernel_rfl
def ZY:cA (n+1) 34 [a0]=Pf aN (cA n) a0:=by kernel_rfl
def ZZ:cA (n+1) 37 [a0,a1]=Pg aN (cA n) a0 a1:=by kernel_rfl
def Z0:cA (n+1) 40 [a0,a1]=Ph aN (cA n) a0 a1:=by kernel_rfl
def Z1:cA (n+1) 45 [a0]=Na aN (cA n) a0:=by kernel_rfl
def Z3:cA (n+1) 46 [a0,a1]=Pi aN (cA n) a0 a1:=by kernel_rfl
def Z4:cA (n+1) 47 [a0]=Pj aN (cA n) a0:=by kernel_rfl
def Z5:cA (n+1) 48 [a0]=Pk aN (cA n) a0:=by kernel_rfl
def Z6:cA (n+1) 52 [a0]=Pm aN (cA n) a0:=by kernel_rfl
def Z7:cA (n+1) 53 [a0,a1]=Pn aN (cA n) a0 a1:=by kernel_rfl
def Z8:cA (n+1) 54 [a0]=Pp aN (cA n) a0:=by kernel_rfl
def Z9:cA (n+1) 57 [a0,a1]=Pq aN (cA n) a0 a1:=by kernel_rfl
def u58:cA (n+1) 58 [a0]=Pr aN (cA n) a0:=by kernel_rfl
def XN:cA (n+1) 59 [a0,a1]=Ns aN (cA n) a0 a1:=by kernel_rfl
def u61:cA (n+1) 61 [a0,a1]=Ps aN (cA n) a0 a1:=by kernel_rfl
def Xm:cA (n+1) 62 [a0,a1]=Nb aN (cA n) a0 a1:=by kernel_rfl
def u68:cA (n+1) 68 [a0]=Pt aN (cA n) a0:=by kernel_rfl
def u69:cA (n+1) 69 [a0,a1,a2]=Pv aN (cA n) a0 a1 a2:=by kernel_rfl
def u70:cA (n+1) 70 [a0]=Pw aN (cA n) a0:=by kernel_rfl
def u72:cA (n+1) 72 [a0,a1]=Px aN (cA n) a0 a1:=by kernel_rfl
def u74:cA (n+1) 74 [a0]=Py aN (cA n) a0:=by kernel_rfl
def u76:cA (n+1) 76 [a0]=Pz aN (cA n) a0:=by kernel_rfl
def u77:cA (n+1) 77 [a0]=PA aN (cA n) a0:=by kernel_rfl
def u78:cA (n+1) 78 [a0,a1]=PB aN (cA n) a0 a1:=by kernel_rfl
def u79:cA (n+1) 79 [a0,a1]=PC aN (cA n) a0 a1:=by kernel_rfl
def u80:cA (n+1) 80 [a0]=PD aN (cA n) a0:=by kernel_rfl
def XO:cA (n+1) 81 [a0,a1]=Nt aN (cA n) a0 a1:=by kernel_rfl
def u82:cA (n+1) 82 [a0,a1]=PE aN (cA n) a0 a1:=by kernel_rfl
def u83:cA (n+1) 83 [a0]=PF aN (cA n) a0:=by kernel_rfl
def XP:cA (n+1) 85 [a0,a1]=Nu aN (cA n) a0 a1:=by kernel_rfl
def u86:cA (n+1) 86 [a0]=PG aN (cA n) a0:=by kernel_rfl
def XQ:cA (n+1) 87 [a0,a1]=Nv aN (cA n) a0 a1:=by kernel_rfl
def u88:cA (n+1) 88 [a0]=PH aN (cA n) a0:=by kernel_rfl
def XR:cA (n+1) 89 [a0,a1]=Nw aN (cA n) a0 a1:=by kernel_rfl
def u91:cA (n+1) 91 [a0,a1]=PI aN (cA n) a0 a1:=by kernel_rfl
def u96:cA (n+1) 96 [a0,a1,a2]=PJ aN (cA n) a0 a1 a2:=by kernel_rfl
def u97:cA (n+1) 97 [a0]=PK aN (cA n) a0:=by kernel_rfl
def u98:cA (n+1) 98 [a0,a1]=PL aN (cA n) a0 a1:=by kernel_rfl
def Vo:cA (n+1) 100 [a0,a1]=Hj aN (cA n) a0 a1:=by kernel_rfl
def Vp:cA (n+1) 101 [a0,a1]=EI aN (cA n) a0 a1:=by kernel_rfl
def Vq:cA (n+1) 103 [a0,a1]=Hk aN (cA n) a0 a1:=by kernel_rfl
def Vr:cA (n+1) 104 [a0,a1,a2]=Hl aN (cA n) a0 a1 a2:=by kernel_rfl
def Vs:cA (n+1) 105 [a0,a1]=Hm aN (cA n) a0 a1:=by kernel_rfl
def Vt:cA (n+1) 106 [a0,a1,a2]=Hn aN (cA n) a0 a1 a2:=by kernel_rfl
def Vu:cA (n+1) 107 [a0,a1]=Ho aN (cA n) a0 a1:=by kernel_rfl
def Vv:cA (n+1) 108 [a0,a1]=Hp aN (cA n) a0 a1:=by kernel_rfl
def Vw:cA (n+1) 109 [a0,a1,a2]=Hq aN (cA n) a0 a1 a2:=by kernel_rfl
def Vx:cA (n+1) 110 [a0,a1]=Hr aN (cA n) a0 a1:=by kernel_rfl
def Vy:cA (n+1) 111 [a0,a1,a2]=Hs aN (cA n) a0 a1 a2:=by kernel_rfl
def Vz:cA (n+1) 112 [a0,a1]=Ht aN (cA n) a0 a1:=by kernel_rfl
def VA:cA (n+1) 115 [a0]=Hu aN (cA n) a0:=by kernel_rfl
def VB:cA (n+1) 116 [a0,a1]=Hv aN (cA n) a0 a1:=by kernel_rfl
def VC:cA (n+1) 117 [a0,a1]=Hw aN (cA n) a0 a1:=by kernel_rfl
def VD:cA (n+1) 118 [a0]=Hx aN (cA n) a0:=by kernel_rfl
def VE:cA (n+1) 119 []=Hy aN (cA n) :=by kernel_rfl
def VG:cA (n+1) 120 [a0,a1]=Hz aN (cA n) a0 a1:=by kernel_rfl
def VH:cA (n+1) 121 [a0,a1]=HA aN (cA n) a0 a1:=by kernel_rfl
def VI:cA (n+1) 122 [a0,a1]=HB aN (cA n) a0 a1:=by kernel_rfl
def VJ:cA (n+1) 123 [a0,a1]=HC aN (cA n) a0 a1:=by kernel_rfl
def OR:cA (n+1) 124 [a0]=EJ aN (cA n) a0:=by kernel_rfl
def VK:cA (n+1) 125 []=HD aN (cA n) :=by kernel_rfl
def VL:cA (n+1) 126 [a0,a1]=HE aN (cA n) a0 a1:=by kernel_rfl
def VM:cA (n+1) 127 [a0]=HF aN (cA n) a0:=by kernel_rfl
def OS:cA (n+1) 128 [a0]=EK aN (cA n) a0:=by kernel_rfl
def VN:cA (n+1) 129 [a0]=HG aN (cA n) a0:=by kernel_rfl
def VO:cA (n+1) 130 []=HH aN (cA n) :=by kernel_rfl
def VP:cA (n+1) 131 [a0,a1]=HI aN (cA n) a0 a1:=by kernel_rfl
def VQ:cA (n+1) 132 [a0,a1]=HJ aN (cA n) a0 a1:=by kernel_rfl
def VR:cA (n+1) 133 []=HK aN (cA n) :=by kernel_rfl
def VS:cA (n+1) 134 [a0,a1]=HL aN (cA n) a0 a1:=by kernel_rfl
def VU:cA (n+1) 135 [a0]=HM aN (cA n) a0:=by kernel_rfl
def OT:cA (n+1) 136 [a0]=EL aN (cA n) a0:=by kernel_rfl
def VV:cA (n+1) 138 [a0]=HN aN (cA n) a0:=by kernel_rfl
def VW:cA (n+1) 139 [a0]=HO aN (cA n) a0:=by kernel_rfl
def VX:cA (n+1) 140 [a0]=HP aN (cA n) a0:=by kernel_rfl
def VY:cA (n+1) 141 [a0,a1]=HR aN (cA n) a0 a1:=by kernel_rfl
def VZ:cA (n+1) 142 [a0]=HS aN (cA n) a0:=by kernel_rfl
def V0:cA (n+1) 143 [a0,a1]=HT aN (cA n) a0 a1:=by kernel_rfl
def V1:cA (n+1) 144 [a0,a1]=HU aN (cA n) a0 a1:=by kernel_rfl
def V2:cA (n+1) 145 [a0]=HV aN (cA n) a0:=by kernel_rfl
def V3:cA (n+1) 146 [a0,a1]=HW aN (cA n) a0 a1:=by kernel_rfl
def V4:cA (n+1) 147 [a0,a1]=HX aN (cA n) a0 a1:=by kernel_rfl
def V5:cA (n+1) 148 [a0]=HY aN (cA n) a0:=by kernel_rfl
def OU:cA (n+1) 152 [a0,a1]=EM aN (cA n) a0 a1:=by kernel_rfl
def V6:cA (n+1) 154 [a0,a1]=HZ aN (cA n) a0 a1:=by kernel_rfl
def V7:cA (n+1) 155 [a0]=H0 aN (cA n) a0:=by kernel_rfl
def V8:cA (n+1) 156 [a0,a1,a2,a3,a4]=H1 aN (cA n) a0 a1 a2 a3 a4:=by kernel_rfl
def V9:cA (n+1) 165 [a0]=H2 aN (cA n) a0:=by kernel_rfl
def Wa:cA (n+1) 167 [a0]=H3 aN (cA n) a0:=by kernel_rfl
def Wb:cA (n+1) 168 [a0,a1]=H4 aN (cA n) a0 a1:=by kernel_rfl
def Wc:cA (n+1) 169 []=H5 aN (cA n) :=by kernel_rfl
def We:cA (n+1) 170 [a0,a1]=H6 aN (cA n) a0 a1:=by kernel_rfl
def Wf:cA (n+1) 171 [a0]=H7 aN (cA n) a0:=by kernel_rfl
def Wg:cA (n+1) 172 [a0,a1]=H8 aN (cA n) a0 a1:=by kernel_rfl
def OV:cA (n+1) 173 [a0,a1]=EN aN (cA n) a0 a1:=by kernel_rfl
def MR:cA (n+1) 174 [a0,a1]=C9 aN (cA n) a0 a1:=by kernel_rfl
def Wh:cA (n+1) 175 [a0,a1]=H9 aN (cA n) a0 a1:=by kernel_rfl
def Wi:cA (n+1) 186 [a0]=Ia aN (cA n) a0:=by kernel_rfl
def Wj:cA (n+1) 187 [a0]=Ib aN (cA n) a0:=by kernel_rfl
def Wl:cA (n+1) 188 [a0,a1]=Ic aN (cA n) a0 a1:=by kernel_rfl
def Wm:cA (n+1) 194 [a0]=Id aN (cA n) a0:=by kernel_rfl
def Wn:cA (n+1) 195 [a0,a1]=Ie aN (cA n) a0 a1:=by kernel_rfl
def Wo:cA (n+1) 196 [a0]=If aN (cA n) a0:=by kernel_rfl
def Wp:cA (n+1) 197 [a0,a1]=Ig aN (cA n) a0 a1:=by kernel_rfl
def Wq:cA (n+1) 201 [a0,a1]=Ih aN (cA n) a0 a1:=by kernel_rfl
def Wr:cA (n+1) 202 [a0]=Da aN (cA n) a0:=by kernel_rfl
def Ws:cA (n+1) 215 [a0]=Ii aN (cA n) a0:=by kernel_rfl
def Wt:cA (n+1) 217 [a0]=Ij aN (cA n) a0:=by kernel_rfl
def Wu:cA (n+1) 308 [a0]=Il aN (cA n) a0:=by kernel_rfl
def Wv:cA (n+1) 309 [a0,a1,a2]=Im aN (cA n) a0 a1 a2:=by kernel_rfl
def Ww:cA (n+1) 313 [a0,a1,a2]=Io aN (cA n) a0 a1 a2:=by kernel_rfl
def Wx:cA (n+1) 315 [a0,a1]=Ip aN (cA n) a0 a1:=by kernel_rfl
def Wy:cA (n+1) 316 [a0,a1]=Iq aN (cA n) a0 a1:=by kernel_rfl
def Wz:cA (n+1) 318 [a0,a1,a2]=Ir aN (cA n) a0 a1 a2:=by kernel_rfl
def WA:cA (n+1) 320 [a0,a1,a2]=Is aN (cA n) a0 a1 a2:=by kernel_rfl
def WB:cA (n+1) 326 [a0]=It aN (cA n) a0:=by kernel_rfl
def WC:cA (n+1) 327 [a0]=Iu aN (cA n) a0:=by kernel_rfl
def WD:cA (n+1) 331 [a0]=Iv aN (cA n) a0:=by kernel_rfl
def WE:cA (n+1) 332 [a0,a1]=Iw aN (cA n) a0 a1:=by kernel_rfl
def OX:cA (n+1) 333 [a0,a1]=EO aN (cA n) a0 a1:=by kernel_rfl
def WF:cA (n+1) 334 [a0]=Ix aN (cA n) a0:=by kernel_rfl
def WG:cA (n+1) 336 [a0,a1]=Iy aN (cA n) a0 a1:=by kernel_rfl
def WH:cA (n+1) 338 [a0]=Iz aN (cA n) a0:=by kernel_rfl
def WI:cA (n+1) 341 [a0,a1]=IA aN (cA n) a0 a1:=by kernel_rfl
def WJ:cA (n+1) 342 [a0]=IB aN (cA n) a0:=by kernel_rfl
def WK:cA (n+1) 346 [a0]=IC aN (cA n) a0:=by kernel_rfl
def WL:cA (n+1) 347 [a0]=ID aN (cA n) a0:=by kernel_rfl
def WM:cA (n+1) 348 [a0]=IE aN (cA n) a0:=by kernel_rfl
def WN:cA (n+1) 349 [a0]=IF aN (cA n) a0:=by kernel_rfl
def WO:cA (n+1) 350 [a0,a1]=IG aN (cA n) a0 a1:=by kernel_rfl
def WP:cA (n+1) 351 [a0,a1]=IH aN (cA n) a0 a1:=by kernel_rfl
def WQ:cA (n+1) 352 [a0,a1]=II aN (cA n) a0 a1:=by kernel_rfl
def WR:cA (n+1) 353 [a0]=IJ aN (cA n) a0:=by kernel_rfl
def OY:cA (n+1) 357 [a0]=EP aN (cA n) a0:=by kernel_rfl
def WS:cA (n+1) 358 [a0,a1]=IK aN (cA n) a0 a1:=by kernel_rfl
def WT:cA (n+1) 359 [a0,a1]=IL aN (cA n) a0 a1:=by kernel_rfl
def WU:cA (n+1) 361 [a0]=IM aN (cA n) a0:=by kernel_rfl
def WW:cA (n+1) 362 [a0]=IN aN (cA n) a0:=by kernel_rfl
def WX:cA (n+1) 363 [a0,a1]=IP aN (cA n) a0 a1:=by kernel_rfl
def WY:cA (n+1) 364 [a0,a1]=IQ aN (cA n) a0 a1:=by kernel_rfl
def WZ:cA (n+1) 365 [a0]=IR aN (cA n) a0:=by kernel_rfl
def W0:cA (n+1) 366 [a0]=IS aN (cA n) a0:=by kernel_rfl
def W2:cA (n+1) 367 [a0,a1,a2]=IT aN (cA n) a0 a1 a2:=by kernel_rfl
def W3:cA (n+1) 371 [a0,a1]=IU aN (cA n) a0 a1:=by kernel_rfl
def W4:cA (n+1) 372 [a0,a1]=IV aN (cA n) a0 a1:=by kernel_rfl
def W5:cA (n+1) 375 [a0]=IW aN (cA n) a0:=by kernel_rfl
def W6:cA (n+1) 376 [a0,a1,a2]=IX aN (cA n) a0 a1 a2:=by kernel_rfl
def W7:cA (n+1) 377 [a0]=IY aN (cA n) a0:=by kernel_rfl
def W8:cA (n+1) 378 [a0]=IZ aN (cA n) a0:=by kernel_rfl
def W9:cA (n+1) 379 [a0,a1]=I0 aN (cA n) a0 a1:=by kernel_rfl
def Xa:cA (n+1) 381 [a0]=I1 aN (cA n) a0:=by kernel_rfl
def Xb:cA (n+1) 382 [a0]=I2 aN (cA n) a0:=by kernel_rfl
def Xc:cA (n+1) 385 [a0]=I3 aN (cA n) a0:=by kernel_rfl
def Xd:cA (n+1) 386 [a0,a1]=I4 aN (cA n) a0 a1:=by kernel_rfl
def Xe:cA (n+1) 389 [a0,a1]=I5 aN (cA n) a0 a1:=by kernel_rfl
def Xf:cA (n+1) 390 [a0,a1]=I6 aN (cA n) a0 a1:=by kernel_rfl
def Xg:cA (n+1) 392 [a0,a1]=I7 aN (cA n) a0 a1:=by kernel_rfl
def Xh:cA (n+1) 393 [a0]=I8 aN (cA n) a0:=by kernel_rfl
def MS:cA (n+1) 394 [a0]=Db aN (cA n) a0:=by kernel_rfl
def Xi:cA (n+1) 395 [a0,a1,a2,a3]=I9 aN (cA n) a0 a1 a2 a3:=by kernel_rfl
def Xj:cA (n+1) 396 [a0,a1]=Ja aN (cA n) a0 a1:=by kernel_rfl
def Xk:cA (n+1) 402 [a0,a1,a2,a3]=Jb aN (cA n) a0 a1 a2 a3:=by kernel_rfl
def Xl:cA (n+1) 407 [a0,a1,a2,a3]=Jc aN (cA n) a0 a1 a2 a3:=by kernel_rfl
end
end Sy
end
noncomputable section
namespace Geo
structure V where
 x:Int
 y:Int
 z:Int
deriving DecidableEq
namespace V
def sub(a b:V):V:=⟨a.x-b.x,a.y-b.y,a.z-b.z⟩
def neg(a:V):V:=⟨-a.x,-a.y,-a.z⟩
def add(a b:V):V:=⟨a.x+b.x,a.y+b.y,a.z+b.z⟩
def smul(k:Int)(a:V):V:=⟨k*a.x,k*a.y,k*a.z⟩
def dot(a b:V):Int:=a.x*b.x+a.y*b.y+a.z*b.z
def cross(a b:V):V:=⟨a.y*b.z-a.z*b.y,a.z*b.x-a.x*b.z,a.x*b.y-a.y*b.x⟩
def zero:V:=⟨0,0,0⟩
def ext'{a b:V}(h1:a.x=b.x)(h2:a.y=b.y)(h3:a.z=b.z):a=b:=by cases a;cases b;simp_all
end V
open V
def Bw{a:Int}(h:a≠0):0<a*a:=by
 rcases Int.lt_or_lt_of_ne h with h|h
 ·exact zoc h h
 ·exact zMb h h
def lW(a:Int):0<=a*a:=by
 rcases zVb a 0 with h|h|h
 ·exact zRa (zoc h h)
 ·subst h;decide
 ·exact zRa (zMb h h)
def qE(a:V):0<=dot a a:=by
 have:=lW a.x;have:=lW a.y;have:=lW a.z;simp only[dot];omega
def uG{a:V}(h:dot a a=0):a=zero:=by
 have h1:=lW a.x;have h2:=lW a.y;have h3:=lW a.z;simp only[dot] at h;have e1:a.x*a.x=0:=by omega
 have e2:a.y*a.y=0:=by omega
 have e3:a.z*a.z=0:=by omega
 apply V.ext'<;>simp only[zero]<;>(first|(rcases zJc.1 e1 with h|h<;>exact h)|(rcases zJc.1 e2 with h|h<;>exact h)|(rcases zJc.1 e3 with h|h<;>exact h))
def bv{a:V}(h:a≠zero):0<dot a a:=by
 have:=qE a;rcases zsb this with h1|h1
 ·exact h1
 ·exact absurd (uG h1.symm) h
def T(n u v:V):Int:=dot n (cross u v)
def nH{a b:Int}(ha:0<a)(h:0<a*b):0<b:=by
 rcases zVb b 0 with hb|hb|hb
 ·have:=zQb ha hb;omega
 ·subst hb;simp at h
 ·exact hb
def qc{a b:Int}(ha:0<a)(h:0<=a*b):0<=b:=by
 rcases zmc b 0 with hb|hb
 ·have:=zQb ha hb;omega
 ·exact hb
def bx{a b:Int}(ha:0<a)(h:a*b=0):b=0:=by
 rcases zJc.1 h with h|h
 ·omega
 ·exact h
section plane
variable{n:V}(hn:n≠zero)
include hn
def CN(f:V){u v w:V}(hu:dot n u=0)(hv:dot n v=0)(hw:dot n w=0) :
  dot f u*T n v w+dot f v*T n w u+dot f w*T n u v=0:=by
 have h:dot n n*(dot f u*T n v w+dot f v*T n w u+dot f w*T n u v)=0:=by
  simp only[T,dot,cross] at *;grind
 exact bx (bv hn) h
def BP{f u v w:V}(hu:dot n u=0)(hv:dot n v=0)(hw:dot n w=0)(fu:0<dot f u)(fv:0<dot f v)(fw:0<dot f w)
  (h1:0<=T n u v) (h2:0<=T n v w):0<=T n u w/\(0<T n u v\/0<T n v w->0<T n u w):=by
 have p:=CN hn f hu hv hw;have e:T n w u=- T n u w:=by simp only[T,dot,cross];grind
 rw[e] at p;have q:dot f v*T n u w=dot f u*T n v w+dot f w*T n u v:=by
  have:dot f v*-T n u w=-(dot f v*T n u w):=Int.mul_neg _ _;omega
 have q1:=zZb (zRa fu) h2;have q2:=zZb (zRa fw) h1;refine⟨qc fv (by omega),λh=>nH fv ?_⟩
 rcases h with h|h
 ·have:=zMb fw h;omega
 ·have:=zMb fu h;omega
def dZ{u v:V}(hu:dot n u=0)(hv:dot n v=0)(h:T n u v=0):cross u v=zero:=by
 have hp:=bv hn;have e1:dot n n*(cross u v).x=T n u v*n.x:=by simp only[T,dot,cross] at *;grind
 have e2:dot n n*(cross u v).y=T n u v*n.y:=by simp only[T,dot,cross] at *;grind
 have e3:dot n n*(cross u v).z=T n u v*n.z:=by simp only[T,dot,cross] at *;grind
 rw[h,Int.zero_mul] at e1 e2 e3;exact V.ext' (bx hp e1) (bx hp e2) (bx hp e3)
end plane
def Hg{u v:V}(h:cross u v=zero)(f:V):smul (dot f u) v=smul (dot f v) u:=by
 have h1:(cross u v).x=0:=by rw[h];rfl
 have h2:(cross u v).y=0:=by rw[h];rfl
 have h3:(cross u v).z=0:=by rw[h];rfl
 simp only[cross] at h1 h2 h3;apply V.ext'<;>simp only[smul,dot]<;>grind
def Gh{u v:V}(h:cross u v=zero)(hu:u≠zero)(hd:dot v u=dot u u):v=u:=by
 have p:=Hg h u;have e:dot u v=dot v u:=by simp only[dot];grind
 have hp:=bv hu;rw[e,hd] at p;have p1:dot u u*(v.x-u.x)=0:=by have:=congrArg V.x p;simp only[smul] at this;grind
 have p2:dot u u*(v.y-u.y)=0:=by have:=congrArg V.y p;simp only[smul] at this;grind
 have p3:dot u u*(v.z-u.z)=0:=by have:=congrArg V.z p;simp only[smul] at this;grind
 have:=bx hp p1;have:=bx hp p2;have:=bx hp p3;exact V.ext' (by omega) (by omega) (by omega)
theorem iE{α:Type}(φ:α->Int):∀ l:List α,∃ N:Int,0<N/\∀ x∈l,-N<φ x/\φ x<N
 | []=>⟨1,by decide,by simp⟩
 | a::l=>by
  obtain⟨N,h0,h⟩:=iE φ l;refine⟨N+(φ a).natAbs+1,by omega,λx hx=>?_⟩
  rcases zEa.1 hx with rfl|hx
  ·omega
  ·have:=h x hx;omega
def wy(P:Nat->V)(a x:Nat):V:=sub (P x) (P a)
structure Side(n:V)(P:Nat->V)(on:List Nat)(a b:Nat):Prop where
 mem:b∈on
 ne:b≠a
 all:∀ x∈on,0<=T n (wy P a b) (wy P a x)/\(T n (wy P a b) (wy P a x)=0->0<=dot (wy P a x) (wy P a b)/\dot (wy P a x) (wy P a b)<=dot (wy P a b) (wy P a b))
def ld(P:Nat->V)(on:List Nat)(a:Nat):Prop:=∃ f:V,∀ x∈on,x≠a->0<dot f (wy P a x)
structure Flat(n:V)(P:Nat->V)(on:List Nat):Prop where
 nz:n≠zero
 pl:∀ x∈on,∀ y∈on,dot n (wy P x y)=0
 inj:∀ x∈on,∀ y∈on,P x=P y->x=y
section poly
variable{n:V}{P:Nat->V}{on:List Nat}
def rC(h:Flat n P on){a b:Nat}(ha:a∈on)(hb:b∈on)(hab:b≠a):wy P a b≠zero:=λe=>by
 apply hab;apply h.inj b hb a ha;have e1:=congrArg V.x e;have e2:=congrArg V.y e;have e3:=congrArg V.z e;simp only[wy,sub,zero] at e1 e2 e3;exact V.ext' (by omega) (by omega) (by omega)
def G9{a b c:Nat}(h:wy P a b=wy P a c):P b=P c:=by
 have e1:=congrArg V.x h;have e2:=congrArg V.y h;have e3:=congrArg V.z h;simp only[wy,sub] at e1 e2 e3;exact V.ext' (by omega) (by omega) (by omega)
def Side.unique(h:Flat n P on){a b c:Nat}(ha:a∈on)(hb:Side n P on a b)(hc:Side n P on a c):b=c:=by
 have h1:=hb.all c hc.mem;have h2:=hc.all b hb.mem;have e:T n (wy P a c) (wy P a b)=- T n (wy P a b) (wy P a c):=by simp only[T,dot,cross];grind
 rw[e] at h2;have t0:T n (wy P a b) (wy P a c)=0:=by omega
 have k1:=h1.2 t0;have k2:=h2.2 (by omega)
 have es:dot (wy P a b) (wy P a c)=dot (wy P a c) (wy P a b):=by simp only[dot];grind
 have hx:=dZ h.nz (h.pl a ha b hb.mem) (h.pl a ha c hc.mem) t0;have hq:dot (wy P a b) (wy P a b)*dot (wy P a c) (wy P a c)=dot (wy P a c) (wy P a b)*dot (wy P a c) (wy P a b):=by
  have p:=Hg hx (wy P a b);have p1:=congrArg V.x p;have p2:=congrArg V.y p;have p3:=congrArg V.z p;simp only[smul] at p1 p2 p3;simp only[dot] at *;grind
 have hbp:=bv (rC h ha hb.mem hb.ne);have hcp:=bv (rC h ha hc.mem hc.ne);have hle:dot (wy P a c) (wy P a b)=dot (wy P a b) (wy P a b):=by
  generalize dot (wy P a b) (wy P a b)=B at *;generalize dot (wy P a c) (wy P a c)=C at *;generalize dot (wy P a c) (wy P a b)=X at *;rw[es] at k2;rcases zsb k1.2 with hlt|heq
  ·exfalso;have:X*X<B*C:=by
    have a1:X*X<=X*C:=zCb k2.2 k1.1;have a2:X*C<B*C:=Int.mul_lt_mul_of_pos_right hlt hcp;omega
   omega
  ·exact heq
 have:=Gh hx (rC h ha hb.mem hb.ne) hle;exact(h.inj c hc.mem b hb.mem (G9 this)).symm
def Side.ext(h:Flat n P on){a b:Nat}(ha:a∈on)(hb:Side n P on a b):ld P on b:=by
 obtain⟨N,hN0,hN⟩:=iE (λx=>dot (wy P b a) (wy P b x)) on;refine⟨add (smul N (cross n (wy P a b))) (wy P b a),λx hx hxb=>?_⟩;have e:dot (add (smul N (cross n (wy P a b))) (wy P b a)) (wy P b x)=N*T n (wy P a b) (wy P a x)+dot (wy P b a) (wy P b x):=by
  simp only[T,dot,cross,add,smul,wy,sub];grind
 rw[e];obtain⟨h1,h2⟩:=hb.all x hx;have h3:=hN x hx;rcases zsb h1 with hlt|heq
 ·have:N*1<=N*T n (wy P a b) (wy P a x):=zCb (by omega) (by omega)
  omega
 ·rw[<-heq,zYc,ztc];have h4:=h2 heq.symm;have e2:dot (wy P b a) (wy P b x)=dot (wy P a b) (wy P a b)-dot (wy P a x) (wy P a b):=by simp only[dot,wy,sub];grind
  rw[e2];rcases zsb h4.2 with h5|h5
  ·omega
  ·exfalso;have hx0:=dZ h.nz (h.pl a ha b hb.mem) (h.pl a ha x hx) heq.symm;exact hxb (h.inj x hx b hb.mem (G9 (Gh hx0 (rC h ha hb.mem hb.ne) h5)))
def ld.ray(h:Flat n P on){a x y:Nat}(ha:a∈on)(hx:x∈on)(hy:y∈on)(ea:ld P on a)(ex:ld P on x)(ey:ld P on y)(hxa:x≠a)(hya:y≠a)(ht:T n (wy P a x) (wy P a y)=0):x=y:=by
 by_cases hxy:x=y
 ·exact hxy
 exfalso;obtain⟨f,hf⟩:=ea;obtain⟨g,hg⟩:=ex;obtain⟨k,hk⟩:=ey;have c:=dZ h.nz (h.pl a ha x hx) (h.pl a ha y hy) ht;have p:=Hg c f;have fx:=hf x hx hxa;have fy:=hf y hy hya;have g1:=hg a ha (Ne.symm hxa);have g2:=hg y hy (Ne.symm hxy);have k1:=hk a ha (Ne.symm hya);have k2:=hk x hx hxy;have q1:dot f (wy P a x)*dot g (wy P a y)=dot f (wy P a y)*dot g (wy P a x):=by
  have p1:=congrArg V.x p;have p2:=congrArg V.y p;have p3:=congrArg V.z p;simp only[smul] at p1 p2 p3;generalize dot f (wy P a x)=A at *;generalize dot f (wy P a y)=B at *;simp only[dot];grind
 have q2:dot f (wy P a x)*dot k (wy P a y)=dot f (wy P a y)*dot k (wy P a x):=by
  have p1:=congrArg V.x p;have p2:=congrArg V.y p;have p3:=congrArg V.z p;simp only[smul] at p1 p2 p3;generalize dot f (wy P a x)=A at *;generalize dot f (wy P a y)=B at *;simp only[dot];grind
 have eg1:dot g (wy P x a)=- dot g (wy P a x):=by simp only[dot,wy,sub];grind
 have eg2:dot g (wy P x y)=dot g (wy P a y)-dot g (wy P a x):=by simp only[dot,wy,sub];grind
 have ek1:dot k (wy P y a)=- dot k (wy P a y):=by simp only[dot,wy,sub];grind
 have ek2:dot k (wy P y x)=dot k (wy P a x)-dot k (wy P a y):=by simp only[dot,wy,sub];grind
 rw[eg1] at g1;rw[eg2] at g2;rw[ek1] at k1;rw[ek2] at k2;generalize dot f (wy P a x)=A at *;generalize dot f (wy P a y)=B at *;generalize dot g (wy P a x)=gx at *;generalize dot g (wy P a y)=gy at *;generalize dot k (wy P a x)=kx at *;generalize dot k (wy P a y)=ky at *;have r1:B<A:=by
  rcases zmc B A with hh|hh
  ·exact hh
  ·exfalso;have s1:B*gx<=A*gx:=by
    have:=z9c hh (show 0<=-gx by omega)
    simp only[Int.mul_neg] at this;omega
   have s2:A*gx<A*gy:=zNc (by omega) fx
   omega
 have s3:A*ky<B*ky:=by
  have s4:B*ky<B*kx:=zNc (by omega) fy
  have s5:A*ky=B*kx:=q2;have s6:A*ky<=B*ky:=by
   have:=z9c (zRa r1) (show 0<=-ky by omega)
   simp only[Int.mul_neg] at this;omega
  omega
 have s4:B*ky<B*kx:=zNc (by omega) fy
 omega
def OP(a x y:Nat):T n (wy P x y) (wy P x a)=T n (wy P a x) (wy P a y):=by
 simp only[T,dot,cross,wy,sub];grind
def Lt(u v:V):T n v u=- T n u v:=by simp only[T,dot,cross];grind
def Side.after(h:Flat n P on){a x y:Nat}(ha:a∈on)(hx:x∈on)(ea:ld P on a)(ex:ld P on x)(hxa:x≠a)(hs:Side n P on x y)(hya:y≠a):0<T n (wy P a x) (wy P a y):=by
 have h1:=(hs.all a ha).1;rw[OP] at h1;rcases zsb h1 with h2|h2
 ·exact h2
 ·exact absurd (ld.ray h ha hx hs.mem ea ex (hs.ext h hx) hxa hya h2.symm) hs.ne.symm
def Jr(h:Flat n P on){a x y z:Nat}(ha:a∈on)(hx:x∈on)(hz:z∈on)(hs:Side n P on x y)(ez:ld P on z)(h1:0<T n (wy P a x) (wy P a z))(h2:0<T n (wy P a z) (wy P a y)):False:=by
 obtain⟨f,hf⟩:=ez;have hza:a≠z:=λe=>by subst e;simp[T,dot,cross,wy,sub] at h2
 have hzx:x≠z:=λe=>by
  subst e;have:T n (wy P a x) (wy P a x)=0:=by simp only[T,dot,cross];grind
  omega
 have hzy:y≠z:=λe=>by
  subst e;have:T n (wy P a y) (wy P a y)=0:=by simp only[T,dot,cross];grind
  omega
 have f1:=hf a ha hza;have f2:=hf x hx hzx;have f3:=hf y hs.mem hzy;have h3:=(hs.all z hz).1;have e:dot n n*(T n (wy P x y) (wy P x z)*dot f (wy P z a)+T n (wy P a z) (wy P a y)*dot f (wy P z x)+T n (wy P a x) (wy P a z)*dot f (wy P z y))=0:=by
  have p1:=h.pl z hz a ha;have p2:=h.pl z hz x hx;have p3:=h.pl z hz y hs.mem;have e1:T n (wy P x y) (wy P x z)=T n (wy P z x) (wy P z y):=OP z x y;have e2:T n (wy P a z) (wy P a y)=T n (wy P z y) (wy P z a):=by simp only[T,dot,cross,wy,sub];grind
  have e3:T n (wy P a x) (wy P a z)=T n (wy P z a) (wy P z x):=by simp only[T,dot,cross,wy,sub];grind
  rw[e1,e2,e3];have pk:=CN h.nz f p1 p2 p3;rw[zKc (dot f (wy P z a)),zKc (dot f (wy P z x)),zKc (dot f (wy P z y))] at pk;rw[show T n (wy P z x) (wy P z y)*dot f (wy P z a)+T n (wy P z y) (wy P z a)*dot f (wy P z x)+T n (wy P z a) (wy P z x)*dot f (wy P z y)=0 from pk,zYc]
 have e':=bx (bv h.nz) e;have m1:=zZb h3 (zRa f1);have m2:=zMb h2 f2;have m3:=zMb h1 f3;omega
theorem u6{α:Type}{p q:α->Bool}:∀ {l:List α},(∀ x∈l,p x=true->q x=true)->(∃ y∈l,q y=true/\p y=false)->l.countP p<l.countP q
 | [],_,h=>by obtain⟨y,hy,_⟩:=h;cases hy
 | a::l,h,hy=>by
  have hl:l.countP p<=l.countP q:=by
   have h':∀ x∈l,p x=true->q x=true:=λx hx=>h x (zia _ hx);exact List.countP_mono_left h'
  have ha:=h a zma;rw[List.countP_cons,List.countP_cons];obtain⟨y,hm,hq,hp⟩:=hy;rcases zEa.1 hm with rfl|hm
  ·simp[hq,hp];omega
  ·have:=u6 (l:=l) (λx hx=>h x (zia _ hx)) ⟨y,hm,hq,hp⟩;cases hpa:p a
   ·simp;omega
   ·simp[ha hpa];omega
inductive Chain(S:Nat->Nat->Prop)(a₀:Nat):Nat->List Nat->Prop
 | done {c:Nat}:S c a₀->Chain S a₀ c [c]
 | step {c y:Nat} {l:List Nat}:S c y->y≠a₀->Chain S a₀ y l->Chain S a₀ c (c::l)
def walk(h:Flat n P on){a:Nat}(ha:a∈on)(ea:ld P on a)(hnext:∀ c∈on,ld P on c->∃ b,Side n P on c b){c:Nat}(hc:c∈on)(ec:ld P on c)(hca:c≠a) :
  ∃ l,Chain (Side n P on) a c l/\(∀ z∈l,z∈on/\ld P on z/\z≠a/\(z=c\/0<T n (wy P a c) (wy P a z)))/\(∀ z∈on,ld P on z->z≠a->0<T n (wy P a c) (wy P a z)->z∈l) ∧
   l.Pairwise (λx y=>0<T n (wy P a x) (wy P a y)):=by
 generalize hm:on.countP (λz=>decide (0<T n (wy P a c) (wy P a z)))=m
 induction m using Nat.strongRecOn generalizing c with
 | _ m ih=>
  obtain⟨y,hy⟩:=hnext c hc ec;obtain⟨f,hf⟩:=ea;by_cases hya:y=a
  ·subst hya;refine⟨[c],.done hy,λz hz=>?_,λz hz ez hza ht=>?_,by simp⟩
   ·rw[zAa] at hz;subst hz;exact⟨hc,ec,hca,.inl rfl⟩
   ·have h1:=(hy.all z hz).1;have e:T n (wy P c y) (wy P c z)=- T n (wy P y c) (wy P y z):=by simp only[T,dot,cross,wy,sub];grind
    omega
  ·have hxy:=Side.after h ha hc ⟨f,hf⟩ ec hca hy hya;have ey:=hy.ext h hc;have tr:∀ z∈on,0<T n (wy P a y) (wy P a z)->0<T n (wy P a c) (wy P a z):=λz hz ht=>by
    have hza:z≠a:=λe=>by
     subst e;have:T n (wy P z y) (wy P z z)=0:=by simp[T,dot,cross,wy,sub]
     omega
    exact(BP h.nz (h.pl a ha c hc) (h.pl a ha y hy.mem) (h.pl a ha z hz) (hf c hc hca) (hf y hy.mem hya) (hf z hz hza) (zRa hxy) (zRa ht)).2 (.inl hxy)
   have self0:T n (wy P a y) (wy P a y)=0:=by simp only[T,dot,cross];grind
   obtain⟨l,k1,k2,k3,k4⟩:=ih _ (by
    rw[<-hm];refine u6 (λz hz ht=>by simp only[decide_eq_true_eq] at ht ⊢;exact tr z hz ht) ⟨y,hy.mem,by simpa using hxy,by simp[self0]⟩) hy.mem ey hya rfl
   refine⟨c::l,.step hy hya k1,λz hz=>?_,λz hz ez hza ht=>?_,zQa.2 ⟨λz hz=>?_,k4⟩⟩
   ·rcases zEa.1 hz with rfl|hz
    ·exact⟨hc,ec,hca,.inl rfl⟩
    ·obtain⟨q1,q2,q3,q4⟩:=k2 z hz;refine⟨q1,q2,q3,.inr ?_⟩;rcases q4 with rfl|q4
     ·exact hxy
     ·exact tr z q1 q4
   ·rcases zVb (T n (wy P a y) (wy P a z)) 0 with hlt|heq|hgt
    ·have e:=Lt (n:=n) (wy P a y) (wy P a z);exact(Jr h ha hc hz hy ez ht (by omega)).elim
    ·have:=ld.ray h ha hy.mem hz ⟨f,hf⟩ ey ez hya hza heq;subst this;have:y∈l:=by cases k1<;>exact zma
     exact zia _ this
    ·exact zia _ (k3 z hz ez hza hgt)
   ·obtain⟨q1,q2,q3,q4⟩:=k2 z hz;rcases q4 with rfl|q4
    ·exact hxy
    ·exact tr z q1 q4
def pu(n:V)(P:Nat->V)(a b k:Nat):Bool:=
 decide (T n (wy P a b) (wy P a k)<0)||(decide (T n (wy P a b) (wy P a k)=0)&&decide (dot (wy P a b) (wy P a b)<dot (wy P a k) (wy P a k)))
def cQ(n:V)(P:Nat->V)(a:Nat)(best:Option Nat)(k:Nat):Option Nat:=
 if k=a then best else match best with
  | none=>some k
  | some b=>if pu n P a b k then some k else some b
theorem rd(h:Flat n P on){a:Nat}(ha:a∈on)(ea:ld P on a):∀ (l pre:List Nat) (best:Option Nat),(∀ x∈pre,x∈on)->(∀ x∈l,x∈on) ->
  (match best with
   | none=>∀ x∈pre,x=a
   | some b=>b∈pre/\b≠a/\∀ x∈pre,x≠a->0<T n (wy P a b) (wy P a x)\/(T n (wy P a b) (wy P a x)=0/\dot (wy P a x) (wy P a x)<=dot (wy P a b) (wy P a b))) ->
  match l.foldl (cQ n P a) best with
   | none=>∀ x∈pre++l,x=a
   | some b=>b∈pre++l/\b≠a/\∀ x∈pre++l,x≠a->0<T n (wy P a b) (wy P a x)\/(T n (wy P a b) (wy P a x)=0/\dot (wy P a x) (wy P a x)<=dot (wy P a b) (wy P a b))
 | [],pre,best,_,_,hb=>by simpa using hb
 | k::l,pre,best,h1,h2,hb=>by
  rw[zhc];have hk:k∈on:=h2 k zma;rw[show pre++k::l=(pre++[k])++l by simp]
  refine rd h ha ea l (pre++[k]) _ (λx hx=>?_) (λx hx=>h2 x (zia _ hx)) ?_
  ·rcases zwa.1 hx with hx|hx
   ·exact h1 x hx
   ·rw[zAa] at hx;exact hx ▸ hk
  unfold cQ;by_cases hka:k=a
  ·rw[if_pos hka];subst hka;cases best with
   | none=>
    simp only at hb ⊢;intro x hx;rcases zwa.1 hx with hx|hx
    ·exact hb x hx
    ·exact zAa.1 hx
   | some b=>
    simp only at hb ⊢;refine⟨zob _ hb.1,hb.2.1,λx hx hxa=>?_⟩;rcases zwa.1 hx with hx|hx
    ·exact hb.2.2 x hx hxa
    ·exact absurd (zAa.1 hx) hxa
  ·rw[if_neg hka];cases best with
   | none=>
    simp only at hb ⊢;refine⟨zjb _ (zAa.2 rfl),hka,λx hx hxa=>?_⟩;rcases zwa.1 hx with hx|hx
    ·exact absurd (hb x hx) hxa
    ·rw[zAa.1 hx];right;exact⟨by simp only[T,dot,cross];grind,zwd _⟩
   | some b=>
    simp only at hb ⊢;obtain⟨b1,b2,b3⟩:=hb;have hbon:=h1 b b1;obtain⟨f,hf⟩:=ea;by_cases hbt:pu n P a b k=true
    ·rw[if_pos hbt];simp only;refine⟨zjb _ (zAa.2 rfl),hka,λx hx hxa=>?_⟩;have sw:=Lt (n:=n) (wy P a b) (wy P a k);simp only[pu,zFb,zaa,decide_eq_true_eq] at hbt;rcases zwa.1 hx with hx|hx
     ·have hxon:=h1 x hx;have c:=b3 x hx hxa;have nn1:0<=T n (wy P a k) (wy P a b):=by omega
      have nn2:0<=T n (wy P a b) (wy P a x):=by omega
      obtain⟨t1,t2⟩:=BP h.nz (h.pl a ha k hk) (h.pl a ha b hbon) (h.pl a ha x hxon) (hf k hk hka) (hf b hbon b2) (hf x hxon hxa) nn1 nn2;rcases zsb t1 with hlt|heq
      ·exact .inl hlt
      ·right;refine⟨heq.symm,?_⟩;have:¬ (0<T n (wy P a k) (wy P a b)\/0<T n (wy P a b) (wy P a x)):=λhh=>by have:=t2 hh;omega
       omega
     ·rw[zAa.1 hx];right;exact⟨by simp only[T,dot,cross];grind,zwd _⟩
    ·rw[if_neg hbt];simp only;refine⟨zob _ b1,b2,λx hx hxa=>?_⟩;rcases zwa.1 hx with hx|hx
     ·exact b3 x hx hxa
     ·rw[zAa.1 hx];simp only[pu,zFb,zaa,decide_eq_true_eq] at hbt;omega
def vQ(h:Flat n P on){a:Nat}(ha:a∈on)(ea:ld P on a)(h2:∃ x∈on,x≠a):∃ b,on.foldl (cQ n P a) none=some b/\Side n P on a b:=by
 have key:=rd h ha ea on [] none (by simp) (λx hx=>hx) (by simp)
 cases hr:on.foldl (cQ n P a) none with
 | none=>
  rw[hr] at key;obtain⟨x,hx,hxa⟩:=h2;exact absurd (key x (by simpa using hx)) hxa
 | some b=>
  rw[hr] at key;simp only[z3b] at key;obtain⟨k1,k2,k3⟩:=key;refine⟨b,rfl,k1,k2,λx hx=>?_⟩;by_cases hxa:x=a
  ·subst hxa;have e:wy P x x=zero:=by simp[wy,sub,zero]
   have:T n (wy P x b) (wy P x x)=0:=by rw[e];simp[T,dot,cross,zero]
   have hp:=qE (wy P x b);have e2:dot (wy P x x) (wy P x b)=0:=by rw[e];simp[dot,zero]
   rw[this,e2];exact⟨zwd _,λ_=>⟨zwd _,hp⟩⟩
  ·have c:=k3 x hx hxa;refine⟨by omega,λt0=>?_⟩
   have c2:dot (wy P a x) (wy P a x)<=dot (wy P a b) (wy P a b):=by omega
   obtain⟨f,hf⟩:=ea;have hx0:=dZ h.nz (h.pl a ha b k1) (h.pl a ha x hx) t0;have p:=Hg hx0 f;have fb:=hf b k1 k2;have fx:=hf x hx hxa;have hbp:=bv (rC h ha k1 k2);have q1:dot f (wy P a b)*dot (wy P a x) (wy P a b)=dot f (wy P a x)*dot (wy P a b) (wy P a b):=by
    have p1:=congrArg V.x p;have p2:=congrArg V.y p;have p3:=congrArg V.z p;simp only[smul] at p1 p2 p3;generalize dot f (wy P a b)=A at *;generalize dot f (wy P a x)=B at *;simp only[dot];grind
   have hpos:0<dot (wy P a x) (wy P a b):=nH fb (by rw[q1];exact zMb fx hbp)
   refine⟨zRa hpos,?_⟩;have q2:dot (wy P a b) (wy P a b)*dot (wy P a x) (wy P a x)=dot (wy P a x) (wy P a b)*dot (wy P a x) (wy P a b):=by
    have p:=Hg hx0 (wy P a b);have p1:=congrArg V.x p;have p2:=congrArg V.y p;have p3:=congrArg V.z p;simp only[smul] at p1 p2 p3;simp only[dot] at *;grind
   generalize dot (wy P a b) (wy P a b)=B at *;generalize dot (wy P a x) (wy P a x)=X at *;generalize dot (wy P a x) (wy P a b)=D at *;rcases zmc B D with hlt|hle
   ·exfalso;have a1:B*X<=B*B:=zCb c2 (zRa hbp);have a2:B*B<B*D:=zNc hlt hbp;have a3:B*D<D*D:=Int.mul_lt_mul_of_pos_right hlt hpos;omega
   ·exact hle
end poly
open V
def aF(a b:V):Prop:=a.x<b.x\/a.x=b.x/\(a.y<b.y\/a.y=b.y/\a.z<b.z)
def Dv{P:Nat->V}{on:List Nat}{a:Nat}(h:∀ x∈on,x≠a->aF (P a) (P x)):ld P on a:=by
 obtain⟨N1,p1,b1⟩:=iE (λx=>(wy P a x).y) on;obtain⟨N2,p2,b2⟩:=iE (λx=>(wy P a x).z) on;refine⟨⟨(N1+N2)*(N1+N2)+(N1+N2),N1+N2,1⟩,λx hx hxa=>?_⟩;have c1:=b1 x hx;have c2:=b2 x hx;have hl:=h x hx hxa;simp only[wy,sub,aF,dot] at *;generalize hX:(P x).x-(P a).x=X at *;generalize hY:(P x).y-(P a).y=Y at *;generalize hZ:(P x).z-(P a).z=Z at *;generalize hN:N1+N2=N;have hN0:0<N:=by omega
 have hY1:-N+1<=Y:=by omega
 have hY2:Y<=N-1:=by omega
 have hZ1:-N+1<=Z:=by omega
 have m1:N*(-N+1)<=N*Y:=zCb hY1 (zRa hN0);have m2:N*(-N+1)=-(N*N)+N:=by grind
 have hNN:0<N*N:=zMb hN0 hN0;rcases hl with hl|⟨h1,hl|⟨h2,hl⟩⟩
 ·have hX1:1<=X:=by omega
  have m3:(N*N+N)*1<=(N*N+N)*X:=zCb hX1 (by omega)
  omega
 ·have hX0:X=0:=by omega
  have hY3:1<=Y:=by omega
  have m3:N*1<=N*Y:=zCb hY3 (by omega)
  subst hX0;simp only[zYc];omega
 ·have hX0:X=0:=by omega
  have hY0:Y=0:=by omega
  subst hX0;subst hY0;simp only[zYc];omega
section poly
variable{n:V}{P:Nat->V}{on:List Nat}
def Chain.head{S:Nat->Nat->Prop}{a c:Nat}{l:List Nat}(h:Chain S a c l):∃ l',l=c::l':=by
 cases h<;>exact⟨_,rfl⟩
theorem Chain.pairs{S:Nat->Nat->Prop}{a:Nat}:∀ {c:Nat} {l:List Nat},Chain S a c l->∀ i x,l[i]?=some x->∃ y,(l++[a])[i+1]?=some y/\S x y
 | c,_,.done h,i,x,hx=>by
  cases i with
  | zero=>simp at hx;subst hx;exact⟨a,by simp,h⟩
  | succ i=>simp at hx
 | c,_,.step (y:=y) (l:=l) h hne k,i,x,hx=>by
  cases i with
  | zero=>
   simp at hx;subst hx;obtain⟨l',rfl⟩:=k.head;exact⟨y,by simp,h⟩
  | succ i=>
   obtain⟨z,h1,h2⟩:=Chain.pairs k i x (by simpa using hx)
   exact⟨z,by simpa using h1,h2⟩
def Bc(h:Flat n P on){a:Nat}(ha:a∈on)(ea:ld P on a)(h3:∀ c∈on,∃ x∈on,x≠c) :
  ∃ l,Chain (Side n P on) a a l/\l.Nodup/\(∀ z∈l,z∈on/\ld P on z)/\∀ z∈on,ld P on z->z∈l:=by
 have hnext:∀ c∈on,ld P on c->∃ b,Side n P on c b:=λc hc ec=>by
  obtain⟨b,_,hb⟩:=vQ h hc ec (h3 c hc);exact⟨b,hb⟩
 obtain⟨c,hs⟩:=hnext a ha ea;have ec:=hs.ext h ha;obtain⟨l,k1,k2,k3,k4⟩:=walk h ha ea hnext hs.mem ec hs.ne;refine⟨a::l,.step hs hs.ne k1,List.nodup_cons.2 ⟨λhm=>(k2 a hm).2.2.1 rfl,?_⟩,λz hz=>?_,λz hz ez=>?_⟩
 ·refine List.Pairwise.imp (λ{x y} hxy e=>?_) k4;subst e;have:T n (wy P a x) (wy P a x)=0:=by simp only[T,dot,cross];grind
  omega
 ·rcases zEa.1 hz with rfl|hz
  ·exact⟨ha,ea⟩
  ·exact⟨(k2 z hz).1,(k2 z hz).2.1⟩
 ·by_cases hza:z=a
  ·subst hza;exact zma
  ·refine zia _ ?_;have h0:=(hs.all z hz).1;rcases zsb h0 with hp|he
   ·exact k3 z hz ez hza hp
   ·have:=ld.ray h ha hs.mem hz ea ec ez hs.ne hza he.symm;subst this;obtain⟨l',rfl⟩:=k1.head;exact zma
end poly
def sg(x:Int):Int:=if x<0 then -1 else if 0<x then 1 else 0
def uc(a b:Int):sg a*sg b=sg (a*b):=by
 rcases zVb a 0 with h|h|h<;>rcases zVb b 0 with k|k|k
 ·have:=zoc h k;simp[sg,h,k,this,zkc.2 (zRa this)]
 ·subst k;simp[sg]
 ·have:=Int.mul_neg_of_neg_of_pos h k;simp[sg,h,k,this,zkc.2 (zRa k)]
 ·subst h;simp[sg]
 ·subst h;simp[sg]
 ·subst h;simp[sg]
 ·have:=zQb h k;simp[sg,h,k,this,zkc.2 (zRa h)]
 ·subst k;simp[sg]
 ·have:=zMb h k;simp[sg,h,k,this,zkc.2 (zRa h),zkc.2 (zRa k),zkc.2 (zRa this)]
def kK{x:Int}(h:0<x):sg x=1:=by simp[sg,h,zkc.2 (zRa h)]
def xI{x:Int}(h:x<0):sg x=-1:=by simp[sg,h]
def vw(n c:V):Int:=if n.x≠0 then sg n.x*sg c.x else if n.y≠0 then sg n.y*sg c.y else if n.z≠0 then sg n.z*sg c.z else 0
def ud{a b p:Int}(hp:0<p){q:Int}(hq:0<q)(h:a*p=q*b):sg a=sg b:=by
 have h1:sg (a*p)=sg a:=by rw[<-uc,kK hp];simp
 have h2:sg (q*b)=sg b:=by rw[<-uc,kK hq];simp
 rw[<-h1,<-h2,h]
def Cu{n c:V}(hn:n≠zero)(h:cross n c=zero):vw n c=sg (dot n c):=by
 have h1:=congrArg V.x h;have h2:=congrArg V.y h;have h3:=congrArg V.z h;simp only[cross,zero] at h1 h2 h3;have hp:=bv hn;have e1:n.x*c.x*dot n n=n.x*n.x*dot n c:=by simp only[dot];grind
 have e2:n.y*c.y*dot n n=n.y*n.y*dot n c:=by simp only[dot];grind
 have e3:n.z*c.z*dot n n=n.z*n.z*dot n c:=by simp only[dot];grind
 unfold vw;split
 ·rename_i k;rw[uc];exact ud hp (Bw k) e1
 ·split
  ·rename_i k;rw[uc];exact ud hp (Bw k) e2
  ·split
   ·rename_i k;rw[uc];exact ud hp (Bw k) e3
   ·rename_i k1 k2 k3;exact absurd (V.ext' (by simpa [zero] using k1) (by simpa [zero] using k2) (by simpa [zero] using k3)) hn
def ia{n u v:V}(hu:dot n u=0)(hv:dot n v=0):cross n (cross u v)=zero:=by
 simp only[dot] at hu hv;apply V.ext'<;>simp only[cross,zero]<;>grind
open V
def bo(P:Nat->V)(N:Nat)(n:V)(d:Int):List Nat:=(List.range N).filter λk=>decide (dot n (P k)=d)
def uB(P:Nat->V)(N:Nat)(n:V)(d:Int):Prop:=(∀ k,k<N->dot n (P k)<=d)/\∃ k,k<N/\dot n (P k)<d
def dI(P:Nat->V)(i j k:Nat):V:=cross (wy P i j) (wy P i k)
def bw(v:V):Nat:=Nat.gcd (Nat.gcd v.x.natAbs v.y.natAbs) v.z.natAbs
def br(v:V):V:=⟨v.x/bw v,v.y/bw v,v.z/bw v⟩
structure IsF(P:Nat->V)(N:Nat)(n:V)(d:Int):Prop where
 ex:∃ i j k,i<j/\j<k/\k<N/\dI P i j k≠zero/\(n=br (dI P i j k)\/n=neg (br (dI P i j k)))/\d=dot n (P i)
 supp:uB P N n d
def jN{v:V}(h:v≠zero):0<bw v:=by
 rcases zrb (bw v) with e|p
 ·exfalso;unfold bw at e;rw[Nat.gcd_eq_zero_iff,Nat.gcd_eq_zero_iff] at e;exact h (V.ext' (by simp[zero];omega) (by simp[zero];omega) (by simp[zero];omega))
 ·exact p
def iI(v:V):v=smul (bw v) (br v):=by
 have d1:(bw v:Int) ∣ v.x:=z4a.2 (zdd (zhb _ _) (zhb _ _));have d2:(bw v:Int) ∣ v.y:=z4a.2 (zdd (zhb _ _) (zwb _ _));have d3:(bw v:Int) ∣ v.z:=z4a.2 (zwb _ _);apply V.ext'
 ·exact(zEd d1).symm
 ·exact(zEd d2).symm
 ·exact(zEd d3).symm
def pN(k:Nat)(v:V):bw (smul k v)=k*bw v:=by
 simp only[bw,smul,zFa,zxa];rw[Nat.gcd_mul_left,Nat.gcd_mul_left]
def vm{v:V}(h:v≠zero):bw (br v)=1:=by
 have p:=jN h;have e:=pN (bw v) (br v);rw[<-iI v] at e;exact(Nat.eq_of_mul_eq_mul_left p (by omega)).symm
def yR(v:V):bw (neg v)=bw v:=by simp[bw,neg]
def zD(v:V):br (neg v)=neg (br v):=by
 have e:=iI v;unfold br;rw[yR];have d1:(bw v:Int) ∣ v.x:=z4a.2 (zdd (zhb _ _) (zhb _ _));have d2:(bw v:Int) ∣ v.y:=z4a.2 (zdd (zhb _ _) (zwb _ _));have d3:(bw v:Int) ∣ v.z:=z4a.2 (zwb _ _);simp only[neg,zWc d1,zWc d2,zWc d3]
def rW{v:V}(h:v≠zero):br v≠zero:=λe=>h (by rw[iI v,e];apply V.ext'<;>simp[smul,zero])
def Gl{u v:V}(hu:bw u=1)(hv:bw v=1){a b:Int}(ha:0<a)(hb:0<b)(h:smul a u=smul b v):u=v:=by
 obtain⟨a,rfl⟩:=zwc (zRa ha);obtain⟨b,rfl⟩:=zwc (zRa hb);have e:=pN a u;have e2:=pN b v;rw[h,e2,hu,hv] at e;have:a=b:=by omega
 subst this;have h1:=congrArg V.x h;have h2:=congrArg V.y h;have h3:=congrArg V.z h;simp only[smul] at h1 h2 h3;have hne:(a:Int)≠0:=by omega
 exact V.ext' (Int.eq_of_mul_eq_mul_left hne h1) (Int.eq_of_mul_eq_mul_left hne h2) (Int.eq_of_mul_eq_mul_left hne h3)
section
variable{P:Nat->V}{N:Nat}
def IsF.nz{n:V}{d:Int}(h:IsF P N n d):n≠zero/\bw n=1:=by
 obtain⟨i,j,k,_,_,_,h1,h2|h2,_⟩:=h.ex
 ·subst h2;exact⟨rW h1,vm h1⟩
 ·subst h2;refine⟨λe=>rW h1 ?_,by rw[yR];exact vm h1⟩
  have e1:=congrArg V.x e;have e2:=congrArg V.y e;have e3:=congrArg V.z e;simp only[neg,zero] at e1 e2 e3;exact V.ext' (by simp only[zero];omega) (by simp only[zero];omega) (by simp only[zero];omega)
def aV{n:V}{d:Int}{k:Nat}:k∈bo P N n d↔k<N/\dot n (P k)=d:=by simp[bo]
def c7(n:V)(i k:Nat):dot n (wy P i k)=dot n (P k)-dot n (P i):=by simp only[dot,wy,sub];grind
def IsF.three{n:V}{d:Int}(h:IsF P N n d):∃ i j k,i<j/\j<k/\k<N/\i∈bo P N n d/\j∈bo P N n d/\k∈bo P N n d/\dI P i j k≠zero:=by
 obtain⟨i,j,k,hij,hjk,hk,h1,h2,h3⟩:=h.ex;have g:=jN h1;have e:=iI (dI P i j k);have t1:dot (dI P i j k) (wy P i j)=0:=by simp only[dI,dot,cross];grind
 have t2:dot (dI P i j k) (wy P i k)=0:=by simp only[dI,dot,cross];grind
 have key:∀ v:V,dot (dI P i j k) v=0->dot n v=0:=λv hv=>by
  rw[e] at hv;have:(bw (dI P i j k):Int)*dot (br (dI P i j k)) v=0:=by rw[<-hv];simp only[dot,smul];grind
  have h0:=bx (by omega) this
  rcases h2 with h2|h2
  ·rw[h2];exact h0
  ·rw[h2];have:dot (neg (br (dI P i j k))) v=- dot (br (dI P i j k)) v:=by simp only[dot,neg];grind
   omega
 have k1:=key _ t1;have k2:=key _ t2;rw[c7] at k1 k2;exact⟨i,j,k,hij,hjk,hk,aV.2 ⟨by omega,by omega⟩,aV.2 ⟨by omega,by omega⟩,aV.2 ⟨hk,by omega⟩,h1⟩
theorem IsF.flat(hl:∀ i j,i<j->j<N->aF (P i) (P j)){n:V}{d:Int}(h:IsF P N n d):Flat n P (bo P N n d):=by
 refine⟨h.nz.1,λx hx y hy=>?_,λx hx y hy e=>?_⟩
 ·have a:=(aV.1 hx).2;have b:=(aV.1 hy).2;rw[c7];omega
 ·have a:=(aV.1 hx).1;have b:=(aV.1 hy).1;rcases zod x y with c|c|c
  ·have:=hl x y c b;rw[e] at this;simp only[aF] at this;omega
  ·exact c
  ·have:=hl y x c a;rw[e] at this;simp only[aF] at this;omega
def IsF.left(hl:∀ i j,i<j->j<N->aF (P i) (P j)){n:V}{d:Int}(h:IsF P N n d){a b:Nat}(ha:a∈bo P N n d)(hs:Side n P (bo P N n d) a b) :
  ∃ x∈bo P N n d,0<T n (wy P a b) (wy P a x):=by
 obtain⟨i,j,k,hij,hjk,hk,mi,mj,mk,ht⟩:=h.three;have F:=h.flat hl;have key:∀ x∈bo P N n d,0<T n (wy P a b) (wy P a x)\/cross (wy P a b) (wy P a x)=zero:=λx hx=>by
  rcases zsb (hs.all x hx).1 with h1|h1
  ·exact .inl h1
  ·exact .inr (dZ F.nz (F.pl a ha b hs.mem) (F.pl a ha x hx) h1.symm)
 rcases key i mi with h1|h1
 ·exact⟨i,mi,h1⟩
 rcases key j mj with h2|h2
 ·exact⟨j,mj,h2⟩
 rcases key k mk with h3|h3
 ·exact⟨k,mk,h3⟩
 exfalso;apply ht;have hb:=bv (rC F ha hs.mem hs.ne);have p1:=Hg h1 (wy P a b);have p2:=Hg h2 (wy P a b);have p3:=Hg h3 (wy P a b);have w1:wy P i j=sub (wy P a j) (wy P a i):=by apply V.ext'<;>simp only[wy,sub]<;>omega
 have w2:wy P i k=sub (wy P a k) (wy P a i):=by apply V.ext'<;>simp only[wy,sub]<;>omega
 unfold dI;rw[w1,w2];generalize wy P a b=e at *;generalize wy P a i=u at *;generalize wy P a j=v at *;generalize wy P a k=w at *;generalize dot e u=A at *;generalize dot e v=B at *;generalize dot e w=C at *;generalize dot e e=D at *;have q1:=congrArg V.x p1;have q2:=congrArg V.y p1;have q3:=congrArg V.z p1;have r1:=congrArg V.x p2;have r2:=congrArg V.y p2;have r3:=congrArg V.z p2;have s1:=congrArg V.x p3;have s2:=congrArg V.y p3;have s3:=congrArg V.z p3;simp only[smul] at q1 q2 q3 r1 r2 r3 s1 s2 s3;have hDD:0<D*D:=zMb hb hb;apply V.ext'<;>simp only[cross,sub,zero]<;>refine bx hDD ?_<;>grind
theorem far{n e:V}(he:dot n e=0){w:Nat->V}:∀ l:List Nat,l≠[]->(∀ y∈l,dot n (w y)<0)->∃ y∈l,∀ x∈l,0<=dot e (cross (w y) (w x))
 | [],h,_=>absurd rfl h
 | [y],_,hn=>⟨y,zma,λx hx=>by
   rw[zAa.1 hx];have:dot e (cross (w y) (w y))=0:=by simp only[dot,cross];grind
   omega⟩
 | z::y'::l,_,hn=>by
  obtain⟨y,hy,hmax⟩:=far he (y'::l) (by simp) (λy hy=>hn y (zia _ hy))
  have self:∀ v:V,dot e (cross v v)=0:=λv=>by simp only[dot,cross];grind
  have sw:∀ u v:V,dot e (cross v u)=- dot e (cross u v):=λu v=>by simp only[dot,cross];grind
  have pl:∀ x y z:V,dot n x*dot e (cross y z)=dot n z*dot e (cross y x)+dot n y*dot e (cross x z):=λx y z=>by
   have:dot n x*dot e (cross y z)-(dot n z*dot e (cross y x)+dot n y*dot e (cross x z))=dot n e*dot x (cross y z):=by simp only[dot,cross];grind
   rw[he] at this;omega
  rcases zmc (dot e (cross (w y) (w z))) 0 with hlt|hge
  ·refine⟨z,zma,λx hx=>?_⟩;rcases zEa.1 hx with rfl|hx
   ·have:=self (w x);omega
   ·have h1:=hmax x hx;have h2:=pl (w y) (w z) (w x);have n1:=hn y (zia _ hy);have n2:=hn z zma;have n3:=hn x (zia _ hx);have h3:=sw (w y) (w z);have a1:dot n (w x)*dot e (cross (w z) (w y))<=0:=Int.mul_nonpos_of_nonpos_of_nonneg (zRa n3) (by omega)
    have a2:dot n (w z)*dot e (cross (w y) (w x))<=0:=Int.mul_nonpos_of_nonpos_of_nonneg (zRa n2) h1;have a3:0<=(-(dot n (w y)))*dot e (cross (w z) (w x)):=by rw[Int.neg_mul];omega
    exact qc (by omega) a3
  ·refine⟨y,zia _ hy,λx hx=>?_⟩;rcases zEa.1 hx with rfl|hx
   ·exact hge
   ·exact hmax x hx
def Ms{p q r:Nat}(hp:p<N)(hq:q<N)(hr:r<N)(h1:p≠q)(h2:p≠r)(h3:q≠r){m:V}(hm:m=dI P p q r)(hle:∀ x,x<N->dot m (wy P p x)<=0)(hlt:∃ x,x<N/\dot m (wy P p x)<0) :
  ∃ n',∃ g:Int,0<g/\m=smul g n'/\IsF P N n' (dot n' (P p)):=by
 have hm0:m≠zero:=λe=>by
  obtain⟨x,_,hx⟩:=hlt;rw[e] at hx;simp[dot,zero] at hx
 have hg:=jN hm0;have e:=iI m;refine⟨br m,bw m,by omega,e,?_,?_⟩
 ·have perm:∀ i j k,i<j->j<k->k<N->(m=dI P i j k\/m=neg (dI P i j k))->(dot (br m) (wy P i p)=0)->∃ i j k,i<j/\j<k/\k<N/\dI P i j k≠zero/\(br m=br (dI P i j k)\/br m=neg (br (dI P i j k)))/\dot (br m) (P p)=dot (br m) (P i):=by
   intro i j k hij hjk hk hmm hd;rw[c7] at hd;refine⟨i,j,k,hij,hjk,hk,λe0=>hm0 ?_,?_,by omega⟩
   ·rcases hmm with hmm|hmm
    ·rw[hmm,e0]
    ·rw[hmm,e0];rfl
   ·rcases hmm with hmm|hmm
    ·exact .inl (by rw[hmm])
    ·exact .inr (by rw[hmm,zD])
  have dz:∀ v:V,dot m v=0->dot (br m) v=0:=λv hv=>by
   have:(bw m:Int)*dot (br m) v=0:=by
    rw[<-hv]
    conv=>rhs;rw[e]
    simp only[dot,smul];grind
   exact bx (by omega) this
  have z1:dot (br m) (wy P p p)=0:=dz _ (by simp only[dot,wy,sub];grind)
  have z2:dot (br m) (wy P q p)=0:=dz _ (by rw[hm];simp only[dot,dI,cross,wy,sub];grind)
  have z3:dot (br m) (wy P r p)=0:=dz _ (by rw[hm];simp only[dot,dI,cross,wy,sub];grind)
  rcases Nat.lt_or_gt_of_ne h1 with a1|a1<;>rcases Nat.lt_or_gt_of_ne h2 with a2|a2<;>rcases Nat.lt_or_gt_of_ne h3 with a3|a3
  ·exact perm p q r a1 a3 hr (.inl hm) z1
  ·exact perm p r q a2 a3 hq (.inr (by rw[hm];apply V.ext'<;>simp only[dI,neg,cross,wy,sub]<;>grind)) z1
  ·omega
  ·exact perm r p q a2 a1 hq (.inl (by rw[hm];apply V.ext'<;>simp only[dI,neg,cross,wy,sub]<;>grind)) z3
  ·exact perm q p r a1 a2 hr (.inr (by rw[hm];apply V.ext'<;>simp only[dI,neg,cross,wy,sub]<;>grind)) z2
  ·omega
  ·exact perm q r p a3 a2 hp (.inl (by rw[hm];apply V.ext'<;>simp only[dI,neg,cross,wy,sub]<;>grind)) z2
  ·exact perm r q p a3 a1 hp (.inr (by rw[hm];apply V.ext'<;>simp only[dI,neg,cross,wy,sub]<;>grind)) z3
 ·have sc:∀ v:V,dot m v=(bw m:Int)*dot (br m) v:=λv=>by
   conv=>lhs;rw[e]
   simp only[dot,smul];grind
  refine⟨λx hx=>?_,?_⟩
  ·have h:=hle x hx;rw[sc,c7] at h;rcases zmc (dot (br m) (P p)) (dot (br m) (P x)) with k|k
   ·have:=zMb (a:=(bw m:Int)) (b:=dot (br m) (P x)-dot (br m) (P p)) (by omega) (by omega)
    omega
   ·exact k
  ·obtain⟨x,hx,h⟩:=hlt;rw[sc,c7] at h;refine⟨x,hx,?_⟩;rcases zmc (dot (br m) (P x)) (dot (br m) (P p)) with k|k
   ·exact k
   ·have:=zZb (a:=(bw m:Int)) (b:=dot (br m) (P x)-dot (br m) (P p)) (by omega) (by omega)
    omega
end
open V
section
variable{P:Nat->V}{N:Nat}
def AA(hl:∀ i j,i<j->j<N->aF (P i) (P j)){n:V}{d:Int}(h:IsF P N n d){a b:Nat}(ha:a∈bo P N n d)(hs:Side n P (bo P N n d) a b) :
  ∃ n' d',IsF P N n' d'/\a∈bo P N n' d'/\b∈bo P N n' d'/\Side n' P (bo P N n' d') b a:=by
 have F:=h.flat hl;have haN:=(aV.1 ha).1;have had:=(aV.1 ha).2;have hbN:=(aV.1 hs.mem).1;have he:dot n (wy P a b)=0:=F.pl a ha b hs.mem;obtain⟨x1,hx1,hT1⟩:=h.left hl ha hs;have hx1n:dot n (wy P a x1)=0:=F.pl a ha x1 hx1;have hle:∀ x,x<N->dot n (wy P a x)<=0:=λx hx=>by rw[c7];have:=h.supp.1 x hx;omega
 have hnn:=bv F.nz;obtain⟨z,hzN,hz⟩:=h.supp.2;obtain⟨y,hy,hfar⟩:=far (w:=wy P a) he ((List.range N).filter λk=>decide (dot n (wy P a k)<0)) (List.ne_nil_of_mem (a:=z) (by simp[hzN,c7];omega)) (λy hy=>by simpa using(zqc.1 hy).2)
 have hyN:y<N:=by simpa using(zqc.1 hy).1
 have hyn:dot n (wy P a y)<0:=by simpa using(zqc.1 hy).2
 have hfar':∀ x,x<N->dot n (wy P a x)<0->0<=dot (wy P a b) (cross (wy P a y) (wy P a x)):=λx hx hn=>hfar x (by simp[hx,hn])
 have onpl:∀ u v:V,dot n u=0->dot n v=0->∀ y:V,dot n n*dot (cross u v) y=dot n (cross u v)*dot n y:=λu v hu hv y=>by
  have c:=ia hu hv;have c1:=congrArg V.x c;have c2:=congrArg V.y c;have c3:=congrArg V.z c;generalize cross u v=k at *;simp only[cross,zero] at c1 c2 c3;simp only[dot];grind
 have mdot:∀ v:V,dot (cross (wy P a y) (wy P a b)) v=- dot (wy P a b) (cross (wy P a y) v):=λv=>by simp only[dot,cross];grind
 have mdot2:∀ v:V,dot (cross (wy P a y) (wy P a b)) v=dot (cross (wy P a b) v) (wy P a y):=λv=>by simp only[dot,cross];grind
 have mon:∀ x∈bo P N n d,dot n n*dot (cross (wy P a y) (wy P a b)) (wy P a x)=T n (wy P a b) (wy P a x)*dot n (wy P a y):=λx hx=>by
  rw[mdot2];exact onpl _ _ he (F.pl a ha x hx) _
 have mle:∀ x,x<N->dot (cross (wy P a y) (wy P a b)) (wy P a x)<=0:=λx hx=>by
  rcases zsb (hle x hx) with k|k
  ·rw[mdot];have:=hfar' x hx k;omega
  ·have hxm:x∈bo P N n d:=aV.2 ⟨hx,by rw[c7] at k;omega⟩
   have e:=mon x hxm;have t:=(hs.all x hxm).1;have:T n (wy P a b) (wy P a x)*dot n (wy P a y)<=0:=Int.mul_nonpos_of_nonneg_of_nonpos t (zRa hyn);rcases zmc 0 (dot (cross (wy P a y) (wy P a b)) (wy P a x)) with q|q
   ·have:=zMb hnn q;omega
   ·exact q
 have mlt:dot (cross (wy P a y) (wy P a b)) (wy P a x1)<0:=by
  have e:=mon x1 hx1;have:T n (wy P a b) (wy P a x1)*dot n (wy P a y)<0:=zQb hT1 hyn;rcases zmc (dot (cross (wy P a y) (wy P a b)) (wy P a x1)) 0 with q|q
  ·exact q
  ·have:=zZb (zRa hnn) q;omega
 have hya:a≠y:=λe=>by subst e;rw[show dot n (wy P a a)=0 by simp only[dot,wy,sub];grind] at hyn;omega
 have hyb:y≠b:=λe=>by subst e;omega
 obtain⟨n',g,hg,hm,hF⟩:=Ms (p:=a) (q:=y) (r:=b) haN hyN hbN hya (Ne.symm hs.ne) hyb rfl mle ⟨x1,(aV.1 hx1).1,mlt⟩;have sc:∀ v:V,dot (cross (wy P a y) (wy P a b)) v=g*dot n' v:=λv=>by
  have:dI P a y b=cross (wy P a y) (wy P a b):=rfl;rw[<-this,hm];simp only[dot,smul];grind
 have hbe:dot n' (wy P a b)=0:=bx hg (by rw[<-sc];simp only[dot,cross];grind)
 have ham:a∈bo P N n' (dot n' (P a)):=aV.2 ⟨haN,rfl⟩;have hbm:b∈bo P N n' (dot n' (P a)):=aV.2 ⟨hbN,by rw[c7] at hbe;omega⟩
 refine⟨n',_,hF,ham,hbm,ham,Ne.symm hs.ne,λx hx=>?_⟩;have hxN:=(aV.1 hx).1;have hx0:dot n' (wy P a x)=0:=by rw[c7];have:=(aV.1 hx).2;omega
 have mx0:dot (cross (wy P a y) (wy P a b)) (wy P a x)=0:=by rw[sc,hx0,zYc]
 have tE:T n' (wy P b a) (wy P b x)=dot n' (cross (wy P a x) (wy P a b)):=by simp only[T,dot,cross,wy,sub];grind
 have dE:dot (wy P b x) (wy P b a)=dot (wy P a b) (wy P a b)-dot (wy P a x) (wy P a b):=by simp only[dot,wy,sub];grind
 have dE2:dot (wy P b a) (wy P b a)=dot (wy P a b) (wy P a b):=by simp only[dot,wy,sub];grind
 rw[tE,dE,dE2];rcases zsb (hle x hxN) with k|k
 ·
  have c1:dot (cross (wy P a x) (wy P a b)) (wy P a x1)<0:=by
   have e:=onpl (wy P a b) (wy P a x1) he hx1n (wy P a x);have e2:dot (cross (wy P a x) (wy P a b)) (wy P a x1)=dot (cross (wy P a b) (wy P a x1)) (wy P a x):=by simp only[dot,cross];grind
   have:T n (wy P a b) (wy P a x1)*dot n (wy P a x)<0:=zQb hT1 k;rw[e2];simp only[T] at this;rcases zmc (dot (cross (wy P a b) (wy P a x1)) (wy P a x)) 0 with q|q
   ·exact q
   ·have:=zZb (zRa hnn) q;omega
  have par2:dot n' n'*dot (cross (wy P a x) (wy P a b)) (wy P a x1)=dot n' (cross (wy P a x) (wy P a b))*dot n' (wy P a x1):=by
   have c:=ia hx0 hbe;have c1:=congrArg V.x c;have c2:=congrArg V.y c;have c3:=congrArg V.z c;generalize cross (wy P a x) (wy P a b)=k at *;simp only[cross,zero] at c1 c2 c3;simp only[dot];grind
  have n'n':=bv hF.nz.1;have n1:dot n' (wy P a x1)<0:=by
   rw[sc] at mlt;rcases zmc (dot n' (wy P a x1)) 0 with q|q
   ·exact q
   ·have:=zZb (zRa hg) q;omega
  have l1:dot n' n'*dot (cross (wy P a x) (wy P a b)) (wy P a x1)<0:=zQb n'n' c1;have pos:0<dot n' (cross (wy P a x) (wy P a b)):=by
   rcases zmc 0 (dot n' (cross (wy P a x) (wy P a b))) with q|q
   ·exact q
   ·have:=Int.mul_nonneg_of_nonpos_of_nonpos q (zRa n1);omega
  exact⟨zRa pos,λh0=>by omega⟩
 ·have hxm:x∈bo P N n d:=aV.2 ⟨hxN,by rw[c7] at k;omega⟩
  have e:=mon x hxm;rw[mx0,zYc] at e;have t0:T n (wy P a b) (wy P a x)=0:=by
   rcases zJc.1 e.symm with q|q
   ·exact q
   ·omega
  have s2:=(hs.all x hxm).2 t0;have c0:=dZ F.nz he k t0;have:dot n' (cross (wy P a x) (wy P a b))=0:=by
   have e2:dot n' (cross (wy P a x) (wy P a b))=- dot n' (cross (wy P a b) (wy P a x)):=by simp only[dot,cross];grind
   rw[e2,c0];simp[dot,zero]
  rw[this];exact⟨zwd _,λ_=>⟨by omega,by omega⟩⟩
def Fn(hl:∀ i j,i<j->j<N->aF (P i) (P j)){n1 n2:V}{d1 d2:Int}(h1:IsF P N n1 d1)(h2:IsF P N n2 d2){a b:Nat}(ha1:a∈bo P N n1 d1)(ha2:a∈bo P N n2 d2)
  (hs1:Side n1 P (bo P N n1 d1) a b) (hs2:Side n2 P (bo P N n2 d2) a b):n1=n2:=by
 have F1:=h1.flat hl;have F2:=h2.flat hl;obtain⟨x1,hx1,ht1⟩:=h1.left hl ha1 hs1;obtain⟨x2,hx2,ht2⟩:=h2.left hl ha2 hs2;have e1:dot n1 (wy P a b)=0:=F1.pl a ha1 b hs1.mem;have e2:dot n2 (wy P a b)=0:=F2.pl a ha2 b hs2.mem;have z1:dot n1 (wy P a x1)=0:=F1.pl a ha1 x1 hx1;have z2:dot n2 (wy P a x2)=0:=F2.pl a ha2 x2 hx2;have l12:dot n1 (wy P a x2)<=0:=by rw[c7];have:=h1.supp.1 x2 (aV.1 hx2).1;have:=(aV.1 ha1).2;omega
 have l21:dot n2 (wy P a x1)<=0:=by rw[c7];have:=h2.supp.1 x1 (aV.1 hx1).1;have:=(aV.1 ha2).2;omega
 have hp1:=bv F1.nz;have hp2:=bv F2.nz;have onpl:∀ (n u v:V),dot n u=0->dot n v=0->smul (dot n n) (cross u v)=smul (dot n (cross u v)) n:=λn u v hu hv=>by
  have c:=ia hu hv;have c1:=congrArg V.x c;have c2:=congrArg V.y c;have c3:=congrArg V.z c;generalize cross u v=k at *;simp only[cross,zero] at c1 c2 c3;apply V.ext'<;>simp only[smul,dot]<;>grind
 have dsm:∀ (k:Int) (u v:V),dot (smul k u) v=k*dot u v:=λk u v=>by simp only[dot,smul];grind
 have k1:dot n1 n1*dot (cross (wy P a b) (wy P a x1)) (wy P a x2)=T n1 (wy P a b) (wy P a x1)*dot n1 (wy P a x2):=by
  have:=congrArg (λv=>dot v (wy P a x2)) (onpl n1 _ _ e1 z1);simp only[dsm] at this;exact this
 have k2:dot n2 n2*dot (cross (wy P a b) (wy P a x2)) (wy P a x1)=T n2 (wy P a b) (wy P a x2)*dot n2 (wy P a x1):=by
  have:=congrArg (λv=>dot v (wy P a x1)) (onpl n2 _ _ e2 z2);simp only[dsm] at this;exact this
 have sw:dot (cross (wy P a b) (wy P a x2)) (wy P a x1)=- dot (cross (wy P a b) (wy P a x1)) (wy P a x2):=by simp only[dot,cross];grind
 have m1:T n1 (wy P a b) (wy P a x1)*dot n1 (wy P a x2)<=0:=Int.mul_nonpos_of_nonneg_of_nonpos (zRa ht1) l12;have m2:T n2 (wy P a b) (wy P a x2)*dot n2 (wy P a x1)<=0:=Int.mul_nonpos_of_nonneg_of_nonpos (zRa ht2) l21;have D0:dot (cross (wy P a b) (wy P a x1)) (wy P a x2)=0:=by
  rw[sw] at k2;generalize dot (cross (wy P a b) (wy P a x1)) (wy P a x2)=D at *;rcases zVb D 0 with q|q|q
  ·have:=zMb (a:=dot n2 n2) (b:=-D) hp2 (by omega);omega
  ·exact q
  ·have:=zMb hp1 q;omega
 have n12:dot n1 (wy P a x2)=0:=by
  rw[D0,zYc] at k1;rcases zJc.1 k1.symm with q|q
  ·omega
  ·exact q
 have hx2m:x2∈bo P N n1 d1:=aV.2 ⟨(aV.1 hx2).1,by rw[c7] at n12;have:=(aV.1 ha1).2;omega⟩
 have c2:=onpl n2 _ _ e2 z2;have c1:=onpl n1 _ _ e1 n12;have t12:=(hs1.all x2 hx2m).1;have ne:T n1 (wy P a b) (wy P a x2)≠0:=λe=>by
  have c0:=dZ F1.nz e1 n12 e;have:T n2 (wy P a b) (wy P a x2)=0:=by simp only[T];rw[c0];simp[dot,zero]
  omega
 refine Gl h1.nz.2 h2.nz.2 (a:=T n1 (wy P a b) (wy P a x2)*dot n2 n2) (b:=T n2 (wy P a b) (wy P a x2)*dot n1 n1) (zMb (by omega) hp2) (zMb ht2 hp1) ?_
 simp only[T] at *;generalize cross (wy P a b) (wy P a x2)=K at *;have q1:=congrArg V.x c1;have q2:=congrArg V.y c1;have q3:=congrArg V.z c1;have r1:=congrArg V.x c2;have r2:=congrArg V.y c2;have r3:=congrArg V.z c2;generalize dot n1 n1=A at *;generalize dot n2 n2=B at *;generalize dot n1 K=A' at *;generalize dot n2 K=B' at *;simp only[smul] at q1 q2 q3 r1 r2 r3;apply V.ext'<;>simp only[smul]<;>grind
end
open V
section
variable{n:V}{P:Nat->V}{on:List Nat}
def Side.start(h:Flat n P on){a b:Nat}(ha:a∈on)(hs:Side n P on a b):ld P on a:=by
 obtain⟨K,hK,hb⟩:=iE (λx=>dot (wy P a b) (wy P a x)) on;refine⟨add (smul K (cross n (wy P a b))) (wy P a b),λx hx hxa=>?_⟩;have e:dot (add (smul K (cross n (wy P a b))) (wy P a b)) (wy P a x)=K*T n (wy P a b) (wy P a x)+dot (wy P a b) (wy P a x):=by simp only[T,dot,add,smul,cross];grind
 rw[e];obtain⟨h1,h2⟩:=hs.all x hx;have c:=hb x hx;rcases zsb h1 with k|k
 ·have:K*1<=K*T n (wy P a b) (wy P a x):=zCb (by omega) (zRa hK)
  omega
 ·rw[<-k,zYc,ztc];obtain⟨q1,q2⟩:=h2 k.symm;have sw:dot (wy P a b) (wy P a x)=dot (wy P a x) (wy P a b):=by simp only[dot];grind
  rw[sw];rcases zsb q1 with p|p
  ·exact p
  ·exfalso;have c0:=dZ h.nz (h.pl a ha b hs.mem) (h.pl a ha x hx) k.symm;have pr:=Hg c0 (wy P a b);rw[sw,<-p] at pr;have hp:=bv (rC h ha hs.mem hs.ne);apply rC h ha hx hxa;have p1:=congrArg V.x pr;have p2:=congrArg V.y pr;have p3:=congrArg V.z pr;simp only[smul,Int.zero_mul] at p1 p2 p3;exact V.ext' (bx hp p1) (bx hp p2) (bx hp p3)
end
theorem ql{α:Type}{r:α->α->Prop}(irr:∀ a,¬ r a a)(asy:∀ a b,r a b->¬ r b a):∀ {l l':List α},l.Pairwise r->l'.Pairwise r->(∀ x,x∈l↔x∈l')->l=l'
 | [],[],_,_,_=>rfl
 | [],b::l',_,_,h=>absurd ((h b).2 zma) (by simp)
 | a::l,[],_,_,h=>absurd ((h a).1 zma) (by simp)
 | a::l,b::l',h1,h2,h=>by
  obtain⟨k1,k2⟩:=zQa.1 h1;obtain⟨k3,k4⟩:=zQa.1 h2;have e:a=b:=by
   rcases zEa.1 ((h a).1 zma) with e|m
   ·exact e
   ·rcases zEa.1 ((h b).2 zma) with e|m'
    ·exact e.symm
    ·exact absurd (k1 b m') (asy _ _ (k3 a m))
  subst e;rw[ql irr asy k2 k4 λx=>?_];constructor
  ·intro hx;rcases zEa.1 ((h x).1 (zia _ hx)) with e|m
   ·subst e;exact absurd (k1 x hx) (irr x)
   ·exact m
  ·intro hx;rcases zEa.1 ((h x).2 (zia _ hx)) with e|m
   ·subst e;exact absurd (k3 x hx) (irr x)
   ·exact m
def mu(a:V):¬ aF a a:=by simp only[aF];omega
def vA(a b:V):aF a b->¬ aF b a:=by simp only[aF];omega
def lI{a b c:V}:aF a b->aF b c->aF a c:=by simp only[aF];omega
def pW{a b:V}(h:a≠b):aF a b\/aF b a:=by
 simp only[aF];rcases zVb a.x b.x with h1|h1|h1<;>rcases zVb a.y b.y with h2|h2|h2<;>rcases zVb a.z b.z with h3|h3|h3<;>first|omega|exact absurd (V.ext' h1 h2 h3) h
structure Facets(P:Nat->V)(N:Nat)(L:List (V×Int)):Prop where
 ord:L.Pairwise (λa b=>aF a.1 b.1)
 mem:∀ q,q∈L↔IsF P N q.1 q.2
def Facets.eq{P:Nat->V}{N:Nat}{L L':List (V×Int)}(h:Facets P N L)(h':Facets P N L'):L=L':=
 ql (r:=λa b=>aF a.1 b.1) (λa=>mu a.1) (λa b=>vA a.1 b.1) h.ord h'.ord λx=>(h.mem x).trans (h'.mem x).symm
section
variable{P:Nat->V}{N:Nat}{n:V}{d:Int}
def IsF.d_eq{d':Int}(h:IsF P N n d)(h':IsF P N n d'):d=d':=by
 obtain⟨i,_,_,hij,hjk,hk,_,_,e⟩:=h.ex;obtain⟨i',_,_,hij',hjk',hk',_,_,e'⟩:=h'.ex;have h1:=h.supp.1 i' (by omega)
 have h2:=h'.supp.1 i (by omega)
 omega
def bE(P:Nat->V)(N:Nat)(n:V)(d:Int)(l:List Nat):Prop:=∃ a,(bo P N n d).head?=some a/\Chain (Side n P (bo P N n d)) a a l
def Gc:(bo P N n d).Pairwise (·<·):=List.Pairwise.sublist List.filter_sublist List.pairwise_lt_range
theorem IsF.head(hl:∀ i j,i<j->j<N->aF (P i) (P j))(h:IsF P N n d):∃ a,(bo P N n d).head?=some a/\a∈bo P N n d/\ld P (bo P N n d) a/\(∀ x∈bo P N n d,a<=x)/\∀ c∈bo P N n d,∃ x∈bo P N n d,x≠c:=by
 obtain⟨i,j,k,hij,hjk,hk,mi,mj,mk,ht⟩:=h.three;cases hon:bo P N n d with
 | nil=>rw[hon] at mi;simp at mi
 | cons a l=>
  have ho:(a::l).Pairwise (·<·):=by rw[<-hon];exact Gc
  rw[zQa] at ho;have hle:∀ x∈a::l,a<=x:=λx hx=>by
   rcases zEa.1 hx with e|m
   ·omega
   ·exact zsc (ho.1 x m)
  refine⟨a,rfl,zma,Dv λx hx hxa=>?_,hle,λc hc=>?_⟩
  ·have:=hle x hx;rw[<-hon] at hx;exact hl a x (by omega) (aV.1 hx).1
  ·rw[hon] at mi mj;by_cases e:i=c
   ·exact⟨j,mj,by omega⟩
   ·exact⟨i,mi,e⟩
def IsF.poly(hl:∀ i j,i<j->j<N->aF (P i) (P j))(h:IsF P N n d) :
  ∃ l,bE P N n d l/\l.Nodup/\∀ z,z∈l↔z∈bo P N n d/\ld P (bo P N n d) z:=by
 obtain⟨a,h1,h2,h3,h4,h5⟩:=h.head hl;obtain⟨l,k1,k2,k3,k4⟩:=Bc (h.flat hl) h2 h3 h5;exact⟨l,⟨a,h1,k1⟩,k2,λz=>⟨k3 z,λ⟨q1,q2⟩=>k4 z q1 q2⟩⟩
def bE.eq(hl:∀ i j,i<j->j<N->aF (P i) (P j))(h:IsF P N n d){l l':List Nat}(k:bE P N n d l)(k':bE P N n d l'):l=l':=by
 obtain⟨a,h1,h2⟩:=k;obtain⟨a',h1',h2'⟩:=k';rw[h1] at h1';cases h1';obtain⟨b,g1,g2,g3,g4,g5⟩:=h.head hl;rw[h1] at g1;cases g1;have F:=h.flat hl;have key:∀ {c:Nat} {l l':List Nat},c∈bo P N n d->Chain (Side n P (bo P N n d)) a c l->Chain (Side n P (bo P N n d)) a c l'->l=l':=by
  intro c l l' hc k1
  induction k1 generalizing l' with
  | done s=>intro k2;cases k2 with
   | done _=>rfl
   | step s' hne _=>exact absurd (Side.unique F hc s' s) hne
  | step s hne k ih=>intro k2;cases k2 with
   | done s'=>exact absurd (Side.unique F hc s s') hne
   | step s' _ k'=>
    have e:=Side.unique F hc s s';subst e;rw[ih s.mem k']
 exact key g2 h2 h2'
def bE.next{l:List Nat}(k:bE P N n d l){i:Nat}(hi:i<l.length):Side n P (bo P N n d) (l.getD i 0) (l.getD ((i+1)%l.length) 0):=by
 obtain⟨a,h1,h2⟩:=k;obtain⟨l',e⟩:=h2.head;obtain⟨y,q1,q2⟩:=h2.pairs i (l.getD i 0) (by simp[List.getD,zca hi])
 rcases zqa (i+1) l.length with c|c
 ·rw[zfb c] at q1;rw[zHa c];simp only[List.getD,q1,zmb];exact q2
 ·have ei:i+1=l.length:=by omega
  rw[zzb (by omega),ei,z6c] at q1
  simp at q1;subst q1;rw[ei,Nat.mod_self];have:l.getD 0 0=a:=by rw[e];rfl
  rw[this];exact q2
def Nr(P:Nat->V)(N:Nat)(n:V)(d:Int)(a b:Nat):Prop:=a∈bo P N n d/\Side n P (bo P N n d) a b
def bE.dir(hl:∀ i j,i<j->j<N->aF (P i) (P j))(h:IsF P N n d){l:List Nat}(k:bE P N n d l){a b:Nat} :
  (∃ i,i<l.length/\l.getD i 0=a/\l.getD ((i+1)%l.length) 0=b)↔Nr P N n d a b:=by
 obtain⟨l2,p1,p2,p3⟩:=h.poly hl;have:=bE.eq hl h k p1;subst this;constructor
 ·rintro⟨i,hi,h1,h2⟩;have s:=k.next hi
  rw[h1,h2] at s;refine⟨((p3 a).1 ?_).1,s⟩;rw[<-h1];simp[List.getD,zca hi]
 ·rintro⟨ha,s⟩;have hm:=(p3 a).2 ⟨ha,s.start (h.flat hl) ha⟩;obtain⟨i,hi,e⟩:=zTa hm;have ei:l.getD i 0=a:=by simp[List.getD,zca hi,e]
  have s2:=k.next hi
  rw[ei] at s2;exact⟨i,hi,ei,Side.unique (h.flat hl) ha s2 s⟩
end
section
variable{P:Nat->V}{N:Nat}
end
end Geo
end
noncomputable section
namespace Sy
open Go Go.Proofs Geo
abbrev I(n:Int):D:=.int .i64 n
def ag(v:V):D:=.st [I v.x,I v.y,I v.z]
def inR(n:Int):Prop:=-9223372036854775808<=n/\n<=9223372036854775807
def g7{n:Int}(h:inR n):IntKind.wrap .i64 n=n:=by
 obtain⟨h1,h2⟩:=h;simp only[IntKind.wrap,IntKind.signed,IntKind.bits];first
  | omega
  | (simp;omega)
def av{a b:Int}(h:inR (a+b)):D.bin .add (I a) (I b)=some (I (a+b)):=by simp only[D.bin,if_true,g7 h]
def cV{a b:Int}(h:inR (a-b)):D.bin .sub (I a) (I b)=some (I (a-b)):=by simp only[D.bin,if_true,g7 h]
def bY{a b:Int}(h:inR (a*b)):D.bin .mul (I a) (I b)=some (I (a*b)):=by simp only[D.bin,if_true,g7 h]
def af{a b:Int}:D.bin .lss (I a) (I b)=some (.bool (decide (a<b))):=by simp only[D.bin,if_true]
def sn{a b:Int}:D.bin .leq (I a) (I b)=some (.bool (decide (a<=b))):=by simp only[D.bin,if_true]
def bP{a b:Int}:D.bin .gtr (I a) (I b)=some (.bool (decide (a>b))):=by simp only[D.bin,if_true]
def jd{a b:Int}:D.bin .geq (I a) (I b)=some (.bool (decide (a ≥ b))):=by simp only[D.bin,if_true]
def so{a b:Int}(h:b≠0):D.bin .rem (I a) (I b)=some (I (a.tmod b)):=by simp only[D.bin,if_true,h,if_false]
def uV{a b:Int}(h:b≠0)(hr:inR (a.tdiv b)):D.bin .quo (I a) (I b)=some (I (a.tdiv b)):=by simp only[D.bin,if_true,h,if_false,g7 hr]
def pa{a:Int}(h:inR (-a)):D.un .neg (I a)=some (I (-a)):=by simp only[D.un,Int.zero_sub,g7 h]
def bg{b:Bool}:D.un .not (.bool b)=some (.bool (!b)):=rfl
def ae{b:Bool}:D.truth (.bool b)=some b:=rfl
def CD{a b:Int}:D.max2 (I a) (I b)=some (I (max a b)):=by
 simp only[D.max2];congr 2;split<;>omega
def OB{a b:Int}:D.min2 (I a) (I b)=some (I (min a b)):=by
 simp only[D.min2];congr 2;split<;>omega
def bF{a b:Int}:D.beq (I a) (I b)=decide (a=b):=by simp[D.beq]
def ov(v:V):D.get (ag v) [0]=some (I v.x):=rfl
def ox(v:V):D.get (ag v) [1]=some (I v.y):=rfl
def oy(v:V):D.get (ag v) [2]=some (I v.z):=rfl
def kp(x y z:Int):D.st [D.int .i64 x,D.int .i64 y,D.int .i64 z]=ag ⟨x,y,z⟩:=rfl
def bd(k:Int)(v:V):Prop:=(-k<=v.x/\v.x<=k)/\(-k<=v.y/\v.y<=k)/\(-k<=v.z/\v.z<=k)
def fQ{a b A B:Int}(ha:-A<=a/\a<=A)(hb:-B<=b/\b<=B):-(A*B)<=a*b/\a*b<=A*B:=by
 have hA:0<=A:=by omega
 have hB:0<=B:=by omega
 have h1:(a*b).natAbs<=(A*B).natAbs:=by
  rw[zFa,zFa];exact zVa (by omega) (by omega)
 have h2:0<=A*B:=zZb hA hB;omega
def nl{A B:Int}{u v:V}(hu:bd A u)(hv:bd B v):bd (A+B) (u.sub v):=by
 simp only[bd,V.sub] at *;omega
def nk{A:Int}{u:V}(hu:bd A u):bd A u.neg:=by
 simp only[bd,V.neg] at *;omega
def dX{A B:Int}{u v:V}(hu:bd A u)(hv:bd B v):bd (2*(A*B)) (V.cross u v):=by
 have:=fQ hu.1 hv.1;have:=fQ hu.1 hv.2.1;have:=fQ hu.1 hv.2.2;have:=fQ hu.2.1 hv.1;have:=fQ hu.2.1 hv.2.1;have:=fQ hu.2.1 hv.2.2;have:=fQ hu.2.2 hv.1;have:=fQ hu.2.2 hv.2.1;have:=fQ hu.2.2 hv.2.2;simp only[bd,V.cross];omega
def E3{A B:Int}{u v:V}(hu:bd A u)(hv:bd B v):-(3*(A*B))<=V.dot u v/\V.dot u v<=3*(A*B):=by
 have:=fQ hu.1 hv.1;have:=fQ hu.2.1 hv.2.1;have:=fQ hu.2.2 hv.2.2;simp only[V.dot];omega
def yH{A B:Int}{u v:V}(hu:bd A u)(hv:bd B v)(h:3*(A*B)<=9223372036854775807) :
  inR (u.x*v.x)/\inR (u.y*v.y)/\inR (u.z*v.z)/\inR (u.x*v.x+u.y*v.y)/\inR (u.x*v.x+u.y*v.y+u.z*v.z):=by
 have:=fQ hu.1 hv.1;have:=fQ hu.2.1 hv.2.1;have:=fQ hu.2.2 hv.2.2;simp only[inR];omega
def f101{call:Nat->List D->Option D}{A B:Int}{u v:V}(hu:bd A u)(hv:bd B v)(h:3*(A*B)<=9223372036854775807):EI aN call (ag u) (ag v)=some (I (V.dot u v)):=by
 obtain⟨h1,h2,h3,h4,h5⟩:=yH hu hv h;simp only[EI,qG,qB,ov,ox,oy,zba,bY h1,bY h2,bY h3,av h4,av h5];rfl
def E6(n:Nat){A B:Int}{u v:V}(hu:bd A u)(hv:bd B v)(h:3*(A*B)<=9223372036854775807):cA (n+1) 101 [ag u,ag v]=some (I (V.dot u v)):=by rw[Vp];exact f101 hu hv h
def At(n:Nat){A B:Int}{u v:V}(hu:bd A u)(hv:bd B v)(h:3*(A*B)<=9223372036854775807):cA (n+1) 107 [ag u,ag v]=some (I (V.dot u v)):=by
 obtain⟨h1,h2,h3,h4,h5⟩:=yH hu hv h;rw[Vu];simp only[Ho,qG,qB,ov,ox,oy,zba,bY h1,bY h2,bY h3,av h4,av h5];rfl
def sG{A B:Int}{u v:V}(hu:bd A u)(hv:bd B v)(h:2*(A*B)<=9223372036854775807) :
  inR (u.y*v.z)/\inR (u.z*v.y)/\inR (u.z*v.x)/\inR (u.x*v.z)/\inR (u.x*v.y)/\inR (u.y*v.x)/\inR (u.y*v.z-u.z*v.y)/\inR (u.z*v.x-u.x*v.z)/\inR (u.x*v.y-u.y*v.x):=by
 have:=fQ hu.1 hv.1;have:=fQ hu.1 hv.2.1;have:=fQ hu.1 hv.2.2;have:=fQ hu.2.1 hv.1;have:=fQ hu.2.1 hv.2.1;have:=fQ hu.2.1 hv.2.2;have:=fQ hu.2.2 hv.1;have:=fQ hu.2.2 hv.2.1;have:=fQ hu.2.2 hv.2.2;simp only[inR];omega
def LV(n:Nat){A B:Int}{u v:V}(hu:bd A u)(hv:bd B v)(h:2*(A*B)<=9223372036854775807):cA (n+1) 117 [ag u,ag v]=some (ag (V.cross u v)):=by
 obtain⟨h1,h2,h3,h4,h5,h6,h7,h8,h9⟩:=sG hu hv h;rw[VC];simp only[Hw,qG,qB,ov,ox,oy,zba,bY h1,bY h2,bY h3,bY h4,bY h5,bY h6,cV h7,cV h8,cV h9];rfl
def LW(n:Nat){A B:Int}{u v:V}(hu:bd A u)(hv:bd B v)(h:2*(A*B)<=9223372036854775807):cA (n+1) 123 [ag u,ag v]=some (ag (V.cross u v)):=by
 obtain⟨h1,h2,h3,h4,h5,h6,h7,h8,h9⟩:=sG hu hv h;rw[VJ];simp only[HC,qG,qB,ov,ox,oy,zba,bY h1,bY h2,bY h3,bY h4,bY h5,bY h6,cV h7,cV h8,cV h9];rfl
def XG(n:Nat){A:Int}{u:V}(hu:bd A u)(h:A<=9223372036854775807):cA (n+1) 97 [ag u]=some (ag u.neg):=by
 have h1:inR (-u.x):=by simp only[bd,inR] at *;omega
 have h2:inR (-u.y):=by simp only[bd,inR] at *;omega
 have h3:inR (-u.z):=by simp only[bd,inR] at *;omega
 rw[u97];simp only[PK,qG,ov,ox,oy,zba,pa h1,pa h2,pa h3];rfl
end Sy
end
noncomputable section
namespace Sy
open Go Go.Proofs Geo
abbrev Bd:=List D->Option (Sum (List D) (Nat×List D))
def cn{body:Bd}{s s':List D}{k:Nat×List D->Option D}{y:D}(h:body s=some (.inl s'))(hk:Option.bind (aN body s') k=some y):Option.bind (aN body s) k=some y:=by
 have:aN body s=aN body s':=cS h;rw[this];exact hk
def fP{body:Bd}{s:List D}{r:Nat×List D}{k:Nat×List D->Option D}{y:D}(h:body s=some (.inr r))(hk:k r=some y):Option.bind (aN body s) k=some y:=by
 have:aN body s=some r:=cL h;rw[this];exact hk
def nB{body:Bd}{s:List D}{r:Nat×List D}{k:Nat×List D->Option D}{y:D}(h:aN body s=some r)(hk:k r=some y):Option.bind (aN body s) k=some y:=by
 rw[h];exact hk
def ba{body:Bd}{s0:List D}{k:Nat×List D->Option D}{y:D}(J:Nat->List D->Prop)(n i0:Nat)(hi:i0<=n)(h0:J i0 s0)
  (hs:∀ i,i<n->∀ s,J i s->(∃ s',body s=some (.inl s')/\J (i+1) s')\/∃ r,body s=some (.inr r)/\k r=some y) (he:∀ s,J n s->∃ r,body s=some (.inr r)/\k r=some y):Option.bind (aN body s0) k=some y:=by
 obtain⟨m,hm⟩:∃ m,m=n-i0:=⟨_,rfl⟩
 induction m generalizing i0 s0 with
 | zero=>
  have:i0=n:=by omega
  subst this;obtain⟨r,h1,h2⟩:=he s0 h0;exact fP h1 h2
 | succ m ih=>
  rcases hs i0 (by omega) s0 h0 with⟨s',h1,h2⟩|⟨r,h1,h2⟩
  ·exact cn h1 (ih (i0:=i0+1) (by omega) h2 (by omega))
  ·exact fP h1 h2
def Cz{body:Bd}{s0:List D}(J:Nat->List D->Prop)(Q:Nat×List D->Prop)(n i0:Nat)(hi:i0<=n)(h0:J i0 s0)
  (hs:∀ i,i<n->∀ s,J i s->(∃ s',body s=some (.inl s')/\J (i+1) s')\/∃ r,body s=some (.inr r)/\Q r) (he:∀ s,J n s->∃ r,body s=some (.inr r)/\Q r):∃ r,aN body s0=some r/\Q r:=by
 obtain⟨m,hm⟩:∃ m,m=n-i0:=⟨_,rfl⟩
 induction m generalizing i0 s0 with
 | zero=>
  have:i0=n:=by omega
  subst this;obtain⟨r,h1,h2⟩:=he s0 h0;exact⟨r,cL h1,h2⟩
 | succ m ih=>
  rcases hs i0 (by omega) s0 h0 with⟨s',h1,h2⟩|⟨r,h1,h2⟩
  ·obtain⟨r,k1,k2⟩:=ih (i0:=i0+1) (by omega) h2 (by omega)
   exact⟨r,by rw[show aN body s0=aN body s' from cS h1];exact k1,k2⟩
  ·exact⟨r,cL h1,h2⟩
def ak{i n:Nat}(h:i<n):D.idx (I (i:Int)) n=some i:=by
 simp only[D.idx];rw[if_pos (by omega)];simp
def aw{i:Nat}(h:i<=9223372036854775806):inR ((i:Int)+1):=by simp only[inR];omega
def g0{x:D}{l:List D}{d:D}:List.getD (x::l) 0 d=x:=rfl
def g1{x y:D}{l:List D}{d:D}:List.getD (x::y::l) 1 d=y:=rfl
def g2{x y z:D}{l:List D}{d:D}:List.getD (x::y::z::l) 2 d=z:=rfl
def g3{x y z w:D}{l:List D}{d:D}:List.getD (x::y::z::w::l) 3 d=w:=rfl
def Vl(v:V)(a:Int):D.set (ag v) [0] (I a)=some (ag ⟨a,v.y,v.z⟩):=rfl
def Vm(v:V)(a:Int):D.set (ag v) [1] (I a)=some (ag ⟨v.x,a,v.z⟩):=rfl
def Vn(v:V)(a:Int):D.set (ag v) [2] (I a)=some (ag ⟨v.x,v.y,a⟩):=rfl
def Li:D.idx (I 0) 3=some 0:=rfl
def Lj:D.idx (I 1) 3=some 1:=rfl
def Lk:D.idx (I 2) 3=some 2:=rfl
def Un(n:Nat){A B:Int}{u v:V}(hu:bd A u)(hv:bd B v)(h:A+B<=9223372036854775807):cA (n+1) 154 [ag u,ag v]=some (ag (u.add v)):=by
 have h1:inR (u.x+v.x):=by simp only[bd,inR] at *;omega
 have h2:inR (u.y+v.y):=by simp only[bd,inR] at *;omega
 have h3:inR (u.z+v.z):=by simp only[bd,inR] at *;omega
 rw[V6]
 delta HZ qB qC qJ qZ iL iR Jn
 refine cn (s':=[I 1,ag ⟨u.x+v.x,u.y,u.z⟩]) ?_ (cn (s':=[I 2,ag ⟨u.x+v.x,u.y+v.y,u.z⟩]) ?_ (cn (s':=[I 3,ag ⟨u.x+v.x,u.y+v.y,u.z+v.z⟩]) ?_ (fP (r:=(0,[ag (u.add v)])) ?_ rfl)))
 ·simp only[g0,g1,af,zba,ae,Li,ov,Vl,av h1,av (show inR (0+1) from⟨by decide,by decide⟩)];rfl
 ·simp only[g0,g1,af,zba,ae,Lj,ox,Vm,av h2,av (show inR (1+1) from⟨by decide,by decide⟩)];rfl
 ·simp only[g0,g1,af,zba,ae,Lk,oy,Vn,av h3,av (show inR (2+1) from⟨by decide,by decide⟩)];rfl
 ·simp only[g0,g1,af,zba,ae];rfl
def Jk(u v:V):u.add v.neg=u.sub v:=by apply V.ext'<;>simp only[V.add,V.neg,V.sub]<;>omega
def Jv(n:Nat){A B:Int}{u v:V}(hu:bd A u)(hv:bd B v)(h:A+B<=9223372036854775807):cA (n+2) 103 [ag u,ag v]=some (ag (u.sub v)):=by
 have hA:0<=A:=by simp only[bd] at hu;omega
 rw[Vq];simp only[Hk,XG n hv (by omega),zba,Un n hu (nk hv) h,Jk]
def wI(n:Nat){A B:Int}{u v:V}(hu:bd A u)(hv:bd B v)(h:A+B<=9223372036854775807):cA (n+1) 112 [ag u,ag v]=some (ag (u.sub v)):=by
 have h1:inR (u.x-v.x):=by simp only[bd,inR] at *;omega
 have h2:inR (u.y-v.y):=by simp only[bd,inR] at *;omega
 have h3:inR (u.z-v.z):=by simp only[bd,inR] at *;omega
 rw[Vz];simp only[Ht,qG,qB,ov,ox,oy,zba,cV h1,cV h2,cV h3];rfl
def bQ(a b:Int):Int:=if a<b then -1 else if a>b then 1 else 0
def Ue(n:Nat)(a:Int):cA (n+1) 115 [I a]=some (.bool false):=by
 rw[VA];simp only[Hu,bF];simp
def PS(n:Nat)(a b:Int):cA (n+2) 53 [I a,I b]=some (I (bQ a b)):=by
 rw[Z7];simp only[Pn,qC,qT,Jn,Ue,zba,ae,zBa,if_false,af,bP,bQ,decide_eq_true_eq];split
 ·rfl
 ·split<;>rfl
def xt:List Int->Int
 | []=>0
 | x::l=>if x=0 then xt l else x
def ZB(n:Nat)(l:List Int)(hl:l.length<=1000):cA (n+1) 52 [.sl (l.map λx=>I x)]=some (I (xt l)):=by
 rw[Z6]
 delta Pm qB qC qT qS qX qZ iL iR Jn
 simp only[D.asSl,zba];refine ba (λi s=>s=[I i]/\xt l=xt (l.drop i)) l.length 0 (zga _) ⟨rfl,rfl⟩ (λi hi s hJ=>?_) (λs hJ=>?_)
 ·obtain⟨rfl,hz⟩:=hJ;have hx:(l.map λx=>I x)[i]?=some (I l[i]):=by simp[hi]
  simp only[g0,zoa,af,zba,ae,decide_eq_true_eq,show((i:Int)<(l.length:Int)) from by omega,if_true,ak hi,hx,bF]
  have hd:l.drop i=l[i]::l.drop (i+1):=zkb hi;rw[hd] at hz;by_cases h0:l[i]=0
  ·left;refine⟨[I ((i+1:Nat):Int)],?_,rfl,?_⟩
   ·simp only[h0,decide_true,zac,zBa,if_false,av (aw (i:=i) (by omega)),zba];rfl
   ·rw[hz];simp[xt,h0]
  ·right;refine⟨(0,[I l[i]]),?_,?_⟩
   ·simp[h0]
   ·rw[hz];simp[xt,h0]
 ·obtain⟨rfl,hz⟩:=hJ;refine⟨(1,[]),?_,?_⟩
  ·simp only[g0,zoa,af,zba,ae,decide_eq_true_eq,zMc,if_false]
  ·rw[hz];simp[xt]
end Sy
end
noncomputable section
namespace Sy
open Go Go.Proofs Geo
def yS{body:Bd}(h0:∀ a b:Int,b≠0->body [I a,I b]=some (.inl [I b,I (a.tmod b)]))(h1:∀ a:Int,body [I a,I 0]=some (.inr (0,[I a]))) :
  ∀ (m:Nat) (a b:Int),b.natAbs=m->∃ r:Int,aN body [I a,I b]=some (0,[I r])/\r.natAbs=Nat.gcd a.natAbs b.natAbs:=by
 intro m
 induction m using Nat.strongRecOn with
 | _ m ih=>
  intro a b hb;by_cases hz:b=0
  ·subst hz;exact⟨a,cL (h1 a),by simp⟩
  ·have hlt:(a.tmod b).natAbs<m:=by
    rw[Int.natAbs_tmod,<-hb];exact zUa _ (by omega)
   obtain⟨r,k1,k2⟩:=ih _ hlt b (a.tmod b) rfl;refine⟨r,?_,?_⟩
   ·rw[show aN body [I a,I b]=aN body [I b,I (a.tmod b)] from cS (h0 a b hz)];exact k1
   ·rw[k2,Int.natAbs_tmod,zEc a.natAbs,Nat.gcd_rec b.natAbs a.natAbs,zEc]
def pO{a b:Int}{k:Nat}(ha:a.natAbs<=k)(hb:b.natAbs<=k):Nat.gcd a.natAbs b.natAbs<=k:=by
 rcases zrb a.natAbs with h|h
 ·rw[h,Nat.gcd_zero_left];exact hb
 ·exact zCa (Nat.le_of_dvd h (zhb _ _)) ha
def LZ(n:Nat){a b:Int}(ha:a.natAbs<=9223372036854775807)(hb:b.natAbs<=9223372036854775807):cA (n+1) 152 [I a,I b]=some (I (Nat.gcd a.natAbs b.natAbs:Nat)):=by
 rw[OU]
 delta EM qB qT qZ iL iR Jn
 obtain⟨r,h1,h2⟩:=yS (body:=λ(v1:List D)=>
  Option.bind (D.truth (D.bool (!(D.beq (gx v1 1) (D.int .i64 0))))) λb2=>
  if b2 then(Option.bind (D.bin .rem (gx v1 0) (gx v1 1)) λx3=>
  some (Sum.inl [(gx v1 1),x3])) else(some (Sum.inr (0,[(gx v1 0)]))))
  (λa b hb=>by simp only[g0,g1,bF,ae,zba,hb,decide_false,zRb,if_true,so hb])
  (λa=>by simp only[g0,g1,bF,ae,zba,decide_true,zac,zBa,if_false]) _ a b rfl
 refine nB h1 ?_;have hr:r.natAbs<=9223372036854775807:=by rw[h2];exact pO ha hb
 have hn:inR (-r):=by simp only[inR];omega
 simp only[zba,g0,pa hn,CD];congr 2;omega
def gA{a:Int}{g:Nat}(hg:0<g)(h:(g:Int) ∣ a):a.tdiv g=a/g:=by
 obtain⟨c,rfl⟩:=h;rw[zsd _ (by omega),z0a _ (by omega)]
def yI(v:V):(bw v:Int) ∣ v.x:=z4a.2 (zdd (zhb _ _) (zhb _ _))
def yJ(v:V):(bw v:Int) ∣ v.y:=z4a.2 (zdd (zhb _ _) (zwb _ _))
def yK(v:V):(bw v:Int) ∣ v.z:=z4a.2 (zwb _ _)
def pF{a:Int}{g:Nat}{k:Int}(h:-k<=a/\a<=k)(hd:(g:Int) ∣ a):-k<=a/g/\a/g<=k:=by
 have h1:(a/(g:Int)).natAbs<=a.natAbs:=by
  rcases zrb g with e|e
  ·subst e;simp
  ·obtain⟨c,rfl⟩:=hd;rw[z0a _ (by omega),zFa]
   exact zub _ (by omega)
 omega
def je{k:Int}{v:V}(h:bd k v):bd k (br v):=⟨pF h.1 (yI v),pF h.2.1 (yJ v),pF h.2.2 (yK v)⟩
def cd(q:V×Int):D:=.st [ag q.1,I q.2]
def MV:Int:=262144
def jf{P:Nat->V}{i j:Nat}(hi:bd MV (P i))(hj:bd MV (P j)):bd 524288 (wy P i j):=by
 have:=nl hj hi;simpa [MV,wy] using this
def ZG(n:Nat){a b c:V}(ha:bd MV a)(hb:bd MV b)(hc:bd MV c):cA (n+3) 96 [ag a,ag b,ag c]=some (cd (br (V.cross (b.sub a) (c.sub a)),V.dot (br (V.cross (b.sub a) (c.sub a))) a)):=by
 have h1:bd 524288 (b.sub a):=by have:=nl hb ha;simpa [MV] using this
 have h2:bd 524288 (c.sub a):=by have:=nl hc ha;simpa [MV] using this
 rw[u96]
 delta PJ qG qB qC Jn
 simp only[Jv n hb ha (by decide),Jv n hc ha (by decide),zba,LV (n+1) h1 h2 (by decide)]
 have h3:=dX h1 h2;generalize V.cross (b.sub a) (c.sub a)=m at *;have e1:m.x.natAbs<=549755813888:=by have:=h3.1;omega
 have e2:m.y.natAbs<=549755813888:=by have:=h3.2.1;omega
 have e3:m.z.natAbs<=549755813888:=by have:=h3.2.2;omega
 have e4:Nat.gcd m.x.natAbs m.y.natAbs<=549755813888:=pO e1 e2;have e5:Nat.gcd (Nat.gcd m.x.natAbs m.y.natAbs) m.z.natAbs=bw m:=rfl;simp only[ov,ox,oy,zba,LZ (n+1) (a:=m.x) (b:=m.y) (by omega) (by omega),LZ (n+1) (a:=((Nat.gcd m.x.natAbs m.y.natAbs:Nat):Int)) (b:=m.z) (by rw[zxa];omega) (by omega),zxa,e5,bP,ae,decide_eq_true_eq]
 have h4:=je h3;have fin:∀ w:V,w=br m->cA (n+2) 101 [ag w,ag a]=some (I (V.dot w a)):=λw hw=>E6 (n+1) (hw ▸ h4) ha (by decide)
 by_cases hg:(bw m:Int)>1
 ·have hg0:(bw m:Int)≠0:=by omega
  have hgp:0<bw m:=by omega
  have r1:inR (m.x.tdiv (bw m)):=by rw[gA hgp (yI m)];have:=pF h3.1 (yI m);simp only[inR];omega
  have r2:inR (m.y.tdiv (bw m)):=by rw[gA hgp (yJ m)];have:=pF h3.2.1 (yJ m);simp only[inR];omega
  have r3:inR (m.z.tdiv (bw m)):=by rw[gA hgp (yK m)];have:=pF h3.2.2 (yK m);simp only[inR];omega
  have ep:(D.st [I (m.x.tdiv (bw m)),I (m.y.tdiv (bw m)),I (m.z.tdiv (bw m))])=ag (br m):=by
   rw[gA hgp (yI m),gA hgp (yJ m),gA hgp (yK m)];rfl
  simp only[if_pos hg,uV hg0 r1,uV hg0 r2,uV hg0 r3,zba,g0,ep,fin _ rfl];rfl
 ·have ep:m=br m:=by
   rcases zqa 0 (bw m) with k|k
   ·have e:bw m=1:=by omega
    have:=iI m;rw[e] at this;rw[this]
    conv=>rhs;rw[<-this]
    apply V.ext'<;>simp[V.smul]
   ·have e:bw m=0:=by omega
    have hm:m=V.zero:=by
     by_cases hm:m=V.zero
     ·exact hm
     ·have:=jN hm;omega
    rw[hm];rfl
  simp only[if_neg hg,zba,g0,fin m ep];rw[<-ep];rfl
end Sy
end
noncomputable section
namespace Sy
open Go Go.Proofs Geo
def Vh(a b c:Int):D.sl [I a,I b,I c]=D.sl ([a,b,c].map λx=>I x):=rfl
def Ub(n:Nat)(p q:V×Int):cA (n+3) 100 [cd p,cd q]=some (I (xt [bQ p.1.x q.1.x,bQ p.1.y q.1.y,bQ p.1.z q.1.z])):=by
 rw[Vo]
 delta Hj qG
 simp only[show ∀ p:V×Int,D.get (cd p) [0]=some (ag p.1) from λ_=>rfl,show ∀ p:V×Int,D.get (cd p) [0,0]=some (I p.1.x) from λ_=>rfl,show ∀ p:V×Int,D.get (cd p) [0,1]=some (I p.1.y) from λ_=>rfl,show ∀ p:V×Int,D.get (cd p) [0,2]=some (I p.1.z) from λ_=>rfl,ov,ox,oy,zba,PS,Vh,ZB (n+1) [bQ p.1.x q.1.x,bQ p.1.y q.1.y,bQ p.1.z q.1.z] (by simp)]
def wP(a:Int):bQ a 0=sg a:=rfl
def OL(a:Int):-1<=sg a/\sg a<=1:=by unfold sg;split<;>(try split)<;>omega
def pR(a b:Int):inR (sg a*sg b):=by
 have:=fQ (A:=1) (B:=1) (OL a) (OL b);simp only[inR];omega
def Om(v:V):D.fld (ag v) 0=some (I v.x):=rfl
def On(v:V):D.fld (ag v) 1=some (I v.y):=rfl
def Oo(v:V):D.fld (ag v) 2=some (I v.z):=rfl
def Mn:inR (0+1):=⟨by decide,by decide⟩
def tg:inR (1+1):=⟨by decide,by decide⟩
def Nh:inR (2+1):=⟨by decide,by decide⟩
def Uc(n:Nat){A B:Int}{m u v:V}(hu:bd A u)(hv:bd B v)(h:2*(A*B)<=9223372036854775807):cA (n+3) 104 [ag m,ag u,ag v]=some (I (vw m (V.cross u v))):=by
 rw[Vr]
 delta Hl qB qC qT qJ qZ iL iR Jn
 simp only[LV (n+1) hu hv h,zba];generalize V.cross u v=c;unfold vw;by_cases hx:m.x=0
 ·refine cn (s':=[I 1]) (by simp only[g0,af,zba,ae,Li,Om,bF,hx,decide_true,zac,zBa,if_false,av Mn];rfl) ?_
  by_cases hy:m.y=0
  ·refine cn (s':=[I 2]) (by simp only[g0,af,zba,ae,Lj,On,bF,hy,decide_true,zac,zBa,if_false,av tg];rfl) ?_
   by_cases hz:m.z=0
   ·refine cn (s':=[I 3]) (by simp only[g0,af,zba,ae,Lk,Oo,bF,hz,decide_true,zac,zBa,if_false,av Nh];rfl) ?_
    refine fP (r:=(1,[])) (by simp only[g0,af,zba,ae];rfl) ?_
    simp[hx,hy,hz]
   ·refine fP (r:=(0,[I (sg c.z*sg m.z)])) ?_ (by simp[hx,hy,hz,zKc])
    simp only[g0,af,zba,ae,Lk,Oo,oy,bF,hz,decide_false,zRb,if_true,PS,wP,bY (pR _ _)];rfl
  ·refine fP (r:=(0,[I (sg c.y*sg m.y)])) ?_ (by simp[hx,hy,zKc])
   simp only[g0,af,zba,ae,Lj,On,ox,bF,hy,decide_false,zRb,if_true,PS,wP,bY (pR _ _)];rfl
 ·refine fP (r:=(0,[I (sg c.x*sg m.x)])) ?_ (by simp[hx,zKc])
  simp only[g0,af,zba,ae,Li,Om,ov,bF,hx,decide_false,zRb,if_true,PS,wP,bY (pR _ _)];rfl
def L1(n:Nat)(a:Int):cA (n+1) 215 [I a]=some (I (sg a)):=by
 rw[Ws];simp only[Ii,qC,Jn,af,bP,zba,ae,decide_eq_true_eq,sg];split
 ·rfl
 ·split
  ·rfl
  ·rfl
def Uw(n:Nat)(m c:V):cA (n+2) 188 [ag m,ag c]=some (I (vw m c)):=by
 rw[Wl]
 delta Ic qB qC qT qJ qZ iL iR Jn vw
 by_cases hx:m.x=0
 ·refine cn (s':=[I 1]) (by simp only[g0,af,zba,ae,Li,ov,bF,hx,decide_true,zac,zBa,if_false,av Mn];rfl) ?_
  by_cases hy:m.y=0
  ·refine cn (s':=[I 2]) (by simp only[g0,af,zba,ae,Lj,ox,bF,hy,decide_true,zac,zBa,if_false,av tg];rfl) ?_
   by_cases hz:m.z=0
   ·refine cn (s':=[I 3]) (by simp only[g0,af,zba,ae,Lk,oy,bF,hz,decide_true,zac,zBa,if_false,av Nh];rfl) ?_
    refine fP (r:=(1,[])) (by simp only[g0,af,zba,ae];rfl) ?_
    simp[hx,hy,hz]
   ·refine fP (r:=(0,[I (sg m.z*sg c.z)])) ?_ (by simp[hx,hy,hz])
    simp only[g0,af,zba,ae,Lk,oy,bF,hz,decide_false,zRb,if_true,L1,bY (pR _ _)];rfl
  ·refine fP (r:=(0,[I (sg m.y*sg c.y)])) ?_ (by simp[hx,hy])
   simp only[g0,af,zba,ae,Lj,ox,bF,hy,decide_false,zRb,if_true,L1,bY (pR _ _)];rfl
 ·refine fP (r:=(0,[I (sg m.x*sg c.x)])) ?_ (by simp[hx])
  simp only[g0,af,zba,ae,Li,ov,bF,hx,decide_false,zRb,if_true,L1,bY (pR _ _)];rfl
instance decLex (a b:V):Decidable (aF a b):=by unfold aF;exact inferInstance
def LU(n:Nat)(a b:V):cA (n+1) 105 [ag a,ag b]=some (.bool (decide (aF a b))):=by
 rw[Vs];simp only[Hm,qG,qB,qT,ov,ox,oy,zba,bF,ae,af,zMa,decide_eq_false_iff_not];by_cases h1:a.x=b.x
 ·by_cases h2:a.y=b.y
  ·simp[h1,h2,aF]
  ·simp only[h1,h2,aF,not_true,if_false,not_false_iff,if_true,zMc,false_or,true_and,false_and,or_false]
 ·simp only[h1,aF,not_false_iff,if_true,false_and,or_false]
def aS(l:List V):D:=.sl (l.map ag)
def qn(l:List V)(m:V)(d:Int):Bool:=l.all λx=>decide (V.dot m x<=d)
def jU(l:List V)(m:V)(d:Int):Bool:=l.any λx=>decide (V.dot m x<d)
def nw{l:List V}{i:Nat}(h:i<l.length):(l.map ag)[i]?=some (ag l[i]):=by simp[h]
def NI(n:Nat){A:Int}{l:List V}{m:V}{d:Int}(hl:∀ x∈l,bd MV x)(hm:bd A m)(hA:3*(A*262144)<=9223372036854775807)(hlen:l.length<=1000000):cA (n+2) 109 [aS l,ag m,I d]=some (.bool (qn l m d&&jU l m d)):=by
 rw[Vw]
 delta Hq qB qC qT qX qL qZ iL iR Jn
 refine ba (λi s=>s=[.bool (jU (l.take i) m d),I i]/\qn (l.take i) m d=true) l.length 0 (zga _) ⟨by simp[jU],by simp[qn]⟩ (λi hi s hJ=>?_) (λs hJ=>?_)
 ·obtain⟨rfl,hs⟩:=hJ;have ht:l.take (i+1)=l.take i++[l[i]]:=zka hi;have hc:=At n hm (hl l[i] (zla hi)) hA;simp only[aS,D.asSl,g0,g1,zoa,af,bP,zba,ae,decide_eq_true_eq,show((i:Int)<(l.length:Int)) from by omega,if_true,ak hi,nw hi,hc]
  by_cases hgt:V.dot m l[i]>d
  ·right;refine⟨(0,[.bool false]),by simp only[hgt,if_true],?_⟩
   have:qn l m d=false:=by
    rw[zJb];intro h;have:=zra.1 h l[i] (zla hi);simp at this;omega
   simp[g0,this]
  ·left;refine⟨[.bool (jU (l.take (i+1)) m d),I ((i+1:Nat):Int)],?_,rfl,?_⟩
   ·simp only[hgt,if_false,av (aw (i:=i) (by omega)),zba]
    have e:jU (l.take (i+1)) m d=(jU (l.take i) m d||decide (V.dot m l[i]<d)):=by rw[ht];simp only[jU,zIc,List.any_cons,List.any_nil,Bool.or_false]
    rw[e];cases jU (l.take i) m d<;>simp
   ·rw[ht];simp only[qn,zgd,zaa] at hs ⊢;exact⟨hs,by simp;omega⟩
 ·obtain⟨rfl,hs⟩:=hJ;refine⟨(1,[.bool (jU (l.take l.length) m d)]),?_,?_⟩
  ·simp only[aS,D.asSl,g0,g1,zoa,af,zba,ae,decide_eq_true_eq,zMc,if_false]
  ·rw[zIa] at *;simp[g0,hs]
def ZH(n:Nat){A:Int}{l:List V}{m:V}{d:Int}(hl:∀ x∈l,bd MV x)(hm:bd A m)(hA:3*(A*262144)<=9223372036854775807)(hlen:l.length<=1000000):cA (n+2) 98 [aS l,cd (m,d)]=some (.bool (qn l m d&&jU l m d)):=by
 rw[u98]
 delta PL qG qB qC qT qS qX qZ iL iR Jn
 simp only[aS,D.asSl,zba];refine ba (λi s=>s=[.bool (!jU (l.take i) m d),I i]/\qn (l.take i) m d=true) l.length 0 (zga _) ⟨by simp[jU],by simp[qn]⟩ (λi hi s hJ=>?_) (λs hJ=>?_)
 ·obtain⟨rfl,hs⟩:=hJ;have ht:l.take (i+1)=l.take i++[l[i]]:=zka hi;have hc:=E6 n hm (hl l[i] (zla hi)) hA;simp only[g0,g1,zoa,af,bP,zba,ae,decide_eq_true_eq,show((i:Int)<(l.length:Int)) from by omega,if_true,ak hi,nw hi,show D.get (cd (m,d)) [0]=some (ag m) from rfl,show D.get (cd (m,d)) [1]=some (I d) from rfl,hc,bF]
  by_cases hgt:V.dot m l[i]>d
  ·right;refine⟨(0,[.bool false]),by simp only[hgt,if_true],?_⟩
   have:qn l m d=false:=by
    rw[zJb];intro h;have:=zra.1 h l[i] (zla hi);simp at this;omega
   simp[g0,this]
  ·left;refine⟨[.bool (!jU (l.take (i+1)) m d),I ((i+1:Nat):Int)],?_,rfl,?_⟩
   ·simp only[hgt,if_false,av (aw (i:=i) (by omega)),zba]
    have e:(!jU (l.take (i+1)) m d)=(!jU (l.take i) m d&&decide (V.dot m l[i]=d)):=by
     rw[ht];simp only[jU,zIc,List.any_cons,List.any_nil,Bool.or_false,Bool.not_or];congr 1;by_cases h2:V.dot m l[i]=d
     ·simp[h2]
     ·have:V.dot m l[i]<d:=by omega
      simp[h2,this]
    rw[e];cases jU (l.take i) m d<;>simp
   ·rw[ht];simp only[qn,zgd,zaa] at hs ⊢;exact⟨hs,by simp;omega⟩
 ·obtain⟨rfl,hs⟩:=hJ;refine⟨(1,[.bool (!jU (l.take l.length) m d)]),?_,?_⟩
  ·simp only[g0,g1,zoa,af,zba,ae,decide_eq_true_eq,zMc,if_false]
  ·rw[zIa] at *;simp[g0,hs,bg]
end Sy
end
noncomputable section
namespace Sy
open Go Go.Proofs Geo
def cW{α:Type}{body:Bd}{s0:List D}{k:Nat×List D->Option α}{Y:α->Prop}(J:Nat->List D->Prop)(n i0:Nat)(hi:i0<=n)(h0:J i0 s0)
  (hs:∀ i,i<n->∀ s,J i s->∃ z,body s=some z/\match z with|.inl s'=>J (i+1) s'|.inr r=>∃ y,k r=some y/\Y y)
  (he:∀ s,J n s->∃ z,body s=some z/\match z with|.inl _=>False|.inr r=>∃ y,k r=some y/\Y y):∃ y,Option.bind (aN body s0) k=some y/\Y y:=by
 obtain⟨m,hm⟩:∃ m,m=n-i0:=⟨_,rfl⟩
 induction m generalizing i0 s0 with
 | zero=>
  have:i0=n:=by omega
  subst this;obtain⟨z,h1,h2⟩:=he s0 h0;cases z with
  | inl s'=>exact h2.elim
  | inr r=>obtain⟨y,h3,h4⟩:=h2;exact⟨y,by rw[show aN body s0=some r from cL h1];exact h3,h4⟩
 | succ m ih=>
  obtain⟨z,h1,h2⟩:=hs i0 (by omega) s0 h0
  cases z with
  | inl s'=>
   obtain⟨y,h3,h4⟩:=ih (i0:=i0+1) (by omega) h2 (by omega)
   exact⟨y,by rw[show aN body s0=aN body s' from cS h1];exact h3,h4⟩
  | inr r=>obtain⟨y,h3,h4⟩:=h2;exact⟨y,by rw[show aN body s0=some r from cL h1];exact h3,h4⟩
def bn{α:Type}{body:Bd}{s s':List D}{k:Nat×List D->Option α}{y:α}(h:body s=some (.inl s'))(hk:Option.bind (aN body s') k=some y):Option.bind (aN body s) k=some y:=by
 have:aN body s=aN body s':=cS h;rw[this];exact hk
def fc{α:Type}{body:Bd}{s:List D}{r:Nat×List D}{k:Nat×List D->Option α}{y:α}(h:body s=some (.inr r))(hk:k r=some y):Option.bind (aN body s) k=some y:=by
 have:aN body s=some r:=cL h;rw[this];exact hk
def bT{α:Type}{body:Bd}{s0:List D}{k:Nat×List D->Option α}{y:α}(J:Nat->List D->Prop)(n i0:Nat)(hi:i0<=n)(h0:J i0 s0)
  (hs:∀ i,i<n->∀ s,J i s->(∃ s',body s=some (.inl s')/\J (i+1) s')\/∃ r,body s=some (.inr r)/\k r=some y) (he:∀ s,J n s->∃ r,body s=some (.inr r)/\k r=some y):Option.bind (aN body s0) k=some y:=by
 obtain⟨m,hm⟩:∃ m,m=n-i0:=⟨_,rfl⟩
 induction m generalizing i0 s0 with
 | zero=>
  have:i0=n:=by omega
  subst this;obtain⟨r,h1,h2⟩:=he s0 h0;exact fc h1 h2
 | succ m ih=>
  rcases hs i0 (by omega) s0 h0 with⟨s',h1,h2⟩|⟨r,h1,h2⟩
  ·exact bn h1 (ih (i0:=i0+1) (by omega) h2 (by omega))
  ·exact fc h1 h2
def aa{α β:Type}{A:Option α}{g:α->Option β}{z:α}{y:β}(h:A=some z)(hk:g z=some y):Option.bind A g=some y:=by
 rw[h];exact hk
def im(u v:V):D.beq (ag u) (ag v)=decide (u=v):=by
 simp only[ag,D.beq,D.beqs,decide_true,zIb,Bool.and_true];by_cases h:u=v
 ·subst h;simp
 ·by_cases h1:u.x=v.x<;>by_cases h2:u.y=v.y<;>by_cases h3:u.z=v.z<;>simp[h,h1,h2,h3];exact h (V.ext' h1 h2 h3)
def KU(p q:V×Int):D.beq (cd p) (cd q)=decide (p=q):=by
 have:D.beq (cd p) (cd q)=(D.beq (ag p.1) (ag q.1)&&(D.beq (I p.2) (I q.2)&&true)):=rfl;rw[this,im,bF];obtain⟨a,b⟩:=p;obtain⟨c,d⟩:=q;by_cases h1:a=c<;>by_cases h2:b=d<;>simp[h1,h2]
def gW(K:List (V×Int)):List D:=K.map λq=>.st [cd q,.bool true]
theorem vE:∀ (K:List (V×Int)) (q:V×Int),D.mget (gW K) (cd q)=if q∈K then some (.bool true) else none
 | [],q=>by simp[gW,D.mget]
 | p::K,q=>by
  have ih:=vE K q;simp only[gW,z6a,D.mget,KU] at ih ⊢;by_cases h:q=p
  ·simp[h]
  ·rw[ih];simp[h]
theorem vG:∀ (K:List (V×Int)) (q:V×Int),q ∉ K->D.mput (gW K) (cd q) (.bool true)=gW (K++[q])
 | [],q,_=>rfl
 | p::K,q,h=>by
  have ih:=vG K q (λhq=>h (zia _ hq));have hne:¬ q=p:=λe=>h (by rw[e];exact zma)
  simp only[gW,z6a,zdb,D.mput,KU,hne,decide_false,zBa,if_false] at ih ⊢;rw[ih]
def DB(K:List (V×Int)):(gW K).map uK=K.map cd:=by simp[gW,uK]
def supp(l:List V)(q:V×Int):Bool:=qn l q.1 q.2&&jU l q.1 q.2
def iG(l:List V)(K:List (V×Int))(q:V×Int):List (V×Int):=if q∈K then K else if supp l q then K++[q] else K
def tQ{l:List V}{K:List (V×Int)}{q x:V×Int}(h:x∈K):x∈iG l K q:=by
 unfold iG;split
 ·exact h
 ·split
  ·exact zob _ h
  ·exact h
def zy{l:List V}{K:List (V×Int)}{q:V×Int}(h:supp l q=true):q∈iG l K q:=by
 unfold iG;split
 ·assumption
 ·simp
def zx{l:List V}{K:List (V×Int)}{q x:V×Int}(h:x∈iG l K q):x∈K\/(x=q/\supp l q=true):=by
 unfold iG at h;split at h
 ·exact .inl h
 ·split at h
  ·rename_i hs;rcases zwa.1 h with h|h
   ·exact .inl h
   ·exact .inr ⟨zAa.1 h,hs⟩
  ·exact .inl h
def tP{l:List V}{K:List (V×Int)}{q:V×Int}(h:K.Nodup):(iG l K q).Nodup:=by
 unfold iG;split
 ·exact h
 ·rename_i hq;split
  ·exact List.nodup_append.2 ⟨h,by simp,λx hx y hy e=>hq (by rw[zAa.1 hy] at e;exact e ▸ hx)⟩
  ·exact h
def oZ(a b c:V):V×Int:=(br (V.cross (b.sub a) (c.sub a)),V.dot (br (V.cross (b.sub a) (c.sub a))) a)
def mM(q:V×Int):V×Int:=(q.1.neg,-q.2)
def Cd(l:List V)(i j k:Nat)(q:V×Int):Prop:=(oZ (l.getD i V.zero) (l.getD j V.zero) (l.getD k V.zero)).1≠V.zero/\(q=oZ (l.getD i V.zero) (l.getD j V.zero) (l.getD k V.zero)\/q=mM (oZ (l.getD i V.zero) (l.getD j V.zero) (l.getD k V.zero)))
structure Known(l:List V)(i j k:Nat)(K:List (V×Int)):Prop where
 nd:K.Nodup
 ok:∀ q∈K,supp l q=true/\∃ i j k,k<j/\j<i/\i<l.length/\Cd l i j k q
 all:∀ i' j' k',k'<j'->j'<i'->i'<l.length->(i'<i\/i'=i/\(j'<j\/j'=j/\k'<k))->∀ q,Cd l i' j' k' q->supp l q=true->q∈K
def LL{a b c:V}(ha:bd MV a)(hb:bd MV b)(hc:bd MV c):bd 549755813888 (oZ a b c).1/\inR (oZ a b c).2/\inR (-(oZ a b c).2):=by
 have h1:bd 524288 (b.sub a):=by have:=nl hb ha;simpa [MV] using this
 have h2:bd 524288 (c.sub a):=by have:=nl hc ha;simpa [MV] using this
 have h3:=je (dX h1 h2);have h4:=E3 h3 ha;simp only[MV] at h4;refine⟨h3,?_,?_⟩<;>simp only[inR,oZ]<;>omega
def Known.step{l:List V}{i j k:Nat}{K:List (V×Int)}(h:Known l i j k K)(hk:k<j)(hj:j<i)(hi:i<l.length)(hz:(oZ (l.getD i V.zero) (l.getD j V.zero) (l.getD k V.zero)).1≠V.zero) :
  Known l i j (k+1) (iG l (iG l K (oZ (l.getD i V.zero) (l.getD j V.zero) (l.getD k V.zero))) (mM (oZ (l.getD i V.zero) (l.getD j V.zero) (l.getD k V.zero)))):=by
 refine⟨tP (tP h.nd),λq hq=>?_,λi' j' k' h1 h2 h3 h4 q hq hs=>?_⟩
 ·rcases zx hq with hq|⟨rfl,hs⟩
  ·rcases zx hq with hq|⟨rfl,hs⟩
   ·exact h.ok q hq
   ·exact⟨hs,i,j,k,hk,hj,hi,hz,.inl rfl⟩
  ·exact⟨hs,i,j,k,hk,hj,hi,hz,.inr rfl⟩
 ·by_cases e:i'=i/\j'=j/\k'=k
  ·obtain⟨rfl,rfl,rfl⟩:=e;rcases hq.2 with rfl|rfl
   ·exact tQ (zy hs)
   ·exact zy hs
  ·exact tQ (tQ (h.all i' j' k' h1 h2 h3 (by omega) q hq hs))
def Known.skip{l:List V}{i j k:Nat}{K:List (V×Int)}(h:Known l i j k K)(hz:(oZ (l.getD i V.zero) (l.getD j V.zero) (l.getD k V.zero)).1=V.zero):Known l i j (k+1) K:=by
 refine⟨h.nd,h.ok,λi' j' k' h1 h2 h3 h4 q hq hs=>?_⟩;by_cases e:i'=i/\j'=j/\k'=k
 ·obtain⟨rfl,rfl,rfl⟩:=e;exact absurd hz hq.1
 ·exact h.all i' j' k' h1 h2 h3 (by omega) q hq hs
def Known.next{l:List V}{i j:Nat}{K:List (V×Int)}(h:Known l i j j K):Known l i (j+1) 0 K:=
 ⟨h.nd,h.ok,λi' j' k' h1 h2 h3 h4=>h.all i' j' k' h1 h2 h3 (by omega)⟩
def Known.next2{l:List V}{i:Nat}{K:List (V×Int)}(h:Known l i i 0 K):Known l (i+1) 0 0 K:=
 ⟨h.nd,h.ok,λi' j' k' h1 h2 h3 h4=>h.all i' j' k' h1 h2 h3 (by omega)⟩
theorem ny{α β:Type}{f:α->List β}{c:Nat}:∀ l:List α,(∀ x∈l,(f x).length=c)->(l.flatMap f).length=l.length*c
 | [],_=>by simp
 | x::l,h=>by
  rw[List.flatMap_cons,zua,h x zma,ny l (λy hy=>h y (zia _ hy)),zDa,Nat.succ_mul];omega
def Known.len{l:List V}{i j k:Nat}{K:List (V×Int)}(h:Known l i j k K)(hl:l.length<=100):K.length<=2000000:=by
 have h1:=z5b (l₂:=(List.range l.length).flatMap λi=>(List.range l.length).flatMap λj=>(List.range l.length).flatMap λk=>[oZ (l.getD i V.zero) (l.getD j V.zero) (l.getD k V.zero),mM (oZ (l.getD i V.zero) (l.getD j V.zero) (l.getD k V.zero))]) h.nd (λq hq=>by
  obtain⟨_,i,j,k,h1,h2,h3,h4⟩:=h.ok q hq;refine zWb.2 ⟨i,zLa.2 h3,zWb.2 ⟨j,zLa.2 (by omega),zWb.2 ⟨k,zLa.2 (by omega),?_⟩⟩⟩
  rcases h4.2 with rfl|rfl<;>simp)
 rw[ny (c:=l.length*(l.length*2)) _ (λi _=>by rw[ny (c:=l.length*2) _ (λj _=>by rw[ny (c:=2) _ (λk _=>rfl),zUb]),zUb]),zUb] at h1
 refine zCa h1 ?_;have a1:l.length*2<=200:=by omega
 have a2:l.length*(l.length*2)<=100*200:=zVa hl a1;have a3:l.length*(l.length*(l.length*2))<=100*(100*200):=zVa hl a2;exact a3
def cB{l:List V}{i:Nat}(h:i<l.length):(l.map ag)[i]?=some (ag (l.getD i V.zero)):=by simp[h,List.getD]
def ca{l:List V}{i:Nat}(h:i<l.length):l.getD i V.zero∈l:=by simp[List.getD,h]
def DQ{n:Nat}{l:List V}{K:List (V×Int)}{q:V×Int}(hl:∀ x∈l,bd MV x)(hq:bd 549755813888 q.1)(hlen:l.length<=1000) :
  (if(!decide (q∈K))=true then(Option.bind (cA (n+2) 98 [aS l,cd q]) λr=>D.truth r) else some false)=some (!decide (q∈K)&&supp l q):=by
 obtain⟨m,d⟩:=q;have hc:=ZH n (d:=d) hl hq (by decide) (by omega)
 simp only[hc,zba,ae];cases decide ((m,d)∈K)<;>rfl
end Sy
end
noncomputable section
namespace Sy
open Go Go.Proofs Geo
def JK{a b:V}(h:aF a b):xt [bQ a.x b.x,bQ a.y b.y,bQ a.z b.z]=-1:=by
 simp only[aF] at h;rcases h with h|⟨h1,h|⟨h2,h⟩⟩
 ·simp[xt,bQ,h]
 ·simp[xt,bQ,h1,h]
 ·simp[xt,bQ,h1,h2,h]
def JJ{a b:V}(h:aF b a):xt [bQ a.x b.x,bQ a.y b.y,bQ a.z b.z]=1:=by
 simp only[aF] at h;rcases h with h|⟨h1,h|⟨h2,h⟩⟩
 ·simp[xt,bQ,h,zkc.2 (zRa h)]
 ·simp[xt,bQ,h1,h,zkc.2 (zRa h)]
 ·simp[xt,bQ,h1,h2,h,zkc.2 (zRa h)]
def JI(a:V):xt [bQ a.x a.x,bQ a.y a.y,bQ a.z a.z]=0:=by simp[xt,bQ]
theorem CY{α:Type}(key:α->V):∀ (K:List α),K.Pairwise (λa b=>key a≠key b)->∃ L:List α,L.Perm K/\L.Pairwise (λa b=>aF (key a) (key b))
 | [],_=>⟨[],.refl _,.nil⟩
 | x::K,h=>by
  obtain⟨h1,h2⟩:=zQa.1 h;obtain⟨L,p1,p2⟩:=CY key K h2;have hne:∀ y∈L,key x≠key y:=λy hy=>h1 y (p1.subset hy);have ins:∀ L:List α,L.Pairwise (λa b=>aF (key a) (key b))->(∀ y∈L,key x≠key y)->∃ M:List α,M.Perm (x::L)/\M.Pairwise (λa b=>aF (key a) (key b)):=by
   intro L
   induction L with
   | nil=>intro _ _;exact⟨[x],.refl _,by simp⟩
   | cons y L ih=>
    intro hp hn;obtain⟨q1,q2⟩:=zQa.1 hp;rcases pW (hn y zma) with k|k
    ·refine⟨x::y::L,.refl _,zQa.2 ⟨λz hz=>?_,hp⟩⟩;rcases zEa.1 hz with rfl|hz
     ·exact k
     ·exact lI k (q1 z hz)
    ·obtain⟨M,m1,m2⟩:=ih q2 (λz hz=>hn z (zia _ hz));refine⟨y::M,(m1.cons y).trans (.swap x y L),zQa.2 ⟨λz hz=>?_,m2⟩⟩;rcases zEa.1 (m1.subset hz) with rfl|hz
     ·exact k
     ·exact q1 z hz
  obtain⟨M,m1,m2⟩:=ins L p2 hne;exact⟨M,m1.trans (p1.cons x),m2⟩
def B4(n:Nat)(p q:V×Int):wO (eX aN (cA (n+3)) (oF aN (cA (n+3)))) (eB 100) (cd p) (cd q)=some (xt [bQ p.1.x q.1.x,bQ p.1.y q.1.y,bQ p.1.z q.1.z]):=by
 unfold wO;rw[show ∀ l,(eX aN (cA (n+3)) (oF aN (cA (n+3)))).call (eB 100) l=cA (n+3) 100 l from λl=>congrFun (congrArg (cA (n+3)) (show uD (eB 100)=100 by kernel_rfl)) l,Ub]
 rfl
theorem Fh(n:Nat):∀ (L:List (V×Int)),L.Pairwise (λa b=>aF a.1 b.1)->uF (eX aN (cA (n+3)) (oF aN (cA (n+3)))) (eB 100) (L.map cd)=true
 | [],_=>rfl
 | p::L,h=>by
  obtain⟨h1,h2⟩:=zQa.1 h;simp only[z6a,uF,zaa,zra,z5a];refine⟨⟨?_,?_⟩,Fh n L h2⟩
  ·simp only[He,B4,JI];decide
  ·rintro _ ⟨q,hq,rfl⟩;simp only[rb,He,B4,JK (h1 q hq),JJ (h1 q hq)];decide
def Ku(n:Nat){K L:List (V×Int)}(hp:L.Perm K)(h:L.Pairwise (λa b=>aF a.1 b.1)):j7 (eX aN (cA (n+3)) (oF aN (cA (n+3)))) (eB 100) (K.map cd)=some (L.map cd):=
 zV (Fh n L h) (hp.symm.map _)
def pt(l:List V)(i:Nat):V:=l.getD i V.zero
def ml(a b:V):V.dot a.neg b=- V.dot a b:=by simp only[V.dot,V.neg];grind
def Cd.dist{l:List V}{i j k:Nat}{q:V×Int}(h:Cd l i j k q):q.2=V.dot q.1 (l.getD i V.zero):=by
 rcases h.2 with rfl|rfl
 ·rfl
 ·simp only[mM,ml];rfl
def C0{l:List V}{q:V×Int}(h:supp l q=true){x:V}(hx:x∈l):V.dot q.1 x<=q.2:=by
 simp only[supp,qn,zaa,zra,decide_eq_true_eq] at h;exact h.1 x hx
def Known.keys{l:List V}{i j k:Nat}{K:List (V×Int)}(h:Known l i j k K):K.Pairwise (λa b=>a.1≠b.1):=by
 refine zXc (λ{a b} ha hb hab e=>hab ?_) h.nd;obtain⟨s1,i1,j1,k1,_,_,h1,c1⟩:=h.ok a ha;obtain⟨s2,i2,j2,k2,_,_,h2,c2⟩:=h.ok b hb;have e1:=c1.dist;have e2:=c2.dist;have l1:=C0 s1 (ca h2);have l2:=C0 s2 (ca h1);rw[e] at e1 l1;exact Prod.ext e (by omega)
def ZL(n:Nat){l:List V}(hl:∀ x∈l,bd MV x)(hlen:l.length<=100):∃ y,cA (n+6) 45 [aS l]=some y/\∃ K L:List (V×Int),Known l l.length 0 0 K/\L.Perm K/\L.Pairwise (λa b=>aF a.1 b.1)/\y=.sl (L.map cd):=by
 rw[Z1];unfold Na;simp only[aS,D.asSl,zba];refine cW (λi s=>∃ K,s=[I i,.sl (gW K)]/\Known l i 0 0 K) l.length 0 (zga _) ⟨[],rfl,⟨List.nodup_nil,by simp,λi' j' k' _ _ _ h=>by omega⟩⟩ (λi hi s hJ=>?_) (λs hJ=>?_)
 ·obtain⟨K,rfl,hK⟩:=hJ;simp only[g0,g1,zoa,af,zba,ae,decide_eq_true_eq,show((i:Int)<(l.length:Int)) from by omega,if_true,D.els]
  refine cW (λj s=>∃ K,s=[I j,.sl (gW K)]/\Known l i j 0 K) i 0 (zga _) ⟨K,rfl,hK⟩ (λj hj s hJ=>?_) (λs hJ=>?_)
  ·obtain⟨K,rfl,hK⟩:=hJ;simp only[g0,g1,af,zba,ae,decide_eq_true_eq,show((j:Int)<(i:Int)) from by omega,if_true,D.els]
   refine cW (λk s=>∃ K,s=[I k,.sl (gW K)]/\Known l i j k K) j 0 (zga _) ⟨K,rfl,hK⟩ (λk hk s hJ=>?_) (λs hJ=>?_)
   ·obtain⟨K,rfl,hK⟩:=hJ;have hthr:=LL (hl _ (ca hi)) (hl _ (ca (show j<l.length by omega))) (hl _ (ca (show k<l.length by omega)))
    have hc:=ZG (n+2) (hl _ (ca hi)) (hl _ (ca (show j<l.length by omega))) (hl _ (ca (show k<l.length by omega)))
    rw[show(br (V.cross ((l.getD j V.zero).sub (l.getD i V.zero)) ((l.getD k V.zero).sub (l.getD i V.zero))),V.dot (br (V.cross ((l.getD j V.zero).sub (l.getD i V.zero)) ((l.getD k V.zero).sub (l.getD i V.zero)))) (l.getD i V.zero))=oZ (l.getD i V.zero) (l.getD j V.zero) (l.getD k V.zero) from rfl] at hc;simp only[g0,g1,af,zba,ae,decide_eq_true_eq,show((k:Int)<(j:Int)) from by omega,if_true,D.els,zoa,ak hi,ak (show j<l.length by omega),ak (show k<l.length by omega),cB hi,cB (show j<l.length by omega),cB (show k<l.length by omega),hc]
    by_cases hz:(oZ (l.getD i V.zero) (l.getD j V.zero) (l.getD k V.zero)).1=V.zero
    ·have hb:D.beq (ag (oZ (l.getD i V.zero) (l.getD j V.zero) (l.getD k V.zero)).1) (D.st [D.int .i64 0,D.int .i64 0,D.int .i64 0])=true:=by
      rw[kp,im];exact decide_eq_true hz
     simp only[show D.get (cd (oZ (l.getD i V.zero) (l.getD j V.zero) (l.getD k V.zero))) [0]=some (ag (oZ (l.getD i V.zero) (l.getD j V.zero) (l.getD k V.zero)).1) from rfl,zba,hb,ae,if_true,g0,D.els,av (aw (i:=k) (by omega))]
     exact⟨_,rfl,K,rfl,hK.skip hz⟩
    ·have hb:D.beq (ag (oZ (l.getD i V.zero) (l.getD j V.zero) (l.getD k V.zero)).1) (D.st [D.int .i64 0,D.int .i64 0,D.int .i64 0])=false:=by
      rw[kp,im];exact decide_eq_false hz
     have step:=hK.step hk hj hi hz;generalize hq:oZ (l.getD i V.zero) (l.getD j V.zero) (l.getD k V.zero)=q at *;obtain⟨b1,b2,b3⟩:=hthr;have hfl:D.st [ag q.1.neg,I (-q.2)]=cd (mM q):=rfl;have b4:bd 549755813888 (mM q).1:=nk b1;simp only[show D.get (cd q) [0]=some (ag q.1) from rfl,show D.get (cd q) [1]=some (I q.2) from rfl,zba,hb,ae,zBa,if_false,XG (n+4) b1 (by decide),pa b3,hfl]
     have one:∀ (K:List (V×Int)) (p:V×Int),bd 549755813888 p.1->(Option.bind (D.un .not (Option.getD (D.mget (gW K) (cd p)) (D.bool false))) λx32=>Option.bind (D.truth x32) λb33=>Option.bind (if b33 then(Option.bind (cA (n+5) 98 [D.sl (l.map ag),cd p]) λr34=>D.truth r34) else(some false)) λb36=>
       if b36 then(some ((0:Nat),[(D.sl [cd q,cd (mM q)]),(D.sl (D.mput (gW K) (cd p) (D.bool true)))])) else(some (0,[(D.sl [cd q,cd (mM q)]),(D.sl (gW K))])))=some (0,[D.sl [cd q,cd (mM q)],D.sl (gW (iG l K p))]):=λK p hp=>by
      rw[vE];have ht:=DQ (n:=n+3) (K:=K) hl hp (by omega)
      simp only[aS] at ht;by_cases hm:p∈K
      ·simp[hm,bg,ae,iG]
      ·simp only[hm,if_false,Option.getD_none,bg,zRb,zba,ae,if_true,decide_false,zIb] at ht ⊢;rw[ht];simp only[zba,iG,hm,if_false];split
       ·rw[vG K p hm]
       ·rfl
     refine⟨.inl [I ((k+1:Nat):Int),.sl (gW (iG l (iG l K q) (mM q)))],?_,_,rfl,step⟩;refine aa (z:=(0,[.sl (gW (iG l (iG l K q) (mM q)))])) ?_ ?_
     ·refine bn (s':=[.sl [cd q,cd (mM q)],I 1,.sl (gW (iG l K q))]) ?_ (bn (s':=[.sl [cd q,cd (mM q)],I 2,.sl (gW (iG l (iG l K q) (mM q)))]) ?_ (fc (r:=(0,[.sl (gW (iG l (iG l K q) (mM q)))])) ?_ rfl))
      ·simp only[g0,g1,g2,D.els,af,zba,ae,decide_eq_true_eq,show((0:Int)<2) from by decide,if_true,zDa,zib,show D.idx (I 0) (0+1+1)=some 0 from rfl,zeb,av Mn]
       exact aa (one K q b1) rfl
      ·simp only[g0,g1,g2,D.els,af,zba,ae,decide_eq_true_eq,show((1:Int)<2) from by decide,if_true,zDa,zib,show D.idx (I 1) (0+1+1)=some 1 from rfl,z7a,zeb,av tg]
       exact aa (one (iG l K q) (mM q) b4) rfl
      ·simp only[g0,g1,g2,D.els,af,zba,ae];rfl
     ·simp only[g0,D.els,av (aw (i:=k) (by omega)),zba]
      rfl
   ·obtain⟨K,rfl,hK⟩:=hJ;simp only[g0,g1,af,zba,ae,decide_eq_true_eq,zMc,if_false,D.els];refine⟨_,rfl,.inl [I ((j+1:Nat):Int),.sl (gW K)],?_,K,rfl,hK.next⟩
    simp only[g0,D.els,av (aw (i:=j) (by omega)),zba]
    rfl
  ·obtain⟨K,rfl,hK⟩:=hJ;simp only[g0,g1,af,zba,ae,decide_eq_true_eq,zMc,if_false,D.els];refine⟨_,rfl,.inl [I ((i+1:Nat):Int),.sl (gW K)],?_,K,rfl,hK.next2⟩;simp only[g0,D.els,av (aw (i:=i) (by omega)),zba]
   rfl
 ·obtain⟨K,rfl,hK⟩:=hJ;simp only[g0,g1,zoa,af,zba,ae,decide_eq_true_eq,zMc,if_false,D.els];obtain⟨L,p1,p2⟩:=CY (λq:V×Int=>q.1) K hK.keys;refine⟨_,rfl,.sl (L.map cd),?_,K,L,hK,p1,p2,rfl⟩;have hKl:(gW K).length<=1073741824:=by
   have:=hK.len hlen;simp only[gW,zoa];omega
  simp only[g0,D.els,hKl,decide_true,if_true,DB,Ku (n+2) p1 p2,zba]
end Sy
end
noncomputable section
namespace Sy
open Go Go.Proofs Geo
def j9{l:List V}{q:V×Int}:supp l q=true↔uB (pt l) l.length q.1 q.2:=by
 simp only[supp,qn,jU,zaa,zra,zTc,decide_eq_true_eq,uB,pt];constructor
 ·rintro⟨h1,x,hx,h2⟩;obtain⟨k,hk,rfl⟩:=zTa hx;exact⟨λk hk=>h1 _ (ca hk),k,hk,by simpa [List.getD,hk] using h2⟩
 ·rintro⟨h1,k,hk,h2⟩;refine⟨λx hx=>?_,_,ca hk,h2⟩;obtain⟨k,hk,rfl⟩:=zTa hx;simpa [List.getD,hk] using h1 k hk
def KH(P:Nat->V)(i j k:Nat):V.cross ((P j).sub (P i)) ((P k).sub (P i))=(dI P k j i).neg:=by
 apply V.ext'<;>simp only[dI,wy,V.cross,V.sub,V.neg]<;>grind
def yF{P:Nat->V}{i j k:Nat}:V.dot (br (dI P i j k)) (P k)=V.dot (br (dI P i j k)) (P i):=by
 by_cases h:dI P i j k=V.zero
 ·have e0:br V.zero=V.zero:=by apply V.ext'<;>simp[br,V.zero]
  rw[h,e0];simp[V.dot,V.zero]
 ·have g:=jN h;have e:=iI (dI P i j k);have t2:V.dot (dI P i j k) (wy P i k)=0:=by simp only[dI,V.dot,V.cross];grind
  rw[e] at t2;have:(bw (dI P i j k):Int)*V.dot (br (dI P i j k)) (wy P i k)=0:=by rw[<-t2];simp only[V.dot,V.smul];grind
  have h0:=bx (by omega) this
  rw[c7] at h0;omega
def Ga{v:V}(h:v≠V.zero):v.neg≠V.zero:=λe=>by
 have e1:=congrArg V.x e;have e2:=congrArg V.y e;have e3:=congrArg V.z e;simp only[V.neg,V.zero] at e1 e2 e3;exact h (V.ext' (by simp only[V.zero];omega) (by simp only[V.zero];omega) (by simp only[V.zero];omega))
def KF(l:List V)(i j k:Nat):(oZ (pt l i) (pt l j) (pt l k)).1=(br (dI (pt l) k j i)).neg:=by
 simp only[oZ,KH (pt l) i j k,zD]
def zt(v:V):v.neg.neg=v:=by apply V.ext'<;>simp[V.neg]
def EF{l:List V}{i j k:Nat}{q:V×Int}:Cd l i j k q↔dI (pt l) k j i≠V.zero/\(q.1=br (dI (pt l) k j i)\/q.1=(br (dI (pt l) k j i)).neg)/\q.2=V.dot q.1 (pt l k):=by
 have e:=KF l i j k;have hd:V.dot (br (dI (pt l) k j i)) (pt l i)=V.dot (br (dI (pt l) k j i)) (pt l k):=yF;have hz:(oZ (pt l i) (pt l j) (pt l k)).1≠V.zero↔dI (pt l) k j i≠V.zero:=by
  rw[e];constructor
  ·intro h h0;rw[h0] at h;exact h rfl
  ·intro h;exact Ga (rW h)
 constructor
 ·intro h;have hds:=h.dist;obtain⟨h1,h2⟩:=h;refine⟨hz.1 h1,?_⟩;have hq:q.1=br (dI (pt l) k j i)\/q.1=(br (dI (pt l) k j i)).neg:=by
   rcases h2 with rfl|rfl
   ·exact .inr e
   ·left;show(oZ (pt l i) (pt l j) (pt l k)).1.neg=_;rw[e,zt]
  refine⟨hq,?_⟩;rw[hds];rcases hq with hq|hq
  ·rw[hq];exact hd
  ·rw[hq,ml,ml];exact congrArg Neg.neg hd
 ·rintro⟨h1,h2,h3⟩;refine⟨hz.2 h1,?_⟩;have e2:(oZ (pt l i) (pt l j) (pt l k)).2=V.dot (oZ (pt l i) (pt l j) (pt l k)).1 (pt l i):=rfl;obtain⟨a,b⟩:=q;simp only at h2 h3;subst h3;rcases h2 with rfl|rfl
  ·right;show _=((oZ (pt l i) (pt l j) (pt l k)).1.neg,-(oZ (pt l i) (pt l j) (pt l k)).2);rw[e2,e,zt,ml,hd,Int.neg_neg]
  ·left;refine Prod.ext e.symm ?_;show _=(oZ (pt l i) (pt l j) (pt l k)).2;rw[e2,e,ml,ml,hd]
def Known.facets{l:List V}{K L:List (V×Int)}(h:Known l l.length 0 0 K)(hp:L.Perm K)(ho:L.Pairwise (λa b=>aF a.1 b.1)):Facets (pt l) l.length L:=by
 refine⟨ho,λq=>⟨λhq=>?_,λhq=>?_⟩⟩
 ·obtain⟨hs,i,j,k,h1,h2,h3,hc⟩:=h.ok q (hp.subset hq);obtain⟨c1,c2,c3⟩:=EF.1 hc;exact⟨⟨k,j,i,h1,h2,h3,c1,c2,c3⟩,j9.1 hs⟩
 ·obtain⟨⟨i,j,k,h1,h2,h3,c1,c2,c3⟩,hs⟩:=hq;exact hp.symm.subset (h.all k j i h1 h2 h3 (.inl h3) q (EF.2 ⟨c1,c2,c3⟩) (j9.2 hs))
end Sy
end
noncomputable section
namespace Sy
open Go Go.Proofs Geo
def jx:Option Nat->D
 | none=>I (-1)
 | some b=>I (b:Int)
def Mt{α:Type}{p:Prop}[Decidable p]{A B:α}(h:p):(if decide p=true then A else B)=A:=by rw[if_pos (decide_eq_true h)]
def Mu{α:Type}{p:Prop}[Decidable p]{A B:α}(h:¬ p):(if decide p=true then A else B)=B:=by rw[if_neg (by simpa using h)]
def aC{α:Type}{p:Prop}[Decidable p]{A B y:α}(h:p)(hA:A=y):(if decide p=true then A else B)=y:=by rw[if_pos (decide_eq_true h)];exact hA
def az{α:Type}{p:Prop}[Decidable p]{A B y:α}(h:¬ p)(hA:B=y):(if decide p=true then A else B)=y:=by rw[if_neg (by simpa using h)];exact hA
def CV{x:Int}:sg x<0↔x<0:=by unfold sg;split<;>(try split)<;>omega
def xJ{x:Int}:sg x=0↔x=0:=by unfold sg;split<;>(try split)<;>omega
def bN(a b:Nat):D.beq (I (a:Int)) (I (b:Int))=decide (a=b):=by
 rw[bF];by_cases h:a=b<;>simp[h];omega
def L9(n:Nat){l:List V}(hl:∀ x∈l,bd MV x){m:V}{d:Int}{a k:Nat}{best:Option Nat}(hm0:m≠V.zero)(ha:a<l.length)(hk:k<l.length)(hb:∀ b,best=some b->b<l.length/\V.dot m (wy (pt l) a b)=0)(hk0:V.dot m (wy (pt l) a k)=0)(X:D) :
  (Option.bind (D.truth (D.bool (D.beq (I (k:Int)) (I (a:Int))))) λb25=>
  if b25 then(some ((0:Nat),[jx best,X])) else(Option.bind (D.bin .lss (jx best) (D.int .i64 0)) λx26=>
  Option.bind (D.truth x26) λb27=>
  if b27 then(some (0,[I (k:Int),X])) else(Option.bind (D.asSl (aS l)) λl28=>
  Option.bind (D.idx (I (k:Int)) (List.length l28)) λi29=>
  Option.bind (l28[i29]?) λx30=>
  Option.bind (D.asSl (aS l)) λl31=>
  Option.bind (D.idx (I (a:Int)) (List.length l31)) λi32=>
  Option.bind (l31[i32]?) λx33=>
  Option.bind (cA (n+4) 103 [x30,x33]) λr34=>
  Option.bind (D.asSl (aS l)) λl35=>
  Option.bind (D.idx (jx best) (List.length l35)) λi36=>
  Option.bind (l35[i36]?) λx37=>
  Option.bind (D.asSl (aS l)) λl38=>
  Option.bind (D.idx (I (a:Int)) (List.length l38)) λi39=>
  Option.bind (l38[i39]?) λx40=>
  Option.bind (cA (n+4) 103 [x37,x40]) λr41=>
  Option.bind (D.get (cd (m,d)) [0]) λx42=>
  Option.bind (cA (n+4) 104 [x42,r41,r34]) λr43=>
  Option.bind (D.bin .lss r43 (D.int .i64 0)) λx44=>
  Option.bind (D.truth x44) λb45=>
  Option.bind (if b45 then(some true) else(Option.bind (D.truth (D.bool (D.beq r43 (D.int .i64 0)))) λb46=>
  if b46 then(Option.bind (cA (n+4) 101 [r34,r34]) λr47=>
  Option.bind (cA (n+4) 101 [r41,r41]) λr48=>
  Option.bind (D.bin .gtr r47 r48) λx49=>
  D.truth x49) else(some false))) λb50=>
  Option.bind (D.truth (D.bool b50)) λb51=>
  if b51 then(some (0,[I (k:Int),X])) else(some (0,[jx best,X])))))=some (0,[jx (cQ m (pt l) a best k),X]):=by
 by_cases hka:k=a
 ·subst hka;have h0:D.beq (I (k:Int)) (I (k:Int))=true:=by rw[bN];simp
  rw[h0,show cQ m (pt l) k best k=best from if_pos rfl];exact aa (z:=true) rfl (if_pos rfl)
 ·have h0:D.beq (I (k:Int)) (I (a:Int))=false:=by rw[bN];simp[hka]
  rw[h0];refine aa (z:=false) rfl ?_;rw[if_neg (by decide)]
  have hns:∀ b,cQ m (pt l) a b k=match b with
   | none=>some k
   | some b=>if pu m (pt l) a b k then some k else some b:=λb=>if_neg hka
  rw[hns];clear hns h0;cases best with
  | none=>exact aa (z:=.bool true) rfl (aa (z:=true) rfl rfl)
  | some b=>
   obtain⟨hb1,hb2⟩:=hb b rfl;have c1:=Jv (n+2) (hl _ (ca hk)) (hl _ (ca ha)) (by decide)
   have c2:=Jv (n+2) (hl _ (ca hb1)) (hl _ (ca ha)) (by decide)
   have w1:bd 524288 (wy (pt l) a k):=jf (hl _ (ca ha)) (hl _ (ca hk));have w2:bd 524288 (wy (pt l) a b):=jf (hl _ (ca ha)) (hl _ (ca hb1));have e1:(l.getD k V.zero).sub (l.getD a V.zero)=wy (pt l) a k:=rfl;have e2:(l.getD b V.zero).sub (l.getD a V.zero)=wy (pt l) a b:=rfl;rw[e1] at c1;rw[e2] at c2;have c3:=Uc (n+1) (m:=m) w2 w1 (by decide)
   have c4:=E6 (n+3) w1 w1 (by decide)
   have c5:=E6 (n+3) w2 w2 (by decide)
   have hle:=Cu hm0 (ia hb2 hk0);rw[hle] at c3;have hlt:¬ ((b:Int)<0):=by omega
   have ll:(l.map ag).length=l.length:=zoa ..;refine aa (z:=.bool false) (by rw[show jx (some b)=I (b:Int) from rfl,af,decide_eq_false hlt]) (aa (z:=false) rfl ?_)
   rw[if_neg (by decide)]
   refine aa (z:=l.map ag) rfl (aa (z:=k) (by rw[ll];exact ak hk) (aa (cB hk) ?_))
   refine aa (z:=l.map ag) rfl (aa (z:=a) (by rw[ll];exact ak ha) (aa (cB ha) ?_))
   refine aa c1 ?_;refine aa (z:=l.map ag) rfl (aa (z:=b) (by rw[ll];exact ak hb1) (aa (cB hb1) ?_))
   refine aa (z:=l.map ag) rfl (aa (z:=a) (by rw[ll];exact ak ha) (aa (cB ha) ?_))
   refine aa c2 (aa (z:=ag m) rfl (aa c3 (aa af (aa ae ?_))));simp only[CV,bF,xJ,ae,zba,c4,c5,bP,pu,T];by_cases t1:V.dot m (V.cross (wy (pt l) a b) (wy (pt l) a k))<0
   ·simp[t1,jx]
   ·by_cases t2:V.dot m (V.cross (wy (pt l) a b) (wy (pt l) a k))=0
    ·by_cases t3:V.dot (wy (pt l) a b) (wy (pt l) a b)<V.dot (wy (pt l) a k) (wy (pt l) a k)
     ·simp[t2,t3,jx]
     ·simp[t2,t3,jx]
    ·simp[t1,t2,jx]
end Sy
end
end Go.Proofs.YtpahompifldeeaaGreat
