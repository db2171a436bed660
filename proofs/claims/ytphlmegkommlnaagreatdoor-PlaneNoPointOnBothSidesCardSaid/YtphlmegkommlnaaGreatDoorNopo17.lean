/- Part 17 of the proof that PlaneNoPointOnBothSides answers true at every input -/
import Derived.Test.YtphlmegkommlnaaGreatDoorNopo08
set_option linter.unusedVariables false
set_option linter.unusedSimpArgs false
set_option linter.unnecessarySimpa false
set_option linter.defProp false
set_option maxRecDepth 20000
namespace Go.Proofs.YtphlmegkommlnaaGreatDoor
noncomputable section
namespace Sy
open Go Go.Proofs
def aS:Lp:=λ{α β} body=>mI (α:=α) (β:=β) body
def cA(n:Nat):Nat->List D->Option D:=Hu aS n
section
variable(n:Nat)(a0 a1 a2 a3 a4 a5:D)
def XQ:cA (n+1) 12 [a0]=PG aS (cA n) a0:=by kernel_rfl
def u13:cA (n+1) 13 [a0,a1]=RQ aS (cA n) a0 a1:=by kernel_rfl
def u15:cA (n+1) 15 [a0]=RR aS (cA n) a0:=by kernel_rfl
def u18:cA (n+1) 18 [a0]=RS aS (cA n) a0:=by kernel_rfl
def u19:cA (n+1) 19 [a0]=RT aS (cA n) a0:=by kernel_rfl
def u21:cA (n+1) 21 [a0]=PH aS (cA n) a0:=by kernel_rfl
def u22:cA (n+1) 22 [a0]=RU aS (cA n) a0:=by kernel_rfl
def u32:cA (n+1) 32 [a0,a1]=RW aS (cA n) a0 a1:=by kernel_rfl
def u34:cA (n+1) 34 [a0]=RY aS (cA n) a0:=by kernel_rfl
def u45:cA (n+1) 45 [a0]=PI aS (cA n) a0:=by kernel_rfl
def u46:cA (n+1) 46 [a0,a1]=RZ aS (cA n) a0 a1:=by kernel_rfl
def u47:cA (n+1) 47 [a0]=R5 aS (cA n) a0:=by kernel_rfl
def u48:cA (n+1) 48 [a0]=R7 aS (cA n) a0:=by kernel_rfl
def u51:cA (n+1) 51 [a0,a1]=R8 aS (cA n) a0 a1:=by kernel_rfl
def u52:cA (n+1) 52 [a0]=R9 aS (cA n) a0:=by kernel_rfl
def u53:cA (n+1) 53 [a0,a1]=Sa aS (cA n) a0 a1:=by kernel_rfl
def u54:cA (n+1) 54 [a0]=Sc aS (cA n) a0:=by kernel_rfl
def u57:cA (n+1) 57 [a0,a1]=Sd aS (cA n) a0 a1:=by kernel_rfl
def u61:cA (n+1) 61 [a0,a1]=Se aS (cA n) a0 a1:=by kernel_rfl
def Zc:cA (n+1) 62 [a0,a1]=PJ aS (cA n) a0 a1:=by kernel_rfl
def u68:cA (n+1) 68 [a0]=Sf aS (cA n) a0:=by kernel_rfl
def u71:cA (n+1) 71 [a0]=Sg aS (cA n) a0:=by kernel_rfl
def u72:cA (n+1) 72 [a0,a1]=Si aS (cA n) a0 a1:=by kernel_rfl
def u73:cA (n+1) 73 [a0,a1]=Sj aS (cA n) a0 a1:=by kernel_rfl
def u74:cA (n+1) 74 [a0]=Sl aS (cA n) a0:=by kernel_rfl
def Zd:cA (n+1) 76 [a0]=PK aS (cA n) a0:=by kernel_rfl
def u77:cA (n+1) 77 [a0]=Sn aS (cA n) a0:=by kernel_rfl
def u78:cA (n+1) 78 [a0,a1]=Sp aS (cA n) a0 a1:=by kernel_rfl
def u80:cA (n+1) 80 [a0]=Sq aS (cA n) a0:=by kernel_rfl
def u81:cA (n+1) 81 [a0,a1]=Sr aS (cA n) a0 a1:=by kernel_rfl
def u82:cA (n+1) 82 [a0,a1]=Ss aS (cA n) a0 a1:=by kernel_rfl
def u83:cA (n+1) 83 [a0]=Su aS (cA n) a0:=by kernel_rfl
def u84:cA (n+1) 84 []=Sv aS (cA n) :=by kernel_rfl
def Zw:cA (n+1) 85 [a0,a1]=P6 aS (cA n) a0 a1:=by kernel_rfl
def u87:cA (n+1) 87 [a0,a1]=Sw aS (cA n) a0 a1:=by kernel_rfl
def PP:cA (n+1) 88 [a0]=Lx aS (cA n) a0:=by kernel_rfl
def u90:cA (n+1) 90 [a0,a1]=Sx aS (cA n) a0 a1:=by kernel_rfl
def u91:cA (n+1) 91 [a0,a1]=SA aS (cA n) a0 a1:=by kernel_rfl
def u96:cA (n+1) 96 [a0,a1,a2]=SB aS (cA n) a0 a1 a2:=by kernel_rfl
def u97:cA (n+1) 97 [a0]=SC aS (cA n) a0:=by kernel_rfl
def u98:cA (n+1) 98 [a0,a1]=SD aS (cA n) a0 a1:=by kernel_rfl
def Xz:cA (n+1) 100 [a0,a1]=JK aS (cA n) a0 a1:=by kernel_rfl
def XA:cA (n+1) 101 [a0,a1]=GN aS (cA n) a0 a1:=by kernel_rfl
def XB:cA (n+1) 103 [a0,a1]=JL aS (cA n) a0 a1:=by kernel_rfl
def XC:cA (n+1) 104 [a0,a1,a2]=JM aS (cA n) a0 a1 a2:=by kernel_rfl
def XD:cA (n+1) 105 [a0,a1]=JN aS (cA n) a0 a1:=by kernel_rfl
def XE:cA (n+1) 106 [a0,a1,a2]=JO aS (cA n) a0 a1 a2:=by kernel_rfl
def XF:cA (n+1) 107 [a0,a1]=JP aS (cA n) a0 a1:=by kernel_rfl
def XG:cA (n+1) 108 [a0,a1]=JQ aS (cA n) a0 a1:=by kernel_rfl
def XH:cA (n+1) 109 [a0,a1,a2]=JR aS (cA n) a0 a1 a2:=by kernel_rfl
def XI:cA (n+1) 110 [a0,a1]=JS aS (cA n) a0 a1:=by kernel_rfl
def XJ:cA (n+1) 111 [a0,a1,a2]=JT aS (cA n) a0 a1 a2:=by kernel_rfl
def XK:cA (n+1) 112 [a0,a1]=JU aS (cA n) a0 a1:=by kernel_rfl
def XL:cA (n+1) 115 [a0]=JV aS (cA n) a0:=by kernel_rfl
def XM:cA (n+1) 116 [a0,a1]=JW aS (cA n) a0 a1:=by kernel_rfl
def XN:cA (n+1) 117 [a0,a1]=JX aS (cA n) a0 a1:=by kernel_rfl
def XO:cA (n+1) 118 [a0]=JY aS (cA n) a0:=by kernel_rfl
def XP:cA (n+1) 119 []=JZ aS (cA n) :=by kernel_rfl
def XR:cA (n+1) 120 [a0,a1]=J0 aS (cA n) a0 a1:=by kernel_rfl
def XS:cA (n+1) 121 [a0,a1]=J1 aS (cA n) a0 a1:=by kernel_rfl
def XT:cA (n+1) 122 [a0,a1]=J2 aS (cA n) a0 a1:=by kernel_rfl
def XU:cA (n+1) 123 [a0,a1]=J3 aS (cA n) a0 a1:=by kernel_rfl
def Ru:cA (n+1) 124 [a0]=GO aS (cA n) a0:=by kernel_rfl
def XV:cA (n+1) 125 []=J4 aS (cA n) :=by kernel_rfl
def XW:cA (n+1) 126 [a0,a1]=J5 aS (cA n) a0 a1:=by kernel_rfl
def XX:cA (n+1) 127 [a0]=J6 aS (cA n) a0:=by kernel_rfl
def Rv:cA (n+1) 128 [a0]=GP aS (cA n) a0:=by kernel_rfl
def XY:cA (n+1) 129 [a0]=J7 aS (cA n) a0:=by kernel_rfl
def XZ:cA (n+1) 130 []=J8 aS (cA n) :=by kernel_rfl
def X0:cA (n+1) 131 [a0,a1]=J9 aS (cA n) a0 a1:=by kernel_rfl
def Pv:cA (n+1) 132 [a0,a1]=EY aS (cA n) a0 a1:=by kernel_rfl
def X2:cA (n+1) 133 []=Ka aS (cA n) :=by kernel_rfl
def X3:cA (n+1) 134 [a0,a1]=Kb aS (cA n) a0 a1:=by kernel_rfl
def X4:cA (n+1) 135 [a0]=Kc aS (cA n) a0:=by kernel_rfl
def Rx:cA (n+1) 136 [a0]=GQ aS (cA n) a0:=by kernel_rfl
def X5:cA (n+1) 137 [a0,a1]=Kd aS (cA n) a0 a1:=by kernel_rfl
def X7:cA (n+1) 138 [a0]=Ke aS (cA n) a0:=by kernel_rfl
def Pw:cA (n+1) 139 [a0]=EZ aS (cA n) a0:=by kernel_rfl
def X8:cA (n+1) 140 [a0]=Kf aS (cA n) a0:=by kernel_rfl
def X9:cA (n+1) 141 [a0,a1]=Kg aS (cA n) a0 a1:=by kernel_rfl
def Ya:cA (n+1) 142 [a0]=Kh aS (cA n) a0:=by kernel_rfl
def Yb:cA (n+1) 143 [a0,a1]=Ki aS (cA n) a0 a1:=by kernel_rfl
def Yc:cA (n+1) 144 [a0,a1]=Kj aS (cA n) a0 a1:=by kernel_rfl
def Yd:cA (n+1) 146 [a0,a1]=Kk aS (cA n) a0 a1:=by kernel_rfl
def Ye:cA (n+1) 147 [a0,a1]=Kl aS (cA n) a0 a1:=by kernel_rfl
def Yf:cA (n+1) 148 [a0]=Km aS (cA n) a0:=by kernel_rfl
def Ry:cA (n+1) 152 [a0,a1]=GR aS (cA n) a0 a1:=by kernel_rfl
def Yg:cA (n+1) 154 [a0,a1]=Kn aS (cA n) a0 a1:=by kernel_rfl
def Yh:cA (n+1) 155 [a0]=Ko aS (cA n) a0:=by kernel_rfl
def Yi:cA (n+1) 156 [a0,a1,a2,a3,a4]=Kq aS (cA n) a0 a1 a2 a3 a4:=by kernel_rfl
def Yj:cA (n+1) 165 [a0]=Kr aS (cA n) a0:=by kernel_rfl
def Yk:cA (n+1) 167 [a0]=Ks aS (cA n) a0:=by kernel_rfl
def Yl:cA (n+1) 168 [a0,a1]=Kt aS (cA n) a0 a1:=by kernel_rfl
def Ym:cA (n+1) 169 []=Ku aS (cA n) :=by kernel_rfl
def Yn:cA (n+1) 170 [a0,a1]=Kv aS (cA n) a0 a1:=by kernel_rfl
def Yo:cA (n+1) 171 [a0]=Kw aS (cA n) a0:=by kernel_rfl
def Px:cA (n+1) 172 [a0,a1]=E0 aS (cA n) a0 a1:=by kernel_rfl
def Rz:cA (n+1) 173 [a0,a1]=GS aS (cA n) a0 a1:=by kernel_rfl
def RA:cA (n+1) 174 [a0,a1]=GT aS (cA n) a0 a1:=by kernel_rfl
def Yp:cA (n+1) 175 [a0,a1]=Kx aS (cA n) a0 a1:=by kernel_rfl
def Yq:cA (n+1) 186 [a0]=Ky aS (cA n) a0:=by kernel_rfl
def Yr:cA (n+1) 187 [a0]=Kz aS (cA n) a0:=by kernel_rfl
def Ys:cA (n+1) 188 [a0,a1]=KA aS (cA n) a0 a1:=by kernel_rfl
def Yt:cA (n+1) 194 [a0]=KB aS (cA n) a0:=by kernel_rfl
def Yu:cA (n+1) 195 [a0,a1]=KC aS (cA n) a0 a1:=by kernel_rfl
def Yv:cA (n+1) 196 [a0]=KD aS (cA n) a0:=by kernel_rfl
def Yw:cA (n+1) 197 [a0,a1]=KE aS (cA n) a0 a1:=by kernel_rfl
def Yx:cA (n+1) 201 [a0,a1]=KF aS (cA n) a0 a1:=by kernel_rfl
def Yy:cA (n+1) 202 [a0]=E1 aS (cA n) a0:=by kernel_rfl
def RB:cA (n+1) 203 [a0,a1]=GU aS (cA n) a0 a1:=by kernel_rfl
def Yz:cA (n+1) 215 [a0]=KG aS (cA n) a0:=by kernel_rfl
def YA:cA (n+1) 217 [a0]=KH aS (cA n) a0:=by kernel_rfl
def YB:cA (n+1) 322 [a0]=KI aS (cA n) a0:=by kernel_rfl
def YC:cA (n+1) 331 [a0]=KJ aS (cA n) a0:=by kernel_rfl
def YD:cA (n+1) 333 [a0,a1]=KK aS (cA n) a0 a1:=by kernel_rfl
def YE:cA (n+1) 336 [a0,a1]=KL aS (cA n) a0 a1:=by kernel_rfl
def YF:cA (n+1) 342 [a0]=KM aS (cA n) a0:=by kernel_rfl
def YG:cA (n+1) 348 [a0]=KN aS (cA n) a0:=by kernel_rfl
def YH:cA (n+1) 349 [a0]=KO aS (cA n) a0:=by kernel_rfl
def YI:cA (n+1) 352 [a0,a1]=KP aS (cA n) a0 a1:=by kernel_rfl
def RC:cA (n+1) 357 [a0]=GV aS (cA n) a0:=by kernel_rfl
def YJ:cA (n+1) 364 [a0,a1]=KQ aS (cA n) a0 a1:=by kernel_rfl
def YK:cA (n+1) 365 [a0]=KR aS (cA n) a0:=by kernel_rfl
def YL:cA (n+1) 371 [a0,a1]=KS aS (cA n) a0 a1:=by kernel_rfl
def YM:cA (n+1) 385 [a0]=KU aS (cA n) a0:=by kernel_rfl
def RD:cA (n+1) 386 [a0,a1]=GW aS (cA n) a0 a1:=by kernel_rfl
def YN:cA (n+1) 392 [a0,a1]=KV aS (cA n) a0 a1:=by kernel_rfl
def YO:cA (n+1) 393 [a0]=KW aS (cA n) a0:=by kernel_rfl
def Py:cA (n+1) 394 [a0]=E2 aS (cA n) a0:=by kernel_rfl
def YP:cA (n+1) 414 [a0,a1,a2,a3]=KY aS (cA n) a0 a1 a2 a3:=by kernel_rfl
def YQ:cA (n+1) 416 [a0,a1,a2,a3]=KZ aS (cA n) a0 a1 a2 a3:=by kernel_rfl
def RE:cA (n+1) 418 [a0]=GX aS (cA n) a0:=by kernel_rfl
def YR:cA (n+1) 419 [a0,a1,a2,a3,a4]=La aS (cA n) a0 a1 a2 a3 a4:=by kernel_rfl
def YS:cA (n+1) 421 [a0,a1,a2,a3,a4]=Lb aS (cA n) a0 a1 a2 a3 a4:=by kernel_rfl
def YT:cA (n+1) 423 [a0,a1,a2]=Lc aS (cA n) a0 a1 a2:=by kernel_rfl
def YU:cA (n+1) 425 [a0,a1,a2,a3]=Ld aS (cA n) a0 a1 a2 a3:=by kernel_rfl
def YV:cA (n+1) 426 [a0]=Le aS (cA n) a0:=by kernel_rfl
def YW:cA (n+1) 427 [a0]=Lf aS (cA n) a0:=by kernel_rfl
def YX:cA (n+1) 431 [a0,a1]=Lg aS (cA n) a0 a1:=by kernel_rfl
def YY:cA (n+1) 433 [a0,a1]=Lh aS (cA n) a0 a1:=by kernel_rfl
def YZ:cA (n+1) 434 [a0,a1,a2]=Li aS (cA n) a0 a1 a2:=by kernel_rfl
def Y0:cA (n+1) 435 [a0,a1]=Lj aS (cA n) a0 a1:=by kernel_rfl
def RF:cA (n+1) 439 [a0]=GY aS (cA n) a0:=by kernel_rfl
def Y1:cA (n+1) 440 [a0,a1]=Lk aS (cA n) a0 a1:=by kernel_rfl
def Y2:cA (n+1) 443 [a0,a1]=Ll aS (cA n) a0 a1:=by kernel_rfl
def Y3:cA (n+1) 444 [a0,a1]=Lm aS (cA n) a0 a1:=by kernel_rfl
def Y4:cA (n+1) 445 [a0,a1]=Ln aS (cA n) a0 a1:=by kernel_rfl
def Y5:cA (n+1) 446 [a0,a1]=Lo aS (cA n) a0 a1:=by kernel_rfl
def Y6:cA (n+1) 447 [a0]=Lr aS (cA n) a0:=by kernel_rfl
def Y7:cA (n+1) 448 [a0]=Ls aS (cA n) a0:=by kernel_rfl
def Y8:cA (n+1) 449 [a0]=Lt aS (cA n) a0:=by kernel_rfl
def Y9:cA (n+1) 450 [a0,a1]=Lu aS (cA n) a0 a1:=by kernel_rfl
def Za:cA (n+1) 454 [a0,a1]=Lv aS (cA n) a0 a1:=by kernel_rfl
def Zb:cA (n+1) 456 [a0,a1]=Lw aS (cA n) a0 a1:=by kernel_rfl
end
end Sy
end
noncomputable section
namespace Geo
structure V where
 x:Int
 y:Int
 z:Int
deriving DecidableEq
namespace V
def sub(a b:V):V:=⟨a.x-b.x,a.y-b.y,a.z-b.z⟩
def neg(a:V):V:=⟨-a.x,-a.y,-a.z⟩
def add(a b:V):V:=⟨a.x+b.x,a.y+b.y,a.z+b.z⟩
def smul(k:Int)(a:V):V:=⟨k*a.x,k*a.y,k*a.z⟩
def dot(a b:V):Int:=a.x*b.x+a.y*b.y+a.z*b.z
def cross(a b:V):V:=⟨a.y*b.z-a.z*b.y,a.z*b.x-a.x*b.z,a.x*b.y-a.y*b.x⟩
def zero:V:=⟨0,0,0⟩
def ext'{a b:V}(h1:a.x=b.x)(c:a.y=b.y)(d:a.z=b.z):a=b:=by cases a;cases b;simp_all
end V
open V
def zO{a:Int}(h:a≠0):0<a*a:=by
 rcases Int.lt_or_lt_of_ne h with h|h
 ·exact zZb h h
 ·exact z0a h h
def ni(a:Int):0<=a*a:=by
 rcases zCb a 0 with h|h|h
 ·exact zva (zZb h h)
 ·subst h;decide
 ·exact zva (z0a h h)
def mD(a:V):0<=dot a a:=by
 have:=ni a.x;have:=ni a.y;have:=ni a.z;simp only[dot];omega
def oy{a:V}(h:dot a a=0):a=zero:=by
 have h1:=ni a.x;have e:=ni a.y;have f:=ni a.z;simp only[dot] at h;have b:a.x*a.x=0:=by omega
 have c:a.y*a.y=0:=by omega
 have d:a.z*a.z=0:=by omega
 apply V.ext'<;>simp only[zero]<;>(first|(rcases zcb.1 b with h|h<;>exact h)|(rcases zcb.1 c with h|h<;>exact h)|(rcases zcb.1 d with h|h<;>exact h))
def bf{a:V}(h:a≠zero):0<dot a a:=by
 have:=mD a;rcases z6a this with h1|h1
 ·exact h1
 ·exact absurd (oy h1.symm) h
def T(n u v:V):Int:=dot n (cross u v)
def lH{a b:Int}(d:0<a)(h:0<a*b):0<b:=by
 rcases zCb b 0 with c|c|c
 ·have:=zdb d c;omega
 ·subst c;simp at h
 ·exact c
def nF{a b:Int}(d:0<a)(h:0<=a*b):0<=b:=by
 rcases zzb b 0 with c|c
 ·have:=zdb d c;omega
 ·exact c
def aA{a b:Int}(c:0<a)(h:a*b=0):b=0:=by
 rcases zcb.1 h with h|h
 ·omega
 ·exact h
section plane
variable{n:V}(hn:n≠zero)
include hn
def zt(f:V){u v w:V}(hu:dot n u=0)(a:dot n v=0)(hw:dot n w=0) :
  dot f u*T n v w+dot f v*T n w u+dot f w*T n u v=0:=by
 have h:dot n n*(dot f u*T n v w+dot f v*T n w u+dot f w*T n u v)=0:=by
  simp only[T,dot,cross] at *;grind
 exact aA (bf hn) h
def DD{f u v w:V}(hu:dot n u=0)(d:dot n v=0)(hw:dot n w=0)(a:0<dot f u)(fv:0<dot f v)(b:0<dot f w)
  (h1:0<=T n u v) (c:0<=T n v w):0<=T n u w/\(0<T n u v\/0<T n v w->0<T n u w):=by
 have p:=zt hn f hu d hw;have e:T n w u=- T n u w:=by simp only[T,dot,cross];grind
 rw[e] at p;have q:dot f v*T n u w=dot f u*T n v w+dot f w*T n u v:=by
  have:dot f v*-T n u w=-(dot f v*T n u w):=z1b _ _;omega
 have g:=zlb (zva a) c;have i:=zlb (zva b) h1;refine⟨nF fv (by omega),λh=>lH fv ?_⟩
 rcases h with h|h
 ·have:=z0a b h;omega
 ·have:=z0a a h;omega
def dW{u v:V}(hu:dot n u=0)(d:dot n v=0)(h:T n u v=0):cross u v=zero:=by
 have hp:=bf hn;have a:dot n n*(cross u v).x=T n u v*n.x:=by simp only[T,dot,cross] at *;grind
 have b:dot n n*(cross u v).y=T n u v*n.y:=by simp only[T,dot,cross] at *;grind
 have c:dot n n*(cross u v).z=T n u v*n.z:=by simp only[T,dot,cross] at *;grind
 rw[h,z2b] at a b c;exact V.ext' (aA hp a) (aA hp b) (aA hp c)
end plane
def wD{u v:V}(h:cross u v=zero)(f:V):smul (dot f u) v=smul (dot f v) u:=by
 have h1:(cross u v).x=0:=by rw[h];rfl
 have a:(cross u v).y=0:=by rw[h];rfl
 have b:(cross u v).z=0:=by rw[h];rfl
 simp only[cross] at h1 a b;apply V.ext'<;>simp only[smul,dot]<;>grind
def IG{u v:V}(h:cross u v=zero)(hu:u≠zero)(a:dot v u=dot u u):v=u:=by
 have p:=wD h u;have e:dot u v=dot v u:=by simp only[dot];grind
 have hp:=bf hu;rw[e,a] at p;have b:dot u u*(v.x-u.x)=0:=by have:=congrArg V.x p;simp only[smul] at this;grind
 have c:dot u u*(v.y-u.y)=0:=by have:=congrArg V.y p;simp only[smul] at this;grind
 have d:dot u u*(v.z-u.z)=0:=by have:=congrArg V.z p;simp only[smul] at this;grind
 have:=aA hp b;have:=aA hp c;have:=aA hp d;exact V.ext' (by omega) (by omega) (by omega)
theorem gP{α:Type}(φ:α->Int):∀ l:List α,∃ N:Int,0<N/\∀ x∈l,-N<φ x/\φ x<N
 | []=>⟨1,by decide,by simp⟩
 | a::l=>by
  obtain⟨N,h0,h⟩:=gP φ l;refine⟨N+(φ a).natAbs+1,by omega,λx hx=>?_⟩
  rcases zwa.1 hx with rfl|hx
  ·omega
  ·have:=h x hx;omega
def wy(P:Nat->V)(a x:Nat):V:=sub (P x) (P a)
structure Side(n:V)(P:Nat->V)(on:List Nat)(a b:Nat):Prop where
 mem:b∈on
 ne:b≠a
 all:∀ x∈on,0<=T n (wy P a b) (wy P a x)/\(T n (wy P a b) (wy P a x)=0->0<=dot (wy P a x) (wy P a b)/\dot (wy P a x) (wy P a b)<=dot (wy P a b) (wy P a b))
def ml(P:Nat->V)(on:List Nat)(a:Nat):Prop:=∃ f:V,∀ x∈on,x≠a->0<dot f (wy P a x)
structure Flat(n:V)(P:Nat->V)(on:List Nat):Prop where
 nz:n≠zero
 pl:∀ x∈on,∀ y∈on,dot n (wy P x y)=0
 inj:∀ x∈on,∀ y∈on,P x=P y->x=y
section poly
variable{n:V}{P:Nat->V}{on:List Nat}
def qF(h:Flat n P on){a b:Nat}(i:a∈on)(j:b∈on)(c:b≠a):wy P a b≠zero:=λe=>by
 apply c;apply h.inj b j a i;have d:=congrArg V.x e;have f:=congrArg V.y e;have g:=congrArg V.z e;simp only[wy,sub,zero] at d f g;exact V.ext' (by omega) (by omega) (by omega)
def JC{a b c:Nat}(h:wy P a b=wy P a c):P b=P c:=by
 have d:=congrArg V.x h;have e:=congrArg V.y h;have f:=congrArg V.z h;simp only[wy,sub] at d e f;exact V.ext' (by omega) (by omega) (by omega)
def Side.unique(h:Flat n P on){a b c:Nat}(f:a∈on)(d:Side n P on a b)(hc:Side n P on a c):b=c:=by
 have h1:=d.all c hc.mem;have j:=hc.all b d.mem;have e:T n (wy P a c) (wy P a b)=- T n (wy P a b) (wy P a c):=by simp only[T,dot,cross];grind
 rw[e] at j;have t0:T n (wy P a b) (wy P a c)=0:=by omega
 have k:=h1.2 t0;have l:=j.2 (by omega)
 have es:dot (wy P a b) (wy P a c)=dot (wy P a c) (wy P a b):=by simp only[dot];grind
 have hx:=dW h.nz (h.pl a f b d.mem) (h.pl a f c hc.mem) t0;have hq:dot (wy P a b) (wy P a b)*dot (wy P a c) (wy P a c)=dot (wy P a c) (wy P a b)*dot (wy P a c) (wy P a b):=by
  have p:=wD hx (wy P a b);have o:=congrArg V.x p;have q:=congrArg V.y p;have r:=congrArg V.z p;simp only[smul] at o q r;simp only[dot] at *;grind
 have m:=bf (qF h f d.mem d.ne);have g:=bf (qF h f hc.mem hc.ne);have hle:dot (wy P a c) (wy P a b)=dot (wy P a b) (wy P a b):=by
  generalize dot (wy P a b) (wy P a b)=B at *;generalize dot (wy P a c) (wy P a c)=C at *;generalize dot (wy P a c) (wy P a b)=X at *;rw[es] at l;rcases z6a k.2 with i|heq
  ·exfalso;have:X*X<B*C:=by
    have a1:X*X<=X*C:=zab l.2 k.1;have a2:X*C<B*C:=Int.mul_lt_mul_of_pos_right i g;omega
   omega
  ·exact heq
 have:=IG hx (qF h f d.mem d.ne) hle;exact(h.inj c hc.mem b d.mem (JC this)).symm
def Side.ext(h:Flat n P on){a b:Nat}(d:a∈on)(c:Side n P on a b):ml P on b:=by
 obtain⟨N,o,m⟩:=gP (λx=>dot (wy P b a) (wy P b x)) on;refine⟨add (smul N (cross n (wy P a b))) (wy P b a),λx hx g=>?_⟩;have e:dot (add (smul N (cross n (wy P a b))) (wy P b a)) (wy P b x)=N*T n (wy P a b) (wy P a x)+dot (wy P b a) (wy P b x):=by
  simp only[T,dot,cross,add,smul,wy,sub];grind
 rw[e];obtain⟨h1,k⟩:=c.all x hx;have q:=m x hx;rcases z6a h1 with p|heq
 ·have:N*1<=N*T n (wy P a b) (wy P a x):=zab (by omega) (by omega)
  omega
 ·rw[<-heq,zLb,zzc];have l:=k heq.symm;have j:dot (wy P b a) (wy P b x)=dot (wy P a b) (wy P a b)-dot (wy P a x) (wy P a b):=by simp only[dot,wy,sub];grind
  rw[j];rcases z6a l.2 with i|i
  ·omega
  ·exfalso;have f:=dW h.nz (h.pl a d b c.mem) (h.pl a d x hx) heq.symm;exact g (h.inj x hx b c.mem (JC (IG f (qF h d c.mem c.ne) i)))
def ml.ray(h:Flat n P on){a x y:Nat}(i:a∈on)(hx:x∈on)(r:y∈on)(E:ml P on a)(ex:ml P on x)(F:ml P on y)(d:x≠a)(e:y≠a)(I:T n (wy P a x) (wy P a y)=0):x=y:=by
 by_cases hxy:x=y
 ·exact hxy
 exfalso;obtain⟨f,C⟩:=E;obtain⟨g,D⟩:=ex;obtain⟨k,hk⟩:=F;have c:=dW h.nz (h.pl a i x hx) (h.pl a i y r) I;have p:=wD c f;have G:=C x hx d;have w:=C y r e;have g1:=D a i (Ne.symm d);have g2:=D y r (Ne.symm hxy);have J:=hk a i (Ne.symm e);have K:=hk x hx hxy;have N:dot f (wy P a x)*dot g (wy P a y)=dot f (wy P a y)*dot g (wy P a x):=by
  have t:=congrArg V.x p;have u:=congrArg V.y p;have v:=congrArg V.z p;simp only[smul] at t u v;generalize dot f (wy P a x)=A at *;generalize dot f (wy P a y)=B at *;simp only[dot];grind
 have L:dot f (wy P a x)*dot k (wy P a y)=dot f (wy P a y)*dot k (wy P a x):=by
  have t:=congrArg V.x p;have u:=congrArg V.y p;have v:=congrArg V.z p;simp only[smul] at t u v;generalize dot f (wy P a x)=A at *;generalize dot f (wy P a y)=B at *;simp only[dot];grind
 have j:dot g (wy P x a)=- dot g (wy P a x):=by simp only[dot,wy,sub];grind
 have l:dot g (wy P x y)=dot g (wy P a y)-dot g (wy P a x):=by simp only[dot,wy,sub];grind
 have m:dot k (wy P y a)=- dot k (wy P a y):=by simp only[dot,wy,sub];grind
 have o:dot k (wy P y x)=dot k (wy P a x)-dot k (wy P a y):=by simp only[dot,wy,sub];grind
 rw[j] at g1;rw[l] at g2;rw[m] at J;rw[o] at K;generalize dot f (wy P a x)=A at *;generalize dot f (wy P a y)=B at *;generalize dot g (wy P a x)=gx at *;generalize dot g (wy P a y)=H at *;generalize dot k (wy P a x)=s at *;generalize dot k (wy P a y)=b at *;have r1:B<A:=by
  rcases zzb B A with q|q
  ·exact q
  ·exfalso;have s1:B*gx<=A*gx:=by
    have:=zdc q (show 0<=-gx by omega)
    simp only[z1b] at this;omega
   have s2:A*gx<A*H:=z7b (by omega) G
   omega
 have O:A*b<B*b:=by
  have M:B*b<B*s:=z7b (by omega) w
  have Q:A*b=B*s:=L;have R:A*b<=B*b:=by
   have:=zdc (zva r1) (show 0<=-b by omega)
   simp only[z1b] at this;omega
  omega
 have M:B*b<B*s:=z7b (by omega) w
 omega
def Rr(a x y:Nat):T n (wy P x y) (wy P x a)=T n (wy P a x) (wy P a y):=by
 simp only[T,dot,cross,wy,sub];grind
def Jo(u v:V):T n v u=- T n u v:=by simp only[T,dot,cross];grind
def Side.after(h:Flat n P on){a x y:Nat}(f:a∈on)(hx:x∈on)(g:ml P on a)(ex:ml P on x)(d:x≠a)(b:Side n P on x y)(e:y≠a):0<T n (wy P a x) (wy P a y):=by
 have h1:=(b.all a f).1;rw[Rr] at h1;rcases z6a h1 with c|c
 ·exact c
 ·exact absurd (ml.ray h f hx b.mem g ex (b.ext h hx) d e c.symm) b.ne.symm
def LG(h:Flat n P on){a x y z:Nat}(l:a∈on)(hx:x∈on)(b:z∈on)(d:Side n P on x y)(r:ml P on z)(h1:0<T n (wy P a x) (wy P a z))(k:0<T n (wy P a z) (wy P a y)):False:=by
 obtain⟨f,c⟩:=r;have g:a≠z:=λe=>by subst e;simp[T,dot,cross,wy,sub] at k
 have i:x≠z:=λe=>by
  subst e;have:T n (wy P a x) (wy P a x)=0:=by simp only[T,dot,cross];grind
  omega
 have j:y≠z:=λe=>by
  subst e;have:T n (wy P a y) (wy P a y)=0:=by simp only[T,dot,cross];grind
  omega
 have f1:=c a l g;have f2:=c x hx i;have f3:=c y d.mem j;have s:=(d.all z b).1;have e:dot n n*(T n (wy P x y) (wy P x z)*dot f (wy P z a)+T n (wy P a z) (wy P a y)*dot f (wy P z x)+T n (wy P a x) (wy P a z)*dot f (wy P z y))=0:=by
  have t:=h.pl z b a l;have u:=h.pl z b x hx;have v:=h.pl z b y d.mem;have o:T n (wy P x y) (wy P x z)=T n (wy P z x) (wy P z y):=Rr z x y;have p:T n (wy P a z) (wy P a y)=T n (wy P z y) (wy P z a):=by simp only[T,dot,cross,wy,sub];grind
  have q:T n (wy P a x) (wy P a z)=T n (wy P z a) (wy P z x):=by simp only[T,dot,cross,wy,sub];grind
  rw[o,p,q];have m:=zt h.nz f t u v;rw[z5a (dot f (wy P z a)),z5a (dot f (wy P z x)),z5a (dot f (wy P z y))] at m;rw[show T n (wy P z x) (wy P z y)*dot f (wy P z a)+T n (wy P z y) (wy P z a)*dot f (wy P z x)+T n (wy P z a) (wy P z x)*dot f (wy P z y)=0 from m,zLb]
 have w:=aA (bf h.nz) e;have m1:=zlb s (zva f1);have m2:=z0a k f2;have m3:=z0a h1 f3;omega
theorem wZ{α:Type}{p q:α->Bool}:∀ {l:List α},(∀ x∈l,p x=true->q x=true)->(∃ y∈l,q y=true/\p y=false)->l.countP p<l.countP q
 | [],_,h=>by obtain⟨y,b,_⟩:=h;cases b
 | a::l,h,b=>by
  have hl:l.countP p<=l.countP q:=by
   have c:∀ x∈l,p x=true->q x=true:=λx hx=>h x (zia _ hx);exact List.countP_mono_left c
  have d:=h a zoa;rw[List.countP_cons,List.countP_cons];obtain⟨y,hm,hq,hp⟩:=b;rcases zwa.1 hm with rfl|hm
  ·simp[hq,hp];omega
  ·have:=wZ (l:=l) (λx hx=>h x (zia _ hx)) ⟨y,hm,hq,hp⟩;cases hpa:p a
   ·simp;omega
   ·simp[d hpa];omega
inductive Chain(S:Nat->Nat->Prop)(a₀:Nat):Nat->List Nat->Prop
 | done {c:Nat}:S c a₀->Chain S a₀ c [c]
 | step {c y:Nat} {l:List Nat}:S c y->y≠a₀->Chain S a₀ y l->Chain S a₀ c (c::l)
def walk(h:Flat n P on){a:Nat}(s:a∈on)(G:ml P on a)(o:∀ c∈on,ml P on c->∃ b,Side n P on c b){c:Nat}(hc:c∈on)(u:ml P on c)(k:c≠a) :
  ∃ l,Chain (Side n P on) a c l/\(∀ z∈l,z∈on/\ml P on z/\z≠a/\(z=c\/0<T n (wy P a c) (wy P a z)))/\(∀ z∈on,ml P on z->z≠a->0<T n (wy P a c) (wy P a z)->z∈l) ∧
   l.Pairwise (λx y=>0<T n (wy P a x) (wy P a y)):=by
 generalize hm:on.countP (λz=>decide (0<T n (wy P a c) (wy P a z)))=m
 induction m using Nat.strongRecOn generalizing c with
 | _ m ih=>
  obtain⟨y,i⟩:=o c hc u;obtain⟨f,t⟩:=G;by_cases hya:y=a
  ·subst hya;refine⟨[c],.done i,λz d=>?_,λz d v j p=>?_,by simp⟩
   ·rw[zDa] at d;subst d;exact⟨hc,u,k,.inl rfl⟩
   ·have h1:=(i.all z d).1;have e:T n (wy P c y) (wy P c z)=- T n (wy P y c) (wy P y z):=by simp only[T,dot,cross,wy,sub];grind
    omega
  ·have g:=Side.after h s hc ⟨f,t⟩ u k i hya;have B:=i.ext h hc;have tr:∀ z∈on,0<T n (wy P a y) (wy P a z)->0<T n (wy P a c) (wy P a z):=λz d p=>by
    have j:z≠a:=λe=>by
     subst e;have:T n (wy P z y) (wy P z z)=0:=by simp[T,dot,cross,wy,sub]
     omega
    exact(DD h.nz (h.pl a s c hc) (h.pl a s y i.mem) (h.pl a s z d) (t c hc k) (t y i.mem hya) (t z d j) (zva g) (zva p)).2 (.inl g)
   have r:T n (wy P a y) (wy P a y)=0:=by simp only[T,dot,cross];grind
   obtain⟨l,C,D,I,J⟩:=ih _ (by
    rw[<-hm];refine wZ (λz d p=>by simp only[decide_eq_true_eq] at p ⊢;exact tr z d p) ⟨y,i.mem,by simpa using g,by simp[r]⟩) i.mem B hya rfl
   refine⟨c::l,.step i hya C,λz d=>?_,λz d v j p=>?_,zFa.2 ⟨λz d=>?_,J⟩⟩
   ·rcases zwa.1 d with rfl|d
    ·exact⟨hc,u,k,.inl rfl⟩
    ·obtain⟨w,E,F,q⟩:=D z d;refine⟨w,E,F,.inr ?_⟩;rcases q with rfl|q
     ·exact g
     ·exact tr z w q
   ·rcases zCb (T n (wy P a y) (wy P a z)) 0 with H|heq|A
    ·have e:=Jo (n:=n) (wy P a y) (wy P a z);exact(LG h s hc d i v p (by omega)).elim
    ·have:=ml.ray h s i.mem d ⟨f,t⟩ B v hya j heq;subst this;have:y∈l:=by cases C<;>exact zoa
     exact zia _ this
    ·exact zia _ (I z d v j A)
   ·obtain⟨w,E,F,q⟩:=D z d;rcases q with rfl|q
    ·exact g
    ·exact tr z w q
def q9(n:V)(P:Nat->V)(a b k:Nat):Bool:=
 decide (T n (wy P a b) (wy P a k)<0)||(decide (T n (wy P a b) (wy P a k)=0)&&decide (dot (wy P a b) (wy P a b)<dot (wy P a k) (wy P a k)))
def dD(n:V)(P:Nat->V)(a:Nat)(best:Option Nat)(k:Nat):Option Nat:=
 if k=a then best else match best with
  | none=>some k
  | some b=>if q9 n P a b k then some k else some b
theorem sZ(h:Flat n P on){a:Nat}(j:a∈on)(u:ml P on a):∀ (l pre:List Nat) (best:Option Nat),(∀ x∈pre,x∈on)->(∀ x∈l,x∈on) ->
  (match best with
   | none=>∀ x∈pre,x=a
   | some b=>b∈pre/\b≠a/\∀ x∈pre,x≠a->0<T n (wy P a b) (wy P a x)\/(T n (wy P a b) (wy P a x)=0/\dot (wy P a x) (wy P a x)<=dot (wy P a b) (wy P a b))) ->
  match l.foldl (dD n P a) best with
   | none=>∀ x∈pre++l,x=a
   | some b=>b∈pre++l/\b≠a/\∀ x∈pre++l,x≠a->0<T n (wy P a b) (wy P a x)\/(T n (wy P a b) (wy P a x)=0/\dot (wy P a x) (wy P a x)<=dot (wy P a b) (wy P a b))
 | [],pre,best,_,_,e=>by simpa using e
 | k::l,pre,best,h1,v,e=>by
  rw[zxc];have hk:k∈on:=v k zoa;rw[show pre++k::l=(pre++[k])++l by simp]
  refine sZ h j u l (pre++[k]) _ (λx hx=>?_) (λx hx=>v x (zia _ hx)) ?_
  ·rcases List.mem_append.1 hx with hx|hx
   ·exact h1 x hx
   ·rw[zDa] at hx;exact hx ▸ hk
  unfold dD;by_cases hka:k=a
  ·rw[if_pos hka];subst hka;cases best with
   | none=>
    simp only at e ⊢;intro x hx;rcases List.mem_append.1 hx with hx|hx
    ·exact e x hx
    ·exact zDa.1 hx
   | some b=>
    simp only at e ⊢;refine⟨List.mem_append_left _ e.1,e.2.1,λx hx d=>?_⟩;rcases List.mem_append.1 hx with hx|hx
    ·exact e.2.2 x hx d
    ·exact absurd (zDa.1 hx) d
  ·rw[if_neg hka];cases best with
   | none=>
    simp only at e ⊢;refine⟨zOa _ (zDa.2 rfl),hka,λx hx d=>?_⟩;rcases List.mem_append.1 hx with hx|hx
    ·exact absurd (e x hx) d
    ·rw[zDa.1 hx];right;exact⟨by simp only[T,dot,cross];grind,zhc _⟩
   | some b=>
    simp only at e ⊢;obtain⟨r,s,t⟩:=e;have g:=h1 b r;obtain⟨f,m⟩:=u;by_cases hbt:q9 n P a b k=true
    ·rw[if_pos hbt];simp only;refine⟨zOa _ (zDa.2 rfl),hka,λx hx d=>?_⟩;have y:=Jo (n:=n) (wy P a b) (wy P a k);simp only[q9,zHb,zaa,decide_eq_true_eq] at hbt;rcases List.mem_append.1 hx with hx|hx
     ·have i:=h1 x hx;have c:=t x hx d;have p:0<=T n (wy P a k) (wy P a b):=by omega
      have q:0<=T n (wy P a b) (wy P a x):=by omega
      obtain⟨t1,t2⟩:=DD h.nz (h.pl a j k hk) (h.pl a j b g) (h.pl a j x i) (m k hk hka) (m b g s) (m x i d) p q;rcases z6a t1 with o|heq
      ·exact .inl o
      ·right;refine⟨heq.symm,?_⟩;have:¬ (0<T n (wy P a k) (wy P a b)\/0<T n (wy P a b) (wy P a x)):=λw=>by have:=t2 w;omega
       omega
     ·rw[zDa.1 hx];right;exact⟨by simp only[T,dot,cross];grind,zhc _⟩
    ·rw[if_neg hbt];simp only;refine⟨List.mem_append_left _ r,s,λx hx d=>?_⟩;rcases List.mem_append.1 hx with hx|hx
     ·exact t x hx d
     ·rw[zDa.1 hx];simp only[q9,zHb,zaa,decide_eq_true_eq] at hbt;omega
def xV(h:Flat n P on){a:Nat}(l:a∈on)(t:ml P on a)(C:∃ x∈on,x≠a):∃ b,on.foldl (dD n P a) none=some b/\Side n P on a b:=by
 have key:=sZ h l t on [] none (by simp) (λx hx=>hx) (by simp)
 cases hr:on.foldl (dD n P a) none with
 | none=>
  rw[hr] at key;obtain⟨x,hx,d⟩:=C;exact absurd (key x (by simpa using hx)) d
 | some b=>
  rw[hr] at key;simp only[zcc] at key;obtain⟨m,o,E⟩:=key;refine⟨b,rfl,m,o,λx hx=>?_⟩;by_cases d:x=a
  ·subst d;have e:wy P x x=zero:=by simp[wy,sub,zero]
   have:T n (wy P x b) (wy P x x)=0:=by rw[e];simp[T,dot,cross,zero]
   have hp:=mD (wy P x b);have v:dot (wy P x x) (wy P x b)=0:=by rw[e];simp[dot,zero]
   rw[this,v];exact⟨zhc _,λ_=>⟨zhc _,hp⟩⟩
  ·have c:=E x hx d;refine⟨by omega,λt0=>?_⟩
   have c2:dot (wy P a x) (wy P a x)<=dot (wy P a b) (wy P a b):=by omega
   obtain⟨f,u⟩:=t;have k:=dW h.nz (h.pl a l b m) (h.pl a l x hx) t0;have p:=wD k f;have fb:=u b m o;have w:=u x hx d;have i:=bf (qF h l m o);have F:dot f (wy P a b)*dot (wy P a x) (wy P a b)=dot f (wy P a x)*dot (wy P a b) (wy P a b):=by
    have q:=congrArg V.x p;have r:=congrArg V.y p;have s:=congrArg V.z p;simp only[smul] at q r s;generalize dot f (wy P a b)=A at *;generalize dot f (wy P a x)=B at *;simp only[dot];grind
   have g:0<dot (wy P a x) (wy P a b):=lH fb (by rw[F];exact z0a w i)
   refine⟨zva g,?_⟩;have G:dot (wy P a b) (wy P a b)*dot (wy P a x) (wy P a x)=dot (wy P a x) (wy P a b)*dot (wy P a x) (wy P a b):=by
    have p:=wD k (wy P a b);have q:=congrArg V.x p;have r:=congrArg V.y p;have s:=congrArg V.z p;simp only[smul] at q r s;simp only[dot] at *;grind
   generalize dot (wy P a b) (wy P a b)=B at *;generalize dot (wy P a x) (wy P a x)=X at *;generalize dot (wy P a x) (wy P a b)=D at *;rcases zzb B D with j|hle
   ·exfalso;have a1:B*X<=B*B:=zab c2 (zva i);have a2:B*B<B*D:=z7b j i;have a3:B*D<D*D:=Int.mul_lt_mul_of_pos_right j g;omega
   ·exact hle
end poly
open V
def aD(a b:V):Prop:=a.x<b.x\/a.x=b.x/\(a.y<b.y\/a.y=b.y/\a.z<b.z)
def Fp{P:Nat->V}{on:List Nat}{a:Nat}(h:∀ x∈on,x≠a->aD (P a) (P x)):ml P on a:=by
 obtain⟨N1,p,j⟩:=gP (λx=>(wy P a x).y) on;obtain⟨N2,q,k⟩:=gP (λx=>(wy P a x).z) on;refine⟨⟨(N1+N2)*(N1+N2)+(N1+N2),N1+N2,1⟩,λx hx i=>?_⟩;have c1:=j x hx;have c2:=k x hx;have hl:=h x hx i;simp only[wy,sub,aD,dot] at *;generalize hX:(P x).x-(P a).x=X at *;generalize hY:(P x).y-(P a).y=Y at *;generalize hZ:(P x).z-(P a).z=Z at *;generalize hN:N1+N2=N;have b:0<N:=by omega
 have f:-N+1<=Y:=by omega
 have m:Y<=N-1:=by omega
 have n:-N+1<=Z:=by omega
 have m1:N*(-N+1)<=N*Y:=zab f (zva b);have m2:N*(-N+1)=-(N*N)+N:=by grind
 have l:0<N*N:=z0a b b;rcases hl with hl|⟨h1,hl|⟨o,hl⟩⟩
 ·have d:1<=X:=by omega
  have m3:(N*N+N)*1<=(N*N+N)*X:=zab d (by omega)
  omega
 ·have c:X=0:=by omega
  have g:1<=Y:=by omega
  have m3:N*1<=N*Y:=zab g (by omega)
  subst c;simp only[zLb];omega
 ·have c:X=0:=by omega
  have e:Y=0:=by omega
  subst c;subst e;simp only[zLb];omega
section poly
variable{n:V}{P:Nat->V}{on:List Nat}
def Chain.head{S:Nat->Nat->Prop}{a c:Nat}{l:List Nat}(h:Chain S a c l):∃ l',l=c::l':=by
 cases h<;>exact⟨_,rfl⟩
theorem Chain.pairs{S:Nat->Nat->Prop}{a:Nat}:∀ {c:Nat} {l:List Nat},Chain S a c l->∀ i x,l[i]?=some x->∃ y,(l++[a])[i+1]?=some y/\S x y
 | c,_,.done h,i,x,hx=>by
  cases i with
  | zero=>simp at hx;subst hx;exact⟨a,by simp,h⟩
  | succ i=>simp at hx
 | c,_,.step (y:=y) (l:=l) h hne k,i,x,hx=>by
  cases i with
  | zero=>
   simp at hx;subst hx;obtain⟨l',rfl⟩:=k.head;exact⟨y,by simp,h⟩
  | succ i=>
   obtain⟨z,h1,b⟩:=Chain.pairs k i x (by simpa using hx)
   exact⟨z,by simpa using h1,b⟩
def C3(h:Flat n P on){a:Nat}(i:a∈on)(j:ml P on a)(q:∀ c∈on,∃ x∈on,x≠c) :
  ∃ l,Chain (Side n P on) a a l/\l.Nodup/\(∀ z∈l,z∈on/\ml P on z)/\∀ z∈on,ml P on z->z∈l:=by
 have d:∀ c∈on,ml P on c->∃ b,Side n P on c b:=λc hc k=>by
  obtain⟨b,_,r⟩:=xV h hc k (q c hc);exact⟨b,r⟩
 obtain⟨c,f⟩:=d a i j;have k:=f.ext h i;obtain⟨l,p,m,t,u⟩:=walk h i j d f.mem k f.ne;refine⟨a::l,.step f f.ne p,List.nodup_cons.2 ⟨λhm=>(m a hm).2.2.1 rfl,?_⟩,λz g=>?_,λz g o=>?_⟩
 ·refine List.Pairwise.imp (λ{x y} s e=>?_) u;subst e;have:T n (wy P a x) (wy P a x)=0:=by simp only[T,dot,cross];grind
  omega
 ·rcases zwa.1 g with rfl|g
  ·exact⟨i,j⟩
  ·exact⟨(m z g).1,(m z g).2.1⟩
 ·by_cases hza:z=a
  ·subst hza;exact zoa
  ·refine zia _ ?_;have h0:=(f.all z g).1;rcases z6a h0 with hp|he
   ·exact t z g o hza hp
   ·have:=ml.ray h i f.mem g j k o f.ne hza he.symm;subst this;obtain⟨l',rfl⟩:=p.head;exact zoa
end poly
def sg(x:Int):Int:=if x<0 then -1 else if 0<x then 1 else 0
def vL(a b:Int):sg a*sg b=sg (a*b):=by
 rcases zCb a 0 with h|h|h<;>rcases zCb b 0 with k|k|k
 ·have:=zZb h k;simp[sg,h,k,this,zfc.2 (zva this)]
 ·subst k;simp[sg]
 ·have:=zod h k;simp[sg,h,k,this,zfc.2 (zva k)]
 ·subst h;simp[sg]
 ·subst h;simp[sg]
 ·subst h;simp[sg]
 ·have:=zdb h k;simp[sg,h,k,this,zfc.2 (zva h)]
 ·subst k;simp[sg]
 ·have:=z0a h k;simp[sg,h,k,this,zfc.2 (zva h),zfc.2 (zva k),zfc.2 (zva this)]
def gU{x:Int}(h:0<x):sg x=1:=by simp[sg,h,zfc.2 (zva h)]
def zJ{x:Int}(h:x<0):sg x=-1:=by simp[sg,h]
def xz(n c:V):Int:=if n.x≠0 then sg n.x*sg c.x else if n.y≠0 then sg n.y*sg c.y else if n.z≠0 then sg n.z*sg c.z else 0
def vM{a b p:Int}(hp:0<p){q:Int}(hq:0<q)(h:a*p=q*b):sg a=sg b:=by
 have h1:sg (a*p)=sg a:=by rw[<-vL,gU hp];simp
 have c:sg (q*b)=sg b:=by rw[<-vL,gU hq];simp
 rw[<-h1,<-c,h]
def Ee{n c:V}(hn:n≠zero)(h:cross n c=zero):xz n c=sg (dot n c):=by
 have h1:=congrArg V.x h;have e:=congrArg V.y h;have f:=congrArg V.z h;simp only[cross,zero] at h1 e f;have hp:=bf hn;have a:n.x*c.x*dot n n=n.x*n.x*dot n c:=by simp only[dot];grind
 have b:n.y*c.y*dot n n=n.y*n.y*dot n c:=by simp only[dot];grind
 have d:n.z*c.z*dot n n=n.z*n.z*dot n c:=by simp only[dot];grind
 unfold xz;split
 ·rename_i k;rw[vL];exact vM hp (zO k) a
 ·split
  ·rename_i k;rw[vL];exact vM hp (zO k) b
  ·split
   ·rename_i k;rw[vL];exact vM hp (zO k) d
   ·rename_i g i j;exact absurd (V.ext' (by simpa [zero] using g) (by simpa [zero] using i) (by simpa [zero] using j)) hn
def eH{n u v:V}(hu:dot n u=0)(a:dot n v=0):cross n (cross u v)=zero:=by
 simp only[dot] at hu a;apply V.ext'<;>simp only[cross,zero]<;>grind
open V
def bo(P:Nat->V)(N:Nat)(n:V)(d:Int):List Nat:=(List.range N).filter λk=>decide (dot n (P k)=d)
def Ce(P:Nat->V)(N:Nat)(n:V)(d:Int):Prop:=(∀ k,k<N->dot n (P k)<=d)/\∃ k,k<N/\dot n (P k)<d
def da(P:Nat->V)(i j k:Nat):V:=cross (wy P i j) (wy P i k)
def a7(v:V):Nat:=Nat.gcd (Nat.gcd v.x.natAbs v.y.natAbs) v.z.natAbs
def aG(v:V):V:=⟨v.x/a7 v,v.y/a7 v,v.z/a7 v⟩
structure IsF(P:Nat->V)(N:Nat)(n:V)(d:Int):Prop where
 ex:∃ i j k,i<j/\j<k/\k<N/\da P i j k≠zero/\(n=aG (da P i j k)\/n=neg (aG (da P i j k)))/\d=dot n (P i)
 supp:Ce P N n d
def fa{v:V}(h:v≠zero):0<a7 v:=by
 rcases zDb (a7 v) with e|p
 ·exfalso;unfold a7 at e;rw[Nat.gcd_eq_zero_iff,Nat.gcd_eq_zero_iff] at e;exact h (V.ext' (by simp[zero];omega) (by simp[zero];omega) (by simp[zero];omega))
 ·exact p
def fK(v:V):v=smul (a7 v) (aG v):=by
 have d1:(a7 v:Int) ∣ v.x:=zZa.2 (zcd (zob _ _) (zob _ _));have d2:(a7 v:Int) ∣ v.y:=zZa.2 (zcd (zob _ _) (zIb _ _));have d3:(a7 v:Int) ∣ v.z:=zZa.2 (zIb _ _);apply V.ext'
 ·exact(zDd d1).symm
 ·exact(zDd d2).symm
 ·exact(zDd d3).symm
def rD(k:Nat)(v:V):a7 (smul k v)=k*a7 v:=by
 simp only[a7,smul,zHa,zra];rw[Nat.gcd_mul_left,Nat.gcd_mul_left]
def ja{v:V}(h:v≠zero):a7 (aG v)=1:=by
 have p:=fa h;have e:=rD (a7 v) (aG v);rw[<-fK v] at e;exact(Nat.eq_of_mul_eq_mul_left p (by omega)).symm
def pV(v:V):a7 (neg v)=a7 v:=by simp[a7,neg]
def Bw(v:V):aG (neg v)=neg (aG v):=by
 have e:=fK v;unfold aG;rw[pV];have d1:(a7 v:Int) ∣ v.x:=zZa.2 (zcd (zob _ _) (zob _ _));have d2:(a7 v:Int) ∣ v.y:=zZa.2 (zcd (zob _ _) (zIb _ _));have d3:(a7 v:Int) ∣ v.z:=zZa.2 (zIb _ _);simp only[neg,zZc d1,zZc d2,zZc d3]
def tW{v:V}(h:v≠zero):aG v≠zero:=λe=>h (by rw[fK v,e];apply V.ext'<;>simp[smul,zero])
def mS{u v:V}(hu:a7 u=1)(k:a7 v=1){a b:Int}(i:0<a)(j:0<b)(h:smul a u=smul b v):u=v:=by
 obtain⟨a,rfl⟩:=zCc (zva i);obtain⟨b,rfl⟩:=zCc (zva j);have e:=rD a u;have g:=rD b v;rw[h,g,hu,k] at e;have:a=b:=by omega
 subst this;have h1:=congrArg V.x h;have d:=congrArg V.y h;have f:=congrArg V.z h;simp only[smul] at h1 d f;have c:(a:Int)≠0:=by omega
 exact V.ext' (Int.eq_of_mul_eq_mul_left c h1) (Int.eq_of_mul_eq_mul_left c d) (Int.eq_of_mul_eq_mul_left c f)
section
variable{P:Nat->V}{N:Nat}
def IsF.nz{n:V}{d:Int}(h:IsF P N n d):n≠zero/\a7 n=1:=by
 obtain⟨i,j,k,_,_,_,h1,a|a,_⟩:=h.ex
 ·subst a;exact⟨tW h1,ja h1⟩
 ·subst a;refine⟨λe=>tW h1 ?_,by rw[pV];exact ja h1⟩
  have b:=congrArg V.x e;have c:=congrArg V.y e;have f:=congrArg V.z e;simp only[neg,zero] at b c f;exact V.ext' (by simp only[zero];omega) (by simp only[zero];omega) (by simp only[zero];omega)
def az{n:V}{d:Int}{k:Nat}:k∈bo P N n d↔k<N/\dot n (P k)=d:=by simp[bo]
def bX(n:V)(i k:Nat):dot n (wy P i k)=dot n (P k)-dot n (P i):=by simp only[dot,wy,sub];grind
def IsF.three{n:V}{d:Int}(h:IsF P N n d):∃ i j k,i<j/\j<k/\k<N/\i∈bo P N n d/\j∈bo P N n d/\k∈bo P N n d/\da P i j k≠zero:=by
 obtain⟨i,j,k,b,c,hk,h1,a,o⟩:=h.ex;have g:=fa h1;have e:=fK (da P i j k);have t1:dot (da P i j k) (wy P i j)=0:=by simp only[da,dot,cross];grind
 have t2:dot (da P i j k) (wy P i k)=0:=by simp only[da,dot,cross];grind
 have key:∀ v:V,dot (da P i j k) v=0->dot n v=0:=λv f=>by
  rw[e] at f;have:(a7 (da P i j k):Int)*dot (aG (da P i j k)) v=0:=by rw[<-f];simp only[dot,smul];grind
  have h0:=aA (by omega) this
  rcases a with a|a
  ·rw[a];exact h0
  ·rw[a];have:dot (neg (aG (da P i j k))) v=- dot (aG (da P i j k)) v:=by simp only[dot,neg];grind
   omega
 have l:=key _ t1;have m:=key _ t2;rw[bX] at l m;exact⟨i,j,k,b,c,hk,az.2 ⟨by omega,by omega⟩,az.2 ⟨by omega,by omega⟩,az.2 ⟨hk,by omega⟩,h1⟩
theorem IsF.flat(hl:∀ i j,i<j->j<N->aD (P i) (P j)){n:V}{d:Int}(h:IsF P N n d):Flat n P (bo P N n d):=by
 refine⟨h.nz.1,λx hx y f=>?_,λx hx y f e=>?_⟩
 ·have a:=(az.1 hx).2;have b:=(az.1 f).2;rw[bX];omega
 ·have a:=(az.1 hx).1;have b:=(az.1 f).1;rcases zrd x y with c|c|c
  ·have:=hl x y c b;rw[e] at this;simp only[aD] at this;omega
  ·exact c
  ·have:=hl y x c a;rw[e] at this;simp only[aD] at this;omega
def IsF.left(hl:∀ i j,i<j->j<N->aD (P i) (P j)){n:V}{d:Int}(h:IsF P N n d){a b:Nat}(m:a∈bo P N n d)(c:Side n P (bo P N n d) a b) :
  ∃ x∈bo P N n d,0<T n (wy P a b) (wy P a x):=by
 obtain⟨i,j,k,E,G,hk,s,t,mk,H⟩:=h.three;have F:=h.flat hl;have key:∀ x∈bo P N n d,0<T n (wy P a b) (wy P a x)\/cross (wy P a b) (wy P a x)=zero:=λx hx=>by
  rcases z6a (c.all x hx).1 with h1|h1
  ·exact .inl h1
  ·exact .inr (dW F.nz (F.pl a m b c.mem) (F.pl a m x hx) h1.symm)
 rcases key i s with h1|h1
 ·exact⟨i,s,h1⟩
 rcases key j t with f|f
 ·exact⟨j,t,f⟩
 rcases key k mk with g|g
 ·exact⟨k,mk,g⟩
 exfalso;apply H;have r:=bf (qF F m c.mem c.ne);have o:=wD h1 (wy P a b);have p:=wD f (wy P a b);have q:=wD g (wy P a b);have w1:wy P i j=sub (wy P a j) (wy P a i):=by apply V.ext'<;>simp only[wy,sub]<;>omega
 have Q:wy P i k=sub (wy P a k) (wy P a i):=by apply V.ext'<;>simp only[wy,sub]<;>omega
 unfold da;rw[w1,Q];generalize wy P a b=e at *;generalize wy P a i=u at *;generalize wy P a j=v at *;generalize wy P a k=w at *;generalize dot e u=A at *;generalize dot e v=B at *;generalize dot e w=C at *;generalize dot e e=D at *;have I:=congrArg V.x o;have J:=congrArg V.y o;have K:=congrArg V.z o;have r1:=congrArg V.x p;have L:=congrArg V.y p;have M:=congrArg V.z p;have s1:=congrArg V.x q;have s2:=congrArg V.y q;have O:=congrArg V.z q;simp only[smul] at I J K r1 L M s1 s2 O;have l:0<D*D:=z0a r r;apply V.ext'<;>simp only[cross,sub,zero]<;>refine aA l ?_<;>grind
theorem far{n e:V}(he:dot n e=0){w:Nat->V}:∀ l:List Nat,l≠[]->(∀ y∈l,dot n (w y)<0)->∃ y∈l,∀ x∈l,0<=dot e (cross (w y) (w x))
 | [],h,_=>absurd rfl h
 | [y],_,hn=>⟨y,zoa,λx hx=>by
   rw[zDa.1 hx];have:dot e (cross (w y) (w y))=0:=by simp only[dot,cross];grind
   omega⟩
 | z::j::l,_,hn=>by
  obtain⟨y,b,a⟩:=far he (j::l) (by simp) (λy b=>hn y (zia _ b))
  have self:∀ v:V,dot e (cross v v)=0:=λv=>by simp only[dot,cross];grind
  have i:∀ u v:V,dot e (cross v u)=- dot e (cross u v):=λu v=>by simp only[dot,cross];grind
  have pl:∀ x y z:V,dot n x*dot e (cross y z)=dot n z*dot e (cross y x)+dot n y*dot e (cross x z):=λx y z=>by
   have:dot n x*dot e (cross y z)-(dot n z*dot e (cross y x)+dot n y*dot e (cross x z))=dot n e*dot x (cross y z):=by simp only[dot,cross];grind
   rw[he] at this;omega
  rcases zzb (dot e (cross (w y) (w z))) 0 with d|c
  ·refine⟨z,zoa,λx hx=>?_⟩;rcases zwa.1 hx with rfl|hx
   ·have:=self (w x);omega
   ·have h1:=a x hx;have k:=pl (w y) (w z) (w x);have o:=hn y (zia _ b);have f:=hn z zoa;have g:=hn x (zia _ hx);have m:=i (w y) (w z);have a1:dot n (w x)*dot e (cross (w z) (w y))<=0:=Int.mul_nonpos_of_nonpos_of_nonneg (zva g) (by omega)
    have a2:dot n (w z)*dot e (cross (w y) (w x))<=0:=Int.mul_nonpos_of_nonpos_of_nonneg (zva f) h1;have a3:0<=(-(dot n (w y)))*dot e (cross (w z) (w x)):=by rw[Int.neg_mul];omega
    exact nF (by omega) a3
  ·refine⟨y,zia _ b,λx hx=>?_⟩;rcases zwa.1 hx with rfl|hx
   ·exact c
   ·exact a x hx
def CK{p q r:Nat}(hp:p<N)(hq:q<N)(u:r<N)(h1:p≠q)(y:p≠r)(z:q≠r){m:V}(hm:m=da P p q r)(hle:∀ x,x<N->dot m (wy P p x)<=0)(d:∃ x,x<N/\dot m (wy P p x)<0) :
  ∃ s,∃ g:Int,0<g/\m=smul g s/\IsF P N s (dot s (P p)):=by
 have f:m≠zero:=λe=>by
  obtain⟨x,_,hx⟩:=d;rw[e] at hx;simp[dot,zero] at hx
 have C:=fa f;have e:=fK m;refine⟨aG m,a7 m,by omega,e,?_,?_⟩
 ·have perm:∀ i j k,i<j->j<k->k<N->(m=da P i j k\/m=neg (da P i j k))->(dot (aG m) (wy P i p)=0)->∃ i j k,i<j/\j<k/\k<N/\da P i j k≠zero/\(aG m=aG (da P i j k)\/aG m=neg (aG (da P i j k)))/\dot (aG m) (P p)=dot (aG m) (P i):=by
   intro i j k n o hk c A;rw[bX] at A;refine⟨i,j,k,n,o,hk,λt=>f ?_,?_,by omega⟩
   ·rcases c with c|c
    ·rw[c,t]
    ·rw[c,t];rfl
   ·rcases c with c|c
    ·exact .inl (by rw[c])
    ·exact .inr (by rw[c,Bw])
  have l:∀ v:V,dot m v=0->dot (aG m) v=0:=λv B=>by
   have:(a7 m:Int)*dot (aG m) v=0:=by
    rw[<-B]
    conv=>rhs;rw[e]
    simp only[dot,smul];grind
   exact aA (by omega) this
  have w:dot (aG m) (wy P p p)=0:=l _ (by simp only[dot,wy,sub];grind)
  have z2:dot (aG m) (wy P q p)=0:=l _ (by rw[hm];simp only[dot,da,cross,wy,sub];grind)
  have z3:dot (aG m) (wy P r p)=0:=l _ (by rw[hm];simp only[dot,da,cross,wy,sub];grind)
  rcases Nat.lt_or_gt_of_ne h1 with a1|a1<;>rcases Nat.lt_or_gt_of_ne y with a2|a2<;>rcases Nat.lt_or_gt_of_ne z with a3|a3
  ·exact perm p q r a1 a3 u (.inl hm) w
  ·exact perm p r q a2 a3 hq (.inr (by rw[hm];apply V.ext'<;>simp only[da,neg,cross,wy,sub]<;>grind)) w
  ·omega
  ·exact perm r p q a2 a1 hq (.inl (by rw[hm];apply V.ext'<;>simp only[da,neg,cross,wy,sub]<;>grind)) z3
  ·exact perm q p r a1 a2 u (.inr (by rw[hm];apply V.ext'<;>simp only[da,neg,cross,wy,sub]<;>grind)) z2
  ·omega
  ·exact perm q r p a3 a2 hp (.inl (by rw[hm];apply V.ext'<;>simp only[da,neg,cross,wy,sub]<;>grind)) z2
  ·exact perm r q p a3 a1 hp (.inr (by rw[hm];apply V.ext'<;>simp only[da,neg,cross,wy,sub]<;>grind)) z3
 ·have sc:∀ v:V,dot m v=(a7 m:Int)*dot (aG m) v:=λv=>by
   conv=>lhs;rw[e]
   simp only[dot,smul];grind
  refine⟨λx hx=>?_,?_⟩
  ·have h:=hle x hx;rw[sc,bX] at h;rcases zzb (dot (aG m) (P p)) (dot (aG m) (P x)) with k|k
   ·have:=z0a (a:=(a7 m:Int)) (b:=dot (aG m) (P x)-dot (aG m) (P p)) (by omega) (by omega)
    omega
   ·exact k
  ·obtain⟨x,hx,h⟩:=d;rw[sc,bX] at h;refine⟨x,hx,?_⟩;rcases zzb (dot (aG m) (P x)) (dot (aG m) (P p)) with k|k
   ·exact k
   ·have:=zlb (a:=(a7 m:Int)) (b:=dot (aG m) (P x)-dot (aG m) (P p)) (by omega) (by omega)
    omega
end
open V
section
variable{P:Nat->V}{N:Nat}
def Cu(hl:∀ i j,i<j->j<N->aD (P i) (P j)){n:V}{d:Int}(h:IsF P N n d){a b:Nat}(H:a∈bo P N n d)(B:Side n P (bo P N n d) a b) :
  ∃ f d',IsF P N f d'/\a∈bo P N f d'/\b∈bo P N f d'/\Side f P (bo P N f d') b a:=by
 have F:=h.flat hl;have J:=(az.1 H).1;have a1:=(az.1 H).2;have L:=(az.1 B.mem).1;have he:dot n (wy P a b)=0:=F.pl a H b B.mem;obtain⟨l,C,I⟩:=h.left hl H B;have R:dot n (wy P a l)=0:=F.pl a H l C;have hle:∀ x,x<N->dot n (wy P a x)<=0:=λx hx=>by rw[bX];have:=h.supp.1 x hx;omega
 have A:=bf F.nz;obtain⟨z,an,hz⟩:=h.supp.2;obtain⟨y,Y,O⟩:=far (w:=wy P a) he ((List.range N).filter λk=>decide (dot n (wy P a k)<0)) (List.ne_nil_of_mem (a:=z) (by simp[an,bX];omega)) (λy Y=>by simpa using(zxb.1 Y).2)
 have aj:y<N:=by simpa using(zxb.1 Y).1
 have D:dot n (wy P a y)<0:=by simpa using(zxb.1 Y).2
 have s:∀ x,x<N->dot n (wy P a x)<0->0<=dot (wy P a b) (cross (wy P a y) (wy P a x)):=λx hx hn=>O x (by simp[hx,hn])
 have o:∀ u v:V,dot n u=0->dot n v=0->∀ y:V,dot n n*dot (cross u v) y=dot n (cross u v)*dot n y:=λu v hu hv y=>by
  have c:=eH hu hv;have c1:=congrArg V.x c;have c2:=congrArg V.y c;have Z:=congrArg V.z c;generalize cross u v=k at *;simp only[cross,zero] at c1 c2 Z;simp only[dot];grind
 have U:∀ v:V,dot (cross (wy P a y) (wy P a b)) v=- dot (wy P a b) (cross (wy P a y) v):=λv=>by simp only[dot,cross];grind
 have E:∀ v:V,dot (cross (wy P a y) (wy P a b)) v=dot (cross (wy P a b) v) (wy P a y):=λv=>by simp only[dot,cross];grind
 have G:∀ x∈bo P N n d,dot n n*dot (cross (wy P a y) (wy P a b)) (wy P a x)=T n (wy P a b) (wy P a x)*dot n (wy P a y):=λx hx=>by
  rw[E];exact o _ _ he (F.pl a H x hx) _
 have ax:∀ x,x<N->dot (cross (wy P a y) (wy P a b)) (wy P a x)<=0:=λx hx=>by
  rcases z6a (hle x hx) with k|k
  ·rw[U];have:=s x hx k;omega
  ·have m:x∈bo P N n d:=az.2 ⟨hx,by rw[bX] at k;omega⟩
   have e:=G x m;have t:=(B.all x m).1;have:T n (wy P a b) (wy P a x)*dot n (wy P a y)<=0:=Int.mul_nonpos_of_nonneg_of_nonpos t (zva D);rcases zzb 0 (dot (cross (wy P a y) (wy P a b)) (wy P a x)) with q|q
   ·have:=z0a A q;omega
   ·exact q
 have W:dot (cross (wy P a y) (wy P a b)) (wy P a l)<0:=by
  have e:=G l C;have:T n (wy P a b) (wy P a l)*dot n (wy P a y)<0:=zdb I D;rcases zzb (dot (cross (wy P a y) (wy P a b)) (wy P a l)) 0 with q|q
  ·exact q
  ·have:=zlb (zva A) q;omega
 have ak:a≠y:=λe=>by subst e;rw[show dot n (wy P a a)=0 by simp only[dot,wy,sub];grind] at D;omega
 have al:y≠b:=λe=>by subst e;omega
 obtain⟨f,g,hg,hm,hF⟩:=CK (p:=a) (q:=y) (r:=b) J aj L ak (Ne.symm B.ne) al rfl ax ⟨l,(az.1 C).1,W⟩;have sc:∀ v:V,dot (cross (wy P a y) (wy P a b)) v=g*dot f v:=λv=>by
  have:da P a y b=cross (wy P a y) (wy P a b):=rfl;rw[<-this,hm];simp only[dot,smul];grind
 have M:dot f (wy P a b)=0:=aA hg (by rw[<-sc];simp only[dot,cross];grind)
 have K:a∈bo P N f (dot f (P a)):=az.2 ⟨J,rfl⟩;have ai:b∈bo P N f (dot f (P a)):=az.2 ⟨L,by rw[bX] at M;omega⟩
 refine⟨f,_,hF,K,ai,K,Ne.symm B.ne,λx hx=>?_⟩;have S:=(az.1 hx).1;have Q:dot f (wy P a x)=0:=by rw[bX];have:=(az.1 hx).2;omega
 have aI:dot (cross (wy P a y) (wy P a b)) (wy P a x)=0:=by rw[sc,Q,zLb]
 have tE:T f (wy P b a) (wy P b x)=dot f (cross (wy P a x) (wy P a b)):=by simp only[T,dot,cross,wy,sub];grind
 have dE:dot (wy P b x) (wy P b a)=dot (wy P a b) (wy P a b)-dot (wy P a x) (wy P a b):=by simp only[dot,wy,sub];grind
 have ad:dot (wy P b a) (wy P b a)=dot (wy P a b) (wy P a b):=by simp only[dot,wy,sub];grind
 rw[tE,dE,ad];rcases z6a (hle x S) with k|k
 ·
  have c1:dot (cross (wy P a x) (wy P a b)) (wy P a l)<0:=by
   have e:=o (wy P a b) (wy P a l) he R (wy P a x);have e2:dot (cross (wy P a x) (wy P a b)) (wy P a l)=dot (cross (wy P a b) (wy P a l)) (wy P a x):=by simp only[dot,cross];grind
   have:T n (wy P a b) (wy P a l)*dot n (wy P a x)<0:=zdb I k;rw[e2];simp only[T] at this;rcases zzb (dot (cross (wy P a b) (wy P a l)) (wy P a x)) 0 with q|q
   ·exact q
   ·have:=zlb (zva A) q;omega
  have a0:dot f f*dot (cross (wy P a x) (wy P a b)) (wy P a l)=dot f (cross (wy P a x) (wy P a b))*dot f (wy P a l):=by
   have c:=eH Q M;have c1:=congrArg V.x c;have c2:=congrArg V.y c;have Z:=congrArg V.z c;generalize cross (wy P a x) (wy P a b)=k at *;simp only[cross,zero] at c1 c2 Z;simp only[dot];grind
  have X:=bf hF.nz.1;have n1:dot f (wy P a l)<0:=by
   rw[sc] at W;rcases zzb (dot f (wy P a l)) 0 with q|q
   ·exact q
   ·have:=zlb (zva hg) q;omega
  have l1:dot f f*dot (cross (wy P a x) (wy P a b)) (wy P a l)<0:=zdb X c1;have pos:0<dot f (cross (wy P a x) (wy P a b)):=by
   rcases zzb 0 (dot f (cross (wy P a x) (wy P a b))) with q|q
   ·exact q
   ·have:=Int.mul_nonneg_of_nonpos_of_nonpos q (zva n1);omega
  exact⟨zva pos,λh0=>by omega⟩
 ·have m:x∈bo P N n d:=az.2 ⟨S,by rw[bX] at k;omega⟩
  have e:=G x m;rw[aI,zLb] at e;have t0:T n (wy P a b) (wy P a x)=0:=by
   rcases zcb.1 e.symm with q|q
   ·exact q
   ·omega
  have s2:=(B.all x m).2 t0;have c0:=dW F.nz he k t0;have:dot f (cross (wy P a x) (wy P a b))=0:=by
   have e2:dot f (cross (wy P a x) (wy P a b))=- dot f (cross (wy P a b) (wy P a x)):=by simp only[dot,cross];grind
   rw[e2,c0];simp[dot,zero]
  rw[this];exact⟨zhc _,λ_=>⟨by omega,by omega⟩⟩
def HK(hl:∀ i j,i<j->j<N->aD (P i) (P j)){d f:V}{d1 d2:Int}(h1:IsF P N d d1)(H:IsF P N f d2){a b:Nat}(m:a∈bo P N d d1)(o:a∈bo P N f d2)
  (p:Side d P (bo P N d d1) a b) (C:Side f P (bo P N f d2) a b):d=f:=by
 have F1:=h1.flat hl;have F2:=H.flat hl;obtain⟨h,F,J⟩:=h1.left hl m p;obtain⟨g,r,E⟩:=H.left hl o C;have I:dot d (wy P a b)=0:=F1.pl a m b p.mem;have O:dot f (wy P a b)=0:=F2.pl a o b C.mem;have z1:dot d (wy P a h)=0:=F1.pl a m h F;have z2:dot f (wy P a g)=0:=F2.pl a o g r;have L:dot d (wy P a g)<=0:=by rw[bX];have:=h1.supp.1 g (az.1 r).1;have:=(az.1 m).2;omega
 have M:dot f (wy P a h)<=0:=by rw[bX];have:=H.supp.1 h (az.1 F).1;have:=(az.1 o).2;omega
 have t:=bf F1.nz;have w:=bf F2.nz;have l:∀ (n u v:V),dot n u=0->dot n v=0->smul (dot n n) (cross u v)=smul (dot n (cross u v)) n:=λn u v hu U=>by
  have c:=eH hu U;have c1:=congrArg V.x c;have c2:=congrArg V.y c;have S:=congrArg V.z c;generalize cross u v=k at *;simp only[cross,zero] at c1 c2 S;apply V.ext'<;>simp only[smul,dot]<;>grind
 have s:∀ (k:Int) (u v:V),dot (smul k u) v=k*dot u v:=λk u v=>by simp only[dot,smul];grind
 have Q:dot d d*dot (cross (wy P a b) (wy P a h)) (wy P a g)=T d (wy P a b) (wy P a h)*dot d (wy P a g):=by
  have:=congrArg (λv=>dot v (wy P a g)) (l d _ _ I z1);simp only[s] at this;exact this
 have W:dot f f*dot (cross (wy P a b) (wy P a g)) (wy P a h)=T f (wy P a b) (wy P a g)*dot f (wy P a h):=by
  have:=congrArg (λv=>dot v (wy P a h)) (l f _ _ O z2);simp only[s] at this;exact this
 have sw:dot (cross (wy P a b) (wy P a g)) (wy P a h)=- dot (cross (wy P a b) (wy P a h)) (wy P a g):=by simp only[dot,cross];grind
 have m1:T d (wy P a b) (wy P a h)*dot d (wy P a g)<=0:=Int.mul_nonpos_of_nonneg_of_nonpos (zva J) L;have m2:T f (wy P a b) (wy P a g)*dot f (wy P a h)<=0:=Int.mul_nonpos_of_nonneg_of_nonpos (zva E) M;have D0:dot (cross (wy P a b) (wy P a h)) (wy P a g)=0:=by
  rw[sw] at W;generalize dot (cross (wy P a b) (wy P a h)) (wy P a g)=D at *;rcases zCb D 0 with q|q|q
  ·have:=z0a (a:=dot f f) (b:=-D) w (by omega);omega
  ·exact q
  ·have:=z0a t q;omega
 have n12:dot d (wy P a g)=0:=by
  rw[D0,zLb] at Q;rcases zcb.1 Q.symm with q|q
  ·omega
  ·exact q
 have G:g∈bo P N d d1:=az.2 ⟨(az.1 r).1,by rw[bX] at n12;have:=(az.1 m).2;omega⟩
 have c2:=l f _ _ O z2;have c1:=l d _ _ I n12;have t12:=(p.all g G).1;have ne:T d (wy P a b) (wy P a g)≠0:=λe=>by
  have R:=dW F1.nz I n12 e;have:T f (wy P a b) (wy P a g)=0:=by simp only[T];rw[R];simp[dot,zero]
  omega
 refine mS h1.nz.2 H.nz.2 (a:=T d (wy P a b) (wy P a g)*dot f f) (b:=T f (wy P a b) (wy P a g)*dot d d) (z0a (by omega) w) (z0a E t) ?_
 simp only[T] at *;generalize cross (wy P a b) (wy P a g)=K at *;have X:=congrArg V.x c1;have Y:=congrArg V.y c1;have Z:=congrArg V.z c1;have r1:=congrArg V.x c2;have r2:=congrArg V.y c2;have r3:=congrArg V.z c2;generalize dot d d=A at *;generalize dot f f=B at *;generalize dot d K=A' at *;generalize dot f K=B' at *;simp only[smul] at X Y Z r1 r2 r3;apply V.ext'<;>simp only[smul]<;>grind
end
open V
section
variable{n:V}{P:Nat->V}{on:List Nat}
def Side.start(h:Flat n P on){a b:Nat}(d:a∈on)(f:Side n P on a b):ml P on a:=by
 obtain⟨K,s,t⟩:=gP (λx=>dot (wy P a b) (wy P a x)) on;refine⟨add (smul K (cross n (wy P a b))) (wy P a b),λx hx i=>?_⟩;have e:dot (add (smul K (cross n (wy P a b))) (wy P a b)) (wy P a x)=K*T n (wy P a b) (wy P a x)+dot (wy P a b) (wy P a x):=by simp only[T,dot,add,smul,cross];grind
 rw[e];obtain⟨h1,r⟩:=f.all x hx;have c:=t x hx;rcases z6a h1 with k|k
 ·have:K*1<=K*T n (wy P a b) (wy P a x):=zab (by omega) (zva s)
  omega
 ·rw[<-k,zLb,zzc];obtain⟨u,v⟩:=r k.symm;have o:dot (wy P a b) (wy P a x)=dot (wy P a x) (wy P a b):=by simp only[dot];grind
  rw[o];rcases z6a u with p|p
  ·exact p
  ·exfalso;have q:=dW h.nz (h.pl a d b f.mem) (h.pl a d x hx) k.symm;have g:=wD q (wy P a b);rw[o,<-p] at g;have hp:=bf (qF h d f.mem f.ne);apply qF h d hx i;have j:=congrArg V.x g;have l:=congrArg V.y g;have m:=congrArg V.z g;simp only[smul,z2b] at j l m;exact V.ext' (aA hp j) (aA hp l) (aA hp m)
end
theorem nN{α:Type}{r:α->α->Prop}(c:∀ a,¬ r a a)(d:∀ a b,r a b->¬ r b a):∀ {l l':List α},l.Pairwise r->l'.Pairwise r->(∀ x,x∈l↔x∈l')->l=l'
 | [],[],_,_,_=>rfl
 | [],b::l',_,_,h=>absurd ((h b).2 zoa) (by simp)
 | a::l,[],_,_,h=>absurd ((h a).1 zoa) (by simp)
 | a::l,b::l',h1,i,h=>by
  obtain⟨f,j⟩:=zFa.1 h1;obtain⟨g,k⟩:=zFa.1 i;have e:a=b:=by
   rcases zwa.1 ((h a).1 zoa) with e|m
   ·exact e
   ·rcases zwa.1 ((h b).2 zoa) with e|n
    ·exact e.symm
    ·exact absurd (f b n) (d _ _ (g a m))
  subst e;rw[nN c d j k λx=>?_];constructor
  ·intro hx;rcases zwa.1 ((h x).1 (zia _ hx)) with e|m
   ·subst e;exact absurd (f x hx) (c x)
   ·exact m
  ·intro hx;rcases zwa.1 ((h x).2 (zia _ hx)) with e|m
   ·subst e;exact absurd (g x hx) (c x)
   ·exact m
def kE(a:V):¬ aD a a:=by simp only[aD];omega
def xA(a b:V):aD a b->¬ aD b a:=by simp only[aD];omega
def mH{a b c:V}:aD a b->aD b c->aD a c:=by simp only[aD];omega
def rN{a b:V}(h:a≠b):aD a b\/aD b a:=by
 simp only[aD];rcases zCb a.x b.x with h1|h1|h1<;>rcases zCb a.y b.y with c|c|c<;>rcases zCb a.z b.z with d|d|d<;>first|omega|exact absurd (V.ext' h1 c d) h
structure Facets(P:Nat->V)(N:Nat)(L:List (V×Int)):Prop where
 ord:L.Pairwise (λa b=>aD a.1 b.1)
 mem:∀ q,q∈L↔IsF P N q.1 q.2
def Facets.eq{P:Nat->V}{N:Nat}{L L':List (V×Int)}(h:Facets P N L)(c:Facets P N L'):L=L':=
 nN (r:=λa b=>aD a.1 b.1) (λa=>kE a.1) (λa b=>xA a.1 b.1) h.ord c.ord λx=>(h.mem x).trans (c.mem x).symm
section
variable{P:Nat->V}{N:Nat}{n:V}{d:Int}
def IsF.d_eq{d':Int}(h:IsF P N n d)(a:IsF P N n d'):d=d':=by
 obtain⟨i,_,_,f,g,hk,_,_,e⟩:=h.ex;obtain⟨k,_,_,b,c,j,_,_,l⟩:=a.ex;have h1:=h.supp.1 k (by omega)
 have m:=a.supp.1 i (by omega)
 omega
def bH(P:Nat->V)(N:Nat)(n:V)(d:Int)(l:List Nat):Prop:=∃ a,(bo P N n d).head?=some a/\Chain (Side n P (bo P N n d)) a a l
def IB:(bo P N n d).Pairwise (·<·):=List.Pairwise.sublist List.filter_sublist List.pairwise_lt_range
theorem IsF.head(hl:∀ i j,i<j->j<N->aD (P i) (P j))(h:IsF P N n d):∃ a,(bo P N n d).head?=some a/\a∈bo P N n d/\ml P (bo P N n d) a/\(∀ x∈bo P N n d,a<=x)/\∀ c∈bo P N n d,∃ x∈bo P N n d,x≠c:=by
 obtain⟨i,j,k,o,p,hk,b,g,mk,r⟩:=h.three;cases hon:bo P N n d with
 | nil=>rw[hon] at b;simp at b
 | cons a l=>
  have f:(a::l).Pairwise (·<·):=by rw[<-hon];exact IB
  rw[zFa] at f;have hle:∀ x∈a::l,a<=x:=λx hx=>by
   rcases zwa.1 hx with e|m
   ·omega
   ·exact ztc (f.1 x m)
  refine⟨a,rfl,zoa,Fp λx hx q=>?_,hle,λc hc=>?_⟩
  ·have:=hle x hx;rw[<-hon] at hx;exact hl a x (by omega) (az.1 hx).1
  ·rw[hon] at b g;by_cases e:i=c
   ·exact⟨j,g,by omega⟩
   ·exact⟨i,b,e⟩
def IsF.poly(hl:∀ i j,i<j->j<N->aD (P i) (P j))(h:IsF P N n d) :
  ∃ l,bH P N n d l/\l.Nodup/\∀ z,z∈l↔z∈bo P N n d/\ml P (bo P N n d) z:=by
 obtain⟨a,h1,b,c,q,e⟩:=h.head hl;obtain⟨l,f,g,k,m⟩:=C3 (h.flat hl) b c e;exact⟨l,⟨a,h1,f⟩,g,λz=>⟨k z,λ⟨o,p⟩=>m z o p⟩⟩
def bH.eq(hl:∀ i j,i<j->j<N->aD (P i) (P j))(h:IsF P N n d){l l':List Nat}(k:bH P N n d l)(o:bH P N n d l'):l=l':=by
 obtain⟨a,h1,q⟩:=k;obtain⟨a',g,m⟩:=o;rw[h1] at g;cases g;obtain⟨b,g1,g2,g3,g4,g5⟩:=h.head hl;rw[h1] at g1;cases g1;have F:=h.flat hl;have key:∀ {c:Nat} {l l':List Nat},c∈bo P N n d->Chain (Side n P (bo P N n d)) a c l->Chain (Side n P (bo P N n d)) a c l'->l=l':=by
  intro c l l' hc r
  induction r generalizing l' with
  | done s=>intro p;cases p with
   | done _=>rfl
   | step s' f _=>exact absurd (Side.unique F hc s' s) f
  | step s f k ih=>intro p;cases p with
   | done s'=>exact absurd (Side.unique F hc s s') f
   | step s' _ o=>
    have e:=Side.unique F hc s s';subst e;rw[ih s.mem o]
 exact key g2 q m
def lu(l:List Nat):List (Nat×Nat):=(List.range l.length).filterMap λk=>if l.getD k 0<l.getD ((k+1)%l.length) 0 then some (l.getD k 0,l.getD ((k+1)%l.length) 0) else none
def bH.next{l:List Nat}(k:bH P N n d l){i:Nat}(j:i<l.length):Side n P (bo P N n d) (l.getD i 0) (l.getD ((i+1)%l.length) 0):=by
 obtain⟨a,h1,g⟩:=k;obtain⟨l',e⟩:=g.head;obtain⟨y,b,h⟩:=g.pairs i (l.getD i 0) (by simp[List.getD,zca j])
 rcases zla (i+1) l.length with c|c
 ·rw[zkb c] at b;rw[zMa c];simp only[List.getD,b,zOb];exact h
 ·have f:i+1=l.length:=by omega
  rw[zEb (by omega),f,zid] at b
  simp at b;subst b;rw[f,Nat.mod_self];have:l.getD 0 0=a:=by rw[e];rfl
  rw[this];exact h
def mL{l:List Nat}{a b:Nat}:(a,b)∈lu l↔a<b/\∃ i,i<l.length/\l.getD i 0=a/\l.getD ((i+1)%l.length) 0=b:=by
 simp only[lu,zFc,zLa];constructor
 ·rintro⟨i,d,h⟩;split at h
  ·rename_i c;simp only[zda,Prod.mk.injEq] at h;exact⟨by omega,i,d,h.1,h.2⟩
  ·cases h
 ·rintro⟨c,i,d,h1,e⟩;exact⟨i,d,by rw[h1,e,if_pos c]⟩
def yC(P:Nat->V)(N:Nat)(n:V)(d:Int)(a b:Nat):Prop:=a∈bo P N n d/\Side n P (bo P N n d) a b
def bH.dir(hl:∀ i j,i<j->j<N->aD (P i) (P j))(h:IsF P N n d){l:List Nat}(k:bH P N n d l){a b:Nat} :
  (∃ i,i<l.length/\l.getD i 0=a/\l.getD ((i+1)%l.length) 0=b)↔yC P N n d a b:=by
 obtain⟨q,p,r,m⟩:=h.poly hl;have:=bH.eq hl h k p;subst this;constructor
 ·rintro⟨i,c,h1,o⟩;have s:=k.next c
  rw[h1,o] at s;refine⟨((m a).1 ?_).1,s⟩;rw[<-h1];simp[List.getD,zca c]
 ·rintro⟨f,s⟩;have hm:=(m a).2 ⟨f,s.start (h.flat hl) f⟩;obtain⟨i,c,e⟩:=zQa hm;have g:l.getD i 0=a:=by simp[List.getD,zca c,e]
  have s2:=k.next c
  rw[g] at s2;exact⟨i,c,g,Side.unique (h.flat hl) f s2 s⟩
def wo{l:List Nat}(h:l.Nodup):(lu l).Nodup:=by
 unfold lu;refine List.Pairwise.filterMap _ (R:=λi j:Nat=>i≠j/\i<l.length/\j<l.length) (S:=λx y=>x≠y) ?_ ?_
 ·intro i j ⟨f,a,b⟩ x hx y k e;subst e;simp only[Option.ite_none_right_eq_some,zda] at hx k;have d:l.getD i 0=l.getD j 0:=by have:=congrArg Prod.fst (hx.2.trans k.2.symm);exact this
  simp only[List.getD,zca a,zca b,zOb] at d;rcases Nat.lt_or_gt_of_ne f with c|c
  ·exact zJb.1 h i j a b c d
  ·exact zJb.1 h j i b a c d.symm
 ·have:=List.nodup_range (n:=l.length);refine z1c ?_ this;intro i j a b g;exact⟨g,zLa.1 a,zLa.1 b⟩
end
def Bu(a b:Nat×Nat):Prop:=a.1<b.1\/a.1=b.1/\a.2<b.2
def de(L:List (V×Int))(poly:V×Int->List Nat):List (Nat×Nat):=L.flatMap λq=>lu (poly q)
section
variable{P:Nat->V}{N:Nat}
def B4(hl:∀ i j,i<j->j<N->aD (P i) (P j)){L:List (V×Int)}(hL:Facets P N L){poly:V×Int->List Nat}(hp:∀ q∈L,bH P N q.1 q.2 (poly q)){a b:Nat} :
  (a,b)∈de L poly↔a<b/\∃ n d,IsF P N n d/\yC P N n d a b:=by
 simp only[de,zib,mL];constructor
 ·rintro⟨q,hq,c,g⟩;exact⟨c,q.1,q.2,(hL.mem q).1 hq,(bH.dir hl ((hL.mem q).1 hq) (hp q hq)).1 g⟩
 ·rintro⟨c,n,d,e,f⟩;have hq:=(hL.mem (n,d)).2 e;exact⟨(n,d),hq,c,(bH.dir hl e (hp _ hq)).2 f⟩
def wL(hl:∀ i j,i<j->j<N->aD (P i) (P j)){L:List (V×Int)}(hL:Facets P N L){poly:V×Int->List Nat}(hp:∀ q∈L,bH P N q.1 q.2 (poly q)):(de L poly).Nodup:=by
 unfold de List.Nodup;rw[List.pairwise_flatMap];refine⟨λq hq=>?_,?_⟩
 ·obtain⟨l,m,n,_⟩:=((hL.mem q).1 hq).poly hl;have:=bH.eq hl ((hL.mem q).1 hq) (hp q hq) m;rw[this];exact wo n
 ·refine z1c ?_ hL.ord;intro q h hq d c x hx y k e;subst e;obtain⟨a,b⟩:=x;have F:=(hL.mem q).1 hq;have F':=(hL.mem h).1 d;obtain⟨d1,d2⟩:=(bH.dir hl F (hp q hq)).1 (mL.1 hx).2;obtain⟨f,g⟩:=(bH.dir hl F' (hp h d)).1 (mL.1 k).2;have:=HK hl F F' d1 f d2 g;rw[this] at c;exact kE _ c
def uD(hl:∀ i j,i<j->j<N->aD (P i) (P j)){a b:Nat}:(∃ n d,IsF P N n d/\(yC P N n d a b\/yC P N n d b a))↔∃ n d,IsF P N n d/\yC P N n d a b:=by
 constructor
 ·rintro⟨n,d,c,h|h⟩
  ·exact⟨n,d,c,h⟩
  ·obtain⟨g,d',h1,k,e,f⟩:=Cu hl c h.1 h.2;exact⟨g,d',h1,e,f⟩
 ·rintro⟨n,d,c,h⟩;exact⟨n,d,c,.inl h⟩
end
end Geo
end
noncomputable section
namespace Sy
open Go Go.Proofs Geo
abbrev I(n:Int):D:=.int .i64 n
def ac(v:V):D:=.st [I v.x,I v.y,I v.z]
def inR(n:Int):Prop:=-9223372036854775808<=n/\n<=9223372036854775807
def iZ{n:Int}(h:inR n):IntKind.wrap .i64 n=n:=by
 obtain⟨h1,a⟩:=h;simp only[IntKind.wrap,IntKind.signed,IntKind.bits];first
  | omega
  | (simp;omega)
def aw{a b:Int}(h:inR (a+b)):D.bin .add (I a) (I b)=some (I (a+b)):=by simp only[D.bin,if_true,iZ h]
def dj{a b:Int}(h:inR (a-b)):D.bin .sub (I a) (I b)=some (I (a-b)):=by simp only[D.bin,if_true,iZ h]
def cz{a b:Int}(h:inR (a*b)):D.bin .mul (I a) (I b)=some (I (a*b)):=by simp only[D.bin,if_true,iZ h]
def af{a b:Int}:D.bin .lss (I a) (I b)=some (.bool (decide (a<b))):=by simp only[D.bin,if_true]
def lV{a b:Int}:D.bin .leq (I a) (I b)=some (.bool (decide (a<=b))):=by simp only[D.bin,if_true]
def cM{a b:Int}:D.bin .gtr (I a) (I b)=some (.bool (decide (a>b))):=by simp only[D.bin,if_true]
def fB{a b:Int}:D.bin .geq (I a) (I b)=some (.bool (decide (a ≥ b))):=by simp only[D.bin,if_true]
def mr{a b:Int}(h:b≠0):D.bin .rem (I a) (I b)=some (I (a.tmod b)):=by simp only[D.bin,if_true,h,if_false]
def sH{a b:Int}(h:b≠0)(c:inR (a.tdiv b)):D.bin .quo (I a) (I b)=some (I (a.tdiv b)):=by simp only[D.bin,if_true,h,if_false,iZ c]
def oE{a:Int}(h:inR (-a)):D.un .neg (I a)=some (I (-a)):=by simp only[D.un,Int.zero_sub,iZ h]
def bn{b:Bool}:D.un .not (.bool b)=some (.bool (!b)):=rfl
def ab{b:Bool}:D.truth (.bool b)=some b:=rfl
def Em{a b:Int}:D.max2 (I a) (I b)=some (I (max a b)):=by
 simp only[D.max2];congr 2;split<;>omega
def NQ{a b:Int}:D.min2 (I a) (I b)=some (I (min a b)):=by
 simp only[D.min2];congr 2;split<;>omega
def bR{a b:Int}:D.beq (I a) (I b)=decide (a=b):=by simp[D.beq]
def oS(v:V):D.get (ac v) [0]=some (I v.x):=rfl
def oT(v:V):D.get (ac v) [1]=some (I v.y):=rfl
def oU(v:V):D.get (ac v) [2]=some (I v.z):=rfl
def uE(x y z:Int):D.st [D.int .i64 x,D.int .i64 y,D.int .i64 z]=ac ⟨x,y,z⟩:=rfl
def bd(k:Int)(v:V):Prop:=(-k<=v.x/\v.x<=k)/\(-k<=v.y/\v.y<=k)/\(-k<=v.z/\v.z<=k)
def iE{a b A B:Int}(f:-A<=a/\a<=A)(g:-B<=b/\b<=B):-(A*B)<=a*b/\a*b<=A*B:=by
 have c:0<=A:=by omega
 have d:0<=B:=by omega
 have h1:(a*b).natAbs<=(A*B).natAbs:=by
  rw[zHa,zHa];exact zUa (by omega) (by omega)
 have e:0<=A*B:=zlb c d;omega
def j7{A B:Int}{u v:V}(hu:bd A u)(a:bd B v):bd (A+B) (u.sub v):=by
 simp only[bd,V.sub] at *;omega
def q8{A:Int}{u:V}(hu:bd A u):bd A u.neg:=by
 simp only[bd,V.neg] at *;omega
def jg{A B:Int}{u v:V}(hu:bd A u)(a:bd B v):bd (2*(A*B)) (V.cross u v):=by
 have:=iE hu.1 a.1;have:=iE hu.1 a.2.1;have:=iE hu.1 a.2.2;have:=iE hu.2.1 a.1;have:=iE hu.2.1 a.2.1;have:=iE hu.2.1 a.2.2;have:=iE hu.2.2 a.1;have:=iE hu.2.2 a.2.1;have:=iE hu.2.2 a.2.2;simp only[bd,V.cross];omega
def Hd{A B:Int}{u v:V}(hu:bd A u)(a:bd B v):-(3*(A*B))<=V.dot u v/\V.dot u v<=3*(A*B):=by
 have:=iE hu.1 a.1;have:=iE hu.2.1 a.2.1;have:=iE hu.2.2 a.2.2;simp only[V.dot];omega
def AL{A B:Int}{u v:V}(hu:bd A u)(a:bd B v)(h:3*(A*B)<=9223372036854775807) :
  inR (u.x*v.x)/\inR (u.y*v.y)/\inR (u.z*v.z)/\inR (u.x*v.x+u.y*v.y)/\inR (u.x*v.x+u.y*v.y+u.z*v.z):=by
 have:=iE hu.1 a.1;have:=iE hu.2.1 a.2.1;have:=iE hu.2.2 a.2.2;simp only[inR];omega
def f101{call:Nat->List D->Option D}{A B:Int}{u v:V}(hu:bd A u)(e:bd B v)(h:3*(A*B)<=9223372036854775807):GN aS call (ac u) (ac v)=some (I (V.dot u v)):=by
 obtain⟨h1,a,b,c,d⟩:=AL hu e h;simp only[GN,qG,qB,oS,oT,oU,zba,cz h1,cz a,cz b,aw c,aw d];rfl
def Hh(n:Nat){A B:Int}{u v:V}(hu:bd A u)(a:bd B v)(h:3*(A*B)<=9223372036854775807):cA (n+1) 101 [ac u,ac v]=some (I (V.dot u v)):=by rw[XA];exact f101 hu a h
def E9(n:Nat){A B:Int}{u v:V}(hu:bd A u)(e:bd B v)(h:3*(A*B)<=9223372036854775807):cA (n+1) 107 [ac u,ac v]=some (I (V.dot u v)):=by
 obtain⟨h1,a,b,c,d⟩:=AL hu e h;rw[XF];simp only[JP,qG,qB,oS,oT,oU,zba,cz h1,cz a,cz b,aw c,aw d];rfl
def ur{A B:Int}{u v:V}(hu:bd A u)(a:bd B v)(h:2*(A*B)<=9223372036854775807) :
  inR (u.y*v.z)/\inR (u.z*v.y)/\inR (u.z*v.x)/\inR (u.x*v.z)/\inR (u.x*v.y)/\inR (u.y*v.x)/\inR (u.y*v.z-u.z*v.y)/\inR (u.z*v.x-u.x*v.z)/\inR (u.x*v.y-u.y*v.x):=by
 have:=iE hu.1 a.1;have:=iE hu.1 a.2.1;have:=iE hu.1 a.2.2;have:=iE hu.2.1 a.1;have:=iE hu.2.1 a.2.1;have:=iE hu.2.1 a.2.2;have:=iE hu.2.2 a.1;have:=iE hu.2.2 a.2.1;have:=iE hu.2.2 a.2.2;simp only[inR];omega
def Qf(n:Nat){A B:Int}{u v:V}(hu:bd A u)(j:bd B v)(h:2*(A*B)<=9223372036854775807):cA (n+1) 117 [ac u,ac v]=some (ac (V.cross u v)):=by
 obtain⟨h1,a,b,c,d,e,f,g,i⟩:=ur hu j h;rw[XN];simp only[JX,qG,qB,oS,oT,oU,zba,cz h1,cz a,cz b,cz c,cz d,cz e,dj f,dj g,dj i];rfl
def Qh(n:Nat){A B:Int}{u v:V}(hu:bd A u)(j:bd B v)(h:2*(A*B)<=9223372036854775807):cA (n+1) 123 [ac u,ac v]=some (ac (V.cross u v)):=by
 obtain⟨h1,a,b,c,d,e,f,g,i⟩:=ur hu j h;rw[XU];simp only[J3,qG,qB,oS,oT,oU,zba,cz h1,cz a,cz b,cz c,cz d,cz e,dj f,dj g,dj i];rfl
def PM(n:Nat){A:Int}{u:V}(hu:bd A u)(h:A<=9223372036854775807):cA (n+1) 97 [ac u]=some (ac u.neg):=by
 have h1:inR (-u.x):=by simp only[bd,inR] at *;omega
 have a:inR (-u.y):=by simp only[bd,inR] at *;omega
 have b:inR (-u.z):=by simp only[bd,inR] at *;omega
 rw[u97];simp only[SC,qG,oS,oT,oU,zba,oE h1,oE a,oE b];rfl
end Sy
end
noncomputable section
namespace Sy
open Go Go.Proofs Geo
abbrev Bd:=List D->Option (Sum (List D) (Nat×List D))
def cP{body:Bd}{s s':List D}{k:Nat×List D->Option D}{y:D}(h:body s=some (.inl s'))(hk:Option.bind (aS body s') k=some y):Option.bind (aS body s) k=some y:=by
 have:aS body s=aS body s':=c8 h;rw[this];exact hk
def gt{body:Bd}{s:List D}{r:Nat×List D}{k:Nat×List D->Option D}{y:D}(h:body s=some (.inr r))(hk:k r=some y):Option.bind (aS body s) k=some y:=by
 have:aS body s=some r:=cU h;rw[this];exact hk
def oW{body:Bd}{s:List D}{r:Nat×List D}{k:Nat×List D->Option D}{y:D}(h:aS body s=some r)(hk:k r=some y):Option.bind (aS body s) k=some y:=by
 rw[h];exact hk
def bF{body:Bd}{s0:List D}{k:Nat×List D->Option D}{y:D}(J:Nat->List D->Prop)(n i0:Nat)(c:i0<=n)(h0:J i0 s0)
  (b:∀ i,i<n->∀ s,J i s->(∃ s',body s=some (.inl s')/\J (i+1) s')\/∃ r,body s=some (.inr r)/\k r=some y) (he:∀ s,J n s->∃ r,body s=some (.inr r)/\k r=some y):Option.bind (aS body s0) k=some y:=by
 obtain⟨m,hm⟩:∃ m,m=n-i0:=⟨_,rfl⟩
 induction m generalizing i0 s0 with
 | zero=>
  have:i0=n:=by omega
  subst this;obtain⟨r,h1,a⟩:=he s0 h0;exact gt h1 a
 | succ m ih=>
  rcases b i0 (by omega) s0 h0 with⟨s',h1,a⟩|⟨r,h1,a⟩
  ·exact cP h1 (ih (i0:=i0+1) (by omega) a (by omega))
  ·exact gt h1 a
def Ei{body:Bd}{s0:List D}(J:Nat->List D->Prop)(Q:Nat×List D->Prop)(n i0:Nat)(e:i0<=n)(h0:J i0 s0)
  (b:∀ i,i<n->∀ s,J i s->(∃ s',body s=some (.inl s')/\J (i+1) s')\/∃ r,body s=some (.inr r)/\Q r) (he:∀ s,J n s->∃ r,body s=some (.inr r)/\Q r):∃ r,aS body s0=some r/\Q r:=by
 obtain⟨m,hm⟩:∃ m,m=n-i0:=⟨_,rfl⟩
 induction m generalizing i0 s0 with
 | zero=>
  have:i0=n:=by omega
  subst this;obtain⟨r,h1,a⟩:=he s0 h0;exact⟨r,cU h1,a⟩
 | succ m ih=>
  rcases b i0 (by omega) s0 h0 with⟨s',h1,a⟩|⟨r,h1,a⟩
  ·obtain⟨r,c,d⟩:=ih (i0:=i0+1) (by omega) a (by omega)
   exact⟨r,by rw[show aS body s0=aS body s' from c8 h1];exact c,d⟩
  ·exact⟨r,cU h1,a⟩
def ap{i n:Nat}(h:i<n):D.idx (I (i:Int)) n=some i:=by
 simp only[D.idx];rw[if_pos (by omega)];simp
def ay{i:Nat}(h:i<=9223372036854775806):inR ((i:Int)+1):=by simp only[inR];omega
def g0{x:D}{l:List D}{d:D}:List.getD (x::l) 0 d=x:=rfl
def g1{x y:D}{l:List D}{d:D}:List.getD (x::y::l) 1 d=y:=rfl
def g2{x y z:D}{l:List D}{d:D}:List.getD (x::y::z::l) 2 d=z:=rfl
def g3{x y z w:D}{l:List D}{d:D}:List.getD (x::y::z::w::l) 3 d=w:=rfl
def Xw(v:V)(a:Int):D.set (ac v) [0] (I a)=some (ac ⟨a,v.y,v.z⟩):=rfl
def Xx(v:V)(a:Int):D.set (ac v) [1] (I a)=some (ac ⟨v.x,a,v.z⟩):=rfl
def Xy(v:V)(a:Int):D.set (ac v) [2] (I a)=some (ac ⟨v.x,v.y,a⟩):=rfl
def H9:D.idx (I 0) 3=some 0:=rfl
def Ia:D.idx (I 1) 3=some 1:=rfl
def Ib:D.idx (I 2) 3=some 2:=rfl
def WK(n:Nat){A B:Int}{u v:V}(hu:bd A u)(c:bd B v)(h:A+B<=9223372036854775807):cA (n+1) 154 [ac u,ac v]=some (ac (u.add v)):=by
 have h1:inR (u.x+v.x):=by simp only[bd,inR] at *;omega
 have a:inR (u.y+v.y):=by simp only[bd,inR] at *;omega
 have b:inR (u.z+v.z):=by simp only[bd,inR] at *;omega
 rw[Yg]
 delta Kn qB qC qJ qZ iL iR Jn
 refine cP (s':=[I 1,ac ⟨u.x+v.x,u.y,u.z⟩]) ?_ (cP (s':=[I 2,ac ⟨u.x+v.x,u.y+v.y,u.z⟩]) ?_ (cP (s':=[I 3,ac ⟨u.x+v.x,u.y+v.y,u.z+v.z⟩]) ?_ (gt (r:=(0,[ac (u.add v)])) ?_ rfl)))
 ·simp only[g0,g1,af,zba,ab,H9,oS,Xw,aw h1,aw (show inR (0+1) from⟨by decide,by decide⟩)];rfl
 ·simp only[g0,g1,af,zba,ab,Ia,oT,Xx,aw a,aw (show inR (1+1) from⟨by decide,by decide⟩)];rfl
 ·simp only[g0,g1,af,zba,ab,Ib,oU,Xy,aw b,aw (show inR (2+1) from⟨by decide,by decide⟩)];rfl
 ·simp only[g0,g1,af,zba,ab];rfl
def LC(u v:V):u.add v.neg=u.sub v:=by apply V.ext'<;>simp only[V.add,V.neg,V.sub]<;>omega
def Hi(n:Nat){A B:Int}{u v:V}(hu:bd A u)(a:bd B v)(h:A+B<=9223372036854775807):cA (n+2) 103 [ac u,ac v]=some (ac (u.sub v)):=by
 have b:0<=A:=by simp only[bd] at hu;omega
 rw[XB];simp only[JL,PM n a (by omega),zba,WK n hu (q8 a) h,LC]
def Fa(n:Nat){A B:Int}{u v:V}(hu:bd A u)(c:bd B v)(h:A+B<=9223372036854775807):cA (n+1) 112 [ac u,ac v]=some (ac (u.sub v)):=by
 have h1:inR (u.x-v.x):=by simp only[bd,inR] at *;omega
 have a:inR (u.y-v.y):=by simp only[bd,inR] at *;omega
 have b:inR (u.z-v.z):=by simp only[bd,inR] at *;omega
 rw[XK];simp only[JU,qG,qB,oS,oT,oU,zba,dj h1,dj a,dj b];rfl
def bq(a b:Int):Int:=if a<b then -1 else if a>b then 1 else 0
def WA(n:Nat)(a:Int):cA (n+1) 115 [I a]=some (.bool false):=by
 rw[XL];simp only[JV,bR];simp
def QH(n:Nat)(a b:Int):cA (n+2) 53 [I a,I b]=some (I (bq a b)):=by
 rw[u53];simp only[Sa,qC,qT,Jn,WA,zba,ab,zxa,if_false,af,cM,bq,decide_eq_true_eq];split
 ·rfl
 ·split<;>rfl
def qK:List Int->Int
 | []=>0
 | x::l=>if x=0 then qK l else x
def Zo(n:Nat)(l:List Int)(hl:l.length<=1000):cA (n+1) 52 [.sl (l.map λx=>I x)]=some (I (qK l)):=by
 rw[u52]
 delta R9 qB qC qT qS qX qZ iL iR Jn
 simp only[D.asSl,zba];refine bF (λi s=>s=[I i]/\qK l=qK (l.drop i)) l.length 0 (zja _) ⟨rfl,rfl⟩ (λi c s b=>?_) (λs b=>?_)
 ·obtain⟨rfl,a⟩:=b;have hx:(l.map λx=>I x)[i]?=some (I l[i]):=by simp[c]
  simp only[g0,zsa,af,zba,ab,decide_eq_true_eq,show((i:Int)<(l.length:Int)) from by omega,if_true,ap c,hx,bR]
  have d:l.drop i=l[i]::l.drop (i+1):=zAb c;rw[d] at a;by_cases h0:l[i]=0
  ·left;refine⟨[I ((i+1:Nat):Int)],?_,rfl,?_⟩
   ·simp only[h0,decide_true,zkc,zxa,if_false,aw (ay (i:=i) (by omega)),zba];rfl
   ·rw[a];simp[qK,h0]
  ·right;refine⟨(0,[I l[i]]),?_,?_⟩
   ·simp[h0]
   ·rw[a];simp[qK,h0]
 ·obtain⟨rfl,a⟩:=b;refine⟨(1,[]),?_,?_⟩
  ·simp only[g0,zsa,af,zba,ab,decide_eq_true_eq,zNc,if_false]
  ·rw[a];simp[qK]
end Sy
end
noncomputable section
namespace Sy
open Go Go.Proofs Geo
def AP{body:Bd}(h0:∀ a b:Int,b≠0->body [I a,I b]=some (.inl [I b,I (a.tmod b)]))(h1:∀ a:Int,body [I a,I 0]=some (.inr (0,[I a]))) :
  ∀ (m:Nat) (a b:Int),b.natAbs=m->∃ r:Int,aS body [I a,I b]=some (0,[I r])/\r.natAbs=Nat.gcd a.natAbs b.natAbs:=by
 intro m
 induction m using Nat.strongRecOn with
 | _ m ih=>
  intro a b e;by_cases d:b=0
  ·subst d;exact⟨a,cU (h1 a),by simp⟩
  ·have c:(a.tmod b).natAbs<m:=by
    rw[Int.natAbs_tmod,<-e];exact zVa _ (by omega)
   obtain⟨r,f,g⟩:=ih _ c b (a.tmod b) rfl;refine⟨r,?_,?_⟩
   ·rw[show aS body [I a,I b]=aS body [I b,I (a.tmod b)] from c8 (h0 a b d)];exact f
   ·rw[g,Int.natAbs_tmod,zHc a.natAbs,Nat.gcd_rec b.natAbs a.natAbs,zHc]
def rE{a b:Int}{k:Nat}(c:a.natAbs<=k)(d:b.natAbs<=k):Nat.gcd a.natAbs b.natAbs<=k:=by
 rcases zDb a.natAbs with h|h
 ·rw[h,Nat.gcd_zero_left];exact d
 ·exact zEa (Nat.le_of_dvd h (zob _ _)) c
def Oo(n:Nat){a b:Int}(f:a.natAbs<=9223372036854775807)(c:b.natAbs<=9223372036854775807):cA (n+1) 152 [I a,I b]=some (I (Nat.gcd a.natAbs b.natAbs:Nat)):=by
 rw[Ry]
 delta GR qB qT qZ iL iR Jn
 obtain⟨r,h1,e⟩:=AP (body:=λ(v1:List D)=>
  Option.bind (D.truth (D.bool (!(D.beq (gx v1 1) (D.int .i64 0))))) λd=>
  if d then(Option.bind (D.bin .rem (gx v1 0) (gx v1 1)) λg=>
  some (Sum.inl [(gx v1 1),g])) else(some (Sum.inr (0,[(gx v1 0)]))))
  (λa b c=>by simp only[g0,g1,bR,ab,zba,c,decide_false,zPb,if_true,mr c])
  (λa=>by simp only[g0,g1,bR,ab,zba,decide_true,zkc,zxa,if_false]) _ a b rfl
 refine oW h1 ?_;have h:r.natAbs<=9223372036854775807:=by rw[e];exact rE f c
 have hn:inR (-r):=by simp only[inR];omega
 simp only[zba,g0,oE hn,Em];congr 2;omega
def gX{a:Int}{g:Nat}(b:0<g)(h:(g:Int) ∣ a):a.tdiv g=a/g:=by
 obtain⟨c,rfl⟩:=h;rw[zud _ (by omega),zhb _ (by omega)]
def xa(v:V):(a7 v:Int) ∣ v.x:=zZa.2 (zcd (zob _ _) (zob _ _))
def xb(v:V):(a7 v:Int) ∣ v.y:=zZa.2 (zcd (zob _ _) (zIb _ _))
def xc(v:V):(a7 v:Int) ∣ v.z:=zZa.2 (zIb _ _)
def ru{a:Int}{g:Nat}{k:Int}(h:-k<=a/\a<=k)(b:(g:Int) ∣ a):-k<=a/g/\a/g<=k:=by
 have h1:(a/(g:Int)).natAbs<=a.natAbs:=by
  rcases zDb g with e|e
  ·subst e;simp
  ·obtain⟨c,rfl⟩:=b;rw[zhb _ (by omega),zHa]
   exact zXb _ (by omega)
 omega
def fk{k:Int}{v:V}(h:bd k v):bd k (aG v):=⟨ru h.1 (xa v),ru h.2.1 (xb v),ru h.2.2 (xc v)⟩
def cD(q:V×Int):D:=.st [ac q.1,I q.2]
def MV:Int:=262144
def oo{P:Nat->V}{i j:Nat}(a:bd MV (P i))(b:bd MV (P j)):bd 524288 (wy P i j):=by
 have:=j7 b a;simpa [MV,wy] using this
def c96(n:Nat){a b c:V}(h:bd MV a)(l:bd MV b)(hc:bd MV c):cA (n+3) 96 [ac a,ac b,ac c]=some (cD (aG (V.cross (b.sub a) (c.sub a)),V.dot (aG (V.cross (b.sub a) (c.sub a))) a)):=by
 have h1:bd 524288 (b.sub a):=by have:=j7 l h;simpa [MV] using this
 have j:bd 524288 (c.sub a):=by have:=j7 hc h;simpa [MV] using this
 rw[u96]
 delta SB qG qB qC Jn
 simp only[Hi n l h (by decide),Hi n hc h (by decide),zba,Qf (n+1) h1 j (by decide)]
 have f:=jg h1 j;generalize V.cross (b.sub a) (c.sub a)=m at *;have o:m.x.natAbs<=549755813888:=by have:=f.1;omega
 have p:m.y.natAbs<=549755813888:=by have:=f.2.1;omega
 have u:m.z.natAbs<=549755813888:=by have:=f.2.2;omega
 have v:Nat.gcd m.x.natAbs m.y.natAbs<=549755813888:=rE o p;have q:Nat.gcd (Nat.gcd m.x.natAbs m.y.natAbs) m.z.natAbs=a7 m:=rfl;simp only[oS,oT,oU,zba,Oo (n+1) (a:=m.x) (b:=m.y) (by omega) (by omega),Oo (n+1) (a:=((Nat.gcd m.x.natAbs m.y.natAbs:Nat):Int)) (b:=m.z) (by rw[zra];omega) (by omega),zra,q,cM,ab,decide_eq_true_eq]
 have r:=fk f;have fin:∀ w:V,w=aG m->cA (n+2) 101 [ac w,ac a]=some (I (V.dot w a)):=λw hw=>Hh (n+1) (hw ▸ r) h (by decide)
 by_cases hg:(a7 m:Int)>1
 ·have g:(a7 m:Int)≠0:=by omega
  have d:0<a7 m:=by omega
  have r1:inR (m.x.tdiv (a7 m)):=by rw[gX d (xa m)];have:=ru f.1 (xa m);simp only[inR];omega
  have s:inR (m.y.tdiv (a7 m)):=by rw[gX d (xb m)];have:=ru f.2.1 (xb m);simp only[inR];omega
  have t:inR (m.z.tdiv (a7 m)):=by rw[gX d (xc m)];have:=ru f.2.2 (xc m);simp only[inR];omega
  have i:(D.st [I (m.x.tdiv (a7 m)),I (m.y.tdiv (a7 m)),I (m.z.tdiv (a7 m))])=ac (aG m):=by
   rw[gX d (xa m),gX d (xb m),gX d (xc m)];rfl
  simp only[if_pos hg,sH g r1,sH g s,sH g t,zba,g0,i,fin _ rfl];rfl
 ·have i:m=aG m:=by
   rcases zla 0 (a7 m) with k|k
   ·have e:a7 m=1:=by omega
    have:=fK m;rw[e] at this;rw[this]
    conv=>rhs;rw[<-this]
    apply V.ext'<;>simp[V.smul]
   ·have e:a7 m=0:=by omega
    have hm:m=V.zero:=by
     by_cases hm:m=V.zero
     ·exact hm
     ·have:=fa hm;omega
    rw[hm];rfl
  simp only[if_neg hg,zba,g0,fin m i];rw[<-i];rfl
end Sy
end
noncomputable section
namespace Sy
open Go Go.Proofs Geo
def Xr(a b:Int):D.sl [I a,I b]=D.sl ([a,b].map λx=>I x):=rfl
def Xs(a b c:Int):D.sl [I a,I b,I c]=D.sl ([a,b,c].map λx=>I x):=rfl
def c51(n:Nat)(a b c d:Int):cA (n+3) 51 [.st [I a,I b],.st [I c,I d]]=some (I (qK [bq a c,bq b d])):=by
 rw[u51]
 delta R8 qG
 simp only[show ∀ a b:Int,D.get (.st [I a,I b]) [0]=some (I a) from λ_ _=>rfl,show ∀ a b:Int,D.get (.st [I a,I b]) [1]=some (I b) from λ_ _=>rfl,zba,QH,Xr,Zo (n+1) [bq a c,bq b d] (by simp)]
def Wu(n:Nat)(p q:V×Int):cA (n+3) 100 [cD p,cD q]=some (I (qK [bq p.1.x q.1.x,bq p.1.y q.1.y,bq p.1.z q.1.z])):=by
 rw[Xz]
 delta JK qG
 simp only[show ∀ p:V×Int,D.get (cD p) [0]=some (ac p.1) from λ_=>rfl,show ∀ p:V×Int,D.get (cD p) [0,0]=some (I p.1.x) from λ_=>rfl,show ∀ p:V×Int,D.get (cD p) [0,1]=some (I p.1.y) from λ_=>rfl,show ∀ p:V×Int,D.get (cD p) [0,2]=some (I p.1.z) from λ_=>rfl,oS,oT,oU,zba,QH,Xs,Zo (n+1) [bq p.1.x q.1.x,bq p.1.y q.1.y,bq p.1.z q.1.z] (by simp)]
def yM(a:Int):bq a 0=sg a:=rfl
def Rk(a:Int):-1<=sg a/\sg a<=1:=by unfold sg;split<;>(try split)<;>omega
def rI(a b:Int):inR (sg a*sg b):=by
 have:=iE (A:=1) (B:=1) (Rk a) (Rk b);simp only[inR];omega
def QZ(v:V):D.fld (ac v) 0=some (I v.x):=rfl
def Q0(v:V):D.fld (ac v) 1=some (I v.y):=rfl
def Q3(v:V):D.fld (ac v) 2=some (I v.z):=rfl
def NJ:inR (0+1):=⟨by decide,by decide⟩
def tR:inR (1+1):=⟨by decide,by decide⟩
def NK:inR (2+1):=⟨by decide,by decide⟩
def Wv(n:Nat){A B:Int}{m u v:V}(hu:bd A u)(a:bd B v)(h:2*(A*B)<=9223372036854775807):cA (n+3) 104 [ac m,ac u,ac v]=some (I (xz m (V.cross u v))):=by
 rw[XC]
 delta JM qB qC qT qJ qZ iL iR Jn
 simp only[Qf (n+1) hu a h,zba];generalize V.cross u v=c;unfold xz;by_cases hx:m.x=0
 ·refine cP (s':=[I 1]) (by simp only[g0,af,zba,ab,H9,QZ,bR,hx,decide_true,zkc,zxa,if_false,aw NJ];rfl) ?_
  by_cases hy:m.y=0
  ·refine cP (s':=[I 2]) (by simp only[g0,af,zba,ab,Ia,Q0,bR,hy,decide_true,zkc,zxa,if_false,aw tR];rfl) ?_
   by_cases hz:m.z=0
   ·refine cP (s':=[I 3]) (by simp only[g0,af,zba,ab,Ib,Q3,bR,hz,decide_true,zkc,zxa,if_false,aw NK];rfl) ?_
    refine gt (r:=(1,[])) (by simp only[g0,af,zba,ab];rfl) ?_
    simp[hx,hy,hz]
   ·refine gt (r:=(0,[I (sg c.z*sg m.z)])) ?_ (by simp[hx,hy,hz,z5a])
    simp only[g0,af,zba,ab,Ib,Q3,oU,bR,hz,decide_false,zPb,if_true,QH,yM,cz (rI _ _)];rfl
  ·refine gt (r:=(0,[I (sg c.y*sg m.y)])) ?_ (by simp[hx,hy,z5a])
   simp only[g0,af,zba,ab,Ia,Q0,oT,bR,hy,decide_false,zPb,if_true,QH,yM,cz (rI _ _)];rfl
 ·refine gt (r:=(0,[I (sg c.x*sg m.x)])) ?_ (by simp[hx,z5a])
  simp only[g0,af,zba,ab,H9,QZ,oS,bR,hx,decide_false,zPb,if_true,QH,yM,cz (rI _ _)];rfl
def Ov(n:Nat)(a:Int):cA (n+1) 215 [I a]=some (I (sg a)):=by
 rw[Yz];simp only[KG,qC,Jn,af,cM,zba,ab,decide_eq_true_eq,sg];split
 ·rfl
 ·split
  ·rfl
  ·rfl
def WS(n:Nat)(m c:V):cA (n+2) 188 [ac m,ac c]=some (I (xz m c)):=by
 rw[Ys]
 delta KA qB qC qT qJ qZ iL iR Jn xz
 by_cases hx:m.x=0
 ·refine cP (s':=[I 1]) (by simp only[g0,af,zba,ab,H9,oS,bR,hx,decide_true,zkc,zxa,if_false,aw NJ];rfl) ?_
  by_cases hy:m.y=0
  ·refine cP (s':=[I 2]) (by simp only[g0,af,zba,ab,Ia,oT,bR,hy,decide_true,zkc,zxa,if_false,aw tR];rfl) ?_
   by_cases hz:m.z=0
   ·refine cP (s':=[I 3]) (by simp only[g0,af,zba,ab,Ib,oU,bR,hz,decide_true,zkc,zxa,if_false,aw NK];rfl) ?_
    refine gt (r:=(1,[])) (by simp only[g0,af,zba,ab];rfl) ?_
    simp[hx,hy,hz]
   ·refine gt (r:=(0,[I (sg m.z*sg c.z)])) ?_ (by simp[hx,hy,hz])
    simp only[g0,af,zba,ab,Ib,oU,bR,hz,decide_false,zPb,if_true,Ov,cz (rI _ _)];rfl
  ·refine gt (r:=(0,[I (sg m.y*sg c.y)])) ?_ (by simp[hx,hy])
   simp only[g0,af,zba,ab,Ia,oT,bR,hy,decide_false,zPb,if_true,Ov,cz (rI _ _)];rfl
 ·refine gt (r:=(0,[I (sg m.x*sg c.x)])) ?_ (by simp[hx])
  simp only[g0,af,zba,ab,H9,oS,bR,hx,decide_false,zPb,if_true,Ov,cz (rI _ _)];rfl
instance decLex (a b:V):Decidable (aD a b):=by unfold aD;exact inferInstance
def Qe(n:Nat)(a b:V):cA (n+1) 105 [ac a,ac b]=some (.bool (decide (aD a b))):=by
 rw[XD];simp only[JN,qG,qB,qT,oS,oT,oU,zba,bR,ab,af,zCa,decide_eq_false_iff_not];by_cases h1:a.x=b.x
 ·by_cases h2:a.y=b.y
  ·simp[h1,h2,aD]
  ·simp only[h1,h2,aD,not_true,if_false,not_false_iff,if_true,zNc,false_or,true_and,false_and,or_false]
 ·simp only[h1,aD,not_false_iff,if_true,false_and,or_false]
def bc(l:List V):D:=.sl (l.map ac)
def si(l:List V)(m:V)(d:Int):Bool:=l.all λx=>decide (V.dot m x<=d)
def kG(l:List V)(m:V)(d:Int):Bool:=l.any λx=>decide (V.dot m x<d)
def HW{l:List V}{i:Nat}(h:i<l.length):(l.map ac)[i]?=some (ac l[i]):=by simp[h]
def Wy(n:Nat){A:Int}{l:List V}{m:V}{d:Int}(hl:∀ x∈l,bd MV x)(hm:bd A m)(g:3*(A*262144)<=9223372036854775807)(hlen:l.length<=1000000):cA (n+2) 109 [bc l,ac m,I d]=some (.bool (si l m d&&kG l m d)):=by
 rw[XH]
 delta JR qB qC qT qX qL qZ iL iR Jn
 refine bF (λi s=>s=[.bool (kG (l.take i) m d),I i]/\si (l.take i) m d=true) l.length 0 (zja _) ⟨by simp[kG],by simp[si]⟩ (λi a s c=>?_) (λs c=>?_)
 ·obtain⟨rfl,b⟩:=c;have f:l.take (i+1)=l.take i++[l[i]]:=zAa a;have hc:=E9 n hm (hl l[i] (zza a)) g;simp only[bc,D.asSl,g0,g1,zsa,af,cM,zba,ab,decide_eq_true_eq,show((i:Int)<(l.length:Int)) from by omega,if_true,ap a,HW a,hc]
  by_cases hgt:V.dot m l[i]>d
  ·right;refine⟨(0,[.bool false]),by simp only[hgt,if_true],?_⟩
   have:si l m d=false:=by
    rw[zoc];intro h;have:=zma.1 h l[i] (zza a);simp at this;omega
   simp[g0,this]
  ·left;refine⟨[.bool (kG (l.take (i+1)) m d),I ((i+1:Nat):Int)],?_,rfl,?_⟩
   ·simp only[hgt,if_false,aw (ay (i:=i) (by omega)),zba]
    have e:kG (l.take (i+1)) m d=(kG (l.take i) m d||decide (V.dot m l[i]<d)):=by rw[f];simp only[kG,z3c,List.any_cons,List.any_nil,Bool.or_false]
    rw[e];cases kG (l.take i) m d<;>simp
   ·rw[f];simp only[si,zfd,zaa] at b ⊢;exact⟨b,by simp;omega⟩
 ·obtain⟨rfl,b⟩:=c;refine⟨(1,[.bool (kG (l.take l.length) m d)]),?_,?_⟩
  ·simp only[bc,D.asSl,g0,g1,zsa,af,zba,ab,decide_eq_true_eq,zNc,if_false]
  ·rw[zfb] at *;simp[g0,b]
def c98(n:Nat){A:Int}{l:List V}{m:V}{d:Int}(hl:∀ x∈l,bd MV x)(hm:bd A m)(g:3*(A*262144)<=9223372036854775807)(hlen:l.length<=1000000):cA (n+2) 98 [bc l,cD (m,d)]=some (.bool (si l m d&&kG l m d)):=by
 rw[u98]
 delta SD qG qB qC qT qS qX qZ iL iR Jn
 simp only[bc,D.asSl,zba];refine bF (λi s=>s=[.bool (!kG (l.take i) m d),I i]/\si (l.take i) m d=true) l.length 0 (zja _) ⟨by simp[kG],by simp[si]⟩ (λi a s c=>?_) (λs c=>?_)
 ·obtain⟨rfl,b⟩:=c;have f:l.take (i+1)=l.take i++[l[i]]:=zAa a;have hc:=Hh n hm (hl l[i] (zza a)) g;simp only[g0,g1,zsa,af,cM,zba,ab,decide_eq_true_eq,show((i:Int)<(l.length:Int)) from by omega,if_true,ap a,HW a,show D.get (cD (m,d)) [0]=some (ac m) from rfl,show D.get (cD (m,d)) [1]=some (I d) from rfl,hc,bR]
  by_cases hgt:V.dot m l[i]>d
  ·right;refine⟨(0,[.bool false]),by simp only[hgt,if_true],?_⟩
   have:si l m d=false:=by
    rw[zoc];intro h;have:=zma.1 h l[i] (zza a);simp at this;omega
   simp[g0,this]
  ·left;refine⟨[.bool (!kG (l.take (i+1)) m d),I ((i+1:Nat):Int)],?_,rfl,?_⟩
   ·simp only[hgt,if_false,aw (ay (i:=i) (by omega)),zba]
    have e:(!kG (l.take (i+1)) m d)=(!kG (l.take i) m d&&decide (V.dot m l[i]=d)):=by
     rw[f];simp only[kG,z3c,List.any_cons,List.any_nil,Bool.or_false,Bool.not_or];congr 1;by_cases h2:V.dot m l[i]=d
     ·simp[h2]
     ·have:V.dot m l[i]<d:=by omega
      simp[h2,this]
    rw[e];cases kG (l.take i) m d<;>simp
   ·rw[f];simp only[si,zfd,zaa] at b ⊢;exact⟨b,by simp;omega⟩
 ·obtain⟨rfl,b⟩:=c;refine⟨(1,[.bool (!kG (l.take l.length) m d)]),?_,?_⟩
  ·simp only[g0,g1,zsa,af,zba,ab,decide_eq_true_eq,zNc,if_false]
  ·rw[zfb] at *;simp[g0,b,bn]
end Sy
end
noncomputable section
namespace Sy
open Go Go.Proofs Geo
def jr{α:Type}{body:Bd}{s0:List D}{k:Nat×List D->Option α}{Y:α->Prop}(J:Nat->List D->Prop)(n i0:Nat)(e:i0<=n)(h0:J i0 s0)
  (d:∀ i,i<n->∀ s,J i s->∃ z,body s=some z/\match z with|.inl s'=>J (i+1) s'|.inr r=>∃ y,k r=some y/\Y y)
  (he:∀ s,J n s->∃ z,body s=some z/\match z with|.inl _=>False|.inr r=>∃ y,k r=some y/\Y y):∃ y,Option.bind (aS body s0) k=some y/\Y y:=by
 obtain⟨m,hm⟩:∃ m,m=n-i0:=⟨_,rfl⟩
 induction m generalizing i0 s0 with
 | zero=>
  have:i0=n:=by omega
  subst this;obtain⟨z,h1,a⟩:=he s0 h0;cases z with
  | inl s'=>exact a.elim
  | inr r=>obtain⟨y,b,c⟩:=a;exact⟨y,by rw[show aS body s0=some r from cU h1];exact b,c⟩
 | succ m ih=>
  obtain⟨z,h1,a⟩:=d i0 (by omega) s0 h0
  cases z with
  | inl s'=>
   obtain⟨y,b,c⟩:=ih (i0:=i0+1) (by omega) a (by omega)
   exact⟨y,by rw[show aS body s0=aS body s' from c8 h1];exact b,c⟩
  | inr r=>obtain⟨y,b,c⟩:=a;exact⟨y,by rw[show aS body s0=some r from cU h1];exact b,c⟩
def aV{α:Type}{body:Bd}{s s':List D}{k:Nat×List D->Option α}{y:α}(h:body s=some (.inl s'))(hk:Option.bind (aS body s') k=some y):Option.bind (aS body s) k=some y:=by
 have:aS body s=aS body s':=c8 h;rw[this];exact hk
def dZ{α:Type}{body:Bd}{s:List D}{r:Nat×List D}{k:Nat×List D->Option α}{y:α}(h:body s=some (.inr r))(hk:k r=some y):Option.bind (aS body s) k=some y:=by
 have:aS body s=some r:=cU h;rw[this];exact hk
def cn{α:Type}{body:Bd}{s0:List D}{k:Nat×List D->Option α}{y:α}(J:Nat->List D->Prop)(n i0:Nat)(c:i0<=n)(h0:J i0 s0)
  (b:∀ i,i<n->∀ s,J i s->(∃ s',body s=some (.inl s')/\J (i+1) s')\/∃ r,body s=some (.inr r)/\k r=some y) (he:∀ s,J n s->∃ r,body s=some (.inr r)/\k r=some y):Option.bind (aS body s0) k=some y:=by
 obtain⟨m,hm⟩:∃ m,m=n-i0:=⟨_,rfl⟩
 induction m generalizing i0 s0 with
 | zero=>
  have:i0=n:=by omega
  subst this;obtain⟨r,h1,a⟩:=he s0 h0;exact dZ h1 a
 | succ m ih=>
  rcases b i0 (by omega) s0 h0 with⟨s',h1,a⟩|⟨r,h1,a⟩
  ·exact aV h1 (ih (i0:=i0+1) (by omega) a (by omega))
  ·exact dZ h1 a
def aa{α β:Type}{A:Option α}{g:α->Option β}{z:α}{y:β}(h:A=some z)(hk:g z=some y):Option.bind A g=some y:=by
 rw[h];exact hk
def jP(u v:V):D.beq (ac u) (ac v)=decide (u=v):=by
 simp only[ac,D.beq,D.beqs,decide_true,zsb,Bool.and_true];by_cases h:u=v
 ·subst h;simp
 ·by_cases h1:u.x=v.x<;>by_cases h2:u.y=v.y<;>by_cases h3:u.z=v.z<;>simp[h,h1,h2,h3];exact h (V.ext' h1 h2 h3)
def Np(p q:V×Int):D.beq (cD p) (cD q)=decide (p=q):=by
 have:D.beq (cD p) (cD q)=(D.beq (ac p.1) (ac q.1)&&(D.beq (I p.2) (I q.2)&&true)):=rfl;rw[this,jP,bR];obtain⟨a,b⟩:=p;obtain⟨c,d⟩:=q;by_cases h1:a=c<;>by_cases h2:b=d<;>simp[h1,h2]
def iS(K:List (V×Int)):List D:=K.map λq=>.st [cD q,.bool true]
theorem xI:∀ (K:List (V×Int)) (q:V×Int),D.mget (iS K) (cD q)=if q∈K then some (.bool true) else none
 | [],q=>by simp[iS,D.mget]
 | p::K,q=>by
  have ih:=xI K q;simp only[iS,z9a,D.mget,Np] at ih ⊢;by_cases h:q=p
  ·simp[h]
  ·rw[ih];simp[h]
theorem xK:∀ (K:List (V×Int)) (q:V×Int),q ∉ K->D.mput (iS K) (cD q) (.bool true)=iS (K++[q])
 | [],q,_=>rfl
 | p::K,q,h=>by
  have ih:=xK K q (λhq=>h (zia _ hq));have a:¬ q=p:=λe=>h (by rw[e];exact zoa)
  simp only[iS,z9a,zqb,D.mput,Np,a,decide_false,zxa,if_false] at ih ⊢;rw[ih]
def Fy(K:List (V×Int)):(iS K).map wv=K.map cD:=by simp[iS,wv]
def supp(l:List V)(q:V×Int):Bool:=si l q.1 q.2&&kG l q.1 q.2
def jv(l:List V)(K:List (V×Int))(q:V×Int):List (V×Int):=if q∈K then K else if supp l q then K++[q] else K
def vo{l:List V}{K:List (V×Int)}{q x:V×Int}(h:x∈K):x∈jv l K q:=by
 unfold jv;split
 ·exact h
 ·split
  ·exact List.mem_append_left _ h
  ·exact h
def Bs{l:List V}{K:List (V×Int)}{q:V×Int}(h:supp l q=true):q∈jv l K q:=by
 unfold jv;split
 ·assumption
 ·simp
def Br{l:List V}{K:List (V×Int)}{q x:V×Int}(h:x∈jv l K q):x∈K\/(x=q/\supp l q=true):=by
 unfold jv at h;split at h
 ·exact .inl h
 ·split at h
  ·rename_i a;rcases List.mem_append.1 h with h|h
   ·exact .inl h
   ·exact .inr ⟨zDa.1 h,a⟩
  ·exact .inl h
def vn{l:List V}{K:List (V×Int)}{q:V×Int}(h:K.Nodup):(jv l K q).Nodup:=by
 unfold jv;split
 ·exact h
 ·rename_i hq;split
  ·exact List.nodup_append.2 ⟨h,by simp,λx hx y a e=>hq (by rw[zDa.1 a] at e;exact e ▸ hx)⟩
  ·exact h
def qy(a b c:V):V×Int:=(aG (V.cross (b.sub a) (c.sub a)),V.dot (aG (V.cross (b.sub a) (c.sub a))) a)
def nW(q:V×Int):V×Int:=(q.1.neg,-q.2)
def Cd(l:List V)(i j k:Nat)(q:V×Int):Prop:=(qy (l.getD i V.zero) (l.getD j V.zero) (l.getD k V.zero)).1≠V.zero/\(q=qy (l.getD i V.zero) (l.getD j V.zero) (l.getD k V.zero)\/q=nW (qy (l.getD i V.zero) (l.getD j V.zero) (l.getD k V.zero)))
structure Known(l:List V)(i j k:Nat)(K:List (V×Int)):Prop where
 nd:K.Nodup
 ok:∀ q∈K,supp l q=true/\∃ i j k,k<j/\j<i/\i<l.length/\Cd l i j k q
 all:∀ i' j' k',k'<j'->j'<i'->i'<l.length->(i'<i\/i'=i/\(j'<j\/j'=j/\k'<k))->∀ q,Cd l i' j' k' q->supp l q=true->q∈K
def Og{a b c:V}(d:bd MV a)(h:bd MV b)(hc:bd MV c):bd 549755813888 (qy a b c).1/\inR (qy a b c).2/\inR (-(qy a b c).2):=by
 have h1:bd 524288 (b.sub a):=by have:=j7 h d;simpa [MV] using this
 have f:bd 524288 (c.sub a):=by have:=j7 hc d;simpa [MV] using this
 have e:=fk (jg h1 f);have g:=Hd e d;simp only[MV] at g;refine⟨e,?_,?_⟩<;>simp only[inR,qy]<;>omega
def Known.step{l:List V}{i j k:Nat}{K:List (V×Int)}(h:Known l i j k K)(hk:k<j)(c:j<i)(b:i<l.length)(d:(qy (l.getD i V.zero) (l.getD j V.zero) (l.getD k V.zero)).1≠V.zero) :
  Known l i j (k+1) (jv l (jv l K (qy (l.getD i V.zero) (l.getD j V.zero) (l.getD k V.zero))) (nW (qy (l.getD i V.zero) (l.getD j V.zero) (l.getD k V.zero)))):=by
 refine⟨vn (vn h.nd),λq hq=>?_,λf g m h1 n o p q hq a=>?_⟩
 ·rcases Br hq with hq|⟨rfl,a⟩
  ·rcases Br hq with hq|⟨rfl,a⟩
   ·exact h.ok q hq
   ·exact⟨a,i,j,k,hk,c,b,d,.inl rfl⟩
  ·exact⟨a,i,j,k,hk,c,b,d,.inr rfl⟩
 ·by_cases e:f=i/\g=j/\m=k
  ·obtain⟨rfl,rfl,rfl⟩:=e;rcases hq.2 with rfl|rfl
   ·exact vo (Bs a)
   ·exact Bs a
  ·exact vo (vo (h.all f g m h1 n o (by omega) q hq a))
def Known.skip{l:List V}{i j k:Nat}{K:List (V×Int)}(h:Known l i j k K)(m:(qy (l.getD i V.zero) (l.getD j V.zero) (l.getD k V.zero)).1=V.zero):Known l i j (k+1) K:=by
 refine⟨h.nd,h.ok,λa b c h1 d f n q hq g=>?_⟩;by_cases e:a=i/\b=j/\c=k
 ·obtain⟨rfl,rfl,rfl⟩:=e;exact absurd m hq.1
 ·exact h.all a b c h1 d f (by omega) q hq g
def Known.next{l:List V}{i j:Nat}{K:List (V×Int)}(h:Known l i j j K):Known l i (j+1) 0 K:=
 ⟨h.nd,h.ok,λc d e h1 a b f=>h.all c d e h1 a b (by omega)⟩
def Known.next2{l:List V}{i:Nat}{K:List (V×Int)}(h:Known l i i 0 K):Known l (i+1) 0 0 K:=
 ⟨h.nd,h.ok,λc d e h1 a b f=>h.all c d e h1 a b (by omega)⟩
theorem ke{α β:Type}{f:α->List β}{c:Nat}:∀ l:List α,(∀ x∈l,(f x).length=c)->(l.flatMap f).length=l.length*c
 | [],_=>by simp
 | x::l,h=>by
  rw[List.flatMap_cons,zua,h x zoa,ke l (λy a=>h y (zia _ a)),zKa,Nat.succ_mul];omega
def Known.len{l:List V}{i j k:Nat}{K:List (V×Int)}(h:Known l i j k K)(hl:l.length<=100):K.length<=2000000:=by
 have h1:=zWb (l₂:=(List.range l.length).flatMap λi=>(List.range l.length).flatMap λj=>(List.range l.length).flatMap λk=>[qy (l.getD i V.zero) (l.getD j V.zero) (l.getD k V.zero),nW (qy (l.getD i V.zero) (l.getD j V.zero) (l.getD k V.zero))]) h.nd (λq hq=>by
  obtain⟨_,i,j,k,h1,d,a,b⟩:=h.ok q hq;refine zib.2 ⟨i,zLa.2 a,zib.2 ⟨j,zLa.2 (by omega),zib.2 ⟨k,zLa.2 (by omega),?_⟩⟩⟩
  rcases b.2 with rfl|rfl<;>simp)
 rw[ke (c:=l.length*(l.length*2)) _ (λi _=>by rw[ke (c:=l.length*2) _ (λj _=>by rw[ke (c:=2) _ (λk _=>rfl),zub]),zub]),zub] at h1
 refine zEa h1 ?_;have a1:l.length*2<=200:=by omega
 have a2:l.length*(l.length*2)<=100*200:=zUa hl a1;have a3:l.length*(l.length*(l.length*2))<=100*(100*200):=zUa hl a2;exact a3
def dN{l:List V}{i:Nat}(h:i<l.length):(l.map ac)[i]?=some (ac (l.getD i V.zero)):=by simp[h,List.getD]
def cV{l:List V}{i:Nat}(h:i<l.length):l.getD i V.zero∈l:=by simp[List.getD,h]
def FP{n:Nat}{l:List V}{K:List (V×Int)}{q:V×Int}(hl:∀ x∈l,bd MV x)(hq:bd 549755813888 q.1)(hlen:l.length<=1000) :
  (if(!decide (q∈K))=true then(Option.bind (cA (n+2) 98 [bc l,cD q]) λr=>D.truth r) else some false)=some (!decide (q∈K)&&supp l q):=by
 obtain⟨m,d⟩:=q;have hc:=c98 n (d:=d) hl hq (by decide) (by omega)
 simp only[hc,zba,ab];cases decide ((m,d)∈K)<;>rfl
end Sy
end
noncomputable section
namespace Sy
open Go Go.Proofs Geo
def LY{a b:V}(h:aD a b):qK [bq a.x b.x,bq a.y b.y,bq a.z b.z]=-1:=by
 simp only[aD] at h;rcases h with h|⟨h1,h|⟨c,h⟩⟩
 ·simp[qK,bq,h]
 ·simp[qK,bq,h1,h]
 ·simp[qK,bq,h1,c,h]
def LX{a b:V}(h:aD b a):qK [bq a.x b.x,bq a.y b.y,bq a.z b.z]=1:=by
 simp only[aD] at h;rcases h with h|⟨h1,h|⟨c,h⟩⟩
 ·simp[qK,bq,h,zfc.2 (zva h)]
 ·simp[qK,bq,h1,h,zfc.2 (zva h)]
 ·simp[qK,bq,h1,c,h,zfc.2 (zva h)]
def LW(a:V):qK [bq a.x a.x,bq a.y a.y,bq a.z a.z]=0:=by simp[qK,bq]
theorem EO{α:Type}(key:α->V):∀ (K:List α),K.Pairwise (λa b=>key a≠key b)->∃ L:List α,L.Perm K/\L.Pairwise (λa b=>aD (key a) (key b))
 | [],_=>⟨[],.refl _,.nil⟩
 | x::K,h=>by
  obtain⟨h1,g⟩:=zFa.1 h;obtain⟨L,e,j⟩:=EO key K g;have d:∀ y∈L,key x≠key y:=λy i=>h1 y (e.subset i);have ins:∀ L:List α,L.Pairwise (λa b=>aD (key a) (key b))->(∀ y∈L,key x≠key y)->∃ M:List α,M.Perm (x::L)/\M.Pairwise (λa b=>aD (key a) (key b)):=by
   intro L
   induction L with
   | nil=>intro _ _;exact⟨[x],.refl _,by simp⟩
   | cons y L ih=>
    intro hp hn;obtain⟨f,l⟩:=zFa.1 hp;rcases rN (hn y zoa) with k|k
    ·refine⟨x::y::L,.refl _,zFa.2 ⟨λz c=>?_,hp⟩⟩;rcases zwa.1 c with rfl|c
     ·exact k
     ·exact mH k (f z c)
    ·obtain⟨M,m1,m2⟩:=ih l (λz c=>hn z (zia _ c));refine⟨y::M,(m1.cons y).trans (.swap x y L),zFa.2 ⟨λz c=>?_,m2⟩⟩;rcases zwa.1 (m1.subset c) with rfl|c
     ·exact k
     ·exact f z c
  obtain⟨M,m1,m2⟩:=ins L j d;exact⟨M,m1.trans (e.cons x),m2⟩
def DU(n:Nat)(p q:V×Int):uo (dm aS (cA (n+3)) (jN aS (cA (n+3)))) (cw 100) (cD p) (cD q)=some (qK [bq p.1.x q.1.x,bq p.1.y q.1.y,bq p.1.z q.1.z]):=by
 unfold uo;rw[show ∀ l,(dm aS (cA (n+3)) (jN aS (cA (n+3)))).call (cw 100) l=cA (n+3) 100 l from λl=>congrFun (congrArg (cA (n+3)) (show uj (cw 100)=100 by kernel_rfl)) l,Wu]
 rfl
theorem Hx(n:Nat):∀ (L:List (V×Int)),L.Pairwise (λa b=>aD a.1 b.1)->tB (dm aS (cA (n+3)) (jN aS (cA (n+3)))) (cw 100) (L.map cD)=true
 | [],_=>rfl
 | p::L,h=>by
  obtain⟨h1,c⟩:=zFa.1 h;simp only[z9a,tB,zaa,zma,zXa];refine⟨⟨?_,?_⟩,Hx n L c⟩
  ·simp only[GD,DU,LW];decide
  ·rintro _ ⟨q,hq,rfl⟩;simp only[rP,GD,DU,LY (h1 q hq),LX (h1 q hq)];decide
def MT(n:Nat){K L:List (V×Int)}(hp:L.Perm K)(h:L.Pairwise (λa b=>aD a.1 b.1)):jZ (dm aS (cA (n+3)) (jN aS (cA (n+3)))) (cw 100) (K.map cD)=some (L.map cD):=
 vO (Hx n L h) (hp.symm.map _)
def pt(l:List V)(i:Nat):V:=l.getD i V.zero
def ny(a b:V):V.dot a.neg b=- V.dot a b:=by simp only[V.dot,V.neg];grind
def Cd.dist{l:List V}{i j k:Nat}{q:V×Int}(h:Cd l i j k q):q.2=V.dot q.1 (l.getD i V.zero):=by
 rcases h.2 with rfl|rfl
 ·rfl
 ·simp only[nW,ny];rfl
def ER{l:List V}{q:V×Int}(h:supp l q=true){x:V}(hx:x∈l):V.dot q.1 x<=q.2:=by
 simp only[supp,si,zaa,zma,decide_eq_true_eq] at h;exact h.1 x hx
def Known.keys{l:List V}{i j k:Nat}{K:List (V×Int)}(h:Known l i j k K):K.Pairwise (λa b=>a.1≠b.1):=by
 refine z1c (λ{a b} g m c e=>c ?_) h.nd;obtain⟨s1,i1,p,r,_,_,h1,c1⟩:=h.ok a g;obtain⟨s2,i2,q,s,_,_,f,c2⟩:=h.ok b m;have d:=c1.dist;have o:=c2.dist;have n:=ER s1 (cV f);have t:=ER s2 (cV h1);rw[e] at d n;exact Prod.ext e (by omega)
def p45(n:Nat){l:List V}(hl:∀ x∈l,bd MV x)(hlen:l.length<=100):∃ y,cA (n+6) 45 [bc l]=some y/\∃ K L:List (V×Int),Known l l.length 0 0 K/\L.Perm K/\L.Pairwise (λa b=>aD a.1 b.1)/\y=.sl (L.map cD):=by
 rw[u45];unfold PI;simp only[bc,D.asSl,zba];refine jr (λi s=>∃ K,s=[I i,.sl (iS K)]/\Known l i 0 0 K) l.length 0 (zja _) ⟨[],rfl,⟨List.nodup_nil,by simp,λM N O _ _ _ h=>by omega⟩⟩ (λi e s d=>?_) (λs d=>?_)
 ·obtain⟨K,rfl,c⟩:=d;simp only[g0,g1,zsa,af,zba,ab,decide_eq_true_eq,show((i:Int)<(l.length:Int)) from by omega,if_true,D.els]
  refine jr (λj s=>∃ K,s=[I j,.sl (iS K)]/\Known l i j 0 K) i 0 (zja _) ⟨K,rfl,c⟩ (λj H s d=>?_) (λs d=>?_)
  ·obtain⟨K,rfl,c⟩:=d;simp only[g0,g1,af,zba,ab,decide_eq_true_eq,show((j:Int)<(i:Int)) from by omega,if_true,D.els]
   refine jr (λk s=>∃ K,s=[I k,.sl (iS K)]/\Known l i j k K) j 0 (zja _) ⟨K,rfl,c⟩ (λk hk s d=>?_) (λs d=>?_)
   ·obtain⟨K,rfl,c⟩:=d;have f:=Og (hl _ (cV e)) (hl _ (cV (show j<l.length by omega))) (hl _ (cV (show k<l.length by omega)))
    have hc:=c96 (n+2) (hl _ (cV e)) (hl _ (cV (show j<l.length by omega))) (hl _ (cV (show k<l.length by omega)))
    rw[show(aG (V.cross ((l.getD j V.zero).sub (l.getD i V.zero)) ((l.getD k V.zero).sub (l.getD i V.zero))),V.dot (aG (V.cross ((l.getD j V.zero).sub (l.getD i V.zero)) ((l.getD k V.zero).sub (l.getD i V.zero)))) (l.getD i V.zero))=qy (l.getD i V.zero) (l.getD j V.zero) (l.getD k V.zero) from rfl] at hc;simp only[g0,g1,af,zba,ab,decide_eq_true_eq,show((k:Int)<(j:Int)) from by omega,if_true,D.els,zsa,ap e,ap (show j<l.length by omega),ap (show k<l.length by omega),dN e,dN (show j<l.length by omega),dN (show k<l.length by omega),hc]
    by_cases hz:(qy (l.getD i V.zero) (l.getD j V.zero) (l.getD k V.zero)).1=V.zero
    ·have u:D.beq (ac (qy (l.getD i V.zero) (l.getD j V.zero) (l.getD k V.zero)).1) (D.st [D.int .i64 0,D.int .i64 0,D.int .i64 0])=true:=by
      rw[uE,jP];exact decide_eq_true hz
     simp only[show D.get (cD (qy (l.getD i V.zero) (l.getD j V.zero) (l.getD k V.zero))) [0]=some (ac (qy (l.getD i V.zero) (l.getD j V.zero) (l.getD k V.zero)).1) from rfl,zba,u,ab,if_true,g0,D.els,aw (ay (i:=k) (by omega))]
     exact⟨_,rfl,K,rfl,c.skip hz⟩
    ·have u:D.beq (ac (qy (l.getD i V.zero) (l.getD j V.zero) (l.getD k V.zero)).1) (D.st [D.int .i64 0,D.int .i64 0,D.int .i64 0])=false:=by
      rw[uE,jP];exact decide_eq_false hz
     have step:=c.step hk H e hz;generalize hq:qy (l.getD i V.zero) (l.getD j V.zero) (l.getD k V.zero)=q at *;obtain⟨g,J,F⟩:=f;have v:D.st [ac q.1.neg,I (-q.2)]=cD (nW q):=rfl;have G:bd 549755813888 (nW q).1:=q8 g;simp only[show D.get (cD q) [0]=some (ac q.1) from rfl,show D.get (cD q) [1]=some (I q.2) from rfl,zba,u,ab,zxa,if_false,PM (n+4) g (by decide),oE F,v]
     have one:∀ (K:List (V×Int)) (p:V×Int),bd 549755813888 p.1->(Option.bind (D.un .not (Option.getD (D.mget (iS K) (cD p)) (D.bool false))) λB=>Option.bind (D.truth B) λm=>Option.bind (if m then(Option.bind (cA (n+5) 98 [D.sl (l.map ac),cD p]) λA=>D.truth A) else(some false)) λo=>
       if o then(some ((0:Nat),[(D.sl [cD q,cD (nW q)]),(D.sl (D.mput (iS K) (cD p) (D.bool true)))])) else(some (0,[(D.sl [cD q,cD (nW q)]),(D.sl (iS K))])))=some (0,[D.sl [cD q,cD (nW q)],D.sl (iS (jv l K p))]):=λK p hp=>by
      rw[xI];have w:=FP (n:=n+3) (K:=K) hl hp (by omega)
      simp only[bc] at w;by_cases hm:p∈K
      ·simp[hm,bn,ab,jv]
      ·simp only[hm,if_false,Option.getD_none,bn,zPb,zba,ab,if_true,decide_false,zsb] at w ⊢;rw[w];simp only[zba,jv,hm,if_false];split
       ·rw[xK K p hm]
       ·rfl
     refine⟨.inl [I ((k+1:Nat):Int),.sl (iS (jv l (jv l K q) (nW q)))],?_,_,rfl,step⟩;refine aa (z:=(0,[.sl (iS (jv l (jv l K q) (nW q)))])) ?_ ?_
     ·refine aV (s':=[.sl [cD q,cD (nW q)],I 1,.sl (iS (jv l K q))]) ?_ (aV (s':=[.sl [cD q,cD (nW q)],I 2,.sl (iS (jv l (jv l K q) (nW q)))]) ?_ (dZ (r:=(0,[.sl (iS (jv l (jv l K q) (nW q)))])) ?_ rfl))
      ·simp only[g0,g1,g2,D.els,af,zba,ab,decide_eq_true_eq,show((0:Int)<2) from by decide,if_true,zKa,zyb,show D.idx (I 0) (0+1+1)=some 0 from rfl,zQb,aw NJ]
       exact aa (one K q g) rfl
      ·simp only[g0,g1,g2,D.els,af,zba,ab,decide_eq_true_eq,show((1:Int)<2) from by decide,if_true,zKa,zyb,show D.idx (I 1) (0+1+1)=some 1 from rfl,zjb,zQb,aw tR]
       exact aa (one (jv l K q) (nW q) G) rfl
      ·simp only[g0,g1,g2,D.els,af,zba,ab];rfl
     ·simp only[g0,D.els,aw (ay (i:=k) (by omega)),zba]
      rfl
   ·obtain⟨K,rfl,c⟩:=d;simp only[g0,g1,af,zba,ab,decide_eq_true_eq,zNc,if_false,D.els];refine⟨_,rfl,.inl [I ((j+1:Nat):Int),.sl (iS K)],?_,K,rfl,c.next⟩
    simp only[g0,D.els,aw (ay (i:=j) (by omega)),zba]
    rfl
  ·obtain⟨K,rfl,c⟩:=d;simp only[g0,g1,af,zba,ab,decide_eq_true_eq,zNc,if_false,D.els];refine⟨_,rfl,.inl [I ((i+1:Nat):Int),.sl (iS K)],?_,K,rfl,c.next2⟩;simp only[g0,D.els,aw (ay (i:=i) (by omega)),zba]
   rfl
 ·obtain⟨K,rfl,c⟩:=d;simp only[g0,g1,zsa,af,zba,ab,decide_eq_true_eq,zNc,if_false,D.els];obtain⟨L,C,E⟩:=EO (λq:V×Int=>q.1) K c.keys;refine⟨_,rfl,.sl (L.map cD),?_,K,L,c,C,E,rfl⟩;have t:(iS K).length<=1073741824:=by
   have:=c.len hlen;simp only[iS,zsa];omega
  simp only[g0,D.els,t,decide_true,if_true,Fy,MT (n+2) C E,zba]
end Sy
end
noncomputable section
namespace Sy
open Go Go.Proofs Geo
def qx{l:List V}{q:V×Int}:supp l q=true↔Ce (pt l) l.length q.1 q.2:=by
 simp only[supp,si,kG,zaa,zma,z0b,decide_eq_true_eq,Ce,pt];constructor
 ·rintro⟨h1,x,hx,a⟩;obtain⟨k,hk,rfl⟩:=zQa hx;exact⟨λk hk=>h1 _ (cV hk),k,hk,by simpa [List.getD,hk] using a⟩
 ·rintro⟨h1,k,hk,a⟩;refine⟨λx hx=>?_,_,cV hk,a⟩;obtain⟨k,hk,rfl⟩:=zQa hx;simpa [List.getD,hk] using h1 k hk
def M8(P:Nat->V)(i j k:Nat):V.cross ((P j).sub (P i)) ((P k).sub (P i))=(da P k j i).neg:=by
 apply V.ext'<;>simp only[da,wy,V.cross,V.sub,V.neg]<;>grind
def AK{P:Nat->V}{i j k:Nat}:V.dot (aG (da P i j k)) (P k)=V.dot (aG (da P i j k)) (P i):=by
 by_cases h:da P i j k=V.zero
 ·have a:aG V.zero=V.zero:=by apply V.ext'<;>simp[aG,V.zero]
  rw[h,a];simp[V.dot,V.zero]
 ·have g:=fa h;have e:=fK (da P i j k);have t2:V.dot (da P i j k) (wy P i k)=0:=by simp only[da,V.dot,V.cross];grind
  rw[e] at t2;have:(a7 (da P i j k):Int)*V.dot (aG (da P i j k)) (wy P i k)=0:=by rw[<-t2];simp only[V.dot,V.smul];grind
  have h0:=aA (by omega) this
  rw[bX] at h0;omega
def Iy{v:V}(h:v≠V.zero):v.neg≠V.zero:=λe=>by
 have a:=congrArg V.x e;have b:=congrArg V.y e;have c:=congrArg V.z e;simp only[V.neg,V.zero] at a b c;exact h (V.ext' (by simp only[V.zero];omega) (by simp only[V.zero];omega) (by simp only[V.zero];omega))
def M6(l:List V)(i j k:Nat):(qy (pt l i) (pt l j) (pt l k)).1=(aG (da (pt l) k j i)).neg:=by
 simp only[qy,M8 (pt l) i j k,Bw]
def Bn(v:V):v.neg.neg=v:=by apply V.ext'<;>simp[V.neg]
def GI{l:List V}{i j k:Nat}{q:V×Int}:Cd l i j k q↔da (pt l) k j i≠V.zero/\(q.1=aG (da (pt l) k j i)\/q.1=(aG (da (pt l) k j i)).neg)/\q.2=V.dot q.1 (pt l k):=by
 have e:=M6 l i j k;have d:V.dot (aG (da (pt l) k j i)) (pt l i)=V.dot (aG (da (pt l) k j i)) (pt l k):=AK;have n:(qy (pt l i) (pt l j) (pt l k)).1≠V.zero↔da (pt l) k j i≠V.zero:=by
  rw[e];constructor
  ·intro h h0;rw[h0] at h;exact h rfl
  ·intro h;exact Iy (tW h)
 constructor
 ·intro h;have f:=h.dist;obtain⟨h1,c⟩:=h;refine⟨n.1 h1,?_⟩;have hq:q.1=aG (da (pt l) k j i)\/q.1=(aG (da (pt l) k j i)).neg:=by
   rcases c with rfl|rfl
   ·exact .inr e
   ·left;show(qy (pt l i) (pt l j) (pt l k)).1.neg=_;rw[e,Bn]
  refine⟨hq,?_⟩;rw[f];rcases hq with hq|hq
  ·rw[hq];exact d
  ·rw[hq,ny,ny];exact congrArg Neg.neg d
 ·rintro⟨h1,c,m⟩;refine⟨n.2 h1,?_⟩;have g:(qy (pt l i) (pt l j) (pt l k)).2=V.dot (qy (pt l i) (pt l j) (pt l k)).1 (pt l i):=rfl;obtain⟨a,b⟩:=q;simp only at c m;subst m;rcases c with rfl|rfl
  ·right;show _=((qy (pt l i) (pt l j) (pt l k)).1.neg,-(qy (pt l i) (pt l j) (pt l k)).2);rw[g,e,Bn,ny,d,Int.neg_neg]
  ·left;refine Prod.ext e.symm ?_;show _=(qy (pt l i) (pt l j) (pt l k)).2;rw[g,e,ny,ny,d]
def Known.facets{l:List V}{K L:List (V×Int)}(h:Known l l.length 0 0 K)(hp:L.Perm K)(g:L.Pairwise (λa b=>aD a.1 b.1)):Facets (pt l) l.length L:=by
 refine⟨g,λq=>⟨λhq=>?_,λhq=>?_⟩⟩
 ·obtain⟨f,i,j,k,h1,e,c,hc⟩:=h.ok q (hp.subset hq);obtain⟨c1,c2,d⟩:=GI.1 hc;exact⟨⟨k,j,i,h1,e,c,c1,c2,d⟩,qx.1 f⟩
 ·obtain⟨⟨i,j,k,h1,e,c,c1,c2,d⟩,f⟩:=hq;exact hp.symm.subset (h.all k j i h1 e c (.inl c) q (GI.2 ⟨c1,c2,d⟩) (qx.2 f))
end Sy
end
noncomputable section
namespace Sy
open Go Go.Proofs Geo
def j9:Option Nat->D
 | none=>I (-1)
 | some b=>I (b:Int)
def O9{α:Type}{p:Prop}[Decidable p]{A B:α}(h:p):(if decide p=true then A else B)=A:=by rw[if_pos (decide_eq_true h)]
def Pa{α:Type}{p:Prop}[Decidable p]{A B:α}(h:¬ p):(if decide p=true then A else B)=B:=by rw[if_neg (by simpa using h)]
def aB{α:Type}{p:Prop}[Decidable p]{A B y:α}(h:p)(a:A=y):(if decide p=true then A else B)=y:=by rw[if_pos (decide_eq_true h)];exact a
def aC{α:Type}{p:Prop}[Decidable p]{A B y:α}(h:¬ p)(a:B=y):(if decide p=true then A else B)=y:=by rw[if_neg (by simpa using h)];exact a
def EM{x:Int}:sg x<0↔x<0:=by unfold sg;split<;>(try split)<;>omega
def iX{x:Int}:sg x=0↔x=0:=by unfold sg;split<;>(try split)<;>omega
def cO(a b:Nat):D.beq (I (a:Int)) (I (b:Int))=decide (a=b):=by
 rw[bR];by_cases h:a=b<;>simp[h];omega
def OJ(n:Nat){l:List V}(hl:∀ x∈l,bd MV x){m:V}{d:Int}{a k:Nat}{best:Option Nat}(E:m≠V.zero)(e:a<l.length)(hk:k<l.length)(Z:∀ b,best=some b->b<l.length/\V.dot m (wy (pt l) a b)=0)(B:V.dot m (wy (pt l) a k)=0)(X:D) :
  (Option.bind (D.truth (D.bool (D.beq (I (k:Int)) (I (a:Int))))) λs=>
  if s then(some ((0:Nat),[j9 best,X])) else(Option.bind (D.bin .lss (j9 best) (D.int .i64 0)) λJ=>
  Option.bind (D.truth J) λt=>
  if t then(some (0,[I (k:Int),X])) else(Option.bind (D.asSl (bc l)) λi=>
  Option.bind (D.idx (I (k:Int)) (List.length i)) λi29=>
  Option.bind (i[i29]?) λK=>
  Option.bind (D.asSl (bc l)) λj=>
  Option.bind (D.idx (I (a:Int)) (List.length j)) λi32=>
  Option.bind (j[i32]?) λL=>
  Option.bind (cA (n+4) 103 [K,L]) λf=>
  Option.bind (D.asSl (bc l)) λo=>
  Option.bind (D.idx (j9 best) (List.length o)) λi36=>
  Option.bind (o[i36]?) λM=>
  Option.bind (D.asSl (bc l)) λp=>
  Option.bind (D.idx (I (a:Int)) (List.length p)) λi39=>
  Option.bind (p[i39]?) λN=>
  Option.bind (cA (n+4) 103 [M,N]) λg=>
  Option.bind (D.get (cD (m,d)) [0]) λO=>
  Option.bind (cA (n+4) 104 [O,g,f]) λq=>
  Option.bind (D.bin .lss q (D.int .i64 0)) λP=>
  Option.bind (D.truth P) λu=>
  Option.bind (if u then(some true) else(Option.bind (D.truth (D.bool (D.beq q (D.int .i64 0)))) λv=>
  if v then(Option.bind (cA (n+4) 101 [f,f]) λF=>
  Option.bind (cA (n+4) 101 [g,g]) λG=>
  Option.bind (D.bin .gtr F G) λQ=>
  D.truth Q) else(some false))) λw=>
  Option.bind (D.truth (D.bool w)) λy=>
  if y then(some (0,[I (k:Int),X])) else(some (0,[j9 best,X])))))=some (0,[j9 (dD m (pt l) a best k),X]):=by
 by_cases hka:k=a
 ·subst hka;have h0:D.beq (I (k:Int)) (I (k:Int))=true:=by rw[cO];simp
  rw[h0,show dD m (pt l) k best k=best from if_pos rfl];exact aa (z:=true) rfl (if_pos rfl)
 ·have h0:D.beq (I (k:Int)) (I (a:Int))=false:=by rw[cO];simp[hka]
  rw[h0];refine aa (z:=false) rfl ?_;rw[if_neg (by decide)]
  have h:∀ b,dD m (pt l) a b k=match b with
   | none=>some k
   | some b=>if q9 m (pt l) a b k then some k else some b:=λb=>if_neg hka
  rw[h];clear h h0;cases best with
  | none=>exact aa (z:=.bool true) rfl (aa (z:=true) rfl rfl)
  | some b=>
   obtain⟨c,A⟩:=Z b rfl;have c1:=Hi (n+2) (hl _ (cV hk)) (hl _ (cV e)) (by decide)
   have c2:=Hi (n+2) (hl _ (cV c)) (hl _ (cV e)) (by decide)
   have w1:bd 524288 (wy (pt l) a k):=oo (hl _ (cV e)) (hl _ (cV hk));have H:bd 524288 (wy (pt l) a b):=oo (hl _ (cV e)) (hl _ (cV c));have W:(l.getD k V.zero).sub (l.getD a V.zero)=wy (pt l) a k:=rfl;have Y:(l.getD b V.zero).sub (l.getD a V.zero)=wy (pt l) a b:=rfl;rw[W] at c1;rw[Y] at c2;have R:=Wv (n+1) (m:=m) H w1 (by decide)
   have S:=Hh (n+3) w1 w1 (by decide)
   have U:=Hh (n+3) H H (by decide)
   have hle:=Ee E (eH A B);rw[hle] at R;have C:¬ ((b:Int)<0):=by omega
   have r:(l.map ac).length=l.length:=zsa ..;refine aa (z:=.bool false) (by rw[show j9 (some b)=I (b:Int) from rfl,af,decide_eq_false C]) (aa (z:=false) rfl ?_)
   rw[if_neg (by decide)]
   refine aa (z:=l.map ac) rfl (aa (z:=k) (by rw[r];exact ap hk) (aa (dN hk) ?_))
   refine aa (z:=l.map ac) rfl (aa (z:=a) (by rw[r];exact ap e) (aa (dN e) ?_))
   refine aa c1 ?_;refine aa (z:=l.map ac) rfl (aa (z:=b) (by rw[r];exact ap c) (aa (dN c) ?_))
   refine aa (z:=l.map ac) rfl (aa (z:=a) (by rw[r];exact ap e) (aa (dN e) ?_))
   refine aa c2 (aa (z:=ac m) rfl (aa R (aa af (aa ab ?_))));simp only[EM,bR,iX,ab,zba,S,U,cM,q9,T];by_cases t1:V.dot m (V.cross (wy (pt l) a b) (wy (pt l) a k))<0
   ·simp[t1,j9]
   ·by_cases t2:V.dot m (V.cross (wy (pt l) a b) (wy (pt l) a k))=0
    ·by_cases t3:V.dot (wy (pt l) a b) (wy (pt l) a b)<V.dot (wy (pt l) a k) (wy (pt l) a k)
     ·simp[t2,t3,j9]
     ·simp[t2,t3,j9]
    ·simp[t1,t2,j9]
end Sy
end
end Go.Proofs.YtphlmegkommlnaaGreatDoor
