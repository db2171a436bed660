/- Part 17 of the proof that PlaneOrPoint answers true at every input -/
import Derived.Test.YtphlmegkommlnaaGreatDoorOrpt08
set_option linter.unusedVariables false
set_option linter.unusedSimpArgs false
set_option linter.unnecessarySimpa false
set_option linter.defProp false
set_option maxRecDepth 20000
namespace Go.Proofs.YtphlmegkommlnaaGreatDoor
noncomputable section
namespace Sy
open Go Go.Proofs
def aU:Lp:=λ{α β} body=>nU (α:=α) (β:=β) body
def cA(n:Nat):Nat->List D->Option D:=IQ aU n
section
variable(n:Nat)(a0 a1 a2 a3 a4:D)
def u12:cA (n+1) 12 [a0]=RL aU (cA n) a0:=u3
def u13:cA (n+1) 13 [a0,a1]=Uu aU (cA n) a0 a1:=u3
def u15:cA (n+1) 15 [a0]=Uv aU (cA n) a0:=u3
def u18:cA (n+1) 18 [a0]=Uw aU (cA n) a0:=u3
def u19:cA (n+1) 19 [a0]=Ux aU (cA n) a0:=u3
def u21:cA (n+1) 21 [a0]=RM aU (cA n) a0:=u3
def u31:cA (n+1) 31 [a0]=Uy aU (cA n) a0:=u3
def u32:cA (n+1) 32 [a0,a1]=RN aU (cA n) a0 a1:=u3
def u33:cA (n+1) 33 [a0,a1]=Uz aU (cA n) a0 a1:=u3
def u34:cA (n+1) 34 [a0]=UA aU (cA n) a0:=u3
def u37:cA (n+1) 37 [a0,a1]=RO aU (cA n) a0 a1:=u3
def u38:cA (n+1) 38 [a0,a1]=Sd aU (cA n) a0 a1:=u3
def u39:cA (n+1) 39 [a0,a1]=UB aU (cA n) a0 a1:=u3
def u40:cA (n+1) 40 [a0,a1]=Se aU (cA n) a0 a1:=u3
def u41:cA (n+1) 41 [a0,a1]=UC aU (cA n) a0 a1:=u3
def u45:cA (n+1) 45 [a0]=RP aU (cA n) a0:=u3
def u46:cA (n+1) 46 [a0,a1]=UD aU (cA n) a0 a1:=u3
def u47:cA (n+1) 47 [a0]=UE aU (cA n) a0:=u3
def u48:cA (n+1) 48 [a0]=UF aU (cA n) a0:=u3
def u51:cA (n+1) 51 [a0,a1]=UG aU (cA n) a0 a1:=u3
def u52:cA (n+1) 52 [a0]=UH aU (cA n) a0:=u3
def u53:cA (n+1) 53 [a0,a1]=UI aU (cA n) a0 a1:=u3
def u54:cA (n+1) 54 [a0]=UJ aU (cA n) a0:=u3
def u57:cA (n+1) 57 [a0,a1]=UK aU (cA n) a0 a1:=u3
def u59:cA (n+1) 59 [a0,a1]=RQ aU (cA n) a0 a1:=u3
def u61:cA (n+1) 61 [a0,a1]=UL aU (cA n) a0 a1:=u3
def u62:cA (n+1) 62 [a0,a1]=RR aU (cA n) a0 a1:=u3
def u68:cA (n+1) 68 [a0]=UM aU (cA n) a0:=u3
def u70:cA (n+1) 70 [a0]=Sq aU (cA n) a0:=u3
def u71:cA (n+1) 71 [a0]=UN aU (cA n) a0:=u3
def u72:cA (n+1) 72 [a0,a1]=UO aU (cA n) a0 a1:=u3
def u73:cA (n+1) 73 [a0,a1]=UP aU (cA n) a0 a1:=u3
def u74:cA (n+1) 74 [a0]=UQ aU (cA n) a0:=u3
def u75:cA (n+1) 75 [a0]=UR aU (cA n) a0:=u3
def u76:cA (n+1) 76 [a0]=Sr aU (cA n) a0:=u3
def u77:cA (n+1) 77 [a0]=US aU (cA n) a0:=u3
def u78:cA (n+1) 78 [a0,a1]=UT aU (cA n) a0 a1:=u3
def u79:cA (n+1) 79 [a0,a1]=UU aU (cA n) a0 a1:=u3
def u80:cA (n+1) 80 [a0]=UV aU (cA n) a0:=u3
def u81:cA (n+1) 81 [a0,a1]=Ss aU (cA n) a0 a1:=u3
def u82:cA (n+1) 82 [a0,a1]=UW aU (cA n) a0 a1:=u3
def u83:cA (n+1) 83 [a0]=UX aU (cA n) a0:=u3
def u84:cA (n+1) 84 []=UY aU (cA n) :=u3
def u85:cA (n+1) 85 [a0,a1]=Su aU (cA n) a0 a1:=u3
def u86:cA (n+1) 86 [a0]=UZ aU (cA n) a0:=u3
def u87:cA (n+1) 87 [a0,a1]=RS aU (cA n) a0 a1:=u3
def u88:cA (n+1) 88 [a0]=Sv aU (cA n) a0:=u3
def u89:cA (n+1) 89 [a0,a1]=RT aU (cA n) a0 a1:=u3
def u90:cA (n+1) 90 [a0,a1]=U0 aU (cA n) a0 a1:=u3
def u91:cA (n+1) 91 [a0,a1]=U2 aU (cA n) a0 a1:=u3
def u96:cA (n+1) 96 [a0,a1,a2]=U3 aU (cA n) a0 a1 a2:=u3
def u97:cA (n+1) 97 [a0]=U4 aU (cA n) a0:=u3
def u98:cA (n+1) 98 [a0,a1]=U5 aU (cA n) a0 a1:=u3
def aan:cA (n+1) 100 [a0,a1]=Lk aU (cA n) a0 a1:=u3
def aao:cA (n+1) 101 [a0,a1]=H1 aU (cA n) a0 a1:=u3
def aap:cA (n+1) 103 [a0,a1]=Ll aU (cA n) a0 a1:=u3
def aaq:cA (n+1) 104 [a0,a1,a2]=Lm aU (cA n) a0 a1 a2:=u3
def aar:cA (n+1) 105 [a0,a1]=Ln aU (cA n) a0 a1:=u3
def aas:cA (n+1) 106 [a0,a1,a2]=Lo aU (cA n) a0 a1 a2:=u3
def aat:cA (n+1) 107 [a0,a1]=Lr aU (cA n) a0 a1:=u3
def aau:cA (n+1) 108 [a0,a1]=Ls aU (cA n) a0 a1:=u3
def aav:cA (n+1) 109 [a0,a1,a2]=Lt aU (cA n) a0 a1 a2:=u3
def aaw:cA (n+1) 110 [a0,a1]=Lu aU (cA n) a0 a1:=u3
def aax:cA (n+1) 111 [a0,a1,a2]=Lv aU (cA n) a0 a1 a2:=u3
def aay:cA (n+1) 112 [a0,a1]=Lw aU (cA n) a0 a1:=u3
def aaz:cA (n+1) 115 [a0]=Lx aU (cA n) a0:=u3
def aaA:cA (n+1) 116 [a0,a1]=Ly aU (cA n) a0 a1:=u3
def aaB:cA (n+1) 117 [a0,a1]=Lz aU (cA n) a0 a1:=u3
def aaC:cA (n+1) 118 [a0]=LA aU (cA n) a0:=u3
def aaD:cA (n+1) 119 []=LB aU (cA n) :=u3
def aaF:cA (n+1) 120 [a0,a1]=LC aU (cA n) a0 a1:=u3
def aaG:cA (n+1) 121 [a0,a1]=LD aU (cA n) a0 a1:=u3
def aaH:cA (n+1) 122 [a0,a1]=LE aU (cA n) a0 a1:=u3
def aaI:cA (n+1) 123 [a0,a1]=LF aU (cA n) a0 a1:=u3
def RB:cA (n+1) 124 [a0]=Gu aU (cA n) a0:=u3
def aaJ:cA (n+1) 125 []=LG aU (cA n) :=u3
def aaK:cA (n+1) 126 [a0,a1]=LH aU (cA n) a0 a1:=u3
def aaL:cA (n+1) 127 [a0]=LI aU (cA n) a0:=u3
def T9:cA (n+1) 128 [a0]=H2 aU (cA n) a0:=u3
def aaM:cA (n+1) 129 [a0]=LJ aU (cA n) a0:=u3
def aaN:cA (n+1) 130 []=LK aU (cA n) :=u3
def aaO:cA (n+1) 131 [a0,a1]=LL aU (cA n) a0 a1:=u3
def RC:cA (n+1) 132 [a0,a1]=Gv aU (cA n) a0 a1:=u3
def aaP:cA (n+1) 133 []=LN aU (cA n) :=u3
def aaQ:cA (n+1) 134 [a0,a1]=LP aU (cA n) a0 a1:=u3
def aaR:cA (n+1) 135 [a0]=LQ aU (cA n) a0:=u3
def Ua:cA (n+1) 136 [a0]=H3 aU (cA n) a0:=u3
def aaS:cA (n+1) 137 [a0,a1]=LR aU (cA n) a0 a1:=u3
def aaT:cA (n+1) 138 [a0]=LT aU (cA n) a0:=u3
def Ub:cA (n+1) 139 [a0]=H4 aU (cA n) a0:=u3
def aaU:cA (n+1) 140 [a0]=LU aU (cA n) a0:=u3
def aaV:cA (n+1) 141 [a0,a1]=LV aU (cA n) a0 a1:=u3
def aaW:cA (n+1) 142 [a0]=LW aU (cA n) a0:=u3
def aaX:cA (n+1) 143 [a0,a1]=LX aU (cA n) a0 a1:=u3
def Uc:cA (n+1) 144 [a0,a1]=H5 aU (cA n) a0 a1:=u3
def aaY:cA (n+1) 145 [a0]=LY aU (cA n) a0:=u3
def aaZ:cA (n+1) 146 [a0,a1]=LZ aU (cA n) a0 a1:=u3
def aa0:cA (n+1) 147 [a0,a1]=L4 aU (cA n) a0 a1:=u3
def aa1:cA (n+1) 148 [a0]=L5 aU (cA n) a0:=u3
def Ud:cA (n+1) 152 [a0,a1]=H6 aU (cA n) a0 a1:=u3
def aa2:cA (n+1) 154 [a0,a1]=L6 aU (cA n) a0 a1:=u3
def aa3:cA (n+1) 155 [a0]=L7 aU (cA n) a0:=u3
def aa4:cA (n+1) 156 [a0,a1,a2,a3,a4]=L8 aU (cA n) a0 a1 a2 a3 a4:=u3
def aa5:cA (n+1) 165 [a0]=L9 aU (cA n) a0:=u3
def aa6:cA (n+1) 167 [a0]=Md aU (cA n) a0:=u3
def aa7:cA (n+1) 168 [a0,a1]=Me aU (cA n) a0 a1:=u3
def aa8:cA (n+1) 169 []=Mf aU (cA n) :=u3
def aa9:cA (n+1) 170 [a0,a1]=Mg aU (cA n) a0 a1:=u3
def aba:cA (n+1) 171 [a0]=Mh aU (cA n) a0:=u3
def RD:cA (n+1) 172 [a0,a1]=Gw aU (cA n) a0 a1:=u3
def Ue:cA (n+1) 173 [a0,a1]=H7 aU (cA n) a0 a1:=u3
def Uf:cA (n+1) 174 [a0,a1]=H8 aU (cA n) a0 a1:=u3
def abb:cA (n+1) 175 [a0,a1]=Mi aU (cA n) a0 a1:=u3
def abc:cA (n+1) 186 [a0]=Mj aU (cA n) a0:=u3
def Ug:cA (n+1) 187 [a0]=H9 aU (cA n) a0:=u3
def abd:cA (n+1) 188 [a0,a1]=Mk aU (cA n) a0 a1:=u3
def abe:cA (n+1) 194 [a0]=Ml aU (cA n) a0:=u3
def abf:cA (n+1) 195 [a0,a1]=Mm aU (cA n) a0 a1:=u3
def abg:cA (n+1) 196 [a0]=Mn aU (cA n) a0:=u3
def abh:cA (n+1) 197 [a0,a1]=Mo aU (cA n) a0 a1:=u3
def abi:cA (n+1) 201 [a0,a1]=Mp aU (cA n) a0 a1:=u3
def abj:cA (n+1) 202 [a0]=Gx aU (cA n) a0:=u3
def Uh:cA (n+1) 203 [a0,a1]=Ia aU (cA n) a0 a1:=u3
def abk:cA (n+1) 215 [a0]=Mq aU (cA n) a0:=u3
def abl:cA (n+1) 217 [a0]=Mr aU (cA n) a0:=u3
def abm:cA (n+1) 324 [a0,a1]=Ms aU (cA n) a0 a1:=u3
def abn:cA (n+1) 331 [a0]=Mt aU (cA n) a0:=u3
def abo:cA (n+1) 333 [a0,a1]=Mu aU (cA n) a0 a1:=u3
def abp:cA (n+1) 336 [a0,a1]=Mv aU (cA n) a0 a1:=u3
def abq:cA (n+1) 340 [a0,a1]=Mw aU (cA n) a0 a1:=u3
def abr:cA (n+1) 342 [a0]=Mx aU (cA n) a0:=u3
def abt:cA (n+1) 344 [a0,a1]=My aU (cA n) a0 a1:=u3
def abu:cA (n+1) 345 [a0,a1]=MA aU (cA n) a0 a1:=u3
def abv:cA (n+1) 348 [a0]=MB aU (cA n) a0:=u3
def abw:cA (n+1) 349 [a0]=MC aU (cA n) a0:=u3
def abx:cA (n+1) 352 [a0,a1]=MD aU (cA n) a0 a1:=u3
def Ui:cA (n+1) 357 [a0]=Ib aU (cA n) a0:=u3
def aby:cA (n+1) 364 [a0,a1]=ME aU (cA n) a0 a1:=u3
def abz:cA (n+1) 365 [a0]=MF aU (cA n) a0:=u3
def abB:cA (n+1) 371 [a0,a1]=MG aU (cA n) a0 a1:=u3
def Uj:cA (n+1) 373 [a0,a1]=Ic aU (cA n) a0 a1:=u3
def abC:cA (n+1) 374 [a0]=MH aU (cA n) a0:=u3
def abD:cA (n+1) 385 [a0]=MI aU (cA n) a0:=u3
def Uk:cA (n+1) 386 [a0,a1]=Id aU (cA n) a0 a1:=u3
def abE:cA (n+1) 387 [a0]=MJ aU (cA n) a0:=u3
def abF:cA (n+1) 388 [a0,a1]=MK aU (cA n) a0 a1:=u3
def abG:cA (n+1) 392 [a0,a1]=ML aU (cA n) a0 a1:=u3
def abH:cA (n+1) 393 [a0]=MM aU (cA n) a0:=u3
def RE:cA (n+1) 394 [a0]=Gy aU (cA n) a0:=u3
def abI:cA (n+1) 414 [a0,a1,a2,a3]=MO aU (cA n) a0 a1 a2 a3:=u3
def abJ:cA (n+1) 416 [a0,a1,a2,a3]=MP aU (cA n) a0 a1 a2 a3:=u3
def abK:cA (n+1) 421 [a0,a1,a2,a3,a4]=MQ aU (cA n) a0 a1 a2 a3 a4:=u3
def abL:cA (n+1) 422 [a0,a1,a2,a3,a4]=MR aU (cA n) a0 a1 a2 a3 a4:=u3
def abM:cA (n+1) 423 [a0,a1,a2]=MS aU (cA n) a0 a1 a2:=u3
def abN:cA (n+1) 424 [a0,a1,a2]=MT aU (cA n) a0 a1 a2:=u3
def abO:cA (n+1) 425 [a0,a1,a2,a3]=MU aU (cA n) a0 a1 a2 a3:=u3
def abP:cA (n+1) 426 [a0]=MW aU (cA n) a0:=u3
def abQ:cA (n+1) 427 [a0]=MX aU (cA n) a0:=u3
def abR:cA (n+1) 431 [a0,a1]=MY aU (cA n) a0 a1:=u3
def abS:cA (n+1) 433 [a0,a1]=MZ aU (cA n) a0 a1:=u3
def abT:cA (n+1) 434 [a0,a1,a2]=M4 aU (cA n) a0 a1 a2:=u3
def abU:cA (n+1) 435 [a0,a1]=M5 aU (cA n) a0 a1:=u3
def abV:cA (n+1) 437 [a0,a1,a2]=M6 aU (cA n) a0 a1 a2:=u3
def abW:cA (n+1) 438 [a0]=M7 aU (cA n) a0:=u3
def abX:cA (n+1) 440 [a0,a1]=M8 aU (cA n) a0 a1:=u3
def abY:cA (n+1) 441 [a0]=M9 aU (cA n) a0:=u3
def abZ:cA (n+1) 442 [a0,a1]=Nc aU (cA n) a0 a1:=u3
def ab0:cA (n+1) 443 [a0,a1]=Nd aU (cA n) a0 a1:=u3
def ab1:cA (n+1) 444 [a0,a1]=Nf aU (cA n) a0 a1:=u3
def ab2:cA (n+1) 445 [a0,a1]=Ng aU (cA n) a0 a1:=u3
def ab3:cA (n+1) 446 [a0,a1]=Nh aU (cA n) a0 a1:=u3
def ab4:cA (n+1) 447 [a0]=Ni aU (cA n) a0:=u3
def ab5:cA (n+1) 448 [a0]=Nj aU (cA n) a0:=u3
def ab6:cA (n+1) 449 [a0]=Nk aU (cA n) a0:=u3
def ab7:cA (n+1) 450 [a0,a1]=Nl aU (cA n) a0 a1:=u3
def ab8:cA (n+1) 452 [a0,a1]=Nm aU (cA n) a0 a1:=u3
def ab9:cA (n+1) 454 [a0,a1]=Nn aU (cA n) a0 a1:=u3
def aca:cA (n+1) 456 [a0,a1]=No aU (cA n) a0 a1:=u3
end
end Sy
end
noncomputable section
namespace Geo
structure V where
 x:Int
 y:Int
 z:Int
deriving DecidableEq
namespace V
def sub(a b:V):V:=⟨a.x-b.x,a.y-b.y,a.z-b.z⟩
def neg(a:V):V:=⟨-a.x,-a.y,-a.z⟩
def add(a b:V):V:=⟨a.x+b.x,a.y+b.y,a.z+b.z⟩
def smul(k:Int)(a:V):V:=⟨k*a.x,k*a.y,k*a.z⟩
def dot(a b:V):Int:=a.x*b.x+a.y*b.y+a.z*b.z
def cross(a b:V):V:=⟨a.y*b.z-a.z*b.y,a.z*b.x-a.x*b.z,a.x*b.y-a.y*b.x⟩
def zero:V:=⟨0,0,0⟩
def ext'{a b:V}(h1:a.x=b.x)(h2:a.y=b.y)(h3:a.z=b.z):a=b:=by cases a;cases b;simp_all
end V
open V
def A6{a:Int}(h:a≠0):0<a*a:=by
 rcases Int.lt_or_lt_of_ne h with h|h
 ·exact zTb h h
 ·exact zGa h h
def oo(a:Int):0<=a*a:=by
 rcases zHb a 0 with h|h|h
 ·exact zpa (zTb h h)
 ·subst h;decide
 ·exact zpa (zGa h h)
def nO(a:V):0<=dot a a:=by have:=oo a.x;have:=oo a.y;have:=oo a.z;simp only[dot];omega
def pu{a:V}(h:dot a a=0):a=zero:=by
 have h1:=oo a.x;have h2:=oo a.y;have h3:=oo a.z;simp only[dot] at h;have b:a.x*a.x=0:=j1
 have c:a.y*a.y=0:=j1
 have d:a.z*a.z=0:=j1
 apply V.ext'<;>simp only[zero]<;>(first|(rcases zcb.1 b with h|h<;>exact h)|(rcases zcb.1 c with h|h<;>exact h)|(rcases zcb.1 d with h|h<;>exact h))
def aW{a:V}(h:a≠zero):0<dot a a:=by
 have:=nO a;rcases z7a this with h1|h1
 ·exact h1
 ·exact z4a (pu h1.symm) h
def T(n u v:V):Int:=dot n (cross u v)
def iC{a b:Int}(d:0<a)(h:0<a*b):0<b:=by
 rcases zHb b 0 with c|c|c
 ·have:=zbb d c;omega
 ·subst c;simp at h
 ·exact c
def oN{a b:Int}(d:0<a)(h:0<=a*b):0<=b:=by
 rcases zDb b 0 with c|c
 ·have:=zbb d c;omega
 ·exact c
def aG{a b:Int}(c:0<a)(h:a*b=0):b=0:=by
 rcases zcb.1 h with h|h
 ·omega
 ·exact h
section plane
variable{n:V}(hn:n≠zero)
include hn
def AI(f:V){u v w:V}(hu:dot n u=0)(a:dot n v=0)(hw:dot n w=0) :
  dot f u*T n v w+dot f v*T n w u+dot f w*T n u v=0:=by
 have h:dot n n*(dot f u*T n v w+dot f v*T n w u+dot f w*T n u v)=0:=by simp only[T,dot,cross] at *;grind
 exact aG (aW hn) h
def ES{f u v w:V}(hu:dot n u=0)(c:dot n v=0)(hw:dot n w=0)(a:0<dot f u)(fv:0<dot f v)(b:0<dot f w)
  (h1:0<=T n u v) (h2:0<=T n v w):0<=T n u w/\(0<T n u v\/0<T n v w->0<T n u w):=by
 have p:=AI hn f hu c hw;have e:T n w u=- T n u w:=by simp only[T,dot,cross];grind
 rw[e] at p;have q:dot f v*T n u w=dot f u*T n v w+dot f w*T n u v:=by have:dot f v*-T n u w=-(dot f v*T n u w):=zKb _ _;omega
 have d:=zdb (zpa a) h2;have g:=zdb (zpa b) h1;refine⟨oN fv j1,λh=>iC fv ?_⟩
 rcases h with h|h
 ·have:=zGa b h;omega
 ·have:=zGa a h;omega
def eG{u v:V}(hu:dot n u=0)(d:dot n v=0)(h:T n u v=0):cross u v=zero:=by
 have hp:=aW hn;have a:dot n n*(cross u v).x=T n u v*n.x:=by simp only[T,dot,cross] at *;grind
 have b:dot n n*(cross u v).y=T n u v*n.y:=by simp only[T,dot,cross] at *;grind
 have c:dot n n*(cross u v).z=T n u v*n.z:=by simp only[T,dot,cross] at *;grind
 rw[h,z5b] at a b c;exact V.ext' (aG hp a) (aG hp b) (aG hp c)
end plane
def AH{u v:V}(h:cross u v=zero)(f:V):smul (dot f u) v=smul (dot f v) u:=by
 have h1:(cross u v).x=0:=by rw[h];rfl
 have h2:(cross u v).y=0:=by rw[h];rfl
 have h3:(cross u v).z=0:=by rw[h];rfl
 simp only[cross] at h1 h2 h3;apply V.ext'<;>simp only[smul,dot]<;>grind
def J9{u v:V}(h:cross u v=zero)(hu:u≠zero)(a:dot v u=dot u u):v=u:=by
 have p:=AH h u;have e:dot u v=dot v u:=by simp only[dot];grind
 have hp:=aW hu;rw[e,a] at p;have b:dot u u*(v.x-u.x)=0:=by have:=zna V.x p;simp only[smul] at this;grind
 have c:dot u u*(v.y-u.y)=0:=by have:=zna V.y p;simp only[smul] at this;grind
 have d:dot u u*(v.z-u.z)=0:=by have:=zna V.z p;simp only[smul] at this;grind
 have:=aG hp b;have:=aG hp c;have:=aG hp d;exact V.ext' j1 j1 j1
theorem iu{α:Type}(φ:α->Int):∀ l:List α,∃ N:Int,0<N/\∀ x∈l,-N<φ x/\φ x<N
 | []=>⟨1,j2,j3⟩
 | a::l=>by
  obtain⟨N,h0,h⟩:=iu φ l;refine⟨N+(φ a).natAbs+1,j1,λx hx=>?_⟩
  rcases zEa.1 hx with rfl|hx
  ·omega
  ·have:=h x hx;omega
def wy(P:Nat->V)(a x:Nat):V:=sub (P x) (P a)
structure Side(n:V)(P:Nat->V)(on:List Nat)(a b:Nat):Prop where
 mem:b∈on
 ne:b≠a
 all:∀ x∈on,0<=T n (wy P a b) (wy P a x)/\(T n (wy P a b) (wy P a x)=0->0<=dot (wy P a x) (wy P a b)/\dot (wy P a x) (wy P a b)<=dot (wy P a b) (wy P a b))
def nu(P:Nat->V)(on:List Nat)(a:Nat):Prop:=∃ f:V,∀ x∈on,x≠a->0<dot f (wy P a x)
structure Flat(n:V)(P:Nat->V)(on:List Nat):Prop where
 nz:n≠zero
 pl:∀ x∈on,∀ y∈on,dot n (wy P x y)=0
 inj:∀ x∈on,∀ y∈on,P x=P y->x=y
section poly
variable{n:V}{P:Nat->V}{on:List Nat}
def rZ(h:Flat n P on){a b:Nat}(i:a∈on)(j:b∈on)(c:b≠a):wy P a b≠zero:=λe=>by apply c;apply h.inj b j a i;have d:=zna V.x e;have f:=zna V.y e;have g:=zna V.z e;simp only[wy,sub,zero] at d f g;exact V.ext' j1 j1 j1
def Le{a b c:Nat}(h:wy P a b=wy P a c):P b=P c:=by have d:=zna V.x h;have e:=zna V.y h;have f:=zna V.z h;simp only[wy,sub] at d e f;exact V.ext' j1 j1 j1
def afY(h:Flat n P on){a b c:Nat}(f:a∈on)(d:Side n P on a b)(hc:Side n P on a c):b=c:=by
 have h1:=d.all c hc.mem;have h2:=hc.all b d.mem;have e:T n (wy P a c) (wy P a b)=- T n (wy P a b) (wy P a c):=by simp only[T,dot,cross];grind
 rw[e] at h2;have t0:T n (wy P a b) (wy P a c)=0:=j1
 have j:=h1.2 t0;have k:=h2.2 j1
 have es:dot (wy P a b) (wy P a c)=dot (wy P a c) (wy P a b):=by simp only[dot];grind
 have hx:=eG h.nz (h.pl a f b d.mem) (h.pl a f c hc.mem) t0;have hq:dot (wy P a b) (wy P a b)*dot (wy P a c) (wy P a c)=dot (wy P a c) (wy P a b)*dot (wy P a c) (wy P a b):=by have p:=AH hx (wy P a b);have m:=zna V.x p;have o:=zna V.y p;have q:=zna V.z p;simp only[smul] at m o q;simp only[dot] at *;grind
 have l:=aW (rZ h f d.mem d.ne);have g:=aW (rZ h f hc.mem hc.ne);have hle:dot (wy P a c) (wy P a b)=dot (wy P a b) (wy P a b):=by
  generalize dot (wy P a b) (wy P a b)=B at *;generalize dot (wy P a c) (wy P a c)=C at *;generalize dot (wy P a c) (wy P a b)=X at *;rw[es] at k;rcases z7a j.2 with i|heq
  ·exfalso;have:X*X<B*C:=by
    have a1:X*X<=X*C:=zla k.2 j.1;have a2:X*C<B*C:=Int.mul_lt_mul_of_pos_right i g;omega
   omega
  ·exact heq
 have:=J9 hx (rZ h f d.mem d.ne) hle;exact(h.inj c hc.mem b d.mem (Le this)).symm
def Side.ext(h:Flat n P on){a b:Nat}(d:a∈on)(c:Side n P on a b):nu P on b:=by
 obtain⟨N,m,l⟩:=iu (λx=>dot (wy P b a) (wy P b x)) on;refine⟨add (smul N (cross n (wy P a b))) (wy P b a),λx hx g=>?_⟩;have e:dot (add (smul N (cross n (wy P a b))) (wy P b a)) (wy P b x)=N*T n (wy P a b) (wy P a x)+dot (wy P b a) (wy P b x):=by simp only[T,dot,cross,add,smul,wy,sub];grind
 rw[e];obtain⟨h1,h2⟩:=c.all x hx;have h3:=l x hx;rcases z7a h1 with o|heq
 ·have:N*1<=N*T n (wy P a b) (wy P a x):=zla j1 j1
  omega
 ·rw[<-heq,zwb,zCc];have k:=h2 heq.symm;have j:dot (wy P b a) (wy P b x)=dot (wy P a b) (wy P a b)-dot (wy P a x) (wy P a b):=by simp only[dot,wy,sub];grind
  rw[j];rcases z7a k.2 with i|i
  ·omega
  ·exfalso;have f:=eG h.nz (h.pl a d b c.mem) (h.pl a d x hx) heq.symm;exact g (h.inj x hx b c.mem (Le (J9 f (rZ h d c.mem c.ne) i)))
def afD(h:Flat n P on){a x y:Nat}(i:a∈on)(hx:x∈on)(hy:y∈on)(C:nu P on a)(ex:nu P on x)(D:nu P on y)(d:x≠a)(e:y≠a)(ht:T n (wy P a x) (wy P a y)=0):x=y:=by
 by_cases hxy:x=y
 ·exact hxy
 exfalso;obtain⟨f,hf⟩:=C;obtain⟨g,w⟩:=ex;obtain⟨k,hk⟩:=D;have c:=eG h.nz (h.pl a i x hx) (h.pl a i y hy) ht;have p:=AH c f;have E:=hf x hx d;have v:=hf y hy e;have g1:=w a i (Ne.symm d);have g2:=w y hy (Ne.symm hxy);have G:=hk a i (Ne.symm e);have H:=hk x hx hxy;have K:dot f (wy P a x)*dot g (wy P a y)=dot f (wy P a y)*dot g (wy P a x):=by have s:=zna V.x p;have t:=zna V.y p;have u:=zna V.z p;simp only[smul] at s t u;generalize dot f (wy P a x)=A at *;generalize dot f (wy P a y)=B at *;simp only[dot];grind
 have I:dot f (wy P a x)*dot k (wy P a y)=dot f (wy P a y)*dot k (wy P a x):=by have s:=zna V.x p;have t:=zna V.y p;have u:=zna V.z p;simp only[smul] at s t u;generalize dot f (wy P a x)=A at *;generalize dot f (wy P a y)=B at *;simp only[dot];grind
 have j:dot g (wy P x a)=- dot g (wy P a x):=by simp only[dot,wy,sub];grind
 have l:dot g (wy P x y)=dot g (wy P a y)-dot g (wy P a x):=by simp only[dot,wy,sub];grind
 have m:dot k (wy P y a)=- dot k (wy P a y):=by simp only[dot,wy,sub];grind
 have o:dot k (wy P y x)=dot k (wy P a x)-dot k (wy P a y):=by simp only[dot,wy,sub];grind
 rw[j] at g1;rw[l] at g2;rw[m] at G;rw[o] at H;generalize dot f (wy P a x)=A at *;generalize dot f (wy P a y)=B at *;generalize dot g (wy P a x)=gx at *;generalize dot g (wy P a y)=F at *;generalize dot k (wy P a x)=r at *;generalize dot k (wy P a y)=b at *;have r1:B<A:=by
  rcases zDb B A with q|q
  ·exact q
  ·exfalso;have s1:B*gx<=A*gx:=by
    have:=z6b q (show 0<=-gx by omega)
    simp only[zKb] at this;omega
   have s2:A*gx<A*F:=zyb j1 E
   omega
 have L:A*b<B*b:=by
  have J:B*b<B*r:=zyb j1 v
  have M:A*b=B*r:=I;have N:A*b<=B*b:=by
   have:=z6b (zpa r1) (show 0<=-b by omega)
   simp only[zKb] at this;omega
  omega
 have J:B*b<B*r:=zyb j1 v
 omega
def T6(a x y:Nat):T n (wy P x y) (wy P x a)=T n (wy P a x) (wy P a y):=by simp only[T,dot,cross,wy,sub];grind
def KQ(u v:V):T n v u=- T n u v:=by simp only[T,dot,cross];grind
def Side.after(h:Flat n P on){a x y:Nat}(d:a∈on)(hx:x∈on)(e:nu P on a)(ex:nu P on x)(b:x≠a)(hs:Side n P on x y)(c:y≠a):0<T n (wy P a x) (wy P a y):=by
 have h1:=(hs.all a d).1;rw[T6] at h1;rcases z7a h1 with h2|h2
 ·exact h2
 ·exact z4a (afD h d hx hs.mem e ex (hs.ext h hx) b c h2.symm) hs.ne.symm
def NA(h:Flat n P on){a x y z:Nat}(i:a∈on)(hx:x∈on)(b:z∈on)(hs:Side n P on x y)(o:nu P on z)(h1:0<T n (wy P a x) (wy P a z))(h2:0<T n (wy P a z) (wy P a y)):False:=by
 obtain⟨f,hf⟩:=o;have c:a≠z:=λe=>by subst e;simp[T,dot,cross,wy,sub] at h2
 have d:x≠z:=λe=>by
  subst e;have:T n (wy P a x) (wy P a x)=0:=by simp only[T,dot,cross];grind
  omega
 have g:y≠z:=λe=>by
  subst e;have:T n (wy P a y) (wy P a y)=0:=by simp only[T,dot,cross];grind
  omega
 have f1:=hf a i c;have f2:=hf x hx d;have f3:=hf y hs.mem g;have h3:=(hs.all z b).1;have e:dot n n*(T n (wy P x y) (wy P x z)*dot f (wy P z a)+T n (wy P a z) (wy P a y)*dot f (wy P z x)+T n (wy P a x) (wy P a z)*dot f (wy P z y))=0:=by
  have p:=h.pl z b a i;have q:=h.pl z b x hx;have r:=h.pl z b y hs.mem;have k:T n (wy P x y) (wy P x z)=T n (wy P z x) (wy P z y):=T6 z x y;have l:T n (wy P a z) (wy P a y)=T n (wy P z y) (wy P z a):=by simp only[T,dot,cross,wy,sub];grind
  have m:T n (wy P a x) (wy P a z)=T n (wy P z a) (wy P z x):=by simp only[T,dot,cross,wy,sub];grind
  rw[k,l,m];have j:=AI h.nz f p q r;rw[zMa (dot f (wy P z a)),zMa (dot f (wy P z x)),zMa (dot f (wy P z y))] at j;rw[show T n (wy P z x) (wy P z y)*dot f (wy P z a)+T n (wy P z y) (wy P z a)*dot f (wy P z x)+T n (wy P z a) (wy P z x)*dot f (wy P z y)=0 from j,zwb]
 have s:=aG (aW h.nz) e;have m1:=zdb h3 (zpa f1);have m2:=zGa h2 f2;have m3:=zGa h1 f3;omega
theorem yi{α:Type}{p q:α->Bool}:∀ {l:List α},(∀ x∈l,p x=true->q x=true)->(∃ y∈l,q y=true/\p y=false)->l.countP p<l.countP q
 | [],_,h=>by obtain⟨y,hy,_⟩:=h;cases hy
 | a::l,h,hy=>by
  have hl:l.countP p<=l.countP q:=by have b:∀ x∈l,p x=true->q x=true:=λx hx=>h x (zoa _ hx);exact List.countP_mono_left b
  have c:=h a zva;rw[List.countP_cons,List.countP_cons];obtain⟨y,hm,hq,hp⟩:=hy;rcases zEa.1 hm with rfl|hm
  ·simp[hq,hp];omega
  ·have:=yi (l:=l) (λx hx=>h x (zoa _ hx)) ⟨y,hm,hq,hp⟩;cases hpa:p a
   ·simp;omega
   ·simp[c hpa];omega
inductive Chain(S:Nat->Nat->Prop)(a₀:Nat):Nat->List Nat->Prop
 | done {c:Nat}:S c a₀->Chain S a₀ c [c]
 | step {c y:Nat} {l:List Nat}:S c y->y≠a₀->Chain S a₀ y l->Chain S a₀ c (c::l)
def walk(h:Flat n P on){a:Nat}(q:a∈on)(D:nu P on a)(k:∀ c∈on,nu P on c->∃ b,Side n P on c b){c:Nat}(hc:c∈on)(r:nu P on c)(j:c≠a) :
  ∃ l,Chain (Side n P on) a c l/\(∀ z∈l,z∈on/\nu P on z/\z≠a/\(z=c\/0<T n (wy P a c) (wy P a z)))/\(∀ z∈on,nu P on z->z≠a->0<T n (wy P a c) (wy P a z)->z∈l) ∧
   l.Pairwise (λx y=>0<T n (wy P a x) (wy P a y)):=by
 generalize hm:on.countP (λz=>decide (0<T n (wy P a c) (wy P a z)))=m
 induction m using Nat.strongRecOn generalizing c with
 | _ m ih=>
  obtain⟨y,hy⟩:=k c hc r;obtain⟨f,hf⟩:=D;by_cases hya:y=a
  ·subst hya;refine⟨[c],.done hy,λz d=>?_,λz d s i ht=>?_,j3⟩
   ·rw[zKa] at d;subst d;exact⟨hc,r,j,.inl rfl⟩
   ·have h1:=(hy.all z d).1;have e:T n (wy P c y) (wy P c z)=- T n (wy P y c) (wy P y z):=by simp only[T,dot,cross,wy,sub];grind
    omega
  ·have g:=Side.after h q hc ⟨f,hf⟩ r j hy hya;have v:=hy.ext h hc;have tr:∀ z∈on,0<T n (wy P a y) (wy P a z)->0<T n (wy P a c) (wy P a z):=λz d ht=>by
    have i:z≠a:=λe=>by
     subst e;have:T n (wy P z y) (wy P z z)=0:=by simp[T,dot,cross,wy,sub]
     omega
    exact(ES h.nz (h.pl a q c hc) (h.pl a q y hy.mem) (h.pl a q z d) (hf c hc j) (hf y hy.mem hya) (hf z d i) (zpa g) (zpa ht)).2 (.inl g)
   have p:T n (wy P a y) (wy P a y)=0:=by simp only[T,dot,cross];grind
   obtain⟨l,w,A,F,G⟩:=ih _ (by rw[<-hm];refine yi (λz d ht=>by simp only[zfa] at ht ⊢;exact tr z d ht) ⟨y,hy.mem,by simpa using g,by simp[p]⟩) hy.mem v hya rfl
   refine⟨c::l,.step hy hya w,λz d=>?_,λz d s i ht=>?_,zOa.2 ⟨λz d=>?_,G⟩⟩
   ·rcases zEa.1 d with rfl|d
    ·exact⟨hc,r,j,.inl rfl⟩
    ·obtain⟨t,B,C,o⟩:=A z d;refine⟨t,B,C,.inr ?_⟩;rcases o with rfl|o
     ·exact g
     ·exact tr z t o
   ·rcases zHb (T n (wy P a y) (wy P a z)) 0 with E|heq|u
    ·have e:=KQ (n:=n) (wy P a y) (wy P a z);exact(NA h q hc d hy s ht j1).elim
    ·have:=afD h q hy.mem d ⟨f,hf⟩ v s hya i heq;subst this;have:y∈l:=by cases w<;>exact zva
     exact zoa _ this
    ·exact zoa _ (F z d s i u)
   ·obtain⟨t,B,C,o⟩:=A z d;rcases o with rfl|o
    ·exact g
    ·exact tr z t o
def sD(n:V)(P:Nat->V)(a b k:Nat):Bool:=
 decide (T n (wy P a b) (wy P a k)<0)||(decide (T n (wy P a b) (wy P a k)=0)&&decide (dot (wy P a b) (wy P a b)<dot (wy P a k) (wy P a k)))
def dL(n:V)(P:Nat->V)(a:Nat)(best:Option Nat)(k:Nat):Option Nat:=
 if k=a then best else match best with
  | none=>some k
  | some b=>if sD n P a b k then some k else some b
theorem uh(h:Flat n P on){a:Nat}(j:a∈on)(t:nu P on a):∀ (l pre:List Nat) (best:Option Nat),(∀ x∈pre,x∈on)->(∀ x∈l,x∈on) ->
  (match best with
   | none=>∀ x∈pre,x=a
   | some b=>b∈pre/\b≠a/\∀ x∈pre,x≠a->0<T n (wy P a b) (wy P a x)\/(T n (wy P a b) (wy P a x)=0/\dot (wy P a x) (wy P a x)<=dot (wy P a b) (wy P a b))) ->
  match l.foldl (dL n P a) best with
   | none=>∀ x∈pre++l,x=a
   | some b=>b∈pre++l/\b≠a/\∀ x∈pre++l,x≠a->0<T n (wy P a b) (wy P a x)\/(T n (wy P a b) (wy P a x)=0/\dot (wy P a x) (wy P a x)<=dot (wy P a b) (wy P a b))
 | [],pre,best,_,_,e=>by simpa using e
 | k::l,pre,best,h1,h2,e=>by
  rw[zLc];have hk:k∈on:=h2 k zva;rw[show pre++k::l=(pre++[k])++l by simp]
  refine uh h j t l (pre++[k]) _ (λx hx=>?_) (λx hx=>h2 x (zoa _ hx)) ?_
  ·rcases List.mem_append.1 hx with hx|hx
   ·exact h1 x hx
   ·rw[zKa] at hx;exact hx ▸ hk
  unfold dL;by_cases hka:k=a
  ·rw[zja hka];subst hka;cases best with
   | none=>
    simp only at e ⊢;intro x hx;rcases List.mem_append.1 hx with hx|hx
    ·exact e x hx
    ·exact zKa.1 hx
   | some b=>
    simp only at e ⊢;refine⟨List.mem_append_left _ e.1,e.2.1,λx hx d=>?_⟩;rcases List.mem_append.1 hx with hx|hx
    ·exact e.2.2 x hx d
    ·exact z4a (zKa.1 hx) d
  ·rw[zia hka];cases best with
   | none=>
    simp only at e ⊢;refine⟨zPa _ (zKa.2 rfl),hka,λx hx d=>?_⟩;rcases List.mem_append.1 hx with hx|hx
    ·exact z4a (e x hx) d
    ·rw[zKa.1 hx];right;exact⟨by simp only[T,dot,cross];grind,zoc _⟩
   | some b=>
    simp only at e ⊢;obtain⟨q,r,s⟩:=e;have g:=h1 b q;obtain⟨f,hf⟩:=t;by_cases hbt:sD n P a b k=true
    ·rw[zja hbt];simp only;refine⟨zPa _ (zKa.2 rfl),hka,λx hx d=>?_⟩;have v:=KQ (n:=n) (wy P a b) (wy P a k);simp only[sD,zmc,zaa,zfa] at hbt;rcases List.mem_append.1 hx with hx|hx
     ·have i:=h1 x hx;have c:=s x hx d;have o:0<=T n (wy P a k) (wy P a b):=j1
      have p:0<=T n (wy P a b) (wy P a x):=j1
      obtain⟨t1,t2⟩:=ES h.nz (h.pl a j k hk) (h.pl a j b g) (h.pl a j x i) (hf k hk hka) (hf b g r) (hf x i d) o p;rcases z7a t1 with m|heq
      ·exact .inl m
      ·right;refine⟨heq.symm,?_⟩;have:¬ (0<T n (wy P a k) (wy P a b)\/0<T n (wy P a b) (wy P a x)):=λu=>by have:=t2 u;omega
       omega
     ·rw[zKa.1 hx];right;exact⟨by simp only[T,dot,cross];grind,zoc _⟩
    ·rw[zia hbt];simp only;refine⟨List.mem_append_left _ q,r,λx hx d=>?_⟩;rcases List.mem_append.1 hx with hx|hx
     ·exact s x hx d
     ·rw[zKa.1 hx];simp only[sD,zmc,zaa,zfa] at hbt;omega
def y9(h:Flat n P on){a:Nat}(l:a∈on)(t:nu P on a)(h2:∃ x∈on,x≠a):∃ b,on.foldl (dL n P a) none=some b/\Side n P on a b:=by
 have key:=uh h l t on [] none j3 (λx hx=>hx) j3
 cases hr:on.foldl (dL n P a) none with
 | none=> rw[hr] at key;obtain⟨x,hx,d⟩:=h2;exact z4a (key x (by simpa using hx)) d
 | some b=>
  rw[hr] at key;simp only[zlc] at key;obtain⟨m,o,w⟩:=key;refine⟨b,rfl,m,o,λx hx=>?_⟩;by_cases d:x=a
  ·subst d;have e:wy P x x=zero:=by simp[wy,sub,zero]
   have:T n (wy P x b) (wy P x x)=0:=by rw[e];simp[T,dot,cross,zero]
   have hp:=nO (wy P x b);have u:dot (wy P x x) (wy P x b)=0:=by rw[e];simp[dot,zero]
   rw[this,u];exact⟨zoc _,λ_=>⟨zoc _,hp⟩⟩
  ·have c:=w x hx d;refine⟨j1,λt0=>?_⟩
   have c2:dot (wy P a x) (wy P a x)<=dot (wy P a b) (wy P a b):=j1
   obtain⟨f,hf⟩:=t;have k:=eG h.nz (h.pl a l b m) (h.pl a l x hx) t0;have p:=AH k f;have fb:=hf b m o;have v:=hf x hx d;have i:=aW (rZ h l m o);have C:dot f (wy P a b)*dot (wy P a x) (wy P a b)=dot f (wy P a x)*dot (wy P a b) (wy P a b):=by have q:=zna V.x p;have r:=zna V.y p;have s:=zna V.z p;simp only[smul] at q r s;generalize dot f (wy P a b)=A at *;generalize dot f (wy P a x)=B at *;simp only[dot];grind
   have g:0<dot (wy P a x) (wy P a b):=iC fb (by rw[C];exact zGa v i)
   refine⟨zpa g,?_⟩;have E:dot (wy P a b) (wy P a b)*dot (wy P a x) (wy P a x)=dot (wy P a x) (wy P a b)*dot (wy P a x) (wy P a b):=by have p:=AH k (wy P a b);have q:=zna V.x p;have r:=zna V.y p;have s:=zna V.z p;simp only[smul] at q r s;simp only[dot] at *;grind
   generalize dot (wy P a b) (wy P a b)=B at *;generalize dot (wy P a x) (wy P a x)=X at *;generalize dot (wy P a x) (wy P a b)=D at *;rcases zDb B D with j|hle
   ·exfalso;have a1:B*X<=B*B:=zla c2 (zpa i);have a2:B*B<B*D:=zyb j i;have a3:B*D<D*D:=Int.mul_lt_mul_of_pos_right j g;omega
   ·exact hle
end poly
open V
def aM(a b:V):Prop:=a.x<b.x\/a.x=b.x/\(a.y<b.y\/a.y=b.y/\a.z<b.z)
def GT{P:Nat->V}{on:List Nat}{a:Nat}(h:∀ x∈on,x≠a->aM (P a) (P x)):nu P on a:=by
 obtain⟨N1,o,j⟩:=iu (λx=>(wy P a x).y) on;obtain⟨N2,p,k⟩:=iu (λx=>(wy P a x).z) on;refine⟨⟨(N1+N2)*(N1+N2)+(N1+N2),N1+N2,1⟩,λx hx i=>?_⟩;have c1:=j x hx;have c2:=k x hx;have hl:=h x hx i;simp only[wy,sub,aM,dot] at *;generalize hX:(P x).x-(P a).x=X at *;generalize hY:(P x).y-(P a).y=Y at *;generalize hZ:(P x).z-(P a).z=Z at *;generalize hN:N1+N2=N;have b:0<N:=j1
 have f:-N+1<=Y:=j1
 have m:Y<=N-1:=j1
 have n:-N+1<=Z:=j1
 have m1:N*(-N+1)<=N*Y:=zla f (zpa b);have m2:N*(-N+1)=-(N*N)+N:=x6
 have l:0<N*N:=zGa b b;rcases hl with hl|⟨h1,hl|⟨h2,hl⟩⟩
 ·have d:1<=X:=j1
  have m3:(N*N+N)*1<=(N*N+N)*X:=zla d j1
  omega
 ·have c:X=0:=j1
  have g:1<=Y:=j1
  have m3:N*1<=N*Y:=zla g j1
  subst c;simp only[zwb];omega
 ·have c:X=0:=j1
  have e:Y=0:=j1
  subst c;subst e;simp only[zwb];omega
section poly
variable{n:V}{P:Nat->V}{on:List Nat}
def Chain.head{S:Nat->Nat->Prop}{a c:Nat}{l:List Nat}(h:Chain S a c l):∃ l',l=c::l':=by cases h<;>exact⟨_,rfl⟩
theorem Chain.pairs{S:Nat->Nat->Prop}{a:Nat}:∀ {c:Nat} {l:List Nat},Chain S a c l->∀ i x,l[i]?=some x->∃ y,(l++[a])[i+1]?=some y/\S x y
 | c,_,.done h,i,x,hx=>by
  cases i with
  | zero=>simp at hx;subst hx;exact⟨a,j3,h⟩
  | succ i=>simp at hx
 | c,_,.step (y:=y) (l:=l) h hne k,i,x,hx=>by
  cases i with
  | zero=> simp at hx;subst hx;obtain⟨l',rfl⟩:=k.head;exact⟨y,j3,h⟩
  | succ i=>
   obtain⟨z,h1,h2⟩:=Chain.pairs k i x (by simpa using hx)
   exact⟨z,by simpa using h1,h2⟩
def Eg(h:Flat n P on){a:Nat}(g:a∈on)(i:nu P on a)(h3:∀ c∈on,∃ x∈on,x≠c) :
  ∃ l,Chain (Side n P on) a a l/\l.Nodup/\(∀ z∈l,z∈on/\nu P on z)/\∀ z∈on,nu P on z->z∈l:=by
 have d:∀ c∈on,nu P on c->∃ b,Side n P on c b:=λc hc j=>by obtain⟨b,_,p⟩:=y9 h hc j (h3 c hc);exact⟨b,p⟩
 obtain⟨c,hs⟩:=d a g i;have j:=hs.ext h g;obtain⟨l,o,k,r,s⟩:=walk h g i d hs.mem j hs.ne;refine⟨a::l,.step hs hs.ne o,List.nodup_cons.2 ⟨λhm=>(k a hm).2.2.1 rfl,?_⟩,λz f=>?_,λz f m=>?_⟩
 ·refine List.Pairwise.imp (λ{x y} q e=>?_) s;subst e;have:T n (wy P a x) (wy P a x)=0:=by simp only[T,dot,cross];grind
  omega
 ·rcases zEa.1 f with rfl|f
  ·exact⟨g,i⟩
  ·exact⟨(k z f).1,(k z f).2.1⟩
 ·by_cases hza:z=a
  ·subst hza;exact zva
  ·refine zoa _ ?_;have h0:=(hs.all z f).1;rcases z7a h0 with hp|he
   ·exact r z f m hza hp
   ·have:=afD h g hs.mem f i j m hs.ne hza he.symm;subst this;obtain⟨l',rfl⟩:=o.head;exact zva
end poly
def sg(x:Int):Int:=if x<0 then -1 else if 0<x then 1 else 0
def xd(a b:Int):sg a*sg b=sg (a*b):=by
 rcases zHb a 0 with h|h|h<;>rcases zHb b 0 with k|k|k
 ·have:=zTb h k;simp[sg,h,k,this,zWb.2 (zpa this)]
 ·subst k;simp[sg]
 ·have:=zVc h k;simp[sg,h,k,this,zWb.2 (zpa k)]
 ·subst h;simp[sg]
 ·subst h;simp[sg]
 ·subst h;simp[sg]
 ·have:=zbb h k;simp[sg,h,k,this,zWb.2 (zpa h)]
 ·subst k;simp[sg]
 ·have:=zGa h k;simp[sg,h,k,this,zWb.2 (zpa h),zWb.2 (zpa k),zWb.2 (zpa this)]
def gT{x:Int}(h:0<x):sg x=1:=by simp[sg,h,zWb.2 (zpa h)]
def xe{x:Int}(h:x<0):sg x=-1:=by simp[sg,h]
def yK(n c:V):Int:=if n.x≠0 then sg n.x*sg c.x else if n.y≠0 then sg n.y*sg c.y else if n.z≠0 then sg n.z*sg c.z else 0
def xf{a b p:Int}(hp:0<p){q:Int}(hq:0<q)(h:a*p=q*b):sg a=sg b:=by
 have h1:sg (a*p)=sg a:=by rw[<-xd,gT hp];simp
 have h2:sg (q*b)=sg b:=by rw[<-xd,gT hq];simp
 rw[<-h1,<-h2,h]
def FD{n c:V}(hn:n≠zero)(h:cross n c=zero):yK n c=sg (dot n c):=by
 have h1:=zna V.x h;have h2:=zna V.y h;have h3:=zna V.z h;simp only[cross,zero] at h1 h2 h3;have hp:=aW hn;have a:n.x*c.x*dot n n=n.x*n.x*dot n c:=by simp only[dot];grind
 have b:n.y*c.y*dot n n=n.y*n.y*dot n c:=by simp only[dot];grind
 have d:n.z*c.z*dot n n=n.z*n.z*dot n c:=by simp only[dot];grind
 unfold yK;split
 ·rename_i k;rw[xd];exact xf hp (A6 k) a
 ·split
  ·rename_i k;rw[xd];exact xf hp (A6 k) b
  ·split
   ·rename_i k;rw[xd];exact xf hp (A6 k) d
   ·rename_i e f g;exact z4a (V.ext' (by simpa [zero] using e) (by simpa [zero] using f) (by simpa [zero] using g)) hn
def ff{n u v:V}(hu:dot n u=0)(a:dot n v=0):cross n (cross u v)=zero:=by simp only[dot] at hu a;apply V.ext'<;>simp only[cross,zero]<;>grind
open V
def bD(P:Nat->V)(N:Nat)(n:V)(d:Int):List Nat:=(List.range N).filter λk=>decide (dot n (P k)=d)
def Du(P:Nat->V)(N:Nat)(n:V)(d:Int):Prop:=(∀ k,k<N->dot n (P k)<=d)/\∃ k,k<N/\dot n (P k)<d
def dA(P:Nat->V)(i j k:Nat):V:=cross (wy P i j) (wy P i k)
def br(v:V):Nat:=Nat.gcd (Nat.gcd v.x.natAbs v.y.natAbs) v.z.natAbs
def aR(v:V):V:=⟨v.x/br v,v.y/br v,v.z/br v⟩
structure IsF(P:Nat->V)(N:Nat)(n:V)(d:Int):Prop where
 ex:∃ i j k,i<j/\j<k/\k<N/\dA P i j k≠zero/\(n=aR (dA P i j k)\/n=neg (aR (dA P i j k)))/\d=dot n (P i)
 supp:Du P N n d
def fD{v:V}(h:v≠zero):0<br v:=by
 rcases zNb (br v) with e|p
 ·exfalso;unfold br at e;rw[Nat.gcd_eq_zero_iff,Nat.gcd_eq_zero_iff] at e;exact h (V.ext' (by simp[zero];omega) (by simp[zero];omega) (by simp[zero];omega))
 ·exact p
def ge(v:V):v=smul (br v) (aR v):=by
 have d1:(br v:Int) ∣ v.x:=z6a.2 (zkd (ztb _ _) (ztb _ _));have d2:(br v:Int) ∣ v.y:=z6a.2 (zkd (ztb _ _) (zQb _ _));have d3:(br v:Int) ∣ v.z:=z6a.2 (zQb _ _);apply V.ext'
 ·exact(zId d1).symm
 ·exact(zId d2).symm
 ·exact(zId d3).symm
def s8(k:Nat)(v:V):br (smul k v)=k*br v:=by simp only[br,smul,zLa,zsa];rw[Nat.gcd_mul_left,Nat.gcd_mul_left]
def jB{v:V}(h:v≠zero):br (aR v)=1:=by have p:=fD h;have e:=s8 (br v) (aR v);rw[<-ge v] at e;exact(Nat.eq_of_mul_eq_mul_left p j1).symm
def q8(v:V):br (neg v)=br v:=by simp[br,neg]
def CN(v:V):aR (neg v)=neg (aR v):=by have e:=ge v;unfold aR;rw[q8];have d1:(br v:Int) ∣ v.x:=z6a.2 (zkd (ztb _ _) (ztb _ _));have d2:(br v:Int) ∣ v.y:=z6a.2 (zkd (ztb _ _) (zQb _ _));have d3:(br v:Int) ∣ v.z:=z6a.2 (zQb _ _);simp only[neg,z3c d1,z3c d2,z3c d3]
def ve{v:V}(h:v≠zero):aR v≠zero:=λe=>h (by rw[ge v,e];apply V.ext'<;>simp[smul,zero])
def n7{u v:V}(hu:br u=1)(i:br v=1){a b:Int}(f:0<a)(g:0<b)(h:smul a u=smul b v):u=v:=by
 obtain⟨a,rfl⟩:=zEc (zpa f);obtain⟨b,rfl⟩:=zEc (zpa g);have e:=s8 a u;have d:=s8 b v;rw[h,d,hu,i] at e;have:a=b:=j1
 subst this;have h1:=zna V.x h;have h2:=zna V.y h;have h3:=zna V.z h;simp only[smul] at h1 h2 h3;have c:(a:Int)≠0:=j1
 exact V.ext' (Int.eq_of_mul_eq_mul_left c h1) (Int.eq_of_mul_eq_mul_left c h2) (Int.eq_of_mul_eq_mul_left c h3)
section
variable{P:Nat->V}{N:Nat}
def IsF.nz{n:V}{d:Int}(h:IsF P N n d):n≠zero/\br n=1:=by
 obtain⟨i,j,k,_,_,_,h1,h2|h2,_⟩:=h.ex
 ·subst h2;exact⟨ve h1,jB h1⟩
 ·subst h2;refine⟨λe=>ve h1 ?_,by rw[q8];exact jB h1⟩
  have a:=zna V.x e;have b:=zna V.y e;have c:=zna V.z e;simp only[neg,zero] at a b c;exact V.ext' (by simp only[zero];omega) (by simp only[zero];omega) (by simp only[zero];omega)
def aD{n:V}{d:Int}{k:Nat}:k∈bD P N n d↔k<N/\dot n (P k)=d:=by simp[bD]
theorem bF(n:V)(i k:Nat):dot n (wy P i k)=dot n (P k)-dot n (P i):=by simp only[dot,wy,sub];grind
def IsF.three{n:V}{d:Int}(h:IsF P N n d):∃ i j k,i<j/\j<k/\k<N/\i∈bD P N n d/\j∈bD P N n d/\k∈bD P N n d/\dA P i j k≠zero:=by
 obtain⟨i,j,k,a,b,hk,h1,h2,h3⟩:=h.ex;have g:=fD h1;have e:=ge (dA P i j k);have t1:dot (dA P i j k) (wy P i j)=0:=by simp only[dA,dot,cross];grind
 have t2:dot (dA P i j k) (wy P i k)=0:=by simp only[dA,dot,cross];grind
 have key:∀ v:V,dot (dA P i j k) v=0->dot n v=0:=λv c=>by
  rw[e] at c;have:(br (dA P i j k):Int)*dot (aR (dA P i j k)) v=0:=by rw[<-c];simp only[dot,smul];grind
  have h0:=aG j1 this
  rcases h2 with h2|h2
  ·rw[h2];exact h0
  ·rw[h2];have:dot (neg (aR (dA P i j k))) v=- dot (aR (dA P i j k)) v:=by simp only[dot,neg];grind
   omega
 have f:=key _ t1;have l:=key _ t2;rw[bF] at f l;exact⟨i,j,k,a,b,hk,aD.2 ⟨j1,j1⟩,aD.2 ⟨j1,j1⟩,aD.2 ⟨hk,j1⟩,h1⟩
theorem IsF.flat(hl:∀ i j,i<j->j<N->aM (P i) (P j)){n:V}{d:Int}(h:IsF P N n d):Flat n P (bD P N n d):=by
 refine⟨h.nz.1,λx hx y hy=>?_,λx hx y hy e=>?_⟩
 ·have a:=(aD.1 hx).2;have b:=(aD.1 hy).2;rw[bF];omega
 ·have a:=(aD.1 hx).1;have b:=(aD.1 hy).1;rcases zxd x y with c|c|c
  ·have:=hl x y c b;rw[e] at this;simp only[aM] at this;omega
  ·exact c
  ·have:=hl y x c a;rw[e] at this;simp only[aM] at this;omega
def IsF.left(hl:∀ i j,i<j->j<N->aM (P i) (P j)){n:V}{d:Int}(h:IsF P N n d){a b:Nat}(f:a∈bD P N n d)(hs:Side n P (bD P N n d) a b) :
  ∃ x∈bD P N n d,0<T n (wy P a b) (wy P a x):=by
 obtain⟨i,j,k,r,s,hk,p,q,mk,ht⟩:=h.three;have F:=h.flat hl;have key:∀ x∈bD P N n d,0<T n (wy P a b) (wy P a x)\/cross (wy P a b) (wy P a x)=zero:=λx hx=>by
  rcases z7a (hs.all x hx).1 with h1|h1
  ·exact .inl h1
  ·exact .inr (eG F.nz (F.pl a f b hs.mem) (F.pl a f x hx) h1.symm)
 rcases key i p with h1|h1
 ·exact⟨i,p,h1⟩
 rcases key j q with h2|h2
 ·exact⟨j,q,h2⟩
 rcases key k mk with h3|h3
 ·exact⟨k,mk,h3⟩
 exfalso;apply ht;have o:=aW (rZ F f hs.mem hs.ne);have g:=AH h1 (wy P a b);have l:=AH h2 (wy P a b);have m:=AH h3 (wy P a b);have w1:wy P i j=sub (wy P a j) (wy P a i):=by apply V.ext'<;>simp only[wy,sub]<;>omega
 have K:wy P i k=sub (wy P a k) (wy P a i):=by apply V.ext'<;>simp only[wy,sub]<;>omega
 unfold dA;rw[w1,K];generalize wy P a b=e at *;generalize wy P a i=u at *;generalize wy P a j=v at *;generalize wy P a k=w at *;generalize dot e u=A at *;generalize dot e v=B at *;generalize dot e w=C at *;generalize dot e e=D at *;have t:=zna V.x g;have E:=zna V.y g;have G:=zna V.z g;have r1:=zna V.x l;have H:=zna V.y l;have I:=zna V.z l;have s1:=zna V.x m;have s2:=zna V.y m;have J:=zna V.z m;simp only[smul] at t E G r1 H I s1 s2 J;have c:0<D*D:=zGa o o;apply V.ext'<;>simp only[cross,sub,zero]<;>refine aG c ?_<;>grind
theorem far{n e:V}(he:dot n e=0){w:Nat->V}:∀ l:List Nat,l≠[]->(∀ y∈l,dot n (w y)<0)->∃ y∈l,∀ x∈l,0<=dot e (cross (w y) (w x))
 | [],h,_=>z4a rfl h
 | [y],_,hn=>⟨y,zva,λx hx=>by
   rw[zKa.1 hx];have:dot e (cross (w y) (w y))=0:=by simp only[dot,cross];grind
   omega⟩
 | z::g::l,_,hn=>by
  obtain⟨y,hy,a⟩:=far he (g::l) j3 (λy hy=>hn y (zoa _ hy))
  have self:∀ v:V,dot e (cross v v)=0:=λv=>by simp only[dot,cross];grind
  have f:∀ u v:V,dot e (cross v u)=- dot e (cross u v):=λu v=>by simp only[dot,cross];grind
  have pl:∀ x y z:V,dot n x*dot e (cross y z)=dot n z*dot e (cross y x)+dot n y*dot e (cross x z):=λx y z=>by
   have:dot n x*dot e (cross y z)-(dot n z*dot e (cross y x)+dot n y*dot e (cross x z))=dot n e*dot x (cross y z):=by simp only[dot,cross];grind
   rw[he] at this;omega
  rcases zDb (dot e (cross (w y) (w z))) 0 with c|b
  ·refine⟨z,zva,λx hx=>?_⟩;rcases zEa.1 hx with rfl|hx
   ·have:=self (w x);omega
   ·have h1:=a x hx;have h2:=pl (w y) (w z) (w x);have n1:=hn y (zoa _ hy);have n2:=hn z zva;have d:=hn x (zoa _ hx);have h3:=f (w y) (w z);have a1:dot n (w x)*dot e (cross (w z) (w y))<=0:=Int.mul_nonpos_of_nonpos_of_nonneg (zpa d) j1
    have a2:dot n (w z)*dot e (cross (w y) (w x))<=0:=Int.mul_nonpos_of_nonpos_of_nonneg (zpa n2) h1;have a3:0<=(-(dot n (w y)))*dot e (cross (w z) (w x)):=by rw[Int.neg_mul];omega
    exact oN j1 a3
  ·refine⟨y,zoa _ hy,λx hx=>?_⟩;rcases zEa.1 hx with rfl|hx
   ·exact b
   ·exact a x hx
def DU{p q r:Nat}(hp:p<N)(hq:q<N)(u:r<N)(h1:p≠q)(h2:p≠r)(h3:q≠r){m:V}(hm:m=dA P p q r)(hle:∀ x,x<N->dot m (wy P p x)<=0)(d:∃ x,x<N/\dot m (wy P p x)<0) :
  ∃ s,∃ g:Int,0<g/\m=smul g s/\IsF P N s (dot s (P p)):=by
 have f:m≠zero:=λe=>by obtain⟨x,_,hx⟩:=d;rw[e] at hx;simp[dot,zero] at hx
 have A:=fD f;have e:=ge m;refine⟨aR m,br m,j1,e,?_,?_⟩
 ·have perm:∀ i j k,i<j->j<k->k<N->(m=dA P i j k\/m=neg (dA P i j k))->(dot (aR m) (wy P i p)=0)->∃ i j k,i<j/\j<k/\k<N/\dA P i j k≠zero/\(aR m=aR (dA P i j k)\/aR m=neg (aR (dA P i j k)))/\dot (aR m) (P p)=dot (aR m) (P i):=by
   intro i j k n o hk c y;rw[bF] at y;refine⟨i,j,k,n,o,hk,λt=>f ?_,?_,j1⟩
   ·rcases c with c|c
    ·rw[c,t]
    ·rw[c,t];rfl
   ·rcases c with c|c
    ·exact .inl (by rw[c])
    ·exact .inr (by rw[c,CN])
  have l:∀ v:V,dot m v=0->dot (aR m) v=0:=λv z=>by
   have:(br m:Int)*dot (aR m) v=0:=by
    rw[<-z]
    conv=>rhs;rw[e]
    simp only[dot,smul];grind
   exact aG j1 this
  have w:dot (aR m) (wy P p p)=0:=l _ (by simp only[dot,wy,sub];grind)
  have z2:dot (aR m) (wy P q p)=0:=l _ (by rw[hm];simp only[dot,dA,cross,wy,sub];grind)
  have z3:dot (aR m) (wy P r p)=0:=l _ (by rw[hm];simp only[dot,dA,cross,wy,sub];grind)
  rcases Nat.lt_or_gt_of_ne h1 with a1|a1<;>rcases Nat.lt_or_gt_of_ne h2 with a2|a2<;>rcases Nat.lt_or_gt_of_ne h3 with a3|a3
  ·exact perm p q r a1 a3 u (.inl hm) w
  ·exact perm p r q a2 a3 hq (.inr (by rw[hm];apply V.ext'<;>simp only[dA,neg,cross,wy,sub]<;>grind)) w
  ·omega
  ·exact perm r p q a2 a1 hq (.inl (by rw[hm];apply V.ext'<;>simp only[dA,neg,cross,wy,sub]<;>grind)) z3
  ·exact perm q p r a1 a2 u (.inr (by rw[hm];apply V.ext'<;>simp only[dA,neg,cross,wy,sub]<;>grind)) z2
  ·omega
  ·exact perm q r p a3 a2 hp (.inl (by rw[hm];apply V.ext'<;>simp only[dA,neg,cross,wy,sub]<;>grind)) z2
  ·exact perm r q p a3 a1 hp (.inr (by rw[hm];apply V.ext'<;>simp only[dA,neg,cross,wy,sub]<;>grind)) z3
 ·have sc:∀ v:V,dot m v=(br m:Int)*dot (aR m) v:=λv=>by
   conv=>lhs;rw[e]
   simp only[dot,smul];grind
  refine⟨λx hx=>?_,?_⟩
  ·have h:=hle x hx;rw[sc,bF] at h;rcases zDb (dot (aR m) (P p)) (dot (aR m) (P x)) with k|k
   ·have:=zGa (a:=(br m:Int)) (b:=dot (aR m) (P x)-dot (aR m) (P p)) j1 j1
    omega
   ·exact k
  ·obtain⟨x,hx,h⟩:=d;rw[sc,bF] at h;refine⟨x,hx,?_⟩;rcases zDb (dot (aR m) (P x)) (dot (aR m) (P p)) with k|k
   ·exact k
   ·have:=zdb (a:=(br m:Int)) (b:=dot (aR m) (P x)-dot (aR m) (P p)) j1 j1
    omega
end
open V
section
variable{P:Nat->V}{N:Nat}
def DJ(hl:∀ i j,i<j->j<N->aM (P i) (P j)){n:V}{d:Int}(h:IsF P N n d){a b:Nat}(G:a∈bD P N n d)(hs:Side n P (bD P N n d) a b) :
  ∃ f d',IsF P N f d'/\a∈bD P N f d'/\b∈bD P N f d'/\Side f P (bD P N f d') b a:=by
 have F:=h.flat hl;have I:=(aD.1 G).1;have aI:=(aD.1 G).2;have K:=(aD.1 hs.mem).1;have he:dot n (wy P a b)=0:=F.pl a G b hs.mem;obtain⟨l,B,H⟩:=h.left hl G hs;have Q:dot n (wy P a l)=0:=F.pl a G l B;have hle:∀ x,x<N->dot n (wy P a x)<=0:=λx hx=>by rw[bF];have:=h.supp.1 x hx;omega
 have A:=aW F.nz;obtain⟨z,al,hz⟩:=h.supp.2;obtain⟨y,hy,M⟩:=far (w:=wy P a) he ((List.range N).filter λk=>decide (dot n (wy P a k)<0)) (List.ne_nil_of_mem (a:=z) (by simp[al,bF];omega)) (λy hy=>by simpa using(zrb.1 hy).2)
 have ai:y<N:=by simpa using(zrb.1 hy).1
 have C:dot n (wy P a y)<0:=by simpa using(zrb.1 hy).2
 have s:∀ x,x<N->dot n (wy P a x)<0->0<=dot (wy P a b) (cross (wy P a y) (wy P a x)):=λx hx hn=>M x (by simp[hx,hn])
 have o:∀ u v:V,dot n u=0->dot n v=0->∀ y:V,dot n n*dot (cross u v) y=dot n (cross u v)*dot n y:=λu v hu hv y=>by have c:=ff hu hv;have c1:=zna V.x c;have c2:=zna V.y c;have X:=zna V.z c;generalize cross u v=k at *;simp only[cross,zero] at c1 c2 X;simp only[dot];grind
 have S:∀ v:V,dot (cross (wy P a y) (wy P a b)) v=- dot (wy P a b) (cross (wy P a y) v):=λv=>by simp only[dot,cross];grind
 have D:∀ v:V,dot (cross (wy P a y) (wy P a b)) v=dot (cross (wy P a b) v) (wy P a y):=λv=>by simp only[dot,cross];grind
 have E:∀ x∈bD P N n d,dot n n*dot (cross (wy P a y) (wy P a b)) (wy P a x)=T n (wy P a b) (wy P a x)*dot n (wy P a y):=λx hx=>by rw[D];exact o _ _ he (F.pl a G x hx) _
 have an:∀ x,x<N->dot (cross (wy P a y) (wy P a b)) (wy P a x)<=0:=λx hx=>by
  rcases z7a (hle x hx) with k|k
  ·rw[S];have:=s x hx k;omega
  ·have m:x∈bD P N n d:=aD.2 ⟨hx,by rw[bF] at k;omega⟩
   have e:=E x m;have t:=(hs.all x m).1;have:T n (wy P a b) (wy P a x)*dot n (wy P a y)<=0:=Int.mul_nonpos_of_nonneg_of_nonpos t (zpa C);rcases zDb 0 (dot (cross (wy P a y) (wy P a b)) (wy P a x)) with q|q
   ·have:=zGa A q;omega
   ·exact q
 have U:dot (cross (wy P a y) (wy P a b)) (wy P a l)<0:=by
  have e:=E l B;have:T n (wy P a b) (wy P a l)*dot n (wy P a y)<0:=zbb H C;rcases zDb (dot (cross (wy P a y) (wy P a b)) (wy P a l)) 0 with q|q
  ·exact q
  ·have:=zdb (zpa A) q;omega
 have aj:a≠y:=λe=>by subst e;rw[show dot n (wy P a a)=0 by simp only[dot,wy,sub];grind] at C;omega
 have ak:y≠b:=λe=>by subst e;omega
 obtain⟨f,g,hg,hm,hF⟩:=DU (p:=a) (q:=y) (r:=b) I ai K aj (Ne.symm hs.ne) ak rfl an ⟨l,(aD.1 B).1,U⟩;have sc:∀ v:V,dot (cross (wy P a y) (wy P a b)) v=g*dot f v:=λv=>by have:dA P a y b=cross (wy P a y) (wy P a b):=rfl;rw[<-this,hm];simp only[dot,smul];grind
 have L:dot f (wy P a b)=0:=aG hg (by rw[<-sc];simp only[dot,cross];grind)
 have J:a∈bD P N f (dot f (P a)):=aD.2 ⟨I,rfl⟩;have ad:b∈bD P N f (dot f (P a)):=aD.2 ⟨K,by rw[bF] at L;omega⟩
 refine⟨f,_,hF,J,ad,J,Ne.symm hs.ne,λx hx=>?_⟩;have R:=(aD.1 hx).1;have O:dot f (wy P a x)=0:=by rw[bF];have:=(aD.1 hx).2;omega
 have ax:dot (cross (wy P a y) (wy P a b)) (wy P a x)=0:=by rw[sc,O,zwb]
 have tE:T f (wy P b a) (wy P b x)=dot f (cross (wy P a x) (wy P a b)):=by simp only[T,dot,cross,wy,sub];grind
 have dE:dot (wy P b x) (wy P b a)=dot (wy P a b) (wy P a b)-dot (wy P a x) (wy P a b):=by simp only[dot,wy,sub];grind
 have Y:dot (wy P b a) (wy P b a)=dot (wy P a b) (wy P a b):=by simp only[dot,wy,sub];grind
 rw[tE,dE,Y];rcases z7a (hle x R) with k|k
 ·
  have c1:dot (cross (wy P a x) (wy P a b)) (wy P a l)<0:=by
   have e:=o (wy P a b) (wy P a l) he Q (wy P a x);have Z:dot (cross (wy P a x) (wy P a b)) (wy P a l)=dot (cross (wy P a b) (wy P a l)) (wy P a x):=by simp only[dot,cross];grind
   have:T n (wy P a b) (wy P a l)*dot n (wy P a x)<0:=zbb H k;rw[Z];simp only[T] at this;rcases zDb (dot (cross (wy P a b) (wy P a l)) (wy P a x)) 0 with q|q
   ·exact q
   ·have:=zdb (zpa A) q;omega
  have aB:dot f f*dot (cross (wy P a x) (wy P a b)) (wy P a l)=dot f (cross (wy P a x) (wy P a b))*dot f (wy P a l):=by have c:=ff O L;have c1:=zna V.x c;have c2:=zna V.y c;have X:=zna V.z c;generalize cross (wy P a x) (wy P a b)=k at *;simp only[cross,zero] at c1 c2 X;simp only[dot];grind
  have W:=aW hF.nz.1;have n1:dot f (wy P a l)<0:=by
   rw[sc] at U;rcases zDb (dot f (wy P a l)) 0 with q|q
   ·exact q
   ·have:=zdb (zpa hg) q;omega
  have l1:dot f f*dot (cross (wy P a x) (wy P a b)) (wy P a l)<0:=zbb W c1;have pos:0<dot f (cross (wy P a x) (wy P a b)):=by
   rcases zDb 0 (dot f (cross (wy P a x) (wy P a b))) with q|q
   ·exact q
   ·have:=Int.mul_nonneg_of_nonpos_of_nonpos q (zpa n1);omega
  exact⟨zpa pos,λh0=>j1⟩
 ·have m:x∈bD P N n d:=aD.2 ⟨R,by rw[bF] at k;omega⟩
  have e:=E x m;rw[ax,zwb] at e;have t0:T n (wy P a b) (wy P a x)=0:=by
   rcases zcb.1 e.symm with q|q
   ·exact q
   ·omega
  have s2:=(hs.all x m).2 t0;have c0:=eG F.nz he k t0;have:dot f (cross (wy P a x) (wy P a b))=0:=by
   have Z:dot f (cross (wy P a x) (wy P a b))=- dot f (cross (wy P a b) (wy P a x)):=by simp only[dot,cross];grind
   rw[Z,c0];simp[dot,zero]
  rw[this];exact⟨zoc _,λ_=>⟨j1,j1⟩⟩
def I7(hl:∀ i j,i<j->j<N->aM (P i) (P j)){n1 n2:V}{d1 d2:Int}(h1:IsF P N n1 d1)(h2:IsF P N n2 d2){a b:Nat}(h:a∈bD P N n1 d1)(l:a∈bD P N n2 d2)
  (m:Side n1 P (bD P N n1 d1) a b) (t:Side n2 P (bD P N n2 d2) a b):n1=n2:=by
 have F1:=h1.flat hl;have F2:=h2.flat hl;obtain⟨f,C,G⟩:=h1.left hl h m;obtain⟨d,o,w⟩:=h2.left hl l t;have F:dot n1 (wy P a b)=0:=F1.pl a h b m.mem;have J:dot n2 (wy P a b)=0:=F2.pl a l b t.mem;have z1:dot n1 (wy P a f)=0:=F1.pl a h f C;have z2:dot n2 (wy P a d)=0:=F2.pl a l d o;have H:dot n1 (wy P a d)<=0:=by rw[bF];have:=h1.supp.1 d (aD.1 o).1;have:=(aD.1 h).2;omega
 have I:dot n2 (wy P a f)<=0:=by rw[bF];have:=h2.supp.1 f (aD.1 C).1;have:=(aD.1 l).2;omega
 have r:=aW F1.nz;have s:=aW F2.nz;have g:∀ (n u v:V),dot n u=0->dot n v=0->smul (dot n n) (cross u v)=smul (dot n (cross u v)) n:=λn u v hu Q=>by have c:=ff hu Q;have c1:=zna V.x c;have c2:=zna V.y c;have O:=zna V.z c;generalize cross u v=k at *;simp only[cross,zero] at c1 c2 O;apply V.ext'<;>simp only[smul,dot]<;>grind
 have p:∀ (k:Int) (u v:V),dot (smul k u) v=k*dot u v:=λk u v=>by simp only[dot,smul];grind
 have L:dot n1 n1*dot (cross (wy P a b) (wy P a f)) (wy P a d)=T n1 (wy P a b) (wy P a f)*dot n1 (wy P a d):=by have:=zna (λv=>dot v (wy P a d)) (g n1 _ _ F z1);simp only[p] at this;exact this
 have R:dot n2 n2*dot (cross (wy P a b) (wy P a d)) (wy P a f)=T n2 (wy P a b) (wy P a d)*dot n2 (wy P a f):=by have:=zna (λv=>dot v (wy P a f)) (g n2 _ _ J z2);simp only[p] at this;exact this
 have Z:dot (cross (wy P a b) (wy P a d)) (wy P a f)=- dot (cross (wy P a b) (wy P a f)) (wy P a d):=by simp only[dot,cross];grind
 have m1:T n1 (wy P a b) (wy P a f)*dot n1 (wy P a d)<=0:=Int.mul_nonpos_of_nonneg_of_nonpos (zpa G) H;have m2:T n2 (wy P a b) (wy P a d)*dot n2 (wy P a f)<=0:=Int.mul_nonpos_of_nonneg_of_nonpos (zpa w) I;have D0:dot (cross (wy P a b) (wy P a f)) (wy P a d)=0:=by
  rw[Z] at R;generalize dot (cross (wy P a b) (wy P a f)) (wy P a d)=D at *;rcases zHb D 0 with q|q|q
  ·have:=zGa (a:=dot n2 n2) (b:=-D) s j1;omega
  ·exact q
  ·have:=zGa r q;omega
 have n12:dot n1 (wy P a d)=0:=by
  rw[D0,zwb] at L;rcases zcb.1 L.symm with q|q
  ·omega
  ·exact q
 have E:d∈bD P N n1 d1:=aD.2 ⟨(aD.1 o).1,by rw[bF] at n12;have:=(aD.1 h).2;omega⟩
 have c2:=g n2 _ _ J z2;have c1:=g n1 _ _ F n12;have t12:=(m.all d E).1;have ne:T n1 (wy P a b) (wy P a d)≠0:=λe=>by
  have M:=eG F1.nz F n12 e;have:T n2 (wy P a b) (wy P a d)=0:=by simp only[T];rw[M];simp[dot,zero]
  omega
 refine n7 h1.nz.2 h2.nz.2 (a:=T n1 (wy P a b) (wy P a d)*dot n2 n2) (b:=T n2 (wy P a b) (wy P a d)*dot n1 n1) (zGa j1 s) (zGa w r) ?_
 simp only[T] at *;generalize cross (wy P a b) (wy P a d)=K at *;have S:=zna V.x c1;have U:=zna V.y c1;have W:=zna V.z c1;have r1:=zna V.x c2;have X:=zna V.y c2;have Y:=zna V.z c2;generalize dot n1 n1=A at *;generalize dot n2 n2=B at *;generalize dot n1 K=A' at *;generalize dot n2 K=B' at *;simp only[smul] at S U W r1 X Y;apply V.ext'<;>simp only[smul]<;>grind
end
open V
section
variable{n:V}{P:Nat->V}{on:List Nat}
def Side.start(h:Flat n P on){a b:Nat}(d:a∈on)(hs:Side n P on a b):nu P on a:=by
 obtain⟨K,hK,q⟩:=iu (λx=>dot (wy P a b) (wy P a x)) on;refine⟨add (smul K (cross n (wy P a b))) (wy P a b),λx hx g=>?_⟩;have e:dot (add (smul K (cross n (wy P a b))) (wy P a b)) (wy P a x)=K*T n (wy P a b) (wy P a x)+dot (wy P a b) (wy P a x):=by simp only[T,dot,add,smul,cross];grind
 rw[e];obtain⟨h1,h2⟩:=hs.all x hx;have c:=q x hx;rcases z7a h1 with k|k
 ·have:K*1<=K*T n (wy P a b) (wy P a x):=zla j1 (zpa hK)
  omega
 ·rw[<-k,zwb,zCc];obtain⟨r,s⟩:=h2 k.symm;have m:dot (wy P a b) (wy P a x)=dot (wy P a x) (wy P a b):=by simp only[dot];grind
  rw[m];rcases z7a r with p|p
  ·exact p
  ·exfalso;have o:=eG h.nz (h.pl a d b hs.mem) (h.pl a d x hx) k.symm;have f:=AH o (wy P a b);rw[m,<-p] at f;have hp:=aW (rZ h d hs.mem hs.ne);apply rZ h d hx g;have i:=zna V.x f;have j:=zna V.y f;have l:=zna V.z f;simp only[smul,z5b] at i j l;exact V.ext' (aG hp i) (aG hp j) (aG hp l)
end
theorem oS{α:Type}{r:α->α->Prop}(c:∀ a,¬ r a a)(d:∀ a b,r a b->¬ r b a):∀ {l l':List α},l.Pairwise r->l'.Pairwise r->(∀ x,x∈l↔x∈l')->l=l'
 | [],[],_,_,_=>rfl
 | [],b::l',_,_,h=>z4a ((h b).2 zva) j3
 | a::l,[],_,_,h=>z4a ((h a).1 zva) j3
 | a::l,b::l',h1,h2,h=>by
  obtain⟨f,i⟩:=zOa.1 h1;obtain⟨g,j⟩:=zOa.1 h2;have e:a=b:=by
   rcases zEa.1 ((h a).1 zva) with e|m
   ·exact e
   ·rcases zEa.1 ((h b).2 zva) with e|k
    ·exact e.symm
    ·exact z4a (f b k) (d _ _ (g a m))
  subst e;rw[oS c d i j λx=>?_];constructor
  ·intro hx;rcases zEa.1 ((h x).1 (zoa _ hx)) with e|m
   ·subst e;exact z4a (f x hx) (c x)
   ·exact m
  ·intro hx;rcases zEa.1 ((h x).2 (zoa _ hx)) with e|m
   ·subst e;exact z4a (g x hx) (c x)
   ·exact m
def lI(a:V):¬ aM a a:=by simp only[aM];omega
def yL(a b:V):aM a b->¬ aM b a:=by simp only[aM];omega
def nT{a b c:V}:aM a b->aM b c->aM a c:=by simp only[aM];omega
def tq{a b:V}(h:a≠b):aM a b\/aM b a:=by simp only[aM];rcases zHb a.x b.x with h1|h1|h1<;>rcases zHb a.y b.y with h2|h2|h2<;>rcases zHb a.z b.z with h3|h3|h3<;>first|omega|exact z4a (V.ext' h1 h2 h3) h
structure Facets(P:Nat->V)(N:Nat)(L:List (V×Int)):Prop where
 ord:L.Pairwise (λa b=>aM a.1 b.1)
 mem:∀ q,q∈L↔IsF P N q.1 q.2
def Facets.eq{P:Nat->V}{N:Nat}{L L':List (V×Int)}(h:Facets P N L)(c:Facets P N L'):L=L':=
 oS (r:=λa b=>aM a.1 b.1) (λa=>lI a.1) (λa b=>yL a.1 b.1) h.ord c.ord λx=>(h.mem x).trans (c.mem x).symm
section
variable{P:Nat->V}{N:Nat}{n:V}{d:Int}
def afE{d':Int}(h:IsF P N n d)(a:IsF P N n d'):d=d':=by
 obtain⟨i,_,_,f,g,hk,_,_,e⟩:=h.ex;obtain⟨k,_,_,b,c,j,_,_,l⟩:=a.ex;have h1:=h.supp.1 k j1
 have h2:=a.supp.1 i j1
 omega
def bU(P:Nat->V)(N:Nat)(n:V)(d:Int)(l:List Nat):Prop:=∃ a,(bD P N n d).head?=some a/\Chain (Side n P (bD P N n d)) a a l
def J4:(bD P N n d).Pairwise (·<·):=List.Pairwise.sublist List.filter_sublist List.pairwise_lt_range
theorem IsF.head(hl:∀ i j,i<j->j<N->aM (P i) (P j))(h:IsF P N n d):∃ a,(bD P N n d).head?=some a/\a∈bD P N n d/\nu P (bD P N n d) a/\(∀ x∈bD P N n d,a<=x)/\∀ c∈bD P N n d,∃ x∈bD P N n d,x≠c:=by
 obtain⟨i,j,k,o,p,hk,b,g,mk,ht⟩:=h.three;cases hon:bD P N n d with
 | nil=>rw[hon] at b;simp at b
 | cons a l=>
  have f:(a::l).Pairwise (·<·):=by rw[<-hon];exact J4
  rw[zOa] at f;have hle:∀ x∈a::l,a<=x:=λx hx=>by
   rcases zEa.1 hx with e|m
   ·omega
   ·exact zBc (f.1 x m)
  refine⟨a,rfl,zva,GT λx hx q=>?_,hle,λc hc=>?_⟩
  ·have:=hle x hx;rw[<-hon] at hx;exact hl a x j1 (aD.1 hx).1
  ·rw[hon] at b g;by_cases e:i=c
   ·exact⟨j,g,j1⟩
   ·exact⟨i,b,e⟩
def IsF.poly(hl:∀ i j,i<j->j<N->aM (P i) (P j))(h:IsF P N n d) :
  ∃ l,bU P N n d l/\l.Nodup/\∀ z,z∈l↔z∈bD P N n d/\nu P (bD P N n d) z:=by
 obtain⟨a,h1,h2,h3,o,b⟩:=h.head hl;obtain⟨l,c,e,f,g⟩:=Eg (h.flat hl) h2 h3 b;exact⟨l,⟨a,h1,c⟩,e,λz=>⟨f z,λ⟨k,m⟩=>g z k m⟩⟩
def bU.eq(hl:∀ i j,i<j->j<N->aM (P i) (P j))(h:IsF P N n d){l l':List Nat}(k:bU P N n d l)(o:bU P N n d l'):l=l':=by
 obtain⟨a,h1,h2⟩:=k;obtain⟨a',g,m⟩:=o;rw[h1] at g;cases g;obtain⟨b,g1,g2,g3,g4,g5⟩:=h.head hl;rw[h1] at g1;cases g1;have F:=h.flat hl;have key:∀ {c:Nat} {l l':List Nat},c∈bD P N n d->Chain (Side n P (bD P N n d)) a c l->Chain (Side n P (bD P N n d)) a c l'->l=l':=by
  intro c l l' hc q
  induction q generalizing l' with
  | done s=>intro p;cases p with
   | done _=>rfl
   | step s' f _=>exact z4a (afY F hc s' s) f
  | step s f k ih=>intro p;cases p with
   | done s'=>exact z4a (afY F hc s s') f
   | step s' _ o=> have e:=afY F hc s s';subst e;rw[ih s.mem o]
 exact key g2 h2 m
def mC(l:List Nat):List (Nat×Nat):=(List.range l.length).filterMap λk=>if l.getD k 0<l.getD ((k+1)%l.length) 0 then some (l.getD k 0,l.getD ((k+1)%l.length) 0) else none
def bU.next{l:List Nat}(k:bU P N n d l){i:Nat}(h:i<l.length):Side n P (bD P N n d) (l.getD i 0) (l.getD ((i+1)%l.length) 0):=by
 obtain⟨a,h1,h2⟩:=k;obtain⟨l',e⟩:=h2.head;obtain⟨y,b,g⟩:=h2.pairs i (l.getD i 0) (by simp[List.getD,zda h])
 rcases zAa (i+1) l.length with c|c
 ·rw[zBb c] at b;rw[zXa c];simp only[List.getD,b,zZb];exact g
 ·have f:i+1=l.length:=j1
  rw[z2b j1,f,zFd] at b
  simp at b;subst b;rw[f,Nat.mod_self];have:l.getD 0 0=a:=by rw[e];rfl
  rw[this];exact g
def nW{l:List Nat}{a b:Nat}:(a,b)∈mC l↔a<b/\∃ i,i<l.length/\l.getD i 0=a/\l.getD ((i+1)%l.length) 0=b:=by
 simp only[mC,z7c,z0a];constructor
 ·rintro⟨i,d,h⟩;split at h
  ·rename_i c;simp only[zea,Prod.mk.injEq] at h;exact⟨j1,i,d,h.1,h.2⟩
  ·cases h
 ·rintro⟨c,i,d,h1,h2⟩;exact⟨i,d,by rw[h1,h2,zja c]⟩
def vo(P:Nat->V)(N:Nat)(n:V)(d:Int)(a b:Nat):Prop:=a∈bD P N n d/\Side n P (bD P N n d) a b
def afF(hl:∀ i j,i<j->j<N->aM (P i) (P j))(h:IsF P N n d){l:List Nat}(k:bU P N n d l){a b:Nat} :
  (∃ i,i<l.length/\l.getD i 0=a/\l.getD ((i+1)%l.length) 0=b)↔vo P N n d a b:=by
 obtain⟨p,o,q,m⟩:=h.poly hl;have:=bU.eq hl h k o;subst this;constructor
 ·rintro⟨i,c,h1,h2⟩;have s:=k.next c
  rw[h1,h2] at s;refine⟨((m a).1 ?_).1,s⟩;rw[<-h1];simp[List.getD,zda c]
 ·rintro⟨f,s⟩;have hm:=(m a).2 ⟨f,s.start (h.flat hl) f⟩;obtain⟨i,c,e⟩:=z3a hm;have g:l.getD i 0=a:=by simp[List.getD,zda c,e]
  have s2:=k.next c
  rw[g] at s2;exact⟨i,c,g,afY (h.flat hl) f s2 s⟩
def xI{l:List Nat}(h:l.Nodup):(mC l).Nodup:=by
 unfold mC;refine List.Pairwise.filterMap _ (R:=λi j:Nat=>i≠j/\i<l.length/\j<l.length) (S:=λx y=>x≠y) ?_ ?_
 ·intro i j ⟨f,a,b⟩ x hx y hy e;subst e;simp only[Option.ite_none_right_eq_some,zea] at hx hy;have d:l.getD i 0=l.getD j 0:=by have:=zna Prod.fst (hx.2.trans hy.2.symm);exact this
  simp only[List.getD,zda a,zda b,zZb] at d;rcases Nat.lt_or_gt_of_ne f with c|c
  ·exact zRb.1 h i j a b c d
  ·exact zRb.1 h j i b a c d.symm
 ·have:=List.nodup_range (n:=l.length);refine z5c ?_ this;intro i j a b g;exact⟨g,z0a.1 a,z0a.1 b⟩
end
def CK(a b:Nat×Nat):Prop:=a.1<b.1\/a.1=b.1/\a.2<b.2
def dD(L:List (V×Int))(poly:V×Int->List Nat):List (Nat×Nat):=L.flatMap λq=>mC (poly q)
section
variable{P:Nat->V}{N:Nat}
def Do(hl:∀ i j,i<j->j<N->aM (P i) (P j)){L:List (V×Int)}(hL:Facets P N L){poly:V×Int->List Nat}(hp:∀ q∈L,bU P N q.1 q.2 (poly q)){a b:Nat} :
  (a,b)∈dD L poly↔a<b/\∃ n d,IsF P N n d/\vo P N n d a b:=by
 simp only[dD,zUa,nW];constructor
 ·rintro⟨q,hq,c,f⟩;exact⟨c,q.1,q.2,(hL.mem q).1 hq,(afF hl ((hL.mem q).1 hq) (hp q hq)).1 f⟩
 ·rintro⟨c,n,d,hF,e⟩;have hq:=(hL.mem (n,d)).2 hF;exact⟨(n,d),hq,c,(afF hl hF (hp _ hq)).2 e⟩
def xW(hl:∀ i j,i<j->j<N->aM (P i) (P j)){L:List (V×Int)}(hL:Facets P N L){poly:V×Int->List Nat}(hp:∀ q∈L,bU P N q.1 q.2 (poly q)):(dD L poly).Nodup:=by
 unfold dD List.Nodup;rw[List.pairwise_flatMap];refine⟨λq hq=>?_,?_⟩
 ·obtain⟨l,k,m,_⟩:=((hL.mem q).1 hq).poly hl;have:=bU.eq hl ((hL.mem q).1 hq) (hp q hq) k;rw[this];exact xI m
 ·refine z5c ?_ hL.ord;intro q h hq d c x hx y hy e;subst e;obtain⟨a,b⟩:=x;have F:=(hL.mem q).1 hq;have F':=(hL.mem h).1 d;obtain⟨d1,d2⟩:=(afF hl F (hp q hq)).1 (nW.1 hx).2;obtain⟨f,g⟩:=(afF hl F' (hp h d)).1 (nW.1 hy).2;have:=I7 hl F F' d1 f d2 g;rw[this] at c;exact lI _ c
def vQ(hl:∀ i j,i<j->j<N->aM (P i) (P j)){a b:Nat}:(∃ n d,IsF P N n d/\(vo P N n d a b\/vo P N n d b a))↔∃ n d,IsF P N n d/\vo P N n d a b:=by
 constructor
 ·rintro⟨n,d,hF,h|h⟩
  ·exact⟨n,d,hF,h⟩
  ·obtain⟨e,d',h1,h2,h3,c⟩:=DJ hl hF h.1 h.2;exact⟨e,d',h1,h3,c⟩
 ·rintro⟨n,d,hF,h⟩;exact⟨n,d,hF,.inl h⟩
end
end Geo
end
noncomputable section
namespace Sy
open Go Go.Proofs Geo
abbrev I(n:Int):D:=.int .i64 n
def ae(v:V):D:=.st [I v.x,I v.y,I v.z]
def inR(n:Int):Prop:=-9223372036854775808<=n/\n<=9223372036854775807
def jz{n:Int}(h:inR n):IntKind.wrap .i64 n=n:=by
 obtain⟨h1,h2⟩:=h;simp only[IntKind.wrap,IntKind.signed,IntKind.bits];first
  | omega
  | (simp;omega)
def aC{a b:Int}(h:inR (a+b)):afn .add (I a) (I b)=some (I (a+b)):=by simp only[afn,if_true,jz h]
def ct{a b:Int}(h:inR (a-b)):afn .sub (I a) (I b)=some (I (a-b)):=by simp only[afn,if_true,jz h]
def bK{a b:Int}(h:inR (a*b)):afn .mul (I a) (I b)=some (I (a*b)):=by simp only[afn,if_true,jz h]
def am{a b:Int}:afn .lss (I a) (I b)=some (.bool (decide (a<b))):=by simp only[afn,if_true]
def mY{a b:Int}:afn .leq (I a) (I b)=some (.bool (decide (a<=b))):=by simp only[afn,if_true]
def cK{a b:Int}:afn .gtr (I a) (I b)=some (.bool (decide (a>b))):=by simp only[afn,if_true]
def fR{a b:Int}:afn .geq (I a) (I b)=some (.bool (decide (a ≥ b))):=by simp only[afn,if_true]
def lr{a b:Int}(h:b≠0):afn .rem (I a) (I b)=some (I (a.tmod b)):=by simp only[afn,if_true,h,if_false]
def nD{a b:Int}(h:b≠0)(c:inR (a.tdiv b)):afn .quo (I a) (I b)=some (I (a.tdiv b)):=by simp only[afn,if_true,h,if_false,jz c]
def ou{a:Int}(h:inR (-a)):afB .neg (I a)=some (I (-a)):=by simp only[afB,Int.zero_sub,jz h]
def aV{b:Bool}:afB .not (.bool b)=some (.bool (!b)):=rfl
def ac{b:Bool}:D.truth (.bool b)=some b:=rfl
def FK{a b:Int}:D.max2 (I a) (I b)=some (I (max a b)):=by simp only[D.max2];congr 2;split<;>omega
def JP{a b:Int}:D.min2 (I a) (I b)=some (I (min a b)):=by simp only[D.min2];congr 2;split<;>omega
def bY{a b:Int}:D.beq (I a) (I b)=decide (a=b):=by simp[D.beq]
def pS(v:V):D.get (ae v) [0]=some (I v.x):=rfl
def pT(v:V):D.get (ae v) [1]=some (I v.y):=rfl
def pU(v:V):D.get (ae v) [2]=some (I v.z):=rfl
def vS(x y z:Int):D.st [D.int .i64 x,D.int .i64 y,D.int .i64 z]=ae ⟨x,y,z⟩:=rfl
def bd(k:Int)(v:V):Prop:=(-k<=v.x/\v.x<=k)/\(-k<=v.y/\v.y<=k)/\(-k<=v.z/\v.z<=k)
def iX{a b A B:Int}(e:-A<=a/\a<=A)(f:-B<=b/\b<=B):-(A*B)<=a*b/\a*b<=A*B:=by
 have c:0<=A:=j1
 have d:0<=B:=j1
 have h1:(a*b).natAbs<=(A*B).natAbs:=by rw[zLa,zLa];exact z9a j1 j1
 have h2:0<=A*B:=zdb c d;omega
def kR{A B:Int}{u v:V}(hu:bd A u)(a:bd B v):bd (A+B) (u.sub v):=by simp only[bd,V.sub] at *;omega
def sC{A:Int}{u:V}(hu:bd A u):bd A u.neg:=by simp only[bd,V.neg] at *;omega
def jJ{A B:Int}{u v:V}(hu:bd A u)(a:bd B v):bd (2*(A*B)) (V.cross u v):=by have:=iX hu.1 a.1;have:=iX hu.1 a.2.1;have:=iX hu.1 a.2.2;have:=iX hu.2.1 a.1;have:=iX hu.2.1 a.2.1;have:=iX hu.2.1 a.2.2;have:=iX hu.2.2 a.1;have:=iX hu.2.2 a.2.1;have:=iX hu.2.2 a.2.2;simp only[bd,V.cross];omega
def It{A B:Int}{u v:V}(hu:bd A u)(a:bd B v):-(3*(A*B))<=V.dot u v/\V.dot u v<=3*(A*B):=by have:=iX hu.1 a.1;have:=iX hu.2.1 a.2.1;have:=iX hu.2.2 a.2.2;simp only[V.dot];omega
def BT{A B:Int}{u v:V}(hu:bd A u)(a:bd B v)(h:3*(A*B)<=9223372036854775807) :
  inR (u.x*v.x)/\inR (u.y*v.y)/\inR (u.z*v.z)/\inR (u.x*v.x+u.y*v.y)/\inR (u.x*v.x+u.y*v.y+u.z*v.z):=by
 have:=iX hu.1 a.1;have:=iX hu.2.1 a.2.1;have:=iX hu.2.2 a.2.2;simp only[inR];omega
def f101{call:Nat->List D->Option D}{A B:Int}{u v:V}(hu:bd A u)(c:bd B v)(h:3*(A*B)<=9223372036854775807):H1 aU call (ae u) (ae v)=some (I (V.dot u v)):=by obtain⟨h1,h2,h3,a,b⟩:=BT hu c h;simp only[H1,qG,qB,pS,pT,pU,zba,bK h1,bK h2,bK h3,aC a,aC b];rfl
def Iy(n:Nat){A B:Int}{u v:V}(hu:bd A u)(a:bd B v)(h:3*(A*B)<=9223372036854775807):cA (n+1) 101 [ae u,ae v]=some (I (V.dot u v)):=by rw[aao];exact f101 hu a h
def GD(n:Nat){A B:Int}{u v:V}(hu:bd A u)(c:bd B v)(h:3*(A*B)<=9223372036854775807):cA (n+1) 107 [ae u,ae v]=some (I (V.dot u v)):=by obtain⟨h1,h2,h3,a,b⟩:=BT hu c h;rw[aat];simp only[Lr,qG,qB,pS,pT,pU,zba,bK h1,bK h2,bK h3,aC a,aC b];rfl
def vF{A B:Int}{u v:V}(hu:bd A u)(a:bd B v)(h:2*(A*B)<=9223372036854775807) :
  inR (u.y*v.z)/\inR (u.z*v.y)/\inR (u.z*v.x)/\inR (u.x*v.z)/\inR (u.x*v.y)/\inR (u.y*v.x)/\inR (u.y*v.z-u.z*v.y)/\inR (u.z*v.x-u.x*v.z)/\inR (u.x*v.y-u.y*v.x):=by
 have:=iX hu.1 a.1;have:=iX hu.1 a.2.1;have:=iX hu.1 a.2.2;have:=iX hu.2.1 a.1;have:=iX hu.2.1 a.2.1;have:=iX hu.2.1 a.2.2;have:=iX hu.2.2 a.1;have:=iX hu.2.2 a.2.1;have:=iX hu.2.2 a.2.2;simp only[inR];omega
def SH(n:Nat){A B:Int}{u v:V}(hu:bd A u)(g:bd B v)(h:2*(A*B)<=9223372036854775807):cA (n+1) 117 [ae u,ae v]=some (ae (V.cross u v)):=by obtain⟨h1,h2,h3,a,b,c,d,e,f⟩:=vF hu g h;rw[aaB];simp only[Lz,qG,qB,pS,pT,pU,zba,bK h1,bK h2,bK h3,bK a,bK b,bK c,ct d,ct e,ct f];rfl
def SJ(n:Nat){A B:Int}{u v:V}(hu:bd A u)(g:bd B v)(h:2*(A*B)<=9223372036854775807):cA (n+1) 123 [ae u,ae v]=some (ae (V.cross u v)):=by obtain⟨h1,h2,h3,a,b,c,d,e,f⟩:=vF hu g h;rw[aaI];simp only[LF,qG,qB,pS,pT,pU,zba,bK h1,bK h2,bK h3,bK a,bK b,bK c,ct d,ct e,ct f];rfl
def RY(n:Nat){A:Int}{u:V}(hu:bd A u)(h:A<=9223372036854775807):cA (n+1) 97 [ae u]=some (ae u.neg):=by
 have h1:inR (-u.x):=by simp only[bd,inR] at *;omega
 have h2:inR (-u.y):=by simp only[bd,inR] at *;omega
 have h3:inR (-u.z):=by simp only[bd,inR] at *;omega
 rw[u97];simp only[U4,qG,pS,pT,pU,zba,ou h1,ou h2,ou h3];rfl
abbrev Bd:=List D->Option (Sum (List D) (Nat×List D))
def c8{body:Bd}{s s':List D}{k:Nat×List D->Option D}{y:D}(h:body s=some (.inl s'))(hk:(aU body s').bind k=some y):(aU body s).bind k=some y:=by have:aU body s=aU body s':=dq h;rw[this];exact hk
def gR{body:Bd}{s:List D}{r:Nat×List D}{k:Nat×List D->Option D}{y:D}(h:body s=some (.inr r))(hk:k r=some y):(aU body s).bind k=some y:=by have:aU body s=some r:=de h;rw[this];exact hk
def nV{body:Bd}{s:List D}{r:Nat×List D}{k:Nat×List D->Option D}{y:D}(h:aU body s=some r)(hk:k r=some y):(aU body s).bind k=some y:=by rw[h];exact hk
def bR{body:Bd}{s0:List D}{k:Nat×List D->Option D}{y:D}(J:Nat->List D->Prop)(n i0:Nat)(a:i0<=n)(h0:J i0 s0)
  (hs:∀ i,i<n->∀ s,J i s->(∃ s',body s=some (.inl s')/\J (i+1) s')\/∃ r,body s=some (.inr r)/\k r=some y) (he:∀ s,J n s->∃ r,body s=some (.inr r)/\k r=some y):(aU body s0).bind k=some y:=by
 obtain⟨m,hm⟩:∃ m,m=n-i0:=⟨_,rfl⟩
 induction m generalizing i0 s0 with
 | zero=>
  have:i0=n:=j1
  subst this;obtain⟨r,h1,h2⟩:=he s0 h0;exact gR h1 h2
 | succ m ih=>
  rcases hs i0 j1 s0 h0 with⟨s',h1,h2⟩|⟨r,h1,h2⟩
  ·exact c8 h1 (ih (i0:=i0+1) j1 h2 j1)
  ·exact gR h1 h2
def FH{body:Bd}{s0:List D}(J:Nat->List D->Prop)(Q:Nat×List D->Prop)(n i0:Nat)(c:i0<=n)(h0:J i0 s0)
  (hs:∀ i,i<n->∀ s,J i s->(∃ s',body s=some (.inl s')/\J (i+1) s')\/∃ r,body s=some (.inr r)/\Q r) (he:∀ s,J n s->∃ r,body s=some (.inr r)/\Q r):∃ r,aU body s0=some r/\Q r:=by
 obtain⟨m,hm⟩:∃ m,m=n-i0:=⟨_,rfl⟩
 induction m generalizing i0 s0 with
 | zero=>
  have:i0=n:=j1
  subst this;obtain⟨r,h1,h2⟩:=he s0 h0;exact⟨r,de h1,h2⟩
 | succ m ih=>
  rcases hs i0 j1 s0 h0 with⟨s',h1,h2⟩|⟨r,h1,h2⟩
  ·obtain⟨r,a,b⟩:=ih (i0:=i0+1) j1 h2 j1
   exact⟨r,by rw[show aU body s0=aU body s' from dq h1];exact a,b⟩
  ·exact⟨r,de h1,h2⟩
def aq{i n:Nat}(h:i<n):D.idx (I (i:Int)) n=some i:=by simp only[D.idx];rw[zja j1];simp
def aL{i:Nat}(h:i<=9223372036854775806):inR ((i:Int)+1):=by simp only[inR];omega
def g0{x:D}{l:List D}{d:D}:List.getD (x::l) 0 d=x:=rfl
def g1{x y:D}{l:List D}{d:D}:List.getD (x::y::l) 1 d=y:=rfl
def g2{x y z:D}{l:List D}{d:D}:List.getD (x::y::z::l) 2 d=z:=rfl
def g3{x y z w:D}{l:List D}{d:D}:List.getD (x::y::z::w::l) 3 d=w:=rfl
def aak(v:V)(a:Int):D.set (ae v) [0] (I a)=some (ae ⟨a,v.y,v.z⟩):=rfl
def aal(v:V)(a:Int):D.set (ae v) [1] (I a)=some (ae ⟨v.x,a,v.z⟩):=rfl
def aam(v:V)(a:Int):D.set (ae v) [2] (I a)=some (ae ⟨v.x,v.y,a⟩):=rfl
def JD:D.idx (I 0) 3=some 0:=rfl
def JE:D.idx (I 1) 3=some 1:=rfl
def JF:D.idx (I 2) 3=some 2:=rfl
def Zn(n:Nat){A B:Int}{u v:V}(hu:bd A u)(a:bd B v)(h:A+B<=9223372036854775807):cA (n+1) 154 [ae u,ae v]=some (ae (u.add v)):=by
 have h1:inR (u.x+v.x):=by simp only[bd,inR] at *;omega
 have h2:inR (u.y+v.y):=by simp only[bd,inR] at *;omega
 have h3:inR (u.z+v.z):=by simp only[bd,inR] at *;omega
 rw[aa2]
 delta L6 qB qC qJ qZ iL iR Jn
 refine c8 (s':=[I 1,ae ⟨u.x+v.x,u.y,u.z⟩]) ?_ (c8 (s':=[I 2,ae ⟨u.x+v.x,u.y+v.y,u.z⟩]) ?_ (c8 (s':=[I 3,ae ⟨u.x+v.x,u.y+v.y,u.z+v.z⟩]) ?_ (gR (r:=(0,[ae (u.add v)])) ?_ rfl)))
 ·simp only[g0,g1,am,zba,ac,JD,pS,aak,aC h1,aC (show inR (0+1) from⟨j2,j2⟩)];rfl
 ·simp only[g0,g1,am,zba,ac,JE,pT,aal,aC h2,aC (show inR (1+1) from⟨j2,j2⟩)];rfl
 ·simp only[g0,g1,am,zba,ac,JF,pU,aam,aC h3,aC (show inR (2+1) from⟨j2,j2⟩)];rfl
 ·simp only[g0,g1,am,zba,ac];rfl
def Nw(u v:V):u.add v.neg=u.sub v:=by apply V.ext'<;>simp only[V.add,V.neg,V.sub]<;>omega
def Iz(n:Nat){A B:Int}{u v:V}(hu:bd A u)(a:bd B v)(h:A+B<=9223372036854775807):cA (n+2) 103 [ae u,ae v]=some (ae (u.sub v)):=by
 have b:0<=A:=by simp only[bd] at hu;omega
 rw[aap];simp only[Ll,RY n a j1,zba,Zn n hu (sC a) h,Nw]
def Dx(n:Nat){A B:Int}{u v:V}(hu:bd A u)(a:bd B v)(h:A+B<=9223372036854775807):cA (n+1) 112 [ae u,ae v]=some (ae (u.sub v)):=by
 have h1:inR (u.x-v.x):=by simp only[bd,inR] at *;omega
 have h2:inR (u.y-v.y):=by simp only[bd,inR] at *;omega
 have h3:inR (u.z-v.z):=by simp only[bd,inR] at *;omega
 rw[aay];simp only[Lw,qG,qB,pS,pT,pU,zba,ct h1,ct h2,ct h3];rfl
def bB(a b:Int):Int:=if a<b then -1 else if a>b then 1 else 0
def Zf(n:Nat)(a:Int):cA (n+1) 115 [I a]=some (.bool false):=by rw[aaz];simp only[Lx,bY];simp
def Tj(n:Nat)(a b:Int):cA (n+2) 53 [I a,I b]=some (I (bB a b)):=by
 rw[u53];simp only[UI,qC,qT,Jn,Zf,zba,ac,zFa,if_false,am,cK,bB,zfa];split
 ·rfl
 ·split<;>rfl
def sf:List Int->Int
 | []=>0
 | x::l=>if x=0 then sf l else x
def c52(n:Nat)(l:List Int)(hl:l.length<=1000):cA (n+1) 52 [.sl (l.map λx=>I x)]=some (I (sf l)):=by
 rw[u52]
 delta UH qB qC qT qS qX qZ iL iR Jn
 simp only[D.asSl,zba];refine bR (λi s=>s=[I i]/\sf l=sf (l.drop i)) l.length 0 (zqa _) ⟨rfl,rfl⟩ (λi c s b=>?_) (λs b=>?_)
 ·obtain⟨rfl,a⟩:=b;have hx:(l.map λx=>I x)[i]?=some (I l[i]):=by simp[c]
  simp only[g0,zxa,am,zba,ac,zfa,show((i:Int)<(l.length:Int)) from by omega,if_true,aq c,hx,bY]
  have d:l.drop i=l[i]::l.drop (i+1):=zSb c;rw[d] at a;by_cases h0:l[i]=0
  ·left;refine⟨[I ((i+1:Nat):Int)],?_,rfl,?_⟩
   ·simp only[h0,decide_true,zqc,zFa,if_false,aC (aL (i:=i) j1),zba];rfl
   ·rw[a];simp[sf,h0]
  ·right;refine⟨(0,[I l[i]]),?_,?_⟩
   ·simp[h0]
   ·rw[a];simp[sf,h0]
 ·obtain⟨rfl,a⟩:=b;refine⟨(1,[]),?_,?_⟩
  ·simp only[g0,zxa,am,zba,ac,zfa,zPc,if_false]
  ·rw[a];simp[sf]
def B0{body:Bd}(h0:∀ a b:Int,b≠0->body [I a,I b]=some (.inl [I b,I (a.tmod b)]))(h1:∀ a:Int,body [I a,I 0]=some (.inr (0,[I a]))) :
  ∀ (m:Nat) (a b:Int),b.natAbs=m->∃ r:Int,aU body [I a,I b]=some (0,[I r])/\r.natAbs=Nat.gcd a.natAbs b.natAbs:=by
 intro m
 induction m using Nat.strongRecOn with
 | _ m ih=>
  intro a b e;by_cases d:b=0
  ·subst d;exact⟨a,de (h1 a),j3⟩
  ·have c:(a.tmod b).natAbs<m:=by
    rw[Int.natAbs_tmod,<-e];exact z5a _ j1
   obtain⟨r,f,g⟩:=ih _ c b (a.tmod b) rfl;refine⟨r,?_,?_⟩
   ·rw[show aU body [I a,I b]=aU body [I b,I (a.tmod b)] from dq (h0 a b d)];exact f
   ·rw[g,Int.natAbs_tmod,zIc a.natAbs,Nat.gcd_rec b.natAbs a.natAbs,zIc]
def s9{a b:Int}{k:Nat}(c:a.natAbs<=k)(d:b.natAbs<=k):Nat.gcd a.natAbs b.natAbs<=k:=by
 rcases zNb a.natAbs with h|h
 ·rw[h,Nat.gcd_zero_left];exact d
 ·exact zHa (Nat.le_of_dvd h (ztb _ _)) c
def Qj(n:Nat){a b:Int}(e:a.natAbs<=9223372036854775807)(c:b.natAbs<=9223372036854775807):cA (n+1) 152 [I a,I b]=some (I (Nat.gcd a.natAbs b.natAbs:Nat)):=by
 rw[Ud]
 delta H6 qB qT qZ iL iR Jn
 obtain⟨r,h1,h2⟩:=B0 (body:=λ(v1:List D)=>
  (D.truth (D.bool (!(D.beq (gx v1 1) (D.int .i64 0))))).bind λd=>
  if d then((afn .rem (gx v1 0) (gx v1 1)).bind λf=>
  some (Sum.inl [(gx v1 1),f])) else(some (Sum.inr (0,[(gx v1 0)]))))
  (λa b c=>by simp only[g0,g1,bY,ac,zba,c,decide_false,zUb,if_true,lr c])
  (λa=>by simp only[g0,g1,bY,ac,zba,decide_true,zqc,zFa,if_false]) _ a b rfl
 refine nV h1 ?_;have g:r.natAbs<=9223372036854775807:=by rw[h2];exact s9 e c
 have hn:inR (-r):=by simp only[inR];omega
 simp only[zba,g0,ou hn,FK];congr 2;omega
def iH{a:Int}{g:Nat}(b:0<g)(h:(g:Int) ∣ a):a.tdiv g=a/g:=by obtain⟨c,rfl⟩:=h;rw[zAd _ j1,zob _ j1]
def ym(v:V):(br v:Int) ∣ v.x:=z6a.2 (zkd (ztb _ _) (ztb _ _))
def yn(v:V):(br v:Int) ∣ v.y:=z6a.2 (zkd (ztb _ _) (zQb _ _))
def yo(v:V):(br v:Int) ∣ v.z:=z6a.2 (zQb _ _)
def sU{a:Int}{g:Nat}{k:Int}(h:-k<=a/\a<=k)(b:(g:Int) ∣ a):-k<=a/g/\a/g<=k:=by
 have h1:(a/(g:Int)).natAbs<=a.natAbs:=by
  rcases zNb g with e|e
  ·subst e;simp
  ·obtain⟨c,rfl⟩:=b;rw[zob _ j1,zLa]
   exact z7b _ j1
 omega
def fJ{k:Int}{v:V}(h:bd k v):bd k (aR v):=⟨sU h.1 (ym v),sU h.2.1 (yn v),sU h.2.2 (yo v)⟩
def cR(q:V×Int):D:=.st [ae q.1,I q.2]
def MV:Int:=262144
def po{P:Nat->V}{i j:Nat}(a:bd MV (P i))(b:bd MV (P j)):bd 524288 (wy P i j):=by have:=kR b a;simpa [MV,wy] using this
def c96(n:Nat){a b c:V}(g:bd MV a)(i:bd MV b)(hc:bd MV c):cA (n+3) 96 [ae a,ae b,ae c]=some (cR (aR (V.cross (b.sub a) (c.sub a)),V.dot (aR (V.cross (b.sub a) (c.sub a))) a)):=by
 have h1:bd 524288 (b.sub a):=by have:=kR i g;simpa [MV] using this
 have h2:bd 524288 (c.sub a):=by have:=kR hc g;simpa [MV] using this
 rw[u96]
 delta U3 qG qB qC Jn
 simp only[Iz n i g j2,Iz n hc g j2,zba,SH (n+1) h1 h2 j2]
 have h3:=jJ h1 h2;generalize V.cross (b.sub a) (c.sub a)=m at *;have j:m.x.natAbs<=549755813888:=by have:=h3.1;omega
 have l:m.y.natAbs<=549755813888:=by have:=h3.2.1;omega
 have s:m.z.natAbs<=549755813888:=by have:=h3.2.2;omega
 have t:Nat.gcd m.x.natAbs m.y.natAbs<=549755813888:=s9 j l;have o:Nat.gcd (Nat.gcd m.x.natAbs m.y.natAbs) m.z.natAbs=br m:=rfl;simp only[pS,pT,pU,zba,Qj (n+1) (a:=m.x) (b:=m.y) j1 j1,Qj (n+1) (a:=((Nat.gcd m.x.natAbs m.y.natAbs:Nat):Int)) (b:=m.z) (by rw[zsa];omega) j1,zsa,o,cK,ac,zfa]
 have p:=fJ h3;have fin:∀ w:V,w=aR m->cA (n+2) 101 [ae w,ae a]=some (I (V.dot w a)):=λw hw=>Iy (n+1) (hw ▸ p) g j2
 by_cases hg:(br m:Int)>1
 ·have f:(br m:Int)≠0:=j1
  have d:0<br m:=j1
  have r1:inR (m.x.tdiv (br m)):=by rw[iH d (ym m)];have:=sU h3.1 (ym m);simp only[inR];omega
  have q:inR (m.y.tdiv (br m)):=by rw[iH d (yn m)];have:=sU h3.2.1 (yn m);simp only[inR];omega
  have r:inR (m.z.tdiv (br m)):=by rw[iH d (yo m)];have:=sU h3.2.2 (yo m);simp only[inR];omega
  have h:(D.st [I (m.x.tdiv (br m)),I (m.y.tdiv (br m)),I (m.z.tdiv (br m))])=ae (aR m):=by rw[iH d (ym m),iH d (yn m),iH d (yo m)];rfl
  simp only[zja hg,nD f r1,nD f q,nD f r,zba,g0,h,fin _ rfl];rfl
 ·have h:m=aR m:=by
   rcases zAa 0 (br m) with k|k
   ·have e:br m=1:=j1
    have:=ge m;rw[e] at this;rw[this]
    conv=>rhs;rw[<-this]
    apply V.ext'<;>simp[V.smul]
   ·have e:br m=0:=j1
    have hm:m=V.zero:=by
     by_cases hm:m=V.zero
     ·exact hm
     ·have:=fD hm;omega
    rw[hm];rfl
  simp only[zia hg,zba,g0,fin m h];rw[<-h];rfl
def aaf(a b:Int):D.sl [I a,I b]=D.sl ([a,b].map λx=>I x):=rfl
def aag(a b c:Int):D.sl [I a,I b,I c]=D.sl ([a,b,c].map λx=>I x):=rfl
def c51(n:Nat)(a b c d:Int):cA (n+3) 51 [.st [I a,I b],.st [I c,I d]]=some (I (sf [bB a c,bB b d])):=by
 rw[u51]
 delta UG qG
 simp only[show ∀ a b:Int,D.get (.st [I a,I b]) [0]=some (I a) from λ_ _=>rfl,show ∀ a b:Int,D.get (.st [I a,I b]) [1]=some (I b) from λ_ _=>rfl,zba,Tj,aaf,c52 (n+1) [bB a c,bB b d] j3]
def Y9(n:Nat)(p q:V×Int):cA (n+3) 100 [cR p,cR q]=some (I (sf [bB p.1.x q.1.x,bB p.1.y q.1.y,bB p.1.z q.1.z])):=by
 rw[aan]
 delta Lk qG
 simp only[show ∀ p:V×Int,D.get (cR p) [0]=some (ae p.1) from λ_=>rfl,show ∀ p:V×Int,D.get (cR p) [0,0]=some (I p.1.x) from λ_=>rfl,show ∀ p:V×Int,D.get (cR p) [0,1]=some (I p.1.y) from λ_=>rfl,show ∀ p:V×Int,D.get (cR p) [0,2]=some (I p.1.z) from λ_=>rfl,pS,pT,pU,zba,Tj,aag,c52 (n+1) [bB p.1.x q.1.x,bB p.1.y q.1.y,bB p.1.z q.1.z] j3]
def zU(a:Int):bB a 0=sg a:=rfl
def TY(a:Int):-1<=sg a/\sg a<=1:=by unfold sg;split<;>(try split)<;>omega
def td(a b:Int):inR (sg a*sg b):=by have:=iX (A:=1) (B:=1) (TY a) (TY b);simp only[inR];omega
def Tx(v:V):D.fld (ae v) 0=some (I v.x):=rfl
def Tz(v:V):D.fld (ae v) 1=some (I v.y):=rfl
def TA(v:V):D.fld (ae v) 2=some (I v.z):=rfl
def PF:inR (0+1):=⟨j2,j2⟩
def uY:inR (1+1):=⟨j2,j2⟩
def PG:inR (2+1):=⟨j2,j2⟩
def Za(n:Nat){A B:Int}{m u v:V}(hu:bd A u)(a:bd B v)(h:2*(A*B)<=9223372036854775807):cA (n+3) 104 [ae m,ae u,ae v]=some (I (yK m (V.cross u v))):=by
 rw[aaq]
 delta Lm qB qC qT qJ qZ iL iR Jn
 simp only[SH (n+1) hu a h,zba];generalize V.cross u v=c;unfold yK;by_cases hx:m.x=0
 ·refine c8 (s':=[I 1]) (by simp only[g0,am,zba,ac,JD,Tx,bY,hx,decide_true,zqc,zFa,if_false,aC PF];rfl) ?_
  by_cases hy:m.y=0
  ·refine c8 (s':=[I 2]) (by simp only[g0,am,zba,ac,JE,Tz,bY,hy,decide_true,zqc,zFa,if_false,aC uY];rfl) ?_
   by_cases hz:m.z=0
   ·refine c8 (s':=[I 3]) (by simp only[g0,am,zba,ac,JF,TA,bY,hz,decide_true,zqc,zFa,if_false,aC PG];rfl) ?_
    refine gR (r:=(1,[])) (by simp only[g0,am,zba,ac];rfl) ?_
    simp[hx,hy,hz]
   ·refine gR (r:=(0,[I (sg c.z*sg m.z)])) ?_ (by simp[hx,hy,hz,zMa])
    simp only[g0,am,zba,ac,JF,TA,pU,bY,hz,decide_false,zUb,if_true,Tj,zU,bK (td _ _)];rfl
  ·refine gR (r:=(0,[I (sg c.y*sg m.y)])) ?_ (by simp[hx,hy,zMa])
   simp only[g0,am,zba,ac,JE,Tz,pT,bY,hy,decide_false,zUb,if_true,Tj,zU,bK (td _ _)];rfl
 ·refine gR (r:=(0,[I (sg c.x*sg m.x)])) ?_ (by simp[hx,zMa])
  simp only[g0,am,zba,ac,JD,Tx,pS,bY,hx,decide_false,zUb,if_true,Tj,zU,bK (td _ _)];rfl
def Qn(n:Nat)(a:Int):cA (n+1) 215 [I a]=some (I (sg a)):=by
 rw[abk];simp only[Mq,qC,Jn,am,cK,zba,ac,zfa,sg];split
 ·rfl
 ·split
  ·rfl
  ·rfl
def Zw(n:Nat)(m c:V):cA (n+2) 188 [ae m,ae c]=some (I (yK m c)):=by
 rw[abd]
 delta Mk qB qC qT qJ qZ iL iR Jn yK
 by_cases hx:m.x=0
 ·refine c8 (s':=[I 1]) (by simp only[g0,am,zba,ac,JD,pS,bY,hx,decide_true,zqc,zFa,if_false,aC PF];rfl) ?_
  by_cases hy:m.y=0
  ·refine c8 (s':=[I 2]) (by simp only[g0,am,zba,ac,JE,pT,bY,hy,decide_true,zqc,zFa,if_false,aC uY];rfl) ?_
   by_cases hz:m.z=0
   ·refine c8 (s':=[I 3]) (by simp only[g0,am,zba,ac,JF,pU,bY,hz,decide_true,zqc,zFa,if_false,aC PG];rfl) ?_
    refine gR (r:=(1,[])) (by simp only[g0,am,zba,ac];rfl) ?_
    simp[hx,hy,hz]
   ·refine gR (r:=(0,[I (sg m.z*sg c.z)])) ?_ (by simp[hx,hy,hz])
    simp only[g0,am,zba,ac,JF,pU,bY,hz,decide_false,zUb,if_true,Qn,bK (td _ _)];rfl
  ·refine gR (r:=(0,[I (sg m.y*sg c.y)])) ?_ (by simp[hx,hy])
   simp only[g0,am,zba,ac,JE,pT,bY,hy,decide_false,zUb,if_true,Qn,bK (td _ _)];rfl
 ·refine gR (r:=(0,[I (sg m.x*sg c.x)])) ?_ (by simp[hx])
  simp only[g0,am,zba,ac,JD,pS,bY,hx,decide_false,zUb,if_true,Qn,bK (td _ _)];rfl
instance decLex (a b:V):Decidable (aM a b):=by unfold aM;exact inferInstance
def SG(n:Nat)(a b:V):cA (n+1) 105 [ae a,ae b]=some (.bool (decide (aM a b))):=by
 rw[aar];simp only[Ln,qG,qB,qT,pS,pT,pU,zba,bY,ac,am,zWa,decide_eq_false_iff_not];by_cases h1:a.x=b.x
 ·by_cases h2:a.y=b.y
  ·simp[h1,h2,aM]
  ·simp only[h1,h2,aM,not_true,if_false,not_false_iff,if_true,zPc,false_or,true_and,false_and,or_false]
 ·simp only[h1,aM,not_false_iff,if_true,false_and,or_false]
def bu(l:List V):D:=.sl (l.map ae)
def tK(l:List V)(m:V)(d:Int):Bool:=l.all λx=>decide (V.dot m x<=d)
def lJ(l:List V)(m:V)(d:Int):Bool:=l.any λx=>decide (V.dot m x<d)
def Jl{l:List V}{i:Nat}(h:i<l.length):(l.map ae)[i]?=some (ae l[i]):=by simp[h]
def Zd(n:Nat){A:Int}{l:List V}{m:V}{d:Int}(hl:∀ x∈l,bd MV x)(hm:bd A m)(c:3*(A*262144)<=9223372036854775807)(hlen:l.length<=1000000):cA (n+2) 109 [bu l,ae m,I d]=some (.bool (tK l m d&&lJ l m d)):=by
 rw[aav]
 delta Lt qB qC qT qX qL qZ iL iR Jn
 refine bR (λi s=>s=[.bool (lJ (l.take i) m d),I i]/\tK (l.take i) m d=true) l.length 0 (zqa _) ⟨by simp[lJ],by simp[tK]⟩ (λi a s b=>?_) (λs b=>?_)
 ·obtain⟨rfl,hs⟩:=b;have ht:l.take (i+1)=l.take i++[l[i]]:=zJa a;have hc:=GD n hm (hl l[i] (zBa a)) c;simp only[bu,D.asSl,g0,g1,zxa,am,cK,zba,ac,zfa,show((i:Int)<(l.length:Int)) from by omega,if_true,aq a,Jl a,hc]
  by_cases hgt:V.dot m l[i]>d
  ·right;refine⟨(0,[.bool false]),by simp only[hgt,if_true],?_⟩
   have:tK l m d=false:=by rw[ztc];intro h;have:=zDa.1 h l[i] (zBa a);simp at this;omega
   simp[g0,this]
  ·left;refine⟨[.bool (lJ (l.take (i+1)) m d),I ((i+1:Nat):Int)],?_,rfl,?_⟩
   ·simp only[hgt,if_false,aC (aL (i:=i) j1),zba]
    have e:lJ (l.take (i+1)) m d=(lJ (l.take i) m d||decide (V.dot m l[i]<d)):=by rw[ht];simp only[lJ,zHd,List.any_cons,List.any_nil,Bool.or_false]
    rw[e];cases lJ (l.take i) m d<;>simp
   ·rw[ht];simp only[tK,zod,zaa] at hs ⊢;exact⟨hs,by simp;omega⟩
 ·obtain⟨rfl,hs⟩:=b;refine⟨(1,[.bool (lJ (l.take l.length) m d)]),?_,?_⟩
  ·simp only[bu,D.asSl,g0,g1,zxa,am,zba,ac,zfa,zPc,if_false]
  ·rw[zub] at *;simp[g0,hs]
def c98(n:Nat){A:Int}{l:List V}{m:V}{d:Int}(hl:∀ x∈l,bd MV x)(hm:bd A m)(c:3*(A*262144)<=9223372036854775807)(hlen:l.length<=1000000):cA (n+2) 98 [bu l,cR (m,d)]=some (.bool (tK l m d&&lJ l m d)):=by
 rw[u98]
 delta U5 qG qB qC qT qS qX qZ iL iR Jn
 simp only[bu,D.asSl,zba];refine bR (λi s=>s=[.bool (!lJ (l.take i) m d),I i]/\tK (l.take i) m d=true) l.length 0 (zqa _) ⟨by simp[lJ],by simp[tK]⟩ (λi a s b=>?_) (λs b=>?_)
 ·obtain⟨rfl,hs⟩:=b;have ht:l.take (i+1)=l.take i++[l[i]]:=zJa a;have hc:=Iy n hm (hl l[i] (zBa a)) c;simp only[g0,g1,zxa,am,cK,zba,ac,zfa,show((i:Int)<(l.length:Int)) from by omega,if_true,aq a,Jl a,show D.get (cR (m,d)) [0]=some (ae m) from rfl,show D.get (cR (m,d)) [1]=some (I d) from rfl,hc,bY]
  by_cases hgt:V.dot m l[i]>d
  ·right;refine⟨(0,[.bool false]),by simp only[hgt,if_true],?_⟩
   have:tK l m d=false:=by rw[ztc];intro h;have:=zDa.1 h l[i] (zBa a);simp at this;omega
   simp[g0,this]
  ·left;refine⟨[.bool (!lJ (l.take (i+1)) m d),I ((i+1:Nat):Int)],?_,rfl,?_⟩
   ·simp only[hgt,if_false,aC (aL (i:=i) j1),zba]
    have e:(!lJ (l.take (i+1)) m d)=(!lJ (l.take i) m d&&decide (V.dot m l[i]=d)):=by
     rw[ht];simp only[lJ,zHd,List.any_cons,List.any_nil,Bool.or_false,Bool.not_or];congr 1;by_cases h2:V.dot m l[i]=d
     ·simp[h2]
     ·have:V.dot m l[i]<d:=j1
      simp[h2,this]
    rw[e];cases lJ (l.take i) m d<;>simp
   ·rw[ht];simp only[tK,zod,zaa] at hs ⊢;exact⟨hs,by simp;omega⟩
 ·obtain⟨rfl,hs⟩:=b;refine⟨(1,[.bool (!lJ (l.take l.length) m d)]),?_,?_⟩
  ·simp only[g0,g1,zxa,am,zba,ac,zfa,zPc,if_false]
  ·rw[zub] at *;simp[g0,hs,aV]
def nh{α:Type}{body:Bd}{s0:List D}{k:Nat×List D->Option α}{Y:α->Prop}(J:Nat->List D->Prop)(n i0:Nat)(b:i0<=n)(h0:J i0 s0)
  (hs:∀ i,i<n->∀ s,J i s->∃ z,body s=some z/\match z with|.inl s'=>J (i+1) s'|.inr r=>∃ y,k r=some y/\Y y)
  (he:∀ s,J n s->∃ z,body s=some z/\match z with|.inl _=>False|.inr r=>∃ y,k r=some y/\Y y):∃ y,(aU body s0).bind k=some y/\Y y:=by
 obtain⟨m,hm⟩:∃ m,m=n-i0:=⟨_,rfl⟩
 induction m generalizing i0 s0 with
 | zero=>
  have:i0=n:=j1
  subst this;obtain⟨z,h1,h2⟩:=he s0 h0;cases z with
  | inl s'=>exact h2.elim
  | inr r=>obtain⟨y,h3,a⟩:=h2;exact⟨y,by rw[show aU body s0=some r from de h1];exact h3,a⟩
 | succ m ih=>
  obtain⟨z,h1,h2⟩:=hs i0 j1 s0 h0
  cases z with
  | inl s'=>
   obtain⟨y,h3,a⟩:=ih (i0:=i0+1) j1 h2 j1
   exact⟨y,by rw[show aU body s0=aU body s' from dq h1];exact h3,a⟩
  | inr r=>obtain⟨y,h3,a⟩:=h2;exact⟨y,by rw[show aU body s0=some r from de h1];exact h3,a⟩
def bg{α:Type}{body:Bd}{s s':List D}{k:Nat×List D->Option α}{y:α}(h:body s=some (.inl s'))(hk:(aU body s').bind k=some y):(aU body s).bind k=some y:=by have:aU body s=aU body s':=dq h;rw[this];exact hk
def eJ{α:Type}{body:Bd}{s:List D}{r:Nat×List D}{k:Nat×List D->Option α}{y:α}(h:body s=some (.inr r))(hk:k r=some y):(aU body s).bind k=some y:=by have:aU body s=some r:=de h;rw[this];exact hk
def cr{α:Type}{body:Bd}{s0:List D}{k:Nat×List D->Option α}{y:α}(J:Nat->List D->Prop)(n i0:Nat)(a:i0<=n)(h0:J i0 s0)
  (hs:∀ i,i<n->∀ s,J i s->(∃ s',body s=some (.inl s')/\J (i+1) s')\/∃ r,body s=some (.inr r)/\k r=some y) (he:∀ s,J n s->∃ r,body s=some (.inr r)/\k r=some y):(aU body s0).bind k=some y:=by
 obtain⟨m,hm⟩:∃ m,m=n-i0:=⟨_,rfl⟩
 induction m generalizing i0 s0 with
 | zero=>
  have:i0=n:=j1
  subst this;obtain⟨r,h1,h2⟩:=he s0 h0;exact eJ h1 h2
 | succ m ih=>
  rcases hs i0 j1 s0 h0 with⟨s',h1,h2⟩|⟨r,h1,h2⟩
  ·exact bg h1 (ih (i0:=i0+1) j1 h2 j1)
  ·exact eJ h1 h2
def aa{α β:Type}{A:Option α}{g:α->Option β}{z:α}{y:β}(h:A=some z)(hk:g z=some y):Option.bind A g=some y:=by rw[h];exact hk
theorem j0{α β:Type}{A:Option α}{g:α->Option β}{y:β}(z:α)(k:g z=some y)(h:A=some z:=by exact rfl):Option.bind A g=some y:=aa h k
def ks(u v:V):D.beq (ae u) (ae v)=decide (u=v):=by
 simp only[ae,D.beq,D.beqs,decide_true,zqb,Bool.and_true];by_cases h:u=v
 ·subst h;simp
 ·by_cases h1:u.x=v.x<;>by_cases h2:u.y=v.y<;>by_cases h3:u.z=v.z<;>simp[h,h1,h2,h3];exact h (V.ext' h1 h2 h3)
def Pd(p q:V×Int):D.beq (cR p) (cR q)=decide (p=q):=by have:D.beq (cR p) (cR q)=(D.beq (ae p.1) (ae q.1)&&(D.beq (I p.2) (I q.2)&&true)):=rfl;rw[this,ks,bY];obtain⟨a,b⟩:=p;obtain⟨c,d⟩:=q;by_cases h1:a=c<;>by_cases h2:b=d<;>simp[h1,h2]
def jt(K:List (V×Int)):List D:=K.map λq=>.st [cR q,.bool true]
theorem yS:∀ (K:List (V×Int)) (q:V×Int),afu (jt K) (cR q)=if q∈K then some (.bool true) else none
 | [],q=>by simp[jt,afu]
 | p::K,q=>by
  have ih:=yS K q;simp only[jt,zjb,afu,Pd] at ih ⊢;by_cases h:q=p
  ·simp[h]
  ·rw[ih];simp[h]
theorem yU:∀ (K:List (V×Int)) (q:V×Int),q ∉ K->afv (jt K) (cR q) (.bool true)=jt (K++[q])
 | [],q,_=>rfl
 | p::K,q,h=>by
  have ih:=yU K q (λhq=>h (zoa _ hq));have a:¬ q=p:=λe=>h (by rw[e];exact zva)
  simp only[jt,zjb,zFb,afv,Pd,a,decide_false,zFa,if_false] at ih ⊢;rw[ih]
def GY(K:List (V×Int)):(jt K).map xM=K.map cR:=by simp[jt,xM]
def supp(l:List V)(q:V×Int):Bool:=tK l q.1 q.2&&lJ l q.1 q.2
def jY(l:List V)(K:List (V×Int))(q:V×Int):List (V×Int):=if q∈K then K else if supp l q then K++[q] else K
def wO{l:List V}{K:List (V×Int)}{q x:V×Int}(h:x∈K):x∈jY l K q:=by
 unfold jY;split
 ·exact h
 ·split
  ·exact List.mem_append_left _ h
  ·exact h
def CG{l:List V}{K:List (V×Int)}{q:V×Int}(h:supp l q=true):q∈jY l K q:=by
 unfold jY;split
 ·assumption
 ·simp
def CF{l:List V}{K:List (V×Int)}{q x:V×Int}(h:x∈jY l K q):x∈K\/(x=q/\supp l q=true):=by
 unfold jY at h;split at h
 ·exact .inl h
 ·split at h
  ·rename_i hs;rcases List.mem_append.1 h with h|h
   ·exact .inl h
   ·exact .inr ⟨zKa.1 h,hs⟩
  ·exact .inl h
def wN{l:List V}{K:List (V×Int)}{q:V×Int}(h:K.Nodup):(jY l K q).Nodup:=by
 unfold jY;split
 ·exact h
 ·rename_i hq;split
  ·exact List.nodup_append.2 ⟨h,j3,λx hx y hy e=>hq (by rw[zKa.1 hy] at e;exact e ▸ hx)⟩
  ·exact h
def rS(a b c:V):V×Int:=(aR (V.cross (b.sub a) (c.sub a)),V.dot (aR (V.cross (b.sub a) (c.sub a))) a)
def oY(q:V×Int):V×Int:=(q.1.neg,-q.2)
def Cd(l:List V)(i j k:Nat)(q:V×Int):Prop:=(rS (l.getD i V.zero) (l.getD j V.zero) (l.getD k V.zero)).1≠V.zero/\(q=rS (l.getD i V.zero) (l.getD j V.zero) (l.getD k V.zero)\/q=oY (rS (l.getD i V.zero) (l.getD j V.zero) (l.getD k V.zero)))
structure Known(l:List V)(i j k:Nat)(K:List (V×Int)):Prop where
 nd:K.Nodup
 ok:∀ q∈K,supp l q=true/\∃ i j k,k<j/\j<i/\i<l.length/\Cd l i j k q
 all:∀ i' j' k',k'<j'->j'<i'->i'<l.length->(i'<i\/i'=i/\(j'<j\/j'=j/\k'<k))->∀ q,Cd l i' j' k' q->supp l q=true->q∈K
def Qb{a b c:V}(d:bd MV a)(f:bd MV b)(hc:bd MV c):bd 549755813888 (rS a b c).1/\inR (rS a b c).2/\inR (-(rS a b c).2):=by
 have h1:bd 524288 (b.sub a):=by have:=kR f d;simpa [MV] using this
 have h2:bd 524288 (c.sub a):=by have:=kR hc d;simpa [MV] using this
 have h3:=fJ (jJ h1 h2);have e:=It h3 d;simp only[MV] at e;refine⟨h3,?_,?_⟩<;>simp only[inR,rS]<;>omega
def Known.step{l:List V}{i j k:Nat}{K:List (V×Int)}(h:Known l i j k K)(hk:k<j)(b:j<i)(a:i<l.length)(c:(rS (l.getD i V.zero) (l.getD j V.zero) (l.getD k V.zero)).1≠V.zero) :
  Known l i j (k+1) (jY l (jY l K (rS (l.getD i V.zero) (l.getD j V.zero) (l.getD k V.zero))) (oY (rS (l.getD i V.zero) (l.getD j V.zero) (l.getD k V.zero)))):=by
 refine⟨wN (wN h.nd),λq hq=>?_,λd f g h1 h2 h3 m q hq hs=>?_⟩
 ·rcases CF hq with hq|⟨rfl,hs⟩
  ·rcases CF hq with hq|⟨rfl,hs⟩
   ·exact h.ok q hq
   ·exact⟨hs,i,j,k,hk,b,a,c,.inl rfl⟩
  ·exact⟨hs,i,j,k,hk,b,a,c,.inr rfl⟩
 ·by_cases e:d=i/\f=j/\g=k
  ·obtain⟨rfl,rfl,rfl⟩:=e;rcases hq.2 with rfl|rfl
   ·exact wO (CG hs)
   ·exact CG hs
  ·exact wO (wO (h.all d f g h1 h2 h3 j1 q hq hs))
def Known.skip{l:List V}{i j k:Nat}{K:List (V×Int)}(h:Known l i j k K)(d:(rS (l.getD i V.zero) (l.getD j V.zero) (l.getD k V.zero)).1=V.zero):Known l i j (k+1) K:=by
 refine⟨h.nd,h.ok,λa b c h1 h2 h3 f q hq hs=>?_⟩;by_cases e:a=i/\b=j/\c=k
 ·obtain⟨rfl,rfl,rfl⟩:=e;exact z4a d hq.1
 ·exact h.all a b c h1 h2 h3 j1 q hq hs
def Known.next{l:List V}{i j:Nat}{K:List (V×Int)}(h:Known l i j j K):Known l i (j+1) 0 K:=
 ⟨h.nd,h.ok,λa b c h1 h2 h3 d=>h.all a b c h1 h2 h3 j1⟩
def Known.next2{l:List V}{i:Nat}{K:List (V×Int)}(h:Known l i i 0 K):Known l (i+1) 0 0 K:=
 ⟨h.nd,h.ok,λa b c h1 h2 h3 d=>h.all a b c h1 h2 h3 j1⟩
theorem kW{α β:Type}{f:α->List β}{c:Nat}:∀ l:List α,(∀ x∈l,(f x).length=c)->(l.flatMap f).length=l.length*c
 | [],_=>j3
 | x::l,h=>by rw[List.flatMap_cons,zwa,h x zva,kW l (λy hy=>h y (zoa _ hy)),zQa,Nat.succ_mul];omega
def Known.len{l:List V}{i j k:Nat}{K:List (V×Int)}(h:Known l i j k K)(hl:l.length<=100):K.length<=2000000:=by
 have h1:=z4b (l₂:=(List.range l.length).flatMap λi=>(List.range l.length).flatMap λj=>(List.range l.length).flatMap λk=>[rS (l.getD i V.zero) (l.getD j V.zero) (l.getD k V.zero),oY (rS (l.getD i V.zero) (l.getD j V.zero) (l.getD k V.zero))]) h.nd (λq hq=>by
  obtain⟨_,i,j,k,h1,h2,h3,a⟩:=h.ok q hq;refine zUa.2 ⟨i,z0a.2 h3,zUa.2 ⟨j,z0a.2 j1,zUa.2 ⟨k,z0a.2 j1,?_⟩⟩⟩
  rcases a.2 with rfl|rfl<;>simp)
 rw[kW (c:=l.length*(l.length*2)) _ (λi _=>by rw[kW (c:=l.length*2) _ (λj _=>by rw[kW (c:=2) _ (λk _=>rfl),zxb]),zxb]),zxb] at h1
 refine zHa h1 ?_;have a1:l.length*2<=200:=j1
 have a2:l.length*(l.length*2)<=100*200:=z9a hl a1;have a3:l.length*(l.length*(l.length*2))<=100*(100*200):=z9a hl a2;exact a3
def dW{l:List V}{i:Nat}(h:i<l.length):(l.map ae)[i]?=some (ae (l.getD i V.zero)):=by simp[h,List.getD]
def df{l:List V}{i:Nat}(h:i<l.length):l.getD i V.zero∈l:=by simp[List.getD,h]
def Hf{n:Nat}{l:List V}{K:List (V×Int)}{q:V×Int}(hl:∀ x∈l,bd MV x)(hq:bd 549755813888 q.1)(hlen:l.length<=1000) :
  (if(!decide (q∈K))=true then((cA (n+2) 98 [bu l,cR q]).bind λr=>D.truth r) else some false)=some (!decide (q∈K)&&supp l q):=by
 obtain⟨m,d⟩:=q;have hc:=c98 n (d:=d) hl hq j2 j1
 simp only[hc,zba,ac];cases decide ((m,d)∈K)<;>rfl
def NU{a b:V}(h:aM a b):sf [bB a.x b.x,bB a.y b.y,bB a.z b.z]=-1:=by
 simp only[aM] at h;rcases h with h|⟨h1,h|⟨h2,h⟩⟩
 ·simp[sf,bB,h]
 ·simp[sf,bB,h1,h]
 ·simp[sf,bB,h1,h2,h]
def NT{a b:V}(h:aM b a):sf [bB a.x b.x,bB a.y b.y,bB a.z b.z]=1:=by
 simp only[aM] at h;rcases h with h|⟨h1,h|⟨h2,h⟩⟩
 ·simp[sf,bB,h,zWb.2 (zpa h)]
 ·simp[sf,bB,h1,h,zWb.2 (zpa h)]
 ·simp[sf,bB,h1,h2,h,zWb.2 (zpa h)]
def NS(a:V):sf [bB a.x a.x,bB a.y a.y,bB a.z a.z]=0:=by simp[sf,bB]
theorem Gg{α:Type}(key:α->V):∀ (K:List α),K.Pairwise (λa b=>key a≠key b)->∃ L:List α,L.Perm K/\L.Pairwise (λa b=>aM (key a) (key b))
 | [],_=>⟨[],.refl _,.nil⟩
 | x::K,h=>by
  obtain⟨h1,h2⟩:=zOa.1 h;obtain⟨L,e,g⟩:=Gg key K h2;have d:∀ y∈L,key x≠key y:=λy hy=>h1 y (e.subset hy);have ins:∀ L:List α,L.Pairwise (λa b=>aM (key a) (key b))->(∀ y∈L,key x≠key y)->∃ M:List α,M.Perm (x::L)/\M.Pairwise (λa b=>aM (key a) (key b)):=by
   intro L
   induction L with
   | nil=>intro _ _;exact⟨[x],.refl _,j3⟩
   | cons y L ih=>
    intro hp hn;obtain⟨f,i⟩:=zOa.1 hp;rcases tq (hn y zva) with k|k
    ·refine⟨x::y::L,.refl _,zOa.2 ⟨λz c=>?_,hp⟩⟩;rcases zEa.1 c with rfl|c
     ·exact k
     ·exact nT k (f z c)
    ·obtain⟨M,m1,m2⟩:=ih i (λz c=>hn z (zoa _ c));refine⟨y::M,(m1.cons y).trans (.swap x y L),zOa.2 ⟨λz c=>?_,m2⟩⟩;rcases zEa.1 (m1.subset c) with rfl|c
     ·exact k
     ·exact f z c
  obtain⟨M,m1,m2⟩:=ins L g d;exact⟨M,m1.trans (e.cons x),m2⟩
def Fa(n:Nat)(p q:V×Int):vD (dG aU (cA (n+3)) (kl aU (cA (n+3)))) (cO 100) (cR p) (cR q)=some (sf [bB p.1.x q.1.x,bB p.1.y q.1.y,bB p.1.z q.1.z]):=by
 unfold vD;rw[show ∀ l,(dG aU (cA (n+3)) (kl aU (cA (n+3)))).call (cO 100) l=cA (n+3) 100 l from λl=>congrFun (zna (cA (n+3)) (show vA (cO 100)=100 by kernel_rfl)) l,Y9]
 rfl
theorem IT(n:Nat):∀ (L:List (V×Int)),L.Pairwise (λa b=>aM a.1 b.1)->uG (dG aU (cA (n+3)) (kl aU (cA (n+3)))) (cO 100) (L.map cR)=true
 | [],_=>rfl
 | p::L,h=>by
  obtain⟨h1,h2⟩:=zOa.1 h;simp only[zjb,uG,zaa,zDa,zSa];refine⟨⟨?_,?_⟩,IT n L h2⟩
  ·simp only[HT,Fa,NS];decide
  ·rintro _ ⟨q,hq,rfl⟩;simp only[tw,HT,Fa,NU (h1 q hq),NT (h1 q hq)];decide
def OQ(n:Nat){K L:List (V×Int)}(hp:L.Perm K)(h:L.Pairwise (λa b=>aM a.1 b.1)):kJ (dG aU (cA (n+3)) (kl aU (cA (n+3)))) (cO 100) (K.map cR)=some (L.map cR):=
 xi (IT n L h) (hp.symm.map _)
def pt(l:List V)(i:Nat):V:=l.getD i V.zero
def oD(a b:V):V.dot a.neg b=- V.dot a b:=by simp only[V.dot,V.neg];grind
def Cd.dist{l:List V}{i j k:Nat}{q:V×Int}(h:Cd l i j k q):q.2=V.dot q.1 (l.getD i V.zero):=by
 rcases h.2 with rfl|rfl
 ·rfl
 ·simp only[oY,oD];rfl
def Gk{l:List V}{q:V×Int}(h:supp l q=true){x:V}(hx:x∈l):V.dot q.1 x<=q.2:=by simp only[supp,tK,zaa,zDa,zfa] at h;exact h.1 x hx
def Known.keys{l:List V}{i j k:Nat}{K:List (V×Int)}(h:Known l i j k K):K.Pairwise (λa b=>a.1≠b.1):=by refine z5c (λ{a b} f g c e=>c ?_) h.nd;obtain⟨s1,i1,o,q,_,_,h1,c1⟩:=h.ok a f;obtain⟨s2,i2,p,r,_,_,h2,c2⟩:=h.ok b g;have d:=c1.dist;have n:=c2.dist;have m:=Gk s1 (df h2);have s:=Gk s2 (df h1);rw[e] at d m;exact Prod.ext e j1
def p45(n:Nat){l:List V}(hl:∀ x∈l,bd MV x)(hlen:l.length<=100):∃ y,cA (n+6) 45 [bu l]=some y/\∃ K L:List (V×Int),Known l l.length 0 0 K/\L.Perm K/\L.Pairwise (λa b=>aM a.1 b.1)/\y=.sl (L.map cR):=by
 rw[u45];unfold RP;simp only[bu,D.asSl,zba];refine nh (λi s=>∃ K,s=[I i,.sl (jt K)]/\Known l i 0 0 K) l.length 0 (zqa _) ⟨[],rfl,⟨List.nodup_nil,j3,λH J M _ _ _ h=>j1⟩⟩ (λi d s c=>?_) (λs c=>?_)
 ·obtain⟨K,rfl,hK⟩:=c;simp only[g0,g1,zxa,am,zba,ac,zfa,show((i:Int)<(l.length:Int)) from by omega,if_true,D.els]
  refine nh (λj s=>∃ K,s=[I j,.sl (jt K)]/\Known l i j 0 K) i 0 (zqa _) ⟨K,rfl,hK⟩ (λj F s c=>?_) (λs c=>?_)
  ·obtain⟨K,rfl,hK⟩:=c;simp only[g0,g1,am,zba,ac,zfa,show((j:Int)<(i:Int)) from by omega,if_true,D.els]
   refine nh (λk s=>∃ K,s=[I k,.sl (jt K)]/\Known l i j k K) j 0 (zqa _) ⟨K,rfl,hK⟩ (λk hk s c=>?_) (λs c=>?_)
   ·obtain⟨K,rfl,hK⟩:=c;have e:=Qb (hl _ (df d)) (hl _ (df (show j<l.length by omega))) (hl _ (df (show k<l.length by omega)))
    have hc:=c96 (n+2) (hl _ (df d)) (hl _ (df (show j<l.length by omega))) (hl _ (df (show k<l.length by omega)))
    rw[show(aR (V.cross ((l.getD j V.zero).sub (l.getD i V.zero)) ((l.getD k V.zero).sub (l.getD i V.zero))),V.dot (aR (V.cross ((l.getD j V.zero).sub (l.getD i V.zero)) ((l.getD k V.zero).sub (l.getD i V.zero)))) (l.getD i V.zero))=rS (l.getD i V.zero) (l.getD j V.zero) (l.getD k V.zero) from rfl] at hc;simp only[g0,g1,am,zba,ac,zfa,show((k:Int)<(j:Int)) from by omega,if_true,D.els,zxa,aq d,aq (show j<l.length by omega),aq (show k<l.length by omega),dW d,dW (show j<l.length by omega),dW (show k<l.length by omega),hc]
    by_cases hz:(rS (l.getD i V.zero) (l.getD j V.zero) (l.getD k V.zero)).1=V.zero
    ·have t:D.beq (ae (rS (l.getD i V.zero) (l.getD j V.zero) (l.getD k V.zero)).1) (D.st [D.int .i64 0,D.int .i64 0,D.int .i64 0])=true:=by
      rw[vS,ks];exact zha hz
     simp only[show D.get (cR (rS (l.getD i V.zero) (l.getD j V.zero) (l.getD k V.zero))) [0]=some (ae (rS (l.getD i V.zero) (l.getD j V.zero) (l.getD k V.zero)).1) from rfl,zba,t,ac,if_true,g0,D.els,aC (aL (i:=k) j1)]
     exact⟨_,rfl,K,rfl,hK.skip hz⟩
    ·have t:D.beq (ae (rS (l.getD i V.zero) (l.getD j V.zero) (l.getD k V.zero)).1) (D.st [D.int .i64 0,D.int .i64 0,D.int .i64 0])=false:=by
      rw[vS,ks];exact zca hz
     have step:=hK.step hk F d hz;generalize hq:rS (l.getD i V.zero) (l.getD j V.zero) (l.getD k V.zero)=q at *;obtain⟨f,G,C⟩:=e;have u:D.st [ae q.1.neg,I (-q.2)]=cR (oY q):=rfl;have E:bd 549755813888 (oY q).1:=sC f;simp only[show D.get (cR q) [0]=some (ae q.1) from rfl,show D.get (cR q) [1]=some (I q.2) from rfl,zba,t,ac,zFa,if_false,RY (n+4) f j2,ou C,u]
     have one:∀ (K:List (V×Int)) (p:V×Int),bd 549755813888 p.1->((afB .not (Option.getD (afu (jt K) (cR p)) (D.bool false))).bind λw=>(D.truth w).bind λg=>Option.bind (if g then((cA (n+5) 98 [D.sl (l.map ae),cR p]).bind λv=>D.truth v) else(some false)) λm=>
       if m then(some ((0:Nat),[(D.sl [cR q,cR (oY q)]),(D.sl (afv (jt K) (cR p) (D.bool true)))])) else(some (0,[(D.sl [cR q,cR (oY q)]),(D.sl (jt K))])))=some (0,[D.sl [cR q,cR (oY q)],D.sl (jt (jY l K p))]):=λK p hp=>by
      rw[yS];have ht:=Hf (n:=n+3) (K:=K) hl hp j1
      simp only[bu] at ht;by_cases hm:p∈K
      ·simp[hm,aV,ac,jY]
      ·simp only[hm,if_false,Option.getD_none,aV,zUb,zba,ac,if_true,decide_false,zqb] at ht ⊢;rw[ht];simp only[zba,jY,hm,if_false];split
       ·rw[yU K p hm]
       ·rfl
     refine⟨.inl [I ((k+1:Nat):Int),.sl (jt (jY l (jY l K q) (oY q)))],?_,_,rfl,step⟩;refine aa (z:=(0,[.sl (jt (jY l (jY l K q) (oY q)))])) ?_ ?_
     ·refine bg (s':=[.sl [cR q,cR (oY q)],I 1,.sl (jt (jY l K q))]) ?_ (bg (s':=[.sl [cR q,cR (oY q)],I 2,.sl (jt (jY l (jY l K q) (oY q)))]) ?_ (eJ (r:=(0,[.sl (jt (jY l (jY l K q) (oY q)))])) ?_ rfl))
      ·simp only[g0,g1,g2,D.els,am,zba,ac,zfa,show((0:Int)<2) from by decide,if_true,zQa,zJb,show D.idx (I 0) (0+1+1)=some 0 from rfl,z0b,aC PF]
       exact aa (one K q f) rfl
      ·simp only[g0,g1,g2,D.els,am,zba,ac,zfa,show((1:Int)<2) from by decide,if_true,zQa,zJb,show D.idx (I 1) (0+1+1)=some 1 from rfl,zvb,z0b,aC uY]
       exact aa (one (jY l K q) (oY q) E) rfl
      ·simp only[g0,g1,g2,D.els,am,zba,ac];rfl
     ·simp only[g0,D.els,aC (aL (i:=k) j1),zba]
      rfl
   ·obtain⟨K,rfl,hK⟩:=c;simp only[g0,g1,am,zba,ac,zfa,zPc,if_false,D.els];refine⟨_,rfl,.inl [I ((j+1:Nat):Int),.sl (jt K)],?_,K,rfl,hK.next⟩
    simp only[g0,D.els,aC (aL (i:=j) j1),zba]
    rfl
  ·obtain⟨K,rfl,hK⟩:=c;simp only[g0,g1,am,zba,ac,zfa,zPc,if_false,D.els];refine⟨_,rfl,.inl [I ((i+1:Nat):Int),.sl (jt K)],?_,K,rfl,hK.next2⟩;simp only[g0,D.els,aC (aL (i:=i) j1),zba]
   rfl
 ·obtain⟨K,rfl,hK⟩:=c;simp only[g0,g1,zxa,am,zba,ac,zfa,zPc,if_false,D.els];obtain⟨L,A,B⟩:=Gg (λq:V×Int=>q.1) K hK.keys;refine⟨_,rfl,.sl (L.map cR),?_,K,L,hK,A,B,rfl⟩;have o:(jt K).length<=1073741824:=by
   have:=hK.len hlen;simp only[jt,zxa];omega
  simp only[g0,D.els,o,decide_true,if_true,GY,OQ (n+2) A B,zba]
def rQ{l:List V}{q:V×Int}:supp l q=true↔Du (pt l) l.length q.1 q.2:=by
 simp only[supp,tK,lJ,zaa,zDa,z9b,zfa,Du,pt];constructor
 ·rintro⟨h1,x,hx,h2⟩;obtain⟨k,hk,rfl⟩:=z3a hx;exact⟨λk hk=>h1 _ (df hk),k,hk,by simpa [List.getD,hk] using h2⟩
 ·rintro⟨h1,k,hk,h2⟩;refine⟨λx hx=>?_,_,df hk,h2⟩;obtain⟨k,hk,rfl⟩:=z3a hx;simpa [List.getD,hk] using h1 k hk
def O2(P:Nat->V)(i j k:Nat):V.cross ((P j).sub (P i)) ((P k).sub (P i))=(dA P k j i).neg:=by apply V.ext'<;>simp only[dA,wy,V.cross,V.sub,V.neg]<;>grind
def BS{P:Nat->V}{i j k:Nat}:V.dot (aR (dA P i j k)) (P k)=V.dot (aR (dA P i j k)) (P i):=by
 by_cases h:dA P i j k=V.zero
 ·have a:aR V.zero=V.zero:=by apply V.ext'<;>simp[aR,V.zero]
  rw[h,a];simp[V.dot,V.zero]
 ·have g:=fD h;have e:=ge (dA P i j k);have t2:V.dot (dA P i j k) (wy P i k)=0:=by simp only[dA,V.dot,V.cross];grind
  rw[e] at t2;have:(br (dA P i j k):Int)*V.dot (aR (dA P i j k)) (wy P i k)=0:=by rw[<-t2];simp only[V.dot,V.smul];grind
  have h0:=aG j1 this
  rw[bF] at h0;omega
def J1{v:V}(h:v≠V.zero):v.neg≠V.zero:=λe=>by have a:=zna V.x e;have b:=zna V.y e;have c:=zna V.z e;simp only[V.neg,V.zero] at a b c;exact h (V.ext' (by simp only[V.zero];omega) (by simp only[V.zero];omega) (by simp only[V.zero];omega))
def OZ(l:List V)(i j k:Nat):(rS (pt l i) (pt l j) (pt l k)).1=(aR (dA (pt l) k j i)).neg:=by simp only[rS,O2 (pt l) i j k,CN]
def CB(v:V):v.neg.neg=v:=by apply V.ext'<;>simp[V.neg]
def HW{l:List V}{i j k:Nat}{q:V×Int}:Cd l i j k q↔dA (pt l) k j i≠V.zero/\(q.1=aR (dA (pt l) k j i)\/q.1=(aR (dA (pt l) k j i)).neg)/\q.2=V.dot q.1 (pt l k):=by
 have e:=OZ l i j k;have c:V.dot (aR (dA (pt l) k j i)) (pt l i)=V.dot (aR (dA (pt l) k j i)) (pt l k):=BS;have g:(rS (pt l i) (pt l j) (pt l k)).1≠V.zero↔dA (pt l) k j i≠V.zero:=by
  rw[e];constructor
  ·intro h h0;rw[h0] at h;exact h rfl
  ·intro h;exact J1 (ve h)
 constructor
 ·intro h;have d:=h.dist;obtain⟨h1,h2⟩:=h;refine⟨g.1 h1,?_⟩;have hq:q.1=aR (dA (pt l) k j i)\/q.1=(aR (dA (pt l) k j i)).neg:=by
   rcases h2 with rfl|rfl
   ·exact .inr e
   ·left;show(rS (pt l i) (pt l j) (pt l k)).1.neg=_;rw[e,CB]
  refine⟨hq,?_⟩;rw[d];rcases hq with hq|hq
  ·rw[hq];exact c
  ·rw[hq,oD,oD];exact zna Neg.neg c
 ·rintro⟨h1,h2,h3⟩;refine⟨g.2 h1,?_⟩;have f:(rS (pt l i) (pt l j) (pt l k)).2=V.dot (rS (pt l i) (pt l j) (pt l k)).1 (pt l i):=rfl;obtain⟨a,b⟩:=q;simp only at h2 h3;subst h3;rcases h2 with rfl|rfl
  ·right;show _=((rS (pt l i) (pt l j) (pt l k)).1.neg,-(rS (pt l i) (pt l j) (pt l k)).2);rw[f,e,CB,oD,c,Int.neg_neg]
  ·left;refine Prod.ext e.symm ?_;show _=(rS (pt l i) (pt l j) (pt l k)).2;rw[f,e,oD,oD,c]
def Known.facets{l:List V}{K L:List (V×Int)}(h:Known l l.length 0 0 K)(hp:L.Perm K)(d:L.Pairwise (λa b=>aM a.1 b.1)):Facets (pt l) l.length L:=by
 refine⟨d,λq=>⟨λhq=>?_,λhq=>?_⟩⟩
 ·obtain⟨hs,i,j,k,h1,h2,h3,hc⟩:=h.ok q (hp.subset hq);obtain⟨c1,c2,c⟩:=HW.1 hc;exact⟨⟨k,j,i,h1,h2,h3,c1,c2,c⟩,rQ.1 hs⟩
 ·obtain⟨⟨i,j,k,h1,h2,h3,c1,c2,c⟩,hs⟩:=hq;exact hp.symm.subset (h.all k j i h1 h2 h3 (.inl h3) q (HW.2 ⟨c1,c2,c⟩) (rQ.2 hs))
def kT:Option Nat->D
 | none=>I (-1)
 | some b=>I (b:Int)
def Rc{α:Type}{p:Prop}[Decidable p]{A B:α}(h:p):(if decide p=true then A else B)=A:=by rw[zja (zha h)]
def Rd{α:Type}{p:Prop}[Decidable p]{A B:α}(h:¬ p):(if decide p=true then A else B)=B:=by rw[zia (by simpa using h)]
def aK{α:Type}{p:Prop}[Decidable p]{A B y:α}(h:p)(a:A=y):(if decide p=true then A else B)=y:=by rw[zja (zha h)];exact a
def aO{α:Type}{p:Prop}[Decidable p]{A B y:α}(h:¬ p)(a:B=y):(if decide p=true then A else B)=y:=by rw[zia (by simpa using h)];exact a
def Gb{x:Int}:sg x<0↔x<0:=by unfold sg;split<;>(try split)<;>omega
def eQ{x:Int}:sg x=0↔x=0:=by unfold sg;split<;>(try split)<;>omega
def cW(a b:Nat):D.beq (I (a:Int)) (I (b:Int))=decide (a=b):=by rw[bY];by_cases h:a=b<;>simp[h];omega
def QI(n:Nat){l:List V}(hl:∀ x∈l,bd MV x){m:V}{d:Int}{a k:Nat}{best:Option Nat}(E:m≠V.zero)(e:a<l.length)(hk:k<l.length)(Z:∀ b,best=some b->b<l.length/\V.dot m (wy (pt l) a b)=0)(B:V.dot m (wy (pt l) a k)=0)(X:D) :
  ((D.truth (D.bool (D.beq (I (k:Int)) (I (a:Int))))).bind λs=>
  if s then(some ((0:Nat),[kT best,X])) else((afn .lss (kT best) (D.int .i64 0)).bind λJ=>
  (D.truth J).bind λt=>
  if t then(some (0,[I (k:Int),X])) else((D.asSl (bu l)).bind λi=>
  (D.idx (I (k:Int)) (List.length i)).bind λi29=>
  (i[i29]?).bind λK=>
  (D.asSl (bu l)).bind λj=>
  (D.idx (I (a:Int)) (List.length j)).bind λi32=>
  (j[i32]?).bind λL=>
  (cA (n+4) 103 [K,L]).bind λf=>
  (D.asSl (bu l)).bind λo=>
  (D.idx (kT best) (List.length o)).bind λi36=>
  (o[i36]?).bind λM=>
  (D.asSl (bu l)).bind λp=>
  (D.idx (I (a:Int)) (List.length p)).bind λi39=>
  (p[i39]?).bind λN=>
  (cA (n+4) 103 [M,N]).bind λg=>
  (D.get (cR (m,d)) [0]).bind λO=>
  (cA (n+4) 104 [O,g,f]).bind λq=>
  (afn .lss q (D.int .i64 0)).bind λP=>
  (D.truth P).bind λu=>
  Option.bind (if u then(some true) else((D.truth (D.bool (D.beq q (D.int .i64 0)))).bind λv=>
  if v then((cA (n+4) 101 [f,f]).bind λF=>
  (cA (n+4) 101 [g,g]).bind λG=>
  (afn .gtr F G).bind λQ=>
  D.truth Q) else(some false))) λw=>
  (D.truth (D.bool w)).bind λy=>
  if y then(some (0,[I (k:Int),X])) else(some (0,[kT best,X])))))=some (0,[kT (dL m (pt l) a best k),X]):=by
 by_cases hka:k=a
 ·subst hka;have h0:D.beq (I (k:Int)) (I (k:Int))=true:=by rw[cW];simp
  rw[h0,show dL m (pt l) k best k=best from zja rfl];exact j0 true (zja rfl)
 ·have h0:D.beq (I (k:Int)) (I (a:Int))=false:=by rw[cW];simp[hka]
  rw[h0];refine j0 false ?_;rw[zia j2]
  have h:∀ b,dL m (pt l) a b k=match b with
   | none=>some k
   | some b=>if sD m (pt l) a b k then some k else some b:=λb=>zia hka
  rw[h];clear h h0;cases best with
  | none=>exact j0 (.bool true) (j0 true rfl)
  | some b=>
   obtain⟨c,A⟩:=Z b rfl;have c1:=Iz (n+2) (hl _ (df hk)) (hl _ (df e)) j2
   have c2:=Iz (n+2) (hl _ (df c)) (hl _ (df e)) j2
   have w1:bd 524288 (wy (pt l) a k):=po (hl _ (df e)) (hl _ (df hk));have H:bd 524288 (wy (pt l) a b):=po (hl _ (df e)) (hl _ (df c));have W:(l.getD k V.zero).sub (l.getD a V.zero)=wy (pt l) a k:=rfl;have Y:(l.getD b V.zero).sub (l.getD a V.zero)=wy (pt l) a b:=rfl;rw[W] at c1;rw[Y] at c2;have R:=Za (n+1) (m:=m) H w1 j2
   have S:=Iy (n+3) w1 w1 j2
   have U:=Iy (n+3) H H j2
   have hle:=FD E (ff A B);rw[hle] at R;have C:¬ ((b:Int)<0):=j1
   have r:(l.map ae).length=l.length:=zxa ..;refine aa (z:=.bool false) (by rw[show kT (some b)=I (b:Int) from rfl,am,zca C]) (j0 false ?_)
   rw[zia j2]
   refine j0 (l.map ae) (aa (z:=k) (by rw[r];exact aq hk) (aa (dW hk) ?_))
   refine j0 (l.map ae) (aa (z:=a) (by rw[r];exact aq e) (aa (dW e) ?_))
   refine aa c1 ?_;refine j0 (l.map ae) (aa (z:=b) (by rw[r];exact aq c) (aa (dW c) ?_))
   refine j0 (l.map ae) (aa (z:=a) (by rw[r];exact aq e) (aa (dW e) ?_))
   refine aa c2 (j0 (ae m) (aa R (aa am (aa ac ?_))));simp only[Gb,bY,eQ,ac,zba,S,U,cK,sD,T];by_cases t1:V.dot m (V.cross (wy (pt l) a b) (wy (pt l) a k))<0
   ·simp[t1,kT]
   ·by_cases t2:V.dot m (V.cross (wy (pt l) a b) (wy (pt l) a k))=0
    ·by_cases t3:V.dot (wy (pt l) a b) (wy (pt l) a b)<V.dot (wy (pt l) a k) (wy (pt l) a k)
     ·simp[t2,t3,kT]
     ·simp[t2,t3,kT]
    ·simp[t1,t2,kT]
def ah(L:List Nat):List D:=L.map λ(k:Nat)=>I (k:Int)
def ao(L:List Nat):(ah L).length=L.length:=zxa ..
def yt{L:List Nat}{t k:Nat}(h:L[t]?=some k):(ah L)[t]?=some (I (k:Int)):=by simp[ah,h]
def Ft{n:Nat}(h:0<n):D.idx (D.int .i64 0) n=some 0:=aq (i:=0) h
theorem wa{m:V}{P:Nat->V}{a:Nat}:∀ (L:List Nat) (best:Option Nat) (b:Nat),L.foldl (dL m P a) best=some b->b∈L\/best=some b
 | [],best,b,h=>.inr h
 | k::L,best,b,h=>by
  rw[zLc] at h;rcases wa L _ b h with h1|h1
  ·exact .inl (zoa _ h1)
  ·unfold dL at h1;split at h1
   ·exact .inr h1
   ·split at h1
    ·cases h1;exact .inl zva
    ·split at h1<;>cases h1
     ·exact .inl zva
     ·exact .inr rfl
theorem vC{body:Bd}{S:Nat->Nat->Prop}{a:Nat}{G:Nat->Prop}(g:∀ c b,G c->S c b->b≠a->G b)
  (d:∀ (c b:Nat) (out:List Nat),G c->c≠a->S c b->out.length<=1000->body [.sl (ah out),I (c:Int)]=some (.inl [.sl (ah (out++[c])),I (b:Int)]))
  (e:∀ out:List Nat,body [.sl (ah out),I (a:Int)]=some (.inr (0,[.sl (ah out)]))) :
  ∀ {c:Nat} {p:List Nat},Chain S a c p->G c->c≠a->∀ out:List Nat,(out++p).length<=1000->aU body [.sl (ah out),I (c:Int)]=some (0,[.sl (ah (out++p))])
 | c,_,.done s,hc,f,out,hl=>by
  have h1:=d c a out hc f s (by simp at hl;omega)
  rw[show aU body [.sl (ah out),I (c:Int)]=aU body [.sl (ah (out++[c])),I (a:Int)] from dq h1];exact de (e _)
 | c,_,.step (y:=y) (l:=p) s hy k,hc,f,out,hl=>by
  have h1:=d c y out hc f s (by simp at hl;omega)
  rw[show aU body [.sl (ah out),I (c:Int)]=aU body [.sl (ah (out++[c])),I (y:Int)] from dq h1];have:=vC g d e k (g c y hc s hy) hy (out++[c]) (by simpa using hl)
  rw[this];simp
def lS{P:Nat->V}{i:Nat}{m:V}{d:Int}:bD P (i+1) m d=if V.dot m (P i)=d then bD P i m d++[i] else bD P i m d:=by
 unfold bD;rw[zkc,List.filter_append];by_cases h:V.dot m (P i)=d
 ·simp[h]
 ·simp[h]
def p46(n:Nat){l:List V}(hl:∀ x∈l,bd MV x)(hlen:l.length<=100)(hs:∀ i j,i<j->j<l.length->aM (pt l i) (pt l j)){m:V}{d:Int}(hF:IsF (pt l) l.length m d)(hm:bd 549755813888 m) :
  ∃ p,bU (pt l) l.length m d p/\cA (n+5) 46 [bu l,cR (m,d)]=some (.sl (ah p)):=by
 obtain⟨p,hp,ai,A⟩:=hF.poly hs;refine⟨p,hp,?_⟩;have F:=hF.flat hs;obtain⟨a,q,C,O,K,h3⟩:=hF.head hs;obtain⟨a',v,L⟩:=hp;rw[q] at v;cases v;obtain⟨on,u⟩:∃ on,bD (pt l) l.length m d=on:=⟨_,rfl⟩;rw[u] at F q C O K h3 L A;have H:∀ k∈on,k<l.length:=λk hk=>by rw[<-u] at hk;exact(aD.1 hk).1
 have N:∀ k∈on,V.dot m (pt l k)=d:=λk hk=>by rw[<-u] at hk;exact(aD.1 hk).2
 have hw:∀ b∈on,∀ k∈on,V.dot m (wy (pt l) b k)=0:=λb w k hk=>by rw[bF,N b w,N k hk];omega
 have al:on.length<=100:=by rw[<-u];unfold bD;exact zHa (zJc _ _) (by rw[zxb];exact hlen)
 have ax:p.length<=on.length:=z4b ai λz hz=>((A z).1 hz).1;have ll:(l.map ae).length=l.length:=zxa ..;have r:=λ(c k:Nat) (hc:c∈on) (hk:k∈on) (best:Option Nat) (w:∀ b,best=some b->b∈on) (X:D)=>QI n hl (d:=d) hF.nz.1 (H c hc) (H k hk) (best:=best) (λb e=>⟨H b (w b e),hw c hc b (w b e)⟩) (hw c hc k hk) X;have P:∀ c∈on,Geo.nu (pt l) on c->∃ b,on.foldl (dL m (pt l) c) none=some b/\Side m (pt l) on c b:=λc hc ec=>y9 F hc ec (h3 c hc);obtain⟨t0,B⟩:∃ t0,on=a::t0:=by
  cases hx:on with
  | nil=>rw[hx] at C;simp at C
  | cons y t0=>rw[hx] at q;simp at q;subst q;exact⟨t0,rfl⟩
 have f:(ah on)[0]?=some (I (a:Int)):=by rw[B];rfl
 have g:0<(ah on).length:=by rw[ao,B];simp
 rw[u46]
 delta UD qG qB qC qT qS qX qV qW qZ iL iR Jn
 refine j0 (l.map ae) ?_;refine bR (λi s=>s=[I (i:Int),.sl (ah (bD (pt l) i m d))]) l.length 0 (zqa _) rfl (λi hi s o=>?_) (λs o=>?_)
 ·subst o;left;refine⟨_,?_,rfl⟩;refine aa am (aa ac ?_);refine aK (by show((i:Int)<((l.map ae).length:Int));rw[ll];omega) ?_
  refine aa (z:=(0,[.sl (ah (bD (pt l) (i+1) m d))])) ?_ (aa (aC (aL (i:=i) j1)) rfl)
  refine j0 (l.map ae) (aa (z:=i) (by rw[ll];exact aq hi) (aa (dW hi) (j0 (ae m) (aa (Iy (n+3) hm (hl _ (df hi)) j2) (j0 (I d) ?_)))))
  rw[bY];refine aa ac ?_;rw[lS];by_cases hd:V.dot m (pt l i)=d
  ·have E:V.dot m (l.getD i V.zero)=d:=hd;rw[zja hd,Rc E,zja ?_]
   ·simp[g1,D.els,ah,g0]
   ·have:(bD (pt l) i m d).length<=i:=by unfold bD;exact zHa (zJc _ _) j3
    simp only[g0,g1,D.els,ao,zQa,zJb];omega
  ·have E:¬ V.dot m (l.getD i V.zero)=d:=hd;rw[zia hd,Rd E];rfl
 ·subst o;refine⟨(0,[.sl (ah on)]),?_,?_⟩
  ·refine aa am (aa ac ?_);rw[<-u];exact aO (by show ¬ ((l.length:Int)<((l.map ae).length:Int));rw[ll];omega) rfl
  refine aa (Ft g) (aa f (aa (Ft g) (aa f ?_)));obtain⟨U,Z,J⟩:=P a C O;refine bR (λt s=>s=[kT ((on.take t).foldl (dL m (pt l) a) none),.sl (ah on),I (t:Int),.sl (ah on)]) on.length 0 (zqa _) rfl (λt ht s o=>?_) (λs o=>?_)
  ·subst o;left;refine⟨_,?_,rfl⟩;refine aa am (aa ac ?_);refine aK (by show((t:Int)<((ah on).length:Int));rw[ao];omega) ?_
   have hk:on[t]?=some on[t]:=zda ht;refine aa (z:=(0,[kT ((on.take (t+1)).foldl (dL m (pt l) a) none),.sl (ah on)])) ?_ (aa (aC (aL (i:=t) j1)) rfl)
   refine j0 (ah on) (aa (z:=t) (by rw[ao];exact aq ht) (aa (yt hk) ?_))
   rw[zJa ht,List.foldl_append,zLc,List.foldl_nil];exact r a on[t] C (zBa ht) _ (λb w=>by
    rcases wa _ _ b w with h|h
    ·exact zVa h
    ·cases h) (.sl (ah on))
  ·subst o;rw[zub,Z];refine⟨(0,[I (U:Int),.sl (ah on)]),?_,?_⟩
   ·refine aa am (aa ac ?_);refine aO (by show ¬ ((on.length:Int)<((ah on).length:Int));rw[ao];omega) ?_
    rfl
   obtain⟨T,Q,M,hy⟩:∃ T,p=a::T/\Chain (Side m (pt l) on) a U T/\U≠a:=by
    cases L with
    | done s=>exact z4a rfl s.ne
    | step s aj k=> have:=afY F C s J;subst this;exact⟨_,rfl,k,aj⟩
   refine nV (vC (S:=Side m (pt l) on) (a:=a) (G:=λc=>c∈on/\Geo.nu (pt l) on c) (λc b hc s _=>⟨s.mem,s.ext F hc.1⟩) (λc b out hc ad ak an=>?_) (λout=>?_) M ⟨J.mem,J.ext F C⟩ hy [a] ?_) ?_
   ·obtain⟨b',Y,R⟩:=P c hc.1 hc.2;have:=afY F hc.1 ak R;subst this;refine j0 (ah on) (aa (Ft g) (aa f ?_));have W:D.beq (I (c:Int)) (I (a:Int))=false:=by rw[cW];simp[ad]
    refine aa (z:=true) (by show D.truth (D.bool (!(D.beq (I (c:Int)) (I (a:Int)))))=_;rw[W];rfl) ?_
    rw[zja rfl,zja (by simp only[g0,D.els,ao,zQa,zJb];omega)]
    refine j0 (ah on) ?_;refine cr (λt s=>s=[kT ((on.take t).foldl (dL m (pt l) c) none),I (t:Int)]) on.length 0 (zqa _) rfl (λt ht s o=>?_) (λs o=>?_)
    ·subst o;left;refine⟨_,?_,rfl⟩;refine aa am (aa ac ?_);refine aK (by show((t:Int)<((ah on).length:Int));rw[ao];omega) ?_
     have hk:on[t]?=some on[t]:=zda ht;refine aa (z:=(0,[kT ((on.take (t+1)).foldl (dL m (pt l) c) none),.sl (ah on)])) ?_ (aa (aC (aL (i:=t) j1)) rfl)
     refine j0 (ah on) (aa (z:=t) (by rw[ao];exact aq ht) (aa (yt hk) ?_))
     rw[zJa ht,List.foldl_append,zLc,List.foldl_nil];exact r c on[t] hc.1 (zBa ht) _ (λb w=>by
      rcases wa _ _ b w with h|h
      ·exact zVa h
      ·cases h) (.sl (ah on))
    ·subst o;rw[zub,Y];refine⟨(0,[I (b:Int)]),?_,?_⟩
     ·refine aa am (aa ac ?_);refine aO (by show ¬ ((on.length:Int)<((ah on).length:Int));rw[ao];omega) ?_
      rfl
     ·simp[g0,g1,D.els,ah]
   ·refine j0 (ah on) (aa (Ft g) (aa f ?_));have W:D.beq (I (a:Int)) (I (a:Int))=true:=by rw[cW];simp
    refine aa (z:=false) (by show D.truth (D.bool (!(D.beq (I (a:Int)) (I (a:Int)))))=_;rw[W];rfl) ?_
    rfl
   ·have:([a]++T).length=p.length:=by rw[Q];rfl
    omega
   ·rw[Q];rfl
end Sy
end
end Go.Proofs.YtphlmegkommlnaaGreatDoor
