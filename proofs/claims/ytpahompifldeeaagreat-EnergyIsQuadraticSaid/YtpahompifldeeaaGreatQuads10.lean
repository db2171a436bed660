/- Part 10 of the proof that For every valid body with few parts -/
import Derived.Test.YtpahompifldeeaaGreatQuads08
set_option linter.unusedVariables false
set_option linter.unusedSimpArgs false
set_option linter.unnecessarySimpa false
set_option linter.defProp false
set_option maxRecDepth 20000
namespace Go.Proofs.YtpahompifldeeaaGreat
noncomputable section
namespace Sy
open Go Go.Proofs
def aT:Lp:=λ{α β} body=>lO (α:=α) (β:=β) body
def cA(n:Nat):Nat->List D->Option D:=EC aT n
section
variable(n:Nat)(a0 a1 a2 a3 a4:D)
def TW:cA (n+1) 12 [a0]=LG aT (cA n) a0:=by kernel_rfl
def XU:cA (n+1) 13 [a0,a1]=NP aT (cA n) a0 a1:=by kernel_rfl
def XV:cA (n+1) 15 [a0]=NQ aT (cA n) a0:=by kernel_rfl
def XW:cA (n+1) 18 [a0]=NR aT (cA n) a0:=by kernel_rfl
def XX:cA (n+1) 19 [a0]=NS aT (cA n) a0:=by kernel_rfl
def XY:cA (n+1) 22 [a0]=NT aT (cA n) a0:=by kernel_rfl
def XZ:cA (n+1) 23 [a0]=NU aT (cA n) a0:=by kernel_rfl
def X0:cA (n+1) 24 [a0]=NV aT (cA n) a0:=by kernel_rfl
def X2:cA (n+1) 28 [a0]=NW aT (cA n) a0:=by kernel_rfl
def X3:cA (n+1) 29 [a0]=NX aT (cA n) a0:=by kernel_rfl
def u32:cA (n+1) 32 [a0,a1]=NY aT (cA n) a0 a1:=by kernel_rfl
def X4:cA (n+1) 33 [a0,a1]=NZ aT (cA n) a0 a1:=by kernel_rfl
def X5:cA (n+1) 34 [a0]=N0 aT (cA n) a0:=by kernel_rfl
def U4:cA (n+1) 37 [a0,a1]=LH aT (cA n) a0 a1:=by kernel_rfl
def VJ:cA (n+1) 38 [a0,a1]=Mh aT (cA n) a0 a1:=by kernel_rfl
def X7:cA (n+1) 40 [a0,a1]=N3 aT (cA n) a0 a1:=by kernel_rfl
def X8:cA (n+1) 45 [a0]=LI aT (cA n) a0:=by kernel_rfl
def X9:cA (n+1) 46 [a0,a1]=N5 aT (cA n) a0 a1:=by kernel_rfl
def Ya:cA (n+1) 47 [a0]=N6 aT (cA n) a0:=by kernel_rfl
def Yb:cA (n+1) 48 [a0]=N7 aT (cA n) a0:=by kernel_rfl
def Yc:cA (n+1) 52 [a0]=N8 aT (cA n) a0:=by kernel_rfl
def Yd:cA (n+1) 53 [a0,a1]=N9 aT (cA n) a0 a1:=by kernel_rfl
def Ye:cA (n+1) 54 [a0]=Oa aT (cA n) a0:=by kernel_rfl
def Yf:cA (n+1) 57 [a0,a1]=Oc aT (cA n) a0 a1:=by kernel_rfl
def Yg:cA (n+1) 58 [a0]=Od aT (cA n) a0:=by kernel_rfl
def VK:cA (n+1) 59 [a0,a1]=Mi aT (cA n) a0 a1:=by kernel_rfl
def Yh:cA (n+1) 61 [a0,a1]=Oe aT (cA n) a0 a1:=by kernel_rfl
def Vi:cA (n+1) 62 [a0,a1]=LJ aT (cA n) a0 a1:=by kernel_rfl
def u64:cA (n+1) 64 [a0,a1]=Of aT (cA n) a0 a1:=by kernel_rfl
def Yi:cA (n+1) 68 [a0]=Og aT (cA n) a0:=by kernel_rfl
def Yj:cA (n+1) 69 [a0,a1,a2]=Oh aT (cA n) a0 a1 a2:=by kernel_rfl
def Yk:cA (n+1) 70 [a0]=Oi aT (cA n) a0:=by kernel_rfl
def Yl:cA (n+1) 74 [a0]=Oj aT (cA n) a0:=by kernel_rfl
def Ym:cA (n+1) 75 [a0]=Ok aT (cA n) a0:=by kernel_rfl
def VL:cA (n+1) 76 [a0]=Mj aT (cA n) a0:=by kernel_rfl
def Yn:cA (n+1) 77 [a0]=Ol aT (cA n) a0:=by kernel_rfl
def Yo:cA (n+1) 78 [a0,a1]=Om aT (cA n) a0 a1:=by kernel_rfl
def Yp:cA (n+1) 79 [a0,a1]=On aT (cA n) a0 a1:=by kernel_rfl
def Yq:cA (n+1) 80 [a0]=Oo aT (cA n) a0:=by kernel_rfl
def VM:cA (n+1) 81 [a0,a1]=Mk aT (cA n) a0 a1:=by kernel_rfl
def Yr:cA (n+1) 82 [a0,a1]=Oq aT (cA n) a0 a1:=by kernel_rfl
def Ys:cA (n+1) 83 [a0]=Ot aT (cA n) a0:=by kernel_rfl
def Yt:cA (n+1) 84 []=Ou aT (cA n) :=by kernel_rfl
def VN:cA (n+1) 85 [a0,a1]=Ml aT (cA n) a0 a1:=by kernel_rfl
def Yu:cA (n+1) 86 [a0]=Ov aT (cA n) a0:=by kernel_rfl
def VO:cA (n+1) 87 [a0,a1]=Mm aT (cA n) a0 a1:=by kernel_rfl
def VP:cA (n+1) 88 [a0]=Mn aT (cA n) a0:=by kernel_rfl
def Vj:cA (n+1) 89 [a0,a1]=LK aT (cA n) a0 a1:=by kernel_rfl
def Yv:cA (n+1) 91 [a0,a1]=Ow aT (cA n) a0 a1:=by kernel_rfl
def Yw:cA (n+1) 96 [a0,a1,a2]=Ox aT (cA n) a0 a1 a2:=by kernel_rfl
def Yx:cA (n+1) 97 [a0]=Oy aT (cA n) a0:=by kernel_rfl
def Yy:cA (n+1) 98 [a0,a1]=Oz aT (cA n) a0 a1:=by kernel_rfl
def TD:cA (n+1) 100 [a0,a1]=GE aT (cA n) a0 a1:=by kernel_rfl
def TE:cA (n+1) 101 [a0,a1]=D8 aT (cA n) a0 a1:=by kernel_rfl
def TF:cA (n+1) 103 [a0,a1]=GF aT (cA n) a0 a1:=by kernel_rfl
def TG:cA (n+1) 104 [a0,a1,a2]=GG aT (cA n) a0 a1 a2:=by kernel_rfl
def TH:cA (n+1) 105 [a0,a1]=GH aT (cA n) a0 a1:=by kernel_rfl
def TI:cA (n+1) 106 [a0,a1,a2]=GI aT (cA n) a0 a1 a2:=by kernel_rfl
def TJ:cA (n+1) 107 [a0,a1]=GJ aT (cA n) a0 a1:=by kernel_rfl
def TL:cA (n+1) 108 [a0,a1]=GK aT (cA n) a0 a1:=by kernel_rfl
def TM:cA (n+1) 109 [a0,a1,a2]=GL aT (cA n) a0 a1 a2:=by kernel_rfl
def TN:cA (n+1) 110 [a0,a1]=GM aT (cA n) a0 a1:=by kernel_rfl
def TO:cA (n+1) 111 [a0,a1,a2]=GN aT (cA n) a0 a1 a2:=by kernel_rfl
def TP:cA (n+1) 112 [a0,a1]=GO aT (cA n) a0 a1:=by kernel_rfl
def TQ:cA (n+1) 115 [a0]=GP aT (cA n) a0:=by kernel_rfl
def TR:cA (n+1) 116 [a0,a1]=GQ aT (cA n) a0 a1:=by kernel_rfl
def TS:cA (n+1) 117 [a0,a1]=GR aT (cA n) a0 a1:=by kernel_rfl
def TT:cA (n+1) 118 [a0]=GS aT (cA n) a0:=by kernel_rfl
def TU:cA (n+1) 119 []=GT aT (cA n) :=by kernel_rfl
def TX:cA (n+1) 120 [a0,a1]=GU aT (cA n) a0 a1:=by kernel_rfl
def TY:cA (n+1) 121 [a0,a1]=GV aT (cA n) a0 a1:=by kernel_rfl
def TZ:cA (n+1) 122 [a0,a1]=GW aT (cA n) a0 a1:=by kernel_rfl
def T1:cA (n+1) 123 [a0,a1]=GX aT (cA n) a0 a1:=by kernel_rfl
def Lx:cA (n+1) 124 [a0]=Cw aT (cA n) a0:=by kernel_rfl
def T2:cA (n+1) 125 []=GY aT (cA n) :=by kernel_rfl
def T4:cA (n+1) 126 [a0,a1]=GZ aT (cA n) a0 a1:=by kernel_rfl
def T5:cA (n+1) 127 [a0]=G0 aT (cA n) a0:=by kernel_rfl
def NF:cA (n+1) 128 [a0]=D9 aT (cA n) a0:=by kernel_rfl
def T6:cA (n+1) 129 [a0]=G1 aT (cA n) a0:=by kernel_rfl
def T7:cA (n+1) 130 []=G2 aT (cA n) :=by kernel_rfl
def T8:cA (n+1) 131 [a0,a1]=G3 aT (cA n) a0 a1:=by kernel_rfl
def T9:cA (n+1) 132 [a0,a1]=G4 aT (cA n) a0 a1:=by kernel_rfl
def Ua:cA (n+1) 133 []=G5 aT (cA n) :=by kernel_rfl
def Ub:cA (n+1) 134 [a0,a1]=G6 aT (cA n) a0 a1:=by kernel_rfl
def Uc:cA (n+1) 135 [a0]=G7 aT (cA n) a0:=by kernel_rfl
def NG:cA (n+1) 136 [a0]=Ea aT (cA n) a0:=by kernel_rfl
def Ud:cA (n+1) 138 [a0]=G8 aT (cA n) a0:=by kernel_rfl
def NH:cA (n+1) 139 [a0]=Eb aT (cA n) a0:=by kernel_rfl
def Ue:cA (n+1) 140 [a0]=G9 aT (cA n) a0:=by kernel_rfl
def Uf:cA (n+1) 141 [a0,a1]=Ha aT (cA n) a0 a1:=by kernel_rfl
def Ug:cA (n+1) 142 [a0]=Hb aT (cA n) a0:=by kernel_rfl
def Uh:cA (n+1) 143 [a0,a1]=Hc aT (cA n) a0 a1:=by kernel_rfl
def Ui:cA (n+1) 144 [a0,a1]=Hd aT (cA n) a0 a1:=by kernel_rfl
def Uj:cA (n+1) 145 [a0]=He aT (cA n) a0:=by kernel_rfl
def Uk:cA (n+1) 146 [a0,a1]=Hf aT (cA n) a0 a1:=by kernel_rfl
def Ul:cA (n+1) 147 [a0,a1]=Hg aT (cA n) a0 a1:=by kernel_rfl
def Um:cA (n+1) 148 [a0]=Hh aT (cA n) a0:=by kernel_rfl
def Un:cA (n+1) 152 [a0,a1]=Hi aT (cA n) a0 a1:=by kernel_rfl
def Uo:cA (n+1) 154 [a0,a1]=Hj aT (cA n) a0 a1:=by kernel_rfl
def Up:cA (n+1) 155 [a0]=Hk aT (cA n) a0:=by kernel_rfl
def Uq:cA (n+1) 156 [a0,a1,a2,a3,a4]=Hl aT (cA n) a0 a1 a2 a3 a4:=by kernel_rfl
def Ur:cA (n+1) 165 [a0]=Hm aT (cA n) a0:=by kernel_rfl
def Us:cA (n+1) 167 [a0]=Hn aT (cA n) a0:=by kernel_rfl
def Ut:cA (n+1) 168 [a0,a1]=Ho aT (cA n) a0 a1:=by kernel_rfl
def Uu:cA (n+1) 169 []=Hp aT (cA n) :=by kernel_rfl
def Uv:cA (n+1) 170 [a0,a1]=Hq aT (cA n) a0 a1:=by kernel_rfl
def Uw:cA (n+1) 171 [a0]=Hr aT (cA n) a0:=by kernel_rfl
def Ux:cA (n+1) 172 [a0,a1]=Hs aT (cA n) a0 a1:=by kernel_rfl
def NI:cA (n+1) 173 [a0,a1]=Ec aT (cA n) a0 a1:=by kernel_rfl
def Ly:cA (n+1) 174 [a0,a1]=Cy aT (cA n) a0 a1:=by kernel_rfl
def Uy:cA (n+1) 175 [a0,a1]=Ht aT (cA n) a0 a1:=by kernel_rfl
def Uz:cA (n+1) 186 [a0]=Hu aT (cA n) a0:=by kernel_rfl
def UA:cA (n+1) 187 [a0]=Hv aT (cA n) a0:=by kernel_rfl
def UB:cA (n+1) 188 [a0,a1]=Hw aT (cA n) a0 a1:=by kernel_rfl
def UC:cA (n+1) 194 [a0]=Hx aT (cA n) a0:=by kernel_rfl
def UD:cA (n+1) 195 [a0,a1]=Hy aT (cA n) a0 a1:=by kernel_rfl
def UE:cA (n+1) 196 [a0]=Hz aT (cA n) a0:=by kernel_rfl
def UF:cA (n+1) 197 [a0,a1]=HA aT (cA n) a0 a1:=by kernel_rfl
def UG:cA (n+1) 201 [a0,a1]=HB aT (cA n) a0 a1:=by kernel_rfl
def UH:cA (n+1) 202 [a0]=Cz aT (cA n) a0:=by kernel_rfl
def UI:cA (n+1) 215 [a0]=HC aT (cA n) a0:=by kernel_rfl
def UJ:cA (n+1) 217 [a0]=HD aT (cA n) a0:=by kernel_rfl
def UK:cA (n+1) 306 [a0,a1,a2]=HF aT (cA n) a0 a1 a2:=by kernel_rfl
def UL:cA (n+1) 309 [a0,a1,a2]=HG aT (cA n) a0 a1 a2:=by kernel_rfl
def UM:cA (n+1) 322 [a0]=HH aT (cA n) a0:=by kernel_rfl
def UN:cA (n+1) 326 [a0]=HI aT (cA n) a0:=by kernel_rfl
def UO:cA (n+1) 327 [a0]=HJ aT (cA n) a0:=by kernel_rfl
def UP:cA (n+1) 332 [a0,a1]=HK aT (cA n) a0 a1:=by kernel_rfl
def UQ:cA (n+1) 333 [a0,a1]=HL aT (cA n) a0 a1:=by kernel_rfl
def UR:cA (n+1) 334 [a0]=HM aT (cA n) a0:=by kernel_rfl
def US:cA (n+1) 346 [a0]=HN aT (cA n) a0:=by kernel_rfl
def UT:cA (n+1) 347 [a0]=HO aT (cA n) a0:=by kernel_rfl
def UU:cA (n+1) 350 [a0,a1]=HP aT (cA n) a0 a1:=by kernel_rfl
def UV:cA (n+1) 351 [a0,a1]=HR aT (cA n) a0 a1:=by kernel_rfl
def UW:cA (n+1) 352 [a0,a1]=HS aT (cA n) a0 a1:=by kernel_rfl
def UX:cA (n+1) 353 [a0]=HT aT (cA n) a0:=by kernel_rfl
def UY:cA (n+1) 361 [a0]=HU aT (cA n) a0:=by kernel_rfl
def UZ:cA (n+1) 362 [a0]=HV aT (cA n) a0:=by kernel_rfl
def U0:cA (n+1) 363 [a0,a1]=HW aT (cA n) a0 a1:=by kernel_rfl
def U2:cA (n+1) 366 [a0]=HX aT (cA n) a0:=by kernel_rfl
def U3:cA (n+1) 367 [a0,a1,a2]=HY aT (cA n) a0 a1 a2:=by kernel_rfl
def U5:cA (n+1) 375 [a0]=HZ aT (cA n) a0:=by kernel_rfl
def U6:cA (n+1) 376 [a0,a1,a2]=H0 aT (cA n) a0 a1 a2:=by kernel_rfl
def U7:cA (n+1) 377 [a0]=H1 aT (cA n) a0:=by kernel_rfl
def U8:cA (n+1) 378 [a0]=H2 aT (cA n) a0:=by kernel_rfl
def U9:cA (n+1) 379 [a0,a1]=H3 aT (cA n) a0 a1:=by kernel_rfl
def Va:cA (n+1) 381 [a0]=H4 aT (cA n) a0:=by kernel_rfl
def Vb:cA (n+1) 382 [a0]=H5 aT (cA n) a0:=by kernel_rfl
def Vc:cA (n+1) 389 [a0,a1]=H6 aT (cA n) a0 a1:=by kernel_rfl
def Vd:cA (n+1) 390 [a0,a1]=H7 aT (cA n) a0 a1:=by kernel_rfl
def Ve:cA (n+1) 395 [a0,a1,a2,a3]=H8 aT (cA n) a0 a1 a2 a3:=by kernel_rfl
def Vf:cA (n+1) 396 [a0,a1]=H9 aT (cA n) a0 a1:=by kernel_rfl
def Vg:cA (n+1) 402 [a0,a1,a2,a3]=Ia aT (cA n) a0 a1 a2 a3:=by kernel_rfl
def Vh:cA (n+1) 407 [a0,a1,a2,a3]=Ib aT (cA n) a0 a1 a2 a3:=by kernel_rfl
end
end Sy
end
noncomputable section
namespace Geo
structure V where
 x:Int
 y:Int
 z:Int
deriving DecidableEq
namespace V
def sub(a b:V):V:=⟨a.x-b.x,a.y-b.y,a.z-b.z⟩
def neg(a:V):V:=⟨-a.x,-a.y,-a.z⟩
def add(a b:V):V:=⟨a.x+b.x,a.y+b.y,a.z+b.z⟩
def smul(k:Int)(a:V):V:=⟨k*a.x,k*a.y,k*a.z⟩
def dot(a b:V):Int:=a.x*b.x+a.y*b.y+a.z*b.z
def cross(a b:V):V:=⟨a.y*b.z-a.z*b.y,a.z*b.x-a.x*b.z,a.x*b.y-a.y*b.x⟩
def zero:V:=⟨0,0,0⟩
def ext'{a b:V}(h1:a.x=b.x)(h2:a.y=b.y)(h3:a.z=b.z):a=b:=by cases a;cases b;simp_all
end V
open V
def A5{a:Int}(h:a≠0):0<a*a:=by
 rcases Int.lt_or_lt_of_ne h with h|h
 ·exact znc h h
 ·exact zDb h h
def oQ(a:Int):0<=a*a:=by
 rcases zWb a 0 with h|h|h
 ·exact zNa (znc h h)
 ·subst h;decide
 ·exact zNa (zDb h h)
def jq(a:V):0<=dot a a:=by
 have:=oQ a.x;have:=oQ a.y;have:=oQ a.z;simp only[dot];omega
def um{a:V}(h:dot a a=0):a=zero:=by
 have h1:=oQ a.x;have h2:=oQ a.y;have h3:=oQ a.z;simp only[dot] at h;have e1:a.x*a.x=0:=by omega
 have e2:a.y*a.y=0:=by omega
 have e3:a.z*a.z=0:=by omega
 apply V.ext'<;>simp only[zero]<;>(first|(rcases zRb.1 e1 with h|h<;>exact h)|(rcases zRb.1 e2 with h|h<;>exact h)|(rcases zRb.1 e3 with h|h<;>exact h))
def bw{a:V}(h:a≠zero):0<dot a a:=by
 have:=jq a;rcases zxb this with h1|h1
 ·exact h1
 ·exact absurd (um h1.symm) h
def T(n u v:V):Int:=dot n (cross u v)
def kH{a b:Int}(ha:0<a)(h:0<a*b):0<b:=by
 rcases zWb b 0 with hb|hb|hb
 ·have:=zQb ha hb;omega
 ·subst hb;simp at h
 ·exact hb
def mD{a b:Int}(ha:0<a)(h:0<=a*b):0<=b:=by
 rcases zmc b 0 with hb|hb
 ·have:=zQb ha hb;omega
 ·exact hb
def bB{a b:Int}(ha:0<a)(h:a*b=0):b=0:=by
 rcases zRb.1 h with h|h
 ·omega
 ·exact h
section plane
variable{n:V}(hn:n≠zero)
include hn
def Ce(f:V){u v w:V}(hu:dot n u=0)(hv:dot n v=0)(hw:dot n w=0) :
  dot f u*T n v w+dot f v*T n w u+dot f w*T n u v=0:=by
 have h:dot n n*(dot f u*T n v w+dot f v*T n w u+dot f w*T n u v)=0:=by
  simp only[T,dot,cross] at *;grind
 exact bB (bw hn) h
def Bn{f u v w:V}(hu:dot n u=0)(hv:dot n v=0)(hw:dot n w=0)(fu:0<dot f u)(fv:0<dot f v)(fw:0<dot f w)
  (h1:0<=T n u v) (h2:0<=T n v w):0<=T n u w/\(0<T n u v\/0<T n v w->0<T n u w):=by
 have p:=Ce hn f hu hv hw;have e:T n w u=- T n u w:=by simp only[T,dot,cross];grind
 rw[e] at p;have q:dot f v*T n u w=dot f u*T n v w+dot f w*T n u v:=by
  have:dot f v*-T n u w=-(dot f v*T n u w):=Int.mul_neg _ _;omega
 have q1:=zwb (zNa fu) h2;have q2:=zwb (zNa fw) h1;refine⟨mD fv (by omega),λh=>kH fv ?_⟩
 rcases h with h|h
 ·have:=zDb fw h;omega
 ·have:=zDb fu h;omega
def eC{u v:V}(hu:dot n u=0)(hv:dot n v=0)(h:T n u v=0):cross u v=zero:=by
 have hp:=bw hn;have e1:dot n n*(cross u v).x=T n u v*n.x:=by simp only[T,dot,cross] at *;grind
 have e2:dot n n*(cross u v).y=T n u v*n.y:=by simp only[T,dot,cross] at *;grind
 have e3:dot n n*(cross u v).z=T n u v*n.z:=by simp only[T,dot,cross] at *;grind
 rw[h,Int.zero_mul] at e1 e2 e3;exact V.ext' (bB hp e1) (bB hp e2) (bB hp e3)
end plane
def GA{u v:V}(h:cross u v=zero)(f:V):smul (dot f u) v=smul (dot f v) u:=by
 have h1:(cross u v).x=0:=by rw[h];rfl
 have h2:(cross u v).y=0:=by rw[h];rfl
 have h3:(cross u v).z=0:=by rw[h];rfl
 simp only[cross] at h1 h2 h3;apply V.ext'<;>simp only[smul,dot]<;>grind
def FD{u v:V}(h:cross u v=zero)(hu:u≠zero)(hd:dot v u=dot u u):v=u:=by
 have p:=GA h u;have e:dot u v=dot v u:=by simp only[dot];grind
 have hp:=bw hu;rw[e,hd] at p;have p1:dot u u*(v.x-u.x)=0:=by have:=congrArg V.x p;simp only[smul] at this;grind
 have p2:dot u u*(v.y-u.y)=0:=by have:=congrArg V.y p;simp only[smul] at this;grind
 have p3:dot u u*(v.z-u.z)=0:=by have:=congrArg V.z p;simp only[smul] at this;grind
 have:=bB hp p1;have:=bB hp p2;have:=bB hp p3;exact V.ext' (by omega) (by omega) (by omega)
theorem iO{α:Type}(φ:α->Int):∀ l:List α,∃ N:Int,0<N/\∀ x∈l,-N<φ x/\φ x<N
 | []=>⟨1,by decide,by simp⟩
 | a::l=>by
  obtain⟨N,h0,h⟩:=iO φ l;refine⟨N+(φ a).natAbs+1,by omega,λx hx=>?_⟩
  rcases zCa.1 hx with rfl|hx
  ·omega
  ·have:=h x hx;omega
def wy(P:Nat->V)(a x:Nat):V:=sub (P x) (P a)
structure Side(n:V)(P:Nat->V)(on:List Nat)(a b:Nat):Prop where
 mem:b∈on
 ne:b≠a
 all:∀ x∈on,0<=T n (wy P a b) (wy P a x)/\(T n (wy P a b) (wy P a x)=0->0<=dot (wy P a x) (wy P a b)/\dot (wy P a x) (wy P a b)<=dot (wy P a b) (wy P a b))
def ln(P:Nat->V)(on:List Nat)(a:Nat):Prop:=∃ f:V,∀ x∈on,x≠a->0<dot f (wy P a x)
structure Flat(n:V)(P:Nat->V)(on:List Nat):Prop where
 nz:n≠zero
 pl:∀ x∈on,∀ y∈on,dot n (wy P x y)=0
 inj:∀ x∈on,∀ y∈on,P x=P y->x=y
section poly
variable{n:V}{P:Nat->V}{on:List Nat}
def rh(h:Flat n P on){a b:Nat}(ha:a∈on)(hb:b∈on)(hab:b≠a):wy P a b≠zero:=λe=>by
 apply hab;apply h.inj b hb a ha;have e1:=congrArg V.x e;have e2:=congrArg V.y e;have e3:=congrArg V.z e;simp only[wy,sub,zero] at e1 e2 e3;exact V.ext' (by omega) (by omega) (by omega)
def Gu{a b c:Nat}(h:wy P a b=wy P a c):P b=P c:=by
 have e1:=congrArg V.x h;have e2:=congrArg V.y h;have e3:=congrArg V.z h;simp only[wy,sub] at e1 e2 e3;exact V.ext' (by omega) (by omega) (by omega)
def Side.unique(h:Flat n P on){a b c:Nat}(ha:a∈on)(hb:Side n P on a b)(hc:Side n P on a c):b=c:=by
 have h1:=hb.all c hc.mem;have h2:=hc.all b hb.mem;have e:T n (wy P a c) (wy P a b)=- T n (wy P a b) (wy P a c):=by simp only[T,dot,cross];grind
 rw[e] at h2;have t0:T n (wy P a b) (wy P a c)=0:=by omega
 have k1:=h1.2 t0;have k2:=h2.2 (by omega)
 have es:dot (wy P a b) (wy P a c)=dot (wy P a c) (wy P a b):=by simp only[dot];grind
 have hx:=eC h.nz (h.pl a ha b hb.mem) (h.pl a ha c hc.mem) t0;have hq:dot (wy P a b) (wy P a b)*dot (wy P a c) (wy P a c)=dot (wy P a c) (wy P a b)*dot (wy P a c) (wy P a b):=by
  have p:=GA hx (wy P a b);have p1:=congrArg V.x p;have p2:=congrArg V.y p;have p3:=congrArg V.z p;simp only[smul] at p1 p2 p3;simp only[dot] at *;grind
 have hbp:=bw (rh h ha hb.mem hb.ne);have hcp:=bw (rh h ha hc.mem hc.ne);have hle:dot (wy P a c) (wy P a b)=dot (wy P a b) (wy P a b):=by
  generalize dot (wy P a b) (wy P a b)=B at *;generalize dot (wy P a c) (wy P a c)=C at *;generalize dot (wy P a c) (wy P a b)=X at *;rw[es] at k2;rcases zxb k1.2 with hlt|heq
  ·exfalso;have:X*X<B*C:=by
    have a1:X*X<=X*C:=zCb k2.2 k1.1;have a2:X*C<B*C:=Int.mul_lt_mul_of_pos_right hlt hcp;omega
   omega
  ·exact heq
 have:=FD hx (rh h ha hb.mem hb.ne) hle;exact(h.inj c hc.mem b hb.mem (Gu this)).symm
def Side.ext(h:Flat n P on){a b:Nat}(ha:a∈on)(hb:Side n P on a b):ln P on b:=by
 obtain⟨N,hN0,hN⟩:=iO (λx=>dot (wy P b a) (wy P b x)) on;refine⟨add (smul N (cross n (wy P a b))) (wy P b a),λx hx hxb=>?_⟩;have e:dot (add (smul N (cross n (wy P a b))) (wy P b a)) (wy P b x)=N*T n (wy P a b) (wy P a x)+dot (wy P b a) (wy P b x):=by
  simp only[T,dot,cross,add,smul,wy,sub];grind
 rw[e];obtain⟨h1,h2⟩:=hb.all x hx;have h3:=hN x hx;rcases zxb h1 with hlt|heq
 ·have:N*1<=N*T n (wy P a b) (wy P a x):=zCb (by omega) (by omega)
  omega
 ·rw[<-heq,zXc,z8c];have h4:=h2 heq.symm;have e2:dot (wy P b a) (wy P b x)=dot (wy P a b) (wy P a b)-dot (wy P a x) (wy P a b):=by simp only[dot,wy,sub];grind
  rw[e2];rcases zxb h4.2 with h5|h5
  ·omega
  ·exfalso;have hx0:=eC h.nz (h.pl a ha b hb.mem) (h.pl a ha x hx) heq.symm;exact hxb (h.inj x hx b hb.mem (Gu (FD hx0 (rh h ha hb.mem hb.ne) h5)))
def ln.ray(h:Flat n P on){a x y:Nat}(ha:a∈on)(hx:x∈on)(hy:y∈on)(ea:ln P on a)(ex:ln P on x)(ey:ln P on y)(hxa:x≠a)(hya:y≠a)(ht:T n (wy P a x) (wy P a y)=0):x=y:=by
 by_cases hxy:x=y
 ·exact hxy
 exfalso;obtain⟨f,hf⟩:=ea;obtain⟨g,hg⟩:=ex;obtain⟨k,hk⟩:=ey;have c:=eC h.nz (h.pl a ha x hx) (h.pl a ha y hy) ht;have p:=GA c f;have fx:=hf x hx hxa;have fy:=hf y hy hya;have g1:=hg a ha (Ne.symm hxa);have g2:=hg y hy (Ne.symm hxy);have k1:=hk a ha (Ne.symm hya);have k2:=hk x hx hxy;have q1:dot f (wy P a x)*dot g (wy P a y)=dot f (wy P a y)*dot g (wy P a x):=by
  have p1:=congrArg V.x p;have p2:=congrArg V.y p;have p3:=congrArg V.z p;simp only[smul] at p1 p2 p3;generalize dot f (wy P a x)=A at *;generalize dot f (wy P a y)=B at *;simp only[dot];grind
 have q2:dot f (wy P a x)*dot k (wy P a y)=dot f (wy P a y)*dot k (wy P a x):=by
  have p1:=congrArg V.x p;have p2:=congrArg V.y p;have p3:=congrArg V.z p;simp only[smul] at p1 p2 p3;generalize dot f (wy P a x)=A at *;generalize dot f (wy P a y)=B at *;simp only[dot];grind
 have eg1:dot g (wy P x a)=- dot g (wy P a x):=by simp only[dot,wy,sub];grind
 have eg2:dot g (wy P x y)=dot g (wy P a y)-dot g (wy P a x):=by simp only[dot,wy,sub];grind
 have ek1:dot k (wy P y a)=- dot k (wy P a y):=by simp only[dot,wy,sub];grind
 have ek2:dot k (wy P y x)=dot k (wy P a x)-dot k (wy P a y):=by simp only[dot,wy,sub];grind
 rw[eg1] at g1;rw[eg2] at g2;rw[ek1] at k1;rw[ek2] at k2;generalize dot f (wy P a x)=A at *;generalize dot f (wy P a y)=B at *;generalize dot g (wy P a x)=gx at *;generalize dot g (wy P a y)=gy at *;generalize dot k (wy P a x)=kx at *;generalize dot k (wy P a y)=ky at *;have r1:B<A:=by
  rcases zmc B A with hh|hh
  ·exact hh
  ·exfalso;have s1:B*gx<=A*gx:=by
    have:=z9c hh (show 0<=-gx by omega)
    simp only[Int.mul_neg] at this;omega
   have s2:A*gx<A*gy:=zKc (by omega) fx
   omega
 have s3:A*ky<B*ky:=by
  have s4:B*ky<B*kx:=zKc (by omega) fy
  have s5:A*ky=B*kx:=q2;have s6:A*ky<=B*ky:=by
   have:=z9c (zNa r1) (show 0<=-ky by omega)
   simp only[Int.mul_neg] at this;omega
  omega
 have s4:B*ky<B*kx:=zKc (by omega) fy
 omega
def ND(a x y:Nat):T n (wy P x y) (wy P x a)=T n (wy P a x) (wy P a y):=by
 simp only[T,dot,cross,wy,sub];grind
def J3(u v:V):T n v u=- T n u v:=by simp only[T,dot,cross];grind
def Side.after(h:Flat n P on){a x y:Nat}(ha:a∈on)(hx:x∈on)(ea:ln P on a)(ex:ln P on x)(hxa:x≠a)(hs:Side n P on x y)(hya:y≠a):0<T n (wy P a x) (wy P a y):=by
 have h1:=(hs.all a ha).1;rw[ND] at h1;rcases zxb h1 with h2|h2
 ·exact h2
 ·exact absurd (ln.ray h ha hx hs.mem ea ex (hs.ext h hx) hxa hya h2.symm) hs.ne.symm
def Im(h:Flat n P on){a x y z:Nat}(ha:a∈on)(hx:x∈on)(hz:z∈on)(hs:Side n P on x y)(ez:ln P on z)(h1:0<T n (wy P a x) (wy P a z))(h2:0<T n (wy P a z) (wy P a y)):False:=by
 obtain⟨f,hf⟩:=ez;have hza:a≠z:=λe=>by subst e;simp[T,dot,cross,wy,sub] at h2
 have hzx:x≠z:=λe=>by
  subst e;have:T n (wy P a x) (wy P a x)=0:=by simp only[T,dot,cross];grind
  omega
 have hzy:y≠z:=λe=>by
  subst e;have:T n (wy P a y) (wy P a y)=0:=by simp only[T,dot,cross];grind
  omega
 have f1:=hf a ha hza;have f2:=hf x hx hzx;have f3:=hf y hs.mem hzy;have h3:=(hs.all z hz).1;have e:dot n n*(T n (wy P x y) (wy P x z)*dot f (wy P z a)+T n (wy P a z) (wy P a y)*dot f (wy P z x)+T n (wy P a x) (wy P a z)*dot f (wy P z y))=0:=by
  have p1:=h.pl z hz a ha;have p2:=h.pl z hz x hx;have p3:=h.pl z hz y hs.mem;have e1:T n (wy P x y) (wy P x z)=T n (wy P z x) (wy P z y):=ND z x y;have e2:T n (wy P a z) (wy P a y)=T n (wy P z y) (wy P z a):=by simp only[T,dot,cross,wy,sub];grind
  have e3:T n (wy P a x) (wy P a z)=T n (wy P z a) (wy P z x):=by simp only[T,dot,cross,wy,sub];grind
  rw[e1,e2,e3];have pk:=Ce h.nz f p1 p2 p3;rw[zHc (dot f (wy P z a)),zHc (dot f (wy P z x)),zHc (dot f (wy P z y))] at pk;rw[show T n (wy P z x) (wy P z y)*dot f (wy P z a)+T n (wy P z y) (wy P z a)*dot f (wy P z x)+T n (wy P z a) (wy P z x)*dot f (wy P z y)=0 from pk,zXc]
 have e':=bB (bw h.nz) e;have m1:=zwb h3 (zNa f1);have m2:=zDb h2 f2;have m3:=zDb h1 f3;omega
theorem uO{α:Type}{p q:α->Bool}:∀ {l:List α},(∀ x∈l,p x=true->q x=true)->(∃ y∈l,q y=true/\p y=false)->l.countP p<l.countP q
 | [],_,h=>by obtain⟨y,hy,_⟩:=h;cases hy
 | a::l,h,hy=>by
  have hl:l.countP p<=l.countP q:=by
   have h':∀ x∈l,p x=true->q x=true:=λx hx=>h x (zha _ hx);exact List.countP_mono_left h'
  have ha:=h a zka;rw[List.countP_cons,List.countP_cons];obtain⟨y,hm,hq,hp⟩:=hy;rcases zCa.1 hm with rfl|hm
  ·simp[hq,hp];omega
  ·have:=uO (l:=l) (λx hx=>h x (zha _ hx)) ⟨y,hm,hq,hp⟩;cases hpa:p a
   ·simp;omega
   ·simp[ha hpa];omega
inductive Chain(S:Nat->Nat->Prop)(a₀:Nat):Nat->List Nat->Prop
 | done {c:Nat}:S c a₀->Chain S a₀ c [c]
 | step {c y:Nat} {l:List Nat}:S c y->y≠a₀->Chain S a₀ y l->Chain S a₀ c (c::l)
def walk(h:Flat n P on){a:Nat}(ha:a∈on)(ea:ln P on a)(hnext:∀ c∈on,ln P on c->∃ b,Side n P on c b){c:Nat}(hc:c∈on)(ec:ln P on c)(hca:c≠a) :
  ∃ l,Chain (Side n P on) a c l/\(∀ z∈l,z∈on/\ln P on z/\z≠a/\(z=c\/0<T n (wy P a c) (wy P a z)))/\(∀ z∈on,ln P on z->z≠a->0<T n (wy P a c) (wy P a z)->z∈l) ∧
   l.Pairwise (λx y=>0<T n (wy P a x) (wy P a y)):=by
 generalize hm:on.countP (λz=>decide (0<T n (wy P a c) (wy P a z)))=m
 induction m using Nat.strongRecOn generalizing c with
 | _ m ih=>
  obtain⟨y,hy⟩:=hnext c hc ec;obtain⟨f,hf⟩:=ea;by_cases hya:y=a
  ·subst hya;refine⟨[c],.done hy,λz hz=>?_,λz hz ez hza ht=>?_,by simp⟩
   ·rw[zIa] at hz;subst hz;exact⟨hc,ec,hca,.inl rfl⟩
   ·have h1:=(hy.all z hz).1;have e:T n (wy P c y) (wy P c z)=- T n (wy P y c) (wy P y z):=by simp only[T,dot,cross,wy,sub];grind
    omega
  ·have hxy:=Side.after h ha hc ⟨f,hf⟩ ec hca hy hya;have ey:=hy.ext h hc;have tr:∀ z∈on,0<T n (wy P a y) (wy P a z)->0<T n (wy P a c) (wy P a z):=λz hz ht=>by
    have hza:z≠a:=λe=>by
     subst e;have:T n (wy P z y) (wy P z z)=0:=by simp[T,dot,cross,wy,sub]
     omega
    exact(Bn h.nz (h.pl a ha c hc) (h.pl a ha y hy.mem) (h.pl a ha z hz) (hf c hc hca) (hf y hy.mem hya) (hf z hz hza) (zNa hxy) (zNa ht)).2 (.inl hxy)
   have self0:T n (wy P a y) (wy P a y)=0:=by simp only[T,dot,cross];grind
   obtain⟨l,k1,k2,k3,k4⟩:=ih _ (by
    rw[<-hm];refine uO (λz hz ht=>by simp only[decide_eq_true_eq] at ht ⊢;exact tr z hz ht) ⟨y,hy.mem,by simpa using hxy,by simp[self0]⟩) hy.mem ey hya rfl
   refine⟨c::l,.step hy hya k1,λz hz=>?_,λz hz ez hza ht=>?_,zQa.2 ⟨λz hz=>?_,k4⟩⟩
   ·rcases zCa.1 hz with rfl|hz
    ·exact⟨hc,ec,hca,.inl rfl⟩
    ·obtain⟨q1,q2,q3,q4⟩:=k2 z hz;refine⟨q1,q2,q3,.inr ?_⟩;rcases q4 with rfl|q4
     ·exact hxy
     ·exact tr z q1 q4
   ·rcases zWb (T n (wy P a y) (wy P a z)) 0 with hlt|heq|hgt
    ·have e:=J3 (n:=n) (wy P a y) (wy P a z);exact(Im h ha hc hz hy ez ht (by omega)).elim
    ·have:=ln.ray h ha hy.mem hz ⟨f,hf⟩ ey ez hya hza heq;subst this;have:y∈l:=by cases k1<;>exact zka
     exact zha _ this
    ·exact zha _ (k3 z hz ez hza hgt)
   ·obtain⟨q1,q2,q3,q4⟩:=k2 z hz;rcases q4 with rfl|q4
    ·exact hxy
    ·exact tr z q1 q4
def pm(n:V)(P:Nat->V)(a b k:Nat):Bool:=
 decide (T n (wy P a b) (wy P a k)<0)||(decide (T n (wy P a b) (wy P a k)=0)&&decide (dot (wy P a b) (wy P a b)<dot (wy P a k) (wy P a k)))
def c8(n:V)(P:Nat->V)(a:Nat)(best:Option Nat)(k:Nat):Option Nat:=
 if k=a then best else match best with
  | none=>some k
  | some b=>if pm n P a b k then some k else some b
theorem qH(h:Flat n P on){a:Nat}(ha:a∈on)(ea:ln P on a):∀ (l pre:List Nat) (best:Option Nat),(∀ x∈pre,x∈on)->(∀ x∈l,x∈on) ->
  (match best with
   | none=>∀ x∈pre,x=a
   | some b=>b∈pre/\b≠a/\∀ x∈pre,x≠a->0<T n (wy P a b) (wy P a x)\/(T n (wy P a b) (wy P a x)=0/\dot (wy P a x) (wy P a x)<=dot (wy P a b) (wy P a b))) ->
  match l.foldl (c8 n P a) best with
   | none=>∀ x∈pre++l,x=a
   | some b=>b∈pre++l/\b≠a/\∀ x∈pre++l,x≠a->0<T n (wy P a b) (wy P a x)\/(T n (wy P a b) (wy P a x)=0/\dot (wy P a x) (wy P a x)<=dot (wy P a b) (wy P a b))
 | [],pre,best,_,_,hb=>by simpa using hb
 | k::l,pre,best,h1,h2,hb=>by
  rw[zhc];have hk:k∈on:=h2 k zka;rw[show pre++k::l=(pre++[k])++l by simp]
  refine qH h ha ea l (pre++[k]) _ (λx hx=>?_) (λx hx=>h2 x (zha _ hx)) ?_
  ·rcases zDa.1 hx with hx|hx
   ·exact h1 x hx
   ·rw[zIa] at hx;exact hx ▸ hk
  unfold c8;by_cases hka:k=a
  ·rw[if_pos hka];subst hka;cases best with
   | none=>
    simp only at hb ⊢;intro x hx;rcases zDa.1 hx with hx|hx
    ·exact hb x hx
    ·exact zIa.1 hx
   | some b=>
    simp only at hb ⊢;refine⟨znb _ hb.1,hb.2.1,λx hx hxa=>?_⟩;rcases zDa.1 hx with hx|hx
    ·exact hb.2.2 x hx hxa
    ·exact absurd (zIa.1 hx) hxa
  ·rw[if_neg hka];cases best with
   | none=>
    simp only at hb ⊢;refine⟨zjb _ (zIa.2 rfl),hka,λx hx hxa=>?_⟩;rcases zDa.1 hx with hx|hx
    ·exact absurd (hb x hx) hxa
    ·rw[zIa.1 hx];right;exact⟨by simp only[T,dot,cross];grind,zid _⟩
   | some b=>
    simp only at hb ⊢;obtain⟨b1,b2,b3⟩:=hb;have hbon:=h1 b b1;obtain⟨f,hf⟩:=ea;by_cases hbt:pm n P a b k=true
    ·rw[if_pos hbt];simp only;refine⟨zjb _ (zIa.2 rfl),hka,λx hx hxa=>?_⟩;have sw:=J3 (n:=n) (wy P a b) (wy P a k);simp only[pm,zHb,zaa,decide_eq_true_eq] at hbt;rcases zDa.1 hx with hx|hx
     ·have hxon:=h1 x hx;have c:=b3 x hx hxa;have nn1:0<=T n (wy P a k) (wy P a b):=by omega
      have nn2:0<=T n (wy P a b) (wy P a x):=by omega
      obtain⟨t1,t2⟩:=Bn h.nz (h.pl a ha k hk) (h.pl a ha b hbon) (h.pl a ha x hxon) (hf k hk hka) (hf b hbon b2) (hf x hxon hxa) nn1 nn2;rcases zxb t1 with hlt|heq
      ·exact .inl hlt
      ·right;refine⟨heq.symm,?_⟩;have:¬ (0<T n (wy P a k) (wy P a b)\/0<T n (wy P a b) (wy P a x)):=λhh=>by have:=t2 hh;omega
       omega
     ·rw[zIa.1 hx];right;exact⟨by simp only[T,dot,cross];grind,zid _⟩
    ·rw[if_neg hbt];simp only;refine⟨znb _ b1,b2,λx hx hxa=>?_⟩;rcases zDa.1 hx with hx|hx
     ·exact b3 x hx hxa
     ·rw[zIa.1 hx];simp only[pm,zHb,zaa,decide_eq_true_eq] at hbt;omega
def vA(h:Flat n P on){a:Nat}(ha:a∈on)(ea:ln P on a)(h2:∃ x∈on,x≠a):∃ b,on.foldl (c8 n P a) none=some b/\Side n P on a b:=by
 have key:=qH h ha ea on [] none (by simp) (λx hx=>hx) (by simp)
 cases hr:on.foldl (c8 n P a) none with
 | none=>
  rw[hr] at key;obtain⟨x,hx,hxa⟩:=h2;exact absurd (key x (by simpa using hx)) hxa
 | some b=>
  rw[hr] at key;simp only[z3b] at key;obtain⟨k1,k2,k3⟩:=key;refine⟨b,rfl,k1,k2,λx hx=>?_⟩;by_cases hxa:x=a
  ·subst hxa;have e:wy P x x=zero:=by simp[wy,sub,zero]
   have:T n (wy P x b) (wy P x x)=0:=by rw[e];simp[T,dot,cross,zero]
   have hp:=jq (wy P x b);have e2:dot (wy P x x) (wy P x b)=0:=by rw[e];simp[dot,zero]
   rw[this,e2];exact⟨zid _,λ_=>⟨zid _,hp⟩⟩
  ·have c:=k3 x hx hxa;refine⟨by omega,λt0=>?_⟩
   have c2:dot (wy P a x) (wy P a x)<=dot (wy P a b) (wy P a b):=by omega
   obtain⟨f,hf⟩:=ea;have hx0:=eC h.nz (h.pl a ha b k1) (h.pl a ha x hx) t0;have p:=GA hx0 f;have fb:=hf b k1 k2;have fx:=hf x hx hxa;have hbp:=bw (rh h ha k1 k2);have q1:dot f (wy P a b)*dot (wy P a x) (wy P a b)=dot f (wy P a x)*dot (wy P a b) (wy P a b):=by
    have p1:=congrArg V.x p;have p2:=congrArg V.y p;have p3:=congrArg V.z p;simp only[smul] at p1 p2 p3;generalize dot f (wy P a b)=A at *;generalize dot f (wy P a x)=B at *;simp only[dot];grind
   have hpos:0<dot (wy P a x) (wy P a b):=kH fb (by rw[q1];exact zDb fx hbp)
   refine⟨zNa hpos,?_⟩;have q2:dot (wy P a b) (wy P a b)*dot (wy P a x) (wy P a x)=dot (wy P a x) (wy P a b)*dot (wy P a x) (wy P a b):=by
    have p:=GA hx0 (wy P a b);have p1:=congrArg V.x p;have p2:=congrArg V.y p;have p3:=congrArg V.z p;simp only[smul] at p1 p2 p3;simp only[dot] at *;grind
   generalize dot (wy P a b) (wy P a b)=B at *;generalize dot (wy P a x) (wy P a x)=X at *;generalize dot (wy P a x) (wy P a b)=D at *;rcases zmc B D with hlt|hle
   ·exfalso;have a1:B*X<=B*B:=zCb c2 (zNa hbp);have a2:B*B<B*D:=zKc hlt hbp;have a3:B*D<D*D:=Int.mul_lt_mul_of_pos_right hlt hpos;omega
   ·exact hle
end poly
open V
def aF(a b:V):Prop:=a.x<b.x\/a.x=b.x/\(a.y<b.y\/a.y=b.y/\a.z<b.z)
def CU{P:Nat->V}{on:List Nat}{a:Nat}(h:∀ x∈on,x≠a->aF (P a) (P x)):ln P on a:=by
 obtain⟨N1,p1,b1⟩:=iO (λx=>(wy P a x).y) on;obtain⟨N2,p2,b2⟩:=iO (λx=>(wy P a x).z) on;refine⟨⟨(N1+N2)*(N1+N2)+(N1+N2),N1+N2,1⟩,λx hx hxa=>?_⟩;have c1:=b1 x hx;have c2:=b2 x hx;have hl:=h x hx hxa;simp only[wy,sub,aF,dot] at *;generalize hX:(P x).x-(P a).x=X at *;generalize hY:(P x).y-(P a).y=Y at *;generalize hZ:(P x).z-(P a).z=Z at *;generalize hN:N1+N2=N;have hN0:0<N:=by omega
 have hY1:-N+1<=Y:=by omega
 have hY2:Y<=N-1:=by omega
 have hZ1:-N+1<=Z:=by omega
 have m1:N*(-N+1)<=N*Y:=zCb hY1 (zNa hN0);have m2:N*(-N+1)=-(N*N)+N:=by grind
 have hNN:0<N*N:=zDb hN0 hN0;rcases hl with hl|⟨h1,hl|⟨h2,hl⟩⟩
 ·have hX1:1<=X:=by omega
  have m3:(N*N+N)*1<=(N*N+N)*X:=zCb hX1 (by omega)
  omega
 ·have hX0:X=0:=by omega
  have hY3:1<=Y:=by omega
  have m3:N*1<=N*Y:=zCb hY3 (by omega)
  subst hX0;simp only[zXc];omega
 ·have hX0:X=0:=by omega
  have hY0:Y=0:=by omega
  subst hX0;subst hY0;simp only[zXc];omega
section poly
variable{n:V}{P:Nat->V}{on:List Nat}
def Chain.head{S:Nat->Nat->Prop}{a c:Nat}{l:List Nat}(h:Chain S a c l):∃ l',l=c::l':=by
 cases h<;>exact⟨_,rfl⟩
theorem Chain.pairs{S:Nat->Nat->Prop}{a:Nat}:∀ {c:Nat} {l:List Nat},Chain S a c l->∀ i x,l[i]?=some x->∃ y,(l++[a])[i+1]?=some y/\S x y
 | c,_,.done h,i,x,hx=>by
  cases i with
  | zero=>simp at hx;subst hx;exact⟨a,by simp,h⟩
  | succ i=>simp at hx
 | c,_,.step (y:=y) (l:=l) h hne k,i,x,hx=>by
  cases i with
  | zero=>
   simp at hx;subst hx;obtain⟨l',rfl⟩:=k.head;exact⟨y,by simp,h⟩
  | succ i=>
   obtain⟨z,h1,h2⟩:=Chain.pairs k i x (by simpa using hx)
   exact⟨z,by simpa using h1,h2⟩
def AK(h:Flat n P on){a:Nat}(ha:a∈on)(ea:ln P on a)(h3:∀ c∈on,∃ x∈on,x≠c) :
  ∃ l,Chain (Side n P on) a a l/\l.Nodup/\(∀ z∈l,z∈on/\ln P on z)/\∀ z∈on,ln P on z->z∈l:=by
 have hnext:∀ c∈on,ln P on c->∃ b,Side n P on c b:=λc hc ec=>by
  obtain⟨b,_,hb⟩:=vA h hc ec (h3 c hc);exact⟨b,hb⟩
 obtain⟨c,hs⟩:=hnext a ha ea;have ec:=hs.ext h ha;obtain⟨l,k1,k2,k3,k4⟩:=walk h ha ea hnext hs.mem ec hs.ne;refine⟨a::l,.step hs hs.ne k1,List.nodup_cons.2 ⟨λhm=>(k2 a hm).2.2.1 rfl,?_⟩,λz hz=>?_,λz hz ez=>?_⟩
 ·refine List.Pairwise.imp (λ{x y} hxy e=>?_) k4;subst e;have:T n (wy P a x) (wy P a x)=0:=by simp only[T,dot,cross];grind
  omega
 ·rcases zCa.1 hz with rfl|hz
  ·exact⟨ha,ea⟩
  ·exact⟨(k2 z hz).1,(k2 z hz).2.1⟩
 ·by_cases hza:z=a
  ·subst hza;exact zka
  ·refine zha _ ?_;have h0:=(hs.all z hz).1;rcases zxb h0 with hp|he
   ·exact k3 z hz ez hza hp
   ·have:=ln.ray h ha hs.mem hz ea ec ez hs.ne hza he.symm;subst this;obtain⟨l',rfl⟩:=k1.head;exact zka
end poly
def sg(x:Int):Int:=if x<0 then -1 else if 0<x then 1 else 0
def tS(a b:Int):sg a*sg b=sg (a*b):=by
 rcases zWb a 0 with h|h|h<;>rcases zWb b 0 with k|k|k
 ·have:=znc h k;simp[sg,h,k,this,zkc.2 (zNa this)]
 ·subst k;simp[sg]
 ·have:=Int.mul_neg_of_neg_of_pos h k;simp[sg,h,k,this,zkc.2 (zNa k)]
 ·subst h;simp[sg]
 ·subst h;simp[sg]
 ·subst h;simp[sg]
 ·have:=zQb h k;simp[sg,h,k,this,zkc.2 (zNa h)]
 ·subst k;simp[sg]
 ·have:=zDb h k;simp[sg,h,k,this,zkc.2 (zNa h),zkc.2 (zNa k),zkc.2 (zNa this)]
def kN{x:Int}(h:0<x):sg x=1:=by simp[sg,h,zkc.2 (zNa h)]
def xu{x:Int}(h:x<0):sg x=-1:=by simp[sg,h]
def vc(n c:V):Int:=if n.x≠0 then sg n.x*sg c.x else if n.y≠0 then sg n.y*sg c.y else if n.z≠0 then sg n.z*sg c.z else 0
def tT{a b p:Int}(hp:0<p){q:Int}(hq:0<q)(h:a*p=q*b):sg a=sg b:=by
 have h1:sg (a*p)=sg a:=by rw[<-tS,kN hp];simp
 have h2:sg (q*b)=sg b:=by rw[<-tS,kN hq];simp
 rw[<-h1,<-h2,h]
def BY{n c:V}(hn:n≠zero)(h:cross n c=zero):vc n c=sg (dot n c):=by
 have h1:=congrArg V.x h;have h2:=congrArg V.y h;have h3:=congrArg V.z h;simp only[cross,zero] at h1 h2 h3;have hp:=bw hn;have e1:n.x*c.x*dot n n=n.x*n.x*dot n c:=by simp only[dot];grind
 have e2:n.y*c.y*dot n n=n.y*n.y*dot n c:=by simp only[dot];grind
 have e3:n.z*c.z*dot n n=n.z*n.z*dot n c:=by simp only[dot];grind
 unfold vc;split
 ·rename_i k;rw[tS];exact tT hp (A5 k) e1
 ·split
  ·rename_i k;rw[tS];exact tT hp (A5 k) e2
  ·split
   ·rename_i k;rw[tS];exact tT hp (A5 k) e3
   ·rename_i k1 k2 k3;exact absurd (V.ext' (by simpa [zero] using k1) (by simpa [zero] using k2) (by simpa [zero] using k3)) hn
def ik{n u v:V}(hu:dot n u=0)(hv:dot n v=0):cross n (cross u v)=zero:=by
 simp only[dot] at hu hv;apply V.ext'<;>simp only[cross,zero]<;>grind
open V
def br(P:Nat->V)(N:Nat)(n:V)(d:Int):List Nat:=(List.range N).filter λk=>decide (dot n (P k)=d)
def ug(P:Nat->V)(N:Nat)(n:V)(d:Int):Prop:=(∀ k,k<N->dot n (P k)<=d)/\∃ k,k<N/\dot n (P k)<d
def dS(P:Nat->V)(i j k:Nat):V:=cross (wy P i j) (wy P i k)
def bA(v:V):Nat:=Nat.gcd (Nat.gcd v.x.natAbs v.y.natAbs) v.z.natAbs
def bu(v:V):V:=⟨v.x/bA v,v.y/bA v,v.z/bA v⟩
structure IsF(P:Nat->V)(N:Nat)(n:V)(d:Int):Prop where
 ex:∃ i j k,i<j/\j<k/\k<N/\dS P i j k≠zero/\(n=bu (dS P i j k)\/n=neg (bu (dS P i j k)))/\d=dot n (P i)
 supp:ug P N n d
def jX{v:V}(h:v≠zero):0<bA v:=by
 rcases zqb (bA v) with e|p
 ·exfalso;unfold bA at e;rw[Nat.gcd_eq_zero_iff,Nat.gcd_eq_zero_iff] at e;exact h (V.ext' (by simp[zero];omega) (by simp[zero];omega) (by simp[zero];omega))
 ·exact p
def iU(v:V):v=smul (bA v) (bu v):=by
 have d1:(bA v:Int) ∣ v.x:=z4a.2 (zdd (zhb _ _) (zhb _ _));have d2:(bA v:Int) ∣ v.y:=z4a.2 (zdd (zhb _ _) (zub _ _));have d3:(bA v:Int) ∣ v.z:=z4a.2 (zub _ _);apply V.ext'
 ·exact(zDd d1).symm
 ·exact(zDd d2).symm
 ·exact(zDd d3).symm
def pI(k:Nat)(v:V):bA (smul k v)=k*bA v:=by
 simp only[bA,smul,zHa,zwa];rw[Nat.gcd_mul_left,Nat.gcd_mul_left]
def uZ{v:V}(h:v≠zero):bA (bu v)=1:=by
 have p:=jX h;have e:=pI (bA v) (bu v);rw[<-iU v] at e;exact(Nat.eq_of_mul_eq_mul_left p (by omega)).symm
def yz(v:V):bA (neg v)=bA v:=by simp[bA,neg]
def zg(v:V):bu (neg v)=neg (bu v):=by
 have e:=iU v;unfold bu;rw[yz];have d1:(bA v:Int) ∣ v.x:=z4a.2 (zdd (zhb _ _) (zhb _ _));have d2:(bA v:Int) ∣ v.y:=z4a.2 (zdd (zhb _ _) (zub _ _));have d3:(bA v:Int) ∣ v.z:=z4a.2 (zub _ _);simp only[neg,zUc d1,zUc d2,zUc d3]
def rL{v:V}(h:v≠zero):bu v≠zero:=λe=>h (by rw[iU v,e];apply V.ext'<;>simp[smul,zero])
def FF{u v:V}(hu:bA u=1)(hv:bA v=1){a b:Int}(ha:0<a)(hb:0<b)(h:smul a u=smul b v):u=v:=by
 obtain⟨a,rfl⟩:=zvc (zNa ha);obtain⟨b,rfl⟩:=zvc (zNa hb);have e:=pI a u;have e2:=pI b v;rw[h,e2,hu,hv] at e;have:a=b:=by omega
 subst this;have h1:=congrArg V.x h;have h2:=congrArg V.y h;have h3:=congrArg V.z h;simp only[smul] at h1 h2 h3;have hne:(a:Int)≠0:=by omega
 exact V.ext' (Int.eq_of_mul_eq_mul_left hne h1) (Int.eq_of_mul_eq_mul_left hne h2) (Int.eq_of_mul_eq_mul_left hne h3)
section
variable{P:Nat->V}{N:Nat}
def IsF.nz{n:V}{d:Int}(h:IsF P N n d):n≠zero/\bA n=1:=by
 obtain⟨i,j,k,_,_,_,h1,h2|h2,_⟩:=h.ex
 ·subst h2;exact⟨rL h1,uZ h1⟩
 ·subst h2;refine⟨λe=>rL h1 ?_,by rw[yz];exact uZ h1⟩
  have e1:=congrArg V.x e;have e2:=congrArg V.y e;have e3:=congrArg V.z e;simp only[neg,zero] at e1 e2 e3;exact V.ext' (by simp only[zero];omega) (by simp only[zero];omega) (by simp only[zero];omega)
def aU{n:V}{d:Int}{k:Nat}:k∈br P N n d↔k<N/\dot n (P k)=d:=by simp[br]
def dn(n:V)(i k:Nat):dot n (wy P i k)=dot n (P k)-dot n (P i):=by simp only[dot,wy,sub];grind
def IsF.three{n:V}{d:Int}(h:IsF P N n d):∃ i j k,i<j/\j<k/\k<N/\i∈br P N n d/\j∈br P N n d/\k∈br P N n d/\dS P i j k≠zero:=by
 obtain⟨i,j,k,hij,hjk,hk,h1,h2,h3⟩:=h.ex;have g:=jX h1;have e:=iU (dS P i j k);have t1:dot (dS P i j k) (wy P i j)=0:=by simp only[dS,dot,cross];grind
 have t2:dot (dS P i j k) (wy P i k)=0:=by simp only[dS,dot,cross];grind
 have key:∀ v:V,dot (dS P i j k) v=0->dot n v=0:=λv hv=>by
  rw[e] at hv;have:(bA (dS P i j k):Int)*dot (bu (dS P i j k)) v=0:=by rw[<-hv];simp only[dot,smul];grind
  have h0:=bB (by omega) this
  rcases h2 with h2|h2
  ·rw[h2];exact h0
  ·rw[h2];have:dot (neg (bu (dS P i j k))) v=- dot (bu (dS P i j k)) v:=by simp only[dot,neg];grind
   omega
 have k1:=key _ t1;have k2:=key _ t2;rw[dn] at k1 k2;exact⟨i,j,k,hij,hjk,hk,aU.2 ⟨by omega,by omega⟩,aU.2 ⟨by omega,by omega⟩,aU.2 ⟨hk,by omega⟩,h1⟩
theorem IsF.flat(hl:∀ i j,i<j->j<N->aF (P i) (P j)){n:V}{d:Int}(h:IsF P N n d):Flat n P (br P N n d):=by
 refine⟨h.nz.1,λx hx y hy=>?_,λx hx y hy e=>?_⟩
 ·have a:=(aU.1 hx).2;have b:=(aU.1 hy).2;rw[dn];omega
 ·have a:=(aU.1 hx).1;have b:=(aU.1 hy).1;rcases zpd x y with c|c|c
  ·have:=hl x y c b;rw[e] at this;simp only[aF] at this;omega
  ·exact c
  ·have:=hl y x c a;rw[e] at this;simp only[aF] at this;omega
def IsF.left(hl:∀ i j,i<j->j<N->aF (P i) (P j)){n:V}{d:Int}(h:IsF P N n d){a b:Nat}(ha:a∈br P N n d)(hs:Side n P (br P N n d) a b) :
  ∃ x∈br P N n d,0<T n (wy P a b) (wy P a x):=by
 obtain⟨i,j,k,hij,hjk,hk,mi,mj,mk,ht⟩:=h.three;have F:=h.flat hl;have key:∀ x∈br P N n d,0<T n (wy P a b) (wy P a x)\/cross (wy P a b) (wy P a x)=zero:=λx hx=>by
  rcases zxb (hs.all x hx).1 with h1|h1
  ·exact .inl h1
  ·exact .inr (eC F.nz (F.pl a ha b hs.mem) (F.pl a ha x hx) h1.symm)
 rcases key i mi with h1|h1
 ·exact⟨i,mi,h1⟩
 rcases key j mj with h2|h2
 ·exact⟨j,mj,h2⟩
 rcases key k mk with h3|h3
 ·exact⟨k,mk,h3⟩
 exfalso;apply ht;have hb:=bw (rh F ha hs.mem hs.ne);have p1:=GA h1 (wy P a b);have p2:=GA h2 (wy P a b);have p3:=GA h3 (wy P a b);have w1:wy P i j=sub (wy P a j) (wy P a i):=by apply V.ext'<;>simp only[wy,sub]<;>omega
 have w2:wy P i k=sub (wy P a k) (wy P a i):=by apply V.ext'<;>simp only[wy,sub]<;>omega
 unfold dS;rw[w1,w2];generalize wy P a b=e at *;generalize wy P a i=u at *;generalize wy P a j=v at *;generalize wy P a k=w at *;generalize dot e u=A at *;generalize dot e v=B at *;generalize dot e w=C at *;generalize dot e e=D at *;have q1:=congrArg V.x p1;have q2:=congrArg V.y p1;have q3:=congrArg V.z p1;have r1:=congrArg V.x p2;have r2:=congrArg V.y p2;have r3:=congrArg V.z p2;have s1:=congrArg V.x p3;have s2:=congrArg V.y p3;have s3:=congrArg V.z p3;simp only[smul] at q1 q2 q3 r1 r2 r3 s1 s2 s3;have hDD:0<D*D:=zDb hb hb;apply V.ext'<;>simp only[cross,sub,zero]<;>refine bB hDD ?_<;>grind
theorem far{n e:V}(he:dot n e=0){w:Nat->V}:∀ l:List Nat,l≠[]->(∀ y∈l,dot n (w y)<0)->∃ y∈l,∀ x∈l,0<=dot e (cross (w y) (w x))
 | [],h,_=>absurd rfl h
 | [y],_,hn=>⟨y,zka,λx hx=>by
   rw[zIa.1 hx];have:dot e (cross (w y) (w y))=0:=by simp only[dot,cross];grind
   omega⟩
 | z::y'::l,_,hn=>by
  obtain⟨y,hy,hmax⟩:=far he (y'::l) (by simp) (λy hy=>hn y (zha _ hy))
  have self:∀ v:V,dot e (cross v v)=0:=λv=>by simp only[dot,cross];grind
  have sw:∀ u v:V,dot e (cross v u)=- dot e (cross u v):=λu v=>by simp only[dot,cross];grind
  have pl:∀ x y z:V,dot n x*dot e (cross y z)=dot n z*dot e (cross y x)+dot n y*dot e (cross x z):=λx y z=>by
   have:dot n x*dot e (cross y z)-(dot n z*dot e (cross y x)+dot n y*dot e (cross x z))=dot n e*dot x (cross y z):=by simp only[dot,cross];grind
   rw[he] at this;omega
  rcases zmc (dot e (cross (w y) (w z))) 0 with hlt|hge
  ·refine⟨z,zka,λx hx=>?_⟩;rcases zCa.1 hx with rfl|hx
   ·have:=self (w x);omega
   ·have h1:=hmax x hx;have h2:=pl (w y) (w z) (w x);have n1:=hn y (zha _ hy);have n2:=hn z zka;have n3:=hn x (zha _ hx);have h3:=sw (w y) (w z);have a1:dot n (w x)*dot e (cross (w z) (w y))<=0:=Int.mul_nonpos_of_nonpos_of_nonneg (zNa n3) (by omega)
    have a2:dot n (w z)*dot e (cross (w y) (w x))<=0:=Int.mul_nonpos_of_nonpos_of_nonneg (zNa n2) h1;have a3:0<=(-(dot n (w y)))*dot e (cross (w z) (w x)):=by rw[Int.neg_mul];omega
    exact mD (by omega) a3
  ·refine⟨y,zha _ hy,λx hx=>?_⟩;rcases zCa.1 hx with rfl|hx
   ·exact hge
   ·exact hmax x hx
def Le{p q r:Nat}(hp:p<N)(hq:q<N)(hr:r<N)(h1:p≠q)(h2:p≠r)(h3:q≠r){m:V}(hm:m=dS P p q r)(hle:∀ x,x<N->dot m (wy P p x)<=0)(hlt:∃ x,x<N/\dot m (wy P p x)<0) :
  ∃ n',∃ g:Int,0<g/\m=smul g n'/\IsF P N n' (dot n' (P p)):=by
 have hm0:m≠zero:=λe=>by
  obtain⟨x,_,hx⟩:=hlt;rw[e] at hx;simp[dot,zero] at hx
 have hg:=jX hm0;have e:=iU m;refine⟨bu m,bA m,by omega,e,?_,?_⟩
 ·have perm:∀ i j k,i<j->j<k->k<N->(m=dS P i j k\/m=neg (dS P i j k))->(dot (bu m) (wy P i p)=0)->∃ i j k,i<j/\j<k/\k<N/\dS P i j k≠zero/\(bu m=bu (dS P i j k)\/bu m=neg (bu (dS P i j k)))/\dot (bu m) (P p)=dot (bu m) (P i):=by
   intro i j k hij hjk hk hmm hd;rw[dn] at hd;refine⟨i,j,k,hij,hjk,hk,λe0=>hm0 ?_,?_,by omega⟩
   ·rcases hmm with hmm|hmm
    ·rw[hmm,e0]
    ·rw[hmm,e0];rfl
   ·rcases hmm with hmm|hmm
    ·exact .inl (by rw[hmm])
    ·exact .inr (by rw[hmm,zg])
  have dz:∀ v:V,dot m v=0->dot (bu m) v=0:=λv hv=>by
   have:(bA m:Int)*dot (bu m) v=0:=by
    rw[<-hv]
    conv=>rhs;rw[e]
    simp only[dot,smul];grind
   exact bB (by omega) this
  have z1:dot (bu m) (wy P p p)=0:=dz _ (by simp only[dot,wy,sub];grind)
  have z2:dot (bu m) (wy P q p)=0:=dz _ (by rw[hm];simp only[dot,dS,cross,wy,sub];grind)
  have z3:dot (bu m) (wy P r p)=0:=dz _ (by rw[hm];simp only[dot,dS,cross,wy,sub];grind)
  rcases Nat.lt_or_gt_of_ne h1 with a1|a1<;>rcases Nat.lt_or_gt_of_ne h2 with a2|a2<;>rcases Nat.lt_or_gt_of_ne h3 with a3|a3
  ·exact perm p q r a1 a3 hr (.inl hm) z1
  ·exact perm p r q a2 a3 hq (.inr (by rw[hm];apply V.ext'<;>simp only[dS,neg,cross,wy,sub]<;>grind)) z1
  ·omega
  ·exact perm r p q a2 a1 hq (.inl (by rw[hm];apply V.ext'<;>simp only[dS,neg,cross,wy,sub]<;>grind)) z3
  ·exact perm q p r a1 a2 hr (.inr (by rw[hm];apply V.ext'<;>simp only[dS,neg,cross,wy,sub]<;>grind)) z2
  ·omega
  ·exact perm q r p a3 a2 hp (.inl (by rw[hm];apply V.ext'<;>simp only[dS,neg,cross,wy,sub]<;>grind)) z2
  ·exact perm r q p a3 a1 hp (.inr (by rw[hm];apply V.ext'<;>simp only[dS,neg,cross,wy,sub]<;>grind)) z3
 ·have sc:∀ v:V,dot m v=(bA m:Int)*dot (bu m) v:=λv=>by
   conv=>lhs;rw[e]
   simp only[dot,smul];grind
  refine⟨λx hx=>?_,?_⟩
  ·have h:=hle x hx;rw[sc,dn] at h;rcases zmc (dot (bu m) (P p)) (dot (bu m) (P x)) with k|k
   ·have:=zDb (a:=(bA m:Int)) (b:=dot (bu m) (P x)-dot (bu m) (P p)) (by omega) (by omega)
    omega
   ·exact k
  ·obtain⟨x,hx,h⟩:=hlt;rw[sc,dn] at h;refine⟨x,hx,?_⟩;rcases zmc (dot (bu m) (P x)) (dot (bu m) (P p)) with k|k
   ·exact k
   ·have:=zwb (a:=(bA m:Int)) (b:=dot (bu m) (P x)-dot (bu m) (P p)) (by omega) (by omega)
    omega
end
open V
section
variable{P:Nat->V}{N:Nat}
def Af(hl:∀ i j,i<j->j<N->aF (P i) (P j)){n:V}{d:Int}(h:IsF P N n d){a b:Nat}(ha:a∈br P N n d)(hs:Side n P (br P N n d) a b) :
  ∃ n' d',IsF P N n' d'/\a∈br P N n' d'/\b∈br P N n' d'/\Side n' P (br P N n' d') b a:=by
 have F:=h.flat hl;have haN:=(aU.1 ha).1;have had:=(aU.1 ha).2;have hbN:=(aU.1 hs.mem).1;have he:dot n (wy P a b)=0:=F.pl a ha b hs.mem;obtain⟨x1,hx1,hT1⟩:=h.left hl ha hs;have hx1n:dot n (wy P a x1)=0:=F.pl a ha x1 hx1;have hle:∀ x,x<N->dot n (wy P a x)<=0:=λx hx=>by rw[dn];have:=h.supp.1 x hx;omega
 have hnn:=bw F.nz;obtain⟨z,hzN,hz⟩:=h.supp.2;obtain⟨y,hy,hfar⟩:=far (w:=wy P a) he ((List.range N).filter λk=>decide (dot n (wy P a k)<0)) (List.ne_nil_of_mem (a:=z) (by simp[hzN,dn];omega)) (λy hy=>by simpa using(zpc.1 hy).2)
 have hyN:y<N:=by simpa using(zpc.1 hy).1
 have hyn:dot n (wy P a y)<0:=by simpa using(zpc.1 hy).2
 have hfar':∀ x,x<N->dot n (wy P a x)<0->0<=dot (wy P a b) (cross (wy P a y) (wy P a x)):=λx hx hn=>hfar x (by simp[hx,hn])
 have onpl:∀ u v:V,dot n u=0->dot n v=0->∀ y:V,dot n n*dot (cross u v) y=dot n (cross u v)*dot n y:=λu v hu hv y=>by
  have c:=ik hu hv;have c1:=congrArg V.x c;have c2:=congrArg V.y c;have c3:=congrArg V.z c;generalize cross u v=k at *;simp only[cross,zero] at c1 c2 c3;simp only[dot];grind
 have mdot:∀ v:V,dot (cross (wy P a y) (wy P a b)) v=- dot (wy P a b) (cross (wy P a y) v):=λv=>by simp only[dot,cross];grind
 have mdot2:∀ v:V,dot (cross (wy P a y) (wy P a b)) v=dot (cross (wy P a b) v) (wy P a y):=λv=>by simp only[dot,cross];grind
 have mon:∀ x∈br P N n d,dot n n*dot (cross (wy P a y) (wy P a b)) (wy P a x)=T n (wy P a b) (wy P a x)*dot n (wy P a y):=λx hx=>by
  rw[mdot2];exact onpl _ _ he (F.pl a ha x hx) _
 have mle:∀ x,x<N->dot (cross (wy P a y) (wy P a b)) (wy P a x)<=0:=λx hx=>by
  rcases zxb (hle x hx) with k|k
  ·rw[mdot];have:=hfar' x hx k;omega
  ·have hxm:x∈br P N n d:=aU.2 ⟨hx,by rw[dn] at k;omega⟩
   have e:=mon x hxm;have t:=(hs.all x hxm).1;have:T n (wy P a b) (wy P a x)*dot n (wy P a y)<=0:=Int.mul_nonpos_of_nonneg_of_nonpos t (zNa hyn);rcases zmc 0 (dot (cross (wy P a y) (wy P a b)) (wy P a x)) with q|q
   ·have:=zDb hnn q;omega
   ·exact q
 have mlt:dot (cross (wy P a y) (wy P a b)) (wy P a x1)<0:=by
  have e:=mon x1 hx1;have:T n (wy P a b) (wy P a x1)*dot n (wy P a y)<0:=zQb hT1 hyn;rcases zmc (dot (cross (wy P a y) (wy P a b)) (wy P a x1)) 0 with q|q
  ·exact q
  ·have:=zwb (zNa hnn) q;omega
 have hya:a≠y:=λe=>by subst e;rw[show dot n (wy P a a)=0 by simp only[dot,wy,sub];grind] at hyn;omega
 have hyb:y≠b:=λe=>by subst e;omega
 obtain⟨n',g,hg,hm,hF⟩:=Le (p:=a) (q:=y) (r:=b) haN hyN hbN hya (Ne.symm hs.ne) hyb rfl mle ⟨x1,(aU.1 hx1).1,mlt⟩;have sc:∀ v:V,dot (cross (wy P a y) (wy P a b)) v=g*dot n' v:=λv=>by
  have:dS P a y b=cross (wy P a y) (wy P a b):=rfl;rw[<-this,hm];simp only[dot,smul];grind
 have hbe:dot n' (wy P a b)=0:=bB hg (by rw[<-sc];simp only[dot,cross];grind)
 have ham:a∈br P N n' (dot n' (P a)):=aU.2 ⟨haN,rfl⟩;have hbm:b∈br P N n' (dot n' (P a)):=aU.2 ⟨hbN,by rw[dn] at hbe;omega⟩
 refine⟨n',_,hF,ham,hbm,ham,Ne.symm hs.ne,λx hx=>?_⟩;have hxN:=(aU.1 hx).1;have hx0:dot n' (wy P a x)=0:=by rw[dn];have:=(aU.1 hx).2;omega
 have mx0:dot (cross (wy P a y) (wy P a b)) (wy P a x)=0:=by rw[sc,hx0,zXc]
 have tE:T n' (wy P b a) (wy P b x)=dot n' (cross (wy P a x) (wy P a b)):=by simp only[T,dot,cross,wy,sub];grind
 have dE:dot (wy P b x) (wy P b a)=dot (wy P a b) (wy P a b)-dot (wy P a x) (wy P a b):=by simp only[dot,wy,sub];grind
 have dE2:dot (wy P b a) (wy P b a)=dot (wy P a b) (wy P a b):=by simp only[dot,wy,sub];grind
 rw[tE,dE,dE2];rcases zxb (hle x hxN) with k|k
 ·
  have c1:dot (cross (wy P a x) (wy P a b)) (wy P a x1)<0:=by
   have e:=onpl (wy P a b) (wy P a x1) he hx1n (wy P a x);have e2:dot (cross (wy P a x) (wy P a b)) (wy P a x1)=dot (cross (wy P a b) (wy P a x1)) (wy P a x):=by simp only[dot,cross];grind
   have:T n (wy P a b) (wy P a x1)*dot n (wy P a x)<0:=zQb hT1 k;rw[e2];simp only[T] at this;rcases zmc (dot (cross (wy P a b) (wy P a x1)) (wy P a x)) 0 with q|q
   ·exact q
   ·have:=zwb (zNa hnn) q;omega
  have par2:dot n' n'*dot (cross (wy P a x) (wy P a b)) (wy P a x1)=dot n' (cross (wy P a x) (wy P a b))*dot n' (wy P a x1):=by
   have c:=ik hx0 hbe;have c1:=congrArg V.x c;have c2:=congrArg V.y c;have c3:=congrArg V.z c;generalize cross (wy P a x) (wy P a b)=k at *;simp only[cross,zero] at c1 c2 c3;simp only[dot];grind
  have n'n':=bw hF.nz.1;have n1:dot n' (wy P a x1)<0:=by
   rw[sc] at mlt;rcases zmc (dot n' (wy P a x1)) 0 with q|q
   ·exact q
   ·have:=zwb (zNa hg) q;omega
  have l1:dot n' n'*dot (cross (wy P a x) (wy P a b)) (wy P a x1)<0:=zQb n'n' c1;have pos:0<dot n' (cross (wy P a x) (wy P a b)):=by
   rcases zmc 0 (dot n' (cross (wy P a x) (wy P a b))) with q|q
   ·exact q
   ·have:=Int.mul_nonneg_of_nonpos_of_nonpos q (zNa n1);omega
  exact⟨zNa pos,λh0=>by omega⟩
 ·have hxm:x∈br P N n d:=aU.2 ⟨hxN,by rw[dn] at k;omega⟩
  have e:=mon x hxm;rw[mx0,zXc] at e;have t0:T n (wy P a b) (wy P a x)=0:=by
   rcases zRb.1 e.symm with q|q
   ·exact q
   ·omega
  have s2:=(hs.all x hxm).2 t0;have c0:=eC F.nz he k t0;have:dot n' (cross (wy P a x) (wy P a b))=0:=by
   have e2:dot n' (cross (wy P a x) (wy P a b))=- dot n' (cross (wy P a b) (wy P a x)):=by simp only[dot,cross];grind
   rw[e2,c0];simp[dot,zero]
  rw[this];exact⟨zid _,λ_=>⟨by omega,by omega⟩⟩
def EL(hl:∀ i j,i<j->j<N->aF (P i) (P j)){n1 n2:V}{d1 d2:Int}(h1:IsF P N n1 d1)(h2:IsF P N n2 d2){a b:Nat}(ha1:a∈br P N n1 d1)(ha2:a∈br P N n2 d2)
  (hs1:Side n1 P (br P N n1 d1) a b) (hs2:Side n2 P (br P N n2 d2) a b):n1=n2:=by
 have F1:=h1.flat hl;have F2:=h2.flat hl;obtain⟨x1,hx1,ht1⟩:=h1.left hl ha1 hs1;obtain⟨x2,hx2,ht2⟩:=h2.left hl ha2 hs2;have e1:dot n1 (wy P a b)=0:=F1.pl a ha1 b hs1.mem;have e2:dot n2 (wy P a b)=0:=F2.pl a ha2 b hs2.mem;have z1:dot n1 (wy P a x1)=0:=F1.pl a ha1 x1 hx1;have z2:dot n2 (wy P a x2)=0:=F2.pl a ha2 x2 hx2;have l12:dot n1 (wy P a x2)<=0:=by rw[dn];have:=h1.supp.1 x2 (aU.1 hx2).1;have:=(aU.1 ha1).2;omega
 have l21:dot n2 (wy P a x1)<=0:=by rw[dn];have:=h2.supp.1 x1 (aU.1 hx1).1;have:=(aU.1 ha2).2;omega
 have hp1:=bw F1.nz;have hp2:=bw F2.nz;have onpl:∀ (n u v:V),dot n u=0->dot n v=0->smul (dot n n) (cross u v)=smul (dot n (cross u v)) n:=λn u v hu hv=>by
  have c:=ik hu hv;have c1:=congrArg V.x c;have c2:=congrArg V.y c;have c3:=congrArg V.z c;generalize cross u v=k at *;simp only[cross,zero] at c1 c2 c3;apply V.ext'<;>simp only[smul,dot]<;>grind
 have dsm:∀ (k:Int) (u v:V),dot (smul k u) v=k*dot u v:=λk u v=>by simp only[dot,smul];grind
 have k1:dot n1 n1*dot (cross (wy P a b) (wy P a x1)) (wy P a x2)=T n1 (wy P a b) (wy P a x1)*dot n1 (wy P a x2):=by
  have:=congrArg (λv=>dot v (wy P a x2)) (onpl n1 _ _ e1 z1);simp only[dsm] at this;exact this
 have k2:dot n2 n2*dot (cross (wy P a b) (wy P a x2)) (wy P a x1)=T n2 (wy P a b) (wy P a x2)*dot n2 (wy P a x1):=by
  have:=congrArg (λv=>dot v (wy P a x1)) (onpl n2 _ _ e2 z2);simp only[dsm] at this;exact this
 have sw:dot (cross (wy P a b) (wy P a x2)) (wy P a x1)=- dot (cross (wy P a b) (wy P a x1)) (wy P a x2):=by simp only[dot,cross];grind
 have m1:T n1 (wy P a b) (wy P a x1)*dot n1 (wy P a x2)<=0:=Int.mul_nonpos_of_nonneg_of_nonpos (zNa ht1) l12;have m2:T n2 (wy P a b) (wy P a x2)*dot n2 (wy P a x1)<=0:=Int.mul_nonpos_of_nonneg_of_nonpos (zNa ht2) l21;have D0:dot (cross (wy P a b) (wy P a x1)) (wy P a x2)=0:=by
  rw[sw] at k2;generalize dot (cross (wy P a b) (wy P a x1)) (wy P a x2)=D at *;rcases zWb D 0 with q|q|q
  ·have:=zDb (a:=dot n2 n2) (b:=-D) hp2 (by omega);omega
  ·exact q
  ·have:=zDb hp1 q;omega
 have n12:dot n1 (wy P a x2)=0:=by
  rw[D0,zXc] at k1;rcases zRb.1 k1.symm with q|q
  ·omega
  ·exact q
 have hx2m:x2∈br P N n1 d1:=aU.2 ⟨(aU.1 hx2).1,by rw[dn] at n12;have:=(aU.1 ha1).2;omega⟩
 have c2:=onpl n2 _ _ e2 z2;have c1:=onpl n1 _ _ e1 n12;have t12:=(hs1.all x2 hx2m).1;have ne:T n1 (wy P a b) (wy P a x2)≠0:=λe=>by
  have c0:=eC F1.nz e1 n12 e;have:T n2 (wy P a b) (wy P a x2)=0:=by simp only[T];rw[c0];simp[dot,zero]
  omega
 refine FF h1.nz.2 h2.nz.2 (a:=T n1 (wy P a b) (wy P a x2)*dot n2 n2) (b:=T n2 (wy P a b) (wy P a x2)*dot n1 n1) (zDb (by omega) hp2) (zDb ht2 hp1) ?_
 simp only[T] at *;generalize cross (wy P a b) (wy P a x2)=K at *;have q1:=congrArg V.x c1;have q2:=congrArg V.y c1;have q3:=congrArg V.z c1;have r1:=congrArg V.x c2;have r2:=congrArg V.y c2;have r3:=congrArg V.z c2;generalize dot n1 n1=A at *;generalize dot n2 n2=B at *;generalize dot n1 K=A' at *;generalize dot n2 K=B' at *;simp only[smul] at q1 q2 q3 r1 r2 r3;apply V.ext'<;>simp only[smul]<;>grind
end
open V
section
variable{n:V}{P:Nat->V}{on:List Nat}
def Side.start(h:Flat n P on){a b:Nat}(ha:a∈on)(hs:Side n P on a b):ln P on a:=by
 obtain⟨K,hK,hb⟩:=iO (λx=>dot (wy P a b) (wy P a x)) on;refine⟨add (smul K (cross n (wy P a b))) (wy P a b),λx hx hxa=>?_⟩;have e:dot (add (smul K (cross n (wy P a b))) (wy P a b)) (wy P a x)=K*T n (wy P a b) (wy P a x)+dot (wy P a b) (wy P a x):=by simp only[T,dot,add,smul,cross];grind
 rw[e];obtain⟨h1,h2⟩:=hs.all x hx;have c:=hb x hx;rcases zxb h1 with k|k
 ·have:K*1<=K*T n (wy P a b) (wy P a x):=zCb (by omega) (zNa hK)
  omega
 ·rw[<-k,zXc,z8c];obtain⟨q1,q2⟩:=h2 k.symm;have sw:dot (wy P a b) (wy P a x)=dot (wy P a x) (wy P a b):=by simp only[dot];grind
  rw[sw];rcases zxb q1 with p|p
  ·exact p
  ·exfalso;have c0:=eC h.nz (h.pl a ha b hs.mem) (h.pl a ha x hx) k.symm;have pr:=GA c0 (wy P a b);rw[sw,<-p] at pr;have hp:=bw (rh h ha hs.mem hs.ne);apply rh h ha hx hxa;have p1:=congrArg V.x pr;have p2:=congrArg V.y pr;have p3:=congrArg V.z pr;simp only[smul,Int.zero_mul] at p1 p2 p3;exact V.ext' (bB hp p1) (bB hp p2) (bB hp p3)
end
theorem qc{α:Type}{r:α->α->Prop}(irr:∀ a,¬ r a a)(asy:∀ a b,r a b->¬ r b a):∀ {l l':List α},l.Pairwise r->l'.Pairwise r->(∀ x,x∈l↔x∈l')->l=l'
 | [],[],_,_,_=>rfl
 | [],b::l',_,_,h=>absurd ((h b).2 zka) (by simp)
 | a::l,[],_,_,h=>absurd ((h a).1 zka) (by simp)
 | a::l,b::l',h1,h2,h=>by
  obtain⟨k1,k2⟩:=zQa.1 h1;obtain⟨k3,k4⟩:=zQa.1 h2;have e:a=b:=by
   rcases zCa.1 ((h a).1 zka) with e|m
   ·exact e
   ·rcases zCa.1 ((h b).2 zka) with e|m'
    ·exact e.symm
    ·exact absurd (k1 b m') (asy _ _ (k3 a m))
  subst e;rw[qc irr asy k2 k4 λx=>?_];constructor
  ·intro hx;rcases zCa.1 ((h x).1 (zha _ hx)) with e|m
   ·subst e;exact absurd (k1 x hx) (irr x)
   ·exact m
  ·intro hx;rcases zCa.1 ((h x).2 (zha _ hx)) with e|m
   ·subst e;exact absurd (k3 x hx) (irr x)
   ·exact m
def mC(a:V):¬ aF a a:=by simp only[aF];omega
def ve(a b:V):aF a b->¬ aF b a:=by simp only[aF];omega
def lN{a b c:V}:aF a b->aF b c->aF a c:=by simp only[aF];omega
def pR{a b:V}(h:a≠b):aF a b\/aF b a:=by
 simp only[aF];rcases zWb a.x b.x with h1|h1|h1<;>rcases zWb a.y b.y with h2|h2|h2<;>rcases zWb a.z b.z with h3|h3|h3<;>first|omega|exact absurd (V.ext' h1 h2 h3) h
structure Facets(P:Nat->V)(N:Nat)(L:List (V×Int)):Prop where
 ord:L.Pairwise (λa b=>aF a.1 b.1)
 mem:∀ q,q∈L↔IsF P N q.1 q.2
def Facets.eq{P:Nat->V}{N:Nat}{L L':List (V×Int)}(h:Facets P N L)(h':Facets P N L'):L=L':=
 qc (r:=λa b=>aF a.1 b.1) (λa=>mC a.1) (λa b=>ve a.1 b.1) h.ord h'.ord λx=>(h.mem x).trans (h'.mem x).symm
section
variable{P:Nat->V}{N:Nat}{n:V}{d:Int}
def IsF.d_eq{d':Int}(h:IsF P N n d)(h':IsF P N n d'):d=d':=by
 obtain⟨i,_,_,hij,hjk,hk,_,_,e⟩:=h.ex;obtain⟨i',_,_,hij',hjk',hk',_,_,e'⟩:=h'.ex;have h1:=h.supp.1 i' (by omega)
 have h2:=h'.supp.1 i (by omega)
 omega
def bE(P:Nat->V)(N:Nat)(n:V)(d:Int)(l:List Nat):Prop:=∃ a,(br P N n d).head?=some a/\Chain (Side n P (br P N n d)) a a l
def Fy:(br P N n d).Pairwise (·<·):=List.Pairwise.sublist List.filter_sublist List.pairwise_lt_range
theorem IsF.head(hl:∀ i j,i<j->j<N->aF (P i) (P j))(h:IsF P N n d):∃ a,(br P N n d).head?=some a/\a∈br P N n d/\ln P (br P N n d) a/\(∀ x∈br P N n d,a<=x)/\∀ c∈br P N n d,∃ x∈br P N n d,x≠c:=by
 obtain⟨i,j,k,hij,hjk,hk,mi,mj,mk,ht⟩:=h.three;cases hon:br P N n d with
 | nil=>rw[hon] at mi;simp at mi
 | cons a l=>
  have ho:(a::l).Pairwise (·<·):=by rw[<-hon];exact Fy
  rw[zQa] at ho;have hle:∀ x∈a::l,a<=x:=λx hx=>by
   rcases zCa.1 hx with e|m
   ·omega
   ·exact zrc (ho.1 x m)
  refine⟨a,rfl,zka,CU λx hx hxa=>?_,hle,λc hc=>?_⟩
  ·have:=hle x hx;rw[<-hon] at hx;exact hl a x (by omega) (aU.1 hx).1
  ·rw[hon] at mi mj;by_cases e:i=c
   ·exact⟨j,mj,by omega⟩
   ·exact⟨i,mi,e⟩
def IsF.poly(hl:∀ i j,i<j->j<N->aF (P i) (P j))(h:IsF P N n d) :
  ∃ l,bE P N n d l/\l.Nodup/\∀ z,z∈l↔z∈br P N n d/\ln P (br P N n d) z:=by
 obtain⟨a,h1,h2,h3,h4,h5⟩:=h.head hl;obtain⟨l,k1,k2,k3,k4⟩:=AK (h.flat hl) h2 h3 h5;exact⟨l,⟨a,h1,k1⟩,k2,λz=>⟨k3 z,λ⟨q1,q2⟩=>k4 z q1 q2⟩⟩
def bE.eq(hl:∀ i j,i<j->j<N->aF (P i) (P j))(h:IsF P N n d){l l':List Nat}(k:bE P N n d l)(k':bE P N n d l'):l=l':=by
 obtain⟨a,h1,h2⟩:=k;obtain⟨a',h1',h2'⟩:=k';rw[h1] at h1';cases h1';obtain⟨b,g1,g2,g3,g4,g5⟩:=h.head hl;rw[h1] at g1;cases g1;have F:=h.flat hl;have key:∀ {c:Nat} {l l':List Nat},c∈br P N n d->Chain (Side n P (br P N n d)) a c l->Chain (Side n P (br P N n d)) a c l'->l=l':=by
  intro c l l' hc k1
  induction k1 generalizing l' with
  | done s=>intro k2;cases k2 with
   | done _=>rfl
   | step s' hne _=>exact absurd (Side.unique F hc s' s) hne
  | step s hne k ih=>intro k2;cases k2 with
   | done s'=>exact absurd (Side.unique F hc s s') hne
   | step s' _ k'=>
    have e:=Side.unique F hc s s';subst e;rw[ih s.mem k']
 exact key g2 h2 h2'
def bE.next{l:List Nat}(k:bE P N n d l){i:Nat}(hi:i<l.length):Side n P (br P N n d) (l.getD i 0) (l.getD ((i+1)%l.length) 0):=by
 obtain⟨a,h1,h2⟩:=k;obtain⟨l',e⟩:=h2.head;obtain⟨y,q1,q2⟩:=h2.pairs i (l.getD i 0) (by simp[List.getD,zca hi])
 rcases zna (i+1) l.length with c|c
 ·rw[zfb c] at q1;rw[zFa c];simp only[List.getD,q1,zBb];exact q2
 ·have ei:i+1=l.length:=by omega
  rw[zyb (by omega),ei,z4c] at q1
  simp at q1;subst q1;rw[ei,Nat.mod_self];have:l.getD 0 0=a:=by rw[e];rfl
  rw[this];exact q2
def Mg(P:Nat->V)(N:Nat)(n:V)(d:Int)(a b:Nat):Prop:=a∈br P N n d/\Side n P (br P N n d) a b
def bE.dir(hl:∀ i j,i<j->j<N->aF (P i) (P j))(h:IsF P N n d){l:List Nat}(k:bE P N n d l){a b:Nat} :
  (∃ i,i<l.length/\l.getD i 0=a/\l.getD ((i+1)%l.length) 0=b)↔Mg P N n d a b:=by
 obtain⟨l2,p1,p2,p3⟩:=h.poly hl;have:=bE.eq hl h k p1;subst this;constructor
 ·rintro⟨i,hi,h1,h2⟩;have s:=k.next hi
  rw[h1,h2] at s;refine⟨((p3 a).1 ?_).1,s⟩;rw[<-h1];simp[List.getD,zca hi]
 ·rintro⟨ha,s⟩;have hm:=(p3 a).2 ⟨ha,s.start (h.flat hl) ha⟩;obtain⟨i,hi,e⟩:=zTa hm;have ei:l.getD i 0=a:=by simp[List.getD,zca hi,e]
  have s2:=k.next hi
  rw[ei] at s2;exact⟨i,hi,ei,Side.unique (h.flat hl) ha s2 s⟩
end
section
variable{P:Nat->V}{N:Nat}
end
end Geo
end
noncomputable section
namespace Sy
open Go Go.Proofs Geo
abbrev I(n:Int):D:=.int .i64 n
def af(v:V):D:=.st [I v.x,I v.y,I v.z]
def inR(n:Int):Prop:=-9223372036854775808<=n/\n<=9223372036854775807
def jz{n:Int}(h:inR n):IntKind.wrap .i64 n=n:=by
 obtain⟨h1,h2⟩:=h;simp only[IntKind.wrap,IntKind.signed,IntKind.bits];first
  | omega
  | (simp;omega)
def aw{a b:Int}(h:inR (a+b)):D.bin .add (I a) (I b)=some (I (a+b)):=by simp only[D.bin,if_true,jz h]
def dF{a b:Int}(h:inR (a-b)):D.bin .sub (I a) (I b)=some (I (a-b)):=by simp only[D.bin,if_true,jz h]
def co{a b:Int}(h:inR (a*b)):D.bin .mul (I a) (I b)=some (I (a*b)):=by simp only[D.bin,if_true,jz h]
def ag{a b:Int}:D.bin .lss (I a) (I b)=some (.bool (decide (a<b))):=by simp only[D.bin,if_true]
def rV{a b:Int}:D.bin .leq (I a) (I b)=some (.bool (decide (a<=b))):=by simp only[D.bin,if_true]
def cn{a b:Int}:D.bin .gtr (I a) (I b)=some (.bool (decide (a>b))):=by simp only[D.bin,if_true]
def iB{a b:Int}:D.bin .geq (I a) (I b)=some (.bool (decide (a ≥ b))):=by simp only[D.bin,if_true]
def rW{a b:Int}(h:b≠0):D.bin .rem (I a) (I b)=some (I (a.tmod b)):=by simp only[D.bin,if_true,h,if_false]
def uI{a b:Int}(h:b≠0)(hr:inR (a.tdiv b)):D.bin .quo (I a) (I b)=some (I (a.tdiv b)):=by simp only[D.bin,if_true,h,if_false,jz hr]
def ra{a:Int}(h:inR (-a)):D.un .neg (I a)=some (I (-a)):=by simp only[D.un,Int.zero_sub,jz h]
def bv{b:Bool}:D.un .not (.bool b)=some (.bool (!b)):=rfl
def ae{b:Bool}:D.truth (.bool b)=some b:=rfl
def Fk{a b:Int}:D.max2 (I a) (I b)=some (I (max a b)):=by
 simp only[D.max2];congr 2;split<;>omega
def Np{a b:Int}:D.min2 (I a) (I b)=some (I (min a b)):=by
 simp only[D.min2];congr 2;split<;>omega
def bO{a b:Int}:D.beq (I a) (I b)=decide (a=b):=by simp[D.beq]
def om(v:V):D.get (af v) [0]=some (I v.x):=rfl
def oo(v:V):D.get (af v) [1]=some (I v.y):=rfl
def ou(v:V):D.get (af v) [2]=some (I v.z):=rfl
def iF(x y z:Int):D.st [D.int .i64 x,D.int .i64 y,D.int .i64 z]=af ⟨x,y,z⟩:=rfl
def bd(k:Int)(v:V):Prop:=(-k<=v.x/\v.x<=k)/\(-k<=v.y/\v.y<=k)/\(-k<=v.z/\v.z<=k)
def fZ{a b A B:Int}(ha:-A<=a/\a<=A)(hb:-B<=b/\b<=B):-(A*B)<=a*b/\a*b<=A*B:=by
 have hA:0<=A:=by omega
 have hB:0<=B:=by omega
 have h1:(a*b).natAbs<=(A*B).natAbs:=by
  rw[zHa,zHa];exact z2a (by omega) (by omega)
 have h2:0<=A*B:=zwb hA hB;omega
def np{A B:Int}{u v:V}(hu:bd A u)(hv:bd B v):bd (A+B) (u.sub v):=by
 simp only[bd,V.sub] at *;omega
def nl{A:Int}{u:V}(hu:bd A u):bd A u.neg:=by
 simp only[bd,V.neg] at *;omega
def eB{A B:Int}{u v:V}(hu:bd A u)(hv:bd B v):bd (2*(A*B)) (V.cross u v):=by
 have:=fZ hu.1 hv.1;have:=fZ hu.1 hv.2.1;have:=fZ hu.1 hv.2.2;have:=fZ hu.2.1 hv.1;have:=fZ hu.2.1 hv.2.1;have:=fZ hu.2.1 hv.2.2;have:=fZ hu.2.2 hv.1;have:=fZ hu.2.2 hv.2.1;have:=fZ hu.2.2 hv.2.2;simp only[bd,V.cross];omega
def Em{A B:Int}{u v:V}(hu:bd A u)(hv:bd B v):-(3*(A*B))<=V.dot u v/\V.dot u v<=3*(A*B):=by
 have:=fZ hu.1 hv.1;have:=fZ hu.2.1 hv.2.1;have:=fZ hu.2.2 hv.2.2;simp only[V.dot];omega
def yo{A B:Int}{u v:V}(hu:bd A u)(hv:bd B v)(h:3*(A*B)<=9223372036854775807) :
  inR (u.x*v.x)/\inR (u.y*v.y)/\inR (u.z*v.z)/\inR (u.x*v.x+u.y*v.y)/\inR (u.x*v.x+u.y*v.y+u.z*v.z):=by
 have:=fZ hu.1 hv.1;have:=fZ hu.2.1 hv.2.1;have:=fZ hu.2.2 hv.2.2;simp only[inR];omega
def f101{call:Nat->List D->Option D}{A B:Int}{u v:V}(hu:bd A u)(hv:bd B v)(h:3*(A*B)<=9223372036854775807):D8 aT call (af u) (af v)=some (I (V.dot u v)):=by
 obtain⟨h1,h2,h3,h4,h5⟩:=yo hu hv h;simp only[D8,qG,qB,om,oo,ou,zba,co h1,co h2,co h3,aw h4,aw h5];rfl
def Ep(n:Nat){A B:Int}{u v:V}(hu:bd A u)(hv:bd B v)(h:3*(A*B)<=9223372036854775807):cA (n+1) 101 [af u,af v]=some (I (V.dot u v)):=by rw[TE];exact f101 hu hv h
def zZ(n:Nat){A B:Int}{u v:V}(hu:bd A u)(hv:bd B v)(h:3*(A*B)<=9223372036854775807):cA (n+1) 107 [af u,af v]=some (I (V.dot u v)):=by
 obtain⟨h1,h2,h3,h4,h5⟩:=yo hu hv h;rw[TJ];simp only[GJ,qG,qB,om,oo,ou,zba,co h1,co h2,co h3,aw h4,aw h5];rfl
def sq{A B:Int}{u v:V}(hu:bd A u)(hv:bd B v)(h:2*(A*B)<=9223372036854775807) :
  inR (u.y*v.z)/\inR (u.z*v.y)/\inR (u.z*v.x)/\inR (u.x*v.z)/\inR (u.x*v.y)/\inR (u.y*v.x)/\inR (u.y*v.z-u.z*v.y)/\inR (u.z*v.x-u.x*v.z)/\inR (u.x*v.y-u.y*v.x):=by
 have:=fZ hu.1 hv.1;have:=fZ hu.1 hv.2.1;have:=fZ hu.1 hv.2.2;have:=fZ hu.2.1 hv.1;have:=fZ hu.2.1 hv.2.1;have:=fZ hu.2.1 hv.2.2;have:=fZ hu.2.2 hv.1;have:=fZ hu.2.2 hv.2.1;have:=fZ hu.2.2 hv.2.2;simp only[inR];omega
def Kv(n:Nat){A B:Int}{u v:V}(hu:bd A u)(hv:bd B v)(h:2*(A*B)<=9223372036854775807):cA (n+1) 117 [af u,af v]=some (af (V.cross u v)):=by
 obtain⟨h1,h2,h3,h4,h5,h6,h7,h8,h9⟩:=sq hu hv h;rw[TS];simp only[GR,qG,qB,om,oo,ou,zba,co h1,co h2,co h3,co h4,co h5,co h6,dF h7,dF h8,dF h9];rfl
def Kw(n:Nat){A B:Int}{u v:V}(hu:bd A u)(hv:bd B v)(h:2*(A*B)<=9223372036854775807):cA (n+1) 123 [af u,af v]=some (af (V.cross u v)):=by
 obtain⟨h1,h2,h3,h4,h5,h6,h7,h8,h9⟩:=sq hu hv h;rw[T1];simp only[GX,qG,qB,om,oo,ou,zba,co h1,co h2,co h3,co h4,co h5,co h6,dF h7,dF h8,dF h9];rfl
def VD(n:Nat){A:Int}{u:V}(hu:bd A u)(h:A<=9223372036854775807):cA (n+1) 97 [af u]=some (af u.neg):=by
 have h1:inR (-u.x):=by simp only[bd,inR] at *;omega
 have h2:inR (-u.y):=by simp only[bd,inR] at *;omega
 have h3:inR (-u.z):=by simp only[bd,inR] at *;omega
 rw[Yx];simp only[Oy,qG,om,oo,ou,zba,ra h1,ra h2,ra h3];rfl
end Sy
end
noncomputable section
namespace Sy
open Go Go.Proofs Geo
abbrev Bd:=List D->Option (Sum (List D) (Nat×List D))
def cC{body:Bd}{s s':List D}{k:Nat×List D->Option D}{y:D}(h:body s=some (.inl s'))(hk:Option.bind (aT body s') k=some y):Option.bind (aT body s) k=some y:=by
 have:aT body s=aT body s':=dK h;rw[this];exact hk
def fY{body:Bd}{s:List D}{r:Nat×List D}{k:Nat×List D->Option D}{y:D}(h:body s=some (.inr r))(hk:k r=some y):Option.bind (aT body s) k=some y:=by
 have:aT body s=some r:=dt h;rw[this];exact hk
def wT{body:Bd}{s:List D}{r:Nat×List D}{k:Nat×List D->Option D}{y:D}(h:aT body s=some r)(hk:k r=some y):Option.bind (aT body s) k=some y:=by
 rw[h];exact hk
def bc{body:Bd}{s0:List D}{k:Nat×List D->Option D}{y:D}(J:Nat->List D->Prop)(n i0:Nat)(hi:i0<=n)(h0:J i0 s0)
  (hs:∀ i,i<n->∀ s,J i s->(∃ s',body s=some (.inl s')/\J (i+1) s')\/∃ r,body s=some (.inr r)/\k r=some y) (he:∀ s,J n s->∃ r,body s=some (.inr r)/\k r=some y):Option.bind (aT body s0) k=some y:=by
 obtain⟨m,hm⟩:∃ m,m=n-i0:=⟨_,rfl⟩
 induction m generalizing i0 s0 with
 | zero=>
  have:i0=n:=by omega
  subst this;obtain⟨r,h1,h2⟩:=he s0 h0;exact fY h1 h2
 | succ m ih=>
  rcases hs i0 (by omega) s0 h0 with⟨s',h1,h2⟩|⟨r,h1,h2⟩
  ·exact cC h1 (ih (i0:=i0+1) (by omega) h2 (by omega))
  ·exact fY h1 h2
def B0{body:Bd}{s0:List D}(J:Nat->List D->Prop)(Q:Nat×List D->Prop)(n i0:Nat)(hi:i0<=n)(h0:J i0 s0)
  (hs:∀ i,i<n->∀ s,J i s->(∃ s',body s=some (.inl s')/\J (i+1) s')\/∃ r,body s=some (.inr r)/\Q r) (he:∀ s,J n s->∃ r,body s=some (.inr r)/\Q r):∃ r,aT body s0=some r/\Q r:=by
 obtain⟨m,hm⟩:∃ m,m=n-i0:=⟨_,rfl⟩
 induction m generalizing i0 s0 with
 | zero=>
  have:i0=n:=by omega
  subst this;obtain⟨r,h1,h2⟩:=he s0 h0;exact⟨r,dt h1,h2⟩
 | succ m ih=>
  rcases hs i0 (by omega) s0 h0 with⟨s',h1,h2⟩|⟨r,h1,h2⟩
  ·obtain⟨r,k1,k2⟩:=ih (i0:=i0+1) (by omega) h2 (by omega)
   exact⟨r,by rw[show aT body s0=aT body s' from dK h1];exact k1,k2⟩
  ·exact⟨r,dt h1,h2⟩
def ap{i n:Nat}(h:i<n):D.idx (I (i:Int)) n=some i:=by
 simp only[D.idx];rw[if_pos (by omega)];simp
def ay{i:Nat}(h:i<=9223372036854775806):inR ((i:Int)+1):=by simp only[inR];omega
def g0{x:D}{l:List D}{d:D}:List.getD (x::l) 0 d=x:=rfl
def g1{x y:D}{l:List D}{d:D}:List.getD (x::y::l) 1 d=y:=rfl
def g2{x y z:D}{l:List D}{d:D}:List.getD (x::y::z::l) 2 d=z:=rfl
def g3{x y z w:D}{l:List D}{d:D}:List.getD (x::y::z::w::l) 3 d=w:=rfl
def Tz(v:V)(a:Int):D.set (af v) [0] (I a)=some (af ⟨a,v.y,v.z⟩):=rfl
def TA(v:V)(a:Int):D.set (af v) [1] (I a)=some (af ⟨v.x,a,v.z⟩):=rfl
def TC(v:V)(a:Int):D.set (af v) [2] (I a)=some (af ⟨v.x,v.y,a⟩):=rfl
def JV:D.idx (I 0) 3=some 0:=rfl
def JW:D.idx (I 1) 3=some 1:=rfl
def JX:D.idx (I 2) 3=some 2:=rfl
def SB(n:Nat){A B:Int}{u v:V}(hu:bd A u)(hv:bd B v)(h:A+B<=9223372036854775807):cA (n+1) 154 [af u,af v]=some (af (u.add v)):=by
 have h1:inR (u.x+v.x):=by simp only[bd,inR] at *;omega
 have h2:inR (u.y+v.y):=by simp only[bd,inR] at *;omega
 have h3:inR (u.z+v.z):=by simp only[bd,inR] at *;omega
 rw[Uo]
 delta Hj qB qC qJ qZ iL iR Jn
 refine cC (s':=[I 1,af ⟨u.x+v.x,u.y,u.z⟩]) ?_ (cC (s':=[I 2,af ⟨u.x+v.x,u.y+v.y,u.z⟩]) ?_ (cC (s':=[I 3,af ⟨u.x+v.x,u.y+v.y,u.z+v.z⟩]) ?_ (fY (r:=(0,[af (u.add v)])) ?_ rfl)))
 ·simp only[g0,g1,ag,zba,ae,JV,om,Tz,aw h1,aw (show inR (0+1) from⟨by decide,by decide⟩)];rfl
 ·simp only[g0,g1,ag,zba,ae,JW,oo,TA,aw h2,aw (show inR (1+1) from⟨by decide,by decide⟩)];rfl
 ·simp only[g0,g1,ag,zba,ae,JX,ou,TC,aw h3,aw (show inR (2+1) from⟨by decide,by decide⟩)];rfl
 ·simp only[g0,g1,ag,zba,ae];rfl
def Ih(u v:V):u.add v.neg=u.sub v:=by apply V.ext'<;>simp only[V.add,V.neg,V.sub]<;>omega
def Ir(n:Nat){A B:Int}{u v:V}(hu:bd A u)(hv:bd B v)(h:A+B<=9223372036854775807):cA (n+2) 103 [af u,af v]=some (af (u.sub v)):=by
 have hA:0<=A:=by simp only[bd] at hu;omega
 rw[TF];simp only[GF,VD n hv (by omega),zba,SB n hu (nl hv) h,Ih]
def ui(n:Nat){A B:Int}{u v:V}(hu:bd A u)(hv:bd B v)(h:A+B<=9223372036854775807):cA (n+1) 112 [af u,af v]=some (af (u.sub v)):=by
 have h1:inR (u.x-v.x):=by simp only[bd,inR] at *;omega
 have h2:inR (u.y-v.y):=by simp only[bd,inR] at *;omega
 have h3:inR (u.z-v.z):=by simp only[bd,inR] at *;omega
 rw[TP];simp only[GO,qG,qB,om,oo,ou,zba,dF h1,dF h2,dF h3];rfl
def bU(a b:Int):Int:=if a<b then -1 else if a>b then 1 else 0
def Ss(n:Nat)(a:Int):cA (n+1) 115 [I a]=some (.bool false):=by
 rw[TQ];simp only[GP,bO];simp
def OD(n:Nat)(a b:Int):cA (n+2) 53 [I a,I b]=some (I (bU a b)):=by
 rw[Yd];simp only[N9,qC,qT,Jn,Ss,zba,ae,zza,if_false,ag,cn,bU,decide_eq_true_eq];split
 ·rfl
 ·split<;>rfl
def xe:List Int->Int
 | []=>0
 | x::l=>if x=0 then xe l else x
def XF(n:Nat)(l:List Int)(hl:l.length<=1000):cA (n+1) 52 [.sl (l.map λx=>I x)]=some (I (xe l)):=by
 rw[Yc]
 delta N8 qB qC qT qS qX qZ iL iR Jn
 simp only[D.asSl,zba];refine bc (λi s=>s=[I i]/\xe l=xe (l.drop i)) l.length 0 (zia _) ⟨rfl,rfl⟩ (λi hi s hJ=>?_) (λs hJ=>?_)
 ·obtain⟨rfl,hz⟩:=hJ;have hx:(l.map λx=>I x)[i]?=some (I l[i]):=by simp[hi]
  simp only[g0,zta,ag,zba,ae,decide_eq_true_eq,show((i:Int)<(l.length:Int)) from by omega,if_true,ap hi,hx,bO]
  have hd:l.drop i=l[i]::l.drop (i+1):=zkb hi;rw[hd] at hz;by_cases h0:l[i]=0
  ·left;refine⟨[I ((i+1:Nat):Int)],?_,rfl,?_⟩
   ·simp only[h0,decide_true,zac,zza,if_false,aw (ay (i:=i) (by omega)),zba];rfl
   ·rw[hz];simp[xe,h0]
  ·right;refine⟨(0,[I l[i]]),?_,?_⟩
   ·simp[h0]
   ·rw[hz];simp[xe,h0]
 ·obtain⟨rfl,hz⟩:=hJ;refine⟨(1,[]),?_,?_⟩
  ·simp only[g0,zta,ag,zba,ae,decide_eq_true_eq,zJc,if_false]
  ·rw[hz];simp[xe]
end Sy
end
noncomputable section
namespace Sy
open Go Go.Proofs Geo
def yA{body:Bd}(h0:∀ a b:Int,b≠0->body [I a,I b]=some (.inl [I b,I (a.tmod b)]))(h1:∀ a:Int,body [I a,I 0]=some (.inr (0,[I a]))) :
  ∀ (m:Nat) (a b:Int),b.natAbs=m->∃ r:Int,aT body [I a,I b]=some (0,[I r])/\r.natAbs=Nat.gcd a.natAbs b.natAbs:=by
 intro m
 induction m using Nat.strongRecOn with
 | _ m ih=>
  intro a b hb;by_cases hz:b=0
  ·subst hz;exact⟨a,dt (h1 a),by simp⟩
  ·have hlt:(a.tmod b).natAbs<m:=by
    rw[Int.natAbs_tmod,<-hb];exact zUa _ (by omega)
   obtain⟨r,k1,k2⟩:=ih _ hlt b (a.tmod b) rfl;refine⟨r,?_,?_⟩
   ·rw[show aT body [I a,I b]=aT body [I b,I (a.tmod b)] from dK (h0 a b hz)];exact k1
   ·rw[k2,Int.natAbs_tmod,zCc a.natAbs,Nat.gcd_rec b.natAbs a.natAbs,zCc]
def sU{a b:Int}{k:Nat}(ha:a.natAbs<=k)(hb:b.natAbs<=k):Nat.gcd a.natAbs b.natAbs<=k:=by
 rcases zqb a.natAbs with h|h
 ·rw[h,Nat.gcd_zero_left];exact hb
 ·exact zAa (Nat.le_of_dvd h (zhb _ _)) ha
def MJ(n:Nat){a b:Int}(ha:a.natAbs<=9223372036854775807)(hb:b.natAbs<=9223372036854775807):cA (n+1) 152 [I a,I b]=some (I (Nat.gcd a.natAbs b.natAbs:Nat)):=by
 rw[Un]
 delta Hi qB qT qZ iL iR Jn
 obtain⟨r,h1,h2⟩:=yA (body:=λ(v1:List D)=>
  Option.bind (D.truth (D.bool (!(D.beq (gx v1 1) (D.int .i64 0))))) λb2=>
  if b2 then(Option.bind (D.bin .rem (gx v1 0) (gx v1 1)) λx3=>
  some (Sum.inl [(gx v1 1),x3])) else(some (Sum.inr (0,[(gx v1 0)]))))
  (λa b hb=>by simp only[g0,g1,bO,ae,zba,hb,decide_false,zSb,if_true,rW hb])
  (λa=>by simp only[g0,g1,bO,ae,zba,decide_true,zac,zza,if_false]) _ a b rfl
 refine wT h1 ?_;have hr:r.natAbs<=9223372036854775807:=by rw[h2];exact sU ha hb
 have hn:inR (-r):=by simp only[inR];omega
 simp only[zba,g0,ra hn,Fk];congr 2;omega
def gF{a:Int}{g:Nat}(hg:0<g)(h:(g:Int) ∣ a):a.tdiv g=a/g:=by
 obtain⟨c,rfl⟩:=h;rw[ztd _ (by omega),zZa _ (by omega)]
def yp(v:V):(bA v:Int) ∣ v.x:=z4a.2 (zdd (zhb _ _) (zhb _ _))
def yq(v:V):(bA v:Int) ∣ v.y:=z4a.2 (zdd (zhb _ _) (zub _ _))
def yr(v:V):(bA v:Int) ∣ v.z:=z4a.2 (zub _ _)
def pB{a:Int}{g:Nat}{k:Int}(h:-k<=a/\a<=k)(hd:(g:Int) ∣ a):-k<=a/g/\a/g<=k:=by
 have h1:(a/(g:Int)).natAbs<=a.natAbs:=by
  rcases zqb g with e|e
  ·subst e;simp
  ·obtain⟨c,rfl⟩:=hd;rw[zZa _ (by omega),zHa]
   exact zsb _ (by omega)
 omega
def jl{k:Int}{v:V}(h:bd k v):bd k (bu v):=⟨pB h.1 (yp v),pB h.2.1 (yq v),pB h.2.2 (yr v)⟩
def cm(q:V×Int):D:=.st [af q.1,I q.2]
def MV:Int:=262144
def jm{P:Nat->V}{i j:Nat}(hi:bd MV (P i))(hj:bd MV (P j)):bd 524288 (wy P i j):=by
 have:=np hj hi;simpa [MV,wy] using this
def XM(n:Nat){a b c:V}(ha:bd MV a)(hb:bd MV b)(hc:bd MV c):cA (n+3) 96 [af a,af b,af c]=some (cm (bu (V.cross (b.sub a) (c.sub a)),V.dot (bu (V.cross (b.sub a) (c.sub a))) a)):=by
 have h1:bd 524288 (b.sub a):=by have:=np hb ha;simpa [MV] using this
 have h2:bd 524288 (c.sub a):=by have:=np hc ha;simpa [MV] using this
 rw[Yw]
 delta Ox qG qB qC Jn
 simp only[Ir n hb ha (by decide),Ir n hc ha (by decide),zba,Kv (n+1) h1 h2 (by decide)]
 have h3:=eB h1 h2;generalize V.cross (b.sub a) (c.sub a)=m at *;have e1:m.x.natAbs<=549755813888:=by have:=h3.1;omega
 have e2:m.y.natAbs<=549755813888:=by have:=h3.2.1;omega
 have e3:m.z.natAbs<=549755813888:=by have:=h3.2.2;omega
 have e4:Nat.gcd m.x.natAbs m.y.natAbs<=549755813888:=sU e1 e2;have e5:Nat.gcd (Nat.gcd m.x.natAbs m.y.natAbs) m.z.natAbs=bA m:=rfl;simp only[om,oo,ou,zba,MJ (n+1) (a:=m.x) (b:=m.y) (by omega) (by omega),MJ (n+1) (a:=((Nat.gcd m.x.natAbs m.y.natAbs:Nat):Int)) (b:=m.z) (by rw[zwa];omega) (by omega),zwa,e5,cn,ae,decide_eq_true_eq]
 have h4:=jl h3;have fin:∀ w:V,w=bu m->cA (n+2) 101 [af w,af a]=some (I (V.dot w a)):=λw hw=>Ep (n+1) (hw ▸ h4) ha (by decide)
 by_cases hg:(bA m:Int)>1
 ·have hg0:(bA m:Int)≠0:=by omega
  have hgp:0<bA m:=by omega
  have r1:inR (m.x.tdiv (bA m)):=by rw[gF hgp (yp m)];have:=pB h3.1 (yp m);simp only[inR];omega
  have r2:inR (m.y.tdiv (bA m)):=by rw[gF hgp (yq m)];have:=pB h3.2.1 (yq m);simp only[inR];omega
  have r3:inR (m.z.tdiv (bA m)):=by rw[gF hgp (yr m)];have:=pB h3.2.2 (yr m);simp only[inR];omega
  have ep:(D.st [I (m.x.tdiv (bA m)),I (m.y.tdiv (bA m)),I (m.z.tdiv (bA m))])=af (bu m):=by
   rw[gF hgp (yp m),gF hgp (yq m),gF hgp (yr m)];rfl
  simp only[if_pos hg,uI hg0 r1,uI hg0 r2,uI hg0 r3,zba,g0,ep,fin _ rfl];rfl
 ·have ep:m=bu m:=by
   rcases zna 0 (bA m) with k|k
   ·have e:bA m=1:=by omega
    have:=iU m;rw[e] at this;rw[this]
    conv=>rhs;rw[<-this]
    apply V.ext'<;>simp[V.smul]
   ·have e:bA m=0:=by omega
    have hm:m=V.zero:=by
     by_cases hm:m=V.zero
     ·exact hm
     ·have:=jX hm;omega
    rw[hm];rfl
  simp only[if_neg hg,zba,g0,fin m ep];rw[<-ep];rfl
end Sy
end
noncomputable section
namespace Sy
open Go Go.Proofs Geo
def Tt(a b c:Int):D.sl [I a,I b,I c]=D.sl ([a,b,c].map λx=>I x):=rfl
def Sp(n:Nat)(p q:V×Int):cA (n+3) 100 [cm p,cm q]=some (I (xe [bU p.1.x q.1.x,bU p.1.y q.1.y,bU p.1.z q.1.z])):=by
 rw[TD]
 delta GE qG
 simp only[show ∀ p:V×Int,D.get (cm p) [0]=some (af p.1) from λ_=>rfl,show ∀ p:V×Int,D.get (cm p) [0,0]=some (I p.1.x) from λ_=>rfl,show ∀ p:V×Int,D.get (cm p) [0,1]=some (I p.1.y) from λ_=>rfl,show ∀ p:V×Int,D.get (cm p) [0,2]=some (I p.1.z) from λ_=>rfl,om,oo,ou,zba,OD,Tt,XF (n+1) [bU p.1.x q.1.x,bU p.1.y q.1.y,bU p.1.z q.1.z] (by simp)]
def wr(a:Int):bU a 0=sg a:=rfl
def Nz(a:Int):-1<=sg a/\sg a<=1:=by unfold sg;split<;>(try split)<;>omega
def pL(a b:Int):inR (sg a*sg b):=by
 have:=fZ (A:=1) (B:=1) (Nz a) (Nz b);simp only[inR];omega
def Nc(v:V):D.fld (af v) 0=some (I v.x):=rfl
def Nd(v:V):D.fld (af v) 1=some (I v.y):=rfl
def Nf(v:V):D.fld (af v) 2=some (I v.z):=rfl
def KX:inR (0+1):=⟨by decide,by decide⟩
def ut:inR (1+1):=⟨by decide,by decide⟩
def LU:inR (2+1):=⟨by decide,by decide⟩
def Sq(n:Nat){A B:Int}{m u v:V}(hu:bd A u)(hv:bd B v)(h:2*(A*B)<=9223372036854775807):cA (n+3) 104 [af m,af u,af v]=some (I (vc m (V.cross u v))):=by
 rw[TG]
 delta GG qB qC qT qJ qZ iL iR Jn
 simp only[Kv (n+1) hu hv h,zba];generalize V.cross u v=c;unfold vc;by_cases hx:m.x=0
 ·refine cC (s':=[I 1]) (by simp only[g0,ag,zba,ae,JV,Nc,bO,hx,decide_true,zac,zza,if_false,aw KX];rfl) ?_
  by_cases hy:m.y=0
  ·refine cC (s':=[I 2]) (by simp only[g0,ag,zba,ae,JW,Nd,bO,hy,decide_true,zac,zza,if_false,aw ut];rfl) ?_
   by_cases hz:m.z=0
   ·refine cC (s':=[I 3]) (by simp only[g0,ag,zba,ae,JX,Nf,bO,hz,decide_true,zac,zza,if_false,aw LU];rfl) ?_
    refine fY (r:=(1,[])) (by simp only[g0,ag,zba,ae];rfl) ?_
    simp[hx,hy,hz]
   ·refine fY (r:=(0,[I (sg c.z*sg m.z)])) ?_ (by simp[hx,hy,hz,zHc])
    simp only[g0,ag,zba,ae,JX,Nf,ou,bO,hz,decide_false,zSb,if_true,OD,wr,co (pL _ _)];rfl
  ·refine fY (r:=(0,[I (sg c.y*sg m.y)])) ?_ (by simp[hx,hy,zHc])
   simp only[g0,ag,zba,ae,JW,Nd,oo,bO,hy,decide_false,zSb,if_true,OD,wr,co (pL _ _)];rfl
 ·refine fY (r:=(0,[I (sg c.x*sg m.x)])) ?_ (by simp[hx,zHc])
  simp only[g0,ag,zba,ae,JV,Nc,om,bO,hx,decide_false,zSb,if_true,OD,wr,co (pL _ _)];rfl
def KD(n:Nat)(a:Int):cA (n+1) 215 [I a]=some (I (sg a)):=by
 rw[UI];simp only[HC,qC,Jn,ag,cn,zba,ae,decide_eq_true_eq,sg];split
 ·rfl
 ·split
  ·rfl
  ·rfl
def SK(n:Nat)(m c:V):cA (n+2) 188 [af m,af c]=some (I (vc m c)):=by
 rw[UB]
 delta Hw qB qC qT qJ qZ iL iR Jn vc
 by_cases hx:m.x=0
 ·refine cC (s':=[I 1]) (by simp only[g0,ag,zba,ae,JV,om,bO,hx,decide_true,zac,zza,if_false,aw KX];rfl) ?_
  by_cases hy:m.y=0
  ·refine cC (s':=[I 2]) (by simp only[g0,ag,zba,ae,JW,oo,bO,hy,decide_true,zac,zza,if_false,aw ut];rfl) ?_
   by_cases hz:m.z=0
   ·refine cC (s':=[I 3]) (by simp only[g0,ag,zba,ae,JX,ou,bO,hz,decide_true,zac,zza,if_false,aw LU];rfl) ?_
    refine fY (r:=(1,[])) (by simp only[g0,ag,zba,ae];rfl) ?_
    simp[hx,hy,hz]
   ·refine fY (r:=(0,[I (sg m.z*sg c.z)])) ?_ (by simp[hx,hy,hz])
    simp only[g0,ag,zba,ae,JX,ou,bO,hz,decide_false,zSb,if_true,KD,co (pL _ _)];rfl
  ·refine fY (r:=(0,[I (sg m.y*sg c.y)])) ?_ (by simp[hx,hy])
   simp only[g0,ag,zba,ae,JW,oo,bO,hy,decide_false,zSb,if_true,KD,co (pL _ _)];rfl
 ·refine fY (r:=(0,[I (sg m.x*sg c.x)])) ?_ (by simp[hx])
  simp only[g0,ag,zba,ae,JV,om,bO,hx,decide_false,zSb,if_true,KD,co (pL _ _)];rfl
instance decLex (a b:V):Decidable (aF a b):=by unfold aF;exact inferInstance
def Ku(n:Nat)(a b:V):cA (n+1) 105 [af a,af b]=some (.bool (decide (aF a b))):=by
 rw[TH];simp only[GH,qG,qB,qT,om,oo,ou,zba,bO,ae,ag,zLa,decide_eq_false_iff_not];by_cases h1:a.x=b.x
 ·by_cases h2:a.y=b.y
  ·simp[h1,h2,aF]
  ·simp only[h1,h2,aF,not_true,if_false,not_false_iff,if_true,zJc,false_or,true_and,false_and,or_false]
 ·simp only[h1,aF,not_false_iff,if_true,false_and,or_false]
def aS(l:List V):D:=.sl (l.map af)
def qe(l:List V)(m:V)(d:Int):Bool:=l.all λx=>decide (V.dot m x<=d)
def j8(l:List V)(m:V)(d:Int):Bool:=l.any λx=>decide (V.dot m x<d)
def sW{l:List V}{i:Nat}(h:i<l.length):(l.map af)[i]?=some (af l[i]):=by simp[h]
def Mz(n:Nat){A:Int}{l:List V}{m:V}{d:Int}(hl:∀ x∈l,bd MV x)(hm:bd A m)(hA:3*(A*262144)<=9223372036854775807)(hlen:l.length<=1000000):cA (n+2) 109 [aS l,af m,I d]=some (.bool (qe l m d&&j8 l m d)):=by
 rw[TM]
 delta GL qB qC qT qX qL qZ iL iR Jn
 refine bc (λi s=>s=[.bool (j8 (l.take i) m d),I i]/\qe (l.take i) m d=true) l.length 0 (zia _) ⟨by simp[j8],by simp[qe]⟩ (λi hi s hJ=>?_) (λs hJ=>?_)
 ·obtain⟨rfl,hs⟩:=hJ;have ht:l.take (i+1)=l.take i++[l[i]]:=zqa hi;have hc:=zZ n hm (hl l[i] (zra hi)) hA;simp only[aS,D.asSl,g0,g1,zta,ag,cn,zba,ae,decide_eq_true_eq,show((i:Int)<(l.length:Int)) from by omega,if_true,ap hi,sW hi,hc]
  by_cases hgt:V.dot m l[i]>d
  ·right;refine⟨(0,[.bool false]),by simp only[hgt,if_true],?_⟩
   have:qe l m d=false:=by
    rw[zXb];intro h;have:=zpa.1 h l[i] (zra hi);simp at this;omega
   simp[g0,this]
  ·left;refine⟨[.bool (j8 (l.take (i+1)) m d),I ((i+1:Nat):Int)],?_,rfl,?_⟩
   ·simp only[hgt,if_false,aw (ay (i:=i) (by omega)),zba]
    have e:j8 (l.take (i+1)) m d=(j8 (l.take i) m d||decide (V.dot m l[i]<d)):=by rw[ht];simp only[j8,zGc,List.any_cons,List.any_nil,Bool.or_false]
    rw[e];cases j8 (l.take i) m d<;>simp
   ·rw[ht];simp only[qe,zhd,zaa] at hs ⊢;exact⟨hs,by simp;omega⟩
 ·obtain⟨rfl,hs⟩:=hJ;refine⟨(1,[.bool (j8 (l.take l.length) m d)]),?_,?_⟩
  ·simp only[aS,D.asSl,g0,g1,zta,ag,zba,ae,decide_eq_true_eq,zJc,if_false]
  ·rw[zKa] at *;simp[g0,hs]
def XN(n:Nat){A:Int}{l:List V}{m:V}{d:Int}(hl:∀ x∈l,bd MV x)(hm:bd A m)(hA:3*(A*262144)<=9223372036854775807)(hlen:l.length<=1000000):cA (n+2) 98 [aS l,cm (m,d)]=some (.bool (qe l m d&&j8 l m d)):=by
 rw[Yy]
 delta Oz qG qB qC qT qS qX qZ iL iR Jn
 simp only[aS,D.asSl,zba];refine bc (λi s=>s=[.bool (!j8 (l.take i) m d),I i]/\qe (l.take i) m d=true) l.length 0 (zia _) ⟨by simp[j8],by simp[qe]⟩ (λi hi s hJ=>?_) (λs hJ=>?_)
 ·obtain⟨rfl,hs⟩:=hJ;have ht:l.take (i+1)=l.take i++[l[i]]:=zqa hi;have hc:=Ep n hm (hl l[i] (zra hi)) hA;simp only[g0,g1,zta,ag,cn,zba,ae,decide_eq_true_eq,show((i:Int)<(l.length:Int)) from by omega,if_true,ap hi,sW hi,show D.get (cm (m,d)) [0]=some (af m) from rfl,show D.get (cm (m,d)) [1]=some (I d) from rfl,hc,bO]
  by_cases hgt:V.dot m l[i]>d
  ·right;refine⟨(0,[.bool false]),by simp only[hgt,if_true],?_⟩
   have:qe l m d=false:=by
    rw[zXb];intro h;have:=zpa.1 h l[i] (zra hi);simp at this;omega
   simp[g0,this]
  ·left;refine⟨[.bool (!j8 (l.take (i+1)) m d),I ((i+1:Nat):Int)],?_,rfl,?_⟩
   ·simp only[hgt,if_false,aw (ay (i:=i) (by omega)),zba]
    have e:(!j8 (l.take (i+1)) m d)=(!j8 (l.take i) m d&&decide (V.dot m l[i]=d)):=by
     rw[ht];simp only[j8,zGc,List.any_cons,List.any_nil,Bool.or_false,Bool.not_or];congr 1;by_cases h2:V.dot m l[i]=d
     ·simp[h2]
     ·have:V.dot m l[i]<d:=by omega
      simp[h2,this]
    rw[e];cases j8 (l.take i) m d<;>simp
   ·rw[ht];simp only[qe,zhd,zaa] at hs ⊢;exact⟨hs,by simp;omega⟩
 ·obtain⟨rfl,hs⟩:=hJ;refine⟨(1,[.bool (!j8 (l.take l.length) m d)]),?_,?_⟩
  ·simp only[g0,g1,zta,ag,zba,ae,decide_eq_true_eq,zJc,if_false]
  ·rw[zKa] at *;simp[g0,hs,bv]
end Sy
end
noncomputable section
namespace Sy
open Go Go.Proofs Geo
def eI{α:Type}{body:Bd}{s0:List D}{k:Nat×List D->Option α}{Y:α->Prop}(J:Nat->List D->Prop)(n i0:Nat)(hi:i0<=n)(h0:J i0 s0)
  (hs:∀ i,i<n->∀ s,J i s->∃ z,body s=some z/\match z with|.inl s'=>J (i+1) s'|.inr r=>∃ y,k r=some y/\Y y)
  (he:∀ s,J n s->∃ z,body s=some z/\match z with|.inl _=>False|.inr r=>∃ y,k r=some y/\Y y):∃ y,Option.bind (aT body s0) k=some y/\Y y:=by
 obtain⟨m,hm⟩:∃ m,m=n-i0:=⟨_,rfl⟩
 induction m generalizing i0 s0 with
 | zero=>
  have:i0=n:=by omega
  subst this;obtain⟨z,h1,h2⟩:=he s0 h0;cases z with
  | inl s'=>exact h2.elim
  | inr r=>obtain⟨y,h3,h4⟩:=h2;exact⟨y,by rw[show aT body s0=some r from dt h1];exact h3,h4⟩
 | succ m ih=>
  obtain⟨z,h1,h2⟩:=hs i0 (by omega) s0 h0
  cases z with
  | inl s'=>
   obtain⟨y,h3,h4⟩:=ih (i0:=i0+1) (by omega) h2 (by omega)
   exact⟨y,by rw[show aT body s0=aT body s' from dK h1];exact h3,h4⟩
  | inr r=>obtain⟨y,h3,h4⟩:=h2;exact⟨y,by rw[show aT body s0=some r from dt h1];exact h3,h4⟩
def bZ{α:Type}{body:Bd}{s s':List D}{k:Nat×List D->Option α}{y:α}(h:body s=some (.inl s'))(hk:Option.bind (aT body s') k=some y):Option.bind (aT body s) k=some y:=by
 have:aT body s=aT body s':=dK h;rw[this];exact hk
def g8{α:Type}{body:Bd}{s:List D}{r:Nat×List D}{k:Nat×List D->Option α}{y:α}(h:body s=some (.inr r))(hk:k r=some y):Option.bind (aT body s) k=some y:=by
 have:aT body s=some r:=dt h;rw[this];exact hk
def bY{α:Type}{body:Bd}{s0:List D}{k:Nat×List D->Option α}{y:α}(J:Nat->List D->Prop)(n i0:Nat)(hi:i0<=n)(h0:J i0 s0)
  (hs:∀ i,i<n->∀ s,J i s->(∃ s',body s=some (.inl s')/\J (i+1) s')\/∃ r,body s=some (.inr r)/\k r=some y) (he:∀ s,J n s->∃ r,body s=some (.inr r)/\k r=some y):Option.bind (aT body s0) k=some y:=by
 obtain⟨m,hm⟩:∃ m,m=n-i0:=⟨_,rfl⟩
 induction m generalizing i0 s0 with
 | zero=>
  have:i0=n:=by omega
  subst this;obtain⟨r,h1,h2⟩:=he s0 h0;exact g8 h1 h2
 | succ m ih=>
  rcases hs i0 (by omega) s0 h0 with⟨s',h1,h2⟩|⟨r,h1,h2⟩
  ·exact bZ h1 (ih (i0:=i0+1) (by omega) h2 (by omega))
  ·exact g8 h1 h2
def aa{α β:Type}{A:Option α}{g:α->Option β}{z:α}{y:β}(h:A=some z)(hk:g z=some y):Option.bind A g=some y:=by
 rw[h];exact hk
def gN(u v:V):D.beq (af u) (af v)=decide (u=v):=by
 simp only[af,D.beq,D.beqs,decide_true,zTb,Bool.and_true];by_cases h:u=v
 ·subst h;simp
 ·by_cases h1:u.x=v.x<;>by_cases h2:u.y=v.y<;>by_cases h3:u.z=v.z<;>simp[h,h1,h2,h3];exact h (V.ext' h1 h2 h3)
def JJ(p q:V×Int):D.beq (cm p) (cm q)=decide (p=q):=by
 have:D.beq (cm p) (cm q)=(D.beq (af p.1) (af q.1)&&(D.beq (I p.2) (I q.2)&&true)):=rfl;rw[this,gN,bO];obtain⟨a,b⟩:=p;obtain⟨c,d⟩:=q;by_cases h1:a=c<;>by_cases h2:b=d<;>simp[h1,h2]
def g9(K:List (V×Int)):List D:=K.map λq=>.st [cm q,.bool true]
theorem vi:∀ (K:List (V×Int)) (q:V×Int),D.mget (g9 K) (cm q)=if q∈K then some (.bool true) else none
 | [],q=>by simp[g9,D.mget]
 | p::K,q=>by
  have ih:=vi K q;simp only[g9,z6a,D.mget,JJ] at ih ⊢;by_cases h:q=p
  ·simp[h]
  ·rw[ih];simp[h]
theorem vl:∀ (K:List (V×Int)) (q:V×Int),q ∉ K->D.mput (g9 K) (cm q) (.bool true)=g9 (K++[q])
 | [],q,_=>rfl
 | p::K,q,h=>by
  have ih:=vl K q (λhq=>h (zha _ hq));have hne:¬ q=p:=λe=>h (by rw[e];exact zka)
  simp only[g9,z6a,zdb,D.mput,JJ,hne,decide_false,zza,if_false] at ih ⊢;rw[ih]
def C3(K:List (V×Int)):(g9 K).map uu=K.map cm:=by simp[g9,uu]
def supp(l:List V)(q:V×Int):Bool:=qe l q.1 q.2&&j8 l q.1 q.2
def iQ(l:List V)(K:List (V×Int))(q:V×Int):List (V×Int):=if q∈K then K else if supp l q then K++[q] else K
def tC{l:List V}{K:List (V×Int)}{q x:V×Int}(h:x∈K):x∈iQ l K q:=by
 unfold iQ;split
 ·exact h
 ·split
  ·exact znb _ h
  ·exact h
def zb{l:List V}{K:List (V×Int)}{q:V×Int}(h:supp l q=true):q∈iQ l K q:=by
 unfold iQ;split
 ·assumption
 ·simp
def za{l:List V}{K:List (V×Int)}{q x:V×Int}(h:x∈iQ l K q):x∈K\/(x=q/\supp l q=true):=by
 unfold iQ at h;split at h
 ·exact .inl h
 ·split at h
  ·rename_i hs;rcases zDa.1 h with h|h
   ·exact .inl h
   ·exact .inr ⟨zIa.1 h,hs⟩
  ·exact .inl h
def tB{l:List V}{K:List (V×Int)}{q:V×Int}(h:K.Nodup):(iQ l K q).Nodup:=by
 unfold iQ;split
 ·exact h
 ·rename_i hq;split
  ·exact List.nodup_append.2 ⟨h,by simp,λx hx y hy e=>hq (by rw[zIa.1 hy] at e;exact e ▸ hx)⟩
  ·exact h
def oW(a b c:V):V×Int:=(bu (V.cross (b.sub a) (c.sub a)),V.dot (bu (V.cross (b.sub a) (c.sub a))) a)
def mP(q:V×Int):V×Int:=(q.1.neg,-q.2)
def Cd(l:List V)(i j k:Nat)(q:V×Int):Prop:=(oW (l.getD i V.zero) (l.getD j V.zero) (l.getD k V.zero)).1≠V.zero/\(q=oW (l.getD i V.zero) (l.getD j V.zero) (l.getD k V.zero)\/q=mP (oW (l.getD i V.zero) (l.getD j V.zero) (l.getD k V.zero)))
structure Known(l:List V)(i j k:Nat)(K:List (V×Int)):Prop where
 nd:K.Nodup
 ok:∀ q∈K,supp l q=true/\∃ i j k,k<j/\j<i/\i<l.length/\Cd l i j k q
 all:∀ i' j' k',k'<j'->j'<i'->i'<l.length->(i'<i\/i'=i/\(j'<j\/j'=j/\k'<k))->∀ q,Cd l i' j' k' q->supp l q=true->q∈K
def Ko{a b c:V}(ha:bd MV a)(hb:bd MV b)(hc:bd MV c):bd 549755813888 (oW a b c).1/\inR (oW a b c).2/\inR (-(oW a b c).2):=by
 have h1:bd 524288 (b.sub a):=by have:=np hb ha;simpa [MV] using this
 have h2:bd 524288 (c.sub a):=by have:=np hc ha;simpa [MV] using this
 have h3:=jl (eB h1 h2);have h4:=Em h3 ha;simp only[MV] at h4;refine⟨h3,?_,?_⟩<;>simp only[inR,oW]<;>omega
def Known.step{l:List V}{i j k:Nat}{K:List (V×Int)}(h:Known l i j k K)(hk:k<j)(hj:j<i)(hi:i<l.length)(hz:(oW (l.getD i V.zero) (l.getD j V.zero) (l.getD k V.zero)).1≠V.zero) :
  Known l i j (k+1) (iQ l (iQ l K (oW (l.getD i V.zero) (l.getD j V.zero) (l.getD k V.zero))) (mP (oW (l.getD i V.zero) (l.getD j V.zero) (l.getD k V.zero)))):=by
 refine⟨tB (tB h.nd),λq hq=>?_,λi' j' k' h1 h2 h3 h4 q hq hs=>?_⟩
 ·rcases za hq with hq|⟨rfl,hs⟩
  ·rcases za hq with hq|⟨rfl,hs⟩
   ·exact h.ok q hq
   ·exact⟨hs,i,j,k,hk,hj,hi,hz,.inl rfl⟩
  ·exact⟨hs,i,j,k,hk,hj,hi,hz,.inr rfl⟩
 ·by_cases e:i'=i/\j'=j/\k'=k
  ·obtain⟨rfl,rfl,rfl⟩:=e;rcases hq.2 with rfl|rfl
   ·exact tC (zb hs)
   ·exact zb hs
  ·exact tC (tC (h.all i' j' k' h1 h2 h3 (by omega) q hq hs))
def Known.skip{l:List V}{i j k:Nat}{K:List (V×Int)}(h:Known l i j k K)(hz:(oW (l.getD i V.zero) (l.getD j V.zero) (l.getD k V.zero)).1=V.zero):Known l i j (k+1) K:=by
 refine⟨h.nd,h.ok,λi' j' k' h1 h2 h3 h4 q hq hs=>?_⟩;by_cases e:i'=i/\j'=j/\k'=k
 ·obtain⟨rfl,rfl,rfl⟩:=e;exact absurd hz hq.1
 ·exact h.all i' j' k' h1 h2 h3 (by omega) q hq hs
def Known.next{l:List V}{i j:Nat}{K:List (V×Int)}(h:Known l i j j K):Known l i (j+1) 0 K:=
 ⟨h.nd,h.ok,λi' j' k' h1 h2 h3 h4=>h.all i' j' k' h1 h2 h3 (by omega)⟩
def Known.next2{l:List V}{i:Nat}{K:List (V×Int)}(h:Known l i i 0 K):Known l (i+1) 0 0 K:=
 ⟨h.nd,h.ok,λi' j' k' h1 h2 h3 h4=>h.all i' j' k' h1 h2 h3 (by omega)⟩
theorem ny{α β:Type}{f:α->List β}{c:Nat}:∀ l:List α,(∀ x∈l,(f x).length=c)->(l.flatMap f).length=l.length*c
 | [],_=>by simp
 | x::l,h=>by
  rw[List.flatMap_cons,zva,h x zka,ny l (λy hy=>h y (zha _ hy)),zBa,Nat.succ_mul];omega
def Known.len{l:List V}{i j k:Nat}{K:List (V×Int)}(h:Known l i j k K)(hl:l.length<=100):K.length<=2000000:=by
 have h1:=z5b (l₂:=(List.range l.length).flatMap λi=>(List.range l.length).flatMap λj=>(List.range l.length).flatMap λk=>[oW (l.getD i V.zero) (l.getD j V.zero) (l.getD k V.zero),mP (oW (l.getD i V.zero) (l.getD j V.zero) (l.getD k V.zero))]) h.nd (λq hq=>by
  obtain⟨_,i,j,k,h1,h2,h3,h4⟩:=h.ok q hq;refine zJb.2 ⟨i,zJa.2 h3,zJb.2 ⟨j,zJa.2 (by omega),zJb.2 ⟨k,zJa.2 (by omega),?_⟩⟩⟩
  rcases h4.2 with rfl|rfl<;>simp)
 rw[ny (c:=l.length*(l.length*2)) _ (λi _=>by rw[ny (c:=l.length*2) _ (λj _=>by rw[ny (c:=2) _ (λk _=>rfl),zVb]),zVb]),zVb] at h1
 refine zAa h1 ?_;have a1:l.length*2<=200:=by omega
 have a2:l.length*(l.length*2)<=100*200:=z2a hl a1;have a3:l.length*(l.length*(l.length*2))<=100*(100*200):=z2a hl a2;exact a3
def cN{l:List V}{i:Nat}(h:i<l.length):(l.map af)[i]?=some (af (l.getD i V.zero)):=by simp[h,List.getD]
def cg{l:List V}{i:Nat}(h:i<l.length):l.getD i V.zero∈l:=by simp[List.getD,h]
def Dj{n:Nat}{l:List V}{K:List (V×Int)}{q:V×Int}(hl:∀ x∈l,bd MV x)(hq:bd 549755813888 q.1)(hlen:l.length<=1000) :
  (if(!decide (q∈K))=true then(Option.bind (cA (n+2) 98 [aS l,cm q]) λr=>D.truth r) else some false)=some (!decide (q∈K)&&supp l q):=by
 obtain⟨m,d⟩:=q;have hc:=XN n (d:=d) hl hq (by decide) (by omega)
 simp only[hc,zba,ae];cases decide ((m,d)∈K)<;>rfl
end Sy
end
noncomputable section
namespace Sy
open Go Go.Proofs Geo
def IC{a b:V}(h:aF a b):xe [bU a.x b.x,bU a.y b.y,bU a.z b.z]=-1:=by
 simp only[aF] at h;rcases h with h|⟨h1,h|⟨h2,h⟩⟩
 ·simp[xe,bU,h]
 ·simp[xe,bU,h1,h]
 ·simp[xe,bU,h1,h2,h]
def IB{a b:V}(h:aF b a):xe [bU a.x b.x,bU a.y b.y,bU a.z b.z]=1:=by
 simp only[aF] at h;rcases h with h|⟨h1,h|⟨h2,h⟩⟩
 ·simp[xe,bU,h,zkc.2 (zNa h)]
 ·simp[xe,bU,h1,h,zkc.2 (zNa h)]
 ·simp[xe,bU,h1,h2,h,zkc.2 (zNa h)]
def IA(a:V):xe [bU a.x a.x,bU a.y a.y,bU a.z a.z]=0:=by simp[xe,bU]
theorem Ck{α:Type}(key:α->V):∀ (K:List α),K.Pairwise (λa b=>key a≠key b)->∃ L:List α,L.Perm K/\L.Pairwise (λa b=>aF (key a) (key b))
 | [],_=>⟨[],.refl _,.nil⟩
 | x::K,h=>by
  obtain⟨h1,h2⟩:=zQa.1 h;obtain⟨L,p1,p2⟩:=Ck key K h2;have hne:∀ y∈L,key x≠key y:=λy hy=>h1 y (p1.subset hy);have ins:∀ L:List α,L.Pairwise (λa b=>aF (key a) (key b))->(∀ y∈L,key x≠key y)->∃ M:List α,M.Perm (x::L)/\M.Pairwise (λa b=>aF (key a) (key b)):=by
   intro L
   induction L with
   | nil=>intro _ _;exact⟨[x],.refl _,by simp⟩
   | cons y L ih=>
    intro hp hn;obtain⟨q1,q2⟩:=zQa.1 hp;rcases pR (hn y zka) with k|k
    ·refine⟨x::y::L,.refl _,zQa.2 ⟨λz hz=>?_,hp⟩⟩;rcases zCa.1 hz with rfl|hz
     ·exact k
     ·exact lN k (q1 z hz)
    ·obtain⟨M,m1,m2⟩:=ih q2 (λz hz=>hn z (zha _ hz));refine⟨y::M,(m1.cons y).trans (.swap x y L),zQa.2 ⟨λz hz=>?_,m2⟩⟩;rcases zCa.1 (m1.subset hz) with rfl|hz
     ·exact k
     ·exact q1 z hz
  obtain⟨M,m1,m2⟩:=ins L p2 hne;exact⟨M,m1.trans (p1.cons x),m2⟩
def BB(n:Nat)(p q:V×Int):wq (fi aT (cA (n+3)) (oA aT (cA (n+3)))) (eP 100) (cm p) (cm q)=some (xe [bU p.1.x q.1.x,bU p.1.y q.1.y,bU p.1.z q.1.z]):=by
 unfold wq;rw[show ∀ l,(fi aT (cA (n+3)) (oA aT (cA (n+3)))).call (eP 100) l=cA (n+3) 100 l from λl=>congrFun (congrArg (cA (n+3)) (show uj (eP 100)=100 by kernel_rfl)) l,Sp]
 rfl
theorem EF(n:Nat):∀ (L:List (V×Int)),L.Pairwise (λa b=>aF a.1 b.1)->ul (fi aT (cA (n+3)) (oA aT (cA (n+3)))) (eP 100) (L.map cm)=true
 | [],_=>rfl
 | p::L,h=>by
  obtain⟨h1,h2⟩:=zQa.1 h;simp only[z6a,ul,zaa,zpa,z5a];refine⟨⟨?_,?_⟩,EF n L h2⟩
  ·simp only[Gy,BB,IA];decide
  ·rintro _ ⟨q,hq,rfl⟩;simp only[qF,Gy,BB,IC (h1 q hq),IB (h1 q hq)];decide
def Jo(n:Nat){K L:List (V×Int)}(hp:L.Perm K)(h:L.Pairwise (λa b=>aF a.1 b.1)):kj (fi aT (cA (n+3)) (oA aT (cA (n+3)))) (eP 100) (K.map cm)=some (L.map cm):=
 zz (EF n L h) (hp.symm.map _)
def pt(l:List V)(i:Nat):V:=l.getD i V.zero
def mu(a b:V):V.dot a.neg b=- V.dot a b:=by simp only[V.dot,V.neg];grind
def Cd.dist{l:List V}{i j k:Nat}{q:V×Int}(h:Cd l i j k q):q.2=V.dot q.1 (l.getD i V.zero):=by
 rcases h.2 with rfl|rfl
 ·rfl
 ·simp only[mP,mu];rfl
def Cn{l:List V}{q:V×Int}(h:supp l q=true){x:V}(hx:x∈l):V.dot q.1 x<=q.2:=by
 simp only[supp,qe,zaa,zpa,decide_eq_true_eq] at h;exact h.1 x hx
def Known.keys{l:List V}{i j k:Nat}{K:List (V×Int)}(h:Known l i j k K):K.Pairwise (λa b=>a.1≠b.1):=by
 refine zWc (λ{a b} ha hb hab e=>hab ?_) h.nd;obtain⟨s1,i1,j1,k1,_,_,h1,c1⟩:=h.ok a ha;obtain⟨s2,i2,j2,k2,_,_,h2,c2⟩:=h.ok b hb;have e1:=c1.dist;have e2:=c2.dist;have l1:=Cn s1 (cg h2);have l2:=Cn s2 (cg h1);rw[e] at e1 l1;exact Prod.ext e (by omega)
def XR(n:Nat){l:List V}(hl:∀ x∈l,bd MV x)(hlen:l.length<=100):∃ y,cA (n+6) 45 [aS l]=some y/\∃ K L:List (V×Int),Known l l.length 0 0 K/\L.Perm K/\L.Pairwise (λa b=>aF a.1 b.1)/\y=.sl (L.map cm):=by
 rw[X8];unfold LI;simp only[aS,D.asSl,zba];refine eI (λi s=>∃ K,s=[I i,.sl (g9 K)]/\Known l i 0 0 K) l.length 0 (zia _) ⟨[],rfl,⟨List.nodup_nil,by simp,λi' j' k' _ _ _ h=>by omega⟩⟩ (λi hi s hJ=>?_) (λs hJ=>?_)
 ·obtain⟨K,rfl,hK⟩:=hJ;simp only[g0,g1,zta,ag,zba,ae,decide_eq_true_eq,show((i:Int)<(l.length:Int)) from by omega,if_true,D.els]
  refine eI (λj s=>∃ K,s=[I j,.sl (g9 K)]/\Known l i j 0 K) i 0 (zia _) ⟨K,rfl,hK⟩ (λj hj s hJ=>?_) (λs hJ=>?_)
  ·obtain⟨K,rfl,hK⟩:=hJ;simp only[g0,g1,ag,zba,ae,decide_eq_true_eq,show((j:Int)<(i:Int)) from by omega,if_true,D.els]
   refine eI (λk s=>∃ K,s=[I k,.sl (g9 K)]/\Known l i j k K) j 0 (zia _) ⟨K,rfl,hK⟩ (λk hk s hJ=>?_) (λs hJ=>?_)
   ·obtain⟨K,rfl,hK⟩:=hJ;have hthr:=Ko (hl _ (cg hi)) (hl _ (cg (show j<l.length by omega))) (hl _ (cg (show k<l.length by omega)))
    have hc:=XM (n+2) (hl _ (cg hi)) (hl _ (cg (show j<l.length by omega))) (hl _ (cg (show k<l.length by omega)))
    rw[show(bu (V.cross ((l.getD j V.zero).sub (l.getD i V.zero)) ((l.getD k V.zero).sub (l.getD i V.zero))),V.dot (bu (V.cross ((l.getD j V.zero).sub (l.getD i V.zero)) ((l.getD k V.zero).sub (l.getD i V.zero)))) (l.getD i V.zero))=oW (l.getD i V.zero) (l.getD j V.zero) (l.getD k V.zero) from rfl] at hc;simp only[g0,g1,ag,zba,ae,decide_eq_true_eq,show((k:Int)<(j:Int)) from by omega,if_true,D.els,zta,ap hi,ap (show j<l.length by omega),ap (show k<l.length by omega),cN hi,cN (show j<l.length by omega),cN (show k<l.length by omega),hc]
    by_cases hz:(oW (l.getD i V.zero) (l.getD j V.zero) (l.getD k V.zero)).1=V.zero
    ·have hb:D.beq (af (oW (l.getD i V.zero) (l.getD j V.zero) (l.getD k V.zero)).1) (D.st [D.int .i64 0,D.int .i64 0,D.int .i64 0])=true:=by
      rw[iF,gN];exact decide_eq_true hz
     simp only[show D.get (cm (oW (l.getD i V.zero) (l.getD j V.zero) (l.getD k V.zero))) [0]=some (af (oW (l.getD i V.zero) (l.getD j V.zero) (l.getD k V.zero)).1) from rfl,zba,hb,ae,if_true,g0,D.els,aw (ay (i:=k) (by omega))]
     exact⟨_,rfl,K,rfl,hK.skip hz⟩
    ·have hb:D.beq (af (oW (l.getD i V.zero) (l.getD j V.zero) (l.getD k V.zero)).1) (D.st [D.int .i64 0,D.int .i64 0,D.int .i64 0])=false:=by
      rw[iF,gN];exact decide_eq_false hz
     have step:=hK.step hk hj hi hz;generalize hq:oW (l.getD i V.zero) (l.getD j V.zero) (l.getD k V.zero)=q at *;obtain⟨b1,b2,b3⟩:=hthr;have hfl:D.st [af q.1.neg,I (-q.2)]=cm (mP q):=rfl;have b4:bd 549755813888 (mP q).1:=nl b1;simp only[show D.get (cm q) [0]=some (af q.1) from rfl,show D.get (cm q) [1]=some (I q.2) from rfl,zba,hb,ae,zza,if_false,VD (n+4) b1 (by decide),ra b3,hfl]
     have one:∀ (K:List (V×Int)) (p:V×Int),bd 549755813888 p.1->(Option.bind (D.un .not (Option.getD (D.mget (g9 K) (cm p)) (D.bool false))) λx32=>Option.bind (D.truth x32) λb33=>Option.bind (if b33 then(Option.bind (cA (n+5) 98 [D.sl (l.map af),cm p]) λr34=>D.truth r34) else(some false)) λb36=>
       if b36 then(some ((0:Nat),[(D.sl [cm q,cm (mP q)]),(D.sl (D.mput (g9 K) (cm p) (D.bool true)))])) else(some (0,[(D.sl [cm q,cm (mP q)]),(D.sl (g9 K))])))=some (0,[D.sl [cm q,cm (mP q)],D.sl (g9 (iQ l K p))]):=λK p hp=>by
      rw[vi];have ht:=Dj (n:=n+3) (K:=K) hl hp (by omega)
      simp only[aS] at ht;by_cases hm:p∈K
      ·simp[hm,bv,ae,iQ]
      ·simp only[hm,if_false,Option.getD_none,bv,zSb,zba,ae,if_true,decide_false,zTb] at ht ⊢;rw[ht];simp only[zba,iQ,hm,if_false];split
       ·rw[vl K p hm]
       ·rfl
     refine⟨.inl [I ((k+1:Nat):Int),.sl (g9 (iQ l (iQ l K q) (mP q)))],?_,_,rfl,step⟩;refine aa (z:=(0,[.sl (g9 (iQ l (iQ l K q) (mP q)))])) ?_ ?_
     ·refine bZ (s':=[.sl [cm q,cm (mP q)],I 1,.sl (g9 (iQ l K q))]) ?_ (bZ (s':=[.sl [cm q,cm (mP q)],I 2,.sl (g9 (iQ l (iQ l K q) (mP q)))]) ?_ (g8 (r:=(0,[.sl (g9 (iQ l (iQ l K q) (mP q)))])) ?_ rfl))
      ·simp only[g0,g1,g2,D.els,ag,zba,ae,decide_eq_true_eq,show((0:Int)<2) from by decide,if_true,zBa,zib,show D.idx (I 0) (0+1+1)=some 0 from rfl,zeb,aw KX]
       exact aa (one K q b1) rfl
      ·simp only[g0,g1,g2,D.els,ag,zba,ae,decide_eq_true_eq,show((1:Int)<2) from by decide,if_true,zBa,zib,show D.idx (I 1) (0+1+1)=some 1 from rfl,z7a,zeb,aw ut]
       exact aa (one (iQ l K q) (mP q) b4) rfl
      ·simp only[g0,g1,g2,D.els,ag,zba,ae];rfl
     ·simp only[g0,D.els,aw (ay (i:=k) (by omega)),zba]
      rfl
   ·obtain⟨K,rfl,hK⟩:=hJ;simp only[g0,g1,ag,zba,ae,decide_eq_true_eq,zJc,if_false,D.els];refine⟨_,rfl,.inl [I ((j+1:Nat):Int),.sl (g9 K)],?_,K,rfl,hK.next⟩
    simp only[g0,D.els,aw (ay (i:=j) (by omega)),zba]
    rfl
  ·obtain⟨K,rfl,hK⟩:=hJ;simp only[g0,g1,ag,zba,ae,decide_eq_true_eq,zJc,if_false,D.els];refine⟨_,rfl,.inl [I ((i+1:Nat):Int),.sl (g9 K)],?_,K,rfl,hK.next2⟩;simp only[g0,D.els,aw (ay (i:=i) (by omega)),zba]
   rfl
 ·obtain⟨K,rfl,hK⟩:=hJ;simp only[g0,g1,zta,ag,zba,ae,decide_eq_true_eq,zJc,if_false,D.els];obtain⟨L,p1,p2⟩:=Ck (λq:V×Int=>q.1) K hK.keys;refine⟨_,rfl,.sl (L.map cm),?_,K,L,hK,p1,p2,rfl⟩;have hKl:(g9 K).length<=1073741824:=by
   have:=hK.len hlen;simp only[g9,zta];omega
  simp only[g0,D.els,hKl,decide_true,if_true,C3,Jo (n+2) p1 p2,zba]
end Sy
end
noncomputable section
namespace Sy
open Go Go.Proofs Geo
def km{l:List V}{q:V×Int}:supp l q=true↔ug (pt l) l.length q.1 q.2:=by
 simp only[supp,qe,j8,zaa,zpa,zRc,decide_eq_true_eq,ug,pt];constructor
 ·rintro⟨h1,x,hx,h2⟩;obtain⟨k,hk,rfl⟩:=zTa hx;exact⟨λk hk=>h1 _ (cg hk),k,hk,by simpa [List.getD,hk] using h2⟩
 ·rintro⟨h1,k,hk,h2⟩;refine⟨λx hx=>?_,_,cg hk,h2⟩;obtain⟨k,hk,rfl⟩:=zTa hx;simpa [List.getD,hk] using h1 k hk
def Jz(P:Nat->V)(i j k:Nat):V.cross ((P j).sub (P i)) ((P k).sub (P i))=(dS P k j i).neg:=by
 apply V.ext'<;>simp only[dS,wy,V.cross,V.sub,V.neg]<;>grind
def ym{P:Nat->V}{i j k:Nat}:V.dot (bu (dS P i j k)) (P k)=V.dot (bu (dS P i j k)) (P i):=by
 by_cases h:dS P i j k=V.zero
 ·have e0:bu V.zero=V.zero:=by apply V.ext'<;>simp[bu,V.zero]
  rw[h,e0];simp[V.dot,V.zero]
 ·have g:=jX h;have e:=iU (dS P i j k);have t2:V.dot (dS P i j k) (wy P i k)=0:=by simp only[dS,V.dot,V.cross];grind
  rw[e] at t2;have:(bA (dS P i j k):Int)*V.dot (bu (dS P i j k)) (wy P i k)=0:=by rw[<-t2];simp only[V.dot,V.smul];grind
  have h0:=bB (by omega) this
  rw[dn] at h0;omega
def Fv{v:V}(h:v≠V.zero):v.neg≠V.zero:=λe=>by
 have e1:=congrArg V.x e;have e2:=congrArg V.y e;have e3:=congrArg V.z e;simp only[V.neg,V.zero] at e1 e2 e3;exact h (V.ext' (by simp only[V.zero];omega) (by simp only[V.zero];omega) (by simp only[V.zero];omega))
def Jx(l:List V)(i j k:Nat):(oW (pt l i) (pt l j) (pt l k)).1=(bu (dS (pt l) k j i)).neg:=by
 simp only[oW,Jz (pt l) i j k,zg]
def y6(v:V):v.neg.neg=v:=by apply V.ext'<;>simp[V.neg]
def D5{l:List V}{i j k:Nat}{q:V×Int}:Cd l i j k q↔dS (pt l) k j i≠V.zero/\(q.1=bu (dS (pt l) k j i)\/q.1=(bu (dS (pt l) k j i)).neg)/\q.2=V.dot q.1 (pt l k):=by
 have e:=Jx l i j k;have hd:V.dot (bu (dS (pt l) k j i)) (pt l i)=V.dot (bu (dS (pt l) k j i)) (pt l k):=ym;have hz:(oW (pt l i) (pt l j) (pt l k)).1≠V.zero↔dS (pt l) k j i≠V.zero:=by
  rw[e];constructor
  ·intro h h0;rw[h0] at h;exact h rfl
  ·intro h;exact Fv (rL h)
 constructor
 ·intro h;have hds:=h.dist;obtain⟨h1,h2⟩:=h;refine⟨hz.1 h1,?_⟩;have hq:q.1=bu (dS (pt l) k j i)\/q.1=(bu (dS (pt l) k j i)).neg:=by
   rcases h2 with rfl|rfl
   ·exact .inr e
   ·left;show(oW (pt l i) (pt l j) (pt l k)).1.neg=_;rw[e,y6]
  refine⟨hq,?_⟩;rw[hds];rcases hq with hq|hq
  ·rw[hq];exact hd
  ·rw[hq,mu,mu];exact congrArg Neg.neg hd
 ·rintro⟨h1,h2,h3⟩;refine⟨hz.2 h1,?_⟩;have e2:(oW (pt l i) (pt l j) (pt l k)).2=V.dot (oW (pt l i) (pt l j) (pt l k)).1 (pt l i):=rfl;obtain⟨a,b⟩:=q;simp only at h2 h3;subst h3;rcases h2 with rfl|rfl
  ·right;show _=((oW (pt l i) (pt l j) (pt l k)).1.neg,-(oW (pt l i) (pt l j) (pt l k)).2);rw[e2,e,y6,mu,hd,Int.neg_neg]
  ·left;refine Prod.ext e.symm ?_;show _=(oW (pt l i) (pt l j) (pt l k)).2;rw[e2,e,mu,mu,hd]
def Known.facets{l:List V}{K L:List (V×Int)}(h:Known l l.length 0 0 K)(hp:L.Perm K)(ho:L.Pairwise (λa b=>aF a.1 b.1)):Facets (pt l) l.length L:=by
 refine⟨ho,λq=>⟨λhq=>?_,λhq=>?_⟩⟩
 ·obtain⟨hs,i,j,k,h1,h2,h3,hc⟩:=h.ok q (hp.subset hq);obtain⟨c1,c2,c3⟩:=D5.1 hc;exact⟨⟨k,j,i,h1,h2,h3,c1,c2,c3⟩,km.1 hs⟩
 ·obtain⟨⟨i,j,k,h1,h2,h3,c1,c2,c3⟩,hs⟩:=hq;exact hp.symm.subset (h.all k j i h1 h2 h3 (.inl h3) q (D5.2 ⟨c1,c2,c3⟩) (km.2 hs))
end Sy
end
noncomputable section
namespace Sy
open Go Go.Proofs Geo
def jF:Option Nat->D
 | none=>I (-1)
 | some b=>I (b:Int)
def Lf{α:Type}{p:Prop}[Decidable p]{A B:α}(h:p):(if decide p=true then A else B)=A:=by rw[if_pos (decide_eq_true h)]
def Lg{α:Type}{p:Prop}[Decidable p]{A B:α}(h:¬ p):(if decide p=true then A else B)=B:=by rw[if_neg (by simpa using h)]
def aH{α:Type}{p:Prop}[Decidable p]{A B y:α}(h:p)(hA:A=y):(if decide p=true then A else B)=y:=by rw[if_pos (decide_eq_true h)];exact hA
def aC{α:Type}{p:Prop}[Decidable p]{A B y:α}(h:¬ p)(hA:B=y):(if decide p=true then A else B)=y:=by rw[if_neg (by simpa using h)];exact hA
def FX{x:Int}:sg x<0↔x<0:=by unfold sg;split<;>(try split)<;>omega
def rO{x:Int}:sg x=0↔x=0:=by unfold sg;split<;>(try split)<;>omega
def bR(a b:Nat):D.beq (I (a:Int)) (I (b:Int))=decide (a=b):=by
 rw[bO];by_cases h:a=b<;>simp[h];omega
def KI(n:Nat){l:List V}(hl:∀ x∈l,bd MV x){m:V}{d:Int}{a k:Nat}{best:Option Nat}(hm0:m≠V.zero)(ha:a<l.length)(hk:k<l.length)(hb:∀ b,best=some b->b<l.length/\V.dot m (wy (pt l) a b)=0)(hk0:V.dot m (wy (pt l) a k)=0)(X:D) :
  (Option.bind (D.truth (D.bool (D.beq (I (k:Int)) (I (a:Int))))) λb25=>
  if b25 then(some ((0:Nat),[jF best,X])) else(Option.bind (D.bin .lss (jF best) (D.int .i64 0)) λx26=>
  Option.bind (D.truth x26) λb27=>
  if b27 then(some (0,[I (k:Int),X])) else(Option.bind (D.asSl (aS l)) λl28=>
  Option.bind (D.idx (I (k:Int)) (List.length l28)) λi29=>
  Option.bind (l28[i29]?) λx30=>
  Option.bind (D.asSl (aS l)) λl31=>
  Option.bind (D.idx (I (a:Int)) (List.length l31)) λi32=>
  Option.bind (l31[i32]?) λx33=>
  Option.bind (cA (n+4) 103 [x30,x33]) λr34=>
  Option.bind (D.asSl (aS l)) λl35=>
  Option.bind (D.idx (jF best) (List.length l35)) λi36=>
  Option.bind (l35[i36]?) λx37=>
  Option.bind (D.asSl (aS l)) λl38=>
  Option.bind (D.idx (I (a:Int)) (List.length l38)) λi39=>
  Option.bind (l38[i39]?) λx40=>
  Option.bind (cA (n+4) 103 [x37,x40]) λr41=>
  Option.bind (D.get (cm (m,d)) [0]) λx42=>
  Option.bind (cA (n+4) 104 [x42,r41,r34]) λr43=>
  Option.bind (D.bin .lss r43 (D.int .i64 0)) λx44=>
  Option.bind (D.truth x44) λb45=>
  Option.bind (if b45 then(some true) else(Option.bind (D.truth (D.bool (D.beq r43 (D.int .i64 0)))) λb46=>
  if b46 then(Option.bind (cA (n+4) 101 [r34,r34]) λr47=>
  Option.bind (cA (n+4) 101 [r41,r41]) λr48=>
  Option.bind (D.bin .gtr r47 r48) λx49=>
  D.truth x49) else(some false))) λb50=>
  Option.bind (D.truth (D.bool b50)) λb51=>
  if b51 then(some (0,[I (k:Int),X])) else(some (0,[jF best,X])))))=some (0,[jF (c8 m (pt l) a best k),X]):=by
 by_cases hka:k=a
 ·subst hka;have h0:D.beq (I (k:Int)) (I (k:Int))=true:=by rw[bR];simp
  rw[h0,show c8 m (pt l) k best k=best from if_pos rfl];exact aa (z:=true) rfl (if_pos rfl)
 ·have h0:D.beq (I (k:Int)) (I (a:Int))=false:=by rw[bR];simp[hka]
  rw[h0];refine aa (z:=false) rfl ?_;rw[if_neg (by decide)]
  have hns:∀ b,c8 m (pt l) a b k=match b with
   | none=>some k
   | some b=>if pm m (pt l) a b k then some k else some b:=λb=>if_neg hka
  rw[hns];clear hns h0;cases best with
  | none=>exact aa (z:=.bool true) rfl (aa (z:=true) rfl rfl)
  | some b=>
   obtain⟨hb1,hb2⟩:=hb b rfl;have c1:=Ir (n+2) (hl _ (cg hk)) (hl _ (cg ha)) (by decide)
   have c2:=Ir (n+2) (hl _ (cg hb1)) (hl _ (cg ha)) (by decide)
   have w1:bd 524288 (wy (pt l) a k):=jm (hl _ (cg ha)) (hl _ (cg hk));have w2:bd 524288 (wy (pt l) a b):=jm (hl _ (cg ha)) (hl _ (cg hb1));have e1:(l.getD k V.zero).sub (l.getD a V.zero)=wy (pt l) a k:=rfl;have e2:(l.getD b V.zero).sub (l.getD a V.zero)=wy (pt l) a b:=rfl;rw[e1] at c1;rw[e2] at c2;have c3:=Sq (n+1) (m:=m) w2 w1 (by decide)
   have c4:=Ep (n+3) w1 w1 (by decide)
   have c5:=Ep (n+3) w2 w2 (by decide)
   have hle:=BY hm0 (ik hb2 hk0);rw[hle] at c3;have hlt:¬ ((b:Int)<0):=by omega
   have ll:(l.map af).length=l.length:=zta ..;refine aa (z:=.bool false) (by rw[show jF (some b)=I (b:Int) from rfl,ag,decide_eq_false hlt]) (aa (z:=false) rfl ?_)
   rw[if_neg (by decide)]
   refine aa (z:=l.map af) rfl (aa (z:=k) (by rw[ll];exact ap hk) (aa (cN hk) ?_))
   refine aa (z:=l.map af) rfl (aa (z:=a) (by rw[ll];exact ap ha) (aa (cN ha) ?_))
   refine aa c1 ?_;refine aa (z:=l.map af) rfl (aa (z:=b) (by rw[ll];exact ap hb1) (aa (cN hb1) ?_))
   refine aa (z:=l.map af) rfl (aa (z:=a) (by rw[ll];exact ap ha) (aa (cN ha) ?_))
   refine aa c2 (aa (z:=af m) rfl (aa c3 (aa ag (aa ae ?_))));simp only[FX,bO,rO,ae,zba,c4,c5,cn,pm,T];by_cases t1:V.dot m (V.cross (wy (pt l) a b) (wy (pt l) a k))<0
   ·simp[t1,jF]
   ·by_cases t2:V.dot m (V.cross (wy (pt l) a b) (wy (pt l) a k))=0
    ·by_cases t3:V.dot (wy (pt l) a b) (wy (pt l) a b)<V.dot (wy (pt l) a k) (wy (pt l) a k)
     ·simp[t2,t3,jF]
     ·simp[t2,t3,jF]
    ·simp[t1,t2,jF]
end Sy
end
end Go.Proofs.YtpahompifldeeaaGreat
