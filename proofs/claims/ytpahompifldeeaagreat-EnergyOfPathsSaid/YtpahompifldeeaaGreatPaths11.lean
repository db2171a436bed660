/- Part 11 of the proof that EnergyOfPaths answers true at every input -/
import Derived.Test.YtpahompifldeeaaGreatPaths09
set_option linter.unusedVariables false
set_option linter.unusedSimpArgs false
set_option linter.unnecessarySimpa false
set_option maxRecDepth 20000
namespace Go.Proofs.YtpahompifldeeaaGreat
noncomputable section
namespace Sy
open Go Go.Proofs
def aP:Lp:=fun{α β} body=>jQ (α:=α) (β:=β) body
def cA(n:Nat):Nat->List D->Option D:=Ba aP n
theorem Pi(n:Nat)(a0:D):cA (n+1) 12 [a0]=Hr aP (cA n) a0:=by kernel_rfl
theorem Tf(n:Nat)(a0 a1:D):cA (n+1) 13 [a0,a1]=Jj aP (cA n) a0 a1:=by kernel_rfl
theorem Tg(n:Nat)(a0:D):cA (n+1) 15 [a0]=Jk aP (cA n) a0:=by kernel_rfl
theorem Th(n:Nat)(a0:D):cA (n+1) 18 [a0]=Jl aP (cA n) a0:=by kernel_rfl
theorem Tj(n:Nat)(a0:D):cA (n+1) 19 [a0]=Jm aP (cA n) a0:=by kernel_rfl
theorem Tk(n:Nat)(a0:D):cA (n+1) 22 [a0]=Jo aP (cA n) a0:=by kernel_rfl
theorem u32(n:Nat)(a0 a1:D):cA (n+1) 32 [a0,a1]=Jp aP (cA n) a0 a1:=by kernel_rfl
theorem Tl(n:Nat)(a0 a1:D):cA (n+1) 33 [a0,a1]=Jq aP (cA n) a0 a1:=by kernel_rfl
theorem Tm(n:Nat)(a0:D):cA (n+1) 34 [a0]=Jr aP (cA n) a0:=by kernel_rfl
theorem Tn(n:Nat)(a0 a1:D):cA (n+1) 37 [a0,a1]=Js aP (cA n) a0 a1:=by kernel_rfl
theorem To(n:Nat)(a0 a1:D):cA (n+1) 39 [a0,a1]=Jt aP (cA n) a0 a1:=by kernel_rfl
theorem Tp(n:Nat)(a0 a1:D):cA (n+1) 40 [a0,a1]=Ju aP (cA n) a0 a1:=by kernel_rfl
theorem Tq(n:Nat)(a0:D):cA (n+1) 45 [a0]=Hs aP (cA n) a0:=by kernel_rfl
theorem Tr(n:Nat)(a0 a1:D):cA (n+1) 46 [a0,a1]=Jv aP (cA n) a0 a1:=by kernel_rfl
theorem Tt(n:Nat)(a0:D):cA (n+1) 47 [a0]=Jw aP (cA n) a0:=by kernel_rfl
theorem Tu(n:Nat)(a0:D):cA (n+1) 48 [a0]=Jx aP (cA n) a0:=by kernel_rfl
theorem Tv(n:Nat)(a0:D):cA (n+1) 52 [a0]=Jy aP (cA n) a0:=by kernel_rfl
theorem Tw(n:Nat)(a0 a1:D):cA (n+1) 53 [a0,a1]=Jz aP (cA n) a0 a1:=by kernel_rfl
theorem Tx(n:Nat)(a0:D):cA (n+1) 54 [a0]=JA aP (cA n) a0:=by kernel_rfl
theorem Tz(n:Nat)(a0 a1:D):cA (n+1) 57 [a0,a1]=JB aP (cA n) a0 a1:=by kernel_rfl
theorem QY(n:Nat)(a0 a1:D):cA (n+1) 59 [a0,a1]=H6 aP (cA n) a0 a1:=by kernel_rfl
theorem TA(n:Nat)(a0 a1:D):cA (n+1) 61 [a0,a1]=JC aP (cA n) a0 a1:=by kernel_rfl
theorem TC(n:Nat)(a0 a1:D):cA (n+1) 62 [a0,a1]=JD aP (cA n) a0 a1:=by kernel_rfl
theorem TD(n:Nat)(a0:D):cA (n+1) 68 [a0]=JE aP (cA n) a0:=by kernel_rfl
theorem TE(n:Nat)(a0:D):cA (n+1) 70 [a0]=JF aP (cA n) a0:=by kernel_rfl
theorem TF(n:Nat)(a0 a1:D):cA (n+1) 73 [a0,a1]=JG aP (cA n) a0 a1:=by kernel_rfl
theorem TG(n:Nat)(a0:D):cA (n+1) 74 [a0]=JH aP (cA n) a0:=by kernel_rfl
theorem TH(n:Nat)(a0:D):cA (n+1) 76 [a0]=JI aP (cA n) a0:=by kernel_rfl
theorem TI(n:Nat)(a0:D):cA (n+1) 77 [a0]=JJ aP (cA n) a0:=by kernel_rfl
theorem TJ(n:Nat)(a0 a1:D):cA (n+1) 78 [a0,a1]=JK aP (cA n) a0 a1:=by kernel_rfl
theorem TL(n:Nat)(a0 a1:D):cA (n+1) 79 [a0,a1]=JL aP (cA n) a0 a1:=by kernel_rfl
theorem TM(n:Nat)(a0:D):cA (n+1) 80 [a0]=JM aP (cA n) a0:=by kernel_rfl
theorem QZ(n:Nat)(a0 a1:D):cA (n+1) 81 [a0,a1]=H7 aP (cA n) a0 a1:=by kernel_rfl
theorem TN(n:Nat)(a0 a1:D):cA (n+1) 82 [a0,a1]=JN aP (cA n) a0 a1:=by kernel_rfl
theorem TO(n:Nat)(a0:D):cA (n+1) 83 [a0]=JO aP (cA n) a0:=by kernel_rfl
theorem Q0(n:Nat)(a0 a1:D):cA (n+1) 85 [a0,a1]=H8 aP (cA n) a0 a1:=by kernel_rfl
theorem TP(n:Nat)(a0:D):cA (n+1) 86 [a0]=JP aP (cA n) a0:=by kernel_rfl
theorem Q1(n:Nat)(a0 a1:D):cA (n+1) 87 [a0,a1]=H9 aP (cA n) a0 a1:=by kernel_rfl
theorem TQ(n:Nat)(a0:D):cA (n+1) 88 [a0]=JQ aP (cA n) a0:=by kernel_rfl
theorem Q2(n:Nat)(a0 a1:D):cA (n+1) 89 [a0,a1]=Ia aP (cA n) a0 a1:=by kernel_rfl
theorem TR(n:Nat)(a0 a1:D):cA (n+1) 90 [a0,a1]=JR aP (cA n) a0 a1:=by kernel_rfl
theorem TS(n:Nat)(a0 a1 a2:D):cA (n+1) 96 [a0,a1,a2]=JS aP (cA n) a0 a1 a2:=by kernel_rfl
theorem TT(n:Nat)(a0:D):cA (n+1) 97 [a0]=JT aP (cA n) a0:=by kernel_rfl
theorem TU(n:Nat)(a0 a1:D):cA (n+1) 98 [a0,a1]=JU aP (cA n) a0 a1:=by kernel_rfl
theorem O1(n:Nat)(a0 a1:D):cA (n+1) 100 [a0,a1]=CN aP (cA n) a0 a1:=by kernel_rfl
theorem O2(n:Nat)(a0 a1:D):cA (n+1) 101 [a0,a1]=AP aP (cA n) a0 a1:=by kernel_rfl
theorem O3(n:Nat)(a0 a1:D):cA (n+1) 103 [a0,a1]=CO aP (cA n) a0 a1:=by kernel_rfl
theorem O4(n:Nat)(a0 a1 a2:D):cA (n+1) 104 [a0,a1,a2]=CP aP (cA n) a0 a1 a2:=by kernel_rfl
theorem O5(n:Nat)(a0 a1:D):cA (n+1) 105 [a0,a1]=CQ aP (cA n) a0 a1:=by kernel_rfl
theorem O6(n:Nat)(a0 a1 a2:D):cA (n+1) 106 [a0,a1,a2]=CS aP (cA n) a0 a1 a2:=by kernel_rfl
theorem O7(n:Nat)(a0 a1:D):cA (n+1) 107 [a0,a1]=CU aP (cA n) a0 a1:=by kernel_rfl
theorem O8(n:Nat)(a0 a1:D):cA (n+1) 108 [a0,a1]=CV aP (cA n) a0 a1:=by kernel_rfl
theorem O9(n:Nat)(a0 a1 a2:D):cA (n+1) 109 [a0,a1,a2]=CW aP (cA n) a0 a1 a2:=by kernel_rfl
theorem Pa(n:Nat)(a0 a1:D):cA (n+1) 110 [a0,a1]=CX aP (cA n) a0 a1:=by kernel_rfl
theorem Pb(n:Nat)(a0 a1 a2:D):cA (n+1) 111 [a0,a1,a2]=CY aP (cA n) a0 a1 a2:=by kernel_rfl
theorem Pc(n:Nat)(a0 a1:D):cA (n+1) 112 [a0,a1]=CZ aP (cA n) a0 a1:=by kernel_rfl
theorem Pd(n:Nat)(a0:D):cA (n+1) 115 [a0]=C0 aP (cA n) a0:=by kernel_rfl
theorem Pe(n:Nat)(a0 a1:D):cA (n+1) 116 [a0,a1]=C1 aP (cA n) a0 a1:=by kernel_rfl
theorem Pf(n:Nat)(a0 a1:D):cA (n+1) 117 [a0,a1]=C2 aP (cA n) a0 a1:=by kernel_rfl
theorem Pg(n:Nat)(a0:D):cA (n+1) 118 [a0]=C3 aP (cA n) a0:=by kernel_rfl
theorem Ph(n:Nat):cA (n+1) 119 []=C4 aP (cA n) :=by kernel_rfl
theorem Pj(n:Nat)(a0 a1:D):cA (n+1) 120 [a0,a1]=C5 aP (cA n) a0 a1:=by kernel_rfl
theorem Pk(n:Nat)(a0 a1:D):cA (n+1) 121 [a0,a1]=C6 aP (cA n) a0 a1:=by kernel_rfl
theorem Pm(n:Nat)(a0 a1:D):cA (n+1) 122 [a0,a1]=C7 aP (cA n) a0 a1:=by kernel_rfl
theorem Pn(n:Nat)(a0 a1:D):cA (n+1) 123 [a0,a1]=C8 aP (cA n) a0 a1:=by kernel_rfl
theorem Jb(n:Nat)(a0:D):cA (n+1) 124 [a0]=AQ aP (cA n) a0:=by kernel_rfl
theorem Pp(n:Nat):cA (n+1) 125 []=C9 aP (cA n) :=by kernel_rfl
theorem Pq(n:Nat)(a0 a1:D):cA (n+1) 126 [a0,a1]=Da aP (cA n) a0 a1:=by kernel_rfl
theorem Pr(n:Nat)(a0:D):cA (n+1) 127 [a0]=Db aP (cA n) a0:=by kernel_rfl
theorem Ps(n:Nat)(a0:D):cA (n+1) 128 [a0]=Dc aP (cA n) a0:=by kernel_rfl
theorem Pt(n:Nat)(a0:D):cA (n+1) 129 [a0]=Dd aP (cA n) a0:=by kernel_rfl
theorem Pu(n:Nat)(a0 a1:D):cA (n+1) 131 [a0,a1]=De aP (cA n) a0 a1:=by kernel_rfl
theorem Pv(n:Nat)(a0 a1:D):cA (n+1) 132 [a0,a1]=Df aP (cA n) a0 a1:=by kernel_rfl
theorem Pw(n:Nat):cA (n+1) 133 []=Dg aP (cA n) :=by kernel_rfl
theorem Px(n:Nat)(a0:D):cA (n+1) 136 [a0]=Dh aP (cA n) a0:=by kernel_rfl
theorem Py(n:Nat)(a0 a1:D):cA (n+1) 137 [a0,a1]=Di aP (cA n) a0 a1:=by kernel_rfl
theorem Pz(n:Nat)(a0:D):cA (n+1) 138 [a0]=Dj aP (cA n) a0:=by kernel_rfl
theorem PA(n:Nat)(a0:D):cA (n+1) 139 [a0]=Dk aP (cA n) a0:=by kernel_rfl
theorem PB(n:Nat)(a0:D):cA (n+1) 140 [a0]=Dl aP (cA n) a0:=by kernel_rfl
theorem PC(n:Nat)(a0 a1:D):cA (n+1) 141 [a0,a1]=Dm aP (cA n) a0 a1:=by kernel_rfl
theorem PD(n:Nat)(a0:D):cA (n+1) 142 [a0]=Dn aP (cA n) a0:=by kernel_rfl
theorem PE(n:Nat)(a0 a1:D):cA (n+1) 143 [a0,a1]=Do aP (cA n) a0 a1:=by kernel_rfl
theorem PF(n:Nat)(a0 a1:D):cA (n+1) 144 [a0,a1]=Dp aP (cA n) a0 a1:=by kernel_rfl
theorem PG(n:Nat)(a0:D):cA (n+1) 145 [a0]=Dq aP (cA n) a0:=by kernel_rfl
theorem PH(n:Nat)(a0 a1:D):cA (n+1) 146 [a0,a1]=Dr aP (cA n) a0 a1:=by kernel_rfl
theorem Jc(n:Nat)(a0 a1:D):cA (n+1) 152 [a0,a1]=AS aP (cA n) a0 a1:=by kernel_rfl
theorem PI(n:Nat)(a0 a1:D):cA (n+1) 154 [a0,a1]=Ds aP (cA n) a0 a1:=by kernel_rfl
theorem PJ(n:Nat)(a0:D):cA (n+1) 155 [a0]=Dt aP (cA n) a0:=by kernel_rfl
theorem PK(n:Nat)(a0 a1 a2 a3 a4:D):cA (n+1) 156 [a0,a1,a2,a3,a4]=Du aP (cA n) a0 a1 a2 a3 a4:=by kernel_rfl
theorem PL(n:Nat)(a0:D):cA (n+1) 165 [a0]=Dv aP (cA n) a0:=by kernel_rfl
theorem PM(n:Nat)(a0:D):cA (n+1) 167 [a0]=Dw aP (cA n) a0:=by kernel_rfl
theorem PN(n:Nat)(a0 a1:D):cA (n+1) 168 [a0,a1]=Dx aP (cA n) a0 a1:=by kernel_rfl
theorem PO(n:Nat):cA (n+1) 169 []=Dy aP (cA n) :=by kernel_rfl
theorem PP(n:Nat)(a0 a1:D):cA (n+1) 170 [a0,a1]=Dz aP (cA n) a0 a1:=by kernel_rfl
theorem PQ(n:Nat)(a0:D):cA (n+1) 171 [a0]=DA aP (cA n) a0:=by kernel_rfl
theorem PR(n:Nat)(a0 a1:D):cA (n+1) 172 [a0,a1]=DB aP (cA n) a0 a1:=by kernel_rfl
theorem PS(n:Nat)(a0 a1:D):cA (n+1) 173 [a0,a1]=DC aP (cA n) a0 a1:=by kernel_rfl
theorem PT(n:Nat)(a0 a1:D):cA (n+1) 174 [a0,a1]=DD aP (cA n) a0 a1:=by kernel_rfl
theorem PU(n:Nat)(a0 a1:D):cA (n+1) 175 [a0,a1]=DE aP (cA n) a0 a1:=by kernel_rfl
theorem PW(n:Nat)(a0:D):cA (n+1) 186 [a0]=DF aP (cA n) a0:=by kernel_rfl
theorem PX(n:Nat)(a0:D):cA (n+1) 187 [a0]=DG aP (cA n) a0:=by kernel_rfl
theorem PY(n:Nat)(a0 a1:D):cA (n+1) 188 [a0,a1]=DH aP (cA n) a0 a1:=by kernel_rfl
theorem PZ(n:Nat)(a0:D):cA (n+1) 194 [a0]=DI aP (cA n) a0:=by kernel_rfl
theorem P0(n:Nat)(a0 a1:D):cA (n+1) 195 [a0,a1]=DJ aP (cA n) a0 a1:=by kernel_rfl
theorem P1(n:Nat)(a0:D):cA (n+1) 196 [a0]=DK aP (cA n) a0:=by kernel_rfl
theorem P2(n:Nat)(a0 a1:D):cA (n+1) 197 [a0,a1]=DL aP (cA n) a0 a1:=by kernel_rfl
theorem P3(n:Nat)(a0 a1:D):cA (n+1) 201 [a0,a1]=DM aP (cA n) a0 a1:=by kernel_rfl
theorem P4(n:Nat)(a0:D):cA (n+1) 202 [a0]=zg aP (cA n) a0:=by kernel_rfl
theorem P5(n:Nat)(a0:D):cA (n+1) 215 [a0]=DN aP (cA n) a0:=by kernel_rfl
theorem P6(n:Nat)(a0:D):cA (n+1) 217 [a0]=DO aP (cA n) a0:=by kernel_rfl
theorem P7(n:Nat)(a0 a1 a2:D):cA (n+1) 306 [a0,a1,a2]=DQ aP (cA n) a0 a1 a2:=by kernel_rfl
theorem P8(n:Nat)(a0:D):cA (n+1) 308 [a0]=DS aP (cA n) a0:=by kernel_rfl
theorem P9(n:Nat)(a0 a1 a2:D):cA (n+1) 311 [a0,a1,a2]=DT aP (cA n) a0 a1 a2:=by kernel_rfl
theorem Qa(n:Nat)(a0 a1 a2:D):cA (n+1) 313 [a0,a1,a2]=DU aP (cA n) a0 a1 a2:=by kernel_rfl
theorem Qb(n:Nat)(a0:D):cA (n+1) 322 [a0]=DV aP (cA n) a0:=by kernel_rfl
theorem Qc(n:Nat)(a0:D):cA (n+1) 323 [a0]=DW aP (cA n) a0:=by kernel_rfl
theorem Qd(n:Nat)(a0 a1:D):cA (n+1) 324 [a0,a1]=DX aP (cA n) a0 a1:=by kernel_rfl
theorem Qe(n:Nat)(a0:D):cA (n+1) 326 [a0]=DY aP (cA n) a0:=by kernel_rfl
theorem Qf(n:Nat)(a0:D):cA (n+1) 327 [a0]=DZ aP (cA n) a0:=by kernel_rfl
theorem Qg(n:Nat)(a0:D):cA (n+1) 331 [a0]=D0 aP (cA n) a0:=by kernel_rfl
theorem Qh(n:Nat)(a0 a1:D):cA (n+1) 336 [a0,a1]=D1 aP (cA n) a0 a1:=by kernel_rfl
theorem Qi(n:Nat)(a0 a1:D):cA (n+1) 337 [a0,a1]=D2 aP (cA n) a0 a1:=by kernel_rfl
theorem Qj(n:Nat)(a0 a1:D):cA (n+1) 345 [a0,a1]=D3 aP (cA n) a0 a1:=by kernel_rfl
theorem Qk(n:Nat)(a0:D):cA (n+1) 346 [a0]=D4 aP (cA n) a0:=by kernel_rfl
theorem Ql(n:Nat)(a0:D):cA (n+1) 347 [a0]=D5 aP (cA n) a0:=by kernel_rfl
theorem Qm(n:Nat)(a0:D):cA (n+1) 348 [a0]=D6 aP (cA n) a0:=by kernel_rfl
theorem Qn(n:Nat)(a0:D):cA (n+1) 349 [a0]=D7 aP (cA n) a0:=by kernel_rfl
theorem Qo(n:Nat)(a0:D):cA (n+1) 357 [a0]=D8 aP (cA n) a0:=by kernel_rfl
theorem Qq(n:Nat)(a0:D):cA (n+1) 361 [a0]=D9 aP (cA n) a0:=by kernel_rfl
theorem Qr(n:Nat)(a0:D):cA (n+1) 362 [a0]=Ea aP (cA n) a0:=by kernel_rfl
theorem Qs(n:Nat)(a0 a1:D):cA (n+1) 363 [a0,a1]=Eb aP (cA n) a0 a1:=by kernel_rfl
theorem Qt(n:Nat)(a0 a1:D):cA (n+1) 364 [a0,a1]=Ec aP (cA n) a0 a1:=by kernel_rfl
theorem Qu(n:Nat)(a0:D):cA (n+1) 365 [a0]=Ed aP (cA n) a0:=by kernel_rfl
theorem Qv(n:Nat)(a0:D):cA (n+1) 375 [a0]=Ee aP (cA n) a0:=by kernel_rfl
theorem Qw(n:Nat)(a0 a1 a2:D):cA (n+1) 376 [a0,a1,a2]=Ef aP (cA n) a0 a1 a2:=by kernel_rfl
theorem Qx(n:Nat)(a0:D):cA (n+1) 377 [a0]=Eg aP (cA n) a0:=by kernel_rfl
theorem Qy(n:Nat)(a0:D):cA (n+1) 378 [a0]=Eh aP (cA n) a0:=by kernel_rfl
theorem Qz(n:Nat)(a0 a1:D):cA (n+1) 379 [a0,a1]=Ei aP (cA n) a0 a1:=by kernel_rfl
theorem QA(n:Nat)(a0 a1:D):cA (n+1) 389 [a0,a1]=Ej aP (cA n) a0 a1:=by kernel_rfl
theorem QB(n:Nat)(a0 a1:D):cA (n+1) 390 [a0,a1]=Ek aP (cA n) a0 a1:=by kernel_rfl
theorem QC(n:Nat)(a0 a1 a2 a3:D):cA (n+1) 395 [a0,a1,a2,a3]=El aP (cA n) a0 a1 a2 a3:=by kernel_rfl
theorem QD(n:Nat)(a0 a1:D):cA (n+1) 396 [a0,a1]=Em aP (cA n) a0 a1:=by kernel_rfl
end Sy
end
noncomputable section
namespace Geo
structure V where
 x:Int
 y:Int
 z:Int
deriving DecidableEq
namespace V
def sub(a b:V):V:=⟨a.x-b.x,a.y-b.y,a.z-b.z⟩
def neg(a:V):V:=⟨-a.x,-a.y,-a.z⟩
def add(a b:V):V:=⟨a.x+b.x,a.y+b.y,a.z+b.z⟩
def smul(k:Int)(a:V):V:=⟨k*a.x,k*a.y,k*a.z⟩
def dot(a b:V):Int:=a.x*b.x+a.y*b.y+a.z*b.z
def cross(a b:V):V:=⟨a.y*b.z-a.z*b.y,a.z*b.x-a.x*b.z,a.x*b.y-a.y*b.x⟩
def zero:V:=⟨0,0,0⟩
theorem ext'{a b:V}(h1:a.x=b.x)(h2:a.y=b.y)(h3:a.z=b.z):a=b:=by cases a;cases b;simp_all
end V
open V
theorem xQ{a:Int}(h:a≠0):0<a*a:=by
 rcases Int.lt_or_lt_of_ne h with h|h
 ·exact Int.mul_pos_of_neg_of_neg h h
 ·exact Int.mul_pos h h
theorem sS(a:Int):0<=a*a:=by
 rcases Int.lt_trichotomy a 0 with h|h|h
 ·exact Int.le_of_lt (Int.mul_pos_of_neg_of_neg h h)
 ·subst h;decide
 ·exact Int.le_of_lt (Int.mul_pos h h)
theorem od(a:V):0<=dot a a:=by
 have:=sS a.x;have:=sS a.y;have:=sS a.z
 simp only[dot];omega
theorem rd{a:V}(h:dot a a=0):a=zero:=by
 have h1:=sS a.x;have h2:=sS a.y;have h3:=sS a.z
 simp only[dot] at h
 have e1:a.x*a.x=0:=by omega
 have e2:a.y*a.y=0:=by omega
 have e3:a.z*a.z=0:=by omega
 apply V.ext'<;>simp only[zero]<;>(first|(rcases Int.mul_eq_zero.1 e1 with h|h<;>exact h)|(rcases Int.mul_eq_zero.1 e2 with h|h<;>exact h)|(rcases Int.mul_eq_zero.1 e3 with h|h<;>exact h))
theorem bQ{a:V}(h:a≠zero):0<dot a a:=by
 have:=od a
 rcases Int.lt_or_eq_of_le this with h1|h1
 ·exact h1
 ·exact absurd (rd h1.symm) h
def T(n u v:V):Int:=dot n (cross u v)
theorem qt{a b:Int}(ha:0<a)(h:0<a*b):0<b:=by
 rcases Int.lt_trichotomy b 0 with hb|hb|hb
 ·have:=Int.mul_neg_of_pos_of_neg ha hb;omega
 ·subst hb;simp at h
 ·exact hb
theorem zT{a b:Int}(ha:0<a)(h:0<=a*b):0<=b:=by
 rcases Int.lt_or_le b 0 with hb|hb
 ·have:=Int.mul_neg_of_pos_of_neg ha hb;omega
 ·exact hb
theorem bq{a b:Int}(ha:0<a)(h:a*b=0):b=0:=by
 rcases Int.mul_eq_zero.1 h with h|h
 ·omega
 ·exact h
section plane
variable{n:V}(hn:n≠zero)
include hn
theorem yX(f:V){u v w:V}(hu:dot n u=0)(hv:dot n v=0)(hw:dot n w=0) :
  dot f u*T n v w+dot f v*T n w u+dot f w*T n u v=0:=by
 have h:dot n n*(dot f u*T n v w+dot f v*T n w u+dot f w*T n u v)=0:=by
  simp only[T,dot,cross] at *;grind
 exact bq (bQ hn) h
theorem yg{f u v w:V}(hu:dot n u=0)(hv:dot n v=0)(hw:dot n w=0)(fu:0<dot f u)(fv:0<dot f v)(fw:0<dot f w)
  (h1:0<=T n u v) (h2:0<=T n v w):0<=T n u w/\(0<T n u v\/0<T n v w->0<T n u w):=by
 have p:=yX hn f hu hv hw
 have e:T n w u=- T n u w:=by simp only[T,dot,cross];grind
 rw[e] at p
 have q:dot f v*T n u w=dot f u*T n v w+dot f w*T n u v:=by
  have:dot f v*-T n u w=-(dot f v*T n u w):=Int.mul_neg _ _
  omega
 have q1:=Int.mul_nonneg (Int.le_of_lt fu) h2
 have q2:=Int.mul_nonneg (Int.le_of_lt fw) h1
 refine⟨zT fv (by omega),fun h=>qt fv ?_⟩
 rcases h with h|h
 ·have:=Int.mul_pos fw h;omega
 ·have:=Int.mul_pos fu h;omega
theorem fj{u v:V}(hu:dot n u=0)(hv:dot n v=0)(h:T n u v=0):cross u v=zero:=by
 have hp:=bQ hn
 have e1:dot n n*(cross u v).x=T n u v*n.x:=by simp only[T,dot,cross] at *;grind
 have e2:dot n n*(cross u v).y=T n u v*n.y:=by simp only[T,dot,cross] at *;grind
 have e3:dot n n*(cross u v).z=T n u v*n.z:=by simp only[T,dot,cross] at *;grind
 rw[h,Int.zero_mul] at e1 e2 e3
 exact V.ext' (bq hp e1) (bq hp e2) (bq hp e3)
end plane
theorem Fh{u v:V}(h:cross u v=zero)(f:V):smul (dot f u) v=smul (dot f v) u:=by
 have h1:(cross u v).x=0:=by rw[h];rfl
 have h2:(cross u v).y=0:=by rw[h];rfl
 have h3:(cross u v).z=0:=by rw[h];rfl
 simp only[cross] at h1 h2 h3
 apply V.ext'<;>simp only[smul,dot]<;>grind
theorem BW{u v:V}(h:cross u v=zero)(hu:u≠zero)(hd:dot v u=dot u u):v=u:=by
 have p:=Fh h u
 have e:dot u v=dot v u:=by simp only[dot];grind
 have hp:=bQ hu
 rw[e,hd] at p
 have p1:dot u u*(v.x-u.x)=0:=by have:=congrArg V.x p;simp only[smul] at this;grind
 have p2:dot u u*(v.y-u.y)=0:=by have:=congrArg V.y p;simp only[smul] at this;grind
 have p3:dot u u*(v.z-u.z)=0:=by have:=congrArg V.z p;simp only[smul] at this;grind
 have:=bq hp p1
 have:=bq hp p2
 have:=bq hp p3
 exact V.ext' (by omega) (by omega) (by omega)
theorem gv{α:Type}(φ:α->Int):∀ l:List α,∃ N:Int,0<N/\∀ x∈l,-N<φ x/\φ x<N
 | []=>⟨1,by decide,by simp⟩
 | a::l=>by
  obtain⟨N,h0,h⟩:=gv φ l
  refine⟨N+(φ a).natAbs+1,by omega,fun x hx=>?_⟩
  rcases List.mem_cons.1 hx with rfl|hx
  ·omega
  ·have:=h x hx;omega
def wy(P:Nat->V)(a x:Nat):V:=sub (P x) (P a)
structure Side(n:V)(P:Nat->V)(on:List Nat)(a b:Nat):Prop where
 mem:b∈on
 ne:b≠a
 all:∀ x∈on,0<=T n (wy P a b) (wy P a x)/\(T n (wy P a b) (wy P a x)=0->0<=dot (wy P a x) (wy P a b)/\dot (wy P a x) (wy P a b)<=dot (wy P a b) (wy P a b))
def jz(P:Nat->V)(on:List Nat)(a:Nat):Prop:=∃ f:V,∀ x∈on,x≠a->0<dot f (wy P a x)
structure Flat(n:V)(P:Nat->V)(on:List Nat):Prop where
 nz:n≠zero
 pl:∀ x∈on,∀ y∈on,dot n (wy P x y)=0
 inj:∀ x∈on,∀ y∈on,P x=P y->x=y
section poly
variable{n:V}{P:Nat->V}{on:List Nat}
theorem oM(h:Flat n P on){a b:Nat}(ha:a∈on)(hb:b∈on)(hab:b≠a):wy P a b≠zero:=fun e=>by
 apply hab
 apply h.inj b hb a ha
 have e1:=congrArg V.x e;have e2:=congrArg V.y e;have e3:=congrArg V.z e
 simp only[wy,sub,zero] at e1 e2 e3
 exact V.ext' (by omega) (by omega) (by omega)
theorem CF{a b c:Nat}(h:wy P a b=wy P a c):P b=P c:=by
 have e1:=congrArg V.x h;have e2:=congrArg V.y h;have e3:=congrArg V.z h
 simp only[wy,sub] at e1 e2 e3
 exact V.ext' (by omega) (by omega) (by omega)
theorem Side.unique(h:Flat n P on){a b c:Nat}(ha:a∈on)(hb:Side n P on a b)(hc:Side n P on a c):b=c:=by
 have h1:=hb.all c hc.mem
 have h2:=hc.all b hb.mem
 have e:T n (wy P a c) (wy P a b)=- T n (wy P a b) (wy P a c):=by simp only[T,dot,cross];grind
 rw[e] at h2
 have t0:T n (wy P a b) (wy P a c)=0:=by omega
 have k1:=h1.2 t0
 have k2:=h2.2 (by omega)
 have es:dot (wy P a b) (wy P a c)=dot (wy P a c) (wy P a b):=by simp only[dot];grind
 have hx:=fj h.nz (h.pl a ha b hb.mem) (h.pl a ha c hc.mem) t0
 have hq:dot (wy P a b) (wy P a b)*dot (wy P a c) (wy P a c)=dot (wy P a c) (wy P a b)*dot (wy P a c) (wy P a b):=by
  have p:=Fh hx (wy P a b)
  have p1:=congrArg V.x p;have p2:=congrArg V.y p;have p3:=congrArg V.z p
  simp only[smul] at p1 p2 p3
  simp only[dot] at *;grind
 have hbp:=bQ (oM h ha hb.mem hb.ne)
 have hcp:=bQ (oM h ha hc.mem hc.ne)
 have hle:dot (wy P a c) (wy P a b)=dot (wy P a b) (wy P a b):=by
  generalize dot (wy P a b) (wy P a b)=B at *
  generalize dot (wy P a c) (wy P a c)=C at *
  generalize dot (wy P a c) (wy P a b)=X at *
  rw[es] at k2
  rcases Int.lt_or_eq_of_le k1.2 with hlt|heq
  ·exfalso
   have:X*X<B*C:=by
    have a1:X*X<=X*C:=Int.mul_le_mul_of_nonneg_left k2.2 k1.1
    have a2:X*C<B*C:=Int.mul_lt_mul_of_pos_right hlt hcp
    omega
   omega
  ·exact heq
 have:=BW hx (oM h ha hb.mem hb.ne) hle
 exact(h.inj c hc.mem b hb.mem (CF this)).symm
theorem Side.ext(h:Flat n P on){a b:Nat}(ha:a∈on)(hb:Side n P on a b):jz P on b:=by
 obtain⟨N,hN0,hN⟩:=gv (fun x=>dot (wy P b a) (wy P b x)) on
 refine⟨add (smul N (cross n (wy P a b))) (wy P b a),fun x hx hxb=>?_⟩
 have e:dot (add (smul N (cross n (wy P a b))) (wy P b a)) (wy P b x)=N*T n (wy P a b) (wy P a x)+dot (wy P b a) (wy P b x):=by
  simp only[T,dot,cross,add,smul,wy,sub];grind
 rw[e]
 obtain⟨h1,h2⟩:=hb.all x hx
 have h3:=hN x hx
 rcases Int.lt_or_eq_of_le h1 with hlt|heq
 ·have:N*1<=N*T n (wy P a b) (wy P a x):=Int.mul_le_mul_of_nonneg_left (by omega) (by omega)
  omega
 ·rw[<-heq,Int.mul_zero,Int.zero_add]
  have h4:=h2 heq.symm
  have e2:dot (wy P b a) (wy P b x)=dot (wy P a b) (wy P a b)-dot (wy P a x) (wy P a b):=by simp only[dot,wy,sub];grind
  rw[e2]
  rcases Int.lt_or_eq_of_le h4.2 with h5|h5
  ·omega
  ·exfalso
   have hx0:=fj h.nz (h.pl a ha b hb.mem) (h.pl a ha x hx) heq.symm
   exact hxb (h.inj x hx b hb.mem (CF (BW hx0 (oM h ha hb.mem hb.ne) h5)))
theorem jz.ray(h:Flat n P on){a x y:Nat}(ha:a∈on)(hx:x∈on)(hy:y∈on)(ea:jz P on a)(ex:jz P on x)(ey:jz P on y)(hxa:x≠a)(hya:y≠a)(ht:T n (wy P a x) (wy P a y)=0):x=y:=by
 by_cases hxy:x=y
 ·exact hxy
 exfalso
 obtain⟨f,hf⟩:=ea
 obtain⟨g,hg⟩:=ex
 obtain⟨k,hk⟩:=ey
 have c:=fj h.nz (h.pl a ha x hx) (h.pl a ha y hy) ht
 have p:=Fh c f
 have fx:=hf x hx hxa
 have fy:=hf y hy hya
 have g1:=hg a ha (Ne.symm hxa);have g2:=hg y hy (Ne.symm hxy)
 have k1:=hk a ha (Ne.symm hya);have k2:=hk x hx hxy
 have q1:dot f (wy P a x)*dot g (wy P a y)=dot f (wy P a y)*dot g (wy P a x):=by
  have p1:=congrArg V.x p;have p2:=congrArg V.y p;have p3:=congrArg V.z p
  simp only[smul] at p1 p2 p3
  generalize dot f (wy P a x)=A at *
  generalize dot f (wy P a y)=B at *
  simp only[dot];grind
 have q2:dot f (wy P a x)*dot k (wy P a y)=dot f (wy P a y)*dot k (wy P a x):=by
  have p1:=congrArg V.x p;have p2:=congrArg V.y p;have p3:=congrArg V.z p
  simp only[smul] at p1 p2 p3
  generalize dot f (wy P a x)=A at *
  generalize dot f (wy P a y)=B at *
  simp only[dot];grind
 have eg1:dot g (wy P x a)=- dot g (wy P a x):=by simp only[dot,wy,sub];grind
 have eg2:dot g (wy P x y)=dot g (wy P a y)-dot g (wy P a x):=by simp only[dot,wy,sub];grind
 have ek1:dot k (wy P y a)=- dot k (wy P a y):=by simp only[dot,wy,sub];grind
 have ek2:dot k (wy P y x)=dot k (wy P a x)-dot k (wy P a y):=by simp only[dot,wy,sub];grind
 rw[eg1] at g1;rw[eg2] at g2;rw[ek1] at k1;rw[ek2] at k2
 generalize dot f (wy P a x)=A at *
 generalize dot f (wy P a y)=B at *
 generalize dot g (wy P a x)=gx at *
 generalize dot g (wy P a y)=gy at *
 generalize dot k (wy P a x)=kx at *
 generalize dot k (wy P a y)=ky at *
 have r1:B<A:=by
  rcases Int.lt_or_le B A with hh|hh
  ·exact hh
  ·exfalso
   have s1:B*gx<=A*gx:=by
    have:=Int.mul_le_mul_of_nonneg_right hh (show 0<=-gx by omega)
    simp only[Int.mul_neg] at this;omega
   have s2:A*gx<A*gy:=Int.mul_lt_mul_of_pos_left (by omega) fx
   omega
 have s3:A*ky<B*ky:=by
  have s4:B*ky<B*kx:=Int.mul_lt_mul_of_pos_left (by omega) fy
  have s5:A*ky=B*kx:=q2
  have s6:A*ky<=B*ky:=by
   have:=Int.mul_le_mul_of_nonneg_right (Int.le_of_lt r1) (show 0<=-ky by omega)
   simp only[Int.mul_neg] at this;omega
  omega
 have s4:B*ky<B*kx:=Int.mul_lt_mul_of_pos_left (by omega) fy
 omega
theorem I9(a x y:Nat):T n (wy P x y) (wy P x a)=T n (wy P a x) (wy P a y):=by
 simp only[T,dot,cross,wy,sub];grind
theorem Ge(u v:V):T n v u=- T n u v:=by simp only[T,dot,cross];grind
theorem Side.after(h:Flat n P on){a x y:Nat}(ha:a∈on)(hx:x∈on)(ea:jz P on a)(ex:jz P on x)(hxa:x≠a)(hs:Side n P on x y)(hya:y≠a):0<T n (wy P a x) (wy P a y):=by
 have h1:=(hs.all a ha).1
 rw[I9] at h1
 rcases Int.lt_or_eq_of_le h1 with h2|h2
 ·exact h2
 ·exact absurd (jz.ray h ha hx hs.mem ea ex (hs.ext h hx) hxa hya h2.symm) hs.ne.symm
theorem Ew(h:Flat n P on){a x y z:Nat}(ha:a∈on)(hx:x∈on)(hz:z∈on)(hs:Side n P on x y)(ez:jz P on z)(h1:0<T n (wy P a x) (wy P a z))(h2:0<T n (wy P a z) (wy P a y)):False:=by
 obtain⟨f,hf⟩:=ez
 have hza:a≠z:=fun e=>by subst e;simp[T,dot,cross,wy,sub] at h2
 have hzx:x≠z:=fun e=>by
  subst e
  have:T n (wy P a x) (wy P a x)=0:=by simp only[T,dot,cross];grind
  omega
 have hzy:y≠z:=fun e=>by
  subst e
  have:T n (wy P a y) (wy P a y)=0:=by simp only[T,dot,cross];grind
  omega
 have f1:=hf a ha hza
 have f2:=hf x hx hzx
 have f3:=hf y hs.mem hzy
 have h3:=(hs.all z hz).1
 have e:dot n n*(T n (wy P x y) (wy P x z)*dot f (wy P z a)+T n (wy P a z) (wy P a y)*dot f (wy P z x)+T n (wy P a x) (wy P a z)*dot f (wy P z y))=0:=by
  have p1:=h.pl z hz a ha
  have p2:=h.pl z hz x hx
  have p3:=h.pl z hz y hs.mem
  have e1:T n (wy P x y) (wy P x z)=T n (wy P z x) (wy P z y):=I9 z x y
  have e2:T n (wy P a z) (wy P a y)=T n (wy P z y) (wy P z a):=by simp only[T,dot,cross,wy,sub];grind
  have e3:T n (wy P a x) (wy P a z)=T n (wy P z a) (wy P z x):=by simp only[T,dot,cross,wy,sub];grind
  rw[e1,e2,e3]
  have pk:=yX h.nz f p1 p2 p3
  rw[Int.mul_comm (dot f (wy P z a)),Int.mul_comm (dot f (wy P z x)),Int.mul_comm (dot f (wy P z y))] at pk
  rw[show T n (wy P z x) (wy P z y)*dot f (wy P z a)+T n (wy P z y) (wy P z a)*dot f (wy P z x)+T n (wy P z a) (wy P z x)*dot f (wy P z y)=0 from pk,Int.mul_zero]
 have e':=bq (bQ h.nz) e
 have m1:=Int.mul_nonneg h3 (Int.le_of_lt f1)
 have m2:=Int.mul_pos h2 f2
 have m3:=Int.mul_pos h1 f3
 omega
theorem rJ{α:Type}{p q:α->Bool}:∀ {l:List α},(∀ x∈l,p x=true->q x=true)->(∃ y∈l,q y=true/\p y=false)->l.countP p<l.countP q
 | [],_,h=>by obtain⟨y,hy,_⟩:=h;cases hy
 | a::l,h,hy=>by
  have hl:l.countP p<=l.countP q:=by
   have h':∀ x∈l,p x=true->q x=true:=fun x hx=>h x (List.mem_cons_of_mem _ hx)
   exact List.countP_mono_left h'
  have ha:=h a List.mem_cons_self
  rw[List.countP_cons,List.countP_cons]
  obtain⟨y,hm,hq,hp⟩:=hy
  rcases List.mem_cons.1 hm with rfl|hm
  ·simp[hq,hp];omega
  ·have:=rJ (l:=l) (fun x hx=>h x (List.mem_cons_of_mem _ hx)) ⟨y,hm,hq,hp⟩
   cases hpa:p a
   ·simp;omega
   ·simp[ha hpa];omega
inductive Chain(S:Nat->Nat->Prop)(a₀:Nat):Nat->List Nat->Prop
 | done {c:Nat}:S c a₀->Chain S a₀ c [c]
 | step {c y:Nat} {l:List Nat}:S c y->y≠a₀->Chain S a₀ y l->Chain S a₀ c (c::l)
theorem walk(h:Flat n P on){a:Nat}(ha:a∈on)(ea:jz P on a)(hnext:∀ c∈on,jz P on c->∃ b,Side n P on c b){c:Nat}(hc:c∈on)(ec:jz P on c)(hca:c≠a) :
  ∃ l,Chain (Side n P on) a c l/\(∀ z∈l,z∈on/\jz P on z/\z≠a/\(z=c\/0<T n (wy P a c) (wy P a z)))/\(∀ z∈on,jz P on z->z≠a->0<T n (wy P a c) (wy P a z)->z∈l) ∧
   l.Pairwise (fun x y=>0<T n (wy P a x) (wy P a y)):=by
 generalize hm:on.countP (fun z=>decide (0<T n (wy P a c) (wy P a z)))=m
 induction m using Nat.strongRecOn generalizing c with
 | _ m ih=>
  obtain⟨y,hy⟩:=hnext c hc ec
  obtain⟨f,hf⟩:=ea
  by_cases hya:y=a
  ·subst hya
   refine⟨[c],.done hy,fun z hz=>?_,fun z hz ez hza ht=>?_,by simp⟩
   ·rw[List.mem_singleton] at hz;subst hz;exact⟨hc,ec,hca,.inl rfl⟩
   ·have h1:=(hy.all z hz).1
    have e:T n (wy P c y) (wy P c z)=- T n (wy P y c) (wy P y z):=by simp only[T,dot,cross,wy,sub];grind
    omega
  ·have hxy:=Side.after h ha hc ⟨f,hf⟩ ec hca hy hya
   have ey:=hy.ext h hc
   have tr:∀ z∈on,0<T n (wy P a y) (wy P a z)->0<T n (wy P a c) (wy P a z):=fun z hz ht=>by
    have hza:z≠a:=fun e=>by
     subst e
     have:T n (wy P z y) (wy P z z)=0:=by simp[T,dot,cross,wy,sub]
     omega
    exact(yg h.nz (h.pl a ha c hc) (h.pl a ha y hy.mem) (h.pl a ha z hz) (hf c hc hca) (hf y hy.mem hya) (hf z hz hza) (Int.le_of_lt hxy) (Int.le_of_lt ht)).2 (.inl hxy)
   have self0:T n (wy P a y) (wy P a y)=0:=by simp only[T,dot,cross];grind
   obtain⟨l,k1,k2,k3,k4⟩:=ih _ (by
    rw[<-hm]
    refine rJ (fun z hz ht=>by simp only[decide_eq_true_eq] at ht ⊢;exact tr z hz ht) ⟨y,hy.mem,by simpa using hxy,by simp[self0]⟩) hy.mem ey hya rfl
   refine⟨c::l,.step hy hya k1,fun z hz=>?_,fun z hz ez hza ht=>?_,List.pairwise_cons.2 ⟨fun z hz=>?_,k4⟩⟩
   ·rcases List.mem_cons.1 hz with rfl|hz
    ·exact⟨hc,ec,hca,.inl rfl⟩
    ·obtain⟨q1,q2,q3,q4⟩:=k2 z hz
     refine⟨q1,q2,q3,.inr ?_⟩
     rcases q4 with rfl|q4
     ·exact hxy
     ·exact tr z q1 q4
   ·rcases Int.lt_trichotomy (T n (wy P a y) (wy P a z)) 0 with hlt|heq|hgt
    ·have e:=Ge (n:=n) (wy P a y) (wy P a z)
     exact(Ew h ha hc hz hy ez ht (by omega)).elim
    ·have:=jz.ray h ha hy.mem hz ⟨f,hf⟩ ey ez hya hza heq
     subst this
     have:y∈l:=by cases k1<;>exact List.mem_cons_self
     exact List.mem_cons_of_mem _ this
    ·exact List.mem_cons_of_mem _ (k3 z hz ez hza hgt)
   ·obtain⟨q1,q2,q3,q4⟩:=k2 z hz
    rcases q4 with rfl|q4
    ·exact hxy
    ·exact tr z q1 q4
def mU(n:V)(P:Nat->V)(a b k:Nat):Bool:=
 decide (T n (wy P a b) (wy P a k)<0)||(decide (T n (wy P a b) (wy P a k)=0)&&decide (dot (wy P a b) (wy P a b)<dot (wy P a k) (wy P a k)))
def cH(n:V)(P:Nat->V)(a:Nat)(best:Option Nat)(k:Nat):Option Nat:=
 if k=a then best else match best with
  | none=>some k
  | some b=>if mU n P a b k then some k else some b
theorem oA(h:Flat n P on){a:Nat}(ha:a∈on)(ea:jz P on a):∀ (l pre:List Nat) (best:Option Nat),(∀ x∈pre,x∈on)->(∀ x∈l,x∈on) ->
  (match best with
   | none=>∀ x∈pre,x=a
   | some b=>b∈pre/\b≠a/\∀ x∈pre,x≠a->0<T n (wy P a b) (wy P a x)\/(T n (wy P a b) (wy P a x)=0/\dot (wy P a x) (wy P a x)<=dot (wy P a b) (wy P a b))) ->
  match l.foldl (cH n P a) best with
   | none=>∀ x∈pre++l,x=a
   | some b=>b∈pre++l/\b≠a/\∀ x∈pre++l,x≠a->0<T n (wy P a b) (wy P a x)\/(T n (wy P a b) (wy P a x)=0/\dot (wy P a x) (wy P a x)<=dot (wy P a b) (wy P a b))
 | [],pre,best,_,_,hb=>by simpa using hb
 | k::l,pre,best,h1,h2,hb=>by
  rw[List.foldl_cons]
  have hk:k∈on:=h2 k List.mem_cons_self
  rw[show pre++k::l=(pre++[k])++l by simp]
  refine oA h ha ea l (pre++[k]) _ (fun x hx=>?_) (fun x hx=>h2 x (List.mem_cons_of_mem _ hx)) ?_
  ·rcases List.mem_append.1 hx with hx|hx
   ·exact h1 x hx
   ·rw[List.mem_singleton] at hx;exact hx ▸ hk
  unfold cH
  by_cases hka:k=a
  ·rw[if_pos hka]
   subst hka
   cases best with
   | none=>
    simp only at hb ⊢
    intro x hx
    rcases List.mem_append.1 hx with hx|hx
    ·exact hb x hx
    ·exact List.mem_singleton.1 hx
   | some b=>
    simp only at hb ⊢
    refine⟨List.mem_append_left _ hb.1,hb.2.1,fun x hx hxa=>?_⟩
    rcases List.mem_append.1 hx with hx|hx
    ·exact hb.2.2 x hx hxa
    ·exact absurd (List.mem_singleton.1 hx) hxa
  ·rw[if_neg hka]
   cases best with
   | none=>
    simp only at hb ⊢
    refine⟨List.mem_append_right _ (List.mem_singleton.2 rfl),hka,fun x hx hxa=>?_⟩
    rcases List.mem_append.1 hx with hx|hx
    ·exact absurd (hb x hx) hxa
    ·rw[List.mem_singleton.1 hx]
     right
     exact⟨by simp only[T,dot,cross];grind,Int.le_refl _⟩
   | some b=>
    simp only at hb ⊢
    obtain⟨b1,b2,b3⟩:=hb
    have hbon:=h1 b b1
    obtain⟨f,hf⟩:=ea
    by_cases hbt:mU n P a b k=true
    ·rw[if_pos hbt]
     simp only
     refine⟨List.mem_append_right _ (List.mem_singleton.2 rfl),hka,fun x hx hxa=>?_⟩
     have sw:=Ge (n:=n) (wy P a b) (wy P a k)
     simp only[mU,Bool.or_eq_true,Bool.and_eq_true,decide_eq_true_eq] at hbt
     rcases List.mem_append.1 hx with hx|hx
     ·have hxon:=h1 x hx
      have c:=b3 x hx hxa
      have nn1:0<=T n (wy P a k) (wy P a b):=by omega
      have nn2:0<=T n (wy P a b) (wy P a x):=by omega
      obtain⟨t1,t2⟩:=yg h.nz (h.pl a ha k hk) (h.pl a ha b hbon) (h.pl a ha x hxon) (hf k hk hka) (hf b hbon b2) (hf x hxon hxa) nn1 nn2
      rcases Int.lt_or_eq_of_le t1 with hlt|heq
      ·exact .inl hlt
      ·right
       refine⟨heq.symm,?_⟩
       have:¬ (0<T n (wy P a k) (wy P a b)\/0<T n (wy P a b) (wy P a x)):=fun hh=>by have:=t2 hh;omega
       omega
     ·rw[List.mem_singleton.1 hx]
      right
      exact⟨by simp only[T,dot,cross];grind,Int.le_refl _⟩
    ·rw[if_neg hbt]
     simp only
     refine⟨List.mem_append_left _ b1,b2,fun x hx hxa=>?_⟩
     rcases List.mem_append.1 hx with hx|hx
     ·exact b3 x hx hxa
     ·rw[List.mem_singleton.1 hx]
      simp only[mU,Bool.or_eq_true,Bool.and_eq_true,decide_eq_true_eq] at hbt
      omega
theorem sC(h:Flat n P on){a:Nat}(ha:a∈on)(ea:jz P on a)(h2:∃ x∈on,x≠a):∃ b,on.foldl (cH n P a) none=some b/\Side n P on a b:=by
 have key:=oA h ha ea on [] none (by simp) (fun x hx=>hx) (by simp)
 cases hr:on.foldl (cH n P a) none with
 | none=>
  rw[hr] at key
  obtain⟨x,hx,hxa⟩:=h2
  exact absurd (key x (by simpa using hx)) hxa
 | some b=>
  rw[hr] at key
  simp only[List.nil_append] at key
  obtain⟨k1,k2,k3⟩:=key
  refine⟨b,rfl,k1,k2,fun x hx=>?_⟩
  by_cases hxa:x=a
  ·subst hxa
   have e:wy P x x=zero:=by simp[wy,sub,zero]
   have:T n (wy P x b) (wy P x x)=0:=by rw[e];simp[T,dot,cross,zero]
   have hp:=od (wy P x b)
   have e2:dot (wy P x x) (wy P x b)=0:=by rw[e];simp[dot,zero]
   rw[this,e2]
   exact⟨Int.le_refl _,fun _=>⟨Int.le_refl _,hp⟩⟩
  ·have c:=k3 x hx hxa
   refine⟨by omega,fun t0=>?_⟩
   have c2:dot (wy P a x) (wy P a x)<=dot (wy P a b) (wy P a b):=by omega
   obtain⟨f,hf⟩:=ea
   have hx0:=fj h.nz (h.pl a ha b k1) (h.pl a ha x hx) t0
   have p:=Fh hx0 f
   have fb:=hf b k1 k2
   have fx:=hf x hx hxa
   have hbp:=bQ (oM h ha k1 k2)
   have q1:dot f (wy P a b)*dot (wy P a x) (wy P a b)=dot f (wy P a x)*dot (wy P a b) (wy P a b):=by
    have p1:=congrArg V.x p;have p2:=congrArg V.y p;have p3:=congrArg V.z p
    simp only[smul] at p1 p2 p3
    generalize dot f (wy P a b)=A at *
    generalize dot f (wy P a x)=B at *
    simp only[dot];grind
   have hpos:0<dot (wy P a x) (wy P a b):=qt fb (by rw[q1];exact Int.mul_pos fx hbp)
   refine⟨Int.le_of_lt hpos,?_⟩
   have q2:dot (wy P a b) (wy P a b)*dot (wy P a x) (wy P a x)=dot (wy P a x) (wy P a b)*dot (wy P a x) (wy P a b):=by
    have p:=Fh hx0 (wy P a b)
    have p1:=congrArg V.x p;have p2:=congrArg V.y p;have p3:=congrArg V.z p
    simp only[smul] at p1 p2 p3
    simp only[dot] at *;grind
   generalize dot (wy P a b) (wy P a b)=B at *
   generalize dot (wy P a x) (wy P a x)=X at *
   generalize dot (wy P a x) (wy P a b)=D at *
   rcases Int.lt_or_le B D with hlt|hle
   ·exfalso
    have a1:B*X<=B*B:=Int.mul_le_mul_of_nonneg_left c2 (Int.le_of_lt hbp)
    have a2:B*B<B*D:=Int.mul_lt_mul_of_pos_left hlt hbp
    have a3:B*D<D*D:=Int.mul_lt_mul_of_pos_right hlt hpos
    omega
   ·exact hle
end poly
open V
def az(a b:V):Prop:=a.x<b.x\/a.x=b.x/\(a.y<b.y\/a.y=b.y/\a.z<b.z)
theorem zx{P:Nat->V}{on:List Nat}{a:Nat}(h:∀ x∈on,x≠a->az (P a) (P x)):jz P on a:=by
 obtain⟨N1,p1,b1⟩:=gv (fun x=>(wy P a x).y) on
 obtain⟨N2,p2,b2⟩:=gv (fun x=>(wy P a x).z) on
 refine⟨⟨(N1+N2)*(N1+N2)+(N1+N2),N1+N2,1⟩,fun x hx hxa=>?_⟩
 have c1:=b1 x hx
 have c2:=b2 x hx
 have hl:=h x hx hxa
 simp only[wy,sub,az,dot] at *
 generalize hX:(P x).x-(P a).x=X at *
 generalize hY:(P x).y-(P a).y=Y at *
 generalize hZ:(P x).z-(P a).z=Z at *
 generalize hN:N1+N2=N
 have hN0:0<N:=by omega
 have hY1:-N+1<=Y:=by omega
 have hY2:Y<=N-1:=by omega
 have hZ1:-N+1<=Z:=by omega
 have m1:N*(-N+1)<=N*Y:=Int.mul_le_mul_of_nonneg_left hY1 (Int.le_of_lt hN0)
 have m2:N*(-N+1)=-(N*N)+N:=by grind
 have hNN:0<N*N:=Int.mul_pos hN0 hN0
 rcases hl with hl|⟨h1,hl|⟨h2,hl⟩⟩
 ·have hX1:1<=X:=by omega
  have m3:(N*N+N)*1<=(N*N+N)*X:=Int.mul_le_mul_of_nonneg_left hX1 (by omega)
  omega
 ·have hX0:X=0:=by omega
  have hY3:1<=Y:=by omega
  have m3:N*1<=N*Y:=Int.mul_le_mul_of_nonneg_left hY3 (by omega)
  subst hX0
  simp only[Int.mul_zero]
  omega
 ·have hX0:X=0:=by omega
  have hY0:Y=0:=by omega
  subst hX0;subst hY0
  simp only[Int.mul_zero]
  omega
section poly
variable{n:V}{P:Nat->V}{on:List Nat}
theorem Chain.head{S:Nat->Nat->Prop}{a c:Nat}{l:List Nat}(h:Chain S a c l):∃ l',l=c::l':=by
 cases h<;>exact⟨_,rfl⟩
theorem Chain.pairs{S:Nat->Nat->Prop}{a:Nat}:∀ {c:Nat} {l:List Nat},Chain S a c l->∀ i x,l[i]?=some x->∃ y,(l++[a])[i+1]?=some y/\S x y
 | c,_,.done h,i,x,hx=>by
  cases i with
  | zero=>simp at hx;subst hx;exact⟨a,by simp,h⟩
  | succ i=>simp at hx
 | c,_,.step (y:=y) (l:=l) h hne k,i,x,hx=>by
  cases i with
  | zero=>
   simp at hx;subst hx
   obtain⟨l',rfl⟩:=k.head
   exact⟨y,by simp,h⟩
  | succ i=>
   obtain⟨z,h1,h2⟩:=Chain.pairs k i x (by simpa using hx)
   exact⟨z,by simpa using h1,h2⟩
theorem xz(h:Flat n P on){a:Nat}(ha:a∈on)(ea:jz P on a)(h3:∀ c∈on,∃ x∈on,x≠c) :
  ∃ l,Chain (Side n P on) a a l/\l.Nodup/\(∀ z∈l,z∈on/\jz P on z)/\∀ z∈on,jz P on z->z∈l:=by
 have hnext:∀ c∈on,jz P on c->∃ b,Side n P on c b:=fun c hc ec=>by
  obtain⟨b,_,hb⟩:=sC h hc ec (h3 c hc)
  exact⟨b,hb⟩
 obtain⟨c,hs⟩:=hnext a ha ea
 have ec:=hs.ext h ha
 obtain⟨l,k1,k2,k3,k4⟩:=walk h ha ea hnext hs.mem ec hs.ne
 refine⟨a::l,.step hs hs.ne k1,List.nodup_cons.2 ⟨fun hm=>(k2 a hm).2.2.1 rfl,?_⟩,fun z hz=>?_,fun z hz ez=>?_⟩
 ·refine List.Pairwise.imp (fun{x y} hxy e=>?_) k4
  subst e
  have:T n (wy P a x) (wy P a x)=0:=by simp only[T,dot,cross];grind
  omega
 ·rcases List.mem_cons.1 hz with rfl|hz
  ·exact⟨ha,ea⟩
  ·exact⟨(k2 z hz).1,(k2 z hz).2.1⟩
 ·by_cases hza:z=a
  ·subst hza;exact List.mem_cons_self
  ·refine List.mem_cons_of_mem _ ?_
   have h0:=(hs.all z hz).1
   rcases Int.lt_or_eq_of_le h0 with hp|he
   ·exact k3 z hz ez hza hp
   ·have:=jz.ray h ha hs.mem hz ea ec ez hs.ne hza he.symm
    subst this
    obtain⟨l',rfl⟩:=k1.head
    exact List.mem_cons_self
end poly
def sg(x:Int):Int:=if x<0 then -1 else if 0<x then 1 else 0
theorem qJ(a b:Int):sg a*sg b=sg (a*b):=by
 rcases Int.lt_trichotomy a 0 with h|h|h<;>rcases Int.lt_trichotomy b 0 with k|k|k
 ·have:=Int.mul_pos_of_neg_of_neg h k;simp[sg,h,k,this,Int.not_lt.2 (Int.le_of_lt this)]
 ·subst k;simp[sg]
 ·have:=Int.mul_neg_of_neg_of_pos h k;simp[sg,h,k,this,Int.not_lt.2 (Int.le_of_lt k)]
 ·subst h;simp[sg]
 ·subst h;simp[sg]
 ·subst h;simp[sg]
 ·have:=Int.mul_neg_of_pos_of_neg h k;simp[sg,h,k,this,Int.not_lt.2 (Int.le_of_lt h)]
 ·subst k;simp[sg]
 ·have:=Int.mul_pos h k;simp[sg,h,k,this,Int.not_lt.2 (Int.le_of_lt h),Int.not_lt.2 (Int.le_of_lt k),Int.not_lt.2 (Int.le_of_lt this)]
theorem jh{x:Int}(h:0<x):sg x=1:=by simp[sg,h,Int.not_lt.2 (Int.le_of_lt h)]
theorem uj{x:Int}(h:x<0):sg x=-1:=by simp[sg,h]
def sa(n c:V):Int:=if n.x≠0 then sg n.x*sg c.x else if n.y≠0 then sg n.y*sg c.y else if n.z≠0 then sg n.z*sg c.z else 0
theorem qK{a b p:Int}(hp:0<p){q:Int}(hq:0<q)(h:a*p=q*b):sg a=sg b:=by
 have h1:sg (a*p)=sg a:=by rw[<-qJ,jh hp];simp
 have h2:sg (q*b)=sg b:=by rw[<-qJ,jh hq];simp
 rw[<-h1,<-h2,h]
theorem yM{n c:V}(hn:n≠zero)(h:cross n c=zero):sa n c=sg (dot n c):=by
 have h1:=congrArg V.x h;have h2:=congrArg V.y h;have h3:=congrArg V.z h
 simp only[cross,zero] at h1 h2 h3
 have hp:=bQ hn
 have e1:n.x*c.x*dot n n=n.x*n.x*dot n c:=by simp only[dot];grind
 have e2:n.y*c.y*dot n n=n.y*n.y*dot n c:=by simp only[dot];grind
 have e3:n.z*c.z*dot n n=n.z*n.z*dot n c:=by simp only[dot];grind
 unfold sa
 split
 ·rename_i k;rw[qJ];exact qK hp (xQ k) e1
 ·split
  ·rename_i k;rw[qJ];exact qK hp (xQ k) e2
  ·split
   ·rename_i k;rw[qJ];exact qK hp (xQ k) e3
   ·rename_i k1 k2 k3
    exact absurd (V.ext' (by simpa [zero] using k1) (by simpa [zero] using k2) (by simpa [zero] using k3)) hn
theorem rK{n u v:V}(hu:dot n u=0)(hv:dot n v=0):cross n (cross u v)=zero:=by
 simp only[dot] at hu hv
 apply V.ext'<;>simp only[cross,zero]<;>grind
open V
def br(P:Nat->V)(N:Nat)(n:V)(d:Int):List Nat:=(List.range N).filter fun k=>decide (dot n (P k)=d)
def qZ(P:Nat->V)(N:Nat)(n:V)(d:Int):Prop:=(∀ k,k<N->dot n (P k)<=d)/\∃ k,k<N/\dot n (P k)<d
def er(P:Nat->V)(i j k:Nat):V:=cross (wy P i j) (wy P i k)
def bi(v:V):Nat:=Nat.gcd (Nat.gcd v.x.natAbs v.y.natAbs) v.z.natAbs
def bA(v:V):V:=⟨v.x/bi v,v.y/bi v,v.z/bi v⟩
structure IsF(P:Nat->V)(N:Nat)(n:V)(d:Int):Prop where
 ex:∃ i j k,i<j/\j<k/\k<N/\er P i j k≠zero/\(n=bA (er P i j k)\/n=neg (bA (er P i j k)))/\d=dot n (P i)
 supp:qZ P N n d
theorem jJ{v:V}(h:v≠zero):0<bi v:=by
 rcases Nat.eq_zero_or_pos (bi v) with e|p
 ·exfalso
  unfold bi at e
  rw[Nat.gcd_eq_zero_iff,Nat.gcd_eq_zero_iff] at e
  exact h (V.ext' (by simp[zero];omega) (by simp[zero];omega) (by simp[zero];omega))
 ·exact p
theorem iE(v:V):v=smul (bi v) (bA v):=by
 have d1:(bi v:Int) ∣ v.x:=Int.ofNat_dvd_left.2 (Nat.dvd_trans (Nat.gcd_dvd_left _ _) (Nat.gcd_dvd_left _ _))
 have d2:(bi v:Int) ∣ v.y:=Int.ofNat_dvd_left.2 (Nat.dvd_trans (Nat.gcd_dvd_left _ _) (Nat.gcd_dvd_right _ _))
 have d3:(bi v:Int) ∣ v.z:=Int.ofNat_dvd_left.2 (Nat.gcd_dvd_right _ _)
 apply V.ext'
 ·exact(Int.mul_ediv_cancel' d1).symm
 ·exact(Int.mul_ediv_cancel' d2).symm
 ·exact(Int.mul_ediv_cancel' d3).symm
theorem zy(k:Nat)(v:V):bi (smul k v)=k*bi v:=by
 simp only[bi,smul,Int.natAbs_mul,Int.natAbs_natCast]
 rw[Nat.gcd_mul_left,Nat.gcd_mul_left]
theorem rU{v:V}(h:v≠zero):bi (bA v)=1:=by
 have p:=jJ h
 have e:=zy (bi v) (bA v)
 rw[<-iE v] at e
 exact(Nat.eq_of_mul_eq_mul_left p (by omega)).symm
theorem vo(v:V):bi (neg v)=bi v:=by simp[bi,neg]
theorem BY(v:V):bA (neg v)=neg (bA v):=by
 have e:=iE v
 unfold bA
 rw[vo]
 have d1:(bi v:Int) ∣ v.x:=Int.ofNat_dvd_left.2 (Nat.dvd_trans (Nat.gcd_dvd_left _ _) (Nat.gcd_dvd_left _ _))
 have d2:(bi v:Int) ∣ v.y:=Int.ofNat_dvd_left.2 (Nat.dvd_trans (Nat.gcd_dvd_left _ _) (Nat.gcd_dvd_right _ _))
 have d3:(bi v:Int) ∣ v.z:=Int.ofNat_dvd_left.2 (Nat.gcd_dvd_right _ _)
 simp only[neg,Int.neg_ediv_of_dvd d1,Int.neg_ediv_of_dvd d2,Int.neg_ediv_of_dvd d3]
theorem pa{v:V}(h:v≠zero):bA v≠zero:=fun e=>h (by rw[iE v,e];apply V.ext'<;>simp[smul,zero])
section
variable{P:Nat->V}{N:Nat}
theorem IsF.nz{n:V}{d:Int}(h:IsF P N n d):n≠zero/\bi n=1:=by
 obtain⟨i,j,k,_,_,_,h1,h2|h2,_⟩:=h.ex
 ·subst h2;exact⟨pa h1,rU h1⟩
 ·subst h2
  refine⟨fun e=>pa h1 ?_,by rw[vo];exact rU h1⟩
  have e1:=congrArg V.x e;have e2:=congrArg V.y e;have e3:=congrArg V.z e
  simp only[neg,zero] at e1 e2 e3
  exact V.ext' (by simp only[zero];omega) (by simp only[zero];omega) (by simp only[zero];omega)
theorem ca{n:V}{d:Int}{k:Nat}:k∈br P N n d↔k<N/\dot n (P k)=d:=by simp[br]
theorem nh(n:V)(i k:Nat):dot n (wy P i k)=dot n (P k)-dot n (P i):=by simp only[dot,wy,sub];grind
theorem IsF.three{n:V}{d:Int}(h:IsF P N n d):∃ i j k,i<j/\j<k/\k<N/\i∈br P N n d/\j∈br P N n d/\k∈br P N n d/\er P i j k≠zero:=by
 obtain⟨i,j,k,hij,hjk,hk,h1,h2,h3⟩:=h.ex
 have g:=jJ h1
 have e:=iE (er P i j k)
 have t1:dot (er P i j k) (wy P i j)=0:=by simp only[er,dot,cross];grind
 have t2:dot (er P i j k) (wy P i k)=0:=by simp only[er,dot,cross];grind
 have key:∀ v:V,dot (er P i j k) v=0->dot n v=0:=fun v hv=>by
  rw[e] at hv
  have:(bi (er P i j k):Int)*dot (bA (er P i j k)) v=0:=by rw[<-hv];simp only[dot,smul];grind
  have h0:=bq (by omega) this
  rcases h2 with h2|h2
  ·rw[h2];exact h0
  ·rw[h2]
   have:dot (neg (bA (er P i j k))) v=- dot (bA (er P i j k)) v:=by simp only[dot,neg];grind
   omega
 have k1:=key _ t1
 have k2:=key _ t2
 rw[nh] at k1 k2
 exact⟨i,j,k,hij,hjk,hk,ca.2 ⟨by omega,by omega⟩,ca.2 ⟨by omega,by omega⟩,ca.2 ⟨hk,by omega⟩,h1⟩
theorem IsF.flat(hl:∀ i j,i<j->j<N->az (P i) (P j)){n:V}{d:Int}(h:IsF P N n d):Flat n P (br P N n d):=by
 refine⟨h.nz.1,fun x hx y hy=>?_,fun x hx y hy e=>?_⟩
 ·have a:=(ca.1 hx).2;have b:=(ca.1 hy).2
  rw[nh];omega
 ·have a:=(ca.1 hx).1;have b:=(ca.1 hy).1
  rcases Nat.lt_trichotomy x y with c|c|c
  ·have:=hl x y c b;rw[e] at this;simp only[az] at this;omega
  ·exact c
  ·have:=hl y x c a;rw[e] at this;simp only[az] at this;omega
theorem IsF.left(hl:∀ i j,i<j->j<N->az (P i) (P j)){n:V}{d:Int}(h:IsF P N n d){a b:Nat}(ha:a∈br P N n d)(hs:Side n P (br P N n d) a b) :
  ∃ x∈br P N n d,0<T n (wy P a b) (wy P a x):=by
 obtain⟨i,j,k,hij,hjk,hk,mi,mj,mk,ht⟩:=h.three
 have F:=h.flat hl
 have key:∀ x∈br P N n d,0<T n (wy P a b) (wy P a x)\/cross (wy P a b) (wy P a x)=zero:=fun x hx=>by
  rcases Int.lt_or_eq_of_le (hs.all x hx).1 with h1|h1
  ·exact .inl h1
  ·exact .inr (fj F.nz (F.pl a ha b hs.mem) (F.pl a ha x hx) h1.symm)
 rcases key i mi with h1|h1
 ·exact⟨i,mi,h1⟩
 rcases key j mj with h2|h2
 ·exact⟨j,mj,h2⟩
 rcases key k mk with h3|h3
 ·exact⟨k,mk,h3⟩
 exfalso
 apply ht
 have hb:=bQ (oM F ha hs.mem hs.ne)
 have p1:=Fh h1 (wy P a b);have p2:=Fh h2 (wy P a b);have p3:=Fh h3 (wy P a b)
 have w1:wy P i j=sub (wy P a j) (wy P a i):=by apply V.ext'<;>simp only[wy,sub]<;>omega
 have w2:wy P i k=sub (wy P a k) (wy P a i):=by apply V.ext'<;>simp only[wy,sub]<;>omega
 unfold er
 rw[w1,w2]
 generalize wy P a b=e at *
 generalize wy P a i=u at *
 generalize wy P a j=v at *
 generalize wy P a k=w at *
 generalize dot e u=A at *
 generalize dot e v=B at *
 generalize dot e w=C at *
 generalize dot e e=D at *
 have q1:=congrArg V.x p1;have q2:=congrArg V.y p1;have q3:=congrArg V.z p1
 have r1:=congrArg V.x p2;have r2:=congrArg V.y p2;have r3:=congrArg V.z p2
 have s1:=congrArg V.x p3;have s2:=congrArg V.y p3;have s3:=congrArg V.z p3
 simp only[smul] at q1 q2 q3 r1 r2 r3 s1 s2 s3
 have hDD:0<D*D:=Int.mul_pos hb hb
 apply V.ext'<;>simp only[cross,sub,zero]<;>refine bq hDD ?_<;>grind
end
open V
section
variable{P:Nat->V}{N:Nat}
end
open V
section
variable{n:V}{P:Nat->V}{on:List Nat}
theorem Side.start(h:Flat n P on){a b:Nat}(ha:a∈on)(hs:Side n P on a b):jz P on a:=by
 obtain⟨K,hK,hb⟩:=gv (fun x=>dot (wy P a b) (wy P a x)) on
 refine⟨add (smul K (cross n (wy P a b))) (wy P a b),fun x hx hxa=>?_⟩
 have e:dot (add (smul K (cross n (wy P a b))) (wy P a b)) (wy P a x)=K*T n (wy P a b) (wy P a x)+dot (wy P a b) (wy P a x):=by simp only[T,dot,add,smul,cross];grind
 rw[e]
 obtain⟨h1,h2⟩:=hs.all x hx
 have c:=hb x hx
 rcases Int.lt_or_eq_of_le h1 with k|k
 ·have:K*1<=K*T n (wy P a b) (wy P a x):=Int.mul_le_mul_of_nonneg_left (by omega) (Int.le_of_lt hK)
  omega
 ·rw[<-k,Int.mul_zero,Int.zero_add]
  obtain⟨q1,q2⟩:=h2 k.symm
  have sw:dot (wy P a b) (wy P a x)=dot (wy P a x) (wy P a b):=by simp only[dot];grind
  rw[sw]
  rcases Int.lt_or_eq_of_le q1 with p|p
  ·exact p
  ·exfalso
   have c0:=fj h.nz (h.pl a ha b hs.mem) (h.pl a ha x hx) k.symm
   have pr:=Fh c0 (wy P a b)
   rw[sw,<-p] at pr
   have hp:=bQ (oM h ha hs.mem hs.ne)
   apply oM h ha hx hxa
   have p1:=congrArg V.x pr;have p2:=congrArg V.y pr;have p3:=congrArg V.z pr
   simp only[smul,Int.zero_mul] at p1 p2 p3
   exact V.ext' (bq hp p1) (bq hp p2) (bq hp p3)
end
theorem nP{α:Type}{r:α->α->Prop}(irr:∀ a,¬ r a a)(asy:∀ a b,r a b->¬ r b a):∀ {l l':List α},l.Pairwise r->l'.Pairwise r->(∀ x,x∈l↔x∈l')->l=l'
 | [],[],_,_,_=>rfl
 | [],b::l',_,_,h=>absurd ((h b).2 List.mem_cons_self) (by simp)
 | a::l,[],_,_,h=>absurd ((h a).1 List.mem_cons_self) (by simp)
 | a::l,b::l',h1,h2,h=>by
  obtain⟨k1,k2⟩:=List.pairwise_cons.1 h1
  obtain⟨k3,k4⟩:=List.pairwise_cons.1 h2
  have e:a=b:=by
   rcases List.mem_cons.1 ((h a).1 List.mem_cons_self) with e|m
   ·exact e
   ·rcases List.mem_cons.1 ((h b).2 List.mem_cons_self) with e|m'
    ·exact e.symm
    ·exact absurd (k1 b m') (asy _ _ (k3 a m))
  subst e
  rw[nP irr asy k2 k4 fun x=>?_]
  constructor
  ·intro hx
   rcases List.mem_cons.1 ((h x).1 (List.mem_cons_of_mem _ hx)) with e|m
   ·subst e;exact absurd (k1 x hx) (irr x)
   ·exact m
  ·intro hx
   rcases List.mem_cons.1 ((h x).2 (List.mem_cons_of_mem _ hx)) with e|m
   ·subst e;exact absurd (k3 x hx) (irr x)
   ·exact m
theorem nC(a:V):¬ az a a:=by simp only[az];omega
theorem sd(a b:V):az a b->¬ az b a:=by simp only[az];omega
theorem jP{a b c:V}:az a b->az b c->az a c:=by simp only[az];omega
theorem nD{a b:V}(h:a≠b):az a b\/az b a:=by
 simp only[az]
 rcases Int.lt_trichotomy a.x b.x with h1|h1|h1<;>rcases Int.lt_trichotomy a.y b.y with h2|h2|h2<;>rcases Int.lt_trichotomy a.z b.z with h3|h3|h3<;>first|omega|exact absurd (V.ext' h1 h2 h3) h
structure Facets(P:Nat->V)(N:Nat)(L:List (V×Int)):Prop where
 ord:L.Pairwise (fun a b=>az a.1 b.1)
 mem:∀ q,q∈L↔IsF P N q.1 q.2
theorem Facets.eq{P:Nat->V}{N:Nat}{L L':List (V×Int)}(h:Facets P N L)(h':Facets P N L'):L=L':=
 nP (r:=fun a b=>az a.1 b.1) (fun a=>nC a.1) (fun a b=>sd a.1 b.1) h.ord h'.ord fun x=>(h.mem x).trans (h'.mem x).symm
section
variable{P:Nat->V}{N:Nat}{n:V}{d:Int}
theorem IsF.d_eq{d':Int}(h:IsF P N n d)(h':IsF P N n d'):d=d':=by
 obtain⟨i,_,_,hij,hjk,hk,_,_,e⟩:=h.ex
 obtain⟨i',_,_,hij',hjk',hk',_,_,e'⟩:=h'.ex
 have h1:=h.supp.1 i' (by omega)
 have h2:=h'.supp.1 i (by omega)
 omega
def cb(P:Nat->V)(N:Nat)(n:V)(d:Int)(l:List Nat):Prop:=∃ a,(br P N n d).head?=some a/\Chain (Side n P (br P N n d)) a a l
theorem BR:(br P N n d).Pairwise (·<·):=List.Pairwise.sublist List.filter_sublist List.pairwise_lt_range
theorem IsF.head(hl:∀ i j,i<j->j<N->az (P i) (P j))(h:IsF P N n d):∃ a,(br P N n d).head?=some a/\a∈br P N n d/\jz P (br P N n d) a/\(∀ x∈br P N n d,a<=x)/\∀ c∈br P N n d,∃ x∈br P N n d,x≠c:=by
 obtain⟨i,j,k,hij,hjk,hk,mi,mj,mk,ht⟩:=h.three
 cases hon:br P N n d with
 | nil=>rw[hon] at mi;simp at mi
 | cons a l=>
  have ho:(a::l).Pairwise (·<·):=by rw[<-hon];exact BR
  rw[List.pairwise_cons] at ho
  have hle:∀ x∈a::l,a<=x:=fun x hx=>by
   rcases List.mem_cons.1 hx with e|m
   ·omega
   ·exact Nat.le_of_lt (ho.1 x m)
  refine⟨a,rfl,List.mem_cons_self,zx fun x hx hxa=>?_,hle,fun c hc=>?_⟩
  ·have:=hle x hx
   rw[<-hon] at hx
   exact hl a x (by omega) (ca.1 hx).1
  ·rw[hon] at mi mj
   by_cases e:i=c
   ·exact⟨j,mj,by omega⟩
   ·exact⟨i,mi,e⟩
theorem IsF.poly(hl:∀ i j,i<j->j<N->az (P i) (P j))(h:IsF P N n d) :
  ∃ l,cb P N n d l/\l.Nodup/\∀ z,z∈l↔z∈br P N n d/\jz P (br P N n d) z:=by
 obtain⟨a,h1,h2,h3,h4,h5⟩:=h.head hl
 obtain⟨l,k1,k2,k3,k4⟩:=xz (h.flat hl) h2 h3 h5
 exact⟨l,⟨a,h1,k1⟩,k2,fun z=>⟨k3 z,fun⟨q1,q2⟩=>k4 z q1 q2⟩⟩
theorem cb.eq(hl:∀ i j,i<j->j<N->az (P i) (P j))(h:IsF P N n d){l l':List Nat}(k:cb P N n d l)(k':cb P N n d l'):l=l':=by
 obtain⟨a,h1,h2⟩:=k
 obtain⟨a',h1',h2'⟩:=k'
 rw[h1] at h1';cases h1'
 obtain⟨b,g1,g2,g3,g4,g5⟩:=h.head hl
 rw[h1] at g1;cases g1
 have F:=h.flat hl
 have key:∀ {c:Nat} {l l':List Nat},c∈br P N n d->Chain (Side n P (br P N n d)) a c l->Chain (Side n P (br P N n d)) a c l'->l=l':=by
  intro c l l' hc k1
  induction k1 generalizing l' with
  | done s=>intro k2;cases k2 with
   | done _=>rfl
   | step s' hne _=>exact absurd (Side.unique F hc s' s) hne
  | step s hne k ih=>intro k2;cases k2 with
   | done s'=>exact absurd (Side.unique F hc s s') hne
   | step s' _ k'=>
    have e:=Side.unique F hc s s'
    subst e
    rw[ih s.mem k']
 exact key g2 h2 h2'
theorem cb.next{l:List Nat}(k:cb P N n d l){i:Nat}(hi:i<l.length):Side n P (br P N n d) (l.getD i 0) (l.getD ((i+1)%l.length) 0):=by
 obtain⟨a,h1,h2⟩:=k
 obtain⟨l',e⟩:=h2.head
 obtain⟨y,q1,q2⟩:=h2.pairs i (l.getD i 0) (by simp[List.getD,List.getElem?_eq_getElem hi])
 rcases Nat.lt_or_ge (i+1) l.length with c|c
 ·rw[List.getElem?_append_left c] at q1
  rw[Nat.mod_eq_of_lt c]
  simp only[List.getD,q1,Option.getD_some]
  exact q2
 ·have ei:i+1=l.length:=by omega
  rw[List.getElem?_append_right (by omega),ei,Nat.sub_self] at q1
  simp at q1
  subst q1
  rw[ei,Nat.mod_self]
  have:l.getD 0 0=a:=by rw[e];rfl
  rw[this];exact q2
end
section
variable{P:Nat->V}{N:Nat}
end
end Geo
end
noncomputable section
namespace Sy
open Go Go.Proofs Geo
abbrev I(n:Int):D:=.int .i64 n
def af(v:V):D:=.st [I v.x,I v.y,I v.z]
def inR(n:Int):Prop:=-9223372036854775808<=n/\n<=9223372036854775807
theorem dX{n:Int}(h:inR n):IntKind.wrap .i64 n=n:=by
 obtain⟨h1,h2⟩:=h
 simp only[IntKind.wrap,IntKind.signed,IntKind.bits]
 first
  | omega
  | (simp;omega)
theorem av{a b:Int}(h:inR (a+b)):D.bin .add (I a) (I b)=some (I (a+b)):=by simp only[D.bin,if_true,dX h]
theorem cW{a b:Int}(h:inR (a-b)):D.bin .sub (I a) (I b)=some (I (a-b)):=by simp only[D.bin,if_true,dX h]
theorem cE{a b:Int}(h:inR (a*b)):D.bin .mul (I a) (I b)=some (I (a*b)):=by simp only[D.bin,if_true,dX h]
theorem ah{a b:Int}:D.bin .lss (I a) (I b)=some (.bool (decide (a<b))):=by simp only[D.bin,if_true]
theorem pm{a b:Int}:D.bin .leq (I a) (I b)=some (.bool (decide (a<=b))):=by simp only[D.bin,if_true]
theorem bS{a b:Int}:D.bin .gtr (I a) (I b)=some (.bool (decide (a>b))):=by simp only[D.bin,if_true]
theorem fe{a b:Int}:D.bin .geq (I a) (I b)=some (.bool (decide (a ≥ b))):=by simp only[D.bin,if_true]
theorem po{a b:Int}(h:b≠0):D.bin .rem (I a) (I b)=some (I (a.tmod b)):=by simp only[D.bin,if_true,h,if_false]
theorem rD{a b:Int}(h:b≠0)(hr:inR (a.tdiv b)):D.bin .quo (I a) (I b)=some (I (a.tdiv b)):=by simp only[D.bin,if_true,h,if_false,dX hr]
theorem mJ{a:Int}(h:inR (-a)):D.un .neg (I a)=some (I (-a)):=by simp only[D.un,Int.zero_sub,dX h]
theorem bN{b:Bool}:D.un .not (.bool b)=some (.bool (!b)):=rfl
theorem ae{b:Bool}:D.truth (.bool b)=some b:=rfl
theorem yQ{a b:Int}:D.max2 (I a) (I b)=some (I (max a b)):=by
 simp only[D.max2];congr 2
 split<;>omega
theorem IY{a b:Int}:D.min2 (I a) (I b)=some (I (min a b)):=by
 simp only[D.min2];congr 2
 split<;>omega
theorem bk{a b:Int}:D.beq (I a) (I b)=decide (a=b):=by simp[D.beq]
theorem ma(v:V):D.get (af v) [0]=some (I v.x):=rfl
theorem mb(v:V):D.get (af v) [1]=some (I v.y):=rfl
theorem mc(v:V):D.get (af v) [2]=some (I v.z):=rfl
theorem iV(x y z:Int):D.st [D.int .i64 x,D.int .i64 y,D.int .i64 z]=af ⟨x,y,z⟩:=rfl
def bd(k:Int)(v:V):Prop:=(-k<=v.x/\v.x<=k)/\(-k<=v.y/\v.y<=k)/\(-k<=v.z/\v.z<=k)
theorem eQ{a b A B:Int}(ha:-A<=a/\a<=A)(hb:-B<=b/\b<=B):-(A*B)<=a*b/\a*b<=A*B:=by
 have hA:0<=A:=by omega
 have hB:0<=B:=by omega
 have h1:(a*b).natAbs<=(A*B).natAbs:=by
  rw[Int.natAbs_mul,Int.natAbs_mul]
  exact Nat.mul_le_mul (by omega) (by omega)
 have h2:0<=A*B:=Int.mul_nonneg hA hB
 omega
theorem kV{A B:Int}{u v:V}(hu:bd A u)(hv:bd B v):bd (A+B) (u.sub v):=by
 simp only[bd,V.sub] at *;omega
theorem kU{A:Int}{u:V}(hu:bd A u):bd A u.neg:=by
 simp only[bd,V.neg] at *;omega
theorem fL{A B:Int}{u v:V}(hu:bd A u)(hv:bd B v):bd (2*(A*B)) (V.cross u v):=by
 have:=eQ hu.1 hv.1;have:=eQ hu.1 hv.2.1;have:=eQ hu.1 hv.2.2
 have:=eQ hu.2.1 hv.1;have:=eQ hu.2.1 hv.2.1;have:=eQ hu.2.1 hv.2.2
 have:=eQ hu.2.2 hv.1;have:=eQ hu.2.2 hv.2.1;have:=eQ hu.2.2 hv.2.2
 simp only[bd,V.cross];omega
theorem Gz{A B:Int}{u v:V}(hu:bd A u)(hv:bd B v):-(3*(A*B))<=V.dot u v/\V.dot u v<=3*(A*B):=by
 have:=eQ hu.1 hv.1;have:=eQ hu.2.1 hv.2.1;have:=eQ hu.2.2 hv.2.2
 simp only[V.dot];omega
theorem u9{A B:Int}{u v:V}(hu:bd A u)(hv:bd B v)(h:3*(A*B)<=9223372036854775807) :
  inR (u.x*v.x)/\inR (u.y*v.y)/\inR (u.z*v.z)/\inR (u.x*v.x+u.y*v.y)/\inR (u.x*v.x+u.y*v.y+u.z*v.z):=by
 have:=eQ hu.1 hv.1;have:=eQ hu.2.1 hv.2.1;have:=eQ hu.2.2 hv.2.2
 simp only[inR];omega
theorem f101{call:Nat->List D->Option D}{A B:Int}{u v:V}(hu:bd A u)(hv:bd B v)(h:3*(A*B)<=9223372036854775807):AP aP call (af u) (af v)=some (I (V.dot u v)):=by
 obtain⟨h1,h2,h3,h4,h5⟩:=u9 hu hv h
 simp only[AP,ma,mb,mc,Option.bind_some,cE h1,cE h2,cE h3,av h4,av h5]
 rfl
theorem A3(n:Nat){A B:Int}{u v:V}(hu:bd A u)(hv:bd B v)(h:3*(A*B)<=9223372036854775807):cA (n+1) 101 [af u,af v]=some (I (V.dot u v)):=by rw[O2];exact f101 hu hv h
theorem wV(n:Nat){A B:Int}{u v:V}(hu:bd A u)(hv:bd B v)(h:3*(A*B)<=9223372036854775807):cA (n+1) 107 [af u,af v]=some (I (V.dot u v)):=by
 obtain⟨h1,h2,h3,h4,h5⟩:=u9 hu hv h
 rw[O7]
 simp only[CU,ma,mb,mc,Option.bind_some,cE h1,cE h2,cE h3,av h4,av h5]
 rfl
theorem pF{A B:Int}{u v:V}(hu:bd A u)(hv:bd B v)(h:2*(A*B)<=9223372036854775807) :
  inR (u.y*v.z)/\inR (u.z*v.y)/\inR (u.z*v.x)/\inR (u.x*v.z)/\inR (u.x*v.y)/\inR (u.y*v.x)/\inR (u.y*v.z-u.z*v.y)/\inR (u.z*v.x-u.x*v.z)/\inR (u.x*v.y-u.y*v.x):=by
 have:=eQ hu.1 hv.1;have:=eQ hu.1 hv.2.1;have:=eQ hu.1 hv.2.2
 have:=eQ hu.2.1 hv.1;have:=eQ hu.2.1 hv.2.1;have:=eQ hu.2.1 hv.2.2
 have:=eQ hu.2.2 hv.1;have:=eQ hu.2.2 hv.2.1;have:=eQ hu.2.2 hv.2.2
 simp only[inR];omega
theorem Ik(n:Nat){A B:Int}{u v:V}(hu:bd A u)(hv:bd B v)(h:2*(A*B)<=9223372036854775807):cA (n+1) 117 [af u,af v]=some (af (V.cross u v)):=by
 obtain⟨h1,h2,h3,h4,h5,h6,h7,h8,h9⟩:=pF hu hv h
 rw[Pf]
 simp only[C2,ma,mb,mc,Option.bind_some,cE h1,cE h2,cE h3,cE h4,cE h5,cE h6,cW h7,cW h8,cW h9]
 rfl
theorem Io(n:Nat){A B:Int}{u v:V}(hu:bd A u)(hv:bd B v)(h:2*(A*B)<=9223372036854775807):cA (n+1) 123 [af u,af v]=some (af (V.cross u v)):=by
 obtain⟨h1,h2,h3,h4,h5,h6,h7,h8,h9⟩:=pF hu hv h
 rw[Pn]
 simp only[C8,ma,mb,mc,Option.bind_some,cE h1,cE h2,cE h3,cE h4,cE h5,cE h6,cW h7,cW h8,cW h9]
 rfl
theorem QT(n:Nat){A:Int}{u:V}(hu:bd A u)(h:A<=9223372036854775807):cA (n+1) 97 [af u]=some (af u.neg):=by
 have h1:inR (-u.x):=by simp only[bd,inR] at *;omega
 have h2:inR (-u.y):=by simp only[bd,inR] at *;omega
 have h3:inR (-u.z):=by simp only[bd,inR] at *;omega
 rw[TT]
 simp only[JT,ma,mb,mc,Option.bind_some,mJ h1,mJ h2,mJ h3]
 rfl
end Sy
end
noncomputable section
namespace Sy
open Go Go.Proofs Geo
abbrev Bd:=List D->Option (Sum (List D) (Nat×List D))
theorem cd{body:Bd}{s s':List D}{k:Nat×List D->Option D}{y:D}(h:body s=some (.inl s'))(hk:Option.bind (aP body s') k=some y):Option.bind (aP body s) k=some y:=by
 have:aP body s=aP body s':=cJ h
 rw[this];exact hk
theorem ef{body:Bd}{s:List D}{r:Nat×List D}{k:Nat×List D->Option D}{y:D}(h:body s=some (.inr r))(hk:k r=some y):Option.bind (aP body s) k=some y:=by
 have:aP body s=some r:=cl h
 rw[this];exact hk
theorem jR{body:Bd}{s:List D}{r:Nat×List D}{k:Nat×List D->Option D}{y:D}(h:aP body s=some r)(hk:k r=some y):Option.bind (aP body s) k=some y:=by
 rw[h];exact hk
theorem ba{body:Bd}{s0:List D}{k:Nat×List D->Option D}{y:D}(J:Nat->List D->Prop)(n i0:Nat)(hi:i0<=n)(h0:J i0 s0)
  (hs:∀ i,i<n->∀ s,J i s->(∃ s',body s=some (.inl s')/\J (i+1) s')\/∃ r,body s=some (.inr r)/\k r=some y) (he:∀ s,J n s->∃ r,body s=some (.inr r)/\k r=some y):Option.bind (aP body s0) k=some y:=by
 obtain⟨m,hm⟩:∃ m,m=n-i0:=⟨_,rfl⟩
 induction m generalizing i0 s0 with
 | zero=>
  have:i0=n:=by omega
  subst this
  obtain⟨r,h1,h2⟩:=he s0 h0
  exact ef h1 h2
 | succ m ih=>
  rcases hs i0 (by omega) s0 h0 with⟨s',h1,h2⟩|⟨r,h1,h2⟩
  ·exact cd h1 (ih (i0:=i0+1) (by omega) h2 (by omega))
  ·exact ef h1 h2
theorem yO{body:Bd}{s0:List D}(J:Nat->List D->Prop)(Q:Nat×List D->Prop)(n i0:Nat)(hi:i0<=n)(h0:J i0 s0)
  (hs:∀ i,i<n->∀ s,J i s->(∃ s',body s=some (.inl s')/\J (i+1) s')\/∃ r,body s=some (.inr r)/\Q r) (he:∀ s,J n s->∃ r,body s=some (.inr r)/\Q r):∃ r,aP body s0=some r/\Q r:=by
 obtain⟨m,hm⟩:∃ m,m=n-i0:=⟨_,rfl⟩
 induction m generalizing i0 s0 with
 | zero=>
  have:i0=n:=by omega
  subst this
  obtain⟨r,h1,h2⟩:=he s0 h0
  exact⟨r,cl h1,h2⟩
 | succ m ih=>
  rcases hs i0 (by omega) s0 h0 with⟨s',h1,h2⟩|⟨r,h1,h2⟩
  ·obtain⟨r,k1,k2⟩:=ih (i0:=i0+1) (by omega) h2 (by omega)
   exact⟨r,by rw[show aP body s0=aP body s' from cJ h1];exact k1,k2⟩
  ·exact⟨r,cl h1,h2⟩
theorem ao{i n:Nat}(h:i<n):D.idx (I (i:Int)) n=some i:=by
 simp only[D.idx]
 rw[if_pos (by omega)];simp
theorem ar{i:Nat}(h:i<=9223372036854775806):inR ((i:Int)+1):=by simp only[inR];omega
theorem g0{x:D}{l:List D}{d:D}:List.getD (x::l) 0 d=x:=rfl
theorem g1{x y:D}{l:List D}{d:D}:List.getD (x::y::l) 1 d=y:=rfl
theorem g2{x y z:D}{l:List D}{d:D}:List.getD (x::y::z::l) 2 d=z:=rfl
theorem g3{x y z w:D}{l:List D}{d:D}:List.getD (x::y::z::w::l) 3 d=w:=rfl
theorem OY(v:V)(a:Int):D.set (af v) [0] (I a)=some (af ⟨a,v.y,v.z⟩):=rfl
theorem OZ(v:V)(a:Int):D.set (af v) [1] (I a)=some (af ⟨v.x,a,v.z⟩):=rfl
theorem O0(v:V)(a:Int):D.set (af v) [2] (I a)=some (af ⟨v.x,v.y,a⟩):=rfl
theorem F5:D.idx (I 0) 3=some 0:=rfl
theorem F6:D.idx (I 1) 3=some 1:=rfl
theorem F7:D.idx (I 2) 3=some 2:=rfl
theorem N5(n:Nat){A B:Int}{u v:V}(hu:bd A u)(hv:bd B v)(h:A+B<=9223372036854775807):cA (n+1) 154 [af u,af v]=some (af (u.add v)):=by
 have h1:inR (u.x+v.x):=by simp only[bd,inR] at *;omega
 have h2:inR (u.y+v.y):=by simp only[bd,inR] at *;omega
 have h3:inR (u.z+v.z):=by simp only[bd,inR] at *;omega
 rw[PI]
 unfold Ds
 refine cd (s':=[I 1,af ⟨u.x+v.x,u.y,u.z⟩]) ?_ (cd (s':=[I 2,af ⟨u.x+v.x,u.y+v.y,u.z⟩]) ?_ (cd (s':=[I 3,af ⟨u.x+v.x,u.y+v.y,u.z+v.z⟩]) ?_ (ef (r:=(0,[af (u.add v)])) ?_ rfl)))
 ·simp only[g0,g1,ah,Option.bind_some,ae,F5,ma,OY,av h1,av (show inR (0+1) from⟨by decide,by decide⟩)];rfl
 ·simp only[g0,g1,ah,Option.bind_some,ae,F6,mb,OZ,av h2,av (show inR (1+1) from⟨by decide,by decide⟩)];rfl
 ·simp only[g0,g1,ah,Option.bind_some,ae,F7,mc,O0,av h3,av (show inR (2+1) from⟨by decide,by decide⟩)];rfl
 ·simp only[g0,g1,ah,Option.bind_some,ae];rfl
theorem Er(u v:V):u.add v.neg=u.sub v:=by apply V.ext'<;>simp only[V.add,V.neg,V.sub]<;>omega
theorem EB(n:Nat){A B:Int}{u v:V}(hu:bd A u)(hv:bd B v)(h:A+B<=9223372036854775807):cA (n+2) 103 [af u,af v]=some (af (u.sub v)):=by
 have hA:0<=A:=by simp only[bd] at hu;omega
 rw[O3]
 simp only[CO,QT n hv (by omega),Option.bind_some,N5 n hu (kU hv) h,Er]
theorem tn(n:Nat){A B:Int}{u v:V}(hu:bd A u)(hv:bd B v)(h:A+B<=9223372036854775807):cA (n+1) 112 [af u,af v]=some (af (u.sub v)):=by
 have h1:inR (u.x-v.x):=by simp only[bd,inR] at *;omega
 have h2:inR (u.y-v.y):=by simp only[bd,inR] at *;omega
 have h3:inR (u.z-v.z):=by simp only[bd,inR] at *;omega
 rw[Pc]
 simp only[CZ,ma,mb,mc,Option.bind_some,cW h1,cW h2,cW h3]
 rfl
def a7(a b:Int):Int:=if a<b then -1 else if a>b then 1 else 0
theorem NV(n:Nat)(a:Int):cA (n+1) 115 [I a]=some (.bool false):=by
 rw[Pd];simp only[C0,bk];simp
theorem JX(n:Nat)(a b:Int):cA (n+2) 53 [I a,I b]=some (I (a7 a b)):=by
 rw[Tw]
 simp only[Jz,NV,Option.bind_some,ae,Bool.false_eq_true,if_false,ah,bS,a7,decide_eq_true_eq]
 split
 ·rfl
 ·split<;>rfl
def t6:List Int->Int
 | []=>0
 | x::l=>if x=0 then t6 l else x
theorem SZ(n:Nat)(l:List Int)(hl:l.length<=1000):cA (n+1) 52 [.sl (l.map fun x=>I x)]=some (I (t6 l)):=by
 rw[Tv]
 unfold Jy
 simp only[D.asSl,Option.bind_some]
 refine ba (fun i s=>s=[I i]/\t6 l=t6 (l.drop i)) l.length 0 (Nat.zero_le _) ⟨rfl,rfl⟩ (fun i hi s hJ=>?_) (fun s hJ=>?_)
 ·obtain⟨rfl,hz⟩:=hJ
  have hx:(l.map fun x=>I x)[i]?=some (I l[i]):=by simp[hi]
  simp only[g0,List.length_map,ah,Option.bind_some,ae,decide_eq_true_eq,show((i:Int)<(l.length:Int)) from by omega,if_true,ao hi,hx,bk]
  have hd:l.drop i=l[i]::l.drop (i+1):=List.drop_eq_getElem_cons hi
  rw[hd] at hz
  by_cases h0:l[i]=0
  ·left
   refine⟨[I ((i+1:Nat):Int)],?_,rfl,?_⟩
   ·simp only[h0,decide_true,Bool.not_true,Bool.false_eq_true,if_false,av (ar (i:=i) (by omega)),Option.bind_some];rfl
   ·rw[hz];simp[t6,h0]
  ·right
   refine⟨(0,[I l[i]]),?_,?_⟩
   ·simp[h0]
   ·rw[hz];simp[t6,h0]
 ·obtain⟨rfl,hz⟩:=hJ
  refine⟨(1,[]),?_,?_⟩
  ·simp only[g0,List.length_map,ah,Option.bind_some,ae,decide_eq_true_eq,Int.lt_irrefl,if_false]
  ·rw[hz];simp[t6]
end Sy
end
noncomputable section
namespace Sy
open Go Go.Proofs Geo
theorem vp{body:Bd}(h0:∀ a b:Int,b≠0->body [I a,I b]=some (.inl [I b,I (a.tmod b)]))(h1:∀ a:Int,body [I a,I 0]=some (.inr (0,[I a]))) :
  ∀ (m:Nat) (a b:Int),b.natAbs=m->∃ r:Int,aP body [I a,I b]=some (0,[I r])/\r.natAbs=Nat.gcd a.natAbs b.natAbs:=by
 intro m
 induction m using Nat.strongRecOn with
 | _ m ih=>
  intro a b hb
  by_cases hz:b=0
  ·subst hz
   exact⟨a,cl (h1 a),by simp⟩
  ·have hlt:(a.tmod b).natAbs<m:=by
    rw[Int.natAbs_tmod,<-hb]
    exact Nat.mod_lt _ (by omega)
   obtain⟨r,k1,k2⟩:=ih _ hlt b (a.tmod b) rfl
   refine⟨r,?_,?_⟩
   ·rw[show aP body [I a,I b]=aP body [I b,I (a.tmod b)] from cJ (h0 a b hz)];exact k1
   ·rw[k2,Int.natAbs_tmod,Nat.gcd_comm a.natAbs,Nat.gcd_rec b.natAbs a.natAbs,Nat.gcd_comm]
theorem nq{a b:Int}{k:Nat}(ha:a.natAbs<=k)(hb:b.natAbs<=k):Nat.gcd a.natAbs b.natAbs<=k:=by
 rcases Nat.eq_zero_or_pos a.natAbs with h|h
 ·rw[h,Nat.gcd_zero_left];exact hb
 ·exact Nat.le_trans (Nat.le_of_dvd h (Nat.gcd_dvd_left _ _)) ha
theorem GJ(n:Nat){a b:Int}(ha:a.natAbs<=9223372036854775807)(hb:b.natAbs<=9223372036854775807):cA (n+1) 152 [I a,I b]=some (I (Nat.gcd a.natAbs b.natAbs:Nat)):=by
 rw[Jc]
 unfold AS
 obtain⟨r,h1,h2⟩:=vp (body:=fun(v1:List D)=>
  Option.bind (D.truth (D.bool (!(D.beq (gx v1 1) (D.int .i64 0))))) fun b2=>
  if b2 then(Option.bind (D.bin .rem (gx v1 0) (gx v1 1)) fun x3=>
  some (Sum.inl [(gx v1 1),x3])) else(some (Sum.inr (0,[(gx v1 0)]))))
  (fun a b hb=>by simp only[g0,g1,bk,ae,Option.bind_some,hb,decide_false,Bool.not_false,if_true,po hb])
  (fun a=>by simp only[g0,g1,bk,ae,Option.bind_some,decide_true,Bool.not_true,Bool.false_eq_true,if_false]) _ a b rfl
 refine jR h1 ?_
 have hr:r.natAbs<=9223372036854775807:=by rw[h2];exact nq ha hb
 have hn:inR (-r):=by simp only[inR];omega
 simp only[Option.bind_some,g0,mJ hn,yQ]
 congr 2
 omega
theorem fD{a:Int}{g:Nat}(hg:0<g)(h:(g:Int) ∣ a):a.tdiv g=a/g:=by
 obtain⟨c,rfl⟩:=h
 rw[Int.mul_tdiv_cancel_left _ (by omega),Int.mul_ediv_cancel_left _ (by omega)]
theorem vc(v:V):(bi v:Int) ∣ v.x:=Int.ofNat_dvd_left.2 (Nat.dvd_trans (Nat.gcd_dvd_left _ _) (Nat.gcd_dvd_left _ _))
theorem ve(v:V):(bi v:Int) ∣ v.y:=Int.ofNat_dvd_left.2 (Nat.dvd_trans (Nat.gcd_dvd_left _ _) (Nat.gcd_dvd_right _ _))
theorem vf(v:V):(bi v:Int) ∣ v.z:=Int.ofNat_dvd_left.2 (Nat.gcd_dvd_right _ _)
theorem nf{a:Int}{g:Nat}{k:Int}(h:-k<=a/\a<=k)(hd:(g:Int) ∣ a):-k<=a/g/\a/g<=k:=by
 have h1:(a/(g:Int)).natAbs<=a.natAbs:=by
  rcases Nat.eq_zero_or_pos g with e|e
  ·subst e;simp
  ·obtain⟨c,rfl⟩:=hd
   rw[Int.mul_ediv_cancel_left _ (by omega),Int.natAbs_mul]
   exact Nat.le_mul_of_pos_left _ (by omega)
 omega
theorem gS{k:Int}{v:V}(h:bd k v):bd k (bA v):=⟨nf h.1 (vc v),nf h.2.1 (ve v),nf h.2.2 (vf v)⟩
def bR(q:V×Int):D:=.st [af q.1,I q.2]
def MV:Int:=262144
theorem gT{P:Nat->V}{i j:Nat}(hi:bd MV (P i))(hj:bd MV (P j)):bd 524288 (wy P i j):=by
 have:=kV hj hi;simpa [MV,wy] using this
theorem S8(n:Nat){a b c:V}(ha:bd MV a)(hb:bd MV b)(hc:bd MV c):cA (n+3) 96 [af a,af b,af c]=some (bR (bA (V.cross (b.sub a) (c.sub a)),V.dot (bA (V.cross (b.sub a) (c.sub a))) a)):=by
 have h1:bd 524288 (b.sub a):=by have:=kV hb ha;simpa [MV] using this
 have h2:bd 524288 (c.sub a):=by have:=kV hc ha;simpa [MV] using this
 rw[TS]
 unfold JS
 simp only[EB n hb ha (by decide),EB n hc ha (by decide),Option.bind_some,Ik (n+1) h1 h2 (by decide)]
 have h3:=fL h1 h2
 generalize V.cross (b.sub a) (c.sub a)=m at *
 have e1:m.x.natAbs<=549755813888:=by have:=h3.1;omega
 have e2:m.y.natAbs<=549755813888:=by have:=h3.2.1;omega
 have e3:m.z.natAbs<=549755813888:=by have:=h3.2.2;omega
 have e4:Nat.gcd m.x.natAbs m.y.natAbs<=549755813888:=nq e1 e2
 have e5:Nat.gcd (Nat.gcd m.x.natAbs m.y.natAbs) m.z.natAbs=bi m:=rfl
 simp only[ma,mb,mc,Option.bind_some,GJ (n+1) (a:=m.x) (b:=m.y) (by omega) (by omega),GJ (n+1) (a:=((Nat.gcd m.x.natAbs m.y.natAbs:Nat):Int)) (b:=m.z) (by rw[Int.natAbs_natCast];omega) (by omega),Int.natAbs_natCast,e5,bS,ae,decide_eq_true_eq]
 have h4:=gS h3
 have fin:∀ w:V,w=bA m->cA (n+2) 101 [af w,af a]=some (I (V.dot w a)):=fun w hw=>A3 (n+1) (hw ▸ h4) ha (by decide)
 by_cases hg:(bi m:Int)>1
 ·have hg0:(bi m:Int)≠0:=by omega
  have hgp:0<bi m:=by omega
  have r1:inR (m.x.tdiv (bi m)):=by rw[fD hgp (vc m)];have:=nf h3.1 (vc m);simp only[inR];omega
  have r2:inR (m.y.tdiv (bi m)):=by rw[fD hgp (ve m)];have:=nf h3.2.1 (ve m);simp only[inR];omega
  have r3:inR (m.z.tdiv (bi m)):=by rw[fD hgp (vf m)];have:=nf h3.2.2 (vf m);simp only[inR];omega
  have ep:(D.st [I (m.x.tdiv (bi m)),I (m.y.tdiv (bi m)),I (m.z.tdiv (bi m))])=af (bA m):=by
   rw[fD hgp (vc m),fD hgp (ve m),fD hgp (vf m)];rfl
  simp only[if_pos hg,rD hg0 r1,rD hg0 r2,rD hg0 r3,Option.bind_some,g0,ep,fin _ rfl]
  rfl
 ·have ep:m=bA m:=by
   rcases Nat.lt_or_ge 0 (bi m) with k|k
   ·have e:bi m=1:=by omega
    have:=iE m
    rw[e] at this
    rw[this]
    conv=>rhs;rw[<-this]
    apply V.ext'<;>simp[V.smul]
   ·have e:bi m=0:=by omega
    have hm:m=V.zero:=by
     by_cases hm:m=V.zero
     ·exact hm
     ·have:=jJ hm;omega
    rw[hm];rfl
  simp only[if_neg hg,Option.bind_some,g0,fin m ep]
  rw[<-ep]
  rfl
end Sy
end
noncomputable section
namespace Sy
open Go Go.Proofs Geo
theorem OV(a b c:Int):D.sl [I a,I b,I c]=D.sl ([a,b,c].map fun x=>I x):=rfl
theorem NS(n:Nat)(p q:V×Int):cA (n+3) 100 [bR p,bR q]=some (I (t6 [a7 p.1.x q.1.x,a7 p.1.y q.1.y,a7 p.1.z q.1.z])):=by
 rw[O1]
 unfold CN
 simp only[show ∀ p:V×Int,D.get (bR p) [0]=some (af p.1) from fun _=>rfl,show ∀ p:V×Int,D.get (bR p) [0,0]=some (I p.1.x) from fun _=>rfl,show ∀ p:V×Int,D.get (bR p) [0,1]=some (I p.1.y) from fun _=>rfl,show ∀ p:V×Int,D.get (bR p) [0,2]=some (I p.1.z) from fun _=>rfl,ma,mb,mc,Option.bind_some,JX,OV,SZ (n+1) [a7 p.1.x q.1.x,a7 p.1.y q.1.y,a7 p.1.z q.1.z] (by simp)]
theorem tx(a:Int):a7 a 0=sg a:=rfl
theorem I7(a:Int):-1<=sg a/\sg a<=1:=by unfold sg;split<;>(try split)<;>omega
theorem nv(a b:Int):inR (sg a*sg b):=by
 have:=eQ (A:=1) (B:=1) (I7 a) (I7 b);simp only[inR];omega
theorem IM(v:V):D.fld (af v) 0=some (I v.x):=rfl
theorem IN(v:V):D.fld (af v) 1=some (I v.y):=rfl
theorem IP(v:V):D.fld (af v) 2=some (I v.z):=rfl
theorem G1:inR (0+1):=⟨by decide,by decide⟩
theorem lg:inR (1+1):=⟨by decide,by decide⟩
theorem wP:inR (2+1):=⟨by decide,by decide⟩
theorem NT(n:Nat){A B:Int}{m u v:V}(hu:bd A u)(hv:bd B v)(h:2*(A*B)<=9223372036854775807):cA (n+3) 104 [af m,af u,af v]=some (I (sa m (V.cross u v))):=by
 rw[O4]
 unfold CP
 simp only[Ik (n+1) hu hv h,Option.bind_some]
 generalize V.cross u v=c
 unfold sa
 by_cases hx:m.x=0
 ·refine cd (s':=[I 1]) (by simp only[g0,ah,Option.bind_some,ae,F5,IM,bk,hx,decide_true,Bool.not_true,Bool.false_eq_true,if_false,av G1];rfl) ?_
  by_cases hy:m.y=0
  ·refine cd (s':=[I 2]) (by simp only[g0,ah,Option.bind_some,ae,F6,IN,bk,hy,decide_true,Bool.not_true,Bool.false_eq_true,if_false,av lg];rfl) ?_
   by_cases hz:m.z=0
   ·refine cd (s':=[I 3]) (by simp only[g0,ah,Option.bind_some,ae,F7,IP,bk,hz,decide_true,Bool.not_true,Bool.false_eq_true,if_false,av wP];rfl) ?_
    refine ef (r:=(1,[])) (by simp only[g0,ah,Option.bind_some,ae];rfl) ?_
    simp[hx,hy,hz]
   ·refine ef (r:=(0,[I (sg c.z*sg m.z)])) ?_ (by simp[hx,hy,hz,Int.mul_comm])
    simp only[g0,ah,Option.bind_some,ae,F7,IP,mc,bk,hz,decide_false,Bool.not_false,if_true,JX,tx,cE (nv _ _)];rfl
  ·refine ef (r:=(0,[I (sg c.y*sg m.y)])) ?_ (by simp[hx,hy,Int.mul_comm])
   simp only[g0,ah,Option.bind_some,ae,F6,IN,mb,bk,hy,decide_false,Bool.not_false,if_true,JX,tx,cE (nv _ _)];rfl
 ·refine ef (r:=(0,[I (sg c.x*sg m.x)])) ?_ (by simp[hx,Int.mul_comm])
  simp only[g0,ah,Option.bind_some,ae,F5,IM,ma,bk,hx,decide_false,Bool.not_false,if_true,JX,tx,cE (nv _ _)];rfl
theorem GK(n:Nat)(a:Int):cA (n+1) 215 [I a]=some (I (sg a)):=by
 rw[P5]
 simp only[DN,ah,bS,Option.bind_some,ae,decide_eq_true_eq,sg]
 split
 ·rfl
 ·split
  ·rfl
  ·rfl
theorem Of(n:Nat)(m c:V):cA (n+2) 188 [af m,af c]=some (I (sa m c)):=by
 rw[PY]
 unfold DH sa
 by_cases hx:m.x=0
 ·refine cd (s':=[I 1]) (by simp only[g0,ah,Option.bind_some,ae,F5,ma,bk,hx,decide_true,Bool.not_true,Bool.false_eq_true,if_false,av G1];rfl) ?_
  by_cases hy:m.y=0
  ·refine cd (s':=[I 2]) (by simp only[g0,ah,Option.bind_some,ae,F6,mb,bk,hy,decide_true,Bool.not_true,Bool.false_eq_true,if_false,av lg];rfl) ?_
   by_cases hz:m.z=0
   ·refine cd (s':=[I 3]) (by simp only[g0,ah,Option.bind_some,ae,F7,mc,bk,hz,decide_true,Bool.not_true,Bool.false_eq_true,if_false,av wP];rfl) ?_
    refine ef (r:=(1,[])) (by simp only[g0,ah,Option.bind_some,ae];rfl) ?_
    simp[hx,hy,hz]
   ·refine ef (r:=(0,[I (sg m.z*sg c.z)])) ?_ (by simp[hx,hy,hz])
    simp only[g0,ah,Option.bind_some,ae,F7,mc,bk,hz,decide_false,Bool.not_false,if_true,GK,cE (nv _ _)];rfl
  ·refine ef (r:=(0,[I (sg m.y*sg c.y)])) ?_ (by simp[hx,hy])
   simp only[g0,ah,Option.bind_some,ae,F6,mb,bk,hy,decide_false,Bool.not_false,if_true,GK,cE (nv _ _)];rfl
 ·refine ef (r:=(0,[I (sg m.x*sg c.x)])) ?_ (by simp[hx])
  simp only[g0,ah,Option.bind_some,ae,F5,ma,bk,hx,decide_false,Bool.not_false,if_true,GK,cE (nv _ _)];rfl
instance decLex (a b:V):Decidable (az a b):=by unfold az;exact inferInstance
theorem GF(n:Nat)(a b:V):cA (n+1) 105 [af a,af b]=some (.bool (decide (az a b))):=by
 rw[O5]
 simp only[CQ,ma,mb,mc,Option.bind_some,bk,ae,ah,Bool.not_eq_true',decide_eq_false_iff_not]
 by_cases h1:a.x=b.x
 ·by_cases h2:a.y=b.y
  ·simp[h1,h2,az]
  ·simp only[h1,h2,az,not_true,if_false,not_false_iff,if_true,Int.lt_irrefl,false_or,true_and,false_and,or_false]
 ·simp only[h1,az,not_false_iff,if_true,false_and,or_false]
def aN(l:List V):D:=.sl (l.map af)
def nR(l:List V)(m:V)(d:Int):Bool:=l.all fun x=>decide (V.dot m x<=d)
def iB(l:List V)(m:V)(d:Int):Bool:=l.any fun x=>decide (V.dot m x<d)
theorem pX{l:List V}{i:Nat}(h:i<l.length):(l.map af)[i]?=some (af l[i]):=by simp[h]
theorem Ij(n:Nat){A:Int}{l:List V}{m:V}{d:Int}(hl:∀ x∈l,bd MV x)(hm:bd A m)(hA:3*(A*262144)<=9223372036854775807)(hlen:l.length<=1000000):cA (n+2) 109 [aN l,af m,I d]=some (.bool (nR l m d&&iB l m d)):=by
 rw[O9]
 unfold CW
 refine ba (fun i s=>s=[.bool (iB (l.take i) m d),I i]/\nR (l.take i) m d=true) l.length 0 (Nat.zero_le _) ⟨by simp[iB],by simp[nR]⟩ (fun i hi s hJ=>?_) (fun s hJ=>?_)
 ·obtain⟨rfl,hs⟩:=hJ
  have ht:l.take (i+1)=l.take i++[l[i]]:=List.take_succ_eq_append_getElem hi
  have hc:=wV n hm (hl l[i] (List.getElem_mem hi)) hA
  simp only[aN,D.asSl,g0,g1,List.length_map,ah,bS,Option.bind_some,ae,decide_eq_true_eq,show((i:Int)<(l.length:Int)) from by omega,if_true,ao hi,pX hi,hc]
  by_cases hgt:V.dot m l[i]>d
  ·right
   refine⟨(0,[.bool false]),by simp only[hgt,if_true],?_⟩
   have:nR l m d=false:=by
    rw[Bool.eq_false_iff];intro h
    have:=List.all_eq_true.1 h l[i] (List.getElem_mem hi)
    simp at this;omega
   simp[g0,this]
  ·left
   refine⟨[.bool (iB (l.take (i+1)) m d),I ((i+1:Nat):Int)],?_,rfl,?_⟩
   ·simp only[hgt,if_false,av (ar (i:=i) (by omega)),Option.bind_some]
    have e:iB (l.take (i+1)) m d=(iB (l.take i) m d||decide (V.dot m l[i]<d)):=by rw[ht];simp only[iB,List.any_append,List.any_cons,List.any_nil,Bool.or_false]
    rw[e]
    cases iB (l.take i) m d<;>simp
   ·rw[ht];simp only[nR,List.all_append,Bool.and_eq_true] at hs ⊢
    exact⟨hs,by simp;omega⟩
 ·obtain⟨rfl,hs⟩:=hJ
  refine⟨(1,[.bool (iB (l.take l.length) m d)]),?_,?_⟩
  ·simp only[aN,D.asSl,g0,g1,List.length_map,ah,Option.bind_some,ae,decide_eq_true_eq,Int.lt_irrefl,if_false]
  ·rw[List.take_length] at *
   simp[g0,hs]
theorem S9(n:Nat){A:Int}{l:List V}{m:V}{d:Int}(hl:∀ x∈l,bd MV x)(hm:bd A m)(hA:3*(A*262144)<=9223372036854775807)(hlen:l.length<=1000000):cA (n+2) 98 [aN l,bR (m,d)]=some (.bool (nR l m d&&iB l m d)):=by
 rw[TU]
 unfold JU
 simp only[aN,D.asSl,Option.bind_some]
 refine ba (fun i s=>s=[.bool (!iB (l.take i) m d),I i]/\nR (l.take i) m d=true) l.length 0 (Nat.zero_le _) ⟨by simp[iB],by simp[nR]⟩ (fun i hi s hJ=>?_) (fun s hJ=>?_)
 ·obtain⟨rfl,hs⟩:=hJ
  have ht:l.take (i+1)=l.take i++[l[i]]:=List.take_succ_eq_append_getElem hi
  have hc:=A3 n hm (hl l[i] (List.getElem_mem hi)) hA
  simp only[g0,g1,List.length_map,ah,bS,Option.bind_some,ae,decide_eq_true_eq,show((i:Int)<(l.length:Int)) from by omega,if_true,ao hi,pX hi,show D.get (bR (m,d)) [0]=some (af m) from rfl,show D.get (bR (m,d)) [1]=some (I d) from rfl,hc,bk]
  by_cases hgt:V.dot m l[i]>d
  ·right
   refine⟨(0,[.bool false]),by simp only[hgt,if_true],?_⟩
   have:nR l m d=false:=by
    rw[Bool.eq_false_iff];intro h
    have:=List.all_eq_true.1 h l[i] (List.getElem_mem hi)
    simp at this;omega
   simp[g0,this]
  ·left
   refine⟨[.bool (!iB (l.take (i+1)) m d),I ((i+1:Nat):Int)],?_,rfl,?_⟩
   ·simp only[hgt,if_false,av (ar (i:=i) (by omega)),Option.bind_some]
    have e:(!iB (l.take (i+1)) m d)=(!iB (l.take i) m d&&decide (V.dot m l[i]=d)):=by
     rw[ht];simp only[iB,List.any_append,List.any_cons,List.any_nil,Bool.or_false,Bool.not_or]
     congr 1
     by_cases h2:V.dot m l[i]=d
     ·simp[h2]
     ·have:V.dot m l[i]<d:=by omega
      simp[h2,this]
    rw[e]
    cases iB (l.take i) m d<;>simp
   ·rw[ht];simp only[nR,List.all_append,Bool.and_eq_true] at hs ⊢
    exact⟨hs,by simp;omega⟩
 ·obtain⟨rfl,hs⟩:=hJ
  refine⟨(1,[.bool (!iB (l.take l.length) m d)]),?_,?_⟩
  ·simp only[g0,g1,List.length_map,ah,Option.bind_some,ae,decide_eq_true_eq,Int.lt_irrefl,if_false]
  ·rw[List.take_length] at *
   simp[g0,hs,bN]
end Sy
end
noncomputable section
namespace Sy
open Go Go.Proofs Geo
theorem dz{α:Type}{body:Bd}{s0:List D}{k:Nat×List D->Option α}{Y:α->Prop}(J:Nat->List D->Prop)(n i0:Nat)(hi:i0<=n)(h0:J i0 s0)
  (hs:∀ i,i<n->∀ s,J i s->∃ z,body s=some z/\match z with|.inl s'=>J (i+1) s'|.inr r=>∃ y,k r=some y/\Y y)
  (he:∀ s,J n s->∃ z,body s=some z/\match z with|.inl _=>False|.inr r=>∃ y,k r=some y/\Y y):∃ y,Option.bind (aP body s0) k=some y/\Y y:=by
 obtain⟨m,hm⟩:∃ m,m=n-i0:=⟨_,rfl⟩
 induction m generalizing i0 s0 with
 | zero=>
  have:i0=n:=by omega
  subst this
  obtain⟨z,h1,h2⟩:=he s0 h0
  cases z with
  | inl s'=>exact h2.elim
  | inr r=>obtain⟨y,h3,h4⟩:=h2;exact⟨y,by rw[show aP body s0=some r from cl h1];exact h3,h4⟩
 | succ m ih=>
  obtain⟨z,h1,h2⟩:=hs i0 (by omega) s0 h0
  cases z with
  | inl s'=>
   obtain⟨y,h3,h4⟩:=ih (i0:=i0+1) (by omega) h2 (by omega)
   exact⟨y,by rw[show aP body s0=aP body s' from cJ h1];exact h3,h4⟩
  | inr r=>obtain⟨y,h3,h4⟩:=h2;exact⟨y,by rw[show aP body s0=some r from cl h1];exact h3,h4⟩
theorem mr{α:Type}{body:Bd}{s s':List D}{k:Nat×List D->Option α}{y:α}(h:body s=some (.inl s'))(hk:Option.bind (aP body s') k=some y):Option.bind (aP body s) k=some y:=by
 have:aP body s=aP body s':=cJ h
 rw[this];exact hk
theorem o7{α:Type}{body:Bd}{s:List D}{r:Nat×List D}{k:Nat×List D->Option α}{y:α}(h:body s=some (.inr r))(hk:k r=some y):Option.bind (aP body s) k=some y:=by
 have:aP body s=some r:=cl h
 rw[this];exact hk
theorem dn{α:Type}{body:Bd}{s0:List D}{k:Nat×List D->Option α}{y:α}(J:Nat->List D->Prop)(n i0:Nat)(hi:i0<=n)(h0:J i0 s0)
  (hs:∀ i,i<n->∀ s,J i s->(∃ s',body s=some (.inl s')/\J (i+1) s')\/∃ r,body s=some (.inr r)/\k r=some y) (he:∀ s,J n s->∃ r,body s=some (.inr r)/\k r=some y):Option.bind (aP body s0) k=some y:=by
 obtain⟨m,hm⟩:∃ m,m=n-i0:=⟨_,rfl⟩
 induction m generalizing i0 s0 with
 | zero=>
  have:i0=n:=by omega
  subst this
  obtain⟨r,h1,h2⟩:=he s0 h0
  exact o7 h1 h2
 | succ m ih=>
  rcases hs i0 (by omega) s0 h0 with⟨s',h1,h2⟩|⟨r,h1,h2⟩
  ·exact mr h1 (ih (i0:=i0+1) (by omega) h2 (by omega))
  ·exact o7 h1 h2
theorem aa{α β:Type}{A:Option α}{g:α->Option β}{z:α}{y:β}(h:A=some z)(hk:g z=some y):Option.bind A g=some y:=by
 rw[h];exact hk
theorem gl(u v:V):D.beq (af u) (af v)=decide (u=v):=by
 simp only[af,D.beq,D.beqs,decide_true,Bool.true_and,Bool.and_true]
 by_cases h:u=v
 ·subst h;simp
 ·by_cases h1:u.x=v.x<;>by_cases h2:u.y=v.y<;>by_cases h3:u.z=v.z<;>simp[h,h1,h2,h3]
  exact h (V.ext' h1 h2 h3)
theorem FR(p q:V×Int):D.beq (bR p) (bR q)=decide (p=q):=by
 have:D.beq (bR p) (bR q)=(D.beq (af p.1) (af q.1)&&(D.beq (I p.2) (I q.2)&&true)):=rfl
 rw[this,gl,bk]
 obtain⟨a,b⟩:=p
 obtain⟨c,d⟩:=q
 by_cases h1:a=c<;>by_cases h2:b=d<;>simp[h1,h2]
def fW(K:List (V×Int)):List D:=K.map fun q=>.st [bR q,.bool true]
theorem sj:∀ (K:List (V×Int)) (q:V×Int),D.mget (fW K) (bR q)=if q∈K then some (.bool true) else none
 | [],q=>by simp[fW,D.mget]
 | p::K,q=>by
  have ih:=sj K q
  simp only[fW,List.map_cons,D.mget,FR] at ih ⊢
  by_cases h:q=p
  ·simp[h]
  ·rw[ih];simp[h]
theorem sn:∀ (K:List (V×Int)) (q:V×Int),q ∉ K->D.mput (fW K) (bR q) (.bool true)=fW (K++[q])
 | [],q,_=>rfl
 | p::K,q,h=>by
  have ih:=sn K q (fun hq=>h (List.mem_cons_of_mem _ hq))
  have hne:¬ q=p:=fun e=>h (by rw[e];exact List.mem_cons_self)
  simp only[fW,List.map_cons,List.cons_append,D.mput,FR,hne,decide_false,Bool.false_eq_true,if_false] at ih ⊢
  rw[ih]
theorem zG(K:List (V×Int)):(fW K).map rl=K.map bR:=by simp[fW,rl]
def supp(l:List V)(q:V×Int):Bool:=nR l q.1 q.2&&iB l q.1 q.2
def gA(l:List V)(K:List (V×Int))(q:V×Int):List (V×Int):=if q∈K then K else if supp l q then K++[q] else K
theorem qr{l:List V}{K:List (V×Int)}{q x:V×Int}(h:x∈K):x∈gA l K q:=by
 unfold gA
 split
 ·exact h
 ·split
  ·exact List.mem_append_left _ h
  ·exact h
theorem wd{l:List V}{K:List (V×Int)}{q:V×Int}(h:supp l q=true):q∈gA l K q:=by
 unfold gA
 split
 ·assumption
 ·simp
theorem wc{l:List V}{K:List (V×Int)}{q x:V×Int}(h:x∈gA l K q):x∈K\/(x=q/\supp l q=true):=by
 unfold gA at h
 split at h
 ·exact .inl h
 ·split at h
  ·rename_i hs
   rcases List.mem_append.1 h with h|h
   ·exact .inl h
   ·exact .inr ⟨List.mem_singleton.1 h,hs⟩
  ·exact .inl h
theorem qo{l:List V}{K:List (V×Int)}{q:V×Int}(h:K.Nodup):(gA l K q).Nodup:=by
 unfold gA
 split
 ·exact h
 ·rename_i hq
  split
  ·exact List.nodup_append.2 ⟨h,by simp,fun x hx y hy e=>hq (by rw[List.mem_singleton.1 hy] at e;exact e ▸ hx)⟩
  ·exact h
def mI(a b c:V):V×Int:=(bA (V.cross (b.sub a) (c.sub a)),V.dot (bA (V.cross (b.sub a) (c.sub a))) a)
def kC(q:V×Int):V×Int:=(q.1.neg,-q.2)
def Cd(l:List V)(i j k:Nat)(q:V×Int):Prop:=(mI (l.getD i V.zero) (l.getD j V.zero) (l.getD k V.zero)).1≠V.zero/\(q=mI (l.getD i V.zero) (l.getD j V.zero) (l.getD k V.zero)\/q=kC (mI (l.getD i V.zero) (l.getD j V.zero) (l.getD k V.zero)))
structure Known(l:List V)(i j k:Nat)(K:List (V×Int)):Prop where
 nd:K.Nodup
 ok:∀ q∈K,supp l q=true/\∃ i j k,k<j/\j<i/\i<l.length/\Cd l i j k q
 all:∀ i' j' k',k'<j'->j'<i'->i'<l.length->(i'<i\/i'=i/\(j'<j\/j'=j/\k'<k))->∀ q,Cd l i' j' k' q->supp l q=true->q∈K
theorem GA{a b c:V}(ha:bd MV a)(hb:bd MV b)(hc:bd MV c):bd 549755813888 (mI a b c).1/\inR (mI a b c).2/\inR (-(mI a b c).2):=by
 have h1:bd 524288 (b.sub a):=by have:=kV hb ha;simpa [MV] using this
 have h2:bd 524288 (c.sub a):=by have:=kV hc ha;simpa [MV] using this
 have h3:=gS (fL h1 h2)
 have h4:=Gz h3 ha
 simp only[MV] at h4
 refine⟨h3,?_,?_⟩<;>simp only[inR,mI]<;>omega
theorem Known.step{l:List V}{i j k:Nat}{K:List (V×Int)}(h:Known l i j k K)(hk:k<j)(hj:j<i)(hi:i<l.length)(hz:(mI (l.getD i V.zero) (l.getD j V.zero) (l.getD k V.zero)).1≠V.zero) :
  Known l i j (k+1) (gA l (gA l K (mI (l.getD i V.zero) (l.getD j V.zero) (l.getD k V.zero))) (kC (mI (l.getD i V.zero) (l.getD j V.zero) (l.getD k V.zero)))):=by
 refine⟨qo (qo h.nd),fun q hq=>?_,fun i' j' k' h1 h2 h3 h4 q hq hs=>?_⟩
 ·rcases wc hq with hq|⟨rfl,hs⟩
  ·rcases wc hq with hq|⟨rfl,hs⟩
   ·exact h.ok q hq
   ·exact⟨hs,i,j,k,hk,hj,hi,hz,.inl rfl⟩
  ·exact⟨hs,i,j,k,hk,hj,hi,hz,.inr rfl⟩
 ·by_cases e:i'=i/\j'=j/\k'=k
  ·obtain⟨rfl,rfl,rfl⟩:=e
   rcases hq.2 with rfl|rfl
   ·exact qr (wd hs)
   ·exact wd hs
  ·exact qr (qr (h.all i' j' k' h1 h2 h3 (by omega) q hq hs))
theorem Known.skip{l:List V}{i j k:Nat}{K:List (V×Int)}(h:Known l i j k K)(hz:(mI (l.getD i V.zero) (l.getD j V.zero) (l.getD k V.zero)).1=V.zero):Known l i j (k+1) K:=by
 refine⟨h.nd,h.ok,fun i' j' k' h1 h2 h3 h4 q hq hs=>?_⟩
 by_cases e:i'=i/\j'=j/\k'=k
 ·obtain⟨rfl,rfl,rfl⟩:=e
  exact absurd hz hq.1
 ·exact h.all i' j' k' h1 h2 h3 (by omega) q hq hs
theorem Known.next{l:List V}{i j:Nat}{K:List (V×Int)}(h:Known l i j j K):Known l i (j+1) 0 K:=
 ⟨h.nd,h.ok,fun i' j' k' h1 h2 h3 h4=>h.all i' j' k' h1 h2 h3 (by omega)⟩
theorem Known.next2{l:List V}{i:Nat}{K:List (V×Int)}(h:Known l i i 0 K):Known l (i+1) 0 0 K:=
 ⟨h.nd,h.ok,fun i' j' k' h1 h2 h3 h4=>h.all i' j' k' h1 h2 h3 (by omega)⟩
theorem lh{α β:Type}{f:α->List β}{c:Nat}:∀ l:List α,(∀ x∈l,(f x).length=c)->(l.flatMap f).length=l.length*c
 | [],_=>by simp
 | x::l,h=>by
  rw[List.flatMap_cons,List.length_append,h x List.mem_cons_self,lh l (fun y hy=>h y (List.mem_cons_of_mem _ hy)),List.length_cons,Nat.succ_mul]
  omega
theorem Known.len{l:List V}{i j k:Nat}{K:List (V×Int)}(h:Known l i j k K)(hl:l.length<=100):K.length<=2000000:=by
 have h1:=List.Nodup.length_le_of_subset (l₂:=(List.range l.length).flatMap fun i=>(List.range l.length).flatMap fun j=>(List.range l.length).flatMap fun k=>[mI (l.getD i V.zero) (l.getD j V.zero) (l.getD k V.zero),kC (mI (l.getD i V.zero) (l.getD j V.zero) (l.getD k V.zero))]) h.nd (fun q hq=>by
  obtain⟨_,i,j,k,h1,h2,h3,h4⟩:=h.ok q hq
  refine List.mem_flatMap.2 ⟨i,List.mem_range.2 h3,List.mem_flatMap.2 ⟨j,List.mem_range.2 (by omega),List.mem_flatMap.2 ⟨k,List.mem_range.2 (by omega),?_⟩⟩⟩
  rcases h4.2 with rfl|rfl<;>simp)
 rw[lh (c:=l.length*(l.length*2)) _ (fun i _=>by rw[lh (c:=l.length*2) _ (fun j _=>by rw[lh (c:=2) _ (fun k _=>rfl),List.length_range]),List.length_range]),List.length_range] at h1
 refine Nat.le_trans h1 ?_
 have a1:l.length*2<=200:=by omega
 have a2:l.length*(l.length*2)<=100*200:=Nat.mul_le_mul hl a1
 have a3:l.length*(l.length*(l.length*2))<=100*(100*200):=Nat.mul_le_mul hl a2
 exact a3
theorem co{l:List V}{i:Nat}(h:i<l.length):(l.map af)[i]?=some (af (l.getD i V.zero)):=by simp[h,List.getD]
theorem bL{l:List V}{i:Nat}(h:i<l.length):l.getD i V.zero∈l:=by simp[List.getD,h]
theorem zU{n:Nat}{l:List V}{K:List (V×Int)}{q:V×Int}(hl:∀ x∈l,bd MV x)(hq:bd 549755813888 q.1)(hlen:l.length<=1000) :
  (if(!decide (q∈K))=true then(Option.bind (cA (n+2) 98 [aN l,bR q]) fun r=>D.truth r) else some false)=some (!decide (q∈K)&&supp l q):=by
 obtain⟨m,d⟩:=q
 have hc:=S9 n (d:=d) hl hq (by decide) (by omega)
 simp only[hc,Option.bind_some,ae]
 cases decide ((m,d)∈K)<;>rfl
end Sy
end
noncomputable section
namespace Sy
open Go Go.Proofs Geo
theorem EO{a b:V}(h:az a b):t6 [a7 a.x b.x,a7 a.y b.y,a7 a.z b.z]=-1:=by
 simp only[az] at h
 rcases h with h|⟨h1,h|⟨h2,h⟩⟩
 ·simp[t6,a7,h]
 ·simp[t6,a7,h1,h]
 ·simp[t6,a7,h1,h2,h]
theorem EN{a b:V}(h:az b a):t6 [a7 a.x b.x,a7 a.y b.y,a7 a.z b.z]=1:=by
 simp only[az] at h
 rcases h with h|⟨h1,h|⟨h2,h⟩⟩
 ·simp[t6,a7,h,Int.not_lt.2 (Int.le_of_lt h)]
 ·simp[t6,a7,h1,h,Int.not_lt.2 (Int.le_of_lt h)]
 ·simp[t6,a7,h1,h2,h,Int.not_lt.2 (Int.le_of_lt h)]
theorem EM(a:V):t6 [a7 a.x a.x,a7 a.y a.y,a7 a.z a.z]=0:=by simp[t6,a7]
theorem y7{α:Type}(key:α->V):∀ (K:List α),K.Pairwise (fun a b=>key a≠key b)->∃ L:List α,L.Perm K/\L.Pairwise (fun a b=>az (key a) (key b))
 | [],_=>⟨[],.refl _,.nil⟩
 | x::K,h=>by
  obtain⟨h1,h2⟩:=List.pairwise_cons.1 h
  obtain⟨L,p1,p2⟩:=y7 key K h2
  have hne:∀ y∈L,key x≠key y:=fun y hy=>h1 y (p1.subset hy)
  have ins:∀ L:List α,L.Pairwise (fun a b=>az (key a) (key b))->(∀ y∈L,key x≠key y)->∃ M:List α,M.Perm (x::L)/\M.Pairwise (fun a b=>az (key a) (key b)):=by
   intro L
   induction L with
   | nil=>intro _ _;exact⟨[x],.refl _,by simp⟩
   | cons y L ih=>
    intro hp hn
    obtain⟨q1,q2⟩:=List.pairwise_cons.1 hp
    rcases nD (hn y List.mem_cons_self) with k|k
    ·refine⟨x::y::L,.refl _,List.pairwise_cons.2 ⟨fun z hz=>?_,hp⟩⟩
     rcases List.mem_cons.1 hz with rfl|hz
     ·exact k
     ·exact jP k (q1 z hz)
    ·obtain⟨M,m1,m2⟩:=ih q2 (fun z hz=>hn z (List.mem_cons_of_mem _ hz))
     refine⟨y::M,(m1.cons y).trans (.swap x y L),List.pairwise_cons.2 ⟨fun z hz=>?_,m2⟩⟩
     rcases List.mem_cons.1 (m1.subset hz) with rfl|hz
     ·exact k
     ·exact q1 z hz
  obtain⟨M,m1,m2⟩:=ins L p2 hne
  exact⟨M,m1.trans (p1.cons x),m2⟩
theorem yt(n:Nat)(p q:V×Int):tw (dQ aP (cA (n+3)) (mh aP (cA (n+3)))) (dE 100) (bR p) (bR q)=some (t6 [a7 p.1.x q.1.x,a7 p.1.y q.1.y,a7 p.1.z q.1.z]):=by
 unfold tw
 rw[show ∀ l,(dQ aP (cA (n+3)) (mh aP (cA (n+3)))).call (dE 100) l=cA (n+3) 100 l from fun l=>congrFun (congrArg (cA (n+3)) (show q9 (dE 100)=100 by kernel_rfl)) l,NS]
 rfl
theorem Be(n:Nat):∀ (L:List (V×Int)),L.Pairwise (fun a b=>az a.1 b.1)->rb (dQ aP (cA (n+3)) (mh aP (cA (n+3)))) (dE 100) (L.map bR)=true
 | [],_=>rfl
 | p::L,h=>by
  obtain⟨h1,h2⟩:=List.pairwise_cons.1 h
  simp only[List.map_cons,rb,Bool.and_eq_true,List.all_eq_true,List.mem_map]
  refine⟨⟨?_,?_⟩,Be n L h2⟩
  ·simp only[CJ,yt,EM];decide
  ·rintro _ ⟨q,hq,rfl⟩
   simp only[oz,CJ,yt,EO (h1 q hq),EN (h1 q hq)];decide
theorem Fx(n:Nat){K L:List (V×Int)}(hp:L.Perm K)(h:L.Pairwise (fun a b=>az a.1 b.1)):iK (dQ aP (cA (n+3)) (mh aP (cA (n+3)))) (dE 100) (K.map bR)=some (L.map bR):=
 wE (Be n L h) (hp.symm.map _)
def pt(l:List V)(i:Nat):V:=l.getD i V.zero
theorem kh(a b:V):V.dot a.neg b=- V.dot a b:=by simp only[V.dot,V.neg];grind
theorem Cd.dist{l:List V}{i j k:Nat}{q:V×Int}(h:Cd l i j k q):q.2=V.dot q.1 (l.getD i V.zero):=by
 rcases h.2 with rfl|rfl
 ·rfl
 ·simp only[kC,kh];rfl
theorem y8{l:List V}{q:V×Int}(h:supp l q=true){x:V}(hx:x∈l):V.dot q.1 x<=q.2:=by
 simp only[supp,nR,Bool.and_eq_true,List.all_eq_true,decide_eq_true_eq] at h
 exact h.1 x hx
theorem Known.keys{l:List V}{i j k:Nat}{K:List (V×Int)}(h:Known l i j k K):K.Pairwise (fun a b=>a.1≠b.1):=by
 refine List.Pairwise.imp_of_mem (fun{a b} ha hb hab e=>hab ?_) h.nd
 obtain⟨s1,i1,j1,k1,_,_,h1,c1⟩:=h.ok a ha
 obtain⟨s2,i2,j2,k2,_,_,h2,c2⟩:=h.ok b hb
 have e1:=c1.dist
 have e2:=c2.dist
 have l1:=y8 s1 (bL h2)
 have l2:=y8 s2 (bL h1)
 rw[e] at e1 l1
 exact Prod.ext e (by omega)
theorem Td(n:Nat){l:List V}(hl:∀ x∈l,bd MV x)(hlen:l.length<=100):∃ y,cA (n+6) 45 [aN l]=some y/\∃ K L:List (V×Int),Known l l.length 0 0 K/\L.Perm K/\L.Pairwise (fun a b=>az a.1 b.1)/\y=.sl (L.map bR):=by
 rw[Tq]
 unfold Hs
 simp only[aN,D.asSl,Option.bind_some]
 refine dz (fun i s=>∃ K,s=[I i,.sl (fW K)]/\Known l i 0 0 K) l.length 0 (Nat.zero_le _) ⟨[],rfl,⟨List.nodup_nil,by simp,fun i' j' k' _ _ _ h=>by omega⟩⟩ (fun i hi s hJ=>?_) (fun s hJ=>?_)
 ·obtain⟨K,rfl,hK⟩:=hJ
  simp only[g0,g1,List.length_map,ah,Option.bind_some,ae,decide_eq_true_eq,show((i:Int)<(l.length:Int)) from by omega,if_true,D.els]
  refine dz (fun j s=>∃ K,s=[I j,.sl (fW K)]/\Known l i j 0 K) i 0 (Nat.zero_le _) ⟨K,rfl,hK⟩ (fun j hj s hJ=>?_) (fun s hJ=>?_)
  ·obtain⟨K,rfl,hK⟩:=hJ
   simp only[g0,g1,ah,Option.bind_some,ae,decide_eq_true_eq,show((j:Int)<(i:Int)) from by omega,if_true,D.els]
   refine dz (fun k s=>∃ K,s=[I k,.sl (fW K)]/\Known l i j k K) j 0 (Nat.zero_le _) ⟨K,rfl,hK⟩ (fun k hk s hJ=>?_) (fun s hJ=>?_)
   ·obtain⟨K,rfl,hK⟩:=hJ
    have hthr:=GA (hl _ (bL hi)) (hl _ (bL (show j<l.length by omega))) (hl _ (bL (show k<l.length by omega)))
    have hc:=S8 (n+2) (hl _ (bL hi)) (hl _ (bL (show j<l.length by omega))) (hl _ (bL (show k<l.length by omega)))
    rw[show(bA (V.cross ((l.getD j V.zero).sub (l.getD i V.zero)) ((l.getD k V.zero).sub (l.getD i V.zero))),V.dot (bA (V.cross ((l.getD j V.zero).sub (l.getD i V.zero)) ((l.getD k V.zero).sub (l.getD i V.zero)))) (l.getD i V.zero))=mI (l.getD i V.zero) (l.getD j V.zero) (l.getD k V.zero) from rfl] at hc
    simp only[g0,g1,ah,Option.bind_some,ae,decide_eq_true_eq,show((k:Int)<(j:Int)) from by omega,if_true,D.els,List.length_map,ao hi,ao (show j<l.length by omega),ao (show k<l.length by omega),co hi,co (show j<l.length by omega),co (show k<l.length by omega),hc]
    by_cases hz:(mI (l.getD i V.zero) (l.getD j V.zero) (l.getD k V.zero)).1=V.zero
    ·have hb:D.beq (af (mI (l.getD i V.zero) (l.getD j V.zero) (l.getD k V.zero)).1) (D.st [D.int .i64 0,D.int .i64 0,D.int .i64 0])=true:=by
      rw[iV,gl];exact decide_eq_true hz
     simp only[show D.get (bR (mI (l.getD i V.zero) (l.getD j V.zero) (l.getD k V.zero))) [0]=some (af (mI (l.getD i V.zero) (l.getD j V.zero) (l.getD k V.zero)).1) from rfl,Option.bind_some,hb,ae,if_true,g0,D.els,av (ar (i:=k) (by omega))]
     exact⟨_,rfl,K,rfl,hK.skip hz⟩
    ·have hb:D.beq (af (mI (l.getD i V.zero) (l.getD j V.zero) (l.getD k V.zero)).1) (D.st [D.int .i64 0,D.int .i64 0,D.int .i64 0])=false:=by
      rw[iV,gl];exact decide_eq_false hz
     have step:=hK.step hk hj hi hz
     generalize hq:mI (l.getD i V.zero) (l.getD j V.zero) (l.getD k V.zero)=q at *
     obtain⟨b1,b2,b3⟩:=hthr
     have hfl:D.st [af q.1.neg,I (-q.2)]=bR (kC q):=rfl
     have b4:bd 549755813888 (kC q).1:=kU b1
     simp only[show D.get (bR q) [0]=some (af q.1) from rfl,show D.get (bR q) [1]=some (I q.2) from rfl,Option.bind_some,hb,ae,Bool.false_eq_true,if_false,QT (n+4) b1 (by decide),mJ b3,hfl]
     have one:∀ (K:List (V×Int)) (p:V×Int),bd 549755813888 p.1->(Option.bind (D.un .not (Option.getD (D.mget (fW K) (bR p)) (D.bool false))) fun x32=>Option.bind (D.truth x32) fun b33=>Option.bind (if b33 then(Option.bind (cA (n+5) 98 [D.sl (l.map af),bR p]) fun r34=>D.truth r34) else(some false)) fun b36=>
       if b36 then(some ((0:Nat),[(D.sl [bR q,bR (kC q)]),(D.sl (D.mput (fW K) (bR p) (D.bool true)))])) else(some (0,[(D.sl [bR q,bR (kC q)]),(D.sl (fW K))])))=some (0,[D.sl [bR q,bR (kC q)],D.sl (fW (gA l K p))]):=fun K p hp=>by
      rw[sj]
      have ht:=zU (n:=n+3) (K:=K) hl hp (by omega)
      simp only[aN] at ht
      by_cases hm:p∈K
      ·simp[hm,bN,ae,gA]
      ·simp only[hm,if_false,Option.getD_none,bN,Bool.not_false,Option.bind_some,ae,if_true,decide_false,Bool.true_and] at ht ⊢
       rw[ht]
       simp only[Option.bind_some,gA,hm,if_false]
       split
       ·rw[sn K p hm]
       ·rfl
     refine⟨.inl [I ((k+1:Nat):Int),.sl (fW (gA l (gA l K q) (kC q)))],?_,_,rfl,step⟩
     refine aa (z:=(0,[.sl (fW (gA l (gA l K q) (kC q)))])) ?_ ?_
     ·refine mr (s':=[.sl [bR q,bR (kC q)],I 1,.sl (fW (gA l K q))]) ?_ (mr (s':=[.sl [bR q,bR (kC q)],I 2,.sl (fW (gA l (gA l K q) (kC q)))]) ?_ (o7 (r:=(0,[.sl (fW (gA l (gA l K q) (kC q)))])) ?_ rfl))
      ·simp only[g0,g1,g2,D.els,ah,Option.bind_some,ae,decide_eq_true_eq,show((0:Int)<2) from by decide,if_true,List.length_cons,List.length_nil,show D.idx (I 0) (0+1+1)=some 0 from rfl,List.getElem?_cons_zero,av G1]
       exact aa (one K q b1) rfl
      ·simp only[g0,g1,g2,D.els,ah,Option.bind_some,ae,decide_eq_true_eq,show((1:Int)<2) from by decide,if_true,List.length_cons,List.length_nil,show D.idx (I 1) (0+1+1)=some 1 from rfl,List.getElem?_cons_succ,List.getElem?_cons_zero,av lg]
       exact aa (one (gA l K q) (kC q) b4) rfl
      ·simp only[g0,g1,g2,D.els,ah,Option.bind_some,ae];rfl
     ·simp only[g0,D.els,av (ar (i:=k) (by omega)),Option.bind_some]
      rfl
   ·obtain⟨K,rfl,hK⟩:=hJ
    simp only[g0,g1,ah,Option.bind_some,ae,decide_eq_true_eq,Int.lt_irrefl,if_false,D.els]
    refine⟨_,rfl,.inl [I ((j+1:Nat):Int),.sl (fW K)],?_,K,rfl,hK.next⟩
    simp only[g0,D.els,av (ar (i:=j) (by omega)),Option.bind_some]
    rfl
  ·obtain⟨K,rfl,hK⟩:=hJ
   simp only[g0,g1,ah,Option.bind_some,ae,decide_eq_true_eq,Int.lt_irrefl,if_false,D.els]
   refine⟨_,rfl,.inl [I ((i+1:Nat):Int),.sl (fW K)],?_,K,rfl,hK.next2⟩
   simp only[g0,D.els,av (ar (i:=i) (by omega)),Option.bind_some]
   rfl
 ·obtain⟨K,rfl,hK⟩:=hJ
  simp only[g0,g1,List.length_map,ah,Option.bind_some,ae,decide_eq_true_eq,Int.lt_irrefl,if_false,D.els]
  obtain⟨L,p1,p2⟩:=y7 (fun q:V×Int=>q.1) K hK.keys
  refine⟨_,rfl,.sl (L.map bR),?_,K,L,hK,p1,p2,rfl⟩
  have hKl:(fW K).length<=1073741824:=by
   have:=hK.len hlen
   simp only[fW,List.length_map];omega
  simp only[g0,D.els,hKl,decide_true,if_true,zG,Fx (n+2) p1 p2,Option.bind_some]
end Sy
end
noncomputable section
namespace Sy
open Go Go.Proofs Geo
theorem iL{l:List V}{q:V×Int}:supp l q=true↔qZ (pt l) l.length q.1 q.2:=by
 simp only[supp,nR,iB,Bool.and_eq_true,List.all_eq_true,List.any_eq_true,decide_eq_true_eq,qZ,pt]
 constructor
 ·rintro⟨h1,x,hx,h2⟩
  obtain⟨k,hk,rfl⟩:=List.getElem_of_mem hx
  exact⟨fun k hk=>h1 _ (bL hk),k,hk,by simpa [List.getD,hk] using h2⟩
 ·rintro⟨h1,k,hk,h2⟩
  refine⟨fun x hx=>?_,_,bL hk,h2⟩
  obtain⟨k,hk,rfl⟩:=List.getElem_of_mem hx
  simpa [List.getD,hk] using h1 k hk
theorem FI(P:Nat->V)(i j k:Nat):V.cross ((P j).sub (P i)) ((P k).sub (P i))=(er P k j i).neg:=by
 apply V.ext'<;>simp only[er,wy,V.cross,V.sub,V.neg]<;>grind
theorem u7{P:Nat->V}{i j k:Nat}:V.dot (bA (er P i j k)) (P k)=V.dot (bA (er P i j k)) (P i):=by
 by_cases h:er P i j k=V.zero
 ·have e0:bA V.zero=V.zero:=by apply V.ext'<;>simp[bA,V.zero]
  rw[h,e0];simp[V.dot,V.zero]
 ·have g:=jJ h
  have e:=iE (er P i j k)
  have t2:V.dot (er P i j k) (wy P i k)=0:=by simp only[er,V.dot,V.cross];grind
  rw[e] at t2
  have:(bi (er P i j k):Int)*V.dot (bA (er P i j k)) (wy P i k)=0:=by rw[<-t2];simp only[V.dot,V.smul];grind
  have h0:=bq (by omega) this
  rw[nh] at h0
  omega
theorem BP{v:V}(h:v≠V.zero):v.neg≠V.zero:=fun e=>by
 have e1:=congrArg V.x e;have e2:=congrArg V.y e;have e3:=congrArg V.z e
 simp only[V.neg,V.zero] at e1 e2 e3
 exact h (V.ext' (by simp only[V.zero];omega) (by simp only[V.zero];omega) (by simp only[V.zero];omega))
theorem FG(l:List V)(i j k:Nat):(mI (pt l i) (pt l j) (pt l k)).1=(bA (er (pt l) k j i)).neg:=by
 simp only[mI,FI (pt l) i j k,BY]
theorem vY(v:V):v.neg.neg=v:=by apply V.ext'<;>simp[V.neg]
theorem AM{l:List V}{i j k:Nat}{q:V×Int}:Cd l i j k q↔er (pt l) k j i≠V.zero/\(q.1=bA (er (pt l) k j i)\/q.1=(bA (er (pt l) k j i)).neg)/\q.2=V.dot q.1 (pt l k):=by
 have e:=FG l i j k
 have hd:V.dot (bA (er (pt l) k j i)) (pt l i)=V.dot (bA (er (pt l) k j i)) (pt l k):=u7
 have hz:(mI (pt l i) (pt l j) (pt l k)).1≠V.zero↔er (pt l) k j i≠V.zero:=by
  rw[e]
  constructor
  ·intro h h0;rw[h0] at h;exact h rfl
  ·intro h;exact BP (pa h)
 constructor
 ·intro h
  have hds:=h.dist
  obtain⟨h1,h2⟩:=h
  refine⟨hz.1 h1,?_⟩
  have hq:q.1=bA (er (pt l) k j i)\/q.1=(bA (er (pt l) k j i)).neg:=by
   rcases h2 with rfl|rfl
   ·exact .inr e
   ·left
    show(mI (pt l i) (pt l j) (pt l k)).1.neg=_
    rw[e,vY]
  refine⟨hq,?_⟩
  rw[hds]
  rcases hq with hq|hq
  ·rw[hq];exact hd
  ·rw[hq,kh,kh];exact congrArg Neg.neg hd
 ·rintro⟨h1,h2,h3⟩
  refine⟨hz.2 h1,?_⟩
  have e2:(mI (pt l i) (pt l j) (pt l k)).2=V.dot (mI (pt l i) (pt l j) (pt l k)).1 (pt l i):=rfl
  obtain⟨a,b⟩:=q
  simp only at h2 h3
  subst h3
  rcases h2 with rfl|rfl
  ·right
   show _=((mI (pt l i) (pt l j) (pt l k)).1.neg,-(mI (pt l i) (pt l j) (pt l k)).2)
   rw[e2,e,vY,kh,hd,Int.neg_neg]
  ·left
   refine Prod.ext e.symm ?_
   show _=(mI (pt l i) (pt l j) (pt l k)).2
   rw[e2,e,kh,kh,hd]
theorem Known.facets{l:List V}{K L:List (V×Int)}(h:Known l l.length 0 0 K)(hp:L.Perm K)(ho:L.Pairwise (fun a b=>az a.1 b.1)):Facets (pt l) l.length L:=by
 refine⟨ho,fun q=>⟨fun hq=>?_,fun hq=>?_⟩⟩
 ·obtain⟨hs,i,j,k,h1,h2,h3,hc⟩:=h.ok q (hp.subset hq)
  obtain⟨c1,c2,c3⟩:=AM.1 hc
  exact⟨⟨k,j,i,h1,h2,h3,c1,c2,c3⟩,iL.1 hs⟩
 ·obtain⟨⟨i,j,k,h1,h2,h3,c1,c2,c3⟩,hs⟩:=hq
  exact hp.symm.subset (h.all k j i h1 h2 h3 (.inl h3) q (AM.2 ⟨c1,c2,c3⟩) (iL.2 hs))
end Sy
end
noncomputable section
namespace Sy
open Go Go.Proofs Geo
def ic:Option Nat->D
 | none=>I (-1)
 | some b=>I (b:Int)
theorem G6{α:Type}{p:Prop}[Decidable p]{A B:α}(h:p):(if decide p=true then A else B)=A:=by rw[if_pos (decide_eq_true h)]
theorem G7{α:Type}{p:Prop}[Decidable p]{A B:α}(h:¬ p):(if decide p=true then A else B)=B:=by rw[if_neg (by simpa using h)]
theorem aH{α:Type}{p:Prop}[Decidable p]{A B y:α}(h:p)(hA:A=y):(if decide p=true then A else B)=y:=by rw[if_pos (decide_eq_true h)];exact hA
theorem aD{α:Type}{p:Prop}[Decidable p]{A B y:α}(h:¬ p)(hA:B=y):(if decide p=true then A else B)=y:=by rw[if_neg (by simpa using h)];exact hA
theorem Cf{x:Int}:sg x<0↔x<0:=by unfold sg;split<;>(try split)<;>omega
theorem uk{x:Int}:sg x=0↔x=0:=by unfold sg;split<;>(try split)<;>omega
theorem bP(a b:Nat):D.beq (I (a:Int)) (I (b:Int))=decide (a=b):=by
 rw[bk];by_cases h:a=b<;>simp[h];omega
theorem GQ(n:Nat){l:List V}(hl:∀ x∈l,bd MV x){m:V}{d:Int}{a k:Nat}{best:Option Nat}(hm0:m≠V.zero)(ha:a<l.length)(hk:k<l.length)(hb:∀ b,best=some b->b<l.length/\V.dot m (wy (pt l) a b)=0)(hk0:V.dot m (wy (pt l) a k)=0)(X:D) :
  (Option.bind (D.truth (D.bool (D.beq (I (k:Int)) (I (a:Int))))) fun b25=>
  if b25 then(some ((0:Nat),[ic best,X])) else(Option.bind (D.bin .lss (ic best) (D.int .i64 0)) fun x26=>
  Option.bind (D.truth x26) fun b27=>
  if b27 then(some (0,[I (k:Int),X])) else(Option.bind (D.asSl (aN l)) fun l28=>
  Option.bind (D.idx (I (k:Int)) (List.length l28)) fun i29=>
  Option.bind (l28[i29]?) fun x30=>
  Option.bind (D.asSl (aN l)) fun l31=>
  Option.bind (D.idx (I (a:Int)) (List.length l31)) fun i32=>
  Option.bind (l31[i32]?) fun x33=>
  Option.bind (cA (n+4) 103 [x30,x33]) fun r34=>
  Option.bind (D.asSl (aN l)) fun l35=>
  Option.bind (D.idx (ic best) (List.length l35)) fun i36=>
  Option.bind (l35[i36]?) fun x37=>
  Option.bind (D.asSl (aN l)) fun l38=>
  Option.bind (D.idx (I (a:Int)) (List.length l38)) fun i39=>
  Option.bind (l38[i39]?) fun x40=>
  Option.bind (cA (n+4) 103 [x37,x40]) fun r41=>
  Option.bind (D.get (bR (m,d)) [0]) fun x42=>
  Option.bind (cA (n+4) 104 [x42,r41,r34]) fun r43=>
  Option.bind (D.bin .lss r43 (D.int .i64 0)) fun x44=>
  Option.bind (D.truth x44) fun b45=>
  Option.bind (if b45 then(some true) else(Option.bind (D.truth (D.bool (D.beq r43 (D.int .i64 0)))) fun b46=>
  if b46 then(Option.bind (cA (n+4) 101 [r34,r34]) fun r47=>
  Option.bind (cA (n+4) 101 [r41,r41]) fun r48=>
  Option.bind (D.bin .gtr r47 r48) fun x49=>
  D.truth x49) else(some false))) fun b50=>
  Option.bind (D.truth (D.bool b50)) fun b51=>
  if b51 then(some (0,[I (k:Int),X])) else(some (0,[ic best,X])))))=some (0,[ic (cH m (pt l) a best k),X]):=by
 by_cases hka:k=a
 ·subst hka
  have h0:D.beq (I (k:Int)) (I (k:Int))=true:=by rw[bP];simp
  rw[h0,show cH m (pt l) k best k=best from if_pos rfl]
  exact aa (z:=true) rfl (if_pos rfl)
 ·have h0:D.beq (I (k:Int)) (I (a:Int))=false:=by rw[bP];simp[hka]
  rw[h0]
  refine aa (z:=false) rfl ?_
  rw[if_neg (by decide)]
  have hns:∀ b,cH m (pt l) a b k=match b with
   | none=>some k
   | some b=>if mU m (pt l) a b k then some k else some b:=fun b=>if_neg hka
  rw[hns]
  clear hns h0
  cases best with
  | none=>exact aa (z:=.bool true) rfl (aa (z:=true) rfl rfl)
  | some b=>
   obtain⟨hb1,hb2⟩:=hb b rfl
   have c1:=EB (n+2) (hl _ (bL hk)) (hl _ (bL ha)) (by decide)
   have c2:=EB (n+2) (hl _ (bL hb1)) (hl _ (bL ha)) (by decide)
   have w1:bd 524288 (wy (pt l) a k):=gT (hl _ (bL ha)) (hl _ (bL hk))
   have w2:bd 524288 (wy (pt l) a b):=gT (hl _ (bL ha)) (hl _ (bL hb1))
   have e1:(l.getD k V.zero).sub (l.getD a V.zero)=wy (pt l) a k:=rfl
   have e2:(l.getD b V.zero).sub (l.getD a V.zero)=wy (pt l) a b:=rfl
   rw[e1] at c1;rw[e2] at c2
   have c3:=NT (n+1) (m:=m) w2 w1 (by decide)
   have c4:=A3 (n+3) w1 w1 (by decide)
   have c5:=A3 (n+3) w2 w2 (by decide)
   have hle:=yM hm0 (rK hb2 hk0)
   rw[hle] at c3
   have hlt:¬ ((b:Int)<0):=by omega
   have ll:(l.map af).length=l.length:=List.length_map ..
   refine aa (z:=.bool false) (by rw[show ic (some b)=I (b:Int) from rfl,ah,decide_eq_false hlt]) (aa (z:=false) rfl ?_)
   rw[if_neg (by decide)]
   refine aa (z:=l.map af) rfl (aa (z:=k) (by rw[ll];exact ao hk) (aa (co hk) ?_))
   refine aa (z:=l.map af) rfl (aa (z:=a) (by rw[ll];exact ao ha) (aa (co ha) ?_))
   refine aa c1 ?_
   refine aa (z:=l.map af) rfl (aa (z:=b) (by rw[ll];exact ao hb1) (aa (co hb1) ?_))
   refine aa (z:=l.map af) rfl (aa (z:=a) (by rw[ll];exact ao ha) (aa (co ha) ?_))
   refine aa c2 (aa (z:=af m) rfl (aa c3 (aa ah (aa ae ?_))))
   simp only[Cf,bk,uk,ae,Option.bind_some,c4,c5,bS,mU,T]
   by_cases t1:V.dot m (V.cross (wy (pt l) a b) (wy (pt l) a k))<0
   ·simp[t1,ic]
   ·by_cases t2:V.dot m (V.cross (wy (pt l) a b) (wy (pt l) a k))=0
    ·by_cases t3:V.dot (wy (pt l) a b) (wy (pt l) a b)<V.dot (wy (pt l) a k) (wy (pt l) a k)
     ·simp[t2,t3,ic]
     ·simp[t2,t3,ic]
    ·simp[t1,t2,ic]
end Sy
end
noncomputable section
namespace Sy
open Go Go.Proofs Geo
def ag(L:List Nat):List D:=L.map fun(k:Nat)=>I (k:Int)
theorem aj(L:List Nat):(ag L).length=L.length:=List.length_map ..
theorem rO{L:List Nat}{t k:Nat}(h:L[t]?=some k):(ag L)[t]?=some (I (k:Int)):=by simp[ag,h]
theorem yG{n:Nat}(h:0<n):D.idx (D.int .i64 0) n=some 0:=ao (i:=0) h
theorem pV{m:V}{P:Nat->V}{a:Nat}:∀ (L:List Nat) (best:Option Nat) (b:Nat),L.foldl (cH m P a) best=some b->b∈L\/best=some b
 | [],best,b,h=>.inr h
 | k::L,best,b,h=>by
  rw[List.foldl_cons] at h
  rcases pV L _ b h with h1|h1
  ·exact .inl (List.mem_cons_of_mem _ h1)
  ·unfold cH at h1
   split at h1
   ·exact .inr h1
   ·split at h1
    ·cases h1;exact .inl List.mem_cons_self
    ·split at h1<;>cases h1
     ·exact .inl List.mem_cons_self
     ·exact .inr rfl
theorem pC{body:Bd}{S:Nat->Nat->Prop}{a:Nat}{G:Nat->Prop}(hS:∀ c b,G c->S c b->b≠a->G b)
  (hstep:∀ (c b:Nat) (out:List Nat),G c->c≠a->S c b->out.length<=1000->body [.sl (ag out),I (c:Int)]=some (.inl [.sl (ag (out++[c])),I (b:Int)]))
  (hend:∀ out:List Nat,body [.sl (ag out),I (a:Int)]=some (.inr (0,[.sl (ag out)]))) :
  ∀ {c:Nat} {p:List Nat},Chain S a c p->G c->c≠a->∀ out:List Nat,(out++p).length<=1000->aP body [.sl (ag out),I (c:Int)]=some (0,[.sl (ag (out++p))])
 | c,_,.done s,hc,hca,out,hl=>by
  have h1:=hstep c a out hc hca s (by simp at hl;omega)
  rw[show aP body [.sl (ag out),I (c:Int)]=aP body [.sl (ag (out++[c])),I (a:Int)] from cJ h1]
  exact cl (hend _)
 | c,_,.step (y:=y) (l:=p) s hy k,hc,hca,out,hl=>by
  have h1:=hstep c y out hc hca s (by simp at hl;omega)
  rw[show aP body [.sl (ag out),I (c:Int)]=aP body [.sl (ag (out++[c])),I (y:Int)] from cJ h1]
  have:=pC hS hstep hend k (hS c y hc s hy) hy (out++[c]) (by simpa using hl)
  rw[this];simp
theorem iD{P:Nat->V}{i:Nat}{m:V}{d:Int}:br P (i+1) m d=if V.dot m (P i)=d then br P i m d++[i] else br P i m d:=by
 unfold br
 rw[List.range_succ,List.filter_append]
 by_cases h:V.dot m (P i)=d
 ·simp[h]
 ·simp[h]
theorem Te(n:Nat){l:List V}(hl:∀ x∈l,bd MV x)(hlen:l.length<=100)(hs:∀ i j,i<j->j<l.length->az (pt l i) (pt l j)){m:V}{d:Int}(hF:IsF (pt l) l.length m d)(hm:bd 549755813888 m) :
  ∃ p,cb (pt l) l.length m d p/\cA (n+5) 46 [aN l,bR (m,d)]=some (.sl (ag p)):=by
 obtain⟨p,hp,hnd,hmem⟩:=hF.poly hs
 refine⟨p,hp,?_⟩
 have F:=hF.flat hs
 obtain⟨a,ha1,ha,hea,hale,h3⟩:=hF.head hs
 obtain⟨a',ha1',hch⟩:=hp
 rw[ha1] at ha1';cases ha1'
 obtain⟨on,hon⟩:∃ on,br (pt l) l.length m d=on:=⟨_,rfl⟩
 rw[hon] at F ha1 ha hea hale h3 hch hmem
 have hlt:∀ k∈on,k<l.length:=fun k hk=>by rw[<-hon] at hk;exact(ca.1 hk).1
 have hdk:∀ k∈on,V.dot m (pt l k)=d:=fun k hk=>by rw[<-hon] at hk;exact(ca.1 hk).2
 have hw:∀ b∈on,∀ k∈on,V.dot m (wy (pt l) b k)=0:=fun b hb k hk=>by rw[nh,hdk b hb,hdk k hk];omega
 have honl:on.length<=100:=by
  rw[<-hon];unfold br
  exact Nat.le_trans (List.length_filter_le _ _) (by rw[List.length_range];exact hlen)
 have hpl:p.length<=on.length:=List.Nodup.length_le_of_subset hnd fun z hz=>((hmem z).1 hz).1
 have ll:(l.map af).length=l.length:=List.length_map ..
 have hcore:=fun(c k:Nat) (hc:c∈on) (hk:k∈on) (best:Option Nat) (hb:∀ b,best=some b->b∈on) (X:D)=>GQ n hl (d:=d) hF.nz.1 (hlt c hc) (hlt k hk) (best:=best) (fun b e=>⟨hlt b (hb b e),hw c hc b (hb b e)⟩) (hw c hc k hk) X
 have hnx:∀ c∈on,Geo.jz (pt l) on c->∃ b,on.foldl (cH m (pt l) c) none=some b/\Side m (pt l) on c b:=fun c hc ec=>sC F hc ec (h3 c hc)
 obtain⟨t0,hon0⟩:∃ t0,on=a::t0:=by
  cases hx:on with
  | nil=>rw[hx] at ha;simp at ha
  | cons y t0=>rw[hx] at ha1;simp at ha1;subst ha1;exact⟨t0,rfl⟩
 have hget0:(ag on)[0]?=some (I (a:Int)):=by rw[hon0];rfl
 have hpos:0<(ag on).length:=by rw[aj,hon0];simp
 rw[Tr]
 unfold Jv
 refine aa (z:=l.map af) rfl ?_
 refine ba (fun i s=>s=[I (i:Int),.sl (ag (br (pt l) i m d))]) l.length 0 (Nat.zero_le _) rfl (fun i hi s hJ=>?_) (fun s hJ=>?_)
 ·subst hJ
  left
  refine⟨_,?_,rfl⟩
  refine aa ah (aa ae ?_)
  refine aH (by show((i:Int)<((l.map af).length:Int));rw[ll];omega) ?_
  refine aa (z:=(0,[.sl (ag (br (pt l) (i+1) m d))])) ?_ (aa (av (ar (i:=i) (by omega))) rfl)
  refine aa (z:=l.map af) rfl (aa (z:=i) (by rw[ll];exact ao hi) (aa (co hi) (aa (z:=af m) rfl (aa (A3 (n+3) hm (hl _ (bL hi)) (by decide)) (aa (z:=I d) rfl ?_)))))
  rw[bk]
  refine aa ae ?_
  rw[iD]
  by_cases hd:V.dot m (pt l i)=d
  ·have hd':V.dot m (l.getD i V.zero)=d:=hd
   rw[if_pos hd,G6 hd',if_pos ?_]
   ·simp[g1,D.els,ag,g0]
   ·have:(br (pt l) i m d).length<=i:=by unfold br;exact Nat.le_trans (List.length_filter_le _ _) (by simp)
    simp only[g0,g1,D.els,aj,List.length_cons,List.length_nil];omega
  ·have hd':¬ V.dot m (l.getD i V.zero)=d:=hd
   rw[if_neg hd,G7 hd']
   rfl
 ·subst hJ
  refine⟨(0,[.sl (ag on)]),?_,?_⟩
  ·refine aa ah (aa ae ?_)
   rw[<-hon]
   exact aD (by show ¬ ((l.length:Int)<((l.map af).length:Int));rw[ll];omega) rfl
  refine aa (yG hpos) (aa hget0 (aa (yG hpos) (aa hget0 ?_)))
  obtain⟨b1,hb1,hs1⟩:=hnx a ha hea
  refine ba (fun t s=>s=[ic ((on.take t).foldl (cH m (pt l) a) none),.sl (ag on),I (t:Int),.sl (ag on)]) on.length 0 (Nat.zero_le _) rfl (fun t ht s hJ=>?_) (fun s hJ=>?_)
  ·subst hJ
   left
   refine⟨_,?_,rfl⟩
   refine aa ah (aa ae ?_)
   refine aH (by show((t:Int)<((ag on).length:Int));rw[aj];omega) ?_
   have hk:on[t]?=some on[t]:=List.getElem?_eq_getElem ht
   refine aa (z:=(0,[ic ((on.take (t+1)).foldl (cH m (pt l) a) none),.sl (ag on)])) ?_ (aa (av (ar (i:=t) (by omega))) rfl)
   refine aa (z:=ag on) rfl (aa (z:=t) (by rw[aj];exact ao ht) (aa (rO hk) ?_))
   rw[List.take_succ_eq_append_getElem ht,List.foldl_append,List.foldl_cons,List.foldl_nil]
   exact hcore a on[t] ha (List.getElem_mem ht) _ (fun b hb=>by
    rcases pV _ _ b hb with h|h
    ·exact List.mem_of_mem_take h
    ·cases h) (.sl (ag on))
  ·subst hJ
   rw[List.take_length,hb1]
   refine⟨(0,[I (b1:Int),.sl (ag on)]),?_,?_⟩
   ·refine aa ah (aa ae ?_)
    refine aD (by show ¬ ((on.length:Int)<((ag on).length:Int));rw[aj];omega) ?_
    rfl
   obtain⟨p',hpp,hch',hy⟩:∃ p',p=a::p'/\Chain (Side m (pt l) on) a b1 p'/\b1≠a:=by
    cases hch with
    | done s=>exact absurd rfl s.ne
    | step s hne k=>
     have:=Side.unique F ha s hs1
     subst this
     exact⟨_,rfl,k,hne⟩
   refine jR (pC (S:=Side m (pt l) on) (a:=a) (G:=fun c=>c∈on/\Geo.jz (pt l) on c) (fun c b hc s _=>⟨s.mem,s.ext F hc.1⟩) (fun c b out hc hca hsd hol=>?_) (fun out=>?_) hch' ⟨hs1.mem,hs1.ext F ha⟩ hy [a] ?_) ?_
   ·obtain⟨b',hb',hsb'⟩:=hnx c hc.1 hc.2
    have:=Side.unique F hc.1 hsd hsb'
    subst this
    refine aa (z:=ag on) rfl (aa (yG hpos) (aa hget0 ?_))
    have e0:D.beq (I (c:Int)) (I (a:Int))=false:=by rw[bP];simp[hca]
    refine aa (z:=true) (by show D.truth (D.bool (!(D.beq (I (c:Int)) (I (a:Int)))))=_;rw[e0];rfl) ?_
    rw[if_pos rfl,if_pos (by simp only[g0,D.els,aj,List.length_cons,List.length_nil];omega)]
    refine aa (z:=ag on) rfl ?_
    refine dn (fun t s=>s=[ic ((on.take t).foldl (cH m (pt l) c) none),I (t:Int)]) on.length 0 (Nat.zero_le _) rfl (fun t ht s hJ=>?_) (fun s hJ=>?_)
    ·subst hJ
     left
     refine⟨_,?_,rfl⟩
     refine aa ah (aa ae ?_)
     refine aH (by show((t:Int)<((ag on).length:Int));rw[aj];omega) ?_
     have hk:on[t]?=some on[t]:=List.getElem?_eq_getElem ht
     refine aa (z:=(0,[ic ((on.take (t+1)).foldl (cH m (pt l) c) none),.sl (ag on)])) ?_ (aa (av (ar (i:=t) (by omega))) rfl)
     refine aa (z:=ag on) rfl (aa (z:=t) (by rw[aj];exact ao ht) (aa (rO hk) ?_))
     rw[List.take_succ_eq_append_getElem ht,List.foldl_append,List.foldl_cons,List.foldl_nil]
     exact hcore c on[t] hc.1 (List.getElem_mem ht) _ (fun b hb=>by
      rcases pV _ _ b hb with h|h
      ·exact List.mem_of_mem_take h
      ·cases h) (.sl (ag on))
    ·subst hJ
     rw[List.take_length,hb']
     refine⟨(0,[I (b:Int)]),?_,?_⟩
     ·refine aa ah (aa ae ?_)
      refine aD (by show ¬ ((on.length:Int)<((ag on).length:Int));rw[aj];omega) ?_
      rfl
     ·simp[g0,g1,D.els,ag]
   ·refine aa (z:=ag on) rfl (aa (yG hpos) (aa hget0 ?_))
    have e0:D.beq (I (a:Int)) (I (a:Int))=true:=by rw[bP];simp
    refine aa (z:=false) (by show D.truth (D.bool (!(D.beq (I (a:Int)) (I (a:Int)))))=_;rw[e0];rfl) ?_
    rfl
   ·have:([a]++p').length=p.length:=by rw[hpp];rfl
    omega
   ·rw[hpp];rfl
end Sy
end
noncomputable section
namespace Sy
open Go Go.Proofs Geo
def re(q:V×Int)(p:List Nat):D:=.st [af q.1,I q.2,.sl (ag p)]
def bv(l:List V):D:=.st [aN l]
def AX(l:List V):Prop:=∀ i j,i<j->j<l.length->az (pt l i) (pt l j)
theorem xh{l:List V}(hl:∀ x∈l,bd MV x){m:V}{d:Int}(h:IsF (pt l) l.length m d):bd 549755813888 m:=by
 obtain⟨i,j,k,h1,h2,h3,h4,h5,h6⟩:=h.ex
 have hi:=hl _ (bL (show i<l.length by omega))
 have hj:=hl _ (bL (show j<l.length by omega))
 have hk:=hl _ (bL h3)
 have:=gS (fL (gT (P:=pt l) hi hj) (gT (P:=pt l) hi hk))
 rcases h5 with rfl|rfl
 ·exact this
 ·exact kU this
theorem QV(n:Nat){l:List V}(hl:∀ x∈l,bd MV x)(hlen:l.length<=100)(hs:AX l):∃ (L:List (V×Int)) (poly:V×Int->List Nat),Facets (pt l) l.length L/\(∀ q∈L,cb (pt l) l.length q.1 q.2 (poly q))/\L.length<=2000000 ∧
  cA (n+7) 18 [bv l]=some (.sl (L.map fun q=>re q (poly q))):=by
 obtain⟨y,h1,K,L,h2,h3,h4,rfl⟩:=Td n hl hlen
 have hLF:=h2.facets h3 h4
 have hLl:L.length<=2000000:=by rw[h3.length_eq];exact h2.len hlen
 have hex:∀ q:V×Int,∃ p,q∈L->cb (pt l) l.length q.1 q.2 p/\cA (n+6) 46 [aN l,bR q]=some (.sl (ag p)):=fun q=>by
  by_cases hq:q∈L
  ·have hF:=(hLF.mem q).1 hq
   obtain⟨p,k1,k2⟩:=Te (n+1) hl hlen hs hF (xh hl hF)
   exact⟨p,fun _=>⟨k1,k2⟩⟩
  ·exact⟨[],fun h=>absurd h hq⟩
 obtain⟨poly,hpoly⟩:∃ poly:V×Int->List Nat,∀ q∈L,cb (pt l) l.length q.1 q.2 (poly q)/\cA (n+6) 46 [aN l,bR q]=some (.sl (ag (poly q))):=⟨fun q=>Classical.choose (hex q),fun q hq=>Classical.choose_spec (hex q) hq⟩
 refine⟨L,poly,hLF,fun q hq=>(hpoly q hq).1,hLl,?_⟩
 have hp:=fun q (hq:q∈L)=>(hpoly q hq).2
 rw[Th]
 unfold Jl
 refine aa (z:=aN l) rfl (aa h1 (aa (z:=L.map bR) rfl ?_))
 have ll:(L.map bR).length=L.length:=List.length_map ..
 refine ba (fun i s=>s=[.sl ((L.take i).map fun q=>re q (poly q)),I (i:Int)]) L.length 0 (Nat.zero_le _) rfl (fun i hi s hJ=>?_) (fun s hJ=>?_)
 ·subst hJ
  left
  refine⟨_,?_,rfl⟩
  refine aa ah (aa ae (aH (by show((i:Int)<((L.map bR).length:Int));rw[ll];omega) ?_))
  have hg:(L.map bR)[i]?=some (bR L[i]):=by simp[hi]
  refine aa (z:=L.map bR) rfl (aa (z:=i) (by rw[ll];exact ao hi) (aa hg ?_))
  refine aa (z:=af L[i].1) rfl (aa (z:=I L[i].2) rfl (aa (z:=aN l) rfl (aa (hp L[i] (List.getElem_mem hi)) ?_)))
  rw[if_pos (by simp only[g0,D.els,List.length_map,List.length_take,List.length_cons,List.length_nil];omega)]
  refine aa (av (ar (i:=i) (by omega))) ?_
  rw[List.take_succ_eq_append_getElem hi,List.map_append]
  rfl
 ·subst hJ
  refine⟨(0,[.sl ((L.take L.length).map fun q=>re q (poly q))]),?_,?_⟩
  ·refine aa ah (aa ae (aD (by show ¬ ((L.length:Int)<((L.map bR).length:Int));rw[ll];omega) rfl))
  ·rw[List.take_length];rfl
def eX(e:Nat×Nat):D:=.st [I (e.1:Int),I (e.2:Int)]
theorem iW{p:List Nat}{k:Nat}(h:k<p.length):(ag p)[k]?=some (I (p.getD k 0:Nat)):=by simp[ag,List.getD,h]
end Sy
end
end Go.Proofs.YtpahompifldeeaaGreat
