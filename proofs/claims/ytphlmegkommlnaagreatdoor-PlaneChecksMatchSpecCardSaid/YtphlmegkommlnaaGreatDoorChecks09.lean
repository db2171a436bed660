/- Part 9 of the proof that PlaneChecksMatchSpec answers true at every input -/
import Derived.Test.YtphlmegkommlnaaGreatDoorChecks06
import Derived.Test.YtphlmegkommlnaaGreatDoorChecks07
import Derived.Test.YtphlmegkommlnaaGreatDoorChecks08
import Derived.Test.YtphlmegkommlnaaGreatDoorProg
import Derived.Test.YtphlmegkommlnaaGreatDoorChecked
import Derived.Shelf.SlSortCmp.NoneTotal
import Derived.Ground.SlsfProg
import Derived.KernelRfl
set_option linter.unusedVariables false
set_option linter.unusedSimpArgs false
set_option linter.unnecessarySimpa false
set_option linter.defProp false
set_option maxRecDepth 20000
namespace Go.Proofs.YtphlmegkommlnaaGreatDoor
noncomputable section
namespace Sy
open Go Go.Proofs Go.Shelf Go.RowKit Go.Lib Go.Sort
def MI {P : Program} {f : Nat} (h : (match P.funcs[f]? with | some fn => !(fn.name == "runtime.NumGoroutine") && fn.body.isSome | none => false) = true) : ∃ fn, P.funcs[f]? = some fn /\ (fn.name == "runtime.NumGoroutine") = false /\ fn.body.isSome = true := by
 split at h
 ·rename_i fn hf;simp only[zaa,zxa] at h;exact⟨fn,hf,h.1,h.2⟩
 ·cases h
def E2:SortOk Tryz.prog 190 K8:=
 ⟨rfl,rfl,by decide,rfl,MI (by kernel_rfl),λp cap fv w=>AnyF.slices_SortFunc_none Tryz.sortE p cap fv w,
  λ_ _ enc hk h1 cf hO g blk off cap d w eg hcmp hH hblk hsz=>AnyQ.slices_SortFunc Tryz.sortE 2 Tryz.isAgg134 Tryz.sizeOf134 enc hk h1 cf hO g #[] blk off cap d w eg hcmp hH hblk hsz⟩
def E3:SortOk Tryz.prog 177 de:=
 ⟨rfl,rfl,by decide,rfl,MI (by kernel_rfl),λp cap fv w=>AnyF.slices_SortFunc_none Tryz.sortP p cap fv w,
  λ_ _ enc hk h1 cf hO g blk off cap d w eg hcmp hH hblk hsz=>AnyQ.slices_SortFunc Tryz.sortP 4 Tryz.isAgg140 Tryz.sizeOf140 enc hk h1 cf hO g #[] blk off cap d w eg hcmp hH hblk hsz⟩
end Sy
end
noncomputable section
set_option maxHeartbeats 0
namespace Sy
open Go Go.Proofs
def Jd:Code->Code|.block _ c=>c|c=>c
def inLoop:Code->Code|.loop c=>c|c=>c
def VH:Code->Code|.seq a _=>a|c=>c
def Oh:Code->Code|.seq _ b=>b|c=>c
def MT:Code->List Oper|.region _ o _=>o.toList|_=>[]
def No:AnnT:=(.seq .leaf (.seq .leaf (.seq (.two .leaf (.two (.loop ⟨[(3,.ow K8),(12,.dv (Ty.int .i64))],[],[10,11]⟩ [(.exit 0,⟨[(3,.ow K8)],[],[]⟩)] (.two .leaf (.two .leaf (.two (.two (.two .leaf (.two .leaf (.two (.loop ⟨[(3,.ow K8),(5,.same (.ptr K6 24581 [])),(19,.dv (Ty.int .i64))],[(24581,.keep K6 5)],[10,11,12,17,18]⟩ [(.exit 2,⟨[(3,.ow K8)],[],[10,11,12]⟩)] (.two .leaf (.two .leaf (.cut [(.normal,⟨[(3,.ow K8),(5,.same (.ptr K6 24581 []))],[(24581,.keep K6 5)],[10,11,12,17,18,19]⟩)] [10,11,12,17,18,19] [24581] (.two (.two .leaf (.two (.reg [] 10) .leaf)) .leaf) .leaf)))) .leaf))) .leaf) .leaf)))) .leaf)) .hand)))
def Nt(lp:Lp)(call:Nat->List D->Option D)(a0:D):Option D:=
 Option.bind (call 18 [a0]) λr1=>
 Option.bind (D.asSl r1) λl2=>
 Option.bind (lp (β:=Nat×List D) (λ(v3:List D)=>
 Option.bind (D.bin .lss (gx v3 1) (D.int .i64 (List.length l2))) λx4=>
 Option.bind (D.truth x4) λb5=>
 if b5 then(Option.bind (D.asSl r1) λl6=>
 Option.bind (D.idx (gx v3 1) (List.length l6)) λi7=>
 Option.bind (l6[i7]?) λx8=>
 Option.bind (D.get x8 [2]) λx9=>
 Option.bind (D.asSl x9) λl10=>
 Option.bind (lp (β:=Nat×List D) (λ(v11:List D)=>
 Option.bind (D.bin .lss (gx v11 1) (D.int .i64 (List.length l10))) λx12=>
 Option.bind (D.truth x12) λb13=>
 if b13 then(Option.bind (Option.bind (D.asSl x9) λl14=>
 Option.bind (D.idx (gx v11 1) (List.length l14)) λi15=>
 Option.bind (l14[i15]?) λx16=>
 Option.bind (D.get x8 [2]) λx17=>
 Option.bind (D.bin .add (gx v11 1) (D.int .i64 1)) λx18=>
 Option.bind (D.get x8 [2]) λx19=>
 Option.bind (D.asSl x19) λl20=>
 Option.bind (D.bin .rem x18 (D.int .i64 (List.length l20))) λx21=>
 Option.bind (D.asSl x17) λl22=>
 Option.bind (D.idx x21 (List.length l22)) λLd=>
 Option.bind (l22[Ld]?) λx24=>
 Option.bind (D.bin .lss x16 x24) λx25=>
 Option.bind (D.truth x25) λb26=>
 if b26 then(if List.length (D.els (gx v11 0))+List.length [(D.st [x16,x24])]<=1073741824 then(some (0,[(D.sl ((D.els (gx v11 0))++[(D.st [x16,x24])]))])) else none) else(some (0,[(D.sl (D.els (gx v11 0)))]))) λ(r27:Nat×List D)=>
 Option.bind (D.bin .add (gx v11 1) (D.int .i64 1)) λx28=>
 some (Sum.inl [(D.sl (D.els (gx r27.2 0))),x28])) else(some (Sum.inr (0,[(D.sl (D.els (gx v11 0)))])))) [(D.sl (D.els (gx v3 0))),(D.int .i64 0)]) λr29=>
 Option.bind (D.bin .add (gx v3 1) (D.int .i64 1)) λx30=>
 some (Sum.inl [(D.sl (D.els (gx r29.2 0))),x30])) else(some (Sum.inr (0,[(D.sl (D.els (gx v3 0)))])))) [(D.sl []),(D.int .i64 0)]) λr31=>
 Option.bind (if decide (List.length (D.els (gx r31.2 0))<=1073741824) then some (D.els (gx r31.2 0)) else none) λl1=>
 Option.bind (iB (cX lp call (jF lp call)) (cc 51) l1) λl2=>some (D.sl l2)
def Ws(lp:Lp)(call:Nat->List D->Option D)(a0:D):HX (cX lp call (jF lp call)) (Bn (cX lp call (jF lp call)) 48 3 (cc 51) K8) Tryz.f139 No [K3] [a0]=Nt lp call a0:=by kernel_rfl
def Lh:AnnT:=(.seq .leaf (.seq .leaf (.seq (.two .leaf (.two (.loop ⟨[(3,.same (.map de Ty.bool 8204)),(15,.dv (Ty.int .i64))],[(8204,.mp de Ty.bool)],[0,14]⟩ [(.exit 0,⟨[(3,.same (.map de Ty.bool 8204))],[(8204,.mp de Ty.bool)],[]⟩)] (.two .leaf (.two .leaf (.two (.two (.two .leaf (.two .leaf (.two (.loop ⟨[(3,.same (.map de Ty.bool 8204)),(19,.dv (Ty.int .i64))],[(8204,.mp de Ty.bool)],[0,4,14,15,18]⟩ [(.exit 2,⟨[(3,.same (.map de Ty.bool 8204))],[(8204,.mp de Ty.bool)],[0,14,15]⟩)] (.two .leaf (.two .leaf (.two (.two (.two .leaf (.two .leaf (.two (.loop ⟨[(3,.same (.map de Ty.bool 8204)),(23,.dv (Ty.int .i64))],[(8204,.mp de Ty.bool)],[0,4,5,14,15,18,19,22]⟩ [(.exit 4,⟨[(3,.same (.map de Ty.bool 8204))],[(8204,.mp de Ty.bool)],[0,4,14,15,18,19]⟩)] (.two .leaf (.two .leaf (.cut [(.normal,⟨[(3,.same (.map de Ty.bool 8204))],[(8204,.mp de Ty.bool)],[0,4,5,14,15,18,19,22,23]⟩)] [0,4,5,14,15,18,19,22,23] [] (.two (.two .leaf (.two (.reg [] 14) (.two .leaf (.two .leaf (.two (.loop ⟨[(3,.same (.map de Ty.bool 8204)),(51,.ow de),(53,.dv (Ty.int .i64))],[(8204,.mp de Ty.bool)],[0,4,5,14,15,18,19,22,23,52]⟩ [(.exit 6,⟨[(3,.same (.map de Ty.bool 8204))],[(8204,.mp de Ty.bool)],[0,4,5,14,15,18,19,22,23]⟩)] (.two .leaf (.two .leaf (.cut [(.normal,⟨[(3,.same (.map de Ty.bool 8204)),(51,.ow de)],[(8204,.mp de Ty.bool)],[0,4,5,14,15,18,19,22,23,52,53]⟩)] [0,4,5,14,15,18,19,22,23,52,53] [] .leaf .leaf)))) .leaf))))) .leaf) .leaf)))) .leaf))) .leaf) .leaf)))) .leaf))) .leaf) .leaf)))) .leaf)) (.seq .leaf .hand))))
def KS(lp:Lp)(call:Nat->List D->Option D)(a0:D):Option D:=
 Option.bind (D.asSl a0) λl1=>
 Option.bind (lp (β:=Nat×List D) (λ(v2:List D)=>
 Option.bind (D.bin .lss (gx v2 0) (D.int .i64 (List.length l1))) λx3=>
 Option.bind (D.truth x3) λb4=>
 if b4 then(Option.bind (lp (β:=Nat×List D) (λ(v5:List D)=>
 Option.bind (D.bin .lss (gx v5 0) (gx v2 0)) λx6=>
 Option.bind (D.truth x6) λb7=>
 if b7 then(Option.bind (lp (β:=Nat×List D) (λ(v8:List D)=>
 Option.bind (D.bin .lss (gx v8 0) (gx v5 0)) λx9=>
 Option.bind (D.truth x9) λb10=>
 if b10 then(Option.bind (Option.bind (D.asSl a0) λl11=>
 Option.bind (D.idx (gx v2 0) (List.length l11)) λs9=>
 Option.bind (l11[s9]?) λx13=>
 Option.bind (D.asSl a0) λl14=>
 Option.bind (D.idx (gx v5 0) (List.length l14)) λi15=>
 Option.bind (l14[i15]?) λx16=>
 Option.bind (D.asSl a0) λl17=>
 Option.bind (D.idx (gx v8 0) (List.length l17)) λi18=>
 Option.bind (l17[i18]?) λx19=>
 Option.bind (call 96 [x13,x16,x19]) λr20=>
 Option.bind (D.get r20 [0]) λx21=>
 Option.bind (D.truth (D.bool (D.beq x21 (D.st [(D.int .i64 0),(D.int .i64 0),(D.int .i64 0)])))) λb22=>
 if b22 then(some (0,[(D.sl (D.els (gx v8 1)))])) else(Option.bind (D.get r20 [0]) λx23=>
 Option.bind (call 97 [x23]) λr24=>
 Option.bind (D.get r20 [1]) λx25=>
 Option.bind (D.un .neg x25) λx26=>
 Option.bind (lp (β:=Nat×List D) (λ(v27:List D)=>
 Option.bind (D.bin .lss (gx v27 1) (D.int .i64 2)) λx28=>
 Option.bind (D.truth x28) λb29=>
 if b29 then(Option.bind (Option.bind (D.idx (gx v27 1) (List.length (D.els (gx v27 0)))) λi30=>
 Option.bind ((D.els (gx v27 0))[i30]?) λx31=>
 Option.bind (D.un .not (Option.getD (D.mget (D.els (gx v27 2)) x31) (D.bool false))) λx32=>
 Option.bind (D.truth x32) λb33=>
 Option.bind (if b33 then(Option.bind (call 98 [a0,x31]) λr34=>
 D.truth r34) else(some false)) λb35=>
 Option.bind (D.truth (D.bool b35)) λb36=>
 if b36 then(some (0,[(D.sl (D.els (gx v27 0))),(D.sl (D.mput (D.els (gx v27 2)) x31 (D.bool true)))])) else(some (0,[(D.sl (D.els (gx v27 0))),(D.sl (D.els (gx v27 2)))]))) λ(r37:Nat×List D)=>
 Option.bind (D.bin .add (gx v27 1) (D.int .i64 1)) λx38=>
 some (Sum.inl [(D.sl (D.els (gx r37.2 0))),x38,(D.sl (D.els (gx r37.2 1)))])) else(some (Sum.inr (0,[(D.sl (D.els (gx v27 2)))])))) [(D.sl [r20,(D.st [r24,x26])]),(D.int .i64 0),(D.sl (D.els (gx v8 1)))]) λr39=>
 some (0,[(D.sl (D.els (gx r39.2 0)))]))) λ(r40:Nat×List D)=>
 Option.bind (D.bin .add (gx v8 0) (D.int .i64 1)) λx41=>
 some (Sum.inl [x41,(D.sl (D.els (gx r40.2 0)))])) else(some (Sum.inr (0,[(D.sl (D.els (gx v8 1)))])))) [(D.int .i64 0),(D.sl (D.els (gx v5 1)))]) λr42=>
 Option.bind (D.bin .add (gx v5 0) (D.int .i64 1)) λx43=>
 some (Sum.inl [x43,(D.sl (D.els (gx r42.2 0)))])) else(some (Sum.inr (0,[(D.sl (D.els (gx v5 1)))])))) [(D.int .i64 0),(D.sl (D.els (gx v2 1)))]) λr44=>
 Option.bind (D.bin .add (gx v2 0) (D.int .i64 1)) λx45=>
 some (Sum.inl [x45,(D.sl (D.els (gx r44.2 0)))])) else(some (Sum.inr (0,[(D.sl (D.els (gx v2 1)))])))) [(D.int .i64 0),(D.sl [])]) λr46=>
 if decide (List.length (D.els (gx r46.2 0))<=1073741824) then(Option.bind (iB (cX lp call (jF lp call)) (cc 100) (List.map tj (D.els (gx r46.2 0)))) λl2=>some (D.sl l2)) else none
def Wt(lp:Lp)(call:Nat->List D->Option D)(a0:D):HX (cX lp call (jF lp call)) (vU (cX lp call (jF lp call)) 85 3 10 (cc 100) de Ty.bool) Tryz.f128 Lh [K2] [a0]=KS lp call a0:=by kernel_rfl
def JH(f:Func):Code:=match f.body with|some c=>c|none=>.skip
def yk:Code:=Jd (Oh (Oh (inLoop (Jd (Oh (VH (pS (JH Tryz.f128) Lh)))))))
def zH:List Oper:=(MT (VH yk)).tail
def Tk:Code:=Oh yk
def Mx{lp:Lp}{call:Nat->List D->Option D}(hE:EnvOk Tryz.prog (cX lp call (jF lp call))){a0 y:D}(h:Nt lp call a0=some y):Jx Tryz.prog [K3] K9 (cc 21) [a0] y:=by
 refine q8 hE (f:=cc 21) (fn:=Tryz.f139) (ann:=No) (K:=Bn (cX lp call (jF lp call)) 48 3 (cc 51) K8) (by kernel_rfl) (by kernel_rfl) ((Ws lp call a0).trans h) ?_
 intro c hb w S S' γ' β' s' a' w' hR hd hK;have e:∀ c',Tryz.f139.body=some c'->(pS c' No).wpIn (FW none) 0 Tryz.prog (IY Tryz.prog Tryz.f139 w S K9 y) a' w'->(pS c No).wpIn (FW none) 0 Tryz.prog (IY Tryz.prog Tryz.f139 w S K9 y) a' w':=λc' h1 h2=>by
  rw[hb] at h1;cases h1;exact h2
 refine e _ rfl ?_;exact uM hE E2 (g:=191) ⟨by kernel_rfl,by kernel_rfl⟩ (by kernel_rfl) (x:=3) (t:=45) (d2:=46) (nt:=48) (ann:=.leaf) rfl rfl (by decide) (λl'=>by kernel_rfl) hR hd hK
def Ix{lp:Lp}{call:Nat->List D->Option D}:∀ X L k v,Jf de L X->L.length<1073741824->wt de k->ev (cX lp call (jF lp call)) (.region 0 (zH).toArray false) .leaf D ((σL 85 10 73 X).put (some 76) (.d (.tup [de,.bool]) (.tup [k,v]))) (λx s'=>match x with
   | .normal=>ev (cX lp call (jF lp call)) Tk .leaf D s' (λx s''=>match x with|.normal=>(db s'' de 10).bind λl=>some (.sl l)|_=>none)
   | _=>none)=some (.sl (L++[k])):=by
 intro X L k v hX hL _;rcases hX with⟨rfl,rfl⟩|rfl
 ·kernel_rfl
 ·have key:ev (cX lp call (jF lp call)) (.region 0 (zH).toArray false) .leaf D ((σL 85 10 73 (.own de 5 L)).put (some 76) (.d (.tup [de,.bool]) (.tup [k,v]))) (λx s'=>match x with
   | .normal=>ev (cX lp call (jF lp call)) Tk .leaf D s' (λx s''=>match x with|.normal=>(db s'' de 10).bind λl=>some (.sl l)|_=>none)
   | _=>none)=(if List.length L+List.length [k]<=1073741824 then(Option.bind (if decide (List.length (L++[k])<=1073741824) then some (L++[k]) else none) λl=>some (.sl l)) else none):=by kernel_rfl
  rw[key,if_pos (by simp;omega),if_pos (by simp;omega)]
  rfl
def My{lp:Lp}{call:Nat->List D->Option D}(hE:EnvOk Tryz.prog (cX lp call (jF lp call))){a0 y:D}(h:KS lp call a0=some y):Jx Tryz.prog [K2] KZ (cc 45) [a0] y:=by
 refine q8 hE (f:=cc 45) (fn:=Tryz.f128) (ann:=Lh) (K:=vU (cX lp call (jF lp call)) 85 3 10 (cc 100) de .bool) (by kernel_rfl) (by kernel_rfl) ((Wt lp call a0).trans h) ?_
 intro c hb w S S' γ' β' s' a' w' hR hd hK;have e:∀ c',Tryz.f128.body=some c'->(pS c' Lh).wpIn (FW none) 0 Tryz.prog (IY Tryz.prog Tryz.f128 w S KZ y) a' w'->(pS c Lh).wpIn (FW none) 0 Tryz.prog (IY Tryz.prog Tryz.f128 w S KZ y) a' w':=λc' h1 h2=>by
  rw[hb] at h1;cases h1;exact h2
 refine e _ rfl ?_;exact zJ hE rfl rfl rfl rfl (by kernel_rfl) (t72:=72) (m0:=3) (it:=73) (T:=183) (nx:=74) (ok:=75) (en:=76) (o:=10) (nt:=85) (c26:=Tk) (rest:=zH) rfl rfl rfl rfl (TK:=140) (TV:=4) (by kernel_rfl) (by decide) Ix E3 (g:=178) ⟨by kernel_rfl,by kernel_rfl⟩ (t:=82) (d2:=83) (ann:=.leaf) rfl rfl (by decide) (λl'=>by kernel_rfl) hR hd hK
end Sy
end
noncomputable section
namespace Sy
open Go Go.Proofs
def WL{lp:Lp}(hlp:ak lp):ac 21 (m1 (Nt lp)):=by
 intro call hc ptys rty' xs y hs hy hw;have:nL (cc 21)=some ([K3],K9):=by kernel_rfl
 rw[this] at hs;cases hs;unfold m1 at hy;split at hy<;>first|(cases hy;done)|skip
 have h0:im (cc 21)=0:=by kernel_rfl
 rw[h0];exact⟨Mx (MD hlp hc) hy,λh=>by rw[show nE (cc 21)=false by kernel_rfl] at h;cases h⟩
def WW{lp:Lp}(hlp:ak lp):ac 45 (m1 (KS lp)):=by
 intro call hc ptys rty' xs y hs hy hw;have:nL (cc 45)=some ([K2],KZ):=by kernel_rfl
 rw[this] at hs;cases hs;unfold m1 at hy;split at hy<;>first|(cases hy;done)|skip
 have h0:im (cc 45)=0:=by kernel_rfl
 rw[h0];exact⟨My (MD hlp hc) hy,λh=>by rw[show nE (cc 45)=false by kernel_rfl] at h;cases h⟩
end Sy
end
noncomputable section
set_option maxHeartbeats 0
namespace Sy
open Go Go.Proofs
def E7(lp:Lp):CT:=.node 145 (.node 89 (.node 57 (.node 38 (.node 21 (.node 15 (.node 13 (.leaf 12 (m1 (KP lp))) (.leaf 13 (m2 (Np lp)))) (.node 18 (.leaf 15 (m1 (Nq lp))) (.node 19 (.leaf 18 (m1 (Nr lp))) (.leaf 19 (m1 (Ns lp)))))) (.node 33 (.node 31 (.leaf 21 (m1 (Nt lp))) (.node 32 (.leaf 31 (m1 (Nu lp))) (.leaf 32 (m2 (KQ lp))))) (.node 34 (.leaf 33 (m2 (Nv lp))) (.node 37 (.leaf 34 (m1 (Nw lp))) (.leaf 37 (m2 (KR lp))))))) (.node 47 (.node 41 (.node 39 (.leaf 38 (m2 (Lo lp))) (.node 40 (.leaf 39 (m2 (Nx lp))) (.leaf 40 (m2 (Lr lp))))) (.node 45 (.leaf 41 (m2 (Ny lp))) (.node 46 (.leaf 45 (m1 (KS lp))) (.leaf 46 (m2 (Nz lp)))))) (.node 52 (.node 48 (.leaf 47 (m1 (NA lp))) (.node 51 (.leaf 48 (m1 (NC lp))) (.leaf 51 (m2 (Vv lp))))) (.node 53 (.leaf 52 (m1 (ND lp))) (.node 54 (.leaf 53 (m2 (NE lp))) (.leaf 54 (m1 (NF lp)))))))) (.node 77 (.node 71 (.node 62 (.node 59 (.leaf 57 (m2 (NG lp))) (.node 61 (.leaf 59 (m2 (KU lp))) (.leaf 61 (m2 (NH lp))))) (.node 68 (.leaf 62 (m2 (KV lp))) (.node 70 (.leaf 68 (m1 (NI lp))) (.leaf 70 (m1 (LJ lp)))))) (.node 74 (.node 72 (.leaf 71 (m1 (NJ lp))) (.node 73 (.leaf 72 (m2 (NK lp))) (.leaf 73 (m2 (NL lp))))) (.node 75 (.leaf 74 (m1 (NM lp))) (.node 76 (.leaf 75 (m1 (NN lp))) (.leaf 76 (m1 (KW lp))))))) (.node 83 (.node 80 (.node 78 (.leaf 77 (m1 (NO lp))) (.node 79 (.leaf 78 (m2 (NP lp))) (.leaf 79 (m2 (NQ lp))))) (.node 81 (.leaf 80 (m1 (NR lp))) (.node 82 (.leaf 81 (m2 (LK lp))) (.leaf 82 (m2 (NS lp)))))) (.node 86 (.node 84 (.leaf 83 (m1 (NT lp))) (.node 85 (.leaf 84 (m0 (NU lp))) (.leaf 85 (m2 (LL lp))))) (.node 87 (.leaf 86 (m1 (NV lp))) (.node 88 (.leaf 87 (m2 (KX lp))) (.leaf 88 (m1 (Hj lp))))))))) (.node 121 (.node 107 (.node 100 (.node 96 (.node 90 (.leaf 89 (m2 (KY lp))) (.node 91 (.leaf 90 (m2 (NW lp))) (.leaf 91 (m2 (NX lp))))) (.node 97 (.leaf 96 (m3 (NY lp))) (.node 98 (.leaf 97 (m1 (NZ lp))) (.leaf 98 (m2 (N0 lp)))))) (.node 104 (.node 101 (.leaf 100 (m2 (FD lp))) (.node 103 (.leaf 101 (m2 (De lp))) (.leaf 103 (m2 (FE lp))))) (.node 105 (.leaf 104 (m3 (FF lp))) (.node 106 (.leaf 105 (m2 (FG lp))) (.leaf 106 (m3 (FH lp))))))) (.node 115 (.node 110 (.node 108 (.leaf 107 (m2 (FI lp))) (.node 109 (.leaf 108 (m2 (FJ lp))) (.leaf 109 (m3 (FK lp))))) (.node 111 (.leaf 110 (m2 (FM lp))) (.node 112 (.leaf 111 (m3 (FN lp))) (.leaf 112 (m2 (FO lp)))))) (.node 118 (.node 116 (.leaf 115 (m1 (FP lp))) (.node 117 (.leaf 116 (m2 (FQ lp))) (.leaf 117 (m2 (FR lp))))) (.node 119 (.leaf 118 (m1 (FS lp))) (.node 120 (.leaf 119 (m0 (FT lp))) (.leaf 120 (m2 (FU lp)))))))) (.node 133 (.node 127 (.node 124 (.node 122 (.leaf 121 (m2 (FV lp))) (.node 123 (.leaf 122 (m2 (FX lp))) (.leaf 123 (m2 (FY lp))))) (.node 125 (.leaf 124 (m1 (Bx lp))) (.node 126 (.leaf 125 (m0 (FZ lp))) (.leaf 126 (m2 (F5 lp)))))) (.node 130 (.node 128 (.leaf 127 (m1 (F6 lp))) (.node 129 (.leaf 128 (m1 (Df lp))) (.leaf 129 (m1 (F7 lp))))) (.node 131 (.leaf 130 (m0 (F8 lp))) (.node 132 (.leaf 131 (m2 (F9 lp))) (.leaf 132 (m2 (Dg lp))))))) (.node 139 (.node 136 (.node 134 (.leaf 133 (m0 (Ga lp))) (.node 135 (.leaf 134 (m2 (Gb lp))) (.leaf 135 (m1 (Gc lp))))) (.node 137 (.leaf 136 (m1 (Dh lp))) (.node 138 (.leaf 137 (m2 (Gd lp))) (.leaf 138 (m1 (Ge lp)))))) (.node 142 (.node 140 (.leaf 139 (m1 (By lp))) (.node 141 (.leaf 140 (m1 (Gf lp))) (.leaf 141 (m2 (Gg lp))))) (.node 143 (.leaf 142 (m1 (Gh lp))) (.node 144 (.leaf 143 (m2 (Gi lp))) (.leaf 144 (m2 (Di lp)))))))))) (.node 386 (.node 197 (.node 170 (.node 155 (.node 148 (.node 146 (.leaf 145 (m1 (Gj lp))) (.node 147 (.leaf 146 (m2 (Gk lp))) (.leaf 147 (m2 (Gl lp))))) (.node 152 (.leaf 148 (m1 (Gm lp))) (.node 154 (.leaf 152 (m2 (Dj lp))) (.leaf 154 (m2 (Gn lp)))))) (.node 167 (.node 156 (.leaf 155 (m1 (Gp lp))) (.node 165 (.leaf 156 (m5 (Gq lp))) (.leaf 165 (m1 (Gr lp))))) (.node 168 (.leaf 167 (m1 (Gs lp))) (.node 169 (.leaf 168 (m2 (Gt lp))) (.leaf 169 (m0 (Gu lp))))))) (.node 186 (.node 173 (.node 171 (.leaf 170 (m2 (Gv lp))) (.node 172 (.leaf 171 (m1 (Gw lp))) (.leaf 172 (m2 (Dk lp))))) (.node 174 (.leaf 173 (m2 (Dl lp))) (.node 175 (.leaf 174 (m2 (Dm lp))) (.leaf 175 (m2 (Gx lp)))))) (.node 194 (.node 187 (.leaf 186 (m1 (Gy lp))) (.node 188 (.leaf 187 (m1 (Dn lp))) (.leaf 188 (m2 (Gz lp))))) (.node 195 (.leaf 194 (m1 (GA lp))) (.node 196 (.leaf 195 (m2 (GB lp))) (.leaf 196 (m1 (GC lp)))))))) (.node 344 (.node 324 (.node 203 (.node 201 (.leaf 197 (m2 (GD lp))) (.node 202 (.leaf 201 (m2 (GE lp))) (.leaf 202 (m1 (Bz lp))))) (.node 215 (.leaf 203 (m2 (GF lp))) (.node 217 (.leaf 215 (m1 (GG lp))) (.leaf 217 (m1 (GH lp)))))) (.node 336 (.node 331 (.leaf 324 (m2 (GI lp))) (.node 333 (.leaf 331 (m1 (GJ lp))) (.leaf 333 (m2 (Lk lp))))) (.node 340 (.leaf 336 (m2 (GK lp))) (.node 342 (.leaf 340 (m2 (GL lp))) (.leaf 342 (m1 (Ll lp))))))) (.node 364 (.node 349 (.node 345 (.leaf 344 (m2 (GM lp))) (.node 348 (.leaf 345 (m2 (GN lp))) (.leaf 348 (m1 (GO lp))))) (.node 352 (.leaf 349 (m1 (GP lp))) (.node 357 (.leaf 352 (m2 (Lm lp))) (.leaf 357 (m1 (Do lp)))))) (.node 373 (.node 365 (.leaf 364 (m2 (GQ lp))) (.node 371 (.leaf 365 (m1 (GR lp))) (.leaf 371 (m2 (Ln lp))))) (.node 374 (.leaf 373 (m2 (Dp lp))) (.node 385 (.leaf 374 (m1 (GS lp))) (.leaf 385 (m1 (GT lp))))))))) (.node 433 (.node 420 (.node 409 (.node 392 (.node 387 (.leaf 386 (m2 (Dq lp))) (.node 388 (.leaf 387 (m1 (GU lp))) (.leaf 388 (m2 (GV lp))))) (.node 393 (.leaf 392 (m2 (GW lp))) (.node 394 (.leaf 393 (m1 (GX lp))) (.leaf 394 (m1 (BA lp)))))) (.node 416 (.node 414 (.leaf 409 (m6 (GY lp))) (.node 415 (.leaf 414 (m4 (GZ lp))) (.leaf 415 (BU 0 lp 415 Tryz.f10 Lg)))) (.node 418 (.leaf 416 (m4 (Ls lp))) (.node 419 (.leaf 418 (m1 (Dr lp))) (.leaf 419 (m5 (G0 lp))))))) (.node 426 (.node 423 (.node 421 (.leaf 420 (m5 (G1 lp))) (.node 422 (.leaf 421 (m5 (G2 lp))) (.leaf 422 (m5 (G3 lp))))) (.node 424 (.leaf 423 (m3 (G4 lp))) (.node 425 (.leaf 424 (m3 (G5 lp))) (.leaf 425 (m4 (Lt lp)))))) (.node 430 (.node 427 (.leaf 426 (m1 (G6 lp))) (.node 429 (.leaf 427 (m1 (G7 lp))) (.leaf 429 (m2 (Lu lp))))) (.node 431 (.leaf 430 (m3 (Lv lp))) (.node 432 (.leaf 431 (m2 (G8 lp))) (.leaf 432 (m2 (Lw lp)))))))) (.node 446 (.node 440 (.node 437 (.node 434 (.leaf 433 (m2 (G9 lp))) (.node 435 (.leaf 434 (m3 (Ha lp))) (.leaf 435 (m2 (Hb lp))))) (.node 438 (.leaf 437 (m3 (Hc lp))) (.node 439 (.leaf 438 (m1 (Hd lp))) (.leaf 439 (m1 (Ds lp)))))) (.node 443 (.node 441 (.leaf 440 (m2 (He lp))) (.node 442 (.leaf 441 (m1 (Hf lp))) (.leaf 442 (m2 (Hg lp))))) (.node 444 (.leaf 443 (m2 (Lx lp))) (.node 445 (.leaf 444 (m2 (Ly lp))) (.leaf 445 (m2 (Lz lp))))))) (.node 454 (.node 449 (.node 447 (.leaf 446 (m2 (Hh lp))) (.node 448 (.leaf 447 (m1 (LA lp))) (.leaf 448 (m1 (LB lp))))) (.node 450 (.leaf 449 (m1 (LC lp))) (.node 452 (.leaf 450 (m2 (LD lp))) (.leaf 452 (m2 (Hi lp)))))) (.node 457 (.node 455 (.leaf 454 (m2 (LE lp))) (.node 456 (.leaf 455 (BU 0 lp 455 Tryz.f140 Li)) (.leaf 456 (m2 (LF lp))))) (.node 458 (.leaf 457 (m3 (LG lp))) (.node 459 (.leaf 458 (m1 (LH lp))) (.leaf 459 (m1 (LI lp))))))))))
def wl{lp:Lp}(hlp:ak lp):(E7 lp).ok:=⟨⟨⟨⟨⟨⟨⟨WG hlp,WH hlp⟩,⟨WI hlp,⟨WJ hlp,WK hlp⟩⟩⟩,⟨⟨WL hlp,⟨WM hlp,WN hlp⟩⟩,⟨WO hlp,⟨WP hlp,WQ hlp⟩⟩⟩⟩,⟨⟨⟨WR hlp,⟨WS hlp,WT hlp⟩⟩,⟨WU hlp,⟨WW hlp,WX hlp⟩⟩⟩,⟨⟨WY hlp,⟨WZ hlp,W0 hlp⟩⟩,⟨W2 hlp,⟨W3 hlp,W4 hlp⟩⟩⟩⟩⟩,⟨⟨⟨⟨W5 hlp,⟨W6 hlp,W7 hlp⟩⟩,⟨W8 hlp,⟨W9 hlp,Xa hlp⟩⟩⟩,⟨⟨Xb hlp,⟨Xc hlp,Xd hlp⟩⟩,⟨Xe hlp,⟨Xf hlp,Xg hlp⟩⟩⟩⟩,⟨⟨⟨Xh hlp,⟨Xi hlp,Xj hlp⟩⟩,⟨Xk hlp,⟨Xl hlp,Xm hlp⟩⟩⟩,⟨⟨Xn hlp,⟨Xo hlp,Xp hlp⟩⟩,⟨Xq hlp,⟨Xr hlp,Xs hlp⟩⟩⟩⟩⟩⟩,⟨⟨⟨⟨⟨Xt hlp,⟨Xu hlp,Xv hlp⟩⟩,⟨Xw hlp,⟨Xx hlp,Xy hlp⟩⟩⟩,⟨⟨PU hlp,⟨PW hlp,PX hlp⟩⟩,⟨PY hlp,⟨PZ hlp,P0 hlp⟩⟩⟩⟩,⟨⟨⟨P1 hlp,⟨P2 hlp,P3 hlp⟩⟩,⟨P4 hlp,⟨P5 hlp,P6 hlp⟩⟩⟩,⟨⟨P7 hlp,⟨P8 hlp,P9 hlp⟩⟩,⟨Qa hlp,⟨Qb hlp,Qc hlp⟩⟩⟩⟩⟩,⟨⟨⟨⟨Qd hlp,⟨Qe hlp,Qf hlp⟩⟩,⟨Qg hlp,⟨Qh hlp,Qi hlp⟩⟩⟩,⟨⟨Qj hlp,⟨Qk hlp,Ql hlp⟩⟩,⟨Qm hlp,⟨Qn hlp,Qo hlp⟩⟩⟩⟩,⟨⟨⟨Qq hlp,⟨Qr hlp,Qs hlp⟩⟩,⟨Qt hlp,⟨Qu hlp,Qv hlp⟩⟩⟩,⟨⟨Qw hlp,⟨Qx hlp,Qy hlp⟩⟩,⟨Qz hlp,⟨QA hlp,QB hlp⟩⟩⟩⟩⟩⟩⟩,⟨⟨⟨⟨⟨⟨QC hlp,⟨QD hlp,QE hlp⟩⟩,⟨QF hlp,⟨QG hlp,QH hlp⟩⟩⟩,⟨⟨QI hlp,⟨QJ hlp,QK hlp⟩⟩,⟨QL hlp,⟨QM hlp,QN hlp⟩⟩⟩⟩,⟨⟨⟨QO hlp,⟨QP hlp,QQ hlp⟩⟩,⟨QR hlp,⟨QS hlp,QT hlp⟩⟩⟩,⟨⟨QU hlp,⟨QV hlp,QW hlp⟩⟩,⟨QX hlp,⟨QY hlp,QZ hlp⟩⟩⟩⟩⟩,⟨⟨⟨⟨Q0 hlp,⟨Q3 hlp,Q4 hlp⟩⟩,⟨Q5 hlp,⟨Q6 hlp,Q7 hlp⟩⟩⟩,⟨⟨Q8 hlp,⟨Q9 hlp,Ra hlp⟩⟩,⟨Rb hlp,⟨Rc hlp,Rd hlp⟩⟩⟩⟩,⟨⟨⟨Re hlp,⟨Rf hlp,Rg hlp⟩⟩,⟨Rh hlp,⟨Ri hlp,Rj hlp⟩⟩⟩,⟨⟨Rk hlp,⟨Rl hlp,Rm hlp⟩⟩,⟨Ro hlp,⟨Rq hlp,Rr hlp⟩⟩⟩⟩⟩⟩,⟨⟨⟨⟨⟨Rs hlp,⟨Rt hlp,Ru hlp⟩⟩,⟨Rv hlp,⟨Rx hlp,Ry hlp⟩⟩⟩,⟨⟨LQ hlp,⟨Rz hlp,RA hlp⟩⟩,⟨RB hlp,⟨RC hlp,RD hlp⟩⟩⟩⟩,⟨⟨⟨RE hlp,⟨RF hlp,RG hlp⟩⟩,⟨RH hlp,⟨RJ hlp,RK hlp⟩⟩⟩,⟨⟨RL hlp,⟨RM hlp,RN hlp⟩⟩,⟨RO hlp,⟨RP hlp,RQ hlp⟩⟩⟩⟩⟩,⟨⟨⟨⟨RR hlp,⟨RS hlp,RT hlp⟩⟩,⟨RU hlp,⟨RW hlp,RY hlp⟩⟩⟩,⟨⟨RZ hlp,⟨R0 hlp,R5 hlp⟩⟩,⟨R7 hlp,⟨R8 hlp,R9 hlp⟩⟩⟩⟩,⟨⟨⟨Sa hlp,⟨Sc hlp,Sd hlp⟩⟩,⟨Se hlp,⟨Sf hlp,Sg hlp⟩⟩⟩,⟨⟨Si hlp,⟨Sj hlp,Sl hlp⟩⟩,⟨Sn hlp,⟨Sp hlp,Sq hlp⟩⟩⟩⟩⟩⟩⟩⟩
def DP(lp:Lp):Nat->Nat->List D->Option D
 | 0=>λ_ _=>none
 | n+1=>λf xs=>(E7 lp).get f (DP lp n) xs
theorem wR{lp:Lp}(hlp:ak lp):∀ n,gg Tryz.prog (DP lp n)
 | 0=>λf ptys rty xs y _ h _=>by cases h
 | n+1=>CT.get_ok (wl hlp) (wR hlp n)
end Sy
end
end Go.Proofs.YtphlmegkommlnaaGreatDoor
