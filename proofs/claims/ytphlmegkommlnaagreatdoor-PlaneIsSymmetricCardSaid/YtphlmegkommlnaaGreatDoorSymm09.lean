/- Part 9 of the proof that PlaneIsSymmetric answers true at every input -/
import Derived.Test.YtphlmegkommlnaaGreatDoorSymm06
import Derived.Test.YtphlmegkommlnaaGreatDoorSymm07
import Derived.Test.YtphlmegkommlnaaGreatDoorSymm08
set_option linter.unusedVariables false
set_option linter.unusedSimpArgs false
set_option linter.unnecessarySimpa false
set_option linter.defProp false
set_option maxRecDepth 20000
namespace Go.Proofs.YtphlmegkommlnaaGreatDoor
noncomputable section
set_option maxHeartbeats 0
namespace Sy
open Go Go.Proofs
def Kg:Code->Code|.block _ c=>c|c=>c
def inLoop:Code->Code|.loop c=>c|c=>c
def V0:Code->Code|.seq a _=>a|c=>c
def Pc:Code->Code|.seq _ b=>b|c=>c
def NQ:Code->List Oper|.region _ o _=>o.toList|_=>[]
def On:AnnT:=(.seq .leaf (.seq .leaf (.seq (.two .leaf (.two (.loop ⟨[(3,.ow K8),(12,.dv (Ty.int .i64))],[],[10,11]⟩ [(.exit 0,⟨[(3,.ow K8)],[],[]⟩)] (.two .leaf (.two .leaf (.two (.two (.two .leaf (.two .leaf (.two (.loop ⟨[(3,.ow K8),(5,.same (.ptr K6 24581 [])),(19,.dv (Ty.int .i64))],[(24581,.keep K6 5)],[10,11,12,17,18]⟩ [(.exit 2,⟨[(3,.ow K8)],[],[10,11,12]⟩)] (.two .leaf (.two .leaf (.cut [(.normal,⟨[(3,.ow K8),(5,.same (.ptr K6 24581 []))],[(24581,.keep K6 5)],[10,11,12,17,18,19]⟩)] [10,11,12,17,18,19] [24581] (.two (.two .leaf (.two (.reg [] 10) .leaf)) .leaf) .leaf)))) .leaf))) .leaf) .leaf)))) .leaf)) .hand)))
def L1(lp:Lp)(call:Nat->List D->Option D)(a0:D):Option D:=
 Option.bind (call 18 [a0]) λr1=>
 Option.bind (D.asSl r1) λl2=>
 Option.bind (lp (β:=Nat×List D) (λ(v3:List D)=>
 Option.bind (D.bin .lss (gx v3 1) (D.int .i64 (List.length l2))) λx4=>
 Option.bind (D.truth x4) λb5=>
 if b5 then(Option.bind (D.asSl r1) λl6=>
 Option.bind (D.idx (gx v3 1) (List.length l6)) λi7=>
 Option.bind (l6[i7]?) λx8=>
 Option.bind (D.get x8 [2]) λx9=>
 Option.bind (D.asSl x9) λl10=>
 Option.bind (lp (β:=Nat×List D) (λ(v11:List D)=>
 Option.bind (D.bin .lss (gx v11 1) (D.int .i64 (List.length l10))) λx12=>
 Option.bind (D.truth x12) λb13=>
 if b13 then(Option.bind (Option.bind (D.asSl x9) λl14=>
 Option.bind (D.idx (gx v11 1) (List.length l14)) λi15=>
 Option.bind (l14[i15]?) λx16=>
 Option.bind (D.get x8 [2]) λx17=>
 Option.bind (D.bin .add (gx v11 1) (D.int .i64 1)) λx18=>
 Option.bind (D.get x8 [2]) λx19=>
 Option.bind (D.asSl x19) λl20=>
 Option.bind (D.bin .rem x18 (D.int .i64 (List.length l20))) λx21=>
 Option.bind (D.asSl x17) λl22=>
 Option.bind (D.idx x21 (List.length l22)) λKf=>
 Option.bind (l22[Kf]?) λx24=>
 Option.bind (D.bin .lss x16 x24) λx25=>
 Option.bind (D.truth x25) λb26=>
 if b26 then(if List.length (D.els (gx v11 0))+List.length [(D.st [x16,x24])]<=1073741824 then(some (0,[(D.sl ((D.els (gx v11 0))++[(D.st [x16,x24])]))])) else none) else(some (0,[(D.sl (D.els (gx v11 0)))]))) λ(r27:Nat×List D)=>
 Option.bind (D.bin .add (gx v11 1) (D.int .i64 1)) λx28=>
 some (Sum.inl [(D.sl (D.els (gx r27.2 0))),x28])) else(some (Sum.inr (0,[(D.sl (D.els (gx v11 0)))])))) [(D.sl (D.els (gx v3 0))),(D.int .i64 0)]) λr29=>
 Option.bind (D.bin .add (gx v3 1) (D.int .i64 1)) λx30=>
 some (Sum.inl [(D.sl (D.els (gx r29.2 0))),x30])) else(some (Sum.inr (0,[(D.sl (D.els (gx v3 0)))])))) [(D.sl []),(D.int .i64 0)]) λr31=>
 Option.bind (if decide (List.length (D.els (gx r31.2 0))<=1073741824) then some (D.els (gx r31.2 0)) else none) λl1=>
 Option.bind (je (cH lp call (iO lp call)) (bV 51) l1) λl2=>some (D.sl l2)
def WN(lp:Lp)(call:Nat->List D->Option D)(a0:D):IW (cH lp call (iO lp call)) (Cr (cH lp call (iO lp call)) 48 3 (bV 51) K8) Tryz.f139 On [K3] [a0]=L1 lp call a0:=by kernel_rfl
def Md:AnnT:=(.seq .leaf (.seq .leaf (.seq (.two .leaf (.two (.loop ⟨[(3,.same (.map dm Ty.bool 8204)),(15,.dv (Ty.int .i64))],[(8204,.mp dm Ty.bool)],[0,14]⟩ [(.exit 0,⟨[(3,.same (.map dm Ty.bool 8204))],[(8204,.mp dm Ty.bool)],[]⟩)] (.two .leaf (.two .leaf (.two (.two (.two .leaf (.two .leaf (.two (.loop ⟨[(3,.same (.map dm Ty.bool 8204)),(19,.dv (Ty.int .i64))],[(8204,.mp dm Ty.bool)],[0,4,14,15,18]⟩ [(.exit 2,⟨[(3,.same (.map dm Ty.bool 8204))],[(8204,.mp dm Ty.bool)],[0,14,15]⟩)] (.two .leaf (.two .leaf (.two (.two (.two .leaf (.two .leaf (.two (.loop ⟨[(3,.same (.map dm Ty.bool 8204)),(23,.dv (Ty.int .i64))],[(8204,.mp dm Ty.bool)],[0,4,5,14,15,18,19,22]⟩ [(.exit 4,⟨[(3,.same (.map dm Ty.bool 8204))],[(8204,.mp dm Ty.bool)],[0,4,14,15,18,19]⟩)] (.two .leaf (.two .leaf (.cut [(.normal,⟨[(3,.same (.map dm Ty.bool 8204))],[(8204,.mp dm Ty.bool)],[0,4,5,14,15,18,19,22,23]⟩)] [0,4,5,14,15,18,19,22,23] [] (.two (.two .leaf (.two (.reg [] 14) (.two .leaf (.two .leaf (.two (.loop ⟨[(3,.same (.map dm Ty.bool 8204)),(51,.ow dm),(53,.dv (Ty.int .i64))],[(8204,.mp dm Ty.bool)],[0,4,5,14,15,18,19,22,23,52]⟩ [(.exit 6,⟨[(3,.same (.map dm Ty.bool 8204))],[(8204,.mp dm Ty.bool)],[0,4,5,14,15,18,19,22,23]⟩)] (.two .leaf (.two .leaf (.cut [(.normal,⟨[(3,.same (.map dm Ty.bool 8204)),(51,.ow dm)],[(8204,.mp dm Ty.bool)],[0,4,5,14,15,18,19,22,23,52,53]⟩)] [0,4,5,14,15,18,19,22,23,52,53] [] .leaf .leaf)))) .leaf))))) .leaf) .leaf)))) .leaf))) .leaf) .leaf)))) .leaf))) .leaf) .leaf)))) .leaf)) (.seq .leaf .hand))))
def L3(lp:Lp)(call:Nat->List D->Option D)(a0:D):Option D:=
 Option.bind (D.asSl a0) λl1=>
 Option.bind (lp (β:=Nat×List D) (λ(v2:List D)=>
 Option.bind (D.bin .lss (gx v2 0) (D.int .i64 (List.length l1))) λx3=>
 Option.bind (D.truth x3) λb4=>
 if b4 then(Option.bind (lp (β:=Nat×List D) (λ(v5:List D)=>
 Option.bind (D.bin .lss (gx v5 0) (gx v2 0)) λx6=>
 Option.bind (D.truth x6) λb7=>
 if b7 then(Option.bind (lp (β:=Nat×List D) (λ(v8:List D)=>
 Option.bind (D.bin .lss (gx v8 0) (gx v5 0)) λx9=>
 Option.bind (D.truth x9) λb10=>
 if b10 then(Option.bind (Option.bind (D.asSl a0) λl11=>
 Option.bind (D.idx (gx v2 0) (List.length l11)) λrq=>
 Option.bind (l11[rq]?) λx13=>
 Option.bind (D.asSl a0) λl14=>
 Option.bind (D.idx (gx v5 0) (List.length l14)) λi15=>
 Option.bind (l14[i15]?) λx16=>
 Option.bind (D.asSl a0) λl17=>
 Option.bind (D.idx (gx v8 0) (List.length l17)) λi18=>
 Option.bind (l17[i18]?) λx19=>
 Option.bind (call 96 [x13,x16,x19]) λr20=>
 Option.bind (D.get r20 [0]) λx21=>
 Option.bind (D.truth (D.bool (D.beq x21 (D.st [(D.int .i64 0),(D.int .i64 0),(D.int .i64 0)])))) λb22=>
 if b22 then(some (0,[(D.sl (D.els (gx v8 1)))])) else(Option.bind (D.get r20 [0]) λx23=>
 Option.bind (call 97 [x23]) λr24=>
 Option.bind (D.get r20 [1]) λx25=>
 Option.bind (D.un .neg x25) λx26=>
 Option.bind (lp (β:=Nat×List D) (λ(v27:List D)=>
 Option.bind (D.bin .lss (gx v27 1) (D.int .i64 2)) λx28=>
 Option.bind (D.truth x28) λb29=>
 if b29 then(Option.bind (Option.bind (D.idx (gx v27 1) (List.length (D.els (gx v27 0)))) λi30=>
 Option.bind ((D.els (gx v27 0))[i30]?) λx31=>
 Option.bind (D.un .not (Option.getD (D.mget (D.els (gx v27 2)) x31) (D.bool false))) λx32=>
 Option.bind (D.truth x32) λb33=>
 Option.bind (if b33 then(Option.bind (call 98 [a0,x31]) λr34=>
 D.truth r34) else(some false)) λb35=>
 Option.bind (D.truth (D.bool b35)) λb36=>
 if b36 then(some (0,[(D.sl (D.els (gx v27 0))),(D.sl (D.mput (D.els (gx v27 2)) x31 (D.bool true)))])) else(some (0,[(D.sl (D.els (gx v27 0))),(D.sl (D.els (gx v27 2)))]))) λ(r37:Nat×List D)=>
 Option.bind (D.bin .add (gx v27 1) (D.int .i64 1)) λx38=>
 some (Sum.inl [(D.sl (D.els (gx r37.2 0))),x38,(D.sl (D.els (gx r37.2 1)))])) else(some (Sum.inr (0,[(D.sl (D.els (gx v27 2)))])))) [(D.sl [r20,(D.st [r24,x26])]),(D.int .i64 0),(D.sl (D.els (gx v8 1)))]) λr39=>
 some (0,[(D.sl (D.els (gx r39.2 0)))]))) λ(r40:Nat×List D)=>
 Option.bind (D.bin .add (gx v8 0) (D.int .i64 1)) λx41=>
 some (Sum.inl [x41,(D.sl (D.els (gx r40.2 0)))])) else(some (Sum.inr (0,[(D.sl (D.els (gx v8 1)))])))) [(D.int .i64 0),(D.sl (D.els (gx v5 1)))]) λr42=>
 Option.bind (D.bin .add (gx v5 0) (D.int .i64 1)) λx43=>
 some (Sum.inl [x43,(D.sl (D.els (gx r42.2 0)))])) else(some (Sum.inr (0,[(D.sl (D.els (gx v5 1)))])))) [(D.int .i64 0),(D.sl (D.els (gx v2 1)))]) λr44=>
 Option.bind (D.bin .add (gx v2 0) (D.int .i64 1)) λx45=>
 some (Sum.inl [x45,(D.sl (D.els (gx r44.2 0)))])) else(some (Sum.inr (0,[(D.sl (D.els (gx v2 1)))])))) [(D.int .i64 0),(D.sl [])]) λr46=>
 if decide (List.length (D.els (gx r46.2 0))<=1073741824) then(Option.bind (je (cH lp call (iO lp call)) (bV 100) (List.map uk (D.els (gx r46.2 0)))) λl2=>some (D.sl l2)) else none
def WO(lp:Lp)(call:Nat->List D->Option D)(a0:D):IW (cH lp call (iO lp call)) (xm (cH lp call (iO lp call)) 85 3 10 (bV 100) dm Ty.bool) Tryz.f128 Md [K2] [a0]=L3 lp call a0:=by kernel_rfl
def KE(f:Func):Code:=match f.body with|some c=>c|none=>.skip
def zr:Code:=Kg (Pc (Pc (inLoop (Kg (Pc (V0 (qA (KE Tryz.f128) Md)))))))
def AT:List Oper:=(NQ (V0 zr)).tail
def TQ:Code:=Pc zr
def Nu{lp:Lp}{call:Nat->List D->Option D}(hE:EnvOk Tryz.prog (cH lp call (iO lp call))){a0 y:D}(h:L1 lp call a0=some y):Kx Tryz.prog [K3] K9 (bV 21) [a0] y:=by
 refine sa hE (f:=bV 21) (fn:=Tryz.f139) (ann:=On) (K:=Cr (cH lp call (iO lp call)) 48 3 (bV 51) K8) (by kernel_rfl) (by kernel_rfl) ((WN lp call a0).trans h) ?_
 intro c hb w S S' γ' β' s' a' w' hR hd hK;have e:∀ c',Tryz.f139.body=some c'->(qA c' On).wpIn (FW none) 0 Tryz.prog (JX Tryz.prog Tryz.f139 w S K9 y) a' w'->(qA c On).wpIn (FW none) 0 Tryz.prog (JX Tryz.prog Tryz.f139 w S K9 y) a' w':=λc' h1 h2=>by
  rw[hb] at h1;cases h1;exact h2
 refine e _ rfl ?_;exact vS hE Gp (g:=191) ⟨by kernel_rfl,by kernel_rfl⟩ (by kernel_rfl) (x:=3) (t:=45) (d2:=46) (nt:=48) (ann:=.leaf) rfl rfl (by decide) (λl'=>by kernel_rfl) hR hd hK
def Jx{lp:Lp}{call:Nat->List D->Option D}:∀ X L k v,Ki dm L X->L.length<1073741824->wt dm k->ev (cH lp call (iO lp call)) (.region 0 (AT).toArray false) .leaf D ((σL 85 10 73 X).put (some 76) (.d (.tup [dm,.bool]) (.tup [k,v]))) (λx s'=>match x with
   | .normal=>ev (cH lp call (iO lp call)) TQ .leaf D s' (λx s''=>match x with|.normal=>(dh s'' dm 10).bind λl=>some (.sl l)|_=>none)
   | _=>none)=some (.sl (L++[k])):=by
 intro X L k v hX hL _;rcases hX with⟨rfl,rfl⟩|rfl
 ·kernel_rfl
 ·have key:ev (cH lp call (iO lp call)) (.region 0 (AT).toArray false) .leaf D ((σL 85 10 73 (.own dm 5 L)).put (some 76) (.d (.tup [dm,.bool]) (.tup [k,v]))) (λx s'=>match x with
   | .normal=>ev (cH lp call (iO lp call)) TQ .leaf D s' (λx s''=>match x with|.normal=>(dh s'' dm 10).bind λl=>some (.sl l)|_=>none)
   | _=>none)=(if List.length L+List.length [k]<=1073741824 then(Option.bind (if decide (List.length (L++[k])<=1073741824) then some (L++[k]) else none) λl=>some (.sl l)) else none):=by kernel_rfl
  rw[key,if_pos (by simp;omega),if_pos (by simp;omega)]
  rfl
def Nv{lp:Lp}{call:Nat->List D->Option D}(hE:EnvOk Tryz.prog (cH lp call (iO lp call))){a0 y:D}(h:L3 lp call a0=some y):Kx Tryz.prog [K2] L7 (bV 45) [a0] y:=by
 refine sa hE (f:=bV 45) (fn:=Tryz.f128) (ann:=Md) (K:=xm (cH lp call (iO lp call)) 85 3 10 (bV 100) dm .bool) (by kernel_rfl) (by kernel_rfl) ((WO lp call a0).trans h) ?_
 intro c hb w S S' γ' β' s' a' w' hR hd hK;have e:∀ c',Tryz.f128.body=some c'->(qA c' Md).wpIn (FW none) 0 Tryz.prog (JX Tryz.prog Tryz.f128 w S L7 y) a' w'->(qA c Md).wpIn (FW none) 0 Tryz.prog (JX Tryz.prog Tryz.f128 w S L7 y) a' w':=λc' h1 h2=>by
  rw[hb] at h1;cases h1;exact h2
 refine e _ rfl ?_;exact AW hE rfl rfl rfl rfl (by kernel_rfl) (t72:=72) (m0:=3) (it:=73) (T:=183) (nx:=74) (ok:=75) (en:=76) (o:=10) (nt:=85) (c26:=TQ) (rest:=AT) rfl rfl rfl rfl (TK:=140) (TV:=4) (by kernel_rfl) (by decide) Jx Gq (g:=178) ⟨by kernel_rfl,by kernel_rfl⟩ (t:=82) (d2:=83) (ann:=.leaf) rfl rfl (by decide) (λl'=>by kernel_rfl) hR hd hK
end Sy
end
noncomputable section
namespace Sy
open Go Go.Proofs
def W7{lp:Lp}(hlp:ak lp):af 21 (m1 (L1 lp)):=by
 intro call hc ptys rty' xs y hs hy hw;have:oI (bV 21)=some ([K3],K9):=by kernel_rfl
 rw[this] at hs;cases hs;unfold m1 at hy;split at hy<;>first|(cases hy;done)|skip
 have h0:iX (bV 21)=0:=by kernel_rfl
 rw[h0];exact⟨Nu (NA hlp hc) hy,λh=>by rw[show oA (bV 21)=false by kernel_rfl] at h;cases h⟩
def Xg{lp:Lp}(hlp:ak lp):af 45 (m1 (L3 lp)):=by
 intro call hc ptys rty' xs y hs hy hw;have:oI (bV 45)=some ([K2],L7):=by kernel_rfl
 rw[this] at hs;cases hs;unfold m1 at hy;split at hy<;>first|(cases hy;done)|skip
 have h0:iX (bV 45)=0:=by kernel_rfl
 rw[h0];exact⟨Nv (NA hlp hc) hy,λh=>by rw[show oA (bV 45)=false by kernel_rfl] at h;cases h⟩
end Sy
end
noncomputable section
set_option maxHeartbeats 0
namespace Sy
open Go Go.Proofs
def Gu(lp:Lp):CT:=.node 137 (.node 85 (.node 57 (.node 37 (.node 21 (.node 15 (.node 13 (.leaf 12 (m1 (L0 lp))) (.leaf 13 (m2 (Oo lp)))) (.node 18 (.leaf 15 (m1 (Oq lp))) (.node 19 (.leaf 18 (m1 (Ot lp))) (.leaf 19 (m1 (Ou lp)))))) (.node 32 (.node 22 (.leaf 21 (m1 (L1 lp))) (.node 31 (.leaf 22 (m1 (Ov lp))) (.leaf 31 (m1 (VJ lp))))) (.node 33 (.leaf 32 (m2 (Ow lp))) (.node 34 (.leaf 33 (m2 (Ox lp))) (.leaf 34 (m1 (Oy lp))))))) (.node 47 (.node 40 (.node 38 (.leaf 37 (m2 (L2 lp))) (.leaf 38 (m2 (Mo lp)))) (.node 45 (.leaf 40 (m2 (Mp lp))) (.node 46 (.leaf 45 (m1 (L3 lp))) (.leaf 46 (m2 (Oz lp)))))) (.node 52 (.node 48 (.leaf 47 (m1 (OA lp))) (.node 51 (.leaf 48 (m1 (OB lp))) (.leaf 51 (m2 (OC lp))))) (.node 53 (.leaf 52 (m1 (OD lp))) (.node 54 (.leaf 53 (m2 (OE lp))) (.leaf 54 (m1 (OF lp)))))))) (.node 74 (.node 64 (.node 61 (.node 59 (.leaf 57 (m2 (OG lp))) (.leaf 59 (m2 (L4 lp)))) (.node 62 (.leaf 61 (m2 (OH lp))) (.node 63 (.leaf 62 (m2 (L5 lp))) (.leaf 63 (m1 (OI lp)))))) (.node 71 (.node 65 (.leaf 64 (m2 (OJ lp))) (.node 68 (.leaf 65 (m2 (OK lp))) (.leaf 68 (m1 (OL lp))))) (.node 72 (.leaf 71 (m1 (VK lp))) (.node 73 (.leaf 72 (m2 (VL lp))) (.leaf 73 (m2 (OM lp))))))) (.node 79 (.node 76 (.node 75 (.leaf 74 (m1 (ON lp))) (.leaf 75 (m1 (VM lp)))) (.node 77 (.leaf 76 (m1 (ME lp))) (.node 78 (.leaf 77 (m1 (OO lp))) (.leaf 78 (m2 (OP lp)))))) (.node 82 (.node 80 (.leaf 79 (m2 (OQ lp))) (.node 81 (.leaf 80 (m1 (OR lp))) (.leaf 81 (m2 (MF lp))))) (.node 83 (.leaf 82 (m2 (OS lp))) (.node 84 (.leaf 83 (m1 (OT lp))) (.leaf 84 (m0 (OU lp))))))))) (.node 115 (.node 101 (.node 90 (.node 87 (.node 86 (.leaf 85 (m2 (MG lp))) (.leaf 86 (m1 (OV lp)))) (.node 88 (.leaf 87 (m2 (MH lp))) (.node 89 (.leaf 88 (m1 (MI lp))) (.leaf 89 (m2 (L6 lp)))))) (.node 97 (.node 91 (.leaf 90 (m2 (OX lp))) (.node 96 (.leaf 91 (m2 (OY lp))) (.leaf 96 (m3 (OZ lp))))) (.node 98 (.leaf 97 (m1 (O0 lp))) (.node 100 (.leaf 98 (m2 (O1 lp))) (.leaf 100 (m2 (GX lp))))))) (.node 107 (.node 104 (.node 103 (.leaf 101 (m2 (Ec lp))) (.leaf 103 (m2 (GY lp)))) (.node 105 (.leaf 104 (m3 (GZ lp))) (.node 106 (.leaf 105 (m2 (G0 lp))) (.leaf 106 (m3 (G1 lp)))))) (.node 110 (.node 108 (.leaf 107 (m2 (G2 lp))) (.node 109 (.leaf 108 (m2 (G3 lp))) (.leaf 109 (m3 (G4 lp))))) (.node 111 (.leaf 110 (m2 (G5 lp))) (.node 112 (.leaf 111 (m3 (G6 lp))) (.leaf 112 (m2 (G7 lp)))))))) (.node 126 (.node 120 (.node 117 (.node 116 (.leaf 115 (m1 (G8 lp))) (.leaf 116 (m2 (G9 lp)))) (.node 118 (.leaf 117 (m2 (Ha lp))) (.node 119 (.leaf 118 (m1 (Hb lp))) (.leaf 119 (m0 (Hc lp)))))) (.node 123 (.node 121 (.leaf 120 (m2 (Hd lp))) (.node 122 (.leaf 121 (m2 (He lp))) (.leaf 122 (m2 (Hf lp))))) (.node 124 (.leaf 123 (m2 (Hg lp))) (.node 125 (.leaf 124 (m1 (CA lp))) (.leaf 125 (m0 (Hh lp))))))) (.node 131 (.node 128 (.node 127 (.leaf 126 (m2 (Hi lp))) (.leaf 127 (m1 (Hj lp)))) (.node 129 (.leaf 128 (m1 (Ed lp))) (.node 130 (.leaf 129 (m1 (Hk lp))) (.leaf 130 (m0 (Hl lp)))))) (.node 134 (.node 132 (.leaf 131 (m2 (Hm lp))) (.node 133 (.leaf 132 (m2 (Ee lp))) (.leaf 133 (m0 (Hn lp))))) (.node 135 (.leaf 134 (m2 (Mg lp))) (.node 136 (.leaf 135 (m1 (Mh lp))) (.leaf 136 (m1 (Ef lp)))))))))) (.node 345 (.node 172 (.node 148 (.node 142 (.node 139 (.node 138 (.leaf 137 (m2 (Ho lp))) (.leaf 138 (m1 (Hp lp)))) (.node 140 (.leaf 139 (m1 (Eg lp))) (.node 141 (.leaf 140 (m1 (Hq lp))) (.leaf 141 (m2 (Hr lp)))))) (.node 145 (.node 143 (.leaf 142 (m1 (Hs lp))) (.node 144 (.leaf 143 (m2 (Ht lp))) (.leaf 144 (m2 (Hu lp))))) (.node 146 (.leaf 145 (m1 (Hv lp))) (.node 147 (.leaf 146 (m2 (Hw lp))) (.leaf 147 (m2 (Hx lp))))))) (.node 165 (.node 154 (.node 152 (.leaf 148 (m1 (Hy lp))) (.leaf 152 (m2 (Eh lp)))) (.node 155 (.leaf 154 (m2 (Hz lp))) (.node 156 (.leaf 155 (m1 (HA lp))) (.leaf 156 (m5 (HB lp)))))) (.node 169 (.node 167 (.leaf 165 (m1 (HC lp))) (.node 168 (.leaf 167 (m1 (HD lp))) (.leaf 168 (m2 (HE lp))))) (.node 170 (.leaf 169 (m0 (HF lp))) (.node 171 (.leaf 170 (m2 (HG lp))) (.leaf 171 (m1 (HH lp)))))))) (.node 201 (.node 187 (.node 174 (.node 173 (.leaf 172 (m2 (Ei lp))) (.leaf 173 (m2 (Ej lp)))) (.node 175 (.leaf 174 (m2 (El lp))) (.node 186 (.leaf 175 (m2 (HI lp))) (.leaf 186 (m1 (HJ lp)))))) (.node 195 (.node 188 (.leaf 187 (m1 (Em lp))) (.node 194 (.leaf 188 (m2 (HK lp))) (.leaf 194 (m1 (HL lp))))) (.node 196 (.leaf 195 (m2 (HM lp))) (.node 197 (.leaf 196 (m1 (HN lp))) (.leaf 197 (m2 (HO lp))))))) (.node 324 (.node 203 (.node 202 (.leaf 201 (m2 (HP lp))) (.leaf 202 (m1 (CB lp)))) (.node 215 (.leaf 203 (m2 (En lp))) (.node 217 (.leaf 215 (m1 (HR lp))) (.leaf 217 (m1 (HS lp)))))) (.node 336 (.node 331 (.leaf 324 (m2 (Mi lp))) (.node 333 (.leaf 331 (m1 (HT lp))) (.leaf 333 (m2 (Mj lp))))) (.node 342 (.leaf 336 (m2 (Mk lp))) (.node 344 (.leaf 342 (m1 (HU lp))) (.leaf 344 (m2 (Ml lp))))))))) (.node 428 (.node 393 (.node 364 (.node 349 (.node 348 (.leaf 345 (m2 (Mm lp))) (.leaf 348 (m1 (HV lp)))) (.node 352 (.leaf 349 (m1 (HW lp))) (.node 357 (.leaf 352 (m2 (HX lp))) (.leaf 357 (m1 (Eo lp)))))) (.node 385 (.node 365 (.leaf 364 (m2 (HY lp))) (.node 371 (.leaf 365 (m1 (HZ lp))) (.leaf 371 (m2 (Mn lp))))) (.node 386 (.leaf 385 (m1 (H0 lp))) (.node 392 (.leaf 386 (m2 (Ep lp))) (.leaf 392 (m2 (H1 lp))))))) (.node 416 (.node 412 (.node 394 (.leaf 393 (m1 (H2 lp))) (.leaf 394 (m1 (CC lp)))) (.node 414 (.leaf 412 (m5 (H3 lp))) (.node 415 (.leaf 414 (m4 (H4 lp))) (.leaf 415 (C1 0 lp 415 Tryz.f10 Mc))))) (.node 423 (.node 419 (.leaf 416 (m4 (H5 lp))) (.node 421 (.leaf 419 (m5 (H6 lp))) (.leaf 421 (m5 (Mq lp))))) (.node 425 (.leaf 423 (m3 (Mr lp))) (.node 427 (.leaf 425 (m4 (Ms lp))) (.leaf 427 (m1 (H7 lp)))))))) (.node 445 (.node 433 (.node 430 (.node 429 (.leaf 428 (m2 (H8 lp))) (.leaf 429 (m2 (Mt lp)))) (.node 431 (.leaf 430 (m3 (Mu lp))) (.node 432 (.leaf 431 (m2 (H9 lp))) (.leaf 432 (m2 (Mv lp)))))) (.node 440 (.node 434 (.leaf 433 (m2 (Ia lp))) (.node 435 (.leaf 434 (m3 (Ib lp))) (.leaf 435 (m2 (Ic lp))))) (.node 443 (.leaf 440 (m2 (Mw lp))) (.node 444 (.leaf 443 (m2 (Mx lp))) (.leaf 444 (m2 (My lp))))))) (.node 454 (.node 448 (.node 447 (.leaf 445 (m2 (Mz lp))) (.leaf 447 (m1 (Id lp)))) (.node 449 (.leaf 448 (m1 (Ie lp))) (.node 450 (.leaf 449 (m1 (If lp))) (.leaf 450 (m2 (Ig lp)))))) (.node 457 (.node 455 (.leaf 454 (m2 (MA lp))) (.node 456 (.leaf 455 (C1 0 lp 455 Tryz.f140 Me)) (.leaf 456 (m2 (Ih lp))))) (.node 458 (.leaf 457 (m3 (MB lp))) (.node 459 (.leaf 458 (m1 (MC lp))) (.leaf 459 (m1 (MD lp))))))))))
def xx{lp:Lp}(hlp:ak lp):(Gu lp).ok:=⟨⟨⟨⟨⟨⟨⟨W2 hlp,W3 hlp⟩,⟨W4 hlp,⟨W5 hlp,W6 hlp⟩⟩⟩,⟨⟨W7 hlp,⟨W8 hlp,W9 hlp⟩⟩,⟨Xa hlp,⟨Xb hlp,Xc hlp⟩⟩⟩⟩,⟨⟨⟨Xd hlp,Xe hlp⟩,⟨Xf hlp,⟨Xg hlp,Xh hlp⟩⟩⟩,⟨⟨Xi hlp,⟨Xj hlp,Xk hlp⟩⟩,⟨Xl hlp,⟨Xm hlp,Xn hlp⟩⟩⟩⟩⟩,⟨⟨⟨⟨Xo hlp,Xp hlp⟩,⟨Xq hlp,⟨Xr hlp,Xs hlp⟩⟩⟩,⟨⟨Xt hlp,⟨Xu hlp,Xv hlp⟩⟩,⟨Xw hlp,⟨Xx hlp,Xy hlp⟩⟩⟩⟩,⟨⟨⟨Xz hlp,XA hlp⟩,⟨XB hlp,⟨XC hlp,XD hlp⟩⟩⟩,⟨⟨XE hlp,⟨XF hlp,XG hlp⟩⟩,⟨XH hlp,⟨XI hlp,XJ hlp⟩⟩⟩⟩⟩⟩,⟨⟨⟨⟨⟨XK hlp,XL hlp⟩,⟨XM hlp,⟨XN hlp,XO hlp⟩⟩⟩,⟨⟨XP hlp,⟨XQ hlp,XR hlp⟩⟩,⟨XS hlp,⟨XT hlp,QH hlp⟩⟩⟩⟩,⟨⟨⟨QI hlp,QJ hlp⟩,⟨QK hlp,⟨QL hlp,QM hlp⟩⟩⟩,⟨⟨QN hlp,⟨QO hlp,QP hlp⟩⟩,⟨QQ hlp,⟨QR hlp,QS hlp⟩⟩⟩⟩⟩,⟨⟨⟨⟨QT hlp,QU hlp⟩,⟨QV hlp,⟨QW hlp,QX hlp⟩⟩⟩,⟨⟨QY hlp,⟨QZ hlp,Q0 hlp⟩⟩,⟨Q3 hlp,⟨Q4 hlp,Q5 hlp⟩⟩⟩⟩,⟨⟨⟨Q6 hlp,Q7 hlp⟩,⟨Q8 hlp,⟨Q9 hlp,Ra hlp⟩⟩⟩,⟨⟨Rb hlp,⟨Rc hlp,Rd hlp⟩⟩,⟨Re hlp,⟨Rf hlp,Rg hlp⟩⟩⟩⟩⟩⟩⟩,⟨⟨⟨⟨⟨⟨Rh hlp,Ri hlp⟩,⟨Rj hlp,⟨Rk hlp,Rl hlp⟩⟩⟩,⟨⟨Rm hlp,⟨Ro hlp,Rq hlp⟩⟩,⟨Rr hlp,⟨Rs hlp,Rt hlp⟩⟩⟩⟩,⟨⟨⟨Ru hlp,Rv hlp⟩,⟨Rx hlp,⟨Ry hlp,Rz hlp⟩⟩⟩,⟨⟨RA hlp,⟨RB hlp,RC hlp⟩⟩,⟨RD hlp,⟨RE hlp,RF hlp⟩⟩⟩⟩⟩,⟨⟨⟨⟨RG hlp,RH hlp⟩,⟨RJ hlp,⟨RK hlp,RL hlp⟩⟩⟩,⟨⟨RM hlp,⟨RN hlp,RO hlp⟩⟩,⟨RP hlp,⟨RQ hlp,RR hlp⟩⟩⟩⟩,⟨⟨⟨RS hlp,RT hlp⟩,⟨RU hlp,⟨RW hlp,RY hlp⟩⟩⟩,⟨⟨RZ hlp,⟨R5 hlp,R7 hlp⟩⟩,⟨R8 hlp,⟨R9 hlp,Sa hlp⟩⟩⟩⟩⟩⟩,⟨⟨⟨⟨⟨Sc hlp,Sd hlp⟩,⟨Se hlp,⟨Sf hlp,Sg hlp⟩⟩⟩,⟨⟨Si hlp,⟨Sj hlp,Sl hlp⟩⟩,⟨Sn hlp,⟨Sp hlp,Sq hlp⟩⟩⟩⟩,⟨⟨⟨Sr hlp,Ss hlp⟩,⟨MM hlp,⟨Su hlp,Sv hlp⟩⟩⟩,⟨⟨Sw hlp,⟨Sx hlp,SA hlp⟩⟩,⟨SB hlp,⟨SC hlp,SD hlp⟩⟩⟩⟩⟩,⟨⟨⟨⟨SE hlp,SF hlp⟩,⟨SG hlp,⟨SH hlp,SI hlp⟩⟩⟩,⟨⟨SJ hlp,⟨SK hlp,SL hlp⟩⟩,⟨SM hlp,⟨SN hlp,SO hlp⟩⟩⟩⟩,⟨⟨⟨SP hlp,SQ hlp⟩,⟨SR hlp,⟨SS hlp,ST hlp⟩⟩⟩,⟨⟨SU hlp,⟨SV hlp,SW hlp⟩⟩,⟨SX hlp,⟨SY hlp,SZ hlp⟩⟩⟩⟩⟩⟩⟩⟩
def EO(lp:Lp):Nat->Nat->List D->Option D
 | 0=>λ_ _=>none
 | n+1=>λf xs=>(Gu lp).get f (EO lp n) xs
theorem xX{lp:Lp}(hlp:ak lp):∀ n,gw Tryz.prog (EO lp n)
 | 0=>λf ptys rty xs y _ h _=>by cases h
 | n+1=>CT.get_ok (xx hlp) (xX hlp n)
end Sy
end
end Go.Proofs.YtphlmegkommlnaaGreatDoor
