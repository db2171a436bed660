/- Part 9 of the proof that HullMoves answers true at every input -/
import Derived.Test.YtjjjkojfijpeeaaGreatMoves05
import Derived.Test.YtjjjkojfijpeeaaGreatMoves06
import Derived.Test.YtjjjkojfijpeeaaGreatMoves07
import Derived.Test.YtjjjkojfijpeeaaGreatMoves08
set_option linter.unusedVariables false
set_option linter.unusedSimpArgs false
set_option linter.unnecessarySimpa false
section
set_option maxRecDepth 20000
set_option maxHeartbeats 0
set_option linter.unusedVariables false
namespace Go.Proofs.YtjjjkojfijpeeaaGreat.Sy
open Go Go.Proofs
def mU:Code->Code|.block _ c=>c|c=>c
def inLoop:Code->Code|.loop c=>c|c=>c
def pG:Code->Code|.seq a _=>a|c=>c
def m8:Code->Code|.seq _ b=>b|c=>c
def FY:Code->List Oper|.region _ o _=>o.toList|_=>[]
def I6:AnnT:=(.seq .leaf (.seq .leaf (.seq (.two .leaf (.two (.loop ⟨[(3,.ow K8),(12,.dv (Ty.int .i64))],[],[10,11]⟩ [(.exit 0,⟨[(3,.ow K8)],[],[]⟩)] (.two .leaf (.two .leaf (.two (.two (.two .leaf (.two .leaf (.two (.loop ⟨[(3,.ow K8),(5,.same (.ptr K6 24581 [])),(19,.dv (Ty.int .i64))],[(24581,.keep K6 5)],[10,11,12,17,18]⟩ [(.exit 2,⟨[(3,.ow K8)],[],[10,11,12]⟩)] (.two .leaf (.two .leaf (.cut [(.normal,⟨[(3,.ow K8),(5,.same (.ptr K6 24581 []))],[(24581,.keep K6 5)],[10,11,12,17,18,19]⟩)] [10,11,12,17,18,19] [24581] (.two (.two .leaf (.two (.reg [] 10) .leaf)) .leaf) .leaf)))) .leaf))) .leaf) .leaf)))) .leaf)) .hand)))
noncomputable def I9(lp:Lp)(call:Nat->List D->Option D)(a0:D):Option D:=
 Option.bind (call 18 [a0]) fun r1=>
 Option.bind (D.asSl r1) fun l2=>
 Option.bind (lp (β:=Nat×List D) (fun(v3:List D)=>
 Option.bind (D.bin .lss (gx v3 1) (D.int .i64 (List.length l2))) fun x4=>
 Option.bind (D.truth x4) fun b5=>
 if b5 then(Option.bind (D.asSl r1) fun l6=>
 Option.bind (D.idx (gx v3 1) (List.length l6)) fun i7=>
 Option.bind (l6[i7]?) fun x8=>
 Option.bind (D.get x8 [2]) fun x9=>
 Option.bind (D.asSl x9) fun l10=>
 Option.bind (lp (β:=Nat×List D) (fun(v11:List D)=>
 Option.bind (D.bin .lss (gx v11 1) (D.int .i64 (List.length l10))) fun x12=>
 Option.bind (D.truth x12) fun b13=>
 if b13 then(Option.bind (Option.bind (D.asSl x9) fun l14=>
 Option.bind (D.idx (gx v11 1) (List.length l14)) fun i15=>
 Option.bind (l14[i15]?) fun x16=>
 Option.bind (D.get x8 [2]) fun x17=>
 Option.bind (D.bin .add (gx v11 1) (D.int .i64 1)) fun x18=>
 Option.bind (D.get x8 [2]) fun x19=>
 Option.bind (D.asSl x19) fun l20=>
 Option.bind (D.bin .rem x18 (D.int .i64 (List.length l20))) fun x21=>
 Option.bind (D.asSl x17) fun l22=>
 Option.bind (D.idx x21 (List.length l22)) fun Bl=>
 Option.bind (l22[Bl]?) fun x24=>
 Option.bind (D.bin .lss x16 x24) fun x25=>
 Option.bind (D.truth x25) fun b26=>
 if b26 then(if List.length (D.els (gx v11 0))+List.length [(D.st [x16,x24])]<=1073741824 then(some (0,[(D.sl ((D.els (gx v11 0))++[(D.st [x16,x24])]))])) else none) else(some (0,[(D.sl (D.els (gx v11 0)))]))) fun(r27:Nat×List D)=>
 Option.bind (D.bin .add (gx v11 1) (D.int .i64 1)) fun x28=>
 some (Sum.inl [(D.sl (D.els (gx r27.2 0))),x28])) else(some (Sum.inr (0,[(D.sl (D.els (gx v11 0)))])))) [(D.sl (D.els (gx v3 0))),(D.int .i64 0)]) fun r29=>
 Option.bind (D.bin .add (gx v3 1) (D.int .i64 1)) fun x30=>
 some (Sum.inl [(D.sl (D.els (gx r29.2 0))),x30])) else(some (Sum.inr (0,[(D.sl (D.els (gx v3 0)))])))) [(D.sl []),(D.int .i64 0)]) fun r31=>
 Option.bind (if decide (List.length (D.els (gx r31.2 0))<=1073741824) then some (D.els (gx r31.2 0)) else none) fun l1=>
 Option.bind (iN (dO lp call (iG lp call)) 51 l1) fun l2=>some (D.sl l2)
theorem QK(lp:Lp)(call:Nat->List D->Option D)(a0:D):E6 (dO lp call (iG lp call)) (zv (dO lp call (iG lp call)) 48 3 51 K8) Tryz.f21 I6 [K3] [a0]=I9 lp call a0:=by kernel_rfl
def Hs:AnnT:=(.seq .leaf (.seq .leaf (.seq (.two .leaf (.two (.loop ⟨[(3,.same (.map dt Ty.bool 8204)),(15,.dv (Ty.int .i64))],[(8204,.mp dt Ty.bool)],[0,14]⟩ [(.exit 0,⟨[(3,.same (.map dt Ty.bool 8204))],[(8204,.mp dt Ty.bool)],[]⟩)] (.two .leaf (.two .leaf (.two (.two (.two .leaf (.two .leaf (.two (.loop ⟨[(3,.same (.map dt Ty.bool 8204)),(19,.dv (Ty.int .i64))],[(8204,.mp dt Ty.bool)],[0,4,14,15,18]⟩ [(.exit 2,⟨[(3,.same (.map dt Ty.bool 8204))],[(8204,.mp dt Ty.bool)],[0,14,15]⟩)] (.two .leaf (.two .leaf (.two (.two (.two .leaf (.two .leaf (.two (.loop ⟨[(3,.same (.map dt Ty.bool 8204)),(23,.dv (Ty.int .i64))],[(8204,.mp dt Ty.bool)],[0,4,5,14,15,18,19,22]⟩ [(.exit 4,⟨[(3,.same (.map dt Ty.bool 8204))],[(8204,.mp dt Ty.bool)],[0,4,14,15,18,19]⟩)] (.two .leaf (.two .leaf (.cut [(.normal,⟨[(3,.same (.map dt Ty.bool 8204))],[(8204,.mp dt Ty.bool)],[0,4,5,14,15,18,19,22,23]⟩)] [0,4,5,14,15,18,19,22,23] [] (.two (.two .leaf (.two (.reg [] 14) (.two .leaf (.two .leaf (.two (.loop ⟨[(3,.same (.map dt Ty.bool 8204)),(51,.ow dt),(53,.dv (Ty.int .i64))],[(8204,.mp dt Ty.bool)],[0,4,5,14,15,18,19,22,23,52]⟩ [(.exit 6,⟨[(3,.same (.map dt Ty.bool 8204))],[(8204,.mp dt Ty.bool)],[0,4,5,14,15,18,19,22,23]⟩)] (.two .leaf (.two .leaf (.cut [(.normal,⟨[(3,.same (.map dt Ty.bool 8204)),(51,.ow dt)],[(8204,.mp dt Ty.bool)],[0,4,5,14,15,18,19,22,23,52,53]⟩)] [0,4,5,14,15,18,19,22,23,52,53] [] .leaf .leaf)))) .leaf))))) .leaf) .leaf)))) .leaf))) .leaf) .leaf)))) .leaf))) .leaf) .leaf)))) .leaf)) (.seq .leaf .hand))))
noncomputable def Hh(lp:Lp)(call:Nat->List D->Option D)(a0:D):Option D:=
 Option.bind (D.asSl a0) fun l1=>
 Option.bind (lp (β:=Nat×List D) (fun(v2:List D)=>
 Option.bind (D.bin .lss (gx v2 0) (D.int .i64 (List.length l1))) fun x3=>
 Option.bind (D.truth x3) fun b4=>
 if b4 then(Option.bind (lp (β:=Nat×List D) (fun(v5:List D)=>
 Option.bind (D.bin .lss (gx v5 0) (gx v2 0)) fun x6=>
 Option.bind (D.truth x6) fun b7=>
 if b7 then(Option.bind (lp (β:=Nat×List D) (fun(v8:List D)=>
 Option.bind (D.bin .lss (gx v8 0) (gx v5 0)) fun x9=>
 Option.bind (D.truth x9) fun b10=>
 if b10 then(Option.bind (Option.bind (D.asSl a0) fun l11=>
 Option.bind (D.idx (gx v2 0) (List.length l11)) fun my=>
 Option.bind (l11[my]?) fun x13=>
 Option.bind (D.asSl a0) fun l14=>
 Option.bind (D.idx (gx v5 0) (List.length l14)) fun i15=>
 Option.bind (l14[i15]?) fun x16=>
 Option.bind (D.asSl a0) fun l17=>
 Option.bind (D.idx (gx v8 0) (List.length l17)) fun i18=>
 Option.bind (l17[i18]?) fun x19=>
 Option.bind (call 96 [x13,x16,x19]) fun r20=>
 Option.bind (D.get r20 [0]) fun x21=>
 Option.bind (D.truth (D.bool (D.beq x21 (D.st [(D.int .i64 0),(D.int .i64 0),(D.int .i64 0)])))) fun b22=>
 if b22 then(some (0,[(D.sl (D.els (gx v8 1)))])) else(Option.bind (D.get r20 [0]) fun x23=>
 Option.bind (call 97 [x23]) fun r24=>
 Option.bind (D.get r20 [1]) fun x25=>
 Option.bind (D.un .neg x25) fun x26=>
 Option.bind (lp (β:=Nat×List D) (fun(v27:List D)=>
 Option.bind (D.bin .lss (gx v27 1) (D.int .i64 2)) fun x28=>
 Option.bind (D.truth x28) fun b29=>
 if b29 then(Option.bind (Option.bind (D.idx (gx v27 1) (List.length (D.els (gx v27 0)))) fun i30=>
 Option.bind ((D.els (gx v27 0))[i30]?) fun x31=>
 Option.bind (D.un .not (Option.getD (D.mget (D.els (gx v27 2)) x31) (D.bool false))) fun x32=>
 Option.bind (D.truth x32) fun b33=>
 Option.bind (if b33 then(Option.bind (call 98 [a0,x31]) fun r34=>
 D.truth r34) else(some false)) fun b35=>
 Option.bind (D.truth (D.bool b35)) fun b36=>
 if b36 then(some (0,[(D.sl (D.els (gx v27 0))),(D.sl (D.mput (D.els (gx v27 2)) x31 (D.bool true)))])) else(some (0,[(D.sl (D.els (gx v27 0))),(D.sl (D.els (gx v27 2)))]))) fun(r37:Nat×List D)=>
 Option.bind (D.bin .add (gx v27 1) (D.int .i64 1)) fun x38=>
 some (Sum.inl [(D.sl (D.els (gx r37.2 0))),x38,(D.sl (D.els (gx r37.2 1)))])) else(some (Sum.inr (0,[(D.sl (D.els (gx v27 2)))])))) [(D.sl [r20,(D.st [r24,x26])]),(D.int .i64 0),(D.sl (D.els (gx v8 1)))]) fun r39=>
 some (0,[(D.sl (D.els (gx r39.2 0)))]))) fun(r40:Nat×List D)=>
 Option.bind (D.bin .add (gx v8 0) (D.int .i64 1)) fun x41=>
 some (Sum.inl [x41,(D.sl (D.els (gx r40.2 0)))])) else(some (Sum.inr (0,[(D.sl (D.els (gx v8 1)))])))) [(D.int .i64 0),(D.sl (D.els (gx v5 1)))]) fun r42=>
 Option.bind (D.bin .add (gx v5 0) (D.int .i64 1)) fun x43=>
 some (Sum.inl [x43,(D.sl (D.els (gx r42.2 0)))])) else(some (Sum.inr (0,[(D.sl (D.els (gx v5 1)))])))) [(D.int .i64 0),(D.sl (D.els (gx v2 1)))]) fun r44=>
 Option.bind (D.bin .add (gx v2 0) (D.int .i64 1)) fun x45=>
 some (Sum.inl [x45,(D.sl (D.els (gx r44.2 0)))])) else(some (Sum.inr (0,[(D.sl (D.els (gx v2 1)))])))) [(D.int .i64 0),(D.sl [])]) fun r46=>
 if decide (List.length (D.els (gx r46.2 0))<=1073741824) then(Option.bind (iN (dO lp call (iG lp call)) 100 (List.map rP (D.els (gx r46.2 0)))) fun l2=>some (D.sl l2)) else none
theorem Rq(lp:Lp)(call:Nat->List D->Option D)(a0:D):E6 (dO lp call (iG lp call)) (vc (dO lp call (iG lp call)) 85 3 10 100 dt Ty.bool) Tryz.f45 Hs [K2] [a0]=Hh lp call a0:=by kernel_rfl
def kc(f:Func):Code:=match f.body with|some c=>c|none=>.skip
noncomputable def vK:Code:=mU (m8 (m8 (inLoop (mU (m8 (pG (oO (kc Tryz.f45) Hs)))))))
noncomputable def xY:List Oper:=(FY (pG vK)).tail
noncomputable def J7:Code:=m8 vK
theorem HG{lp:Lp}{call:Nat->List D->Option D}(hE:EnvOk Tryz.prog (dO lp call (iG lp call))){a0 y:D}(h:I9 lp call a0=some y):Dr Tryz.prog [K3] K9 21 [a0] y:=by
 refine pY hE (f:=21) (fn:=Tryz.f21) (ann:=I6) (K:=zv (dO lp call (iG lp call)) 48 3 51 K8) (by kernel_rfl) (by kernel_rfl) ((QK lp call a0).trans h) ?_
 intro c hb w S S' γ' β' s' a' w' hR hK
 have e:∀ c',Tryz.f21.body=some c'->(oO c' I6).wpIn (FW none) 0 Tryz.prog (FN Tryz.prog Tryz.f21 w S K9 y) a' w'->(oO c I6).wpIn (FW none) 0 Tryz.prog (FN Tryz.prog Tryz.f21 w S K9 y) a' w':=fun c' h1 h2=>by
  rw[hb] at h1;cases h1;exact h2
 refine e _ rfl ?_
 exact tB hE Cm (g:=51) (x:=3) (t:=45) (d2:=46) (nt:=48) (ann:=.leaf) (by kernel_rfl) (by kernel_rfl) rfl rfl (by decide) (fun l'=>by kernel_rfl) hR hK
theorem Fk{lp:Lp}{call:Nat->List D->Option D}:∀ X L k v,xM dt L X->L.length<1073741824->wt dt k->ev (dO lp call (iG lp call)) (.region 0 (xY).toArray false) .leaf D ((σL 85 10 73 X).put (some 76) (.d (.tup [dt,.bool]) (.tup [k,v]))) (fun x s'=>match x with
   | .normal=>ev (dO lp call (iG lp call)) J7 .leaf D s' (fun x s''=>match x with|.normal=>(cu s'' dt 10).bind fun l=>some (.sl l)|_=>none)
   | _=>none)=some (.sl (L++[k])):=by
 intro X L k v hX hL _
 rcases hX with⟨rfl,rfl⟩|rfl
 ·kernel_rfl
 ·have key:ev (dO lp call (iG lp call)) (.region 0 (xY).toArray false) .leaf D ((σL 85 10 73 (.own dt 5 L)).put (some 76) (.d (.tup [dt,.bool]) (.tup [k,v]))) (fun x s'=>match x with
   | .normal=>ev (dO lp call (iG lp call)) J7 .leaf D s' (fun x s''=>match x with|.normal=>(cu s'' dt 10).bind fun l=>some (.sl l)|_=>none)
   | _=>none)=(if List.length L+List.length [k]<=1073741824 then(Option.bind (if decide (List.length (L++[k])<=1073741824) then some (L++[k]) else none) fun l=>some (.sl l)) else none):=by kernel_rfl
  rw[key,if_pos (by simp;omega),if_pos (by simp;omega)]
  rfl
theorem HD{lp:Lp}{call:Nat->List D->Option D}(hE:EnvOk Tryz.prog (dO lp call (iG lp call))){a0 y:D}(h:Hh lp call a0=some y):Dr Tryz.prog [K2] Hg 45 [a0] y:=by
 refine pY hE (f:=45) (fn:=Tryz.f45) (ann:=Hs) (K:=vc (dO lp call (iG lp call)) 85 3 10 100 dt .bool) (by kernel_rfl) (by kernel_rfl) ((Rq lp call a0).trans h) ?_
 intro c hb w S S' γ' β' s' a' w' hR hK
 have e:∀ c',Tryz.f45.body=some c'->(oO c' Hs).wpIn (FW none) 0 Tryz.prog (FN Tryz.prog Tryz.f45 w S Hg y) a' w'->(oO c Hs).wpIn (FW none) 0 Tryz.prog (FN Tryz.prog Tryz.f45 w S Hg y) a' w':=fun c' h1 h2=>by
  rw[hb] at h1;cases h1;exact h2
 refine e _ rfl ?_
 exact yu hE rfl rfl rfl rfl (by kernel_rfl) (t72:=72) (m0:=3) (it:=73) (T:=127) (nx:=74) (ok:=75) (en:=76) (o:=10) (nt:=85) (Do:=J7) (rest:=xY) rfl rfl rfl rfl (TK:=85) (TV:=4) (by kernel_rfl) (by decide) Fk Cq (g:=100) (by kernel_rfl) (t:=82) (d2:=83) (ann:=.leaf) rfl rfl (by decide) (fun l'=>by kernel_rfl) hR hK
end Go.Proofs.YtjjjkojfijpeeaaGreat.Sy
end
section
namespace Go.Proofs.YtjjjkojfijpeeaaGreat.Sy
open Go Go.Proofs
theorem Qi{lp:Lp}(hlp:au lp):ae 21 (m1 (I9 lp)):=by
 intro call hc ptys rty' xs y hs hy hw
 have:ns 21=some ([K3],K9):=by kernel_rfl
 rw[this] at hs;cases hs
 unfold m1 at hy
 split at hy<;>first|(cases hy;done)|skip
 exact HG (EE hlp hc) hy
theorem Ry{lp:Lp}(hlp:au lp):ae 45 (m1 (Hh lp)):=by
 intro call hc ptys rty' xs y hs hy hw
 have:ns 45=some ([K2],Hg):=by kernel_rfl
 rw[this] at hs;cases hs
 unfold m1 at hy
 split at hy<;>first|(cases hy;done)|skip
 exact HD (EE hlp hc) hy
def ka(x:D):List D->List D
 | []=>[]
 | y::l=>if y.beq x then ka y l else y::ka y l
def jN:List D->List D
 | []=>[]
 | x::l=>x::ka x l
def uS(E:Env)(g:Nat)(l:List D):Option (List D):=if kp E g (jN (iw (mw E g) l)) then some (iw (mw E g) l) else none
noncomputable def qt(lp:Lp)(call:Nat->List D->Option D)(xs:List D):Option D:=match xs with
 | [.sl l]=>if decide (l.length<=1073741824) then(uS (dO lp call (iG lp call)) 94 l).bind fun l'=>some (.sl (jN l')) else none
 | _=>none
end Go.Proofs.YtjjjkojfijpeeaaGreat.Sy
end
section
set_option maxRecDepth 20000
set_option maxHeartbeats 0
namespace Go.Proofs.YtjjjkojfijpeeaaGreat.Sy
open Go Go.Proofs
noncomputable def Ig(lp:Lp):CT:=.node 91 (.node 48 (.node 29 (.node 18 (.node 13 (.node 11 (.node 10 (.leaf 8 (m2 (F8 lp))) (.leaf 10 (fT lp 10 Tryz.f10 NA))) (.node 12 (.leaf 11 (fT lp 11 Tryz.f11 NE)) (.leaf 12 (m1 (Hk lp))))) (.node 15 (.node 14 (.leaf 13 (m2 (Jq lp))) (.leaf 14 (fT lp 14 Tryz.f14 .leaf))) (.node 16 (.leaf 15 (m1 (IT lp))) (.node 17 (.leaf 16 (m1 (Jj lp))) (.leaf 17 (fT lp 17 Tryz.f17 Oc)))))) (.node 24 (.node 20 (.node 19 (.leaf 18 (m1 (IU lp))) (.leaf 19 (m1 (Jm lp)))) (.node 21 (.leaf 20 (fT lp 20 Tryz.f20 NJ)) (.node 23 (.leaf 21 (m1 (I9 lp))) (.leaf 23 (m1 (Jd lp)))))) (.node 26 (.node 25 (.leaf 24 (m1 (IK lp))) (.leaf 25 (m1 (Jk lp)))) (.node 27 (.leaf 26 (m1 (IV lp))) (.node 28 (.leaf 27 (m2 (NL lp))) (.leaf 28 (m1 (Jr lp)))))))) (.node 38 (.node 33 (.node 31 (.node 30 (.leaf 29 (m1 (NS lp))) (.leaf 30 (fT lp 30 Tryz.f30 N8))) (.node 32 (.leaf 31 (m1 (IN lp))) (.leaf 32 (m2 (IJ lp))))) (.node 35 (.node 34 (.leaf 33 (m2 (Od lp))) (.leaf 34 (m1 (Jo lp)))) (.node 36 (.leaf 35 (m2 (Hw lp))) (.node 37 (.leaf 36 (m2 (Ji lp))) (.leaf 37 (m2 (Jc lp))))))) (.node 43 (.node 40 (.node 39 (.leaf 38 (m2 (IX lp))) (.leaf 39 (m2 (I4 lp)))) (.node 41 (.leaf 40 (m2 (Js lp))) (.node 42 (.leaf 41 (m2 (IC lp))) (.leaf 42 (m2 (IF lp)))))) (.node 45 (.node 44 (.leaf 43 (fT lp 43 Tryz.f43 NU)) (.leaf 44 (qt lp))) (.node 46 (.leaf 45 (m1 (Hh lp))) (.node 47 (.leaf 46 (m2 (Jl lp))) (.leaf 47 (m1 (IL lp))))))))) (.node 72 (.node 61 (.node 53 (.node 51 (.node 49 (.leaf 48 (m1 (Jg lp))) (.leaf 49 (fT lp 49 Tryz.f49 NV))) (.node 52 (.leaf 51 (m2 (NM lp))) (.leaf 52 (m1 (I7 lp))))) (.node 57 (.node 54 (.leaf 53 (m2 (IP lp))) (.leaf 54 (m1 (IB lp)))) (.node 58 (.leaf 57 (m2 (Ja lp))) (.node 59 (.leaf 58 (m1 (NN lp))) (.leaf 59 (m2 (Is lp))))))) (.node 66 (.node 63 (.node 62 (.leaf 61 (m2 (Je lp))) (.leaf 62 (m2 (IM lp)))) (.node 64 (.leaf 63 (m1 (IE lp))) (.node 65 (.leaf 64 (m2 (Jy lp))) (.leaf 65 (m2 (I2 lp)))))) (.node 69 (.node 68 (.leaf 66 (m2 (IW lp))) (.leaf 68 (m1 (I0 lp)))) (.node 70 (.leaf 69 (m3 (NZ lp))) (.node 71 (.leaf 70 (m1 (Jv lp))) (.leaf 71 (fT lp 71 Tryz.f71 .leaf))))))) (.node 81 (.node 76 (.node 74 (.node 73 (.leaf 72 (fT lp 72 Tryz.f72 NH)) (.leaf 73 (fT lp 73 Tryz.f73 N0))) (.node 75 (.leaf 74 (fT lp 74 Tryz.f74 .leaf)) (.leaf 75 (m1 (Jp lp))))) (.node 78 (.node 77 (.leaf 76 (m1 (IY lp))) (.leaf 77 (m1 (I3 lp)))) (.node 79 (.leaf 78 (m2 (Jt lp))) (.node 80 (.leaf 79 (m2 (NQ lp))) (.leaf 80 (m1 (Jn lp))))))) (.node 86 (.node 83 (.node 82 (.leaf 81 (m2 (H2 lp))) (.leaf 82 (m2 (Ju lp)))) (.node 84 (.leaf 83 (m1 (IG lp))) (.node 85 (.leaf 84 (fT lp 84 Tryz.f84 .leaf)) (.leaf 85 (m2 (Ik lp)))))) (.node 88 (.node 87 (.leaf 86 (m1 (Jw lp))) (.leaf 87 (m2 (Iu lp)))) (.node 89 (.leaf 88 (m1 (Jx lp))) (.node 90 (.leaf 89 (m2 (H4 lp))) (.leaf 90 (fT lp 90 Tryz.f90 Ny))))))))) (.node 136 (.node 117 (.node 105 (.node 98 (.node 96 (.node 94 (.leaf 91 (m2 (II lp))) (.leaf 94 (m2 (Nw lp)))) (.node 97 (.leaf 96 (m3 (Jf lp))) (.leaf 97 (m1 (IH lp))))) (.node 101 (.node 100 (.leaf 98 (m2 (IZ lp))) (.leaf 100 (m2 (Dx lp)))) (.node 103 (.leaf 101 (m2 (BZ lp))) (.node 104 (.leaf 103 (m2 (Fz lp))) (.leaf 104 (m3 (DK lp))))))) (.node 110 (.node 107 (.node 106 (.leaf 105 (m2 (DM lp))) (.leaf 106 (m3 (D2 lp)))) (.node 108 (.leaf 107 (m2 (DG lp))) (.node 109 (.leaf 108 (m2 (EK lp))) (.leaf 109 (m3 (EH lp)))))) (.node 112 (.node 111 (.leaf 110 (m2 (FK lp))) (.leaf 111 (m3 (D3 lp)))) (.node 115 (.leaf 112 (m2 (DX lp))) (.node 116 (.leaf 115 (m1 (D8 lp))) (.leaf 116 (m2 (Fn lp)))))))) (.node 126 (.node 121 (.node 119 (.node 118 (.leaf 117 (m2 (DC lp))) (.leaf 118 (m1 (ET lp)))) (.node 120 (.leaf 119 (m0 (E7 lp))) (.leaf 120 (m2 (EX lp))))) (.node 123 (.node 122 (.leaf 121 (m2 (DZ lp))) (.leaf 122 (m2 (D1 lp)))) (.node 124 (.leaf 123 (m2 (Fd lp))) (.node 125 (.leaf 124 (m1 (Da lp))) (.leaf 125 (m0 (DV lp))))))) (.node 131 (.node 128 (.node 127 (.leaf 126 (m2 (Du lp))) (.leaf 127 (m1 (Ez lp)))) (.node 129 (.leaf 128 (m1 (Fj lp))) (.node 130 (.leaf 129 (m1 (EP lp))) (.leaf 130 (fT lp 130 Tryz.f130 .leaf))))) (.node 133 (.node 132 (.leaf 131 (m2 (EN lp))) (.leaf 132 (m2 (EU lp)))) (.node 134 (.leaf 133 (m0 (Fh lp))) (.node 135 (.leaf 134 (fT lp 134 Tryz.f134 Ho)) (.leaf 135 (fT lp 135 Tryz.f135 Ix)))))))) (.node 168 (.node 145 (.node 140 (.node 138 (.node 137 (.leaf 136 (fT lp 136 Tryz.f136 .leaf)) (.leaf 137 (fT lp 137 Tryz.f137 .leaf))) (.node 139 (.leaf 138 (fT lp 138 Tryz.f138 Ii)) (.leaf 139 (m1 (Et lp))))) (.node 142 (.node 141 (.leaf 140 (m1 (E0 lp))) (.leaf 141 (m2 (Eu lp)))) (.node 143 (.leaf 142 (m1 (Dy lp))) (.node 144 (.leaf 143 (m2 (EJ lp))) (.leaf 144 (m2 (DF lp))))))) (.node 154 (.node 147 (.node 146 (.leaf 145 (m1 (DT lp))) (.leaf 146 (m2 (E1 lp)))) (.node 148 (.leaf 147 (m2 (EA lp))) (.node 152 (.leaf 148 (m1 (ED lp))) (.leaf 152 (m2 (Ed lp)))))) (.node 156 (.node 155 (.leaf 154 (m2 (ES lp))) (.leaf 155 (m1 (DY lp)))) (.node 165 (.leaf 156 (m5 (DW lp))) (.node 167 (.leaf 165 (m1 (DA lp))) (.leaf 167 (m1 (EG lp)))))))) (.node 188 (.node 173 (.node 170 (.node 169 (.leaf 168 (m2 (Fv lp))) (.leaf 169 (fT lp 169 Tryz.f169 .leaf))) (.node 171 (.leaf 170 (m2 (E3 lp))) (.node 172 (.leaf 171 (m1 (EQ lp))) (.leaf 172 (m2 (Ey lp)))))) (.node 175 (.node 174 (.leaf 173 (fT lp 173 Tryz.f173 H9)) (.leaf 174 (fT lp 174 Tryz.f174 HR))) (.node 186 (.leaf 175 (m2 (FC lp))) (.node 187 (.leaf 186 (m1 (Fi lp))) (.leaf 187 (m1 (FG lp))))))) (.node 201 (.node 195 (.node 194 (.leaf 188 (m2 (Fx lp))) (.leaf 194 (m1 (Fa lp)))) (.node 196 (.leaf 195 (m2 (EI lp))) (.node 197 (.leaf 196 (m1 (Eh lp))) (.leaf 197 (m2 (D7 lp)))))) (.node 203 (.node 202 (.leaf 201 (m2 (Eg lp))) (.leaf 202 (m1 (Ak lp)))) (.node 215 (.leaf 203 (fT lp 203 Tryz.f203 HY)) (.node 217 (.leaf 215 (m1 (Ee lp))) (.leaf 217 (m1 (Fp lp))))))))))
theorem Ev{lp:Lp}(hlp:au lp)(h44:ae 44 (qt lp)):(Ig lp).ok:=⟨⟨⟨⟨⟨⟨⟨L8 hlp,Ri hlp⟩,⟨QP hlp,OS hlp⟩⟩,⟨⟨Pq hlp,P5 hlp⟩,⟨ON hlp,⟨OK hlp,P1 hlp⟩⟩⟩⟩,⟨⟨⟨Pb hlp,Ps hlp⟩,⟨Px hlp,⟨Qi hlp,PI hlp⟩⟩⟩,⟨⟨Oi hlp,Rm hlp⟩,⟨OA hlp,⟨OZ hlp,Qt hlp⟩⟩⟩⟩⟩,⟨⟨⟨⟨Q6 hlp,PG hlp⟩,⟨Rx hlp,Ql hlp⟩⟩,⟨⟨Ot hlp,PX hlp⟩,⟨Rc hlp,⟨P4 hlp,O2 hlp⟩⟩⟩⟩,⟨⟨⟨QU hlp,PP hlp⟩,⟨RJ hlp,⟨P8 hlp,OE hlp⟩⟩⟩,⟨⟨Of hlp,h44⟩,⟨Ry hlp,⟨O1 hlp,Pr hlp⟩⟩⟩⟩⟩⟩,⟨⟨⟨⟨⟨OW hlp,OO hlp⟩,⟨Om hlp,PB hlp⟩⟩,⟨⟨Qe hlp,RC hlp⟩,⟨Qo hlp,⟨PY hlp,OC hlp⟩⟩⟩⟩,⟨⟨⟨Qk hlp,OJ hlp⟩,⟨QO hlp,⟨Oo hlp,OT hlp⟩⟩⟩,⟨⟨Pi hlp,Qr hlp⟩,⟨OF hlp,⟨Rh hlp,P6 hlp⟩⟩⟩⟩⟩,⟨⟨⟨⟨QS hlp,OQ hlp⟩,⟨P2 hlp,Qd hlp⟩⟩,⟨⟨PD hlp,Ph hlp⟩,⟨PE hlp,⟨Rb hlp,Og hlp⟩⟩⟩⟩,⟨⟨⟨OV hlp,Qc hlp⟩,⟨PZ hlp,⟨QW hlp,P7 hlp⟩⟩⟩,⟨⟨QQ hlp,Pp hlp⟩,⟨OX hlp,⟨Po hlp,PN hlp⟩⟩⟩⟩⟩⟩⟩,⟨⟨⟨⟨⟨⟨QB hlp,Qa hlp⟩,⟨Qm hlp,RB hlp⟩⟩,⟨⟨Rs hlp,Kj hlp⟩,⟨KZ hlp,⟨Nm hlp,KU hlp⟩⟩⟩⟩,⟨⟨⟨KR hlp,Mb hlp⟩,⟨LZ hlp,⟨Mh hlp,M3 hlp⟩⟩⟩,⟨⟨Kf hlp,J4 hlp⟩,⟨J0 hlp,⟨Mk hlp,Nh hlp⟩⟩⟩⟩⟩,⟨⟨⟨⟨JE hlp,KN hlp⟩,⟨Nb hlp,KJ hlp⟩⟩,⟨⟨Kv hlp,Na hlp⟩,⟨KC hlp,⟨KE hlp,Lv hlp⟩⟩⟩⟩,⟨⟨⟨J5 hlp,Kq hlp⟩,⟨LR hlp,⟨Kn hlp,Lg hlp⟩⟩⟩,⟨⟨La hlp,L9 hlp⟩,⟨Nc hlp,⟨KL hlp,No hlp⟩⟩⟩⟩⟩⟩,⟨⟨⟨⟨⟨KW hlp,Nn hlp⟩,⟨Np hlp,J8 hlp⟩⟩,⟨⟨Mq hlp,Mm hlp⟩,⟨Nr hlp,⟨Lu hlp,JX hlp⟩⟩⟩⟩,⟨⟨⟨JG hlp,MQ hlp⟩,⟨Lz hlp,⟨KS hlp,Kl hlp⟩⟩⟩,⟨⟨Ku hlp,LP hlp⟩,⟨Kt hlp,⟨LN hlp,M2 hlp⟩⟩⟩⟩⟩,⟨⟨⟨⟨LO hlp,LL hlp⟩,⟨KP hlp,⟨MN hlp,MR hlp⟩⟩⟩,⟨⟨JU hlp,MA hlp⟩,⟨MM hlp,⟨M8 hlp,J1 hlp⟩⟩⟩⟩,⟨⟨⟨Lo hlp,JN hlp⟩,⟨Md hlp,⟨J3 hlp,Ma hlp⟩⟩⟩,⟨⟨Lm hlp,LX hlp⟩,⟨LH hlp,⟨LA hlp,J6 hlp⟩⟩⟩⟩⟩⟩⟩⟩
noncomputable def vi(lp:Lp):Nat->Nat->List D->Option D
 | 0=>fun _ _=>none
 | n+1=>fun f xs=>(Ig lp).get f (vi lp n) xs
theorem pO{lp:Lp}(hlp:au lp)(h44:ae 44 (qt lp)):∀ n,jH Tryz.prog (vi lp n)
 | 0=>fun f ptys rty xs y _ h _=>by cases h
 | n+1=>CT.get_ok (Ev hlp h44) (pO hlp h44 n)
end Go.Proofs.YtjjjkojfijpeeaaGreat.Sy
end
section
set_option maxRecDepth 100000
set_option maxHeartbeats 0
namespace Go.Proofs.YtjjjkojfijpeeaaGreat.Sy
open Go Go.Proofs
noncomputable def NW(N:Nat):Lp:=fun{α β} body=>nj (α:=α) (β:=β) body N
theorem yl:vi (NW 2000) 20 10 []=some (.bool true):=by kernel_rfl
end Go.Proofs.YtjjjkojfijpeeaaGreat.Sy
end
section
set_option maxRecDepth 20000
namespace Go.Proofs.YtjjjkojfijpeeaaGreat.Sy
open Go Go.Proofs
noncomputable def bc:Lp:=fun{α β} body=>km (α:=α) (β:=β) body
noncomputable def cA(n:Nat):Nat->List D->Option D:=vi bc n
theorem u8(n:Nat)(a0 a1:D):cA (n+1) 8 [a0,a1]=F8 bc (cA n) a0 a1:=by kernel_rfl
theorem If(n:Nat)(a0:D):cA (n+1) 12 [a0]=Hk bc (cA n) a0:=by kernel_rfl
theorem PL(n:Nat)(a0 a1:D):cA (n+1) 13 [a0,a1]=Jq bc (cA n) a0 a1:=by kernel_rfl
theorem QN(n:Nat)(a0:D):cA (n+1) 15 [a0]=IT bc (cA n) a0:=by kernel_rfl
theorem QH(n:Nat)(a0:D):cA (n+1) 16 [a0]=Jj bc (cA n) a0:=by kernel_rfl
theorem Re(n:Nat)(a0:D):cA (n+1) 18 [a0]=IU bc (cA n) a0:=by kernel_rfl
theorem QT(n:Nat)(a0:D):cA (n+1) 19 [a0]=Jm bc (cA n) a0:=by kernel_rfl
theorem PJ(n:Nat)(a0:D):cA (n+1) 23 [a0]=Jd bc (cA n) a0:=by kernel_rfl
theorem OP(n:Nat)(a0:D):cA (n+1) 24 [a0]=IK bc (cA n) a0:=by kernel_rfl
theorem Pk(n:Nat)(a0:D):cA (n+1) 25 [a0]=Jk bc (cA n) a0:=by kernel_rfl
theorem Q2(n:Nat)(a0:D):cA (n+1) 26 [a0]=IV bc (cA n) a0:=by kernel_rfl
theorem Qw(n:Nat)(a0:D):cA (n+1) 28 [a0]=Jr bc (cA n) a0:=by kernel_rfl
theorem OB(n:Nat)(a0:D):cA (n+1) 31 [a0]=IN bc (cA n) a0:=by kernel_rfl
theorem u32(n:Nat)(a0 a1:D):cA (n+1) 32 [a0,a1]=IJ bc (cA n) a0 a1:=by kernel_rfl
theorem QA(n:Nat)(a0:D):cA (n+1) 34 [a0]=Jo bc (cA n) a0:=by kernel_rfl
theorem Rt(n:Nat)(a0 a1:D):cA (n+1) 35 [a0,a1]=Hw bc (cA n) a0 a1:=by kernel_rfl
theorem Pg(n:Nat)(a0 a1:D):cA (n+1) 36 [a0,a1]=Ji bc (cA n) a0 a1:=by kernel_rfl
theorem QE(n:Nat)(a0 a1:D):cA (n+1) 37 [a0,a1]=Jc bc (cA n) a0 a1:=by kernel_rfl
theorem RI(n:Nat)(a0 a1:D):cA (n+1) 38 [a0,a1]=IX bc (cA n) a0 a1:=by kernel_rfl
theorem QV(n:Nat)(a0 a1:D):cA (n+1) 39 [a0,a1]=I4 bc (cA n) a0 a1:=by kernel_rfl
theorem QR(n:Nat)(a0 a1:D):cA (n+1) 40 [a0,a1]=Js bc (cA n) a0 a1:=by kernel_rfl
theorem Rn(n:Nat)(a0 a1:D):cA (n+1) 41 [a0,a1]=IC bc (cA n) a0 a1:=by kernel_rfl
theorem RE(n:Nat)(a0 a1:D):cA (n+1) 42 [a0,a1]=IF bc (cA n) a0 a1:=by kernel_rfl
theorem Pu(n:Nat)(a0:D):cA (n+1) 45 [a0]=Hh bc (cA n) a0:=by kernel_rfl
theorem PQ(n:Nat)(a0 a1:D):cA (n+1) 46 [a0,a1]=Jl bc (cA n) a0 a1:=by kernel_rfl
theorem Ow(n:Nat)(a0:D):cA (n+1) 47 [a0]=IL bc (cA n) a0:=by kernel_rfl
theorem OD(n:Nat)(a0:D):cA (n+1) 48 [a0]=Jg bc (cA n) a0:=by kernel_rfl
theorem Rk(n:Nat)(a0:D):cA (n+1) 52 [a0]=I7 bc (cA n) a0:=by kernel_rfl
theorem Ru(n:Nat)(a0 a1:D):cA (n+1) 53 [a0,a1]=IP bc (cA n) a0 a1:=by kernel_rfl
theorem Q4(n:Nat)(a0:D):cA (n+1) 54 [a0]=IB bc (cA n) a0:=by kernel_rfl
theorem Qx(n:Nat)(a0 a1:D):cA (n+1) 57 [a0,a1]=Ja bc (cA n) a0 a1:=by kernel_rfl
theorem Nz(n:Nat)(a0 a1:D):cA (n+1) 59 [a0,a1]=Is bc (cA n) a0 a1:=by kernel_rfl
theorem O4(n:Nat)(a0 a1:D):cA (n+1) 61 [a0,a1]=Je bc (cA n) a0 a1:=by kernel_rfl
theorem Oq(n:Nat)(a0 a1:D):cA (n+1) 62 [a0,a1]=IM bc (cA n) a0 a1:=by kernel_rfl
theorem Ro(n:Nat)(a0:D):cA (n+1) 63 [a0]=IE bc (cA n) a0:=by kernel_rfl
theorem u64(n:Nat)(a0 a1:D):cA (n+1) 64 [a0,a1]=Jy bc (cA n) a0 a1:=by kernel_rfl
theorem P9(n:Nat)(a0 a1:D):cA (n+1) 65 [a0,a1]=I2 bc (cA n) a0 a1:=by kernel_rfl
theorem O7(n:Nat)(a0 a1:D):cA (n+1) 66 [a0,a1]=IW bc (cA n) a0 a1:=by kernel_rfl
theorem Pt(n:Nat)(a0:D):cA (n+1) 68 [a0]=I0 bc (cA n) a0:=by kernel_rfl
theorem PO(n:Nat)(a0:D):cA (n+1) 70 [a0]=Jv bc (cA n) a0:=by kernel_rfl
theorem Pn(n:Nat)(a0:D):cA (n+1) 75 [a0]=Jp bc (cA n) a0:=by kernel_rfl
theorem Ol(n:Nat)(a0:D):cA (n+1) 76 [a0]=IY bc (cA n) a0:=by kernel_rfl
theorem Q8(n:Nat)(a0:D):cA (n+1) 77 [a0]=I3 bc (cA n) a0:=by kernel_rfl
theorem OL(n:Nat)(a0 a1:D):cA (n+1) 78 [a0,a1]=Jt bc (cA n) a0 a1:=by kernel_rfl
theorem OR(n:Nat)(a0:D):cA (n+1) 80 [a0]=Jn bc (cA n) a0:=by kernel_rfl
theorem ND(n:Nat)(a0 a1:D):cA (n+1) 81 [a0,a1]=H2 bc (cA n) a0 a1:=by kernel_rfl
theorem O9(n:Nat)(a0 a1:D):cA (n+1) 82 [a0,a1]=Ju bc (cA n) a0 a1:=by kernel_rfl
theorem PF(n:Nat)(a0:D):cA (n+1) 83 [a0]=IG bc (cA n) a0:=by kernel_rfl
theorem NG(n:Nat)(a0 a1:D):cA (n+1) 85 [a0,a1]=Ik bc (cA n) a0 a1:=by kernel_rfl
theorem Ov(n:Nat)(a0:D):cA (n+1) 86 [a0]=Jw bc (cA n) a0:=by kernel_rfl
theorem NB(n:Nat)(a0 a1:D):cA (n+1) 87 [a0,a1]=Iu bc (cA n) a0 a1:=by kernel_rfl
theorem P3(n:Nat)(a0:D):cA (n+1) 88 [a0]=Jx bc (cA n) a0:=by kernel_rfl
theorem Nv(n:Nat)(a0 a1:D):cA (n+1) 89 [a0,a1]=H4 bc (cA n) a0 a1:=by kernel_rfl
theorem Qv(n:Nat)(a0 a1:D):cA (n+1) 91 [a0,a1]=II bc (cA n) a0 a1:=by kernel_rfl
theorem Rr(n:Nat)(a0 a1 a2:D):cA (n+1) 96 [a0,a1,a2]=Jf bc (cA n) a0 a1 a2:=by kernel_rfl
theorem Oz(n:Nat)(a0:D):cA (n+1) 97 [a0]=IH bc (cA n) a0:=by kernel_rfl
theorem Oh(n:Nat)(a0 a1:D):cA (n+1) 98 [a0,a1]=IZ bc (cA n) a0 a1:=by kernel_rfl
theorem JA(n:Nat)(a0 a1:D):cA (n+1) 100 [a0,a1]=Dx bc (cA n) a0 a1:=by kernel_rfl
theorem Ln(n:Nat)(a0 a1:D):cA (n+1) 101 [a0,a1]=BZ bc (cA n) a0 a1:=by kernel_rfl
theorem Lc(n:Nat)(a0 a1:D):cA (n+1) 103 [a0,a1]=Fz bc (cA n) a0 a1:=by kernel_rfl
theorem JM(n:Nat)(a0 a1 a2:D):cA (n+1) 104 [a0,a1,a2]=DK bc (cA n) a0 a1 a2:=by kernel_rfl
theorem Kx(n:Nat)(a0 a1:D):cA (n+1) 105 [a0,a1]=DM bc (cA n) a0 a1:=by kernel_rfl
theorem My(n:Nat)(a0 a1 a2:D):cA (n+1) 106 [a0,a1,a2]=D2 bc (cA n) a0 a1 a2:=by kernel_rfl
theorem Lb(n:Nat)(a0 a1:D):cA (n+1) 107 [a0,a1]=DG bc (cA n) a0 a1:=by kernel_rfl
theorem JO(n:Nat)(a0 a1:D):cA (n+1) 108 [a0,a1]=EK bc (cA n) a0 a1:=by kernel_rfl
theorem Mx(n:Nat)(a0 a1 a2:D):cA (n+1) 109 [a0,a1,a2]=EH bc (cA n) a0 a1 a2:=by kernel_rfl
theorem LQ(n:Nat)(a0 a1:D):cA (n+1) 110 [a0,a1]=FK bc (cA n) a0 a1:=by kernel_rfl
theorem L1(n:Nat)(a0 a1 a2:D):cA (n+1) 111 [a0,a1,a2]=D3 bc (cA n) a0 a1 a2:=by kernel_rfl
theorem Nf(n:Nat)(a0 a1:D):cA (n+1) 112 [a0,a1]=DX bc (cA n) a0 a1:=by kernel_rfl
theorem Nl(n:Nat)(a0:D):cA (n+1) 115 [a0]=D8 bc (cA n) a0:=by kernel_rfl
theorem Mp(n:Nat)(a0 a1:D):cA (n+1) 116 [a0,a1]=Fn bc (cA n) a0 a1:=by kernel_rfl
theorem JW(n:Nat)(a0 a1:D):cA (n+1) 117 [a0,a1]=DC bc (cA n) a0 a1:=by kernel_rfl
theorem JY(n:Nat)(a0:D):cA (n+1) 118 [a0]=ET bc (cA n) a0:=by kernel_rfl
theorem L5(n:Nat):cA (n+1) 119 []=E7 bc (cA n) :=by kernel_rfl
theorem KI(n:Nat)(a0 a1:D):cA (n+1) 120 [a0,a1]=EX bc (cA n) a0 a1:=by kernel_rfl
theorem Lt(n:Nat)(a0 a1:D):cA (n+1) 121 [a0,a1]=DZ bc (cA n) a0 a1:=by kernel_rfl
theorem KM(n:Nat)(a0 a1:D):cA (n+1) 122 [a0,a1]=D1 bc (cA n) a0 a1:=by kernel_rfl
theorem JJ(n:Nat)(a0 a1:D):cA (n+1) 123 [a0,a1]=Fd bc (cA n) a0 a1:=by kernel_rfl
theorem Hq(n:Nat)(a0:D):cA (n+1) 124 [a0]=Da bc (cA n) a0:=by kernel_rfl
theorem Mj(n:Nat):cA (n+1) 125 []=DV bc (cA n) :=by kernel_rfl
theorem Ko(n:Nat)(a0 a1:D):cA (n+1) 126 [a0,a1]=Du bc (cA n) a0 a1:=by kernel_rfl
theorem LB(n:Nat)(a0:D):cA (n+1) 127 [a0]=Ez bc (cA n) a0:=by kernel_rfl
theorem JV(n:Nat)(a0:D):cA (n+1) 128 [a0]=Fj bc (cA n) a0:=by kernel_rfl
theorem Ll(n:Nat)(a0:D):cA (n+1) 129 [a0]=EP bc (cA n) a0:=by kernel_rfl
theorem LY(n:Nat)(a0 a1:D):cA (n+1) 131 [a0,a1]=EN bc (cA n) a0 a1:=by kernel_rfl
theorem LC(n:Nat)(a0 a1:D):cA (n+1) 132 [a0,a1]=EU bc (cA n) a0 a1:=by kernel_rfl
theorem Mg(n:Nat):cA (n+1) 133 []=Fh bc (cA n) :=by kernel_rfl
theorem M4(n:Nat)(a0:D):cA (n+1) 139 [a0]=Et bc (cA n) a0:=by kernel_rfl
theorem LD(n:Nat)(a0:D):cA (n+1) 140 [a0]=E0 bc (cA n) a0:=by kernel_rfl
theorem Kr(n:Nat)(a0 a1:D):cA (n+1) 141 [a0,a1]=Eu bc (cA n) a0 a1:=by kernel_rfl
theorem MT(n:Nat)(a0:D):cA (n+1) 142 [a0]=Dy bc (cA n) a0:=by kernel_rfl
theorem Lk(n:Nat)(a0 a1:D):cA (n+1) 143 [a0,a1]=EJ bc (cA n) a0 a1:=by kernel_rfl
theorem LK(n:Nat)(a0 a1:D):cA (n+1) 144 [a0,a1]=DF bc (cA n) a0 a1:=by kernel_rfl
theorem JI(n:Nat)(a0:D):cA (n+1) 145 [a0]=DT bc (cA n) a0:=by kernel_rfl
theorem Lr(n:Nat)(a0 a1:D):cA (n+1) 146 [a0,a1]=E1 bc (cA n) a0 a1:=by kernel_rfl
theorem Ly(n:Nat)(a0 a1:D):cA (n+1) 147 [a0,a1]=EA bc (cA n) a0 a1:=by kernel_rfl
theorem Nk(n:Nat)(a0:D):cA (n+1) 148 [a0]=ED bc (cA n) a0:=by kernel_rfl
theorem Kg(n:Nat)(a0 a1:D):cA (n+1) 152 [a0,a1]=Ed bc (cA n) a0 a1:=by kernel_rfl
theorem Nj(n:Nat)(a0 a1:D):cA (n+1) 154 [a0,a1]=ES bc (cA n) a0 a1:=by kernel_rfl
theorem Lj(n:Nat)(a0:D):cA (n+1) 155 [a0]=DY bc (cA n) a0:=by kernel_rfl
theorem Ns(n:Nat)(a0 a1 a2 a3 a4:D):cA (n+1) 156 [a0,a1,a2,a3,a4]=DW bc (cA n) a0 a1 a2 a3 a4:=by kernel_rfl
theorem Mz(n:Nat)(a0:D):cA (n+1) 165 [a0]=DA bc (cA n) a0:=by kernel_rfl
theorem JZ(n:Nat)(a0:D):cA (n+1) 167 [a0]=EG bc (cA n) a0:=by kernel_rfl
theorem Ml(n:Nat)(a0 a1:D):cA (n+1) 168 [a0,a1]=Fv bc (cA n) a0 a1:=by kernel_rfl
theorem Ky(n:Nat)(a0 a1:D):cA (n+1) 170 [a0,a1]=E3 bc (cA n) a0 a1:=by kernel_rfl
theorem MX(n:Nat)(a0:D):cA (n+1) 171 [a0]=EQ bc (cA n) a0:=by kernel_rfl
theorem MZ(n:Nat)(a0 a1:D):cA (n+1) 172 [a0,a1]=Ey bc (cA n) a0 a1:=by kernel_rfl
theorem LF(n:Nat)(a0 a1:D):cA (n+1) 175 [a0,a1]=FC bc (cA n) a0 a1:=by kernel_rfl
theorem LT(n:Nat)(a0:D):cA (n+1) 186 [a0]=Fi bc (cA n) a0:=by kernel_rfl
theorem JR(n:Nat)(a0:D):cA (n+1) 187 [a0]=FG bc (cA n) a0:=by kernel_rfl
theorem Kb(n:Nat)(a0 a1:D):cA (n+1) 188 [a0,a1]=Fx bc (cA n) a0 a1:=by kernel_rfl
theorem L3(n:Nat)(a0:D):cA (n+1) 194 [a0]=Fa bc (cA n) a0:=by kernel_rfl
theorem KD(n:Nat)(a0 a1:D):cA (n+1) 195 [a0,a1]=EI bc (cA n) a0 a1:=by kernel_rfl
theorem MF(n:Nat)(a0:D):cA (n+1) 196 [a0]=Eh bc (cA n) a0:=by kernel_rfl
theorem KA(n:Nat)(a0 a1:D):cA (n+1) 197 [a0,a1]=D7 bc (cA n) a0 a1:=by kernel_rfl
theorem LE(n:Nat)(a0 a1:D):cA (n+1) 201 [a0,a1]=Eg bc (cA n) a0 a1:=by kernel_rfl
theorem Lh(n:Nat)(a0:D):cA (n+1) 202 [a0]=Ak bc (cA n) a0:=by kernel_rfl
theorem Nq(n:Nat)(a0:D):cA (n+1) 215 [a0]=Ee bc (cA n) a0:=by kernel_rfl
theorem JP(n:Nat)(a0:D):cA (n+1) 217 [a0]=Fp bc (cA n) a0:=by kernel_rfl
end Go.Proofs.YtjjjkojfijpeeaaGreat.Sy
end
section
namespace Go.Proofs.YtjjjkojfijpeeaaGreat.Geo
structure V where
 x:Int
 y:Int
 z:Int
deriving DecidableEq
namespace V
def sub(a b:V):V:=⟨a.x-b.x,a.y-b.y,a.z-b.z⟩
def neg(a:V):V:=⟨-a.x,-a.y,-a.z⟩
def add(a b:V):V:=⟨a.x+b.x,a.y+b.y,a.z+b.z⟩
def smul(k:Int)(a:V):V:=⟨k*a.x,k*a.y,k*a.z⟩
def dot(a b:V):Int:=a.x*b.x+a.y*b.y+a.z*b.z
def cross(a b:V):V:=⟨a.y*b.z-a.z*b.y,a.z*b.x-a.x*b.z,a.x*b.y-a.y*b.x⟩
def zero:V:=⟨0,0,0⟩
theorem ext'{a b:V}(h1:a.x=b.x)(h2:a.y=b.y)(h3:a.z=b.z):a=b:=by cases a;cases b;simp_all
end V
open V
theorem xt{a:Int}(h:a≠0):0<a*a:=by
 rcases Int.lt_or_lt_of_ne h with h|h
 ·exact Int.mul_pos_of_neg_of_neg h h
 ·exact Int.mul_pos h h
theorem to(a:Int):0<=a*a:=by
 rcases Int.lt_trichotomy a 0 with h|h|h
 ·exact Int.le_of_lt (Int.mul_pos_of_neg_of_neg h h)
 ·subst h;decide
 ·exact Int.le_of_lt (Int.mul_pos h h)
theorem oD(a:V):0<=dot a a:=by
 have:=to a.x;have:=to a.y;have:=to a.z
 simp only[dot];omega
theorem rX{a:V}(h:dot a a=0):a=zero:=by
 have h1:=to a.x;have h2:=to a.y;have h3:=to a.z
 simp only[dot] at h
 have e1:a.x*a.x=0:=by omega
 have e2:a.y*a.y=0:=by omega
 have e3:a.z*a.z=0:=by omega
 apply V.ext'<;>simp only[zero]<;>(first|(rcases Int.mul_eq_zero.1 e1 with h|h<;>exact h)|(rcases Int.mul_eq_zero.1 e2 with h|h<;>exact h)|(rcases Int.mul_eq_zero.1 e3 with h|h<;>exact h))
theorem br{a:V}(h:a≠zero):0<dot a a:=by
 have:=oD a
 rcases Int.lt_or_eq_of_le this with h1|h1
 ·exact h1
 ·exact absurd (rX h1.symm) h
def T(n u v:V):Int:=dot n (cross u v)
theorem lL{a b:Int}(ha:0<a)(h:0<a*b):0<b:=by
 rcases Int.lt_trichotomy b 0 with hb|hb|hb
 ·have:=Int.mul_neg_of_pos_of_neg ha hb;omega
 ·subst hb;simp at h
 ·exact hb
theorem ou{a b:Int}(ha:0<a)(h:0<=a*b):0<=b:=by
 rcases Int.lt_or_le b 0 with hb|hb
 ·have:=Int.mul_neg_of_pos_of_neg ha hb;omega
 ·exact hb
theorem bB{a b:Int}(ha:0<a)(h:a*b=0):b=0:=by
 rcases Int.mul_eq_zero.1 h with h|h
 ·omega
 ·exact h
section plane
variable{n:V}(hn:n≠zero)
include hn
theorem zg(f:V){u v w:V}(hu:dot n u=0)(hv:dot n v=0)(hw:dot n w=0) :
  dot f u*T n v w+dot f v*T n w u+dot f w*T n u v=0:=by
 have h:dot n n*(dot f u*T n v w+dot f v*T n w u+dot f w*T n u v)=0:=by
  simp only[T,dot,cross] at *;grind
 exact bB (br hn) h
theorem zR{f u v w:V}(hu:dot n u=0)(hv:dot n v=0)(hw:dot n w=0)(fu:0<dot f u)(fv:0<dot f v)(fw:0<dot f w)
  (h1:0<=T n u v) (h2:0<=T n v w):0<=T n u w/\(0<T n u v\/0<T n v w->0<T n u w):=by
 have p:=zg hn f hu hv hw
 have e:T n w u=- T n u w:=by simp only[T,dot,cross];grind
 rw[e] at p
 have q:dot f v*T n u w=dot f u*T n v w+dot f w*T n u v:=by
  have:dot f v*-T n u w=-(dot f v*T n u w):=Int.mul_neg _ _
  omega
 have q1:=Int.mul_nonneg (Int.le_of_lt fu) h2
 have q2:=Int.mul_nonneg (Int.le_of_lt fw) h1
 refine⟨ou fv (by omega),fun h=>lL fv ?_⟩
 rcases h with h|h
 ·have:=Int.mul_pos fw h;omega
 ·have:=Int.mul_pos fu h;omega
theorem ef{u v:V}(hu:dot n u=0)(hv:dot n v=0)(h:T n u v=0):cross u v=zero:=by
 have hp:=br hn
 have e1:dot n n*(cross u v).x=T n u v*n.x:=by simp only[T,dot,cross] at *;grind
 have e2:dot n n*(cross u v).y=T n u v*n.y:=by simp only[T,dot,cross] at *;grind
 have e3:dot n n*(cross u v).z=T n u v*n.z:=by simp only[T,dot,cross] at *;grind
 rw[h,Int.zero_mul] at e1 e2 e3
 exact V.ext' (bB hp e1) (bB hp e2) (bB hp e3)
end plane
theorem Dq{u v:V}(h:cross u v=zero)(f:V):smul (dot f u) v=smul (dot f v) u:=by
 have h1:(cross u v).x=0:=by rw[h];rfl
 have h2:(cross u v).y=0:=by rw[h];rfl
 have h3:(cross u v).z=0:=by rw[h];rfl
 simp only[cross] at h1 h2 h3
 apply V.ext'<;>simp only[smul,dot]<;>grind
theorem De{u v:V}(h:cross u v=zero)(hu:u≠zero)(hd:dot v u=dot u u):v=u:=by
 have p:=Dq h u
 have e:dot u v=dot v u:=by simp only[dot];grind
 have hp:=br hu
 rw[e,hd] at p
 have p1:dot u u*(v.x-u.x)=0:=by have:=congrArg V.x p;simp only[smul] at this;grind
 have p2:dot u u*(v.y-u.y)=0:=by have:=congrArg V.y p;simp only[smul] at this;grind
 have p3:dot u u*(v.z-u.z)=0:=by have:=congrArg V.z p;simp only[smul] at this;grind
 have:=bB hp p1
 have:=bB hp p2
 have:=bB hp p3
 exact V.ext' (by omega) (by omega) (by omega)
theorem im{α:Type}(φ:α->Int):∀ l:List α,∃ N:Int,0<N/\∀ x∈l,-N<φ x/\φ x<N
 | []=>⟨1,by decide,by simp⟩
 | a::l=>by
  obtain⟨N,h0,h⟩:=im φ l
  refine⟨N+(φ a).natAbs+1,by omega,fun x hx=>?_⟩
  rcases List.mem_cons.1 hx with rfl|hx
  ·omega
  ·have:=h x hx;omega
def wy(P:Nat->V)(a x:Nat):V:=sub (P x) (P a)
structure Side(n:V)(P:Nat->V)(on:List Nat)(a b:Nat):Prop where
 mem:b∈on
 ne:b≠a
 all:∀ x∈on,0<=T n (wy P a b) (wy P a x)/\(T n (wy P a b) (wy P a x)=0->0<=dot (wy P a x) (wy P a b)/\dot (wy P a x) (wy P a b)<=dot (wy P a b) (wy P a b))
def ed(P:Nat->V)(on:List Nat)(a:Nat):Prop:=∃ f:V,∀ x∈on,x≠a->0<dot f (wy P a x)
structure Flat(n:V)(P:Nat->V)(on:List Nat):Prop where
 nz:n≠zero
 pl:∀ x∈on,∀ y∈on,dot n (wy P x y)=0
 inj:∀ x∈on,∀ y∈on,P x=P y->x=y
section poly
variable{n:V}{P:Nat->V}{on:List Nat}
theorem oK(h:Flat n P on){a b:Nat}(ha:a∈on)(hb:b∈on)(hab:b≠a):wy P a b≠zero:=fun e=>by
 apply hab
 apply h.inj b hb a ha
 have e1:=congrArg V.x e;have e2:=congrArg V.y e;have e3:=congrArg V.z e
 simp only[wy,sub,zero] at e1 e2 e3
 exact V.ext' (by omega) (by omega) (by omega)
theorem Bu{a b c:Nat}(h:wy P a b=wy P a c):P b=P c:=by
 have e1:=congrArg V.x h;have e2:=congrArg V.y h;have e3:=congrArg V.z h
 simp only[wy,sub] at e1 e2 e3
 exact V.ext' (by omega) (by omega) (by omega)
theorem Side.unique(h:Flat n P on){a b c:Nat}(ha:a∈on)(hb:Side n P on a b)(hc:Side n P on a c):b=c:=by
 have h1:=hb.all c hc.mem
 have h2:=hc.all b hb.mem
 have e:T n (wy P a c) (wy P a b)=- T n (wy P a b) (wy P a c):=by simp only[T,dot,cross];grind
 rw[e] at h2
 have t0:T n (wy P a b) (wy P a c)=0:=by omega
 have k1:=h1.2 t0
 have k2:=h2.2 (by omega)
 have es:dot (wy P a b) (wy P a c)=dot (wy P a c) (wy P a b):=by simp only[dot];grind
 have hx:=ef h.nz (h.pl a ha b hb.mem) (h.pl a ha c hc.mem) t0
 have hq:dot (wy P a b) (wy P a b)*dot (wy P a c) (wy P a c)=dot (wy P a c) (wy P a b)*dot (wy P a c) (wy P a b):=by
  have p:=Dq hx (wy P a b)
  have p1:=congrArg V.x p;have p2:=congrArg V.y p;have p3:=congrArg V.z p
  simp only[smul] at p1 p2 p3
  simp only[dot] at *;grind
 have hbp:=br (oK h ha hb.mem hb.ne)
 have hcp:=br (oK h ha hc.mem hc.ne)
 have hle:dot (wy P a c) (wy P a b)=dot (wy P a b) (wy P a b):=by
  generalize dot (wy P a b) (wy P a b)=B at *
  generalize dot (wy P a c) (wy P a c)=C at *
  generalize dot (wy P a c) (wy P a b)=X at *
  rw[es] at k2
  rcases Int.lt_or_eq_of_le k1.2 with hlt|heq
  ·exfalso
   have:X*X<B*C:=by
    have a1:X*X<=X*C:=Int.mul_le_mul_of_nonneg_left k2.2 k1.1
    have a2:X*C<B*C:=Int.mul_lt_mul_of_pos_right hlt hcp
    omega
   omega
  ·exact heq
 have:=De hx (oK h ha hb.mem hb.ne) hle
 exact(h.inj c hc.mem b hb.mem (Bu this)).symm
theorem Side.ext(h:Flat n P on){a b:Nat}(ha:a∈on)(hb:Side n P on a b):ed P on b:=by
 obtain⟨N,hN0,hN⟩:=im (fun x=>dot (wy P b a) (wy P b x)) on
 refine⟨add (smul N (cross n (wy P a b))) (wy P b a),fun x hx hxb=>?_⟩
 have e:dot (add (smul N (cross n (wy P a b))) (wy P b a)) (wy P b x)=N*T n (wy P a b) (wy P a x)+dot (wy P b a) (wy P b x):=by
  simp only[T,dot,cross,add,smul,wy,sub];grind
 rw[e]
 obtain⟨h1,h2⟩:=hb.all x hx
 have h3:=hN x hx
 rcases Int.lt_or_eq_of_le h1 with hlt|heq
 ·have:N*1<=N*T n (wy P a b) (wy P a x):=Int.mul_le_mul_of_nonneg_left (by omega) (by omega)
  omega
 ·rw[<-heq,Int.mul_zero,Int.zero_add]
  have h4:=h2 heq.symm
  have e2:dot (wy P b a) (wy P b x)=dot (wy P a b) (wy P a b)-dot (wy P a x) (wy P a b):=by simp only[dot,wy,sub];grind
  rw[e2]
  rcases Int.lt_or_eq_of_le h4.2 with h5|h5
  ·omega
  ·exfalso
   have hx0:=ef h.nz (h.pl a ha b hb.mem) (h.pl a ha x hx) heq.symm
   exact hxb (h.inj x hx b hb.mem (Bu (De hx0 (oK h ha hb.mem hb.ne) h5)))
theorem ed.ray(h:Flat n P on){a x y:Nat}(ha:a∈on)(hx:x∈on)(hy:y∈on)(ea:ed P on a)(ex:ed P on x)(ey:ed P on y)(hxa:x≠a)(hya:y≠a)(ht:T n (wy P a x) (wy P a y)=0):x=y:=by
 by_cases hxy:x=y
 ·exact hxy
 exfalso
 obtain⟨f,hf⟩:=ea
 obtain⟨g,hg⟩:=ex
 obtain⟨k,hk⟩:=ey
 have c:=ef h.nz (h.pl a ha x hx) (h.pl a ha y hy) ht
 have p:=Dq c f
 have fx:=hf x hx hxa
 have fy:=hf y hy hya
 have g1:=hg a ha (Ne.symm hxa);have g2:=hg y hy (Ne.symm hxy)
 have k1:=hk a ha (Ne.symm hya);have k2:=hk x hx hxy
 have q1:dot f (wy P a x)*dot g (wy P a y)=dot f (wy P a y)*dot g (wy P a x):=by
  have p1:=congrArg V.x p;have p2:=congrArg V.y p;have p3:=congrArg V.z p
  simp only[smul] at p1 p2 p3
  generalize dot f (wy P a x)=A at *
  generalize dot f (wy P a y)=B at *
  simp only[dot];grind
 have q2:dot f (wy P a x)*dot k (wy P a y)=dot f (wy P a y)*dot k (wy P a x):=by
  have p1:=congrArg V.x p;have p2:=congrArg V.y p;have p3:=congrArg V.z p
  simp only[smul] at p1 p2 p3
  generalize dot f (wy P a x)=A at *
  generalize dot f (wy P a y)=B at *
  simp only[dot];grind
 have eg1:dot g (wy P x a)=- dot g (wy P a x):=by simp only[dot,wy,sub];grind
 have eg2:dot g (wy P x y)=dot g (wy P a y)-dot g (wy P a x):=by simp only[dot,wy,sub];grind
 have ek1:dot k (wy P y a)=- dot k (wy P a y):=by simp only[dot,wy,sub];grind
 have ek2:dot k (wy P y x)=dot k (wy P a x)-dot k (wy P a y):=by simp only[dot,wy,sub];grind
 rw[eg1] at g1;rw[eg2] at g2;rw[ek1] at k1;rw[ek2] at k2
 generalize dot f (wy P a x)=A at *
 generalize dot f (wy P a y)=B at *
 generalize dot g (wy P a x)=gx at *
 generalize dot g (wy P a y)=gy at *
 generalize dot k (wy P a x)=kx at *
 generalize dot k (wy P a y)=ky at *
 have r1:B<A:=by
  rcases Int.lt_or_le B A with hh|hh
  ·exact hh
  ·exfalso
   have s1:B*gx<=A*gx:=by
    have:=Int.mul_le_mul_of_nonneg_right hh (show 0<=-gx by omega)
    simp only[Int.mul_neg] at this;omega
   have s2:A*gx<A*gy:=Int.mul_lt_mul_of_pos_left (by omega) fx
   omega
 have s3:A*ky<B*ky:=by
  have s4:B*ky<B*kx:=Int.mul_lt_mul_of_pos_left (by omega) fy
  have s5:A*ky=B*kx:=q2
  have s6:A*ky<=B*ky:=by
   have:=Int.mul_le_mul_of_nonneg_right (Int.le_of_lt r1) (show 0<=-ky by omega)
   simp only[Int.mul_neg] at this;omega
  omega
 have s4:B*ky<B*kx:=Int.mul_lt_mul_of_pos_left (by omega) fy
 omega
theorem Ij(a x y:Nat):T n (wy P x y) (wy P x a)=T n (wy P a x) (wy P a y):=by
 simp only[T,dot,cross,wy,sub];grind
theorem F3(u v:V):T n v u=- T n u v:=by simp only[T,dot,cross];grind
theorem Side.after(h:Flat n P on){a x y:Nat}(ha:a∈on)(hx:x∈on)(ea:ed P on a)(ex:ed P on x)(hxa:x≠a)(hs:Side n P on x y)(hya:y≠a):0<T n (wy P a x) (wy P a y):=by
 have h1:=(hs.all a ha).1
 rw[Ij] at h1
 rcases Int.lt_or_eq_of_le h1 with h2|h2
 ·exact h2
 ·exact absurd (ed.ray h ha hx hs.mem ea ex (hs.ext h hx) hxa hya h2.symm) hs.ne.symm
theorem Ef(h:Flat n P on){a x y z:Nat}(ha:a∈on)(hx:x∈on)(hz:z∈on)(hs:Side n P on x y)(ez:ed P on z)(h1:0<T n (wy P a x) (wy P a z))(h2:0<T n (wy P a z) (wy P a y)):False:=by
 obtain⟨f,hf⟩:=ez
 have hza:a≠z:=fun e=>by subst e;simp[T,dot,cross,wy,sub] at h2
 have hzx:x≠z:=fun e=>by
  subst e
  have:T n (wy P a x) (wy P a x)=0:=by simp only[T,dot,cross];grind
  omega
 have hzy:y≠z:=fun e=>by
  subst e
  have:T n (wy P a y) (wy P a y)=0:=by simp only[T,dot,cross];grind
  omega
 have f1:=hf a ha hza
 have f2:=hf x hx hzx
 have f3:=hf y hs.mem hzy
 have h3:=(hs.all z hz).1
 have e:dot n n*(T n (wy P x y) (wy P x z)*dot f (wy P z a)+T n (wy P a z) (wy P a y)*dot f (wy P z x)+T n (wy P a x) (wy P a z)*dot f (wy P z y))=0:=by
  have p1:=h.pl z hz a ha
  have p2:=h.pl z hz x hx
  have p3:=h.pl z hz y hs.mem
  have e1:T n (wy P x y) (wy P x z)=T n (wy P z x) (wy P z y):=Ij z x y
  have e2:T n (wy P a z) (wy P a y)=T n (wy P z y) (wy P z a):=by simp only[T,dot,cross,wy,sub];grind
  have e3:T n (wy P a x) (wy P a z)=T n (wy P z a) (wy P z x):=by simp only[T,dot,cross,wy,sub];grind
  rw[e1,e2,e3]
  have pk:=zg h.nz f p1 p2 p3
  rw[Int.mul_comm (dot f (wy P z a)),Int.mul_comm (dot f (wy P z x)),Int.mul_comm (dot f (wy P z y))] at pk
  rw[show T n (wy P z x) (wy P z y)*dot f (wy P z a)+T n (wy P z y) (wy P z a)*dot f (wy P z x)+T n (wy P z a) (wy P z x)*dot f (wy P z y)=0 from pk,Int.mul_zero]
 have e':=bB (br h.nz) e
 have m1:=Int.mul_nonneg h3 (Int.le_of_lt f1)
 have m2:=Int.mul_pos h2 f2
 have m3:=Int.mul_pos h1 f3
 omega
theorem sZ{α:Type}{p q:α->Bool}:∀ {l:List α},(∀ x∈l,p x=true->q x=true)->(∃ y∈l,q y=true/\p y=false)->l.countP p<l.countP q
 | [],_,h=>by obtain⟨y,hy,_⟩:=h;cases hy
 | a::l,h,hy=>by
  have hl:l.countP p<=l.countP q:=by
   have h':∀ x∈l,p x=true->q x=true:=fun x hx=>h x (List.mem_cons_of_mem _ hx)
   exact List.countP_mono_left h'
  have ha:=h a List.mem_cons_self
  rw[List.countP_cons,List.countP_cons]
  obtain⟨y,hm,hq,hp⟩:=hy
  rcases List.mem_cons.1 hm with rfl|hm
  ·simp[hq,hp];omega
  ·have:=sZ (l:=l) (fun x hx=>h x (List.mem_cons_of_mem _ hx)) ⟨y,hm,hq,hp⟩
   cases hpa:p a
   ·simp;omega
   ·simp[ha hpa];omega
inductive Chain(S:Nat->Nat->Prop)(a₀:Nat):Nat->List Nat->Prop
 | done {c:Nat}:S c a₀->Chain S a₀ c [c]
 | step {c y:Nat} {l:List Nat}:S c y->y≠a₀->Chain S a₀ y l->Chain S a₀ c (c::l)
theorem walk(h:Flat n P on){a:Nat}(ha:a∈on)(ea:ed P on a)(hnext:∀ c∈on,ed P on c->∃ b,Side n P on c b){c:Nat}(hc:c∈on)(ec:ed P on c)(hca:c≠a) :
  ∃ l,Chain (Side n P on) a c l/\(∀ z∈l,z∈on/\ed P on z/\z≠a/\(z=c\/0<T n (wy P a c) (wy P a z)))/\(∀ z∈on,ed P on z->z≠a->0<T n (wy P a c) (wy P a z)->z∈l) ∧
   l.Pairwise (fun x y=>0<T n (wy P a x) (wy P a y)):=by
 generalize hm:on.countP (fun z=>decide (0<T n (wy P a c) (wy P a z)))=m
 induction m using Nat.strongRecOn generalizing c with
 | _ m ih=>
  obtain⟨y,hy⟩:=hnext c hc ec
  obtain⟨f,hf⟩:=ea
  by_cases hya:y=a
  ·subst hya
   refine⟨[c],.done hy,fun z hz=>?_,fun z hz ez hza ht=>?_,by simp⟩
   ·rw[List.mem_singleton] at hz;subst hz;exact⟨hc,ec,hca,.inl rfl⟩
   ·have h1:=(hy.all z hz).1
    have e:T n (wy P c y) (wy P c z)=- T n (wy P y c) (wy P y z):=by simp only[T,dot,cross,wy,sub];grind
    omega
  ·have hxy:=Side.after h ha hc ⟨f,hf⟩ ec hca hy hya
   have ey:=hy.ext h hc
   have tr:∀ z∈on,0<T n (wy P a y) (wy P a z)->0<T n (wy P a c) (wy P a z):=fun z hz ht=>by
    have hza:z≠a:=fun e=>by
     subst e
     have:T n (wy P z y) (wy P z z)=0:=by simp[T,dot,cross,wy,sub]
     omega
    exact(zR h.nz (h.pl a ha c hc) (h.pl a ha y hy.mem) (h.pl a ha z hz) (hf c hc hca) (hf y hy.mem hya) (hf z hz hza) (Int.le_of_lt hxy) (Int.le_of_lt ht)).2 (.inl hxy)
   have self0:T n (wy P a y) (wy P a y)=0:=by simp only[T,dot,cross];grind
   obtain⟨l,k1,k2,k3,k4⟩:=ih _ (by
    rw[<-hm]
    refine sZ (fun z hz ht=>by simp only[decide_eq_true_eq] at ht ⊢;exact tr z hz ht) ⟨y,hy.mem,by simpa using hxy,by simp[self0]⟩) hy.mem ey hya rfl
   refine⟨c::l,.step hy hya k1,fun z hz=>?_,fun z hz ez hza ht=>?_,List.pairwise_cons.2 ⟨fun z hz=>?_,k4⟩⟩
   ·rcases List.mem_cons.1 hz with rfl|hz
    ·exact⟨hc,ec,hca,.inl rfl⟩
    ·obtain⟨q1,q2,q3,q4⟩:=k2 z hz
     refine⟨q1,q2,q3,.inr ?_⟩
     rcases q4 with rfl|q4
     ·exact hxy
     ·exact tr z q1 q4
   ·rcases Int.lt_trichotomy (T n (wy P a y) (wy P a z)) 0 with hlt|heq|hgt
    ·have e:=F3 (n:=n) (wy P a y) (wy P a z)
     exact(Ef h ha hc hz hy ez ht (by omega)).elim
    ·have:=ed.ray h ha hy.mem hz ⟨f,hf⟩ ey ez hya hza heq
     subst this
     have:y∈l:=by cases k1<;>exact List.mem_cons_self
     exact List.mem_cons_of_mem _ this
    ·exact List.mem_cons_of_mem _ (k3 z hz ez hza hgt)
   ·obtain⟨q1,q2,q3,q4⟩:=k2 z hz
    rcases q4 with rfl|q4
    ·exact hxy
    ·exact tr z q1 q4
def oh(n:V)(P:Nat->V)(a b k:Nat):Bool:=
 decide (T n (wy P a b) (wy P a k)<0)||(decide (T n (wy P a b) (wy P a k)=0)&&decide (dot (wy P a b) (wy P a b)<dot (wy P a k) (wy P a k)))
def dj(n:V)(P:Nat->V)(a:Nat)(best:Option Nat)(k:Nat):Option Nat:=
 if k=a then best else match best with
  | none=>some k
  | some b=>if oh n P a b k then some k else some b
theorem oM(h:Flat n P on){a:Nat}(ha:a∈on)(ea:ed P on a):∀ (l pre:List Nat) (best:Option Nat),(∀ x∈pre,x∈on)->(∀ x∈l,x∈on) ->
  (match best with
   | none=>∀ x∈pre,x=a
   | some b=>b∈pre/\b≠a/\∀ x∈pre,x≠a->0<T n (wy P a b) (wy P a x)\/(T n (wy P a b) (wy P a x)=0/\dot (wy P a x) (wy P a x)<=dot (wy P a b) (wy P a b))) ->
  match l.foldl (dj n P a) best with
   | none=>∀ x∈pre++l,x=a
   | some b=>b∈pre++l/\b≠a/\∀ x∈pre++l,x≠a->0<T n (wy P a b) (wy P a x)\/(T n (wy P a b) (wy P a x)=0/\dot (wy P a x) (wy P a x)<=dot (wy P a b) (wy P a b))
 | [],pre,best,_,_,hb=>by simpa using hb
 | k::l,pre,best,h1,h2,hb=>by
  rw[List.foldl_cons]
  have hk:k∈on:=h2 k List.mem_cons_self
  rw[show pre++k::l=(pre++[k])++l by simp]
  refine oM h ha ea l (pre++[k]) _ (fun x hx=>?_) (fun x hx=>h2 x (List.mem_cons_of_mem _ hx)) ?_
  ·rcases List.mem_append.1 hx with hx|hx
   ·exact h1 x hx
   ·rw[List.mem_singleton] at hx;exact hx ▸ hk
  unfold dj
  by_cases hka:k=a
  ·rw[if_pos hka]
   subst hka
   cases best with
   | none=>
    simp only at hb ⊢
    intro x hx
    rcases List.mem_append.1 hx with hx|hx
    ·exact hb x hx
    ·exact List.mem_singleton.1 hx
   | some b=>
    simp only at hb ⊢
    refine⟨List.mem_append_left _ hb.1,hb.2.1,fun x hx hxa=>?_⟩
    rcases List.mem_append.1 hx with hx|hx
    ·exact hb.2.2 x hx hxa
    ·exact absurd (List.mem_singleton.1 hx) hxa
  ·rw[if_neg hka]
   cases best with
   | none=>
    simp only at hb ⊢
    refine⟨List.mem_append_right _ (List.mem_singleton.2 rfl),hka,fun x hx hxa=>?_⟩
    rcases List.mem_append.1 hx with hx|hx
    ·exact absurd (hb x hx) hxa
    ·rw[List.mem_singleton.1 hx]
     right
     exact⟨by simp only[T,dot,cross];grind,Int.le_refl _⟩
   | some b=>
    simp only at hb ⊢
    obtain⟨b1,b2,b3⟩:=hb
    have hbon:=h1 b b1
    obtain⟨f,hf⟩:=ea
    by_cases hbt:oh n P a b k=true
    ·rw[if_pos hbt]
     simp only
     refine⟨List.mem_append_right _ (List.mem_singleton.2 rfl),hka,fun x hx hxa=>?_⟩
     have sw:=F3 (n:=n) (wy P a b) (wy P a k)
     simp only[oh,Bool.or_eq_true,Bool.and_eq_true,decide_eq_true_eq] at hbt
     rcases List.mem_append.1 hx with hx|hx
     ·have hxon:=h1 x hx
      have c:=b3 x hx hxa
      have nn1:0<=T n (wy P a k) (wy P a b):=by omega
      have nn2:0<=T n (wy P a b) (wy P a x):=by omega
      obtain⟨t1,t2⟩:=zR h.nz (h.pl a ha k hk) (h.pl a ha b hbon) (h.pl a ha x hxon) (hf k hk hka) (hf b hbon b2) (hf x hxon hxa) nn1 nn2
      rcases Int.lt_or_eq_of_le t1 with hlt|heq
      ·exact .inl hlt
      ·right
       refine⟨heq.symm,?_⟩
       have:¬ (0<T n (wy P a k) (wy P a b)\/0<T n (wy P a b) (wy P a x)):=fun hh=>by have:=t2 hh;omega
       omega
     ·rw[List.mem_singleton.1 hx]
      right
      exact⟨by simp only[T,dot,cross];grind,Int.le_refl _⟩
    ·rw[if_neg hbt]
     simp only
     refine⟨List.mem_append_left _ b1,b2,fun x hx hxa=>?_⟩
     rcases List.mem_append.1 hx with hx|hx
     ·exact b3 x hx hxa
     ·rw[List.mem_singleton.1 hx]
      simp only[oh,Bool.or_eq_true,Bool.and_eq_true,decide_eq_true_eq] at hbt
      omega
theorem tp(h:Flat n P on){a:Nat}(ha:a∈on)(ea:ed P on a)(h2:∃ x∈on,x≠a):∃ b,on.foldl (dj n P a) none=some b/\Side n P on a b:=by
 have key:=oM h ha ea on [] none (by simp) (fun x hx=>hx) (by simp)
 cases hr:on.foldl (dj n P a) none with
 | none=>
  rw[hr] at key
  obtain⟨x,hx,hxa⟩:=h2
  exact absurd (key x (by simpa using hx)) hxa
 | some b=>
  rw[hr] at key
  simp only[List.nil_append] at key
  obtain⟨k1,k2,k3⟩:=key
  refine⟨b,rfl,k1,k2,fun x hx=>?_⟩
  by_cases hxa:x=a
  ·subst hxa
   have e:wy P x x=zero:=by simp[wy,sub,zero]
   have:T n (wy P x b) (wy P x x)=0:=by rw[e];simp[T,dot,cross,zero]
   have hp:=oD (wy P x b)
   have e2:dot (wy P x x) (wy P x b)=0:=by rw[e];simp[dot,zero]
   rw[this,e2]
   exact⟨Int.le_refl _,fun _=>⟨Int.le_refl _,hp⟩⟩
  ·have c:=k3 x hx hxa
   refine⟨by omega,fun t0=>?_⟩
   have c2:dot (wy P a x) (wy P a x)<=dot (wy P a b) (wy P a b):=by omega
   obtain⟨f,hf⟩:=ea
   have hx0:=ef h.nz (h.pl a ha b k1) (h.pl a ha x hx) t0
   have p:=Dq hx0 f
   have fb:=hf b k1 k2
   have fx:=hf x hx hxa
   have hbp:=br (oK h ha k1 k2)
   have q1:dot f (wy P a b)*dot (wy P a x) (wy P a b)=dot f (wy P a x)*dot (wy P a b) (wy P a b):=by
    have p1:=congrArg V.x p;have p2:=congrArg V.y p;have p3:=congrArg V.z p
    simp only[smul] at p1 p2 p3
    generalize dot f (wy P a b)=A at *
    generalize dot f (wy P a x)=B at *
    simp only[dot];grind
   have hpos:0<dot (wy P a x) (wy P a b):=lL fb (by rw[q1];exact Int.mul_pos fx hbp)
   refine⟨Int.le_of_lt hpos,?_⟩
   have q2:dot (wy P a b) (wy P a b)*dot (wy P a x) (wy P a x)=dot (wy P a x) (wy P a b)*dot (wy P a x) (wy P a b):=by
    have p:=Dq hx0 (wy P a b)
    have p1:=congrArg V.x p;have p2:=congrArg V.y p;have p3:=congrArg V.z p
    simp only[smul] at p1 p2 p3
    simp only[dot] at *;grind
   generalize dot (wy P a b) (wy P a b)=B at *
   generalize dot (wy P a x) (wy P a x)=X at *
   generalize dot (wy P a x) (wy P a b)=D at *
   rcases Int.lt_or_le B D with hlt|hle
   ·exfalso
    have a1:B*X<=B*B:=Int.mul_le_mul_of_nonneg_left c2 (Int.le_of_lt hbp)
    have a2:B*B<B*D:=Int.mul_lt_mul_of_pos_left hlt hbp
    have a3:B*D<D*D:=Int.mul_lt_mul_of_pos_right hlt hpos
    omega
   ·exact hle
end poly
open V
def aC(a b:V):Prop:=a.x<b.x\/a.x=b.x/\(a.y<b.y\/a.y=b.y/\a.z<b.z)
theorem Ap{P:Nat->V}{on:List Nat}{a:Nat}(h:∀ x∈on,x≠a->aC (P a) (P x)):ed P on a:=by
 obtain⟨N1,p1,b1⟩:=im (fun x=>(wy P a x).y) on
 obtain⟨N2,p2,b2⟩:=im (fun x=>(wy P a x).z) on
 refine⟨⟨(N1+N2)*(N1+N2)+(N1+N2),N1+N2,1⟩,fun x hx hxa=>?_⟩
 have c1:=b1 x hx
 have c2:=b2 x hx
 have hl:=h x hx hxa
 simp only[wy,sub,aC,dot] at *
 generalize hX:(P x).x-(P a).x=X at *
 generalize hY:(P x).y-(P a).y=Y at *
 generalize hZ:(P x).z-(P a).z=Z at *
 generalize hN:N1+N2=N
 have hN0:0<N:=by omega
 have hY1:-N+1<=Y:=by omega
 have hY2:Y<=N-1:=by omega
 have hZ1:-N+1<=Z:=by omega
 have m1:N*(-N+1)<=N*Y:=Int.mul_le_mul_of_nonneg_left hY1 (Int.le_of_lt hN0)
 have m2:N*(-N+1)=-(N*N)+N:=by grind
 have hNN:0<N*N:=Int.mul_pos hN0 hN0
 rcases hl with hl|⟨h1,hl|⟨h2,hl⟩⟩
 ·have hX1:1<=X:=by omega
  have m3:(N*N+N)*1<=(N*N+N)*X:=Int.mul_le_mul_of_nonneg_left hX1 (by omega)
  omega
 ·have hX0:X=0:=by omega
  have hY3:1<=Y:=by omega
  have m3:N*1<=N*Y:=Int.mul_le_mul_of_nonneg_left hY3 (by omega)
  subst hX0
  simp only[Int.mul_zero]
  omega
 ·have hX0:X=0:=by omega
  have hY0:Y=0:=by omega
  subst hX0;subst hY0
  simp only[Int.mul_zero]
  omega
section poly
variable{n:V}{P:Nat->V}{on:List Nat}
theorem Chain.head{S:Nat->Nat->Prop}{a c:Nat}{l:List Nat}(h:Chain S a c l):∃ l',l=c::l':=by
 cases h<;>exact⟨_,rfl⟩
theorem Chain.pairs{S:Nat->Nat->Prop}{a:Nat}:∀ {c:Nat} {l:List Nat},Chain S a c l->∀ i x,l[i]?=some x->∃ y,(l++[a])[i+1]?=some y/\S x y
 | c,_,.done h,i,x,hx=>by
  cases i with
  | zero=>simp at hx;subst hx;exact⟨a,by simp,h⟩
  | succ i=>simp at hx
 | c,_,.step (y:=y) (l:=l) h hne k,i,x,hx=>by
  cases i with
  | zero=>
   simp at hx;subst hx
   obtain⟨l',rfl⟩:=k.head
   exact⟨y,by simp,h⟩
  | succ i=>
   obtain⟨z,h1,h2⟩:=Chain.pairs k i x (by simpa using hx)
   exact⟨z,by simpa using h1,h2⟩
theorem yb(h:Flat n P on){a:Nat}(ha:a∈on)(ea:ed P on a)(h3:∀ c∈on,∃ x∈on,x≠c) :
  ∃ l,Chain (Side n P on) a a l/\l.Nodup/\(∀ z∈l,z∈on/\ed P on z)/\∀ z∈on,ed P on z->z∈l:=by
 have hnext:∀ c∈on,ed P on c->∃ b,Side n P on c b:=fun c hc ec=>by
  obtain⟨b,_,hb⟩:=tp h hc ec (h3 c hc)
  exact⟨b,hb⟩
 obtain⟨c,hs⟩:=hnext a ha ea
 have ec:=hs.ext h ha
 obtain⟨l,k1,k2,k3,k4⟩:=walk h ha ea hnext hs.mem ec hs.ne
 refine⟨a::l,.step hs hs.ne k1,List.nodup_cons.2 ⟨fun hm=>(k2 a hm).2.2.1 rfl,?_⟩,fun z hz=>?_,fun z hz ez=>?_⟩
 ·refine List.Pairwise.imp (fun{x y} hxy e=>?_) k4
  subst e
  have:T n (wy P a x) (wy P a x)=0:=by simp only[T,dot,cross];grind
  omega
 ·rcases List.mem_cons.1 hz with rfl|hz
  ·exact⟨ha,ea⟩
  ·exact⟨(k2 z hz).1,(k2 z hz).2.1⟩
 ·by_cases hza:z=a
  ·subst hza;exact List.mem_cons_self
  ·refine List.mem_cons_of_mem _ ?_
   have h0:=(hs.all z hz).1
   rcases Int.lt_or_eq_of_le h0 with hp|he
   ·exact k3 z hz ez hza hp
   ·have:=ed.ray h ha hs.mem hz ea ec ez hs.ne hza he.symm
    subst this
    obtain⟨l',rfl⟩:=k1.head
    exact List.mem_cons_self
end poly
def sg(x:Int):Int:=if x<0 then -1 else if 0<x then 1 else 0
theorem qW(a b:Int):sg a*sg b=sg (a*b):=by
 rcases Int.lt_trichotomy a 0 with h|h|h<;>rcases Int.lt_trichotomy b 0 with k|k|k
 ·have:=Int.mul_pos_of_neg_of_neg h k;simp[sg,h,k,this,Int.not_lt.2 (Int.le_of_lt this)]
 ·subst k;simp[sg]
 ·have:=Int.mul_neg_of_neg_of_pos h k;simp[sg,h,k,this,Int.not_lt.2 (Int.le_of_lt k)]
 ·subst h;simp[sg]
 ·subst h;simp[sg]
 ·subst h;simp[sg]
 ·have:=Int.mul_neg_of_pos_of_neg h k;simp[sg,h,k,this,Int.not_lt.2 (Int.le_of_lt h)]
 ·subst k;simp[sg]
 ·have:=Int.mul_pos h k;simp[sg,h,k,this,Int.not_lt.2 (Int.le_of_lt h),Int.not_lt.2 (Int.le_of_lt k),Int.not_lt.2 (Int.le_of_lt this)]
theorem kg{x:Int}(h:0<x):sg x=1:=by simp[sg,h,Int.not_lt.2 (Int.le_of_lt h)]
theorem uW{x:Int}(h:x<0):sg x=-1:=by simp[sg,h]
def sO(n c:V):Int:=if n.x≠0 then sg n.x*sg c.x else if n.y≠0 then sg n.y*sg c.y else if n.z≠0 then sg n.z*sg c.z else 0
theorem qf{a b p:Int}(hp:0<p){q:Int}(hq:0<q)(h:a*p=q*b):sg a=sg b:=by
 have h1:sg (a*p)=sg a:=by rw[<-qW,kg hp];simp
 have h2:sg (q*b)=sg b:=by rw[<-qW,kg hq];simp
 rw[<-h1,<-h2,h]
theorem zF{n c:V}(hn:n≠zero)(h:cross n c=zero):sO n c=sg (dot n c):=by
 have h1:=congrArg V.x h;have h2:=congrArg V.y h;have h3:=congrArg V.z h
 simp only[cross,zero] at h1 h2 h3
 have hp:=br hn
 have e1:n.x*c.x*dot n n=n.x*n.x*dot n c:=by simp only[dot];grind
 have e2:n.y*c.y*dot n n=n.y*n.y*dot n c:=by simp only[dot];grind
 have e3:n.z*c.z*dot n n=n.z*n.z*dot n c:=by simp only[dot];grind
 unfold sO
 split
 ·rename_i k;rw[qW];exact qf hp (xt k) e1
 ·split
  ·rename_i k;rw[qW];exact qf hp (xt k) e2
  ·split
   ·rename_i k;rw[qW];exact qf hp (xt k) e3
   ·rename_i k1 k2 k3
    exact absurd (V.ext' (by simpa [zero] using k1) (by simpa [zero] using k2) (by simpa [zero] using k3)) hn
theorem gR{n u v:V}(hu:dot n u=0)(hv:dot n v=0):cross n (cross u v)=zero:=by
 simp only[dot] at hu hv
 apply V.ext'<;>simp only[cross,zero]<;>grind
open V
def aY(P:Nat->V)(N:Nat)(n:V)(d:Int):List Nat:=(List.range N).filter fun k=>decide (dot n (P k)=d)
def xG(P:Nat->V)(N:Nat)(n:V)(d:Int):Prop:=(∀ k,k<N->dot n (P k)<=d)/\∃ k,k<N/\dot n (P k)<d
def eE(P:Nat->V)(i j k:Nat):V:=cross (wy P i j) (wy P i k)
def bA(v:V):Nat:=Nat.gcd (Nat.gcd v.x.natAbs v.y.natAbs) v.z.natAbs
def bv(v:V):V:=⟨v.x/bA v,v.y/bA v,v.z/bA v⟩
structure IsF(P:Nat->V)(N:Nat)(n:V)(d:Int):Prop where
 ex:∃ i j k,i<j/\j<k/\k<N/\eE P i j k≠zero/\(n=bv (eE P i j k)\/n=neg (bv (eE P i j k)))/\d=dot n (P i)
 supp:xG P N n d
theorem jt{v:V}(h:v≠zero):0<bA v:=by
 rcases Nat.eq_zero_or_pos (bA v) with e|p
 ·exfalso
  unfold bA at e
  rw[Nat.gcd_eq_zero_iff,Nat.gcd_eq_zero_iff] at e
  exact h (V.ext' (by simp[zero];omega) (by simp[zero];omega) (by simp[zero];omega))
 ·exact p
theorem iE(v:V):v=smul (bA v) (bv v):=by
 have d1:(bA v:Int) ∣ v.x:=Int.ofNat_dvd_left.2 (Nat.dvd_trans (Nat.gcd_dvd_left _ _) (Nat.gcd_dvd_left _ _))
 have d2:(bA v:Int) ∣ v.y:=Int.ofNat_dvd_left.2 (Nat.dvd_trans (Nat.gcd_dvd_left _ _) (Nat.gcd_dvd_right _ _))
 have d3:(bA v:Int) ∣ v.z:=Int.ofNat_dvd_left.2 (Nat.gcd_dvd_right _ _)
 apply V.ext'
 ·exact(Int.mul_ediv_cancel' d1).symm
 ·exact(Int.mul_ediv_cancel' d2).symm
 ·exact(Int.mul_ediv_cancel' d3).symm
theorem nR(k:Nat)(v:V):bA (smul k v)=k*bA v:=by
 simp only[bA,smul,Int.natAbs_mul,Int.natAbs_natCast]
 rw[Nat.gcd_mul_left,Nat.gcd_mul_left]
theorem sH{v:V}(h:v≠zero):bA (bv v)=1:=by
 have p:=jt h
 have e:=nR (bA v) (bv v)
 rw[<-iE v] at e
 exact(Nat.eq_of_mul_eq_mul_left p (by omega)).symm
theorem xe(v:V):bA (neg v)=bA v:=by simp[bA,neg]
theorem xl(v:V):bv (neg v)=neg (bv v):=by
 have e:=iE v
 unfold bv
 rw[xe]
 have d1:(bA v:Int) ∣ v.x:=Int.ofNat_dvd_left.2 (Nat.dvd_trans (Nat.gcd_dvd_left _ _) (Nat.gcd_dvd_left _ _))
 have d2:(bA v:Int) ∣ v.y:=Int.ofNat_dvd_left.2 (Nat.dvd_trans (Nat.gcd_dvd_left _ _) (Nat.gcd_dvd_right _ _))
 have d3:(bA v:Int) ∣ v.z:=Int.ofNat_dvd_left.2 (Nat.gcd_dvd_right _ _)
 simp only[neg,Int.neg_ediv_of_dvd d1,Int.neg_ediv_of_dvd d2,Int.neg_ediv_of_dvd d3]
theorem pE{v:V}(h:v≠zero):bv v≠zero:=fun e=>h (by rw[iE v,e];apply V.ext'<;>simp[smul,zero])
theorem Ce{u v:V}(hu:bA u=1)(hv:bA v=1){a b:Int}(ha:0<a)(hb:0<b)(h:smul a u=smul b v):u=v:=by
 obtain⟨a,rfl⟩:=Int.eq_ofNat_of_zero_le (Int.le_of_lt ha)
 obtain⟨b,rfl⟩:=Int.eq_ofNat_of_zero_le (Int.le_of_lt hb)
 have e:=nR a u
 have e2:=nR b v
 rw[h,e2,hu,hv] at e
 have:a=b:=by omega
 subst this
 have h1:=congrArg V.x h;have h2:=congrArg V.y h;have h3:=congrArg V.z h
 simp only[smul] at h1 h2 h3
 have hne:(a:Int)≠0:=by omega
 exact V.ext' (Int.eq_of_mul_eq_mul_left hne h1) (Int.eq_of_mul_eq_mul_left hne h2) (Int.eq_of_mul_eq_mul_left hne h3)
section
variable{P:Nat->V}{N:Nat}
theorem IsF.nz{n:V}{d:Int}(h:IsF P N n d):n≠zero/\bA n=1:=by
 obtain⟨i,j,k,_,_,_,h1,h2|h2,_⟩:=h.ex
 ·subst h2;exact⟨pE h1,sH h1⟩
 ·subst h2
  refine⟨fun e=>pE h1 ?_,by rw[xe];exact sH h1⟩
  have e1:=congrArg V.x e;have e2:=congrArg V.y e;have e3:=congrArg V.z e
  simp only[neg,zero] at e1 e2 e3
  exact V.ext' (by simp only[zero];omega) (by simp only[zero];omega) (by simp only[zero];omega)
theorem aL{n:V}{d:Int}{k:Nat}:k∈aY P N n d↔k<N/\dot n (P k)=d:=by simp[aY]
theorem dD(n:V)(i k:Nat):dot n (wy P i k)=dot n (P k)-dot n (P i):=by simp only[dot,wy,sub];grind
theorem IsF.three{n:V}{d:Int}(h:IsF P N n d):∃ i j k,i<j/\j<k/\k<N/\i∈aY P N n d/\j∈aY P N n d/\k∈aY P N n d/\eE P i j k≠zero:=by
 obtain⟨i,j,k,hij,hjk,hk,h1,h2,h3⟩:=h.ex
 have g:=jt h1
 have e:=iE (eE P i j k)
 have t1:dot (eE P i j k) (wy P i j)=0:=by simp only[eE,dot,cross];grind
 have t2:dot (eE P i j k) (wy P i k)=0:=by simp only[eE,dot,cross];grind
 have key:∀ v:V,dot (eE P i j k) v=0->dot n v=0:=fun v hv=>by
  rw[e] at hv
  have:(bA (eE P i j k):Int)*dot (bv (eE P i j k)) v=0:=by rw[<-hv];simp only[dot,smul];grind
  have h0:=bB (by omega) this
  rcases h2 with h2|h2
  ·rw[h2];exact h0
  ·rw[h2]
   have:dot (neg (bv (eE P i j k))) v=- dot (bv (eE P i j k)) v:=by simp only[dot,neg];grind
   omega
 have k1:=key _ t1
 have k2:=key _ t2
 rw[dD] at k1 k2
 exact⟨i,j,k,hij,hjk,hk,aL.2 ⟨by omega,by omega⟩,aL.2 ⟨by omega,by omega⟩,aL.2 ⟨hk,by omega⟩,h1⟩
theorem IsF.flat(hl:∀ i j,i<j->j<N->aC (P i) (P j)){n:V}{d:Int}(h:IsF P N n d):Flat n P (aY P N n d):=by
 refine⟨h.nz.1,fun x hx y hy=>?_,fun x hx y hy e=>?_⟩
 ·have a:=(aL.1 hx).2;have b:=(aL.1 hy).2
  rw[dD];omega
 ·have a:=(aL.1 hx).1;have b:=(aL.1 hy).1
  rcases Nat.lt_trichotomy x y with c|c|c
  ·have:=hl x y c b;rw[e] at this;simp only[aC] at this;omega
  ·exact c
  ·have:=hl y x c a;rw[e] at this;simp only[aC] at this;omega
theorem IsF.left(hl:∀ i j,i<j->j<N->aC (P i) (P j)){n:V}{d:Int}(h:IsF P N n d){a b:Nat}(ha:a∈aY P N n d)(hs:Side n P (aY P N n d) a b) :
  ∃ x∈aY P N n d,0<T n (wy P a b) (wy P a x):=by
 obtain⟨i,j,k,hij,hjk,hk,mi,mj,mk,ht⟩:=h.three
 have F:=h.flat hl
 have key:∀ x∈aY P N n d,0<T n (wy P a b) (wy P a x)\/cross (wy P a b) (wy P a x)=zero:=fun x hx=>by
  rcases Int.lt_or_eq_of_le (hs.all x hx).1 with h1|h1
  ·exact .inl h1
  ·exact .inr (ef F.nz (F.pl a ha b hs.mem) (F.pl a ha x hx) h1.symm)
 rcases key i mi with h1|h1
 ·exact⟨i,mi,h1⟩
 rcases key j mj with h2|h2
 ·exact⟨j,mj,h2⟩
 rcases key k mk with h3|h3
 ·exact⟨k,mk,h3⟩
 exfalso
 apply ht
 have hb:=br (oK F ha hs.mem hs.ne)
 have p1:=Dq h1 (wy P a b);have p2:=Dq h2 (wy P a b);have p3:=Dq h3 (wy P a b)
 have w1:wy P i j=sub (wy P a j) (wy P a i):=by apply V.ext'<;>simp only[wy,sub]<;>omega
 have w2:wy P i k=sub (wy P a k) (wy P a i):=by apply V.ext'<;>simp only[wy,sub]<;>omega
 unfold eE
 rw[w1,w2]
 generalize wy P a b=e at *
 generalize wy P a i=u at *
 generalize wy P a j=v at *
 generalize wy P a k=w at *
 generalize dot e u=A at *
 generalize dot e v=B at *
 generalize dot e w=C at *
 generalize dot e e=D at *
 have q1:=congrArg V.x p1;have q2:=congrArg V.y p1;have q3:=congrArg V.z p1
 have r1:=congrArg V.x p2;have r2:=congrArg V.y p2;have r3:=congrArg V.z p2
 have s1:=congrArg V.x p3;have s2:=congrArg V.y p3;have s3:=congrArg V.z p3
 simp only[smul] at q1 q2 q3 r1 r2 r3 s1 s2 s3
 have hDD:0<D*D:=Int.mul_pos hb hb
 apply V.ext'<;>simp only[cross,sub,zero]<;>refine bB hDD ?_<;>grind
theorem far{n e:V}(he:dot n e=0){w:Nat->V}:∀ l:List Nat,l≠[]->(∀ y∈l,dot n (w y)<0)->∃ y∈l,∀ x∈l,0<=dot e (cross (w y) (w x))
 | [],h,_=>absurd rfl h
 | [y],_,hn=>⟨y,List.mem_cons_self,fun x hx=>by
   rw[List.mem_singleton.1 hx]
   have:dot e (cross (w y) (w y))=0:=by simp only[dot,cross];grind
   omega⟩
 | z::y'::l,_,hn=>by
  obtain⟨y,hy,hmax⟩:=far he (y'::l) (by simp) (fun y hy=>hn y (List.mem_cons_of_mem _ hy))
  have self:∀ v:V,dot e (cross v v)=0:=fun v=>by simp only[dot,cross];grind
  have sw:∀ u v:V,dot e (cross v u)=- dot e (cross u v):=fun u v=>by simp only[dot,cross];grind
  have pl:∀ x y z:V,dot n x*dot e (cross y z)=dot n z*dot e (cross y x)+dot n y*dot e (cross x z):=fun x y z=>by
   have:dot n x*dot e (cross y z)-(dot n z*dot e (cross y x)+dot n y*dot e (cross x z))=dot n e*dot x (cross y z):=by simp only[dot,cross];grind
   rw[he] at this;omega
  rcases Int.lt_or_le (dot e (cross (w y) (w z))) 0 with hlt|hge
  ·refine⟨z,List.mem_cons_self,fun x hx=>?_⟩
   rcases List.mem_cons.1 hx with rfl|hx
   ·have:=self (w x);omega
   ·have h1:=hmax x hx
    have h2:=pl (w y) (w z) (w x)
    have n1:=hn y (List.mem_cons_of_mem _ hy)
    have n2:=hn z List.mem_cons_self
    have n3:=hn x (List.mem_cons_of_mem _ hx)
    have h3:=sw (w y) (w z)
    have a1:dot n (w x)*dot e (cross (w z) (w y))<=0:=Int.mul_nonpos_of_nonpos_of_nonneg (Int.le_of_lt n3) (by omega)
    have a2:dot n (w z)*dot e (cross (w y) (w x))<=0:=Int.mul_nonpos_of_nonpos_of_nonneg (Int.le_of_lt n2) h1
    have a3:0<=(-(dot n (w y)))*dot e (cross (w z) (w x)):=by rw[Int.neg_mul];omega
    exact ou (by omega) a3
  ·refine⟨y,List.mem_cons_of_mem _ hy,fun x hx=>?_⟩
   rcases List.mem_cons.1 hx with rfl|hx
   ·exact hge
   ·exact hmax x hx
theorem Ha{p q r:Nat}(hp:p<N)(hq:q<N)(hr:r<N)(h1:p≠q)(h2:p≠r)(h3:q≠r){m:V}(hm:m=eE P p q r)(hle:∀ x,x<N->dot m (wy P p x)<=0)(hlt:∃ x,x<N/\dot m (wy P p x)<0) :
  ∃ n',∃ g:Int,0<g/\m=smul g n'/\IsF P N n' (dot n' (P p)):=by
 have hm0:m≠zero:=fun e=>by
  obtain⟨x,_,hx⟩:=hlt
  rw[e] at hx;simp[dot,zero] at hx
 have hg:=jt hm0
 have e:=iE m
 refine⟨bv m,bA m,by omega,e,?_,?_⟩
 ·have perm:∀ i j k,i<j->j<k->k<N->(m=eE P i j k\/m=neg (eE P i j k))->(dot (bv m) (wy P i p)=0)->∃ i j k,i<j/\j<k/\k<N/\eE P i j k≠zero/\(bv m=bv (eE P i j k)\/bv m=neg (bv (eE P i j k)))/\dot (bv m) (P p)=dot (bv m) (P i):=by
   intro i j k hij hjk hk hmm hd
   rw[dD] at hd
   refine⟨i,j,k,hij,hjk,hk,fun e0=>hm0 ?_,?_,by omega⟩
   ·rcases hmm with hmm|hmm
    ·rw[hmm,e0]
    ·rw[hmm,e0];rfl
   ·rcases hmm with hmm|hmm
    ·exact .inl (by rw[hmm])
    ·exact .inr (by rw[hmm,xl])
  have dz:∀ v:V,dot m v=0->dot (bv m) v=0:=fun v hv=>by
   have:(bA m:Int)*dot (bv m) v=0:=by
    rw[<-hv]
    conv=>rhs;rw[e]
    simp only[dot,smul];grind
   exact bB (by omega) this
  have z1:dot (bv m) (wy P p p)=0:=dz _ (by simp only[dot,wy,sub];grind)
  have z2:dot (bv m) (wy P q p)=0:=dz _ (by rw[hm];simp only[dot,eE,cross,wy,sub];grind)
  have z3:dot (bv m) (wy P r p)=0:=dz _ (by rw[hm];simp only[dot,eE,cross,wy,sub];grind)
  rcases Nat.lt_or_gt_of_ne h1 with a1|a1<;>rcases Nat.lt_or_gt_of_ne h2 with a2|a2<;>rcases Nat.lt_or_gt_of_ne h3 with a3|a3
  ·exact perm p q r a1 a3 hr (.inl hm) z1
  ·exact perm p r q a2 a3 hq (.inr (by rw[hm];apply V.ext'<;>simp only[eE,neg,cross,wy,sub]<;>grind)) z1
  ·omega
  ·exact perm r p q a2 a1 hq (.inl (by rw[hm];apply V.ext'<;>simp only[eE,neg,cross,wy,sub]<;>grind)) z3
  ·exact perm q p r a1 a2 hr (.inr (by rw[hm];apply V.ext'<;>simp only[eE,neg,cross,wy,sub]<;>grind)) z2
  ·omega
  ·exact perm q r p a3 a2 hp (.inl (by rw[hm];apply V.ext'<;>simp only[eE,neg,cross,wy,sub]<;>grind)) z2
  ·exact perm r q p a3 a1 hp (.inr (by rw[hm];apply V.ext'<;>simp only[eE,neg,cross,wy,sub]<;>grind)) z3
 ·have sc:∀ v:V,dot m v=(bA m:Int)*dot (bv m) v:=fun v=>by
   conv=>lhs;rw[e]
   simp only[dot,smul];grind
  refine⟨fun x hx=>?_,?_⟩
  ·have h:=hle x hx
   rw[sc,dD] at h
   rcases Int.lt_or_le (dot (bv m) (P p)) (dot (bv m) (P x)) with k|k
   ·have:=Int.mul_pos (a:=(bA m:Int)) (b:=dot (bv m) (P x)-dot (bv m) (P p)) (by omega) (by omega)
    omega
   ·exact k
  ·obtain⟨x,hx,h⟩:=hlt
   rw[sc,dD] at h
   refine⟨x,hx,?_⟩
   rcases Int.lt_or_le (dot (bv m) (P x)) (dot (bv m) (P p)) with k|k
   ·exact k
   ·have:=Int.mul_nonneg (a:=(bA m:Int)) (b:=dot (bv m) (P x)-dot (bv m) (P p)) (by omega) (by omega)
    omega
end
open V
section
variable{P:Nat->V}{N:Nat}
theorem xv(hl:∀ i j,i<j->j<N->aC (P i) (P j)){n:V}{d:Int}(h:IsF P N n d){a b:Nat}(ha:a∈aY P N n d)(hs:Side n P (aY P N n d) a b) :
  ∃ n' d',IsF P N n' d'/\a∈aY P N n' d'/\b∈aY P N n' d'/\Side n' P (aY P N n' d') b a:=by
 have F:=h.flat hl
 have haN:=(aL.1 ha).1
 have had:=(aL.1 ha).2
 have hbN:=(aL.1 hs.mem).1
 have he:dot n (wy P a b)=0:=F.pl a ha b hs.mem
 obtain⟨x1,hx1,hT1⟩:=h.left hl ha hs
 have hx1n:dot n (wy P a x1)=0:=F.pl a ha x1 hx1
 have hle:∀ x,x<N->dot n (wy P a x)<=0:=fun x hx=>by rw[dD];have:=h.supp.1 x hx;omega
 have hnn:=br F.nz
 obtain⟨z,hzN,hz⟩:=h.supp.2
 obtain⟨y,hy,hfar⟩:=far (w:=wy P a) he ((List.range N).filter fun k=>decide (dot n (wy P a k)<0)) (List.ne_nil_of_mem (a:=z) (by simp[hzN,dD];omega)) (fun y hy=>by simpa using(List.mem_filter.1 hy).2)
 have hyN:y<N:=by simpa using(List.mem_filter.1 hy).1
 have hyn:dot n (wy P a y)<0:=by simpa using(List.mem_filter.1 hy).2
 have hfar':∀ x,x<N->dot n (wy P a x)<0->0<=dot (wy P a b) (cross (wy P a y) (wy P a x)):=fun x hx hn=>hfar x (by simp[hx,hn])
 have onpl:∀ u v:V,dot n u=0->dot n v=0->∀ y:V,dot n n*dot (cross u v) y=dot n (cross u v)*dot n y:=fun u v hu hv y=>by
  have c:=gR hu hv
  have c1:=congrArg V.x c;have c2:=congrArg V.y c;have c3:=congrArg V.z c
  generalize cross u v=k at *
  simp only[cross,zero] at c1 c2 c3
  simp only[dot];grind
 have mdot:∀ v:V,dot (cross (wy P a y) (wy P a b)) v=- dot (wy P a b) (cross (wy P a y) v):=fun v=>by simp only[dot,cross];grind
 have mdot2:∀ v:V,dot (cross (wy P a y) (wy P a b)) v=dot (cross (wy P a b) v) (wy P a y):=fun v=>by simp only[dot,cross];grind
 have mon:∀ x∈aY P N n d,dot n n*dot (cross (wy P a y) (wy P a b)) (wy P a x)=T n (wy P a b) (wy P a x)*dot n (wy P a y):=fun x hx=>by
  rw[mdot2];exact onpl _ _ he (F.pl a ha x hx) _
 have mle:∀ x,x<N->dot (cross (wy P a y) (wy P a b)) (wy P a x)<=0:=fun x hx=>by
  rcases Int.lt_or_eq_of_le (hle x hx) with k|k
  ·rw[mdot];have:=hfar' x hx k;omega
  ·have hxm:x∈aY P N n d:=aL.2 ⟨hx,by rw[dD] at k;omega⟩
   have e:=mon x hxm
   have t:=(hs.all x hxm).1
   have:T n (wy P a b) (wy P a x)*dot n (wy P a y)<=0:=Int.mul_nonpos_of_nonneg_of_nonpos t (Int.le_of_lt hyn)
   rcases Int.lt_or_le 0 (dot (cross (wy P a y) (wy P a b)) (wy P a x)) with q|q
   ·have:=Int.mul_pos hnn q;omega
   ·exact q
 have mlt:dot (cross (wy P a y) (wy P a b)) (wy P a x1)<0:=by
  have e:=mon x1 hx1
  have:T n (wy P a b) (wy P a x1)*dot n (wy P a y)<0:=Int.mul_neg_of_pos_of_neg hT1 hyn
  rcases Int.lt_or_le (dot (cross (wy P a y) (wy P a b)) (wy P a x1)) 0 with q|q
  ·exact q
  ·have:=Int.mul_nonneg (Int.le_of_lt hnn) q;omega
 have hya:a≠y:=fun e=>by subst e;rw[show dot n (wy P a a)=0 by simp only[dot,wy,sub];grind] at hyn;omega
 have hyb:y≠b:=fun e=>by subst e;omega
 obtain⟨n',g,hg,hm,hF⟩:=Ha (p:=a) (q:=y) (r:=b) haN hyN hbN hya (Ne.symm hs.ne) hyb rfl mle ⟨x1,(aL.1 hx1).1,mlt⟩
 have sc:∀ v:V,dot (cross (wy P a y) (wy P a b)) v=g*dot n' v:=fun v=>by
  have:eE P a y b=cross (wy P a y) (wy P a b):=rfl
  rw[<-this,hm];simp only[dot,smul];grind
 have hbe:dot n' (wy P a b)=0:=bB hg (by rw[<-sc];simp only[dot,cross];grind)
 have ham:a∈aY P N n' (dot n' (P a)):=aL.2 ⟨haN,rfl⟩
 have hbm:b∈aY P N n' (dot n' (P a)):=aL.2 ⟨hbN,by rw[dD] at hbe;omega⟩
 refine⟨n',_,hF,ham,hbm,ham,Ne.symm hs.ne,fun x hx=>?_⟩
 have hxN:=(aL.1 hx).1
 have hx0:dot n' (wy P a x)=0:=by rw[dD];have:=(aL.1 hx).2;omega
 have mx0:dot (cross (wy P a y) (wy P a b)) (wy P a x)=0:=by rw[sc,hx0,Int.mul_zero]
 have tE:T n' (wy P b a) (wy P b x)=dot n' (cross (wy P a x) (wy P a b)):=by simp only[T,dot,cross,wy,sub];grind
 have dE:dot (wy P b x) (wy P b a)=dot (wy P a b) (wy P a b)-dot (wy P a x) (wy P a b):=by simp only[dot,wy,sub];grind
 have dE2:dot (wy P b a) (wy P b a)=dot (wy P a b) (wy P a b):=by simp only[dot,wy,sub];grind
 rw[tE,dE,dE2]
 rcases Int.lt_or_eq_of_le (hle x hxN) with k|k
 ·
  have c1:dot (cross (wy P a x) (wy P a b)) (wy P a x1)<0:=by
   have e:=onpl (wy P a b) (wy P a x1) he hx1n (wy P a x)
   have e2:dot (cross (wy P a x) (wy P a b)) (wy P a x1)=dot (cross (wy P a b) (wy P a x1)) (wy P a x):=by simp only[dot,cross];grind
   have:T n (wy P a b) (wy P a x1)*dot n (wy P a x)<0:=Int.mul_neg_of_pos_of_neg hT1 k
   rw[e2]
   simp only[T] at this
   rcases Int.lt_or_le (dot (cross (wy P a b) (wy P a x1)) (wy P a x)) 0 with q|q
   ·exact q
   ·have:=Int.mul_nonneg (Int.le_of_lt hnn) q;omega
  have par2:dot n' n'*dot (cross (wy P a x) (wy P a b)) (wy P a x1)=dot n' (cross (wy P a x) (wy P a b))*dot n' (wy P a x1):=by
   have c:=gR hx0 hbe
   have c1:=congrArg V.x c;have c2:=congrArg V.y c;have c3:=congrArg V.z c
   generalize cross (wy P a x) (wy P a b)=k at *
   simp only[cross,zero] at c1 c2 c3
   simp only[dot];grind
  have n'n':=br hF.nz.1
  have n1:dot n' (wy P a x1)<0:=by
   rw[sc] at mlt
   rcases Int.lt_or_le (dot n' (wy P a x1)) 0 with q|q
   ·exact q
   ·have:=Int.mul_nonneg (Int.le_of_lt hg) q;omega
  have l1:dot n' n'*dot (cross (wy P a x) (wy P a b)) (wy P a x1)<0:=Int.mul_neg_of_pos_of_neg n'n' c1
  have pos:0<dot n' (cross (wy P a x) (wy P a b)):=by
   rcases Int.lt_or_le 0 (dot n' (cross (wy P a x) (wy P a b))) with q|q
   ·exact q
   ·have:=Int.mul_nonneg_of_nonpos_of_nonpos q (Int.le_of_lt n1);omega
  exact⟨Int.le_of_lt pos,fun h0=>by omega⟩
 ·have hxm:x∈aY P N n d:=aL.2 ⟨hxN,by rw[dD] at k;omega⟩
  have e:=mon x hxm
  rw[mx0,Int.mul_zero] at e
  have t0:T n (wy P a b) (wy P a x)=0:=by
   rcases Int.mul_eq_zero.1 e.symm with q|q
   ·exact q
   ·omega
  have s2:=(hs.all x hxm).2 t0
  have c0:=ef F.nz he k t0
  have:dot n' (cross (wy P a x) (wy P a b))=0:=by
   have e2:dot n' (cross (wy P a x) (wy P a b))=- dot n' (cross (wy P a b) (wy P a x)):=by simp only[dot,cross];grind
   rw[e2,c0];simp[dot,zero]
  rw[this]
  exact⟨Int.le_refl _,fun _=>⟨by omega,by omega⟩⟩
theorem BY(hl:∀ i j,i<j->j<N->aC (P i) (P j)){n1 n2:V}{d1 d2:Int}(h1:IsF P N n1 d1)(h2:IsF P N n2 d2){a b:Nat}(ha1:a∈aY P N n1 d1)(ha2:a∈aY P N n2 d2)
  (hs1:Side n1 P (aY P N n1 d1) a b) (hs2:Side n2 P (aY P N n2 d2) a b):n1=n2:=by
 have F1:=h1.flat hl
 have F2:=h2.flat hl
 obtain⟨x1,hx1,ht1⟩:=h1.left hl ha1 hs1
 obtain⟨x2,hx2,ht2⟩:=h2.left hl ha2 hs2
 have e1:dot n1 (wy P a b)=0:=F1.pl a ha1 b hs1.mem
 have e2:dot n2 (wy P a b)=0:=F2.pl a ha2 b hs2.mem
 have z1:dot n1 (wy P a x1)=0:=F1.pl a ha1 x1 hx1
 have z2:dot n2 (wy P a x2)=0:=F2.pl a ha2 x2 hx2
 have l12:dot n1 (wy P a x2)<=0:=by rw[dD];have:=h1.supp.1 x2 (aL.1 hx2).1;have:=(aL.1 ha1).2;omega
 have l21:dot n2 (wy P a x1)<=0:=by rw[dD];have:=h2.supp.1 x1 (aL.1 hx1).1;have:=(aL.1 ha2).2;omega
 have hp1:=br F1.nz
 have hp2:=br F2.nz
 have onpl:∀ (n u v:V),dot n u=0->dot n v=0->smul (dot n n) (cross u v)=smul (dot n (cross u v)) n:=fun n u v hu hv=>by
  have c:=gR hu hv
  have c1:=congrArg V.x c;have c2:=congrArg V.y c;have c3:=congrArg V.z c
  generalize cross u v=k at *
  simp only[cross,zero] at c1 c2 c3
  apply V.ext'<;>simp only[smul,dot]<;>grind
 have dsm:∀ (k:Int) (u v:V),dot (smul k u) v=k*dot u v:=fun k u v=>by simp only[dot,smul];grind
 have k1:dot n1 n1*dot (cross (wy P a b) (wy P a x1)) (wy P a x2)=T n1 (wy P a b) (wy P a x1)*dot n1 (wy P a x2):=by
  have:=congrArg (fun v=>dot v (wy P a x2)) (onpl n1 _ _ e1 z1)
  simp only[dsm] at this
  exact this
 have k2:dot n2 n2*dot (cross (wy P a b) (wy P a x2)) (wy P a x1)=T n2 (wy P a b) (wy P a x2)*dot n2 (wy P a x1):=by
  have:=congrArg (fun v=>dot v (wy P a x1)) (onpl n2 _ _ e2 z2)
  simp only[dsm] at this
  exact this
 have sw:dot (cross (wy P a b) (wy P a x2)) (wy P a x1)=- dot (cross (wy P a b) (wy P a x1)) (wy P a x2):=by simp only[dot,cross];grind
 have m1:T n1 (wy P a b) (wy P a x1)*dot n1 (wy P a x2)<=0:=Int.mul_nonpos_of_nonneg_of_nonpos (Int.le_of_lt ht1) l12
 have m2:T n2 (wy P a b) (wy P a x2)*dot n2 (wy P a x1)<=0:=Int.mul_nonpos_of_nonneg_of_nonpos (Int.le_of_lt ht2) l21
 have D0:dot (cross (wy P a b) (wy P a x1)) (wy P a x2)=0:=by
  rw[sw] at k2
  generalize dot (cross (wy P a b) (wy P a x1)) (wy P a x2)=D at *
  rcases Int.lt_trichotomy D 0 with q|q|q
  ·have:=Int.mul_pos (a:=dot n2 n2) (b:=-D) hp2 (by omega);omega
  ·exact q
  ·have:=Int.mul_pos hp1 q;omega
 have n12:dot n1 (wy P a x2)=0:=by
  rw[D0,Int.mul_zero] at k1
  rcases Int.mul_eq_zero.1 k1.symm with q|q
  ·omega
  ·exact q
 have hx2m:x2∈aY P N n1 d1:=aL.2 ⟨(aL.1 hx2).1,by rw[dD] at n12;have:=(aL.1 ha1).2;omega⟩
 have c2:=onpl n2 _ _ e2 z2
 have c1:=onpl n1 _ _ e1 n12
 have t12:=(hs1.all x2 hx2m).1
 have ne:T n1 (wy P a b) (wy P a x2)≠0:=fun e=>by
  have c0:=ef F1.nz e1 n12 e
  have:T n2 (wy P a b) (wy P a x2)=0:=by simp only[T];rw[c0];simp[dot,zero]
  omega
 refine Ce h1.nz.2 h2.nz.2 (a:=T n1 (wy P a b) (wy P a x2)*dot n2 n2) (b:=T n2 (wy P a b) (wy P a x2)*dot n1 n1) (Int.mul_pos (by omega) hp2) (Int.mul_pos ht2 hp1) ?_
 simp only[T] at *
 generalize cross (wy P a b) (wy P a x2)=K at *
 have q1:=congrArg V.x c1;have q2:=congrArg V.y c1;have q3:=congrArg V.z c1
 have r1:=congrArg V.x c2;have r2:=congrArg V.y c2;have r3:=congrArg V.z c2
 generalize dot n1 n1=A at *
 generalize dot n2 n2=B at *
 generalize dot n1 K=A' at *
 generalize dot n2 K=B' at *
 simp only[smul] at q1 q2 q3 r1 r2 r3
 apply V.ext'<;>simp only[smul]<;>grind
end
open V
section
variable{n:V}{P:Nat->V}{on:List Nat}
theorem Side.start(h:Flat n P on){a b:Nat}(ha:a∈on)(hs:Side n P on a b):ed P on a:=by
 obtain⟨K,hK,hb⟩:=im (fun x=>dot (wy P a b) (wy P a x)) on
 refine⟨add (smul K (cross n (wy P a b))) (wy P a b),fun x hx hxa=>?_⟩
 have e:dot (add (smul K (cross n (wy P a b))) (wy P a b)) (wy P a x)=K*T n (wy P a b) (wy P a x)+dot (wy P a b) (wy P a x):=by simp only[T,dot,add,smul,cross];grind
 rw[e]
 obtain⟨h1,h2⟩:=hs.all x hx
 have c:=hb x hx
 rcases Int.lt_or_eq_of_le h1 with k|k
 ·have:K*1<=K*T n (wy P a b) (wy P a x):=Int.mul_le_mul_of_nonneg_left (by omega) (Int.le_of_lt hK)
  omega
 ·rw[<-k,Int.mul_zero,Int.zero_add]
  obtain⟨q1,q2⟩:=h2 k.symm
  have sw:dot (wy P a b) (wy P a x)=dot (wy P a x) (wy P a b):=by simp only[dot];grind
  rw[sw]
  rcases Int.lt_or_eq_of_le q1 with p|p
  ·exact p
  ·exfalso
   have c0:=ef h.nz (h.pl a ha b hs.mem) (h.pl a ha x hx) k.symm
   have pr:=Dq c0 (wy P a b)
   rw[sw,<-p] at pr
   have hp:=br (oK h ha hs.mem hs.ne)
   apply oK h ha hx hxa
   have p1:=congrArg V.x pr;have p2:=congrArg V.y pr;have p3:=congrArg V.z pr
   simp only[smul,Int.zero_mul] at p1 p2 p3
   exact V.ext' (bB hp p1) (bB hp p2) (bB hp p3)
end
theorem nM{α:Type}{r:α->α->Prop}(irr:∀ a,¬ r a a)(asy:∀ a b,r a b->¬ r b a):∀ {l l':List α},l.Pairwise r->l'.Pairwise r->(∀ x,x∈l↔x∈l')->l=l'
 | [],[],_,_,_=>rfl
 | [],b::l',_,_,h=>absurd ((h b).2 List.mem_cons_self) (by simp)
 | a::l,[],_,_,h=>absurd ((h a).1 List.mem_cons_self) (by simp)
 | a::l,b::l',h1,h2,h=>by
  obtain⟨k1,k2⟩:=List.pairwise_cons.1 h1
  obtain⟨k3,k4⟩:=List.pairwise_cons.1 h2
  have e:a=b:=by
   rcases List.mem_cons.1 ((h a).1 List.mem_cons_self) with e|m
   ·exact e
   ·rcases List.mem_cons.1 ((h b).2 List.mem_cons_self) with e|m'
    ·exact e.symm
    ·exact absurd (k1 b m') (asy _ _ (k3 a m))
  subst e
  rw[nM irr asy k2 k4 fun x=>?_]
  constructor
  ·intro hx
   rcases List.mem_cons.1 ((h x).1 (List.mem_cons_of_mem _ hx)) with e|m
   ·subst e;exact absurd (k1 x hx) (irr x)
   ·exact m
  ·intro hx
   rcases List.mem_cons.1 ((h x).2 (List.mem_cons_of_mem _ hx)) with e|m
   ·subst e;exact absurd (k3 x hx) (irr x)
   ·exact m
theorem kQ(a:V):¬ aC a a:=by simp only[aC];omega
theorem tF(a b:V):aC a b->¬ aC b a:=by simp only[aC];omega
theorem ku{a b c:V}:aC a b->aC b c->aC a c:=by simp only[aC];omega
theorem nL{a b:V}(h:a≠b):aC a b\/aC b a:=by
 simp only[aC]
 rcases Int.lt_trichotomy a.x b.x with h1|h1|h1<;>rcases Int.lt_trichotomy a.y b.y with h2|h2|h2<;>rcases Int.lt_trichotomy a.z b.z with h3|h3|h3<;>first|omega|exact absurd (V.ext' h1 h2 h3) h
structure Facets(P:Nat->V)(N:Nat)(L:List (V×Int)):Prop where
 ord:L.Pairwise (fun a b=>aC a.1 b.1)
 mem:∀ q,q∈L↔IsF P N q.1 q.2
theorem Facets.eq{P:Nat->V}{N:Nat}{L L':List (V×Int)}(h:Facets P N L)(h':Facets P N L'):L=L':=
 nM (r:=fun a b=>aC a.1 b.1) (fun a=>kQ a.1) (fun a b=>tF a.1 b.1) h.ord h'.ord fun x=>(h.mem x).trans (h'.mem x).symm
section
variable{P:Nat->V}{N:Nat}{n:V}{d:Int}
theorem IsF.d_eq{d':Int}(h:IsF P N n d)(h':IsF P N n d'):d=d':=by
 obtain⟨i,_,_,hij,hjk,hk,_,_,e⟩:=h.ex
 obtain⟨i',_,_,hij',hjk',hk',_,_,e'⟩:=h'.ex
 have h1:=h.supp.1 i' (by omega)
 have h2:=h'.supp.1 i (by omega)
 omega
def bu(P:Nat->V)(N:Nat)(n:V)(d:Int)(l:List Nat):Prop:=∃ a,(aY P N n d).head?=some a/\Chain (Side n P (aY P N n d)) a a l
theorem Cp:(aY P N n d).Pairwise (·<·):=List.Pairwise.sublist List.filter_sublist List.pairwise_lt_range
theorem IsF.head(hl:∀ i j,i<j->j<N->aC (P i) (P j))(h:IsF P N n d):∃ a,(aY P N n d).head?=some a/\a∈aY P N n d/\ed P (aY P N n d) a/\(∀ x∈aY P N n d,a<=x)/\∀ c∈aY P N n d,∃ x∈aY P N n d,x≠c:=by
 obtain⟨i,j,k,hij,hjk,hk,mi,mj,mk,ht⟩:=h.three
 cases hon:aY P N n d with
 | nil=>rw[hon] at mi;simp at mi
 | cons a l=>
  have ho:(a::l).Pairwise (·<·):=by rw[<-hon];exact Cp
  rw[List.pairwise_cons] at ho
  have hle:∀ x∈a::l,a<=x:=fun x hx=>by
   rcases List.mem_cons.1 hx with e|m
   ·omega
   ·exact Nat.le_of_lt (ho.1 x m)
  refine⟨a,rfl,List.mem_cons_self,Ap fun x hx hxa=>?_,hle,fun c hc=>?_⟩
  ·have:=hle x hx
   rw[<-hon] at hx
   exact hl a x (by omega) (aL.1 hx).1
  ·rw[hon] at mi mj
   by_cases e:i=c
   ·exact⟨j,mj,by omega⟩
   ·exact⟨i,mi,e⟩
theorem IsF.poly(hl:∀ i j,i<j->j<N->aC (P i) (P j))(h:IsF P N n d) :
  ∃ l,bu P N n d l/\l.Nodup/\∀ z,z∈l↔z∈aY P N n d/\ed P (aY P N n d) z:=by
 obtain⟨a,h1,h2,h3,h4,h5⟩:=h.head hl
 obtain⟨l,k1,k2,k3,k4⟩:=yb (h.flat hl) h2 h3 h5
 exact⟨l,⟨a,h1,k1⟩,k2,fun z=>⟨k3 z,fun⟨q1,q2⟩=>k4 z q1 q2⟩⟩
theorem bu.eq(hl:∀ i j,i<j->j<N->aC (P i) (P j))(h:IsF P N n d){l l':List Nat}(k:bu P N n d l)(k':bu P N n d l'):l=l':=by
 obtain⟨a,h1,h2⟩:=k
 obtain⟨a',h1',h2'⟩:=k'
 rw[h1] at h1';cases h1'
 obtain⟨b,g1,g2,g3,g4,g5⟩:=h.head hl
 rw[h1] at g1;cases g1
 have F:=h.flat hl
 have key:∀ {c:Nat} {l l':List Nat},c∈aY P N n d->Chain (Side n P (aY P N n d)) a c l->Chain (Side n P (aY P N n d)) a c l'->l=l':=by
  intro c l l' hc k1
  induction k1 generalizing l' with
  | done s=>intro k2;cases k2 with
   | done _=>rfl
   | step s' hne _=>exact absurd (Side.unique F hc s' s) hne
  | step s hne k ih=>intro k2;cases k2 with
   | done s'=>exact absurd (Side.unique F hc s s') hne
   | step s' _ k'=>
    have e:=Side.unique F hc s s'
    subst e
    rw[ih s.mem k']
 exact key g2 h2 h2'
theorem bu.next{l:List Nat}(k:bu P N n d l){i:Nat}(hi:i<l.length):Side n P (aY P N n d) (l.getD i 0) (l.getD ((i+1)%l.length) 0):=by
 obtain⟨a,h1,h2⟩:=k
 obtain⟨l',e⟩:=h2.head
 obtain⟨y,q1,q2⟩:=h2.pairs i (l.getD i 0) (by simp[List.getD,List.getElem?_eq_getElem hi])
 rcases Nat.lt_or_ge (i+1) l.length with c|c
 ·rw[List.getElem?_append_left c] at q1
  rw[Nat.mod_eq_of_lt c]
  simp only[List.getD,q1,Option.getD_some]
  exact q2
 ·have ei:i+1=l.length:=by omega
  rw[List.getElem?_append_right (by omega),ei,Nat.sub_self] at q1
  simp at q1
  subst q1
  rw[ei,Nat.mod_self]
  have:l.getD 0 0=a:=by rw[e];rfl
  rw[this];exact q2
def Ip(P:Nat->V)(N:Nat)(n:V)(d:Int)(a b:Nat):Prop:=a∈aY P N n d/\Side n P (aY P N n d) a b
theorem bu.dir(hl:∀ i j,i<j->j<N->aC (P i) (P j))(h:IsF P N n d){l:List Nat}(k:bu P N n d l){a b:Nat} :
  (∃ i,i<l.length/\l.getD i 0=a/\l.getD ((i+1)%l.length) 0=b)↔Ip P N n d a b:=by
 obtain⟨l2,p1,p2,p3⟩:=h.poly hl
 have:=bu.eq hl h k p1
 subst this
 constructor
 ·rintro⟨i,hi,h1,h2⟩
  have s:=k.next hi
  rw[h1,h2] at s
  refine⟨((p3 a).1 ?_).1,s⟩
  rw[<-h1];simp[List.getD,List.getElem?_eq_getElem hi]
 ·rintro⟨ha,s⟩
  have hm:=(p3 a).2 ⟨ha,s.start (h.flat hl) ha⟩
  obtain⟨i,hi,e⟩:=List.getElem_of_mem hm
  have ei:l.getD i 0=a:=by simp[List.getD,List.getElem?_eq_getElem hi,e]
  have s2:=k.next hi
  rw[ei] at s2
  exact⟨i,hi,ei,Side.unique (h.flat hl) ha s2 s⟩
end
section
variable{P:Nat->V}{N:Nat}
end
end Go.Proofs.YtjjjkojfijpeeaaGreat.Geo
end
section
set_option linter.unusedVariables false
namespace Go.Proofs.YtjjjkojfijpeeaaGreat.Sy
open Go Go.Proofs Go.Proofs.YtjjjkojfijpeeaaGreat.Geo
abbrev I(n:Int):D:=.int .i64 n
def ac(v:V):D:=.st [I v.x,I v.y,I v.z]
def inR(n:Int):Prop:=-9223372036854775808<=n/\n<=9223372036854775807
theorem iP{n:Int}(h:inR n):IntKind.wrap .i64 n=n:=by
 obtain⟨h1,h2⟩:=h
 simp only[IntKind.wrap,IntKind.signed,IntKind.bits]
 first
  | omega
  | (simp;omega)
theorem av{a b:Int}(h:inR (a+b)):D.bin .add (I a) (I b)=some (I (a+b)):=by simp only[D.bin,if_true,iP h]
theorem dH{a b:Int}(h:inR (a-b)):D.bin .sub (I a) (I b)=some (I (a-b)):=by simp only[D.bin,if_true,iP h]
theorem cQ{a b:Int}(h:inR (a*b)):D.bin .mul (I a) (I b)=some (I (a*b)):=by simp only[D.bin,if_true,iP h]
theorem ag{a b:Int}:D.bin .lss (I a) (I b)=some (.bool (decide (a<b))):=by simp only[D.bin,if_true]
theorem oH{a b:Int}:D.bin .leq (I a) (I b)=some (.bool (decide (a<=b))):=by simp only[D.bin,if_true]
theorem dV{a b:Int}:D.bin .gtr (I a) (I b)=some (.bool (decide (a>b))):=by simp only[D.bin,if_true]
theorem iD{a b:Int}:D.bin .geq (I a) (I b)=some (.bool (decide (a ≥ b))):=by simp only[D.bin,if_true]
theorem tH{a b:Int}(h:b≠0):D.bin .rem (I a) (I b)=some (I (a.tmod b)):=by simp only[D.bin,if_true,h,if_false]
theorem tq{a b:Int}(h:b≠0)(hr:inR (a.tdiv b)):D.bin .quo (I a) (I b)=some (I (a.tdiv b)):=by simp only[D.bin,if_true,h,if_false,iP hr]
theorem oJ{a:Int}(h:inR (-a)):D.un .neg (I a)=some (I (-a)):=by simp only[D.un,Int.zero_sub,iP h]
theorem cU{b:Bool}:D.un .not (.bool b)=some (.bool (!b)):=rfl
theorem af{b:Bool}:D.truth (.bool b)=some b:=rfl
theorem CP{a b:Int}:D.max2 (I a) (I b)=some (I (max a b)):=by
 simp only[D.max2];congr 2
 split<;>omega
theorem Id{a b:Int}:D.min2 (I a) (I b)=some (I (min a b)):=by
 simp only[D.min2];congr 2
 split<;>omega
theorem ca{a b:Int}:D.beq (I a) (I b)=decide (a=b):=by simp[D.beq]
theorem nh(v:V):D.get (ac v) [0]=some (I v.x):=rfl
theorem nD(v:V):D.get (ac v) [1]=some (I v.y):=rfl
theorem mQ(v:V):D.get (ac v) [2]=some (I v.z):=rfl
theorem qC(x y z:Int):D.st [D.int .i64 x,D.int .i64 y,D.int .i64 z]=ac ⟨x,y,z⟩:=rfl
def bd(k:Int)(v:V):Prop:=(-k<=v.x/\v.x<=k)/\(-k<=v.y/\v.y<=k)/\(-k<=v.z/\v.z<=k)
theorem gu{a b A B:Int}(ha:-A<=a/\a<=A)(hb:-B<=b/\b<=B):-(A*B)<=a*b/\a*b<=A*B:=by
 have hA:0<=A:=by omega
 have hB:0<=B:=by omega
 have h1:(a*b).natAbs<=(A*B).natAbs:=by
  rw[Int.natAbs_mul,Int.natAbs_mul]
  exact Nat.mul_le_mul (by omega) (by omega)
 have h2:0<=A*B:=Int.mul_nonneg hA hB
 omega
theorem lQ{A B:Int}{u v:V}(hu:bd A u)(hv:bd B v):bd (A+B) (u.sub v):=by
 simp only[bd,V.sub] at *;omega
theorem qL{A:Int}{u:V}(hu:bd A u):bd A u.neg:=by
 simp only[bd,V.neg] at *;omega
theorem gq{A B:Int}{u v:V}(hu:bd A u)(hv:bd B v):bd (2*(A*B)) (V.cross u v):=by
 have:=gu hu.1 hv.1;have:=gu hu.1 hv.2.1;have:=gu hu.1 hv.2.2
 have:=gu hu.2.1 hv.1;have:=gu hu.2.1 hv.2.1;have:=gu hu.2.1 hv.2.2
 have:=gu hu.2.2 hv.1;have:=gu hu.2.2 hv.2.1;have:=gu hu.2.2 hv.2.2
 simp only[bd,V.cross];omega
theorem B6{A B:Int}{u v:V}(hu:bd A u)(hv:bd B v):-(3*(A*B))<=V.dot u v/\V.dot u v<=3*(A*B):=by
 have:=gu hu.1 hv.1;have:=gu hu.2.1 hv.2.1;have:=gu hu.2.2 hv.2.2
 simp only[V.dot];omega
theorem wT{A B:Int}{u v:V}(hu:bd A u)(hv:bd B v)(h:3*(A*B)<=9223372036854775807) :
  inR (u.x*v.x)/\inR (u.y*v.y)/\inR (u.z*v.z)/\inR (u.x*v.x+u.y*v.y)/\inR (u.x*v.x+u.y*v.y+u.z*v.z):=by
 have:=gu hu.1 hv.1;have:=gu hu.2.1 hv.2.1;have:=gu hu.2.2 hv.2.2
 simp only[inR];omega
theorem f101{call:Nat->List D->Option D}{A B:Int}{u v:V}(hu:bd A u)(hv:bd B v)(h:3*(A*B)<=9223372036854775807):BZ bc call (ac u) (ac v)=some (I (V.dot u v)):=by
 obtain⟨h1,h2,h3,h4,h5⟩:=wT hu hv h
 simp only[BZ,nh,nD,mQ,Option.bind_some,cQ h1,cQ h2,cQ h3,av h4,av h5]
 rfl
theorem Cg(n:Nat){A B:Int}{u v:V}(hu:bd A u)(hv:bd B v)(h:3*(A*B)<=9223372036854775807):cA (n+1) 101 [ac u,ac v]=some (I (V.dot u v)):=by rw[Ln];exact f101 hu hv h
theorem An(n:Nat){A B:Int}{u v:V}(hu:bd A u)(hv:bd B v)(h:3*(A*B)<=9223372036854775807):cA (n+1) 107 [ac u,ac v]=some (I (V.dot u v)):=by
 obtain⟨h1,h2,h3,h4,h5⟩:=wT hu hv h
 rw[Lb]
 simp only[DG,nh,nD,mQ,Option.bind_some,cQ h1,cQ h2,cQ h3,av h4,av h5]
 rfl
theorem ql{A B:Int}{u v:V}(hu:bd A u)(hv:bd B v)(h:2*(A*B)<=9223372036854775807) :
  inR (u.y*v.z)/\inR (u.z*v.y)/\inR (u.z*v.x)/\inR (u.x*v.z)/\inR (u.x*v.y)/\inR (u.y*v.x)/\inR (u.y*v.z-u.z*v.y)/\inR (u.z*v.x-u.x*v.z)/\inR (u.x*v.y-u.y*v.x):=by
 have:=gu hu.1 hv.1;have:=gu hu.1 hv.2.1;have:=gu hu.1 hv.2.2
 have:=gu hu.2.1 hv.1;have:=gu hu.2.1 hv.2.1;have:=gu hu.2.1 hv.2.2
 have:=gu hu.2.2 hv.1;have:=gu hu.2.2 hv.2.1;have:=gu hu.2.2 hv.2.2
 simp only[inR];omega
theorem GL(n:Nat){A B:Int}{u v:V}(hu:bd A u)(hv:bd B v)(h:2*(A*B)<=9223372036854775807):cA (n+1) 117 [ac u,ac v]=some (ac (V.cross u v)):=by
 obtain⟨h1,h2,h3,h4,h5,h6,h7,h8,h9⟩:=ql hu hv h
 rw[JW]
 simp only[DC,nh,nD,mQ,Option.bind_some,cQ h1,cQ h2,cQ h3,cQ h4,cQ h5,cQ h6,dH h7,dH h8,dH h9]
 rfl
theorem It(n:Nat){A B:Int}{u v:V}(hu:bd A u)(hv:bd B v)(h:2*(A*B)<=9223372036854775807):cA (n+1) 123 [ac u,ac v]=some (ac (V.cross u v)):=by
 obtain⟨h1,h2,h3,h4,h5,h6,h7,h8,h9⟩:=ql hu hv h
 rw[JJ]
 simp only[Fd,nh,nD,mQ,Option.bind_some,cQ h1,cQ h2,cQ h3,cQ h4,cQ h5,cQ h6,dH h7,dH h8,dH h9]
 rfl
theorem N7(n:Nat){A:Int}{u:V}(hu:bd A u)(h:A<=9223372036854775807):cA (n+1) 97 [ac u]=some (ac u.neg):=by
 have h1:inR (-u.x):=by simp only[bd,inR] at *;omega
 have h2:inR (-u.y):=by simp only[bd,inR] at *;omega
 have h3:inR (-u.z):=by simp only[bd,inR] at *;omega
 rw[Oz]
 simp only[IH,nh,nD,mQ,Option.bind_some,oJ h1,oJ h2,oJ h3]
 rfl
end Go.Proofs.YtjjjkojfijpeeaaGreat.Sy
end
section
set_option linter.unusedVariables false
namespace Go.Proofs.YtjjjkojfijpeeaaGreat.Sy
open Go Go.Proofs Go.Proofs.YtjjjkojfijpeeaaGreat.Geo
abbrev Bd:=List D->Option (Sum (List D) (Nat×List D))
theorem cF{body:Bd}{s s':List D}{k:Nat×List D->Option D}{y:D}(h:body s=some (.inl s'))(hk:Option.bind (bc body s') k=some y):Option.bind (bc body s) k=some y:=by
 have:bc body s=bc body s':=dY h
 rw[this];exact hk
theorem fB{body:Bd}{s:List D}{r:Nat×List D}{k:Nat×List D->Option D}{y:D}(h:body s=some (.inr r))(hk:k r=some y):Option.bind (bc body s) k=some y:=by
 have:bc body s=some r:=eG h
 rw[this];exact hk
theorem yz{body:Bd}{s:List D}{r:Nat×List D}{k:Nat×List D->Option D}{y:D}(h:bc body s=some r)(hk:k r=some y):Option.bind (bc body s) k=some y:=by
 rw[h];exact hk
theorem be{body:Bd}{s0:List D}{k:Nat×List D->Option D}{y:D}(J:Nat->List D->Prop)(n i0:Nat)(hi:i0<=n)(h0:J i0 s0)
  (hs:∀ i,i<n->∀ s,J i s->(∃ s',body s=some (.inl s')/\J (i+1) s')\/∃ r,body s=some (.inr r)/\k r=some y) (he:∀ s,J n s->∃ r,body s=some (.inr r)/\k r=some y):Option.bind (bc body s0) k=some y:=by
 obtain⟨m,hm⟩:∃ m,m=n-i0:=⟨_,rfl⟩
 induction m generalizing i0 s0 with
 | zero=>
  have:i0=n:=by omega
  subst this
  obtain⟨r,h1,h2⟩:=he s0 h0
  exact fB h1 h2
 | succ m ih=>
  rcases hs i0 (by omega) s0 h0 with⟨s',h1,h2⟩|⟨r,h1,h2⟩
  ·exact cF h1 (ih (i0:=i0+1) (by omega) h2 (by omega))
  ·exact fB h1 h2
theorem pu{body:Bd}{s0:List D}(J:Nat->List D->Prop)(Q:Nat×List D->Prop)(n i0:Nat)(hi:i0<=n)(h0:J i0 s0)
  (hs:∀ i,i<n->∀ s,J i s->(∃ s',body s=some (.inl s')/\J (i+1) s')\/∃ r,body s=some (.inr r)/\Q r) (he:∀ s,J n s->∃ r,body s=some (.inr r)/\Q r):∃ r,bc body s0=some r/\Q r:=by
 obtain⟨m,hm⟩:∃ m,m=n-i0:=⟨_,rfl⟩
 induction m generalizing i0 s0 with
 | zero=>
  have:i0=n:=by omega
  subst this
  obtain⟨r,h1,h2⟩:=he s0 h0
  exact⟨r,eG h1,h2⟩
 | succ m ih=>
  rcases hs i0 (by omega) s0 h0 with⟨s',h1,h2⟩|⟨r,h1,h2⟩
  ·obtain⟨r,k1,k2⟩:=ih (i0:=i0+1) (by omega) h2 (by omega)
   exact⟨r,by rw[show bc body s0=bc body s' from dY h1];exact k1,k2⟩
  ·exact⟨r,eG h1,h2⟩
theorem aw{i n:Nat}(h:i<n):D.idx (I (i:Int)) n=some i:=by
 simp only[D.idx]
 rw[if_pos (by omega)];simp
theorem aF{i:Nat}(h:i<=9223372036854775806):inR ((i:Int)+1):=by simp only[inR];omega
theorem g0{x:D}{l:List D}{d:D}:List.getD (x::l) 0 d=x:=rfl
theorem g1{x y:D}{l:List D}{d:D}:List.getD (x::y::l) 1 d=y:=rfl
theorem g2{x y z:D}{l:List D}{d:D}:List.getD (x::y::z::l) 2 d=z:=rfl
theorem g3{x y z w:D}{l:List D}{d:D}:List.getD (x::y::z::w::l) 3 d=w:=rfl
theorem KY(v:V)(a:Int):D.set (ac v) [0] (I a)=some (ac ⟨a,v.y,v.z⟩):=rfl
theorem MU(v:V)(a:Int):D.set (ac v) [1] (I a)=some (ac ⟨v.x,a,v.z⟩):=rfl
theorem ML(v:V)(a:Int):D.set (ac v) [2] (I a)=some (ac ⟨v.x,v.y,a⟩):=rfl
theorem FQ:D.idx (I 0) 3=some 0:=rfl
theorem FS:D.idx (I 1) 3=some 1:=rfl
theorem F7:D.idx (I 2) 3=some 2:=rfl
theorem M7(n:Nat){A B:Int}{u v:V}(hu:bd A u)(hv:bd B v)(h:A+B<=9223372036854775807):cA (n+1) 154 [ac u,ac v]=some (ac (u.add v)):=by
 have h1:inR (u.x+v.x):=by simp only[bd,inR] at *;omega
 have h2:inR (u.y+v.y):=by simp only[bd,inR] at *;omega
 have h3:inR (u.z+v.z):=by simp only[bd,inR] at *;omega
 rw[Nj]
 unfold ES
 refine cF (s':=[I 1,ac ⟨u.x+v.x,u.y,u.z⟩]) ?_ (cF (s':=[I 2,ac ⟨u.x+v.x,u.y+v.y,u.z⟩]) ?_ (cF (s':=[I 3,ac ⟨u.x+v.x,u.y+v.y,u.z+v.z⟩]) ?_ (fB (r:=(0,[ac (u.add v)])) ?_ rfl)))
 ·simp only[g0,g1,ag,Option.bind_some,af,FQ,nh,KY,av h1,av (show inR (0+1) from⟨by decide,by decide⟩)];rfl
 ·simp only[g0,g1,ag,Option.bind_some,af,FS,nD,MU,av h2,av (show inR (1+1) from⟨by decide,by decide⟩)];rfl
 ·simp only[g0,g1,ag,Option.bind_some,af,F7,mQ,ML,av h3,av (show inR (2+1) from⟨by decide,by decide⟩)];rfl
 ·simp only[g0,g1,ag,Option.bind_some,af];rfl
theorem Fu(u v:V):u.add v.neg=u.sub v:=by apply V.ext'<;>simp only[V.add,V.neg,V.sub]<;>omega
theorem DN(n:Nat){A B:Int}{u v:V}(hu:bd A u)(hv:bd B v)(h:A+B<=9223372036854775807):cA (n+2) 103 [ac u,ac v]=some (ac (u.sub v)):=by
 have hA:0<=A:=by simp only[bd] at hu;omega
 rw[Lc]
 simp only[Fz,N7 n hv (by omega),Option.bind_some,M7 n hu (qL hv) h,Fu]
theorem Be(n:Nat){A B:Int}{u v:V}(hu:bd A u)(hv:bd B v)(h:A+B<=9223372036854775807):cA (n+1) 112 [ac u,ac v]=some (ac (u.sub v)):=by
 have h1:inR (u.x-v.x):=by simp only[bd,inR] at *;omega
 have h2:inR (u.y-v.y):=by simp only[bd,inR] at *;omega
 have h3:inR (u.z-v.z):=by simp only[bd,inR] at *;omega
 rw[Nf]
 simp only[DX,nh,nD,mQ,Option.bind_some,dH h1,dH h2,dH h3]
 rfl
def cm(a b:Int):Int:=if a<b then -1 else if a>b then 1 else 0
theorem Mv(n:Nat)(a:Int):cA (n+1) 115 [I a]=some (.bool false):=by
 rw[Nl];simp only[D8,ca];simp
theorem I1(n:Nat)(a b:Int):cA (n+2) 53 [I a,I b]=some (I (cm a b)):=by
 rw[Ru]
 simp only[IP,Mv,Option.bind_some,af,Bool.false_eq_true,if_false,ag,dV,cm,decide_eq_true_eq]
 split
 ·rfl
 ·split<;>rfl
def us:List Int->Int
 | []=>0
 | x::l=>if x=0 then us l else x
theorem Qq(n:Nat)(l:List Int)(hl:l.length<=1000):cA (n+1) 52 [.sl (l.map fun x=>I x)]=some (I (us l)):=by
 rw[Rk]
 unfold I7
 simp only[D.asSl,Option.bind_some]
 refine be (fun i s=>s=[I i]/\us l=us (l.drop i)) l.length 0 (Nat.zero_le _) ⟨rfl,rfl⟩ (fun i hi s hJ=>?_) (fun s hJ=>?_)
 ·obtain⟨rfl,hz⟩:=hJ
  have hx:(l.map fun x=>I x)[i]?=some (I l[i]):=by simp[hi]
  simp only[g0,List.length_map,ag,Option.bind_some,af,decide_eq_true_eq,show((i:Int)<(l.length:Int)) from by omega,if_true,aw hi,hx,ca]
  have hd:l.drop i=l[i]::l.drop (i+1):=List.drop_eq_getElem_cons hi
  rw[hd] at hz
  by_cases h0:l[i]=0
  ·left
   refine⟨[I ((i+1:Nat):Int)],?_,rfl,?_⟩
   ·simp only[h0,decide_true,Bool.not_true,Bool.false_eq_true,if_false,av (aF (i:=i) (by omega)),Option.bind_some];rfl
   ·rw[hz];simp[us,h0]
  ·right
   refine⟨(0,[I l[i]]),?_,?_⟩
   ·simp[h0]
   ·rw[hz];simp[us,h0]
 ·obtain⟨rfl,hz⟩:=hJ
  refine⟨(1,[]),?_,?_⟩
  ·simp only[g0,List.length_map,ag,Option.bind_some,af,decide_eq_true_eq,Int.lt_irrefl,if_false]
  ·rw[hz];simp[us]
end Go.Proofs.YtjjjkojfijpeeaaGreat.Sy
end
section
set_option linter.unusedVariables false
namespace Go.Proofs.YtjjjkojfijpeeaaGreat.Sy
open Go Go.Proofs Go.Proofs.YtjjjkojfijpeeaaGreat.Geo
theorem wj{body:Bd}(h0:∀ a b:Int,b≠0->body [I a,I b]=some (.inl [I b,I (a.tmod b)]))(h1:∀ a:Int,body [I a,I 0]=some (.inr (0,[I a]))) :
  ∀ (m:Nat) (a b:Int),b.natAbs=m->∃ r:Int,bc body [I a,I b]=some (0,[I r])/\r.natAbs=Nat.gcd a.natAbs b.natAbs:=by
 intro m
 induction m using Nat.strongRecOn with
 | _ m ih=>
  intro a b hb
  by_cases hz:b=0
  ·subst hz
   exact⟨a,eG (h1 a),by simp⟩
  ·have hlt:(a.tmod b).natAbs<m:=by
    rw[Int.natAbs_tmod,<-hb]
    exact Nat.mod_lt _ (by omega)
   obtain⟨r,k1,k2⟩:=ih _ hlt b (a.tmod b) rfl
   refine⟨r,?_,?_⟩
   ·rw[show bc body [I a,I b]=bc body [I b,I (a.tmod b)] from dY (h0 a b hz)];exact k1
   ·rw[k2,Int.natAbs_tmod,Nat.gcd_comm a.natAbs,Nat.gcd_rec b.natAbs a.natAbs,Nat.gcd_comm]
theorem pP{a b:Int}{k:Nat}(ha:a.natAbs<=k)(hb:b.natAbs<=k):Nat.gcd a.natAbs b.natAbs<=k:=by
 rcases Nat.eq_zero_or_pos a.natAbs with h|h
 ·rw[h,Nat.gcd_zero_left];exact hb
 ·exact Nat.le_trans (Nat.le_of_dvd h (Nat.gcd_dvd_left _ _)) ha
theorem Iq(n:Nat){a b:Int}(ha:a.natAbs<=9223372036854775807)(hb:b.natAbs<=9223372036854775807):cA (n+1) 152 [I a,I b]=some (I (Nat.gcd a.natAbs b.natAbs:Nat)):=by
 rw[Kg]
 unfold Ed
 obtain⟨r,h1,h2⟩:=wj (body:=fun(v1:List D)=>
  Option.bind (D.truth (D.bool (!(D.beq (gx v1 1) (D.int .i64 0))))) fun b2=>
  if b2 then(Option.bind (D.bin .rem (gx v1 0) (gx v1 1)) fun x3=>
  some (Sum.inl [(gx v1 1),x3])) else(some (Sum.inr (0,[(gx v1 0)]))))
  (fun a b hb=>by simp only[g0,g1,ca,af,Option.bind_some,hb,decide_false,Bool.not_false,if_true,tH hb])
  (fun a=>by simp only[g0,g1,ca,af,Option.bind_some,decide_true,Bool.not_true,Bool.false_eq_true,if_false]) _ a b rfl
 refine yz h1 ?_
 have hr:r.natAbs<=9223372036854775807:=by rw[h2];exact pP ha hb
 have hn:inR (-r):=by simp only[inR];omega
 simp only[Option.bind_some,g0,oJ hn,CP]
 congr 2
 omega
theorem fX{a:Int}{g:Nat}(hg:0<g)(h:(g:Int) ∣ a):a.tdiv g=a/g:=by
 obtain⟨c,rfl⟩:=h
 rw[Int.mul_tdiv_cancel_left _ (by omega),Int.mul_ediv_cancel_left _ (by omega)]
theorem vM(v:V):(bA v:Int) ∣ v.x:=Int.ofNat_dvd_left.2 (Nat.dvd_trans (Nat.gcd_dvd_left _ _) (Nat.gcd_dvd_left _ _))
theorem wD(v:V):(bA v:Int) ∣ v.y:=Int.ofNat_dvd_left.2 (Nat.dvd_trans (Nat.gcd_dvd_left _ _) (Nat.gcd_dvd_right _ _))
theorem wW(v:V):(bA v:Int) ∣ v.z:=Int.ofNat_dvd_left.2 (Nat.gcd_dvd_right _ _)
theorem nY{a:Int}{g:Nat}{k:Int}(h:-k<=a/\a<=k)(hd:(g:Int) ∣ a):-k<=a/g/\a/g<=k:=by
 have h1:(a/(g:Int)).natAbs<=a.natAbs:=by
  rcases Nat.eq_zero_or_pos g with e|e
  ·subst e;simp
  ·obtain⟨c,rfl⟩:=hd
   rw[Int.mul_ediv_cancel_left _ (by omega),Int.natAbs_mul]
   exact Nat.le_mul_of_pos_left _ (by omega)
 omega
theorem kY{k:Int}{v:V}(h:bd k v):bd k (bv v):=⟨nY h.1 (vM v),nY h.2.1 (wD v),nY h.2.2 (wW v)⟩
def cg(q:V×Int):D:=.st [ac q.1,I q.2]
def MV:Int:=262144
theorem lv{P:Nat->V}{i j:Nat}(hi:bd MV (P i))(hj:bd MV (P j)):bd 524288 (wy P i j):=by
 have:=lQ hj hi;simpa [MV,wy] using this
theorem Qu(n:Nat){a b c:V}(ha:bd MV a)(hb:bd MV b)(hc:bd MV c):cA (n+3) 96 [ac a,ac b,ac c]=some (cg (bv (V.cross (b.sub a) (c.sub a)),V.dot (bv (V.cross (b.sub a) (c.sub a))) a)):=by
 have h1:bd 524288 (b.sub a):=by have:=lQ hb ha;simpa [MV] using this
 have h2:bd 524288 (c.sub a):=by have:=lQ hc ha;simpa [MV] using this
 rw[Rr]
 unfold Jf
 simp only[DN n hb ha (by decide),DN n hc ha (by decide),Option.bind_some,GL (n+1) h1 h2 (by decide)]
 have h3:=gq h1 h2
 generalize V.cross (b.sub a) (c.sub a)=m at *
 have e1:m.x.natAbs<=549755813888:=by have:=h3.1;omega
 have e2:m.y.natAbs<=549755813888:=by have:=h3.2.1;omega
 have e3:m.z.natAbs<=549755813888:=by have:=h3.2.2;omega
 have e4:Nat.gcd m.x.natAbs m.y.natAbs<=549755813888:=pP e1 e2
 have e5:Nat.gcd (Nat.gcd m.x.natAbs m.y.natAbs) m.z.natAbs=bA m:=rfl
 simp only[nh,nD,mQ,Option.bind_some,Iq (n+1) (a:=m.x) (b:=m.y) (by omega) (by omega),Iq (n+1) (a:=((Nat.gcd m.x.natAbs m.y.natAbs:Nat):Int)) (b:=m.z) (by rw[Int.natAbs_natCast];omega) (by omega),Int.natAbs_natCast,e5,dV,af,decide_eq_true_eq]
 have h4:=kY h3
 have fin:∀ w:V,w=bv m->cA (n+2) 101 [ac w,ac a]=some (I (V.dot w a)):=fun w hw=>Cg (n+1) (hw ▸ h4) ha (by decide)
 by_cases hg:(bA m:Int)>1
 ·have hg0:(bA m:Int)≠0:=by omega
  have hgp:0<bA m:=by omega
  have r1:inR (m.x.tdiv (bA m)):=by rw[fX hgp (vM m)];have:=nY h3.1 (vM m);simp only[inR];omega
  have r2:inR (m.y.tdiv (bA m)):=by rw[fX hgp (wD m)];have:=nY h3.2.1 (wD m);simp only[inR];omega
  have r3:inR (m.z.tdiv (bA m)):=by rw[fX hgp (wW m)];have:=nY h3.2.2 (wW m);simp only[inR];omega
  have ep:(D.st [I (m.x.tdiv (bA m)),I (m.y.tdiv (bA m)),I (m.z.tdiv (bA m))])=ac (bv m):=by
   rw[fX hgp (vM m),fX hgp (wD m),fX hgp (wW m)];rfl
  simp only[if_pos hg,tq hg0 r1,tq hg0 r2,tq hg0 r3,Option.bind_some,g0,ep,fin _ rfl]
  rfl
 ·have ep:m=bv m:=by
   rcases Nat.lt_or_ge 0 (bA m) with k|k
   ·have e:bA m=1:=by omega
    have:=iE m
    rw[e] at this
    rw[this]
    conv=>rhs;rw[<-this]
    apply V.ext'<;>simp[V.smul]
   ·have e:bA m=0:=by omega
    have hm:m=V.zero:=by
     by_cases hm:m=V.zero
     ·exact hm
     ·have:=jt hm;omega
    rw[hm];rfl
  simp only[if_neg hg,Option.bind_some,g0,fin m ep]
  rw[<-ep]
  rfl
end Go.Proofs.YtjjjkojfijpeeaaGreat.Sy
end
section
set_option linter.unusedVariables false
namespace Go.Proofs.YtjjjkojfijpeeaaGreat.Sy
open Go Go.Proofs Go.Proofs.YtjjjkojfijpeeaaGreat.Geo
theorem KB(a b c:Int):D.sl [I a,I b,I c]=D.sl ([a,b,c].map fun x=>I x):=rfl
theorem Ld(n:Nat)(p q:V×Int):cA (n+3) 100 [cg p,cg q]=some (I (us [cm p.1.x q.1.x,cm p.1.y q.1.y,cm p.1.z q.1.z])):=by
 rw[JA]
 unfold Dx
 simp only[show ∀ p:V×Int,D.get (cg p) [0]=some (ac p.1) from fun _=>rfl,show ∀ p:V×Int,D.get (cg p) [0,0]=some (I p.1.x) from fun _=>rfl,show ∀ p:V×Int,D.get (cg p) [0,1]=some (I p.1.y) from fun _=>rfl,show ∀ p:V×Int,D.get (cg p) [0,2]=some (I p.1.z) from fun _=>rfl,nh,nD,mQ,Option.bind_some,I1,KB,Qq (n+1) [cm p.1.x q.1.x,cm p.1.y q.1.y,cm p.1.z q.1.z] (by simp)]
theorem uV(a:Int):cm a 0=sg a:=rfl
theorem Iv(a:Int):-1<=sg a/\sg a<=1:=by unfold sg;split<;>(try split)<;>omega
theorem nH(a b:Int):inR (sg a*sg b):=by
 have:=gu (A:=1) (B:=1) (Iv a) (Iv b);simp only[inR];omega
theorem Hy(v:V):D.fld (ac v) 0=some (I v.x):=rfl
theorem Hr(v:V):D.fld (ac v) 1=some (I v.y):=rfl
theorem HJ(v:V):D.fld (ac v) 2=some (I v.z):=rfl
theorem Hi:inR (0+1):=⟨by decide,by decide⟩
theorem my:inR (1+1):=⟨by decide,by decide⟩
theorem Bl:inR (2+1):=⟨by decide,by decide⟩
theorem L0(n:Nat){A B:Int}{m u v:V}(hu:bd A u)(hv:bd B v)(h:2*(A*B)<=9223372036854775807):cA (n+3) 104 [ac m,ac u,ac v]=some (I (sO m (V.cross u v))):=by
 rw[JM]
 unfold DK
 simp only[GL (n+1) hu hv h,Option.bind_some]
 generalize V.cross u v=c
 unfold sO
 by_cases hx:m.x=0
 ·refine cF (s':=[I 1]) (by simp only[g0,ag,Option.bind_some,af,FQ,Hy,ca,hx,decide_true,Bool.not_true,Bool.false_eq_true,if_false,av Hi];rfl) ?_
  by_cases hy:m.y=0
  ·refine cF (s':=[I 2]) (by simp only[g0,ag,Option.bind_some,af,FS,Hr,ca,hy,decide_true,Bool.not_true,Bool.false_eq_true,if_false,av my];rfl) ?_
   by_cases hz:m.z=0
   ·refine cF (s':=[I 3]) (by simp only[g0,ag,Option.bind_some,af,F7,HJ,ca,hz,decide_true,Bool.not_true,Bool.false_eq_true,if_false,av Bl];rfl) ?_
    refine fB (r:=(1,[])) (by simp only[g0,ag,Option.bind_some,af];rfl) ?_
    simp[hx,hy,hz]
   ·refine fB (r:=(0,[I (sg c.z*sg m.z)])) ?_ (by simp[hx,hy,hz,Int.mul_comm])
    simp only[g0,ag,Option.bind_some,af,F7,HJ,mQ,ca,hz,decide_false,Bool.not_false,if_true,I1,uV,cQ (nH _ _)];rfl
  ·refine fB (r:=(0,[I (sg c.y*sg m.y)])) ?_ (by simp[hx,hy,Int.mul_comm])
   simp only[g0,ag,Option.bind_some,af,FS,Hr,nD,ca,hy,decide_false,Bool.not_false,if_true,I1,uV,cQ (nH _ _)];rfl
 ·refine fB (r:=(0,[I (sg c.x*sg m.x)])) ?_ (by simp[hx,Int.mul_comm])
  simp only[g0,ag,Option.bind_some,af,FQ,Hy,nh,ca,hx,decide_false,Bool.not_false,if_true,I1,uV,cQ (nH _ _)];rfl
theorem Gr(n:Nat)(a:Int):cA (n+1) 215 [I a]=some (I (sg a)):=by
 rw[Nq]
 simp only[Ee,ag,dV,Option.bind_some,af,decide_eq_true_eq,sg]
 split
 ·rfl
 ·split
  ·rfl
  ·rfl
theorem Lw(n:Nat)(m c:V):cA (n+2) 188 [ac m,ac c]=some (I (sO m c)):=by
 rw[Kb]
 unfold Fx sO
 by_cases hx:m.x=0
 ·refine cF (s':=[I 1]) (by simp only[g0,ag,Option.bind_some,af,FQ,nh,ca,hx,decide_true,Bool.not_true,Bool.false_eq_true,if_false,av Hi];rfl) ?_
  by_cases hy:m.y=0
  ·refine cF (s':=[I 2]) (by simp only[g0,ag,Option.bind_some,af,FS,nD,ca,hy,decide_true,Bool.not_true,Bool.false_eq_true,if_false,av my];rfl) ?_
   by_cases hz:m.z=0
   ·refine cF (s':=[I 3]) (by simp only[g0,ag,Option.bind_some,af,F7,mQ,ca,hz,decide_true,Bool.not_true,Bool.false_eq_true,if_false,av Bl];rfl) ?_
    refine fB (r:=(1,[])) (by simp only[g0,ag,Option.bind_some,af];rfl) ?_
    simp[hx,hy,hz]
   ·refine fB (r:=(0,[I (sg m.z*sg c.z)])) ?_ (by simp[hx,hy,hz])
    simp only[g0,ag,Option.bind_some,af,F7,mQ,ca,hz,decide_false,Bool.not_false,if_true,Gr,cQ (nH _ _)];rfl
  ·refine fB (r:=(0,[I (sg m.y*sg c.y)])) ?_ (by simp[hx,hy])
   simp only[g0,ag,Option.bind_some,af,FS,nD,ca,hy,decide_false,Bool.not_false,if_true,Gr,cQ (nH _ _)];rfl
 ·refine fB (r:=(0,[I (sg m.x*sg c.x)])) ?_ (by simp[hx])
  simp only[g0,ag,Option.bind_some,af,FQ,nh,ca,hx,decide_false,Bool.not_false,if_true,Gr,cQ (nH _ _)];rfl
instance decLex (a b:V):Decidable (aC a b):=by unfold aC;exact inferInstance
theorem Ib(n:Nat)(a b:V):cA (n+1) 105 [ac a,ac b]=some (.bool (decide (aC a b))):=by
 rw[Kx]
 simp only[DM,nh,nD,mQ,Option.bind_some,ca,af,ag,Bool.not_eq_true',decide_eq_false_iff_not]
 by_cases h1:a.x=b.x
 ·by_cases h2:a.y=b.y
  ·simp[h1,h2,aC]
  ·simp only[h1,h2,aC,not_true,if_false,not_false_iff,if_true,Int.lt_irrefl,false_or,true_and,false_and,or_false]
 ·simp only[h1,aC,not_false_iff,if_true,false_and,or_false]
def aP(l:List V):D:=.sl (l.map ac)
def nT(l:List V)(m:V)(d:Int):Bool:=l.all fun x=>decide (V.dot m x<=d)
def jz(l:List V)(m:V)(d:Int):Bool:=l.any fun x=>decide (V.dot m x<d)
theorem HB{l:List V}{i:Nat}(h:i<l.length):(l.map ac)[i]?=some (ac l[i]):=by simp[h]
theorem LU(n:Nat){A:Int}{l:List V}{m:V}{d:Int}(hl:∀ x∈l,bd MV x)(hm:bd A m)(hA:3*(A*262144)<=9223372036854775807)(hlen:l.length<=1000000):cA (n+2) 109 [aP l,ac m,I d]=some (.bool (nT l m d&&jz l m d)):=by
 rw[Mx]
 unfold EH
 refine be (fun i s=>s=[.bool (jz (l.take i) m d),I i]/\nT (l.take i) m d=true) l.length 0 (Nat.zero_le _) ⟨by simp[jz],by simp[nT]⟩ (fun i hi s hJ=>?_) (fun s hJ=>?_)
 ·obtain⟨rfl,hs⟩:=hJ
  have ht:l.take (i+1)=l.take i++[l[i]]:=List.take_succ_eq_append_getElem hi
  have hc:=An n hm (hl l[i] (List.getElem_mem hi)) hA
  simp only[aP,D.asSl,g0,g1,List.length_map,ag,dV,Option.bind_some,af,decide_eq_true_eq,show((i:Int)<(l.length:Int)) from by omega,if_true,aw hi,HB hi,hc]
  by_cases hgt:V.dot m l[i]>d
  ·right
   refine⟨(0,[.bool false]),by simp only[hgt,if_true],?_⟩
   have:nT l m d=false:=by
    rw[Bool.eq_false_iff];intro h
    have:=List.all_eq_true.1 h l[i] (List.getElem_mem hi)
    simp at this;omega
   simp[g0,this]
  ·left
   refine⟨[.bool (jz (l.take (i+1)) m d),I ((i+1:Nat):Int)],?_,rfl,?_⟩
   ·simp only[hgt,if_false,av (aF (i:=i) (by omega)),Option.bind_some]
    have e:jz (l.take (i+1)) m d=(jz (l.take i) m d||decide (V.dot m l[i]<d)):=by rw[ht];simp only[jz,List.any_append,List.any_cons,List.any_nil,Bool.or_false]
    rw[e]
    cases jz (l.take i) m d<;>simp
   ·rw[ht];simp only[nT,List.all_append,Bool.and_eq_true] at hs ⊢
    exact⟨hs,by simp;omega⟩
 ·obtain⟨rfl,hs⟩:=hJ
  refine⟨(1,[.bool (jz (l.take l.length) m d)]),?_,?_⟩
  ·simp only[aP,D.asSl,g0,g1,List.length_map,ag,Option.bind_some,af,decide_eq_true_eq,Int.lt_irrefl,if_false]
  ·rw[List.take_length] at *
   simp[g0,hs]
theorem QY(n:Nat){A:Int}{l:List V}{m:V}{d:Int}(hl:∀ x∈l,bd MV x)(hm:bd A m)(hA:3*(A*262144)<=9223372036854775807)(hlen:l.length<=1000000):cA (n+2) 98 [aP l,cg (m,d)]=some (.bool (nT l m d&&jz l m d)):=by
 rw[Oh]
 unfold IZ
 simp only[aP,D.asSl,Option.bind_some]
 refine be (fun i s=>s=[.bool (!jz (l.take i) m d),I i]/\nT (l.take i) m d=true) l.length 0 (Nat.zero_le _) ⟨by simp[jz],by simp[nT]⟩ (fun i hi s hJ=>?_) (fun s hJ=>?_)
 ·obtain⟨rfl,hs⟩:=hJ
  have ht:l.take (i+1)=l.take i++[l[i]]:=List.take_succ_eq_append_getElem hi
  have hc:=Cg n hm (hl l[i] (List.getElem_mem hi)) hA
  simp only[g0,g1,List.length_map,ag,dV,Option.bind_some,af,decide_eq_true_eq,show((i:Int)<(l.length:Int)) from by omega,if_true,aw hi,HB hi,show D.get (cg (m,d)) [0]=some (ac m) from rfl,show D.get (cg (m,d)) [1]=some (I d) from rfl,hc,ca]
  by_cases hgt:V.dot m l[i]>d
  ·right
   refine⟨(0,[.bool false]),by simp only[hgt,if_true],?_⟩
   have:nT l m d=false:=by
    rw[Bool.eq_false_iff];intro h
    have:=List.all_eq_true.1 h l[i] (List.getElem_mem hi)
    simp at this;omega
   simp[g0,this]
  ·left
   refine⟨[.bool (!jz (l.take (i+1)) m d),I ((i+1:Nat):Int)],?_,rfl,?_⟩
   ·simp only[hgt,if_false,av (aF (i:=i) (by omega)),Option.bind_some]
    have e:(!jz (l.take (i+1)) m d)=(!jz (l.take i) m d&&decide (V.dot m l[i]=d)):=by
     rw[ht];simp only[jz,List.any_append,List.any_cons,List.any_nil,Bool.or_false,Bool.not_or]
     congr 1
     by_cases h2:V.dot m l[i]=d
     ·simp[h2]
     ·have:V.dot m l[i]<d:=by omega
      simp[h2,this]
    rw[e]
    cases jz (l.take i) m d<;>simp
   ·rw[ht];simp only[nT,List.all_append,Bool.and_eq_true] at hs ⊢
    exact⟨hs,by simp;omega⟩
 ·obtain⟨rfl,hs⟩:=hJ
  refine⟨(1,[.bool (!jz (l.take l.length) m d)]),?_,?_⟩
  ·simp only[g0,g1,List.length_map,ag,Option.bind_some,af,decide_eq_true_eq,Int.lt_irrefl,if_false]
  ·rw[List.take_length] at *
   simp[g0,hs,cU]
end Go.Proofs.YtjjjkojfijpeeaaGreat.Sy
end
