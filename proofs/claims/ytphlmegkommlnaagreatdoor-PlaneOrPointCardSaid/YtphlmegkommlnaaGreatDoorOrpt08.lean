/- Part 8 of the proof that PlaneOrPoint answers true at every input -/
import Derived.Test.YtphlmegkommlnaaGreatDoorOrpt06
import Derived.Test.YtphlmegkommlnaaGreatDoorOrpt07
import Derived.Shelf.SlSortCmp.NoneTotal
import Derived.Ground.SlsfProg
import Derived.KernelRfl
import Derived.Test.YtphlmegkommlnaaGreatDoorProg
import Derived.Test.YtphlmegkommlnaaGreatDoorChecked
set_option linter.unusedVariables false
set_option linter.unusedSimpArgs false
set_option linter.unnecessarySimpa false
set_option linter.defProp false
set_option maxRecDepth 20000
namespace Go.Proofs.YtphlmegkommlnaaGreatDoor
noncomputable section
namespace Sy
open Go Go.Proofs Go.Sort Go.Lib
section
variable{P:Program}{E:Env}
def AT(E:Env)(nt m0 o g:Nat)(e vt:Ty)(s:St):Option D:=
 match s.tm m0 with
 | .map d b id=>if d.beq e&&b.beq vt then(match s.ob id with
   | some (.mp a c l)=>if a.beq e&&c.beq vt&&decide (l.length<=1073741824) then(match eH s e o with
     | some []=>if s.nt=nt then(kJ E g (l.map xM)).bind λl'=>some (.sl l') else none
     | _=>none) else none
   | _=>none) else none
 | _=>none
def Es(hE:EnvOk P E){e vt:Ty}(he:cn e=true)(aj:cn vt=true)(W:av e=true)(Z:av vt=true){fn:Func}{n:Ty}{y:D}{w:World}{S:Nat->Nat->Prop}(hr:j4 fn.results.size n=true)
  {u z A b b2:Nat} {t72 m0 it T nx ok en o nt:Nat} {B C F:Array Oper} {rest:List Oper} {c26:Code}
  {y1 y2 y3 y4 y5:TypeId} {p1 p2 p3 p4 p5:String} {f1 f2 f3 f4 f5:Array Edge} {TK TV:TypeId}
  (K:B.toList=[⟨some t72,.move (.tmp m0),y1,p1,f1,none⟩,⟨some it,.range T (.tmp t72),y2,p2,f2,none⟩])
  (M:C.toList=[⟨some nx,.next (.tmp it) false,y3,p3,f3,none⟩,⟨some ok,.extract (.tmp nx) 0,y4,p4,f4,none⟩])
  (N:F.toList=⟨some en,.entry (.tmp it),y5,p5,f5,none⟩::rest) (j:(rest.all λx=>x.guard.isNone)=true) (hT:P.underlying T=some (.map TK TV))
  (hd:(decide (o≠t72)&&decide (o≠it)&&decide (nx≠o)&&decide (ok≠o)&&decide (en≠o)&&decide (it≠t72)&&decide (it≠nx)&&decide (it≠ok)&&decide (it≠en)&&decide (nx≠ok)&&decide (t72<nt)&&decide (it<nt)&&decide (nx<nt)&&decide (ok<nt)&&decide (en<nt))=true)
  (c:∀ X L k v,PL e L X->L.length<1073741824->wt e k->ev E (.region 0 rest.toArray false) .leaf D ((σL nt o it X).put (some en) (.d (.tup [e,vt]) (.tup [k,v]))) (λx s'=>match x with
   | .normal=>ev E c26 .leaf D s' (λx ak=>match x with|.normal=>(eH ak e o).bind λl=>some (.sl l)|_=>none)
   | _=>none)=some (.sl (L++[k])))
  {f0 g:Nat} (hf:SortOk P f0 e) (r:E.sig g=some ([e,e],.int .i64)/\E.free g=0) {id t d2:Nat} {ops:Array Oper} {d:Code} {ann:Ann} {al an:TypeId} {q1 q2:String} {G H:Array Edge} {args:Array Operand} {I:Array TypeId}
  (q:ops.toList=[⟨some t,.move (.tmp o),al,q1,G,none⟩,⟨some d2,.call ⟨.value (.func f0),args,I⟩,an,q2,H,none⟩]) (f:args=#[.tmp t,.func g]) (O:(decide (o≠t)&&decide (o≠d2)&&decide (t<nt))=true)
  (R:∀ l',(ev E d ann D (OJ nt o e l') λx s=>match x with|.exit _=>none|_=>results E s n fn.results.toList)=some (.sl l'))
  {S':Nat->Nat->Prop} {γ':Nat->Option Nat} {β':Nat->Option (Nat×Nat)} {s':St} {a':Act} {w':World} (h:Rp (wZ w S) S' γ' β' s' a' w') (Q:a'.defers=[]) (hK:AT E nt m0 o g e vt s'=some y) :
  (Code.seq (Code.seq (.region u B false) (.block b (.loop (.seq (.region z C false) (.seq (.cond (.tmp ok) .skip (.exit b)) (.block b2 (.seq (.region A F false) c26))))))) (Code.seq (.region id ops false) d)).wpIn (FW none) 0 P (Pb P fn w S n y) a' w':=by
 unfold AT at hK;split at hK<;>first|(cases hK;done)|skip
 rename_i kt aB ax ai;split at hK<;>first|(cases hK;done)|skip
 rename_i i;split at hK<;>first|(cases hK;done)|skip
 rename_i m aI l ad;split at hK<;>first|(cases hK;done)|skip
 rename_i a;split at hK<;>first|(cases hK;done)|skip
 rename_i V;split at hK<;>first|(cases hK;done)|skip
 rename_i Y;obtain⟨l',h3,h4⟩:=ab hK;cases h4;simp only[zaa,zfa] at i a hd;have e1:=af7 _ _ i.1;have e2:=af7 _ _ i.2;have e3:=af7 _ _ a.1.1;have e4:=af7 _ _ a.1.2;subst e1;subst e2;subst e3;subst e4;obtain⟨⟨⟨⟨⟨⟨⟨⟨⟨⟨⟨⟨⟨⟨d1,J⟩,d3⟩,d4⟩,d5⟩,d6⟩,d7⟩,d8⟩,d9⟩,d10⟩,n1⟩,n2⟩,n3⟩,n4⟩,n5⟩:=hd;subst Y;refine wpIn_seq (Om hE he aj W Z K M N (λx hx=>by simpa using zDa.1 j x hx) hT h Q d1 J d3 d4 d5 d6 d7 d8 d9 d10 n1 n2 n3 n4 n5 ai ad a.2 V c λL S2 γ2 β2 X a2 w2 hX hp hR p=>?_)
 have hlen:L.length<=1073741824:=by rw[hp.length_eq];simpa using a.2
 have U:eH (σL s'.nt o it X) m o=some L:=by
  unfold eH σL;simp only[if_true];rcases hX with⟨rfl,rfl⟩|rfl
  ·rfl
  ·simp only;have:(m.beq m&&!(([]:List Nat).contains 5)&&decide (L.length<=1073741824))=true:=by
    simp only[zaa,zfa];exact⟨⟨a.1.1,rfl⟩,hlen⟩
   rw[zja this]
 refine zr hE hf r hr q f O R hR p ?_;unfold Gf;rw[U,zba,zja (show(σL s'.nt o it X).nt=s'.nt from rfl),Ez h3 hp];rfl
end
end Sy
end
noncomputable section
namespace Go.Proofs
open Go.Shelf
def af5:Go.Shelf.Ren:=⟨λ|6=>177|15=>213|14=>212|28=>219|29=>231|20=>223|21=>224|22=>225|23=>226|24=>227|25=>228|26=>229|27=>230|46=>242|47=>243|48=>244|49=>245|50=>246|57=>251|n=>n,λ|22=>137|24=>140|25=>187|3=>3|39=>130|0=>0|53=>33|55=>128|4=>4|46=>221|45=>220|50=>154|5=>5|9=>9|66=>232|70=>236|76=>241|77=>242|n=>n,λ|n=>n⟩
def af4:Go.Proofs.SlLaysF0.n6 Tryz.prog af5:={
 mixed:=u3
 f6:=⟨Tryz.f177.name,j2,Tryz.func177.trans (zna some u3)⟩
 f14:=⟨Tryz.f212.name,j2,Tryz.func212.trans (zna some u3)⟩
 f15:=Tryz.func213.trans (zna some u3)
 f20:=⟨Tryz.f223.name,j2,Tryz.func223.trans (zna some u3)⟩
 f21:=⟨Tryz.f224.name,j2,Tryz.func224.trans (zna some u3)⟩
 f22:=⟨Tryz.f225.name,j2,Tryz.func225.trans (zna some u3)⟩
 f23:=⟨Tryz.f226.name,j2,Tryz.func226.trans (zna some u3)⟩
 f24:=⟨Tryz.f227.name,j2,Tryz.func227.trans (zna some u3)⟩
 f25:=⟨Tryz.f228.name,j2,Tryz.func228.trans (zna some u3)⟩
 f26:=⟨Tryz.f229.name,j2,Tryz.func229.trans (zna some u3)⟩
 f27:=⟨Tryz.f230.name,j2,Tryz.func230.trans (zna some u3)⟩
 f28:=Tryz.func219.trans (zna some u3)
 f29:=Tryz.func231.trans (zna some u3)
 f46:=⟨Tryz.f242.name,j2,Tryz.func242.trans (zna some u3)⟩
 f47:=Tryz.func243.trans (zna some u3)
 f48:=Tryz.func244.trans (zna some u3)
 f49:=⟨Tryz.f245.name,j2,Tryz.func245.trans (zna some u3)⟩
 f50:=⟨Tryz.f246.name,j2,Tryz.func246.trans (zna some u3)⟩
 f57:=⟨Tryz.f251.name,j2,Tryz.func251.trans (zna some u3)⟩
 t0:=Tryz.underlying0
 a0:=Tryz.isAgg0
 z0:=Tryz.sizeOf0
 v0:=Tryz.zeroValue0
 t3:=Tryz.underlying3
 a3:=Tryz.isAgg3
 z3:=Tryz.sizeOf3
 v3:=Tryz.zeroValue3
 t4:=Tryz.underlying4
 a4:=Tryz.isAgg4
 z4:=Tryz.sizeOf4
 v4:=Tryz.zeroValue4
 t5:=Tryz.underlying5
 a5:=Tryz.isAgg5
 z5:=Tryz.sizeOf5
 v5:=Tryz.zeroValue5
 t9:=Tryz.underlying9
 a9:=Tryz.isAgg9
 z9:=Tryz.sizeOf9
 v9:=Tryz.zeroValue9
 t22:=Tryz.underlying137
 a22:=Tryz.isAgg137
 z22:=Tryz.sizeOf137
 v22:=Tryz.zeroValue137
 t25:=Tryz.underlying187
 a25:=Tryz.isAgg187
 z25:=Tryz.sizeOf187
 v25:=Tryz.zeroValue187
 t39:=Tryz.underlying130
 a39:=Tryz.isAgg130
 z39:=Tryz.sizeOf130
 v39:=Tryz.zeroValue130
 t45:=Tryz.underlying220
 a45:=Tryz.isAgg220
 z45:=Tryz.sizeOf220
 v45:=Tryz.zeroValue220
 t46:=Tryz.underlying221
 a46:=Tryz.isAgg221
 z46:=Tryz.sizeOf221
 v46:=Tryz.zeroValue221
 t50:=Tryz.underlying154
 a50:=Tryz.isAgg154
 z50:=Tryz.sizeOf154
 v50:=Tryz.zeroValue154
 t53:=Tryz.underlying33
 a53:=Tryz.isAgg33
 z53:=Tryz.sizeOf33
 v53:=Tryz.zeroValue33
 t55:=Tryz.underlying128
 a55:=Tryz.isAgg128
 z55:=Tryz.sizeOf128
 v55:=Tryz.zeroValue128
 t66:=Tryz.underlying232
 a66:=Tryz.isAgg232
 z66:=Tryz.sizeOf232
 v66:=Tryz.zeroValue232
 t70:=Tryz.underlying236
 a70:=Tryz.isAgg236
 z70:=Tryz.sizeOf236
 v70:=Tryz.zeroValue236
 t76:=Tryz.underlying241
 a76:=Tryz.isAgg241
 z76:=Tryz.sizeOf241
 v76:=Tryz.zeroValue241
 t77:=Tryz.underlying242
 a77:=Tryz.isAgg242
 z77:=Tryz.sizeOf242
 v77:=Tryz.zeroValue242 }
def af3:Go.Shelf.Ren:=⟨λ|6=>190|15=>213|14=>218|28=>219|29=>231|20=>233|21=>234|22=>235|23=>236|24=>237|25=>238|26=>239|27=>240|46=>248|47=>243|48=>244|49=>249|50=>250|57=>252|n=>n,λ|22=>132|24=>134|25=>197|3=>3|39=>130|0=>0|53=>33|55=>128|4=>4|46=>221|45=>220|50=>154|5=>5|9=>9|66=>232|70=>236|76=>241|77=>242|n=>n,λ|n=>n⟩
def af0:Go.Proofs.SlLaysF0.n6 Tryz.prog af3:={
 mixed:=u3
 f6:=⟨Tryz.f190.name,j2,Tryz.func190.trans (zna some u3)⟩
 f14:=⟨Tryz.f218.name,j2,Tryz.func218.trans (zna some u3)⟩
 f15:=Tryz.func213.trans (zna some u3)
 f20:=⟨Tryz.f233.name,j2,Tryz.func233.trans (zna some u3)⟩
 f21:=⟨Tryz.f234.name,j2,Tryz.func234.trans (zna some u3)⟩
 f22:=⟨Tryz.f235.name,j2,Tryz.func235.trans (zna some u3)⟩
 f23:=⟨Tryz.f236.name,j2,Tryz.func236.trans (zna some u3)⟩
 f24:=⟨Tryz.f237.name,j2,Tryz.func237.trans (zna some u3)⟩
 f25:=⟨Tryz.f238.name,j2,Tryz.func238.trans (zna some u3)⟩
 f26:=⟨Tryz.f239.name,j2,Tryz.func239.trans (zna some u3)⟩
 f27:=⟨Tryz.f240.name,j2,Tryz.func240.trans (zna some u3)⟩
 f28:=Tryz.func219.trans (zna some u3)
 f29:=Tryz.func231.trans (zna some u3)
 f46:=⟨Tryz.f248.name,j2,Tryz.func248.trans (zna some u3)⟩
 f47:=Tryz.func243.trans (zna some u3)
 f48:=Tryz.func244.trans (zna some u3)
 f49:=⟨Tryz.f249.name,j2,Tryz.func249.trans (zna some u3)⟩
 f50:=⟨Tryz.f250.name,j2,Tryz.func250.trans (zna some u3)⟩
 f57:=⟨Tryz.f252.name,j2,Tryz.func252.trans (zna some u3)⟩
 t0:=Tryz.underlying0
 a0:=Tryz.isAgg0
 z0:=Tryz.sizeOf0
 v0:=Tryz.zeroValue0
 t3:=Tryz.underlying3
 a3:=Tryz.isAgg3
 z3:=Tryz.sizeOf3
 v3:=Tryz.zeroValue3
 t4:=Tryz.underlying4
 a4:=Tryz.isAgg4
 z4:=Tryz.sizeOf4
 v4:=Tryz.zeroValue4
 t5:=Tryz.underlying5
 a5:=Tryz.isAgg5
 z5:=Tryz.sizeOf5
 v5:=Tryz.zeroValue5
 t9:=Tryz.underlying9
 a9:=Tryz.isAgg9
 z9:=Tryz.sizeOf9
 v9:=Tryz.zeroValue9
 t22:=Tryz.underlying132
 a22:=Tryz.isAgg132
 z22:=Tryz.sizeOf132
 v22:=Tryz.zeroValue132
 t25:=Tryz.underlying197
 a25:=Tryz.isAgg197
 z25:=Tryz.sizeOf197
 v25:=Tryz.zeroValue197
 t39:=Tryz.underlying130
 a39:=Tryz.isAgg130
 z39:=Tryz.sizeOf130
 v39:=Tryz.zeroValue130
 t45:=Tryz.underlying220
 a45:=Tryz.isAgg220
 z45:=Tryz.sizeOf220
 v45:=Tryz.zeroValue220
 t46:=Tryz.underlying221
 a46:=Tryz.isAgg221
 z46:=Tryz.sizeOf221
 v46:=Tryz.zeroValue221
 t50:=Tryz.underlying154
 a50:=Tryz.isAgg154
 z50:=Tryz.sizeOf154
 v50:=Tryz.zeroValue154
 t53:=Tryz.underlying33
 a53:=Tryz.isAgg33
 z53:=Tryz.sizeOf33
 v53:=Tryz.zeroValue33
 t55:=Tryz.underlying128
 a55:=Tryz.isAgg128
 z55:=Tryz.sizeOf128
 v55:=Tryz.zeroValue128
 t66:=Tryz.underlying232
 a66:=Tryz.isAgg232
 z66:=Tryz.sizeOf232
 v66:=Tryz.zeroValue232
 t70:=Tryz.underlying236
 a70:=Tryz.isAgg236
 z70:=Tryz.sizeOf236
 v70:=Tryz.zeroValue236
 t76:=Tryz.underlying241
 a76:=Tryz.isAgg241
 z76:=Tryz.sizeOf241
 v76:=Tryz.zeroValue241
 t77:=Tryz.underlying242
 a77:=Tryz.isAgg242
 z77:=Tryz.sizeOf242
 v77:=Tryz.zeroValue242 }
end Go.Proofs
end
noncomputable section
namespace Sy
open Go Go.Proofs Go.Shelf Go.RowKit Go.Lib Go.Sort
def TC {P : Program} {f : Nat} (h : (match P.funcs[f]? with | some fn => !(fn.name == "runtime.NumGoroutine") && fn.body.isSome | none => false) = true) : ∃ fn, P.funcs[f]? = some fn /\ (fn.name == "runtime.NumGoroutine") = false /\ fn.body.isSome = true := by
 split at h
 ·rename_i fn hf;simp only[zaa,zWa] at h;exact⟨fn,hf,h.1,h.2⟩
 ·cases h
def KC:SortOk Tryz.prog 190 K8:=
 ⟨rfl,rfl,j2,rfl,TC u3,λp cap fv w=>AnyF.slices_SortFunc_none af0 p cap fv w,
  λ_ _ enc hk h1 e hO g b off cap d w f a hH hblk c=>AnyQ.slices_SortFunc af0 2 Tryz.isAgg134 Tryz.sizeOf134 enc hk h1 e hO g #[] b off cap d w f a hH hblk c⟩
def KD:SortOk Tryz.prog 177 eZ:=
 ⟨rfl,rfl,j2,rfl,TC u3,λp cap fv w=>AnyF.slices_SortFunc_none af4 p cap fv w,
  λ_ _ enc hk h1 e hO g b off cap d w f a hH hblk c=>AnyQ.slices_SortFunc af4 4 Tryz.isAgg140 Tryz.sizeOf140 enc hk h1 e hO g #[] b off cap d w f a hH hblk c⟩
end Sy
end
noncomputable section
set_option maxHeartbeats 0
namespace Sy
open Go Go.Proofs
def PH:Code->Code|.block _ c=>c|c=>c
def inLoop:Code->Code|.loop c=>c|c=>c
def sq1:Code->Code|.seq a _=>a|c=>c
def Vg:Code->Code|.seq _ b=>b|c=>c
def TP:Code->List Oper|.region _ o _=>o.toList|_=>[]
def Ut:AnnT:=(.seq .leaf (.seq .leaf (.seq (.two .leaf (.two (.loop ⟨[(3,.ow K8),(12,.dv (Ty.int .i64))],[],[10,11]⟩ [(.exit 0,⟨[(3,.ow K8)],[],[]⟩)] (.two .leaf (.two .leaf (.two (.two (.two .leaf (.two .leaf (.two (.loop ⟨[(3,.ow K8),(5,.same (.ptr K6 24581 [])),(19,.dv (Ty.int .i64))],[(24581,.keep K6 5)],[10,11,12,17,18]⟩ [(.exit 2,⟨[(3,.ow K8)],[],[10,11,12]⟩)] (.two .leaf (.two .leaf (.cut [(.normal,⟨[(3,.ow K8),(5,.same (.ptr K6 24581 []))],[(24581,.keep K6 5)],[10,11,12,17,18,19]⟩)] [10,11,12,17,18,19] [24581] (.two (.two .leaf (.two (.reg [] 10) .leaf)) .leaf) .leaf)))) .leaf))) .leaf) .leaf)))) .leaf)) .hand)))
def RM(lp:Lp)(call:Nat->List D->Option D)(a0:D):Option D:=
 (call 18 [a0]).bind λr1=>
 (D.asSl r1).bind λi=>
 Option.bind (lp (β:=Nat×List D) (λ(v3:List D)=>
 (afn .lss (gx v3 1) (D.int .i64 (List.length i))).bind λz=>
 (D.truth z).bind λx=>
 if x then((D.asSl r1).bind λv=>
 (D.idx (gx v3 1) (List.length v)).bind λi7=>
 (v[i7]?).bind λu=>
 (D.get u [2]).bind λw=>
 (D.asSl w).bind λh=>
 Option.bind (lp (β:=Nat×List D) (λ(v11:List D)=>
 (afn .lss (gx v11 1) (D.int .i64 (List.length h))).bind λm=>
 (D.truth m).bind λf=>
 if f then(Option.bind ((D.asSl w).bind λc=>
 (D.idx (gx v11 1) (List.length c)).bind λi15=>
 (c[i15]?).bind λa=>
 (D.get u [2]).bind λn=>
 (afn .add (gx v11 1) (D.int .i64 1)).bind λo=>
 (D.get u [2]).bind λp=>
 (D.asSl p).bind λj=>
 (afn .rem o (D.int .i64 (List.length j))).bind λq=>
 (D.asSl n).bind λd=>
 (D.idx q (List.length d)).bind λPG=>
 (d[PG]?).bind λb=>
 (afn .lss a b).bind λr=>
 (D.truth r).bind λg=>
 if g then(if List.length (D.els (gx v11 0))+List.length [(D.st [a,b])]<=1073741824 then(some (0,[(D.sl ((D.els (gx v11 0))++[(D.st [a,b])]))])) else none) else(some (0,[(D.sl (D.els (gx v11 0)))]))) λ(k:Nat×List D)=>
 (afn .add (gx v11 1) (D.int .i64 1)).bind λs=>
 some (Sum.inl [(D.sl (D.els (gx k.2 0))),s])) else(some (Sum.inr (0,[(D.sl (D.els (gx v11 0)))])))) [(D.sl (D.els (gx v3 0))),(D.int .i64 0)]) λl=>
 (afn .add (gx v3 1) (D.int .i64 1)).bind λt=>
 some (Sum.inl [(D.sl (D.els (gx l.2 0))),t])) else(some (Sum.inr (0,[(D.sl (D.els (gx v3 0)))])))) [(D.sl []),(D.int .i64 0)]) λe=>
 Option.bind (if decide (List.length (D.els (gx e.2 0))<=1073741824) then some (D.els (gx e.2 0)) else none) λy=>
 (kJ (dG lp call (kl lp call)) (cO 51) y).bind λi=>some (D.sl i)
def E21(lp:Lp)(call:Nat->List D->Option D)(a0:D):N5 (dG lp call (kl lp call)) (Gf (dG lp call (kl lp call)) 48 3 (cO 51) K8) Tryz.f139 Ut [K3] [a0]=RM lp call a0:=u3
def R9:AnnT:=(.seq .leaf (.seq .leaf (.seq (.two .leaf (.two (.loop ⟨[(3,.same (.map eZ Ty.bool 8204)),(15,.dv (Ty.int .i64))],[(8204,.mp eZ Ty.bool)],[0,14]⟩ [(.exit 0,⟨[(3,.same (.map eZ Ty.bool 8204))],[(8204,.mp eZ Ty.bool)],[]⟩)] (.two .leaf (.two .leaf (.two (.two (.two .leaf (.two .leaf (.two (.loop ⟨[(3,.same (.map eZ Ty.bool 8204)),(19,.dv (Ty.int .i64))],[(8204,.mp eZ Ty.bool)],[0,4,14,15,18]⟩ [(.exit 2,⟨[(3,.same (.map eZ Ty.bool 8204))],[(8204,.mp eZ Ty.bool)],[0,14,15]⟩)] (.two .leaf (.two .leaf (.two (.two (.two .leaf (.two .leaf (.two (.loop ⟨[(3,.same (.map eZ Ty.bool 8204)),(23,.dv (Ty.int .i64))],[(8204,.mp eZ Ty.bool)],[0,4,5,14,15,18,19,22]⟩ [(.exit 4,⟨[(3,.same (.map eZ Ty.bool 8204))],[(8204,.mp eZ Ty.bool)],[0,4,14,15,18,19]⟩)] (.two .leaf (.two .leaf (.cut [(.normal,⟨[(3,.same (.map eZ Ty.bool 8204))],[(8204,.mp eZ Ty.bool)],[0,4,5,14,15,18,19,22,23]⟩)] [0,4,5,14,15,18,19,22,23] [] (.two (.two .leaf (.two (.reg [] 14) (.two .leaf (.two .leaf (.two (.loop ⟨[(3,.same (.map eZ Ty.bool 8204)),(51,.ow eZ),(53,.dv (Ty.int .i64))],[(8204,.mp eZ Ty.bool)],[0,4,5,14,15,18,19,22,23,52]⟩ [(.exit 6,⟨[(3,.same (.map eZ Ty.bool 8204))],[(8204,.mp eZ Ty.bool)],[0,4,5,14,15,18,19,22,23]⟩)] (.two .leaf (.two .leaf (.cut [(.normal,⟨[(3,.same (.map eZ Ty.bool 8204)),(51,.ow eZ)],[(8204,.mp eZ Ty.bool)],[0,4,5,14,15,18,19,22,23,52,53]⟩)] [0,4,5,14,15,18,19,22,23,52,53] [] .leaf .leaf)))) .leaf))))) .leaf) .leaf)))) .leaf))) .leaf) .leaf)))) .leaf))) .leaf) .leaf)))) .leaf)) (.seq .leaf .hand))))
def RP(lp:Lp)(call:Nat->List D->Option D)(a0:D):Option D:=
 (D.asSl a0).bind λL=>
 Option.bind (lp (β:=Nat×List D) (λ(v2:List D)=>
 (afn .lss (gx v2 0) (D.int .i64 (List.length L))).bind λN=>
 (D.truth N).bind λJ=>
 if J then(Option.bind (lp (β:=Nat×List D) (λ(v5:List D)=>
 (afn .lss (gx v5 0) (gx v2 0)).bind λO=>
 (D.truth O).bind λK=>
 if K then(Option.bind (lp (β:=Nat×List D) (λ(d:List D)=>
 (afn .lss (gx d 0) (gx v5 0)).bind λP=>
 (D.truth P).bind λj=>
 if j then(Option.bind ((D.asSl a0).bind λe=>
 (D.idx (gx v2 0) (List.length e)).bind λuY=>
 (e[uY]?).bind λv=>
 (D.asSl a0).bind λf=>
 (D.idx (gx v5 0) (List.length f)).bind λi15=>
 (f[i15]?).bind λw=>
 (D.asSl a0).bind λg=>
 (D.idx (gx d 0) (List.length g)).bind λi18=>
 (g[i18]?).bind λx=>
 (call 96 [v,w,x]).bind λb=>
 (D.get b [0]).bind λy=>
 (D.truth (D.bool (D.beq y (D.st [(D.int .i64 0),(D.int .i64 0),(D.int .i64 0)])))).bind λk=>
 if k then(some (0,[(D.sl (D.els (gx d 1)))])) else((D.get b [0]).bind λz=>
 (call 97 [z]).bind λp=>
 (D.get b [1]).bind λA=>
 (afB .neg A).bind λB=>
 Option.bind (lp (β:=Nat×List D) (λ(a:List D)=>
 (afn .lss (gx a 1) (D.int .i64 2)).bind λC=>
 (D.truth C).bind λl=>
 if l then(Option.bind ((D.idx (gx a 1) (List.length (D.els (gx a 0)))).bind λi30=>
 ((D.els (gx a 0))[i30]?).bind λc=>
 (afB .not (Option.getD (afu (D.els (gx a 2)) c) (D.bool false))).bind λE=>
 (D.truth E).bind λm=>
 Option.bind (if m then((call 98 [a0,c]).bind λq=>
 D.truth q) else(some false)) λn=>
 (D.truth (D.bool n)).bind λo=>
 if o then(some (0,[(D.sl (D.els (gx a 0))),(D.sl (afv (D.els (gx a 2)) c (D.bool true)))])) else(some (0,[(D.sl (D.els (gx a 0))),(D.sl (D.els (gx a 2)))]))) λ(h:Nat×List D)=>
 (afn .add (gx a 1) (D.int .i64 1)).bind λF=>
 some (Sum.inl [(D.sl (D.els (gx h.2 0))),F,(D.sl (D.els (gx h.2 1)))])) else(some (Sum.inr (0,[(D.sl (D.els (gx a 2)))])))) [(D.sl [b,(D.st [p,B])]),(D.int .i64 0),(D.sl (D.els (gx d 1)))]) λr=>
 some (0,[(D.sl (D.els (gx r.2 0)))]))) λ(s:Nat×List D)=>
 (afn .add (gx d 0) (D.int .i64 1)).bind λG=>
 some (Sum.inl [G,(D.sl (D.els (gx s.2 0)))])) else(some (Sum.inr (0,[(D.sl (D.els (gx d 1)))])))) [(D.int .i64 0),(D.sl (D.els (gx v5 1)))]) λt=>
 (afn .add (gx v5 0) (D.int .i64 1)).bind λH=>
 some (Sum.inl [H,(D.sl (D.els (gx t.2 0)))])) else(some (Sum.inr (0,[(D.sl (D.els (gx v5 1)))])))) [(D.int .i64 0),(D.sl (D.els (gx v2 1)))]) λu=>
 (afn .add (gx v2 0) (D.int .i64 1)).bind λI=>
 some (Sum.inl [I,(D.sl (D.els (gx u.2 0)))])) else(some (Sum.inr (0,[(D.sl (D.els (gx v2 1)))])))) [(D.int .i64 0),(D.sl [])]) λi=>
 if decide (List.length (D.els (gx i.2 0))<=1073741824) then((kJ (dG lp call (kl lp call)) (cO 100) (List.map xM (D.els (gx i.2 0)))).bind λM=>some (D.sl M)) else none
def E45(lp:Lp)(call:Nat->List D->Option D)(a0:D):N5 (dG lp call (kl lp call)) (AT (dG lp call (kl lp call)) 85 3 10 (cO 100) eZ Ty.bool) Tryz.f128 R9 [K2] [a0]=RP lp call a0:=u3
def Qc(f:Func):Code:=match f.body with|some c=>c|none=>.skip
def CZ:Code:=PH (Vg (Vg (inLoop (PH (Vg (sq1 (ut (Qc Tryz.f128) R9)))))))
def Eo:List Oper:=(TP (sq1 CZ)).tail
def ZV:Code:=Vg CZ
def To{lp:Lp}{call:Nat->List D->Option D}(a:EnvOk Tryz.prog (dG lp call (kl lp call))){a0 y:D}(h:RM lp call a0=some y):P4 Tryz.prog [K3] K9 (cO 21) [a0] y:=by
 refine vH a (f:=cO 21) (fn:=Tryz.f139) (ann:=Ut) (K:=Gf (dG lp call (kl lp call)) 48 3 (cO 51) K8) u3 u3 ((E21 lp call a0).trans h) ?_
 intro c d w S S' γ' β' s' a' w' b i hK;have e:∀ c',Tryz.f139.body=some c'->(ut c' Ut).wpIn (FW none) 0 Tryz.prog (Pb Tryz.prog Tryz.f139 w S K9 y) a' w'->(ut c Ut).wpIn (FW none) 0 Tryz.prog (Pb Tryz.prog Tryz.f139 w S K9 y) a' w':=λc' h1 h2=>by rw[d] at h1;cases h1;exact h2
 refine e _ rfl ?_;exact zr a KC (g:=191) ⟨u3,u3⟩ u3 (x:=3) (t:=45) (d2:=46) (nt:=48) (ann:=.leaf) rfl rfl j2 (λl'=>u3) b i hK
def OI{lp:Lp}{call:Nat->List D->Option D}:∀ X L k v,PL eZ L X->L.length<1073741824->wt eZ k->ev (dG lp call (kl lp call)) (.region 0 (Eo).toArray false) .leaf D ((σL 85 10 73 X).put (some 76) (.d (.tup [eZ,.bool]) (.tup [k,v]))) (λx s'=>match x with
   | .normal=>ev (dG lp call (kl lp call)) ZV .leaf D s' (λx a=>match x with|.normal=>(eH a eZ 10).bind λl=>some (.sl l)|_=>none)
   | _=>none)=some (.sl (L++[k])):=by
 intro X L k v b hL _;rcases b with⟨rfl,rfl⟩|rfl
 ·kernel_rfl
 ·have key:ev (dG lp call (kl lp call)) (.region 0 (Eo).toArray false) .leaf D ((σL 85 10 73 (.own eZ 5 L)).put (some 76) (.d (.tup [eZ,.bool]) (.tup [k,v]))) (λx s'=>match x with
   | .normal=>ev (dG lp call (kl lp call)) ZV .leaf D s' (λx a=>match x with|.normal=>(eH a eZ 10).bind λl=>some (.sl l)|_=>none)
   | _=>none)=(if List.length L+List.length [k]<=1073741824 then(Option.bind (if decide (List.length (L++[k])<=1073741824) then some (L++[k]) else none) λl=>some (.sl l)) else none):=u3
  rw[key,zja (by simp;omega),zja (by simp;omega)]
  rfl
def Tp{lp:Lp}{call:Nat->List D->Option D}(a:EnvOk Tryz.prog (dG lp call (kl lp call))){a0 y:D}(h:RP lp call a0=some y):P4 Tryz.prog [K2] RU (cO 45) [a0] y:=by
 refine vH a (f:=cO 45) (fn:=Tryz.f128) (ann:=R9) (K:=AT (dG lp call (kl lp call)) 85 3 10 (cO 100) eZ .bool) u3 u3 ((E45 lp call a0).trans h) ?_
 intro c d w S S' γ' β' s' a' w' b i hK;have e:∀ c',Tryz.f128.body=some c'->(ut c' R9).wpIn (FW none) 0 Tryz.prog (Pb Tryz.prog Tryz.f128 w S RU y) a' w'->(ut c R9).wpIn (FW none) 0 Tryz.prog (Pb Tryz.prog Tryz.f128 w S RU y) a' w':=λc' h1 h2=>by rw[d] at h1;cases h1;exact h2
 refine e _ rfl ?_;exact Es a rfl rfl rfl rfl u3 (t72:=72) (m0:=3) (it:=73) (T:=183) (nx:=74) (ok:=75) (en:=76) (o:=10) (nt:=85) (c26:=ZV) (rest:=Eo) rfl rfl rfl rfl (TK:=140) (TV:=4) u3 j2 OI KD (g:=178) ⟨u3,u3⟩ (t:=82) (d2:=83) (ann:=.leaf) rfl rfl j2 (λl'=>u3) b i hK
end Sy
end
noncomputable section
namespace Sy
open Go Go.Proofs
def L21{lp:Lp}(a:au lp):ag 21 (m1 (RM lp)):=by
 intro call hc b c xs y hs hy hw;have:rM (cO 21)=some ([K3],K9):=u3
 rw[this] at hs;cases hs;unfold m1 at hy;split at hy<;>first|(cases hy;done)|skip
 have h0:kD (cO 21)=0:=u3
 rw[h0];exact⟨To (Tv a hc) hy,λh=>by rw[show rE (cO 21)=false by kernel_rfl] at h;cases h⟩
def L45{lp:Lp}(a:au lp):ag 45 (m1 (RP lp)):=by
 intro call hc b c xs y hs hy hw;have:rM (cO 45)=some ([K2],RU):=u3
 rw[this] at hs;cases hs;unfold m1 at hy;split at hy<;>first|(cases hy;done)|skip
 have h0:kD (cO 45)=0:=u3
 rw[h0];exact⟨Tp (Tv a hc) hy,λh=>by rw[show rE (cO 45)=false by kernel_rfl] at h;cases h⟩
end Sy
end
noncomputable section
set_option maxHeartbeats 0
namespace Sy
open Go Go.Proofs
def KF(lp:Lp):CT:=.node 144 (.node 89 (.node 57 (.node 38 (.node 21 (.node 15 (.node 13 (.leaf 12 (m1 (RL lp))) (.leaf 13 (m2 (Uu lp)))) (.node 18 (.leaf 15 (m1 (Uv lp))) (.node 19 (.leaf 18 (m1 (Uw lp))) (.leaf 19 (m1 (Ux lp)))))) (.node 33 (.node 31 (.leaf 21 (m1 (RM lp))) (.node 32 (.leaf 31 (m1 (Uy lp))) (.leaf 32 (m2 (RN lp))))) (.node 34 (.leaf 33 (m2 (Uz lp))) (.node 37 (.leaf 34 (m1 (UA lp))) (.leaf 37 (m2 (RO lp))))))) (.node 47 (.node 41 (.node 39 (.leaf 38 (m2 (Sd lp))) (.node 40 (.leaf 39 (m2 (UB lp))) (.leaf 40 (m2 (Se lp))))) (.node 45 (.leaf 41 (m2 (UC lp))) (.node 46 (.leaf 45 (m1 (RP lp))) (.leaf 46 (m2 (UD lp)))))) (.node 52 (.node 48 (.leaf 47 (m1 (UE lp))) (.node 51 (.leaf 48 (m1 (UF lp))) (.leaf 51 (m2 (UG lp))))) (.node 53 (.leaf 52 (m1 (UH lp))) (.node 54 (.leaf 53 (m2 (UI lp))) (.leaf 54 (m1 (UJ lp)))))))) (.node 77 (.node 71 (.node 62 (.node 59 (.leaf 57 (m2 (UK lp))) (.node 61 (.leaf 59 (m2 (RQ lp))) (.leaf 61 (m2 (UL lp))))) (.node 68 (.leaf 62 (m2 (RR lp))) (.node 70 (.leaf 68 (m1 (UM lp))) (.leaf 70 (m1 (Sq lp)))))) (.node 74 (.node 72 (.leaf 71 (m1 (UN lp))) (.node 73 (.leaf 72 (m2 (UO lp))) (.leaf 73 (m2 (UP lp))))) (.node 75 (.leaf 74 (m1 (UQ lp))) (.node 76 (.leaf 75 (m1 (UR lp))) (.leaf 76 (m1 (Sr lp))))))) (.node 83 (.node 80 (.node 78 (.leaf 77 (m1 (US lp))) (.node 79 (.leaf 78 (m2 (UT lp))) (.leaf 79 (m2 (UU lp))))) (.node 81 (.leaf 80 (m1 (UV lp))) (.node 82 (.leaf 81 (m2 (Ss lp))) (.leaf 82 (m2 (UW lp)))))) (.node 86 (.node 84 (.leaf 83 (m1 (UX lp))) (.node 85 (.leaf 84 (m0 (UY lp))) (.leaf 85 (m2 (Su lp))))) (.node 87 (.leaf 86 (m1 (UZ lp))) (.node 88 (.leaf 87 (m2 (RS lp))) (.leaf 88 (m1 (Sv lp))))))))) (.node 120 (.node 106 (.node 98 (.node 91 (.node 90 (.leaf 89 (m2 (RT lp))) (.leaf 90 (m2 (U0 lp)))) (.node 96 (.leaf 91 (m2 (U2 lp))) (.node 97 (.leaf 96 (m3 (U3 lp))) (.leaf 97 (m1 (U4 lp)))))) (.node 103 (.node 100 (.leaf 98 (m2 (U5 lp))) (.node 101 (.leaf 100 (m2 (Lk lp))) (.leaf 101 (m2 (H1 lp))))) (.node 104 (.leaf 103 (m2 (Ll lp))) (.node 105 (.leaf 104 (m3 (Lm lp))) (.leaf 105 (m2 (Ln lp))))))) (.node 112 (.node 109 (.node 107 (.leaf 106 (m3 (Lo lp))) (.node 108 (.leaf 107 (m2 (Lr lp))) (.leaf 108 (m2 (Ls lp))))) (.node 110 (.leaf 109 (m3 (Lt lp))) (.node 111 (.leaf 110 (m2 (Lu lp))) (.leaf 111 (m3 (Lv lp)))))) (.node 117 (.node 115 (.leaf 112 (m2 (Lw lp))) (.node 116 (.leaf 115 (m1 (Lx lp))) (.leaf 116 (m2 (Ly lp))))) (.node 118 (.leaf 117 (m2 (Lz lp))) (.node 119 (.leaf 118 (m1 (LA lp))) (.leaf 119 (m0 (LB lp)))))))) (.node 132 (.node 126 (.node 123 (.node 121 (.leaf 120 (m2 (LC lp))) (.node 122 (.leaf 121 (m2 (LD lp))) (.leaf 122 (m2 (LE lp))))) (.node 124 (.leaf 123 (m2 (LF lp))) (.node 125 (.leaf 124 (m1 (Gu lp))) (.leaf 125 (m0 (LG lp)))))) (.node 129 (.node 127 (.leaf 126 (m2 (LH lp))) (.node 128 (.leaf 127 (m1 (LI lp))) (.leaf 128 (m1 (H2 lp))))) (.node 130 (.leaf 129 (m1 (LJ lp))) (.node 131 (.leaf 130 (m0 (LK lp))) (.leaf 131 (m2 (LL lp))))))) (.node 138 (.node 135 (.node 133 (.leaf 132 (m2 (Gv lp))) (.node 134 (.leaf 133 (m0 (LN lp))) (.leaf 134 (m2 (LP lp))))) (.node 136 (.leaf 135 (m1 (LQ lp))) (.node 137 (.leaf 136 (m1 (H3 lp))) (.leaf 137 (m2 (LR lp)))))) (.node 141 (.node 139 (.leaf 138 (m1 (LT lp))) (.node 140 (.leaf 139 (m1 (H4 lp))) (.leaf 140 (m1 (LU lp))))) (.node 142 (.leaf 141 (m2 (LV lp))) (.node 143 (.leaf 142 (m1 (LW lp))) (.leaf 143 (m2 (LX lp)))))))))) (.node 374 (.node 195 (.node 168 (.node 152 (.node 146 (.node 145 (.leaf 144 (m2 (H5 lp))) (.leaf 145 (m1 (LY lp)))) (.node 147 (.leaf 146 (m2 (LZ lp))) (.node 148 (.leaf 147 (m2 (L4 lp))) (.leaf 148 (m1 (L5 lp)))))) (.node 156 (.node 154 (.leaf 152 (m2 (H6 lp))) (.node 155 (.leaf 154 (m2 (L6 lp))) (.leaf 155 (m1 (L7 lp))))) (.node 165 (.leaf 156 (m5 (L8 lp))) (.node 167 (.leaf 165 (m1 (L9 lp))) (.leaf 167 (m1 (Md lp))))))) (.node 174 (.node 171 (.node 169 (.leaf 168 (m2 (Me lp))) (.node 170 (.leaf 169 (m0 (Mf lp))) (.leaf 170 (m2 (Mg lp))))) (.node 172 (.leaf 171 (m1 (Mh lp))) (.node 173 (.leaf 172 (m2 (Gw lp))) (.leaf 173 (m2 (H7 lp)))))) (.node 187 (.node 175 (.leaf 174 (m2 (H8 lp))) (.node 186 (.leaf 175 (m2 (Mi lp))) (.leaf 186 (m1 (Mj lp))))) (.node 188 (.leaf 187 (m1 (H9 lp))) (.node 194 (.leaf 188 (m2 (Mk lp))) (.leaf 194 (m1 (Ml lp)))))))) (.node 340 (.node 215 (.node 201 (.node 196 (.leaf 195 (m2 (Mm lp))) (.node 197 (.leaf 196 (m1 (Mn lp))) (.leaf 197 (m2 (Mo lp))))) (.node 202 (.leaf 201 (m2 (Mp lp))) (.node 203 (.leaf 202 (m1 (Gx lp))) (.leaf 203 (m2 (Ia lp)))))) (.node 331 (.node 217 (.leaf 215 (m1 (Mq lp))) (.node 324 (.leaf 217 (m1 (Mr lp))) (.leaf 324 (m2 (Ms lp))))) (.node 333 (.leaf 331 (m1 (Mt lp))) (.node 336 (.leaf 333 (m2 (Mu lp))) (.leaf 336 (m2 (Mv lp))))))) (.node 352 (.node 345 (.node 342 (.leaf 340 (m2 (Mw lp))) (.node 344 (.leaf 342 (m1 (Mx lp))) (.leaf 344 (m2 (My lp))))) (.node 348 (.leaf 345 (m2 (MA lp))) (.node 349 (.leaf 348 (m1 (MB lp))) (.leaf 349 (m1 (MC lp)))))) (.node 365 (.node 357 (.leaf 352 (m2 (MD lp))) (.node 364 (.leaf 357 (m1 (Ib lp))) (.leaf 364 (m2 (ME lp))))) (.node 371 (.leaf 365 (m1 (MF lp))) (.node 373 (.leaf 371 (m2 (MG lp))) (.leaf 373 (m2 (Ic lp))))))))) (.node 432 (.node 416 (.node 392 (.node 386 (.node 385 (.leaf 374 (m1 (MH lp))) (.leaf 385 (m1 (MI lp)))) (.node 387 (.leaf 386 (m2 (Id lp))) (.node 388 (.leaf 387 (m1 (MJ lp))) (.leaf 388 (m2 (MK lp)))))) (.node 410 (.node 393 (.leaf 392 (m2 (ML lp))) (.node 394 (.leaf 393 (m1 (MM lp))) (.leaf 394 (m1 (Gy lp))))) (.node 414 (.leaf 410 (m4 (MN lp))) (.node 415 (.leaf 414 (m4 (MO lp))) (.leaf 415 (GS 0 lp 415 Tryz.f10 R8)))))) (.node 425 (.node 422 (.node 419 (.leaf 416 (m4 (MP lp))) (.node 421 (.leaf 419 (m5 (Sf lp))) (.leaf 421 (m5 (MQ lp))))) (.node 423 (.leaf 422 (m5 (MR lp))) (.node 424 (.leaf 423 (m3 (MS lp))) (.leaf 424 (m3 (MT lp)))))) (.node 429 (.node 426 (.leaf 425 (m4 (MU lp))) (.node 427 (.leaf 426 (m1 (MW lp))) (.leaf 427 (m1 (MX lp))))) (.node 430 (.leaf 429 (m2 (Sg lp))) (.node 431 (.leaf 430 (m3 (Si lp))) (.leaf 431 (m2 (MY lp)))))))) (.node 446 (.node 440 (.node 435 (.node 433 (.leaf 432 (m2 (Sj lp))) (.node 434 (.leaf 433 (m2 (MZ lp))) (.leaf 434 (m3 (M4 lp))))) (.node 437 (.leaf 435 (m2 (M5 lp))) (.node 438 (.leaf 437 (m3 (M6 lp))) (.leaf 438 (m1 (M7 lp)))))) (.node 443 (.node 441 (.leaf 440 (m2 (M8 lp))) (.node 442 (.leaf 441 (m1 (M9 lp))) (.leaf 442 (m2 (Nc lp))))) (.node 444 (.leaf 443 (m2 (Nd lp))) (.node 445 (.leaf 444 (m2 (Nf lp))) (.leaf 445 (m2 (Ng lp))))))) (.node 454 (.node 449 (.node 447 (.leaf 446 (m2 (Nh lp))) (.node 448 (.leaf 447 (m1 (Ni lp))) (.leaf 448 (m1 (Nj lp))))) (.node 450 (.leaf 449 (m1 (Nk lp))) (.node 452 (.leaf 450 (m2 (Nl lp))) (.leaf 452 (m2 (Nm lp)))))) (.node 457 (.node 455 (.leaf 454 (m2 (Nn lp))) (.node 456 (.leaf 455 (GS 0 lp 455 Tryz.f140 Sa)) (.leaf 456 (m2 (No lp))))) (.node 458 (.leaf 457 (m3 (Sl lp))) (.node 459 (.leaf 458 (m1 (Sn lp))) (.leaf 459 (m1 (Sp lp))))))))))
def A9{lp:Lp}(a:au lp):(KF lp).ok:=⟨⟨⟨⟨⟨⟨⟨L12 a,L13 a⟩,⟨L15 a,⟨L18 a,L19 a⟩⟩⟩,⟨⟨L21 a,⟨L31 a,L32 a⟩⟩,⟨L33 a,⟨L34 a,L37 a⟩⟩⟩⟩,⟨⟨⟨L38 a,⟨L39 a,L40 a⟩⟩,⟨L41 a,⟨L45 a,L46 a⟩⟩⟩,⟨⟨L47 a,⟨L48 a,L51 a⟩⟩,⟨L52 a,⟨L53 a,L54 a⟩⟩⟩⟩⟩,⟨⟨⟨⟨L57 a,⟨L59 a,L61 a⟩⟩,⟨L62 a,⟨L68 a,L70 a⟩⟩⟩,⟨⟨L71 a,⟨L72 a,L73 a⟩⟩,⟨L74 a,⟨L75 a,L76 a⟩⟩⟩⟩,⟨⟨⟨L77 a,⟨L78 a,L79 a⟩⟩,⟨L80 a,⟨L81 a,L82 a⟩⟩⟩,⟨⟨L83 a,⟨L84 a,L85 a⟩⟩,⟨L86 a,⟨L87 a,L88 a⟩⟩⟩⟩⟩⟩,⟨⟨⟨⟨⟨L89 a,L90 a⟩,⟨L91 a,⟨L96 a,L97 a⟩⟩⟩,⟨⟨L98 a,⟨WP a,WQ a⟩⟩,⟨WR a,⟨WS a,WT a⟩⟩⟩⟩,⟨⟨⟨WU a,⟨WW a,WX a⟩⟩,⟨WY a,⟨WZ a,W0 a⟩⟩⟩,⟨⟨W2 a,⟨W3 a,W4 a⟩⟩,⟨W5 a,⟨W6 a,W7 a⟩⟩⟩⟩⟩,⟨⟨⟨⟨W8 a,⟨W9 a,Xa a⟩⟩,⟨Xb a,⟨Xc a,Xd a⟩⟩⟩,⟨⟨Xe a,⟨Xf a,Xg a⟩⟩,⟨Xh a,⟨Xi a,Xj a⟩⟩⟩⟩,⟨⟨⟨Xk a,⟨Xl a,Xm a⟩⟩,⟨Xn a,⟨Xo a,Xp a⟩⟩⟩,⟨⟨Xq a,⟨Xr a,Xs a⟩⟩,⟨Xt a,⟨Xu a,Xv a⟩⟩⟩⟩⟩⟩⟩,⟨⟨⟨⟨⟨⟨Xw a,Xx a⟩,⟨Xy a,⟨Xz a,XA a⟩⟩⟩,⟨⟨XB a,⟨XC a,XD a⟩⟩,⟨XE a,⟨XF a,XG a⟩⟩⟩⟩,⟨⟨⟨XH a,⟨XI a,XJ a⟩⟩,⟨XK a,⟨XL a,XM a⟩⟩⟩,⟨⟨XN a,⟨XO a,XP a⟩⟩,⟨XQ a,⟨XR a,XS a⟩⟩⟩⟩⟩,⟨⟨⟨⟨XT a,⟨XU a,XV a⟩⟩,⟨XW a,⟨XX a,XY a⟩⟩⟩,⟨⟨XZ a,⟨X3 a,X4 a⟩⟩,⟨X5 a,⟨X7 a,X8 a⟩⟩⟩⟩,⟨⟨⟨X9 a,⟨Ya a,Yb a⟩⟩,⟨Yc a,⟨Yd a,Ye a⟩⟩⟩,⟨⟨Yf a,⟨Yg a,Yh a⟩⟩,⟨Yi a,⟨Yj a,Yk a⟩⟩⟩⟩⟩⟩,⟨⟨⟨⟨⟨Yl a,Ym a⟩,⟨Yn a,⟨Yo a,Yp a⟩⟩⟩,⟨⟨Yq a,⟨Yr a,Ys a⟩⟩,⟨Sx a,⟨Yt a,Yu a⟩⟩⟩⟩,⟨⟨⟨Yv a,⟨Yw a,Yx a⟩⟩,⟨Yy a,⟨Yz a,YA a⟩⟩⟩,⟨⟨YB a,⟨YC a,YD a⟩⟩,⟨YE a,⟨YF a,YG a⟩⟩⟩⟩⟩,⟨⟨⟨⟨YH a,⟨YI a,YJ a⟩⟩,⟨YK a,⟨YL a,YM a⟩⟩⟩,⟨⟨YN a,⟨YO a,YP a⟩⟩,⟨YQ a,⟨YR a,YS a⟩⟩⟩⟩,⟨⟨⟨YT a,⟨YU a,YV a⟩⟩,⟨YW a,⟨YX a,YY a⟩⟩⟩,⟨⟨YZ a,⟨Y0 a,Y1 a⟩⟩,⟨Y2 a,⟨Y3 a,Y4 a⟩⟩⟩⟩⟩⟩⟩⟩
def IQ(lp:Lp):Nat->Nat->List D->Option D
 | 0=>λ_ _=>none
 | n+1=>λf xs=>(KF lp).get f (IQ lp n) xs
theorem BB{lp:Lp}(a:au lp):∀ n,je Tryz.prog (IQ lp n)
 | 0=>λf b c xs y _ h _=>by cases h
 | n+1=>afl (A9 a) (BB a n)
end Sy
end
end Go.Proofs.YtphlmegkommlnaaGreatDoor
