/- Part 8 of the proof that HullContainsPoints answers true at every input -/
import Derived.Test.YtjjjkojfijpeeaaGreatPoints05
import Derived.Test.YtjjjkojfijpeeaaGreatPoints06
import Derived.Test.YtjjjkojfijpeeaaGreatPoints07
import Derived.Shelf.SlSortCmp.NoneTotal
import Derived.Ground.SlsfProg
import Derived.KernelRfl
import Derived.Test.YtjjjkojfijpeeaaGreatProg
import Derived.Test.YtjjjkojfijpeeaaGreatChecked
set_option linter.unusedVariables false
set_option linter.unusedSimpArgs false
set_option linter.unnecessarySimpa false
section
namespace Go.Proofs.YtjjjkojfijpeeaaGreat.Sy
open Go Go.Proofs Go.Sort Go.Lib
section
variable{P:Program}{E:Env}
def um(E:Env)(nt m0 o g:Nat)(e vt:Ty)(s:St):Option D:=
 match s.tm m0 with
 | .map kt vt' id=>if kt.beq e&&vt'.beq vt then(match s.ob id with
   | some (.mp kt2 vt2 l)=>if kt2.beq e&&vt2.beq vt&&decide (l.length<=1073741824) then(match bR s e o with
     | some []=>if s.nt=nt then(hC E g (l.map rh)).bind fun l'=>some (.sl l') else none
     | _=>none) else none
   | _=>none) else none
 | _=>none
theorem xI(hE:EnvOk P E){e vt:Ty}(he:aO e=true)(hvt:aO vt=true)(hne:af e=true)(hnv:af vt=true){fn:Func}{rty:Ty}{y:D}{w:World}{S:Nat->Nat->Prop}(hr:gQ fn.results.size rty=true)
  {id23 id24 id25 b b2:Nat} {t72 m0 it T nx ok en o nt:Nat} {o23 o24 o25:Array Oper} {rest:List Oper} {c26:Code}
  {y1 y2 y3 y4 y5:TypeId} {p1 p2 p3 p4 p5:String} {f1 f2 f3 f4 f5:Array Edge} {TK TV:TypeId}
  (h23:o23.toList=[⟨some t72,.move (.tmp m0),y1,p1,f1,none⟩,⟨some it,.range T (.tmp t72),y2,p2,f2,none⟩])
  (h24:o24.toList=[⟨some nx,.next (.tmp it) false,y3,p3,f3,none⟩,⟨some ok,.extract (.tmp nx) 0,y4,p4,f4,none⟩])
  (h25:o25.toList=⟨some en,.entry (.tmp it),y5,p5,f5,none⟩::rest) (hrest:(rest.all fun x=>x.guard.isNone)=true) (hT:P.underlying T=some (.map TK TV))
  (hd:(decide (o≠t72)&&decide (o≠it)&&decide (nx≠o)&&decide (ok≠o)&&decide (en≠o)&&decide (it≠t72)&&decide (it≠nx)&&decide (it≠ok)&&decide (it≠en)&&decide (nx≠ok)&&decide (t72<nt)&&decide (it<nt)&&decide (nx<nt)&&decide (ok<nt)&&decide (en<nt))=true)
  (hround:∀ X L k v,xj e L X->L.length<1073741824->wt e k->ev E (.region 0 rest.toArray false) .leaf D ((σL nt o it X).put (some en) (.d (.tup [e,vt]) (.tup [k,v]))) (fun x s'=>match x with
   | .normal=>ev E c26 .leaf D s' (fun x s''=>match x with|.normal=>(bR s'' e o).bind fun l=>some (.sl l)|_=>none)
   | _=>none)=some (.sl (L++[k])))
  {f0 g:Nat} (hf:SortOk P f0 e) (hsig:E.sig g=some ([e,e],.int .i64)) {id t d2:Nat} {ops:Array Oper} {d:Code} {ann:Ann} {ty1 ty2:TypeId} {q1 q2:String} {af1 af2:Array Edge} {args:Array Operand} {ats:Array TypeId}
  (hops:ops.toList=[⟨some t,.move (.tmp o),ty1,q1,af1,none⟩,⟨some d2,.call ⟨.value (.func f0),args,ats⟩,ty2,q2,af2,none⟩]) (hargs:args=#[.tmp t,.func g]) (hd':(decide (o≠t)&&decide (o≠d2)&&decide (t<nt))=true)
  (hev:∀ l',(ev E d ann D (GD nt o e l') fun x s=>match x with|.exit _=>none|_=>results E s rty fn.results.toList)=some (.sl l'))
  {S':Nat->Nat->Prop} {γ':Nat->Option Nat} {β':Nat->Option (Nat×Nat)} {s':St} {a':Act} {w':World} (h:Rp (bZ w S) S' γ' β' s' a' w') (hK:um E nt m0 o g e vt s'=some y) :
  (Code.seq (Code.seq (.region id23 o23 false) (.block b (.loop (.seq (.region id24 o24 false) (.seq (.cond (.tmp ok) .skip (.exit b)) (.block b2 (.seq (.region id25 o25 false) c26))))))) (Code.seq (.region id ops false) d)).wpIn (FW none) 0 P (FE P fn w S rty y) a' w':=by
 unfold um at hK
 split at hK<;>first|(cases hK;done)|skip
 rename_i kt vt' idm htm
 split at hK<;>first|(cases hK;done)|skip
 rename_i hb1
 split at hK<;>first|(cases hK;done)|skip
 rename_i kt2 vt2 l hob
 split at hK<;>first|(cases hK;done)|skip
 rename_i hb2
 split at hK<;>first|(cases hK;done)|skip
 rename_i hfr
 split at hK<;>first|(cases hK;done)|skip
 rename_i hnt
 obtain⟨l',h3,h4⟩:=bind_some_inv hK
 cases h4
 simp only[Bool.and_eq_true,decide_eq_true_eq] at hb1 hb2 hd
 have e1:=Ty.eq_of_beq _ _ hb1.1;have e2:=Ty.eq_of_beq _ _ hb1.2;have e3:=Ty.eq_of_beq _ _ hb2.1.1;have e4:=Ty.eq_of_beq _ _ hb2.1.2
 subst e1;subst e2;subst e3;subst e4
 obtain⟨⟨⟨⟨⟨⟨⟨⟨⟨⟨⟨⟨⟨⟨d1,d2'⟩,d3⟩,d4⟩,d5⟩,d6⟩,d7⟩,d8⟩,d9⟩,d10⟩,n1⟩,n2⟩,n3⟩,n4⟩,n5⟩:=hd
 subst hnt
 refine wpIn_seq (DM hE he hvt hne hnv h23 h24 h25 (fun x hx=>by simpa using List.all_eq_true.1 hrest x hx) hT h d1 d2' d3 d4 d5 d6 d7 d8 d9 d10 n1 n2 n3 n4 n5 htm hob hb2.2 hfr hround fun L S2 γ2 β2 X a2 w2 hX hp hR=>?_)
 have hlen:L.length<=1073741824:=by rw[hp.length_eq];simpa using hb2.2
 have hfX:bR (σL s'.nt o it X) kt2 o=some L:=by
  unfold bR σL
  simp only[if_true]
  rcases hX with⟨rfl,rfl⟩|rfl
  ·rfl
  ·simp only
   have:(kt2.beq kt2&&!(([]:List Nat).contains 5)&&decide (L.length<=1073741824))=true:=by
    simp only[Bool.and_eq_true,decide_eq_true_eq]
    exact⟨⟨hb2.1.1,rfl⟩,hlen⟩
   rw[if_pos this]
 refine sH hE hf hsig hr hops hargs hd' hev hR ?_
 unfold yK
 rw[hfX,Option.bind_some,if_pos (show(σL s'.nt o it X).nt=s'.nt from rfl),w9 h3 hp]
 rfl
end
end Go.Proofs.YtjjjkojfijpeeaaGreat.Sy
end
section
namespace Go.Proofs
open Go.Shelf
def Tryz.sortE_ren:Go.Shelf.Ren:=⟨fun|6=>50|15=>114|14=>113|28=>165|29=>166|20=>157|21=>158|22=>159|23=>160|24=>161|25=>162|26=>163|27=>164|46=>189|47=>190|48=>191|49=>192|50=>193|57=>216|n=>n,fun|22=>40|24=>66|25=>91|3=>3|39=>143|0=>0|53=>42|55=>145|4=>4|46=>172|45=>171|50=>153|5=>5|9=>9|66=>192|70=>196|76=>215|77=>216|n=>n,fun|n=>n⟩
theorem Tryz.sortE:Go.Proofs.SlLaysF0.n6 Tryz.prog Tryz.sortE_ren:={
 mixed:=by kernel_rfl
 f6:=⟨Tryz.f50.name,by decide,Tryz.func50.trans (congrArg some (by kernel_rfl))⟩
 f14:=⟨Tryz.f113.name,by decide,Tryz.func113.trans (congrArg some (by kernel_rfl))⟩
 f15:=Tryz.func114.trans (congrArg some (by kernel_rfl))
 f20:=⟨Tryz.f157.name,by decide,Tryz.func157.trans (congrArg some (by kernel_rfl))⟩
 f21:=⟨Tryz.f158.name,by decide,Tryz.func158.trans (congrArg some (by kernel_rfl))⟩
 f22:=⟨Tryz.f159.name,by decide,Tryz.func159.trans (congrArg some (by kernel_rfl))⟩
 f23:=⟨Tryz.f160.name,by decide,Tryz.func160.trans (congrArg some (by kernel_rfl))⟩
 f24:=⟨Tryz.f161.name,by decide,Tryz.func161.trans (congrArg some (by kernel_rfl))⟩
 f25:=⟨Tryz.f162.name,by decide,Tryz.func162.trans (congrArg some (by kernel_rfl))⟩
 f26:=⟨Tryz.f163.name,by decide,Tryz.func163.trans (congrArg some (by kernel_rfl))⟩
 f27:=⟨Tryz.f164.name,by decide,Tryz.func164.trans (congrArg some (by kernel_rfl))⟩
 f28:=Tryz.func165.trans (congrArg some (by kernel_rfl))
 f29:=Tryz.func166.trans (congrArg some (by kernel_rfl))
 f46:=⟨Tryz.f189.name,by decide,Tryz.func189.trans (congrArg some (by kernel_rfl))⟩
 f47:=Tryz.func190.trans (congrArg some (by kernel_rfl))
 f48:=Tryz.func191.trans (congrArg some (by kernel_rfl))
 f49:=⟨Tryz.f192.name,by decide,Tryz.func192.trans (congrArg some (by kernel_rfl))⟩
 f50:=⟨Tryz.f193.name,by decide,Tryz.func193.trans (congrArg some (by kernel_rfl))⟩
 f57:=⟨Tryz.f216.name,by decide,Tryz.func216.trans (congrArg some (by kernel_rfl))⟩
 t0:=Tryz.underlying0
 a0:=Tryz.isAgg0
 z0:=Tryz.sizeOf0
 v0:=Tryz.zeroValue0
 t3:=Tryz.underlying3
 a3:=Tryz.isAgg3
 z3:=Tryz.sizeOf3
 v3:=Tryz.zeroValue3
 t4:=Tryz.underlying4
 a4:=Tryz.isAgg4
 z4:=Tryz.sizeOf4
 v4:=Tryz.zeroValue4
 t5:=Tryz.underlying5
 a5:=Tryz.isAgg5
 z5:=Tryz.sizeOf5
 v5:=Tryz.zeroValue5
 t9:=Tryz.underlying9
 a9:=Tryz.isAgg9
 z9:=Tryz.sizeOf9
 v9:=Tryz.zeroValue9
 t22:=Tryz.underlying40
 a22:=Tryz.isAgg40
 z22:=Tryz.sizeOf40
 v22:=Tryz.zeroValue40
 t25:=Tryz.underlying91
 a25:=Tryz.isAgg91
 z25:=Tryz.sizeOf91
 v25:=Tryz.zeroValue91
 t39:=Tryz.underlying143
 a39:=Tryz.isAgg143
 z39:=Tryz.sizeOf143
 v39:=Tryz.zeroValue143
 t45:=Tryz.underlying171
 a45:=Tryz.isAgg171
 z45:=Tryz.sizeOf171
 v45:=Tryz.zeroValue171
 t46:=Tryz.underlying172
 a46:=Tryz.isAgg172
 z46:=Tryz.sizeOf172
 v46:=Tryz.zeroValue172
 t50:=Tryz.underlying153
 a50:=Tryz.isAgg153
 z50:=Tryz.sizeOf153
 v50:=Tryz.zeroValue153
 t53:=Tryz.underlying42
 a53:=Tryz.isAgg42
 z53:=Tryz.sizeOf42
 v53:=Tryz.zeroValue42
 t55:=Tryz.underlying145
 a55:=Tryz.isAgg145
 z55:=Tryz.sizeOf145
 v55:=Tryz.zeroValue145
 t66:=Tryz.underlying192
 a66:=Tryz.isAgg192
 z66:=Tryz.sizeOf192
 v66:=Tryz.zeroValue192
 t70:=Tryz.underlying196
 a70:=Tryz.isAgg196
 z70:=Tryz.sizeOf196
 v70:=Tryz.zeroValue196
 t76:=Tryz.underlying215
 a76:=Tryz.isAgg215
 z76:=Tryz.sizeOf215
 v76:=Tryz.zeroValue215
 t77:=Tryz.underlying216
 a77:=Tryz.isAgg216
 z77:=Tryz.sizeOf216
 v77:=Tryz.zeroValue216 }
def Tryz.sortP_ren:Go.Shelf.Ren:=⟨fun|6=>99|15=>114|14=>153|28=>165|29=>166|20=>178|21=>179|22=>180|23=>181|24=>182|25=>183|26=>184|27=>185|46=>212|47=>190|48=>191|49=>213|50=>214|57=>221|n=>n,fun|22=>81|24=>85|25=>132|3=>3|39=>143|0=>0|53=>42|55=>145|4=>4|46=>172|45=>171|50=>153|5=>5|9=>9|66=>192|70=>196|76=>215|77=>216|n=>n,fun|n=>n⟩
theorem Tryz.sortP:Go.Proofs.SlLaysF0.n6 Tryz.prog Tryz.sortP_ren:={
 mixed:=by kernel_rfl
 f6:=⟨Tryz.f99.name,by decide,Tryz.func99.trans (congrArg some (by kernel_rfl))⟩
 f14:=⟨Tryz.f153.name,by decide,Tryz.func153.trans (congrArg some (by kernel_rfl))⟩
 f15:=Tryz.func114.trans (congrArg some (by kernel_rfl))
 f20:=⟨Tryz.f178.name,by decide,Tryz.func178.trans (congrArg some (by kernel_rfl))⟩
 f21:=⟨Tryz.f179.name,by decide,Tryz.func179.trans (congrArg some (by kernel_rfl))⟩
 f22:=⟨Tryz.f180.name,by decide,Tryz.func180.trans (congrArg some (by kernel_rfl))⟩
 f23:=⟨Tryz.f181.name,by decide,Tryz.func181.trans (congrArg some (by kernel_rfl))⟩
 f24:=⟨Tryz.f182.name,by decide,Tryz.func182.trans (congrArg some (by kernel_rfl))⟩
 f25:=⟨Tryz.f183.name,by decide,Tryz.func183.trans (congrArg some (by kernel_rfl))⟩
 f26:=⟨Tryz.f184.name,by decide,Tryz.func184.trans (congrArg some (by kernel_rfl))⟩
 f27:=⟨Tryz.f185.name,by decide,Tryz.func185.trans (congrArg some (by kernel_rfl))⟩
 f28:=Tryz.func165.trans (congrArg some (by kernel_rfl))
 f29:=Tryz.func166.trans (congrArg some (by kernel_rfl))
 f46:=⟨Tryz.f212.name,by decide,Tryz.func212.trans (congrArg some (by kernel_rfl))⟩
 f47:=Tryz.func190.trans (congrArg some (by kernel_rfl))
 f48:=Tryz.func191.trans (congrArg some (by kernel_rfl))
 f49:=⟨Tryz.f213.name,by decide,Tryz.func213.trans (congrArg some (by kernel_rfl))⟩
 f50:=⟨Tryz.f214.name,by decide,Tryz.func214.trans (congrArg some (by kernel_rfl))⟩
 f57:=⟨Tryz.f221.name,by decide,Tryz.func221.trans (congrArg some (by kernel_rfl))⟩
 t0:=Tryz.underlying0
 a0:=Tryz.isAgg0
 z0:=Tryz.sizeOf0
 v0:=Tryz.zeroValue0
 t3:=Tryz.underlying3
 a3:=Tryz.isAgg3
 z3:=Tryz.sizeOf3
 v3:=Tryz.zeroValue3
 t4:=Tryz.underlying4
 a4:=Tryz.isAgg4
 z4:=Tryz.sizeOf4
 v4:=Tryz.zeroValue4
 t5:=Tryz.underlying5
 a5:=Tryz.isAgg5
 z5:=Tryz.sizeOf5
 v5:=Tryz.zeroValue5
 t9:=Tryz.underlying9
 a9:=Tryz.isAgg9
 z9:=Tryz.sizeOf9
 v9:=Tryz.zeroValue9
 t22:=Tryz.underlying81
 a22:=Tryz.isAgg81
 z22:=Tryz.sizeOf81
 v22:=Tryz.zeroValue81
 t25:=Tryz.underlying132
 a25:=Tryz.isAgg132
 z25:=Tryz.sizeOf132
 v25:=Tryz.zeroValue132
 t39:=Tryz.underlying143
 a39:=Tryz.isAgg143
 z39:=Tryz.sizeOf143
 v39:=Tryz.zeroValue143
 t45:=Tryz.underlying171
 a45:=Tryz.isAgg171
 z45:=Tryz.sizeOf171
 v45:=Tryz.zeroValue171
 t46:=Tryz.underlying172
 a46:=Tryz.isAgg172
 z46:=Tryz.sizeOf172
 v46:=Tryz.zeroValue172
 t50:=Tryz.underlying153
 a50:=Tryz.isAgg153
 z50:=Tryz.sizeOf153
 v50:=Tryz.zeroValue153
 t53:=Tryz.underlying42
 a53:=Tryz.isAgg42
 z53:=Tryz.sizeOf42
 v53:=Tryz.zeroValue42
 t55:=Tryz.underlying145
 a55:=Tryz.isAgg145
 z55:=Tryz.sizeOf145
 v55:=Tryz.zeroValue145
 t66:=Tryz.underlying192
 a66:=Tryz.isAgg192
 z66:=Tryz.sizeOf192
 v66:=Tryz.zeroValue192
 t70:=Tryz.underlying196
 a70:=Tryz.isAgg196
 z70:=Tryz.sizeOf196
 v70:=Tryz.zeroValue196
 t76:=Tryz.underlying215
 a76:=Tryz.isAgg215
 z76:=Tryz.sizeOf215
 v76:=Tryz.zeroValue215
 t77:=Tryz.underlying216
 a77:=Tryz.isAgg216
 z77:=Tryz.sizeOf216
 v77:=Tryz.zeroValue216 }
def Tryz.sortV_ren:Go.Shelf.Ren:=⟨fun|6=>150|15=>114|14=>177|28=>165|29=>166|20=>204|21=>205|22=>206|23=>207|24=>208|25=>209|26=>210|27=>211|46=>218|47=>190|48=>191|49=>219|50=>220|57=>222|n=>n,fun|22=>22|24=>60|25=>126|3=>3|39=>143|0=>0|53=>42|55=>145|4=>4|46=>172|45=>171|50=>153|5=>5|9=>9|66=>192|70=>196|76=>215|77=>216|n=>n,fun|n=>n⟩
theorem Tryz.sortV:Go.Proofs.SlLaysF0.n6 Tryz.prog Tryz.sortV_ren:={
 mixed:=by kernel_rfl
 f6:=⟨Tryz.f150.name,by decide,Tryz.func150.trans (congrArg some (by kernel_rfl))⟩
 f14:=⟨Tryz.f177.name,by decide,Tryz.func177.trans (congrArg some (by kernel_rfl))⟩
 f15:=Tryz.func114.trans (congrArg some (by kernel_rfl))
 f20:=⟨Tryz.f204.name,by decide,Tryz.func204.trans (congrArg some (by kernel_rfl))⟩
 f21:=⟨Tryz.f205.name,by decide,Tryz.func205.trans (congrArg some (by kernel_rfl))⟩
 f22:=⟨Tryz.f206.name,by decide,Tryz.func206.trans (congrArg some (by kernel_rfl))⟩
 f23:=⟨Tryz.f207.name,by decide,Tryz.func207.trans (congrArg some (by kernel_rfl))⟩
 f24:=⟨Tryz.f208.name,by decide,Tryz.func208.trans (congrArg some (by kernel_rfl))⟩
 f25:=⟨Tryz.f209.name,by decide,Tryz.func209.trans (congrArg some (by kernel_rfl))⟩
 f26:=⟨Tryz.f210.name,by decide,Tryz.func210.trans (congrArg some (by kernel_rfl))⟩
 f27:=⟨Tryz.f211.name,by decide,Tryz.func211.trans (congrArg some (by kernel_rfl))⟩
 f28:=Tryz.func165.trans (congrArg some (by kernel_rfl))
 f29:=Tryz.func166.trans (congrArg some (by kernel_rfl))
 f46:=⟨Tryz.f218.name,by decide,Tryz.func218.trans (congrArg some (by kernel_rfl))⟩
 f47:=Tryz.func190.trans (congrArg some (by kernel_rfl))
 f48:=Tryz.func191.trans (congrArg some (by kernel_rfl))
 f49:=⟨Tryz.f219.name,by decide,Tryz.func219.trans (congrArg some (by kernel_rfl))⟩
 f50:=⟨Tryz.f220.name,by decide,Tryz.func220.trans (congrArg some (by kernel_rfl))⟩
 f57:=⟨Tryz.f222.name,by decide,Tryz.func222.trans (congrArg some (by kernel_rfl))⟩
 t0:=Tryz.underlying0
 a0:=Tryz.isAgg0
 z0:=Tryz.sizeOf0
 v0:=Tryz.zeroValue0
 t3:=Tryz.underlying3
 a3:=Tryz.isAgg3
 z3:=Tryz.sizeOf3
 v3:=Tryz.zeroValue3
 t4:=Tryz.underlying4
 a4:=Tryz.isAgg4
 z4:=Tryz.sizeOf4
 v4:=Tryz.zeroValue4
 t5:=Tryz.underlying5
 a5:=Tryz.isAgg5
 z5:=Tryz.sizeOf5
 v5:=Tryz.zeroValue5
 t9:=Tryz.underlying9
 a9:=Tryz.isAgg9
 z9:=Tryz.sizeOf9
 v9:=Tryz.zeroValue9
 t22:=Tryz.underlying22
 a22:=Tryz.isAgg22
 z22:=Tryz.sizeOf22
 v22:=Tryz.zeroValue22
 t25:=Tryz.underlying126
 a25:=Tryz.isAgg126
 z25:=Tryz.sizeOf126
 v25:=Tryz.zeroValue126
 t39:=Tryz.underlying143
 a39:=Tryz.isAgg143
 z39:=Tryz.sizeOf143
 v39:=Tryz.zeroValue143
 t45:=Tryz.underlying171
 a45:=Tryz.isAgg171
 z45:=Tryz.sizeOf171
 v45:=Tryz.zeroValue171
 t46:=Tryz.underlying172
 a46:=Tryz.isAgg172
 z46:=Tryz.sizeOf172
 v46:=Tryz.zeroValue172
 t50:=Tryz.underlying153
 a50:=Tryz.isAgg153
 z50:=Tryz.sizeOf153
 v50:=Tryz.zeroValue153
 t53:=Tryz.underlying42
 a53:=Tryz.isAgg42
 z53:=Tryz.sizeOf42
 v53:=Tryz.zeroValue42
 t55:=Tryz.underlying145
 a55:=Tryz.isAgg145
 z55:=Tryz.sizeOf145
 v55:=Tryz.zeroValue145
 t66:=Tryz.underlying192
 a66:=Tryz.isAgg192
 z66:=Tryz.sizeOf192
 v66:=Tryz.zeroValue192
 t70:=Tryz.underlying196
 a70:=Tryz.isAgg196
 z70:=Tryz.sizeOf196
 v70:=Tryz.zeroValue196
 t76:=Tryz.underlying215
 a76:=Tryz.isAgg215
 z76:=Tryz.sizeOf215
 v76:=Tryz.zeroValue215
 t77:=Tryz.underlying216
 a77:=Tryz.isAgg216
 z77:=Tryz.sizeOf216
 v77:=Tryz.zeroValue216 }
end Go.Proofs
end
section
namespace Go.Proofs.YtjjjkojfijpeeaaGreat.Sy
open Go Go.Proofs Go.Shelf Go.RowKit Go.Lib Go.Sort
theorem ud {P : Program} {f : Nat} (h : (match P.funcs[f]? with | some fn => !(fn.name == "runtime.NumGoroutine") && fn.body.isSome | none => false) = true) : ∃ fn, P.funcs[f]? = some fn /\ (fn.name == "runtime.NumGoroutine") = false /\ fn.body.isSome = true := by
 split at h
 ·rename_i fn hf
  simp only[Bool.and_eq_true,Bool.not_eq_true'] at h
  exact⟨fn,hf,h.1,h.2⟩
 ·cases h
theorem B6:SortOk Tryz.prog 50 K8:=
 ⟨rfl,rfl,by decide,rfl,ud (by kernel_rfl),fun p cap fv w=>AnyF.slices_SortFunc_none Tryz.sortE p cap fv w,
  fun _ _ enc hk h1 cf hO g blk off cap d w eg hcmp hH hblk hsz=>AnyQ.slices_SortFunc Tryz.sortE 2 Tryz.isAgg66 Tryz.sizeOf66 enc hk h1 cf hO g #[] blk off cap d w eg hcmp hH hblk hsz⟩
theorem CH:SortOk Tryz.prog 99 dO:=
 ⟨rfl,rfl,by decide,rfl,ud (by kernel_rfl),fun p cap fv w=>AnyF.slices_SortFunc_none Tryz.sortP p cap fv w,
  fun _ _ enc hk h1 cf hO g blk off cap d w eg hcmp hH hblk hsz=>AnyQ.slices_SortFunc Tryz.sortP 4 Tryz.isAgg85 Tryz.sizeOf85 enc hk h1 cf hO g #[] blk off cap d w eg hcmp hH hblk hsz⟩
theorem wr:SortOk Tryz.prog 150 K1:=
 ⟨rfl,rfl,by decide,rfl,ud (by kernel_rfl),fun p cap fv w=>AnyF.slices_SortFunc_none Tryz.sortV p cap fv w,
  fun _ _ enc hk h1 cf hO g blk off cap d w eg hcmp hH hblk hsz=>AnyQ.slices_SortFunc Tryz.sortV 3 Tryz.isAgg60 Tryz.sizeOf60 enc hk h1 cf hO g #[] blk off cap d w eg hcmp hH hblk hsz⟩
end Go.Proofs.YtjjjkojfijpeeaaGreat.Sy
end
section
set_option maxRecDepth 20000
set_option maxHeartbeats 0
set_option linter.unusedVariables false
namespace Go.Proofs.YtjjjkojfijpeeaaGreat.Sy
open Go Go.Proofs
def mV:Code->Code|.block _ c=>c|c=>c
def inLoop:Code->Code|.loop c=>c|c=>c
def oV:Code->Code|.seq a _=>a|c=>c
def mJ:Code->Code|.seq _ b=>b|c=>c
def FN:Code->List Oper|.region _ o _=>o.toList|_=>[]
def HZ:AnnT:=(.seq .leaf (.seq .leaf (.seq (.two .leaf (.two (.loop ⟨[(3,.ow K8),(12,.dv (Ty.int .i64))],[],[10,11]⟩ [(.exit 0,⟨[(3,.ow K8)],[],[]⟩)] (.two .leaf (.two .leaf (.two (.two (.two .leaf (.two .leaf (.two (.loop ⟨[(3,.ow K8),(5,.same (.ptr K6 24581 [])),(19,.dv (Ty.int .i64))],[(24581,.keep K6 5)],[10,11,12,17,18]⟩ [(.exit 2,⟨[(3,.ow K8)],[],[10,11,12]⟩)] (.two .leaf (.two .leaf (.cut [(.normal,⟨[(3,.ow K8),(5,.same (.ptr K6 24581 []))],[(24581,.keep K6 5)],[10,11,12,17,18,19]⟩)] [10,11,12,17,18,19] [24581] (.two (.two .leaf (.two (.reg [] 10) .leaf)) .leaf) .leaf)))) .leaf))) .leaf) .leaf)))) .leaf)) .hand)))
noncomputable def H7(lp:Lp)(call:Nat->List D->Option D)(a0:D):Option D:=
 Option.bind (call 18 [a0]) fun r1=>
 Option.bind (D.asSl r1) fun l2=>
 Option.bind (lp (β:=Nat×List D) (fun(v3:List D)=>
 Option.bind (D.bin .lss (gx v3 1) (D.int .i64 (List.length l2))) fun x4=>
 Option.bind (D.truth x4) fun b5=>
 if b5 then(Option.bind (D.asSl r1) fun l6=>
 Option.bind (D.idx (gx v3 1) (List.length l6)) fun i7=>
 Option.bind (l6[i7]?) fun x8=>
 Option.bind (D.get x8 [2]) fun x9=>
 Option.bind (D.asSl x9) fun l10=>
 Option.bind (lp (β:=Nat×List D) (fun(v11:List D)=>
 Option.bind (D.bin .lss (gx v11 1) (D.int .i64 (List.length l10))) fun x12=>
 Option.bind (D.truth x12) fun b13=>
 if b13 then(Option.bind (Option.bind (D.asSl x9) fun l14=>
 Option.bind (D.idx (gx v11 1) (List.length l14)) fun i15=>
 Option.bind (l14[i15]?) fun x16=>
 Option.bind (D.get x8 [2]) fun x17=>
 Option.bind (D.bin .add (gx v11 1) (D.int .i64 1)) fun x18=>
 Option.bind (D.get x8 [2]) fun x19=>
 Option.bind (D.asSl x19) fun l20=>
 Option.bind (D.bin .rem x18 (D.int .i64 (List.length l20))) fun x21=>
 Option.bind (D.asSl x17) fun l22=>
 Option.bind (D.idx x21 (List.length l22)) fun GK=>
 Option.bind (l22[GK]?) fun x24=>
 Option.bind (D.bin .lss x16 x24) fun x25=>
 Option.bind (D.truth x25) fun b26=>
 if b26 then(if List.length (D.els (gx v11 0))+List.length [(D.st [x16,x24])]<=1073741824 then(some (0,[(D.sl ((D.els (gx v11 0))++[(D.st [x16,x24])]))])) else none) else(some (0,[(D.sl (D.els (gx v11 0)))]))) fun(r27:Nat×List D)=>
 Option.bind (D.bin .add (gx v11 1) (D.int .i64 1)) fun x28=>
 some (Sum.inl [(D.sl (D.els (gx r27.2 0))),x28])) else(some (Sum.inr (0,[(D.sl (D.els (gx v11 0)))])))) [(D.sl (D.els (gx v3 0))),(D.int .i64 0)]) fun r29=>
 Option.bind (D.bin .add (gx v3 1) (D.int .i64 1)) fun x30=>
 some (Sum.inl [(D.sl (D.els (gx r29.2 0))),x30])) else(some (Sum.inr (0,[(D.sl (D.els (gx v3 0)))])))) [(D.sl []),(D.int .i64 0)]) fun r31=>
 Option.bind (if decide (List.length (D.els (gx r31.2 0))<=1073741824) then some (D.els (gx r31.2 0)) else none) fun l1=>
 Option.bind (hC (cm lp call (fj lp call)) 51 l1) fun l2=>some (D.sl l2)
theorem M9(lp:Lp)(call:Nat->List D->Option D)(a0:D):Dk (cm lp call (fj lp call)) (yK (cm lp call (fj lp call)) 48 3 51 K8) Tryz.f21 HZ [K3] [a0]=H7 lp call a0:=by kernel_rfl
def G8:AnnT:=(.seq .leaf (.seq .leaf (.seq (.two .leaf (.two (.loop ⟨[(3,.same (.map dO Ty.bool 8204)),(15,.dv (Ty.int .i64))],[(8204,.mp dO Ty.bool)],[0,14]⟩ [(.exit 0,⟨[(3,.same (.map dO Ty.bool 8204))],[(8204,.mp dO Ty.bool)],[]⟩)] (.two .leaf (.two .leaf (.two (.two (.two .leaf (.two .leaf (.two (.loop ⟨[(3,.same (.map dO Ty.bool 8204)),(19,.dv (Ty.int .i64))],[(8204,.mp dO Ty.bool)],[0,4,14,15,18]⟩ [(.exit 2,⟨[(3,.same (.map dO Ty.bool 8204))],[(8204,.mp dO Ty.bool)],[0,14,15]⟩)] (.two .leaf (.two .leaf (.two (.two (.two .leaf (.two .leaf (.two (.loop ⟨[(3,.same (.map dO Ty.bool 8204)),(23,.dv (Ty.int .i64))],[(8204,.mp dO Ty.bool)],[0,4,5,14,15,18,19,22]⟩ [(.exit 4,⟨[(3,.same (.map dO Ty.bool 8204))],[(8204,.mp dO Ty.bool)],[0,4,14,15,18,19]⟩)] (.two .leaf (.two .leaf (.cut [(.normal,⟨[(3,.same (.map dO Ty.bool 8204))],[(8204,.mp dO Ty.bool)],[0,4,5,14,15,18,19,22,23]⟩)] [0,4,5,14,15,18,19,22,23] [] (.two (.two .leaf (.two (.reg [] 14) (.two .leaf (.two .leaf (.two (.loop ⟨[(3,.same (.map dO Ty.bool 8204)),(51,.ow dO),(53,.dv (Ty.int .i64))],[(8204,.mp dO Ty.bool)],[0,4,5,14,15,18,19,22,23,52]⟩ [(.exit 6,⟨[(3,.same (.map dO Ty.bool 8204))],[(8204,.mp dO Ty.bool)],[0,4,5,14,15,18,19,22,23]⟩)] (.two .leaf (.two .leaf (.cut [(.normal,⟨[(3,.same (.map dO Ty.bool 8204)),(51,.ow dO)],[(8204,.mp dO Ty.bool)],[0,4,5,14,15,18,19,22,23,52,53]⟩)] [0,4,5,14,15,18,19,22,23,52,53] [] .leaf .leaf)))) .leaf))))) .leaf) .leaf)))) .leaf))) .leaf) .leaf)))) .leaf))) .leaf) .leaf)))) .leaf)) (.seq .leaf .hand))))
noncomputable def GM(lp:Lp)(call:Nat->List D->Option D)(a0:D):Option D:=
 Option.bind (D.asSl a0) fun l1=>
 Option.bind (lp (β:=Nat×List D) (fun(v2:List D)=>
 Option.bind (D.bin .lss (gx v2 0) (D.int .i64 (List.length l1))) fun x3=>
 Option.bind (D.truth x3) fun b4=>
 if b4 then(Option.bind (lp (β:=Nat×List D) (fun(v5:List D)=>
 Option.bind (D.bin .lss (gx v5 0) (gx v2 0)) fun x6=>
 Option.bind (D.truth x6) fun b7=>
 if b7 then(Option.bind (lp (β:=Nat×List D) (fun(v8:List D)=>
 Option.bind (D.bin .lss (gx v8 0) (gx v5 0)) fun x9=>
 Option.bind (D.truth x9) fun b10=>
 if b10 then(Option.bind (Option.bind (D.asSl a0) fun l11=>
 Option.bind (D.idx (gx v2 0) (List.length l11)) fun yX=>
 Option.bind (l11[yX]?) fun x13=>
 Option.bind (D.asSl a0) fun l14=>
 Option.bind (D.idx (gx v5 0) (List.length l14)) fun i15=>
 Option.bind (l14[i15]?) fun x16=>
 Option.bind (D.asSl a0) fun l17=>
 Option.bind (D.idx (gx v8 0) (List.length l17)) fun i18=>
 Option.bind (l17[i18]?) fun x19=>
 Option.bind (call 96 [x13,x16,x19]) fun r20=>
 Option.bind (D.get r20 [0]) fun x21=>
 Option.bind (D.truth (D.bool (D.beq x21 (D.st [(D.int .i64 0),(D.int .i64 0),(D.int .i64 0)])))) fun b22=>
 if b22 then(some (0,[(D.sl (D.els (gx v8 1)))])) else(Option.bind (D.get r20 [0]) fun x23=>
 Option.bind (call 97 [x23]) fun r24=>
 Option.bind (D.get r20 [1]) fun x25=>
 Option.bind (D.un .neg x25) fun x26=>
 Option.bind (lp (β:=Nat×List D) (fun(v27:List D)=>
 Option.bind (D.bin .lss (gx v27 1) (D.int .i64 2)) fun x28=>
 Option.bind (D.truth x28) fun b29=>
 if b29 then(Option.bind (Option.bind (D.idx (gx v27 1) (List.length (D.els (gx v27 0)))) fun i30=>
 Option.bind ((D.els (gx v27 0))[i30]?) fun x31=>
 Option.bind (D.un .not (Option.getD (D.mget (D.els (gx v27 2)) x31) (D.bool false))) fun x32=>
 Option.bind (D.truth x32) fun b33=>
 Option.bind (if b33 then(Option.bind (call 98 [a0,x31]) fun r34=>
 D.truth r34) else(some false)) fun b35=>
 Option.bind (D.truth (D.bool b35)) fun b36=>
 if b36 then(some (0,[(D.sl (D.els (gx v27 0))),(D.sl (D.mput (D.els (gx v27 2)) x31 (D.bool true)))])) else(some (0,[(D.sl (D.els (gx v27 0))),(D.sl (D.els (gx v27 2)))]))) fun(r37:Nat×List D)=>
 Option.bind (D.bin .add (gx v27 1) (D.int .i64 1)) fun x38=>
 some (Sum.inl [(D.sl (D.els (gx r37.2 0))),x38,(D.sl (D.els (gx r37.2 1)))])) else(some (Sum.inr (0,[(D.sl (D.els (gx v27 2)))])))) [(D.sl [r20,(D.st [r24,x26])]),(D.int .i64 0),(D.sl (D.els (gx v8 1)))]) fun r39=>
 some (0,[(D.sl (D.els (gx r39.2 0)))]))) fun(r40:Nat×List D)=>
 Option.bind (D.bin .add (gx v8 0) (D.int .i64 1)) fun x41=>
 some (Sum.inl [x41,(D.sl (D.els (gx r40.2 0)))])) else(some (Sum.inr (0,[(D.sl (D.els (gx v8 1)))])))) [(D.int .i64 0),(D.sl (D.els (gx v5 1)))]) fun r42=>
 Option.bind (D.bin .add (gx v5 0) (D.int .i64 1)) fun x43=>
 some (Sum.inl [x43,(D.sl (D.els (gx r42.2 0)))])) else(some (Sum.inr (0,[(D.sl (D.els (gx v5 1)))])))) [(D.int .i64 0),(D.sl (D.els (gx v2 1)))]) fun r44=>
 Option.bind (D.bin .add (gx v2 0) (D.int .i64 1)) fun x45=>
 some (Sum.inl [x45,(D.sl (D.els (gx r44.2 0)))])) else(some (Sum.inr (0,[(D.sl (D.els (gx v2 1)))])))) [(D.int .i64 0),(D.sl [])]) fun r46=>
 if decide (List.length (D.els (gx r46.2 0))<=1073741824) then(Option.bind (hC (cm lp call (fj lp call)) 100 (List.map rh (D.els (gx r46.2 0)))) fun l2=>some (D.sl l2)) else none
theorem MS(lp:Lp)(call:Nat->List D->Option D)(a0:D):Dk (cm lp call (fj lp call)) (um (cm lp call (fj lp call)) 85 3 10 100 dO Ty.bool) Tryz.f45 G8 [K2] [a0]=GM lp call a0:=by kernel_rfl
def jD(f:Func):Code:=match f.body with|some c=>c|none=>.skip
noncomputable def wS:Code:=mV (mJ (mJ (inLoop (mV (mJ (oV (oH (jD Tryz.f45) G8)))))))
noncomputable def xr:List Oper:=(FN (oV wS)).tail
noncomputable def IE:Code:=mJ wS
theorem Hj{lp:Lp}{call:Nat->List D->Option D}(hE:EnvOk Tryz.prog (cm lp call (fj lp call))){a0 y:D}(h:H7 lp call a0=some y):C8 Tryz.prog [K3] K9 21 [a0] y:=by
 refine qk hE (f:=21) (fn:=Tryz.f21) (ann:=HZ) (K:=yK (cm lp call (fj lp call)) 48 3 51 K8) (by kernel_rfl) (by kernel_rfl) ((M9 lp call a0).trans h) ?_
 intro c hb w S S' γ' β' s' a' w' hR hK
 have e:∀ c',Tryz.f21.body=some c'->(oH c' HZ).wpIn (FW none) 0 Tryz.prog (FE Tryz.prog Tryz.f21 w S K9 y) a' w'->(oH c HZ).wpIn (FW none) 0 Tryz.prog (FE Tryz.prog Tryz.f21 w S K9 y) a' w':=fun c' h1 h2=>by
  rw[hb] at h1;cases h1;exact h2
 refine e _ rfl ?_
 exact sH hE B6 (g:=51) (x:=3) (t:=45) (d2:=46) (nt:=48) (ann:=.leaf) (by kernel_rfl) (by kernel_rfl) rfl rfl (by decide) (fun l'=>by kernel_rfl) hR hK
theorem Ep{lp:Lp}{call:Nat->List D->Option D}:∀ X L k v,xj dO L X->L.length<1073741824->wt dO k->ev (cm lp call (fj lp call)) (.region 0 (xr).toArray false) .leaf D ((σL 85 10 73 X).put (some 76) (.d (.tup [dO,.bool]) (.tup [k,v]))) (fun x s'=>match x with
   | .normal=>ev (cm lp call (fj lp call)) IE .leaf D s' (fun x s''=>match x with|.normal=>(bR s'' dO 10).bind fun l=>some (.sl l)|_=>none)
   | _=>none)=some (.sl (L++[k])):=by
 intro X L k v hX hL _
 rcases hX with⟨rfl,rfl⟩|rfl
 ·kernel_rfl
 ·have key:ev (cm lp call (fj lp call)) (.region 0 (xr).toArray false) .leaf D ((σL 85 10 73 (.own dO 5 L)).put (some 76) (.d (.tup [dO,.bool]) (.tup [k,v]))) (fun x s'=>match x with
   | .normal=>ev (cm lp call (fj lp call)) IE .leaf D s' (fun x s''=>match x with|.normal=>(bR s'' dO 10).bind fun l=>some (.sl l)|_=>none)
   | _=>none)=(if List.length L+List.length [k]<=1073741824 then(Option.bind (if decide (List.length (L++[k])<=1073741824) then some (L++[k]) else none) fun l=>some (.sl l)) else none):=by kernel_rfl
  rw[key,if_pos (by simp;omega),if_pos (by simp;omega)]
  rfl
theorem HE{lp:Lp}{call:Nat->List D->Option D}(hE:EnvOk Tryz.prog (cm lp call (fj lp call))){a0 y:D}(h:GM lp call a0=some y):C8 Tryz.prog [K2] GN 45 [a0] y:=by
 refine qk hE (f:=45) (fn:=Tryz.f45) (ann:=G8) (K:=um (cm lp call (fj lp call)) 85 3 10 100 dO .bool) (by kernel_rfl) (by kernel_rfl) ((MS lp call a0).trans h) ?_
 intro c hb w S S' γ' β' s' a' w' hR hK
 have e:∀ c',Tryz.f45.body=some c'->(oH c' G8).wpIn (FW none) 0 Tryz.prog (FE Tryz.prog Tryz.f45 w S GN y) a' w'->(oH c G8).wpIn (FW none) 0 Tryz.prog (FE Tryz.prog Tryz.f45 w S GN y) a' w':=fun c' h1 h2=>by
  rw[hb] at h1;cases h1;exact h2
 refine e _ rfl ?_
 exact xI hE rfl rfl rfl rfl (by kernel_rfl) (t72:=72) (m0:=3) (it:=73) (T:=127) (nx:=74) (ok:=75) (en:=76) (o:=10) (nt:=85) (c26:=IE) (rest:=xr) rfl rfl rfl rfl (TK:=85) (TV:=4) (by kernel_rfl) (by decide) Ep CH (g:=100) (by kernel_rfl) (t:=82) (d2:=83) (ann:=.leaf) rfl rfl (by decide) (fun l'=>by kernel_rfl) hR hK
end Go.Proofs.YtjjjkojfijpeeaaGreat.Sy
end
section
namespace Go.Proofs.YtjjjkojfijpeeaaGreat.Sy
open Go Go.Proofs
theorem Og{lp:Lp}(hlp:az lp):ae 21 (m1 (H7 lp)):=by
 intro call hc ptys rty' xs y hs hy hw
 have:lX 21=some ([K3],K9):=by kernel_rfl
 rw[this] at hs;cases hs
 unfold m1 at hy
 split at hy<;>first|(cases hy;done)|skip
 exact Hj (DK hlp hc) hy
theorem Nk{lp:Lp}(hlp:az lp):ae 45 (m1 (GM lp)):=by
 intro call hc ptys rty' xs y hs hy hw
 have:lX 45=some ([K2],GN):=by kernel_rfl
 rw[this] at hs;cases hs
 unfold m1 at hy
 split at hy<;>first|(cases hy;done)|skip
 exact HE (DK hlp hc) hy
def jk(x:D):List D->List D
 | []=>[]
 | y::l=>if y.beq x then jk y l else y::jk y l
def ip:List D->List D
 | []=>[]
 | x::l=>x::jk x l
def pG(E:Env)(g:Nat)(l:List D):Option (List D):=if jn E g (ip (fO (jJ E g) l)) then some (fO (jJ E g) l) else none
noncomputable def nM(lp:Lp)(call:Nat->List D->Option D)(xs:List D):Option D:=match xs with
 | [.sl l]=>if decide (l.length<=1073741824) then(pG (cm lp call (fj lp call)) 94 l).bind fun l'=>some (.sl (ip l')) else none
 | _=>none
end Go.Proofs.YtjjjkojfijpeeaaGreat.Sy
end
section
set_option maxRecDepth 20000
set_option maxHeartbeats 0
namespace Go.Proofs.YtjjjkojfijpeeaaGreat.Sy
open Go Go.Proofs
noncomputable def GQ(lp:Lp):CT:=.node 101 (.node 54 (.node 30 (.node 18 (.node 13 (.node 10 (.leaf 6 (m2 (F6 lp))) (.node 11 (.leaf 10 (jA lp 10 Tryz.f10 Mo)) (.leaf 11 (m1 (GP lp))))) (.node 14 (.leaf 13 (m2 (Id lp))) (.node 17 (.leaf 14 (jA lp 14 Tryz.f14 .leaf)) (.leaf 17 (jA lp 17 Tryz.f17 Mg))))) (.node 23 (.node 20 (.leaf 18 (m1 (Ir lp))) (.node 21 (.leaf 20 (jA lp 20 Tryz.f20 Me)) (.leaf 21 (m1 (H7 lp))))) (.node 27 (.node 25 (.leaf 23 (m1 (H4 lp))) (.leaf 25 (jA lp 25 Tryz.f25 Mk))) (.node 28 (.leaf 27 (jA lp 27 Tryz.f27 Ma)) (.leaf 28 (jA lp 28 Tryz.f28 Mq)))))) (.node 44 (.node 34 (.node 31 (.leaf 30 (m2 (GS lp))) (.node 32 (.leaf 31 (m1 (H9 lp))) (.leaf 32 (m2 (Ix lp))))) (.node 42 (.node 37 (.leaf 34 (m1 (IB lp))) (.leaf 37 (m2 (Iw lp)))) (.node 43 (.leaf 42 (jA lp 42 Tryz.f42 .leaf)) (.leaf 43 (jA lp 43 Tryz.f43 Mm))))) (.node 49 (.node 45 (.leaf 44 (nM lp)) (.node 46 (.leaf 45 (m1 (GM lp))) (.leaf 46 (m2 (Iq lp))))) (.node 52 (.node 51 (.leaf 49 (jA lp 49 Tryz.f49 Mc)) (.leaf 51 (jA lp 51 Tryz.f51 Mp))) (.node 53 (.leaf 52 (m1 (It lp))) (.leaf 53 (m2 (Im lp)))))))) (.node 81 (.node 72 (.node 62 (.node 57 (.leaf 54 (m1 (Is lp))) (.node 61 (.leaf 57 (m2 (HW lp))) (.leaf 61 (m2 (Ih lp))))) (.node 68 (.leaf 62 (m2 (Ie lp))) (.node 71 (.leaf 68 (m1 (Iu lp))) (.leaf 71 (m1 (Ig lp)))))) (.node 75 (.node 73 (.leaf 72 (m2 (Ip lp))) (.node 74 (.leaf 73 (m2 (Ic lp))) (.leaf 74 (m1 (H5 lp))))) (.node 77 (.node 76 (.leaf 75 (m1 (Ik lp))) (.leaf 76 (m1 (Il lp)))) (.node 78 (.leaf 77 (m1 (H0 lp))) (.leaf 78 (m2 (Ij lp))))))) (.node 90 (.node 84 (.node 82 (.leaf 81 (m2 (Iv lp))) (.node 83 (.leaf 82 (m2 (H6 lp))) (.leaf 83 (m1 (HY lp))))) (.node 86 (.node 85 (.leaf 84 (jA lp 84 Tryz.f84 .leaf)) (.leaf 85 (m2 (HP lp)))) (.node 87 (.leaf 86 (m1 (IA lp))) (.leaf 87 (m2 (Ho lp)))))) (.node 96 (.node 91 (.leaf 90 (m2 (H1 lp))) (.node 94 (.leaf 91 (m2 (Ia lp))) (.leaf 94 (m2 (Iz lp))))) (.node 98 (.node 97 (.leaf 96 (m3 (Io lp))) (.leaf 97 (m1 (Ib lp)))) (.node 100 (.leaf 98 (m2 (Ii lp))) (.leaf 100 (m2 (EI lp))))))))) (.node 140 (.node 126 (.node 118 (.node 115 (.node 103 (.leaf 101 (m2 (CP lp))) (.node 104 (.leaf 103 (m2 (Ej lp))) (.leaf 104 (m3 (DZ lp))))) (.node 116 (.leaf 115 (m1 (DE lp))) (.node 117 (.leaf 116 (m2 (DW lp))) (.leaf 117 (m2 (Dw lp)))))) (.node 121 (.node 119 (.leaf 118 (m1 (Dx lp))) (.node 120 (.leaf 119 (m0 (Ee lp))) (.leaf 120 (m2 (Ea lp))))) (.node 124 (.node 122 (.leaf 121 (m2 (Eh lp))) (.leaf 122 (m2 (EP lp)))) (.node 125 (.leaf 124 (m1 (BE lp))) (.leaf 125 (jA lp 125 Tryz.f125 .leaf)))))) (.node 133 (.node 129 (.node 127 (.leaf 126 (m2 (El lp))) (.node 128 (.leaf 127 (m1 (DG lp))) (.leaf 128 (m1 (Fe lp))))) (.node 131 (.node 130 (.leaf 129 (m1 (EK lp))) (.leaf 130 (jA lp 130 Tryz.f130 .leaf))) (.node 132 (.leaf 131 (m2 (Es lp))) (.leaf 132 (m2 (Dy lp)))))) (.node 136 (.node 134 (.leaf 133 (m0 (Eo lp))) (.node 135 (.leaf 134 (m2 (E7 lp))) (.leaf 135 (m1 (Dv lp))))) (.node 138 (.node 137 (.leaf 136 (m1 (DS lp))) (.leaf 137 (m2 (DQ lp)))) (.node 139 (.leaf 138 (m1 (Do lp))) (.leaf 139 (m1 (Fn lp)))))))) (.node 170 (.node 148 (.node 143 (.node 141 (.leaf 140 (m1 (Dh lp))) (.node 142 (.leaf 141 (m2 (DV lp))) (.leaf 142 (m1 (Eb lp))))) (.node 146 (.node 144 (.leaf 143 (m2 (Fu lp))) (.leaf 144 (m2 (Dm lp)))) (.node 147 (.leaf 146 (m2 (Ft lp))) (.leaf 147 (m2 (Dt lp)))))) (.node 165 (.node 152 (.leaf 148 (m1 (D6 lp))) (.node 154 (.leaf 152 (m2 (Eg lp))) (.leaf 154 (m2 (E4 lp))))) (.node 168 (.node 167 (.leaf 165 (m1 (Du lp))) (.leaf 167 (m1 (D1 lp)))) (.node 169 (.leaf 168 (m2 (Di lp))) (.leaf 169 (m0 (Dq lp))))))) (.node 195 (.node 173 (.node 171 (.leaf 170 (m2 (ET lp))) (.node 172 (.leaf 171 (m1 (Fq lp))) (.leaf 172 (m2 (DY lp))))) (.node 175 (.node 174 (.leaf 173 (m2 (EX lp))) (.leaf 174 (m2 (ED lp)))) (.node 194 (.leaf 175 (m2 (DH lp))) (.leaf 194 (m1 (DP lp)))))) (.node 201 (.node 196 (.leaf 195 (m2 (Fb lp))) (.node 197 (.leaf 196 (m1 (D8 lp))) (.leaf 197 (m2 (D9 lp))))) (.node 203 (.node 202 (.leaf 201 (m2 (D5 lp))) (.leaf 202 (m1 (Am lp)))) (.node 217 (.leaf 203 (jA lp 203 Tryz.f203 Hk)) (.leaf 217 (m1 (Eu lp)))))))))
theorem EV{lp:Lp}(hlp:az lp)(h44:ae 44 (nM lp)):(GQ lp).ok:=⟨⟨⟨⟨⟨⟨L6 hlp,⟨MM hlp,Oj hlp⟩⟩,⟨NZ hlp,⟨Ox hlp,N5 hlp⟩⟩⟩,⟨⟨OI hlp,⟨MK hlp,Og hlp⟩⟩,⟨⟨MA hlp,NG hlp⟩,⟨M6 hlp,Np hlp⟩⟩⟩⟩,⟨⟨⟨NR hlp,⟨MG hlp,NY hlp⟩⟩,⟨⟨Mz hlp,OA hlp⟩,⟨Nz hlp,Mt hlp⟩⟩⟩,⟨⟨h44,⟨Nk hlp,Nu hlp⟩⟩,⟨⟨NQ hlp,MB hlp⟩,⟨OD hlp,OR hlp⟩⟩⟩⟩⟩,⟨⟨⟨⟨MQ hlp,⟨NU hlp,M5 hlp⟩⟩,⟨Oo hlp,⟨OK hlp,NC hlp⟩⟩⟩,⟨⟨MU hlp,⟨Oc hlp,NV hlp⟩⟩,⟨⟨OV hlp,NB hlp⟩,⟨Nc hlp,OO hlp⟩⟩⟩⟩,⟨⟨⟨Nl hlp,⟨MT hlp,OF hlp⟩⟩,⟨⟨Ou hlp,NA hlp⟩,⟨OE hlp,MZ hlp⟩⟩⟩,⟨⟨OP hlp,⟨ME hlp,M3 hlp⟩⟩,⟨⟨NW hlp,NX hlp⟩,⟨NI hlp,J0 hlp⟩⟩⟩⟩⟩⟩,⟨⟨⟨⟨⟨Jc hlp,⟨JP hlp,JO hlp⟩⟩,⟨Lh hlp,⟨JS hlp,Ln hlp⟩⟩⟩,⟨⟨JT hlp,⟨LI hlp,Jd hlp⟩⟩,⟨⟨J3 hlp,KA hlp⟩,⟨KW hlp,KL hlp⟩⟩⟩⟩,⟨⟨⟨LN hlp,⟨LU hlp,LH hlp⟩⟩,⟨⟨KK hlp,Jb hlp⟩,⟨Jl hlp,Jw hlp⟩⟩⟩,⟨⟨Km hlp,⟨Js hlp,I4 hlp⟩⟩,⟨⟨KS hlp,JG hlp⟩,⟨IU hlp,Lz hlp⟩⟩⟩⟩⟩,⟨⟨⟨⟨KE hlp,⟨Lx hlp,KZ hlp⟩⟩,⟨⟨KB hlp,J7 hlp⟩,⟨Kq hlp,J9 hlp⟩⟩⟩,⟨⟨IF hlp,⟨Jy hlp,LY hlp⟩⟩,⟨⟨IM hlp,JQ hlp⟩,⟨Kc hlp,JF hlp⟩⟩⟩⟩,⟨⟨⟨Lj hlp,⟨J8 hlp,I1 hlp⟩⟩,⟨⟨JD hlp,Lm hlp⟩,⟨I2 hlp,IS hlp⟩⟩⟩,⟨⟨Je hlp,⟨I0 hlp,IG hlp⟩⟩,⟨⟨Kd hlp,Ja hlp⟩,⟨LG hlp,KM hlp⟩⟩⟩⟩⟩⟩⟩
noncomputable def uT(lp:Lp):Nat->Nat->List D->Option D
 | 0=>fun _ _=>none
 | n+1=>fun f xs=>(GQ lp).get f (uT lp n) xs
theorem qd{lp:Lp}(hlp:az lp)(h44:ae 44 (nM lp)):∀ n,jl Tryz.prog (uT lp n)
 | 0=>fun f ptys rty xs y _ h _=>by cases h
 | n+1=>CT.get_ok (EV hlp h44) (qd hlp h44 n)
end Go.Proofs.YtjjjkojfijpeeaaGreat.Sy
end
section
set_option maxRecDepth 100000
set_option maxHeartbeats 0
namespace Go.Proofs.YtjjjkojfijpeeaaGreat.Sy
open Go Go.Proofs
noncomputable def Mf(N:Nat):Lp:=fun{α β} body=>mR (α:=α) (β:=β) body N
theorem ye:uT (Mf 2000) 20 10 []=some (.bool true):=by kernel_rfl
end Go.Proofs.YtjjjkojfijpeeaaGreat.Sy
end
section
set_option maxRecDepth 20000
namespace Go.Proofs.YtjjjkojfijpeeaaGreat.Sy
open Go Go.Proofs
noncomputable def bg:Lp:=fun{α β} body=>j7 (α:=α) (β:=β) body
noncomputable def cA(n:Nat):Nat->List D->Option D:=uT bg n
theorem H3(n:Nat)(a0:D):cA (n+1) 11 [a0]=GP bg (cA n) a0:=by kernel_rfl
theorem OT(n:Nat)(a0 a1:D):cA (n+1) 13 [a0,a1]=Id bg (cA n) a0 a1:=by kernel_rfl
theorem NN(n:Nat)(a0:D):cA (n+1) 18 [a0]=Ir bg (cA n) a0:=by kernel_rfl
theorem MJ(n:Nat)(a0:D):cA (n+1) 23 [a0]=H4 bg (cA n) a0:=by kernel_rfl
theorem MN(n:Nat)(a0 a1:D):cA (n+1) 30 [a0,a1]=GS bg (cA n) a0 a1:=by kernel_rfl
theorem Na(n:Nat)(a0:D):cA (n+1) 31 [a0]=H9 bg (cA n) a0:=by kernel_rfl
theorem u32(n:Nat)(a0 a1:D):cA (n+1) 32 [a0,a1]=Ix bg (cA n) a0 a1:=by kernel_rfl
theorem Nm(n:Nat)(a0:D):cA (n+1) 34 [a0]=IB bg (cA n) a0:=by kernel_rfl
theorem Mu(n:Nat)(a0 a1:D):cA (n+1) 37 [a0,a1]=Iw bg (cA n) a0 a1:=by kernel_rfl
theorem MP(n:Nat)(a0:D):cA (n+1) 45 [a0]=GM bg (cA n) a0:=by kernel_rfl
theorem M4(n:Nat)(a0 a1:D):cA (n+1) 46 [a0,a1]=Iq bg (cA n) a0 a1:=by kernel_rfl
theorem Oz(n:Nat)(a0:D):cA (n+1) 52 [a0]=It bg (cA n) a0:=by kernel_rfl
theorem ON(n:Nat)(a0 a1:D):cA (n+1) 53 [a0,a1]=Im bg (cA n) a0 a1:=by kernel_rfl
theorem M0(n:Nat)(a0:D):cA (n+1) 54 [a0]=Is bg (cA n) a0:=by kernel_rfl
theorem NP(n:Nat)(a0 a1:D):cA (n+1) 57 [a0,a1]=HW bg (cA n) a0 a1:=by kernel_rfl
theorem Nw(n:Nat)(a0 a1:D):cA (n+1) 61 [a0,a1]=Ih bg (cA n) a0 a1:=by kernel_rfl
theorem Nb(n:Nat)(a0 a1:D):cA (n+1) 62 [a0,a1]=Ie bg (cA n) a0 a1:=by kernel_rfl
theorem Oy(n:Nat)(a0:D):cA (n+1) 68 [a0]=Iu bg (cA n) a0:=by kernel_rfl
theorem M1(n:Nat)(a0:D):cA (n+1) 71 [a0]=Ig bg (cA n) a0:=by kernel_rfl
theorem Oi(n:Nat)(a0 a1:D):cA (n+1) 72 [a0,a1]=Ip bg (cA n) a0 a1:=by kernel_rfl
theorem OC(n:Nat)(a0 a1:D):cA (n+1) 73 [a0,a1]=Ic bg (cA n) a0 a1:=by kernel_rfl
theorem NM(n:Nat)(a0:D):cA (n+1) 74 [a0]=H5 bg (cA n) a0:=by kernel_rfl
theorem Ny(n:Nat)(a0:D):cA (n+1) 75 [a0]=Ik bg (cA n) a0:=by kernel_rfl
theorem N6(n:Nat)(a0:D):cA (n+1) 76 [a0]=Il bg (cA n) a0:=by kernel_rfl
theorem Nr(n:Nat)(a0:D):cA (n+1) 77 [a0]=H0 bg (cA n) a0:=by kernel_rfl
theorem OW(n:Nat)(a0 a1:D):cA (n+1) 78 [a0,a1]=Ij bg (cA n) a0 a1:=by kernel_rfl
theorem M8(n:Nat)(a0 a1:D):cA (n+1) 81 [a0,a1]=Iv bg (cA n) a0 a1:=by kernel_rfl
theorem On(n:Nat)(a0 a1:D):cA (n+1) 82 [a0,a1]=H6 bg (cA n) a0 a1:=by kernel_rfl
theorem OL(n:Nat)(a0:D):cA (n+1) 83 [a0]=HY bg (cA n) a0:=by kernel_rfl
theorem Mj(n:Nat)(a0 a1:D):cA (n+1) 85 [a0,a1]=HP bg (cA n) a0 a1:=by kernel_rfl
theorem Oh(n:Nat)(a0:D):cA (n+1) 86 [a0]=IA bg (cA n) a0:=by kernel_rfl
theorem L5(n:Nat)(a0 a1:D):cA (n+1) 87 [a0,a1]=Ho bg (cA n) a0 a1:=by kernel_rfl
theorem NS(n:Nat)(a0 a1:D):cA (n+1) 90 [a0,a1]=H1 bg (cA n) a0 a1:=by kernel_rfl
theorem Mx(n:Nat)(a0 a1:D):cA (n+1) 91 [a0,a1]=Ia bg (cA n) a0 a1:=by kernel_rfl
theorem MH(n:Nat)(a0 a1:D):cA (n+1) 94 [a0,a1]=Iz bg (cA n) a0 a1:=by kernel_rfl
theorem Nd(n:Nat)(a0 a1 a2:D):cA (n+1) 96 [a0,a1,a2]=Io bg (cA n) a0 a1 a2:=by kernel_rfl
theorem MD(n:Nat)(a0:D):cA (n+1) 97 [a0]=Ib bg (cA n) a0:=by kernel_rfl
theorem Ok(n:Nat)(a0 a1:D):cA (n+1) 98 [a0,a1]=Ii bg (cA n) a0 a1:=by kernel_rfl
theorem JW(n:Nat)(a0 a1:D):cA (n+1) 100 [a0,a1]=EI bg (cA n) a0 a1:=by kernel_rfl
theorem Kh(n:Nat)(a0 a1:D):cA (n+1) 101 [a0,a1]=CP bg (cA n) a0 a1:=by kernel_rfl
theorem LT(n:Nat)(a0 a1:D):cA (n+1) 103 [a0,a1]=Ej bg (cA n) a0 a1:=by kernel_rfl
theorem JZ(n:Nat)(a0 a1 a2:D):cA (n+1) 104 [a0,a1,a2]=DZ bg (cA n) a0 a1 a2:=by kernel_rfl
theorem Jp(n:Nat)(a0:D):cA (n+1) 115 [a0]=DE bg (cA n) a0:=by kernel_rfl
theorem Ju(n:Nat)(a0 a1:D):cA (n+1) 116 [a0,a1]=DW bg (cA n) a0 a1:=by kernel_rfl
theorem Ke(n:Nat)(a0 a1:D):cA (n+1) 117 [a0,a1]=Dw bg (cA n) a0 a1:=by kernel_rfl
theorem Kg(n:Nat)(a0:D):cA (n+1) 118 [a0]=Dx bg (cA n) a0:=by kernel_rfl
theorem Kj(n:Nat):cA (n+1) 119 []=Ee bg (cA n) :=by kernel_rfl
theorem JV(n:Nat)(a0 a1:D):cA (n+1) 120 [a0,a1]=Ea bg (cA n) a0 a1:=by kernel_rfl
theorem JM(n:Nat)(a0 a1:D):cA (n+1) 121 [a0,a1]=Eh bg (cA n) a0 a1:=by kernel_rfl
theorem Li(n:Nat)(a0 a1:D):cA (n+1) 122 [a0,a1]=EP bg (cA n) a0 a1:=by kernel_rfl
theorem G1(n:Nat)(a0:D):cA (n+1) 124 [a0]=BE bg (cA n) a0:=by kernel_rfl
theorem Lr(n:Nat)(a0 a1:D):cA (n+1) 126 [a0,a1]=El bg (cA n) a0 a1:=by kernel_rfl
theorem JN(n:Nat)(a0:D):cA (n+1) 127 [a0]=DG bg (cA n) a0:=by kernel_rfl
theorem Kb(n:Nat)(a0:D):cA (n+1) 128 [a0]=Fe bg (cA n) a0:=by kernel_rfl
theorem Jv(n:Nat)(a0:D):cA (n+1) 129 [a0]=EK bg (cA n) a0:=by kernel_rfl
theorem IJ(n:Nat)(a0 a1:D):cA (n+1) 131 [a0,a1]=Es bg (cA n) a0 a1:=by kernel_rfl
theorem I5(n:Nat)(a0 a1:D):cA (n+1) 132 [a0,a1]=Dy bg (cA n) a0 a1:=by kernel_rfl
theorem Kx(n:Nat):cA (n+1) 133 []=Eo bg (cA n) :=by kernel_rfl
theorem Jr(n:Nat)(a0 a1:D):cA (n+1) 134 [a0,a1]=E7 bg (cA n) a0 a1:=by kernel_rfl
theorem Ka(n:Nat)(a0:D):cA (n+1) 135 [a0]=Dv bg (cA n) a0:=by kernel_rfl
theorem KY(n:Nat)(a0:D):cA (n+1) 136 [a0]=DS bg (cA n) a0:=by kernel_rfl
theorem KH(n:Nat)(a0 a1:D):cA (n+1) 137 [a0,a1]=DQ bg (cA n) a0 a1:=by kernel_rfl
theorem LL(n:Nat)(a0:D):cA (n+1) 138 [a0]=Do bg (cA n) a0:=by kernel_rfl
theorem J1(n:Nat)(a0:D):cA (n+1) 139 [a0]=Fn bg (cA n) a0:=by kernel_rfl
theorem LS(n:Nat)(a0:D):cA (n+1) 140 [a0]=Dh bg (cA n) a0:=by kernel_rfl
theorem I6(n:Nat)(a0 a1:D):cA (n+1) 141 [a0,a1]=DV bg (cA n) a0 a1:=by kernel_rfl
theorem LP(n:Nat)(a0:D):cA (n+1) 142 [a0]=Eb bg (cA n) a0:=by kernel_rfl
theorem LB(n:Nat)(a0 a1:D):cA (n+1) 143 [a0,a1]=Fu bg (cA n) a0 a1:=by kernel_rfl
theorem LC(n:Nat)(a0 a1:D):cA (n+1) 144 [a0,a1]=Dm bg (cA n) a0 a1:=by kernel_rfl
theorem L3(n:Nat)(a0 a1:D):cA (n+1) 146 [a0,a1]=Ft bg (cA n) a0 a1:=by kernel_rfl
theorem Lb(n:Nat)(a0 a1:D):cA (n+1) 147 [a0,a1]=Dt bg (cA n) a0 a1:=by kernel_rfl
theorem Kt(n:Nat)(a0:D):cA (n+1) 148 [a0]=D6 bg (cA n) a0:=by kernel_rfl
theorem IP(n:Nat)(a0 a1:D):cA (n+1) 152 [a0,a1]=Eg bg (cA n) a0 a1:=by kernel_rfl
theorem KJ(n:Nat)(a0 a1:D):cA (n+1) 154 [a0,a1]=E4 bg (cA n) a0 a1:=by kernel_rfl
theorem JX(n:Nat)(a0:D):cA (n+1) 165 [a0]=Du bg (cA n) a0:=by kernel_rfl
theorem Lc(n:Nat)(a0:D):cA (n+1) 167 [a0]=D1 bg (cA n) a0:=by kernel_rfl
theorem JL(n:Nat)(a0 a1:D):cA (n+1) 168 [a0,a1]=Di bg (cA n) a0 a1:=by kernel_rfl
theorem Kf(n:Nat):cA (n+1) 169 []=Dq bg (cA n) :=by kernel_rfl
theorem I7(n:Nat)(a0 a1:D):cA (n+1) 170 [a0,a1]=ET bg (cA n) a0 a1:=by kernel_rfl
theorem Le(n:Nat)(a0:D):cA (n+1) 171 [a0]=Fq bg (cA n) a0:=by kernel_rfl
theorem JJ(n:Nat)(a0 a1:D):cA (n+1) 172 [a0,a1]=DY bg (cA n) a0 a1:=by kernel_rfl
theorem Jx(n:Nat)(a0 a1:D):cA (n+1) 173 [a0,a1]=EX bg (cA n) a0 a1:=by kernel_rfl
theorem I3(n:Nat)(a0 a1:D):cA (n+1) 174 [a0,a1]=ED bg (cA n) a0 a1:=by kernel_rfl
theorem IW(n:Nat)(a0 a1:D):cA (n+1) 175 [a0,a1]=DH bg (cA n) a0 a1:=by kernel_rfl
theorem Lu(n:Nat)(a0:D):cA (n+1) 194 [a0]=DP bg (cA n) a0:=by kernel_rfl
theorem IH(n:Nat)(a0 a1:D):cA (n+1) 195 [a0,a1]=Fb bg (cA n) a0 a1:=by kernel_rfl
theorem Ks(n:Nat)(a0:D):cA (n+1) 196 [a0]=D8 bg (cA n) a0:=by kernel_rfl
theorem Ll(n:Nat)(a0 a1:D):cA (n+1) 197 [a0,a1]=D9 bg (cA n) a0 a1:=by kernel_rfl
theorem Kk(n:Nat)(a0 a1:D):cA (n+1) 201 [a0,a1]=D5 bg (cA n) a0 a1:=by kernel_rfl
theorem Jz(n:Nat)(a0:D):cA (n+1) 202 [a0]=Am bg (cA n) a0:=by kernel_rfl
theorem Ji(n:Nat)(a0:D):cA (n+1) 217 [a0]=Eu bg (cA n) a0:=by kernel_rfl
end Go.Proofs.YtjjjkojfijpeeaaGreat.Sy
end
section
namespace Go.Proofs.YtjjjkojfijpeeaaGreat.Geo
structure V where
 x:Int
 y:Int
 z:Int
deriving DecidableEq
namespace V
def sub(a b:V):V:=⟨a.x-b.x,a.y-b.y,a.z-b.z⟩
def neg(a:V):V:=⟨-a.x,-a.y,-a.z⟩
def add(a b:V):V:=⟨a.x+b.x,a.y+b.y,a.z+b.z⟩
def smul(k:Int)(a:V):V:=⟨k*a.x,k*a.y,k*a.z⟩
def dot(a b:V):Int:=a.x*b.x+a.y*b.y+a.z*b.z
def cross(a b:V):V:=⟨a.y*b.z-a.z*b.y,a.z*b.x-a.x*b.z,a.x*b.y-a.y*b.x⟩
def zero:V:=⟨0,0,0⟩
theorem ext'{a b:V}(h1:a.x=b.x)(h2:a.y=b.y)(h3:a.z=b.z):a=b:=by cases a;cases b;simp_all
end V
open V
theorem xi{a:Int}(h:a≠0):0<a*a:=by
 rcases Int.lt_or_lt_of_ne h with h|h
 ·exact Int.mul_pos_of_neg_of_neg h h
 ·exact Int.mul_pos h h
theorem sQ(a:Int):0<=a*a:=by
 rcases Int.lt_trichotomy a 0 with h|h|h
 ·exact Int.le_of_lt (Int.mul_pos_of_neg_of_neg h h)
 ·subst h;decide
 ·exact Int.le_of_lt (Int.mul_pos h h)
theorem oE(a:V):0<=dot a a:=by
 have:=sQ a.x;have:=sQ a.y;have:=sQ a.z
 simp only[dot];omega
theorem kN{a:V}(h:dot a a=0):a=zero:=by
 have h1:=sQ a.x;have h2:=sQ a.y;have h3:=sQ a.z
 simp only[dot] at h
 have e1:a.x*a.x=0:=by omega
 have e2:a.y*a.y=0:=by omega
 have e3:a.z*a.z=0:=by omega
 apply V.ext'<;>simp only[zero]<;>(first|(rcases Int.mul_eq_zero.1 e1 with h|h<;>exact h)|(rcases Int.mul_eq_zero.1 e2 with h|h<;>exact h)|(rcases Int.mul_eq_zero.1 e3 with h|h<;>exact h))
theorem aH{a:V}(h:a≠zero):0<dot a a:=by
 have:=oE a
 rcases Int.lt_or_eq_of_le this with h1|h1
 ·exact h1
 ·exact absurd (kN h1.symm) h
def T(n u v:V):Int:=dot n (cross u v)
theorem pv{a b:Int}(ha:0<a)(h:0<a*b):0<b:=by
 rcases Int.lt_trichotomy b 0 with hb|hb|hb
 ·have:=Int.mul_neg_of_pos_of_neg ha hb;omega
 ·subst hb;simp at h
 ·exact hb
theorem ko{a b:Int}(ha:0<a)(h:0<=a*b):0<=b:=by
 rcases Int.lt_or_le b 0 with hb|hb
 ·have:=Int.mul_neg_of_pos_of_neg ha hb;omega
 ·exact hb
theorem aJ{a b:Int}(ha:0<a)(h:a*b=0):b=0:=by
 rcases Int.mul_eq_zero.1 h with h|h
 ·omega
 ·exact h
section plane
variable{n:V}(hn:n≠zero)
include hn
theorem zk(f:V){u v w:V}(hu:dot n u=0)(hv:dot n v=0)(hw:dot n w=0) :
  dot f u*T n v w+dot f v*T n w u+dot f w*T n u v=0:=by
 have h:dot n n*(dot f u*T n v w+dot f v*T n w u+dot f w*T n u v)=0:=by
  simp only[T,dot,cross] at *;grind
 exact aJ (aH hn) h
theorem zy{f u v w:V}(hu:dot n u=0)(hv:dot n v=0)(hw:dot n w=0)(fu:0<dot f u)(fv:0<dot f v)(fw:0<dot f w)
  (h1:0<=T n u v) (h2:0<=T n v w):0<=T n u w/\(0<T n u v\/0<T n v w->0<T n u w):=by
 have p:=zk hn f hu hv hw
 have e:T n w u=- T n u w:=by simp only[T,dot,cross];grind
 rw[e] at p
 have q:dot f v*T n u w=dot f u*T n v w+dot f w*T n u v:=by
  have:dot f v*-T n u w=-(dot f v*T n u w):=Int.mul_neg _ _
  omega
 have q1:=Int.mul_nonneg (Int.le_of_lt fu) h2
 have q2:=Int.mul_nonneg (Int.le_of_lt fw) h1
 refine⟨ko fv (by omega),fun h=>pv fv ?_⟩
 rcases h with h|h
 ·have:=Int.mul_pos fw h;omega
 ·have:=Int.mul_pos fu h;omega
theorem dh{u v:V}(hu:dot n u=0)(hv:dot n v=0)(h:T n u v=0):cross u v=zero:=by
 have hp:=aH hn
 have e1:dot n n*(cross u v).x=T n u v*n.x:=by simp only[T,dot,cross] at *;grind
 have e2:dot n n*(cross u v).y=T n u v*n.y:=by simp only[T,dot,cross] at *;grind
 have e3:dot n n*(cross u v).z=T n u v*n.z:=by simp only[T,dot,cross] at *;grind
 rw[h,Int.zero_mul] at e1 e2 e3
 exact V.ext' (aJ hp e1) (aJ hp e2) (aJ hp e3)
end plane
theorem yu{u v:V}(h:cross u v=zero)(f:V):smul (dot f u) v=smul (dot f v) u:=by
 have h1:(cross u v).x=0:=by rw[h];rfl
 have h2:(cross u v).y=0:=by rw[h];rfl
 have h3:(cross u v).z=0:=by rw[h];rfl
 simp only[cross] at h1 h2 h3
 apply V.ext'<;>simp only[smul,dot]<;>grind
theorem BG{u v:V}(h:cross u v=zero)(hu:u≠zero)(hd:dot v u=dot u u):v=u:=by
 have p:=yu h u
 have e:dot u v=dot v u:=by simp only[dot];grind
 have hp:=aH hu
 rw[e,hd] at p
 have p1:dot u u*(v.x-u.x)=0:=by have:=congrArg V.x p;simp only[smul] at this;grind
 have p2:dot u u*(v.y-u.y)=0:=by have:=congrArg V.y p;simp only[smul] at this;grind
 have p3:dot u u*(v.z-u.z)=0:=by have:=congrArg V.z p;simp only[smul] at this;grind
 have:=aJ hp p1
 have:=aJ hp p2
 have:=aJ hp p3
 exact V.ext' (by omega) (by omega) (by omega)
theorem cU{α:Type}(φ:α->Int):∀ l:List α,∃ N:Int,0<N/\∀ x∈l,-N<φ x/\φ x<N
 | []=>⟨1,by decide,by simp⟩
 | a::l=>by
  obtain⟨N,h0,h⟩:=cU φ l
  refine⟨N+(φ a).natAbs+1,by omega,fun x hx=>?_⟩
  rcases List.mem_cons.1 hx with rfl|hx
  ·omega
  ·have:=h x hx;omega
def wy(P:Nat->V)(a x:Nat):V:=sub (P x) (P a)
structure Side(n:V)(P:Nat->V)(on:List Nat)(a b:Nat):Prop where
 mem:b∈on
 ne:b≠a
 all:∀ x∈on,0<=T n (wy P a b) (wy P a x)/\(T n (wy P a b) (wy P a x)=0->0<=dot (wy P a x) (wy P a b)/\dot (wy P a x) (wy P a b)<=dot (wy P a b) (wy P a b))
def cY(P:Nat->V)(on:List Nat)(a:Nat):Prop:=∃ f:V,∀ x∈on,x≠a->0<dot f (wy P a x)
structure Flat(n:V)(P:Nat->V)(on:List Nat):Prop where
 nz:n≠zero
 pl:∀ x∈on,∀ y∈on,dot n (wy P x y)=0
 inj:∀ x∈on,∀ y∈on,P x=P y->x=y
section poly
variable{n:V}{P:Nat->V}{on:List Nat}
theorem oB(h:Flat n P on){a b:Nat}(ha:a∈on)(hb:b∈on)(hab:b≠a):wy P a b≠zero:=fun e=>by
 apply hab
 apply h.inj b hb a ha
 have e1:=congrArg V.x e;have e2:=congrArg V.y e;have e3:=congrArg V.z e
 simp only[wy,sub,zero] at e1 e2 e3
 exact V.ext' (by omega) (by omega) (by omega)
theorem BA{a b c:Nat}(h:wy P a b=wy P a c):P b=P c:=by
 have e1:=congrArg V.x h;have e2:=congrArg V.y h;have e3:=congrArg V.z h
 simp only[wy,sub] at e1 e2 e3
 exact V.ext' (by omega) (by omega) (by omega)
theorem Side.unique(h:Flat n P on){a b c:Nat}(ha:a∈on)(hb:Side n P on a b)(hc:Side n P on a c):b=c:=by
 have h1:=hb.all c hc.mem
 have h2:=hc.all b hb.mem
 have e:T n (wy P a c) (wy P a b)=- T n (wy P a b) (wy P a c):=by simp only[T,dot,cross];grind
 rw[e] at h2
 have t0:T n (wy P a b) (wy P a c)=0:=by omega
 have k1:=h1.2 t0
 have k2:=h2.2 (by omega)
 have es:dot (wy P a b) (wy P a c)=dot (wy P a c) (wy P a b):=by simp only[dot];grind
 have hx:=dh h.nz (h.pl a ha b hb.mem) (h.pl a ha c hc.mem) t0
 have hq:dot (wy P a b) (wy P a b)*dot (wy P a c) (wy P a c)=dot (wy P a c) (wy P a b)*dot (wy P a c) (wy P a b):=by
  have p:=yu hx (wy P a b)
  have p1:=congrArg V.x p;have p2:=congrArg V.y p;have p3:=congrArg V.z p
  simp only[smul] at p1 p2 p3
  simp only[dot] at *;grind
 have hbp:=aH (oB h ha hb.mem hb.ne)
 have hcp:=aH (oB h ha hc.mem hc.ne)
 have hle:dot (wy P a c) (wy P a b)=dot (wy P a b) (wy P a b):=by
  generalize dot (wy P a b) (wy P a b)=B at *
  generalize dot (wy P a c) (wy P a c)=C at *
  generalize dot (wy P a c) (wy P a b)=X at *
  rw[es] at k2
  rcases Int.lt_or_eq_of_le k1.2 with hlt|heq
  ·exfalso
   have:X*X<B*C:=by
    have a1:X*X<=X*C:=Int.mul_le_mul_of_nonneg_left k2.2 k1.1
    have a2:X*C<B*C:=Int.mul_lt_mul_of_pos_right hlt hcp
    omega
   omega
  ·exact heq
 have:=BG hx (oB h ha hb.mem hb.ne) hle
 exact(h.inj c hc.mem b hb.mem (BA this)).symm
theorem Side.ext(h:Flat n P on){a b:Nat}(ha:a∈on)(hb:Side n P on a b):cY P on b:=by
 obtain⟨N,hN0,hN⟩:=cU (fun x=>dot (wy P b a) (wy P b x)) on
 refine⟨add (smul N (cross n (wy P a b))) (wy P b a),fun x hx hxb=>?_⟩
 have e:dot (add (smul N (cross n (wy P a b))) (wy P b a)) (wy P b x)=N*T n (wy P a b) (wy P a x)+dot (wy P b a) (wy P b x):=by
  simp only[T,dot,cross,add,smul,wy,sub];grind
 rw[e]
 obtain⟨h1,h2⟩:=hb.all x hx
 have h3:=hN x hx
 rcases Int.lt_or_eq_of_le h1 with hlt|heq
 ·have:N*1<=N*T n (wy P a b) (wy P a x):=Int.mul_le_mul_of_nonneg_left (by omega) (by omega)
  omega
 ·rw[<-heq,Int.mul_zero,Int.zero_add]
  have h4:=h2 heq.symm
  have e2:dot (wy P b a) (wy P b x)=dot (wy P a b) (wy P a b)-dot (wy P a x) (wy P a b):=by simp only[dot,wy,sub];grind
  rw[e2]
  rcases Int.lt_or_eq_of_le h4.2 with h5|h5
  ·omega
  ·exfalso
   have hx0:=dh h.nz (h.pl a ha b hb.mem) (h.pl a ha x hx) heq.symm
   exact hxb (h.inj x hx b hb.mem (BA (BG hx0 (oB h ha hb.mem hb.ne) h5)))
theorem cY.ray(h:Flat n P on){a x y:Nat}(ha:a∈on)(hx:x∈on)(hy:y∈on)(ea:cY P on a)(ex:cY P on x)(ey:cY P on y)(hxa:x≠a)(hya:y≠a)(ht:T n (wy P a x) (wy P a y)=0):x=y:=by
 by_cases hxy:x=y
 ·exact hxy
 exfalso
 obtain⟨f,hf⟩:=ea
 obtain⟨g,hg⟩:=ex
 obtain⟨k,hk⟩:=ey
 have c:=dh h.nz (h.pl a ha x hx) (h.pl a ha y hy) ht
 have p:=yu c f
 have fx:=hf x hx hxa
 have fy:=hf y hy hya
 have g1:=hg a ha (Ne.symm hxa);have g2:=hg y hy (Ne.symm hxy)
 have k1:=hk a ha (Ne.symm hya);have k2:=hk x hx hxy
 have q1:dot f (wy P a x)*dot g (wy P a y)=dot f (wy P a y)*dot g (wy P a x):=by
  have p1:=congrArg V.x p;have p2:=congrArg V.y p;have p3:=congrArg V.z p
  simp only[smul] at p1 p2 p3
  generalize dot f (wy P a x)=A at *
  generalize dot f (wy P a y)=B at *
  simp only[dot];grind
 have q2:dot f (wy P a x)*dot k (wy P a y)=dot f (wy P a y)*dot k (wy P a x):=by
  have p1:=congrArg V.x p;have p2:=congrArg V.y p;have p3:=congrArg V.z p
  simp only[smul] at p1 p2 p3
  generalize dot f (wy P a x)=A at *
  generalize dot f (wy P a y)=B at *
  simp only[dot];grind
 have eg1:dot g (wy P x a)=- dot g (wy P a x):=by simp only[dot,wy,sub];grind
 have eg2:dot g (wy P x y)=dot g (wy P a y)-dot g (wy P a x):=by simp only[dot,wy,sub];grind
 have ek1:dot k (wy P y a)=- dot k (wy P a y):=by simp only[dot,wy,sub];grind
 have ek2:dot k (wy P y x)=dot k (wy P a x)-dot k (wy P a y):=by simp only[dot,wy,sub];grind
 rw[eg1] at g1;rw[eg2] at g2;rw[ek1] at k1;rw[ek2] at k2
 generalize dot f (wy P a x)=A at *
 generalize dot f (wy P a y)=B at *
 generalize dot g (wy P a x)=gx at *
 generalize dot g (wy P a y)=gy at *
 generalize dot k (wy P a x)=kx at *
 generalize dot k (wy P a y)=ky at *
 have r1:B<A:=by
  rcases Int.lt_or_le B A with hh|hh
  ·exact hh
  ·exfalso
   have s1:B*gx<=A*gx:=by
    have:=Int.mul_le_mul_of_nonneg_right hh (show 0<=-gx by omega)
    simp only[Int.mul_neg] at this;omega
   have s2:A*gx<A*gy:=Int.mul_lt_mul_of_pos_left (by omega) fx
   omega
 have s3:A*ky<B*ky:=by
  have s4:B*ky<B*kx:=Int.mul_lt_mul_of_pos_left (by omega) fy
  have s5:A*ky=B*kx:=q2
  have s6:A*ky<=B*ky:=by
   have:=Int.mul_le_mul_of_nonneg_right (Int.le_of_lt r1) (show 0<=-ky by omega)
   simp only[Int.mul_neg] at this;omega
  omega
 have s4:B*ky<B*kx:=Int.mul_lt_mul_of_pos_left (by omega) fy
 omega
theorem HS(a x y:Nat):T n (wy P x y) (wy P x a)=T n (wy P a x) (wy P a y):=by
 simp only[T,dot,cross,wy,sub];grind
theorem FA(u v:V):T n v u=- T n u v:=by simp only[T,dot,cross];grind
theorem Side.after(h:Flat n P on){a x y:Nat}(ha:a∈on)(hx:x∈on)(ea:cY P on a)(ex:cY P on x)(hxa:x≠a)(hs:Side n P on x y)(hya:y≠a):0<T n (wy P a x) (wy P a y):=by
 have h1:=(hs.all a ha).1
 rw[HS] at h1
 rcases Int.lt_or_eq_of_le h1 with h2|h2
 ·exact h2
 ·exact absurd (cY.ray h ha hx hs.mem ea ex (hs.ext h hx) hxa hya h2.symm) hs.ne.symm
theorem Et(h:Flat n P on){a x y z:Nat}(ha:a∈on)(hx:x∈on)(hz:z∈on)(hs:Side n P on x y)(ez:cY P on z)(h1:0<T n (wy P a x) (wy P a z))(h2:0<T n (wy P a z) (wy P a y)):False:=by
 obtain⟨f,hf⟩:=ez
 have hza:a≠z:=fun e=>by subst e;simp[T,dot,cross,wy,sub] at h2
 have hzx:x≠z:=fun e=>by
  subst e
  have:T n (wy P a x) (wy P a x)=0:=by simp only[T,dot,cross];grind
  omega
 have hzy:y≠z:=fun e=>by
  subst e
  have:T n (wy P a y) (wy P a y)=0:=by simp only[T,dot,cross];grind
  omega
 have f1:=hf a ha hza
 have f2:=hf x hx hzx
 have f3:=hf y hs.mem hzy
 have h3:=(hs.all z hz).1
 have e:dot n n*(T n (wy P x y) (wy P x z)*dot f (wy P z a)+T n (wy P a z) (wy P a y)*dot f (wy P z x)+T n (wy P a x) (wy P a z)*dot f (wy P z y))=0:=by
  have p1:=h.pl z hz a ha
  have p2:=h.pl z hz x hx
  have p3:=h.pl z hz y hs.mem
  have e1:T n (wy P x y) (wy P x z)=T n (wy P z x) (wy P z y):=HS z x y
  have e2:T n (wy P a z) (wy P a y)=T n (wy P z y) (wy P z a):=by simp only[T,dot,cross,wy,sub];grind
  have e3:T n (wy P a x) (wy P a z)=T n (wy P z a) (wy P z x):=by simp only[T,dot,cross,wy,sub];grind
  rw[e1,e2,e3]
  have pk:=zk h.nz f p1 p2 p3
  rw[Int.mul_comm (dot f (wy P z a)),Int.mul_comm (dot f (wy P z x)),Int.mul_comm (dot f (wy P z y))] at pk
  rw[show T n (wy P z x) (wy P z y)*dot f (wy P z a)+T n (wy P z y) (wy P z a)*dot f (wy P z x)+T n (wy P z a) (wy P z x)*dot f (wy P z y)=0 from pk,Int.mul_zero]
 have e':=aJ (aH h.nz) e
 have m1:=Int.mul_nonneg h3 (Int.le_of_lt f1)
 have m2:=Int.mul_pos h2 f2
 have m3:=Int.mul_pos h1 f3
 omega
theorem rJ{α:Type}{p q:α->Bool}:∀ {l:List α},(∀ x∈l,p x=true->q x=true)->(∃ y∈l,q y=true/\p y=false)->l.countP p<l.countP q
 | [],_,h=>by obtain⟨y,hy,_⟩:=h;cases hy
 | a::l,h,hy=>by
  have hl:l.countP p<=l.countP q:=by
   have h':∀ x∈l,p x=true->q x=true:=fun x hx=>h x (List.mem_cons_of_mem _ hx)
   exact List.countP_mono_left h'
  have ha:=h a List.mem_cons_self
  rw[List.countP_cons,List.countP_cons]
  obtain⟨y,hm,hq,hp⟩:=hy
  rcases List.mem_cons.1 hm with rfl|hm
  ·simp[hq,hp];omega
  ·have:=rJ (l:=l) (fun x hx=>h x (List.mem_cons_of_mem _ hx)) ⟨y,hm,hq,hp⟩
   cases hpa:p a
   ·simp;omega
   ·simp[ha hpa];omega
inductive Chain(S:Nat->Nat->Prop)(a₀:Nat):Nat->List Nat->Prop
 | done {c:Nat}:S c a₀->Chain S a₀ c [c]
 | step {c y:Nat} {l:List Nat}:S c y->y≠a₀->Chain S a₀ y l->Chain S a₀ c (c::l)
theorem walk(h:Flat n P on){a:Nat}(ha:a∈on)(ea:cY P on a)(hnext:∀ c∈on,cY P on c->∃ b,Side n P on c b){c:Nat}(hc:c∈on)(ec:cY P on c)(hca:c≠a) :
  ∃ l,Chain (Side n P on) a c l/\(∀ z∈l,z∈on/\cY P on z/\z≠a/\(z=c\/0<T n (wy P a c) (wy P a z)))/\(∀ z∈on,cY P on z->z≠a->0<T n (wy P a c) (wy P a z)->z∈l) ∧
   l.Pairwise (fun x y=>0<T n (wy P a x) (wy P a y)):=by
 generalize hm:on.countP (fun z=>decide (0<T n (wy P a c) (wy P a z)))=m
 induction m using Nat.strongRecOn generalizing c with
 | _ m ih=>
  obtain⟨y,hy⟩:=hnext c hc ec
  obtain⟨f,hf⟩:=ea
  by_cases hya:y=a
  ·subst hya
   refine⟨[c],.done hy,fun z hz=>?_,fun z hz ez hza ht=>?_,by simp⟩
   ·rw[List.mem_singleton] at hz;subst hz;exact⟨hc,ec,hca,.inl rfl⟩
   ·have h1:=(hy.all z hz).1
    have e:T n (wy P c y) (wy P c z)=- T n (wy P y c) (wy P y z):=by simp only[T,dot,cross,wy,sub];grind
    omega
  ·have hxy:=Side.after h ha hc ⟨f,hf⟩ ec hca hy hya
   have ey:=hy.ext h hc
   have tr:∀ z∈on,0<T n (wy P a y) (wy P a z)->0<T n (wy P a c) (wy P a z):=fun z hz ht=>by
    have hza:z≠a:=fun e=>by
     subst e
     have:T n (wy P z y) (wy P z z)=0:=by simp[T,dot,cross,wy,sub]
     omega
    exact(zy h.nz (h.pl a ha c hc) (h.pl a ha y hy.mem) (h.pl a ha z hz) (hf c hc hca) (hf y hy.mem hya) (hf z hz hza) (Int.le_of_lt hxy) (Int.le_of_lt ht)).2 (.inl hxy)
   have self0:T n (wy P a y) (wy P a y)=0:=by simp only[T,dot,cross];grind
   obtain⟨l,k1,k2,k3,k4⟩:=ih _ (by
    rw[<-hm]
    refine rJ (fun z hz ht=>by simp only[decide_eq_true_eq] at ht ⊢;exact tr z hz ht) ⟨y,hy.mem,by simpa using hxy,by simp[self0]⟩) hy.mem ey hya rfl
   refine⟨c::l,.step hy hya k1,fun z hz=>?_,fun z hz ez hza ht=>?_,List.pairwise_cons.2 ⟨fun z hz=>?_,k4⟩⟩
   ·rcases List.mem_cons.1 hz with rfl|hz
    ·exact⟨hc,ec,hca,.inl rfl⟩
    ·obtain⟨q1,q2,q3,q4⟩:=k2 z hz
     refine⟨q1,q2,q3,.inr ?_⟩
     rcases q4 with rfl|q4
     ·exact hxy
     ·exact tr z q1 q4
   ·rcases Int.lt_trichotomy (T n (wy P a y) (wy P a z)) 0 with hlt|heq|hgt
    ·have e:=FA (n:=n) (wy P a y) (wy P a z)
     exact(Et h ha hc hz hy ez ht (by omega)).elim
    ·have:=cY.ray h ha hy.mem hz ⟨f,hf⟩ ey ez hya hza heq
     subst this
     have:y∈l:=by cases k1<;>exact List.mem_cons_self
     exact List.mem_cons_of_mem _ this
    ·exact List.mem_cons_of_mem _ (k3 z hz ez hza hgt)
   ·obtain⟨q1,q2,q3,q4⟩:=k2 z hz
    rcases q4 with rfl|q4
    ·exact hxy
    ·exact tr z q1 q4
def nQ(n:V)(P:Nat->V)(a b k:Nat):Bool:=
 decide (T n (wy P a b) (wy P a k)<0)||(decide (T n (wy P a b) (wy P a k)=0)&&decide (dot (wy P a b) (wy P a b)<dot (wy P a k) (wy P a k)))
def cE(n:V)(P:Nat->V)(a:Nat)(best:Option Nat)(k:Nat):Option Nat:=
 if k=a then best else match best with
  | none=>some k
  | some b=>if nQ n P a b k then some k else some b
theorem oc(h:Flat n P on){a:Nat}(ha:a∈on)(ea:cY P on a):∀ (l pre:List Nat) (best:Option Nat),(∀ x∈pre,x∈on)->(∀ x∈l,x∈on) ->
  (match best with
   | none=>∀ x∈pre,x=a
   | some b=>b∈pre/\b≠a/\∀ x∈pre,x≠a->0<T n (wy P a b) (wy P a x)\/(T n (wy P a b) (wy P a x)=0/\dot (wy P a x) (wy P a x)<=dot (wy P a b) (wy P a b))) ->
  match l.foldl (cE n P a) best with
   | none=>∀ x∈pre++l,x=a
   | some b=>b∈pre++l/\b≠a/\∀ x∈pre++l,x≠a->0<T n (wy P a b) (wy P a x)\/(T n (wy P a b) (wy P a x)=0/\dot (wy P a x) (wy P a x)<=dot (wy P a b) (wy P a b))
 | [],pre,best,_,_,hb=>by simpa using hb
 | k::l,pre,best,h1,h2,hb=>by
  rw[List.foldl_cons]
  have hk:k∈on:=h2 k List.mem_cons_self
  rw[show pre++k::l=(pre++[k])++l by simp]
  refine oc h ha ea l (pre++[k]) _ (fun x hx=>?_) (fun x hx=>h2 x (List.mem_cons_of_mem _ hx)) ?_
  ·rcases List.mem_append.1 hx with hx|hx
   ·exact h1 x hx
   ·rw[List.mem_singleton] at hx;exact hx ▸ hk
  unfold cE
  by_cases hka:k=a
  ·rw[if_pos hka]
   subst hka
   cases best with
   | none=>
    simp only at hb ⊢
    intro x hx
    rcases List.mem_append.1 hx with hx|hx
    ·exact hb x hx
    ·exact List.mem_singleton.1 hx
   | some b=>
    simp only at hb ⊢
    refine⟨List.mem_append_left _ hb.1,hb.2.1,fun x hx hxa=>?_⟩
    rcases List.mem_append.1 hx with hx|hx
    ·exact hb.2.2 x hx hxa
    ·exact absurd (List.mem_singleton.1 hx) hxa
  ·rw[if_neg hka]
   cases best with
   | none=>
    simp only at hb ⊢
    refine⟨List.mem_append_right _ (List.mem_singleton.2 rfl),hka,fun x hx hxa=>?_⟩
    rcases List.mem_append.1 hx with hx|hx
    ·exact absurd (hb x hx) hxa
    ·rw[List.mem_singleton.1 hx]
     right
     exact⟨by simp only[T,dot,cross];grind,Int.le_refl _⟩
   | some b=>
    simp only at hb ⊢
    obtain⟨b1,b2,b3⟩:=hb
    have hbon:=h1 b b1
    obtain⟨f,hf⟩:=ea
    by_cases hbt:nQ n P a b k=true
    ·rw[if_pos hbt]
     simp only
     refine⟨List.mem_append_right _ (List.mem_singleton.2 rfl),hka,fun x hx hxa=>?_⟩
     have sw:=FA (n:=n) (wy P a b) (wy P a k)
     simp only[nQ,Bool.or_eq_true,Bool.and_eq_true,decide_eq_true_eq] at hbt
     rcases List.mem_append.1 hx with hx|hx
     ·have hxon:=h1 x hx
      have c:=b3 x hx hxa
      have nn1:0<=T n (wy P a k) (wy P a b):=by omega
      have nn2:0<=T n (wy P a b) (wy P a x):=by omega
      obtain⟨t1,t2⟩:=zy h.nz (h.pl a ha k hk) (h.pl a ha b hbon) (h.pl a ha x hxon) (hf k hk hka) (hf b hbon b2) (hf x hxon hxa) nn1 nn2
      rcases Int.lt_or_eq_of_le t1 with hlt|heq
      ·exact .inl hlt
      ·right
       refine⟨heq.symm,?_⟩
       have:¬ (0<T n (wy P a k) (wy P a b)\/0<T n (wy P a b) (wy P a x)):=fun hh=>by have:=t2 hh;omega
       omega
     ·rw[List.mem_singleton.1 hx]
      right
      exact⟨by simp only[T,dot,cross];grind,Int.le_refl _⟩
    ·rw[if_neg hbt]
     simp only
     refine⟨List.mem_append_left _ b1,b2,fun x hx hxa=>?_⟩
     rcases List.mem_append.1 hx with hx|hx
     ·exact b3 x hx hxa
     ·rw[List.mem_singleton.1 hx]
      simp only[nQ,Bool.or_eq_true,Bool.and_eq_true,decide_eq_true_eq] at hbt
      omega
theorem iR(h:Flat n P on){a:Nat}(ha:a∈on)(ea:cY P on a)(h2:∃ x∈on,x≠a):∃ b,on.foldl (cE n P a) none=some b/\Side n P on a b:=by
 have key:=oc h ha ea on [] none (by simp) (fun x hx=>hx) (by simp)
 cases hr:on.foldl (cE n P a) none with
 | none=>
  rw[hr] at key
  obtain⟨x,hx,hxa⟩:=h2
  exact absurd (key x (by simpa using hx)) hxa
 | some b=>
  rw[hr] at key
  simp only[List.nil_append] at key
  obtain⟨k1,k2,k3⟩:=key
  refine⟨b,rfl,k1,k2,fun x hx=>?_⟩
  by_cases hxa:x=a
  ·subst hxa
   have e:wy P x x=zero:=by simp[wy,sub,zero]
   have:T n (wy P x b) (wy P x x)=0:=by rw[e];simp[T,dot,cross,zero]
   have hp:=oE (wy P x b)
   have e2:dot (wy P x x) (wy P x b)=0:=by rw[e];simp[dot,zero]
   rw[this,e2]
   exact⟨Int.le_refl _,fun _=>⟨Int.le_refl _,hp⟩⟩
  ·have c:=k3 x hx hxa
   refine⟨by omega,fun t0=>?_⟩
   have c2:dot (wy P a x) (wy P a x)<=dot (wy P a b) (wy P a b):=by omega
   obtain⟨f,hf⟩:=ea
   have hx0:=dh h.nz (h.pl a ha b k1) (h.pl a ha x hx) t0
   have p:=yu hx0 f
   have fb:=hf b k1 k2
   have fx:=hf x hx hxa
   have hbp:=aH (oB h ha k1 k2)
   have q1:dot f (wy P a b)*dot (wy P a x) (wy P a b)=dot f (wy P a x)*dot (wy P a b) (wy P a b):=by
    have p1:=congrArg V.x p;have p2:=congrArg V.y p;have p3:=congrArg V.z p
    simp only[smul] at p1 p2 p3
    generalize dot f (wy P a b)=A at *
    generalize dot f (wy P a x)=B at *
    simp only[dot];grind
   have hpos:0<dot (wy P a x) (wy P a b):=pv fb (by rw[q1];exact Int.mul_pos fx hbp)
   refine⟨Int.le_of_lt hpos,?_⟩
   have q2:dot (wy P a b) (wy P a b)*dot (wy P a x) (wy P a x)=dot (wy P a x) (wy P a b)*dot (wy P a x) (wy P a b):=by
    have p:=yu hx0 (wy P a b)
    have p1:=congrArg V.x p;have p2:=congrArg V.y p;have p3:=congrArg V.z p
    simp only[smul] at p1 p2 p3
    simp only[dot] at *;grind
   generalize dot (wy P a b) (wy P a b)=B at *
   generalize dot (wy P a x) (wy P a x)=X at *
   generalize dot (wy P a x) (wy P a b)=D at *
   rcases Int.lt_or_le B D with hlt|hle
   ·exfalso
    have a1:B*X<=B*B:=Int.mul_le_mul_of_nonneg_left c2 (Int.le_of_lt hbp)
    have a2:B*B<B*D:=Int.mul_lt_mul_of_pos_left hlt hbp
    have a3:B*D<D*D:=Int.mul_lt_mul_of_pos_right hlt hpos
    omega
   ·exact hle
end poly
open V
def ar(a b:V):Prop:=a.x<b.x\/a.x=b.x/\(a.y<b.y\/a.y=b.y/\a.z<b.z)
theorem sI{P:Nat->V}{on:List Nat}{a:Nat}(h:∀ x∈on,x≠a->ar (P a) (P x)):cY P on a:=by
 obtain⟨N1,p1,b1⟩:=cU (fun x=>(wy P a x).y) on
 obtain⟨N2,p2,b2⟩:=cU (fun x=>(wy P a x).z) on
 refine⟨⟨(N1+N2)*(N1+N2)+(N1+N2),N1+N2,1⟩,fun x hx hxa=>?_⟩
 have c1:=b1 x hx
 have c2:=b2 x hx
 have hl:=h x hx hxa
 simp only[wy,sub,ar,dot] at *
 generalize hX:(P x).x-(P a).x=X at *
 generalize hY:(P x).y-(P a).y=Y at *
 generalize hZ:(P x).z-(P a).z=Z at *
 generalize hN:N1+N2=N
 have hN0:0<N:=by omega
 have hY1:-N+1<=Y:=by omega
 have hY2:Y<=N-1:=by omega
 have hZ1:-N+1<=Z:=by omega
 have m1:N*(-N+1)<=N*Y:=Int.mul_le_mul_of_nonneg_left hY1 (Int.le_of_lt hN0)
 have m2:N*(-N+1)=-(N*N)+N:=by grind
 have hNN:0<N*N:=Int.mul_pos hN0 hN0
 rcases hl with hl|⟨h1,hl|⟨h2,hl⟩⟩
 ·have hX1:1<=X:=by omega
  have m3:(N*N+N)*1<=(N*N+N)*X:=Int.mul_le_mul_of_nonneg_left hX1 (by omega)
  omega
 ·have hX0:X=0:=by omega
  have hY3:1<=Y:=by omega
  have m3:N*1<=N*Y:=Int.mul_le_mul_of_nonneg_left hY3 (by omega)
  subst hX0
  simp only[Int.mul_zero]
  omega
 ·have hX0:X=0:=by omega
  have hY0:Y=0:=by omega
  subst hX0;subst hY0
  simp only[Int.mul_zero]
  omega
section poly
variable{n:V}{P:Nat->V}{on:List Nat}
theorem Chain.head{S:Nat->Nat->Prop}{a c:Nat}{l:List Nat}(h:Chain S a c l):∃ l',l=c::l':=by
 cases h<;>exact⟨_,rfl⟩
theorem Chain.pairs{S:Nat->Nat->Prop}{a:Nat}:∀ {c:Nat} {l:List Nat},Chain S a c l->∀ i x,l[i]?=some x->∃ y,(l++[a])[i+1]?=some y/\S x y
 | c,_,.done h,i,x,hx=>by
  cases i with
  | zero=>simp at hx;subst hx;exact⟨a,by simp,h⟩
  | succ i=>simp at hx
 | c,_,.step (y:=y) (l:=l) h hne k,i,x,hx=>by
  cases i with
  | zero=>
   simp at hx;subst hx
   obtain⟨l',rfl⟩:=k.head
   exact⟨y,by simp,h⟩
  | succ i=>
   obtain⟨z,h1,h2⟩:=Chain.pairs k i x (by simpa using hx)
   exact⟨z,by simpa using h1,h2⟩
theorem xf(h:Flat n P on){a:Nat}(ha:a∈on)(ea:cY P on a)(h3:∀ c∈on,∃ x∈on,x≠c) :
  ∃ l,Chain (Side n P on) a a l/\l.Nodup/\(∀ z∈l,z∈on/\cY P on z)/\∀ z∈on,cY P on z->z∈l:=by
 have hnext:∀ c∈on,cY P on c->∃ b,Side n P on c b:=fun c hc ec=>by
  obtain⟨b,_,hb⟩:=iR h hc ec (h3 c hc)
  exact⟨b,hb⟩
 obtain⟨c,hs⟩:=hnext a ha ea
 have ec:=hs.ext h ha
 obtain⟨l,k1,k2,k3,k4⟩:=walk h ha ea hnext hs.mem ec hs.ne
 refine⟨a::l,.step hs hs.ne k1,List.nodup_cons.2 ⟨fun hm=>(k2 a hm).2.2.1 rfl,?_⟩,fun z hz=>?_,fun z hz ez=>?_⟩
 ·refine List.Pairwise.imp (fun{x y} hxy e=>?_) k4
  subst e
  have:T n (wy P a x) (wy P a x)=0:=by simp only[T,dot,cross];grind
  omega
 ·rcases List.mem_cons.1 hz with rfl|hz
  ·exact⟨ha,ea⟩
  ·exact⟨(k2 z hz).1,(k2 z hz).2.1⟩
 ·by_cases hza:z=a
  ·subst hza;exact List.mem_cons_self
  ·refine List.mem_cons_of_mem _ ?_
   have h0:=(hs.all z hz).1
   rcases Int.lt_or_eq_of_le h0 with hp|he
   ·exact k3 z hz ez hza hp
   ·have:=cY.ray h ha hs.mem hz ea ec ez hs.ne hza he.symm
    subst this
    obtain⟨l',rfl⟩:=k1.head
    exact List.mem_cons_self
end poly
def sg(x:Int):Int:=if x<0 then -1 else if 0<x then 1 else 0
theorem pT(a b:Int):sg a*sg b=sg (a*b):=by
 rcases Int.lt_trichotomy a 0 with h|h|h<;>rcases Int.lt_trichotomy b 0 with k|k|k
 ·have:=Int.mul_pos_of_neg_of_neg h k;simp[sg,h,k,this,Int.not_lt.2 (Int.le_of_lt this)]
 ·subst k;simp[sg]
 ·have:=Int.mul_neg_of_neg_of_pos h k;simp[sg,h,k,this,Int.not_lt.2 (Int.le_of_lt k)]
 ·subst h;simp[sg]
 ·subst h;simp[sg]
 ·subst h;simp[sg]
 ·have:=Int.mul_neg_of_pos_of_neg h k;simp[sg,h,k,this,Int.not_lt.2 (Int.le_of_lt h)]
 ·subst k;simp[sg]
 ·have:=Int.mul_pos h k;simp[sg,h,k,this,Int.not_lt.2 (Int.le_of_lt h),Int.not_lt.2 (Int.le_of_lt k),Int.not_lt.2 (Int.le_of_lt this)]
theorem lm{x:Int}(h:0<x):sg x=1:=by simp[sg,h,Int.not_lt.2 (Int.le_of_lt h)]
theorem uE{x:Int}(h:x<0):sg x=-1:=by simp[sg,h]
def yE(n c:V):Int:=if n.x≠0 then sg n.x*sg c.x else if n.y≠0 then sg n.y*sg c.y else if n.z≠0 then sg n.z*sg c.z else 0
theorem qf{a b p:Int}(hp:0<p){q:Int}(hq:0<q)(h:a*p=q*b):sg a=sg b:=by
 have h1:sg (a*p)=sg a:=by rw[<-pT,lm hp];simp
 have h2:sg (q*b)=sg b:=by rw[<-pT,lm hq];simp
 rw[<-h1,<-h2,h]
theorem En{n c:V}(hn:n≠zero)(h:cross n c=zero):yE n c=sg (dot n c):=by
 have h1:=congrArg V.x h;have h2:=congrArg V.y h;have h3:=congrArg V.z h
 simp only[cross,zero] at h1 h2 h3
 have hp:=aH hn
 have e1:n.x*c.x*dot n n=n.x*n.x*dot n c:=by simp only[dot];grind
 have e2:n.y*c.y*dot n n=n.y*n.y*dot n c:=by simp only[dot];grind
 have e3:n.z*c.z*dot n n=n.z*n.z*dot n c:=by simp only[dot];grind
 unfold yE
 split
 ·rename_i k;rw[pT];exact qf hp (xi k) e1
 ·split
  ·rename_i k;rw[pT];exact qf hp (xi k) e2
  ·split
   ·rename_i k;rw[pT];exact qf hp (xi k) e3
   ·rename_i k1 k2 k3
    exact absurd (V.ext' (by simpa [zero] using k1) (by simpa [zero] using k2) (by simpa [zero] using k3)) hn
theorem dC{n u v:V}(hu:dot n u=0)(hv:dot n v=0):cross n (cross u v)=zero:=by
 simp only[dot] at hu hv
 apply V.ext'<;>simp only[cross,zero]<;>grind
open V
def aU(P:Nat->V)(N:Nat)(n:V)(d:Int):List Nat:=(List.range N).filter fun k=>decide (dot n (P k)=d)
def Dp(P:Nat->V)(N:Nat)(n:V)(d:Int):Prop:=(∀ k,k<N->dot n (P k)<=d)/\∃ k,k<N/\dot n (P k)<d
def dW(P:Nat->V)(i j k:Nat):V:=cross (wy P i j) (wy P i k)
def cn(v:V):Nat:=Nat.gcd (Nat.gcd v.x.natAbs v.y.natAbs) v.z.natAbs
def bw(v:V):V:=⟨v.x/cn v,v.y/cn v,v.z/cn v⟩
structure IsF(P:Nat->V)(N:Nat)(n:V)(d:Int):Prop where
 ex:∃ i j k,i<j/\j<k/\k<N/\dW P i j k≠zero/\(n=bw (dW P i j k)\/n=neg (bw (dW P i j k)))/\d=dot n (P i)
 supp:Dp P N n d
theorem j5{v:V}(h:v≠zero):0<cn v:=by
 rcases Nat.eq_zero_or_pos (cn v) with e|p
 ·exfalso
  unfold cn at e
  rw[Nat.gcd_eq_zero_iff,Nat.gcd_eq_zero_iff] at e
  exact h (V.ext' (by simp[zero];omega) (by simp[zero];omega) (by simp[zero];omega))
 ·exact p
theorem gO(v:V):v=smul (cn v) (bw v):=by
 have d1:(cn v:Int) ∣ v.x:=Int.ofNat_dvd_left.2 (Nat.dvd_trans (Nat.gcd_dvd_left _ _) (Nat.gcd_dvd_left _ _))
 have d2:(cn v:Int) ∣ v.y:=Int.ofNat_dvd_left.2 (Nat.dvd_trans (Nat.gcd_dvd_left _ _) (Nat.gcd_dvd_right _ _))
 have d3:(cn v:Int) ∣ v.z:=Int.ofNat_dvd_left.2 (Nat.gcd_dvd_right _ _)
 apply V.ext'
 ·exact(Int.mul_ediv_cancel' d1).symm
 ·exact(Int.mul_ediv_cancel' d2).symm
 ·exact(Int.mul_ediv_cancel' d3).symm
theorem nE(k:Nat)(v:V):cn (smul k v)=k*cn v:=by
 simp only[cn,smul,Int.natAbs_mul,Int.natAbs_natCast]
 rw[Nat.gcd_mul_left,Nat.gcd_mul_left]
theorem sV{v:V}(h:v≠zero):cn (bw v)=1:=by
 have p:=j5 h
 have e:=nE (cn v) (bw v)
 rw[<-gO v] at e
 exact(Nat.eq_of_mul_eq_mul_left p (by omega)).symm
theorem ve(v:V):cn (neg v)=cn v:=by simp[cn,neg]
theorem wH(v:V):bw (neg v)=neg (bw v):=by
 have e:=gO v
 unfold bw
 rw[ve]
 have d1:(cn v:Int) ∣ v.x:=Int.ofNat_dvd_left.2 (Nat.dvd_trans (Nat.gcd_dvd_left _ _) (Nat.gcd_dvd_left _ _))
 have d2:(cn v:Int) ∣ v.y:=Int.ofNat_dvd_left.2 (Nat.dvd_trans (Nat.gcd_dvd_left _ _) (Nat.gcd_dvd_right _ _))
 have d3:(cn v:Int) ∣ v.z:=Int.ofNat_dvd_left.2 (Nat.gcd_dvd_right _ _)
 simp only[neg,Int.neg_ediv_of_dvd d1,Int.neg_ediv_of_dvd d2,Int.neg_ediv_of_dvd d3]
theorem tw{v:V}(h:v≠zero):bw v≠zero:=fun e=>h (by rw[gO v,e];apply V.ext'<;>simp[smul,zero])
theorem wq{u v:V}(hu:cn u=1)(hv:cn v=1){a b:Int}(ha:0<a)(hb:0<b)(h:smul a u=smul b v):u=v:=by
 obtain⟨a,rfl⟩:=Int.eq_ofNat_of_zero_le (Int.le_of_lt ha)
 obtain⟨b,rfl⟩:=Int.eq_ofNat_of_zero_le (Int.le_of_lt hb)
 have e:=nE a u
 have e2:=nE b v
 rw[h,e2,hu,hv] at e
 have:a=b:=by omega
 subst this
 have h1:=congrArg V.x h;have h2:=congrArg V.y h;have h3:=congrArg V.z h
 simp only[smul] at h1 h2 h3
 have hne:(a:Int)≠0:=by omega
 exact V.ext' (Int.eq_of_mul_eq_mul_left hne h1) (Int.eq_of_mul_eq_mul_left hne h2) (Int.eq_of_mul_eq_mul_left hne h3)
section
variable{P:Nat->V}{N:Nat}
theorem IsF.nz{n:V}{d:Int}(h:IsF P N n d):n≠zero/\cn n=1:=by
 obtain⟨i,j,k,_,_,_,h1,h2|h2,_⟩:=h.ex
 ·subst h2;exact⟨tw h1,sV h1⟩
 ·subst h2
  refine⟨fun e=>tw h1 ?_,by rw[ve];exact sV h1⟩
  have e1:=congrArg V.x e;have e2:=congrArg V.y e;have e3:=congrArg V.z e
  simp only[neg,zero] at e1 e2 e3
  exact V.ext' (by simp only[zero];omega) (by simp only[zero];omega) (by simp only[zero];omega)
theorem ac{n:V}{d:Int}{k:Nat}:k∈aU P N n d↔k<N/\dot n (P k)=d:=by simp[aU]
theorem bO(n:V)(i k:Nat):dot n (wy P i k)=dot n (P k)-dot n (P i):=by simp only[dot,wy,sub];grind
theorem IsF.three{n:V}{d:Int}(h:IsF P N n d):∃ i j k,i<j/\j<k/\k<N/\i∈aU P N n d/\j∈aU P N n d/\k∈aU P N n d/\dW P i j k≠zero:=by
 obtain⟨i,j,k,hij,hjk,hk,h1,h2,h3⟩:=h.ex
 have g:=j5 h1
 have e:=gO (dW P i j k)
 have t1:dot (dW P i j k) (wy P i j)=0:=by simp only[dW,dot,cross];grind
 have t2:dot (dW P i j k) (wy P i k)=0:=by simp only[dW,dot,cross];grind
 have key:∀ v:V,dot (dW P i j k) v=0->dot n v=0:=fun v hv=>by
  rw[e] at hv
  have:(cn (dW P i j k):Int)*dot (bw (dW P i j k)) v=0:=by rw[<-hv];simp only[dot,smul];grind
  have h0:=aJ (by omega) this
  rcases h2 with h2|h2
  ·rw[h2];exact h0
  ·rw[h2]
   have:dot (neg (bw (dW P i j k))) v=- dot (bw (dW P i j k)) v:=by simp only[dot,neg];grind
   omega
 have k1:=key _ t1
 have k2:=key _ t2
 rw[bO] at k1 k2
 exact⟨i,j,k,hij,hjk,hk,ac.2 ⟨by omega,by omega⟩,ac.2 ⟨by omega,by omega⟩,ac.2 ⟨hk,by omega⟩,h1⟩
theorem IsF.flat(hl:∀ i j,i<j->j<N->ar (P i) (P j)){n:V}{d:Int}(h:IsF P N n d):Flat n P (aU P N n d):=by
 refine⟨h.nz.1,fun x hx y hy=>?_,fun x hx y hy e=>?_⟩
 ·have a:=(ac.1 hx).2;have b:=(ac.1 hy).2
  rw[bO];omega
 ·have a:=(ac.1 hx).1;have b:=(ac.1 hy).1
  rcases Nat.lt_trichotomy x y with c|c|c
  ·have:=hl x y c b;rw[e] at this;simp only[ar] at this;omega
  ·exact c
  ·have:=hl y x c a;rw[e] at this;simp only[ar] at this;omega
theorem IsF.left(hl:∀ i j,i<j->j<N->ar (P i) (P j)){n:V}{d:Int}(h:IsF P N n d){a b:Nat}(ha:a∈aU P N n d)(hs:Side n P (aU P N n d) a b) :
  ∃ x∈aU P N n d,0<T n (wy P a b) (wy P a x):=by
 obtain⟨i,j,k,hij,hjk,hk,mi,mj,mk,ht⟩:=h.three
 have F:=h.flat hl
 have key:∀ x∈aU P N n d,0<T n (wy P a b) (wy P a x)\/cross (wy P a b) (wy P a x)=zero:=fun x hx=>by
  rcases Int.lt_or_eq_of_le (hs.all x hx).1 with h1|h1
  ·exact .inl h1
  ·exact .inr (dh F.nz (F.pl a ha b hs.mem) (F.pl a ha x hx) h1.symm)
 rcases key i mi with h1|h1
 ·exact⟨i,mi,h1⟩
 rcases key j mj with h2|h2
 ·exact⟨j,mj,h2⟩
 rcases key k mk with h3|h3
 ·exact⟨k,mk,h3⟩
 exfalso
 apply ht
 have hb:=aH (oB F ha hs.mem hs.ne)
 have p1:=yu h1 (wy P a b);have p2:=yu h2 (wy P a b);have p3:=yu h3 (wy P a b)
 have w1:wy P i j=sub (wy P a j) (wy P a i):=by apply V.ext'<;>simp only[wy,sub]<;>omega
 have w2:wy P i k=sub (wy P a k) (wy P a i):=by apply V.ext'<;>simp only[wy,sub]<;>omega
 unfold dW
 rw[w1,w2]
 generalize wy P a b=e at *
 generalize wy P a i=u at *
 generalize wy P a j=v at *
 generalize wy P a k=w at *
 generalize dot e u=A at *
 generalize dot e v=B at *
 generalize dot e w=C at *
 generalize dot e e=D at *
 have q1:=congrArg V.x p1;have q2:=congrArg V.y p1;have q3:=congrArg V.z p1
 have r1:=congrArg V.x p2;have r2:=congrArg V.y p2;have r3:=congrArg V.z p2
 have s1:=congrArg V.x p3;have s2:=congrArg V.y p3;have s3:=congrArg V.z p3
 simp only[smul] at q1 q2 q3 r1 r2 r3 s1 s2 s3
 have hDD:0<D*D:=Int.mul_pos hb hb
 apply V.ext'<;>simp only[cross,sub,zero]<;>refine aJ hDD ?_<;>grind
theorem far{n e:V}(he:dot n e=0){w:Nat->V}:∀ l:List Nat,l≠[]->(∀ y∈l,dot n (w y)<0)->∃ y∈l,∀ x∈l,0<=dot e (cross (w y) (w x))
 | [],h,_=>absurd rfl h
 | [y],_,hn=>⟨y,List.mem_cons_self,fun x hx=>by
   rw[List.mem_singleton.1 hx]
   have:dot e (cross (w y) (w y))=0:=by simp only[dot,cross];grind
   omega⟩
 | z::y'::l,_,hn=>by
  obtain⟨y,hy,hmax⟩:=far he (y'::l) (by simp) (fun y hy=>hn y (List.mem_cons_of_mem _ hy))
  have self:∀ v:V,dot e (cross v v)=0:=fun v=>by simp only[dot,cross];grind
  have sw:∀ u v:V,dot e (cross v u)=- dot e (cross u v):=fun u v=>by simp only[dot,cross];grind
  have pl:∀ x y z:V,dot n x*dot e (cross y z)=dot n z*dot e (cross y x)+dot n y*dot e (cross x z):=fun x y z=>by
   have:dot n x*dot e (cross y z)-(dot n z*dot e (cross y x)+dot n y*dot e (cross x z))=dot n e*dot x (cross y z):=by simp only[dot,cross];grind
   rw[he] at this;omega
  rcases Int.lt_or_le (dot e (cross (w y) (w z))) 0 with hlt|hge
  ·refine⟨z,List.mem_cons_self,fun x hx=>?_⟩
   rcases List.mem_cons.1 hx with rfl|hx
   ·have:=self (w x);omega
   ·have h1:=hmax x hx
    have h2:=pl (w y) (w z) (w x)
    have n1:=hn y (List.mem_cons_of_mem _ hy)
    have n2:=hn z List.mem_cons_self
    have n3:=hn x (List.mem_cons_of_mem _ hx)
    have h3:=sw (w y) (w z)
    have a1:dot n (w x)*dot e (cross (w z) (w y))<=0:=Int.mul_nonpos_of_nonpos_of_nonneg (Int.le_of_lt n3) (by omega)
    have a2:dot n (w z)*dot e (cross (w y) (w x))<=0:=Int.mul_nonpos_of_nonpos_of_nonneg (Int.le_of_lt n2) h1
    have a3:0<=(-(dot n (w y)))*dot e (cross (w z) (w x)):=by rw[Int.neg_mul];omega
    exact ko (by omega) a3
  ·refine⟨y,List.mem_cons_of_mem _ hy,fun x hx=>?_⟩
   rcases List.mem_cons.1 hx with rfl|hx
   ·exact hge
   ·exact hmax x hx
theorem xc{p q r:Nat}(hp:p<N)(hq:q<N)(hr:r<N)(h1:p≠q)(h2:p≠r)(h3:q≠r){m:V}(hm:m=dW P p q r)(hle:∀ x,x<N->dot m (wy P p x)<=0)(hlt:∃ x,x<N/\dot m (wy P p x)<0) :
  ∃ n',∃ g:Int,0<g/\m=smul g n'/\IsF P N n' (dot n' (P p)):=by
 have hm0:m≠zero:=fun e=>by
  obtain⟨x,_,hx⟩:=hlt
  rw[e] at hx;simp[dot,zero] at hx
 have hg:=j5 hm0
 have e:=gO m
 refine⟨bw m,cn m,by omega,e,?_,?_⟩
 ·have perm:∀ i j k,i<j->j<k->k<N->(m=dW P i j k\/m=neg (dW P i j k))->(dot (bw m) (wy P i p)=0)->∃ i j k,i<j/\j<k/\k<N/\dW P i j k≠zero/\(bw m=bw (dW P i j k)\/bw m=neg (bw (dW P i j k)))/\dot (bw m) (P p)=dot (bw m) (P i):=by
   intro i j k hij hjk hk hmm hd
   rw[bO] at hd
   refine⟨i,j,k,hij,hjk,hk,fun e0=>hm0 ?_,?_,by omega⟩
   ·rcases hmm with hmm|hmm
    ·rw[hmm,e0]
    ·rw[hmm,e0];rfl
   ·rcases hmm with hmm|hmm
    ·exact .inl (by rw[hmm])
    ·exact .inr (by rw[hmm,wH])
  have dz:∀ v:V,dot m v=0->dot (bw m) v=0:=fun v hv=>by
   have:(cn m:Int)*dot (bw m) v=0:=by
    rw[<-hv]
    conv=>rhs;rw[e]
    simp only[dot,smul];grind
   exact aJ (by omega) this
  have z1:dot (bw m) (wy P p p)=0:=dz _ (by simp only[dot,wy,sub];grind)
  have z2:dot (bw m) (wy P q p)=0:=dz _ (by rw[hm];simp only[dot,dW,cross,wy,sub];grind)
  have z3:dot (bw m) (wy P r p)=0:=dz _ (by rw[hm];simp only[dot,dW,cross,wy,sub];grind)
  rcases Nat.lt_or_gt_of_ne h1 with a1|a1<;>rcases Nat.lt_or_gt_of_ne h2 with a2|a2<;>rcases Nat.lt_or_gt_of_ne h3 with a3|a3
  ·exact perm p q r a1 a3 hr (.inl hm) z1
  ·exact perm p r q a2 a3 hq (.inr (by rw[hm];apply V.ext'<;>simp only[dW,neg,cross,wy,sub]<;>grind)) z1
  ·omega
  ·exact perm r p q a2 a1 hq (.inl (by rw[hm];apply V.ext'<;>simp only[dW,neg,cross,wy,sub]<;>grind)) z3
  ·exact perm q p r a1 a2 hr (.inr (by rw[hm];apply V.ext'<;>simp only[dW,neg,cross,wy,sub]<;>grind)) z2
  ·omega
  ·exact perm q r p a3 a2 hp (.inl (by rw[hm];apply V.ext'<;>simp only[dW,neg,cross,wy,sub]<;>grind)) z2
  ·exact perm r q p a3 a1 hp (.inr (by rw[hm];apply V.ext'<;>simp only[dW,neg,cross,wy,sub]<;>grind)) z3
 ·have sc:∀ v:V,dot m v=(cn m:Int)*dot (bw m) v:=fun v=>by
   conv=>lhs;rw[e]
   simp only[dot,smul];grind
  refine⟨fun x hx=>?_,?_⟩
  ·have h:=hle x hx
   rw[sc,bO] at h
   rcases Int.lt_or_le (dot (bw m) (P p)) (dot (bw m) (P x)) with k|k
   ·have:=Int.mul_pos (a:=(cn m:Int)) (b:=dot (bw m) (P x)-dot (bw m) (P p)) (by omega) (by omega)
    omega
   ·exact k
  ·obtain⟨x,hx,h⟩:=hlt
   rw[sc,bO] at h
   refine⟨x,hx,?_⟩
   rcases Int.lt_or_le (dot (bw m) (P x)) (dot (bw m) (P p)) with k|k
   ·exact k
   ·have:=Int.mul_nonneg (a:=(cn m:Int)) (b:=dot (bw m) (P x)-dot (bw m) (P p)) (by omega) (by omega)
    omega
end
open V
section
variable{P:Nat->V}{N:Nat}
theorem xY(hl:∀ i j,i<j->j<N->ar (P i) (P j)){n:V}{d:Int}(h:IsF P N n d){a b:Nat}(ha:a∈aU P N n d)(hs:Side n P (aU P N n d) a b) :
  ∃ n' d',IsF P N n' d'/\a∈aU P N n' d'/\b∈aU P N n' d'/\Side n' P (aU P N n' d') b a:=by
 have F:=h.flat hl
 have haN:=(ac.1 ha).1
 have had:=(ac.1 ha).2
 have hbN:=(ac.1 hs.mem).1
 have he:dot n (wy P a b)=0:=F.pl a ha b hs.mem
 obtain⟨x1,hx1,hT1⟩:=h.left hl ha hs
 have hx1n:dot n (wy P a x1)=0:=F.pl a ha x1 hx1
 have hle:∀ x,x<N->dot n (wy P a x)<=0:=fun x hx=>by rw[bO];have:=h.supp.1 x hx;omega
 have hnn:=aH F.nz
 obtain⟨z,hzN,hz⟩:=h.supp.2
 obtain⟨y,hy,hfar⟩:=far (w:=wy P a) he ((List.range N).filter fun k=>decide (dot n (wy P a k)<0)) (List.ne_nil_of_mem (a:=z) (by simp[hzN,bO];omega)) (fun y hy=>by simpa using(List.mem_filter.1 hy).2)
 have hyN:y<N:=by simpa using(List.mem_filter.1 hy).1
 have hyn:dot n (wy P a y)<0:=by simpa using(List.mem_filter.1 hy).2
 have hfar':∀ x,x<N->dot n (wy P a x)<0->0<=dot (wy P a b) (cross (wy P a y) (wy P a x)):=fun x hx hn=>hfar x (by simp[hx,hn])
 have onpl:∀ u v:V,dot n u=0->dot n v=0->∀ y:V,dot n n*dot (cross u v) y=dot n (cross u v)*dot n y:=fun u v hu hv y=>by
  have c:=dC hu hv
  have c1:=congrArg V.x c;have c2:=congrArg V.y c;have c3:=congrArg V.z c
  generalize cross u v=k at *
  simp only[cross,zero] at c1 c2 c3
  simp only[dot];grind
 have mdot:∀ v:V,dot (cross (wy P a y) (wy P a b)) v=- dot (wy P a b) (cross (wy P a y) v):=fun v=>by simp only[dot,cross];grind
 have mdot2:∀ v:V,dot (cross (wy P a y) (wy P a b)) v=dot (cross (wy P a b) v) (wy P a y):=fun v=>by simp only[dot,cross];grind
 have mon:∀ x∈aU P N n d,dot n n*dot (cross (wy P a y) (wy P a b)) (wy P a x)=T n (wy P a b) (wy P a x)*dot n (wy P a y):=fun x hx=>by
  rw[mdot2];exact onpl _ _ he (F.pl a ha x hx) _
 have mle:∀ x,x<N->dot (cross (wy P a y) (wy P a b)) (wy P a x)<=0:=fun x hx=>by
  rcases Int.lt_or_eq_of_le (hle x hx) with k|k
  ·rw[mdot];have:=hfar' x hx k;omega
  ·have hxm:x∈aU P N n d:=ac.2 ⟨hx,by rw[bO] at k;omega⟩
   have e:=mon x hxm
   have t:=(hs.all x hxm).1
   have:T n (wy P a b) (wy P a x)*dot n (wy P a y)<=0:=Int.mul_nonpos_of_nonneg_of_nonpos t (Int.le_of_lt hyn)
   rcases Int.lt_or_le 0 (dot (cross (wy P a y) (wy P a b)) (wy P a x)) with q|q
   ·have:=Int.mul_pos hnn q;omega
   ·exact q
 have mlt:dot (cross (wy P a y) (wy P a b)) (wy P a x1)<0:=by
  have e:=mon x1 hx1
  have:T n (wy P a b) (wy P a x1)*dot n (wy P a y)<0:=Int.mul_neg_of_pos_of_neg hT1 hyn
  rcases Int.lt_or_le (dot (cross (wy P a y) (wy P a b)) (wy P a x1)) 0 with q|q
  ·exact q
  ·have:=Int.mul_nonneg (Int.le_of_lt hnn) q;omega
 have hya:a≠y:=fun e=>by subst e;rw[show dot n (wy P a a)=0 by simp only[dot,wy,sub];grind] at hyn;omega
 have hyb:y≠b:=fun e=>by subst e;omega
 obtain⟨n',g,hg,hm,hF⟩:=xc (p:=a) (q:=y) (r:=b) haN hyN hbN hya (Ne.symm hs.ne) hyb rfl mle ⟨x1,(ac.1 hx1).1,mlt⟩
 have sc:∀ v:V,dot (cross (wy P a y) (wy P a b)) v=g*dot n' v:=fun v=>by
  have:dW P a y b=cross (wy P a y) (wy P a b):=rfl
  rw[<-this,hm];simp only[dot,smul];grind
 have hbe:dot n' (wy P a b)=0:=aJ hg (by rw[<-sc];simp only[dot,cross];grind)
 have ham:a∈aU P N n' (dot n' (P a)):=ac.2 ⟨haN,rfl⟩
 have hbm:b∈aU P N n' (dot n' (P a)):=ac.2 ⟨hbN,by rw[bO] at hbe;omega⟩
 refine⟨n',_,hF,ham,hbm,ham,Ne.symm hs.ne,fun x hx=>?_⟩
 have hxN:=(ac.1 hx).1
 have hx0:dot n' (wy P a x)=0:=by rw[bO];have:=(ac.1 hx).2;omega
 have mx0:dot (cross (wy P a y) (wy P a b)) (wy P a x)=0:=by rw[sc,hx0,Int.mul_zero]
 have tE:T n' (wy P b a) (wy P b x)=dot n' (cross (wy P a x) (wy P a b)):=by simp only[T,dot,cross,wy,sub];grind
 have dE:dot (wy P b x) (wy P b a)=dot (wy P a b) (wy P a b)-dot (wy P a x) (wy P a b):=by simp only[dot,wy,sub];grind
 have dE2:dot (wy P b a) (wy P b a)=dot (wy P a b) (wy P a b):=by simp only[dot,wy,sub];grind
 rw[tE,dE,dE2]
 rcases Int.lt_or_eq_of_le (hle x hxN) with k|k
 ·
  have c1:dot (cross (wy P a x) (wy P a b)) (wy P a x1)<0:=by
   have e:=onpl (wy P a b) (wy P a x1) he hx1n (wy P a x)
   have e2:dot (cross (wy P a x) (wy P a b)) (wy P a x1)=dot (cross (wy P a b) (wy P a x1)) (wy P a x):=by simp only[dot,cross];grind
   have:T n (wy P a b) (wy P a x1)*dot n (wy P a x)<0:=Int.mul_neg_of_pos_of_neg hT1 k
   rw[e2]
   simp only[T] at this
   rcases Int.lt_or_le (dot (cross (wy P a b) (wy P a x1)) (wy P a x)) 0 with q|q
   ·exact q
   ·have:=Int.mul_nonneg (Int.le_of_lt hnn) q;omega
  have par2:dot n' n'*dot (cross (wy P a x) (wy P a b)) (wy P a x1)=dot n' (cross (wy P a x) (wy P a b))*dot n' (wy P a x1):=by
   have c:=dC hx0 hbe
   have c1:=congrArg V.x c;have c2:=congrArg V.y c;have c3:=congrArg V.z c
   generalize cross (wy P a x) (wy P a b)=k at *
   simp only[cross,zero] at c1 c2 c3
   simp only[dot];grind
  have n'n':=aH hF.nz.1
  have n1:dot n' (wy P a x1)<0:=by
   rw[sc] at mlt
   rcases Int.lt_or_le (dot n' (wy P a x1)) 0 with q|q
   ·exact q
   ·have:=Int.mul_nonneg (Int.le_of_lt hg) q;omega
  have l1:dot n' n'*dot (cross (wy P a x) (wy P a b)) (wy P a x1)<0:=Int.mul_neg_of_pos_of_neg n'n' c1
  have pos:0<dot n' (cross (wy P a x) (wy P a b)):=by
   rcases Int.lt_or_le 0 (dot n' (cross (wy P a x) (wy P a b))) with q|q
   ·exact q
   ·have:=Int.mul_nonneg_of_nonpos_of_nonpos q (Int.le_of_lt n1);omega
  exact⟨Int.le_of_lt pos,fun h0=>by omega⟩
 ·have hxm:x∈aU P N n d:=ac.2 ⟨hxN,by rw[bO] at k;omega⟩
  have e:=mon x hxm
  rw[mx0,Int.mul_zero] at e
  have t0:T n (wy P a b) (wy P a x)=0:=by
   rcases Int.mul_eq_zero.1 e.symm with q|q
   ·exact q
   ·omega
  have s2:=(hs.all x hxm).2 t0
  have c0:=dh F.nz he k t0
  have:dot n' (cross (wy P a x) (wy P a b))=0:=by
   have e2:dot n' (cross (wy P a x) (wy P a b))=- dot n' (cross (wy P a b) (wy P a x)):=by simp only[dot,cross];grind
   rw[e2,c0];simp[dot,zero]
  rw[this]
  exact⟨Int.le_refl _,fun _=>⟨by omega,by omega⟩⟩
theorem Ca(hl:∀ i j,i<j->j<N->ar (P i) (P j)){n1 n2:V}{d1 d2:Int}(h1:IsF P N n1 d1)(h2:IsF P N n2 d2){a b:Nat}(ha1:a∈aU P N n1 d1)(ha2:a∈aU P N n2 d2)
  (hs1:Side n1 P (aU P N n1 d1) a b) (hs2:Side n2 P (aU P N n2 d2) a b):n1=n2:=by
 have F1:=h1.flat hl
 have F2:=h2.flat hl
 obtain⟨x1,hx1,ht1⟩:=h1.left hl ha1 hs1
 obtain⟨x2,hx2,ht2⟩:=h2.left hl ha2 hs2
 have e1:dot n1 (wy P a b)=0:=F1.pl a ha1 b hs1.mem
 have e2:dot n2 (wy P a b)=0:=F2.pl a ha2 b hs2.mem
 have z1:dot n1 (wy P a x1)=0:=F1.pl a ha1 x1 hx1
 have z2:dot n2 (wy P a x2)=0:=F2.pl a ha2 x2 hx2
 have l12:dot n1 (wy P a x2)<=0:=by rw[bO];have:=h1.supp.1 x2 (ac.1 hx2).1;have:=(ac.1 ha1).2;omega
 have l21:dot n2 (wy P a x1)<=0:=by rw[bO];have:=h2.supp.1 x1 (ac.1 hx1).1;have:=(ac.1 ha2).2;omega
 have hp1:=aH F1.nz
 have hp2:=aH F2.nz
 have onpl:∀ (n u v:V),dot n u=0->dot n v=0->smul (dot n n) (cross u v)=smul (dot n (cross u v)) n:=fun n u v hu hv=>by
  have c:=dC hu hv
  have c1:=congrArg V.x c;have c2:=congrArg V.y c;have c3:=congrArg V.z c
  generalize cross u v=k at *
  simp only[cross,zero] at c1 c2 c3
  apply V.ext'<;>simp only[smul,dot]<;>grind
 have dsm:∀ (k:Int) (u v:V),dot (smul k u) v=k*dot u v:=fun k u v=>by simp only[dot,smul];grind
 have k1:dot n1 n1*dot (cross (wy P a b) (wy P a x1)) (wy P a x2)=T n1 (wy P a b) (wy P a x1)*dot n1 (wy P a x2):=by
  have:=congrArg (fun v=>dot v (wy P a x2)) (onpl n1 _ _ e1 z1)
  simp only[dsm] at this
  exact this
 have k2:dot n2 n2*dot (cross (wy P a b) (wy P a x2)) (wy P a x1)=T n2 (wy P a b) (wy P a x2)*dot n2 (wy P a x1):=by
  have:=congrArg (fun v=>dot v (wy P a x1)) (onpl n2 _ _ e2 z2)
  simp only[dsm] at this
  exact this
 have sw:dot (cross (wy P a b) (wy P a x2)) (wy P a x1)=- dot (cross (wy P a b) (wy P a x1)) (wy P a x2):=by simp only[dot,cross];grind
 have m1:T n1 (wy P a b) (wy P a x1)*dot n1 (wy P a x2)<=0:=Int.mul_nonpos_of_nonneg_of_nonpos (Int.le_of_lt ht1) l12
 have m2:T n2 (wy P a b) (wy P a x2)*dot n2 (wy P a x1)<=0:=Int.mul_nonpos_of_nonneg_of_nonpos (Int.le_of_lt ht2) l21
 have D0:dot (cross (wy P a b) (wy P a x1)) (wy P a x2)=0:=by
  rw[sw] at k2
  generalize dot (cross (wy P a b) (wy P a x1)) (wy P a x2)=D at *
  rcases Int.lt_trichotomy D 0 with q|q|q
  ·have:=Int.mul_pos (a:=dot n2 n2) (b:=-D) hp2 (by omega);omega
  ·exact q
  ·have:=Int.mul_pos hp1 q;omega
 have n12:dot n1 (wy P a x2)=0:=by
  rw[D0,Int.mul_zero] at k1
  rcases Int.mul_eq_zero.1 k1.symm with q|q
  ·omega
  ·exact q
 have hx2m:x2∈aU P N n1 d1:=ac.2 ⟨(ac.1 hx2).1,by rw[bO] at n12;have:=(ac.1 ha1).2;omega⟩
 have c2:=onpl n2 _ _ e2 z2
 have c1:=onpl n1 _ _ e1 n12
 have t12:=(hs1.all x2 hx2m).1
 have ne:T n1 (wy P a b) (wy P a x2)≠0:=fun e=>by
  have c0:=dh F1.nz e1 n12 e
  have:T n2 (wy P a b) (wy P a x2)=0:=by simp only[T];rw[c0];simp[dot,zero]
  omega
 refine wq h1.nz.2 h2.nz.2 (a:=T n1 (wy P a b) (wy P a x2)*dot n2 n2) (b:=T n2 (wy P a b) (wy P a x2)*dot n1 n1) (Int.mul_pos (by omega) hp2) (Int.mul_pos ht2 hp1) ?_
 simp only[T] at *
 generalize cross (wy P a b) (wy P a x2)=K at *
 have q1:=congrArg V.x c1;have q2:=congrArg V.y c1;have q3:=congrArg V.z c1
 have r1:=congrArg V.x c2;have r2:=congrArg V.y c2;have r3:=congrArg V.z c2
 generalize dot n1 n1=A at *
 generalize dot n2 n2=B at *
 generalize dot n1 K=A' at *
 generalize dot n2 K=B' at *
 simp only[smul] at q1 q2 q3 r1 r2 r3
 apply V.ext'<;>simp only[smul]<;>grind
end
open V
section
variable{n:V}{P:Nat->V}{on:List Nat}
theorem Side.start(h:Flat n P on){a b:Nat}(ha:a∈on)(hs:Side n P on a b):cY P on a:=by
 obtain⟨K,hK,hb⟩:=cU (fun x=>dot (wy P a b) (wy P a x)) on
 refine⟨add (smul K (cross n (wy P a b))) (wy P a b),fun x hx hxa=>?_⟩
 have e:dot (add (smul K (cross n (wy P a b))) (wy P a b)) (wy P a x)=K*T n (wy P a b) (wy P a x)+dot (wy P a b) (wy P a x):=by simp only[T,dot,add,smul,cross];grind
 rw[e]
 obtain⟨h1,h2⟩:=hs.all x hx
 have c:=hb x hx
 rcases Int.lt_or_eq_of_le h1 with k|k
 ·have:K*1<=K*T n (wy P a b) (wy P a x):=Int.mul_le_mul_of_nonneg_left (by omega) (Int.le_of_lt hK)
  omega
 ·rw[<-k,Int.mul_zero,Int.zero_add]
  obtain⟨q1,q2⟩:=h2 k.symm
  have sw:dot (wy P a b) (wy P a x)=dot (wy P a x) (wy P a b):=by simp only[dot];grind
  rw[sw]
  rcases Int.lt_or_eq_of_le q1 with p|p
  ·exact p
  ·exfalso
   have c0:=dh h.nz (h.pl a ha b hs.mem) (h.pl a ha x hx) k.symm
   have pr:=yu c0 (wy P a b)
   rw[sw,<-p] at pr
   have hp:=aH (oB h ha hs.mem hs.ne)
   apply oB h ha hx hxa
   have p1:=congrArg V.x pr;have p2:=congrArg V.y pr;have p3:=congrArg V.z pr
   simp only[smul,Int.zero_mul] at p1 p2 p3
   exact V.ext' (aJ hp p1) (aJ hp p2) (aJ hp p3)
end
theorem kC{α:Type}{r:α->α->Prop}(irr:∀ a,¬ r a a)(asy:∀ a b,r a b->¬ r b a):∀ {l l':List α},l.Pairwise r->l'.Pairwise r->(∀ x,x∈l↔x∈l')->l=l'
 | [],[],_,_,_=>rfl
 | [],b::l',_,_,h=>absurd ((h b).2 List.mem_cons_self) (by simp)
 | a::l,[],_,_,h=>absurd ((h a).1 List.mem_cons_self) (by simp)
 | a::l,b::l',h1,h2,h=>by
  obtain⟨k1,k2⟩:=List.pairwise_cons.1 h1
  obtain⟨k3,k4⟩:=List.pairwise_cons.1 h2
  have e:a=b:=by
   rcases List.mem_cons.1 ((h a).1 List.mem_cons_self) with e|m
   ·exact e
   ·rcases List.mem_cons.1 ((h b).2 List.mem_cons_self) with e|m'
    ·exact e.symm
    ·exact absurd (k1 b m') (asy _ _ (k3 a m))
  subst e
  rw[kC irr asy k2 k4 fun x=>?_]
  constructor
  ·intro hx
   rcases List.mem_cons.1 ((h x).1 (List.mem_cons_of_mem _ hx)) with e|m
   ·subst e;exact absurd (k1 x hx) (irr x)
   ·exact m
  ·intro hx
   rcases List.mem_cons.1 ((h x).2 (List.mem_cons_of_mem _ hx)) with e|m
   ·subst e;exact absurd (k3 x hx) (irr x)
   ·exact m
theorem dG(a:V):¬ ar a a:=by simp only[ar];omega
theorem iK(a b:V):ar a b->¬ ar b a:=by simp only[ar];omega
theorem ii{a b c:V}:ar a b->ar b c->ar a c:=by simp only[ar];omega
theorem gw{a b:V}(h:a≠b):ar a b\/ar b a:=by
 simp only[ar]
 rcases Int.lt_trichotomy a.x b.x with h1|h1|h1<;>rcases Int.lt_trichotomy a.y b.y with h2|h2|h2<;>rcases Int.lt_trichotomy a.z b.z with h3|h3|h3<;>first|omega|exact absurd (V.ext' h1 h2 h3) h
structure Facets(P:Nat->V)(N:Nat)(L:List (V×Int)):Prop where
 ord:L.Pairwise (fun a b=>ar a.1 b.1)
 mem:∀ q,q∈L↔IsF P N q.1 q.2
theorem Facets.eq{P:Nat->V}{N:Nat}{L L':List (V×Int)}(h:Facets P N L)(h':Facets P N L'):L=L':=
 kC (r:=fun a b=>ar a.1 b.1) (fun a=>dG a.1) (fun a b=>iK a.1 b.1) h.ord h'.ord fun x=>(h.mem x).trans (h'.mem x).symm
section
variable{P:Nat->V}{N:Nat}{n:V}{d:Int}
def aN(P:Nat->V)(N:Nat)(n:V)(d:Int)(l:List Nat):Prop:=∃ a,(aU P N n d).head?=some a/\Chain (Side n P (aU P N n d)) a a l
theorem BN:(aU P N n d).Pairwise (·<·):=List.Pairwise.sublist List.filter_sublist List.pairwise_lt_range
theorem IsF.head(hl:∀ i j,i<j->j<N->ar (P i) (P j))(h:IsF P N n d):∃ a,(aU P N n d).head?=some a/\a∈aU P N n d/\cY P (aU P N n d) a/\(∀ x∈aU P N n d,a<=x)/\∀ c∈aU P N n d,∃ x∈aU P N n d,x≠c:=by
 obtain⟨i,j,k,hij,hjk,hk,mi,mj,mk,ht⟩:=h.three
 cases hon:aU P N n d with
 | nil=>rw[hon] at mi;simp at mi
 | cons a l=>
  have ho:(a::l).Pairwise (·<·):=by rw[<-hon];exact BN
  rw[List.pairwise_cons] at ho
  have hle:∀ x∈a::l,a<=x:=fun x hx=>by
   rcases List.mem_cons.1 hx with e|m
   ·omega
   ·exact Nat.le_of_lt (ho.1 x m)
  refine⟨a,rfl,List.mem_cons_self,sI fun x hx hxa=>?_,hle,fun c hc=>?_⟩
  ·have:=hle x hx
   rw[<-hon] at hx
   exact hl a x (by omega) (ac.1 hx).1
  ·rw[hon] at mi mj
   by_cases e:i=c
   ·exact⟨j,mj,by omega⟩
   ·exact⟨i,mi,e⟩
theorem IsF.poly(hl:∀ i j,i<j->j<N->ar (P i) (P j))(h:IsF P N n d) :
  ∃ l,aN P N n d l/\l.Nodup/\∀ z,z∈l↔z∈aU P N n d/\cY P (aU P N n d) z:=by
 obtain⟨a,h1,h2,h3,h4,h5⟩:=h.head hl
 obtain⟨l,k1,k2,k3,k4⟩:=xf (h.flat hl) h2 h3 h5
 exact⟨l,⟨a,h1,k1⟩,k2,fun z=>⟨k3 z,fun⟨q1,q2⟩=>k4 z q1 q2⟩⟩
theorem aN.eq(hl:∀ i j,i<j->j<N->ar (P i) (P j))(h:IsF P N n d){l l':List Nat}(k:aN P N n d l)(k':aN P N n d l'):l=l':=by
 obtain⟨a,h1,h2⟩:=k
 obtain⟨a',h1',h2'⟩:=k'
 rw[h1] at h1';cases h1'
 obtain⟨b,g1,g2,g3,g4,g5⟩:=h.head hl
 rw[h1] at g1;cases g1
 have F:=h.flat hl
 have key:∀ {c:Nat} {l l':List Nat},c∈aU P N n d->Chain (Side n P (aU P N n d)) a c l->Chain (Side n P (aU P N n d)) a c l'->l=l':=by
  intro c l l' hc k1
  induction k1 generalizing l' with
  | done s=>intro k2;cases k2 with
   | done _=>rfl
   | step s' hne _=>exact absurd (Side.unique F hc s' s) hne
  | step s hne k ih=>intro k2;cases k2 with
   | done s'=>exact absurd (Side.unique F hc s s') hne
   | step s' _ k'=>
    have e:=Side.unique F hc s s'
    subst e
    rw[ih s.mem k']
 exact key g2 h2 h2'
theorem aN.next{l:List Nat}(k:aN P N n d l){i:Nat}(hi:i<l.length):Side n P (aU P N n d) (l.getD i 0) (l.getD ((i+1)%l.length) 0):=by
 obtain⟨a,h1,h2⟩:=k
 obtain⟨l',e⟩:=h2.head
 obtain⟨y,q1,q2⟩:=h2.pairs i (l.getD i 0) (by simp[List.getD,List.getElem?_eq_getElem hi])
 rcases Nat.lt_or_ge (i+1) l.length with c|c
 ·rw[List.getElem?_append_left c] at q1
  rw[Nat.mod_eq_of_lt c]
  simp only[List.getD,q1,Option.getD_some]
  exact q2
 ·have ei:i+1=l.length:=by omega
  rw[List.getElem?_append_right (by omega),ei,Nat.sub_self] at q1
  simp at q1
  subst q1
  rw[ei,Nat.mod_self]
  have:l.getD 0 0=a:=by rw[e];rfl
  rw[this];exact q2
def oK(P:Nat->V)(N:Nat)(n:V)(d:Int)(a b:Nat):Prop:=a∈aU P N n d/\Side n P (aU P N n d) a b
theorem aN.dir(hl:∀ i j,i<j->j<N->ar (P i) (P j))(h:IsF P N n d){l:List Nat}(k:aN P N n d l){a b:Nat} :
  (∃ i,i<l.length/\l.getD i 0=a/\l.getD ((i+1)%l.length) 0=b)↔oK P N n d a b:=by
 obtain⟨l2,p1,p2,p3⟩:=h.poly hl
 have:=aN.eq hl h k p1
 subst this
 constructor
 ·rintro⟨i,hi,h1,h2⟩
  have s:=k.next hi
  rw[h1,h2] at s
  refine⟨((p3 a).1 ?_).1,s⟩
  rw[<-h1];simp[List.getD,List.getElem?_eq_getElem hi]
 ·rintro⟨ha,s⟩
  have hm:=(p3 a).2 ⟨ha,s.start (h.flat hl) ha⟩
  obtain⟨i,hi,e⟩:=List.getElem_of_mem hm
  have ei:l.getD i 0=a:=by simp[List.getD,List.getElem?_eq_getElem hi,e]
  have s2:=k.next hi
  rw[ei] at s2
  exact⟨i,hi,ei,Side.unique (h.flat hl) ha s2 s⟩
end
section
variable{P:Nat->V}{N:Nat}
end
end Go.Proofs.YtjjjkojfijpeeaaGreat.Geo
end
section
set_option linter.unusedVariables false
namespace Go.Proofs.YtjjjkojfijpeeaaGreat.Sy
open Go Go.Proofs Go.Proofs.YtjjjkojfijpeeaaGreat.Geo
abbrev I(n:Int):D:=.int .i64 n
def aj(v:V):D:=.st [I v.x,I v.y,I v.z]
def inR(n:Int):Prop:=-9223372036854775808<=n/\n<=9223372036854775807
theorem ie{n:Int}(h:inR n):IntKind.wrap .i64 n=n:=by
 obtain⟨h1,h2⟩:=h
 simp only[IntKind.wrap,IntKind.signed,IntKind.bits]
 first
  | omega
  | (simp;omega)
theorem aS{a b:Int}(h:inR (a+b)):D.bin .add (I a) (I b)=some (I (a+b)):=by simp only[D.bin,if_true,ie h]
theorem ew{a b:Int}(h:inR (a-b)):D.bin .sub (I a) (I b)=some (I (a-b)):=by simp only[D.bin,if_true,ie h]
theorem gL{a b:Int}(h:inR (a*b)):D.bin .mul (I a) (I b)=some (I (a*b)):=by simp only[D.bin,if_true,ie h]
theorem am{a b:Int}:D.bin .lss (I a) (I b)=some (.bool (decide (a<b))):=by simp only[D.bin,if_true]
theorem Bw{a b:Int}:D.bin .leq (I a) (I b)=some (.bool (decide (a<=b))):=by simp only[D.bin,if_true]
theorem ff{a b:Int}:D.bin .gtr (I a) (I b)=some (.bool (decide (a>b))):=by simp only[D.bin,if_true]
theorem iU{a b:Int}:D.bin .geq (I a) (I b)=some (.bool (decide (a ≥ b))):=by simp only[D.bin,if_true]
theorem rG{a b:Int}(h:b≠0):D.bin .rem (I a) (I b)=some (I (a.tmod b)):=by simp only[D.bin,if_true,h,if_false]
theorem sq{a b:Int}(h:b≠0)(hr:inR (a.tdiv b)):D.bin .quo (I a) (I b)=some (I (a.tdiv b)):=by simp only[D.bin,if_true,h,if_false,ie hr]
theorem qn{a:Int}(h:inR (-a)):D.un .neg (I a)=some (I (-a)):=by simp only[D.un,Int.zero_sub,ie h]
theorem cO{b:Bool}:D.un .not (.bool b)=some (.bool (!b)):=rfl
theorem ag{b:Bool}:D.truth (.bool b)=some b:=rfl
theorem CX{a b:Int}:D.max2 (I a) (I b)=some (I (max a b)):=by
 simp only[D.max2];congr 2
 split<;>omega
theorem HK{a b:Int}:D.min2 (I a) (I b)=some (I (min a b)):=by
 simp only[D.min2];congr 2
 split<;>omega
theorem cV{a b:Int}:D.beq (I a) (I b)=decide (a=b):=by simp[D.beq]
theorem wI(v:V):D.get (aj v) [0]=some (I v.x):=rfl
theorem vq(v:V):D.get (aj v) [1]=some (I v.y):=rfl
theorem wi(v:V):D.get (aj v) [2]=some (I v.z):=rfl
theorem Bc(x y z:Int):D.st [D.int .i64 x,D.int .i64 y,D.int .i64 z]=aj ⟨x,y,z⟩:=rfl
def bd(k:Int)(v:V):Prop:=(-k<=v.x/\v.x<=k)/\(-k<=v.y/\v.y<=k)/\(-k<=v.z/\v.z<=k)
theorem gb{a b A B:Int}(ha:-A<=a/\a<=A)(hb:-B<=b/\b<=B):-(A*B)<=a*b/\a*b<=A*B:=by
 have hA:0<=A:=by omega
 have hB:0<=B:=by omega
 have h1:(a*b).natAbs<=(A*B).natAbs:=by
  rw[Int.natAbs_mul,Int.natAbs_mul]
  exact Nat.mul_le_mul (by omega) (by omega)
 have h2:0<=A*B:=Int.mul_nonneg hA hB
 omega
theorem pI{A B:Int}{u v:V}(hu:bd A u)(hv:bd B v):bd (A+B) (u.sub v):=by
 simp only[bd,V.sub] at *;omega
theorem wX{A:Int}{u:V}(hu:bd A u):bd A u.neg:=by
 simp only[bd,V.neg] at *;omega
theorem jR{A B:Int}{u v:V}(hu:bd A u)(hv:bd B v):bd (2*(A*B)) (V.cross u v):=by
 have:=gb hu.1 hv.1;have:=gb hu.1 hv.2.1;have:=gb hu.1 hv.2.2
 have:=gb hu.2.1 hv.1;have:=gb hu.2.1 hv.2.1;have:=gb hu.2.1 hv.2.2
 have:=gb hu.2.2 hv.1;have:=gb hu.2.2 hv.2.1;have:=gb hu.2.2 hv.2.2
 simp only[bd,V.cross];omega
theorem uD{A B:Int}{u v:V}(hu:bd A u)(hv:bd B v):-(3*(A*B))<=V.dot u v/\V.dot u v<=3*(A*B):=by
 have:=gb hu.1 hv.1;have:=gb hu.2.1 hv.2.1;have:=gb hu.2.2 hv.2.2
 simp only[V.dot];omega
theorem A4{A B:Int}{u v:V}(hu:bd A u)(hv:bd B v)(h:3*(A*B)<=9223372036854775807) :
  inR (u.x*v.x)/\inR (u.y*v.y)/\inR (u.z*v.z)/\inR (u.x*v.x+u.y*v.y)/\inR (u.x*v.x+u.y*v.y+u.z*v.z):=by
 have:=gb hu.1 hv.1;have:=gb hu.2.1 hv.2.1;have:=gb hu.2.2 hv.2.2
 simp only[inR];omega
theorem f101{call:Nat->List D->Option D}{A B:Int}{u v:V}(hu:bd A u)(hv:bd B v)(h:3*(A*B)<=9223372036854775807):CP bg call (aj u) (aj v)=some (I (V.dot u v)):=by
 obtain⟨h1,h2,h3,h4,h5⟩:=A4 hu hv h
 simp only[CP,wI,vq,wi,Option.bind_some,gL h1,gL h2,gL h3,aS h4,aS h5]
 rfl
theorem CV(n:Nat){A B:Int}{u v:V}(hu:bd A u)(hv:bd B v)(h:3*(A*B)<=9223372036854775807):cA (n+1) 101 [aj u,aj v]=some (I (V.dot u v)):=by rw[Kh];exact f101 hu hv h
theorem yh{A B:Int}{u v:V}(hu:bd A u)(hv:bd B v)(h:2*(A*B)<=9223372036854775807) :
  inR (u.y*v.z)/\inR (u.z*v.y)/\inR (u.z*v.x)/\inR (u.x*v.z)/\inR (u.x*v.y)/\inR (u.y*v.x)/\inR (u.y*v.z-u.z*v.y)/\inR (u.z*v.x-u.x*v.z)/\inR (u.x*v.y-u.y*v.x):=by
 have:=gb hu.1 hv.1;have:=gb hu.1 hv.2.1;have:=gb hu.1 hv.2.2
 have:=gb hu.2.1 hv.1;have:=gb hu.2.1 hv.2.1;have:=gb hu.2.1 hv.2.2
 have:=gb hu.2.2 hv.1;have:=gb hu.2.2 hv.2.1;have:=gb hu.2.2 hv.2.2
 simp only[inR];omega
theorem Gr(n:Nat){A B:Int}{u v:V}(hu:bd A u)(hv:bd B v)(h:2*(A*B)<=9223372036854775807):cA (n+1) 117 [aj u,aj v]=some (aj (V.cross u v)):=by
 obtain⟨h1,h2,h3,h4,h5,h6,h7,h8,h9⟩:=yh hu hv h
 rw[Ke]
 simp only[Dw,wI,vq,wi,Option.bind_some,gL h1,gL h2,gL h3,gL h4,gL h5,gL h6,ew h7,ew h8,ew h9]
 rfl
theorem Mh(n:Nat){A:Int}{u:V}(hu:bd A u)(h:A<=9223372036854775807):cA (n+1) 97 [aj u]=some (aj u.neg):=by
 have h1:inR (-u.x):=by simp only[bd,inR] at *;omega
 have h2:inR (-u.y):=by simp only[bd,inR] at *;omega
 have h3:inR (-u.z):=by simp only[bd,inR] at *;omega
 rw[MD]
 simp only[Ib,wI,vq,wi,Option.bind_some,qn h1,qn h2,qn h3]
 rfl
end Go.Proofs.YtjjjkojfijpeeaaGreat.Sy
end
section
set_option linter.unusedVariables false
namespace Go.Proofs.YtjjjkojfijpeeaaGreat.Sy
open Go Go.Proofs Go.Proofs.YtjjjkojfijpeeaaGreat.Geo
abbrev Bd:=List D->Option (Sum (List D) (Nat×List D))
theorem je{body:Bd}{s s':List D}{k:Nat×List D->Option D}{y:D}(h:body s=some (.inl s'))(hk:Option.bind (bg body s') k=some y):Option.bind (bg body s) k=some y:=by
 have:bg body s=bg body s':=ef h
 rw[this];exact hk
theorem j6{body:Bd}{s:List D}{r:Nat×List D}{k:Nat×List D->Option D}{y:D}(h:body s=some (.inr r))(hk:k r=some y):Option.bind (bg body s) k=some y:=by
 have:bg body s=some r:=eI h
 rw[this];exact hk
theorem xP{body:Bd}{s:List D}{r:Nat×List D}{k:Nat×List D->Option D}{y:D}(h:bg body s=some r)(hk:k r=some y):Option.bind (bg body s) k=some y:=by
 rw[h];exact hk
theorem bq{body:Bd}{s0:List D}{k:Nat×List D->Option D}{y:D}(J:Nat->List D->Prop)(n i0:Nat)(hi:i0<=n)(h0:J i0 s0)
  (hs:∀ i,i<n->∀ s,J i s->(∃ s',body s=some (.inl s')/\J (i+1) s')\/∃ r,body s=some (.inr r)/\k r=some y) (he:∀ s,J n s->∃ r,body s=some (.inr r)/\k r=some y):Option.bind (bg body s0) k=some y:=by
 obtain⟨m,hm⟩:∃ m,m=n-i0:=⟨_,rfl⟩
 induction m generalizing i0 s0 with
 | zero=>
  have:i0=n:=by omega
  subst this
  obtain⟨r,h1,h2⟩:=he s0 h0
  exact j6 h1 h2
 | succ m ih=>
  rcases hs i0 (by omega) s0 h0 with⟨s',h1,h2⟩|⟨r,h1,h2⟩
  ·exact je h1 (ih (i0:=i0+1) (by omega) h2 (by omega))
  ·exact j6 h1 h2
theorem tx{body:Bd}{s0:List D}(J:Nat->List D->Prop)(Q:Nat×List D->Prop)(n i0:Nat)(hi:i0<=n)(h0:J i0 s0)
  (hs:∀ i,i<n->∀ s,J i s->(∃ s',body s=some (.inl s')/\J (i+1) s')\/∃ r,body s=some (.inr r)/\Q r) (he:∀ s,J n s->∃ r,body s=some (.inr r)/\Q r):∃ r,bg body s0=some r/\Q r:=by
 obtain⟨m,hm⟩:∃ m,m=n-i0:=⟨_,rfl⟩
 induction m generalizing i0 s0 with
 | zero=>
  have:i0=n:=by omega
  subst this
  obtain⟨r,h1,h2⟩:=he s0 h0
  exact⟨r,eI h1,h2⟩
 | succ m ih=>
  rcases hs i0 (by omega) s0 h0 with⟨s',h1,h2⟩|⟨r,h1,h2⟩
  ·obtain⟨r,k1,k2⟩:=ih (i0:=i0+1) (by omega) h2 (by omega)
   exact⟨r,by rw[show bg body s0=bg body s' from ef h1];exact k1,k2⟩
  ·exact⟨r,eI h1,h2⟩
theorem aE{i n:Nat}(h:i<n):D.idx (I (i:Int)) n=some i:=by
 simp only[D.idx]
 rw[if_pos (by omega)];simp
theorem aK{i:Nat}(h:i<=9223372036854775806):inR ((i:Int)+1):=by simp only[inR];omega
theorem g0{x:D}{l:List D}{d:D}:List.getD (x::l) 0 d=x:=rfl
theorem g1{x y:D}{l:List D}{d:D}:List.getD (x::y::l) 1 d=y:=rfl
theorem g2{x y z:D}{l:List D}{d:D}:List.getD (x::y::z::l) 2 d=z:=rfl
theorem g3{x y z w:D}{l:List D}{d:D}:List.getD (x::y::z::w::l) 3 d=w:=rfl
theorem IV(v:V)(a:Int):D.set (aj v) [0] (I a)=some (aj ⟨a,v.y,v.z⟩):=rfl
theorem JU(v:V)(a:Int):D.set (aj v) [1] (I a)=some (aj ⟨v.x,a,v.z⟩):=rfl
theorem J6(v:V)(a:Int):D.set (aj v) [2] (I a)=some (aj ⟨v.x,v.y,a⟩):=rfl
theorem Jh:D.idx (I 0) 3=some 0:=rfl
theorem KQ:D.idx (I 1) 3=some 1:=rfl
theorem KG:D.idx (I 2) 3=some 2:=rfl
theorem Ld(n:Nat){A B:Int}{u v:V}(hu:bd A u)(hv:bd B v)(h:A+B<=9223372036854775807):cA (n+1) 154 [aj u,aj v]=some (aj (u.add v)):=by
 have h1:inR (u.x+v.x):=by simp only[bd,inR] at *;omega
 have h2:inR (u.y+v.y):=by simp only[bd,inR] at *;omega
 have h3:inR (u.z+v.z):=by simp only[bd,inR] at *;omega
 rw[KJ]
 unfold E4
 refine je (s':=[I 1,aj ⟨u.x+v.x,u.y,u.z⟩]) ?_ (je (s':=[I 2,aj ⟨u.x+v.x,u.y+v.y,u.z⟩]) ?_ (je (s':=[I 3,aj ⟨u.x+v.x,u.y+v.y,u.z+v.z⟩]) ?_ (j6 (r:=(0,[aj (u.add v)])) ?_ rfl)))
 ·simp only[g0,g1,am,Option.bind_some,ag,Jh,wI,IV,aS h1,aS (show inR (0+1) from⟨by decide,by decide⟩)];rfl
 ·simp only[g0,g1,am,Option.bind_some,ag,KQ,vq,JU,aS h2,aS (show inR (1+1) from⟨by decide,by decide⟩)];rfl
 ·simp only[g0,g1,am,Option.bind_some,ag,KG,wi,J6,aS h3,aS (show inR (2+1) from⟨by decide,by decide⟩)];rfl
 ·simp only[g0,g1,am,Option.bind_some,ag];rfl
theorem Fd(u v:V):u.add v.neg=u.sub v:=by apply V.ext'<;>simp only[V.add,V.neg,V.sub]<;>omega
theorem Ff(n:Nat){A B:Int}{u v:V}(hu:bd A u)(hv:bd B v)(h:A+B<=9223372036854775807):cA (n+2) 103 [aj u,aj v]=some (aj (u.sub v)):=by
 have hA:0<=A:=by simp only[bd] at hu;omega
 rw[LT]
 simp only[Ej,Mh n hv (by omega),Option.bind_some,Ld n hu (wX hv) h,Fd]
def ba(a b:Int):Int:=if a<b then -1 else if a>b then 1 else 0
theorem IZ(n:Nat)(a:Int):cA (n+1) 115 [I a]=some (.bool false):=by
 rw[Jp];simp only[DE,cV];simp
theorem HN(n:Nat)(a b:Int):cA (n+2) 53 [I a,I b]=some (I (ba a b)):=by
 rw[ON]
 simp only[Im,IZ,Option.bind_some,ag,Bool.false_eq_true,if_false,am,ff,ba,decide_eq_true_eq]
 split
 ·rfl
 ·split<;>rfl
def rB:List Int->Int
 | []=>0
 | x::l=>if x=0 then rB l else x
theorem Mn(n:Nat)(l:List Int)(hl:l.length<=1000):cA (n+1) 52 [.sl (l.map fun x=>I x)]=some (I (rB l)):=by
 rw[Oz]
 unfold It
 simp only[D.asSl,Option.bind_some]
 refine bq (fun i s=>s=[I i]/\rB l=rB (l.drop i)) l.length 0 (Nat.zero_le _) ⟨rfl,rfl⟩ (fun i hi s hJ=>?_) (fun s hJ=>?_)
 ·obtain⟨rfl,hz⟩:=hJ
  have hx:(l.map fun x=>I x)[i]?=some (I l[i]):=by simp[hi]
  simp only[g0,List.length_map,am,Option.bind_some,ag,decide_eq_true_eq,show((i:Int)<(l.length:Int)) from by omega,if_true,aE hi,hx,cV]
  have hd:l.drop i=l[i]::l.drop (i+1):=List.drop_eq_getElem_cons hi
  rw[hd] at hz
  by_cases h0:l[i]=0
  ·left
   refine⟨[I ((i+1:Nat):Int)],?_,rfl,?_⟩
   ·simp only[h0,decide_true,Bool.not_true,Bool.false_eq_true,if_false,aS (aK (i:=i) (by omega)),Option.bind_some];rfl
   ·rw[hz];simp[rB,h0]
  ·right
   refine⟨(0,[I l[i]]),?_,?_⟩
   ·simp[h0]
   ·rw[hz];simp[rB,h0]
 ·obtain⟨rfl,hz⟩:=hJ
  refine⟨(1,[]),?_,?_⟩
  ·simp only[g0,List.length_map,am,Option.bind_some,ag,decide_eq_true_eq,Int.lt_irrefl,if_false]
  ·rw[hz];simp[rB]
end Go.Proofs.YtjjjkojfijpeeaaGreat.Sy
end
section
set_option linter.unusedVariables false
namespace Go.Proofs.YtjjjkojfijpeeaaGreat.Sy
open Go Go.Proofs Go.Proofs.YtjjjkojfijpeeaaGreat.Geo
theorem vJ{body:Bd}(h0:∀ a b:Int,b≠0->body [I a,I b]=some (.inl [I b,I (a.tmod b)]))(h1:∀ a:Int,body [I a,I 0]=some (.inr (0,[I a]))) :
  ∀ (m:Nat) (a b:Int),b.natAbs=m->∃ r:Int,bg body [I a,I b]=some (0,[I r])/\r.natAbs=Nat.gcd a.natAbs b.natAbs:=by
 intro m
 induction m using Nat.strongRecOn with
 | _ m ih=>
  intro a b hb
  by_cases hz:b=0
  ·subst hz
   exact⟨a,eI (h1 a),by simp⟩
  ·have hlt:(a.tmod b).natAbs<m:=by
    rw[Int.natAbs_tmod,<-hb]
    exact Nat.mod_lt _ (by omega)
   obtain⟨r,k1,k2⟩:=ih _ hlt b (a.tmod b) rfl
   refine⟨r,?_,?_⟩
   ·rw[show bg body [I a,I b]=bg body [I b,I (a.tmod b)] from ef (h0 a b hz)];exact k1
   ·rw[k2,Int.natAbs_tmod,Nat.gcd_comm a.natAbs,Nat.gcd_rec b.natAbs a.natAbs,Nat.gcd_comm]
theorem xe{a b:Int}{k:Nat}(ha:a.natAbs<=k)(hb:b.natAbs<=k):Nat.gcd a.natAbs b.natAbs<=k:=by
 rcases Nat.eq_zero_or_pos a.natAbs with h|h
 ·rw[h,Nat.gcd_zero_left];exact hb
 ·exact Nat.le_trans (Nat.le_of_dvd h (Nat.gcd_dvd_left _ _)) ha
theorem G7(n:Nat){a b:Int}(ha:a.natAbs<=9223372036854775807)(hb:b.natAbs<=9223372036854775807):cA (n+1) 152 [I a,I b]=some (I (Nat.gcd a.natAbs b.natAbs:Nat)):=by
 rw[IP]
 unfold Eg
 obtain⟨r,h1,h2⟩:=vJ (body:=fun(v1:List D)=>
  Option.bind (D.truth (D.bool (!(D.beq (gx v1 1) (D.int .i64 0))))) fun b2=>
  if b2 then(Option.bind (D.bin .rem (gx v1 0) (gx v1 1)) fun x3=>
  some (Sum.inl [(gx v1 1),x3])) else(some (Sum.inr (0,[(gx v1 0)]))))
  (fun a b hb=>by simp only[g0,g1,cV,ag,Option.bind_some,hb,decide_false,Bool.not_false,if_true,rG hb])
  (fun a=>by simp only[g0,g1,cV,ag,Option.bind_some,decide_true,Bool.not_true,Bool.false_eq_true,if_false]) _ a b rfl
 refine xP h1 ?_
 have hr:r.natAbs<=9223372036854775807:=by rw[h2];exact xe ha hb
 have hn:inR (-r):=by simp only[inR];omega
 simp only[Option.bind_some,g0,qn hn,CX]
 congr 2
 omega
theorem fF{a:Int}{g:Nat}(hg:0<g)(h:(g:Int) ∣ a):a.tdiv g=a/g:=by
 obtain⟨c,rfl⟩:=h
 rw[Int.mul_tdiv_cancel_left _ (by omega),Int.mul_ediv_cancel_left _ (by omega)]
theorem zo(v:V):(cn v:Int) ∣ v.x:=Int.ofNat_dvd_left.2 (Nat.dvd_trans (Nat.gcd_dvd_left _ _) (Nat.gcd_dvd_left _ _))
theorem yr(v:V):(cn v:Int) ∣ v.y:=Int.ofNat_dvd_left.2 (Nat.dvd_trans (Nat.gcd_dvd_left _ _) (Nat.gcd_dvd_right _ _))
theorem zq(v:V):(cn v:Int) ∣ v.z:=Int.ofNat_dvd_left.2 (Nat.gcd_dvd_right _ _)
theorem nX{a:Int}{g:Nat}{k:Int}(h:-k<=a/\a<=k)(hd:(g:Int) ∣ a):-k<=a/g/\a/g<=k:=by
 have h1:(a/(g:Int)).natAbs<=a.natAbs:=by
  rcases Nat.eq_zero_or_pos g with e|e
  ·subst e;simp
  ·obtain⟨c,rfl⟩:=hd
   rw[Int.mul_ediv_cancel_left _ (by omega),Int.natAbs_mul]
   exact Nat.le_mul_of_pos_left _ (by omega)
 omega
theorem uk{k:Int}{v:V}(h:bd k v):bd k (bw v):=⟨nX h.1 (zo v),nX h.2.1 (yr v),nX h.2.2 (zq v)⟩
def bi(q:V×Int):D:=.st [aj q.1,I q.2]
def MV:Int:=262144
theorem yH{P:Nat->V}{i j:Nat}(hi:bd MV (P i))(hj:bd MV (P j)):bd 524288 (wy P i j):=by
 have:=pI hj hi;simpa [MV,wy] using this
theorem OM(n:Nat){a b c:V}(ha:bd MV a)(hb:bd MV b)(hc:bd MV c):cA (n+3) 96 [aj a,aj b,aj c]=some (bi (bw (V.cross (b.sub a) (c.sub a)),V.dot (bw (V.cross (b.sub a) (c.sub a))) a)):=by
 have h1:bd 524288 (b.sub a):=by have:=pI hb ha;simpa [MV] using this
 have h2:bd 524288 (c.sub a):=by have:=pI hc ha;simpa [MV] using this
 rw[Nd]
 unfold Io
 simp only[Ff n hb ha (by decide),Ff n hc ha (by decide),Option.bind_some,Gr (n+1) h1 h2 (by decide)]
 have h3:=jR h1 h2
 generalize V.cross (b.sub a) (c.sub a)=m at *
 have e1:m.x.natAbs<=549755813888:=by have:=h3.1;omega
 have e2:m.y.natAbs<=549755813888:=by have:=h3.2.1;omega
 have e3:m.z.natAbs<=549755813888:=by have:=h3.2.2;omega
 have e4:Nat.gcd m.x.natAbs m.y.natAbs<=549755813888:=xe e1 e2
 have e5:Nat.gcd (Nat.gcd m.x.natAbs m.y.natAbs) m.z.natAbs=cn m:=rfl
 simp only[wI,vq,wi,Option.bind_some,G7 (n+1) (a:=m.x) (b:=m.y) (by omega) (by omega),G7 (n+1) (a:=((Nat.gcd m.x.natAbs m.y.natAbs:Nat):Int)) (b:=m.z) (by rw[Int.natAbs_natCast];omega) (by omega),Int.natAbs_natCast,e5,ff,ag,decide_eq_true_eq]
 have h4:=uk h3
 have fin:∀ w:V,w=bw m->cA (n+2) 101 [aj w,aj a]=some (I (V.dot w a)):=fun w hw=>CV (n+1) (hw ▸ h4) ha (by decide)
 by_cases hg:(cn m:Int)>1
 ·have hg0:(cn m:Int)≠0:=by omega
  have hgp:0<cn m:=by omega
  have r1:inR (m.x.tdiv (cn m)):=by rw[fF hgp (zo m)];have:=nX h3.1 (zo m);simp only[inR];omega
  have r2:inR (m.y.tdiv (cn m)):=by rw[fF hgp (yr m)];have:=nX h3.2.1 (yr m);simp only[inR];omega
  have r3:inR (m.z.tdiv (cn m)):=by rw[fF hgp (zq m)];have:=nX h3.2.2 (zq m);simp only[inR];omega
  have ep:(D.st [I (m.x.tdiv (cn m)),I (m.y.tdiv (cn m)),I (m.z.tdiv (cn m))])=aj (bw m):=by
   rw[fF hgp (zo m),fF hgp (yr m),fF hgp (zq m)];rfl
  simp only[if_pos hg,sq hg0 r1,sq hg0 r2,sq hg0 r3,Option.bind_some,g0,ep,fin _ rfl]
  rfl
 ·have ep:m=bw m:=by
   rcases Nat.lt_or_ge 0 (cn m) with k|k
   ·have e:cn m=1:=by omega
    have:=gO m
    rw[e] at this
    rw[this]
    conv=>rhs;rw[<-this]
    apply V.ext'<;>simp[V.smul]
   ·have e:cn m=0:=by omega
    have hm:m=V.zero:=by
     by_cases hm:m=V.zero
     ·exact hm
     ·have:=j5 hm;omega
    rw[hm];rfl
  simp only[if_neg hg,Option.bind_some,g0,fin m ep]
  rw[<-ep]
  rfl
end Go.Proofs.YtjjjkojfijpeeaaGreat.Sy
end
