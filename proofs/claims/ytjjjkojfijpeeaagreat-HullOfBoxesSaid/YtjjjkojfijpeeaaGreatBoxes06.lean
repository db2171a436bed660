/- Part 6 of the proof that HullOfBoxes answers true at every input -/
import Derived.Test.YtjjjkojfijpeeaaGreatBoxes05
set_option linter.unusedVariables false
set_option linter.unusedSimpArgs false
set_option linter.unnecessarySimpa false
section
set_option maxRecDepth 20000
set_option maxHeartbeats 0
set_option linter.unusedVariables false
namespace Go.Proofs.YtjjjkojfijpeeaaGreat.Sy
open Go Go.Proofs
def A9:Ann:=(.two .leaf (.two .leaf (.two .leaf (.two .leaf (.two (.two .leaf (.two (.loop ⟨[(5,.same (.ptr K1 8197 [])),(6,.same (.ptr K1 12294 [])),(7,.ow K1),(8,.dv (Ty.int .i64))],[(8197,.keep K1 5),(12294,.keep K1 6)],[]⟩ [(.exit 0,⟨[(5,.same (.ptr K1 8197 [])),(6,.same (.ptr K1 12294 [])),(7,.ow K1)],[(8197,.keep K1 5),(12294,.keep K1 6)],[]⟩)] .leaf) .leaf)) (.two .leaf (.two .leaf (.two .leaf (.two .leaf (.two .leaf (.two .leaf (.two (.two .leaf (.two (.loop ⟨[(5,.same (.ptr K1 8197 [])),(6,.same (.ptr K1 12294 [])),(12,.same (.ptr iI 40972 [])),(13,.same (.ptr jb 45069 [])),(14,.dv (Ty.int .i64))],[(8197,.keep K1 5),(12294,.keep K1 6),(40972,.keep iI 12),(45069,.keep jb 13)],[11]⟩ [(.ret,⟨[(4,.dv Ty.bool)],[],[]⟩),(.exit 2,⟨[],[],[]⟩)] (.two .leaf (.two (.two (.two (.two (.reg [] 12) .leaf) (.two .leaf (.two .leaf (.two (.reg [] 29) (.two (.reg [] 29) (.two (.reg [] 22) .leaf)))))) .leaf) .leaf))) .leaf)) .leaf))))))))))))
noncomputable def F9(lp:Lp)(call:Nat->List D->Option D)(a0:D)(a1:D):Option D:=
(D.get a0 [0]).bind fun x1=>
(D.bin .rem x1 (D.int .i64 100000)).bind fun x2=>
(D.get a0 [1]).bind fun x3=>
(D.bin .rem x3 (D.int .i64 100000)).bind fun x4=>
(D.get a0 [2]).bind fun x5=>
(D.bin .rem x5 (D.int .i64 100000)).bind fun x6=>
(D.get a1 [0]).bind fun x7=>
(D.conv .i64 x7).bind fun x8=>
(D.bin .add (D.int .i64 1) x8).bind fun x9=>
(D.get a1 [1]).bind fun x10=>
(D.conv .i64 x10).bind fun x11=>
(D.bin .add (D.int .i64 1) x11).bind fun x12=>
(D.get a1 [2]).bind fun x13=>
(D.conv .i64 x13).bind fun x14=>
(D.bin .add (D.int .i64 1) x14).bind fun x15=>
(lp (β:=Nat×List D) (fun(v16:List D)=>
(D.bin .lss (gx v16 1) (D.int .i64 8)).bind fun x17=>
(D.truth x17).bind fun b18=>
 if b18 then((D.bin .rem (gx v16 1) (D.int .i64 2)).bind fun x19=>
(D.bin .mul x19 x9).bind fun x20=>
(D.bin .add x2 x20).bind fun x21=>
(D.bin .quo (gx v16 1) (D.int .i64 2)).bind fun x22=>
(D.bin .rem x22 (D.int .i64 2)).bind fun x23=>
(D.bin .mul x23 x12).bind fun x24=>
(D.bin .add x4 x24).bind fun x25=>
(D.bin .quo (gx v16 1) (D.int .i64 4)).bind fun x26=>
(D.bin .mul x26 x15).bind fun x27=>
(D.bin .add x6 x27).bind fun x28=>
 if List.length ((gx v16 0).els)+List.length [(D.st [x21,x25,x28])]<=1073741824 then((D.bin .add (gx v16 1) (D.int .i64 1)).bind fun x29=>
 some (Sum.inl [(D.sl (((gx v16 0).els)++[(D.st [x21,x25,x28])])),x29])) else none) else(some (Sum.inr (0,[(D.sl ((gx v16 0).els))])))) [(D.sl []),(D.int .i64 0)]).bind fun r30=>
(call 11 [(D.sl ((gx r30.2 0).els))]).bind fun r31=>
(D.tupAt r31 0).bind fun x32=>
(D.tupAt r31 1).bind fun x33=>
(D.truth (D.bool (!(D.beq x33 (D.int .i64 0))))).bind fun b34=>
(if b34 then(some true) else((D.get x32 [0]).bind fun x35=>
(D.asSl x35).bind fun l36=>
 D.truth (D.bool (!(D.beq (D.int .i64 (l36.length)) (D.int .i64 8)))))).bind fun b37=>
(D.truth (D.bool b37)).bind fun b38=>
(if b38 then(some true) else((call 18 [x32]).bind fun r39=>
(D.asSl r39).bind fun l40=>
 D.truth (D.bool (!(D.beq (D.int .i64 (l40.length)) (D.int .i64 6)))))).bind fun b41=>
(D.truth (D.bool b41)).bind fun b42=>
(if b42 then(some true) else((call 21 [x32]).bind fun r43=>
(D.asSl r43).bind fun l44=>
 D.truth (D.bool (!(D.beq (D.int .i64 (l44.length)) (D.int .i64 12)))))).bind fun b45=>
(D.truth (D.bool b45)).bind fun b46=>
 if b46 then(some (D.bool false)) else((D.bin .mul x9 x12).bind fun x47=>
(D.bin .mul x47 x15).bind fun x48=>
(call 25 [x32]).bind fun r49=>
(call 28 [x32]).bind fun r50=>
(call 23 [x32]).bind fun r51=>
(D.bin .mul (D.int .i64 6) x48).bind fun x52=>
(call 34 [x52]).bind fun r53=>
(D.truth (D.bool (!(D.beq r51 r53)))).bind fun b54=>
(if b54 then(some true) else((D.get r50 [2]).bind fun x55=>
(D.asSl x55).bind fun l56=>
 D.truth (D.bool (!(D.beq (D.int .i64 (l56.length)) (D.int .i64 9)))))).bind fun b57=>
(D.truth (D.bool b57)).bind fun b58=>
 if b58 then(some (D.bool false)) else((lp (β:=Nat×List D) (fun(v59:List D)=>
(D.bin .lss (gx v59 0) (D.int .i64 3)).bind fun x60=>
(D.truth x60).bind fun b61=>
 if b61 then((D.idx (gx v59 0) 3).bind fun i62=>
(D.get r49 [i62]).bind fun x63=>
(D.idx (gx v59 0) 3).bind fun i64=>
(D.get (D.st [x2,x4,x6]) [i64]).bind fun x65=>
(D.bin .mul (D.int .i64 2) x65).bind fun x66=>
(D.idx (gx v59 0) 3).bind fun i67=>
(D.get (D.st [x9,x12,x15]) [i67]).bind fun x68=>
(D.bin .add x66 x68).bind fun x69=>
(call 42 [x69,(D.int .i64 2)]).bind fun r70=>
(D.truth (D.bool (!(D.beq x63 r70)))).bind fun b71=>
 if b71 then(some (Sum.inr (0,[(D.bool false)]))) else((D.bin .add (gx v59 0) (D.int .i64 1)).bind fun x72=>
(D.bin .rem x72 (D.int .i64 3)).bind fun x73=>
(D.bin .add (gx v59 0) (D.int .i64 2)).bind fun x74=>
(D.bin .rem x74 (D.int .i64 3)).bind fun x75=>
(D.idx x73 3).bind fun i76=>
(D.get (D.st [x2,x4,x6]) [i76]).bind fun x77=>
(D.bin .mul (D.int .i64 3) x77).bind fun x78=>
(D.idx x73 3).bind fun i79=>
(D.get (D.st [x2,x4,x6]) [i79]).bind fun x80=>
(D.bin .mul x78 x80).bind fun x81=>
(D.idx x73 3).bind fun i82=>
(D.get (D.st [x2,x4,x6]) [i82]).bind fun x83=>
(D.bin .mul (D.int .i64 3) x83).bind fun x84=>
(D.idx x73 3).bind fun i85=>
(D.get (D.st [x9,x12,x15]) [i85]).bind fun x86=>
(D.bin .mul x84 x86).bind fun x87=>
(D.bin .add x81 x87).bind fun x88=>
(D.idx x73 3).bind fun i89=>
(D.get (D.st [x9,x12,x15]) [i89]).bind fun x90=>
(D.idx x73 3).bind fun i91=>
(D.get (D.st [x9,x12,x15]) [i91]).bind fun x92=>
(D.bin .mul x90 x92).bind fun x93=>
(D.bin .add x88 x93).bind fun x94=>
(D.bin .mul x48 x94).bind fun x95=>
(call 42 [x95,(D.int .i64 3)]).bind fun r96=>
(D.idx x75 3).bind fun i97=>
(D.get (D.st [x2,x4,x6]) [i97]).bind fun x98=>
(D.bin .mul (D.int .i64 3) x98).bind fun x99=>
(D.idx x75 3).bind fun i100=>
(D.get (D.st [x2,x4,x6]) [i100]).bind fun x101=>
(D.bin .mul x99 x101).bind fun x102=>
(D.idx x75 3).bind fun i103=>
(D.get (D.st [x2,x4,x6]) [i103]).bind fun x104=>
(D.bin .mul (D.int .i64 3) x104).bind fun x105=>
(D.idx x75 3).bind fun i106=>
(D.get (D.st [x9,x12,x15]) [i106]).bind fun x107=>
(D.bin .mul x105 x107).bind fun x108=>
(D.bin .add x102 x108).bind fun x109=>
(D.idx x75 3).bind fun i110=>
(D.get (D.st [x9,x12,x15]) [i110]).bind fun x111=>
(D.idx x75 3).bind fun i112=>
(D.get (D.st [x9,x12,x15]) [i112]).bind fun x113=>
(D.bin .mul x111 x113).bind fun x114=>
(D.bin .add x109 x114).bind fun x115=>
(D.bin .mul x48 x115).bind fun x116=>
(call 42 [x116,(D.int .i64 3)]).bind fun r117=>
(D.un .neg x48).bind fun x118=>
(D.idx x73 3).bind fun i119=>
(D.get (D.st [x2,x4,x6]) [i119]).bind fun x120=>
(D.bin .mul (D.int .i64 2) x120).bind fun x121=>
(D.idx x73 3).bind fun i122=>
(D.get (D.st [x9,x12,x15]) [i122]).bind fun x123=>
(D.bin .add x121 x123).bind fun x124=>
(D.bin .mul x118 x124).bind fun x125=>
(D.idx x75 3).bind fun i126=>
(D.get (D.st [x2,x4,x6]) [i126]).bind fun x127=>
(D.bin .mul (D.int .i64 2) x127).bind fun x128=>
(D.idx x75 3).bind fun i129=>
(D.get (D.st [x9,x12,x15]) [i129]).bind fun x130=>
(D.bin .add x128 x130).bind fun x131=>
(D.bin .mul x125 x131).bind fun x132=>
(call 42 [x132,(D.int .i64 4)]).bind fun r133=>
(D.get r50 [2]).bind fun x134=>
(D.bin .mul (D.int .i64 4) (gx v59 0)).bind fun x135=>
(D.asSl x134).bind fun l136=>
(D.idx x135 (l136.length)).bind fun i137=>
(l136[i137]?).bind fun x138=>
(call 40 [r96,r117]).bind fun r139=>
(D.truth (D.bool (!(D.beq x138 r139)))).bind fun b140=>
(if b140 then(some true) else((D.get r50 [2]).bind fun x141=>
(D.bin .mul (D.int .i64 3) x73).bind fun x142=>
(D.bin .add x142 x75).bind fun x143=>
(D.asSl x141).bind fun l144=>
(D.idx x143 (l144.length)).bind fun i145=>
(l144[i145]?).bind fun x146=>
 D.truth (D.bool (!(D.beq x146 r133))))).bind fun b147=>
(D.truth (D.bool b147)).bind fun b148=>
(if b148 then(some true) else((D.get r50 [2]).bind fun x149=>
(D.bin .mul (D.int .i64 3) x75).bind fun x150=>
(D.bin .add x150 x73).bind fun x151=>
(D.asSl x149).bind fun l152=>
(D.idx x151 (l152.length)).bind fun i153=>
(l152[i153]?).bind fun x154=>
 D.truth (D.bool (!(D.beq x154 r133))))).bind fun b155=>
(D.truth (D.bool b155)).bind fun b156=>
 if b156 then(some (Sum.inr (0,[(D.bool false)]))) else((D.bin .add (gx v59 0) (D.int .i64 1)).bind fun x157=>
 some (Sum.inl [x157])))) else(some (Sum.inr (1,[])))) [(D.int .i64 0)]).bind fun r158=>
 if r158.1=0 then(some (gx r158.2 0)) else((call 10 []).bind fun r159=>
 some r159)))
theorem L9{lp}(hlp:aE lp):ac 9 (m2 (F9 lp)):=bt (fn:=Tryz.f9) (ann:=A9) hlp (by kernel_rfl) (by kernel_rfl) (fun call a0 a1=>by kernel_rfl)
def M6:Ann:=(.two .leaf (.two .leaf (.two .leaf (.two .leaf (.two .leaf (.two .leaf (.two .leaf (.two (.reg [] 25) (.two .leaf (.two .leaf (.two .leaf (.two .leaf (.two (.reg [] 25) .leaf)))))))))))))
theorem NU{lp}(hlp:aE lp):ac 10 (fl lp 10 Tryz.f10 M6):=cC hlp (by kernel_rfl) (by kernel_rfl)
def PT:Ann:=(.two .leaf (.two .leaf (.two (.two .leaf (.two (.loop ⟨[(2,.same (.ptr K3 4098 [])),(24,.dv (Ty.int .i64))],[(4098,.one K3 (.st [K2] [.ow K1]))],[0,22,23]⟩ [(.ret,⟨[(2,.same (.ptr K3 4098 [])),(3,.dv (Ty.int .i64))],[(4098,.one K3 (.st [K2] [.ow K1]))],[]⟩),(.exit 0,⟨[(2,.same (.ptr K3 4098 []))],[(4098,.one K3 (.st [K2] [.ow K1]))],[0]⟩)] (.two .leaf (.two .leaf (.two (.two (.two .leaf (.two .leaf (.two (.loop ⟨[(2,.same (.ptr K3 4098 [])),(29,.dv (Ty.int .i64))],[(4098,.one K3 (.st [K2] [.ow K1]))],[0,22,23,24,28]⟩ [(.ret,⟨[(2,.same (.ptr K3 4098 [])),(3,.dv (Ty.int .i64))],[(4098,.one K3 (.st [K2] [.ow K1]))],[]⟩),(.exit 2,⟨[(2,.same (.ptr K3 4098 []))],[(4098,.one K3 (.st [K2] [.ow K1]))],[0,22,23,24]⟩)] .leaf) .leaf))) .leaf) .leaf)))) .leaf)) (.two .leaf (.two .leaf (.two .leaf (.two .leaf (.two .leaf (.two (.two .leaf (.two (.loop ⟨[(2,.same (.ptr K3 4098 [])),(10,.same (.mem Ty.bool 36919)),(58,.dv (Ty.int .i64))],[(4098,.one K3 (.st [K2] [.ow K1])),(36919,.many Ty.bool)],[8,56,57]⟩ [(.exit 4,⟨[(2,.same (.ptr K3 4098 [])),(10,.same (.mem Ty.bool 36919))],[(4098,.one K3 (.st [K2] [.ow K1])),(36919,.many Ty.bool)],[8]⟩)] (.two .leaf (.two .leaf (.two (.two (.two .leaf (.two .leaf (.two (.loop ⟨[(2,.same (.ptr K3 4098 [])),(10,.same (.mem Ty.bool 36919)),(66,.dv (Ty.int .i64))],[(4098,.one K3 (.st [K2] [.ow K1])),(36919,.many Ty.bool)],[8,56,57,58,64,65]⟩ [(.exit 6,⟨[(2,.same (.ptr K3 4098 [])),(10,.same (.mem Ty.bool 36919))],[(4098,.one K3 (.st [K2] [.ow K1])),(36919,.many Ty.bool)],[8,56,57,58]⟩)] .leaf) .leaf))) .leaf) .leaf)))) .leaf)) (.two .leaf (.two (.two .leaf (.two (.loop ⟨[(2,.same (.ptr K3 4098 [])),(10,.same (.mem Ty.bool 36919)),(15,.same (.ptr K3 49167 [])),(77,.dv (Ty.int .i64))],[(4098,.one K3 (.st [K2] [.ow K1])),(36919,.many Ty.bool),(49167,.one K3 (.st [K2] [.ow K1]))],[75,76]⟩ [(.exit 8,⟨[(2,.same (.ptr K3 4098 [])),(15,.same (.ptr K3 49167 []))],[(4098,.one K3 (.st [K2] [.ow K1])),(49167,.one K3 (.st [K2] [.ow K1]))],[]⟩)] (.two .leaf (.two .leaf (.cut [(.normal,⟨[(2,.same (.ptr K3 4098 [])),(10,.same (.mem Ty.bool 36919)),(15,.same (.ptr K3 49167 []))],[(4098,.one K3 (.st [K2] [.ow K1])),(36919,.many Ty.bool),(49167,.one K3 (.st [K2] [.ow K1]))],[75,76,77]⟩)] [75,76,77] [] .leaf .leaf)))) .leaf)) .leaf)))))))))))
noncomputable def Jd(lp:Lp)(call:Nat->List D->Option D)(a0:D):Option D:=
(D.asSl a0).bind fun l1=>
(D.bin .gtr (D.int .i64 (l1.length)) (D.int .i64 64)).bind fun x2=>
(D.truth x2).bind fun b3=>
 if b3 then(some (D.tup [(D.st [(D.sl [])]),(D.int .i64 2)])) else((D.asSl a0).bind fun l4=>
(lp (β:=Nat×List D) (fun(v5:List D)=>
(D.bin .lss (gx v5 0) (D.int .i64 (l4.length))).bind fun x6=>
(D.truth x6).bind fun b7=>
 if b7 then((D.asSl a0).bind fun l8=>
(D.idx (gx v5 0) (l8.length)).bind fun i9=>
(l8[i9]?).bind fun x10=>
(lp (β:=Nat×List D) (fun(v11:List D)=>
(D.bin .lss (gx v11 0) (D.int .i64 3)).bind fun x12=>
(D.truth x12).bind fun b13=>
 if b13 then((D.idx (gx v11 0) 3).bind fun i14=>
(D.fld x10 i14).bind fun x15=>
(D.bin .gtr x15 (D.int .i64 262144)).bind fun x16=>
(D.truth x16).bind fun b17=>
(if b17 then(some true) else((D.bin .lss x15 (D.int .i64 (-262144))).bind fun x18=>
 D.truth x18)).bind fun b19=>
(D.truth (D.bool b19)).bind fun b20=>
 if b20 then(some (Sum.inr (0,[(D.int .i64 1),(D.sl [])]))) else((D.bin .add (gx v11 0) (D.int .i64 1)).bind fun x21=>
 some (Sum.inl [x21,(D.sl ((gx v11 1).els))]))) else(some (Sum.inr (1,[(D.sl ((gx v11 1).els))])))) [(D.int .i64 0),(D.sl ((gx v5 1).els))]).bind fun r22=>
 if r22.1=0 then(some (Sum.inr (0,[(gx r22.2 0),(D.sl ((gx r22.2 1).els))]))) else((D.bin .add (gx v5 0) (D.int .i64 1)).bind fun x23=>
 some (Sum.inl [x23,(D.sl ((gx r22.2 0).els))]))) else(some (Sum.inr (1,[(D.sl ((gx v5 1).els))])))) [(D.int .i64 0),(D.sl [])]).bind fun r24=>
 if r24.1=0 then(some (D.tup [(D.st [(D.sl ((gx r24.2 1).els))]),(gx r24.2 0)])) else((call 44 [a0]).bind fun r25=>
(call 45 [r25]).bind fun r26=>
(D.asSl r26).bind fun l27=>
(D.bin .lss (D.int .i64 (l27.length)) (D.int .i64 4)).bind fun x28=>
(D.truth x28).bind fun b29=>
 if b29 then(some (D.tup [(D.st [(D.sl [])]),(D.int .i64 120)])) else((D.asSl r26).bind fun l30=>
(D.bin .gtr (D.int .i64 (l30.length)) (D.int .i64 64)).bind fun x31=>
(D.truth x31).bind fun b32=>
 if b32 then(some (D.tup [(D.st [(D.sl [])]),(D.int .i64 2)])) else((D.asSl r25).bind fun l33=>
(D.natOf (D.int .i64 (l33.length))).bind fun i34=>
 if i34<=1073741824 then((D.asSl r26).bind fun l35=>
(lp (β:=Nat×List D) (fun(v36:List D)=>
(D.bin .lss (gx v36 0) (D.int .i64 (l35.length))).bind fun x37=>
(D.truth x37).bind fun b38=>
 if b38 then((D.asSl r26).bind fun l39=>
(D.idx (gx v36 0) (l39.length)).bind fun i40=>
(l39[i40]?).bind fun x41=>
(call 46 [r25,x41]).bind fun r42=>
(D.asSl r42).bind fun l43=>
(lp (β:=Nat×List D) (fun(v44:List D)=>
(D.bin .lss (gx v44 0) (D.int .i64 (l43.length))).bind fun x45=>
(D.truth x45).bind fun b46=>
 if b46 then((D.asSl r42).bind fun l47=>
(D.idx (gx v44 0) (l47.length)).bind fun i48=>
(l47[i48]?).bind fun x49=>
(D.idx x49 (List.length ((gx v44 2).els))).bind fun i50=>
(((gx v44 2).els)[i50]?).bind fun x51=>
(D.bin .add (gx v44 0) (D.int .i64 1)).bind fun x52=>
 some (Sum.inl [x52,(D.sl ((gx v44 1).els)),(D.sl (List.set ((gx v44 2).els) i50 (D.bool true)))])) else(some (Sum.inr (0,[(D.sl ((gx v44 1).els)),(D.sl ((gx v44 2).els))])))) [(D.int .i64 0),(D.sl ((gx v36 1).els)),(D.sl ((gx v36 2).els))]).bind fun r53=>
(D.bin .add (gx v36 0) (D.int .i64 1)).bind fun x54=>
 some (Sum.inl [x54,(D.sl ((gx r53.2 0).els)),(D.sl ((gx r53.2 1).els))])) else(some (Sum.inr (0,[(D.sl ((gx v36 1).els)),(D.sl ((gx v36 2).els))])))) [(D.int .i64 0),(D.sl ((gx r24.2 0).els)),(D.sl (List.replicate i34 (D.bool false)))]).bind fun r55=>
(D.asSl r25).bind fun l56=>
(lp (β:=Nat×List D) (fun(v57:List D)=>
(D.bin .lss (gx v57 0) (D.int .i64 (l56.length))).bind fun x58=>
(D.truth x58).bind fun b59=>
 if b59 then(((D.asSl r25).bind fun l60=>
(D.idx (gx v57 0) (l60.length)).bind fun i61=>
(l60[i61]?).bind fun x62=>
(D.idx (gx v57 0) (List.length ((gx v57 2).els))).bind fun i63=>
(((gx v57 2).els)[i63]?).bind fun x64=>
(D.truth x64).bind fun b65=>
 if b65 then(if List.length ((gx v57 3).els)+List.length [x62]<=1073741824 then(some (0,[(D.sl ((gx v57 1).els)),(D.sl ((gx v57 2).els)),(D.sl (((gx v57 3).els)++[x62]))])) else none) else(some (0,[(D.sl ((gx v57 1).els)),(D.sl ((gx v57 2).els)),(D.sl ((gx v57 3).els))]))).bind fun(r66:Nat×List D)=>
(D.bin .add (gx v57 0) (D.int .i64 1)).bind fun x67=>
 some (Sum.inl [x67,(D.sl ((gx r66.2 0).els)),(D.sl ((gx r66.2 1).els)),(D.sl ((gx r66.2 2).els))])) else(some (Sum.inr (0,[(D.sl ((gx v57 1).els)),(D.sl ((gx v57 3).els))])))) [(D.int .i64 0),(D.sl ((gx r55.2 0).els)),(D.sl ((gx r55.2 1).els)),(D.sl [])]).bind fun r68=>
 some (D.tup [(D.st [(D.sl ((gx r68.2 1).els))]),(D.int .i64 0)])) else none))))
theorem PH{lp}(hlp:aE lp):ac 11 (m1 (Jd lp)):=cg (fn:=Tryz.f11) (ann:=PT) hlp (by kernel_rfl) (by kernel_rfl) (fun call a0=>by kernel_rfl)
def Np:Ann:=(.two .leaf (.two .leaf (.two (.two .leaf (.two (.loop ⟨[(5,.dv (Ty.int .i64))],[],[0,1]⟩ [(.ret,⟨[(4,.dv Ty.bool)],[],[]⟩),(.exit 0,⟨[],[],[]⟩)] (.two .leaf (.two (.two (.two (.reg [] 8) .leaf) .leaf) .leaf))) .leaf)) .leaf)))
theorem PM{lp}(hlp:aE lp):ac 13 (fl lp 13 Tryz.f13 Np):=cC hlp (by kernel_rfl) (by kernel_rfl)
theorem NC{lp}(hlp:aE lp):ac 14 (fl lp 14 Tryz.f14 .leaf):=cC hlp (by kernel_rfl) (by kernel_rfl)
def Nl:Ann:=(.two .leaf (.two .leaf (.two (.two .leaf (.two (.loop ⟨[(5,.dv (Ty.int .i64))],[],[0,1]⟩ [(.ret,⟨[(4,.dv Ty.bool)],[],[]⟩),(.exit 0,⟨[],[],[]⟩)] (.two .leaf (.two (.two (.two .leaf (.two .leaf (.two (.loop ⟨[(6,.dv (Ty.int .i64))],[],[0,1,5]⟩ [(.ret,⟨[(4,.dv Ty.bool)],[],[]⟩),(.exit 2,⟨[],[],[0,1,5]⟩)] (.two .leaf (.two (.two (.two (.reg [] 16) .leaf) .leaf) .leaf))) .leaf))) .leaf) .leaf))) .leaf)) .leaf)))
theorem Pi{lp}(hlp:aE lp):ac 17 (fl lp 17 Tryz.f17 Nl):=cC hlp (by kernel_rfl) (by kernel_rfl)
def Ol:Ann:=(.two .leaf (.two .leaf (.two (.two .leaf (.two (.loop ⟨[(1,.same (.ptr K3 4097 [])),(3,.ow K6),(10,.dv (Ty.int .i64))],[(4097,.keep K3 1)],[8,9]⟩ [(.exit 0,⟨[(3,.ow K6)],[],[]⟩)] (.two .leaf (.two .leaf (.two (.two (.two .leaf (.reg [] 11)) .leaf) .leaf)))) .leaf)) .leaf)))
noncomputable def Ju(lp:Lp)(call:Nat->List D->Option D)(a0:D):Option D:=
(D.get a0 [0]).bind fun x1=>
(call 45 [x1]).bind fun r2=>
(D.asSl r2).bind fun l3=>
(lp (β:=Nat×List D) (fun(v4:List D)=>
(D.bin .lss (gx v4 1) (D.int .i64 (l3.length))).bind fun x5=>
(D.truth x5).bind fun b6=>
 if b6 then((D.asSl r2).bind fun l7=>
(D.idx (gx v4 1) (l7.length)).bind fun i8=>
(l7[i8]?).bind fun x9=>
(D.get x9 [0]).bind fun x10=>
(D.get x9 [1]).bind fun x11=>
(D.get a0 [0]).bind fun x12=>
(call 46 [x12,x9]).bind fun r13=>
 if List.length ((gx v4 0).els)+List.length [(D.st [x10,x11,r13])]<=1073741824 then((D.bin .add (gx v4 1) (D.int .i64 1)).bind fun x14=>
 some (Sum.inl [(D.sl (((gx v4 0).els)++[(D.st [x10,x11,r13])])),x14])) else none) else(some (Sum.inr (0,[(D.sl ((gx v4 0).els))])))) [(D.sl []),(D.int .i64 0)]).bind fun r15=>
 some (D.sl ((gx r15.2 0).els))
theorem N8{lp}(hlp:aE lp):ac 18 (m1 (Ju lp)):=cg (fn:=Tryz.f18) (ann:=Ol) hlp (by kernel_rfl) (by kernel_rfl) (fun call a0=>by kernel_rfl)
def Nj:Ann:=(.two .leaf (.two .leaf (.two (.two .leaf (.two (.loop ⟨[(5,.dv (Ty.int .i64))],[],[0,1]⟩ [(.ret,⟨[(4,.dv Ty.bool)],[],[]⟩),(.exit 0,⟨[],[],[]⟩)] (.two .leaf (.two (.two (.two (.reg [] 8) .leaf) .leaf) .leaf))) .leaf)) .leaf)))
theorem PF{lp}(hlp:aE lp):ac 20 (fl lp 20 Tryz.f20 Nj):=cC hlp (by kernel_rfl) (by kernel_rfl)
def O9:Ann:=(.two .leaf (.two .leaf (.two (.regI [] 3 (.two (.two .leaf (.two .leaf (.two (.loop ⟨[(1,.same (.clo 56 [(.ptr aG 8195 [])])),(2,.same (.ptr K3 20482 [])),(11,.dv (Ty.int .i64))],[(4097,.one K3 (.dv K3)),(4098,.one aG (.dv aG)),(8195,.one aG (.dv aG)),(20482,.keep K3 2)],[9,10]⟩ [(.exit 0,⟨[],[(4097,.one K3 (.dv K3)),(4098,.one aG (.dv aG)),(8195,.one aG (.dv aG))],[]⟩)] (.two .leaf (.two .leaf (.two (.two (.two .leaf (.two .leaf (.two (.loop ⟨[(1,.same (.clo 56 [(.ptr aG 8195 [])])),(2,.same (.ptr K3 20482 [])),(5,.same (.ptr K6 36869 [])),(6,.dv (Ty.int .i64))],[(4097,.one K3 (.dv K3)),(4098,.one aG (.dv aG)),(8195,.one aG (.dv aG)),(20482,.keep K3 2),(36869,.keep K6 5)],[9,10,11]⟩ [(.exit 2,⟨[(1,.same (.clo 56 [(.ptr aG 8195 [])])),(2,.same (.ptr K3 20482 []))],[(4097,.one K3 (.dv K3)),(4098,.one aG (.dv aG)),(8195,.one aG (.dv aG)),(20482,.keep K3 2)],[9,10,11]⟩)] (.two .leaf (.two (.two (.two (.reg [] 29) (.regI [] 10 (.two .leaf .leaf))) .leaf) .leaf))) .leaf))) .leaf) .leaf)))) .leaf))) .leaf)) .leaf)))
noncomputable def Jx(lp:Lp)(call:Nat->List D->Option D)(a0:D):Option D:=
(call 54 [(D.int .i64 0)]).bind fun r1=>
(call 18 [a0]).bind fun r2=>
(D.asSl r2).bind fun l3=>
(lp (β:=Nat×List D) (fun(v4:List D)=>
(D.bin .lss (gx v4 0) (D.int .i64 (l3.length))).bind fun x5=>
(D.truth x5).bind fun b6=>
 if b6 then((D.asSl r2).bind fun l7=>
(D.idx (gx v4 0) (l7.length)).bind fun i8=>
(l7[i8]?).bind fun x9=>
(lp (β:=Nat×List D) (fun(v10:List D)=>
(D.get x9 [2]).bind fun x11=>
(D.asSl x11).bind fun l12=>
(D.bin .lss (gx v10 0) (D.int .i64 (l12.length))).bind fun x13=>
(D.truth x13).bind fun b14=>
 if b14 then((D.get a0 [0]).bind fun x15=>
(D.get x9 [2]).bind fun x16=>
(D.asSl x16).bind fun l17=>
(D.idx (D.int .i64 0) (l17.length)).bind fun i18=>
(l17[i18]?).bind fun x19=>
(D.asSl x15).bind fun l20=>
(D.idx x19 (l20.length)).bind fun i21=>
(l20[i21]?).bind fun x22=>
(D.get a0 [0]).bind fun x23=>
(D.get x9 [2]).bind fun x24=>
(D.bin .sub (gx v10 0) (D.int .i64 1)).bind fun x25=>
(D.asSl x24).bind fun l26=>
(D.idx x25 (l26.length)).bind fun i27=>
(l26[i27]?).bind fun x28=>
(D.asSl x23).bind fun l29=>
(D.idx x28 (l29.length)).bind fun i30=>
(l29[i30]?).bind fun x31=>
(D.get a0 [0]).bind fun x32=>
(D.get x9 [2]).bind fun x33=>
(D.asSl x33).bind fun l34=>
(D.idx (gx v10 0) (l34.length)).bind fun i35=>
(l34[i35]?).bind fun x36=>
(D.asSl x32).bind fun l37=>
(D.idx x36 (l37.length)).bind fun i38=>
(l37[i38]?).bind fun x39=>
(call 117 [x22,x31]).bind fun r40=>
(call 91 [r40,x39]).bind fun r41=>
(call 57 [(gx v10 3),r41]).bind fun r42=>
(D.bin .add (gx v10 0) (D.int .i64 1)).bind fun x43=>
 some (Sum.inl [x43,(gx v10 1),(gx v10 2),r42])) else(some (Sum.inr (0,[(gx v10 1),(gx v10 2),(gx v10 3)])))) [(D.int .i64 2),(gx v4 1),(gx v4 2),(gx v4 3)]).bind fun r44=>
(D.bin .add (gx v4 0) (D.int .i64 1)).bind fun x45=>
 some (Sum.inl [x45,(gx r44.2 0),(gx r44.2 1),(gx r44.2 2)])) else(some (Sum.inr (0,[(gx v4 1),(gx v4 2),(gx v4 3)])))) [(D.int .i64 0),a0,(D.st [(D.bool false),(D.bool false),(aA aU)]),r1]).bind fun r46=>
 some (gx r46.2 2)
theorem PR{lp}(hlp:aE lp):ac 23 (m1 (Jx lp)):=cg (fn:=Tryz.f23) (ann:=O9) hlp (by kernel_rfl) (by kernel_rfl) (fun call a0=>by kernel_rfl)
def Pa:Ann:=(.two .leaf (.two .leaf (.two (.regI [] 3 (.two (.two .leaf (.two .leaf (.two (.loop ⟨[(1,.same (.clo 60 [(.ptr jZ 8195 [])])),(2,.same (.ptr K3 20482 [])),(11,.dv (Ty.int .i64))],[(4097,.one K3 (.dv K3)),(4098,.one iI (.dv iI)),(8195,.one jZ (.dv jZ)),(20482,.keep K3 2)],[9,10]⟩ [(.exit 0,⟨[],[(4097,.one K3 (.dv K3)),(4098,.one iI (.dv iI)),(8195,.one jZ (.dv jZ))],[]⟩)] (.two .leaf (.two .leaf (.two (.two (.two .leaf (.two .leaf (.two (.loop ⟨[(1,.same (.clo 60 [(.ptr jZ 8195 [])])),(2,.same (.ptr K3 20482 [])),(5,.same (.ptr K6 36869 [])),(6,.dv (Ty.int .i64))],[(4097,.one K3 (.dv K3)),(4098,.one iI (.dv iI)),(8195,.one jZ (.dv jZ)),(20482,.keep K3 2),(36869,.keep K6 5)],[9,10,11]⟩ [(.exit 2,⟨[(1,.same (.clo 60 [(.ptr jZ 8195 [])])),(2,.same (.ptr K3 20482 []))],[(4097,.one K3 (.dv K3)),(4098,.one iI (.dv iI)),(8195,.one jZ (.dv jZ)),(20482,.keep K3 2)],[9,10,11]⟩)] (.two .leaf (.two (.two (.two (.reg [] 29) (.regI [] 10 (.two (.two .leaf (.two .leaf (.two (.loop ⟨[(2,.same (.ptr jZ 8195 [])),(3,.same (.ptr aG 65539 [])),(4,.same (.ptr mI 65540 [])),(6,.dv (Ty.int .i64))],[(4097,.one K3 (.dv K3)),(4098,.one iI (.dv iI)),(8195,.one jZ (.dv jZ)),(20482,.one K3 (.dv K3)),(36869,.one K6 (.dv K6)),(53255,.one mI (.dv mI)),(65539,.keep aG 3),(65540,.keep mI 4)],[]⟩ [(.exit 0,⟨[],[(4097,.one K3 (.dv K3)),(4098,.one iI (.dv iI)),(8195,.one jZ (.dv jZ)),(20482,.one K3 (.dv K3)),(36869,.one K6 (.dv K6)),(53255,.one mI (.dv mI))],[]⟩)] (.two .leaf (.two .leaf (.two (.two (.two .leaf (.reg [] 23)) .leaf) .leaf)))) .leaf))) .leaf))) .leaf) .leaf))) .leaf))) .leaf) .leaf)))) .leaf))) .leaf)) (.two (.reg [] 5) (.two (.two .leaf (.two (.loop ⟨[(2,.same (.ptr iI 4098 [])),(3,.same (.ptr jZ 8195 [])),(4,.same (.ptr aG 36868 [])),(13,.dv (Ty.int .i64))],[(4098,.one iI (.dv iI)),(8195,.keep jZ 3),(36868,.keep aG 4)],[]⟩ [(.exit 0,⟨[(2,.same (.ptr iI 4098 []))],[(4098,.one iI (.dv iI))],[]⟩)] (.two .leaf (.two .leaf (.two (.two (.two .leaf (.reg [] 7)) .leaf) .leaf)))) .leaf)) .leaf)))))
noncomputable def Jp(lp:Lp)(call:Nat->List D->Option D)(a0:D):Option D:=
(call 18 [a0]).bind fun r1=>
(D.asSl r1).bind fun l2=>
(lp (β:=Nat×List D) (fun(v3:List D)=>
(D.bin .lss (gx v3 0) (D.int .i64 (l2.length))).bind fun x4=>
(D.truth x4).bind fun b5=>
 if b5 then((D.asSl r1).bind fun l6=>
(D.idx (gx v3 0) (l6.length)).bind fun i7=>
(l6[i7]?).bind fun x8=>
(lp (β:=Nat×List D) (fun(v9:List D)=>
(D.get x8 [2]).bind fun x10=>
(D.asSl x10).bind fun l11=>
(D.bin .lss (gx v9 0) (D.int .i64 (l11.length))).bind fun x12=>
(D.truth x12).bind fun b13=>
 if b13 then((D.get a0 [0]).bind fun x14=>
(D.get x8 [2]).bind fun x15=>
(D.asSl x15).bind fun l16=>
(D.idx (D.int .i64 0) (l16.length)).bind fun i17=>
(l16[i17]?).bind fun x18=>
(D.asSl x14).bind fun l19=>
(D.idx x18 (l19.length)).bind fun i20=>
(l19[i20]?).bind fun x21=>
(D.get a0 [0]).bind fun x22=>
(D.get x8 [2]).bind fun x23=>
(D.bin .sub (gx v9 0) (D.int .i64 1)).bind fun x24=>
(D.asSl x23).bind fun l25=>
(D.idx x24 (l25.length)).bind fun i26=>
(l25[i26]?).bind fun x27=>
(D.asSl x22).bind fun l28=>
(D.idx x27 (l28.length)).bind fun i29=>
(l28[i29]?).bind fun x30=>
(D.get a0 [0]).bind fun x31=>
(D.get x8 [2]).bind fun x32=>
(D.asSl x32).bind fun l33=>
(D.idx (gx v9 0) (l33.length)).bind fun i34=>
(l33[i34]?).bind fun x35=>
(D.asSl x31).bind fun l36=>
(D.idx x35 (l36.length)).bind fun i37=>
(l36[i37]?).bind fun x38=>
(call 117 [x21,x30]).bind fun r39=>
(call 91 [r39,x38]).bind fun r40=>
(lp (β:=Nat×List D) (fun(v41:List D)=>
(D.bin .lss (gx v41 0) (D.int .i64 3)).bind fun x42=>
(D.truth x42).bind fun b43=>
 if b43 then((D.idx (gx v41 0) 3).bind fun i44=>
(D.get (gx v41 3) [i44]).bind fun x45=>
(D.idx (gx v41 0) 3).bind fun i46=>
(D.get x21 [i46]).bind fun x47=>
(D.idx (gx v41 0) 3).bind fun i48=>
(D.get x30 [i48]).bind fun x49=>
(D.bin .add x47 x49).bind fun x50=>
(D.idx (gx v41 0) 3).bind fun i51=>
(D.get x38 [i51]).bind fun x52=>
(D.bin .add x50 x52).bind fun x53=>
(call 54 [x53]).bind fun r54=>
(call 61 [r40,r54]).bind fun r55=>
(call 57 [x45,r55]).bind fun r56=>
(D.idx (gx v41 0) 3).bind fun i57=>
(D.set (gx v41 3) [i57] r56).bind fun x58=>
(D.bin .add (gx v41 0) (D.int .i64 1)).bind fun x59=>
 some (Sum.inl [x59,(gx v41 1),(gx v41 2),x58,(gx v41 4),(gx v41 5),(gx v41 6)])) else(some (Sum.inr (0,[(gx v41 1),(gx v41 2),(gx v41 3),(gx v41 4),(gx v41 5),(gx v41 6)])))) [(D.int .i64 0),(gx v9 1),(gx v9 2),(gx v9 3),a0,x8,(D.st [x21,x30,x38])]).bind fun r60=>
(D.bin .add (gx v9 0) (D.int .i64 1)).bind fun x61=>
 some (Sum.inl [x61,(gx r60.2 0),(gx r60.2 1),(gx r60.2 2)])) else(some (Sum.inr (0,[(gx v9 1),(gx v9 2),(gx v9 3)])))) [(D.int .i64 2),(gx v3 1),(gx v3 2),(gx v3 3)]).bind fun r62=>
(D.bin .add (gx v3 0) (D.int .i64 1)).bind fun x63=>
 some (Sum.inl [x63,(gx r62.2 0),(gx r62.2 1),(gx r62.2 2)])) else(some (Sum.inr (0,[(gx v3 1),(gx v3 2),(gx v3 3)])))) [(D.int .i64 0),a0,(D.st [(D.st [(D.st [(D.bool false),(D.bool false),(aA aU)]),(D.st [(D.bool false),(D.bool false),(aA aU)])]),(D.st [(D.st [(D.bool false),(D.bool false),(aA aU)]),(D.st [(D.bool false),(D.bool false),(aA aU)])]),(D.st [(D.st [(D.bool false),(D.bool false),(aA aU)]),(D.st [(D.bool false),(D.bool false),(aA aU)])])]),(D.st [(D.st [(D.bool false),(D.bool false),(aA aU)]),(D.st [(D.bool false),(D.bool false),(aA aU)]),(D.st [(D.bool false),(D.bool false),(aA aU)])])]).bind fun r64=>
(call 54 [(D.int .i64 4)]).bind fun r65=>
(call 23 [(gx r64.2 0)]).bind fun r66=>
(call 61 [r65,r66]).bind fun r67=>
(lp (β:=Nat×List D) (fun(v68:List D)=>
(D.bin .lss (gx v68 0) (D.int .i64 3)).bind fun x69=>
(D.truth x69).bind fun b70=>
 if b70 then((D.idx (gx v68 0) 3).bind fun i71=>
(D.get (gx r64.2 2) [i71]).bind fun x72=>
(call 62 [x72,r67]).bind fun r73=>
(D.idx (gx v68 0) 3).bind fun i74=>
(D.set (gx v68 1) [i74] r73).bind fun x75=>
(D.bin .add (gx v68 0) (D.int .i64 1)).bind fun x76=>
 some (Sum.inl [x76,x75])) else(some (Sum.inr (0,[(gx v68 1)])))) [(D.int .i64 0),(gx r64.2 1)]).bind fun r77=>
 some (gx r77.2 0)
theorem Oj{lp}(hlp:aE lp):ac 25 (m1 (Jp lp)):=cg (fn:=Tryz.f25) (ann:=Pa) hlp (by kernel_rfl) (by kernel_rfl) (fun call a0=>by kernel_rfl)
def M8:Ann:=(.two .leaf (.two .leaf (.two (.two .leaf (.two (.loop ⟨[(2,.same (.ptr jb 4098 [])),(3,.same (.ptr jb 4099 [])),(5,.dv (Ty.int .i64))],[(4098,.keep jb 2),(4099,.keep jb 3)],[]⟩ [(.ret,⟨[(4,.dv Ty.bool)],[],[]⟩),(.exit 0,⟨[],[],[]⟩)] (.two .leaf (.two (.two (.two (.reg [] 10) .leaf) .leaf) .leaf))) .leaf)) .leaf)))
theorem Oa{lp}(hlp:aE lp):ac 27 (fl lp 27 Tryz.f27 M8):=cC hlp (by kernel_rfl) (by kernel_rfl)
end Go.Proofs.YtjjjkojfijpeeaaGreat.Sy
end
section
set_option maxRecDepth 20000
set_option maxHeartbeats 0
set_option linter.unusedVariables false
namespace Go.Proofs.YtjjjkojfijpeeaaGreat.Sy
open Go Go.Proofs
def PW:Ann:=(.two .leaf (.two .leaf (.two (.regI [] 3 (.two (.two .leaf (.two .leaf (.two (.loop ⟨[(1,.same (.clo 67 [(.ptr ks 8195 [])])),(2,.same (.ptr K3 20482 [])),(11,.dv (Ty.int .i64))],[(4097,.one K3 (.dv K3)),(4098,.one jb (.st [(Ty.int .i64),(Ty.int .i64),rZ] [.dv (Ty.int .i64),.dv (Ty.int .i64),.ow cZ])),(8195,.one ks (.dv ks)),(20482,.keep K3 2)],[9,10]⟩ [(.exit 0,⟨[],[(4097,.one K3 (.dv K3)),(4098,.one jb (.st [(Ty.int .i64),(Ty.int .i64),rZ] [.dv (Ty.int .i64),.dv (Ty.int .i64),.ow cZ])),(8195,.one ks (.dv ks))],[]⟩)] (.two .leaf (.two .leaf (.two (.two (.two .leaf (.two .leaf (.two (.loop ⟨[(1,.same (.clo 67 [(.ptr ks 8195 [])])),(2,.same (.ptr K3 20482 [])),(5,.same (.ptr K6 36869 [])),(6,.dv (Ty.int .i64))],[(4097,.one K3 (.dv K3)),(4098,.one jb (.st [(Ty.int .i64),(Ty.int .i64),rZ] [.dv (Ty.int .i64),.dv (Ty.int .i64),.ow cZ])),(8195,.one ks (.dv ks)),(20482,.keep K3 2),(36869,.keep K6 5)],[9,10,11]⟩ [(.exit 2,⟨[(1,.same (.clo 67 [(.ptr ks 8195 [])])),(2,.same (.ptr K3 20482 []))],[(4097,.one K3 (.dv K3)),(4098,.one jb (.st [(Ty.int .i64),(Ty.int .i64),rZ] [.dv (Ty.int .i64),.dv (Ty.int .i64),.ow cZ])),(8195,.one ks (.dv ks)),(20482,.keep K3 2)],[9,10,11]⟩)] (.two .leaf (.two (.two (.two (.reg [] 29) (.regI [] 10 (.two (.two .leaf (.two .leaf (.two (.loop ⟨[(2,.same (.ptr ks 8195 [])),(3,.same (.ptr aG 65539 [])),(4,.same (.ptr mI 65540 [])),(10,.dv (Ty.int .i64))],[(4097,.one K3 (.dv K3)),(4098,.one jb (.st [(Ty.int .i64),(Ty.int .i64),rZ] [.dv (Ty.int .i64),.dv (Ty.int .i64),.ow cZ])),(8195,.one ks (.dv ks)),(20482,.one K3 (.dv K3)),(36869,.one K6 (.dv K6)),(53255,.one mI (.dv mI)),(65539,.keep aG 3),(65540,.keep mI 4)],[]⟩ [(.exit 0,⟨[],[(4097,.one K3 (.dv K3)),(4098,.one jb (.st [(Ty.int .i64),(Ty.int .i64),rZ] [.dv (Ty.int .i64),.dv (Ty.int .i64),.ow cZ])),(8195,.one ks (.dv ks)),(20482,.one K3 (.dv K3)),(36869,.one K6 (.dv K6)),(53255,.one mI (.dv mI))],[]⟩)] (.two .leaf (.two .leaf (.two (.two (.two .leaf (.two .leaf (.two (.loop ⟨[(2,.same (.ptr ks 8195 [])),(3,.same (.ptr aG 65539 [])),(4,.same (.ptr mI 65540 [])),(13,.dv (Ty.int .i64))],[(4097,.one K3 (.dv K3)),(4098,.one jb (.st [(Ty.int .i64),(Ty.int .i64),rZ] [.dv (Ty.int .i64),.dv (Ty.int .i64),.ow cZ])),(8195,.one ks (.dv ks)),(20482,.one K3 (.dv K3)),(36869,.one K6 (.dv K6)),(53255,.one mI (.dv mI)),(65539,.keep aG 3),(65540,.keep mI 4)],[5,10]⟩ [(.exit 2,⟨[(2,.same (.ptr ks 8195 [])),(3,.same (.ptr aG 65539 [])),(4,.same (.ptr mI 65540 []))],[(4097,.one K3 (.dv K3)),(4098,.one jb (.st [(Ty.int .i64),(Ty.int .i64),rZ] [.dv (Ty.int .i64),.dv (Ty.int .i64),.ow cZ])),(8195,.one ks (.dv ks)),(20482,.one K3 (.dv K3)),(36869,.one K6 (.dv K6)),(53255,.one mI (.dv mI)),(65539,.keep aG 3),(65540,.keep mI 4)],[10]⟩)] (.two .leaf (.two .leaf (.two (.two (.two .leaf (.two (.reg [] 29) (.two (.two .leaf (.two (.loop ⟨[(2,.same (.ptr ks 8195 [])),(3,.same (.ptr aG 65539 [])),(4,.same (.ptr mI 65540 [])),(7,.dv (Ty.int .i64)),(46,.dv (Ty.int .i64))],[(4097,.one K3 (.dv K3)),(4098,.one jb (.st [(Ty.int .i64),(Ty.int .i64),rZ] [.dv (Ty.int .i64),.dv (Ty.int .i64),.ow cZ])),(8195,.keep ks 2),(20482,.one K3 (.dv K3)),(36869,.one K6 (.dv K6)),(53255,.one mI (.dv mI)),(65539,.keep aG 3),(65540,.keep mI 4)],[5,6,10,13,45]⟩ [(.exit 4,⟨[(2,.same (.ptr ks 8195 [])),(3,.same (.ptr aG 65539 [])),(4,.same (.ptr mI 65540 [])),(7,.dv (Ty.int .i64))],[(4097,.one K3 (.dv K3)),(4098,.one jb (.st [(Ty.int .i64),(Ty.int .i64),rZ] [.dv (Ty.int .i64),.dv (Ty.int .i64),.ow cZ])),(8195,.keep ks 2),(20482,.one K3 (.dv K3)),(36869,.one K6 (.dv K6)),(53255,.one mI (.dv mI)),(65539,.keep aG 3),(65540,.keep mI 4)],[5,6,10,13]⟩)] (.two .leaf (.two .leaf (.two (.two (.two .leaf (.reg [] 9)) .leaf) .leaf)))) .leaf)) (.reg [] 14)))) .leaf) .leaf)))) .leaf))) .leaf) .leaf)))) .leaf))) .leaf))) .leaf) .leaf))) .leaf))) .leaf) .leaf)))) .leaf))) .leaf)) (.two (.reg [] 12) (.two .leaf (.two (.two .leaf (.two (.loop ⟨[(2,.same (.ptr jb 4098 [])),(3,.same (.ptr ks 8195 [])),(4,.same (.ptr aG 36868 [])),(5,.same (.ptr jb 40965 [])),(24,.dv (Ty.int .i64))],[(4098,.one jb (.st [(Ty.int .i64),(Ty.int .i64),rZ] [.dv (Ty.int .i64),.dv (Ty.int .i64),.ow cZ])),(8195,.keep ks 3),(36868,.keep aG 4),(40965,.one jb (.st [(Ty.int .i64),(Ty.int .i64),rZ] [.dv (Ty.int .i64),.dv (Ty.int .i64),.ow cZ]))],[]⟩ [(.exit 0,⟨[(2,.same (.ptr jb 4098 [])),(5,.same (.ptr jb 40965 []))],[(4098,.one jb (.st [(Ty.int .i64),(Ty.int .i64),rZ] [.dv (Ty.int .i64),.dv (Ty.int .i64),.ow cZ])),(40965,.one jb (.st [(Ty.int .i64),(Ty.int .i64),rZ] [.dv (Ty.int .i64),.dv (Ty.int .i64),.ow cZ]))],[]⟩)] (.two .leaf (.two .leaf (.two (.two (.two .leaf (.two .leaf (.two (.loop ⟨[(2,.same (.ptr jb 4098 [])),(3,.same (.ptr ks 8195 [])),(4,.same (.ptr aG 36868 [])),(5,.same (.ptr jb 40965 [])),(27,.dv (Ty.int .i64))],[(4098,.one jb (.st [(Ty.int .i64),(Ty.int .i64),rZ] [.dv (Ty.int .i64),.dv (Ty.int .i64),.ow cZ])),(8195,.keep ks 3),(36868,.keep aG 4),(40965,.one jb (.st [(Ty.int .i64),(Ty.int .i64),rZ] [.dv (Ty.int .i64),.dv (Ty.int .i64),.ow cZ]))],[6,24]⟩ [(.exit 2,⟨[(2,.same (.ptr jb 4098 [])),(3,.same (.ptr ks 8195 [])),(4,.same (.ptr aG 36868 [])),(5,.same (.ptr jb 40965 []))],[(4098,.one jb (.st [(Ty.int .i64),(Ty.int .i64),rZ] [.dv (Ty.int .i64),.dv (Ty.int .i64),.ow cZ])),(8195,.keep ks 3),(36868,.keep aG 4),(40965,.one jb (.st [(Ty.int .i64),(Ty.int .i64),rZ] [.dv (Ty.int .i64),.dv (Ty.int .i64),.ow cZ]))],[24]⟩)] (.two .leaf (.two .leaf (.two (.two (.two .leaf (.two .leaf (.cut [(.normal,⟨[(2,.same (.ptr jb 4098 [])),(3,.same (.ptr ks 8195 [])),(4,.same (.ptr aG 36868 [])),(5,.same (.ptr jb 40965 [])),(8,.same (.ptr aG 77832 []))],[(4098,.one jb (.st [(Ty.int .i64),(Ty.int .i64),rZ] [.dv (Ty.int .i64),.dv (Ty.int .i64),.ow cZ])),(8195,.keep ks 3),(36868,.keep aG 4),(40965,.one jb (.st [(Ty.int .i64),(Ty.int .i64),rZ] [.dv (Ty.int .i64),.dv (Ty.int .i64),.ow cZ])),(77832,.one aG (.dv aG))],[6,24,27]⟩)] [6,24,27] [8195,36868] .leaf (.reg [] 6)))) .leaf) .leaf)))) .leaf))) .leaf) .leaf)))) .leaf)) .leaf))))))
noncomputable def Jw(lp:Lp)(call:Nat->List D->Option D)(a0:D):Option D:=
(call 18 [a0]).bind fun r1=>
(D.asSl r1).bind fun l2=>
(lp (β:=Nat×List D) (fun(v3:List D)=>
(D.bin .lss (gx v3 0) (D.int .i64 (l2.length))).bind fun x4=>
(D.truth x4).bind fun b5=>
 if b5 then((D.asSl r1).bind fun l6=>
(D.idx (gx v3 0) (l6.length)).bind fun i7=>
(l6[i7]?).bind fun x8=>
(lp (β:=Nat×List D) (fun(v9:List D)=>
(D.get x8 [2]).bind fun x10=>
(D.asSl x10).bind fun l11=>
(D.bin .lss (gx v9 0) (D.int .i64 (l11.length))).bind fun x12=>
(D.truth x12).bind fun b13=>
 if b13 then((D.get a0 [0]).bind fun x14=>
(D.get x8 [2]).bind fun x15=>
(D.asSl x15).bind fun l16=>
(D.idx (D.int .i64 0) (l16.length)).bind fun i17=>
(l16[i17]?).bind fun x18=>
(D.asSl x14).bind fun l19=>
(D.idx x18 (l19.length)).bind fun i20=>
(l19[i20]?).bind fun x21=>
(D.get a0 [0]).bind fun x22=>
(D.get x8 [2]).bind fun x23=>
(D.bin .sub (gx v9 0) (D.int .i64 1)).bind fun x24=>
(D.asSl x23).bind fun l25=>
(D.idx x24 (l25.length)).bind fun i26=>
(l25[i26]?).bind fun x27=>
(D.asSl x22).bind fun l28=>
(D.idx x27 (l28.length)).bind fun i29=>
(l28[i29]?).bind fun x30=>
(D.get a0 [0]).bind fun x31=>
(D.get x8 [2]).bind fun x32=>
(D.asSl x32).bind fun l33=>
(D.idx (gx v9 0) (l33.length)).bind fun i34=>
(l33[i34]?).bind fun x35=>
(D.asSl x31).bind fun l36=>
(D.idx x35 (l36.length)).bind fun i37=>
(l36[i37]?).bind fun x38=>
(call 117 [x21,x30]).bind fun r39=>
(call 91 [r39,x38]).bind fun r40=>
(lp (β:=Nat×List D) (fun(v41:List D)=>
(D.bin .lss (gx v41 0) (D.int .i64 3)).bind fun x42=>
(D.truth x42).bind fun b43=>
 if b43 then((lp (β:=Nat×List D) (fun(v44:List D)=>
(D.bin .lss (gx v44 0) (D.int .i64 3)).bind fun x45=>
(D.truth x45).bind fun b46=>
 if b46 then((D.idx (gx v41 0) 3).bind fun i47=>
(D.get x21 [i47]).bind fun x48=>
(D.idx (gx v41 0) 3).bind fun i49=>
(D.get x30 [i49]).bind fun x50=>
(D.bin .add x48 x50).bind fun x51=>
(D.idx (gx v41 0) 3).bind fun i52=>
(D.get x38 [i52]).bind fun x53=>
(D.bin .add x51 x53).bind fun x54=>
(D.idx (gx v44 0) 3).bind fun i55=>
(D.get x21 [i55]).bind fun x56=>
(D.idx (gx v44 0) 3).bind fun i57=>
(D.get x30 [i57]).bind fun x58=>
(D.bin .add x56 x58).bind fun x59=>
(D.idx (gx v44 0) 3).bind fun i60=>
(D.get x38 [i60]).bind fun x61=>
(D.bin .add x59 x61).bind fun x62=>
(D.bin .mul x54 x62).bind fun x63=>
(lp (β:=Nat×List D) (fun(v64:List D)=>
(D.bin .lss (gx v64 1) (D.int .i64 3)).bind fun x65=>
(D.truth x65).bind fun b66=>
 if b66 then((D.idx (gx v64 1) 3).bind fun i67=>
(D.fld (D.st [x21,x30,x38]) i67).bind fun x68=>
(D.idx (gx v41 0) 3).bind fun i69=>
(D.get x68 [i69]).bind fun x70=>
(D.idx (gx v44 0) 3).bind fun i71=>
(D.get x68 [i71]).bind fun x72=>
(D.bin .mul x70 x72).bind fun x73=>
(D.bin .add (gx v64 0) x73).bind fun x74=>
(D.bin .add (gx v64 1) (D.int .i64 1)).bind fun x75=>
 some (Sum.inl [x74,x75,(gx v64 2),(gx v64 3),(gx v64 4),(D.sl ((gx v64 5).els)),(gx v64 6),(gx v64 7),(gx v64 8)])) else(some (Sum.inr (0,[(gx v64 0),(gx v64 2),(gx v64 3),(gx v64 4),(D.sl ((gx v64 5).els)),(gx v64 6),(gx v64 7),(gx v64 8)])))) [x63,(D.int .i64 0),(gx v44 1),(gx v44 2),(gx v44 3),(D.sl ((gx v44 4).els)),(gx v44 6),(gx v44 7),(gx v44 8)]).bind fun r76=>
(D.idx (gx v41 0) 3).bind fun i77=>
(D.idx (gx v44 0) 3).bind fun i78=>
(D.get (gx v44 5) [i77,i78]).bind fun x79=>
(call 54 [(gx r76.2 0)]).bind fun r80=>
(call 61 [r40,r80]).bind fun r81=>
(call 57 [x79,r81]).bind fun r82=>
(D.idx (gx v41 0) 3).bind fun i83=>
(D.idx (gx v44 0) 3).bind fun i84=>
(D.set (gx v44 5) [i83,i84] r82).bind fun x85=>
(D.bin .add (gx v44 0) (D.int .i64 1)).bind fun x86=>
 some (Sum.inl [x86,(gx r76.2 1),(gx r76.2 2),(gx r76.2 3),(D.sl ((gx r76.2 4).els)),x85,(gx r76.2 5),(gx r76.2 6),(gx r76.2 7)])) else(some (Sum.inr (0,[(gx v44 1),(gx v44 2),(gx v44 3),(D.sl ((gx v44 4).els)),(gx v44 5),(gx v44 6),(gx v44 7),(gx v44 8)])))) [(D.int .i64 0),(gx v41 1),(gx v41 2),(gx v41 3),(D.sl ((gx v41 4).els)),(gx v41 5),(gx v41 6),(gx v41 7),(gx v41 8)]).bind fun r87=>
(D.bin .add (gx v41 0) (D.int .i64 1)).bind fun x88=>
 some (Sum.inl [x88,(gx r87.2 0),(gx r87.2 1),(gx r87.2 2),(D.sl ((gx r87.2 3).els)),(gx r87.2 4),(gx r87.2 5),(gx r87.2 6),(gx r87.2 7)])) else(some (Sum.inr (0,[(gx v41 1),(gx v41 2),(gx v41 3),(D.sl ((gx v41 4).els)),(gx v41 5),(gx v41 6),(gx v41 7),(gx v41 8)])))) [(D.int .i64 0),(gx v9 1),(gx v9 2),(gx v9 3),(D.sl ((gx v9 4).els)),(gx v9 5),a0,x8,(D.st [x21,x30,x38])]).bind fun r89=>
(D.bin .add (gx v9 0) (D.int .i64 1)).bind fun x90=>
 some (Sum.inl [x90,(gx r89.2 0),(gx r89.2 1),(gx r89.2 2),(D.sl ((gx r89.2 3).els)),(gx r89.2 4)])) else(some (Sum.inr (0,[(gx v9 1),(gx v9 2),(gx v9 3),(D.sl ((gx v9 4).els)),(gx v9 5)])))) [(D.int .i64 2),(gx v3 1),(gx v3 2),(gx v3 3),(D.sl ((gx v3 4).els)),(gx v3 5)]).bind fun r91=>
(D.bin .add (gx v3 0) (D.int .i64 1)).bind fun x92=>
 some (Sum.inl [x92,(gx r91.2 0),(gx r91.2 1),(gx r91.2 2),(D.sl ((gx r91.2 3).els)),(gx r91.2 4)])) else(some (Sum.inr (0,[(gx v3 1),(gx v3 2),(gx v3 3),(D.sl ((gx v3 4).els)),(gx v3 5)])))) [(D.int .i64 0),a0,(D.int .i64 0),(D.int .i64 0),(D.sl []),(D.st [(D.st [(D.st [(D.bool false),(D.bool false),(aA aU)]),(D.st [(D.bool false),(D.bool false),(aA aU)]),(D.st [(D.bool false),(D.bool false),(aA aU)])]),(D.st [(D.st [(D.bool false),(D.bool false),(aA aU)]),(D.st [(D.bool false),(D.bool false),(aA aU)]),(D.st [(D.bool false),(D.bool false),(aA aU)])]),(D.st [(D.st [(D.bool false),(D.bool false),(aA aU)]),(D.st [(D.bool false),(D.bool false),(aA aU)]),(D.st [(D.bool false),(D.bool false),(aA aU)])])])]).bind fun r93=>
(D.get (gx r93.2 4) [0,0]).bind fun x94=>
(D.get (gx r93.2 4) [1,1]).bind fun x95=>
(call 57 [x94,x95]).bind fun r96=>
(D.get (gx r93.2 4) [2,2]).bind fun x97=>
(call 57 [r96,x97]).bind fun r98=>
(lp (β:=Nat×List D) (fun(v99:List D)=>
(D.bin .lss (gx v99 0) (D.int .i64 3)).bind fun x100=>
(D.truth x100).bind fun b101=>
 if b101 then((lp (β:=Nat×List D) (fun(v102:List D)=>
(D.bin .lss (gx v102 0) (D.int .i64 3)).bind fun x103=>
(D.truth x103).bind fun b104=>
 if b104 then((D.idx (gx v99 0) 3).bind fun i105=>
(D.idx (gx v102 0) 3).bind fun i106=>
(D.get (gx r93.2 4) [i105,i106]).bind fun x107=>
(call 68 [x107]).bind fun r108=>
((D.truth (D.bool (D.beq (gx v99 0) (gx v102 0)))).bind fun b109=>
 if b109 then((call 57 [r108,r98]).bind fun r110=>
 some (0,[(gx v102 1),(gx v102 2),(D.sl ((gx v102 3).els)),(gx v102 4),(gx v102 5),(D.sl ((gx v102 6).els)),r110])) else(some (0,[(gx v102 1),(gx v102 2),(D.sl ((gx v102 3).els)),(gx v102 4),(gx v102 5),(D.sl ((gx v102 6).els)),r108]))).bind fun(r111:Nat×List D)=>
(call 54 [(D.int .i64 120)]).bind fun r112=>
(call 62 [(gx r111.2 6),r112]).bind fun r113=>
 if List.length ((gx r111.2 5).els)+List.length [r113]<=1073741824 then((D.bin .add (gx v102 0) (D.int .i64 1)).bind fun x114=>
 some (Sum.inl [x114,(gx r111.2 0),(gx r111.2 1),(D.sl ((gx r111.2 2).els)),(gx r111.2 3),(gx r111.2 4),(D.sl (((gx r111.2 5).els)++[r113]))])) else none) else(some (Sum.inr (0,[(gx v102 1),(gx v102 2),(D.sl ((gx v102 3).els)),(gx v102 4),(gx v102 5),(D.sl ((gx v102 6).els))])))) [(D.int .i64 0),(gx v99 1),(gx v99 2),(D.sl ((gx v99 3).els)),(gx v99 4),(gx v99 5),(D.sl ((gx v99 6).els))]).bind fun r115=>
(D.bin .add (gx v99 0) (D.int .i64 1)).bind fun x116=>
 some (Sum.inl [x116,(gx r115.2 0),(gx r115.2 1),(D.sl ((gx r115.2 2).els)),(gx r115.2 3),(gx r115.2 4),(D.sl ((gx r115.2 5).els))])) else(some (Sum.inr (0,[(gx v99 1),(gx v99 2),(D.sl ((gx v99 3).els)),(gx v99 4),(gx v99 5),(D.sl ((gx v99 6).els))])))) [(D.int .i64 0),(gx r93.2 1),(gx r93.2 2),(D.sl ((gx r93.2 3).els)),(D.int .i64 3),(D.int .i64 3),(D.sl [])]).bind fun r117=>
 some (D.st [(gx r117.2 3),(gx r117.2 4),(D.sl ((gx r117.2 5).els))])
theorem Pt{lp}(hlp:aE lp):ac 28 (m1 (Jw lp)):=cg (fn:=Tryz.f28) (ann:=PW) hlp (by kernel_rfl) (by kernel_rfl) (fun call a0=>by kernel_rfl)
def Ng:Ann:=(.two .leaf (.two .leaf (.two .leaf (.two (.two .leaf (.two (.loop ⟨[(3,.same (.ptr iI 4099 [])),(5,.dv (Ty.int .i64)),(15,.dv (Ty.int .i64))],[(4099,.keep iI 3)],[13,14]⟩ [(.ret,⟨[(4,.dv (Ty.int .i64))],[],[]⟩),(.exit 0,⟨[(5,.dv (Ty.int .i64))],[],[]⟩)] (.two .leaf (.two .leaf (.two (.two (.two .leaf (.two .leaf (.two .leaf (.reg [] 7)))) .leaf) .leaf)))) .leaf)) .leaf))))
theorem ON{lp}(hlp:aE lp):ac 30 (fl lp 30 Tryz.f30 Ng):=cC hlp (by kernel_rfl) (by kernel_rfl)
def Nu:Ann:=(.two .leaf (.two (.reg [] 10) .leaf))
theorem N7{lp}(hlp:aE lp):ac 31 (fl lp 31 Tryz.f31 Nu):=cC hlp (by kernel_rfl) (by kernel_rfl)
noncomputable def JD(lp:Lp)(call:Nat->List D->Option D)(a0:D):Option D:=
(D.bin .geq a0 (D.int .i64 0)).bind fun x1=>
(D.truth x1).bind fun b2=>
 if b2 then((D.bin .rem a0 (D.int .i64 65536)).bind fun x3=>
(D.bin .quo a0 (D.int .i64 65536)).bind fun x4=>
(D.bin .rem x4 (D.int .i64 65536)).bind fun x5=>
(D.bin .quo a0 (D.int .i64 4294967296)).bind fun x6=>
(D.bin .rem x6 (D.int .i64 65536)).bind fun x7=>
(D.bin .quo a0 (D.int .i64 281474976710656)).bind fun x8=>
(call 81 [(D.bool false),(D.sl [x3,x5,x7,x8])]).bind fun r9=>
 some r9) else((D.bin .add a0 (D.int .i64 1)).bind fun x10=>
(D.un .neg x10).bind fun x11=>
(D.bin .rem x11 (D.int .i64 65536)).bind fun x12=>
(D.bin .quo x11 (D.int .i64 65536)).bind fun x13=>
(D.bin .rem x13 (D.int .i64 65536)).bind fun x14=>
(D.bin .quo x11 (D.int .i64 4294967296)).bind fun x15=>
(D.bin .rem x15 (D.int .i64 65536)).bind fun x16=>
(D.bin .quo x11 (D.int .i64 281474976710656)).bind fun x17=>
(call 82 [(D.sl [x12,x14,x16,x17]),(D.sl [(D.int .i64 1)])]).bind fun r18=>
(call 81 [(D.bool true),r18]).bind fun r19=>
 some r19)
theorem O1{lp}(hlp:aE lp):ac 34 (m1 (JD lp)):=cg (fn:=Tryz.f34) (ann:=.leaf) hlp (by kernel_rfl) (by kernel_rfl) (fun call a0=>by kernel_rfl)
def NR:Ann:=(.two .leaf (.two .leaf (.two .leaf (.cut [(.normal,⟨[(2,.same (.ptr aG 4098 [])),(3,.same (.ptr aG 4099 [])),(4,.same (.ptr cZ 4100 [])),(5,.same (.ptr aG 12293 []))],[(4098,.keep aG 2),(4099,.keep aG 3),(4100,.keep cZ 4),(12293,.one aG (.dv aG))],[]⟩)] [] [4098,4099,4100] .leaf (.two (.reg [] 7) .leaf)))))
noncomputable def JK(lp:Lp)(call:Nat->List D->Option D)(a0:D)(a1:D):Option D:=
(call 76 [a0]).bind fun r1=>
(D.un .not r1).bind fun x2=>
(D.truth x2).bind fun b3=>
(if b3 then(some true) else((call 76 [a1]).bind fun r4=>
(D.un .not r4).bind fun x5=>
 D.truth x5)).bind fun b6=>
(D.truth (D.bool b6)).bind fun b7=>
(if b7 then(some true) else((call 83 [a1]).bind fun r8=>
 D.truth (D.bool (D.beq r8 (D.int .i64 0))))).bind fun b9=>
(D.truth (D.bool b9)).bind fun b10=>
 if b10 then((call 84 []).bind fun r11=>
 some r11) else((call 85 [a0,a1]).bind fun r12=>
((call 83 [a1]).bind fun r13=>
(D.bin .lss r13 (D.int .i64 0)).bind fun x14=>
(D.truth x14).bind fun b15=>
 if b15 then((call 86 [r12]).bind fun r16=>
 some (0,[r16])) else(some (0,[r12]))).bind fun(r17:Nat×List D)=>
(call 87 [a0,(gx r17.2 0)]).bind fun r18=>
(call 87 [a1,(gx r17.2 0)]).bind fun r19=>
 some (D.st [r18,r19]))
theorem PS{lp}(hlp:aE lp):ac 37 (m2 (JK lp)):=bt (fn:=Tryz.f37) (ann:=NR) hlp (by kernel_rfl) (by kernel_rfl) (fun call a0 a1=>by kernel_rfl)
def OI:Ann:=(.two .leaf (.two .leaf (.two .leaf (.two .leaf (.two .leaf (.two (.reg [] 14) .leaf))))))
noncomputable def JB(lp:Lp)(call:Nat->List D->Option D)(a0:D)(a1:D):Option D:=
(call 88 [a0]).bind fun r1=>
(D.un .not r1).bind fun x2=>
(D.truth x2).bind fun b3=>
(if b3 then(some true) else((call 88 [a1]).bind fun r4=>
(D.un .not r4).bind fun x5=>
 D.truth x5)).bind fun b6=>
(D.truth (D.bool b6)).bind fun b7=>
 if b7 then((call 84 []).bind fun r8=>
 some r8) else((D.get a0 [1]).bind fun x9=>
(D.get a1 [1]).bind fun x10=>
(call 85 [x9,x10]).bind fun r11=>
(D.get a0 [1]).bind fun x12=>
(call 87 [x12,r11]).bind fun r13=>
(D.get a1 [1]).bind fun x14=>
(call 87 [x14,r11]).bind fun r15=>
(D.get a0 [0]).bind fun x16=>
(call 89 [x16,r15]).bind fun r17=>
(D.get a1 [0]).bind fun x18=>
(call 89 [x18,r13]).bind fun r19=>
(call 59 [r17,r19]).bind fun r20=>
(D.get a1 [1]).bind fun x21=>
(call 89 [r13,x21]).bind fun r22=>
(call 37 [r20,r22]).bind fun r23=>
 some r23)
theorem Pu{lp}(hlp:aE lp):ac 40 (m2 (JB lp)):=bt (fn:=Tryz.f40) (ann:=OI) hlp (by kernel_rfl) (by kernel_rfl) (fun call a0 a1=>by kernel_rfl)
noncomputable def JI(lp:Lp)(call:Nat->List D->Option D)(a0:D)(a1:D):Option D:=
(call 34 [a0]).bind fun r1=>
(call 34 [a1]).bind fun r2=>
(call 37 [r1,r2]).bind fun r3=>
 some r3
theorem PB{lp}(hlp:aE lp):ac 42 (m2 (JI lp)):=bt (fn:=Tryz.f42) (ann:=.leaf) hlp (by kernel_rfl) (by kernel_rfl) (fun call a0 a1=>by kernel_rfl)
def Nf:Ann:=(.two .leaf (.two .leaf (.two (.two .leaf (.two (.loop ⟨[(2,.same (.ptr K3 4098 [])),(3,.same (.ptr K1 4099 [])),(5,.dv (Ty.int .i64)),(11,.dv (Ty.int .i64))],[(4098,.keep K3 2),(4099,.keep K1 3)],[9,10]⟩ [(.exit 0,⟨[(5,.dv (Ty.int .i64))],[],[]⟩)] (.two .leaf (.two .leaf (.cut [(.normal,⟨[(2,.same (.ptr K3 4098 [])),(3,.same (.ptr K1 4099 [])),(5,.dv (Ty.int .i64))],[(4098,.keep K3 2),(4099,.keep K1 3)],[9,10,11]⟩)] [9,10,11] [4098,4099] (.two (.two .leaf (.two (.reg [] 11) .leaf)) .leaf) .leaf)))) .leaf)) .leaf)))
theorem OU{lp}(hlp:aE lp):ac 43 (fl lp 43 Tryz.f43 Nf):=cC hlp (by kernel_rfl) (by kernel_rfl)
def OA:Ann:=(.two .leaf (.two .leaf (.two (.two .leaf (.two (.loop ⟨[(2,.same (.ptr K2 4098 [])),(3,.same (.ptr ew 4099 [])),(5,.same (.ptr K5 8197 [])),(13,.dv (Ty.int .i64))],[(4098,.keep K2 2),(4099,.keep ew 3),(8197,.one K5 (.ow (Ty.int .i64)))],[11,12]⟩ [(.exit 0,⟨[(2,.same (.ptr K2 4098 [])),(3,.same (.ptr ew 4099 [])),(5,.same (.ptr K5 8197 []))],[(4098,.keep K2 2),(4099,.keep ew 3),(8197,.one K5 (.ow (Ty.int .i64)))],[]⟩)] (.two .leaf (.two .leaf (.cut [(.normal,⟨[(2,.same (.ptr K2 4098 [])),(3,.same (.ptr ew 4099 [])),(5,.same (.ptr K5 8197 []))],[(4098,.keep K2 2),(4099,.keep ew 3),(8197,.one K5 (.ow (Ty.int .i64)))],[11,12,13]⟩)] [11,12,13] [4098,4099] (.two (.two .leaf (.two (.reg [] 6) .leaf)) .leaf) .leaf)))) .leaf)) (.two .leaf (.two .leaf (.two (.two (.regI [] 6 (.two (.two .leaf (.two .leaf (.two (.two .leaf (.two (.loop ⟨[(2,.same (.ptr K2 4098 [])),(3,.same (.ptr ew 4099 [])),(6,.dv (Ty.int .i64)),(12,.dv K5),(14,.dv (Ty.int .i64))],[(4098,.keep K2 2),(4099,.keep ew 3),(8197,.one K5 (.dv K5))],[0,13]⟩ [(.exit 0,⟨[(6,.dv (Ty.int .i64))],[(4098,.keep K2 2),(4099,.keep ew 3),(8197,.one K5 (.dv K5))],[]⟩)] (.two .leaf (.two .leaf (.cut [(.normal,⟨[(2,.same (.ptr K2 4098 [])),(3,.same (.ptr ew 4099 [])),(6,.dv (Ty.int .i64))],[(4098,.keep K2 2),(4099,.keep ew 3),(8197,.one K5 (.dv K5))],[0,12,13,14]⟩)] [0,12,13,14] [4098,4099] (.two (.two .leaf (.two .leaf (.two .leaf (.two (.reg [] 20) .leaf)))) .leaf) .leaf)))) .leaf)) .leaf))) .leaf)) (.two (.loop ⟨[(5,.same (.ptr K5 8197 [])),(8,.same (.clo 102 [(.ptr K5 8197 []),(.ptr K2 4098 []),(.ptr ew 4099 [])])),(9,.ow (Ty.int .i64)),(10,.dv (Ty.int .i64))],[(4098,.keep K2 2),(4099,.keep ew 3),(8197,.keep K5 5)],[]⟩ [(.exit 2,⟨[(9,.ow (Ty.int .i64))],[],[]⟩)] (.two .leaf (.two .leaf (.regI [] 4 (.two (.two .leaf (.two .leaf (.two (.two .leaf (.two (.loop ⟨[(2,.same (.ptr K2 4098 [])),(3,.same (.ptr ew 4099 [])),(6,.dv (Ty.int .i64)),(14,.dv (Ty.int .i64))],[(4098,.keep K2 2),(4099,.keep ew 3),(8197,.keep K5 1)],[0,12,13]⟩ [(.exit 0,⟨[(6,.dv (Ty.int .i64))],[(4098,.keep K2 2),(4099,.keep ew 3),(8197,.keep K5 1)],[]⟩)] (.two .leaf (.two .leaf (.cut [(.normal,⟨[(2,.same (.ptr K2 4098 [])),(3,.same (.ptr ew 4099 [])),(6,.dv (Ty.int .i64))],[(4098,.keep K2 2),(4099,.keep ew 3),(8197,.one K5 (.dv K5))],[0,12,13,14]⟩)] [0,12,13,14] [4098,4099] (.two (.two .leaf (.two .leaf (.two .leaf (.two (.reg [] 20) .leaf)))) .leaf) .leaf)))) .leaf)) .leaf))) .leaf))))) .leaf)) .leaf))))))
noncomputable def Jj(lp:Lp)(call:Nat->List D->Option D)(a0:D)(a1:D):Option D:=
(D.asSl a0).bind fun l1=>
(lp (β:=Nat×List D) (fun(v2:List D)=>
(D.bin .lss (gx v2 0) (D.int .i64 (l1.length))).bind fun x3=>
(D.truth x3).bind fun b4=>
 if b4 then(((D.asSl a0).bind fun l5=>
(D.idx (gx v2 0) (l5.length)).bind fun i6=>
(l5[i6]?).bind fun x7=>
(D.get a1 [0]).bind fun x8=>
(call 101 [x8,x7]).bind fun r9=>
(D.get a1 [1]).bind fun x10=>
(D.truth (D.bool (D.beq r9 x10))).bind fun b11=>
 if b11 then(if List.length ((gx v2 1).els)+List.length [(gx v2 0)]<=1073741824 then(some (0,[(D.sl (((gx v2 1).els)++[(gx v2 0)]))])) else none) else(some (0,[(D.sl ((gx v2 1).els))]))).bind fun(r12:Nat×List D)=>
(D.bin .add (gx v2 0) (D.int .i64 1)).bind fun x13=>
 some (Sum.inl [x13,(D.sl ((gx r12.2 0).els))])) else(some (Sum.inr (0,[(D.sl ((gx v2 1).els))])))) [(D.int .i64 0),(D.sl [])]).bind fun r14=>
(D.idx (D.int .i64 0) (List.length ((gx r14.2 0).els))).bind fun i15=>
(((gx r14.2 0).els)[i15]?).bind fun x16=>
(D.idx (D.int .i64 0) (List.length ((gx r14.2 0).els))).bind fun i17=>
(((gx r14.2 0).els)[i17]?).bind fun x18=>
(lp (β:=Nat×List D) (fun(v19:List D)=>
(D.bin .lss (gx v19 2) (D.int .i64 (List.length ((gx r14.2 0).els)))).bind fun x20=>
(D.truth x20).bind fun b21=>
 if b21 then(((D.asSl (gx v19 1)).bind fun l22=>
(D.idx (gx v19 2) (l22.length)).bind fun G3=>
(l22[G3]?).bind fun x24=>
(D.truth (D.bool (D.beq x24 x18))).bind fun b25=>
 if b25 then(some (0,[(gx v19 0),(gx v19 3)])) else((D.bin .lss (gx v19 0) (D.int .i64 0)).bind fun x26=>
(D.truth x26).bind fun b27=>
 if b27 then(some (0,[x24,(gx v19 3)])) else((D.asSl a0).bind fun l28=>
(D.idx x24 (l28.length)).bind fun i29=>
(l28[i29]?).bind fun x30=>
(D.asSl a0).bind fun l31=>
(D.idx x18 (l31.length)).bind fun i32=>
(l31[i32]?).bind fun x33=>
(call 103 [x30,x33]).bind fun r34=>
(D.asSl a0).bind fun l35=>
(D.idx (gx v19 0) (l35.length)).bind fun i36=>
(l35[i36]?).bind fun x37=>
(D.asSl a0).bind fun l38=>
(D.idx x18 (l38.length)).bind fun i39=>
(l38[i39]?).bind fun x40=>
(call 103 [x37,x40]).bind fun r41=>
(D.get a1 [0]).bind fun x42=>
(call 104 [x42,r41,r34]).bind fun r43=>
(D.bin .lss r43 (D.int .i64 0)).bind fun x44=>
(D.truth x44).bind fun b45=>
(if b45 then(some true) else((D.truth (D.bool (D.beq r43 (D.int .i64 0)))).bind fun b46=>
 if b46 then((call 101 [r34,r34]).bind fun r47=>
(call 101 [r41,r41]).bind fun r48=>
(D.bin .gtr r47 r48).bind fun x49=>
 D.truth x49) else(some false))).bind fun b50=>
(D.truth (D.bool b50)).bind fun b51=>
 if b51 then(some (0,[x24,(gx v19 3)])) else(some (0,[(gx v19 0),(gx v19 3)]))))).bind fun(r52:Nat×List D)=>
(D.bin .add (gx v19 2) (D.int .i64 1)).bind fun x53=>
 some (Sum.inl [(gx r52.2 0),(gx v19 1),x53,(gx r52.2 1)])) else(some (Sum.inr (0,[(gx v19 0),(gx v19 3)])))) [(D.int .i64 (-1)),(D.sl ((gx r14.2 0).els)),(D.int .i64 0),(D.sl ((gx r14.2 0).els))]).bind fun r54=>
(lp (β:=Nat×List D) (fun(v55:List D)=>
(D.asSl (gx r54.2 1)).bind fun l56=>
(D.idx (D.int .i64 0) (l56.length)).bind fun i57=>
(l56[i57]?).bind fun x58=>
(D.truth (D.bool (!(D.beq (gx v55 1) x58)))).bind fun b59=>
 if b59 then(if List.length ((gx v55 0).els)+List.length [(gx v55 1)]<=1073741824 then((D.asSl (gx r54.2 1)).bind fun l60=>
(lp (β:=Nat×List D) (fun(v61:List D)=>
(D.bin .lss (gx v61 1) (D.int .i64 (l60.length))).bind fun x62=>
(D.truth x62).bind fun b63=>
 if b63 then(((D.asSl (gx r54.2 1)).bind fun l64=>
(D.idx (gx v61 1) (l64.length)).bind fun i65=>
(l64[i65]?).bind fun x66=>
(D.truth (D.bool (D.beq x66 (gx v55 1)))).bind fun b67=>
 if b67 then(some (0,[(gx v61 0),(gx r54.2 1)])) else((D.bin .lss (gx v61 0) (D.int .i64 0)).bind fun x68=>
(D.truth x68).bind fun b69=>
 if b69 then(some (0,[x66,(gx r54.2 1)])) else((D.asSl a0).bind fun l70=>
(D.idx x66 (l70.length)).bind fun i71=>
(l70[i71]?).bind fun x72=>
(D.asSl a0).bind fun l73=>
(D.idx (gx v55 1) (l73.length)).bind fun i74=>
(l73[i74]?).bind fun x75=>
(call 103 [x72,x75]).bind fun r76=>
(D.asSl a0).bind fun l77=>
(D.idx (gx v61 0) (l77.length)).bind fun i78=>
(l77[i78]?).bind fun x79=>
(D.asSl a0).bind fun l80=>
(D.idx (gx v55 1) (l80.length)).bind fun i81=>
(l80[i81]?).bind fun x82=>
(call 103 [x79,x82]).bind fun r83=>
(D.get a1 [0]).bind fun x84=>
(call 104 [x84,r83,r76]).bind fun r85=>
(D.bin .lss r85 (D.int .i64 0)).bind fun x86=>
(D.truth x86).bind fun b87=>
(if b87 then(some true) else((D.truth (D.bool (D.beq r85 (D.int .i64 0)))).bind fun b88=>
 if b88 then((call 101 [r76,r76]).bind fun r89=>
(call 101 [r83,r83]).bind fun r90=>
(D.bin .gtr r89 r90).bind fun x91=>
 D.truth x91) else(some false))).bind fun b92=>
(D.truth (D.bool b92)).bind fun b93=>
 if b93 then(some (0,[x66,(gx r54.2 1)])) else(some (0,[(gx v61 0),(gx r54.2 1)]))))).bind fun(r94:Nat×List D)=>
(D.bin .add (gx v61 1) (D.int .i64 1)).bind fun x95=>
 some (Sum.inl [(gx r94.2 0),x95])) else(some (Sum.inr (0,[(gx v61 0)])))) [(D.int .i64 (-1)),(D.int .i64 0)]).bind fun r96=>
 some (Sum.inl [(D.sl (((gx v55 0).els)++[(gx v55 1)])),(gx r96.2 0)])) else none) else(some (Sum.inr (0,[(D.sl ((gx v55 0).els))])))) [(D.sl [x16]),(gx r54.2 0)]).bind fun r97=>
 some (D.sl ((gx r97.2 0).els))
theorem Oi{lp}(hlp:aE lp):ac 46 (m2 (Jj lp)):=bt (fn:=Tryz.f46) (ann:=OA) hlp (by kernel_rfl) (by kernel_rfl) (fun call a0 a1=>by kernel_rfl)
def Nq:Ann:=(.two .leaf (.two .leaf (.two (.two .leaf (.two (.loop ⟨[(13,.dv (Ty.int .i64))],[],[0,1,12]⟩ [(.ret,⟨[(4,.dv Ty.bool)],[],[]⟩),(.exit 0,⟨[],[],[]⟩)] (.two .leaf (.two .leaf (.two (.two (.two .leaf (.two (.reg [] 8) .leaf)) .leaf) .leaf)))) .leaf)) .leaf)))
theorem OB{lp}(hlp:aE lp):ac 49 (fl lp 49 Tryz.f49 Nq):=cC hlp (by kernel_rfl) (by kernel_rfl)
def PI:Ann:=(.two .leaf (.two (.reg [] 12) .leaf))
noncomputable def JH(lp:Lp)(call:Nat->List D->Option D)(a0:D)(a1:D):Option D:=
(D.get a0 [0]).bind fun x1=>
(D.get a1 [0]).bind fun x2=>
(call 53 [x1,x2]).bind fun r3=>
(D.get a0 [1]).bind fun x4=>
(D.get a1 [1]).bind fun x5=>
(call 53 [x4,x5]).bind fun r6=>
(call 52 [(D.sl [r3,r6])]).bind fun r7=>
 some r7
theorem Oc{lp}(hlp:aE lp):ac 51 (m2 (JH lp)):=bt (fn:=Tryz.f51) (ann:=PI) hlp (by kernel_rfl) (by kernel_rfl) (fun call a0 a1=>by kernel_rfl)
def Of:Ann:=(.two .leaf (.two .leaf (.two (.two .leaf (.two (.loop ⟨[(8,.dv (Ty.int .i64))],[],[3,6,7]⟩ [(.ret,⟨[(2,.dv (Ty.int .i64))],[],[]⟩),(.exit 0,⟨[],[],[3]⟩)] .leaf) .leaf)) .leaf)))
noncomputable def Jz(lp:Lp)(call:Nat->List D->Option D)(a0:D):Option D:=
(D.asSl a0).bind fun l1=>
(lp (β:=Nat×List D) (fun(v2:List D)=>
(D.bin .lss (gx v2 0) (D.int .i64 (l1.length))).bind fun x3=>
(D.truth x3).bind fun b4=>
 if b4 then((D.asSl a0).bind fun l5=>
(D.idx (gx v2 0) (l5.length)).bind fun i6=>
(l5[i6]?).bind fun x7=>
(D.truth (D.bool (!(D.beq x7 (D.int .i64 0))))).bind fun b8=>
 if b8 then(some (Sum.inr (0,[x7]))) else((D.bin .add (gx v2 0) (D.int .i64 1)).bind fun x9=>
 some (Sum.inl [x9]))) else(some (Sum.inr (1,[])))) [(D.int .i64 0)]).bind fun r10=>
 if r10.1=0 then(some (gx r10.2 0)) else(some (D.int .i64 0))
theorem PK{lp}(hlp:aE lp):ac 52 (m1 (Jz lp)):=cg (fn:=Tryz.f52) (ann:=Of) hlp (by kernel_rfl) (by kernel_rfl) (fun call a0=>by kernel_rfl)
noncomputable def JJ(lp:Lp)(call:Nat->List D->Option D)(a0:D)(a1:D):Option D:=
(call 115 [a0]).bind fun r1=>
(call 115 [a1]).bind fun r2=>
(D.truth r1).bind fun b3=>
 if b3 then((D.truth r2).bind fun b4=>
 if b4 then(some (D.int .i64 0)) else(some (D.int .i64 (-1)))) else((D.truth r2).bind fun b5=>
 if b5 then(some (D.int .i64 1)) else((D.bin .lss a0 a1).bind fun x6=>
(D.truth x6).bind fun b7=>
 if b7 then(some (D.int .i64 (-1))) else((D.bin .gtr a0 a1).bind fun x8=>
(D.truth x8).bind fun b9=>
 if b9 then(some (D.int .i64 1)) else(some (D.int .i64 0)))))
theorem PY{lp}(hlp:aE lp):ac 53 (m2 (JJ lp)):=bt (fn:=Tryz.f53) (ann:=.leaf) hlp (by kernel_rfl) (by kernel_rfl) (fun call a0 a1=>by kernel_rfl)
def On:Ann:=(.two .leaf (.two .leaf (.cut [(.normal,⟨[(2,.same (.ptr aG 4098 [])),(3,.dv (Ty.int .u64))],[(4098,.keep aG 2)],[0]⟩)] [0] [4098] .leaf .leaf)))
noncomputable def JE(lp:Lp)(call:Nat->List D->Option D)(a0:D):Option D:=
(D.conv .u64 a0).bind fun x1=>
((D.bin .lss a0 (D.int .i64 0)).bind fun x2=>
(D.truth x2).bind fun b3=>
 if b3 then((D.un .neg x1).bind fun x4=>
 some (0,[x4])) else(some (0,[x1]))).bind fun(r5:Nat×List D)=>
(D.bin .lss a0 (D.int .i64 0)).bind fun x6=>
(D.conv .u32 (gx r5.2 0)).bind fun x7=>
(D.bin .shr (gx r5.2 0) (D.int .u64 32)).bind fun x8=>
(D.conv .u32 x8).bind fun x9=>
(call 116 [x6,(D.st (D.putParts (List.replicate 16 (D.int .u32 0)) [(0,x7),(1,x9)]))]).bind fun r10=>
 some r10
theorem Oz{lp}(hlp:aE lp):ac 54 (m1 (JE lp)):=cg (fn:=Tryz.f54) (ann:=On) hlp (by kernel_rfl) (by kernel_rfl) (fun call a0=>by kernel_rfl)
end Go.Proofs.YtjjjkojfijpeeaaGreat.Sy
end
section
set_option maxRecDepth 20000
set_option maxHeartbeats 0
set_option linter.unusedVariables false
namespace Go.Proofs.YtjjjkojfijpeeaaGreat.Sy
open Go Go.Proofs
def PE:Ann:=(.two .leaf (.two .leaf (.two .leaf (.two (.two .leaf (.two (.two (.reg [] 8) .leaf) .leaf)) (.two (.reg [] 8) .leaf)))))
noncomputable def Jr(lp:Lp)(call:Nat->List D->Option D)(a0:D)(a1:D):Option D:=
(call 118 [(D.sl [a0,a1])]).bind fun r1=>
(D.un .not r1).bind fun x2=>
(D.truth x2).bind fun b3=>
 if b3 then((call 119 []).bind fun r4=>
 some r4) else((D.get a0 [1]).bind fun x5=>
(D.get a1 [1]).bind fun x6=>
(D.truth (D.bool (D.beq x5 x6))).bind fun b7=>
 if b7 then((D.get a0 [2]).bind fun x8=>
(D.get a1 [2]).bind fun x9=>
(call 120 [x8,x9]).bind fun r10=>
(D.tupAt r10 0).bind fun x11=>
(D.tupAt r10 1).bind fun x12=>
(D.un .not x12).bind fun x13=>
(D.truth x13).bind fun b14=>
 if b14 then((call 119 []).bind fun r15=>
 some r15) else((D.get a0 [1]).bind fun x16=>
(call 116 [x16,x11]).bind fun r17=>
 some r17)) else((D.get a0 [2]).bind fun x18=>
(D.get a1 [2]).bind fun x19=>
(call 121 [x18,x19]).bind fun r20=>
(D.bin .geq r20 (D.int .i64 0)).bind fun x21=>
(D.truth x21).bind fun b22=>
 if b22 then((D.get a0 [1]).bind fun x23=>
(D.get a0 [2]).bind fun x24=>
(D.get a1 [2]).bind fun x25=>
(call 122 [x24,x25]).bind fun r26=>
(call 116 [x23,r26]).bind fun r27=>
 some r27) else((D.get a1 [1]).bind fun x28=>
(D.get a1 [2]).bind fun x29=>
(D.get a0 [2]).bind fun x30=>
(call 122 [x29,x30]).bind fun r31=>
(call 116 [x28,r31]).bind fun r32=>
 some r32)))
theorem NM{lp}(hlp:aE lp):ac 57 (m2 (Jr lp)):=bt (fn:=Tryz.f57) (ann:=PE) hlp (by kernel_rfl) (by kernel_rfl) (fun call a0 a1=>by kernel_rfl)
def PD:Ann:=(.two .leaf (.two .leaf (.two .leaf (.two .leaf (.two .leaf (.two .leaf (.two .leaf (.two (.two .leaf (.two (.two (.reg [] 6) .leaf) .leaf)) (.two .leaf (.two (.two .leaf (.two (.two (.reg [] 6) .leaf) .leaf)) (.two (.reg [] 6) .leaf)))))))))))
noncomputable def IT(lp:Lp)(call:Nat->List D->Option D)(a0:D)(a1:D):Option D:=
(call 124 [a0]).bind fun r1=>
(D.tupAt r1 0).bind fun x2=>
(D.tupAt r1 1).bind fun x3=>
(call 124 [a1]).bind fun r4=>
(D.tupAt r4 0).bind fun x5=>
(D.tupAt r4 1).bind fun x6=>
(D.truth x3).bind fun b7=>
(if b7 then(D.truth x6) else(some false)).bind fun b8=>
(D.truth (D.bool b8)).bind fun b9=>
 if b9 then((D.bin .add x2 x5).bind fun x10=>
(call 34 [x10]).bind fun r11=>
 some r11) else((call 76 [a0]).bind fun r12=>
(D.un .not r12).bind fun x13=>
(D.truth x13).bind fun b14=>
(if b14 then(some true) else((call 76 [a1]).bind fun r15=>
(D.un .not r15).bind fun x16=>
 D.truth x16)).bind fun b17=>
(D.truth (D.bool b17)).bind fun b18=>
 if b18 then((call 125 []).bind fun r19=>
 some r19) else((call 77 [a0]).bind fun r20=>
(call 77 [a1]).bind fun r21=>
(D.get a0 [1]).bind fun x22=>
(D.get a1 [1]).bind fun x23=>
(D.truth (D.bool (D.beq x22 x23))).bind fun b24=>
 if b24 then((D.get a0 [1]).bind fun x25=>
(call 82 [r20,r21]).bind fun r26=>
(call 81 [x25,r26]).bind fun r27=>
 some r27) else((call 78 [r20,r21]).bind fun r28=>
(D.truth r28).bind fun b29=>
 if b29 then((D.get a1 [1]).bind fun x30=>
(call 126 [r21,r20]).bind fun r31=>
(call 81 [x30,r31]).bind fun r32=>
 some r32) else((D.get a0 [1]).bind fun x33=>
(call 126 [r20,r21]).bind fun r34=>
(call 81 [x33,r34]).bind fun r35=>
 some r35))))
theorem Pg{lp}(hlp:aE lp):ac 59 (m2 (IT lp)):=bt (fn:=Tryz.f59) (ann:=PD) hlp (by kernel_rfl) (by kernel_rfl) (fun call a0 a1=>by kernel_rfl)
def Pz:Ann:=(.two .leaf (.two .leaf (.two .leaf (.two (.reg [] 7) (.two (.two .leaf (.two (.loop ⟨[(2,.same (.ptr aG 4098 [])),(3,.same (.ptr aG 4099 [])),(4,.same (.ptr aG 4100 [])),(5,.same (.ptr yF 12293 [])),(24,.dv (Ty.int .i64))],[(4098,.keep aG 2),(4099,.keep aG 3),(4100,.keep aG 4),(12293,.one yF (.dv yF))],[7,23]⟩ [(.exit 0,⟨[(2,.same (.ptr aG 4098 [])),(3,.same (.ptr aG 4099 [])),(4,.same (.ptr aG 4100 [])),(5,.same (.ptr yF 12293 []))],[(4098,.keep aG 2),(4099,.keep aG 3),(4100,.keep aG 4),(12293,.one yF (.dv yF))],[]⟩)] (.two .leaf (.two .leaf (.two (.two (.two .leaf (.two .leaf (.two (.two .leaf (.two (.loop ⟨[(2,.same (.ptr aG 4098 [])),(3,.same (.ptr aG 4099 [])),(4,.same (.ptr aG 4100 [])),(5,.same (.ptr yF 12293 [])),(9,.dv (Ty.int .u64)),(28,.dv (Ty.int .i64))],[(4098,.keep aG 2),(4099,.keep aG 3),(4100,.keep aG 4),(12293,.one yF (.dv yF))],[7,8,23,24,27]⟩ [(.exit 2,⟨[(2,.same (.ptr aG 4098 [])),(3,.same (.ptr aG 4099 [])),(4,.same (.ptr aG 4100 [])),(5,.same (.ptr yF 12293 [])),(9,.dv (Ty.int .u64))],[(4098,.keep aG 2),(4099,.keep aG 3),(4100,.keep aG 4),(12293,.one yF (.dv yF))],[7,8,23,24]⟩)] (.two .leaf (.two .leaf (.two (.two (.two .leaf (.two (.reg [] 20) .leaf)) .leaf) .leaf)))) .leaf)) .leaf))) .leaf) .leaf)))) .leaf)) (.two .leaf (.two (.reg [] 9) .leaf)))))))
noncomputable def JG(lp:Lp)(call:Nat->List D->Option D)(a0:D)(a1:D):Option D:=
(call 118 [(D.sl [a0,a1])]).bind fun r1=>
(D.un .not r1).bind fun x2=>
(D.truth x2).bind fun b3=>
 if b3 then((call 119 []).bind fun r4=>
 some r4) else((D.get a0 [2]).bind fun x5=>
(call 127 [x5]).bind fun r6=>
(D.get a1 [2]).bind fun x7=>
(call 127 [x7]).bind fun r8=>
(lp (β:=Nat×List D) (fun(v9:List D)=>
(D.bin .lss (gx v9 0) r6).bind fun x10=>
(D.truth x10).bind fun b11=>
 if b11 then((lp (β:=Nat×List D) (fun(v12:List D)=>
(D.bin .lss (gx v12 1) r8).bind fun x13=>
(D.truth x13).bind fun b14=>
 if b14 then((D.idx (gx v9 0) 16).bind fun i15=>
(D.get a0 [2,i15]).bind fun x16=>
(D.conv .u64 x16).bind fun x17=>
(D.idx (gx v12 1) 16).bind fun i18=>
(D.get a1 [2,i18]).bind fun x19=>
(D.conv .u64 x19).bind fun x20=>
(D.bin .mul x17 x20).bind fun x21=>
(D.bin .add (gx v9 0) (gx v12 1)).bind fun x22=>
(D.idx x22 32).bind fun G3=>
(D.get (gx v12 2) [G3]).bind fun x24=>
(D.conv .u64 x24).bind fun x25=>
(D.bin .add x21 x25).bind fun x26=>
(D.bin .add (gx v12 0) x26).bind fun x27=>
(D.bin .add (gx v9 0) (gx v12 1)).bind fun x28=>
(D.conv .u32 x27).bind fun x29=>
(D.idx x28 32).bind fun i30=>
(D.set (gx v12 2) [i30] x29).bind fun x31=>
(D.bin .shr x27 (D.int .u64 32)).bind fun x32=>
(D.bin .add (gx v12 1) (D.int .i64 1)).bind fun x33=>
 some (Sum.inl [x32,x33,x31])) else(some (Sum.inr (0,[(gx v12 0),(gx v12 2)])))) [(D.int .u64 0),(D.int .i64 0),(gx v9 1)]).bind fun r34=>
(D.bin .add (gx v9 0) r8).bind fun x35=>
(D.conv .u32 (gx r34.2 0)).bind fun x36=>
(D.idx x35 32).bind fun i37=>
(D.set (gx r34.2 1) [i37] x36).bind fun x38=>
(D.bin .add (gx v9 0) (D.int .i64 1)).bind fun x39=>
 some (Sum.inl [x39,x38])) else(some (Sum.inr (0,[(gx v9 1)])))) [(D.int .i64 0),(aA yF)]).bind fun r40=>
(match (gx r40.2 0) with
| D.st l41=>(if decide (16+16<=l41.length) then((D.truth (D.bool (!(D.beq (D.st (List.take 16 (List.drop 16 l41))) (D.st (D.putParts (List.replicate 16 (D.int .u32 0)) [])))))).bind fun b42=>
 if b42 then((call 119 []).bind fun r43=>
 some r43) else((D.get a0 [1]).bind fun x44=>
(D.get a1 [1]).bind fun x45=>
(match (gx r40.2 0) with
| D.st l46=>(if decide (0+16<=l46.length) then((call 116 [(D.bool (!(D.beq x44 x45))),(D.st (List.take 16 (List.drop 0 l46)))]).bind fun r47=>
 some r47) else none)
| _=>none))) else none)
| _=>none))
theorem Oy{lp}(hlp:aE lp):ac 61 (m2 (JG lp)):=bt (fn:=Tryz.f61) (ann:=Pz) hlp (by kernel_rfl) (by kernel_rfl) (fun call a0 a1=>by kernel_rfl)
def Po:Ann:=(.two .leaf (.two .leaf (.two .leaf (.cut [(.normal,⟨[(2,.same (.ptr aG 4098 [])),(3,.same (.ptr aG 4099 [])),(4,.same (.ptr cZ 4100 [])),(5,.same (.ptr aG 12293 []))],[(4098,.keep aG 2),(4099,.keep aG 3),(4100,.keep cZ 4),(12293,.one aG (.dv aG))],[]⟩)] [] [4098,4099,4100] .leaf (.two (.reg [] 7) .leaf)))))
noncomputable def Jn(lp:Lp)(call:Nat->List D->Option D)(a0:D)(a1:D):Option D:=
(call 128 [a0]).bind fun r1=>
(D.un .not r1).bind fun x2=>
(D.truth x2).bind fun b3=>
(if b3 then(some true) else((call 128 [a1]).bind fun r4=>
(D.un .not r4).bind fun x5=>
 D.truth x5)).bind fun b6=>
(D.truth (D.bool b6)).bind fun b7=>
(if b7 then(some true) else((call 129 [a1]).bind fun r8=>
 D.truth (D.bool (D.beq r8 (D.int .i64 0))))).bind fun b9=>
(D.truth (D.bool b9)).bind fun b10=>
 if b10 then((call 130 []).bind fun r11=>
 some r11) else((call 131 [a0,a1]).bind fun r12=>
((call 129 [a1]).bind fun r13=>
(D.bin .lss r13 (D.int .i64 0)).bind fun x14=>
(D.truth x14).bind fun b15=>
 if b15 then((call 68 [r12]).bind fun r16=>
 some (0,[r16])) else(some (0,[r12]))).bind fun(r17:Nat×List D)=>
(call 132 [a0,(gx r17.2 0)]).bind fun r18=>
(call 132 [a1,(gx r17.2 0)]).bind fun r19=>
 some (D.st [r18,r19]))
theorem NP{lp}(hlp:aE lp):ac 62 (m2 (Jn lp)):=bt (fn:=Tryz.f62) (ann:=Po) hlp (by kernel_rfl) (by kernel_rfl) (fun call a0 a1=>by kernel_rfl)
noncomputable def Jl(lp:Lp)(call:Nat->List D->Option D)(a0:D):Option D:=
(call 118 [(D.sl [a0])]).bind fun r1=>
(D.un .not r1).bind fun x2=>
(D.truth x2).bind fun b3=>
 if b3 then((call 119 []).bind fun r4=>
 some r4) else((D.get a0 [1]).bind fun x5=>
(D.un .not x5).bind fun x6=>
(D.get a0 [2]).bind fun x7=>
(call 116 [x6,x7]).bind fun r8=>
 some r8)
theorem OG{lp}(hlp:aE lp):ac 68 (m1 (Jl lp)):=cg (fn:=Tryz.f68) (ann:=.leaf) hlp (by kernel_rfl) (by kernel_rfl) (fun call a0=>by kernel_rfl)
theorem Pd{lp}(hlp:aE lp):ac 71 (fl lp 71 Tryz.f71 .leaf):=cC hlp (by kernel_rfl) (by kernel_rfl)
def Ny:Ann:=(.two .leaf (.two (.reg [] 4) .leaf))
theorem Ox{lp}(hlp:aE lp):ac 72 (fl lp 72 Tryz.f72 Ny):=cC hlp (by kernel_rfl) (by kernel_rfl)
def Nk:Ann:=(.two .leaf (.two (.reg [] 5) (.two .leaf (.two .leaf (.two .leaf (.two (.two (.loop ⟨[(2,.same (.ptr cZ 4098 [])),(3,.same (.ptr cZ 4099 [])),(7,.dv (Ty.int .i64))],[(4098,.one cZ (.dv cZ)),(4099,.one cZ (.dv cZ))],[]⟩ [(.exit 1,⟨[(7,.dv (Ty.int .i64))],[],[]⟩)] (.two (.two (.two (.reg [] 11) .leaf) (.two (.reg [] 16) (.two (.reg [] 7) .leaf))) .leaf)) .leaf) .leaf))))))
theorem P1{lp}(hlp:aE lp):ac 73 (fl lp 73 Tryz.f73 Nk):=cC hlp (by kernel_rfl) (by kernel_rfl)
theorem NZ{lp}(hlp:aE lp):ac 74 (fl lp 74 Tryz.f74 .leaf):=cC hlp (by kernel_rfl) (by kernel_rfl)
theorem Ov{lp}(hlp:aE lp):ac 75 (fl lp 75 Tryz.f75 .leaf):=cC hlp (by kernel_rfl) (by kernel_rfl)
noncomputable def Jm(lp:Lp)(call:Nat->List D->Option D)(a0:D):Option D:=
(call 139 [a0]).bind fun r1=>
(D.truth r1).bind fun b2=>
(if b2 then((D.get a0 [0]).bind fun x3=>
(D.un .not x3).bind fun x4=>
 D.truth x4) else(some false)).bind fun b5=>
 some (D.bool b5)
theorem OY{lp}(hlp:aE lp):ac 76 (m1 (Jm lp)):=cg (fn:=Tryz.f76) (ann:=.leaf) hlp (by kernel_rfl) (by kernel_rfl) (fun call a0=>by kernel_rfl)
def Om:Ann:=(.two .leaf (.two .leaf (.two (.two .leaf (.two (.loop ⟨[(1,.same (.ptr aG 4097 [])),(3,.ow (Ty.int .i64)),(4,.dv (Ty.int .i64))],[(4097,.keep aG 1)],[]⟩ [(.exit 0,⟨[(3,.ow (Ty.int .i64))],[],[]⟩)] (.two .leaf (.two (.two (.reg [] 14) .leaf) .leaf))) .leaf)) .leaf)))
noncomputable def Jo(lp:Lp)(call:Nat->List D->Option D)(a0:D):Option D:=
(lp (β:=Nat×List D) (fun(v1:List D)=>
(D.bin .lss (gx v1 1) (D.int .i64 16)).bind fun x2=>
(D.truth x2).bind fun b3=>
 if b3 then((D.idx (gx v1 1) 16).bind fun i4=>
(D.get a0 [2,i4]).bind fun x5=>
(D.bin .rem x5 (D.int .u32 65536)).bind fun x6=>
(D.conv .i64 x6).bind fun x7=>
(D.idx (gx v1 1) 16).bind fun i8=>
(D.get a0 [2,i8]).bind fun x9=>
(D.bin .quo x9 (D.int .u32 65536)).bind fun x10=>
(D.conv .i64 x10).bind fun x11=>
 if List.length ((gx v1 0).els)+List.length [x7,x11]<=1073741824 then((D.bin .add (gx v1 1) (D.int .i64 1)).bind fun x12=>
 some (Sum.inl [(D.sl (((gx v1 0).els)++[x7,x11])),x12])) else none) else(some (Sum.inr (0,[(D.sl ((gx v1 0).els))])))) [(D.sl []),(D.int .i64 0)]).bind fun r13=>
(call 140 [(D.sl ((gx r13.2 0).els))]).bind fun r14=>
 some r14
theorem Oe{lp}(hlp:aE lp):ac 77 (m1 (Jo lp)):=cg (fn:=Tryz.f77) (ann:=Om) hlp (by kernel_rfl) (by kernel_rfl) (fun call a0=>by kernel_rfl)
def OL:Ann:=(.two .leaf (.two (.two .leaf (.two (.loop ⟨[(5,.dv (Ty.int .i64))],[],[0,1]⟩ [(.ret,⟨[(4,.dv Ty.bool)],[],[]⟩),(.exit 0,⟨[],[],[]⟩)] .leaf) .leaf)) .leaf))
noncomputable def Jf(lp:Lp)(call:Nat->List D->Option D)(a0:D)(a1:D):Option D:=
(D.asSl a0).bind fun l1=>
(D.asSl a1).bind fun l2=>
(D.max2 (D.int .i64 (l1.length)) (D.int .i64 (l2.length))).bind fun x3=>
(D.bin .sub x3 (D.int .i64 1)).bind fun x4=>
(lp (β:=Nat×List D) (fun(v5:List D)=>
(D.bin .geq (gx v5 0) (D.int .i64 0)).bind fun x6=>
(D.truth x6).bind fun b7=>
 if b7 then((call 141 [a0,(gx v5 0)]).bind fun r8=>
(call 141 [a1,(gx v5 0)]).bind fun r9=>
(D.truth (D.bool (!(D.beq r8 r9)))).bind fun b10=>
 if b10 then((call 141 [a0,(gx v5 0)]).bind fun r11=>
(call 141 [a1,(gx v5 0)]).bind fun r12=>
(D.bin .lss r11 r12).bind fun x13=>
 some (Sum.inr (0,[x13]))) else((D.bin .sub (gx v5 0) (D.int .i64 1)).bind fun x14=>
 some (Sum.inl [x14]))) else(some (Sum.inr (1,[])))) [x4]).bind fun r15=>
 if r15.1=0 then(some (gx r15.2 0)) else(some (D.bool false))
theorem OT{lp}(hlp:aE lp):ac 78 (m2 (Jf lp)):=bt (fn:=Tryz.f78) (ann:=OL) hlp (by kernel_rfl) (by kernel_rfl) (fun call a0 a1=>by kernel_rfl)
def NG:Ann:=(.two .leaf (.two .leaf (.two .leaf (.two .leaf (.two (.two .leaf (.two (.loop ⟨[(4,.same (.ptr aG 4100 [])),(6,.same (.ptr aG 16390 [])),(7,.dv (Ty.int .i64))],[(4100,.keep aG 4),(16390,.one aG (.dv aG))],[5]⟩ [(.exit 0,⟨[(4,.same (.ptr aG 4100 [])),(6,.same (.ptr aG 16390 []))],[(4100,.keep aG 4),(16390,.one aG (.dv aG))],[]⟩)] (.two .leaf (.cut [(.normal,⟨[(4,.same (.ptr aG 4100 [])),(6,.same (.ptr aG 16390 []))],[(4100,.keep aG 4),(16390,.one aG (.dv aG))],[5,7]⟩)] [5,7] [4100] (.two (.two .leaf (.two (.reg [] 15) (.reg [] 16))) .leaf) .leaf))) .leaf)) .leaf)))))
noncomputable def Ij(lp:Lp)(call:Nat->List D->Option D)(a0:D)(a1:D):Option D:=
(call 140 [a1]).bind fun r1=>
(D.asSl r1).bind fun l2=>
(D.bin .gtr (D.int .i64 (l2.length)) (D.int .i64 32)).bind fun x3=>
(D.truth x3).bind fun b4=>
 if b4 then((call 125 []).bind fun r5=>
 some r5) else((D.truth a0).bind fun b6=>
(if b6 then((D.asSl r1).bind fun l7=>
(D.bin .gtr (D.int .i64 (l7.length)) (D.int .i64 0)).bind fun x8=>
 D.truth x8) else(some false)).bind fun b9=>
(lp (β:=Nat×List D) (fun(v10:List D)=>
(D.asSl r1).bind fun l11=>
(D.bin .lss (gx v10 0) (D.int .i64 (l11.length))).bind fun x12=>
(D.truth x12).bind fun b13=>
 if b13 then(((D.bin .rem (gx v10 0) (D.int .i64 2)).bind fun x14=>
(D.truth (D.bool (D.beq x14 (D.int .i64 0)))).bind fun b15=>
 if b15 then((D.bin .quo (gx v10 0) (D.int .i64 2)).bind fun x16=>
(D.bin .quo (gx v10 0) (D.int .i64 2)).bind fun x17=>
(D.idx x17 16).bind fun i18=>
(D.get (gx v10 1) [2,i18]).bind fun x19=>
(D.asSl r1).bind fun l20=>
(D.idx (gx v10 0) (l20.length)).bind fun i21=>
(l20[i21]?).bind fun x22=>
(D.conv .u32 x22).bind fun x23=>
(D.bin .add x19 x23).bind fun x24=>
(D.idx x16 16).bind fun i25=>
(D.set (gx v10 1) [2,i25] x24).bind fun x26=>
 some (0,[x26])) else((D.bin .quo (gx v10 0) (D.int .i64 2)).bind fun x27=>
(D.bin .quo (gx v10 0) (D.int .i64 2)).bind fun x28=>
(D.idx x28 16).bind fun i29=>
(D.get (gx v10 1) [2,i29]).bind fun x30=>
(D.asSl r1).bind fun l31=>
(D.idx (gx v10 0) (l31.length)).bind fun i32=>
(l31[i32]?).bind fun x33=>
(D.conv .u32 x33).bind fun x34=>
(D.bin .mul x34 (D.int .u32 65536)).bind fun x35=>
(D.bin .add x30 x35).bind fun x36=>
(D.idx x27 16).bind fun i37=>
(D.set (gx v10 1) [2,i37] x36).bind fun x38=>
 some (0,[x38]))).bind fun(r39:Nat×List D)=>
(D.bin .add (gx v10 0) (D.int .i64 1)).bind fun x40=>
 some (Sum.inl [x40,(gx r39.2 0)])) else(some (Sum.inr (0,[(gx v10 1)])))) [(D.int .i64 0),(D.st [(D.bool false),(D.bool b9),(aA aU)])]).bind fun r41=>
 some (gx r41.2 0))
theorem Og{lp}(hlp:aE lp):ac 81 (m2 (Ij lp)):=bt (fn:=Tryz.f81) (ann:=NG) hlp (by kernel_rfl) (by kernel_rfl) (fun call a0 a1=>by kernel_rfl)
def PL:Ann:=(.two .leaf (.two .leaf (.two .leaf (.two (.two .leaf (.two (.loop ⟨[(5,.ow (Ty.int .i64)),(6,.dv (Ty.int .i64)),(7,.dv (Ty.int .i64))],[],[0,1]⟩ [(.exit 0,⟨[(5,.ow (Ty.int .i64))],[],[]⟩)] .leaf) .leaf)) .leaf))))
noncomputable def Js(lp:Lp)(call:Nat->List D->Option D)(a0:D)(a1:D):Option D:=
(lp (β:=Nat×List D) (fun(v1:List D)=>
(D.asSl a0).bind fun l2=>
(D.asSl a1).bind fun l3=>
(D.max2 (D.int .i64 (l2.length)) (D.int .i64 (l3.length))).bind fun x4=>
(D.bin .add x4 (D.int .i64 1)).bind fun x5=>
(D.bin .lss (gx v1 2) x5).bind fun x6=>
(D.truth x6).bind fun b7=>
 if b7 then((call 141 [a0,(gx v1 2)]).bind fun r8=>
(call 141 [a1,(gx v1 2)]).bind fun r9=>
(D.bin .add r8 r9).bind fun x10=>
(D.bin .add x10 (gx v1 1)).bind fun x11=>
(D.bin .rem x11 (D.int .i64 65536)).bind fun x12=>
 if List.length ((gx v1 0).els)+List.length [x12]<=1073741824 then((D.bin .quo x11 (D.int .i64 65536)).bind fun x13=>
(D.bin .add (gx v1 2) (D.int .i64 1)).bind fun x14=>
 some (Sum.inl [(D.sl (((gx v1 0).els)++[x12])),x13,x14])) else none) else(some (Sum.inr (0,[(D.sl ((gx v1 0).els))])))) [(D.sl []),(D.int .i64 0),(D.int .i64 0)]).bind fun r15=>
(call 140 [(D.sl ((gx r15.2 0).els))]).bind fun r16=>
 some r16
theorem NT{lp}(hlp:aE lp):ac 82 (m2 (Js lp)):=bt (fn:=Tryz.f82) (ann:=PL) hlp (by kernel_rfl) (by kernel_rfl) (fun call a0 a1=>by kernel_rfl)
noncomputable def Jt(lp:Lp)(call:Nat->List D->Option D)(a0:D):Option D:=
(call 76 [a0]).bind fun r1=>
(D.un .not r1).bind fun x2=>
(D.truth x2).bind fun b3=>
(if b3 then(some true) else((call 77 [a0]).bind fun r4=>
(D.asSl r4).bind fun l5=>
 D.truth (D.bool (D.beq (D.int .i64 (l5.length)) (D.int .i64 0))))).bind fun b6=>
(D.truth (D.bool b6)).bind fun b7=>
 if b7 then(some (D.int .i64 0)) else((D.get a0 [1]).bind fun x8=>
(D.truth x8).bind fun b9=>
 if b9 then(some (D.int .i64 (-1))) else(some (D.int .i64 1)))
theorem NO{lp}(hlp:aE lp):ac 83 (m1 (Jt lp)):=cg (fn:=Tryz.f83) (ann:=.leaf) hlp (by kernel_rfl) (by kernel_rfl) (fun call a0=>by kernel_rfl)
theorem Pw{lp}(hlp:aE lp):ac 84 (fl lp 84 Tryz.f84 .leaf):=cC hlp (by kernel_rfl) (by kernel_rfl)
def NI:Ann:=(.two .leaf (.two .leaf (.two .leaf (.two (.two .leaf (.two (.two (.two (.loop ⟨[(4,.same (.ptr aG 4100 [])),(5,.dv (Ty.int .i64)),(7,.dv (Ty.int .i64))],[(4100,.keep aG 4)],[]⟩ [(.exit 0,⟨[(4,.same (.ptr aG 4100 [])),(5,.dv (Ty.int .i64))],[(4100,.keep aG 4)],[]⟩)] .leaf) .leaf) .leaf) .leaf)) (.two .leaf (.two .leaf (.two .leaf (.two (.two (.loop ⟨[(4,.same (.ptr aG 4100 [])),(10,.dv K5),(11,.dv K5)],[(4100,.keep aG 4)],[]⟩ [(.exit 2,⟨[(4,.same (.ptr aG 4100 [])),(10,.dv K5)],[(4100,.keep aG 4)],[]⟩)] .leaf) .leaf) .leaf))))))))
noncomputable def H8(lp:Lp)(call:Nat->List D->Option D)(a0:D)(a1:D):Option D:=
(call 124 [a0]).bind fun r1=>
(D.tupAt r1 0).bind fun x2=>
(D.tupAt r1 1).bind fun x3=>
(call 124 [a1]).bind fun r4=>
(D.tupAt r4 0).bind fun x5=>
(D.tupAt r4 1).bind fun x6=>
(D.truth x3).bind fun b7=>
(if b7 then(D.truth x6) else(some false)).bind fun b8=>
(D.truth (D.bool b8)).bind fun b9=>
 if b9 then((lp (β:=Nat×List D) (fun(v10:List D)=>
(D.truth (D.bool (!(D.beq (gx v10 1) (D.int .i64 0))))).bind fun b11=>
 if b11 then((D.bin .rem (gx v10 0) (gx v10 1)).bind fun x12=>
 some (Sum.inl [(gx v10 1),x12])) else(some (Sum.inr (0,[(gx v10 0)])))) [x2,x5]).bind fun r13=>
(call 34 [(gx r13.2 0)]).bind fun r14=>
(call 142 [r14]).bind fun r15=>
 some r15) else((call 76 [a0]).bind fun r16=>
(D.un .not r16).bind fun x17=>
(D.truth x17).bind fun b18=>
(if b18 then(some true) else((call 76 [a1]).bind fun r19=>
(D.un .not r19).bind fun x20=>
 D.truth x20)).bind fun b21=>
(D.truth (D.bool b21)).bind fun b22=>
 if b22 then((call 125 []).bind fun r23=>
 some r23) else((call 77 [a0]).bind fun r24=>
(call 77 [a1]).bind fun r25=>
(lp (β:=Nat×List D) (fun(v26:List D)=>
(D.asSl (gx v26 1)).bind fun l27=>
(D.bin .gtr (D.int .i64 (l27.length)) (D.int .i64 0)).bind fun x28=>
(D.truth x28).bind fun b29=>
 if b29 then((call 143 [(gx v26 0),(gx v26 1)]).bind fun r30=>
(D.tupAt r30 0).bind fun x31=>
(D.tupAt r30 1).bind fun x32=>
 some (Sum.inl [(gx v26 1),x32])) else(some (Sum.inr (0,[(gx v26 0)])))) [r24,r25]).bind fun r33=>
(call 81 [(D.bool false),(gx r33.2 0)]).bind fun r34=>
 some r34))
theorem Pm{lp}(hlp:aE lp):ac 85 (m2 (H8 lp)):=bt (fn:=Tryz.f85) (ann:=NI) hlp (by kernel_rfl) (by kernel_rfl) (fun call a0 a1=>by kernel_rfl)
def NL:Ann:=(.two .leaf (.two .leaf (.two (.reg [] 6) .leaf)))
noncomputable def Jk(lp:Lp)(call:Nat->List D->Option D)(a0:D):Option D:=
(call 76 [a0]).bind fun r1=>
(D.un .not r1).bind fun x2=>
(D.truth x2).bind fun b3=>
 if b3 then((call 125 []).bind fun r4=>
 some r4) else((D.get a0 [1]).bind fun x5=>
(D.un .not x5).bind fun x6=>
(call 77 [a0]).bind fun r7=>
(call 81 [x6,r7]).bind fun r8=>
 some r8)
theorem N9{lp}(hlp:aE lp):ac 86 (m1 (Jk lp)):=cg (fn:=Tryz.f86) (ann:=NL) hlp (by kernel_rfl) (by kernel_rfl) (fun call a0=>by kernel_rfl)
def OP:Ann:=(.two .leaf (.two .leaf (.two .leaf (.two .leaf (.two .leaf (.two (.reg [] 9) (.cut [(.normal,⟨[(2,.same (.ptr aG 4098 [])),(3,.same (.ptr aG 4099 [])),(4,.same (.ptr aG 4100 [])),(9,.dv K5)],[(4098,.keep aG 2),(4099,.keep aG 3),(4100,.keep aG 4)],[]⟩)] [] [4098,4099,4100] .leaf .leaf)))))))
noncomputable def H7(lp:Lp)(call:Nat->List D->Option D)(a0:D)(a1:D):Option D:=
(call 124 [a0]).bind fun r1=>
(D.tupAt r1 0).bind fun x2=>
(D.tupAt r1 1).bind fun x3=>
(call 124 [a1]).bind fun r4=>
(D.tupAt r4 0).bind fun x5=>
(D.tupAt r4 1).bind fun x6=>
(D.truth x3).bind fun b7=>
(if b7 then(D.truth x6) else(some false)).bind fun b8=>
(D.truth (D.bool b8)).bind fun b9=>
(if b9 then(D.truth (D.bool (!(D.beq x5 (D.int .i64 0))))) else(some false)).bind fun b10=>
(D.truth (D.bool b10)).bind fun b11=>
 if b11 then((call 144 [x2,x5]).bind fun r12=>
(call 34 [r12]).bind fun r13=>
 some r13) else((call 76 [a0]).bind fun r14=>
(D.un .not r14).bind fun x15=>
(D.truth x15).bind fun b16=>
(if b16 then(some true) else((call 76 [a1]).bind fun r17=>
(D.un .not r17).bind fun x18=>
 D.truth x18)).bind fun b19=>
(D.truth (D.bool b19)).bind fun b20=>
(if b20 then(some true) else((call 77 [a1]).bind fun r21=>
(D.asSl r21).bind fun l22=>
 D.truth (D.bool (D.beq (D.int .i64 (l22.length)) (D.int .i64 0))))).bind fun b23=>
(D.truth (D.bool b23)).bind fun b24=>
 if b24 then((call 125 []).bind fun r25=>
 some r25) else((call 77 [a0]).bind fun r26=>
(call 77 [a1]).bind fun r27=>
(call 143 [r26,r27]).bind fun r28=>
(D.tupAt r28 0).bind fun x29=>
(D.tupAt r28 1).bind fun x30=>
((D.get a0 [1]).bind fun x31=>
(D.get a1 [1]).bind fun x32=>
(D.truth (D.bool (!(D.beq x31 x32)))).bind fun b33=>
(if b33 then((D.asSl x30).bind fun l34=>
(D.bin .gtr (D.int .i64 (l34.length)) (D.int .i64 0)).bind fun x35=>
 D.truth x35) else(some false)).bind fun b36=>
(D.truth (D.bool b36)).bind fun b37=>
 if b37 then((call 82 [x29,(D.sl [(D.int .i64 1)])]).bind fun r38=>
 some (0,[r38])) else(some (0,[x29]))).bind fun(r39:Nat×List D)=>
(D.get a0 [1]).bind fun x40=>
(D.get a1 [1]).bind fun x41=>
(call 81 [(D.bool (!(D.beq x40 x41))),(gx r39.2 0)]).bind fun r42=>
 some r42))
theorem OJ{lp}(hlp:aE lp):ac 87 (m2 (H7 lp)):=bt (fn:=Tryz.f87) (ann:=OP) hlp (by kernel_rfl) (by kernel_rfl) (fun call a0 a1=>by kernel_rfl)
noncomputable def JA(lp:Lp)(call:Nat->List D->Option D)(a0:D):Option D:=
(D.get a0 [0]).bind fun x1=>
(call 76 [x1]).bind fun r2=>
(D.un .not r2).bind fun x3=>
(D.truth x3).bind fun b4=>
(if b4 then(some true) else((D.get a0 [1]).bind fun x5=>
(call 76 [x5]).bind fun r6=>
(D.un .not r6).bind fun x7=>
 D.truth x7)).bind fun b8=>
(D.truth (D.bool b8)).bind fun b9=>
 if b9 then(some (D.bool false)) else((D.get a0 [1]).bind fun x10=>
(call 83 [x10]).bind fun r11=>
(D.bin .gtr r11 (D.int .i64 0)).bind fun x12=>
(D.truth x12).bind fun b13=>
(if b13 then((D.get a0 [0]).bind fun x14=>
(D.get a0 [1]).bind fun x15=>
(call 85 [x14,x15]).bind fun r16=>
(call 133 []).bind fun r17=>
 D.truth (D.bool (D.beq r16 r17))) else(some false)).bind fun b18=>
 some (D.bool b18))
theorem PC{lp}(hlp:aE lp):ac 88 (m1 (JA lp)):=cg (fn:=Tryz.f88) (ann:=.leaf) hlp (by kernel_rfl) (by kernel_rfl) (fun call a0=>by kernel_rfl)
def OV:Ann:=(.two .leaf (.two .leaf (.two .leaf (.two .leaf (.two .leaf (.two (.reg [] 11) .leaf))))))
noncomputable def H4(lp:Lp)(call:Nat->List D->Option D)(a0:D)(a1:D):Option D:=
(call 124 [a0]).bind fun r1=>
(D.tupAt r1 0).bind fun x2=>
(D.tupAt r1 1).bind fun x3=>
(call 124 [a1]).bind fun r4=>
(D.tupAt r4 0).bind fun x5=>
(D.tupAt r4 1).bind fun x6=>
(D.truth x3).bind fun b7=>
(if b7 then(D.truth x6) else(some false)).bind fun b8=>
(D.truth (D.bool b8)).bind fun b9=>
(if b9 then((call 145 [x2]).bind fun r10=>
 D.truth r10) else(some false)).bind fun b11=>
(D.truth (D.bool b11)).bind fun b12=>
(if b12 then((call 145 [x5]).bind fun r13=>
 D.truth r13) else(some false)).bind fun b14=>
(D.truth (D.bool b14)).bind fun b15=>
 if b15 then((D.bin .mul x2 x5).bind fun x16=>
(call 34 [x16]).bind fun r17=>
 some r17) else((call 76 [a0]).bind fun r18=>
(D.un .not r18).bind fun x19=>
(D.truth x19).bind fun b20=>
(if b20 then(some true) else((call 76 [a1]).bind fun r21=>
(D.un .not r21).bind fun x22=>
 D.truth x22)).bind fun b23=>
(D.truth (D.bool b23)).bind fun b24=>
 if b24 then((call 125 []).bind fun r25=>
 some r25) else((D.get a0 [1]).bind fun x26=>
(D.get a1 [1]).bind fun x27=>
(call 77 [a0]).bind fun r28=>
(call 77 [a1]).bind fun r29=>
(call 146 [r28,r29]).bind fun r30=>
(call 81 [(D.bool (!(D.beq x26 x27))),r30]).bind fun r31=>
 some r31))
theorem PJ{lp}(hlp:aE lp):ac 89 (m2 (H4 lp)):=bt (fn:=Tryz.f89) (ann:=OV) hlp (by kernel_rfl) (by kernel_rfl) (fun call a0 a1=>by kernel_rfl)
def No:Ann:=(.two .leaf (.two (.reg [] 7) .leaf))
theorem Pc{lp}(hlp:aE lp):ac 90 (fl lp 90 Tryz.f90 No):=cC hlp (by kernel_rfl) (by kernel_rfl)
def PX:Ann:=(.two .leaf (.two (.reg [] 5) .leaf))
noncomputable def Je(lp:Lp)(call:Nat->List D->Option D)(a0:D)(a1:D):Option D:=
(call 148 [a0]).bind fun r1=>
(call 148 [a1]).bind fun r2=>
(call 147 [r1,r2]).bind fun r3=>
 some r3
theorem Ph{lp}(hlp:aE lp):ac 91 (m2 (Je lp)):=bt (fn:=Tryz.f91) (ann:=PX) hlp (by kernel_rfl) (by kernel_rfl) (fun call a0 a1=>by kernel_rfl)
def PU:Ann:=(.two .leaf (.two (.reg [] 17) .leaf))
noncomputable def JC(lp:Lp)(call:Nat->List D->Option D)(a0:D)(a1:D):Option D:=
(D.get a0 [0]).bind fun x1=>
(D.get a1 [0]).bind fun x2=>
(call 53 [x1,x2]).bind fun r3=>
(D.get a0 [1]).bind fun x4=>
(D.get a1 [1]).bind fun x5=>
(call 53 [x4,x5]).bind fun r6=>
(D.get a0 [2]).bind fun x7=>
(D.get a1 [2]).bind fun x8=>
(call 53 [x7,x8]).bind fun r9=>
(call 52 [(D.sl [r3,r6,r9])]).bind fun r10=>
 some r10
theorem OW{lp}(hlp:aE lp):ac 94 (m2 (JC lp)):=bt (fn:=Tryz.f94) (ann:=PU) hlp (by kernel_rfl) (by kernel_rfl) (fun call a0 a1=>by kernel_rfl)
def NV:Ann:=(.two .leaf (.two (.reg [] 8) (.cut [(.normal,⟨[(3,.same (.ptr K1 4099 [])),(6,.same (.ptr ew 4102 [])),(7,.same (.ptr K1 8199 []))],[(4099,.keep K1 3),(4102,.keep ew 6),(8199,.one K1 (.dv K1))],[]⟩)] [] [4099,4102] (.two (.reg [] 8) (.two .leaf (.two (.reg [] 13) .leaf))) (.two (.reg [] 5) .leaf))))
noncomputable def Jq(lp:Lp)(call:Nat->List D->Option D)(a0:D)(a1:D)(a2:D):Option D:=
(call 103 [a1,a0]).bind fun r1=>
(call 103 [a2,a0]).bind fun r2=>
(call 117 [r1,r2]).bind fun r3=>
((D.get r3 [0]).bind fun x4=>
(D.get r3 [1]).bind fun x5=>
(call 152 [x4,x5]).bind fun r6=>
(D.get r3 [2]).bind fun x7=>
(call 152 [r6,x7]).bind fun r8=>
(D.bin .gtr r8 (D.int .i64 1)).bind fun x9=>
(D.truth x9).bind fun b10=>
 if b10 then((D.get r3 [0]).bind fun x11=>
(D.bin .quo x11 r8).bind fun x12=>
(D.get r3 [1]).bind fun x13=>
(D.bin .quo x13 r8).bind fun x14=>
(D.get r3 [2]).bind fun x15=>
(D.bin .quo x15 r8).bind fun x16=>
 some (0,[(D.st [x12,x14,x16])])) else(some (0,[r3]))).bind fun(r17:Nat×List D)=>
(call 101 [(gx r17.2 0),a0]).bind fun r18=>
 some (D.st [(gx r17.2 0),r18])
theorem NY{lp}(hlp:aE lp):ac 96 (m3 (Jq lp)):=GG (fn:=Tryz.f96) (ann:=NV) hlp (by kernel_rfl) (by kernel_rfl) (fun call a0 a1 a2=>by kernel_rfl)
noncomputable def Jy(lp:Lp)(call:Nat->List D->Option D)(a0:D):Option D:=
(D.get a0 [0]).bind fun x1=>
(D.un .neg x1).bind fun x2=>
(D.get a0 [1]).bind fun x3=>
(D.un .neg x3).bind fun x4=>
(D.get a0 [2]).bind fun x5=>
(D.un .neg x5).bind fun x6=>
 some (D.st [x2,x4,x6])
theorem OK{lp}(hlp:aE lp):ac 97 (m1 (Jy lp)):=cg (fn:=Tryz.f97) (ann:=.leaf) hlp (by kernel_rfl) (by kernel_rfl) (fun call a0=>by kernel_rfl)
def N3:Ann:=(.two .leaf (.two .leaf (.two (.two .leaf (.two (.loop ⟨[(3,.same (.ptr ew 4099 [])),(5,.dv Ty.bool),(11,.dv (Ty.int .i64))],[(4099,.keep ew 3)],[9,10]⟩ [(.ret,⟨[(4,.dv Ty.bool)],[],[]⟩),(.exit 0,⟨[(5,.dv Ty.bool)],[],[]⟩)] .leaf) .leaf)) .leaf)))
noncomputable def Jh(lp:Lp)(call:Nat->List D->Option D)(a0:D)(a1:D):Option D:=
(D.asSl a0).bind fun l1=>
(lp (β:=Nat×List D) (fun(v2:List D)=>
(D.bin .lss (gx v2 1) (D.int .i64 (l1.length))).bind fun x3=>
(D.truth x3).bind fun b4=>
 if b4 then((D.asSl a0).bind fun l5=>
(D.idx (gx v2 1) (l5.length)).bind fun i6=>
(l5[i6]?).bind fun x7=>
(D.get a1 [0]).bind fun x8=>
(call 101 [x8,x7]).bind fun r9=>
(D.get a1 [1]).bind fun x10=>
(D.bin .gtr r9 x10).bind fun x11=>
(D.truth x11).bind fun b12=>
 if b12 then(some (Sum.inr (0,[(D.bool false)]))) else((D.truth (gx v2 0)).bind fun b13=>
(if b13 then((D.get a1 [1]).bind fun x14=>
 D.truth (D.bool (D.beq r9 x14))) else(some false)).bind fun b15=>
(D.bin .add (gx v2 1) (D.int .i64 1)).bind fun x16=>
 some (Sum.inl [(D.bool b15),x16]))) else(some (Sum.inr (1,[(gx v2 0)])))) [(D.bool true),(D.int .i64 0)]).bind fun r17=>
 if r17.1=0 then(some (gx r17.2 0)) else((D.un .not (gx r17.2 0)).bind fun x18=>
 some x18)
theorem O8{lp}(hlp:aE lp):ac 98 (m2 (Jh lp)):=bt (fn:=Tryz.f98) (ann:=N3) hlp (by kernel_rfl) (by kernel_rfl) (fun call a0 a1=>by kernel_rfl)
def LN:Ann:=(.two .leaf (.two (.reg [] 23) .leaf))
noncomputable def Ft(lp:Lp)(call:Nat->List D->Option D)(a0:D)(a1:D):Option D:=
(D.get a0 [0,0]).bind fun x1=>
(D.get a1 [0,0]).bind fun x2=>
(call 53 [x1,x2]).bind fun r3=>
(D.get a0 [0,1]).bind fun x4=>
(D.get a1 [0,1]).bind fun x5=>
(call 53 [x4,x5]).bind fun r6=>
(D.get a0 [0,2]).bind fun x7=>
(D.get a1 [0,2]).bind fun x8=>
(call 53 [x7,x8]).bind fun r9=>
(call 52 [(D.sl [r3,r6,r9])]).bind fun r10=>
 some r10
theorem LV{lp}(hlp:aE lp):ac 100 (m2 (Ft lp)):=bt (fn:=Tryz.f100) (ann:=LN) hlp (by kernel_rfl) (by kernel_rfl) (fun call a0 a1=>by kernel_rfl)
noncomputable def Dy(lp:Lp)(call:Nat->List D->Option D)(a0:D)(a1:D):Option D:=
(D.get a0 [0]).bind fun x1=>
(D.get a1 [0]).bind fun x2=>
(D.bin .mul x1 x2).bind fun x3=>
(D.get a0 [1]).bind fun x4=>
(D.get a1 [1]).bind fun x5=>
(D.bin .mul x4 x5).bind fun x6=>
(D.bin .add x3 x6).bind fun x7=>
(D.get a0 [2]).bind fun x8=>
(D.get a1 [2]).bind fun x9=>
(D.bin .mul x8 x9).bind fun x10=>
(D.bin .add x7 x10).bind fun x11=>
 some x11
theorem LF{lp}(hlp:aE lp):ac 101 (m2 (Dy lp)):=bt (fn:=Tryz.f101) (ann:=.leaf) hlp (by kernel_rfl) (by kernel_rfl) (fun call a0 a1=>by kernel_rfl)
end Go.Proofs.YtjjjkojfijpeeaaGreat.Sy
end
