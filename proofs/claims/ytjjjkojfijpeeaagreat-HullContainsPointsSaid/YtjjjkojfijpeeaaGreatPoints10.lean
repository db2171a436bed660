/- Part 10 of the proof that HullContainsPoints answers true at every input -/
import Derived.Test.YtjjjkojfijpeeaaGreatPoints08
import Derived.Test.YtjjjkojfijpeeaaGreatPoints09
set_option linter.unusedVariables false
set_option linter.unusedSimpArgs false
set_option linter.unnecessarySimpa false
section
set_option linter.unusedVariables false
namespace Go.Proofs.YtjjjkojfijpeeaaGreat.Sy
open Go Go.Proofs Go.Sort Go.Lib
section
variable{P:Program}{E:Env}{r:Root}
theorem Hq{ro:Option Nat}{nn:Nat}{ops:Array Oper}{rest:List Oper}{a:Act}{w:World}{Q:Exit->Act->World->Prop}{d:Option Nat}{y:TypeId}{p:String}{fs:Array Edge}{g t:Nat}
  (h:wpListIn (FW ro) nn P ops Q rest (a.put d (.func (.func g) #[] #[a.tmps.getD t undef])) w):wpListIn (FW ro) nn P ops Q (⟨d,.makeFunc (.func g) #[] #[.tmp t],y,p,fs,none⟩::rest) a w:=by
 refine ge (K:=fun v w'=>v=.func (.func g) #[] #[a.tmps.getD t undef]/\w=w') rfl (cl.value (v:=.func (.func g) #[] #[a.tmps.getD t undef]) (w':=w) ?_ ⟨rfl,rfl⟩) ?_
 ·simp[execOp,Instr.makeFunc,aw]
 rintro _ _ ⟨rfl,rfl⟩
 exact h
theorem qL {f150 g : Nat} (hf : ∃ fn, P.funcs[f150]? = some fn /\ (fn.name == "runtime.NumGoroutine") = false /\ fn.body.isSome = true) {K0 K : Value -> World -> Prop} (hsort : ∀ v w, K0 v w -> Calls P f150 #[v, .func (.func g) #[] #[]] w fun en w' => ∃ u, en = .returned u /\ K v w')
  {f f149:Nat} {fn:Func} (hfn:P.funcs[f]?=some fn) {i0 i1 i2 i3:Nat} {R0 R1 R2 R3:Array Oper} (hbody:fn.body=some (.seq (.region i0 R0 false) (.seq (.region i1 R1 false) (.seq (.region i2 R2 false) (.seq (.region i3 R3 false) .ret))))) (hnt:fn.ntmps=12) (hres:fn.results=#[.tmp 4])
  {y2 y3 y4 y5 y6 y7 y8 y9 y10:TypeId} {p2 p3 p4 p5 p6 p7 p8 p9 p10:String} {f2 f3 f4 f5 f6 f7 f8 f9 f10:Array Edge} {ats ats2:Array TypeId} (hR0:R0.toList=[⟨some 4,.assign (.const (.slice none 0 0)),y2,p2,f2,none⟩])
  (hR1:R1.toList=[⟨some 6,.move (.tmp 0),y3,p3,f3,none⟩,⟨some 7,.call ⟨.value (.func f149),#[.tmp 6],ats⟩,y4,p4,f4,none⟩,⟨some 5,.assign (.tmp 7),y5,p5,f5,none⟩])
  (hR2:R2.toList=[⟨some 8,.move (.tmp 5),y6,p6,f6,none⟩,⟨some 9,.move (.tmp 1),y7,p7,f7,none⟩,⟨some 10,.call ⟨.value (.func f150),#[.tmp 8,.tmp 9],ats2⟩,y8,p8,f8,none⟩])
  (hR3:R3.toList=[⟨some 11,.move (.tmp 5),y9,p9,f9,none⟩,⟨some 4,.assign (.tmp 11),y10,p10,f10,none⟩])
  (hg : ∃ fn, P.funcs[f149]? = some fn /\ (fn.name == "runtime.NumGoroutine") = false /\ fn.body.isSome = true) {fv : Value} {W0 : World} (hc : Calls P f149 #[fv] W0 fun en W' => ∃ v, en = .returned v /\ K0 v W') :
  Calls P f #[fv,.func (.func g) #[] #[]] W0 fun en W'=>∃ v,en=.returned v/\K v W':=by
 refine cF hfn hbody ?_
 generalize ha0:Act.mk _ _=a0
 have hsz0:a0.tmps.size=12:=by rw[<-ha0];simp[hnt]
 have e0:a0.tmps.getD 0 undef=fv:=by rw[<-ha0,hnt];rfl
 have e1:a0.tmps.getD 1 undef=.func (.func g) #[] #[]:=by rw[<-ha0,hnt];rfl
 have hd0:a0.defers=[]:=by rw[<-ha0]
 clear ha0
 refine wpIn_seq (wpIn_region_list ?_)
 rw[hR0]
 refine bF (cT ?_)
 refine wpIn_seq (wpIn_region_list ?_)
 rw[hR1]
 refine cb (kg hg _ ?_ hc fun v w1 hv=>bF (cT ?_))
 ·simp only[List.map_toArray,List.map_cons,List.map_nil,aw,bD,aq,ak,hsz0,e0,reduceIte,Nat.reduceLT,Nat.reduceEqDiff]
 generalize ha2:Act.put _ (some 5) _=a2
 have hsz2:a2.tmps.size=12:=by rw[<-ha2];simp only[ak,hsz0]
 have e5:a2.tmps.getD 5 undef=v:=by rw[<-ha2];simp only[aw,bD,aq,ak,hsz0,reduceIte,Nat.reduceLT,Nat.reduceEqDiff]
 have e1':a2.tmps.getD 1 undef=.func (.func g) #[] #[]:=by rw[<-ha2];simp only[aw,bD,aq,ak,hsz0,e1,reduceIte,Nat.reduceLT,Nat.reduceEqDiff]
 have hd2:a2.defers=[]:=by rw[<-ha2];simp only[aI,hd0]
 clear ha2
 have hcs':=hsort v w1 hv
 refine wpIn_seq (wpIn_region_list ?_)
 rw[hR2]
 refine cb (cb (kg hf _ ?_ hcs' fun u w2 hu=>cT ?_))
 ·simp only[List.map_toArray,List.map_cons,List.map_nil,aw,bD,aq,ak,hsz2,e5,e1',reduceIte,Nat.reduceLT,Nat.reduceEqDiff]
 generalize ha3:Act.put _ (some 10) _=a3
 have hsz3:a3.tmps.size=12:=by rw[<-ha3];simp only[ak,hsz2]
 have e5':a3.tmps.getD 5 undef=v:=by rw[<-ha3];simp only[aw,bD,aq,ak,hsz2,e5,reduceIte,Nat.reduceLT,Nat.reduceEqDiff]
 have hd3:a3.defers=[]:=by rw[<-ha3];simp only[aI,hd2]
 clear ha3
 refine wpIn_seq (wpIn_region_list ?_)
 rw[hR3]
 refine cb (bF (cT (wpIn_ret ⟨by simp only[aI,hd3],v,(results_tmp hres _ _ _).trans ?_,v,rfl,hu⟩)))
 simp only[aw,bD,aq,ak,hsz3,e5',reduceIte,Nat.reduceLT,Nat.reduceEqDiff]
def yI(w:World)(S:Nat->Nat->Prop)(l:List D)(g:Nat)(v:Value)(w1:World):Prop:=
 ∃ B S1 sv,v=.func (.func g) #[] #[.pointer (some ⟨B,0,none⟩)]/\cY (bZ w S) w1/\w1.cell? ⟨B,0,none⟩=some sv/\B<w1.heap.size/\CR w1 S1 (.sl l) sv/\(∀ b o,S1 b o->b<w1.heap.size)/\(∀ b o,S1 b o->b<w.heap.size->S b o)
theorem yf(hE:EnvOk P E){e:Ty}(hne:af e=true){l:List D}(hwt:∀ x∈l,wt e x){g:Nat}
  {f:Nat} {fn:Func} (hfn:P.funcs[f]?=some fn) {i0 i1:Nat} {R0 R1:Array Oper} (hbody:fn.body=some (.seq (.region i0 R0 false) (.seq (.region i1 R1 false) .ret))) (hnt:fn.ntmps=4) (hres:fn.results=#[.tmp 2])
  {y2 y3:TypeId} {p2 p3:String} {f2 f3:Array Edge} (hR1:R1.toList=[⟨some 3,.makeFunc (.func g) #[] #[.tmp 1],y2,p2,f2,none⟩,⟨some 2,.assign (.tmp 3),y3,p3,f3,none⟩])
  (hv0:ev E (.region i0 R0 false) .leaf D (dS 4 [] (fun i=>if i=0 then .d (.sl e) (.sl l) else .undef)) (yY (.sl e) 1)=some (.sl l))
  {w:World} {S:Nat->Nat->Prop} (hS:∀ b o,S b o->b<w.heap.size) {v0:Value} (hv:dY w S (.sl l) v0):Calls P f #[v0] w fun en w1=>∃ v,en=.returned v/\yI w S l g v w1:=by
 refine cF hfn hbody ?_
 generalize ha0:Act.mk _ _=a0
 have hsz0:a0.tmps.size=4:=by rw[<-ha0];simp[hnt]
 have e0:a0.tmps.getD 0 undef=v0:=by rw[<-ha0,hnt];rfl
 have hd0:a0.defers=[]:=by rw[<-ha0]
 clear ha0
 have RA:=BV (lk:=[]) (f:=fun i=>if i=0 then .d (.sl e) (.sl l) else .undef) hS hsz0 hd0 (fun t ht=>by
  by_cases h5:t=0
  ·subst h5;rw[if_pos rfl,e0];exact .inl ⟨by simp only[af];exact hne,⟨l,rfl,hwt⟩,hv⟩
  ·rw[if_neg h5];simp only[AR]) (fun t ht=>by rw[if_neg (by omega)])
 refine wpIn_seq (dL hE _ .leaf D _ _ RA hv0 fun x s1 S1 γ1 β1 a1 w1 g1 g2 g3 g4=>?_)
 obtain⟨rfl,id,htm,hob⟩:=AA g4
 have hA:=(g1.slot htm (by simp)).2
 simp only[AR,AC] at hA
 obtain⟨hna,B,off,hB1,hγB,hB2⟩:=hA
 have hv1:a1.tmps.getD 1 undef=.pointer (some ⟨B,off,none⟩):=al hna hB1
 have hoff:off=0:=(hB2 _ hob).2
 subst hoff
 have hO:=g1.obs id _ B hob hγB
 simp only[gT] at hO
 obtain⟨_,_,_,cs,q4,q5,q6⟩:=hO
 simp only[AC] at q5
 obtain⟨_,_,q7⟩:=q5
 have hl1:cs.length=1:=q6
 obtain⟨sv,rfl⟩:∃ sv,cs=[sv]:=by
  match cs,hl1 with
  | [sv],_=>exact⟨sv,rfl⟩
 have hcr:CR w1 S1 (.sl l) sv:=q7.2 0 _ sv (by simp[D.flat]) rfl
 have hsz1:a1.tmps.size=4:=by rw[g1.nt,g3.nt];rfl
 have hd1:=g1.df
 simp only[tu,Exit.then]
 refine wpIn_seq (wpIn_region_list ?_)
 rw[hR1]
 refine Hq (bF (cT (wpIn_ret ⟨by simp only[aI,hd1],_,(results_tmp hres _ _ _).trans ?_,_,rfl,B,S1,sv,rfl,g1.ext,?_,(g1.γn id B hγB).2,hcr,g1.Sb,fun b o hb hlt=>g1.So b o hb ⟨hlt,fun hf=>hf⟩⟩)))
 ·simp only[aw,bD,aq,ak,hsz1,hv1,reduceIte,Nat.reduceLT,Nat.reduceEqDiff]
 ·rw[bv w1 q4];rfl
theorem xN{f f93 f92 f95 g:Nat}{fn:Func}(hfn:P.funcs[f]?=some fn){i0 i1 i2:Nat}{R0 R1 R2:Array Oper}(hbody:fn.body=some (.seq (.region i0 R0 false) (.seq (.region i1 R1 false) (.seq (.region i2 R2 false) .ret))))(hnt:fn.ntmps=9)(hres:fn.results=#[.tmp 2])
  {y2 y3 y4 y5 y6 y7 y8 y9:TypeId} {p2 p3 p4 p5 p6 p7 p8 p9:String} {f2 f3 f4 f5 f6 f7 f8 f9:Array Edge} {ats ats2 ats3:Array TypeId} (hR0:R0.toList=[⟨some 2,.assign (.const (.slice none 0 0)),y2,p2,f2,none⟩])
  (hR1:R1.toList=[⟨some 4,.move (.tmp 0),y3,p3,f3,none⟩,⟨some 5,.call ⟨.value (.func f93),#[.tmp 4],ats⟩,y4,p4,f4,none⟩,⟨some 6,.call ⟨.value (.func f92),#[.tmp 5,.func g],ats2⟩,y5,p5,f5,none⟩,⟨some 3,.assign (.tmp 6),y6,p6,f6,none⟩])
  (hR2:R2.toList=[⟨some 7,.move (.tmp 3),y7,p7,f7,none⟩,⟨some 8,.call ⟨.value (.func f95),#[.tmp 7],ats3⟩,y8,p8,f8,none⟩,⟨some 2,.assign (.tmp 8),y9,p9,f9,none⟩])
  (hg93 : ∃ fn, P.funcs[f93]? = some fn /\ (fn.name == "runtime.NumGoroutine") = false /\ fn.body.isSome = true) (hg92 : ∃ fn, P.funcs[f92]? = some fn /\ (fn.name == "runtime.NumGoroutine") = false /\ fn.body.isSome = true) (hg95 : ∃ fn, P.funcs[f95]? = some fn /\ (fn.name == "runtime.NumGoroutine") = false /\ fn.body.isSome = true)
  {v0:Value} {w:World} {K1 K2 K3:Value->World->Prop} (h93:Calls P f93 #[v0] w fun en w1=>∃ v,en=.returned v/\K1 v w1) (h92:∀ v w1,K1 v w1->Calls P f92 #[v,.func (.func g) #[] #[]] w1 fun en w2=>∃ v,en=.returned v/\K2 v w2)
  (h95:∀ v w2,K2 v w2->Calls P f95 #[v] w2 fun en w3=>∃ v,en=.returned v/\K3 v w3):Calls P f #[v0] w fun en w3=>∃ v,en=.returned v/\K3 v w3:=by
 refine cF hfn hbody ?_
 generalize ha0:Act.mk _ _=a0
 have hsz0:a0.tmps.size=9:=by rw[<-ha0];simp[hnt]
 have e0:a0.tmps.getD 0 undef=v0:=by rw[<-ha0,hnt];rfl
 have hd0:a0.defers=[]:=by rw[<-ha0]
 clear ha0
 refine wpIn_seq (wpIn_region_list ?_)
 rw[hR0]
 refine bF (cT ?_)
 refine wpIn_seq (wpIn_region_list ?_)
 rw[hR1]
 refine cb (kg hg93 _ ?_ h93 fun v w1 hv=>kg hg92 _ ?_ (h92 v w1 hv) fun v2 w2 hv2=>bF (cT ?_))
 ·simp only[List.map_toArray,List.map_cons,List.map_nil,aw,bD,aq,ak,hsz0,e0,reduceIte,Nat.reduceLT,Nat.reduceEqDiff]
 ·simp only[List.map_toArray,List.map_cons,List.map_nil,aw,bD,AU,aq,ak,hsz0,e0,reduceIte,Nat.reduceLT,Nat.reduceEqDiff]
 generalize ha2:Act.put _ (some 3) _=a2
 have hsz2:a2.tmps.size=9:=by rw[<-ha2];simp only[ak,hsz0]
 have e3:a2.tmps.getD 3 undef=v2:=by rw[<-ha2];simp only[aw,bD,aq,ak,hsz0,reduceIte,Nat.reduceLT,Nat.reduceEqDiff]
 have hd2:a2.defers=[]:=by rw[<-ha2];simp only[aI,hd0]
 clear ha2
 refine wpIn_seq (wpIn_region_list ?_)
 rw[hR2]
 refine cb (kg hg95 _ ?_ (h95 v2 w2 hv2) fun v3 w3 hv3=>bF (cT (wpIn_ret ⟨by simp only[aI,hd2],v3,(results_tmp hres _ _ _).trans ?_,v3,rfl,hv3⟩)))
 ·simp only[List.map_toArray,List.map_cons,List.map_nil,aw,bD,aq,ak,hsz2,e3,reduceIte,Nat.reduceLT,Nat.reduceEqDiff]
 ·simp only[aw,bD,aq,ak,hsz2,reduceIte,Nat.reduceLT,Nat.reduceEqDiff]
end
end Go.Proofs.YtjjjkojfijpeeaaGreat.Sy
end
section
set_option linter.unusedVariables false
namespace Go.Proofs.YtjjjkojfijpeeaaGreat.Sy
open Go Go.Proofs Go.Sort Go.Lib
theorem td:∀ (l:List D) (x y z:D),(x::l).getLast?=some z->jk x (l++[y])=if y.beq z then jk x l else jk x l++[y]
 | [],x,y,z,h=>by
  simp at h
  subst h
  simp only[List.nil_append,jk]
 | w::l,x,y,z,h=>by
  have h':(w::l).getLast?=some z:=by simpa [List.getLast?_cons_cons] using h
  have ih:=td l w y z h'
  simp only[List.cons_append,jk]
  rw[ih]
  split<;>split<;>rfl
theorem wD{l:List D}{j:Nat}{x y:D}(hx:l[j]?=some x)(hy:l[j+1]?=some y):ip (l.take (j+2))=if y.beq x then ip (l.take (j+1)) else ip (l.take (j+1))++[y]:=by
 cases l with
 | nil=>simp at hx
 | cons a l=>
  simp only[List.getElem?_cons_succ] at hy
  have e1:(a::l).take (j+2)=a::(l.take j++[y]):=by
   rw[List.take_succ_cons,List.take_add_one,hy];rfl
  have hlast:(a::l.take j).getLast?=some x:=by
   have hj:j<(a::l).length:=(List.getElem?_eq_some_iff.1 hx).1
   have e2:(a::l).take (j+1)=a::l.take j:=rfl
   rw[<-e2,List.getLast?_eq_getElem?,List.length_take]
   rw[show min (j+1) (a::l).length-1=j by omega,List.getElem?_take,if_pos (Nat.lt_succ_self j)]
   exact hx
  rw[e1]
  have:=td (l.take j) a y x hlast
  simp only[ip,List.take_succ_cons]
  rw[this]
  split<;>rfl
theorem qH(x:D):∀ (l:List D),∀ y∈jk x l,y∈l
 | [],y,h=>by simp[jk] at h
 | z::l,y,h=>by
  simp only[jk] at h
  split at h
  ·exact List.mem_cons_of_mem _ (qH z l y h)
  ·rcases List.mem_cons.1 h with rfl|h
   ·exact List.mem_cons_self
   ·exact List.mem_cons_of_mem _ (qH z l y h)
theorem vQ:∀ (l:List D),∀ y∈ip l,y∈l
 | [],y,h=>by simp[ip] at h
 | x::l,y,h=>by
  rcases List.mem_cons.1 h with rfl|h
  ·exact List.mem_cons_self
  ·exact List.mem_cons_of_mem _ (qH x l y h)
theorem qc{l:List D}(h:l.length<2):ip l=l:=by
 match l,h with
 | [],_=>rfl
 | [x],_=>rfl
def HL(e:Ty)(W:World)(b off:Nat)(M:List D):Prop:=(∃ row,bk W b=some row/\off+M.length*e.size<=row.size)/\∀ i d,(D.flats M)[i]?=some d->W.cell? ⟨b,off+i,none⟩=some (aW d)
theorem HL.lt{e:Ty}{W:World}{b off:Nat}{M:List D}(h:HL e W b off M):b<W.heap.size:=by
 obtain⟨⟨row,h1,_⟩,_⟩:=h
 unfold bk at h1
 cases hb:W.heap[b]? with
 | none=>rw[hb] at h1;cases h1
 | some o=>exact(Array.getElem?_eq_some_iff.1 hb).1
theorem HL.grow{e:Ty}{W:World}{b off:Nat}{M:List D}(h:HL e W b off M)(os:List Obj)(d:Nat):HL e (ao W os d) b off M:=by
 have hb:=h.lt
 obtain⟨⟨row,h1,h2⟩,h3⟩:=h
 have e1:bk (ao W os d) b=bk W b:=AF hb
 refine⟨⟨row,by rw[e1];exact h1,h2⟩,fun i x hx=>?_⟩
 rw[<-h3 i x hx]
 simp only[World.cell?,bI hb]
section
variable{e:Ty}(hce:aO e=true)(hne:af e=true)
include hce hne
theorem HL.crl{W:World}{b off:Nat}{M:List D}(h:HL e W b off M)(hwt:∀ x∈M,wt e x){j m cap:Nat}(hm:m=M.length-j)(hj:j<=M.length)(hc:m<=cap) :
  CR W (fun b' _=>b'=b) (.sl (M.drop j)) (.slice (some ⟨b,off+j*e.size,none⟩) m cap):=by
 have hlen:(M.drop j).length=m:=by rw[List.length_drop,hm]
 rw[<-hlen]
 have hlf:=eJ hce (M.drop j) fun x hx=>hwt x (List.mem_of_mem_drop hx)
 have hfl:D.flats (M.drop j)=(D.flats M).drop (j*e.size):=by
  have h1:D.flats M=D.flats (M.take j)++D.flats (M.drop j):=by rw[<-br,List.take_append_drop]
  have h2:(D.flats (M.take j)).length=j*e.size:=by
   rw[ap hne _ fun x hx=>hwt x (List.mem_of_mem_take hx),List.length_take,Nat.min_eq_left hj]
  rw[h1,List.drop_append,h2,Nat.sub_self,List.drop_zero,List.drop_of_length_le (Nat.le_of_eq h2),List.nil_append]
 refine CR.of_elems (b:=b) (off:=off+j*e.size) (.inr rfl) (by omega) ⟨(D.flats (M.drop j)).map aW,(bj hlf).2 rfl,fun i c hc=>⟨rfl,?_⟩⟩
 rw[List.getElem?_map] at hc
 cases hd:(D.flats (M.drop j))[i]? with
 | none=>rw[hd] at hc;cases hc
 | some d=>
  rw[hd] at hc
  simp only[Option.map_some,Option.some.injEq] at hc
  subst hc
  rw[hfl,List.getElem?_drop] at hd
  have:=h.2 _ d hd
  rw[show off+j*e.size+i=off+(j*e.size+i) by omega]
  exact this
omit hce in
theorem HL.set{W:World}{b off:Nat}{M:List D}(h:HL e W b off M)(hwt:∀ x∈M,wt e x){k:Nat}(hk:k<M.length)(hp:0<e.size){x:D}(hx:wt e x) :
  HL e (aX W b (off+k*e.size) (x.flat.map aW).toArray) b off (M.set k x):=by
 obtain⟨⟨row,h1,h2⟩,h3⟩:=h
 have hxl:x.flat.length=e.size:=bo e x hx hne
 have hkm:k*e.size+e.size<=M.length*e.size:=by
  have:(k+1)*e.size<=M.length*e.size:=Nat.mul_le_mul_right _ hk
  rwa [Nat.add_mul,Nat.one_mul] at this
 have hs:off+k*e.size+(x.flat.map aW).toArray.size<=row.size:=by simp[hxl];omega
 refine⟨⟨_,dJ h1,?_⟩,fun i d hd=>?_⟩
 ·rw[List.length_set]
  have:(cC row (off+k*e.size) (x.flat.map aW).toArray).size=row.size:=by
   simp only[cC,Array.size_append,Array.size_extract,List.size_toArray,List.length_map,hxl];omega
  omega
 ·rw[bv _ (dJ h1),gB _ _ _ _ hs]
  have hu:∀ y∈M.set k x,y.flat.length=e.size:=fun y hy=>by
   rcases List.mem_or_eq_of_mem_set hy with hy|rfl
   ·exact bo e y (hwt y hy) hne
   ·exact hxl
  have hold:=h3 i
  rw[gn hp _ hu] at hd
  rw[gn hp _ fun y hy=>bo e y (hwt y hy) hne] at hold
  have hlt:i%e.size<e.size:=Nat.mod_lt _ hp
  have hdm:e.size*(i/e.size)+i%e.size=i:=Nat.div_add_mod i e.size
  rw[Nat.mul_comm] at hdm
  rw[List.getElem?_set] at hd
  by_cases hik:k=i/e.size
  ·rw[if_pos hik,if_pos hk] at hd
   simp only[Option.bind_some] at hd
   rw[<-hik] at hdm
   rw[if_neg (by omega),if_pos (by simp[hxl];omega)]
   have e1:off+i-(off+k*e.size)=i%e.size:=by omega
   rw[e1]
   simp[hd]
  ·rw[if_neg hik] at hd
   have:=hold d hd
   rw[bv _ h1] at this
   rw[<-this]
   rcases Nat.lt_or_ge (i/e.size) k with c|c
   ·have:(i/e.size+1)*e.size<=k*e.size:=Nat.mul_le_mul_right _ c
    rw[Nat.add_mul,Nat.one_mul] at this
    rw[if_pos (by omega)]
   ·have:(k+1)*e.size<=i/e.size*e.size:=Nat.mul_le_mul_right _ (by omega)
    rw[Nat.add_mul,Nat.one_mul] at this
    rw[if_neg (by omega),if_neg (by simp[hxl];omega)]
end
theorem HL.take{e:Ty}{W W':World}{b off:Nat}{M:List D}(hne:af e=true)(h:HL e W b off M)(hwt:∀ x∈M,wt e x){k:Nat}(hr:∃ row,bk W' b=some row/\off+(M.take k).length*e.size<=row.size)(hc:∀ o,o<off+k*e.size->W'.cell? ⟨b,o,none⟩=W.cell? ⟨b,o,none⟩):HL e W' b off (M.take k):=by
 refine⟨hr,fun i d hd=>?_⟩
 have h2:(D.flats (M.take k)).length<=k*e.size:=by
  rw[ap hne _ fun x hx=>hwt x (List.mem_of_mem_take hx),List.length_take]
  exact Nat.mul_le_mul_right _ (Nat.min_le_left _ _)
 have h1:D.flats M=D.flats (M.take k)++D.flats (M.drop k):=by rw[<-br,List.take_append_drop]
 have hi:=(List.getElem?_eq_some_iff.1 hd).1
 rw[hc _ (by omega)]
 refine h.2 i d ?_
 rw[h1,List.getElem?_append_left hi]
 exact hd
end Go.Proofs.YtjjjkojfijpeeaaGreat.Sy
end
section
set_option linter.unusedVariables false
namespace Go.Proofs.YtjjjkojfijpeeaaGreat.Sy
open Go Go.Proofs Go.Sort Go.Lib
section
variable{P:Program}{E:Env}{r:Root}{ro:Option Nat}{nn:Nat}
theorem fM(hE:EnvOk P E){c:Code}{ann:Ann}{W:World}{a:Act}{nt:Nat}{f:Nat->AV}{lk:List Nat}(hsz:a.tmps.size=nt)(hdf:a.defers=[]){S:Nat->Nat->Prop}(hS:∀ b o,S b o->b<W.heap.size)
  (hf:∀ t,t<nt->AR ⟨W,S,fun _=>none,fun _=>none,fun _=>none,[]⟩ (f t) (a.tmps.getD t undef)) (hu:∀ t,nt<=t->f t=.undef) {l:List (Nat×Ty)} {xs:List D} (hv:ev E c ann D (dS nt lk f) (kW l)=some (.tup xs)) {Q:Exit->Act->World->Prop}
  (hQ:∀ a' os d,W.drawn<=d->a'.tmps.size=nt->a'.defers=[]->(∀ t∈lk,a'.tmps.getD t undef=a.tmps.getD t undef)->(∀ (i t:Nat) (ty:Ty) (x:D),l[i]?=some (t,ty)->xs[i]?=some x->aO ty=true->a'.tmps.getD t undef=aW x)->Q .normal a' (ao W os d)):c.wpIn (FW ro) nn P Q a W:=by
 refine dL hE c ann D _ _ (BV hS hsz hdf hf hu) hv fun x s' S' γ' β' a2 w2 g1 g2 g3 g4=>?_
 obtain⟨rfl,g5⟩:=tF g4
 obtain⟨os,dd,hdd,rfl⟩:=bM g1.ext (fun _ hf=>hf)
 exact hQ a2 os dd hdd (by rw[g1.nt,g3.nt];rfl) g1.df (fun t ht=>g2.slots t ht) fun i t ty x hi hx hc=>g1.word g5 hi hx hc
theorem eY{W:World}(h:cY r W){os:List Obj}{d:Nat}(hd:W.drawn<=d):cY r (ao W os d):=
 jT h rfl rfl rfl (by simp[ao]) hd fun b hb=>bI (Nat.lt_of_lt_of_le hb.1 h.sz)
theorem yt{W:World}(h:cY r W){b off:Nat}{cs:Array Value}(hb:¬ r.Old b):cY r (aX W b off cs):=
 jT h rfl rfl rfl (by simp[aX]) (Nat.le_refl _) fun b' hb'=>cr fun e=>hb (e ▸ hb')
theorem zQ{T:TypeId}{e:Ty}(hl:be P (.sl e) T=true)(hp:0<e.size){W:World}{b off m cap:Nat}{row:Array Value}(hr:bk W b=some row)(hs:off+m*e.size<=row.size)(hm:0<m)(ty:TypeId) :
  ∃ cs:Array Value,cs.size=m*e.size/\(Builtin.clear_ #[T] ty #[.slice (some ⟨b,off,none⟩) m cap]).run P W=.ok (.tuple #[]) (aX W b off cs):=by
 obtain⟨u,h1,h2⟩:=fU hl
 obtain⟨z,z1,z2,_⟩:=fR h2
 have hzl:∀ (ds:List D) (cs:List Value),bL ds cs=true->ds.length=cs.length/\∀ v∈cs,v.oneCell'=true:=by
  intro ds
  induction ds with
  | nil=>intro cs h;cases cs with|nil=>exact⟨rfl,by simp⟩|cons c cs=>simp[bL] at h
  | cons d ds ih=>
   intro cs h
   cases cs with
   | nil=>simp[bL] at h
   | cons c cs=>
    simp only[bL,Bool.and_eq_true] at h
    obtain⟨k1,k2⟩:=ih cs h.2
    refine⟨by simp[k1],fun v hv=>?_⟩
    rcases List.mem_cons.1 hv with rfl|hv
    ·have:=h.1
     cases d<;>cases v<;>simp_all [xy,Value.oneCell']
    ·exact k2 v hv
 obtain⟨q1,q2⟩:=hzl _ _ z2
 have hn:af e=true:=au e u h2
 have hzs:z.cells.size=e.size:=by
  rw[<-Array.length_toList,<-q1];exact bo e _ (bV e hn) hn
 have hcs:(Builtin.zeroCells z.cells m).size=m*e.size:=by simp[Builtin.zeroCells,hzs]
 refine⟨Builtin.zeroCells z.cells m,hcs,?_⟩
 have hst:=bY (P:=P) b off (Builtin.zeroCells z.cells m).toList 0 W row hr (by simp only[Array.length_toList,hcs];omega) (by
  rw[List.all_eq_true]
  intro v hv
  have hv':v∈Builtin.zeroCells z.cells m:=by simpa using hv
  obtain⟨i,hi,rfl⟩:=Array.getElem_of_mem hv'
  have hlt:i%z.cells.size<z.cells.size:=Nat.mod_lt _ (by omega)
  have hone:=q2 (z.cells[i%z.cells.size]) (by simp)
  simp only[Builtin.zeroCells,Array.getElem_map,Array.getElem_range]
  rw[getElem!_pos z.cells _ hlt]
  generalize z.cells[i%z.cells.size]=y at *
  cases y<;>simp_all [Value.oneCell',pj])
 simp only[Nat.add_zero] at hst
 obtain⟨m',rfl⟩:∃ m',m=m'+1:=⟨m-1,by omega⟩
 simp[Builtin.clear_,Sem.run_bind,run_underlying h1,Result.andThen_ok,z1,hst]
end
end Go.Proofs.YtjjjkojfijpeeaaGreat.Sy
end
section
set_option linter.unusedVariables false
namespace Go.Proofs.YtjjjkojfijpeeaaGreat.Sy
open Go Go.Proofs Go.Sort Go.Lib
section
variable{P:Program}{ro:Option Nat}{nn:Nat}{ops:Array Oper}{rest:List Oper}{a:Act}{w:World}{Q:Exit->Act->World->Prop}{d:Option Nat}{x y i:Operand}{ty:TypeId}{p:String}{fs:Array Edge}{T:TypeId}{e:Ty}
theorem pE(hl:be P (.sl e) T=true){A:Option Addr}{len cap lo hi:Nat}{olo ohi:Option Operand}(hx:a.eval x=.slice A len cap)(h1:lo<=hi)(h2:hi<=len)(h3:len<=cap)
  (hlo:(olo=none/\lo=0)\/∃ o,olo=some o/\a.eval o=.int .i64 (lo:Nat)) (hhi:(ohi=none/\hi=len)\/∃ o,ohi=some o/\a.eval o=.int .i64 (hi:Nat))
  (h:wpListIn (FW ro) nn P ops Q rest (a.put d (.slice (if cap=lo then A else A.map (·.add (lo*e.size))) (hi-lo) (cap-lo))) w):wpListIn (FW ro) nn P ops Q (⟨d,.slice T x olo ohi none,ty,p,fs,none⟩::rest) a w:=by
 refine ge (K:=fun v w'=>v=.slice (if cap=lo then A else A.map (·.add (lo*e.size))) (hi-lo) (cap-lo)/\w=w') rfl (cl.value (dw (m:=Instr.sliceAt T (a.eval x) (olo.map a.eval) (ohi.map a.eval) none) rfl ?_) ⟨rfl,rfl⟩) ?_
 ·rw[hx]
  refine mz hl h1 h2 h3 ?_ ?_ w
  ·rcases hlo with⟨rfl,rfl⟩|⟨o,rfl,h⟩
   ·exact .inl ⟨rfl,rfl⟩
   ·exact .inr ⟨.i64,by rw[Option.map_some,h]⟩
  ·rcases hhi with⟨rfl,rfl⟩|⟨o,rfl,h⟩
   ·exact .inl ⟨rfl,rfl⟩
   ·exact .inr ⟨.i64,by rw[Option.map_some,h]⟩
 rintro _ _ ⟨rfl,rfl⟩
 exact h
theorem vW(hl:be P (.sl e) T=true){b off len cap k:Nat}(hx:a.eval x=.slice (some ⟨b,off,none⟩) len cap)(hi:a.eval i=.int .i64 (k:Nat))(hk:k<len)
  (h:wpListIn (FW ro) nn P ops Q rest (a.put d (.pointer (some ⟨b,off+k*e.size,none⟩))) w):wpListIn (FW ro) nn P ops Q (⟨d,.indexAddr T x i,ty,p,fs,none⟩::rest) a w:=by
 refine ge (K:=fun v w'=>v=.pointer (some ⟨b,off+k*e.size,none⟩)/\w=w') rfl (cl.value (dw (m:=Instr.indexAt T (a.eval x) (a.eval i)) rfl ?_) ⟨rfl,rfl⟩) ?_
 ·rw[hx,hi];exact gU hl hk b off w
 rintro _ _ ⟨rfl,rfl⟩
 exact h
theorem EC(hl:be P e T=true){b off:Nat}{cs:List Value}(hx:a.eval x=.pointer (some ⟨b,off,none⟩))(hlen:cs.length=e.size)(hn:nag cs)(hc:∀ (i:Nat) (c:Value),cs[i]?=some c->w.cell? ⟨b,off+i,none⟩=some c)
  (h:∀ v,eG e cs v->wpListIn (FW ro) nn P ops Q rest (a.put d v) w):wpListIn (FW ro) nn P ops Q (⟨d,.load T x,ty,p,fs,none⟩::rest) a w:=by
 obtain⟨v,h1,h2⟩:=dp (P:=P) hl hlen hn hc
 refine ge (K:=fun v' w'=>v'=v/\w=w') rfl (cl.value (dw (m:=Instr.loadAt T (a.eval x)) rfl ?_) ⟨rfl,rfl⟩) ?_
 ·rw[hx];exact h1
 rintro _ _ ⟨rfl,rfl⟩
 exact h _ h2
theorem CI(hl:be P e T=true){b off:Nat}{c:Array Value}{v:Value}{cs:List Value}(hx:a.eval x=.pointer (some ⟨b,off,none⟩))(hy:a.eval y=v)(hr:bk w b=some c)(hv:eG e cs v)(hlen:cs.length=e.size)(hn:nag cs)(hb:off+cs.length<=c.size)
  (h:wpListIn (FW ro) nn P ops Q rest a (aX w b off cs.toArray)):wpListIn (FW ro) nn P ops Q (⟨none,.store T x y,ty,p,fs,none⟩::rest) a w:=by
 have h1:=jb (P:=P) hl hr hv hlen hn hb
 refine ge (K:=fun v' w'=>w'=aX w b off cs.toArray) rfl (cl.skip (w':=aX w b off cs.toArray) ?_ rfl) ?_
 ·simp only[execOp,hx,hy,Sem.run_bind,h1,Result.andThen_ok,Sem.run_pure]
 rintro _ _ rfl
 exact h
theorem Bm(hl:be P (.sl e) T=true)(hp:0<e.size){b off m cap:Nat}{row:Array Value}(hx:a.eval x=.slice (some ⟨b,off,none⟩) m cap)(hr:bk w b=some row)(hs:off+m*e.size<=row.size)(hm:0<m)
  (h:∀ cs:Array Value,cs.size=m*e.size->∀ v,wpListIn (FW ro) nn P ops Q rest (a.put d v) (aX w b off cs)):wpListIn (FW ro) nn P ops Q (⟨d,.call ⟨.builtin .clear,#[x],#[T]⟩,ty,p,fs,none⟩::rest) a w:=by
 obtain⟨cs,h1,h2⟩:=zQ (P:=P) (cap:=cap) hl hp hr hs hm ty
 refine ge (K:=fun v' w'=>w'=aX w b off cs) rfl (cl.value (v:=.tuple #[]) (w':=aX w b off cs) ?_ rfl) ?_
 ·simp[execOp,resolve,invoke,builtin,hx,h2,Sem.run_bind,Result.andThen_ok]
 rintro v _ rfl
 exact h cs h1 v
end
end Go.Proofs.YtjjjkojfijpeeaaGreat.Sy
end
section
set_option linter.unusedVariables false
namespace Go.Proofs.YtjjjkojfijpeeaaGreat.Sy
open Go Go.Proofs Go.Sort Go.Lib
def DJ(e:Ty)(L:List D)(k:Nat):Nat->AV:=fun i=>if i=0 then .d (.sl e) (.sl L) else if i=3 then .d (.int .i64) (.int .i64 (k:Nat)) else .undef
def Df(t k:Nat):Nat->AV:=fun i=>if i=t then .d (.int .i64) (.int .i64 (k:Nat)) else .undef
def EL(e:Ty)(N:List D)(k:Nat):Nat->AV:=fun i=>if i=4 then .d (.sl e) (.sl N) else if i=5 then .d (.int .i64) (.int .i64 (k:Nat)) else .undef
section
variable{P:Program}{E:Env}{r:Root}{ro:Option Nat}{nn:Nat}
theorem xQ(c:Cx)(n:Int):AR c (.d (.int .i64) (.int .i64 n)) (.int .i64 n):=.inl ⟨rfl,⟨n,rfl⟩,fun _ h=>(by cases h),(bj (ds:=[.int .i64 n]) (by intro d hd;rw[List.mem_singleton.1 hd];rfl)).2 rfl⟩
theorem uZ{e:Ty}(hce:aO e=true){x:D}(hx:wt e x):nag (x.flat.map aW):=fun v hv=>by
 obtain⟨q,hq,rfl⟩:=List.mem_map.1 hv
 have:=eC e x hce hx q hq
 cases q<;>simp only[gg] at this<;>first|(cases this;done)|rfl
theorem HL.elem{e:Ty}(hne:af e=true)(hp:0<e.size){W:World}{b off:Nat}{M:List D}(h:HL e W b off M)(hwt:∀ x∈M,wt e x){j:Nat}{x:D}(hx:M[j]?=some x)(i:Nat)(c:Value)(hc:(x.flat.map aW)[i]?=some c):W.cell? ⟨b,off+j*e.size+i,none⟩=some c:=by
 rw[List.getElem?_map] at hc
 cases hd:x.flat[i]? with
 | none=>rw[hd] at hc;cases hc
 | some d=>
  rw[hd] at hc
  simp only[Option.map_some,Option.some.injEq] at hc
  subst hc
  have hxl:x.flat.length=e.size:=bo e x (hwt x (List.mem_of_getElem? hx)) hne
  have hi:i<e.size:=by rw[<-hxl];exact(List.getElem?_eq_some_iff.1 hd).1
  have:=h.2 (j*e.size+i) d (by
   rw[gn hp _ fun y hy=>bo e y (hwt y hy) hne]
   rw[show(j*e.size+i)/e.size=j by rw[Nat.mul_comm,Nat.mul_add_div hp,Nat.div_eq_of_lt hi,Nat.add_zero],show(j*e.size+i)%e.size=i by rw[Nat.mul_comm,Nat.mul_add_mod,Nat.mod_eq_of_lt hi],hx]
   exact hd)
  rw[show off+j*e.size+i=off+(j*e.size+i) by omega]
  exact this
set_option maxHeartbeats 2000000 in
theorem wj(hE:EnvOk P E){e:Ty}(hce:aO e=true)(hne:af e=true)(hp:0<e.size){L:List D}(hwt:∀ x∈L,wt e x)(hlen:L.length<=1073741824){f:Nat}{fn:Func}(hfn:P.funcs[f]?=some fn)
  {i0 i1 i2 i3 i4 i5 i6 i7 i8 i9 i10 i11 yX i13 i14 i15 i16 b0 b1 b2 b3:Nat} {R0 R1 R2 R3 R4 R5 R6 R7 R8 R9 R10 R11 R12 R13 R14 R15 R16:Array Oper}
  (hbody:fn.body=some (.seq (.region i0 R0 false) (.seq (.seq (.region i1 R1 false) (.cond (.tmp 8) (.seq (.region i2 R2 false) .ret) .skip)) (.seq (.seq (.region i3 R3 false) (.block b0 (.loop (.seq (.seq (.region i4 R4 false) (.cond (.tmp 13) .skip (.exit b0))) (.seq (.block b1 (.seq (.region i6 R6 true) (.cond (.tmp 25) (.seq (.region i7 R7 false) (.seq (.seq (.region i8 R8 false) (.block b2 (.loop (.seq (.seq (.region i9 R9 false) (.cond (.tmp 32) .skip (.exit b2))) (.seq (.block b3 (.seq (.region i11 R11 true) (.cond (.tmp 44) (.seq (.region yX R12 false) (.region i13 R13 false)) .skip))) (.region i10 R10 false)))))) (.seq (.region i14 R14 false) (.seq (.region i15 R15 false) .ret)))) .skip))) (.region i5 R5 false)))))) (.seq (.region i16 R16 false) .ret)))))
  (hnt:fn.ntmps=61) (hres:fn.results=#[.tmp 2]) {Ts Te:Nat} (hTs:E.L Ts=some (.sl e)) (hTe:E.L Te=some e)
  {y1 y2 y3 y4 y5 y6 y7 y8 y9 y10 y11 y12 y13 y14 y15 y16 y17 y18 y19 y20 y21 y22 y23 y24 y25 y26 y27:TypeId} {p1 p2 p3 p4 p5 p6 p7 p8 p9 p10 p11 p12 p13 p14 p15 p16 p17 GH p19 p20 p21 p22 p23 p24 p25 p26 p27:String} {f1 f2 f3 f4 f5 f6 f7 f8 f9 f10 f11 f12 f13 f14 f15 f16 f17 f18 f19 f20 f21 f22 f23 f24 f25 f26 f27:Array Edge}
  (hR0:R0.toList=[⟨some 2,.assign (.const (.slice none 0 0)),y1,p1,f1,none⟩]) (hR2:R2.toList=[⟨some 9,.move (.tmp 0),y2,p2,f2,none⟩,⟨some 2,.assign (.tmp 9),y3,p3,f3,none⟩]) (hR3:R3.toList=[⟨some 3,.assign (.const (.int .i64 1)),y4,p4,f4,none⟩])
  (hR7:R7.toList=[⟨some 26,.move (.tmp 0),y5,p5,f5,none⟩,⟨some 27,.move (.tmp 3),y6,p6,f6,none⟩,⟨some 28,.slice Ts (.tmp 26) (some (.tmp 27)) none none,y7,p7,f7,none⟩,⟨some 4,.assign (.tmp 28),y8,p8,f8,none⟩])
  (hR8:R8.toList=[⟨some 5,.assign (.const (.int .i64 1)),y9,p9,f9,none⟩])
  (hR12:R12.toList=[⟨some 45,.move (.tmp 0),y10,p10,f10,none⟩,⟨some 46,.move (.tmp 3),y11,p11,f11,none⟩,⟨some 47,.move (.tmp 4),y12,p12,f12,none⟩,⟨some 48,.move (.tmp 5),y13,p13,f13,none⟩,⟨some 49,.indexAddr Ts (.tmp 47) (.tmp 48),y14,p14,f14,none⟩,⟨some 50,.load Te (.tmp 49),y15,p15,f15,none⟩,
   ⟨some 51,.indexAddr Ts (.tmp 45) (.tmp 46),y16,p16,f16,none⟩,⟨none,.store Te (.tmp 51) (.tmp 50),y17,p17,f17,none⟩])
  (hR14:R14.toList=[⟨some 54,.move (.tmp 0),y18,GH,f18,none⟩,⟨some 55,.move (.tmp 3),y19,p19,f19,none⟩,⟨some 56,.slice Ts (.tmp 54) (some (.tmp 55)) none none,y20,p20,f20,none⟩,⟨none,.call ⟨.builtin .clear,#[.tmp 56],#[Ts]⟩,y21,p21,f21,none⟩])
  (hR15:R15.toList=[⟨some 57,.move (.tmp 0),y22,p22,f22,none⟩,⟨some 58,.move (.tmp 3),y23,p23,f23,none⟩,⟨some 59,.slice Ts (.tmp 57) none (some (.tmp 58)) none,y24,p24,f24,none⟩,⟨some 2,.assign (.tmp 59),y25,p25,f25,none⟩])
  (hR16:R16.toList=[⟨some 60,.move (.tmp 0),y26,p26,f26,none⟩,⟨some 2,.assign (.tmp 60),y27,p27,f27,none⟩])
  (hv1:ev E (.region i1 R1 false) .leaf D (dS 61 [0] (fun i=>if i=0 then .d (.sl e) (.sl L) else .undef)) (kW [(8,.bool)])=some (.tup [.bool (decide ((L.length:Int)<2))]))
  (hv4:∀ k:Nat,ev E (.region i4 R4 false) .leaf D (dS 61 [0,3] (DJ e L k)) (kW [(13,.bool)])=some (.tup [.bool (decide ((k:Int)<(L.length:Nat)))]))
  {an6 an11:Ann} (hv6:∀ (k:Nat) (x y:D),k<1073741824->L[k]?=some x->L[k+1]?=some y->ev E (.region i6 R6 true) an6 D (dS 61 [0,3] (DJ e L (k+1))) (kW [(25,.bool)])=some (.tup [.bool (y.beq x)]))
  (hv5:∀ k:Nat,ev E (.region i5 R5 false) .leaf D (dS 61 [0] (Df 3 k)) (kW [(3,.int .i64)])=some (.tup [.int .i64 (IntKind.wrap .i64 ((k:Int)+1))]))
  (hv13:∀ k:Nat,ev E (.region i13 R13 false) .leaf D (dS 61 [0,4,5] (Df 3 k)) (kW [(3,.int .i64)])=some (.tup [.int .i64 (IntKind.wrap .i64 ((k:Int)+1))]))
  (hv10:∀ k:Nat,ev E (.region i10 R10 false) .leaf D (dS 61 [0,3,4] (Df 5 k)) (kW [(5,.int .i64)])=some (.tup [.int .i64 (IntKind.wrap .i64 ((k:Int)+1))]))
  (hv9:∀ (N:List D) (k:Nat),ev E (.region i9 R9 false) .leaf D (dS 61 [0,3,4,5] (EL e N k)) (kW [(32,.bool)])=some (.tup [.bool (decide ((k:Int)<(N.length:Nat)))]))
  (hv11:∀ (N:List D) (k:Nat) (x y:D),k<1073741824->N[k]?=some x->N[k+1]?=some y->ev E (.region i11 R11 true) an11 D (dS 61 [0,3,4,5] (EL e N (k+1))) (kW [(44,.bool)])=some (.tup [.bool (!(y.beq x))]))
  {W0:World} (hX:cY r W0) {S0:Nat->Nat->Prop} (hSb0:∀ b o,S0 b o->b<W0.heap.size) (hSo0:∀ b o,S0 b o->r.Old b->r.S0 b o) {sv:Value} (hsv:dY W0 S0 (.sl L) sv) (hown:2<=L.length->∃ b off cap,sv=.slice (some ⟨b,off,none⟩) L.length cap/\HL e W0 b off L/\¬ r.Old b) :
  Calls P f #[sv] W0 fun en W'=>∃ v,en=.returned v/\∃ S',cY r W'/\dY W' S' (.sl (ip L)) v/\(∀ b o,S' b o->b<W'.heap.size)/\(∀ b o,S' b o->r.Old b->r.S0 b o):=by
 have hls:be P (.sl e) Ts=true:=(hE.lay Ts _ hTs).resolve_left (by rintro⟨ts,h⟩;cases h)
 have hle:be P e Te=true:=(hE.lay Te _ hTe).resolve_left (by rintro⟨ts,h⟩;subst h;simp[aO] at hce)
 refine cF hfn hbody ?_
 generalize ha0:Act.mk _ _=a0
 have hsz0:a0.tmps.size=61:=by rw[<-ha0];simp[hnt]
 have e0:a0.tmps.getD 0 undef=sv:=by rw[<-ha0];simp[Array.getD]
 have hd0:a0.defers=[]:=by rw[<-ha0]
 clear ha0
 refine wpIn_seq (wpIn_region_list ?_)
 rw[hR0]
 refine bF (cT ?_)
 generalize ha1:Act.put _ (some 2) _=a1
 have hsz1:a1.tmps.size=61:=by rw[<-ha1];simp only[ak,hsz0]
 have e1:a1.tmps.getD 0 undef=sv:=by rw[<-ha1];simp only[aq,hsz0,e0,reduceIte,Nat.reduceLT,Nat.reduceEqDiff]
 have hd1:a1.defers=[]:=by rw[<-ha1];simp only[aI,hd0]
 clear ha1
 simp only[Exit.then]
 have ARL:∀ c:Cx,c.w=W0->c.S=S0->AR c (.d (.sl e) (.sl L)) sv:=fun c h1 h2=>.inl ⟨by simp only[af];exact hne,⟨L,rfl,hwt⟩,by rw[h1,h2];exact hsv⟩
 refine wpIn_seq (wpIn_seq (fM hE (lk:=[0]) (f:=fun i=>if i=0 then .d (.sl e) (.sl L) else .undef) hsz1 hd1 hSb0 (fun t ht=>?_) (fun t ht=>by rw[if_neg (by omega)]) hv1 fun a2 os2 d2 hd2 z1 z2 z3 z4=>?_))
 ·by_cases h5:t=0
  ·subst h5;rw[if_pos rfl,e1];exact ARL _ rfl rfl
  ·rw[if_neg h5];simp only[AR]
 have t8:a2.tmps.getD 8 undef=.bool (decide ((L.length:Int)<2)):=z4 0 8 .bool _ rfl rfl rfl
 have e2:a2.tmps.getD 0 undef=sv:=(z3 0 (by simp)).trans e1
 simp only[tu,Exit.then]
 by_cases h2:L.length<2
 ·
  refine wpIn_cond_true (t8.trans (by rw[decide_eq_true (by omega)])) (wpIn_seq (wpIn_region_list ?_))
  rw[hR2]
  refine cb (bF (cT (wpIn_ret ⟨by simp only[aI,z2],sv,(results_tmp hres _ _ _).trans ?_,sv,rfl,S0,eY hX hd2,?_,fun b o hb=>?_,hSo0⟩)))
  ·simp only[aw,aq,ak,z1,e2,reduceIte,Nat.reduceLT,Nat.reduceEqDiff]
  ·rw[qc h2];exact hsv.mono (fun b o hb=>cS (hSb0 b o hb)) fun _ _ h=>h
  ·exact Nat.lt_of_lt_of_le (hSb0 b o hb) (by simp[ao])
 obtain⟨b,off,cap,rfl,hHL0,hbo⟩:=hown (by omega)
 have hcap:L.length<=cap:=by
  have hq:CR W0 S0 (.sl L) (.slice (some ⟨b,off,none⟩) L.length cap):=hsv.2.2 0 _ _ rfl rfl
  obtain⟨_,_,_,_,q1,_,q2,_⟩:=hq.elems
  cases q1;exact q2
 refine wpIn_cond_false (t8.trans (by rw[decide_eq_false (by omega)])) (wpIn_skip ?_)
 simp only[Exit.then]
 refine wpIn_seq (wpIn_seq (wpIn_region_list ?_))
 rw[hR3]
 refine bF (cT ?_)
 generalize ha3:Act.put _ (some 3) _=a3
 have hsz3:a3.tmps.size=61:=by rw[<-ha3];simp only[ak,z1]
 have e3:a3.tmps.getD 0 undef=.slice (some ⟨b,off,none⟩) L.length cap:=by rw[<-ha3];simp only[aq,z1,e2,reduceIte,Nat.reduceLT,Nat.reduceEqDiff]
 have k3:a3.tmps.getD 3 undef=.int .i64 (1:Nat):=by rw[<-ha3];simp only[aq,z1,reduceIte,Nat.reduceLT];rfl
 have hd3:a3.defers=[]:=by rw[<-ha3];simp only[aI,z2]
 clear ha3 t8 z1 z2 z3 z4
 simp only[Exit.then]
 refine wpIn_block ?_
 have hX3:=eY (os:=os2) hX hd2
 have hH3:=hHL0.grow os2 d2
 generalize ao W0 os2 d2=W3 at hX3 hH3 ⊢
 refine iO (m:=L.length) (fun m a W=>∃ k,1<=k/\m+k=L.length+1/\k<=L.length/\ip (L.take k)=L.take k/\HL e W b off L/\cY r W/\a.tmps.size=61/\a.defers=[]/\a.tmps.getD 0 undef=.slice (some ⟨b,off,none⟩) L.length cap/\a.tmps.getD 3 undef=.int .i64 (k:Nat))
  ⟨1,Nat.le_refl _,rfl,by omega,qc (by rw[List.length_take];omega),hH3,hX3,hsz3,hd3,e3,k3⟩ ?_
 clear hH3 hX3 hsz3 hd3 e3 k3
 rintro m a W ⟨k,c1,c2,c3,c4,hH,hXW,c5,c6,c7,c8⟩
 have ARf1:∀ (a:Act) (W:World),HL e W b off L->a.tmps.getD 0 undef=.slice (some ⟨b,off,none⟩) L.length cap->a.tmps.getD 3 undef=.int .i64 (k:Nat)->∀ t,t<61->AR ⟨W,fun b' _=>b'=b,fun _=>none,fun _=>none,fun _=>none,[]⟩ (DJ e L k t) (a.tmps.getD t undef):=fun a W hH c7 c8 t ht=>by
  unfold DJ
  by_cases h5:t=0
  ·subst h5;rw[if_pos rfl,c7]
   refine .inl ⟨by simp only[af];exact hne,⟨L,rfl,hwt⟩,jr ?_⟩
   have:=hH.crl hce hne hwt (j:=0) (m:=L.length) (cap:=cap) (by omega) (by omega) hcap
   simpa using this
  ·rw[if_neg h5]
   by_cases h6:t=3
   ·subst h6;rw[if_pos rfl,c8];exact xQ _ _
   ·rw[if_neg h6];simp only[AR]
 have f1u:∀ t,61<=t->DJ e L k t=.undef:=fun t ht=>by unfold DJ;rw[if_neg (by omega),if_neg (by omega)]
 refine wpIn_seq (wpIn_seq (fM hE c5 c6 (S:=fun b' _=>b'=b) (fun b' _ hb=>by rw[hb];exact hH.lt) (ARf1 a W hH c7 c8) f1u (hv4 k) fun a4 os4 d4 hd4 z1 z2 z3 z4=>?_))
 have t13:a4.tmps.getD 13 undef=.bool (decide ((k:Int)<(L.length:Nat))):=z4 0 13 .bool _ rfl rfl rfl
 have e4:=(z3 0 (by simp)).trans c7
 have k4:=(z3 3 (by simp)).trans c8
 have hH4:=hH.grow os4 d4
 have hX4:=eY (os:=os4) hXW hd4
 generalize ao W os4 d4=W4 at hH4 hX4 ⊢
 clear z3 z4
 simp only[Exit.then]
 by_cases hk:k<L.length
 rotate_left
 ·
  have hkl:k=L.length:=by omega
  subst hkl
  refine wpIn_cond_false (t13.trans (by rw[decide_eq_false (by omega)])) (wpIn_exit ?_)
  simp only[Exit.then,Exit.inBlock,if_true]
  refine wpIn_seq (wpIn_region_list ?_)
  rw[hR16]
  refine cb (bF (cT (wpIn_ret ⟨by simp only[aI,z2],.slice (some ⟨b,off,none⟩) L.length cap,(results_tmp hres _ _ _).trans ?_,_,rfl,fun b' _=>b'=b,hX4,?_,fun b' _ hb=>by rw[hb];exact hH4.lt,fun b' _ hb ho=>absurd ho (hb ▸ hbo)⟩)))
  ·simp only[aw,aq,ak,z1,e4,reduceIte,Nat.reduceLT,Nat.reduceEqDiff]
  ·rw[List.take_of_length_le (Nat.le_refl _)] at c4
   rw[c4]
   refine jr ?_
   have:=hH4.crl hce hne hwt (j:=0) (m:=L.length) (cap:=cap) (by omega) (by omega) hcap
   simpa using this
 refine wpIn_cond_true (t13.trans (by rw[decide_eq_true (by omega)])) (wpIn_skip ?_)
 simp only[Exit.then]
 obtain⟨j,rfl⟩:∃ j,k=j+1:=⟨k-1,by omega⟩
 obtain⟨x,hx⟩:∃ x,L[j]?=some x:=⟨_,List.getElem?_eq_getElem (by omega)⟩
 obtain⟨y,hy⟩:∃ y,L[j+1]?=some y:=⟨_,List.getElem?_eq_getElem hk⟩
 refine wpIn_seq (wpIn_block (wpIn_seq (fM hE z1 z2 (S:=fun b' _=>b'=b) (fun b' _ hb=>by rw[hb];exact hH4.lt) (ARf1 a4 W4 hH4 e4 k4) f1u (hv6 j x y (by omega) hx hy) fun a5 os5 d5 hd5 u1 u2 u3 u4=>?_)))
 have t25:a5.tmps.getD 25 undef=.bool (y.beq x):=u4 0 25 .bool _ rfl rfl rfl
 have e5:=(u3 0 (by simp)).trans e4
 have k5:=(u3 3 (by simp)).trans k4
 have hH5:=hH4.grow os5 d5
 have hX5:=eY (os:=os5) hX4 hd5
 generalize ao W4 os5 d5=W5 at hH5 hX5 ⊢
 have hded:=wD hx hy
 clear z1 z2 u3 u4
 simp only[Exit.then]
 have st:∀ n:Nat,n<9223372036854775806->IntKind.wrap .i64 ((n:Int)+1)=((n+1:Nat):Int):=fun n hn=>by
  rw[show((n:Int)+1)=((n+1:Nat):Int) by omega];exact lh (by omega) (by omega)
 have AR2:∀ (a:Act) (W:World) (t k:Nat),a.tmps.getD t undef=.int .i64 (k:Nat)->∀ u,u<61->AR ⟨W,fun _ _=>False,fun _=>none,fun _=>none,fun _=>none,[]⟩ (Df t k u) (a.tmps.getD u undef):=fun a W t k h u hu=>by
  unfold Df
  by_cases h5:u=t
  ·subst h5;rw[if_pos rfl,h];exact xQ _ _
  ·rw[if_neg h5];simp only[AR]
 have f2u:∀ t k:Nat,t<61->∀ u,61<=u->Df t k u=.undef:=fun t k ht u hu=>by unfold Df;rw[if_neg (by omega)]
 by_cases hxy:y.beq x=true
 rotate_left
 ·
  have hxy':y.beq x=false:=by simpa using hxy
  refine wpIn_cond_false (t25.trans (by rw[hxy'])) (wpIn_skip ?_)
  simp only[Exit.inBlock,Exit.then]
  refine fM hE u1 u2 (S:=fun _ _=>False) (fun _ _ hb=>hb.elim) (AR2 a5 W5 3 (j+1) k5) (f2u 3 (j+1) (by decide)) (hv5 (j+1)) fun a6 os6 d6 hd6 q1 q2 q3 q4=>?_
  have t3:a6.tmps.getD 3 undef=.int .i64 (IntKind.wrap .i64 (((j+1:Nat):Int)+1)):=q4 0 3 (.int .i64) _ rfl rfl rfl
  refine⟨m-1,by omega,j+2,by omega,by omega,by omega,?_,hH5.grow os6 d6,eY hX5 hd6,q1,q2,(q3 0 (by simp)).trans e5,by rw[t3,st (j+1) (by omega)]⟩
  rw[hded,if_neg hxy,c4]
  have htk:L.take (j+1+1)=L.take (j+1)++L[j+1]?.toList:=List.take_add_one
  rw[hy] at htk
  exact htk.symm
 rw[if_pos hxy,c4] at hded
 refine wpIn_cond_true (t25.trans (by rw[hxy])) (wpIn_seq (wpIn_region_list ?_))
 rw[hR7]
 refine cb (cb (pE hls (A:=some ⟨b,off,none⟩) (len:=L.length) (cap:=cap) (lo:=j+1) (hi:=L.length) ?_ (by omega) (Nat.le_refl _) hcap (.inr ⟨_,rfl,?_⟩) (.inl ⟨rfl,rfl⟩) (bF (cT ?_))))
 ·simp only[aw,aq,ak,u1,e5,reduceIte,Nat.reduceLT,Nat.reduceEqDiff]
 ·simp only[aw,aq,ak,u1,k5,reduceIte,Nat.reduceLT,Nat.reduceEqDiff]
 obtain⟨s2v,hs2⟩:∃ s2v:Value,s2v=.slice (some ⟨b,off+(j+1)*e.size,none⟩) (L.length-(j+1)) (cap-(j+1)):=⟨_,rfl⟩
 have hsl:(if cap=j+1 then some (⟨b,off,none⟩:Addr) else Option.map (fun z:Addr=>z.add ((j+1)*e.size)) (some ⟨b,off,none⟩))=some ⟨b,off+(j+1)*e.size,none⟩:=by
  rw[if_neg (by omega),Option.map_some,bN]
 rw[hsl,<-hs2]
 generalize ha6:Act.put _ (some 4) _=a6
 have hsz6:a6.tmps.size=61:=by rw[<-ha6];simp only[ak,u1]
 have e6:a6.tmps.getD 0 undef=.slice (some ⟨b,off,none⟩) L.length cap:=by rw[<-ha6];simp only[aw,aq,ak,u1,e5,reduceIte,Nat.reduceLT,Nat.reduceEqDiff]
 have k6:a6.tmps.getD 3 undef=.int .i64 ((j+1:Nat):Int):=by rw[<-ha6];simp only[aw,aq,ak,u1,k5,reduceIte,Nat.reduceLT,Nat.reduceEqDiff]
 have v6:a6.tmps.getD 4 undef=s2v:=by rw[<-ha6];simp only[aw,aq,ak,u1,reduceIte,Nat.reduceLT,Nat.reduceEqDiff]
 have hd6:a6.defers=[]:=by rw[<-ha6];simp only[aI,u2]
 clear ha6 hsl
 simp only[Exit.then]
 refine wpIn_seq (wpIn_seq (wpIn_region_list ?_))
 rw[hR8]
 refine bF (cT ?_)
 generalize ha7:Act.put _ (some 5) _=a7
 have hsz7:a7.tmps.size=61:=by rw[<-ha7];simp only[ak,hsz6]
 have e7:a7.tmps.getD 0 undef=.slice (some ⟨b,off,none⟩) L.length cap:=by rw[<-ha7];simp only[aq,hsz6,e6,reduceIte,Nat.reduceLT,Nat.reduceEqDiff]
 have k7:a7.tmps.getD 3 undef=.int .i64 ((j+1:Nat):Int):=by rw[<-ha7];simp only[aq,hsz6,k6,reduceIte,Nat.reduceLT,Nat.reduceEqDiff]
 have v7:a7.tmps.getD 4 undef=s2v:=by rw[<-ha7];simp only[aq,hsz6,v6,reduceIte,Nat.reduceLT,Nat.reduceEqDiff]
 have n7:a7.tmps.getD 5 undef=.int .i64 ((1:Nat):Int):=by rw[<-ha7];simp only[aq,hsz6,reduceIte,Nat.reduceLT];rfl
 have hd7:a7.defers=[]:=by rw[<-ha7];simp only[aI,hd6]
 clear ha7
 simp only[Exit.then]
 refine wpIn_block ?_
 obtain⟨J2,hJ2⟩:∃ J2:Nat->Act->World->Prop,J2=fun m a W=>∃ (k2 k':Nat) (M:List D),1<=k2/\m+(j+1+k2)=L.length/\k'+1<=j+1+k2/\j+1<=k'/\HL e W b off M/\cY r W/\a.tmps.size=61/\a.defers=[]/\a.tmps.getD 0 undef=.slice (some ⟨b,off,none⟩) L.length cap/\a.tmps.getD 3 undef=.int .i64 (k':Nat)/\a.tmps.getD 4 undef=s2v/\a.tmps.getD 5 undef=.int .i64 (k2:Nat) ∧
  M.length=L.length/\(∀ z∈M,wt e z)/\M.drop (j+k2)=L.drop (j+k2)/\M.take k'=ip (L.take (j+1+k2)):=⟨_,rfl⟩
 refine iO (m:=L.length-(j+2)) J2 (by rw[hJ2];exact
  ⟨1,j+1,L,Nat.le_refl _,by omega,by omega,Nat.le_refl _,hH5,hX5,hsz7,hd7,e7,k7,v7,n7,rfl,hwt,rfl,hded.symm⟩) ?_
 clear hH5 hX5 hsz7 hd7 e7 k7 v7 n7 hsz6 e6 k6 v6 hd6 hH4 hX4 t25 u1 u2 e5 k5 t13 e4 k4
 intro m2 a W hj2
 rw[hJ2] at hj2
 obtain⟨k2,k',M,g1,g2,g3,g4,hH,hXW,s1,s2,s3,s4,s5,s6,hMl,hMw,hMd,hMt⟩:=hj2
 have hkn:k'<L.length:=by omega
 have hNl:(M.drop (j+1)).length=L.length-(j+1):=by rw[List.length_drop,hMl]
 have AR4:∀ (a:Act) (W:World),HL e W b off M->a.tmps.getD 4 undef=s2v->a.tmps.getD 5 undef=.int .i64 (k2:Nat)->∀ t,t<61->AR ⟨W,fun b' _=>b'=b,fun _=>none,fun _=>none,fun _=>none,[]⟩ (EL e (M.drop (j+1)) k2 t) (a.tmps.getD t undef):=fun a W hH c7 c8 t ht=>by
  unfold EL
  by_cases h5:t=4
  ·subst h5;rw[if_pos rfl,c7,hs2]
   exact .inl ⟨by simp only[af];exact hne,⟨_,rfl,fun z hz=>hMw z (List.mem_of_mem_drop hz)⟩,jr (hH.crl hce hne hMw (j:=j+1) (m:=L.length-(j+1)) (cap:=cap-(j+1)) (by omega) (by omega) (by omega))⟩
  ·rw[if_neg h5]
   by_cases h6:t=5
   ·subst h6;rw[if_pos rfl,c8];exact xQ _ _
   ·rw[if_neg h6];simp only[AR]
 have f4u:∀ t,61<=t->EL e (M.drop (j+1)) k2 t=.undef:=fun t ht=>by unfold EL;rw[if_neg (by omega),if_neg (by omega)]
 refine wpIn_seq (wpIn_seq (fM hE s1 s2 (S:=fun b' _=>b'=b) (fun b' _ hb=>by rw[hb];exact hH.lt) (AR4 a W hH s5 s6) f4u (hv9 (M.drop (j+1)) k2) fun a8 os8 d8 hd8 z1 z2 z3 z4=>?_))
 have t32:a8.tmps.getD 32 undef=.bool (decide ((k2:Int)<((M.drop (j+1)).length:Nat))):=z4 0 32 .bool _ rfl rfl rfl
 rw[hNl] at t32
 have e8:=(z3 0 (by simp)).trans s3
 have k8:=(z3 3 (by simp)).trans s4
 have v8:=(z3 4 (by simp)).trans s5
 have n8:=(z3 5 (by simp)).trans s6
 have hH8:=hH.grow os8 d8
 have hX8:=eY (os:=os8) hXW hd8
 generalize ao W os8 d8=W8 at hH8 hX8 ⊢
 clear z3 z4 hH hXW s1 s2 s3 s4 s5 s6
 simp only[Exit.then]
 by_cases hk2:j+1+k2<L.length
 rotate_left
 ·
  have hend:j+1+k2=L.length:=by omega
  rw[hend,List.take_of_length_le (Nat.le_refl _)] at hMt
  refine wpIn_cond_false (t32.trans (by rw[decide_eq_false (by omega)])) (wpIn_exit ?_)
  simp only[Exit.then,Exit.inBlock,if_true]
  refine wpIn_seq (wpIn_region_list ?_)
  rw[hR14]
  obtain⟨⟨row,hr1,hr2⟩,_⟩:=hH8
  have hmul:(k'+(L.length-k'))*e.size=M.length*e.size:=by rw[hMl];congr 1;omega
  rw[Nat.add_mul] at hmul
  have hsl:(if cap=k' then some (⟨b,off,none⟩:Addr) else Option.map (fun z:Addr=>z.add (k'*e.size)) (some ⟨b,off,none⟩))=some ⟨b,off+k'*e.size,none⟩:=by
   rw[if_neg (by omega),Option.map_some,bN]
  refine cb (cb (pE hls (A:=some ⟨b,off,none⟩) (len:=L.length) (cap:=cap) (lo:=k') (hi:=L.length) ?_ (by omega) (Nat.le_refl _) hcap (.inr ⟨_,rfl,?_⟩) (.inl ⟨rfl,rfl⟩) (Bm hls hp (b:=b) (off:=off+k'*e.size) (m:=L.length-k') (cap:=cap-k') (row:=row) ?_ hr1 (by omega) (by omega) fun cs hcs v=>cT ?_)))
  ·simp only[aw,aq,ak,z1,e8,reduceIte,Nat.reduceLT,Nat.reduceEqDiff]
  ·simp only[aw,aq,ak,z1,k8,reduceIte,Nat.reduceLT,Nat.reduceEqDiff]
  ·rw[hsl];simp only[aw,aq,ak,z1,reduceIte,Nat.reduceLT]
  have hput:∀ a:Act,a.put none v=a:=fun _=>rfl
  rw[hput]
  generalize ha9:Act.put _ (some 56) _=a9
  have hsz9:a9.tmps.size=61:=by rw[<-ha9];simp only[ak,z1]
  have e9:a9.tmps.getD 0 undef=.slice (some ⟨b,off,none⟩) L.length cap:=by rw[<-ha9];simp only[aw,aq,ak,z1,e8,reduceIte,Nat.reduceLT,Nat.reduceEqDiff]
  have k9:a9.tmps.getD 3 undef=.int .i64 (k':Nat):=by rw[<-ha9];simp only[aw,aq,ak,z1,k8,reduceIte,Nat.reduceLT,Nat.reduceEqDiff]
  have hd9:a9.defers=[]:=by rw[<-ha9];simp only[aI,z2]
  clear ha9 hsl
  simp only[Exit.then]
  have hsz:off+k'*e.size+cs.size<=row.size:=by rw[hcs];omega
  have hlk:(M.take k').length=k':=by rw[List.length_take];omega
  have hH9:HL e (aX W8 b (off+k'*e.size) cs) b off (M.take k'):=HL.take hne ⟨⟨row,hr1,hr2⟩,by assumption⟩ hMw ⟨_,dJ hr1,by
   have:(cC row (off+k'*e.size) cs).size=row.size:=by
    simp only[cC,Array.size_append,Array.size_extract];omega
   rw[this,hlk];omega⟩ fun o ho=>iD hr1 hsz ho
  have hX9:cY r (aX W8 b (off+k'*e.size) cs):=yt hX8 hbo
  generalize aX W8 b (off+k'*e.size) cs=W9 at hH9 hX9 ⊢
  refine wpIn_seq (wpIn_region_list ?_)
  rw[hR15]
  refine cb (cb (pE hls (A:=some ⟨b,off,none⟩) (len:=L.length) (cap:=cap) (lo:=0) (hi:=k') ?_ (Nat.zero_le _) (by omega) hcap (.inl ⟨rfl,rfl⟩) (.inr ⟨_,rfl,?_⟩) (bF (cT (wpIn_ret ⟨by simp only[aI,hd9],.slice (some ⟨b,off,none⟩) k' cap,(results_tmp hres _ _ _).trans ?_,_,rfl,fun b' _=>b'=b,hX9,?_,fun b' _ hb=>by rw[hb];exact hH9.lt,fun b' _ hb ho=>absurd ho (hb ▸ hbo)⟩)))))
  ·simp only[aw,aq,ak,hsz9,e9,reduceIte,Nat.reduceLT,Nat.reduceEqDiff]
  ·simp only[aw,aq,ak,hsz9,k9,reduceIte,Nat.reduceLT,Nat.reduceEqDiff]
  ·have hsl:(if cap=0 then some (⟨b,off,none⟩:Addr) else Option.map (fun z:Addr=>z.add (0*e.size)) (some ⟨b,off,none⟩))=some ⟨b,off,none⟩:=by
    rw[if_neg (by omega),Option.map_some,bN,Nat.zero_mul,Nat.add_zero]
   rw[hsl]
   simp only[aw,aq,ak,hsz9,reduceIte,Nat.reduceLT,Nat.sub_zero]
  ·rw[<-hMt]
   refine jr ?_
   have:=hH9.crl hce hne (fun z hz=>hMw z (List.mem_of_mem_take hz)) (j:=0) (m:=k') (cap:=cap) (by omega) (by omega) (by omega)
   simpa using this
 refine wpIn_cond_true (t32.trans (by rw[decide_eq_true (by omega)])) (wpIn_skip ?_)
 simp only[Exit.then]
 obtain⟨i,rfl⟩:∃ i,k2=i+1:=⟨k2-1,by omega⟩
 obtain⟨x2,hx2⟩:∃ x2,L[j+(i+1)]?=some x2:=⟨_,List.getElem?_eq_getElem (by omega)⟩
 obtain⟨w2,hw2⟩:∃ w2,L[j+(i+1)+1]?=some w2:=⟨_,List.getElem?_eq_getElem (by omega)⟩
 have hMx:M[j+(i+1)]?=some x2:=by
  have:=congrArg (fun l=>l[0]?) hMd
  simp only[List.getElem?_drop,Nat.add_zero] at this
  exact this.trans hx2
 have hMy:M[j+(i+1)+1]?=some w2:=by
  have:=congrArg (fun l=>l[1]?) hMd
  simp only[List.getElem?_drop] at this
  exact this.trans hw2
 have hded2:=wD hx2 hw2
 have hw2w:wt e w2:=hMw w2 (List.mem_of_getElem? hMy)
 refine wpIn_seq (wpIn_block (wpIn_seq (fM hE z1 z2 (S:=fun b' _=>b'=b) (fun b' _ hb=>by rw[hb];exact hH8.lt) (AR4 a8 W8 hH8 v8 n8) f4u (hv11 (M.drop (j+1)) i x2 w2 (by omega) (by rw[List.getElem?_drop,show j+1+i=j+(i+1) by omega];exact hMx) (by rw[List.getElem?_drop,show j+1+(i+1)=j+(i+1)+1 by omega];exact hMy)) fun a10 os10 d10 hd10 u1 u2 u3 u4=>?_)))
 have t44:a10.tmps.getD 44 undef=.bool (!(w2.beq x2)):=u4 0 44 .bool _ rfl rfl rfl
 have e10:=(u3 0 (by simp)).trans e8
 have k10:=(u3 3 (by simp)).trans k8
 have v10:=(u3 4 (by simp)).trans v8
 have n10:=(u3 5 (by simp)).trans n8
 have hH10:=hH8.grow os10 d10
 have hX10:=eY (os:=os10) hX8 hd10
 generalize ao W8 os10 d10=W10 at hH10 hX10 ⊢
 clear z1 z2 u3 u4 hH8 hX8 e8 k8 v8 n8 t32
 simp only[Exit.then]
 have tail:∀ (a:Act) (W:World) (k'':Nat) (M':List D) (Q:Exit->Act->World->Prop),k''+1<=j+1+(i+2)->j+1<=k''->HL e W b off M'->cY r W->a.tmps.size=61->a.defers=[]->a.tmps.getD 0 undef=.slice (some ⟨b,off,none⟩) L.length cap->a.tmps.getD 3 undef=.int .i64 (k'':Nat)->a.tmps.getD 4 undef=s2v->a.tmps.getD 5 undef=.int .i64 ((i+1:Nat):Int) ->
   M'.length=L.length->(∀ z∈M',wt e z)->M'.drop (j+(i+2))=L.drop (j+(i+2))->M'.take k''=ip (L.take (j+(i+1)+2))->(∀ a' w',(∃ m',m'<m2/\J2 m' a' w')->Q .normal a' w')->(Code.region i10 R10 false).wpIn (FW none) 0 P Q a W:=by
  intro a W k'' M' Q r1 r2 r3 r4 r5 r6 r7 r8 r9 r10 r11 r12 r13 r14 hQ
  refine fM hE r5 r6 (S:=fun _ _=>False) (fun _ _ hb=>hb.elim) (AR2 a W 5 (i+1) r10) (f2u 5 (i+1) (by decide)) (hv10 (i+1)) fun a6 os6 d6 hd6 q1 q2 q3 q4=>hQ _ _ ?_
  have t5:a6.tmps.getD 5 undef=.int .i64 (IntKind.wrap .i64 (((i+1:Nat):Int)+1)):=q4 0 5 (.int .i64) _ rfl rfl rfl
  rw[hJ2]
  refine⟨m2-1,by omega,i+2,k'',M',by omega,by omega,by omega,r2,r3.grow os6 d6,eY r4 hd6,q1,q2,(q3 0 (by simp)).trans r7,(q3 3 (by simp)).trans r8,(q3 4 (by simp)).trans r9,by rw[t5,st (i+1) (by omega)],r11,r12,r13,?_⟩
  rw[r14];congr 2;omega
 have hdrop:∀ M':List D,M'.drop (j+(i+1))=L.drop (j+(i+1))->M'.drop (j+(i+2))=L.drop (j+(i+2)):=fun M' h=>by
  have:=congrArg (List.drop 1) h
  rw[List.drop_drop,List.drop_drop] at this
  rw[show j+(i+2)=j+(i+1)+1 by omega]
  exact this
 by_cases hww:w2.beq x2=true
 ·
  refine wpIn_cond_false (t44.trans (by rw[hww];rfl)) (wpIn_skip ?_)
  simp only[Exit.inBlock,Exit.then]
  rw[if_pos hww] at hded2
  refine tail a10 W10 k' M _ (by omega) g4 hH10 hX10 u1 u2 e10 k10 v10 n10 hMl hMw (hdrop M hMd) ?_ fun a' w' h=>h
  rw[hMt,hded2];congr 2;omega
 have hww':w2.beq x2=false:=by simpa using hww
 rw[if_neg hww] at hded2
 refine wpIn_cond_true (t44.trans (by rw[hww'];rfl)) (wpIn_seq (wpIn_region_list ?_))
 rw[hR12]
 obtain⟨row,hr1,hr2⟩:=hH10.1
 have hwl:(w2.flat.map aW).length=e.size:=by rw[List.length_map];exact bo e w2 hw2w hne
 have hkm:k'*e.size+e.size<=M.length*e.size:=by
  have:(k'+1)*e.size<=M.length*e.size:=Nat.mul_le_mul_right _ (by omega)
  rwa [Nat.add_mul,Nat.one_mul] at this
 have hpos:off+(j+1)*e.size+(i+1)*e.size=off+(j+(i+1)+1)*e.size:=by
  rw[Nat.add_assoc,<-Nat.add_mul];congr 2;omega
 refine cb (cb (cb (cb (vW hls (b:=b) (off:=off+(j+1)*e.size) (len:=L.length-(j+1)) (cap:=cap-(j+1)) (k:=i+1) ?_ ?_ (by omega) (EC hle (b:=b) (off:=off+(j+1)*e.size+(i+1)*e.size) (cs:=w2.flat.map aW) ?_ hwl (uZ hce hw2w) ?_ fun v hv=>
  vW hls (b:=b) (off:=off) (len:=L.length) (cap:=cap) (k:=k') ?_ ?_ hkn (CI hle (b:=b) (off:=off+k'*e.size) (c:=row) (v:=v) (cs:=w2.flat.map aW) ?_ ?_ hr1 hv hwl (uZ hce hw2w) (by rw[hwl];omega) (cT ?_)))))))
 ·simp only[aw,aq,ak,u1,v10,hs2,reduceIte,Nat.reduceLT,Nat.reduceEqDiff]
 ·simp only[aw,aq,ak,u1,n10,reduceIte,Nat.reduceLT,Nat.reduceEqDiff]
 ·simp only[aw,aq,ak,u1,reduceIte,Nat.reduceLT]
 ·intro i' c' hc'
  rw[hpos]
  exact hH10.elem hne hp hMw hMy i' c' hc'
 ·simp only[aw,aq,ak,u1,e10,reduceIte,Nat.reduceLT,Nat.reduceEqDiff]
 ·simp only[aw,aq,ak,u1,k10,reduceIte,Nat.reduceLT,Nat.reduceEqDiff]
 ·simp only[aw,aq,ak,u1,reduceIte,Nat.reduceLT]
 ·simp only[aw,aq,ak,u1,reduceIte,Nat.reduceLT,Nat.reduceEqDiff]
 generalize ha11:Act.put _ (some 51) _=a11
 have hsz11:a11.tmps.size=61:=by rw[<-ha11];simp only[ak,u1]
 have e11:a11.tmps.getD 0 undef=.slice (some ⟨b,off,none⟩) L.length cap:=by rw[<-ha11];simp only[aw,aq,ak,u1,e10,reduceIte,Nat.reduceLT,Nat.reduceEqDiff]
 have k11:a11.tmps.getD 3 undef=.int .i64 (k':Nat):=by rw[<-ha11];simp only[aw,aq,ak,u1,k10,reduceIte,Nat.reduceLT,Nat.reduceEqDiff]
 have v11:a11.tmps.getD 4 undef=s2v:=by rw[<-ha11];simp only[aw,aq,ak,u1,v10,reduceIte,Nat.reduceLT,Nat.reduceEqDiff]
 have n11:a11.tmps.getD 5 undef=.int .i64 ((i+1:Nat):Int):=by rw[<-ha11];simp only[aw,aq,ak,u1,n10,reduceIte,Nat.reduceLT,Nat.reduceEqDiff]
 have hd11:a11.defers=[]:=by rw[<-ha11];simp only[aI,u2]
 clear ha11
 have hH11:=hH10.set hne hMw (k:=k') (by omega) hp hw2w
 have hX11:cY r (aX W10 b (off+k'*e.size) (w2.flat.map aW).toArray):=yt hX10 hbo
 generalize aX W10 b (off+k'*e.size) (w2.flat.map aW).toArray=W11 at hH11 hX11 ⊢
 simp only[Exit.then]
 refine fM hE hsz11 hd11 (S:=fun _ _=>False) (fun _ _ hb=>hb.elim) (AR2 a11 W11 3 k' k11) (f2u 3 k' (by decide)) (hv13 k') fun a12 os12 d12 hd12 q1 q2 q3 q4=>?_
 have t3:a12.tmps.getD 3 undef=.int .i64 (IntKind.wrap .i64 ((k':Int)+1)):=q4 0 3 (.int .i64) _ rfl rfl rfl
 simp only[Exit.inBlock,Exit.then]
 refine tail a12 _ (k'+1) (M.set k' w2) _ (by omega) (by omega) (hH11.grow os12 d12) (eY hX11 hd12) q1 q2 ((q3 0 (by simp)).trans e11) (by rw[t3,st k' (by omega)]) ((q3 4 (by simp)).trans v11) ((q3 5 (by simp)).trans n11) (by rw[List.length_set];exact hMl) (fun z hz=>?_) ?_ ?_ fun a' w' h=>h
 ·rcases List.mem_or_eq_of_mem_set hz with hz|rfl
  ·exact hMw z hz
  ·exact hw2w
 ·rw[List.drop_set_of_lt (by omega)];exact hdrop M hMd
 ·have htk:(M.set k' w2).take (k'+1)=(M.set k' w2).take k'++(M.set k' w2)[k']?.toList:=List.take_add_one
  rw[htk,List.take_set_of_le (Nat.le_refl k'),hMt,List.getElem?_set_self (by omega),hded2]
  simp only[Option.toList_some]
  congr 3;omega
end
end Go.Proofs.YtjjjkojfijpeeaaGreat.Sy
end
section
set_option linter.unusedVariables false
namespace Go.Proofs.YtjjjkojfijpeeaaGreat.Sy
open Go Go.Proofs Go.Sort Go.Lib
section
variable{r:Root}{lp:Lp}{call:Nat->List D->Option D}
def FK:Code->Code|.cond _ a _=>a|c=>c
noncomputable def L8:Code:=mJ (jD Tryz.f95)
noncomputable def Kl:Code:=inLoop (mV (mJ (oV (mJ L8))))
noncomputable def KN:Code:=mV (oV (mJ Kl))
noncomputable def KV:Code:=inLoop (mV (mJ (oV (mJ (FK (mJ KN))))))
noncomputable def IC:Code:=mV (oV (mJ KV))
theorem GB{L:List D}:ev (fl lp call) (oV (oV L8)) .leaf D (dS 61 [0] (fun i=>if i=0 then .d (.sl K1) (.sl L) else .undef)) (kW [(8,.bool)])=some (.tup [.bool (decide ((L.length:Int)<2))]):=by kernel_rfl
theorem FX{L:List D}(k:Nat):ev (fl lp call) (oV (oV Kl)) .leaf D (dS 61 [0,3] (DJ K1 L k)) (kW [(13,.bool)])=some (.tup [.bool (decide ((k:Int)<(L.length:Nat)))]):=by kernel_rfl
theorem Ct{L:List D}{k:Nat}{x y:D}(hk:k<1073741824)(hx:L[k]?=some x)(hy:L[k+1]?=some y)(g:D->D->Option D):((D.idx (.int .i64 ((k+1:Nat):Int)) L.length).bind fun i=>(L[i]?).bind fun u=>(D.bin .sub (.int .i64 ((k+1:Nat):Int)) (.int .i64 1)).bind fun z=>(D.idx z L.length).bind fun j=>(L[j]?).bind fun v=>g u v)=g y x:=by
 have h1:k+1<L.length:=(List.getElem?_eq_some_iff.1 hy).1
 have e1:D.idx (.int .i64 ((k+1:Nat):Int)) L.length=some (k+1):=by
  simp only[D.idx];rw[if_pos (by omega)];simp
 have e2:D.bin .sub (.int .i64 ((k+1:Nat):Int)) (.int .i64 1)=some (.int .i64 (k:Nat)):=by
  simp only[D.bin,if_true]
  rw[show((k+1:Nat):Int)-1=(k:Nat) by omega,lh (by omega) (by omega)]
 have e3:D.idx (.int .i64 (k:Nat)) L.length=some k:=by
  simp only[D.idx];rw[if_pos (by omega)];simp
 rw[e1,Option.bind_some,hy,Option.bind_some,e2,Option.bind_some,e3,Option.bind_some,hx,Option.bind_some]
theorem Gw{L:List D}(k:Nat)(x y:D)(hk:k<1073741824)(hx:L[k]?=some x)(hy:L[k+1]?=some y):ev (fl lp call) (oV KN) (.reg [] 9) D (dS 61 [0,3] (DJ K1 L (k+1))) (kW [(25,.bool)])=some (.tup [.bool (y.beq x)]):=by
 have:ev (fl lp call) (oV KN) (.reg [] 9) D (dS 61 [0,3] (DJ K1 L (k+1))) (kW [(25,.bool)])=((D.idx (.int .i64 ((k+1:Nat):Int)) L.length).bind fun i=>(L[i]?).bind fun u=>(D.bin .sub (.int .i64 ((k+1:Nat):Int)) (.int .i64 1)).bind fun z=>(D.idx z L.length).bind fun j=>(L[j]?).bind fun v=>some (.tup [.bool (D.beq u v)])):=by kernel_rfl
 rw[this]
 exact Ct hk hx hy fun u v=>some (.tup [.bool (D.beq u v)])
theorem FZ(k:Nat):ev (fl lp call) (mJ (mJ Kl)) .leaf D (dS 61 [0] (Df 3 k)) (kW [(3,.int .i64)])=some (.tup [.int .i64 (IntKind.wrap .i64 ((k:Int)+1))]):=by kernel_rfl
theorem E1(k:Nat):ev (fl lp call) (mJ (FK (mJ IC))) .leaf D (dS 61 [0,4,5] (Df 3 k)) (kW [(3,.int .i64)])=some (.tup [.int .i64 (IntKind.wrap .i64 ((k:Int)+1))]):=by kernel_rfl
theorem DN(k:Nat):ev (fl lp call) (mJ (mJ KV)) .leaf D (dS 61 [0,3,4] (Df 5 k)) (kW [(5,.int .i64)])=some (.tup [.int .i64 (IntKind.wrap .i64 ((k:Int)+1))]):=by kernel_rfl
theorem GA(N:List D)(k:Nat):ev (fl lp call) (oV (oV KV)) .leaf D (dS 61 [0,3,4,5] (EL K1 N k)) (kW [(32,.bool)])=some (.tup [.bool (decide ((k:Int)<(N.length:Nat)))]):=by kernel_rfl
theorem DL(N:List D)(k:Nat)(x y:D)(hk:k<1073741824)(hx:N[k]?=some x)(hy:N[k+1]?=some y):ev (fl lp call) (oV IC) (.reg [] 9) D (dS 61 [0,3,4,5] (EL K1 N (k+1))) (kW [(44,.bool)])=some (.tup [.bool (!(y.beq x))]):=by
 have:ev (fl lp call) (oV IC) (.reg [] 9) D (dS 61 [0,3,4,5] (EL K1 N (k+1))) (kW [(44,.bool)])=((D.idx (.int .i64 ((k+1:Nat):Int)) N.length).bind fun i=>(N[i]?).bind fun u=>(D.bin .sub (.int .i64 ((k+1:Nat):Int)) (.int .i64 1)).bind fun z=>(D.idx z N.length).bind fun j=>(N[j]?).bind fun v=>some (.tup [.bool (!(D.beq u v))])):=by kernel_rfl
 rw[this]
 exact Ct hk hx hy fun u v=>some (.tup [.bool (!(D.beq u v))])
theorem AP(hE:EnvOk Tryz.prog (fl lp call)){L:List D}(hwt:∀ x∈L,wt K1 x)(hlen:L.length<=1073741824){W0:World}(hX:cY r W0){S0:Nat->Nat->Prop}(hSb0:∀ b o,S0 b o->b<W0.heap.size)(hSo0:∀ b o,S0 b o->r.Old b->r.S0 b o){sv:Value}(hsv:dY W0 S0 (.sl L) sv)(hown:2<=L.length->∃ b off cap,sv=.slice (some ⟨b,off,none⟩) L.length cap/\HL K1 W0 b off L/\¬ r.Old b) :
  Calls Tryz.prog 95 #[sv] W0 fun en W'=>∃ v,en=.returned v/\∃ S',cY r W'/\dY W' S' (.sl (ip L)) v/\(∀ b o,S' b o->b<W'.heap.size)/\(∀ b o,S' b o->r.Old b->r.S0 b o):=
 wj hE rfl rfl (by decide) hwt hlen (fn:=Tryz.f95) (by kernel_rfl) rfl rfl rfl (Ts:=22) (Te:=60) (by kernel_rfl) (by kernel_rfl) rfl rfl rfl rfl rfl rfl rfl rfl rfl GB FX Gw FZ E1 DN GA DL hX hSb0 hSo0 hsv hown
end
end Go.Proofs.YtjjjkojfijpeeaaGreat.Sy
end
section
set_option linter.unusedVariables false
namespace Go.Proofs.YtjjjkojfijpeeaaGreat.Sy
open Go Go.Proofs Go.Sort Go.Lib
def WS(E:Env)(g:Nat)(l:List D):Prop:=l.Pairwise fun x y=>jJ E g y x=false
section
variable{P:Program}{E:Env}
theorem AS{g:Nat}{k:List D}(hc:jn E g k=true):∀ {a b:List D},a.Perm b->WS E g a->WS E g b->(∀ x∈a,x∈k)->a=b:=by
 intro a
 induction a with
 | nil=>intro b hp _ _ _;exact hp.symm.eq_nil.symm ▸ rfl
 | cons x a ih=>
  intro b hp ha hb hm
  cases b with
  | nil=>exact absurd hp.eq_nil (by simp)
  | cons y b=>
   obtain⟨a1,a2⟩:=List.pairwise_cons.1 ha
   obtain⟨b1,b2⟩:=List.pairwise_cons.1 hb
   have e:x=y:=by
    rcases List.mem_cons.1 (hp.subset List.mem_cons_self) with e|m1
    ·exact e
    ·rcases List.mem_cons.1 (hp.symm.subset (List.mem_cons_self (a:=y))) with e|m2
     ·exact e.symm
     ·have h1:=b1 x m1
      have h2:=a1 y m2
      obtain⟨i,hi1,hi2⟩:=List.getElem_of_mem (hm x List.mem_cons_self)
      obtain⟨j,hj1,hj2⟩:=List.getElem_of_mem (hm y (List.mem_cons_of_mem _ m2))
      have ei:k[i]?=some x:=by rw[List.getElem?_eq_getElem hi1,hi2]
      have ej:k[j]?=some y:=by rw[List.getElem?_eq_getElem hj1,hj2]
      have q1:¬ i<j:=fun h=>by rw[(cJ hc ei ej).1.2 h] at h1;cases h1
      have q2:¬ j<i:=fun h=>by rw[(cJ hc ej ei).1.2 h] at h2;cases h2
      have:i=j:=by omega
      subst this
      rw[ei] at ej;cases ej;rfl
   subst e
   rw[ih ((List.perm_cons x).1 hp) a2 b2 (fun z hz=>hm z (List.mem_cons_of_mem _ hz))]
theorem xo(hE:EnvOk P E){f:Nat}{e:Ty}(hf:SortOk P f e){g:Nat}(hsig:E.sig g=some ([e,e],.int .i64)){l k:List D}(hwt:∀ x∈l,wt e x)(hchk:jn E g k=true)(hmem:∀ x∈l,x∈k)(hkm:∀ x∈k,x∈l)(hne:l≠[]){w:World}{b off cap:Nat}{row:Array Value}
  (hr:bk w b=some row) (hc:∀ (i:Nat) (d:D),(D.flats l)[i]?=some d->w.cell? ⟨b,off+i,none⟩=some (aW d)) (hlen:l.length<4611686018427387904) :
  Calls P f #[.slice (some ⟨b,off,none⟩) l.length cap,.func (.func g) #[] #[]] w fun en w'=>en=.returned (.tuple #[])/\∃ l',l'.Perm l/\WS E g l'/\(∃ row',bk w' b=some row'/\row'.size=row.size)/\w.drawn<=w'.drawn/\w'.tape=w.tape/\w'.os=w.os/\w'.output=w.output/\w.heap.size<=w'.heap.size ∧
   (∀ b',b'≠b->b'<w.heap.size->w'.heap[b']?=w.heap[b']?)/\∀ (i:Nat) (d:D),(D.flats l')[i]?=some d->w'.cell? ⟨b,off+i,none⟩=some (aW d):=by
 have hwt':∀ x∈k,wt e x:=fun x hx=>hwt x (hkm x hx)
 obtain⟨x0,hx0⟩:∃ x0,x0∈k:=by
  cases l with
  | nil=>exact absurd rfl hne
  | cons x l=>exact⟨x,hmem x List.mem_cons_self⟩
 have hinh:Inhabited {d:D // d∈k}:=⟨⟨x0,hx0⟩⟩
 have hfl:∀ x:{d:D // d∈k},x.1.flat.length=e.size:=fun x=>bo e x.1 (hwt' x.1 x.2) hf.nt
 have hleaf:∀ x:{d:D // d∈k},∀ d∈x.1.flat,gg d=true:=fun x=>eC e x.1 hf.cmp (hwt' x.1 x.2)
 obtain⟨d,hd⟩:∃ d:Array {d:D // d∈k},d.toList.map (·.1)=l:=⟨(l.pmap Subtype.mk hmem).toArray,by simp[List.map_pmap]⟩
 have hds:d.size=l.length:=by rw[<-hd];simp
 have hbs:b<w.heap.size:=by
  unfold bk at hr
  cases hb:w.heap[b]? with
  | none=>rw[hb] at hr;cases hr
  | some o=>exact(Array.getElem?_eq_some_iff.1 hb).1
 have hfro:∀ o,w.frozen? ⟨b,o,none⟩=false:=fun o=>by
  unfold bk at hr
  split at hr
  ·rename_i c t hb
   unfold World.frozen?
   simp[hb]
  ·cases hr
 have at_:∀ (dd:Array {d:D // d∈k}) (t:Nat),t<dd.size*e.size->(D.flats (dd.toList.map (·.1)))[t]?.map aW=some ((flatK (fun x:{d:D // d∈k}=>x.1.flat.map aW) e.size dd)[t]!):=fun dd t ht=>by
  rw[get_flatK _ _ _ _ ht,gn hf.pos _ (fun x hx=>by
   obtain⟨y,_,rfl⟩:=List.mem_map.1 hx
   exact hfl y)]
  have h1:t/e.size<dd.size:=(Nat.div_lt_iff_lt_mul hf.pos).2 ht
  have h2:t%e.size<e.size:=Nat.mod_lt _ hf.pos
  rw[List.getElem?_map,Array.getElem?_toList,Array.getElem?_eq_getElem h1,getElem!_pos dd _ h1]
  simp only[Option.map_some,Option.bind_some]
  have h3:t%e.size<(dd[t/e.size]).1.flat.length:=by rw[hfl];exact h2
  rw[List.getElem?_eq_getElem h3,getElem!_pos _ _ (by simpa using h3)]
  simp
 have hH:HoldsK (fun x:{d:D // d∈k}=>x.1.flat.map aW) e.size w b off d:=by
  intro j hj
  rw[size_flatK] at hj
  refine⟨?_,hfro _⟩
  have:=at_ d j hj
  rw[hd] at this
  cases hq:(D.flats l)[j]? with
  | none=>rw[hq] at this;cases this
  | some q=>
   rw[hq] at this
   simp only[Option.map_some,Option.some.injEq] at this
   rw[hc j q hq,this];rfl
 have hcmp:CmpLays P g #[] (fun x:{d:D // d∈k}=>x.1.flat.map aW) e.size (vz E g k) b off d.size w:=by
  intro m os dk _ x y
  obtain⟨i,hi1,hi2⟩:=List.getElem_of_mem x.2
  obtain⟨j,hj1,hj2⟩:=List.getElem_of_mem y.2
  obtain⟨_,n,hn⟩:=cJ hchk (i:=i) (j:=j) (x:=x.1) (y:=y.1) (by rw[List.getElem?_eq_getElem hi1,hi2]) (by rw[List.getElem?_eq_getElem hj1,hj2])
  have hcall:E.call g [x.1,y.1]=some (.int .i64 n):=by
   unfold oM at hn
   obtain⟨r,h1,h2⟩:=bind_some_inv hn
   rw[h1]
   split at h2
   ·cases h2;rfl
   ·cases h2
  have hcf:vz E g k x y=n:=by simp[vz,hn]
  rw[hcf]
  have shpa:∀ z:{d:D // d∈k},∀ (w:World) (S:Nat->Nat->Prop),dY w S z.1 (.agg (z.1.flat.map aW).toArray):=fun z w S=>by
   refine⟨?_,?_⟩
   ·have hz:=hwt' z.1 z.2
    have ha:=hf.agg
    cases e<;>simp only[cd] at ha<;>first|(cases ha;done)|skip
    ·simp only[wt] at hz;obtain⟨ll,h1,_⟩:=hz;rw[h1];exact⟨_,rfl⟩
    ·simp only[wt] at hz;obtain⟨ll,h1,_⟩:=hz;rw[h1];exact⟨_,rfl⟩
   ·exact(bj (hleaf z)).2 (by simp[Value.cells])
  have hw2:fN [e,e] [x.1,y.1]:=⟨x.1,[y.1],rfl,hwt' _ x.2,⟨y.1,[],rfl,hwt' _ y.2,rfl⟩⟩
  have hctr:=hE.call g [e,e] (.int .i64) [x.1,y.1] (.int .i64 n) hsig hcall hw2
   (sortWorldK (fun x:{d:D // d∈k}=>x.1.flat.map aW) e.size w b off m dk os) (fun _ _=>False) [.agg (x.1.flat.map aW).toArray,.agg (y.1.flat.map aW).toArray] (fun _ _ h=>h.elim) hw2 rfl
   (fun i z v hz hv=>by
    cases i with
    | zero=>simp at hz hv;subst hz;subst hv;exact shpa x _ _
    | succ i=>cases i with
     | zero=>simp at hz hv;subst hz;subst hv;exact shpa y _ _
     | succ i=>simp at hz)
  refine hctr.mono ?_
  rintro en w' ⟨v,rfl,⟨os',dr,hdr,rfl⟩,_,hv⟩
  have hv':v=.int .i64 n:=by
   obtain⟨c1,c2⟩:=(hv:dY _ _ _ _)
   have:=(bj (by intro d hd;simp only[D.flat,List.mem_singleton] at hd;subst hd;rfl)).1 c2
   exact al c1 (by simpa [D.flat,aW] using this)
  refine⟨by rw[hv'],dr-(sortWorldK (fun x:{d:D // d∈k}=>x.1.flat.map aW) e.size w b off m dk os).drawn,os'.toArray,?_⟩
  unfold ao grow World.drewN
  simp only[show ∀ a b:Nat,a<=b->a+(b-a)=b from fun a b h=>by omega,hdr]
 have hO:SWO (ltOf (vz E g k)):=yx hchk
 have key:=hf.whole {d:D // d∈k} (fun x=>x.1.flat.map aW) (fun x=>by simp[hfl x]) (fun x v hv=>by
   obtain⟨q,hq,rfl⟩:=List.mem_map.1 hv
   have:=hleaf x q hq
   cases q<;>simp only[gg] at this<;>first|(cases this;done)|rfl) (vz E g k) hO g b off cap d w (pd hE hsig) hcmp hH hbs (by omega)
 rw[hds] at key
 refine key.mono ?_
 rintro en w' ⟨rfl,d',n,os,hp,hso,rfl⟩
 rw[<-hds] at hp hso
 have hd's:d'.size=d.size:=hp.1
 have hH':=holdsK_sortWorldK_c (fun x:{d:D // d∈k}=>x.1.flat.map aW) e.size w b off d d' n os hH hbs hd's
 have hpm:(d'.toList.map (·.1)).Perm l:=by
  obtain⟨p1,_,p3⟩:=hp
  have q:d'.toList.Perm d.toList:=by
   have e1:d'.extract 0 d.size=d':=by rw[<-p1];simp
   rw[e1] at p3
   simpa using p3
  have:=q.map (·.1)
  rwa [hd] at this
 refine⟨rfl,d'.toList.map (·.1),hpm,?_,?_,?_,rfl,rfl,rfl,?_,fun b' hb hb'=>?_,fun i q hq=>?_⟩
 ·rw[WS,List.pairwise_iff_getElem]
  intro i j hi hj hij
  simp only[List.length_map,Array.length_toList] at hi hj
  have h1:=hso i j (Nat.zero_le _) hij (by omega)
  rw[getElem!_pos d' j hj,getElem!_pos d' i hi,qG] at h1
  simpa using h1
 ·unfold bk at hr ⊢
  split at hr<;>first|(cases hr;done)|skip
  rename_i c t hbk
  cases hr
  have:(sortWorldK (fun x:{d:D // d∈k}=>x.1.flat.map aW) e.size w b off n d' os).heap[b]?=some (.cells (putCells id off (flatK (fun x:{d:D // d∈k}=>x.1.flat.map aW) e.size d') row) t (0,0)):=by
   simp only[sortWorldK,grow,putRowK,putRow,mapBlock,Go.Sort.ahead]
   rw[Array.getElem?_append_left (by simpa using hbs),Array.getElem?_modify,if_pos rfl,hbk]
   rfl
  rw[this]
  exact⟨_,rfl,by simp[putCells]⟩
 ·show w.drawn<=w.drawn+n;omega
 ·simp only[sortWorldK,grow,putRowK,putRow,mapBlock,Go.Sort.ahead,Array.size_append,Array.size_modify];omega
 ·simp only[sortWorldK,grow,putRowK,putRow,mapBlock,Go.Sort.ahead]
  rw[Array.getElem?_append_left (by simpa using hb'),Array.getElem?_modify,if_neg (Ne.symm hb)]
 ·have hi:i<d'.size*e.size:=by
   have h1:=(List.getElem?_eq_some_iff.1 hq).1
   rw[ap hf.nt _ fun x hx=>hwt x (hpm.subset hx)] at h1
   simpa using h1
  have h2:=at_ d' i hi
  rw[hq] at h2
  simp only[Option.map_some,Option.some.injEq] at h2
  have h3:=(hH' i (by rw[size_flatK];exact hi)).1
  rw[h3,<-h2];rfl
end
end Go.Proofs.YtjjjkojfijpeeaaGreat.Sy
end
section
set_option linter.unusedVariables false
namespace Go.Proofs.YtjjjkojfijpeeaaGreat.Sy
open Go Go.Proofs Go.Sort Go.Lib
theorem m8(x:D):∀ (l:List D),∀ y∈l,y∈x::jk x l
 | [],y,h=>by simp at h
 | z::l,y,h=>by
  simp only[jk]
  by_cases hz:z.beq x=true
  ·have e:=uc z x hz
   subst e
   rw[if_pos hz]
   rcases List.mem_cons.1 h with rfl|h
   ·exact List.mem_cons_self
   ·exact m8 z l y h
  ·rw[if_neg hz]
   rcases List.mem_cons.1 h with rfl|h
   ·simp
   ·exact List.mem_cons_of_mem _ (m8 z l y h)
theorem vT:∀ (l:List D),∀ y∈l,y∈ip l
 | [],y,h=>by simp at h
 | x::l,y,h=>by
  simp only[ip]
  rcases List.mem_cons.1 h with rfl|h
  ·exact List.mem_cons_self
  ·exact m8 x l y h
section
variable{P:Program}{E:Env}{r:Root}
theorem tS{g:Nat}:∀ (l:List D) (x:D),jn E g (x::jk x l)=true->WS E g (x::l)
 | [],x,_=>by simp[WS]
 | y::l,x,h=>by
  have hs:=gq h
  simp only[jk] at h hs
  by_cases hy:y.beq x=true
  ·have e:=uc y x hy
   subst e
   rw[if_pos hy] at h hs
   have ih:=tS l y h
   refine List.pairwise_cons.2 ⟨fun z hz=>?_,ih⟩
   rcases List.mem_cons.1 hz with rfl|hz
   ·exact vE (hs.2 z List.mem_cons_self)
   ·exact(List.pairwise_cons.1 ih).1 z hz
  ·rw[if_neg hy] at h hs
   have h':jn E g (y::jk y l)=true:=by
    simp only[jn,Bool.and_eq_true] at h ⊢
    exact h.2
   refine List.pairwise_cons.2 ⟨fun z hz=>?_,tS l y h'⟩
   have hz':z∈y::jk y l:=by
    rcases List.mem_cons.1 hz with rfl|hz
    ·exact List.mem_cons_self
    ·exact m8 y l z hz
   exact vE ((List.pairwise_cons.1 hs.1).1 z hz').2
theorem ph{g:Nat}{l l':List D}(h:pG E g l=some l'):l'.Perm l/\jn E g (ip l')=true/\WS E g l':=by
 unfold pG at h
 split at h<;>first|(cases h;done)|skip
 rename_i hc
 cases h
 refine⟨er _ l,hc,?_⟩
 generalize fO (jJ E g) l=m at hc
 cases m with
 | nil=>simp[WS]
 | cons x m=>exact tS m x hc
theorem vN(hE:EnvOk P E){f:Nat}{e:Ty}(hf:SortOk P f e){g:Nat}(hsig:E.sig g=some ([e,e],.int .i64)){x:Nat}{S:Nat->Nat->Prop}{γ:Nat->Option Nat}{β:Nat->Option (Nat×Nat)}{s:St}{a:Act}{w:World}(h:Rp r S γ β s a w)
  {l l':List D} (hv:bR s e x=some l) (hs:pG E g l=some l') :
  Calls P f #[a.tmps.getD x undef,.func (.func g) #[] #[]] w fun en w1=>(∃ v,en=.returned v)/\∃ S',cY r w1/\dY w1 S' (.sl l') (a.tmps.getD x undef)/\(∀ b o,S' b o->b<w1.heap.size)/\(∀ b o,S' b o->r.Old b->r.S0 b o)/\(2<=l'.length->∃ b off cap,a.tmps.getD x undef=.slice (some ⟨b,off,none⟩) l'.length cap/\HL e w1 b off l'/\¬ r.Old b):=by
 have hx:x<s.nt:=by
  rcases Nat.lt_or_ge x s.nt with k|k
  ·exact k
  ·unfold bR at hv;rw[h.tmu x k] at hv;cases hv
 have hax:AR ⟨w,S,γ,β,s.ob,s.dead⟩ (s.tm x) (a.tmps.getD x undef):=h.tms x (by rw[h.nt];exact hx)
 obtain⟨ad,cap,val,hwt,hcr,hown⟩:∃ ad cap,a.tmps.getD x undef=.slice ad l.length cap/\(∀ y∈l,wt e y)/\CR w S (.sl l) (.slice ad l.length cap)/\(l≠[]->∃ b off row,ad=some ⟨b,off,none⟩/\bk w b=some row/\off+l.length*e.size<=row.size/\¬ r.Old b/\b<w.heap.size)/\l.length<=1073741824:=by
  unfold bR at hv
  split at hv
  ·rename_i e' v l0 htm
   split at hv
   ·rename_i hb
    simp only[Bool.and_eq_true,Bool.not_eq_true',decide_eq_true_eq] at hb
    obtain⟨⟨hb1,hb2⟩,hb3⟩:=hb
    cases hv
    have:=Ty.eq_of_beq _ _ hb1;subst this
    rw[htm] at hax
    simp only[AR,AC] at hax
    obtain⟨n0,n1,n2,ad,cap,n3,n4,n5⟩:=hax
    have hval:=al n0 n3
    have hdead:v ∉ s.dead:=by simpa using hb2
    refine⟨ad,cap,hval,n2,n4,fun hne=>?_,hb3⟩
    rcases n5 hdead with⟨q1,q2⟩|⟨b,off,q1,q2,n,q3,q4⟩
    ·exfalso
     obtain⟨_,_,b,off,e1,e2,e3,e4⟩:=n4.elems
     cases e1
     rcases e2 with e2|e2
     ·exact hne e2
     ·rw[q1] at e2;cases e2
    ·obtain⟨k1,k2,_⟩:=h.βn v b _ hdead q2
     unfold nc at q3
     cases hr:bk w b with
     | none=>rw[hr] at q3;cases q3
     | some row=>
      rw[hr] at q3
      simp only[Option.map_some,Option.some.injEq] at q3
      have hlc:l.length<=cap:=by
       obtain⟨_,_,_,_,e1,_,e3,_⟩:=n4.elems
       cases e1;exact e3
      have:=Nat.mul_le_mul_right e'.size hlc
      exact⟨b,off,row,q1,hr,by omega,k1,k2⟩
   ·cases hv
  ·rename_i htm
   cases hv
   rw[htm] at hax
   simp only[AR,AC] at hax
   have hval:=al hax.1 hax.2
   exact⟨none,0,hval,by simp,CR.of_elems (b:=0) (off:=0) (.inl rfl) (Nat.le_refl _) ⟨[],cw.nil,by simp⟩,fun h=>absurd rfl h,by simp⟩
  ·cases hv
 obtain⟨hown,hlen⟩:=hown
 obtain⟨hperm,hchk,hws⟩:=ph hs
 have hll:l'.length=l.length:=hperm.length_eq
 have hwt':∀ y∈l',wt e y:=fun y hy=>hwt y (hperm.subset hy)
 rw[val]
 by_cases hne:l=[]
 ·subst hne
  have e0:l'=[]:=by cases l' with|nil=>rfl|cons y l'=>simp at hll
  subst e0
  refine(hf.empty ad cap _ w).mono ?_
  rintro en w1 ⟨rfl,rfl⟩
  exact⟨⟨_,rfl⟩,S,h.ext,jr hcr,h.Sb,h.So,fun h=>by simp at h⟩
 ·obtain⟨b,off,row,rfl,hr,hrs,hold,hbs⟩:=hown hne
  have hcell:∀ (i:Nat) (d:D),(D.flats l)[i]?=some d->w.cell? ⟨b,off+i,none⟩=some (aW d):=by
   obtain⟨_,_,b',off',e1,e2,e3,cs,e4,e5⟩:=hcr.elems
   cases e1
   rcases e2 with e2|e2
   ·exact absurd e2 hne
   ·cases e2
    have hleaf:=eJ hf.cmp l hwt
    have:=(bj hleaf).1 e4
    subst this
    intro i d hd
    exact(e5 i (aW d) (by rw[List.getElem?_map,hd];rfl)).2
  refine(xo hE hf hsig hwt hchk (fun x hx=>vT _ x (hperm.symm.subset hx)) (fun x hx=>hperm.subset (vQ _ x hx)) hne (b:=b) (off:=off) (cap:=cap) hr hcell (by omega)).mono ?_
  rintro en w1 ⟨rfl,l2,hp2,hw2,⟨row',hr',hrz⟩,q1,q2,q3,q4,q5,q6,q7⟩
  have e2:l2=l':=AS hchk (hp2.trans hperm.symm) hw2 hws fun x hx=>vT _ x (hperm.symm.subset (hp2.subset hx))
  subst e2
  refine⟨⟨_,rfl⟩,fun b' o=>(S b' o/\b'≠b)\/(b'=b/\off<=o/\o<off+(D.flats l2).length),?_,?_,?_,?_,?_⟩
  ·refine jT h.ext q2 q3 q4 q5 q1 fun b' hb'=>q6 b' (fun e=>hold (e ▸ hb')) (Nat.lt_of_lt_of_le hb'.1 h.ext.sz)
  ·refine jr ?_
   rw[<-hll]
   refine CR.of_elems (b:=b) (off:=off) (.inr rfl) (by obtain⟨_,_,_,_,e1,_,e3,_⟩:=hcr.elems;cases e1;rw[hll];exact e3) ⟨(D.flats l2).map aW,?_,fun i c hc=>?_⟩
   ·exact(bj (eJ hf.cmp l2 hwt')).2 rfl
   ·rw[List.getElem?_map] at hc
    cases hd:(D.flats l2)[i]? with
    | none=>rw[hd] at hc;cases hc
    | some d=>
     rw[hd] at hc
     simp only[Option.map_some,Option.some.injEq] at hc
     subst hc
     exact⟨.inr ⟨rfl,by omega,by have:=(List.getElem?_eq_some_iff.1 hd).1;omega⟩,q7 i d hd⟩
  ·rintro b' o (⟨hb',_⟩|⟨rfl,_,_⟩)
   ·exact Nat.lt_of_lt_of_le (h.Sb b' o hb') q5
   ·exact Nat.lt_of_lt_of_le hbs q5
  ·rintro b' o (⟨hb',_⟩|⟨rfl,_,_⟩) ho
   ·exact h.So b' o hb' ho
   ·exact absurd ho hold
  ·intro _
   exact⟨b,off,cap,by rw[hll],⟨⟨row',hr',by rw[hrz,hll];exact hrs⟩,fun i d hd=>q7 i d hd⟩,hold⟩
end
end Go.Proofs.YtjjjkojfijpeeaaGreat.Sy
end
section
set_option linter.unusedVariables false
namespace Go.Proofs.YtjjjkojfijpeeaaGreat.Sy
open Go Go.Proofs Go.Sort Go.Lib
theorem Jg : ∃ fn, Tryz.prog.funcs[95]? = some fn /\ (fn.name == "runtime.NumGoroutine") = false /\ fn.body.isSome = true := ud (by kernel_rfl)
theorem FT{lp:Lp}{call:Nat->List D->Option D}{l:List D}:ev (fl lp call) (oV (jD Tryz.f93)) .leaf D (dS 4 [] (fun i=>if i=0 then .d (.sl K1) (.sl l) else .undef)) (yY (.sl K1) 1)=some (.sl l):=by kernel_rfl
theorem Mb{lp:Lp}(hlp:az lp):ae 44 (nM lp):=by
 intro call hc ptys rty' xs y hs hy hw
 have:lX 44=some ([K2],K2):=by kernel_rfl
 rw[this] at hs;cases hs
 obtain⟨a0,l0,rfl,hwa,hl0⟩:=hw
 have hl0':l0=[]:=hl0
 subst hl0'
 obtain⟨l,rfl,hwt⟩:=hwa
 simp only[nM] at hy
 split at hy<;>first|(cases hy;done)|skip
 rename_i hlen
 have hlen:l.length<=1073741824:=by simpa using hlen
 obtain⟨l',hsd,hy⟩:=bind_some_inv hy
 cases hy
 have hE:EnvOk Tryz.prog (fl lp call):=DK hlp hc
 obtain⟨hperm,_,_⟩:=ph hsd
 have hwt':∀ x∈l',wt K1 x:=fun x hx=>hwt x (hperm.subset hx)
 intro w S vs hS _ hlv hvs
 obtain⟨v0,rfl⟩:∃ v0,vs=[v0]:=by
  match vs,hlv with
  | [v],_=>exact⟨v,rfl⟩
 have hv0:=hvs 0 _ v0 rfl rfl
 have s94:(fl lp call).sig 94=some ([K1,K1],.int .i64):=by kernel_rfl
 refine xN (f:=44) (f93:=93) (f92:=92) (f95:=95) (g:=94) (fn:=Tryz.f44) (K1:=yI w S l 151)
  (K2:=fun v w2=>∃ S',cY (bZ w S) w2/\dY w2 S' (.sl l') v/\(∀ b o,S' b o->b<w2.heap.size)/\(∀ b o,S' b o->b<w.heap.size->S b o)/\(2<=l'.length->∃ b off cap,v=.slice (some ⟨b,off,none⟩) l'.length cap/\HL Sy.K1 w2 b off l'/\¬ (bZ w S).Old b))
  (K3:=fun v w'=>(∃ os d,w.drawn<=d/\w'=ao w os d)/\wt Sy.K2 (.sl (ip l'))/\DR w' (fun b o=>S b o\/(w.heap.size<=b/\b<w'.heap.size)) (.sl (ip l')) v) (by kernel_rfl) rfl rfl rfl rfl rfl rfl JI JY Jg ?_ ?_ ?_
 ·exact yf hE (e:=Sy.K1) rfl hwt (fn:=Tryz.f93) (by kernel_rfl) rfl rfl rfl rfl FT hS hv0
 ·rintro v w1 ⟨B,S1,sv,rfl,hX,hcell,hB,hcr,hSb,hSo⟩
  have hIt:BW Tryz.prog (bZ w1 S1) Sy.K1 l 151 #[.pointer (some ⟨B,0,none⟩)]:=D7 hE hwt hlen hSb (fun W hW=>by
   have:=hW.old B ⟨hB,fun hf=>hf⟩
   simp only[World.cell?,this]
   exact hcell) hcr
  have hx1:cY (bZ w1 S1) w1:=⟨rfl,rfl,rfl,Nat.le_refl _,Nat.le_refl _,fun _ _=>rfl⟩
  refine qL (f150:=150) (g:=94) wr.fn (K0:=nv (bZ w1 S1) Sy.K1 l) ?_ (f:=92) (f149:=149) (fn:=Tryz.f92) (by kernel_rfl) rfl rfl rfl rfl rfl rfl rfl G6 (ym hE hwt hlen hIt hx1)
  intro v w2 hv
  obtain⟨X,S2,β,hX2,hR⟩:=hv.at (a:=⟨#[v],[]⟩) (nt:=1) (t:=0) rfl Nat.one_pos rfl rfl
  refine(vN hE wr s94 hR (Ad hX2 hlen) hsd).mono ?_
  rintro en w3 ⟨⟨u,rfl⟩,S',q1,q2,q3,q4,q5⟩
  refine⟨u,rfl,S',hX.trans q1,q2,q3,fun b o hb hlt=>?_,fun h2=>?_⟩
  ·have h1:b<w1.heap.size:=Nat.lt_of_lt_of_le hlt hX.sz
   exact hSo b o (q4 b o hb ⟨h1,fun hf=>hf⟩) hlt
  ·obtain⟨b,off,cap,z1,z2,z3⟩:=q5 h2
   exact⟨b,off,cap,z1,z2,fun ho=>z3 ⟨Nat.lt_of_lt_of_le ho.1 hX.sz,fun hf=>hf⟩⟩
 ·rintro v w2 ⟨S',q1,q2,q3,q4,q5⟩
  refine(AP (r:=bZ w S) hE hwt' (by rw[hperm.length_eq];exact hlen) q1 q3 (fun b o hb ho=>q4 b o hb ho.1) q2 q5).mono ?_
  rintro en w3 ⟨u,rfl,S3,k1,k2,k3,k4⟩
  refine⟨u,rfl,bM k1 (fun _ hf=>hf),⟨_,rfl,fun x hx=>hwt' x (vQ _ x hx)⟩,(DR.of0 k2).mono (fun _ _ _=>rfl) fun b o hb=>?_⟩
  rcases Nat.lt_or_ge b w.heap.size with hlt|hge
  ·exact .inl (k4 b o hb ⟨hlt,fun hf=>hf⟩)
  ·exact .inr ⟨hge,k3 b o hb⟩
end Go.Proofs.YtjjjkojfijpeeaaGreat.Sy
end
section
namespace Go.Proofs.YtjjjkojfijpeeaaGreat.Sy
open Go Go.Proofs Go.Proofs.YtjjjkojfijpeeaaGreat.Geo
theorem GV{d:D}(h:wt K1 d):∃ v:V,d=aj v:=by
 obtain⟨l,rfl,hl,h⟩:=h
 match l,hl with
 | [a,b,c],_=>
  obtain⟨x,rfl⟩:=h a (by simp)
  obtain⟨y,rfl⟩:=h b (by simp)
  obtain⟨z,rfl⟩:=h c (by simp)
  exact⟨⟨x,y,z⟩,rfl⟩
theorem Hb{d:D}(h:wt K2 d):∃ l:List V,d=bA l:=by
 obtain⟨l,rfl,h⟩:=h
 have key:∀ l:List D,(∀ x∈l,wt K1 x)->∃ m:List V,l=m.map aj:=by
  intro l
  induction l with
  | nil=>intro _;exact⟨[],rfl⟩
  | cons x l ih=>
   intro h
   obtain⟨v,rfl⟩:=GV (h x (by simp))
   obtain⟨m,rfl⟩:=ih fun y hy=>h y (by simp[hy])
   exact⟨v::m,rfl⟩
 obtain⟨m,rfl⟩:=key l h
 exact⟨m,rfl⟩
end Go.Proofs.YtjjjkojfijpeeaaGreat.Sy
end
section
namespace Go.Proofs.YtjjjkojfijpeeaaGreat.Sy
open Go Go.Proofs Go.Proofs.YtjjjkojfijpeeaaGreat.Geo
noncomputable def wB(k:Nat)(f:Nat)(xs:List D):Option D:=if f=10 then uT (Mf 2000) 20 10 xs else cA k f xs
theorem Cv(k:Nat):jl Tryz.prog (wB k):=by
 intro f ptys rty xs y hs hy hw
 unfold wB at hy
 split at hy
 ·rename_i hf
  subst hf
  exact qd (rQ 2000) (Mb (rQ 2000)) 20 10 ptys rty xs y hs hy hw
 ·exact qd lg (Mb lg) k f ptys rty xs y hs hy hw
end Go.Proofs.YtjjjkojfijpeeaaGreat.Sy
end
section
set_option linter.unusedVariables false
namespace Go.Proofs.YtjjjkojfijpeeaaGreat.Sy
open Go Go.Proofs Go.Proofs.YtjjjkojfijpeeaaGreat.Geo
abbrev FL:=List ((V×Int)×List Nat)
def kV(L:FL):List D:=L.map fun f=>CA f.1 f.2
theorem nP(L:FL):(kV L).length=L.length:=List.length_map ..
theorem Az{L:FL}{i:Nat}(h:i<L.length):(kV L)[i]?=some (CA L[i].1 L[i].2):=by simp[kV,h]
end Go.Proofs.YtjjjkojfijpeeaaGreat.Sy
end
section
set_option linter.unusedVariables false
namespace Go.Proofs.YtjjjkojfijpeeaaGreat.Sy
open Go Go.Proofs Go.Proofs.YtjjjkojfijpeeaaGreat.Geo
end Go.Proofs.YtjjjkojfijpeeaaGreat.Sy
end
section
set_option linter.unusedVariables false
namespace Go.Proofs.YtjjjkojfijpeeaaGreat.Sy
open Go Go.Proofs Go.Proofs.YtjjjkojfijpeeaaGreat.Geo
end Go.Proofs.YtjjjkojfijpeeaaGreat.Sy
end
section
set_option linter.unusedVariables false
namespace Go.Proofs.YtjjjkojfijpeeaaGreat.Sy
open Go Go.Proofs Go.Proofs.YtjjjkojfijpeeaaGreat.Geo
def aL:List Nat->Nat
 | []=>0
 | d::l=>d+65536*aL l
def dl(l:List Nat):Prop:=∀ d∈l,d<65536
theorem dl.cons{d:Nat}{l:List Nat}(hd:d<65536)(h:dl l):dl (d::l):=fun x hx=>by
 rcases List.mem_cons.1 hx with rfl|hx
 ·exact hd
 ·exact h x hx
theorem dl.append{a b:List Nat}(ha:dl a)(hb:dl b):dl (a++b):=fun x hx=>by
 rcases List.mem_append.1 hx with hx|hx
 ·exact ha x hx
 ·exact hb x hx
theorem dl.getD{l:List Nat}(h:dl l)(i:Nat):l.getD i 0<65536:=by
 simp only[List.getD]
 cases hi:l[i]? with
 | none=>simp
 | some x=>exact h x (List.mem_of_getElem? hi)
def av(m:Nat):List Nat:=if h:m=0 then[] else m%65536::av (m/65536)
termination_by m
decreasing_by omega
theorem bQ:av 0=[]:=by unfold av;simp
theorem gE{m:Nat}(h:m≠0):av m=m%65536::av (m/65536):=by rw[av,dif_neg h]
theorem rX{d v:Nat}(hd:d<65536)(h:d+65536*v≠0):av (d+65536*v)=d::av v:=by
 rw[gE h,show(d+65536*v)%65536=d by omega,show(d+65536*v)/65536=v by omega]
theorem aG(m:Nat):aL (av m)=m:=by
 induction m using Nat.strongRecOn with
 | _ m ih=>
  by_cases h:m=0
  ·subst h;rw[bQ];rfl
  ·rw[gE h,aL,ih _ (by omega)];omega
theorem bH(m:Nat):dl (av m):=by
 induction m using Nat.strongRecOn with
 | _ m ih=>
  by_cases h:m=0
  ·subst h;rw[bQ];intro d hd;cases hd
  ·rw[gE h];exact dl.cons (by omega) (ih _ (by omega))
theorem qy{m:Nat}:av m=[]↔m=0:=by
 constructor
 ·intro h;have:=aG m;rw[h] at this;exact this.symm
 ·rintro rfl;exact bQ
theorem np(i:Nat):∀ m,(av m).getD i 0=m/65536^i%65536:=by
 induction i with
 | zero=>
  intro m
  by_cases h:m=0
  ·subst h;rw[bQ];simp
  ·rw[gE h];simp
 | succ i ih=>
  intro m
  by_cases h:m=0
  ·subst h;rw[bQ];simp
  ·rw[gE h]
   show(av (m/65536)).getD i 0=_
   rw[ih,Nat.div_div_eq_div_mul,Nat.pow_succ,Nat.mul_comm 65536]
theorem bX(k:Nat):∀ m,m<65536^k->(av m).length<=k:=by
 induction k with
 | zero=>
      intro m h;have:m=0:=by simpa using h
      subst this;rw[bQ];simp
 | succ k ih=>
  intro m h
  by_cases h0:m=0
  ·subst h0;rw[bQ];simp
  ·rw[gE h0,List.length_cons]
   have:=ih (m/65536) (by rw[Nat.pow_succ] at h;exact Nat.div_lt_of_lt_mul (by rw[Nat.mul_comm];exact h))
   omega
theorem jZ(a b:List Nat):aL (a++b)=aL a+65536^a.length*aL b:=by
 induction a with
 | nil=>simp[aL]
 | cons d a ih=>
  simp only[List.cons_append,aL,ih,List.length_cons,Nat.pow_succ]
  rw[Nat.mul_add,<-Nat.mul_assoc,Nat.mul_comm 65536 (65536^a.length)]
  omega
theorem lH(l:List Nat)(n:Nat):aL (l++List.replicate n 0)=aL l:=by
 rw[jZ]
 have:∀ n,aL (List.replicate n 0)=0:=fun n=>by
  induction n with
  | zero=>rfl
  | succ n ih=>rw[List.replicate_succ,aL,ih]
 rw[this];simp
def vt(l:List Nat):Nat->Nat
 | 0=>0
 | k+1=>vt l k+l.getD k 0*65536^k
theorem DB(d:Nat)(l:List Nat)(k:Nat):vt (d::l) (k+1)=d+65536*vt l k:=by
 induction k with
 | zero=>simp[vt]
 | succ k ih=>
  rw[vt,ih,vt,Nat.mul_add]
  have:(d::l).getD (k+1) 0=l.getD k 0:=rfl
  rw[this,Nat.pow_succ,<-Nat.mul_assoc,<-Nat.mul_assoc,Nat.mul_comm 65536 (l.getD k 0),Nat.mul_assoc,Nat.mul_comm (65536^k),<-Nat.mul_assoc]
  omega
theorem jF(l:List Nat):vt l l.length=aL l:=by
 induction l with
 | nil=>rfl
 | cons d l ih=>rw[List.length_cons,DB,ih];rfl
theorem gm{l:List Nat}{k:Nat}(h:l.length<=k):vt l k=aL l:=by
 obtain⟨j,rfl⟩:∃ j,k=l.length+j:=⟨k-l.length,by omega⟩
 clear h
 induction j with
 | zero=>exact jF l
 | succ j ih=>
  rw[<-Nat.add_assoc,vt,ih]
  have:l.getD (l.length+j) 0=0:=by simp[List.getD]
  rw[this];simp
theorem qm{l:List Nat}(h:dl l)(k:Nat):vt l k<65536^k:=by
 induction k with
 | zero=>simp[vt]
 | succ k ih=>
  have h1:=h.getD k
  have h2:l.getD k 0*65536^k<=65535*65536^k:=Nat.mul_le_mul_right _ (by omega)
  rw[vt,Nat.pow_succ,Nat.mul_comm (65536^k)]
  omega
theorem kq{l:List Nat}(h:dl l):aL l<65536^l.length:=by rw[<-jF];exact qm h _
def iJ:List Nat->List Nat
 | []=>[]
 | d::l=>match iJ l with
  | []=>if d=0 then[] else[d]
  | x::t=>d::x::t
theorem gH{l:List Nat}(h:dl l):iJ l=av (aL l):=by
 induction l with
 | nil=>rw[aL,bQ];rfl
 | cons d l ih=>
  have hd:d<65536:=h d List.mem_cons_self
  have ih:=ih fun x hx=>h x (List.mem_cons_of_mem _ hx)
  rw[iJ,ih,aL]
  by_cases hv:aL l=0
  ·rw[hv,bQ]
   by_cases h0:d=0
   ·subst h0;simp[bQ]
   ·rw[rX hd (by omega),bQ];simp[h0]
  ·rw[rX hd (by omega),gE hv]
theorem xw{l:List Nat}(h:∀ i,i<l.length->l.getD i 0=0):iJ l=[]:=by
 induction l with
 | nil=>rfl
 | cons d l ih=>
  have h0:d=0:=h 0 (by simp)
  rw[iJ,ih (fun i hi=>h (i+1) (by simpa using hi)),h0];simp
theorem rV:∀ {l:List Nat} {n:Nat},n<=l.length->(∀ i,n<=i->i<l.length->l.getD i 0=0)->(n=0\/l.getD (n-1) 0≠0)->l.take n=iJ l
 | [],n,_,_,_=>by simp[iJ]
 | d::l,0,_,hz,_=>by rw[xw (fun i hi=>hz i (by omega) hi)];rfl
 | d::l,n+1,hn,hz,hl=>by
  have hl':(d::l).getD n 0≠0:=by
   rcases hl with h|h
   ·omega
   ·exact h
  have ih:l.take n=iJ l:=rV (l:=l) (n:=n) (by simpa using hn) (fun i h1 h2=>hz (i+1) (by omega) (by simpa using h2)) (by
   cases n with
   | zero=>exact .inl rfl
   | succ k=>exact .inr hl')
  rw[List.take_succ_cons,ih,iJ]
  cases ht:iJ l with
  | nil=>
   rw[ht] at ih
   have:n=0:=by
    cases n with
    | zero=>rfl
    | succ k=>cases l with
     | nil=>simp at hn
     | cons e l=>simp at ih
   subst this
   have:d≠0:=hl'
   simp[this]
  | cons x t=>rfl
end Go.Proofs.YtjjjkojfijpeeaaGreat.Sy
end
section
set_option linter.unusedVariables false
namespace Go.Proofs.YtjjjkojfijpeeaaGreat.Sy
open Go Go.Proofs Go.Proofs.YtjjjkojfijpeeaaGreat.Geo
theorem cG{l:List Nat}{i:Nat}(h:i<l.length):(ab l)[i]?=some (I (l.getD i 0:Nat)):=lu h
theorem sC(a:List Nat)(d:Nat):ab a++[I (d:Int)]=ab (a++[d]):=by simp[ab]
theorem xU(n:Nat){l:List Nat}(hl:l.length<=1000000):cA (n+1) 140 [.sl (ab l)]=some (.sl (ab (iJ l))):=by
 rw[LS]
 unfold Dh
 refine aa (z:=ab l) rfl ?_
 have fin:∀ j:Nat,j<=l.length->(∀ i,j<=i->i<l.length->l.getD i 0=0)->(j=0\/l.getD (j-1) 0≠0)->(Option.bind (D.asSl (.sl (ab l))) fun l13=>Option.bind (D.natOf (I (j:Int))) fun i14=>Option.bind (D.cut l13 0 i14) fun l15=>some (D.sl l15))=some (.sl (ab (iJ l))):=by
  intro j hj hz hd
  refine aa (z:=ab l) rfl (aa (z:=j) (by simp[D.natOf]) (aa (z:=ab (l.take j)) ?_ (by rw[rV hj hz hd])))
  simp only[D.cut]
  rw[if_pos ⟨Nat.zero_le _,by rw[ah];exact hj⟩]
  simp[ab,List.map_take]
 refine bq (fun i s=>s=[I ((l.length-i:Nat):Int)]/\∀ k,l.length-i<=k->k<l.length->l.getD k 0=0) l.length 0 (Nat.zero_le _) ⟨by rw[ah];rfl,fun k h1 h2=>by omega⟩ (fun i hi s hJ=>?_) (fun s hJ=>?_)
 ·obtain⟨rfl,hz⟩:=hJ
  have hb:inR (((l.length-i:Nat):Int)-1):=by simp only[inR];omega
  have e1:((l.length-i:Nat):Int)-1=((l.length-i-1:Nat):Int):=by omega
  have hx:(ab l)[l.length-i-1]?=some (I (l.getD (l.length-i-1) 0:Nat)):=cG (by omega)
  by_cases h0:l.getD (l.length-i-1) 0=0
  ·left
   refine⟨[I ((l.length-(i+1):Nat):Int)],?_,rfl,fun k h1 h2=>?_⟩
   ·refine aa ff (aa ag (aa (z:=true) (aZ (by show((l.length-i:Nat):Int)>0;omega) ?_) (aa ag ?_)))
    ·refine aa (ew hb) (aa (z:=ab l) rfl (aa (z:=l.length-i-1) (by rw[e1,ah];exact aE (by omega)) (aa hx ?_)))
     rw[h0];rfl
    ·rw[if_pos rfl]
     refine aa (ew hb) ?_
     rw[e1,Nat.sub_sub]
   ·by_cases e:k=l.length-i-1
    ·rw[e];exact h0
    ·exact hz k (by omega) h2
  ·right
   refine⟨(0,[I ((l.length-i:Nat):Int)]),?_,fin _ (by omega) hz (.inr h0)⟩
   refine aa ff (aa ag (aa (z:=false) (aZ (by show((l.length-i:Nat):Int)>0;omega) ?_) (aa ag rfl)))
   refine aa (ew hb) (aa (z:=ab l) rfl (aa (z:=l.length-i-1) (by rw[e1,ah];exact aE (by omega)) (aa hx ?_)))
   rw[cV,decide_eq_false (by omega)];rfl
 ·obtain⟨rfl,hz⟩:=hJ
  refine⟨(0,[I ((l.length-l.length:Nat):Int)]),?_,fin _ (by omega) hz (.inl (by omega))⟩
  refine aa ff (aa ag (aa (z:=false) (aY (by show ¬ ((l.length-l.length:Nat):Int)>0;omega) rfl) (aa ag rfl)))
theorem Ap(n:Nat)(l:List Nat)(k:Nat):cA (n+1) 141 [.sl (ab l),I (k:Int)]=some (I (l.getD k 0:Nat)):=by
 rw[I6]
 unfold DV
 refine aa (z:=ab l) rfl (aa am (aa ag ?_))
 by_cases h:k<l.length
 ·refine aZ (by show(k:Int)<((ab l).length:Int);rw[ah];omega) ?_
  exact aa (z:=ab l) rfl (aa (z:=k) (by rw[ah];exact aE h) (aa (cG h) rfl))
 ·refine aY (by show ¬ (k:Int)<((ab l).length:Int);rw[ah];omega) ?_
  have:l.getD k 0=0:=by simp[List.getD,h]
  rw[this];rfl
def dA(l:List Nat)(i:Nat):Nat:=l.getD (2*i) 0+65536*l.getD (2*i+1) 0
abbrev U(n:Nat):D:=.int .u32 (n:Int)
def cZ(l:List Nat):D:=.st ((List.range 16).map fun i=>U (dA l i))
def ai(x:Int):D:=.st [.bool false,.bool (decide (x<0)),cZ (av x.natAbs)]
theorem th{l:List Nat}(h:dl l)(i:Nat):dA l i<4294967296:=by
 have:=h.getD (2*i);have:=h.getD (2*i+1);unfold dA;omega
theorem pX{l:List Nat}{i:Nat}(h:i<16):D.fld (cZ l) i=some (U (dA l i)):=by simp[cZ,D.fld,h]
theorem cX{x:Int}{i:Nat}(h:i<16):D.get (ai x) [2,i]=some (U (dA (av x.natAbs) i)):=
 aa (z:=cZ (av x.natAbs)) rfl (aa (pX h) rfl)
theorem ml{n:Int}(h:0<=n/\n<4294967296):IntKind.wrap .u32 n=n:=by
 obtain⟨h1,h2⟩:=h
 simp only[IntKind.wrap,IntKind.signed,IntKind.bits]
 first
  | omega
  | (simp;omega)
theorem Gm(a:Nat):D.bin .rem (U a) (.int .u32 65536)=some (U (a%65536)):=by
 simp only[D.bin,if_true,show ¬ (65536:Int)=0 by decide,if_false]
 rw[show(65536:Int)=((65536:Nat):Int) from rfl,<-Int.ofNat_tmod]
theorem GI{a:Nat}(h:a<4294967296):D.bin .quo (U a) (.int .u32 65536)=some (U (a/65536)):=by
 simp only[D.bin,if_true,show ¬ (65536:Int)=0 by decide,if_false]
 rw[show(65536:Int)=((65536:Nat):Int) from rfl,<-Int.ofNat_tdiv,ml (by omega)]
theorem CE{a b:Nat}(h:a+b<4294967296):D.bin .add (U a) (U b)=some (U (a+b)):=by
 simp only[D.bin,if_true]
 rw[ml (by omega)];simp
theorem FV{a b:Nat}(h:a*b<4294967296):D.bin .mul (U a) (U b)=some (U (a*b)):=by
 simp only[D.bin,if_true]
 rw[show(a:Int)*(b:Int)=((a*b:Nat):Int) by simp,ml (by omega)]
theorem oZ{a:Nat}(h:a<4294967296):D.conv .i64 (U a)=some (I (a:Int)):=by
 simp only[D.conv];rw[ie (by simp only[inR];omega)]
theorem yQ{a:Nat}(h:a<4294967296):D.conv .u32 (I (a:Int))=some (U a):=by
 simp only[D.conv];rw[ml (by omega)]
theorem yj(l:List Nat)(k:Nat):((List.range k).map fun i=>l.getD i 0)=if k<=l.length then l.take k else l++List.replicate (k-l.length) 0:=by
 apply List.ext_getElem?
 intro i
 by_cases h:i<k
 ·rw[List.getElem?_map,List.getElem?_range h]
  split
  ·simp[h,List.getD,show i<l.length by omega]
  ·by_cases h2:i<l.length
   ·simp[List.getElem?_append,h2,List.getD]
   ·simp[List.getElem?_append,h2,List.getD,List.getElem?_replicate,show i-l.length<k-l.length by omega]
 ·rw[List.getElem?_map,show(List.range k)[i]?=none by simp;omega]
  split
  ·simp;omega
  ·simp;omega
theorem Bs{l:List Nat}(hd:dl l){k:Nat}(hk:l.length<=k):iJ ((List.range k).map fun i=>l.getD i 0)=av (aL l):=by
 have e:((List.range k).map fun i=>l.getD i 0)=l++List.replicate (k-l.length) 0:=by
  rw[yj]
  split
  ·have:k=l.length:=by omega
   subst this;simp
  ·rfl
 rw[e,gH (hd.append (fun x hx=>by rw[List.eq_of_mem_replicate hx];decide)),lH]
theorem Da(n:Nat){x:Int}(hx:x.natAbs<65536^32):cA (n+2) 77 [ai x]=some (.sl (ab (av x.natAbs))):=by
 rw[Nr]
 unfold H0
 have hd:=bH x.natAbs
 have hlen:=bX 32 _ hx
 refine bq (fun i s=>s=[.sl (ab ((List.range (2*i)).map fun i=>(av x.natAbs).getD i 0)),I (i:Int)]) 16 0 (Nat.zero_le _) rfl (fun i hi s hJ=>?_) (fun s hJ=>?_)
 ·subst hJ
  left
  refine⟨_,?_,rfl⟩
  refine aa am (aa ag (aZ (by show(i:Int)<16;omega) ?_))
  have hlt:=th hd i
  have h1:=hd.getD (2*i)
  refine aa (z:=i) (aE hi) (aa (cX hi) (aa (Gm _) (aa (oZ (by omega)) (aa (z:=i) (aE hi) (aa (cX hi) (aa (GI hlt) (aa (oZ (by omega)) ?_)))))))
  rw[if_pos (by simp only[g0,D.els,ah,List.length_map,List.length_range,List.length_cons,List.length_nil];omega)]
  refine aa (aS (aK (i:=i) (by omega))) ?_
  have e1:dA (av x.natAbs) i%65536=(av x.natAbs).getD (2*i) 0:=by unfold dA;omega
  have e2:dA (av x.natAbs) i/65536=(av x.natAbs).getD (2*i+1) 0:=by unfold dA;omega
  rw[e1,e2,show 2*(i+1)=2*i+1+1 by omega,List.range_succ,List.range_succ]
  simp[g0,D.els,ab]
 ·subst hJ
  refine⟨(0,[.sl (ab ((List.range (2*16)).map fun i=>(av x.natAbs).getD i 0))]),?_,?_⟩
  ·exact aa am (aa ag (aY (by decide) rfl))
  ·refine aa (xU n (by simp)) ?_
   rw[Bs hd hlen,aG]
end Go.Proofs.YtjjjkojfijpeeaaGreat.Sy
end
section
set_option linter.unusedVariables false
namespace Go.Proofs.YtjjjkojfijpeeaaGreat.Sy
open Go Go.Proofs Go.Proofs.YtjjjkojfijpeeaaGreat.Geo
theorem iP(l:List Nat)(k j:Nat):(l.take k).getD j 0=if j<k then l.getD j 0 else 0:=by
 simp only[List.getD,List.getElem?_take]
 split<;>simp
theorem pK{l l':List Nat}{q v:Nat}{a b:D}(hq:q<16)(h:∀ i,dA l' i=if i=q then v else dA l i):D.set (.st [a,b,cZ l]) [2,q] (U v)=some (.st [a,b,cZ l']):=by
 have h1:D.set (cZ l) [q] (U v)=some (cZ l'):=by
  have e:((List.range 16).map fun i=>U (dA l i))[q]?=some (U (dA l q)):=by simp[hq]
  refine aa e (aa (z:=U v) rfl ?_)
  simp only[cZ,Option.some.injEq,D.st.injEq]
  apply List.ext_getElem?
  intro i
  rw[List.getElem?_set]
  by_cases hi:q=i
  ·subst hi
   simp[hq,h]
  ·rw[if_neg hi,List.getElem?_map,List.getElem?_map]
   by_cases h16:i<16
   ·rw[List.getElem?_range h16];simp[h,show i≠q from fun e=>hi e.symm]
   ·rw[show(List.range 16)[i]?=none by simp;omega];rfl
 exact aa (z:=cZ l) rfl (aa h1 rfl)
theorem GF(k:Nat):D.bin .rem (I (k:Int)) (.int .i64 2)=some (I (k%2:Nat)):=by
 rw[rG (by decide),show(2:Int)=((2:Nat):Int) from rfl,<-Int.ofNat_tmod]
theorem il{a b:Nat}(hb:b≠0)(ha:(a:Int)<=9223372036854775807):D.bin .quo (I (a:Int)) (I (b:Int))=some (I (a/b:Nat)):=by
 have:((a/b:Nat):Int)<=9223372036854775807:=by have:=Nat.div_le_self a b;omega
 have h0:0<=((a/b:Nat):Int):=Int.natCast_nonneg _
 rw[sq (by omega) (by rw[<-Int.ofNat_tdiv];simp only[inR];omega),<-Int.ofNat_tdiv]
theorem jf{a b:Nat}(hb:b≠0):D.bin .rem (I (a:Int)) (I (b:Int))=some (I (a%b:Nat)):=by
 rw[rG (by omega),<-Int.ofNat_tmod]
theorem u9{a b:D}{l:List Nat}{i:Nat}(h:i<16):D.get (.st [a,b,cZ l]) [2,i]=some (U (dA l i)):=
 aa (z:=cZ l) rfl (aa (pX h) rfl)
def sgn(neg:Bool)(m:Nat):Int:=if neg then -(m:Int) else m
theorem GO(n:Nat){l:List Nat}{neg:Bool}(hd:dl l)(hl:l.length<=1000000)(hv:aL l<65536^32):cA (n+2) 81 [.bool neg,.sl (ab l)]=some (ai (sgn neg (aL l))):=by
 rw[M8]
 unfold Iv
 have hlen:=bX 32 _ hv
 have hdd:=bH (aL l)
 have hen:ai (sgn neg (aL l))=.st [.bool false,.bool (neg&&decide (0<(av (aL l)).length)),cZ (av (aL l))]:=by
  have e1:(sgn neg (aL l)).natAbs=aL l:=by unfold sgn;split<;>omega
  have e2:(0<(av (aL l)).length)↔aL l≠0:=by
   rw[List.length_pos_iff];exact not_congr qy
  unfold ai
  rw[e1]
  have:decide (sgn neg (aL l)<0)=(neg&&decide (0<(av (aL l)).length)):=by
   simp only[e2,sgn]
   cases neg
   ·simp<;>omega
   ·by_cases h:aL l=0
    ·simp[h]
    ·simp[h]<;>omega
  rw[this]
 rw[hen]
 refine aa (xU n hl) ?_
 rw[gH hd]
 generalize av (aL l)=d at hlen hdd
 refine aa (z:=ab d) rfl (aa ff (aa ag (aY (by show ¬ ((ab d).length:Int)>32;rw[ah];omega) ?_)))
 refine aa ag (aa (z:=neg&&decide (0<d.length)) ?_ ?_)
 ·cases neg
  ·rfl
  ·rw[if_pos rfl]
   refine aa (z:=ab d) rfl (aa ff ?_)
   rw[ag,ah]
   simp
 refine bq (fun k s=>s=[I (k:Int),.st [.bool false,.bool (neg&&decide (0<d.length)),cZ (d.take k)]]) d.length 0 (Nat.zero_le _) rfl (fun k hk s hJ=>?_) (fun s hJ=>?_)
 ·subst hJ
  left
  refine⟨_,?_,rfl⟩
  have hdk:=hdd.getD k
  refine aa (z:=ab d) rfl (aa am (aa ag (aZ (by show(k:Int)<((ab d).length:Int);rw[ah];omega) ?_)))
  refine aa (z:=(0,[.st [.bool false,.bool (neg&&decide (0<d.length)),cZ (d.take (k+1))]])) ?_ (aa (aS (aK (i:=k) (by omega))) rfl)
  refine aa (GF k) ?_
  have q1:k/2<16:=by omega
  have hq:D.bin .quo (I (k:Int)) (.int .i64 2)=some (I (k/2:Nat)):=il (b:=2) (by decide) (by omega)
  have hlk:dA (d.take k) (k/2)=if k%2=0 then 0 else d.getD (2*(k/2)) 0:=by
   simp only[dA,iP]
   by_cases hk2:k%2=0
   ·rw[if_pos hk2,if_neg (show ¬ 2*(k/2)<k by omega),if_neg (show ¬ 2*(k/2)+1<k by omega)]
   ·rw[if_neg hk2,if_pos (show 2*(k/2)<k by omega),if_neg (show ¬ 2*(k/2)+1<k by omega)];omega
  have hd2:=hdd.getD (2*(k/2))
  by_cases hk2:k%2=0
  ·rw[if_pos hk2] at hlk
   rw[hk2]
   refine aa (z:=true) rfl ?_
   rw[if_pos rfl]
   refine aa hq (aa hq (aa (aE q1) (aa (u9 q1) (aa (z:=ab d) rfl (aa (z:=k) (by rw[ah];exact aE hk) (aa (cG hk) (aa (yQ (by omega)) (aa (CE (by rw[hlk];omega)) (aa (aE q1) (aa (pK q1 (l':=d.take (k+1)) ?_) rfl))))))))))
   intro i
   by_cases hi:i=k/2
   ·rw[if_pos hi,hlk,hi]
    simp only[dA,iP]
    rw[if_pos (show 2*(k/2)<k+1 by omega),if_neg (show ¬ 2*(k/2)+1<k+1 by omega),show 2*(k/2)=k by omega];omega
   ·rw[if_neg hi]
    simp only[dA,iP]
    have a1:(2*i<k+1)↔(2*i<k):=by omega
    have a2:(2*i+1<k+1)↔(2*i+1<k):=by omega
    simp only[a1,a2]
  ·rw[if_neg hk2] at hlk
   refine aa (z:=false) (by rw[show k%2=1 by omega];rfl) ?_
   rw[if_neg (by decide)]
   refine aa hq (aa hq (aa (aE q1) (aa (u9 q1) (aa (z:=ab d) rfl (aa (z:=k) (by rw[ah];exact aE hk) (aa (cG hk) (aa (yQ (by omega)) (aa (FV (b:=65536) (by omega)) (aa (CE (by rw[hlk];omega)) (aa (aE q1) (aa (pK q1 (l':=d.take (k+1)) ?_) rfl)))))))))))
   intro i
   by_cases hi:i=k/2
   ·rw[if_pos hi,hlk,hi]
    simp only[dA,iP]
    rw[if_pos (show 2*(k/2)<k+1 by omega),if_pos (show 2*(k/2)+1<k+1 by omega),show 2*(k/2)+1=k by omega];omega
   ·rw[if_neg hi]
    simp only[dA,iP]
    have a1:(2*i<k+1)↔(2*i<k):=by omega
    have a2:(2*i+1<k+1)↔(2*i+1<k):=by omega
    simp only[a1,a2]
 ·subst hJ
  refine⟨(0,[.st [.bool false,.bool (neg&&decide (0<d.length)),cZ (d.take d.length)]]),?_,?_⟩
  ·exact aa (z:=ab d) rfl (aa am (aa ag (aY (by show ¬ (d.length:Int)<((ab d).length:Int);rw[ah];omega) rfl)))
  ·rw[List.take_length];rfl
theorem NH(n:Nat){a b:List Nat}(ha:dl a)(hb:dl b)(hla:a.length<=900000)(hlb:b.length<=900000):cA (n+2) 82 [.sl (ab a),.sl (ab b)]=some (.sl (ab (av (aL a+aL b)))):=by
 rw[On]
 unfold H6
 obtain⟨M,hM⟩:∃ M,M=max a.length b.length:=⟨_,rfl⟩
 have hmax:∀ k:Nat,D.max2 (D.int .i64 (ab a).length) (D.int .i64 (ab b).length)=some (I (M:Int)):=fun _=>by
  rw[CX,ah,ah,hM];congr 2;omega
 refine bq (fun k s=>∃ (out:List Nat) (c:Nat),s=[.sl (ab out),I (c:Int),I (k:Int)]/\out.length=k/\dl out/\c<=1/\aL out+c*65536^k=vt a k+vt b k) (M+1) 0 (Nat.zero_le _) ⟨[],0,rfl,rfl,(by intro d hd;cases hd),by omega,by simp[aL,vt]⟩ (fun k hk s hJ=>?_) (fun s hJ=>?_)
 ·obtain⟨out,c,rfl,ho,hdo,hc,hv⟩:=hJ
  left
  have h1:=ha.getD k
  have h2:=hb.getD k
  refine⟨[.sl (ab (out++[(a.getD k 0+b.getD k 0+c)%65536])),I ((a.getD k 0+b.getD k 0+c)/65536:Nat),I ((k+1:Nat):Int)],?_,out++[(a.getD k 0+b.getD k 0+c)%65536],(a.getD k 0+b.getD k 0+c)/65536,rfl,by simp[ho],hdo.append (fun x hx=>by simp at hx;omega),by omega,?_⟩
  ·refine aa (z:=ab a) rfl (aa (z:=ab b) rfl (aa (hmax 0) (aa (aS (aK (i:=M) (by omega))) (aa am (aa ag (aZ (by show(k:Int)<(M:Int)+1;omega) ?_))))))
   refine aa (Ap n a k) (aa (Ap n b k) (aa (aS (by simp only[inR];omega)) (aa (aS (by simp only[inR];omega)) ?_)))
   rw[show(((a.getD k 0:Nat):Int)+((b.getD k 0:Nat):Int)+(c:Int))=((a.getD k 0+b.getD k 0+c:Nat):Int) by omega]
   refine aa (jf (b:=65536) (by decide)) ?_
   rw[if_pos (by simp only[g0,D.els,ah,List.length_cons,List.length_nil];omega)]
   refine aa (il (b:=65536) (by decide) (by omega)) (aa (aS (aK (i:=k) (by omega))) ?_)
   simp only[g0,D.els,sC]
   rfl
  ·rw[jZ,ho,vt,vt,Nat.pow_succ]
   have e:a.getD k 0+b.getD k 0+c=(a.getD k 0+b.getD k 0+c)%65536+65536*((a.getD k 0+b.getD k 0+c)/65536):=by omega
   have e2:aL [(a.getD k 0+b.getD k 0+c)%65536]=(a.getD k 0+b.getD k 0+c)%65536:=by simp[aL]
   rw[e2]
   generalize 65536^k=B at *
   generalize (a.getD k 0+b.getD k 0+c)%65536=r at *
   generalize (a.getD k 0+b.getD k 0+c)/65536=q at *
   have:(a.getD k 0+b.getD k 0+c)*B=(r+65536*q)*B:=by rw[e]
   rw[Nat.add_mul,Nat.add_mul,Nat.add_mul] at this
   rw[show q*(B*65536)=65536*q*B by rw[Nat.mul_comm B,<-Nat.mul_assoc,Nat.mul_comm q],Nat.mul_comm B r]
   omega
 ·obtain⟨out,c,rfl,ho,hdo,hc,hv⟩:=hJ
  refine⟨(0,[.sl (ab out)]),?_,?_⟩
  ·refine aa (z:=ab a) rfl (aa (z:=ab b) rfl (aa (hmax 0) (aa (aS (aK (i:=M) (by omega))) (aa am (aa ag (aY (by show ¬ (((M+1:Nat):Int)<(M:Int)+1);omega) rfl))))))
  ·refine aa (xU n (l:=out) (by omega)) ?_
   have va:vt a (M+1)=aL a:=gm (by omega)
   have vb:vt b (M+1)=aL b:=gm (by omega)
   have la:=qm ha M
   have lb:=qm hb M
   rw[gm (show a.length<=M by omega)] at la
   rw[gm (show b.length<=M by omega)] at lb
   have hc0:c=0:=by
    rcases Nat.eq_zero_or_pos c with h|h
    ·exact h
    ·have:1*65536^(M+1)<=c*65536^(M+1):=Nat.mul_le_mul_right _ h
     rw[Nat.pow_succ] at this
     rw[va,vb,Nat.pow_succ] at hv
     omega
   subst hc0
   rw[gH hdo,<-va,<-vb,<-hv];simp
theorem If(n:Nat){x:Int}(hx:inR x):cA (n+3) 34 [I x]=some (ai x):=by
 rw[Nm]
 unfold IB
 obtain⟨h1,h2⟩:=hx
 have d1:∀ m:Nat,(m:Int)<=9223372036854775807->dl [m%65536,m/65536%65536,m/4294967296%65536,m/281474976710656]:=fun m hm d hd=>by
  simp only[List.mem_cons,List.not_mem_nil,or_false] at hd;omega
 have d2:∀ m:Nat,aL [m%65536,m/65536%65536,m/4294967296%65536,m/281474976710656]=m:=fun m=>by
  simp only[aL];omega
 have d3:∀ m:Nat,D.sl [I (m%65536:Nat),I (m/65536%65536:Nat),I (m/4294967296%65536:Nat),I (m/281474976710656:Nat)]=.sl (ab [m%65536,m/65536%65536,m/4294967296%65536,m/281474976710656]):=fun m=>rfl
 have big:∀ m:Nat,(m:Int)<=9223372036854775808->m<65536^32:=fun m hm=>by
  have:(65536:Nat)^4<=65536^32:=Nat.pow_le_pow_right (by decide) (by decide)
  have e:(65536:Nat)^4=18446744073709551616:=by decide
  omega
 refine aa iU (aa ag ?_)
 by_cases h:x ≥ 0
 ·refine aZ h ?_
  obtain⟨m,rfl⟩:=Int.eq_ofNat_of_zero_le h
  refine aa (jf (b:=65536) (by decide)) (aa (il (b:=65536) (by decide) h2) (aa (jf (b:=65536) (by decide)) (aa (il (b:=4294967296) (by decide) h2) (aa (jf (b:=65536) (by decide)) (aa (il (b:=281474976710656) (by decide) h2) ?_)))))
  refine aa (z:=ai m) ?_ rfl
  rw[d3,GO n (d1 m h2) (by simp) (by rw[d2];exact big m (by omega)),d2];rfl
 ·refine aY h ?_
  obtain⟨m,hm⟩:=Int.eq_ofNat_of_zero_le (show 0<=-(x+1) by omega)
  have h3:(m:Int)<=9223372036854775807:=by omega
  refine aa (aS (by simp only[inR];omega)) (aa (qn (by simp only[inR];omega)) ?_)
  rw[hm]
  refine aa (jf (b:=65536) (by decide)) (aa (il (b:=65536) (by decide) h3) (aa (jf (b:=65536) (by decide)) (aa (il (b:=4294967296) (by decide) h3) (aa (jf (b:=65536) (by decide)) (aa (il (b:=281474976710656) (by decide) h3) ?_)))))
  rw[d3]
  refine aa (NH n (b:=[1]) (d1 m h3) (fun d hd=>by simp at hd;omega) (by simp) (by simp)) (aa (z:=ai x) ?_ rfl)
  rw[d2]
  have e1:aL [1]=1:=rfl
  rw[e1,GO n (bH _) ?_ ?_,aG]
  ·congr 2;simp only[sgn,if_true];omega
  ·have:=bX 32 _ (big (m+1) (by omega));omega
  ·rw[aG];exact big (m+1) (by omega)
end Go.Proofs.YtjjjkojfijpeeaaGreat.Sy
end
section
set_option linter.unusedVariables false
namespace Go.Proofs.YtjjjkojfijpeeaaGreat.Sy
open Go Go.Proofs Go.Proofs.YtjjjkojfijpeeaaGreat.Geo
def In(x:Int):Prop:=x.natAbs<65536^32
theorem In.of{x:Int}(h:inR x):In x:=by
 have:(65536:Nat)^4<=65536^32:=Nat.pow_le_pow_right (by decide) (by decide)
 have e:(65536:Nat)^4=18446744073709551616:=by decide
 obtain⟨h1,h2⟩:=h
 unfold In;omega
theorem gz(m i:Nat):dA (av m) i=m/4294967296^i%4294967296:=by
 have e1:65536^(2*i)=4294967296^i:=by rw[Nat.pow_mul]
 have e2:65536^(2*i+1)=4294967296^i*65536:=by rw[Nat.pow_succ,e1]
 unfold dA
 rw[np,np,e1,e2,<-Nat.div_div_eq_div_mul]
 generalize m/4294967296^i=q
 omega
theorem Hm(m:Nat):dA (av m) 0=m%4294967296:=by rw[gz,Nat.pow_zero,Nat.div_one]
theorem Fw(m:Nat):dA (av m) 1=m/4294967296%4294967296:=by rw[gz,Nat.pow_one]
theorem GZ{m i:Nat}(h:m<18446744073709551616)(hi:2<=i):dA (av m) i=0:=by
 rw[gz]
 have:(4294967296:Nat)^2<=4294967296^i:=Nat.pow_le_pow_right (by decide) hi
 rw[Nat.div_eq_of_lt (by omega)]
theorem FR{a b:Nat}:D.beq (U a) (U b)=decide (a=b):=by
 simp only[D.beq,decide_true,Bool.true_and]
 by_cases h:a=b
 ·simp[h]
 ·simp[h];omega
theorem qV{m:Nat}(hm:m<65536^32)(h:∀ i,i<16->dA (av m) i=0):m=0:=by
 have hz:∀ i,i<32->(av m).getD i 0=0:=fun i hi=>by
  have:=h (i/2) (by omega)
  unfold dA at this
  rcases Nat.mod_two_eq_zero_or_one i with e|e
  ·rw[show 2*(i/2)=i by omega] at this;omega
  ·rw[show 2*(i/2)+1=i by omega] at this;omega
 have hv:∀ k,k<=32->vt (av m) k=0:=fun k=>by
  induction k with
  | zero=>intro _;rfl
  | succ k ih=>intro hk;rw[vt,ih (by omega),hz k (by omega)];simp
 have:=hv 32 (by omega)
 rw[gm (bX 32 _ hm),aG] at this
 exact this
def zB(m i:Nat):Bool:=(List.range i).all fun k=>decide (dA (av m) k=0)
theorem EB(m i:Nat):zB m (i+1)=(zB m i&&decide (dA (av m) i=0)):=by
 unfold zB;rw[List.range_succ,List.all_append];simp
theorem Lt(n:Nat){x:Int}(hx:In x):cA (n+1) 139 [ai x]=some (.bool true):=by
 rw[J1]
 unfold Fn
 have fin:∀ z:Bool,(z=true->x=0)->(Option.bind (D.get (ai x) [0]) fun x10=>Option.bind (D.truth x10) fun b11=>
   if b11 then(Option.bind (D.truth (.bool z)) fun b12=>Option.bind (if b12 then(Option.bind (D.get (ai x) [1]) fun x13=>Option.bind (D.un .not x13) fun x14=>D.truth x14) else(some false)) fun b15=>
   some (D.bool b15)) else(Option.bind (D.un .not (.bool z)) fun x16=>Option.bind (D.truth x16) fun b17=>
   Option.bind (if b17 then(some true) else(Option.bind (D.get (ai x) [1]) fun x18=>Option.bind (D.un .not x18) fun x19=>D.truth x19)) fun b20=>some (D.bool b20)))=some (.bool true):=by
  intro z hz
  refine aa (z:=.bool false) rfl (aa (z:=false) rfl ?_)
  rw[if_neg (by decide)]
  refine aa (z:=.bool (!z)) rfl (aa (z:=!z) rfl ?_)
  cases z with
  | false=>rfl
  | true=>
   have:=hz rfl
   subst this
   rfl
 refine bq (fun i s=>s=[.bool (zB x.natAbs i),I (i:Int)]) 16 0 (Nat.zero_le _) rfl (fun i hi s hJ=>?_) (fun s hJ=>?_)
 ·subst hJ
  left
  refine⟨_,?_,rfl⟩
  refine aa am (aa ag (aZ (by show(i:Int)<16;omega) (aa ag (aa (z:=zB x.natAbs (i+1)) ?_ (aa (aS (aK (i:=i) (by omega))) rfl)))))
  rw[EB]
  cases zB x.natAbs i with
  | false=>rfl
  | true=>
   rw[if_pos rfl]
   refine aa (aE hi) (aa (cX hi) ?_)
   show D.truth (D.bool (D.beq (U (dA (av x.natAbs) i)) (U 0)))=_
   rw[FR,ag];rfl
 ·subst hJ
  refine⟨(0,[.bool (zB x.natAbs 16)]),?_,?_⟩
  ·exact aa am (aa ag (aY (by decide) rfl))
  ·refine fin _ fun h=>?_
   have:=qV hx (fun i hi=>of_decide_eq_true (List.all_eq_true.1 h i (List.mem_range.2 hi)))
   omega
theorem AH(n:Nat){x:Int}(hx:In x):cA (n+2) 76 [ai x]=some (.bool true):=by
 rw[N6]
 unfold Il
 exact aa (Lt n hx) (aa ag rfl)
theorem Ch(n:Nat){x:Int}(hx:x.natAbs<4611686018427387904):cA (n+3) 124 [ai x]=some (.tup [I x,.bool true]):=by
 have hin:In x:=In.of (by simp only[inR];omega)
 rw[G1]
 unfold BE
 have l1:=Fw x.natAbs
 refine aa (AH n hin) (aa cO (aa ag (aa (z:=false) ?_ (aa ag ?_))))
 ·rw[if_neg (by decide)]
  refine aa (cX (i:=1) (by decide)) ?_
  rw[l1]
  have:D.bin .geq (U (x.natAbs/4294967296%4294967296)) (.int .u32 1073741824)=some (.bool false):=by
   simp only[D.bin,if_true]
   rw[decide_eq_false (by omega)]
  exact aa this rfl
 ·rw[if_neg (by decide)]
  refine bq (fun i s=>s=[I (i:Int)]/\2<=i) 16 2 (by decide) ⟨rfl,by decide⟩ (fun i hi s hJ=>?_) (fun s hJ=>?_)
  ·obtain⟨rfl,h2⟩:=hJ
   left
   refine⟨_,?_,rfl,by omega⟩
   refine aa am (aa ag (aZ (by show(i:Int)<16;omega) ?_))
   refine aa (aE hi) (aa (cX hi) ?_)
   rw[GZ (by omega) h2]
   refine aa (z:=false) rfl ?_
   rw[if_neg (by decide)]
   exact aa (aS (aK (i:=i) (by omega))) rfl
  ·obtain⟨rfl,_⟩:=hJ
   refine⟨(1,[]),aa am (aa ag (aY (by decide) rfl)),?_⟩
   rw[if_neg (by decide)]
   have e0:=Hm x.natAbs
   refine aa (cX (i:=1) (by decide)) (aa (oZ (th (bH _) 1)) ?_)
   rw[l1]
   refine aa (gL (by simp only[inR];omega)) (aa (cX (i:=0) (by decide)) (aa (oZ (th (bH _) 0)) ?_))
   rw[e0]
   refine aa (aS (by simp only[inR];omega)) (aa (z:=.bool (decide (x<0))) rfl (aa ag ?_))
   by_cases hx0:x<0
   ·refine aZ hx0 ?_
    refine aa (qn (by simp only[inR];omega)) ?_
    congr 4;omega
   ·refine aY hx0 ?_
    congr 4;omega
theorem LE(n:Nat){x:Int}(hx:In x):cA (n+3) 142 [ai x]=some (ai x.natAbs):=by
 rw[LP]
 unfold Eb
 have hl:=bX 32 _ hx
 refine aa (AH n hx) (aa cO (aa ag ?_))
 refine aa (Da n hx) (aa (z:=ai x.natAbs) ?_ rfl)
 rw[GO n (bH _) (by omega) (by rw[aG];exact hx),aG];rfl
theorem KU(n:Nat){a b:List Nat}(ha:dl a)(hb:dl b)(hla:a.length<=900000)(hlb:b.length<=900000):cA (n+2) 78 [.sl (ab a),.sl (ab b)]=some (.bool (decide (aL a<aL b))):=by
 rw[OW]
 unfold Ij
 obtain⟨M,hM⟩:∃ M,M=max a.length b.length:=⟨_,rfl⟩
 have hmax:D.max2 (D.int .i64 (ab a).length) (D.int .i64 (ab b).length)=some (I (M:Int)):=by
  rw[CX,ah,ah,hM];congr 2;omega
 have hva:vt a M=aL a:=gm (by omega)
 have hvb:vt b M=aL b:=gm (by omega)
 refine aa (z:=ab a) rfl (aa (z:=ab b) rfl (aa hmax (aa (ew (by simp only[inR];omega)) ?_)))
 refine bq (fun i s=>s=[I ((M:Int)-1-i)]/\(aL a<aL b↔vt a (M-i)<vt b (M-i))) M 0 (Nat.zero_le _) ⟨by simp,by simp[hva,hvb]⟩ (fun i hi s hJ=>?_) (fun s hJ=>?_)
 ·obtain⟨rfl,hz⟩:=hJ
  obtain⟨k,hk⟩:∃ k,M-i=k+1:=⟨M-i-1,by omega⟩
  rw[hk,vt,vt] at hz
  have e1:(M:Int)-1-i=(k:Int):=by omega
  rw[e1]
  have la:=qm ha k
  have lb:=qm hb k
  have q1:=Ap n a k
  have q2:=Ap n b k
  by_cases hab:a.getD k 0=b.getD k 0
  ·left
   refine⟨[I ((M:Int)-1-(i+1:Nat))],?_,rfl,?_⟩
   ·refine aa iU (aa ag (aZ (by show(k:Int) ≥ 0;omega) (aa q1 (aa q2 (aa (z:=false) ?_ ?_)))))
    ·rw[hab,fe,decide_eq_true rfl];rfl
    ·rw[if_neg (by decide)]
     refine aa (ew (by simp only[inR];omega)) ?_
     congr 4;omega
   ·rw[hz,hab,show M-(i+1)=k by omega];omega
  ·right
   refine⟨(0,[.bool (decide (a.getD k 0<b.getD k 0))]),?_,?_⟩
   ·refine aa iU (aa ag (aZ (by show(k:Int) ≥ 0;omega) (aa q1 (aa q2 (aa (z:=true) ?_ ?_)))))
    ·rw[fe,decide_eq_false hab];rfl
    ·rw[if_pos rfl]
     refine aa q1 (aa q2 (aa am ?_))
     simp
   ·rw[if_pos rfl]
    show some (D.bool (decide (a.getD k 0<b.getD k 0)))=_
    congr 3
    rw[eq_iff_iff,hz]
    generalize a.getD k 0=u at *
    generalize b.getD k 0=v at *
    generalize 65536^k=B at *
    constructor
    ·intro h
     have:(u+1)*B<=v*B:=Nat.mul_le_mul_right _ h
     rw[Nat.add_mul] at this
     omega
    ·intro h
     rcases Nat.lt_or_ge u v with h1|h1
     ·exact h1
     ·have:(v+1)*B<=u*B:=Nat.mul_le_mul_right _ (by omega)
      rw[Nat.add_mul] at this
      omega
 ·obtain⟨rfl,hz⟩:=hJ
  refine⟨(1,[]),?_,?_⟩
  ·exact aa iU (aa ag (aY (by show ¬ ((M:Int)-1-(M:Nat)) ≥ 0;omega) rfl))
  ·rw[if_neg (by decide)]
   have:¬ aL a<aL b:=by rw[hz];simp[vt]
   rw[decide_eq_false this]
theorem Mw(n:Nat){x y:Int}(hx:In x)(hy:In y):cA (n+3) 32 [ai x,ai y]=some (I (ba x y)):=by
 rw[u32]
 unfold Ix
 have hlx:=bX 32 _ hx
 have hly:=bX 32 _ hy
 have gx:=AH n hx
 have gy:=AH n hy
 have dx:=Da n hx
 have dy:=Da n hy
 refine aa gx (aa cO (aa ag (aa (z:=false) rfl (aa (z:=false) rfl ?_))))
 rw[if_neg (by decide)]
 refine aa gx (aa cO (aa (z:=false) rfl ?_))
 rw[if_neg (by decide)]
 refine aa gy (aa cO (aa (z:=false) rfl ?_))
 rw[if_neg (by decide)]
 refine aa (z:=.bool (decide (x<0))) rfl (aa (z:=.bool (decide (y<0))) rfl ?_)
 have l1:=KU n (bH x.natAbs) (bH y.natAbs) (by omega) (by omega)
 have l2:=KU n (bH y.natAbs) (bH x.natAbs) (by omega) (by omega)
 simp only[aG] at l1 l2
 have hb:∀ p q:Bool,D.truth (.bool (!(D.beq (.bool p) (.bool q))))=some (!(p==q)):=fun p q=>rfl
 rw[hb]
 refine aa rfl ?_
 by_cases h1:x<0<;>by_cases h2:y<0
 ·rw[decide_eq_true h1,decide_eq_true h2,if_neg (by decide)]
  refine aa dx (aa dy (aa (z:=(0,[.sl (ab (av y.natAbs)),.sl (ab (av x.natAbs))])) ?_ ?_))
  ·refine aa (z:=.bool true) (by rw[show D.get (ai x) [1]=some (.bool (decide (x<0))) from rfl,decide_eq_true h1]) (aa (z:=true) rfl ?_)
   rw[if_pos rfl]
   exact aa dy (aa dx rfl)
  ·refine aa l2 (aa l1 (aa ag ?_))
   by_cases h3:y.natAbs<x.natAbs
   ·refine aZ h3 ?_
    simp[ba,show x<y by omega]
   ·refine aY h3 (aa ag ?_)
    by_cases h4:x.natAbs<y.natAbs
    ·refine aZ h4 ?_
     simp[ba,show ¬ x<y by omega,show y<x by omega]
    ·refine aY h4 ?_
     simp[ba,show ¬ x<y by omega,show ¬ y<x by omega]
 ·rw[decide_eq_true h1,decide_eq_false h2,if_pos (by decide)]
  refine aa (z:=.bool true) (by rw[show D.get (ai x) [1]=some (.bool (decide (x<0))) from rfl,decide_eq_true h1]) (aa (z:=true) rfl ?_)
  simp[ba,show x<y by omega]
 ·rw[decide_eq_false h1,decide_eq_true h2,if_pos (by decide)]
  refine aa (z:=.bool false) (by rw[show D.get (ai x) [1]=some (.bool (decide (x<0))) from rfl,decide_eq_false h1]) (aa (z:=false) rfl ?_)
  simp[ba,show ¬ x<y by omega,show y<x by omega]
 ·rw[decide_eq_false h1,decide_eq_false h2,if_neg (by decide)]
  refine aa dx (aa dy (aa (z:=(0,[.sl (ab (av x.natAbs)),.sl (ab (av y.natAbs))])) ?_ ?_))
  ·refine aa (z:=.bool false) (by rw[show D.get (ai x) [1]=some (.bool (decide (x<0))) from rfl,decide_eq_false h1]) (aa (z:=false) rfl rfl)
  ·refine aa l1 (aa l2 (aa ag ?_))
   by_cases h3:x.natAbs<y.natAbs
   ·refine aZ h3 ?_
    simp[ba,show x<y by omega]
   ·refine aY h3 (aa ag ?_)
    by_cases h4:y.natAbs<x.natAbs
    ·refine aZ h4 ?_
     simp[ba,show ¬ x<y by omega,show y<x by omega]
    ·refine aY h4 ?_
     simp[ba,show ¬ x<y by omega,show ¬ y<x by omega]
end Go.Proofs.YtjjjkojfijpeeaaGreat.Sy
end
