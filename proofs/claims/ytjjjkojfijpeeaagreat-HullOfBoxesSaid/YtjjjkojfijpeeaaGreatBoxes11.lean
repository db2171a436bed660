/- Part 11 of the proof that HullOfBoxes answers true at every input -/
import Derived.Test.YtjjjkojfijpeeaaGreatBoxes08
import Derived.Test.YtjjjkojfijpeeaaGreatBoxes10
set_option linter.unusedVariables false
set_option linter.unusedSimpArgs false
set_option linter.unnecessarySimpa false
section
set_option linter.unusedVariables false
namespace Go.Proofs.YtjjjkojfijpeeaaGreat.Sy
open Go Go.Proofs Go.Sort Go.Lib
def EJ(e:Ty)(L:List D)(k:Nat):Nat->AV:=fun i=>if i=0 then .d (.sl e) (.sl L) else if i=3 then .d (.int .i64) (.int .i64 (k:Nat)) else .undef
def Ef(t k:Nat):Nat->AV:=fun i=>if i=t then .d (.int .i64) (.int .i64 (k:Nat)) else .undef
def ER(e:Ty)(N:List D)(k:Nat):Nat->AV:=fun i=>if i=4 then .d (.sl e) (.sl N) else if i=5 then .d (.int .i64) (.int .i64 (k:Nat)) else .undef
section
variable{P:Program}{E:Env}{r:Root}{ro:Option Nat}{nn:Nat}
theorem yZ(c:Cx)(n:Int):AR c (.d (.int .i64) (.int .i64 n)) (.int .i64 n):=.inl ⟨rfl,⟨n,rfl⟩,fun _ h=>(by cases h),(bq (ds:=[.int .i64 n]) (by intro d hd;rw[List.mem_singleton.1 hd];rfl)).2 rfl⟩
theorem wN{e:Ty}(hce:aW e=true){x:D}(hx:wt e x):nag (x.flat.map bf):=fun v hv=>by
 obtain⟨q,hq,rfl⟩:=List.mem_map.1 hv
 have:=fe e x hce hx q hq
 cases q<;>simp only[gD] at this<;>first|(cases this;done)|rfl
theorem HL.elem{e:Ty}(hne:af e=true)(hp:0<e.size){W:World}{b off:Nat}{M:List D}(h:HL e W b off M)(hwt:∀ x∈M,wt e x){j:Nat}{x:D}(hx:M[j]?=some x)(i:Nat)(c:Value)(hc:(x.flat.map bf)[i]?=some c):W.cell? ⟨b,off+j*e.size+i,none⟩=some c:=by
 rw[List.getElem?_map] at hc
 cases hd:x.flat[i]? with
 | none=>rw[hd] at hc;cases hc
 | some d=>
  rw[hd] at hc
  simp only[Option.map_some,Option.some.injEq] at hc
  subst hc
  have hxl:x.flat.length=e.size:=bu e x (hwt x (List.mem_of_getElem? hx)) hne
  have hi:i<e.size:=by rw[<-hxl];exact(List.getElem?_eq_some_iff.1 hd).1
  have:=h.2 (j*e.size+i) d (by
   rw[gO hp _ fun y hy=>bu e y (hwt y hy) hne]
   rw[show(j*e.size+i)/e.size=j by rw[Nat.mul_comm,Nat.mul_add_div hp,Nat.div_eq_of_lt hi,Nat.add_zero],show(j*e.size+i)%e.size=i by rw[Nat.mul_comm,Nat.mul_add_mod,Nat.mod_eq_of_lt hi],hx]
   exact hd)
  rw[show off+j*e.size+i=off+(j*e.size+i) by omega]
  exact this
set_option maxHeartbeats 2000000 in
theorem wW(hE:EnvOk P E){e:Ty}(hce:aW e=true)(hne:af e=true)(hp:0<e.size){L:List D}(hwt:∀ x∈L,wt e x)(hlen:L.length<=1073741824){f:Nat}{fn:Func}(hfn:P.funcs[f]?=some fn)
  {i0 i1 i2 i3 i4 i5 i6 i7 i8 i9 i10 i11 Eh i13 i14 i15 i16 b0 b1 b2 b3:Nat} {R0 R1 R2 R3 R4 R5 R6 R7 R8 R9 R10 R11 R12 R13 R14 R15 R16:Array Oper}
  (hbody:fn.body=some (.seq (.region i0 R0 false) (.seq (.seq (.region i1 R1 false) (.cond (.tmp 8) (.seq (.region i2 R2 false) .ret) .skip)) (.seq (.seq (.region i3 R3 false) (.block b0 (.loop (.seq (.seq (.region i4 R4 false) (.cond (.tmp 13) .skip (.exit b0))) (.seq (.block b1 (.seq (.region i6 R6 true) (.cond (.tmp 25) (.seq (.region i7 R7 false) (.seq (.seq (.region i8 R8 false) (.block b2 (.loop (.seq (.seq (.region i9 R9 false) (.cond (.tmp 32) .skip (.exit b2))) (.seq (.block b3 (.seq (.region i11 R11 true) (.cond (.tmp 44) (.seq (.region Eh R12 false) (.region i13 R13 false)) .skip))) (.region i10 R10 false)))))) (.seq (.region i14 R14 false) (.seq (.region i15 R15 false) .ret)))) .skip))) (.region i5 R5 false)))))) (.seq (.region i16 R16 false) .ret)))))
  (hnt:fn.ntmps=61) (hres:fn.results=#[.tmp 2]) {Ts Te:Nat} (hTs:E.L Ts=some (.sl e)) (hTe:E.L Te=some e)
  {y1 y2 y3 y4 y5 y6 y7 y8 y9 y10 y11 y12 y13 y14 y15 y16 y17 y18 y19 y20 y21 y22 y23 y24 y25 y26 y27:TypeId} {p1 p2 p3 p4 p5 p6 p7 p8 p9 p10 p11 p12 p13 p14 p15 p16 p17 Iy p19 p20 LE p22 p23 p24 p25 p26 p27:String} {f1 f2 f3 f4 f5 f6 f7 f8 f9 f10 f11 f12 f13 f14 f15 f16 f17 f18 f19 f20 f21 f22 f23 f24 f25 f26 f27:Array Edge}
  (hR0:R0.toList=[⟨some 2,.assign (.const (.slice none 0 0)),y1,p1,f1,none⟩]) (hR2:R2.toList=[⟨some 9,.move (.tmp 0),y2,p2,f2,none⟩,⟨some 2,.assign (.tmp 9),y3,p3,f3,none⟩]) (hR3:R3.toList=[⟨some 3,.assign (.const (.int .i64 1)),y4,p4,f4,none⟩])
  (hR7:R7.toList=[⟨some 26,.move (.tmp 0),y5,p5,f5,none⟩,⟨some 27,.move (.tmp 3),y6,p6,f6,none⟩,⟨some 28,.slice Ts (.tmp 26) (some (.tmp 27)) none none,y7,p7,f7,none⟩,⟨some 4,.assign (.tmp 28),y8,p8,f8,none⟩])
  (hR8:R8.toList=[⟨some 5,.assign (.const (.int .i64 1)),y9,p9,f9,none⟩])
  (hR12:R12.toList=[⟨some 45,.move (.tmp 0),y10,p10,f10,none⟩,⟨some 46,.move (.tmp 3),y11,p11,f11,none⟩,⟨some 47,.move (.tmp 4),y12,p12,f12,none⟩,⟨some 48,.move (.tmp 5),y13,p13,f13,none⟩,⟨some 49,.indexAddr Ts (.tmp 47) (.tmp 48),y14,p14,f14,none⟩,⟨some 50,.load Te (.tmp 49),y15,p15,f15,none⟩,
   ⟨some 51,.indexAddr Ts (.tmp 45) (.tmp 46),y16,p16,f16,none⟩,⟨none,.store Te (.tmp 51) (.tmp 50),y17,p17,f17,none⟩])
  (hR14:R14.toList=[⟨some 54,.move (.tmp 0),y18,Iy,f18,none⟩,⟨some 55,.move (.tmp 3),y19,p19,f19,none⟩,⟨some 56,.slice Ts (.tmp 54) (some (.tmp 55)) none none,y20,p20,f20,none⟩,⟨none,.call ⟨.builtin .clear,#[.tmp 56],#[Ts]⟩,y21,LE,f21,none⟩])
  (hR15:R15.toList=[⟨some 57,.move (.tmp 0),y22,p22,f22,none⟩,⟨some 58,.move (.tmp 3),y23,p23,f23,none⟩,⟨some 59,.slice Ts (.tmp 57) none (some (.tmp 58)) none,y24,p24,f24,none⟩,⟨some 2,.assign (.tmp 59),y25,p25,f25,none⟩])
  (hR16:R16.toList=[⟨some 60,.move (.tmp 0),y26,p26,f26,none⟩,⟨some 2,.assign (.tmp 60),y27,p27,f27,none⟩])
  (hv1:ev E (.region i1 R1 false) .leaf D (dS 61 [0] (fun i=>if i=0 then .d (.sl e) (.sl L) else .undef)) (kW [(8,.bool)])=some (.tup [.bool (decide ((L.length:Int)<2))]))
  (hv4:∀ k:Nat,ev E (.region i4 R4 false) .leaf D (dS 61 [0,3] (EJ e L k)) (kW [(13,.bool)])=some (.tup [.bool (decide ((k:Int)<(L.length:Nat)))]))
  {an6 an11:Ann} (hv6:∀ (k:Nat) (x y:D),k<1073741824->L[k]?=some x->L[k+1]?=some y->ev E (.region i6 R6 true) an6 D (dS 61 [0,3] (EJ e L (k+1))) (kW [(25,.bool)])=some (.tup [.bool (y.beq x)]))
  (hv5:∀ k:Nat,ev E (.region i5 R5 false) .leaf D (dS 61 [0] (Ef 3 k)) (kW [(3,.int .i64)])=some (.tup [.int .i64 (IntKind.wrap .i64 ((k:Int)+1))]))
  (hv13:∀ k:Nat,ev E (.region i13 R13 false) .leaf D (dS 61 [0,4,5] (Ef 3 k)) (kW [(3,.int .i64)])=some (.tup [.int .i64 (IntKind.wrap .i64 ((k:Int)+1))]))
  (hv10:∀ k:Nat,ev E (.region i10 R10 false) .leaf D (dS 61 [0,3,4] (Ef 5 k)) (kW [(5,.int .i64)])=some (.tup [.int .i64 (IntKind.wrap .i64 ((k:Int)+1))]))
  (hv9:∀ (N:List D) (k:Nat),ev E (.region i9 R9 false) .leaf D (dS 61 [0,3,4,5] (ER e N k)) (kW [(32,.bool)])=some (.tup [.bool (decide ((k:Int)<(N.length:Nat)))]))
  (hv11:∀ (N:List D) (k:Nat) (x y:D),k<1073741824->N[k]?=some x->N[k+1]?=some y->ev E (.region i11 R11 true) an11 D (dS 61 [0,3,4,5] (ER e N (k+1))) (kW [(44,.bool)])=some (.tup [.bool (!(y.beq x))]))
  {W0:World} (hX:dF r W0) {S0:Nat->Nat->Prop} (hSb0:∀ b o,S0 b o->b<W0.heap.size) (hSo0:∀ b o,S0 b o->r.Old b->r.S0 b o) {sv:Value} (hsv:eN W0 S0 (.sl L) sv) (hown:2<=L.length->∃ b off cap,sv=.slice (some ⟨b,off,none⟩) L.length cap/\HL e W0 b off L/\¬ r.Old b) :
  Calls P f #[sv] W0 fun en W'=>∃ v,en=.returned v/\∃ S',dF r W'/\eN W' S' (.sl (iU L)) v/\(∀ b o,S' b o->b<W'.heap.size)/\(∀ b o,S' b o->r.Old b->r.S0 b o):=by
 have hls:bh P (.sl e) Ts=true:=(hE.lay Ts _ hTs).resolve_left (by rintro⟨ts,h⟩;cases h)
 have hle:bh P e Te=true:=(hE.lay Te _ hTe).resolve_left (by rintro⟨ts,h⟩;subst h;simp[aW] at hce)
 refine cO hfn hbody ?_
 generalize ha0:Act.mk _ _=a0
 have hsz0:a0.tmps.size=61:=by rw[<-ha0];simp[hnt]
 have e0:a0.tmps.getD 0 undef=sv:=by rw[<-ha0];simp[Array.getD]
 have hd0:a0.defers=[]:=by rw[<-ha0]
 clear ha0
 refine wpIn_seq (wpIn_region_list ?_)
 rw[hR0]
 refine bN (dh ?_)
 generalize ha1:Act.put _ (some 2) _=a1
 have hsz1:a1.tmps.size=61:=by rw[<-ha1];simp only[al,hsz0]
 have e1:a1.tmps.getD 0 undef=sv:=by rw[<-ha1];simp only[av,hsz0,e0,reduceIte,Nat.reduceLT,Nat.reduceEqDiff]
 have hd1:a1.defers=[]:=by rw[<-ha1];simp only[aT,hd0]
 clear ha1
 simp only[Exit.then]
 have ARL:∀ c:Cx,c.w=W0->c.S=S0->AR c (.d (.sl e) (.sl L)) sv:=fun c h1 h2=>.inl ⟨by simp only[af];exact hne,⟨L,rfl,hwt⟩,by rw[h1,h2];exact hsv⟩
 refine wpIn_seq (wpIn_seq (gc hE (lk:=[0]) (f:=fun i=>if i=0 then .d (.sl e) (.sl L) else .undef) hsz1 hd1 hSb0 (fun t ht=>?_) (fun t ht=>by rw[if_neg (by omega)]) hv1 fun a2 os2 d2 hd2 z1 z2 z3 z4=>?_))
 ·by_cases h5:t=0
  ·subst h5;rw[if_pos rfl,e1];exact ARL _ rfl rfl
  ·rw[if_neg h5];simp only[AR]
 have t8:a2.tmps.getD 8 undef=.bool (decide ((L.length:Int)<2)):=z4 0 8 .bool _ rfl rfl rfl
 have e2:a2.tmps.getD 0 undef=sv:=(z3 0 (by simp)).trans e1
 simp only[u9,Exit.then]
 by_cases h2:L.length<2
 ·
  refine wpIn_cond_true (t8.trans (by rw[decide_eq_true (by omega)])) (wpIn_seq (wpIn_region_list ?_))
  rw[hR2]
  refine co (bN (dh (wpIn_ret ⟨by simp only[aT,z2],sv,(results_tmp hres _ _ _).trans ?_,sv,rfl,S0,fC hX hd2,?_,fun b o hb=>?_,hSo0⟩)))
  ·simp only[aF,av,al,z1,e2,reduceIte,Nat.reduceLT,Nat.reduceEqDiff]
  ·rw[rT h2];exact hsv.mono (fun b o hb=>dm (hSb0 b o hb)) fun _ _ h=>h
  ·exact Nat.lt_of_lt_of_le (hSb0 b o hb) (by simp[aw])
 obtain⟨b,off,cap,rfl,hHL0,hbo⟩:=hown (by omega)
 have hcap:L.length<=cap:=by
  have hq:CR W0 S0 (.sl L) (.slice (some ⟨b,off,none⟩) L.length cap):=hsv.2.2 0 _ _ rfl rfl
  obtain⟨_,_,_,_,q1,_,q2,_⟩:=hq.elems
  cases q1;exact q2
 refine wpIn_cond_false (t8.trans (by rw[decide_eq_false (by omega)])) (wpIn_skip ?_)
 simp only[Exit.then]
 refine wpIn_seq (wpIn_seq (wpIn_region_list ?_))
 rw[hR3]
 refine bN (dh ?_)
 generalize ha3:Act.put _ (some 3) _=a3
 have hsz3:a3.tmps.size=61:=by rw[<-ha3];simp only[al,z1]
 have e3:a3.tmps.getD 0 undef=.slice (some ⟨b,off,none⟩) L.length cap:=by rw[<-ha3];simp only[av,z1,e2,reduceIte,Nat.reduceLT,Nat.reduceEqDiff]
 have k3:a3.tmps.getD 3 undef=.int .i64 (1:Nat):=by rw[<-ha3];simp only[av,z1,reduceIte,Nat.reduceLT];rfl
 have hd3:a3.defers=[]:=by rw[<-ha3];simp only[aT,z2]
 clear ha3 t8 z1 z2 z3 z4
 simp only[Exit.then]
 refine wpIn_block ?_
 have hX3:=fC (os:=os2) hX hd2
 have hH3:=hHL0.grow os2 d2
 generalize aw W0 os2 d2=W3 at hX3 hH3 ⊢
 refine jo (m:=L.length) (fun m a W=>∃ k,1<=k/\m+k=L.length+1/\k<=L.length/\iU (L.take k)=L.take k/\HL e W b off L/\dF r W/\a.tmps.size=61/\a.defers=[]/\a.tmps.getD 0 undef=.slice (some ⟨b,off,none⟩) L.length cap/\a.tmps.getD 3 undef=.int .i64 (k:Nat))
  ⟨1,Nat.le_refl _,rfl,by omega,rT (by rw[List.length_take];omega),hH3,hX3,hsz3,hd3,e3,k3⟩ ?_
 clear hH3 hX3 hsz3 hd3 e3 k3
 rintro m a W ⟨k,c1,c2,c3,c4,hH,hXW,c5,c6,c7,c8⟩
 have ARf1:∀ (a:Act) (W:World),HL e W b off L->a.tmps.getD 0 undef=.slice (some ⟨b,off,none⟩) L.length cap->a.tmps.getD 3 undef=.int .i64 (k:Nat)->∀ t,t<61->AR ⟨W,fun b' _=>b'=b,fun _=>none,fun _=>none,fun _=>none,[]⟩ (EJ e L k t) (a.tmps.getD t undef):=fun a W hH c7 c8 t ht=>by
  unfold EJ
  by_cases h5:t=0
  ·subst h5;rw[if_pos rfl,c7]
   refine .inl ⟨by simp only[af];exact hne,⟨L,rfl,hwt⟩,jQ ?_⟩
   have:=hH.crl hce hne hwt (j:=0) (m:=L.length) (cap:=cap) (by omega) (by omega) hcap
   simpa using this
  ·rw[if_neg h5]
   by_cases h6:t=3
   ·subst h6;rw[if_pos rfl,c8];exact yZ _ _
   ·rw[if_neg h6];simp only[AR]
 have f1u:∀ t,61<=t->EJ e L k t=.undef:=fun t ht=>by unfold EJ;rw[if_neg (by omega),if_neg (by omega)]
 refine wpIn_seq (wpIn_seq (gc hE c5 c6 (S:=fun b' _=>b'=b) (fun b' _ hb=>by rw[hb];exact hH.lt) (ARf1 a W hH c7 c8) f1u (hv4 k) fun a4 os4 d4 hd4 z1 z2 z3 z4=>?_))
 have t13:a4.tmps.getD 13 undef=.bool (decide ((k:Int)<(L.length:Nat))):=z4 0 13 .bool _ rfl rfl rfl
 have e4:=(z3 0 (by simp)).trans c7
 have k4:=(z3 3 (by simp)).trans c8
 have hH4:=hH.grow os4 d4
 have hX4:=fC (os:=os4) hXW hd4
 generalize aw W os4 d4=W4 at hH4 hX4 ⊢
 clear z3 z4
 simp only[Exit.then]
 by_cases hk:k<L.length
 rotate_left
 ·
  have hkl:k=L.length:=by omega
  subst hkl
  refine wpIn_cond_false (t13.trans (by rw[decide_eq_false (by omega)])) (wpIn_exit ?_)
  simp only[Exit.then,Exit.inBlock,if_true]
  refine wpIn_seq (wpIn_region_list ?_)
  rw[hR16]
  refine co (bN (dh (wpIn_ret ⟨by simp only[aT,z2],.slice (some ⟨b,off,none⟩) L.length cap,(results_tmp hres _ _ _).trans ?_,_,rfl,fun b' _=>b'=b,hX4,?_,fun b' _ hb=>by rw[hb];exact hH4.lt,fun b' _ hb ho=>absurd ho (hb ▸ hbo)⟩)))
  ·simp only[aF,av,al,z1,e4,reduceIte,Nat.reduceLT,Nat.reduceEqDiff]
  ·rw[List.take_of_length_le (Nat.le_refl _)] at c4
   rw[c4]
   refine jQ ?_
   have:=hH4.crl hce hne hwt (j:=0) (m:=L.length) (cap:=cap) (by omega) (by omega) hcap
   simpa using this
 refine wpIn_cond_true (t13.trans (by rw[decide_eq_true (by omega)])) (wpIn_skip ?_)
 simp only[Exit.then]
 obtain⟨j,rfl⟩:∃ j,k=j+1:=⟨k-1,by omega⟩
 obtain⟨x,hx⟩:∃ x,L[j]?=some x:=⟨_,List.getElem?_eq_getElem (by omega)⟩
 obtain⟨y,hy⟩:∃ y,L[j+1]?=some y:=⟨_,List.getElem?_eq_getElem hk⟩
 refine wpIn_seq (wpIn_block (wpIn_seq (gc hE z1 z2 (S:=fun b' _=>b'=b) (fun b' _ hb=>by rw[hb];exact hH4.lt) (ARf1 a4 W4 hH4 e4 k4) f1u (hv6 j x y (by omega) hx hy) fun a5 os5 d5 hd5 u1 u2 u3 u4=>?_)))
 have t25:a5.tmps.getD 25 undef=.bool (y.beq x):=u4 0 25 .bool _ rfl rfl rfl
 have e5:=(u3 0 (by simp)).trans e4
 have k5:=(u3 3 (by simp)).trans k4
 have hH5:=hH4.grow os5 d5
 have hX5:=fC (os:=os5) hX4 hd5
 generalize aw W4 os5 d5=W5 at hH5 hX5 ⊢
 have hded:=wa hx hy
 clear z1 z2 u3 u4
 simp only[Exit.then]
 have st:∀ n:Nat,n<9223372036854775806->IntKind.wrap .i64 ((n:Int)+1)=((n+1:Nat):Int):=fun n hn=>by
  rw[show((n:Int)+1)=((n+1:Nat):Int) by omega];exact ml (by omega) (by omega)
 have AR2:∀ (a:Act) (W:World) (t k:Nat),a.tmps.getD t undef=.int .i64 (k:Nat)->∀ u,u<61->AR ⟨W,fun _ _=>False,fun _=>none,fun _=>none,fun _=>none,[]⟩ (Ef t k u) (a.tmps.getD u undef):=fun a W t k h u hu=>by
  unfold Ef
  by_cases h5:u=t
  ·subst h5;rw[if_pos rfl,h];exact yZ _ _
  ·rw[if_neg h5];simp only[AR]
 have f2u:∀ t k:Nat,t<61->∀ u,61<=u->Ef t k u=.undef:=fun t k ht u hu=>by unfold Ef;rw[if_neg (by omega)]
 by_cases hxy:y.beq x=true
 rotate_left
 ·
  have hxy':y.beq x=false:=by simpa using hxy
  refine wpIn_cond_false (t25.trans (by rw[hxy'])) (wpIn_skip ?_)
  simp only[Exit.inBlock,Exit.then]
  refine gc hE u1 u2 (S:=fun _ _=>False) (fun _ _ hb=>hb.elim) (AR2 a5 W5 3 (j+1) k5) (f2u 3 (j+1) (by decide)) (hv5 (j+1)) fun a6 os6 d6 hd6 q1 q2 q3 q4=>?_
  have t3:a6.tmps.getD 3 undef=.int .i64 (IntKind.wrap .i64 (((j+1:Nat):Int)+1)):=q4 0 3 (.int .i64) _ rfl rfl rfl
  refine⟨m-1,by omega,j+2,by omega,by omega,by omega,?_,hH5.grow os6 d6,fC hX5 hd6,q1,q2,(q3 0 (by simp)).trans e5,by rw[t3,st (j+1) (by omega)]⟩
  rw[hded,if_neg hxy,c4]
  have htk:L.take (j+1+1)=L.take (j+1)++L[j+1]?.toList:=List.take_add_one
  rw[hy] at htk
  exact htk.symm
 rw[if_pos hxy,c4] at hded
 refine wpIn_cond_true (t25.trans (by rw[hxy])) (wpIn_seq (wpIn_region_list ?_))
 rw[hR7]
 refine co (co (rN hls (A:=some ⟨b,off,none⟩) (len:=L.length) (cap:=cap) (lo:=j+1) (hi:=L.length) ?_ (by omega) (Nat.le_refl _) hcap (.inr ⟨_,rfl,?_⟩) (.inl ⟨rfl,rfl⟩) (bN (dh ?_))))
 ·simp only[aF,av,al,u1,e5,reduceIte,Nat.reduceLT,Nat.reduceEqDiff]
 ·simp only[aF,av,al,u1,k5,reduceIte,Nat.reduceLT,Nat.reduceEqDiff]
 obtain⟨s2v,hs2⟩:∃ s2v:Value,s2v=.slice (some ⟨b,off+(j+1)*e.size,none⟩) (L.length-(j+1)) (cap-(j+1)):=⟨_,rfl⟩
 have hsl:(if cap=j+1 then some (⟨b,off,none⟩:Addr) else Option.map (fun z:Addr=>z.add ((j+1)*e.size)) (some ⟨b,off,none⟩))=some ⟨b,off+(j+1)*e.size,none⟩:=by
  rw[if_neg (by omega),Option.map_some,bR]
 rw[hsl,<-hs2]
 generalize ha6:Act.put _ (some 4) _=a6
 have hsz6:a6.tmps.size=61:=by rw[<-ha6];simp only[al,u1]
 have e6:a6.tmps.getD 0 undef=.slice (some ⟨b,off,none⟩) L.length cap:=by rw[<-ha6];simp only[aF,av,al,u1,e5,reduceIte,Nat.reduceLT,Nat.reduceEqDiff]
 have k6:a6.tmps.getD 3 undef=.int .i64 ((j+1:Nat):Int):=by rw[<-ha6];simp only[aF,av,al,u1,k5,reduceIte,Nat.reduceLT,Nat.reduceEqDiff]
 have v6:a6.tmps.getD 4 undef=s2v:=by rw[<-ha6];simp only[aF,av,al,u1,reduceIte,Nat.reduceLT,Nat.reduceEqDiff]
 have hd6:a6.defers=[]:=by rw[<-ha6];simp only[aT,u2]
 clear ha6 hsl
 simp only[Exit.then]
 refine wpIn_seq (wpIn_seq (wpIn_region_list ?_))
 rw[hR8]
 refine bN (dh ?_)
 generalize ha7:Act.put _ (some 5) _=a7
 have hsz7:a7.tmps.size=61:=by rw[<-ha7];simp only[al,hsz6]
 have e7:a7.tmps.getD 0 undef=.slice (some ⟨b,off,none⟩) L.length cap:=by rw[<-ha7];simp only[av,hsz6,e6,reduceIte,Nat.reduceLT,Nat.reduceEqDiff]
 have k7:a7.tmps.getD 3 undef=.int .i64 ((j+1:Nat):Int):=by rw[<-ha7];simp only[av,hsz6,k6,reduceIte,Nat.reduceLT,Nat.reduceEqDiff]
 have v7:a7.tmps.getD 4 undef=s2v:=by rw[<-ha7];simp only[av,hsz6,v6,reduceIte,Nat.reduceLT,Nat.reduceEqDiff]
 have n7:a7.tmps.getD 5 undef=.int .i64 ((1:Nat):Int):=by rw[<-ha7];simp only[av,hsz6,reduceIte,Nat.reduceLT];rfl
 have hd7:a7.defers=[]:=by rw[<-ha7];simp only[aT,hd6]
 clear ha7
 simp only[Exit.then]
 refine wpIn_block ?_
 obtain⟨J2,hJ2⟩:∃ J2:Nat->Act->World->Prop,J2=fun m a W=>∃ (k2 k':Nat) (M:List D),1<=k2/\m+(j+1+k2)=L.length/\k'+1<=j+1+k2/\j+1<=k'/\HL e W b off M/\dF r W/\a.tmps.size=61/\a.defers=[]/\a.tmps.getD 0 undef=.slice (some ⟨b,off,none⟩) L.length cap/\a.tmps.getD 3 undef=.int .i64 (k':Nat)/\a.tmps.getD 4 undef=s2v/\a.tmps.getD 5 undef=.int .i64 (k2:Nat) ∧
  M.length=L.length/\(∀ z∈M,wt e z)/\M.drop (j+k2)=L.drop (j+k2)/\M.take k'=iU (L.take (j+1+k2)):=⟨_,rfl⟩
 refine jo (m:=L.length-(j+2)) J2 (by rw[hJ2];exact
  ⟨1,j+1,L,Nat.le_refl _,by omega,by omega,Nat.le_refl _,hH5,hX5,hsz7,hd7,e7,k7,v7,n7,rfl,hwt,rfl,hded.symm⟩) ?_
 clear hH5 hX5 hsz7 hd7 e7 k7 v7 n7 hsz6 e6 k6 v6 hd6 hH4 hX4 t25 u1 u2 e5 k5 t13 e4 k4
 intro m2 a W hj2
 rw[hJ2] at hj2
 obtain⟨k2,k',M,g1,g2,g3,g4,hH,hXW,s1,s2,s3,s4,s5,s6,hMl,hMw,hMd,hMt⟩:=hj2
 have hkn:k'<L.length:=by omega
 have hNl:(M.drop (j+1)).length=L.length-(j+1):=by rw[List.length_drop,hMl]
 have AR4:∀ (a:Act) (W:World),HL e W b off M->a.tmps.getD 4 undef=s2v->a.tmps.getD 5 undef=.int .i64 (k2:Nat)->∀ t,t<61->AR ⟨W,fun b' _=>b'=b,fun _=>none,fun _=>none,fun _=>none,[]⟩ (ER e (M.drop (j+1)) k2 t) (a.tmps.getD t undef):=fun a W hH c7 c8 t ht=>by
  unfold ER
  by_cases h5:t=4
  ·subst h5;rw[if_pos rfl,c7,hs2]
   exact .inl ⟨by simp only[af];exact hne,⟨_,rfl,fun z hz=>hMw z (List.mem_of_mem_drop hz)⟩,jQ (hH.crl hce hne hMw (j:=j+1) (m:=L.length-(j+1)) (cap:=cap-(j+1)) (by omega) (by omega) (by omega))⟩
  ·rw[if_neg h5]
   by_cases h6:t=5
   ·subst h6;rw[if_pos rfl,c8];exact yZ _ _
   ·rw[if_neg h6];simp only[AR]
 have f4u:∀ t,61<=t->ER e (M.drop (j+1)) k2 t=.undef:=fun t ht=>by unfold ER;rw[if_neg (by omega),if_neg (by omega)]
 refine wpIn_seq (wpIn_seq (gc hE s1 s2 (S:=fun b' _=>b'=b) (fun b' _ hb=>by rw[hb];exact hH.lt) (AR4 a W hH s5 s6) f4u (hv9 (M.drop (j+1)) k2) fun a8 os8 d8 hd8 z1 z2 z3 z4=>?_))
 have t32:a8.tmps.getD 32 undef=.bool (decide ((k2:Int)<((M.drop (j+1)).length:Nat))):=z4 0 32 .bool _ rfl rfl rfl
 rw[hNl] at t32
 have e8:=(z3 0 (by simp)).trans s3
 have k8:=(z3 3 (by simp)).trans s4
 have v8:=(z3 4 (by simp)).trans s5
 have n8:=(z3 5 (by simp)).trans s6
 have hH8:=hH.grow os8 d8
 have hX8:=fC (os:=os8) hXW hd8
 generalize aw W os8 d8=W8 at hH8 hX8 ⊢
 clear z3 z4 hH hXW s1 s2 s3 s4 s5 s6
 simp only[Exit.then]
 by_cases hk2:j+1+k2<L.length
 rotate_left
 ·
  have hend:j+1+k2=L.length:=by omega
  rw[hend,List.take_of_length_le (Nat.le_refl _)] at hMt
  refine wpIn_cond_false (t32.trans (by rw[decide_eq_false (by omega)])) (wpIn_exit ?_)
  simp only[Exit.then,Exit.inBlock,if_true]
  refine wpIn_seq (wpIn_region_list ?_)
  rw[hR14]
  obtain⟨⟨row,hr1,hr2⟩,_⟩:=hH8
  have hmul:(k'+(L.length-k'))*e.size=M.length*e.size:=by rw[hMl];congr 1;omega
  rw[Nat.add_mul] at hmul
  have hsl:(if cap=k' then some (⟨b,off,none⟩:Addr) else Option.map (fun z:Addr=>z.add (k'*e.size)) (some ⟨b,off,none⟩))=some ⟨b,off+k'*e.size,none⟩:=by
   rw[if_neg (by omega),Option.map_some,bR]
  refine co (co (rN hls (A:=some ⟨b,off,none⟩) (len:=L.length) (cap:=cap) (lo:=k') (hi:=L.length) ?_ (by omega) (Nat.le_refl _) hcap (.inr ⟨_,rfl,?_⟩) (.inl ⟨rfl,rfl⟩) (DL hls hp (b:=b) (off:=off+k'*e.size) (m:=L.length-k') (cap:=cap-k') (row:=row) ?_ hr1 (by omega) (by omega) fun cs hcs v=>dh ?_)))
  ·simp only[aF,av,al,z1,e8,reduceIte,Nat.reduceLT,Nat.reduceEqDiff]
  ·simp only[aF,av,al,z1,k8,reduceIte,Nat.reduceLT,Nat.reduceEqDiff]
  ·rw[hsl];simp only[aF,av,al,z1,reduceIte,Nat.reduceLT]
  have hput:∀ a:Act,a.put none v=a:=fun _=>rfl
  rw[hput]
  generalize ha9:Act.put _ (some 56) _=a9
  have hsz9:a9.tmps.size=61:=by rw[<-ha9];simp only[al,z1]
  have e9:a9.tmps.getD 0 undef=.slice (some ⟨b,off,none⟩) L.length cap:=by rw[<-ha9];simp only[aF,av,al,z1,e8,reduceIte,Nat.reduceLT,Nat.reduceEqDiff]
  have k9:a9.tmps.getD 3 undef=.int .i64 (k':Nat):=by rw[<-ha9];simp only[aF,av,al,z1,k8,reduceIte,Nat.reduceLT,Nat.reduceEqDiff]
  have hd9:a9.defers=[]:=by rw[<-ha9];simp only[aT,z2]
  clear ha9 hsl
  simp only[Exit.then]
  have hsz:off+k'*e.size+cs.size<=row.size:=by rw[hcs];omega
  have hlk:(M.take k').length=k':=by rw[List.length_take];omega
  have hH9:HL e (bg W8 b (off+k'*e.size) cs) b off (M.take k'):=HL.take hne ⟨⟨row,hr1,hr2⟩,by assumption⟩ hMw ⟨_,dY hr1,by
   have:(cL row (off+k'*e.size) cs).size=row.size:=by
    simp only[cL,Array.size_append,Array.size_extract];omega
   rw[this,hlk];omega⟩ fun o ho=>jt hr1 hsz ho
  have hX9:dF r (bg W8 b (off+k'*e.size) cs):=Au hX8 hbo
  generalize bg W8 b (off+k'*e.size) cs=W9 at hH9 hX9 ⊢
  refine wpIn_seq (wpIn_region_list ?_)
  rw[hR15]
  refine co (co (rN hls (A:=some ⟨b,off,none⟩) (len:=L.length) (cap:=cap) (lo:=0) (hi:=k') ?_ (Nat.zero_le _) (by omega) hcap (.inl ⟨rfl,rfl⟩) (.inr ⟨_,rfl,?_⟩) (bN (dh (wpIn_ret ⟨by simp only[aT,hd9],.slice (some ⟨b,off,none⟩) k' cap,(results_tmp hres _ _ _).trans ?_,_,rfl,fun b' _=>b'=b,hX9,?_,fun b' _ hb=>by rw[hb];exact hH9.lt,fun b' _ hb ho=>absurd ho (hb ▸ hbo)⟩)))))
  ·simp only[aF,av,al,hsz9,e9,reduceIte,Nat.reduceLT,Nat.reduceEqDiff]
  ·simp only[aF,av,al,hsz9,k9,reduceIte,Nat.reduceLT,Nat.reduceEqDiff]
  ·have hsl:(if cap=0 then some (⟨b,off,none⟩:Addr) else Option.map (fun z:Addr=>z.add (0*e.size)) (some ⟨b,off,none⟩))=some ⟨b,off,none⟩:=by
    rw[if_neg (by omega),Option.map_some,bR,Nat.zero_mul,Nat.add_zero]
   rw[hsl]
   simp only[aF,av,al,hsz9,reduceIte,Nat.reduceLT,Nat.sub_zero]
  ·rw[<-hMt]
   refine jQ ?_
   have:=hH9.crl hce hne (fun z hz=>hMw z (List.mem_of_mem_take hz)) (j:=0) (m:=k') (cap:=cap) (by omega) (by omega) (by omega)
   simpa using this
 refine wpIn_cond_true (t32.trans (by rw[decide_eq_true (by omega)])) (wpIn_skip ?_)
 simp only[Exit.then]
 obtain⟨i,rfl⟩:∃ i,k2=i+1:=⟨k2-1,by omega⟩
 obtain⟨x2,hx2⟩:∃ x2,L[j+(i+1)]?=some x2:=⟨_,List.getElem?_eq_getElem (by omega)⟩
 obtain⟨w2,hw2⟩:∃ w2,L[j+(i+1)+1]?=some w2:=⟨_,List.getElem?_eq_getElem (by omega)⟩
 have hMx:M[j+(i+1)]?=some x2:=by
  have:=congrArg (fun l=>l[0]?) hMd
  simp only[List.getElem?_drop,Nat.add_zero] at this
  exact this.trans hx2
 have hMy:M[j+(i+1)+1]?=some w2:=by
  have:=congrArg (fun l=>l[1]?) hMd
  simp only[List.getElem?_drop] at this
  exact this.trans hw2
 have hded2:=wa hx2 hw2
 have hw2w:wt e w2:=hMw w2 (List.mem_of_getElem? hMy)
 refine wpIn_seq (wpIn_block (wpIn_seq (gc hE z1 z2 (S:=fun b' _=>b'=b) (fun b' _ hb=>by rw[hb];exact hH8.lt) (AR4 a8 W8 hH8 v8 n8) f4u (hv11 (M.drop (j+1)) i x2 w2 (by omega) (by rw[List.getElem?_drop,show j+1+i=j+(i+1) by omega];exact hMx) (by rw[List.getElem?_drop,show j+1+(i+1)=j+(i+1)+1 by omega];exact hMy)) fun a10 os10 d10 hd10 u1 u2 u3 u4=>?_)))
 have t44:a10.tmps.getD 44 undef=.bool (!(w2.beq x2)):=u4 0 44 .bool _ rfl rfl rfl
 have e10:=(u3 0 (by simp)).trans e8
 have k10:=(u3 3 (by simp)).trans k8
 have v10:=(u3 4 (by simp)).trans v8
 have n10:=(u3 5 (by simp)).trans n8
 have hH10:=hH8.grow os10 d10
 have hX10:=fC (os:=os10) hX8 hd10
 generalize aw W8 os10 d10=W10 at hH10 hX10 ⊢
 clear z1 z2 u3 u4 hH8 hX8 e8 k8 v8 n8 t32
 simp only[Exit.then]
 have tail:∀ (a:Act) (W:World) (k'':Nat) (M':List D) (Q:Exit->Act->World->Prop),k''+1<=j+1+(i+2)->j+1<=k''->HL e W b off M'->dF r W->a.tmps.size=61->a.defers=[]->a.tmps.getD 0 undef=.slice (some ⟨b,off,none⟩) L.length cap->a.tmps.getD 3 undef=.int .i64 (k'':Nat)->a.tmps.getD 4 undef=s2v->a.tmps.getD 5 undef=.int .i64 ((i+1:Nat):Int) ->
   M'.length=L.length->(∀ z∈M',wt e z)->M'.drop (j+(i+2))=L.drop (j+(i+2))->M'.take k''=iU (L.take (j+(i+1)+2))->(∀ a' w',(∃ m',m'<m2/\J2 m' a' w')->Q .normal a' w')->(Code.region i10 R10 false).wpIn (FW none) 0 P Q a W:=by
  intro a W k'' M' Q r1 r2 r3 r4 r5 r6 r7 r8 r9 r10 r11 r12 r13 r14 hQ
  refine gc hE r5 r6 (S:=fun _ _=>False) (fun _ _ hb=>hb.elim) (AR2 a W 5 (i+1) r10) (f2u 5 (i+1) (by decide)) (hv10 (i+1)) fun a6 os6 d6 hd6 q1 q2 q3 q4=>hQ _ _ ?_
  have t5:a6.tmps.getD 5 undef=.int .i64 (IntKind.wrap .i64 (((i+1:Nat):Int)+1)):=q4 0 5 (.int .i64) _ rfl rfl rfl
  rw[hJ2]
  refine⟨m2-1,by omega,i+2,k'',M',by omega,by omega,by omega,r2,r3.grow os6 d6,fC r4 hd6,q1,q2,(q3 0 (by simp)).trans r7,(q3 3 (by simp)).trans r8,(q3 4 (by simp)).trans r9,by rw[t5,st (i+1) (by omega)],r11,r12,r13,?_⟩
  rw[r14];congr 2;omega
 have hdrop:∀ M':List D,M'.drop (j+(i+1))=L.drop (j+(i+1))->M'.drop (j+(i+2))=L.drop (j+(i+2)):=fun M' h=>by
  have:=congrArg (List.drop 1) h
  rw[List.drop_drop,List.drop_drop] at this
  rw[show j+(i+2)=j+(i+1)+1 by omega]
  exact this
 by_cases hww:w2.beq x2=true
 ·
  refine wpIn_cond_false (t44.trans (by rw[hww];rfl)) (wpIn_skip ?_)
  simp only[Exit.inBlock,Exit.then]
  rw[if_pos hww] at hded2
  refine tail a10 W10 k' M _ (by omega) g4 hH10 hX10 u1 u2 e10 k10 v10 n10 hMl hMw (hdrop M hMd) ?_ fun a' w' h=>h
  rw[hMt,hded2];congr 2;omega
 have hww':w2.beq x2=false:=by simpa using hww
 rw[if_neg hww] at hded2
 refine wpIn_cond_true (t44.trans (by rw[hww'];rfl)) (wpIn_seq (wpIn_region_list ?_))
 rw[hR12]
 obtain⟨row,hr1,hr2⟩:=hH10.1
 have hwl:(w2.flat.map bf).length=e.size:=by rw[List.length_map];exact bu e w2 hw2w hne
 have hkm:k'*e.size+e.size<=M.length*e.size:=by
  have:(k'+1)*e.size<=M.length*e.size:=Nat.mul_le_mul_right _ (by omega)
  rwa [Nat.add_mul,Nat.one_mul] at this
 have hpos:off+(j+1)*e.size+(i+1)*e.size=off+(j+(i+1)+1)*e.size:=by
  rw[Nat.add_assoc,<-Nat.add_mul];congr 2;omega
 refine co (co (co (co (xk hls (b:=b) (off:=off+(j+1)*e.size) (len:=L.length-(j+1)) (cap:=cap-(j+1)) (k:=i+1) ?_ ?_ (by omega) (Fp hle (b:=b) (off:=off+(j+1)*e.size+(i+1)*e.size) (cs:=w2.flat.map bf) ?_ hwl (wN hce hw2w) ?_ fun v hv=>
  xk hls (b:=b) (off:=off) (len:=L.length) (cap:=cap) (k:=k') ?_ ?_ hkn (CI hle (b:=b) (off:=off+k'*e.size) (c:=row) (v:=v) (cs:=w2.flat.map bf) ?_ ?_ hr1 hv hwl (wN hce hw2w) (by rw[hwl];omega) (dh ?_)))))))
 ·simp only[aF,av,al,u1,v10,hs2,reduceIte,Nat.reduceLT,Nat.reduceEqDiff]
 ·simp only[aF,av,al,u1,n10,reduceIte,Nat.reduceLT,Nat.reduceEqDiff]
 ·simp only[aF,av,al,u1,reduceIte,Nat.reduceLT]
 ·intro i' c' hc'
  rw[hpos]
  exact hH10.elem hne hp hMw hMy i' c' hc'
 ·simp only[aF,av,al,u1,e10,reduceIte,Nat.reduceLT,Nat.reduceEqDiff]
 ·simp only[aF,av,al,u1,k10,reduceIte,Nat.reduceLT,Nat.reduceEqDiff]
 ·simp only[aF,av,al,u1,reduceIte,Nat.reduceLT]
 ·simp only[aF,av,al,u1,reduceIte,Nat.reduceLT,Nat.reduceEqDiff]
 generalize ha11:Act.put _ (some 51) _=a11
 have hsz11:a11.tmps.size=61:=by rw[<-ha11];simp only[al,u1]
 have e11:a11.tmps.getD 0 undef=.slice (some ⟨b,off,none⟩) L.length cap:=by rw[<-ha11];simp only[aF,av,al,u1,e10,reduceIte,Nat.reduceLT,Nat.reduceEqDiff]
 have k11:a11.tmps.getD 3 undef=.int .i64 (k':Nat):=by rw[<-ha11];simp only[aF,av,al,u1,k10,reduceIte,Nat.reduceLT,Nat.reduceEqDiff]
 have v11:a11.tmps.getD 4 undef=s2v:=by rw[<-ha11];simp only[aF,av,al,u1,v10,reduceIte,Nat.reduceLT,Nat.reduceEqDiff]
 have n11:a11.tmps.getD 5 undef=.int .i64 ((i+1:Nat):Int):=by rw[<-ha11];simp only[aF,av,al,u1,n10,reduceIte,Nat.reduceLT,Nat.reduceEqDiff]
 have hd11:a11.defers=[]:=by rw[<-ha11];simp only[aT,u2]
 clear ha11
 have hH11:=hH10.set hne hMw (k:=k') (by omega) hp hw2w
 have hX11:dF r (bg W10 b (off+k'*e.size) (w2.flat.map bf).toArray):=Au hX10 hbo
 generalize bg W10 b (off+k'*e.size) (w2.flat.map bf).toArray=W11 at hH11 hX11 ⊢
 simp only[Exit.then]
 refine gc hE hsz11 hd11 (S:=fun _ _=>False) (fun _ _ hb=>hb.elim) (AR2 a11 W11 3 k' k11) (f2u 3 k' (by decide)) (hv13 k') fun a12 os12 d12 hd12 q1 q2 q3 q4=>?_
 have t3:a12.tmps.getD 3 undef=.int .i64 (IntKind.wrap .i64 ((k':Int)+1)):=q4 0 3 (.int .i64) _ rfl rfl rfl
 simp only[Exit.inBlock,Exit.then]
 refine tail a12 _ (k'+1) (M.set k' w2) _ (by omega) (by omega) (hH11.grow os12 d12) (fC hX11 hd12) q1 q2 ((q3 0 (by simp)).trans e11) (by rw[t3,st k' (by omega)]) ((q3 4 (by simp)).trans v11) ((q3 5 (by simp)).trans n11) (by rw[List.length_set];exact hMl) (fun z hz=>?_) ?_ ?_ fun a' w' h=>h
 ·rcases List.mem_or_eq_of_mem_set hz with hz|rfl
  ·exact hMw z hz
  ·exact hw2w
 ·rw[List.drop_set_of_lt (by omega)];exact hdrop M hMd
 ·have htk:(M.set k' w2).take (k'+1)=(M.set k' w2).take k'++(M.set k' w2)[k']?.toList:=List.take_add_one
  rw[htk,List.take_set_of_le (Nat.le_refl k'),hMt,List.getElem?_set_self (by omega),hded2]
  simp only[Option.toList_some]
  congr 3;omega
end
end Go.Proofs.YtjjjkojfijpeeaaGreat.Sy
end
section
set_option linter.unusedVariables false
namespace Go.Proofs.YtjjjkojfijpeeaaGreat.Sy
open Go Go.Proofs Go.Sort Go.Lib
section
variable{r:Root}{lp:Lp}{call:Nat->List D->Option D}
def GP:Code->Code|.cond _ a _=>a|c=>c
noncomputable def NA:Code:=nC (kh Tryz.f95)
noncomputable def L4:Code:=inLoop (nb (nC (pP (nC NA))))
noncomputable def JL:Code:=nb (pP (nC L4))
noncomputable def Mf:Code:=inLoop (nb (nC (pP (nC (GP (nC JL))))))
noncomputable def MZ:Code:=nb (pP (nC Mf))
theorem HV{L:List D}:ev (fG lp call) (pP (pP NA)) .leaf D (dS 61 [0] (fun i=>if i=0 then .d (.sl K1) (.sl L) else .undef)) (kW [(8,.bool)])=some (.tup [.bool (decide ((L.length:Int)<2))]):=by kernel_rfl
theorem Hl{L:List D}(k:Nat):ev (fG lp call) (pP (pP L4)) .leaf D (dS 61 [0,3] (EJ K1 L k)) (kW [(13,.bool)])=some (.tup [.bool (decide ((k:Int)<(L.length:Nat)))]):=by kernel_rfl
theorem C3{L:List D}{k:Nat}{x y:D}(hk:k<1073741824)(hx:L[k]?=some x)(hy:L[k+1]?=some y)(g:D->D->Option D):((D.idx (.int .i64 ((k+1:Nat):Int)) L.length).bind fun i=>(L[i]?).bind fun u=>(D.bin .sub (.int .i64 ((k+1:Nat):Int)) (.int .i64 1)).bind fun z=>(D.idx z L.length).bind fun j=>(L[j]?).bind fun v=>g u v)=g y x:=by
 have h1:k+1<L.length:=(List.getElem?_eq_some_iff.1 hy).1
 have e1:D.idx (.int .i64 ((k+1:Nat):Int)) L.length=some (k+1):=by
  simp only[D.idx];rw[if_pos (by omega)];simp
 have e2:D.bin .sub (.int .i64 ((k+1:Nat):Int)) (.int .i64 1)=some (.int .i64 (k:Nat)):=by
  simp only[D.bin,if_true]
  rw[show((k+1:Nat):Int)-1=(k:Nat) by omega,ml (by omega) (by omega)]
 have e3:D.idx (.int .i64 (k:Nat)) L.length=some k:=by
  simp only[D.idx];rw[if_pos (by omega)];simp
 rw[e1,Option.bind_some,hy,Option.bind_some,e2,Option.bind_some,e3,Option.bind_some,hx,Option.bind_some]
theorem Hm{L:List D}(k:Nat)(x y:D)(hk:k<1073741824)(hx:L[k]?=some x)(hy:L[k+1]?=some y):ev (fG lp call) (pP JL) (.reg [] 9) D (dS 61 [0,3] (EJ K1 L (k+1))) (kW [(25,.bool)])=some (.tup [.bool (y.beq x)]):=by
 have:ev (fG lp call) (pP JL) (.reg [] 9) D (dS 61 [0,3] (EJ K1 L (k+1))) (kW [(25,.bool)])=((D.idx (.int .i64 ((k+1:Nat):Int)) L.length).bind fun i=>(L[i]?).bind fun u=>(D.bin .sub (.int .i64 ((k+1:Nat):Int)) (.int .i64 1)).bind fun z=>(D.idx z L.length).bind fun j=>(L[j]?).bind fun v=>some (.tup [.bool (D.beq u v)])):=by kernel_rfl
 rw[this]
 exact C3 hk hx hy fun u v=>some (.tup [.bool (D.beq u v)])
theorem GW(k:Nat):ev (fG lp call) (nC (nC L4)) .leaf D (dS 61 [0] (Ef 3 k)) (kW [(3,.int .i64)])=some (.tup [.int .i64 (IntKind.wrap .i64 ((k:Int)+1))]):=by kernel_rfl
theorem EC(k:Nat):ev (fG lp call) (nC (GP (nC MZ))) .leaf D (dS 61 [0,4,5] (Ef 3 k)) (kW [(3,.int .i64)])=some (.tup [.int .i64 (IntKind.wrap .i64 ((k:Int)+1))]):=by kernel_rfl
theorem Fa(k:Nat):ev (fG lp call) (nC (nC Mf)) .leaf D (dS 61 [0,3,4] (Ef 5 k)) (kW [(5,.int .i64)])=some (.tup [.int .i64 (IntKind.wrap .i64 ((k:Int)+1))]):=by kernel_rfl
theorem Hg(N:List D)(k:Nat):ev (fG lp call) (pP (pP Mf)) .leaf D (dS 61 [0,3,4,5] (ER K1 N k)) (kW [(32,.bool)])=some (.tup [.bool (decide ((k:Int)<(N.length:Nat)))]):=by kernel_rfl
theorem E4(N:List D)(k:Nat)(x y:D)(hk:k<1073741824)(hx:N[k]?=some x)(hy:N[k+1]?=some y):ev (fG lp call) (pP MZ) (.reg [] 9) D (dS 61 [0,3,4,5] (ER K1 N (k+1))) (kW [(44,.bool)])=some (.tup [.bool (!(y.beq x))]):=by
 have:ev (fG lp call) (pP MZ) (.reg [] 9) D (dS 61 [0,3,4,5] (ER K1 N (k+1))) (kW [(44,.bool)])=((D.idx (.int .i64 ((k+1:Nat):Int)) N.length).bind fun i=>(N[i]?).bind fun u=>(D.bin .sub (.int .i64 ((k+1:Nat):Int)) (.int .i64 1)).bind fun z=>(D.idx z N.length).bind fun j=>(N[j]?).bind fun v=>some (.tup [.bool (!(D.beq u v))])):=by kernel_rfl
 rw[this]
 exact C3 hk hx hy fun u v=>some (.tup [.bool (!(D.beq u v))])
theorem BE(hE:EnvOk Tryz.prog (fG lp call)){L:List D}(hwt:∀ x∈L,wt K1 x)(hlen:L.length<=1073741824){W0:World}(hX:dF r W0){S0:Nat->Nat->Prop}(hSb0:∀ b o,S0 b o->b<W0.heap.size)(hSo0:∀ b o,S0 b o->r.Old b->r.S0 b o){sv:Value}(hsv:eN W0 S0 (.sl L) sv)(hown:2<=L.length->∃ b off cap,sv=.slice (some ⟨b,off,none⟩) L.length cap/\HL K1 W0 b off L/\¬ r.Old b) :
  Calls Tryz.prog 95 #[sv] W0 fun en W'=>∃ v,en=.returned v/\∃ S',dF r W'/\eN W' S' (.sl (iU L)) v/\(∀ b o,S' b o->b<W'.heap.size)/\(∀ b o,S' b o->r.Old b->r.S0 b o):=
 wW hE rfl rfl (by decide) hwt hlen (fn:=Tryz.f95) (by kernel_rfl) rfl rfl rfl (Ts:=22) (Te:=60) (by kernel_rfl) (by kernel_rfl) rfl rfl rfl rfl rfl rfl rfl rfl rfl HV Hl Hm GW EC Fa Hg E4 hX hSb0 hSo0 hsv hown
end
end Go.Proofs.YtjjjkojfijpeeaaGreat.Sy
end
section
set_option linter.unusedVariables false
namespace Go.Proofs.YtjjjkojfijpeeaaGreat.Sy
open Go Go.Proofs Go.Sort Go.Lib
def WS(E:Env)(g:Nat)(l:List D):Prop:=l.Pairwise fun x y=>j6 E g y x=false
section
variable{P:Program}{E:Env}
theorem B3{g:Nat}{k:List D}(hc:iY E g k=true):∀ {a b:List D},a.Perm b->WS E g a->WS E g b->(∀ x∈a,x∈k)->a=b:=by
 intro a
 induction a with
 | nil=>intro b hp _ _ _;exact hp.symm.eq_nil.symm ▸ rfl
 | cons x a ih=>
  intro b hp ha hb hm
  cases b with
  | nil=>exact absurd hp.eq_nil (by simp)
  | cons y b=>
   obtain⟨a1,a2⟩:=List.pairwise_cons.1 ha
   obtain⟨b1,b2⟩:=List.pairwise_cons.1 hb
   have e:x=y:=by
    rcases List.mem_cons.1 (hp.subset List.mem_cons_self) with e|m1
    ·exact e
    ·rcases List.mem_cons.1 (hp.symm.subset (List.mem_cons_self (a:=y))) with e|m2
     ·exact e.symm
     ·have h1:=b1 x m1
      have h2:=a1 y m2
      obtain⟨i,hi1,hi2⟩:=List.getElem_of_mem (hm x List.mem_cons_self)
      obtain⟨j,hj1,hj2⟩:=List.getElem_of_mem (hm y (List.mem_cons_of_mem _ m2))
      have ei:k[i]?=some x:=by rw[List.getElem?_eq_getElem hi1,hi2]
      have ej:k[j]?=some y:=by rw[List.getElem?_eq_getElem hj1,hj2]
      have q1:¬ i<j:=fun h=>by rw[(cW hc ei ej).1.2 h] at h1;cases h1
      have q2:¬ j<i:=fun h=>by rw[(cW hc ej ei).1.2 h] at h2;cases h2
      have:i=j:=by omega
      subst this
      rw[ei] at ej;cases ej;rfl
   subst e
   rw[ih ((List.perm_cons x).1 hp) a2 b2 (fun z hz=>hm z (List.mem_cons_of_mem _ hz))]
theorem yh(hE:EnvOk P E){f:Nat}{e:Ty}(hf:SortOk P f e){g:Nat}(hsig:E.sig g=some ([e,e],.int .i64)){l k:List D}(hwt:∀ x∈l,wt e x)(hchk:iY E g k=true)(hmem:∀ x∈l,x∈k)(hkm:∀ x∈k,x∈l)(hne:l≠[]){w:World}{b off cap:Nat}{row:Array Value}
  (hr:bp w b=some row) (hc:∀ (i:Nat) (d:D),(D.flats l)[i]?=some d->w.cell? ⟨b,off+i,none⟩=some (bf d)) (hlen:l.length<4611686018427387904) :
  Calls P f #[.slice (some ⟨b,off,none⟩) l.length cap,.func (.func g) #[] #[]] w fun en w'=>en=.returned (.tuple #[])/\∃ l',l'.Perm l/\WS E g l'/\(∃ row',bp w' b=some row'/\row'.size=row.size)/\w.drawn<=w'.drawn/\w'.tape=w.tape/\w'.os=w.os/\w'.output=w.output/\w.heap.size<=w'.heap.size ∧
   (∀ b',b'≠b->b'<w.heap.size->w'.heap[b']?=w.heap[b']?)/\∀ (i:Nat) (d:D),(D.flats l')[i]?=some d->w'.cell? ⟨b,off+i,none⟩=some (bf d):=by
 have hwt':∀ x∈k,wt e x:=fun x hx=>hwt x (hkm x hx)
 obtain⟨x0,hx0⟩:∃ x0,x0∈k:=by
  cases l with
  | nil=>exact absurd rfl hne
  | cons x l=>exact⟨x,hmem x List.mem_cons_self⟩
 have hinh:Inhabited {d:D // d∈k}:=⟨⟨x0,hx0⟩⟩
 have hfl:∀ x:{d:D // d∈k},x.1.flat.length=e.size:=fun x=>bu e x.1 (hwt' x.1 x.2) hf.nt
 have hleaf:∀ x:{d:D // d∈k},∀ d∈x.1.flat,gD d=true:=fun x=>fe e x.1 hf.cmp (hwt' x.1 x.2)
 obtain⟨d,hd⟩:∃ d:Array {d:D // d∈k},d.toList.map (·.1)=l:=⟨(l.pmap Subtype.mk hmem).toArray,by simp[List.map_pmap]⟩
 have hds:d.size=l.length:=by rw[<-hd];simp
 have hbs:b<w.heap.size:=by
  unfold bp at hr
  cases hb:w.heap[b]? with
  | none=>rw[hb] at hr;cases hr
  | some o=>exact(Array.getElem?_eq_some_iff.1 hb).1
 have hfro:∀ o,w.frozen? ⟨b,o,none⟩=false:=fun o=>by
  unfold bp at hr
  split at hr
  ·rename_i c t hb
   unfold World.frozen?
   simp[hb]
  ·cases hr
 have at_:∀ (dd:Array {d:D // d∈k}) (t:Nat),t<dd.size*e.size->(D.flats (dd.toList.map (·.1)))[t]?.map bf=some ((flatK (fun x:{d:D // d∈k}=>x.1.flat.map bf) e.size dd)[t]!):=fun dd t ht=>by
  rw[get_flatK _ _ _ _ ht,gO hf.pos _ (fun x hx=>by
   obtain⟨y,_,rfl⟩:=List.mem_map.1 hx
   exact hfl y)]
  have h1:t/e.size<dd.size:=(Nat.div_lt_iff_lt_mul hf.pos).2 ht
  have h2:t%e.size<e.size:=Nat.mod_lt _ hf.pos
  rw[List.getElem?_map,Array.getElem?_toList,Array.getElem?_eq_getElem h1,getElem!_pos dd _ h1]
  simp only[Option.map_some,Option.bind_some]
  have h3:t%e.size<(dd[t/e.size]).1.flat.length:=by rw[hfl];exact h2
  rw[List.getElem?_eq_getElem h3,getElem!_pos _ _ (by simpa using h3)]
  simp
 have hH:HoldsK (fun x:{d:D // d∈k}=>x.1.flat.map bf) e.size w b off d:=by
  intro j hj
  rw[size_flatK] at hj
  refine⟨?_,hfro _⟩
  have:=at_ d j hj
  rw[hd] at this
  cases hq:(D.flats l)[j]? with
  | none=>rw[hq] at this;cases this
  | some q=>
   rw[hq] at this
   simp only[Option.map_some,Option.some.injEq] at this
   rw[hc j q hq,this];rfl
 have hcmp:CmpLays P g #[] (fun x:{d:D // d∈k}=>x.1.flat.map bf) e.size (vQ E g k) b off d.size w:=by
  intro m os dk _ x y
  obtain⟨i,hi1,hi2⟩:=List.getElem_of_mem x.2
  obtain⟨j,hj1,hj2⟩:=List.getElem_of_mem y.2
  obtain⟨_,n,hn⟩:=cW hchk (i:=i) (j:=j) (x:=x.1) (y:=y.1) (by rw[List.getElem?_eq_getElem hi1,hi2]) (by rw[List.getElem?_eq_getElem hj1,hj2])
  have hcall:E.call g [x.1,y.1]=some (.int .i64 n):=by
   unfold ns at hn
   obtain⟨r,h1,h2⟩:=bind_some_inv hn
   rw[h1]
   split at h2
   ·cases h2;rfl
   ·cases h2
  have hcf:vQ E g k x y=n:=by simp[vQ,hn]
  rw[hcf]
  have shpa:∀ z:{d:D // d∈k},∀ (w:World) (S:Nat->Nat->Prop),eN w S z.1 (.agg (z.1.flat.map bf).toArray):=fun z w S=>by
   refine⟨?_,?_⟩
   ·have hz:=hwt' z.1 z.2
    have ha:=hf.agg
    cases e<;>simp only[cz] at ha<;>first|(cases ha;done)|skip
    ·simp only[wt] at hz;obtain⟨ll,h1,_⟩:=hz;rw[h1];exact⟨_,rfl⟩
    ·simp only[wt] at hz;obtain⟨ll,h1,_⟩:=hz;rw[h1];exact⟨_,rfl⟩
   ·exact(bq (hleaf z)).2 (by simp[Value.cells])
  have hw2:gn [e,e] [x.1,y.1]:=⟨x.1,[y.1],rfl,hwt' _ x.2,⟨y.1,[],rfl,hwt' _ y.2,rfl⟩⟩
  have hctr:=hE.call g [e,e] (.int .i64) [x.1,y.1] (.int .i64 n) hsig hcall hw2
   (sortWorldK (fun x:{d:D // d∈k}=>x.1.flat.map bf) e.size w b off m dk os) (fun _ _=>False) [.agg (x.1.flat.map bf).toArray,.agg (y.1.flat.map bf).toArray] (fun _ _ h=>h.elim) hw2 rfl
   (fun i z v hz hv=>by
    cases i with
    | zero=>simp at hz hv;subst hz;subst hv;exact shpa x _ _
    | succ i=>cases i with
     | zero=>simp at hz hv;subst hz;subst hv;exact shpa y _ _
     | succ i=>simp at hz)
  refine hctr.mono ?_
  rintro en w' ⟨v,rfl,⟨os',dr,hdr,rfl⟩,_,hv⟩
  have hv':v=.int .i64 n:=by
   obtain⟨c1,c2⟩:=(hv:eN _ _ _ _)
   have:=(bq (by intro d hd;simp only[D.flat,List.mem_singleton] at hd;subst hd;rfl)).1 c2
   exact ao c1 (by simpa [D.flat,bf] using this)
  refine⟨by rw[hv'],dr-(sortWorldK (fun x:{d:D // d∈k}=>x.1.flat.map bf) e.size w b off m dk os).drawn,os'.toArray,?_⟩
  unfold aw grow World.drewN
  simp only[show ∀ a b:Nat,a<=b->a+(b-a)=b from fun a b h=>by omega,hdr]
 have hO:SWO (ltOf (vQ E g k)):=AF hchk
 have key:=hf.whole {d:D // d∈k} (fun x=>x.1.flat.map bf) (fun x=>by simp[hfl x]) (fun x v hv=>by
   obtain⟨q,hq,rfl⟩:=List.mem_map.1 hv
   have:=hleaf x q hq
   cases q<;>simp only[gD] at this<;>first|(cases this;done)|rfl) (vQ E g k) hO g b off cap d w (qH hE hsig) hcmp hH hbs (by omega)
 rw[hds] at key
 refine key.mono ?_
 rintro en w' ⟨rfl,d',n,os,hp,hso,rfl⟩
 rw[<-hds] at hp hso
 have hd's:d'.size=d.size:=hp.1
 have hH':=holdsK_sortWorldK_c (fun x:{d:D // d∈k}=>x.1.flat.map bf) e.size w b off d d' n os hH hbs hd's
 have hpm:(d'.toList.map (·.1)).Perm l:=by
  obtain⟨p1,_,p3⟩:=hp
  have q:d'.toList.Perm d.toList:=by
   have e1:d'.extract 0 d.size=d':=by rw[<-p1];simp
   rw[e1] at p3
   simpa using p3
  have:=q.map (·.1)
  rwa [hd] at this
 refine⟨rfl,d'.toList.map (·.1),hpm,?_,?_,?_,rfl,rfl,rfl,?_,fun b' hb hb'=>?_,fun i q hq=>?_⟩
 ·rw[WS,List.pairwise_iff_getElem]
  intro i j hi hj hij
  simp only[List.length_map,Array.length_toList] at hi hj
  have h1:=hso i j (Nat.zero_le _) hij (by omega)
  rw[getElem!_pos d' j hj,getElem!_pos d' i hi,qV] at h1
  simpa using h1
 ·unfold bp at hr ⊢
  split at hr<;>first|(cases hr;done)|skip
  rename_i c t hbk
  cases hr
  have:(sortWorldK (fun x:{d:D // d∈k}=>x.1.flat.map bf) e.size w b off n d' os).heap[b]?=some (.cells (putCells id off (flatK (fun x:{d:D // d∈k}=>x.1.flat.map bf) e.size d') row) t (0,0)):=by
   simp only[sortWorldK,grow,putRowK,putRow,mapBlock,Go.Sort.ahead]
   rw[Array.getElem?_append_left (by simpa using hbs),Array.getElem?_modify,if_pos rfl,hbk]
   rfl
  rw[this]
  exact⟨_,rfl,by simp[putCells]⟩
 ·show w.drawn<=w.drawn+n;omega
 ·simp only[sortWorldK,grow,putRowK,putRow,mapBlock,Go.Sort.ahead,Array.size_append,Array.size_modify];omega
 ·simp only[sortWorldK,grow,putRowK,putRow,mapBlock,Go.Sort.ahead]
  rw[Array.getElem?_append_left (by simpa using hb'),Array.getElem?_modify,if_neg (Ne.symm hb)]
 ·have hi:i<d'.size*e.size:=by
   have h1:=(List.getElem?_eq_some_iff.1 hq).1
   rw[au hf.nt _ fun x hx=>hwt x (hpm.subset hx)] at h1
   simpa using h1
  have h2:=at_ d' i hi
  rw[hq] at h2
  simp only[Option.map_some,Option.some.injEq] at h2
  have h3:=(hH' i (by rw[size_flatK];exact hi)).1
  rw[h3,<-h2];rfl
end
end Go.Proofs.YtjjjkojfijpeeaaGreat.Sy
end
section
set_option linter.unusedVariables false
namespace Go.Proofs.YtjjjkojfijpeeaaGreat.Sy
open Go Go.Proofs Go.Sort Go.Lib
theorem nu(x:D):∀ (l:List D),∀ y∈l,y∈x::jM x l
 | [],y,h=>by simp at h
 | z::l,y,h=>by
  simp only[jM]
  by_cases hz:z.beq x=true
  ·have e:=vO z x hz
   subst e
   rw[if_pos hz]
   rcases List.mem_cons.1 h with rfl|h
   ·exact List.mem_cons_self
   ·exact nu z l y h
  ·rw[if_neg hz]
   rcases List.mem_cons.1 h with rfl|h
   ·simp
   ·exact List.mem_cons_of_mem _ (nu z l y h)
theorem xx:∀ (l:List D),∀ y∈l,y∈iU l
 | [],y,h=>by simp at h
 | x::l,y,h=>by
  simp only[iU]
  rcases List.mem_cons.1 h with rfl|h
  ·exact List.mem_cons_self
  ·exact nu x l y h
section
variable{P:Program}{E:Env}{r:Root}
theorem uq{g:Nat}:∀ (l:List D) (x:D),iY E g (x::jM x l)=true->WS E g (x::l)
 | [],x,_=>by simp[WS]
 | y::l,x,h=>by
  have hs:=gP h
  simp only[jM] at h hs
  by_cases hy:y.beq x=true
  ·have e:=vO y x hy
   subst e
   rw[if_pos hy] at h hs
   have ih:=uq l y h
   refine List.pairwise_cons.2 ⟨fun z hz=>?_,ih⟩
   rcases List.mem_cons.1 hz with rfl|hz
   ·exact wZ (hs.2 z List.mem_cons_self)
   ·exact(List.pairwise_cons.1 ih).1 z hz
  ·rw[if_neg hy] at h hs
   have h':iY E g (y::jM y l)=true:=by
    simp only[iY,Bool.and_eq_true] at h ⊢
    exact h.2
   refine List.pairwise_cons.2 ⟨fun z hz=>?_,uq l y h'⟩
   have hz':z∈y::jM y l:=by
    rcases List.mem_cons.1 hz with rfl|hz
    ·exact List.mem_cons_self
    ·exact nu y l z hz
   exact wZ ((List.pairwise_cons.1 hs.1).1 z hz').2
theorem qk{g:Nat}{l l':List D}(h:qa E g l=some l'):l'.Perm l/\iY E g (iU l')=true/\WS E g l':=by
 unfold qa at h
 split at h<;>first|(cases h;done)|skip
 rename_i hc
 cases h
 refine⟨eV _ l,hc,?_⟩
 generalize gm (j6 E g) l=m at hc
 cases m with
 | nil=>simp[WS]
 | cons x m=>exact uq m x hc
theorem wu(hE:EnvOk P E){f:Nat}{e:Ty}(hf:SortOk P f e){g:Nat}(hsig:E.sig g=some ([e,e],.int .i64)){x:Nat}{S:Nat->Nat->Prop}{γ:Nat->Option Nat}{β:Nat->Option (Nat×Nat)}{s:St}{a:Act}{w:World}(h:Rp r S γ β s a w)
  {l l':List D} (hv:cb s e x=some l) (hs:qa E g l=some l') :
  Calls P f #[a.tmps.getD x undef,.func (.func g) #[] #[]] w fun en w1=>(∃ v,en=.returned v)/\∃ S',dF r w1/\eN w1 S' (.sl l') (a.tmps.getD x undef)/\(∀ b o,S' b o->b<w1.heap.size)/\(∀ b o,S' b o->r.Old b->r.S0 b o)/\(2<=l'.length->∃ b off cap,a.tmps.getD x undef=.slice (some ⟨b,off,none⟩) l'.length cap/\HL e w1 b off l'/\¬ r.Old b):=by
 have hx:x<s.nt:=by
  rcases Nat.lt_or_ge x s.nt with k|k
  ·exact k
  ·unfold cb at hv;rw[h.tmu x k] at hv;cases hv
 have hax:AR ⟨w,S,γ,β,s.ob,s.dead⟩ (s.tm x) (a.tmps.getD x undef):=h.tms x (by rw[h.nt];exact hx)
 obtain⟨ad,cap,val,hwt,hcr,hown⟩:∃ ad cap,a.tmps.getD x undef=.slice ad l.length cap/\(∀ y∈l,wt e y)/\CR w S (.sl l) (.slice ad l.length cap)/\(l≠[]->∃ b off row,ad=some ⟨b,off,none⟩/\bp w b=some row/\off+l.length*e.size<=row.size/\¬ r.Old b/\b<w.heap.size)/\l.length<=1073741824:=by
  unfold cb at hv
  split at hv
  ·rename_i e' v l0 htm
   split at hv
   ·rename_i hb
    simp only[Bool.and_eq_true,Bool.not_eq_true',decide_eq_true_eq] at hb
    obtain⟨⟨hb1,hb2⟩,hb3⟩:=hb
    cases hv
    have:=Ty.eq_of_beq _ _ hb1;subst this
    rw[htm] at hax
    simp only[AR,AC] at hax
    obtain⟨n0,n1,n2,ad,cap,n3,n4,n5⟩:=hax
    have hval:=ao n0 n3
    have hdead:v ∉ s.dead:=by simpa using hb2
    refine⟨ad,cap,hval,n2,n4,fun hne=>?_,hb3⟩
    rcases n5 hdead with⟨q1,q2⟩|⟨b,off,q1,q2,n,q3,q4⟩
    ·exfalso
     obtain⟨_,_,b,off,e1,e2,e3,e4⟩:=n4.elems
     cases e1
     rcases e2 with e2|e2
     ·exact hne e2
     ·rw[q1] at e2;cases e2
    ·obtain⟨k1,k2,_⟩:=h.βn v b _ hdead q2
     unfold nR at q3
     cases hr:bp w b with
     | none=>rw[hr] at q3;cases q3
     | some row=>
      rw[hr] at q3
      simp only[Option.map_some,Option.some.injEq] at q3
      have hlc:l.length<=cap:=by
       obtain⟨_,_,_,_,e1,_,e3,_⟩:=n4.elems
       cases e1;exact e3
      have:=Nat.mul_le_mul_right e'.size hlc
      exact⟨b,off,row,q1,hr,by omega,k1,k2⟩
   ·cases hv
  ·rename_i htm
   cases hv
   rw[htm] at hax
   simp only[AR,AC] at hax
   have hval:=ao hax.1 hax.2
   exact⟨none,0,hval,by simp,CR.of_elems (b:=0) (off:=0) (.inl rfl) (Nat.le_refl _) ⟨[],cH.nil,by simp⟩,fun h=>absurd rfl h,by simp⟩
  ·cases hv
 obtain⟨hown,hlen⟩:=hown
 obtain⟨hperm,hchk,hws⟩:=qk hs
 have hll:l'.length=l.length:=hperm.length_eq
 have hwt':∀ y∈l',wt e y:=fun y hy=>hwt y (hperm.subset hy)
 rw[val]
 by_cases hne:l=[]
 ·subst hne
  have e0:l'=[]:=by cases l' with|nil=>rfl|cons y l'=>simp at hll
  subst e0
  refine(hf.empty ad cap _ w).mono ?_
  rintro en w1 ⟨rfl,rfl⟩
  exact⟨⟨_,rfl⟩,S,h.ext,jQ hcr,h.Sb,h.So,fun h=>by simp at h⟩
 ·obtain⟨b,off,row,rfl,hr,hrs,hold,hbs⟩:=hown hne
  have hcell:∀ (i:Nat) (d:D),(D.flats l)[i]?=some d->w.cell? ⟨b,off+i,none⟩=some (bf d):=by
   obtain⟨_,_,b',off',e1,e2,e3,cs,e4,e5⟩:=hcr.elems
   cases e1
   rcases e2 with e2|e2
   ·exact absurd e2 hne
   ·cases e2
    have hleaf:=fj hf.cmp l hwt
    have:=(bq hleaf).1 e4
    subst this
    intro i d hd
    exact(e5 i (bf d) (by rw[List.getElem?_map,hd];rfl)).2
  refine(yh hE hf hsig hwt hchk (fun x hx=>xx _ x (hperm.symm.subset hx)) (fun x hx=>hperm.subset (ww _ x hx)) hne (b:=b) (off:=off) (cap:=cap) hr hcell (by omega)).mono ?_
  rintro en w1 ⟨rfl,l2,hp2,hw2,⟨row',hr',hrz⟩,q1,q2,q3,q4,q5,q6,q7⟩
  have e2:l2=l':=B3 hchk (hp2.trans hperm.symm) hw2 hws fun x hx=>xx _ x (hperm.symm.subset (hp2.subset hx))
  subst e2
  refine⟨⟨_,rfl⟩,fun b' o=>(S b' o/\b'≠b)\/(b'=b/\off<=o/\o<off+(D.flats l2).length),?_,?_,?_,?_,?_⟩
  ·refine kq h.ext q2 q3 q4 q5 q1 fun b' hb'=>q6 b' (fun e=>hold (e ▸ hb')) (Nat.lt_of_lt_of_le hb'.1 h.ext.sz)
  ·refine jQ ?_
   rw[<-hll]
   refine CR.of_elems (b:=b) (off:=off) (.inr rfl) (by obtain⟨_,_,_,_,e1,_,e3,_⟩:=hcr.elems;cases e1;rw[hll];exact e3) ⟨(D.flats l2).map bf,?_,fun i c hc=>?_⟩
   ·exact(bq (fj hf.cmp l2 hwt')).2 rfl
   ·rw[List.getElem?_map] at hc
    cases hd:(D.flats l2)[i]? with
    | none=>rw[hd] at hc;cases hc
    | some d=>
     rw[hd] at hc
     simp only[Option.map_some,Option.some.injEq] at hc
     subst hc
     exact⟨.inr ⟨rfl,by omega,by have:=(List.getElem?_eq_some_iff.1 hd).1;omega⟩,q7 i d hd⟩
  ·rintro b' o (⟨hb',_⟩|⟨rfl,_,_⟩)
   ·exact Nat.lt_of_lt_of_le (h.Sb b' o hb') q5
   ·exact Nat.lt_of_lt_of_le hbs q5
  ·rintro b' o (⟨hb',_⟩|⟨rfl,_,_⟩) ho
   ·exact h.So b' o hb' ho
   ·exact absurd ho hold
  ·intro _
   exact⟨b,off,cap,by rw[hll],⟨⟨row',hr',by rw[hrz,hll];exact hrs⟩,fun i d hd=>q7 i d hd⟩,hold⟩
end
end Go.Proofs.YtjjjkojfijpeeaaGreat.Sy
end
section
set_option linter.unusedVariables false
namespace Go.Proofs.YtjjjkojfijpeeaaGreat.Sy
open Go Go.Proofs Go.Sort Go.Lib
theorem Kj : ∃ fn, Tryz.prog.funcs[95]? = some fn /\ (fn.name == "runtime.NumGoroutine") = false /\ fn.body.isSome = true := uE (by kernel_rfl)
theorem HR{lp:Lp}{call:Nat->List D->Option D}{l:List D}:ev (fG lp call) (pP (kh Tryz.f93)) .leaf D (dS 4 [] (fun i=>if i=0 then .d (.sl K1) (.sl l) else .undef)) (AN (.sl K1) 1)=some (.sl l):=by kernel_rfl
theorem M3{lp:Lp}(hlp:aE lp):ac 44 (oJ lp):=by
 intro call hc ptys rty' xs y hs hy hw
 have:nB 44=some ([K2],K2):=by kernel_rfl
 rw[this] at hs;cases hs
 obtain⟨a0,l0,rfl,hwa,hl0⟩:=hw
 have hl0':l0=[]:=hl0
 subst hl0'
 obtain⟨l,rfl,hwt⟩:=hwa
 simp only[oJ] at hy
 split at hy<;>first|(cases hy;done)|skip
 rename_i hlen
 have hlen:l.length<=1073741824:=by simpa using hlen
 obtain⟨l',hsd,hy⟩:=bind_some_inv hy
 cases hy
 have hE:EnvOk Tryz.prog (fG lp call):=FM hlp hc
 obtain⟨hperm,_,_⟩:=qk hsd
 have hwt':∀ x∈l',wt K1 x:=fun x hx=>hwt x (hperm.subset hx)
 intro w S vs hS _ hlv hvs
 obtain⟨v0,rfl⟩:∃ v0,vs=[v0]:=by
  match vs,hlv with
  | [v],_=>exact⟨v,rfl⟩
 have hv0:=hvs 0 _ v0 rfl rfl
 have s94:(fG lp call).sig 94=some ([K1,K1],.int .i64):=by kernel_rfl
 refine zk (f:=44) (f93:=93) (f92:=92) (f95:=95) (g:=94) (fn:=Tryz.f44) (K1:=Ap w S l 151)
  (K2:=fun v w2=>∃ S',dF (cq w S) w2/\eN w2 S' (.sl l') v/\(∀ b o,S' b o->b<w2.heap.size)/\(∀ b o,S' b o->b<w.heap.size->S b o)/\(2<=l'.length->∃ b off cap,v=.slice (some ⟨b,off,none⟩) l'.length cap/\HL Sy.K1 w2 b off l'/\¬ (cq w S).Old b))
  (K3:=fun v w'=>(∃ os d,w.drawn<=d/\w'=aw w os d)/\wt Sy.K2 (.sl (iU l'))/\DR w' (fun b o=>S b o\/(w.heap.size<=b/\b<w'.heap.size)) (.sl (iU l')) v) (by kernel_rfl) rfl rfl rfl rfl rfl rfl JN Kt Kj ?_ ?_ ?_
 ·exact xZ hE (e:=Sy.K1) rfl hwt (fn:=Tryz.f93) (by kernel_rfl) rfl rfl rfl rfl HR hS hv0
 ·rintro v w1 ⟨B,S1,sv,rfl,hX,hcell,hB,hcr,hSb,hSo⟩
  have hIt:DV Tryz.prog (cq w1 S1) Sy.K1 l 151 #[.pointer (some ⟨B,0,none⟩)]:=Gf hE hwt hlen hSb (fun W hW=>by
   have:=hW.old B ⟨hB,fun hf=>hf⟩
   simp only[World.cell?,this]
   exact hcell) hcr
  have hx1:dF (cq w1 S1) w1:=⟨rfl,rfl,rfl,Nat.le_refl _,Nat.le_refl _,fun _ _=>rfl⟩
  refine q9 (f150:=150) (g:=94) xp.fn (K0:=nY (cq w1 S1) Sy.K1 l) ?_ (f:=92) (f149:=149) (fn:=Tryz.f92) (by kernel_rfl) rfl rfl rfl rfl rfl rfl rfl IW (yX hE hwt hlen hIt hx1)
  intro v w2 hv
  obtain⟨X,S2,β,hX2,hR⟩:=hv.at (a:=⟨#[v],[]⟩) (nt:=1) (t:=0) rfl Nat.one_pos rfl rfl
  refine(wu hE xp s94 hR (Bg hX2 hlen) hsd).mono ?_
  rintro en w3 ⟨⟨u,rfl⟩,S',q1,q2,q3,q4,q5⟩
  refine⟨u,rfl,S',hX.trans q1,q2,q3,fun b o hb hlt=>?_,fun h2=>?_⟩
  ·have h1:b<w1.heap.size:=Nat.lt_of_lt_of_le hlt hX.sz
   exact hSo b o (q4 b o hb ⟨h1,fun hf=>hf⟩) hlt
  ·obtain⟨b,off,cap,z1,z2,z3⟩:=q5 h2
   exact⟨b,off,cap,z1,z2,fun ho=>z3 ⟨Nat.lt_of_lt_of_le ho.1 hX.sz,fun hf=>hf⟩⟩
 ·rintro v w2 ⟨S',q1,q2,q3,q4,q5⟩
  refine(BE (r:=cq w S) hE hwt' (by rw[hperm.length_eq];exact hlen) q1 q3 (fun b o hb ho=>q4 b o hb ho.1) q2 q5).mono ?_
  rintro en w3 ⟨u,rfl,S3,k1,k2,k3,k4⟩
  refine⟨u,rfl,bQ k1 (fun _ hf=>hf),⟨_,rfl,fun x hx=>hwt' x (ww _ x hx)⟩,(DR.of0 k2).mono (fun _ _ _=>rfl) fun b o hb=>?_⟩
  rcases Nat.lt_or_ge b w.heap.size with hlt|hge
  ·exact .inl (k4 b o hb ⟨hlt,fun hf=>hf⟩)
  ·exact .inr ⟨hge,k3 b o hb⟩
end Go.Proofs.YtjjjkojfijpeeaaGreat.Sy
end
section
namespace Go.Proofs.YtjjjkojfijpeeaaGreat.Sy
open Go Go.Proofs Go.Proofs.YtjjjkojfijpeeaaGreat.Geo
theorem Id{d:D}(h:wt K1 d):∃ v:V,d=aq v:=by
 obtain⟨l,rfl,hl,h⟩:=h
 match l,hl with
 | [a,b,c],_=>
  obtain⟨x,rfl⟩:=h a (by simp)
  obtain⟨y,rfl⟩:=h b (by simp)
  obtain⟨z,rfl⟩:=h c (by simp)
  exact⟨⟨x,y,z⟩,rfl⟩
end Go.Proofs.YtjjjkojfijpeeaaGreat.Sy
end
section
namespace Go.Proofs.YtjjjkojfijpeeaaGreat.Sy
open Go Go.Proofs Go.Proofs.YtjjjkojfijpeeaaGreat.Geo
noncomputable def xi(k:Nat)(f:Nat)(xs:List D):Option D:=if f=10 then wX (Na 2000) 20 10 xs else cA k f xs
theorem Cs(k:Nat):jP Tryz.prog (xi k):=by
 intro f ptys rty xs y hs hy hw
 unfold xi at hy
 split at hy
 ·rename_i hf
  subst hf
  exact rW (sT 2000) (M3 (sT 2000)) 20 10 ptys rty xs y hs hy hw
 ·exact rW mf (M3 mf) k f ptys rty xs y hs hy hw
end Go.Proofs.YtjjjkojfijpeeaaGreat.Sy
end
section
set_option linter.unusedVariables false
namespace Go.Proofs.YtjjjkojfijpeeaaGreat.Sy
open Go Go.Proofs Go.Proofs.YtjjjkojfijpeeaaGreat.Geo
abbrev FL:=List ((V×Int)×List Nat)
def er(L:FL):List D:=L.map fun f=>gk f.1 f.2
theorem ed(L:FL):(er L).length=L.length:=List.length_map ..
theorem nX{L:FL}{i:Nat}(h:i<L.length):(er L)[i]?=some (gk L[i].1 L[i].2):=by simp[er,h]
end Go.Proofs.YtjjjkojfijpeeaaGreat.Sy
end
section
set_option linter.unusedVariables false
namespace Go.Proofs.YtjjjkojfijpeeaaGreat.Sy
open Go Go.Proofs Go.Proofs.YtjjjkojfijpeeaaGreat.Geo
end Go.Proofs.YtjjjkojfijpeeaaGreat.Sy
end
section
set_option linter.unusedVariables false
namespace Go.Proofs.YtjjjkojfijpeeaaGreat.Sy
open Go Go.Proofs Go.Proofs.YtjjjkojfijpeeaaGreat.Geo
theorem EH:¬ (0:Int)<=-1:=by decide
end Go.Proofs.YtjjjkojfijpeeaaGreat.Sy
end
section
set_option linter.unusedVariables false
namespace Go.Proofs.YtjjjkojfijpeeaaGreat.Sy
open Go Go.Proofs Go.Proofs.YtjjjkojfijpeeaaGreat.Geo
def aQ:List Nat->Nat
 | []=>0
 | d::l=>d+65536*aQ l
def dl(l:List Nat):Prop:=∀ d∈l,d<65536
theorem dl.cons{d:Nat}{l:List Nat}(hd:d<65536)(h:dl l):dl (d::l):=fun x hx=>by
 rcases List.mem_cons.1 hx with rfl|hx
 ·exact hd
 ·exact h x hx
theorem dl.append{a b:List Nat}(ha:dl a)(hb:dl b):dl (a++b):=fun x hx=>by
 rcases List.mem_append.1 hx with hx|hx
 ·exact ha x hx
 ·exact hb x hx
theorem dl.getD{l:List Nat}(h:dl l)(i:Nat):l.getD i 0<65536:=by
 simp only[List.getD]
 cases hi:l[i]? with
 | none=>simp
 | some x=>exact h x (List.mem_of_getElem? hi)
def aC(m:Nat):List Nat:=if h:m=0 then[] else m%65536::aC (m/65536)
termination_by m
decreasing_by omega
theorem bU:aC 0=[]:=by unfold aC;simp
theorem gV{m:Nat}(h:m≠0):aC m=m%65536::aC (m/65536):=by rw[aC,dif_neg h]
theorem tR{d v:Nat}(hd:d<65536)(h:d+65536*v≠0):aC (d+65536*v)=d::aC v:=by
 rw[gV h,show(d+65536*v)%65536=d by omega,show(d+65536*v)/65536=v by omega]
theorem am(m:Nat):aQ (aC m)=m:=by
 induction m using Nat.strongRecOn with
 | _ m ih=>
  by_cases h:m=0
  ·subst h;rw[bU];rfl
  ·rw[gV h,aQ,ih _ (by omega)];omega
theorem aV(m:Nat):dl (aC m):=by
 induction m using Nat.strongRecOn with
 | _ m ih=>
  by_cases h:m=0
  ·subst h;rw[bU];intro d hd;cases hd
  ·rw[gV h];exact dl.cons (by omega) (ih _ (by omega))
theorem rU{m:Nat}:aC m=[]↔m=0:=by
 constructor
 ·intro h;have:=am m;rw[h] at this;exact this.symm
 ·rintro rfl;exact bU
theorem oz(i:Nat):∀ m,(aC m).getD i 0=m/65536^i%65536:=by
 induction i with
 | zero=>
  intro m
  by_cases h:m=0
  ·subst h;rw[bU];simp
  ·rw[gV h];simp
 | succ i ih=>
  intro m
  by_cases h:m=0
  ·subst h;rw[bU];simp
  ·rw[gV h]
   show(aC (m/65536)).getD i 0=_
   rw[ih,Nat.div_div_eq_div_mul,Nat.pow_succ,Nat.mul_comm 65536]
theorem bx(k:Nat):∀ m,m<65536^k->(aC m).length<=k:=by
 induction k with
 | zero=>
      intro m h;have:m=0:=by simpa using h
      subst this;rw[bU];simp
 | succ k ih=>
  intro m h
  by_cases h0:m=0
  ·subst h0;rw[bU];simp
  ·rw[gV h0,List.length_cons]
   have:=ih (m/65536) (by rw[Nat.pow_succ] at h;exact Nat.div_lt_of_lt_mul (by rw[Nat.mul_comm];exact h))
   omega
theorem kn(a b:List Nat):aQ (a++b)=aQ a+65536^a.length*aQ b:=by
 induction a with
 | nil=>simp[aQ]
 | cons d a ih=>
  simp only[List.cons_append,aQ,ih,List.length_cons,Nat.pow_succ]
  rw[Nat.mul_add,<-Nat.mul_assoc,Nat.mul_comm 65536 (65536^a.length)]
  omega
theorem lT(l:List Nat)(n:Nat):aQ (l++List.replicate n 0)=aQ l:=by
 rw[kn]
 have:∀ n,aQ (List.replicate n 0)=0:=fun n=>by
  induction n with
  | zero=>rfl
  | succ n ih=>rw[List.replicate_succ,aQ,ih]
 rw[this];simp
def vt(l:List Nat):Nat->Nat
 | 0=>0
 | k+1=>vt l k+l.getD k 0*65536^k
theorem F8(d:Nat)(l:List Nat)(k:Nat):vt (d::l) (k+1)=d+65536*vt l k:=by
 induction k with
 | zero=>simp[vt]
 | succ k ih=>
  rw[vt,ih,vt,Nat.mul_add]
  have:(d::l).getD (k+1) 0=l.getD k 0:=rfl
  rw[this,Nat.pow_succ,<-Nat.mul_assoc,<-Nat.mul_assoc,Nat.mul_comm 65536 (l.getD k 0),Nat.mul_assoc,Nat.mul_comm (65536^k),<-Nat.mul_assoc]
  omega
theorem j7(l:List Nat):vt l l.length=aQ l:=by
 induction l with
 | nil=>rfl
 | cons d l ih=>rw[List.length_cons,F8,ih];rfl
theorem gF{l:List Nat}{k:Nat}(h:l.length<=k):vt l k=aQ l:=by
 obtain⟨j,rfl⟩:∃ j,k=l.length+j:=⟨k-l.length,by omega⟩
 clear h
 induction j with
 | zero=>exact j7 l
 | succ j ih=>
  rw[<-Nat.add_assoc,vt,ih]
  have:l.getD (l.length+j) 0=0:=by simp[List.getD]
  rw[this];simp
theorem qL{l:List Nat}(h:dl l)(k:Nat):vt l k<65536^k:=by
 induction k with
 | zero=>simp[vt]
 | succ k ih=>
  have h1:=h.getD k
  have h2:l.getD k 0*65536^k<=65535*65536^k:=Nat.mul_le_mul_right _ (by omega)
  rw[vt,Nat.pow_succ,Nat.mul_comm (65536^k)]
  omega
theorem jz{l:List Nat}(h:dl l):aQ l<65536^l.length:=by rw[<-j7];exact qL h _
def jq:List Nat->List Nat
 | []=>[]
 | d::l=>match jq l with
  | []=>if d=0 then[] else[d]
  | x::t=>d::x::t
theorem gb{l:List Nat}(h:dl l):jq l=aC (aQ l):=by
 induction l with
 | nil=>rw[aQ,bU];rfl
 | cons d l ih=>
  have hd:d<65536:=h d List.mem_cons_self
  have ih:=ih fun x hx=>h x (List.mem_cons_of_mem _ hx)
  rw[jq,ih,aQ]
  by_cases hv:aQ l=0
  ·rw[hv,bU]
   by_cases h0:d=0
   ·subst h0;simp[bU]
   ·rw[tR hd (by omega),bU];simp[h0]
  ·rw[tR hd (by omega),gV hv]
theorem yE{l:List Nat}(h:∀ i,i<l.length->l.getD i 0=0):jq l=[]:=by
 induction l with
 | nil=>rfl
 | cons d l ih=>
  have h0:d=0:=h 0 (by simp)
  rw[jq,ih (fun i hi=>h (i+1) (by simpa using hi)),h0];simp
theorem sZ:∀ {l:List Nat} {n:Nat},n<=l.length->(∀ i,n<=i->i<l.length->l.getD i 0=0)->(n=0\/l.getD (n-1) 0≠0)->l.take n=jq l
 | [],n,_,_,_=>by simp[jq]
 | d::l,0,_,hz,_=>by rw[yE (fun i hi=>hz i (by omega) hi)];rfl
 | d::l,n+1,hn,hz,hl=>by
  have hl':(d::l).getD n 0≠0:=by
   rcases hl with h|h
   ·omega
   ·exact h
  have ih:l.take n=jq l:=sZ (l:=l) (n:=n) (by simpa using hn) (fun i h1 h2=>hz (i+1) (by omega) (by simpa using h2)) (by
   cases n with
   | zero=>exact .inl rfl
   | succ k=>exact .inr hl')
  rw[List.take_succ_cons,ih,jq]
  cases ht:jq l with
  | nil=>
   rw[ht] at ih
   have:n=0:=by
    cases n with
    | zero=>rfl
    | succ k=>cases l with
     | nil=>simp at hn
     | cons e l=>simp at ih
   subst this
   have:d≠0:=hl'
   simp[this]
  | cons x t=>rfl
end Go.Proofs.YtjjjkojfijpeeaaGreat.Sy
end
section
set_option linter.unusedVariables false
namespace Go.Proofs.YtjjjkojfijpeeaaGreat.Sy
open Go Go.Proofs Go.Proofs.YtjjjkojfijpeeaaGreat.Geo
theorem cR{l:List Nat}{i:Nat}(h:i<l.length):(ab l)[i]?=some (I (l.getD i 0:Nat)):=ib h
theorem tF(a:List Nat)(d:Nat):ab a++[I (d:Int)]=ab (a++[d]):=by simp[ab]
theorem xa(n:Nat){l:List Nat}(hl:l.length<=1000000):cA (n+1) 140 [.sl (ab l)]=some (.sl (ab (jq l))):=by
 rw[MW]
 unfold Ek
 refine aa (z:=ab l) rfl ?_
 have fin:∀ j:Nat,j<=l.length->(∀ i,j<=i->i<l.length->l.getD i 0=0)->(j=0\/l.getD (j-1) 0≠0)->(Option.bind (D.asSl (.sl (ab l))) fun l13=>Option.bind (D.natOf (I (j:Int))) fun i14=>Option.bind (D.cut l13 0 i14) fun l15=>some (D.sl l15))=some (.sl (ab (jq l))):=by
  intro j hj hz hd
  refine aa (z:=ab l) rfl (aa (z:=j) (by simp[D.natOf]) (aa (z:=ab (l.take j)) ?_ (by rw[sZ hj hz hd])))
  simp only[D.cut]
  rw[if_pos ⟨Nat.zero_le _,by rw[ae];exact hj⟩]
  simp[ab,List.map_take]
 refine br (fun i s=>s=[I ((l.length-i:Nat):Int)]/\∀ k,l.length-i<=k->k<l.length->l.getD k 0=0) l.length 0 (Nat.zero_le _) ⟨by rw[ae];rfl,fun k h1 h2=>by omega⟩ (fun i hi s hJ=>?_) (fun s hJ=>?_)
 ·obtain⟨rfl,hz⟩:=hJ
  have hb:inR (((l.length-i:Nat):Int)-1):=by simp only[inR];omega
  have e1:((l.length-i:Nat):Int)-1=((l.length-i-1:Nat):Int):=by omega
  have hx:(ab l)[l.length-i-1]?=some (I (l.getD (l.length-i-1) 0:Nat)):=cR (by omega)
  by_cases h0:l.getD (l.length-i-1) 0=0
  ·left
   refine⟨[I ((l.length-(i+1):Nat):Int)],?_,rfl,fun k h1 h2=>?_⟩
   ·refine aa fK (aa ag (aa (z:=true) (aX (by show((l.length-i:Nat):Int)>0;omega) ?_) (aa ag ?_)))
    ·refine aa (fi hb) (aa (z:=ab l) rfl (aa (z:=l.length-i-1) (by rw[e1,ae];exact aK (by omega)) (aa hx ?_)))
     rw[h0];rfl
    ·rw[if_pos rfl]
     refine aa (fi hb) ?_
     rw[e1,Nat.sub_sub]
   ·by_cases e:k=l.length-i-1
    ·rw[e];exact h0
    ·exact hz k (by omega) h2
  ·right
   refine⟨(0,[I ((l.length-i:Nat):Int)]),?_,fin _ (by omega) hz (.inr h0)⟩
   refine aa fK (aa ag (aa (z:=false) (aX (by show((l.length-i:Nat):Int)>0;omega) ?_) (aa ag rfl)))
   refine aa (fi hb) (aa (z:=ab l) rfl (aa (z:=l.length-i-1) (by rw[e1,ae];exact aK (by omega)) (aa hx ?_)))
   rw[dN,decide_eq_false (by omega)];rfl
 ·obtain⟨rfl,hz⟩:=hJ
  refine⟨(0,[I ((l.length-l.length:Nat):Int)]),?_,fin _ (by omega) hz (.inl (by omega))⟩
  refine aa fK (aa ag (aa (z:=false) (ba (by show ¬ ((l.length-l.length:Nat):Int)>0;omega) rfl) (aa ag rfl)))
theorem BY(n:Nat)(l:List Nat)(k:Nat):cA (n+1) 141 [.sl (ab l),I (k:Int)]=some (I (l.getD k 0:Nat)):=by
 rw[KF]
 unfold Gu
 refine aa (z:=ab l) rfl (aa aj (aa ag ?_))
 by_cases h:k<l.length
 ·refine aX (by show(k:Int)<((ab l).length:Int);rw[ae];omega) ?_
  exact aa (z:=ab l) rfl (aa (z:=k) (by rw[ae];exact aK h) (aa (cR h) rfl))
 ·refine ba (by show ¬ (k:Int)<((ab l).length:Int);rw[ae];omega) ?_
  have:l.getD k 0=0:=by simp[List.getD,h]
  rw[this];rfl
def dZ(l:List Nat)(i:Nat):Nat:=l.getD (2*i) 0+65536*l.getD (2*i+1) 0
abbrev U(n:Nat):D:=.int .u32 (n:Int)
def dA(l:List Nat):D:=.st ((List.range 16).map fun i=>U (dZ l i))
def ah(x:Int):D:=.st [.bool false,.bool (decide (x<0)),dA (aC x.natAbs)]
theorem vN{l:List Nat}(h:dl l)(i:Nat):dZ l i<4294967296:=by
 have:=h.getD (2*i);have:=h.getD (2*i+1);unfold dZ;omega
theorem ra{l:List Nat}{i:Nat}(h:i<16):D.fld (dA l) i=some (U (dZ l i)):=by simp[dA,D.fld,h]
theorem du{x:Int}{i:Nat}(h:i<16):D.get (ah x) [2,i]=some (U (dZ (aC x.natAbs) i)):=
 aa (z:=dA (aC x.natAbs)) rfl (aa (ra h) rfl)
theorem nD{n:Int}(h:0<=n/\n<4294967296):IntKind.wrap .u32 n=n:=by
 obtain⟨h1,h2⟩:=h
 simp only[IntKind.wrap,IntKind.signed,IntKind.bits]
 first
  | omega
  | (simp;omega)
theorem HD(a:Nat):D.bin .rem (U a) (.int .u32 65536)=some (U (a%65536)):=by
 simp only[D.bin,if_true,show ¬ (65536:Int)=0 by decide,if_false]
 rw[show(65536:Int)=((65536:Nat):Int) from rfl,<-Int.ofNat_tmod]
theorem Hn{a:Nat}(h:a<4294967296):D.bin .quo (U a) (.int .u32 65536)=some (U (a/65536)):=by
 simp only[D.bin,if_true,show ¬ (65536:Int)=0 by decide,if_false]
 rw[show(65536:Int)=((65536:Nat):Int) from rfl,<-Int.ofNat_tdiv,nD (by omega)]
theorem DA{a b:Nat}(h:a+b<4294967296):D.bin .add (U a) (U b)=some (U (a+b)):=by
 simp only[D.bin,if_true]
 rw[nD (by omega)];simp
theorem HN{a b:Nat}(h:a*b<4294967296):D.bin .mul (U a) (U b)=some (U (a*b)):=by
 simp only[D.bin,if_true]
 rw[show(a:Int)*(b:Int)=((a*b:Nat):Int) by simp,nD (by omega)]
theorem pM{a:Nat}(h:a<4294967296):D.conv .i64 (U a)=some (I (a:Int)):=by
 simp only[D.conv];rw[iE (by simp only[inR];omega)]
theorem Aq{a:Nat}(h:a<4294967296):D.conv .u32 (I (a:Int))=some (U a):=by
 simp only[D.conv];rw[nD (by omega)]
theorem yG(l:List Nat)(k:Nat):((List.range k).map fun i=>l.getD i 0)=if k<=l.length then l.take k else l++List.replicate (k-l.length) 0:=by
 apply List.ext_getElem?
 intro i
 by_cases h:i<k
 ·rw[List.getElem?_map,List.getElem?_range h]
  split
  ·simp[h,List.getD,show i<l.length by omega]
  ·by_cases h2:i<l.length
   ·simp[List.getElem?_append,h2,List.getD]
   ·simp[List.getElem?_append,h2,List.getD,List.getElem?_replicate,show i-l.length<k-l.length by omega]
 ·rw[List.getElem?_map,show(List.range k)[i]?=none by simp;omega]
  split
  ·simp;omega
  ·simp;omega
theorem CW{l:List Nat}(hd:dl l){k:Nat}(hk:l.length<=k):jq ((List.range k).map fun i=>l.getD i 0)=aC (aQ l):=by
 have e:((List.range k).map fun i=>l.getD i 0)=l++List.replicate (k-l.length) 0:=by
  rw[yG]
  split
  ·have:k=l.length:=by omega
   subst this;simp
  ·rfl
 rw[e,gb (hd.append (fun x hx=>by rw[List.eq_of_mem_replicate hx];decide)),lT]
theorem Am(n:Nat){x:Int}(hx:x.natAbs<65536^32):cA (n+2) 77 [ah x]=some (.sl (ab (aC x.natAbs))):=by
 rw[N6]
 unfold Jo
 have hd:=aV x.natAbs
 have hlen:=bx 32 _ hx
 refine br (fun i s=>s=[.sl (ab ((List.range (2*i)).map fun i=>(aC x.natAbs).getD i 0)),I (i:Int)]) 16 0 (Nat.zero_le _) rfl (fun i hi s hJ=>?_) (fun s hJ=>?_)
 ·subst hJ
  left
  refine⟨_,?_,rfl⟩
  refine aa aj (aa ag (aX (by show(i:Int)<16;omega) ?_))
  have hlt:=vN hd i
  have h1:=hd.getD (2*i)
  refine aa (z:=i) (aK hi) (aa (du hi) (aa (HD _) (aa (pM (by omega)) (aa (z:=i) (aK hi) (aa (du hi) (aa (Hn hlt) (aa (pM (by omega)) ?_)))))))
  rw[if_pos (by simp only[g0,D.els,ae,List.length_map,List.length_range,List.length_cons,List.length_nil];omega)]
  refine aa (aH (aS (i:=i) (by omega))) ?_
  have e1:dZ (aC x.natAbs) i%65536=(aC x.natAbs).getD (2*i) 0:=by unfold dZ;omega
  have e2:dZ (aC x.natAbs) i/65536=(aC x.natAbs).getD (2*i+1) 0:=by unfold dZ;omega
  rw[e1,e2,show 2*(i+1)=2*i+1+1 by omega,List.range_succ,List.range_succ]
  simp[g0,D.els,ab]
 ·subst hJ
  refine⟨(0,[.sl (ab ((List.range (2*16)).map fun i=>(aC x.natAbs).getD i 0))]),?_,?_⟩
  ·exact aa aj (aa ag (ba (by decide) rfl))
  ·refine aa (xa n (by simp)) ?_
   rw[CW hd hlen,am]
end Go.Proofs.YtjjjkojfijpeeaaGreat.Sy
end
section
set_option linter.unusedVariables false
namespace Go.Proofs.YtjjjkojfijpeeaaGreat.Sy
open Go Go.Proofs Go.Proofs.YtjjjkojfijpeeaaGreat.Geo
theorem jh(l:List Nat)(k j:Nat):(l.take k).getD j 0=if j<k then l.getD j 0 else 0:=by
 simp only[List.getD,List.getElem?_take]
 split<;>simp
theorem rA{l l':List Nat}{q v:Nat}{a b:D}(hq:q<16)(h:∀ i,dZ l' i=if i=q then v else dZ l i):D.set (.st [a,b,dA l]) [2,q] (U v)=some (.st [a,b,dA l']):=by
 have h1:D.set (dA l) [q] (U v)=some (dA l'):=by
  have e:((List.range 16).map fun i=>U (dZ l i))[q]?=some (U (dZ l q)):=by simp[hq]
  refine aa e (aa (z:=U v) rfl ?_)
  simp only[dA,Option.some.injEq,D.st.injEq]
  apply List.ext_getElem?
  intro i
  rw[List.getElem?_set]
  by_cases hi:q=i
  ·subst hi
   simp[hq,h]
  ·rw[if_neg hi,List.getElem?_map,List.getElem?_map]
   by_cases h16:i<16
   ·rw[List.getElem?_range h16];simp[h,show i≠q from fun e=>hi e.symm]
   ·rw[show(List.range 16)[i]?=none by simp;omega];rfl
 exact aa (z:=dA l) rfl (aa h1 rfl)
theorem yK(k:Nat):D.bin .rem (I (k:Int)) (.int .i64 2)=some (I (k%2:Nat)):=by
 rw[lK (by decide),show(2:Int)=((2:Nat):Int) from rfl,<-Int.ofNat_tmod]
theorem gu{a b:Nat}(hb:b≠0)(ha:(a:Int)<=9223372036854775807):D.bin .quo (I (a:Int)) (I (b:Int))=some (I (a/b:Nat)):=by
 have:((a/b:Nat):Int)<=9223372036854775807:=by have:=Nat.div_le_self a b;omega
 have h0:0<=((a/b:Nat):Int):=Int.natCast_nonneg _
 rw[sV (by omega) (by rw[<-Int.ofNat_tdiv];simp only[inR];omega),<-Int.ofNat_tdiv]
theorem iQ{a b:Nat}(hb:b≠0):D.bin .rem (I (a:Int)) (I (b:Int))=some (I (a%b:Nat)):=by
 rw[lK (by omega),<-Int.ofNat_tmod]
theorem wK{a b:D}{l:List Nat}{i:Nat}(h:i<16):D.get (.st [a,b,dA l]) [2,i]=some (U (dZ l i)):=
 aa (z:=dA l) rfl (aa (ra h) rfl)
def sgn(neg:Bool)(m:Nat):Int:=if neg then -(m:Int) else m
theorem GT(n:Nat){l:List Nat}{neg:Bool}(hd:dl l)(hl:l.length<=1000000)(hv:aQ l<65536^32):cA (n+2) 81 [.bool neg,.sl (ab l)]=some (ah (sgn neg (aQ l))):=by
 rw[M9]
 unfold Ij
 have hlen:=bx 32 _ hv
 have hdd:=aV (aQ l)
 have hen:ah (sgn neg (aQ l))=.st [.bool false,.bool (neg&&decide (0<(aC (aQ l)).length)),dA (aC (aQ l))]:=by
  have e1:(sgn neg (aQ l)).natAbs=aQ l:=by unfold sgn;split<;>omega
  have e2:(0<(aC (aQ l)).length)↔aQ l≠0:=by
   rw[List.length_pos_iff];exact not_congr rU
  unfold ah
  rw[e1]
  have:decide (sgn neg (aQ l)<0)=(neg&&decide (0<(aC (aQ l)).length)):=by
   simp only[e2,sgn]
   cases neg
   ·simp<;>omega
   ·by_cases h:aQ l=0
    ·simp[h]
    ·simp[h]<;>omega
  rw[this]
 rw[hen]
 refine aa (xa n hl) ?_
 rw[gb hd]
 generalize aC (aQ l)=d at hlen hdd
 refine aa (z:=ab d) rfl (aa fK (aa ag (ba (by show ¬ ((ab d).length:Int)>32;rw[ae];omega) ?_)))
 refine aa ag (aa (z:=neg&&decide (0<d.length)) ?_ ?_)
 ·cases neg
  ·rfl
  ·rw[if_pos rfl]
   refine aa (z:=ab d) rfl (aa fK ?_)
   rw[ag,ae]
   simp
 refine br (fun k s=>s=[I (k:Int),.st [.bool false,.bool (neg&&decide (0<d.length)),dA (d.take k)]]) d.length 0 (Nat.zero_le _) rfl (fun k hk s hJ=>?_) (fun s hJ=>?_)
 ·subst hJ
  left
  refine⟨_,?_,rfl⟩
  have hdk:=hdd.getD k
  refine aa (z:=ab d) rfl (aa aj (aa ag (aX (by show(k:Int)<((ab d).length:Int);rw[ae];omega) ?_)))
  refine aa (z:=(0,[.st [.bool false,.bool (neg&&decide (0<d.length)),dA (d.take (k+1))]])) ?_ (aa (aH (aS (i:=k) (by omega))) rfl)
  refine aa (yK k) ?_
  have q1:k/2<16:=by omega
  have hq:D.bin .quo (I (k:Int)) (.int .i64 2)=some (I (k/2:Nat)):=gu (b:=2) (by decide) (by omega)
  have hlk:dZ (d.take k) (k/2)=if k%2=0 then 0 else d.getD (2*(k/2)) 0:=by
   simp only[dZ,jh]
   by_cases hk2:k%2=0
   ·rw[if_pos hk2,if_neg (show ¬ 2*(k/2)<k by omega),if_neg (show ¬ 2*(k/2)+1<k by omega)]
   ·rw[if_neg hk2,if_pos (show 2*(k/2)<k by omega),if_neg (show ¬ 2*(k/2)+1<k by omega)];omega
  have hd2:=hdd.getD (2*(k/2))
  by_cases hk2:k%2=0
  ·rw[if_pos hk2] at hlk
   rw[hk2]
   refine aa (z:=true) rfl ?_
   rw[if_pos rfl]
   refine aa hq (aa hq (aa (aK q1) (aa (wK q1) (aa (z:=ab d) rfl (aa (z:=k) (by rw[ae];exact aK hk) (aa (cR hk) (aa (Aq (by omega)) (aa (DA (by rw[hlk];omega)) (aa (aK q1) (aa (rA q1 (l':=d.take (k+1)) ?_) rfl))))))))))
   intro i
   by_cases hi:i=k/2
   ·rw[if_pos hi,hlk,hi]
    simp only[dZ,jh]
    rw[if_pos (show 2*(k/2)<k+1 by omega),if_neg (show ¬ 2*(k/2)+1<k+1 by omega),show 2*(k/2)=k by omega];omega
   ·rw[if_neg hi]
    simp only[dZ,jh]
    have a1:(2*i<k+1)↔(2*i<k):=by omega
    have a2:(2*i+1<k+1)↔(2*i+1<k):=by omega
    simp only[a1,a2]
  ·rw[if_neg hk2] at hlk
   refine aa (z:=false) (by rw[show k%2=1 by omega];rfl) ?_
   rw[if_neg (by decide)]
   refine aa hq (aa hq (aa (aK q1) (aa (wK q1) (aa (z:=ab d) rfl (aa (z:=k) (by rw[ae];exact aK hk) (aa (cR hk) (aa (Aq (by omega)) (aa (HN (b:=65536) (by omega)) (aa (DA (by rw[hlk];omega)) (aa (aK q1) (aa (rA q1 (l':=d.take (k+1)) ?_) rfl)))))))))))
   intro i
   by_cases hi:i=k/2
   ·rw[if_pos hi,hlk,hi]
    simp only[dZ,jh]
    rw[if_pos (show 2*(k/2)<k+1 by omega),if_pos (show 2*(k/2)+1<k+1 by omega),show 2*(k/2)+1=k by omega];omega
   ·rw[if_neg hi]
    simp only[dZ,jh]
    have a1:(2*i<k+1)↔(2*i<k):=by omega
    have a2:(2*i+1<k+1)↔(2*i+1<k):=by omega
    simp only[a1,a2]
 ·subst hJ
  refine⟨(0,[.st [.bool false,.bool (neg&&decide (0<d.length)),dA (d.take d.length)]]),?_,?_⟩
  ·exact aa (z:=ab d) rfl (aa aj (aa ag (ba (by show ¬ (d.length:Int)<((ab d).length:Int);rw[ae];omega) rfl)))
  ·rw[List.take_length];rfl
theorem Ns(n:Nat){a b:List Nat}(ha:dl a)(hb:dl b)(hla:a.length<=900000)(hlb:b.length<=900000):cA (n+2) 82 [.sl (ab a),.sl (ab b)]=some (.sl (ab (aC (aQ a+aQ b)))):=by
 rw[OO]
 unfold Js
 obtain⟨M,hM⟩:∃ M,M=max a.length b.length:=⟨_,rfl⟩
 have hmax:∀ k:Nat,D.max2 (D.int .i64 (ab a).length) (D.int .i64 (ab b).length)=some (I (M:Int)):=fun _=>by
  rw[Dx,ae,ae,hM];congr 2;omega
 refine br (fun k s=>∃ (out:List Nat) (c:Nat),s=[.sl (ab out),I (c:Int),I (k:Int)]/\out.length=k/\dl out/\c<=1/\aQ out+c*65536^k=vt a k+vt b k) (M+1) 0 (Nat.zero_le _) ⟨[],0,rfl,rfl,(by intro d hd;cases hd),by omega,by simp[aQ,vt]⟩ (fun k hk s hJ=>?_) (fun s hJ=>?_)
 ·obtain⟨out,c,rfl,ho,hdo,hc,hv⟩:=hJ
  left
  have h1:=ha.getD k
  have h2:=hb.getD k
  refine⟨[.sl (ab (out++[(a.getD k 0+b.getD k 0+c)%65536])),I ((a.getD k 0+b.getD k 0+c)/65536:Nat),I ((k+1:Nat):Int)],?_,out++[(a.getD k 0+b.getD k 0+c)%65536],(a.getD k 0+b.getD k 0+c)/65536,rfl,by simp[ho],hdo.append (fun x hx=>by simp at hx;omega),by omega,?_⟩
  ·refine aa (z:=ab a) rfl (aa (z:=ab b) rfl (aa (hmax 0) (aa (aH (aS (i:=M) (by omega))) (aa aj (aa ag (aX (by show(k:Int)<(M:Int)+1;omega) ?_))))))
   refine aa (BY n a k) (aa (BY n b k) (aa (aH (by simp only[inR];omega)) (aa (aH (by simp only[inR];omega)) ?_)))
   rw[show(((a.getD k 0:Nat):Int)+((b.getD k 0:Nat):Int)+(c:Int))=((a.getD k 0+b.getD k 0+c:Nat):Int) by omega]
   refine aa (iQ (b:=65536) (by decide)) ?_
   rw[if_pos (by simp only[g0,D.els,ae,List.length_cons,List.length_nil];omega)]
   refine aa (gu (b:=65536) (by decide) (by omega)) (aa (aH (aS (i:=k) (by omega))) ?_)
   simp only[g0,D.els,tF]
   rfl
  ·rw[kn,ho,vt,vt,Nat.pow_succ]
   have e:a.getD k 0+b.getD k 0+c=(a.getD k 0+b.getD k 0+c)%65536+65536*((a.getD k 0+b.getD k 0+c)/65536):=by omega
   have e2:aQ [(a.getD k 0+b.getD k 0+c)%65536]=(a.getD k 0+b.getD k 0+c)%65536:=by simp[aQ]
   rw[e2]
   generalize 65536^k=B at *
   generalize (a.getD k 0+b.getD k 0+c)%65536=r at *
   generalize (a.getD k 0+b.getD k 0+c)/65536=q at *
   have:(a.getD k 0+b.getD k 0+c)*B=(r+65536*q)*B:=by rw[e]
   rw[Nat.add_mul,Nat.add_mul,Nat.add_mul] at this
   rw[show q*(B*65536)=65536*q*B by rw[Nat.mul_comm B,<-Nat.mul_assoc,Nat.mul_comm q],Nat.mul_comm B r]
   omega
 ·obtain⟨out,c,rfl,ho,hdo,hc,hv⟩:=hJ
  refine⟨(0,[.sl (ab out)]),?_,?_⟩
  ·refine aa (z:=ab a) rfl (aa (z:=ab b) rfl (aa (hmax 0) (aa (aH (aS (i:=M) (by omega))) (aa aj (aa ag (ba (by show ¬ (((M+1:Nat):Int)<(M:Int)+1);omega) rfl))))))
  ·refine aa (xa n (l:=out) (by omega)) ?_
   have va:vt a (M+1)=aQ a:=gF (by omega)
   have vb:vt b (M+1)=aQ b:=gF (by omega)
   have la:=qL ha M
   have lb:=qL hb M
   rw[gF (show a.length<=M by omega)] at la
   rw[gF (show b.length<=M by omega)] at lb
   have hc0:c=0:=by
    rcases Nat.eq_zero_or_pos c with h|h
    ·exact h
    ·have:1*65536^(M+1)<=c*65536^(M+1):=Nat.mul_le_mul_right _ h
     rw[Nat.pow_succ] at this
     rw[va,vb,Nat.pow_succ] at hv
     omega
   subst hc0
   rw[gb hdo,<-va,<-vb,<-hv];simp
theorem GS(n:Nat){x:Int}(hx:inR x):cA (n+3) 34 [I x]=some (ah x):=by
 rw[NH]
 unfold JD
 obtain⟨h1,h2⟩:=hx
 have d1:∀ m:Nat,(m:Int)<=9223372036854775807->dl [m%65536,m/65536%65536,m/4294967296%65536,m/281474976710656]:=fun m hm d hd=>by
  simp only[List.mem_cons,List.not_mem_nil,or_false] at hd;omega
 have d2:∀ m:Nat,aQ [m%65536,m/65536%65536,m/4294967296%65536,m/281474976710656]=m:=fun m=>by
  simp only[aQ];omega
 have d3:∀ m:Nat,D.sl [I (m%65536:Nat),I (m/65536%65536:Nat),I (m/4294967296%65536:Nat),I (m/281474976710656:Nat)]=.sl (ab [m%65536,m/65536%65536,m/4294967296%65536,m/281474976710656]):=fun m=>rfl
 have big:∀ m:Nat,(m:Int)<=9223372036854775808->m<65536^32:=fun m hm=>by
  have:(65536:Nat)^4<=65536^32:=Nat.pow_le_pow_right (by decide) (by decide)
  have e:(65536:Nat)^4=18446744073709551616:=by decide
  omega
 refine aa je (aa ag ?_)
 by_cases h:x ≥ 0
 ·refine aX h ?_
  obtain⟨m,rfl⟩:=Int.eq_ofNat_of_zero_le h
  refine aa (iQ (b:=65536) (by decide)) (aa (gu (b:=65536) (by decide) h2) (aa (iQ (b:=65536) (by decide)) (aa (gu (b:=4294967296) (by decide) h2) (aa (iQ (b:=65536) (by decide)) (aa (gu (b:=281474976710656) (by decide) h2) ?_)))))
  refine aa (z:=ah m) ?_ rfl
  rw[d3,GT n (d1 m h2) (by simp) (by rw[d2];exact big m (by omega)),d2];rfl
 ·refine ba h ?_
  obtain⟨m,hm⟩:=Int.eq_ofNat_of_zero_le (show 0<=-(x+1) by omega)
  have h3:(m:Int)<=9223372036854775807:=by omega
  refine aa (aH (by simp only[inR];omega)) (aa (po (by simp only[inR];omega)) ?_)
  rw[hm]
  refine aa (iQ (b:=65536) (by decide)) (aa (gu (b:=65536) (by decide) h3) (aa (iQ (b:=65536) (by decide)) (aa (gu (b:=4294967296) (by decide) h3) (aa (iQ (b:=65536) (by decide)) (aa (gu (b:=281474976710656) (by decide) h3) ?_)))))
  rw[d3]
  refine aa (Ns n (b:=[1]) (d1 m h3) (fun d hd=>by simp at hd;omega) (by simp) (by simp)) (aa (z:=ah x) ?_ rfl)
  rw[d2]
  have e1:aQ [1]=1:=rfl
  rw[e1,GT n (aV _) ?_ ?_,am]
  ·congr 2;simp only[sgn,if_true];omega
  ·have:=bx 32 _ (big (m+1) (by omega));omega
  ·rw[am];exact big (m+1) (by omega)
end Go.Proofs.YtjjjkojfijpeeaaGreat.Sy
end
section
set_option linter.unusedVariables false
namespace Go.Proofs.YtjjjkojfijpeeaaGreat.Sy
open Go Go.Proofs Go.Proofs.YtjjjkojfijpeeaaGreat.Geo
def In(x:Int):Prop:=x.natAbs<65536^32
theorem In.of{x:Int}(h:inR x):In x:=by
 have:(65536:Nat)^4<=65536^32:=Nat.pow_le_pow_right (by decide) (by decide)
 have e:(65536:Nat)^4=18446744073709551616:=by decide
 obtain⟨h1,h2⟩:=h
 unfold In;omega
theorem gL(m i:Nat):dZ (aC m) i=m/4294967296^i%4294967296:=by
 have e1:65536^(2*i)=4294967296^i:=by rw[Nat.pow_mul]
 have e2:65536^(2*i+1)=4294967296^i*65536:=by rw[Nat.pow_succ,e1]
 unfold dZ
 rw[oz,oz,e1,e2,<-Nat.div_div_eq_div_mul]
 generalize m/4294967296^i=q
 omega
theorem IL(m:Nat):dZ (aC m) 0=m%4294967296:=by rw[gL,Nat.pow_zero,Nat.div_one]
theorem GM(m:Nat):dZ (aC m) 1=m/4294967296%4294967296:=by rw[gL,Nat.pow_one]
theorem I9{m i:Nat}(h:m<18446744073709551616)(hi:2<=i):dZ (aC m) i=0:=by
 rw[gL]
 have:(4294967296:Nat)^2<=4294967296^i:=Nat.pow_le_pow_right (by decide) hi
 rw[Nat.div_eq_of_lt (by omega)]
theorem GC{a b:Nat}:D.beq (U a) (U b)=decide (a=b):=by
 simp only[D.beq,decide_true,Bool.true_and]
 by_cases h:a=b
 ·simp[h]
 ·simp[h];omega
theorem qr{m:Nat}(hm:m<65536^32)(h:∀ i,i<16->dZ (aC m) i=0):m=0:=by
 have hz:∀ i,i<32->(aC m).getD i 0=0:=fun i hi=>by
  have:=h (i/2) (by omega)
  unfold dZ at this
  rcases Nat.mod_two_eq_zero_or_one i with e|e
  ·rw[show 2*(i/2)=i by omega] at this;omega
  ·rw[show 2*(i/2)+1=i by omega] at this;omega
 have hv:∀ k,k<=32->vt (aC m) k=0:=fun k=>by
  induction k with
  | zero=>intro _;rfl
  | succ k ih=>intro hk;rw[vt,ih (by omega),hz k (by omega)];simp
 have:=hv 32 (by omega)
 rw[gF (bx 32 _ hm),am] at this
 exact this
def zB(m i:Nat):Bool:=(List.range i).all fun k=>decide (dZ (aC m) k=0)
theorem Gl(m i:Nat):zB m (i+1)=(zB m i&&decide (dZ (aC m) i=0)):=by
 unfold zB;rw[List.range_succ,List.all_append];simp
theorem LS(n:Nat){x:Int}(hx:In x):cA (n+1) 139 [ah x]=some (.bool true):=by
 rw[Lm]
 unfold Eu
 have fin:∀ z:Bool,(z=true->x=0)->(Option.bind (D.get (ah x) [0]) fun x10=>Option.bind (D.truth x10) fun b11=>
   if b11 then(Option.bind (D.truth (.bool z)) fun b12=>Option.bind (if b12 then(Option.bind (D.get (ah x) [1]) fun x13=>Option.bind (D.un .not x13) fun x14=>D.truth x14) else(some false)) fun b15=>
   some (D.bool b15)) else(Option.bind (D.un .not (.bool z)) fun x16=>Option.bind (D.truth x16) fun b17=>
   Option.bind (if b17 then(some true) else(Option.bind (D.get (ah x) [1]) fun x18=>Option.bind (D.un .not x18) fun x19=>D.truth x19)) fun b20=>some (D.bool b20)))=some (.bool true):=by
  intro z hz
  refine aa (z:=.bool false) rfl (aa (z:=false) rfl ?_)
  rw[if_neg (by decide)]
  refine aa (z:=.bool (!z)) rfl (aa (z:=!z) rfl ?_)
  cases z with
  | false=>rfl
  | true=>
   have:=hz rfl
   subst this
   rfl
 refine br (fun i s=>s=[.bool (zB x.natAbs i),I (i:Int)]) 16 0 (Nat.zero_le _) rfl (fun i hi s hJ=>?_) (fun s hJ=>?_)
 ·subst hJ
  left
  refine⟨_,?_,rfl⟩
  refine aa aj (aa ag (aX (by show(i:Int)<16;omega) (aa ag (aa (z:=zB x.natAbs (i+1)) ?_ (aa (aH (aS (i:=i) (by omega))) rfl)))))
  rw[Gl]
  cases zB x.natAbs i with
  | false=>rfl
  | true=>
   rw[if_pos rfl]
   refine aa (aK hi) (aa (du hi) ?_)
   show D.truth (D.bool (D.beq (U (dZ (aC x.natAbs) i)) (U 0)))=_
   rw[GC,ag];rfl
 ·subst hJ
  refine⟨(0,[.bool (zB x.natAbs 16)]),?_,?_⟩
  ·exact aa aj (aa ag (ba (by decide) rfl))
  ·refine fin _ fun h=>?_
   have:=qr hx (fun i hi=>of_decide_eq_true (List.all_eq_true.1 h i (List.mem_range.2 hi)))
   omega
theorem vJ(n:Nat){x:Int}(hx:In x):cA (n+2) 76 [ah x]=some (.bool true):=by
 rw[OF]
 unfold Jm
 exact aa (LS n hx) (aa ag rfl)
theorem rL(n:Nat){x:Int}(hx:x.natAbs<4611686018427387904):cA (n+3) 124 [ah x]=some (.tup [I x,.bool true]):=by
 have hin:In x:=In.of (by simp only[inR];omega)
 rw[Ir]
 unfold Cc
 have l1:=GM x.natAbs
 refine aa (vJ n hin) (aa dc (aa ag (aa (z:=false) ?_ (aa ag ?_))))
 ·rw[if_neg (by decide)]
  refine aa (du (i:=1) (by decide)) ?_
  rw[l1]
  have:D.bin .geq (U (x.natAbs/4294967296%4294967296)) (.int .u32 1073741824)=some (.bool false):=by
   simp only[D.bin,if_true]
   rw[decide_eq_false (by omega)]
  exact aa this rfl
 ·rw[if_neg (by decide)]
  refine br (fun i s=>s=[I (i:Int)]/\2<=i) 16 2 (by decide) ⟨rfl,by decide⟩ (fun i hi s hJ=>?_) (fun s hJ=>?_)
  ·obtain⟨rfl,h2⟩:=hJ
   left
   refine⟨_,?_,rfl,by omega⟩
   refine aa aj (aa ag (aX (by show(i:Int)<16;omega) ?_))
   refine aa (aK hi) (aa (du hi) ?_)
   rw[I9 (by omega) h2]
   refine aa (z:=false) rfl ?_
   rw[if_neg (by decide)]
   exact aa (aH (aS (i:=i) (by omega))) rfl
  ·obtain⟨rfl,_⟩:=hJ
   refine⟨(1,[]),aa aj (aa ag (ba (by decide) rfl)),?_⟩
   rw[if_neg (by decide)]
   have e0:=IL x.natAbs
   refine aa (du (i:=1) (by decide)) (aa (pM (vN (aV _) 1)) ?_)
   rw[l1]
   refine aa (bB (by simp only[inR];omega)) (aa (du (i:=0) (by decide)) (aa (pM (vN (aV _) 0)) ?_))
   rw[e0]
   refine aa (aH (by simp only[inR];omega)) (aa (z:=.bool (decide (x<0))) rfl (aa ag ?_))
   by_cases hx0:x<0
   ·refine aX hx0 ?_
    refine aa (po (by simp only[inR];omega)) ?_
    congr 4;omega
   ·refine ba hx0 ?_
    congr 4;omega
theorem JP(n:Nat){x:Int}(hx:In x):cA (n+3) 142 [ah x]=some (ah x.natAbs):=by
 rw[MD]
 unfold Fz
 have hl:=bx 32 _ hx
 refine aa (vJ n hx) (aa dc (aa ag ?_))
 refine aa (Am n hx) (aa (z:=ah x.natAbs) ?_ rfl)
 rw[GT n (aV _) (by omega) (by rw[am];exact hx),am];rfl
theorem Nm(n:Nat){a b:List Nat}(ha:dl a)(hb:dl b)(hla:a.length<=900000)(hlb:b.length<=900000):cA (n+2) 78 [.sl (ab a),.sl (ab b)]=some (.bool (decide (aQ a<aQ b))):=by
 rw[NE]
 unfold Jf
 obtain⟨M,hM⟩:∃ M,M=max a.length b.length:=⟨_,rfl⟩
 have hmax:D.max2 (D.int .i64 (ab a).length) (D.int .i64 (ab b).length)=some (I (M:Int)):=by
  rw[Dx,ae,ae,hM];congr 2;omega
 have hva:vt a M=aQ a:=gF (by omega)
 have hvb:vt b M=aQ b:=gF (by omega)
 refine aa (z:=ab a) rfl (aa (z:=ab b) rfl (aa hmax (aa (fi (by simp only[inR];omega)) ?_)))
 refine br (fun i s=>s=[I ((M:Int)-1-i)]/\(aQ a<aQ b↔vt a (M-i)<vt b (M-i))) M 0 (Nat.zero_le _) ⟨by simp,by simp[hva,hvb]⟩ (fun i hi s hJ=>?_) (fun s hJ=>?_)
 ·obtain⟨rfl,hz⟩:=hJ
  obtain⟨k,hk⟩:∃ k,M-i=k+1:=⟨M-i-1,by omega⟩
  rw[hk,vt,vt] at hz
  have e1:(M:Int)-1-i=(k:Int):=by omega
  rw[e1]
  have la:=qL ha k
  have lb:=qL hb k
  have q1:=BY n a k
  have q2:=BY n b k
  by_cases hab:a.getD k 0=b.getD k 0
  ·left
   refine⟨[I ((M:Int)-1-(i+1:Nat))],?_,rfl,?_⟩
   ·refine aa je (aa ag (aX (by show(k:Int) ≥ 0;omega) (aa q1 (aa q2 (aa (z:=false) ?_ ?_)))))
    ·rw[hab,eK,decide_eq_true rfl];rfl
    ·rw[if_neg (by decide)]
     refine aa (fi (by simp only[inR];omega)) ?_
     congr 4;omega
   ·rw[hz,hab,show M-(i+1)=k by omega];omega
  ·right
   refine⟨(0,[.bool (decide (a.getD k 0<b.getD k 0))]),?_,?_⟩
   ·refine aa je (aa ag (aX (by show(k:Int) ≥ 0;omega) (aa q1 (aa q2 (aa (z:=true) ?_ ?_)))))
    ·rw[eK,decide_eq_false hab];rfl
    ·rw[if_pos rfl]
     refine aa q1 (aa q2 (aa aj ?_))
     simp
   ·rw[if_pos rfl]
    show some (D.bool (decide (a.getD k 0<b.getD k 0)))=_
    congr 3
    rw[eq_iff_iff,hz]
    generalize a.getD k 0=u at *
    generalize b.getD k 0=v at *
    generalize 65536^k=B at *
    constructor
    ·intro h
     have:(u+1)*B<=v*B:=Nat.mul_le_mul_right _ h
     rw[Nat.add_mul] at this
     omega
    ·intro h
     rcases Nat.lt_or_ge u v with h1|h1
     ·exact h1
     ·have:(v+1)*B<=u*B:=Nat.mul_le_mul_right _ (by omega)
      rw[Nat.add_mul] at this
      omega
 ·obtain⟨rfl,hz⟩:=hJ
  refine⟨(1,[]),?_,?_⟩
  ·exact aa je (aa ag (ba (by show ¬ ((M:Int)-1-(M:Nat)) ≥ 0;omega) rfl))
  ·rw[if_neg (by decide)]
   have:¬ aQ a<aQ b:=by rw[hz];simp[vt]
   rw[decide_eq_false this]
end Go.Proofs.YtjjjkojfijpeeaaGreat.Sy
end
section
set_option linter.unusedVariables false
namespace Go.Proofs.YtjjjkojfijpeeaaGreat.Sy
open Go Go.Proofs Go.Proofs.YtjjjkojfijpeeaaGreat.Geo
def Wd(x:Int):Prop:=x.natAbs<4611686018427387904
theorem Wd.inR{x:Int}(h:Wd x):inR x:=by unfold Wd at h;simp only[Sy.inR];omega
theorem Wd.In{x:Int}(h:Wd x):In x:=In.of h.inR
theorem KL(n:Nat){a b:Int}(ha:Wd a)(hb:b≠0)(hd:b ∣ a):cA (n+1) 144 [I a,I b]=some (I (a/b)):=by
 rw[Mm]
 unfold EK
 obtain⟨q,rfl⟩:=hd
 have e1:(b*q).tdiv b=q:=Int.mul_tdiv_cancel_left _ hb
 have e2:b*q/b=q:=Int.mul_ediv_cancel_left _ hb
 have e3:(b*q).tmod b=0:=Int.mul_tmod_right ..
 have hq:Sy.inR q:=by
  have:q.natAbs<=(b*q).natAbs:=by rw[Int.natAbs_mul];exact Nat.le_mul_of_pos_left _ (by omega)
  unfold Wd at ha;simp only[Sy.inR];omega
 rw[e2]
 refine aa (sV hb (by rw[e1];exact hq)) (aa (z:=(0,[I q])) (aa (lK hb) ?_) rfl)
 rw[e1,e3]
 exact aa (z:=false) rfl (aa (z:=false) rfl (aa ag rfl))
theorem Ok(n:Nat){a b:Int}(ha:Wd a)(hb:Wd b):cA (n+4) 85 [ah a,ah b]=some (ah (Nat.gcd a.natAbs b.natAbs:Nat)):=by
 rw[Nw]
 unfold H8
 refine aa (rL n ha) (aa (z:=I a) rfl (aa (z:=.bool true) rfl (aa (rL n hb) (aa (z:=I b) rfl (aa (z:=.bool true) rfl (aa (z:=true) rfl (aa (z:=true) rfl (aa (z:=true) rfl ?_))))))))
 rw[if_pos rfl]
 obtain⟨r,h1,h2⟩:=wM (body:=fun(v1:List D)=>
  Option.bind (D.truth (D.bool (!(D.beq (gx v1 1) (D.int .i64 0))))) fun b2=>
  if b2 then(Option.bind (D.bin .rem (gx v1 0) (gx v1 1)) fun x3=>
  some (Sum.inl [(gx v1 1),x3])) else(some (Sum.inr (0,[(gx v1 0)]))))
  (fun a b hb=>by simp only[g0,g1,dN,ag,Option.bind_some,hb,decide_false,Bool.not_false,if_true,lK hb])
  (fun a=>by simp only[g0,g1,dN,ag,Option.bind_some,decide_true,Bool.not_true,Bool.false_eq_true,if_false]) _ a b rfl
 refine xT h1 ?_
 have hg:Nat.gcd a.natAbs b.natAbs<=4611686018427387903:=by unfold Wd at ha hb;exact xV (by omega) (by omega)
 have hr:Sy.inR r:=by simp only[Sy.inR];omega
 refine aa (GS n hr) (aa (JP n (In.of hr)) ?_)
 rw[h2]
theorem KI(n:Nat){x:Int}(hx:In x):cA (n+3) 83 [ah x]=some (I (sg x)):=by
 rw[NN]
 unfold Jt
 refine aa (vJ n hx) (aa dc (aa (z:=false) rfl (aa (z:=decide (x=0)) ?_ (aa ag ?_))))
 ·rw[if_neg (by decide)]
  refine aa (Am n hx) (aa (z:=ab (aC x.natAbs)) rfl ?_)
  rw[ag,ae]
  show some (D.beq (I ((aC x.natAbs).length:Nat)) (I (0:Nat)))=_
  rw[eK]
  congr 1
  rw[decide_eq_decide,List.length_eq_zero_iff,rU]
  omega
 ·by_cases h0:x=0
  ·refine aX h0 ?_
   subst h0;rfl
  ·refine ba h0 (aa (z:=.bool (decide (x<0))) rfl (aa ag ?_))
   by_cases h1:x<0
   ·refine aX h1 ?_
    rw[uS h1]
   ·refine ba h1 ?_
    rw[lU (by omega)]
theorem N0(n:Nat){a b:Int}(ha:Wd a)(hb:Wd b)(hb0:b≠0)(hd:b ∣ a):cA (n+4) 87 [ah a,ah b]=some (ah (a/b)):=by
 rw[Nx]
 unfold H7
 refine aa (rL n ha) (aa (z:=I a) rfl (aa (z:=.bool true) rfl (aa (rL n hb) (aa (z:=I b) rfl (aa (z:=.bool true) rfl (aa (z:=true) rfl (aa (z:=true) rfl (aa (z:=true) rfl (aa (z:=true) ?_ (aa (z:=true) rfl ?_))))))))))
 ·rw[if_pos rfl,dN,decide_eq_false hb0];rfl
 ·rw[if_pos rfl]
  have hq:Sy.inR (a/b):=by
   obtain⟨q,rfl⟩:=hd
   rw[Int.mul_ediv_cancel_left _ hb0]
   have:q.natAbs<=(b*q).natAbs:=by rw[Int.natAbs_mul];exact Nat.le_mul_of_pos_left _ (by omega)
   unfold Wd at ha;simp only[Sy.inR];omega
  exact aa (KL (n+2) ha hb0 hd) (aa (GS n hq) rfl)
theorem fL{n:Int}(h:0<=n/\n<18446744073709551616):IntKind.wrap .u64 n=n:=by
 obtain⟨h1,h2⟩:=h
 simp only[IntKind.wrap,IntKind.signed,IntKind.bits]
 first
  | omega
  | (simp;omega)
def tI(v:V):D:=.st [ah v.x,ah v.y,ah v.z]
end Go.Proofs.YtjjjkojfijpeeaaGreat.Sy
end
section
set_option linter.unusedVariables false
namespace Go.Proofs.YtjjjkojfijpeeaaGreat.Sy
open Go Go.Proofs Go.Proofs.YtjjjkojfijpeeaaGreat.Geo
theorem nI:∀ {l:List Nat} {j v:Nat},j<l.length->aQ (l.set j v)+65536^j*l.getD j 0=aQ l+65536^j*v
 | d::l,0,v,_=>by simp only[List.set_cons_zero,aQ,Nat.pow_zero,Nat.one_mul,List.getD_cons_zero];omega
 | d::l,j+1,v,h=>by
  have ih:=nI (l:=l) (j:=j) (v:=v) (by simpa using h)
  simp only[List.set_cons_succ,aQ,Nat.pow_succ,List.getD_cons_succ]
  rw[Nat.mul_comm (65536^j) 65536,Nat.mul_assoc,Nat.mul_assoc]
  generalize 65536^j*l.getD j 0=x at *
  generalize 65536^j*v=y at *
  omega
theorem oL(l:List Nat)(j v:Nat):(ab l).set j (I (v:Int))=ab (l.set j v):=by simp[ab,List.map_set]
theorem ke(l:List Nat)(j v i:Nat)(h:j<l.length):(l.set j v).getD i 0=if i=j then v else l.getD i 0:=by
 by_cases e:i=j
 ·subst e;simp[List.getD,h]
 ·simp[List.getD,e,List.getElem?_set,show ¬ j=i from fun k=>e k.symm]
theorem ud(m:Nat):List.replicate m (D.int .i64 0)=ab (List.replicate m 0):=by simp[ab]
theorem mr{a b:Nat}(h:a*b<=9223372036854775807):D.bin .mul (I (a:Int)) (I (b:Int))=some (I ((a*b:Nat):Int)):=by
 rw[bB (by simp only[inR];rw[<-Int.natCast_mul];omega),Int.natCast_mul]
theorem aZ{a b:Nat}(h:a+b<=9223372036854775807):D.bin .add (I (a:Int)) (I (b:Int))=some (I ((a+b:Nat):Int)):=by
 rw[aH (by simp only[inR];omega),Int.natCast_add]
theorem Ah(a:Nat):D.natOf (I (a:Int))=some a:=by simp[D.natOf]
theorem vF{l:List Nat}{i:Nat}(h:i<l.length):D.idx (I (i:Int)) (ab l).length=some i:=by rw[ae];exact aK h
theorem GA{l:List Nat}(h:∀ i,i<l.length->l.getD i 0<65536):dl l:=fun d hd=>by
 obtain⟨i,hi,rfl⟩:=List.getElem_of_mem hd
 have:=h i hi
 simpa [List.getD,hi] using this
theorem GZ(n:Nat){a b:List Nat}(ha:dl a)(hb:dl b)(hla:a.length<=400000)(hlb:b.length<=400000):cA (n+2) 146 [.sl (ab a),.sl (ab b)]=some (.sl (ab (aC (aQ a*aQ b)))):=by
 rw[J7]
 unfold Gb
 obtain⟨M,hM⟩:∃ M,M=a.length+b.length+1:=⟨_,rfl⟩
 refine aa (z:=ab a) rfl (aa (z:=ab b) rfl (aa (z:=I ((a.length+b.length:Nat):Int)) (by rw[ae,ae];exact aZ (by omega)) (aa (z:=I (M:Int)) (by rw[hM];exact aZ (b:=1) (by omega)) (aa (Ah M) ?_))))
 rw[if_pos (by omega),ud]
 refine br (fun i s=>∃ out:List Nat,s=[I (i:Int),.sl (ab out)]/\out.length=M/\dl out/\aQ out=vt a i*aQ b) a.length 0 (Nat.zero_le _) ⟨List.replicate M 0,rfl,by simp,fun x hx=>by rw[List.eq_of_mem_replicate hx];decide,by have:=lT [] M;rw[List.nil_append] at this;rw[this];simp[vt,aQ]⟩ (fun i hi s hJ=>?_) (fun s hJ=>?_)
 ·obtain⟨out,rfl,ho,hdo,hv⟩:=hJ
  left
  have hai:=ha.getD i
  obtain⟨r,h1,out1,rfl,o1,o2,o3⟩:=AB (body:=fun(v10:List D)=>
   Option.bind (D.asSl (.sl (ab b))) fun l11=>
   Option.bind (D.bin .lss (gx v10 0) (D.int .i64 (List.length l11))) fun x12=>
   Option.bind (D.truth x12) fun b13=>
   if b13 then(Option.bind (D.bin .add (I (i:Int)) (gx v10 0)) fun x14=>
   Option.bind (D.bin .add (I (i:Int)) (gx v10 0)) fun x15=>
   Option.bind (D.idx x15 (List.length (D.els (gx v10 1)))) fun i16=>
   Option.bind ((D.els (gx v10 1))[i16]?) fun x17=>
   Option.bind (D.asSl (.sl (ab a))) fun l18=>
   Option.bind (D.idx (I (i:Int)) (List.length l18)) fun i19=>
   Option.bind (l18[i19]?) fun x20=>
   Option.bind (D.asSl (.sl (ab b))) fun l21=>
   Option.bind (D.idx (gx v10 0) (List.length l21)) fun i22=>
   Option.bind (l21[i22]?) fun x23=>
   Option.bind (D.bin .mul x20 x23) fun x24=>
   Option.bind (D.bin .add x17 x24) fun x25=>
   Option.bind (D.idx x14 (List.length (D.els (gx v10 1)))) fun i26=>
   Option.bind ((D.els (gx v10 1))[i26]?) fun x27=>
   Option.bind (D.bin .add (gx v10 0) (D.int .i64 1)) fun x28=>
   some (Sum.inl [x28,(D.sl (List.set (D.els (gx v10 1)) i26 x25))])) else(some (Sum.inr (0,[(D.sl (D.els (gx v10 1)))]))))
   (s0:=[I 0,.sl (ab out)])
   (fun k s=>∃ o:List Nat,s=[I (k:Int),.sl (ab o)]/\o.length=M/\(∀ j,j<M->o.getD j 0<=4295032831/\(i+k<=j->o.getD j 0<65536))/\aQ o=aQ out+65536^i*(a.getD i 0*vt b k))
   (fun r=>∃ o:List Nat,r=(0,[.sl (ab o)])/\o.length=M/\(∀ j,j<M->o.getD j 0<=4295032831)/\aQ o=aQ out+65536^i*(a.getD i 0*aQ b)) b.length 0 (Nat.zero_le _)
   ⟨out,rfl,ho,fun j _=>by have:=hdo.getD j;omega,by simp[vt]⟩ (fun k hk s hJ=>by
    obtain⟨o,rfl,o1,o2,o3⟩:=hJ
    left
    have hbk:=hb.getD k
    have hik:i+k<o.length:=by omega
    have hp:a.getD i 0*b.getD k 0<=65535*65535:=Nat.mul_le_mul (by omega) (by omega)
    have hx:=(o2 (i+k) (by omega)).2 (Nat.le_refl _)
    refine⟨[I ((k+1:Nat):Int),.sl (ab (o.set (i+k) (o.getD (i+k) 0+a.getD i 0*b.getD k 0)))],?_,_,rfl,by simpa using o1,fun j hj=>?_,?_⟩
    ·refine aa (z:=ab b) rfl (aa aj (aa ag (aX (by show(k:Int)<((ab b).length:Int);rw[ae];omega) ?_)))
     refine aa (aZ (a:=i) (b:=k) (by omega)) (aa (aZ (a:=i) (b:=k) (by omega)) (aa (vF hik) (aa (cR hik) ?_)))
     refine aa (z:=ab a) rfl (aa (vF hi) (aa (cR hi) (aa (z:=ab b) rfl (aa (vF hk) (aa (cR hk) ?_)))))
     refine aa (mr (by omega)) (aa (aZ (by omega)) (aa (vF hik) (aa (cR hik) (aa (aH (aS (i:=k) (by omega))) ?_))))
     show some (Sum.inl [_,D.sl (List.set (ab o) (i+k) _)])=_
     rw[oL];rfl
    ·rw[ke _ _ _ _ hik]
     have:=o2 j hj
     split
     ·omega
     ·omega
    ·have e:=nI (l:=o) (j:=i+k) (v:=o.getD (i+k) 0+a.getD i 0*b.getD k 0) hik
     rw[vt,Nat.mul_add,Nat.mul_add]
     have e2:65536^i*(a.getD i 0*(b.getD k 0*65536^k))=65536^(i+k)*(a.getD i 0*b.getD k 0):=by
      rw[Nat.pow_add,<-Nat.mul_assoc (a.getD i 0),Nat.mul_comm (a.getD i 0*b.getD k 0),Nat.mul_assoc]
     rw[Nat.mul_add] at e
     omega) (fun s hJ=>by
    obtain⟨o,rfl,o1,o2,o3⟩:=hJ
    rw[j7] at o3
    exact⟨_,aa (z:=ab b) rfl (aa aj (aa ag (ba (by show ¬ ((b.length:Int)<((ab b).length:Int));rw[ae];omega) rfl))),o,rfl,o1,fun j hj=>(o2 j hj).1,o3⟩)
  obtain⟨r2,h2,out2,rfl,p1,p2,p3⟩:=AB (body:=fun(v30:List D)=>
   Option.bind (D.bin .lss (gx v30 1) (D.int .i64 (List.length (D.els (gx v30 2))))) fun x31=>
   Option.bind (D.truth x31) fun b32=>
   if b32 then(Option.bind (D.idx (gx v30 1) (List.length (D.els (gx v30 2)))) fun i33=>
   Option.bind ((D.els (gx v30 2))[i33]?) fun x34=>
   Option.bind (D.bin .add x34 (gx v30 0)) fun x35=>
   Option.bind (D.bin .rem x35 (D.int .i64 65536)) fun x36=>
   Option.bind (D.idx (gx v30 1) (List.length (D.els (gx v30 2)))) fun i37=>
   Option.bind ((D.els (gx v30 2))[i37]?) fun x38=>
   Option.bind (D.bin .quo x35 (D.int .i64 65536)) fun x39=>
   Option.bind (D.bin .add (gx v30 1) (D.int .i64 1)) fun x40=>
   some (Sum.inl [x39,x40,(D.sl (List.set (D.els (gx v30 2)) i37 x36))])) else(some (Sum.inr (0,[(D.sl (D.els (gx v30 2)))]))))
   (s0:=[I 0,I 0,.sl (ab out1)])
   (fun k s=>∃ (o:List Nat) (c:Nat),s=[I (c:Int),I (k:Int),.sl (ab o)]/\o.length=M/\(∀ j,j<k->o.getD j 0<65536)/\(∀ j,k<=j->o.getD j 0=out1.getD j 0)/\c<=131072/\aQ o+65536^k*c=aQ out1)
   (fun r=>∃ o:List Nat,r=(0,[.sl (ab o)])/\o.length=M/\dl o/\∃ c,aQ o+65536^M*c=aQ out1) M 0 (Nat.zero_le _)
   ⟨out1,0,rfl,o1,fun j hj=>absurd hj (Nat.not_lt_zero _),fun j _=>rfl,by omega,by simp⟩ (fun k hk s hJ=>by
    obtain⟨o,c,rfl,q1,q2,q3,q4,q5⟩:=hJ
    left
    have hko:k<o.length:=by omega
    have hx:=o2 k hk
    have hq:=q3 k (Nat.le_refl _)
    refine⟨[I (((o.getD k 0+c)/65536:Nat):Int),I ((k+1:Nat):Int),.sl (ab (o.set k ((o.getD k 0+c)%65536)))],?_,_,_,rfl,by simpa using q1,fun j hj=>?_,fun j hj=>?_,by omega,?_⟩
    ·refine aa aj (aa ag (aX (by show(k:Int)<((ab o).length:Int);rw[ae];omega) ?_))
     refine aa (vF hko) (aa (cR hko) (aa (aZ (by omega)) (aa (iQ (b:=65536) (by decide)) (aa (vF hko) (aa (cR hko) (aa (gu (b:=65536) (by decide) (by omega)) (aa (aH (aS (i:=k) (by omega))) ?_)))))))
     show some (Sum.inl [_,_,D.sl (List.set (ab o) k _)])=_
     rw[oL];rfl
    ·rw[ke _ _ _ _ hko]
     split
     ·omega
     ·exact q2 j (by omega)
    ·rw[ke _ _ _ _ hko,if_neg (by omega)];exact q3 j (by omega)
    ·have e:=nI (l:=o) (j:=k) (v:=(o.getD k 0+c)%65536) hko
     have e2:o.getD k 0+c=(o.getD k 0+c)%65536+65536*((o.getD k 0+c)/65536):=by omega
     have e3:65536^k*(o.getD k 0+c)=65536^k*((o.getD k 0+c)%65536)+65536^k*(65536*((o.getD k 0+c)/65536)):=by rw[<-Nat.mul_add,<-e2]
     rw[Nat.mul_add] at e3
     rw[Nat.pow_succ,Nat.mul_assoc]
     omega) (fun s hJ=>by
    obtain⟨o,c,rfl,q1,q2,q3,q4,q5⟩:=hJ
    exact⟨_,aa aj (aa ag (ba (by show ¬ ((M:Int)<((ab o).length:Int));rw[ae];omega) rfl)),o,rfl,q1,GA fun j hj=>q2 j (by omega),c,q5⟩)
  obtain⟨c,p4⟩:=p3
  refine⟨[I ((i+1:Nat):Int),.sl (ab out2)],?_,out2,rfl,p1,p2,?_⟩
  ·refine aa (z:=ab a) rfl (aa aj (aa ag (aX (by show(i:Int)<((ab a).length:Int);rw[ae];omega) ?_)))
   refine aa h1 (aa h2 ?_)
   exact aa (aH (aS (i:=i) (by omega))) rfl
  ·have hval:aQ out1=vt a (i+1)*aQ b:=by
    rw[o3,hv,vt,Nat.add_mul,Nat.mul_comm (a.getD i 0) (65536^i),Nat.mul_assoc]
   have hlt:vt a (i+1)*aQ b<65536^M:=by
    have l1:=qL ha (i+1)
    have l2:=jz hb
    have l3:vt a (i+1)*aQ b<65536^(i+1)*65536^b.length:=Nat.mul_lt_mul'' l1 l2
    have l4:65536^(i+1)*65536^b.length<=65536^M:=by rw[<-Nat.pow_add];exact Nat.pow_le_pow_right (by decide) (by omega)
    omega
   have hc:c=0:=by
    rcases Nat.eq_zero_or_pos c with h|h
    ·exact h
    ·have:65536^M*1<=65536^M*c:=Nat.mul_le_mul_left _ h
     omega
   subst hc
   rw[<-hval,<-p4];simp
 ·obtain⟨out,rfl,ho,hdo,hv⟩:=hJ
  refine⟨(0,[.sl (ab out)]),aa (z:=ab a) rfl (aa aj (aa ag (ba (by show ¬ ((a.length:Int)<((ab a).length:Int));rw[ae];omega) rfl))),?_⟩
  refine aa (xa n (l:=out) (by omega)) ?_
  rw[gb hdo,hv,j7]
theorem Ja(n:Nat)(x:Int):cA (n+1) 145 [I x]=some (.bool (decide (x<2147483648)&&decide (x>-2147483648))):=by
 rw[Mo]
 unfold E9
 refine aa aj (aa ag ?_)
 cases h:decide (x<2147483648)
 ·rfl
 ·rw[if_pos rfl];exact aa (aa fK rfl) rfl
theorem u0(x y:Int):sgn (!(decide (decide (x<0)=decide (y<0)))) (x.natAbs*y.natAbs)=x*y:=by
 unfold sgn
 rw[<-Int.natAbs_mul]
 by_cases hx:x<0<;>by_cases hy:y<0
 ·have:=Int.mul_pos_of_neg_of_neg hx hy;simp[hx,hy];omega
 ·have:=Int.mul_nonpos_of_nonpos_of_nonneg (Int.le_of_lt hx) (Int.not_lt.1 hy);simp[hx,hy];omega
 ·have:=Int.mul_nonpos_of_nonneg_of_nonpos (Int.not_lt.1 hx) (Int.le_of_lt hy);simp[hx,hy];omega
 ·have:=Int.mul_nonneg (Int.not_lt.1 hx) (Int.not_lt.1 hy);simp[hx,hy];omega
theorem NK(n:Nat){x y:Int}(hx:Wd x)(hy:Wd y):cA (n+4) 89 [ah x,ah y]=some (ah (x*y)):=by
 rw[Nh]
 unfold H4
 refine aa (rL n hx) (aa (z:=I x) rfl (aa (z:=.bool true) rfl (aa (rL n hy) (aa (z:=I y) rfl (aa (z:=.bool true) rfl (aa (z:=true) rfl (aa (z:=true) rfl (aa (z:=true) rfl ?_))))))))
 refine aa (z:=(decide (x<2147483648)&&decide (x>-2147483648))) (by rw[if_pos rfl];exact aa (Ja (n+2) x) rfl) (aa ag ?_)
 refine aa (z:=((decide (x<2147483648)&&decide (x>-2147483648))&&(decide (y<2147483648)&&decide (y>-2147483648)))) (by
  cases (decide (x<2147483648)&&decide (x>-2147483648))
  ·rfl
  ·rw[if_pos rfl];exact aa (Ja (n+2) y) rfl) (aa ag ?_)
 cases hb:((decide (x<2147483648)&&decide (x>-2147483648))&&(decide (y<2147483648)&&decide (y>-2147483648)))
 ·rw[if_neg (by decide)]
  refine aa (vJ (n+1) hx.In) (aa dc (aa ag (aa (z:=false) ?_ (aa ag ?_))))
  ·rw[if_neg (by decide)];exact aa (vJ (n+1) hy.In) rfl
  ·rw[if_neg (by decide)]
   have lx:=bx 32 _ hx.In
   have ly:=bx 32 _ hy.In
   refine aa (z:=.bool (decide (x<0))) rfl (aa (z:=.bool (decide (y<0))) rfl (aa (Am (n+1) hx.In) (aa (Am (n+1) hy.In) (aa (GZ (n+1) (aV _) (aV _) (by omega) (by omega)) (aa (z:=ah (x*y)) ?_ rfl)))))
   rw[am,am]
   have hxy:x.natAbs*y.natAbs<65536^8:=by
    have e:(65536:Nat)^8=18446744073709551616*18446744073709551616:=by decide
    rw[e];unfold Wd at hx hy
    exact Nat.mul_lt_mul'' (by omega) (by omega)
   have l8:=bx 8 _ hxy
   have h32:x.natAbs*y.natAbs<65536^32:=Nat.lt_of_lt_of_le hxy (Nat.pow_le_pow_right (by decide) (by decide))
   have:=GT (n+1) (l:=aC (x.natAbs*y.natAbs)) (neg:=!(decide (decide (x<0)=decide (y<0)))) (aV _) (by omega) (by rw[am];exact h32)
   rw[am,u0] at this
   rw[<-this]
   congr 4
 ·rw[if_pos rfl]
  simp only[Bool.and_eq_true,decide_eq_true_eq] at hb
  have:=fZ (A:=2147483648) (B:=2147483648) (a:=x) (b:=y) (by omega) (by omega)
  have hr:inR (x*y):=by simp only[inR];omega
  exact aa (bB hr) (aa (GS n hr) rfl)
theorem Ow(n:Nat){x y:Int}(hx:Wd x)(hy:Wd y):cA (n+4) 59 [ah x,ah y]=some (ah (x+y)):=by
 rw[Ni]
 unfold IT
 refine aa (rL n hx) (aa (z:=I x) rfl (aa (z:=.bool true) rfl (aa (rL n hy) (aa (z:=I y) rfl (aa (z:=.bool true) rfl (aa (z:=true) rfl (aa (z:=true) rfl (aa (z:=true) rfl ?_))))))))
 rw[if_pos rfl]
 have hr:inR (x+y):=by unfold Wd at hx hy;simp only[inR];omega
 exact aa (aH hr) (aa (GS n hr) rfl)
end Go.Proofs.YtjjjkojfijpeeaaGreat.Sy
end
