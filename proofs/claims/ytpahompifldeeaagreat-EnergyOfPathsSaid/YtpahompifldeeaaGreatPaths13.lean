/- Part 13 of the proof that EnergyOfPaths answers true at every input -/
import Derived.Test.YtpahompifldeeaaGreatPaths12
set_option linter.unusedVariables false
set_option linter.unusedSimpArgs false
set_option linter.unnecessarySimpa false
set_option maxRecDepth 20000
namespace Go.Proofs.YtpahompifldeeaaGreat
noncomputable section
namespace Sy
open Go Go.Proofs Geo
def cm(n:Nat)(f:Nat->Int):D:=.st ((List.range n).map fun i=>.int .u32 (f i))
abbrev LM(X:Nat):D:=cm 16 (bc X)
theorem aZ{n i:Nat}(f:Nat->Int)(h:i<n):D.get (cm n f) [i]=some (.int .u32 (f i)):=by
 simp[cm,D.get,D.fld,h]
theorem cU{n:Nat}{f g:Nat->Int}(h:∀ i,i<n->f i=g i):cm n f=cm n g:=by
 unfold cm
 congr 1
 exact List.map_congr_left fun i hi=>by rw[h i (List.mem_range.1 hi)]
theorem kw{n i:Nat}{f g:Nat->Int}{v:Int}(h:i<n)(hg:∀ j,j<n->g j=if j=i then v else f j):D.set (cm n f) [i] (.int .u32 v)=some (cm n g):=by
 have e:((List.range n).map fun i=>D.int .u32 (f i))[i]?=some (.int .u32 (f i)):=by simp[h]
 simp only[cm,D.set,e,Option.bind_some]
 congr 2
 apply List.ext_getElem?
 intro j
 by_cases hj:j<n
 ·rw[List.getElem?_set]
  by_cases hij:i=j
  ·subst hij;simp[h,hg i h]
  ·simp[hij,hj,hg j hj,show ¬ j=i from fun e=>hij e.symm]
 ·rw[List.getElem?_eq_none (by simp;omega),List.getElem?_eq_none (by simp;omega)]
theorem pp(f g:Nat->Int):∀ l:List Nat,D.beqs (l.map fun i=>D.int .u32 (f i)) (l.map fun i=>D.int .u32 (g i))=l.all fun i=>decide (f i=g i)
 | []=>rfl
 | i::l=>by simp only[List.map_cons,D.beqs,D.beq,List.all_cons,pp f g l];simp
theorem FM(n:Nat)(f g:Nat->Int):D.beq (cm n f) (cm n g)=decide (∀ i,i<n->f i=g i):=by
 simp only[cm,D.beq,pp]
 rw[Bool.eq_iff_iff]
 simp
theorem kT{X Y:Nat}(hX:X<dO)(hY:Y<dO):D.beq (LM X) (LM Y)=decide (X=Y):=by
 rw[FM,decide_eq_decide]
 constructor
 ·exact zJ hX hY
 ·rintro rfl;exact fun _ _=>rfl
theorem gR:D.st (D.putParts (List.replicate 16 (D.int .u32 0)) [])=LM 0:=by
 have:LM 0=cm 16 (fun _=>0):=cU fun i _=>lQ i
 rw[this];rfl
theorem fJ:aF aW=LM 0:=by
 have:LM 0=cm 16 (fun _=>0):=cU fun i _=>lQ i
 rw[this];rfl
theorem Hb(i:Nat):2^(32*i)=4294967296^i:=by rw[Nat.pow_mul]
theorem zI(m:Nat):dc (ay m)=LM m:=by
 unfold dc LM cm
 congr 1
 refine List.map_congr_left fun i _=>?_
 rw[gf]
 unfold bc
 rw[Hb]
theorem cc(x:Int):ai x=.st [.bool false,.bool (decide (x<0)),LM x.natAbs]:=by unfold ai;rw[zI]
theorem xB(a b c:Nat)(h:a*b=c):((2:Nat)^a)^b=2^c:=by rw[<-Nat.pow_mul,h]
theorem s9:(65536:Nat)^32=dO:=(xB 16 32 (32*16) rfl).trans ((cT 16).symm.trans fE.symm)
def under(X k:Nat):Prop:=X<2^(32*k)
theorem xl{X k:Nat}(hk:k=16)(h:X<dO):under X k:=by subst hk;unfold under;rw[wh];exact h
theorem xU{X k:Nat}(hk:k<=16)(h:X<2^(32*k)):X<dO:=by
 rw[<-cT] at h
 rw[fE]
 exact Nat.lt_of_lt_of_le h (lv hk)
theorem a8{x:Int}:In x↔x.natAbs<dO:=by unfold In;rw[s9]
def Gy:D:=.st [.bool true,.bool false,LM 0]
def dP:Option Int->D
 | some x=>ai x
 | none=>Gy
def zi(a:Option Int):Prop:=∀ x,a=some x->In x
def ln(x:Int):Option Int:=if x.natAbs<dO then some x else none
theorem fX{x:Int}(h:In x):ln x=some x:=by unfold ln;rw[if_pos (a8.1 h)]
theorem zi.some{x:Int}(h:zi (some x)):In x:=h x rfl
theorem bZ{x:Int}(h:In x):zi (some x):=fun y e=>by cases e;exact h
abbrev W(n:Int):D:=.int .u64 n
theorem Cz{k:IntKind}{a:Int}(h0:0<=a)(h:a<18446744073709551616):D.conv .u64 (.int k a)=some (W a):=by simp only[D.conv,cV ⟨h0,h⟩]
theorem qR{a b:Int}(h0:0<=a+b)(h:a+b<18446744073709551616):D.bin .add (W a) (W b)=some (W (a+b)):=by simp only[D.bin,if_true,cV ⟨h0,h⟩]
theorem qT(a b:Int):D.bin .sub (W a) (W b)=some (W (IntKind.u64.wrap (a-b))):=by simp only[D.bin,if_true]
theorem Gi{a b:Int}(h0:0<=a*b)(h:a*b<18446744073709551616):D.bin .mul (W a) (W b)=some (W (a*b)):=by simp only[D.bin,if_true,cV ⟨h0,h⟩]
theorem fV(a:Int):D.conv .u32 (W a)=some (.int .u32 (a%4294967296)):=by
 simp only[D.conv];rfl
theorem qS{a:Int}(h:0<=a):D.bin .shr (W a) (.int .u64 32)=some (W (a/4294967296)):=by
 simp only[D.bin]
 rw[if_neg (by decide),Int.fdiv_eq_ediv_of_nonneg _ (by decide)];rfl
theorem uw{a:Int}:D.bin .shr (W a) (.int .u64 63)=some (W (a/9223372036854775808)):=by
 simp only[D.bin]
 rw[if_neg (by decide),Int.fdiv_eq_ediv_of_nonneg _ (by decide)];rfl
theorem dK{i n:Nat}(h:i<n):D.idx (I (i:Int)) n=some i:=ao h
theorem dG(X k:Nat):D.conv .u64 (.int .u32 (bc X k))=some (W (bc X k)):=Cz (bY X k) (by have:=pJ X k;omega)
theorem oT{Z k:Nat}(hk:k<16):D.set (LM (Z%2^(32*k))) [k] (.int .u32 (bc Z k))=some (LM (Z%2^(32*(k+1)))):=
 kw hk fun j hj=>by
  rw[gV,gV]
  by_cases e:j=k
  ·subst e;simp
  ·rw[if_neg e]
   by_cases h:j<k
   ·rw[if_pos h,if_pos (by omega)]
   ·rw[if_neg h,if_neg (by omega)]
theorem oU(Z:Nat):LM (Z%2^(32*0))=LM 0:=by simp[Nat.mod_one]
theorem Eo(Z k:Nat)(hk:k=16):LM (Z%2^(32*k))=LM Z:=cU fun j hj=>by rw[gV,if_pos (by omega)]
theorem lH(Z:Nat):LM (Z%2^(32*16))=LM Z:=Eo Z 16 rfl
theorem Is(n:Nat){a:Option Int}(ha:zi a):cA (n+1) 167 [dP a]=some (.bool true):=by
 rw[PM]
 unfold Dw
 cases a with
 | none=>
  refine aa (z:=LM 0) rfl (aa (z:=.bool true) rfl (aa (z:=true) rfl ?_))
  rw[if_pos rfl,gR,kT eS eS,decide_eq_true rfl]
  rfl
 | some x=>
  have hx:=a8.1 ha.some
  simp only[dP,cc]
  refine aa (z:=LM x.natAbs) rfl (aa (z:=.bool false) rfl (aa (z:=false) rfl ?_))
  rw[if_neg (by decide),gR,kT hx eS]
  refine aa bN (aa ae ?_)
  by_cases h:x.natAbs=0
  ·rw[decide_eq_true h]
   have:decide (x<0)=false:=decide_eq_false (by omega)
   rw[this];rfl
  ·rw[decide_eq_false h];rfl
theorem Il(n:Nat){l:List (Option Int)}(hl:l.length<=1000)(h:∀ a∈l,zi a):cA (n+2) 118 [.sl (l.map dP)]=some (.bool (l.all Option.isSome)):=by
 rw[Pg]
 unfold C3
 refine aa (z:=l.map dP) rfl ?_
 refine ba (fun i s=>s=[I (i:Int)]/\(l.take i).all Option.isSome=true) l.length 0 (Nat.zero_le _) ⟨rfl,rfl⟩ (fun i hi s hJ=>?_) (fun s hJ=>?_)
 ·obtain⟨rfl,ht⟩:=hJ
  have hg:(l.map dP)[i]?=some (dP l[i]):=by simp[hi]
  have hb:D.bin .lss (I (i:Int)) (D.int .i64 (l.map dP).length)=some (.bool true):=by
   rw[ah,decide_eq_true (by rw[List.length_map];omega)]
  have hix:D.idx (I (i:Int)) (l.map dP).length=some i:=ao (by rw[List.length_map];exact hi)
  have hin:=h l[i] (List.getElem_mem hi)
  cases ha:l[i] with
  | none=>
   right
   refine⟨(0,[.bool false]),?_,?_⟩
   ·refine aa hb (aa (z:=true) rfl ?_)
    rw[if_pos rfl]
    refine aa (z:=l.map dP) rfl (aa hix (aa hg ?_))
    rw[ha]
    exact aa (z:=.bool true) rfl (aa (z:=true) rfl (aa (z:=true) rfl (aa (z:=true) rfl rfl)))
   ·have:l.all Option.isSome=false:=by
     rw[Bool.eq_false_iff]
     intro hall
     have:=List.all_eq_true.1 hall l[i] (List.getElem_mem hi)
     rw[ha] at this;cases this
    rw[this];rfl
  | some x=>
   left
   refine⟨[I ((i+1:Nat):Int)],?_,rfl,?_⟩
   ·refine aa hb (aa (z:=true) rfl ?_)
    rw[if_pos rfl]
    refine aa (z:=l.map dP) rfl (aa hix (aa hg ?_))
    rw[ha] at hin ⊢
    refine aa (z:=.bool false) rfl (aa (z:=false) rfl (aa (z:=false) ?_ (aa (z:=false) rfl ?_)))
    ·rw[if_neg (by decide)];exact aa (Is n hin) rfl
    ·rw[if_neg (by decide)];exact aa (av (ar (i:=i) (by omega))) rfl
   ·rw[List.take_succ_eq_append_getElem hi,List.all_append,ht,ha];rfl
 ·obtain⟨rfl,ht⟩:=hJ
  rw[List.take_length] at ht
  refine⟨(1,[]),?_,?_⟩
  ·have hb:D.bin .lss (I (l.length:Int)) (D.int .i64 (l.map dP).length)=some (.bool false):=by
    rw[ah,decide_eq_false (by rw[List.length_map];omega)]
   exact aa hb (aa (z:=false) rfl rfl)
  ·rw[ht];rfl
theorem kX(n:Nat){a:Option Int}(ha:zi a):cA (n+2) 118 [.sl [dP a]]=some (.bool a.isSome):=by
 have:=Il n (l:=[a]) (by simp) (fun b hb=>by rw[List.mem_singleton.1 hb];exact ha)
 simpa using this
theorem tq(n:Nat){a b:Option Int}(ha:zi a)(hb:zi b):cA (n+2) 118 [.sl [dP a,dP b]]=some (.bool (a.isSome&&b.isSome)):=by
 have:=Il n (l:=[a,b]) (by simp) (fun c hc=>by
  simp only[List.mem_cons,List.not_mem_nil,or_false] at hc
  rcases hc with rfl|rfl
  ·exact ha
  ·exact hb)
 simpa using this
theorem A4(n:Nat):cA (n+1) 119 []=some Gy:=by
 rw[Ph];unfold C4;rw[fJ];rfl
theorem oF(neg:Bool)(m:Nat):decide (sgn neg m<0)=(neg&&!(decide (m=0))):=by
 unfold sgn
 cases neg<;>by_cases h:m=0<;>simp[h]<;>omega
theorem mD(neg:Bool)(m:Nat):(sgn neg m).natAbs=m:=by unfold sgn;cases neg<;>simp
theorem to(n:Nat)(neg:Bool){m:Nat}(h:m<dO):cA (n+1) 116 [.bool neg,LM m]=some (ai (sgn neg m)):=by
 rw[Pe]
 unfold C1
 rw[gR,kT h eS,cc,oF,mD]
 refine aa (z:=neg) rfl (aa (z:=neg&&!(decide (m=0))) ?_ rfl)
 cases neg<;>rfl
theorem NW(n:Nat){X Y:Nat}(hX:X<dO)(hY:Y<dO):cA (n+1) 120 [LM X,LM Y]=some (.tup [LM (X+Y),.bool (decide (X+Y<dO))]):=by
 rw[Pj]
 unfold C5
 rw[fJ]
 refine ba (fun k s=>s=[W (dY X Y k:Nat),I (k:Int),LM ((X+Y)%2^(32*k))]) 16 0 (Nat.zero_le _) (by rw[n7,oU];rfl) (fun k hk s hJ=>?_) (fun s hJ=>?_)
 ·subst hJ
  left
  refine⟨_,?_,rfl⟩
  have hc:=kf X Y k
  have x0:=bY X k;have x1:=pJ X k
  have y0:=bY Y k;have y1:=pJ Y k
  refine aa ah (aa ae (aH (by show(k:Int)<16;omega) ?_))
  refine aa (dK hk) (aa (aZ _ hk) (aa (dG X k) (aa (dK hk) (aa (aZ _ hk) (aa (dG Y k) ?_)))))
  refine aa (qR (by omega) (by omega)) (aa (qR (by omega) (by omega)) (aa (fV _) (aa (dK hk) ?_)))
  rw[<-yx]
  refine aa (oT hk) (aa (qS (by omega)) ?_)
  rw[<-nZ]
  exact aa (av (ar (i:=k) (by omega))) rfl
 ·subst hJ
  refine⟨_,aa ah (aa ae (aD (by decide) rfl)),?_⟩
  rw[lH,zq hX hY]
  by_cases h:X+Y<dO
  ·rw[if_pos h,decide_eq_true h];rfl
  ·rw[if_neg h,decide_eq_false h];rfl
theorem Iw(n:Nat)(a:Int):cA (n+1) 194 [.int .u32 a]=some (.bool false):=by
 rw[PZ];simp[DI,D.beq]
theorem N9(n:Nat)(a b:Int):cA (n+2) 168 [.int .u32 a,.int .u32 b]=some (I (a7 a b)):=by
 rw[PN]
 unfold Dx
 refine aa (Iw n a) (aa (Iw n b) (aa (z:=false) rfl ?_))
 rw[if_neg (by decide)]
 refine aa (z:=false) rfl ?_
 rw[if_neg (by decide)]
 refine aa (z:=.bool (decide (a<b))) (by simp only[D.bin,if_true]) (aa ae ?_)
 unfold a7
 by_cases h:a<b
 ·rw[if_pos h];exact aH h rfl
 ·rw[if_neg h]
  refine aD h (aa (z:=.bool (decide (a>b))) (by simp only[D.bin,if_true]) (aa ae ?_))
  by_cases h2:a>b
  ·rw[if_pos h2];exact aH h2 rfl
  ·rw[if_neg h2];exact aD h2 rfl
theorem EC(n:Nat){X Y:Nat}(hX:X<dO)(hY:Y<dO):cA (n+3) 121 [LM X,LM Y]=some (I (a7 X Y)):=by
 rw[Pk]
 unfold C6
 refine ba (fun t s=>s=[I (15-(t:Int))]/\ie X Y (16-t)) 16 0 (Nat.zero_le _) ⟨rfl,zC hX hY⟩ (fun t ht s hJ=>?_) (fun s hJ=>?_)
 ·obtain⟨rfl,he⟩:=hJ
  obtain⟨k,hk⟩:∃ k,k=15-t:=⟨_,rfl⟩
  have hk16:k<16:=by omega
  have e1:(15-(t:Int))=(k:Int):=by omega
  rw[show 16-t=k+1 by omega] at he
  rw[e1]
  have hix:D.idx (I (k:Int)) 16=some k:=dK hk16
  have hb:D.bin .geq (I (k:Int)) (D.int .i64 0)=some (.bool true):=by rw[fe,decide_eq_true (by omega)]
  by_cases hd:bc X k=bc Y k
  ·left
   refine⟨[I ((k:Int)-1)],?_,?_,?_⟩
   ·refine aa hb (aa (z:=true) rfl ?_)
    rw[if_pos rfl]
    refine aa hix (aa (aZ _ hk16) (aa hix (aa (aZ _ hk16) (aa (z:=false) ?_ ?_))))
    ·rw[hd];simp[D.beq,D.truth]
    ·rw[if_neg (by decide)];exact aa (cW (by simp only[inR];omega)) rfl
   ·congr 2;omega
   ·rw[show 16-(t+1)=k by omega];exact vD he hd
  ·right
   refine⟨(0,[I (a7 (bc X k) (bc Y k))]),?_,?_⟩
   ·refine aa hb (aa (z:=true) rfl ?_)
    rw[if_pos rfl]
    refine aa hix (aa (aZ _ hk16) (aa hix (aa (aZ _ hk16) (aa (z:=true) ?_ ?_))))
    ·simp[D.beq,D.truth,hd]
    ·rw[if_pos rfl]
     exact aa hix (aa (aZ _ hk16) (aa hix (aa (aZ _ hk16) (aa (N9 n _ _) rfl))))
   ·have hs:=wB he hd
    rw[if_pos rfl]
    show some (I (a7 (bc X k) (bc Y k)))=_
    congr 2
    unfold Go.Proofs.YtpahompifldeeaaGreat.sgn at hs
    unfold a7
    repeat' split at hs
    all_goals (repeat' split)<;>omega
 ·obtain⟨rfl,he⟩:=hJ
  refine⟨(1,[]),aa fe (aa ae (aD (by decide) rfl)),?_⟩
  rw[if_neg (by decide)]
  have hs:=Aq he
  congr 2
  unfold Go.Proofs.YtpahompifldeeaaGreat.sgn at hs
  unfold a7
  repeat' split at hs
  all_goals (repeat' split)<;>omega
theorem Im(n:Nat){X Y:Nat}(hX:X<dO)(h:Y<=X):cA (n+1) 122 [LM X,LM Y]=some (LM (X-Y)):=by
 rw[Pm]
 unfold C7
 rw[fJ]
 refine ba (fun k s=>s=[W (bC X Y k:Nat),I (k:Int),LM ((X-Y)%2^(32*k))]) 16 0 (Nat.zero_le _) (by rw[lN,oU];rfl) (fun k hk s hJ=>?_) (fun s hJ=>?_)
 ·subst hJ
  left
  refine⟨_,?_,rfl⟩
  have hc:=pu X Y k
  obtain⟨q1,q2⟩:=oL (bc X k) (bc Y k) (bC X Y k) (bY X k) (kZ X k) (bY Y k) (kZ Y k) hc
  refine aa ah (aa ae (aH (by show(k:Int)<16;omega) ?_))
  refine aa (dK hk) (aa (aZ _ hk) (aa (dG X k) (aa (dK hk) (aa (aZ _ hk) (aa (dG Y k) ?_)))))
  refine aa (qT _ _) (aa (qT _ _) (aa (fV _) (aa (dK hk) ?_)))
  rw[q2,<-yy h]
  refine aa (oT hk) (aa uw ?_)
  rw[q1,<-lM]
  exact aa (av (ar (i:=k) (by omega))) rfl
 ·subst hJ
  refine⟨_,aa ah (aa ae (aD (by decide) rfl)),?_⟩
  rw[lH];rfl
theorem wW(n:Nat){X:Nat}(hX:X<dO):cA (n+1) 127 [LM X]=some (I (ct X:Nat)):=by
 rw[Pr]
 unfold Db
 refine ba (fun t s=>s=[I ((16-t:Nat):Int)]/\ct X=ft X (16-t)/\under X (16-t)) 16 0 (Nat.zero_le _) ⟨rfl,rfl,xl rfl hX⟩ (fun t ht s hJ=>?_) (fun s hJ=>?_)
 ·obtain⟨rfl,he,hlt⟩:=hJ
  obtain⟨k,hk⟩:∃ k,k=15-t:=⟨_,rfl⟩
  rw[show 16-t=k+1 by omega] at he hlt ⊢
  have hk16:k<16:=by omega
  have hsub:D.bin .sub (I ((k+1:Nat):Int)) (D.int .i64 1)=some (I (k:Int)):=by
   rw[show(D.int .i64 1)=I 1 from rfl,cW (by simp only[inR];omega)];congr 2;omega
  have hb:D.bin .gtr (I ((k+1:Nat):Int)) (D.int .i64 0)=some (.bool true):=by rw[bS,decide_eq_true (by omega)]
  have hz:=tC (show X<2^(32*(k+1)) from hlt)
  have hbq:D.beq (.int .u32 (bc X k)) (.int .u32 0)=decide (X<2^(32*k)):=by
   simp[D.beq,hz]
  by_cases hs:X<2^(32*k)
  ·left
   refine⟨[I ((16-(t+1):Nat):Int)],?_,rfl,?_,?_⟩
   ·refine aa hb (aa (z:=true) rfl (aa (z:=true) ?_ (aa (z:=true) rfl ?_)))
    ·rw[if_pos rfl]
     refine aa hsub (aa (dK hk16) (aa (aZ _ hk16) ?_))
     rw[hbq,decide_eq_true hs];rfl
    ·rw[if_pos rfl,show 16-(t+1)=k by omega]
     exact aa hsub rfl
   ·rw[show 16-(t+1)=k by omega,he,ft,if_neg (by omega)]
   ·rw[show 16-(t+1)=k by omega];exact hs
  ·right
   refine⟨(0,[I ((k+1:Nat):Int)]),?_,?_⟩
   ·refine aa hb (aa (z:=true) rfl (aa (z:=false) ?_ (aa (z:=false) rfl rfl)))
    rw[if_pos rfl]
    refine aa hsub (aa (dK hk16) (aa (aZ _ hk16) ?_))
    rw[hbq,decide_eq_false hs];rfl
   ·rw[he,ft,if_pos (by omega)];rfl
 ·obtain⟨rfl,he,_⟩:=hJ
  refine⟨(0,[I 0]),aa bS (aa ae (aa (z:=false) (aD (by decide) rfl) (aa (z:=false) rfl rfl))),?_⟩
  rw[he];rfl
def Gv:Option Int->Option Int->Option Int
 | some x,some y=>ln (x+y)
 | _,_=>none
theorem mn{a b:Option Int}:(a.isSome&&b.isSome)=false\/∃ x y,a=some x/\b=some y:=by
 cases a<;>cases b<;>simp
theorem fG{neg:Bool}{m:Nat}{z:Int}(hz:sgn neg m=z)(h:m<dO):dP (ln z)=ai (sgn neg m):=by
 have:z.natAbs=m:=by rw[<-hz,mD]
 unfold ln
 rw[if_pos (by rw[this];exact h),<-hz];rfl
theorem S4(n:Nat){a b:Option Int}(ha:zi a)(hb:zi b):cA (n+4) 57 [dP a,dP b]=some (dP (Gv a b)):=by
 rw[Tz]
 unfold JB
 refine aa (tq (n+1) ha hb) (aa bN (aa ae ?_))
 rcases mn (a:=a) (b:=b) with h|⟨x,y,rfl,rfl⟩
 ·rw[h,if_pos (by decide)]
  refine aa (A4 (n+2)) ?_
  cases a<;>cases b<;>simp at h<;>rfl
 rw[if_neg (by simp)]
 have hx:=a8.1 ha.some
 have hy:=a8.1 hb.some
 rw[show dP (some x)=_ from cc x,show dP (some y)=_ from cc y,show Gv (some x) (some y)=ln (x+y) from rfl]
 refine aa (z:=.bool (decide (x<0))) rfl (aa (z:=.bool (decide (y<0))) rfl (aa (z:=decide (decide (x<0)=decide (y<0))) (by simp[D.beq,D.truth]) ?_))
 by_cases hs:decide (x<0)=decide (y<0)
 ·refine aH hs ?_
  refine aa (z:=LM x.natAbs) rfl (aa (z:=LM y.natAbs) rfl (aa (NW (n+2) hx hy) (aa (z:=LM (x.natAbs+y.natAbs)) rfl (aa (z:=.bool (decide (x.natAbs+y.natAbs<dO))) rfl (aa bN (aa ae ?_))))))
  have habs:(x+y).natAbs=x.natAbs+y.natAbs:=by
   rw[decide_eq_decide] at hs;omega
  by_cases ht:x.natAbs+y.natAbs<dO
  ·rw[decide_eq_true ht,if_neg (by decide)]
   rw[fG (neg:=decide (x<0)) (z:=x+y) (by unfold sgn;rw[decide_eq_decide] at hs;simp only[decide_eq_true_eq];split<;>omega) ht]
   exact aa (z:=.bool (decide (x<0))) rfl (aa (to (n+2) _ ht) rfl)
  ·rw[decide_eq_false ht,if_pos (by decide)]
   refine aa (A4 (n+2)) ?_
   unfold ln
   rw[if_neg (by rw[habs];exact ht)];rfl
 ·refine aD hs ?_
  refine aa (z:=LM x.natAbs) rfl (aa (z:=LM y.natAbs) rfl (aa (EC n hx hy) (aa fe (aa ae ?_))))
  have hs':¬ (x<0↔y<0):=fun e=>hs (by rw[decide_eq_decide];exact e)
  by_cases hge:y.natAbs<=x.natAbs
  ·refine aH (by unfold a7;split<;>(try split)<;>omega) ?_
   refine aa (z:=.bool (decide (x<0))) rfl (aa (z:=LM x.natAbs) rfl (aa (z:=LM y.natAbs) rfl (aa (Im (n+2) hx hge) (aa (to (n+2) _ (Nat.lt_of_le_of_lt (Nat.sub_le _ _) hx)) ?_))))
   rw[fG (neg:=decide (x<0)) (m:=x.natAbs-y.natAbs) (z:=x+y) (by unfold sgn;simp only[decide_eq_true_eq];split<;>omega) (Nat.lt_of_le_of_lt (Nat.sub_le _ _) hx)]
  ·refine aD (by unfold a7;split<;>(try split)<;>omega) ?_
   refine aa (z:=.bool (decide (y<0))) rfl (aa (z:=LM y.natAbs) rfl (aa (z:=LM x.natAbs) rfl (aa (Im (n+2) hy (by omega)) (aa (to (n+2) _ (Nat.lt_of_le_of_lt (Nat.sub_le _ _) hy)) ?_))))
   rw[fG (neg:=decide (y<0)) (m:=y.natAbs-x.natAbs) (z:=x+y) (by unfold sgn;simp only[decide_eq_true_eq];split<;>omega) (Nat.lt_of_le_of_lt (Nat.sub_le _ _) hy)]
theorem QR(n:Nat){a:Option Int}(ha:zi a):cA (n+3) 68 [dP a]=some (dP (a.map (fun x=>-x))):=by
 rw[TD]
 unfold JE
 refine aa (kX n ha) (aa bN (aa ae ?_))
 cases a with
 | none=>rw[if_pos (by decide)];exact aa (A4 (n+1)) rfl
 | some x=>
  rw[if_neg (by simp)]
  have hx:=a8.1 ha.some
  rw[show dP (some x)=_ from cc x]
  show _=some (ai (-x))
  refine aa (z:=.bool (decide (x<0))) rfl (aa bN (aa (z:=LM x.natAbs) rfl (aa (to (n+1) _ hx) ?_)))
  rw[cc,oF,mD]
  rw[cc,Int.natAbs_neg,show((!(decide (x<0)))&&!(decide (x.natAbs=0)))=decide (-x<0) by rw[Bool.eq_iff_iff];simp;omega]
theorem A6(n:Nat){x:Int}(hx:In x):cA (n+3) 129 [ai x]=some (I (sg x)):=by
 rw[Pt]
 unfold Dd
 have h118:=kX n (bZ hx)
 have hx:=a8.1 hx
 refine aa h118 (aa bN (aa (z:=false) rfl (aa (z:=decide (x=0)) ?_ (aa ae ?_))))
 ·rw[if_neg (by decide),cc]
  refine aa (z:=LM x.natAbs) rfl ?_
  rw[gR,kT hx eS,ae]
  congr 1;rw[decide_eq_decide];omega
 ·by_cases h0:x=0
  ·refine aH h0 ?_
   subst h0;rfl
  ·refine aD h0 (aa (z:=.bool (decide (x<0))) rfl (aa ae ?_))
   by_cases h1:x<0
   ·refine aH h1 ?_
    rw[uj h1]
   ·refine aD h1 ?_
    rw[jh (by omega)]
theorem JY(n:Nat){x:Int}(hx:inR x):cA (n+2) 54 [I x]=some (ai x):=by
 rw[Tx]
 unfold JA
 obtain⟨h1,h2⟩:=hx
 have key:∀ m:Nat,m<18446744073709551616->D.st (D.putParts (List.replicate 16 (D.int .u32 0)) [(0,.int .u32 ((m:Int)%4294967296)),(1,.int .u32 ((m:Int)/4294967296%4294967296))])=LM m:=fun m hm=>by
  have e:LM m=cm 16 (fun j=>if j=0 then(m:Int)%4294967296 else if j=1 then(m:Int)/4294967296%4294967296 else 0):=cU fun j hj=>by
   match j with
   | 0=>simp[bc]
   | 1=>simp[bc]
   | j+2=>
    rw[if_neg (by omega),if_neg (by omega)]
    exact eJ (n:=2) (by simpa using hm) (by omega)
  rw[e];rfl
 have w1:IntKind.u64.wrap x=if x<0 then x+18446744073709551616 else x:=by
  have:IntKind.u64.wrap x=x%18446744073709551616:=rfl
  rw[this];split<;>omega
 have hc:D.conv .u64 (I x)=some (W (if x<0 then x+18446744073709551616 else x)):=by simp only[D.conv,w1]
 refine aa hc ?_
 have habs:x.natAbs<18446744073709551616:=by omega
 refine aa (z:=(0,[W (x.natAbs:Nat)])) ?_ ?_
 ·refine aa ah (aa ae ?_)
  by_cases h:x<0
  ·refine aH h ?_
   rw[if_pos h]
   have:D.un .neg (W (x+18446744073709551616))=some (W (x.natAbs:Nat)):=by
    simp only[D.un]
    have:IntKind.u64.wrap (0-(x+18446744073709551616))=(0-(x+18446744073709551616))%18446744073709551616:=rfl
    rw[this];congr 2;omega
   exact aa this rfl
  ·refine aD h ?_
   rw[if_neg h];congr 4;omega
 ·refine aa ah (aa (fV _) (aa (qS (by show(0:Int)<=(x.natAbs:Nat);omega)) (aa (fV _) ?_)))
  have e:=key x.natAbs habs
  refine aa (z:=ai x) ?_ rfl
  show cA (n+1) 116 [.bool (decide (x<0)),D.st (D.putParts (List.replicate 16 (D.int .u32 0)) [(0,.int .u32 (((x.natAbs:Nat):Int)%4294967296)),(1,.int .u32 (((x.natAbs:Nat):Int)/4294967296%4294967296))])]=_
  rw[e,to n _ (uo habs)]
  congr 1
  congr 1
  unfold sgn;simp only[decide_eq_true_eq];split<;>omega
end Sy
end
noncomputable section
namespace Sy
open Go Go.Proofs Geo
theorem zP(A B i k n:Nat)(hn:i+k<n):D.set (cm n (tW A B i k)) [i+k] (.int .u32 (((mu A B i k:Nat)+(bc A i*bc B k+bc (eG A B i) (i+k)))%4294967296))=some (cm n (tW A B i (k+1))):=by
 refine kw hn fun j hj=>?_
 unfold tW rn
 by_cases h:j=i+k
 ·subst h;rw[if_pos (by omega),if_pos rfl,BN]
 ·rw[if_neg h]
  by_cases h2:j<i+k
  ·rw[if_pos (by omega),if_pos h2,ss,iS _ _ _ _ h2]
  ·rw[if_neg (by omega),if_neg h2]
theorem zN{A B i m n:Nat}(hB:B<2^(32*m))(hn:i+m<n):D.set (cm n (tW A B i m)) [i+m] (.int .u32 (mu A B i m:Nat))=some (cm n (bc (eG A B (i+1)))):=by
 have hz:=yU (A:=A) (i:=i) hB
 have hv:lj A B i m<2^(32*(i+m+1)):=by rw[<-sv hB];have:=yU (A:=A) (i:=i+1) hB;rwa [show i+1+m=i+m+1 from by omega] at this
 refine kw hn fun j hj=>?_
 rw[sv hB]
 unfold tW rn
 by_cases h:j=i+m
 ·subst h
  rw[if_pos rfl,cz]
  have h1:=tU A B i m
  rw[Nat.div_eq_of_lt hz,Nat.add_zero] at h1
  rw[<-h1,Nat.mod_eq_of_lt (Nat.lt_of_le_of_lt (tV A B i m) (by omega))]
 ·rw[if_neg h]
  by_cases h2:j<i+m
  ·rw[if_pos h2]
  ·rw[if_neg h2,eJ hv (by omega),eJ hz (by omega)]
theorem qP{n a c:Nat}(f:Nat->Int)(h:a+c<=n):D.st (List.take c (List.drop a ((List.range n).map fun i=>D.int .u32 (f i))))=cm c (fun j=>f (a+j)):=by
 unfold cm
 congr 1
 apply List.ext_getElem?
 intro j
 by_cases hj:j<c
 ·rw[List.getElem?_take_of_lt hj,List.getElem?_drop]
  simp[hj,show a+j<n by omega]
 ·rw[List.getElem?_eq_none (by simp;omega),List.getElem?_eq_none (by simp;omega)]
theorem wM:aF wQ=cm 32 (bc 0):=by
 have:cm 32 (bc 0)=cm 32 (fun _=>0):=cU fun i _=>lQ i
 rw[this];rfl
theorem Fj{a b:Int}(ha0:0<=a)(ha:a<=4294967295)(hb0:0<=b)(hb:b<=4294967295):0<=a*b/\a*b<=18446744065119617025:=by
 refine⟨Int.mul_nonneg ha0 hb0,?_⟩
 have h1:a*b<=4294967295*b:=Int.mul_le_mul_of_nonneg_right ha hb0
 omega
def Ha:Option Int->Option Int->Option Int
 | some x,some y=>ln (x*y)
 | _,_=>none
theorem S5(n:Nat){a b:Option Int}(ha:zi a)(hb:zi b):cA (n+3) 61 [dP a,dP b]=some (dP (Ha a b)):=by
 rw[TA]
 unfold JC
 refine aa (tq n ha hb) (aa bN (aa ae ?_))
 rcases mn (a:=a) (b:=b) with h|⟨x,y,rfl,rfl⟩
 ·rw[h,if_pos (by decide)]
  refine aa (A4 (n+1)) ?_
  cases a<;>cases b<;>simp at h<;>rfl
 rw[if_neg (by simp)]
 have hx:=a8.1 ha.some
 have hy:=a8.1 hb.some
 rw[show dP (some x)=_ from cc x,show dP (some y)=_ from cc y,show Ha (some x) (some y)=ln (x*y) from rfl]
 generalize hX:x.natAbs=X at *
 generalize hY:y.natAbs=Y at *
 have n1:=iC X;have n2:=iC Y
 have s1:=dC hx;have s2:=dC hy
 refine aa (z:=LM X) rfl (aa (wW (n+1) hx) (aa (z:=LM Y) rfl (aa (wW (n+1) hy) ?_)))
 generalize ct X=p at *
 generalize ct Y=m at *
 rw[wM]
 refine ba (fun i s=>s=[I (i:Int),cm 32 (bc (eG X Y i))]) p 0 (Nat.zero_le _) (by rw[zR];rfl) (fun i hi s hJ=>?_) (fun s hJ=>?_)
 ·subst hJ
  left
  refine⟨[I ((i+1:Nat):Int),cm 32 (bc (eG X Y (i+1)))],?_,rfl⟩
  refine aa ah (aa ae (aH (by show(i:Int)<(p:Int);omega) ?_))
  refine dn (fun k s=>s=[W (mu X Y i k:Nat),I (k:Int),cm 32 (tW X Y i k)]) m 0 (Nat.zero_le _) (by rw[so,zQ];rfl) (fun k hk s hJ=>?_) (fun s hJ=>?_)
  ·subst hJ
   left
   refine⟨_,?_,rfl⟩
   have hi16:i<16:=by omega
   have hk16:k<16:=by omega
   have hik:i+k<32:=by omega
   have a0:=bY X i;have a1:=kZ X i
   have b0:=bY Y k;have b1:=kZ Y k
   have z0:=bY (eG X Y i) (i+k);have z1:=kZ (eG X Y i) (i+k)
   have hc:=tV X Y i k
   obtain⟨q0,q1⟩:=Fj a0 a1 b0 b1
   refine aa ah (aa ae (aH (by show(k:Int)<(m:Int);omega) ?_))
   refine aa (dK hi16) (aa (aZ _ hi16) (aa (dG X i) (aa (dK hk16) (aa (aZ _ hk16) (aa (dG Y k) ?_)))))
   refine aa (Gi q0 (by omega)) (aa (aX (a:=i) (b:=k) (by omega)) (aa (ao hik) (aa (aZ _ hik) ?_)))
   rw[zO]
   refine aa (dG _ _) (aa (qR (by omega) (by omega)) (aa (qR (by omega) (by omega)) (aa (aX (a:=i) (b:=k) (by omega)) (aa (fV _) (aa (ao hik) (aa (zP X Y i k 32 hik) (aa (qS (by omega)) ?_)))))))
   rw[<-zM]
   exact aa (av (ar (i:=k) (by omega))) rfl
  ·subst hJ
   refine⟨_,aa ah (aa ae (aD (by show ¬ ((m:Int)<(m:Int));omega) rfl)),?_⟩
   have him:i+m<32:=by omega
   have hc:=tV X Y i m
   refine aa (aX (a:=i) (b:=m) (by omega)) (aa (fV _) (aa (ao him) ?_))
   rw[Int.emod_eq_of_lt (by omega) (by omega)]
   exact aa (zN s2 him) (aa (av (ar (i:=i) (by omega))) rfl)
 ·subst hJ
  refine⟨(0,[cm 32 (bc (X*Y))]),?_,?_⟩
  ·rw[BO s1]
   exact aa ah (aa ae (aD (by show ¬ ((p:Int)<(p:Int));omega) rfl))
  have hpos:=eS
  have hq:X*Y/dO<dO:=Nat.div_lt_of_lt_mul (Nat.mul_lt_mul'' hx hy)
  have hhi:D.st (List.take 16 (List.drop 16 ((List.range 32).map fun i=>D.int .u32 (bc (X*Y) i))))=LM (X*Y/dO):=by
   rw[qP _ (by omega)]
   exact cU fun j _=>by rw[fE,u4]
  have hlo:D.st (List.take 16 (List.drop 0 ((List.range 32).map fun i=>D.int .u32 (bc (X*Y) i))))=LM (X*Y):=by
   rw[qP _ (by omega)]
   exact cU fun j _=>by rw[Nat.zero_add]
  show(if decide (16+16<=((List.range 32).map fun i=>D.int .u32 (bc (X*Y) i)).length)=true then _ else none)=_
  rw[if_pos (by simp),hhi,gR,kT hq hpos]
  have habs:(x*y).natAbs=X*Y:=by rw[Int.natAbs_mul,hX,hY]
  by_cases ht:X*Y<dO
  ·rw[Nat.div_eq_of_lt ht,decide_eq_true rfl]
   refine aa (z:=false) rfl ?_
   rw[if_neg (by decide)]
   refine aa (z:=.bool (decide (x<0))) rfl (aa (z:=.bool (decide (y<0))) rfl ?_)
   show(if decide (0+16<=((List.range 32).map fun i=>D.int .u32 (bc (X*Y) i)).length)=true then _ else none)=_
   rw[if_pos (by simp),hlo]
   have hsg:=ul x y
   rw[hX,hY] at hsg
   rw[fG hsg ht]
   refine aa (z:=ai (sgn (!(decide (decide (x<0)=decide (y<0)))) (X*Y))) ?_ rfl
   rw[<-to (n+1) _ ht]
   congr 4
  ·rw[decide_eq_false (fun e=>ht (by have:=Nat.div_eq_zero_iff.1 e;omega))]
   refine aa (z:=true) rfl ?_
   rw[if_pos rfl]
   refine aa (A4 (n+1)) ?_
   unfold ln
   rw[habs,if_neg ht];rfl
end Sy
end
noncomputable section
namespace Sy
open Go Go.Proofs Geo
def im(x:Nat):Nat:=if x=0 then 0 else Nat.log2 x+1
theorem EA{x L:Nat}(h1:2^L<=x)(h2:x<2^(L+1)):im x=L+1:=by
 have hx:x≠0:=fun e=>by have:=Nat.two_pow_pos L;omega
 unfold im
 rw[if_neg hx]
 have a:=(Nat.le_log2 hx).2 h1
 have b:=(Nat.log2_lt hx).2 h2
 omega
theorem gc{x:Nat}(hx:x≠0):∃ L,im x=L+1/\2^L<=x/\x<2^(L+1):=by
 refine⟨Nat.log2 x,by unfold im;rw[if_neg hx],(Nat.le_log2 hx).1 (Nat.le_refl _),(Nat.log2_lt hx).1 (Nat.lt_succ_self _)⟩
theorem pq{x m:Nat}(h:2^m<=x):im x=m+im (x/2^m):=by
 have hq:x/2^m≠0:=fun e=>by
  have:=Nat.div_eq_zero_iff.1 e
  have:=Nat.two_pow_pos m
  omega
 obtain⟨L,h1,h2,h3⟩:=gc hq
 rw[h1,<-Nat.add_assoc]
 have hp:=Nat.two_pow_pos m
 refine EA (L:=m+L) ?_ ?_
 ·rw[Nat.pow_add,Nat.mul_comm];exact Nat.le_trans (Nat.mul_le_mul_right _ h2) (Nat.div_mul_le_self _ _)
 ·rw[show m+L+1=m+(L+1) by omega,Nat.pow_add,Nat.mul_comm]
  exact(Nat.div_lt_iff_lt_mul hp).1 h3
def uq:D:=D.str ((mH (Bg Tryz.f218)).getD ByteArray.empty)
def Co(i:Nat):Bool:=match D.strAt uq (.int .u8 i) with
 | some (.int .u8 v)=>decide (v=(im i:Nat))
 | _=>false
theorem Hg:(List.range 256).all Co=true:=by kernel_rfl
theorem Hf{i:Nat}(h:i<256):D.strAt uq (.int .u8 i)=some (.int .u8 (im i:Nat)):=by
 have:=List.all_eq_true.1 Hg i (List.mem_range.2 h)
 unfold Co at this
 split at this
 ·rename_i v hv
  rw[hv,of_decide_eq_true this]
 ·cases this
theorem Gg{a m:Nat}{c:D}(hc:c=.int .u64 (m:Nat))(hm:m<=32):D.bin .shr (U a) c=some (U (a/2^m)):=by
 subst hc
 simp only[D.bin]
 rw[if_neg (by omega),show min ((m:Int)).toNat (IntKind.bits .u32)=m from by simp[IntKind.bits];omega,Int.fdiv_eq_ediv_of_nonneg _ (by exact Int.le_of_lt (Int.pow_pos (by decide)))]
 congr 2
theorem Ir(n:Nat){x:Nat}(hx:x<4294967296):cA (n+1) 165 [U x]=some (I (im x:Nat)):=by
 rw[PL]
 unfold Dv
 have geq:∀ (a b:Nat) {c:D},c=.int .u32 (b:Nat)->D.bin .geq (U a) c=some (.bool (decide (b<=a))):=fun a b c hc=>by
  subst hc
  simp only[D.bin,if_true]
  congr 2;rw[decide_eq_decide];omega
 have last:∀ (y m:Nat),y<65536->m<=16->(Option.bind (Option.bind (D.bin .geq (U y) (D.int .u32 256)) fun x5=>
   Option.bind (D.truth x5) fun b6=>
   if b6 then(Option.bind (D.bin .shr (U y) (D.int .u64 8)) fun x7=>
   Option.bind (D.bin .add (I (m:Nat)) (D.int .i64 8)) fun x8=>
   some ((0:Nat),[x7,x8])) else(some (0,[U y,I (m:Nat)]))) fun(r9:Nat×List D)=>
   Option.bind (D.conv .u8 (gx r9.2 0)) fun x10=>
   Option.bind (D.strAt uq x10) fun x11=>
   Option.bind (D.conv .i64 x11) fun x12=>
   Option.bind (D.bin .add (gx r9.2 1) x12) fun x13=>
   some x13)=some (I ((m+im y:Nat):Int)):=fun y m hy hm=>by
  have fin:∀ (z m:Nat),z<256->m<=24->(Option.bind (D.conv .u8 (U z)) fun x10=>
    Option.bind (D.strAt uq x10) fun x11=>
    Option.bind (D.conv .i64 x11) fun x12=>
    Option.bind (D.bin .add (I (m:Nat)) x12) fun x13=>some x13)=some (I ((m+im z:Nat):Int)):=fun z m hz hm=>by
   have hb:im z<=8:=by
    by_cases h0:z=0
    ·subst h0;decide
    ·obtain⟨L,h1,h2,_⟩:=gc h0
     rcases Nat.lt_or_ge L 8 with h|h
     ·omega
     ·have:=Nat.pow_le_pow_right (show 0<2 by decide) h
      omega
   have e8:D.conv .u8 (U z)=some (.int .u8 (z:Nat)):=by
    simp only[D.conv]
    have:IntKind.u8.wrap (z:Int)=(z:Int)%256:=rfl
    rw[this,Int.emod_eq_of_lt (by omega) (by omega)]
   refine aa e8 (aa (Hf hz) (aa (z:=I (im z:Nat)) ?_ (aa (aX (by omega)) rfl)))
   simp only[D.conv];rw[dX (by simp only[inR];omega)]
  by_cases h:256<=y
  ·refine aa (z:=(0,[U (y/256),I ((m+8:Nat):Int)])) ?_ ?_
   ·refine aa (geq y 256 rfl) (aa ae (aH h ?_))
    exact aa (Gg (m:=8) rfl (by decide)) (aa (aX (b:=8) (by omega)) rfl)
   ·have:=fin (y/256) (m+8) (by omega) (by omega)
    rw[pq (m:=8) (by omega),<-Nat.add_assoc]
    exact this
  ·refine aa (z:=(0,[U y,I (m:Nat)])) (aa (geq y 256 rfl) (aa ae (aD h rfl))) ?_
   exact fin y m (by omega) (by omega)
 by_cases h:65536<=x
 ·refine aa (z:=(0,[U (x/65536),I ((16:Nat):Int)])) ?_ ?_
  ·refine aa (geq x 65536 rfl) (aa ae (aH h ?_))
   exact aa (Gg (m:=16) rfl (by decide)) rfl
  ·rw[pq (m:=16) (by omega)]
   exact last (x/65536) 16 (by omega) (by decide)
 ·refine aa (z:=(0,[U x,I ((0:Nat):Int)])) (aa (geq x 65536 rfl) (aa ae (aD h rfl))) ?_
  have:=last x 0 (by omega) (by decide)
  rw[Nat.zero_add] at this
  exact this
theorem Oh(n:Nat){x:Nat}(hx:x<4294967296):cA (n+2) 196 [U x]=some (I (32-(im x:Nat))):=by
 rw[P1]
 unfold DK
 have hb:im x<=32:=by
  by_cases h0:x=0
  ·subst h0;decide
  ·obtain⟨L,h1,h2,_⟩:=gc h0
   rcases Nat.lt_or_ge L 32 with h|h
   ·omega
   ·have:=Nat.pow_le_pow_right (show 0<2 by decide) h
    omega
 exact aa (Ir n hx) (aa (cW (by simp only[inR];omega)) rfl)
theorem Jg{a b:Nat}(ha:a<18446744073709551616)(hb:b<18446744073709551616):D.bin .or (W (a:Nat)) (W (b:Nat))=some (W ((a ||| b:Nat):Int)):=by
 simp only[D.bin,if_true,D.bitOp]
 have e:(BitVec.ofInt (IntKind.bits .u64) (a:Int) ||| BitVec.ofInt (IntKind.bits .u64) (b:Int)).toNat=a ||| b:=by
  have h1:(BitVec.ofInt 64 (a:Int)).toNat=a:=by simp[BitVec.toNat_ofInt];omega
  have h2:(BitVec.ofInt 64 (b:Int)).toNat=b:=by simp[BitVec.toNat_ofInt];omega
  show(BitVec.ofInt 64 (a:Int) ||| BitVec.ofInt 64 (b:Int)).toNat=a ||| b
  rw[BitVec.toNat_or,h1,h2]
 rw[e]
 have hl:a ||| b<2^64:=Nat.or_lt_two_pow ha hb
 rw[cV ⟨by omega,by omega⟩]
theorem gK{a b m:Nat}(hb:b<2^m)(h:a*2^m+b<18446744073709551616):D.bin .or (W ((a*2^m:Nat):Int)) (W (b:Nat))=some (W ((a*2^m+b:Nat):Int)):=by
 rw[Jg (by omega) (by omega),Nat.mul_comm,<-Nat.two_pow_add_eq_or_of_lt hb]
theorem AD{a b m:Nat}(hb:b<2^m)(h:a*2^m+b<18446744073709551616):D.bin .or (W (b:Nat)) (W ((a*2^m:Nat):Int))=some (W ((a*2^m+b:Nat):Int)):=by
 rw[Jg (by omega) (by omega),Nat.or_comm,Nat.mul_comm,<-Nat.two_pow_add_eq_or_of_lt hb]
theorem oJ{a m:Nat}{c:D}{k:IntKind}(hc:c=.int k (m:Nat))(hm:m<=64)(h:a*2^m<18446744073709551616):D.bin .shl (W (a:Nat)) c=some (W ((a*2^m:Nat):Int)):=by
 subst hc
 simp only[D.bin]
 rw[if_neg (by omega),show min ((m:Int)).toNat (IntKind.bits .u64)=m from by simp[IntKind.bits];omega]
 have e:(a:Int)*2^m=((a*2^m:Nat):Int):=by rw[Int.natCast_mul,Int.natCast_pow];rfl
 rw[e,cV ⟨by omega,by omega⟩]
theorem Hk{a m:Nat}{c:D}{k:IntKind}(hc:c=.int k (m:Nat))(hm:m<=64):D.bin .shr (W (a:Nat)) c=some (W ((a/2^m:Nat):Int)):=by
 subst hc
 simp only[D.bin]
 rw[if_neg (by omega),show min ((m:Int)).toNat (IntKind.bits .u64)=m from by simp[IntKind.bits];omega,Int.fdiv_eq_ediv_of_nonneg _ (by exact Int.le_of_lt (Int.pow_pos (by decide)))]
 congr 2
theorem Gj{a b:Nat}(hb:b≠0)(ha:a<18446744073709551616):D.bin .quo (W (a:Nat)) (W (b:Nat))=some (W ((a/b:Nat):Int)):=by
 simp only[D.bin,if_true]
 rw[if_neg (by omega),<-Int.ofNat_tdiv,cV ⟨Int.natCast_nonneg _,Int.ofNat_lt.2 (Nat.lt_of_le_of_lt (Nat.div_le_self a b) ha)⟩]
theorem CB{a b:Nat}(hb:b≠0):D.bin .rem (W (a:Nat)) (W (b:Nat))=some (W ((a%b:Nat):Int)):=by
 simp only[D.bin,if_true]
 rw[if_neg (by omega),<-Int.ofNat_tmod]
theorem Cy{a b:Nat}(h:a+b<18446744073709551616):D.bin .add (W (a:Nat)) (W (b:Nat))=some (W ((a+b:Nat):Int)):=by
 rw[qR (by omega) (by omega),Int.natCast_add]
theorem CA{a b:Nat}(h:a*b<18446744073709551616):D.bin .mul (W (a:Nat)) (W (b:Nat))=some (W ((a*b:Nat):Int)):=by
 rw[Gi (by rw[<-Int.natCast_mul];omega) (by rw[<-Int.natCast_mul];omega),Int.natCast_mul]
theorem CC{a b:Nat}(h:b<=a)(ha:a<18446744073709551616):D.bin .sub (W (a:Nat)) (W (b:Nat))=some (W ((a-b:Nat):Int)):=by
 rw[qT,cV ⟨by omega,by omega⟩];congr 2;omega
theorem uv(a:Nat):D.conv .u32 (W (a:Nat))=some (.int .u32 ((a%4294967296:Nat):Int)):=by rw[fV];rfl
theorem kG(X k:Nat):D.conv .u64 (.int .u32 (bc X k))=some (W (dg X k:Nat)):=dG X k
theorem Ix(n:Nat){X s:Nat}(hX:X<dO)(hs:s<=31):cA (n+1) 197 [LM X,I (s:Nat)]=some (.tup [LM (X*2^s),.int .u32 ((X*2^s/dO:Nat):Int)]):=by
 rw[P2]
 unfold DL
 rw[fJ]
 have hp:=Nat.two_pow_pos s
 have hp2:2^s<=2^31:=Nat.pow_le_pow_right (by decide) hs
 refine ba (fun k s'=>s'=[W (fr X (2^s) k:Nat),I (k:Int),LM (X*2^s%2^(32*k))]) 16 0 (Nat.zero_le _) (by rw[sr,oU];rfl) (fun k hk s' hJ=>?_) (fun s' hJ=>?_)
 ·subst hJ
  left
  refine⟨_,?_,rfl⟩
  have hc:=tX X k hp
  have hd:=et X k
  have hm:dg X k*2^s<=4294967295*2^s:=Nat.mul_le_mul_right _ (by omega)
  have e1:=vW X (2^s) k
  have e2:=sq X (2^s) k
  rw[m8 X k] at e1 e2
  have ec:((fr X (2^s) k:Nat):Int)+(dg X k:Nat)*((2^s:Nat):Int)=((dg X k*2^s+fr X (2^s) k:Nat):Int):=by rw[Int.natCast_add,Int.natCast_mul];omega
  rw[ec] at e1 e2
  refine aa ah (aa ae (aH (by show(k:Int)<16;omega) ?_))
  refine aa (dK hk) (aa (aZ _ hk) (aa (kG X k) (aa (oJ rfl (by omega) (by omega)) (aa (AD hc (by omega)) (aa (fV _) (aa (dK hk) ?_))))))
  rw[<-e1]
  refine aa (oT hk) (aa (qS (by omega)) ?_)
  rw[<-e2]
  exact aa (av (ar (i:=k) (by omega))) rfl
 ·subst hJ
  refine⟨_,aa ah (aa ae (aD (by decide) rfl)),?_⟩
  have hc:=tX X 16 hp
  have e:=BM (D:=2^s) hX
  rw[lH,e]
  rw[e] at hc
  refine aa (uv _) ?_
  rw[Nat.mod_eq_of_lt (by omega)]
  rfl
theorem Oi(n:Nat){X s:Nat}(hX:X<dO)(hs:s<=31):cA (n+1) 201 [LM X,I (s:Nat)]=some (LM (X/2^s)):=by
 rw[P3]
 unfold DM
 rw[fJ]
 refine ba (fun k s'=>s'=[I (k:Int),LM (X/2^s%2^(32*k))]) 16 0 (Nat.zero_le _) (by rw[oU];rfl) (fun k hk s' hJ=>?_) (fun s' hJ=>?_)
 ·subst hJ
  left
  refine⟨_,?_,rfl⟩
  have hd:=et X k;have hd1:=et X (k+1)
  refine aa ah (aa ae (aH (by show(k:Int)<16;omega) ?_))
  refine aa (z:=(0,[W (dg X (k+1):Nat)])) ?_ ?_
  ·refine aa (aX (a:=k) (b:=1) (by omega)) (aa ah (aa ae ?_))
   by_cases h:k+1<16
   ·refine aH (by show((k+1:Nat):Int)<16;omega) ?_
    exact aa (aX (a:=k) (b:=1) (by omega)) (aa (dK h) (aa (aZ _ h) (aa (kG X (k+1)) rfl)))
   ·refine aD (by show ¬ ((k+1:Nat):Int)<16;omega) ?_
    have hz:bc X (k+1)=0:=eJ (n:=16) (by rw[fE,cT] at hX;exact hX) (by omega)
    have hz:dg X (k+1)=0:=by rw[m8] at hz;omega
    rw[hz];rfl
  refine aa (oJ (m:=32) rfl (by decide) (by omega)) (aa (dK hk) (aa (aZ _ hk) (aa (kG X k) (aa (gK (m:=32) (by omega) (by omega)) (aa (Hk rfl (by omega)) (aa (fV _) (aa (dK hk) ?_)))))))
  have e:=Bj X s k (by omega)
  rw[m8 X (k+1),m8 X k] at e
  have ec:((dg X (k+1):Nat):Int)*4294967296+(dg X k:Nat)=((dg X (k+1)*2^32+dg X k:Nat):Int):=by omega
  rw[ec,<-Int.natCast_ediv] at e
  rw[<-e]
  exact aa (oT hk) (aa (av (ar (i:=k) (by omega))) rfl)
 ·subst hJ
  refine⟨_,aa ah (aa ae (aD (by decide) rfl)),?_⟩
  rw[lH];rfl
theorem yf{Q k:Nat}(hk:k<16):D.set (LM (Q/2^(32*(k+1))*2^(32*(k+1)))) [k] (.int .u32 (bc Q k))=some (LM (Q/2^(32*k)*2^(32*k))):=
 kw hk fun j hj=>by
  rw[sf,sf]
  by_cases e:j=k
  ·subst e;simp
  ·rw[if_neg e]
   by_cases h:j<k
   ·rw[if_pos h,if_pos (by omega)]
   ·rw[if_neg h,if_neg (by omega)]
theorem En{Q:Nat}(h:Q<dO):LM (Q/2^(32*16)*2^(32*16))=LM 0:=by
 rw[wh,Nat.div_eq_of_lt h,Nat.zero_mul]
theorem Og(n:Nat){X b:Nat}(hX:X<dO)(hb:0<b)(hb2:b<=4294967295):cA (n+1) 195 [LM X,U b]=some (.tup [LM (X/b),U (X%b)]):=by
 rw[P0]
 unfold DJ
 rw[fJ]
 have hq:X/b<dO:=Nat.lt_of_le_of_lt (Nat.div_le_self _ _) hX
 have h16:dT X b 16=0:=by unfold dT;rw[wh,Nat.div_eq_of_lt hX,Nat.zero_mod]
 have hconv:D.conv .u64 (U b)=some (W (b:Nat)):=Cz (by omega) (by omega)
 refine ba (fun t s'=>s'=[W (dT X b (16-t):Nat),I (15-(t:Int)),LM (X/b/2^(32*(16-t))*2^(32*(16-t)))]) 16 0 (Nat.zero_le _) (by rw[Nat.sub_zero,h16,En hq];rfl) (fun t ht s' hJ=>?_) (fun s' hJ=>?_)
 ·subst hJ
  left
  obtain⟨k,hk⟩:∃ k,k=15-t:=⟨_,rfl⟩
  have hk16:k<16:=by omega
  rw[show 16-t=k+1 by omega,show(15-(t:Int))=(k:Int) by omega,show 16-(t+1)=k by omega,show(15-((t+1:Nat):Int))=(k:Int)-1 by omega]
  refine⟨_,?_,rfl⟩
  have hr:=wp X (k+1) hb
  have hd:=et X k
  have e1:=Ar X k hb hb2
  have e2:=xH X b k
  refine aa fe (aa ae (aH (by show(k:Int) ≥ 0;omega) ?_))
  refine aa (oJ (m:=32) rfl (by decide) (by omega)) (aa (dK hk16) (aa (aZ _ hk16) (aa (kG X k) (aa (gK (m:=32) (by omega) (by omega)) ?_))))
  have hT:dT X b (k+1)*2^32+dg X k<18446744073709551616:=by omega
  refine aa hconv (aa (Gj (by omega) hT) (aa (uv _) (aa (dK hk16) ?_)))
  have e3:(((dT X b (k+1)*2^32+dg X k)/b%4294967296:Nat):Int)=bc (X/b) k:=by
   rw[cz,e1]
   show(((dT X b (k+1)*2^32+dg X k)/b%4294967296:Nat):Int)=(((dT X b (k+1)*4294967296+dg X k)/b:Nat):Int)
   congr 1
   refine Nat.mod_eq_of_lt ?_
   rw[Nat.div_lt_iff_lt_mul hb]
   have:(dT X b (k+1)+1)*4294967296<=b*4294967296:=Nat.mul_le_mul_right _ hr
   omega
  rw[e3]
  refine aa (yf hk16) (aa hconv (aa (CB (by omega)) (aa (cW (by simp only[inR];omega)) ?_)))
  have e4:(dT X b (k+1)*2^32+dg X k)%b=dT X b k:=e2.symm
  rw[e4]
 ·subst hJ
  refine⟨_,aa fe (aa ae (aD (by decide) rfl)),?_⟩
  have hm:X%b<b:=Nat.mod_lt _ hb
  rw[show 16-16=0 from rfl,Am,Nat.mul_zero,Nat.pow_zero,Nat.div_one,Nat.mul_one]
  refine aa (uv _) ?_
  rw[Nat.mod_eq_of_lt (show X%b<4294967296 by omega)]
  rfl
end Sy
end
noncomputable section
namespace Sy
open Go Go.Proofs Geo
theorem wH{V D i:Nat}(hD:D<=4294967295):fr V D i<=4294967295/\D*dg V i<=18446744065119617025:=by
 refine⟨?_,Nat.mul_le_mul hD (yw V i)⟩
 rcases Nat.eq_zero_or_pos D with h|h
 ·subst h;simp[fr]
 ·have:=tX V i h;omega
theorem sW{V D n:Nat}(hV:V<2^(32*n))(hD:D<=4294967295):V*D<2^(32*(n+1)):=by
 rw[cL]
 have h1:V*D<=V*4294967296:=Nat.mul_le_mul_left _ (by omega)
 have h2:V*4294967296<2^(32*n)*4294967296:=Nat.mul_lt_mul_of_pos_right hV (by omega)
 omega
theorem wI{U V D n j k:Nat}(hk:k<=n)(hV:V<2^(32*n))(hD:D<=4294967295) :
  IntKind.u64.wrap (IntKind.u64.wrap (bc U (j+k)-bc (V*D) k)-(bC (U/2^(32*j)) (V*D) k:Nat))/9223372036854775808=(bC (U/2^(32*j)) (V*D) (k+1):Nat) ∧
  IntKind.u64.wrap (IntKind.u64.wrap (bc U (j+k)-bc (V*D) k)-(bC (U/2^(32*j)) (V*D) k:Nat))%4294967296=bc (kc (U/2^(32*j)) (V*D) (n+1)) k:=by
 have wb:=oL (bc U (j+k)) (bc (V*D) k) (bC (U/2^(32*j)) (V*D) k) (bY _ _) (kZ _ _) (bY _ _) (kZ _ _) (pu _ _ _)
 rw[wb.1,wb.2,<-iT,lM,AG (by omega) (Nat.le_of_lt (sW hV hD))]
 exact⟨rfl,rfl⟩
theorem Cp{V D n:Nat}(hV:V<2^(32*n))(hD:D<=4294967295):((fr V D n:Nat):Int)=bc (V*D) n:=by
 have h:=(wH (V:=V) (i:=n) hD).1
 have e:fr V D n=V*D/2^(32*n):=by unfold fr;rw[Nat.mod_eq_of_lt hV]
 rw[cz,<-e,Nat.mod_eq_of_lt (by omega)]
theorem EU{U j m:Nat}(hU:U<2^(32*(j+m))):U/2^(32*j)<2^(32*m):=by
 rw[Nat.div_lt_iff_lt_mul (Nat.two_pow_pos _),<-Nat.pow_add,show 32*m+32*j=32*(j+m) from by omega];exact hU
theorem ku(U Z j i n:Nat)(hn:j+i<n):D.set (cm n (rA U Z j i)) [j+i] (.int .u32 (bc Z i))=some (cm n (rA U Z j (i+1))):=
 kw hn fun t ht=>by
  unfold rA rn
  by_cases h:t=j+i
  ·subst h;rw[if_pos (by omega),if_pos rfl,xv]
  ·rw[if_neg h]
   by_cases h2:t<j+i
   ·rw[if_pos (by omega),if_pos h2]
   ·rw[if_neg (by omega),if_neg h2]
theorem sU{U Z j m n:Nat}(hU:U<2^(32*(j+m)))(hZ:Z<2^(32*m)):cm n (rA U Z j m)=cm n (bc (dS U Z j)):=
 cU fun t _=>by
  unfold rA rn
  split
  ·rfl
  ·rw[eJ hU (by omega),eJ (we hZ) (by omega)]
theorem Fg{B n L:Nat}(hB:B<2^(32*(n+1)))(h2:dg B n<2^(L+1))(h3:L+1<=32):B*2^(32-(L+1))<2^(32*(n+1)):=by
 have h1:B/2^(32*n)=dg B n:=iq hB
 have h4:B<(dg B n+1)*2^(32*n):=by rw[<-Nat.div_lt_iff_lt_mul (Nat.two_pow_pos _)];omega
 have h5:(dg B n+1)*2^(32*n)<=2^(L+1)*2^(32*n):=Nat.mul_le_mul_right _ h2
 have h6:B*2^(32-(L+1))<2^(L+1)*2^(32*n)*2^(32-(L+1)):=Nat.mul_lt_mul_of_pos_right (by omega) (Nat.two_pow_pos _)
 rw[<-Nat.pow_add,<-Nat.pow_add,show L+1+32*n+(32-(L+1))=32*(n+1) from by omega] at h6
 exact h6
theorem BE{A B n m:Nat}(hl:2^(32*(n-1))<=B)(hAB:B<=A)(hA:A<2^(32*m)):n<=m:=by
 rcases Nat.lt_or_ge m n with h|h
 ·have:2^(32*m)<=2^(32*(n-1)):=Nat.pow_le_pow_right (by omega) (by omega)
  omega
 ·exact h
theorem Af{A B n m:Nat}(hn:1<=n)(hnm:n<=m)(hl:2^(32*(n-1))<=B)(hA:A<2^(32*m)):A/B<2^(32*(m-n+1)):=by
 apply Nat.div_lt_of_lt_mul
 have h:2^(32*(n-1))*2^(32*(m-n+1))<=B*2^(32*(m-n+1)):=Nat.mul_le_mul_right _ hl
 rw[<-Nat.pow_add,show 32*(n-1)+32*(m-n+1)=32*m from by omega] at h
 omega
theorem BU{A s:Nat}(hA:A<dO)(hs:s<=31):((A*2^s/dO:Nat):Int)=bc (A*2^s) 16:=by
 have h31:2^s<=2147483648:=Nat.pow_le_pow_right (n:=2) (by omega) hs
 have h1:A*2^s/dO<4294967296:=by
  rw[Nat.div_lt_iff_lt_mul eS,Nat.mul_comm 4294967296]
  have h2:A*2^s<=A*2147483648:=Nat.mul_le_mul_left _ h31
  have h3:A*2147483648<=dO*2147483648:=Nat.mul_le_mul_right _ (by omega)
  have:=eS
  omega
 have h2:=u4 (A*2^s) 16 0
 rw[<-fE,Nat.add_zero] at h2
 rw[<-h2,cz,Nat.mul_zero,Nat.pow_zero,Nat.div_one,Nat.mod_eq_of_lt h1]
theorem Gh{a b:Nat}{c:D}(hc:c=.int .u64 (b:Nat)):D.bin .lss (W (a:Nat)) c=some (.bool (decide (a<b))):=by
 subst hc;simp only[D.bin,if_true];congr 2;rw[decide_eq_decide];omega
theorem Je{a b:Nat}{c:D}(hc:c=.int .u64 (b:Nat)):D.bin .geq (W (a:Nat)) c=some (.bool (decide (b<=a))):=by
 subst hc;simp only[D.bin,if_true];congr 2;rw[decide_eq_decide];omega
theorem Jf{a b:Nat}:D.bin .gtr (W (a:Nat)) (W (b:Nat))=some (.bool (decide (b<a))):=by
 simp only[D.bin,if_true];congr 2;rw[decide_eq_decide];omega
theorem o8{α:Type}{body:Bd}{k:Nat×List D->Option α}{y:α}(J:Nat->List D->Prop) :
  ∀ (m:Nat) (s:List D),J m s->(∀ m s,J m s->(∃ m' s',m'<m/\body s=some (.inl s')/\J m' s')\/∃ r,body s=some (.inr r)/\k r=some y)->Option.bind (aP body s) k=some y:=by
 intro m
 induction m using Nat.strongRecOn with
 | _ m ih=>
  intro s hJ hs
  rcases hs m s hJ with⟨m',s',h1,h2,h3⟩|⟨r,h1,h2⟩
  ·exact mr h2 (ih m' h1 s' h3 hs)
  ·exact o7 h1 h2
theorem ik{a b:Nat}{c:D}(hc:c=I (b:Nat))(h:b<=a)(ha:a<=1000000):D.bin .sub (I (a:Nat)) c=some (I ((a-b:Nat):Int)):=by
 subst hc;rw[cW (by simp only[inR];omega)];congr 2;omega
theorem Jd(N:Nat):D.set (D.st (List.take 0 (List.replicate 17 (D.int .u32 0))++(List.take 16 (List.drop 0 ((List.range 16).map fun i=>D.int .u32 (bc N i)))++List.drop 16 (List.replicate 17 (D.int .u32 0))))) [16] (.int .u32 (bc N 16))=some (cm 17 (bc N)):=by
 have e:D.st (List.take 0 (List.replicate 17 (D.int .u32 0))++(List.take 16 (List.drop 0 ((List.range 16).map fun i=>D.int .u32 (bc N i)))++List.drop 16 (List.replicate 17 (D.int .u32 0))))=cm 17 (fun j=>if j<16 then bc N j else 0):=by rfl
 rw[e]
 refine kw (by decide) fun j hj=>?_
 by_cases h:j=16
 ·subst h;simp
 ·rw[if_neg h,if_pos (by omega)]
theorem Iu(n:Nat){A B:Nat}(hA:A<dO)(hB:B<dO)(hB0:0<B):cA (n+4) 170 [LM A,LM B]=some (.tup [LM (A/B),LM (A%B)]):=by
 rw[PP]
 unfold Dz
 refine aa (wW (n+2) hB) (aa (wW (n+2) hA) (aa (EC n hA hB) (aa ah (aa ae ?_))))
 by_cases hlt:A<B
 ·refine aH (by unfold a7;split<;>omega) ?_
  rw[gR,Nat.div_eq_of_lt hlt,Nat.mod_eq_of_lt hlt]
 refine aD (by unfold a7;split<;>(try split)<;>omega) ?_
 have hn0:ct B≠0:=fun e=>by have:=dC hB;rw[e] at this;simp at this;omega
 have HBh:=dC hB
 have HBl:=lm hn0
 have HAh:=dC hA
 have hn16:=iC B
 have hm16:=iC A
 refine aa (z:=decide (ct B=1)) (by show D.truth (D.bool (D.beq (I (ct B:Int)) (I ((1:Nat):Int))))=_;rw[bP];rfl) ?_
 by_cases h1:ct B=1
 ·refine aH h1 ?_
  rw[h1] at HBh
  have hb32:B<4294967296:=HBh
  have hd:bc B 0=(B:Int):=by unfold bc;simp;omega
  have hm:A%B<4294967296:=Nat.lt_trans (Nat.mod_lt _ hB0) hb32
  refine aa (aZ _ (by decide)) ?_
  rw[hd]
  refine aa (Og (n+2) hA hB0 (by omega)) (aa (z:=LM (A/B)) rfl (aa (z:=U (A%B)) rfl ?_))
  have e:D.st (D.putParts (List.replicate 16 (D.int .u32 0)) [(0,U (A%B))])=LM (A%B):=by
   have e2:LM (A%B)=cm 16 (fun j=>if j=0 then((A%B:Nat):Int) else 0):=cU fun j hj=>by
    by_cases h0:j=0
    ·subst h0;rw[if_pos rfl];unfold bc;rw[Nat.mul_zero,Nat.pow_zero,Nat.div_one,Nat.mod_eq_of_lt hm]
    ·rw[if_neg h0];exact eJ (n:=1) hm (by omega)
   rw[e2];rfl
  rw[e]
 refine aD h1 ?_
 have hBA:B<=A:=by omega
 have hnm:=BE HBl hBA HAh
 have HQ:=Af (by omega) hnm HBl HAh
 obtain⟨e,he⟩:∃ e,ct B=e+2:=⟨ct B-2,by omega⟩
 obtain⟨m,hm⟩:∃ m,ct A=m:=⟨_,rfl⟩
 rw[he] at HBh HBl hnm HQ hn16 ⊢
 rw[hm] at HAh hnm HQ hm16 ⊢
 rw[show e+2-1=e+1 by omega] at HBl
 have hz:dg B (e+1)≠0:=fun h0=>by
  have h:=iq HBh
  have:=(Nat.le_div_iff_mul_le (Nat.two_pow_pos (32*(e+1)))).2 (show 1*2^(32*(e+1))<=B by omega)
  omega
 obtain⟨L,hL,hL1,hL2⟩:=gc hz
 have hdl:=et B (e+1)
 have hL3:L+1<=32:=by
  rcases Nat.lt_or_ge L 32 with h|h
  ·omega
  ·have:=Nat.pow_le_pow_right (show 0<2 by decide) h
   omega
 obtain⟨s,hs⟩:∃ s,s=32-(L+1):=⟨_,rfl⟩
 have hs31:s<=31:=by omega
 have hVn:=Fg HBh hL2 hL3
 rw[<-hs] at hVn
 have hp:=Nat.two_pow_pos s
 obtain⟨V,hV⟩:∃ V,V=B*2^s:=⟨_,rfl⟩
 obtain⟨N,hN⟩:∃ N,N=A*2^s:=⟨_,rfl⟩
 have hQN:N/V=A/B:=by rw[hV,hN,Nat.mul_div_mul_right _ _ hp]
 have hRN:N%V=A%B*2^s:=by rw[hV,hN,Nat.mul_mod_mul_right]
 have hV0:0<V:=by rw[hV];exact Nat.mul_pos hB0 hp
 rw[<-hV] at hVn
 replace hVn:V<2^(32*(e+2)):=hVn
 have hV1:2^(32*(e+1))<=V:=by rw[hV];exact Nat.le_trans HBl (Nat.le_mul_of_pos_right _ hp)
 have hVtop:V<dO:=xU (by omega) hVn
 refine aa (ik (b:=1) rfl (by omega) (by omega)) (aa (dK (by omega)) (aa (aZ _ (by omega)) ?_))
 rw[show e+2-1=e+1 by omega,m8 B (e+1)]
 refine aa (Oh (n+1) hdl) ?_
 rw[hL,show(32-((L+1:Nat):Int))=(s:Nat) by omega]
 refine aa (Ix (n+2) hB hs31) (aa (z:=LM (B*2^s)) rfl (aa (z:=.int .u32 ((B*2^s/dO:Nat):Int)) rfl ?_))
 refine aa (Ix (n+2) hA hs31) (aa (z:=LM (A*2^s)) rfl (aa (z:=.int .u32 ((A*2^s/dO:Nat):Int)) rfl ?_))
 rw[BU hA hs31,<-hV,<-hN]
 refine aa (z:=List.replicate 17 (D.int .u32 0)) rfl (aa (z:=(List.range 16).map fun i=>D.int .u32 (bc N i)) rfl (aa (Jd N) (aa (ik (b:=e+2) rfl (by omega) (by omega)) ?_)))
 rw[fJ]
 obtain⟨c,hc⟩:∃ c,c=m-(e+2):=⟨_,rfl⟩
 rw[<-hc] at HQ ⊢
 rw[<-hQN] at HQ ⊢
 refine ba (fun t s'=>s'=[I ((c:Int)-(t:Nat)),LM (N/V/2^(32*(c+1-t))*2^(32*(c+1-t))),cm 17 (bc (dp N V (c+1-t)))]) (c+1) 0 (Nat.zero_le _) ?_ (fun t ht s' hJ=>?_) (fun s' hJ=>?_)
 ·rw[Nat.sub_zero,xF HQ,Nat.div_eq_of_lt HQ,Nat.zero_mul]
  congr 2
 ·subst hJ
  left
  obtain⟨j,hj⟩:∃ j,j=c-t:=⟨_,rfl⟩
  rw[show c+1-t=j+1 by omega,show(c:Int)-(t:Nat)=(j:Nat) by omega,show c+1-(t+1)=j by omega,show(c:Int)-((t+1:Nat):Int)=(j:Int)-1 by omega]
  refine⟨[I ((j:Int)-1),LM (N/V/2^(32*j)*2^(32*j)),cm 17 (bc (dp N V j))],?_,rfl⟩
  have hj16:j+e+2<=16:=by omega
  have hU:=Ak (N:=N) j hV0 hVn
  have hUt:=Cb (N:=N) j hV0
  have hqd:=B9 (N:=N) j hV0
  have right:=wr (N:=N) j hV0 hVn
  have wrong:=fun U1=>ws (N:=N) (U1:=U1) j hV0 hVn
  generalize hUU:dp N V (j+1)=U at *
  have H:=Bw hVn hV1 hUt
  have hW:=EU (j:=j) (m:=e+2+1) (U:=U) (by rw[show j+(e+2+1)=j+(e+2)+1 by omega];exact hU)
  have g2:D.idx (I ((j+(e+2):Nat):Int)) 17=some (j+(e+2)):=ao (by omega)
  have t1:=Hh U (j+e+2) (j+e+1)
  have F1:=H.one
  have F2:=yw V (e+1)
  have v2:=et V e
  have u2:=et U (j+e)
  refine aa fe (aa ae (aH (by show(j:Int) ≥ 0;omega) ?_))
  refine aa (aX (a:=j) (b:=e+2) (by omega)) (aa g2 (aa (aZ _ (by omega)) (aa (kG U _) (aa (oJ (m:=32) rfl (by decide) (by have:=et U (j+(e+2));omega)) ?_))))
  refine aa (aX (a:=j) (b:=e+2) (by omega)) (aa (ik (b:=1) rfl (by omega) (by omega)) ?_)
  rw[show j+(e+2)-1=j+e+1 by omega,show j+(e+2)=j+e+2 by omega]
  refine aa (ao (by omega)) (aa (aZ _ (by omega)) (aa (kG U _) (aa (gK (m:=32) (et _ _) (by omega)) ?_)))
  refine aa (ik (b:=1) rfl (by omega) (by omega)) (aa (z:=e+1) (by rw[show e+2-1=e+1 by omega];exact ao (by omega)) (aa (aZ _ (by omega)) (aa (kG V _) ?_)))
  have eT:dg U (j+e+2)*2^32+dg U (j+e+1)=dg U (j+e+2)*4294967296+dg U (j+e+1):=rfl
  rw[eT]
  generalize hT:dg U (j+e+2)*4294967296+dg U (j+e+1)=T at *
  generalize hF:dg V (e+1)=F at *
  refine aa (Gj (by omega) (by omega)) (aa (CB (by omega)) ?_)
  refine o8 (fun G s'=>∃ R,s'=[W (G:Nat),W (R:Nat),LM (N/V/2^(32*(j+1))*2^(32*(j+1))),LM 0,LM V]/\G*F+R=T/\U/2^(32*j)/V<=G) (T/F) _ ⟨T%F,rfl,by rw[Nat.mul_comm];exact Nat.div_add_mod T F,H.start⟩ (fun G s' hJ=>?_)
  obtain⟨R,rfl,hDR,hqD⟩:=hJ
  have hDF:G<=G*F:=Nat.le_mul_of_pos_right _ (by omega)
  have hD64:G<=18446744073709551615:=by omega
  have hR64:R<=18446744073709551615:=by omega
  have cond:∀ b:Bool,b=(decide (R<4294967296)&&(decide (4294967296<=G)||decide (R*4294967296+dg U (j+e)<G*dg V e)))->(b=true->1<=G/\U/2^(32*j)/V<=G-1)/\(b=false->G<4294967296/\G<=U/2^(32*j)/V+1):=fun b hb=>by
   constructor
   ·intro hbt
    rw[hbt] at hb
    simp only[Bool.true_eq,Bool.and_eq_true,Bool.or_eq_true,decide_eq_true_eq] at hb
    rcases hb.2 with h|h
    ·exact⟨by omega,H.step_big h⟩
    ·have:=H.step hDR h;exact⟨this.2,this.1⟩
   ·intro hbf
    rw[hbf] at hb
    refine H.done hDR ?_
    by_cases h1:4294967296<=R
    ·exact .inl h1
    ·right
     have h1':R<4294967296:=by omega
     simp only[decide_eq_true h1',Bool.true_and,Bool.false_eq,Bool.or_eq_false_iff,decide_eq_false_iff_not] at hb
     omega
  have hcv:∀ {β:Type} {g:Bool->Option β} {y:β},g (decide (R<4294967296)&&(decide (4294967296<=G)||decide (R*4294967296+dg U (j+e)<G*dg V e)))=some y->(Option.bind (D.bin .lss (W (R:Nat)) (D.int .u64 4294967296)) fun x46=>
    Option.bind (D.truth x46) fun b47=>
    Option.bind (if b47 then(Option.bind (D.bin .geq (W (G:Nat)) (D.int .u64 4294967296)) fun x48=>
    Option.bind (D.truth x48) fun b49=>
    if b49 then(some true) else(Option.bind (D.bin .sub (I ((e+2:Nat):Int)) (D.int .i64 2)) fun x50=>
    Option.bind (D.idx x50 16) fun i51=>
    Option.bind (D.get (LM V) [i51]) fun x52=>
    Option.bind (D.conv .u64 x52) fun x53=>
    Option.bind (D.bin .mul (W (G:Nat)) x53) fun x54=>
    Option.bind (D.bin .shl (W (R:Nat)) (D.int .u64 32)) fun x55=>
    Option.bind (D.bin .add (I (j:Nat)) (I ((e+2:Nat):Int))) fun x56=>
    Option.bind (D.bin .sub x56 (D.int .i64 2)) fun x57=>
    Option.bind (D.idx x57 17) fun i58=>
    Option.bind (D.get (cm 17 (bc U)) [i58]) fun x59=>
    Option.bind (D.conv .u64 x59) fun x60=>
    Option.bind (D.bin .or x55 x60) fun x61=>
    Option.bind (D.bin .gtr x54 x61) fun x62=>
    D.truth x62)) else(some false)) g)=some y:=fun{β g y} hg=>by
   refine aa (Gh (b:=4294967296) rfl) (aa ae (aa ?_ hg))
   by_cases h1:R<4294967296
   ·rw[decide_eq_true h1,if_pos rfl,Bool.true_and]
    refine aa (Je (b:=4294967296) rfl) (aa ae ?_)
    by_cases h2:4294967296<=G
    ·rw[decide_eq_true h2,if_pos rfl,Bool.true_or]
    ·rw[decide_eq_false h2,if_neg (by decide),Bool.false_or]
     have hm1:G*dg V e<=4294967295*4294967295:=Nat.mul_le_mul (by omega) (by omega)
     refine aa (ik (b:=2) rfl (by omega) (by omega)) (aa (z:=e) (ao (by omega)) (aa (aZ _ (by omega)) (aa (kG V e) (aa (CA (by omega)) (aa (oJ (m:=32) rfl (by decide) (by omega)) ?_)))))
     refine aa (aX (a:=j) (b:=e+2) (by omega)) (aa (ik (b:=2) rfl (by omega) (by omega)) (aa (z:=j+e) (by rw[show j+(e+2)-2=j+e by omega];exact ao (by omega)) (aa (aZ _ (by omega)) (aa (kG U (j+e)) (aa (gK (m:=32) u2 (by omega)) (aa Jf ?_))))))
     rfl
   ·rw[decide_eq_false h1,if_neg (by decide),Bool.false_and]
  obtain⟨bb,hbb⟩:∃ bb,bb=(decide (R<4294967296)&&(decide (4294967296<=G)||decide (R*4294967296+dg U (j+e)<G*dg V e))):=⟨_,rfl⟩
  obtain⟨k1,k2⟩:=cond bb hbb
  rw[<-hbb] at hcv
  cases bb with
  | true=>
   left
   obtain⟨d1,d2⟩:=k1 rfl
   have hR32:R<4294967296:=by
    have:=hbb.symm
    simp only[Bool.and_eq_true,decide_eq_true_eq] at this
    exact this.1
   refine⟨G-1,[W ((G-1:Nat):Int),W ((R+F:Nat):Int),LM (N/V/2^(32*(j+1))*2^(32*(j+1))),LM 0,LM V],by omega,?_,R+F,rfl,xe hDR d1,d2⟩
   refine hcv (aa ae ?_)
   rw[if_pos rfl]
   exact aa (CC (b:=1) (by omega) (by omega)) (aa (Cy (by omega)) rfl)
  | false=>
   right
   obtain⟨d1,d2⟩:=k2 rfl
   refine⟨(0,[W (G:Nat),LM (N/V/2^(32*(j+1))*2^(32*(j+1))),LM 0,LM V]),?_,?_⟩
   ·refine hcv (aa ae ?_)
    rw[if_neg (by decide)];rfl
   clear hcv cond k1 k2 hbb
   have hD:G<=4294967295:=by omega
   have hVD:=sW hVn hD
   obtain⟨Z,hZ⟩:∃ Z,Z=kc (U/2^(32*j)) (V*G) (e+2+1):=⟨_,rfl⟩
   have hZl:Z<2^(32*(e+2+1)):=by rw[hZ];exact CE _ _ _
   have hqj:=hqd
   have fin:∀ {y:Sum (List D) (Nat×List D)} {d:Nat} {u:D} {g:Nat×List D->Option (Sum (List D) (Nat×List D))},d=dg (N/V) j->u=cm 17 (bc (dp N V j))->g (0,[W (d:Nat),u])=some y->g (0,[W ((dg (N/V) j:Nat):Int),cm 17 (bc (dp N V j))])=some y:=fun h1 h2 h3=>by rw[<-h1,<-h2];exact h3
   refine aa (z:=(0,[W ((dg (N/V) j:Nat):Int),cm 17 (bc (dp N V j))])) ?_ ?_
   ·refine dn (fun i s'=>s'=[W (fr V G i:Nat),W (bC (U/2^(32*j)) (V*G) i:Nat),I (i:Nat),LM (N/V/2^(32*(j+1))*2^(32*(j+1))),LM 0,LM V,cm 17 (rA U Z j i)]) (e+2) 0 (Nat.zero_le _) (by rw[sr,lN,sV];rfl) (fun i hi s' hJ=>?_) (fun s' hJ=>?_)
    ·subst hJ
     left
     refine⟨_,?_,rfl⟩
     have hi16:i<16:=by omega
     have hji:j+i<17:=by omega
     obtain⟨m1,m2⟩:=wH (V:=V) (i:=i) hD
     obtain⟨q1,q2⟩:=wI (U:=U) (j:=j) (k:=i) (by omega) hVn hD
     have s1:=vW V G i
     have s2:=sq V G i
     rw[m8 V i] at s1 s2
     have ec:((fr V G i:Nat):Int)+(dg V i:Nat)*(G:Int)=((fr V G i+G*dg V i:Nat):Int):=by rw[Int.natCast_add,Int.natCast_mul,Int.mul_comm (G:Int)]
     rw[ec] at s1 s2
     refine aa ah (aa ae (aH (by show(i:Int)<((e+2:Nat):Int);omega) ?_))
     refine aa (dK hi16) (aa (aZ _ hi16) (aa (kG V i) (aa (CA (by omega)) (aa (Cy (by omega)) ?_))))
     refine aa (aX (a:=j) (b:=i) (by omega)) (aa (ao hji) (aa (aZ _ hji) ?_))
     rw[ks]
     refine aa (dG U (j+i)) (aa (fV _) ?_)
     rw[<-s1]
     refine aa (dG (V*G) i) (aa (qT _ _) (aa (qT _ _) (aa (aX (a:=j) (b:=i) (by omega)) (aa (fV _) (aa (ao hji) ?_)))))
     rw[q2,<-hZ]
     refine aa (ku U Z j i 17 hji) (aa uw ?_)
     rw[q1]
     refine aa (qS (by omega)) ?_
     rw[<-s2]
     exact aa (av (ar (i:=i) (by omega))) rfl
    ·subst hJ
     refine⟨_,aa ah (aa ae (aD (by show ¬ (((e+2:Nat):Int)<((e+2:Nat):Int));omega) rfl)),?_⟩
     have hjn:j+(e+2)<17:=by omega
     obtain⟨q1,q2⟩:=wI (U:=U) (j:=j) (k:=e+2) (Nat.le_refl _) hVn hD
     rw[<-Cp hVn hD] at q1 q2
     refine aa (aX (a:=j) (b:=e+2) (by omega)) (aa (ao hjn) (aa (aZ _ hjn) ?_))
     rw[ks]
     refine aa (dG U (j+(e+2))) (aa (qT _ _) (aa (qT _ _) (aa (aX (a:=j) (b:=e+2) (by omega)) (aa (fV _) (aa (ao hjn) ?_)))))
     rw[q2,<-hZ]
     refine aa (ku U Z j (e+2) 17 hjn) (aa uw ?_)
     rw[q1,sU (m:=e+2+1) (by rw[show j+(e+2+1)=j+(e+2)+1 by omega];exact hU) hZl,uQ hW hVD]
     have hmul:V*(U/2^(32*j)/V)<=U/2^(32*j):=Nat.mul_div_le _ _
     have hmul2:U/2^(32*j)<V*(U/2^(32*j)/V+1):=Nat.lt_mul_div_succ _ hV0
     rw[hqj] at hmul hmul2 hqD d2
     by_cases hDq:G=dg (N/V) j
     ·subst hDq
      rw[if_neg (by omega)]
      refine aa (z:=false) (by rfl) ?_
      rw[if_neg (by decide),hZ,right]
      rfl
     ·have hDq':G=dg (N/V) j+1:=by omega
      rw[if_pos (by rw[hDq'];exact hmul2)]
      refine aa (z:=true) (by rfl) ?_
      rw[if_pos rfl]
      refine aa (CC (b:=1) (by omega) (by omega)) ?_
      have hwr:=wrong (dS U Z j) (by rw[hZ,hDq'])
      have hU1:dS U Z j<2^(32*(j+(e+2+1))):=we hZl
      generalize dS U Z j=U1 at *
      obtain⟨Z2,hZ2⟩:∃ Z2,Z2=(U1/2^(32*j)+V)%2^(32*(e+2+1)):=⟨_,rfl⟩
      have hZ2l:Z2<2^(32*(e+2+1)):=by rw[hZ2];exact Nat.mod_lt _ (Nat.two_pow_pos _)
      have hstep:∀ i,i<e+2+1->bc Z2 i=((dY (U1/2^(32*j)) V i:Nat)+(bc U1 (j+i)+bc V i))%4294967296:=fun i hi=>by
       rw[hZ2,gV,if_pos hi,yx,iT]
      refine dn (fun i s'=>s'=[W (dY (U1/2^(32*j)) V i:Nat),I (i:Nat),LM (N/V/2^(32*(j+1))*2^(32*(j+1))),LM 0,LM V,cm 17 (rA U1 Z2 j i)]) (e+2) 0 (Nat.zero_le _) (by rw[n7,sV];rfl) (fun i hi s' hJ=>?_) (fun s' hJ=>?_)
      ·subst hJ
       left
       refine⟨_,?_,rfl⟩
       have hi16:i<16:=by omega
       have hji:j+i<17:=by omega
       have c1:=kf (U1/2^(32*j)) V i
       have a0:=bY U1 (j+i);have a1:=pJ U1 (j+i)
       have b0:=bY V i;have b1:=pJ V i
       have hcs:=nZ (U1/2^(32*j)) V i
       rw[iT] at hcs
       refine aa ah (aa ae (aH (by show(i:Int)<((e+2:Nat):Int);omega) ?_))
       refine aa (aX (a:=j) (b:=i) (by omega)) (aa (ao hji) (aa (aZ _ hji) ?_))
       rw[ks]
       refine aa (dG U1 (j+i)) (aa (dK hi16) (aa (aZ _ hi16) (aa (dG V i) (aa (qR (by omega) (by omega)) (aa (qR (by omega) (by omega)) (aa (aX (a:=j) (b:=i) (by omega)) (aa (fV _) (aa (ao hji) ?_))))))))
       rw[<-hstep i (by omega)]
       refine aa (ku U1 Z2 j i 17 hji) (aa (qS (by omega)) ?_)
       rw[<-hcs]
       exact aa (av (ar (i:=i) (by omega))) rfl
      ·subst hJ
       refine⟨_,aa ah (aa ae (aD (by show ¬ (((e+2:Nat):Int)<((e+2:Nat):Int));omega) rfl)),?_⟩
       have c1:=kf (U1/2^(32*j)) V (e+2)
       have hst:=hstep (e+2) (by omega)
       rw[eJ hVn (Nat.le_refl _),Int.add_zero] at hst
       refine aa (aX (a:=j) (b:=e+2) (by omega)) (aa (ao hjn) (aa (aZ _ hjn) ?_))
       rw[ks]
       refine aa (fV _) ?_
       have hadd:D.bin .add (.int .u32 (bc U1 (j+(e+2)))) (.int .u32 (((dY (U1/2^(32*j)) V (e+2):Nat):Int)%4294967296))=some (.int .u32 (bc Z2 (e+2))):=by
        simp only[D.bin,if_true]
        have hw:∀ x:Int,IntKind.u32.wrap x=x%4294967296:=fun x=>rfl
        rw[hw,hst];congr 2;omega
       refine aa hadd (aa (ao hjn) (aa (ku U1 Z2 j (e+2) 17 hjn) ?_))
       rw[sU (m:=e+2+1) hU1 hZ2l,hZ2,hwr]
       rw[show G-1=dg (N/V) j by omega]
   ·have hqq:=et (N/V) j
    refine aa (uv _) (aa (ao (show j<16 by omega)) ?_)
    rw[Nat.mod_eq_of_lt hqq]
    exact aa (yf (by omega)) (aa (cW (by simp only[inR];omega)) rfl)
 ·subst hJ
  refine⟨(0,[LM (N/V),cm 17 (bc (N%V))]),?_,?_⟩
  ·rw[show c+1-(c+1)=0 by omega,Al,Nat.mul_zero,Nat.pow_zero,Nat.div_one,Nat.mul_one]
   exact aa fe (aa ae (aD (by show ¬ ((c:Int)-((c+1:Nat):Int)) ≥ 0;omega) rfl))
  ·have hRt:N%V<dO:=Nat.lt_trans (Nat.mod_lt _ hV0) hVtop
   have hlo:D.st (List.take 16 (List.drop 0 ((List.range 17).map fun i=>D.int .u32 (bc (N%V) i))))=LM (N%V):=by
    rw[qP _ (by omega)]
    exact cU fun j _=>by rw[Nat.zero_add]
   show(if decide (0+16<=((List.range 17).map fun i=>D.int .u32 (bc (N%V) i)).length)=true then _ else none)=_
   rw[if_pos (by simp),hlo]
   refine aa (Oi (n+2) hRt hs31) ?_
   rw[hRN,Nat.mul_div_cancel _ hp]
   rfl
end Sy
end
noncomputable section
namespace Sy
open Go Go.Proofs Geo
theorem AA{m:Nat}(hm:m<18446744073709551616):D.st (D.putParts (List.replicate 16 (D.int .u32 0)) [(0,.int .u32 ((m:Int)%4294967296)),(1,.int .u32 ((m:Int)/4294967296%4294967296))])=LM m:=by
 have e:LM m=cm 16 (fun j=>if j=0 then(m:Int)%4294967296 else if j=1 then(m:Int)/4294967296%4294967296 else 0):=cU fun j hj=>by
  match j with
  | 0=>simp[bc]
  | 1=>simp[bc]
  | j+2=>
   rw[if_neg (by omega),if_neg (by omega)]
   exact eJ (n:=2) (by simpa using hm) (by omega)
 rw[e];rfl
theorem uB{X:Nat}(h:X<18446744073709551616):dg X 1*4294967296+dg X 0=X:=by
 unfold dg
 simp only[Nat.mul_zero,Nat.pow_zero,Nat.div_one,Nat.mul_one]
 have:(2:Nat)^32=4294967296:=rfl
 rw[this];omega
theorem fm(b:D)(c:D){X i:Nat}(h:i<16):D.get (.st [b,c,LM X]) [2,i]=some (.int .u32 (bc X i)):=aa (z:=LM X) rfl (aZ _ h)
theorem yo(n:Nat){m:Nat}(h:m<dO):cA (n+1) 116 [.bool false,LM m]=some (ai (m:Int)):=by
 rw[to n false h]
 have:sgn false m=(m:Int):=if_neg (by decide)
 rw[this]
theorem Oa(n:Nat){x:Int}(hx:In x):cA (n+3) 171 [ai x]=some (ai (x.natAbs:Nat)):=by
 rw[PQ]
 unfold DA
 have h118:cA (n+2) 118 [.sl [ai x]]=some (.bool true):=kX n (a:=some x) (bZ hx)
 refine aa h118 (aa bN (aa (z:=false) rfl ?_))
 rw[if_neg (by decide)]
 have hg:D.get (ai x) [2]=some (LM x.natAbs):=by rw[cc];rfl
 exact aa hg (aa (yo (n+1) (a8.1 hx)) rfl)
theorem Az:18446744073709551616<=dO:=by
 have h:=lv (a:=2) (b:=16) (by decide)
 rw[s8] at h
 rw[fE];exact h
theorem xu{X:Nat}(hX:X<dO):ct X<=2↔X<18446744073709551616:=by
 have h1:=dC hX
 constructor
 ·intro h
  exact Nat.lt_of_lt_of_le h1 (Nat.le_trans (Nat.pow_le_pow_right (by decide) (show 32*ct X<=64 by omega)) (by decide))
 ·intro h
  rcases Nat.lt_or_ge 2 (ct X) with k|k
  ·have:=lm (X:=X) (by omega)
   have h2:2^64<=2^(32*(ct X-1)):=Nat.pow_le_pow_right (by decide) (by omega)
   omega
  ·exact k
theorem db{m:Nat}:In (m:Int)↔m<dO:=by rw[a8,Int.natAbs_natCast]
theorem pW(n:Nat){x y:Int}(hx:In x)(hy:In y)(ih:y≠0->cA (n+4) 131 [ai (y.natAbs:Nat),ai ((x.natAbs%y.natAbs:Nat):Int)]=some (ai (Nat.gcd y.natAbs (x.natAbs%y.natAbs):Nat))) :
  cA (n+5) 131 [ai x,ai y]=some (ai (Nat.gcd x.natAbs y.natAbs:Nat)):=by
 rw[Pu]
 unfold De
 have h118:=tq (n+2) (bZ hx) (bZ hy)
 refine aa h118 (aa bN (aa ae ?_))
 rw[if_neg (by simp)]
 have hxt:=a8.1 hx
 have hyt:=a8.1 hy
 rw[cc x,cc y]
 have hxy:y=0↔y.natAbs=0:=by omega
 rw[Ne,hxy] at ih
 generalize hX:x.natAbs=X at *
 generalize hY:y.natAbs=Y at *
 refine aa (z:=LM X) rfl (aa (wW (n+3) hxt) (aa pm (aa ae ?_)))
 refine aa (z:=decide (X<18446744073709551616)&&decide (Y<18446744073709551616)) ?_ (aa ae ?_)
 ·by_cases h:X<18446744073709551616
  ·refine aH (by have:=(xu hxt).2 h;omega) ?_
   refine aa (z:=LM Y) rfl (aa (wW (n+3) hyt) (aa pm ?_))
   rw[decide_eq_true h,Bool.true_and,ae]
   congr 1;rw[decide_eq_decide,<-xu hyt];omega
  ·refine aD (by intro k;exact h ((xu hxt).1 (by omega))) ?_
   rw[decide_eq_false h,Bool.false_and]
 by_cases hs:X<18446744073709551616/\Y<18446744073709551616
 ·rw[decide_eq_true hs.1,decide_eq_true hs.2,Bool.and_self,if_pos rfl]
  have dx1:=et X 1;have dx0:=et X 0;have dy1:=et Y 1;have dy0:=et Y 0
  refine aa (fm _ _ (by decide)) (aa (kG X 1) (aa (oJ (m:=32) rfl (by decide) (by omega)) (aa (fm _ _ (by decide)) (aa (kG X 0) (aa (gK (m:=32) dx0 (by omega)) ?_)))))
  refine aa (fm _ _ (by decide)) (aa (kG Y 1) (aa (oJ (m:=32) rfl (by decide) (by omega)) (aa (fm _ _ (by decide)) (aa (kG Y 0) (aa (gK (m:=32) dy0 (by omega)) ?_)))))
  have ex:dg X 1*2^32+dg X 0=X:=uB hs.1
  have ey:dg Y 1*2^32+dg Y 0=Y:=uB hs.2
  rw[ex,ey]
  refine o8 (fun m s=>∃ a,s=[W (a:Nat),W (m:Nat)]/\a<18446744073709551616/\m<18446744073709551616/\Nat.gcd a m=Nat.gcd X Y) Y _ ⟨X,rfl,hs.1,hs.2,rfl⟩ (fun m s hJ=>?_)
  obtain⟨a,rfl,ha,hm,hg⟩:=hJ
  have hbq:D.beq (W (m:Nat)) (.int .u64 0)=decide (m=0):=by
   simp only[D.beq,decide_true,Bool.true_and];rw[decide_eq_decide];omega
  by_cases h0:m=0
  ·right
   subst h0
   refine⟨(0,[W (a:Nat)]),?_,?_⟩
   ·refine aa (z:=false) (by show D.truth (.bool (!(D.beq (W ((0:Nat):Int)) (.int .u64 0))))=_;rw[hbq];rfl) ?_
    rw[if_neg (by decide)];rfl
   ·rw[Nat.gcd_zero_right] at hg
    refine aa (fV _) (aa (qS (by show(0:Int)<=(a:Nat);omega)) (aa (fV _) ?_))
    have e:=AA ha
    refine aa (z:=ai (a:Int)) ?_ (by rw[<-hg])
    show cA (n+4) 116 [.bool false,D.st (D.putParts (List.replicate 16 (D.int .u32 0)) [(0,.int .u32 ((a:Int)%4294967296)),(1,.int .u32 ((a:Int)/4294967296%4294967296))])]=_
    rw[e]
    exact yo (n+3) (Nat.lt_of_lt_of_le ha Az)
  ·left
   refine⟨a%m,[W (m:Nat),W ((a%m:Nat):Int)],Nat.mod_lt _ (by omega),?_,m,rfl,hm,Nat.lt_trans (Nat.mod_lt _ (by omega)) hm,by rw[<-hg,Nat.gcd_comm a m,Nat.gcd_rec m a,Nat.gcd_comm]⟩
   refine aa (z:=true) (by show D.truth (.bool (!(D.beq (W (m:Nat)) (.int .u64 0))))=_;rw[hbq,decide_eq_false h0];rfl) ?_
   rw[if_pos rfl]
   exact aa (CB h0) rfl
 ·have:(decide (X<18446744073709551616)&&decide (Y<18446744073709551616))=false:=by
   rw[Bool.and_eq_false_iff,decide_eq_false_iff_not,decide_eq_false_iff_not];omega
  rw[this,if_neg (by decide)]
  refine aa (z:=LM X) rfl (aa (z:=LM Y) rfl ?_)
  rw[gR,kT hyt eS]
  by_cases h0:Y=0
  ·rw[decide_eq_true h0]
   refine aa (z:=false) rfl ?_
   rw[if_neg (by decide),h0,Nat.gcd_zero_right]
   have:=Oa (n+1) hx
   rw[cc x,hX] at this
   exact aa this rfl
  ·rw[decide_eq_false h0]
   refine aa (z:=true) rfl ?_
   rw[if_pos rfl]
   have hr:X%Y<Y:=Nat.mod_lt _ (by omega)
   refine aa (Iu n hxt hyt (by omega)) (aa (z:=LM (X/Y)) rfl (aa (z:=LM (X%Y)) rfl (aa (yo (n+3) hyt) (aa (yo (n+3) (Nat.lt_trans hr hyt)) (aa (ih h0) ?_)))))
   rw[Nat.gcd_comm X Y,Nat.gcd_rec Y X,Nat.gcd_comm (X%Y) Y]
theorem vq:∀ (d n:Nat) {x y:Int},In x->In y->y.natAbs<2^d->cA (n+2*d+5) 131 [ai x,ai y]=some (ai (Nat.gcd x.natAbs y.natAbs:Nat))
 | 0,n,x,y,hx,hy,h=>pW n hx hy fun h0=>absurd (by omega) h0
 | d+1,n,x,y,hx,hy,h=>by
  rw[show n+2*(d+1)+5=n+2*d+2+5 by omega]
  refine pW _ hx hy fun h0=>?_
  have hyt:=a8.1 hy
  have hr:x.natAbs%y.natAbs<y.natAbs:=Nat.mod_lt _ (by omega)
  have e1:=pW (n+2*d+1) (x:=(y.natAbs:Nat)) (y:=((x.natAbs%y.natAbs:Nat):Int)) (db.2 hyt) (db.2 (Nat.lt_trans hr hyt)) (fun h1=>by
   simp only[Int.natAbs_natCast]
   have h2:y.natAbs%(x.natAbs%y.natAbs)<x.natAbs%y.natAbs:=Nat.mod_lt _ (by omega)
   have h3:y.natAbs%(x.natAbs%y.natAbs)<2^d:=by
    generalize x.natAbs%y.natAbs=r at *
    rw[Nat.pow_succ] at h
    rcases Nat.lt_or_ge r (2^d) with k|k
    ·omega
    ·have:y.natAbs%r=y.natAbs-r:=by
      rw[Nat.mod_eq_sub_mod (by omega),Nat.mod_eq_of_lt (by omega)]
     omega
   have:=vq d n (x:=((x.natAbs%y.natAbs:Nat):Int)) (y:=((y.natAbs%(x.natAbs%y.natAbs):Nat):Int)) (db.2 (Nat.lt_trans hr hyt)) (db.2 (Nat.lt_trans (Nat.lt_trans h2 hr) hyt)) (by rw[Int.natAbs_natCast];exact h3)
   simp only[Int.natAbs_natCast] at this
   exact this)
  simp only[Int.natAbs_natCast] at e1
  exact e1
theorem qi{m k:Nat}(h:k=32*16):m<dO↔m<2^k:=by
 have e:kN 16=2^k:=by rw[cT,h]
 rw[fE,e]
theorem IQ(k n:Nat)(hk:k=32*16){x y:Int}(hx:In x)(hy:In y):cA (n+2*k+5) 131 [ai x,ai y]=some (ai (Nat.gcd x.natAbs y.natAbs:Nat)):=
 vq k n hx hy ((qi hk).1 (a8.1 hy))
theorem GG(n:Nat){x y:Int}(hx:In x)(hy:In y):cA (n+1029) 131 [ai x,ai y]=some (ai (Nat.gcd x.natAbs y.natAbs:Nat)):=
 IQ 512 n rfl hx hy
theorem Oj(n:Nat){x:Int}(hx:In x):cA (n+3) 217 [ai x]=some (I (im x.natAbs:Nat)):=by
 rw[P6]
 unfold DO
 have h118:=kX n (bZ hx)
 have hxt:=a8.1 hx
 rw[show dP (some x)=_ from cc x] at h118
 rw[cc x]
 have h16:=iC x.natAbs
 have hh:=dC hxt
 refine aa (z:=LM x.natAbs) rfl (aa (wW (n+1) hxt) (aa h118 (aa bN (aa (z:=false) rfl (aa (z:=decide (ct x.natAbs=0)) (by rw[if_neg (by decide)];show D.truth (.bool (D.beq (I (ct x.natAbs:Nat)) (I ((0:Nat):Int))))=_;rw[bP];rfl) (aa ae ?_))))))
 by_cases h0:ct x.natAbs=0
 ·refine aH h0 ?_
  rw[h0] at hh
  have:x.natAbs=0:=by simpa using hh
  rw[this];rfl
 ·refine aD h0 ?_
  have hl:=lm h0
  generalize ct x.natAbs=p at *
  generalize x.natAbs=X at *
  have hd:X/2^(32*(p-1))=dg X (p-1):=iq (by rw[show p-1+1=p by omega];exact hh)
  have hdl:=et X (p-1)
  have hbl:im (dg X (p-1))<=32:=by
   by_cases hz:dg X (p-1)=0
   ·rw[hz];decide
   ·obtain⟨L,k1,k2,_⟩:=gc hz
    rcases Nat.lt_or_ge L 32 with h|h
    ·omega
    ·have:=Nat.pow_le_pow_right (show 0<2 by decide) h
     omega
  have hb:=pq (x:=X) (m:=32*(p-1)) hl
  rw[hd] at hb
  refine aa (ik (b:=1) rfl (by omega) (by omega)) (aa (pn (a:=32) (by omega)) (aa (ik (b:=1) rfl (by omega) (by omega)) (aa (dK (by omega)) (aa (fm _ _ (by omega)) (aa (Ir (x:=dg X (p-1)) (n+1) hdl) (aa (aX (a:=32*(p-1)) (b:=im (dg X (p-1))) (by omega)) ?_))))))
  rw[hb]
theorem Ez(X:Nat):64<im X↔18446744073709551616<=X:=by
 by_cases h0:X=0
 ·subst h0;simp[im]
 ·obtain⟨L,h1,h2,h3⟩:=gc h0
  rw[h1]
  constructor
  ·intro h
   have:=Nat.pow_le_pow_right (show 0<2 by decide) (show 64<=L by omega)
   omega
  ·intro h
   rcases Nat.lt_or_ge 64 (L+1) with k|k
   ·exact k
   ·have:=Nat.pow_le_pow_right (show 0<2 by decide) k
    omega
theorem EI(n:Nat){x:Int}(hx:In x):(inR x/\cA (n+4) 202 [ai x]=some (.tup [I x,.bool true]))\/(¬ inR x/\cA (n+4) 202 [ai x]=some (.tup [I 0,.bool false])):=by
 rw[P4]
 unfold zg
 have h118:=kX (n+1) (bZ hx)
 have h217:=Oj n hx
 have hxt:=a8.1 hx
 have first:∀ {y:D} {g:Bool->Option D},g (decide (18446744073709551616<=x.natAbs))=some y->(Option.bind (cA (n+3) 118 [.sl [ai x]]) fun r1=>Option.bind (D.un .not r1) fun x2=>Option.bind (D.truth x2) fun b3=>Option.bind (if b3 then(some true) else(Option.bind (cA (n+3) 217 [ai x]) fun r4=>Option.bind (D.bin .gtr r4 (D.int .i64 64)) fun x5=>D.truth x5)) fun b6=>Option.bind (D.truth (D.bool b6)) g)=some y:=fun{y g} hg=>by
  refine aa h118 (aa bN (aa (z:=false) rfl (aa (z:=decide (18446744073709551616<=x.natAbs)) ?_ (aa ae hg))))
  rw[if_neg (by decide)]
  refine aa h217 (aa bS ?_)
  rw[ae]
  congr 1;rw[decide_eq_decide,<-Ez];omega
 by_cases hbig:18446744073709551616<=x.natAbs
 ·right
  refine⟨by simp only[inR];omega,first ?_⟩
  rw[decide_eq_true hbig,if_pos rfl]
 ·have hX:x.natAbs<18446744073709551616:=by omega
  have w1:∀ z:Int,IntKind.u64.wrap z=z%18446744073709551616:=fun z=>rfl
  have hleq:∀ (a b:Nat) {c:D},c=.int .u64 (b:Nat)->D.bin .leq (W (a:Nat)) c=some (.bool (decide (a<=b))):=fun a b c hc=>by
   subst hc;simp only[D.bin,if_true];congr 2;rw[decide_eq_decide];omega
  have dx1:=et x.natAbs 1;have dx0:=et x.natAbs 0
  have ex:dg x.natAbs 1*2^32+dg x.natAbs 0=x.natAbs:=uB hX
  have cv:∀ z:Int,inR z->∀ a:Int,(a-z)%18446744073709551616=0->D.conv .i64 (W a)=some (I z):=fun z hz a h=>by
   obtain⟨h1,h2⟩:=hz
   simp only[D.conv]
   have hw:IntKind.i64.wrap a=(if(true&&decide (a%18446744073709551616 ≥ 9223372036854775808))=true then a%18446744073709551616-18446744073709551616 else a%18446744073709551616):=rfl
   rw[hw]
   congr 2
   simp only[Bool.true_and,decide_eq_true_eq]
   split<;>omega
  have go:∀ y:D,(if x<0 then(if x.natAbs<=9223372036854775808 then y=.tup [I x,.bool true] else y=.tup [I 0,.bool false]) else(if x.natAbs<9223372036854775808 then y=.tup [I x,.bool true] else y=.tup [I 0,.bool false]))->zg aP (cA (n+3)) (ai x)=some y:=fun y hy=>by
   unfold zg
   refine first ?_
   rw[decide_eq_false hbig,if_neg (by decide),cc x]
   refine aa (fm _ _ (by decide)) (aa (kG x.natAbs 1) (aa (oJ (m:=32) rfl (by decide) (by omega)) (aa (fm _ _ (by decide)) (aa (kG x.natAbs 0) (aa (gK (m:=32) dx0 (by omega)) ?_)))))
   rw[ex]
   refine aa (z:=.bool (decide (x<0))) rfl (aa ae ?_)
   refine aa (z:=decide (x<0)&&decide (x.natAbs<=9223372036854775808)) ?_ (aa ae ?_)
   ·by_cases h:x<0
    ·refine aH h (aa (hleq _ 9223372036854775808 rfl) ?_)
     rw[ae,decide_eq_true h,Bool.true_and]
    ·refine aD h ?_
     rw[decide_eq_false h,Bool.false_and]
   by_cases h:x<0
   ·rw[if_pos h] at hy
    rw[decide_eq_true h,Bool.true_and]
    by_cases h2:x.natAbs<=9223372036854775808
    ·rw[if_pos h2] at hy
     refine aH h2 ?_
     have hn:D.un .neg (W (x.natAbs:Nat))=some (W (IntKind.u64.wrap (0-(x.natAbs:Nat)))):=by simp only[D.un]
     refine aa hn (aa (cv x (by simp only[inR];omega) _ (by rw[w1];omega)) ?_)
     rw[hy]
    ·rw[if_neg h2] at hy
     refine aD h2 (aa (z:=.bool true) (by rfl) (aa (z:=.bool false) rfl (aa (z:=false) rfl (aa (z:=false) rfl (aa (z:=false) rfl ?_)))))
     rw[if_neg (by decide),hy]
   ·rw[if_neg h] at hy
    rw[decide_eq_false h,Bool.false_and,if_neg (by decide)]
    refine aa (z:=.bool false) (by rfl) (aa (z:=.bool true) rfl (aa (z:=true) rfl (aa (z:=decide (x.natAbs<9223372036854775808)) ?_ (aa ae ?_))))
    ·rw[if_pos rfl];exact aa (Gh (b:=9223372036854775808) rfl) ae
    by_cases h2:x.natAbs<9223372036854775808
    ·rw[if_pos h2] at hy
     refine aH h2 (aa (cv x (by simp only[inR];omega) _ (by omega)) ?_)
     rw[hy]
    ·rw[if_neg h2] at hy
     refine aD h2 ?_
     rw[hy]
  by_cases hr:inR x
  ·left
   refine⟨hr,go _ ?_⟩
   simp only[inR] at hr
   split
   ·rw[if_pos (by omega)]
   ·rw[if_pos (by omega)]
  ·right
   refine⟨hr,go _ ?_⟩
   simp only[inR] at hr
   split
   ·rw[if_neg (by omega)]
   ·rw[if_neg (by omega)]
end Sy
end
noncomputable section
namespace Sy
open Go Go.Proofs Geo
theorem y6{x y q:Int}(hy:y≠0)(h:x=y*q):sgn (!(decide (decide (x<0)=decide (y<0)))) (x.natAbs/y.natAbs)=q:=by
 have e:x.natAbs/y.natAbs=q.natAbs:=by
  rw[h,Int.natAbs_mul,Nat.mul_div_cancel_left _ (by omega)]
 rw[e]
 have key:q=0\/(q<0/\(x<0↔¬ y<0))\/(0<q/\(x<0↔y<0)):=by
  rcases Int.lt_trichotomy q 0 with hq|hq|hq
  ·right;left
   refine⟨hq,?_⟩
   rcases Int.lt_or_gt_of_ne hy with k|k
   ·have:=Int.mul_pos_of_neg_of_neg k hq;omega
   ·have:=Int.mul_neg_of_pos_of_neg k hq;omega
  ·exact .inl hq
  ·right;right
   refine⟨hq,?_⟩
   rcases Int.lt_or_gt_of_ne hy with k|k
   ·have:=Int.mul_neg_of_neg_of_pos k hq;omega
   ·have:=Int.mul_pos k hq;omega
 unfold sgn
 by_cases hx:x<0<;>by_cases hyy:y<0<;>simp[hx,hyy]<;>omega
theorem bD(x:Int):D.get (ai x) [1]=some (.bool (decide (x<0))):=rfl
theorem kl(x:Int):D.get (ai x) [2]=some (LM x.natAbs):=by rw[cc];rfl
theorem Cg{x:Int}(h:x≠0):sg x≠0:=by unfold sg;split<;>(try split)<;>omega
theorem AT{x y:Int}(hx:In x)(h:y ∣ x):In (x/y):=by
 obtain⟨q,rfl⟩:=h
 rw[a8] at *
 by_cases hy:y=0
 ·subst hy;simp;exact eS
 ·rw[Int.mul_ediv_cancel_left _ hy]
  rw[Int.natAbs_mul] at hx
  exact Nat.lt_of_le_of_lt (Nat.le_mul_of_pos_left _ (by omega)) hx
theorem Iv(n:Nat){x y:Int}(hx:In x)(hy:In y)(hy0:y≠0)(hd:y ∣ x):cA (n+5) 172 [ai x,ai y]=some (.tup [ai (x/y),ai 0]):=by
 have hin:=AT hx hd
 obtain⟨q,hq⟩:=hd
 have exy:x/y=q:=by rw[hq];exact Int.mul_ediv_cancel_left _ hy0
 rw[exy] at hin ⊢
 rw[PR]
 unfold DB
 have h118:cA (n+4) 118 [.sl [ai x,ai y]]=some (.bool true):=tq (n+2) (a:=some x) (b:=some y) (bZ hx) (bZ hy)
 have hbe:∀ a b:Int,D.beq (I a) (.int .i64 b)=decide (a=b):=fun a b=>bk
 refine aa h118 (aa bN (aa (z:=false) rfl (aa (z:=false) ?_ (aa (z:=false) rfl ?_))))
 ·rw[if_neg (by decide)]
  refine aa (A6 (n+1) hy) ?_
  rw[hbe,decide_eq_false (Cg hy0)];rfl
 rw[if_neg (by decide)]
 by_cases fast:(inR x/\x≠-9223372036854775808)/\inR y/\y≠-9223372036854775808
 ·obtain⟨⟨fx,fx1⟩,fy,fy1⟩:=fast
  have hx202:cA (n+4) 202 [ai x]=some (.tup [I x,.bool true]):=by
   rcases EI n hx with⟨_,h⟩|⟨h,_⟩
   ·exact h
   ·exact absurd fx h
  have hy202:cA (n+4) 202 [ai y]=some (.tup [I y,.bool true]):=by
   rcases EI n hy with⟨_,h⟩|⟨h,_⟩
   ·exact h
   ·exact absurd fy h
  have hqa:q.natAbs<=x.natAbs:=by rw[hq,Int.natAbs_mul];exact Nat.le_mul_of_pos_left _ (by omega)
  have hqr:inR q:=by simp only[inR] at *;omega
  have e1:x.tdiv y=q:=by rw[hq];exact Int.mul_tdiv_cancel_left _ hy0
  have e2:x.tmod y=0:=by rw[hq];exact Int.mul_tmod_right ..
  refine aa (z:=(0,[ai q,ai 0])) ?_ rfl
  refine aa hx202 (aa (z:=I x) rfl (aa (z:=.bool true) rfl (aa (z:=true) rfl (aa (z:=true) ?_ (aa (z:=true) rfl ?_)))))
  ·rw[if_pos rfl,hbe,decide_eq_false fx1];rfl
  rw[if_pos rfl]
  refine aa hy202 (aa (z:=I y) rfl (aa (z:=.bool true) rfl (aa (z:=true) rfl (aa (z:=true) ?_ (aa (z:=true) rfl ?_)))))
  ·rw[if_pos rfl,hbe,decide_eq_false fy1];rfl
  rw[if_pos rfl]
  refine aa (rD hy0 (by rw[e1];exact hqr)) (aa (po hy0) ?_)
  rw[e1,e2]
  refine aa (z:=(0,[I q,I 0])) (aa (z:=false) rfl (aa (z:=false) rfl (aa (z:=false) rfl rfl))) ?_
  exact aa (JY (n+2) hqr) (aa (JY (n+2) (show inR 0 from⟨by decide,by decide⟩)) rfl)
 ·refine aa (z:=(1,[.st [.bool false,.bool false,aF aW],.st [.bool false,.bool false,aF aW]])) ?_ ?_
  ·rcases EI n hx with⟨fx,h⟩|⟨fx,h⟩
   ·by_cases fx1:x=-9223372036854775808
    ·refine aa h (aa (z:=I x) rfl (aa (z:=.bool true) rfl (aa (z:=true) rfl (aa (z:=false) ?_ (aa (z:=false) rfl rfl)))))
     rw[if_pos rfl,hbe,decide_eq_true fx1];rfl
    ·refine aa h (aa (z:=I x) rfl (aa (z:=.bool true) rfl (aa (z:=true) rfl (aa (z:=true) ?_ (aa (z:=true) rfl ?_)))))
     ·rw[if_pos rfl,hbe,decide_eq_false fx1];rfl
     rw[if_pos rfl]
     rcases EI n hy with⟨fy,h2⟩|⟨fy,h2⟩
     ·have fy1:y=-9223372036854775808:=Classical.byContradiction fun k=>fast ⟨⟨fx,fx1⟩,fy,k⟩
      refine aa h2 (aa (z:=I y) rfl (aa (z:=.bool true) rfl (aa (z:=true) rfl (aa (z:=false) ?_ (aa (z:=false) rfl rfl)))))
      rw[if_pos rfl,hbe,decide_eq_true fy1];rfl
     ·exact aa h2 (aa (z:=I 0) rfl (aa (z:=.bool false) rfl (aa (z:=false) rfl (aa (z:=false) rfl (aa (z:=false) rfl rfl)))))
   ·exact aa h (aa (z:=I 0) rfl (aa (z:=.bool false) rfl (aa (z:=false) rfl (aa (z:=false) rfl (aa (z:=false) rfl rfl)))))
  rw[if_neg (by decide)]
  have hxt:=a8.1 hx
  have hyt:=a8.1 hy
  have hmod:x.natAbs%y.natAbs=0:=by rw[hq,Int.natAbs_mul];exact Nat.mul_mod_right _ _
  have hqt:x.natAbs/y.natAbs<dO:=Nat.lt_of_le_of_lt (Nat.div_le_self _ _) hxt
  have h170:=Iu n hxt hyt (by omega)
  rw[hmod] at h170
  refine aa (kl x) (aa (kl y) (aa h170 (aa (z:=LM (x.natAbs/y.natAbs)) rfl (aa (z:=LM 0) rfl (aa (bD x) (aa (bD y) ?_))))))
  have hb:(!(D.beq (.bool (decide (x<0))) (.bool (decide (y<0)))))=!(decide (decide (x<0)=decide (y<0))):=by
   by_cases h1:x<0<;>by_cases h2:y<0<;>simp[h1,h2,D.beq]
  rw[hb,gR,kT eS eS,decide_eq_true rfl]
  refine aa (to (n+3) _ hqt) ?_
  rw[y6 hy0 hq]
  refine aa (z:=(0,[LM 0,ai q])) (aa (z:=false) rfl (aa (z:=false) rfl (aa (z:=false) rfl rfl))) ?_
  refine aa (bD y) (aa (to (n+3) _ eS) ?_)
  have:sgn (decide (y<0)) 0=0:=by unfold sgn;split<;>rfl
  rw[this];rfl
theorem A8(n:Nat){x y:Int}(hx:In x)(hy:In y)(hy0:y≠0)(hd:y ∣ x):cA (n+6) 132 [ai x,ai y]=some (ai (x/y)):=by
 rw[Pv]
 unfold Df
 exact aa (Iv n hx hy hy0 hd) (aa (z:=ai (x/y)) rfl (aa (z:=ai 0) rfl rfl))
def bU(q:Rat):D:=.st [ai q.num,ai (q.den:Int)]
def uJ(q:Rat):Prop:=In q.num/\In (q.den:Int)
theorem EE(n:Nat){x:Int}(hx:In x):cA (n+2) 128 [ai x]=some (.bool true):=by
 rw[Ps]
 unfold Dc
 have h:cA (n+1) 167 [ai x]=some (.bool true):=Is n (a:=some x) (bZ hx)
 refine aa (z:=.bool false) rfl (aa (z:=.bool true) rfl (aa (z:=true) rfl (aa (z:=true) ?_ rfl)))
 rw[if_pos rfl]
 exact aa h rfl
theorem Fe(n:Nat){x:Int}(hx:In x):cA (n+3) 68 [ai x]=some (ai (-x)):=QR n (a:=some x) (bZ hx)
theorem eK(x:Int){d:Int}(hd:d≠0):(Rat.divInt x d).num=x/(if d<0 then -(Nat.gcd x.natAbs d.natAbs:Int) else(Nat.gcd x.natAbs d.natAbs:Int))/\((Rat.divInt x d).den:Int)=d/(if d<0 then -(Nat.gcd x.natAbs d.natAbs:Int) else(Nat.gcd x.natAbs d.natAbs:Int)):=by
 have hg:d.gcd x=Nat.gcd x.natAbs d.natAbs:=by unfold Int.gcd;exact Nat.gcd_comm ..
 have hgp:0<Nat.gcd x.natAbs d.natAbs:=Nat.gcd_pos_of_pos_right _ (by omega)
 have dx:((Nat.gcd x.natAbs d.natAbs:Nat):Int) ∣ x:=Int.ofNat_dvd_left.2 (Nat.gcd_dvd_left _ _)
 have dd:((Nat.gcd x.natAbs d.natAbs:Nat):Int) ∣ d:=Int.ofNat_dvd_left.2 (Nat.gcd_dvd_right _ _)
 rw[Rat.num_divInt,Rat.den_divInt,if_neg hd,hg]
 generalize Nat.gcd x.natAbs d.natAbs=g at *
 by_cases h:d<0
 ·rw[if_pos h,Int.sign_eq_neg_one_of_neg h]
  refine⟨?_,?_⟩
  ·rw[Int.ediv_neg,show -1*x=-x by omega,Int.neg_ediv_of_dvd dx]
  ·rw[Int.ediv_neg,Int.natCast_ediv,<-Int.neg_ediv_of_dvd dd]
   congr 1;omega
 ·rw[if_neg h,Int.sign_eq_one_of_pos (by omega),Int.one_mul]
  refine⟨rfl,?_⟩
  rw[Int.natCast_ediv]
  congr 1;omega
theorem J0(n:Nat){x d:Int}(hx:In x)(hd:In d)(hd0:d≠0):cA (n+1030) 62 [ai x,ai d]=some (bU (Rat.divInt x d)):=by
 rw[TC]
 unfold JD
 have hbe:∀ a b:Int,D.beq (I a) (.int .i64 b)=decide (a=b):=fun a b=>bk
 have hgp:0<Nat.gcd x.natAbs d.natAbs:=Nat.gcd_pos_of_pos_right _ (by omega)
 have dx:((Nat.gcd x.natAbs d.natAbs:Nat):Int) ∣ x:=Int.ofNat_dvd_left.2 (Nat.gcd_dvd_left _ _)
 have dd:((Nat.gcd x.natAbs d.natAbs:Nat):Int) ∣ d:=Int.ofNat_dvd_left.2 (Nat.gcd_dvd_right _ _)
 have hgle:Nat.gcd x.natAbs d.natAbs<=d.natAbs:=Nat.gcd_le_right _ (by omega)
 have hgin:In (Nat.gcd x.natAbs d.natAbs:Nat):=db.2 (Nat.lt_of_le_of_lt hgle (a8.1 hd))
 obtain⟨p1,p2⟩:=eK x hd0
 unfold bU
 rw[p1,p2]
 refine aa (EE (n+1027) hx) (aa (z:=.bool false) rfl (aa (z:=false) rfl (aa (z:=false) ?_ (aa (z:=false) rfl (aa (z:=false) ?_ (aa (z:=false) rfl ?_))))))
 ·rw[if_neg (by decide)];exact aa (EE (n+1027) hd) rfl
 ·rw[if_neg (by decide)]
  refine aa (A6 (n+1026) hd) ?_
  rw[hbe,decide_eq_false (Cg hd0)];rfl
 rw[if_neg (by decide)]
 refine aa (GG n hx hd) ?_
 generalize Nat.gcd x.natAbs d.natAbs=g at *
 refine aa (z:=(0,[ai (if d<0 then -(g:Int) else(g:Int))])) ?_ ?_
 ·refine aa (A6 (n+1026) hd) (aa ah (aa ae ?_))
  by_cases h:d<0
  ·rw[if_pos h]
   refine aH (by rw[uj h];decide) ?_
   exact aa (Fe (n+1026) hgin) rfl
  ·rw[if_neg h]
   exact aD (by rw[jh (by omega)];decide) rfl
 ·have hin2:In (if d<0 then -(g:Int) else(g:Int)):=by
   split
   ·rw[a8,Int.natAbs_neg];exact a8.1 hgin
   ·exact hgin
  have hne:(if d<0 then -(g:Int) else(g:Int))≠0:=by split<;>omega
  have ddx:(if d<0 then -(g:Int) else(g:Int)) ∣ x:=by split<;>first|exact Int.neg_dvd.2 dx|exact dx
  have ddd:(if d<0 then -(g:Int) else(g:Int)) ∣ d:=by split<;>first|exact Int.neg_dvd.2 dd|exact dd
  exact aa (A8 (n+1023) hx hin2 hne ddx) (aa (A8 (n+1023) hd hin2 hne ddd) rfl)
end Sy
end
noncomputable section
namespace Sy
open Go Go.Proofs Geo
theorem Hi(x:Int):D.get (ai x) [2,1]=some (U (dJ (ay x.natAbs) 1)):=cB (i:=1) (by decide)
theorem A5(n:Nat){x:Int}(hx:In x)(h:¬ Wd x):cA (n+3) 124 [ai x]=some (.tup [I 0,.bool false]):=by
 have hW:4611686018427387904<=x.natAbs:=by unfold Wd at h;omega
 rw[Jb]
 unfold AQ
 have l1:=BD x.natAbs
 refine aa (oV n hx) (aa bN (aa (z:=false) rfl (aa (z:=decide (1073741824<=x.natAbs/4294967296%4294967296)) ?_ (aa ae ?_))))
 ·rw[if_neg (by decide)]
  refine aa (Hi x) ?_
  rw[l1]
  have:D.bin .geq (U (x.natAbs/4294967296%4294967296)) (.int .u32 1073741824)=some (.bool (decide (1073741824<=x.natAbs/4294967296%4294967296))):=by
   simp only[D.bin,if_true];congr 2;rw[decide_eq_decide];omega
  exact aa this rfl
 by_cases h1:1073741824<=x.natAbs/4294967296%4294967296
 ·exact aH h1 rfl
 ·refine aD h1 ?_
  have hbig:18446744073709551616<=x.natAbs:=by omega
  refine ba (fun i s=>s=[I (i:Int)]/\2<=i/\∀ k,2<=k->k<i->dJ (ay x.natAbs) k=0) 16 2 (by decide) ⟨rfl,by decide,fun k h1 h2=>by omega⟩ (fun i hi s hJ=>?_) (fun s hJ=>?_)
  ·obtain⟨rfl,h2,hz⟩:=hJ
   have hb:D.bin .lss (I (i:Int)) (D.int .i64 16)=some (.bool true):=by rw[ah,decide_eq_true (by omega)]
   by_cases h0:dJ (ay x.natAbs) i=0
   ·left
    refine⟨[I ((i+1:Nat):Int)],?_,rfl,by omega,fun k k1 k2=>?_⟩
    ·refine aa hb (aa (z:=true) rfl ?_)
     rw[if_pos rfl]
     refine aa (ao hi) (aa (cB hi) ?_)
     rw[h0]
     refine aa (z:=false) rfl ?_
     rw[if_neg (by decide)]
     exact aa (av (ar (i:=i) (by omega))) rfl
    ·by_cases e:k=i
     ·subst e;exact h0
     ·exact hz k k1 (by omega)
   ·right
    refine⟨(0,[I 0,.bool false]),?_,rfl⟩
    refine aa hb (aa (z:=true) rfl ?_)
    rw[if_pos rfl]
    refine aa (ao hi) (aa (cB hi) (aa (z:=true) ?_ ?_))
    ·show D.truth (.bool (!(D.beq (U (dJ (ay x.natAbs) i)) (U 0))))=_
     rw[FS,decide_eq_false h0];rfl
    ·rw[if_pos rfl]
  ·exfalso
   obtain⟨_,_,hz⟩:=hJ
   have h3:x.natAbs/18446744073709551616=0:=by
    have hlt:x.natAbs/18446744073709551616<65536^32:=Nat.lt_of_le_of_lt (Nat.div_le_self _ _) hx
    refine qf hlt fun i hi=>?_
    rw[gf,Nat.div_div_eq_div_mul,show(18446744073709551616:Nat)=4294967296^2 from rfl,<-Nat.pow_add]
    by_cases k:i+2<16
    ·have:=hz (i+2) (by omega) k
     rw[gf] at this
     rw[Nat.add_comm 2 i];exact this
    ·have e16:(65536:Nat)^32=4294967296^16:=by rw[show(4294967296:Nat)=65536^2 from rfl,<-Nat.pow_mul]
     have hx':x.natAbs<4294967296^16:=by rw[<-e16];exact hx
     rw[Nat.div_eq_of_lt (Nat.lt_of_lt_of_le hx' (Nat.pow_le_pow_right (by decide) (show 16<=2+i by omega))),Nat.zero_mod]
   omega
theorem NX(n:Nat):cA (n+1) 125 []=some Gy:=by
 rw[Pp];unfold C9;rw[fJ];rfl
theorem EL(n:Nat){l:List Nat}{neg:Bool}(hd:dl l)(hl:l.length<=1000000):cA (n+2) 81 [.bool neg,.sl (ag l)]=some (dP (ln (sgn neg (aR l)))):=by
 by_cases hv:aR l<65536^32
 ·rw[EK n hd hl hv,fX (by unfold In;rw[mD];exact hv)];rfl
 ·have hno:ln (sgn neg (aR l))=none:=by
   unfold ln;rw[mD,<-s9,if_neg hv]
  rw[hno,QZ]
  unfold H7
  refine aa (uR n hl) ?_
  rw[fR hd]
  have hlen:¬ (ay (aR l)).length<=32:=fun h=>hv (by
   have:=iU (aT (aR l))
   rw[ap] at this
   exact Nat.lt_of_lt_of_le this (Nat.pow_le_pow_right (by decide) h))
  refine aa (z:=ag (ay (aR l))) rfl (aa bS (aa ae (aH (by show((ag (ay (aR l))).length:Int)>32;rw[aj];omega) ?_)))
  exact aa (NX n) rfl
theorem ED(n:Nat){a b:List Nat}(ha:dl a)(hb:dl b)(hla:a.length<=400000)(hle:aR b<=aR a):cA (n+2) 126 [.sl (ag a),.sl (ag b)]=some (.sl (ag (ay (aR a-aR b)))):=by
 rw[Pq]
 unfold Da
 refine ba (fun k s=>∃ (out:List Nat) (c:Nat),s=[.sl (ag out),I (c:Int),I (k:Int)]/\out.length=k/\dl out/\c<=1/\aR out+vt b k=vt a k+c*65536^k) a.length 0 (Nat.zero_le _) ⟨[],0,rfl,rfl,(by intro d hd;cases hd),by omega,by simp[aR,vt]⟩ (fun k hk s hJ=>?_) (fun s hJ=>?_)
 ·obtain⟨out,c,rfl,ho,hdo,hc,hv⟩:=hJ
  left
  have h1:=ha.getD k
  have h2:=hb.getD k
  obtain⟨e,f,hef,he,hf⟩:∃ e f:Nat,e+b.getD k 0+c=a.getD k 0+f*65536/\e<65536/\f<=1:=by
   by_cases h:b.getD k 0+c<=a.getD k 0
   ·exact⟨a.getD k 0-(b.getD k 0+c),0,by omega,by omega,by omega⟩
   ·exact⟨a.getD k 0+65536-(b.getD k 0+c),1,by omega,by omega,by omega⟩
  refine⟨[.sl (ag (out++[e])),I (f:Int),I ((k+1:Nat):Int)],?_,out++[e],f,rfl,by simp[ho],hdo.append (fun x hx=>by simp at hx;omega),hf,?_⟩
  ·refine aa (z:=ag a) rfl (aa ah (aa ae (aH (by show(k:Int)<((ag a).length:Int);rw[aj];omega) ?_)))
   refine aa (z:=ag a) rfl (aa (vE hk) (aa (cG hk) (aa (zn n b k) (aa (cW (by simp only[inR];omega)) (aa (cW (by simp only[inR];omega)) ?_)))))
   refine aa (z:=(0,[.sl (ag out),I (f:Int),I (e:Int)])) ?_ ?_
   ·refine aa ah (aa ae ?_)
    by_cases hneg:((a.getD k 0:Nat):Int)-(b.getD k 0:Nat)-(c:Int)<0
    ·refine aH hneg (aa (av (by simp only[inR];omega)) ?_)
     have e1:(((a.getD k 0:Nat):Int)-(b.getD k 0:Nat)-(c:Int)+65536)=(e:Int):=by omega
     have e2:f=1:=by omega
     rw[e1,e2];rfl
    ·refine aD hneg ?_
     have e1:(((a.getD k 0:Nat):Int)-(b.getD k 0:Nat)-(c:Int))=(e:Int):=by omega
     have e2:f=0:=by omega
     rw[e1,e2];rfl
   ·rw[if_pos (by simp only[g0,D.els,aj,List.length_cons,List.length_nil];omega)]
    refine aa (av (ar (i:=k) (by omega))) ?_
    show some (Sum.inl [D.sl (ag out++[I (e:Int)]),_,_])=_
    rw[rN];rfl
  ·rw[jH,ho,vt,vt,Nat.pow_succ]
   have e2:aR [e]=e:=by simp[aR]
   rw[e2]
   generalize 65536^k=B at *
   have:(e+b.getD k 0+c)*B=(a.getD k 0+f*65536)*B:=by rw[hef]
   rw[Nat.add_mul,Nat.add_mul,Nat.add_mul] at this
   rw[show f*(B*65536)=f*65536*B by rw[Nat.mul_comm B,<-Nat.mul_assoc],Nat.mul_comm B e]
   omega
 ·obtain⟨out,c,rfl,ho,hdo,hc,hv⟩:=hJ
  refine⟨(0,[.sl (ag out)]),aa (z:=ag a) rfl (aa ah (aa ae (aD (by show ¬ ((a.length:Int)<((ag a).length:Int));rw[aj];omega) rfl))),?_⟩
  refine aa (uR n (l:=out) (by omega)) ?_
  rw[j9] at hv
  have hvb:vt b a.length=aR b:=by
   rcases Nat.le_total b.length a.length with k|k
   ·exact f8 k
   ·have hbl:=qQ hb b.length
    have hal:=iU ha
    have key:∀ j,aR b<65536^a.length->vt b (a.length+j)=vt b a.length:=fun j hlt=>by
     induction j with
     | zero=>rfl
     | succ j ih=>
      rw[<-Nat.add_assoc,vt,ih]
      have hz:b.getD (a.length+j) 0=0:=by
       rcases Nat.eq_zero_or_pos (b.getD (a.length+j) 0) with h|h
       ·exact h
       ·exfalso
        have m1:vt b (a.length+j+1)<=aR b:=by
         rw[<-j9 b]
         rcases Nat.le_total (a.length+j+1) b.length with q|q
         ·obtain⟨m,hm⟩:∃ m,b.length=a.length+j+1+m:=⟨b.length-(a.length+j+1),by omega⟩
          rw[hm]
          clear hm
          induction m with
          | zero=>exact Nat.le_refl _
          | succ m ihm=>exact Nat.le_trans ihm (Nat.le_add_right _ _)
         ·rw[f8 q,j9];exact Nat.le_refl _
        rw[vt] at m1
        have m2:65536^a.length<=65536^(a.length+j):=Nat.pow_le_pow_right (by decide) (by omega)
        have m3:1*65536^(a.length+j)<=b.getD (a.length+j) 0*65536^(a.length+j):=Nat.mul_le_mul_right _ h
        omega
      rw[hz];simp
    obtain⟨m,hm⟩:∃ m,b.length=a.length+m:=⟨b.length-a.length,by omega⟩
    have:=key m (Nat.lt_of_le_of_lt hle hal)
    rw[<-hm,j9] at this
    exact this.symm
  have hdl:=iU hdo
  rw[ho] at hdl
  have hal:=iU ha
  have hc0:c=0:=by
   rcases Nat.eq_zero_or_pos c with h|h
   ·exact h
   ·have:1*65536^a.length<=c*65536^a.length:=Nat.mul_le_mul_right _ h
    omega
  subst hc0
  rw[fR hdo]
  have:aR out=aR a-aR b:=by omega
  rw[this]
theorem pM(m:Int)(h:In m):(ay m.natAbs).length<=32:=bg 32 _ h
theorem OJ(n:Nat){x y:Int}(hx:In x)(hy:In y):cA (n+4) 59 [ai x,ai y]=some (dP (ln (x+y))):=by
 by_cases hw:Wd x/\Wd y
 ·have hin:In (x+y):=by
   have:Sy.inR (x+y):=by have:=hw.1;have:=hw.2;unfold Wd at *;simp only[Sy.inR];omega
   exact In.of this
  rw[JZ n hw.1 hw.2,fX hin];rfl
 ·rw[QY]
  unfold H6
  have hws:∀ z:Int,In z->∃ w b,cA (n+3) 124 [ai z]=some (.tup [I w,.bool b])/\(b=true->Wd z):=fun z hz=>by
   by_cases h:Wd z
   ·exact⟨z,true,mV n h,fun _=>h⟩
   ·exact⟨0,false,A5 n hz h,fun e=>by cases e⟩
  obtain⟨w1,b1,h1,k1⟩:=hws x hx
  obtain⟨w2,b2,h2,k2⟩:=hws y hy
  have hb:(b1&&b2)=false:=by
   cases b1<;>cases b2<;>first|rfl|exact absurd ⟨k1 rfl,k2 rfl⟩ hw
  refine aa h1 (aa (z:=I w1) rfl (aa (z:=.bool b1) rfl (aa h2 (aa (z:=I w2) rfl (aa (z:=.bool b2) rfl (aa (z:=b1) rfl (aa (z:=false) (by cases b1<;>cases b2<;>simp at hb<;>rfl) (aa (z:=false) rfl ?_))))))))
  rw[if_neg (by decide)]
  refine aa (oV (n+1) hx) (aa bN (aa (z:=false) rfl (aa (z:=false) (by rw[if_neg (by decide)];exact aa (oV (n+1) hy) rfl) (aa (z:=false) rfl ?_))))
  rw[if_neg (by decide)]
  have lx:=pM x hx;have ly:=pM y hy
  refine aa (tu (n+1) hx) (aa (tu (n+1) hy) (aa (bD x) (aa (bD y) (aa (z:=decide (decide (x<0)=decide (y<0))) (by by_cases h1:x<0<;>by_cases h2:y<0<;>simp[h1,h2,D.beq,D.truth]) ?_))))
  by_cases hs:decide (x<0)=decide (y<0)
  ·refine aH hs (aa (bD x) (aa (QS (n+1) (aT _) (aT _) (by omega) (by omega)) ?_))
   rw[ap,ap]
   have hlen:(ay (x.natAbs+y.natAbs)).length<=33:=bg 33 _ (by
    have e:(65536:Nat)^33=65536^32*65536:=Nat.pow_succ ..
    rw[e];unfold In at hx hy;omega)
   refine aa (EL (n+1) (aT _) (by omega)) ?_
   rw[ap]
   have:sgn (decide (x<0)) (x.natAbs+y.natAbs)=x+y:=by
    unfold sgn;rw[decide_eq_decide] at hs;simp only[decide_eq_true_eq];split<;>omega
   rw[this]
  ·refine aD hs ?_
   have hs':¬ (x<0↔y<0):=fun e=>hs (by rw[decide_eq_decide];exact e)
   have h78:=J1 (n+1) (aT x.natAbs) (aT y.natAbs) (by omega) (by omega)
   rw[ap,ap] at h78
   refine aa h78 (aa ae ?_)
   by_cases hlt:x.natAbs<y.natAbs
   ·refine aH hlt (aa (bD y) (aa (ED (n+1) (aT _) (aT _) (by omega) (by rw[ap,ap];omega)) ?_))
    rw[ap,ap]
    have hlen:(ay (y.natAbs-x.natAbs)).length<=32:=bg 32 _ (by unfold In at hy;omega)
    refine aa (EL (n+1) (aT _) (by omega)) ?_
    rw[ap]
    have:sgn (decide (y<0)) (y.natAbs-x.natAbs)=x+y:=by
     unfold sgn;simp only[decide_eq_true_eq];split<;>omega
    rw[this]
   ·refine aD hlt (aa (bD x) (aa (ED (n+1) (aT _) (aT _) (by omega) (by rw[ap,ap];omega)) ?_))
    rw[ap,ap]
    have hlen:(ay (x.natAbs-y.natAbs)).length<=32:=bg 32 _ (by unfold In at hx;omega)
    refine aa (EL (n+1) (aT _) (by omega)) ?_
    rw[ap]
    have:sgn (decide (x<0)) (x.natAbs-y.natAbs)=x+y:=by
     unfold sgn;simp only[decide_eq_true_eq];split<;>omega
    rw[this]
theorem GO(n:Nat){x y:Int}(hx:In x)(hy:In y):cA (n+4) 89 [ai x,ai y]=some (dP (ln (x*y))):=by
 by_cases hw:Wd x/\Wd y
 ·have hin:In (x*y):=by
   have h1:=hw.1;have h2:=hw.2
   unfold Wd at h1 h2
   unfold In
   rw[Int.natAbs_mul]
   have hxy:x.natAbs*y.natAbs<65536^8:=by
    have e:(65536:Nat)^8=18446744073709551616*18446744073709551616:=by decide
    rw[e];exact Nat.mul_lt_mul'' (by omega) (by omega)
   exact Nat.lt_of_lt_of_le hxy (Nat.pow_le_pow_right (by decide) (by decide))
  rw[Hx n hw.1 hw.2,fX hin];rfl
 ·rw[Q2]
  unfold Ia
  have hws:∀ z:Int,In z->∃ w b,cA (n+3) 124 [ai z]=some (.tup [I w,.bool b])/\(b=true->Wd z):=fun z hz=>by
   by_cases h:Wd z
   ·exact⟨z,true,mV n h,fun _=>h⟩
   ·exact⟨0,false,A5 n hz h,fun e=>by cases e⟩
  obtain⟨w1,b1,h1,k1⟩:=hws x hx
  obtain⟨w2,b2,h2,k2⟩:=hws y hy
  have hb:(b1&&b2)=false:=by
   cases b1<;>cases b2<;>first|rfl|exact absurd ⟨k1 rfl,k2 rfl⟩ hw
  refine aa h1 (aa (z:=I w1) rfl (aa (z:=.bool b1) rfl (aa h2 (aa (z:=I w2) rfl (aa (z:=.bool b2) rfl (aa (z:=b1) rfl (aa (z:=false) (by cases b1<;>cases b2<;>simp at hb<;>rfl) (aa (z:=false) rfl (aa (z:=false) rfl (aa (z:=false) rfl (aa (z:=false) rfl (aa (z:=false) rfl ?_))))))))))))
  rw[if_neg (by decide)]
  refine aa (oV (n+1) hx) (aa bN (aa (z:=false) rfl (aa (z:=false) (by rw[if_neg (by decide)];exact aa (oV (n+1) hy) rfl) (aa (z:=false) rfl ?_))))
  rw[if_neg (by decide)]
  have lx:=pM x hx;have ly:=pM y hy
  refine aa (bD x) (aa (bD y) (aa (tu (n+1) hx) (aa (tu (n+1) hy) (aa (GI (n+1) (aT _) (aT _) (by omega) (by omega)) ?_))))
  rw[ap,ap]
  have hlen:(ay (x.natAbs*y.natAbs)).length<=64:=bg 64 _ (by
   have e:(65536:Nat)^64=65536^32*65536^32:=by rw[<-Nat.pow_add]
   rw[e];exact Nat.mul_lt_mul'' hx hy)
  have hb':(!(D.beq (.bool (decide (x<0))) (.bool (decide (y<0)))))=!(decide (decide (x<0)=decide (y<0))):=by
   by_cases h1:x<0<;>by_cases h2:y<0<;>simp[h1,h2,D.beq]
  rw[hb']
  refine aa (EL (n+1) (aT _) (by omega)) ?_
  rw[ap,ul]
theorem OL(n:Nat){x:Int}(hx:In x):cA (n+3) 86 [ai x]=some (ai (-x)):=by
 rw[TP]
 unfold JP
 have lx:=pM x hx
 refine aa (oV n hx) (aa bN (aa (z:=false) rfl ?_))
 rw[if_neg (by decide)]
 refine aa (bD x) (aa bN (aa (tu n hx) (aa (EK n (aT _) (by omega) (by rw[ap];exact hx)) ?_)))
 rw[ap]
 have:sgn (!(decide (x<0))) x.natAbs=-x:=by
  unfold sgn;by_cases h:x<0<;>simp[h]<;>omega
 rw[this]
end Sy
end
noncomputable section
namespace Sy
open Go Go.Proofs Geo
def Et(l:List Nat)(k:Int):Nat:=if k<0 then 0 else l.getD k.toNat 0
theorem AZ{l:List Nat}(h:dl l)(k:Int):Et l k<65536:=by
 unfold Et
 split
 ·decide
 ·exact h.getD _
theorem yh(l:List Nat)(k:Nat):Et l (k:Int)=l.getD k 0:=by
 unfold Et
 rw[if_neg (by omega),Int.toNat_natCast]
theorem EH(n:Nat)(l:List Nat)(k:Int):cA (n+2) 175 [.sl (ag l),I k]=some (I (Et l k:Nat)):=by
 rw[PU]
 unfold DE Et
 refine aa ah (aa ae ?_)
 by_cases h:k<0
 ·refine aH h ?_
  rw[if_pos h];rfl
 ·refine aD h ?_
  rw[if_neg h]
  obtain⟨m,rfl⟩:=Int.eq_ofNat_of_zero_le (show 0<=k by omega)
  exact aa (zn n l m) rfl
def kD(R n:Nat):Nat:=if n=1 then R*65536 else R/65536^(n-2)
theorem lS(m i:Nat):(ay m).getD i 0=m/65536^i%65536:=m9 i m
theorem u6(R:Nat){m:Nat}(hm:1<=m):R/65536^(m-1)=R/65536^m*65536+R/65536^(m-1)%65536:=by
 have e:65536^m=65536^(m-1)*65536:=by
  conv=>lhs;rw[show m=m-1+1 by omega]
  exact Nat.pow_succ ..
 rw[e,<-Nat.div_div_eq_div_mul];omega
theorem Bx{R n:Nat}(hn:1<=n)(hR:R<65536^(n+1)):(ay R).getD n 0*4294967296+(ay R).getD (n-1) 0*65536+Et (ay R) ((n:Int)-2)=kD R n:=by
 have h1:R/65536^n<65536:=by
  rw[Nat.div_lt_iff_lt_mul (Nat.pow_pos (by decide)),Nat.mul_comm,<-Nat.pow_succ];exact hR
 have e1:=u6 R hn
 rw[lS,lS,Nat.mod_eq_of_lt h1]
 unfold kD Et
 by_cases hn1:n=1
 ·subst hn1
  rw[if_pos rfl,if_pos (by decide)]
  simp only[Nat.sub_self,Nat.pow_zero,Nat.div_one,Nat.pow_one] at *
  omega
 ·rw[if_neg hn1,if_neg (by omega),show((n:Int)-2).toNat=n-2 by omega,lS]
  have e2:=u6 R (m:=n-1) (by omega)
  rw[show n-1-1=n-2 by omega] at e2
  omega
theorem G0{B n:Nat}(hn:1<=n)(hB:B<65536^n):(ay B).getD (n-1) 0*65536+Et (ay B) ((n:Int)-2)=kD B n:=by
 have h:=Bx (R:=B) hn (Nat.lt_of_lt_of_le hB (Nat.pow_le_pow_right (by decide) (Nat.le_succ n)))
 rw[lS B n,Nat.div_eq_of_lt hB,Nat.zero_mod,Nat.zero_mul,Nat.zero_add] at h
 exact h
theorem Bv{R B n:Nat}(hB0:0<B)(ht:0<kD B n)(hRB:R<65536*B):R/B<=min 65535 (kD R n/kD B n):=by
 have h1:R/B<=65535:=by
  have:=(Nat.div_lt_iff_lt_mul hB0).2 (show R<65536*B from hRB);omega
 refine Nat.le_min.2 ⟨h1,?_⟩
 rw[Nat.le_div_iff_mul_le ht]
 unfold kD
 by_cases hn:n=1
 ·rw[if_pos hn,if_pos hn,<-Nat.mul_assoc]
  exact Nat.mul_le_mul_right _ (Nat.div_mul_le_self R B)
 ·rw[if_neg hn,if_neg hn]
  have hp:0<65536^(n-2):=Nat.pow_pos (by decide)
  rw[Nat.le_div_iff_mul_le hp,Nat.mul_assoc]
  exact Nat.le_trans (Nat.mul_le_mul_left _ (Nat.div_mul_le_self B _)) (Nat.div_mul_le_self R B)
theorem fF{B:Nat}(hB:0<B):1<=(ay B).length/\B<65536^(ay B).length/\0<kD B (ay B).length:=by
 have h1:1<=(ay B).length:=by
  rcases Nat.eq_zero_or_pos (ay B).length with h|h
  ·have:=List.length_eq_zero_iff.1 h
   have:=pK.1 this;omega
  ·exact h
 have h2:B<65536^(ay B).length:=by
  have:=iU (aT B);rwa [ap] at this
 refine⟨h1,h2,?_⟩
 have h3:65536^((ay B).length-1)<=B:=by
  rcases Nat.lt_or_ge B (65536^((ay B).length-1)) with k|k
  ·have:=bg _ B k;omega
  ·exact k
 unfold kD
 split
 ·omega
 ·refine Nat.div_pos (Nat.le_trans (Nat.pow_le_pow_right (by decide) (by omega)) h3) (Nat.pow_pos (by decide))
theorem GH(n:Nat){A B:Nat}(hA:A<65536^40)(hB:0<B)(hBl:B<65536^40):cA (n+3) 143 [.sl (ag (ay A)),.sl (ag (ay B))]=some (.tup [.sl (ag (ay (A/B))),.sl (ag (ay (A%B)))]):=by
 rw[PE]
 unfold Do
 obtain⟨n1,n2,n3⟩:=fF hB
 have lA:=bg 40 _ hA
 have lB:=bg 40 _ hBl
 have dB:=aT B
 obtain⟨L,hL⟩:∃ L,(ay B).length=L:=⟨_,rfl⟩
 rw[hL] at n1 n2 n3 lB
 obtain⟨M,hM⟩:∃ M,(ay A).length=M:=⟨_,rfl⟩
 rw[hM] at lA
 have eLen:((ag (ay B)).length:Int)=(L:Int):=by rw[aj,hL]
 have eLenA:((ag (ay A)).length:Int)=(M:Int):=by rw[aj,hM]
 refine aa (z:=ag (ay A)) rfl (aa (z:=M) (by rw[eLenA];exact yV M) ?_)
 rw[if_pos (by omega)]
 refine aa (z:=ag (ay B)) rfl ?_
 rw[eLen]
 have hb1:(ay B).getD (L-1) 0<65536:=dB.getD _
 have htop:=G0 n1 n2
 refine aa (ik (b:=1) rfl n1 (by omega)) (aa (z:=ag (ay B)) rfl (aa (z:=L-1) (by rw[aj,hL];exact ao (by omega)) (aa (cG (l:=ay B) (i:=L-1) (by omega)) ?_)))
 refine aa (pn (b:=65536) (by omega)) (aa (z:=I ((L:Int)-2)) (cW (by simp only[inR];omega)) (aa (EH n (ay B) ((L:Int)-2)) ?_))
 have hb2':=AZ dB ((L:Int)-2)
 refine aa (aX (by omega)) ?_
 rw[htop]
 have htop64:kD B L<4294967296:=by rw[<-htop];omega
 generalize hTB:kD B L=TB at *
 refine aa (z:=ag (ay A)) rfl ?_
 rw[eLenA]
 refine aa (z:=I ((M:Int)-1)) (cW (by simp only[inR];omega)) ?_
 rw[rP]
 have hA0:A/65536^M=0:=by
  have:=iU (aT A);rw[ap,hM] at this;exact Nat.div_eq_of_lt this
 refine ba (fun t s=>∃ q:List Nat,s=[.sl (ag (ay (A/65536^(M-t)%B))),I ((M:Int)-1-(t:Nat)),.sl (ag q)]/\q.length=M/\dl q/\(∀ i,i<M-t->q.getD i 0=0)/\aR q=A/65536^(M-t)/B*65536^(M-t)) M 0 (Nat.zero_le _) ⟨List.replicate M 0,?_,by simp,fun x hx=>by rw[List.eq_of_mem_replicate hx];decide,fun i _=>by simp[List.getD,List.getElem?_replicate];split<;>rfl,?_⟩ (fun t ht s hJ=>?_) (fun s hJ=>?_)
 ·rw[Nat.sub_zero,hA0,Nat.zero_mod,bO]
  congr 3;omega
 ·have:=k9 [] M;rw[List.nil_append] at this
  rw[this,Nat.sub_zero,hA0,Nat.zero_div,Nat.zero_mul];rfl
 ·obtain⟨q,rfl,hql,hqd,hqz,hqv⟩:=hJ
  left
  obtain⟨k,hk⟩:∃ k,k=M-1-t:=⟨_,rfl⟩
  have hkM:k<M:=by omega
  rw[show M-t=k+1 by omega] at hqz hqv ⊢
  rw[show(M:Int)-1-(t:Nat)=(k:Nat) by omega]
  have hrB:A/65536^(k+1)%B<B:=Nat.mod_lt _ hB
  have hAk:A/65536^k=65536*(A/65536^(k+1))+(ay A).getD k 0:=by
   rw[lS,Nat.pow_succ,<-Nat.div_div_eq_div_mul];omega
  have hdk:(ay A).getD k 0<65536:=(aT A).getD k
  obtain⟨R,hR⟩:∃ R,R=65536*(A/65536^(k+1)%B)+(ay A).getD k 0:=⟨_,rfl⟩
  have hRB:R<65536*B:=by
   have:65536*(A/65536^(k+1)%B+1)<=65536*B:=Nat.mul_le_mul_left _ hrB
   omega
  have hRq:A/65536^k/B=65536*(A/65536^(k+1)/B)+R/B:=by
   have e:=Nat.div_add_mod (A/65536^(k+1)) B
   have e2:A/65536^k=R+B*(65536*(A/65536^(k+1)/B)):=by
    rw[hAk,hR]
    generalize A/65536^(k+1)=X at *
    have:65536*X=65536*(B*(X/B)+X%B):=by rw[e]
    rw[Nat.mul_add] at this
    have c:B*(65536*(X/B))=65536*(B*(X/B)):=by rw[<-Nat.mul_assoc,Nat.mul_comm B,Nat.mul_assoc]
    omega
   rw[e2,Nat.add_mul_div_left _ _ hB];omega
  have hRm:A/65536^k%B=R%B:=by
   have e:=Nat.div_add_mod (A/65536^(k+1)) B
   have e2:A/65536^k=R+B*(65536*(A/65536^(k+1)/B)):=by
    rw[hAk,hR]
    generalize A/65536^(k+1)=X at *
    have:65536*X=65536*(B*(X/B)+X%B):=by rw[e]
    rw[Nat.mul_add] at this
    have c:B*(65536*(X/B))=65536*(B*(X/B)):=by rw[<-Nat.mul_assoc,Nat.mul_comm B,Nat.mul_assoc]
    omega
   rw[e2,Nat.add_mul_mod_self_left]
  have hlr:(ay (A/65536^(k+1)%B)).length<=40:=bg 40 _ (Nat.lt_trans hrB hBl)
  have hRl:R<65536^(L+1):=by
   rw[Nat.pow_succ,Nat.mul_comm];exact Nat.lt_of_lt_of_le hRB (Nat.mul_le_mul_left _ (Nat.le_of_lt n2))
  have hR41:R<65536^41:=Nat.lt_of_lt_of_le hRl (Nat.pow_le_pow_right (by decide) (by omega))
  have lR:=bg 41 _ hR41
  have dR:=aT R
  obtain⟨q',hq'⟩:∃ q',q'=q.set k (R/B):=⟨_,rfl⟩
  have hRB2:R/B<=65535:=by have:=(Nat.div_lt_iff_lt_mul hB).2 hRB;omega
  refine⟨[.sl (ag (ay (R%B))),I ((k:Int)-1),.sl (ag q')],?_,q',by rw[show M-(t+1)=k by omega,hRm];congr 3;omega,by rw[hq'];simpa using hql,?_,?_,?_⟩
  ·refine aa fe (aa ae (aH (by show(k:Int) ≥ 0;omega) ?_))
   refine aa (z:=ag (ay A)) rfl (aa (z:=k) (by rw[aj,hM];exact ao hkM) (aa (cG (l:=ay A) (i:=k) (by omega)) (aa (z:=ag (ay (A/65536^(k+1)%B))) rfl ?_)))
   rw[if_pos (by rw[aj];simp;omega)]
   have hcons:[I (((ay A).getD k 0:Nat):Int)]++ag (ay (A/65536^(k+1)%B))=ag ((ay A).getD k 0::ay (A/65536^(k+1)%B)):=rfl
   rw[hcons]
   have hdl:dl ((ay A).getD k 0::ay (A/65536^(k+1)%B)):=dl.cons hdk (aT _)
   have htr:=uR (n+1) (l:=(ay A).getD k 0::ay (A/65536^(k+1)%B)) (by simp;omega)
   rw[fR hdl,show aR ((ay A).getD k 0::ay (A/65536^(k+1)%B))=R by rw[aR,ap,hR];omega] at htr
   refine aa htr ?_
   have g1:=dR.getD L;have g2:=dR.getD (L-1)
   have g3:=AZ dR ((L:Int)-2)
   have h3:=Bx n1 hRl
   refine aa (EH n (ay R) (L:Int)) ?_
   rw[yh]
   refine aa (pn (b:=4294967296) (by omega)) (aa (ik (b:=1) rfl n1 (by omega)) (aa (EH n (ay R) ((L-1:Nat):Int)) ?_))
   rw[yh]
   refine aa (pn (b:=65536) (by omega)) (aa (aX (by omega)) (aa (z:=I ((L:Int)-2)) (cW (by simp only[inR];omega)) (aa (EH n (ay R) ((L:Int)-2)) (aa (aX (by omega)) ?_))))
   rw[h3]
   have hH:kD R L<=9223372036854775807:=by rw[<-h3];omega
   have hge:=Bv (R:=R) (n:=L) hB (by rw[hTB];exact n3) hRB
   rw[hTB] at hge
   refine aa (hC (by omega) (by omega)) (aa (z:=I ((min 65535 (kD R L/TB):Nat):Int)) (by rw[show(Jn 65535)=I ((65535:Nat):Int) from rfl,IY];congr 2;omega) ?_)
   have hd0:min 65535 (kD R L/TB)<=65535:=Nat.min_le_left ..
   generalize min 65535 (kD R L/TB)=d0 at *
   have hpart:∀ d:Nat,d<=65535->cA (n+2) 146 [.sl (ag (ay B)),.sl [I (d:Int)]]=some (.sl (ag (ay (B*d)))):=fun d hd=>by
    have:=GI n (a:=ay B) (b:=[d]) dB (fun x hx=>by simp at hx;omega) (by omega) (by simp)
    rw[ap,show aR [d]=d by simp[aR]] at this
    exact this
   refine aa (hpart d0 hd0) ?_
   refine o8 (fun d s=>s=[I (d:Int),.sl (ag (ay (B*d))),.sl (ag q)]/\R/B<=d/\d<=65535) d0 _ ⟨rfl,hge,hd0⟩ (fun d s hJ=>?_)
   obtain⟨rfl,k1,k2⟩:=hJ
   have hBd:B*d<65536^41:=by
    have:B*d<=B*65536:=Nat.mul_le_mul_left _ (by omega)
    have e:(65536:Nat)^41=65536^40*65536:=Nat.pow_succ ..
    have:B*65536<65536^40*65536:=Nat.mul_lt_mul_of_pos_right hBl (by decide)
    omega
   have lBd:=bg 41 _ hBd
   have h78:=J1 n dR (aT (B*d)) (by omega) (by omega)
   rw[ap,ap] at h78
   by_cases hlt:R<B*d
   ·left
    rw[decide_eq_true hlt] at h78
    have hd1:R/B<d:=by rw[Nat.div_lt_iff_lt_mul hB,Nat.mul_comm];exact hlt
    have hd1p:1<=d:=Nat.lt_of_le_of_lt (Nat.zero_le _) hd1
    refine⟨d-1,[I ((d-1:Nat):Int),.sl (ag (ay (B*(d-1)))),.sl (ag q)],by omega,?_,rfl,Nat.le_sub_one_of_lt hd1,by omega⟩
    refine aa h78 (aa (z:=true) rfl ?_)
    rw[if_pos rfl]
    have e:B*d-B=B*(d-1):=by rw[Nat.mul_sub,Nat.mul_one]
    have h126:=ED n (aT (B*d)) dB (by omega) (by rw[ap,ap];exact Nat.le_mul_of_pos_right _ (by omega))
    rw[ap,ap,e] at h126
    exact aa (ik (b:=1) rfl (by omega) (by omega)) (aa h126 rfl)
   ·right
    rw[decide_eq_false hlt] at h78
    have hd1:d<=R/B:=by rw[Nat.le_div_iff_mul_le hB,Nat.mul_comm];omega
    have hdq:d=R/B:=by omega
    refine⟨(0,[I (d:Int),.sl (ag (ay (B*d))),.sl (ag q)]),?_,?_⟩
    ·refine aa h78 (aa (z:=false) rfl ?_)
     rw[if_neg (by decide)];rfl
    ·have h126:=ED n dR (aT (B*d)) (by omega) (by rw[ap,ap];omega)
     have e:R-B*d=R%B:=by rw[hdq];have:=Nat.div_add_mod R B;omega
     rw[ap,ap,e] at h126
     have hkq:k<q.length:=by omega
     refine aa (vE hkq) (aa (cG hkq) (aa h126 (aa (cW (by simp only[inR];omega)) ?_)))
     show some (Sum.inl [_,_,D.sl (List.set (ag q) k (I (d:Int)))])=_
     rw[nj,hdq,<-hq']
     first|rfl|skip
  ·rw[hq']
   refine FT fun i hi=>?_
   rw[jK _ _ _ _ (by omega)]
   split
   ·omega
   ·exact hqd.getD i
  ·intro i hi
   rw[hq',jK _ _ _ _ (by omega),if_neg (by omega)]
   exact hqz i (by omega)
  ·have e:=lU (l:=q) (j:=k) (v:=R/B) (by omega)
   rw[hqz k (by omega),Nat.mul_zero,Nat.add_zero,<-hq'] at e
   rw[e,hqv,show M-(t+1)=k by omega,hRq,Nat.pow_succ,Nat.add_mul,Nat.mul_comm (R/B),Nat.mul_comm 65536,Nat.mul_assoc,Nat.mul_comm (65536^k) 65536]
 ·obtain⟨q,rfl,hql,hqd,_,hqv⟩:=hJ
  rw[Nat.sub_self,Nat.pow_zero,Nat.div_one,Nat.mul_one] at hqv
  refine⟨(0,[.sl (ag (ay (A%B))),.sl (ag q)]),?_,?_⟩
  ·rw[Nat.sub_self,Nat.pow_zero,Nat.div_one]
   exact aa fe (aa ae (aD (by show ¬ ((M:Int)-1-(M:Nat)) ≥ 0;omega) rfl))
  ·have htr:=uR (n+1) (l:=q) (by omega)
   rw[fR hqd,hqv] at htr
   exact aa htr rfl
theorem zD{m:Nat}(h:m<65536^32):m<65536^40:=Nat.lt_of_lt_of_le h (Nat.pow_le_pow_right (by decide) (by decide))
theorem td(n:Nat){x:Int}(hx:In x):∃ w b,cA (n+3) 124 [ai x]=some (.tup [I w,.bool b])/\(b=true->Wd x):=by
 by_cases h:Wd x
 ·exact⟨x,true,mV n h,fun _=>h⟩
 ·exact⟨0,false,A5 n hx h,fun e=>by cases e⟩
theorem GN(n:Nat){x y:Int}(hx:In x)(hy:In y):cA (n+4) 85 [ai x,ai y]=some (ai (Nat.gcd x.natAbs y.natAbs:Nat)):=by
 by_cases hw:Wd x/\Wd y
 ·exact J2 n hw.1 hw.2
 ·rw[Q0]
  unfold H8
  obtain⟨w1,b1,h1,k1⟩:=td n hx
  obtain⟨w2,b2,h2,k2⟩:=td n hy
  have hb:(b1&&b2)=false:=by
   cases b1<;>cases b2<;>first|rfl|exact absurd ⟨k1 rfl,k2 rfl⟩ hw
  refine aa h1 (aa (z:=I w1) rfl (aa (z:=.bool b1) rfl (aa h2 (aa (z:=I w2) rfl (aa (z:=.bool b2) rfl (aa (z:=b1) rfl (aa (z:=false) (by cases b1<;>cases b2<;>simp at hb<;>rfl) (aa (z:=false) rfl ?_))))))))
  rw[if_neg (by decide)]
  refine aa (oV (n+1) hx) (aa bN (aa (z:=false) rfl (aa (z:=false) (by rw[if_neg (by decide)];exact aa (oV (n+1) hy) rfl) (aa (z:=false) rfl ?_))))
  rw[if_neg (by decide)]
  refine aa (tu (n+1) hx) (aa (tu (n+1) hy) ?_)
  have hx':x.natAbs<65536^32:=hx
  have hy':y.natAbs<65536^32:=hy
  refine o8 (fun m s=>∃ a,s=[.sl (ag (ay a)),.sl (ag (ay m))]/\a<65536^32/\m<65536^32/\Nat.gcd a m=Nat.gcd x.natAbs y.natAbs) y.natAbs _ ⟨x.natAbs,rfl,hx',hy',rfl⟩ (fun m s hJ=>?_)
  obtain⟨a,rfl,ha,hm,hg⟩:=hJ
  by_cases h0:m=0
  ·right
   subst h0
   rw[Nat.gcd_zero_right] at hg
   rw[bO]
   refine⟨(0,[.sl (ag (ay a))]),?_,?_⟩
   ·exact aa (z:=ag []) rfl (aa (z:=.bool false) rfl (aa (z:=false) rfl rfl))
   ·have la:=bg 32 _ ha
    refine aa (EK (n+1) (neg:=false) (aT a) (by omega) (by rw[ap];exact ha)) ?_
    rw[ap,hg];rfl
  ·left
   have hlt:a%m<m:=Nat.mod_lt _ (by omega)
   refine⟨a%m,[.sl (ag (ay m)),.sl (ag (ay (a%m)))],hlt,?_,m,rfl,hm,Nat.lt_trans hlt hm,by rw[<-hg,Nat.gcd_comm a m,Nat.gcd_rec m a,Nat.gcd_comm]⟩
   have hl:=(fF (B:=m) (by omega)).1
   refine aa (z:=ag (ay m)) rfl (aa bS (aa ae (aH (by show((ag (ay m)).length:Int)>0;rw[aj];omega) ?_)))
   exact aa (GH n (zD ha) (by omega) (zD hm)) (aa (z:=.sl (ag (ay (a/m)))) rfl (aa (z:=.sl (ag (ay (a%m)))) rfl rfl))
theorem A9(n:Nat){x y:Int}(hx:In x)(hy:In y)(hy0:y≠0)(hd:y ∣ x):cA (n+4) 87 [ai x,ai y]=some (ai (x/y)):=by
 by_cases hw:Wd x/\Wd y
 ·exact J3 n hw.1 hw.2 hy0 hd
 ·have hin:=AT hx hd
  obtain⟨q,hq⟩:=hd
  have exy:x/y=q:=by rw[hq];exact Int.mul_ediv_cancel_left _ hy0
  rw[exy] at hin ⊢
  rw[Q1]
  unfold H9
  obtain⟨w1,b1,h1,k1⟩:=td n hx
  obtain⟨w2,b2,h2,k2⟩:=td n hy
  have hb:(b1&&b2)=false:=by
   cases b1<;>cases b2<;>first|rfl|exact absurd ⟨k1 rfl,k2 rfl⟩ hw
  have hx':x.natAbs<65536^32:=hx
  have hy':y.natAbs<65536^32:=hy
  have hl:=(fF (B:=y.natAbs) (by omega)).1
  refine aa h1 (aa (z:=I w1) rfl (aa (z:=.bool b1) rfl (aa h2 (aa (z:=I w2) rfl (aa (z:=.bool b2) rfl (aa (z:=b1) rfl (aa (z:=false) (by cases b1<;>cases b2<;>simp at hb<;>rfl) (aa (z:=false) rfl (aa (z:=false) rfl (aa (z:=false) rfl ?_))))))))))
  rw[if_neg (by decide)]
  refine aa (oV (n+1) hx) (aa bN (aa (z:=false) rfl (aa (z:=false) (by rw[if_neg (by decide)];exact aa (oV (n+1) hy) rfl) (aa (z:=false) rfl (aa (z:=false) ?_ (aa (z:=false) rfl ?_))))))
  ·rw[if_neg (by decide)]
   refine aa (tu (n+1) hy) (aa (z:=ag (ay y.natAbs)) rfl ?_)
   show D.truth (.bool (D.beq (I ((ag (ay y.natAbs)).length:Nat)) (I ((0:Nat):Int))))=_
   rw[aj,bP,decide_eq_false (by omega)];rfl
  rw[if_neg (by decide)]
  have hmod:x.natAbs%y.natAbs=0:=by rw[hq,Int.natAbs_mul];exact Nat.mul_mod_right _ _
  have hqt:x.natAbs/y.natAbs<65536^32:=Nat.lt_of_le_of_lt (Nat.div_le_self _ _) hx'
  have h143:=GH n (zD hx') (B:=y.natAbs) (by omega) (zD hy')
  rw[hmod,bO] at h143
  have hb':(!(D.beq (.bool (decide (x<0))) (.bool (decide (y<0)))))=!(decide (decide (x<0)=decide (y<0))):=by
   by_cases h1:x<0<;>by_cases h2:y<0<;>simp[h1,h2,D.beq]
  refine aa (tu (n+1) hx) (aa (tu (n+1) hy) (aa h143 (aa (z:=.sl (ag (ay (x.natAbs/y.natAbs)))) rfl (aa (z:=.sl (ag [])) rfl ?_))))
  refine aa (z:=(0,[.sl (ag (ay (x.natAbs/y.natAbs)))])) ?_ (aa (bD x) (aa (bD y) ?_))
  ·refine aa (bD x) (aa (bD y) ?_)
   rw[hb']
   refine aa (z:=!(decide (decide (x<0)=decide (y<0)))) rfl (aa (z:=false) ?_ (aa (z:=false) rfl rfl))
   cases (!(decide (decide (x<0)=decide (y<0))))<;>rfl
  ·rw[hb']
   have lq:=bg 32 _ hqt
   refine aa (EK (n+1) (aT _) (by omega) (by rw[ap];exact hqt)) ?_
   rw[ap,y6 hy0 hq]
theorem SV(n:Nat){x d:Int}(hx:In x)(hd:In d)(hd0:d≠0):cA (n+5) 37 [ai x,ai d]=some (bU (Rat.divInt x d)):=by
 rw[Tn]
 unfold Js
 have hbe:∀ a b:Int,D.beq (I a) (.int .i64 b)=decide (a=b):=fun a b=>bk
 have hgp:0<Nat.gcd x.natAbs d.natAbs:=Nat.gcd_pos_of_pos_right _ (by omega)
 have dx:((Nat.gcd x.natAbs d.natAbs:Nat):Int) ∣ x:=Int.ofNat_dvd_left.2 (Nat.gcd_dvd_left _ _)
 have dd:((Nat.gcd x.natAbs d.natAbs:Nat):Int) ∣ d:=Int.ofNat_dvd_left.2 (Nat.gcd_dvd_right _ _)
 have hgle:Nat.gcd x.natAbs d.natAbs<=d.natAbs:=Nat.gcd_le_right _ (by omega)
 have hgin:In (Nat.gcd x.natAbs d.natAbs:Nat):=db.2 (Nat.lt_of_le_of_lt hgle (a8.1 hd))
 obtain⟨p1,p2⟩:=eK x hd0
 unfold bU
 rw[p1,p2]
 refine aa (oV (n+2) hx) (aa (z:=.bool false) rfl (aa (z:=false) rfl (aa (z:=false) ?_ (aa (z:=false) rfl (aa (z:=false) ?_ (aa (z:=false) rfl ?_))))))
 ·rw[if_neg (by decide)];exact aa (oV (n+2) hd) rfl
 ·rw[if_neg (by decide)]
  refine aa (Hv (n+1) hd) ?_
  rw[hbe,decide_eq_false (Cg hd0)];rfl
 rw[if_neg (by decide)]
 refine aa (GN n hx hd) ?_
 generalize Nat.gcd x.natAbs d.natAbs=g at *
 refine aa (z:=(0,[ai (if d<0 then -(g:Int) else(g:Int))])) ?_ ?_
 ·refine aa (Hv (n+1) hd) (aa ah (aa ae ?_))
  by_cases h:d<0
  ·rw[if_pos h]
   refine aH (by rw[uj h];decide) ?_
   exact aa (OL (n+1) hgin) rfl
  ·rw[if_neg h]
   exact aD (by rw[jh (by omega)];decide) rfl
 ·have hin2:In (if d<0 then -(g:Int) else(g:Int)):=by
   split
   ·rw[a8,Int.natAbs_neg];exact a8.1 hgin
   ·exact hgin
  have hne:(if d<0 then -(g:Int) else(g:Int))≠0:=by split<;>omega
  have ddx:(if d<0 then -(g:Int) else(g:Int)) ∣ x:=by split<;>first|exact Int.neg_dvd.2 dx|exact dx
  have ddd:(if d<0 then -(g:Int) else(g:Int)) ∣ d:=by split<;>first|exact Int.neg_dvd.2 dd|exact dd
  exact aa (A9 n hx hin2 hne ddx) (aa (A9 n hd hin2 hne ddd) rfl)
end Sy
end
end Go.Proofs.YtpahompifldeeaaGreat
