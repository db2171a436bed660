/- Part 18 of the proof that PlaneOfBoxes answers true at every input -/
import Derived.Test.YtphlmegkommlnaaGreatDoorBoxe01
import Derived.Test.YtphlmegkommlnaaGreatDoorBoxe17
set_option linter.unusedVariables false
set_option linter.unusedSimpArgs false
set_option linter.unnecessarySimpa false
set_option linter.defProp false
set_option maxRecDepth 20000
namespace Go.Proofs.YtphlmegkommlnaaGreatDoor
noncomputable section
namespace Sy
open Go Go.Proofs Geo
def oy(q:V×Int)(p:List Nat):D:=.st [ae q.1,I q.2,.sl (am p)]
def de(l:List V):D:=.st [bD l]
def HU(l:List V):Prop:=∀ i j,i<j->j<l.length->aE (pt l i) (pt l j)
def Qe{l:List V}(hl:∀ x∈l,bd MV x){m:V}{d:Int}(h:IsF (pt l) l.length m d):bd 549755813888 m:=by
 obtain⟨i,j,k,h1,h2,h3,e,b,f⟩:=h.ex;have a:=hl _ (cX (show i<l.length by omega))
 have c:=hl _ (cX (show j<l.length by omega))
 have hk:=hl _ (cX h3);have:=fA (jy (oJ (P:=pt l) a c) (oJ (P:=pt l) a hk));rcases b with rfl|rfl
 ·exact this
 ·exact rA this
def p18(n:Nat){l:List V}(hl:∀ x∈l,bd MV x)(hlen:l.length<=100)(hs:HU l):∃ (L:List (V×Int)) (poly:V×Int->List Nat),Facets (pt l) l.length L/\(∀ q∈L,bB (pt l) l.length q.1 q.2 (poly q))/\L.length<=2000000 ∧
  cA (n+7) 18 [de l]=some (.sl (L.map λq=>oy q (poly q))):=by
 obtain⟨y,h1,K,L,h2,h3,g,rfl⟩:=p45 n hl hlen;have b:=h2.facets h3 g;have e:L.length<=2000000:=by rw[h3.length_eq];exact h2.len hlen
 have hex:∀ q:V×Int,∃ p,q∈L->bB (pt l) l.length q.1 q.2 p/\cA (n+6) 46 [bD l,cJ q]=some (.sl (am p)):=λq=>by
  by_cases hq:q∈L
  ·have hF:=(b.mem q).1 hq;obtain⟨p,k,m⟩:=p46 (n+1) hl hlen hs hF (Qe hl hF);exact⟨p,λ_=>⟨k,m⟩⟩
  ·exact⟨[],λh=>z3a h hq⟩
 obtain⟨poly,a⟩:∃ poly:V×Int->List Nat,∀ q∈L,bB (pt l) l.length q.1 q.2 (poly q)/\cA (n+6) 46 [bD l,cJ q]=some (.sl (am (poly q))):=⟨λq=>Classical.choose (hex q),λq hq=>Classical.choose_spec (hex q) hq⟩;refine⟨L,poly,b,λq hq=>(a q hq).1,e,?_⟩;have hp:=λq (hq:q∈L)=>(a q hq).2;rw[u18]
 delta Tf qG qB qC qS qX qV qW qZ iL iR Jn
 refine j0 (bD l) (aa h1 (j0 (L.map cJ) ?_));have f:(L.map cJ).length=L.length:=zta ..;refine bO (λi s=>s=[.sl ((L.take i).map λq=>oy q (poly q)),I (i:Int)]) L.length 0 (zxa _) rfl (λi c s d=>?_) (λs d=>?_)
 ·subst d;left;refine⟨_,?_,rfl⟩;refine aa af (aa ac (aO (by show((i:Int)<((L.map cJ).length:Int));rw[f];omega) ?_))
  have j:(L.map cJ)[i]?=some (cJ L[i]):=by simp[c]
  refine j0 (L.map cJ) (aa (z:=i) (by rw[f];exact aq c) (aa j ?_))
  refine j0 (ae L[i].1) (j0 (I L[i].2) (j0 (bD l) (aa (hp L[i] (zDa c)) ?_)));rw[zma (by simp only[g0,D.els,zta,zcb,zRa,zMb];omega)]
  refine aa (ay (aH (i:=i) j1)) ?_
  rw[zUa c,zLb];rfl
 ·subst d;refine⟨(0,[.sl ((L.take L.length).map λq=>oy q (poly q))]),?_,?_⟩
  ·refine aa af (aa ac (aU (by show ¬ ((L.length:Int)<((L.map cJ).length:Int));rw[f];omega) rfl))
  ·rw[zub];rfl
def jf(e:Nat×Nat):D:=.st [I (e.1:Int),I (e.2:Int)]
def M4{a b:Nat×Nat}(h:Cf a b):rp [bg (a.1:Int) b.1,bg (a.2:Int) b.2]=-1:=by
 simp only[Cf] at h;rcases h with h|⟨h1,h⟩
 ·have:(a.1:Int)<b.1:=j1
  simp[rp,bg,this]
 ·have e:(a.1:Int)=b.1:=j1
  have:(a.2:Int)<b.2:=j1
  simp[rp,bg,e,this]
def MZ{a b:Nat×Nat}(h:Cf b a):rp [bg (a.1:Int) b.1,bg (a.2:Int) b.2]=1:=by
 simp only[Cf] at h;rcases h with h|⟨h1,h⟩
 ·have:(b.1:Int)<a.1:=j1
  simp[rp,bg,this,zSb.2 (zpa this)]
 ·have e:(a.1:Int)=b.1:=j1
  have:(b.2:Int)<a.2:=j1
  simp[rp,bg,e,this,zSb.2 (zpa this)]
def IB(n:Nat)(p q:Nat×Nat):uM (db bf (cA (n+3)) (jZ bf (cA (n+3)))) (cE 51) (jf p) (jf q)=some (rp [bg (p.1:Int) q.1,bg (p.2:Int) q.2]):=by
 unfold uM;rw[show ∀ l,(db bf (cA (n+3)) (jZ bf (cA (n+3)))).call (cE 51) l=cA (n+3) 51 l from λl=>congrFun (zna (cA (n+3)) (show uJ (cE 51)=51 by kernel_rfl)) l,show jf p=.st [I (p.1:Int),I (p.2:Int)] from rfl,show jf q=.st [I (q.1:Int),I (q.2:Int)] from rfl,c51]
 rfl
theorem OG(n:Nat):∀ (L:List (Nat×Nat)),L.Pairwise Cf->tS (db bf (cA (n+3)) (jZ bf (cA (n+3)))) (cE 51) (L.map jf)=true
 | [],_=>rfl
 | p::L,h=>by
  obtain⟨h1,h2⟩:=zJa.1 h;simp only[zbb,tS,zaa,zEa,zNa];refine⟨⟨?_,?_⟩,OG n L h2⟩
  ·simp only[Hv,IB];simp[rp,bg]
  ·rintro _ ⟨q,hq,rfl⟩;simp only[sj,Hv,IB,M4 (h1 q hq),MZ (h1 q hq)];decide
def NJ{a b:Nat×Nat}(h:a≠b):Cf a b\/Cf b a:=by
 obtain⟨a1,a2⟩:=a;obtain⟨c,d⟩:=b;simp only[Cf];by_cases h1:a1=c<;>by_cases h2:a2=d
 ·subst h1;subst h2;exact z3a rfl h
 all_goals omega
theorem CE:∀ (K:List (Nat×Nat)),K.Nodup->∃ L:List (Nat×Nat),L.Perm K/\L.Pairwise Cf
 | [],_=>⟨[],.refl _,.nil⟩
 | x::K,h=>by
  obtain⟨h1,h2⟩:=List.nodup_cons.1 h;obtain⟨L,b,d⟩:=CE K h2;have ins:∀ L:List (Nat×Nat),L.Pairwise Cf->(∀ y∈L,x≠y)->∃ M:List (Nat×Nat),M.Perm (x::L)/\M.Pairwise Cf:=by
   intro L
   induction L with
   | nil=>intro _ _;exact⟨[x],.refl _,j3⟩
   | cons y L ih=>
    intro hp hn;obtain⟨c,f⟩:=zJa.1 hp;rcases NJ (hn y zsa) with k|k
    ·refine⟨x::y::L,.refl _,zJa.2 ⟨λz a=>?_,hp⟩⟩;rcases zBa.1 a with rfl|a
     ·exact k
     ·have:=c z a;simp only[Cf] at *;omega
    ·obtain⟨M,m1,m2⟩:=ih f (λz a=>hn z (zoa _ a));refine⟨y::M,(m1.cons y).trans (.swap x y L),zJa.2 ⟨λz a=>?_,m2⟩⟩;rcases zBa.1 (m1.subset a) with rfl|a
     ·exact k
     ·exact c z a
  obtain⟨M,m1,m2⟩:=ins L d (λy hy e=>h1 (b.subset (e ▸ hy)));exact⟨M,m1.trans (b.cons x),m2⟩
def lZ{p:List Nat}{k:Nat}(h:k<p.length):(am p)[k]?=some (I (p.getD k 0:Nat)):=by simp[am,List.getD,h]
def fQ(p:List Nat)(k:Nat):List (Nat×Nat):=(List.range k).filterMap λk=>if p.getD k 0<p.getD ((k+1)%p.length) 0 then some (p.getD k 0,p.getD ((k+1)%p.length) 0) else none
def zw(p:List Nat)(k:Nat):fQ p (k+1)=if p.getD k 0<p.getD ((k+1)%p.length) 0 then fQ p k++[(p.getD k 0,p.getD ((k+1)%p.length) 0)] else fQ p k:=by
 unfold fQ;rw[z8b,List.filterMap_append];split
 ·rename_i h;simp only[List.filterMap_cons,List.filterMap_nil,zma h]
 ·rename_i h;simp only[List.filterMap_cons,List.filterMap_nil,zia h,zvb]
def td(p:List Nat)(k:Nat):(fQ p k).length<=k:=by unfold fQ;exact zHa (List.length_filterMap_le _ _) j3
def p21(n:Nat){l:List V}{L:List (V×Int)}{poly:V×Int->List Nat}(h18:cA (n+7) 18 [de l]=some (.sl (L.map λq=>oy q (poly q))))(hL:L.length<=2000000)(hp:∀ q∈L,(poly q).length<=100/\0<(poly q).length)
  (h:(c9 L poly).Nodup):∃ E:List (Nat×Nat),E.Perm (c9 L poly)/\E.Pairwise Cf/\cA (n+8) 21 [de l]=some (.sl (E.map jf)):=by
 obtain⟨E,o,r⟩:=CE _ h;refine⟨E,o,r,?_⟩;rw[u21];unfold QP;refine aa h18 (j0 (L.map λq=>oy q (poly q)) ?_);have j:(L.map λq=>oy q (poly q)).length=L.length:=zta ..;have t:∀ i,i<=L.length->(c9 (L.take i) poly).length<=i*100:=λi d=>by
  induction i with
  | zero=>simp[c9]
  | succ i ih=>
   have e:i<L.length:=j1
   rw[zUa e,c9,List.flatMap_append,zua];have h1:=ih j1
   simp only[c9] at h1;have h2:(lX (poly L[i])).length<=100:=zHa (td (poly L[i]) (poly L[i]).length) (hp _ (zDa e)).1;simp only[List.flatMap_cons,List.flatMap_nil,zvb];omega
 refine bO (λi s=>s=[.sl ((c9 (L.take i) poly).map jf),I (i:Int)]) L.length 0 (zxa _) rfl (λi d s b=>?_) (λs b=>?_)
 ·subst b;left;refine⟨_,?_,rfl⟩;refine aa af (aa ac (aO (by show((i:Int)<((L.map λq=>oy q (poly q)).length:Int));rw[j];omega) ?_))
  have w:(L.map λq=>oy q (poly q))[i]?=some (oy L[i] (poly L[i])):=by simp[d]
  refine j0 (L.map λq=>oy q (poly q)) (aa (z:=i) (by rw[j];exact aq d) (aa w (j0 (.sl (am (poly L[i]))) (j0 (am (poly L[i])) ?_))))
  obtain⟨x,m⟩:=hp L[i] (zDa d);have u:=t i j1
  obtain⟨M,c⟩:∃ M,M=c9 (L.take i) poly:=⟨_,rfl⟩;rw[<-c] at u ⊢;have g:c9 (L.take (i+1)) poly=M++fQ (poly L[i]) (poly L[i]).length:=by rw[zUa d,c,c9,List.flatMap_append];simp[c9,lX,fQ]
  rw[g];generalize poly L[i]=p at *;refine cD (λk s=>s=[.sl ((M++fQ p k).map jf),I (k:Int)]) p.length 0 (zxa _) (by simp[fQ,g0,D.els]) (λk hk s b=>?_) (λs b=>?_)
  ·subst b;left;refine⟨_,?_,rfl⟩;refine aa af (aa ac (aO (by show((k:Int)<((am p).length:Int));rw[aF];omega) ?_))
   have a:(k+1)%p.length<p.length:=z4a _ m;have f:(((k:Int)+1).tmod (p.length:Int))=(((k+1)%p.length:Nat):Int):=by rw[show((k:Int)+1)=((k+1:Nat):Int) by omega];exact zod ..
   refine aa (z:=(0,[.sl ((M++fQ p (k+1)).map jf)])) ?_ (aa (ay (aH (i:=k) j1)) rfl)
   refine j0 (am p) (aa (z:=k) (by rw[aF];exact aq hk) (aa (lZ hk) (j0 (.sl (am p)) (aa (ay (aH (i:=k) j1)) (j0 (.sl (am p)) (j0 (am p) ?_))))))
   refine aa (z:=I (((k+1)%p.length:Nat):Int)) (by rw[show((am p).length:Int)=(p.length:Int) by rw[aF],j6 j1,f]) ?_
   refine j0 (am p) (aa (z:=(k+1)%p.length) (by rw[aF];exact aq a) (aa (lZ a) (aa af (aa ac ?_))))
   rw[zw];have v:=td p k;by_cases hab:p.getD k 0<p.getD ((k+1)%p.length) 0
   ·refine aO (by show((p.getD k 0:Nat):Int)<((p.getD ((k+1)%p.length) 0:Nat):Int);omega) ?_
    rw[zma hab,zma (by simp only[g0,D.els,zta,zua,zRa,zMb];omega)]
    simp[g0,D.els,jf]
   ·refine aU (by show ¬ ((p.getD k 0:Nat):Int)<((p.getD ((k+1)%p.length) 0:Nat):Int);omega) ?_
    rw[zia hab];rfl
  ·subst b;refine⟨(0,[.sl ((M++fQ p p.length).map jf)]),?_,?_⟩
   ·refine aa af (aa ac (aU (by show ¬ ((p.length:Int)<((am p).length:Int));rw[aF];omega) rfl))
   ·exact aa (ay (aH (i:=i) j1)) rfl
 ·subst b;refine⟨(0,[.sl ((c9 (L.take L.length) poly).map jf)]),?_,?_⟩
  ·refine aa af (aa ac (aU (by show ¬ ((L.length:Int)<((L.map λq=>oy q (poly q)).length:Int));rw[j];omega) rfl))
  ·have hu:=t L.length (zja _);rw[zub] at hu ⊢;refine aa (z:=(c9 L poly).map jf) ?_ (aa (ww (OG (n+4) E r) (o.symm.map _)) rfl);exact aO (by show((c9 L poly).map jf).length<=1073741824;rw[zta];omega) rfl
abbrev FL:=List ((V×Int)×List Nat)
def aS(L:FL):List D:=L.map λf=>oy f.1 f.2
def bh(L:FL):(aS L).length=L.length:=zta ..
def gd{L:FL}{i:Nat}(h:i<L.length):(aS L)[i]?=some (oy L[i].1 L[i].2):=by simp[aS,h]
def Xf(n:Nat)(L:FL)(m:V)(hL:L.length<=3000000):cA (n+1) 108 [.sl (aS L),ae m]=some (.bool (L.any λf=>decide (f.1.1=m))):=by
 rw[Ye]
 delta KX qB qT qX qL qZ iL iR Jn
 refine bO (λi s=>s=[I (i:Int)]/\(L.take i).any (λf=>decide (f.1.1=m))=false) L.length 0 (zxa _) ⟨rfl,j3⟩ (λi a s c=>?_) (λs c=>?_)
 ·obtain⟨rfl,b⟩:=c;by_cases he:L[i].1.1=m
  ·right;refine⟨(0,[.bool true]),?_,?_⟩
   ·refine j0 (aS L) (aa af (aa ac (aO (by show((i:Int)<((aS L).length:Int));rw[bh];omega) ?_)))
    refine j0 (aS L) (aa (z:=i) (by rw[bh];exact aq a) (aa (gd a) (j0 (ae L[i].1.1) ?_)))
    rw[kP];exact aa ac (aO he rfl)
   ·have:L.any (λf=>decide (f.1.1=m))=true:=zic.2 ⟨L[i],zDa a,by simpa using he⟩
    simp[this,g0]
  ·left;refine⟨[I ((i+1:Nat):Int)],?_,rfl,?_⟩
   ·refine j0 (aS L) (aa af (aa ac (aO (by show((i:Int)<((aS L).length:Int));rw[bh];omega) ?_)))
    refine j0 (aS L) (aa (z:=i) (by rw[bh];exact aq a) (aa (gd a) (j0 (ae L[i].1.1) ?_)))
    rw[kP];exact aa ac (aU he (aa (ay (aH (i:=i) j1)) rfl))
   ·rw[zUa a,zBd,b];simp[he]
 ·obtain⟨rfl,b⟩:=c;rw[zub] at b;refine⟨(1,[]),?_,by simp[b]⟩
  exact j0 (aS L) (aa af (aa ac (aU (by show ¬ ((L.length:Int)<((aS L).length:Int));rw[bh];omega) rfl)))
def mM(f:(V×Int)×List Nat):FL->FL
 | []=>[f]
 | x::L=>if aE f.1.1 x.1.1 then f::x::L else x::mM f L
def Xh(n:Nat)(L:FL)(f:(V×Int)×List Nat)(hL:L.length<=3000000):cA (n+2) 110 [.sl (aS L),oy f.1 f.2]=some (.sl (aS (mM f L))):=by
 rw[Yg]
 delta KZ qG qB qT qN qX qL qV qW qZ iL iR Jn
 have app:∀ (o:FL) (x:(V×Int)×List Nat),aS o++[oy x.1 x.2]=aS (o++[x]):=λo x=>by simp[aS]
 refine bO (λi s=>∃ (out:FL) (put:Bool),s=[.sl (aS out),.bool put,I (i:Int)]/\out.length<=2*i/\(put=false->mM f L=out++mM f (L.drop i))/\(put=true->mM f L=out++L.drop i)) L.length 0 (zxa _) ⟨[],false,rfl,j3,j3,j3⟩ (λi a s b=>?_) (λs b=>?_)
 ·obtain⟨out,put,rfl,g,h1,h2⟩:=b;left;have c:L.drop i=L[i]::L.drop (i+1):=zQb a;have hc:=Rt n f.1.1 L[i].1.1;obtain⟨o,p,he,l,j,k⟩:∃ o p,(if put=false/\aE f.1.1 L[i].1.1 then(out++[f],true) else(out,put))=(o,p)/\o.length<=2*i+1/\(p=false->mM f L=o++L[i]::mM f (L.drop (i+1)))/\(p=true->mM f L=o++L[i]::L.drop (i+1)):=by
   by_cases hput:put=false/\aE f.1.1 L[i].1.1
   ·refine⟨_,_,zma hput,by simp;omega,j3,λ_=>?_⟩
    rw[h1 hput.1,c];simp[mM,hput.2]
   ·refine⟨_,_,zia hput,j1,λhp=>?_,λhp=>?_⟩
    ·have e:¬ aE f.1.1 L[i].1.1:=λh=>hput ⟨hp,h⟩;rw[h1 hp,c];simp[mM,e]
    ·rw[h2 hp,c]
  refine⟨[.sl (aS (o++[L[i]])),.bool p,I ((i+1:Nat):Int)],?_,o++[L[i]],p,rfl,by simp;omega,λhp=>by rw[j hp];simp,λhp=>by rw[k hp];simp⟩
  refine j0 (aS L) (aa af (aa ac (aO (by show((i:Int)<((aS L).length:Int));rw[bh];omega) ?_)))
  refine j0 (ae f.1.1) (j0 (aS L) (aa (z:=i) (by rw[bh];exact aq a) (aa (gd a) (j0 (ae L[i].1.1) (aa hc ?_)))))
  refine aa (z:=(0,[.sl (aS o),.bool p])) ?_ ?_
  ·refine j0 (.bool (!put)) (j0 (!put) (aa (z:=!put&&decide (aE f.1.1 L[i].1.1)) ?_ (j0 (!put&&decide (aE f.1.1 L[i].1.1)) ?_)))
   ·cases put
    ·exact ac
    ·rfl
   ·by_cases hput:put=false/\aE f.1.1 L[i].1.1
    ·rw[zma hput] at he;obtain⟨rfl,d⟩:=hput;cases he;rw[show(!false&&decide (aE f.1.1 L[i].1.1))=true by simp[d],zma rfl,zma (by simp only[g0,D.els,bh,zRa,zMb];omega)]
     simp only[g0,D.els,app]
    ·rw[zia hput] at he;cases he;rw[show(!put&&decide (aE f.1.1 L[i].1.1))=false by
      cases put
      ·simpa using hput
      ·rfl]
     rfl
  ·refine j0 (aS L) (aa (z:=i) (by rw[bh];exact aq a) (aa (gd a) ?_))
   rw[zma (by simp only[g0,D.els,bh,zRa,zMb];omega)]
   refine aa (ay (aH (i:=i) j1)) ?_
   simp only[g0,g1,D.els,app];rfl
 ·obtain⟨out,put,rfl,g,h1,h2⟩:=b;refine⟨(0,[.sl (aS out),.bool put]),?_,?_⟩
  ·exact j0 (aS L) (aa af (aa ac (aU (by show ¬ ((L.length:Int)<((aS L).length:Int));rw[bh];omega) rfl)))
  ·cases put
   ·have:=h1 rfl;rw[zad] at this;rw[this];refine aa (z:=(0,[.sl (aS (out++[f]))])) ?_ rfl;refine j0 (.bool true) (j0 true ?_);rw[zma rfl,zma (by simp only[g0,D.els,bh,zRa,zMb];omega)]
    simp only[g0,D.els,app]
   ·have:=h2 rfl;rw[zad,zvb] at this;rw[this];rfl
def iY(l:List V)(m:V)(a b x:Nat):Bool:=
 decide (0<=T m (wy (pt l) a b) (wy (pt l) a x))&&(!decide (T m (wy (pt l) a b) (wy (pt l) a x)=0)||(decide (0<=V.dot (wy (pt l) a x) (wy (pt l) a b))&&decide (V.dot (wy (pt l) a x) (wy (pt l) a b)<=V.dot (wy (pt l) a b) (wy (pt l) a b))))
def DY{l:List V}{m:V}{a b x:Nat}:iY l m a b x=true↔(0<=T m (wy (pt l) a b) (wy (pt l) a x)/\(T m (wy (pt l) a b) (wy (pt l) a x)=0->0<=V.dot (wy (pt l) a x) (wy (pt l) a b)/\V.dot (wy (pt l) a x) (wy (pt l) a b)<=V.dot (wy (pt l) a b) (wy (pt l) a b))):=by simp only[iY,zaa,zac,zTa,zfa,decide_eq_false_iff_not];by_cases h:T m (wy (pt l) a b) (wy (pt l) a x)=0<;>simp[h]
def yK(l:List V)(m:V)(d:Int)(a b:Nat):Bool:=(aN (pt l) l.length m d).all λx=>iY l m a b x
def yL{l:List V}{m:V}{d:Int}{a b:Nat}(e:b∈aN (pt l) l.length m d)(c:b≠a):yK l m d a b=true↔Side m (pt l) (aN (pt l) l.length m d) a b:=by simp only[yK,zEa,DY];exact⟨λh=>⟨e,c,h⟩,λh=>h.all⟩
def Xr(n:Nat){l:List V}(hl:∀ x∈l,bd MV x)(hlen:l.length<=100){m:V}{d:Int}(E:m≠V.zero)(hm:bd 549755813888 m){a b:Nat}(p:a<l.length)(W:b<l.length)(j:V.dot m (pt l a)=d)(C:V.dot m (pt l b)=d) :
  cA (n+3) 156 [bD l,ae m,I d,ae (pt l a),ae (pt l b)]=some (.bool (yK l m d a b)):=by
 rw[YK]
 delta LF qB qC qT qX qL qZ iL iR Jn
 have w1:bd 524288 (wy (pt l) a b):=oJ (hl _ (cX p)) (hl _ (cX W));refine aa (z:=ae (wy (pt l) a b)) (F8 (n+1) (hl _ (cX W)) (hl _ (cX p)) j2) ?_
 have f:(l.map ae).length=l.length:=zta ..;have F:V.dot m (wy (pt l) a b)=0:=by rw[bq,j,C];omega
 refine bO (λi s=>s=[I (i:Int)]/\(aN (pt l) i m d).all (λx=>iY l m a b x)=true) l.length 0 (zxa _) ⟨rfl,by simp[aN]⟩ (λi c s B=>?_) (λs B=>?_)
 ·obtain⟨rfl,q⟩:=B;have hc:=F7 (n+1) hm (hl _ (cX c)) j2
  by_cases hon:V.dot m (pt l i)=d
  ·have Y:bd 524288 (wy (pt l) a i):=oJ (hl _ (cX p)) (hl _ (cX c));have G:V.dot m (wy (pt l) a i)=0:=by rw[bq,j,hon];omega
   have c1:=F8 (n+1) (hl _ (cX c)) (hl _ (cX p)) j2
   have c2:=Rx (n+1) w1 Y j2
   have S:=Xw n m (V.cross (wy (pt l) a b) (wy (pt l) a i));rw[E4 E (eD F G)] at S;have U:=F7 (n+1) Y w1 j2
   have Z:=F7 (n+1) w1 w1 j2
   have step:∀ (y:Nat×List D),y=(if iY l m a b i then(0,[]) else(1,[D.bool false]))->((D.asSl (bD l)).bind λX=>(D.idx (I (i:Int)) (List.length X)).bind λi7=>
     (X[i7]?).bind λx8=>(cA (n+2) 107 [ae m,x8]).bind λr9=>(D.truth (D.bool (!(D.beq r9 (I d))))).bind λr=>
     if r then(some ((0:Nat),([]:List D))) else((D.asSl (bD l)).bind λk=>(D.idx (I (i:Int)) (List.length k)).bind λwT=>
     (k[wT]?).bind λO=>(cA (n+2) 112 [O,ae (pt l a)]).bind λg=>(cA (n+2) 123 [ae (wy (pt l) a b),g]).bind λH=>(cA (n+2) 188 [ae m,H]).bind λo=>
     (ab7 .lss o (D.int .i64 0)).bind λP=>(D.truth P).bind λt=>
     Option.bind (if t then(some true) else((D.truth (D.bool (D.beq o (D.int .i64 0)))).bind λu=>
     if u then((cA (n+2) 107 [g,ae (wy (pt l) a b)]).bind λJ=>(ab7 .lss J (D.int .i64 0)).bind λQ=>(D.truth Q).bind λv=>
     if v then(some true) else((cA (n+2) 107 [g,ae (wy (pt l) a b)]).bind λK=>(cA (n+2) 107 [ae (wy (pt l) a b),ae (wy (pt l) a b)]).bind λL=>
     (ab7 .gtr K L).bind λR=>D.truth R)) else(some false))) λw=>(D.truth (D.bool w)).bind λA=>
     if A then(some (1,[(D.bool false)])) else(some (0,[]))))=some y:=by
    intro y hy;refine j0 (l.map ae) (aa (z:=i) (by rw[f];exact aq c) (aa (er c) (aa hc (aa (z:=false) ?_ ?_))))
    ·rw[cg,show V.dot m (l.getD i V.zero)=d from hon];simp[D.truth]
    rw[zia j2]
    refine j0 (l.map ae) (aa (z:=i) (by rw[f];exact aq c) (aa (er c) (aa (z:=ae (wy (pt l) a i)) c1 (aa c2 (aa S (aa af (aa ac ?_)))))))
    rw[hy];have e:V.dot m (V.cross (wy (pt l) a b) (wy (pt l) a i))=T m (wy (pt l) a b) (wy (pt l) a i):=rfl;rw[e];refine aa (z:=!iY l m a b i) ?_ ?_
    ·by_cases t1:T m (wy (pt l) a b) (wy (pt l) a i)<0
     ·rw[Qf (Fx.2 t1)];have:¬ (0<=T m (wy (pt l) a b) (wy (pt l) a i)):=j1
      simp[iY,this]
     ·rw[Qg (λh=>t1 (Fx.1 h))];have M:0<=T m (wy (pt l) a b) (wy (pt l) a i):=j1
      by_cases t2:T m (wy (pt l) a b) (wy (pt l) a i)=0
      ·refine aa (z:=true) (by rw[cg,zha (ib.2 t2)];rfl) ?_
       rw[zma rfl];refine aa U (aa af (aa ac ?_));by_cases t3:V.dot (wy (pt l) a i) (wy (pt l) a b)<0
       ·rw[Qf t3];have:¬ (0<=V.dot (wy (pt l) a i) (wy (pt l) a b)):=j1
        simp[iY,t2,this]
       ·rw[Qg t3];refine aa U (aa Z (aa dM ?_));rw[ac];have N:0<=V.dot (wy (pt l) a i) (wy (pt l) a b):=j1
        simp only[iY,t2,N,decide_true,zDb,zlc,Bool.false_or,zjc];by_cases t4:V.dot (wy (pt l) a i) (wy (pt l) a b)<=V.dot (wy (pt l) a b) (wy (pt l) a b)
        ·have:¬ (V.dot (wy (pt l) a i) (wy (pt l) a b)>V.dot (wy (pt l) a b) (wy (pt l) a b)):=j1
         simp[t4,this]
        ·have:(V.dot (wy (pt l) a i) (wy (pt l) a b)>V.dot (wy (pt l) a b) (wy (pt l) a b)):=j1
         simp[t4,this]
      ·refine aa (z:=false) (by rw[cg,zea (λh=>t2 (ib.1 h))];rfl) ?_
       simp[iY,t2,M]
    ·refine aa ac ?_;cases iY l m a b i<;>rfl
   cases hk:iY l m a b i
   ·right;rw[hk] at step;refine⟨(0,[.bool false]),?_,?_⟩
    ·exact j0 (l.map ae) (aa af (aa ac (aO (by show((i:Int)<((l.map ae).length:Int));rw[f];omega) (aa (step _ rfl) rfl))))
    ·have:yK l m d a b=false:=by
      rw[zoc];intro h;have:=zEa.1 h i (av.2 ⟨c,hon⟩);rw[hk] at this;exact z3a this j2
     rw[this];rfl
   ·left;rw[hk] at step;refine⟨[I ((i+1:Nat):Int)],?_,rfl,?_⟩
    ·exact j0 (l.map ae) (aa af (aa ac (aO (by show((i:Int)<((l.map ae).length:Int));rw[f];omega) (aa (step _ rfl) (by rw[zma rfl,zma rfl];exact aa (ay (aH (i:=i) j1)) rfl)))))
    ·rw[lm,zma hon,zhd,q];simp[hk]
  ·left;refine⟨[I ((i+1:Nat):Int)],?_,rfl,?_⟩
   ·refine j0 (l.map ae) (aa af (aa ac (aO (by show((i:Int)<((l.map ae).length:Int));rw[f];omega) (aa (z:=(0,[])) ?_ (by rw[zma rfl];exact aa (ay (aH (i:=i) j1)) rfl)))))
    refine j0 (l.map ae) (aa (z:=i) (by rw[f];exact aq c) (aa (er c) (aa hc (aa (z:=true) ?_ rfl))))
    rw[cg,zea (show ¬ V.dot m (l.getD i V.zero)=d from hon)];rfl
   ·rw[lm,zia hon];exact q
 ·obtain⟨rfl,q⟩:=B;refine⟨(1,[]),?_,?_⟩
  ·exact j0 (l.map ae) (aa af (aa ac (aU (by show ¬ ((l.length:Int)<((l.map ae).length:Int));rw[f];omega) rfl)))
  ·have:yK l m d a b=true:=q;rw[this];rfl
def E7{body:Bd}{s0:List D}{r:Nat×List D}(h:(bf body s0).bind some=some r):bf body s0=some r:=by
 cases hb:bf body s0 with
 | none=>rw[hb] at h;cases h
 | some z=>rw[hb] at h;exact h
def JL{P:Nat->V}{m:V}{d:Int}{i N a:Nat}(h:(aN P i m d).head?=some a)(b:i<=N):(aN P N m d).head?=some a:=by
 induction N with
 | zero=>
      have:i=0:=j1
      subst this;exact h
 | succ N ih=>
  by_cases e:i=N+1
  ·rw[<-e];exact h
  ·have:=ih j1
   rw[lm];split
   ·rw[List.head?_append,this];rfl
   ·exact this
theorem s7{body:Bd}{S:Nat->Nat->Prop}{a M:Nat}{G:Nat->Prop}(f:∀ c b,G c->S c b->G b)
  (d:∀ (c b:Nat) (out:List Nat),G c->S c b->b≠a->out.length<=M->body [.sl (am out),I (c:Int)]=some (.inl [.sl (am (out++[c])),I (b:Int)]))
  (e:∀ (c:Nat) (out:List Nat),G c->S c a->out.length<=M->body [.sl (am out),I (c:Int)]=some (.inr (0,[.sl (am (out++[c]))]))) :
  ∀ {c:Nat} {p:List Nat},Chain S a c p->G c->∀ out:List Nat,(out++p).length<=M->bf body [.sl (am out),I (c:Int)]=some (0,[.sl (am (out++p))])
 | c,_,.done s,hc,out,hl=>eH (e c out hc s (by simp at hl;omega))
 | c,_,.step (y:=y) (l:=p) s hy k,hc,out,hl=>by
  have h1:=d c y out hc s hy (by simp at hl;omega)
  rw[show bf body [.sl (am out),I (c:Int)]=bf body [.sl (am (out++[c])),I (y:Int)] from dV h1];have:=s7 f d e k (f c y hc s) (out++[c]) (by simpa using hl)
  rw[this];simp
def XY(n:Nat){l:List V}(hl:∀ x∈l,bd MV x)(hlen:l.length<=100)(hs:HU l){m:V}{d:Int}(hF:IsF (pt l) l.length m d)(hm:bd 549755813888 m){p:List Nat}(hp:bB (pt l) l.length m d p) :
  cA (n+4) 111 [bD l,ae m,I d]=some (.sl (am p)):=by
 have F:=hF.flat hs;obtain⟨X,R,A,J⟩:=hF.poly hs;have e:=bB.eq hs hF hp R;subst e;obtain⟨a,v,P⟩:=hp;have T:a∈aN (pt l) l.length m d:=List.mem_of_mem_head? (by rw[v];rfl)
 have H:∀ k∈aN (pt l) l.length m d,k<l.length:=λk hk=>(av.1 hk).1;have E:∀ k∈aN (pt l) l.length m d,V.dot m (pt l k)=d:=λk hk=>(av.1 hk).2;have L:(aN (pt l) l.length m d).length<=l.length:=by unfold aN;exact zHa (zAc _ _) (by rw[zsb];omega)
 have S:p.length<=l.length:=zHa (z2b A λz W=>((J z).1 W).1) L;have q:(l.map ae).length=l.length:=zta ..;rw[Yh]
 delta La qB qC qT qS qX qL qV qW qZ iL iR Jn
 have r:=λ(i:Nat) (j:i<l.length)=>F7 (n+2) hm (hl _ (cX j)) j2
 refine aa (z:=(0,[.sl [],I (a:Int)])) ?_ ?_
 ·refine E7 (cD (λi s=>s=[.sl [],kA ((aN (pt l) i m d).head?),I (i:Int)]) l.length 0 (zxa _) rfl (λi j s u=>?_) (λs u=>?_))
  ·subst u;cases hh:(aN (pt l) i m d).head? with
   | some a'=>
    right;have:=JL hh (zyc j);rw[v] at this;cases this;refine⟨(0,[.sl [],I (a:Int)]),?_,rfl⟩;refine j0 (l.map ae) (aa af (aa ac (aa (z:=false) (aO (by show((i:Int)<((l.map ae).length:Int));rw[q];omega) ?_) (aa ac ?_))))
    ·refine aa af ?_;rw[zea j1];rfl
    ·rfl
   | none=>
    left;have K:aN (pt l) i m d=[]:=by simpa using hh
    refine⟨[.sl [],kA ((aN (pt l) (i+1) m d).head?),I ((i+1:Nat):Int)],?_,rfl⟩;refine j0 (l.map ae) (aa af (aa ac (aa (z:=true) (aO (by show((i:Int)<((l.map ae).length:Int));rw[q];omega) (aa (af (a:=-1) (b:=0)) rfl)) (aa ac ?_))))
    rw[zma rfl];refine aa (z:=(0,[.sl [],kA ((aN (pt l) (i+1) m d).head?)])) ?_ (aa (ay (aH (i:=i) j1)) rfl)
    refine j0 (l.map ae) (aa (z:=i) (by rw[q];exact aq j) (aa (er j) (aa (r i j) ?_)))
    rw[cg,lm,K];by_cases f:V.dot m (pt l i)=d
    ·rw[zma f,zha (show V.dot m (l.getD i V.zero)=d from f)];rfl
    ·rw[zia f,zea (show ¬ V.dot m (l.getD i V.zero)=d from f)];rfl
  ·subst u;rw[v];refine⟨(0,[.sl [],I (a:Int)]),?_,rfl⟩;refine j0 (l.map ae) (aa af (aa ac (aa (z:=false) (aU (by show ¬ ((l.length:Int)<((l.map ae).length:Int));rw[q];omega) rfl) (aa ac rfl))))
 ·refine aa (z:=(0,[.sl (am ([]++p))])) ?_ rfl;refine s7 (M:=l.length) (G:=λc=>c∈aN (pt l) l.length m d) (λc b hc C=>C.mem) (λc b out hc C N Q=>?_) (λc out hc C Q=>?_) P T [] (by simpa using S)
  all_goals
   obtain⟨g,U,o⟩:∃ g,(g=a\/g≠a)/\Side m (pt l) (aN (pt l) l.length m d) c g:=by first|exact⟨_,Classical.em _,C⟩
   refine j0 (l.map ae) (aa mQ (aa ac (aO (by show(((am out).length:Int)<=((l.map ae).length:Int));rw[q,aF];omega) ?_)))
   rw[zma (by simp only[g0,D.els,aF,zRa,zMb];omega)]
   have B:am out++[I (c:Int)]=am (out++[c]):=by simp[am]
   have O:=H g o.mem;refine aa (z:=(0,[.sl (am (out++[c])),I (g:Int)])) ?_ ?_
   ·refine E7 (cD (λi s=>s=[.sl (am (out++[c])),kA (if g<i then some g else none),I (i:Int)]) l.length 0 (zxa _) (by simp[g0,g1,D.els,B,kA]) (λi j s u=>?_) (λs u=>?_))
    ·subst u;by_cases hbi:g<i
     ·right;rw[zma hbi];refine⟨(0,[.sl (am (out++[c])),I (g:Int)]),?_,rfl⟩;refine j0 (l.map ae) (aa af (aa ac (aa (z:=false) (aO (by show((i:Int)<((l.map ae).length:Int));rw[q];omega) ?_) (aa ac ?_))))
      ·refine aa af ?_;rw[zea j1];rfl
      ·rfl
     ·left;rw[zia hbi];refine⟨[.sl (am (out++[c])),kA (if g<i+1 then some g else none),I ((i+1:Nat):Int)],?_,rfl⟩
      refine j0 (l.map ae) (aa af (aa ac (aa (z:=true) (aO (by show((i:Int)<((l.map ae).length:Int));rw[q];omega) (aa (af (a:=-1) (b:=0)) rfl)) (aa ac ?_))))
      rw[zma rfl];refine aa (z:=(0,[.sl (am (out++[c])),kA (if g<i+1 then some g else none)])) ?_ (aa (ay (aH (i:=i) j1)) rfl)
      have w:=H c hc;by_cases f:i≠c/\V.dot m (pt l i)=d
      ·have t:i∈aN (pt l) l.length m d:=av.2 ⟨j,f.2⟩;refine aa (z:=true) (by show D.truth (D.bool (!(D.beq (I (i:Int)) (I (c:Int)))))=_;rw[dC,zea f.1];rfl) (aa (z:=true) ?_ (aa ac ?_))
       ·rw[zma rfl];refine j0 (l.map ae) (aa (z:=i) (by rw[q];exact aq j) (aa (er j) (aa (r i j) ?_)))
        rw[cg,zha (show V.dot m (l.getD i V.zero)=d from f.2)];rfl
       ·rw[zma rfl];refine j0 (l.map ae) (aa (z:=c) (by rw[q];exact aq w) (aa (er w) (j0 (l.map ae) (aa (z:=i) (by rw[q];exact aq j) (aa (er j) (aa (Xr n hl hlen hF.nz.1 hm w j (E c hc) f.2) (aa ac ?_)))))))
        by_cases y:i=g
        ·subst y;rw[(yL t f.1).2 o,zma rfl,zma j1];rfl
        ·have:yK l m d c i=false:=by
          rw[zoc];intro h;exact y (acJ F hc ((yL t f.1).1 h) o)
         rw[this,zia (show ¬ g<i+1 by omega)];rfl
      ·have y:i≠g:=λe=>f (by subst e;exact⟨o.ne,E _ o.mem⟩)
       rw[zia (show ¬ g<i+1 by omega)]
       by_cases hic:i=c
       ·subst hic;refine aa (z:=false) (by show D.truth (D.bool (!(D.beq (I (i:Int)) (I (i:Int)))))=_;rw[dC,zha rfl];rfl) (j0 false (aa ac rfl))
       ·have A:¬ V.dot m (l.getD i V.zero)=d:=λh=>f ⟨hic,h⟩;refine aa (z:=true) (by show D.truth (D.bool (!(D.beq (I (i:Int)) (I (c:Int)))))=_;rw[dC,zea hic];rfl) (aa (z:=false) ?_ (aa ac rfl))
        rw[zma rfl];refine j0 (l.map ae) (aa (z:=i) (by rw[q];exact aq j) (aa (er j) (aa (r i j) ?_)))
        rw[cg,zea A];rfl
    ·subst u;rw[zma O];refine⟨(0,[.sl (am (out++[c])),I (g:Int)]),?_,rfl⟩;exact j0 (l.map ae) (aa af (aa ac (aa (z:=false) (aU (by show ¬ ((l.length:Int)<((l.map ae).length:Int));rw[q];omega) rfl) (aa ac rfl))))
   ·have hu:=acJ F hc C o;subst hu;first
     | exact aa (z:=true) (by show D.truth (D.bool (D.beq (I (_:Int)) (I (_:Int))))=_;rw[dC,zha rfl];rfl) (j0 true (aa ac rfl))
     | exact aa (z:=false) (by show D.truth (D.bool (D.beq (I (_:Int)) (I (_:Int))))=_;rw[dC,zea N];rfl) (aa (z:=false) (by rw[zia j2];refine aa af ?_;rw[zea j1];rfl) (aa ac rfl))
def cM:List Nat->Nat
 | []=>0
 | d::l=>d+65536*cM l
def dl(l:List Nat):Prop:=∀ d∈l,d<65536
def dl.cons{d:Nat}{l:List Nat}(a:d<65536)(h:dl l):dl (d::l):=λx hx=>by
 rcases zBa.1 hx with rfl|hx
 ·exact a
 ·exact h x hx
def dl.append{a b:List Nat}(c:dl a)(d:dl b):dl (a++b):=λx hx=>by
 rcases List.mem_append.1 hx with hx|hx
 ·exact c x hx
 ·exact d x hx
theorem dl.getD{l:List Nat}(h:dl l)(i:Nat):l.getD i 0<65536:=by
 simp only[List.getD];cases hi:l[i]? with
 | none=>simp
 | some x=>exact h x (zdb hi)
def cK(m:Nat):List Nat:=if h:m=0 then[] else m%65536::cK (m/65536)
termination_by m
decreasing_by omega
def dD:cK 0=[]:=by unfold cK;simp
def jB{m:Nat}(h:m≠0):cK m=m%65536::cK (m/65536):=by rw[cK,dif_neg h]
def xB{d v:Nat}(a:d<65536)(h:d+65536*v≠0):cK (d+65536*v)=d::cK v:=by rw[jB h,show(d+65536*v)%65536=d by omega,show(d+65536*v)/65536=v by omega]
def gb(m:Nat):cM (cK m)=m:=by
 induction m using Nat.strongRecOn with
 | _ m ih=>
  by_cases h:m=0
  ·subst h;rw[dD];rfl
  ·rw[jB h,cM,ih _ j1];omega
def hC(m:Nat):dl (cK m):=by
 induction m using Nat.strongRecOn with
 | _ m ih=>
  by_cases h:m=0
  ·subst h;rw[dD];intro d a;cases a
  ·rw[jB h];exact dl.cons j1 (ih _ j1)
def Bo{m:Nat}:cK m=[]↔m=0:=by
 constructor
 ·intro h;have:=gb m;rw[h] at this;exact this.symm
 ·rintro rfl;exact dD
def xC(i:Nat):∀ m,(cK m).getD i 0=m/65536^i%65536:=by
 induction i with
 | zero=>
  intro m;by_cases h:m=0
  ·subst h;rw[dD];simp
  ·rw[jB h];simp
 | succ i ih=>
  intro m;by_cases h:m=0
  ·subst h;rw[dD];simp
  ·rw[jB h];show(cK (m/65536)).getD i 0=_;rw[ih,z6a,zgc,zab 65536]
def jA(k:Nat):∀ m,m<65536^k->(cK m).length<=k:=by
 induction k with
 | zero=>
      intro m h;have:m=0:=by simpa using h
      subst this;rw[dD];simp
 | succ k ih=>
  intro m h;by_cases h0:m=0
  ·subst h0;rw[dD];simp
  ·rw[jB h0,zRa];have:=ih (m/65536) (by rw[zgc] at h;exact zIc (by rw[zab];exact h))
   omega
def s9(a b:List Nat):cM (a++b)=cM a+65536^a.length*cM b:=by
 induction a with
 | nil=>simp[cM]
 | cons d a ih=> simp only[zBb,cM,ih,zRa,zgc];rw[zxc,<-zHb,zab 65536 (65536^a.length)];omega
def Dg(l:List Nat)(n:Nat):cM (l++List.replicate n 0)=cM l:=by
 rw[s9];have:∀ n,cM (List.replicate n 0)=0:=λn=>by
  induction n with
  | zero=>rfl
  | succ n ih=>rw[List.replicate_succ,cM,ih]
 rw[this];simp
def vt(l:List Nat):Nat->Nat
 | 0=>0
 | k+1=>vt l k+l.getD k 0*65536^k
def On(d:Nat)(l:List Nat)(k:Nat):vt (d::l) (k+1)=d+65536*vt l k:=by
 induction k with
 | zero=>simp[vt]
 | succ k ih=> rw[vt,ih,vt,zxc];have:(d::l).getD (k+1) 0=l.getD k 0:=rfl;rw[this,zgc,<-zHb,<-zHb,zab 65536 (l.getD k 0),zHb,zab (65536^k),<-zHb];omega
def QM(l:List Nat):vt l l.length=cM l:=by
 induction l with
 | nil=>rfl
 | cons d l ih=>rw[zRa,On,ih];rfl
def mA{l:List Nat}{k:Nat}(h:l.length<=k):vt l k=cM l:=by
 obtain⟨j,rfl⟩:∃ j,k=l.length+j:=⟨k-l.length,j1⟩
 clear h
 induction j with
 | zero=>exact QM l
 | succ j ih=>
  rw[<-zXb,vt,ih];have:l.getD (l.length+j) 0=0:=by simp[List.getD]
  rw[this];simp
def FN{l:List Nat}(h:dl l)(k:Nat):vt l k<65536^k:=by
 induction k with
 | zero=>simp[vt]
 | succ k ih=>
  have h1:=h.getD k;have h2:l.getD k 0*65536^k<=65535*65536^k:=zMa _ j1
  rw[vt,zgc,zab (65536^k)];omega
def lF:List Nat->List Nat
 | []=>[]
 | d::l=>match lF l with
  | []=>if d=0 then[] else[d]
  | x::t=>d::x::t
def wH{l:List Nat}(h:dl l):lF l=cK (cM l):=by
 induction l with
 | nil=>rw[cM,dD];rfl
 | cons d l ih=>
  have a:d<65536:=h d zsa;have ih:=ih λx hx=>h x (zoa _ hx);rw[lF,ih,cM];by_cases hv:cM l=0
  ·rw[hv,dD];by_cases h0:d=0
   ·subst h0;simp[dD]
   ·rw[xB a j1,dD];simp[h0]
  ·rw[xB a j1,jB hv]
def Ed{l:List Nat}(h:∀ i,i<l.length->l.getD i 0=0):lF l=[]:=by
 induction l with
 | nil=>rfl
 | cons d l ih=>
  have h0:d=0:=h 0 j3
  rw[lF,ih (λi a=>h (i+1) (by simpa using a)),h0];simp
theorem yT:∀ {l:List Nat} {n:Nat},n<=l.length->(∀ i,n<=i->i<l.length->l.getD i 0=0)->(n=0\/l.getD (n-1) 0≠0)->l.take n=lF l
 | [],n,_,_,_=>by simp[lF]
 | d::l,0,_,a,_=>by rw[Ed (λi b=>a i j1 b)];rfl
 | d::l,n+1,hn,a,hl=>by
  have hl':(d::l).getD n 0≠0:=by
   rcases hl with h|h
   ·omega
   ·exact h
  have ih:l.take n=lF l:=yT (l:=l) (n:=n) (by simpa using hn) (λi h1 h2=>a (i+1) j1 (by simpa using h2)) (by
   cases n with
   | zero=>exact .inl rfl
   | succ k=>exact .inr hl')
  rw[zec,ih,lF];cases ht:lF l with
  | nil=>
   rw[ht] at ih;have:n=0:=by
    cases n with
    | zero=>rfl
    | succ k=>cases l with
     | nil=>simp at hn
     | cons e l=>simp at ih
   subst this;have:d≠0:=hl';simp[this]
  | cons x t=>rfl
def pX{l:List Nat}{i:Nat}(h:i<l.length):(am l)[i]?=some (I (l.getD i 0:Nat)):=lZ h
def Gl(a:List Nat)(d:Nat):am a++[I (d:Int)]=am (a++[d]):=by simp[am]
def Ps(n:Nat){l:List Nat}(hl:l.length<=1000000):cA (n+1) 140 [.sl (am l)]=some (.sl (am (lF l))):=by
 rw[YB]
 delta Lw qB qC qT qS qX qZ iL iR Jn
 refine j0 (am l) ?_;have fin:∀ j:Nat,j<=l.length->(∀ i,j<=i->i<l.length->l.getD i 0=0)->(j=0\/l.getD (j-1) 0≠0)->((D.asSl (.sl (am l))).bind λf=>(D.natOf (I (j:Int))).bind λi14=>(D.cut f 0 i14).bind λg=>some (D.sl g))=some (.sl (am (lF l))):=by
  intro j h a m;refine j0 (am l) (aa (z:=j) (by simp[D.natOf]) (aa (z:=am (l.take j)) ?_ (by rw[yT h a m])))
  simp only[D.cut];rw[zma ⟨zxa _,by rw[aF];exact h⟩]
  simp[am,List.map_take]
 refine bO (λi s=>s=[I ((l.length-i:Nat):Int)]/\∀ k,l.length-i<=k->k<l.length->l.getD k 0=0) l.length 0 (zxa _) ⟨by rw[aF];rfl,λk h1 h2=>j1⟩ (λi o s c=>?_) (λs c=>?_)
 ·obtain⟨rfl,a⟩:=c;have d:inR (((l.length-i:Nat):Int)-1):=by simp only[inR];omega
  have b:((l.length-i:Nat):Int)-1=((l.length-i-1:Nat):Int):=j1
  have hx:(am l)[l.length-i-1]?=some (I (l.getD (l.length-i-1) 0:Nat)):=pX j1
  by_cases h0:l.getD (l.length-i-1) 0=0
  ·left;refine⟨[I ((l.length-(i+1):Nat):Int)],?_,rfl,λk h1 h2=>?_⟩
   ·refine aa dM (aa ac (aa (z:=true) (aO (by show((l.length-i:Nat):Int)>0;omega) ?_) (aa ac ?_)))
    ·refine aa (fg d) (j0 (am l) (aa (z:=l.length-i-1) (by rw[b,aF];exact aq j1) (aa hx ?_)))
     rw[h0];rfl
    ·rw[zma rfl];refine aa (fg d) ?_;rw[b,Nat.sub_sub]
   ·by_cases e:k=l.length-i-1
    ·rw[e];exact h0
    ·exact a k j1 h2
  ·right;refine⟨(0,[I ((l.length-i:Nat):Int)]),?_,fin _ j1 a (.inr h0)⟩
   refine aa dM (aa ac (aa (z:=false) (aO (by show((l.length-i:Nat):Int)>0;omega) ?_) (aa ac rfl)))
   refine aa (fg d) (j0 (am l) (aa (z:=l.length-i-1) (by rw[b,aF];exact aq j1) (aa hx ?_)))
   rw[cg,zea j1];rfl
 ·obtain⟨rfl,a⟩:=c;refine⟨(0,[I ((l.length-l.length:Nat):Int)]),?_,fin _ j1 a (.inl j1)⟩
  refine aa dM (aa ac (aa (z:=false) (aU (by show ¬ ((l.length-l.length:Nat):Int)>0;omega) rfl) (aa ac rfl)))
def MT(n:Nat)(l:List Nat)(k:Nat):cA (n+1) 141 [.sl (am l),I (k:Int)]=some (I (l.getD k 0:Nat)):=by
 rw[YC]
 delta Lx qX qL Jn
 refine j0 (am l) (aa af (aa ac ?_));by_cases h:k<l.length
 ·refine aO (by show(k:Int)<((am l).length:Int);rw[aF];omega) ?_
  exact j0 (am l) (aa (z:=k) (by rw[aF];exact aq h) (aa (pX h) rfl))
 ·refine aU (by show ¬ (k:Int)<((am l).length:Int);rw[aF];omega) ?_
  have:l.getD k 0=0:=by simp[List.getD,h]
  rw[this];rfl
def fE(l:List Nat)(i:Nat):Nat:=l.getD (2*i) 0+65536*l.getD (2*i+1) 0
abbrev U(n:Nat):D:=.int .u32 (n:Int)
def eO(l:List Nat):D:=.st ((List.range 16).map λi=>U (fE l i))
def ah(x:Int):D:=.st [.bool false,.bool (decide (x<0)),eO (cK x.natAbs)]
def zN{l:List Nat}(h:dl l)(i:Nat):fE l i<4294967296:=by have:=h.getD (2*i);have:=h.getD (2*i+1);unfold fE;omega
def vw{l:List Nat}{i:Nat}(h:i<16):D.fld (eO l) i=some (U (fE l i)):=by simp[eO,D.fld,h]
def df{x:Int}{i:Nat}(h:i<16):D.get (ah x) [2,i]=some (U (fE (cK x.natAbs) i)):=
 j0 (eO (cK x.natAbs)) (aa (vw h) rfl)
def re{n:Int}(h:0<=n/\n<4294967296):IntKind.wrap .u32 n=n:=by
 obtain⟨h1,h2⟩:=h;simp only[IntKind.wrap,IntKind.signed,IntKind.bits];first
  | omega
  | (simp;omega)
def Pq(a:Nat):ab7 .rem (U a) (.int .u32 65536)=some (U (a%65536)):=by
 simp only[ab7,if_true,show ¬ (65536:Int)=0 by decide,if_false]
 rw[show(65536:Int)=((65536:Nat):Int) from rfl,<-zod]
def Pp{a:Nat}(h:a<4294967296):ab7 .quo (U a) (.int .u32 65536)=some (U (a/65536)):=by
 simp only[ab7,if_true,show ¬ (65536:Int)=0 by decide,if_false]
 rw[show(65536:Int)=((65536:Nat):Int) from rfl,<-zFd,re j1]
def H9{a b:Nat}(h:a+b<4294967296):ab7 .add (U a) (U b)=some (U (a+b)):=by simp only[ab7,if_true];rw[re j1];simp
def Po{a b:Nat}(h:a*b<4294967296):ab7 .mul (U a) (U b)=some (U (a*b)):=by simp only[ab7,if_true];rw[show(a:Int)*(b:Int)=((a*b:Nat):Int) by simp,re j1]
def uc{a:Nat}(h:a<4294967296):D.conv .i64 (U a)=some (I (a:Int)):=by simp only[D.conv];rw[ic (by simp only[inR];omega)]
def EK{a:Nat}(h:a<4294967296):D.conv .u32 (I (a:Int))=some (U a):=by simp only[D.conv];rw[re j1]
def DO(l:List Nat)(k:Nat):((List.range k).map λi=>l.getD i 0)=if k<=l.length then l.take k else l++List.replicate (k-l.length) 0:=by
 apply zuc;intro i;by_cases h:i<k
 ·rw[zib,List.getElem?_range h];split
  ·simp[h,List.getD,show i<l.length by omega]
  ·by_cases h2:i<l.length
   ·simp[zJc,h2,List.getD]
   ·simp[zJc,h2,List.getD,List.getElem?_replicate,show i-l.length<k-l.length by omega]
 ·rw[zib,show(List.range k)[i]?=none by simp;omega]
  split
  ·simp;omega
  ·simp;omega
def Kv{l:List Nat}(a:dl l){k:Nat}(hk:l.length<=k):lF ((List.range k).map λi=>l.getD i 0)=cK (cM l):=by
 have e:((List.range k).map λi=>l.getD i 0)=l++List.replicate (k-l.length) 0:=by
  rw[DO];split
  ·have:k=l.length:=j1
   subst this;simp
  ·rfl
 rw[e,wH (a.append (λx hx=>by rw[List.eq_of_mem_replicate hx];decide)),Dg]
def TQ(n:Nat){x:Int}(hx:x.natAbs<65536^32):cA (n+2) 77 [ah x]=some (.sl (am (cK x.natAbs))):=by
 rw[u77]
 delta TA qG qB qC qV qW qZ iL iR Jn
 have c:=hC x.natAbs;have hlen:=jA 32 _ hx;refine bO (λi s=>s=[.sl (am ((List.range (2*i)).map λi=>(cK x.natAbs).getD i 0)),I (i:Int)]) 16 0 (zxa _) rfl (λi a s b=>?_) (λs b=>?_)
 ·subst b;left;refine⟨_,?_,rfl⟩;refine aa af (aa ac (aO (by show(i:Int)<16;omega) ?_))
  have d:=zN c i;have h1:=c.getD (2*i);refine aa (z:=i) (aq a) (aa (df a) (aa (Pq _) (aa (uc j1) (aa (z:=i) (aq a) (aa (df a) (aa (Pp d) (aa (uc j1) ?_)))))))
  rw[zma (by simp only[g0,D.els,aF,zta,zsb,zRa,zMb];omega)]
  refine aa (ay (aH (i:=i) j1)) ?_
  have e:fE (cK x.natAbs) i%65536=(cK x.natAbs).getD (2*i) 0:=by unfold fE;omega
  have f:fE (cK x.natAbs) i/65536=(cK x.natAbs).getD (2*i+1) 0:=by unfold fE;omega
  rw[e,f,show 2*(i+1)=2*i+1+1 by omega,z8b,z8b]
  simp[g0,D.els,am]
 ·subst b;refine⟨(0,[.sl (am ((List.range (2*16)).map λi=>(cK x.natAbs).getD i 0))]),?_,?_⟩
  ·exact aa af (aa ac (aU j2 rfl))
  ·refine aa (Ps n j3) ?_
   rw[Kv c hlen,gb]
def lE(l:List Nat)(k j:Nat):(l.take k).getD j 0=if j<k then l.getD j 0 else 0:=by simp only[List.getD,List.getElem?_take];split<;>simp
def vz{l l':List Nat}{q v:Nat}{a b:D}(hq:q<16)(h:∀ i,fE l' i=if i=q then v else fE l i):D.set (.st [a,b,eO l]) [2,q] (U v)=some (.st [a,b,eO l']):=by
 have h1:D.set (eO l) [q] (U v)=some (eO l'):=by
  have e:((List.range 16).map λi=>U (fE l i))[q]?=some (U (fE l q)):=by simp[hq]
  refine aa e (j0 (U v) ?_);simp only[eO,zda,D.st.injEq];apply zuc;intro i;rw[List.getElem?_set];by_cases c:q=i
  ·subst c;simp[hq,h]
  ·rw[zia c,zib,zib];by_cases h16:i<16
   ·rw[List.getElem?_range h16];simp[h,show i≠q from λe=>c e.symm]
   ·rw[show(List.range 16)[i]?=none by simp;omega];rfl
 exact j0 (eO l) (aa h1 rfl)
def C4(k:Nat):ab7 .rem (I (k:Int)) (.int .i64 2)=some (I (k%2:Nat)):=by rw[j6 j2,show(2:Int)=((2:Nat):Int) from rfl,<-zod]
def ku{a b:Nat}(d:b≠0)(c:(a:Int)<=9223372036854775807):ab7 .quo (I (a:Int)) (I (b:Int))=some (I (a/b:Nat)):=by
 have:((a/b:Nat):Int)<=9223372036854775807:=by have:=zzc a b;omega
 have h0:0<=((a/b:Nat):Int):=Int.natCast_nonneg _;rw[uD j1 (by rw[<-zFd];simp only[inR];omega),<-zFd]
def oT{a b:Nat}(c:b≠0):ab7 .rem (I (a:Int)) (I (b:Int))=some (I (a%b:Nat)):=by rw[j6 j1,<-zod]
def BC{a b:D}{l:List Nat}{i:Nat}(h:i<16):D.get (.st [a,b,eO l]) [2,i]=some (U (fE l i)):=
 j0 (eO l) (aa (vw h) rfl)
def sgn(neg:Bool)(m:Nat):Int:=if neg then -(m:Int) else m
def XL(n:Nat){l:List Nat}{neg:Bool}(p:dl l)(hl:l.length<=1000000)(t:cM l<65536^32):cA (n+2) 81 [.bool neg,.sl (am l)]=some (ah (sgn neg (cM l))):=by
 rw[u81]
 delta TD qG qB qC qT qS qX qL qZ iL iR Jn
 have hlen:=jA 32 _ t;have e:=hC (cM l);have j:ah (sgn neg (cM l))=.st [.bool false,.bool (neg&&decide (0<(cK (cM l)).length)),eO (cK (cM l))]:=by
  have m:(sgn neg (cM l)).natAbs=cM l:=by unfold sgn;split<;>omega
  have o:(0<(cK (cM l)).length)↔cM l≠0:=by rw[List.length_pos_iff];exact not_congr Bo
  unfold ah;rw[m];have:decide (sgn neg (cM l)<0)=(neg&&decide (0<(cK (cM l)).length)):=by
   simp only[o,sgn];cases neg
   ·simp<;>omega
   ·by_cases h:cM l=0
    ·simp[h]
    ·simp[h]<;>omega
  rw[this]
 rw[j];refine aa (Ps n hl) ?_;rw[wH p];generalize cK (cM l)=d at hlen e;refine j0 (am d) (aa dM (aa ac (aU (by show ¬ ((am d).length:Int)>32;rw[aF];omega) ?_)))
 refine aa ac (aa (z:=neg&&decide (0<d.length)) ?_ ?_)
 ·cases neg
  ·rfl
  ·rw[zma rfl];refine j0 (am d) (aa dM ?_);rw[ac,aF];simp
 refine bO (λk s=>s=[I (k:Int),.st [.bool false,.bool (neg&&decide (0<d.length)),eO (d.take k)]]) d.length 0 (zxa _) rfl (λk hk s g=>?_) (λs g=>?_)
 ·subst g;left;refine⟨_,?_,rfl⟩;have r:=e.getD k;refine j0 (am d) (aa af (aa ac (aO (by show(k:Int)<((am d).length:Int);rw[aF];omega) ?_)))
  refine aa (z:=(0,[.st [.bool false,.bool (neg&&decide (0<d.length)),eO (d.take (k+1))]])) ?_ (aa (ay (aH (i:=k) j1)) rfl)
  refine aa (C4 k) ?_;have c:k/2<16:=j1
  have hq:ab7 .quo (I (k:Int)) (.int .i64 2)=some (I (k/2:Nat)):=ku (b:=2) j2 j1
  have a:fE (d.take k) (k/2)=if k%2=0 then 0 else d.getD (2*(k/2)) 0:=by
   simp only[fE,lE];by_cases hk2:k%2=0
   ·rw[zma hk2,zia (show ¬ 2*(k/2)<k by omega),zia (show ¬ 2*(k/2)+1<k by omega)]
   ·rw[zia hk2,zma (show 2*(k/2)<k by omega),zia (show ¬ 2*(k/2)+1<k by omega)];omega
  have q:=e.getD (2*(k/2));by_cases hk2:k%2=0
  ·rw[zma hk2] at a;rw[hk2];refine j0 true ?_;rw[zma rfl];refine aa hq (aa hq (aa (aq c) (aa (BC c) (j0 (am d) (aa (z:=k) (by rw[aF];exact aq hk) (aa (pX hk) (aa (EK j1) (aa (H9 (by rw[a];omega)) (aa (aq c) (aa (vz c (l':=d.take (k+1)) ?_) rfl))))))))))
   intro i;by_cases f:i=k/2
   ·rw[zma f,a,f];simp only[fE,lE];rw[zma (show 2*(k/2)<k+1 by omega),zia (show ¬ 2*(k/2)+1<k+1 by omega),show 2*(k/2)=k by omega];omega
   ·rw[zia f];simp only[fE,lE];have a1:(2*i<k+1)↔(2*i<k):=j1
    have a2:(2*i+1<k+1)↔(2*i+1<k):=j1
    simp only[a1,a2]
  ·rw[zia hk2] at a;refine aa (z:=false) (by rw[show k%2=1 by omega];rfl) ?_
   rw[zia j2]
   refine aa hq (aa hq (aa (aq c) (aa (BC c) (j0 (am d) (aa (z:=k) (by rw[aF];exact aq hk) (aa (pX hk) (aa (EK j1) (aa (Po (b:=65536) j1) (aa (H9 (by rw[a];omega)) (aa (aq c) (aa (vz c (l':=d.take (k+1)) ?_) rfl)))))))))))
   intro i;by_cases f:i=k/2
   ·rw[zma f,a,f];simp only[fE,lE];rw[zma (show 2*(k/2)<k+1 by omega),zma (show 2*(k/2)+1<k+1 by omega),show 2*(k/2)+1=k by omega];omega
   ·rw[zia f];simp only[fE,lE];have a1:(2*i<k+1)↔(2*i<k):=j1
    have a2:(2*i+1<k+1)↔(2*i+1<k):=j1
    simp only[a1,a2]
 ·subst g;refine⟨(0,[.st [.bool false,.bool (neg&&decide (0<d.length)),eO (d.take d.length)]]),?_,?_⟩
  ·exact j0 (am d) (aa af (aa ac (aU (by show ¬ (d.length:Int)<((am d).length:Int);rw[aF];omega) rfl)))
  ·rw[zub];rfl
def c82(n:Nat){a b:List Nat}(t:dl a)(u:dl b)(E:a.length<=900000)(F:b.length<=900000):cA (n+2) 82 [.sl (am a),.sl (am b)]=some (.sl (am (cK (cM a+cM b)))):=by
 rw[u82]
 delta TE qB qC qS qV qW qZ iL iR Jn
 obtain⟨M,A⟩:∃ M,M=max a.length b.length:=⟨_,rfl⟩;have f:∀ k:Nat,D.max2 (D.int .i64 (am a).length) (D.int .i64 (am b).length)=some (I (M:Int)):=λ_=>by rw[Js,aF,aF,A];congr 2;omega
 refine bO (λk s=>∃ (out:List Nat) (c:Nat),s=[.sl (am out),I (c:Int),I (k:Int)]/\out.length=k/\dl out/\c<=1/\cM out+c*65536^k=vt a k+vt b k) (M+1) 0 (zxa _) ⟨[],0,rfl,rfl,(by intro d C;cases C),j1,by simp[cM,vt]⟩ (λk hk s j=>?_) (λs j=>?_)
 ·obtain⟨out,c,rfl,o,g,hc,p⟩:=j;left;have h1:=t.getD k;have h2:=u.getD k;refine⟨[.sl (am (out++[(a.getD k 0+b.getD k 0+c)%65536])),I ((a.getD k 0+b.getD k 0+c)/65536:Nat),I ((k+1:Nat):Int)],?_,out++[(a.getD k 0+b.getD k 0+c)%65536],(a.getD k 0+b.getD k 0+c)/65536,rfl,by simp[o],g.append (λx hx=>by simp at hx;omega),j1,?_⟩
  ·refine j0 (am a) (j0 (am b) (aa (f 0) (aa (ay (aH (i:=M) j1)) (aa af (aa ac (aO (by show(k:Int)<(M:Int)+1;omega) ?_))))))
   refine aa (MT n a k) (aa (MT n b k) (aa (ay (by simp only[inR];omega)) (aa (ay (by simp only[inR];omega)) ?_)))
   rw[show(((a.getD k 0:Nat):Int)+((b.getD k 0:Nat):Int)+(c:Int))=((a.getD k 0+b.getD k 0+c:Nat):Int) by omega]
   refine aa (oT (b:=65536) j2) ?_
   rw[zma (by simp only[g0,D.els,aF,zRa,zMb];omega)]
   refine aa (ku (b:=65536) j2 j1) (aa (ay (aH (i:=k) j1)) ?_)
   simp only[g0,D.els,Gl];rfl
  ·rw[s9,o,vt,vt,zgc];have e:a.getD k 0+b.getD k 0+c=(a.getD k 0+b.getD k 0+c)%65536+65536*((a.getD k 0+b.getD k 0+c)/65536):=j1
   have y:cM [(a.getD k 0+b.getD k 0+c)%65536]=(a.getD k 0+b.getD k 0+c)%65536:=by simp[cM]
   rw[y];generalize 65536^k=B at *;generalize (a.getD k 0+b.getD k 0+c)%65536=r at *;generalize (a.getD k 0+b.getD k 0+c)/65536=q at *;have:(a.getD k 0+b.getD k 0+c)*B=(r+65536*q)*B:=by rw[e]
   rw[zpb,zpb,zpb] at this;rw[show q*(B*65536)=65536*q*B by rw[zab B,<-zHb,zab q],zab B r]
   omega
 ·obtain⟨out,c,rfl,o,g,hc,p⟩:=j;refine⟨(0,[.sl (am out)]),?_,?_⟩
  ·refine j0 (am a) (j0 (am b) (aa (f 0) (aa (ay (aH (i:=M) j1)) (aa af (aa ac (aU (by show ¬ (((M+1:Nat):Int)<(M:Int)+1);omega) rfl))))))
  ·refine aa (Ps n (l:=out) j1) ?_
   have v:vt a (M+1)=cM a:=mA j1
   have w:vt b (M+1)=cM b:=mA j1
   have la:=FN t M;have lb:=FN u M;rw[mA (show a.length<=M by omega)] at la
   rw[mA (show b.length<=M by omega)] at lb
   have m:c=0:=by
    rcases zhc c with h|h
    ·exact h
    ·have:1*65536^(M+1)<=c*65536^(M+1):=zMa _ h;rw[zgc] at this;rw[v,w,zgc] at p;omega
   subst m;rw[wH g,<-v,<-w,<-p];simp
def Il(n:Nat){x:Int}(hx:inR x):cA (n+3) 34 [I x]=some (ah x):=by
 rw[u34]
 delta Tj qB qC Jn
 obtain⟨h1,h2⟩:=hx;have d1:∀ m:Nat,(m:Int)<=9223372036854775807->dl [m%65536,m/65536%65536,m/4294967296%65536,m/281474976710656]:=λm hm d c=>by simp only[zBa,zdc,or_false] at c;omega
 have d2:∀ m:Nat,cM [m%65536,m/65536%65536,m/4294967296%65536,m/281474976710656]=m:=λm=>by simp only[cM];omega
 have d3:∀ m:Nat,D.sl [I (m%65536:Nat),I (m/65536%65536:Nat),I (m/4294967296%65536:Nat),I (m/281474976710656:Nat)]=.sl (am [m%65536,m/65536%65536,m/4294967296%65536,m/281474976710656]):=λm=>rfl;have a:∀ m:Nat,(m:Int)<=9223372036854775808->m<65536^32:=λm hm=>by
  have:(65536:Nat)^4<=65536^32:=zGa j2 j2
  have e:(65536:Nat)^4=18446744073709551616:=j2
  omega
 refine aa io (aa ac ?_);by_cases h:x ≥ 0
 ·refine aO h ?_;obtain⟨m,rfl⟩:=zYc h;refine aa (oT (b:=65536) j2) (aa (ku (b:=65536) j2 h2) (aa (oT (b:=65536) j2) (aa (ku (b:=4294967296) j2 h2) (aa (oT (b:=65536) j2) (aa (ku (b:=281474976710656) j2 h2) ?_)))))
  refine aa (z:=ah m) ?_ rfl;rw[d3,XL n (d1 m h2) j3 (by rw[d2];exact a m j1),d2];rfl
 ·refine aU h ?_;obtain⟨m,hm⟩:=zYc (show 0<=-(x+1) by omega)
  have h3:(m:Int)<=9223372036854775807:=j1
  refine aa (ay (by simp only[inR];omega)) (aa (q8 (by simp only[inR];omega)) ?_)
  rw[hm];refine aa (oT (b:=65536) j2) (aa (ku (b:=65536) j2 h3) (aa (oT (b:=65536) j2) (aa (ku (b:=4294967296) j2 h3) (aa (oT (b:=65536) j2) (aa (ku (b:=281474976710656) j2 h3) ?_)))))
  rw[d3];refine aa (c82 n (b:=[1]) (d1 m h3) (λd c=>by simp at c;omega) j3 j3) (aa (z:=ah x) ?_ rfl)
  rw[d2];have f:cM [1]=1:=rfl;rw[f,XL n (hC _) ?_ ?_,gb]
  ·congr 2;simp only[sgn,if_true];omega
  ·have:=jA 32 _ (a (m+1) j1);omega
  ·rw[gb];exact a (m+1) j1
def In(x:Int):Prop:=x.natAbs<65536^32
def In.of{x:Int}(h:inR x):In x:=by
 have:(65536:Nat)^4<=65536^32:=zGa j2 j2
 have e:(65536:Nat)^4=18446744073709551616:=j2
 obtain⟨h1,h2⟩:=h;unfold In;omega
def js(m i:Nat):fE (cK m) i=m/4294967296^i%4294967296:=by
 have a:65536^(2*i)=4294967296^i:=by rw[Nat.pow_mul]
 have b:65536^(2*i+1)=4294967296^i*65536:=by rw[zgc,a]
 unfold fE;rw[xC,xC,a,b,<-z6a];generalize m/4294967296^i=q;omega
def O0(m:Nat):fE (cK m) 0=m%4294967296:=by rw[js,zid,zwd]
def Jl(m:Nat):fE (cK m) 1=m/4294967296%4294967296:=by rw[js,Nat.pow_one]
def Sr{m i:Nat}(h:m<18446744073709551616)(a:2<=i):fE (cK m) i=0:=by
 rw[js];have:(4294967296:Nat)^2<=4294967296^i:=zGa j2 a
 rw[zjb j1]
def Ox{a b:Nat}:D.beq (U a) (U b)=decide (a=b):=by
 simp only[D.beq,decide_true,zDb];by_cases h:a=b
 ·simp[h]
 ·simp[h];omega
def vA{m:Nat}(hm:m<65536^32)(h:∀ i,i<16->fE (cK m) i=0):m=0:=by
 have b:∀ i,i<32->(cK m).getD i 0=0:=λi c=>by
  have:=h (i/2) j1
  unfold fE at this;rcases Nat.mod_two_eq_zero_or_one i with e|e
  ·rw[show 2*(i/2)=i by omega] at this;omega
  ·rw[show 2*(i/2)+1=i by omega] at this;omega
 have a:∀ k,k<=32->vt (cK m) k=0:=λk=>by
  induction k with
  | zero=>intro _;rfl
  | succ k ih=>intro hk;rw[vt,ih j1,b k j1];simp
 have:=a 32 j1
 rw[mA (jA 32 _ hm),gb] at this;exact this
def zB(m i:Nat):Bool:=(List.range i).all λk=>decide (fE (cK m) k=0)
def Oq(m i:Nat):zB m (i+1)=(zB m i&&decide (fE (cK m) i=0)):=by unfold zB;rw[z8b,zhd];simp
def Xm(n:Nat){x:Int}(hx:In x):cA (n+1) 139 [ah x]=some (.bool true):=by
 rw[YA]
 delta Lv qG qB qC qT qN qZ iL iR Jn
 have fin:∀ z:Bool,(z=true->x=0)->((D.get (ah x) [0]).bind λj=>(D.truth j).bind λb=>
   if b then((D.truth (.bool z)).bind λc=>Option.bind (if c then((D.get (ah x) [1]).bind λk=>(acl .not k).bind λl=>D.truth l) else(some false)) λd=>
   some (D.bool d)) else((acl .not (.bool z)).bind λm=>(D.truth m).bind λe=>
   Option.bind (if e then(some true) else((D.get (ah x) [1]).bind λo=>(acl .not o).bind λp=>D.truth p)) λf=>some (D.bool f)))=some (.bool true):=by
  intro z q;refine j0 (.bool false) (j0 false ?_);rw[zia j2]
  refine j0 (.bool (!z)) (j0 (!z) ?_);cases z with
  | false=>rfl
  | true=> have:=q rfl;subst this;rfl
 refine bO (λi s=>s=[.bool (zB x.natAbs i),I (i:Int)]) 16 0 (zxa _) rfl (λi a s g=>?_) (λs g=>?_)
 ·subst g;left;refine⟨_,?_,rfl⟩;refine aa af (aa ac (aO (by show(i:Int)<16;omega) (aa ac (aa (z:=zB x.natAbs (i+1)) ?_ (aa (ay (aH (i:=i) j1)) rfl)))))
  rw[Oq];cases zB x.natAbs i with
  | false=>rfl
  | true=> rw[zma rfl];refine aa (aq a) (aa (df a) ?_);show D.truth (D.bool (D.beq (U (fE (cK x.natAbs) i)) (U 0)))=_;rw[Ox,ac];rfl
 ·subst g;refine⟨(0,[.bool (zB x.natAbs 16)]),?_,?_⟩
  ·exact aa af (aa ac (aU j2 rfl))
  ·refine fin _ λh=>?_;have:=vA hx (λi a=>of_decide_eq_true (zEa.1 h i (zXa.2 a)));omega
def PG(n:Nat){x:Int}(hx:In x):cA (n+2) 76 [ah x]=some (.bool true):=by
 rw[u76]
 delta Tz qG qT
 exact aa (Xm n hx) (aa ac rfl)
def Ih(n:Nat){x:Int}(hx:x.natAbs<4611686018427387904):cA (n+3) 124 [ah x]=some (.tup [I x,.bool true]):=by
 have b:In x:=In.of (by simp only[inR];omega)
 rw[ST]
 delta HE qG qB qC qT qN qZ iL iR Jn
 have d:=Jl x.natAbs;refine aa (PG n b) (aa bA (aa ac (aa (z:=false) ?_ (aa ac ?_))))
 ·rw[zia j2]
  refine aa (df (i:=1) j2) ?_
  rw[d];have:ab7 .geq (U (x.natAbs/4294967296%4294967296)) (.int .u32 1073741824)=some (.bool false):=by simp only[ab7,if_true];rw[zea j1]
  exact aa this rfl
 ·rw[zia j2]
  refine bO (λi s=>s=[I (i:Int)]/\2<=i) 16 2 j2 ⟨rfl,j2⟩ (λi c s a=>?_) (λs a=>?_)
  ·obtain⟨rfl,h2⟩:=a;left;refine⟨_,?_,rfl,j1⟩
   refine aa af (aa ac (aO (by show(i:Int)<16;omega) ?_))
   refine aa (aq c) (aa (df c) ?_);rw[Sr j1 h2]
   refine j0 false ?_;rw[zia j2]
   exact aa (ay (aH (i:=i) j1)) rfl
  ·obtain⟨rfl,_⟩:=a;refine⟨(1,[]),aa af (aa ac (aU j2 rfl)),?_⟩
   rw[zia j2]
   have e:=O0 x.natAbs;refine aa (df (i:=1) j2) (aa (uc (zN (hC _) 1)) ?_)
   rw[d];refine aa (cw (by simp only[inR];omega)) (aa (df (i:=0) j2) (aa (uc (zN (hC _) 0)) ?_))
   rw[e];refine aa (ay (by simp only[inR];omega)) (j0 (.bool (decide (x<0))) (aa ac ?_))
   by_cases hx0:x<0
   ·refine aO hx0 ?_;refine aa (q8 (by simp only[inR];omega)) ?_
    congr 4;omega
   ·refine aU hx0 ?_;congr 4;omega
def Xn(n:Nat){x:Int}(hx:In x):cA (n+3) 142 [ah x]=some (ah x.natAbs):=by
 rw[YD]
 delta Ly qN
 have hl:=jA 32 _ hx;refine aa (PG n hx) (aa bA (aa ac ?_));refine aa (TQ n hx) (aa (z:=ah x.natAbs) ?_ rfl);rw[XL n (hC _) j1 (by rw[gb];exact hx),gb];rfl
def ZO(n:Nat){a b:List Nat}(p:dl a)(q:dl b)(r:a.length<=900000)(t:b.length<=900000):cA (n+2) 78 [.sl (am a),.sl (am b)]=some (.bool (decide (cM a<cM b))):=by
 rw[u78]
 delta TB qB qC qT qS qZ iL iR Jn
 obtain⟨M,o⟩:∃ M,M=max a.length b.length:=⟨_,rfl⟩;have c:D.max2 (D.int .i64 (am a).length) (D.int .i64 (am b).length)=some (I (M:Int)):=by rw[Js,aF,aF,o];congr 2;omega
 have f:vt a M=cM a:=mA j1
 have g:vt b M=cM b:=mA j1
 refine j0 (am a) (j0 (am b) (aa c (aa (fg (by simp only[inR];omega)) ?_)))
 refine bO (λi s=>s=[I ((M:Int)-1-i)]/\(cM a<cM b↔vt a (M-i)<vt b (M-i))) M 0 (zxa _) ⟨j3,by simp[f,g]⟩ (λi w s e=>?_) (λs e=>?_)
 ·obtain⟨rfl,d⟩:=e;obtain⟨k,hk⟩:∃ k,M-i=k+1:=⟨M-i-1,j1⟩
  rw[hk,vt,vt] at d;have m:(M:Int)-1-i=(k:Int):=j1
  rw[m];have la:=FN p k;have lb:=FN q k;have j:=MT n a k;have l:=MT n b k;by_cases hab:a.getD k 0=b.getD k 0
  ·left;refine⟨[I ((M:Int)-1-(i+1:Nat))],?_,rfl,?_⟩
   ·refine aa io (aa ac (aO (by show(k:Int) ≥ 0;omega) (aa j (aa l (aa (z:=false) ?_ ?_)))))
    ·rw[hab,dC,zha rfl];rfl
    ·rw[zia j2]
     refine aa (fg (by simp only[inR];omega)) ?_
     congr 4;omega
   ·rw[d,hab,show M-(i+1)=k by omega];omega
  ·right;refine⟨(0,[.bool (decide (a.getD k 0<b.getD k 0))]),?_,?_⟩
   ·refine aa io (aa ac (aO (by show(k:Int) ≥ 0;omega) (aa j (aa l (aa (z:=true) ?_ ?_)))))
    ·rw[dC,zea hab];rfl
    ·rw[zma rfl];refine aa j (aa l (aa af ?_));simp
   ·rw[zma rfl];show some (D.bool (decide (a.getD k 0<b.getD k 0)))=_;congr 3;rw[eq_iff_iff,d];generalize a.getD k 0=u at *;generalize b.getD k 0=v at *;generalize 65536^k=B at *;constructor
    ·intro h;have:(u+1)*B<=v*B:=zMa _ h;rw[zpb] at this;omega
    ·intro h;rcases zza u v with h1|h1
     ·exact h1
     ·have:(v+1)*B<=u*B:=zMa _ j1
      rw[zpb] at this;omega
 ·obtain⟨rfl,d⟩:=e;refine⟨(1,[]),?_,?_⟩
  ·exact aa io (aa ac (aU (by show ¬ ((M:Int)-1-(M:Nat)) ≥ 0;omega) rfl))
  ·rw[zia j2]
   have:¬ cM a<cM b:=by rw[d];simp[vt]
   rw[zea this]
def ZJ(n:Nat){x y:Int}(hx:In x)(hy:In y):cA (n+3) 32 [ah x,ah y]=some (I (bg x y)):=by
 rw[u32]
 delta Th qG qT qN Jn
 have g:=jA 32 _ hx;have h:=jA 32 _ hy;have gx:=PG n hx;have e:=PG n hy;have a:=TQ n hx;have b:=TQ n hy;refine aa gx (aa bA (aa ac (j0 false (j0 false ?_))));rw[zia j2]
 refine aa gx (aa bA (j0 false ?_));rw[zia j2]
 refine aa e (aa bA (j0 false ?_));rw[zia j2]
 refine j0 (.bool (decide (x<0))) (j0 (.bool (decide (y<0))) ?_);have c:=ZO n (hC x.natAbs) (hC y.natAbs) j1 j1
 have d:=ZO n (hC y.natAbs) (hC x.natAbs) j1 j1
 simp only[gb] at c d;have f:∀ p q:Bool,D.truth (.bool (!(D.beq (.bool p) (.bool q))))=some (!(p==q)):=λp q=>rfl;rw[f];refine aa rfl ?_;by_cases h1:x<0<;>by_cases h2:y<0
 ·rw[zha h1,zha h2,zia j2]
  refine aa a (aa b (aa (z:=(0,[.sl (am (cK y.natAbs)),.sl (am (cK x.natAbs))])) ?_ ?_))
  ·refine aa (z:=.bool true) (by rw[show D.get (ah x) [1]=some (.bool (decide (x<0))) from rfl,zha h1]) (j0 true ?_)
   rw[zma rfl];exact aa b (aa a rfl)
  ·refine aa d (aa c (aa ac ?_));by_cases h3:y.natAbs<x.natAbs
   ·refine aO h3 ?_;simp[bg,show x<y by omega]
   ·refine aU h3 (aa ac ?_);by_cases h4:x.natAbs<y.natAbs
    ·refine aO h4 ?_;simp[bg,show ¬ x<y by omega,show y<x by omega]
    ·refine aU h4 ?_;simp[bg,show ¬ x<y by omega,show ¬ y<x by omega]
 ·rw[zha h1,zea h2,zma j2]
  refine aa (z:=.bool true) (by rw[show D.get (ah x) [1]=some (.bool (decide (x<0))) from rfl,zha h1]) (j0 true ?_)
  simp[bg,show x<y by omega]
 ·rw[zea h1,zha h2,zma j2]
  refine aa (z:=.bool false) (by rw[show D.get (ah x) [1]=some (.bool (decide (x<0))) from rfl,zea h1]) (j0 false ?_)
  simp[bg,show ¬ x<y by omega,show y<x by omega]
 ·rw[zea h1,zea h2,zia j2]
  refine aa a (aa b (aa (z:=(0,[.sl (am (cK x.natAbs)),.sl (am (cK y.natAbs))])) ?_ ?_))
  ·refine aa (z:=.bool false) (by rw[show D.get (ah x) [1]=some (.bool (decide (x<0))) from rfl,zea h1]) (j0 false rfl)
  ·refine aa c (aa d (aa ac ?_));by_cases h3:x.natAbs<y.natAbs
   ·refine aO h3 ?_;simp[bg,show x<y by omega]
   ·refine aU h3 (aa ac ?_);by_cases h4:y.natAbs<x.natAbs
    ·refine aO h4 ?_;simp[bg,show ¬ x<y by omega,show y<x by omega]
    ·refine aU h4 ?_;simp[bg,show ¬ x<y by omega,show ¬ y<x by omega]
def Wd(x:Int):Prop:=x.natAbs<4611686018427387904
theorem Wd.inR{x:Int}(h:Wd x):inR x:=by unfold Wd at h;simp only[Sy.inR];omega
theorem Wd.In{x:Int}(h:Wd x):In x:=In.of h.inR
def Xo(n:Nat){a b:Int}(g:Wd a)(c:b≠0)(h:b ∣ a):cA (n+1) 144 [I a,I b]=some (I (a/b)):=by
 rw[YE]
 delta Lz qB qT Jn
 obtain⟨q,rfl⟩:=h;have d:(b*q).tdiv b=q:=ztd _ c;have e:b*q/b=q:=zlb _ c;have f:(b*q).tmod b=0:=Int.mul_tmod_right ..;have hq:Sy.inR q:=by
  have:q.natAbs<=(b*q).natAbs:=by rw[zOa];exact z4b _ j1
  unfold Wd at g;simp only[Sy.inR];omega
 rw[e];refine aa (uD c (by rw[d];exact hq)) (aa (z:=(0,[I q])) (aa (j6 c) ?_) rfl)
 rw[d,f];exact j0 false (j0 false (aa ac rfl))
def XM(n:Nat){a b:Int}(d:Wd a)(c:Wd b):cA (n+4) 85 [ah a,ah b]=some (ah (Nat.gcd a.natAbs b.natAbs:Nat)):=by
 rw[u85]
 delta TG qB qC qT qN qS qZ iL iR Jn
 refine aa (Ih n d) (j0 (I a) (j0 (.bool true) (aa (Ih n c) (j0 (I b) (j0 (.bool true) (j0 true (j0 true (j0 true ?_))))))));rw[zma rfl];obtain⟨r,h1,h2⟩:=Bz (body:=λ(v1:List D)=>
  (D.truth (D.bool (!(D.beq (gx v1 1) (D.int .i64 0))))).bind λf=>
  if f then((ab7 .rem (gx v1 0) (gx v1 1)).bind λg=>
  some (Sum.inl [(gx v1 1),g])) else(some (Sum.inr (0,[(gx v1 0)]))))
  (λa b c=>by simp only[g0,g1,cg,ac,zba,c,decide_false,zVb,if_true,j6 c])
  (λa=>by simp only[g0,g1,cg,ac,zba,decide_true,zlc,zFa,if_false]) _ a b rfl
 refine zQ h1 ?_;have h:Nat.gcd a.natAbs b.natAbs<=4611686018427387903:=by unfold Wd at d c;exact vh j1 j1
 have e:Sy.inR r:=by simp only[Sy.inR];omega
 refine aa (Il n e) (aa (Xn n (In.of e)) ?_);rw[h2]
def c83(n:Nat){x:Int}(hx:In x):cA (n+3) 83 [ah x]=some (I (sg x)):=by
 rw[u83]
 delta TF qG qT qN qS Jn
 refine aa (PG n hx) (aa bA (j0 false (aa (z:=decide (x=0)) ?_ (aa ac ?_))))
 ·rw[zia j2]
  refine aa (TQ n hx) (j0 (am (cK x.natAbs)) ?_);rw[ac,aF];show some (D.beq (I ((cK x.natAbs).length:Nat)) (I (0:Nat)))=_;rw[dC];congr 1;rw[decide_eq_decide,zWc,Bo];omega
 ·by_cases h0:x=0
  ·refine aO h0 ?_;subst h0;rfl
  ·refine aU h0 (j0 (.bool (decide (x<0))) (aa ac ?_));by_cases h1:x<0
   ·refine aO h1 ?_;rw[At h1]
   ·refine aU h1 ?_;rw[iX j1]
def XN(n:Nat){a b:Int}(d:Wd a)(f:Wd b)(c:b≠0)(e:b ∣ a):cA (n+4) 87 [ah a,ah b]=some (ah (a/b)):=by
 rw[u87]
 delta TH qG qB qT qN qS Jn
 refine aa (Ih n d) (j0 (I a) (j0 (.bool true) (aa (Ih n f) (j0 (I b) (j0 (.bool true) (j0 true (j0 true (j0 true (aa (z:=true) ?_ (j0 true ?_))))))))))
 ·rw[zma rfl,cg,zea c];rfl
 ·rw[zma rfl];have hq:Sy.inR (a/b):=by
   obtain⟨q,rfl⟩:=e;rw[zlb _ c];have:q.natAbs<=(b*q).natAbs:=by rw[zOa];exact z4b _ j1
   unfold Wd at d;simp only[Sy.inR];omega
  exact aa (Xo (n+2) d c e) (aa (Il n hq) rfl)
abbrev TP(n:Nat):D:=.int .u64 (n:Int)
def dK{n:Int}(h:0<=n/\n<18446744073709551616):IntKind.wrap .u64 n=n:=by
 obtain⟨h1,h2⟩:=h;simp only[IntKind.wrap,IntKind.signed,IntKind.bits];first
  | omega
  | (simp;omega)
def Pu(n:Nat){x:Int}(hx:Wd x):cA (n+4) 186 [ah x]=some (.tup [I x,.bool true]):=by
 rw[YR]
 delta LN qG qB qC qT qN Jn
 have a:x.natAbs<4611686018427387904:=hx;have i1:Sy.inR (-9223372036854775808):=⟨j2,j2⟩
 have i2:Sy.inR 9223372036854775807:=⟨j2,j2⟩
 refine aa (PG (n+1) hx.In) (aa bA (j0 false ?_));rw[zia j2]
 refine aa (Il n i1) (aa (Il n i2) (aa (ZJ n hx.In (In.of i1)) ?_));rw[show bg x (-9223372036854775808)=1 by unfold bg;rw[zia j1,zma j1]]
 refine aa (z:=.bool false) af (j0 false (aa (z:=false) ?_ (j0 false ?_)))
 ·rw[zia j2]
  refine aa (ZJ n hx.In (In.of i2)) ?_;rw[show bg x 9223372036854775807=-1 by unfold bg;rw[zma j1]]
  exact aa (z:=.bool false) dM rfl
 ·rw[zia j2]
  have b:=Jl x.natAbs;have l0:=O0 x.natAbs;refine aa (df (i:=1) j2) ?_
  rw[b];refine aa (z:=TP (x.natAbs/4294967296%4294967296)) (by simp only[D.conv];rw[dK j1]) ?_
  refine aa (z:=TP (x.natAbs/4294967296%4294967296*4294967296)) (by simp only[ab7,if_true];rw[dK j1];simp) ?_
  refine aa (df (i:=0) j2) ?_
  rw[l0];refine aa (z:=TP (x.natAbs%4294967296)) (by simp only[D.conv];rw[dK j1]) ?_
  refine aa (z:=TP x.natAbs) (by simp only[ab7,if_true];rw[dK j1];congr 2;omega) ?_
  refine aa (z:=I (x.natAbs:Nat)) (by simp only[D.conv];rw[ic (by simp only[Sy.inR];omega)]) ?_
  refine aa (z:=(0,[I x])) (j0 (.bool (decide (x<0))) (aa ac ?_)) rfl;by_cases h:x<0
  ·refine aO h (aa (q8 (by simp only[Sy.inR];omega)) ?_)
   congr 4;omega
  ·refine aU h ?_;congr 4;omega
def Xv(n:Nat){v:V}(e:bd 2305843009213693951 v):cA (n+1) 187 [ae v]=some (.bool true):=by
 rw[YS]
 delta LP qB qC qT qJ qZ iL iR Jn
 have a:∀ x:Int,(-2305843009213693951<=x/\x<=2305843009213693951)->∀ (i:Nat) (d:i<3),D.get (ae v) [i]=some (I x)->((D.idx (I (i:Int)) 3).bind λi4=>(D.get (ae v) [i4]).bind λk=>(ab7 .geq k (D.int .i64 2305843009213693952)).bind λl=>(D.truth l).bind λj=>
  Option.bind (if j then(some true) else((D.idx (I (i:Int)) 3).bind λi8=>(D.get (ae v) [i8]).bind λm=>(ab7 .leq m (D.int .i64 (-2305843009213693952))).bind λf=>D.truth f)) λb=>
  (D.truth (D.bool b)).bind λc=>if c then(some (Sum.inr (0,[(D.bool false)]))) else((ab7 .add (I (i:Int)) (D.int .i64 1)).bind λg=>some (Sum.inl [g])))=some (Sum.inl [I ((i+1:Nat):Int)]:Sum (List D) (Nat×List D)):=λx hx i d h=>by
  refine aa (aq d) (aa h (aa io (aa ac (aa (z:=false) ?_ (j0 false ?_)))))
  ·refine aU j1 (aa (aq d) (aa h (aa mQ ?_)))
   rw[ac,zea j1]
  ·rw[zia j2]
   exact aa (ay (aH (i:=i) j1)) rfl
 refine cT (s':=[I (1:Nat)]) (aa af (aa ac (aO j2 (a v.x e.1 0 j2 rfl)))) (cT (s':=[I (2:Nat)]) (aa af (aa ac (aO j2 (a v.y e.2.1 1 j2 rfl)))) (cT (s':=[I (3:Nat)]) (aa af (aa ac (aO j2 (a v.z e.2.2 2 j2 rfl)))) (gC (r:=(1,[])) (aa af (aa ac (aU j2 rfl))) rfl)))
def gJ(v:V):D:=.st [ah v.x,ah v.y,ah v.z]
def c80(n:Nat){v:V}(hx:inR v.x)(hy:inR v.y)(a:inR v.z):cA (n+4) 80 [ae v]=some (gJ v):=by
 rw[u80]
 delta TC qG
 exact aa (o9 v) (aa (Il n hx) (aa (pd v) (aa (Il n hy) (aa (pe v) (aa (Il n a) rfl)))))
def RC(n:Nat){v:V}(l:bd 2305843009213693951 v):cA (n+5) 155 [gJ v]=some (.st [ae (aJ v),I (if v=V.zero then 31 else 0)]):=by
 rw[YJ]
 delta LE qG qB qC qT qN qJ qZ iL iR Jn
 have p:Wd v.x:=by have:=l.1;unfold Wd;omega
 have d:Wd v.y:=by have:=l.2.1;unfold Wd;omega
 have s:Wd v.z:=by have:=l.2.2;unfold Wd;omega
 have h0:Sy.inR 0:=⟨j2,j2⟩
 have w0:Wd 0:=by unfold Wd;decide
 have u:Nat.gcd v.x.natAbs v.y.natAbs<=4611686018427387903:=by unfold Wd at p d;exact vh j1 j1
 have G:aZ v<=4611686018427387903:=by
  unfold aZ;have:=vh (a:=(Nat.gcd v.x.natAbs v.y.natAbs:Nat)) (b:=v.z) (k:=4611686018427387903) (by simpa using u) (by unfold Wd at s;omega)
  simpa using this
 have q:Wd (v.x.natAbs:Nat):=by unfold Wd at *;omega
 have w1:Wd (Nat.gcd v.x.natAbs v.y.natAbs:Nat):=by unfold Wd;omega
 have m:Wd (aZ v:Nat):=by unfold Wd;omega
 have e:=XM n w0 p;have f:=XM n q d;have g:=XM n w1 s;rw[show(Nat.gcd (0:Int).natAbs v.x.natAbs)=v.x.natAbs by simp] at e
 rw[show(Nat.gcd ((v.x.natAbs:Nat):Int).natAbs v.y.natAbs)=Nat.gcd v.x.natAbs v.y.natAbs by simp] at f
 rw[show(Nat.gcd ((Nat.gcd v.x.natAbs v.y.natAbs:Nat):Int).natAbs v.z.natAbs)=aZ v by simp[aZ]] at g
 have fst:∀ {k:Nat×List D->Option D} {y:D},k (0,[ah (aZ v:Nat)])=some y->(cA (n+4) 34 [(D.int .i64 0)]).bind (λr1=>Option.bind (bf (λ(v2:List D)=>
   (ab7 .lss (gx v2 0) (D.int .i64 3)).bind λB=>(D.truth B).bind λt=>
   if t then((D.idx (gx v2 0) 3).bind λi5=>(D.get (gJ v) [i5]).bind λC=>(cA (n+4) 85 [(gx v2 1),C]).bind λw=>
   (ab7 .add (gx v2 0) (D.int .i64 1)).bind λE=>some (Sum.inl [E,w])) else(some (Sum.inr (0,[(gx v2 1)])))) [(D.int .i64 0),r1]) k)=some y:=by
  intro k y hk;refine aa (Il (n+1) h0) ?_;refine cT (s':=[I 1,ah (v.x.natAbs:Nat)]) (aa af (aa ac (aO j2 (aa Je (j0 (ah v.x) (aa e (aa (ay OS) rfl))))))) ?_
  refine cT (s':=[I 2,ah (Nat.gcd v.x.natAbs v.y.natAbs:Nat)]) (aa af (aa ac (aO j2 (aa Jf (j0 (ah v.y) (aa f (aa (ay wT) rfl))))))) ?_
  refine cT (s':=[I 3,ah (aZ v:Nat)]) (aa af (aa ac (aO j2 (aa Jg (j0 (ah v.z) (aa g (aa (ay OT) rfl))))))) ?_
  exact gC (r:=(0,[ah (aZ v:Nat)])) (aa af (aa ac (aU j2 rfl))) hk
 have i:=c83 (n+1) m.In;by_cases hz:aZ v=0
 ·refine fst (j0 (.bool false) (j0 false ?_));rw[zia j2]
  refine aa i ?_;rw[hz];refine j0 true ?_;rw[zma rfl];have o:v=V.zero:=by
   by_cases h:v=V.zero
   ·exact h
   ·have:=fk h;omega
  rw[o];rfl
 ·have c:(aZ v:Int)≠0:=j1
  rw[zia (λh=>hz (by rw[h];rfl))]
  refine fst (j0 (.bool false) (j0 false ?_));rw[zia j2]
  refine aa i ?_;rw[iX (show(0:Int)<aZ v by omega)]
  refine j0 false ?_;rw[zia j2]
  have j:=fA l;have F:=XN n p m c (xE v);have z2:=XN n d m c (xF v);have z3:=XN n s m c (xG v);have s1:=Pu n (x:=v.x/(aZ v:Nat)) (by have:=j.1;unfold Wd;simp only[aJ] at this;omega)
  have s2:=Pu n (x:=v.y/(aZ v:Nat)) (by have:=j.2.1;unfold Wd;simp only[aJ] at this;omega)
  have A:=Pu n (x:=v.z/(aZ v:Nat)) (by have:=j.2.2;unfold Wd;simp only[aJ] at this;omega)
  refine cT (s':=[I 1,.st [ae V.zero,I 0],.st [ae ⟨v.x/(aZ v:Nat),0,0⟩,I 0]]) ?_ (cT (s':=[I 2,.st [ae V.zero,I 0],.st [ae ⟨v.x/(aZ v:Nat),v.y/(aZ v:Nat),0⟩,I 0]]) ?_ (cT (s':=[I 3,.st [ae V.zero,I 0],.st [ae ⟨v.x/(aZ v:Nat),v.y/(aZ v:Nat),v.z/(aZ v:Nat)⟩,I 0]]) ?_ (gC (r:=(1,[.st [ae V.zero,I 0],.st [ae (aJ v),I 0]])) (aa af (aa ac (aU j2 rfl))) ?_)))
  ·refine aa af (aa ac (aO j2 (aa Je (j0 (ah v.x) (aa F (aa s1 (j0 (I (v.x/(aZ v:Nat))) (j0 (.bool true) (j0 (.bool false) (j0 false ?_))))))))))
   rw[zia j2]
   exact aa Je (j0 (.st [ae ⟨v.x/(aZ v:Nat),0,0⟩,I 0]) (aa (ay OS) rfl))
  ·refine aa af (aa ac (aO j2 (aa Jf (j0 (ah v.y) (aa z2 (aa s2 (j0 (I (v.y/(aZ v:Nat))) (j0 (.bool true) (j0 (.bool false) (j0 false ?_))))))))))
   rw[zia j2]
   exact aa Jf (j0 (.st [ae ⟨v.x/(aZ v:Nat),v.y/(aZ v:Nat),0⟩,I 0]) (aa (ay wT) rfl))
  ·refine aa af (aa ac (aO j2 (aa Jg (j0 (ah v.z) (aa z3 (aa A (j0 (I (v.z/(aZ v:Nat))) (j0 (.bool true) (j0 (.bool false) (j0 false ?_))))))))))
   rw[zia j2]
   exact aa Jg (j0 (.st [ae ⟨v.x/(aZ v:Nat),v.y/(aZ v:Nat),v.z/(aZ v:Nat)⟩,I 0]) (aa (ay OT) rfl))
  ·rw[zia (show ¬ (1:Nat)=0 by decide)]
   refine j0 (ae (aJ v)) (aa (Xv (n+3) (v:=aJ v) ?_) (j0 (.bool false) (j0 false rfl)));simp only[bd] at j ⊢;omega
def Xq(n:Nat){v:V}(a:bd 549755813888 v):∃ e:Int,cA (n+5) 155 [gJ v]=some (.st [ae (aJ v),I e]):=
 ⟨_,RC n (by simp only[bd] at *;omega)⟩
def Xe(n:Nat){a b c:V}(f:bd MV a)(g:bd MV b)(hc:bd MV c):cA (n+6) 106 [ae a,ae b,ae c]=some (ae (aJ (V.cross (b.sub a) (c.sub a)))):=by
 rw[Yc]
 delta KV qG
 have h1:bd 524288 (b.sub a):=by have:=kw g f;simpa [MV] using this
 have h2:bd 524288 (c.sub a):=by have:=kw hc f;simpa [MV] using this
 have h3:=jy h1 h2;refine aa (F8 (n+4) g f j2) (aa (F8 (n+4) hc f j2) (aa (Rx (n+4) h1 h2 j2) ?_))
 have d:bd 549755813888 (V.cross (b.sub a) (c.sub a)):=h3;generalize V.cross (b.sub a) (c.sub a)=m at *;obtain⟨e,he⟩:=Xq n d;refine aa (c80 (n+1) ?_ ?_ ?_) (aa he rfl)
 ·have:=d.1;simp only[Sy.inR];omega
 ·have:=d.2.1;simp only[Sy.inR];omega
 ·have:=d.2.2;simp only[Sy.inR];omega
def C3{a b:Nat}(h:a*b<=9223372036854775807):ab7 .mul (I (a:Int)) (I (b:Int))=some (I ((a*b:Nat):Int)):=by rw[cw (by simp only[inR];rw[<-z1a];omega),z1a]
def bc{a b:Nat}(h:a+b<=9223372036854775807):ab7 .add (I (a:Int)) (I (b:Int))=some (I ((a+b:Nat):Int)):=by rw[ay (by simp only[inR];omega),zXc]
def N6(x y:Int):sgn (!(decide (decide (x<0)=decide (y<0)))) (x.natAbs*y.natAbs)=x*y:=by
 unfold sgn;rw[<-zOa];by_cases hx:x<0<;>by_cases hy:y<0
 ·have:=zRb hx hy;simp[hx,hy];omega
 ·have:=Int.mul_nonpos_of_nonpos_of_nonneg (zpa hx) (zSb.1 hy);simp[hx,hy];omega
 ·have:=Int.mul_nonpos_of_nonneg_of_nonpos (zSb.1 hx) (zpa hy);simp[hx,hy];omega
 ·have:=z9a (zSb.1 hx) (zSb.1 hy);simp[hx,hy];omega
end Sy
end
noncomputable section
open Go
def oP(n:Nat):Nat:=2^(32*n)
def dI(n:Nat):oP n=2^(32*n):=rfl
attribute [irreducible] oP
def ed:Nat:=oP 16
def g8:ed=oP 16:=rfl
attribute [irreducible] ed
def pE{a b:Nat}(h:a<=b):oP a<=oP b:=by rw[dI,dI];exact zGa j1 j1
def yS:oP 2=18446744073709551616:=by rw[dI]
def Hf(n:Nat):0<oP n:=by rw[dI];exact zya _
def fZ:0<ed:=g8 ▸ Hf 16
def Ay{n:Nat}(h:n<18446744073709551616):n<ed:=by rw[g8];rw[<-yS] at h;exact zob h (pE j1)
def bG(X k:Nat):Int:=((X/2^(32*k)%2^32:Nat):Int)
def oY(X k:Nat):bG X k<=4294967295:=by grind [bG]
def uU(X k:Nat):bG X k<4294967296:=by grind [bG]
def cP(X k:Nat):0<=bG X k:=by unfold bG;exact Int.natCast_nonneg _
def GU(a b:Nat)(h:a<=b):2^b=2^a*2^(b-a):=by rw[<-zwb];congr 1;omega
theorem lW(X k j:Nat):bG (X%2^(32*k)) j=if j<k then bG X j else 0:=by
 unfold bG;split
 ·rename_i h;congr 1;rw[GU (32*j) (32*k) j1,Nat.mod_mul_right_div_self,show 32*k-32*j=32+(32*k-32*j-32) from by omega,zwb,Nat.mod_mul_right_mod]
 ·rename_i h;rw[zjb]
  ·simp
  ·exact zob (z4a _ (zya _)) (zGa j2 j1)
def zO(n:Nat):∀ (X Y:Nat),X<2^(32*n)->Y<2^(32*n)->(∀ k,k<n->bG X k=bG Y k)->X=Y:=by
 induction n with
 | zero=>intro X Y a b _;simp at a b;omega
 | succ n ih=>
  intro X Y a b h;have hs:∀ Z:Nat,Z=Z%2^(32*n)+2^(32*n)*(Z/2^(32*n)):=λZ=>by have:=Nat.mod_add_div Z (2^(32*n));omega
  have hm:X%2^(32*n)=Y%2^(32*n):=by refine ih _ _ (z4a _ (zya _)) (z4a _ (zya _)) λk hk=>?_;grind [lW]
  have c:X/2^(32*n)=Y/2^(32*n):=by
   have h1:=h n j1
   unfold bG at h1;have e:∀ Z,Z<2^(32*(n+1))->Z/2^(32*n)<2^32:=λZ hZ=>by rw[zfb (zya _),<-zwb,show 32+32*n=32*(n+1) from by omega];exact hZ
   grind
  grind
def GA{X Y:Nat}(a:X<ed)(b:Y<ed)(h:∀ k,k<16->bG X k=bG Y k):X=Y:=by rw[g8,dI] at a b;exact zO 16 X Y a b h
def xc(s V Z j:Nat):Int:=if j<s then bG V j else bG Z j
def yg(s V Z:Nat):xc s V Z s=bG Z s:=by unfold xc;rw[zia (Nat.lt_irrefl s)]
def fV(X Y k:Nat):Nat:=(X%2^(32*k)+Y%2^(32*k))/2^(32*k)
def nK(X Y k:Nat):fV X Y k<=1:=by
 unfold fV;have h:=zya (32*k);have h1:=z4a X h;have h2:=z4a Y h;have:(X%2^(32*k)+Y%2^(32*k))/2^(32*k)<2:=(zfb h).2 j1
 omega
def sZ(X Y:Nat):fV X Y 0=0:=by simp[fV,zed]
theorem jQ(X k:Nat):X=X%2^(32*k)+2^(32*k)*(X/2^(32*k)):=by have:=Nat.mod_add_div X (2^(32*k));omega
theorem dZ(k:Nat):2^(32*(k+1))=2^(32*k)*4294967296:=h7
theorem fl(X k:Nat):X%2^(32*(k+1))=X%2^(32*k)+2^(32*k)*(X/2^(32*k)%4294967296):=by rw[dZ,Nat.mod_mul]
def sY(X Y k:Nat):((fV X Y (k+1):Nat):Int)=((fV X Y k:Nat)+(bG X k+bG Y k))/4294967296:=by
 unfold fV bG;have hp:=zya (32*k);rw[fl,fl,dZ,<-z6a];generalize 2^(32*k)=p at *;have:(X%p+p*(X/p%4294967296)+(Y%p+p*(Y/p%4294967296)))/p=(X%p+Y%p)/p+(X/p%4294967296+Y/p%4294967296):=by rw[show X%p+p*(X/p%4294967296)+(Y%p+p*(Y/p%4294967296))=(X%p+Y%p)+p*(X/p%4294967296+Y/p%4294967296) from by rw[zxc];omega,zbc _ _ hp]
 omega
def EN(X Y k:Nat):bG (X+Y) k=((fV X Y k:Nat)+(bG X k+bG Y k))%4294967296:=by
 unfold fV bG;have hp:=zya (32*k);have hx:=jQ X k;have hy:=jQ Y k;generalize 2^(32*k)=p at *;have:(X+Y)/p=(X%p+Y%p)/p+(X/p+Y/p):=by rw[show X+Y=(X%p+Y%p)+p*(X/p+Y/p) from by rw[zxc];omega,zbc _ _ hp]
 omega
theorem Ch:2^(32*16)=ed:=by rw[g8,dI 16]
def Gd{X Y:Nat}(a:X<ed)(b:Y<ed):fV X Y 16=if X+Y<ed then 0 else 1:=by
 have h:=nK X Y 16;unfold fV at *;rw[Ch,zVa a,zVa b] at *;split
 ·simp_all
 ·have:1<=(X+Y)/ed:=(z5c fZ).2 j1
  omega
def cl(X Y k:Nat):Nat:=if X%2^(32*k)<Y%2^(32*k) then 1 else 0
def uH(X Y k:Nat):cl X Y k<=1:=by unfold cl;split<;>omega
def pP(X Y:Nat):cl X Y 0=0:=by simp[cl,zed]
def pO(X Y k:Nat):((cl X Y (k+1):Nat):Int)=if bG X k-bG Y k-(cl X Y k:Nat)<0 then 1 else 0:=by
 unfold cl bG;have hp:=zya (32*k);rw[fl,fl];have h1:=z4a X hp;have h2:=z4a Y hp;simp only[show(2:Nat)^32=4294967296 from rfl];generalize 2^(32*k)=p at *;generalize X/p%4294967296=a;generalize Y/p%4294967296=b;generalize X%p=x at *;generalize Y%p=y at *;rcases zqd a b with h|h|h
 ·have:p*a+p<=p*b:=by rw[<-zAd];exact zCb _ h
  grind
 ·grind
 ·have:p*b+p<=p*a:=by rw[<-zAd];exact zCb _ h
  grind
def EO{X Y:Nat}(h:Y<=X)(k:Nat):bG (X-Y) k=(bG X k-bG Y k-(cl X Y k:Nat))%4294967296:=by
 unfold cl bG;have hp:=zya (32*k);have hx:=jQ X k;have hy:=jQ Y k;have h1:=z4a X hp;have h2:=z4a Y hp;simp only[show(2:Nat)^32=4294967296 from rfl];generalize 2^(32*k)=p at *;have hle:Y/p<=X/p:=Nat.div_le_div_right h;generalize hxq:X/p=a at *;generalize hyq:Y/p=b at *;generalize hxr:X%p=x at *;generalize hyr:Y%p=y at *;by_cases h3:x<y
 ·have c:b<a:=by
   all_goals grind
  have e:X-Y=(x+p-y)+p*(a-b-1):=by
   rw[hx,hy,Nat.mul_sub,Nat.mul_sub];have:p*b+p<=p*a:=by rw[<-zAd];exact zCb _ c
   omega
  rw[e,zbc _ _ hp,zjb j1,zma h3]
  omega
 ·have e:X-Y=(x-y)+p*(a-b):=by
   rw[hx,hy,Nat.mul_sub];have:p*b<=p*a:=zCb _ hle;omega
  rw[e,zbc _ _ hp,zjb j1,zia h3]
  omega
def tM(a b:Int)(c:Nat)(a0:0<=a)(a1:a<=4294967295)(d:0<=b)(f:b<=4294967295)(hc:c<=1) :
  IntKind.u64.wrap (IntKind.u64.wrap (a-b)-(c:Int))/9223372036854775808=(if a-b-(c:Int)<0 then 1 else 0) ∧
  IntKind.u64.wrap (IntKind.u64.wrap (a-b)-(c:Int))%4294967296=(a-b-(c:Int))%4294967296:=by
 have e:∀ n:Int,IntKind.u64.wrap n=n%18446744073709551616:=λn=>rfl;all_goals grind
def iV(X:Nat):Nat->Nat
 | 0=>0
 | k+1=>if 2^(32*k)<=X then k+1 else iV X k
def c6(X:Nat):Nat:=iV X 16
def GM(X k:Nat):iV X k<=k:=by
 induction k with
 | zero=>exact zja _
 | succ k ih=>unfold iV;split<;>omega
def DE(X k:Nat)(h:iV X k≠0):2^(32*(iV X k-1))<=X:=by
 induction k with
 | zero=>exact z3a rfl h
 | succ k ih=> all_goals grind [iV]
def B6(X k:Nat)(h:X<2^(32*k)):X<2^(32*iV X k):=by
 induction k with
 | zero=>exact h
 | succ k ih=> all_goals grind [iV]
def li(X:Nat):c6 X<=16:=GM X 16
def fm{X:Nat}(h:X<ed):X<2^(32*c6 X):=B6 X 16 (by rw[g8,dI] at h;exact h)
def pu{X:Nat}(h:c6 X≠0):2^(32*(c6 X-1))<=X:=DE X 16 h
def zp{X k:Nat}(h:X<2^(32*(k+1))):bG X k=0↔X<2^(32*k):=by
 unfold bG;have hp:=zya (32*k);have h2:X/2^(32*k)<2^32:=by rw[zfb hp,<-zwb,show 32+32*k=32*(k+1) from by omega];exact h
 rw[zVa h2];constructor
 ·intro h3;have a:X/2^(32*k)=0:=j1
  all_goals simp_all
 ·simp_all [zjb]
def sgn(a b:Nat):Int:=if a<b then -1 else if b<a then 1 else 0
def kC(X Y k:Nat):Prop:=X/2^(32*k)=Y/2^(32*k)
def Gs{X Y:Nat}(a:X<ed)(b:Y<ed):kC X Y 16:=by unfold kC;rw[g8,dI] at a b;omega
def nX(X k:Nat):X/2^(32*k)=X/2^(32*(k+1))*4294967296+(X/2^(32*k))%4294967296:=by rw[dZ,<-z6a];omega
def BF{X Y k:Nat}(h:kC X Y (k+1))(a:bG X k=bG Y k):kC X Y k:=by unfold kC bG at *;rw[nX X k,nX Y k,h];omega
def CB{X Y k:Nat}(h:kC X Y (k+1))(b:bG X k≠bG Y k):sgn X Y=if bG X k<bG Y k then -1 else 1:=by
 unfold kC bG at *;have hx:=nX X k;have hy:=nX Y k;have hp:=zya (32*k);have c:=jQ X k;have d:=jQ Y k;have h1:=z4a X hp;have h2:=z4a Y hp;simp only[show(2:Nat)^32=4294967296 from rfl] at b ⊢;generalize 2^(32*k)=p at *;unfold sgn;by_cases hlt:X/p<Y/p
 ·have:p*(X/p)+p<=p*(Y/p):=by rw[<-zAd];exact zCb _ hlt
  omega
 ·have a:Y/p<X/p:=j1
  have:p*(Y/p)+p<=p*(X/p):=by rw[<-zAd];exact zCb _ a
  omega
def G7{X Y:Nat}(h:kC X Y 0):sgn X Y=0:=by simp_all [kC,sgn]
theorem eK(X k:Nat):bG X k=((X/2^(32*k)%4294967296:Nat):Int):=rfl
def gv{X n k:Nat}(h:X<2^(32*n))(hk:n<=k):bG X k=0:=by rw[eK,zjb (zob h (zGa j1 j1))];rfl
def lT(X c s j:Nat)(h:j<s):bG (X+c*2^(32*s)) j=bG X j:=by
 rw[eK,eK];congr 1;rw[show 32*s=32*j+(32+32*(s-j-1)) from by omega,zwb,zwb,show c*(2^(32*j)*(2^32*2^(32*(s-j-1))))=2^(32*j)*(4294967296*(c*2^(32*(s-j-1)))) from by rw[show(2:Nat)^32=4294967296 from rfl];ac_rfl,zbc _ _ (zya _),Nat.add_mul_mod_self_left]
def iI(A B i:Nat):Nat:=A%2^(32*i)*B
def pq(A B i k:Nat):Nat:=iI A B i+(A/2^(32*i)%4294967296)*(B%2^(32*k))*2^(32*i)
def qw(A B i k:Nat):Nat:=pq A B i k/2^(32*(i+k))-iI A B i/2^(32*(i+k))
def zX(A B i k:Nat):Nat->Int:=xc (i+k) (pq A B i k) (iI A B i)
def yn(A B i:Nat):pq A B i 0=iI A B i:=by simp[pq,zed]
def yi(A B i:Nat):qw A B i 0=0:=by simp[qw,yn]
def GH(A B i:Nat):zX A B i 0=bG (iI A B i):=by funext j;simp[zX,yn,xc]
def ym(A B i k:Nat):pq A B i (k+1)=pq A B i k+(A/2^(32*i)%4294967296)*(B/2^(32*k)%4294967296)*2^(32*(i+k)):=by
 unfold pq;rw[fl,show 32*(i+k)=32*i+32*k from by omega,zwb,zxc,zpb,zXb]
 grind
def NH(A B i k:Nat):iI A B i<=pq A B i k:=zxd _ _
def zV(A B i k:Nat):qw A B i k+iI A B i/2^(32*(i+k))=pq A B i k/2^(32*(i+k)):=by unfold qw;have:=Nat.div_le_div_right (c:=2^(32*(i+k))) (NH A B i k);omega
theorem B3(A B i k:Nat):pq A B i (k+1)/2^(32*(i+k))=qw A B i k+iI A B i/2^(32*(i+k))+(A/2^(32*i)%4294967296)*(B/2^(32*k)%4294967296):=by rw[ym,z7c _ _ (zya _),zV]
def vH(A B i k:Nat):qw A B i (k+1)=(qw A B i k+((A/2^(32*i)%4294967296)*(B/2^(32*k)%4294967296)+iI A B i/2^(32*(i+k))%4294967296))/4294967296:=by
 have h1:=zV A B i (k+1);have h2:=B3 A B i k;have e:∀ X,X/2^(32*(i+(k+1)))=X/2^(32*(i+k))/4294967296:=λX=>by rw[show i+(k+1)=i+k+1 from by omega,dZ,z6a]
 grind
def C9(a p q z c:Nat):(((a+(p*q+z))%c:Nat):Int)=((a:Int)+((p:Int)*q+z))%(c:Int):=by push_cast;rfl
def GD(A B i k:Nat):((qw A B i (k+1):Nat):Int)=((qw A B i k:Nat)+(bG A i*bG B k+bG (iI A B i) (i+k)))/4294967296:=by simp_all [vH,eK]
def zW(A B i k:Nat):qw A B i k<=4294967295:=by
 induction k with
 | zero=>rw[yi];omega
 | succ k ih=>
  rw[vH];have h1:A/2^(32*i)%4294967296<=4294967295:=j1
  have h2:B/2^(32*k)%4294967296<=4294967295:=j1
  have h3:=z5a h1 h2;omega
def GF(A B i k:Nat):zX A B i k (i+k)=bG (iI A B i) (i+k):=yg _ _ _
def JB(A B i k:Nat):bG (pq A B i (k+1)) (i+k)=((qw A B i k:Nat)+(bG A i*bG B k+bG (iI A B i) (i+k)))%4294967296:=by grind [eK,pq,B3]
def yq{A B i m:Nat}(a:B<2^(32*m)):iI A B (i+1)=pq A B i m:=by grind [iI,pq,fl,Nat.mod_eq_of_lt,Nat.add_mul]
def Fd{A B i m:Nat}(a:B<2^(32*m)):iI A B i<2^(32*(i+m)):=by
 unfold iI;rw[show 32*(i+m)=32*i+32*m from by omega,zwb]
 exact Nat.mul_lt_mul'' (z4a _ (zya _)) a
def GI(A B:Nat):iI A B 0=0:=by simp[iI,zed]
def JE{A B n:Nat}(a:A<2^(32*n)):iI A B n=A*B:=by unfold iI;rw[zVa a]
def mZ(k:Nat):bG 0 k=0:=by simp[bG]
def lV(X a k:Nat):bG (X/2^(32*a)) k=bG X (a+k):=by simp_all [eK,z6a,zwb,zxc]
def Bn(X a k:Nat):bG (X/oP a) k=bG X (a+k):=by rw[dI,lV]
def Jz(a b D c:Nat):(a+b*D)%c=(a+b%c*D)%c:=by
 have h:b*D%c=b%c*D%c:=by simp_all
 simp_all [Nat.add_mod]
def iH(X D k:Nat):Nat:=X%2^(32*k)*D/2^(32*k)
def yl(X D:Nat):iH X D 0=0:=by simp[iH,zed]
def zY(X k:Nat){D:Nat}(h:0<D):iH X D k<D:=by unfold iH;rw[zfb (zya _),zab D];exact zKb (z4a _ (zya _)) h
def Dx(X D k:Nat):iH X D (k+1)=(iH X D k+X/2^(32*k)%4294967296*D)/4294967296:=by unfold iH;grind [fl,dZ,Nat.div_div_eq_div_mul,Nat.add_mul,Nat.mul_assoc,Nat.add_mul_div_left]
def yj(X D k:Nat):((iH X D (k+1):Nat):Int)=((iH X D k:Nat)+bG X k*(D:Nat))/4294967296:=by simp_all [zmc,Int.add_zero,Int.natCast_zero,Int.cast_ofNat_Int,Dx,eK]
def B0(X D k:Nat):bG (X*D) k=((iH X D k:Nat)+bG X k*(D:Nat))%4294967296:=by
 have h:=C9 (iH X D k) (X/2^(32*k)%4294967296) D 0 4294967296;simp only[zmc,Int.add_zero,Int.natCast_zero,Int.cast_ofNat_Int] at h;rw[eK,eK];refine Eq.trans (zna Nat.cast ?_) h;have e:X*D/2^(32*k)=iH X D k+X/2^(32*k)*D:=by grind [iH,Nat.add_mul_div_left,Nat.two_pow_pos,Nat.mul_assoc,Nat.add_mul,jQ]
 rw[e,Jz]
def JA{X D:Nat}(h:X<ed):iH X D 16=X*D/ed:=by grind [iH,Ch,Nat.mod_eq_of_lt]
def IL(X n k:Nat)(hn:n<=32):bG (X/2^n) k=(bG X (k+1)*4294967296+bG X k)/((2^n:Nat):Int)%4294967296:=by
 rw[eK,eK,eK,dZ,<-z6a,z6a,zab (2^n),<-z6a];generalize X/2^(32*k)=Y;have e:(((Y/4294967296%4294967296:Nat):Int)*4294967296+((Y%4294967296:Nat):Int))=((Y%(2^n*(2^(32-n)*4294967296)):Nat):Int):=by
  rw[<-zHb,<-zwb,show n+(32-n)=32 from by omega,show(2:Nat)^32=4294967296 from rfl]
  omega
 rw[e,<-zyd,Nat.mod_mul_right_div_self];generalize Y/2^n=Z;have h:Z%4294967296=Z%(2^(32-n)*4294967296)%4294967296:=(Nat.mod_mul_left_mod _ _ _).symm;rw[h];exact Int.natCast_emod _ 4294967296
def xZ(X k j:Nat):bG (X/2^(32*k)*2^(32*k)) j=if j<k then 0 else bG X j:=by
 have h:=lT 0 (X/2^(32*k)) k j;by_cases hj:j<k
 ·simp_all [zeb,mZ]
 ·rw[zia hj,show j=k+(j-k) from by omega,<-lV,zjd _ (zya _),lV]
def gh(X b k:Nat):Nat:=X/2^(32*k)%b
def Cr(X k:Nat){b:Nat}(h:0<b):gh X b k<b:=z4a _ h
def uW(X k:Nat):X/2^(32*k)=X/2^(32*(k+1))*4294967296+X/2^(32*k)%4294967296:=by rw[dZ,<-z6a];omega
def DS(X b k:Nat):gh X b k=(gh X b (k+1)*4294967296+X/2^(32*k)%4294967296)%b:=by
 unfold gh
 conv=>lhs;rw[uW X k]
 simp_all [zTc,Jz]
def G8(X k:Nat){b:Nat}(a:0<b)(h:b<=4294967295):X/b/2^(32*k)%4294967296=(gh X b (k+1)*4294967296+X/2^(32*k)%4294967296)/b:=by
 have e:X/b/2^(32*k)=X/2^(32*(k+1))/b*4294967296+(gh X b (k+1)*4294967296+X/2^(32*k)%4294967296)/b:=by
  rw[z6a,zab,<-z6a]
  conv=>lhs;rw[uW X k]
  unfold gh;generalize X/2^(32*(k+1))=Y;generalize X/2^(32*k)%4294967296=z
  conv=>lhs;rw[show Y*4294967296+z=b*(Y/b*4294967296)+(Y%b*4294967296+z) from by
   have:=zsc Y b
   conv=>lhs;rw[<-this]
   rw[zpb,zHb];omega]
  rw[Nat.mul_add_div a]
 have c:(gh X b (k+1)*4294967296+X/2^(32*k)%4294967296)/b<4294967296:=by rw[zfb a];have h1:=Cr X (k+1) a;omega
 simp_all
def G5(X b:Nat):gh X b 0=X%b:=by simp[gh]
structure Heads(W V P T F u v:Nat):Prop where
 w:W/P=T*4294967296+u
 d:V/P=F*4294967296+v
 u:u<4294967296
 v:v<4294967296
 one:1<=F
 pos:0<P
 lt:W<V*4294967296
variable{W V P T F u v:Nat}
def Heads.key{d r:Nat}(h:d*F+r=T):d*(F*4294967296+v)+r*4294967296=T*4294967296+d*v:=by grind
def Heads.vpos(H:Heads W V P T F u v):0<V:=by
 rcases zhc V with h|h
 ·have:=H.lt;rw[h] at this;omega
 ·exact h
def Heads.over(H:Heads W V P T F u v){d:Nat}(h:W/P<d*(V/P)):W/V<d:=by
 apply zIc;have h1:W<(W/P+1)*P:=by have:=zsc W P;have:=z4a W H.pos;rw[zpb,zab (W/P)];omega
 have h2:(W/P+1)*P<=d*(V/P)*P:=zMa _ h;have h3:d*(V/P)*P<=d*V:=by rw[zHb];exact zCb _ (zfd V P)
 grind
def Heads.under(H:Heads W V P T F u v){d:Nat}(h:d*(V/P)<=W/P)(f:d<4294967296):d<=W/V+1:=by
 rcases zhc d with h0|h0
 ·simp_all
 obtain⟨e,rfl⟩:∃ e,d=e+1:=⟨d-1,j1⟩
 have c:e<=V/P:=by rw[H.d];have h1:1*4294967296<=F*4294967296:=zMa _ H.one;omega
 have:e<=W/V:=by
  rw[z5c H.vpos];have h1:V<=(V/P+1)*P:=by have:=zsc V P;have:=z4a V H.pos;rw[zpb,zab (V/P)];omega
  have h2:e*V<=e*((V/P+1)*P):=zCb _ h1;have h3:e*((V/P+1)*P)<=(e+1)*(V/P)*P:=by rw[<-zHb];apply zMa;rw[zxc,zpb];omega
  have a:(e+1)*(V/P)*P<=W/P*P:=zMa _ h;have b:=zfd W P;omega
 omega
def Heads.q_lt(H:Heads W V P T F u v):W/V<4294967296:=zIc (by have:=H.lt;omega)
def Heads.start(H:Heads W V P T F u v):W/V<=T/F:=by
 have h1:W/V<T/F+1:=by
  apply H.over;rw[H.w,H.d];have h2:T<(T/F+1)*F:=by have:=zsc T F;have:=z4a T (show 0<F from H.one);rw[zpb,zab (T/F)];omega
  have h3:(T+1)*4294967296<=(T/F+1)*F*4294967296:=zMa _ h2;have a:(T/F+1)*F*4294967296<=(T/F+1)*(F*4294967296+v):=h7
  have b:=H.u;omega
 omega
def Heads.step_big(H:Heads W V P T F u v){d:Nat}(h:4294967296<=d):W/V<=d-1:=Nat.le_sub_one_of_lt (zob H.q_lt h)
def Heads.step(H:Heads W V P T F u v){d r:Nat}(h:d*F+r=T)(ht:r*4294967296+u<d*v):W/V<=d-1/\1<=d:=by
 have h1:W/V<d:=by apply H.over;rw[H.w,H.d];grind
 grind
def Heads.t_lt(H:Heads W V P T F u v):T<(F+1)*4294967296:=by
 have h1:W/P*P<=W:=zfd W P;have h2:V<(V/P+1)*P:=by have:=zsc V P;have:=z4a V H.pos;rw[zpb,zab (V/P)];omega
 have h3:V*4294967296<(V/P+1)*P*4294967296:=zKb h2 j1
 have c:=H.lt;have a:W/P*P<(V/P+1)*4294967296*P:=by rw[Nat.mul_right_comm];omega
 have b:W/P<(V/P+1)*4294967296:=Nat.lt_of_mul_lt_mul_right a;rw[H.w,H.d] at b;have e:=H.v;omega
def Heads.done(H:Heads W V P T F u v){d r:Nat}(h:d*F+r=T)(a:4294967296<=r\/(d<4294967296/\d*v<=r*4294967296+u)):d<4294967296/\d<=W/V+1:=by
 have b:d<4294967296:=by
  rcases a with a|a
  ·have h1:=H.t_lt;rw[zpb,z0c] at h1;have h2:d*F<4294967296*F:=j1
   exact Nat.lt_of_mul_lt_mul_right h2
  ·exact a.1
 refine⟨b,H.under ?_ b⟩;rw[H.w,H.d];have hk:=Heads.key (v:=v) h;rcases a with a|a
 ·have h1:d*v<=4294967295*4294967295:=z5a j1 (by have:=H.v;omega)
  omega
 ·omega
def dg(X k:Nat):Nat:=X/2^(32*k)%4294967296
def rL(X k:Nat):bG X k=(dg X k:Nat):=rfl
def ga(X k:Nat):dg X k<4294967296:=z4a _ j1
def EM(X k:Nat):dg X k<=4294967295:=Nat.le_of_lt_succ (ga X k)
def pV(X k:Nat):X/2^(32*k)=X/2^(32*(k+1))*4294967296+dg X k:=uW X k
def kU{X k:Nat}(h:X<2^(32*(k+1))):X/2^(32*k)=dg X k:=by rw[pV,zjb h,Nat.zero_mul,zeb]
def I4{U V e j:Nat}(b:V<2^(32*(e+2)))(c:2^(32*(e+1))<=V)(d:U/2^(32*j)<V*4294967296) :
  Heads (U/2^(32*j)) V (2^(32*e)) (dg U (j+e+2)*4294967296+dg U (j+e+1)) (dg V (e+1)) (dg U (j+e)) (dg V e):=by
 have hc:∀ k,U/2^(32*j)/2^(32*k)=U/2^(32*(j+k)):=λk=>by rw[z6a,<-zwb,zxc]
 have a:U<2^(32*(j+e+2+1)):=by
  have h1:=(zfb (zya (32*j))).1 d;have h2:V*4294967296*2^(32*j)<2^(32*(e+2))*4294967296*2^(32*j):=zKb (zKb b j1) (zya _)
  grind
 refine⟨?_,?_,ga _ _,ga _ _,?_,zya _,d⟩
 ·rw[hc,pV,pV U (j+e+1),kU a]
 ·rw[pV,kU b]
 ·rw[<-kU b];exact(z5c (zya _)).2 (by rw[z0c];exact c)
def QG(U i k:Nat):dg U i*4294967296+dg U k<=18446744073709551615:=by have h1:=EM U i;have h2:=EM U k;omega
def Dm{T F D R:Nat}(h:D*F+R=T)(a:1<=D):(D-1)*F+(R+F)=T:=by
 obtain⟨E,rfl⟩:∃ E,D=E+1:=⟨D-1,j1⟩
 grind
def wX{X X' Y k:Nat}(h:X%2^(32*k)=X'%2^(32*k)):cl X Y k=cl X' Y k:=by unfold cl;rw[h]
def fN(U Z j:Nat):Nat:=U%2^(32*j)+Z*2^(32*j)
def GP{U Z j t:Nat}(h:t<j):bG (fN U Z j) t=bG U t:=by simp_all [fN,lT,lW]
def DG(U Z j i:Nat):bG (fN U Z j) (j+i)=bG Z i:=by
 rw[<-lV];unfold fN
 simp_all [z7c,zya,zjb,z4a,zeb]
def xg(U Z j i:Nat):Nat->Int:=xc (j+i) (fN U Z j) U
def yO(U Z j:Nat):xg U Z j 0=bG U:=by
 funext t;unfold xg xc;split
 ·rename_i h;exact GP j1
 ·rfl
def oo(U Z j i:Nat):xg U Z j i (j+i)=bG U (j+i):=yg _ _ _
def nI(W Y m:Nat):Nat:=(W+2^(32*m)-Y)%2^(32*m)
def Hn{W Y m i:Nat}(a:i<m)(d:Y<=2^(32*m)):bG (nI W Y m) i=(bG W i-bG Y i-(cl W Y i:Nat))%4294967296:=by
 have c:bG (W+2^(32*m)) i=bG W i:=by have:=lT W 1 m i a;rwa [z0c] at this
 have b:cl (W+2^(32*m)) Y i=cl W Y i:=wX (by rw[show 32*m=32*i+(32*m-32*i) from by omega,zwb,Nat.add_mul_mod_self_left])
 unfold nI;rw[lW,zma a,EO j1,c,b]
def KI(W Y m:Nat):nI W Y m<2^(32*m):=z4a _ (zya _)
def A4{W Y m:Nat}(a:W<2^(32*m))(b:Y<2^(32*m)):cl W Y m=if W<Y then 1 else 0:=by simp_all [cl,zVa]
def fe(N V j:Nat):Nat:=N/V%2^(32*j)*V+N%V
def G4(N V:Nat):fe N V 0=N%V:=by simp[fe,zed]
def DP{N V k:Nat}(h:N/V<2^(32*k)):fe N V k=N:=by unfold fe;rw[zVa h,zab];exact zsc N V
def yG(N V j:Nat):fe N V (j+1)=fe N V j+dg (N/V) j*V*2^(32*j):=by unfold fe dg;rw[fl];grind
def Am{N V:Nat}(j:Nat)(h:0<V):fe N V j<V*2^(32*j):=by unfold fe;have h1:=z4a (N/V) (zya (32*j));have h2:=z4a N h;have h3:(N/V%2^(32*j)+1)*V<=2^(32*j)*V:=zMa _ h1;grind
def qD{N V:Nat}(j:Nat)(h:0<V):fe N V j/2^(32*j)<V:=by rw[zfb (zya _)];exact Am j h
def sK(N V j:Nat):fe N V (j+1)/2^(32*j)=fe N V j/2^(32*j)+V*dg (N/V) j:=by rw[yG,z7c _ _ (zya _),zab V]
def Cq(N V j:Nat):fe N V (j+1)%2^(32*j)=fe N V j%2^(32*j):=by rw[yG,Nat.add_mul_mod_self_right]
def J3{N V:Nat}(j:Nat)(h:0<V):fe N V (j+1)/2^(32*j)/V=dg (N/V) j:=by simp_all [sK,zbc,zjb,qD,zeb]
def J4{N V:Nat}(j:Nat)(h:0<V):fe N V (j+1)/2^(32*j)<V*4294967296:=by rw[zfb (zya _),zHb,zab 4294967296,<-dZ];exact Am (j+1) h
def G3{N V n:Nat}(j:Nat)(h:0<V)(a:V<2^(32*n)):fe N V (j+1)<2^(32*(j+n+1)):=by have h1:=Am (N:=N) (j+1) h;have h2:V*2^(32*(j+1))<2^(32*n)*2^(32*(j+1)):=zKb a (zya _);grind
def yA{U U' j:Nat}(h:U%2^(32*j)=U'%2^(32*j)):fN U (U'/2^(32*j)) j=U':=by unfold fN;rw[h,zab (U'/2^(32*j)) (2^(32*j))];exact Nat.mod_add_div U' _
def GQ(U Z j:Nat):fN U Z j%2^(32*j)=U%2^(32*j):=by unfold fN;rw[Nat.add_mul_mod_self_right,Nat.mod_mod]
def GO(U Z j:Nat):fN U Z j/2^(32*j)=Z:=by simp_all [fN,z7c,zya,zjb,z4a,zeb]
def Ce{U Z j m:Nat}(hZ:Z<2^(32*m)):fN U Z j<2^(32*(j+m)):=by
 have h1:fN U Z j<(Z+1)*2^(32*j):=by unfold fN;have:=z4a U (zya (32*j));rw[zpb];omega
 have h2:(Z+1)*2^(32*j)<=2^(32*m)*2^(32*j):=zMa _ hZ;grind
variable{N V n:Nat}
def oW(a:V<2^(32*n)):V<2^(32*(n+1)):=zob a (zGa j1 j1)
def AM{x y B:Nat}(hx:x<B):(x+y+B-y)%B=x:=by rw[show x+y+B-y=x+B from by omega,Nat.add_mod_right,zVa hx]
def Ct(j:Nat)(h:0<V)(a:V<2^(32*n)) :
  fN (fe N V (j+1)) (nI (fe N V (j+1)/2^(32*j)) (V*dg (N/V) j) (n+1)) j=fe N V j:=by
 have e:nI (fe N V (j+1)/2^(32*j)) (V*dg (N/V) j) (n+1)=fe N V j/2^(32*j):=by unfold nI;rw[sK];exact AM (zvc (qD j h) (oW a))
 rw[e,yA (Cq N V j)]
def Ho(j:Nat)(h:0<V)(a:V<2^(32*n)) :
  nI (fe N V (j+1)/2^(32*j)) (V*(dg (N/V) j+1)) (n+1)=fe N V j/2^(32*j)+2^(32*(n+1))-V:=by
 have h1:=qD (N:=N) j h;have h2:=oW a;unfold nI;rw[sK,zxc V (dg (N/V) j) 1,zdd];generalize 2^(32*(n+1))=B at *;generalize fe N V j/2^(32*j)=x at *;generalize V*dg (N/V) j=y;rw[show x+y+B-(y+V)=x+B-V from by omega,zVa j1]
def Cu(j:Nat)(h:0<V)(b:V<2^(32*n)){U1:Nat}(a:U1=fN (fe N V (j+1)) (nI (fe N V (j+1)/2^(32*j)) (V*(dg (N/V) j+1)) (n+1)) j) :
  fN U1 ((U1/2^(32*j)+V)%2^(32*(n+1))) j=fe N V j:=by
 have h1:=qD (N:=N) j h;have h2:=oW b;have c:(U1/2^(32*j)+V)%2^(32*(n+1))=fe N V j/2^(32*j):=by rw[a,GO,Ho j h b];generalize 2^(32*(n+1))=B at *;generalize fe N V j/2^(32*j)=x at *;rw[show x+B-V+V=x+B from by omega,Nat.add_mod_right,zVa j1]
 rw[c,yA (by rw[a,GQ,Cq])]
end
noncomputable section
namespace Sy
open Go Go.Proofs Geo
def cU(n:Nat)(f:Nat->Int):D:=.st ((List.range n).map λi=>.int .u32 (f i))
abbrev LM(X:Nat):D:=cU 16 (bG X)
def bw{n i:Nat}(f:Nat->Int)(h:i<n):D.get (cU n f) [i]=some (.int .u32 (f i)):=by simp[cU,D.get,D.fld,h]
def dJ{n:Nat}{f g:Nat->Int}(h:∀ i,i<n->f i=g i):cU n f=cU n g:=by simp_all [cU,zXa.1]
def ox{n i:Nat}{f g:Nat->Int}{v:Int}(h:i<n)(a:∀ j,j<n->g j=if j=i then v else f j):D.set (cU n f) [i] (.int .u32 v)=some (cU n g):=by
 have e:((List.range n).map λi=>D.int .u32 (f i))[i]?=some (.int .u32 (f i)):=by simp[h]
 simp only[cU,D.set,e,zba];congr 2;apply zuc;all_goals grind
theorem uF(f g:Nat->Int):∀ l:List Nat,D.beqs (l.map λi=>D.int .u32 (f i)) (l.map λi=>D.int .u32 (g i))=l.all λi=>decide (f i=g i)
 | []=>rfl
 | i::l=>by simp only[zbb,D.beqs,D.beq,zZb,uF f g l];simp
def Om(n:Nat)(f g:Nat->Int):D.beq (cU n f) (cU n g)=decide (∀ i,i<n->f i=g i):=by simp only[cU,D.beq,uF];grind
def mP{X Y:Nat}(a:X<ed)(b:Y<ed):D.beq (LM X) (LM Y)=decide (X=Y):=by
 rw[Om,decide_eq_decide];constructor
 ·exact GA a b
 ·simp_all
def jb:D.st (acj (List.replicate 16 (D.int .u32 0)) [])=LM 0:=by have:LM 0=cU 16 (λ_=>0):=dJ λi _=>mZ i;rw[this];rfl
def il:ar aR=LM 0:=by have:LM 0=cU 16 (λ_=>0):=dJ λi _=>mZ i;rw[this];rfl
def Qo(i:Nat):2^(32*i)=4294967296^i:=by rw[Nat.pow_mul]
def Gz(m:Nat):eO (cK m)=LM m:=by simp_all [eO,LM,cU,js,bG,Qo]
def cH(x:Int):ah x=.st [.bool false,.bool (decide (x<0)),LM x.natAbs]:=by unfold ah;rw[Gz]
def DL(a b c:Nat)(h:a*b=c):((2:Nat)^a)^b=2^c:=by rw[<-Nat.pow_mul,h]
def Hg:(65536:Nat)^32=ed:=(DL 16 32 (32*16) rfl).trans ((dI 16).symm.trans g8.symm)
def under(X k:Nat):Prop:=X<2^(32*k)
def Dt{X k:Nat}(hk:k=16)(h:X<ed):under X k:=by subst hk;unfold under;rw[Ch];exact h
def Ec{X k:Nat}(hk:k<=16)(h:X<2^(32*k)):X<ed:=by rw[<-dI] at h;rw[g8];exact zob h (pE hk)
def aQ{x:Int}:In x↔x.natAbs<ed:=by unfold In;rw[Hg]
def uE:D:=.st [.bool true,.bool false,LM 0]
def fj:Option Int->D
 | some x=>ah x
 | none=>uE
def wS(a:Option Int):Prop:=∀ x,a=some x->In x
def fF(x:Int):Option Int:=if x.natAbs<ed then some x else none
def mn{x:Int}(h:In x):fF x=some x:=by unfold fF;rw[zma (aQ.1 h)]
def qx(x:Int):wS (fF x):=λy h=>by
 unfold fF at h;split at h
 ·cases h;exact aQ.2 (by assumption)
 ·cases h
theorem wS.some{x:Int}(h:wS (some x)):In x:=h x rfl
def aY{x:Int}(h:In x):wS (some x):=λy e=>by cases e;exact h
abbrev W(n:Int):D:=.int .u64 n
def KD{k:IntKind}{a:Int}(h0:0<=a)(h:a<18446744073709551616):D.conv .u64 (.int k a)=some (W a):=by simp only[D.conv,dK ⟨h0,h⟩]
def wK{a b:Int}(h0:0<=a+b)(h:a+b<18446744073709551616):ab7 .add (W a) (W b)=some (W (a+b)):=by simp only[ab7,if_true,dK ⟨h0,h⟩]
def wM(a b:Int):ab7 .sub (W a) (W b)=some (W (IntKind.u64.wrap (a-b))):=by simp only[ab7,if_true]
def O7{a b:Int}(h0:0<=a*b)(h:a*b<18446744073709551616):ab7 .mul (W a) (W b)=some (W (a*b)):=by simp only[ab7,if_true,dK ⟨h0,h⟩]
def ja(a:Int):D.conv .u32 (W a)=some (.int .u32 (a%4294967296)):=by simp only[D.conv];rfl
def wL{a:Int}(h:0<=a):ab7 .shr (W a) (.int .u64 32)=some (W (a/4294967296)):=by simp only[ab7];rw[zia j2,zHc _ j2];rfl
def AK{a:Int}:ab7 .shr (W a) (.int .u64 63)=some (W (a/9223372036854775808)):=by simp only[ab7];rw[zia j2,zHc _ j2];rfl
def fH{i n:Nat}(h:i<n):D.idx (I (i:Int)) n=some i:=aq h
def fC(X k:Nat):D.conv .u64 (.int .u32 (bG X k))=some (W (bG X k)):=KD (cP X k) (by have:=uU X k;omega)
def tY{Z k:Nat}(hk:k<16):D.set (LM (Z%2^(32*k))) [k] (.int .u32 (bG Z k))=some (LM (Z%2^(32*(k+1)))):=
 ox hk λj a=>by rw[lW,lW];all_goals grind
def tZ(Z:Nat):LM (Z%2^(32*0))=LM 0:=by simp[zed]
def MB(Z k:Nat)(hk:k=16):LM (Z%2^(32*k))=LM Z:=dJ λj a=>by rw[lW,zma j1]
def pM(Z:Nat):LM (Z%2^(32*16))=LM Z:=MB Z 16 rfl
def RE(n:Nat){a:Option Int}(b:wS a):cA (n+1) 167 [fj a]=some (.bool true):=by
 rw[YM]
 delta LH qG qT qN
 cases a with
 | none=> refine j0 (LM 0) (j0 (.bool true) (j0 true ?_));rw[zma rfl,jb,mP fZ fZ,zha rfl];rfl
 | some x=>
  have hx:=aQ.1 b.some;simp only[fj,cH];refine j0 (LM x.natAbs) (j0 (.bool false) (j0 false ?_));rw[zia j2,jb,mP hx fZ]
  refine aa bA (aa ac ?_);by_cases h:x.natAbs=0
  ·rw[zha h];have:decide (x<0)=false:=zea j1
   rw[this];rfl
  ·simp_all
def Rv(n:Nat){l:List (Option Int)}(hl:l.length<=1000)(h:∀ a∈l,wS a):cA (n+2) 118 [.sl (l.map fj)]=some (.bool (l.all Option.isSome)):=by
 rw[Ym]
 delta Lf qG qB qC qT qS qX qZ iL iR Jn
 refine j0 (l.map fj) ?_;refine bO (λi s=>s=[I (i:Int)]/\(l.take i).all Option.isSome=true) l.length 0 (zxa _) ⟨rfl,rfl⟩ (λi f s e=>?_) (λs e=>?_)
 ·obtain⟨rfl,ht⟩:=e;have g:(l.map fj)[i]?=some (fj l[i]):=by simp[f]
  have d:ab7 .lss (I (i:Int)) (D.int .i64 (l.map fj).length)=some (.bool true):=by simp_all [af,zha,zta]
  have c:D.idx (I (i:Int)) (l.map fj).length=some i:=aq (by rw[zta];exact f)
  have b:=h l[i] (zDa f);cases ha:l[i] with
  | none=>
   right;refine⟨(0,[.bool false]),?_,?_⟩
   ·refine aa d (j0 true ?_);rw[zma rfl];refine j0 (l.map fj) (aa c (aa g ?_));rw[ha];exact j0 (.bool true) (j0 true (j0 true (j0 true rfl)))
   ·grind
  | some x=>
   left;refine⟨[I ((i+1:Nat):Int)],?_,rfl,?_⟩
   ·refine aa d (j0 true ?_);rw[zma rfl];refine j0 (l.map fj) (aa c (aa g ?_));rw[ha] at b ⊢;refine j0 (.bool false) (j0 false (aa (z:=false) ?_ (j0 false ?_)))
    ·rw[zia j2];exact aa (RE n b) rfl
    ·rw[zia j2];exact aa (ay (aH (i:=i) j1)) rfl
   ·simp_all [zUa,zhd]
 ·obtain⟨rfl,ht⟩:=e;rw[zub] at ht;refine⟨(1,[]),?_,?_⟩
  ·have d:ab7 .lss (I (l.length:Int)) (D.int .i64 (l.map fj).length)=some (.bool false):=by
    simp_all [af,zea,zta]
   exact aa d (j0 false rfl)
  ·rw[ht];rfl
def mT(n:Nat){a:Option Int}(c:wS a):cA (n+2) 118 [.sl [fj a]]=some (.bool a.isSome):=by
 have:=Rv n (l:=[a]) j3 (λb d=>by rw[zKa.1 d];exact c)
 simpa using this
def rC(n:Nat){a b:Option Int}(d:wS a)(e:wS b):cA (n+2) 118 [.sl [fj a,fj b]]=some (.bool (a.isSome&&b.isSome)):=by
 have:=Rv n (l:=[a,b]) j3 (λc hc=>by
  simp only[zBa,zdc,or_false] at hc;rcases hc with rfl|rfl
  ·exact d
  ·exact e)
 simp_all
def ze(n:Nat):cA (n+1) 119 []=some uE:=by rw[Yn];unfold Lg;rw[il];rfl
def tH(neg:Bool)(m:Nat):decide (sgn neg m<0)=(neg&&!(decide (m=0))):=by grind [sgn]
def Au(neg:Bool)(m:Nat):(sgn neg m).natAbs=m:=by unfold sgn;cases neg<;>simp
def tQ(n:Nat)(neg:Bool){m:Nat}(h:m<ed):cA (n+1) 116 [.bool neg,LM m]=some (ah (sgn neg m)):=by
 rw[Yk]
 delta Ld qT
 rw[jb,mP h fZ,cH,tH,Au];refine j0 neg (aa (z:=neg&&!(decide (m=0))) ?_ rfl);cases neg<;>rfl
def Xj(n:Nat){X Y:Nat}(b:X<ed)(c:Y<ed):cA (n+1) 120 [LM X,LM Y]=some (.tup [LM (X+Y),.bool (decide (X+Y<ed))]):=by
 rw[Yo]
 delta Lh qB qC qJ qZ iL iR Jn
 rw[il];refine bO (λk s=>s=[W (fV X Y k:Nat),I (k:Int),LM ((X+Y)%2^(32*k))]) 16 0 (zxa _) (by rw[sZ,tZ];rfl) (λk hk s a=>?_) (λs a=>?_)
 ·subst a;left;refine⟨_,?_,rfl⟩;have hc:=nK X Y k;have d:=cP X k;have e:=uU X k;have f:=cP Y k;have g:=uU Y k;refine aa af (aa ac (aO (by show(k:Int)<16;omega) ?_))
  refine aa (fH hk) (aa (bw _ hk) (aa (fC X k) (aa (fH hk) (aa (bw _ hk) (aa (fC Y k) ?_)))));refine aa (wK j1 j1) (aa (wK j1 j1) (aa (ja _) (aa (fH hk) ?_)))
  rw[<-EN];refine aa (tY hk) (aa (wL j1) ?_)
  rw[<-sY];exact aa (ay (aH (i:=k) j1)) rfl
 ·subst a;refine⟨_,aa af (aa ac (aU j2 rfl)),?_⟩
  rw[pM,Gd b c];by_cases h:X+Y<ed
  ·rw[zma h,zha h];rfl
  ·rw[zia h,zea h];rfl
def RG(n:Nat)(a:Int):cA (n+1) 194 [.int .u32 a]=some (.bool false):=by rw[YU];simp[LR,D.beq]
def Xs(n:Nat)(a b:Int):cA (n+2) 168 [.int .u32 a,.int .u32 b]=some (I (bg a b)):=by
 rw[YN]
 delta LI qC qT Jn
 refine aa (RG n a) (aa (RG n b) (j0 false ?_));rw[zia j2]
 refine j0 false ?_;rw[zia j2]
 refine aa (z:=.bool (decide (a<b))) (by simp only[ab7,if_true]) (aa ac ?_)
 unfold bg;by_cases h:a<b
 ·simp_all
 ·rw[zia h];refine aU h (aa (z:=.bool (decide (a>b))) (by simp only[ab7,if_true]) (aa ac ?_))
  all_goals grind
def MQ(n:Nat){X Y:Nat}(f:X<ed)(g:Y<ed):cA (n+3) 121 [LM X,LM Y]=some (I (bg X Y)):=by
 rw[Yp]
 delta Li qB qC qT qJ qZ iL iR Jn
 refine bO (λt s=>s=[I (15-(t:Int))]/\kC X Y (16-t)) 16 0 (zxa _) ⟨rfl,Gs f g⟩ (λt ht s c=>?_) (λs c=>?_)
 ·obtain⟨rfl,he⟩:=c;obtain⟨k,hk⟩:∃ k,k=15-t:=⟨_,rfl⟩;have a:k<16:=j1
  have e:(15-(t:Int))=(k:Int):=j1
  rw[show 16-t=k+1 by omega] at he
  rw[e];have b:D.idx (I (k:Int)) 16=some k:=fH a;have d:ab7 .geq (I (k:Int)) (D.int .i64 0)=some (.bool true):=by rw[io,zha j1]
  by_cases hd:bG X k=bG Y k
  ·left;refine⟨[I ((k:Int)-1)],?_,?_,?_⟩
   ·refine aa d (j0 true ?_);rw[zma rfl];refine aa b (aa (bw _ a) (aa b (aa (bw _ a) (aa (z:=false) ?_ ?_))))
    ·rw[hd];simp[D.beq,D.truth]
    ·rw[zia j2];exact aa (fg (by simp only[inR];omega)) rfl
   ·grind
   ·rw[show 16-(t+1)=k by omega];exact BF he hd
  ·right;refine⟨(0,[I (bg (bG X k) (bG Y k))]),?_,?_⟩
   ·refine aa d (j0 true ?_);rw[zma rfl];refine aa b (aa (bw _ a) (aa b (aa (bw _ a) (aa (z:=true) ?_ ?_))))
    ·simp[D.beq,D.truth,hd]
    ·rw[zma rfl];exact aa b (aa (bw _ a) (aa b (aa (bw _ a) (aa (Xs n _ _) rfl))))
   ·have hs:=CB he hd;rw[zma rfl];show some (I (bg (bG X k) (bG Y k)))=_;congr 2;unfold Go.Proofs.YtphlmegkommlnaaGreatDoor.sgn at hs;unfold bg;repeat' split at hs
    all_goals (repeat' split)<;>omega
 ·obtain⟨rfl,he⟩:=c;refine⟨(1,[]),aa io (aa ac (aU j2 rfl)),?_⟩
  rw[zia j2]
  have hs:=G7 he;congr 2;unfold Go.Proofs.YtphlmegkommlnaaGreatDoor.sgn at hs;unfold bg;repeat' split at hs
  all_goals (repeat' split)<;>omega
def Pr(n:Nat){X Y:Nat}(d:X<ed)(h:Y<=X):cA (n+1) 122 [LM X,LM Y]=some (LM (X-Y)):=by
 rw[Yq]
 delta Lj qB qC qJ qZ iL iR Jn
 rw[il];refine bO (λk s=>s=[W (cl X Y k:Nat),I (k:Int),LM ((X-Y)%2^(32*k))]) 16 0 (zxa _) (by rw[pP,tZ];rfl) (λk hk s a=>?_) (λs a=>?_)
 ·subst a;left;refine⟨_,?_,rfl⟩;have hc:=uH X Y k;obtain⟨b,c⟩:=tM (bG X k) (bG Y k) (cl X Y k) (cP X k) (oY X k) (cP Y k) (oY Y k) hc;refine aa af (aa ac (aO (by show(k:Int)<16;omega) ?_))
  refine aa (fH hk) (aa (bw _ hk) (aa (fC X k) (aa (fH hk) (aa (bw _ hk) (aa (fC Y k) ?_)))));refine aa (wM _ _) (aa (wM _ _) (aa (ja _) (aa (fH hk) ?_)));rw[c,<-EO h];refine aa (tY hk) (aa AK ?_);rw[b,<-pO];exact aa (ay (aH (i:=k) j1)) rfl
 ·subst a;refine⟨_,aa af (aa ac (aU j2 rfl)),?_⟩
  rw[pM];rfl
def C6(n:Nat){X:Nat}(f:X<ed):cA (n+1) 127 [LM X]=some (I (c6 X:Nat)):=by
 rw[Ys]
 delta Ll qB qC qT qJ qZ iL iR Jn
 refine bO (λt s=>s=[I ((16-t:Nat):Int)]/\c6 X=iV X (16-t)/\under X (16-t)) 16 0 (zxa _) ⟨rfl,rfl,Dt rfl f⟩ (λt ht s d=>?_) (λs d=>?_)
 ·obtain⟨rfl,he,c⟩:=d;obtain⟨k,hk⟩:∃ k,k=15-t:=⟨_,rfl⟩;rw[show 16-t=k+1 by omega] at he c ⊢
  have a:k<16:=j1
  have hsub:ab7 .sub (I ((k+1:Nat):Int)) (D.int .i64 1)=some (I (k:Int)):=by rw[show(D.int .i64 1)=I 1 from rfl,fg (by simp only[inR];omega)];congr 2;omega
  have e:ab7 .gtr (I ((k+1:Nat):Int)) (D.int .i64 0)=some (.bool true):=by rw[dM,zha j1]
  have g:=zp (show X<2^(32*(k+1)) from c);have b:D.beq (.int .u32 (bG X k)) (.int .u32 0)=decide (X<2^(32*k)):=by simp[D.beq,g]
  by_cases hs:X<2^(32*k)
  ·left;refine⟨[I ((16-(t+1):Nat):Int)],?_,rfl,?_,?_⟩
   ·refine aa e (j0 true (aa (z:=true) ?_ (j0 true ?_)))
    ·rw[zma rfl];refine aa hsub (aa (fH a) (aa (bw _ a) ?_));rw[b,zha hs];rfl
    ·simp_all
   ·rw[show 16-(t+1)=k by omega,he,iV,zia j1]
   ·rw[show 16-(t+1)=k by omega];exact hs
  ·right;refine⟨(0,[I ((k+1:Nat):Int)]),?_,?_⟩
   ·refine aa e (j0 true (aa (z:=false) ?_ (j0 false rfl)));rw[zma rfl];refine aa hsub (aa (fH a) (aa (bw _ a) ?_));rw[b,zea hs];rfl
   ·rw[he,iV,zma j1];rfl
 ·obtain⟨rfl,he,_⟩:=d;refine⟨(0,[I 0]),aa dM (aa ac (aa (z:=false) (aU j2 rfl) (j0 false rfl))),?_⟩
  rw[he];rfl
def wV:Option Int->Option Int->Option Int
 | some x,some y=>fF (x+y)
 | _,_=>none
def me{a b:Option Int}:(a.isSome&&b.isSome)=false\/∃ x y,a=some x/\b=some y:=by cases a<;>cases b<;>simp
def ia{neg:Bool}{m:Nat}{z:Int}(a:sgn neg m=z)(h:m<ed):fj (fF z)=ah (sgn neg m):=by
 have:z.natAbs=m:=by rw[<-a,Au]
 unfold fF;rw[zma (by rw[this];exact h),<-a];rfl
def ZM(n:Nat){a b:Option Int}(d:wS a)(f:wS b):cA (n+4) 57 [fj a,fj b]=some (fj (wV a b)):=by
 rw[u57]
 delta Tq qG qC qT qN Jn
 refine aa (rC (n+1) d f) (aa bA (aa ac ?_));rcases me (a:=a) (b:=b) with h|⟨x,y,rfl,rfl⟩
 ·rw[h,zma j2]
  refine aa (ze (n+2)) ?_;cases a<;>cases b<;>simp at h<;>rfl
 rw[zia j3]
 have hx:=aQ.1 d.some;have hy:=aQ.1 f.some;rw[show fj (some x)=_ from cH x,show fj (some y)=_ from cH y,show wV (some x) (some y)=fF (x+y) from rfl];refine j0 (.bool (decide (x<0))) (j0 (.bool (decide (y<0))) (aa (z:=decide (decide (x<0)=decide (y<0))) (by simp[D.beq,D.truth]) ?_))
 by_cases hs:decide (x<0)=decide (y<0)
 ·refine aO hs ?_;refine j0 (LM x.natAbs) (j0 (LM y.natAbs) (aa (Xj (n+2) hx hy) (j0 (LM (x.natAbs+y.natAbs)) (j0 (.bool (decide (x.natAbs+y.natAbs<ed))) (aa bA (aa ac ?_))))));have c:(x+y).natAbs=x.natAbs+y.natAbs:=by
   grind
  by_cases ht:x.natAbs+y.natAbs<ed
  ·rw[zha ht,zia j2]
   rw[ia (neg:=decide (x<0)) (z:=x+y) (by unfold sgn;rw[decide_eq_decide] at hs;simp only[zfa];split<;>omega) ht]
   exact j0 (.bool (decide (x<0))) (aa (tQ (n+2) _ ht) rfl)
  ·rw[zea ht,zma j2]
   refine aa (ze (n+2)) ?_;unfold fF;rw[zia (by rw[c];exact ht)];rfl
 ·refine aU hs ?_;refine j0 (LM x.natAbs) (j0 (LM y.natAbs) (aa (MQ n hx hy) (aa io (aa ac ?_))));have g:¬ (x<0↔y<0):=λe=>hs (by rw[decide_eq_decide];exact e)
  by_cases hge:y.natAbs<=x.natAbs
  ·refine aO (by unfold bg;split<;>(try split)<;>omega) ?_
   refine j0 (.bool (decide (x<0))) (j0 (LM x.natAbs) (j0 (LM y.natAbs) (aa (Pr (n+2) hx hge) (aa (tQ (n+2) _ (z0a (Nat.sub_le _ _) hx)) ?_))));rw[ia (neg:=decide (x<0)) (m:=x.natAbs-y.natAbs) (z:=x+y) (by unfold sgn;simp only[zfa];split<;>omega) (z0a (Nat.sub_le _ _) hx)]
  ·refine aU (by unfold bg;split<;>(try split)<;>omega) ?_
   refine j0 (.bool (decide (y<0))) (j0 (LM y.natAbs) (j0 (LM x.natAbs) (aa (Pr (n+2) hy j1) (aa (tQ (n+2) _ (z0a (Nat.sub_le _ _) hy)) ?_))))
   rw[ia (neg:=decide (y<0)) (m:=y.natAbs-x.natAbs) (z:=x+y) (by unfold sgn;simp only[zfa];split<;>omega) (z0a (Nat.sub_le _ _) hy)]
def PE(n:Nat){a:Option Int}(b:wS a):cA (n+3) 68 [fj a]=some (fj (a.map (λx=>-x))):=by
 rw[u68]
 delta Tt qG qN
 refine aa (mT n b) (aa bA (aa ac ?_));cases a with
 | none=>rw[zma j2];exact aa (ze (n+1)) rfl
 | some x=>
  rw[zia j3]
  have hx:=aQ.1 b.some;rw[show fj (some x)=_ from cH x];show _=some (ah (-x));refine j0 (.bool (decide (x<0))) (aa bA (j0 (LM x.natAbs) (aa (tQ (n+1) _ hx) ?_)));rw[cH,tH,Au];rw[cH,zFb,show((!(decide (x<0)))&&!(decide (x.natAbs=0)))=decide (-x<0) by rw[Bool.eq_iff_iff];simp;omega]
def rD(n:Nat){x:Int}(hx:In x):cA (n+3) 129 [ah x]=some (I (sg x)):=by
 rw[Yt]
 delta Lm qG qT qN Jn
 have a:=mT n (aY hx);have hx:=aQ.1 hx;refine aa a (aa bA (j0 false (aa (z:=decide (x=0)) ?_ (aa ac ?_))))
 ·rw[zia j2,cH]
  refine j0 (LM x.natAbs) ?_;rw[jb,mP hx fZ,ac]
  simp_all
 ·by_cases h0:x=0
  ·refine aO h0 ?_;subst h0;rfl
  ·refine aU h0 (j0 (.bool (decide (x<0))) (aa ac ?_));by_cases h1:x<0
   ·simp_all [At]
   ·refine aU h1 ?_;rw[iX j1]
def zh(n:Nat){x:Int}(hx:inR x):cA (n+2) 54 [I x]=some (ah x):=by
 rw[u54]
 delta Tp qB qC Jn
 obtain⟨h1,h2⟩:=hx;have key:∀ m:Nat,m<18446744073709551616->D.st (acj (List.replicate 16 (D.int .u32 0)) [(0,.int .u32 ((m:Int)%4294967296)),(1,.int .u32 ((m:Int)/4294967296%4294967296))])=LM m:=λm hm=>by
  have e:LM m=cU 16 (λj=>if j=0 then(m:Int)%4294967296 else if j=1 then(m:Int)/4294967296%4294967296 else 0):=dJ λj b=>by
   match j with
   | 0=>simp[bG]
   | 1=>simp[bG]
   | j+2=>
    rw[zia j1,zia j1]
    exact gv (n:=2) (by simpa using hm) j1
  rw[e];rfl
 have w1:IntKind.u64.wrap x=if x<0 then x+18446744073709551616 else x:=by have:IntKind.u64.wrap x=x%18446744073709551616:=rfl;omega
 have hc:D.conv .u64 (I x)=some (W (if x<0 then x+18446744073709551616 else x)):=by simp only[D.conv,w1]
 refine aa hc ?_;have a:x.natAbs<18446744073709551616:=j1
 refine aa (z:=(0,[W (x.natAbs:Nat)])) ?_ ?_
 ·refine aa af (aa ac ?_);by_cases h:x<0
  ·refine aO h ?_;rw[zma h];have:acl .neg (W (x+18446744073709551616))=some (W (x.natAbs:Nat)):=by
    simp only[acl];have:IntKind.u64.wrap (0-(x+18446744073709551616))=(0-(x+18446744073709551616))%18446744073709551616:=rfl;grind
   simp_all
  ·grind
 ·refine aa af (aa (ja _) (aa (wL (by show(0:Int)<=(x.natAbs:Nat);omega)) (aa (ja _) ?_)))
  have e:=key x.natAbs a;refine aa (z:=ah x) ?_ rfl;show cA (n+1) 116 [.bool (decide (x<0)),D.st (acj (List.replicate 16 (D.int .u32 0)) [(0,.int .u32 (((x.natAbs:Nat):Int)%4294967296)),(1,.int .u32 (((x.natAbs:Nat):Int)/4294967296%4294967296))])]=_;rw[e,tQ n _ (Ay a)];congr 1;congr 1;unfold sgn;simp only[zfa];split<;>omega
def GG(A B i k n:Nat)(hn:i+k<n):D.set (cU n (zX A B i k)) [i+k] (.int .u32 (((qw A B i k:Nat)+(bG A i*bG B k+bG (iI A B i) (i+k)))%4294967296))=some (cU n (zX A B i (k+1))):=by
 refine ox hn λj a=>?_;unfold zX xc;by_cases h:j=i+k
 ·subst h;rw[zma j1,zma rfl,JB]
 ·rw[zia h];by_cases h2:j<i+k
  ·rw[zma j1,zma h2,ym,lT _ _ _ _ h2]
  ·rw[zia j1,zia h2]
def GE{A B i m n:Nat}(a:B<2^(32*m))(hn:i+m<n):D.set (cU n (zX A B i m)) [i+m] (.int .u32 (qw A B i m:Nat))=some (cU n (bG (iI A B (i+1)))):=by
 have b:=Fd (A:=A) (i:=i) a;have c:pq A B i m<2^(32*(i+m+1)):=by rw[<-yq a];have:=Fd (A:=A) (i:=i+1) a;rwa [show i+1+m=i+m+1 from by omega] at this
 refine ox hn λj d=>?_;rw[yq a];unfold zX xc;by_cases h:j=i+m
 ·subst h;rw[zma rfl,eK];have h1:=zV A B i m;rw[zjb b,zmc] at h1;rw[<-h1,zVa (z0a (zW A B i m) j1)]
 ·rw[zia h];by_cases h2:j<i+m
  ·rw[zma h2]
  ·rw[zia h2,gv c j1,gv b j1]
def wJ{n a c:Nat}(f:Nat->Int)(h:a+c<=n):D.st (List.take c (List.drop a ((List.range n).map λi=>D.int .u32 (f i))))=cU c (λj=>f (a+j)):=by
 unfold cU;congr 1;apply zuc;intro j;by_cases b:j<c
 ·rw[z6b b,z9b];simp[b,show a+j<n by omega]
 ·rw[zgb (by simp;omega),zgb (by simp;omega)]
def CV:ar My=cU 32 (bG 0):=by have:cU 32 (bG 0)=cU 32 (λ_=>0):=dJ λi _=>mZ i;rw[this];rfl
def NK{a b:Int}(d:0<=a)(e:a<=4294967295)(c:0<=b)(f:b<=4294967295):0<=a*b/\a*b<=18446744065119617025:=by refine⟨z9a d c,?_⟩;have h1:a*b<=4294967295*b:=z3b e c;omega
def oB:Option Int->Option Int->Option Int
 | some x,some y=>fF (x*y)
 | _,_=>none
def ZN(n:Nat){a b:Option Int}(v:wS a)(w:wS b):cA (n+3) 61 [fj a,fj b]=some (fj (oB a b)):=by
 rw[u61]
 delta Tr qG qB qC qT qN qJ qZ iL iR Jn
 refine aa (rC n v w) (aa bA (aa ac ?_));rcases me (a:=a) (b:=b) with h|⟨x,y,rfl,rfl⟩
 ·rw[h,zma j2]
  refine aa (ze (n+1)) ?_;cases a<;>cases b<;>simp at h<;>rfl
 rw[zia j3]
 have hx:=aQ.1 v.some;have hy:=aQ.1 w.some;rw[show fj (some x)=_ from cH x,show fj (some y)=_ from cH y,show oB (some x) (some y)=fF (x*y) from rfl];generalize hX:x.natAbs=X at *;generalize hY:y.natAbs=Y at *;have n1:=li X;have n2:=li Y;have s1:=fm hx;have s2:=fm hy;refine j0 (LM X) (aa (C6 (n+1) hx) (j0 (LM Y) (aa (C6 (n+1) hy) ?_)));generalize c6 X=p at *;generalize c6 Y=m at *;rw[CV];refine bO (λi s=>s=[I (i:Int),cU 32 (bG (iI X Y i))]) p 0 (zxa _) (by rw[GI];rfl) (λi E s g=>?_) (λs g=>?_)
 ·subst g;left;refine⟨[I ((i+1:Nat):Int),cU 32 (bG (iI X Y (i+1)))],?_,rfl⟩;refine aa af (aa ac (aO (by show(i:Int)<(p:Int);omega) ?_))
  refine cD (λk s=>s=[W (qw X Y i k:Nat),I (k:Int),cU 32 (zX X Y i k)]) m 0 (zxa _) (by rw[yi,GH];rfl) (λk hk s g=>?_) (λs g=>?_)
  ·subst g;left;refine⟨_,?_,rfl⟩;have d:i<16:=j1
   have f:k<16:=j1
   have c:i+k<32:=j1
   have a0:=cP X i;have a1:=oY X i;have A:=cP Y k;have B:=oY Y k;have z0:=cP (iI X Y i) (i+k);have G:=oY (iI X Y i) (i+k);have hc:=zW X Y i k;obtain⟨C,F⟩:=NK a0 a1 A B;refine aa af (aa ac (aO (by show(k:Int)<(m:Int);omega) ?_))
   refine aa (fH d) (aa (bw _ d) (aa (fC X i) (aa (fH f) (aa (bw _ f) (aa (fC Y k) ?_)))));refine aa (O7 C j1) (aa (bc (a:=i) (b:=k) j1) (aa (aq c) (aa (bw _ c) ?_)))
   rw[GF];refine aa (fC _ _) (aa (wK j1 j1) (aa (wK j1 j1) (aa (bc (a:=i) (b:=k) j1) (aa (ja _) (aa (aq c) (aa (GG X Y i k 32 c) (aa (wL j1) ?_)))))))
   rw[<-GD];exact aa (ay (aH (i:=k) j1)) rfl
  ·subst g;refine⟨_,aa af (aa ac (aU (by show ¬ ((m:Int)<(m:Int));omega) rfl)),?_⟩
   have o:i+m<32:=j1
   have hc:=zW X Y i m;refine aa (bc (a:=i) (b:=m) j1) (aa (ja _) (aa (aq o) ?_))
   rw[Int.emod_eq_of_lt j1 j1]
   exact aa (GE s2 o) (aa (ay (aH (i:=i) j1)) rfl)
 ·subst g;refine⟨(0,[cU 32 (bG (X*Y))]),?_,?_⟩
  ·rw[JE s1];exact aa af (aa ac (aU (by show ¬ ((p:Int)<(p:Int));omega) rfl))
  have q:=fZ;have hq:X*Y/ed<ed:=zIc (Nat.mul_lt_mul'' hx hy);have t:D.st (List.take 16 (List.drop 16 ((List.range 32).map λi=>D.int .u32 (bG (X*Y) i))))=LM (X*Y/ed):=by
   rw[wJ _ j1]
   exact dJ λj _=>by rw[g8,Bn]
  have u:D.st (List.take 16 (List.drop 0 ((List.range 32).map λi=>D.int .u32 (bG (X*Y) i))))=LM (X*Y):=by
   rw[wJ _ j1]
   exact dJ λj _=>by rw[zeb]
  show(if decide (16+16<=((List.range 32).map λi=>D.int .u32 (bG (X*Y) i)).length)=true then _ else none)=_
  rw[zma j3,t,jb,mP hq q]
  have l:(x*y).natAbs=X*Y:=by rw[zOa,hX,hY]
  by_cases ht:X*Y<ed
  ·rw[zjb ht,zha rfl];refine j0 false ?_;rw[zia j2]
   refine j0 (.bool (decide (x<0))) (j0 (.bool (decide (y<0))) ?_);show(if decide (0+16<=((List.range 32).map λi=>D.int .u32 (bG (X*Y) i)).length)=true then _ else none)=_
   rw[zma j3,u]
   have r:=N6 x y;rw[hX,hY] at r;rw[ia r ht];refine aa (z:=ah (sgn (!(decide (decide (x<0)=decide (y<0)))) (X*Y))) ?_ rfl;rw[<-tQ (n+1) _ ht];congr 4
  ·rw[zea (λe=>ht (by have:=Nat.div_eq_zero_iff.1 e;omega))]
   refine j0 true ?_;rw[zma rfl];refine aa (ze (n+1)) ?_;unfold fF;rw[l,zia ht];rfl
end Sy
end
end Go.Proofs.YtphlmegkommlnaaGreatDoor
