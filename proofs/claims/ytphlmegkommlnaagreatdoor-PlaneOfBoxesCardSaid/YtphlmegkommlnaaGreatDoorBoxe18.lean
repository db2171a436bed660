/- Part 18 of the proof that PlaneOfBoxes answers true at every input -/
import Derived.Test.YtphlmegkommlnaaGreatDoorBoxe01
import Derived.Test.YtphlmegkommlnaaGreatDoorBoxe17
set_option linter.unusedVariables false
set_option linter.unusedSimpArgs false
set_option linter.unnecessarySimpa false
set_option linter.defProp false
set_option maxRecDepth 20000
namespace Go.Proofs.YtphlmegkommlnaaGreatDoor
noncomputable section
namespace Sy
open Go Go.Proofs Geo
def oe(q:V×Int)(p:List Nat):D:=.st [af q.1,I q.2,.sl (ao p)]
def db(l:List V):D:=.st [eG l]
def Ko(l:List V):Prop:=∀ i j,i<j->j<l.length->aN (pt l i) (pt l j)
def PN{l:List V}(hl:∀ x∈l,bd MV x){m:V}{d:Int}(h:IsF (pt l) l.length m d):bd 549755813888 m:=by
 obtain⟨i,j,k,h1,h2,h3,e,b,f⟩:=h.ex;have a:=hl _ (cW (show i<l.length by omega))
 have c:=hl _ (cW (show j<l.length by omega))
 have hk:=hl _ (cW h3);have:=fp (ju (oB (P:=pt l) a c) (oB (P:=pt l) a hk));rcases b with rfl|rfl
 ·exact this
 ·exact rl this
def p18(n:Nat){l:List V}(hl:∀ x∈l,bd MV x)(hlen:l.length<=100)(hs:Ko l):∃ (L:List (V×Int)) (poly:V×Int->List Nat),Facets (pt l) l.length L/\(∀ q∈L,bA (pt l) l.length q.1 q.2 (poly q))/\L.length<=2000000 ∧
  cA (n+7) 18 [db l]=some (.sl (L.map λq=>oe q (poly q))):=by
 obtain⟨y,h1,K,L,h2,h3,g,rfl⟩:=p45 n hl hlen;have b:=h2.facets h3 g;have e:L.length<=2000000:=by rw[h3.length_eq];exact h2.len hlen
 have hex:∀ q:V×Int,∃ p,q∈L->bA (pt l) l.length q.1 q.2 p/\cA (n+6) 46 [eG l,cF q]=some (.sl (ao p)):=λq=>by
  by_cases hq:q∈L
  ·have hF:=(b.mem q).1 hq;obtain⟨p,k,m⟩:=p46 (n+1) hl hlen hs hF (PN hl hF);exact⟨p,λ_=>⟨k,m⟩⟩
  ·exact⟨[],λh=>z3a h hq⟩
 obtain⟨poly,a⟩:∃ poly:V×Int->List Nat,∀ q∈L,bA (pt l) l.length q.1 q.2 (poly q)/\cA (n+6) 46 [eG l,cF q]=some (.sl (ao (poly q))):=⟨λq=>Classical.choose (hex q),λq hq=>Classical.choose_spec (hex q) hq⟩;refine⟨L,poly,b,λq hq=>(a q hq).1,e,?_⟩;have hp:=λq (hq:q∈L)=>(a q hq).2;rw[u18]
 delta SL qG qB qC qS qX qV qW qZ iL iR Jn
 refine j0 (eG l) (aa h1 (j0 (L.map cF) ?_));have f:(L.map cF).length=L.length:=zya ..;refine cg (λi s=>s=[.sl ((L.take i).map λq=>oe q (poly q)),I (i:Int)]) L.length 0 (zAa _) rfl (λi c s d=>?_) (λs d=>?_)
 ·subst d;left;refine⟨_,?_,rfl⟩;refine aa ah (aa ac (aY (by show((i:Int)<((L.map cF).length:Int));rw[f];omega) ?_))
  have j:(L.map cF)[i]?=some (cF L[i]):=by simp[c]
  refine j0 (L.map cF) (aa (z:=i) (by rw[f];exact aw c) (aa j ?_))
  refine j0 (af L[i].1) (j0 (I L[i].2) (j0 (eG l) (aa (hp L[i] (zFa c)) ?_)));rw[zna (by simp only[g0,D.els,zya,zgb,zQa,zLb];omega)]
  refine aa (az (aU (i:=i) j1)) ?_
  rw[zkb c,zKb];rfl
 ·subst d;refine⟨(0,[.sl ((L.take L.length).map λq=>oe q (poly q))]),?_,?_⟩
  ·refine aa ah (aa ac (be (by show ¬ ((L.length:Int)<((L.map cF).length:Int));rw[f];omega) rfl))
  ·rw[zOb];rfl
def jc(e:Nat×Nat):D:=.st [I (e.1:Int),I (e.2:Int)]
def MD{a b:Nat×Nat}(h:B0 a b):q8 [bg (a.1:Int) b.1,bg (a.2:Int) b.2]=-1:=by
 simp only[B0] at h;rcases h with h|⟨h1,h⟩
 ·have:(a.1:Int)<b.1:=j1
  simp[q8,bg,this]
 ·have e:(a.1:Int)=b.1:=j1
  have:(a.2:Int)<b.2:=j1
  simp[q8,bg,e,this]
def MC{a b:Nat×Nat}(h:B0 b a):q8 [bg (a.1:Int) b.1,bg (a.2:Int) b.2]=1:=by
 simp only[B0] at h;rcases h with h|⟨h1,h⟩
 ·have:(b.1:Int)<a.1:=j1
  simp[q8,bg,this,zQb.2 (zpa this)]
 ·have e:(a.1:Int)=b.1:=j1
  have:(b.2:Int)<a.2:=j1
  simp[q8,bg,e,this,zQb.2 (zpa this)]
def Ii(n:Nat)(p q:Nat×Nat):uE (c9 bf (cA (n+3)) (jW bf (cA (n+3)))) (cz 51) (jc p) (jc q)=some (q8 [bg (p.1:Int) q.1,bg (p.2:Int) q.2]):=by
 unfold uE;rw[show ∀ l,(c9 bf (cA (n+3)) (jW bf (cA (n+3)))).call (cz 51) l=cA (n+3) 51 l from λl=>congrFun (zma (cA (n+3)) (show uB (cz 51)=51 by kernel_rfl)) l,show jc p=.st [I (p.1:Int),I (p.2:Int)] from rfl,show jc q=.st [I (q.1:Int),I (q.2:Int)] from rfl,c51]
 rfl
theorem Og(n:Nat):∀ (L:List (Nat×Nat)),L.Pairwise B0->tK (c9 bf (cA (n+3)) (jW bf (cA (n+3)))) (cz 51) (L.map jc)=true
 | [],_=>rfl
 | p::L,h=>by
  obtain⟨h1,h2⟩:=zSa.1 h;simp only[zab,tK,zaa,zCa,zMa];refine⟨⟨?_,?_⟩,Og n L h2⟩
  ·simp only[Hf,Ii];simp[q8,bg]
  ·rintro _ ⟨q,hq,rfl⟩;simp only[rV,Hf,Ii,MD (h1 q hq),MC (h1 q hq)];decide
def Nm{a b:Nat×Nat}(h:a≠b):B0 a b\/B0 b a:=by
 obtain⟨a1,a2⟩:=a;obtain⟨c,d⟩:=b;simp only[B0];by_cases h1:a1=c<;>by_cases h2:a2=d
 ·subst h1;subst h2;exact z3a rfl h
 all_goals omega
theorem Cr:∀ (K:List (Nat×Nat)),K.Nodup->∃ L:List (Nat×Nat),L.Perm K/\L.Pairwise B0
 | [],_=>⟨[],.refl _,.nil⟩
 | x::K,h=>by
  obtain⟨h1,h2⟩:=List.nodup_cons.1 h;obtain⟨L,b,d⟩:=Cr K h2;have ins:∀ L:List (Nat×Nat),L.Pairwise B0->(∀ y∈L,x≠y)->∃ M:List (Nat×Nat),M.Perm (x::L)/\M.Pairwise B0:=by
   intro L
   induction L with
   | nil=>intro _ _;exact⟨[x],.refl _,j3⟩
   | cons y L ih=>
    intro hp hn;obtain⟨c,f⟩:=zSa.1 hp;rcases Nm (hn y zsa) with k|k
    ·refine⟨x::y::L,.refl _,zSa.2 ⟨λz a=>?_,hp⟩⟩;rcases zEa.1 a with rfl|a
     ·exact k
     ·have:=c z a;simp only[B0] at *;omega
    ·obtain⟨M,m1,m2⟩:=ih f (λz a=>hn z (zoa _ a));refine⟨y::M,(m1.cons y).trans (.swap x y L),zSa.2 ⟨λz a=>?_,m2⟩⟩;rcases zEa.1 (m1.subset a) with rfl|a
     ·exact k
     ·exact c z a
  obtain⟨M,m1,m2⟩:=ins L d (λy hy e=>h1 (b.subset (e ▸ hy)));exact⟨M,m1.trans (b.cons x),m2⟩
def oR{p:List Nat}{k:Nat}(h:k<p.length):(ao p)[k]?=some (I (p.getD k 0:Nat)):=by simp[ao,List.getD,h]
def fN(p:List Nat)(k:Nat):List (Nat×Nat):=(List.range k).filterMap λk=>if p.getD k 0<p.getD ((k+1)%p.length) 0 then some (p.getD k 0,p.getD ((k+1)%p.length) 0) else none
def zj(p:List Nat)(k:Nat):fN p (k+1)=if p.getD k 0<p.getD ((k+1)%p.length) 0 then fN p k++[(p.getD k 0,p.getD ((k+1)%p.length) 0)] else fN p k:=by
 unfold fN;rw[zgc,List.filterMap_append];split
 ·rename_i h;simp only[List.filterMap_cons,List.filterMap_nil,zna h]
 ·rename_i h;simp only[List.filterMap_cons,List.filterMap_nil,zka h,zBb]
def sT(p:List Nat)(k:Nat):(fN p k).length<=k:=by unfold fN;exact zIa (List.length_filterMap_le _ _) j3
def p21(n:Nat){l:List V}{L:List (V×Int)}{poly:V×Int->List Nat}(h18:cA (n+7) 18 [db l]=some (.sl (L.map λq=>oe q (poly q))))(hL:L.length<=2000000)(hp:∀ q∈L,(poly q).length<=100/\0<(poly q).length)
  (h:(c7 L poly).Nodup):∃ E:List (Nat×Nat),E.Perm (c7 L poly)/\E.Pairwise B0/\cA (n+8) 21 [db l]=some (.sl (E.map jc)):=by
 obtain⟨E,o,r⟩:=Cr _ h;refine⟨E,o,r,?_⟩;rw[u21];unfold Qn;refine aa h18 (j0 (L.map λq=>oe q (poly q)) ?_);have j:(L.map λq=>oe q (poly q)).length=L.length:=zya ..;have t:∀ i,i<=L.length->(c7 (L.take i) poly).length<=i*100:=λi d=>by
  induction i with
  | zero=>simp[c7]
  | succ i ih=>
   have e:i<L.length:=j1
   rw[zkb e,c7,List.flatMap_append,zta];have h1:=ih j1
   simp only[c7] at h1;have h2:(lR (poly L[i])).length<=100:=zIa (sT (poly L[i]) (poly L[i]).length) (hp _ (zFa e)).1;simp only[List.flatMap_cons,List.flatMap_nil,zBb];omega
 refine cg (λi s=>s=[.sl ((c7 (L.take i) poly).map jc),I (i:Int)]) L.length 0 (zAa _) rfl (λi d s b=>?_) (λs b=>?_)
 ·subst b;left;refine⟨_,?_,rfl⟩;refine aa ah (aa ac (aY (by show((i:Int)<((L.map λq=>oe q (poly q)).length:Int));rw[j];omega) ?_))
  have w:(L.map λq=>oe q (poly q))[i]?=some (oe L[i] (poly L[i])):=by simp[d]
  refine j0 (L.map λq=>oe q (poly q)) (aa (z:=i) (by rw[j];exact aw d) (aa w (j0 (.sl (ao (poly L[i]))) (j0 (ao (poly L[i])) ?_))))
  obtain⟨x,m⟩:=hp L[i] (zFa d);have u:=t i j1
  obtain⟨M,c⟩:∃ M,M=c7 (L.take i) poly:=⟨_,rfl⟩;rw[<-c] at u ⊢;have g:c7 (L.take (i+1)) poly=M++fN (poly L[i]) (poly L[i]).length:=by rw[zkb d,c,c7,List.flatMap_append];simp[c7,lR,fN]
  rw[g];generalize poly L[i]=p at *;refine c6 (λk s=>s=[.sl ((M++fN p k).map jc),I (k:Int)]) p.length 0 (zAa _) (by simp[fN,g0,D.els]) (λk hk s b=>?_) (λs b=>?_)
  ·subst b;left;refine⟨_,?_,rfl⟩;refine aa ah (aa ac (aY (by show((k:Int)<((ao p).length:Int));rw[aG];omega) ?_))
   have a:(k+1)%p.length<p.length:=z2a _ m;have f:(((k:Int)+1).tmod (p.length:Int))=(((k+1)%p.length:Nat):Int):=by rw[show((k:Int)+1)=((k+1:Nat):Int) by omega];exact znd ..
   refine aa (z:=(0,[.sl ((M++fN p (k+1)).map jc)])) ?_ (aa (az (aU (i:=k) j1)) rfl)
   refine j0 (ao p) (aa (z:=k) (by rw[aG];exact aw hk) (aa (oR hk) (j0 (.sl (ao p)) (aa (az (aU (i:=k) j1)) (j0 (.sl (ao p)) (j0 (ao p) ?_))))))
   refine aa (z:=I (((k+1)%p.length:Nat):Int)) (by rw[show((ao p).length:Int)=(p.length:Int) by rw[aG],jY j1,f]) ?_
   refine j0 (ao p) (aa (z:=(k+1)%p.length) (by rw[aG];exact aw a) (aa (oR a) (aa ah (aa ac ?_))))
   rw[zj];have v:=sT p k;by_cases hab:p.getD k 0<p.getD ((k+1)%p.length) 0
   ·refine aY (by show((p.getD k 0:Nat):Int)<((p.getD ((k+1)%p.length) 0:Nat):Int);omega) ?_
    rw[zna hab,zna (by simp only[g0,D.els,zya,zta,zQa,zLb];omega)]
    simp[g0,D.els,jc]
   ·refine be (by show ¬ ((p.getD k 0:Nat):Int)<((p.getD ((k+1)%p.length) 0:Nat):Int);omega) ?_
    rw[zka hab];rfl
  ·subst b;refine⟨(0,[.sl ((M++fN p p.length).map jc)]),?_,?_⟩
   ·refine aa ah (aa ac (be (by show ¬ ((p.length:Int)<((ao p).length:Int));rw[aG];omega) rfl))
   ·exact aa (az (aU (i:=i) j1)) rfl
 ·subst b;refine⟨(0,[.sl ((c7 (L.take L.length) poly).map jc)]),?_,?_⟩
  ·refine aa ah (aa ac (be (by show ¬ ((L.length:Int)<((L.map λq=>oe q (poly q)).length:Int));rw[j];omega) rfl))
  ·have hu:=t L.length (zia _);rw[zOb] at hu ⊢;refine aa (z:=(c7 L poly).map jc) ?_ (aa (wh (Og (n+4) E r) (o.symm.map _)) rfl);exact aY (by show((c7 L poly).map jc).length<=1073741824;rw[zya];omega) rfl
abbrev FL:=List ((V×Int)×List Nat)
def ba(L:FL):List D:=L.map λf=>oe f.1 f.2
def bF(L:FL):(ba L).length=L.length:=zya ..
def gM{L:FL}{i:Nat}(h:i<L.length):(ba L)[i]?=some (oe L[i].1 L[i].2):=by simp[ba,h]
def WO(n:Nat)(L:FL)(m:V)(hL:L.length<=3000000):cA (n+1) 108 [.sl (ba L),af m]=some (.bool (L.any λf=>decide (f.1.1=m))):=by
 rw[XL]
 delta KC qB qT qX qL qZ iL iR Jn
 refine cg (λi s=>s=[I (i:Int)]/\(L.take i).any (λf=>decide (f.1.1=m))=false) L.length 0 (zAa _) ⟨rfl,j3⟩ (λi a s c=>?_) (λs c=>?_)
 ·obtain⟨rfl,b⟩:=c;by_cases he:L[i].1.1=m
  ·right;refine⟨(0,[.bool true]),?_,?_⟩
   ·refine j0 (ba L) (aa ah (aa ac (aY (by show((i:Int)<((ba L).length:Int));rw[bF];omega) ?_)))
    refine j0 (ba L) (aa (z:=i) (by rw[bF];exact aw a) (aa (gM a) (j0 (af L[i].1.1) ?_)))
    rw[mM];exact aa ac (aY he rfl)
   ·have:L.any (λf=>decide (f.1.1=m))=true:=zic.2 ⟨L[i],zFa a,by simpa using he⟩
    simp[this,g0]
  ·left;refine⟨[I ((i+1:Nat):Int)],?_,rfl,?_⟩
   ·refine j0 (ba L) (aa ah (aa ac (aY (by show((i:Int)<((ba L).length:Int));rw[bF];omega) ?_)))
    refine j0 (ba L) (aa (z:=i) (by rw[bF];exact aw a) (aa (gM a) (j0 (af L[i].1.1) ?_)))
    rw[mM];exact aa ac (be he (aa (az (aU (i:=i) j1)) rfl))
   ·rw[zkb a,List.any_append,b];simp[he]
 ·obtain⟨rfl,b⟩:=c;rw[zOb] at b;refine⟨(1,[]),?_,by simp[b]⟩
  exact j0 (ba L) (aa ah (aa ac (be (by show ¬ ((L.length:Int)<((ba L).length:Int));rw[bF];omega) rfl)))
def mF(f:(V×Int)×List Nat):FL->FL
 | []=>[f]
 | x::L=>if aN f.1.1 x.1.1 then f::x::L else x::mF f L
def WQ(n:Nat)(L:FL)(f:(V×Int)×List Nat)(hL:L.length<=3000000):cA (n+2) 110 [.sl (ba L),oe f.1 f.2]=some (.sl (ba (mF f L))):=by
 rw[XN]
 delta KE qG qB qT qN qX qL qV qW qZ iL iR Jn
 have app:∀ (o:FL) (x:(V×Int)×List Nat),ba o++[oe x.1 x.2]=ba (o++[x]):=λo x=>by simp[ba]
 refine cg (λi s=>∃ (out:FL) (put:Bool),s=[.sl (ba out),.bool put,I (i:Int)]/\out.length<=2*i/\(put=false->mF f L=out++mF f (L.drop i))/\(put=true->mF f L=out++L.drop i)) L.length 0 (zAa _) ⟨[],false,rfl,j3,j3,j3⟩ (λi a s b=>?_) (λs b=>?_)
 ·obtain⟨out,put,rfl,g,h1,h2⟩:=b;left;have c:L.drop i=L[i]::L.drop (i+1):=z4b a;have hc:=WM n f.1.1 L[i].1.1;obtain⟨o,p,he,l,j,k⟩:∃ o p,(if put=false/\aN f.1.1 L[i].1.1 then(out++[f],true) else(out,put))=(o,p)/\o.length<=2*i+1/\(p=false->mF f L=o++L[i]::mF f (L.drop (i+1)))/\(p=true->mF f L=o++L[i]::L.drop (i+1)):=by
   by_cases hput:put=false/\aN f.1.1 L[i].1.1
   ·refine⟨_,_,zna hput,by simp;omega,j3,λ_=>?_⟩
    rw[h1 hput.1,c];simp[mF,hput.2]
   ·refine⟨_,_,zka hput,j1,λhp=>?_,λhp=>?_⟩
    ·have e:¬ aN f.1.1 L[i].1.1:=λh=>hput ⟨hp,h⟩;rw[h1 hp,c];simp[mF,e]
    ·rw[h2 hp,c]
  refine⟨[.sl (ba (o++[L[i]])),.bool p,I ((i+1:Nat):Int)],?_,o++[L[i]],p,rfl,by simp;omega,λhp=>by rw[j hp];simp,λhp=>by rw[k hp];simp⟩
  refine j0 (ba L) (aa ah (aa ac (aY (by show((i:Int)<((ba L).length:Int));rw[bF];omega) ?_)))
  refine j0 (af f.1.1) (j0 (ba L) (aa (z:=i) (by rw[bF];exact aw a) (aa (gM a) (j0 (af L[i].1.1) (aa hc ?_)))))
  refine aa (z:=(0,[.sl (ba o),.bool p])) ?_ ?_
  ·refine j0 (.bool (!put)) (j0 (!put) (aa (z:=!put&&decide (aN f.1.1 L[i].1.1)) ?_ (j0 (!put&&decide (aN f.1.1 L[i].1.1)) ?_)))
   ·cases put
    ·exact ac
    ·rfl
   ·by_cases hput:put=false/\aN f.1.1 L[i].1.1
    ·rw[zna hput] at he;obtain⟨rfl,d⟩:=hput;cases he;rw[show(!false&&decide (aN f.1.1 L[i].1.1))=true by simp[d],zna rfl,zna (by simp only[g0,D.els,bF,zQa,zLb];omega)]
     simp only[g0,D.els,app]
    ·rw[zka hput] at he;cases he;rw[show(!put&&decide (aN f.1.1 L[i].1.1))=false by
      cases put
      ·simpa using hput
      ·rfl]
     rfl
  ·refine j0 (ba L) (aa (z:=i) (by rw[bF];exact aw a) (aa (gM a) ?_))
   rw[zna (by simp only[g0,D.els,bF,zQa,zLb];omega)]
   refine aa (az (aU (i:=i) j1)) ?_
   simp only[g0,g1,D.els,app];rfl
 ·obtain⟨out,put,rfl,g,h1,h2⟩:=b;refine⟨(0,[.sl (ba out),.bool put]),?_,?_⟩
  ·exact j0 (ba L) (aa ah (aa ac (be (by show ¬ ((L.length:Int)<((ba L).length:Int));rw[bF];omega) rfl)))
  ·cases put
   ·have:=h1 rfl;rw[zxd] at this;rw[this];refine aa (z:=(0,[.sl (ba (out++[f]))])) ?_ rfl;refine j0 (.bool true) (j0 true ?_);rw[zna rfl,zna (by simp only[g0,D.els,bF,zQa,zLb];omega)]
    simp only[g0,D.els,app]
   ·have:=h2 rfl;rw[zxd,zBb] at this;rw[this];rfl
def iV(l:List V)(m:V)(a b x:Nat):Bool:=
 decide (0<=T m (wy (pt l) a b) (wy (pt l) a x))&&(!decide (T m (wy (pt l) a b) (wy (pt l) a x)=0)||(decide (0<=V.dot (wy (pt l) a x) (wy (pt l) a b))&&decide (V.dot (wy (pt l) a x) (wy (pt l) a b)<=V.dot (wy (pt l) a b) (wy (pt l) a b))))
def DL{l:List V}{m:V}{a b x:Nat}:iV l m a b x=true↔(0<=T m (wy (pt l) a b) (wy (pt l) a x)/\(T m (wy (pt l) a b) (wy (pt l) a x)=0->0<=V.dot (wy (pt l) a x) (wy (pt l) a b)/\V.dot (wy (pt l) a x) (wy (pt l) a b)<=V.dot (wy (pt l) a b) (wy (pt l) a b))):=by simp only[iV,zaa,z9b,zTa,zfa,decide_eq_false_iff_not];by_cases h:T m (wy (pt l) a b) (wy (pt l) a x)=0<;>simp[h]
def yA(l:List V)(m:V)(d:Int)(a b:Nat):Bool:=(aL (pt l) l.length m d).all λx=>iV l m a b x
def yB{l:List V}{m:V}{d:Int}{a b:Nat}(e:b∈aL (pt l) l.length m d)(c:b≠a):yA l m d a b=true↔Side m (pt l) (aL (pt l) l.length m d) a b:=by simp only[yA,zCa,DL];exact⟨λh=>⟨e,c,h⟩,λh=>h.all⟩
def W2(n:Nat){l:List V}(hl:∀ x∈l,bd MV x)(hlen:l.length<=100){m:V}{d:Int}(E:m≠V.zero)(hm:bd 549755813888 m){a b:Nat}(p:a<l.length)(W:b<l.length)(j:V.dot m (pt l a)=d)(C:V.dot m (pt l b)=d) :
  cA (n+3) 156 [eG l,af m,I d,af (pt l a),af (pt l b)]=some (.bool (yA l m d a b)):=by
 rw[Yl]
 delta Lj qB qC qT qX qL qZ iL iR Jn
 have w1:bd 524288 (wy (pt l) a b):=oB (hl _ (cW p)) (hl _ (cW W));refine aa (z:=af (wy (pt l) a b)) (FO (n+1) (hl _ (cW W)) (hl _ (cW p)) j2) ?_
 have f:(l.map af).length=l.length:=zya ..;have F:V.dot m (wy (pt l) a b)=0:=by rw[bo,j,C];omega
 refine cg (λi s=>s=[I (i:Int)]/\(aL (pt l) i m d).all (λx=>iV l m a b x)=true) l.length 0 (zAa _) ⟨rfl,by simp[aL]⟩ (λi c s B=>?_) (λs B=>?_)
 ·obtain⟨rfl,q⟩:=B;have hc:=FN (n+1) hm (hl _ (cW c)) j2
  by_cases hon:V.dot m (pt l i)=d
  ·have Y:bd 524288 (wy (pt l) a i):=oB (hl _ (cW p)) (hl _ (cW c));have G:V.dot m (wy (pt l) a i)=0:=by rw[bo,j,hon];omega
   have c1:=FO (n+1) (hl _ (cW c)) (hl _ (cW p)) j2
   have c2:=Q4 (n+1) w1 Y j2
   have S:=W7 n m (V.cross (wy (pt l) a b) (wy (pt l) a i));rw[EQ E (eh F G)] at S;have U:=FN (n+1) Y w1 j2
   have Z:=FN (n+1) w1 w1 j2
   have step:∀ (y:Nat×List D),y=(if iV l m a b i then(0,[]) else(1,[D.bool false]))->((D.asSl (eG l)).bind λX=>(D.idx (I (i:Int)) (List.length X)).bind λi7=>
     (X[i7]?).bind λx8=>(cA (n+2) 107 [af m,x8]).bind λr9=>(D.truth (D.bool (!(D.beq r9 (I d))))).bind λr=>
     if r then(some ((0:Nat),([]:List D))) else((D.asSl (eG l)).bind λk=>(D.idx (I (i:Int)) (List.length k)).bind λAI=>
     (k[AI]?).bind λO=>(cA (n+2) 112 [O,af (pt l a)]).bind λg=>(cA (n+2) 123 [af (wy (pt l) a b),g]).bind λH=>(cA (n+2) 188 [af m,H]).bind λo=>
     (abG .lss o (D.int .i64 0)).bind λP=>(D.truth P).bind λt=>
     Option.bind (if t then(some true) else((D.truth (D.bool (D.beq o (D.int .i64 0)))).bind λu=>
     if u then((cA (n+2) 107 [g,af (wy (pt l) a b)]).bind λJ=>(abG .lss J (D.int .i64 0)).bind λQ=>(D.truth Q).bind λv=>
     if v then(some true) else((cA (n+2) 107 [g,af (wy (pt l) a b)]).bind λK=>(cA (n+2) 107 [af (wy (pt l) a b),af (wy (pt l) a b)]).bind λL=>
     (abG .gtr K L).bind λR=>D.truth R)) else(some false))) λw=>(D.truth (D.bool w)).bind λA=>
     if A then(some (1,[(D.bool false)])) else(some (0,[]))))=some y:=by
    intro y hy;refine j0 (l.map af) (aa (z:=i) (by rw[f];exact aw c) (aa (f9 c) (aa hc (aa (z:=false) ?_ ?_))))
    ·rw[bZ,show V.dot m (l.getD i V.zero)=d from hon];simp[D.truth]
    rw[zka j2]
    refine j0 (l.map af) (aa (z:=i) (by rw[f];exact aw c) (aa (f9 c) (aa (z:=af (wy (pt l) a i)) c1 (aa c2 (aa S (aa ah (aa ac ?_)))))))
    rw[hy];have e:V.dot m (V.cross (wy (pt l) a b) (wy (pt l) a i))=T m (wy (pt l) a b) (wy (pt l) a i):=rfl;rw[e];refine aa (z:=!iV l m a b i) ?_ ?_
    ·by_cases t1:T m (wy (pt l) a b) (wy (pt l) a i)<0
     ·rw[PO (Fg.2 t1)];have:¬ (0<=T m (wy (pt l) a b) (wy (pt l) a i)):=j1
      simp[iV,this]
     ·rw[PP (λh=>t1 (Fg.1 h))];have M:0<=T m (wy (pt l) a b) (wy (pt l) a i):=j1
      by_cases t2:T m (wy (pt l) a b) (wy (pt l) a i)=0
      ·refine aa (z:=true) (by rw[bZ,zha (hC.2 t2)];rfl) ?_
       rw[zna rfl];refine aa U (aa ah (aa ac ?_));by_cases t3:V.dot (wy (pt l) a i) (wy (pt l) a b)<0
       ·rw[PO t3];have:¬ (0<=V.dot (wy (pt l) a i) (wy (pt l) a b)):=j1
        simp[iV,t2,this]
       ·rw[PP t3];refine aa U (aa Z (aa fH ?_));rw[ac];have N:0<=V.dot (wy (pt l) a i) (wy (pt l) a b):=j1
        simp only[iV,t2,N,decide_true,zCb,zlc,Bool.false_or,zjc];by_cases t4:V.dot (wy (pt l) a i) (wy (pt l) a b)<=V.dot (wy (pt l) a b) (wy (pt l) a b)
        ·have:¬ (V.dot (wy (pt l) a i) (wy (pt l) a b)>V.dot (wy (pt l) a b) (wy (pt l) a b)):=j1
         simp[t4,this]
        ·have:(V.dot (wy (pt l) a i) (wy (pt l) a b)>V.dot (wy (pt l) a b) (wy (pt l) a b)):=j1
         simp[t4,this]
      ·refine aa (z:=false) (by rw[bZ,zea (λh=>t2 (hC.1 h))];rfl) ?_
       simp[iV,t2,M]
    ·refine aa ac ?_;cases iV l m a b i<;>rfl
   cases hk:iV l m a b i
   ·right;rw[hk] at step;refine⟨(0,[.bool false]),?_,?_⟩
    ·exact j0 (l.map af) (aa ah (aa ac (aY (by show((i:Int)<((l.map af).length:Int));rw[f];omega) (aa (step _ rfl) rfl))))
    ·have:yA l m d a b=false:=by
      rw[zoc];intro h;have:=zCa.1 h i (au.2 ⟨c,hon⟩);rw[hk] at this;exact z3a this j2
     rw[this];rfl
   ·left;rw[hk] at step;refine⟨[I ((i+1:Nat):Int)],?_,rfl,?_⟩
    ·exact j0 (l.map af) (aa ah (aa ac (aY (by show((i:Int)<((l.map af).length:Int));rw[f];omega) (aa (step _ rfl) (by rw[zna rfl,zna rfl];exact aa (az (aU (i:=i) j1)) rfl)))))
    ·rw[lc,zna hon,zgd,q];simp[hk]
  ·left;refine⟨[I ((i+1:Nat):Int)],?_,rfl,?_⟩
   ·refine j0 (l.map af) (aa ah (aa ac (aY (by show((i:Int)<((l.map af).length:Int));rw[f];omega) (aa (z:=(0,[])) ?_ (by rw[zna rfl];exact aa (az (aU (i:=i) j1)) rfl)))))
    refine j0 (l.map af) (aa (z:=i) (by rw[f];exact aw c) (aa (f9 c) (aa hc (aa (z:=true) ?_ rfl))))
    rw[bZ,zea (show ¬ V.dot m (l.getD i V.zero)=d from hon)];rfl
   ·rw[lc,zka hon];exact q
 ·obtain⟨rfl,q⟩:=B;refine⟨(1,[]),?_,?_⟩
  ·exact j0 (l.map af) (aa ah (aa ac (be (by show ¬ ((l.length:Int)<((l.map af).length:Int));rw[f];omega) rfl)))
  ·have:yA l m d a b=true:=q;rw[this];rfl
def ET{body:Bd}{s0:List D}{r:Nat×List D}(h:(bf body s0).bind some=some r):bf body s0=some r:=by
 cases hb:bf body s0 with
 | none=>rw[hb] at h;cases h
 | some z=>rw[hb] at h;exact h
def Jq{P:Nat->V}{m:V}{d:Int}{i N a:Nat}(h:(aL P i m d).head?=some a)(b:i<=N):(aL P N m d).head?=some a:=by
 induction N with
 | zero=>
      have:i=0:=j1
      subst this;exact h
 | succ N ih=>
  by_cases e:i=N+1
  ·rw[<-e];exact h
  ·have:=ih j1
   rw[lc];split
   ·rw[List.head?_append,this];rfl
   ·exact this
theorem sQ{body:Bd}{S:Nat->Nat->Prop}{a M:Nat}{G:Nat->Prop}(f:∀ c b,G c->S c b->G b)
  (d:∀ (c b:Nat) (out:List Nat),G c->S c b->b≠a->out.length<=M->body [.sl (ao out),I (c:Int)]=some (.inl [.sl (ao (out++[c])),I (b:Int)]))
  (e:∀ (c:Nat) (out:List Nat),G c->S c a->out.length<=M->body [.sl (ao out),I (c:Int)]=some (.inr (0,[.sl (ao (out++[c]))]))) :
  ∀ {c:Nat} {p:List Nat},Chain S a c p->G c->∀ out:List Nat,(out++p).length<=M->bf body [.sl (ao out),I (c:Int)]=some (0,[.sl (ao (out++p))])
 | c,_,.done s,hc,out,hl=>ew (e c out hc s (by simp at hl;omega))
 | c,_,.step (y:=y) (l:=p) s hy k,hc,out,hl=>by
  have h1:=d c y out hc s hy (by simp at hl;omega)
  rw[show bf body [.sl (ao out),I (c:Int)]=bf body [.sl (ao (out++[c])),I (y:Int)] from dR h1];have:=sQ f d e k (f c y hc s) (out++[c]) (by simpa using hl)
  rw[this];simp
def Xz(n:Nat){l:List V}(hl:∀ x∈l,bd MV x)(hlen:l.length<=100)(hs:Ko l){m:V}{d:Int}(hF:IsF (pt l) l.length m d)(hm:bd 549755813888 m){p:List Nat}(hp:bA (pt l) l.length m d p) :
  cA (n+4) 111 [eG l,af m,I d]=some (.sl (ao p)):=by
 have F:=hF.flat hs;obtain⟨X,R,A,J⟩:=hF.poly hs;have e:=bA.eq hs hF hp R;subst e;obtain⟨a,v,P⟩:=hp;have T:a∈aL (pt l) l.length m d:=List.mem_of_mem_head? (by rw[v];rfl)
 have H:∀ k∈aL (pt l) l.length m d,k<l.length:=λk hk=>(au.1 hk).1;have E:∀ k∈aL (pt l) l.length m d,V.dot m (pt l k)=d:=λk hk=>(au.1 hk).2;have L:(aL (pt l) l.length m d).length<=l.length:=by unfold aL;exact zIa (zAc _ _) (by rw[zsb];omega)
 have S:p.length<=l.length:=zIa (z0b A λz W=>((J z).1 W).1) L;have q:(l.map af).length=l.length:=zya ..;rw[XO]
 delta KF qB qC qT qS qX qL qV qW qZ iL iR Jn
 have r:=λ(i:Nat) (j:i<l.length)=>FN (n+2) hm (hl _ (cW j)) j2
 refine aa (z:=(0,[.sl [],I (a:Int)])) ?_ ?_
 ·refine ET (c6 (λi s=>s=[.sl [],kr ((aL (pt l) i m d).head?),I (i:Int)]) l.length 0 (zAa _) rfl (λi j s u=>?_) (λs u=>?_))
  ·subst u;cases hh:(aL (pt l) i m d).head? with
   | some a'=>
    right;have:=Jq hh (zyc j);rw[v] at this;cases this;refine⟨(0,[.sl [],I (a:Int)]),?_,rfl⟩;refine j0 (l.map af) (aa ah (aa ac (aa (z:=false) (aY (by show((i:Int)<((l.map af).length:Int));rw[q];omega) ?_) (aa ac ?_))))
    ·refine aa ah ?_;rw[zea j1];rfl
    ·rfl
   | none=>
    left;have K:aL (pt l) i m d=[]:=by simpa using hh
    refine⟨[.sl [],kr ((aL (pt l) (i+1) m d).head?),I ((i+1:Nat):Int)],?_,rfl⟩;refine j0 (l.map af) (aa ah (aa ac (aa (z:=true) (aY (by show((i:Int)<((l.map af).length:Int));rw[q];omega) (aa (ah (a:=-1) (b:=0)) rfl)) (aa ac ?_))))
    rw[zna rfl];refine aa (z:=(0,[.sl [],kr ((aL (pt l) (i+1) m d).head?)])) ?_ (aa (az (aU (i:=i) j1)) rfl)
    refine j0 (l.map af) (aa (z:=i) (by rw[q];exact aw j) (aa (f9 j) (aa (r i j) ?_)))
    rw[bZ,lc,K];by_cases f:V.dot m (pt l i)=d
    ·rw[zna f,zha (show V.dot m (l.getD i V.zero)=d from f)];rfl
    ·rw[zka f,zea (show ¬ V.dot m (l.getD i V.zero)=d from f)];rfl
  ·subst u;rw[v];refine⟨(0,[.sl [],I (a:Int)]),?_,rfl⟩;refine j0 (l.map af) (aa ah (aa ac (aa (z:=false) (be (by show ¬ ((l.length:Int)<((l.map af).length:Int));rw[q];omega) rfl) (aa ac rfl))))
 ·refine aa (z:=(0,[.sl (ao ([]++p))])) ?_ rfl;refine sQ (M:=l.length) (G:=λc=>c∈aL (pt l) l.length m d) (λc b hc C=>C.mem) (λc b out hc C N Q=>?_) (λc out hc C Q=>?_) P T [] (by simpa using S)
  all_goals
   obtain⟨g,U,o⟩:∃ g,(g=a\/g≠a)/\Side m (pt l) (aL (pt l) l.length m d) c g:=by first|exact⟨_,Classical.em _,C⟩
   refine j0 (l.map af) (aa mJ (aa ac (aY (by show(((ao out).length:Int)<=((l.map af).length:Int));rw[q,aG];omega) ?_)))
   rw[zna (by simp only[g0,D.els,aG,zQa,zLb];omega)]
   have B:ao out++[I (c:Int)]=ao (out++[c]):=by simp[ao]
   have O:=H g o.mem;refine aa (z:=(0,[.sl (ao (out++[c])),I (g:Int)])) ?_ ?_
   ·refine ET (c6 (λi s=>s=[.sl (ao (out++[c])),kr (if g<i then some g else none),I (i:Int)]) l.length 0 (zAa _) (by simp[g0,g1,D.els,B,kr]) (λi j s u=>?_) (λs u=>?_))
    ·subst u;by_cases hbi:g<i
     ·right;rw[zna hbi];refine⟨(0,[.sl (ao (out++[c])),I (g:Int)]),?_,rfl⟩;refine j0 (l.map af) (aa ah (aa ac (aa (z:=false) (aY (by show((i:Int)<((l.map af).length:Int));rw[q];omega) ?_) (aa ac ?_))))
      ·refine aa ah ?_;rw[zea j1];rfl
      ·rfl
     ·left;rw[zka hbi];refine⟨[.sl (ao (out++[c])),kr (if g<i+1 then some g else none),I ((i+1:Nat):Int)],?_,rfl⟩
      refine j0 (l.map af) (aa ah (aa ac (aa (z:=true) (aY (by show((i:Int)<((l.map af).length:Int));rw[q];omega) (aa (ah (a:=-1) (b:=0)) rfl)) (aa ac ?_))))
      rw[zna rfl];refine aa (z:=(0,[.sl (ao (out++[c])),kr (if g<i+1 then some g else none)])) ?_ (aa (az (aU (i:=i) j1)) rfl)
      have w:=H c hc;by_cases f:i≠c/\V.dot m (pt l i)=d
      ·have t:i∈aL (pt l) l.length m d:=au.2 ⟨j,f.2⟩;refine aa (z:=true) (by show D.truth (D.bool (!(D.beq (I (i:Int)) (I (c:Int)))))=_;rw[eK,zea f.1];rfl) (aa (z:=true) ?_ (aa ac ?_))
       ·rw[zna rfl];refine j0 (l.map af) (aa (z:=i) (by rw[q];exact aw j) (aa (f9 j) (aa (r i j) ?_)))
        rw[bZ,zha (show V.dot m (l.getD i V.zero)=d from f.2)];rfl
       ·rw[zna rfl];refine j0 (l.map af) (aa (z:=c) (by rw[q];exact aw w) (aa (f9 w) (j0 (l.map af) (aa (z:=i) (by rw[q];exact aw j) (aa (f9 j) (aa (W2 n hl hlen hF.nz.1 hm w j (E c hc) f.2) (aa ac ?_)))))))
        by_cases y:i=g
        ·subst y;rw[(yB t f.1).2 o,zna rfl,zna j1];rfl
        ·have:yA l m d c i=false:=by
          rw[zoc];intro h;exact y (ach F hc ((yB t f.1).1 h) o)
         rw[this,zka (show ¬ g<i+1 by omega)];rfl
      ·have y:i≠g:=λe=>f (by subst e;exact⟨o.ne,E _ o.mem⟩)
       rw[zka (show ¬ g<i+1 by omega)]
       by_cases hic:i=c
       ·subst hic;refine aa (z:=false) (by show D.truth (D.bool (!(D.beq (I (i:Int)) (I (i:Int)))))=_;rw[eK,zha rfl];rfl) (j0 false (aa ac rfl))
       ·have A:¬ V.dot m (l.getD i V.zero)=d:=λh=>f ⟨hic,h⟩;refine aa (z:=true) (by show D.truth (D.bool (!(D.beq (I (i:Int)) (I (c:Int)))))=_;rw[eK,zea hic];rfl) (aa (z:=false) ?_ (aa ac rfl))
        rw[zna rfl];refine j0 (l.map af) (aa (z:=i) (by rw[q];exact aw j) (aa (f9 j) (aa (r i j) ?_)))
        rw[bZ,zea A];rfl
    ·subst u;rw[zna O];refine⟨(0,[.sl (ao (out++[c])),I (g:Int)]),?_,rfl⟩;exact j0 (l.map af) (aa ah (aa ac (aa (z:=false) (be (by show ¬ ((l.length:Int)<((l.map af).length:Int));rw[q];omega) rfl) (aa ac rfl))))
   ·have hu:=ach F hc C o;subst hu;first
     | exact aa (z:=true) (by show D.truth (D.bool (D.beq (I (_:Int)) (I (_:Int))))=_;rw[eK,zha rfl];rfl) (j0 true (aa ac rfl))
     | exact aa (z:=false) (by show D.truth (D.bool (D.beq (I (_:Int)) (I (_:Int))))=_;rw[eK,zea N];rfl) (aa (z:=false) (by rw[zka j2];refine aa ah ?_;rw[zea j1];rfl) (aa ac rfl))
def cJ:List Nat->Nat
 | []=>0
 | d::l=>d+65536*cJ l
def dl(l:List Nat):Prop:=∀ d∈l,d<65536
def dl.cons{d:Nat}{l:List Nat}(a:d<65536)(h:dl l):dl (d::l):=λx hx=>by
 rcases zEa.1 hx with rfl|hx
 ·exact a
 ·exact h x hx
def dl.append{a b:List Nat}(c:dl a)(d:dl b):dl (a++b):=λx hx=>by
 rcases List.mem_append.1 hx with hx|hx
 ·exact c x hx
 ·exact d x hx
theorem dl.getD{l:List Nat}(h:dl l)(i:Nat):l.getD i 0<65536:=by
 simp only[List.getD];cases hi:l[i]? with
 | none=>simp
 | some x=>exact h x (zbb hi)
def cG(m:Nat):List Nat:=if h:m=0 then[] else m%65536::cG (m/65536)
termination_by m
decreasing_by omega
def dA:cG 0=[]:=by unfold cG;simp
def jy{m:Nat}(h:m≠0):cG m=m%65536::cG (m/65536):=by rw[cG,dif_neg h]
def xm{d v:Nat}(a:d<65536)(h:d+65536*v≠0):cG (d+65536*v)=d::cG v:=by rw[jy h,show(d+65536*v)%65536=d by omega,show(d+65536*v)/65536=v by omega]
def fZ(m:Nat):cJ (cG m)=m:=by
 induction m using Nat.strongRecOn with
 | _ m ih=>
  by_cases h:m=0
  ·subst h;rw[dA];rfl
  ·rw[jy h,cJ,ih _ j1];omega
def g8(m:Nat):dl (cG m):=by
 induction m using Nat.strongRecOn with
 | _ m ih=>
  by_cases h:m=0
  ·subst h;rw[dA];intro d a;cases a
  ·rw[jy h];exact dl.cons j1 (ih _ j1)
def Bf{m:Nat}:cG m=[]↔m=0:=by
 constructor
 ·intro h;have:=fZ m;rw[h] at this;exact this.symm
 ·rintro rfl;exact dA
def xn(i:Nat):∀ m,(cG m).getD i 0=m/65536^i%65536:=by
 induction i with
 | zero=>
  intro m;by_cases h:m=0
  ·subst h;rw[dA];simp
  ·rw[jy h];simp
 | succ i ih=>
  intro m;by_cases h:m=0
  ·subst h;rw[dA];simp
  ·rw[jy h];show(cG (m/65536)).getD i 0=_;rw[ih,z5a,zfc,z9a 65536]
def jx(k:Nat):∀ m,m<65536^k->(cG m).length<=k:=by
 induction k with
 | zero=>
      intro m h;have:m=0:=by simpa using h
      subst this;rw[dA];simp
 | succ k ih=>
  intro m h;by_cases h0:m=0
  ·subst h0;rw[dA];simp
  ·rw[jy h0,zQa];have:=ih (m/65536) (by rw[zfc] at h;exact zHc (by rw[z9a];exact h))
   omega
def sS(a b:List Nat):cJ (a++b)=cJ a+65536^a.length*cJ b:=by
 induction a with
 | nil=>simp[cJ]
 | cons d a ih=> simp only[zzb,cJ,ih,zQa,zfc];rw[zxc,<-zGb,z9a 65536 (65536^a.length)];omega
def C4(l:List Nat)(n:Nat):cJ (l++List.replicate n 0)=cJ l:=by
 rw[sS];have:∀ n,cJ (List.replicate n 0)=0:=λn=>by
  induction n with
  | zero=>rfl
  | succ n ih=>rw[List.replicate_succ,cJ,ih]
 rw[this];simp
def vt(l:List Nat):Nat->Nat
 | 0=>0
 | k+1=>vt l k+l.getD k 0*65536^k
def NV(d:Nat)(l:List Nat)(k:Nat):vt (d::l) (k+1)=d+65536*vt l k:=by
 induction k with
 | zero=>simp[vt]
 | succ k ih=> rw[vt,ih,vt,zxc];have:(d::l).getD (k+1) 0=l.getD k 0:=rfl;rw[this,zfc,<-zGb,<-zGb,z9a 65536 (l.getD k 0),zGb,z9a (65536^k),<-zGb];omega
def Qk(l:List Nat):vt l l.length=cJ l:=by
 induction l with
 | nil=>rfl
 | cons d l ih=>rw[zQa,NV,ih];rfl
def ms{l:List Nat}{k:Nat}(h:l.length<=k):vt l k=cJ l:=by
 obtain⟨j,rfl⟩:∃ j,k=l.length+j:=⟨k-l.length,j1⟩
 clear h
 induction j with
 | zero=>exact Qk l
 | succ j ih=>
  rw[<-zVb,vt,ih];have:l.getD (l.length+j) 0=0:=by simp[List.getD]
  rw[this];simp
def Fy{l:List Nat}(h:dl l)(k:Nat):vt l k<65536^k:=by
 induction k with
 | zero=>simp[vt]
 | succ k ih=>
  have h1:=h.getD k;have h2:l.getD k 0*65536^k<=65535*65536^k:=zKa _ j1
  rw[vt,zfc,z9a (65536^k)];omega
def lA:List Nat->List Nat
 | []=>[]
 | d::l=>match lA l with
  | []=>if d=0 then[] else[d]
  | x::t=>d::x::t
def ws{l:List Nat}(h:dl l):lA l=cG (cJ l):=by
 induction l with
 | nil=>rw[cJ,dA];rfl
 | cons d l ih=>
  have a:d<65536:=h d zsa;have ih:=ih λx hx=>h x (zoa _ hx);rw[lA,ih,cJ];by_cases hv:cJ l=0
  ·rw[hv,dA];by_cases h0:d=0
   ·subst h0;simp[dA]
   ·rw[xm a j1,dA];simp[h0]
  ·rw[xm a j1,jy hv]
def DX{l:List Nat}(h:∀ i,i<l.length->l.getD i 0=0):lA l=[]:=by
 induction l with
 | nil=>rfl
 | cons d l ih=>
  have h0:d=0:=h 0 j3
  rw[lA,ih (λi a=>h (i+1) (by simpa using a)),h0];simp
theorem yJ:∀ {l:List Nat} {n:Nat},n<=l.length->(∀ i,n<=i->i<l.length->l.getD i 0=0)->(n=0\/l.getD (n-1) 0≠0)->l.take n=lA l
 | [],n,_,_,_=>by simp[lA]
 | d::l,0,_,a,_=>by rw[DX (λi b=>a i j1 b)];rfl
 | d::l,n+1,hn,a,hl=>by
  have hl':(d::l).getD n 0≠0:=by
   rcases hl with h|h
   ·omega
   ·exact h
  have ih:l.take n=lA l:=yJ (l:=l) (n:=n) (by simpa using hn) (λi h1 h2=>a (i+1) j1 (by simpa using h2)) (by
   cases n with
   | zero=>exact .inl rfl
   | succ k=>exact .inr hl')
  rw[zdc,ih,lA];cases ht:lA l with
  | nil=>
   rw[ht] at ih;have:n=0:=by
    cases n with
    | zero=>rfl
    | succ k=>cases l with
     | nil=>simp at hn
     | cons e l=>simp at ih
   subst this;have:d≠0:=hl';simp[this]
  | cons x t=>rfl
def pP{l:List Nat}{i:Nat}(h:i<l.length):(ao l)[i]?=some (I (l.getD i 0:Nat)):=oR h
def F7(a:List Nat)(d:Nat):ao a++[I (d:Int)]=ao (a++[d]):=by simp[ao]
def O3(n:Nat){l:List Nat}(hl:l.length<=1000000):cA (n+1) 140 [.sl (ao l)]=some (.sl (ao (lA l))):=by
 rw[Yc]
 delta La qB qC qT qS qX qZ iL iR Jn
 refine j0 (ao l) ?_;have fin:∀ j:Nat,j<=l.length->(∀ i,j<=i->i<l.length->l.getD i 0=0)->(j=0\/l.getD (j-1) 0≠0)->((D.asSl (.sl (ao l))).bind λf=>(D.natOf (I (j:Int))).bind λi14=>(D.cut f 0 i14).bind λg=>some (D.sl g))=some (.sl (ao (lA l))):=by
  intro j h a m;refine j0 (ao l) (aa (z:=j) (by simp[D.natOf]) (aa (z:=ao (l.take j)) ?_ (by rw[yJ h a m])))
  simp only[D.cut];rw[zna ⟨zAa _,by rw[aG];exact h⟩]
  simp[ao,List.map_take]
 refine cg (λi s=>s=[I ((l.length-i:Nat):Int)]/\∀ k,l.length-i<=k->k<l.length->l.getD k 0=0) l.length 0 (zAa _) ⟨by rw[aG];rfl,λk h1 h2=>j1⟩ (λi o s c=>?_) (λs c=>?_)
 ·obtain⟨rfl,a⟩:=c;have d:inR (((l.length-i:Nat):Int)-1):=by simp only[inR];omega
  have b:((l.length-i:Nat):Int)-1=((l.length-i-1:Nat):Int):=j1
  have hx:(ao l)[l.length-i-1]?=some (I (l.getD (l.length-i-1) 0:Nat)):=pP j1
  by_cases h0:l.getD (l.length-i-1) 0=0
  ·left;refine⟨[I ((l.length-(i+1):Nat):Int)],?_,rfl,λk h1 h2=>?_⟩
   ·refine aa fH (aa ac (aa (z:=true) (aY (by show((l.length-i:Nat):Int)>0;omega) ?_) (aa ac ?_)))
    ·refine aa (fd d) (j0 (ao l) (aa (z:=l.length-i-1) (by rw[b,aG];exact aw j1) (aa hx ?_)))
     rw[h0];rfl
    ·rw[zna rfl];refine aa (fd d) ?_;rw[b,Nat.sub_sub]
   ·by_cases e:k=l.length-i-1
    ·rw[e];exact h0
    ·exact a k j1 h2
  ·right;refine⟨(0,[I ((l.length-i:Nat):Int)]),?_,fin _ j1 a (.inr h0)⟩
   refine aa fH (aa ac (aa (z:=false) (aY (by show((l.length-i:Nat):Int)>0;omega) ?_) (aa ac rfl)))
   refine aa (fd d) (j0 (ao l) (aa (z:=l.length-i-1) (by rw[b,aG];exact aw j1) (aa hx ?_)))
   rw[bZ,zea j1];rfl
 ·obtain⟨rfl,a⟩:=c;refine⟨(0,[I ((l.length-l.length:Nat):Int)]),?_,fin _ j1 a (.inl j1)⟩
  refine aa fH (aa ac (aa (z:=false) (be (by show ¬ ((l.length-l.length:Nat):Int)>0;omega) rfl) (aa ac rfl)))
def Mw(n:Nat)(l:List Nat)(k:Nat):cA (n+1) 141 [.sl (ao l),I (k:Int)]=some (I (l.getD k 0:Nat)):=by
 rw[Yd]
 delta Lb qX qL Jn
 refine j0 (ao l) (aa ah (aa ac ?_));by_cases h:k<l.length
 ·refine aY (by show(k:Int)<((ao l).length:Int);rw[aG];omega) ?_
  exact j0 (ao l) (aa (z:=k) (by rw[aG];exact aw h) (aa (pP h) rfl))
 ·refine be (by show ¬ (k:Int)<((ao l).length:Int);rw[aG];omega) ?_
  have:l.getD k 0=0:=by simp[List.getD,h]
  rw[this];rfl
def fA(l:List Nat)(i:Nat):Nat:=l.getD (2*i) 0+65536*l.getD (2*i+1) 0
abbrev U(n:Nat):D:=.int .u32 (n:Int)
def eI(l:List Nat):D:=.st ((List.range 16).map λi=>U (fA l i))
def ag(x:Int):D:=.st [.bool false,.bool (decide (x<0)),eI (cG x.natAbs)]
def zD{l:List Nat}(h:dl l)(i:Nat):fA l i<4294967296:=by have:=h.getD (2*i);have:=h.getD (2*i+1);unfold fA;omega
def vk{l:List Nat}{i:Nat}(h:i<16):D.fld (eI l) i=some (U (fA l i)):=by simp[eI,D.fld,h]
def dc{x:Int}{i:Nat}(h:i<16):D.get (ag x) [2,i]=some (U (fA (cG x.natAbs) i)):=
 j0 (eI (cG x.natAbs)) (aa (vk h) rfl)
def qH{n:Int}(h:0<=n/\n<4294967296):IntKind.wrap .u32 n=n:=by
 obtain⟨h1,h2⟩:=h;simp only[IntKind.wrap,IntKind.signed,IntKind.bits];first
  | omega
  | (simp;omega)
def O1(a:Nat):abG .rem (U a) (.int .u32 65536)=some (U (a%65536)):=by
 simp only[abG,if_true,show ¬ (65536:Int)=0 by decide,if_false]
 rw[show(65536:Int)=((65536:Nat):Int) from rfl,<-znd]
def O0{a:Nat}(h:a<4294967296):abG .quo (U a) (.int .u32 65536)=some (U (a/65536)):=by
 simp only[abG,if_true,show ¬ (65536:Int)=0 by decide,if_false]
 rw[show(65536:Int)=((65536:Nat):Int) from rfl,<-zEd,qH j1]
def HS{a b:Nat}(h:a+b<4294967296):abG .add (U a) (U b)=some (U (a+b)):=by simp only[abG,if_true];rw[qH j1];simp
def OZ{a b:Nat}(h:a*b<4294967296):abG .mul (U a) (U b)=some (U (a*b)):=by simp only[abG,if_true];rw[show(a:Int)*(b:Int)=((a*b:Nat):Int) by simp,qH j1]
def tW{a:Nat}(h:a<4294967296):D.conv .i64 (U a)=some (I (a:Int)):=by simp only[D.conv];rw[ia (by simp only[inR];omega)]
def Ev{a:Nat}(h:a<4294967296):D.conv .u32 (I (a:Int))=some (U a):=by simp only[D.conv];rw[qH j1]
def DC(l:List Nat)(k:Nat):((List.range k).map λi=>l.getD i 0)=if k<=l.length then l.take k else l++List.replicate (k-l.length) 0:=by
 apply zuc;intro i;by_cases h:i<k
 ·rw[zhb,List.getElem?_range h];split
  ·simp[h,List.getD,show i<l.length by omega]
  ·by_cases h2:i<l.length
   ·simp[zIc,h2,List.getD]
   ·simp[zIc,h2,List.getD,List.getElem?_replicate,show i-l.length<k-l.length by omega]
 ·rw[zhb,show(List.range k)[i]?=none by simp;omega]
  split
  ·simp;omega
  ·simp;omega
def J6{l:List Nat}(a:dl l){k:Nat}(hk:l.length<=k):lA ((List.range k).map λi=>l.getD i 0)=cG (cJ l):=by
 have e:((List.range k).map λi=>l.getD i 0)=l++List.replicate (k-l.length) 0:=by
  rw[DC];split
  ·have:k=l.length:=j1
   subst this;simp
  ·rfl
 rw[e,ws (a.append (λx hx=>by rw[List.eq_of_mem_replicate hx];decide)),C4]
def Tn(n:Nat){x:Int}(hx:x.natAbs<65536^32):cA (n+2) 77 [ag x]=some (.sl (ao (cG x.natAbs))):=by
 rw[u77]
 delta S7 qG qB qC qV qW qZ iL iR Jn
 have c:=g8 x.natAbs;have hlen:=jx 32 _ hx;refine cg (λi s=>s=[.sl (ao ((List.range (2*i)).map λi=>(cG x.natAbs).getD i 0)),I (i:Int)]) 16 0 (zAa _) rfl (λi a s b=>?_) (λs b=>?_)
 ·subst b;left;refine⟨_,?_,rfl⟩;refine aa ah (aa ac (aY (by show(i:Int)<16;omega) ?_))
  have d:=zD c i;have h1:=c.getD (2*i);refine aa (z:=i) (aw a) (aa (dc a) (aa (O1 _) (aa (tW j1) (aa (z:=i) (aw a) (aa (dc a) (aa (O0 d) (aa (tW j1) ?_)))))))
  rw[zna (by simp only[g0,D.els,aG,zya,zsb,zQa,zLb];omega)]
  refine aa (az (aU (i:=i) j1)) ?_
  have e:fA (cG x.natAbs) i%65536=(cG x.natAbs).getD (2*i) 0:=by unfold fA;omega
  have f:fA (cG x.natAbs) i/65536=(cG x.natAbs).getD (2*i+1) 0:=by unfold fA;omega
  rw[e,f,show 2*(i+1)=2*i+1+1 by omega,zgc,zgc]
  simp[g0,D.els,ao]
 ·subst b;refine⟨(0,[.sl (ao ((List.range (2*16)).map λi=>(cG x.natAbs).getD i 0))]),?_,?_⟩
  ·exact aa ah (aa ac (be j2 rfl))
  ·refine aa (O3 n j3) ?_
   rw[J6 c hlen,fZ]
def lz(l:List Nat)(k j:Nat):(l.take k).getD j 0=if j<k then l.getD j 0 else 0:=by simp only[List.getD,List.getElem?_take];split<;>simp
def vm{l l':List Nat}{q v:Nat}{a b:D}(hq:q<16)(h:∀ i,fA l' i=if i=q then v else fA l i):D.set (.st [a,b,eI l]) [2,q] (U v)=some (.st [a,b,eI l']):=by
 have h1:D.set (eI l) [q] (U v)=some (eI l'):=by
  have e:((List.range 16).map λi=>U (fA l i))[q]?=some (U (fA l q)):=by simp[hq]
  refine aa e (j0 (U v) ?_);simp only[eI,zda,D.st.injEq];apply zuc;intro i;rw[List.getElem?_set];by_cases c:q=i
  ·subst c;simp[hq,h]
  ·rw[zka c,zhb,zhb];by_cases h16:i<16
   ·rw[List.getElem?_range h16];simp[h,show i≠q from λe=>c e.symm]
   ·rw[show(List.range 16)[i]?=none by simp;omega];rfl
 exact j0 (eI l) (aa h1 rfl)
def CQ(k:Nat):abG .rem (I (k:Int)) (.int .i64 2)=some (I (k%2:Nat)):=by rw[jY j2,show(2:Int)=((2:Nat):Int) from rfl,<-znd]
def ko{a b:Nat}(d:b≠0)(c:(a:Int)<=9223372036854775807):abG .quo (I (a:Int)) (I (b:Int))=some (I (a/b:Nat)):=by
 have:((a/b:Nat):Int)<=9223372036854775807:=by have:=zzc a b;omega
 have h0:0<=((a/b:Nat):Int):=Int.natCast_nonneg _;rw[ut j1 (by rw[<-zEd];simp only[inR];omega),<-zEd]
def oL{a b:Nat}(c:b≠0):abG .rem (I (a:Int)) (I (b:Int))=some (I (a%b:Nat)):=by rw[jY j1,<-znd]
def Bt{a b:D}{l:List Nat}{i:Nat}(h:i<16):D.get (.st [a,b,eI l]) [2,i]=some (U (fA l i)):=
 j0 (eI l) (aa (vk h) rfl)
def sgn(neg:Bool)(m:Nat):Int:=if neg then -(m:Int) else m
def Xm(n:Nat){l:List Nat}{neg:Bool}(p:dl l)(hl:l.length<=1000000)(t:cJ l<65536^32):cA (n+2) 81 [.bool neg,.sl (ao l)]=some (ag (sgn neg (cJ l))):=by
 rw[u81]
 delta Ta qG qB qC qT qS qX qL qZ iL iR Jn
 have hlen:=jx 32 _ t;have e:=g8 (cJ l);have j:ag (sgn neg (cJ l))=.st [.bool false,.bool (neg&&decide (0<(cG (cJ l)).length)),eI (cG (cJ l))]:=by
  have m:(sgn neg (cJ l)).natAbs=cJ l:=by unfold sgn;split<;>omega
  have o:(0<(cG (cJ l)).length)↔cJ l≠0:=by rw[List.length_pos_iff];exact not_congr Bf
  unfold ag;rw[m];have:decide (sgn neg (cJ l)<0)=(neg&&decide (0<(cG (cJ l)).length)):=by
   simp only[o,sgn];cases neg
   ·simp<;>omega
   ·by_cases h:cJ l=0
    ·simp[h]
    ·simp[h]<;>omega
  rw[this]
 rw[j];refine aa (O3 n hl) ?_;rw[ws p];generalize cG (cJ l)=d at hlen e;refine j0 (ao d) (aa fH (aa ac (be (by show ¬ ((ao d).length:Int)>32;rw[aG];omega) ?_)))
 refine aa ac (aa (z:=neg&&decide (0<d.length)) ?_ ?_)
 ·cases neg
  ·rfl
  ·rw[zna rfl];refine j0 (ao d) (aa fH ?_);rw[ac,aG];simp
 refine cg (λk s=>s=[I (k:Int),.st [.bool false,.bool (neg&&decide (0<d.length)),eI (d.take k)]]) d.length 0 (zAa _) rfl (λk hk s g=>?_) (λs g=>?_)
 ·subst g;left;refine⟨_,?_,rfl⟩;have r:=e.getD k;refine j0 (ao d) (aa ah (aa ac (aY (by show(k:Int)<((ao d).length:Int);rw[aG];omega) ?_)))
  refine aa (z:=(0,[.st [.bool false,.bool (neg&&decide (0<d.length)),eI (d.take (k+1))]])) ?_ (aa (az (aU (i:=k) j1)) rfl)
  refine aa (CQ k) ?_;have c:k/2<16:=j1
  have hq:abG .quo (I (k:Int)) (.int .i64 2)=some (I (k/2:Nat)):=ko (b:=2) j2 j1
  have a:fA (d.take k) (k/2)=if k%2=0 then 0 else d.getD (2*(k/2)) 0:=by
   simp only[fA,lz];by_cases hk2:k%2=0
   ·rw[zna hk2,zka (show ¬ 2*(k/2)<k by omega),zka (show ¬ 2*(k/2)+1<k by omega)]
   ·rw[zka hk2,zna (show 2*(k/2)<k by omega),zka (show ¬ 2*(k/2)+1<k by omega)];omega
  have q:=e.getD (2*(k/2));by_cases hk2:k%2=0
  ·rw[zna hk2] at a;rw[hk2];refine j0 true ?_;rw[zna rfl];refine aa hq (aa hq (aa (aw c) (aa (Bt c) (j0 (ao d) (aa (z:=k) (by rw[aG];exact aw hk) (aa (pP hk) (aa (Ev j1) (aa (HS (by rw[a];omega)) (aa (aw c) (aa (vm c (l':=d.take (k+1)) ?_) rfl))))))))))
   intro i;by_cases f:i=k/2
   ·rw[zna f,a,f];simp only[fA,lz];rw[zna (show 2*(k/2)<k+1 by omega),zka (show ¬ 2*(k/2)+1<k+1 by omega),show 2*(k/2)=k by omega];omega
   ·rw[zka f];simp only[fA,lz];have a1:(2*i<k+1)↔(2*i<k):=j1
    have a2:(2*i+1<k+1)↔(2*i+1<k):=j1
    simp only[a1,a2]
  ·rw[zka hk2] at a;refine aa (z:=false) (by rw[show k%2=1 by omega];rfl) ?_
   rw[zka j2]
   refine aa hq (aa hq (aa (aw c) (aa (Bt c) (j0 (ao d) (aa (z:=k) (by rw[aG];exact aw hk) (aa (pP hk) (aa (Ev j1) (aa (OZ (b:=65536) j1) (aa (HS (by rw[a];omega)) (aa (aw c) (aa (vm c (l':=d.take (k+1)) ?_) rfl)))))))))))
   intro i;by_cases f:i=k/2
   ·rw[zna f,a,f];simp only[fA,lz];rw[zna (show 2*(k/2)<k+1 by omega),zna (show 2*(k/2)+1<k+1 by omega),show 2*(k/2)+1=k by omega];omega
   ·rw[zka f];simp only[fA,lz];have a1:(2*i<k+1)↔(2*i<k):=j1
    have a2:(2*i+1<k+1)↔(2*i+1<k):=j1
    simp only[a1,a2]
 ·subst g;refine⟨(0,[.st [.bool false,.bool (neg&&decide (0<d.length)),eI (d.take d.length)]]),?_,?_⟩
  ·exact j0 (ao d) (aa ah (aa ac (be (by show ¬ (d.length:Int)<((ao d).length:Int);rw[aG];omega) rfl)))
  ·rw[zOb];rfl
def c82(n:Nat){a b:List Nat}(t:dl a)(u:dl b)(E:a.length<=900000)(F:b.length<=900000):cA (n+2) 82 [.sl (ao a),.sl (ao b)]=some (.sl (ao (cG (cJ a+cJ b)))):=by
 rw[u82]
 delta Tb qB qC qS qV qW qZ iL iR Jn
 obtain⟨M,A⟩:∃ M,M=max a.length b.length:=⟨_,rfl⟩;have f:∀ k:Nat,D.max2 (D.int .i64 (ao a).length) (D.int .i64 (ao b).length)=some (I (M:Int)):=λ_=>by rw[I7,aG,aG,A];congr 2;omega
 refine cg (λk s=>∃ (out:List Nat) (c:Nat),s=[.sl (ao out),I (c:Int),I (k:Int)]/\out.length=k/\dl out/\c<=1/\cJ out+c*65536^k=vt a k+vt b k) (M+1) 0 (zAa _) ⟨[],0,rfl,rfl,(by intro d C;cases C),j1,by simp[cJ,vt]⟩ (λk hk s j=>?_) (λs j=>?_)
 ·obtain⟨out,c,rfl,o,g,hc,p⟩:=j;left;have h1:=t.getD k;have h2:=u.getD k;refine⟨[.sl (ao (out++[(a.getD k 0+b.getD k 0+c)%65536])),I ((a.getD k 0+b.getD k 0+c)/65536:Nat),I ((k+1:Nat):Int)],?_,out++[(a.getD k 0+b.getD k 0+c)%65536],(a.getD k 0+b.getD k 0+c)/65536,rfl,by simp[o],g.append (λx hx=>by simp at hx;omega),j1,?_⟩
  ·refine j0 (ao a) (j0 (ao b) (aa (f 0) (aa (az (aU (i:=M) j1)) (aa ah (aa ac (aY (by show(k:Int)<(M:Int)+1;omega) ?_))))))
   refine aa (Mw n a k) (aa (Mw n b k) (aa (az (by simp only[inR];omega)) (aa (az (by simp only[inR];omega)) ?_)))
   rw[show(((a.getD k 0:Nat):Int)+((b.getD k 0:Nat):Int)+(c:Int))=((a.getD k 0+b.getD k 0+c:Nat):Int) by omega]
   refine aa (oL (b:=65536) j2) ?_
   rw[zna (by simp only[g0,D.els,aG,zQa,zLb];omega)]
   refine aa (ko (b:=65536) j2 j1) (aa (az (aU (i:=k) j1)) ?_)
   simp only[g0,D.els,F7];rfl
  ·rw[sS,o,vt,vt,zfc];have e:a.getD k 0+b.getD k 0+c=(a.getD k 0+b.getD k 0+c)%65536+65536*((a.getD k 0+b.getD k 0+c)/65536):=j1
   have y:cJ [(a.getD k 0+b.getD k 0+c)%65536]=(a.getD k 0+b.getD k 0+c)%65536:=by simp[cJ]
   rw[y];generalize 65536^k=B at *;generalize (a.getD k 0+b.getD k 0+c)%65536=r at *;generalize (a.getD k 0+b.getD k 0+c)/65536=q at *;have:(a.getD k 0+b.getD k 0+c)*B=(r+65536*q)*B:=by rw[e]
   rw[zob,zob,zob] at this;rw[show q*(B*65536)=65536*q*B by rw[z9a B,<-zGb,z9a q],z9a B r]
   omega
 ·obtain⟨out,c,rfl,o,g,hc,p⟩:=j;refine⟨(0,[.sl (ao out)]),?_,?_⟩
  ·refine j0 (ao a) (j0 (ao b) (aa (f 0) (aa (az (aU (i:=M) j1)) (aa ah (aa ac (be (by show ¬ (((M+1:Nat):Int)<(M:Int)+1);omega) rfl))))))
  ·refine aa (O3 n (l:=out) j1) ?_
   have v:vt a (M+1)=cJ a:=ms j1
   have w:vt b (M+1)=cJ b:=ms j1
   have la:=Fy t M;have lb:=Fy u M;rw[ms (show a.length<=M by omega)] at la
   rw[ms (show b.length<=M by omega)] at lb
   have m:c=0:=by
    rcases zhc c with h|h
    ·exact h
    ·have:1*65536^(M+1)<=c*65536^(M+1):=zKa _ h;rw[zfc] at this;rw[v,w,zfc] at p;omega
   subst m;rw[ws g,<-v,<-w,<-p];simp
def H3(n:Nat){x:Int}(hx:inR x):cA (n+3) 34 [I x]=some (ag x):=by
 rw[u34]
 delta SO qB qC Jn
 obtain⟨h1,h2⟩:=hx;have d1:∀ m:Nat,(m:Int)<=9223372036854775807->dl [m%65536,m/65536%65536,m/4294967296%65536,m/281474976710656]:=λm hm d c=>by simp only[zEa,zcc,or_false] at c;omega
 have d2:∀ m:Nat,cJ [m%65536,m/65536%65536,m/4294967296%65536,m/281474976710656]=m:=λm=>by simp only[cJ];omega
 have d3:∀ m:Nat,D.sl [I (m%65536:Nat),I (m/65536%65536:Nat),I (m/4294967296%65536:Nat),I (m/281474976710656:Nat)]=.sl (ao [m%65536,m/65536%65536,m/4294967296%65536,m/281474976710656]):=λm=>rfl;have a:∀ m:Nat,(m:Int)<=9223372036854775808->m<65536^32:=λm hm=>by
  have:(65536:Nat)^4<=65536^32:=zGa j2 j2
  have e:(65536:Nat)^4=18446744073709551616:=j2
  omega
 refine aa ik (aa ac ?_);by_cases h:x ≥ 0
 ·refine aY h ?_;obtain⟨m,rfl⟩:=zYc h;refine aa (oL (b:=65536) j2) (aa (ko (b:=65536) j2 h2) (aa (oL (b:=65536) j2) (aa (ko (b:=4294967296) j2 h2) (aa (oL (b:=65536) j2) (aa (ko (b:=281474976710656) j2 h2) ?_)))))
  refine aa (z:=ag m) ?_ rfl;rw[d3,Xm n (d1 m h2) j3 (by rw[d2];exact a m j1),d2];rfl
 ·refine be h ?_;obtain⟨m,hm⟩:=zYc (show 0<=-(x+1) by omega)
  have h3:(m:Int)<=9223372036854775807:=j1
  refine aa (az (by simp only[inR];omega)) (aa (qE (by simp only[inR];omega)) ?_)
  rw[hm];refine aa (oL (b:=65536) j2) (aa (ko (b:=65536) j2 h3) (aa (oL (b:=65536) j2) (aa (ko (b:=4294967296) j2 h3) (aa (oL (b:=65536) j2) (aa (ko (b:=281474976710656) j2 h3) ?_)))))
  rw[d3];refine aa (c82 n (b:=[1]) (d1 m h3) (λd c=>by simp at c;omega) j3 j3) (aa (z:=ag x) ?_ rfl)
  rw[d2];have f:cJ [1]=1:=rfl;rw[f,Xm n (g8 _) ?_ ?_,fZ]
  ·congr 2;simp only[sgn,if_true];omega
  ·have:=jx 32 _ (a (m+1) j1);omega
  ·rw[fZ];exact a (m+1) j1
def In(x:Int):Prop:=x.natAbs<65536^32
def In.of{x:Int}(h:inR x):In x:=by
 have:(65536:Nat)^4<=65536^32:=zGa j2 j2
 have e:(65536:Nat)^4=18446744073709551616:=j2
 obtain⟨h1,h2⟩:=h;unfold In;omega
def jp(m i:Nat):fA (cG m) i=m/4294967296^i%4294967296:=by
 have a:65536^(2*i)=4294967296^i:=by rw[Nat.pow_mul]
 have b:65536^(2*i+1)=4294967296^i*65536:=by rw[zfc,a]
 unfold fA;rw[xn,xn,a,b,<-z5a];generalize m/4294967296^i=q;omega
def OC(m:Nat):fA (cG m) 0=m%4294967296:=by rw[jp,zhd,zvd]
def I1(m:Nat):fA (cG m) 1=m/4294967296%4294967296:=by rw[jp,Nat.pow_one]
def RO{m i:Nat}(h:m<18446744073709551616)(a:2<=i):fA (cG m) i=0:=by
 rw[jp];have:(4294967296:Nat)^2<=4294967296^i:=zGa j2 a
 rw[zib j1]
def N6{a b:Nat}:D.beq (U a) (U b)=decide (a=b):=by
 simp only[D.beq,decide_true,zCb];by_cases h:a=b
 ·simp[h]
 ·simp[h];omega
def vn{m:Nat}(hm:m<65536^32)(h:∀ i,i<16->fA (cG m) i=0):m=0:=by
 have b:∀ i,i<32->(cG m).getD i 0=0:=λi c=>by
  have:=h (i/2) j1
  unfold fA at this;rcases Nat.mod_two_eq_zero_or_one i with e|e
  ·rw[show 2*(i/2)=i by omega] at this;omega
  ·rw[show 2*(i/2)+1=i by omega] at this;omega
 have a:∀ k,k<=32->vt (cG m) k=0:=λk=>by
  induction k with
  | zero=>intro _;rfl
  | succ k ih=>intro hk;rw[vt,ih j1,b k j1];simp
 have:=a 32 j1
 rw[ms (jx 32 _ hm),fZ] at this;exact this
def zB(m i:Nat):Bool:=(List.range i).all λk=>decide (fA (cG m) k=0)
def NX(m i:Nat):zB m (i+1)=(zB m i&&decide (fA (cG m) i=0)):=by unfold zB;rw[zgc,zgd];simp
def WW(n:Nat){x:Int}(hx:In x):cA (n+1) 139 [ag x]=some (.bool true):=by
 rw[Yb]
 delta KZ qG qB qC qT qN qZ iL iR Jn
 have fin:∀ z:Bool,(z=true->x=0)->((D.get (ag x) [0]).bind λj=>(D.truth j).bind λb=>
   if b then((D.truth (.bool z)).bind λc=>Option.bind (if c then((D.get (ag x) [1]).bind λk=>(abU .not k).bind λl=>D.truth l) else(some false)) λd=>
   some (D.bool d)) else((abU .not (.bool z)).bind λm=>(D.truth m).bind λe=>
   Option.bind (if e then(some true) else((D.get (ag x) [1]).bind λo=>(abU .not o).bind λp=>D.truth p)) λf=>some (D.bool f)))=some (.bool true):=by
  intro z q;refine j0 (.bool false) (j0 false ?_);rw[zka j2]
  refine j0 (.bool (!z)) (j0 (!z) ?_);cases z with
  | false=>rfl
  | true=> have:=q rfl;subst this;rfl
 refine cg (λi s=>s=[.bool (zB x.natAbs i),I (i:Int)]) 16 0 (zAa _) rfl (λi a s g=>?_) (λs g=>?_)
 ·subst g;left;refine⟨_,?_,rfl⟩;refine aa ah (aa ac (aY (by show(i:Int)<16;omega) (aa ac (aa (z:=zB x.natAbs (i+1)) ?_ (aa (az (aU (i:=i) j1)) rfl)))))
  rw[NX];cases zB x.natAbs i with
  | false=>rfl
  | true=> rw[zna rfl];refine aa (aw a) (aa (dc a) ?_);show D.truth (D.bool (D.beq (U (fA (cG x.natAbs) i)) (U 0)))=_;rw[N6,ac];rfl
 ·subst g;refine⟨(0,[.bool (zB x.natAbs 16)]),?_,?_⟩
  ·exact aa ah (aa ac (be j2 rfl))
  ·refine fin _ λh=>?_;have:=vn hx (λi a=>of_decide_eq_true (zCa.1 h i (zWa.2 a)));omega
def Pg(n:Nat){x:Int}(hx:In x):cA (n+2) 76 [ag x]=some (.bool true):=by
 rw[u76]
 delta S6 qG qT
 exact aa (WW n hx) (aa ac rfl)
def H0(n:Nat){x:Int}(hx:x.natAbs<4611686018427387904):cA (n+3) 124 [ag x]=some (.tup [I x,.bool true]):=by
 have b:In x:=In.of (by simp only[inR];omega)
 rw[Sq]
 delta Ho qG qB qC qT qN qZ iL iR Jn
 have d:=I1 x.natAbs;refine aa (Pg n b) (aa bz (aa ac (aa (z:=false) ?_ (aa ac ?_))))
 ·rw[zka j2]
  refine aa (dc (i:=1) j2) ?_
  rw[d];have:abG .geq (U (x.natAbs/4294967296%4294967296)) (.int .u32 1073741824)=some (.bool false):=by simp only[abG,if_true];rw[zea j1]
  exact aa this rfl
 ·rw[zka j2]
  refine cg (λi s=>s=[I (i:Int)]/\2<=i) 16 2 j2 ⟨rfl,j2⟩ (λi c s a=>?_) (λs a=>?_)
  ·obtain⟨rfl,h2⟩:=a;left;refine⟨_,?_,rfl,j1⟩
   refine aa ah (aa ac (aY (by show(i:Int)<16;omega) ?_))
   refine aa (aw c) (aa (dc c) ?_);rw[RO j1 h2]
   refine j0 false ?_;rw[zka j2]
   exact aa (az (aU (i:=i) j1)) rfl
  ·obtain⟨rfl,_⟩:=a;refine⟨(1,[]),aa ah (aa ac (be j2 rfl)),?_⟩
   rw[zka j2]
   have e:=OC x.natAbs;refine aa (dc (i:=1) j2) (aa (tW (zD (g8 _) 1)) ?_)
   rw[d];refine aa (ct (by simp only[inR];omega)) (aa (dc (i:=0) j2) (aa (tW (zD (g8 _) 0)) ?_))
   rw[e];refine aa (az (by simp only[inR];omega)) (j0 (.bool (decide (x<0))) (aa ac ?_))
   by_cases hx0:x<0
   ·refine aY hx0 ?_;refine aa (qE (by simp only[inR];omega)) ?_
    congr 4;omega
   ·refine be hx0 ?_;congr 4;omega
def WX(n:Nat){x:Int}(hx:In x):cA (n+3) 142 [ag x]=some (ag x.natAbs):=by
 rw[Ye]
 delta Lc qN
 have hl:=jx 32 _ hx;refine aa (Pg n hx) (aa bz (aa ac ?_));refine aa (Tn n hx) (aa (z:=ag x.natAbs) ?_ rfl);rw[Xm n (g8 _) j1 (by rw[fZ];exact hx),fZ];rfl
def Zm(n:Nat){a b:List Nat}(p:dl a)(q:dl b)(r:a.length<=900000)(t:b.length<=900000):cA (n+2) 78 [.sl (ao a),.sl (ao b)]=some (.bool (decide (cJ a<cJ b))):=by
 rw[u78]
 delta S8 qB qC qT qS qZ iL iR Jn
 obtain⟨M,o⟩:∃ M,M=max a.length b.length:=⟨_,rfl⟩;have c:D.max2 (D.int .i64 (ao a).length) (D.int .i64 (ao b).length)=some (I (M:Int)):=by rw[I7,aG,aG,o];congr 2;omega
 have f:vt a M=cJ a:=ms j1
 have g:vt b M=cJ b:=ms j1
 refine j0 (ao a) (j0 (ao b) (aa c (aa (fd (by simp only[inR];omega)) ?_)))
 refine cg (λi s=>s=[I ((M:Int)-1-i)]/\(cJ a<cJ b↔vt a (M-i)<vt b (M-i))) M 0 (zAa _) ⟨j3,by simp[f,g]⟩ (λi w s e=>?_) (λs e=>?_)
 ·obtain⟨rfl,d⟩:=e;obtain⟨k,hk⟩:∃ k,M-i=k+1:=⟨M-i-1,j1⟩
  rw[hk,vt,vt] at d;have m:(M:Int)-1-i=(k:Int):=j1
  rw[m];have la:=Fy p k;have lb:=Fy q k;have j:=Mw n a k;have l:=Mw n b k;by_cases hab:a.getD k 0=b.getD k 0
  ·left;refine⟨[I ((M:Int)-1-(i+1:Nat))],?_,rfl,?_⟩
   ·refine aa ik (aa ac (aY (by show(k:Int) ≥ 0;omega) (aa j (aa l (aa (z:=false) ?_ ?_)))))
    ·rw[hab,eK,zha rfl];rfl
    ·rw[zka j2]
     refine aa (fd (by simp only[inR];omega)) ?_
     congr 4;omega
   ·rw[d,hab,show M-(i+1)=k by omega];omega
  ·right;refine⟨(0,[.bool (decide (a.getD k 0<b.getD k 0))]),?_,?_⟩
   ·refine aa ik (aa ac (aY (by show(k:Int) ≥ 0;omega) (aa j (aa l (aa (z:=true) ?_ ?_)))))
    ·rw[eK,zea hab];rfl
    ·rw[zna rfl];refine aa j (aa l (aa ah ?_));simp
   ·rw[zna rfl];show some (D.bool (decide (a.getD k 0<b.getD k 0)))=_;congr 3;rw[eq_iff_iff,d];generalize a.getD k 0=u at *;generalize b.getD k 0=v at *;generalize 65536^k=B at *;constructor
    ·intro h;have:(u+1)*B<=v*B:=zKa _ h;rw[zob] at this;omega
    ·intro h;rcases zxa u v with h1|h1
     ·exact h1
     ·have:(v+1)*B<=u*B:=zKa _ j1
      rw[zob] at this;omega
 ·obtain⟨rfl,d⟩:=e;refine⟨(1,[]),?_,?_⟩
  ·exact aa ik (aa ac (be (by show ¬ ((M:Int)-1-(M:Nat)) ≥ 0;omega) rfl))
  ·rw[zka j2]
   have:¬ cJ a<cJ b:=by rw[d];simp[vt]
   rw[zea this]
def Zi(n:Nat){x y:Int}(hx:In x)(hy:In y):cA (n+3) 32 [ag x,ag y]=some (I (bg x y)):=by
 rw[u32]
 delta SN qG qT qN Jn
 have g:=jx 32 _ hx;have h:=jx 32 _ hy;have gx:=Pg n hx;have e:=Pg n hy;have a:=Tn n hx;have b:=Tn n hy;refine aa gx (aa bz (aa ac (j0 false (j0 false ?_))));rw[zka j2]
 refine aa gx (aa bz (j0 false ?_));rw[zka j2]
 refine aa e (aa bz (j0 false ?_));rw[zka j2]
 refine j0 (.bool (decide (x<0))) (j0 (.bool (decide (y<0))) ?_);have c:=Zm n (g8 x.natAbs) (g8 y.natAbs) j1 j1
 have d:=Zm n (g8 y.natAbs) (g8 x.natAbs) j1 j1
 simp only[fZ] at c d;have f:∀ p q:Bool,D.truth (.bool (!(D.beq (.bool p) (.bool q))))=some (!(p==q)):=λp q=>rfl;rw[f];refine aa rfl ?_;by_cases h1:x<0<;>by_cases h2:y<0
 ·rw[zha h1,zha h2,zka j2]
  refine aa a (aa b (aa (z:=(0,[.sl (ao (cG y.natAbs)),.sl (ao (cG x.natAbs))])) ?_ ?_))
  ·refine aa (z:=.bool true) (by rw[show D.get (ag x) [1]=some (.bool (decide (x<0))) from rfl,zha h1]) (j0 true ?_)
   rw[zna rfl];exact aa b (aa a rfl)
  ·refine aa d (aa c (aa ac ?_));by_cases h3:y.natAbs<x.natAbs
   ·refine aY h3 ?_;simp[bg,show x<y by omega]
   ·refine be h3 (aa ac ?_);by_cases h4:x.natAbs<y.natAbs
    ·refine aY h4 ?_;simp[bg,show ¬ x<y by omega,show y<x by omega]
    ·refine be h4 ?_;simp[bg,show ¬ x<y by omega,show ¬ y<x by omega]
 ·rw[zha h1,zea h2,zna j2]
  refine aa (z:=.bool true) (by rw[show D.get (ag x) [1]=some (.bool (decide (x<0))) from rfl,zha h1]) (j0 true ?_)
  simp[bg,show x<y by omega]
 ·rw[zea h1,zha h2,zna j2]
  refine aa (z:=.bool false) (by rw[show D.get (ag x) [1]=some (.bool (decide (x<0))) from rfl,zea h1]) (j0 false ?_)
  simp[bg,show ¬ x<y by omega,show y<x by omega]
 ·rw[zea h1,zea h2,zka j2]
  refine aa a (aa b (aa (z:=(0,[.sl (ao (cG x.natAbs)),.sl (ao (cG y.natAbs))])) ?_ ?_))
  ·refine aa (z:=.bool false) (by rw[show D.get (ag x) [1]=some (.bool (decide (x<0))) from rfl,zea h1]) (j0 false rfl)
  ·refine aa c (aa d (aa ac ?_));by_cases h3:x.natAbs<y.natAbs
   ·refine aY h3 ?_;simp[bg,show x<y by omega]
   ·refine be h3 (aa ac ?_);by_cases h4:y.natAbs<x.natAbs
    ·refine aY h4 ?_;simp[bg,show ¬ x<y by omega,show y<x by omega]
    ·refine be h4 ?_;simp[bg,show ¬ x<y by omega,show ¬ y<x by omega]
def Wd(x:Int):Prop:=x.natAbs<4611686018427387904
theorem Wd.inR{x:Int}(h:Wd x):inR x:=by unfold Wd at h;simp only[Sy.inR];omega
theorem Wd.In{x:Int}(h:Wd x):In x:=In.of h.inR
def WY(n:Nat){a b:Int}(g:Wd a)(c:b≠0)(h:b ∣ a):cA (n+1) 144 [I a,I b]=some (I (a/b)):=by
 rw[Yf]
 delta Ld qB qT Jn
 obtain⟨q,rfl⟩:=h;have d:(b*q).tdiv b=q:=zsd _ c;have e:b*q/b=q:=zlb _ c;have f:(b*q).tmod b=0:=Int.mul_tmod_right ..;have hq:Sy.inR q:=by
  have:q.natAbs<=(b*q).natAbs:=by rw[zNa];exact z2b _ j1
  unfold Wd at g;simp only[Sy.inR];omega
 rw[e];refine aa (ut c (by rw[d];exact hq)) (aa (z:=(0,[I q])) (aa (jY c) ?_) rfl)
 rw[d,f];exact j0 false (j0 false (aa ac rfl))
def Xn(n:Nat){a b:Int}(d:Wd a)(c:Wd b):cA (n+4) 85 [ag a,ag b]=some (ag (Nat.gcd a.natAbs b.natAbs:Nat)):=by
 rw[u85]
 delta Td qB qC qT qN qS qZ iL iR Jn
 refine aa (H0 n d) (j0 (I a) (j0 (.bool true) (aa (H0 n c) (j0 (I b) (j0 (.bool true) (j0 true (j0 true (j0 true ?_))))))));rw[zna rfl];obtain⟨r,h1,h2⟩:=Bq (body:=λ(v1:List D)=>
  (D.truth (D.bool (!(D.beq (gx v1 1) (D.int .i64 0))))).bind λf=>
  if f then((abG .rem (gx v1 0) (gx v1 1)).bind λg=>
  some (Sum.inl [(gx v1 1),g])) else(some (Sum.inr (0,[(gx v1 0)]))))
  (λa b c=>by simp only[g0,g1,bZ,ac,zba,c,decide_false,zTb,if_true,jY c])
  (λa=>by simp only[g0,g1,bZ,ac,zba,decide_true,zlc,zDa,if_false]) _ a b rfl
 refine zG h1 ?_;have h:Nat.gcd a.natAbs b.natAbs<=4611686018427387903:=by unfold Wd at d c;exact u5 j1 j1
 have e:Sy.inR r:=by simp only[Sy.inR];omega
 refine aa (H3 n e) (aa (WX n (In.of e)) ?_);rw[h2]
def c83(n:Nat){x:Int}(hx:In x):cA (n+3) 83 [ag x]=some (I (sg x)):=by
 rw[u83]
 delta Tc qG qT qN qS Jn
 refine aa (Pg n hx) (aa bz (j0 false (aa (z:=decide (x=0)) ?_ (aa ac ?_))))
 ·rw[zka j2]
  refine aa (Tn n hx) (j0 (ao (cG x.natAbs)) ?_);rw[ac,aG];show some (D.beq (I ((cG x.natAbs).length:Nat)) (I (0:Nat)))=_;rw[eK];congr 1;rw[decide_eq_decide,zVc,Bf];omega
 ·by_cases h0:x=0
  ·refine aY h0 ?_;subst h0;rfl
  ·refine be h0 (j0 (.bool (decide (x<0))) (aa ac ?_));by_cases h1:x<0
   ·refine aY h1 ?_;rw[Aj h1]
   ·refine be h1 ?_;rw[iU j1]
def Xo(n:Nat){a b:Int}(d:Wd a)(f:Wd b)(c:b≠0)(e:b ∣ a):cA (n+4) 87 [ag a,ag b]=some (ag (a/b)):=by
 rw[u87]
 delta Te qG qB qT qN qS Jn
 refine aa (H0 n d) (j0 (I a) (j0 (.bool true) (aa (H0 n f) (j0 (I b) (j0 (.bool true) (j0 true (j0 true (j0 true (aa (z:=true) ?_ (j0 true ?_))))))))))
 ·rw[zna rfl,bZ,zea c];rfl
 ·rw[zna rfl];have hq:Sy.inR (a/b):=by
   obtain⟨q,rfl⟩:=e;rw[zlb _ c];have:q.natAbs<=(b*q).natAbs:=by rw[zNa];exact z2b _ j1
   unfold Wd at d;simp only[Sy.inR];omega
  exact aa (WY (n+2) d c e) (aa (H3 n hq) rfl)
abbrev Tm(n:Nat):D:=.int .u64 (n:Int)
def dH{n:Int}(h:0<=n/\n<18446744073709551616):IntKind.wrap .u64 n=n:=by
 obtain⟨h1,h2⟩:=h;simp only[IntKind.wrap,IntKind.signed,IntKind.bits];first
  | omega
  | (simp;omega)
def O5(n:Nat){x:Int}(hx:Wd x):cA (n+4) 186 [ag x]=some (.tup [I x,.bool true]):=by
 rw[Ys]
 delta Ls qG qB qC qT qN Jn
 have a:x.natAbs<4611686018427387904:=hx;have i1:Sy.inR (-9223372036854775808):=⟨j2,j2⟩
 have i2:Sy.inR 9223372036854775807:=⟨j2,j2⟩
 refine aa (Pg (n+1) hx.In) (aa bz (j0 false ?_));rw[zka j2]
 refine aa (H3 n i1) (aa (H3 n i2) (aa (Zi n hx.In (In.of i1)) ?_));rw[show bg x (-9223372036854775808)=1 by unfold bg;rw[zka j1,zna j1]]
 refine aa (z:=.bool false) ah (j0 false (aa (z:=false) ?_ (j0 false ?_)))
 ·rw[zka j2]
  refine aa (Zi n hx.In (In.of i2)) ?_;rw[show bg x 9223372036854775807=-1 by unfold bg;rw[zna j1]]
  exact aa (z:=.bool false) fH rfl
 ·rw[zka j2]
  have b:=I1 x.natAbs;have l0:=OC x.natAbs;refine aa (dc (i:=1) j2) ?_
  rw[b];refine aa (z:=Tm (x.natAbs/4294967296%4294967296)) (by simp only[D.conv];rw[dH j1]) ?_
  refine aa (z:=Tm (x.natAbs/4294967296%4294967296*4294967296)) (by simp only[abG,if_true];rw[dH j1];simp) ?_
  refine aa (dc (i:=0) j2) ?_
  rw[l0];refine aa (z:=Tm (x.natAbs%4294967296)) (by simp only[D.conv];rw[dH j1]) ?_
  refine aa (z:=Tm x.natAbs) (by simp only[abG,if_true];rw[dH j1];congr 2;omega) ?_
  refine aa (z:=I (x.natAbs:Nat)) (by simp only[D.conv];rw[ia (by simp only[Sy.inR];omega)]) ?_
  refine aa (z:=(0,[I x])) (j0 (.bool (decide (x<0))) (aa ac ?_)) rfl;by_cases h:x<0
  ·refine aY h (aa (qE (by simp only[Sy.inR];omega)) ?_)
   congr 4;omega
  ·refine be h ?_;congr 4;omega
def W6(n:Nat){v:V}(e:bd 2305843009213693951 v):cA (n+1) 187 [af v]=some (.bool true):=by
 rw[Yt]
 delta Lt qB qC qT qJ qZ iL iR Jn
 have a:∀ x:Int,(-2305843009213693951<=x/\x<=2305843009213693951)->∀ (i:Nat) (d:i<3),D.get (af v) [i]=some (I x)->((D.idx (I (i:Int)) 3).bind λi4=>(D.get (af v) [i4]).bind λk=>(abG .geq k (D.int .i64 2305843009213693952)).bind λl=>(D.truth l).bind λj=>
  Option.bind (if j then(some true) else((D.idx (I (i:Int)) 3).bind λi8=>(D.get (af v) [i8]).bind λm=>(abG .leq m (D.int .i64 (-2305843009213693952))).bind λf=>D.truth f)) λb=>
  (D.truth (D.bool b)).bind λc=>if c then(some (Sum.inr (0,[(D.bool false)]))) else((abG .add (I (i:Int)) (D.int .i64 1)).bind λg=>some (Sum.inl [g])))=some (Sum.inl [I ((i+1:Nat):Int)]:Sum (List D) (Nat×List D)):=λx hx i d h=>by
  refine aa (aw d) (aa h (aa ik (aa ac (aa (z:=false) ?_ (j0 false ?_)))))
  ·refine be j1 (aa (aw d) (aa h (aa mJ ?_)))
   rw[ac,zea j1]
  ·rw[zka j2]
   exact aa (az (aU (i:=i) j1)) rfl
 refine cQ (s':=[I (1:Nat)]) (aa ah (aa ac (aY j2 (a v.x e.1 0 j2 rfl)))) (cQ (s':=[I (2:Nat)]) (aa ah (aa ac (aY j2 (a v.y e.2.1 1 j2 rfl)))) (cQ (s':=[I (3:Nat)]) (aa ah (aa ac (aY j2 (a v.z e.2.2 2 j2 rfl)))) (gv (r:=(1,[])) (aa ah (aa ac (be j2 rfl))) rfl)))
def gG(v:V):D:=.st [ag v.x,ag v.y,ag v.z]
def c80(n:Nat){v:V}(hx:inR v.x)(hy:inR v.y)(a:inR v.z):cA (n+4) 80 [af v]=some (gG v):=by
 rw[u80]
 delta S9 qG
 exact aa (oV v) (aa (H3 n hx) (aa (oW v) (aa (H3 n hy) (aa (oX v) (aa (H3 n a) rfl)))))
def Q9(n:Nat){v:V}(l:bd 2305843009213693951 v):cA (n+5) 155 [gG v]=some (.st [af (aF v),I (if v=V.zero then 31 else 0)]):=by
 rw[Yk]
 delta Li qG qB qC qT qN qJ qZ iL iR Jn
 have p:Wd v.x:=by have:=l.1;unfold Wd;omega
 have d:Wd v.y:=by have:=l.2.1;unfold Wd;omega
 have s:Wd v.z:=by have:=l.2.2;unfold Wd;omega
 have h0:Sy.inR 0:=⟨j2,j2⟩
 have w0:Wd 0:=by unfold Wd;decide
 have u:Nat.gcd v.x.natAbs v.y.natAbs<=4611686018427387903:=by unfold Wd at p d;exact u5 j1 j1
 have G:aW v<=4611686018427387903:=by
  unfold aW;have:=u5 (a:=(Nat.gcd v.x.natAbs v.y.natAbs:Nat)) (b:=v.z) (k:=4611686018427387903) (by simpa using u) (by unfold Wd at s;omega)
  simpa using this
 have q:Wd (v.x.natAbs:Nat):=by unfold Wd at *;omega
 have w1:Wd (Nat.gcd v.x.natAbs v.y.natAbs:Nat):=by unfold Wd;omega
 have m:Wd (aW v:Nat):=by unfold Wd;omega
 have e:=Xn n w0 p;have f:=Xn n q d;have g:=Xn n w1 s;rw[show(Nat.gcd (0:Int).natAbs v.x.natAbs)=v.x.natAbs by simp] at e
 rw[show(Nat.gcd ((v.x.natAbs:Nat):Int).natAbs v.y.natAbs)=Nat.gcd v.x.natAbs v.y.natAbs by simp] at f
 rw[show(Nat.gcd ((Nat.gcd v.x.natAbs v.y.natAbs:Nat):Int).natAbs v.z.natAbs)=aW v by simp[aW]] at g
 have fst:∀ {k:Nat×List D->Option D} {y:D},k (0,[ag (aW v:Nat)])=some y->(cA (n+4) 34 [(D.int .i64 0)]).bind (λr1=>Option.bind (bf (λ(v2:List D)=>
   (abG .lss (gx v2 0) (D.int .i64 3)).bind λB=>(D.truth B).bind λt=>
   if t then((D.idx (gx v2 0) 3).bind λi5=>(D.get (gG v) [i5]).bind λC=>(cA (n+4) 85 [(gx v2 1),C]).bind λw=>
   (abG .add (gx v2 0) (D.int .i64 1)).bind λE=>some (Sum.inl [E,w])) else(some (Sum.inr (0,[(gx v2 1)])))) [(D.int .i64 0),r1]) k)=some y:=by
  intro k y hk;refine aa (H3 (n+1) h0) ?_;refine cQ (s':=[I 1,ag (v.x.natAbs:Nat)]) (aa ah (aa ac (aY j2 (aa IU (j0 (ag v.x) (aa e (aa (az Ov) rfl))))))) ?_
  refine cQ (s':=[I 2,ag (Nat.gcd v.x.natAbs v.y.natAbs:Nat)]) (aa ah (aa ac (aY j2 (aa IV (j0 (ag v.y) (aa f (aa (az AI) rfl))))))) ?_
  refine cQ (s':=[I 3,ag (aW v:Nat)]) (aa ah (aa ac (aY j2 (aa IW (j0 (ag v.z) (aa g (aa (az Ow) rfl))))))) ?_
  exact gv (r:=(0,[ag (aW v:Nat)])) (aa ah (aa ac (be j2 rfl))) hk
 have i:=c83 (n+1) m.In;by_cases hz:aW v=0
 ·refine fst (j0 (.bool false) (j0 false ?_));rw[zka j2]
  refine aa i ?_;rw[hz];refine j0 true ?_;rw[zna rfl];have o:v=V.zero:=by
   by_cases h:v=V.zero
   ·exact h
   ·have:=fh h;omega
  rw[o];rfl
 ·have c:(aW v:Int)≠0:=j1
  rw[zka (λh=>hz (by rw[h];rfl))]
  refine fst (j0 (.bool false) (j0 false ?_));rw[zka j2]
  refine aa i ?_;rw[iU (show(0:Int)<aW v by omega)]
  refine j0 false ?_;rw[zka j2]
  have j:=fp l;have F:=Xo n p m c (xq v);have z2:=Xo n d m c (xr v);have z3:=Xo n s m c (xt v);have s1:=O5 n (x:=v.x/(aW v:Nat)) (by have:=j.1;unfold Wd;simp only[aF] at this;omega)
  have s2:=O5 n (x:=v.y/(aW v:Nat)) (by have:=j.2.1;unfold Wd;simp only[aF] at this;omega)
  have A:=O5 n (x:=v.z/(aW v:Nat)) (by have:=j.2.2;unfold Wd;simp only[aF] at this;omega)
  refine cQ (s':=[I 1,.st [af V.zero,I 0],.st [af ⟨v.x/(aW v:Nat),0,0⟩,I 0]]) ?_ (cQ (s':=[I 2,.st [af V.zero,I 0],.st [af ⟨v.x/(aW v:Nat),v.y/(aW v:Nat),0⟩,I 0]]) ?_ (cQ (s':=[I 3,.st [af V.zero,I 0],.st [af ⟨v.x/(aW v:Nat),v.y/(aW v:Nat),v.z/(aW v:Nat)⟩,I 0]]) ?_ (gv (r:=(1,[.st [af V.zero,I 0],.st [af (aF v),I 0]])) (aa ah (aa ac (be j2 rfl))) ?_)))
  ·refine aa ah (aa ac (aY j2 (aa IU (j0 (ag v.x) (aa F (aa s1 (j0 (I (v.x/(aW v:Nat))) (j0 (.bool true) (j0 (.bool false) (j0 false ?_))))))))))
   rw[zka j2]
   exact aa IU (j0 (.st [af ⟨v.x/(aW v:Nat),0,0⟩,I 0]) (aa (az Ov) rfl))
  ·refine aa ah (aa ac (aY j2 (aa IV (j0 (ag v.y) (aa z2 (aa s2 (j0 (I (v.y/(aW v:Nat))) (j0 (.bool true) (j0 (.bool false) (j0 false ?_))))))))))
   rw[zka j2]
   exact aa IV (j0 (.st [af ⟨v.x/(aW v:Nat),v.y/(aW v:Nat),0⟩,I 0]) (aa (az AI) rfl))
  ·refine aa ah (aa ac (aY j2 (aa IW (j0 (ag v.z) (aa z3 (aa A (j0 (I (v.z/(aW v:Nat))) (j0 (.bool true) (j0 (.bool false) (j0 false ?_))))))))))
   rw[zka j2]
   exact aa IW (j0 (.st [af ⟨v.x/(aW v:Nat),v.y/(aW v:Nat),v.z/(aW v:Nat)⟩,I 0]) (aa (az Ow) rfl))
  ·rw[zka (show ¬ (1:Nat)=0 by decide)]
   refine j0 (af (aF v)) (aa (W6 (n+3) (v:=aF v) ?_) (j0 (.bool false) (j0 false rfl)));simp only[bd] at j ⊢;omega
def W0(n:Nat){v:V}(a:bd 549755813888 v):∃ e:Int,cA (n+5) 155 [gG v]=some (.st [af (aF v),I e]):=
 ⟨_,Q9 n (by simp only[bd] at *;omega)⟩
def WN(n:Nat){a b c:V}(f:bd MV a)(g:bd MV b)(hc:bd MV c):cA (n+6) 106 [af a,af b,af c]=some (af (aF (V.cross (b.sub a) (c.sub a)))):=by
 rw[XJ]
 delta KA qG
 have h1:bd 524288 (b.sub a):=by have:=kq g f;simpa [MV] using this
 have h2:bd 524288 (c.sub a):=by have:=kq hc f;simpa [MV] using this
 have h3:=ju h1 h2;refine aa (FO (n+4) g f j2) (aa (FO (n+4) hc f j2) (aa (Q4 (n+4) h1 h2 j2) ?_))
 have d:bd 549755813888 (V.cross (b.sub a) (c.sub a)):=h3;generalize V.cross (b.sub a) (c.sub a)=m at *;obtain⟨e,he⟩:=W0 n d;refine aa (c80 (n+1) ?_ ?_ ?_) (aa he rfl)
 ·have:=d.1;simp only[Sy.inR];omega
 ·have:=d.2.1;simp only[Sy.inR];omega
 ·have:=d.2.2;simp only[Sy.inR];omega
def CP{a b:Nat}(h:a*b<=9223372036854775807):abG .mul (I (a:Int)) (I (b:Int))=some (I ((a*b:Nat):Int)):=by rw[ct (by simp only[inR];rw[<-z0a];omega),z0a]
def a8{a b:Nat}(h:a+b<=9223372036854775807):abG .add (I (a:Int)) (I (b:Int))=some (I ((a+b:Nat):Int)):=by rw[az (by simp only[inR];omega),zXc]
def NG(x y:Int):sgn (!(decide (decide (x<0)=decide (y<0)))) (x.natAbs*y.natAbs)=x*y:=by
 unfold sgn;rw[<-zNa];by_cases hx:x<0<;>by_cases hy:y<0
 ·have:=zPb hx hy;simp[hx,hy];omega
 ·have:=Int.mul_nonpos_of_nonpos_of_nonneg (zpa hx) (zQb.1 hy);simp[hx,hy];omega
 ·have:=Int.mul_nonpos_of_nonneg_of_nonpos (zQb.1 hx) (zpa hy);simp[hx,hy];omega
 ·have:=z8a (zQb.1 hx) (zQb.1 hy);simp[hx,hy];omega
end Sy
end
noncomputable section
open Go
def oH(n:Nat):Nat:=2^(32*n)
def dF(n:Nat):oH n=2^(32*n):=rfl
attribute [irreducible] oH
def dW:Nat:=oH 16
def gY:dW=oH 16:=rfl
attribute [irreducible] dW
def po{a b:Nat}(h:a<=b):oH a<=oH b:=by rw[dF,dF];exact zGa j1 j1
def yI:oH 2=18446744073709551616:=by rw[dF]
def GY(n:Nat):0<oH n:=by rw[dF];exact zwa _
def fW:0<dW:=gY ▸ GY 16
def Ao{n:Nat}(h:n<18446744073709551616):n<dW:=by rw[gY];rw[<-yI] at h;exact znb h (po j1)
def bE(X k:Nat):Int:=((X/2^(32*k)%2^32:Nat):Int)
def oQ(X k:Nat):bE X k<=4294967295:=by grind [bE]
def uM(X k:Nat):bE X k<4294967296:=by grind [bE]
def cM(X k:Nat):0<=bE X k:=by unfold bE;exact Int.natCast_nonneg _
def GF(a b:Nat)(h:a<=b):2^b=2^a*2^(b-a):=by rw[<-zub];congr 1;omega
theorem lQ(X k j:Nat):bE (X%2^(32*k)) j=if j<k then bE X j else 0:=by
 unfold bE;split
 ·rename_i h;congr 1;rw[GF (32*j) (32*k) j1,Nat.mod_mul_right_div_self,show 32*k-32*j=32+(32*k-32*j-32) from by omega,zub,Nat.mod_mul_right_mod]
 ·rename_i h;rw[zib]
  ·simp
  ·exact znb (z2a _ (zwa _)) (zGa j2 j1)
def zE(n:Nat):∀ (X Y:Nat),X<2^(32*n)->Y<2^(32*n)->(∀ k,k<n->bE X k=bE Y k)->X=Y:=by
 induction n with
 | zero=>intro X Y a b _;simp at a b;omega
 | succ n ih=>
  intro X Y a b h;have hs:∀ Z:Nat,Z=Z%2^(32*n)+2^(32*n)*(Z/2^(32*n)):=λZ=>by have:=Nat.mod_add_div Z (2^(32*n));omega
  have hm:X%2^(32*n)=Y%2^(32*n):=by refine ih _ _ (z2a _ (zwa _)) (z2a _ (zwa _)) λk hk=>?_;grind [lQ]
  have c:X/2^(32*n)=Y/2^(32*n):=by
   have h1:=h n j1
   unfold bE at h1;have e:∀ Z,Z<2^(32*(n+1))->Z/2^(32*n)<2^32:=λZ hZ=>by rw[zdb (zwa _),<-zub,show 32+32*n=32*(n+1) from by omega];exact hZ
   grind
  grind
def Gk{X Y:Nat}(a:X<dW)(b:Y<dW)(h:∀ k,k<16->bE X k=bE Y k):X=Y:=by rw[gY,dF] at a b;exact zE 16 X Y a b h
def wV(s V Z j:Nat):Int:=if j<s then bE V j else bE Z j
def xW(s V Z:Nat):wV s V Z s=bE Z s:=by unfold wV;rw[zka (Nat.lt_irrefl s)]
def fS(X Y k:Nat):Nat:=(X%2^(32*k)+Y%2^(32*k))/2^(32*k)
def nD(X Y k:Nat):fS X Y k<=1:=by
 unfold fS;have h:=zwa (32*k);have h1:=z2a X h;have h2:=z2a Y h;have:(X%2^(32*k)+Y%2^(32*k))/2^(32*k)<2:=(zdb h).2 j1
 omega
def sP(X Y:Nat):fS X Y 0=0:=by simp[fS,zdd]
theorem jN(X k:Nat):X=X%2^(32*k)+2^(32*k)*(X/2^(32*k)):=by have:=Nat.mod_add_div X (2^(32*k));omega
theorem dV(k:Nat):2^(32*(k+1))=2^(32*k)*4294967296:=h7
theorem fi(X k:Nat):X%2^(32*(k+1))=X%2^(32*k)+2^(32*k)*(X/2^(32*k)%4294967296):=by rw[dV,Nat.mod_mul]
def sO(X Y k:Nat):((fS X Y (k+1):Nat):Int)=((fS X Y k:Nat)+(bE X k+bE Y k))/4294967296:=by
 unfold fS bE;have hp:=zwa (32*k);rw[fi,fi,dV,<-z5a];generalize 2^(32*k)=p at *;have:(X%p+p*(X/p%4294967296)+(Y%p+p*(Y/p%4294967296)))/p=(X%p+Y%p)/p+(X/p%4294967296+Y/p%4294967296):=by rw[show X%p+p*(X/p%4294967296)+(Y%p+p*(Y/p%4294967296))=(X%p+Y%p)+p*(X/p%4294967296+Y/p%4294967296) from by rw[zxc];omega,zac _ _ hp]
 omega
def Ez(X Y k:Nat):bE (X+Y) k=((fS X Y k:Nat)+(bE X k+bE Y k))%4294967296:=by
 unfold fS bE;have hp:=zwa (32*k);have hx:=jN X k;have hy:=jN Y k;generalize 2^(32*k)=p at *;have:(X+Y)/p=(X%p+Y%p)/p+(X/p+Y/p):=by rw[show X+Y=(X%p+Y%p)+p*(X/p+Y/p) from by rw[zxc];omega,zac _ _ hp]
 omega
theorem B3:2^(32*16)=dW:=by rw[gY,dF 16]
def FT{X Y:Nat}(a:X<dW)(b:Y<dW):fS X Y 16=if X+Y<dW then 0 else 1:=by
 have h:=nD X Y 16;unfold fS at *;rw[B3,zUa a,zUa b] at *;split
 ·simp_all
 ·have:1<=(X+Y)/dW:=(z5c fW).2 j1
  omega
def ce(X Y k:Nat):Nat:=if X%2^(32*k)<Y%2^(32*k) then 1 else 0
def uz(X Y k:Nat):ce X Y k<=1:=by unfold ce;split<;>omega
def pH(X Y:Nat):ce X Y 0=0:=by simp[ce,zdd]
def pG(X Y k:Nat):((ce X Y (k+1):Nat):Int)=if bE X k-bE Y k-(ce X Y k:Nat)<0 then 1 else 0:=by
 unfold ce bE;have hp:=zwa (32*k);rw[fi,fi];have h1:=z2a X hp;have h2:=z2a Y hp;simp only[show(2:Nat)^32=4294967296 from rfl];generalize 2^(32*k)=p at *;generalize X/p%4294967296=a;generalize Y/p%4294967296=b;generalize X%p=x at *;generalize Y%p=y at *;rcases zpd a b with h|h|h
 ·have:p*a+p<=p*b:=by rw[<-zAd];exact zAb _ h
  grind
 ·grind
 ·have:p*b+p<=p*a:=by rw[<-zAd];exact zAb _ h
  grind
def EA{X Y:Nat}(h:Y<=X)(k:Nat):bE (X-Y) k=(bE X k-bE Y k-(ce X Y k:Nat))%4294967296:=by
 unfold ce bE;have hp:=zwa (32*k);have hx:=jN X k;have hy:=jN Y k;have h1:=z2a X hp;have h2:=z2a Y hp;simp only[show(2:Nat)^32=4294967296 from rfl];generalize 2^(32*k)=p at *;have hle:Y/p<=X/p:=Nat.div_le_div_right h;generalize hxq:X/p=a at *;generalize hyq:Y/p=b at *;generalize hxr:X%p=x at *;generalize hyr:Y%p=y at *;by_cases h3:x<y
 ·have c:b<a:=by
   all_goals grind
  have e:X-Y=(x+p-y)+p*(a-b-1):=by
   rw[hx,hy,Nat.mul_sub,Nat.mul_sub];have:p*b+p<=p*a:=by rw[<-zAd];exact zAb _ c
   omega
  rw[e,zac _ _ hp,zib j1,zna h3]
  omega
 ·have e:X-Y=(x-y)+p*(a-b):=by
   rw[hx,hy,Nat.mul_sub];have:p*b<=p*a:=zAb _ hle;omega
  rw[e,zac _ _ hp,zib j1,zka h3]
  omega
def tD(a b:Int)(c:Nat)(a0:0<=a)(a1:a<=4294967295)(d:0<=b)(f:b<=4294967295)(hc:c<=1) :
  IntKind.u64.wrap (IntKind.u64.wrap (a-b)-(c:Int))/9223372036854775808=(if a-b-(c:Int)<0 then 1 else 0) ∧
  IntKind.u64.wrap (IntKind.u64.wrap (a-b)-(c:Int))%4294967296=(a-b-(c:Int))%4294967296:=by
 have e:∀ n:Int,IntKind.u64.wrap n=n%18446744073709551616:=λn=>rfl;all_goals grind
def iS(X:Nat):Nat->Nat
 | 0=>0
 | k+1=>if 2^(32*k)<=X then k+1 else iS X k
def cX(X:Nat):Nat:=iS X 16
def Gx(X k:Nat):iS X k<=k:=by
 induction k with
 | zero=>exact zia _
 | succ k ih=>unfold iS;split<;>omega
def Ds(X k:Nat)(h:iS X k≠0):2^(32*(iS X k-1))<=X:=by
 induction k with
 | zero=>exact z3a rfl h
 | succ k ih=> all_goals grind [iS]
def BT(X k:Nat)(h:X<2^(32*k)):X<2^(32*iS X k):=by
 induction k with
 | zero=>exact h
 | succ k ih=> all_goals grind [iS]
def kZ(X:Nat):cX X<=16:=Gx X 16
def fj{X:Nat}(h:X<dW):X<2^(32*cX X):=BT X 16 (by rw[gY,dF] at h;exact h)
def pd{X:Nat}(h:cX X≠0):2^(32*(cX X-1))<=X:=Ds X 16 h
def zf{X k:Nat}(h:X<2^(32*(k+1))):bE X k=0↔X<2^(32*k):=by
 unfold bE;have hp:=zwa (32*k);have h2:X/2^(32*k)<2^32:=by rw[zdb hp,<-zub,show 32+32*k=32*(k+1) from by omega];exact h
 rw[zUa h2];constructor
 ·intro h3;have a:X/2^(32*k)=0:=j1
  all_goals simp_all
 ·simp_all [zib]
def sgn(a b:Nat):Int:=if a<b then -1 else if b<a then 1 else 0
def ku(X Y k:Nat):Prop:=X/2^(32*k)=Y/2^(32*k)
def Gc{X Y:Nat}(a:X<dW)(b:Y<dW):ku X Y 16:=by unfold ku;rw[gY,dF] at a b;omega
def nQ(X k:Nat):X/2^(32*k)=X/2^(32*(k+1))*4294967296+(X/2^(32*k))%4294967296:=by rw[dV,<-z5a];omega
def Bw{X Y k:Nat}(h:ku X Y (k+1))(a:bE X k=bE Y k):ku X Y k:=by unfold ku bE at *;rw[nQ X k,nQ Y k,h];omega
def Co{X Y k:Nat}(h:ku X Y (k+1))(b:bE X k≠bE Y k):sgn X Y=if bE X k<bE Y k then -1 else 1:=by
 unfold ku bE at *;have hx:=nQ X k;have hy:=nQ Y k;have hp:=zwa (32*k);have c:=jN X k;have d:=jN Y k;have h1:=z2a X hp;have h2:=z2a Y hp;simp only[show(2:Nat)^32=4294967296 from rfl] at b ⊢;generalize 2^(32*k)=p at *;unfold sgn;by_cases hlt:X/p<Y/p
 ·have:p*(X/p)+p<=p*(Y/p):=by rw[<-zAd];exact zAb _ hlt
  omega
 ·have a:Y/p<X/p:=j1
  have:p*(Y/p)+p<=p*(X/p):=by rw[<-zAd];exact zAb _ a
  omega
def GQ{X Y:Nat}(h:ku X Y 0):sgn X Y=0:=by simp_all [ku,sgn]
theorem eD(X k:Nat):bE X k=((X/2^(32*k)%4294967296:Nat):Int):=rfl
def gn{X n k:Nat}(h:X<2^(32*n))(hk:n<=k):bE X k=0:=by rw[eD,zib (znb h (zGa j1 j1))];rfl
def lO(X c s j:Nat)(h:j<s):bE (X+c*2^(32*s)) j=bE X j:=by
 rw[eD,eD];congr 1;rw[show 32*s=32*j+(32+32*(s-j-1)) from by omega,zub,zub,show c*(2^(32*j)*(2^32*2^(32*(s-j-1))))=2^(32*j)*(4294967296*(c*2^(32*(s-j-1)))) from by rw[show(2:Nat)^32=4294967296 from rfl];ac_rfl,zac _ _ (zwa _),Nat.add_mul_mod_self_left]
def iF(A B i:Nat):Nat:=A%2^(32*i)*B
def o9(A B i k:Nat):Nat:=iF A B i+(A/2^(32*i)%4294967296)*(B%2^(32*k))*2^(32*i)
def qj(A B i k:Nat):Nat:=o9 A B i k/2^(32*(i+k))-iF A B i/2^(32*(i+k))
def zN(A B i k:Nat):Nat->Int:=wV (i+k) (o9 A B i k) (iF A B i)
def yc(A B i:Nat):o9 A B i 0=iF A B i:=by simp[o9,zdd]
def xY(A B i:Nat):qj A B i 0=0:=by simp[qj,yc]
def Gs(A B i:Nat):zN A B i 0=bE (iF A B i):=by funext j;simp[zN,yc,wV]
def yb(A B i k:Nat):o9 A B i (k+1)=o9 A B i k+(A/2^(32*i)%4294967296)*(B/2^(32*k)%4294967296)*2^(32*(i+k)):=by
 unfold o9;rw[fi,show 32*(i+k)=32*i+32*k from by omega,zub,zxc,zob,zVb]
 grind
def Nk(A B i k:Nat):iF A B i<=o9 A B i k:=zwd _ _
def zL(A B i k:Nat):qj A B i k+iF A B i/2^(32*(i+k))=o9 A B i k/2^(32*(i+k)):=by unfold qj;have:=Nat.div_le_div_right (c:=2^(32*(i+k))) (Nk A B i k);omega
theorem BP(A B i k:Nat):o9 A B i (k+1)/2^(32*(i+k))=qj A B i k+iF A B i/2^(32*(i+k))+(A/2^(32*i)%4294967296)*(B/2^(32*k)%4294967296):=by rw[yb,z7c _ _ (zwa _),zL]
def vw(A B i k:Nat):qj A B i (k+1)=(qj A B i k+((A/2^(32*i)%4294967296)*(B/2^(32*k)%4294967296)+iF A B i/2^(32*(i+k))%4294967296))/4294967296:=by
 have h1:=zL A B i (k+1);have h2:=BP A B i k;have e:∀ X,X/2^(32*(i+(k+1)))=X/2^(32*(i+k))/4294967296:=λX=>by rw[show i+(k+1)=i+k+1 from by omega,dV,z5a]
 grind
def CX(a p q z c:Nat):(((a+(p*q+z))%c:Nat):Int)=((a:Int)+((p:Int)*q+z))%(c:Int):=by push_cast;rfl
def Gn(A B i k:Nat):((qj A B i (k+1):Nat):Int)=((qj A B i k:Nat)+(bE A i*bE B k+bE (iF A B i) (i+k)))/4294967296:=by simp_all [vw,eD]
def zM(A B i k:Nat):qj A B i k<=4294967295:=by
 induction k with
 | zero=>rw[xY];omega
 | succ k ih=>
  rw[vw];have h1:A/2^(32*i)%4294967296<=4294967295:=j1
  have h2:B/2^(32*k)%4294967296<=4294967295:=j1
  have h3:=z4a h1 h2;omega
def Gq(A B i k:Nat):zN A B i k (i+k)=bE (iF A B i) (i+k):=xW _ _ _
def Jf(A B i k:Nat):bE (o9 A B i (k+1)) (i+k)=((qj A B i k:Nat)+(bE A i*bE B k+bE (iF A B i) (i+k)))%4294967296:=by grind [eD,o9,BP]
def ye{A B i m:Nat}(a:B<2^(32*m)):iF A B (i+1)=o9 A B i m:=by grind [iF,o9,fi,Nat.mod_eq_of_lt,Nat.add_mul]
def EZ{A B i m:Nat}(a:B<2^(32*m)):iF A B i<2^(32*(i+m)):=by
 unfold iF;rw[show 32*(i+m)=32*i+32*m from by omega,zub]
 exact Nat.mul_lt_mul'' (z2a _ (zwa _)) a
def Gt(A B:Nat):iF A B 0=0:=by simp[iF,zdd]
def Ji{A B n:Nat}(a:A<2^(32*n)):iF A B n=A*B:=by unfold iF;rw[zUa a]
def mT(k:Nat):bE 0 k=0:=by simp[bE]
def lP(X a k:Nat):bE (X/2^(32*a)) k=bE X (a+k):=by simp_all [eD,z5a,zub,zxc]
def Be(X a k:Nat):bE (X/oH a) k=bE X (a+k):=by rw[dF,lP]
def Jd(a b D c:Nat):(a+b*D)%c=(a+b%c*D)%c:=by
 have h:b*D%c=b%c*D%c:=by simp_all
 simp_all [Nat.add_mod]
def iE(X D k:Nat):Nat:=X%2^(32*k)*D/2^(32*k)
def ya(X D:Nat):iE X D 0=0:=by simp[iE,zdd]
def zO(X k:Nat){D:Nat}(h:0<D):iE X D k<D:=by unfold iE;rw[zdb (zwa _),z9a D];exact zJb (z2a _ (zwa _)) h
def Dl(X D k:Nat):iE X D (k+1)=(iE X D k+X/2^(32*k)%4294967296*D)/4294967296:=by unfold iE;grind [fi,dV,Nat.div_div_eq_div_mul,Nat.add_mul,Nat.mul_assoc,Nat.add_mul_div_left]
def xZ(X D k:Nat):((iE X D (k+1):Nat):Int)=((iE X D k:Nat)+bE X k*(D:Nat))/4294967296:=by simp_all [zmc,Int.add_zero,Int.natCast_zero,Int.cast_ofNat_Int,Dl,eD]
def BO(X D k:Nat):bE (X*D) k=((iE X D k:Nat)+bE X k*(D:Nat))%4294967296:=by
 have h:=CX (iE X D k) (X/2^(32*k)%4294967296) D 0 4294967296;simp only[zmc,Int.add_zero,Int.natCast_zero,Int.cast_ofNat_Int] at h;rw[eD,eD];refine Eq.trans (zma Nat.cast ?_) h;have e:X*D/2^(32*k)=iE X D k+X/2^(32*k)*D:=by grind [iE,Nat.add_mul_div_left,Nat.two_pow_pos,Nat.mul_assoc,Nat.add_mul,jN]
 rw[e,Jd]
def Je{X D:Nat}(h:X<dW):iE X D 16=X*D/dW:=by grind [iE,B3,Nat.mod_eq_of_lt]
def It(X n k:Nat)(hn:n<=32):bE (X/2^n) k=(bE X (k+1)*4294967296+bE X k)/((2^n:Nat):Int)%4294967296:=by
 rw[eD,eD,eD,dV,<-z5a,z5a,z9a (2^n),<-z5a];generalize X/2^(32*k)=Y;have e:(((Y/4294967296%4294967296:Nat):Int)*4294967296+((Y%4294967296:Nat):Int))=((Y%(2^n*(2^(32-n)*4294967296)):Nat):Int):=by
  rw[<-zGb,<-zub,show n+(32-n)=32 from by omega,show(2:Nat)^32=4294967296 from rfl]
  omega
 rw[e,<-zyd,Nat.mod_mul_right_div_self];generalize Y/2^n=Z;have h:Z%4294967296=Z%(2^(32-n)*4294967296)%4294967296:=(Nat.mod_mul_left_mod _ _ _).symm;rw[h];exact Int.natCast_emod _ 4294967296
def xP(X k j:Nat):bE (X/2^(32*k)*2^(32*k)) j=if j<k then 0 else bE X j:=by
 have h:=lO 0 (X/2^(32*k)) k j;by_cases hj:j<k
 ·simp_all [zcb,mT]
 ·rw[zka hj,show j=k+(j-k) from by omega,<-lP,zid _ (zwa _),lP]
def gb(X b k:Nat):Nat:=X/2^(32*k)%b
def Cf(X k:Nat){b:Nat}(h:0<b):gb X b k<b:=z2a _ h
def uO(X k:Nat):X/2^(32*k)=X/2^(32*(k+1))*4294967296+X/2^(32*k)%4294967296:=by rw[dV,<-z5a];omega
def DF(X b k:Nat):gb X b k=(gb X b (k+1)*4294967296+X/2^(32*k)%4294967296)%b:=by
 unfold gb
 conv=>lhs;rw[uO X k]
 simp_all [zSc,Jd]
def GR(X k:Nat){b:Nat}(a:0<b)(h:b<=4294967295):X/b/2^(32*k)%4294967296=(gb X b (k+1)*4294967296+X/2^(32*k)%4294967296)/b:=by
 have e:X/b/2^(32*k)=X/2^(32*(k+1))/b*4294967296+(gb X b (k+1)*4294967296+X/2^(32*k)%4294967296)/b:=by
  rw[z5a,z9a,<-z5a]
  conv=>lhs;rw[uO X k]
  unfold gb;generalize X/2^(32*(k+1))=Y;generalize X/2^(32*k)%4294967296=z
  conv=>lhs;rw[show Y*4294967296+z=b*(Y/b*4294967296)+(Y%b*4294967296+z) from by
   have:=zsc Y b
   conv=>lhs;rw[<-this]
   rw[zob,zGb];omega]
  rw[Nat.mul_add_div a]
 have c:(gb X b (k+1)*4294967296+X/2^(32*k)%4294967296)/b<4294967296:=by rw[zdb a];have h1:=Cf X (k+1) a;omega
 simp_all
def GO(X b:Nat):gb X b 0=X%b:=by simp[gb]
structure Heads(W V P T F u v:Nat):Prop where
 w:W/P=T*4294967296+u
 d:V/P=F*4294967296+v
 u:u<4294967296
 v:v<4294967296
 one:1<=F
 pos:0<P
 lt:W<V*4294967296
variable{W V P T F u v:Nat}
def Heads.key{d r:Nat}(h:d*F+r=T):d*(F*4294967296+v)+r*4294967296=T*4294967296+d*v:=by grind
def Heads.vpos(H:Heads W V P T F u v):0<V:=by
 rcases zhc V with h|h
 ·have:=H.lt;rw[h] at this;omega
 ·exact h
def Heads.over(H:Heads W V P T F u v){d:Nat}(h:W/P<d*(V/P)):W/V<d:=by
 apply zHc;have h1:W<(W/P+1)*P:=by have:=zsc W P;have:=z2a W H.pos;rw[zob,z9a (W/P)];omega
 have h2:(W/P+1)*P<=d*(V/P)*P:=zKa _ h;have h3:d*(V/P)*P<=d*V:=by rw[zGb];exact zAb _ (zed V P)
 grind
def Heads.under(H:Heads W V P T F u v){d:Nat}(h:d*(V/P)<=W/P)(f:d<4294967296):d<=W/V+1:=by
 rcases zhc d with h0|h0
 ·simp_all
 obtain⟨e,rfl⟩:∃ e,d=e+1:=⟨d-1,j1⟩
 have c:e<=V/P:=by rw[H.d];have h1:1*4294967296<=F*4294967296:=zKa _ H.one;omega
 have:e<=W/V:=by
  rw[z5c H.vpos];have h1:V<=(V/P+1)*P:=by have:=zsc V P;have:=z2a V H.pos;rw[zob,z9a (V/P)];omega
  have h2:e*V<=e*((V/P+1)*P):=zAb _ h1;have h3:e*((V/P+1)*P)<=(e+1)*(V/P)*P:=by rw[<-zGb];apply zKa;rw[zxc,zob];omega
  have a:(e+1)*(V/P)*P<=W/P*P:=zKa _ h;have b:=zed W P;omega
 omega
def Heads.q_lt(H:Heads W V P T F u v):W/V<4294967296:=zHc (by have:=H.lt;omega)
def Heads.start(H:Heads W V P T F u v):W/V<=T/F:=by
 have h1:W/V<T/F+1:=by
  apply H.over;rw[H.w,H.d];have h2:T<(T/F+1)*F:=by have:=zsc T F;have:=z2a T (show 0<F from H.one);rw[zob,z9a (T/F)];omega
  have h3:(T+1)*4294967296<=(T/F+1)*F*4294967296:=zKa _ h2;have a:(T/F+1)*F*4294967296<=(T/F+1)*(F*4294967296+v):=h7
  have b:=H.u;omega
 omega
def Heads.step_big(H:Heads W V P T F u v){d:Nat}(h:4294967296<=d):W/V<=d-1:=Nat.le_sub_one_of_lt (znb H.q_lt h)
def Heads.step(H:Heads W V P T F u v){d r:Nat}(h:d*F+r=T)(ht:r*4294967296+u<d*v):W/V<=d-1/\1<=d:=by
 have h1:W/V<d:=by apply H.over;rw[H.w,H.d];grind
 grind
def Heads.t_lt(H:Heads W V P T F u v):T<(F+1)*4294967296:=by
 have h1:W/P*P<=W:=zed W P;have h2:V<(V/P+1)*P:=by have:=zsc V P;have:=z2a V H.pos;rw[zob,z9a (V/P)];omega
 have h3:V*4294967296<(V/P+1)*P*4294967296:=zJb h2 j1
 have c:=H.lt;have a:W/P*P<(V/P+1)*4294967296*P:=by rw[Nat.mul_right_comm];omega
 have b:W/P<(V/P+1)*4294967296:=Nat.lt_of_mul_lt_mul_right a;rw[H.w,H.d] at b;have e:=H.v;omega
def Heads.done(H:Heads W V P T F u v){d r:Nat}(h:d*F+r=T)(a:4294967296<=r\/(d<4294967296/\d*v<=r*4294967296+u)):d<4294967296/\d<=W/V+1:=by
 have b:d<4294967296:=by
  rcases a with a|a
  ·have h1:=H.t_lt;rw[zob,z0c] at h1;have h2:d*F<4294967296*F:=j1
   exact Nat.lt_of_mul_lt_mul_right h2
  ·exact a.1
 refine⟨b,H.under ?_ b⟩;rw[H.w,H.d];have hk:=Heads.key (v:=v) h;rcases a with a|a
 ·have h1:d*v<=4294967295*4294967295:=z4a j1 (by have:=H.v;omega)
  omega
 ·omega
def dg(X k:Nat):Nat:=X/2^(32*k)%4294967296
def rD(X k:Nat):bE X k=(dg X k:Nat):=rfl
def fY(X k:Nat):dg X k<4294967296:=z2a _ j1
def Ey(X k:Nat):dg X k<=4294967295:=Nat.le_of_lt_succ (fY X k)
def pN(X k:Nat):X/2^(32*k)=X/2^(32*(k+1))*4294967296+dg X k:=uO X k
def kN{X k:Nat}(h:X<2^(32*(k+1))):X/2^(32*k)=dg X k:=by rw[pN,zib h,Nat.zero_mul,zcb]
def IK{U V e j:Nat}(b:V<2^(32*(e+2)))(c:2^(32*(e+1))<=V)(d:U/2^(32*j)<V*4294967296) :
  Heads (U/2^(32*j)) V (2^(32*e)) (dg U (j+e+2)*4294967296+dg U (j+e+1)) (dg V (e+1)) (dg U (j+e)) (dg V e):=by
 have hc:∀ k,U/2^(32*j)/2^(32*k)=U/2^(32*(j+k)):=λk=>by rw[z5a,<-zub,zxc]
 have a:U<2^(32*(j+e+2+1)):=by
  have h1:=(zdb (zwa (32*j))).1 d;have h2:V*4294967296*2^(32*j)<2^(32*(e+2))*4294967296*2^(32*j):=zJb (zJb b j1) (zwa _)
  grind
 refine⟨?_,?_,fY _ _,fY _ _,?_,zwa _,d⟩
 ·rw[hc,pN,pN U (j+e+1),kN a]
 ·rw[pN,kN b]
 ·rw[<-kN b];exact(z5c (zwa _)).2 (by rw[z0c];exact c)
def Qe(U i k:Nat):dg U i*4294967296+dg U k<=18446744073709551615:=by have h1:=Ey U i;have h2:=Ey U k;omega
def Da{T F D R:Nat}(h:D*F+R=T)(a:1<=D):(D-1)*F+(R+F)=T:=by
 obtain⟨E,rfl⟩:∃ E,D=E+1:=⟨D-1,j1⟩
 grind
def wM{X X' Y k:Nat}(h:X%2^(32*k)=X'%2^(32*k)):ce X Y k=ce X' Y k:=by unfold ce;rw[h]
def fK(U Z j:Nat):Nat:=U%2^(32*j)+Z*2^(32*j)
def GA{U Z j t:Nat}(h:t<j):bE (fK U Z j) t=bE U t:=by simp_all [fK,lO,lQ]
def Du(U Z j i:Nat):bE (fK U Z j) (j+i)=bE Z i:=by
 rw[<-lP];unfold fK
 simp_all [z7c,zwa,zib,z2a,zcb]
def wZ(U Z j i:Nat):Nat->Int:=wV (j+i) (fK U Z j) U
def yE(U Z j:Nat):wZ U Z j 0=bE U:=by
 funext t;unfold wZ wV;split
 ·rename_i h;exact GA j1
 ·rfl
def n8(U Z j i:Nat):wZ U Z j i (j+i)=bE U (j+i):=xW _ _ _
def nA(W Y m:Nat):Nat:=(W+2^(32*m)-Y)%2^(32*m)
def G7{W Y m i:Nat}(a:i<m)(d:Y<=2^(32*m)):bE (nA W Y m) i=(bE W i-bE Y i-(ce W Y i:Nat))%4294967296:=by
 have c:bE (W+2^(32*m)) i=bE W i:=by have:=lO W 1 m i a;rwa [z0c] at this
 have b:ce (W+2^(32*m)) Y i=ce W Y i:=wM (by rw[show 32*m=32*i+(32*m-32*i) from by omega,zub,Nat.add_mul_mod_self_left])
 unfold nA;rw[lQ,zna a,EA j1,c,b]
def Kl(W Y m:Nat):nA W Y m<2^(32*m):=z2a _ (zwa _)
def AU{W Y m:Nat}(a:W<2^(32*m))(b:Y<2^(32*m)):ce W Y m=if W<Y then 1 else 0:=by simp_all [ce,zUa]
def eZ(N V j:Nat):Nat:=N/V%2^(32*j)*V+N%V
def GN(N V:Nat):eZ N V 0=N%V:=by simp[eZ,zdd]
def DD{N V k:Nat}(h:N/V<2^(32*k)):eZ N V k=N:=by unfold eZ;rw[zUa h,z9a];exact zsc N V
def yu(N V j:Nat):eZ N V (j+1)=eZ N V j+dg (N/V) j*V*2^(32*j):=by unfold eZ dg;rw[fi];grind
def Ac{N V:Nat}(j:Nat)(h:0<V):eZ N V j<V*2^(32*j):=by unfold eZ;have h1:=z2a (N/V) (zwa (32*j));have h2:=z2a N h;have h3:(N/V%2^(32*j)+1)*V<=2^(32*j)*V:=zKa _ h1;grind
def qs{N V:Nat}(j:Nat)(h:0<V):eZ N V j/2^(32*j)<V:=by rw[zdb (zwa _)];exact Ac j h
def si(N V j:Nat):eZ N V (j+1)/2^(32*j)=eZ N V j/2^(32*j)+V*dg (N/V) j:=by rw[yu,z7c _ _ (zwa _),z9a V]
def Ce(N V j:Nat):eZ N V (j+1)%2^(32*j)=eZ N V j%2^(32*j):=by rw[yu,Nat.add_mul_mod_self_right]
def JJ{N V:Nat}(j:Nat)(h:0<V):eZ N V (j+1)/2^(32*j)/V=dg (N/V) j:=by simp_all [si,zac,zib,qs,zcb]
def JK{N V:Nat}(j:Nat)(h:0<V):eZ N V (j+1)/2^(32*j)<V*4294967296:=by rw[zdb (zwa _),zGb,z9a 4294967296,<-dV];exact Ac (j+1) h
def GM{N V n:Nat}(j:Nat)(h:0<V)(a:V<2^(32*n)):eZ N V (j+1)<2^(32*(j+n+1)):=by have h1:=Ac (N:=N) (j+1) h;have h2:V*2^(32*(j+1))<2^(32*n)*2^(32*(j+1)):=zJb a (zwa _);grind
def ym{U U' j:Nat}(h:U%2^(32*j)=U'%2^(32*j)):fK U (U'/2^(32*j)) j=U':=by unfold fK;rw[h,z9a (U'/2^(32*j)) (2^(32*j))];exact Nat.mod_add_div U' _
def GB(U Z j:Nat):fK U Z j%2^(32*j)=U%2^(32*j):=by unfold fK;rw[Nat.add_mul_mod_self_right,Nat.mod_mod]
def Gz(U Z j:Nat):fK U Z j/2^(32*j)=Z:=by simp_all [fK,z7c,zwa,zib,z2a,zcb]
def BZ{U Z j m:Nat}(hZ:Z<2^(32*m)):fK U Z j<2^(32*(j+m)):=by
 have h1:fK U Z j<(Z+1)*2^(32*j):=by unfold fK;have:=z2a U (zwa (32*j));rw[zob];omega
 have h2:(Z+1)*2^(32*j)<=2^(32*m)*2^(32*j):=zKa _ hZ;grind
variable{N V n:Nat}
def oO(a:V<2^(32*n)):V<2^(32*(n+1)):=znb a (zGa j1 j1)
def AB{x y B:Nat}(hx:x<B):(x+y+B-y)%B=x:=by rw[show x+y+B-y=x+B from by omega,Nat.add_mod_right,zUa hx]
def Ch(j:Nat)(h:0<V)(a:V<2^(32*n)) :
  fK (eZ N V (j+1)) (nA (eZ N V (j+1)/2^(32*j)) (V*dg (N/V) j) (n+1)) j=eZ N V j:=by
 have e:nA (eZ N V (j+1)/2^(32*j)) (V*dg (N/V) j) (n+1)=eZ N V j/2^(32*j):=by unfold nA;rw[si];exact AB (zvc (qs j h) (oO a))
 rw[e,ym (Ce N V j)]
def G8(j:Nat)(h:0<V)(a:V<2^(32*n)) :
  nA (eZ N V (j+1)/2^(32*j)) (V*(dg (N/V) j+1)) (n+1)=eZ N V j/2^(32*j)+2^(32*(n+1))-V:=by
 have h1:=qs (N:=N) j h;have h2:=oO a;unfold nA;rw[si,zxc V (dg (N/V) j) 1,zcd];generalize 2^(32*(n+1))=B at *;generalize eZ N V j/2^(32*j)=x at *;generalize V*dg (N/V) j=y;rw[show x+y+B-(y+V)=x+B-V from by omega,zUa j1]
def Ci(j:Nat)(h:0<V)(b:V<2^(32*n)){U1:Nat}(a:U1=fK (eZ N V (j+1)) (nA (eZ N V (j+1)/2^(32*j)) (V*(dg (N/V) j+1)) (n+1)) j) :
  fK U1 ((U1/2^(32*j)+V)%2^(32*(n+1))) j=eZ N V j:=by
 have h1:=qs (N:=N) j h;have h2:=oO b;have c:(U1/2^(32*j)+V)%2^(32*(n+1))=eZ N V j/2^(32*j):=by rw[a,Gz,G8 j h b];generalize 2^(32*(n+1))=B at *;generalize eZ N V j/2^(32*j)=x at *;rw[show x+B-V+V=x+B from by omega,Nat.add_mod_right,zUa j1]
 rw[c,ym (by rw[a,GB,Ce])]
end
noncomputable section
namespace Sy
open Go Go.Proofs Geo
def cR(n:Nat)(f:Nat->Int):D:=.st ((List.range n).map λi=>.int .u32 (f i))
abbrev LM(X:Nat):D:=cR 16 (bE X)
def bu{n i:Nat}(f:Nat->Int)(h:i<n):D.get (cR n f) [i]=some (.int .u32 (f i)):=by simp[cR,D.get,D.fld,h]
def dG{n:Nat}{f g:Nat->Int}(h:∀ i,i<n->f i=g i):cR n f=cR n g:=by simp_all [cR,zWa.1]
def oc{n i:Nat}{f g:Nat->Int}{v:Int}(h:i<n)(a:∀ j,j<n->g j=if j=i then v else f j):D.set (cR n f) [i] (.int .u32 v)=some (cR n g):=by
 have e:((List.range n).map λi=>D.int .u32 (f i))[i]?=some (.int .u32 (f i)):=by simp[h]
 simp only[cR,D.set,e,zba];congr 2;apply zuc;all_goals grind
theorem ux(f g:Nat->Int):∀ l:List Nat,D.beqs (l.map λi=>D.int .u32 (f i)) (l.map λi=>D.int .u32 (g i))=l.all λi=>decide (f i=g i)
 | []=>rfl
 | i::l=>by simp only[zab,D.beqs,D.beq,zXb,ux f g l];simp
def NU(n:Nat)(f g:Nat->Int):D.beq (cR n f) (cR n g)=decide (∀ i,i<n->f i=g i):=by simp only[cR,D.beq,ux];grind
def mI{X Y:Nat}(a:X<dW)(b:Y<dW):D.beq (LM X) (LM Y)=decide (X=Y):=by
 rw[NU,decide_eq_decide];constructor
 ·exact Gk a b
 ·simp_all
def iY:D.st (abS (List.replicate 16 (D.int .u32 0)) [])=LM 0:=by have:LM 0=cR 16 (λ_=>0):=dG λi _=>mT i;rw[this];rfl
def ij:aq aP=LM 0:=by have:LM 0=cR 16 (λ_=>0):=dG λi _=>mT i;rw[this];rfl
def PY(i:Nat):2^(32*i)=4294967296^i:=by rw[Nat.pow_mul]
def Gj(m:Nat):eI (cG m)=LM m:=by simp_all [eI,LM,cR,jp,bE,PY]
def cE(x:Int):ag x=.st [.bool false,.bool (decide (x<0)),LM x.natAbs]:=by unfold ag;rw[Gj]
def Dz(a b c:Nat)(h:a*b=c):((2:Nat)^a)^b=2^c:=by rw[<-Nat.pow_mul,h]
def GZ:(65536:Nat)^32=dW:=(Dz 16 32 (32*16) rfl).trans ((dF 16).symm.trans gY.symm)
def under(X k:Nat):Prop:=X<2^(32*k)
def Dh{X k:Nat}(hk:k=16)(h:X<dW):under X k:=by subst hk;unfold under;rw[B3];exact h
def DW{X k:Nat}(hk:k<=16)(h:X<2^(32*k)):X<dW:=by rw[<-dF] at h;rw[gY];exact znb h (po hk)
def aO{x:Int}:In x↔x.natAbs<dW:=by unfold In;rw[GZ]
def uw:D:=.st [.bool true,.bool false,LM 0]
def fg:Option Int->D
 | some x=>ag x
 | none=>uw
def wI(a:Option Int):Prop:=∀ x,a=some x->In x
def fB(x:Int):Option Int:=if x.natAbs<dW then some x else none
def ma{x:Int}(h:In x):fB x=some x:=by unfold fB;rw[zna (aO.1 h)]
def ql(x:Int):wI (fB x):=λy h=>by
 unfold fB at h;split at h
 ·cases h;exact aO.2 (by assumption)
 ·cases h
theorem wI.some{x:Int}(h:wI (some x)):In x:=h x rfl
def aV{x:Int}(h:In x):wI (some x):=λy e=>by cases e;exact h
abbrev W(n:Int):D:=.int .u64 n
def Kg{k:IntKind}{a:Int}(h0:0<=a)(h:a<18446744073709551616):D.conv .u64 (.int k a)=some (W a):=by simp only[D.conv,dH ⟨h0,h⟩]
def ww{a b:Int}(h0:0<=a+b)(h:a+b<18446744073709551616):abG .add (W a) (W b)=some (W (a+b)):=by simp only[abG,if_true,dH ⟨h0,h⟩]
def wC(a b:Int):abG .sub (W a) (W b)=some (W (IntKind.u64.wrap (a-b))):=by simp only[abG,if_true]
def OJ{a b:Int}(h0:0<=a*b)(h:a*b<18446744073709551616):abG .mul (W a) (W b)=some (W (a*b)):=by simp only[abG,if_true,dH ⟨h0,h⟩]
def iX(a:Int):D.conv .u32 (W a)=some (.int .u32 (a%4294967296)):=by simp only[D.conv];rfl
def wA{a:Int}(h:0<=a):abG .shr (W a) (.int .u64 32)=some (W (a/4294967296)):=by simp only[abG];rw[zka j2,zGc _ j2];rfl
def Az{a:Int}:abG .shr (W a) (.int .u64 63)=some (W (a/9223372036854775808)):=by simp only[abG];rw[zka j2,zGc _ j2];rfl
def fD{i n:Nat}(h:i<n):D.idx (I (i:Int)) n=some i:=aw h
def fr(X k:Nat):D.conv .u64 (.int .u32 (bE X k))=some (W (bE X k)):=Kg (cM X k) (by have:=uM X k;omega)
def tQ{Z k:Nat}(hk:k<16):D.set (LM (Z%2^(32*k))) [k] (.int .u32 (bE Z k))=some (LM (Z%2^(32*(k+1)))):=
 oc hk λj a=>by rw[lQ,lQ];all_goals grind
def tR(Z:Nat):LM (Z%2^(32*0))=LM 0:=by simp[zdd]
def Mg(Z k:Nat)(hk:k=16):LM (Z%2^(32*k))=LM Z:=dG λj a=>by rw[lQ,zna j1]
def pE(Z:Nat):LM (Z%2^(32*16))=LM Z:=Mg Z 16 rfl
def Rb(n:Nat){a:Option Int}(b:wI a):cA (n+1) 167 [fg a]=some (.bool true):=by
 rw[Yn]
 delta Ll qG qT qN
 cases a with
 | none=> refine j0 (LM 0) (j0 (.bool true) (j0 true ?_));rw[zna rfl,iY,mI fW fW,zha rfl];rfl
 | some x=>
  have hx:=aO.1 b.some;simp only[fg,cE];refine j0 (LM x.natAbs) (j0 (.bool false) (j0 false ?_));rw[zka j2,iY,mI hx fW]
  refine aa bz (aa ac ?_);by_cases h:x.natAbs=0
  ·rw[zha h];have:decide (x<0)=false:=zea j1
   rw[this];rfl
  ·simp_all
def Q3(n:Nat){l:List (Option Int)}(hl:l.length<=1000)(h:∀ a∈l,wI a):cA (n+2) 118 [.sl (l.map fg)]=some (.bool (l.all Option.isSome)):=by
 rw[XT]
 delta KK qG qB qC qT qS qX qZ iL iR Jn
 refine j0 (l.map fg) ?_;refine cg (λi s=>s=[I (i:Int)]/\(l.take i).all Option.isSome=true) l.length 0 (zAa _) ⟨rfl,rfl⟩ (λi f s e=>?_) (λs e=>?_)
 ·obtain⟨rfl,ht⟩:=e;have g:(l.map fg)[i]?=some (fg l[i]):=by simp[f]
  have d:abG .lss (I (i:Int)) (D.int .i64 (l.map fg).length)=some (.bool true):=by simp_all [ah,zha,zya]
  have c:D.idx (I (i:Int)) (l.map fg).length=some i:=aw (by rw[zya];exact f)
  have b:=h l[i] (zFa f);cases ha:l[i] with
  | none=>
   right;refine⟨(0,[.bool false]),?_,?_⟩
   ·refine aa d (j0 true ?_);rw[zna rfl];refine j0 (l.map fg) (aa c (aa g ?_));rw[ha];exact j0 (.bool true) (j0 true (j0 true (j0 true rfl)))
   ·grind
  | some x=>
   left;refine⟨[I ((i+1:Nat):Int)],?_,rfl,?_⟩
   ·refine aa d (j0 true ?_);rw[zna rfl];refine j0 (l.map fg) (aa c (aa g ?_));rw[ha] at b ⊢;refine j0 (.bool false) (j0 false (aa (z:=false) ?_ (j0 false ?_)))
    ·rw[zka j2];exact aa (Rb n b) rfl
    ·rw[zka j2];exact aa (az (aU (i:=i) j1)) rfl
   ·simp_all [zkb,zgd]
 ·obtain⟨rfl,ht⟩:=e;rw[zOb] at ht;refine⟨(1,[]),?_,?_⟩
  ·have d:abG .lss (I (l.length:Int)) (D.int .i64 (l.map fg).length)=some (.bool false):=by
    simp_all [ah,zea,zya]
   exact aa d (j0 false rfl)
  ·rw[ht];rfl
def mO(n:Nat){a:Option Int}(c:wI a):cA (n+2) 118 [.sl [fg a]]=some (.bool a.isSome):=by
 have:=Q3 n (l:=[a]) j3 (λb d=>by rw[zLa.1 d];exact c)
 simpa using this
def rn(n:Nat){a b:Option Int}(d:wI a)(e:wI b):cA (n+2) 118 [.sl [fg a,fg b]]=some (.bool (a.isSome&&b.isSome)):=by
 have:=Q3 n (l:=[a,b]) j3 (λc hc=>by
  simp only[zEa,zcc,or_false] at hc;rcases hc with rfl|rfl
  ·exact d
  ·exact e)
 simp_all
def yX(n:Nat):cA (n+1) 119 []=some uw:=by rw[XU];unfold KL;rw[ij];rfl
def tw(neg:Bool)(m:Nat):decide (sgn neg m<0)=(neg&&!(decide (m=0))):=by grind [sgn]
def Ak(neg:Bool)(m:Nat):(sgn neg m).natAbs=m:=by unfold sgn;cases neg<;>simp
def tI(n:Nat)(neg:Bool){m:Nat}(h:m<dW):cA (n+1) 116 [.bool neg,LM m]=some (ag (sgn neg m)):=by
 rw[XR]
 delta KI qT
 rw[iY,mI h fW,cE,tw,Ak];refine j0 neg (aa (z:=neg&&!(decide (m=0))) ?_ rfl);cases neg<;>rfl
def WS(n:Nat){X Y:Nat}(b:X<dW)(c:Y<dW):cA (n+1) 120 [LM X,LM Y]=some (.tup [LM (X+Y),.bool (decide (X+Y<dW))]):=by
 rw[XV]
 delta KM qB qC qJ qZ iL iR Jn
 rw[ij];refine cg (λk s=>s=[W (fS X Y k:Nat),I (k:Int),LM ((X+Y)%2^(32*k))]) 16 0 (zAa _) (by rw[sP,tR];rfl) (λk hk s a=>?_) (λs a=>?_)
 ·subst a;left;refine⟨_,?_,rfl⟩;have hc:=nD X Y k;have d:=cM X k;have e:=uM X k;have f:=cM Y k;have g:=uM Y k;refine aa ah (aa ac (aY (by show(k:Int)<16;omega) ?_))
  refine aa (fD hk) (aa (bu _ hk) (aa (fr X k) (aa (fD hk) (aa (bu _ hk) (aa (fr Y k) ?_)))));refine aa (ww j1 j1) (aa (ww j1 j1) (aa (iX _) (aa (fD hk) ?_)))
  rw[<-Ez];refine aa (tQ hk) (aa (wA j1) ?_)
  rw[<-sO];exact aa (az (aU (i:=k) j1)) rfl
 ·subst a;refine⟨_,aa ah (aa ac (be j2 rfl)),?_⟩
  rw[pE,FT b c];by_cases h:X+Y<dW
  ·rw[zna h,zha h];rfl
  ·rw[zka h,zea h];rfl
def Rd(n:Nat)(a:Int):cA (n+1) 194 [.int .u32 a]=some (.bool false):=by rw[Yv];simp[Lv,D.beq]
def W3(n:Nat)(a b:Int):cA (n+2) 168 [.int .u32 a,.int .u32 b]=some (I (bg a b)):=by
 rw[Yo]
 delta Lm qC qT Jn
 refine aa (Rd n a) (aa (Rd n b) (j0 false ?_));rw[zka j2]
 refine j0 false ?_;rw[zka j2]
 refine aa (z:=.bool (decide (a<b))) (by simp only[abG,if_true]) (aa ac ?_)
 unfold bg;by_cases h:a<b
 ·simp_all
 ·rw[zka h];refine be h (aa (z:=.bool (decide (a>b))) (by simp only[abG,if_true]) (aa ac ?_))
  all_goals grind
def Mv(n:Nat){X Y:Nat}(f:X<dW)(g:Y<dW):cA (n+3) 121 [LM X,LM Y]=some (I (bg X Y)):=by
 rw[XW]
 delta KN qB qC qT qJ qZ iL iR Jn
 refine cg (λt s=>s=[I (15-(t:Int))]/\ku X Y (16-t)) 16 0 (zAa _) ⟨rfl,Gc f g⟩ (λt ht s c=>?_) (λs c=>?_)
 ·obtain⟨rfl,he⟩:=c;obtain⟨k,hk⟩:∃ k,k=15-t:=⟨_,rfl⟩;have a:k<16:=j1
  have e:(15-(t:Int))=(k:Int):=j1
  rw[show 16-t=k+1 by omega] at he
  rw[e];have b:D.idx (I (k:Int)) 16=some k:=fD a;have d:abG .geq (I (k:Int)) (D.int .i64 0)=some (.bool true):=by rw[ik,zha j1]
  by_cases hd:bE X k=bE Y k
  ·left;refine⟨[I ((k:Int)-1)],?_,?_,?_⟩
   ·refine aa d (j0 true ?_);rw[zna rfl];refine aa b (aa (bu _ a) (aa b (aa (bu _ a) (aa (z:=false) ?_ ?_))))
    ·rw[hd];simp[D.beq,D.truth]
    ·rw[zka j2];exact aa (fd (by simp only[inR];omega)) rfl
   ·grind
   ·rw[show 16-(t+1)=k by omega];exact Bw he hd
  ·right;refine⟨(0,[I (bg (bE X k) (bE Y k))]),?_,?_⟩
   ·refine aa d (j0 true ?_);rw[zna rfl];refine aa b (aa (bu _ a) (aa b (aa (bu _ a) (aa (z:=true) ?_ ?_))))
    ·simp[D.beq,D.truth,hd]
    ·rw[zna rfl];exact aa b (aa (bu _ a) (aa b (aa (bu _ a) (aa (W3 n _ _) rfl))))
   ·have hs:=Co he hd;rw[zna rfl];show some (I (bg (bE X k) (bE Y k)))=_;congr 2;unfold Go.Proofs.YtphlmegkommlnaaGreatDoor.sgn at hs;unfold bg;repeat' split at hs
    all_goals (repeat' split)<;>omega
 ·obtain⟨rfl,he⟩:=c;refine⟨(1,[]),aa ik (aa ac (be j2 rfl)),?_⟩
  rw[zka j2]
  have hs:=GQ he;congr 2;unfold Go.Proofs.YtphlmegkommlnaaGreatDoor.sgn at hs;unfold bg;repeat' split at hs
  all_goals (repeat' split)<;>omega
def O2(n:Nat){X Y:Nat}(d:X<dW)(h:Y<=X):cA (n+1) 122 [LM X,LM Y]=some (LM (X-Y)):=by
 rw[XX]
 delta KO qB qC qJ qZ iL iR Jn
 rw[ij];refine cg (λk s=>s=[W (ce X Y k:Nat),I (k:Int),LM ((X-Y)%2^(32*k))]) 16 0 (zAa _) (by rw[pH,tR];rfl) (λk hk s a=>?_) (λs a=>?_)
 ·subst a;left;refine⟨_,?_,rfl⟩;have hc:=uz X Y k;obtain⟨b,c⟩:=tD (bE X k) (bE Y k) (ce X Y k) (cM X k) (oQ X k) (cM Y k) (oQ Y k) hc;refine aa ah (aa ac (aY (by show(k:Int)<16;omega) ?_))
  refine aa (fD hk) (aa (bu _ hk) (aa (fr X k) (aa (fD hk) (aa (bu _ hk) (aa (fr Y k) ?_)))));refine aa (wC _ _) (aa (wC _ _) (aa (iX _) (aa (fD hk) ?_)));rw[c,<-EA h];refine aa (tQ hk) (aa Az ?_);rw[b,<-pG];exact aa (az (aU (i:=k) j1)) rfl
 ·subst a;refine⟨_,aa ah (aa ac (be j2 rfl)),?_⟩
  rw[pE];rfl
def CU(n:Nat){X:Nat}(f:X<dW):cA (n+1) 127 [LM X]=some (I (cX X:Nat)):=by
 rw[XZ]
 delta KQ qB qC qT qJ qZ iL iR Jn
 refine cg (λt s=>s=[I ((16-t:Nat):Int)]/\cX X=iS X (16-t)/\under X (16-t)) 16 0 (zAa _) ⟨rfl,rfl,Dh rfl f⟩ (λt ht s d=>?_) (λs d=>?_)
 ·obtain⟨rfl,he,c⟩:=d;obtain⟨k,hk⟩:∃ k,k=15-t:=⟨_,rfl⟩;rw[show 16-t=k+1 by omega] at he c ⊢
  have a:k<16:=j1
  have hsub:abG .sub (I ((k+1:Nat):Int)) (D.int .i64 1)=some (I (k:Int)):=by rw[show(D.int .i64 1)=I 1 from rfl,fd (by simp only[inR];omega)];congr 2;omega
  have e:abG .gtr (I ((k+1:Nat):Int)) (D.int .i64 0)=some (.bool true):=by rw[fH,zha j1]
  have g:=zf (show X<2^(32*(k+1)) from c);have b:D.beq (.int .u32 (bE X k)) (.int .u32 0)=decide (X<2^(32*k)):=by simp[D.beq,g]
  by_cases hs:X<2^(32*k)
  ·left;refine⟨[I ((16-(t+1):Nat):Int)],?_,rfl,?_,?_⟩
   ·refine aa e (j0 true (aa (z:=true) ?_ (j0 true ?_)))
    ·rw[zna rfl];refine aa hsub (aa (fD a) (aa (bu _ a) ?_));rw[b,zha hs];rfl
    ·simp_all
   ·rw[show 16-(t+1)=k by omega,he,iS,zka j1]
   ·rw[show 16-(t+1)=k by omega];exact hs
  ·right;refine⟨(0,[I ((k+1:Nat):Int)]),?_,?_⟩
   ·refine aa e (j0 true (aa (z:=false) ?_ (j0 false rfl)));rw[zna rfl];refine aa hsub (aa (fD a) (aa (bu _ a) ?_));rw[b,zea hs];rfl
   ·rw[he,iS,zna j1];rfl
 ·obtain⟨rfl,he,_⟩:=d;refine⟨(0,[I 0]),aa fH (aa ac (aa (z:=false) (be j2 rfl) (j0 false rfl))),?_⟩
  rw[he];rfl
def wK:Option Int->Option Int->Option Int
 | some x,some y=>fB (x+y)
 | _,_=>none
def lW{a b:Option Int}:(a.isSome&&b.isSome)=false\/∃ x y,a=some x/\b=some y:=by cases a<;>cases b<;>simp
def g9{neg:Bool}{m:Nat}{z:Int}(a:sgn neg m=z)(h:m<dW):fg (fB z)=ag (sgn neg m):=by
 have:z.natAbs=m:=by rw[<-a,Ak]
 unfold fB;rw[zna (by rw[this];exact h),<-a];rfl
def Zk(n:Nat){a b:Option Int}(d:wI a)(f:wI b):cA (n+4) 57 [fg a,fg b]=some (fg (wK a b)):=by
 rw[u57]
 delta SV qG qC qT qN Jn
 refine aa (rn (n+1) d f) (aa bz (aa ac ?_));rcases lW (a:=a) (b:=b) with h|⟨x,y,rfl,rfl⟩
 ·rw[h,zna j2]
  refine aa (yX (n+2)) ?_;cases a<;>cases b<;>simp at h<;>rfl
 rw[zka j3]
 have hx:=aO.1 d.some;have hy:=aO.1 f.some;rw[show fg (some x)=_ from cE x,show fg (some y)=_ from cE y,show wK (some x) (some y)=fB (x+y) from rfl];refine j0 (.bool (decide (x<0))) (j0 (.bool (decide (y<0))) (aa (z:=decide (decide (x<0)=decide (y<0))) (by simp[D.beq,D.truth]) ?_))
 by_cases hs:decide (x<0)=decide (y<0)
 ·refine aY hs ?_;refine j0 (LM x.natAbs) (j0 (LM y.natAbs) (aa (WS (n+2) hx hy) (j0 (LM (x.natAbs+y.natAbs)) (j0 (.bool (decide (x.natAbs+y.natAbs<dW))) (aa bz (aa ac ?_))))));have c:(x+y).natAbs=x.natAbs+y.natAbs:=by
   grind
  by_cases ht:x.natAbs+y.natAbs<dW
  ·rw[zha ht,zka j2]
   rw[g9 (neg:=decide (x<0)) (z:=x+y) (by unfold sgn;rw[decide_eq_decide] at hs;simp only[zfa];split<;>omega) ht]
   exact j0 (.bool (decide (x<0))) (aa (tI (n+2) _ ht) rfl)
  ·rw[zea ht,zna j2]
   refine aa (yX (n+2)) ?_;unfold fB;rw[zka (by rw[c];exact ht)];rfl
 ·refine be hs ?_;refine j0 (LM x.natAbs) (j0 (LM y.natAbs) (aa (Mv n hx hy) (aa ik (aa ac ?_))));have g:¬ (x<0↔y<0):=λe=>hs (by rw[decide_eq_decide];exact e)
  by_cases hge:y.natAbs<=x.natAbs
  ·refine aY (by unfold bg;split<;>(try split)<;>omega) ?_
   refine j0 (.bool (decide (x<0))) (j0 (LM x.natAbs) (j0 (LM y.natAbs) (aa (O2 (n+2) hx hge) (aa (tI (n+2) _ (zZa (Nat.sub_le _ _) hx)) ?_))));rw[g9 (neg:=decide (x<0)) (m:=x.natAbs-y.natAbs) (z:=x+y) (by unfold sgn;simp only[zfa];split<;>omega) (zZa (Nat.sub_le _ _) hx)]
  ·refine be (by unfold bg;split<;>(try split)<;>omega) ?_
   refine j0 (.bool (decide (y<0))) (j0 (LM y.natAbs) (j0 (LM x.natAbs) (aa (O2 (n+2) hy j1) (aa (tI (n+2) _ (zZa (Nat.sub_le _ _) hy)) ?_))))
   rw[g9 (neg:=decide (y<0)) (m:=y.natAbs-x.natAbs) (z:=x+y) (by unfold sgn;simp only[zfa];split<;>omega) (zZa (Nat.sub_le _ _) hy)]
def Pe(n:Nat){a:Option Int}(b:wI a):cA (n+3) 68 [fg a]=some (fg (a.map (λx=>-x))):=by
 rw[u68]
 delta SX qG qN
 refine aa (mO n b) (aa bz (aa ac ?_));cases a with
 | none=>rw[zna j2];exact aa (yX (n+1)) rfl
 | some x=>
  rw[zka j3]
  have hx:=aO.1 b.some;rw[show fg (some x)=_ from cE x];show _=some (ag (-x));refine j0 (.bool (decide (x<0))) (aa bz (j0 (LM x.natAbs) (aa (tI (n+1) _ hx) ?_)));rw[cE,tw,Ak];rw[cE,zEb,show((!(decide (x<0)))&&!(decide (x.natAbs=0)))=decide (-x<0) by rw[Bool.eq_iff_iff];simp;omega]
def rp(n:Nat){x:Int}(hx:In x):cA (n+3) 129 [ag x]=some (I (sg x)):=by
 rw[X3]
 delta KR qG qT qN Jn
 have a:=mO n (aV hx);have hx:=aO.1 hx;refine aa a (aa bz (j0 false (aa (z:=decide (x=0)) ?_ (aa ac ?_))))
 ·rw[zka j2,cE]
  refine j0 (LM x.natAbs) ?_;rw[iY,mI hx fW,ac]
  simp_all
 ·by_cases h0:x=0
  ·refine aY h0 ?_;subst h0;rfl
  ·refine be h0 (j0 (.bool (decide (x<0))) (aa ac ?_));by_cases h1:x<0
   ·simp_all [Aj]
   ·refine be h1 ?_;rw[iU j1]
def y6(n:Nat){x:Int}(hx:inR x):cA (n+2) 54 [I x]=some (ag x):=by
 rw[u54]
 delta SU qB qC Jn
 obtain⟨h1,h2⟩:=hx;have key:∀ m:Nat,m<18446744073709551616->D.st (abS (List.replicate 16 (D.int .u32 0)) [(0,.int .u32 ((m:Int)%4294967296)),(1,.int .u32 ((m:Int)/4294967296%4294967296))])=LM m:=λm hm=>by
  have e:LM m=cR 16 (λj=>if j=0 then(m:Int)%4294967296 else if j=1 then(m:Int)/4294967296%4294967296 else 0):=dG λj b=>by
   match j with
   | 0=>simp[bE]
   | 1=>simp[bE]
   | j+2=>
    rw[zka j1,zka j1]
    exact gn (n:=2) (by simpa using hm) j1
  rw[e];rfl
 have w1:IntKind.u64.wrap x=if x<0 then x+18446744073709551616 else x:=by have:IntKind.u64.wrap x=x%18446744073709551616:=rfl;omega
 have hc:D.conv .u64 (I x)=some (W (if x<0 then x+18446744073709551616 else x)):=by simp only[D.conv,w1]
 refine aa hc ?_;have a:x.natAbs<18446744073709551616:=j1
 refine aa (z:=(0,[W (x.natAbs:Nat)])) ?_ ?_
 ·refine aa ah (aa ac ?_);by_cases h:x<0
  ·refine aY h ?_;rw[zna h];have:abU .neg (W (x+18446744073709551616))=some (W (x.natAbs:Nat)):=by
    simp only[abU];have:IntKind.u64.wrap (0-(x+18446744073709551616))=(0-(x+18446744073709551616))%18446744073709551616:=rfl;grind
   simp_all
  ·grind
 ·refine aa ah (aa (iX _) (aa (wA (by show(0:Int)<=(x.natAbs:Nat);omega)) (aa (iX _) ?_)))
  have e:=key x.natAbs a;refine aa (z:=ag x) ?_ rfl;show cA (n+1) 116 [.bool (decide (x<0)),D.st (abS (List.replicate 16 (D.int .u32 0)) [(0,.int .u32 (((x.natAbs:Nat):Int)%4294967296)),(1,.int .u32 (((x.natAbs:Nat):Int)/4294967296%4294967296))])]=_;rw[e,tI n _ (Ao a)];congr 1;congr 1;unfold sgn;simp only[zfa];split<;>omega
def Gr(A B i k n:Nat)(hn:i+k<n):D.set (cR n (zN A B i k)) [i+k] (.int .u32 (((qj A B i k:Nat)+(bE A i*bE B k+bE (iF A B i) (i+k)))%4294967296))=some (cR n (zN A B i (k+1))):=by
 refine oc hn λj a=>?_;unfold zN wV;by_cases h:j=i+k
 ·subst h;rw[zna j1,zna rfl,Jf]
 ·rw[zka h];by_cases h2:j<i+k
  ·rw[zna j1,zna h2,yb,lO _ _ _ _ h2]
  ·rw[zka j1,zka h2]
def Gp{A B i m n:Nat}(a:B<2^(32*m))(hn:i+m<n):D.set (cR n (zN A B i m)) [i+m] (.int .u32 (qj A B i m:Nat))=some (cR n (bE (iF A B (i+1)))):=by
 have b:=EZ (A:=A) (i:=i) a;have c:o9 A B i m<2^(32*(i+m+1)):=by rw[<-ye a];have:=EZ (A:=A) (i:=i+1) a;rwa [show i+1+m=i+m+1 from by omega] at this
 refine oc hn λj d=>?_;rw[ye a];unfold zN wV;by_cases h:j=i+m
 ·subst h;rw[zna rfl,eD];have h1:=zL A B i m;rw[zib b,zmc] at h1;rw[<-h1,zUa (zZa (zM A B i m) j1)]
 ·rw[zka h];by_cases h2:j<i+m
  ·rw[zna h2]
  ·rw[zka h2,gn c j1,gn b j1]
def wv{n a c:Nat}(f:Nat->Int)(h:a+c<=n):D.st (List.take c (List.drop a ((List.range n).map λi=>D.int .u32 (f i))))=cR c (λj=>f (a+j)):=by
 unfold cR;congr 1;apply zuc;intro j;by_cases b:j<c
 ·rw[z6b b,z8b];simp[b,show a+j<n by omega]
 ·rw[zeb (by simp;omega),zeb (by simp;omega)]
def CG:aq Me=cR 32 (bE 0):=by have:cR 32 (bE 0)=cR 32 (λ_=>0):=dG λi _=>mT i;rw[this];rfl
def Nn{a b:Int}(d:0<=a)(e:a<=4294967295)(c:0<=b)(f:b<=4294967295):0<=a*b/\a*b<=18446744065119617025:=by refine⟨z8a d c,?_⟩;have h1:a*b<=4294967295*b:=z1b e c;omega
def ol:Option Int->Option Int->Option Int
 | some x,some y=>fB (x*y)
 | _,_=>none
def Zl(n:Nat){a b:Option Int}(v:wI a)(w:wI b):cA (n+3) 61 [fg a,fg b]=some (fg (ol a b)):=by
 rw[u61]
 delta SW qG qB qC qT qN qJ qZ iL iR Jn
 refine aa (rn n v w) (aa bz (aa ac ?_));rcases lW (a:=a) (b:=b) with h|⟨x,y,rfl,rfl⟩
 ·rw[h,zna j2]
  refine aa (yX (n+1)) ?_;cases a<;>cases b<;>simp at h<;>rfl
 rw[zka j3]
 have hx:=aO.1 v.some;have hy:=aO.1 w.some;rw[show fg (some x)=_ from cE x,show fg (some y)=_ from cE y,show ol (some x) (some y)=fB (x*y) from rfl];generalize hX:x.natAbs=X at *;generalize hY:y.natAbs=Y at *;have n1:=kZ X;have n2:=kZ Y;have s1:=fj hx;have s2:=fj hy;refine j0 (LM X) (aa (CU (n+1) hx) (j0 (LM Y) (aa (CU (n+1) hy) ?_)));generalize cX X=p at *;generalize cX Y=m at *;rw[CG];refine cg (λi s=>s=[I (i:Int),cR 32 (bE (iF X Y i))]) p 0 (zAa _) (by rw[Gt];rfl) (λi E s g=>?_) (λs g=>?_)
 ·subst g;left;refine⟨[I ((i+1:Nat):Int),cR 32 (bE (iF X Y (i+1)))],?_,rfl⟩;refine aa ah (aa ac (aY (by show(i:Int)<(p:Int);omega) ?_))
  refine c6 (λk s=>s=[W (qj X Y i k:Nat),I (k:Int),cR 32 (zN X Y i k)]) m 0 (zAa _) (by rw[xY,Gs];rfl) (λk hk s g=>?_) (λs g=>?_)
  ·subst g;left;refine⟨_,?_,rfl⟩;have d:i<16:=j1
   have f:k<16:=j1
   have c:i+k<32:=j1
   have a0:=cM X i;have a1:=oQ X i;have A:=cM Y k;have B:=oQ Y k;have z0:=cM (iF X Y i) (i+k);have G:=oQ (iF X Y i) (i+k);have hc:=zM X Y i k;obtain⟨C,F⟩:=Nn a0 a1 A B;refine aa ah (aa ac (aY (by show(k:Int)<(m:Int);omega) ?_))
   refine aa (fD d) (aa (bu _ d) (aa (fr X i) (aa (fD f) (aa (bu _ f) (aa (fr Y k) ?_)))));refine aa (OJ C j1) (aa (a8 (a:=i) (b:=k) j1) (aa (aw c) (aa (bu _ c) ?_)))
   rw[Gq];refine aa (fr _ _) (aa (ww j1 j1) (aa (ww j1 j1) (aa (a8 (a:=i) (b:=k) j1) (aa (iX _) (aa (aw c) (aa (Gr X Y i k 32 c) (aa (wA j1) ?_)))))))
   rw[<-Gn];exact aa (az (aU (i:=k) j1)) rfl
  ·subst g;refine⟨_,aa ah (aa ac (be (by show ¬ ((m:Int)<(m:Int));omega) rfl)),?_⟩
   have o:i+m<32:=j1
   have hc:=zM X Y i m;refine aa (a8 (a:=i) (b:=m) j1) (aa (iX _) (aa (aw o) ?_))
   rw[Int.emod_eq_of_lt j1 j1]
   exact aa (Gp s2 o) (aa (az (aU (i:=i) j1)) rfl)
 ·subst g;refine⟨(0,[cR 32 (bE (X*Y))]),?_,?_⟩
  ·rw[Ji s1];exact aa ah (aa ac (be (by show ¬ ((p:Int)<(p:Int));omega) rfl))
  have q:=fW;have hq:X*Y/dW<dW:=zHc (Nat.mul_lt_mul'' hx hy);have t:D.st (List.take 16 (List.drop 16 ((List.range 32).map λi=>D.int .u32 (bE (X*Y) i))))=LM (X*Y/dW):=by
   rw[wv _ j1]
   exact dG λj _=>by rw[gY,Be]
  have u:D.st (List.take 16 (List.drop 0 ((List.range 32).map λi=>D.int .u32 (bE (X*Y) i))))=LM (X*Y):=by
   rw[wv _ j1]
   exact dG λj _=>by rw[zcb]
  show(if decide (16+16<=((List.range 32).map λi=>D.int .u32 (bE (X*Y) i)).length)=true then _ else none)=_
  rw[zna j3,t,iY,mI hq q]
  have l:(x*y).natAbs=X*Y:=by rw[zNa,hX,hY]
  by_cases ht:X*Y<dW
  ·rw[zib ht,zha rfl];refine j0 false ?_;rw[zka j2]
   refine j0 (.bool (decide (x<0))) (j0 (.bool (decide (y<0))) ?_);show(if decide (0+16<=((List.range 32).map λi=>D.int .u32 (bE (X*Y) i)).length)=true then _ else none)=_
   rw[zna j3,u]
   have r:=NG x y;rw[hX,hY] at r;rw[g9 r ht];refine aa (z:=ag (sgn (!(decide (decide (x<0)=decide (y<0)))) (X*Y))) ?_ rfl;rw[<-tI (n+1) _ ht];congr 4
  ·rw[zea (λe=>ht (by have:=Nat.div_eq_zero_iff.1 e;omega))]
   refine j0 true ?_;rw[zna rfl];refine aa (yX (n+1)) ?_;unfold fB;rw[l,zka ht];rfl
end Sy
end
end Go.Proofs.YtphlmegkommlnaaGreatDoor
