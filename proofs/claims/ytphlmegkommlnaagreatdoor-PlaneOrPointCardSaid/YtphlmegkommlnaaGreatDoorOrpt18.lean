/- Part 18 of the proof that PlaneOrPoint answers true at every input -/
import Derived.Test.YtphlmegkommlnaaGreatDoorOrpt01
import Derived.Test.YtphlmegkommlnaaGreatDoorOrpt17
set_option linter.unusedVariables false
set_option linter.unusedSimpArgs false
set_option linter.unnecessarySimpa false
set_option linter.defProp false
set_option maxRecDepth 20000
namespace Go.Proofs.YtphlmegkommlnaaGreatDoor
noncomputable section
namespace Sy
open Go Go.Proofs Geo
def oX(q:V×Int)(p:List Nat):D:=.st [ae q.1,I q.2,.sl (ah p)]
def cl(l:List V):D:=.st [bu l]
def Ij(l:List V):Prop:=∀ i j,i<j->j<l.length->aM (pt l i) (pt l j)
def Rb{l:List V}(hl:∀ x∈l,bd MV x){m:V}{d:Int}(h:IsF (pt l) l.length m d):bd 549755813888 m:=by
 obtain⟨i,j,k,h1,h2,h3,e,b,f⟩:=h.ex;have a:=hl _ (df (show i<l.length by omega))
 have c:=hl _ (df (show j<l.length by omega))
 have hk:=hl _ (df h3);have:=fJ (jJ (po (P:=pt l) a c) (po (P:=pt l) a hk));rcases b with rfl|rfl
 ·exact this
 ·exact sC this
def p18(n:Nat){l:List V}(hl:∀ x∈l,bd MV x)(hlen:l.length<=100)(hs:Ij l):∃ (L:List (V×Int)) (poly:V×Int->List Nat),Facets (pt l) l.length L/\(∀ q∈L,bU (pt l) l.length q.1 q.2 (poly q))/\L.length<=2000000 ∧
  cA (n+7) 18 [cl l]=some (.sl (L.map λq=>oX q (poly q))):=by
 obtain⟨y,h1,K,L,h2,h3,g,rfl⟩:=p45 n hl hlen;have b:=h2.facets h3 g;have e:L.length<=2000000:=by rw[h3.length_eq];exact h2.len hlen
 have hex:∀ q:V×Int,∃ p,q∈L->bU (pt l) l.length q.1 q.2 p/\cA (n+6) 46 [bu l,cR q]=some (.sl (ah p)):=λq=>by
  by_cases hq:q∈L
  ·have hF:=(b.mem q).1 hq;obtain⟨p,k,m⟩:=p46 (n+1) hl hlen hs hF (Rb hl hF);exact⟨p,λ_=>⟨k,m⟩⟩
  ·exact⟨[],λh=>z4a h hq⟩
 obtain⟨poly,a⟩:∃ poly:V×Int->List Nat,∀ q∈L,bU (pt l) l.length q.1 q.2 (poly q)/\cA (n+6) 46 [bu l,cR q]=some (.sl (ah (poly q))):=⟨λq=>Classical.choose (hex q),λq hq=>Classical.choose_spec (hex q) hq⟩;refine⟨L,poly,b,λq hq=>(a q hq).1,e,?_⟩;have hp:=λq (hq:q∈L)=>(a q hq).2;rw[u18]
 delta Uw qG qB qC qS qX qV qW qZ iL iR Jn
 refine j0 (bu l) (aa h1 (j0 (L.map cR) ?_));have f:(L.map cR).length=L.length:=zxa ..;refine bR (λi s=>s=[.sl ((L.take i).map λq=>oX q (poly q)),I (i:Int)]) L.length 0 (zqa _) rfl (λi c s d=>?_) (λs d=>?_)
 ·subst d;left;refine⟨_,?_,rfl⟩;refine aa am (aa ac (aK (by show((i:Int)<((L.map cR).length:Int));rw[f];omega) ?_))
  have j:(L.map cR)[i]?=some (cR L[i]):=by simp[c]
  refine j0 (L.map cR) (aa (z:=i) (by rw[f];exact aq c) (aa j ?_))
  refine j0 (ae L[i].1) (j0 (I L[i].2) (j0 (bu l) (aa (hp L[i] (zBa c)) ?_)));rw[zja (by simp only[g0,D.els,zxa,zkb,zQa,zJb];omega)]
  refine aa (aC (aL (i:=i) j1)) ?_
  rw[zJa c,zXb];rfl
 ·subst d;refine⟨(0,[.sl ((L.take L.length).map λq=>oX q (poly q))]),?_,?_⟩
  ·refine aa am (aa ac (aO (by show ¬ ((L.length:Int)<((L.map cR).length:Int));rw[f];omega) rfl))
  ·rw[zub];rfl
def jq(e:Nat×Nat):D:=.st [I (e.1:Int),I (e.2:Int)]
def NR{a b:Nat×Nat}(h:CK a b):sf [bB (a.1:Int) b.1,bB (a.2:Int) b.2]=-1:=by
 simp only[CK] at h;rcases h with h|⟨h1,h⟩
 ·have:(a.1:Int)<b.1:=j1
  simp[sf,bB,this]
 ·have e:(a.1:Int)=b.1:=j1
  have:(a.2:Int)<b.2:=j1
  simp[sf,bB,e,this]
def NQ{a b:Nat×Nat}(h:CK b a):sf [bB (a.1:Int) b.1,bB (a.2:Int) b.2]=1:=by
 simp only[CK] at h;rcases h with h|⟨h1,h⟩
 ·have:(b.1:Int)<a.1:=j1
  simp[sf,bB,this,zWb.2 (zpa this)]
 ·have e:(a.1:Int)=b.1:=j1
  have:(b.2:Int)<a.2:=j1
  simp[sf,bB,e,this,zWb.2 (zpa this)]
def IV(n:Nat)(p q:Nat×Nat):vD (dG aU (cA (n+3)) (kl aU (cA (n+3)))) (cO 51) (jq p) (jq q)=some (sf [bB (p.1:Int) q.1,bB (p.2:Int) q.2]):=by
 unfold vD;rw[show ∀ l,(dG aU (cA (n+3)) (kl aU (cA (n+3)))).call (cO 51) l=cA (n+3) 51 l from λl=>congrFun (zna (cA (n+3)) (show vA (cO 51)=51 by kernel_rfl)) l,show jq p=.st [I (p.1:Int),I (p.2:Int)] from rfl,show jq q=.st [I (q.1:Int),I (q.2:Int)] from rfl,c51]
 rfl
theorem Pq(n:Nat):∀ (L:List (Nat×Nat)),L.Pairwise CK->uG (dG aU (cA (n+3)) (kl aU (cA (n+3)))) (cO 51) (L.map jq)=true
 | [],_=>rfl
 | p::L,h=>by
  obtain⟨h1,h2⟩:=zOa.1 h;simp only[zjb,uG,zaa,zDa,zSa];refine⟨⟨?_,?_⟩,Pq n L h2⟩
  ·simp only[HT,IV];simp[sf,bB]
  ·rintro _ ⟨q,hq,rfl⟩;simp only[tw,HT,IV,NR (h1 q hq),NQ (h1 q hq)];decide
def Ov{a b:Nat×Nat}(h:a≠b):CK a b\/CK b a:=by
 obtain⟨a1,a2⟩:=a;obtain⟨c,d⟩:=b;simp only[CK];by_cases h1:a1=c<;>by_cases h2:a2=d
 ·subst h1;subst h2;exact z4a rfl h
 all_goals omega
theorem Da:∀ (K:List (Nat×Nat)),K.Nodup->∃ L:List (Nat×Nat),L.Perm K/\L.Pairwise CK
 | [],_=>⟨[],.refl _,.nil⟩
 | x::K,h=>by
  obtain⟨h1,h2⟩:=List.nodup_cons.1 h;obtain⟨L,b,d⟩:=Da K h2;have ins:∀ L:List (Nat×Nat),L.Pairwise CK->(∀ y∈L,x≠y)->∃ M:List (Nat×Nat),M.Perm (x::L)/\M.Pairwise CK:=by
   intro L
   induction L with
   | nil=>intro _ _;exact⟨[x],.refl _,j3⟩
   | cons y L ih=>
    intro hp hn;obtain⟨c,f⟩:=zOa.1 hp;rcases Ov (hn y zva) with k|k
    ·refine⟨x::y::L,.refl _,zOa.2 ⟨λz a=>?_,hp⟩⟩;rcases zEa.1 a with rfl|a
     ·exact k
     ·have:=c z a;simp only[CK] at *;omega
    ·obtain⟨M,m1,m2⟩:=ih f (λz a=>hn z (zoa _ a));refine⟨y::M,(m1.cons y).trans (.swap x y L),zOa.2 ⟨λz a=>?_,m2⟩⟩;rcases zEa.1 (m1.subset a) with rfl|a
     ·exact k
     ·exact c z a
  obtain⟨M,m1,m2⟩:=ins L d (λy hy e=>h1 (b.subset (e ▸ hy)));exact⟨M,m1.trans (b.cons x),m2⟩
def mE{p:List Nat}{k:Nat}(h:k<p.length):(ah p)[k]?=some (I (p.getD k 0:Nat)):=by simp[ah,List.getD,h]
def gh(p:List Nat)(k:Nat):List (Nat×Nat):=(List.range k).filterMap λk=>if p.getD k 0<p.getD ((k+1)%p.length) 0 then some (p.getD k 0,p.getD ((k+1)%p.length) 0) else none
def Ab(p:List Nat)(k:Nat):gh p (k+1)=if p.getD k 0<p.getD ((k+1)%p.length) 0 then gh p k++[(p.getD k 0,p.getD ((k+1)%p.length) 0)] else gh p k:=by
 unfold gh;rw[zkc,List.filterMap_append];split
 ·rename_i h;simp only[List.filterMap_cons,List.filterMap_nil,zja h]
 ·rename_i h;simp only[List.filterMap_cons,List.filterMap_nil,zia h,zzb]
def tY(p:List Nat)(k:Nat):(gh p k).length<=k:=by unfold gh;exact zHa (List.length_filterMap_le _ _) j3
def p21(n:Nat){l:List V}{L:List (V×Int)}{poly:V×Int->List Nat}(h18:cA (n+7) 18 [cl l]=some (.sl (L.map λq=>oX q (poly q))))(hL:L.length<=2000000)(hp:∀ q∈L,(poly q).length<=100/\0<(poly q).length)
  (h:(dD L poly).Nodup):∃ E:List (Nat×Nat),E.Perm (dD L poly)/\E.Pairwise CK/\cA (n+8) 21 [cl l]=some (.sl (E.map jq)):=by
 obtain⟨E,o,r⟩:=Da _ h;refine⟨E,o,r,?_⟩;rw[u21];unfold RM;refine aa h18 (j0 (L.map λq=>oX q (poly q)) ?_);have j:(L.map λq=>oX q (poly q)).length=L.length:=zxa ..;have t:∀ i,i<=L.length->(dD (L.take i) poly).length<=i*100:=λi d=>by
  induction i with
  | zero=>simp[dD]
  | succ i ih=>
   have e:i<L.length:=j1
   rw[zJa e,dD,List.flatMap_append,zwa];have h1:=ih j1
   simp only[dD] at h1;have h2:(mC (poly L[i])).length<=100:=zHa (tY (poly L[i]) (poly L[i]).length) (hp _ (zBa e)).1;simp only[List.flatMap_cons,List.flatMap_nil,zzb];omega
 refine bR (λi s=>s=[.sl ((dD (L.take i) poly).map jq),I (i:Int)]) L.length 0 (zqa _) rfl (λi d s b=>?_) (λs b=>?_)
 ·subst b;left;refine⟨_,?_,rfl⟩;refine aa am (aa ac (aK (by show((i:Int)<((L.map λq=>oX q (poly q)).length:Int));rw[j];omega) ?_))
  have w:(L.map λq=>oX q (poly q))[i]?=some (oX L[i] (poly L[i])):=by simp[d]
  refine j0 (L.map λq=>oX q (poly q)) (aa (z:=i) (by rw[j];exact aq d) (aa w (j0 (.sl (ah (poly L[i]))) (j0 (ah (poly L[i])) ?_))))
  obtain⟨x,m⟩:=hp L[i] (zBa d);have u:=t i j1
  obtain⟨M,c⟩:∃ M,M=dD (L.take i) poly:=⟨_,rfl⟩;rw[<-c] at u ⊢;have g:dD (L.take (i+1)) poly=M++gh (poly L[i]) (poly L[i]).length:=by rw[zJa d,c,dD,List.flatMap_append];simp[dD,mC,gh]
  rw[g];generalize poly L[i]=p at *;refine cr (λk s=>s=[.sl ((M++gh p k).map jq),I (k:Int)]) p.length 0 (zqa _) (by simp[gh,g0,D.els]) (λk hk s b=>?_) (λs b=>?_)
  ·subst b;left;refine⟨_,?_,rfl⟩;refine aa am (aa ac (aK (by show((k:Int)<((ah p).length:Int));rw[ao];omega) ?_))
   have a:(k+1)%p.length<p.length:=z5a _ m;have f:(((k:Int)+1).tmod (p.length:Int))=(((k+1)%p.length:Nat):Int):=by rw[show((k:Int)+1)=((k+1:Nat):Int) by omega];exact zvd ..
   refine aa (z:=(0,[.sl ((M++gh p (k+1)).map jq)])) ?_ (aa (aC (aL (i:=k) j1)) rfl)
   refine j0 (ah p) (aa (z:=k) (by rw[ao];exact aq hk) (aa (mE hk) (j0 (.sl (ah p)) (aa (aC (aL (i:=k) j1)) (j0 (.sl (ah p)) (j0 (ah p) ?_))))))
   refine aa (z:=I (((k+1)%p.length:Nat):Int)) (by rw[show((ah p).length:Int)=(p.length:Int) by rw[ao],lr j1,f]) ?_
   refine j0 (ah p) (aa (z:=(k+1)%p.length) (by rw[ao];exact aq a) (aa (mE a) (aa am (aa ac ?_))))
   rw[Ab];have v:=tY p k;by_cases hab:p.getD k 0<p.getD ((k+1)%p.length) 0
   ·refine aK (by show((p.getD k 0:Nat):Int)<((p.getD ((k+1)%p.length) 0:Nat):Int);omega) ?_
    rw[zja hab,zja (by simp only[g0,D.els,zxa,zwa,zQa,zJb];omega)]
    simp[g0,D.els,jq]
   ·refine aO (by show ¬ ((p.getD k 0:Nat):Int)<((p.getD ((k+1)%p.length) 0:Nat):Int);omega) ?_
    rw[zia hab];rfl
  ·subst b;refine⟨(0,[.sl ((M++gh p p.length).map jq)]),?_,?_⟩
   ·refine aa am (aa ac (aO (by show ¬ ((p.length:Int)<((ah p).length:Int));rw[ao];omega) rfl))
   ·exact aa (aC (aL (i:=i) j1)) rfl
 ·subst b;refine⟨(0,[.sl ((dD (L.take L.length) poly).map jq)]),?_,?_⟩
  ·refine aa am (aa ac (aO (by show ¬ ((L.length:Int)<((L.map λq=>oX q (poly q)).length:Int));rw[j];omega) rfl))
  ·have hu:=t L.length (zka _);rw[zub] at hu ⊢;refine aa (z:=(dD L poly).map jq) ?_ (aa (xi (Pq (n+4) E r) (o.symm.map _)) rfl);exact aK (by show((dD L poly).map jq).length<=1073741824;rw[zxa];omega) rfl
abbrev FL:=List ((V×Int)×List Nat)
def aZ(L:FL):List D:=L.map λf=>oX f.1 f.2
def bh(L:FL):(aZ L).length=L.length:=zxa ..
def fg{L:FL}{i:Nat}(h:i<L.length):(aZ L)[i]?=some (oX L[i].1 L[i].2):=by simp[aZ,h]
def Zc(n:Nat)(L:FL)(m:V)(hL:L.length<=3000000):cA (n+1) 108 [.sl (aZ L),ae m]=some (.bool (L.any λf=>decide (f.1.1=m))):=by
 rw[aau]
 delta Ls qB qT qX qL qZ iL iR Jn
 refine bR (λi s=>s=[I (i:Int)]/\(L.take i).any (λf=>decide (f.1.1=m))=false) L.length 0 (zqa _) ⟨rfl,j3⟩ (λi a s c=>?_) (λs c=>?_)
 ·obtain⟨rfl,b⟩:=c;by_cases he:L[i].1.1=m
  ·right;refine⟨(0,[.bool true]),?_,?_⟩
   ·refine j0 (aZ L) (aa am (aa ac (aK (by show((i:Int)<((aZ L).length:Int));rw[bh];omega) ?_)))
    refine j0 (aZ L) (aa (z:=i) (by rw[bh];exact aq a) (aa (fg a) (j0 (ae L[i].1.1) ?_)))
    rw[ks];exact aa ac (aK he rfl)
   ·have:L.any (λf=>decide (f.1.1=m))=true:=z9b.2 ⟨L[i],zBa a,by simpa using he⟩
    simp[this,g0]
  ·left;refine⟨[I ((i+1:Nat):Int)],?_,rfl,?_⟩
   ·refine j0 (aZ L) (aa am (aa ac (aK (by show((i:Int)<((aZ L).length:Int));rw[bh];omega) ?_)))
    refine j0 (aZ L) (aa (z:=i) (by rw[bh];exact aq a) (aa (fg a) (j0 (ae L[i].1.1) ?_)))
    rw[ks];exact aa ac (aO he (aa (aC (aL (i:=i) j1)) rfl))
   ·rw[zJa a,zHd,b];simp[he]
 ·obtain⟨rfl,b⟩:=c;rw[zub] at b;refine⟨(1,[]),?_,by simp[b]⟩
  exact j0 (aZ L) (aa am (aa ac (aO (by show ¬ ((L.length:Int)<((aZ L).length:Int));rw[bh];omega) rfl)))
def ns(f:(V×Int)×List Nat):FL->FL
 | []=>[f]
 | x::L=>if aM f.1.1 x.1.1 then f::x::L else x::ns f L
def Ze(n:Nat)(L:FL)(f:(V×Int)×List Nat)(hL:L.length<=3000000):cA (n+2) 110 [.sl (aZ L),oX f.1 f.2]=some (.sl (aZ (ns f L))):=by
 rw[aaw]
 delta Lu qG qB qT qN qX qL qV qW qZ iL iR Jn
 have app:∀ (o:FL) (x:(V×Int)×List Nat),aZ o++[oX x.1 x.2]=aZ (o++[x]):=λo x=>by simp[aZ]
 refine bR (λi s=>∃ (out:FL) (put:Bool),s=[.sl (aZ out),.bool put,I (i:Int)]/\out.length<=2*i/\(put=false->ns f L=out++ns f (L.drop i))/\(put=true->ns f L=out++L.drop i)) L.length 0 (zqa _) ⟨[],false,rfl,j3,j3,j3⟩ (λi a s b=>?_) (λs b=>?_)
 ·obtain⟨out,put,rfl,g,h1,h2⟩:=b;left;have c:L.drop i=L[i]::L.drop (i+1):=zSb a;have hc:=SG n f.1.1 L[i].1.1;obtain⟨o,p,he,l,j,k⟩:∃ o p,(if put=false/\aM f.1.1 L[i].1.1 then(out++[f],true) else(out,put))=(o,p)/\o.length<=2*i+1/\(p=false->ns f L=o++L[i]::ns f (L.drop (i+1)))/\(p=true->ns f L=o++L[i]::L.drop (i+1)):=by
   by_cases hput:put=false/\aM f.1.1 L[i].1.1
   ·refine⟨_,_,zja hput,by simp;omega,j3,λ_=>?_⟩
    rw[h1 hput.1,c];simp[ns,hput.2]
   ·refine⟨_,_,zia hput,j1,λhp=>?_,λhp=>?_⟩
    ·have e:¬ aM f.1.1 L[i].1.1:=λh=>hput ⟨hp,h⟩;rw[h1 hp,c];simp[ns,e]
    ·rw[h2 hp,c]
  refine⟨[.sl (aZ (o++[L[i]])),.bool p,I ((i+1:Nat):Int)],?_,o++[L[i]],p,rfl,by simp;omega,λhp=>by rw[j hp];simp,λhp=>by rw[k hp];simp⟩
  refine j0 (aZ L) (aa am (aa ac (aK (by show((i:Int)<((aZ L).length:Int));rw[bh];omega) ?_)))
  refine j0 (ae f.1.1) (j0 (aZ L) (aa (z:=i) (by rw[bh];exact aq a) (aa (fg a) (j0 (ae L[i].1.1) (aa hc ?_)))))
  refine aa (z:=(0,[.sl (aZ o),.bool p])) ?_ ?_
  ·refine j0 (.bool (!put)) (j0 (!put) (aa (z:=!put&&decide (aM f.1.1 L[i].1.1)) ?_ (j0 (!put&&decide (aM f.1.1 L[i].1.1)) ?_)))
   ·cases put
    ·exact ac
    ·rfl
   ·by_cases hput:put=false/\aM f.1.1 L[i].1.1
    ·rw[zja hput] at he;obtain⟨rfl,d⟩:=hput;cases he;rw[show(!false&&decide (aM f.1.1 L[i].1.1))=true by simp[d],zja rfl,zja (by simp only[g0,D.els,bh,zQa,zJb];omega)]
     simp only[g0,D.els,app]
    ·rw[zia hput] at he;cases he;rw[show(!put&&decide (aM f.1.1 L[i].1.1))=false by
      cases put
      ·simpa using hput
      ·rfl]
     rfl
  ·refine j0 (aZ L) (aa (z:=i) (by rw[bh];exact aq a) (aa (fg a) ?_))
   rw[zja (by simp only[g0,D.els,bh,zQa,zJb];omega)]
   refine aa (aC (aL (i:=i) j1)) ?_
   simp only[g0,g1,D.els,app];rfl
 ·obtain⟨out,put,rfl,g,h1,h2⟩:=b;refine⟨(0,[.sl (aZ out),.bool put]),?_,?_⟩
  ·exact j0 (aZ L) (aa am (aa ac (aO (by show ¬ ((L.length:Int)<((aZ L).length:Int));rw[bh];omega) rfl)))
  ·cases put
   ·have:=h1 rfl;rw[zid] at this;rw[this];refine aa (z:=(0,[.sl (aZ (out++[f]))])) ?_ rfl;refine j0 (.bool true) (j0 true ?_);rw[zja rfl,zja (by simp only[g0,D.els,bh,zQa,zJb];omega)]
    simp only[g0,D.els,app]
   ·have:=h2 rfl;rw[zid,zzb] at this;rw[this];rfl
def jl(l:List V)(m:V)(a b x:Nat):Bool:=
 decide (0<=T m (wy (pt l) a b) (wy (pt l) a x))&&(!decide (T m (wy (pt l) a b) (wy (pt l) a x)=0)||(decide (0<=V.dot (wy (pt l) a x) (wy (pt l) a b))&&decide (V.dot (wy (pt l) a x) (wy (pt l) a b)<=V.dot (wy (pt l) a b) (wy (pt l) a b))))
def Ew{l:List V}{m:V}{a b x:Nat}:jl l m a b x=true↔(0<=T m (wy (pt l) a b) (wy (pt l) a x)/\(T m (wy (pt l) a b) (wy (pt l) a x)=0->0<=V.dot (wy (pt l) a x) (wy (pt l) a b)/\V.dot (wy (pt l) a x) (wy (pt l) a b)<=V.dot (wy (pt l) a b) (wy (pt l) a b))):=by simp only[jl,zaa,zmc,zWa,zfa,decide_eq_false_iff_not];by_cases h:T m (wy (pt l) a b) (wy (pt l) a x)=0<;>simp[h]
def zo(l:List V)(m:V)(d:Int)(a b:Nat):Bool:=(bD (pt l) l.length m d).all λx=>jl l m a b x
def zp{l:List V}{m:V}{d:Int}{a b:Nat}(e:b∈bD (pt l) l.length m d)(c:b≠a):zo l m d a b=true↔Side m (pt l) (bD (pt l) l.length m d) a b:=by simp only[zo,zDa,Ew];exact⟨λh=>⟨e,c,h⟩,λh=>h.all⟩
def Zp(n:Nat){l:List V}(hl:∀ x∈l,bd MV x)(hlen:l.length<=100){m:V}{d:Int}(E:m≠V.zero)(hm:bd 549755813888 m){a b:Nat}(p:a<l.length)(W:b<l.length)(j:V.dot m (pt l a)=d)(C:V.dot m (pt l b)=d) :
  cA (n+3) 156 [bu l,ae m,I d,ae (pt l a),ae (pt l b)]=some (.bool (zo l m d a b)):=by
 rw[aa4]
 delta L8 qB qC qT qX qL qZ iL iR Jn
 have w1:bd 524288 (wy (pt l) a b):=po (hl _ (df p)) (hl _ (df W));refine aa (z:=ae (wy (pt l) a b)) (Dx (n+1) (hl _ (df W)) (hl _ (df p)) j2) ?_
 have f:(l.map ae).length=l.length:=zxa ..;have F:V.dot m (wy (pt l) a b)=0:=by rw[bF,j,C];omega
 refine bR (λi s=>s=[I (i:Int)]/\(bD (pt l) i m d).all (λx=>jl l m a b x)=true) l.length 0 (zqa _) ⟨rfl,by simp[bD]⟩ (λi c s B=>?_) (λs B=>?_)
 ·obtain⟨rfl,q⟩:=B;have hc:=GD (n+1) hm (hl _ (df c)) j2
  by_cases hon:V.dot m (pt l i)=d
  ·have Y:bd 524288 (wy (pt l) a i):=po (hl _ (df p)) (hl _ (df c));have G:V.dot m (wy (pt l) a i)=0:=by rw[bF,j,hon];omega
   have c1:=Dx (n+1) (hl _ (df c)) (hl _ (df p)) j2
   have c2:=SJ (n+1) w1 Y j2
   have S:=Zw n m (V.cross (wy (pt l) a b) (wy (pt l) a i));rw[FD E (ff F G)] at S;have U:=GD (n+1) Y w1 j2
   have Z:=GD (n+1) w1 w1 j2
   have step:∀ (y:Nat×List D),y=(if jl l m a b i then(0,[]) else(1,[D.bool false]))->((D.asSl (bu l)).bind λX=>(D.idx (I (i:Int)) (List.length X)).bind λi7=>
     (X[i7]?).bind λx8=>(cA (n+2) 107 [ae m,x8]).bind λr9=>(D.truth (D.bool (!(D.beq r9 (I d))))).bind λr=>
     if r then(some ((0:Nat),([]:List D))) else((D.asSl (bu l)).bind λk=>(D.idx (I (i:Int)) (List.length k)).bind λuY=>
     (k[uY]?).bind λO=>(cA (n+2) 112 [O,ae (pt l a)]).bind λg=>(cA (n+2) 123 [ae (wy (pt l) a b),g]).bind λH=>(cA (n+2) 188 [ae m,H]).bind λo=>
     (afn .lss o (D.int .i64 0)).bind λP=>(D.truth P).bind λt=>
     Option.bind (if t then(some true) else((D.truth (D.bool (D.beq o (D.int .i64 0)))).bind λu=>
     if u then((cA (n+2) 107 [g,ae (wy (pt l) a b)]).bind λJ=>(afn .lss J (D.int .i64 0)).bind λQ=>(D.truth Q).bind λv=>
     if v then(some true) else((cA (n+2) 107 [g,ae (wy (pt l) a b)]).bind λK=>(cA (n+2) 107 [ae (wy (pt l) a b),ae (wy (pt l) a b)]).bind λL=>
     (afn .gtr K L).bind λR=>D.truth R)) else(some false))) λw=>(D.truth (D.bool w)).bind λA=>
     if A then(some (1,[(D.bool false)])) else(some (0,[]))))=some y:=by
    intro y hy;refine j0 (l.map ae) (aa (z:=i) (by rw[f];exact aq c) (aa (dW c) (aa hc (aa (z:=false) ?_ ?_))))
    ·rw[bY,show V.dot m (l.getD i V.zero)=d from hon];simp[D.truth]
    rw[zia j2]
    refine j0 (l.map ae) (aa (z:=i) (by rw[f];exact aq c) (aa (dW c) (aa (z:=ae (wy (pt l) a i)) c1 (aa c2 (aa S (aa am (aa ac ?_)))))))
    rw[hy];have e:V.dot m (V.cross (wy (pt l) a b) (wy (pt l) a i))=T m (wy (pt l) a b) (wy (pt l) a i):=rfl;rw[e];refine aa (z:=!jl l m a b i) ?_ ?_
    ·by_cases t1:T m (wy (pt l) a b) (wy (pt l) a i)<0
     ·rw[Rc (Gb.2 t1)];have:¬ (0<=T m (wy (pt l) a b) (wy (pt l) a i)):=j1
      simp[jl,this]
     ·rw[Rd (λh=>t1 (Gb.1 h))];have M:0<=T m (wy (pt l) a b) (wy (pt l) a i):=j1
      by_cases t2:T m (wy (pt l) a b) (wy (pt l) a i)=0
      ·refine aa (z:=true) (by rw[bY,zha (eQ.2 t2)];rfl) ?_
       rw[zja rfl];refine aa U (aa am (aa ac ?_));by_cases t3:V.dot (wy (pt l) a i) (wy (pt l) a b)<0
       ·rw[Rc t3];have:¬ (0<=V.dot (wy (pt l) a i) (wy (pt l) a b)):=j1
        simp[jl,t2,this]
       ·rw[Rd t3];refine aa U (aa Z (aa cK ?_));rw[ac];have N:0<=V.dot (wy (pt l) a i) (wy (pt l) a b):=j1
        simp only[jl,t2,N,decide_true,zqb,zqc,Bool.false_or,zoc];by_cases t4:V.dot (wy (pt l) a i) (wy (pt l) a b)<=V.dot (wy (pt l) a b) (wy (pt l) a b)
        ·have:¬ (V.dot (wy (pt l) a i) (wy (pt l) a b)>V.dot (wy (pt l) a b) (wy (pt l) a b)):=j1
         simp[t4,this]
        ·have:(V.dot (wy (pt l) a i) (wy (pt l) a b)>V.dot (wy (pt l) a b) (wy (pt l) a b)):=j1
         simp[t4,this]
      ·refine aa (z:=false) (by rw[bY,zca (λh=>t2 (eQ.1 h))];rfl) ?_
       simp[jl,t2,M]
    ·refine aa ac ?_;cases jl l m a b i<;>rfl
   cases hk:jl l m a b i
   ·right;rw[hk] at step;refine⟨(0,[.bool false]),?_,?_⟩
    ·exact j0 (l.map ae) (aa am (aa ac (aK (by show((i:Int)<((l.map ae).length:Int));rw[f];omega) (aa (step _ rfl) rfl))))
    ·have:zo l m d a b=false:=by
      rw[ztc];intro h;have:=zDa.1 h i (aD.2 ⟨c,hon⟩);rw[hk] at this;exact z4a this j2
     rw[this];rfl
   ·left;rw[hk] at step;refine⟨[I ((i+1:Nat):Int)],?_,rfl,?_⟩
    ·exact j0 (l.map ae) (aa am (aa ac (aK (by show((i:Int)<((l.map ae).length:Int));rw[f];omega) (aa (step _ rfl) (by rw[zja rfl,zja rfl];exact aa (aC (aL (i:=i) j1)) rfl)))))
    ·rw[lS,zja hon,zod,q];simp[hk]
  ·left;refine⟨[I ((i+1:Nat):Int)],?_,rfl,?_⟩
   ·refine j0 (l.map ae) (aa am (aa ac (aK (by show((i:Int)<((l.map ae).length:Int));rw[f];omega) (aa (z:=(0,[])) ?_ (by rw[zja rfl];exact aa (aC (aL (i:=i) j1)) rfl)))))
    refine j0 (l.map ae) (aa (z:=i) (by rw[f];exact aq c) (aa (dW c) (aa hc (aa (z:=true) ?_ rfl))))
    rw[bY,zca (show ¬ V.dot m (l.getD i V.zero)=d from hon)];rfl
   ·rw[lS,zia hon];exact q
 ·obtain⟨rfl,q⟩:=B;refine⟨(1,[]),?_,?_⟩
  ·exact j0 (l.map ae) (aa am (aa ac (aO (by show ¬ ((l.length:Int)<((l.map ae).length:Int));rw[f];omega) rfl)))
  ·have:zo l m d a b=true:=q;rw[this];rfl
def FI{body:Bd}{s0:List D}{r:Nat×List D}(h:(aU body s0).bind some=some r):aU body s0=some r:=by
 cases hb:aU body s0 with
 | none=>rw[hb] at h;cases h
 | some z=>rw[hb] at h;exact h
def J5{P:Nat->V}{m:V}{d:Int}{i N a:Nat}(h:(bD P i m d).head?=some a)(b:i<=N):(bD P N m d).head?=some a:=by
 induction N with
 | zero=>
      have:i=0:=j1
      subst this;exact h
 | succ N ih=>
  by_cases e:i=N+1
  ·rw[<-e];exact h
  ·have:=ih j1
   rw[lS];split
   ·rw[List.head?_append,this];rfl
   ·exact this
theorem tV{body:Bd}{S:Nat->Nat->Prop}{a M:Nat}{G:Nat->Prop}(f:∀ c b,G c->S c b->G b)
  (d:∀ (c b:Nat) (out:List Nat),G c->S c b->b≠a->out.length<=M->body [.sl (ah out),I (c:Int)]=some (.inl [.sl (ah (out++[c])),I (b:Int)]))
  (e:∀ (c:Nat) (out:List Nat),G c->S c a->out.length<=M->body [.sl (ah out),I (c:Int)]=some (.inr (0,[.sl (ah (out++[c]))]))) :
  ∀ {c:Nat} {p:List Nat},Chain S a c p->G c->∀ out:List Nat,(out++p).length<=M->aU body [.sl (ah out),I (c:Int)]=some (0,[.sl (ah (out++p))])
 | c,_,.done s,hc,out,hl=>de (e c out hc s (by simp at hl;omega))
 | c,_,.step (y:=y) (l:=p) s hy k,hc,out,hl=>by
  have h1:=d c y out hc s hy (by simp at hl;omega)
  rw[show aU body [.sl (ah out),I (c:Int)]=aU body [.sl (ah (out++[c])),I (y:Int)] from dq h1];have:=tV f d e k (f c y hc s) (out++[c]) (by simpa using hl)
  rw[this];simp
def aai(n:Nat){l:List V}(hl:∀ x∈l,bd MV x)(hlen:l.length<=100)(hs:Ij l){m:V}{d:Int}(hF:IsF (pt l) l.length m d)(hm:bd 549755813888 m){p:List Nat}(hp:bU (pt l) l.length m d p) :
  cA (n+4) 111 [bu l,ae m,I d]=some (.sl (ah p)):=by
 have F:=hF.flat hs;obtain⟨X,R,A,J⟩:=hF.poly hs;have e:=bU.eq hs hF hp R;subst e;obtain⟨a,v,P⟩:=hp;have T:a∈bD (pt l) l.length m d:=List.mem_of_mem_head? (by rw[v];rfl)
 have H:∀ k∈bD (pt l) l.length m d,k<l.length:=λk hk=>(aD.1 hk).1;have E:∀ k∈bD (pt l) l.length m d,V.dot m (pt l k)=d:=λk hk=>(aD.1 hk).2;have L:(bD (pt l) l.length m d).length<=l.length:=by unfold bD;exact zHa (zJc _ _) (by rw[zxb];omega)
 have S:p.length<=l.length:=zHa (z4b A λz W=>((J z).1 W).1) L;have q:(l.map ae).length=l.length:=zxa ..;rw[aax]
 delta Lv qB qC qT qS qX qL qV qW qZ iL iR Jn
 have r:=λ(i:Nat) (j:i<l.length)=>GD (n+2) hm (hl _ (df j)) j2
 refine aa (z:=(0,[.sl [],I (a:Int)])) ?_ ?_
 ·refine FI (cr (λi s=>s=[.sl [],kT ((bD (pt l) i m d).head?),I (i:Int)]) l.length 0 (zqa _) rfl (λi j s u=>?_) (λs u=>?_))
  ·subst u;cases hh:(bD (pt l) i m d).head? with
   | some a'=>
    right;have:=J5 hh (zBc j);rw[v] at this;cases this;refine⟨(0,[.sl [],I (a:Int)]),?_,rfl⟩;refine j0 (l.map ae) (aa am (aa ac (aa (z:=false) (aK (by show((i:Int)<((l.map ae).length:Int));rw[q];omega) ?_) (aa ac ?_))))
    ·refine aa am ?_;rw[zca j1];rfl
    ·rfl
   | none=>
    left;have K:bD (pt l) i m d=[]:=by simpa using hh
    refine⟨[.sl [],kT ((bD (pt l) (i+1) m d).head?),I ((i+1:Nat):Int)],?_,rfl⟩;refine j0 (l.map ae) (aa am (aa ac (aa (z:=true) (aK (by show((i:Int)<((l.map ae).length:Int));rw[q];omega) (aa (am (a:=-1) (b:=0)) rfl)) (aa ac ?_))))
    rw[zja rfl];refine aa (z:=(0,[.sl [],kT ((bD (pt l) (i+1) m d).head?)])) ?_ (aa (aC (aL (i:=i) j1)) rfl)
    refine j0 (l.map ae) (aa (z:=i) (by rw[q];exact aq j) (aa (dW j) (aa (r i j) ?_)))
    rw[bY,lS,K];by_cases f:V.dot m (pt l i)=d
    ·rw[zja f,zha (show V.dot m (l.getD i V.zero)=d from f)];rfl
    ·rw[zia f,zca (show ¬ V.dot m (l.getD i V.zero)=d from f)];rfl
  ·subst u;rw[v];refine⟨(0,[.sl [],I (a:Int)]),?_,rfl⟩;refine j0 (l.map ae) (aa am (aa ac (aa (z:=false) (aO (by show ¬ ((l.length:Int)<((l.map ae).length:Int));rw[q];omega) rfl) (aa ac rfl))))
 ·refine aa (z:=(0,[.sl (ah ([]++p))])) ?_ rfl;refine tV (M:=l.length) (G:=λc=>c∈bD (pt l) l.length m d) (λc b hc C=>C.mem) (λc b out hc C N Q=>?_) (λc out hc C Q=>?_) P T [] (by simpa using S)
  all_goals
   obtain⟨g,U,o⟩:∃ g,(g=a\/g≠a)/\Side m (pt l) (bD (pt l) l.length m d) c g:=by first|exact⟨_,Classical.em _,C⟩
   refine j0 (l.map ae) (aa mY (aa ac (aK (by show(((ah out).length:Int)<=((l.map ae).length:Int));rw[q,ao];omega) ?_)))
   rw[zja (by simp only[g0,D.els,ao,zQa,zJb];omega)]
   have B:ah out++[I (c:Int)]=ah (out++[c]):=by simp[ah]
   have O:=H g o.mem;refine aa (z:=(0,[.sl (ah (out++[c])),I (g:Int)])) ?_ ?_
   ·refine FI (cr (λi s=>s=[.sl (ah (out++[c])),kT (if g<i then some g else none),I (i:Int)]) l.length 0 (zqa _) (by simp[g0,g1,D.els,B,kT]) (λi j s u=>?_) (λs u=>?_))
    ·subst u;by_cases hbi:g<i
     ·right;rw[zja hbi];refine⟨(0,[.sl (ah (out++[c])),I (g:Int)]),?_,rfl⟩;refine j0 (l.map ae) (aa am (aa ac (aa (z:=false) (aK (by show((i:Int)<((l.map ae).length:Int));rw[q];omega) ?_) (aa ac ?_))))
      ·refine aa am ?_;rw[zca j1];rfl
      ·rfl
     ·left;rw[zia hbi];refine⟨[.sl (ah (out++[c])),kT (if g<i+1 then some g else none),I ((i+1:Nat):Int)],?_,rfl⟩
      refine j0 (l.map ae) (aa am (aa ac (aa (z:=true) (aK (by show((i:Int)<((l.map ae).length:Int));rw[q];omega) (aa (am (a:=-1) (b:=0)) rfl)) (aa ac ?_))))
      rw[zja rfl];refine aa (z:=(0,[.sl (ah (out++[c])),kT (if g<i+1 then some g else none)])) ?_ (aa (aC (aL (i:=i) j1)) rfl)
      have w:=H c hc;by_cases f:i≠c/\V.dot m (pt l i)=d
      ·have t:i∈bD (pt l) l.length m d:=aD.2 ⟨j,f.2⟩;refine aa (z:=true) (by show D.truth (D.bool (!(D.beq (I (i:Int)) (I (c:Int)))))=_;rw[cW,zca f.1];rfl) (aa (z:=true) ?_ (aa ac ?_))
       ·rw[zja rfl];refine j0 (l.map ae) (aa (z:=i) (by rw[q];exact aq j) (aa (dW j) (aa (r i j) ?_)))
        rw[bY,zha (show V.dot m (l.getD i V.zero)=d from f.2)];rfl
       ·rw[zja rfl];refine j0 (l.map ae) (aa (z:=c) (by rw[q];exact aq w) (aa (dW w) (j0 (l.map ae) (aa (z:=i) (by rw[q];exact aq j) (aa (dW j) (aa (Zp n hl hlen hF.nz.1 hm w j (E c hc) f.2) (aa ac ?_)))))))
        by_cases y:i=g
        ·subst y;rw[(zp t f.1).2 o,zja rfl,zja j1];rfl
        ·have:zo l m d c i=false:=by
          rw[ztc];intro h;exact y (afY F hc ((zp t f.1).1 h) o)
         rw[this,zia (show ¬ g<i+1 by omega)];rfl
      ·have y:i≠g:=λe=>f (by subst e;exact⟨o.ne,E _ o.mem⟩)
       rw[zia (show ¬ g<i+1 by omega)]
       by_cases hic:i=c
       ·subst hic;refine aa (z:=false) (by show D.truth (D.bool (!(D.beq (I (i:Int)) (I (i:Int)))))=_;rw[cW,zha rfl];rfl) (j0 false (aa ac rfl))
       ·have A:¬ V.dot m (l.getD i V.zero)=d:=λh=>f ⟨hic,h⟩;refine aa (z:=true) (by show D.truth (D.bool (!(D.beq (I (i:Int)) (I (c:Int)))))=_;rw[cW,zca hic];rfl) (aa (z:=false) ?_ (aa ac rfl))
        rw[zja rfl];refine j0 (l.map ae) (aa (z:=i) (by rw[q];exact aq j) (aa (dW j) (aa (r i j) ?_)))
        rw[bY,zca A];rfl
    ·subst u;rw[zja O];refine⟨(0,[.sl (ah (out++[c])),I (g:Int)]),?_,rfl⟩;exact j0 (l.map ae) (aa am (aa ac (aa (z:=false) (aO (by show ¬ ((l.length:Int)<((l.map ae).length:Int));rw[q];omega) rfl) (aa ac rfl))))
   ·have hu:=afY F hc C o;subst hu;first
     | exact aa (z:=true) (by show D.truth (D.bool (D.beq (I (_:Int)) (I (_:Int))))=_;rw[cW,zha rfl];rfl) (j0 true (aa ac rfl))
     | exact aa (z:=false) (by show D.truth (D.bool (D.beq (I (_:Int)) (I (_:Int))))=_;rw[cW,zca N];rfl) (aa (z:=false) (by rw[zia j2];refine aa am ?_;rw[zca j1];rfl) (aa ac rfl))
def bw:List Nat->Nat
 | []=>0
 | d::l=>d+65536*bw l
def dl(l:List Nat):Prop:=∀ d∈l,d<65536
def dl.cons{d:Nat}{l:List Nat}(a:d<65536)(h:dl l):dl (d::l):=λx hx=>by
 rcases zEa.1 hx with rfl|hx
 ·exact a
 ·exact h x hx
def dl.append{a b:List Nat}(c:dl a)(d:dl b):dl (a++b):=λx hx=>by
 rcases List.mem_append.1 hx with hx|hx
 ·exact c x hx
 ·exact d x hx
theorem dl.getD{l:List Nat}(h:dl l)(i:Nat):l.getD i 0<65536:=by
 simp only[List.getD];cases hi:l[i]? with
 | none=>simp
 | some x=>exact h x (zlb hi)
def aE(m:Nat):List Nat:=if h:m=0 then[] else m%65536::aE (m/65536)
termination_by m
decreasing_by omega
def cm:aE 0=[]:=by unfold aE;simp
def jL{m:Nat}(h:m≠0):aE m=m%65536::aE (m/65536):=by rw[aE,dif_neg h]
def yk{d v:Nat}(a:d<65536)(h:d+65536*v≠0):aE (d+65536*v)=d::aE v:=by rw[jL h,show(d+65536*v)%65536=d by omega,show(d+65536*v)/65536=v by omega]
def ar(m:Nat):bw (aE m)=m:=by
 induction m using Nat.strongRecOn with
 | _ m ih=>
  by_cases h:m=0
  ·subst h;rw[cm];rfl
  ·rw[jL h,bw,ih _ j1];omega
def bf(m:Nat):dl (aE m):=by
 induction m using Nat.strongRecOn with
 | _ m ih=>
  by_cases h:m=0
  ·subst h;rw[cm];intro d a;cases a
  ·rw[jL h];exact dl.cons j1 (ih _ j1)
def vM{m:Nat}:aE m=[]↔m=0:=by
 constructor
 ·intro h;have:=ar m;rw[h] at this;exact this.symm
 ·rintro rfl;exact cm
def sT(i:Nat):∀ m,(aE m).getD i 0=m/65536^i%65536:=by
 induction i with
 | zero=>
  intro m;by_cases h:m=0
  ·subst h;rw[cm];simp
  ·rw[jL h];simp
 | succ i ih=>
  intro m;by_cases h:m=0
  ·subst h;rw[cm];simp
  ·rw[jL h];show(aE (m/65536)).getD i 0=_;rw[ih,z2a,zAb,zRa 65536]
def bE(k:Nat):∀ m,m<65536^k->(aE m).length<=k:=by
 induction k with
 | zero=>
      intro m h;have:m=0:=by simpa using h
      subst this;rw[cm];simp
 | succ k ih=>
  intro m h;by_cases h0:m=0
  ·subst h0;rw[cm];simp
  ·rw[jL h0,zQa];have:=ih (m/65536) (by rw[zAb] at h;exact zRc (by rw[zRa];exact h))
   omega
def nP(a b:List Nat):bw (a++b)=bw a+65536^a.length*bw b:=by
 induction a with
 | nil=>simp[bw]
 | cons d a ih=> simp only[zFb,bw,ih,zQa,zAb];rw[zac,<-z8a,zRa 65536 (65536^a.length)];omega
def pO(l:List Nat)(n:Nat):bw (l++List.replicate n 0)=bw l:=by
 rw[nP];have:∀ n,bw (List.replicate n 0)=0:=λn=>by
  induction n with
  | zero=>rfl
  | succ n ih=>rw[List.replicate_succ,bw,ih]
 rw[this];simp
def vt(l:List Nat):Nat->Nat
 | 0=>0
 | k+1=>vt l k+l.getD k 0*65536^k
def O5(d:Nat)(l:List Nat)(k:Nat):vt (d::l) (k+1)=d+65536*vt l k:=by
 induction k with
 | zero=>simp[vt]
 | succ k ih=> rw[vt,ih,vt,zac];have:(d::l).getD (k+1) 0=l.getD k 0:=rfl;rw[this,zAb,<-z8a,<-z8a,zRa 65536 (l.getD k 0),z8a,zRa (65536^k),<-z8a];omega
def ox(l:List Nat):vt l l.length=bw l:=by
 induction l with
 | nil=>rfl
 | cons d l ih=>rw[zQa,O5,ih];rfl
def jy{l:List Nat}{k:Nat}(h:l.length<=k):vt l k=bw l:=by
 obtain⟨j,rfl⟩:∃ j,k=l.length+j:=⟨k-l.length,j1⟩
 clear h
 induction j with
 | zero=>exact ox l
 | succ j ih=>
  rw[<-zVb,vt,ih];have:l.getD (l.length+j) 0=0:=by simp[List.getD]
  rw[this];simp
def xt{l:List Nat}(h:dl l)(k:Nat):vt l k<65536^k:=by
 induction k with
 | zero=>simp[vt]
 | succ k ih=>
  have h1:=h.getD k;have h2:l.getD k 0*65536^k<=65535*65536^k:=zIa _ j1
  rw[vt,zAb,zRa (65536^k)];omega
def mB{l:List Nat}(h:dl l):bw l<65536^l.length:=by rw[<-ox];exact xt h _
def mh:List Nat->List Nat
 | []=>[]
 | d::l=>match mh l with
  | []=>if d=0 then[] else[d]
  | x::t=>d::x::t
def jc{l:List Nat}(h:dl l):mh l=aE (bw l):=by
 induction l with
 | nil=>rw[bw,cm];rfl
 | cons d l ih=>
  have a:d<65536:=h d zva;have ih:=ih λx hx=>h x (zoa _ hx);rw[mh,ih,bw];by_cases hv:bw l=0
  ·rw[hv,cm];by_cases h0:d=0
   ·subst h0;simp[cm]
   ·rw[yk a j1,cm];simp[h0]
  ·rw[yk a j1,jL hv]
def EI{l:List Nat}(h:∀ i,i<l.length->l.getD i 0=0):mh l=[]:=by
 induction l with
 | nil=>rfl
 | cons d l ih=>
  have h0:d=0:=h 0 j3
  rw[mh,ih (λi a=>h (i+1) (by simpa using a)),h0];simp
theorem zA:∀ {l:List Nat} {n:Nat},n<=l.length->(∀ i,n<=i->i<l.length->l.getD i 0=0)->(n=0\/l.getD (n-1) 0≠0)->l.take n=mh l
 | [],n,_,_,_=>by simp[mh]
 | d::l,0,_,a,_=>by rw[EI (λi b=>a i j1 b)];rfl
 | d::l,n+1,hn,a,hl=>by
  have hl':(d::l).getD n 0≠0:=by
   rcases hl with h|h
   ·omega
   ·exact h
  have ih:l.take n=mh l:=zA (l:=l) (n:=n) (by simpa using hn) (λi h1 h2=>a (i+1) j1 (by simpa using h2)) (by
   cases n with
   | zero=>exact .inl rfl
   | succ k=>exact .inr hl')
  rw[zfc,ih,mh];cases ht:mh l with
  | nil=>
   rw[ht] at ih;have:n=0:=by
    cases n with
    | zero=>rfl
    | succ k=>cases l with
     | nil=>simp at hn
     | cons e l=>simp at ih
   subst this;have:d≠0:=hl';simp[this]
  | cons x t=>rfl
def dK{l:List Nat}{i:Nat}(h:i<l.length):(ah l)[i]?=some (I (l.getD i 0:Nat)):=mE h
def yr(a:List Nat)(d:Nat):ah a++[I (d:Int)]=ah (a++[d]):=by simp[ah]
def Bz(n:Nat){l:List Nat}(hl:l.length<=1000000):cA (n+1) 140 [.sl (ah l)]=some (.sl (ah (mh l))):=by
 rw[aaU]
 delta LU qB qC qT qS qX qZ iL iR Jn
 refine j0 (ah l) ?_;have fin:∀ j:Nat,j<=l.length->(∀ i,j<=i->i<l.length->l.getD i 0=0)->(j=0\/l.getD (j-1) 0≠0)->((D.asSl (.sl (ah l))).bind λf=>(D.natOf (I (j:Int))).bind λi14=>(D.cut f 0 i14).bind λg=>some (D.sl g))=some (.sl (ah (mh l))):=by
  intro j h a m;refine j0 (ah l) (aa (z:=j) (by simp[D.natOf]) (aa (z:=ah (l.take j)) ?_ (by rw[zA h a m])))
  simp only[D.cut];rw[zja ⟨zqa _,by rw[ao];exact h⟩]
  simp[ah,List.map_take]
 refine bR (λi s=>s=[I ((l.length-i:Nat):Int)]/\∀ k,l.length-i<=k->k<l.length->l.getD k 0=0) l.length 0 (zqa _) ⟨by rw[ao];rfl,λk h1 h2=>j1⟩ (λi o s c=>?_) (λs c=>?_)
 ·obtain⟨rfl,a⟩:=c;have d:inR (((l.length-i:Nat):Int)-1):=by simp only[inR];omega
  have b:((l.length-i:Nat):Int)-1=((l.length-i-1:Nat):Int):=j1
  have hx:(ah l)[l.length-i-1]?=some (I (l.getD (l.length-i-1) 0:Nat)):=dK j1
  by_cases h0:l.getD (l.length-i-1) 0=0
  ·left;refine⟨[I ((l.length-(i+1):Nat):Int)],?_,rfl,λk h1 h2=>?_⟩
   ·refine aa cK (aa ac (aa (z:=true) (aK (by show((l.length-i:Nat):Int)>0;omega) ?_) (aa ac ?_)))
    ·refine aa (ct d) (j0 (ah l) (aa (z:=l.length-i-1) (by rw[b,ao];exact aq j1) (aa hx ?_)))
     rw[h0];rfl
    ·rw[zja rfl];refine aa (ct d) ?_;rw[b,Nat.sub_sub]
   ·by_cases e:k=l.length-i-1
    ·rw[e];exact h0
    ·exact a k j1 h2
  ·right;refine⟨(0,[I ((l.length-i:Nat):Int)]),?_,fin _ j1 a (.inr h0)⟩
   refine aa cK (aa ac (aa (z:=false) (aK (by show((l.length-i:Nat):Int)>0;omega) ?_) (aa ac rfl)))
   refine aa (ct d) (j0 (ah l) (aa (z:=l.length-i-1) (by rw[b,ao];exact aq j1) (aa hx ?_)))
   rw[bY,zca j1];rfl
 ·obtain⟨rfl,a⟩:=c;refine⟨(0,[I ((l.length-l.length:Nat):Int)]),?_,fin _ j1 a (.inl j1)⟩
  refine aa cK (aa ac (aa (z:=false) (aO (by show ¬ ((l.length-l.length:Nat):Int)>0;omega) rfl) (aa ac rfl)))
def DA(n:Nat)(l:List Nat)(k:Nat):cA (n+1) 141 [.sl (ah l),I (k:Int)]=some (I (l.getD k 0:Nat)):=by
 rw[aaV]
 delta LV qX qL Jn
 refine j0 (ah l) (aa am (aa ac ?_));by_cases h:k<l.length
 ·refine aK (by show(k:Int)<((ah l).length:Int);rw[ao];omega) ?_
  exact j0 (ah l) (aa (z:=k) (by rw[ao];exact aq h) (aa (dK h) rfl))
 ·refine aO (by show ¬ (k:Int)<((ah l).length:Int);rw[ao];omega) ?_
  have:l.getD k 0=0:=by simp[List.getD,h]
  rw[this];rfl
def fP(l:List Nat)(i:Nat):Nat:=l.getD (2*i) 0+65536*l.getD (2*i+1) 0
abbrev U(n:Nat):D:=.int .u32 (n:Int)
def fl(l:List Nat):D:=.st ((List.range 16).map λi=>U (fP l i))
def af(x:Int):D:=.st [.bool false,.bool (decide (x<0)),fl (aE x.natAbs)]
def Aq{l:List Nat}(h:dl l)(i:Nat):fP l i<4294967296:=by have:=h.getD (2*i);have:=h.getD (2*i+1);unfold fP;omega
def ws{l:List Nat}{i:Nat}(h:i<16):D.fld (fl l) i=some (U (fP l i)):=by simp[fl,D.fld,h]
def dH{x:Int}{i:Nat}(h:i<16):D.get (af x) [2,i]=some (U (fP (aE x.natAbs) i)):=
 j0 (fl (aE x.natAbs)) (aa (ws h) rfl)
def rW{n:Int}(h:0<=n/\n<4294967296):IntKind.wrap .u32 n=n:=by
 obtain⟨h1,h2⟩:=h;simp only[IntKind.wrap,IntKind.signed,IntKind.bits];first
  | omega
  | (simp;omega)
def Qf(a:Nat):afn .rem (U a) (.int .u32 65536)=some (U (a%65536)):=by
 simp only[afn,if_true,show ¬ (65536:Int)=0 by decide,if_false]
 rw[show(65536:Int)=((65536:Nat):Int) from rfl,<-zvd]
def Qe{a:Nat}(h:a<4294967296):afn .quo (U a) (.int .u32 65536)=some (U (a/65536)):=by
 simp only[afn,if_true,show ¬ (65536:Int)=0 by decide,if_false]
 rw[show(65536:Int)=((65536:Nat):Int) from rfl,<-zLd,rW j1]
def Ix{a b:Nat}(h:a+b<4294967296):afn .add (U a) (U b)=some (U (a+b)):=by simp only[afn,if_true];rw[rW j1];simp
def Qd{a b:Nat}(h:a*b<4294967296):afn .mul (U a) (U b)=some (U (a*b)):=by simp only[afn,if_true];rw[show(a:Int)*(b:Int)=((a*b:Nat):Int) by simp,rW j1]
def uQ{a:Nat}(h:a<4294967296):D.conv .i64 (U a)=some (I (a:Int)):=by simp only[D.conv];rw[jz (by simp only[inR];omega)]
def Fd{a:Nat}(h:a<4294967296):D.conv .u32 (I (a:Int))=some (U a):=by simp only[D.conv];rw[rW j1]
def Em(l:List Nat)(k:Nat):((List.range k).map λi=>l.getD i 0)=if k<=l.length then l.take k else l++List.replicate (k-l.length) 0:=by
 apply zrc;intro i;by_cases h:i<k
 ·rw[zmb,zmd h];split
  ·simp[h,List.getD,show i<l.length by omega]
  ·by_cases h2:i<l.length
   ·simp[zSc,h2,List.getD]
   ·simp[zSc,h2,List.getD,List.getElem?_replicate,show i-l.length<k-l.length by omega]
 ·rw[zmb,show(List.range k)[i]?=none by simp;omega]
  split
  ·simp;omega
  ·simp;omega
def KO{l:List Nat}(a:dl l){k:Nat}(hk:l.length<=k):mh ((List.range k).map λi=>l.getD i 0)=aE (bw l):=by
 have e:((List.range k).map λi=>l.getD i 0)=l++List.replicate (k-l.length) 0:=by
  rw[Em];split
  ·have:k=l.length:=j1
   subst this;simp
  ·rfl
 rw[e,jc (a.append (λx hx=>by rw[zzd hx];decide)),pO]
def uP(n:Nat){x:Int}(hx:x.natAbs<65536^32):cA (n+2) 77 [af x]=some (.sl (ah (aE x.natAbs))):=by
 rw[u77]
 delta US qG qB qC qV qW qZ iL iR Jn
 have c:=bf x.natAbs;have hlen:=bE 32 _ hx;refine bR (λi s=>s=[.sl (ah ((List.range (2*i)).map λi=>(aE x.natAbs).getD i 0)),I (i:Int)]) 16 0 (zqa _) rfl (λi a s b=>?_) (λs b=>?_)
 ·subst b;left;refine⟨_,?_,rfl⟩;refine aa am (aa ac (aK (by show(i:Int)<16;omega) ?_))
  have d:=Aq c i;have h1:=c.getD (2*i);refine aa (z:=i) (aq a) (aa (dH a) (aa (Qf _) (aa (uQ j1) (aa (z:=i) (aq a) (aa (dH a) (aa (Qe d) (aa (uQ j1) ?_)))))))
  rw[zja (by simp only[g0,D.els,ao,zxa,zxb,zQa,zJb];omega)]
  refine aa (aC (aL (i:=i) j1)) ?_
  have e:fP (aE x.natAbs) i%65536=(aE x.natAbs).getD (2*i) 0:=by unfold fP;omega
  have f:fP (aE x.natAbs) i/65536=(aE x.natAbs).getD (2*i+1) 0:=by unfold fP;omega
  rw[e,f,show 2*(i+1)=2*i+1+1 by omega,zkc,zkc]
  simp[g0,D.els,ah]
 ·subst b;refine⟨(0,[.sl (ah ((List.range (2*16)).map λi=>(aE x.natAbs).getD i 0))]),?_,?_⟩
  ·exact aa am (aa ac (aO j2 rfl))
  ·refine aa (Bz n j3) ?_
   rw[KO c hlen,ar]
def mf(l:List Nat)(k j:Nat):(l.take k).getD j 0=if j<k then l.getD j 0 else 0:=by simp only[List.getD,List.getElem?_take];split<;>simp
def wu{l l':List Nat}{q v:Nat}{a b:D}(hq:q<16)(h:∀ i,fP l' i=if i=q then v else fP l i):D.set (.st [a,b,fl l]) [2,q] (U v)=some (.st [a,b,fl l']):=by
 have h1:D.set (fl l) [q] (U v)=some (fl l'):=by
  have e:((List.range 16).map λi=>U (fP l i))[q]?=some (U (fP l q)):=by simp[hq]
  refine aa e (j0 (U v) ?_);simp only[fl,zea,D.st.injEq];apply zrc;intro i;rw[List.getElem?_set];by_cases c:q=i
  ·subst c;simp[hq,h]
  ·rw[zia c,zmb,zmb];by_cases h16:i<16
   ·rw[zmd h16];simp[h,show i≠q from λe=>c e.symm]
   ·rw[show(List.range 16)[i]?=none by simp;omega];rfl
 exact j0 (fl l) (aa h1 rfl)
def Qa(k:Nat):afn .rem (I (k:Int)) (.int .i64 2)=some (I (k%2:Nat)):=by rw[lr j2,show(2:Int)=((2:Nat):Int) from rfl,<-zvd]
def kP{a b:Nat}(d:b≠0)(c:(a:Int)<=9223372036854775807):afn .quo (I (a:Int)) (I (b:Int))=some (I (a/b:Nat)):=by
 have:((a/b:Nat):Int)<=9223372036854775807:=by have:=zwc a b;omega
 have h0:0<=((a/b:Nat):Int):=Int.natCast_nonneg _;rw[nD j1 (by rw[<-zLd];simp only[inR];omega),<-zLd]
def nE{a b:Nat}(c:b≠0):afn .rem (I (a:Int)) (I (b:Int))=some (I (a%b:Nat)):=by rw[lr j1,<-zvd]
def B6{a b:D}{l:List Nat}{i:Nat}(h:i<16):D.get (.st [a,b,fl l]) [2,i]=some (U (fP l i)):=
 j0 (fl l) (aa (ws h) rfl)
def sgn(neg:Bool)(m:Nat):Int:=if neg then -(m:Int) else m
def Lg(n:Nat){l:List Nat}{neg:Bool}(p:dl l)(hl:l.length<=1000000)(t:bw l<65536^32):cA (n+2) 81 [.bool neg,.sl (ah l)]=some (af (sgn neg (bw l))):=by
 rw[u81]
 delta Ss qG qB qC qT qS qX qL qZ iL iR Jn
 have hlen:=bE 32 _ t;have e:=bf (bw l);have j:af (sgn neg (bw l))=.st [.bool false,.bool (neg&&decide (0<(aE (bw l)).length)),fl (aE (bw l))]:=by
  have m:(sgn neg (bw l)).natAbs=bw l:=by unfold sgn;split<;>omega
  have o:(0<(aE (bw l)).length)↔bw l≠0:=by rw[List.length_pos_iff];exact not_congr vM
  unfold af;rw[m];have:decide (sgn neg (bw l)<0)=(neg&&decide (0<(aE (bw l)).length)):=by
   simp only[o,sgn];cases neg
   ·simp<;>omega
   ·by_cases h:bw l=0
    ·simp[h]
    ·simp[h]<;>omega
  rw[this]
 rw[j];refine aa (Bz n hl) ?_;rw[jc p];generalize aE (bw l)=d at hlen e;refine j0 (ah d) (aa cK (aa ac (aO (by show ¬ ((ah d).length:Int)>32;rw[ao];omega) ?_)))
 refine aa ac (aa (z:=neg&&decide (0<d.length)) ?_ ?_)
 ·cases neg
  ·rfl
  ·rw[zja rfl];refine j0 (ah d) (aa cK ?_);rw[ac,ao];simp
 refine bR (λk s=>s=[I (k:Int),.st [.bool false,.bool (neg&&decide (0<d.length)),fl (d.take k)]]) d.length 0 (zqa _) rfl (λk hk s g=>?_) (λs g=>?_)
 ·subst g;left;refine⟨_,?_,rfl⟩;have r:=e.getD k;refine j0 (ah d) (aa am (aa ac (aK (by show(k:Int)<((ah d).length:Int);rw[ao];omega) ?_)))
  refine aa (z:=(0,[.st [.bool false,.bool (neg&&decide (0<d.length)),fl (d.take (k+1))]])) ?_ (aa (aC (aL (i:=k) j1)) rfl)
  refine aa (Qa k) ?_;have c:k/2<16:=j1
  have hq:afn .quo (I (k:Int)) (.int .i64 2)=some (I (k/2:Nat)):=kP (b:=2) j2 j1
  have a:fP (d.take k) (k/2)=if k%2=0 then 0 else d.getD (2*(k/2)) 0:=by
   simp only[fP,mf];by_cases hk2:k%2=0
   ·rw[zja hk2,zia (show ¬ 2*(k/2)<k by omega),zia (show ¬ 2*(k/2)+1<k by omega)]
   ·rw[zia hk2,zja (show 2*(k/2)<k by omega),zia (show ¬ 2*(k/2)+1<k by omega)];omega
  have q:=e.getD (2*(k/2));by_cases hk2:k%2=0
  ·rw[zja hk2] at a;rw[hk2];refine j0 true ?_;rw[zja rfl];refine aa hq (aa hq (aa (aq c) (aa (B6 c) (j0 (ah d) (aa (z:=k) (by rw[ao];exact aq hk) (aa (dK hk) (aa (Fd j1) (aa (Ix (by rw[a];omega)) (aa (aq c) (aa (wu c (l':=d.take (k+1)) ?_) rfl))))))))))
   intro i;by_cases f:i=k/2
   ·rw[zja f,a,f];simp only[fP,mf];rw[zja (show 2*(k/2)<k+1 by omega),zia (show ¬ 2*(k/2)+1<k+1 by omega),show 2*(k/2)=k by omega];omega
   ·rw[zia f];simp only[fP,mf];have a1:(2*i<k+1)↔(2*i<k):=j1
    have a2:(2*i+1<k+1)↔(2*i+1<k):=j1
    simp only[a1,a2]
  ·rw[zia hk2] at a;refine aa (z:=false) (by rw[show k%2=1 by omega];rfl) ?_
   rw[zia j2]
   refine aa hq (aa hq (aa (aq c) (aa (B6 c) (j0 (ah d) (aa (z:=k) (by rw[ao];exact aq hk) (aa (dK hk) (aa (Fd j1) (aa (Qd (b:=65536) j1) (aa (Ix (by rw[a];omega)) (aa (aq c) (aa (wu c (l':=d.take (k+1)) ?_) rfl)))))))))))
   intro i;by_cases f:i=k/2
   ·rw[zja f,a,f];simp only[fP,mf];rw[zja (show 2*(k/2)<k+1 by omega),zja (show 2*(k/2)+1<k+1 by omega),show 2*(k/2)+1=k by omega];omega
   ·rw[zia f];simp only[fP,mf];have a1:(2*i<k+1)↔(2*i<k):=j1
    have a2:(2*i+1<k+1)↔(2*i+1<k):=j1
    simp only[a1,a2]
 ·subst g;refine⟨(0,[.st [.bool false,.bool (neg&&decide (0<d.length)),fl (d.take d.length)]]),?_,?_⟩
  ·exact j0 (ah d) (aa am (aa ac (aO (by show ¬ (d.length:Int)<((ah d).length:Int);rw[ao];omega) rfl)))
  ·rw[zub];rfl
def Z5(n:Nat){a b:List Nat}(t:dl a)(u:dl b)(E:a.length<=900000)(F:b.length<=900000):cA (n+2) 82 [.sl (ah a),.sl (ah b)]=some (.sl (ah (aE (bw a+bw b)))):=by
 rw[u82]
 delta UW qB qC qS qV qW qZ iL iR Jn
 obtain⟨M,A⟩:∃ M,M=max a.length b.length:=⟨_,rfl⟩;have f:∀ k:Nat,D.max2 (D.int .i64 (ah a).length) (D.int .i64 (ah b).length)=some (I (M:Int)):=λ_=>by rw[FK,ao,ao,A];congr 2;omega
 refine bR (λk s=>∃ (out:List Nat) (c:Nat),s=[.sl (ah out),I (c:Int),I (k:Int)]/\out.length=k/\dl out/\c<=1/\bw out+c*65536^k=vt a k+vt b k) (M+1) 0 (zqa _) ⟨[],0,rfl,rfl,(by intro d C;cases C),j1,by simp[bw,vt]⟩ (λk hk s j=>?_) (λs j=>?_)
 ·obtain⟨out,c,rfl,o,g,hc,p⟩:=j;left;have h1:=t.getD k;have h2:=u.getD k;refine⟨[.sl (ah (out++[(a.getD k 0+b.getD k 0+c)%65536])),I ((a.getD k 0+b.getD k 0+c)/65536:Nat),I ((k+1:Nat):Int)],?_,out++[(a.getD k 0+b.getD k 0+c)%65536],(a.getD k 0+b.getD k 0+c)/65536,rfl,by simp[o],g.append (λx hx=>by simp at hx;omega),j1,?_⟩
  ·refine j0 (ah a) (j0 (ah b) (aa (f 0) (aa (aC (aL (i:=M) j1)) (aa am (aa ac (aK (by show(k:Int)<(M:Int)+1;omega) ?_))))))
   refine aa (DA n a k) (aa (DA n b k) (aa (aC (by simp only[inR];omega)) (aa (aC (by simp only[inR];omega)) ?_)))
   rw[show(((a.getD k 0:Nat):Int)+((b.getD k 0:Nat):Int)+(c:Int))=((a.getD k 0+b.getD k 0+c:Nat):Int) by omega]
   refine aa (nE (b:=65536) j2) ?_
   rw[zja (by simp only[g0,D.els,ao,zQa,zJb];omega)]
   refine aa (kP (b:=65536) j2 j1) (aa (aC (aL (i:=k) j1)) ?_)
   simp only[g0,D.els,yr];rfl
  ·rw[nP,o,vt,vt,zAb];have e:a.getD k 0+b.getD k 0+c=(a.getD k 0+b.getD k 0+c)%65536+65536*((a.getD k 0+b.getD k 0+c)/65536):=j1
   have y:bw [(a.getD k 0+b.getD k 0+c)%65536]=(a.getD k 0+b.getD k 0+c)%65536:=by simp[bw]
   rw[y];generalize 65536^k=B at *;generalize (a.getD k 0+b.getD k 0+c)%65536=r at *;generalize (a.getD k 0+b.getD k 0+c)/65536=q at *;have:(a.getD k 0+b.getD k 0+c)*B=(r+65536*q)*B:=by rw[e]
   rw[zhb,zhb,zhb] at this;rw[show q*(B*65536)=65536*q*B by rw[zRa B,<-z8a,zRa q],zRa B r]
   omega
 ·obtain⟨out,c,rfl,o,g,hc,p⟩:=j;refine⟨(0,[.sl (ah out)]),?_,?_⟩
  ·refine j0 (ah a) (j0 (ah b) (aa (f 0) (aa (aC (aL (i:=M) j1)) (aa am (aa ac (aO (by show ¬ (((M+1:Nat):Int)<(M:Int)+1);omega) rfl))))))
  ·refine aa (Bz n (l:=out) j1) ?_
   have v:vt a (M+1)=bw a:=jy j1
   have w:vt b (M+1)=bw b:=jy j1
   have la:=xt t M;have lb:=xt u M;rw[jy (show a.length<=M by omega)] at la
   rw[jy (show b.length<=M by omega)] at lb
   have m:c=0:=by
    rcases zNb c with h|h
    ·exact h
    ·have:1*65536^(M+1)<=c*65536^(M+1):=zIa _ h;rw[zAb] at this;rw[v,w,zAb] at p;omega
   subst m;rw[jc g,<-v,<-w,<-p];simp
def zP(n:Nat){x:Int}(hx:inR x):cA (n+3) 34 [I x]=some (af x):=by
 rw[u34]
 delta UA qB qC Jn
 obtain⟨h1,h2⟩:=hx;have d1:∀ m:Nat,(m:Int)<=9223372036854775807->dl [m%65536,m/65536%65536,m/4294967296%65536,m/281474976710656]:=λm hm d c=>by simp only[zEa,zxc,or_false] at c;omega
 have d2:∀ m:Nat,bw [m%65536,m/65536%65536,m/4294967296%65536,m/281474976710656]=m:=λm=>by simp only[bw];omega
 have d3:∀ m:Nat,D.sl [I (m%65536:Nat),I (m/65536%65536:Nat),I (m/4294967296%65536:Nat),I (m/281474976710656:Nat)]=.sl (ah [m%65536,m/65536%65536,m/4294967296%65536,m/281474976710656]):=λm=>rfl;have a:∀ m:Nat,(m:Int)<=9223372036854775808->m<65536^32:=λm hm=>by
  have:(65536:Nat)^4<=65536^32:=zta j2 j2
  have e:(65536:Nat)^4=18446744073709551616:=j2
  omega
 refine aa fR (aa ac ?_);by_cases h:x ≥ 0
 ·refine aK h ?_;obtain⟨m,rfl⟩:=zEc h;refine aa (nE (b:=65536) j2) (aa (kP (b:=65536) j2 h2) (aa (nE (b:=65536) j2) (aa (kP (b:=4294967296) j2 h2) (aa (nE (b:=65536) j2) (aa (kP (b:=281474976710656) j2 h2) ?_)))))
  refine aa (z:=af m) ?_ rfl;rw[d3,Lg n (d1 m h2) j3 (by rw[d2];exact a m j1),d2];rfl
 ·refine aO h ?_;obtain⟨m,hm⟩:=zEc (show 0<=-(x+1) by omega)
  have h3:(m:Int)<=9223372036854775807:=j1
  refine aa (aC (by simp only[inR];omega)) (aa (ou (by simp only[inR];omega)) ?_)
  rw[hm];refine aa (nE (b:=65536) j2) (aa (kP (b:=65536) j2 h3) (aa (nE (b:=65536) j2) (aa (kP (b:=4294967296) j2 h3) (aa (nE (b:=65536) j2) (aa (kP (b:=281474976710656) j2 h3) ?_)))))
  rw[d3];refine aa (Z5 n (b:=[1]) (d1 m h3) (λd c=>by simp at c;omega) j3 j3) (aa (z:=af x) ?_ rfl)
  rw[d2];have f:bw [1]=1:=rfl;rw[f,Lg n (bf _) ?_ ?_,ar]
  ·congr 2;simp only[sgn,if_true];omega
  ·have:=bE 32 _ (a (m+1) j1);omega
  ·rw[ar];exact a (m+1) j1
def In(x:Int):Prop:=x.natAbs<65536^32
def In.of{x:Int}(h:inR x):In x:=by
 have:(65536:Nat)^4<=65536^32:=zta j2 j2
 have e:(65536:Nat)^4=18446744073709551616:=j2
 obtain⟨h1,h2⟩:=h;unfold In;omega
def jF(m i:Nat):fP (aE m) i=m/4294967296^i%4294967296:=by
 have a:65536^(2*i)=4294967296^i:=by rw[Nat.pow_mul]
 have b:65536^(2*i+1)=4294967296^i*65536:=by rw[zAb,a]
 unfold fP;rw[sT,sT,a,b,<-z2a];generalize m/4294967296^i=q;omega
def PM(m:Nat):fP (aE m) 0=m%4294967296:=by rw[jF,zAc,z1c]
def JI(m:Nat):fP (aE m) 1=m/4294967296%4294967296:=by rw[jF,Nat.pow_one]
def TJ{m i:Nat}(h:m<18446744073709551616)(a:2<=i):fP (aE m) i=0:=by
 rw[jF];have:(4294967296:Nat)^2<=4294967296^i:=zta j2 a
 rw[zib j1]
def Pe{a b:Nat}:D.beq (U a) (U b)=decide (a=b):=by
 simp only[D.beq,decide_true,zqb];by_cases h:a=b
 ·simp[h]
 ·simp[h];omega
def wv{m:Nat}(hm:m<65536^32)(h:∀ i,i<16->fP (aE m) i=0):m=0:=by
 have b:∀ i,i<32->(aE m).getD i 0=0:=λi c=>by
  have:=h (i/2) j1
  unfold fP at this;rcases Nat.mod_two_eq_zero_or_one i with e|e
  ·rw[show 2*(i/2)=i by omega] at this;omega
  ·rw[show 2*(i/2)+1=i by omega] at this;omega
 have a:∀ k,k<=32->vt (aE m) k=0:=λk=>by
  induction k with
  | zero=>intro _;rfl
  | succ k ih=>intro hk;rw[vt,ih j1,b k j1];simp
 have:=a 32 j1
 rw[jy (bE 32 _ hm),ar] at this;exact this
def zB(m i:Nat):Bool:=(List.range i).all λk=>decide (fP (aE m) k=0)
def O8(m i:Nat):zB m (i+1)=(zB m i&&decide (fP (aE m) i=0)):=by unfold zB;rw[zkc,zod];simp
def Zk(n:Nat){x:Int}(hx:In x):cA (n+1) 139 [af x]=some (.bool true):=by
 rw[Ub]
 delta H4 qG qB qC qT qN qZ iL iR Jn
 have fin:∀ z:Bool,(z=true->x=0)->((D.get (af x) [0]).bind λj=>(D.truth j).bind λb=>
   if b then((D.truth (.bool z)).bind λc=>Option.bind (if c then((D.get (af x) [1]).bind λk=>(afB .not k).bind λl=>D.truth l) else(some false)) λd=>
   some (D.bool d)) else((afB .not (.bool z)).bind λm=>(D.truth m).bind λe=>
   Option.bind (if e then(some true) else((D.get (af x) [1]).bind λo=>(afB .not o).bind λp=>D.truth p)) λf=>some (D.bool f)))=some (.bool true):=by
  intro z q;refine j0 (.bool false) (j0 false ?_);rw[zia j2]
  refine j0 (.bool (!z)) (j0 (!z) ?_);cases z with
  | false=>rfl
  | true=> have:=q rfl;subst this;rfl
 refine bR (λi s=>s=[.bool (zB x.natAbs i),I (i:Int)]) 16 0 (zqa _) rfl (λi a s g=>?_) (λs g=>?_)
 ·subst g;left;refine⟨_,?_,rfl⟩;refine aa am (aa ac (aK (by show(i:Int)<16;omega) (aa ac (aa (z:=zB x.natAbs (i+1)) ?_ (aa (aC (aL (i:=i) j1)) rfl)))))
  rw[O8];cases zB x.natAbs i with
  | false=>rfl
  | true=> rw[zja rfl];refine aa (aq a) (aa (dH a) ?_);show D.truth (D.bool (D.beq (U (fP (aE x.natAbs) i)) (U 0)))=_;rw[Pe,ac];rfl
 ·subst g;refine⟨(0,[.bool (zB x.natAbs 16)]),?_,?_⟩
  ·exact aa am (aa ac (aO j2 rfl))
  ·refine fin _ λh=>?_;have:=wv hx (λi a=>of_decide_eq_true (zDa.1 h i (z0a.2 a)));omega
def sa(n:Nat){x:Int}(hx:In x):cA (n+2) 76 [af x]=some (.bool true):=by
 rw[u76]
 delta Sr qG qT
 exact aa (Zk n hx) (aa ac rfl)
def pL(n:Nat){x:Int}(hx:x.natAbs<4611686018427387904):cA (n+3) 124 [af x]=some (.tup [I x,.bool true]):=by
 have b:In x:=In.of (by simp only[inR];omega)
 rw[RB]
 delta Gu qG qB qC qT qN qZ iL iR Jn
 have d:=JI x.natAbs;refine aa (sa n b) (aa aV (aa ac (aa (z:=false) ?_ (aa ac ?_))))
 ·rw[zia j2]
  refine aa (dH (i:=1) j2) ?_
  rw[d];have:afn .geq (U (x.natAbs/4294967296%4294967296)) (.int .u32 1073741824)=some (.bool false):=by simp only[afn,if_true];rw[zca j1]
  exact aa this rfl
 ·rw[zia j2]
  refine bR (λi s=>s=[I (i:Int)]/\2<=i) 16 2 j2 ⟨rfl,j2⟩ (λi c s a=>?_) (λs a=>?_)
  ·obtain⟨rfl,h2⟩:=a;left;refine⟨_,?_,rfl,j1⟩
   refine aa am (aa ac (aK (by show(i:Int)<16;omega) ?_))
   refine aa (aq c) (aa (dH c) ?_);rw[TJ j1 h2]
   refine j0 false ?_;rw[zia j2]
   exact aa (aC (aL (i:=i) j1)) rfl
  ·obtain⟨rfl,_⟩:=a;refine⟨(1,[]),aa am (aa ac (aO j2 rfl)),?_⟩
   rw[zia j2]
   have e:=PM x.natAbs;refine aa (dH (i:=1) j2) (aa (uQ (Aq (bf _) 1)) ?_)
   rw[d];refine aa (bK (by simp only[inR];omega)) (aa (dH (i:=0) j2) (aa (uQ (Aq (bf _) 0)) ?_))
   rw[e];refine aa (aC (by simp only[inR];omega)) (j0 (.bool (decide (x<0))) (aa ac ?_))
   by_cases hx0:x<0
   ·refine aK hx0 ?_;refine aa (ou (by simp only[inR];omega)) ?_
    congr 4;omega
   ·refine aO hx0 ?_;congr 4;omega
def Zl(n:Nat){x:Int}(hx:In x):cA (n+3) 142 [af x]=some (af x.natAbs):=by
 rw[aaW]
 delta LW qN
 have hl:=bE 32 _ hx;refine aa (sa n hx) (aa aV (aa ac ?_));refine aa (uP n hx) (aa (z:=af x.natAbs) ?_ rfl);rw[Lg n (bf _) j1 (by rw[ar];exact hx),ar];rfl
def U9(n:Nat){a b:List Nat}(p:dl a)(q:dl b)(r:a.length<=900000)(t:b.length<=900000):cA (n+2) 78 [.sl (ah a),.sl (ah b)]=some (.bool (decide (bw a<bw b))):=by
 rw[u78]
 delta UT qB qC qT qS qZ iL iR Jn
 obtain⟨M,o⟩:∃ M,M=max a.length b.length:=⟨_,rfl⟩;have c:D.max2 (D.int .i64 (ah a).length) (D.int .i64 (ah b).length)=some (I (M:Int)):=by rw[FK,ao,ao,o];congr 2;omega
 have f:vt a M=bw a:=jy j1
 have g:vt b M=bw b:=jy j1
 refine j0 (ah a) (j0 (ah b) (aa c (aa (ct (by simp only[inR];omega)) ?_)))
 refine bR (λi s=>s=[I ((M:Int)-1-i)]/\(bw a<bw b↔vt a (M-i)<vt b (M-i))) M 0 (zqa _) ⟨j3,by simp[f,g]⟩ (λi w s e=>?_) (λs e=>?_)
 ·obtain⟨rfl,d⟩:=e;obtain⟨k,hk⟩:∃ k,M-i=k+1:=⟨M-i-1,j1⟩
  rw[hk,vt,vt] at d;have m:(M:Int)-1-i=(k:Int):=j1
  rw[m];have la:=xt p k;have lb:=xt q k;have j:=DA n a k;have l:=DA n b k;by_cases hab:a.getD k 0=b.getD k 0
  ·left;refine⟨[I ((M:Int)-1-(i+1:Nat))],?_,rfl,?_⟩
   ·refine aa fR (aa ac (aK (by show(k:Int) ≥ 0;omega) (aa j (aa l (aa (z:=false) ?_ ?_)))))
    ·rw[hab,cW,zha rfl];rfl
    ·rw[zia j2]
     refine aa (ct (by simp only[inR];omega)) ?_
     congr 4;omega
   ·rw[d,hab,show M-(i+1)=k by omega];omega
  ·right;refine⟨(0,[.bool (decide (a.getD k 0<b.getD k 0))]),?_,?_⟩
   ·refine aa fR (aa ac (aK (by show(k:Int) ≥ 0;omega) (aa j (aa l (aa (z:=true) ?_ ?_)))))
    ·rw[cW,zca hab];rfl
    ·rw[zja rfl];refine aa j (aa l (aa am ?_));simp
   ·rw[zja rfl];show some (D.bool (decide (a.getD k 0<b.getD k 0)))=_;congr 3;rw[eq_iff_iff,d];generalize a.getD k 0=u at *;generalize b.getD k 0=v at *;generalize 65536^k=B at *;constructor
    ·intro h;have:(u+1)*B<=v*B:=zIa _ h;rw[zhb] at this;omega
    ·intro h;rcases zAa u v with h1|h1
     ·exact h1
     ·have:(v+1)*B<=u*B:=zIa _ j1
      rw[zhb] at this;omega
 ·obtain⟨rfl,d⟩:=e;refine⟨(1,[]),?_,?_⟩
  ·exact aa fR (aa ac (aO (by show ¬ ((M:Int)-1-(M:Nat)) ≥ 0;omega) rfl))
  ·rw[zia j2]
   have:¬ bw a<bw b:=by rw[d];simp[vt]
   rw[zca this]
def RW(n:Nat){x y:Int}(hx:In x)(hy:In y):cA (n+3) 32 [af x,af y]=some (I (bB x y)):=by
 rw[u32]
 delta RN qG qT qN Jn
 have g:=bE 32 _ hx;have h:=bE 32 _ hy;have gx:=sa n hx;have e:=sa n hy;have a:=uP n hx;have b:=uP n hy;refine aa gx (aa aV (aa ac (j0 false (j0 false ?_))));rw[zia j2]
 refine aa gx (aa aV (j0 false ?_));rw[zia j2]
 refine aa e (aa aV (j0 false ?_));rw[zia j2]
 refine j0 (.bool (decide (x<0))) (j0 (.bool (decide (y<0))) ?_);have c:=U9 n (bf x.natAbs) (bf y.natAbs) j1 j1
 have d:=U9 n (bf y.natAbs) (bf x.natAbs) j1 j1
 simp only[ar] at c d;have f:∀ p q:Bool,D.truth (.bool (!(D.beq (.bool p) (.bool q))))=some (!(p==q)):=λp q=>rfl;rw[f];refine aa rfl ?_;by_cases h1:x<0<;>by_cases h2:y<0
 ·rw[zha h1,zha h2,zia j2]
  refine aa a (aa b (aa (z:=(0,[.sl (ah (aE y.natAbs)),.sl (ah (aE x.natAbs))])) ?_ ?_))
  ·refine aa (z:=.bool true) (by rw[show D.get (af x) [1]=some (.bool (decide (x<0))) from rfl,zha h1]) (j0 true ?_)
   rw[zja rfl];exact aa b (aa a rfl)
  ·refine aa d (aa c (aa ac ?_));by_cases h3:y.natAbs<x.natAbs
   ·refine aK h3 ?_;simp[bB,show x<y by omega]
   ·refine aO h3 (aa ac ?_);by_cases h4:x.natAbs<y.natAbs
    ·refine aK h4 ?_;simp[bB,show ¬ x<y by omega,show y<x by omega]
    ·refine aO h4 ?_;simp[bB,show ¬ x<y by omega,show ¬ y<x by omega]
 ·rw[zha h1,zca h2,zja j2]
  refine aa (z:=.bool true) (by rw[show D.get (af x) [1]=some (.bool (decide (x<0))) from rfl,zha h1]) (j0 true ?_)
  simp[bB,show x<y by omega]
 ·rw[zca h1,zha h2,zja j2]
  refine aa (z:=.bool false) (by rw[show D.get (af x) [1]=some (.bool (decide (x<0))) from rfl,zca h1]) (j0 false ?_)
  simp[bB,show ¬ x<y by omega,show y<x by omega]
 ·rw[zca h1,zca h2,zia j2]
  refine aa a (aa b (aa (z:=(0,[.sl (ah (aE x.natAbs)),.sl (ah (aE y.natAbs))])) ?_ ?_))
  ·refine aa (z:=.bool false) (by rw[show D.get (af x) [1]=some (.bool (decide (x<0))) from rfl,zca h1]) (j0 false rfl)
  ·refine aa c (aa d (aa ac ?_));by_cases h3:x.natAbs<y.natAbs
   ·refine aK h3 ?_;simp[bB,show x<y by omega]
   ·refine aO h3 (aa ac ?_);by_cases h4:y.natAbs<x.natAbs
    ·refine aK h4 ?_;simp[bB,show ¬ x<y by omega,show y<x by omega]
    ·refine aO h4 ?_;simp[bB,show ¬ x<y by omega,show ¬ y<x by omega]
def Wd(x:Int):Prop:=x.natAbs<4611686018427387904
theorem Wd.inR{x:Int}(h:Wd x):inR x:=by unfold Wd at h;simp only[Sy.inR];omega
theorem Wd.In{x:Int}(h:Wd x):In x:=In.of h.inR
def Zm(n:Nat){a b:Int}(g:Wd a)(c:b≠0)(h:b ∣ a):cA (n+1) 144 [I a,I b]=some (I (a/b)):=by
 rw[Uc]
 delta H5 qB qT Jn
 obtain⟨q,rfl⟩:=h;have d:(b*q).tdiv b=q:=zAd _ c;have e:b*q/b=q:=zob _ c;have f:(b*q).tmod b=0:=Int.mul_tmod_right ..;have hq:Sy.inR q:=by
  have:q.natAbs<=(b*q).natAbs:=by rw[zLa];exact z7b _ j1
  unfold Wd at g;simp only[Sy.inR];omega
 rw[e];refine aa (nD c (by rw[d];exact hq)) (aa (z:=(0,[I q])) (aa (lr c) ?_) rfl)
 rw[d,f];exact j0 false (j0 false (aa ac rfl))
def Va(n:Nat){a b:Int}(d:Wd a)(c:Wd b):cA (n+4) 85 [af a,af b]=some (af (Nat.gcd a.natAbs b.natAbs:Nat)):=by
 rw[u85]
 delta Su qB qC qT qN qS qZ iL iR Jn
 refine aa (pL n d) (j0 (I a) (j0 (.bool true) (aa (pL n c) (j0 (I b) (j0 (.bool true) (j0 true (j0 true (j0 true ?_))))))));rw[zja rfl];obtain⟨r,h1,h2⟩:=B0 (body:=λ(v1:List D)=>
  (D.truth (D.bool (!(D.beq (gx v1 1) (D.int .i64 0))))).bind λf=>
  if f then((afn .rem (gx v1 0) (gx v1 1)).bind λg=>
  some (Sum.inl [(gx v1 1),g])) else(some (Sum.inr (0,[(gx v1 0)]))))
  (λa b c=>by simp only[g0,g1,bY,ac,zba,c,decide_false,zUb,if_true,lr c])
  (λa=>by simp only[g0,g1,bY,ac,zba,decide_true,zqc,zFa,if_false]) _ a b rfl
 refine nV h1 ?_;have h:Nat.gcd a.natAbs b.natAbs<=4611686018427387903:=by unfold Wd at d c;exact s9 j1 j1
 have e:Sy.inR r:=by simp only[Sy.inR];omega
 refine aa (zP n e) (aa (Zl n (In.of e)) ?_);rw[h2]
def IN(n:Nat){x:Int}(hx:In x):cA (n+3) 83 [af x]=some (I (sg x)):=by
 rw[u83]
 delta UX qG qT qN qS Jn
 refine aa (sa n hx) (aa aV (j0 false (aa (z:=decide (x=0)) ?_ (aa ac ?_))))
 ·rw[zia j2]
  refine aa (uP n hx) (j0 (ah (aE x.natAbs)) ?_);rw[ac,ao];show some (D.beq (I ((aE x.natAbs).length:Nat)) (I (0:Nat)))=_;rw[cW];congr 1;rw[decide_eq_decide,zDc,vM];omega
 ·by_cases h0:x=0
  ·refine aK h0 ?_;subst h0;rfl
  ·refine aO h0 (j0 (.bool (decide (x<0))) (aa ac ?_));by_cases h1:x<0
   ·refine aK h1 ?_;rw[xe h1]
   ·refine aO h1 ?_;rw[gT j1]
def Vb(n:Nat){a b:Int}(d:Wd a)(f:Wd b)(c:b≠0)(e:b ∣ a):cA (n+4) 87 [af a,af b]=some (af (a/b)):=by
 rw[u87]
 delta RS qG qB qT qN qS Jn
 refine aa (pL n d) (j0 (I a) (j0 (.bool true) (aa (pL n f) (j0 (I b) (j0 (.bool true) (j0 true (j0 true (j0 true (aa (z:=true) ?_ (j0 true ?_))))))))))
 ·rw[zja rfl,bY,zca c];rfl
 ·rw[zja rfl];have hq:Sy.inR (a/b):=by
   obtain⟨q,rfl⟩:=e;rw[zob _ c];have:q.natAbs<=(b*q).natAbs:=by rw[zLa];exact z7b _ j1
   unfold Wd at d;simp only[Sy.inR];omega
  exact aa (Zm (n+2) d c e) (aa (zP n hq) rfl)
abbrev U7(n:Nat):D:=.int .u64 (n:Int)
def ew{n:Int}(h:0<=n/\n<18446744073709551616):IntKind.wrap .u64 n=n:=by
 obtain⟨h1,h2⟩:=h;simp only[IntKind.wrap,IntKind.signed,IntKind.bits];first
  | omega
  | (simp;omega)
def Ql(n:Nat){x:Int}(hx:Wd x):cA (n+4) 186 [af x]=some (.tup [I x,.bool true]):=by
 rw[abc]
 delta Mj qG qB qC qT qN Jn
 have a:x.natAbs<4611686018427387904:=hx;have i1:Sy.inR (-9223372036854775808):=⟨j2,j2⟩
 have i2:Sy.inR 9223372036854775807:=⟨j2,j2⟩
 refine aa (sa (n+1) hx.In) (aa aV (j0 false ?_));rw[zia j2]
 refine aa (zP n i1) (aa (zP n i2) (aa (RW n hx.In (In.of i1)) ?_));rw[show bB x (-9223372036854775808)=1 by unfold bB;rw[zia j1,zja j1]]
 refine aa (z:=.bool false) am (j0 false (aa (z:=false) ?_ (j0 false ?_)))
 ·rw[zia j2]
  refine aa (RW n hx.In (In.of i2)) ?_;rw[show bB x 9223372036854775807=-1 by unfold bB;rw[zja j1]]
  exact aa (z:=.bool false) cK rfl
 ·rw[zia j2]
  have b:=JI x.natAbs;have l0:=PM x.natAbs;refine aa (dH (i:=1) j2) ?_
  rw[b];refine aa (z:=U7 (x.natAbs/4294967296%4294967296)) (by simp only[D.conv];rw[ew j1]) ?_
  refine aa (z:=U7 (x.natAbs/4294967296%4294967296*4294967296)) (by simp only[afn,if_true];rw[ew j1];simp) ?_
  refine aa (dH (i:=0) j2) ?_
  rw[l0];refine aa (z:=U7 (x.natAbs%4294967296)) (by simp only[D.conv];rw[ew j1]) ?_
  refine aa (z:=U7 x.natAbs) (by simp only[afn,if_true];rw[ew j1];congr 2;omega) ?_
  refine aa (z:=I (x.natAbs:Nat)) (by simp only[D.conv];rw[jz (by simp only[Sy.inR];omega)]) ?_
  refine aa (z:=(0,[I x])) (j0 (.bool (decide (x<0))) (aa ac ?_)) rfl;by_cases h:x<0
  ·refine aK h (aa (ou (by simp only[Sy.inR];omega)) ?_)
   congr 4;omega
  ·refine aO h ?_;congr 4;omega
def Zu(n:Nat){v:V}(e:bd 2305843009213693951 v):cA (n+1) 187 [ae v]=some (.bool true):=by
 rw[Ug]
 delta H9 qB qC qT qJ qZ iL iR Jn
 have a:∀ x:Int,(-2305843009213693951<=x/\x<=2305843009213693951)->∀ (i:Nat) (d:i<3),D.get (ae v) [i]=some (I x)->((D.idx (I (i:Int)) 3).bind λi4=>(D.get (ae v) [i4]).bind λk=>(afn .geq k (D.int .i64 2305843009213693952)).bind λl=>(D.truth l).bind λj=>
  Option.bind (if j then(some true) else((D.idx (I (i:Int)) 3).bind λi8=>(D.get (ae v) [i8]).bind λm=>(afn .leq m (D.int .i64 (-2305843009213693952))).bind λf=>D.truth f)) λb=>
  (D.truth (D.bool b)).bind λc=>if c then(some (Sum.inr (0,[(D.bool false)]))) else((afn .add (I (i:Int)) (D.int .i64 1)).bind λg=>some (Sum.inl [g])))=some (Sum.inl [I ((i+1:Nat):Int)]:Sum (List D) (Nat×List D)):=λx hx i d h=>by
  refine aa (aq d) (aa h (aa fR (aa ac (aa (z:=false) ?_ (j0 false ?_)))))
  ·refine aO j1 (aa (aq d) (aa h (aa mY ?_)))
   rw[ac,zca j1]
  ·rw[zia j2]
   exact aa (aC (aL (i:=i) j1)) rfl
 refine c8 (s':=[I (1:Nat)]) (aa am (aa ac (aK j2 (a v.x e.1 0 j2 rfl)))) (c8 (s':=[I (2:Nat)]) (aa am (aa ac (aK j2 (a v.y e.2.1 1 j2 rfl)))) (c8 (s':=[I (3:Nat)]) (aa am (aa ac (aK j2 (a v.z e.2.2 2 j2 rfl)))) (gR (r:=(1,[])) (aa am (aa ac (aO j2 rfl))) rfl)))
def g9(v:V):D:=.st [af v.x,af v.y,af v.z]
def Z4(n:Nat){v:V}(hx:inR v.x)(hy:inR v.y)(a:inR v.z):cA (n+4) 80 [ae v]=some (g9 v):=by
 rw[u80]
 delta UV qG
 exact aa (pS v) (aa (zP n hx) (aa (pT v) (aa (zP n hy) (aa (pU v) (aa (zP n a) rfl)))))
def SO(n:Nat){v:V}(l:bd 2305843009213693951 v):cA (n+5) 155 [g9 v]=some (.st [ae (aR v),I (if v=V.zero then 31 else 0)]):=by
 rw[aa3]
 delta L7 qG qB qC qT qN qJ qZ iL iR Jn
 have p:Wd v.x:=by have:=l.1;unfold Wd;omega
 have d:Wd v.y:=by have:=l.2.1;unfold Wd;omega
 have s:Wd v.z:=by have:=l.2.2;unfold Wd;omega
 have h0:Sy.inR 0:=⟨j2,j2⟩
 have w0:Wd 0:=by unfold Wd;decide
 have u:Nat.gcd v.x.natAbs v.y.natAbs<=4611686018427387903:=by unfold Wd at p d;exact s9 j1 j1
 have G:br v<=4611686018427387903:=by
  unfold br;have:=s9 (a:=(Nat.gcd v.x.natAbs v.y.natAbs:Nat)) (b:=v.z) (k:=4611686018427387903) (by simpa using u) (by unfold Wd at s;omega)
  simpa using this
 have q:Wd (v.x.natAbs:Nat):=by unfold Wd at *;omega
 have w1:Wd (Nat.gcd v.x.natAbs v.y.natAbs:Nat):=by unfold Wd;omega
 have m:Wd (br v:Nat):=by unfold Wd;omega
 have e:=Va n w0 p;have f:=Va n q d;have g:=Va n w1 s;rw[show(Nat.gcd (0:Int).natAbs v.x.natAbs)=v.x.natAbs by simp] at e
 rw[show(Nat.gcd ((v.x.natAbs:Nat):Int).natAbs v.y.natAbs)=Nat.gcd v.x.natAbs v.y.natAbs by simp] at f
 rw[show(Nat.gcd ((Nat.gcd v.x.natAbs v.y.natAbs:Nat):Int).natAbs v.z.natAbs)=br v by simp[br]] at g
 have fst:∀ {k:Nat×List D->Option D} {y:D},k (0,[af (br v:Nat)])=some y->(cA (n+4) 34 [(D.int .i64 0)]).bind (λr1=>Option.bind (aU (λ(v2:List D)=>
   (afn .lss (gx v2 0) (D.int .i64 3)).bind λB=>(D.truth B).bind λt=>
   if t then((D.idx (gx v2 0) 3).bind λi5=>(D.get (g9 v) [i5]).bind λC=>(cA (n+4) 85 [(gx v2 1),C]).bind λw=>
   (afn .add (gx v2 0) (D.int .i64 1)).bind λE=>some (Sum.inl [E,w])) else(some (Sum.inr (0,[(gx v2 1)])))) [(D.int .i64 0),r1]) k)=some y:=by
  intro k y hk;refine aa (zP (n+1) h0) ?_;refine c8 (s':=[I 1,af (v.x.natAbs:Nat)]) (aa am (aa ac (aK j2 (aa JD (j0 (af v.x) (aa e (aa (aC PF) rfl))))))) ?_
  refine c8 (s':=[I 2,af (Nat.gcd v.x.natAbs v.y.natAbs:Nat)]) (aa am (aa ac (aK j2 (aa JE (j0 (af v.y) (aa f (aa (aC uY) rfl))))))) ?_
  refine c8 (s':=[I 3,af (br v:Nat)]) (aa am (aa ac (aK j2 (aa JF (j0 (af v.z) (aa g (aa (aC PG) rfl))))))) ?_
  exact gR (r:=(0,[af (br v:Nat)])) (aa am (aa ac (aO j2 rfl))) hk
 have i:=IN (n+1) m.In;by_cases hz:br v=0
 ·refine fst (j0 (.bool false) (j0 false ?_));rw[zia j2]
  refine aa i ?_;rw[hz];refine j0 true ?_;rw[zja rfl];have o:v=V.zero:=by
   by_cases h:v=V.zero
   ·exact h
   ·have:=fD h;omega
  rw[o];rfl
 ·have c:(br v:Int)≠0:=j1
  rw[zia (λh=>hz (by rw[h];rfl))]
  refine fst (j0 (.bool false) (j0 false ?_));rw[zia j2]
  refine aa i ?_;rw[gT (show(0:Int)<br v by omega)]
  refine j0 false ?_;rw[zia j2]
  have j:=fJ l;have F:=Vb n p m c (ym v);have z2:=Vb n d m c (yn v);have z3:=Vb n s m c (yo v);have s1:=Ql n (x:=v.x/(br v:Nat)) (by have:=j.1;unfold Wd;simp only[aR] at this;omega)
  have s2:=Ql n (x:=v.y/(br v:Nat)) (by have:=j.2.1;unfold Wd;simp only[aR] at this;omega)
  have A:=Ql n (x:=v.z/(br v:Nat)) (by have:=j.2.2;unfold Wd;simp only[aR] at this;omega)
  refine c8 (s':=[I 1,.st [ae V.zero,I 0],.st [ae ⟨v.x/(br v:Nat),0,0⟩,I 0]]) ?_ (c8 (s':=[I 2,.st [ae V.zero,I 0],.st [ae ⟨v.x/(br v:Nat),v.y/(br v:Nat),0⟩,I 0]]) ?_ (c8 (s':=[I 3,.st [ae V.zero,I 0],.st [ae ⟨v.x/(br v:Nat),v.y/(br v:Nat),v.z/(br v:Nat)⟩,I 0]]) ?_ (gR (r:=(1,[.st [ae V.zero,I 0],.st [ae (aR v),I 0]])) (aa am (aa ac (aO j2 rfl))) ?_)))
  ·refine aa am (aa ac (aK j2 (aa JD (j0 (af v.x) (aa F (aa s1 (j0 (I (v.x/(br v:Nat))) (j0 (.bool true) (j0 (.bool false) (j0 false ?_))))))))))
   rw[zia j2]
   exact aa JD (j0 (.st [ae ⟨v.x/(br v:Nat),0,0⟩,I 0]) (aa (aC PF) rfl))
  ·refine aa am (aa ac (aK j2 (aa JE (j0 (af v.y) (aa z2 (aa s2 (j0 (I (v.y/(br v:Nat))) (j0 (.bool true) (j0 (.bool false) (j0 false ?_))))))))))
   rw[zia j2]
   exact aa JE (j0 (.st [ae ⟨v.x/(br v:Nat),v.y/(br v:Nat),0⟩,I 0]) (aa (aC uY) rfl))
  ·refine aa am (aa ac (aK j2 (aa JF (j0 (af v.z) (aa z3 (aa A (j0 (I (v.z/(br v:Nat))) (j0 (.bool true) (j0 (.bool false) (j0 false ?_))))))))))
   rw[zia j2]
   exact aa JF (j0 (.st [ae ⟨v.x/(br v:Nat),v.y/(br v:Nat),v.z/(br v:Nat)⟩,I 0]) (aa (aC PG) rfl))
  ·rw[zia (show ¬ (1:Nat)=0 by decide)]
   refine j0 (ae (aR v)) (aa (Zu (n+3) (v:=aR v) ?_) (j0 (.bool false) (j0 false rfl)));simp only[bd] at j ⊢;omega
def Zo(n:Nat){v:V}(a:bd 549755813888 v):∃ e:Int,cA (n+5) 155 [g9 v]=some (.st [ae (aR v),I e]):=
 ⟨_,SO n (by simp only[bd] at *;omega)⟩
def Zb(n:Nat){a b c:V}(f:bd MV a)(g:bd MV b)(hc:bd MV c):cA (n+6) 106 [ae a,ae b,ae c]=some (ae (aR (V.cross (b.sub a) (c.sub a)))):=by
 rw[aas]
 delta Lo qG
 have h1:bd 524288 (b.sub a):=by have:=kR g f;simpa [MV] using this
 have h2:bd 524288 (c.sub a):=by have:=kR hc f;simpa [MV] using this
 have h3:=jJ h1 h2;refine aa (Dx (n+4) g f j2) (aa (Dx (n+4) hc f j2) (aa (SJ (n+4) h1 h2 j2) ?_))
 have d:bd 549755813888 (V.cross (b.sub a) (c.sub a)):=h3;generalize V.cross (b.sub a) (c.sub a)=m at *;obtain⟨e,he⟩:=Zo n d;refine aa (Z4 (n+1) ?_ ?_ ?_) (aa he rfl)
 ·have:=d.1;simp only[Sy.inR];omega
 ·have:=d.2.1;simp only[Sy.inR];omega
 ·have:=d.2.2;simp only[Sy.inR];omega
theorem qF:∀ {l:List Nat} {j v:Nat},j<l.length->bw (l.set j v)+65536^j*l.getD j 0=bw l+65536^j*v
 | d::l,0,v,_=>by simp only[List.set_cons_zero,bw,zAc,zGc,List.getD_cons_zero];omega
 | d::l,j+1,v,h=>by
  have ih:=qF (l:=l) (j:=j) (v:=v) (by simpa using h)
  simp only[List.set_cons_succ,bw,zAb,List.getD_cons_succ];rw[zRa (65536^j) 65536,z8a,z8a];generalize 65536^j*l.getD j 0=x at *;generalize 65536^j*v=y at *;omega
def sY(l:List Nat)(j v:Nat):(ah l).set j (I (v:Int))=ah (l.set j v):=by simp[ah,List.map_set]
def nQ(l:List Nat)(j v i:Nat)(h:j<l.length):(l.set j v).getD i 0=if i=j then v else l.getD i 0:=by
 by_cases e:i=j
 ·subst e;simp[List.getD,h]
 ·simp[List.getD,e,List.getElem?_set,show ¬ j=i from λk=>e k.symm]
def yu(m:Nat):List.replicate m (D.int .i64 0)=ah (List.replicate m 0):=by simp[ah]
def mv{a b:Nat}(h:a*b<=9223372036854775807):afn .mul (I (a:Int)) (I (b:Int))=some (I ((a*b:Nat):Int)):=by rw[bK (by simp only[inR];rw[<-zYa];omega),zYa]
def aH{a b:Nat}(h:a+b<=9223372036854775807):afn .add (I (a:Int)) (I (b:Int))=some (I ((a+b:Nat):Int)):=by rw[aC (by simp only[inR];omega),z8c]
def FS(a:Nat):D.natOf (I (a:Int))=some a:=by simp[D.natOf]
def Cb{l:List Nat}{i:Nat}(h:i<l.length):D.idx (I (i:Int)) (ah l).length=some i:=by rw[ao];exact aq h
def Pt{l:List Nat}(h:∀ i,i<l.length->l.getD i 0<65536):dl l:=λd b=>by obtain⟨i,a,rfl⟩:=z3a b;have:=h i a;simpa [List.getD,a] using this
def Qi(n:Nat){a b:List Nat}(ha:dl a)(hb:dl b)(al:a.length<=400000)(an:b.length<=400000):cA (n+2) 146 [.sl (ah a),.sl (ah b)]=some (.sl (ah (aE (bw a*bw b)))):=by
 rw[aaZ]
 delta LZ qB qC qS qX qL qV qW qZ iL iR Jn
 obtain⟨M,hM⟩:∃ M,M=a.length+b.length+1:=⟨_,rfl⟩;refine j0 (ah a) (j0 (ah b) (aa (z:=I ((a.length+b.length:Nat):Int)) (by rw[ao,ao];exact aH j1) (aa (z:=I (M:Int)) (by rw[hM];exact aH (b:=1) j1) (aa (FS M) ?_))))
 rw[zja j1,yu]
 refine bR (λi s=>∃ out:List Nat,s=[I (i:Int),.sl (ah out)]/\out.length=M/\dl out/\bw out=vt a i*bw b) a.length 0 (zqa _) ⟨List.replicate M 0,rfl,j3,λx hx=>by rw[zzd hx];decide,by have:=pO [] M;rw[zlc] at this;rw[this];simp[vt,bw]⟩ (λi hi s m=>?_) (λs m=>?_)
 ·obtain⟨out,rfl,ho,t,H⟩:=m;left;have aj:=ha.getD i;obtain⟨r,h1,d,rfl,B,u,C⟩:=FH (body:=λ(v10:List D)=>
   (D.asSl (.sl (ah b))).bind λJ=>
   (afn .lss (gx v10 0) (D.int .i64 (List.length J))).bind λO=>
   (D.truth O).bind λF=>
   if F then((afn .add (I (i:Int)) (gx v10 0)).bind λP=>
   (afn .add (I (i:Int)) (gx v10 0)).bind λQ=>
   (D.idx Q (List.length (D.els (gx v10 1)))).bind λi16=>
   ((D.els (gx v10 1))[i16]?).bind λR=>
   (D.asSl (.sl (ah a))).bind λy=>
   (D.idx (I (i:Int)) (List.length y)).bind λi19=>
   (y[i19]?).bind λS=>
   (D.asSl (.sl (ah b))).bind λA=>
   (D.idx (gx v10 0) (List.length A)).bind λi22=>
   (A[i22]?).bind λT=>
   (afn .mul S T).bind λU=>
   (afn .add R U).bind λV=>
   (D.idx P (List.length (D.els (gx v10 1)))).bind λi26=>
   ((D.els (gx v10 1))[i26]?).bind λaB=>
   (afn .add (gx v10 0) (D.int .i64 1)).bind λW=>
   some (Sum.inl [W,(D.sl (List.set (D.els (gx v10 1)) i26 V))])) else(some (Sum.inr (0,[(D.sl (D.els (gx v10 1)))]))))
   (s0:=[I 0,.sl (ah out)])
   (λk s=>∃ o:List Nat,s=[I (k:Int),.sl (ah o)]/\o.length=M/\(∀ j,j<M->o.getD j 0<=4295032831/\(i+k<=j->o.getD j 0<65536))/\bw o=bw out+65536^i*(a.getD i 0*vt b k))
   (λr=>∃ o:List Nat,r=(0,[.sl (ah o)])/\o.length=M/\(∀ j,j<M->o.getD j 0<=4295032831)/\bw o=bw out+65536^i*(a.getD i 0*bw b)) b.length 0 (zqa _)
   ⟨out,rfl,ho,λj _=>by have:=t.getD j;omega,by simp[vt]⟩ (λk hk s m=>by
    obtain⟨o,rfl,B,u,C⟩:=m;left;have ak:=hb.getD k;have g:i+k<o.length:=j1
    have hp:a.getD i 0*b.getD k 0<=65535*65535:=z9a j1 j1
    have hx:=(u (i+k) j1).2 (zka _)
    refine⟨[I ((k+1:Nat):Int),.sl (ah (o.set (i+k) (o.getD (i+k) 0+a.getD i 0*b.getD k 0)))],?_,_,rfl,by simpa using B,λj p=>?_,?_⟩
    ·refine j0 (ah b) (aa am (aa ac (aK (by show(k:Int)<((ah b).length:Int);rw[ao];omega) ?_)))
     refine aa (aH (a:=i) (b:=k) j1) (aa (aH (a:=i) (b:=k) j1) (aa (Cb g) (aa (dK g) ?_)))
     refine j0 (ah a) (aa (Cb hi) (aa (dK hi) (j0 (ah b) (aa (Cb hk) (aa (dK hk) ?_)))));refine aa (mv j1) (aa (aH j1) (aa (Cb g) (aa (dK g) (aa (aC (aL (i:=k) j1)) ?_))))
     show some (Sum.inl [_,D.sl (List.set (ah o) (i+k) _)])=_;rw[sY];rfl
    ·rw[nQ _ _ _ _ g];have:=u j p;split
     ·omega
     ·omega
    ·have e:=qF (l:=o) (j:=i+k) (v:=o.getD (i+k) 0+a.getD i 0*b.getD k 0) g;rw[vt,zac,zac];have e2:65536^i*(a.getD i 0*(b.getD k 0*65536^k))=65536^(i+k)*(a.getD i 0*b.getD k 0):=by
      rw[zsb,<-z8a (a.getD i 0),zRa (a.getD i 0*b.getD k 0),z8a]
     rw[zac] at e;omega) (λs m=>by
    obtain⟨o,rfl,B,u,C⟩:=m;rw[ox] at C;exact⟨_,j0 (ah b) (aa am (aa ac (aO (by show ¬ ((b.length:Int)<((ah b).length:Int));rw[ao];omega) rfl))),o,rfl,B,λj p=>(u j p).1,C⟩)
  obtain⟨r2,h2,q,rfl,p1,p2,p3⟩:=FH (body:=λ(v30:List D)=>
   (afn .lss (gx v30 1) (D.int .i64 (List.length (D.els (gx v30 2))))).bind λX=>
   (D.truth X).bind λG=>
   if G then((D.idx (gx v30 1) (List.length (D.els (gx v30 2)))).bind λi33=>
   ((D.els (gx v30 2))[i33]?).bind λY=>
   (afn .add Y (gx v30 0)).bind λE=>
   (afn .rem E (D.int .i64 65536)).bind λZ=>
   (D.idx (gx v30 1) (List.length (D.els (gx v30 2)))).bind λi37=>
   ((D.els (gx v30 2))[i37]?).bind λaI=>
   (afn .quo E (D.int .i64 65536)).bind λad=>
   (afn .add (gx v30 1) (D.int .i64 1)).bind λai=>
   some (Sum.inl [ad,ai,(D.sl (List.set (D.els (gx v30 2)) i37 Z))])) else(some (Sum.inr (0,[(D.sl (D.els (gx v30 2)))]))))
   (s0:=[I 0,I 0,.sl (ah d)])
   (λk s=>∃ (o:List Nat) (c:Nat),s=[I (c:Int),I (k:Int),.sl (ah o)]/\o.length=M/\(∀ j,j<k->o.getD j 0<65536)/\(∀ j,k<=j->o.getD j 0=d.getD j 0)/\c<=131072/\bw o+65536^k*c=bw d)
   (λr=>∃ o:List Nat,r=(0,[.sl (ah o)])/\o.length=M/\dl o/\∃ c,bw o+65536^M*c=bw d) M 0 (zqa _)
   ⟨d,0,rfl,B,λj p=>z4a p (Nat.not_lt_zero _),λj _=>rfl,j1,j3⟩ (λk hk s m=>by
    obtain⟨o,c,rfl,K,L,N,q4,q5⟩:=m;left;have f:k<o.length:=j1
    have hx:=u k hk;have hq:=N k (zka _);refine⟨[I (((o.getD k 0+c)/65536:Nat):Int),I ((k+1:Nat):Int),.sl (ah (o.set k ((o.getD k 0+c)%65536)))],?_,_,_,rfl,by simpa using K,λj p=>?_,λj p=>?_,j1,?_⟩
    ·refine aa am (aa ac (aK (by show(k:Int)<((ah o).length:Int);rw[ao];omega) ?_))
     refine aa (Cb f) (aa (dK f) (aa (aH j1) (aa (nE (b:=65536) j2) (aa (Cb f) (aa (dK f) (aa (kP (b:=65536) j2 j1) (aa (aC (aL (i:=k) j1)) ?_)))))))
     show some (Sum.inl [_,_,D.sl (List.set (ah o) k _)])=_;rw[sY];rfl
    ·rw[nQ _ _ _ _ f];split
     ·omega
     ·exact L j j1
    ·rw[nQ _ _ _ _ f,zia j1];exact N j j1
    ·have e:=qF (l:=o) (j:=k) (v:=(o.getD k 0+c)%65536) f;have e2:o.getD k 0+c=(o.getD k 0+c)%65536+65536*((o.getD k 0+c)/65536):=j1
     have e3:65536^k*(o.getD k 0+c)=65536^k*((o.getD k 0+c)%65536)+65536^k*(65536*((o.getD k 0+c)/65536)):=by rw[<-zac,<-e2]
     rw[zac] at e3;rw[zAb,z8a];omega) (λs m=>by
    obtain⟨o,c,rfl,K,L,N,q4,q5⟩:=m;exact⟨_,aa am (aa ac (aO (by show ¬ ((M:Int)<((ah o).length:Int));rw[ao];omega) rfl)),o,rfl,K,Pt λj p=>L j j1,c,q5⟩)
  obtain⟨c,p4⟩:=p3;refine⟨[I ((i+1:Nat):Int),.sl (ah q)],?_,q,rfl,p1,p2,?_⟩
  ·refine j0 (ah a) (aa am (aa ac (aK (by show(i:Int)<((ah a).length:Int);rw[ao];omega) ?_)))
   refine aa h1 (aa h2 ?_);exact aa (aC (aL (i:=i) j1)) rfl
  ·have w:bw d=vt a (i+1)*bw b:=by
    rw[C,H,vt,zhb,zRa (a.getD i 0) (65536^i),z8a]
   have ax:vt a (i+1)*bw b<65536^M:=by
    have l1:=xt ha (i+1);have l2:=mB hb;have l3:vt a (i+1)*bw b<65536^(i+1)*65536^b.length:=zXc l1 l2;have l4:65536^(i+1)*65536^b.length<=65536^M:=by rw[<-zsb];exact zta j2 j1
    omega
   have hc:c=0:=by
    rcases zNb c with h|h
    ·exact h
    ·have:65536^M*1<=65536^M*c:=zeb _ h;omega
   subst hc;rw[<-w,<-p4];simp
 ·obtain⟨out,rfl,ho,t,H⟩:=m;refine⟨(0,[.sl (ah out)]),j0 (ah a) (aa am (aa ac (aO (by show ¬ ((a.length:Int)<((ah a).length:Int));rw[ao];omega) rfl))),?_⟩
  refine aa (Bz n (l:=out) j1) ?_
  rw[jc t,H,ox]
def SN(n:Nat)(x:Int):cA (n+1) 145 [I x]=some (.bool (decide (x<2147483648)&&decide (x>-2147483648))):=by
 rw[aaY]
 delta LY qB qC Jn
 refine aa am (aa ac ?_);cases h:decide (x<2147483648)
 ·rfl
 ·rw[zja rfl];exact aa (aa cK rfl) rfl
def A0(x y:Int):sgn (!(decide (decide (x<0)=decide (y<0)))) (x.natAbs*y.natAbs)=x*y:=by
 unfold sgn;rw[<-zLa];by_cases hx:x<0<;>by_cases hy:y<0
 ·have:=zTb hx hy;simp[hx,hy];omega
 ·have:=Int.mul_nonpos_of_nonpos_of_nonneg (zpa hx) (zWb.1 hy);simp[hx,hy];omega
 ·have:=Int.mul_nonpos_of_nonneg_of_nonpos (zWb.1 hx) (zpa hy);simp[hx,hy];omega
 ·have:=zdb (zWb.1 hx) (zWb.1 hy);simp[hx,hy];omega
def c89(n:Nat){x y:Int}(hx:Wd x)(hy:Wd y):cA (n+4) 89 [af x,af y]=some (af (x*y)):=by
 rw[u89]
 delta RT qG qB qT qN
 refine aa (pL n hx) (j0 (I x) (j0 (.bool true) (aa (pL n hy) (j0 (I y) (j0 (.bool true) (j0 true (j0 true (j0 true ?_))))))));refine aa (z:=(decide (x<2147483648)&&decide (x>-2147483648))) (by rw[zja rfl];exact aa (SN (n+2) x) rfl) (aa ac ?_)
 refine aa (z:=((decide (x<2147483648)&&decide (x>-2147483648))&&(decide (y<2147483648)&&decide (y>-2147483648)))) (by
  cases (decide (x<2147483648)&&decide (x>-2147483648))
  ·rfl
  ·rw[zja rfl];exact aa (SN (n+2) y) rfl) (aa ac ?_)
 cases hb:((decide (x<2147483648)&&decide (x>-2147483648))&&(decide (y<2147483648)&&decide (y>-2147483648)))
 ·rw[zia j2]
  refine aa (sa (n+1) hx.In) (aa aV (aa ac (aa (z:=false) ?_ (aa ac ?_))))
  ·rw[zia j2];exact aa (sa (n+1) hy.In) rfl
  ·rw[zia j2]
   have h:=bE 32 _ hx.In;have i:=bE 32 _ hy.In;refine j0 (.bool (decide (x<0))) (j0 (.bool (decide (y<0))) (aa (uP (n+1) hx.In) (aa (uP (n+1) hy.In) (aa (Qi (n+1) (bf _) (bf _) j1 j1) (aa (z:=af (x*y)) ?_ rfl)))))
   rw[ar,ar];have c:x.natAbs*y.natAbs<65536^8:=by
    have e:(65536:Nat)^8=18446744073709551616*18446744073709551616:=j2
    rw[e];unfold Wd at hx hy;exact zXc j1 j1
   have g:=bE 8 _ c;have d:x.natAbs*y.natAbs<65536^32:=zZa c (zta j2 j2)
   have:=Lg (n+1) (l:=aE (x.natAbs*y.natAbs)) (neg:=!(decide (decide (x<0)=decide (y<0)))) (bf _) j1 (by rw[ar];exact d)
   rw[ar,A0] at this;rw[<-this];congr 4
 ·rw[zja rfl];simp only[zaa,zfa] at hb;have:=iX (A:=2147483648) (B:=2147483648) (a:=x) (b:=y) j1 j1
  have f:inR (x*y):=by simp only[inR];omega
  exact aa (bK f) (aa (zP n f) rfl)
def c59(n:Nat){x y:Int}(hx:Wd x)(hy:Wd y):cA (n+4) 59 [af x,af y]=some (af (x+y)):=by
 rw[u59]
 delta RQ qG qB qT qN
 refine aa (pL n hx) (j0 (I x) (j0 (.bool true) (aa (pL n hy) (j0 (I y) (j0 (.bool true) (j0 true (j0 true (j0 true ?_))))))));rw[zja rfl];have a:inR (x+y):=by unfold Wd at hx hy;simp only[inR];omega
 exact aa (aC a) (aa (zP n a) rfl)
end Sy
end
noncomputable section
open Go
def pC(n:Nat):Nat:=2^(32*n)
def eh(n:Nat):pC n=2^(32*n):=rfl
attribute [irreducible] pC
def eY:Nat:=pC 16
def iI:eY=pC 16:=rfl
attribute [irreducible] eY
def qd{a b:Nat}(h:a<=b):pC a<=pC b:=by rw[eh,eh];exact zta j1 j1
def zy:pC 2=18446744073709551616:=by rw[eh]
def HE(n:Nat):0<pC n:=by rw[eh];exact zza _
def gB:0<eY:=iI ▸ HE 16
def A4{n:Nat}(h:n<18446744073709551616):n<eY:=by rw[iI];rw[<-zy] at h;exact zZa h (qd j1)
def bQ(X k:Nat):Int:=((X/2^(32*k)%2^32:Nat):Int)
def pM(X k:Nat):bQ X k<=4294967295:=by grind [bQ]
def vL(X k:Nat):bQ X k<4294967296:=by grind [bQ]
def cY(X k:Nat):0<=bQ X k:=by unfold bQ;exact Int.natCast_nonneg _
def Hm(a b:Nat)(h:a<=b):2^b=2^a*2^(b-a):=by rw[<-zsb];congr 1;omega
theorem mA(X k j:Nat):bQ (X%2^(32*k)) j=if j<k then bQ X j else 0:=by
 unfold bQ;split
 ·rename_i h;congr 1;rw[Hm (32*j) (32*k) j1,Nat.mod_mul_right_div_self,show 32*k-32*j=32+(32*k-32*j-32) from by omega,zsb,Nat.mod_mul_right_mod]
 ·rename_i h;rw[zib]
  ·simp
  ·exact zZa (z5a _ (zza _)) (zta j2 j1)
def Ar(n:Nat):∀ (X Y:Nat),X<2^(32*n)->Y<2^(32*n)->(∀ k,k<n->bQ X k=bQ Y k)->X=Y:=by
 induction n with
 | zero=>intro X Y a b _;simp at a b;omega
 | succ n ih=>
  intro X Y a b h;have hs:∀ Z:Nat,Z=Z%2^(32*n)+2^(32*n)*(Z/2^(32*n)):=λZ=>by have:=Nat.mod_add_div Z (2^(32*n));omega
  have hm:X%2^(32*n)=Y%2^(32*n):=by refine ih _ _ (z5a _ (zza _)) (z5a _ (zza _)) λk hk=>?_;grind [mA]
  have c:X/2^(32*n)=Y/2^(32*n):=by
   have h1:=h n j1
   unfold bQ at h1;have e:∀ Z,Z<2^(32*(n+1))->Z/2^(32*n)<2^32:=λZ hZ=>by rw[z1a (zza _),<-zsb,show 32+32*n=32*(n+1) from by omega];exact hZ
   grind
  grind
def G3{X Y:Nat}(a:X<eY)(b:Y<eY)(h:∀ k,k<16->bQ X k=bQ Y k):X=Y:=by rw[iI,eh] at a b;exact Ar 16 X Y a b h
def xP(s V Z j:Nat):Int:=if j<s then bQ V j else bQ Z j
def yT(s V Z:Nat):xP s V Z s=bQ Z s:=by unfold xP;rw[zia (Nat.lt_irrefl s)]
def gr(X Y k:Nat):Nat:=(X%2^(32*k)+Y%2^(32*k))/2^(32*k)
def oz(X Y k:Nat):gr X Y k<=1:=by
 unfold gr;have h:=zza (32*k);have h1:=z5a X h;have h2:=z5a Y h;have:(X%2^(32*k)+Y%2^(32*k))/2^(32*k)<2:=(z1a h).2 j1
 omega
def tU(X Y:Nat):gr X Y 0=0:=by simp[gr,zld]
theorem j7(X k:Nat):X=X%2^(32*k)+2^(32*k)*(X/2^(32*k)):=by have:=Nat.mod_add_div X (2^(32*k));omega
theorem eP(k:Nat):2^(32*(k+1))=2^(32*k)*4294967296:=x6
theorem fE(X k:Nat):X%2^(32*(k+1))=X%2^(32*k)+2^(32*k)*(X/2^(32*k)%4294967296):=by rw[eP,Nat.mod_mul]
def tT(X Y k:Nat):((gr X Y (k+1):Nat):Int)=((gr X Y k:Nat)+(bQ X k+bQ Y k))/4294967296:=by
 unfold gr bQ;have hp:=zza (32*k);rw[fE,fE,eP,<-z2a];generalize 2^(32*k)=p at *;have:(X%p+p*(X/p%4294967296)+(Y%p+p*(Y/p%4294967296)))/p=(X%p+Y%p)/p+(X/p%4294967296+Y/p%4294967296):=by rw[show X%p+p*(X/p%4294967296)+(Y%p+p*(Y/p%4294967296))=(X%p+Y%p)+p*(X/p%4294967296+Y/p%4294967296) from by rw[zac];omega,z3b _ _ hp]
 omega
def Fg(X Y k:Nat):bQ (X+Y) k=((gr X Y k:Nat)+(bQ X k+bQ Y k))%4294967296:=by
 unfold gr bQ;have hp:=zza (32*k);have hx:=j7 X k;have hy:=j7 Y k;generalize 2^(32*k)=p at *;have:(X+Y)/p=(X%p+Y%p)/p+(X/p+Y/p):=by rw[show X+Y=(X%p+Y%p)+p*(X/p+Y/p) from by rw[zac];omega,z3b _ _ hp]
 omega
theorem CM:2^(32*16)=eY:=by rw[iI,eh 16]
def GK{X Y:Nat}(a:X<eY)(b:Y<eY):gr X Y 16=if X+Y<eY then 0 else 1:=by
 have h:=oz X Y 16;unfold gr at *;rw[CM,zXa a,zXa b] at *;split
 ·simp_all
 ·have:1<=(X+Y)/eY:=(zic gB).2 j1
  omega
def cz(X Y k:Nat):Nat:=if X%2^(32*k)<Y%2^(32*k) then 1 else 0
def vu(X Y k:Nat):cz X Y k<=1:=by unfold cz;split<;>omega
def qo(X Y:Nat):cz X Y 0=0:=by simp[cz,zld]
def qn(X Y k:Nat):((cz X Y (k+1):Nat):Int)=if bQ X k-bQ Y k-(cz X Y k:Nat)<0 then 1 else 0:=by
 unfold cz bQ;have hp:=zza (32*k);rw[fE,fE];have h1:=z5a X hp;have h2:=z5a Y hp;simp only[show(2:Nat)^32=4294967296 from rfl];generalize 2^(32*k)=p at *;generalize X/p%4294967296=a;generalize Y/p%4294967296=b;generalize X%p=x at *;generalize Y%p=y at *;rcases zxd a b with h|h|h
 ·have:p*a+p<=p*b:=by rw[<-zGd];exact zeb _ h
  grind
 ·grind
 ·have:p*b+p<=p*a:=by rw[<-zGd];exact zeb _ h
  grind
def Fh{X Y:Nat}(h:Y<=X)(k:Nat):bQ (X-Y) k=(bQ X k-bQ Y k-(cz X Y k:Nat))%4294967296:=by
 unfold cz bQ;have hp:=zza (32*k);have hx:=j7 X k;have hy:=j7 Y k;have h1:=z5a X hp;have h2:=z5a Y hp;simp only[show(2:Nat)^32=4294967296 from rfl];generalize 2^(32*k)=p at *;have hle:Y/p<=X/p:=Nat.div_le_div_right h;generalize hxq:X/p=a at *;generalize hyq:Y/p=b at *;generalize hxr:X%p=x at *;generalize hyr:Y%p=y at *;by_cases h3:x<y
 ·have c:b<a:=by
   all_goals grind
  have e:X-Y=(x+p-y)+p*(a-b-1):=by
   rw[hx,hy,Nat.mul_sub,Nat.mul_sub];have:p*b+p<=p*a:=by rw[<-zGd];exact zeb _ c
   omega
  rw[e,z3b _ _ hp,zib j1,zja h3]
  omega
 ·have e:X-Y=(x-y)+p*(a-b):=by
   rw[hx,hy,Nat.mul_sub];have:p*b<=p*a:=zeb _ hle;omega
  rw[e,z3b _ _ hp,zib j1,zia h3]
  omega
def uy(a b:Int)(c:Nat)(a0:0<=a)(a1:a<=4294967295)(d:0<=b)(f:b<=4294967295)(hc:c<=1) :
  IntKind.u64.wrap (IntKind.u64.wrap (a-b)-(c:Int))/9223372036854775808=(if a-b-(c:Int)<0 then 1 else 0) ∧
  IntKind.u64.wrap (IntKind.u64.wrap (a-b)-(c:Int))%4294967296=(a-b-(c:Int))%4294967296:=by
 have e:∀ n:Int,IntKind.u64.wrap n=n%18446744073709551616:=λn=>rfl;all_goals grind
def ji(X:Nat):Nat->Nat
 | 0=>0
 | k+1=>if 2^(32*k)<=X then k+1 else ji X k
def dw(X:Nat):Nat:=ji X 16
def He(X k:Nat):ji X k<=k:=by
 induction k with
 | zero=>exact zka _
 | succ k ih=>unfold ji;split<;>omega
def Eb(X k:Nat)(h:ji X k≠0):2^(32*(ji X k-1))<=X:=by
 induction k with
 | zero=>exact z4a rfl h
 | succ k ih=> all_goals grind [ji]
def CC(X k:Nat)(h:X<2^(32*k)):X<2^(32*ji X k):=by
 induction k with
 | zero=>exact h
 | succ k ih=> all_goals grind [ji]
def lP(X:Nat):dw X<=16:=He X 16
def fF{X:Nat}(h:X<eY):X<2^(32*dw X):=CC X 16 (by rw[iI,eh] at h;exact h)
def p9{X:Nat}(h:dw X≠0):2^(32*(dw X-1))<=X:=Eb X 16 h
def zZ{X k:Nat}(h:X<2^(32*(k+1))):bQ X k=0↔X<2^(32*k):=by
 unfold bQ;have hp:=zza (32*k);have h2:X/2^(32*k)<2^32:=by rw[z1a hp,<-zsb,show 32+32*k=32*(k+1) from by omega];exact h
 rw[zXa h2];constructor
 ·intro h3;have a:X/2^(32*k)=0:=j1
  all_goals simp_all
 ·simp_all [zib]
def sgn(a b:Nat):Int:=if a<b then -1 else if b<a then 1 else 0
def kV(X Y k:Nat):Prop:=X/2^(32*k)=Y/2^(32*k)
def GV{X Y:Nat}(a:X<eY)(b:Y<eY):kV X Y 16:=by unfold kV;rw[iI,eh] at a b;omega
def oH(X k:Nat):X/2^(32*k)=X/2^(32*(k+1))*4294967296+(X/2^(32*k))%4294967296:=by rw[eP,<-z2a];omega
def B9{X Y k:Nat}(h:kV X Y (k+1))(a:bQ X k=bQ Y k):kV X Y k:=by unfold kV bQ at *;rw[oH X k,oH Y k,h];omega
def C7{X Y k:Nat}(h:kV X Y (k+1))(b:bQ X k≠bQ Y k):sgn X Y=if bQ X k<bQ Y k then -1 else 1:=by
 unfold kV bQ at *;have hx:=oH X k;have hy:=oH Y k;have hp:=zza (32*k);have c:=j7 X k;have d:=j7 Y k;have h1:=z5a X hp;have h2:=z5a Y hp;simp only[show(2:Nat)^32=4294967296 from rfl] at b ⊢;generalize 2^(32*k)=p at *;unfold sgn;by_cases hlt:X/p<Y/p
 ·have:p*(X/p)+p<=p*(Y/p):=by rw[<-zGd];exact zeb _ hlt
  omega
 ·have a:Y/p<X/p:=j1
  have:p*(Y/p)+p<=p*(X/p):=by rw[<-zGd];exact zeb _ a
  omega
def Hx{X Y:Nat}(h:kV X Y 0):sgn X Y=0:=by simp_all [kV,sgn]
theorem fk(X k:Nat):bQ X k=((X/2^(32*k)%4294967296:Nat):Int):=rfl
def gN{X n k:Nat}(h:X<2^(32*n))(hk:n<=k):bQ X k=0:=by rw[fk,zib (zZa h (zta j1 j1))];rfl
def my(X c s j:Nat)(h:j<s):bQ (X+c*2^(32*s)) j=bQ X j:=by
 rw[fk,fk];congr 1;rw[show 32*s=32*j+(32+32*(s-j-1)) from by omega,zsb,zsb,show c*(2^(32*j)*(2^32*2^(32*(s-j-1))))=2^(32*j)*(4294967296*(c*2^(32*(s-j-1)))) from by rw[show(2:Nat)^32=4294967296 from rfl];ac_rfl,z3b _ _ (zza _),zud]
def iW(A B i:Nat):Nat:=A%2^(32*i)*B
def p8(A B i k:Nat):Nat:=iW A B i+(A/2^(32*i)%4294967296)*(B%2^(32*k))*2^(32*i)
def rA(A B i k:Nat):Nat:=p8 A B i k/2^(32*(i+k))-iW A B i/2^(32*(i+k))
def Ay(A B i k:Nat):Nat->Int:=xP (i+k) (p8 A B i k) (iW A B i)
def yZ(A B i:Nat):p8 A B i 0=iW A B i:=by simp[p8,zld]
def yV(A B i:Nat):rA A B i 0=0:=by simp[rA,yZ]
def Ha(A B i:Nat):Ay A B i 0=bQ (iW A B i):=by funext j;simp[Ay,yZ,xP]
def yY(A B i k:Nat):p8 A B i (k+1)=p8 A B i k+(A/2^(32*i)%4294967296)*(B/2^(32*k)%4294967296)*2^(32*(i+k)):=by
 unfold p8;rw[fE,show 32*(i+k)=32*i+32*k from by omega,zsb,zac,zhb,zVb]
 grind
def Ot(A B i k:Nat):iW A B i<=p8 A B i k:=zhd _ _
def Aw(A B i k:Nat):rA A B i k+iW A B i/2^(32*(i+k))=p8 A B i k/2^(32*(i+k)):=by unfold rA;have:=Nat.div_le_div_right (c:=2^(32*(i+k))) (Ot A B i k);omega
theorem Cz(A B i k:Nat):p8 A B i (k+1)/2^(32*(i+k))=rA A B i k+iW A B i/2^(32*(i+k))+(A/2^(32*i)%4294967296)*(B/2^(32*k)%4294967296):=by rw[yY,zed _ _ (zza _),Aw]
def wH(A B i k:Nat):rA A B i (k+1)=(rA A B i k+((A/2^(32*i)%4294967296)*(B/2^(32*k)%4294967296)+iW A B i/2^(32*(i+k))%4294967296))/4294967296:=by
 have h1:=Aw A B i (k+1);have h2:=Cz A B i k;have e:∀ X,X/2^(32*(i+(k+1)))=X/2^(32*(i+k))/4294967296:=λX=>by rw[show i+(k+1)=i+k+1 from by omega,eP,z2a]
 grind
def DC(a p q z c:Nat):(((a+(p*q+z))%c:Nat):Int)=((a:Int)+((p:Int)*q+z))%(c:Int):=by push_cast;rfl
def G6(A B i k:Nat):((rA A B i (k+1):Nat):Int)=((rA A B i k:Nat)+(bQ A i*bQ B k+bQ (iW A B i) (i+k)))/4294967296:=by simp_all [wH,fk]
def Ax(A B i k:Nat):rA A B i k<=4294967295:=by
 induction k with
 | zero=>rw[yV];omega
 | succ k ih=>
  rw[wH];have h1:A/2^(32*i)%4294967296<=4294967295:=j1
  have h2:B/2^(32*k)%4294967296<=4294967295:=j1
  have h3:=z9a h1 h2;omega
def G8(A B i k:Nat):Ay A B i k (i+k)=bQ (iW A B i) (i+k):=yT _ _ _
def JW(A B i k:Nat):bQ (p8 A B i (k+1)) (i+k)=((rA A B i k:Nat)+(bQ A i*bQ B k+bQ (iW A B i) (i+k)))%4294967296:=by grind [fk,p8,Cz]
def y7{A B i m:Nat}(a:B<2^(32*m)):iW A B (i+1)=p8 A B i m:=by grind [iW,p8,fE,Nat.mod_eq_of_lt,Nat.add_mul]
def FQ{A B i m:Nat}(a:B<2^(32*m)):iW A B i<2^(32*(i+m)):=by
 unfold iW;rw[show 32*(i+m)=32*i+32*m from by omega,zsb]
 exact zXc (z5a _ (zza _)) a
def Hb(A B:Nat):iW A B 0=0:=by simp[iW,zld]
def JZ{A B n:Nat}(a:A<2^(32*n)):iW A B n=A*B:=by unfold iW;rw[zXa a]
def lw(k:Nat):bQ 0 k=0:=by simp[bQ]
def mz(X a k:Nat):bQ (X/2^(32*a)) k=bQ X (a+k):=by simp_all [fk,z2a,zsb,zac]
def BP(X a k:Nat):bQ (X/pC a) k=bQ X (a+k):=by rw[eh,mz]
def JT(a b D c:Nat):(a+b*D)%c=(a+b%c*D)%c:=by
 have h:b*D%c=b%c*D%c:=by simp_all
 simp_all [Nat.add_mod]
def iV(X D k:Nat):Nat:=X%2^(32*k)*D/2^(32*k)
def yX(X D:Nat):iV X D 0=0:=by simp[iV,zld]
def Az(X k:Nat){D:Nat}(h:0<D):iV X D k<D:=by unfold iV;rw[z1a (zza _),zRa D];exact zGb (z5a _ (zza _)) h
def D4(X D k:Nat):iV X D (k+1)=(iV X D k+X/2^(32*k)%4294967296*D)/4294967296:=by unfold iV;grind [fE,eP,Nat.div_div_eq_div_mul,Nat.add_mul,Nat.mul_assoc,Nat.add_mul_div_left]
def yW(X D k:Nat):((iV X D (k+1):Nat):Int)=((iV X D k:Nat)+bQ X k*(D:Nat))/4294967296:=by simp_all [zjc,Int.add_zero,Int.natCast_zero,Int.cast_ofNat_Int,D4,fk]
def Cy(X D k:Nat):bQ (X*D) k=((iV X D k:Nat)+bQ X k*(D:Nat))%4294967296:=by
 have h:=DC (iV X D k) (X/2^(32*k)%4294967296) D 0 4294967296;simp only[zjc,Int.add_zero,Int.natCast_zero,Int.cast_ofNat_Int] at h;rw[fk,fk];refine Eq.trans (zna Nat.cast ?_) h;have e:X*D/2^(32*k)=iV X D k+X/2^(32*k)*D:=by grind [iV,Nat.add_mul_div_left,Nat.two_pow_pos,Nat.mul_assoc,Nat.add_mul,j7]
 rw[e,JT]
def JV{X D:Nat}(h:X<eY):iV X D 16=X*D/eY:=by grind [iV,CM,Nat.mod_eq_of_lt]
def I5(X n k:Nat)(hn:n<=32):bQ (X/2^n) k=(bQ X (k+1)*4294967296+bQ X k)/((2^n:Nat):Int)%4294967296:=by
 rw[fk,fk,fk,eP,<-z2a,z2a,zRa (2^n),<-z2a];generalize X/2^(32*k)=Y;have e:(((Y/4294967296%4294967296:Nat):Int)*4294967296+((Y%4294967296:Nat):Int))=((Y%(2^n*(2^(32-n)*4294967296)):Nat):Int):=by
  rw[<-z8a,<-zsb,show n+(32-n)=32 from by omega,show(2:Nat)^32=4294967296 from rfl]
  omega
 rw[e,<-zCd,Nat.mod_mul_right_div_self];generalize Y/2^n=Z;have h:Z%4294967296=Z%(2^(32-n)*4294967296)%4294967296:=(Nat.mod_mul_left_mod _ _ _).symm;rw[h];exact Int.natCast_emod _ 4294967296
def yN(X k j:Nat):bQ (X/2^(32*k)*2^(32*k)) j=if j<k then 0 else bQ X j:=by
 have h:=my 0 (X/2^(32*k)) k j;by_cases hj:j<k
 ·simp_all [zfb,lw]
 ·rw[zia hj,show j=k+(j-k) from by omega,<-mz,zpd _ (zza _),mz]
def gF(X b k:Nat):Nat:=X/2^(32*k)%b
def CY(X k:Nat){b:Nat}(h:0<b):gF X b k<b:=z5a _ h
def vO(X k:Nat):X/2^(32*k)=X/2^(32*(k+1))*4294967296+X/2^(32*k)%4294967296:=by rw[eP,<-z2a];omega
def Ep(X b k:Nat):gF X b k=(gF X b (k+1)*4294967296+X/2^(32*k)%4294967296)%b:=by
 unfold gF
 conv=>lhs;rw[vO X k]
 simp_all [z4c,JT]
def Hy(X k:Nat){b:Nat}(a:0<b)(h:b<=4294967295):X/b/2^(32*k)%4294967296=(gF X b (k+1)*4294967296+X/2^(32*k)%4294967296)/b:=by
 have e:X/b/2^(32*k)=X/2^(32*(k+1))/b*4294967296+(gF X b (k+1)*4294967296+X/2^(32*k)%4294967296)/b:=by
  rw[z2a,zRa,<-z2a]
  conv=>lhs;rw[vO X k]
  unfold gF;generalize X/2^(32*(k+1))=Y;generalize X/2^(32*k)%4294967296=z
  conv=>lhs;rw[show Y*4294967296+z=b*(Y/b*4294967296)+(Y%b*4294967296+z) from by
   have:=zcc Y b
   conv=>lhs;rw[<-this]
   rw[zhb,z8a];omega]
  rw[Nat.mul_add_div a]
 have c:(gF X b (k+1)*4294967296+X/2^(32*k)%4294967296)/b<4294967296:=by rw[z1a a];have h1:=CY X (k+1) a;omega
 simp_all
def Hv(X b:Nat):gF X b 0=X%b:=by simp[gF]
structure Heads(W V P T F u v:Nat):Prop where
 w:W/P=T*4294967296+u
 d:V/P=F*4294967296+v
 u:u<4294967296
 v:v<4294967296
 one:1<=F
 pos:0<P
 lt:W<V*4294967296
variable{W V P T F u v:Nat}
def Heads.key{d r:Nat}(h:d*F+r=T):d*(F*4294967296+v)+r*4294967296=T*4294967296+d*v:=by grind
def Heads.vpos(H:Heads W V P T F u v):0<V:=by
 rcases zNb V with h|h
 ·have:=H.lt;rw[h] at this;omega
 ·exact h
def Heads.over(H:Heads W V P T F u v){d:Nat}(h:W/P<d*(V/P)):W/V<d:=by
 apply zRc;have h1:W<(W/P+1)*P:=by have:=zcc W P;have:=z5a W H.pos;rw[zhb,zRa (W/P)];omega
 have h2:(W/P+1)*P<=d*(V/P)*P:=zIa _ h;have h3:d*(V/P)*P<=d*V:=by rw[z8a];exact zeb _ (zvc V P)
 grind
def Heads.under(H:Heads W V P T F u v){d:Nat}(h:d*(V/P)<=W/P)(f:d<4294967296):d<=W/V+1:=by
 rcases zNb d with h0|h0
 ·simp_all
 obtain⟨e,rfl⟩:∃ e,d=e+1:=⟨d-1,j1⟩
 have c:e<=V/P:=by rw[H.d];have h1:1*4294967296<=F*4294967296:=zIa _ H.one;omega
 have:e<=W/V:=by
  rw[zic H.vpos];have h1:V<=(V/P+1)*P:=by have:=zcc V P;have:=z5a V H.pos;rw[zhb,zRa (V/P)];omega
  have h2:e*V<=e*((V/P+1)*P):=zeb _ h1;have h3:e*((V/P+1)*P)<=(e+1)*(V/P)*P:=by rw[<-z8a];apply zIa;rw[zac,zhb];omega
  have a:(e+1)*(V/P)*P<=W/P*P:=zIa _ h;have b:=zvc W P;omega
 omega
def Heads.q_lt(H:Heads W V P T F u v):W/V<4294967296:=zRc (by have:=H.lt;omega)
def Heads.start(H:Heads W V P T F u v):W/V<=T/F:=by
 have h1:W/V<T/F+1:=by
  apply H.over;rw[H.w,H.d];have h2:T<(T/F+1)*F:=by have:=zcc T F;have:=z5a T (show 0<F from H.one);rw[zhb,zRa (T/F)];omega
  have h3:(T+1)*4294967296<=(T/F+1)*F*4294967296:=zIa _ h2;have a:(T/F+1)*F*4294967296<=(T/F+1)*(F*4294967296+v):=x6
  have b:=H.u;omega
 omega
def Heads.step_big(H:Heads W V P T F u v){d:Nat}(h:4294967296<=d):W/V<=d-1:=Nat.le_sub_one_of_lt (zZa H.q_lt h)
def Heads.step(H:Heads W V P T F u v){d r:Nat}(h:d*F+r=T)(ht:r*4294967296+u<d*v):W/V<=d-1/\1<=d:=by
 have h1:W/V<d:=by apply H.over;rw[H.w,H.d];grind
 grind
def Heads.t_lt(H:Heads W V P T F u v):T<(F+1)*4294967296:=by
 have h1:W/P*P<=W:=zvc W P;have h2:V<(V/P+1)*P:=by have:=zcc V P;have:=z5a V H.pos;rw[zhb,zRa (V/P)];omega
 have h3:V*4294967296<(V/P+1)*P*4294967296:=zGb h2 j1
 have c:=H.lt;have a:W/P*P<(V/P+1)*4294967296*P:=by rw[Nat.mul_right_comm];omega
 have b:W/P<(V/P+1)*4294967296:=Nat.lt_of_mul_lt_mul_right a;rw[H.w,H.d] at b;have e:=H.v;omega
def Heads.done(H:Heads W V P T F u v){d r:Nat}(h:d*F+r=T)(a:4294967296<=r\/(d<4294967296/\d*v<=r*4294967296+u)):d<4294967296/\d<=W/V+1:=by
 have b:d<4294967296:=by
  rcases a with a|a
  ·have h1:=H.t_lt;rw[zhb,zGc] at h1;have h2:d*F<4294967296*F:=j1
   exact Nat.lt_of_mul_lt_mul_right h2
  ·exact a.1
 refine⟨b,H.under ?_ b⟩;rw[H.w,H.d];have hk:=Heads.key (v:=v) h;rcases a with a|a
 ·have h1:d*v<=4294967295*4294967295:=z9a j1 (by have:=H.v;omega)
  omega
 ·omega
def dg(X k:Nat):Nat:=X/2^(32*k)%4294967296
def sS(X k:Nat):bQ X k=(dg X k:Nat):=rfl
def gD(X k:Nat):dg X k<4294967296:=z5a _ j1
def Ff(X k:Nat):dg X k<=4294967295:=Nat.le_of_lt_succ (gD X k)
def qA(X k:Nat):X/2^(32*k)=X/2^(32*(k+1))*4294967296+dg X k:=vO X k
def lz{X k:Nat}(h:X<2^(32*(k+1))):X/2^(32*k)=dg X k:=by rw[qA,zib h,zEd,zfb]
def Jq{U V e j:Nat}(b:V<2^(32*(e+2)))(c:2^(32*(e+1))<=V)(d:U/2^(32*j)<V*4294967296) :
  Heads (U/2^(32*j)) V (2^(32*e)) (dg U (j+e+2)*4294967296+dg U (j+e+1)) (dg V (e+1)) (dg U (j+e)) (dg V e):=by
 have hc:∀ k,U/2^(32*j)/2^(32*k)=U/2^(32*(j+k)):=λk=>by rw[z2a,<-zsb,zac]
 have a:U<2^(32*(j+e+2+1)):=by
  have h1:=(z1a (zza (32*j))).1 d;have h2:V*4294967296*2^(32*j)<2^(32*(e+2))*4294967296*2^(32*j):=zGb (zGb b j1) (zza _)
  grind
 refine⟨?_,?_,gD _ _,gD _ _,?_,zza _,d⟩
 ·rw[hc,qA,qA U (j+e+1),lz a]
 ·rw[qA,lz b]
 ·rw[<-lz b];exact(zic (zza _)).2 (by rw[zGc];exact c)
def RA(U i k:Nat):dg U i*4294967296+dg U k<=18446744073709551615:=by have h1:=Ff U i;have h2:=Ff U k;omega
def DP{T F D R:Nat}(h:D*F+R=T)(a:1<=D):(D-1)*F+(R+F)=T:=by
 obtain⟨E,rfl⟩:∃ E,D=E+1:=⟨D-1,j1⟩
 grind
def xF{X X' Y k:Nat}(h:X%2^(32*k)=X'%2^(32*k)):cz X Y k=cz X' Y k:=by unfold cz;rw[h]
def gd(U Z j:Nat):Nat:=U%2^(32*j)+Z*2^(32*j)
def Hh{U Z j t:Nat}(h:t<j):bQ (gd U Z j) t=bQ U t:=by simp_all [gd,my,mA]
def Ed(U Z j i:Nat):bQ (gd U Z j) (j+i)=bQ Z i:=by
 rw[<-mz];unfold gd
 simp_all [zed,zza,zib,z5a,zfb]
def xU(U Z j i:Nat):Nat->Int:=xP (j+i) (gd U Z j) U
def zu(U Z j:Nat):xU U Z j 0=bQ U:=by
 funext t;unfold xU xP;split
 ·rename_i h;exact Hh j1
 ·rfl
def oT(U Z j i:Nat):xU U Z j i (j+i)=bQ U (j+i):=yT _ _ _
def oy(W Y m:Nat):Nat:=(W+2^(32*m)-Y)%2^(32*m)
def HL{W Y m i:Nat}(a:i<m)(d:Y<=2^(32*m)):bQ (oy W Y m) i=(bQ W i-bQ Y i-(cz W Y i:Nat))%4294967296:=by
 have c:bQ (W+2^(32*m)) i=bQ W i:=by have:=my W 1 m i a;rwa [zGc] at this
 have b:cz (W+2^(32*m)) Y i=cz W Y i:=xF (by rw[show 32*m=32*i+(32*m-32*i) from by omega,zsb,zud])
 unfold oy;rw[mA,zja a,Fh j1,c,b]
def Lc(W Y m:Nat):oy W Y m<2^(32*m):=z5a _ (zza _)
def Bx{W Y m:Nat}(a:W<2^(32*m))(b:Y<2^(32*m)):cz W Y m=if W<Y then 1 else 0:=by simp_all [cz,zXa]
def fA(N V j:Nat):Nat:=N/V%2^(32*j)*V+N%V
def Hu(N V:Nat):fA N V 0=N%V:=by simp[fA,zld]
def En{N V k:Nat}(h:N/V<2^(32*k)):fA N V k=N:=by unfold fA;rw[zXa h,zRa];exact zcc N V
def zk(N V j:Nat):fA N V (j+1)=fA N V j+dg (N/V) j*V*2^(32*j):=by unfold fA dg;rw[fE];grind
def AQ{N V:Nat}(j:Nat)(h:0<V):fA N V j<V*2^(32*j):=by unfold fA;have h1:=z5a (N/V) (zza (32*j));have h2:=z5a N h;have h3:(N/V%2^(32*j)+1)*V<=2^(32*j)*V:=zIa _ h1;grind
def rH{N V:Nat}(j:Nat)(h:0<V):fA N V j/2^(32*j)<V:=by rw[z1a (zza _)];exact AQ j h
def tG(N V j:Nat):fA N V (j+1)/2^(32*j)=fA N V j/2^(32*j)+V*dg (N/V) j:=by rw[zk,zed _ _ (zza _),zRa V]
def CX(N V j:Nat):fA N V (j+1)%2^(32*j)=fA N V j%2^(32*j):=by rw[zk,Nat.add_mul_mod_self_right]
def Kr{N V:Nat}(j:Nat)(h:0<V):fA N V (j+1)/2^(32*j)/V=dg (N/V) j:=by simp_all [tG,z3b,zib,rH,zfb]
def Ks{N V:Nat}(j:Nat)(h:0<V):fA N V (j+1)/2^(32*j)<V*4294967296:=by rw[z1a (zza _),z8a,zRa 4294967296,<-eP];exact AQ (j+1) h
def Ht{N V n:Nat}(j:Nat)(h:0<V)(a:V<2^(32*n)):fA N V (j+1)<2^(32*(j+n+1)):=by have h1:=AQ (N:=N) (j+1) h;have h2:V*2^(32*(j+1))<2^(32*n)*2^(32*(j+1)):=zGb a (zza _);grind
def ze{U U' j:Nat}(h:U%2^(32*j)=U'%2^(32*j)):gd U (U'/2^(32*j)) j=U':=by unfold gd;rw[h,zRa (U'/2^(32*j)) (2^(32*j))];exact Nat.mod_add_div U' _
def Hi(U Z j:Nat):gd U Z j%2^(32*j)=U%2^(32*j):=by unfold gd;rw[Nat.add_mul_mod_self_right,Nat.mod_mod]
def Hg(U Z j:Nat):gd U Z j/2^(32*j)=Z:=by simp_all [gd,zed,zza,zib,z5a,zfb]
def CI{U Z j m:Nat}(hZ:Z<2^(32*m)):gd U Z j<2^(32*(j+m)):=by
 have h1:gd U Z j<(Z+1)*2^(32*j):=by unfold gd;have:=z5a U (zza (32*j));rw[zhb];omega
 have h2:(Z+1)*2^(32*j)<=2^(32*m)*2^(32*j):=zIa _ hZ;grind
variable{N V n:Nat}
def pK(a:V<2^(32*n)):V<2^(32*(n+1)):=zZa a (zta j1 j1)
def Bi{x y B:Nat}(hx:x<B):(x+y+B-y)%B=x:=by rw[show x+y+B-y=x+B from by omega,Nat.add_mod_right,zXa hx]
def C0(j:Nat)(h:0<V)(a:V<2^(32*n)) :
  gd (fA N V (j+1)) (oy (fA N V (j+1)/2^(32*j)) (V*dg (N/V) j) (n+1)) j=fA N V j:=by
 have e:oy (fA N V (j+1)/2^(32*j)) (V*dg (N/V) j) (n+1)=fA N V j/2^(32*j):=by unfold oy;rw[tG];exact Bi (zhc (rH j h) (pK a))
 rw[e,ze (CX N V j)]
def HM(j:Nat)(h:0<V)(a:V<2^(32*n)) :
  oy (fA N V (j+1)/2^(32*j)) (V*(dg (N/V) j+1)) (n+1)=fA N V j/2^(32*j)+2^(32*(n+1))-V:=by
 have h1:=rH (N:=N) j h;have h2:=pK a;unfold oy;rw[tG,zac V (dg (N/V) j) 1,zZc];generalize 2^(32*(n+1))=B at *;generalize fA N V j/2^(32*j)=x at *;generalize V*dg (N/V) j=y;rw[show x+y+B-(y+V)=x+B-V from by omega,zXa j1]
def C1(j:Nat)(h:0<V)(b:V<2^(32*n)){U1:Nat}(a:U1=gd (fA N V (j+1)) (oy (fA N V (j+1)/2^(32*j)) (V*(dg (N/V) j+1)) (n+1)) j) :
  gd U1 ((U1/2^(32*j)+V)%2^(32*(n+1))) j=fA N V j:=by
 have h1:=rH (N:=N) j h;have h2:=pK b;have c:(U1/2^(32*j)+V)%2^(32*(n+1))=fA N V j/2^(32*j):=by rw[a,Hg,HM j h b];generalize 2^(32*(n+1))=B at *;generalize fA N V j/2^(32*j)=x at *;rw[show x+B-V+V=x+B from by omega,Nat.add_mod_right,zXa j1]
 rw[c,ze (by rw[a,Hi,CX])]
end
end Go.Proofs.YtphlmegkommlnaaGreatDoor
