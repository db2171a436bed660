/- Part 11 of the proof that For every yard with at most 6 things -/
import Derived.Test.YtpahompifldeeaaGreatSteps01
import Derived.Test.YtpahompifldeeaaGreatSteps10
set_option linter.unusedVariables false
set_option linter.unusedSimpArgs false
set_option linter.unnecessarySimpa false
set_option linter.defProp false
set_option maxRecDepth 20000
namespace Go.Proofs.YtpahompifldeeaaGreat
noncomputable section
namespace Sy
open Go Go.Proofs Geo
def ah(L:List Nat):List D:=L.map λ(k:Nat)=>I (k:Int)
def am(L:List Nat):(ah L).length=L.length:=zoa ..
def ve{L:List Nat}{t k:Nat}(h:L[t]?=some k):(ah L)[t]?=some (I (k:Int)):=by simp[ah,h]
def Cp{n:Nat}(h:0<n):D.idx (D.int .i64 0) n=some 0:=ak (i:=0) h
theorem td{m:V}{P:Nat->V}{a:Nat}:∀ (L:List Nat) (best:Option Nat) (b:Nat),L.foldl (cQ m P a) best=some b->b∈L\/best=some b
 | [],best,b,h=>.inr h
 | k::L,best,b,h=>by
  rw[zhc] at h;rcases td L _ b h with h1|h1
  ·exact .inl (zia _ h1)
  ·unfold cQ at h1;split at h1
   ·exact .inr h1
   ·split at h1
    ·cases h1;exact .inl zma
    ·split at h1<;>cases h1
     ·exact .inl zma
     ·exact .inr rfl
theorem sE{body:Bd}{S:Nat->Nat->Prop}{a:Nat}{G:Nat->Prop}(hS:∀ c b,G c->S c b->b≠a->G b)
  (hstep:∀ (c b:Nat) (out:List Nat),G c->c≠a->S c b->out.length<=1000->body [.sl (ah out),I (c:Int)]=some (.inl [.sl (ah (out++[c])),I (b:Int)]))
  (hend:∀ out:List Nat,body [.sl (ah out),I (a:Int)]=some (.inr (0,[.sl (ah out)]))) :
  ∀ {c:Nat} {p:List Nat},Chain S a c p->G c->c≠a->∀ out:List Nat,(out++p).length<=1000->aN body [.sl (ah out),I (c:Int)]=some (0,[.sl (ah (out++p))])
 | c,_,.done s,hc,hca,out,hl=>by
  have h1:=hstep c a out hc hca s (by simp at hl;omega)
  rw[show aN body [.sl (ah out),I (c:Int)]=aN body [.sl (ah (out++[c])),I (a:Int)] from cS h1];exact cL (hend _)
 | c,_,.step (y:=y) (l:=p) s hy k,hc,hca,out,hl=>by
  have h1:=hstep c y out hc hca s (by simp at hl;omega)
  rw[show aN body [.sl (ah out),I (c:Int)]=aN body [.sl (ah (out++[c])),I (y:Int)] from cS h1];have:=sE hS hstep hend k (hS c y hc s hy) hy (out++[c]) (by simpa using hl)
  rw[this];simp
def jX{P:Nat->V}{i:Nat}{m:V}{d:Int}:bo P (i+1) m d=if V.dot m (P i)=d then bo P i m d++[i] else bo P i m d:=by
 unfold bo;rw[zxb,List.filter_append];by_cases h:V.dot m (P i)=d
 ·simp[h]
 ·simp[h]
def ZM(n:Nat){l:List V}(hl:∀ x∈l,bd MV x)(hlen:l.length<=100)(hs:∀ i j,i<j->j<l.length->aF (pt l i) (pt l j)){m:V}{d:Int}(hF:IsF (pt l) l.length m d)(hm:bd 549755813888 m) :
  ∃ p,bE (pt l) l.length m d p/\cA (n+5) 46 [aS l,cd (m,d)]=some (.sl (ah p)):=by
 obtain⟨p,hp,hnd,hmem⟩:=hF.poly hs;refine⟨p,hp,?_⟩;have F:=hF.flat hs;obtain⟨a,ha1,ha,hea,hale,h3⟩:=hF.head hs;obtain⟨a',ha1',hch⟩:=hp;rw[ha1] at ha1';cases ha1';obtain⟨on,hon⟩:∃ on,bo (pt l) l.length m d=on:=⟨_,rfl⟩;rw[hon] at F ha1 ha hea hale h3 hch hmem;have hlt:∀ k∈on,k<l.length:=λk hk=>by rw[<-hon] at hk;exact(aV.1 hk).1
 have hdk:∀ k∈on,V.dot m (pt l k)=d:=λk hk=>by rw[<-hon] at hk;exact(aV.1 hk).2
 have hw:∀ b∈on,∀ k∈on,V.dot m (wy (pt l) b k)=0:=λb hb k hk=>by rw[c7,hdk b hb,hdk k hk];omega
 have honl:on.length<=100:=by
  rw[<-hon];unfold bo;exact zCa (zlc _ _) (by rw[zUb];exact hlen)
 have hpl:p.length<=on.length:=z5b hnd λz hz=>((hmem z).1 hz).1;have ll:(l.map ag).length=l.length:=zoa ..;have hcore:=λ(c k:Nat) (hc:c∈on) (hk:k∈on) (best:Option Nat) (hb:∀ b,best=some b->b∈on) (X:D)=>L9 n hl (d:=d) hF.nz.1 (hlt c hc) (hlt k hk) (best:=best) (λb e=>⟨hlt b (hb b e),hw c hc b (hb b e)⟩) (hw c hc k hk) X;have hnx:∀ c∈on,Geo.ld (pt l) on c->∃ b,on.foldl (cQ m (pt l) c) none=some b/\Side m (pt l) on c b:=λc hc ec=>vQ F hc ec (h3 c hc);obtain⟨t0,hon0⟩:∃ t0,on=a::t0:=by
  cases hx:on with
  | nil=>rw[hx] at ha;simp at ha
  | cons y t0=>rw[hx] at ha1;simp at ha1;subst ha1;exact⟨t0,rfl⟩
 have hget0:(ah on)[0]?=some (I (a:Int)):=by rw[hon0];rfl
 have hpos:0<(ah on).length:=by rw[am,hon0];simp
 rw[Z3]
 delta Pi qG qB qC qT qS qX qV qW qZ iL iR Jn
 refine aa (z:=l.map ag) rfl ?_;refine ba (λi s=>s=[I (i:Int),.sl (ah (bo (pt l) i m d))]) l.length 0 (zga _) rfl (λi hi s hJ=>?_) (λs hJ=>?_)
 ·subst hJ;left;refine⟨_,?_,rfl⟩;refine aa af (aa ae ?_);refine aC (by show((i:Int)<((l.map ag).length:Int));rw[ll];omega) ?_
  refine aa (z:=(0,[.sl (ah (bo (pt l) (i+1) m d))])) ?_ (aa (av (aw (i:=i) (by omega))) rfl)
  refine aa (z:=l.map ag) rfl (aa (z:=i) (by rw[ll];exact ak hi) (aa (cB hi) (aa (z:=ag m) rfl (aa (E6 (n+3) hm (hl _ (ca hi)) (by decide)) (aa (z:=I d) rfl ?_)))))
  rw[bF];refine aa ae ?_;rw[jX];by_cases hd:V.dot m (pt l i)=d
  ·have hd':V.dot m (l.getD i V.zero)=d:=hd;rw[if_pos hd,Mt hd',if_pos ?_]
   ·simp[g1,D.els,ah,g0]
   ·have:(bo (pt l) i m d).length<=i:=by unfold bo;exact zCa (zlc _ _) (by simp)
    simp only[g0,g1,D.els,am,zDa,zib];omega
  ·have hd':¬ V.dot m (l.getD i V.zero)=d:=hd;rw[if_neg hd,Mu hd'];rfl
 ·subst hJ;refine⟨(0,[.sl (ah on)]),?_,?_⟩
  ·refine aa af (aa ae ?_);rw[<-hon];exact az (by show ¬ ((l.length:Int)<((l.map ag).length:Int));rw[ll];omega) rfl
  refine aa (Cp hpos) (aa hget0 (aa (Cp hpos) (aa hget0 ?_)));obtain⟨b1,hb1,hs1⟩:=hnx a ha hea;refine ba (λt s=>s=[jx ((on.take t).foldl (cQ m (pt l) a) none),.sl (ah on),I (t:Int),.sl (ah on)]) on.length 0 (zga _) rfl (λt ht s hJ=>?_) (λs hJ=>?_)
  ·subst hJ;left;refine⟨_,?_,rfl⟩;refine aa af (aa ae ?_);refine aC (by show((t:Int)<((ah on).length:Int));rw[am];omega) ?_
   have hk:on[t]?=some on[t]:=zca ht;refine aa (z:=(0,[jx ((on.take (t+1)).foldl (cQ m (pt l) a) none),.sl (ah on)])) ?_ (aa (av (aw (i:=t) (by omega))) rfl)
   refine aa (z:=ah on) rfl (aa (z:=t) (by rw[am];exact ak ht) (aa (ve hk) ?_))
   rw[zka ht,zqd,zhc,List.foldl_nil];exact hcore a on[t] ha (zla ht) _ (λb hb=>by
    rcases td _ _ b hb with h|h
    ·exact zSa h
    ·cases h) (.sl (ah on))
  ·subst hJ;rw[zIa,hb1];refine⟨(0,[I (b1:Int),.sl (ah on)]),?_,?_⟩
   ·refine aa af (aa ae ?_);refine az (by show ¬ ((on.length:Int)<((ah on).length:Int));rw[am];omega) ?_
    rfl
   obtain⟨p',hpp,hch',hy⟩:∃ p',p=a::p'/\Chain (Side m (pt l) on) a b1 p'/\b1≠a:=by
    cases hch with
    | done s=>exact absurd rfl s.ne
    | step s hne k=>
     have:=Side.unique F ha s hs1;subst this;exact⟨_,rfl,k,hne⟩
   refine nB (sE (S:=Side m (pt l) on) (a:=a) (G:=λc=>c∈on/\Geo.ld (pt l) on c) (λc b hc s _=>⟨s.mem,s.ext F hc.1⟩) (λc b out hc hca hsd hol=>?_) (λout=>?_) hch' ⟨hs1.mem,hs1.ext F ha⟩ hy [a] ?_) ?_
   ·obtain⟨b',hb',hsb'⟩:=hnx c hc.1 hc.2;have:=Side.unique F hc.1 hsd hsb';subst this;refine aa (z:=ah on) rfl (aa (Cp hpos) (aa hget0 ?_));have e0:D.beq (I (c:Int)) (I (a:Int))=false:=by rw[bN];simp[hca]
    refine aa (z:=true) (by show D.truth (D.bool (!(D.beq (I (c:Int)) (I (a:Int)))))=_;rw[e0];rfl) ?_
    rw[if_pos rfl,if_pos (by simp only[g0,D.els,am,zDa,zib];omega)]
    refine aa (z:=ah on) rfl ?_;refine bT (λt s=>s=[jx ((on.take t).foldl (cQ m (pt l) c) none),I (t:Int)]) on.length 0 (zga _) rfl (λt ht s hJ=>?_) (λs hJ=>?_)
    ·subst hJ;left;refine⟨_,?_,rfl⟩;refine aa af (aa ae ?_);refine aC (by show((t:Int)<((ah on).length:Int));rw[am];omega) ?_
     have hk:on[t]?=some on[t]:=zca ht;refine aa (z:=(0,[jx ((on.take (t+1)).foldl (cQ m (pt l) c) none),.sl (ah on)])) ?_ (aa (av (aw (i:=t) (by omega))) rfl)
     refine aa (z:=ah on) rfl (aa (z:=t) (by rw[am];exact ak ht) (aa (ve hk) ?_))
     rw[zka ht,zqd,zhc,List.foldl_nil];exact hcore c on[t] hc.1 (zla ht) _ (λb hb=>by
      rcases td _ _ b hb with h|h
      ·exact zSa h
      ·cases h) (.sl (ah on))
    ·subst hJ;rw[zIa,hb'];refine⟨(0,[I (b:Int)]),?_,?_⟩
     ·refine aa af (aa ae ?_);refine az (by show ¬ ((on.length:Int)<((ah on).length:Int));rw[am];omega) ?_
      rfl
     ·simp[g0,g1,D.els,ah]
   ·refine aa (z:=ah on) rfl (aa (Cp hpos) (aa hget0 ?_));have e0:D.beq (I (a:Int)) (I (a:Int))=true:=by rw[bN];simp
    refine aa (z:=false) (by show D.truth (D.bool (!(D.beq (I (a:Int)) (I (a:Int)))))=_;rw[e0];rfl) ?_
    rfl
   ·have:([a]++p').length=p.length:=by rw[hpp];rfl
    omega
   ·rw[hpp];rfl
end Sy
end
noncomputable section
namespace Sy
open Go Go.Proofs Geo
def lc(q:V×Int)(p:List Nat):D:=.st [ag q.1,I q.2,.sl (ah p)]
def be(l:List V):D:=.st [aS l]
def EV(l:List V):Prop:=∀ i j,i<j->j<l.length->aF (pt l i) (pt l j)
def AP{l:List V}(hl:∀ x∈l,bd MV x){m:V}{d:Int}(h:IsF (pt l) l.length m d):bd 549755813888 m:=by
 obtain⟨i,j,k,h1,h2,h3,h4,h5,h6⟩:=h.ex;have hi:=hl _ (ca (show i<l.length by omega))
 have hj:=hl _ (ca (show j<l.length by omega))
 have hk:=hl _ (ca h3);have:=je (dX (jf (P:=pt l) hi hj) (jf (P:=pt l) hi hk));rcases h5 with rfl|rfl
 ·exact this
 ·exact nk this
def XK(n:Nat){l:List V}(hl:∀ x∈l,bd MV x)(hlen:l.length<=100)(hs:EV l):∃ (L:List (V×Int)) (poly:V×Int->List Nat),Facets (pt l) l.length L/\(∀ q∈L,bE (pt l) l.length q.1 q.2 (poly q))/\L.length<=2000000 ∧
  cA (n+7) 18 [be l]=some (.sl (L.map λq=>lc q (poly q))):=by
 obtain⟨y,h1,K,L,h2,h3,h4,rfl⟩:=ZL n hl hlen;have hLF:=h2.facets h3 h4;have hLl:L.length<=2000000:=by rw[h3.length_eq];exact h2.len hlen
 have hex:∀ q:V×Int,∃ p,q∈L->bE (pt l) l.length q.1 q.2 p/\cA (n+6) 46 [aS l,cd q]=some (.sl (ah p)):=λq=>by
  by_cases hq:q∈L
  ·have hF:=(hLF.mem q).1 hq;obtain⟨p,k1,k2⟩:=ZM (n+1) hl hlen hs hF (AP hl hF);exact⟨p,λ_=>⟨k1,k2⟩⟩
  ·exact⟨[],λh=>absurd h hq⟩
 obtain⟨poly,hpoly⟩:∃ poly:V×Int->List Nat,∀ q∈L,bE (pt l) l.length q.1 q.2 (poly q)/\cA (n+6) 46 [aS l,cd q]=some (.sl (ah (poly q))):=⟨λq=>Classical.choose (hex q),λq hq=>Classical.choose_spec (hex q) hq⟩;refine⟨L,poly,hLF,λq hq=>(hpoly q hq).1,hLl,?_⟩;have hp:=λq (hq:q∈L)=>(hpoly q hq).2;rw[ZQ]
 delta O6 qG qB qC qS qX qV qW qZ iL iR Jn
 refine aa (z:=aS l) rfl (aa h1 (aa (z:=L.map cd) rfl ?_));have ll:(L.map cd).length=L.length:=zoa ..;refine ba (λi s=>s=[.sl ((L.take i).map λq=>lc q (poly q)),I (i:Int)]) L.length 0 (zga _) rfl (λi hi s hJ=>?_) (λs hJ=>?_)
 ·subst hJ;left;refine⟨_,?_,rfl⟩;refine aa af (aa ae (aC (by show((i:Int)<((L.map cd).length:Int));rw[ll];omega) ?_))
  have hg:(L.map cd)[i]?=some (cd L[i]):=by simp[hi]
  refine aa (z:=L.map cd) rfl (aa (z:=i) (by rw[ll];exact ak hi) (aa hg ?_))
  refine aa (z:=ag L[i].1) rfl (aa (z:=I L[i].2) rfl (aa (z:=aS l) rfl (aa (hp L[i] (zla hi)) ?_)));rw[if_pos (by simp only[g0,D.els,zoa,zbb,zDa,zib];omega)]
  refine aa (av (aw (i:=i) (by omega))) ?_
  rw[zka hi,zPb];rfl
 ·subst hJ;refine⟨(0,[.sl ((L.take L.length).map λq=>lc q (poly q))]),?_,?_⟩
  ·refine aa af (aa ae (az (by show ¬ ((L.length:Int)<((L.map cd).length:Int));rw[ll];omega) rfl))
  ·rw[zIa];rfl
def fX(e:Nat×Nat):D:=.st [I (e.1:Int),I (e.2:Int)]
def iu{p:List Nat}{k:Nat}(h:k<p.length):(ah p)[k]?=some (I (p.getD k 0:Nat)):=by simp[ah,List.getD,h]
end Sy
end
noncomputable section
namespace Sy
open Go Go.Proofs Geo
abbrev FL:=List ((V×Int)×List Nat)
def ao(L:FL):List D:=L.map λf=>lc f.1 f.2
def aA(L:FL):(ao L).length=L.length:=zoa ..
def cJ{L:FL}{i:Nat}(h:i<L.length):(ao L)[i]?=some (lc L[i].1 L[i].2):=by simp[ao,h]
def NH(n:Nat)(L:FL)(m:V)(hL:L.length<=3000000):cA (n+1) 108 [.sl (ao L),ag m]=some (.bool (L.any λf=>decide (f.1.1=m))):=by
 rw[Vv]
 delta Hp qB qT qX qL qZ iL iR Jn
 refine ba (λi s=>s=[I (i:Int)]/\(L.take i).any (λf=>decide (f.1.1=m))=false) L.length 0 (zga _) ⟨rfl,by simp⟩ (λi hi s hJ=>?_) (λs hJ=>?_)
 ·obtain⟨rfl,hz⟩:=hJ;by_cases he:L[i].1.1=m
  ·right;refine⟨(0,[.bool true]),?_,?_⟩
   ·refine aa (z:=ao L) rfl (aa af (aa ae (aC (by show((i:Int)<((ao L).length:Int));rw[aA];omega) ?_)))
    refine aa (z:=ao L) rfl (aa (z:=i) (by rw[aA];exact ak hi) (aa (cJ hi) (aa (z:=ag L[i].1.1) rfl ?_)))
    rw[im];exact aa ae (aC he rfl)
   ·have:L.any (λf=>decide (f.1.1=m))=true:=zTc.2 ⟨L[i],zla hi,by simpa using he⟩
    simp[this,g0]
  ·left;refine⟨[I ((i+1:Nat):Int)],?_,rfl,?_⟩
   ·refine aa (z:=ao L) rfl (aa af (aa ae (aC (by show((i:Int)<((ao L).length:Int));rw[aA];omega) ?_)))
    refine aa (z:=ao L) rfl (aa (z:=i) (by rw[aA];exact ak hi) (aa (cJ hi) (aa (z:=ag L[i].1.1) rfl ?_)))
    rw[im];exact aa ae (az he (aa (av (aw (i:=i) (by omega))) rfl))
   ·rw[zka hi,zIc,hz];simp[he]
 ·obtain⟨rfl,hz⟩:=hJ;rw[zIa] at hz;refine⟨(1,[]),?_,by simp[hz]⟩
  exact aa (z:=ao L) rfl (aa af (aa ae (az (by show ¬ ((L.length:Int)<((ao L).length:Int));rw[aA];omega) rfl)))
def fY(f:(V×Int)×List Nat):FL->FL
 | []=>[f]
 | x::L=>if aF f.1.1 x.1.1 then f::x::L else x::fY f L
def Ud(n:Nat)(L:FL)(f:(V×Int)×List Nat)(hL:L.length<=3000000):cA (n+2) 110 [.sl (ao L),lc f.1 f.2]=some (.sl (ao (fY f L))):=by
 rw[Vx]
 delta Hr qG qB qT qN qX qL qV qW qZ iL iR Jn
 have app:∀ (o:FL) (x:(V×Int)×List Nat),ao o++[lc x.1 x.2]=ao (o++[x]):=λo x=>by simp[ao]
 refine ba (λi s=>∃ (out:FL) (put:Bool),s=[.sl (ao out),.bool put,I (i:Int)]/\out.length<=2*i/\(put=false->fY f L=out++fY f (L.drop i))/\(put=true->fY f L=out++L.drop i)) L.length 0 (zga _) ⟨[],false,rfl,by simp,by simp,by simp⟩ (λi hi s hJ=>?_) (λs hJ=>?_)
 ·obtain⟨out,put,rfl,hol,h1,h2⟩:=hJ;left;have hd:L.drop i=L[i]::L.drop (i+1):=zkb hi;have hc:=LU n f.1.1 L[i].1.1;obtain⟨o,p,he,ho,q1,q2⟩:∃ o p,(if put=false/\aF f.1.1 L[i].1.1 then(out++[f],true) else(out,put))=(o,p)/\o.length<=2*i+1/\(p=false->fY f L=o++L[i]::fY f (L.drop (i+1)))/\(p=true->fY f L=o++L[i]::L.drop (i+1)):=by
   by_cases hput:put=false/\aF f.1.1 L[i].1.1
   ·refine⟨_,_,if_pos hput,by simp;omega,by simp,λ_=>?_⟩
    rw[h1 hput.1,hd];simp[fY,hput.2]
   ·refine⟨_,_,if_neg hput,by omega,λhp=>?_,λhp=>?_⟩
    ·have hnl:¬ aF f.1.1 L[i].1.1:=λh=>hput ⟨hp,h⟩;rw[h1 hp,hd];simp[fY,hnl]
    ·rw[h2 hp,hd]
  refine⟨[.sl (ao (o++[L[i]])),.bool p,I ((i+1:Nat):Int)],?_,o++[L[i]],p,rfl,by simp;omega,λhp=>by rw[q1 hp];simp,λhp=>by rw[q2 hp];simp⟩
  refine aa (z:=ao L) rfl (aa af (aa ae (aC (by show((i:Int)<((ao L).length:Int));rw[aA];omega) ?_)))
  refine aa (z:=ag f.1.1) rfl (aa (z:=ao L) rfl (aa (z:=i) (by rw[aA];exact ak hi) (aa (cJ hi) (aa (z:=ag L[i].1.1) rfl (aa hc ?_)))))
  refine aa (z:=(0,[.sl (ao o),.bool p])) ?_ ?_
  ·refine aa (z:=.bool (!put)) rfl (aa (z:=!put) rfl (aa (z:=!put&&decide (aF f.1.1 L[i].1.1)) ?_ (aa (z:=!put&&decide (aF f.1.1 L[i].1.1)) rfl ?_)))
   ·cases put
    ·exact ae
    ·rfl
   ·by_cases hput:put=false/\aF f.1.1 L[i].1.1
    ·rw[if_pos hput] at he;obtain⟨rfl,hlt⟩:=hput;cases he;rw[show(!false&&decide (aF f.1.1 L[i].1.1))=true by simp[hlt],if_pos rfl,if_pos (by simp only[g0,D.els,aA,zDa,zib];omega)]
     simp only[g0,D.els,app]
    ·rw[if_neg hput] at he;cases he;rw[show(!put&&decide (aF f.1.1 L[i].1.1))=false by
      cases put
      ·simpa using hput
      ·rfl]
     rfl
  ·refine aa (z:=ao L) rfl (aa (z:=i) (by rw[aA];exact ak hi) (aa (cJ hi) ?_))
   rw[if_pos (by simp only[g0,D.els,aA,zDa,zib];omega)]
   refine aa (av (aw (i:=i) (by omega))) ?_
   simp only[g0,g1,D.els,app];rfl
 ·obtain⟨out,put,rfl,hol,h1,h2⟩:=hJ;refine⟨(0,[.sl (ao out),.bool put]),?_,?_⟩
  ·exact aa (z:=ao L) rfl (aa af (aa ae (az (by show ¬ ((L.length:Int)<((ao L).length:Int));rw[aA];omega) rfl)))
  ·cases put
   ·have:=h1 rfl;rw[zzc] at this;rw[this];refine aa (z:=(0,[.sl (ao (out++[f]))])) ?_ rfl;refine aa (z:=.bool true) rfl (aa (z:=true) rfl ?_);rw[if_pos rfl,if_pos (by simp only[g0,D.els,aA,zDa,zib];omega)]
    simp only[g0,D.els,app]
   ·have:=h2 rfl;rw[zzc,z4b] at this;rw[this];rfl
end Sy
end
noncomputable section
namespace Sy
open Go Go.Proofs Geo
def gU(l:List V)(m:V)(a b x:Nat):Bool:=
 decide (0<=T m (wy (pt l) a b) (wy (pt l) a x))&&(!decide (T m (wy (pt l) a b) (wy (pt l) a x)=0)||(decide (0<=V.dot (wy (pt l) a x) (wy (pt l) a b))&&decide (V.dot (wy (pt l) a x) (wy (pt l) a b)<=V.dot (wy (pt l) a b) (wy (pt l) a b))))
def Bt{l:List V}{m:V}{a b x:Nat}:gU l m a b x=true↔(0<=T m (wy (pt l) a b) (wy (pt l) a x)/\(T m (wy (pt l) a b) (wy (pt l) a x)=0->0<=V.dot (wy (pt l) a x) (wy (pt l) a b)/\V.dot (wy (pt l) a x) (wy (pt l) a b)<=V.dot (wy (pt l) a b) (wy (pt l) a b))):=by
 simp only[gU,zaa,zFb,zMa,decide_eq_true_eq,decide_eq_false_iff_not];by_cases h:T m (wy (pt l) a b) (wy (pt l) a x)=0<;>simp[h]
def wd(l:List V)(m:V)(d:Int)(a b:Nat):Bool:=(bo (pt l) l.length m d).all λx=>gU l m a b x
def we{l:List V}{m:V}{d:Int}{a b:Nat}(hb:b∈bo (pt l) l.length m d)(hne:b≠a):wd l m d a b=true↔Side m (pt l) (bo (pt l) l.length m d) a b:=by
 simp only[wd,zra,Bt];exact⟨λh=>⟨hb,hne,h⟩,λh=>h.all⟩
def Up(n:Nat){l:List V}(hl:∀ x∈l,bd MV x)(hlen:l.length<=100){m:V}{d:Int}(hm0:m≠V.zero)(hm:bd 549755813888 m){a b:Nat}(ha:a<l.length)(hb:b<l.length)(hda:V.dot m (pt l a)=d)(hdb:V.dot m (pt l b)=d) :
  cA (n+3) 156 [aS l,ag m,I d,ag (pt l a),ag (pt l b)]=some (.bool (wd l m d a b)):=by
 rw[V8]
 delta H1 qB qC qT qX qL qZ iL iR Jn
 have w1:bd 524288 (wy (pt l) a b):=jf (hl _ (ca ha)) (hl _ (ca hb));refine aa (z:=ag (wy (pt l) a b)) (wI (n+1) (hl _ (ca hb)) (hl _ (ca ha)) (by decide)) ?_
 have ll:(l.map ag).length=l.length:=zoa ..;have hmb:V.dot m (wy (pt l) a b)=0:=by rw[c7,hda,hdb];omega
 refine ba (λi s=>s=[I (i:Int)]/\(bo (pt l) i m d).all (λx=>gU l m a b x)=true) l.length 0 (zga _) ⟨rfl,by simp[bo]⟩ (λi hi s hJ=>?_) (λs hJ=>?_)
 ·obtain⟨rfl,hz⟩:=hJ;have hc:=At (n+1) hm (hl _ (ca hi)) (by decide)
  by_cases hon:V.dot m (pt l i)=d
  ·have w2:bd 524288 (wy (pt l) a i):=jf (hl _ (ca ha)) (hl _ (ca hi));have hmi:V.dot m (wy (pt l) a i)=0:=by rw[c7,hda,hon];omega
   have c1:=wI (n+1) (hl _ (ca hi)) (hl _ (ca ha)) (by decide)
   have c2:=LW (n+1) w1 w2 (by decide)
   have c3:=Uw n m (V.cross (wy (pt l) a b) (wy (pt l) a i));rw[Cu hm0 (ia hmb hmi)] at c3;have c4:=At (n+1) w2 w1 (by decide)
   have c5:=At (n+1) w1 w1 (by decide)
   have step:∀ (y:Nat×List D),y=(if gU l m a b i then(0,[]) else(1,[D.bool false]))->(Option.bind (D.asSl (aS l)) λl6=>Option.bind (D.idx (I (i:Int)) (List.length l6)) λi7=>
     Option.bind (l6[i7]?) λx8=>Option.bind (cA (n+2) 107 [ag m,x8]) λr9=>Option.bind (D.truth (D.bool (!(D.beq r9 (I d))))) λb10=>
     if b10 then(some ((0:Nat),([]:List D))) else(Option.bind (D.asSl (aS l)) λl11=>Option.bind (D.idx (I (i:Int)) (List.length l11)) λtg=>
     Option.bind (l11[tg]?) λx13=>Option.bind (cA (n+2) 112 [x13,ag (pt l a)]) λr14=>Option.bind (cA (n+2) 123 [ag (wy (pt l) a b),r14]) λr15=>Option.bind (cA (n+2) 188 [ag m,r15]) λr16=>
     Option.bind (D.bin .lss r16 (D.int .i64 0)) λx17=>Option.bind (D.truth x17) λb18=>
     Option.bind (if b18 then(some true) else(Option.bind (D.truth (D.bool (D.beq r16 (D.int .i64 0)))) λb19=>
     if b19 then(Option.bind (cA (n+2) 107 [r14,ag (wy (pt l) a b)]) λr20=>Option.bind (D.bin .lss r20 (D.int .i64 0)) λx21=>Option.bind (D.truth x21) λb22=>
     if b22 then(some true) else(Option.bind (cA (n+2) 107 [r14,ag (wy (pt l) a b)]) λr23=>Option.bind (cA (n+2) 107 [ag (wy (pt l) a b),ag (wy (pt l) a b)]) λr24=>
     Option.bind (D.bin .gtr r23 r24) λx25=>D.truth x25)) else(some false))) λb26=>Option.bind (D.truth (D.bool b26)) λb27=>
     if b27 then(some (1,[(D.bool false)])) else(some (0,[]))))=some y:=by
    intro y hy;refine aa (z:=l.map ag) rfl (aa (z:=i) (by rw[ll];exact ak hi) (aa (cB hi) (aa hc (aa (z:=false) ?_ ?_))))
    ·rw[bF,show V.dot m (l.getD i V.zero)=d from hon];simp[D.truth]
    rw[if_neg (by decide)]
    refine aa (z:=l.map ag) rfl (aa (z:=i) (by rw[ll];exact ak hi) (aa (cB hi) (aa (z:=ag (wy (pt l) a i)) c1 (aa c2 (aa c3 (aa af (aa ae ?_)))))))
    rw[hy];have e:V.dot m (V.cross (wy (pt l) a b) (wy (pt l) a i))=T m (wy (pt l) a b) (wy (pt l) a i):=rfl;rw[e];refine aa (z:=!gU l m a b i) ?_ ?_
    ·by_cases t1:T m (wy (pt l) a b) (wy (pt l) a i)<0
     ·rw[Mt (CV.2 t1)];have:¬ (0<=T m (wy (pt l) a b) (wy (pt l) a i)):=by omega
      simp[gU,this]
     ·rw[Mu (λh=>t1 (CV.1 h))];have t1':0<=T m (wy (pt l) a b) (wy (pt l) a i):=by omega
      by_cases t2:T m (wy (pt l) a b) (wy (pt l) a i)=0
      ·refine aa (z:=true) (by rw[bF,decide_eq_true (xJ.2 t2)];rfl) ?_
       rw[if_pos rfl];refine aa c4 (aa af (aa ae ?_));by_cases t3:V.dot (wy (pt l) a i) (wy (pt l) a b)<0
       ·rw[Mt t3];have:¬ (0<=V.dot (wy (pt l) a i) (wy (pt l) a b)):=by omega
        simp[gU,t2,this]
       ·rw[Mu t3];refine aa c4 (aa c5 (aa bP ?_));rw[ae];have t3':0<=V.dot (wy (pt l) a i) (wy (pt l) a b):=by omega
        simp only[gU,t2,t3',decide_true,zIb,zac,zxd,zwd];by_cases t4:V.dot (wy (pt l) a i) (wy (pt l) a b)<=V.dot (wy (pt l) a b) (wy (pt l) a b)
        ·have:¬ (V.dot (wy (pt l) a i) (wy (pt l) a b)>V.dot (wy (pt l) a b) (wy (pt l) a b)):=by omega
         simp[t4,this]
        ·have:(V.dot (wy (pt l) a i) (wy (pt l) a b)>V.dot (wy (pt l) a b) (wy (pt l) a b)):=by omega
         simp[t4,this]
      ·refine aa (z:=false) (by rw[bF,decide_eq_false (λh=>t2 (xJ.1 h))];rfl) ?_
       simp[gU,t2,t1']
    ·refine aa ae ?_;cases gU l m a b i<;>rfl
   cases hk:gU l m a b i
   ·right;rw[hk] at step;refine⟨(0,[.bool false]),?_,?_⟩
    ·exact aa (z:=l.map ag) rfl (aa af (aa ae (aC (by show((i:Int)<((l.map ag).length:Int));rw[ll];omega) (aa (step _ rfl) rfl))))
    ·have:wd l m d a b=false:=by
      rw[zJb];intro h;have:=zra.1 h i (aV.2 ⟨hi,hon⟩);rw[hk] at this;exact absurd this (by decide)
     rw[this];rfl
   ·left;rw[hk] at step;refine⟨[I ((i+1:Nat):Int)],?_,rfl,?_⟩
    ·exact aa (z:=l.map ag) rfl (aa af (aa ae (aC (by show((i:Int)<((l.map ag).length:Int));rw[ll];omega) (aa (step _ rfl) (by rw[if_pos rfl,if_pos rfl];exact aa (av (aw (i:=i) (by omega))) rfl)))))
    ·rw[jX,if_pos hon,zgd,hz];simp[hk]
  ·left;refine⟨[I ((i+1:Nat):Int)],?_,rfl,?_⟩
   ·refine aa (z:=l.map ag) rfl (aa af (aa ae (aC (by show((i:Int)<((l.map ag).length:Int));rw[ll];omega) (aa (z:=(0,[])) ?_ (by rw[if_pos rfl];exact aa (av (aw (i:=i) (by omega))) rfl)))))
    refine aa (z:=l.map ag) rfl (aa (z:=i) (by rw[ll];exact ak hi) (aa (cB hi) (aa hc (aa (z:=true) ?_ rfl))))
    rw[bF,decide_eq_false (show ¬ V.dot m (l.getD i V.zero)=d from hon)];rfl
   ·rw[jX,if_neg hon];exact hz
 ·obtain⟨rfl,hz⟩:=hJ;refine⟨(1,[]),?_,?_⟩
  ·exact aa (z:=l.map ag) rfl (aa af (aa ae (az (by show ¬ ((l.length:Int)<((l.map ag).length:Int));rw[ll];omega) rfl)))
  ·have:wd l m d a b=true:=hz;rw[this];rfl
end Sy
end
noncomputable section
namespace Sy
open Go Go.Proofs Geo
def CA{body:Bd}{s0:List D}{r:Nat×List D}(h:Option.bind (aN body s0) some=some r):aN body s0=some r:=by
 cases hb:aN body s0 with
 | none=>rw[hb] at h;cases h
 | some z=>rw[hb] at h;exact h
def Gd{P:Nat->V}{m:V}{d:Int}{i N a:Nat}(h:(bo P i m d).head?=some a)(hi:i<=N):(bo P N m d).head?=some a:=by
 induction N with
 | zero=>
      have:i=0:=by omega
      subst this;exact h
 | succ N ih=>
  by_cases e:i=N+1
  ·rw[<-e];exact h
  ·have:=ih (by omega)
   rw[jX];split
   ·rw[List.head?_append,this];rfl
   ·exact this
theorem qA{body:Bd}{S:Nat->Nat->Prop}{a M:Nat}{G:Nat->Prop}(hS:∀ c b,G c->S c b->G b)
  (hstep:∀ (c b:Nat) (out:List Nat),G c->S c b->b≠a->out.length<=M->body [.sl (ah out),I (c:Int)]=some (.inl [.sl (ah (out++[c])),I (b:Int)]))
  (hend:∀ (c:Nat) (out:List Nat),G c->S c a->out.length<=M->body [.sl (ah out),I (c:Int)]=some (.inr (0,[.sl (ah (out++[c]))]))) :
  ∀ {c:Nat} {p:List Nat},Chain S a c p->G c->∀ out:List Nat,(out++p).length<=M->aN body [.sl (ah out),I (c:Int)]=some (0,[.sl (ah (out++p))])
 | c,_,.done s,hc,out,hl=>cL (hend c out hc s (by simp at hl;omega))
 | c,_,.step (y:=y) (l:=p) s hy k,hc,out,hl=>by
  have h1:=hstep c y out hc s hy (by simp at hl;omega)
  rw[show aN body [.sl (ah out),I (c:Int)]=aN body [.sl (ah (out++[c])),I (y:Int)] from cS h1];have:=qA hS hstep hend k (hS c y hc s) (out++[c]) (by simpa using hl)
  rw[this];simp
def OG(n:Nat){l:List V}(hl:∀ x∈l,bd MV x)(hlen:l.length<=100)(hs:EV l){m:V}{d:Int}(hF:IsF (pt l) l.length m d)(hm:bd 549755813888 m){p:List Nat}(hp:bE (pt l) l.length m d p) :
  cA (n+4) 111 [aS l,ag m,I d]=some (.sl (ah p)):=by
 have F:=hF.flat hs;obtain⟨p',hp',hnd,hmem⟩:=hF.poly hs;have e:=bE.eq hs hF hp hp';subst e;obtain⟨a,ha1,hch⟩:=hp;have ha:a∈bo (pt l) l.length m d:=List.mem_of_mem_head? (by rw[ha1];rfl)
 have hlt:∀ k∈bo (pt l) l.length m d,k<l.length:=λk hk=>(aV.1 hk).1;have hdk:∀ k∈bo (pt l) l.length m d,V.dot m (pt l k)=d:=λk hk=>(aV.1 hk).2;have honl:(bo (pt l) l.length m d).length<=l.length:=by
  unfold bo;exact zCa (zlc _ _) (by rw[zUb];omega)
 have hpl:p.length<=l.length:=zCa (z5b hnd λz hz=>((hmem z).1 hz).1) honl;have ll:(l.map ag).length=l.length:=zoa ..;rw[Vy]
 delta Hs qB qC qT qS qX qL qV qW qZ iL iR Jn
 have hdot:=λ(i:Nat) (hi:i<l.length)=>At (n+2) hm (hl _ (ca hi)) (by decide)
 refine aa (z:=(0,[.sl [],I (a:Int)])) ?_ ?_
 ·refine CA (bT (λi s=>s=[.sl [],jx ((bo (pt l) i m d).head?),I (i:Int)]) l.length 0 (zga _) rfl (λi hi s hJ=>?_) (λs hJ=>?_))
  ·subst hJ;cases hh:(bo (pt l) i m d).head? with
   | some a'=>
    right;have:=Gd hh (zsc hi);rw[ha1] at this;cases this;refine⟨(0,[.sl [],I (a:Int)]),?_,rfl⟩;refine aa (z:=l.map ag) rfl (aa af (aa ae (aa (z:=false) (aC (by show((i:Int)<((l.map ag).length:Int));rw[ll];omega) ?_) (aa ae ?_))))
    ·refine aa af ?_;rw[decide_eq_false (by omega)];rfl
    ·rfl
   | none=>
    left;have hnil:bo (pt l) i m d=[]:=by simpa using hh
    refine⟨[.sl [],jx ((bo (pt l) (i+1) m d).head?),I ((i+1:Nat):Int)],?_,rfl⟩;refine aa (z:=l.map ag) rfl (aa af (aa ae (aa (z:=true) (aC (by show((i:Int)<((l.map ag).length:Int));rw[ll];omega) (aa (af (a:=-1) (b:=0)) rfl)) (aa ae ?_))))
    rw[if_pos rfl];refine aa (z:=(0,[.sl [],jx ((bo (pt l) (i+1) m d).head?)])) ?_ (aa (av (aw (i:=i) (by omega))) rfl)
    refine aa (z:=l.map ag) rfl (aa (z:=i) (by rw[ll];exact ak hi) (aa (cB hi) (aa (hdot i hi) ?_)))
    rw[bF,jX,hnil];by_cases hon:V.dot m (pt l i)=d
    ·rw[if_pos hon,decide_eq_true (show V.dot m (l.getD i V.zero)=d from hon)];rfl
    ·rw[if_neg hon,decide_eq_false (show ¬ V.dot m (l.getD i V.zero)=d from hon)];rfl
  ·subst hJ;rw[ha1];refine⟨(0,[.sl [],I (a:Int)]),?_,rfl⟩;refine aa (z:=l.map ag) rfl (aa af (aa ae (aa (z:=false) (az (by show ¬ ((l.length:Int)<((l.map ag).length:Int));rw[ll];omega) rfl) (aa ae rfl))))
 ·refine aa (z:=(0,[.sl (ah ([]++p))])) ?_ rfl;refine qA (M:=l.length) (G:=λc=>c∈bo (pt l) l.length m d) (λc b hc hb=>hb.mem) (λc b out hc hb hba hol=>?_) (λc out hc hb hol=>?_) hch ha [] (by simpa using hpl)
  all_goals
   obtain⟨b',hbb,hb'⟩:∃ b',(b'=a\/b'≠a)/\Side m (pt l) (bo (pt l) l.length m d) c b':=by first|exact⟨_,Classical.em _,hb⟩
   refine aa (z:=l.map ag) rfl (aa sn (aa ae (aC (by show(((ah out).length:Int)<=((l.map ag).length:Int));rw[ll,am];omega) ?_)))
   rw[if_pos (by simp only[g0,D.els,am,zDa,zib];omega)]
   have happ:ah out++[I (c:Int)]=ah (out++[c]):=by simp[ah]
   have hbl:=hlt b' hb'.mem;refine aa (z:=(0,[.sl (ah (out++[c])),I (b':Int)])) ?_ ?_
   ·refine CA (bT (λi s=>s=[.sl (ah (out++[c])),jx (if b'<i then some b' else none),I (i:Int)]) l.length 0 (zga _) (by simp[g0,g1,D.els,happ,jx]) (λi hi s hJ=>?_) (λs hJ=>?_))
    ·subst hJ;by_cases hbi:b'<i
     ·right;rw[if_pos hbi];refine⟨(0,[.sl (ah (out++[c])),I (b':Int)]),?_,rfl⟩;refine aa (z:=l.map ag) rfl (aa af (aa ae (aa (z:=false) (aC (by show((i:Int)<((l.map ag).length:Int));rw[ll];omega) ?_) (aa ae ?_))))
      ·refine aa af ?_;rw[decide_eq_false (by omega)];rfl
      ·rfl
     ·left;rw[if_neg hbi];refine⟨[.sl (ah (out++[c])),jx (if b'<i+1 then some b' else none),I ((i+1:Nat):Int)],?_,rfl⟩
      refine aa (z:=l.map ag) rfl (aa af (aa ae (aa (z:=true) (aC (by show((i:Int)<((l.map ag).length:Int));rw[ll];omega) (aa (af (a:=-1) (b:=0)) rfl)) (aa ae ?_))))
      rw[if_pos rfl];refine aa (z:=(0,[.sl (ah (out++[c])),jx (if b'<i+1 then some b' else none)])) ?_ (aa (av (aw (i:=i) (by omega))) rfl)
      have hcl:=hlt c hc;by_cases hon:i≠c/\V.dot m (pt l i)=d
      ·have hion:i∈bo (pt l) l.length m d:=aV.2 ⟨hi,hon.2⟩;refine aa (z:=true) (by show D.truth (D.bool (!(D.beq (I (i:Int)) (I (c:Int)))))=_;rw[bN,decide_eq_false hon.1];rfl) (aa (z:=true) ?_ (aa ae ?_))
       ·rw[if_pos rfl];refine aa (z:=l.map ag) rfl (aa (z:=i) (by rw[ll];exact ak hi) (aa (cB hi) (aa (hdot i hi) ?_)))
        rw[bF,decide_eq_true (show V.dot m (l.getD i V.zero)=d from hon.2)];rfl
       ·rw[if_pos rfl];refine aa (z:=l.map ag) rfl (aa (z:=c) (by rw[ll];exact ak hcl) (aa (cB hcl) (aa (z:=l.map ag) rfl (aa (z:=i) (by rw[ll];exact ak hi) (aa (cB hi) (aa (Up n hl hlen hF.nz.1 hm hcl hi (hdk c hc) hon.2) (aa ae ?_)))))))
        by_cases hib:i=b'
        ·subst hib;rw[(we hion hon.1).2 hb',if_pos rfl,if_pos (by omega)];rfl
        ·have:wd l m d c i=false:=by
          rw[zJb];intro h;exact hib (Side.unique F hc ((we hion hon.1).1 h) hb')
         rw[this,if_neg (show ¬ b'<i+1 by omega)];rfl
      ·have hib:i≠b':=λe=>hon (by subst e;exact⟨hb'.ne,hdk _ hb'.mem⟩)
       rw[if_neg (show ¬ b'<i+1 by omega)]
       by_cases hic:i=c
       ·subst hic;refine aa (z:=false) (by show D.truth (D.bool (!(D.beq (I (i:Int)) (I (i:Int)))))=_;rw[bN,decide_eq_true rfl];rfl) (aa (z:=false) rfl (aa ae rfl))
       ·have hnd:¬ V.dot m (l.getD i V.zero)=d:=λh=>hon ⟨hic,h⟩;refine aa (z:=true) (by show D.truth (D.bool (!(D.beq (I (i:Int)) (I (c:Int)))))=_;rw[bN,decide_eq_false hic];rfl) (aa (z:=false) ?_ (aa ae rfl))
        rw[if_pos rfl];refine aa (z:=l.map ag) rfl (aa (z:=i) (by rw[ll];exact ak hi) (aa (cB hi) (aa (hdot i hi) ?_)))
        rw[bF,decide_eq_false hnd];rfl
    ·subst hJ;rw[if_pos hbl];refine⟨(0,[.sl (ah (out++[c])),I (b':Int)]),?_,rfl⟩;exact aa (z:=l.map ag) rfl (aa af (aa ae (aa (z:=false) (az (by show ¬ ((l.length:Int)<((l.map ag).length:Int));rw[ll];omega) rfl) (aa ae rfl))))
   ·have hu:=Side.unique F hc hb hb';subst hu;first
     | exact aa (z:=true) (by show D.truth (D.bool (D.beq (I (_:Int)) (I (_:Int))))=_;rw[bN,decide_eq_true rfl];rfl) (aa (z:=true) rfl (aa ae rfl))
     | exact aa (z:=false) (by show D.truth (D.bool (D.beq (I (_:Int)) (I (_:Int))))=_;rw[bN,decide_eq_false hba];rfl) (aa (z:=false) (by rw[if_neg (by decide)];refine aa af ?_;rw[decide_eq_false (by omega)];rfl) (aa ae rfl))
end Sy
end
noncomputable section
namespace Sy
open Go Go.Proofs Geo
def a8:List Nat->Nat
 | []=>0
 | d::l=>d+65536*a8 l
def dl(l:List Nat):Prop:=∀ d∈l,d<65536
def dl.cons{d:Nat}{l:List Nat}(hd:d<65536)(h:dl l):dl (d::l):=λx hx=>by
 rcases zEa.1 hx with rfl|hx
 ·exact hd
 ·exact h x hx
def dl.append{a b:List Nat}(ha:dl a)(hb:dl b):dl (a++b):=λx hx=>by
 rcases zwa.1 hx with hx|hx
 ·exact ha x hx
 ·exact hb x hx
theorem dl.getD{l:List Nat}(h:dl l)(i:Nat):l.getD i 0<65536:=by
 simp only[List.getD];cases hi:l[i]? with
 | none=>simp
 | some x=>exact h x (z8a hi)
def aG(m:Nat):List Nat:=if h:m=0 then[] else m%65536::aG (m/65536)
termination_by m
decreasing_by omega
def ck:aG 0=[]:=by unfold aG;simp
def ir{m:Nat}(h:m≠0):aG m=m%65536::aG (m/65536):=by rw[aG,dif_neg h]
def u7{d v:Nat}(hd:d<65536)(h:d+65536*v≠0):aG (d+65536*v)=d::aG v:=by
 rw[ir h,show(d+65536*v)%65536=d by omega,show(d+65536*v)/65536=v by omega]
def ar(m:Nat):a8 (aG m)=m:=by
 induction m using Nat.strongRecOn with
 | _ m ih=>
  by_cases h:m=0
  ·subst h;rw[ck];rfl
  ·rw[ir h,a8,ih _ (by omega)];omega
def a7(m:Nat):dl (aG m):=by
 induction m using Nat.strongRecOn with
 | _ m ih=>
  by_cases h:m=0
  ·subst h;rw[ck];intro d hd;cases hd
  ·rw[ir h];exact dl.cons (by omega) (ih _ (by omega))
def sP{m:Nat}:aG m=[]↔m=0:=by
 constructor
 ·intro h;have:=ar m;rw[h] at this;exact this.symm
 ·rintro rfl;exact ck
def pE(i:Nat):∀ m,(aG m).getD i 0=m/65536^i%65536:=by
 induction i with
 | zero=>
  intro m;by_cases h:m=0
  ·subst h;rw[ck];simp
  ·rw[ir h];simp
 | succ i ih=>
  intro m;by_cases h:m=0
  ·subst h;rw[ck];simp
  ·rw[ir h];show(aG (m/65536)).getD i 0=_;rw[ih,zYa,znb,zGa 65536]
def bC(k:Nat):∀ m,m<65536^k->(aG m).length<=k:=by
 induction k with
 | zero=>
      intro m h;have:m=0:=by simpa using h
      subst this;rw[ck];simp
 | succ k ih=>
  intro m h;by_cases h0:m=0
  ·subst h0;rw[ck];simp
  ·rw[ir h0,zDa];have:=ih (m/65536) (by rw[znb] at h;exact zPc (by rw[zGa];exact h))
   omega
def lz(a b:List Nat):a8 (a++b)=a8 a+65536^a.length*a8 b:=by
 induction a with
 | nil=>simp[a8]
 | cons d a ih=>
  simp only[zdb,a8,ih,zDa,znb];rw[zSb,<-z2a,zGa 65536 (65536^a.length)];omega
def ns(l:List Nat)(n:Nat):a8 (l++List.replicate n 0)=a8 l:=by
 rw[lz];have:∀ n,a8 (List.replicate n 0)=0:=λn=>by
  induction n with
  | zero=>rfl
  | succ n ih=>rw[List.replicate_succ,a8,ih]
 rw[this];simp
def vt(l:List Nat):Nat->Nat
 | 0=>0
 | k+1=>vt l k+l.getD k 0*65536^k
def KM(d:Nat)(l:List Nat)(k:Nat):vt (d::l) (k+1)=d+65536*vt l k:=by
 induction k with
 | zero=>simp[vt]
 | succ k ih=>
  rw[vt,ih,vt,zSb];have:(d::l).getD (k+1) 0=l.getD k 0:=rfl;rw[this,znb,<-z2a,<-z2a,zGa 65536 (l.getD k 0),z2a,zGa (65536^k),<-z2a];omega
def lZ(l:List Nat):vt l l.length=a8 l:=by
 induction l with
 | nil=>rfl
 | cons d l ih=>rw[zDa,KM,ih];rfl
def g6{l:List Nat}{k:Nat}(h:l.length<=k):vt l k=a8 l:=by
 obtain⟨j,rfl⟩:∃ j,k=l.length+j:=⟨k-l.length,by omega⟩
 clear h
 induction j with
 | zero=>exact lZ l
 | succ j ih=>
  rw[<-zBb,vt,ih];have:l.getD (l.length+j) 0=0:=by simp[List.getD]
  rw[this];simp
def uj{l:List Nat}(h:dl l)(k:Nat):vt l k<65536^k:=by
 induction k with
 | zero=>simp[vt]
 | succ k ih=>
  have h1:=h.getD k;have h2:l.getD k 0*65536^k<=65535*65536^k:=zya _ (by omega)
  rw[vt,znb,zGa (65536^k)];omega
def ko{l:List Nat}(h:dl l):a8 l<65536^l.length:=by rw[<-lZ];exact uj h _
def kf:List Nat->List Nat
 | []=>[]
 | d::l=>match kf l with
  | []=>if d=0 then[] else[d]
  | x::t=>d::x::t
def gQ{l:List Nat}(h:dl l):kf l=aG (a8 l):=by
 induction l with
 | nil=>rw[a8,ck];rfl
 | cons d l ih=>
  have hd:d<65536:=h d zma;have ih:=ih λx hx=>h x (zia _ hx);rw[kf,ih,a8];by_cases hv:a8 l=0
  ·rw[hv,ck];by_cases h0:d=0
   ·subst h0;simp[ck]
   ·rw[u7 hd (by omega),ck];simp[h0]
  ·rw[u7 hd (by omega),ir hv]
def BE{l:List Nat}(h:∀ i,i<l.length->l.getD i 0=0):kf l=[]:=by
 induction l with
 | nil=>rfl
 | cons d l ih=>
  have h0:d=0:=h 0 (by simp)
  rw[kf,ih (λi hi=>h (i+1) (by simpa using hi)),h0];simp
theorem wu:∀ {l:List Nat} {n:Nat},n<=l.length->(∀ i,n<=i->i<l.length->l.getD i 0=0)->(n=0\/l.getD (n-1) 0≠0)->l.take n=kf l
 | [],n,_,_,_=>by simp[kf]
 | d::l,0,_,hz,_=>by rw[BE (λi hi=>hz i (by omega) hi)];rfl
 | d::l,n+1,hn,hz,hl=>by
  have hl':(d::l).getD n 0≠0:=by
   rcases hl with h|h
   ·omega
   ·exact h
  have ih:l.take n=kf l:=wu (l:=l) (n:=n) (by simpa using hn) (λi h1 h2=>hz (i+1) (by omega) (by simpa using h2)) (by
   cases n with
   | zero=>exact .inl rfl
   | succ k=>exact .inr hl')
  rw[zXb,ih,kf];cases ht:kf l with
  | nil=>
   rw[ht] at ih;have:n=0:=by
    cases n with
    | zero=>rfl
    | succ k=>cases l with
     | nil=>simp at hn
     | cons e l=>simp at ih
   subst this;have:d≠0:=hl';simp[this]
  | cons x t=>rfl
end Sy
end
noncomputable section
namespace Sy
open Go Go.Proofs Geo
def cP{l:List Nat}{i:Nat}(h:i<l.length):(ah l)[i]?=some (I (l.getD i 0:Nat)):=iu h
def vc(a:List Nat)(d:Nat):ah a++[I (d:Int)]=ah (a++[d]):=by simp[ah]
def yq(n:Nat){l:List Nat}(hl:l.length<=1000000):cA (n+1) 140 [.sl (ah l)]=some (.sl (ah (kf l))):=by
 rw[VX]
 delta HP qB qC qT qS qX qZ iL iR Jn
 refine aa (z:=ah l) rfl ?_;have fin:∀ j:Nat,j<=l.length->(∀ i,j<=i->i<l.length->l.getD i 0=0)->(j=0\/l.getD (j-1) 0≠0)->(Option.bind (D.asSl (.sl (ah l))) λl13=>Option.bind (D.natOf (I (j:Int))) λi14=>Option.bind (D.cut l13 0 i14) λl15=>some (D.sl l15))=some (.sl (ah (kf l))):=by
  intro j hj hz hd;refine aa (z:=ah l) rfl (aa (z:=j) (by simp[D.natOf]) (aa (z:=ah (l.take j)) ?_ (by rw[wu hj hz hd])))
  simp only[D.cut];rw[if_pos ⟨zga _,by rw[am];exact hj⟩]
  simp[ah,List.map_take]
 refine ba (λi s=>s=[I ((l.length-i:Nat):Int)]/\∀ k,l.length-i<=k->k<l.length->l.getD k 0=0) l.length 0 (zga _) ⟨by rw[am];rfl,λk h1 h2=>by omega⟩ (λi hi s hJ=>?_) (λs hJ=>?_)
 ·obtain⟨rfl,hz⟩:=hJ;have hb:inR (((l.length-i:Nat):Int)-1):=by simp only[inR];omega
  have e1:((l.length-i:Nat):Int)-1=((l.length-i-1:Nat):Int):=by omega
  have hx:(ah l)[l.length-i-1]?=some (I (l.getD (l.length-i-1) 0:Nat)):=cP (by omega)
  by_cases h0:l.getD (l.length-i-1) 0=0
  ·left;refine⟨[I ((l.length-(i+1):Nat):Int)],?_,rfl,λk h1 h2=>?_⟩
   ·refine aa bP (aa ae (aa (z:=true) (aC (by show((l.length-i:Nat):Int)>0;omega) ?_) (aa ae ?_)))
    ·refine aa (cV hb) (aa (z:=ah l) rfl (aa (z:=l.length-i-1) (by rw[e1,am];exact ak (by omega)) (aa hx ?_)))
     rw[h0];rfl
    ·rw[if_pos rfl];refine aa (cV hb) ?_;rw[e1,Nat.sub_sub]
   ·by_cases e:k=l.length-i-1
    ·rw[e];exact h0
    ·exact hz k (by omega) h2
  ·right;refine⟨(0,[I ((l.length-i:Nat):Int)]),?_,fin _ (by omega) hz (.inr h0)⟩
   refine aa bP (aa ae (aa (z:=false) (aC (by show((l.length-i:Nat):Int)>0;omega) ?_) (aa ae rfl)))
   refine aa (cV hb) (aa (z:=ah l) rfl (aa (z:=l.length-i-1) (by rw[e1,am];exact ak (by omega)) (aa hx ?_)))
   rw[bF,decide_eq_false (by omega)];rfl
 ·obtain⟨rfl,hz⟩:=hJ;refine⟨(0,[I ((l.length-l.length:Nat):Int)]),?_,fin _ (by omega) hz (.inl (by omega))⟩
  refine aa bP (aa ae (aa (z:=false) (az (by show ¬ ((l.length-l.length:Nat):Int)>0;omega) rfl) (aa ae rfl)))
def Dj(n:Nat)(l:List Nat)(k:Nat):cA (n+1) 141 [.sl (ah l),I (k:Int)]=some (I (l.getD k 0:Nat)):=by
 rw[VY]
 delta HR qX qL Jn
 refine aa (z:=ah l) rfl (aa af (aa ae ?_));by_cases h:k<l.length
 ·refine aC (by show(k:Int)<((ah l).length:Int);rw[am];omega) ?_
  exact aa (z:=ah l) rfl (aa (z:=k) (by rw[am];exact ak h) (aa (cP h) rfl))
 ·refine az (by show ¬ (k:Int)<((ah l).length:Int);rw[am];omega) ?_
  have:l.getD k 0=0:=by simp[List.getD,h]
  rw[this];rfl
def eI(l:List Nat)(i:Nat):Nat:=l.getD (2*i) 0+65536*l.getD (2*i+1) 0
abbrev U(n:Nat):D:=.int .u32 (n:Int)
def dL(l:List Nat):D:=.st ((List.range 16).map λi=>U (eI l i))
def aj(x:Int):D:=.st [.bool false,.bool (decide (x<0)),dL (aG x.natAbs)]
def xf{l:List Nat}(h:dl l)(i:Nat):eI l i<4294967296:=by
 have:=h.getD (2*i);have:=h.getD (2*i+1);unfold eI;omega
def tC{l:List Nat}{i:Nat}(h:i<16):D.fld (dL l) i=some (U (eI l i)):=by simp[dL,D.fld,h]
def cK{x:Int}{i:Nat}(h:i<16):D.get (aj x) [2,i]=some (U (eI (aG x.natAbs) i)):=
 aa (z:=dL (aG x.natAbs)) rfl (aa (tC h) rfl)
def pd{n:Int}(h:0<=n/\n<4294967296):IntKind.wrap .u32 n=n:=by
 obtain⟨h1,h2⟩:=h;simp only[IntKind.wrap,IntKind.signed,IntKind.bits];first
  | omega
  | (simp;omega)
def LT(a:Nat):D.bin .rem (U a) (.int .u32 65536)=some (U (a%65536)):=by
 simp only[D.bin,if_true,show ¬ (65536:Int)=0 by decide,if_false]
 rw[show(65536:Int)=((65536:Nat):Int) from rfl,<-zld]
def LR{a:Nat}(h:a<4294967296):D.bin .quo (U a) (.int .u32 65536)=some (U (a/65536)):=by
 simp only[D.bin,if_true,show ¬ (65536:Int)=0 by decide,if_false]
 rw[show(65536:Int)=((65536:Nat):Int) from rfl,<-zId,pd (by omega)]
def E5{a b:Nat}(h:a+b<4294967296):D.bin .add (U a) (U b)=some (U (a+b)):=by
 simp only[D.bin,if_true];rw[pd (by omega)];simp
def LQ{a b:Nat}(h:a*b<4294967296):D.bin .mul (U a) (U b)=some (U (a*b)):=by
 simp only[D.bin,if_true];rw[show(a:Int)*(b:Int)=((a*b:Nat):Int) by simp,pd (by omega)]
def rM{a:Nat}(h:a<4294967296):D.conv .i64 (U a)=some (I (a:Int)):=by
 simp only[D.conv];rw[g7 (by simp only[inR];omega)]
def B7{a:Nat}(h:a<4294967296):D.conv .u32 (I (a:Int))=some (U a):=by
 simp only[D.conv];rw[pd (by omega)]
def Bi(l:List Nat)(k:Nat):((List.range k).map λi=>l.getD i 0)=if k<=l.length then l.take k else l++List.replicate (k-l.length) 0:=by
 apply zcc;intro i;by_cases h:i<k
 ·rw[zcb,zfd h];split
  ·simp[h,List.getD,show i<l.length by omega]
  ·by_cases h2:i<l.length
   ·simp[zQc,h2,List.getD]
   ·simp[zQc,h2,List.getD,List.getElem?_replicate,show i-l.length<k-l.length by omega]
 ·rw[zcb,show(List.range k)[i]?=none by simp;omega]
  split
  ·simp;omega
  ·simp;omega
def GW{l:List Nat}(hd:dl l){k:Nat}(hk:l.length<=k):kf ((List.range k).map λi=>l.getD i 0)=aG (a8 l):=by
 have e:((List.range k).map λi=>l.getD i 0)=l++List.replicate (k-l.length) 0:=by
  rw[Bi];split
  ·have:k=l.length:=by omega
   subst this;simp
  ·rfl
 rw[e,gQ (hd.append (λx hx=>by rw[zrd hx];decide)),ns]
def Al(n:Nat){x:Int}(hx:x.natAbs<65536^32):cA (n+2) 77 [aj x]=some (.sl (ah (aG x.natAbs))):=by
 rw[u77]
 delta PA qG qB qC qV qW qZ iL iR Jn
 have hd:=a7 x.natAbs;have hlen:=bC 32 _ hx;refine ba (λi s=>s=[.sl (ah ((List.range (2*i)).map λi=>(aG x.natAbs).getD i 0)),I (i:Int)]) 16 0 (zga _) rfl (λi hi s hJ=>?_) (λs hJ=>?_)
 ·subst hJ;left;refine⟨_,?_,rfl⟩;refine aa af (aa ae (aC (by show(i:Int)<16;omega) ?_))
  have hlt:=xf hd i;have h1:=hd.getD (2*i);refine aa (z:=i) (ak hi) (aa (cK hi) (aa (LT _) (aa (rM (by omega)) (aa (z:=i) (ak hi) (aa (cK hi) (aa (LR hlt) (aa (rM (by omega)) ?_)))))))
  rw[if_pos (by simp only[g0,D.els,am,zoa,zUb,zDa,zib];omega)]
  refine aa (av (aw (i:=i) (by omega))) ?_
  have e1:eI (aG x.natAbs) i%65536=(aG x.natAbs).getD (2*i) 0:=by unfold eI;omega
  have e2:eI (aG x.natAbs) i/65536=(aG x.natAbs).getD (2*i+1) 0:=by unfold eI;omega
  rw[e1,e2,show 2*(i+1)=2*i+1+1 by omega,zxb,zxb]
  simp[g0,D.els,ah]
 ·subst hJ;refine⟨(0,[.sl (ah ((List.range (2*16)).map λi=>(aG x.natAbs).getD i 0))]),?_,?_⟩
  ·exact aa af (aa ae (az (by decide) rfl))
  ·refine aa (yq n (by simp)) ?_
   rw[GW hd hlen,ar]
end Sy
end
noncomputable section
namespace Sy
open Go Go.Proofs Geo
def kc(l:List Nat)(k j:Nat):(l.take k).getD j 0=if j<k then l.getD j 0 else 0:=by
 simp only[List.getD,List.getElem?_take];split<;>simp
def tD{l l':List Nat}{q v:Nat}{a b:D}(hq:q<16)(h:∀ i,eI l' i=if i=q then v else eI l i):D.set (.st [a,b,dL l]) [2,q] (U v)=some (.st [a,b,dL l']):=by
 have h1:D.set (dL l) [q] (U v)=some (dL l'):=by
  have e:((List.range 16).map λi=>U (eI l i))[q]?=some (U (eI l q)):=by simp[hq]
  refine aa e (aa (z:=U v) rfl ?_);simp only[dL,zda,D.st.injEq];apply zcc;intro i;rw[List.getElem?_set];by_cases hi:q=i
  ·subst hi;simp[hq,h]
  ·rw[if_neg hi,zcb,zcb];by_cases h16:i<16
   ·rw[zfd h16];simp[h,show i≠q from λe=>hi e.symm]
   ·rw[show(List.range 16)[i]?=none by simp;omega];rfl
 exact aa (z:=dL l) rfl (aa h1 rfl)
def LK(k:Nat):D.bin .rem (I (k:Int)) (.int .i64 2)=some (I (k%2:Nat)):=by
 rw[so (by decide),show(2:Int)=((2:Nat):Int) from rfl,<-zld]
def ju{a b:Nat}(hb:b≠0)(ha:(a:Int)<=9223372036854775807):D.bin .quo (I (a:Int)) (I (b:Int))=some (I (a/b:Nat)):=by
 have:((a/b:Nat):Int)<=9223372036854775807:=by have:=zZc a b;omega
 have h0:0<=((a/b:Nat):Int):=Int.natCast_nonneg _;rw[uV (by omega) (by rw[<-zId];simp only[inR];omega),<-zId]
def lm{a b:Nat}(hb:b≠0):D.bin .rem (I (a:Int)) (I (b:Int))=some (I (a%b:Nat)):=by
 rw[so (by omega),<-zld]
def yV{a b:D}{l:List Nat}{i:Nat}(h:i<16):D.get (.st [a,b,dL l]) [2,i]=some (U (eI l i)):=
 aa (z:=dL l) rfl (aa (tC h) rfl)
def sgn(neg:Bool)(m:Nat):Int:=if neg then -(m:Int) else m
def KY(n:Nat){l:List Nat}{neg:Bool}(hd:dl l)(hl:l.length<=1000000)(hv:a8 l<65536^32):cA (n+2) 81 [.bool neg,.sl (ah l)]=some (aj (sgn neg (a8 l))):=by
 rw[XO]
 delta Nt qG qB qC qT qS qX qL qZ iL iR Jn
 have hlen:=bC 32 _ hv;have hdd:=a7 (a8 l);have hen:aj (sgn neg (a8 l))=.st [.bool false,.bool (neg&&decide (0<(aG (a8 l)).length)),dL (aG (a8 l))]:=by
  have e1:(sgn neg (a8 l)).natAbs=a8 l:=by unfold sgn;split<;>omega
  have e2:(0<(aG (a8 l)).length)↔a8 l≠0:=by
   rw[List.length_pos_iff];exact not_congr sP
  unfold aj;rw[e1];have:decide (sgn neg (a8 l)<0)=(neg&&decide (0<(aG (a8 l)).length)):=by
   simp only[e2,sgn];cases neg
   ·simp<;>omega
   ·by_cases h:a8 l=0
    ·simp[h]
    ·simp[h]<;>omega
  rw[this]
 rw[hen];refine aa (yq n hl) ?_;rw[gQ hd];generalize aG (a8 l)=d at hlen hdd;refine aa (z:=ah d) rfl (aa bP (aa ae (az (by show ¬ ((ah d).length:Int)>32;rw[am];omega) ?_)))
 refine aa ae (aa (z:=neg&&decide (0<d.length)) ?_ ?_)
 ·cases neg
  ·rfl
  ·rw[if_pos rfl];refine aa (z:=ah d) rfl (aa bP ?_);rw[ae,am];simp
 refine ba (λk s=>s=[I (k:Int),.st [.bool false,.bool (neg&&decide (0<d.length)),dL (d.take k)]]) d.length 0 (zga _) rfl (λk hk s hJ=>?_) (λs hJ=>?_)
 ·subst hJ;left;refine⟨_,?_,rfl⟩;have hdk:=hdd.getD k;refine aa (z:=ah d) rfl (aa af (aa ae (aC (by show(k:Int)<((ah d).length:Int);rw[am];omega) ?_)))
  refine aa (z:=(0,[.st [.bool false,.bool (neg&&decide (0<d.length)),dL (d.take (k+1))]])) ?_ (aa (av (aw (i:=k) (by omega))) rfl)
  refine aa (LK k) ?_;have q1:k/2<16:=by omega
  have hq:D.bin .quo (I (k:Int)) (.int .i64 2)=some (I (k/2:Nat)):=ju (b:=2) (by decide) (by omega)
  have hlk:eI (d.take k) (k/2)=if k%2=0 then 0 else d.getD (2*(k/2)) 0:=by
   simp only[eI,kc];by_cases hk2:k%2=0
   ·rw[if_pos hk2,if_neg (show ¬ 2*(k/2)<k by omega),if_neg (show ¬ 2*(k/2)+1<k by omega)]
   ·rw[if_neg hk2,if_pos (show 2*(k/2)<k by omega),if_neg (show ¬ 2*(k/2)+1<k by omega)];omega
  have hd2:=hdd.getD (2*(k/2));by_cases hk2:k%2=0
  ·rw[if_pos hk2] at hlk;rw[hk2];refine aa (z:=true) rfl ?_;rw[if_pos rfl];refine aa hq (aa hq (aa (ak q1) (aa (yV q1) (aa (z:=ah d) rfl (aa (z:=k) (by rw[am];exact ak hk) (aa (cP hk) (aa (B7 (by omega)) (aa (E5 (by rw[hlk];omega)) (aa (ak q1) (aa (tD q1 (l':=d.take (k+1)) ?_) rfl))))))))))
   intro i;by_cases hi:i=k/2
   ·rw[if_pos hi,hlk,hi];simp only[eI,kc];rw[if_pos (show 2*(k/2)<k+1 by omega),if_neg (show ¬ 2*(k/2)+1<k+1 by omega),show 2*(k/2)=k by omega];omega
   ·rw[if_neg hi];simp only[eI,kc];have a1:(2*i<k+1)↔(2*i<k):=by omega
    have a2:(2*i+1<k+1)↔(2*i+1<k):=by omega
    simp only[a1,a2]
  ·rw[if_neg hk2] at hlk;refine aa (z:=false) (by rw[show k%2=1 by omega];rfl) ?_
   rw[if_neg (by decide)]
   refine aa hq (aa hq (aa (ak q1) (aa (yV q1) (aa (z:=ah d) rfl (aa (z:=k) (by rw[am];exact ak hk) (aa (cP hk) (aa (B7 (by omega)) (aa (LQ (b:=65536) (by omega)) (aa (E5 (by rw[hlk];omega)) (aa (ak q1) (aa (tD q1 (l':=d.take (k+1)) ?_) rfl)))))))))))
   intro i;by_cases hi:i=k/2
   ·rw[if_pos hi,hlk,hi];simp only[eI,kc];rw[if_pos (show 2*(k/2)<k+1 by omega),if_pos (show 2*(k/2)+1<k+1 by omega),show 2*(k/2)+1=k by omega];omega
   ·rw[if_neg hi];simp only[eI,kc];have a1:(2*i<k+1)↔(2*i<k):=by omega
    have a2:(2*i+1<k+1)↔(2*i+1<k):=by omega
    simp only[a1,a2]
 ·subst hJ;refine⟨(0,[.st [.bool false,.bool (neg&&decide (0<d.length)),dL (d.take d.length)]]),?_,?_⟩
  ·exact aa (z:=ah d) rfl (aa af (aa ae (az (by show ¬ (d.length:Int)<((ah d).length:Int);rw[am];omega) rfl)))
  ·rw[zIa];rfl
def XF(n:Nat){a b:List Nat}(ha:dl a)(hb:dl b)(hla:a.length<=900000)(hlb:b.length<=900000):cA (n+2) 82 [.sl (ah a),.sl (ah b)]=some (.sl (ah (aG (a8 a+a8 b)))):=by
 rw[u82]
 delta PE qB qC qS qV qW qZ iL iR Jn
 obtain⟨M,hM⟩:∃ M,M=max a.length b.length:=⟨_,rfl⟩;have hmax:∀ k:Nat,D.max2 (D.int .i64 (ah a).length) (D.int .i64 (ah b).length)=some (I (M:Int)):=λ_=>by
  rw[CD,am,am,hM];congr 2;omega
 refine ba (λk s=>∃ (out:List Nat) (c:Nat),s=[.sl (ah out),I (c:Int),I (k:Int)]/\out.length=k/\dl out/\c<=1/\a8 out+c*65536^k=vt a k+vt b k) (M+1) 0 (zga _) ⟨[],0,rfl,rfl,(by intro d hd;cases hd),by omega,by simp[a8,vt]⟩ (λk hk s hJ=>?_) (λs hJ=>?_)
 ·obtain⟨out,c,rfl,ho,hdo,hc,hv⟩:=hJ;left;have h1:=ha.getD k;have h2:=hb.getD k;refine⟨[.sl (ah (out++[(a.getD k 0+b.getD k 0+c)%65536])),I ((a.getD k 0+b.getD k 0+c)/65536:Nat),I ((k+1:Nat):Int)],?_,out++[(a.getD k 0+b.getD k 0+c)%65536],(a.getD k 0+b.getD k 0+c)/65536,rfl,by simp[ho],hdo.append (λx hx=>by simp at hx;omega),by omega,?_⟩
  ·refine aa (z:=ah a) rfl (aa (z:=ah b) rfl (aa (hmax 0) (aa (av (aw (i:=M) (by omega))) (aa af (aa ae (aC (by show(k:Int)<(M:Int)+1;omega) ?_))))))
   refine aa (Dj n a k) (aa (Dj n b k) (aa (av (by simp only[inR];omega)) (aa (av (by simp only[inR];omega)) ?_)))
   rw[show(((a.getD k 0:Nat):Int)+((b.getD k 0:Nat):Int)+(c:Int))=((a.getD k 0+b.getD k 0+c:Nat):Int) by omega]
   refine aa (lm (b:=65536) (by decide)) ?_
   rw[if_pos (by simp only[g0,D.els,am,zDa,zib];omega)]
   refine aa (ju (b:=65536) (by decide) (by omega)) (aa (av (aw (i:=k) (by omega))) ?_)
   simp only[g0,D.els,vc];rfl
  ·rw[lz,ho,vt,vt,znb];have e:a.getD k 0+b.getD k 0+c=(a.getD k 0+b.getD k 0+c)%65536+65536*((a.getD k 0+b.getD k 0+c)/65536):=by omega
   have e2:a8 [(a.getD k 0+b.getD k 0+c)%65536]=(a.getD k 0+b.getD k 0+c)%65536:=by simp[a8]
   rw[e2];generalize 65536^k=B at *;generalize (a.getD k 0+b.getD k 0+c)%65536=r at *;generalize (a.getD k 0+b.getD k 0+c)/65536=q at *;have:(a.getD k 0+b.getD k 0+c)*B=(r+65536*q)*B:=by rw[e]
   rw[zZa,zZa,zZa] at this;rw[show q*(B*65536)=65536*q*B by rw[zGa B,<-z2a,zGa q],zGa B r]
   omega
 ·obtain⟨out,c,rfl,ho,hdo,hc,hv⟩:=hJ;refine⟨(0,[.sl (ah out)]),?_,?_⟩
  ·refine aa (z:=ah a) rfl (aa (z:=ah b) rfl (aa (hmax 0) (aa (av (aw (i:=M) (by omega))) (aa af (aa ae (az (by show ¬ (((M+1:Nat):Int)<(M:Int)+1);omega) rfl))))))
  ·refine aa (yq n (l:=out) (by omega)) ?_
   have va:vt a (M+1)=a8 a:=g6 (by omega)
   have vb:vt b (M+1)=a8 b:=g6 (by omega)
   have la:=uj ha M;have lb:=uj hb M;rw[g6 (show a.length<=M by omega)] at la
   rw[g6 (show b.length<=M by omega)] at lb
   have hc0:c=0:=by
    rcases zrb c with h|h
    ·exact h
    ·have:1*65536^(M+1)<=c*65536^(M+1):=zya _ h;rw[znb] at this;rw[va,vb,znb] at hv;omega
   subst hc0;rw[gQ hdo,<-va,<-vb,<-hv];simp
def Av(n:Nat){x:Int}(hx:inR x):cA (n+3) 34 [I x]=some (aj x):=by
 rw[ZY]
 delta Pf qB qC Jn
 obtain⟨h1,h2⟩:=hx;have d1:∀ m:Nat,(m:Int)<=9223372036854775807->dl [m%65536,m/65536%65536,m/4294967296%65536,m/281474976710656]:=λm hm d hd=>by
  simp only[zEa,zyc,or_false] at hd;omega
 have d2:∀ m:Nat,a8 [m%65536,m/65536%65536,m/4294967296%65536,m/281474976710656]=m:=λm=>by
  simp only[a8];omega
 have d3:∀ m:Nat,D.sl [I (m%65536:Nat),I (m/65536%65536:Nat),I (m/4294967296%65536:Nat),I (m/281474976710656:Nat)]=.sl (ah [m%65536,m/65536%65536,m/4294967296%65536,m/281474976710656]):=λm=>rfl;have big:∀ m:Nat,(m:Int)<=9223372036854775808->m<65536^32:=λm hm=>by
  have:(65536:Nat)^4<=65536^32:=zva (by decide) (by decide)
  have e:(65536:Nat)^4=18446744073709551616:=by decide
  omega
 refine aa jd (aa ae ?_);by_cases h:x ≥ 0
 ·refine aC h ?_;obtain⟨m,rfl⟩:=zwc h;refine aa (lm (b:=65536) (by decide)) (aa (ju (b:=65536) (by decide) h2) (aa (lm (b:=65536) (by decide)) (aa (ju (b:=4294967296) (by decide) h2) (aa (lm (b:=65536) (by decide)) (aa (ju (b:=281474976710656) (by decide) h2) ?_)))))
  refine aa (z:=aj m) ?_ rfl;rw[d3,KY n (d1 m h2) (by simp) (by rw[d2];exact big m (by omega)),d2];rfl
 ·refine az h ?_;obtain⟨m,hm⟩:=zwc (show 0<=-(x+1) by omega)
  have h3:(m:Int)<=9223372036854775807:=by omega
  refine aa (av (by simp only[inR];omega)) (aa (pa (by simp only[inR];omega)) ?_)
  rw[hm];refine aa (lm (b:=65536) (by decide)) (aa (ju (b:=65536) (by decide) h3) (aa (lm (b:=65536) (by decide)) (aa (ju (b:=4294967296) (by decide) h3) (aa (lm (b:=65536) (by decide)) (aa (ju (b:=281474976710656) (by decide) h3) ?_)))))
  rw[d3];refine aa (XF n (b:=[1]) (d1 m h3) (λd hd=>by simp at hd;omega) (by simp) (by simp)) (aa (z:=aj x) ?_ rfl)
  rw[d2];have e1:a8 [1]=1:=rfl;rw[e1,KY n (a7 _) ?_ ?_,ar]
  ·congr 2;simp only[sgn,if_true];omega
  ·have:=bC 32 _ (big (m+1) (by omega));omega
  ·rw[ar];exact big (m+1) (by omega)
end Sy
end
noncomputable section
namespace Sy
open Go Go.Proofs Geo
def In(x:Int):Prop:=x.natAbs<65536^32
def In.of{x:Int}(h:inR x):In x:=by
 have:(65536:Nat)^4<=65536^32:=zva (by decide) (by decide)
 have e:(65536:Nat)^4=18446744073709551616:=by decide
 obtain⟨h1,h2⟩:=h;unfold In;omega
def ig(m i:Nat):eI (aG m) i=m/4294967296^i%4294967296:=by
 have e1:65536^(2*i)=4294967296^i:=by rw[Nat.pow_mul]
 have e2:65536^(2*i+1)=4294967296^i*65536:=by rw[znb,e1]
 unfold eI;rw[pE,pE,e1,e2,<-zYa];generalize m/4294967296^i=q;omega
def Lm(m:Nat):eI (aG m) 0=m%4294967296:=by rw[ig,zrc,zUc]
def FO(m:Nat):eI (aG m) 1=m/4294967296%4294967296:=by rw[ig,Nat.pow_one]
def Oy{m i:Nat}(h:m<18446744073709551616)(hi:2<=i):eI (aG m) i=0:=by
 rw[ig];have:(4294967296:Nat)^2<=4294967296^i:=zva (by decide) hi
 rw[z1a (by omega)]
def KV{a b:Nat}:D.beq (U a) (U b)=decide (a=b):=by
 simp only[D.beq,decide_true,zIb];by_cases h:a=b
 ·simp[h]
 ·simp[h];omega
def tF{m:Nat}(hm:m<65536^32)(h:∀ i,i<16->eI (aG m) i=0):m=0:=by
 have hz:∀ i,i<32->(aG m).getD i 0=0:=λi hi=>by
  have:=h (i/2) (by omega)
  unfold eI at this;rcases Nat.mod_two_eq_zero_or_one i with e|e
  ·rw[show 2*(i/2)=i by omega] at this;omega
  ·rw[show 2*(i/2)+1=i by omega] at this;omega
 have hv:∀ k,k<=32->vt (aG m) k=0:=λk=>by
  induction k with
  | zero=>intro _;rfl
  | succ k ih=>intro hk;rw[vt,ih (by omega),hz k (by omega)];simp
 have:=hv 32 (by omega)
 rw[g6 (bC 32 _ hm),ar] at this;exact this
def zB(m i:Nat):Bool:=(List.range i).all λk=>decide (eI (aG m) k=0)
def KN(m i:Nat):zB m (i+1)=(zB m i&&decide (eI (aG m) i=0)):=by
 unfold zB;rw[zxb,zgd];simp
def Uj(n:Nat){x:Int}(hx:In x):cA (n+1) 139 [aj x]=some (.bool true):=by
 rw[VW]
 delta HO qG qB qC qT qN qZ iL iR Jn
 have fin:∀ z:Bool,(z=true->x=0)->(Option.bind (D.get (aj x) [0]) λx10=>Option.bind (D.truth x10) λb11=>
   if b11 then(Option.bind (D.truth (.bool z)) λb12=>Option.bind (if b12 then(Option.bind (D.get (aj x) [1]) λx13=>Option.bind (D.un .not x13) λx14=>D.truth x14) else(some false)) λb15=>
   some (D.bool b15)) else(Option.bind (D.un .not (.bool z)) λx16=>Option.bind (D.truth x16) λb17=>
   Option.bind (if b17 then(some true) else(Option.bind (D.get (aj x) [1]) λx18=>Option.bind (D.un .not x18) λx19=>D.truth x19)) λb20=>some (D.bool b20)))=some (.bool true):=by
  intro z hz;refine aa (z:=.bool false) rfl (aa (z:=false) rfl ?_);rw[if_neg (by decide)]
  refine aa (z:=.bool (!z)) rfl (aa (z:=!z) rfl ?_);cases z with
  | false=>rfl
  | true=>
   have:=hz rfl;subst this;rfl
 refine ba (λi s=>s=[.bool (zB x.natAbs i),I (i:Int)]) 16 0 (zga _) rfl (λi hi s hJ=>?_) (λs hJ=>?_)
 ·subst hJ;left;refine⟨_,?_,rfl⟩;refine aa af (aa ae (aC (by show(i:Int)<16;omega) (aa ae (aa (z:=zB x.natAbs (i+1)) ?_ (aa (av (aw (i:=i) (by omega))) rfl)))))
  rw[KN];cases zB x.natAbs i with
  | false=>rfl
  | true=>
   rw[if_pos rfl];refine aa (ak hi) (aa (cK hi) ?_);show D.truth (D.bool (D.beq (U (eI (aG x.natAbs) i)) (U 0)))=_;rw[KV,ae];rfl
 ·subst hJ;refine⟨(0,[.bool (zB x.natAbs 16)]),?_,?_⟩
  ·exact aa af (aa ae (az (by decide) rfl))
  ·refine fin _ λh=>?_;have:=tF hx (λi hi=>of_decide_eq_true (zra.1 h i (zLa.2 hi)));omega
def uw(n:Nat){x:Int}(hx:In x):cA (n+2) 76 [aj x]=some (.bool true):=by
 rw[u76]
 delta Pz qG qT
 exact aa (Uj n hx) (aa ae rfl)
def sv(n:Nat){x:Int}(hx:x.natAbs<4611686018427387904):cA (n+3) 124 [aj x]=some (.tup [I x,.bool true]):=by
 have hin:In x:=In.of (by simp only[inR];omega)
 rw[OR]
 delta EJ qG qB qC qT qN qZ iL iR Jn
 have l1:=FO x.natAbs;refine aa (uw n hin) (aa bg (aa ae (aa (z:=false) ?_ (aa ae ?_))))
 ·rw[if_neg (by decide)]
  refine aa (cK (i:=1) (by decide)) ?_
  rw[l1];have:D.bin .geq (U (x.natAbs/4294967296%4294967296)) (.int .u32 1073741824)=some (.bool false):=by
   simp only[D.bin,if_true];rw[decide_eq_false (by omega)]
  exact aa this rfl
 ·rw[if_neg (by decide)]
  refine ba (λi s=>s=[I (i:Int)]/\2<=i) 16 2 (by decide) ⟨rfl,by decide⟩ (λi hi s hJ=>?_) (λs hJ=>?_)
  ·obtain⟨rfl,h2⟩:=hJ;left;refine⟨_,?_,rfl,by omega⟩
   refine aa af (aa ae (aC (by show(i:Int)<16;omega) ?_))
   refine aa (ak hi) (aa (cK hi) ?_);rw[Oy (by omega) h2]
   refine aa (z:=false) rfl ?_;rw[if_neg (by decide)]
   exact aa (av (aw (i:=i) (by omega))) rfl
  ·obtain⟨rfl,_⟩:=hJ;refine⟨(1,[]),aa af (aa ae (az (by decide) rfl)),?_⟩
   rw[if_neg (by decide)]
   have e0:=Lm x.natAbs;refine aa (cK (i:=1) (by decide)) (aa (rM (xf (a7 _) 1)) ?_)
   rw[l1];refine aa (bY (by simp only[inR];omega)) (aa (cK (i:=0) (by decide)) (aa (rM (xf (a7 _) 0)) ?_))
   rw[e0];refine aa (av (by simp only[inR];omega)) (aa (z:=.bool (decide (x<0))) rfl (aa ae ?_))
   by_cases hx0:x<0
   ·refine aC hx0 ?_;refine aa (pa (by simp only[inR];omega)) ?_
    congr 4;omega
   ·refine az hx0 ?_;congr 4;omega
def Uk(n:Nat){x:Int}(hx:In x):cA (n+3) 142 [aj x]=some (aj x.natAbs):=by
 rw[VZ]
 delta HS qN
 have hl:=bC 32 _ hx;refine aa (uw n hx) (aa bg (aa ae ?_));refine aa (Al n hx) (aa (z:=aj x.natAbs) ?_ rfl);rw[KY n (a7 _) (by omega) (by rw[ar];exact hx),ar];rfl
def PU(n:Nat){a b:List Nat}(ha:dl a)(hb:dl b)(hla:a.length<=900000)(hlb:b.length<=900000):cA (n+2) 78 [.sl (ah a),.sl (ah b)]=some (.bool (decide (a8 a<a8 b))):=by
 rw[u78]
 delta PB qB qC qT qS qZ iL iR Jn
 obtain⟨M,hM⟩:∃ M,M=max a.length b.length:=⟨_,rfl⟩;have hmax:D.max2 (D.int .i64 (ah a).length) (D.int .i64 (ah b).length)=some (I (M:Int)):=by
  rw[CD,am,am,hM];congr 2;omega
 have hva:vt a M=a8 a:=g6 (by omega)
 have hvb:vt b M=a8 b:=g6 (by omega)
 refine aa (z:=ah a) rfl (aa (z:=ah b) rfl (aa hmax (aa (cV (by simp only[inR];omega)) ?_)))
 refine ba (λi s=>s=[I ((M:Int)-1-i)]/\(a8 a<a8 b↔vt a (M-i)<vt b (M-i))) M 0 (zga _) ⟨by simp,by simp[hva,hvb]⟩ (λi hi s hJ=>?_) (λs hJ=>?_)
 ·obtain⟨rfl,hz⟩:=hJ;obtain⟨k,hk⟩:∃ k,M-i=k+1:=⟨M-i-1,by omega⟩
  rw[hk,vt,vt] at hz;have e1:(M:Int)-1-i=(k:Int):=by omega
  rw[e1];have la:=uj ha k;have lb:=uj hb k;have q1:=Dj n a k;have q2:=Dj n b k;by_cases hab:a.getD k 0=b.getD k 0
  ·left;refine⟨[I ((M:Int)-1-(i+1:Nat))],?_,rfl,?_⟩
   ·refine aa jd (aa ae (aC (by show(k:Int) ≥ 0;omega) (aa q1 (aa q2 (aa (z:=false) ?_ ?_)))))
    ·rw[hab,bN,decide_eq_true rfl];rfl
    ·rw[if_neg (by decide)]
     refine aa (cV (by simp only[inR];omega)) ?_
     congr 4;omega
   ·rw[hz,hab,show M-(i+1)=k by omega];omega
  ·right;refine⟨(0,[.bool (decide (a.getD k 0<b.getD k 0))]),?_,?_⟩
   ·refine aa jd (aa ae (aC (by show(k:Int) ≥ 0;omega) (aa q1 (aa q2 (aa (z:=true) ?_ ?_)))))
    ·rw[bN,decide_eq_false hab];rfl
    ·rw[if_pos rfl];refine aa q1 (aa q2 (aa af ?_));simp
   ·rw[if_pos rfl];show some (D.bool (decide (a.getD k 0<b.getD k 0)))=_;congr 3;rw[eq_iff_iff,hz];generalize a.getD k 0=u at *;generalize b.getD k 0=v at *;generalize 65536^k=B at *;constructor
    ·intro h;have:(u+1)*B<=v*B:=zya _ h;rw[zZa] at this;omega
    ·intro h;rcases zqa u v with h1|h1
     ·exact h1
     ·have:(v+1)*B<=u*B:=zya _ (by omega)
      rw[zZa] at this;omega
 ·obtain⟨rfl,hz⟩:=hJ;refine⟨(1,[]),?_,?_⟩
  ·exact aa jd (aa ae (az (by show ¬ ((M:Int)-1-(M:Nat)) ≥ 0;omega) rfl))
  ·rw[if_neg (by decide)]
   have:¬ a8 a<a8 b:=by rw[hz];simp[vt]
   rw[decide_eq_false this]
def Nf(n:Nat){x y:Int}(hx:In x)(hy:In y):cA (n+3) 32 [aj x,aj y]=some (I (bQ x y)):=by
 rw[u32]
 delta Pd qG qT qN Jn
 have hlx:=bC 32 _ hx;have hly:=bC 32 _ hy;have gx:=uw n hx;have gy:=uw n hy;have dx:=Al n hx;have dy:=Al n hy;refine aa gx (aa bg (aa ae (aa (z:=false) rfl (aa (z:=false) rfl ?_))));rw[if_neg (by decide)]
 refine aa gx (aa bg (aa (z:=false) rfl ?_));rw[if_neg (by decide)]
 refine aa gy (aa bg (aa (z:=false) rfl ?_));rw[if_neg (by decide)]
 refine aa (z:=.bool (decide (x<0))) rfl (aa (z:=.bool (decide (y<0))) rfl ?_);have l1:=PU n (a7 x.natAbs) (a7 y.natAbs) (by omega) (by omega)
 have l2:=PU n (a7 y.natAbs) (a7 x.natAbs) (by omega) (by omega)
 simp only[ar] at l1 l2;have hb:∀ p q:Bool,D.truth (.bool (!(D.beq (.bool p) (.bool q))))=some (!(p==q)):=λp q=>rfl;rw[hb];refine aa rfl ?_;by_cases h1:x<0<;>by_cases h2:y<0
 ·rw[decide_eq_true h1,decide_eq_true h2,if_neg (by decide)]
  refine aa dx (aa dy (aa (z:=(0,[.sl (ah (aG y.natAbs)),.sl (ah (aG x.natAbs))])) ?_ ?_))
  ·refine aa (z:=.bool true) (by rw[show D.get (aj x) [1]=some (.bool (decide (x<0))) from rfl,decide_eq_true h1]) (aa (z:=true) rfl ?_)
   rw[if_pos rfl];exact aa dy (aa dx rfl)
  ·refine aa l2 (aa l1 (aa ae ?_));by_cases h3:y.natAbs<x.natAbs
   ·refine aC h3 ?_;simp[bQ,show x<y by omega]
   ·refine az h3 (aa ae ?_);by_cases h4:x.natAbs<y.natAbs
    ·refine aC h4 ?_;simp[bQ,show ¬ x<y by omega,show y<x by omega]
    ·refine az h4 ?_;simp[bQ,show ¬ x<y by omega,show ¬ y<x by omega]
 ·rw[decide_eq_true h1,decide_eq_false h2,if_pos (by decide)]
  refine aa (z:=.bool true) (by rw[show D.get (aj x) [1]=some (.bool (decide (x<0))) from rfl,decide_eq_true h1]) (aa (z:=true) rfl ?_)
  simp[bQ,show x<y by omega]
 ·rw[decide_eq_false h1,decide_eq_true h2,if_pos (by decide)]
  refine aa (z:=.bool false) (by rw[show D.get (aj x) [1]=some (.bool (decide (x<0))) from rfl,decide_eq_false h1]) (aa (z:=false) rfl ?_)
  simp[bQ,show ¬ x<y by omega,show y<x by omega]
 ·rw[decide_eq_false h1,decide_eq_false h2,if_neg (by decide)]
  refine aa dx (aa dy (aa (z:=(0,[.sl (ah (aG x.natAbs)),.sl (ah (aG y.natAbs))])) ?_ ?_))
  ·refine aa (z:=.bool false) (by rw[show D.get (aj x) [1]=some (.bool (decide (x<0))) from rfl,decide_eq_false h1]) (aa (z:=false) rfl rfl)
  ·refine aa l1 (aa l2 (aa ae ?_));by_cases h3:x.natAbs<y.natAbs
   ·refine aC h3 ?_;simp[bQ,show x<y by omega]
   ·refine az h3 (aa ae ?_);by_cases h4:y.natAbs<x.natAbs
    ·refine aC h4 ?_;simp[bQ,show ¬ x<y by omega,show y<x by omega]
    ·refine az h4 ?_;simp[bQ,show ¬ x<y by omega,show ¬ y<x by omega]
end Sy
end
noncomputable section
namespace Sy
open Go Go.Proofs Geo
def Wd(x:Int):Prop:=x.natAbs<4611686018427387904
theorem Wd.inR{x:Int}(h:Wd x):inR x:=by unfold Wd at h;simp only[Sy.inR];omega
theorem Wd.In{x:Int}(h:Wd x):In x:=In.of h.inR
def Ul(n:Nat){a b:Int}(ha:Wd a)(hb:b≠0)(hd:b ∣ a):cA (n+1) 144 [I a,I b]=some (I (a/b)):=by
 rw[V1]
 delta HU qB qT Jn
 obtain⟨q,rfl⟩:=hd;have e1:(b*q).tdiv b=q:=zsd _ hb;have e2:b*q/b=q:=z0a _ hb;have e3:(b*q).tmod b=0:=Int.mul_tmod_right ..;have hq:Sy.inR q:=by
  have:q.natAbs<=(b*q).natAbs:=by rw[zFa];exact zub _ (by omega)
  unfold Wd at ha;simp only[Sy.inR];omega
 rw[e2];refine aa (uV hb (by rw[e1];exact hq)) (aa (z:=(0,[I q])) (aa (so hb) ?_) rfl)
 rw[e1,e3];exact aa (z:=false) rfl (aa (z:=false) rfl (aa ae rfl))
def PX(n:Nat){a b:Int}(ha:Wd a)(hb:Wd b):cA (n+4) 85 [aj a,aj b]=some (aj (Nat.gcd a.natAbs b.natAbs:Nat)):=by
 rw[XP]
 delta Nu qB qC qT qN qS qZ iL iR Jn
 refine aa (sv n ha) (aa (z:=I a) rfl (aa (z:=.bool true) rfl (aa (sv n hb) (aa (z:=I b) rfl (aa (z:=.bool true) rfl (aa (z:=true) rfl (aa (z:=true) rfl (aa (z:=true) rfl ?_))))))));rw[if_pos rfl];obtain⟨r,h1,h2⟩:=yS (body:=λ(v1:List D)=>
  Option.bind (D.truth (D.bool (!(D.beq (gx v1 1) (D.int .i64 0))))) λb2=>
  if b2 then(Option.bind (D.bin .rem (gx v1 0) (gx v1 1)) λx3=>
  some (Sum.inl [(gx v1 1),x3])) else(some (Sum.inr (0,[(gx v1 0)]))))
  (λa b hb=>by simp only[g0,g1,bF,ae,zba,hb,decide_false,zRb,if_true,so hb])
  (λa=>by simp only[g0,g1,bF,ae,zba,decide_true,zac,zBa,if_false]) _ a b rfl
 refine nB h1 ?_;have hg:Nat.gcd a.natAbs b.natAbs<=4611686018427387903:=by unfold Wd at ha hb;exact pO (by omega) (by omega)
 have hr:Sy.inR r:=by simp only[Sy.inR];omega
 refine aa (Av n hr) (aa (Uk n (In.of hr)) ?_);rw[h2]
def PW(n:Nat){x:Int}(hx:In x):cA (n+3) 83 [aj x]=some (I (sg x)):=by
 rw[u83]
 delta PF qG qT qN qS Jn
 refine aa (uw n hx) (aa bg (aa (z:=false) rfl (aa (z:=decide (x=0)) ?_ (aa ae ?_))))
 ·rw[if_neg (by decide)]
  refine aa (Al n hx) (aa (z:=ah (aG x.natAbs)) rfl ?_);rw[ae,am];show some (D.beq (I ((aG x.natAbs).length:Nat)) (I (0:Nat)))=_;rw[bN];congr 1;rw[decide_eq_decide,zvc,sP];omega
 ·by_cases h0:x=0
  ·refine aC h0 ?_;subst h0;rfl
  ·refine az h0 (aa (z:=.bool (decide (x<0))) rfl (aa ae ?_));by_cases h1:x<0
   ·refine aC h1 ?_;rw[xI h1]
   ·refine az h1 ?_;rw[kK (by omega)]
def PY(n:Nat){a b:Int}(ha:Wd a)(hb:Wd b)(hb0:b≠0)(hd:b ∣ a):cA (n+4) 87 [aj a,aj b]=some (aj (a/b)):=by
 rw[XQ]
 delta Nv qG qB qT qN qS Jn
 refine aa (sv n ha) (aa (z:=I a) rfl (aa (z:=.bool true) rfl (aa (sv n hb) (aa (z:=I b) rfl (aa (z:=.bool true) rfl (aa (z:=true) rfl (aa (z:=true) rfl (aa (z:=true) rfl (aa (z:=true) ?_ (aa (z:=true) rfl ?_))))))))))
 ·rw[if_pos rfl,bF,decide_eq_false hb0];rfl
 ·rw[if_pos rfl];have hq:Sy.inR (a/b):=by
   obtain⟨q,rfl⟩:=hd;rw[z0a _ hb0];have:q.natAbs<=(b*q).natAbs:=by rw[zFa];exact zub _ (by omega)
   unfold Wd at ha;simp only[Sy.inR];omega
  exact aa (Ul (n+2) ha hb0 hd) (aa (Av n hq) rfl)
abbrev PQ(n:Nat):D:=.int .u64 (n:Int)
def dm{n:Int}(h:0<=n/\n<18446744073709551616):IntKind.wrap .u64 n=n:=by
 obtain⟨h1,h2⟩:=h;simp only[IntKind.wrap,IntKind.signed,IntKind.bits];first
  | omega
  | (simp;omega)
def Dk(n:Nat){x:Int}(hx:Wd x):cA (n+4) 186 [aj x]=some (.tup [I x,.bool true]):=by
 rw[Wi]
 delta Ia qG qB qC qT qN Jn
 have hx':x.natAbs<4611686018427387904:=hx;have i1:Sy.inR (-9223372036854775808):=⟨by decide,by decide⟩
 have i2:Sy.inR 9223372036854775807:=⟨by decide,by decide⟩
 refine aa (uw (n+1) hx.In) (aa bg (aa (z:=false) rfl ?_));rw[if_neg (by decide)]
 refine aa (Av n i1) (aa (Av n i2) (aa (Nf n hx.In (In.of i1)) ?_));rw[show bQ x (-9223372036854775808)=1 by unfold bQ;rw[if_neg (by omega),if_pos (by omega)]]
 refine aa (z:=.bool false) af (aa (z:=false) rfl (aa (z:=false) ?_ (aa (z:=false) rfl ?_)))
 ·rw[if_neg (by decide)]
  refine aa (Nf n hx.In (In.of i2)) ?_;rw[show bQ x 9223372036854775807=-1 by unfold bQ;rw[if_pos (by omega)]]
  exact aa (z:=.bool false) bP rfl
 ·rw[if_neg (by decide)]
  have l1:=FO x.natAbs;have l0:=Lm x.natAbs;refine aa (cK (i:=1) (by decide)) ?_
  rw[l1];refine aa (z:=PQ (x.natAbs/4294967296%4294967296)) (by simp only[D.conv];rw[dm (by omega)]) ?_
  refine aa (z:=PQ (x.natAbs/4294967296%4294967296*4294967296)) (by simp only[D.bin,if_true];rw[dm (by omega)];simp) ?_
  refine aa (cK (i:=0) (by decide)) ?_
  rw[l0];refine aa (z:=PQ (x.natAbs%4294967296)) (by simp only[D.conv];rw[dm (by omega)]) ?_
  refine aa (z:=PQ x.natAbs) (by simp only[D.bin,if_true];rw[dm (by omega)];congr 2;omega) ?_
  refine aa (z:=I (x.natAbs:Nat)) (by simp only[D.conv];rw[g7 (by simp only[Sy.inR];omega)]) ?_
  refine aa (z:=(0,[I x])) (aa (z:=.bool (decide (x<0))) rfl (aa ae ?_)) rfl;by_cases h:x<0
  ·refine aC h (aa (pa (by simp only[Sy.inR];omega)) ?_)
   congr 4;omega
  ·refine az h ?_;congr 4;omega
def Uv(n:Nat){v:V}(hv:bd 2305843009213693951 v):cA (n+1) 187 [ag v]=some (.bool true):=by
 rw[Wj]
 delta Ib qB qC qT qJ qZ iL iR Jn
 have stp:∀ x:Int,(-2305843009213693951<=x/\x<=2305843009213693951)->∀ (i:Nat) (hi:i<3),D.get (ag v) [i]=some (I x)->(Option.bind (D.idx (I (i:Int)) 3) λi4=>Option.bind (D.get (ag v) [i4]) λx5=>Option.bind (D.bin .geq x5 (D.int .i64 2305843009213693952)) λx6=>Option.bind (D.truth x6) λb7=>
  Option.bind (if b7 then(some true) else(Option.bind (D.idx (I (i:Int)) 3) λi8=>Option.bind (D.get (ag v) [i8]) λx9=>Option.bind (D.bin .leq x9 (D.int .i64 (-2305843009213693952))) λx10=>D.truth x10)) λb11=>
  Option.bind (D.truth (D.bool b11)) λb12=>if b12 then(some (Sum.inr (0,[(D.bool false)]))) else(Option.bind (D.bin .add (I (i:Int)) (D.int .i64 1)) λx13=>some (Sum.inl [x13])))=some (Sum.inl [I ((i+1:Nat):Int)]:Sum (List D) (Nat×List D)):=λx hx i hi hg=>by
  refine aa (ak hi) (aa hg (aa jd (aa ae (aa (z:=false) ?_ (aa (z:=false) rfl ?_)))))
  ·refine az (by omega) (aa (ak hi) (aa hg (aa sn ?_)))
   rw[ae,decide_eq_false (by omega)]
  ·rw[if_neg (by decide)]
   exact aa (av (aw (i:=i) (by omega))) rfl
 refine cn (s':=[I (1:Nat)]) (aa af (aa ae (aC (by decide) (stp v.x hv.1 0 (by decide) rfl)))) (cn (s':=[I (2:Nat)]) (aa af (aa ae (aC (by decide) (stp v.y hv.2.1 1 (by decide) rfl)))) (cn (s':=[I (3:Nat)]) (aa af (aa ae (aC (by decide) (stp v.z hv.2.2 2 (by decide) rfl)))) (fP (r:=(1,[])) (aa af (aa ae (az (by decide) rfl))) rfl)))
def kV(v:V):D:=.st [aj v.x,aj v.y,aj v.z]
def Oc(n:Nat){v:V}(hx:inR v.x)(hy:inR v.y)(hz:inR v.z):cA (n+4) 80 [ag v]=some (kV v):=by
 rw[u80]
 delta PD qG
 exact aa (ov v) (aa (Av n hx) (aa (ox v) (aa (Av n hy) (aa (oy v) (aa (Av n hz) rfl)))))
def Uo(n:Nat){v:V}(hv:bd 549755813888 v):∃ e:Int,cA (n+5) 155 [kV v]=some (.st [ag (br v),I e]):=by
 rw[V7]
 delta H0 qG qB qC qT qN qJ qZ iL iR Jn
 have wx:Wd v.x:=by have:=hv.1;unfold Wd;omega
 have wy':Wd v.y:=by have:=hv.2.1;unfold Wd;omega
 have wz:Wd v.z:=by have:=hv.2.2;unfold Wd;omega
 have h0:Sy.inR 0:=⟨by decide,by decide⟩
 have w0:Wd 0:=by unfold Wd;decide
 have q1:Nat.gcd v.x.natAbs v.y.natAbs<=4611686018427387903:=by unfold Wd at wx wy';exact pO (by omega) (by omega)
 have q2:bw v<=4611686018427387903:=by
  unfold bw;have:=pO (a:=(Nat.gcd v.x.natAbs v.y.natAbs:Nat)) (b:=v.z) (k:=4611686018427387903) (by simpa using q1) (by unfold Wd at wz;omega)
  simpa using this
 have wxx:Wd (v.x.natAbs:Nat):=by unfold Wd at *;omega
 have w1:Wd (Nat.gcd v.x.natAbs v.y.natAbs:Nat):=by unfold Wd;omega
 have w2:Wd (bw v:Nat):=by unfold Wd;omega
 have g01:=PX n w0 wx;have g02:=PX n wxx wy';have g03:=PX n w1 wz;rw[show(Nat.gcd (0:Int).natAbs v.x.natAbs)=v.x.natAbs by simp] at g01
 rw[show(Nat.gcd ((v.x.natAbs:Nat):Int).natAbs v.y.natAbs)=Nat.gcd v.x.natAbs v.y.natAbs by simp] at g02
 rw[show(Nat.gcd ((Nat.gcd v.x.natAbs v.y.natAbs:Nat):Int).natAbs v.z.natAbs)=bw v by simp[bw]] at g03
 have fst:∀ {k:Nat×List D->Option D} {y:D},k (0,[aj (bw v:Nat)])=some y->Option.bind (cA (n+4) 34 [(D.int .i64 0)]) (λr1=>Option.bind (aN (λ(v2:List D)=>
   Option.bind (D.bin .lss (gx v2 0) (D.int .i64 3)) λx3=>Option.bind (D.truth x3) λb4=>
   if b4 then(Option.bind (D.idx (gx v2 0) 3) λi5=>Option.bind (D.get (kV v) [i5]) λx6=>Option.bind (cA (n+4) 85 [(gx v2 1),x6]) λr7=>
   Option.bind (D.bin .add (gx v2 0) (D.int .i64 1)) λx8=>some (Sum.inl [x8,r7])) else(some (Sum.inr (0,[(gx v2 1)])))) [(D.int .i64 0),r1]) k)=some y:=by
  intro k y hk;refine aa (Av (n+1) h0) ?_;refine cn (s':=[I 1,aj (v.x.natAbs:Nat)]) (aa af (aa ae (aC (by decide) (aa Li (aa (z:=aj v.x) rfl (aa g01 (aa (av Mn) rfl))))))) ?_
  refine cn (s':=[I 2,aj (Nat.gcd v.x.natAbs v.y.natAbs:Nat)]) (aa af (aa ae (aC (by decide) (aa Lj (aa (z:=aj v.y) rfl (aa g02 (aa (av tg) rfl))))))) ?_
  refine cn (s':=[I 3,aj (bw v:Nat)]) (aa af (aa ae (aC (by decide) (aa Lk (aa (z:=aj v.z) rfl (aa g03 (aa (av Nh) rfl))))))) ?_
  exact fP (r:=(0,[aj (bw v:Nat)])) (aa af (aa ae (az (by decide) rfl))) hk
 have hsg:=PW (n+1) w2.In;by_cases hz:bw v=0
 ·refine⟨31,fst (aa (z:=.bool false) rfl (aa (z:=false) rfl ?_))⟩;rw[if_neg (by decide)]
  refine aa hsg ?_;rw[hz];refine aa (z:=true) rfl ?_;rw[if_pos rfl];have hv0:v=V.zero:=by
   by_cases h:v=V.zero
   ·exact h
   ·have:=jN h;omega
  rw[hv0];rfl
 ·have hg0:(bw v:Int)≠0:=by omega
  refine⟨0,fst (aa (z:=.bool false) rfl (aa (z:=false) rfl ?_))⟩;rw[if_neg (by decide)]
  refine aa hsg ?_;rw[kK (show(0:Int)<bw v by omega)]
  refine aa (z:=false) rfl ?_;rw[if_neg (by decide)]
  have bp:=je hv;have z1:=PY n wx w2 hg0 (yI v);have z2:=PY n wy' w2 hg0 (yJ v);have z3:=PY n wz w2 hg0 (yK v);have s1:=Dk n (x:=v.x/(bw v:Nat)) (by have:=bp.1;unfold Wd;simp only[br] at this;omega)
  have s2:=Dk n (x:=v.y/(bw v:Nat)) (by have:=bp.2.1;unfold Wd;simp only[br] at this;omega)
  have s3:=Dk n (x:=v.z/(bw v:Nat)) (by have:=bp.2.2;unfold Wd;simp only[br] at this;omega)
  refine cn (s':=[I 1,.st [ag V.zero,I 0],.st [ag ⟨v.x/(bw v:Nat),0,0⟩,I 0]]) ?_ (cn (s':=[I 2,.st [ag V.zero,I 0],.st [ag ⟨v.x/(bw v:Nat),v.y/(bw v:Nat),0⟩,I 0]]) ?_ (cn (s':=[I 3,.st [ag V.zero,I 0],.st [ag ⟨v.x/(bw v:Nat),v.y/(bw v:Nat),v.z/(bw v:Nat)⟩,I 0]]) ?_ (fP (r:=(1,[.st [ag V.zero,I 0],.st [ag (br v),I 0]])) (aa af (aa ae (az (by decide) rfl))) ?_)))
  ·refine aa af (aa ae (aC (by decide) (aa Li (aa (z:=aj v.x) rfl (aa z1 (aa s1 (aa (z:=I (v.x/(bw v:Nat))) rfl (aa (z:=.bool true) rfl (aa (z:=.bool false) rfl (aa (z:=false) rfl ?_))))))))))
   rw[if_neg (by decide)]
   exact aa Li (aa (z:=.st [ag ⟨v.x/(bw v:Nat),0,0⟩,I 0]) rfl (aa (av Mn) rfl))
  ·refine aa af (aa ae (aC (by decide) (aa Lj (aa (z:=aj v.y) rfl (aa z2 (aa s2 (aa (z:=I (v.y/(bw v:Nat))) rfl (aa (z:=.bool true) rfl (aa (z:=.bool false) rfl (aa (z:=false) rfl ?_))))))))))
   rw[if_neg (by decide)]
   exact aa Lj (aa (z:=.st [ag ⟨v.x/(bw v:Nat),v.y/(bw v:Nat),0⟩,I 0]) rfl (aa (av tg) rfl))
  ·refine aa af (aa ae (aC (by decide) (aa Lk (aa (z:=aj v.z) rfl (aa z3 (aa s3 (aa (z:=I (v.z/(bw v:Nat))) rfl (aa (z:=.bool true) rfl (aa (z:=.bool false) rfl (aa (z:=false) rfl ?_))))))))))
   rw[if_neg (by decide)]
   exact aa Lk (aa (z:=.st [ag ⟨v.x/(bw v:Nat),v.y/(bw v:Nat),v.z/(bw v:Nat)⟩,I 0]) rfl (aa (av Nh) rfl))
  ·rw[if_neg (show ¬ (1:Nat)=0 by decide)]
   refine aa (z:=ag (br v)) rfl (aa (Uv (n+3) (v:=br v) ?_) (aa (z:=.bool false) rfl (aa (z:=false) rfl rfl)));simp only[bd] at bp ⊢;omega
def NG(n:Nat){a b c:V}(ha:bd MV a)(hb:bd MV b)(hc:bd MV c):cA (n+6) 106 [ag a,ag b,ag c]=some (ag (br (V.cross (b.sub a) (c.sub a)))):=by
 rw[Vt]
 delta Hn qG
 have h1:bd 524288 (b.sub a):=by have:=nl hb ha;simpa [MV] using this
 have h2:bd 524288 (c.sub a):=by have:=nl hc ha;simpa [MV] using this
 have h3:=dX h1 h2;refine aa (wI (n+4) hb ha (by decide)) (aa (wI (n+4) hc ha (by decide)) (aa (LW (n+4) h1 h2 (by decide)) ?_))
 have h4:bd 549755813888 (V.cross (b.sub a) (c.sub a)):=h3;generalize V.cross (b.sub a) (c.sub a)=m at *;obtain⟨e,he⟩:=Uo n h4;refine aa (Oc (n+1) ?_ ?_ ?_) (aa he rfl)
 ·have:=h4.1;simp only[Sy.inR];omega
 ·have:=h4.2.1;simp only[Sy.inR];omega
 ·have:=h4.2.2;simp only[Sy.inR];omega
end Sy
end
noncomputable section
namespace Sy
open Go Go.Proofs Geo
theorem od:∀ {l:List Nat} {j v:Nat},j<l.length->a8 (l.set j v)+65536^j*l.getD j 0=a8 l+65536^j*v
 | d::l,0,v,_=>by simp only[zDc,a8,zrc,znc,zfc];omega
 | d::l,j+1,v,h=>by
  have ih:=od (l:=l) (j:=j) (v:=v) (by simpa using h)
  simp only[z0c,a8,znb,zgc];rw[zGa (65536^j) 65536,z2a,z2a];generalize 65536^j*l.getD j 0=x at *;generalize 65536^j*v=y at *;omega
def pJ(l:List Nat)(j v:Nat):(ah l).set j (I (v:Int))=ah (l.set j v):=by simp[ah,List.map_set]
def lC(l:List Nat)(j v i:Nat)(h:j<l.length):(l.set j v).getD i 0=if i=j then v else l.getD i 0:=by
 by_cases e:i=j
 ·subst e;simp[List.getD,h]
 ·simp[List.getD,e,List.getElem?_set,show ¬ j=i from λk=>e k.symm]
def vf(m:Nat):List.replicate m (D.int .i64 0)=ah (List.replicate m 0):=by simp[ah]
def lj{a b:Nat}(h:a*b<=9223372036854775807):D.bin .mul (I (a:Int)) (I (b:Int))=some (I ((a*b:Nat):Int)):=by
 rw[bY (by simp only[inR];rw[<-zNa];omega),zNa]
def au{a b:Nat}(h:a+b<=9223372036854775807):D.bin .add (I (a:Int)) (I (b:Int))=some (I ((a+b:Nat):Int)):=by
 rw[av (by simp only[inR];omega),zCd]
def rU(a:Nat):D.natOf (I (a:Int))=some a:=by simp[D.natOf]
def w9{l:List Nat}{i:Nat}(h:i<l.length):D.idx (I (i:Int)) (ah l).length=some i:=by rw[am];exact ak h
def KZ{l:List Nat}(h:∀ i,i<l.length->l.getD i 0<65536):dl l:=λd hd=>by
 obtain⟨i,hi,rfl⟩:=zTa hd;have:=h i hi;simpa [List.getD,hi] using this
def LY(n:Nat){a b:List Nat}(ha:dl a)(hb:dl b)(hla:a.length<=400000)(hlb:b.length<=400000):cA (n+2) 146 [.sl (ah a),.sl (ah b)]=some (.sl (ah (aG (a8 a*a8 b)))):=by
 rw[V3]
 delta HW qB qC qS qX qL qV qW qZ iL iR Jn
 obtain⟨M,hM⟩:∃ M,M=a.length+b.length+1:=⟨_,rfl⟩;refine aa (z:=ah a) rfl (aa (z:=ah b) rfl (aa (z:=I ((a.length+b.length:Nat):Int)) (by rw[am,am];exact au (by omega)) (aa (z:=I (M:Int)) (by rw[hM];exact au (b:=1) (by omega)) (aa (rU M) ?_))))
 rw[if_pos (by omega),vf]
 refine ba (λi s=>∃ out:List Nat,s=[I (i:Int),.sl (ah out)]/\out.length=M/\dl out/\a8 out=vt a i*a8 b) a.length 0 (zga _) ⟨List.replicate M 0,rfl,by simp,λx hx=>by rw[zrd hx];decide,by have:=ns [] M;rw[z3b] at this;rw[this];simp[vt,a8]⟩ (λi hi s hJ=>?_) (λs hJ=>?_)
 ·obtain⟨out,rfl,ho,hdo,hv⟩:=hJ;left;have hai:=ha.getD i;obtain⟨r,h1,out1,rfl,o1,o2,o3⟩:=Cz (body:=λ(v10:List D)=>
   Option.bind (D.asSl (.sl (ah b))) λl11=>
   Option.bind (D.bin .lss (gx v10 0) (D.int .i64 (List.length l11))) λx12=>
   Option.bind (D.truth x12) λb13=>
   if b13 then(Option.bind (D.bin .add (I (i:Int)) (gx v10 0)) λx14=>
   Option.bind (D.bin .add (I (i:Int)) (gx v10 0)) λx15=>
   Option.bind (D.idx x15 (List.length (D.els (gx v10 1)))) λi16=>
   Option.bind ((D.els (gx v10 1))[i16]?) λx17=>
   Option.bind (D.asSl (.sl (ah a))) λl18=>
   Option.bind (D.idx (I (i:Int)) (List.length l18)) λi19=>
   Option.bind (l18[i19]?) λx20=>
   Option.bind (D.asSl (.sl (ah b))) λl21=>
   Option.bind (D.idx (gx v10 0) (List.length l21)) λi22=>
   Option.bind (l21[i22]?) λx23=>
   Option.bind (D.bin .mul x20 x23) λx24=>
   Option.bind (D.bin .add x17 x24) λx25=>
   Option.bind (D.idx x14 (List.length (D.els (gx v10 1)))) λi26=>
   Option.bind ((D.els (gx v10 1))[i26]?) λx27=>
   Option.bind (D.bin .add (gx v10 0) (D.int .i64 1)) λx28=>
   some (Sum.inl [x28,(D.sl (List.set (D.els (gx v10 1)) i26 x25))])) else(some (Sum.inr (0,[(D.sl (D.els (gx v10 1)))]))))
   (s0:=[I 0,.sl (ah out)])
   (λk s=>∃ o:List Nat,s=[I (k:Int),.sl (ah o)]/\o.length=M/\(∀ j,j<M->o.getD j 0<=4295032831/\(i+k<=j->o.getD j 0<65536))/\a8 o=a8 out+65536^i*(a.getD i 0*vt b k))
   (λr=>∃ o:List Nat,r=(0,[.sl (ah o)])/\o.length=M/\(∀ j,j<M->o.getD j 0<=4295032831)/\a8 o=a8 out+65536^i*(a.getD i 0*a8 b)) b.length 0 (zga _)
   ⟨out,rfl,ho,λj _=>by have:=hdo.getD j;omega,by simp[vt]⟩ (λk hk s hJ=>by
    obtain⟨o,rfl,o1,o2,o3⟩:=hJ;left;have hbk:=hb.getD k;have hik:i+k<o.length:=by omega
    have hp:a.getD i 0*b.getD k 0<=65535*65535:=zVa (by omega) (by omega)
    have hx:=(o2 (i+k) (by omega)).2 (zja _)
    refine⟨[I ((k+1:Nat):Int),.sl (ah (o.set (i+k) (o.getD (i+k) 0+a.getD i 0*b.getD k 0)))],?_,_,rfl,by simpa using o1,λj hj=>?_,?_⟩
    ·refine aa (z:=ah b) rfl (aa af (aa ae (aC (by show(k:Int)<((ah b).length:Int);rw[am];omega) ?_)))
     refine aa (au (a:=i) (b:=k) (by omega)) (aa (au (a:=i) (b:=k) (by omega)) (aa (w9 hik) (aa (cP hik) ?_)))
     refine aa (z:=ah a) rfl (aa (w9 hi) (aa (cP hi) (aa (z:=ah b) rfl (aa (w9 hk) (aa (cP hk) ?_)))));refine aa (lj (by omega)) (aa (au (by omega)) (aa (w9 hik) (aa (cP hik) (aa (av (aw (i:=k) (by omega))) ?_))))
     show some (Sum.inl [_,D.sl (List.set (ah o) (i+k) _)])=_;rw[pJ];rfl
    ·rw[lC _ _ _ _ hik];have:=o2 j hj;split
     ·omega
     ·omega
    ·have e:=od (l:=o) (j:=i+k) (v:=o.getD (i+k) 0+a.getD i 0*b.getD k 0) hik;rw[vt,zSb,zSb];have e2:65536^i*(a.getD i 0*(b.getD k 0*65536^k))=65536^(i+k)*(a.getD i 0*b.getD k 0):=by
      rw[zab,<-z2a (a.getD i 0),zGa (a.getD i 0*b.getD k 0),z2a]
     rw[zSb] at e;omega) (λs hJ=>by
    obtain⟨o,rfl,o1,o2,o3⟩:=hJ;rw[lZ] at o3;exact⟨_,aa (z:=ah b) rfl (aa af (aa ae (az (by show ¬ ((b.length:Int)<((ah b).length:Int));rw[am];omega) rfl))),o,rfl,o1,λj hj=>(o2 j hj).1,o3⟩)
  obtain⟨r2,h2,out2,rfl,p1,p2,p3⟩:=Cz (body:=λ(v30:List D)=>
   Option.bind (D.bin .lss (gx v30 1) (D.int .i64 (List.length (D.els (gx v30 2))))) λx31=>
   Option.bind (D.truth x31) λb32=>
   if b32 then(Option.bind (D.idx (gx v30 1) (List.length (D.els (gx v30 2)))) λi33=>
   Option.bind ((D.els (gx v30 2))[i33]?) λx34=>
   Option.bind (D.bin .add x34 (gx v30 0)) λx35=>
   Option.bind (D.bin .rem x35 (D.int .i64 65536)) λx36=>
   Option.bind (D.idx (gx v30 1) (List.length (D.els (gx v30 2)))) λi37=>
   Option.bind ((D.els (gx v30 2))[i37]?) λx38=>
   Option.bind (D.bin .quo x35 (D.int .i64 65536)) λx39=>
   Option.bind (D.bin .add (gx v30 1) (D.int .i64 1)) λx40=>
   some (Sum.inl [x39,x40,(D.sl (List.set (D.els (gx v30 2)) i37 x36))])) else(some (Sum.inr (0,[(D.sl (D.els (gx v30 2)))]))))
   (s0:=[I 0,I 0,.sl (ah out1)])
   (λk s=>∃ (o:List Nat) (c:Nat),s=[I (c:Int),I (k:Int),.sl (ah o)]/\o.length=M/\(∀ j,j<k->o.getD j 0<65536)/\(∀ j,k<=j->o.getD j 0=out1.getD j 0)/\c<=131072/\a8 o+65536^k*c=a8 out1)
   (λr=>∃ o:List Nat,r=(0,[.sl (ah o)])/\o.length=M/\dl o/\∃ c,a8 o+65536^M*c=a8 out1) M 0 (zga _)
   ⟨out1,0,rfl,o1,λj hj=>absurd hj (Nat.not_lt_zero _),λj _=>rfl,by omega,by simp⟩ (λk hk s hJ=>by
    obtain⟨o,c,rfl,q1,q2,q3,q4,q5⟩:=hJ;left;have hko:k<o.length:=by omega
    have hx:=o2 k hk;have hq:=q3 k (zja _);refine⟨[I (((o.getD k 0+c)/65536:Nat):Int),I ((k+1:Nat):Int),.sl (ah (o.set k ((o.getD k 0+c)%65536)))],?_,_,_,rfl,by simpa using q1,λj hj=>?_,λj hj=>?_,by omega,?_⟩
    ·refine aa af (aa ae (aC (by show(k:Int)<((ah o).length:Int);rw[am];omega) ?_))
     refine aa (w9 hko) (aa (cP hko) (aa (au (by omega)) (aa (lm (b:=65536) (by decide)) (aa (w9 hko) (aa (cP hko) (aa (ju (b:=65536) (by decide) (by omega)) (aa (av (aw (i:=k) (by omega))) ?_)))))))
     show some (Sum.inl [_,_,D.sl (List.set (ah o) k _)])=_;rw[pJ];rfl
    ·rw[lC _ _ _ _ hko];split
     ·omega
     ·exact q2 j (by omega)
    ·rw[lC _ _ _ _ hko,if_neg (by omega)];exact q3 j (by omega)
    ·have e:=od (l:=o) (j:=k) (v:=(o.getD k 0+c)%65536) hko;have e2:o.getD k 0+c=(o.getD k 0+c)%65536+65536*((o.getD k 0+c)/65536):=by omega
     have e3:65536^k*(o.getD k 0+c)=65536^k*((o.getD k 0+c)%65536)+65536^k*(65536*((o.getD k 0+c)/65536)):=by rw[<-zSb,<-e2]
     rw[zSb] at e3;rw[znb,z2a];omega) (λs hJ=>by
    obtain⟨o,c,rfl,q1,q2,q3,q4,q5⟩:=hJ;exact⟨_,aa af (aa ae (az (by show ¬ ((M:Int)<((ah o).length:Int));rw[am];omega) rfl)),o,rfl,q1,KZ λj hj=>q2 j (by omega),c,q5⟩)
  obtain⟨c,p4⟩:=p3;refine⟨[I ((i+1:Nat):Int),.sl (ah out2)],?_,out2,rfl,p1,p2,?_⟩
  ·refine aa (z:=ah a) rfl (aa af (aa ae (aC (by show(i:Int)<((ah a).length:Int);rw[am];omega) ?_)))
   refine aa h1 (aa h2 ?_);exact aa (av (aw (i:=i) (by omega))) rfl
  ·have hval:a8 out1=vt a (i+1)*a8 b:=by
    rw[o3,hv,vt,zZa,zGa (a.getD i 0) (65536^i),z2a]
   have hlt:vt a (i+1)*a8 b<65536^M:=by
    have l1:=uj ha (i+1);have l2:=ko hb;have l3:vt a (i+1)*a8 b<65536^(i+1)*65536^b.length:=zSc l1 l2;have l4:65536^(i+1)*65536^b.length<=65536^M:=by rw[<-zab];exact zva (by decide) (by omega)
    omega
   have hc:c=0:=by
    rcases zrb c with h|h
    ·exact h
    ·have:65536^M*1<=65536^M*c:=zXa _ h;omega
   subst hc;rw[<-hval,<-p4];simp
 ·obtain⟨out,rfl,ho,hdo,hv⟩:=hJ;refine⟨(0,[.sl (ah out)]),aa (z:=ah a) rfl (aa af (aa ae (az (by show ¬ ((a.length:Int)<((ah a).length:Int));rw[am];omega) rfl))),?_⟩
  refine aa (yq n (l:=out) (by omega)) ?_
  rw[gQ hdo,hv,lZ]
def NO(n:Nat)(x:Int):cA (n+1) 145 [I x]=some (.bool (decide (x<2147483648)&&decide (x>-2147483648))):=by
 rw[V2]
 delta HV qB qC Jn
 refine aa af (aa ae ?_);cases h:decide (x<2147483648)
 ·rfl
 ·rw[if_pos rfl];exact aa (aa bP rfl) rfl
def xK(x y:Int):sgn (!(decide (decide (x<0)=decide (y<0)))) (x.natAbs*y.natAbs)=x*y:=by
 unfold sgn;rw[<-zFa];by_cases hx:x<0<;>by_cases hy:y<0
 ·have:=zoc hx hy;simp[hx,hy];omega
 ·have:=Int.mul_nonpos_of_nonpos_of_nonneg (zRa hx) (zkc.1 hy);simp[hx,hy];omega
 ·have:=Int.mul_nonpos_of_nonneg_of_nonpos (zkc.1 hx) (zRa hy);simp[hx,hy];omega
 ·have:=zZb (zkc.1 hx) (zkc.1 hy);simp[hx,hy];omega
def Ng(n:Nat){x y:Int}(hx:Wd x)(hy:Wd y):cA (n+4) 89 [aj x,aj y]=some (aj (x*y)):=by
 rw[XR]
 delta Nw qG qB qT qN
 refine aa (sv n hx) (aa (z:=I x) rfl (aa (z:=.bool true) rfl (aa (sv n hy) (aa (z:=I y) rfl (aa (z:=.bool true) rfl (aa (z:=true) rfl (aa (z:=true) rfl (aa (z:=true) rfl ?_))))))));refine aa (z:=(decide (x<2147483648)&&decide (x>-2147483648))) (by rw[if_pos rfl];exact aa (NO (n+2) x) rfl) (aa ae ?_)
 refine aa (z:=((decide (x<2147483648)&&decide (x>-2147483648))&&(decide (y<2147483648)&&decide (y>-2147483648)))) (by
  cases (decide (x<2147483648)&&decide (x>-2147483648))
  ·rfl
  ·rw[if_pos rfl];exact aa (NO (n+2) y) rfl) (aa ae ?_)
 cases hb:((decide (x<2147483648)&&decide (x>-2147483648))&&(decide (y<2147483648)&&decide (y>-2147483648)))
 ·rw[if_neg (by decide)]
  refine aa (uw (n+1) hx.In) (aa bg (aa ae (aa (z:=false) ?_ (aa ae ?_))))
  ·rw[if_neg (by decide)];exact aa (uw (n+1) hy.In) rfl
  ·rw[if_neg (by decide)]
   have lx:=bC 32 _ hx.In;have ly:=bC 32 _ hy.In;refine aa (z:=.bool (decide (x<0))) rfl (aa (z:=.bool (decide (y<0))) rfl (aa (Al (n+1) hx.In) (aa (Al (n+1) hy.In) (aa (LY (n+1) (a7 _) (a7 _) (by omega) (by omega)) (aa (z:=aj (x*y)) ?_ rfl)))))
   rw[ar,ar];have hxy:x.natAbs*y.natAbs<65536^8:=by
    have e:(65536:Nat)^8=18446744073709551616*18446744073709551616:=by decide
    rw[e];unfold Wd at hx hy;exact zSc (by omega) (by omega)
   have l8:=bC 8 _ hxy;have h32:x.natAbs*y.natAbs<65536^32:=zPa hxy (zva (by decide) (by decide))
   have:=KY (n+1) (l:=aG (x.natAbs*y.natAbs)) (neg:=!(decide (decide (x<0)=decide (y<0)))) (a7 _) (by omega) (by rw[ar];exact h32)
   rw[ar,xK] at this;rw[<-this];congr 4
 ·rw[if_pos rfl];simp only[zaa,decide_eq_true_eq] at hb;have:=fQ (A:=2147483648) (B:=2147483648) (a:=x) (b:=y) (by omega) (by omega)
  have hr:inR (x*y):=by simp only[inR];omega
  exact aa (bY hr) (aa (Av n hr) rfl)
def PT(n:Nat){x y:Int}(hx:Wd x)(hy:Wd y):cA (n+4) 59 [aj x,aj y]=some (aj (x+y)):=by
 rw[XN]
 delta Ns qG qB qT qN
 refine aa (sv n hx) (aa (z:=I x) rfl (aa (z:=.bool true) rfl (aa (sv n hy) (aa (z:=I y) rfl (aa (z:=.bool true) rfl (aa (z:=true) rfl (aa (z:=true) rfl (aa (z:=true) rfl ?_))))))));rw[if_pos rfl];have hr:inR (x+y):=by unfold Wd at hx hy;simp only[inR];omega
 exact aa (av hr) (aa (Av n hr) rfl)
def Xz(n:Nat){A B:Int}{u v:V}(hu:bd A u)(hv:bd B v)(hA:A<=4611686018427387903)(hB:B<=4611686018427387903)(h:3*(A*B)<=4611686018427387903):cA (n+6) 33 [ag u,ag v]=some (aj (V.dot u v)):=by
 have w:∀ {K:Int} {x:Int},K<=4611686018427387903->-K<=x/\x<=K->Wd x/\inR x:=λh1 h2=>by unfold Wd;simp only[inR];omega
 have ux:=w hA hu.1;have uy:=w hA hu.2.1;have uz:=w hA hu.2.2;have vx:=w hB hv.1;have vy:=w hB hv.2.1;have vz:=w hB hv.2.2;have mx:=fQ hu.1 hv.1;have my:=fQ hu.2.1 hv.2.1;have mz:=fQ hu.2.2 hv.2.2;have hAB:0<=A*B:=by omega
 rw[ZX];unfold Pe;refine aa (Oc (n+1) ux.2 uy.2 uz.2) (aa (Oc (n+1) vx.2 vy.2 vz.2) (aa (z:=aj (V.dot u v)) ?_ rfl));rw[u79]
 delta PC qG
 refine aa (z:=aj u.x) rfl (aa (z:=aj v.x) rfl (aa (Ng n ux.1 vx.1) (aa (z:=aj u.y) rfl (aa (z:=aj v.y) rfl (aa (Ng n uy.1 vy.1) ?_)))));refine aa (PT n (w (K:=A*B) (by omega) mx).1 (w (K:=A*B) (by omega) my).1) (aa (z:=aj u.z) rfl (aa (z:=aj v.z) rfl (aa (Ng n uz.1 vz.1) ?_)))
 refine aa (PT n ?_ (w (K:=A*B) (by omega) mz).1) rfl
 unfold Wd;omega
end Sy
end
noncomputable section
open Go
def nf(n:Nat):Nat:=2^(32*n)
def dh(n:Nat):nf n=2^(32*n):=rfl
attribute [irreducible] nf
def eP:Nat:=nf 16
def gB:eP=nf 16:=rfl
attribute [irreducible] eP
def nL{a b:Nat}(h:a<=b):nf a<=nf b:=by rw[dh,dh];exact zva (by omega) (by omega)
def wq:nf 2=18446744073709551616:=by rw[dh]
def Eo(n:Nat):0<nf n:=by rw[dh];exact zta _
def fR:0<eP:=gB ▸ Eo 16
def xM{n:Nat}(h:n<18446744073709551616):n<eP:=by
 rw[gB];rw[<-wq] at h;exact zPa h (nL (by omega))
def bz(X k:Nat):Int:=((X/2^(32*k)%2^32:Nat):Int)
def nr(X k:Nat):bz X k<=4294967295:=by
 unfold bz;have:=zUa (X/2^(32*k)) (show 0<2^32 by decide);omega
def sO(X k:Nat):bz X k<4294967296:=by
 unfold bz;have:=zUa (X/2^(32*k)) (show 0<2^32 by decide);omega
def cm(X k:Nat):0<=bz X k:=by unfold bz;exact Int.natCast_nonneg _
def D1(a b:Nat)(h:a<=b):2^b=2^a*2^(b-a):=by rw[<-zab];congr 1;omega
def jh(X k j:Nat):bz (X%2^(32*k)) j=if j<k then bz X j else 0:=by
 unfold bz;split
 ·rename_i h;congr 1;rw[D1 (32*j) (32*k) (by omega),Nat.mod_mul_right_div_self,show 32*k-32*j=32+(32*k-32*j-32) from by omega,zab,Nat.mod_mul_right_mod]
 ·rename_i h;rw[z1a]
  ·simp
  ·exact zPa (zUa _ (zta _)) (zva (by decide) (by omega))
def xg(n:Nat):∀ (X Y:Nat),X<2^(32*n)->Y<2^(32*n)->(∀ k,k<n->bz X k=bz Y k)->X=Y:=by
 induction n with
 | zero=>intro X Y hX hY _;simp at hX hY;omega
 | succ n ih=>
  intro X Y hX hY h;have hs:∀ Z:Nat,Z=Z%2^(32*n)+2^(32*n)*(Z/2^(32*n)):=λZ=>by have:=Nat.mod_add_div Z (2^(32*n));omega
  have hm:X%2^(32*n)=Y%2^(32*n):=by
   refine ih _ _ (zUa _ (zta _)) (zUa _ (zta _)) λk hk=>?_;rw[jh,jh,if_pos hk,if_pos hk];exact h k (by omega)
  have hd:X/2^(32*n)=Y/2^(32*n):=by
   have h1:=h n (by omega)
   unfold bz at h1;have e:∀ Z,Z<2^(32*(n+1))->Z/2^(32*n)<2^32:=λZ hZ=>by
    rw[zWa (zta _),<-zab,show 32+32*n=32*(n+1) from by omega];exact hZ
   rw[zHa (e X hX),zHa (e Y hY)] at h1;exact Int.ofNat.inj h1
  rw[hs X,hs Y,hm,hd]
def DF{X Y:Nat}(hX:X<eP)(hY:Y<eP)(h:∀ k,k<16->bz X k=bz Y k):X=Y:=by
 rw[gB,dh] at hX hY;exact xg 16 X Y hX hY h
def uM(s V Z j:Nat):Int:=if j<s then bz V j else bz Z j
def vF(s V Z:Nat):uM s V Z s=bz Z s:=by unfold uM;rw[if_neg (Nat.lt_irrefl s)]
def fh(X Y k:Nat):Nat:=(X%2^(32*k)+Y%2^(32*k))/2^(32*k)
def mg(X Y k:Nat):fh X Y k<=1:=by
 unfold fh;have h:=zta (32*k);have h1:=zUa X h;have h2:=zUa Y h;have:(X%2^(32*k)+Y%2^(32*k))/2^(32*k)<2:=(zWa h).2 (by omega)
 omega
def qz(X Y:Nat):fh X Y 0=0:=by simp[fh,zed]
def iP(X k:Nat):X=X%2^(32*k)+2^(32*k)*(X/2^(32*k)):=by have:=Nat.mod_add_div X (2^(32*k));omega
def cU(k:Nat):2^(32*(k+1))=2^(32*k)*4294967296:=by rw[show 32*(k+1)=32*k+32 from by omega,zab]
def er(X k:Nat):X%2^(32*(k+1))=X%2^(32*k)+2^(32*k)*(X/2^(32*k)%4294967296):=by rw[cU,Nat.mod_mul]
def qy(X Y k:Nat):((fh X Y (k+1):Nat):Int)=((fh X Y k:Nat)+(bz X k+bz Y k))/4294967296:=by
 unfold fh bz;have hp:=zta (32*k);rw[er,er,cU,<-zYa];generalize 2^(32*k)=p at *;have:(X%p+p*(X/p%4294967296)+(Y%p+p*(Y/p%4294967296)))/p=(X%p+Y%p)/p+(X/p%4294967296+Y/p%4294967296):=by
  rw[show X%p+p*(X/p%4294967296)+(Y%p+p*(Y/p%4294967296))=(X%p+Y%p)+p*(X/p%4294967296+Y/p%4294967296) from by rw[zSb];omega,zKb _ _ hp]
 rw[this];simp only[show(2:Nat)^32=4294967296 from rfl];omega
def B9(X Y k:Nat):bz (X+Y) k=((fh X Y k:Nat)+(bz X k+bz Y k))%4294967296:=by
 unfold fh bz;have hp:=zta (32*k);have hx:=iP X k;have hy:=iP Y k;generalize 2^(32*k)=p at *;have:(X+Y)/p=(X%p+Y%p)/p+(X/p+Y/p):=by
  rw[show X+Y=(X%p+Y%p)+p*(X/p+Y/p) from by rw[zSb];omega,zKb _ _ hp]
 rw[this];simp only[show(2:Nat)^32=4294967296 from rfl];omega
def zC:2^(32*16)=eP:=by rw[gB,dh 16]
def Dm{X Y:Nat}(hX:X<eP)(hY:Y<eP):fh X Y 16=if X+Y<eP then 0 else 1:=by
 have h:=mg X Y 16;unfold fh at *;rw[zC,zHa hX,zHa hY] at *;split
 ·rw[z1a (by assumption)]
 ·have:1<=(X+Y)/eP:=(z0b fR).2 (by omega)
  omega
def bO(X Y k:Nat):Nat:=if X%2^(32*k)<Y%2^(32*k) then 1 else 0
def ss(X Y k:Nat):bO X Y k<=1:=by unfold bO;split<;>omega
def nY(X Y:Nat):bO X Y 0=0:=by simp[bO,zed]
def nX(X Y k:Nat):((bO X Y (k+1):Nat):Int)=if bz X k-bz Y k-(bO X Y k:Nat)<0 then 1 else 0:=by
 unfold bO bz;have hp:=zta (32*k);rw[er,er];have h1:=zUa X hp;have h2:=zUa Y hp;simp only[show(2:Nat)^32=4294967296 from rfl];generalize 2^(32*k)=p at *;generalize X/p%4294967296=a;generalize Y/p%4294967296=b;generalize X%p=x at *;generalize Y%p=y at *;rcases zod a b with h|h|h
 ·have:p*a+p<=p*b:=by rw[<-zBd];exact zXa _ h
  rw[if_pos (by omega)]
  split<;>rw[if_pos (by omega)]<;>rfl
 ·subst h;by_cases h3:x<y
  ·rw[if_pos (by omega),if_pos h3,if_pos (by omega)];rfl
  ·rw[if_neg (by omega),if_neg h3,if_neg (by omega)];rfl
 ·have:p*b+p<=p*a:=by rw[<-zBd];exact zXa _ h
  rw[if_neg (by omega)]
  split<;>rw[if_neg (by omega)]<;>rfl
def Cb{X Y:Nat}(h:Y<=X)(k:Nat):bz (X-Y) k=(bz X k-bz Y k-(bO X Y k:Nat))%4294967296:=by
 unfold bO bz;have hp:=zta (32*k);have hx:=iP X k;have hy:=iP Y k;have h1:=zUa X hp;have h2:=zUa Y hp;simp only[show(2:Nat)^32=4294967296 from rfl];generalize 2^(32*k)=p at *;have hle:Y/p<=X/p:=Nat.div_le_div_right h;generalize hxq:X/p=a at *;generalize hyq:Y/p=b at *;generalize hxr:X%p=x at *;generalize hyr:Y%p=y at *;by_cases h3:x<y
 ·have hab:b<a:=by
   rcases zqa b a with h'|h'
   ·exact h'
   ·have:a=b:=by omega
    subst this;omega
  have e:X-Y=(x+p-y)+p*(a-b-1):=by
   rw[hx,hy,Nat.mul_sub,Nat.mul_sub];have:p*b+p<=p*a:=by rw[<-zBd];exact zXa _ hab
   omega
  rw[e,zKb _ _ hp,z1a (by omega),if_pos h3]
  omega
 ·have e:X-Y=(x-y)+p*(a-b):=by
   rw[hx,hy,Nat.mul_sub];have:p*b<=p*a:=zXa _ hle;omega
  rw[e,zKb _ _ hp,z1a (by omega),if_neg h3]
  omega
def rB(a b:Int)(c:Nat)(a0:0<=a)(a1:a<=4294967295)(b0:0<=b)(b1:b<=4294967295)(hc:c<=1) :
  IntKind.u64.wrap (IntKind.u64.wrap (a-b)-(c:Int))/9223372036854775808=(if a-b-(c:Int)<0 then 1 else 0) ∧
  IntKind.u64.wrap (IntKind.u64.wrap (a-b)-(c:Int))%4294967296=(a-b-(c:Int))%4294967296:=by
 have e:∀ n:Int,IntKind.u64.wrap n=n%18446744073709551616:=λn=>rfl;rw[e,e];constructor
 ·split<;>omega
 ·omega
def gu(X:Nat):Nat->Nat
 | 0=>0
 | k+1=>if 2^(32*k)<=X then k+1 else gu X k
def cE(X:Nat):Nat:=gu X 16
def DP(X k:Nat):gu X k<=k:=by
 induction k with
 | zero=>exact zja _
 | succ k ih=>unfold gu;split<;>omega
def A6(X k:Nat)(h:gu X k≠0):2^(32*(gu X k-1))<=X:=by
 induction k with
 | zero=>exact absurd rfl h
 | succ k ih=>
  by_cases h1:2^(32*k)<=X
  ·simp only[gu,if_pos h1] at *;simpa using h1
  ·simp only[gu,if_neg h1] at *;exact ih h
def zu(X k:Nat)(h:X<2^(32*k)):X<2^(32*gu X k):=by
 induction k with
 | zero=>exact h
 | succ k ih=>
  unfold gu;split
  ·exact h
  ·exact ih (by omega)
def jV(X:Nat):cE X<=16:=DP X 16
def eu{X:Nat}(h:X<eP):X<2^(32*cE X):=zu X 16 (by rw[gB,dh] at h;exact h)
def nG{X:Nat}(h:cE X≠0):2^(32*(cE X-1))<=X:=A6 X 16 h
def wU{X k:Nat}(h:X<2^(32*(k+1))):bz X k=0↔X<2^(32*k):=by
 unfold bz;have hp:=zta (32*k);have h2:X/2^(32*k)<2^32:=by rw[zWa hp,<-zab,show 32+32*k=32*(k+1) from by omega];exact h
 rw[zHa h2];constructor
 ·intro h3;have h3':X/2^(32*k)=0:=by omega
  rcases(Nat.div_eq_zero_iff).1 h3' with h4|h4
  ·omega
  ·exact h4
 ·intro h3;rw[z1a h3];rfl
def sgn(a b:Nat):Int:=if a<b then -1 else if b<a then 1 else 0
def jz(X Y k:Nat):Prop:=X/2^(32*k)=Y/2^(32*k)
def Dy{X Y:Nat}(hX:X<eP)(hY:Y<eP):jz X Y 16:=by
 unfold jz;rw[gB,dh] at hX hY;rw[z1a hX,z1a hY]
def mq(X k:Nat):X/2^(32*k)=X/2^(32*(k+1))*4294967296+(X/2^(32*k))%4294967296:=by
 rw[cU,<-zYa];omega
def yZ{X Y k:Nat}(h:jz X Y (k+1))(hd:bz X k=bz Y k):jz X Y k:=by
 unfold jz bz at *;rw[mq X k,mq Y k,h];simp only[show(2:Nat)^32=4294967296 from rfl] at hd;omega
def zS{X Y k:Nat}(h:jz X Y (k+1))(hd:bz X k≠bz Y k):sgn X Y=if bz X k<bz Y k then -1 else 1:=by
 unfold jz bz at *;have hx:=mq X k;have hy:=mq Y k;have hp:=zta (32*k);have sx:=iP X k;have sy:=iP Y k;have h1:=zUa X hp;have h2:=zUa Y hp;simp only[show(2:Nat)^32=4294967296 from rfl] at hd ⊢;generalize 2^(32*k)=p at *;unfold sgn;by_cases hlt:X/p<Y/p
 ·have:p*(X/p)+p<=p*(Y/p):=by rw[<-zBd];exact zXa _ hlt
  rw[if_pos (by omega),if_pos (by omega)]
 ·have hgt:Y/p<X/p:=by omega
  have:p*(Y/p)+p<=p*(X/p):=by rw[<-zBd];exact zXa _ hgt
  rw[if_neg (by omega),if_pos (by omega),if_neg (by omega)]
def Ef{X Y:Nat}(h:jz X Y 0):sgn X Y=0:=by
 have:X=Y:=by simpa [jz] using h
 subst this;simp[sgn]
def cH(X k:Nat):bz X k=((X/2^(32*k)%4294967296:Nat):Int):=rfl
def fI{X n k:Nat}(h:X<2^(32*n))(hk:n<=k):bz X k=0:=by
 rw[cH,z1a (zPa h (zva (by omega) (by omega)))];rfl
def km(X c s j:Nat)(h:j<s):bz (X+c*2^(32*s)) j=bz X j:=by
 rw[cH,cH];congr 1;rw[show 32*s=32*j+(32+32*(s-j-1)) from by omega,zab,zab,show c*(2^(32*j)*(2^32*2^(32*(s-j-1))))=2^(32*j)*(4294967296*(c*2^(32*(s-j-1)))) from by
  rw[show(2:Nat)^32=4294967296 from rfl];ac_rfl,zKb _ _ (zta _),zjd]
def fE(A B i:Nat):Nat:=A%2^(32*i)*B
def nE(A B i k:Nat):Nat:=fE A B i+(A/2^(32*i)%4294967296)*(B%2^(32*k))*2^(32*i)
def oJ(A B i k:Nat):Nat:=nE A B i k/2^(32*(i+k))-fE A B i/2^(32*(i+k))
def xo(A B i k:Nat):Nat->Int:=uM (i+k) (nE A B i k) (fE A B i)
def vL(A B i:Nat):nE A B i 0=fE A B i:=by simp[nE,zed]
def vH(A B i:Nat):oJ A B i 0=0:=by simp[oJ,vL]
def DN(A B i:Nat):xo A B i 0=bz (fE A B i):=by
 funext j;simp[xo,vL,uM]
def vK(A B i k:Nat):nE A B i (k+1)=nE A B i k+(A/2^(32*i)%4294967296)*(B/2^(32*k)%4294967296)*2^(32*(i+k)):=by
 unfold nE;rw[er,show 32*(i+k)=32*i+32*k from by omega,zab,zSb,zZa,zBb]
 congr 2
 ac_rfl
def J8(A B i k:Nat):fE A B i<=nE A B i k:=zjc _ _
def xm(A B i k:Nat):oJ A B i k+fE A B i/2^(32*(i+k))=nE A B i k/2^(32*(i+k)):=by
 unfold oJ;have:=Nat.div_le_div_right (c:=2^(32*(i+k))) (J8 A B i k);omega
def zq(A B i k:Nat):nE A B i (k+1)/2^(32*(i+k))=oJ A B i k+fE A B i/2^(32*(i+k))+(A/2^(32*i)%4294967296)*(B/2^(32*k)%4294967296):=by
 rw[vK,z7c _ _ (zta _),xm]
def tN(A B i k:Nat):oJ A B i (k+1)=(oJ A B i k+((A/2^(32*i)%4294967296)*(B/2^(32*k)%4294967296)+fE A B i/2^(32*(i+k))%4294967296))/4294967296:=by
 have h1:=xm A B i (k+1);have h2:=zq A B i k;have e:∀ X,X/2^(32*(i+(k+1)))=X/2^(32*(i+k))/4294967296:=λX=>by
  rw[show i+(k+1)=i+k+1 from by omega,cU,zYa]
 rw[e,e,h2] at h1;generalize A/2^(32*i)%4294967296*(B/2^(32*k)%4294967296)=p at *;generalize fE A B i/2^(32*(i+k))=z at *;omega
def uZ(a p q z c:Nat):(((a+(p*q+z))/c:Nat):Int)=((a:Int)+((p:Int)*q+z))/(c:Int):=by push_cast;rfl
def sD(a p q z c:Nat):(((a+(p*q+z))%c:Nat):Int)=((a:Int)+((p:Int)*q+z))%(c:Int):=by push_cast;rfl
def DJ(A B i k:Nat):((oJ A B i (k+1):Nat):Int)=((oJ A B i k:Nat)+(bz A i*bz B k+bz (fE A B i) (i+k)))/4294967296:=by
 rw[tN,cH,cH,cH];exact uZ _ _ _ _ 4294967296
def xn(A B i k:Nat):oJ A B i k<=4294967295:=by
 induction k with
 | zero=>rw[vH];omega
 | succ k ih=>
  rw[tN];have h1:A/2^(32*i)%4294967296<=4294967295:=by have:=zUa (A/2^(32*i)) (show 0<4294967296 by omega);omega
  have h2:B/2^(32*k)%4294967296<=4294967295:=by have:=zUa (B/2^(32*k)) (show 0<4294967296 by omega);omega
  have h3:=zVa h1 h2;have h4:=zUa (fE A B i/2^(32*(i+k))) (show 0<4294967296 by omega)
  omega
def DL(A B i k:Nat):xo A B i k (i+k)=bz (fE A B i) (i+k):=vF _ _ _
def F6(A B i k:Nat):bz (nE A B i (k+1)) (i+k)=((oJ A B i k:Nat)+(bz A i*bz B k+bz (fE A B i) (i+k)))%4294967296:=by
 rw[cH (nE _ _ _ _),zq,cH,cH,cH];refine Eq.trans (congrArg Nat.cast ?_) (sD _ _ _ _ 4294967296);generalize A/2^(32*i)%4294967296*(B/2^(32*k)%4294967296)=p;generalize fE A B i/2^(32*(i+k))=z;omega
def vM{A B i m:Nat}(hB:B<2^(32*m)):fE A B (i+1)=nE A B i m:=by
 unfold fE nE fE;rw[er,zHa hB,zZa];congr 1;ac_rfl
def CH{A B i m:Nat}(hB:B<2^(32*m)):fE A B i<2^(32*(i+m)):=by
 unfold fE;rw[show 32*(i+m)=32*i+32*m from by omega,zab]
 exact zSc (zUa _ (zta _)) hB
def DO(A B:Nat):fE A B 0=0:=by simp[fE,zed]
def F7{A B n:Nat}(hA:A<2^(32*n)):fE A B n=A*B:=by unfold fE;rw[zHa hA]
def n8(k:Nat):bz 0 k=0:=by simp[bz]
def kn(X a k:Nat):bz (X/2^(32*a)) k=bz X (a+k):=by
 rw[cH,cH,zYa,<-zab,zSb]
def yD(X a k:Nat):bz (X/nf a) k=bz X (a+k):=by rw[dh,kn]
def FY(a b D c:Nat):(a+b*D)%c=(a+b%c*D)%c:=by
 have h:b*D%c=b%c*D%c:=by rw[Nat.mul_mod b D c,Nat.mul_mod (b%c) D c,Nat.mod_mod b c]
 rw[Nat.add_mod,h,<-Nat.add_mod]
def gq(X D k:Nat):Nat:=X%2^(32*k)*D/2^(32*k)
def vJ(X D:Nat):gq X D 0=0:=by simp[gq,zed]
def xp(X k:Nat){D:Nat}(h:0<D):gq X D k<D:=by
 unfold gq;rw[zWa (zta _),zGa D];exact zvb (zUa _ (zta _)) h
def A3(X D k:Nat):gq X D (k+1)=(gq X D k+X/2^(32*k)%4294967296*D)/4294967296:=by
 unfold gq;rw[er,cU,<-zYa,zZa,z2a,zKb _ _ (zta _)]
def vI(X D k:Nat):((gq X D (k+1):Nat):Int)=((gq X D k:Nat)+bz X k*(D:Nat))/4294967296:=by
 have h:=uZ (gq X D k) (X/2^(32*k)%4294967296) D 0 4294967296;simp only[z2b,Int.add_zero,Int.natCast_zero,Int.cast_ofNat_Int] at h;rw[A3,cH];exact h
def zp(X D k:Nat):bz (X*D) k=((gq X D k:Nat)+bz X k*(D:Nat))%4294967296:=by
 have h:=sD (gq X D k) (X/2^(32*k)%4294967296) D 0 4294967296;simp only[z2b,Int.add_zero,Int.natCast_zero,Int.cast_ofNat_Int] at h;rw[cH,cH];refine Eq.trans (congrArg Nat.cast ?_) h;have e:X*D/2^(32*k)=gq X D k+X/2^(32*k)*D:=by
  unfold gq;rw[<-zKb _ _ (zta (32*k)),<-z2a,<-zZa,<-iP]
 rw[e,FY]
def F5{X D:Nat}(h:X<eP):gq X D 16=X*D/eP:=by
 unfold gq;rw[zC,zHa h]
def Fl(X n k:Nat)(hn:n<=32):bz (X/2^n) k=(bz X (k+1)*4294967296+bz X k)/((2^n:Nat):Int)%4294967296:=by
 rw[cH,cH,cH,cU,<-zYa,zYa,zGa (2^n),<-zYa];generalize X/2^(32*k)=Y;have e:(((Y/4294967296%4294967296:Nat):Int)*4294967296+((Y%4294967296:Nat):Int))=((Y%(2^n*(2^(32-n)*4294967296)):Nat):Int):=by
  rw[<-z2a,<-zab,show n+(32-n)=32 from by omega,show(2:Nat)^32=4294967296 from rfl]
  omega
 rw[e,<-zyd,Nat.mod_mul_right_div_self];generalize Y/2^n=Z;have h:Z%4294967296=Z%(2^(32-n)*4294967296)%4294967296:=(Nat.mod_mul_left_mod _ _ _).symm;rw[h];exact Int.natCast_emod _ 4294967296
def vC(X k j:Nat):bz (X/2^(32*k)*2^(32*k)) j=if j<k then 0 else bz X j:=by
 have h:=km 0 (X/2^(32*k)) k j;by_cases hj:j<k
 ·rw[if_pos hj];rw[z9a] at h;rw[h hj,n8]
 ·rw[if_neg hj,show j=k+(j-k) from by omega,<-kn,Nat.mul_div_cancel _ (zta _),kn]
def eZ(X b k:Nat):Nat:=X/2^(32*k)%b
def zK(X k:Nat){b:Nat}(h:0<b):eZ X b k<b:=zUa _ h
def sR(X k:Nat):X/2^(32*k)=X/2^(32*(k+1))*4294967296+X/2^(32*k)%4294967296:=by
 rw[cU,<-zYa];omega
def Bl(X b k:Nat):eZ X b k=(eZ X b (k+1)*4294967296+X/2^(32*k)%4294967296)%b:=by
 unfold eZ
 conv=>lhs;rw[sR X k]
 rw[zGc,FY,zGc]
def Eg(X k:Nat){b:Nat}(hb:0<b)(h:b<=4294967295):X/b/2^(32*k)%4294967296=(eZ X b (k+1)*4294967296+X/2^(32*k)%4294967296)/b:=by
 have e:X/b/2^(32*k)=X/2^(32*(k+1))/b*4294967296+(eZ X b (k+1)*4294967296+X/2^(32*k)%4294967296)/b:=by
  rw[zYa,zGa,<-zYa]
  conv=>lhs;rw[sR X k]
  unfold eZ;generalize X/2^(32*(k+1))=Y;generalize X/2^(32*k)%4294967296=z
  conv=>lhs;rw[show Y*4294967296+z=b*(Y/b*4294967296)+(Y%b*4294967296+z) from by
   have:=z1b Y b
   conv=>lhs;rw[<-this]
   rw[zZa,z2a];omega]
  rw[Nat.mul_add_div hb]
 have hlt:(eZ X b (k+1)*4294967296+X/2^(32*k)%4294967296)/b<4294967296:=by
  rw[zWa hb];have h1:=zK X (k+1) hb;have h2:=zUa (X/2^(32*k)) (show 0<4294967296 by omega)
  have h3:(eZ X b (k+1)+1)*4294967296<=b*4294967296:=zya _ h1;omega
 rw[e,zGa (_/b),Nat.mul_add_mod,zHa hlt]
def Eb(X b:Nat):eZ X b 0=X%b:=by simp[eZ]
structure Heads(W V P T F u v:Nat):Prop where
 w:W/P=T*4294967296+u
 d:V/P=F*4294967296+v
 u:u<4294967296
 v:v<4294967296
 one:1<=F
 pos:0<P
 lt:W<V*4294967296
variable{W V P T F u v:Nat}
def Heads.key{d r:Nat}(h:d*F+r=T):d*(F*4294967296+v)+r*4294967296=T*4294967296+d*v:=by
 rw[<-h,zSb,zZa,z2a];omega
def Heads.vpos(H:Heads W V P T F u v):0<V:=by
 rcases zrb V with h|h
 ·have:=H.lt;rw[h] at this;omega
 ·exact h
def Heads.over(H:Heads W V P T F u v){d:Nat}(h:W/P<d*(V/P)):W/V<d:=by
 apply zPc;have h1:W<(W/P+1)*P:=by have:=z1b W P;have:=zUa W H.pos;rw[zZa,zGa (W/P)];omega
 have h2:(W/P+1)*P<=d*(V/P)*P:=zya _ h;have h3:d*(V/P)*P<=d*V:=by rw[z2a];exact zXa _ (zdc V P)
 rw[zGa V];omega
def Heads.under(H:Heads W V P T F u v){d:Nat}(h:d*(V/P)<=W/P)(hd:d<4294967296):d<=W/V+1:=by
 rcases zrb d with h0|h0
 ·rw[h0];exact zga _
 obtain⟨e,rfl⟩:∃ e,d=e+1:=⟨d-1,by omega⟩
 have hb:e<=V/P:=by rw[H.d];have h1:1*4294967296<=F*4294967296:=zya _ H.one;omega
 have:e<=W/V:=by
  rw[z0b H.vpos];have h1:V<=(V/P+1)*P:=by have:=z1b V P;have:=zUa V H.pos;rw[zZa,zGa (V/P)];omega
  have h2:e*V<=e*((V/P+1)*P):=zXa _ h1;have h3:e*((V/P+1)*P)<=(e+1)*(V/P)*P:=by
   rw[<-z2a];apply zya;rw[zSb,zZa];omega
  have h4:(e+1)*(V/P)*P<=W/P*P:=zya _ h;have h5:=zdc W P;omega
 exact Nat.succ_le_succ this
def Heads.q_lt(H:Heads W V P T F u v):W/V<4294967296:=zPc (by have:=H.lt;omega)
def Heads.start(H:Heads W V P T F u v):W/V<=T/F:=by
 have h1:W/V<T/F+1:=by
  apply H.over;rw[H.w,H.d];have h2:T<(T/F+1)*F:=by have:=z1b T F;have:=zUa T (show 0<F from H.one);rw[zZa,zGa (T/F)];omega
  have h3:(T+1)*4294967296<=(T/F+1)*F*4294967296:=zya _ h2;have h4:(T/F+1)*F*4294967296<=(T/F+1)*(F*4294967296+v):=by rw[z2a];exact zXa _ (zjc _ _)
  have h5:=H.u;exact zPa (by omega) (zCa h3 h4)
 exact Nat.le_of_lt_succ h1
def Heads.step_big(H:Heads W V P T F u v){d:Nat}(h:4294967296<=d):W/V<=d-1:=zDd (zPa H.q_lt h)
def GI{A B T r u c:Nat}(hk:A+r*c=T*c+B)(ht:r*c+u<B):T*c+u<A:=by omega
def Heads.step(H:Heads W V P T F u v){d r:Nat}(h:d*F+r=T)(ht:r*4294967296+u<d*v):W/V<=d-1/\1<=d:=by
 have h1:W/V<d:=by
  apply H.over;rw[H.w,H.d];exact GI (Heads.key (v:=v) h) ht
 exact⟨zDd h1,zJa (zga _) h1⟩
def Heads.t_lt(H:Heads W V P T F u v):T<(F+1)*4294967296:=by
 have h1:W/P*P<=W:=zdc W P;have h2:V<(V/P+1)*P:=by have:=z1b V P;have:=zUa V H.pos;rw[zZa,zGa (V/P)];omega
 have h3:V*4294967296<(V/P+1)*P*4294967296:=zvb h2 (by omega)
 have h4:=H.lt;have h5:W/P*P<(V/P+1)*4294967296*P:=by rw[Nat.mul_right_comm];omega
 have h6:W/P<(V/P+1)*4294967296:=Nat.lt_of_mul_lt_mul_right h5;rw[H.w,H.d] at h6;have h7:=H.v;rw[zZa];omega
def Heads.done(H:Heads W V P T F u v){d r:Nat}(h:d*F+r=T)(hr:4294967296<=r\/(d<4294967296/\d*v<=r*4294967296+u)):d<4294967296/\d<=W/V+1:=by
 have hd:d<4294967296:=by
  rcases hr with hr|hr
  ·have h1:=H.t_lt;rw[zZa,znc] at h1;have h2:d*F<4294967296*F:=by omega
   exact Nat.lt_of_mul_lt_mul_right h2
  ·exact hr.1
 refine⟨hd,H.under ?_ hd⟩;rw[H.w,H.d];have hk:=Heads.key (v:=v) h;rcases hr with hr|hr
 ·have h1:d*v<=4294967295*4294967295:=zVa (by omega) (by have:=H.v;omega)
  omega
 ·omega
def dg(X k:Nat):Nat:=X/2^(32*k)%4294967296
def pD(X k:Nat):bz X k=(dg X k:Nat):=rfl
def fk(X k:Nat):dg X k<4294967296:=zUa _ (by omega)
def B8(X k:Nat):dg X k<=4294967295:=Nat.le_of_lt_succ (fk X k)
def oc(X k:Nat):X/2^(32*k)=X/2^(32*(k+1))*4294967296+dg X k:=sR X k
def jL{X k:Nat}(h:X<2^(32*(k+1))):X/2^(32*k)=dg X k:=by
 rw[oc,z1a h,zAd,z9a]
def FF{U V e j:Nat}(hV:V<2^(32*(e+2)))(hV1:2^(32*(e+1))<=V)(hU:U/2^(32*j)<V*4294967296) :
  Heads (U/2^(32*j)) V (2^(32*e)) (dg U (j+e+2)*4294967296+dg U (j+e+1)) (dg V (e+1)) (dg U (j+e)) (dg V e):=by
 have hc:∀ k,U/2^(32*j)/2^(32*k)=U/2^(32*(j+k)):=λk=>by rw[zYa,<-zab,zSb]
 have hUl:U<2^(32*(j+e+2+1)):=by
  have h1:=(zWa (zta (32*j))).1 hU;have h2:V*4294967296*2^(32*j)<2^(32*(e+2))*4294967296*2^(32*j):=zvb (zvb hV (by omega)) (zta _)
  have h3:2^(32*(e+2))*4294967296*2^(32*j)=2^(32*(j+e+2+1)):=by
   rw[cU (j+e+2),show 32*(j+e+2)=32*j+32*(e+2) from by omega,zab,Nat.mul_right_comm,zGa (2^(32*(e+2))) (2^(32*j))]
  rw[<-h3];exact zbc h1 h2
 refine⟨?_,?_,fk _ _,fk _ _,?_,zta _,hU⟩
 ·rw[hc,oc,oc U (j+e+1),jL hUl]
 ·rw[oc,jL hV]
 ·rw[<-jL hV];exact(z0b (zta _)).2 (by rw[znc];exact hV1)
def MQ(U i k:Nat):dg U i*4294967296+dg U k<=18446744073709551615:=by
 have h1:=B8 U i;have h2:=B8 U k;omega
def AM{T F D R:Nat}(h:D*F+R=T)(hD:1<=D):(D-1)*F+(R+F)=T:=by
 obtain⟨E,rfl⟩:∃ E,D=E+1:=⟨D-1,by omega⟩
 rw[zZa,znc] at h;rw[Nat.add_sub_cancel];omega
def uC{X X' Y k:Nat}(h:X%2^(32*k)=X'%2^(32*k)):bO X Y k=bO X' Y k:=by unfold bO;rw[h]
def eY(U Z j:Nat):Nat:=U%2^(32*j)+Z*2^(32*j)
def DT{U Z j t:Nat}(h:t<j):bz (eY U Z j) t=bz U t:=by
 unfold eY;rw[km _ _ _ _ h,jh,if_pos h]
def A8(U Z j i:Nat):bz (eY U Z j) (j+i)=bz Z i:=by
 rw[<-kn];unfold eY;rw[z7c _ _ (zta _),z1a (zUa _ (zta _)),z9a]
def uR(U Z j i:Nat):Nat->Int:=uM (j+i) (eY U Z j) U
def wi(U Z j:Nat):uR U Z j 0=bz U:=by
 funext t;unfold uR uM;split
 ·rename_i h;exact DT (by omega)
 ·rfl
def mE(U Z j i:Nat):uR U Z j i (j+i)=bz U (j+i):=vF _ _ _
def me(W Y m:Nat):Nat:=(W+2^(32*m)-Y)%2^(32*m)
def Ez{W Y m i:Nat}(hi:i<m)(hY:Y<=2^(32*m)):bz (me W Y m) i=(bz W i-bz Y i-(bO W Y i:Nat))%4294967296:=by
 have hd:bz (W+2^(32*m)) i=bz W i:=by
  have:=km W 1 m i hi;rwa [znc] at this
 have hb:bO (W+2^(32*m)) Y i=bO W Y i:=uC (by
  rw[show 32*m=32*i+(32*m-32*i) from by omega,zab,zjd])
 unfold me;rw[jh,if_pos hi,Cb (by omega),hd,hb]
def G5(W Y m:Nat):me W Y m<2^(32*m):=zUa _ (zta _)
def yn{W Y m:Nat}(hW:W<2^(32*m))(hY:Y<2^(32*m)):bO W Y m=if W<Y then 1 else 0:=by
 unfold bO;rw[zHa hW,zHa hY]
def dT(N V j:Nat):Nat:=N/V%2^(32*j)*V+N%V
def Ea(N V:Nat):dT N V 0=N%V:=by simp[dT,zed]
def Bj{N V k:Nat}(h:N/V<2^(32*k)):dT N V k=N:=by
 unfold dT;rw[zHa h,zGa];exact z1b N V
def vX(N V j:Nat):dT N V (j+1)=dT N V j+dg (N/V) j*V*2^(32*j):=by
 unfold dT dg;rw[er];generalize N/V/2^(32*j)%4294967296=t;generalize 2^(32*j)=P;rw[zZa,show P*t*V=t*V*P from by rw[zGa P t,Nat.mul_right_comm]]
 omega
def xB{N V:Nat}(j:Nat)(h:0<V):dT N V j<V*2^(32*j):=by
 unfold dT;have h1:=zUa (N/V) (zta (32*j));have h2:=zUa N h;have h3:(N/V%2^(32*j)+1)*V<=2^(32*j)*V:=zya _ h1;rw[zZa,znc] at h3;rw[zGa V];omega
def oO{N V:Nat}(j:Nat)(h:0<V):dT N V j/2^(32*j)<V:=by
 rw[zWa (zta _)];exact xB j h
def qg(N V j:Nat):dT N V (j+1)/2^(32*j)=dT N V j/2^(32*j)+V*dg (N/V) j:=by
 rw[vX,z7c _ _ (zta _),zGa V]
def zJ(N V j:Nat):dT N V (j+1)%2^(32*j)=dT N V j%2^(32*j):=by
 rw[vX,Nat.add_mul_mod_self_right]
def Gx{N V:Nat}(j:Nat)(h:0<V):dT N V (j+1)/2^(32*j)/V=dg (N/V) j:=by
 rw[qg,zKb _ _ h,z1a (oO j h),z9a]
def Gy{N V:Nat}(j:Nat)(h:0<V):dT N V (j+1)/2^(32*j)<V*4294967296:=by
 rw[zWa (zta _),z2a,zGa 4294967296,<-cU];exact xB (j+1) h
def D9{N V n:Nat}(j:Nat)(h:0<V)(hV:V<2^(32*n)):dT N V (j+1)<2^(32*(j+n+1)):=by
 have h1:=xB (N:=N) (j+1) h;have h2:V*2^(32*(j+1))<2^(32*n)*2^(32*(j+1)):=zvb hV (zta _);rw[<-zab,show 32*n+32*(j+1)=32*(j+n+1) from by omega] at h2
 omega
def vU{U U' j:Nat}(h:U%2^(32*j)=U'%2^(32*j)):eY U (U'/2^(32*j)) j=U':=by
 unfold eY;rw[h,zGa (U'/2^(32*j)) (2^(32*j))];exact Nat.mod_add_div U' _
def DU(U Z j:Nat):eY U Z j%2^(32*j)=U%2^(32*j):=by
 unfold eY;rw[Nat.add_mul_mod_self_right,Nat.mod_mod]
def DS(U Z j:Nat):eY U Z j/2^(32*j)=Z:=by
 unfold eY;rw[z7c _ _ (zta _),z1a (zUa _ (zta _)),z9a]
def zz{U Z j m:Nat}(hZ:Z<2^(32*m)):eY U Z j<2^(32*(j+m)):=by
 have h1:eY U Z j<(Z+1)*2^(32*j):=by unfold eY;have:=zUa U (zta (32*j));rw[zZa];omega
 have h2:(Z+1)*2^(32*j)<=2^(32*m)*2^(32*j):=zya _ hZ;rw[<-zab,show 32*m+32*j=32*(j+m) from by omega] at h2
 omega
variable{N V n:Nat}
def np(hV:V<2^(32*n)):V<2^(32*(n+1)):=zPa hV (zva (by omega) (by omega))
def xX{x y B:Nat}(hx:x<B):(x+y+B-y)%B=x:=by
 rw[show x+y+B-y=x+B from by omega,Nat.add_mod_right,zHa hx]
def zM(j:Nat)(h:0<V)(hV:V<2^(32*n)) :
  eY (dT N V (j+1)) (me (dT N V (j+1)/2^(32*j)) (V*dg (N/V) j) (n+1)) j=dT N V j:=by
 have e:me (dT N V (j+1)/2^(32*j)) (V*dg (N/V) j) (n+1)=dT N V j/2^(32*j):=by
  unfold me;rw[qg];exact xX (zbc (oO j h) (np hV))
 rw[e,vU (zJ N V j)]
def EA(j:Nat)(h:0<V)(hV:V<2^(32*n)) :
  me (dT N V (j+1)/2^(32*j)) (V*(dg (N/V) j+1)) (n+1)=dT N V j/2^(32*j)+2^(32*(n+1))-V:=by
 have h1:=oO (N:=N) j h;have h2:=np hV;unfold me;rw[qg,zSb V (dg (N/V) j) 1,zud];generalize 2^(32*(n+1))=B at *;generalize dT N V j/2^(32*j)=x at *;generalize V*dg (N/V) j=y;rw[show x+y+B-(y+V)=x+B-V from by omega,zHa (by omega)]
def zN(j:Nat)(h:0<V)(hV:V<2^(32*n)){U1:Nat}(e1:U1=eY (dT N V (j+1)) (me (dT N V (j+1)/2^(32*j)) (V*(dg (N/V) j+1)) (n+1)) j) :
  eY U1 ((U1/2^(32*j)+V)%2^(32*(n+1))) j=dT N V j:=by
 have h1:=oO (N:=N) j h;have h2:=np hV;have e2:(U1/2^(32*j)+V)%2^(32*(n+1))=dT N V j/2^(32*j):=by
  rw[e1,DS,EA j h hV];generalize 2^(32*(n+1))=B at *;generalize dT N V j/2^(32*j)=x at *;rw[show x+B-V+V=x+B from by omega,Nat.add_mod_right,zHa (by omega)]
 rw[e2,vU (by rw[e1,DU,zJ])]
end
end Go.Proofs.YtpahompifldeeaaGreat
