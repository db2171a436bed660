/- Part 11 of the proof that For every valid body with few parts -/
import Derived.Test.YtpahompifldeeaaGreatQuads01
import Derived.Test.YtpahompifldeeaaGreatQuads10
set_option linter.unusedVariables false
set_option linter.unusedSimpArgs false
set_option linter.unnecessarySimpa false
set_option linter.defProp false
set_option maxRecDepth 20000
namespace Go.Proofs.YtpahompifldeeaaGreat
noncomputable section
namespace Sy
open Go Go.Proofs Geo
def ah(L:List Nat):List D:=L.map λ(k:Nat)=>I (k:Int)
def ao(L:List Nat):(ah L).length=L.length:=zta ..
def uS{L:List Nat}{t k:Nat}(h:L[t]?=some k):(ah L)[t]?=some (I (k:Int)):=by simp[ah,h]
def BR{n:Nat}(h:0<n):D.idx (D.int .i64 0) n=some 0:=ap (i:=0) h
theorem sT{m:V}{P:Nat->V}{a:Nat}:∀ (L:List Nat) (best:Option Nat) (b:Nat),L.foldl (c8 m P a) best=some b->b∈L\/best=some b
 | [],best,b,h=>.inr h
 | k::L,best,b,h=>by
  rw[zhc] at h;rcases sT L _ b h with h1|h1
  ·exact .inl (zha _ h1)
  ·unfold c8 at h1;split at h1
   ·exact .inr h1
   ·split at h1
    ·cases h1;exact .inl zka
    ·split at h1<;>cases h1
     ·exact .inl zka
     ·exact .inr rfl
theorem so{body:Bd}{S:Nat->Nat->Prop}{a:Nat}{G:Nat->Prop}(hS:∀ c b,G c->S c b->b≠a->G b)
  (hstep:∀ (c b:Nat) (out:List Nat),G c->c≠a->S c b->out.length<=1000->body [.sl (ah out),I (c:Int)]=some (.inl [.sl (ah (out++[c])),I (b:Int)]))
  (hend:∀ out:List Nat,body [.sl (ah out),I (a:Int)]=some (.inr (0,[.sl (ah out)]))) :
  ∀ {c:Nat} {p:List Nat},Chain S a c p->G c->c≠a->∀ out:List Nat,(out++p).length<=1000->aT body [.sl (ah out),I (c:Int)]=some (0,[.sl (ah (out++p))])
 | c,_,.done s,hc,hca,out,hl=>by
  have h1:=hstep c a out hc hca s (by simp at hl;omega)
  rw[show aT body [.sl (ah out),I (c:Int)]=aT body [.sl (ah (out++[c])),I (a:Int)] from dK h1];exact dt (hend _)
 | c,_,.step (y:=y) (l:=p) s hy k,hc,hca,out,hl=>by
  have h1:=hstep c y out hc hca s (by simp at hl;omega)
  rw[show aT body [.sl (ah out),I (c:Int)]=aT body [.sl (ah (out++[c])),I (y:Int)] from dK h1];have:=so hS hstep hend k (hS c y hc s hy) hy (out++[c]) (by simpa using hl)
  rw[this];simp
def kc{P:Nat->V}{i:Nat}{m:V}{d:Int}:br P (i+1) m d=if V.dot m (P i)=d then br P i m d++[i] else br P i m d:=by
 unfold br;rw[zGb,List.filter_append];by_cases h:V.dot m (P i)=d
 ·simp[h]
 ·simp[h]
def XS(n:Nat){l:List V}(hl:∀ x∈l,bd MV x)(hlen:l.length<=100)(hs:∀ i j,i<j->j<l.length->aF (pt l i) (pt l j)){m:V}{d:Int}(hF:IsF (pt l) l.length m d)(hm:bd 549755813888 m) :
  ∃ p,bE (pt l) l.length m d p/\cA (n+5) 46 [aS l,cm (m,d)]=some (.sl (ah p)):=by
 obtain⟨p,hp,hnd,hmem⟩:=hF.poly hs;refine⟨p,hp,?_⟩;have F:=hF.flat hs;obtain⟨a,ha1,ha,hea,hale,h3⟩:=hF.head hs;obtain⟨a',ha1',hch⟩:=hp;rw[ha1] at ha1';cases ha1';obtain⟨on,hon⟩:∃ on,br (pt l) l.length m d=on:=⟨_,rfl⟩;rw[hon] at F ha1 ha hea hale h3 hch hmem;have hlt:∀ k∈on,k<l.length:=λk hk=>by rw[<-hon] at hk;exact(aU.1 hk).1
 have hdk:∀ k∈on,V.dot m (pt l k)=d:=λk hk=>by rw[<-hon] at hk;exact(aU.1 hk).2
 have hw:∀ b∈on,∀ k∈on,V.dot m (wy (pt l) b k)=0:=λb hb k hk=>by rw[dn,hdk b hb,hdk k hk];omega
 have honl:on.length<=100:=by
  rw[<-hon];unfold br;exact zAa (zlc _ _) (by rw[zVb];exact hlen)
 have hpl:p.length<=on.length:=z5b hnd λz hz=>((hmem z).1 hz).1;have ll:(l.map af).length=l.length:=zta ..;have hcore:=λ(c k:Nat) (hc:c∈on) (hk:k∈on) (best:Option Nat) (hb:∀ b,best=some b->b∈on) (X:D)=>KI n hl (d:=d) hF.nz.1 (hlt c hc) (hlt k hk) (best:=best) (λb e=>⟨hlt b (hb b e),hw c hc b (hb b e)⟩) (hw c hc k hk) X;have hnx:∀ c∈on,Geo.ln (pt l) on c->∃ b,on.foldl (c8 m (pt l) c) none=some b/\Side m (pt l) on c b:=λc hc ec=>vA F hc ec (h3 c hc);obtain⟨t0,hon0⟩:∃ t0,on=a::t0:=by
  cases hx:on with
  | nil=>rw[hx] at ha;simp at ha
  | cons y t0=>rw[hx] at ha1;simp at ha1;subst ha1;exact⟨t0,rfl⟩
 have hget0:(ah on)[0]?=some (I (a:Int)):=by rw[hon0];rfl
 have hpos:0<(ah on).length:=by rw[ao,hon0];simp
 rw[X9]
 delta N5 qG qB qC qT qS qX qV qW qZ iL iR Jn
 refine aa (z:=l.map af) rfl ?_;refine bc (λi s=>s=[I (i:Int),.sl (ah (br (pt l) i m d))]) l.length 0 (zia _) rfl (λi hi s hJ=>?_) (λs hJ=>?_)
 ·subst hJ;left;refine⟨_,?_,rfl⟩;refine aa ag (aa ae ?_);refine aH (by show((i:Int)<((l.map af).length:Int));rw[ll];omega) ?_
  refine aa (z:=(0,[.sl (ah (br (pt l) (i+1) m d))])) ?_ (aa (aw (ay (i:=i) (by omega))) rfl)
  refine aa (z:=l.map af) rfl (aa (z:=i) (by rw[ll];exact ap hi) (aa (cN hi) (aa (z:=af m) rfl (aa (Ep (n+3) hm (hl _ (cg hi)) (by decide)) (aa (z:=I d) rfl ?_)))))
  rw[bO];refine aa ae ?_;rw[kc];by_cases hd:V.dot m (pt l i)=d
  ·have hd':V.dot m (l.getD i V.zero)=d:=hd;rw[if_pos hd,Lf hd',if_pos ?_]
   ·simp[g1,D.els,ah,g0]
   ·have:(br (pt l) i m d).length<=i:=by unfold br;exact zAa (zlc _ _) (by simp)
    simp only[g0,g1,D.els,ao,zBa,zib];omega
  ·have hd':¬ V.dot m (l.getD i V.zero)=d:=hd;rw[if_neg hd,Lg hd'];rfl
 ·subst hJ;refine⟨(0,[.sl (ah on)]),?_,?_⟩
  ·refine aa ag (aa ae ?_);rw[<-hon];exact aC (by show ¬ ((l.length:Int)<((l.map af).length:Int));rw[ll];omega) rfl
  refine aa (BR hpos) (aa hget0 (aa (BR hpos) (aa hget0 ?_)));obtain⟨b1,hb1,hs1⟩:=hnx a ha hea;refine bc (λt s=>s=[jF ((on.take t).foldl (c8 m (pt l) a) none),.sl (ah on),I (t:Int),.sl (ah on)]) on.length 0 (zia _) rfl (λt ht s hJ=>?_) (λs hJ=>?_)
  ·subst hJ;left;refine⟨_,?_,rfl⟩;refine aa ag (aa ae ?_);refine aH (by show((t:Int)<((ah on).length:Int));rw[ao];omega) ?_
   have hk:on[t]?=some on[t]:=zca ht;refine aa (z:=(0,[jF ((on.take (t+1)).foldl (c8 m (pt l) a) none),.sl (ah on)])) ?_ (aa (aw (ay (i:=t) (by omega))) rfl)
   refine aa (z:=ah on) rfl (aa (z:=t) (by rw[ao];exact ap ht) (aa (uS hk) ?_))
   rw[zqa ht,zrd,zhc,List.foldl_nil];exact hcore a on[t] ha (zra ht) _ (λb hb=>by
    rcases sT _ _ b hb with h|h
    ·exact zRa h
    ·cases h) (.sl (ah on))
  ·subst hJ;rw[zKa,hb1];refine⟨(0,[I (b1:Int),.sl (ah on)]),?_,?_⟩
   ·refine aa ag (aa ae ?_);refine aC (by show ¬ ((on.length:Int)<((ah on).length:Int));rw[ao];omega) ?_
    rfl
   obtain⟨p',hpp,hch',hy⟩:∃ p',p=a::p'/\Chain (Side m (pt l) on) a b1 p'/\b1≠a:=by
    cases hch with
    | done s=>exact absurd rfl s.ne
    | step s hne k=>
     have:=Side.unique F ha s hs1;subst this;exact⟨_,rfl,k,hne⟩
   refine wT (so (S:=Side m (pt l) on) (a:=a) (G:=λc=>c∈on/\Geo.ln (pt l) on c) (λc b hc s _=>⟨s.mem,s.ext F hc.1⟩) (λc b out hc hca hsd hol=>?_) (λout=>?_) hch' ⟨hs1.mem,hs1.ext F ha⟩ hy [a] ?_) ?_
   ·obtain⟨b',hb',hsb'⟩:=hnx c hc.1 hc.2;have:=Side.unique F hc.1 hsd hsb';subst this;refine aa (z:=ah on) rfl (aa (BR hpos) (aa hget0 ?_));have e0:D.beq (I (c:Int)) (I (a:Int))=false:=by rw[bR];simp[hca]
    refine aa (z:=true) (by show D.truth (D.bool (!(D.beq (I (c:Int)) (I (a:Int)))))=_;rw[e0];rfl) ?_
    rw[if_pos rfl,if_pos (by simp only[g0,D.els,ao,zBa,zib];omega)]
    refine aa (z:=ah on) rfl ?_;refine bY (λt s=>s=[jF ((on.take t).foldl (c8 m (pt l) c) none),I (t:Int)]) on.length 0 (zia _) rfl (λt ht s hJ=>?_) (λs hJ=>?_)
    ·subst hJ;left;refine⟨_,?_,rfl⟩;refine aa ag (aa ae ?_);refine aH (by show((t:Int)<((ah on).length:Int));rw[ao];omega) ?_
     have hk:on[t]?=some on[t]:=zca ht;refine aa (z:=(0,[jF ((on.take (t+1)).foldl (c8 m (pt l) c) none),.sl (ah on)])) ?_ (aa (aw (ay (i:=t) (by omega))) rfl)
     refine aa (z:=ah on) rfl (aa (z:=t) (by rw[ao];exact ap ht) (aa (uS hk) ?_))
     rw[zqa ht,zrd,zhc,List.foldl_nil];exact hcore c on[t] hc.1 (zra ht) _ (λb hb=>by
      rcases sT _ _ b hb with h|h
      ·exact zRa h
      ·cases h) (.sl (ah on))
    ·subst hJ;rw[zKa,hb'];refine⟨(0,[I (b:Int)]),?_,?_⟩
     ·refine aa ag (aa ae ?_);refine aC (by show ¬ ((on.length:Int)<((ah on).length:Int));rw[ao];omega) ?_
      rfl
     ·simp[g0,g1,D.els,ah]
   ·refine aa (z:=ah on) rfl (aa (BR hpos) (aa hget0 ?_));have e0:D.beq (I (a:Int)) (I (a:Int))=true:=by rw[bR];simp
    refine aa (z:=false) (by show D.truth (D.bool (!(D.beq (I (a:Int)) (I (a:Int)))))=_;rw[e0];rfl) ?_
    rfl
   ·have:([a]++p').length=p.length:=by rw[hpp];rfl
    omega
   ·rw[hpp];rfl
end Sy
end
noncomputable section
namespace Sy
open Go Go.Proofs Geo
def li(q:V×Int)(p:List Nat):D:=.st [af q.1,I q.2,.sl (ah p)]
def be(l:List V):D:=.st [aS l]
def Eh(l:List V):Prop:=∀ i j,i<j->j<l.length->aF (pt l i) (pt l j)
def Ar{l:List V}(hl:∀ x∈l,bd MV x){m:V}{d:Int}(h:IsF (pt l) l.length m d):bd 549755813888 m:=by
 obtain⟨i,j,k,h1,h2,h3,h4,h5,h6⟩:=h.ex;have hi:=hl _ (cg (show i<l.length by omega))
 have hj:=hl _ (cg (show j<l.length by omega))
 have hk:=hl _ (cg h3);have:=jl (eB (jm (P:=pt l) hi hj) (jm (P:=pt l) hi hk));rcases h5 with rfl|rfl
 ·exact this
 ·exact nl this
def VG(n:Nat){l:List V}(hl:∀ x∈l,bd MV x)(hlen:l.length<=100)(hs:Eh l):∃ (L:List (V×Int)) (poly:V×Int->List Nat),Facets (pt l) l.length L/\(∀ q∈L,bE (pt l) l.length q.1 q.2 (poly q))/\L.length<=2000000 ∧
  cA (n+7) 18 [be l]=some (.sl (L.map λq=>li q (poly q))):=by
 obtain⟨y,h1,K,L,h2,h3,h4,rfl⟩:=XR n hl hlen;have hLF:=h2.facets h3 h4;have hLl:L.length<=2000000:=by rw[h3.length_eq];exact h2.len hlen
 have hex:∀ q:V×Int,∃ p,q∈L->bE (pt l) l.length q.1 q.2 p/\cA (n+6) 46 [aS l,cm q]=some (.sl (ah p)):=λq=>by
  by_cases hq:q∈L
  ·have hF:=(hLF.mem q).1 hq;obtain⟨p,k1,k2⟩:=XS (n+1) hl hlen hs hF (Ar hl hF);exact⟨p,λ_=>⟨k1,k2⟩⟩
  ·exact⟨[],λh=>absurd h hq⟩
 obtain⟨poly,hpoly⟩:∃ poly:V×Int->List Nat,∀ q∈L,bE (pt l) l.length q.1 q.2 (poly q)/\cA (n+6) 46 [aS l,cm q]=some (.sl (ah (poly q))):=⟨λq=>Classical.choose (hex q),λq hq=>Classical.choose_spec (hex q) hq⟩;refine⟨L,poly,hLF,λq hq=>(hpoly q hq).1,hLl,?_⟩;have hp:=λq (hq:q∈L)=>(hpoly q hq).2;rw[XW]
 delta NR qG qB qC qS qX qV qW qZ iL iR Jn
 refine aa (z:=aS l) rfl (aa h1 (aa (z:=L.map cm) rfl ?_));have ll:(L.map cm).length=L.length:=zta ..;refine bc (λi s=>s=[.sl ((L.take i).map λq=>li q (poly q)),I (i:Int)]) L.length 0 (zia _) rfl (λi hi s hJ=>?_) (λs hJ=>?_)
 ·subst hJ;left;refine⟨_,?_,rfl⟩;refine aa ag (aa ae (aH (by show((i:Int)<((L.map cm).length:Int));rw[ll];omega) ?_))
  have hg:(L.map cm)[i]?=some (cm L[i]):=by simp[hi]
  refine aa (z:=L.map cm) rfl (aa (z:=i) (by rw[ll];exact ap hi) (aa hg ?_))
  refine aa (z:=af L[i].1) rfl (aa (z:=I L[i].2) rfl (aa (z:=aS l) rfl (aa (hp L[i] (zra hi)) ?_)));rw[if_pos (by simp only[g0,D.els,zta,zbb,zBa,zib];omega)]
  refine aa (aw (ay (i:=i) (by omega))) ?_
  rw[zqa hi,zPb];rfl
 ·subst hJ;refine⟨(0,[.sl ((L.take L.length).map λq=>li q (poly q))]),?_,?_⟩
  ·refine aa ag (aa ae (aC (by show ¬ ((L.length:Int)<((L.map cm).length:Int));rw[ll];omega) rfl))
  ·rw[zKa];rfl
def gg(e:Nat×Nat):D:=.st [I (e.1:Int),I (e.2:Int)]
def iG{p:List Nat}{k:Nat}(h:k<p.length):(ah p)[k]?=some (I (p.getD k 0:Nat)):=by simp[ah,List.getD,h]
end Sy
end
noncomputable section
namespace Sy
open Go Go.Proofs Geo
abbrev FL:=List ((V×Int)×List Nat)
def aq(L:FL):List D:=L.map λf=>li f.1 f.2
def aA(L:FL):(aq L).length=L.length:=zta ..
def cV{L:FL}{i:Nat}(h:i<L.length):(aq L)[i]?=some (li L[i].1 L[i].2):=by simp[aq,h]
def My(n:Nat)(L:FL)(m:V)(hL:L.length<=3000000):cA (n+1) 108 [.sl (aq L),af m]=some (.bool (L.any λf=>decide (f.1.1=m))):=by
 rw[TL]
 delta GK qB qT qX qL qZ iL iR Jn
 refine bc (λi s=>s=[I (i:Int)]/\(L.take i).any (λf=>decide (f.1.1=m))=false) L.length 0 (zia _) ⟨rfl,by simp⟩ (λi hi s hJ=>?_) (λs hJ=>?_)
 ·obtain⟨rfl,hz⟩:=hJ;by_cases he:L[i].1.1=m
  ·right;refine⟨(0,[.bool true]),?_,?_⟩
   ·refine aa (z:=aq L) rfl (aa ag (aa ae (aH (by show((i:Int)<((aq L).length:Int));rw[aA];omega) ?_)))
    refine aa (z:=aq L) rfl (aa (z:=i) (by rw[aA];exact ap hi) (aa (cV hi) (aa (z:=af L[i].1.1) rfl ?_)))
    rw[gN];exact aa ae (aH he rfl)
   ·have:L.any (λf=>decide (f.1.1=m))=true:=zRc.2 ⟨L[i],zra hi,by simpa using he⟩
    simp[this,g0]
  ·left;refine⟨[I ((i+1:Nat):Int)],?_,rfl,?_⟩
   ·refine aa (z:=aq L) rfl (aa ag (aa ae (aH (by show((i:Int)<((aq L).length:Int));rw[aA];omega) ?_)))
    refine aa (z:=aq L) rfl (aa (z:=i) (by rw[aA];exact ap hi) (aa (cV hi) (aa (z:=af L[i].1.1) rfl ?_)))
    rw[gN];exact aa ae (aC he (aa (aw (ay (i:=i) (by omega))) rfl))
   ·rw[zqa hi,zGc,hz];simp[he]
 ·obtain⟨rfl,hz⟩:=hJ;rw[zKa] at hz;refine⟨(1,[]),?_,by simp[hz]⟩
  exact aa (z:=aq L) rfl (aa ag (aa ae (aC (by show ¬ ((L.length:Int)<((aq L).length:Int));rw[aA];omega) rfl)))
def gh(f:(V×Int)×List Nat):FL->FL
 | []=>[f]
 | x::L=>if aF f.1.1 x.1.1 then f::x::L else x::gh f L
def Sr(n:Nat)(L:FL)(f:(V×Int)×List Nat)(hL:L.length<=3000000):cA (n+2) 110 [.sl (aq L),li f.1 f.2]=some (.sl (aq (gh f L))):=by
 rw[TN]
 delta GM qG qB qT qN qX qL qV qW qZ iL iR Jn
 have app:∀ (o:FL) (x:(V×Int)×List Nat),aq o++[li x.1 x.2]=aq (o++[x]):=λo x=>by simp[aq]
 refine bc (λi s=>∃ (out:FL) (put:Bool),s=[.sl (aq out),.bool put,I (i:Int)]/\out.length<=2*i/\(put=false->gh f L=out++gh f (L.drop i))/\(put=true->gh f L=out++L.drop i)) L.length 0 (zia _) ⟨[],false,rfl,by simp,by simp,by simp⟩ (λi hi s hJ=>?_) (λs hJ=>?_)
 ·obtain⟨out,put,rfl,hol,h1,h2⟩:=hJ;left;have hd:L.drop i=L[i]::L.drop (i+1):=zkb hi;have hc:=Ku n f.1.1 L[i].1.1;obtain⟨o,p,he,ho,q1,q2⟩:∃ o p,(if put=false/\aF f.1.1 L[i].1.1 then(out++[f],true) else(out,put))=(o,p)/\o.length<=2*i+1/\(p=false->gh f L=o++L[i]::gh f (L.drop (i+1)))/\(p=true->gh f L=o++L[i]::L.drop (i+1)):=by
   by_cases hput:put=false/\aF f.1.1 L[i].1.1
   ·refine⟨_,_,if_pos hput,by simp;omega,by simp,λ_=>?_⟩
    rw[h1 hput.1,hd];simp[gh,hput.2]
   ·refine⟨_,_,if_neg hput,by omega,λhp=>?_,λhp=>?_⟩
    ·have hnl:¬ aF f.1.1 L[i].1.1:=λh=>hput ⟨hp,h⟩;rw[h1 hp,hd];simp[gh,hnl]
    ·rw[h2 hp,hd]
  refine⟨[.sl (aq (o++[L[i]])),.bool p,I ((i+1:Nat):Int)],?_,o++[L[i]],p,rfl,by simp;omega,λhp=>by rw[q1 hp];simp,λhp=>by rw[q2 hp];simp⟩
  refine aa (z:=aq L) rfl (aa ag (aa ae (aH (by show((i:Int)<((aq L).length:Int));rw[aA];omega) ?_)))
  refine aa (z:=af f.1.1) rfl (aa (z:=aq L) rfl (aa (z:=i) (by rw[aA];exact ap hi) (aa (cV hi) (aa (z:=af L[i].1.1) rfl (aa hc ?_)))))
  refine aa (z:=(0,[.sl (aq o),.bool p])) ?_ ?_
  ·refine aa (z:=.bool (!put)) rfl (aa (z:=!put) rfl (aa (z:=!put&&decide (aF f.1.1 L[i].1.1)) ?_ (aa (z:=!put&&decide (aF f.1.1 L[i].1.1)) rfl ?_)))
   ·cases put
    ·exact ae
    ·rfl
   ·by_cases hput:put=false/\aF f.1.1 L[i].1.1
    ·rw[if_pos hput] at he;obtain⟨rfl,hlt⟩:=hput;cases he;rw[show(!false&&decide (aF f.1.1 L[i].1.1))=true by simp[hlt],if_pos rfl,if_pos (by simp only[g0,D.els,aA,zBa,zib];omega)]
     simp only[g0,D.els,app]
    ·rw[if_neg hput] at he;cases he;rw[show(!put&&decide (aF f.1.1 L[i].1.1))=false by
      cases put
      ·simpa using hput
      ·rfl]
     rfl
  ·refine aa (z:=aq L) rfl (aa (z:=i) (by rw[aA];exact ap hi) (aa (cV hi) ?_))
   rw[if_pos (by simp only[g0,D.els,aA,zBa,zib];omega)]
   refine aa (aw (ay (i:=i) (by omega))) ?_
   simp only[g0,g1,D.els,app];rfl
 ·obtain⟨out,put,rfl,hol,h1,h2⟩:=hJ;refine⟨(0,[.sl (aq out),.bool put]),?_,?_⟩
  ·exact aa (z:=aq L) rfl (aa ag (aa ae (aC (by show ¬ ((L.length:Int)<((aq L).length:Int));rw[aA];omega) rfl)))
  ·cases put
   ·have:=h1 rfl;rw[zyc] at this;rw[this];refine aa (z:=(0,[.sl (aq (out++[f]))])) ?_ rfl;refine aa (z:=.bool true) rfl (aa (z:=true) rfl ?_);rw[if_pos rfl,if_pos (by simp only[g0,D.els,aA,zBa,zib];omega)]
    simp only[g0,D.els,app]
   ·have:=h2 rfl;rw[zyc,z4b] at this;rw[this];rfl
end Sy
end
noncomputable section
namespace Sy
open Go Go.Proofs Geo
def gZ(l:List V)(m:V)(a b x:Nat):Bool:=
 decide (0<=T m (wy (pt l) a b) (wy (pt l) a x))&&(!decide (T m (wy (pt l) a b) (wy (pt l) a x)=0)||(decide (0<=V.dot (wy (pt l) a x) (wy (pt l) a b))&&decide (V.dot (wy (pt l) a x) (wy (pt l) a b)<=V.dot (wy (pt l) a b) (wy (pt l) a b))))
def A2{l:List V}{m:V}{a b x:Nat}:gZ l m a b x=true↔(0<=T m (wy (pt l) a b) (wy (pt l) a x)/\(T m (wy (pt l) a b) (wy (pt l) a x)=0->0<=V.dot (wy (pt l) a x) (wy (pt l) a b)/\V.dot (wy (pt l) a x) (wy (pt l) a b)<=V.dot (wy (pt l) a b) (wy (pt l) a b))):=by
 simp only[gZ,zaa,zHb,zLa,decide_eq_true_eq,decide_eq_false_iff_not];by_cases h:T m (wy (pt l) a b) (wy (pt l) a x)=0<;>simp[h]
def vL(l:List V)(m:V)(d:Int)(a b:Nat):Bool:=(br (pt l) l.length m d).all λx=>gZ l m a b x
def vM{l:List V}{m:V}{d:Int}{a b:Nat}(hb:b∈br (pt l) l.length m d)(hne:b≠a):vL l m d a b=true↔Side m (pt l) (br (pt l) l.length m d) a b:=by
 simp only[vL,zpa,A2];exact⟨λh=>⟨hb,hne,h⟩,λh=>h.all⟩
def SD(n:Nat){l:List V}(hl:∀ x∈l,bd MV x)(hlen:l.length<=100){m:V}{d:Int}(hm0:m≠V.zero)(hm:bd 549755813888 m){a b:Nat}(ha:a<l.length)(hb:b<l.length)(hda:V.dot m (pt l a)=d)(hdb:V.dot m (pt l b)=d) :
  cA (n+3) 156 [aS l,af m,I d,af (pt l a),af (pt l b)]=some (.bool (vL l m d a b)):=by
 rw[Uq]
 delta Hl qB qC qT qX qL qZ iL iR Jn
 have w1:bd 524288 (wy (pt l) a b):=jm (hl _ (cg ha)) (hl _ (cg hb));refine aa (z:=af (wy (pt l) a b)) (ui (n+1) (hl _ (cg hb)) (hl _ (cg ha)) (by decide)) ?_
 have ll:(l.map af).length=l.length:=zta ..;have hmb:V.dot m (wy (pt l) a b)=0:=by rw[dn,hda,hdb];omega
 refine bc (λi s=>s=[I (i:Int)]/\(br (pt l) i m d).all (λx=>gZ l m a b x)=true) l.length 0 (zia _) ⟨rfl,by simp[br]⟩ (λi hi s hJ=>?_) (λs hJ=>?_)
 ·obtain⟨rfl,hz⟩:=hJ;have hc:=zZ (n+1) hm (hl _ (cg hi)) (by decide)
  by_cases hon:V.dot m (pt l i)=d
  ·have w2:bd 524288 (wy (pt l) a i):=jm (hl _ (cg ha)) (hl _ (cg hi));have hmi:V.dot m (wy (pt l) a i)=0:=by rw[dn,hda,hon];omega
   have c1:=ui (n+1) (hl _ (cg hi)) (hl _ (cg ha)) (by decide)
   have c2:=Kw (n+1) w1 w2 (by decide)
   have c3:=SK n m (V.cross (wy (pt l) a b) (wy (pt l) a i));rw[BY hm0 (ik hmb hmi)] at c3;have c4:=zZ (n+1) w2 w1 (by decide)
   have c5:=zZ (n+1) w1 w1 (by decide)
   have step:∀ (y:Nat×List D),y=(if gZ l m a b i then(0,[]) else(1,[D.bool false]))->(Option.bind (D.asSl (aS l)) λl6=>Option.bind (D.idx (I (i:Int)) (List.length l6)) λi7=>
     Option.bind (l6[i7]?) λx8=>Option.bind (cA (n+2) 107 [af m,x8]) λr9=>Option.bind (D.truth (D.bool (!(D.beq r9 (I d))))) λb10=>
     if b10 then(some ((0:Nat),([]:List D))) else(Option.bind (D.asSl (aS l)) λl11=>Option.bind (D.idx (I (i:Int)) (List.length l11)) λut=>
     Option.bind (l11[ut]?) λx13=>Option.bind (cA (n+2) 112 [x13,af (pt l a)]) λr14=>Option.bind (cA (n+2) 123 [af (wy (pt l) a b),r14]) λr15=>Option.bind (cA (n+2) 188 [af m,r15]) λr16=>
     Option.bind (D.bin .lss r16 (D.int .i64 0)) λx17=>Option.bind (D.truth x17) λb18=>
     Option.bind (if b18 then(some true) else(Option.bind (D.truth (D.bool (D.beq r16 (D.int .i64 0)))) λb19=>
     if b19 then(Option.bind (cA (n+2) 107 [r14,af (wy (pt l) a b)]) λr20=>Option.bind (D.bin .lss r20 (D.int .i64 0)) λx21=>Option.bind (D.truth x21) λb22=>
     if b22 then(some true) else(Option.bind (cA (n+2) 107 [r14,af (wy (pt l) a b)]) λr23=>Option.bind (cA (n+2) 107 [af (wy (pt l) a b),af (wy (pt l) a b)]) λr24=>
     Option.bind (D.bin .gtr r23 r24) λx25=>D.truth x25)) else(some false))) λb26=>Option.bind (D.truth (D.bool b26)) λb27=>
     if b27 then(some (1,[(D.bool false)])) else(some (0,[]))))=some y:=by
    intro y hy;refine aa (z:=l.map af) rfl (aa (z:=i) (by rw[ll];exact ap hi) (aa (cN hi) (aa hc (aa (z:=false) ?_ ?_))))
    ·rw[bO,show V.dot m (l.getD i V.zero)=d from hon];simp[D.truth]
    rw[if_neg (by decide)]
    refine aa (z:=l.map af) rfl (aa (z:=i) (by rw[ll];exact ap hi) (aa (cN hi) (aa (z:=af (wy (pt l) a i)) c1 (aa c2 (aa c3 (aa ag (aa ae ?_)))))))
    rw[hy];have e:V.dot m (V.cross (wy (pt l) a b) (wy (pt l) a i))=T m (wy (pt l) a b) (wy (pt l) a i):=rfl;rw[e];refine aa (z:=!gZ l m a b i) ?_ ?_
    ·by_cases t1:T m (wy (pt l) a b) (wy (pt l) a i)<0
     ·rw[Lf (FX.2 t1)];have:¬ (0<=T m (wy (pt l) a b) (wy (pt l) a i)):=by omega
      simp[gZ,this]
     ·rw[Lg (λh=>t1 (FX.1 h))];have t1':0<=T m (wy (pt l) a b) (wy (pt l) a i):=by omega
      by_cases t2:T m (wy (pt l) a b) (wy (pt l) a i)=0
      ·refine aa (z:=true) (by rw[bO,decide_eq_true (rO.2 t2)];rfl) ?_
       rw[if_pos rfl];refine aa c4 (aa ag (aa ae ?_));by_cases t3:V.dot (wy (pt l) a i) (wy (pt l) a b)<0
       ·rw[Lf t3];have:¬ (0<=V.dot (wy (pt l) a i) (wy (pt l) a b)):=by omega
        simp[gZ,t2,this]
       ·rw[Lg t3];refine aa c4 (aa c5 (aa cn ?_));rw[ae];have t3':0<=V.dot (wy (pt l) a i) (wy (pt l) a b):=by omega
        simp only[gZ,t2,t3',decide_true,zTb,zac,zwd,zid];by_cases t4:V.dot (wy (pt l) a i) (wy (pt l) a b)<=V.dot (wy (pt l) a b) (wy (pt l) a b)
        ·have:¬ (V.dot (wy (pt l) a i) (wy (pt l) a b)>V.dot (wy (pt l) a b) (wy (pt l) a b)):=by omega
         simp[t4,this]
        ·have:(V.dot (wy (pt l) a i) (wy (pt l) a b)>V.dot (wy (pt l) a b) (wy (pt l) a b)):=by omega
         simp[t4,this]
      ·refine aa (z:=false) (by rw[bO,decide_eq_false (λh=>t2 (rO.1 h))];rfl) ?_
       simp[gZ,t2,t1']
    ·refine aa ae ?_;cases gZ l m a b i<;>rfl
   cases hk:gZ l m a b i
   ·right;rw[hk] at step;refine⟨(0,[.bool false]),?_,?_⟩
    ·exact aa (z:=l.map af) rfl (aa ag (aa ae (aH (by show((i:Int)<((l.map af).length:Int));rw[ll];omega) (aa (step _ rfl) rfl))))
    ·have:vL l m d a b=false:=by
      rw[zXb];intro h;have:=zpa.1 h i (aU.2 ⟨hi,hon⟩);rw[hk] at this;exact absurd this (by decide)
     rw[this];rfl
   ·left;rw[hk] at step;refine⟨[I ((i+1:Nat):Int)],?_,rfl,?_⟩
    ·exact aa (z:=l.map af) rfl (aa ag (aa ae (aH (by show((i:Int)<((l.map af).length:Int));rw[ll];omega) (aa (step _ rfl) (by rw[if_pos rfl,if_pos rfl];exact aa (aw (ay (i:=i) (by omega))) rfl)))))
    ·rw[kc,if_pos hon,zhd,hz];simp[hk]
  ·left;refine⟨[I ((i+1:Nat):Int)],?_,rfl,?_⟩
   ·refine aa (z:=l.map af) rfl (aa ag (aa ae (aH (by show((i:Int)<((l.map af).length:Int));rw[ll];omega) (aa (z:=(0,[])) ?_ (by rw[if_pos rfl];exact aa (aw (ay (i:=i) (by omega))) rfl)))))
    refine aa (z:=l.map af) rfl (aa (z:=i) (by rw[ll];exact ap hi) (aa (cN hi) (aa hc (aa (z:=true) ?_ rfl))))
    rw[bO,decide_eq_false (show ¬ V.dot m (l.getD i V.zero)=d from hon)];rfl
   ·rw[kc,if_neg hon];exact hz
 ·obtain⟨rfl,hz⟩:=hJ;refine⟨(1,[]),?_,?_⟩
  ·exact aa (z:=l.map af) rfl (aa ag (aa ae (aC (by show ¬ ((l.length:Int)<((l.map af).length:Int));rw[ll];omega) rfl)))
  ·have:vL l m d a b=true:=hz;rw[this];rfl
end Sy
end
noncomputable section
namespace Sy
open Go Go.Proofs Geo
def B3{body:Bd}{s0:List D}{r:Nat×List D}(h:Option.bind (aT body s0) some=some r):aT body s0=some r:=by
 cases hb:aT body s0 with
 | none=>rw[hb] at h;cases h
 | some z=>rw[hb] at h;exact h
def Fz{P:Nat->V}{m:V}{d:Int}{i N a:Nat}(h:(br P i m d).head?=some a)(hi:i<=N):(br P N m d).head?=some a:=by
 induction N with
 | zero=>
      have:i=0:=by omega
      subst this;exact h
 | succ N ih=>
  by_cases e:i=N+1
  ·rw[<-e];exact h
  ·have:=ih (by omega)
   rw[kc];split
   ·rw[List.head?_append,this];rfl
   ·exact this
theorem qq{body:Bd}{S:Nat->Nat->Prop}{a M:Nat}{G:Nat->Prop}(hS:∀ c b,G c->S c b->G b)
  (hstep:∀ (c b:Nat) (out:List Nat),G c->S c b->b≠a->out.length<=M->body [.sl (ah out),I (c:Int)]=some (.inl [.sl (ah (out++[c])),I (b:Int)]))
  (hend:∀ (c:Nat) (out:List Nat),G c->S c a->out.length<=M->body [.sl (ah out),I (c:Int)]=some (.inr (0,[.sl (ah (out++[c]))]))) :
  ∀ {c:Nat} {p:List Nat},Chain S a c p->G c->∀ out:List Nat,(out++p).length<=M->aT body [.sl (ah out),I (c:Int)]=some (0,[.sl (ah (out++p))])
 | c,_,.done s,hc,out,hl=>dt (hend c out hc s (by simp at hl;omega))
 | c,_,.step (y:=y) (l:=p) s hy k,hc,out,hl=>by
  have h1:=hstep c y out hc s hy (by simp at hl;omega)
  rw[show aT body [.sl (ah out),I (c:Int)]=aT body [.sl (ah (out++[c])),I (y:Int)] from dK h1];have:=qq hS hstep hend k (hS c y hc s) (out++[c]) (by simpa using hl)
  rw[this];simp
def Nu(n:Nat){l:List V}(hl:∀ x∈l,bd MV x)(hlen:l.length<=100)(hs:Eh l){m:V}{d:Int}(hF:IsF (pt l) l.length m d)(hm:bd 549755813888 m){p:List Nat}(hp:bE (pt l) l.length m d p) :
  cA (n+4) 111 [aS l,af m,I d]=some (.sl (ah p)):=by
 have F:=hF.flat hs;obtain⟨p',hp',hnd,hmem⟩:=hF.poly hs;have e:=bE.eq hs hF hp hp';subst e;obtain⟨a,ha1,hch⟩:=hp;have ha:a∈br (pt l) l.length m d:=List.mem_of_mem_head? (by rw[ha1];rfl)
 have hlt:∀ k∈br (pt l) l.length m d,k<l.length:=λk hk=>(aU.1 hk).1;have hdk:∀ k∈br (pt l) l.length m d,V.dot m (pt l k)=d:=λk hk=>(aU.1 hk).2;have honl:(br (pt l) l.length m d).length<=l.length:=by
  unfold br;exact zAa (zlc _ _) (by rw[zVb];omega)
 have hpl:p.length<=l.length:=zAa (z5b hnd λz hz=>((hmem z).1 hz).1) honl;have ll:(l.map af).length=l.length:=zta ..;rw[TO]
 delta GN qB qC qT qS qX qL qV qW qZ iL iR Jn
 have hdot:=λ(i:Nat) (hi:i<l.length)=>zZ (n+2) hm (hl _ (cg hi)) (by decide)
 refine aa (z:=(0,[.sl [],I (a:Int)])) ?_ ?_
 ·refine B3 (bY (λi s=>s=[.sl [],jF ((br (pt l) i m d).head?),I (i:Int)]) l.length 0 (zia _) rfl (λi hi s hJ=>?_) (λs hJ=>?_))
  ·subst hJ;cases hh:(br (pt l) i m d).head? with
   | some a'=>
    right;have:=Fz hh (zrc hi);rw[ha1] at this;cases this;refine⟨(0,[.sl [],I (a:Int)]),?_,rfl⟩;refine aa (z:=l.map af) rfl (aa ag (aa ae (aa (z:=false) (aH (by show((i:Int)<((l.map af).length:Int));rw[ll];omega) ?_) (aa ae ?_))))
    ·refine aa ag ?_;rw[decide_eq_false (by omega)];rfl
    ·rfl
   | none=>
    left;have hnil:br (pt l) i m d=[]:=by simpa using hh
    refine⟨[.sl [],jF ((br (pt l) (i+1) m d).head?),I ((i+1:Nat):Int)],?_,rfl⟩;refine aa (z:=l.map af) rfl (aa ag (aa ae (aa (z:=true) (aH (by show((i:Int)<((l.map af).length:Int));rw[ll];omega) (aa (ag (a:=-1) (b:=0)) rfl)) (aa ae ?_))))
    rw[if_pos rfl];refine aa (z:=(0,[.sl [],jF ((br (pt l) (i+1) m d).head?)])) ?_ (aa (aw (ay (i:=i) (by omega))) rfl)
    refine aa (z:=l.map af) rfl (aa (z:=i) (by rw[ll];exact ap hi) (aa (cN hi) (aa (hdot i hi) ?_)))
    rw[bO,kc,hnil];by_cases hon:V.dot m (pt l i)=d
    ·rw[if_pos hon,decide_eq_true (show V.dot m (l.getD i V.zero)=d from hon)];rfl
    ·rw[if_neg hon,decide_eq_false (show ¬ V.dot m (l.getD i V.zero)=d from hon)];rfl
  ·subst hJ;rw[ha1];refine⟨(0,[.sl [],I (a:Int)]),?_,rfl⟩;refine aa (z:=l.map af) rfl (aa ag (aa ae (aa (z:=false) (aC (by show ¬ ((l.length:Int)<((l.map af).length:Int));rw[ll];omega) rfl) (aa ae rfl))))
 ·refine aa (z:=(0,[.sl (ah ([]++p))])) ?_ rfl;refine qq (M:=l.length) (G:=λc=>c∈br (pt l) l.length m d) (λc b hc hb=>hb.mem) (λc b out hc hb hba hol=>?_) (λc out hc hb hol=>?_) hch ha [] (by simpa using hpl)
  all_goals
   obtain⟨b',hbb,hb'⟩:∃ b',(b'=a\/b'≠a)/\Side m (pt l) (br (pt l) l.length m d) c b':=by first|exact⟨_,Classical.em _,hb⟩
   refine aa (z:=l.map af) rfl (aa rV (aa ae (aH (by show(((ah out).length:Int)<=((l.map af).length:Int));rw[ll,ao];omega) ?_)))
   rw[if_pos (by simp only[g0,D.els,ao,zBa,zib];omega)]
   have happ:ah out++[I (c:Int)]=ah (out++[c]):=by simp[ah]
   have hbl:=hlt b' hb'.mem;refine aa (z:=(0,[.sl (ah (out++[c])),I (b':Int)])) ?_ ?_
   ·refine B3 (bY (λi s=>s=[.sl (ah (out++[c])),jF (if b'<i then some b' else none),I (i:Int)]) l.length 0 (zia _) (by simp[g0,g1,D.els,happ,jF]) (λi hi s hJ=>?_) (λs hJ=>?_))
    ·subst hJ;by_cases hbi:b'<i
     ·right;rw[if_pos hbi];refine⟨(0,[.sl (ah (out++[c])),I (b':Int)]),?_,rfl⟩;refine aa (z:=l.map af) rfl (aa ag (aa ae (aa (z:=false) (aH (by show((i:Int)<((l.map af).length:Int));rw[ll];omega) ?_) (aa ae ?_))))
      ·refine aa ag ?_;rw[decide_eq_false (by omega)];rfl
      ·rfl
     ·left;rw[if_neg hbi];refine⟨[.sl (ah (out++[c])),jF (if b'<i+1 then some b' else none),I ((i+1:Nat):Int)],?_,rfl⟩
      refine aa (z:=l.map af) rfl (aa ag (aa ae (aa (z:=true) (aH (by show((i:Int)<((l.map af).length:Int));rw[ll];omega) (aa (ag (a:=-1) (b:=0)) rfl)) (aa ae ?_))))
      rw[if_pos rfl];refine aa (z:=(0,[.sl (ah (out++[c])),jF (if b'<i+1 then some b' else none)])) ?_ (aa (aw (ay (i:=i) (by omega))) rfl)
      have hcl:=hlt c hc;by_cases hon:i≠c/\V.dot m (pt l i)=d
      ·have hion:i∈br (pt l) l.length m d:=aU.2 ⟨hi,hon.2⟩;refine aa (z:=true) (by show D.truth (D.bool (!(D.beq (I (i:Int)) (I (c:Int)))))=_;rw[bR,decide_eq_false hon.1];rfl) (aa (z:=true) ?_ (aa ae ?_))
       ·rw[if_pos rfl];refine aa (z:=l.map af) rfl (aa (z:=i) (by rw[ll];exact ap hi) (aa (cN hi) (aa (hdot i hi) ?_)))
        rw[bO,decide_eq_true (show V.dot m (l.getD i V.zero)=d from hon.2)];rfl
       ·rw[if_pos rfl];refine aa (z:=l.map af) rfl (aa (z:=c) (by rw[ll];exact ap hcl) (aa (cN hcl) (aa (z:=l.map af) rfl (aa (z:=i) (by rw[ll];exact ap hi) (aa (cN hi) (aa (SD n hl hlen hF.nz.1 hm hcl hi (hdk c hc) hon.2) (aa ae ?_)))))))
        by_cases hib:i=b'
        ·subst hib;rw[(vM hion hon.1).2 hb',if_pos rfl,if_pos (by omega)];rfl
        ·have:vL l m d c i=false:=by
          rw[zXb];intro h;exact hib (Side.unique F hc ((vM hion hon.1).1 h) hb')
         rw[this,if_neg (show ¬ b'<i+1 by omega)];rfl
      ·have hib:i≠b':=λe=>hon (by subst e;exact⟨hb'.ne,hdk _ hb'.mem⟩)
       rw[if_neg (show ¬ b'<i+1 by omega)]
       by_cases hic:i=c
       ·subst hic;refine aa (z:=false) (by show D.truth (D.bool (!(D.beq (I (i:Int)) (I (i:Int)))))=_;rw[bR,decide_eq_true rfl];rfl) (aa (z:=false) rfl (aa ae rfl))
       ·have hnd:¬ V.dot m (l.getD i V.zero)=d:=λh=>hon ⟨hic,h⟩;refine aa (z:=true) (by show D.truth (D.bool (!(D.beq (I (i:Int)) (I (c:Int)))))=_;rw[bR,decide_eq_false hic];rfl) (aa (z:=false) ?_ (aa ae rfl))
        rw[if_pos rfl];refine aa (z:=l.map af) rfl (aa (z:=i) (by rw[ll];exact ap hi) (aa (cN hi) (aa (hdot i hi) ?_)))
        rw[bO,decide_eq_false hnd];rfl
    ·subst hJ;rw[if_pos hbl];refine⟨(0,[.sl (ah (out++[c])),I (b':Int)]),?_,rfl⟩;exact aa (z:=l.map af) rfl (aa ag (aa ae (aa (z:=false) (aC (by show ¬ ((l.length:Int)<((l.map af).length:Int));rw[ll];omega) rfl) (aa ae rfl))))
   ·have hu:=Side.unique F hc hb hb';subst hu;first
     | exact aa (z:=true) (by show D.truth (D.bool (D.beq (I (_:Int)) (I (_:Int))))=_;rw[bR,decide_eq_true rfl];rfl) (aa (z:=true) rfl (aa ae rfl))
     | exact aa (z:=false) (by show D.truth (D.bool (D.beq (I (_:Int)) (I (_:Int))))=_;rw[bR,decide_eq_false hba];rfl) (aa (z:=false) (by rw[if_neg (by decide)];refine aa ag ?_;rw[decide_eq_false (by omega)];rfl) (aa ae rfl))
end Sy
end
noncomputable section
namespace Sy
open Go Go.Proofs Geo
def a7:List Nat->Nat
 | []=>0
 | d::l=>d+65536*a7 l
def dl(l:List Nat):Prop:=∀ d∈l,d<65536
def dl.cons{d:Nat}{l:List Nat}(hd:d<65536)(h:dl l):dl (d::l):=λx hx=>by
 rcases zCa.1 hx with rfl|hx
 ·exact hd
 ·exact h x hx
def dl.append{a b:List Nat}(ha:dl a)(hb:dl b):dl (a++b):=λx hx=>by
 rcases zDa.1 hx with hx|hx
 ·exact ha x hx
 ·exact hb x hx
theorem dl.getD{l:List Nat}(h:dl l)(i:Nat):l.getD i 0<65536:=by
 simp only[List.getD];cases hi:l[i]? with
 | none=>simp
 | some x=>exact h x (z8a hi)
def aG(m:Nat):List Nat:=if h:m=0 then[] else m%65536::aG (m/65536)
termination_by m
decreasing_by omega
def ct:aG 0=[]:=by unfold aG;simp
def iC{m:Nat}(h:m≠0):aG m=m%65536::aG (m/65536):=by rw[aG,dif_neg h]
def uP{d v:Nat}(hd:d<65536)(h:d+65536*v≠0):aG (d+65536*v)=d::aG v:=by
 rw[iC h,show(d+65536*v)%65536=d by omega,show(d+65536*v)/65536=v by omega]
def av(m:Nat):a7 (aG m)=m:=by
 induction m using Nat.strongRecOn with
 | _ m ih=>
  by_cases h:m=0
  ·subst h;rw[ct];rfl
  ·rw[iC h,a7,ih _ (by omega)];omega
def aZ(m:Nat):dl (aG m):=by
 induction m using Nat.strongRecOn with
 | _ m ih=>
  by_cases h:m=0
  ·subst h;rw[ct];intro d hd;cases hd
  ·rw[iC h];exact dl.cons (by omega) (ih _ (by omega))
def sB{m:Nat}:aG m=[]↔m=0:=by
 constructor
 ·intro h;have:=av m;rw[h] at this;exact this.symm
 ·rintro rfl;exact ct
def pA(i:Nat):∀ m,(aG m).getD i 0=m/65536^i%65536:=by
 induction i with
 | zero=>
  intro m;by_cases h:m=0
  ·subst h;rw[ct];simp
  ·rw[iC h];simp
 | succ i ih=>
  intro m;by_cases h:m=0
  ·subst h;rw[ct];simp
  ·rw[iC h];show(aG (m/65536)).getD i 0=_;rw[ih,zXa,zmb,zEa 65536]
def bG(k:Nat):∀ m,m<65536^k->(aG m).length<=k:=by
 induction k with
 | zero=>
      intro m h;have:m=0:=by simpa using h
      subst this;rw[ct];simp
 | succ k ih=>
  intro m h;by_cases h0:m=0
  ·subst h0;rw[ct];simp
  ·rw[iC h0,zBa];have:=ih (m/65536) (by rw[zmb] at h;exact zMc (by rw[zEa];exact h))
   omega
def lH(a b:List Nat):a7 (a++b)=a7 a+65536^a.length*a7 b:=by
 induction a with
 | nil=>simp[a7]
 | cons d a ih=>
  simp only[zdb,a7,ih,zBa,zmb];rw[zUb,<-z1a,zEa 65536 (65536^a.length)];omega
def nu(l:List Nat)(n:Nat):a7 (l++List.replicate n 0)=a7 l:=by
 rw[lH];have:∀ n,a7 (List.replicate n 0)=0:=λn=>by
  induction n with
  | zero=>rfl
  | succ n ih=>rw[List.replicate_succ,a7,ih]
 rw[this];simp
def vt(l:List Nat):Nat->Nat
 | 0=>0
 | k+1=>vt l k+l.getD k 0*65536^k
def JE(d:Nat)(l:List Nat)(k:Nat):vt (d::l) (k+1)=d+65536*vt l k:=by
 induction k with
 | zero=>simp[vt]
 | succ k ih=>
  rw[vt,ih,vt,zUb];have:(d::l).getD (k+1) 0=l.getD k 0:=rfl;rw[this,zmb,<-z1a,<-z1a,zEa 65536 (l.getD k 0),z1a,zEa (65536^k),<-z1a];omega
def mo(l:List Nat):vt l l.length=a7 l:=by
 induction l with
 | nil=>rfl
 | cons d l ih=>rw[zBa,JE,ih];rfl
def ie{l:List Nat}{k:Nat}(h:l.length<=k):vt l k=a7 l:=by
 obtain⟨j,rfl⟩:∃ j,k=l.length+j:=⟨k-l.length,by omega⟩
 clear h
 induction j with
 | zero=>exact mo l
 | succ j ih=>
  rw[<-zAb,vt,ih];have:l.getD (l.length+j) 0=0:=by simp[List.getD]
  rw[this];simp
def t6{l:List Nat}(h:dl l)(k:Nat):vt l k<65536^k:=by
 induction k with
 | zero=>simp[vt]
 | succ k ih=>
  have h1:=h.getD k;have h2:l.getD k 0*65536^k<=65535*65536^k:=zxa _ (by omega)
  rw[vt,zmb,zEa (65536^k)];omega
def kA{l:List Nat}(h:dl l):a7 l<65536^l.length:=by rw[<-mo];exact t6 h _
def ko:List Nat->List Nat
 | []=>[]
 | d::l=>match ko l with
  | []=>if d=0 then[] else[d]
  | x::t=>d::x::t
def gV{l:List Nat}(h:dl l):ko l=aG (a7 l):=by
 induction l with
 | nil=>rw[a7,ct];rfl
 | cons d l ih=>
  have hd:d<65536:=h d zka;have ih:=ih λx hx=>h x (zha _ hx);rw[ko,ih,a7];by_cases hv:a7 l=0
  ·rw[hv,ct];by_cases h0:d=0
   ·subst h0;simp[ct]
   ·rw[uP hd (by omega),ct];simp[h0]
  ·rw[uP hd (by omega),iC hv]
def Bb{l:List Nat}(h:∀ i,i<l.length->l.getD i 0=0):ko l=[]:=by
 induction l with
 | nil=>rfl
 | cons d l ih=>
  have h0:d=0:=h 0 (by simp)
  rw[ko,ih (λi hi=>h (i+1) (by simpa using hi)),h0];simp
theorem vX:∀ {l:List Nat} {n:Nat},n<=l.length->(∀ i,n<=i->i<l.length->l.getD i 0=0)->(n=0\/l.getD (n-1) 0≠0)->l.take n=ko l
 | [],n,_,_,_=>by simp[ko]
 | d::l,0,_,hz,_=>by rw[Bb (λi hi=>hz i (by omega) hi)];rfl
 | d::l,n+1,hn,hz,hl=>by
  have hl':(d::l).getD n 0≠0:=by
   rcases hl with h|h
   ·omega
   ·exact h
  have ih:l.take n=ko l:=vX (l:=l) (n:=n) (by simpa using hn) (λi h1 h2=>hz (i+1) (by omega) (by simpa using h2)) (by
   cases n with
   | zero=>exact .inl rfl
   | succ k=>exact .inr hl')
  rw[zYb,ih,ko];cases ht:ko l with
  | nil=>
   rw[ht] at ih;have:n=0:=by
    cases n with
    | zero=>rfl
    | succ k=>cases l with
     | nil=>simp at hn
     | cons e l=>simp at ih
   subst this;have:d≠0:=hl';simp[this]
  | cons x t=>rfl
end Sy
end
noncomputable section
namespace Sy
open Go Go.Proofs Geo
def c7{l:List Nat}{i:Nat}(h:i<l.length):(ah l)[i]?=some (I (l.getD i 0:Nat)):=iG h
def uR(a:List Nat)(d:Nat):ah a++[I (d:Int)]=ah (a++[d]):=by simp[ah]
def xY(n:Nat){l:List Nat}(hl:l.length<=1000000):cA (n+1) 140 [.sl (ah l)]=some (.sl (ah (ko l))):=by
 rw[Ue]
 delta G9 qB qC qT qS qX qZ iL iR Jn
 refine aa (z:=ah l) rfl ?_;have fin:∀ j:Nat,j<=l.length->(∀ i,j<=i->i<l.length->l.getD i 0=0)->(j=0\/l.getD (j-1) 0≠0)->(Option.bind (D.asSl (.sl (ah l))) λl13=>Option.bind (D.natOf (I (j:Int))) λi14=>Option.bind (D.cut l13 0 i14) λl15=>some (D.sl l15))=some (.sl (ah (ko l))):=by
  intro j hj hz hd;refine aa (z:=ah l) rfl (aa (z:=j) (by simp[D.natOf]) (aa (z:=ah (l.take j)) ?_ (by rw[vX hj hz hd])))
  simp only[D.cut];rw[if_pos ⟨zia _,by rw[ao];exact hj⟩]
  simp[ah,List.map_take]
 refine bc (λi s=>s=[I ((l.length-i:Nat):Int)]/\∀ k,l.length-i<=k->k<l.length->l.getD k 0=0) l.length 0 (zia _) ⟨by rw[ao];rfl,λk h1 h2=>by omega⟩ (λi hi s hJ=>?_) (λs hJ=>?_)
 ·obtain⟨rfl,hz⟩:=hJ;have hb:inR (((l.length-i:Nat):Int)-1):=by simp only[inR];omega
  have e1:((l.length-i:Nat):Int)-1=((l.length-i-1:Nat):Int):=by omega
  have hx:(ah l)[l.length-i-1]?=some (I (l.getD (l.length-i-1) 0:Nat)):=c7 (by omega)
  by_cases h0:l.getD (l.length-i-1) 0=0
  ·left;refine⟨[I ((l.length-(i+1):Nat):Int)],?_,rfl,λk h1 h2=>?_⟩
   ·refine aa cn (aa ae (aa (z:=true) (aH (by show((l.length-i:Nat):Int)>0;omega) ?_) (aa ae ?_)))
    ·refine aa (dF hb) (aa (z:=ah l) rfl (aa (z:=l.length-i-1) (by rw[e1,ao];exact ap (by omega)) (aa hx ?_)))
     rw[h0];rfl
    ·rw[if_pos rfl];refine aa (dF hb) ?_;rw[e1,Nat.sub_sub]
   ·by_cases e:k=l.length-i-1
    ·rw[e];exact h0
    ·exact hz k (by omega) h2
  ·right;refine⟨(0,[I ((l.length-i:Nat):Int)]),?_,fin _ (by omega) hz (.inr h0)⟩
   refine aa cn (aa ae (aa (z:=false) (aH (by show((l.length-i:Nat):Int)>0;omega) ?_) (aa ae rfl)))
   refine aa (dF hb) (aa (z:=ah l) rfl (aa (z:=l.length-i-1) (by rw[e1,ao];exact ap (by omega)) (aa hx ?_)))
   rw[bO,decide_eq_false (by omega)];rfl
 ·obtain⟨rfl,hz⟩:=hJ;refine⟨(0,[I ((l.length-l.length:Nat):Int)]),?_,fin _ (by omega) hz (.inl (by omega))⟩
  refine aa cn (aa ae (aa (z:=false) (aC (by show ¬ ((l.length-l.length:Nat):Int)>0;omega) rfl) (aa ae rfl)))
def CF(n:Nat)(l:List Nat)(k:Nat):cA (n+1) 141 [.sl (ah l),I (k:Int)]=some (I (l.getD k 0:Nat)):=by
 rw[Uf]
 delta Ha qX qL Jn
 refine aa (z:=ah l) rfl (aa ag (aa ae ?_));by_cases h:k<l.length
 ·refine aH (by show(k:Int)<((ah l).length:Int);rw[ao];omega) ?_
  exact aa (z:=ah l) rfl (aa (z:=k) (by rw[ao];exact ap h) (aa (c7 h) rfl))
 ·refine aC (by show ¬ (k:Int)<((ah l).length:Int);rw[ao];omega) ?_
  have:l.getD k 0=0:=by simp[List.getD,h]
  rw[this];rfl
def eX(l:List Nat)(i:Nat):Nat:=l.getD (2*i) 0+65536*l.getD (2*i+1) 0
abbrev U(n:Nat):D:=.int .u32 (n:Int)
def dV(l:List Nat):D:=.st ((List.range 16).map λi=>U (eX l i))
def am(x:Int):D:=.st [.bool false,.bool (decide (x<0)),dV (aG x.natAbs)]
def wR{l:List Nat}(h:dl l)(i:Nat):eX l i<4294967296:=by
 have:=h.getD (2*i);have:=h.getD (2*i+1);unfold eX;omega
def tg{l:List Nat}{i:Nat}(h:i<16):D.fld (dV l) i=some (U (eX l i)):=by simp[dV,D.fld,h]
def cW{x:Int}{i:Nat}(h:i<16):D.get (am x) [2,i]=some (U (eX (aG x.natAbs) i)):=
 aa (z:=dV (aG x.natAbs)) rfl (aa (tg h) rfl)
def oY{n:Int}(h:0<=n/\n<4294967296):IntKind.wrap .u32 n=n:=by
 obtain⟨h1,h2⟩:=h;simp only[IntKind.wrap,IntKind.signed,IntKind.bits];first
  | omega
  | (simp;omega)
def Kt(a:Nat):D.bin .rem (U a) (.int .u32 65536)=some (U (a%65536)):=by
 simp only[D.bin,if_true,show ¬ (65536:Int)=0 by decide,if_false]
 rw[show(65536:Int)=((65536:Nat):Int) from rfl,<-zmd]
def Ks{a:Nat}(h:a<4294967296):D.bin .quo (U a) (.int .u32 65536)=some (U (a/65536)):=by
 simp only[D.bin,if_true,show ¬ (65536:Int)=0 by decide,if_false]
 rw[show(65536:Int)=((65536:Nat):Int) from rfl,<-zHd,oY (by omega)]
def Eo{a b:Nat}(h:a+b<4294967296):D.bin .add (U a) (U b)=some (U (a+b)):=by
 simp only[D.bin,if_true];rw[oY (by omega)];simp
def Kr{a b:Nat}(h:a*b<4294967296):D.bin .mul (U a) (U b)=some (U (a*b)):=by
 simp only[D.bin,if_true];rw[show(a:Int)*(b:Int)=((a*b:Nat):Int) by simp,oY (by omega)]
def rC{a:Nat}(h:a<4294967296):D.conv .i64 (U a)=some (I (a:Int)):=by
 simp only[D.conv];rw[jz (by simp only[inR];omega)]
def BE{a:Nat}(h:a<4294967296):D.conv .u32 (I (a:Int))=some (U a):=by
 simp only[D.conv];rw[oY (by omega)]
def AQ(l:List Nat)(k:Nat):((List.range k).map λi=>l.getD i 0)=if k<=l.length then l.take k else l++List.replicate (k-l.length) 0:=by
 apply zcc;intro i;by_cases h:i<k
 ·rw[zcb,zgd h];split
  ·simp[h,List.getD,show i<l.length by omega]
  ·by_cases h2:i<l.length
   ·simp[zNc,h2,List.getD]
   ·simp[zNc,h2,List.getD,List.getElem?_replicate,show i-l.length<k-l.length by omega]
 ·rw[zcb,show(List.range k)[i]?=none by simp;omega]
  split
  ·simp;omega
  ·simp;omega
def Gj{l:List Nat}(hd:dl l){k:Nat}(hk:l.length<=k):ko ((List.range k).map λi=>l.getD i 0)=aG (a7 l):=by
 have e:((List.range k).map λi=>l.getD i 0)=l++List.replicate (k-l.length) 0:=by
  rw[AQ];split
  ·have:k=l.length:=by omega
   subst this;simp
  ·rfl
 rw[e,gV (hd.append (λx hx=>by rw[zsd hx];decide)),nu]
def zQ(n:Nat){x:Int}(hx:x.natAbs<65536^32):cA (n+2) 77 [am x]=some (.sl (ah (aG x.natAbs))):=by
 rw[Yn]
 delta Ol qG qB qC qV qW qZ iL iR Jn
 have hd:=aZ x.natAbs;have hlen:=bG 32 _ hx;refine bc (λi s=>s=[.sl (ah ((List.range (2*i)).map λi=>(aG x.natAbs).getD i 0)),I (i:Int)]) 16 0 (zia _) rfl (λi hi s hJ=>?_) (λs hJ=>?_)
 ·subst hJ;left;refine⟨_,?_,rfl⟩;refine aa ag (aa ae (aH (by show(i:Int)<16;omega) ?_))
  have hlt:=wR hd i;have h1:=hd.getD (2*i);refine aa (z:=i) (ap hi) (aa (cW hi) (aa (Kt _) (aa (rC (by omega)) (aa (z:=i) (ap hi) (aa (cW hi) (aa (Ks hlt) (aa (rC (by omega)) ?_)))))))
  rw[if_pos (by simp only[g0,D.els,ao,zta,zVb,zBa,zib];omega)]
  refine aa (aw (ay (i:=i) (by omega))) ?_
  have e1:eX (aG x.natAbs) i%65536=(aG x.natAbs).getD (2*i) 0:=by unfold eX;omega
  have e2:eX (aG x.natAbs) i/65536=(aG x.natAbs).getD (2*i+1) 0:=by unfold eX;omega
  rw[e1,e2,show 2*(i+1)=2*i+1+1 by omega,zGb,zGb]
  simp[g0,D.els,ah]
 ·subst hJ;refine⟨(0,[.sl (ah ((List.range (2*16)).map λi=>(aG x.natAbs).getD i 0))]),?_,?_⟩
  ·exact aa ag (aa ae (aC (by decide) rfl))
  ·refine aa (xY n (by simp)) ?_
   rw[Gj hd hlen,av]
end Sy
end
noncomputable section
namespace Sy
open Go Go.Proofs Geo
def kn(l:List Nat)(k j:Nat):(l.take k).getD j 0=if j<k then l.getD j 0 else 0:=by
 simp only[List.getD,List.getElem?_take];split<;>simp
def ti{l l':List Nat}{q v:Nat}{a b:D}(hq:q<16)(h:∀ i,eX l' i=if i=q then v else eX l i):D.set (.st [a,b,dV l]) [2,q] (U v)=some (.st [a,b,dV l']):=by
 have h1:D.set (dV l) [q] (U v)=some (dV l'):=by
  have e:((List.range 16).map λi=>U (eX l i))[q]?=some (U (eX l q)):=by simp[hq]
  refine aa e (aa (z:=U v) rfl ?_);simp only[dV,zda,D.st.injEq];apply zcc;intro i;rw[List.getElem?_set];by_cases hi:q=i
  ·subst hi;simp[hq,h]
  ·rw[if_neg hi,zcb,zcb];by_cases h16:i<16
   ·rw[zgd h16];simp[h,show i≠q from λe=>hi e.symm]
   ·rw[show(List.range 16)[i]?=none by simp;omega];rfl
 exact aa (z:=dV l) rfl (aa h1 rfl)
def Km(k:Nat):D.bin .rem (I (k:Int)) (.int .i64 2)=some (I (k%2:Nat)):=by
 rw[rW (by decide),show(2:Int)=((2:Nat):Int) from rfl,<-zmd]
def jC{a b:Nat}(hb:b≠0)(ha:(a:Int)<=9223372036854775807):D.bin .quo (I (a:Int)) (I (b:Int))=some (I (a/b:Nat)):=by
 have:((a/b:Nat):Int)<=9223372036854775807:=by have:=zYc a b;omega
 have h0:0<=((a/b:Nat):Int):=Int.natCast_nonneg _;rw[uI (by omega) (by rw[<-zHd];simp only[inR];omega),<-zHd]
def lu{a b:Nat}(hb:b≠0):D.bin .rem (I (a:Int)) (I (b:Int))=some (I (a%b:Nat)):=by
 rw[rW (by omega),<-zmd]
def yD{a b:D}{l:List Nat}{i:Nat}(h:i<16):D.get (.st [a,b,dV l]) [2,i]=some (U (eX l i)):=
 aa (z:=dV l) rfl (aa (tg h) rfl)
def sgn(neg:Bool)(m:Nat):Int:=if neg then -(m:Int) else m
def JP(n:Nat){l:List Nat}{neg:Bool}(hd:dl l)(hl:l.length<=1000000)(hv:a7 l<65536^32):cA (n+2) 81 [.bool neg,.sl (ah l)]=some (am (sgn neg (a7 l))):=by
 rw[VM]
 delta Mk qG qB qC qT qS qX qL qZ iL iR Jn
 have hlen:=bG 32 _ hv;have hdd:=aZ (a7 l);have hen:am (sgn neg (a7 l))=.st [.bool false,.bool (neg&&decide (0<(aG (a7 l)).length)),dV (aG (a7 l))]:=by
  have e1:(sgn neg (a7 l)).natAbs=a7 l:=by unfold sgn;split<;>omega
  have e2:(0<(aG (a7 l)).length)↔a7 l≠0:=by
   rw[List.length_pos_iff];exact not_congr sB
  unfold am;rw[e1];have:decide (sgn neg (a7 l)<0)=(neg&&decide (0<(aG (a7 l)).length)):=by
   simp only[e2,sgn];cases neg
   ·simp<;>omega
   ·by_cases h:a7 l=0
    ·simp[h]
    ·simp[h]<;>omega
  rw[this]
 rw[hen];refine aa (xY n hl) ?_;rw[gV hd];generalize aG (a7 l)=d at hlen hdd;refine aa (z:=ah d) rfl (aa cn (aa ae (aC (by show ¬ ((ah d).length:Int)>32;rw[ao];omega) ?_)))
 refine aa ae (aa (z:=neg&&decide (0<d.length)) ?_ ?_)
 ·cases neg
  ·rfl
  ·rw[if_pos rfl];refine aa (z:=ah d) rfl (aa cn ?_);rw[ae,ao];simp
 refine bc (λk s=>s=[I (k:Int),.st [.bool false,.bool (neg&&decide (0<d.length)),dV (d.take k)]]) d.length 0 (zia _) rfl (λk hk s hJ=>?_) (λs hJ=>?_)
 ·subst hJ;left;refine⟨_,?_,rfl⟩;have hdk:=hdd.getD k;refine aa (z:=ah d) rfl (aa ag (aa ae (aH (by show(k:Int)<((ah d).length:Int);rw[ao];omega) ?_)))
  refine aa (z:=(0,[.st [.bool false,.bool (neg&&decide (0<d.length)),dV (d.take (k+1))]])) ?_ (aa (aw (ay (i:=k) (by omega))) rfl)
  refine aa (Km k) ?_;have q1:k/2<16:=by omega
  have hq:D.bin .quo (I (k:Int)) (.int .i64 2)=some (I (k/2:Nat)):=jC (b:=2) (by decide) (by omega)
  have hlk:eX (d.take k) (k/2)=if k%2=0 then 0 else d.getD (2*(k/2)) 0:=by
   simp only[eX,kn];by_cases hk2:k%2=0
   ·rw[if_pos hk2,if_neg (show ¬ 2*(k/2)<k by omega),if_neg (show ¬ 2*(k/2)+1<k by omega)]
   ·rw[if_neg hk2,if_pos (show 2*(k/2)<k by omega),if_neg (show ¬ 2*(k/2)+1<k by omega)];omega
  have hd2:=hdd.getD (2*(k/2));by_cases hk2:k%2=0
  ·rw[if_pos hk2] at hlk;rw[hk2];refine aa (z:=true) rfl ?_;rw[if_pos rfl];refine aa hq (aa hq (aa (ap q1) (aa (yD q1) (aa (z:=ah d) rfl (aa (z:=k) (by rw[ao];exact ap hk) (aa (c7 hk) (aa (BE (by omega)) (aa (Eo (by rw[hlk];omega)) (aa (ap q1) (aa (ti q1 (l':=d.take (k+1)) ?_) rfl))))))))))
   intro i;by_cases hi:i=k/2
   ·rw[if_pos hi,hlk,hi];simp only[eX,kn];rw[if_pos (show 2*(k/2)<k+1 by omega),if_neg (show ¬ 2*(k/2)+1<k+1 by omega),show 2*(k/2)=k by omega];omega
   ·rw[if_neg hi];simp only[eX,kn];have a1:(2*i<k+1)↔(2*i<k):=by omega
    have a2:(2*i+1<k+1)↔(2*i+1<k):=by omega
    simp only[a1,a2]
  ·rw[if_neg hk2] at hlk;refine aa (z:=false) (by rw[show k%2=1 by omega];rfl) ?_
   rw[if_neg (by decide)]
   refine aa hq (aa hq (aa (ap q1) (aa (yD q1) (aa (z:=ah d) rfl (aa (z:=k) (by rw[ao];exact ap hk) (aa (c7 hk) (aa (BE (by omega)) (aa (Kr (b:=65536) (by omega)) (aa (Eo (by rw[hlk];omega)) (aa (ap q1) (aa (ti q1 (l':=d.take (k+1)) ?_) rfl)))))))))))
   intro i;by_cases hi:i=k/2
   ·rw[if_pos hi,hlk,hi];simp only[eX,kn];rw[if_pos (show 2*(k/2)<k+1 by omega),if_pos (show 2*(k/2)+1<k+1 by omega),show 2*(k/2)+1=k by omega];omega
   ·rw[if_neg hi];simp only[eX,kn];have a1:(2*i<k+1)↔(2*i<k):=by omega
    have a2:(2*i+1<k+1)↔(2*i+1<k):=by omega
    simp only[a1,a2]
 ·subst hJ;refine⟨(0,[.st [.bool false,.bool (neg&&decide (0<d.length)),dV (d.take d.length)]]),?_,?_⟩
  ·exact aa (z:=ah d) rfl (aa ag (aa ae (aC (by show ¬ (d.length:Int)<((ah d).length:Int);rw[ao];omega) rfl)))
  ·rw[zKa];rfl
def VC(n:Nat){a b:List Nat}(ha:dl a)(hb:dl b)(hla:a.length<=900000)(hlb:b.length<=900000):cA (n+2) 82 [.sl (ah a),.sl (ah b)]=some (.sl (ah (aG (a7 a+a7 b)))):=by
 rw[Yr]
 delta Oq qB qC qS qV qW qZ iL iR Jn
 obtain⟨M,hM⟩:∃ M,M=max a.length b.length:=⟨_,rfl⟩;have hmax:∀ k:Nat,D.max2 (D.int .i64 (ah a).length) (D.int .i64 (ah b).length)=some (I (M:Int)):=λ_=>by
  rw[Fk,ao,ao,hM];congr 2;omega
 refine bc (λk s=>∃ (out:List Nat) (c:Nat),s=[.sl (ah out),I (c:Int),I (k:Int)]/\out.length=k/\dl out/\c<=1/\a7 out+c*65536^k=vt a k+vt b k) (M+1) 0 (zia _) ⟨[],0,rfl,rfl,(by intro d hd;cases hd),by omega,by simp[a7,vt]⟩ (λk hk s hJ=>?_) (λs hJ=>?_)
 ·obtain⟨out,c,rfl,ho,hdo,hc,hv⟩:=hJ;left;have h1:=ha.getD k;have h2:=hb.getD k;refine⟨[.sl (ah (out++[(a.getD k 0+b.getD k 0+c)%65536])),I ((a.getD k 0+b.getD k 0+c)/65536:Nat),I ((k+1:Nat):Int)],?_,out++[(a.getD k 0+b.getD k 0+c)%65536],(a.getD k 0+b.getD k 0+c)/65536,rfl,by simp[ho],hdo.append (λx hx=>by simp at hx;omega),by omega,?_⟩
  ·refine aa (z:=ah a) rfl (aa (z:=ah b) rfl (aa (hmax 0) (aa (aw (ay (i:=M) (by omega))) (aa ag (aa ae (aH (by show(k:Int)<(M:Int)+1;omega) ?_))))))
   refine aa (CF n a k) (aa (CF n b k) (aa (aw (by simp only[inR];omega)) (aa (aw (by simp only[inR];omega)) ?_)))
   rw[show(((a.getD k 0:Nat):Int)+((b.getD k 0:Nat):Int)+(c:Int))=((a.getD k 0+b.getD k 0+c:Nat):Int) by omega]
   refine aa (lu (b:=65536) (by decide)) ?_
   rw[if_pos (by simp only[g0,D.els,ao,zBa,zib];omega)]
   refine aa (jC (b:=65536) (by decide) (by omega)) (aa (aw (ay (i:=k) (by omega))) ?_)
   simp only[g0,D.els,uR];rfl
  ·rw[lH,ho,vt,vt,zmb];have e:a.getD k 0+b.getD k 0+c=(a.getD k 0+b.getD k 0+c)%65536+65536*((a.getD k 0+b.getD k 0+c)/65536):=by omega
   have e2:a7 [(a.getD k 0+b.getD k 0+c)%65536]=(a.getD k 0+b.getD k 0+c)%65536:=by simp[a7]
   rw[e2];generalize 65536^k=B at *;generalize (a.getD k 0+b.getD k 0+c)%65536=r at *;generalize (a.getD k 0+b.getD k 0+c)/65536=q at *;have:(a.getD k 0+b.getD k 0+c)*B=(r+65536*q)*B:=by rw[e]
   rw[zYa,zYa,zYa] at this;rw[show q*(B*65536)=65536*q*B by rw[zEa B,<-z1a,zEa q],zEa B r]
   omega
 ·obtain⟨out,c,rfl,ho,hdo,hc,hv⟩:=hJ;refine⟨(0,[.sl (ah out)]),?_,?_⟩
  ·refine aa (z:=ah a) rfl (aa (z:=ah b) rfl (aa (hmax 0) (aa (aw (ay (i:=M) (by omega))) (aa ag (aa ae (aC (by show ¬ (((M+1:Nat):Int)<(M:Int)+1);omega) rfl))))))
  ·refine aa (xY n (l:=out) (by omega)) ?_
   have va:vt a (M+1)=a7 a:=ie (by omega)
   have vb:vt b (M+1)=a7 b:=ie (by omega)
   have la:=t6 ha M;have lb:=t6 hb M;rw[ie (show a.length<=M by omega)] at la
   rw[ie (show b.length<=M by omega)] at lb
   have hc0:c=0:=by
    rcases zqb c with h|h
    ·exact h
    ·have:1*65536^(M+1)<=c*65536^(M+1):=zxa _ h;rw[zmb] at this;rw[va,vb,zmb] at hv;omega
   subst hc0;rw[gV hdo,<-va,<-vb,<-hv];simp
def zP(n:Nat){x:Int}(hx:inR x):cA (n+3) 34 [I x]=some (am x):=by
 rw[X5]
 delta N0 qB qC Jn
 obtain⟨h1,h2⟩:=hx;have d1:∀ m:Nat,(m:Int)<=9223372036854775807->dl [m%65536,m/65536%65536,m/4294967296%65536,m/281474976710656]:=λm hm d hd=>by
  simp only[zCa,zxc,or_false] at hd;omega
 have d2:∀ m:Nat,a7 [m%65536,m/65536%65536,m/4294967296%65536,m/281474976710656]=m:=λm=>by
  simp only[a7];omega
 have d3:∀ m:Nat,D.sl [I (m%65536:Nat),I (m/65536%65536:Nat),I (m/4294967296%65536:Nat),I (m/281474976710656:Nat)]=.sl (ah [m%65536,m/65536%65536,m/4294967296%65536,m/281474976710656]):=λm=>rfl;have big:∀ m:Nat,(m:Int)<=9223372036854775808->m<65536^32:=λm hm=>by
  have:(65536:Nat)^4<=65536^32:=zua (by decide) (by decide)
  have e:(65536:Nat)^4=18446744073709551616:=by decide
  omega
 refine aa iB (aa ae ?_);by_cases h:x ≥ 0
 ·refine aH h ?_;obtain⟨m,rfl⟩:=zvc h;refine aa (lu (b:=65536) (by decide)) (aa (jC (b:=65536) (by decide) h2) (aa (lu (b:=65536) (by decide)) (aa (jC (b:=4294967296) (by decide) h2) (aa (lu (b:=65536) (by decide)) (aa (jC (b:=281474976710656) (by decide) h2) ?_)))))
  refine aa (z:=am m) ?_ rfl;rw[d3,JP n (d1 m h2) (by simp) (by rw[d2];exact big m (by omega)),d2];rfl
 ·refine aC h ?_;obtain⟨m,hm⟩:=zvc (show 0<=-(x+1) by omega)
  have h3:(m:Int)<=9223372036854775807:=by omega
  refine aa (aw (by simp only[inR];omega)) (aa (ra (by simp only[inR];omega)) ?_)
  rw[hm];refine aa (lu (b:=65536) (by decide)) (aa (jC (b:=65536) (by decide) h3) (aa (lu (b:=65536) (by decide)) (aa (jC (b:=4294967296) (by decide) h3) (aa (lu (b:=65536) (by decide)) (aa (jC (b:=281474976710656) (by decide) h3) ?_)))))
  rw[d3];refine aa (VC n (b:=[1]) (d1 m h3) (λd hd=>by simp at hd;omega) (by simp) (by simp)) (aa (z:=am x) ?_ rfl)
  rw[d2];have e1:a7 [1]=1:=rfl;rw[e1,JP n (aZ _) ?_ ?_,av]
  ·congr 2;simp only[sgn,if_true];omega
  ·have:=bG 32 _ (big (m+1) (by omega));omega
  ·rw[av];exact big (m+1) (by omega)
end Sy
end
noncomputable section
namespace Sy
open Go Go.Proofs Geo
def In(x:Int):Prop:=x.natAbs<65536^32
def In.of{x:Int}(h:inR x):In x:=by
 have:(65536:Nat)^4<=65536^32:=zua (by decide) (by decide)
 have e:(65536:Nat)^4=18446744073709551616:=by decide
 obtain⟨h1,h2⟩:=h;unfold In;omega
def ir(m i:Nat):eX (aG m) i=m/4294967296^i%4294967296:=by
 have e1:65536^(2*i)=4294967296^i:=by rw[Nat.pow_mul]
 have e2:65536^(2*i+1)=4294967296^i*65536:=by rw[zmb,e1]
 unfold eX;rw[pA,pA,e1,e2,<-zXa];generalize m/4294967296^i=q;omega
def JZ(m:Nat):eX (aG m) 0=m%4294967296:=by rw[ir,zqc,zSc]
def Fd(m:Nat):eX (aG m) 1=m/4294967296%4294967296:=by rw[ir,Nat.pow_one]
def Nm{m i:Nat}(h:m<18446744073709551616)(hi:2<=i):eX (aG m) i=0:=by
 rw[ir];have:(4294967296:Nat)^2<=4294967296^i:=zua (by decide) hi
 rw[z0a (by omega)]
def JL{a b:Nat}:D.beq (U a) (U b)=decide (a=b):=by
 simp only[D.beq,decide_true,zTb];by_cases h:a=b
 ·simp[h]
 ·simp[h];omega
def tj{m:Nat}(hm:m<65536^32)(h:∀ i,i<16->eX (aG m) i=0):m=0:=by
 have hz:∀ i,i<32->(aG m).getD i 0=0:=λi hi=>by
  have:=h (i/2) (by omega)
  unfold eX at this;rcases Nat.mod_two_eq_zero_or_one i with e|e
  ·rw[show 2*(i/2)=i by omega] at this;omega
  ·rw[show 2*(i/2)+1=i by omega] at this;omega
 have hv:∀ k,k<=32->vt (aG m) k=0:=λk=>by
  induction k with
  | zero=>intro _;rfl
  | succ k ih=>intro hk;rw[vt,ih (by omega),hz k (by omega)];simp
 have:=hv 32 (by omega)
 rw[ie (bG 32 _ hm),av] at this;exact this
def zB(m i:Nat):Bool:=(List.range i).all λk=>decide (eX (aG m) k=0)
def JF(m i:Nat):zB m (i+1)=(zB m i&&decide (eX (aG m) i=0)):=by
 unfold zB;rw[zGb,zhd];simp
def Sw(n:Nat){x:Int}(hx:In x):cA (n+1) 139 [am x]=some (.bool true):=by
 rw[NH]
 delta Eb qG qB qC qT qN qZ iL iR Jn
 have fin:∀ z:Bool,(z=true->x=0)->(Option.bind (D.get (am x) [0]) λx10=>Option.bind (D.truth x10) λb11=>
   if b11 then(Option.bind (D.truth (.bool z)) λb12=>Option.bind (if b12 then(Option.bind (D.get (am x) [1]) λx13=>Option.bind (D.un .not x13) λx14=>D.truth x14) else(some false)) λb15=>
   some (D.bool b15)) else(Option.bind (D.un .not (.bool z)) λx16=>Option.bind (D.truth x16) λb17=>
   Option.bind (if b17 then(some true) else(Option.bind (D.get (am x) [1]) λx18=>Option.bind (D.un .not x18) λx19=>D.truth x19)) λb20=>some (D.bool b20)))=some (.bool true):=by
  intro z hz;refine aa (z:=.bool false) rfl (aa (z:=false) rfl ?_);rw[if_neg (by decide)]
  refine aa (z:=.bool (!z)) rfl (aa (z:=!z) rfl ?_);cases z with
  | false=>rfl
  | true=>
   have:=hz rfl;subst this;rfl
 refine bc (λi s=>s=[.bool (zB x.natAbs i),I (i:Int)]) 16 0 (zia _) rfl (λi hi s hJ=>?_) (λs hJ=>?_)
 ·subst hJ;left;refine⟨_,?_,rfl⟩;refine aa ag (aa ae (aH (by show(i:Int)<16;omega) (aa ae (aa (z:=zB x.natAbs (i+1)) ?_ (aa (aw (ay (i:=i) (by omega))) rfl)))))
  rw[JF];cases zB x.natAbs i with
  | false=>rfl
  | true=>
   rw[if_pos rfl];refine aa (ap hi) (aa (cW hi) ?_);show D.truth (D.bool (D.beq (U (eX (aG x.natAbs) i)) (U 0)))=_;rw[JL,ae];rfl
 ·subst hJ;refine⟨(0,[.bool (zB x.natAbs 16)]),?_,?_⟩
  ·exact aa ag (aa ae (aC (by decide) rfl))
  ·refine fin _ λh=>?_;have:=tj hx (λi hi=>of_decide_eq_true (zpa.1 h i (zJa.2 hi)));omega
def se(n:Nat){x:Int}(hx:In x):cA (n+2) 76 [am x]=some (.bool true):=by
 rw[VL]
 delta Mj qG qT
 exact aa (Sw n hx) (aa ae rfl)
def sd(n:Nat){x:Int}(hx:x.natAbs<4611686018427387904):cA (n+3) 124 [am x]=some (.tup [I x,.bool true]):=by
 have hin:In x:=In.of (by simp only[inR];omega)
 rw[Lx]
 delta Cw qG qB qC qT qN qZ iL iR Jn
 have l1:=Fd x.natAbs;refine aa (se n hin) (aa bv (aa ae (aa (z:=false) ?_ (aa ae ?_))))
 ·rw[if_neg (by decide)]
  refine aa (cW (i:=1) (by decide)) ?_
  rw[l1];have:D.bin .geq (U (x.natAbs/4294967296%4294967296)) (.int .u32 1073741824)=some (.bool false):=by
   simp only[D.bin,if_true];rw[decide_eq_false (by omega)]
  exact aa this rfl
 ·rw[if_neg (by decide)]
  refine bc (λi s=>s=[I (i:Int)]/\2<=i) 16 2 (by decide) ⟨rfl,by decide⟩ (λi hi s hJ=>?_) (λs hJ=>?_)
  ·obtain⟨rfl,h2⟩:=hJ;left;refine⟨_,?_,rfl,by omega⟩
   refine aa ag (aa ae (aH (by show(i:Int)<16;omega) ?_))
   refine aa (ap hi) (aa (cW hi) ?_);rw[Nm (by omega) h2]
   refine aa (z:=false) rfl ?_;rw[if_neg (by decide)]
   exact aa (aw (ay (i:=i) (by omega))) rfl
  ·obtain⟨rfl,_⟩:=hJ;refine⟨(1,[]),aa ag (aa ae (aC (by decide) rfl)),?_⟩
   rw[if_neg (by decide)]
   have e0:=JZ x.natAbs;refine aa (cW (i:=1) (by decide)) (aa (rC (wR (aZ _) 1)) ?_)
   rw[l1];refine aa (co (by simp only[inR];omega)) (aa (cW (i:=0) (by decide)) (aa (rC (wR (aZ _) 0)) ?_))
   rw[e0];refine aa (aw (by simp only[inR];omega)) (aa (z:=.bool (decide (x<0))) rfl (aa ae ?_))
   by_cases hx0:x<0
   ·refine aH hx0 ?_;refine aa (ra (by simp only[inR];omega)) ?_
    congr 4;omega
   ·refine aC hx0 ?_;congr 4;omega
def Sx(n:Nat){x:Int}(hx:In x):cA (n+3) 142 [am x]=some (am x.natAbs):=by
 rw[Ug]
 delta Hb qN
 have hl:=bG 32 _ hx;refine aa (se n hx) (aa bv (aa ae ?_));refine aa (zQ n hx) (aa (z:=am x.natAbs) ?_ rfl);rw[JP n (aZ _) (by omega) (by rw[av];exact hx),av];rfl
def OF(n:Nat){a b:List Nat}(ha:dl a)(hb:dl b)(hla:a.length<=900000)(hlb:b.length<=900000):cA (n+2) 78 [.sl (ah a),.sl (ah b)]=some (.bool (decide (a7 a<a7 b))):=by
 rw[Yo]
 delta Om qB qC qT qS qZ iL iR Jn
 obtain⟨M,hM⟩:∃ M,M=max a.length b.length:=⟨_,rfl⟩;have hmax:D.max2 (D.int .i64 (ah a).length) (D.int .i64 (ah b).length)=some (I (M:Int)):=by
  rw[Fk,ao,ao,hM];congr 2;omega
 have hva:vt a M=a7 a:=ie (by omega)
 have hvb:vt b M=a7 b:=ie (by omega)
 refine aa (z:=ah a) rfl (aa (z:=ah b) rfl (aa hmax (aa (dF (by simp only[inR];omega)) ?_)))
 refine bc (λi s=>s=[I ((M:Int)-1-i)]/\(a7 a<a7 b↔vt a (M-i)<vt b (M-i))) M 0 (zia _) ⟨by simp,by simp[hva,hvb]⟩ (λi hi s hJ=>?_) (λs hJ=>?_)
 ·obtain⟨rfl,hz⟩:=hJ;obtain⟨k,hk⟩:∃ k,M-i=k+1:=⟨M-i-1,by omega⟩
  rw[hk,vt,vt] at hz;have e1:(M:Int)-1-i=(k:Int):=by omega
  rw[e1];have la:=t6 ha k;have lb:=t6 hb k;have q1:=CF n a k;have q2:=CF n b k;by_cases hab:a.getD k 0=b.getD k 0
  ·left;refine⟨[I ((M:Int)-1-(i+1:Nat))],?_,rfl,?_⟩
   ·refine aa iB (aa ae (aH (by show(k:Int) ≥ 0;omega) (aa q1 (aa q2 (aa (z:=false) ?_ ?_)))))
    ·rw[hab,bR,decide_eq_true rfl];rfl
    ·rw[if_neg (by decide)]
     refine aa (dF (by simp only[inR];omega)) ?_
     congr 4;omega
   ·rw[hz,hab,show M-(i+1)=k by omega];omega
  ·right;refine⟨(0,[.bool (decide (a.getD k 0<b.getD k 0))]),?_,?_⟩
   ·refine aa iB (aa ae (aH (by show(k:Int) ≥ 0;omega) (aa q1 (aa q2 (aa (z:=true) ?_ ?_)))))
    ·rw[bR,decide_eq_false hab];rfl
    ·rw[if_pos rfl];refine aa q1 (aa q2 (aa ag ?_));simp
   ·rw[if_pos rfl];show some (D.bool (decide (a.getD k 0<b.getD k 0)))=_;congr 3;rw[eq_iff_iff,hz];generalize a.getD k 0=u at *;generalize b.getD k 0=v at *;generalize 65536^k=B at *;constructor
    ·intro h;have:(u+1)*B<=v*B:=zxa _ h;rw[zYa] at this;omega
    ·intro h;rcases zna u v with h1|h1
     ·exact h1
     ·have:(v+1)*B<=u*B:=zxa _ (by omega)
      rw[zYa] at this;omega
 ·obtain⟨rfl,hz⟩:=hJ;refine⟨(1,[]),?_,?_⟩
  ·exact aa iB (aa ae (aC (by show ¬ ((M:Int)-1-(M:Nat)) ≥ 0;omega) rfl))
  ·rw[if_neg (by decide)]
   have:¬ a7 a<a7 b:=by rw[hz];simp[vt]
   rw[decide_eq_false this]
def LP(n:Nat){x y:Int}(hx:In x)(hy:In y):cA (n+3) 32 [am x,am y]=some (I (bU x y)):=by
 rw[u32]
 delta NY qG qT qN Jn
 have hlx:=bG 32 _ hx;have hly:=bG 32 _ hy;have gx:=se n hx;have gy:=se n hy;have dx:=zQ n hx;have dy:=zQ n hy;refine aa gx (aa bv (aa ae (aa (z:=false) rfl (aa (z:=false) rfl ?_))));rw[if_neg (by decide)]
 refine aa gx (aa bv (aa (z:=false) rfl ?_));rw[if_neg (by decide)]
 refine aa gy (aa bv (aa (z:=false) rfl ?_));rw[if_neg (by decide)]
 refine aa (z:=.bool (decide (x<0))) rfl (aa (z:=.bool (decide (y<0))) rfl ?_);have l1:=OF n (aZ x.natAbs) (aZ y.natAbs) (by omega) (by omega)
 have l2:=OF n (aZ y.natAbs) (aZ x.natAbs) (by omega) (by omega)
 simp only[av] at l1 l2;have hb:∀ p q:Bool,D.truth (.bool (!(D.beq (.bool p) (.bool q))))=some (!(p==q)):=λp q=>rfl;rw[hb];refine aa rfl ?_;by_cases h1:x<0<;>by_cases h2:y<0
 ·rw[decide_eq_true h1,decide_eq_true h2,if_neg (by decide)]
  refine aa dx (aa dy (aa (z:=(0,[.sl (ah (aG y.natAbs)),.sl (ah (aG x.natAbs))])) ?_ ?_))
  ·refine aa (z:=.bool true) (by rw[show D.get (am x) [1]=some (.bool (decide (x<0))) from rfl,decide_eq_true h1]) (aa (z:=true) rfl ?_)
   rw[if_pos rfl];exact aa dy (aa dx rfl)
  ·refine aa l2 (aa l1 (aa ae ?_));by_cases h3:y.natAbs<x.natAbs
   ·refine aH h3 ?_;simp[bU,show x<y by omega]
   ·refine aC h3 (aa ae ?_);by_cases h4:x.natAbs<y.natAbs
    ·refine aH h4 ?_;simp[bU,show ¬ x<y by omega,show y<x by omega]
    ·refine aC h4 ?_;simp[bU,show ¬ x<y by omega,show ¬ y<x by omega]
 ·rw[decide_eq_true h1,decide_eq_false h2,if_pos (by decide)]
  refine aa (z:=.bool true) (by rw[show D.get (am x) [1]=some (.bool (decide (x<0))) from rfl,decide_eq_true h1]) (aa (z:=true) rfl ?_)
  simp[bU,show x<y by omega]
 ·rw[decide_eq_false h1,decide_eq_true h2,if_pos (by decide)]
  refine aa (z:=.bool false) (by rw[show D.get (am x) [1]=some (.bool (decide (x<0))) from rfl,decide_eq_false h1]) (aa (z:=false) rfl ?_)
  simp[bU,show ¬ x<y by omega,show y<x by omega]
 ·rw[decide_eq_false h1,decide_eq_false h2,if_neg (by decide)]
  refine aa dx (aa dy (aa (z:=(0,[.sl (ah (aG x.natAbs)),.sl (ah (aG y.natAbs))])) ?_ ?_))
  ·refine aa (z:=.bool false) (by rw[show D.get (am x) [1]=some (.bool (decide (x<0))) from rfl,decide_eq_false h1]) (aa (z:=false) rfl rfl)
  ·refine aa l1 (aa l2 (aa ae ?_));by_cases h3:x.natAbs<y.natAbs
   ·refine aH h3 ?_;simp[bU,show x<y by omega]
   ·refine aC h3 (aa ae ?_);by_cases h4:y.natAbs<x.natAbs
    ·refine aH h4 ?_;simp[bU,show ¬ x<y by omega,show y<x by omega]
    ·refine aC h4 ?_;simp[bU,show ¬ x<y by omega,show ¬ y<x by omega]
end Sy
end
noncomputable section
namespace Sy
open Go Go.Proofs Geo
def Wd(x:Int):Prop:=x.natAbs<4611686018427387904
theorem Wd.inR{x:Int}(h:Wd x):inR x:=by unfold Wd at h;simp only[Sy.inR];omega
theorem Wd.In{x:Int}(h:Wd x):In x:=In.of h.inR
def Sz(n:Nat){a b:Int}(ha:Wd a)(hb:b≠0)(hd:b ∣ a):cA (n+1) 144 [I a,I b]=some (I (a/b)):=by
 rw[Ui]
 delta Hd qB qT Jn
 obtain⟨q,rfl⟩:=hd;have e1:(b*q).tdiv b=q:=ztd _ hb;have e2:b*q/b=q:=zZa _ hb;have e3:(b*q).tmod b=0:=Int.mul_tmod_right ..;have hq:Sy.inR q:=by
  have:q.natAbs<=(b*q).natAbs:=by rw[zHa];exact zsb _ (by omega)
  unfold Wd at ha;simp only[Sy.inR];omega
 rw[e2];refine aa (uI hb (by rw[e1];exact hq)) (aa (z:=(0,[I q])) (aa (rW hb) ?_) rfl)
 rw[e1,e3];exact aa (z:=false) rfl (aa (z:=false) rfl (aa ae rfl))
def OG(n:Nat){a b:Int}(ha:Wd a)(hb:Wd b):cA (n+4) 85 [am a,am b]=some (am (Nat.gcd a.natAbs b.natAbs:Nat)):=by
 rw[VN]
 delta Ml qB qC qT qN qS qZ iL iR Jn
 refine aa (sd n ha) (aa (z:=I a) rfl (aa (z:=.bool true) rfl (aa (sd n hb) (aa (z:=I b) rfl (aa (z:=.bool true) rfl (aa (z:=true) rfl (aa (z:=true) rfl (aa (z:=true) rfl ?_))))))));rw[if_pos rfl];obtain⟨r,h1,h2⟩:=yA (body:=λ(v1:List D)=>
  Option.bind (D.truth (D.bool (!(D.beq (gx v1 1) (D.int .i64 0))))) λb2=>
  if b2 then(Option.bind (D.bin .rem (gx v1 0) (gx v1 1)) λx3=>
  some (Sum.inl [(gx v1 1),x3])) else(some (Sum.inr (0,[(gx v1 0)]))))
  (λa b hb=>by simp only[g0,g1,bO,ae,zba,hb,decide_false,zSb,if_true,rW hb])
  (λa=>by simp only[g0,g1,bO,ae,zba,decide_true,zac,zza,if_false]) _ a b rfl
 refine wT h1 ?_;have hg:Nat.gcd a.natAbs b.natAbs<=4611686018427387903:=by unfold Wd at ha hb;exact sU (by omega) (by omega)
 have hr:Sy.inR r:=by simp only[Sy.inR];omega
 refine aa (zP n hr) (aa (Sx n (In.of hr)) ?_);rw[h2]
def LR(n:Nat){x:Int}(hx:In x):cA (n+3) 83 [am x]=some (I (sg x)):=by
 rw[Ys]
 delta Ot qG qT qN qS Jn
 refine aa (se n hx) (aa bv (aa (z:=false) rfl (aa (z:=decide (x=0)) ?_ (aa ae ?_))))
 ·rw[if_neg (by decide)]
  refine aa (zQ n hx) (aa (z:=ah (aG x.natAbs)) rfl ?_);rw[ae,ao];show some (D.beq (I ((aG x.natAbs).length:Nat)) (I (0:Nat)))=_;rw[bR];congr 1;rw[decide_eq_decide,zuc,sB];omega
 ·by_cases h0:x=0
  ·refine aH h0 ?_;subst h0;rfl
  ·refine aC h0 (aa (z:=.bool (decide (x<0))) rfl (aa ae ?_));by_cases h1:x<0
   ·refine aH h1 ?_;rw[xu h1]
   ·refine aC h1 ?_;rw[kN (by omega)]
def OH(n:Nat){a b:Int}(ha:Wd a)(hb:Wd b)(hb0:b≠0)(hd:b ∣ a):cA (n+4) 87 [am a,am b]=some (am (a/b)):=by
 rw[VO]
 delta Mm qG qB qT qN qS Jn
 refine aa (sd n ha) (aa (z:=I a) rfl (aa (z:=.bool true) rfl (aa (sd n hb) (aa (z:=I b) rfl (aa (z:=.bool true) rfl (aa (z:=true) rfl (aa (z:=true) rfl (aa (z:=true) rfl (aa (z:=true) ?_ (aa (z:=true) rfl ?_))))))))))
 ·rw[if_pos rfl,bO,decide_eq_false hb0];rfl
 ·rw[if_pos rfl];have hq:Sy.inR (a/b):=by
   obtain⟨q,rfl⟩:=hd;rw[zZa _ hb0];have:q.natAbs<=(b*q).natAbs:=by rw[zHa];exact zsb _ (by omega)
   unfold Wd at ha;simp only[Sy.inR];omega
  exact aa (Sz (n+2) ha hb0 hd) (aa (zP n hq) rfl)
abbrev OB(n:Nat):D:=.int .u64 (n:Int)
def dD{n:Int}(h:0<=n/\n<18446744073709551616):IntKind.wrap .u64 n=n:=by
 obtain⟨h1,h2⟩:=h;simp only[IntKind.wrap,IntKind.signed,IntKind.bits];first
  | omega
  | (simp;omega)
def CG(n:Nat){x:Int}(hx:Wd x):cA (n+4) 186 [am x]=some (.tup [I x,.bool true]):=by
 rw[Uz]
 delta Hu qG qB qC qT qN Jn
 have hx':x.natAbs<4611686018427387904:=hx;have i1:Sy.inR (-9223372036854775808):=⟨by decide,by decide⟩
 have i2:Sy.inR 9223372036854775807:=⟨by decide,by decide⟩
 refine aa (se (n+1) hx.In) (aa bv (aa (z:=false) rfl ?_));rw[if_neg (by decide)]
 refine aa (zP n i1) (aa (zP n i2) (aa (LP n hx.In (In.of i1)) ?_));rw[show bU x (-9223372036854775808)=1 by unfold bU;rw[if_neg (by omega),if_pos (by omega)]]
 refine aa (z:=.bool false) ag (aa (z:=false) rfl (aa (z:=false) ?_ (aa (z:=false) rfl ?_)))
 ·rw[if_neg (by decide)]
  refine aa (LP n hx.In (In.of i2)) ?_;rw[show bU x 9223372036854775807=-1 by unfold bU;rw[if_pos (by omega)]]
  exact aa (z:=.bool false) cn rfl
 ·rw[if_neg (by decide)]
  have l1:=Fd x.natAbs;have l0:=JZ x.natAbs;refine aa (cW (i:=1) (by decide)) ?_
  rw[l1];refine aa (z:=OB (x.natAbs/4294967296%4294967296)) (by simp only[D.conv];rw[dD (by omega)]) ?_
  refine aa (z:=OB (x.natAbs/4294967296%4294967296*4294967296)) (by simp only[D.bin,if_true];rw[dD (by omega)];simp) ?_
  refine aa (cW (i:=0) (by decide)) ?_
  rw[l0];refine aa (z:=OB (x.natAbs%4294967296)) (by simp only[D.conv];rw[dD (by omega)]) ?_
  refine aa (z:=OB x.natAbs) (by simp only[D.bin,if_true];rw[dD (by omega)];congr 2;omega) ?_
  refine aa (z:=I (x.natAbs:Nat)) (by simp only[D.conv];rw[jz (by simp only[Sy.inR];omega)]) ?_
  refine aa (z:=(0,[I x])) (aa (z:=.bool (decide (x<0))) rfl (aa ae ?_)) rfl;by_cases h:x<0
  ·refine aH h (aa (ra (by simp only[Sy.inR];omega)) ?_)
   congr 4;omega
  ·refine aC h ?_;congr 4;omega
def SJ(n:Nat){v:V}(hv:bd 2305843009213693951 v):cA (n+1) 187 [af v]=some (.bool true):=by
 rw[UA]
 delta Hv qB qC qT qJ qZ iL iR Jn
 have stp:∀ x:Int,(-2305843009213693951<=x/\x<=2305843009213693951)->∀ (i:Nat) (hi:i<3),D.get (af v) [i]=some (I x)->(Option.bind (D.idx (I (i:Int)) 3) λi4=>Option.bind (D.get (af v) [i4]) λx5=>Option.bind (D.bin .geq x5 (D.int .i64 2305843009213693952)) λx6=>Option.bind (D.truth x6) λb7=>
  Option.bind (if b7 then(some true) else(Option.bind (D.idx (I (i:Int)) 3) λi8=>Option.bind (D.get (af v) [i8]) λx9=>Option.bind (D.bin .leq x9 (D.int .i64 (-2305843009213693952))) λx10=>D.truth x10)) λb11=>
  Option.bind (D.truth (D.bool b11)) λb12=>if b12 then(some (Sum.inr (0,[(D.bool false)]))) else(Option.bind (D.bin .add (I (i:Int)) (D.int .i64 1)) λx13=>some (Sum.inl [x13])))=some (Sum.inl [I ((i+1:Nat):Int)]:Sum (List D) (Nat×List D)):=λx hx i hi hg=>by
  refine aa (ap hi) (aa hg (aa iB (aa ae (aa (z:=false) ?_ (aa (z:=false) rfl ?_)))))
  ·refine aC (by omega) (aa (ap hi) (aa hg (aa rV ?_)))
   rw[ae,decide_eq_false (by omega)]
  ·rw[if_neg (by decide)]
   exact aa (aw (ay (i:=i) (by omega))) rfl
 refine cC (s':=[I (1:Nat)]) (aa ag (aa ae (aH (by decide) (stp v.x hv.1 0 (by decide) rfl)))) (cC (s':=[I (2:Nat)]) (aa ag (aa ae (aH (by decide) (stp v.y hv.2.1 1 (by decide) rfl)))) (cC (s':=[I (3:Nat)]) (aa ag (aa ae (aH (by decide) (stp v.z hv.2.2 2 (by decide) rfl)))) (fY (r:=(1,[])) (aa ag (aa ae (aC (by decide) rfl))) rfl)))
def kZ(v:V):D:=.st [am v.x,am v.y,am v.z]
def M4(n:Nat){v:V}(hx:inR v.x)(hy:inR v.y)(hz:inR v.z):cA (n+4) 80 [af v]=some (kZ v):=by
 rw[Yq]
 delta Oo qG
 exact aa (om v) (aa (zP n hx) (aa (oo v) (aa (zP n hy) (aa (ou v) (aa (zP n hz) rfl)))))
def SC(n:Nat){v:V}(hv:bd 549755813888 v):∃ e:Int,cA (n+5) 155 [kZ v]=some (.st [af (bu v),I e]):=by
 rw[Up]
 delta Hk qG qB qC qT qN qJ qZ iL iR Jn
 have wx:Wd v.x:=by have:=hv.1;unfold Wd;omega
 have wy':Wd v.y:=by have:=hv.2.1;unfold Wd;omega
 have wz:Wd v.z:=by have:=hv.2.2;unfold Wd;omega
 have h0:Sy.inR 0:=⟨by decide,by decide⟩
 have w0:Wd 0:=by unfold Wd;decide
 have q1:Nat.gcd v.x.natAbs v.y.natAbs<=4611686018427387903:=by unfold Wd at wx wy';exact sU (by omega) (by omega)
 have q2:bA v<=4611686018427387903:=by
  unfold bA;have:=sU (a:=(Nat.gcd v.x.natAbs v.y.natAbs:Nat)) (b:=v.z) (k:=4611686018427387903) (by simpa using q1) (by unfold Wd at wz;omega)
  simpa using this
 have wxx:Wd (v.x.natAbs:Nat):=by unfold Wd at *;omega
 have w1:Wd (Nat.gcd v.x.natAbs v.y.natAbs:Nat):=by unfold Wd;omega
 have w2:Wd (bA v:Nat):=by unfold Wd;omega
 have g01:=OG n w0 wx;have g02:=OG n wxx wy';have g03:=OG n w1 wz;rw[show(Nat.gcd (0:Int).natAbs v.x.natAbs)=v.x.natAbs by simp] at g01
 rw[show(Nat.gcd ((v.x.natAbs:Nat):Int).natAbs v.y.natAbs)=Nat.gcd v.x.natAbs v.y.natAbs by simp] at g02
 rw[show(Nat.gcd ((Nat.gcd v.x.natAbs v.y.natAbs:Nat):Int).natAbs v.z.natAbs)=bA v by simp[bA]] at g03
 have fst:∀ {k:Nat×List D->Option D} {y:D},k (0,[am (bA v:Nat)])=some y->Option.bind (cA (n+4) 34 [(D.int .i64 0)]) (λr1=>Option.bind (aT (λ(v2:List D)=>
   Option.bind (D.bin .lss (gx v2 0) (D.int .i64 3)) λx3=>Option.bind (D.truth x3) λb4=>
   if b4 then(Option.bind (D.idx (gx v2 0) 3) λi5=>Option.bind (D.get (kZ v) [i5]) λx6=>Option.bind (cA (n+4) 85 [(gx v2 1),x6]) λr7=>
   Option.bind (D.bin .add (gx v2 0) (D.int .i64 1)) λx8=>some (Sum.inl [x8,r7])) else(some (Sum.inr (0,[(gx v2 1)])))) [(D.int .i64 0),r1]) k)=some y:=by
  intro k y hk;refine aa (zP (n+1) h0) ?_;refine cC (s':=[I 1,am (v.x.natAbs:Nat)]) (aa ag (aa ae (aH (by decide) (aa JV (aa (z:=am v.x) rfl (aa g01 (aa (aw KX) rfl))))))) ?_
  refine cC (s':=[I 2,am (Nat.gcd v.x.natAbs v.y.natAbs:Nat)]) (aa ag (aa ae (aH (by decide) (aa JW (aa (z:=am v.y) rfl (aa g02 (aa (aw ut) rfl))))))) ?_
  refine cC (s':=[I 3,am (bA v:Nat)]) (aa ag (aa ae (aH (by decide) (aa JX (aa (z:=am v.z) rfl (aa g03 (aa (aw LU) rfl))))))) ?_
  exact fY (r:=(0,[am (bA v:Nat)])) (aa ag (aa ae (aC (by decide) rfl))) hk
 have hsg:=LR (n+1) w2.In;by_cases hz:bA v=0
 ·refine⟨31,fst (aa (z:=.bool false) rfl (aa (z:=false) rfl ?_))⟩;rw[if_neg (by decide)]
  refine aa hsg ?_;rw[hz];refine aa (z:=true) rfl ?_;rw[if_pos rfl];have hv0:v=V.zero:=by
   by_cases h:v=V.zero
   ·exact h
   ·have:=jX h;omega
  rw[hv0];rfl
 ·have hg0:(bA v:Int)≠0:=by omega
  refine⟨0,fst (aa (z:=.bool false) rfl (aa (z:=false) rfl ?_))⟩;rw[if_neg (by decide)]
  refine aa hsg ?_;rw[kN (show(0:Int)<bA v by omega)]
  refine aa (z:=false) rfl ?_;rw[if_neg (by decide)]
  have bp:=jl hv;have z1:=OH n wx w2 hg0 (yp v);have z2:=OH n wy' w2 hg0 (yq v);have z3:=OH n wz w2 hg0 (yr v);have s1:=CG n (x:=v.x/(bA v:Nat)) (by have:=bp.1;unfold Wd;simp only[bu] at this;omega)
  have s2:=CG n (x:=v.y/(bA v:Nat)) (by have:=bp.2.1;unfold Wd;simp only[bu] at this;omega)
  have s3:=CG n (x:=v.z/(bA v:Nat)) (by have:=bp.2.2;unfold Wd;simp only[bu] at this;omega)
  refine cC (s':=[I 1,.st [af V.zero,I 0],.st [af ⟨v.x/(bA v:Nat),0,0⟩,I 0]]) ?_ (cC (s':=[I 2,.st [af V.zero,I 0],.st [af ⟨v.x/(bA v:Nat),v.y/(bA v:Nat),0⟩,I 0]]) ?_ (cC (s':=[I 3,.st [af V.zero,I 0],.st [af ⟨v.x/(bA v:Nat),v.y/(bA v:Nat),v.z/(bA v:Nat)⟩,I 0]]) ?_ (fY (r:=(1,[.st [af V.zero,I 0],.st [af (bu v),I 0]])) (aa ag (aa ae (aC (by decide) rfl))) ?_)))
  ·refine aa ag (aa ae (aH (by decide) (aa JV (aa (z:=am v.x) rfl (aa z1 (aa s1 (aa (z:=I (v.x/(bA v:Nat))) rfl (aa (z:=.bool true) rfl (aa (z:=.bool false) rfl (aa (z:=false) rfl ?_))))))))))
   rw[if_neg (by decide)]
   exact aa JV (aa (z:=.st [af ⟨v.x/(bA v:Nat),0,0⟩,I 0]) rfl (aa (aw KX) rfl))
  ·refine aa ag (aa ae (aH (by decide) (aa JW (aa (z:=am v.y) rfl (aa z2 (aa s2 (aa (z:=I (v.y/(bA v:Nat))) rfl (aa (z:=.bool true) rfl (aa (z:=.bool false) rfl (aa (z:=false) rfl ?_))))))))))
   rw[if_neg (by decide)]
   exact aa JW (aa (z:=.st [af ⟨v.x/(bA v:Nat),v.y/(bA v:Nat),0⟩,I 0]) rfl (aa (aw ut) rfl))
  ·refine aa ag (aa ae (aH (by decide) (aa JX (aa (z:=am v.z) rfl (aa z3 (aa s3 (aa (z:=I (v.z/(bA v:Nat))) rfl (aa (z:=.bool true) rfl (aa (z:=.bool false) rfl (aa (z:=false) rfl ?_))))))))))
   rw[if_neg (by decide)]
   exact aa JX (aa (z:=.st [af ⟨v.x/(bA v:Nat),v.y/(bA v:Nat),v.z/(bA v:Nat)⟩,I 0]) rfl (aa (aw LU) rfl))
  ·rw[if_neg (show ¬ (1:Nat)=0 by decide)]
   refine aa (z:=af (bu v)) rfl (aa (SJ (n+3) (v:=bu v) ?_) (aa (z:=.bool false) rfl (aa (z:=false) rfl rfl)));simp only[bd] at bp ⊢;omega
def Mx(n:Nat){a b c:V}(ha:bd MV a)(hb:bd MV b)(hc:bd MV c):cA (n+6) 106 [af a,af b,af c]=some (af (bu (V.cross (b.sub a) (c.sub a)))):=by
 rw[TI]
 delta GI qG
 have h1:bd 524288 (b.sub a):=by have:=np hb ha;simpa [MV] using this
 have h2:bd 524288 (c.sub a):=by have:=np hc ha;simpa [MV] using this
 have h3:=eB h1 h2;refine aa (ui (n+4) hb ha (by decide)) (aa (ui (n+4) hc ha (by decide)) (aa (Kw (n+4) h1 h2 (by decide)) ?_))
 have h4:bd 549755813888 (V.cross (b.sub a) (c.sub a)):=h3;generalize V.cross (b.sub a) (c.sub a)=m at *;obtain⟨e,he⟩:=SC n h4;refine aa (M4 (n+1) ?_ ?_ ?_) (aa he rfl)
 ·have:=h4.1;simp only[Sy.inR];omega
 ·have:=h4.2.1;simp only[Sy.inR];omega
 ·have:=h4.2.2;simp only[Sy.inR];omega
end Sy
end
noncomputable section
namespace Sy
open Go Go.Proofs Geo
theorem n9:∀ {l:List Nat} {j v:Nat},j<l.length->a7 (l.set j v)+65536^j*l.getD j 0=a7 l+65536^j*v
 | d::l,0,v,_=>by simp only[zBc,a7,zqc,zsc,zfc];omega
 | d::l,j+1,v,h=>by
  have ih:=n9 (l:=l) (j:=j) (v:=v) (by simpa using h)
  simp only[zZc,a7,zmb,zgc];rw[zEa (65536^j) 65536,z1a,z1a];generalize 65536^j*l.getD j 0=x at *;generalize 65536^j*v=y at *;omega
def pD(l:List Nat)(j v:Nat):(ah l).set j (I (v:Int))=ah (l.set j v):=by simp[ah,List.map_set]
def lI(l:List Nat)(j v i:Nat)(h:j<l.length):(l.set j v).getD i 0=if i=j then v else l.getD i 0:=by
 by_cases e:i=j
 ·subst e;simp[List.getD,h]
 ·simp[List.getD,e,List.getElem?_set,show ¬ j=i from λk=>e k.symm]
def uT(m:Nat):List.replicate m (D.int .i64 0)=ah (List.replicate m 0):=by simp[ah]
def nk{a b:Nat}(h:a*b<=9223372036854775807):D.bin .mul (I (a:Int)) (I (b:Int))=some (I ((a*b:Nat):Int)):=by
 rw[co (by simp only[inR];rw[<-zMa];omega),zMa]
def aD{a b:Nat}(h:a+b<=9223372036854775807):D.bin .add (I (a:Int)) (I (b:Int))=some (I ((a+b:Nat):Int)):=by
 rw[aw (by simp only[inR];omega),zBd]
def rJ(a:Nat):D.natOf (I (a:Int))=some a:=by simp[D.natOf]
def wL{l:List Nat}{i:Nat}(h:i<l.length):D.idx (I (i:Int)) (ah l).length=some i:=by rw[ao];exact ap h
def JQ{l:List Nat}(h:∀ i,i<l.length->l.getD i 0<65536):dl l:=λd hd=>by
 obtain⟨i,hi,rfl⟩:=zTa hd;have:=h i hi;simpa [List.getD,hi] using this
def KB(n:Nat){a b:List Nat}(ha:dl a)(hb:dl b)(hla:a.length<=400000)(hlb:b.length<=400000):cA (n+2) 146 [.sl (ah a),.sl (ah b)]=some (.sl (ah (aG (a7 a*a7 b)))):=by
 rw[Uk]
 delta Hf qB qC qS qX qL qV qW qZ iL iR Jn
 obtain⟨M,hM⟩:∃ M,M=a.length+b.length+1:=⟨_,rfl⟩;refine aa (z:=ah a) rfl (aa (z:=ah b) rfl (aa (z:=I ((a.length+b.length:Nat):Int)) (by rw[ao,ao];exact aD (by omega)) (aa (z:=I (M:Int)) (by rw[hM];exact aD (b:=1) (by omega)) (aa (rJ M) ?_))))
 rw[if_pos (by omega),uT]
 refine bc (λi s=>∃ out:List Nat,s=[I (i:Int),.sl (ah out)]/\out.length=M/\dl out/\a7 out=vt a i*a7 b) a.length 0 (zia _) ⟨List.replicate M 0,rfl,by simp,λx hx=>by rw[zsd hx];decide,by have:=nu [] M;rw[z3b] at this;rw[this];simp[vt,a7]⟩ (λi hi s hJ=>?_) (λs hJ=>?_)
 ·obtain⟨out,rfl,ho,hdo,hv⟩:=hJ;left;have hai:=ha.getD i;obtain⟨r,h1,out1,rfl,o1,o2,o3⟩:=B0 (body:=λ(v10:List D)=>
   Option.bind (D.asSl (.sl (ah b))) λl11=>
   Option.bind (D.bin .lss (gx v10 0) (D.int .i64 (List.length l11))) λx12=>
   Option.bind (D.truth x12) λb13=>
   if b13 then(Option.bind (D.bin .add (I (i:Int)) (gx v10 0)) λx14=>
   Option.bind (D.bin .add (I (i:Int)) (gx v10 0)) λx15=>
   Option.bind (D.idx x15 (List.length (D.els (gx v10 1)))) λi16=>
   Option.bind ((D.els (gx v10 1))[i16]?) λx17=>
   Option.bind (D.asSl (.sl (ah a))) λl18=>
   Option.bind (D.idx (I (i:Int)) (List.length l18)) λi19=>
   Option.bind (l18[i19]?) λx20=>
   Option.bind (D.asSl (.sl (ah b))) λl21=>
   Option.bind (D.idx (gx v10 0) (List.length l21)) λi22=>
   Option.bind (l21[i22]?) λx23=>
   Option.bind (D.bin .mul x20 x23) λx24=>
   Option.bind (D.bin .add x17 x24) λx25=>
   Option.bind (D.idx x14 (List.length (D.els (gx v10 1)))) λi26=>
   Option.bind ((D.els (gx v10 1))[i26]?) λx27=>
   Option.bind (D.bin .add (gx v10 0) (D.int .i64 1)) λx28=>
   some (Sum.inl [x28,(D.sl (List.set (D.els (gx v10 1)) i26 x25))])) else(some (Sum.inr (0,[(D.sl (D.els (gx v10 1)))]))))
   (s0:=[I 0,.sl (ah out)])
   (λk s=>∃ o:List Nat,s=[I (k:Int),.sl (ah o)]/\o.length=M/\(∀ j,j<M->o.getD j 0<=4295032831/\(i+k<=j->o.getD j 0<65536))/\a7 o=a7 out+65536^i*(a.getD i 0*vt b k))
   (λr=>∃ o:List Nat,r=(0,[.sl (ah o)])/\o.length=M/\(∀ j,j<M->o.getD j 0<=4295032831)/\a7 o=a7 out+65536^i*(a.getD i 0*a7 b)) b.length 0 (zia _)
   ⟨out,rfl,ho,λj _=>by have:=hdo.getD j;omega,by simp[vt]⟩ (λk hk s hJ=>by
    obtain⟨o,rfl,o1,o2,o3⟩:=hJ;left;have hbk:=hb.getD k;have hik:i+k<o.length:=by omega
    have hp:a.getD i 0*b.getD k 0<=65535*65535:=z2a (by omega) (by omega)
    have hx:=(o2 (i+k) (by omega)).2 (zja _)
    refine⟨[I ((k+1:Nat):Int),.sl (ah (o.set (i+k) (o.getD (i+k) 0+a.getD i 0*b.getD k 0)))],?_,_,rfl,by simpa using o1,λj hj=>?_,?_⟩
    ·refine aa (z:=ah b) rfl (aa ag (aa ae (aH (by show(k:Int)<((ah b).length:Int);rw[ao];omega) ?_)))
     refine aa (aD (a:=i) (b:=k) (by omega)) (aa (aD (a:=i) (b:=k) (by omega)) (aa (wL hik) (aa (c7 hik) ?_)))
     refine aa (z:=ah a) rfl (aa (wL hi) (aa (c7 hi) (aa (z:=ah b) rfl (aa (wL hk) (aa (c7 hk) ?_)))));refine aa (nk (by omega)) (aa (aD (by omega)) (aa (wL hik) (aa (c7 hik) (aa (aw (ay (i:=k) (by omega))) ?_))))
     show some (Sum.inl [_,D.sl (List.set (ah o) (i+k) _)])=_;rw[pD];rfl
    ·rw[lI _ _ _ _ hik];have:=o2 j hj;split
     ·omega
     ·omega
    ·have e:=n9 (l:=o) (j:=i+k) (v:=o.getD (i+k) 0+a.getD i 0*b.getD k 0) hik;rw[vt,zUb,zUb];have e2:65536^i*(a.getD i 0*(b.getD k 0*65536^k))=65536^(i+k)*(a.getD i 0*b.getD k 0):=by
      rw[zab,<-z1a (a.getD i 0),zEa (a.getD i 0*b.getD k 0),z1a]
     rw[zUb] at e;omega) (λs hJ=>by
    obtain⟨o,rfl,o1,o2,o3⟩:=hJ;rw[mo] at o3;exact⟨_,aa (z:=ah b) rfl (aa ag (aa ae (aC (by show ¬ ((b.length:Int)<((ah b).length:Int));rw[ao];omega) rfl))),o,rfl,o1,λj hj=>(o2 j hj).1,o3⟩)
  obtain⟨r2,h2,out2,rfl,p1,p2,p3⟩:=B0 (body:=λ(v30:List D)=>
   Option.bind (D.bin .lss (gx v30 1) (D.int .i64 (List.length (D.els (gx v30 2))))) λx31=>
   Option.bind (D.truth x31) λb32=>
   if b32 then(Option.bind (D.idx (gx v30 1) (List.length (D.els (gx v30 2)))) λi33=>
   Option.bind ((D.els (gx v30 2))[i33]?) λx34=>
   Option.bind (D.bin .add x34 (gx v30 0)) λx35=>
   Option.bind (D.bin .rem x35 (D.int .i64 65536)) λx36=>
   Option.bind (D.idx (gx v30 1) (List.length (D.els (gx v30 2)))) λi37=>
   Option.bind ((D.els (gx v30 2))[i37]?) λx38=>
   Option.bind (D.bin .quo x35 (D.int .i64 65536)) λx39=>
   Option.bind (D.bin .add (gx v30 1) (D.int .i64 1)) λx40=>
   some (Sum.inl [x39,x40,(D.sl (List.set (D.els (gx v30 2)) i37 x36))])) else(some (Sum.inr (0,[(D.sl (D.els (gx v30 2)))]))))
   (s0:=[I 0,I 0,.sl (ah out1)])
   (λk s=>∃ (o:List Nat) (c:Nat),s=[I (c:Int),I (k:Int),.sl (ah o)]/\o.length=M/\(∀ j,j<k->o.getD j 0<65536)/\(∀ j,k<=j->o.getD j 0=out1.getD j 0)/\c<=131072/\a7 o+65536^k*c=a7 out1)
   (λr=>∃ o:List Nat,r=(0,[.sl (ah o)])/\o.length=M/\dl o/\∃ c,a7 o+65536^M*c=a7 out1) M 0 (zia _)
   ⟨out1,0,rfl,o1,λj hj=>absurd hj (Nat.not_lt_zero _),λj _=>rfl,by omega,by simp⟩ (λk hk s hJ=>by
    obtain⟨o,c,rfl,q1,q2,q3,q4,q5⟩:=hJ;left;have hko:k<o.length:=by omega
    have hx:=o2 k hk;have hq:=q3 k (zja _);refine⟨[I (((o.getD k 0+c)/65536:Nat):Int),I ((k+1:Nat):Int),.sl (ah (o.set k ((o.getD k 0+c)%65536)))],?_,_,_,rfl,by simpa using q1,λj hj=>?_,λj hj=>?_,by omega,?_⟩
    ·refine aa ag (aa ae (aH (by show(k:Int)<((ah o).length:Int);rw[ao];omega) ?_))
     refine aa (wL hko) (aa (c7 hko) (aa (aD (by omega)) (aa (lu (b:=65536) (by decide)) (aa (wL hko) (aa (c7 hko) (aa (jC (b:=65536) (by decide) (by omega)) (aa (aw (ay (i:=k) (by omega))) ?_)))))))
     show some (Sum.inl [_,_,D.sl (List.set (ah o) k _)])=_;rw[pD];rfl
    ·rw[lI _ _ _ _ hko];split
     ·omega
     ·exact q2 j (by omega)
    ·rw[lI _ _ _ _ hko,if_neg (by omega)];exact q3 j (by omega)
    ·have e:=n9 (l:=o) (j:=k) (v:=(o.getD k 0+c)%65536) hko;have e2:o.getD k 0+c=(o.getD k 0+c)%65536+65536*((o.getD k 0+c)/65536):=by omega
     have e3:65536^k*(o.getD k 0+c)=65536^k*((o.getD k 0+c)%65536)+65536^k*(65536*((o.getD k 0+c)/65536)):=by rw[<-zUb,<-e2]
     rw[zUb] at e3;rw[zmb,z1a];omega) (λs hJ=>by
    obtain⟨o,c,rfl,q1,q2,q3,q4,q5⟩:=hJ;exact⟨_,aa ag (aa ae (aC (by show ¬ ((M:Int)<((ah o).length:Int));rw[ao];omega) rfl)),o,rfl,q1,JQ λj hj=>q2 j (by omega),c,q5⟩)
  obtain⟨c,p4⟩:=p3;refine⟨[I ((i+1:Nat):Int),.sl (ah out2)],?_,out2,rfl,p1,p2,?_⟩
  ·refine aa (z:=ah a) rfl (aa ag (aa ae (aH (by show(i:Int)<((ah a).length:Int);rw[ao];omega) ?_)))
   refine aa h1 (aa h2 ?_);exact aa (aw (ay (i:=i) (by omega))) rfl
  ·have hval:a7 out1=vt a (i+1)*a7 b:=by
    rw[o3,hv,vt,zYa,zEa (a.getD i 0) (65536^i),z1a]
   have hlt:vt a (i+1)*a7 b<65536^M:=by
    have l1:=t6 ha (i+1);have l2:=kA hb;have l3:vt a (i+1)*a7 b<65536^(i+1)*65536^b.length:=zQc l1 l2;have l4:65536^(i+1)*65536^b.length<=65536^M:=by rw[<-zab];exact zua (by decide) (by omega)
    omega
   have hc:c=0:=by
    rcases zqb c with h|h
    ·exact h
    ·have:65536^M*1<=65536^M*c:=zWa _ h;omega
   subst hc;rw[<-hval,<-p4];simp
 ·obtain⟨out,rfl,ho,hdo,hv⟩:=hJ;refine⟨(0,[.sl (ah out)]),aa (z:=ah a) rfl (aa ag (aa ae (aC (by show ¬ ((a.length:Int)<((ah a).length:Int));rw[ao];omega) rfl))),?_⟩
  refine aa (xY n (l:=out) (by omega)) ?_
  rw[gV hdo,hv,mo]
def MH(n:Nat)(x:Int):cA (n+1) 145 [I x]=some (.bool (decide (x<2147483648)&&decide (x>-2147483648))):=by
 rw[Uj]
 delta He qB qC Jn
 refine aa ag (aa ae ?_);cases h:decide (x<2147483648)
 ·rfl
 ·rw[if_pos rfl];exact aa (aa cn rfl) rfl
def xv(x y:Int):sgn (!(decide (decide (x<0)=decide (y<0)))) (x.natAbs*y.natAbs)=x*y:=by
 unfold sgn;rw[<-zHa];by_cases hx:x<0<;>by_cases hy:y<0
 ·have:=znc hx hy;simp[hx,hy];omega
 ·have:=Int.mul_nonpos_of_nonpos_of_nonneg (zNa hx) (zkc.1 hy);simp[hx,hy];omega
 ·have:=Int.mul_nonpos_of_nonneg_of_nonpos (zkc.1 hx) (zNa hy);simp[hx,hy];omega
 ·have:=zwb (zkc.1 hx) (zkc.1 hy);simp[hx,hy];omega
def LT(n:Nat){x y:Int}(hx:Wd x)(hy:Wd y):cA (n+4) 89 [am x,am y]=some (am (x*y)):=by
 rw[Vj]
 delta LK qG qB qT qN
 refine aa (sd n hx) (aa (z:=I x) rfl (aa (z:=.bool true) rfl (aa (sd n hy) (aa (z:=I y) rfl (aa (z:=.bool true) rfl (aa (z:=true) rfl (aa (z:=true) rfl (aa (z:=true) rfl ?_))))))));refine aa (z:=(decide (x<2147483648)&&decide (x>-2147483648))) (by rw[if_pos rfl];exact aa (MH (n+2) x) rfl) (aa ae ?_)
 refine aa (z:=((decide (x<2147483648)&&decide (x>-2147483648))&&(decide (y<2147483648)&&decide (y>-2147483648)))) (by
  cases (decide (x<2147483648)&&decide (x>-2147483648))
  ·rfl
  ·rw[if_pos rfl];exact aa (MH (n+2) y) rfl) (aa ae ?_)
 cases hb:((decide (x<2147483648)&&decide (x>-2147483648))&&(decide (y<2147483648)&&decide (y>-2147483648)))
 ·rw[if_neg (by decide)]
  refine aa (se (n+1) hx.In) (aa bv (aa ae (aa (z:=false) ?_ (aa ae ?_))))
  ·rw[if_neg (by decide)];exact aa (se (n+1) hy.In) rfl
  ·rw[if_neg (by decide)]
   have lx:=bG 32 _ hx.In;have ly:=bG 32 _ hy.In;refine aa (z:=.bool (decide (x<0))) rfl (aa (z:=.bool (decide (y<0))) rfl (aa (zQ (n+1) hx.In) (aa (zQ (n+1) hy.In) (aa (KB (n+1) (aZ _) (aZ _) (by omega) (by omega)) (aa (z:=am (x*y)) ?_ rfl)))))
   rw[av,av];have hxy:x.natAbs*y.natAbs<65536^8:=by
    have e:(65536:Nat)^8=18446744073709551616*18446744073709551616:=by decide
    rw[e];unfold Wd at hx hy;exact zQc (by omega) (by omega)
   have l8:=bG 8 _ hxy;have h32:x.natAbs*y.natAbs<65536^32:=zPa hxy (zua (by decide) (by decide))
   have:=JP (n+1) (l:=aG (x.natAbs*y.natAbs)) (neg:=!(decide (decide (x<0)=decide (y<0)))) (aZ _) (by omega) (by rw[av];exact h32)
   rw[av,xv] at this;rw[<-this];congr 4
 ·rw[if_pos rfl];simp only[zaa,decide_eq_true_eq] at hb;have:=fZ (A:=2147483648) (B:=2147483648) (a:=x) (b:=y) (by omega) (by omega)
  have hr:inR (x*y):=by simp only[inR];omega
  exact aa (co hr) (aa (zP n hr) rfl)
def OE(n:Nat){x y:Int}(hx:Wd x)(hy:Wd y):cA (n+4) 59 [am x,am y]=some (am (x+y)):=by
 rw[VK]
 delta Mi qG qB qT qN
 refine aa (sd n hx) (aa (z:=I x) rfl (aa (z:=.bool true) rfl (aa (sd n hy) (aa (z:=I y) rfl (aa (z:=.bool true) rfl (aa (z:=true) rfl (aa (z:=true) rfl (aa (z:=true) rfl ?_))))))));rw[if_pos rfl];have hr:inR (x+y):=by unfold Wd at hx hy;simp only[inR];omega
 exact aa (aw hr) (aa (zP n hr) rfl)
def Vx(n:Nat){A B:Int}{u v:V}(hu:bd A u)(hv:bd B v)(hA:A<=4611686018427387903)(hB:B<=4611686018427387903)(h:3*(A*B)<=4611686018427387903):cA (n+6) 33 [af u,af v]=some (am (V.dot u v)):=by
 have w:∀ {K:Int} {x:Int},K<=4611686018427387903->-K<=x/\x<=K->Wd x/\inR x:=λh1 h2=>by unfold Wd;simp only[inR];omega
 have ux:=w hA hu.1;have uy:=w hA hu.2.1;have uz:=w hA hu.2.2;have vx:=w hB hv.1;have vy:=w hB hv.2.1;have vz:=w hB hv.2.2;have mx:=fZ hu.1 hv.1;have my:=fZ hu.2.1 hv.2.1;have mz:=fZ hu.2.2 hv.2.2;have hAB:0<=A*B:=by omega
 rw[X4];unfold NZ;refine aa (M4 (n+1) ux.2 uy.2 uz.2) (aa (M4 (n+1) vx.2 vy.2 vz.2) (aa (z:=am (V.dot u v)) ?_ rfl));rw[Yp]
 delta On qG
 refine aa (z:=am u.x) rfl (aa (z:=am v.x) rfl (aa (LT n ux.1 vx.1) (aa (z:=am u.y) rfl (aa (z:=am v.y) rfl (aa (LT n uy.1 vy.1) ?_)))));refine aa (OE n (w (K:=A*B) (by omega) mx).1 (w (K:=A*B) (by omega) my).1) (aa (z:=am u.z) rfl (aa (z:=am v.z) rfl (aa (LT n uz.1 vz.1) ?_)))
 refine aa (OE n ?_ (w (K:=A*B) (by omega) mz).1) rfl
 unfold Wd;omega
end Sy
end
noncomputable section
open Go
def nf(n:Nat):Nat:=2^(32*n)
def dA(n:Nat):nf n=2^(32*n):=rfl
attribute [irreducible] nf
def fd:Nat:=nf 16
def gG:fd=nf 16:=rfl
attribute [irreducible] fd
def nJ{a b:Nat}(h:a<=b):nf a<=nf b:=by rw[dA,dA];exact zua (by omega) (by omega)
def vV:nf 2=18446744073709551616:=by rw[dA]
def DT(n:Nat):0<nf n:=by rw[dA];exact zsa _
def f8:0<fd:=gG ▸ DT 16
def xx{n:Nat}(h:n<18446744073709551616):n<fd:=by
 rw[gG];rw[<-vV] at h;exact zPa h (nJ (by omega))
def bD(X k:Nat):Int:=((X/2^(32*k)%2^32:Nat):Int)
def ns(X k:Nat):bD X k<=4294967295:=by
 unfold bD;have:=zUa (X/2^(32*k)) (show 0<2^32 by decide);omega
def sA(X k:Nat):bD X k<4294967296:=by
 unfold bD;have:=zUa (X/2^(32*k)) (show 0<2^32 by decide);omega
def cz(X k:Nat):0<=bD X k:=by unfold bD;exact Int.natCast_nonneg _
def Dt(a b:Nat)(h:a<=b):2^b=2^a*2^(b-a):=by rw[<-zab];congr 1;omega
def jo(X k j:Nat):bD (X%2^(32*k)) j=if j<k then bD X j else 0:=by
 unfold bD;split
 ·rename_i h;congr 1;rw[Dt (32*j) (32*k) (by omega),Nat.mod_mul_right_div_self,show 32*k-32*j=32+(32*k-32*j-32) from by omega,zab,Nat.mod_mul_right_mod]
 ·rename_i h;rw[z0a]
  ·simp
  ·exact zPa (zUa _ (zsa _)) (zua (by decide) (by omega))
def wS(n:Nat):∀ (X Y:Nat),X<2^(32*n)->Y<2^(32*n)->(∀ k,k<n->bD X k=bD Y k)->X=Y:=by
 induction n with
 | zero=>intro X Y hX hY _;simp at hX hY;omega
 | succ n ih=>
  intro X Y hX hY h;have hs:∀ Z:Nat,Z=Z%2^(32*n)+2^(32*n)*(Z/2^(32*n)):=λZ=>by have:=Nat.mod_add_div Z (2^(32*n));omega
  have hm:X%2^(32*n)=Y%2^(32*n):=by
   refine ih _ _ (zUa _ (zsa _)) (zUa _ (zsa _)) λk hk=>?_;rw[jo,jo,if_pos hk,if_pos hk];exact h k (by omega)
  have hd:X/2^(32*n)=Y/2^(32*n):=by
   have h1:=h n (by omega)
   unfold bD at h1;have e:∀ Z,Z<2^(32*(n+1))->Z/2^(32*n)<2^32:=λZ hZ=>by
    rw[zVa (zsa _),<-zab,show 32+32*n=32*(n+1) from by omega];exact hZ
   rw[zFa (e X hX),zFa (e Y hY)] at h1;exact Int.ofNat.inj h1
  rw[hs X,hs Y,hm,hd]
def C6{X Y:Nat}(hX:X<fd)(hY:Y<fd)(h:∀ k,k<16->bD X k=bD Y k):X=Y:=by
 rw[gG,dA] at hX hY;exact wS 16 X Y hX hY h
def uA(s V Z j:Nat):Int:=if j<s then bD V j else bD Z j
def vk(s V Z:Nat):uA s V Z s=bD Z s:=by unfold uA;rw[if_neg (Nat.lt_irrefl s)]
def ft(X Y k:Nat):Nat:=(X%2^(32*k)+Y%2^(32*k))/2^(32*k)
def mr(X Y k:Nat):ft X Y k<=1:=by
 unfold ft;have h:=zsa (32*k);have h1:=zUa X h;have h2:=zUa Y h;have:(X%2^(32*k)+Y%2^(32*k))/2^(32*k)<2:=(zVa h).2 (by omega)
 omega
def qo(X Y:Nat):ft X Y 0=0:=by simp[ft,zfd]
def i6(X k:Nat):X=X%2^(32*k)+2^(32*k)*(X/2^(32*k)):=by have:=Nat.mod_add_div X (2^(32*k));omega
def dh(k:Nat):2^(32*(k+1))=2^(32*k)*4294967296:=by rw[show 32*(k+1)=32*k+32 from by omega,zab]
def eJ(X k:Nat):X%2^(32*(k+1))=X%2^(32*k)+2^(32*k)*(X/2^(32*k)%4294967296):=by rw[dh,Nat.mod_mul]
def qn(X Y k:Nat):((ft X Y (k+1):Nat):Int)=((ft X Y k:Nat)+(bD X k+bD Y k))/4294967296:=by
 unfold ft bD;have hp:=zsa (32*k);rw[eJ,eJ,dh,<-zXa];generalize 2^(32*k)=p at *;have:(X%p+p*(X/p%4294967296)+(Y%p+p*(Y/p%4294967296)))/p=(X%p+Y%p)/p+(X/p%4294967296+Y/p%4294967296):=by
  rw[show X%p+p*(X/p%4294967296)+(Y%p+p*(Y/p%4294967296))=(X%p+Y%p)+p*(X/p%4294967296+Y/p%4294967296) from by rw[zUb];omega,zLb _ _ hp]
 rw[this];simp only[show(2:Nat)^32=4294967296 from rfl];omega
def BG(X Y k:Nat):bD (X+Y) k=((ft X Y k:Nat)+(bD X k+bD Y k))%4294967296:=by
 unfold ft bD;have hp:=zsa (32*k);have hx:=i6 X k;have hy:=i6 Y k;generalize 2^(32*k)=p at *;have:(X+Y)/p=(X%p+Y%p)/p+(X/p+Y/p):=by
  rw[show X+Y=(X%p+Y%p)+p*(X/p+Y/p) from by rw[zUb];omega,zLb _ _ hp]
 rw[this];simp only[show(2:Nat)^32=4294967296 from rfl];omega
def zf:2^(32*16)=fd:=by rw[gG,dA 16]
def CJ{X Y:Nat}(hX:X<fd)(hY:Y<fd):ft X Y 16=if X+Y<fd then 0 else 1:=by
 have h:=mr X Y 16;unfold ft at *;rw[zf,zFa hX,zFa hY] at *;split
 ·rw[z0a (by assumption)]
 ·have:1<=(X+Y)/fd:=(z0b f8).2 (by omega)
  omega
def bS(X Y k:Nat):Nat:=if X%2^(32*k)<Y%2^(32*k) then 1 else 0
def rZ(X Y k:Nat):bS X Y k<=1:=by unfold bS;split<;>omega
def nX(X Y:Nat):bS X Y 0=0:=by simp[bS,zfd]
def nW(X Y k:Nat):((bS X Y (k+1):Nat):Int)=if bD X k-bD Y k-(bS X Y k:Nat)<0 then 1 else 0:=by
 unfold bS bD;have hp:=zsa (32*k);rw[eJ,eJ];have h1:=zUa X hp;have h2:=zUa Y hp;simp only[show(2:Nat)^32=4294967296 from rfl];generalize 2^(32*k)=p at *;generalize X/p%4294967296=a;generalize Y/p%4294967296=b;generalize X%p=x at *;generalize Y%p=y at *;rcases zpd a b with h|h|h
 ·have:p*a+p<=p*b:=by rw[<-zAd];exact zWa _ h
  rw[if_pos (by omega)]
  split<;>rw[if_pos (by omega)]<;>rfl
 ·subst h;by_cases h3:x<y
  ·rw[if_pos (by omega),if_pos h3,if_pos (by omega)];rfl
  ·rw[if_neg (by omega),if_neg h3,if_neg (by omega)];rfl
 ·have:p*b+p<=p*a:=by rw[<-zAd];exact zWa _ h
  rw[if_neg (by omega)]
  split<;>rw[if_neg (by omega)]<;>rfl
def BH{X Y:Nat}(h:Y<=X)(k:Nat):bD (X-Y) k=(bD X k-bD Y k-(bS X Y k:Nat))%4294967296:=by
 unfold bS bD;have hp:=zsa (32*k);have hx:=i6 X k;have hy:=i6 Y k;have h1:=zUa X hp;have h2:=zUa Y hp;simp only[show(2:Nat)^32=4294967296 from rfl];generalize 2^(32*k)=p at *;have hle:Y/p<=X/p:=Nat.div_le_div_right h;generalize hxq:X/p=a at *;generalize hyq:Y/p=b at *;generalize hxr:X%p=x at *;generalize hyr:Y%p=y at *;by_cases h3:x<y
 ·have hab:b<a:=by
   rcases zna b a with h'|h'
   ·exact h'
   ·have:a=b:=by omega
    subst this;omega
  have e:X-Y=(x+p-y)+p*(a-b-1):=by
   rw[hx,hy,Nat.mul_sub,Nat.mul_sub];have:p*b+p<=p*a:=by rw[<-zAd];exact zWa _ hab
   omega
  rw[e,zLb _ _ hp,z0a (by omega),if_pos h3]
  omega
 ·have e:X-Y=(x-y)+p*(a-b):=by
   rw[hx,hy,Nat.mul_sub];have:p*b<=p*a:=zWa _ hle;omega
  rw[e,zLb _ _ hp,z0a (by omega),if_neg h3]
  omega
def re(a b:Int)(c:Nat)(a0:0<=a)(a1:a<=4294967295)(b0:0<=b)(b1:b<=4294967295)(hc:c<=1) :
  IntKind.u64.wrap (IntKind.u64.wrap (a-b)-(c:Int))/9223372036854775808=(if a-b-(c:Int)<0 then 1 else 0) ∧
  IntKind.u64.wrap (IntKind.u64.wrap (a-b)-(c:Int))%4294967296=(a-b-(c:Int))%4294967296:=by
 have e:∀ n:Int,IntKind.u64.wrap n=n%18446744073709551616:=λn=>rfl;rw[e,e];constructor
 ·split<;>omega
 ·omega
def gB(X:Nat):Nat->Nat
 | 0=>0
 | k+1=>if 2^(32*k)<=X then k+1 else gB X k
def cQ(X:Nat):Nat:=gB X 16
def Di(X k:Nat):gB X k<=k:=by
 induction k with
 | zero=>exact zja _
 | succ k ih=>unfold gB;split<;>omega
def AD(X k:Nat)(h:gB X k≠0):2^(32*(gB X k-1))<=X:=by
 induction k with
 | zero=>exact absurd rfl h
 | succ k ih=>
  by_cases h1:2^(32*k)<=X
  ·simp only[gB,if_pos h1] at *;simpa using h1
  ·simp only[gB,if_neg h1] at *;exact ih h
def y7(X k:Nat)(h:X<2^(32*k)):X<2^(32*gB X k):=by
 induction k with
 | zero=>exact h
 | succ k ih=>
  unfold gB;split
  ·exact h
  ·exact ih (by omega)
def j9(X:Nat):cQ X<=16:=Di X 16
def eK{X:Nat}(h:X<fd):X<2^(32*cQ X):=y7 X 16 (by rw[gG,dA] at h;exact h)
def nD{X:Nat}(h:cQ X≠0):2^(32*(cQ X-1))<=X:=AD X 16 h
def wB{X k:Nat}(h:X<2^(32*(k+1))):bD X k=0↔X<2^(32*k):=by
 unfold bD;have hp:=zsa (32*k);have h2:X/2^(32*k)<2^32:=by rw[zVa hp,<-zab,show 32+32*k=32*(k+1) from by omega];exact h
 rw[zFa h2];constructor
 ·intro h3;have h3':X/2^(32*k)=0:=by omega
  rcases(Nat.div_eq_zero_iff).1 h3' with h4|h4
  ·omega
  ·exact h4
 ·intro h3;rw[z0a h3];rfl
def sgn(a b:Nat):Int:=if a<b then -1 else if b<a then 1 else 0
def jH(X Y k:Nat):Prop:=X/2^(32*k)=Y/2^(32*k)
def CX{X Y:Nat}(hX:X<fd)(hY:Y<fd):jH X Y 16:=by
 unfold jH;rw[gG,dA] at hX hY;rw[z0a hX,z0a hY]
def mA(X k:Nat):X/2^(32*k)=X/2^(32*(k+1))*4294967296+(X/2^(32*k))%4294967296:=by
 rw[dh,<-zXa];omega
def yH{X Y k:Nat}(h:jH X Y (k+1))(hd:bD X k=bD Y k):jH X Y k:=by
 unfold jH bD at *;rw[mA X k,mA Y k,h];simp only[show(2:Nat)^32=4294967296 from rfl] at hd;omega
def zw{X Y k:Nat}(h:jH X Y (k+1))(hd:bD X k≠bD Y k):sgn X Y=if bD X k<bD Y k then -1 else 1:=by
 unfold jH bD at *;have hx:=mA X k;have hy:=mA Y k;have hp:=zsa (32*k);have sx:=i6 X k;have sy:=i6 Y k;have h1:=zUa X hp;have h2:=zUa Y hp;simp only[show(2:Nat)^32=4294967296 from rfl] at hd ⊢;generalize 2^(32*k)=p at *;unfold sgn;by_cases hlt:X/p<Y/p
 ·have:p*(X/p)+p<=p*(Y/p):=by rw[<-zAd];exact zWa _ hlt
  rw[if_pos (by omega),if_pos (by omega)]
 ·have hgt:Y/p<X/p:=by omega
  have:p*(Y/p)+p<=p*(X/p):=by rw[<-zAd];exact zWa _ hgt
  rw[if_neg (by omega),if_pos (by omega),if_neg (by omega)]
def DJ{X Y:Nat}(h:jH X Y 0):sgn X Y=0:=by
 have:X=Y:=by simpa [jH] using h
 subst this;simp[sgn]
def cU(X k:Nat):bD X k=((X/2^(32*k)%4294967296:Nat):Int):=rfl
def fR{X n k:Nat}(h:X<2^(32*n))(hk:n<=k):bD X k=0:=by
 rw[cU,z0a (zPa h (zua (by omega) (by omega)))];rfl
def kw(X c s j:Nat)(h:j<s):bD (X+c*2^(32*s)) j=bD X j:=by
 rw[cU,cU];congr 1;rw[show 32*s=32*j+(32+32*(s-j-1)) from by omega,zab,zab,show c*(2^(32*j)*(2^32*2^(32*(s-j-1))))=2^(32*j)*(4294967296*(c*2^(32*(s-j-1)))) from by
  rw[show(2:Nat)^32=4294967296 from rfl];ac_rfl,zLb _ _ (zsa _),zkd]
def fN(A B i:Nat):Nat:=A%2^(32*i)*B
def nB(A B i k:Nat):Nat:=fN A B i+(A/2^(32*i)%4294967296)*(B%2^(32*k))*2^(32*i)
def oE(A B i k:Nat):Nat:=nB A B i k/2^(32*(i+k))-fN A B i/2^(32*(i+k))
def w6(A B i k:Nat):Nat->Int:=uA (i+k) (nB A B i k) (fN A B i)
def vq(A B i:Nat):nB A B i 0=fN A B i:=by simp[nB,zfd]
def vm(A B i:Nat):oE A B i 0=0:=by simp[oE,vq]
def Dg(A B i:Nat):w6 A B i 0=bD (fN A B i):=by
 funext j;simp[w6,vq,uA]
def vp(A B i k:Nat):nB A B i (k+1)=nB A B i k+(A/2^(32*i)%4294967296)*(B/2^(32*k)%4294967296)*2^(32*(i+k)):=by
 unfold nB;rw[eJ,show 32*(i+k)=32*i+32*k from by omega,zab,zUb,zYa,zAb]
 congr 2
 ac_rfl
def I2(A B i k:Nat):fN A B i<=nB A B i k:=zjc _ _
def wY(A B i k:Nat):oE A B i k+fN A B i/2^(32*(i+k))=nB A B i k/2^(32*(i+k)):=by
 unfold oE;have:=Nat.div_le_div_right (c:=2^(32*(i+k))) (I2 A B i k);omega
def yZ(A B i k:Nat):nB A B i (k+1)/2^(32*(i+k))=oE A B i k+fN A B i/2^(32*(i+k))+(A/2^(32*i)%4294967296)*(B/2^(32*k)%4294967296):=by
 rw[vp,z6c _ _ (zsa _),wY]
def tz(A B i k:Nat):oE A B i (k+1)=(oE A B i k+((A/2^(32*i)%4294967296)*(B/2^(32*k)%4294967296)+fN A B i/2^(32*(i+k))%4294967296))/4294967296:=by
 have h1:=wY A B i (k+1);have h2:=yZ A B i k;have e:∀ X,X/2^(32*(i+(k+1)))=X/2^(32*(i+k))/4294967296:=λX=>by
  rw[show i+(k+1)=i+k+1 from by omega,dh,zXa]
 rw[e,e,h2] at h1;generalize A/2^(32*i)%4294967296*(B/2^(32*k)%4294967296)=p at *;generalize fN A B i/2^(32*(i+k))=z at *;omega
def uL(a p q z c:Nat):(((a+(p*q+z))/c:Nat):Int)=((a:Int)+((p:Int)*q+z))/(c:Int):=by push_cast;rfl
def sn(a p q z c:Nat):(((a+(p*q+z))%c:Nat):Int)=((a:Int)+((p:Int)*q+z))%(c:Int):=by push_cast;rfl
def Dc(A B i k:Nat):((oE A B i (k+1):Nat):Int)=((oE A B i k:Nat)+(bD A i*bD B k+bD (fN A B i) (i+k)))/4294967296:=by
 rw[tz,cU,cU,cU];exact uL _ _ _ _ 4294967296
def wZ(A B i k:Nat):oE A B i k<=4294967295:=by
 induction k with
 | zero=>rw[vm];omega
 | succ k ih=>
  rw[tz];have h1:A/2^(32*i)%4294967296<=4294967295:=by have:=zUa (A/2^(32*i)) (show 0<4294967296 by omega);omega
  have h2:B/2^(32*k)%4294967296<=4294967295:=by have:=zUa (B/2^(32*k)) (show 0<4294967296 by omega);omega
  have h3:=z2a h1 h2;have h4:=zUa (fN A B i/2^(32*(i+k))) (show 0<4294967296 by omega)
  omega
def De(A B i k:Nat):w6 A B i k (i+k)=bD (fN A B i) (i+k):=vk _ _ _
def Fs(A B i k:Nat):bD (nB A B i (k+1)) (i+k)=((oE A B i k:Nat)+(bD A i*bD B k+bD (fN A B i) (i+k)))%4294967296:=by
 rw[cU (nB _ _ _ _),yZ,cU,cU,cU];refine Eq.trans (congrArg Nat.cast ?_) (sn _ _ _ _ 4294967296);generalize A/2^(32*i)%4294967296*(B/2^(32*k)%4294967296)=p;generalize fN A B i/2^(32*(i+k))=z;omega
def vr{A B i m:Nat}(hB:B<2^(32*m)):fN A B (i+1)=nB A B i m:=by
 unfold fN nB fN;rw[eJ,zFa hB,zYa];congr 1;ac_rfl
def B8{A B i m:Nat}(hB:B<2^(32*m)):fN A B i<2^(32*(i+m)):=by
 unfold fN;rw[show 32*(i+m)=32*i+32*m from by omega,zab]
 exact zQc (zUa _ (zsa _)) hB
def Dh(A B:Nat):fN A B 0=0:=by simp[fN,zfd]
def Ft{A B n:Nat}(hA:A<2^(32*n)):fN A B n=A*B:=by unfold fN;rw[zFa hA]
def lE(k:Nat):bD 0 k=0:=by simp[bD]
def kz(X a k:Nat):bD (X/2^(32*a)) k=bD X (a+k):=by
 rw[cU,cU,zXa,<-zab,zUb]
def yk(X a k:Nat):bD (X/nf a) k=bD X (a+k):=by rw[dA,kz]
def Fp(a b D c:Nat):(a+b*D)%c=(a+b%c*D)%c:=by
 have h:b*D%c=b%c*D%c:=by rw[Nat.mul_mod b D c,Nat.mul_mod (b%c) D c,Nat.mod_mod b c]
 rw[Nat.add_mod,h,<-Nat.add_mod]
def gA(X D k:Nat):Nat:=X%2^(32*k)*D/2^(32*k)
def vo(X D:Nat):gA X D 0=0:=by simp[gA,zfd]
def w7(X k:Nat){D:Nat}(h:0<D):gA X D k<D:=by
 unfold gA;rw[zVa (zsa _),zEa D];exact ztb (zUa _ (zsa _)) h
def Az(X D k:Nat):gA X D (k+1)=(gA X D k+X/2^(32*k)%4294967296*D)/4294967296:=by
 unfold gA;rw[eJ,dh,<-zXa,zYa,z1a,zLb _ _ (zsa _)]
def vn(X D k:Nat):((gA X D (k+1):Nat):Int)=((gA X D k:Nat)+bD X k*(D:Nat))/4294967296:=by
 have h:=uL (gA X D k) (X/2^(32*k)%4294967296) D 0 4294967296;simp only[z2b,Int.add_zero,Int.natCast_zero,Int.cast_ofNat_Int] at h;rw[Az,cU];exact h
def yY(X D k:Nat):bD (X*D) k=((gA X D k:Nat)+bD X k*(D:Nat))%4294967296:=by
 have h:=sn (gA X D k) (X/2^(32*k)%4294967296) D 0 4294967296;simp only[z2b,Int.add_zero,Int.natCast_zero,Int.cast_ofNat_Int] at h;rw[cU,cU];refine Eq.trans (congrArg Nat.cast ?_) h;have e:X*D/2^(32*k)=gA X D k+X/2^(32*k)*D:=by
  unfold gA;rw[<-zLb _ _ (zsa (32*k)),<-z1a,<-zYa,<-i6]
 rw[e,Fp]
def Fq{X D:Nat}(h:X<fd):gA X D 16=X*D/fd:=by
 unfold gA;rw[zf,zFa h]
def EJ(X n k:Nat)(hn:n<=32):bD (X/2^n) k=(bD X (k+1)*4294967296+bD X k)/((2^n:Nat):Int)%4294967296:=by
 rw[cU,cU,cU,dh,<-zXa,zXa,zEa (2^n),<-zXa];generalize X/2^(32*k)=Y;have e:(((Y/4294967296%4294967296:Nat):Int)*4294967296+((Y%4294967296:Nat):Int))=((Y%(2^n*(2^(32-n)*4294967296)):Nat):Int):=by
  rw[<-z1a,<-zab,show n+(32-n)=32 from by omega,show(2:Nat)^32=4294967296 from rfl]
  omega
 rw[e,<-zxd,Nat.mod_mul_right_div_self];generalize Y/2^n=Z;have h:Z%4294967296=Z%(2^(32-n)*4294967296)%4294967296:=(Nat.mod_mul_left_mod _ _ _).symm;rw[h];exact Int.natCast_emod _ 4294967296
def vg(X k j:Nat):bD (X/2^(32*k)*2^(32*k)) j=if j<k then 0 else bD X j:=by
 have h:=kw 0 (X/2^(32*k)) k j;by_cases hj:j<k
 ·rw[if_pos hj];rw[z9a] at h;rw[h hj,lE]
 ·rw[if_neg hj,show j=k+(j-k) from by omega,<-kz,Nat.mul_div_cancel _ (zsa _),kz]
def fk(X b k:Nat):Nat:=X/2^(32*k)%b
def zn(X k:Nat){b:Nat}(h:0<b):fk X b k<b:=zUa _ h
def sD(X k:Nat):X/2^(32*k)=X/2^(32*(k+1))*4294967296+X/2^(32*k)%4294967296:=by
 rw[dh,<-zXa];omega
def AU(X b k:Nat):fk X b k=(fk X b (k+1)*4294967296+X/2^(32*k)%4294967296)%b:=by
 unfold fk
 conv=>lhs;rw[sD X k]
 rw[zEc,Fp,zEc]
def DK(X k:Nat){b:Nat}(hb:0<b)(h:b<=4294967295):X/b/2^(32*k)%4294967296=(fk X b (k+1)*4294967296+X/2^(32*k)%4294967296)/b:=by
 have e:X/b/2^(32*k)=X/2^(32*(k+1))/b*4294967296+(fk X b (k+1)*4294967296+X/2^(32*k)%4294967296)/b:=by
  rw[zXa,zEa,<-zXa]
  conv=>lhs;rw[sD X k]
  unfold fk;generalize X/2^(32*(k+1))=Y;generalize X/2^(32*k)%4294967296=z
  conv=>lhs;rw[show Y*4294967296+z=b*(Y/b*4294967296)+(Y%b*4294967296+z) from by
   have:=z1b Y b
   conv=>lhs;rw[<-this]
   rw[zYa,z1a];omega]
  rw[Nat.mul_add_div hb]
 have hlt:(fk X b (k+1)*4294967296+X/2^(32*k)%4294967296)/b<4294967296:=by
  rw[zVa hb];have h1:=zn X (k+1) hb;have h2:=zUa (X/2^(32*k)) (show 0<4294967296 by omega)
  have h3:(fk X b (k+1)+1)*4294967296<=b*4294967296:=zxa _ h1;omega
 rw[e,zEa (_/b),Nat.mul_add_mod,zFa hlt]
def DD(X b:Nat):fk X b 0=X%b:=by simp[fk]
structure Heads(W V P T F u v:Nat):Prop where
 w:W/P=T*4294967296+u
 d:V/P=F*4294967296+v
 u:u<4294967296
 v:v<4294967296
 one:1<=F
 pos:0<P
 lt:W<V*4294967296
variable{W V P T F u v:Nat}
def Heads.key{d r:Nat}(h:d*F+r=T):d*(F*4294967296+v)+r*4294967296=T*4294967296+d*v:=by
 rw[<-h,zUb,zYa,z1a];omega
def Heads.vpos(H:Heads W V P T F u v):0<V:=by
 rcases zqb V with h|h
 ·have:=H.lt;rw[h] at this;omega
 ·exact h
def Heads.over(H:Heads W V P T F u v){d:Nat}(h:W/P<d*(V/P)):W/V<d:=by
 apply zMc;have h1:W<(W/P+1)*P:=by have:=z1b W P;have:=zUa W H.pos;rw[zYa,zEa (W/P)];omega
 have h2:(W/P+1)*P<=d*(V/P)*P:=zxa _ h;have h3:d*(V/P)*P<=d*V:=by rw[z1a];exact zWa _ (zdc V P)
 rw[zEa V];omega
def Heads.under(H:Heads W V P T F u v){d:Nat}(h:d*(V/P)<=W/P)(hd:d<4294967296):d<=W/V+1:=by
 rcases zqb d with h0|h0
 ·rw[h0];exact zia _
 obtain⟨e,rfl⟩:∃ e,d=e+1:=⟨d-1,by omega⟩
 have hb:e<=V/P:=by rw[H.d];have h1:1*4294967296<=F*4294967296:=zxa _ H.one;omega
 have:e<=W/V:=by
  rw[z0b H.vpos];have h1:V<=(V/P+1)*P:=by have:=z1b V P;have:=zUa V H.pos;rw[zYa,zEa (V/P)];omega
  have h2:e*V<=e*((V/P+1)*P):=zWa _ h1;have h3:e*((V/P+1)*P)<=(e+1)*(V/P)*P:=by
   rw[<-z1a];apply zxa;rw[zUb,zYa];omega
  have h4:(e+1)*(V/P)*P<=W/P*P:=zxa _ h;have h5:=zdc W P;omega
 exact Nat.succ_le_succ this
def Heads.q_lt(H:Heads W V P T F u v):W/V<4294967296:=zMc (by have:=H.lt;omega)
def Heads.start(H:Heads W V P T F u v):W/V<=T/F:=by
 have h1:W/V<T/F+1:=by
  apply H.over;rw[H.w,H.d];have h2:T<(T/F+1)*F:=by have:=z1b T F;have:=zUa T (show 0<F from H.one);rw[zYa,zEa (T/F)];omega
  have h3:(T+1)*4294967296<=(T/F+1)*F*4294967296:=zxa _ h2;have h4:(T/F+1)*F*4294967296<=(T/F+1)*(F*4294967296+v):=by rw[z1a];exact zWa _ (zjc _ _)
  have h5:=H.u;exact zPa (by omega) (zAa h3 h4)
 exact Nat.le_of_lt_succ h1
def Heads.step_big(H:Heads W V P T F u v){d:Nat}(h:4294967296<=d):W/V<=d-1:=zCd (zPa H.q_lt h)
def F8{A B T r u c:Nat}(hk:A+r*c=T*c+B)(ht:r*c+u<B):T*c+u<A:=by omega
def Heads.step(H:Heads W V P T F u v){d r:Nat}(h:d*F+r=T)(ht:r*4294967296+u<d*v):W/V<=d-1/\1<=d:=by
 have h1:W/V<d:=by
  apply H.over;rw[H.w,H.d];exact F8 (Heads.key (v:=v) h) ht
 exact⟨zCd h1,zGa (zia _) h1⟩
def Heads.t_lt(H:Heads W V P T F u v):T<(F+1)*4294967296:=by
 have h1:W/P*P<=W:=zdc W P;have h2:V<(V/P+1)*P:=by have:=z1b V P;have:=zUa V H.pos;rw[zYa,zEa (V/P)];omega
 have h3:V*4294967296<(V/P+1)*P*4294967296:=ztb h2 (by omega)
 have h4:=H.lt;have h5:W/P*P<(V/P+1)*4294967296*P:=by rw[Nat.mul_right_comm];omega
 have h6:W/P<(V/P+1)*4294967296:=Nat.lt_of_mul_lt_mul_right h5;rw[H.w,H.d] at h6;have h7:=H.v;rw[zYa];omega
def Heads.done(H:Heads W V P T F u v){d r:Nat}(h:d*F+r=T)(hr:4294967296<=r\/(d<4294967296/\d*v<=r*4294967296+u)):d<4294967296/\d<=W/V+1:=by
 have hd:d<4294967296:=by
  rcases hr with hr|hr
  ·have h1:=H.t_lt;rw[zYa,zsc] at h1;have h2:d*F<4294967296*F:=by omega
   exact Nat.lt_of_mul_lt_mul_right h2
  ·exact hr.1
 refine⟨hd,H.under ?_ hd⟩;rw[H.w,H.d];have hk:=Heads.key (v:=v) h;rcases hr with hr|hr
 ·have h1:d*v<=4294967295*4294967295:=z2a (by omega) (by have:=H.v;omega)
  omega
 ·omega
def dg(X k:Nat):Nat:=X/2^(32*k)%4294967296
def pz(X k:Nat):bD X k=(dg X k:Nat):=rfl
def fC(X k:Nat):dg X k<4294967296:=zUa _ (by omega)
def BF(X k:Nat):dg X k<=4294967295:=Nat.le_of_lt_succ (fC X k)
def n8(X k:Nat):X/2^(32*k)=X/2^(32*(k+1))*4294967296+dg X k:=sD X k
def jV{X k:Nat}(h:X<2^(32*(k+1))):X/2^(32*k)=dg X k:=by
 rw[n8,z0a h,zzd,z9a]
def E0{U V e j:Nat}(hV:V<2^(32*(e+2)))(hV1:2^(32*(e+1))<=V)(hU:U/2^(32*j)<V*4294967296) :
  Heads (U/2^(32*j)) V (2^(32*e)) (dg U (j+e+2)*4294967296+dg U (j+e+1)) (dg V (e+1)) (dg U (j+e)) (dg V e):=by
 have hc:∀ k,U/2^(32*j)/2^(32*k)=U/2^(32*(j+k)):=λk=>by rw[zXa,<-zab,zUb]
 have hUl:U<2^(32*(j+e+2+1)):=by
  have h1:=(zVa (zsa (32*j))).1 hU;have h2:V*4294967296*2^(32*j)<2^(32*(e+2))*4294967296*2^(32*j):=ztb (ztb hV (by omega)) (zsa _)
  have h3:2^(32*(e+2))*4294967296*2^(32*j)=2^(32*(j+e+2+1)):=by
   rw[dh (j+e+2),show 32*(j+e+2)=32*j+32*(e+2) from by omega,zab,Nat.mul_right_comm,zEa (2^(32*(e+2))) (2^(32*j))]
  rw[<-h3];exact zbc h1 h2
 refine⟨?_,?_,fC _ _,fC _ _,?_,zsa _,hU⟩
 ·rw[hc,n8,n8 U (j+e+1),jV hUl]
 ·rw[n8,jV hV]
 ·rw[<-jV hV];exact(z0b (zsa _)).2 (by rw[zsc];exact hV1)
def Lw(U i k:Nat):dg U i*4294967296+dg U k<=18446744073709551615:=by
 have h1:=BF U i;have h2:=BF U k;omega
def Ao{T F D R:Nat}(h:D*F+R=T)(hD:1<=D):(D-1)*F+(R+F)=T:=by
 obtain⟨E,rfl⟩:∃ E,D=E+1:=⟨D-1,by omega⟩
 rw[zYa,zsc] at h;rw[Nat.add_sub_cancel];omega
def uh{X X' Y k:Nat}(h:X%2^(32*k)=X'%2^(32*k)):bS X Y k=bS X' Y k:=by unfold bS;rw[h]
def fj(U Z j:Nat):Nat:=U%2^(32*j)+Z*2^(32*j)
def Dm{U Z j t:Nat}(h:t<j):bD (fj U Z j) t=bD U t:=by
 unfold fj;rw[kw _ _ _ _ h,jo,if_pos h]
def AG(U Z j i:Nat):bD (fj U Z j) (j+i)=bD Z i:=by
 rw[<-kz];unfold fj;rw[z6c _ _ (zsa _),z0a (zUa _ (zsa _)),z9a]
def uE(U Z j i:Nat):Nat->Int:=uA (j+i) (fj U Z j) U
def vP(U Z j:Nat):uE U Z j 0=bD U:=by
 funext t;unfold uE uA;split
 ·rename_i h;exact Dm (by omega)
 ·rfl
def mI(U Z j i:Nat):uE U Z j i (j+i)=bD U (j+i):=vk _ _ _
def mq(W Y m:Nat):Nat:=(W+2^(32*m)-Y)%2^(32*m)
def D1{W Y m i:Nat}(hi:i<m)(hY:Y<=2^(32*m)):bD (mq W Y m) i=(bD W i-bD Y i-(bS W Y i:Nat))%4294967296:=by
 have hd:bD (W+2^(32*m)) i=bD W i:=by
  have:=kw W 1 m i hi;rwa [zsc] at this
 have hb:bS (W+2^(32*m)) Y i=bS W Y i:=uh (by
  rw[show 32*m=32*i+(32*m-32*i) from by omega,zab,zkd])
 unfold mq;rw[jo,if_pos hi,BH (by omega),hd,hb]
def Gs(W Y m:Nat):mq W Y m<2^(32*m):=zUa _ (zsa _)
def xW{W Y m:Nat}(hW:W<2^(32*m))(hY:Y<2^(32*m)):bS W Y m=if W<Y then 1 else 0:=by
 unfold bS;rw[zFa hW,zFa hY]
def eh(N V j:Nat):Nat:=N/V%2^(32*j)*V+N%V
def DC(N V:Nat):eh N V 0=N%V:=by simp[eh,zfd]
def AS{N V k:Nat}(h:N/V<2^(32*k)):eh N V k=N:=by
 unfold eh;rw[zFa h,zEa];exact z1b N V
def vH(N V j:Nat):eh N V (j+1)=eh N V j+dg (N/V) j*V*2^(32*j):=by
 unfold eh dg;rw[eJ];generalize N/V/2^(32*j)%4294967296=t;generalize 2^(32*j)=P;rw[zYa,show P*t*V=t*V*P from by rw[zEa P t,Nat.mul_right_comm]]
 omega
def xm{N V:Nat}(j:Nat)(h:0<V):eh N V j<V*2^(32*j):=by
 unfold eh;have h1:=zUa (N/V) (zsa (32*j));have h2:=zUa N h;have h3:(N/V%2^(32*j)+1)*V<=2^(32*j)*V:=zxa _ h1;rw[zYa,zsc] at h3;rw[zEa V];omega
def oJ{N V:Nat}(j:Nat)(h:0<V):eh N V j/2^(32*j)<V:=by
 rw[zVa (zsa _)];exact xm j h
def p8(N V j:Nat):eh N V (j+1)/2^(32*j)=eh N V j/2^(32*j)+V*dg (N/V) j:=by
 rw[vH,z6c _ _ (zsa _),zEa V]
def zm(N V j:Nat):eh N V (j+1)%2^(32*j)=eh N V j%2^(32*j):=by
 rw[vH,Nat.add_mul_mod_self_right]
def FR{N V:Nat}(j:Nat)(h:0<V):eh N V (j+1)/2^(32*j)/V=dg (N/V) j:=by
 rw[p8,zLb _ _ h,z0a (oJ j h),z9a]
def FS{N V:Nat}(j:Nat)(h:0<V):eh N V (j+1)/2^(32*j)<V*4294967296:=by
 rw[zVa (zsa _),z1a,zEa 4294967296,<-dh];exact xm (j+1) h
def DB{N V n:Nat}(j:Nat)(h:0<V)(hV:V<2^(32*n)):eh N V (j+1)<2^(32*(j+n+1)):=by
 have h1:=xm (N:=N) (j+1) h;have h2:V*2^(32*(j+1))<2^(32*n)*2^(32*(j+1)):=ztb hV (zsa _);rw[<-zab,show 32*n+32*(j+1)=32*(j+n+1) from by omega] at h2
 omega
def vE{U U' j:Nat}(h:U%2^(32*j)=U'%2^(32*j)):fj U (U'/2^(32*j)) j=U':=by
 unfold fj;rw[h,zEa (U'/2^(32*j)) (2^(32*j))];exact Nat.mod_add_div U' _
def Dn(U Z j:Nat):fj U Z j%2^(32*j)=U%2^(32*j):=by
 unfold fj;rw[Nat.add_mul_mod_self_right,Nat.mod_mod]
def Dl(U Z j:Nat):fj U Z j/2^(32*j)=Z:=by
 unfold fj;rw[z6c _ _ (zsa _),z0a (zUa _ (zsa _)),z9a]
def zd{U Z j m:Nat}(hZ:Z<2^(32*m)):fj U Z j<2^(32*(j+m)):=by
 have h1:fj U Z j<(Z+1)*2^(32*j):=by unfold fj;have:=zUa U (zsa (32*j));rw[zYa];omega
 have h2:(Z+1)*2^(32*j)<=2^(32*m)*2^(32*j):=zxa _ hZ;rw[<-zab,show 32*m+32*j=32*(j+m) from by omega] at h2
 omega
variable{N V n:Nat}
def nq(hV:V<2^(32*n)):V<2^(32*(n+1)):=zPa hV (zua (by omega) (by omega))
def xI{x y B:Nat}(hx:x<B):(x+y+B-y)%B=x:=by
 rw[show x+y+B-y=x+B from by omega,Nat.add_mod_right,zFa hx]
def zp(j:Nat)(h:0<V)(hV:V<2^(32*n)) :
  fj (eh N V (j+1)) (mq (eh N V (j+1)/2^(32*j)) (V*dg (N/V) j) (n+1)) j=eh N V j:=by
 have e:mq (eh N V (j+1)/2^(32*j)) (V*dg (N/V) j) (n+1)=eh N V j/2^(32*j):=by
  unfold mq;rw[p8];exact xI (zbc (oJ j h) (nq hV))
 rw[e,vE (zm N V j)]
def D2(j:Nat)(h:0<V)(hV:V<2^(32*n)) :
  mq (eh N V (j+1)/2^(32*j)) (V*(dg (N/V) j+1)) (n+1)=eh N V j/2^(32*j)+2^(32*(n+1))-V:=by
 have h1:=oJ (N:=N) j h;have h2:=nq hV;unfold mq;rw[p8,zUb V (dg (N/V) j) 1,zed];generalize 2^(32*(n+1))=B at *;generalize eh N V j/2^(32*j)=x at *;generalize V*dg (N/V) j=y;rw[show x+y+B-(y+V)=x+B-V from by omega,zFa (by omega)]
def zq(j:Nat)(h:0<V)(hV:V<2^(32*n)){U1:Nat}(e1:U1=fj (eh N V (j+1)) (mq (eh N V (j+1)/2^(32*j)) (V*(dg (N/V) j+1)) (n+1)) j) :
  fj U1 ((U1/2^(32*j)+V)%2^(32*(n+1))) j=eh N V j:=by
 have h1:=oJ (N:=N) j h;have h2:=nq hV;have e2:(U1/2^(32*j)+V)%2^(32*(n+1))=eh N V j/2^(32*j):=by
  rw[e1,Dl,D2 j h hV];generalize 2^(32*(n+1))=B at *;generalize eh N V j/2^(32*j)=x at *;rw[show x+B-V+V=x+B from by omega,Nat.add_mod_right,zFa (by omega)]
 rw[e2,vE (by rw[e1,Dn,zm])]
end
end Go.Proofs.YtpahompifldeeaaGreat
