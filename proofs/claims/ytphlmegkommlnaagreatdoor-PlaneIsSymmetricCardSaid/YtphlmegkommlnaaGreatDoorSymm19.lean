/- Part 19 of the proof that PlaneIsSymmetric answers true at every input -/
import Derived.Test.YtphlmegkommlnaaGreatDoorSymm18
set_option linter.unusedVariables false
set_option linter.unusedSimpArgs false
set_option linter.unnecessarySimpa false
set_option linter.defProp false
set_option maxRecDepth 20000
namespace Go.Proofs.YtphlmegkommlnaaGreatDoor
noncomputable section
namespace Sy
open Go Go.Proofs Geo
def ae(L:List Nat):List D:=L.map λ(k:Nat)=>I (k:Int)
def ai(L:List Nat):(ae L).length=L.length:=zua ..
def uP{L:List Nat}{t k:Nat}(h:L[t]?=some k):(ae L)[t]?=some (I (k:Int)):=by simp[ae,h]
def BP{n:Nat}(h:0<n):D.idx (D.int .i64 0) n=some 0:=ap (i:=0) h
theorem sJ{m:V}{P:Nat->V}{a:Nat}:∀ (L:List Nat) (best:Option Nat) (b:Nat),L.foldl (cQ m P a) best=some b->b∈L\/best=some b
 | [],best,b,h=>.inr h
 | k::L,best,b,h=>by
  rw[zfc] at h;rcases sJ L _ b h with h1|h1
  ·exact .inl (zia _ h1)
  ·unfold cQ at h1;split at h1
   ·exact .inr h1
   ·split at h1
    ·cases h1;exact .inl zoa
    ·split at h1<;>cases h1
     ·exact .inl zoa
     ·exact .inr rfl
theorem rW{body:Bd}{S:Nat->Nat->Prop}{a:Nat}{G:Nat->Prop}(hS:∀ c b,G c->S c b->b≠a->G b)
  (hstep:∀ (c b:Nat) (out:List Nat),G c->c≠a->S c b->out.length<=1000->body [.sl (ae out),I (c:Int)]=some (.inl [.sl (ae (out++[c])),I (b:Int)]))
  (hend:∀ out:List Nat,body [.sl (ae out),I (a:Int)]=some (.inr (0,[.sl (ae out)]))) :
  ∀ {c:Nat} {p:List Nat},Chain S a c p->G c->c≠a->∀ out:List Nat,(out++p).length<=1000->aO body [.sl (ae out),I (c:Int)]=some (0,[.sl (ae (out++p))])
 | c,_,.done s,hc,hca,out,hl=>by
  have h1:=hstep c a out hc hca s (by simp at hl;omega)
  rw[show aO body [.sl (ae out),I (c:Int)]=aO body [.sl (ae (out++[c])),I (a:Int)] from cS h1];exact cM (hend _)
 | c,_,.step (y:=y) (l:=p) s hy k,hc,hca,out,hl=>by
  have h1:=hstep c y out hc hca s (by simp at hl;omega)
  rw[show aO body [.sl (ae out),I (c:Int)]=aO body [.sl (ae (out++[c])),I (y:Int)] from cS h1];have:=rW hS hstep hend k (hS c y hc s hy) hy (out++[c]) (by simpa using hl)
  rw[this];simp
def jI{P:Nat->V}{i:Nat}{m:V}{d:Int}:bq P (i+1) m d=if V.dot m (P i)=d then bq P i m d++[i] else bq P i m d:=by
 unfold bq;rw[z1b,List.filter_append];by_cases h:V.dot m (P i)=d
 ·simp[h]
 ·simp[h]
def Yd(n:Nat){l:List V}(hl:∀ x∈l,bd MV x)(hlen:l.length<=100)(hs:∀ i j,i<j->j<l.length->aC (pt l i) (pt l j)){m:V}{d:Int}(hF:IsF (pt l) l.length m d)(hm:bd 549755813888 m) :
  ∃ p,bz (pt l) l.length m d p/\cA (n+5) 46 [a7 l,bY (m,d)]=some (.sl (ae p)):=by
 obtain⟨p,hp,hnd,hmem⟩:=hF.poly hs;refine⟨p,hp,?_⟩;have F:=hF.flat hs;obtain⟨a,ha1,ha,hea,hale,h3⟩:=hF.head hs;obtain⟨a',ha1',hch⟩:=hp;rw[ha1] at ha1';cases ha1';obtain⟨on,hon⟩:∃ on,bq (pt l) l.length m d=on:=⟨_,rfl⟩;rw[hon] at F ha1 ha hea hale h3 hch hmem;have hlt:∀ k∈on,k<l.length:=λk hk=>by rw[<-hon] at hk;exact(aR.1 hk).1
 have hdk:∀ k∈on,V.dot m (pt l k)=d:=λk hk=>by rw[<-hon] at hk;exact(aR.1 hk).2
 have hw:∀ b∈on,∀ k∈on,V.dot m (wy (pt l) b k)=0:=λb hb k hk=>by rw[dt,hdk b hb,hdk k hk];omega
 have honl:on.length<=100:=by
  rw[<-hon];unfold bq;exact zDa (zjc _ _) (by rw[zQb];exact hlen)
 have hpl:p.length<=on.length:=z4b hnd λz hz=>((hmem z).1 hz).1;have ll:(l.map ac).length=l.length:=zua ..;have hcore:=λ(c k:Nat) (hc:c∈on) (hk:k∈on) (best:Option Nat) (hb:∀ b,best=some b->b∈on) (X:D)=>KZ n hl (d:=d) hF.nz.1 (hlt c hc) (hlt k hk) (best:=best) (λb e=>⟨hlt b (hb b e),hw c hc b (hb b e)⟩) (hw c hc k hk) X;have hnx:∀ c∈on,Geo.lK (pt l) on c->∃ b,on.foldl (cQ m (pt l) c) none=some b/\Side m (pt l) on c b:=λc hc ec=>vB F hc ec (h3 c hc);obtain⟨t0,hon0⟩:∃ t0,on=a::t0:=by
  cases hx:on with
  | nil=>rw[hx] at ha;simp at ha
  | cons y t0=>rw[hx] at ha1;simp at ha1;subst ha1;exact⟨t0,rfl⟩
 have hget0:(ae on)[0]?=some (I (a:Int)):=by rw[hon0];rfl
 have hpos:0<(ae on).length:=by rw[ai,hon0];simp
 rw[Yn]
 delta Oz qG qB qC qT qS qX qV qW qZ iL iR Jn
 refine aa (z:=l.map ac) rfl ?_;refine bk (λi s=>s=[I (i:Int),.sl (ae (bq (pt l) i m d))]) l.length 0 (zma _) rfl (λi hi s hJ=>?_) (λs hJ=>?_)
 ·subst hJ;left;refine⟨_,?_,rfl⟩;refine aa ah (aa ab ?_);refine az (by show((i:Int)<((l.map ac).length:Int));rw[ll];omega) ?_
  refine aa (z:=(0,[.sl (ae (bq (pt l) (i+1) m d))])) ?_ (aa (aq (au (i:=i) (by omega))) rfl)
  refine aa (z:=l.map ac) rfl (aa (z:=i) (by rw[ll];exact ap hi) (aa (cZ hi) (aa (z:=ac m) rfl (aa (EG (n+3) hm (hl _ (cu hi)) (by decide)) (aa (z:=I d) rfl ?_)))))
  rw[bK];refine aa ab ?_;rw[jI];by_cases hd:V.dot m (pt l i)=d
  ·have hd':V.dot m (l.getD i V.zero)=d:=hd;rw[if_pos hd,Lz hd',if_pos ?_]
   ·simp[g1,D.els,ae,g0]
   ·have:(bq (pt l) i m d).length<=i:=by unfold bq;exact zDa (zjc _ _) (by simp)
    simp only[g0,g1,D.els,ai,zza,zmb];omega
  ·have hd':¬ V.dot m (l.getD i V.zero)=d:=hd;rw[if_neg hd,LA hd'];rfl
 ·subst hJ;refine⟨(0,[.sl (ae on)]),?_,?_⟩
  ·refine aa ah (aa ab ?_);rw[<-hon];exact aG (by show ¬ ((l.length:Int)<((l.map ac).length:Int));rw[ll];omega) rfl
  refine aa (BP hpos) (aa hget0 (aa (BP hpos) (aa hget0 ?_)));obtain⟨b1,hb1,hs1⟩:=hnx a ha hea;refine bk (λt s=>s=[jl ((on.take t).foldl (cQ m (pt l) a) none),.sl (ae on),I (t:Int),.sl (ae on)]) on.length 0 (zma _) rfl (λt ht s hJ=>?_) (λs hJ=>?_)
  ·subst hJ;left;refine⟨_,?_,rfl⟩;refine aa ah (aa ab ?_);refine az (by show((t:Int)<((ae on).length:Int));rw[ai];omega) ?_
   have hk:on[t]?=some on[t]:=zda ht;refine aa (z:=(0,[jl ((on.take (t+1)).foldl (cQ m (pt l) a) none),.sl (ae on)])) ?_ (aa (aq (au (i:=t) (by omega))) rfl)
   refine aa (z:=ae on) rfl (aa (z:=t) (by rw[ai];exact ap ht) (aa (uP hk) ?_))
   rw[zxa ht,List.foldl_append,zfc,List.foldl_nil];exact hcore a on[t] ha (zIa ht) _ (λb hb=>by
    rcases sJ _ _ b hb with h|h
    ·exact zGa h
    ·cases h) (.sl (ae on))
  ·subst hJ;rw[z3a,hb1];refine⟨(0,[I (b1:Int),.sl (ae on)]),?_,?_⟩
   ·refine aa ah (aa ab ?_);refine aG (by show ¬ ((on.length:Int)<((ae on).length:Int));rw[ai];omega) ?_
    rfl
   obtain⟨p',hpp,hch',hy⟩:∃ p',p=a::p'/\Chain (Side m (pt l) on) a b1 p'/\b1≠a:=by
    cases hch with
    | done s=>exact absurd rfl s.ne
    | step s hne k=>
     have:=Side.unique F ha s hs1;subst this;exact⟨_,rfl,k,hne⟩
   refine m9 (rW (S:=Side m (pt l) on) (a:=a) (G:=λc=>c∈on/\Geo.lK (pt l) on c) (λc b hc s _=>⟨s.mem,s.ext F hc.1⟩) (λc b out hc hca hsd hol=>?_) (λout=>?_) hch' ⟨hs1.mem,hs1.ext F ha⟩ hy [a] ?_) ?_
   ·obtain⟨b',hb',hsb'⟩:=hnx c hc.1 hc.2;have:=Side.unique F hc.1 hsd hsb';subst this;refine aa (z:=ae on) rfl (aa (BP hpos) (aa hget0 ?_));have e0:D.beq (I (c:Int)) (I (a:Int))=false:=by rw[cd];simp[hca]
    refine aa (z:=true) (by show D.truth (D.bool (!(D.beq (I (c:Int)) (I (a:Int)))))=_;rw[e0];rfl) ?_
    rw[if_pos rfl,if_pos (by simp only[g0,D.els,ai,zza,zmb];omega)]
    refine aa (z:=ae on) rfl ?_;refine bZ (λt s=>s=[jl ((on.take t).foldl (cQ m (pt l) c) none),I (t:Int)]) on.length 0 (zma _) rfl (λt ht s hJ=>?_) (λs hJ=>?_)
    ·subst hJ;left;refine⟨_,?_,rfl⟩;refine aa ah (aa ab ?_);refine az (by show((t:Int)<((ae on).length:Int));rw[ai];omega) ?_
     have hk:on[t]?=some on[t]:=zda ht;refine aa (z:=(0,[jl ((on.take (t+1)).foldl (cQ m (pt l) c) none),.sl (ae on)])) ?_ (aa (aq (au (i:=t) (by omega))) rfl)
     refine aa (z:=ae on) rfl (aa (z:=t) (by rw[ai];exact ap ht) (aa (uP hk) ?_))
     rw[zxa ht,List.foldl_append,zfc,List.foldl_nil];exact hcore c on[t] hc.1 (zIa ht) _ (λb hb=>by
      rcases sJ _ _ b hb with h|h
      ·exact zGa h
      ·cases h) (.sl (ae on))
    ·subst hJ;rw[z3a,hb'];refine⟨(0,[I (b:Int)]),?_,?_⟩
     ·refine aa ah (aa ab ?_);refine aG (by show ¬ ((on.length:Int)<((ae on).length:Int));rw[ai];omega) ?_
      rfl
     ·simp[g0,g1,D.els,ae]
   ·refine aa (z:=ae on) rfl (aa (BP hpos) (aa hget0 ?_));have e0:D.beq (I (a:Int)) (I (a:Int))=true:=by rw[cd];simp
    refine aa (z:=false) (by show D.truth (D.bool (!(D.beq (I (a:Int)) (I (a:Int)))))=_;rw[e0];rfl) ?_
    rfl
   ·have:([a]++p').length=p.length:=by rw[hpp];rfl
    omega
   ·rw[hpp];rfl
end Sy
end
noncomputable section
namespace Sy
open Go Go.Proofs Geo
def mo(q:V×Int)(p:List Nat):D:=.st [ac q.1,I q.2,.sl (ae p)]
def cm(l:List V):D:=.st [a7 l]
def Ev(l:List V):Prop:=∀ i j,i<j->j<l.length->aC (pt l i) (pt l j)
def Lx{l:List V}(hl:∀ x∈l,bd MV x){m:V}{d:Int}(h:IsF (pt l) l.length m d):bd 549755813888 m:=by
 obtain⟨i,j,k,h1,h2,h3,h4,h5,h6⟩:=h.ex;have hi:=hl _ (cu (show i<l.length by omega))
 have hj:=hl _ (cu (show j<l.length by omega))
 have hk:=hl _ (cu h3);have:=dT (gX (mC (P:=pt l) hi hj) (mC (P:=pt l) hi hk));rcases h5 with rfl|rfl
 ·exact this
 ·exact oW this
def Ya(n:Nat){l:List V}(hl:∀ x∈l,bd MV x)(hlen:l.length<=100)(hs:Ev l):∃ (L:List (V×Int)) (poly:V×Int->List Nat),Facets (pt l) l.length L/\(∀ q∈L,bz (pt l) l.length q.1 q.2 (poly q))/\L.length<=2000000 ∧
  cA (n+7) 18 [cm l]=some (.sl (L.map λq=>mo q (poly q))):=by
 obtain⟨y,h1,K,L,h2,h3,h4,rfl⟩:=Yc n hl hlen;have hLF:=h2.facets h3 h4;have hLl:L.length<=2000000:=by rw[h3.length_eq];exact h2.len hlen
 have hex:∀ q:V×Int,∃ p,q∈L->bz (pt l) l.length q.1 q.2 p/\cA (n+6) 46 [a7 l,bY q]=some (.sl (ae p)):=λq=>by
  by_cases hq:q∈L
  ·have hF:=(hLF.mem q).1 hq;obtain⟨p,k1,k2⟩:=Yd (n+1) hl hlen hs hF (Lx hl hF);exact⟨p,λ_=>⟨k1,k2⟩⟩
  ·exact⟨[],λh=>absurd h hq⟩
 obtain⟨poly,hpoly⟩:∃ poly:V×Int->List Nat,∀ q∈L,bz (pt l) l.length q.1 q.2 (poly q)/\cA (n+6) 46 [a7 l,bY q]=some (.sl (ae (poly q))):=⟨λq=>Classical.choose (hex q),λq hq=>Classical.choose_spec (hex q) hq⟩;refine⟨L,poly,hLF,λq hq=>(hpoly q hq).1,hLl,?_⟩;have hp:=λq (hq:q∈L)=>(hpoly q hq).2;rw[Yg]
 delta Ot qG qB qC qS qX qV qW qZ iL iR Jn
 refine aa (z:=a7 l) rfl (aa h1 (aa (z:=L.map bY) rfl ?_));have ll:(L.map bY).length=L.length:=zua ..;refine bk (λi s=>s=[.sl ((L.take i).map λq=>mo q (poly q)),I (i:Int)]) L.length 0 (zma _) rfl (λi hi s hJ=>?_) (λs hJ=>?_)
 ·subst hJ;left;refine⟨_,?_,rfl⟩;refine aa ah (aa ab (az (by show((i:Int)<((L.map bY).length:Int));rw[ll];omega) ?_))
  have hg:(L.map bY)[i]?=some (bY L[i]):=by simp[hi]
  refine aa (z:=L.map bY) rfl (aa (z:=i) (by rw[ll];exact ap hi) (aa hg ?_))
  refine aa (z:=ac L[i].1) rfl (aa (z:=I L[i].2) rfl (aa (z:=a7 l) rfl (aa (hp L[i] (zIa hi)) ?_)));rw[if_pos (by simp only[g0,D.els,zua,zcb,zza,zmb];omega)]
  refine aa (aq (au (i:=i) (by omega))) ?_
  rw[zxa hi,z3b];rfl
 ·subst hJ;refine⟨(0,[.sl ((L.take L.length).map λq=>mo q (poly q))]),?_,?_⟩
  ·refine aa ah (aa ab (aG (by show ¬ ((L.length:Int)<((L.map bY).length:Int));rw[ll];omega) rfl))
  ·rw[z3a];rfl
def cR(e:Nat×Nat):D:=.st [I (e.1:Int),I (e.2:Int)]
def IH{a b:Nat×Nat}(h:zi a b):oT [ba (a.1:Int) b.1,ba (a.2:Int) b.2]=-1:=by
 simp only[zi] at h;rcases h with h|⟨h1,h⟩
 ·have:(a.1:Int)<b.1:=by omega
  simp[oT,ba,this]
 ·have e:(a.1:Int)=b.1:=by omega
  have:(a.2:Int)<b.2:=by omega
  simp[oT,ba,e,this]
def IG{a b:Nat×Nat}(h:zi b a):oT [ba (a.1:Int) b.1,ba (a.2:Int) b.2]=1:=by
 simp only[zi] at h;rcases h with h|⟨h1,h⟩
 ·have:(b.1:Int)<a.1:=by omega
  simp[oT,ba,this,z6b.2 (zMa this)]
 ·have e:(a.1:Int)=b.1:=by omega
  have:(b.2:Int)<a.2:=by omega
  simp[oT,ba,e,this,z6b.2 (zMa this)]
def EU(n:Nat)(p q:Nat×Nat):rX (cH aO (cA (n+3)) (iO aO (cA (n+3)))) (bV 51) (cR p) (cR q)=some (oT [ba (p.1:Int) q.1,ba (p.2:Int) q.2]):=by
 unfold rX;rw[show ∀ l,(cH aO (cA (n+3)) (iO aO (cA (n+3)))).call (bV 51) l=cA (n+3) 51 l from λl=>congrFun (congrArg (cA (n+3)) (show rT (bV 51)=51 by kernel_rfl)) l,show cR p=.st [I (p.1:Int),I (p.2:Int)] from rfl,show cR q=.st [I (q.1:Int),I (q.2:Int)] from rfl,X0]
 rfl
theorem J8(n:Nat):∀ (L:List (Nat×Nat)),L.Pairwise zi->qR (cH aO (cA (n+3)) (iO aO (cA (n+3)))) (bV 51) (L.map cR)=true
 | [],_=>rfl
 | p::L,h=>by
  obtain⟨h1,h2⟩:=zCa.1 h;simp only[z4a,qR,zaa,zka,z7a];refine⟨⟨?_,?_⟩,J8 n L h2⟩
  ·simp only[D2,EU];simp[oT,ba]
  ·rintro _ ⟨q,hq,rfl⟩;simp only[pG,D2,EU,IH (h1 q hq),IG (h1 q hq)];decide
def Jl{a b:Nat×Nat}(h:a≠b):zi a b\/zi b a:=by
 obtain⟨a1,a2⟩:=a;obtain⟨b1,b2⟩:=b;simp only[zi];by_cases h1:a1=b1<;>by_cases h2:a2=b2
 ·subst h1;subst h2;exact absurd rfl h
 all_goals omega
theorem zE:∀ (K:List (Nat×Nat)),K.Nodup->∃ L:List (Nat×Nat),L.Perm K/\L.Pairwise zi
 | [],_=>⟨[],.refl _,.nil⟩
 | x::K,h=>by
  obtain⟨h1,h2⟩:=List.nodup_cons.1 h;obtain⟨L,p1,p2⟩:=zE K h2;have ins:∀ L:List (Nat×Nat),L.Pairwise zi->(∀ y∈L,x≠y)->∃ M:List (Nat×Nat),M.Perm (x::L)/\M.Pairwise zi:=by
   intro L
   induction L with
   | nil=>intro _ _;exact⟨[x],.refl _,by simp⟩
   | cons y L ih=>
    intro hp hn;obtain⟨q1,q2⟩:=zCa.1 hp;rcases Jl (hn y zoa) with k|k
    ·refine⟨x::y::L,.refl _,zCa.2 ⟨λz hz=>?_,hp⟩⟩;rcases zva.1 hz with rfl|hz
     ·exact k
     ·have:=q1 z hz;simp only[zi] at *;omega
    ·obtain⟨M,m1,m2⟩:=ih q2 (λz hz=>hn z (zia _ hz));refine⟨y::M,(m1.cons y).trans (.swap x y L),zCa.2 ⟨λz hz=>?_,m2⟩⟩;rcases zva.1 (m1.subset hz) with rfl|hz
     ·exact k
     ·exact q1 z hz
  obtain⟨M,m1,m2⟩:=ins L p2 (λy hy e=>h1 (p1.subset (e ▸ hy)));exact⟨M,m1.trans (p1.cons x),m2⟩
def fM{p:List Nat}{k:Nat}(h:k<p.length):(ae p)[k]?=some (I (p.getD k 0:Nat)):=by simp[ae,List.getD,h]
def eH(p:List Nat)(k:Nat):List (Nat×Nat):=(List.range k).filterMap λk=>if p.getD k 0<p.getD ((k+1)%p.length) 0 then some (p.getD k 0,p.getD ((k+1)%p.length) 0) else none
def wD(p:List Nat)(k:Nat):eH p (k+1)=if p.getD k 0<p.getD ((k+1)%p.length) 0 then eH p k++[(p.getD k 0,p.getD ((k+1)%p.length) 0)] else eH p k:=by
 unfold eH;rw[z1b,List.filterMap_append];split
 ·rename_i h;simp only[List.filterMap_cons,List.filterMap_nil,if_pos h]
 ·rename_i h;simp only[List.filterMap_cons,List.filterMap_nil,if_neg h,zLb]
def qd(p:List Nat)(k:Nat):(eH p k).length<=k:=by
 unfold eH;exact zDa (List.length_filterMap_le _ _) (by simp)
def Yb(n:Nat){l:List V}{L:List (V×Int)}{poly:V×Int->List Nat}(h18:cA (n+7) 18 [cm l]=some (.sl (L.map λq=>mo q (poly q))))(hL:L.length<=2000000)(hp:∀ q∈L,(poly q).length<=100/\0<(poly q).length)
  (hnd:(cE L poly).Nodup):∃ E:List (Nat×Nat),E.Perm (cE L poly)/\E.Pairwise zi/\cA (n+8) 21 [cm l]=some (.sl (E.map cR)):=by
 obtain⟨E,e1,e2⟩:=zE _ hnd;refine⟨E,e1,e2,?_⟩;rw[Yi];unfold L1;refine aa h18 (aa (z:=L.map λq=>mo q (poly q)) rfl ?_);have ll:(L.map λq=>mo q (poly q)).length=L.length:=zua ..;have ub:∀ i,i<=L.length->(cE (L.take i) poly).length<=i*100:=λi hi=>by
  induction i with
  | zero=>simp[cE]
  | succ i ih=>
   have hi':i<L.length:=by omega
   rw[zxa hi',cE,List.flatMap_append,zta];have h1:=ih (by omega)
   simp only[cE] at h1;have h2:(j8 (poly L[i])).length<=100:=zDa (qd (poly L[i]) (poly L[i]).length) (hp _ (zIa hi')).1;simp only[List.flatMap_cons,List.flatMap_nil,zLb];omega
 refine bk (λi s=>s=[.sl ((cE (L.take i) poly).map cR),I (i:Int)]) L.length 0 (zma _) rfl (λi hi s hJ=>?_) (λs hJ=>?_)
 ·subst hJ;left;refine⟨_,?_,rfl⟩;refine aa ah (aa ab (az (by show((i:Int)<((L.map λq=>mo q (poly q)).length:Int));rw[ll];omega) ?_))
  have hg:(L.map λq=>mo q (poly q))[i]?=some (mo L[i] (poly L[i])):=by simp[hi]
  refine aa (z:=L.map λq=>mo q (poly q)) rfl (aa (z:=i) (by rw[ll];exact ap hi) (aa hg (aa (z:=.sl (ae (poly L[i]))) rfl (aa (z:=ae (poly L[i])) rfl ?_))))
  obtain⟨pl1,pl2⟩:=hp L[i] (zIa hi);have hM:=ub i (by omega)
  obtain⟨M,hMd⟩:∃ M,M=cE (L.take i) poly:=⟨_,rfl⟩;rw[<-hMd] at hM ⊢;have hMn:cE (L.take (i+1)) poly=M++eH (poly L[i]) (poly L[i]).length:=by
   rw[zxa hi,hMd,cE,List.flatMap_append];simp[cE,j8,eH]
  rw[hMn];generalize poly L[i]=p at *;refine bZ (λk s=>s=[.sl ((M++eH p k).map cR),I (k:Int)]) p.length 0 (zma _) (by simp[eH,g0,D.els]) (λk hk s hJ=>?_) (λs hJ=>?_)
  ·subst hJ;left;refine⟨_,?_,rfl⟩;refine aa ah (aa ab (az (by show((k:Int)<((ae p).length:Int));rw[ai];omega) ?_))
   have hmod:(k+1)%p.length<p.length:=zPa _ pl2;have hrem:(((k:Int)+1).tmod (p.length:Int))=(((k+1)%p.length:Nat):Int):=by
    rw[show((k:Int)+1)=((k+1:Nat):Int) by omega];exact zVc ..
   refine aa (z:=(0,[.sl ((M++eH p (k+1)).map cR)])) ?_ (aa (aq (au (i:=k) (by omega))) rfl)
   refine aa (z:=ae p) rfl (aa (z:=k) (by rw[ai];exact ap hk) (aa (fM hk) (aa (z:=.sl (ae p)) rfl (aa (aq (au (i:=k) (by omega))) (aa (z:=.sl (ae p)) rfl (aa (z:=ae p) rfl ?_))))))
   refine aa (z:=I (((k+1)%p.length:Nat):Int)) (by rw[show((ae p).length:Int)=(p.length:Int) by rw[ai],nL (by omega),hrem]) ?_
   refine aa (z:=ae p) rfl (aa (z:=(k+1)%p.length) (by rw[ai];exact ap hmod) (aa (fM hmod) (aa ah (aa ab ?_))))
   rw[wD];have hel:=qd p k;by_cases hab:p.getD k 0<p.getD ((k+1)%p.length) 0
   ·refine az (by show((p.getD k 0:Nat):Int)<((p.getD ((k+1)%p.length) 0:Nat):Int);omega) ?_
    rw[if_pos hab,if_pos (by simp only[g0,D.els,zua,zta,zza,zmb];omega)]
    simp[g0,D.els,cR]
   ·refine aG (by show ¬ ((p.getD k 0:Nat):Int)<((p.getD ((k+1)%p.length) 0:Nat):Int);omega) ?_
    rw[if_neg hab];rfl
  ·subst hJ;refine⟨(0,[.sl ((M++eH p p.length).map cR)]),?_,?_⟩
   ·refine aa ah (aa ab (aG (by show ¬ ((p.length:Int)<((ae p).length:Int));rw[ai];omega) rfl))
   ·exact aa (aq (au (i:=i) (by omega))) rfl
 ·subst hJ;refine⟨(0,[.sl ((cE (L.take L.length) poly).map cR)]),?_,?_⟩
  ·refine aa ah (aa ab (aG (by show ¬ ((L.length:Int)<((L.map λq=>mo q (poly q)).length:Int));rw[ll];omega) rfl))
  ·have hu:=ub L.length (zha _);rw[z3a] at hu ⊢;refine aa (z:=(cE L poly).map cR) ?_ (aa (tM (J8 (n+4) E e2) (e1.symm.map _)) rfl);exact az (by show((cE L poly).map cR).length<=1073741824;rw[zua];omega) rfl
end Sy
end
noncomputable section
namespace Sy
open Go Go.Proofs Geo
abbrev FL:=List ((V×Int)×List Nat)
def aK(L:FL):List D:=L.map λf=>mo f.1 f.2
def bh(L:FL):(aK L).length=L.length:=zua ..
def fL{L:FL}{i:Nat}(h:i<L.length):(aK L)[i]?=some (mo L[i].1 L[i].2):=by simp[aK,h]
def Tb(n:Nat)(L:FL)(m:V)(hL:L.length<=3000000):cA (n+1) 108 [.sl (aK L),ac m]=some (.bool (L.any λf=>decide (f.1.1=m))):=by
 rw[Up]
 delta G3 qB qT qX qL qZ iL iR Jn
 refine bk (λi s=>s=[I (i:Int)]/\(L.take i).any (λf=>decide (f.1.1=m))=false) L.length 0 (zma _) ⟨rfl,by simp⟩ (λi hi s hJ=>?_) (λs hJ=>?_)
 ·obtain⟨rfl,hz⟩:=hJ;by_cases he:L[i].1.1=m
  ·right;refine⟨(0,[.bool true]),?_,?_⟩
   ·refine aa (z:=aK L) rfl (aa ah (aa ab (az (by show((i:Int)<((aK L).length:Int));rw[bh];omega) ?_)))
    refine aa (z:=aK L) rfl (aa (z:=i) (by rw[bh];exact ap hi) (aa (fL hi) (aa (z:=ac L[i].1.1) rfl ?_)))
    rw[iQ];exact aa ab (az he rfl)
   ·have:L.any (λf=>decide (f.1.1=m))=true:=z7b.2 ⟨L[i],zIa hi,by simpa using he⟩
    simp[this,g0]
  ·left;refine⟨[I ((i+1:Nat):Int)],?_,rfl,?_⟩
   ·refine aa (z:=aK L) rfl (aa ah (aa ab (az (by show((i:Int)<((aK L).length:Int));rw[bh];omega) ?_)))
    refine aa (z:=aK L) rfl (aa (z:=i) (by rw[bh];exact ap hi) (aa (fL hi) (aa (z:=ac L[i].1.1) rfl ?_)))
    rw[iQ];exact aa ab (aG he (aa (aq (au (i:=i) (by omega))) rfl))
   ·rw[zxa hi,zBc,hz];simp[he]
 ·obtain⟨rfl,hz⟩:=hJ;rw[z3a] at hz;refine⟨(1,[]),?_,by simp[hz]⟩
  exact aa (z:=aK L) rfl (aa ah (aa ab (aG (by show ¬ ((L.length:Int)<((aK L).length:Int));rw[bh];omega) rfl)))
def kG(f:(V×Int)×List Nat):FL->FL
 | []=>[f]
 | x::L=>if aC f.1.1 x.1.1 then f::x::L else x::kG f L
def Td(n:Nat)(L:FL)(f:(V×Int)×List Nat)(hL:L.length<=3000000):cA (n+2) 110 [.sl (aK L),mo f.1 f.2]=some (.sl (aK (kG f L))):=by
 rw[Ur]
 delta G5 qG qB qT qN qX qL qV qW qZ iL iR Jn
 have app:∀ (o:FL) (x:(V×Int)×List Nat),aK o++[mo x.1 x.2]=aK (o++[x]):=λo x=>by simp[aK]
 refine bk (λi s=>∃ (out:FL) (put:Bool),s=[.sl (aK out),.bool put,I (i:Int)]/\out.length<=2*i/\(put=false->kG f L=out++kG f (L.drop i))/\(put=true->kG f L=out++L.drop i)) L.length 0 (zma _) ⟨[],false,rfl,by simp,by simp,by simp⟩ (λi hi s hJ=>?_) (λs hJ=>?_)
 ·obtain⟨out,put,rfl,hol,h1,h2⟩:=hJ;left;have hd:L.drop i=L[i]::L.drop (i+1):=zob hi;have hc:=MT n f.1.1 L[i].1.1;obtain⟨o,p,he,ho,q1,q2⟩:∃ o p,(if put=false/\aC f.1.1 L[i].1.1 then(out++[f],true) else(out,put))=(o,p)/\o.length<=2*i+1/\(p=false->kG f L=o++L[i]::kG f (L.drop (i+1)))/\(p=true->kG f L=o++L[i]::L.drop (i+1)):=by
   by_cases hput:put=false/\aC f.1.1 L[i].1.1
   ·refine⟨_,_,if_pos hput,by simp;omega,by simp,λ_=>?_⟩
    rw[h1 hput.1,hd];simp[kG,hput.2]
   ·refine⟨_,_,if_neg hput,by omega,λhp=>?_,λhp=>?_⟩
    ·have hnl:¬ aC f.1.1 L[i].1.1:=λh=>hput ⟨hp,h⟩;rw[h1 hp,hd];simp[kG,hnl]
    ·rw[h2 hp,hd]
  refine⟨[.sl (aK (o++[L[i]])),.bool p,I ((i+1:Nat):Int)],?_,o++[L[i]],p,rfl,by simp;omega,λhp=>by rw[q1 hp];simp,λhp=>by rw[q2 hp];simp⟩
  refine aa (z:=aK L) rfl (aa ah (aa ab (az (by show((i:Int)<((aK L).length:Int));rw[bh];omega) ?_)))
  refine aa (z:=ac f.1.1) rfl (aa (z:=aK L) rfl (aa (z:=i) (by rw[bh];exact ap hi) (aa (fL hi) (aa (z:=ac L[i].1.1) rfl (aa hc ?_)))))
  refine aa (z:=(0,[.sl (aK o),.bool p])) ?_ ?_
  ·refine aa (z:=.bool (!put)) rfl (aa (z:=!put) rfl (aa (z:=!put&&decide (aC f.1.1 L[i].1.1)) ?_ (aa (z:=!put&&decide (aC f.1.1 L[i].1.1)) rfl ?_)))
   ·cases put
    ·exact ab
    ·rfl
   ·by_cases hput:put=false/\aC f.1.1 L[i].1.1
    ·rw[if_pos hput] at he;obtain⟨rfl,hlt⟩:=hput;cases he;rw[show(!false&&decide (aC f.1.1 L[i].1.1))=true by simp[hlt],if_pos rfl,if_pos (by simp only[g0,D.els,bh,zza,zmb];omega)]
     simp only[g0,D.els,app]
    ·rw[if_neg hput] at he;cases he;rw[show(!put&&decide (aC f.1.1 L[i].1.1))=false by
      cases put
      ·simpa using hput
      ·rfl]
     rfl
  ·refine aa (z:=aK L) rfl (aa (z:=i) (by rw[bh];exact ap hi) (aa (fL hi) ?_))
   rw[if_pos (by simp only[g0,D.els,bh,zza,zmb];omega)]
   refine aa (aq (au (i:=i) (by omega))) ?_
   simp only[g0,g1,D.els,app];rfl
 ·obtain⟨out,put,rfl,hol,h1,h2⟩:=hJ;refine⟨(0,[.sl (aK out),.bool put]),?_,?_⟩
  ·exact aa (z:=aK L) rfl (aa ah (aa ab (aG (by show ¬ ((L.length:Int)<((aK L).length:Int));rw[bh];omega) rfl)))
  ·cases put
   ·have:=h1 rfl;rw[z1c] at this;rw[this];refine aa (z:=(0,[.sl (aK (out++[f]))])) ?_ rfl;refine aa (z:=.bool true) rfl (aa (z:=true) rfl ?_);rw[if_pos rfl,if_pos (by simp only[g0,D.els,bh,zza,zmb];omega)]
    simp only[g0,D.els,app]
   ·have:=h2 rfl;rw[z1c,zLb] at this;rw[this];rfl
end Sy
end
noncomputable section
namespace Sy
open Go Go.Proofs Geo
def gD(l:List V)(m:V)(a b x:Nat):Bool:=
 decide (0<=T m (wy (pt l) a b) (wy (pt l) a x))&&(!decide (T m (wy (pt l) a b) (wy (pt l) a x)=0)||(decide (0<=V.dot (wy (pt l) a x) (wy (pt l) a b))&&decide (V.dot (wy (pt l) a x) (wy (pt l) a b)<=V.dot (wy (pt l) a b) (wy (pt l) a b))))
def A0{l:List V}{m:V}{a b x:Nat}:gD l m a b x=true↔(0<=T m (wy (pt l) a b) (wy (pt l) a x)/\(T m (wy (pt l) a b) (wy (pt l) a x)=0->0<=V.dot (wy (pt l) a x) (wy (pt l) a b)/\V.dot (wy (pt l) a x) (wy (pt l) a b)<=V.dot (wy (pt l) a b) (wy (pt l) a b))):=by
 simp only[gD,zaa,zCb,zFa,decide_eq_true_eq,decide_eq_false_iff_not];by_cases h:T m (wy (pt l) a b) (wy (pt l) a x)=0<;>simp[h]
def vP(l:List V)(m:V)(d:Int)(a b:Nat):Bool:=(bq (pt l) l.length m d).all λx=>gD l m a b x
def vQ{l:List V}{m:V}{d:Int}{a b:Nat}(hb:b∈bq (pt l) l.length m d)(hne:b≠a):vP l m d a b=true↔Side m (pt l) (bq (pt l) l.length m d) a b:=by
 simp only[vP,zka,A0];exact⟨λh=>⟨hb,hne,h⟩,λh=>h.all⟩
def Tn(n:Nat){l:List V}(hl:∀ x∈l,bd MV x)(hlen:l.length<=100){m:V}{d:Int}(hm0:m≠V.zero)(hm:bd 549755813888 m){a b:Nat}(ha:a<l.length)(hb:b<l.length)(hda:V.dot m (pt l a)=d)(hdb:V.dot m (pt l b)=d) :
  cA (n+3) 156 [a7 l,ac m,I d,ac (pt l a),ac (pt l b)]=some (.bool (vP l m d a b)):=by
 rw[UY]
 delta HB qB qC qT qX qL qZ iL iR Jn
 have w1:bd 524288 (wy (pt l) a b):=mC (hl _ (cu ha)) (hl _ (cu hb));refine aa (z:=ac (wy (pt l) a b)) (CL (n+1) (hl _ (cu hb)) (hl _ (cu ha)) (by decide)) ?_
 have ll:(l.map ac).length=l.length:=zua ..;have hmb:V.dot m (wy (pt l) a b)=0:=by rw[dt,hda,hdb];omega
 refine bk (λi s=>s=[I (i:Int)]/\(bq (pt l) i m d).all (λx=>gD l m a b x)=true) l.length 0 (zma _) ⟨rfl,by simp[bq]⟩ (λi hi s hJ=>?_) (λs hJ=>?_)
 ·obtain⟨rfl,hz⟩:=hJ;have hc:=CK (n+1) hm (hl _ (cu hi)) (by decide)
  by_cases hon:V.dot m (pt l i)=d
  ·have w2:bd 524288 (wy (pt l) a i):=mC (hl _ (cu ha)) (hl _ (cu hi));have hmi:V.dot m (wy (pt l) a i)=0:=by rw[dt,hda,hon];omega
   have c1:=CL (n+1) (hl _ (cu hi)) (hl _ (cu ha)) (by decide)
   have c2:=MX (n+1) w1 w2 (by decide)
   have c3:=Tu n m (V.cross (wy (pt l) a b) (wy (pt l) a i));rw[BU hm0 (jy hmb hmi)] at c3;have c4:=CK (n+1) w2 w1 (by decide)
   have c5:=CK (n+1) w1 w1 (by decide)
   have step:∀ (y:Nat×List D),y=(if gD l m a b i then(0,[]) else(1,[D.bool false]))->(Option.bind (D.asSl (a7 l)) λl6=>Option.bind (D.idx (I (i:Int)) (List.length l6)) λi7=>
     Option.bind (l6[i7]?) λx8=>Option.bind (cA (n+2) 107 [ac m,x8]) λr9=>Option.bind (D.truth (D.bool (!(D.beq r9 (I d))))) λb10=>
     if b10 then(some ((0:Nat),([]:List D))) else(Option.bind (D.asSl (a7 l)) λl11=>Option.bind (D.idx (I (i:Int)) (List.length l11)) λrq=>
     Option.bind (l11[rq]?) λx13=>Option.bind (cA (n+2) 112 [x13,ac (pt l a)]) λr14=>Option.bind (cA (n+2) 123 [ac (wy (pt l) a b),r14]) λr15=>Option.bind (cA (n+2) 188 [ac m,r15]) λr16=>
     Option.bind (D.bin .lss r16 (D.int .i64 0)) λx17=>Option.bind (D.truth x17) λb18=>
     Option.bind (if b18 then(some true) else(Option.bind (D.truth (D.bool (D.beq r16 (D.int .i64 0)))) λb19=>
     if b19 then(Option.bind (cA (n+2) 107 [r14,ac (wy (pt l) a b)]) λr20=>Option.bind (D.bin .lss r20 (D.int .i64 0)) λx21=>Option.bind (D.truth x21) λb22=>
     if b22 then(some true) else(Option.bind (cA (n+2) 107 [r14,ac (wy (pt l) a b)]) λr23=>Option.bind (cA (n+2) 107 [ac (wy (pt l) a b),ac (wy (pt l) a b)]) λr24=>
     Option.bind (D.bin .gtr r23 r24) λx25=>D.truth x25)) else(some false))) λb26=>Option.bind (D.truth (D.bool b26)) λb27=>
     if b27 then(some (1,[(D.bool false)])) else(some (0,[]))))=some y:=by
    intro y hy;refine aa (z:=l.map ac) rfl (aa (z:=i) (by rw[ll];exact ap hi) (aa (cZ hi) (aa hc (aa (z:=false) ?_ ?_))))
    ·rw[bK,show V.dot m (l.getD i V.zero)=d from hon];simp[D.truth]
    rw[if_neg (by decide)]
    refine aa (z:=l.map ac) rfl (aa (z:=i) (by rw[ll];exact ap hi) (aa (cZ hi) (aa (z:=ac (wy (pt l) a i)) c1 (aa c2 (aa c3 (aa ah (aa ab ?_)))))))
    rw[hy];have e:V.dot m (V.cross (wy (pt l) a b) (wy (pt l) a i))=T m (wy (pt l) a b) (wy (pt l) a i):=rfl;rw[e];refine aa (z:=!gD l m a b i) ?_ ?_
    ·by_cases t1:T m (wy (pt l) a b) (wy (pt l) a i)<0
     ·rw[Lz (Co.2 t1)];have:¬ (0<=T m (wy (pt l) a b) (wy (pt l) a i)):=by omega
      simp[gD,this]
     ·rw[LA (λh=>t1 (Co.1 h))];have t1':0<=T m (wy (pt l) a b) (wy (pt l) a i):=by omega
      by_cases t2:T m (wy (pt l) a b) (wy (pt l) a i)=0
      ·refine aa (z:=true) (by rw[bK,decide_eq_true (jd.2 t2)];rfl) ?_
       rw[if_pos rfl];refine aa c4 (aa ah (aa ab ?_));by_cases t3:V.dot (wy (pt l) a i) (wy (pt l) a b)<0
       ·rw[Lz t3];have:¬ (0<=V.dot (wy (pt l) a i) (wy (pt l) a b)):=by omega
        simp[gD,t2,this]
       ·rw[LA t3];refine aa c4 (aa c5 (aa cV ?_));rw[ab];have t3':0<=V.dot (wy (pt l) a i) (wy (pt l) a b):=by omega
        simp only[gD,t2,t3',decide_true,zOb,zac,znd,zmd];by_cases t4:V.dot (wy (pt l) a i) (wy (pt l) a b)<=V.dot (wy (pt l) a b) (wy (pt l) a b)
        ·have:¬ (V.dot (wy (pt l) a i) (wy (pt l) a b)>V.dot (wy (pt l) a b) (wy (pt l) a b)):=by omega
         simp[t4,this]
        ·have:(V.dot (wy (pt l) a i) (wy (pt l) a b)>V.dot (wy (pt l) a b) (wy (pt l) a b)):=by omega
         simp[t4,this]
      ·refine aa (z:=false) (by rw[bK,decide_eq_false (λh=>t2 (jd.1 h))];rfl) ?_
       simp[gD,t2,t1']
    ·refine aa ab ?_;cases gD l m a b i<;>rfl
   cases hk:gD l m a b i
   ·right;rw[hk] at step;refine⟨(0,[.bool false]),?_,?_⟩
    ·exact aa (z:=l.map ac) rfl (aa ah (aa ab (az (by show((i:Int)<((l.map ac).length:Int));rw[ll];omega) (aa (step _ rfl) rfl))))
    ·have:vP l m d a b=false:=by
      rw[zXb];intro h;have:=zka.1 h i (aR.2 ⟨hi,hon⟩);rw[hk] at this;exact absurd this (by decide)
     rw[this];rfl
   ·left;rw[hk] at step;refine⟨[I ((i+1:Nat):Int)],?_,rfl,?_⟩
    ·exact aa (z:=l.map ac) rfl (aa ah (aa ab (az (by show((i:Int)<((l.map ac).length:Int));rw[ll];omega) (aa (step _ rfl) (by rw[if_pos rfl,if_pos rfl];exact aa (aq (au (i:=i) (by omega))) rfl)))))
    ·rw[jI,if_pos hon,z5c,hz];simp[hk]
  ·left;refine⟨[I ((i+1:Nat):Int)],?_,rfl,?_⟩
   ·refine aa (z:=l.map ac) rfl (aa ah (aa ab (az (by show((i:Int)<((l.map ac).length:Int));rw[ll];omega) (aa (z:=(0,[])) ?_ (by rw[if_pos rfl];exact aa (aq (au (i:=i) (by omega))) rfl)))))
    refine aa (z:=l.map ac) rfl (aa (z:=i) (by rw[ll];exact ap hi) (aa (cZ hi) (aa hc (aa (z:=true) ?_ rfl))))
    rw[bK,decide_eq_false (show ¬ V.dot m (l.getD i V.zero)=d from hon)];rfl
   ·rw[jI,if_neg hon];exact hz
 ·obtain⟨rfl,hz⟩:=hJ;refine⟨(1,[]),?_,?_⟩
  ·exact aa (z:=l.map ac) rfl (aa ah (aa ab (aG (by show ¬ ((l.length:Int)<((l.map ac).length:Int));rw[ll];omega) rfl)))
  ·have:vP l m d a b=true:=hz;rw[this];rfl
end Sy
end
noncomputable section
namespace Sy
open Go Go.Proofs Geo
def BZ{body:Bd}{s0:List D}{r:Nat×List D}(h:Option.bind (aO body s0) some=some r):aO body s0=some r:=by
 cases hb:aO body s0 with
 | none=>rw[hb] at h;cases h
 | some z=>rw[hb] at h;exact h
def FR{P:Nat->V}{m:V}{d:Int}{i N a:Nat}(h:(bq P i m d).head?=some a)(hi:i<=N):(bq P N m d).head?=some a:=by
 induction N with
 | zero=>
      have:i=0:=by omega
      subst this;exact h
 | succ N ih=>
  by_cases e:i=N+1
  ·rw[<-e];exact h
  ·have:=ih (by omega)
   rw[jI];split
   ·rw[List.head?_append,this];rfl
   ·exact this
theorem qa{body:Bd}{S:Nat->Nat->Prop}{a M:Nat}{G:Nat->Prop}(hS:∀ c b,G c->S c b->G b)
  (hstep:∀ (c b:Nat) (out:List Nat),G c->S c b->b≠a->out.length<=M->body [.sl (ae out),I (c:Int)]=some (.inl [.sl (ae (out++[c])),I (b:Int)]))
  (hend:∀ (c:Nat) (out:List Nat),G c->S c a->out.length<=M->body [.sl (ae out),I (c:Int)]=some (.inr (0,[.sl (ae (out++[c]))]))) :
  ∀ {c:Nat} {p:List Nat},Chain S a c p->G c->∀ out:List Nat,(out++p).length<=M->aO body [.sl (ae out),I (c:Int)]=some (0,[.sl (ae (out++p))])
 | c,_,.done s,hc,out,hl=>cM (hend c out hc s (by simp at hl;omega))
 | c,_,.step (y:=y) (l:=p) s hy k,hc,out,hl=>by
  have h1:=hstep c y out hc s hy (by simp at hl;omega)
  rw[show aO body [.sl (ae out),I (c:Int)]=aO body [.sl (ae (out++[c])),I (y:Int)] from cS h1];have:=qa hS hstep hend k (hS c y hc s) (out++[c]) (by simpa using hl)
  rw[this];simp
def Ue(n:Nat){l:List V}(hl:∀ x∈l,bd MV x)(hlen:l.length<=100)(hs:Ev l){m:V}{d:Int}(hF:IsF (pt l) l.length m d)(hm:bd 549755813888 m){p:List Nat}(hp:bz (pt l) l.length m d p) :
  cA (n+4) 111 [a7 l,ac m,I d]=some (.sl (ae p)):=by
 have F:=hF.flat hs;obtain⟨p',hp',hnd,hmem⟩:=hF.poly hs;have e:=bz.eq hs hF hp hp';subst e;obtain⟨a,ha1,hch⟩:=hp;have ha:a∈bq (pt l) l.length m d:=List.mem_of_mem_head? (by rw[ha1];rfl)
 have hlt:∀ k∈bq (pt l) l.length m d,k<l.length:=λk hk=>(aR.1 hk).1;have hdk:∀ k∈bq (pt l) l.length m d,V.dot m (pt l k)=d:=λk hk=>(aR.1 hk).2;have honl:(bq (pt l) l.length m d).length<=l.length:=by
  unfold bq;exact zDa (zjc _ _) (by rw[zQb];omega)
 have hpl:p.length<=l.length:=zDa (z4b hnd λz hz=>((hmem z).1 hz).1) honl;have ll:(l.map ac).length=l.length:=zua ..;rw[Us]
 delta G6 qB qC qT qS qX qL qV qW qZ iL iR Jn
 have hdot:=λ(i:Nat) (hi:i<l.length)=>CK (n+2) hm (hl _ (cu hi)) (by decide)
 refine aa (z:=(0,[.sl [],I (a:Int)])) ?_ ?_
 ·refine BZ (bZ (λi s=>s=[.sl [],jl ((bq (pt l) i m d).head?),I (i:Int)]) l.length 0 (zma _) rfl (λi hi s hJ=>?_) (λs hJ=>?_))
  ·subst hJ;cases hh:(bq (pt l) i m d).head? with
   | some a'=>
    right;have:=FR hh (zhc hi);rw[ha1] at this;cases this;refine⟨(0,[.sl [],I (a:Int)]),?_,rfl⟩;refine aa (z:=l.map ac) rfl (aa ah (aa ab (aa (z:=false) (az (by show((i:Int)<((l.map ac).length:Int));rw[ll];omega) ?_) (aa ab ?_))))
    ·refine aa ah ?_;rw[decide_eq_false (by omega)];rfl
    ·rfl
   | none=>
    left;have hnil:bq (pt l) i m d=[]:=by simpa using hh
    refine⟨[.sl [],jl ((bq (pt l) (i+1) m d).head?),I ((i+1:Nat):Int)],?_,rfl⟩;refine aa (z:=l.map ac) rfl (aa ah (aa ab (aa (z:=true) (az (by show((i:Int)<((l.map ac).length:Int));rw[ll];omega) (aa (ah (a:=-1) (b:=0)) rfl)) (aa ab ?_))))
    rw[if_pos rfl];refine aa (z:=(0,[.sl [],jl ((bq (pt l) (i+1) m d).head?)])) ?_ (aa (aq (au (i:=i) (by omega))) rfl)
    refine aa (z:=l.map ac) rfl (aa (z:=i) (by rw[ll];exact ap hi) (aa (cZ hi) (aa (hdot i hi) ?_)))
    rw[bK,jI,hnil];by_cases hon:V.dot m (pt l i)=d
    ·rw[if_pos hon,decide_eq_true (show V.dot m (l.getD i V.zero)=d from hon)];rfl
    ·rw[if_neg hon,decide_eq_false (show ¬ V.dot m (l.getD i V.zero)=d from hon)];rfl
  ·subst hJ;rw[ha1];refine⟨(0,[.sl [],I (a:Int)]),?_,rfl⟩;refine aa (z:=l.map ac) rfl (aa ah (aa ab (aa (z:=false) (aG (by show ¬ ((l.length:Int)<((l.map ac).length:Int));rw[ll];omega) rfl) (aa ab rfl))))
 ·refine aa (z:=(0,[.sl (ae ([]++p))])) ?_ rfl;refine qa (M:=l.length) (G:=λc=>c∈bq (pt l) l.length m d) (λc b hc hb=>hb.mem) (λc b out hc hb hba hol=>?_) (λc out hc hb hol=>?_) hch ha [] (by simpa using hpl)
  all_goals
   obtain⟨b',hbb,hb'⟩:∃ b',(b'=a\/b'≠a)/\Side m (pt l) (bq (pt l) l.length m d) c b':=by first|exact⟨_,Classical.em _,hb⟩
   refine aa (z:=l.map ac) rfl (aa pZ (aa ab (az (by show(((ae out).length:Int)<=((l.map ac).length:Int));rw[ll,ai];omega) ?_)))
   rw[if_pos (by simp only[g0,D.els,ai,zza,zmb];omega)]
   have happ:ae out++[I (c:Int)]=ae (out++[c]):=by simp[ae]
   have hbl:=hlt b' hb'.mem;refine aa (z:=(0,[.sl (ae (out++[c])),I (b':Int)])) ?_ ?_
   ·refine BZ (bZ (λi s=>s=[.sl (ae (out++[c])),jl (if b'<i then some b' else none),I (i:Int)]) l.length 0 (zma _) (by simp[g0,g1,D.els,happ,jl]) (λi hi s hJ=>?_) (λs hJ=>?_))
    ·subst hJ;by_cases hbi:b'<i
     ·right;rw[if_pos hbi];refine⟨(0,[.sl (ae (out++[c])),I (b':Int)]),?_,rfl⟩;refine aa (z:=l.map ac) rfl (aa ah (aa ab (aa (z:=false) (az (by show((i:Int)<((l.map ac).length:Int));rw[ll];omega) ?_) (aa ab ?_))))
      ·refine aa ah ?_;rw[decide_eq_false (by omega)];rfl
      ·rfl
     ·left;rw[if_neg hbi];refine⟨[.sl (ae (out++[c])),jl (if b'<i+1 then some b' else none),I ((i+1:Nat):Int)],?_,rfl⟩
      refine aa (z:=l.map ac) rfl (aa ah (aa ab (aa (z:=true) (az (by show((i:Int)<((l.map ac).length:Int));rw[ll];omega) (aa (ah (a:=-1) (b:=0)) rfl)) (aa ab ?_))))
      rw[if_pos rfl];refine aa (z:=(0,[.sl (ae (out++[c])),jl (if b'<i+1 then some b' else none)])) ?_ (aa (aq (au (i:=i) (by omega))) rfl)
      have hcl:=hlt c hc;by_cases hon:i≠c/\V.dot m (pt l i)=d
      ·have hion:i∈bq (pt l) l.length m d:=aR.2 ⟨hi,hon.2⟩;refine aa (z:=true) (by show D.truth (D.bool (!(D.beq (I (i:Int)) (I (c:Int)))))=_;rw[cd,decide_eq_false hon.1];rfl) (aa (z:=true) ?_ (aa ab ?_))
       ·rw[if_pos rfl];refine aa (z:=l.map ac) rfl (aa (z:=i) (by rw[ll];exact ap hi) (aa (cZ hi) (aa (hdot i hi) ?_)))
        rw[bK,decide_eq_true (show V.dot m (l.getD i V.zero)=d from hon.2)];rfl
       ·rw[if_pos rfl];refine aa (z:=l.map ac) rfl (aa (z:=c) (by rw[ll];exact ap hcl) (aa (cZ hcl) (aa (z:=l.map ac) rfl (aa (z:=i) (by rw[ll];exact ap hi) (aa (cZ hi) (aa (Tn n hl hlen hF.nz.1 hm hcl hi (hdk c hc) hon.2) (aa ab ?_)))))))
        by_cases hib:i=b'
        ·subst hib;rw[(vQ hion hon.1).2 hb',if_pos rfl,if_pos (by omega)];rfl
        ·have:vP l m d c i=false:=by
          rw[zXb];intro h;exact hib (Side.unique F hc ((vQ hion hon.1).1 h) hb')
         rw[this,if_neg (show ¬ b'<i+1 by omega)];rfl
      ·have hib:i≠b':=λe=>hon (by subst e;exact⟨hb'.ne,hdk _ hb'.mem⟩)
       rw[if_neg (show ¬ b'<i+1 by omega)]
       by_cases hic:i=c
       ·subst hic;refine aa (z:=false) (by show D.truth (D.bool (!(D.beq (I (i:Int)) (I (i:Int)))))=_;rw[cd,decide_eq_true rfl];rfl) (aa (z:=false) rfl (aa ab rfl))
       ·have hnd:¬ V.dot m (l.getD i V.zero)=d:=λh=>hon ⟨hic,h⟩;refine aa (z:=true) (by show D.truth (D.bool (!(D.beq (I (i:Int)) (I (c:Int)))))=_;rw[cd,decide_eq_false hic];rfl) (aa (z:=false) ?_ (aa ab rfl))
        rw[if_pos rfl];refine aa (z:=l.map ac) rfl (aa (z:=i) (by rw[ll];exact ap hi) (aa (cZ hi) (aa (hdot i hi) ?_)))
        rw[bK,decide_eq_false hnd];rfl
    ·subst hJ;rw[if_pos hbl];refine⟨(0,[.sl (ae (out++[c])),I (b':Int)]),?_,rfl⟩;exact aa (z:=l.map ac) rfl (aa ah (aa ab (aa (z:=false) (aG (by show ¬ ((l.length:Int)<((l.map ac).length:Int));rw[ll];omega) rfl) (aa ab rfl))))
   ·have hu:=Side.unique F hc hb hb';subst hu;first
     | exact aa (z:=true) (by show D.truth (D.bool (D.beq (I (_:Int)) (I (_:Int))))=_;rw[cd,decide_eq_true rfl];rfl) (aa (z:=true) rfl (aa ab rfl))
     | exact aa (z:=false) (by show D.truth (D.bool (D.beq (I (_:Int)) (I (_:Int))))=_;rw[cd,decide_eq_false hba];rfl) (aa (z:=false) (by rw[if_neg (by decide)];refine aa ah ?_;rw[decide_eq_false (by omega)];rfl) (aa ab rfl))
end Sy
end
noncomputable section
namespace Sy
open Go Go.Proofs Geo
def aZ:List Nat->Nat
 | []=>0
 | d::l=>d+65536*aZ l
def dl(l:List Nat):Prop:=∀ d∈l,d<65536
def dl.cons{d:Nat}{l:List Nat}(hd:d<65536)(h:dl l):dl (d::l):=λx hx=>by
 rcases zva.1 hx with rfl|hx
 ·exact hd
 ·exact h x hx
def dl.append{a b:List Nat}(ha:dl a)(hb:dl b):dl (a++b):=λx hx=>by
 rcases List.mem_append.1 hx with hx|hx
 ·exact ha x hx
 ·exact hb x hx
theorem dl.getD{l:List Nat}(h:dl l)(i:Nat):l.getD i 0<65536:=by
 simp only[List.getD];cases hi:l[i]? with
 | none=>simp
 | some x=>exact h x (z0a hi)
def aw(m:Nat):List Nat:=if h:m=0 then[] else m%65536::aw (m/65536)
termination_by m
decreasing_by omega
def ce:aw 0=[]:=by unfold aw;simp
def gZ{m:Nat}(h:m≠0):aw m=m%65536::aw (m/65536):=by rw[aw,dif_neg h]
def uJ{d v:Nat}(hd:d<65536)(h:d+65536*v≠0):aw (d+65536*v)=d::aw v:=by
 rw[gZ h,show(d+65536*v)%65536=d by omega,show(d+65536*v)/65536=v by omega]
def ao(m:Nat):aZ (aw m)=m:=by
 induction m using Nat.strongRecOn with
 | _ m ih=>
  by_cases h:m=0
  ·subst h;rw[ce];rfl
  ·rw[gZ h,aZ,ih _ (by omega)];omega
def aW(m:Nat):dl (aw m):=by
 induction m using Nat.strongRecOn with
 | _ m ih=>
  by_cases h:m=0
  ·subst h;rw[ce];intro d hd;cases hd
  ·rw[gZ h];exact dl.cons (by omega) (ih _ (by omega))
def sn{m:Nat}:aw m=[]↔m=0:=by
 constructor
 ·intro h;have:=ao m;rw[h] at this;exact this.symm
 ·rintro rfl;exact ce
def pg(i:Nat):∀ m,(aw m).getD i 0=m/65536^i%65536:=by
 induction i with
 | zero=>
  intro m;by_cases h:m=0
  ·subst h;rw[ce];simp
  ·rw[gZ h];simp
 | succ i ih=>
  intro m;by_cases h:m=0
  ·subst h;rw[ce];simp
  ·rw[gZ h];show(aw (m/65536)).getD i 0=_;rw[ih,zTa,zjb,zBa 65536]
def bB(k:Nat):∀ m,m<65536^k->(aw m).length<=k:=by
 induction k with
 | zero=>
      intro m h;have:m=0:=by simpa using h
      subst this;rw[ce];simp
 | succ k ih=>
  intro m h;by_cases h0:m=0
  ·subst h0;rw[ce];simp
  ·rw[gZ h0,zza];have:=ih (m/65536) (by rw[zjb] at h;exact zIc (by rw[zBa];exact h))
   omega
def kX(a b:List Nat):aZ (a++b)=aZ a+65536^a.length*aZ b:=by
 induction a with
 | nil=>simp[aZ]
 | cons d a ih=>
  simp only[zib,aZ,ih,zza,zjb];rw[zPb,<-zXa,zBa 65536 (65536^a.length)];omega
def mS(l:List Nat)(n:Nat):aZ (l++List.replicate n 0)=aZ l:=by
 rw[kX];have:∀ n,aZ (List.replicate n 0)=0:=λn=>by
  induction n with
  | zero=>rfl
  | succ n ih=>rw[List.replicate_succ,aZ,ih]
 rw[this];simp
def vt(l:List Nat):Nat->Nat
 | 0=>0
 | k+1=>vt l k+l.getD k 0*65536^k
def JS(d:Nat)(l:List Nat)(k:Nat):vt (d::l) (k+1)=d+65536*vt l k:=by
 induction k with
 | zero=>simp[vt]
 | succ k ih=>
  rw[vt,ih,vt,zPb];have:(d::l).getD (k+1) 0=l.getD k 0:=rfl;rw[this,zjb,<-zXa,<-zXa,zBa 65536 (l.getD k 0),zXa,zBa (65536^k),<-zXa];omega
def lH(l:List Nat):vt l l.length=aZ l:=by
 induction l with
 | nil=>rfl
 | cons d l ih=>rw[zza,JS,ih];rfl
def gO{l:List Nat}{k:Nat}(h:l.length<=k):vt l k=aZ l:=by
 obtain⟨j,rfl⟩:∃ j,k=l.length+j:=⟨k-l.length,by omega⟩
 clear h
 induction j with
 | zero=>exact lH l
 | succ j ih=>
  rw[<-zwb,vt,ih];have:l.getD (l.length+j) 0=0:=by simp[List.getD]
  rw[this];simp
def tS{l:List Nat}(h:dl l)(k:Nat):vt l k<65536^k:=by
 induction k with
 | zero=>simp[vt]
 | succ k ih=>
  have h1:=h.getD k;have h2:l.getD k 0*65536^k<=65535*65536^k:=zAa _ (by omega)
  rw[vt,zjb,zBa (65536^k)];omega
def j7{l:List Nat}(h:dl l):aZ l<65536^l.length:=by rw[<-lH];exact tS h _
def jS:List Nat->List Nat
 | []=>[]
 | d::l=>match jS l with
  | []=>if d=0 then[] else[d]
  | x::t=>d::x::t
def gt{l:List Nat}(h:dl l):jS l=aw (aZ l):=by
 induction l with
 | nil=>rw[aZ,ce];rfl
 | cons d l ih=>
  have hd:d<65536:=h d zoa;have ih:=ih λx hx=>h x (zia _ hx);rw[jS,ih,aZ];by_cases hv:aZ l=0
  ·rw[hv,ce];by_cases h0:d=0
   ·subst h0;simp[ce]
   ·rw[uJ hd (by omega),ce];simp[h0]
  ·rw[uJ hd (by omega),gZ hv]
def A9{l:List Nat}(h:∀ i,i<l.length->l.getD i 0=0):jS l=[]:=by
 induction l with
 | nil=>rfl
 | cons d l ih=>
  have h0:d=0:=h 0 (by simp)
  rw[jS,ih (λi hi=>h (i+1) (by simpa using hi)),h0];simp
theorem v7:∀ {l:List Nat} {n:Nat},n<=l.length->(∀ i,n<=i->i<l.length->l.getD i 0=0)->(n=0\/l.getD (n-1) 0≠0)->l.take n=jS l
 | [],n,_,_,_=>by simp[jS]
 | d::l,0,_,hz,_=>by rw[A9 (λi hi=>hz i (by omega) hi)];rfl
 | d::l,n+1,hn,hz,hl=>by
  have hl':(d::l).getD n 0≠0:=by
   rcases hl with h|h
   ·omega
   ·exact h
  have ih:l.take n=jS l:=v7 (l:=l) (n:=n) (by simpa using hn) (λi h1 h2=>hz (i+1) (by omega) (by simpa using h2)) (by
   cases n with
   | zero=>exact .inl rfl
   | succ k=>exact .inr hl')
  rw[zVb,ih,jS];cases ht:jS l with
  | nil=>
   rw[ht] at ih;have:n=0:=by
    cases n with
    | zero=>rfl
    | succ k=>cases l with
     | nil=>simp at hn
     | cons e l=>simp at ih
   subst this;have:d≠0:=hl';simp[this]
  | cons x t=>rfl
end Sy
end
noncomputable section
namespace Sy
open Go Go.Proofs Geo
def cP{l:List Nat}{i:Nat}(h:i<l.length):(ae l)[i]?=some (I (l.getD i 0:Nat)):=fM h
def uO(a:List Nat)(d:Nat):ae a++[I (d:Int)]=ae (a++[d]):=by simp[ae]
def xV(n:Nat){l:List Nat}(hl:l.length<=1000000):cA (n+1) 140 [.sl (ae l)]=some (.sl (ae (jS l))):=by
 rw[UN]
 delta Hq qB qC qT qS qX qZ iL iR Jn
 refine aa (z:=ae l) rfl ?_;have fin:∀ j:Nat,j<=l.length->(∀ i,j<=i->i<l.length->l.getD i 0=0)->(j=0\/l.getD (j-1) 0≠0)->(Option.bind (D.asSl (.sl (ae l))) λl13=>Option.bind (D.natOf (I (j:Int))) λi14=>Option.bind (D.cut l13 0 i14) λl15=>some (D.sl l15))=some (.sl (ae (jS l))):=by
  intro j hj hz hd;refine aa (z:=ae l) rfl (aa (z:=j) (by simp[D.natOf]) (aa (z:=ae (l.take j)) ?_ (by rw[v7 hj hz hd])))
  simp only[D.cut];rw[if_pos ⟨zma _,by rw[ai];exact hj⟩]
  simp[ae,List.map_take]
 refine bk (λi s=>s=[I ((l.length-i:Nat):Int)]/\∀ k,l.length-i<=k->k<l.length->l.getD k 0=0) l.length 0 (zma _) ⟨by rw[ai];rfl,λk h1 h2=>by omega⟩ (λi hi s hJ=>?_) (λs hJ=>?_)
 ·obtain⟨rfl,hz⟩:=hJ;have hb:inR (((l.length-i:Nat):Int)-1):=by simp only[inR];omega
  have e1:((l.length-i:Nat):Int)-1=((l.length-i-1:Nat):Int):=by omega
  have hx:(ae l)[l.length-i-1]?=some (I (l.getD (l.length-i-1) 0:Nat)):=cP (by omega)
  by_cases h0:l.getD (l.length-i-1) 0=0
  ·left;refine⟨[I ((l.length-(i+1):Nat):Int)],?_,rfl,λk h1 h2=>?_⟩
   ·refine aa cV (aa ab (aa (z:=true) (az (by show((l.length-i:Nat):Int)>0;omega) ?_) (aa ab ?_)))
    ·refine aa (cO hb) (aa (z:=ae l) rfl (aa (z:=l.length-i-1) (by rw[e1,ai];exact ap (by omega)) (aa hx ?_)))
     rw[h0];rfl
    ·rw[if_pos rfl];refine aa (cO hb) ?_;rw[e1,Nat.sub_sub]
   ·by_cases e:k=l.length-i-1
    ·rw[e];exact h0
    ·exact hz k (by omega) h2
  ·right;refine⟨(0,[I ((l.length-i:Nat):Int)]),?_,fin _ (by omega) hz (.inr h0)⟩
   refine aa cV (aa ab (aa (z:=false) (az (by show((l.length-i:Nat):Int)>0;omega) ?_) (aa ab rfl)))
   refine aa (cO hb) (aa (z:=ae l) rfl (aa (z:=l.length-i-1) (by rw[e1,ai];exact ap (by omega)) (aa hx ?_)))
   rw[bK,decide_eq_false (by omega)];rfl
 ·obtain⟨rfl,hz⟩:=hJ;refine⟨(0,[I ((l.length-l.length:Nat):Int)]),?_,fin _ (by omega) hz (.inl (by omega))⟩
  refine aa cV (aa ab (aa (z:=false) (aG (by show ¬ ((l.length-l.length:Nat):Int)>0;omega) rfl) (aa ab rfl)))
def CO(n:Nat)(l:List Nat)(k:Nat):cA (n+1) 141 [.sl (ae l),I (k:Int)]=some (I (l.getD k 0:Nat)):=by
 rw[UO]
 delta Hr qX qL Jn
 refine aa (z:=ae l) rfl (aa ah (aa ab ?_));by_cases h:k<l.length
 ·refine az (by show(k:Int)<((ae l).length:Int);rw[ai];omega) ?_
  exact aa (z:=ae l) rfl (aa (z:=k) (by rw[ai];exact ap h) (aa (cP h) rfl))
 ·refine aG (by show ¬ (k:Int)<((ae l).length:Int);rw[ai];omega) ?_
  have:l.getD k 0=0:=by simp[List.getD,h]
  rw[this];rfl
def dY(l:List Nat)(i:Nat):Nat:=l.getD (2*i) 0+65536*l.getD (2*i+1) 0
abbrev U(n:Nat):D:=.int .u32 (n:Int)
def du(l:List Nat):D:=.st ((List.range 16).map λi=>U (dY l i))
def ag(x:Int):D:=.st [.bool false,.bool (decide (x<0)),du (aw x.natAbs)]
def wO{l:List Nat}(h:dl l)(i:Nat):dY l i<4294967296:=by
 have:=h.getD (2*i);have:=h.getD (2*i+1);unfold dY;omega
def sU{l:List Nat}{i:Nat}(h:i<16):D.fld (du l) i=some (U (dY l i)):=by simp[du,D.fld,h]
def cL{x:Int}{i:Nat}(h:i<16):D.get (ag x) [2,i]=some (U (dY (aw x.natAbs) i)):=
 aa (z:=du (aw x.natAbs)) rfl (aa (sU h) rfl)
def oP{n:Int}(h:0<=n/\n<4294967296):IntKind.wrap .u32 n=n:=by
 obtain⟨h1,h2⟩:=h;simp only[IntKind.wrap,IntKind.signed,IntKind.bits];first
  | omega
  | (simp;omega)
def KH(a:Nat):D.bin .rem (U a) (.int .u32 65536)=some (U (a%65536)):=by
 simp only[D.bin,if_true,show ¬ (65536:Int)=0 by decide,if_false]
 rw[show(65536:Int)=((65536:Nat):Int) from rfl,<-zVc]
def KG{a:Nat}(h:a<4294967296):D.bin .quo (U a) (.int .u32 65536)=some (U (a/65536)):=by
 simp only[D.bin,if_true,show ¬ (65536:Int)=0 by decide,if_false]
 rw[show(65536:Int)=((65536:Nat):Int) from rfl,<-zAd,oP (by omega)]
def EF{a b:Nat}(h:a+b<4294967296):D.bin .add (U a) (U b)=some (U (a+b)):=by
 simp only[D.bin,if_true];rw[oP (by omega)];simp
def KF{a b:Nat}(h:a*b<4294967296):D.bin .mul (U a) (U b)=some (U (a*b)):=by
 simp only[D.bin,if_true];rw[show(a:Int)*(b:Int)=((a*b:Nat):Int) by simp,oP (by omega)]
def rl{a:Nat}(h:a<4294967296):D.conv .i64 (U a)=some (I (a:Int)):=by
 simp only[D.conv];rw[gP (by simp only[inR];omega)]
def BC{a:Nat}(h:a<4294967296):D.conv .u32 (I (a:Int))=some (U a):=by
 simp only[D.conv];rw[oP (by omega)]
def AQ(l:List Nat)(k:Nat):((List.range k).map λi=>l.getD i 0)=if k<=l.length then l.take k else l++List.replicate (k-l.length) 0:=by
 apply zbc;intro i;by_cases h:i<k
 ·rw[z8a,z4c h];split
  ·simp[h,List.getD,show i<l.length by omega]
  ·by_cases h2:i<l.length
   ·simp[zJc,h2,List.getD]
   ·simp[zJc,h2,List.getD,List.getElem?_replicate,show i-l.length<k-l.length by omega]
 ·rw[z8a,show(List.range k)[i]?=none by simp;omega]
  split
  ·simp;omega
  ·simp;omega
def GD{l:List Nat}(hd:dl l){k:Nat}(hk:l.length<=k):jS ((List.range k).map λi=>l.getD i 0)=aw (aZ l):=by
 have e:((List.range k).map λi=>l.getD i 0)=l++List.replicate (k-l.length) 0:=by
  rw[AQ];split
  ·have:k=l.length:=by omega
   subst this;simp
  ·rfl
 rw[e,gt (hd.append (λx hx=>by rw[zhd hx];decide)),mS]
def zS(n:Nat){x:Int}(hx:x.natAbs<65536^32):cA (n+2) 77 [ag x]=some (.sl (ae (aw x.natAbs))):=by
 rw[YB]
 delta OO qG qB qC qV qW qZ iL iR Jn
 have hd:=aW x.natAbs;have hlen:=bB 32 _ hx;refine bk (λi s=>s=[.sl (ae ((List.range (2*i)).map λi=>(aw x.natAbs).getD i 0)),I (i:Int)]) 16 0 (zma _) rfl (λi hi s hJ=>?_) (λs hJ=>?_)
 ·subst hJ;left;refine⟨_,?_,rfl⟩;refine aa ah (aa ab (az (by show(i:Int)<16;omega) ?_))
  have hlt:=wO hd i;have h1:=hd.getD (2*i);refine aa (z:=i) (ap hi) (aa (cL hi) (aa (KH _) (aa (rl (by omega)) (aa (z:=i) (ap hi) (aa (cL hi) (aa (KG hlt) (aa (rl (by omega)) ?_)))))))
  rw[if_pos (by simp only[g0,D.els,ai,zua,zQb,zza,zmb];omega)]
  refine aa (aq (au (i:=i) (by omega))) ?_
  have e1:dY (aw x.natAbs) i%65536=(aw x.natAbs).getD (2*i) 0:=by unfold dY;omega
  have e2:dY (aw x.natAbs) i/65536=(aw x.natAbs).getD (2*i+1) 0:=by unfold dY;omega
  rw[e1,e2,show 2*(i+1)=2*i+1+1 by omega,z1b,z1b]
  simp[g0,D.els,ae]
 ·subst hJ;refine⟨(0,[.sl (ae ((List.range (2*16)).map λi=>(aw x.natAbs).getD i 0))]),?_,?_⟩
  ·exact aa ah (aa ab (aG (by decide) rfl))
  ·refine aa (xV n (by simp)) ?_
   rw[GD hd hlen,ao]
end Sy
end
noncomputable section
namespace Sy
open Go Go.Proofs Geo
def jR(l:List Nat)(k j:Nat):(l.take k).getD j 0=if j<k then l.getD j 0 else 0:=by
 simp only[List.getD,List.getElem?_take];split<;>simp
def sV{l l':List Nat}{q v:Nat}{a b:D}(hq:q<16)(h:∀ i,dY l' i=if i=q then v else dY l i):D.set (.st [a,b,du l]) [2,q] (U v)=some (.st [a,b,du l']):=by
 have h1:D.set (du l) [q] (U v)=some (du l'):=by
  have e:((List.range 16).map λi=>U (dY l i))[q]?=some (U (dY l q)):=by simp[hq]
  refine aa e (aa (z:=U v) rfl ?_);simp only[du,zca,D.st.injEq];apply zbc;intro i;rw[List.getElem?_set];by_cases hi:q=i
  ·subst hi;simp[hq,h]
  ·rw[if_neg hi,z8a,z8a];by_cases h16:i<16
   ·rw[z4c h16];simp[h,show i≠q from λe=>hi e.symm]
   ·rw[show(List.range 16)[i]?=none by simp;omega];rfl
 exact aa (z:=du l) rfl (aa h1 rfl)
def KC(k:Nat):D.bin .rem (I (k:Int)) (.int .i64 2)=some (I (k%2:Nat)):=by
 rw[nL (by decide),show(2:Int)=((2:Nat):Int) from rfl,<-zVc]
def jh{a b:Nat}(hb:b≠0)(ha:(a:Int)<=9223372036854775807):D.bin .quo (I (a:Int)) (I (b:Int))=some (I (a/b:Nat)):=by
 have:((a/b:Nat):Int)<=9223372036854775807:=by have:=zoc a b;omega
 have h0:0<=((a/b:Nat):Int):=Int.natCast_nonneg _;rw[rJ (by omega) (by rw[<-zAd];simp only[inR];omega),<-zAd]
def kN{a b:Nat}(hb:b≠0):D.bin .rem (I (a:Int)) (I (b:Int))=some (I (a%b:Nat)):=by
 rw[nL (by omega),<-zVc]
def yx{a b:D}{l:List Nat}{i:Nat}(h:i<16):D.get (.st [a,b,du l]) [2,i]=some (U (dY l i)):=
 aa (z:=du l) rfl (aa (sU h) rfl)
def sgn(neg:Bool)(m:Nat):Int:=if neg then -(m:Int) else m
def J7(n:Nat){l:List Nat}{neg:Bool}(hd:dl l)(hl:l.length<=1000000)(hv:aZ l<65536^32):cA (n+2) 81 [.bool neg,.sl (ae l)]=some (ag (sgn neg (aZ l))):=by
 rw[V5]
 delta MF qG qB qC qT qS qX qL qZ iL iR Jn
 have hlen:=bB 32 _ hv;have hdd:=aW (aZ l);have hen:ag (sgn neg (aZ l))=.st [.bool false,.bool (neg&&decide (0<(aw (aZ l)).length)),du (aw (aZ l))]:=by
  have e1:(sgn neg (aZ l)).natAbs=aZ l:=by unfold sgn;split<;>omega
  have e2:(0<(aw (aZ l)).length)↔aZ l≠0:=by
   rw[List.length_pos_iff];exact not_congr sn
  unfold ag;rw[e1];have:decide (sgn neg (aZ l)<0)=(neg&&decide (0<(aw (aZ l)).length)):=by
   simp only[e2,sgn];cases neg
   ·simp<;>omega
   ·by_cases h:aZ l=0
    ·simp[h]
    ·simp[h]<;>omega
  rw[this]
 rw[hen];refine aa (xV n hl) ?_;rw[gt hd];generalize aw (aZ l)=d at hlen hdd;refine aa (z:=ae d) rfl (aa cV (aa ab (aG (by show ¬ ((ae d).length:Int)>32;rw[ai];omega) ?_)))
 refine aa ab (aa (z:=neg&&decide (0<d.length)) ?_ ?_)
 ·cases neg
  ·rfl
  ·rw[if_pos rfl];refine aa (z:=ae d) rfl (aa cV ?_);rw[ab,ai];simp
 refine bk (λk s=>s=[I (k:Int),.st [.bool false,.bool (neg&&decide (0<d.length)),du (d.take k)]]) d.length 0 (zma _) rfl (λk hk s hJ=>?_) (λs hJ=>?_)
 ·subst hJ;left;refine⟨_,?_,rfl⟩;have hdk:=hdd.getD k;refine aa (z:=ae d) rfl (aa ah (aa ab (az (by show(k:Int)<((ae d).length:Int);rw[ai];omega) ?_)))
  refine aa (z:=(0,[.st [.bool false,.bool (neg&&decide (0<d.length)),du (d.take (k+1))]])) ?_ (aa (aq (au (i:=k) (by omega))) rfl)
  refine aa (KC k) ?_;have q1:k/2<16:=by omega
  have hq:D.bin .quo (I (k:Int)) (.int .i64 2)=some (I (k/2:Nat)):=jh (b:=2) (by decide) (by omega)
  have hlk:dY (d.take k) (k/2)=if k%2=0 then 0 else d.getD (2*(k/2)) 0:=by
   simp only[dY,jR];by_cases hk2:k%2=0
   ·rw[if_pos hk2,if_neg (show ¬ 2*(k/2)<k by omega),if_neg (show ¬ 2*(k/2)+1<k by omega)]
   ·rw[if_neg hk2,if_pos (show 2*(k/2)<k by omega),if_neg (show ¬ 2*(k/2)+1<k by omega)];omega
  have hd2:=hdd.getD (2*(k/2));by_cases hk2:k%2=0
  ·rw[if_pos hk2] at hlk;rw[hk2];refine aa (z:=true) rfl ?_;rw[if_pos rfl];refine aa hq (aa hq (aa (ap q1) (aa (yx q1) (aa (z:=ae d) rfl (aa (z:=k) (by rw[ai];exact ap hk) (aa (cP hk) (aa (BC (by omega)) (aa (EF (by rw[hlk];omega)) (aa (ap q1) (aa (sV q1 (l':=d.take (k+1)) ?_) rfl))))))))))
   intro i;by_cases hi:i=k/2
   ·rw[if_pos hi,hlk,hi];simp only[dY,jR];rw[if_pos (show 2*(k/2)<k+1 by omega),if_neg (show ¬ 2*(k/2)+1<k+1 by omega),show 2*(k/2)=k by omega];omega
   ·rw[if_neg hi];simp only[dY,jR];have a1:(2*i<k+1)↔(2*i<k):=by omega
    have a2:(2*i+1<k+1)↔(2*i+1<k):=by omega
    simp only[a1,a2]
  ·rw[if_neg hk2] at hlk;refine aa (z:=false) (by rw[show k%2=1 by omega];rfl) ?_
   rw[if_neg (by decide)]
   refine aa hq (aa hq (aa (ap q1) (aa (yx q1) (aa (z:=ae d) rfl (aa (z:=k) (by rw[ai];exact ap hk) (aa (cP hk) (aa (BC (by omega)) (aa (KF (b:=65536) (by omega)) (aa (EF (by rw[hlk];omega)) (aa (ap q1) (aa (sV q1 (l':=d.take (k+1)) ?_) rfl)))))))))))
   intro i;by_cases hi:i=k/2
   ·rw[if_pos hi,hlk,hi];simp only[dY,jR];rw[if_pos (show 2*(k/2)<k+1 by omega),if_pos (show 2*(k/2)+1<k+1 by omega),show 2*(k/2)+1=k by omega];omega
   ·rw[if_neg hi];simp only[dY,jR];have a1:(2*i<k+1)↔(2*i<k):=by omega
    have a2:(2*i+1<k+1)↔(2*i+1<k):=by omega
    simp only[a1,a2]
 ·subst hJ;refine⟨(0,[.st [.bool false,.bool (neg&&decide (0<d.length)),du (d.take d.length)]]),?_,?_⟩
  ·exact aa (z:=ae d) rfl (aa ah (aa ab (aG (by show ¬ (d.length:Int)<((ae d).length:Int);rw[ai];omega) rfl)))
  ·rw[z3a];rfl
def VY(n:Nat){a b:List Nat}(ha:dl a)(hb:dl b)(hla:a.length<=900000)(hlb:b.length<=900000):cA (n+2) 82 [.sl (ae a),.sl (ae b)]=some (.sl (ae (aw (aZ a+aZ b)))):=by
 rw[YF]
 delta OS qB qC qS qV qW qZ iL iR Jn
 obtain⟨M,hM⟩:∃ M,M=max a.length b.length:=⟨_,rfl⟩;have hmax:∀ k:Nat,D.max2 (D.int .i64 (ae a).length) (D.int .i64 (ae b).length)=some (I (M:Int)):=λ_=>by
  rw[B3,ai,ai,hM];congr 2;omega
 refine bk (λk s=>∃ (out:List Nat) (c:Nat),s=[.sl (ae out),I (c:Int),I (k:Int)]/\out.length=k/\dl out/\c<=1/\aZ out+c*65536^k=vt a k+vt b k) (M+1) 0 (zma _) ⟨[],0,rfl,rfl,(by intro d hd;cases hd),by omega,by simp[aZ,vt]⟩ (λk hk s hJ=>?_) (λs hJ=>?_)
 ·obtain⟨out,c,rfl,ho,hdo,hc,hv⟩:=hJ;left;have h1:=ha.getD k;have h2:=hb.getD k;refine⟨[.sl (ae (out++[(a.getD k 0+b.getD k 0+c)%65536])),I ((a.getD k 0+b.getD k 0+c)/65536:Nat),I ((k+1:Nat):Int)],?_,out++[(a.getD k 0+b.getD k 0+c)%65536],(a.getD k 0+b.getD k 0+c)/65536,rfl,by simp[ho],hdo.append (λx hx=>by simp at hx;omega),by omega,?_⟩
  ·refine aa (z:=ae a) rfl (aa (z:=ae b) rfl (aa (hmax 0) (aa (aq (au (i:=M) (by omega))) (aa ah (aa ab (az (by show(k:Int)<(M:Int)+1;omega) ?_))))))
   refine aa (CO n a k) (aa (CO n b k) (aa (aq (by simp only[inR];omega)) (aa (aq (by simp only[inR];omega)) ?_)))
   rw[show(((a.getD k 0:Nat):Int)+((b.getD k 0:Nat):Int)+(c:Int))=((a.getD k 0+b.getD k 0+c:Nat):Int) by omega]
   refine aa (kN (b:=65536) (by decide)) ?_
   rw[if_pos (by simp only[g0,D.els,ai,zza,zmb];omega)]
   refine aa (jh (b:=65536) (by decide) (by omega)) (aa (aq (au (i:=k) (by omega))) ?_)
   simp only[g0,D.els,uO];rfl
  ·rw[kX,ho,vt,vt,zjb];have e:a.getD k 0+b.getD k 0+c=(a.getD k 0+b.getD k 0+c)%65536+65536*((a.getD k 0+b.getD k 0+c)/65536):=by omega
   have e2:aZ [(a.getD k 0+b.getD k 0+c)%65536]=(a.getD k 0+b.getD k 0+c)%65536:=by simp[aZ]
   rw[e2];generalize 65536^k=B at *;generalize (a.getD k 0+b.getD k 0+c)%65536=r at *;generalize (a.getD k 0+b.getD k 0+c)/65536=q at *;have:(a.getD k 0+b.getD k 0+c)*B=(r+65536*q)*B:=by rw[e]
   rw[zYa,zYa,zYa] at this;rw[show q*(B*65536)=65536*q*B by rw[zBa B,<-zXa,zBa q],zBa B r]
   omega
 ·obtain⟨out,c,rfl,ho,hdo,hc,hv⟩:=hJ;refine⟨(0,[.sl (ae out)]),?_,?_⟩
  ·refine aa (z:=ae a) rfl (aa (z:=ae b) rfl (aa (hmax 0) (aa (aq (au (i:=M) (by omega))) (aa ah (aa ab (aG (by show ¬ (((M+1:Nat):Int)<(M:Int)+1);omega) rfl))))))
  ·refine aa (xV n (l:=out) (by omega)) ?_
   have va:vt a (M+1)=aZ a:=gO (by omega)
   have vb:vt b (M+1)=aZ b:=gO (by omega)
   have la:=tS ha M;have lb:=tS hb M;rw[gO (show a.length<=M by omega)] at la
   rw[gO (show b.length<=M by omega)] at lb
   have hc0:c=0:=by
    rcases ztb c with h|h
    ·exact h
    ·have:1*65536^(M+1)<=c*65536^(M+1):=zAa _ h;rw[zjb] at this;rw[va,vb,zjb] at hv;omega
   subst hc0;rw[gt hdo,<-va,<-vb,<-hv];simp
def Bx(n:Nat){x:Int}(hx:inR x):cA (n+3) 34 [I x]=some (ag x):=by
 rw[Yl]
 delta Oy qB qC Jn
 obtain⟨h1,h2⟩:=hx;have d1:∀ m:Nat,(m:Int)<=9223372036854775807->dl [m%65536,m/65536%65536,m/4294967296%65536,m/281474976710656]:=λm hm d hd=>by
  simp only[zva,zUb,or_false] at hd;omega
 have d2:∀ m:Nat,aZ [m%65536,m/65536%65536,m/4294967296%65536,m/281474976710656]=m:=λm=>by
  simp only[aZ];omega
 have d3:∀ m:Nat,D.sl [I (m%65536:Nat),I (m/65536%65536:Nat),I (m/4294967296%65536:Nat),I (m/281474976710656:Nat)]=.sl (ae [m%65536,m/65536%65536,m/4294967296%65536,m/281474976710656]):=λm=>rfl;have big:∀ m:Nat,(m:Int)<=9223372036854775808->m<65536^32:=λm hm=>by
  have:(65536:Nat)^4<=65536^32:=zsa (by decide) (by decide)
  have e:(65536:Nat)^4=18446744073709551616:=by decide
  omega
 refine aa gh (aa ab ?_);by_cases h:x ≥ 0
 ·refine az h ?_;obtain⟨m,rfl⟩:=zvc h;refine aa (kN (b:=65536) (by decide)) (aa (jh (b:=65536) (by decide) h2) (aa (kN (b:=65536) (by decide)) (aa (jh (b:=4294967296) (by decide) h2) (aa (kN (b:=65536) (by decide)) (aa (jh (b:=281474976710656) (by decide) h2) ?_)))))
  refine aa (z:=ag m) ?_ rfl;rw[d3,J7 n (d1 m h2) (by simp) (by rw[d2];exact big m (by omega)),d2];rfl
 ·refine aG h ?_;obtain⟨m,hm⟩:=zvc (show 0<=-(x+1) by omega)
  have h3:(m:Int)<=9223372036854775807:=by omega
  refine aa (aq (by simp only[inR];omega)) (aa (mK (by simp only[inR];omega)) ?_)
  rw[hm];refine aa (kN (b:=65536) (by decide)) (aa (jh (b:=65536) (by decide) h3) (aa (kN (b:=65536) (by decide)) (aa (jh (b:=4294967296) (by decide) h3) (aa (kN (b:=65536) (by decide)) (aa (jh (b:=281474976710656) (by decide) h3) ?_)))))
  rw[d3];refine aa (VY n (b:=[1]) (d1 m h3) (λd hd=>by simp at hd;omega) (by simp) (by simp)) (aa (z:=ag x) ?_ rfl)
  rw[d2];have e1:aZ [1]=1:=rfl;rw[e1,J7 n (aW _) ?_ ?_,ao]
  ·congr 2;simp only[sgn,if_true];omega
  ·have:=bB 32 _ (big (m+1) (by omega));omega
  ·rw[ao];exact big (m+1) (by omega)
end Sy
end
noncomputable section
namespace Sy
open Go Go.Proofs Geo
def In(x:Int):Prop:=x.natAbs<65536^32
def In.of{x:Int}(h:inR x):In x:=by
 have:(65536:Nat)^4<=65536^32:=zsa (by decide) (by decide)
 have e:(65536:Nat)^4=18446744073709551616:=by decide
 obtain⟨h1,h2⟩:=h;unfold In;omega
def gT(m i:Nat):dY (aw m) i=m/4294967296^i%4294967296:=by
 have e1:65536^(2*i)=4294967296^i:=by rw[Nat.pow_mul]
 have e2:65536^(2*i+1)=4294967296^i*65536:=by rw[zjb,e1]
 unfold dY;rw[pg,pg,e1,e2,<-zTa];generalize m/4294967296^i=q;omega
def Kj(m:Nat):dY (aw m) 0=m%4294967296:=by rw[gT,zqc,zOc]
def Fz(m:Nat):dY (aw m) 1=m/4294967296%4294967296:=by rw[gT,Nat.pow_one]
def NL{m i:Nat}(h:m<18446744073709551616)(hi:2<=i):dY (aw m) i=0:=by
 rw[gT];have:(4294967296:Nat)^2<=4294967296^i:=zsa (by decide) hi
 rw[zWa (by omega)]
def J0{a b:Nat}:D.beq (U a) (U b)=decide (a=b):=by
 simp only[D.beq,decide_true,zOb];by_cases h:a=b
 ·simp[h]
 ·simp[h];omega
def sW{m:Nat}(hm:m<65536^32)(h:∀ i,i<16->dY (aw m) i=0):m=0:=by
 have hz:∀ i,i<32->(aw m).getD i 0=0:=λi hi=>by
  have:=h (i/2) (by omega)
  unfold dY at this;rcases Nat.mod_two_eq_zero_or_one i with e|e
  ·rw[show 2*(i/2)=i by omega] at this;omega
  ·rw[show 2*(i/2)+1=i by omega] at this;omega
 have hv:∀ k,k<=32->vt (aw m) k=0:=λk=>by
  induction k with
  | zero=>intro _;rfl
  | succ k ih=>intro hk;rw[vt,ih (by omega),hz k (by omega)];simp
 have:=hv 32 (by omega)
 rw[gO (bB 32 _ hm),ao] at this;exact this
def zB(m i:Nat):Bool:=(List.range i).all λk=>decide (dY (aw m) k=0)
def JU(m i:Nat):zB m (i+1)=(zB m i&&decide (dY (aw m) i=0)):=by
 unfold zB;rw[z1b,z5c];simp
def Th(n:Nat){x:Int}(hx:In x):cA (n+1) 139 [ag x]=some (.bool true):=by
 rw[N8]
 delta Eg qG qB qC qT qN qZ iL iR Jn
 have fin:∀ z:Bool,(z=true->x=0)->(Option.bind (D.get (ag x) [0]) λx10=>Option.bind (D.truth x10) λb11=>
   if b11 then(Option.bind (D.truth (.bool z)) λb12=>Option.bind (if b12 then(Option.bind (D.get (ag x) [1]) λx13=>Option.bind (D.un .not x13) λx14=>D.truth x14) else(some false)) λb15=>
   some (D.bool b15)) else(Option.bind (D.un .not (.bool z)) λx16=>Option.bind (D.truth x16) λb17=>
   Option.bind (if b17 then(some true) else(Option.bind (D.get (ag x) [1]) λx18=>Option.bind (D.un .not x18) λx19=>D.truth x19)) λb20=>some (D.bool b20)))=some (.bool true):=by
  intro z hz;refine aa (z:=.bool false) rfl (aa (z:=false) rfl ?_);rw[if_neg (by decide)]
  refine aa (z:=.bool (!z)) rfl (aa (z:=!z) rfl ?_);cases z with
  | false=>rfl
  | true=>
   have:=hz rfl;subst this;rfl
 refine bk (λi s=>s=[.bool (zB x.natAbs i),I (i:Int)]) 16 0 (zma _) rfl (λi hi s hJ=>?_) (λs hJ=>?_)
 ·subst hJ;left;refine⟨_,?_,rfl⟩;refine aa ah (aa ab (az (by show(i:Int)<16;omega) (aa ab (aa (z:=zB x.natAbs (i+1)) ?_ (aa (aq (au (i:=i) (by omega))) rfl)))))
  rw[JU];cases zB x.natAbs i with
  | false=>rfl
  | true=>
   rw[if_pos rfl];refine aa (ap hi) (aa (cL hi) ?_);show D.truth (D.bool (D.beq (U (dY (aw x.natAbs) i)) (U 0)))=_;rw[J0,ab];rfl
 ·subst hJ;refine⟨(0,[.bool (zB x.natAbs 16)]),?_,?_⟩
  ·exact aa ah (aa ab (aG (by decide) rfl))
  ·refine fin _ λh=>?_;have:=sW hx (λi hi=>of_decide_eq_true (zka.1 h i (zNa.2 hi)));omega
def rR(n:Nat){x:Int}(hx:In x):cA (n+2) 76 [ag x]=some (.bool true):=by
 rw[V4]
 delta ME qG qT
 exact aa (Th n hx) (aa ab rfl)
def rQ(n:Nat){x:Int}(hx:x.natAbs<4611686018427387904):cA (n+3) 124 [ag x]=some (.tup [I x,.bool true]):=by
 have hin:In x:=In.of (by simp only[inR];omega)
 rw[LT]
 delta CA qG qB qC qT qN qZ iL iR Jn
 have l1:=Fz x.natAbs;refine aa (rR n hin) (aa aP (aa ab (aa (z:=false) ?_ (aa ab ?_))))
 ·rw[if_neg (by decide)]
  refine aa (cL (i:=1) (by decide)) ?_
  rw[l1];have:D.bin .geq (U (x.natAbs/4294967296%4294967296)) (.int .u32 1073741824)=some (.bool false):=by
   simp only[D.bin,if_true];rw[decide_eq_false (by omega)]
  exact aa this rfl
 ·rw[if_neg (by decide)]
  refine bk (λi s=>s=[I (i:Int)]/\2<=i) 16 2 (by decide) ⟨rfl,by decide⟩ (λi hi s hJ=>?_) (λs hJ=>?_)
  ·obtain⟨rfl,h2⟩:=hJ;left;refine⟨_,?_,rfl,by omega⟩
   refine aa ah (aa ab (az (by show(i:Int)<16;omega) ?_))
   refine aa (ap hi) (aa (cL hi) ?_);rw[NL (by omega) h2]
   refine aa (z:=false) rfl ?_;rw[if_neg (by decide)]
   exact aa (aq (au (i:=i) (by omega))) rfl
  ·obtain⟨rfl,_⟩:=hJ;refine⟨(1,[]),aa ah (aa ab (aG (by decide) rfl)),?_⟩
   rw[if_neg (by decide)]
   have e0:=Kj x.natAbs;refine aa (cL (i:=1) (by decide)) (aa (rl (wO (aW _) 1)) ?_)
   rw[l1];refine aa (ca (by simp only[inR];omega)) (aa (cL (i:=0) (by decide)) (aa (rl (wO (aW _) 0)) ?_))
   rw[e0];refine aa (aq (by simp only[inR];omega)) (aa (z:=.bool (decide (x<0))) rfl (aa ab ?_))
   by_cases hx0:x<0
   ·refine az hx0 ?_;refine aa (mK (by simp only[inR];omega)) ?_
    congr 4;omega
   ·refine aG hx0 ?_;congr 4;omega
def Tj(n:Nat){x:Int}(hx:In x):cA (n+3) 142 [ag x]=some (ag x.natAbs):=by
 rw[UP]
 delta Hs qN
 have hl:=bB 32 _ hx;refine aa (rR n hx) (aa aP (aa ab ?_));refine aa (zS n hx) (aa (z:=ag x.natAbs) ?_ rfl);rw[J7 n (aW _) (by omega) (by rw[ao];exact hx),ao];rfl
def O6(n:Nat){a b:List Nat}(ha:dl a)(hb:dl b)(hla:a.length<=900000)(hlb:b.length<=900000):cA (n+2) 78 [.sl (ae a),.sl (ae b)]=some (.bool (decide (aZ a<aZ b))):=by
 rw[YC]
 delta OP qB qC qT qS qZ iL iR Jn
 obtain⟨M,hM⟩:∃ M,M=max a.length b.length:=⟨_,rfl⟩;have hmax:D.max2 (D.int .i64 (ae a).length) (D.int .i64 (ae b).length)=some (I (M:Int)):=by
  rw[B3,ai,ai,hM];congr 2;omega
 have hva:vt a M=aZ a:=gO (by omega)
 have hvb:vt b M=aZ b:=gO (by omega)
 refine aa (z:=ae a) rfl (aa (z:=ae b) rfl (aa hmax (aa (cO (by simp only[inR];omega)) ?_)))
 refine bk (λi s=>s=[I ((M:Int)-1-i)]/\(aZ a<aZ b↔vt a (M-i)<vt b (M-i))) M 0 (zma _) ⟨by simp,by simp[hva,hvb]⟩ (λi hi s hJ=>?_) (λs hJ=>?_)
 ·obtain⟨rfl,hz⟩:=hJ;obtain⟨k,hk⟩:∃ k,M-i=k+1:=⟨M-i-1,by omega⟩
  rw[hk,vt,vt] at hz;have e1:(M:Int)-1-i=(k:Int):=by omega
  rw[e1];have la:=tS ha k;have lb:=tS hb k;have q1:=CO n a k;have q2:=CO n b k;by_cases hab:a.getD k 0=b.getD k 0
  ·left;refine⟨[I ((M:Int)-1-(i+1:Nat))],?_,rfl,?_⟩
   ·refine aa gh (aa ab (az (by show(k:Int) ≥ 0;omega) (aa q1 (aa q2 (aa (z:=false) ?_ ?_)))))
    ·rw[hab,cd,decide_eq_true rfl];rfl
    ·rw[if_neg (by decide)]
     refine aa (cO (by simp only[inR];omega)) ?_
     congr 4;omega
   ·rw[hz,hab,show M-(i+1)=k by omega];omega
  ·right;refine⟨(0,[.bool (decide (a.getD k 0<b.getD k 0))]),?_,?_⟩
   ·refine aa gh (aa ab (az (by show(k:Int) ≥ 0;omega) (aa q1 (aa q2 (aa (z:=true) ?_ ?_)))))
    ·rw[cd,decide_eq_false hab];rfl
    ·rw[if_pos rfl];refine aa q1 (aa q2 (aa ah ?_));simp
   ·rw[if_pos rfl];show some (D.bool (decide (a.getD k 0<b.getD k 0)))=_;congr 3;rw[eq_iff_iff,hz];generalize a.getD k 0=u at *;generalize b.getD k 0=v at *;generalize 65536^k=B at *;constructor
    ·intro h;have:(u+1)*B<=v*B:=zAa _ h;rw[zYa] at this;omega
    ·intro h;rcases zna u v with h1|h1
     ·exact h1
     ·have:(v+1)*B<=u*B:=zAa _ (by omega)
      rw[zYa] at this;omega
 ·obtain⟨rfl,hz⟩:=hJ;refine⟨(1,[]),?_,?_⟩
  ·exact aa gh (aa ab (aG (by show ¬ ((M:Int)-1-(M:Nat)) ≥ 0;omega) rfl))
  ·rw[if_neg (by decide)]
   have:¬ aZ a<aZ b:=by rw[hz];simp[vt]
   rw[decide_eq_false this]
def VQ(n:Nat){x y:Int}(hx:In x)(hy:In y):cA (n+3) 32 [ag x,ag y]=some (I (ba x y)):=by
 rw[u32]
 delta Ow qG qT qN Jn
 have hlx:=bB 32 _ hx;have hly:=bB 32 _ hy;have gx:=rR n hx;have gy:=rR n hy;have dx:=zS n hx;have dy:=zS n hy;refine aa gx (aa aP (aa ab (aa (z:=false) rfl (aa (z:=false) rfl ?_))));rw[if_neg (by decide)]
 refine aa gx (aa aP (aa (z:=false) rfl ?_));rw[if_neg (by decide)]
 refine aa gy (aa aP (aa (z:=false) rfl ?_));rw[if_neg (by decide)]
 refine aa (z:=.bool (decide (x<0))) rfl (aa (z:=.bool (decide (y<0))) rfl ?_);have l1:=O6 n (aW x.natAbs) (aW y.natAbs) (by omega) (by omega)
 have l2:=O6 n (aW y.natAbs) (aW x.natAbs) (by omega) (by omega)
 simp only[ao] at l1 l2;have hb:∀ p q:Bool,D.truth (.bool (!(D.beq (.bool p) (.bool q))))=some (!(p==q)):=λp q=>rfl;rw[hb];refine aa rfl ?_;by_cases h1:x<0<;>by_cases h2:y<0
 ·rw[decide_eq_true h1,decide_eq_true h2,if_neg (by decide)]
  refine aa dx (aa dy (aa (z:=(0,[.sl (ae (aw y.natAbs)),.sl (ae (aw x.natAbs))])) ?_ ?_))
  ·refine aa (z:=.bool true) (by rw[show D.get (ag x) [1]=some (.bool (decide (x<0))) from rfl,decide_eq_true h1]) (aa (z:=true) rfl ?_)
   rw[if_pos rfl];exact aa dy (aa dx rfl)
  ·refine aa l2 (aa l1 (aa ab ?_));by_cases h3:y.natAbs<x.natAbs
   ·refine az h3 ?_;simp[ba,show x<y by omega]
   ·refine aG h3 (aa ab ?_);by_cases h4:x.natAbs<y.natAbs
    ·refine az h4 ?_;simp[ba,show ¬ x<y by omega,show y<x by omega]
    ·refine aG h4 ?_;simp[ba,show ¬ x<y by omega,show ¬ y<x by omega]
 ·rw[decide_eq_true h1,decide_eq_false h2,if_pos (by decide)]
  refine aa (z:=.bool true) (by rw[show D.get (ag x) [1]=some (.bool (decide (x<0))) from rfl,decide_eq_true h1]) (aa (z:=true) rfl ?_)
  simp[ba,show x<y by omega]
 ·rw[decide_eq_false h1,decide_eq_true h2,if_pos (by decide)]
  refine aa (z:=.bool false) (by rw[show D.get (ag x) [1]=some (.bool (decide (x<0))) from rfl,decide_eq_false h1]) (aa (z:=false) rfl ?_)
  simp[ba,show ¬ x<y by omega,show y<x by omega]
 ·rw[decide_eq_false h1,decide_eq_false h2,if_neg (by decide)]
  refine aa dx (aa dy (aa (z:=(0,[.sl (ae (aw x.natAbs)),.sl (ae (aw y.natAbs))])) ?_ ?_))
  ·refine aa (z:=.bool false) (by rw[show D.get (ag x) [1]=some (.bool (decide (x<0))) from rfl,decide_eq_false h1]) (aa (z:=false) rfl rfl)
  ·refine aa l1 (aa l2 (aa ab ?_));by_cases h3:x.natAbs<y.natAbs
   ·refine az h3 ?_;simp[ba,show x<y by omega]
   ·refine aG h3 (aa ab ?_);by_cases h4:y.natAbs<x.natAbs
    ·refine az h4 ?_;simp[ba,show ¬ x<y by omega,show y<x by omega]
    ·refine aG h4 ?_;simp[ba,show ¬ x<y by omega,show ¬ y<x by omega]
end Sy
end
noncomputable section
namespace Sy
open Go Go.Proofs Geo
def Wd(x:Int):Prop:=x.natAbs<4611686018427387904
theorem Wd.inR{x:Int}(h:Wd x):inR x:=by unfold Wd at h;simp only[Sy.inR];omega
theorem Wd.In{x:Int}(h:Wd x):In x:=In.of h.inR
def Tk(n:Nat){a b:Int}(ha:Wd a)(hb:b≠0)(hd:b ∣ a):cA (n+1) 144 [I a,I b]=some (I (a/b)):=by
 rw[UR]
 delta Hu qB qT Jn
 obtain⟨q,rfl⟩:=hd;have e1:(b*q).tdiv b=q:=zid _ hb;have e2:b*q/b=q:=z9a _ hb;have e3:(b*q).tmod b=0:=Int.mul_tmod_right ..;have hq:Sy.inR q:=by
  have:q.natAbs<=(b*q).natAbs:=by rw[zLa];exact zKb _ (by omega)
  unfold Wd at ha;simp only[Sy.inR];omega
 rw[e2];refine aa (rJ hb (by rw[e1];exact hq)) (aa (z:=(0,[I q])) (aa (nL hb) ?_) rfl)
 rw[e1,e3];exact aa (z:=false) rfl (aa (z:=false) rfl (aa ab rfl))
def O7(n:Nat){a b:Int}(ha:Wd a)(hb:Wd b):cA (n+4) 85 [ag a,ag b]=some (ag (Nat.gcd a.natAbs b.natAbs:Nat)):=by
 rw[V6]
 delta MG qB qC qT qN qS qZ iL iR Jn
 refine aa (rQ n ha) (aa (z:=I a) rfl (aa (z:=.bool true) rfl (aa (rQ n hb) (aa (z:=I b) rfl (aa (z:=.bool true) rfl (aa (z:=true) rfl (aa (z:=true) rfl (aa (z:=true) rfl ?_))))))));rw[if_pos rfl];obtain⟨r,h1,h2⟩:=yt (body:=λ(v1:List D)=>
  Option.bind (D.truth (D.bool (!(D.beq (gx v1 1) (D.int .i64 0))))) λb2=>
  if b2 then(Option.bind (D.bin .rem (gx v1 0) (gx v1 1)) λx3=>
  some (Sum.inl [(gx v1 1),x3])) else(some (Sum.inr (0,[(gx v1 0)]))))
  (λa b hb=>by simp only[g0,g1,bK,ab,zba,hb,decide_false,zNb,if_true,nL hb])
  (λa=>by simp only[g0,g1,bK,ab,zba,decide_true,zac,zwa,if_false]) _ a b rfl
 refine m9 h1 ?_;have hg:Nat.gcd a.natAbs b.natAbs<=4611686018427387903:=by unfold Wd at ha hb;exact pp (by omega) (by omega)
 have hr:Sy.inR r:=by simp only[Sy.inR];omega
 refine aa (Bx n hr) (aa (Tj n (In.of hr)) ?_);rw[h2]
def Nq(n:Nat){x:Int}(hx:In x):cA (n+3) 83 [ag x]=some (I (sg x)):=by
 rw[YG]
 delta OT qG qT qN qS Jn
 refine aa (rR n hx) (aa aP (aa (z:=false) rfl (aa (z:=decide (x=0)) ?_ (aa ab ?_))))
 ·rw[if_neg (by decide)]
  refine aa (zS n hx) (aa (z:=ae (aw x.natAbs)) rfl ?_);rw[ab,ai];show some (D.beq (I ((aw x.natAbs).length:Nat)) (I (0:Nat)))=_;rw[cd];congr 1;rw[decide_eq_decide,zuc,sn];omega
 ·by_cases h0:x=0
  ·refine az h0 ?_;subst h0;rfl
  ·refine aG h0 (aa (z:=.bool (decide (x<0))) rfl (aa ab ?_));by_cases h1:x<0
   ·refine az h1 ?_;rw[xr h1]
   ·refine aG h1 ?_;rw[fW (by omega)]
def O8(n:Nat){a b:Int}(ha:Wd a)(hb:Wd b)(hb0:b≠0)(hd:b ∣ a):cA (n+4) 87 [ag a,ag b]=some (ag (a/b)):=by
 rw[V7]
 delta MH qG qB qT qN qS Jn
 refine aa (rQ n ha) (aa (z:=I a) rfl (aa (z:=.bool true) rfl (aa (rQ n hb) (aa (z:=I b) rfl (aa (z:=.bool true) rfl (aa (z:=true) rfl (aa (z:=true) rfl (aa (z:=true) rfl (aa (z:=true) ?_ (aa (z:=true) rfl ?_))))))))))
 ·rw[if_pos rfl,bK,decide_eq_false hb0];rfl
 ·rw[if_pos rfl];have hq:Sy.inR (a/b):=by
   obtain⟨q,rfl⟩:=hd;rw[z9a _ hb0];have:q.natAbs<=(b*q).natAbs:=by rw[zLa];exact zKb _ (by omega)
   unfold Wd at ha;simp only[Sy.inR];omega
  exact aa (Tk (n+2) ha hb0 hd) (aa (Bx n hq) rfl)
abbrev O3(n:Nat):D:=.int .u64 (n:Int)
def da{n:Int}(h:0<=n/\n<18446744073709551616):IntKind.wrap .u64 n=n:=by
 obtain⟨h1,h2⟩:=h;simp only[IntKind.wrap,IntKind.signed,IntKind.bits];first
  | omega
  | (simp;omega)
def KO(n:Nat){x:Int}(hx:Wd x):cA (n+4) 186 [ag x]=some (.tup [I x,.bool true]):=by
 rw[U7]
 delta HJ qG qB qC qT qN Jn
 have hx':x.natAbs<4611686018427387904:=hx;have i1:Sy.inR (-9223372036854775808):=⟨by decide,by decide⟩
 have i2:Sy.inR 9223372036854775807:=⟨by decide,by decide⟩
 refine aa (rR (n+1) hx.In) (aa aP (aa (z:=false) rfl ?_));rw[if_neg (by decide)]
 refine aa (Bx n i1) (aa (Bx n i2) (aa (VQ n hx.In (In.of i1)) ?_));rw[show ba x (-9223372036854775808)=1 by unfold ba;rw[if_neg (by omega),if_pos (by omega)]]
 refine aa (z:=.bool false) ah (aa (z:=false) rfl (aa (z:=false) ?_ (aa (z:=false) rfl ?_)))
 ·rw[if_neg (by decide)]
  refine aa (VQ n hx.In (In.of i2)) ?_;rw[show ba x 9223372036854775807=-1 by unfold ba;rw[if_pos (by omega)]]
  exact aa (z:=.bool false) cV rfl
 ·rw[if_neg (by decide)]
  have l1:=Fz x.natAbs;have l0:=Kj x.natAbs;refine aa (cL (i:=1) (by decide)) ?_
  rw[l1];refine aa (z:=O3 (x.natAbs/4294967296%4294967296)) (by simp only[D.conv];rw[da (by omega)]) ?_
  refine aa (z:=O3 (x.natAbs/4294967296%4294967296*4294967296)) (by simp only[D.bin,if_true];rw[da (by omega)];simp) ?_
  refine aa (cL (i:=0) (by decide)) ?_
  rw[l0];refine aa (z:=O3 (x.natAbs%4294967296)) (by simp only[D.conv];rw[da (by omega)]) ?_
  refine aa (z:=O3 x.natAbs) (by simp only[D.bin,if_true];rw[da (by omega)];congr 2;omega) ?_
  refine aa (z:=I (x.natAbs:Nat)) (by simp only[D.conv];rw[gP (by simp only[Sy.inR];omega)]) ?_
  refine aa (z:=(0,[I x])) (aa (z:=.bool (decide (x<0))) rfl (aa ab ?_)) rfl;by_cases h:x<0
  ·refine az h (aa (mK (by simp only[Sy.inR];omega)) ?_)
   congr 4;omega
  ·refine aG h ?_;congr 4;omega
def Tt(n:Nat){v:V}(hv:bd 2305843009213693951 v):cA (n+1) 187 [ac v]=some (.bool true):=by
 rw[Oe]
 delta Em qB qC qT qJ qZ iL iR Jn
 have stp:∀ x:Int,(-2305843009213693951<=x/\x<=2305843009213693951)->∀ (i:Nat) (hi:i<3),D.get (ac v) [i]=some (I x)->(Option.bind (D.idx (I (i:Int)) 3) λi4=>Option.bind (D.get (ac v) [i4]) λx5=>Option.bind (D.bin .geq x5 (D.int .i64 2305843009213693952)) λx6=>Option.bind (D.truth x6) λb7=>
  Option.bind (if b7 then(some true) else(Option.bind (D.idx (I (i:Int)) 3) λi8=>Option.bind (D.get (ac v) [i8]) λx9=>Option.bind (D.bin .leq x9 (D.int .i64 (-2305843009213693952))) λx10=>D.truth x10)) λb11=>
  Option.bind (D.truth (D.bool b11)) λb12=>if b12 then(some (Sum.inr (0,[(D.bool false)]))) else(Option.bind (D.bin .add (I (i:Int)) (D.int .i64 1)) λx13=>some (Sum.inl [x13])))=some (Sum.inl [I ((i+1:Nat):Int)]:Sum (List D) (Nat×List D)):=λx hx i hi hg=>by
  refine aa (ap hi) (aa hg (aa gh (aa ab (aa (z:=false) ?_ (aa (z:=false) rfl ?_)))))
  ·refine aG (by omega) (aa (ap hi) (aa hg (aa pZ ?_)))
   rw[ab,decide_eq_false (by omega)]
  ·rw[if_neg (by decide)]
   exact aa (aq (au (i:=i) (by omega))) rfl
 refine co (s':=[I (1:Nat)]) (aa ah (aa ab (az (by decide) (stp v.x hv.1 0 (by decide) rfl)))) (co (s':=[I (2:Nat)]) (aa ah (aa ab (az (by decide) (stp v.y hv.2.1 1 (by decide) rfl)))) (co (s':=[I (3:Nat)]) (aa ah (aa ab (az (by decide) (stp v.z hv.2.2 2 (by decide) rfl)))) (fq (r:=(1,[])) (aa ah (aa ab (aG (by decide) rfl))) rfl)))
def fF(v:V):D:=.st [ag v.x,ag v.y,ag v.z]
def TY(n:Nat){v:V}(hx:inR v.x)(hy:inR v.y)(hz:inR v.z):cA (n+4) 80 [ac v]=some (fF v):=by
 rw[YE]
 delta OR qG
 exact aa (mW v) (aa (Bx n hx) (aa (mX v) (aa (Bx n hy) (aa (mY v) (aa (Bx n hz) rfl)))))
def M5(n:Nat){v:V}(hv:bd 2305843009213693951 v):cA (n+5) 155 [fF v]=some (.st [ac (aE v),I (if v=V.zero then 31 else 0)]):=by
 rw[UX]
 delta HA qG qB qC qT qN qJ qZ iL iR Jn
 have wx:Wd v.x:=by have:=hv.1;unfold Wd;omega
 have wy':Wd v.y:=by have:=hv.2.1;unfold Wd;omega
 have wz:Wd v.z:=by have:=hv.2.2;unfold Wd;omega
 have h0:Sy.inR 0:=⟨by decide,by decide⟩
 have w0:Wd 0:=by unfold Wd;decide
 have q1:Nat.gcd v.x.natAbs v.y.natAbs<=4611686018427387903:=by unfold Wd at wx wy';exact pp (by omega) (by omega)
 have q2:be v<=4611686018427387903:=by
  unfold be;have:=pp (a:=(Nat.gcd v.x.natAbs v.y.natAbs:Nat)) (b:=v.z) (k:=4611686018427387903) (by simpa using q1) (by unfold Wd at wz;omega)
  simpa using this
 have wxx:Wd (v.x.natAbs:Nat):=by unfold Wd at *;omega
 have w1:Wd (Nat.gcd v.x.natAbs v.y.natAbs:Nat):=by unfold Wd;omega
 have w2:Wd (be v:Nat):=by unfold Wd;omega
 have g01:=O7 n w0 wx;have g02:=O7 n wxx wy';have g03:=O7 n w1 wz;rw[show(Nat.gcd (0:Int).natAbs v.x.natAbs)=v.x.natAbs by simp] at g01
 rw[show(Nat.gcd ((v.x.natAbs:Nat):Int).natAbs v.y.natAbs)=Nat.gcd v.x.natAbs v.y.natAbs by simp] at g02
 rw[show(Nat.gcd ((Nat.gcd v.x.natAbs v.y.natAbs:Nat):Int).natAbs v.z.natAbs)=be v by simp[be]] at g03
 have fst:∀ {k:Nat×List D->Option D} {y:D},k (0,[ag (be v:Nat)])=some y->Option.bind (cA (n+4) 34 [(D.int .i64 0)]) (λr1=>Option.bind (aO (λ(v2:List D)=>
   Option.bind (D.bin .lss (gx v2 0) (D.int .i64 3)) λx3=>Option.bind (D.truth x3) λb4=>
   if b4 then(Option.bind (D.idx (gx v2 0) 3) λi5=>Option.bind (D.get (fF v) [i5]) λx6=>Option.bind (cA (n+4) 85 [(gx v2 1),x6]) λr7=>
   Option.bind (D.bin .add (gx v2 0) (D.int .i64 1)) λx8=>some (Sum.inl [x8,r7])) else(some (Sum.inr (0,[(gx v2 1)])))) [(D.int .i64 0),r1]) k)=some y:=by
  intro k y hk;refine aa (Bx (n+1) h0) ?_;refine co (s':=[I 1,ag (v.x.natAbs:Nat)]) (aa ah (aa ab (az (by decide) (aa Ft (aa (z:=ag v.x) rfl (aa g01 (aa (aq Ke) rfl))))))) ?_
  refine co (s':=[I 2,ag (Nat.gcd v.x.natAbs v.y.natAbs:Nat)]) (aa ah (aa ab (az (by decide) (aa Fu (aa (z:=ag v.y) rfl (aa g02 (aa (aq rq) rfl))))))) ?_
  refine co (s':=[I 3,ag (be v:Nat)]) (aa ah (aa ab (az (by decide) (aa Fv (aa (z:=ag v.z) rfl (aa g03 (aa (aq Kf) rfl))))))) ?_
  exact fq (r:=(0,[ag (be v:Nat)])) (aa ah (aa ab (aG (by decide) rfl))) hk
 have hsg:=Nq (n+1) w2.In;by_cases hz:be v=0
 ·refine fst (aa (z:=.bool false) rfl (aa (z:=false) rfl ?_));rw[if_neg (by decide)]
  refine aa hsg ?_;rw[hz];refine aa (z:=true) rfl ?_;rw[if_pos rfl];have hv0:v=V.zero:=by
   by_cases h:v=V.zero
   ·exact h
   ·have:=g9 h;omega
  rw[hv0];rfl
 ·have hg0:(be v:Int)≠0:=by omega
  rw[if_neg (λh=>hz (by rw[h];rfl))]
  refine fst (aa (z:=.bool false) rfl (aa (z:=false) rfl ?_));rw[if_neg (by decide)]
  refine aa hsg ?_;rw[fW (show(0:Int)<be v by omega)]
  refine aa (z:=false) rfl ?_;rw[if_neg (by decide)]
  have bp:=dT hv;have z1:=O8 n wx w2 hg0 (uL v);have z2:=O8 n wy' w2 hg0 (uM v);have z3:=O8 n wz w2 hg0 (uN v);have s1:=KO n (x:=v.x/(be v:Nat)) (by have:=bp.1;unfold Wd;simp only[aE] at this;omega)
  have s2:=KO n (x:=v.y/(be v:Nat)) (by have:=bp.2.1;unfold Wd;simp only[aE] at this;omega)
  have s3:=KO n (x:=v.z/(be v:Nat)) (by have:=bp.2.2;unfold Wd;simp only[aE] at this;omega)
  refine co (s':=[I 1,.st [ac V.zero,I 0],.st [ac ⟨v.x/(be v:Nat),0,0⟩,I 0]]) ?_ (co (s':=[I 2,.st [ac V.zero,I 0],.st [ac ⟨v.x/(be v:Nat),v.y/(be v:Nat),0⟩,I 0]]) ?_ (co (s':=[I 3,.st [ac V.zero,I 0],.st [ac ⟨v.x/(be v:Nat),v.y/(be v:Nat),v.z/(be v:Nat)⟩,I 0]]) ?_ (fq (r:=(1,[.st [ac V.zero,I 0],.st [ac (aE v),I 0]])) (aa ah (aa ab (aG (by decide) rfl))) ?_)))
  ·refine aa ah (aa ab (az (by decide) (aa Ft (aa (z:=ag v.x) rfl (aa z1 (aa s1 (aa (z:=I (v.x/(be v:Nat))) rfl (aa (z:=.bool true) rfl (aa (z:=.bool false) rfl (aa (z:=false) rfl ?_))))))))))
   rw[if_neg (by decide)]
   exact aa Ft (aa (z:=.st [ac ⟨v.x/(be v:Nat),0,0⟩,I 0]) rfl (aa (aq Ke) rfl))
  ·refine aa ah (aa ab (az (by decide) (aa Fu (aa (z:=ag v.y) rfl (aa z2 (aa s2 (aa (z:=I (v.y/(be v:Nat))) rfl (aa (z:=.bool true) rfl (aa (z:=.bool false) rfl (aa (z:=false) rfl ?_))))))))))
   rw[if_neg (by decide)]
   exact aa Fu (aa (z:=.st [ac ⟨v.x/(be v:Nat),v.y/(be v:Nat),0⟩,I 0]) rfl (aa (aq rq) rfl))
  ·refine aa ah (aa ab (az (by decide) (aa Fv (aa (z:=ag v.z) rfl (aa z3 (aa s3 (aa (z:=I (v.z/(be v:Nat))) rfl (aa (z:=.bool true) rfl (aa (z:=.bool false) rfl (aa (z:=false) rfl ?_))))))))))
   rw[if_neg (by decide)]
   exact aa Fv (aa (z:=.st [ac ⟨v.x/(be v:Nat),v.y/(be v:Nat),v.z/(be v:Nat)⟩,I 0]) rfl (aa (aq Kf) rfl))
  ·rw[if_neg (show ¬ (1:Nat)=0 by decide)]
   refine aa (z:=ac (aE v)) rfl (aa (Tt (n+3) (v:=aE v) ?_) (aa (z:=.bool false) rfl (aa (z:=false) rfl rfl)));simp only[bd] at bp ⊢;omega
def Tm(n:Nat){v:V}(hv:bd 549755813888 v):∃ e:Int,cA (n+5) 155 [fF v]=some (.st [ac (aE v),I e]):=
 ⟨_,M5 n (by simp only[bd] at *;omega)⟩
def Ta(n:Nat){a b c:V}(ha:bd MV a)(hb:bd MV b)(hc:bd MV c):cA (n+6) 106 [ac a,ac b,ac c]=some (ac (aE (V.cross (b.sub a) (c.sub a)))):=by
 rw[Un]
 delta G1 qG
 have h1:bd 524288 (b.sub a):=by have:=ji hb ha;simpa [MV] using this
 have h2:bd 524288 (c.sub a):=by have:=ji hc ha;simpa [MV] using this
 have h3:=gX h1 h2;refine aa (CL (n+4) hb ha (by decide)) (aa (CL (n+4) hc ha (by decide)) (aa (MX (n+4) h1 h2 (by decide)) ?_))
 have h4:bd 549755813888 (V.cross (b.sub a) (c.sub a)):=h3;generalize V.cross (b.sub a) (c.sub a)=m at *;obtain⟨e,he⟩:=Tm n h4;refine aa (TY (n+1) ?_ ?_ ?_) (aa he rfl)
 ·have:=h4.1;simp only[Sy.inR];omega
 ·have:=h4.2.1;simp only[Sy.inR];omega
 ·have:=h4.2.2;simp only[Sy.inR];omega
end Sy
end
noncomputable section
namespace Sy
open Go Go.Proofs Geo
theorem nU:∀ {l:List Nat} {j v:Nat},j<l.length->aZ (l.set j v)+65536^j*l.getD j 0=aZ l+65536^j*v
 | d::l,0,v,_=>by simp only[List.set_cons_zero,aZ,zqc,zyc,List.getD_cons_zero];omega
 | d::l,j+1,v,h=>by
  have ih:=nU (l:=l) (j:=j) (v:=v) (by simpa using h)
  simp only[List.set_cons_succ,aZ,zjb,List.getD_cons_succ];rw[zBa (65536^j) 65536,zXa,zXa];generalize 65536^j*l.getD j 0=x at *;generalize 65536^j*v=y at *;omega
def pj(l:List Nat)(j v:Nat):(ae l).set j (I (v:Int))=ae (l.set j v):=by simp[ae,List.map_set]
def kY(l:List Nat)(j v i:Nat)(h:j<l.length):(l.set j v).getD i 0=if i=j then v else l.getD i 0:=by
 by_cases e:i=j
 ·subst e;simp[List.getD,h]
 ·simp[List.getD,e,List.getElem?_set,show ¬ j=i from λk=>e k.symm]
def uQ(m:Nat):List.replicate m (D.int .i64 0)=ae (List.replicate m 0):=by simp[ae]
def mN{a b:Nat}(h:a*b<=9223372036854775807):D.bin .mul (I (a:Int)) (I (b:Int))=some (I ((a*b:Nat):Int)):=by
 rw[ca (by simp only[inR];rw[<-zVa];omega),zVa]
def a8{a b:Nat}(h:a+b<=9223372036854775807):D.bin .add (I (a:Int)) (I (b:Int))=some (I ((a+b:Nat):Int)):=by
 rw[aq (by simp only[inR];omega),z6c]
def Cb(a:Nat):D.natOf (I (a:Int))=some a:=by simp[D.natOf]
def yC{l:List Nat}{i:Nat}(h:i<l.length):D.idx (I (i:Int)) (ae l).length=some i:=by rw[ai];exact ap h
def J9{l:List Nat}(h:∀ i,i<l.length->l.getD i 0<65536):dl l:=λd hd=>by
 obtain⟨i,hi,rfl⟩:=zRa hd;have:=h i hi;simpa [List.getD,hi] using this
def KK(n:Nat){a b:List Nat}(ha:dl a)(hb:dl b)(hla:a.length<=400000)(hlb:b.length<=400000):cA (n+2) 146 [.sl (ae a),.sl (ae b)]=some (.sl (ae (aw (aZ a*aZ b)))):=by
 rw[UT]
 delta Hw qB qC qS qX qL qV qW qZ iL iR Jn
 obtain⟨M,hM⟩:∃ M,M=a.length+b.length+1:=⟨_,rfl⟩;refine aa (z:=ae a) rfl (aa (z:=ae b) rfl (aa (z:=I ((a.length+b.length:Nat):Int)) (by rw[ai,ai];exact a8 (by omega)) (aa (z:=I (M:Int)) (by rw[hM];exact a8 (b:=1) (by omega)) (aa (Cb M) ?_))))
 rw[if_pos (by omega),uQ]
 refine bk (λi s=>∃ out:List Nat,s=[I (i:Int),.sl (ae out)]/\out.length=M/\dl out/\aZ out=vt a i*aZ b) a.length 0 (zma _) ⟨List.replicate M 0,rfl,by simp,λx hx=>by rw[zhd hx];decide,by have:=mS [] M;rw[z2b] at this;rw[this];simp[vt,aZ]⟩ (λi hi s hJ=>?_) (λs hJ=>?_)
 ·obtain⟨out,rfl,ho,hdo,hv⟩:=hJ;left;have hai:=ha.getD i;obtain⟨r,h1,out1,rfl,o1,o2,o3⟩:=BY (body:=λ(v10:List D)=>
   Option.bind (D.asSl (.sl (ae b))) λl11=>
   Option.bind (D.bin .lss (gx v10 0) (D.int .i64 (List.length l11))) λx12=>
   Option.bind (D.truth x12) λb13=>
   if b13 then(Option.bind (D.bin .add (I (i:Int)) (gx v10 0)) λx14=>
   Option.bind (D.bin .add (I (i:Int)) (gx v10 0)) λx15=>
   Option.bind (D.idx x15 (List.length (D.els (gx v10 1)))) λi16=>
   Option.bind ((D.els (gx v10 1))[i16]?) λx17=>
   Option.bind (D.asSl (.sl (ae a))) λl18=>
   Option.bind (D.idx (I (i:Int)) (List.length l18)) λi19=>
   Option.bind (l18[i19]?) λx20=>
   Option.bind (D.asSl (.sl (ae b))) λl21=>
   Option.bind (D.idx (gx v10 0) (List.length l21)) λi22=>
   Option.bind (l21[i22]?) λx23=>
   Option.bind (D.bin .mul x20 x23) λx24=>
   Option.bind (D.bin .add x17 x24) λx25=>
   Option.bind (D.idx x14 (List.length (D.els (gx v10 1)))) λi26=>
   Option.bind ((D.els (gx v10 1))[i26]?) λx27=>
   Option.bind (D.bin .add (gx v10 0) (D.int .i64 1)) λx28=>
   some (Sum.inl [x28,(D.sl (List.set (D.els (gx v10 1)) i26 x25))])) else(some (Sum.inr (0,[(D.sl (D.els (gx v10 1)))]))))
   (s0:=[I 0,.sl (ae out)])
   (λk s=>∃ o:List Nat,s=[I (k:Int),.sl (ae o)]/\o.length=M/\(∀ j,j<M->o.getD j 0<=4295032831/\(i+k<=j->o.getD j 0<65536))/\aZ o=aZ out+65536^i*(a.getD i 0*vt b k))
   (λr=>∃ o:List Nat,r=(0,[.sl (ae o)])/\o.length=M/\(∀ j,j<M->o.getD j 0<=4295032831)/\aZ o=aZ out+65536^i*(a.getD i 0*aZ b)) b.length 0 (zma _)
   ⟨out,rfl,ho,λj _=>by have:=hdo.getD j;omega,by simp[vt]⟩ (λk hk s hJ=>by
    obtain⟨o,rfl,o1,o2,o3⟩:=hJ;left;have hbk:=hb.getD k;have hik:i+k<o.length:=by omega
    have hp:a.getD i 0*b.getD k 0<=65535*65535:=z2a (by omega) (by omega)
    have hx:=(o2 (i+k) (by omega)).2 (zha _)
    refine⟨[I ((k+1:Nat):Int),.sl (ae (o.set (i+k) (o.getD (i+k) 0+a.getD i 0*b.getD k 0)))],?_,_,rfl,by simpa using o1,λj hj=>?_,?_⟩
    ·refine aa (z:=ae b) rfl (aa ah (aa ab (az (by show(k:Int)<((ae b).length:Int);rw[ai];omega) ?_)))
     refine aa (a8 (a:=i) (b:=k) (by omega)) (aa (a8 (a:=i) (b:=k) (by omega)) (aa (yC hik) (aa (cP hik) ?_)))
     refine aa (z:=ae a) rfl (aa (yC hi) (aa (cP hi) (aa (z:=ae b) rfl (aa (yC hk) (aa (cP hk) ?_)))));refine aa (mN (by omega)) (aa (a8 (by omega)) (aa (yC hik) (aa (cP hik) (aa (aq (au (i:=k) (by omega))) ?_))))
     show some (Sum.inl [_,D.sl (List.set (ae o) (i+k) _)])=_;rw[pj];rfl
    ·rw[kY _ _ _ _ hik];have:=o2 j hj;split
     ·omega
     ·omega
    ·have e:=nU (l:=o) (j:=i+k) (v:=o.getD (i+k) 0+a.getD i 0*b.getD k 0) hik;rw[vt,zPb,zPb];have e2:65536^i*(a.getD i 0*(b.getD k 0*65536^k))=65536^(i+k)*(a.getD i 0*b.getD k 0):=by
      rw[zhb,<-zXa (a.getD i 0),zBa (a.getD i 0*b.getD k 0),zXa]
     rw[zPb] at e;omega) (λs hJ=>by
    obtain⟨o,rfl,o1,o2,o3⟩:=hJ;rw[lH] at o3;exact⟨_,aa (z:=ae b) rfl (aa ah (aa ab (aG (by show ¬ ((b.length:Int)<((ae b).length:Int));rw[ai];omega) rfl))),o,rfl,o1,λj hj=>(o2 j hj).1,o3⟩)
  obtain⟨r2,h2,out2,rfl,p1,p2,p3⟩:=BY (body:=λ(v30:List D)=>
   Option.bind (D.bin .lss (gx v30 1) (D.int .i64 (List.length (D.els (gx v30 2))))) λx31=>
   Option.bind (D.truth x31) λb32=>
   if b32 then(Option.bind (D.idx (gx v30 1) (List.length (D.els (gx v30 2)))) λi33=>
   Option.bind ((D.els (gx v30 2))[i33]?) λx34=>
   Option.bind (D.bin .add x34 (gx v30 0)) λx35=>
   Option.bind (D.bin .rem x35 (D.int .i64 65536)) λx36=>
   Option.bind (D.idx (gx v30 1) (List.length (D.els (gx v30 2)))) λi37=>
   Option.bind ((D.els (gx v30 2))[i37]?) λx38=>
   Option.bind (D.bin .quo x35 (D.int .i64 65536)) λx39=>
   Option.bind (D.bin .add (gx v30 1) (D.int .i64 1)) λx40=>
   some (Sum.inl [x39,x40,(D.sl (List.set (D.els (gx v30 2)) i37 x36))])) else(some (Sum.inr (0,[(D.sl (D.els (gx v30 2)))]))))
   (s0:=[I 0,I 0,.sl (ae out1)])
   (λk s=>∃ (o:List Nat) (c:Nat),s=[I (c:Int),I (k:Int),.sl (ae o)]/\o.length=M/\(∀ j,j<k->o.getD j 0<65536)/\(∀ j,k<=j->o.getD j 0=out1.getD j 0)/\c<=131072/\aZ o+65536^k*c=aZ out1)
   (λr=>∃ o:List Nat,r=(0,[.sl (ae o)])/\o.length=M/\dl o/\∃ c,aZ o+65536^M*c=aZ out1) M 0 (zma _)
   ⟨out1,0,rfl,o1,λj hj=>absurd hj (Nat.not_lt_zero _),λj _=>rfl,by omega,by simp⟩ (λk hk s hJ=>by
    obtain⟨o,c,rfl,q1,q2,q3,q4,q5⟩:=hJ;left;have hko:k<o.length:=by omega
    have hx:=o2 k hk;have hq:=q3 k (zha _);refine⟨[I (((o.getD k 0+c)/65536:Nat):Int),I ((k+1:Nat):Int),.sl (ae (o.set k ((o.getD k 0+c)%65536)))],?_,_,_,rfl,by simpa using q1,λj hj=>?_,λj hj=>?_,by omega,?_⟩
    ·refine aa ah (aa ab (az (by show(k:Int)<((ae o).length:Int);rw[ai];omega) ?_))
     refine aa (yC hko) (aa (cP hko) (aa (a8 (by omega)) (aa (kN (b:=65536) (by decide)) (aa (yC hko) (aa (cP hko) (aa (jh (b:=65536) (by decide) (by omega)) (aa (aq (au (i:=k) (by omega))) ?_)))))))
     show some (Sum.inl [_,_,D.sl (List.set (ae o) k _)])=_;rw[pj];rfl
    ·rw[kY _ _ _ _ hko];split
     ·omega
     ·exact q2 j (by omega)
    ·rw[kY _ _ _ _ hko,if_neg (by omega)];exact q3 j (by omega)
    ·have e:=nU (l:=o) (j:=k) (v:=(o.getD k 0+c)%65536) hko;have e2:o.getD k 0+c=(o.getD k 0+c)%65536+65536*((o.getD k 0+c)/65536):=by omega
     have e3:65536^k*(o.getD k 0+c)=65536^k*((o.getD k 0+c)%65536)+65536^k*(65536*((o.getD k 0+c)/65536)):=by rw[<-zPb,<-e2]
     rw[zPb] at e3;rw[zjb,zXa];omega) (λs hJ=>by
    obtain⟨o,c,rfl,q1,q2,q3,q4,q5⟩:=hJ;exact⟨_,aa ah (aa ab (aG (by show ¬ ((M:Int)<((ae o).length:Int));rw[ai];omega) rfl)),o,rfl,q1,J9 λj hj=>q2 j (by omega),c,q5⟩)
  obtain⟨c,p4⟩:=p3;refine⟨[I ((i+1:Nat):Int),.sl (ae out2)],?_,out2,rfl,p1,p2,?_⟩
  ·refine aa (z:=ae a) rfl (aa ah (aa ab (az (by show(i:Int)<((ae a).length:Int);rw[ai];omega) ?_)))
   refine aa h1 (aa h2 ?_);exact aa (aq (au (i:=i) (by omega))) rfl
  ·have hval:aZ out1=vt a (i+1)*aZ b:=by
    rw[o3,hv,vt,zYa,zBa (a.getD i 0) (65536^i),zXa]
   have hlt:vt a (i+1)*aZ b<65536^M:=by
    have l1:=tS ha (i+1);have l2:=j7 hb;have l3:vt a (i+1)*aZ b<65536^(i+1)*65536^b.length:=zMc l1 l2;have l4:65536^(i+1)*65536^b.length<=65536^M:=by rw[<-zhb];exact zsa (by decide) (by omega)
    omega
   have hc:c=0:=by
    rcases ztb c with h|h
    ·exact h
    ·have:65536^M*1<=65536^M*c:=zZa _ h;omega
   subst hc;rw[<-hval,<-p4];simp
 ·obtain⟨out,rfl,ho,hdo,hv⟩:=hJ;refine⟨(0,[.sl (ae out)]),aa (z:=ae a) rfl (aa ah (aa ab (aG (by show ¬ ((a.length:Int)<((ae a).length:Int));rw[ai];omega) rfl))),?_⟩
  refine aa (xV n (l:=out) (by omega)) ?_
  rw[gt hdo,hv,lH]
def M4(n:Nat)(x:Int):cA (n+1) 145 [I x]=some (.bool (decide (x<2147483648)&&decide (x>-2147483648))):=by
 rw[US]
 delta Hv qB qC Jn
 refine aa ah (aa ab ?_);cases h:decide (x<2147483648)
 ·rfl
 ·rw[if_pos rfl];exact aa (aa cV rfl) rfl
def xt(x y:Int):sgn (!(decide (decide (x<0)=decide (y<0)))) (x.natAbs*y.natAbs)=x*y:=by
 unfold sgn;rw[<-zLa];by_cases hx:x<0<;>by_cases hy:y<0
 ·have:=zYb hx hy;simp[hx,hy];omega
 ·have:=Int.mul_nonpos_of_nonpos_of_nonneg (zMa hx) (z6b.1 hy);simp[hx,hy];omega
 ·have:=Int.mul_nonpos_of_nonneg_of_nonpos (z6b.1 hx) (zMa hy);simp[hx,hy];omega
 ·have:=zRb (z6b.1 hx) (z6b.1 hy);simp[hx,hy];omega
def X7(n:Nat){x y:Int}(hx:Wd x)(hy:Wd y):cA (n+4) 89 [ag x,ag y]=some (ag (x*y)):=by
 rw[VI]
 delta L6 qG qB qT qN
 refine aa (rQ n hx) (aa (z:=I x) rfl (aa (z:=.bool true) rfl (aa (rQ n hy) (aa (z:=I y) rfl (aa (z:=.bool true) rfl (aa (z:=true) rfl (aa (z:=true) rfl (aa (z:=true) rfl ?_))))))));refine aa (z:=(decide (x<2147483648)&&decide (x>-2147483648))) (by rw[if_pos rfl];exact aa (M4 (n+2) x) rfl) (aa ab ?_)
 refine aa (z:=((decide (x<2147483648)&&decide (x>-2147483648))&&(decide (y<2147483648)&&decide (y>-2147483648)))) (by
  cases (decide (x<2147483648)&&decide (x>-2147483648))
  ·rfl
  ·rw[if_pos rfl];exact aa (M4 (n+2) y) rfl) (aa ab ?_)
 cases hb:((decide (x<2147483648)&&decide (x>-2147483648))&&(decide (y<2147483648)&&decide (y>-2147483648)))
 ·rw[if_neg (by decide)]
  refine aa (rR (n+1) hx.In) (aa aP (aa ab (aa (z:=false) ?_ (aa ab ?_))))
  ·rw[if_neg (by decide)];exact aa (rR (n+1) hy.In) rfl
  ·rw[if_neg (by decide)]
   have lx:=bB 32 _ hx.In;have ly:=bB 32 _ hy.In;refine aa (z:=.bool (decide (x<0))) rfl (aa (z:=.bool (decide (y<0))) rfl (aa (zS (n+1) hx.In) (aa (zS (n+1) hy.In) (aa (KK (n+1) (aW _) (aW _) (by omega) (by omega)) (aa (z:=ag (x*y)) ?_ rfl)))))
   rw[ao,ao];have hxy:x.natAbs*y.natAbs<65536^8:=by
    have e:(65536:Nat)^8=18446744073709551616*18446744073709551616:=by decide
    rw[e];unfold Wd at hx hy;exact zMc (by omega) (by omega)
   have l8:=bB 8 _ hxy;have h32:x.natAbs*y.natAbs<65536^32:=zOa hxy (zsa (by decide) (by decide))
   have:=J7 (n+1) (l:=aw (x.natAbs*y.natAbs)) (neg:=!(decide (decide (x<0)=decide (y<0)))) (aW _) (by omega) (by rw[ao];exact h32)
   rw[ao,xt] at this;rw[<-this];congr 4
 ·rw[if_pos rfl];simp only[zaa,decide_eq_true_eq] at hb;have:=gm (A:=2147483648) (B:=2147483648) (a:=x) (b:=y) (by omega) (by omega)
  have hr:inR (x*y):=by simp only[inR];omega
  exact aa (ca hr) (aa (Bx n hr) rfl)
def X2(n:Nat){x y:Int}(hx:Wd x)(hy:Wd y):cA (n+4) 59 [ag x,ag y]=some (ag (x+y)):=by
 rw[VG]
 delta L4 qG qB qT qN
 refine aa (rQ n hx) (aa (z:=I x) rfl (aa (z:=.bool true) rfl (aa (rQ n hy) (aa (z:=I y) rfl (aa (z:=.bool true) rfl (aa (z:=true) rfl (aa (z:=true) rfl (aa (z:=true) rfl ?_))))))));rw[if_pos rfl];have hr:inR (x+y):=by unfold Wd at hx hy;simp only[inR];omega
 exact aa (aq hr) (aa (Bx n hr) rfl)
end Sy
end
end Go.Proofs.YtphlmegkommlnaaGreatDoor
