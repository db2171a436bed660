/- Part 18 of the proof that PlaneNoPointOnBothSides answers true at every input -/
import Derived.Test.YtphlmegkommlnaaGreatDoorNopo01
import Derived.Test.YtphlmegkommlnaaGreatDoorNopo17
set_option linter.unusedVariables false
set_option linter.unusedSimpArgs false
set_option linter.unnecessarySimpa false
set_option linter.defProp false
set_option maxRecDepth 20000
namespace Go.Proofs.YtphlmegkommlnaaGreatDoor
noncomputable section
namespace Sy
open Go Go.Proofs Geo
def ag(L:List Nat):List D:=L.map λ(k:Nat)=>I (k:Int)
def ao(L:List Nat):(ag L).length=L.length:=zsa ..
def xf{L:List Nat}{t k:Nat}(h:L[t]?=some k):(ag L)[t]?=some (I (k:Int)):=by simp[ag,h]
def D9{n:Nat}(h:0<n):D.idx (D.int .i64 0) n=some 0:=ap (i:=0) h
theorem uO{m:V}{P:Nat->V}{a:Nat}:∀ (L:List Nat) (best:Option Nat) (b:Nat),L.foldl (dD m P a) best=some b->b∈L\/best=some b
 | [],best,b,h=>.inr h
 | k::L,best,b,h=>by
  rw[zxc] at h;rcases uO L _ b h with h1|h1
  ·exact .inl (zia _ h1)
  ·unfold dD at h1;split at h1
   ·exact .inr h1
   ·split at h1
    ·cases h1;exact .inl zoa
    ·split at h1<;>cases h1
     ·exact .inl zoa
     ·exact .inr rfl
theorem ul{body:Bd}{S:Nat->Nat->Prop}{a:Nat}{G:Nat->Prop}(g:∀ c b,G c->S c b->b≠a->G b)
  (d:∀ (c b:Nat) (out:List Nat),G c->c≠a->S c b->out.length<=1000->body [.sl (ag out),I (c:Int)]=some (.inl [.sl (ag (out++[c])),I (b:Int)]))
  (e:∀ out:List Nat,body [.sl (ag out),I (a:Int)]=some (.inr (0,[.sl (ag out)]))) :
  ∀ {c:Nat} {p:List Nat},Chain S a c p->G c->c≠a->∀ out:List Nat,(out++p).length<=1000->aS body [.sl (ag out),I (c:Int)]=some (0,[.sl (ag (out++p))])
 | c,_,.done s,hc,f,out,hl=>by
  have h1:=d c a out hc f s (by simp at hl;omega)
  rw[show aS body [.sl (ag out),I (c:Int)]=aS body [.sl (ag (out++[c])),I (a:Int)] from c8 h1];exact cU (e _)
 | c,_,.step (y:=y) (l:=p) s hy k,hc,f,out,hl=>by
  have h1:=d c y out hc f s (by simp at hl;omega)
  rw[show aS body [.sl (ag out),I (c:Int)]=aS body [.sl (ag (out++[c])),I (y:Int)] from c8 h1];have:=ul g d e k (g c y hc s hy) hy (out++[c]) (by simpa using hl)
  rw[this];simp
def kJ{P:Nat->V}{i:Nat}{m:V}{d:Int}:bo P (i+1) m d=if V.dot m (P i)=d then bo P i m d++[i] else bo P i m d:=by
 unfold bo;rw[z5b,List.filter_append];by_cases h:V.dot m (P i)=d
 ·simp[h]
 ·simp[h]
def p46(n:Nat){l:List V}(hl:∀ x∈l,bd MV x)(hlen:l.length<=100)(hs:∀ i j,i<j->j<l.length->aD (pt l i) (pt l j)){m:V}{d:Int}(U:IsF (pt l) l.length m d)(hm:bd 549755813888 m) :
  ∃ p,bH (pt l) l.length m d p/\cA (n+5) 46 [bc l,cD (m,d)]=some (.sl (ag p)):=by
 obtain⟨p,hp,ak,B⟩:=U.poly hs;refine⟨p,hp,?_⟩;have F:=U.flat hs;obtain⟨a,q,E,P,L,h3⟩:=U.head hs;obtain⟨a',w,M⟩:=hp;rw[q] at w;cases w;obtain⟨on,u⟩:∃ on,bo (pt l) l.length m d=on:=⟨_,rfl⟩;rw[u] at F q E P L h3 M B;have J:∀ k∈on,k<l.length:=λk hk=>by rw[<-u] at hk;exact(az.1 hk).1
 have O:∀ k∈on,V.dot m (pt l k)=d:=λk hk=>by rw[<-u] at hk;exact(az.1 hk).2
 have hw:∀ b∈on,∀ k∈on,V.dot m (wy (pt l) b k)=0:=λb A k hk=>by rw[bX,O b A,O k hk];omega
 have ax:on.length<=100:=by
  rw[<-u];unfold bo;exact zEa (zKc _ _) (by rw[zub];exact hlen)
 have a0:p.length<=on.length:=zWb ak λz hz=>((B z).1 hz).1;have ll:(l.map ac).length=l.length:=zsa ..;have r:=λ(c k:Nat) (hc:c∈on) (hk:k∈on) (best:Option Nat) (A:∀ b,best=some b->b∈on) (X:D)=>OJ n hl (d:=d) U.nz.1 (J c hc) (J k hk) (best:=best) (λb e=>⟨J b (A b e),hw c hc b (A b e)⟩) (hw c hc k hk) X;have Q:∀ c∈on,Geo.ml (pt l) on c->∃ b,on.foldl (dD m (pt l) c) none=some b/\Side m (pt l) on c b:=λc hc ec=>xV F hc ec (h3 c hc);obtain⟨t0,C⟩:∃ t0,on=a::t0:=by
  cases hx:on with
  | nil=>rw[hx] at E;simp at E
  | cons y t0=>rw[hx] at q;simp at q;subst q;exact⟨t0,rfl⟩
 have f:(ag on)[0]?=some (I (a:Int)):=by rw[C];rfl
 have g:0<(ag on).length:=by rw[ao,C];simp
 rw[u46]
 delta RZ qG qB qC qT qS qX qV qW qZ iL iR Jn
 refine aa (z:=l.map ac) rfl ?_;refine bF (λi s=>s=[I (i:Int),.sl (ag (bo (pt l) i m d))]) l.length 0 (zja _) rfl (λi hi s o=>?_) (λs o=>?_)
 ·subst o;left;refine⟨_,?_,rfl⟩;refine aa af (aa ab ?_);refine aB (by show((i:Int)<((l.map ac).length:Int));rw[ll];omega) ?_
  refine aa (z:=(0,[.sl (ag (bo (pt l) (i+1) m d))])) ?_ (aa (aw (ay (i:=i) (by omega))) rfl)
  refine aa (z:=l.map ac) rfl (aa (z:=i) (by rw[ll];exact ap hi) (aa (dN hi) (aa (z:=ac m) rfl (aa (Hh (n+3) hm (hl _ (cV hi)) (by decide)) (aa (z:=I d) rfl ?_)))))
  rw[bR];refine aa ab ?_;rw[kJ];by_cases hd:V.dot m (pt l i)=d
  ·have H:V.dot m (l.getD i V.zero)=d:=hd;rw[if_pos hd,O9 H,if_pos ?_]
   ·simp[g1,D.els,ag,g0]
   ·have:(bo (pt l) i m d).length<=i:=by unfold bo;exact zEa (zKc _ _) (by simp)
    simp only[g0,g1,D.els,ao,zKa,zyb];omega
  ·have H:¬ V.dot m (l.getD i V.zero)=d:=hd;rw[if_neg hd,Pa H];rfl
 ·subst o;refine⟨(0,[.sl (ag on)]),?_,?_⟩
  ·refine aa af (aa ab ?_);rw[<-u];exact aC (by show ¬ ((l.length:Int)<((l.map ac).length:Int));rw[ll];omega) rfl
  refine aa (D9 g) (aa f (aa (D9 g) (aa f ?_)));obtain⟨Y,ai,K⟩:=Q a E P;refine bF (λt s=>s=[j9 ((on.take t).foldl (dD m (pt l) a) none),.sl (ag on),I (t:Int),.sl (ag on)]) on.length 0 (zja _) rfl (λt v s o=>?_) (λs o=>?_)
  ·subst o;left;refine⟨_,?_,rfl⟩;refine aa af (aa ab ?_);refine aB (by show((t:Int)<((ag on).length:Int));rw[ao];omega) ?_
   have hk:on[t]?=some on[t]:=zca v;refine aa (z:=(0,[j9 ((on.take (t+1)).foldl (dD m (pt l) a) none),.sl (ag on)])) ?_ (aa (aw (ay (i:=t) (by omega))) rfl)
   refine aa (z:=ag on) rfl (aa (z:=t) (by rw[ao];exact ap v) (aa (xf hk) ?_))
   rw[zAa v,List.foldl_append,zxc,List.foldl_nil];exact r a on[t] E (zza v) _ (λb A=>by
    rcases uO _ _ b A with h|h
    ·exact zJa h
    ·cases h) (.sl (ag on))
  ·subst o;rw[zfb,ai];refine⟨(0,[I (Y:Int),.sl (ag on)]),?_,?_⟩
   ·refine aa af (aa ab ?_);refine aC (by show ¬ ((on.length:Int)<((ag on).length:Int));rw[ao];omega) ?_
    rfl
   obtain⟨W,R,N,hy⟩:∃ W,p=a::W/\Chain (Side m (pt l) on) a Y W/\Y≠a:=by
    cases M with
    | done s=>exact absurd rfl s.ne
    | step s al k=>
     have:=Side.unique F E s K;subst this;exact⟨_,rfl,k,al⟩
   refine oW (ul (S:=Side m (pt l) on) (a:=a) (G:=λc=>c∈on/\Geo.ml (pt l) on c) (λc b hc s _=>⟨s.mem,s.ext F hc.1⟩) (λc b out hc aj an aI=>?_) (λout=>?_) N ⟨K.mem,K.ext F E⟩ hy [a] ?_) ?_
   ·obtain⟨b',ad,T⟩:=Q c hc.1 hc.2;have:=Side.unique F hc.1 an T;subst this;refine aa (z:=ag on) rfl (aa (D9 g) (aa f ?_));have Z:D.beq (I (c:Int)) (I (a:Int))=false:=by rw[cO];simp[aj]
    refine aa (z:=true) (by show D.truth (D.bool (!(D.beq (I (c:Int)) (I (a:Int)))))=_;rw[Z];rfl) ?_
    rw[if_pos rfl,if_pos (by simp only[g0,D.els,ao,zKa,zyb];omega)]
    refine aa (z:=ag on) rfl ?_;refine cn (λt s=>s=[j9 ((on.take t).foldl (dD m (pt l) c) none),I (t:Int)]) on.length 0 (zja _) rfl (λt v s o=>?_) (λs o=>?_)
    ·subst o;left;refine⟨_,?_,rfl⟩;refine aa af (aa ab ?_);refine aB (by show((t:Int)<((ag on).length:Int));rw[ao];omega) ?_
     have hk:on[t]?=some on[t]:=zca v;refine aa (z:=(0,[j9 ((on.take (t+1)).foldl (dD m (pt l) c) none),.sl (ag on)])) ?_ (aa (aw (ay (i:=t) (by omega))) rfl)
     refine aa (z:=ag on) rfl (aa (z:=t) (by rw[ao];exact ap v) (aa (xf hk) ?_))
     rw[zAa v,List.foldl_append,zxc,List.foldl_nil];exact r c on[t] hc.1 (zza v) _ (λb A=>by
      rcases uO _ _ b A with h|h
      ·exact zJa h
      ·cases h) (.sl (ag on))
    ·subst o;rw[zfb,ad];refine⟨(0,[I (b:Int)]),?_,?_⟩
     ·refine aa af (aa ab ?_);refine aC (by show ¬ ((on.length:Int)<((ag on).length:Int));rw[ao];omega) ?_
      rfl
     ·simp[g0,g1,D.els,ag]
   ·refine aa (z:=ag on) rfl (aa (D9 g) (aa f ?_));have Z:D.beq (I (a:Int)) (I (a:Int))=true:=by rw[cO];simp
    refine aa (z:=false) (by show D.truth (D.bool (!(D.beq (I (a:Int)) (I (a:Int)))))=_;rw[Z];rfl) ?_
    rfl
   ·have:([a]++W).length=p.length:=by rw[R];rfl
    omega
   ·rw[R];rfl
end Sy
end
noncomputable section
namespace Sy
open Go Go.Proofs Geo
def nV(q:V×Int)(p:List Nat):D:=.st [ac q.1,I q.2,.sl (ag p)]
def bZ(l:List V):D:=.st [bc l]
def G6(l:List V):Prop:=∀ i j,i<j->j<l.length->aD (pt l i) (pt l j)
def O8{l:List V}(hl:∀ x∈l,bd MV x){m:V}{d:Int}(h:IsF (pt l) l.length m d):bd 549755813888 m:=by
 obtain⟨i,j,k,h1,f,b,g,c,n⟩:=h.ex;have a:=hl _ (cV (show i<l.length by omega))
 have e:=hl _ (cV (show j<l.length by omega))
 have hk:=hl _ (cV b);have:=fk (jg (oo (P:=pt l) a e) (oo (P:=pt l) a hk));rcases c with rfl|rfl
 ·exact this
 ·exact q8 this
def p18(n:Nat){l:List V}(hl:∀ x∈l,bd MV x)(hlen:l.length<=100)(r:G6 l):∃ (L:List (V×Int)) (poly:V×Int->List Nat),Facets (pt l) l.length L/\(∀ q∈L,bH (pt l) l.length q.1 q.2 (poly q))/\L.length<=2000000 ∧
  cA (n+7) 18 [bZ l]=some (.sl (L.map λq=>nV q (poly q))):=by
 obtain⟨y,h1,K,L,g,j,m,rfl⟩:=p45 n hl hlen;have b:=g.facets j m;have e:L.length<=2000000:=by rw[j.length_eq];exact g.len hlen
 have hex:∀ q:V×Int,∃ p,q∈L->bH (pt l) l.length q.1 q.2 p/\cA (n+6) 46 [bc l,cD q]=some (.sl (ag p)):=λq=>by
  by_cases hq:q∈L
  ·have k:=(b.mem q).1 hq;obtain⟨p,t,u⟩:=p46 (n+1) hl hlen r k (O8 hl k);exact⟨p,λ_=>⟨t,u⟩⟩
  ·exact⟨[],λh=>absurd h hq⟩
 obtain⟨poly,a⟩:∃ poly:V×Int->List Nat,∀ q∈L,bH (pt l) l.length q.1 q.2 (poly q)/\cA (n+6) 46 [bc l,cD q]=some (.sl (ag (poly q))):=⟨λq=>Classical.choose (hex q),λq hq=>Classical.choose_spec (hex q) hq⟩;refine⟨L,poly,b,λq hq=>(a q hq).1,e,?_⟩;have hp:=λq (hq:q∈L)=>(a q hq).2;rw[u18]
 delta RS qG qB qC qS qX qV qW qZ iL iR Jn
 refine aa (z:=bc l) rfl (aa h1 (aa (z:=L.map cD) rfl ?_));have f:(L.map cD).length=L.length:=zsa ..;refine bF (λi s=>s=[.sl ((L.take i).map λq=>nV q (poly q)),I (i:Int)]) L.length 0 (zja _) rfl (λi c s d=>?_) (λs d=>?_)
 ·subst d;left;refine⟨_,?_,rfl⟩;refine aa af (aa ab (aB (by show((i:Int)<((L.map cD).length:Int));rw[f];omega) ?_))
  have o:(L.map cD)[i]?=some (cD L[i]):=by simp[c]
  refine aa (z:=L.map cD) rfl (aa (z:=i) (by rw[f];exact ap c) (aa o ?_))
  refine aa (z:=ac L[i].1) rfl (aa (z:=I L[i].2) rfl (aa (z:=bc l) rfl (aa (hp L[i] (zza c)) ?_)));rw[if_pos (by simp only[g0,D.els,zsa,zgb,zKa,zyb];omega)]
  refine aa (aw (ay (i:=i) (by omega))) ?_
  rw[zAa c,zMb];rfl
 ·subst d;refine⟨(0,[.sl ((L.take L.length).map λq=>nV q (poly q))]),?_,?_⟩
  ·refine aa af (aa ab (aC (by show ¬ ((L.length:Int)<((L.map cD).length:Int));rw[f];omega) rfl))
  ·rw[zfb];rfl
def du(e:Nat×Nat):D:=.st [I (e.1:Int),I (e.2:Int)]
def LV{a b:Nat×Nat}(h:Bu a b):qK [bq (a.1:Int) b.1,bq (a.2:Int) b.2]=-1:=by
 simp only[Bu] at h;rcases h with h|⟨h1,h⟩
 ·have:(a.1:Int)<b.1:=by omega
  simp[qK,bq,this]
 ·have e:(a.1:Int)=b.1:=by omega
  have:(a.2:Int)<b.2:=by omega
  simp[qK,bq,e,this]
def LU{a b:Nat×Nat}(h:Bu b a):qK [bq (a.1:Int) b.1,bq (a.2:Int) b.2]=1:=by
 simp only[Bu] at h;rcases h with h|⟨h1,h⟩
 ·have:(b.1:Int)<a.1:=by omega
  simp[qK,bq,this,zfc.2 (zva this)]
 ·have e:(a.1:Int)=b.1:=by omega
  have:(b.2:Int)<a.2:=by omega
  simp[qK,bq,e,this,zfc.2 (zva this)]
def HA(n:Nat)(p q:Nat×Nat):uo (dm aS (cA (n+3)) (jN aS (cA (n+3)))) (cw 51) (du p) (du q)=some (qK [bq (p.1:Int) q.1,bq (p.2:Int) q.2]):=by
 unfold uo;rw[show ∀ l,(dm aS (cA (n+3)) (jN aS (cA (n+3)))).call (cw 51) l=cA (n+3) 51 l from λl=>congrFun (congrArg (cA (n+3)) (show uj (cw 51)=51 by kernel_rfl)) l,show du p=.st [I (p.1:Int),I (p.2:Int)] from rfl,show du q=.st [I (q.1:Int),I (q.2:Int)] from rfl,c51]
 rfl
theorem Ny(n:Nat):∀ (L:List (Nat×Nat)),L.Pairwise Bu->tB (dm aS (cA (n+3)) (jN aS (cA (n+3)))) (cw 51) (L.map du)=true
 | [],_=>rfl
 | p::L,h=>by
  obtain⟨h1,a⟩:=zFa.1 h;simp only[z9a,tB,zaa,zma,zXa];refine⟨⟨?_,?_⟩,Ny n L a⟩
  ·simp only[GD,HA];simp[qK,bq]
  ·rintro _ ⟨q,hq,rfl⟩;simp only[rP,GD,HA,LV (h1 q hq),LU (h1 q hq)];decide
def MA{a b:Nat×Nat}(h:a≠b):Bu a b\/Bu b a:=by
 obtain⟨a1,a2⟩:=a;obtain⟨c,d⟩:=b;simp only[Bu];by_cases h1:a1=c<;>by_cases h2:a2=d
 ·subst h1;subst h2;exact absurd rfl h
 all_goals omega
theorem BQ:∀ (K:List (Nat×Nat)),K.Nodup->∃ L:List (Nat×Nat),L.Perm K/\L.Pairwise Bu
 | [],_=>⟨[],.refl _,.nil⟩
 | x::K,h=>by
  obtain⟨h1,d⟩:=List.nodup_cons.1 h;obtain⟨L,b,g⟩:=BQ K d;have ins:∀ L:List (Nat×Nat),L.Pairwise Bu->(∀ y∈L,x≠y)->∃ M:List (Nat×Nat),M.Perm (x::L)/\M.Pairwise Bu:=by
   intro L
   induction L with
   | nil=>intro _ _;exact⟨[x],.refl _,by simp⟩
   | cons y L ih=>
    intro hp hn;obtain⟨c,i⟩:=zFa.1 hp;rcases MA (hn y zoa) with k|k
    ·refine⟨x::y::L,.refl _,zFa.2 ⟨λz a=>?_,hp⟩⟩;rcases zwa.1 a with rfl|a
     ·exact k
     ·have:=c z a;simp only[Bu] at *;omega
    ·obtain⟨M,m1,m2⟩:=ih i (λz a=>hn z (zia _ a));refine⟨y::M,(m1.cons y).trans (.swap x y L),zFa.2 ⟨λz a=>?_,m2⟩⟩;rcases zwa.1 (m1.subset a) with rfl|a
     ·exact k
     ·exact c z a
  obtain⟨M,m1,m2⟩:=ins L g (λy f e=>h1 (b.subset (e ▸ f)));exact⟨M,m1.trans (b.cons x),m2⟩
def gK{p:List Nat}{k:Nat}(h:k<p.length):(ag p)[k]?=some (I (p.getD k 0:Nat)):=by simp[ag,List.getD,h]
def fM(p:List Nat)(k:Nat):List (Nat×Nat):=(List.range k).filterMap λk=>if p.getD k 0<p.getD ((k+1)%p.length) 0 then some (p.getD k 0,p.getD ((k+1)%p.length) 0) else none
def yV(p:List Nat)(k:Nat):fM p (k+1)=if p.getD k 0<p.getD ((k+1)%p.length) 0 then fM p k++[(p.getD k 0,p.getD ((k+1)%p.length) 0)] else fM p k:=by
 unfold fM;rw[z5b,List.filterMap_append];split
 ·rename_i h;simp only[List.filterMap_cons,List.filterMap_nil,if_pos h]
 ·rename_i h;simp only[List.filterMap_cons,List.filterMap_nil,if_neg h,zYb]
def sO(p:List Nat)(k:Nat):(fM p k).length<=k:=by
 unfold fM;exact zEa (List.length_filterMap_le _ _) (by simp)
def p21(n:Nat){l:List V}{L:List (V×Int)}{poly:V×Int->List Nat}(h18:cA (n+7) 18 [bZ l]=some (.sl (L.map λq=>nV q (poly q))))(hL:L.length<=2000000)(hp:∀ q∈L,(poly q).length<=100/\0<(poly q).length)
  (h:(de L poly).Nodup):∃ E:List (Nat×Nat),E.Perm (de L poly)/\E.Pairwise Bu/\cA (n+8) 21 [bZ l]=some (.sl (E.map du)):=by
 obtain⟨E,o,r⟩:=BQ _ h;refine⟨E,o,r,?_⟩;rw[u21];unfold PH;refine aa h18 (aa (z:=L.map λq=>nV q (poly q)) rfl ?_);have j:(L.map λq=>nV q (poly q)).length=L.length:=zsa ..;have t:∀ i,i<=L.length->(de (L.take i) poly).length<=i*100:=λi d=>by
  induction i with
  | zero=>simp[de]
  | succ i ih=>
   have e:i<L.length:=by omega
   rw[zAa e,de,List.flatMap_append,zua];have h1:=ih (by omega)
   simp only[de] at h1;have y:(lu (poly L[i])).length<=100:=zEa (sO (poly L[i]) (poly L[i]).length) (hp _ (zza e)).1;simp only[List.flatMap_cons,List.flatMap_nil,zYb];omega
 refine bF (λi s=>s=[.sl ((de (L.take i) poly).map du),I (i:Int)]) L.length 0 (zja _) rfl (λi d s b=>?_) (λs b=>?_)
 ·subst b;left;refine⟨_,?_,rfl⟩;refine aa af (aa ab (aB (by show((i:Int)<((L.map λq=>nV q (poly q)).length:Int));rw[j];omega) ?_))
  have w:(L.map λq=>nV q (poly q))[i]?=some (nV L[i] (poly L[i])):=by simp[d]
  refine aa (z:=L.map λq=>nV q (poly q)) rfl (aa (z:=i) (by rw[j];exact ap d) (aa w (aa (z:=.sl (ag (poly L[i]))) rfl (aa (z:=ag (poly L[i])) rfl ?_))))
  obtain⟨x,m⟩:=hp L[i] (zza d);have u:=t i (by omega)
  obtain⟨M,c⟩:∃ M,M=de (L.take i) poly:=⟨_,rfl⟩;rw[<-c] at u ⊢;have g:de (L.take (i+1)) poly=M++fM (poly L[i]) (poly L[i]).length:=by
   rw[zAa d,c,de,List.flatMap_append];simp[de,lu,fM]
  rw[g];generalize poly L[i]=p at *;refine cn (λk s=>s=[.sl ((M++fM p k).map du),I (k:Int)]) p.length 0 (zja _) (by simp[fM,g0,D.els]) (λk hk s b=>?_) (λs b=>?_)
  ·subst b;left;refine⟨_,?_,rfl⟩;refine aa af (aa ab (aB (by show((k:Int)<((ag p).length:Int));rw[ao];omega) ?_))
   have a:(k+1)%p.length<p.length:=zVa _ m;have f:(((k:Int)+1).tmod (p.length:Int))=(((k+1)%p.length:Nat):Int):=by
    rw[show((k:Int)+1)=((k+1:Nat):Int) by omega];exact z7c ..
   refine aa (z:=(0,[.sl ((M++fM p (k+1)).map du)])) ?_ (aa (aw (ay (i:=k) (by omega))) rfl)
   refine aa (z:=ag p) rfl (aa (z:=k) (by rw[ao];exact ap hk) (aa (gK hk) (aa (z:=.sl (ag p)) rfl (aa (aw (ay (i:=k) (by omega))) (aa (z:=.sl (ag p)) rfl (aa (z:=ag p) rfl ?_))))))
   refine aa (z:=I (((k+1)%p.length:Nat):Int)) (by rw[show((ag p).length:Int)=(p.length:Int) by rw[ao],mr (by omega),f]) ?_
   refine aa (z:=ag p) rfl (aa (z:=(k+1)%p.length) (by rw[ao];exact ap a) (aa (gK a) (aa af (aa ab ?_))))
   rw[yV];have v:=sO p k;by_cases hab:p.getD k 0<p.getD ((k+1)%p.length) 0
   ·refine aB (by show((p.getD k 0:Nat):Int)<((p.getD ((k+1)%p.length) 0:Nat):Int);omega) ?_
    rw[if_pos hab,if_pos (by simp only[g0,D.els,zsa,zua,zKa,zyb];omega)]
    simp[g0,D.els,du]
   ·refine aC (by show ¬ ((p.getD k 0:Nat):Int)<((p.getD ((k+1)%p.length) 0:Nat):Int);omega) ?_
    rw[if_neg hab];rfl
  ·subst b;refine⟨(0,[.sl ((M++fM p p.length).map du)]),?_,?_⟩
   ·refine aa af (aa ab (aC (by show ¬ ((p.length:Int)<((ag p).length:Int));rw[ao];omega) rfl))
   ·exact aa (aw (ay (i:=i) (by omega))) rfl
 ·subst b;refine⟨(0,[.sl ((de (L.take L.length) poly).map du)]),?_,?_⟩
  ·refine aa af (aa ab (aC (by show ¬ ((L.length:Int)<((L.map λq=>nV q (poly q)).length:Int));rw[j];omega) rfl))
  ·have hu:=t L.length (zfa _);rw[zfb] at hu ⊢;refine aa (z:=(de L poly).map du) ?_ (aa (vO (Ny (n+4) E r) (o.symm.map _)) rfl);exact aB (by show((de L poly).map du).length<=1073741824;rw[zsa];omega) rfl
end Sy
end
noncomputable section
namespace Sy
open Go Go.Proofs Geo
abbrev FL:=List ((V×Int)×List Nat)
def aK(L:FL):List D:=L.map λf=>nV f.1 f.2
def aY(L:FL):(aK L).length=L.length:=zsa ..
def fo{L:FL}{i:Nat}(h:i<L.length):(aK L)[i]?=some (nV L[i].1 L[i].2):=by simp[aK,h]
def Wx(n:Nat)(L:FL)(m:V)(hL:L.length<=3000000):cA (n+1) 108 [.sl (aK L),ac m]=some (.bool (L.any λf=>decide (f.1.1=m))):=by
 rw[XG]
 delta JQ qB qT qX qL qZ iL iR Jn
 refine bF (λi s=>s=[I (i:Int)]/\(L.take i).any (λf=>decide (f.1.1=m))=false) L.length 0 (zja _) ⟨rfl,by simp⟩ (λi a s c=>?_) (λs c=>?_)
 ·obtain⟨rfl,b⟩:=c;by_cases he:L[i].1.1=m
  ·right;refine⟨(0,[.bool true]),?_,?_⟩
   ·refine aa (z:=aK L) rfl (aa af (aa ab (aB (by show((i:Int)<((aK L).length:Int));rw[aY];omega) ?_)))
    refine aa (z:=aK L) rfl (aa (z:=i) (by rw[aY];exact ap a) (aa (fo a) (aa (z:=ac L[i].1.1) rfl ?_)))
    rw[jP];exact aa ab (aB he rfl)
   ·have:L.any (λf=>decide (f.1.1=m))=true:=z0b.2 ⟨L[i],zza a,by simpa using he⟩
    simp[this,g0]
  ·left;refine⟨[I ((i+1:Nat):Int)],?_,rfl,?_⟩
   ·refine aa (z:=aK L) rfl (aa af (aa ab (aB (by show((i:Int)<((aK L).length:Int));rw[aY];omega) ?_)))
    refine aa (z:=aK L) rfl (aa (z:=i) (by rw[aY];exact ap a) (aa (fo a) (aa (z:=ac L[i].1.1) rfl ?_)))
    rw[jP];exact aa ab (aC he (aa (aw (ay (i:=i) (by omega))) rfl))
   ·rw[zAa a,z3c,b];simp[he]
 ·obtain⟨rfl,b⟩:=c;rw[zfb] at b;refine⟨(1,[]),?_,by simp[b]⟩
  exact aa (z:=aK L) rfl (aa af (aa ab (aC (by show ¬ ((L.length:Int)<((aK L).length:Int));rw[aY];omega) rfl)))
def mh(f:(V×Int)×List Nat):FL->FL
 | []=>[f]
 | x::L=>if aD f.1.1 x.1.1 then f::x::L else x::mh f L
def Wz(n:Nat)(L:FL)(f:(V×Int)×List Nat)(hL:L.length<=3000000):cA (n+2) 110 [.sl (aK L),nV f.1 f.2]=some (.sl (aK (mh f L))):=by
 rw[XI]
 delta JS qG qB qT qN qX qL qV qW qZ iL iR Jn
 have app:∀ (o:FL) (x:(V×Int)×List Nat),aK o++[nV x.1 x.2]=aK (o++[x]):=λo x=>by simp[aK]
 refine bF (λi s=>∃ (out:FL) (put:Bool),s=[.sl (aK out),.bool put,I (i:Int)]/\out.length<=2*i/\(put=false->mh f L=out++mh f (L.drop i))/\(put=true->mh f L=out++L.drop i)) L.length 0 (zja _) ⟨[],false,rfl,by simp,by simp,by simp⟩ (λi a s c=>?_) (λs c=>?_)
 ·obtain⟨out,put,rfl,j,h1,b⟩:=c;left;have d:L.drop i=L[i]::L.drop (i+1):=zAb a;have hc:=Qe n f.1.1 L[i].1.1;obtain⟨o,p,he,m,k,l⟩:∃ o p,(if put=false/\aD f.1.1 L[i].1.1 then(out++[f],true) else(out,put))=(o,p)/\o.length<=2*i+1/\(p=false->mh f L=o++L[i]::mh f (L.drop (i+1)))/\(p=true->mh f L=o++L[i]::L.drop (i+1)):=by
   by_cases hput:put=false/\aD f.1.1 L[i].1.1
   ·refine⟨_,_,if_pos hput,by simp;omega,by simp,λ_=>?_⟩
    rw[h1 hput.1,d];simp[mh,hput.2]
   ·refine⟨_,_,if_neg hput,by omega,λhp=>?_,λhp=>?_⟩
    ·have g:¬ aD f.1.1 L[i].1.1:=λh=>hput ⟨hp,h⟩;rw[h1 hp,d];simp[mh,g]
    ·rw[b hp,d]
  refine⟨[.sl (aK (o++[L[i]])),.bool p,I ((i+1:Nat):Int)],?_,o++[L[i]],p,rfl,by simp;omega,λhp=>by rw[k hp];simp,λhp=>by rw[l hp];simp⟩
  refine aa (z:=aK L) rfl (aa af (aa ab (aB (by show((i:Int)<((aK L).length:Int));rw[aY];omega) ?_)))
  refine aa (z:=ac f.1.1) rfl (aa (z:=aK L) rfl (aa (z:=i) (by rw[aY];exact ap a) (aa (fo a) (aa (z:=ac L[i].1.1) rfl (aa hc ?_)))))
  refine aa (z:=(0,[.sl (aK o),.bool p])) ?_ ?_
  ·refine aa (z:=.bool (!put)) rfl (aa (z:=!put) rfl (aa (z:=!put&&decide (aD f.1.1 L[i].1.1)) ?_ (aa (z:=!put&&decide (aD f.1.1 L[i].1.1)) rfl ?_)))
   ·cases put
    ·exact ab
    ·rfl
   ·by_cases hput:put=false/\aD f.1.1 L[i].1.1
    ·rw[if_pos hput] at he;obtain⟨rfl,e⟩:=hput;cases he;rw[show(!false&&decide (aD f.1.1 L[i].1.1))=true by simp[e],if_pos rfl,if_pos (by simp only[g0,D.els,aY,zKa,zyb];omega)]
     simp only[g0,D.els,app]
    ·rw[if_neg hput] at he;cases he;rw[show(!put&&decide (aD f.1.1 L[i].1.1))=false by
      cases put
      ·simpa using hput
      ·rfl]
     rfl
  ·refine aa (z:=aK L) rfl (aa (z:=i) (by rw[aY];exact ap a) (aa (fo a) ?_))
   rw[if_pos (by simp only[g0,D.els,aY,zKa,zyb];omega)]
   refine aa (aw (ay (i:=i) (by omega))) ?_
   simp only[g0,g1,D.els,app];rfl
 ·obtain⟨out,put,rfl,j,h1,b⟩:=c;refine⟨(0,[.sl (aK out),.bool put]),?_,?_⟩
  ·exact aa (z:=aK L) rfl (aa af (aa ab (aC (by show ¬ ((L.length:Int)<((aK L).length:Int));rw[aY];omega) rfl)))
  ·cases put
   ·have:=h1 rfl;rw[zbd] at this;rw[this];refine aa (z:=(0,[.sl (aK (out++[f]))])) ?_ rfl;refine aa (z:=.bool true) rfl (aa (z:=true) rfl ?_);rw[if_pos rfl,if_pos (by simp only[g0,D.els,aY,zKa,zyb];omega)]
    simp only[g0,D.els,app]
   ·have:=b rfl;rw[zbd,zYb] at this;rw[this];rfl
end Sy
end
noncomputable section
namespace Sy
open Go Go.Proofs Geo
def iH(l:List V)(m:V)(a b x:Nat):Bool:=
 decide (0<=T m (wy (pt l) a b) (wy (pt l) a x))&&(!decide (T m (wy (pt l) a b) (wy (pt l) a x)=0)||(decide (0<=V.dot (wy (pt l) a x) (wy (pt l) a b))&&decide (V.dot (wy (pt l) a x) (wy (pt l) a b)<=V.dot (wy (pt l) a b) (wy (pt l) a b))))
def Di{l:List V}{m:V}{a b x:Nat}:iH l m a b x=true↔(0<=T m (wy (pt l) a b) (wy (pt l) a x)/\(T m (wy (pt l) a b) (wy (pt l) a x)=0->0<=V.dot (wy (pt l) a x) (wy (pt l) a b)/\V.dot (wy (pt l) a x) (wy (pt l) a b)<=V.dot (wy (pt l) a b) (wy (pt l) a b))):=by
 simp only[iH,zaa,zHb,zCa,decide_eq_true_eq,decide_eq_false_iff_not];by_cases h:T m (wy (pt l) a b) (wy (pt l) a x)=0<;>simp[h]
def yj(l:List V)(m:V)(d:Int)(a b:Nat):Bool:=(bo (pt l) l.length m d).all λx=>iH l m a b x
def yk{l:List V}{m:V}{d:Int}{a b:Nat}(e:b∈bo (pt l) l.length m d)(c:b≠a):yj l m d a b=true↔Side m (pt l) (bo (pt l) l.length m d) a b:=by
 simp only[yj,zma,Di];exact⟨λh=>⟨e,c,h⟩,λh=>h.all⟩
def WM(n:Nat){l:List V}(hl:∀ x∈l,bd MV x)(hlen:l.length<=100){m:V}{d:Int}(E:m≠V.zero)(hm:bd 549755813888 m){a b:Nat}(p:a<l.length)(W:b<l.length)(j:V.dot m (pt l a)=d)(C:V.dot m (pt l b)=d) :
  cA (n+3) 156 [bc l,ac m,I d,ac (pt l a),ac (pt l b)]=some (.bool (yj l m d a b)):=by
 rw[Yi]
 delta Kq qB qC qT qX qL qZ iL iR Jn
 have w1:bd 524288 (wy (pt l) a b):=oo (hl _ (cV p)) (hl _ (cV W));refine aa (z:=ac (wy (pt l) a b)) (Fa (n+1) (hl _ (cV W)) (hl _ (cV p)) (by decide)) ?_
 have f:(l.map ac).length=l.length:=zsa ..;have F:V.dot m (wy (pt l) a b)=0:=by rw[bX,j,C];omega
 refine bF (λi s=>s=[I (i:Int)]/\(bo (pt l) i m d).all (λx=>iH l m a b x)=true) l.length 0 (zja _) ⟨rfl,by simp[bo]⟩ (λi c s B=>?_) (λs B=>?_)
 ·obtain⟨rfl,q⟩:=B;have hc:=E9 (n+1) hm (hl _ (cV c)) (by decide)
  by_cases hon:V.dot m (pt l i)=d
  ·have Y:bd 524288 (wy (pt l) a i):=oo (hl _ (cV p)) (hl _ (cV c));have G:V.dot m (wy (pt l) a i)=0:=by rw[bX,j,hon];omega
   have c1:=Fa (n+1) (hl _ (cV c)) (hl _ (cV p)) (by decide)
   have c2:=Qh (n+1) w1 Y (by decide)
   have S:=WS n m (V.cross (wy (pt l) a b) (wy (pt l) a i));rw[Ee E (eH F G)] at S;have U:=E9 (n+1) Y w1 (by decide)
   have Z:=E9 (n+1) w1 w1 (by decide)
   have step:∀ (y:Nat×List D),y=(if iH l m a b i then(0,[]) else(1,[D.bool false]))->(Option.bind (D.asSl (bc l)) λX=>Option.bind (D.idx (I (i:Int)) (List.length X)) λi7=>
     Option.bind (X[i7]?) λx8=>Option.bind (cA (n+2) 107 [ac m,x8]) λr9=>Option.bind (D.truth (D.bool (!(D.beq r9 (I d))))) λr=>
     if r then(some ((0:Nat),([]:List D))) else(Option.bind (D.asSl (bc l)) λk=>Option.bind (D.idx (I (i:Int)) (List.length k)) λtR=>
     Option.bind (k[tR]?) λO=>Option.bind (cA (n+2) 112 [O,ac (pt l a)]) λg=>Option.bind (cA (n+2) 123 [ac (wy (pt l) a b),g]) λH=>Option.bind (cA (n+2) 188 [ac m,H]) λo=>
     Option.bind (D.bin .lss o (D.int .i64 0)) λP=>Option.bind (D.truth P) λt=>
     Option.bind (if t then(some true) else(Option.bind (D.truth (D.bool (D.beq o (D.int .i64 0)))) λu=>
     if u then(Option.bind (cA (n+2) 107 [g,ac (wy (pt l) a b)]) λJ=>Option.bind (D.bin .lss J (D.int .i64 0)) λQ=>Option.bind (D.truth Q) λv=>
     if v then(some true) else(Option.bind (cA (n+2) 107 [g,ac (wy (pt l) a b)]) λK=>Option.bind (cA (n+2) 107 [ac (wy (pt l) a b),ac (wy (pt l) a b)]) λL=>
     Option.bind (D.bin .gtr K L) λR=>D.truth R)) else(some false))) λw=>Option.bind (D.truth (D.bool w)) λA=>
     if A then(some (1,[(D.bool false)])) else(some (0,[]))))=some y:=by
    intro y hy;refine aa (z:=l.map ac) rfl (aa (z:=i) (by rw[f];exact ap c) (aa (dN c) (aa hc (aa (z:=false) ?_ ?_))))
    ·rw[bR,show V.dot m (l.getD i V.zero)=d from hon];simp[D.truth]
    rw[if_neg (by decide)]
    refine aa (z:=l.map ac) rfl (aa (z:=i) (by rw[f];exact ap c) (aa (dN c) (aa (z:=ac (wy (pt l) a i)) c1 (aa c2 (aa S (aa af (aa ab ?_)))))))
    rw[hy];have e:V.dot m (V.cross (wy (pt l) a b) (wy (pt l) a i))=T m (wy (pt l) a b) (wy (pt l) a i):=rfl;rw[e];refine aa (z:=!iH l m a b i) ?_ ?_
    ·by_cases t1:T m (wy (pt l) a b) (wy (pt l) a i)<0
     ·rw[O9 (EM.2 t1)];have:¬ (0<=T m (wy (pt l) a b) (wy (pt l) a i)):=by omega
      simp[iH,this]
     ·rw[Pa (λh=>t1 (EM.1 h))];have M:0<=T m (wy (pt l) a b) (wy (pt l) a i):=by omega
      by_cases t2:T m (wy (pt l) a b) (wy (pt l) a i)=0
      ·refine aa (z:=true) (by rw[bR,decide_eq_true (iX.2 t2)];rfl) ?_
       rw[if_pos rfl];refine aa U (aa af (aa ab ?_));by_cases t3:V.dot (wy (pt l) a i) (wy (pt l) a b)<0
       ·rw[O9 t3];have:¬ (0<=V.dot (wy (pt l) a i) (wy (pt l) a b)):=by omega
        simp[iH,t2,this]
       ·rw[Pa t3];refine aa U (aa Z (aa cM ?_));rw[ab];have N:0<=V.dot (wy (pt l) a i) (wy (pt l) a b):=by omega
        simp only[iH,t2,N,decide_true,zsb,zkc,zwd,zhc];by_cases t4:V.dot (wy (pt l) a i) (wy (pt l) a b)<=V.dot (wy (pt l) a b) (wy (pt l) a b)
        ·have:¬ (V.dot (wy (pt l) a i) (wy (pt l) a b)>V.dot (wy (pt l) a b) (wy (pt l) a b)):=by omega
         simp[t4,this]
        ·have:(V.dot (wy (pt l) a i) (wy (pt l) a b)>V.dot (wy (pt l) a b) (wy (pt l) a b)):=by omega
         simp[t4,this]
      ·refine aa (z:=false) (by rw[bR,decide_eq_false (λh=>t2 (iX.1 h))];rfl) ?_
       simp[iH,t2,M]
    ·refine aa ab ?_;cases iH l m a b i<;>rfl
   cases hk:iH l m a b i
   ·right;rw[hk] at step;refine⟨(0,[.bool false]),?_,?_⟩
    ·exact aa (z:=l.map ac) rfl (aa af (aa ab (aB (by show((i:Int)<((l.map ac).length:Int));rw[f];omega) (aa (step _ rfl) rfl))))
    ·have:yj l m d a b=false:=by
      rw[zoc];intro h;have:=zma.1 h i (az.2 ⟨c,hon⟩);rw[hk] at this;exact absurd this (by decide)
     rw[this];rfl
   ·left;rw[hk] at step;refine⟨[I ((i+1:Nat):Int)],?_,rfl,?_⟩
    ·exact aa (z:=l.map ac) rfl (aa af (aa ab (aB (by show((i:Int)<((l.map ac).length:Int));rw[f];omega) (aa (step _ rfl) (by rw[if_pos rfl,if_pos rfl];exact aa (aw (ay (i:=i) (by omega))) rfl)))))
    ·rw[kJ,if_pos hon,zfd,q];simp[hk]
  ·left;refine⟨[I ((i+1:Nat):Int)],?_,rfl,?_⟩
   ·refine aa (z:=l.map ac) rfl (aa af (aa ab (aB (by show((i:Int)<((l.map ac).length:Int));rw[f];omega) (aa (z:=(0,[])) ?_ (by rw[if_pos rfl];exact aa (aw (ay (i:=i) (by omega))) rfl)))))
    refine aa (z:=l.map ac) rfl (aa (z:=i) (by rw[f];exact ap c) (aa (dN c) (aa hc (aa (z:=true) ?_ rfl))))
    rw[bR,decide_eq_false (show ¬ V.dot m (l.getD i V.zero)=d from hon)];rfl
   ·rw[kJ,if_neg hon];exact q
 ·obtain⟨rfl,q⟩:=B;refine⟨(1,[]),?_,?_⟩
  ·exact aa (z:=l.map ac) rfl (aa af (aa ab (aC (by show ¬ ((l.length:Int)<((l.map ac).length:Int));rw[f];omega) rfl)))
  ·have:yj l m d a b=true:=q;rw[this];rfl
end Sy
end
noncomputable section
namespace Sy
open Go Go.Proofs Geo
def Ej{body:Bd}{s0:List D}{r:Nat×List D}(h:Option.bind (aS body s0) some=some r):aS body s0=some r:=by
 cases hb:aS body s0 with
 | none=>rw[hb] at h;cases h
 | some z=>rw[hb] at h;exact h
def IC{P:Nat->V}{m:V}{d:Int}{i N a:Nat}(h:(bo P i m d).head?=some a)(b:i<=N):(bo P N m d).head?=some a:=by
 induction N with
 | zero=>
      have:i=0:=by omega
      subst this;exact h
 | succ N ih=>
  by_cases e:i=N+1
  ·rw[<-e];exact h
  ·have:=ih (by omega)
   rw[kJ];split
   ·rw[List.head?_append,this];rfl
   ·exact this
theorem sN{body:Bd}{S:Nat->Nat->Prop}{a M:Nat}{G:Nat->Prop}(f:∀ c b,G c->S c b->G b)
  (d:∀ (c b:Nat) (out:List Nat),G c->S c b->b≠a->out.length<=M->body [.sl (ag out),I (c:Int)]=some (.inl [.sl (ag (out++[c])),I (b:Int)]))
  (e:∀ (c:Nat) (out:List Nat),G c->S c a->out.length<=M->body [.sl (ag out),I (c:Int)]=some (.inr (0,[.sl (ag (out++[c]))]))) :
  ∀ {c:Nat} {p:List Nat},Chain S a c p->G c->∀ out:List Nat,(out++p).length<=M->aS body [.sl (ag out),I (c:Int)]=some (0,[.sl (ag (out++p))])
 | c,_,.done s,hc,out,hl=>cU (e c out hc s (by simp at hl;omega))
 | c,_,.step (y:=y) (l:=p) s hy k,hc,out,hl=>by
  have h1:=d c y out hc s hy (by simp at hl;omega)
  rw[show aS body [.sl (ag out),I (c:Int)]=aS body [.sl (ag (out++[c])),I (y:Int)] from c8 h1];have:=sN f d e k (f c y hc s) (out++[c]) (by simpa using hl)
  rw[this];simp
def Xv(n:Nat){l:List V}(hl:∀ x∈l,bd MV x)(hlen:l.length<=100)(U:G6 l){m:V}{d:Int}(N:IsF (pt l) l.length m d)(hm:bd 549755813888 m){p:List Nat}(hp:bH (pt l) l.length m d p) :
  cA (n+4) 111 [bc l,ac m,I d]=some (.sl (ag p)):=by
 have F:=N.flat U;obtain⟨Z,S,A,J⟩:=N.poly U;have e:=bH.eq U N hp S;subst e;obtain⟨a,v,Q⟩:=hp;have W:a∈bo (pt l) l.length m d:=List.mem_of_mem_head? (by rw[v];rfl)
 have H:∀ k∈bo (pt l) l.length m d,k<l.length:=λk hk=>(az.1 hk).1;have E:∀ k∈bo (pt l) l.length m d,V.dot m (pt l k)=d:=λk hk=>(az.1 hk).2;have L:(bo (pt l) l.length m d).length<=l.length:=by
  unfold bo;exact zEa (zKc _ _) (by rw[zub];omega)
 have T:p.length<=l.length:=zEa (zWb A λz Y=>((J z).1 Y).1) L;have q:(l.map ac).length=l.length:=zsa ..;rw[XJ]
 delta JT qB qC qT qS qX qL qV qW qZ iL iR Jn
 have r:=λ(i:Nat) (j:i<l.length)=>E9 (n+2) hm (hl _ (cV j)) (by decide)
 refine aa (z:=(0,[.sl [],I (a:Int)])) ?_ ?_
 ·refine Ej (cn (λi s=>s=[.sl [],j9 ((bo (pt l) i m d).head?),I (i:Int)]) l.length 0 (zja _) rfl (λi j s u=>?_) (λs u=>?_))
  ·subst u;cases hh:(bo (pt l) i m d).head? with
   | some a'=>
    right;have:=IC hh (ztc j);rw[v] at this;cases this;refine⟨(0,[.sl [],I (a:Int)]),?_,rfl⟩;refine aa (z:=l.map ac) rfl (aa af (aa ab (aa (z:=false) (aB (by show((i:Int)<((l.map ac).length:Int));rw[q];omega) ?_) (aa ab ?_))))
    ·refine aa af ?_;rw[decide_eq_false (by omega)];rfl
    ·rfl
   | none=>
    left;have K:bo (pt l) i m d=[]:=by simpa using hh
    refine⟨[.sl [],j9 ((bo (pt l) (i+1) m d).head?),I ((i+1:Nat):Int)],?_,rfl⟩;refine aa (z:=l.map ac) rfl (aa af (aa ab (aa (z:=true) (aB (by show((i:Int)<((l.map ac).length:Int));rw[q];omega) (aa (af (a:=-1) (b:=0)) rfl)) (aa ab ?_))))
    rw[if_pos rfl];refine aa (z:=(0,[.sl [],j9 ((bo (pt l) (i+1) m d).head?)])) ?_ (aa (aw (ay (i:=i) (by omega))) rfl)
    refine aa (z:=l.map ac) rfl (aa (z:=i) (by rw[q];exact ap j) (aa (dN j) (aa (r i j) ?_)))
    rw[bR,kJ,K];by_cases f:V.dot m (pt l i)=d
    ·rw[if_pos f,decide_eq_true (show V.dot m (l.getD i V.zero)=d from f)];rfl
    ·rw[if_neg f,decide_eq_false (show ¬ V.dot m (l.getD i V.zero)=d from f)];rfl
  ·subst u;rw[v];refine⟨(0,[.sl [],I (a:Int)]),?_,rfl⟩;refine aa (z:=l.map ac) rfl (aa af (aa ab (aa (z:=false) (aC (by show ¬ ((l.length:Int)<((l.map ac).length:Int));rw[q];omega) rfl) (aa ab rfl))))
 ·refine aa (z:=(0,[.sl (ag ([]++p))])) ?_ rfl;refine sN (M:=l.length) (G:=λc=>c∈bo (pt l) l.length m d) (λc b hc C=>C.mem) (λc b out hc C O R=>?_) (λc out hc C R=>?_) Q W [] (by simpa using T)
  all_goals
   obtain⟨g,X,o⟩:∃ g,(g=a\/g≠a)/\Side m (pt l) (bo (pt l) l.length m d) c g:=by first|exact⟨_,Classical.em _,C⟩
   refine aa (z:=l.map ac) rfl (aa lV (aa ab (aB (by show(((ag out).length:Int)<=((l.map ac).length:Int));rw[q,ao];omega) ?_)))
   rw[if_pos (by simp only[g0,D.els,ao,zKa,zyb];omega)]
   have B:ag out++[I (c:Int)]=ag (out++[c]):=by simp[ag]
   have P:=H g o.mem;refine aa (z:=(0,[.sl (ag (out++[c])),I (g:Int)])) ?_ ?_
   ·refine Ej (cn (λi s=>s=[.sl (ag (out++[c])),j9 (if g<i then some g else none),I (i:Int)]) l.length 0 (zja _) (by simp[g0,g1,D.els,B,j9]) (λi j s u=>?_) (λs u=>?_))
    ·subst u;by_cases hbi:g<i
     ·right;rw[if_pos hbi];refine⟨(0,[.sl (ag (out++[c])),I (g:Int)]),?_,rfl⟩;refine aa (z:=l.map ac) rfl (aa af (aa ab (aa (z:=false) (aB (by show((i:Int)<((l.map ac).length:Int));rw[q];omega) ?_) (aa ab ?_))))
      ·refine aa af ?_;rw[decide_eq_false (by omega)];rfl
      ·rfl
     ·left;rw[if_neg hbi];refine⟨[.sl (ag (out++[c])),j9 (if g<i+1 then some g else none),I ((i+1:Nat):Int)],?_,rfl⟩
      refine aa (z:=l.map ac) rfl (aa af (aa ab (aa (z:=true) (aB (by show((i:Int)<((l.map ac).length:Int));rw[q];omega) (aa (af (a:=-1) (b:=0)) rfl)) (aa ab ?_))))
      rw[if_pos rfl];refine aa (z:=(0,[.sl (ag (out++[c])),j9 (if g<i+1 then some g else none)])) ?_ (aa (aw (ay (i:=i) (by omega))) rfl)
      have w:=H c hc;by_cases f:i≠c/\V.dot m (pt l i)=d
      ·have t:i∈bo (pt l) l.length m d:=az.2 ⟨j,f.2⟩;refine aa (z:=true) (by show D.truth (D.bool (!(D.beq (I (i:Int)) (I (c:Int)))))=_;rw[cO,decide_eq_false f.1];rfl) (aa (z:=true) ?_ (aa ab ?_))
       ·rw[if_pos rfl];refine aa (z:=l.map ac) rfl (aa (z:=i) (by rw[q];exact ap j) (aa (dN j) (aa (r i j) ?_)))
        rw[bR,decide_eq_true (show V.dot m (l.getD i V.zero)=d from f.2)];rfl
       ·rw[if_pos rfl];refine aa (z:=l.map ac) rfl (aa (z:=c) (by rw[q];exact ap w) (aa (dN w) (aa (z:=l.map ac) rfl (aa (z:=i) (by rw[q];exact ap j) (aa (dN j) (aa (WM n hl hlen N.nz.1 hm w j (E c hc) f.2) (aa ab ?_)))))))
        by_cases y:i=g
        ·subst y;rw[(yk t f.1).2 o,if_pos rfl,if_pos (by omega)];rfl
        ·have:yj l m d c i=false:=by
          rw[zoc];intro h;exact y (Side.unique F hc ((yk t f.1).1 h) o)
         rw[this,if_neg (show ¬ g<i+1 by omega)];rfl
      ·have y:i≠g:=λe=>f (by subst e;exact⟨o.ne,E _ o.mem⟩)
       rw[if_neg (show ¬ g<i+1 by omega)]
       by_cases hic:i=c
       ·subst hic;refine aa (z:=false) (by show D.truth (D.bool (!(D.beq (I (i:Int)) (I (i:Int)))))=_;rw[cO,decide_eq_true rfl];rfl) (aa (z:=false) rfl (aa ab rfl))
       ·have A:¬ V.dot m (l.getD i V.zero)=d:=λh=>f ⟨hic,h⟩;refine aa (z:=true) (by show D.truth (D.bool (!(D.beq (I (i:Int)) (I (c:Int)))))=_;rw[cO,decide_eq_false hic];rfl) (aa (z:=false) ?_ (aa ab rfl))
        rw[if_pos rfl];refine aa (z:=l.map ac) rfl (aa (z:=i) (by rw[q];exact ap j) (aa (dN j) (aa (r i j) ?_)))
        rw[bR,decide_eq_false A];rfl
    ·subst u;rw[if_pos P];refine⟨(0,[.sl (ag (out++[c])),I (g:Int)]),?_,rfl⟩;exact aa (z:=l.map ac) rfl (aa af (aa ab (aa (z:=false) (aC (by show ¬ ((l.length:Int)<((l.map ac).length:Int));rw[q];omega) rfl) (aa ab rfl))))
   ·have hu:=Side.unique F hc C o;subst hu;first
     | exact aa (z:=true) (by show D.truth (D.bool (D.beq (I (_:Int)) (I (_:Int))))=_;rw[cO,decide_eq_true rfl];rfl) (aa (z:=true) rfl (aa ab rfl))
     | exact aa (z:=false) (by show D.truth (D.bool (D.beq (I (_:Int)) (I (_:Int))))=_;rw[cO,decide_eq_false O];rfl) (aa (z:=false) (by rw[if_neg (by decide)];refine aa af ?_;rw[decide_eq_false (by omega)];rfl) (aa ab rfl))
end Sy
end
noncomputable section
namespace Sy
open Go Go.Proofs Geo
def br:List Nat->Nat
 | []=>0
 | d::l=>d+65536*br l
def dl(l:List Nat):Prop:=∀ d∈l,d<65536
def dl.cons{d:Nat}{l:List Nat}(a:d<65536)(h:dl l):dl (d::l):=λx hx=>by
 rcases zwa.1 hx with rfl|hx
 ·exact a
 ·exact h x hx
def dl.append{a b:List Nat}(c:dl a)(d:dl b):dl (a++b):=λx hx=>by
 rcases List.mem_append.1 hx with hx|hx
 ·exact c x hx
 ·exact d x hx
theorem dl.getD{l:List Nat}(h:dl l)(i:Nat):l.getD i 0<65536:=by
 simp only[List.getD];cases hi:l[i]? with
 | none=>simp
 | some x=>exact h x (z4a hi)
def aE(m:Nat):List Nat:=if h:m=0 then[] else m%65536::aE (m/65536)
termination_by m
decreasing_by omega
def cS:aE 0=[]:=by unfold aE;simp
def ji{m:Nat}(h:m≠0):aE m=m%65536::aE (m/65536):=by rw[aE,dif_neg h]
def w7{d v:Nat}(a:d<65536)(h:d+65536*v≠0):aE (d+65536*v)=d::aE v:=by
 rw[ji h,show(d+65536*v)%65536=d by omega,show(d+65536*v)/65536=v by omega]
def bA(m:Nat):br (aE m)=m:=by
 induction m using Nat.strongRecOn with
 | _ m ih=>
  by_cases h:m=0
  ·subst h;rw[cS];rfl
  ·rw[ji h,br,ih _ (by omega)];omega
def cH(m:Nat):dl (aE m):=by
 induction m using Nat.strongRecOn with
 | _ m ih=>
  by_cases h:m=0
  ·subst h;rw[cS];intro d a;cases a
  ·rw[ji h];exact dl.cons (by omega) (ih _ (by omega))
def uz{m:Nat}:aE m=[]↔m=0:=by
 constructor
 ·intro h;have:=bA m;rw[h] at this;exact this.symm
 ·rintro rfl;exact cS
def rt(i:Nat):∀ m,(aE m).getD i 0=m/65536^i%65536:=by
 induction i with
 | zero=>
  intro m;by_cases h:m=0
  ·subst h;rw[cS];simp
  ·rw[ji h];simp
 | succ i ih=>
  intro m;by_cases h:m=0
  ·subst h;rw[cS];simp
  ·rw[ji h];show(aE (m/65536)).getD i 0=_;rw[ih,zTa,ztb,zGa 65536]
def cY(k:Nat):∀ m,m<65536^k->(aE m).length<=k:=by
 induction k with
 | zero=>
      intro m h;have:m=0:=by simpa using h
      subst this;rw[cS];simp
 | succ k ih=>
  intro m h;by_cases h0:m=0
  ·subst h0;rw[cS];simp
  ·rw[ji h0,zKa];have:=ih (m/65536) (by rw[ztb] at h;exact zPc (by rw[zGa];exact h))
   omega
def mE(a b:List Nat):br (a++b)=br a+65536^a.length*br b:=by
 induction a with
 | nil=>simp[br]
 | cons d a ih=>
  simp only[zqb,br,ih,zKa,ztb];rw[zSb,<-zPa,zGa 65536 (65536^a.length)];omega
def oO(l:List Nat)(n:Nat):br (l++List.replicate n 0)=br l:=by
 rw[mE];have:∀ n,br (List.replicate n 0)=0:=λn=>by
  induction n with
  | zero=>rfl
  | succ n ih=>rw[List.replicate_succ,br,ih]
 rw[this];simp
def vt(l:List Nat):Nat->Nat
 | 0=>0
 | k+1=>vt l k+l.getD k 0*65536^k
def Nf(d:Nat)(l:List Nat)(k:Nat):vt (d::l) (k+1)=d+65536*vt l k:=by
 induction k with
 | zero=>simp[vt]
 | succ k ih=>
  rw[vt,ih,vt,zSb];have:(d::l).getD (k+1) 0=l.getD k 0:=rfl;rw[this,ztb,<-zPa,<-zPa,zGa 65536 (l.getD k 0),zPa,zGa (65536^k),<-zPa];omega
def nk(l:List Nat):vt l l.length=br l:=by
 induction l with
 | nil=>rfl
 | cons d l ih=>rw[zKa,Nf,ih];rfl
def iY{l:List Nat}{k:Nat}(h:l.length<=k):vt l k=br l:=by
 obtain⟨j,rfl⟩:∃ j,k=l.length+j:=⟨k-l.length,by omega⟩
 clear h
 induction j with
 | zero=>exact nk l
 | succ j ih=>
  rw[<-zGb,vt,ih];have:l.getD (l.length+j) 0=0:=by simp[List.getD]
  rw[this];simp
def vX{l:List Nat}(h:dl l)(k:Nat):vt l k<65536^k:=by
 induction k with
 | zero=>simp[vt]
 | succ k ih=>
  have h1:=h.getD k;have a:l.getD k 0*65536^k<=65535*65536^k:=zya _ (by omega)
  rw[vt,ztb,zGa (65536^k)];omega
def nA{l:List Nat}(h:dl l):br l<65536^l.length:=by rw[<-nk];exact vX h _
def kU:List Nat->List Nat
 | []=>[]
 | d::l=>match kU l with
  | []=>if d=0 then[] else[d]
  | x::t=>d::x::t
def jF{l:List Nat}(h:dl l):kU l=aE (br l):=by
 induction l with
 | nil=>rw[br,cS];rfl
 | cons d l ih=>
  have a:d<65536:=h d zoa;have ih:=ih λx hx=>h x (zia _ hx);rw[kU,ih,br];by_cases hv:br l=0
  ·rw[hv,cS];by_cases h0:d=0
   ·subst h0;simp[cS]
   ·rw[w7 a (by omega),cS];simp[h0]
  ·rw[w7 a (by omega),ji hv]
def Dr{l:List Nat}(h:∀ i,i<l.length->l.getD i 0=0):kU l=[]:=by
 induction l with
 | nil=>rfl
 | cons d l ih=>
  have h0:d=0:=h 0 (by simp)
  rw[kU,ih (λi a=>h (i+1) (by simpa using a)),h0];simp
theorem yv:∀ {l:List Nat} {n:Nat},n<=l.length->(∀ i,n<=i->i<l.length->l.getD i 0=0)->(n=0\/l.getD (n-1) 0≠0)->l.take n=kU l
 | [],n,_,_,_=>by simp[kU]
 | d::l,0,_,a,_=>by rw[Dr (λi c=>a i (by omega) c)];rfl
 | d::l,n+1,hn,a,hl=>by
  have hl':(d::l).getD n 0≠0:=by
   rcases hl with h|h
   ·omega
   ·exact h
  have ih:l.take n=kU l:=yv (l:=l) (n:=n) (by simpa using hn) (λi h1 b=>a (i+1) (by omega) (by simpa using b)) (by
   cases n with
   | zero=>exact .inl rfl
   | succ k=>exact .inr hl')
  rw[z8b,ih,kU];cases ht:kU l with
  | nil=>
   rw[ht] at ih;have:n=0:=by
    cases n with
    | zero=>rfl
    | succ k=>cases l with
     | nil=>simp at hn
     | cons e l=>simp at ih
   subst this;have:d≠0:=hl';simp[this]
  | cons x t=>rfl
end Sy
end
noncomputable section
namespace Sy
open Go Go.Proofs Geo
def dC{l:List Nat}{i:Nat}(h:i<l.length):(ag l)[i]?=some (I (l.getD i 0:Nat)):=gK h
def xe(a:List Nat)(d:Nat):ag a++[I (d:Int)]=ag (a++[d]):=by simp[ag]
def Cl(n:Nat){l:List Nat}(hl:l.length<=1000000):cA (n+1) 140 [.sl (ag l)]=some (.sl (ag (kU l))):=by
 rw[X8]
 delta Kf qB qC qT qS qX qZ iL iR Jn
 refine aa (z:=ag l) rfl ?_;have fin:∀ j:Nat,j<=l.length->(∀ i,j<=i->i<l.length->l.getD i 0=0)->(j=0\/l.getD (j-1) 0≠0)->(Option.bind (D.asSl (.sl (ag l))) λf=>Option.bind (D.natOf (I (j:Int))) λi14=>Option.bind (D.cut f 0 i14) λg=>some (D.sl g))=some (.sl (ag (kU l))):=by
  intro j m a o;refine aa (z:=ag l) rfl (aa (z:=j) (by simp[D.natOf]) (aa (z:=ag (l.take j)) ?_ (by rw[yv m a o])))
  simp only[D.cut];rw[if_pos ⟨zja _,by rw[ao];exact m⟩]
  simp[ag,List.map_take]
 refine bF (λi s=>s=[I ((l.length-i:Nat):Int)]/\∀ k,l.length-i<=k->k<l.length->l.getD k 0=0) l.length 0 (zja _) ⟨by rw[ao];rfl,λk h1 h=>by omega⟩ (λi p s c=>?_) (λs c=>?_)
 ·obtain⟨rfl,a⟩:=c;have d:inR (((l.length-i:Nat):Int)-1):=by simp only[inR];omega
  have b:((l.length-i:Nat):Int)-1=((l.length-i-1:Nat):Int):=by omega
  have hx:(ag l)[l.length-i-1]?=some (I (l.getD (l.length-i-1) 0:Nat)):=dC (by omega)
  by_cases h0:l.getD (l.length-i-1) 0=0
  ·left;refine⟨[I ((l.length-(i+1):Nat):Int)],?_,rfl,λk h1 h=>?_⟩
   ·refine aa cM (aa ab (aa (z:=true) (aB (by show((l.length-i:Nat):Int)>0;omega) ?_) (aa ab ?_)))
    ·refine aa (dj d) (aa (z:=ag l) rfl (aa (z:=l.length-i-1) (by rw[b,ao];exact ap (by omega)) (aa hx ?_)))
     rw[h0];rfl
    ·rw[if_pos rfl];refine aa (dj d) ?_;rw[b,Nat.sub_sub]
   ·by_cases e:k=l.length-i-1
    ·rw[e];exact h0
    ·exact a k (by omega) h
  ·right;refine⟨(0,[I ((l.length-i:Nat):Int)]),?_,fin _ (by omega) a (.inr h0)⟩
   refine aa cM (aa ab (aa (z:=false) (aB (by show((l.length-i:Nat):Int)>0;omega) ?_) (aa ab rfl)))
   refine aa (dj d) (aa (z:=ag l) rfl (aa (z:=l.length-i-1) (by rw[b,ao];exact ap (by omega)) (aa hx ?_)))
   rw[bR,decide_eq_false (by omega)];rfl
 ·obtain⟨rfl,a⟩:=c;refine⟨(0,[I ((l.length-l.length:Nat):Int)]),?_,fin _ (by omega) a (.inl (by omega))⟩
  refine aa cM (aa ab (aa (z:=false) (aC (by show ¬ ((l.length-l.length:Nat):Int)>0;omega) rfl) (aa ab rfl)))
def Cm(n:Nat)(l:List Nat)(k:Nat):cA (n+1) 141 [.sl (ag l),I (k:Int)]=some (I (l.getD k 0:Nat)):=by
 rw[X9]
 delta Kg qX qL Jn
 refine aa (z:=ag l) rfl (aa af (aa ab ?_));by_cases h:k<l.length
 ·refine aB (by show(k:Int)<((ag l).length:Int);rw[ao];omega) ?_
  exact aa (z:=ag l) rfl (aa (z:=k) (by rw[ao];exact ap h) (aa (dC h) rfl))
 ·refine aC (by show ¬ (k:Int)<((ag l).length:Int);rw[ao];omega) ?_
  have:l.getD k 0=0:=by simp[List.getD,h]
  rw[this];rfl
def fr(l:List Nat)(i:Nat):Nat:=l.getD (2*i) 0+65536*l.getD (2*i+1) 0
abbrev U(n:Nat):D:=.int .u32 (n:Int)
def eJ(l:List Nat):D:=.st ((List.range 16).map λi=>U (fr l i))
def am(x:Int):D:=.st [.bool false,.bool (decide (x<0)),eJ (aE x.natAbs)]
def ze{l:List Nat}(h:dl l)(i:Nat):fr l i<4294967296:=by
 have:=h.getD (2*i);have:=h.getD (2*i+1);unfold fr;omega
def uY{l:List Nat}{i:Nat}(h:i<16):D.fld (eJ l) i=some (U (fr l i)):=by simp[eJ,D.fld,h]
def dw{x:Int}{i:Nat}(h:i<16):D.get (am x) [2,i]=some (U (fr (aE x.natAbs) i)):=
 aa (z:=eJ (aE x.natAbs)) rfl (aa (uY h) rfl)
def qA{n:Int}(h:0<=n/\n<4294967296):IntKind.wrap .u32 n=n:=by
 obtain⟨h1,a⟩:=h;simp only[IntKind.wrap,IntKind.signed,IntKind.bits];first
  | omega
  | (simp;omega)
def Ol(a:Nat):D.bin .rem (U a) (.int .u32 65536)=some (U (a%65536)):=by
 simp only[D.bin,if_true,show ¬ (65536:Int)=0 by decide,if_false]
 rw[show(65536:Int)=((65536:Nat):Int) from rfl,<-z7c]
def Ok{a:Nat}(h:a<4294967296):D.bin .quo (U a) (.int .u32 65536)=some (U (a/65536)):=by
 simp only[D.bin,if_true,show ¬ (65536:Int)=0 by decide,if_false]
 rw[show(65536:Int)=((65536:Nat):Int) from rfl,<-zHd,qA (by omega)]
def Hg{a b:Nat}(h:a+b<4294967296):D.bin .add (U a) (U b)=some (U (a+b)):=by
 simp only[D.bin,if_true];rw[qA (by omega)];simp
def Oj{a b:Nat}(h:a*b<4294967296):D.bin .mul (U a) (U b)=some (U (a*b)):=by
 simp only[D.bin,if_true];rw[show(a:Int)*(b:Int)=((a*b:Nat):Int) by simp,qA (by omega)]
def tM{a:Nat}(h:a<4294967296):D.conv .i64 (U a)=some (I (a:Int)):=by
 simp only[D.conv];rw[iZ (by simp only[inR];omega)]
def DW{a:Nat}(h:a<4294967296):D.conv .u32 (I (a:Int))=some (U a):=by
 simp only[D.conv];rw[qA (by omega)]
def Da(l:List Nat)(k:Nat):((List.range k).map λi=>l.getD i 0)=if k<=l.length then l.take k else l++List.replicate (k-l.length) 0:=by
 apply zmc;intro i;by_cases h:i<k
 ·rw[z7a,zed h];split
  ·simp[h,List.getD,show i<l.length by omega]
  ·by_cases h2:i<l.length
   ·simp[zQc,h2,List.getD]
   ·simp[zQc,h2,List.getD,List.getElem?_replicate,show i-l.length<k-l.length by omega]
 ·rw[z7a,show(List.range k)[i]?=none by simp;omega]
  split
  ·simp;omega
  ·simp;omega
def Jl{l:List Nat}(a:dl l){k:Nat}(hk:l.length<=k):kU ((List.range k).map λi=>l.getD i 0)=aE (br l):=by
 have e:((List.range k).map λi=>l.getD i 0)=l++List.replicate (k-l.length) 0:=by
  rw[Da];split
  ·have:k=l.length:=by omega
   subst this;simp
  ·rfl
 rw[e,jF (a.append (λx hx=>by rw[ztd hx];decide)),oO]
def OF(n:Nat){x:Int}(hx:x.natAbs<65536^32):cA (n+2) 77 [am x]=some (.sl (ag (aE x.natAbs))):=by
 rw[u77]
 delta Sn qG qB qC qV qW qZ iL iR Jn
 have c:=cH x.natAbs;have hlen:=cY 32 _ hx;refine bF (λi s=>s=[.sl (ag ((List.range (2*i)).map λi=>(aE x.natAbs).getD i 0)),I (i:Int)]) 16 0 (zja _) rfl (λi a s b=>?_) (λs b=>?_)
 ·subst b;left;refine⟨_,?_,rfl⟩;refine aa af (aa ab (aB (by show(i:Int)<16;omega) ?_))
  have d:=ze c i;have h1:=c.getD (2*i);refine aa (z:=i) (ap a) (aa (dw a) (aa (Ol _) (aa (tM (by omega)) (aa (z:=i) (ap a) (aa (dw a) (aa (Ok d) (aa (tM (by omega)) ?_)))))))
  rw[if_pos (by simp only[g0,D.els,ao,zsa,zub,zKa,zyb];omega)]
  refine aa (aw (ay (i:=i) (by omega))) ?_
  have e:fr (aE x.natAbs) i%65536=(aE x.natAbs).getD (2*i) 0:=by unfold fr;omega
  have f:fr (aE x.natAbs) i/65536=(aE x.natAbs).getD (2*i+1) 0:=by unfold fr;omega
  rw[e,f,show 2*(i+1)=2*i+1+1 by omega,z5b,z5b]
  simp[g0,D.els,ag]
 ·subst b;refine⟨(0,[.sl (ag ((List.range (2*16)).map λi=>(aE x.natAbs).getD i 0))]),?_,?_⟩
  ·exact aa af (aa ab (aC (by decide) rfl))
  ·refine aa (Cl n (by simp)) ?_
   rw[Jl c hlen,bA]
end Sy
end
noncomputable section
namespace Sy
open Go Go.Proofs Geo
def kT(l:List Nat)(k j:Nat):(l.take k).getD j 0=if j<k then l.getD j 0 else 0:=by
 simp only[List.getD,List.getElem?_take];split<;>simp
def uZ{l l':List Nat}{q v:Nat}{a b:D}(hq:q<16)(h:∀ i,fr l' i=if i=q then v else fr l i):D.set (.st [a,b,eJ l]) [2,q] (U v)=some (.st [a,b,eJ l']):=by
 have h1:D.set (eJ l) [q] (U v)=some (eJ l'):=by
  have e:((List.range 16).map λi=>U (fr l i))[q]?=some (U (fr l q)):=by simp[hq]
  refine aa e (aa (z:=U v) rfl ?_);simp only[eJ,zda,D.st.injEq];apply zmc;intro i;rw[List.getElem?_set];by_cases c:q=i
  ·subst c;simp[hq,h]
  ·rw[if_neg c,z7a,z7a];by_cases h16:i<16
   ·rw[zed h16];simp[h,show i≠q from λe=>c e.symm]
   ·rw[show(List.range 16)[i]?=none by simp;omega];rfl
 exact aa (z:=eJ l) rfl (aa h1 rfl)
def Of(k:Nat):D.bin .rem (I (k:Int)) (.int .i64 2)=some (I (k%2:Nat)):=by
 rw[mr (by decide),show(2:Int)=((2:Nat):Int) from rfl,<-z7c]
def j6{a b:Nat}(d:b≠0)(c:(a:Int)<=9223372036854775807):D.bin .quo (I (a:Int)) (I (b:Int))=some (I (a/b:Nat)):=by
 have:((a/b:Nat):Int)<=9223372036854775807:=by have:=zIc a b;omega
 have h0:0<=((a/b:Nat):Int):=Int.natCast_nonneg _;rw[sH (by omega) (by rw[<-zHd];simp only[inR];omega),<-zHd]
def mu{a b:Nat}(c:b≠0):D.bin .rem (I (a:Int)) (I (b:Int))=some (I (a%b:Nat)):=by
 rw[mr (by omega),<-z7c]
def AT{a b:D}{l:List Nat}{i:Nat}(h:i<16):D.get (.st [a,b,eJ l]) [2,i]=some (U (fr l i)):=
 aa (z:=eJ l) rfl (aa (uY h) rfl)
def sgn(neg:Bool)(m:Nat):Int:=if neg then -(m:Int) else m
def SH(n:Nat){l:List Nat}{neg:Bool}(p:dl l)(hl:l.length<=1000000)(t:br l<65536^32):cA (n+2) 81 [.bool neg,.sl (ag l)]=some (am (sgn neg (br l))):=by
 rw[u81]
 delta Sr qG qB qC qT qS qX qL qZ iL iR Jn
 have hlen:=cY 32 _ t;have e:=cH (br l);have j:am (sgn neg (br l))=.st [.bool false,.bool (neg&&decide (0<(aE (br l)).length)),eJ (aE (br l))]:=by
  have m:(sgn neg (br l)).natAbs=br l:=by unfold sgn;split<;>omega
  have o:(0<(aE (br l)).length)↔br l≠0:=by
   rw[List.length_pos_iff];exact not_congr uz
  unfold am;rw[m];have:decide (sgn neg (br l)<0)=(neg&&decide (0<(aE (br l)).length)):=by
   simp only[o,sgn];cases neg
   ·simp<;>omega
   ·by_cases h:br l=0
    ·simp[h]
    ·simp[h]<;>omega
  rw[this]
 rw[j];refine aa (Cl n hl) ?_;rw[jF p];generalize aE (br l)=d at hlen e;refine aa (z:=ag d) rfl (aa cM (aa ab (aC (by show ¬ ((ag d).length:Int)>32;rw[ao];omega) ?_)))
 refine aa ab (aa (z:=neg&&decide (0<d.length)) ?_ ?_)
 ·cases neg
  ·rfl
  ·rw[if_pos rfl];refine aa (z:=ag d) rfl (aa cM ?_);rw[ab,ao];simp
 refine bF (λk s=>s=[I (k:Int),.st [.bool false,.bool (neg&&decide (0<d.length)),eJ (d.take k)]]) d.length 0 (zja _) rfl (λk hk s g=>?_) (λs g=>?_)
 ·subst g;left;refine⟨_,?_,rfl⟩;have r:=e.getD k;refine aa (z:=ag d) rfl (aa af (aa ab (aB (by show(k:Int)<((ag d).length:Int);rw[ao];omega) ?_)))
  refine aa (z:=(0,[.st [.bool false,.bool (neg&&decide (0<d.length)),eJ (d.take (k+1))]])) ?_ (aa (aw (ay (i:=k) (by omega))) rfl)
  refine aa (Of k) ?_;have c:k/2<16:=by omega
  have hq:D.bin .quo (I (k:Int)) (.int .i64 2)=some (I (k/2:Nat)):=j6 (b:=2) (by decide) (by omega)
  have a:fr (d.take k) (k/2)=if k%2=0 then 0 else d.getD (2*(k/2)) 0:=by
   simp only[fr,kT];by_cases hk2:k%2=0
   ·rw[if_pos hk2,if_neg (show ¬ 2*(k/2)<k by omega),if_neg (show ¬ 2*(k/2)+1<k by omega)]
   ·rw[if_neg hk2,if_pos (show 2*(k/2)<k by omega),if_neg (show ¬ 2*(k/2)+1<k by omega)];omega
  have q:=e.getD (2*(k/2));by_cases hk2:k%2=0
  ·rw[if_pos hk2] at a;rw[hk2];refine aa (z:=true) rfl ?_;rw[if_pos rfl];refine aa hq (aa hq (aa (ap c) (aa (AT c) (aa (z:=ag d) rfl (aa (z:=k) (by rw[ao];exact ap hk) (aa (dC hk) (aa (DW (by omega)) (aa (Hg (by rw[a];omega)) (aa (ap c) (aa (uZ c (l':=d.take (k+1)) ?_) rfl))))))))))
   intro i;by_cases f:i=k/2
   ·rw[if_pos f,a,f];simp only[fr,kT];rw[if_pos (show 2*(k/2)<k+1 by omega),if_neg (show ¬ 2*(k/2)+1<k+1 by omega),show 2*(k/2)=k by omega];omega
   ·rw[if_neg f];simp only[fr,kT];have a1:(2*i<k+1)↔(2*i<k):=by omega
    have a2:(2*i+1<k+1)↔(2*i+1<k):=by omega
    simp only[a1,a2]
  ·rw[if_neg hk2] at a;refine aa (z:=false) (by rw[show k%2=1 by omega];rfl) ?_
   rw[if_neg (by decide)]
   refine aa hq (aa hq (aa (ap c) (aa (AT c) (aa (z:=ag d) rfl (aa (z:=k) (by rw[ao];exact ap hk) (aa (dC hk) (aa (DW (by omega)) (aa (Oj (b:=65536) (by omega)) (aa (Hg (by rw[a];omega)) (aa (ap c) (aa (uZ c (l':=d.take (k+1)) ?_) rfl)))))))))))
   intro i;by_cases f:i=k/2
   ·rw[if_pos f,a,f];simp only[fr,kT];rw[if_pos (show 2*(k/2)<k+1 by omega),if_pos (show 2*(k/2)+1<k+1 by omega),show 2*(k/2)+1=k by omega];omega
   ·rw[if_neg f];simp only[fr,kT];have a1:(2*i<k+1)↔(2*i<k):=by omega
    have a2:(2*i+1<k+1)↔(2*i+1<k):=by omega
    simp only[a1,a2]
 ·subst g;refine⟨(0,[.st [.bool false,.bool (neg&&decide (0<d.length)),eJ (d.take d.length)]]),?_,?_⟩
  ·exact aa (z:=ag d) rfl (aa af (aa ab (aC (by show ¬ (d.length:Int)<((ag d).length:Int);rw[ao];omega) rfl)))
  ·rw[zfb];rfl
def c82(n:Nat){a b:List Nat}(t:dl a)(u:dl b)(E:a.length<=900000)(F:b.length<=900000):cA (n+2) 82 [.sl (ag a),.sl (ag b)]=some (.sl (ag (aE (br a+br b)))):=by
 rw[u82]
 delta Ss qB qC qS qV qW qZ iL iR Jn
 obtain⟨M,A⟩:∃ M,M=max a.length b.length:=⟨_,rfl⟩;have f:∀ k:Nat,D.max2 (D.int .i64 (ag a).length) (D.int .i64 (ag b).length)=some (I (M:Int)):=λ_=>by
  rw[Em,ao,ao,A];congr 2;omega
 refine bF (λk s=>∃ (out:List Nat) (c:Nat),s=[.sl (ag out),I (c:Int),I (k:Int)]/\out.length=k/\dl out/\c<=1/\br out+c*65536^k=vt a k+vt b k) (M+1) 0 (zja _) ⟨[],0,rfl,rfl,(by intro d C;cases C),by omega,by simp[br,vt]⟩ (λk hk s j=>?_) (λs j=>?_)
 ·obtain⟨out,c,rfl,o,g,hc,p⟩:=j;left;have h1:=t.getD k;have G:=u.getD k;refine⟨[.sl (ag (out++[(a.getD k 0+b.getD k 0+c)%65536])),I ((a.getD k 0+b.getD k 0+c)/65536:Nat),I ((k+1:Nat):Int)],?_,out++[(a.getD k 0+b.getD k 0+c)%65536],(a.getD k 0+b.getD k 0+c)/65536,rfl,by simp[o],g.append (λx hx=>by simp at hx;omega),by omega,?_⟩
  ·refine aa (z:=ag a) rfl (aa (z:=ag b) rfl (aa (f 0) (aa (aw (ay (i:=M) (by omega))) (aa af (aa ab (aB (by show(k:Int)<(M:Int)+1;omega) ?_))))))
   refine aa (Cm n a k) (aa (Cm n b k) (aa (aw (by simp only[inR];omega)) (aa (aw (by simp only[inR];omega)) ?_)))
   rw[show(((a.getD k 0:Nat):Int)+((b.getD k 0:Nat):Int)+(c:Int))=((a.getD k 0+b.getD k 0+c:Nat):Int) by omega]
   refine aa (mu (b:=65536) (by decide)) ?_
   rw[if_pos (by simp only[g0,D.els,ao,zKa,zyb];omega)]
   refine aa (j6 (b:=65536) (by decide) (by omega)) (aa (aw (ay (i:=k) (by omega))) ?_)
   simp only[g0,D.els,xe];rfl
  ·rw[mE,o,vt,vt,ztb];have e:a.getD k 0+b.getD k 0+c=(a.getD k 0+b.getD k 0+c)%65536+65536*((a.getD k 0+b.getD k 0+c)/65536):=by omega
   have y:br [(a.getD k 0+b.getD k 0+c)%65536]=(a.getD k 0+b.getD k 0+c)%65536:=by simp[br]
   rw[y];generalize 65536^k=B at *;generalize (a.getD k 0+b.getD k 0+c)%65536=r at *;generalize (a.getD k 0+b.getD k 0+c)/65536=q at *;have:(a.getD k 0+b.getD k 0+c)*B=(r+65536*q)*B:=by rw[e]
   rw[z8a,z8a,z8a] at this;rw[show q*(B*65536)=65536*q*B by rw[zGa B,<-zPa,zGa q],zGa B r]
   omega
 ·obtain⟨out,c,rfl,o,g,hc,p⟩:=j;refine⟨(0,[.sl (ag out)]),?_,?_⟩
  ·refine aa (z:=ag a) rfl (aa (z:=ag b) rfl (aa (f 0) (aa (aw (ay (i:=M) (by omega))) (aa af (aa ab (aC (by show ¬ (((M+1:Nat):Int)<(M:Int)+1);omega) rfl))))))
  ·refine aa (Cl n (l:=out) (by omega)) ?_
   have v:vt a (M+1)=br a:=iY (by omega)
   have w:vt b (M+1)=br b:=iY (by omega)
   have la:=vX t M;have lb:=vX u M;rw[iY (show a.length<=M by omega)] at la
   rw[iY (show b.length<=M by omega)] at lb
   have m:c=0:=by
    rcases zDb c with h|h
    ·exact h
    ·have:1*65536^(M+1)<=c*65536^(M+1):=zya _ h;rw[ztb] at this;rw[v,w,ztb] at p;omega
   subst m;rw[jF g,<-v,<-w,<-p];simp
def GB(n:Nat){x:Int}(hx:inR x):cA (n+3) 34 [I x]=some (am x):=by
 rw[u34]
 delta RY qB qC Jn
 obtain⟨h1,c⟩:=hx;have d1:∀ m:Nat,(m:Int)<=9223372036854775807->dl [m%65536,m/65536%65536,m/4294967296%65536,m/281474976710656]:=λm hm d g=>by
  simp only[zwa,zgc,or_false] at g;omega
 have d2:∀ m:Nat,br [m%65536,m/65536%65536,m/4294967296%65536,m/281474976710656]=m:=λm=>by
  simp only[br];omega
 have d3:∀ m:Nat,D.sl [I (m%65536:Nat),I (m/65536%65536:Nat),I (m/4294967296%65536:Nat),I (m/281474976710656:Nat)]=.sl (ag [m%65536,m/65536%65536,m/4294967296%65536,m/281474976710656]):=λm=>rfl;have a:∀ m:Nat,(m:Int)<=9223372036854775808->m<65536^32:=λm hm=>by
  have:(65536:Nat)^4<=65536^32:=zpa (by decide) (by decide)
  have e:(65536:Nat)^4=18446744073709551616:=by decide
  omega
 refine aa fB (aa ab ?_);by_cases h:x ≥ 0
 ·refine aB h ?_;obtain⟨m,rfl⟩:=zCc h;refine aa (mu (b:=65536) (by decide)) (aa (j6 (b:=65536) (by decide) c) (aa (mu (b:=65536) (by decide)) (aa (j6 (b:=4294967296) (by decide) c) (aa (mu (b:=65536) (by decide)) (aa (j6 (b:=281474976710656) (by decide) c) ?_)))))
  refine aa (z:=am m) ?_ rfl;rw[d3,SH n (d1 m c) (by simp) (by rw[d2];exact a m (by omega)),d2];rfl
 ·refine aC h ?_;obtain⟨m,hm⟩:=zCc (show 0<=-(x+1) by omega)
  have f:(m:Int)<=9223372036854775807:=by omega
  refine aa (aw (by simp only[inR];omega)) (aa (oE (by simp only[inR];omega)) ?_)
  rw[hm];refine aa (mu (b:=65536) (by decide)) (aa (j6 (b:=65536) (by decide) f) (aa (mu (b:=65536) (by decide)) (aa (j6 (b:=4294967296) (by decide) f) (aa (mu (b:=65536) (by decide)) (aa (j6 (b:=281474976710656) (by decide) f) ?_)))))
  rw[d3];refine aa (c82 n (b:=[1]) (d1 m f) (λd g=>by simp at g;omega) (by simp) (by simp)) (aa (z:=am x) ?_ rfl)
  rw[d2];have i:br [1]=1:=rfl;rw[i,SH n (cH _) ?_ ?_,bA]
  ·congr 2;simp only[sgn,if_true];omega
  ·have:=cY 32 _ (a (m+1) (by omega));omega
  ·rw[bA];exact a (m+1) (by omega)
end Sy
end
noncomputable section
namespace Sy
open Go Go.Proofs Geo
def In(x:Int):Prop:=x.natAbs<65536^32
def In.of{x:Int}(h:inR x):In x:=by
 have:(65536:Nat)^4<=65536^32:=zpa (by decide) (by decide)
 have e:(65536:Nat)^4=18446744073709551616:=by decide
 obtain⟨h1,a⟩:=h;unfold In;omega
def jd(m i:Nat):fr (aE m) i=m/4294967296^i%4294967296:=by
 have a:65536^(2*i)=4294967296^i:=by rw[Nat.pow_mul]
 have b:65536^(2*i+1)=4294967296^i*65536:=by rw[ztb,a]
 unfold fr;rw[rt,rt,a,b,<-zTa];generalize m/4294967296^i=q;omega
def NP(m:Nat):fr (aE m) 0=m%4294967296:=by rw[jd,zyc,zWc]
def Ii(m:Nat):fr (aE m) 1=m/4294967296%4294967296:=by rw[jd,Nat.pow_one]
def Rc{m i:Nat}(h:m<18446744073709551616)(a:2<=i):fr (aE m) i=0:=by
 rw[jd];have:(4294967296:Nat)^2<=4294967296^i:=zpa (by decide) a
 rw[z2a (by omega)]
def Nq{a b:Nat}:D.beq (U a) (U b)=decide (a=b):=by
 simp only[D.beq,decide_true,zsb];by_cases h:a=b
 ·simp[h]
 ·simp[h];omega
def u4{m:Nat}(hm:m<65536^32)(h:∀ i,i<16->fr (aE m) i=0):m=0:=by
 have b:∀ i,i<32->(aE m).getD i 0=0:=λi c=>by
  have:=h (i/2) (by omega)
  unfold fr at this;rcases Nat.mod_two_eq_zero_or_one i with e|e
  ·rw[show 2*(i/2)=i by omega] at this;omega
  ·rw[show 2*(i/2)+1=i by omega] at this;omega
 have a:∀ k,k<=32->vt (aE m) k=0:=λk=>by
  induction k with
  | zero=>intro _;rfl
  | succ k ih=>intro hk;rw[vt,ih (by omega),b k (by omega)];simp
 have:=a 32 (by omega)
 rw[iY (cY 32 _ hm),bA] at this;exact this
def zB(m i:Nat):Bool:=(List.range i).all λk=>decide (fr (aE m) k=0)
def Nh(m i:Nat):zB m (i+1)=(zB m i&&decide (fr (aE m) i=0)):=by
 unfold zB;rw[z5b,zfd];simp
def WF(n:Nat){x:Int}(hx:In x):cA (n+1) 139 [am x]=some (.bool true):=by
 rw[Pw]
 delta EZ qG qB qC qT qN qZ iL iR Jn
 have fin:∀ z:Bool,(z=true->x=0)->(Option.bind (D.get (am x) [0]) λj=>Option.bind (D.truth j) λb=>
   if b then(Option.bind (D.truth (.bool z)) λc=>Option.bind (if c then(Option.bind (D.get (am x) [1]) λk=>Option.bind (D.un .not k) λl=>D.truth l) else(some false)) λd=>
   some (D.bool d)) else(Option.bind (D.un .not (.bool z)) λm=>Option.bind (D.truth m) λe=>
   Option.bind (if e then(some true) else(Option.bind (D.get (am x) [1]) λo=>Option.bind (D.un .not o) λp=>D.truth p)) λf=>some (D.bool f)))=some (.bool true):=by
  intro z q;refine aa (z:=.bool false) rfl (aa (z:=false) rfl ?_);rw[if_neg (by decide)]
  refine aa (z:=.bool (!z)) rfl (aa (z:=!z) rfl ?_);cases z with
  | false=>rfl
  | true=>
   have:=q rfl;subst this;rfl
 refine bF (λi s=>s=[.bool (zB x.natAbs i),I (i:Int)]) 16 0 (zja _) rfl (λi a s g=>?_) (λs g=>?_)
 ·subst g;left;refine⟨_,?_,rfl⟩;refine aa af (aa ab (aB (by show(i:Int)<16;omega) (aa ab (aa (z:=zB x.natAbs (i+1)) ?_ (aa (aw (ay (i:=i) (by omega))) rfl)))))
  rw[Nh];cases zB x.natAbs i with
  | false=>rfl
  | true=>
   rw[if_pos rfl];refine aa (ap a) (aa (dw a) ?_);show D.truth (D.bool (D.beq (U (fr (aE x.natAbs) i)) (U 0)))=_;rw[Nq,ab];rfl
 ·subst g;refine⟨(0,[.bool (zB x.natAbs 16)]),?_,?_⟩
  ·exact aa af (aa ab (aC (by decide) rfl))
  ·refine fin _ λh=>?_;have:=u4 hx (λi a=>of_decide_eq_true (zma.1 h i (zLa.2 a)));omega
def B9(n:Nat){x:Int}(hx:In x):cA (n+2) 76 [am x]=some (.bool true):=by
 rw[Zd]
 delta PK qG qT
 exact aa (WF n hx) (aa ab rfl)
def Hj(n:Nat){x:Int}(hx:x.natAbs<4611686018427387904):cA (n+3) 124 [am x]=some (.tup [I x,.bool true]):=by
 have b:In x:=In.of (by simp only[inR];omega)
 rw[Ru]
 delta GO qG qB qC qT qN qZ iL iR Jn
 have d:=Ii x.natAbs;refine aa (B9 n b) (aa bn (aa ab (aa (z:=false) ?_ (aa ab ?_))))
 ·rw[if_neg (by decide)]
  refine aa (dw (i:=1) (by decide)) ?_
  rw[d];have:D.bin .geq (U (x.natAbs/4294967296%4294967296)) (.int .u32 1073741824)=some (.bool false):=by
   simp only[D.bin,if_true];rw[decide_eq_false (by omega)]
  exact aa this rfl
 ·rw[if_neg (by decide)]
  refine bF (λi s=>s=[I (i:Int)]/\2<=i) 16 2 (by decide) ⟨rfl,by decide⟩ (λi c s a=>?_) (λs a=>?_)
  ·obtain⟨rfl,f⟩:=a;left;refine⟨_,?_,rfl,by omega⟩
   refine aa af (aa ab (aB (by show(i:Int)<16;omega) ?_))
   refine aa (ap c) (aa (dw c) ?_);rw[Rc (by omega) f]
   refine aa (z:=false) rfl ?_;rw[if_neg (by decide)]
   exact aa (aw (ay (i:=i) (by omega))) rfl
  ·obtain⟨rfl,_⟩:=a;refine⟨(1,[]),aa af (aa ab (aC (by decide) rfl)),?_⟩
   rw[if_neg (by decide)]
   have e:=NP x.natAbs;refine aa (dw (i:=1) (by decide)) (aa (tM (ze (cH _) 1)) ?_)
   rw[d];refine aa (cz (by simp only[inR];omega)) (aa (dw (i:=0) (by decide)) (aa (tM (ze (cH _) 0)) ?_))
   rw[e];refine aa (aw (by simp only[inR];omega)) (aa (z:=.bool (decide (x<0))) rfl (aa ab ?_))
   by_cases hx0:x<0
   ·refine aB hx0 ?_;refine aa (oE (by simp only[inR];omega)) ?_
    congr 4;omega
   ·refine aC hx0 ?_;congr 4;omega
def WG(n:Nat){x:Int}(hx:In x):cA (n+3) 142 [am x]=some (am x.natAbs):=by
 rw[Ya]
 delta Kh qN
 have hl:=cY 32 _ hx;refine aa (B9 n hx) (aa bn (aa ab ?_));refine aa (OF n hx) (aa (z:=am x.natAbs) ?_ rfl);rw[SH n (cH _) (by omega) (by rw[bA];exact hx),bA];rfl
def Xi(n:Nat){a b:List Nat}(p:dl a)(q:dl b)(r:a.length<=900000)(t:b.length<=900000):cA (n+2) 78 [.sl (ag a),.sl (ag b)]=some (.bool (decide (br a<br b))):=by
 rw[u78]
 delta Sp qB qC qT qS qZ iL iR Jn
 obtain⟨M,o⟩:∃ M,M=max a.length b.length:=⟨_,rfl⟩;have c:D.max2 (D.int .i64 (ag a).length) (D.int .i64 (ag b).length)=some (I (M:Int)):=by
  rw[Em,ao,ao,o];congr 2;omega
 have f:vt a M=br a:=iY (by omega)
 have g:vt b M=br b:=iY (by omega)
 refine aa (z:=ag a) rfl (aa (z:=ag b) rfl (aa c (aa (dj (by simp only[inR];omega)) ?_)))
 refine bF (λi s=>s=[I ((M:Int)-1-i)]/\(br a<br b↔vt a (M-i)<vt b (M-i))) M 0 (zja _) ⟨by simp,by simp[f,g]⟩ (λi w s e=>?_) (λs e=>?_)
 ·obtain⟨rfl,d⟩:=e;obtain⟨k,hk⟩:∃ k,M-i=k+1:=⟨M-i-1,by omega⟩
  rw[hk,vt,vt] at d;have m:(M:Int)-1-i=(k:Int):=by omega
  rw[m];have la:=vX p k;have lb:=vX q k;have j:=Cm n a k;have l:=Cm n b k;by_cases hab:a.getD k 0=b.getD k 0
  ·left;refine⟨[I ((M:Int)-1-(i+1:Nat))],?_,rfl,?_⟩
   ·refine aa fB (aa ab (aB (by show(k:Int) ≥ 0;omega) (aa j (aa l (aa (z:=false) ?_ ?_)))))
    ·rw[hab,cO,decide_eq_true rfl];rfl
    ·rw[if_neg (by decide)]
     refine aa (dj (by simp only[inR];omega)) ?_
     congr 4;omega
   ·rw[d,hab,show M-(i+1)=k by omega];omega
  ·right;refine⟨(0,[.bool (decide (a.getD k 0<b.getD k 0))]),?_,?_⟩
   ·refine aa fB (aa ab (aB (by show(k:Int) ≥ 0;omega) (aa j (aa l (aa (z:=true) ?_ ?_)))))
    ·rw[cO,decide_eq_false hab];rfl
    ·rw[if_pos rfl];refine aa j (aa l (aa af ?_));simp
   ·rw[if_pos rfl];show some (D.bool (decide (a.getD k 0<b.getD k 0)))=_;congr 3;rw[eq_iff_iff,d];generalize a.getD k 0=u at *;generalize b.getD k 0=v at *;generalize 65536^k=B at *;constructor
    ·intro h;have:(u+1)*B<=v*B:=zya _ h;rw[z8a] at this;omega
    ·intro h;rcases zla u v with h1|h1
     ·exact h1
     ·have:(v+1)*B<=u*B:=zya _ (by omega)
      rw[z8a] at this;omega
 ·obtain⟨rfl,d⟩:=e;refine⟨(1,[]),?_,?_⟩
  ·exact aa fB (aa ab (aC (by show ¬ ((M:Int)-1-(M:Nat)) ≥ 0;omega) rfl))
  ·rw[if_neg (by decide)]
   have:¬ br a<br b:=by rw[d];simp[vt]
   rw[decide_eq_false this]
def Zm(n:Nat){x y:Int}(hx:In x)(c:In y):cA (n+3) 32 [am x,am y]=some (I (bq x y)):=by
 rw[u32]
 delta RW qG qT qN Jn
 have h:=cY 32 _ hx;have i:=cY 32 _ c;have gx:=B9 n hx;have f:=B9 n c;have a:=OF n hx;have b:=OF n c;refine aa gx (aa bn (aa ab (aa (z:=false) rfl (aa (z:=false) rfl ?_))));rw[if_neg (by decide)]
 refine aa gx (aa bn (aa (z:=false) rfl ?_));rw[if_neg (by decide)]
 refine aa f (aa bn (aa (z:=false) rfl ?_));rw[if_neg (by decide)]
 refine aa (z:=.bool (decide (x<0))) rfl (aa (z:=.bool (decide (y<0))) rfl ?_);have d:=Xi n (cH x.natAbs) (cH y.natAbs) (by omega) (by omega)
 have e:=Xi n (cH y.natAbs) (cH x.natAbs) (by omega) (by omega)
 simp only[bA] at d e;have g:∀ p q:Bool,D.truth (.bool (!(D.beq (.bool p) (.bool q))))=some (!(p==q)):=λp q=>rfl;rw[g];refine aa rfl ?_;by_cases h1:x<0<;>by_cases h2:y<0
 ·rw[decide_eq_true h1,decide_eq_true h2,if_neg (by decide)]
  refine aa a (aa b (aa (z:=(0,[.sl (ag (aE y.natAbs)),.sl (ag (aE x.natAbs))])) ?_ ?_))
  ·refine aa (z:=.bool true) (by rw[show D.get (am x) [1]=some (.bool (decide (x<0))) from rfl,decide_eq_true h1]) (aa (z:=true) rfl ?_)
   rw[if_pos rfl];exact aa b (aa a rfl)
  ·refine aa e (aa d (aa ab ?_));by_cases h3:y.natAbs<x.natAbs
   ·refine aB h3 ?_;simp[bq,show x<y by omega]
   ·refine aC h3 (aa ab ?_);by_cases h4:x.natAbs<y.natAbs
    ·refine aB h4 ?_;simp[bq,show ¬ x<y by omega,show y<x by omega]
    ·refine aC h4 ?_;simp[bq,show ¬ x<y by omega,show ¬ y<x by omega]
 ·rw[decide_eq_true h1,decide_eq_false h2,if_pos (by decide)]
  refine aa (z:=.bool true) (by rw[show D.get (am x) [1]=some (.bool (decide (x<0))) from rfl,decide_eq_true h1]) (aa (z:=true) rfl ?_)
  simp[bq,show x<y by omega]
 ·rw[decide_eq_false h1,decide_eq_true h2,if_pos (by decide)]
  refine aa (z:=.bool false) (by rw[show D.get (am x) [1]=some (.bool (decide (x<0))) from rfl,decide_eq_false h1]) (aa (z:=false) rfl ?_)
  simp[bq,show ¬ x<y by omega,show y<x by omega]
 ·rw[decide_eq_false h1,decide_eq_false h2,if_neg (by decide)]
  refine aa a (aa b (aa (z:=(0,[.sl (ag (aE x.natAbs)),.sl (ag (aE y.natAbs))])) ?_ ?_))
  ·refine aa (z:=.bool false) (by rw[show D.get (am x) [1]=some (.bool (decide (x<0))) from rfl,decide_eq_false h1]) (aa (z:=false) rfl rfl)
  ·refine aa d (aa e (aa ab ?_));by_cases h3:x.natAbs<y.natAbs
   ·refine aB h3 ?_;simp[bq,show x<y by omega]
   ·refine aC h3 (aa ab ?_);by_cases h4:y.natAbs<x.natAbs
    ·refine aB h4 ?_;simp[bq,show ¬ x<y by omega,show y<x by omega]
    ·refine aC h4 ?_;simp[bq,show ¬ x<y by omega,show ¬ y<x by omega]
end Sy
end
noncomputable section
namespace Sy
open Go Go.Proofs Geo
def Wd(x:Int):Prop:=x.natAbs<4611686018427387904
theorem Wd.inR{x:Int}(h:Wd x):inR x:=by unfold Wd at h;simp only[Sy.inR];omega
theorem Wd.In{x:Int}(h:Wd x):In x:=In.of h.inR
def WI(n:Nat){a b:Int}(g:Wd a)(c:b≠0)(h:b ∣ a):cA (n+1) 144 [I a,I b]=some (I (a/b)):=by
 rw[Yc]
 delta Kj qB qT Jn
 obtain⟨q,rfl⟩:=h;have d:(b*q).tdiv b=q:=zud _ c;have e:b*q/b=q:=zhb _ c;have f:(b*q).tmod b=0:=Int.mul_tmod_right ..;have hq:Sy.inR q:=by
  have:q.natAbs<=(b*q).natAbs:=by rw[zHa];exact zXb _ (by omega)
  unfold Wd at g;simp only[Sy.inR];omega
 rw[e];refine aa (sH c (by rw[d];exact hq)) (aa (z:=(0,[I q])) (aa (mr c) ?_) rfl)
 rw[d,f];exact aa (z:=false) rfl (aa (z:=false) rfl (aa ab rfl))
def SI(n:Nat){a b:Int}(d:Wd a)(c:Wd b):cA (n+4) 85 [am a,am b]=some (am (Nat.gcd a.natAbs b.natAbs:Nat)):=by
 rw[Zw]
 delta P6 qB qC qT qN qS qZ iL iR Jn
 refine aa (Hj n d) (aa (z:=I a) rfl (aa (z:=.bool true) rfl (aa (Hj n c) (aa (z:=I b) rfl (aa (z:=.bool true) rfl (aa (z:=true) rfl (aa (z:=true) rfl (aa (z:=true) rfl ?_))))))));rw[if_pos rfl];obtain⟨r,h1,g⟩:=AP (body:=λ(v1:List D)=>
  Option.bind (D.truth (D.bool (!(D.beq (gx v1 1) (D.int .i64 0))))) λf=>
  if f then(Option.bind (D.bin .rem (gx v1 0) (gx v1 1)) λh=>
  some (Sum.inl [(gx v1 1),h])) else(some (Sum.inr (0,[(gx v1 0)]))))
  (λa b c=>by simp only[g0,g1,bR,ab,zba,c,decide_false,zPb,if_true,mr c])
  (λa=>by simp only[g0,g1,bR,ab,zba,decide_true,zkc,zxa,if_false]) _ a b rfl
 refine oW h1 ?_;have i:Nat.gcd a.natAbs b.natAbs<=4611686018427387903:=by unfold Wd at d c;exact rE (by omega) (by omega)
 have e:Sy.inR r:=by simp only[Sy.inR];omega
 refine aa (GB n e) (aa (WG n (In.of e)) ?_);rw[g]
def QJ(n:Nat){x:Int}(hx:In x):cA (n+3) 83 [am x]=some (I (sg x)):=by
 rw[u83]
 delta Su qG qT qN qS Jn
 refine aa (B9 n hx) (aa bn (aa (z:=false) rfl (aa (z:=decide (x=0)) ?_ (aa ab ?_))))
 ·rw[if_neg (by decide)]
  refine aa (OF n hx) (aa (z:=ag (aE x.natAbs)) rfl ?_);rw[ab,ao];show some (D.beq (I ((aE x.natAbs).length:Nat)) (I (0:Nat)))=_;rw[cO];congr 1;rw[decide_eq_decide,zBc,uz];omega
 ·by_cases h0:x=0
  ·refine aB h0 ?_;subst h0;rfl
  ·refine aC h0 (aa (z:=.bool (decide (x<0))) rfl (aa ab ?_));by_cases h1:x<0
   ·refine aB h1 ?_;rw[zJ h1]
   ·refine aC h1 ?_;rw[gU (by omega)]
def Xj(n:Nat){a b:Int}(d:Wd a)(f:Wd b)(c:b≠0)(e:b ∣ a):cA (n+4) 87 [am a,am b]=some (am (a/b)):=by
 rw[u87]
 delta Sw qG qB qT qN qS Jn
 refine aa (Hj n d) (aa (z:=I a) rfl (aa (z:=.bool true) rfl (aa (Hj n f) (aa (z:=I b) rfl (aa (z:=.bool true) rfl (aa (z:=true) rfl (aa (z:=true) rfl (aa (z:=true) rfl (aa (z:=true) ?_ (aa (z:=true) rfl ?_))))))))))
 ·rw[if_pos rfl,bR,decide_eq_false c];rfl
 ·rw[if_pos rfl];have hq:Sy.inR (a/b):=by
   obtain⟨q,rfl⟩:=e;rw[zhb _ c];have:q.natAbs<=(b*q).natAbs:=by rw[zHa];exact zXb _ (by omega)
   unfold Wd at d;simp only[Sy.inR];omega
  exact aa (WI (n+2) d c e) (aa (GB n hq) rfl)
abbrev SF(n:Nat):D:=.int .u64 (n:Int)
def dQ{n:Int}(h:0<=n/\n<18446744073709551616):IntKind.wrap .u64 n=n:=by
 obtain⟨h1,a⟩:=h;simp only[IntKind.wrap,IntKind.signed,IntKind.bits];first
  | omega
  | (simp;omega)
def Ot(n:Nat){x:Int}(hx:Wd x):cA (n+4) 186 [am x]=some (.tup [I x,.bool true]):=by
 rw[Yq]
 delta Ky qG qB qC qT qN Jn
 have a:x.natAbs<4611686018427387904:=hx;have i1:Sy.inR (-9223372036854775808):=⟨by decide,by decide⟩
 have i2:Sy.inR 9223372036854775807:=⟨by decide,by decide⟩
 refine aa (B9 (n+1) hx.In) (aa bn (aa (z:=false) rfl ?_));rw[if_neg (by decide)]
 refine aa (GB n i1) (aa (GB n i2) (aa (Zm n hx.In (In.of i1)) ?_));rw[show bq x (-9223372036854775808)=1 by unfold bq;rw[if_neg (by omega),if_pos (by omega)]]
 refine aa (z:=.bool false) af (aa (z:=false) rfl (aa (z:=false) ?_ (aa (z:=false) rfl ?_)))
 ·rw[if_neg (by decide)]
  refine aa (Zm n hx.In (In.of i2)) ?_;rw[show bq x 9223372036854775807=-1 by unfold bq;rw[if_pos (by omega)]]
  exact aa (z:=.bool false) cM rfl
 ·rw[if_neg (by decide)]
  have b:=Ii x.natAbs;have l0:=NP x.natAbs;refine aa (dw (i:=1) (by decide)) ?_
  rw[b];refine aa (z:=SF (x.natAbs/4294967296%4294967296)) (by simp only[D.conv];rw[dQ (by omega)]) ?_
  refine aa (z:=SF (x.natAbs/4294967296%4294967296*4294967296)) (by simp only[D.bin,if_true];rw[dQ (by omega)];simp) ?_
  refine aa (dw (i:=0) (by decide)) ?_
  rw[l0];refine aa (z:=SF (x.natAbs%4294967296)) (by simp only[D.conv];rw[dQ (by omega)]) ?_
  refine aa (z:=SF x.natAbs) (by simp only[D.bin,if_true];rw[dQ (by omega)];congr 2;omega) ?_
  refine aa (z:=I (x.natAbs:Nat)) (by simp only[D.conv];rw[iZ (by simp only[Sy.inR];omega)]) ?_
  refine aa (z:=(0,[I x])) (aa (z:=.bool (decide (x<0))) rfl (aa ab ?_)) rfl;by_cases h:x<0
  ·refine aB h (aa (oE (by simp only[Sy.inR];omega)) ?_)
   congr 4;omega
  ·refine aC h ?_;congr 4;omega
def WR(n:Nat){v:V}(e:bd 2305843009213693951 v):cA (n+1) 187 [ac v]=some (.bool true):=by
 rw[Yr]
 delta Kz qB qC qT qJ qZ iL iR Jn
 have a:∀ x:Int,(-2305843009213693951<=x/\x<=2305843009213693951)->∀ (i:Nat) (d:i<3),D.get (ac v) [i]=some (I x)->(Option.bind (D.idx (I (i:Int)) 3) λi4=>Option.bind (D.get (ac v) [i4]) λk=>Option.bind (D.bin .geq k (D.int .i64 2305843009213693952)) λl=>Option.bind (D.truth l) λj=>
  Option.bind (if j then(some true) else(Option.bind (D.idx (I (i:Int)) 3) λi8=>Option.bind (D.get (ac v) [i8]) λm=>Option.bind (D.bin .leq m (D.int .i64 (-2305843009213693952))) λf=>D.truth f)) λb=>
  Option.bind (D.truth (D.bool b)) λc=>if c then(some (Sum.inr (0,[(D.bool false)]))) else(Option.bind (D.bin .add (I (i:Int)) (D.int .i64 1)) λg=>some (Sum.inl [g])))=some (Sum.inl [I ((i+1:Nat):Int)]:Sum (List D) (Nat×List D)):=λx hx i d h=>by
  refine aa (ap d) (aa h (aa fB (aa ab (aa (z:=false) ?_ (aa (z:=false) rfl ?_)))))
  ·refine aC (by omega) (aa (ap d) (aa h (aa lV ?_)))
   rw[ab,decide_eq_false (by omega)]
  ·rw[if_neg (by decide)]
   exact aa (aw (ay (i:=i) (by omega))) rfl
 refine cP (s':=[I (1:Nat)]) (aa af (aa ab (aB (by decide) (a v.x e.1 0 (by decide) rfl)))) (cP (s':=[I (2:Nat)]) (aa af (aa ab (aB (by decide) (a v.y e.2.1 1 (by decide) rfl)))) (cP (s':=[I (3:Nat)]) (aa af (aa ab (aB (by decide) (a v.z e.2.2 2 (by decide) rfl)))) (gt (r:=(1,[])) (aa af (aa ab (aC (by decide) rfl))) rfl)))
def gE(v:V):D:=.st [am v.x,am v.y,am v.z]
def c80(n:Nat){v:V}(hx:inR v.x)(a:inR v.y)(b:inR v.z):cA (n+4) 80 [ac v]=some (gE v):=by
 rw[u80]
 delta Sq qG
 exact aa (oS v) (aa (GB n hx) (aa (oT v) (aa (GB n a) (aa (oU v) (aa (GB n b) rfl)))))
def Qo(n:Nat){v:V}(l:bd 2305843009213693951 v):cA (n+5) 155 [gE v]=some (.st [ac (aG v),I (if v=V.zero then 31 else 0)]):=by
 rw[Yh]
 delta Ko qG qB qC qT qN qJ qZ iL iR Jn
 have p:Wd v.x:=by have:=l.1;unfold Wd;omega
 have d:Wd v.y:=by have:=l.2.1;unfold Wd;omega
 have s:Wd v.z:=by have:=l.2.2;unfold Wd;omega
 have h0:Sy.inR 0:=⟨by decide,by decide⟩
 have w0:Wd 0:=by unfold Wd;decide
 have u:Nat.gcd v.x.natAbs v.y.natAbs<=4611686018427387903:=by unfold Wd at p d;exact rE (by omega) (by omega)
 have G:a7 v<=4611686018427387903:=by
  unfold a7;have:=rE (a:=(Nat.gcd v.x.natAbs v.y.natAbs:Nat)) (b:=v.z) (k:=4611686018427387903) (by simpa using u) (by unfold Wd at s;omega)
  simpa using this
 have q:Wd (v.x.natAbs:Nat):=by unfold Wd at *;omega
 have w1:Wd (Nat.gcd v.x.natAbs v.y.natAbs:Nat):=by unfold Wd;omega
 have m:Wd (a7 v:Nat):=by unfold Wd;omega
 have e:=SI n w0 p;have f:=SI n q d;have g:=SI n w1 s;rw[show(Nat.gcd (0:Int).natAbs v.x.natAbs)=v.x.natAbs by simp] at e
 rw[show(Nat.gcd ((v.x.natAbs:Nat):Int).natAbs v.y.natAbs)=Nat.gcd v.x.natAbs v.y.natAbs by simp] at f
 rw[show(Nat.gcd ((Nat.gcd v.x.natAbs v.y.natAbs:Nat):Int).natAbs v.z.natAbs)=a7 v by simp[a7]] at g
 have fst:∀ {k:Nat×List D->Option D} {y:D},k (0,[am (a7 v:Nat)])=some y->Option.bind (cA (n+4) 34 [(D.int .i64 0)]) (λr1=>Option.bind (aS (λ(v2:List D)=>
   Option.bind (D.bin .lss (gx v2 0) (D.int .i64 3)) λB=>Option.bind (D.truth B) λt=>
   if t then(Option.bind (D.idx (gx v2 0) 3) λi5=>Option.bind (D.get (gE v) [i5]) λC=>Option.bind (cA (n+4) 85 [(gx v2 1),C]) λw=>
   Option.bind (D.bin .add (gx v2 0) (D.int .i64 1)) λE=>some (Sum.inl [E,w])) else(some (Sum.inr (0,[(gx v2 1)])))) [(D.int .i64 0),r1]) k)=some y:=by
  intro k y hk;refine aa (GB (n+1) h0) ?_;refine cP (s':=[I 1,am (v.x.natAbs:Nat)]) (aa af (aa ab (aB (by decide) (aa H9 (aa (z:=am v.x) rfl (aa e (aa (aw NJ) rfl))))))) ?_
  refine cP (s':=[I 2,am (Nat.gcd v.x.natAbs v.y.natAbs:Nat)]) (aa af (aa ab (aB (by decide) (aa Ia (aa (z:=am v.y) rfl (aa f (aa (aw tR) rfl))))))) ?_
  refine cP (s':=[I 3,am (a7 v:Nat)]) (aa af (aa ab (aB (by decide) (aa Ib (aa (z:=am v.z) rfl (aa g (aa (aw NK) rfl))))))) ?_
  exact gt (r:=(0,[am (a7 v:Nat)])) (aa af (aa ab (aC (by decide) rfl))) hk
 have i:=QJ (n+1) m.In;by_cases hz:a7 v=0
 ·refine fst (aa (z:=.bool false) rfl (aa (z:=false) rfl ?_));rw[if_neg (by decide)]
  refine aa i ?_;rw[hz];refine aa (z:=true) rfl ?_;rw[if_pos rfl];have o:v=V.zero:=by
   by_cases h:v=V.zero
   ·exact h
   ·have:=fa h;omega
  rw[o];rfl
 ·have c:(a7 v:Int)≠0:=by omega
  rw[if_neg (λh=>hz (by rw[h];rfl))]
  refine fst (aa (z:=.bool false) rfl (aa (z:=false) rfl ?_));rw[if_neg (by decide)]
  refine aa i ?_;rw[gU (show(0:Int)<a7 v by omega)]
  refine aa (z:=false) rfl ?_;rw[if_neg (by decide)]
  have j:=fk l;have F:=Xj n p m c (xa v);have z2:=Xj n d m c (xb v);have z3:=Xj n s m c (xc v);have s1:=Ot n (x:=v.x/(a7 v:Nat)) (by have:=j.1;unfold Wd;simp only[aG] at this;omega)
  have s2:=Ot n (x:=v.y/(a7 v:Nat)) (by have:=j.2.1;unfold Wd;simp only[aG] at this;omega)
  have A:=Ot n (x:=v.z/(a7 v:Nat)) (by have:=j.2.2;unfold Wd;simp only[aG] at this;omega)
  refine cP (s':=[I 1,.st [ac V.zero,I 0],.st [ac ⟨v.x/(a7 v:Nat),0,0⟩,I 0]]) ?_ (cP (s':=[I 2,.st [ac V.zero,I 0],.st [ac ⟨v.x/(a7 v:Nat),v.y/(a7 v:Nat),0⟩,I 0]]) ?_ (cP (s':=[I 3,.st [ac V.zero,I 0],.st [ac ⟨v.x/(a7 v:Nat),v.y/(a7 v:Nat),v.z/(a7 v:Nat)⟩,I 0]]) ?_ (gt (r:=(1,[.st [ac V.zero,I 0],.st [ac (aG v),I 0]])) (aa af (aa ab (aC (by decide) rfl))) ?_)))
  ·refine aa af (aa ab (aB (by decide) (aa H9 (aa (z:=am v.x) rfl (aa F (aa s1 (aa (z:=I (v.x/(a7 v:Nat))) rfl (aa (z:=.bool true) rfl (aa (z:=.bool false) rfl (aa (z:=false) rfl ?_))))))))))
   rw[if_neg (by decide)]
   exact aa H9 (aa (z:=.st [ac ⟨v.x/(a7 v:Nat),0,0⟩,I 0]) rfl (aa (aw NJ) rfl))
  ·refine aa af (aa ab (aB (by decide) (aa Ia (aa (z:=am v.y) rfl (aa z2 (aa s2 (aa (z:=I (v.y/(a7 v:Nat))) rfl (aa (z:=.bool true) rfl (aa (z:=.bool false) rfl (aa (z:=false) rfl ?_))))))))))
   rw[if_neg (by decide)]
   exact aa Ia (aa (z:=.st [ac ⟨v.x/(a7 v:Nat),v.y/(a7 v:Nat),0⟩,I 0]) rfl (aa (aw tR) rfl))
  ·refine aa af (aa ab (aB (by decide) (aa Ib (aa (z:=am v.z) rfl (aa z3 (aa A (aa (z:=I (v.z/(a7 v:Nat))) rfl (aa (z:=.bool true) rfl (aa (z:=.bool false) rfl (aa (z:=false) rfl ?_))))))))))
   rw[if_neg (by decide)]
   exact aa Ib (aa (z:=.st [ac ⟨v.x/(a7 v:Nat),v.y/(a7 v:Nat),v.z/(a7 v:Nat)⟩,I 0]) rfl (aa (aw NK) rfl))
  ·rw[if_neg (show ¬ (1:Nat)=0 by decide)]
   refine aa (z:=ac (aG v)) rfl (aa (WR (n+3) (v:=aG v) ?_) (aa (z:=.bool false) rfl (aa (z:=false) rfl rfl)));simp only[bd] at j ⊢;omega
def WL(n:Nat){v:V}(a:bd 549755813888 v):∃ e:Int,cA (n+5) 155 [gE v]=some (.st [ac (aG v),I e]):=
 ⟨_,Qo n (by simp only[bd] at *;omega)⟩
def Ww(n:Nat){a b c:V}(f:bd MV a)(h:bd MV b)(hc:bd MV c):cA (n+6) 106 [ac a,ac b,ac c]=some (ac (aG (V.cross (b.sub a) (c.sub a)))):=by
 rw[XE]
 delta JO qG
 have h1:bd 524288 (b.sub a):=by have:=j7 h f;simpa [MV] using this
 have g:bd 524288 (c.sub a):=by have:=j7 hc f;simpa [MV] using this
 have i:=jg h1 g;refine aa (Fa (n+4) h f (by decide)) (aa (Fa (n+4) hc f (by decide)) (aa (Qh (n+4) h1 g (by decide)) ?_))
 have d:bd 549755813888 (V.cross (b.sub a) (c.sub a)):=i;generalize V.cross (b.sub a) (c.sub a)=m at *;obtain⟨e,he⟩:=WL n d;refine aa (c80 (n+1) ?_ ?_ ?_) (aa he rfl)
 ·have:=d.1;simp only[Sy.inR];omega
 ·have:=d.2.1;simp only[Sy.inR];omega
 ·have:=d.2.2;simp only[Sy.inR];omega
end Sy
end
noncomputable section
namespace Sy
open Go Go.Proofs Geo
theorem pN:∀ {l:List Nat} {j v:Nat},j<l.length->br (l.set j v)+65536^j*l.getD j 0=br l+65536^j*v
 | d::l,0,v,_=>by simp only[List.set_cons_zero,br,zyc,zUc,List.getD_cons_zero];omega
 | d::l,j+1,v,h=>by
  have ih:=pN (l:=l) (j:=j) (v:=v) (by simpa using h)
  simp only[List.set_cons_succ,br,ztb,List.getD_cons_succ];rw[zGa (65536^j) 65536,zPa,zPa];generalize 65536^j*l.getD j 0=x at *;generalize 65536^j*v=y at *;omega
def rA(l:List Nat)(j v:Nat):(ag l).set j (I (v:Int))=ag (l.set j v):=by simp[ag,List.map_set]
def mF(l:List Nat)(j v i:Nat)(h:j<l.length):(l.set j v).getD i 0=if i=j then v else l.getD i 0:=by
 by_cases e:i=j
 ·subst e;simp[List.getD,h]
 ·simp[List.getD,e,List.getElem?_set,show ¬ j=i from λk=>e k.symm]
def xg(m:Nat):List.replicate m (D.int .i64 0)=ag (List.replicate m 0):=by simp[ag]
def oJ{a b:Nat}(h:a*b<=9223372036854775807):D.bin .mul (I (a:Int)) (I (b:Int))=some (I ((a*b:Nat):Int)):=by
 rw[cz (by simp only[inR];rw[<-zSa];omega),zSa]
def aL{a b:Nat}(h:a+b<=9223372036854775807):D.bin .add (I (a:Int)) (I (b:Int))=some (I ((a+b:Nat):Int)):=by
 rw[aw (by simp only[inR];omega),zgd]
def Et(a:Nat):D.natOf (I (a:Int))=some a:=by simp[D.natOf]
def AZ{l:List Nat}{i:Nat}(h:i<l.length):D.idx (I (i:Int)) (ag l).length=some i:=by rw[ao];exact ap h
def NA{l:List Nat}(h:∀ i,i<l.length->l.getD i 0<65536):dl l:=λd b=>by
 obtain⟨i,a,rfl⟩:=zQa b;have:=h i a;simpa [List.getD,a] using this
def WJ(n:Nat){a b:List Nat}(ha:dl a)(hb:dl b)(al:a.length<=400000)(an:b.length<=400000):cA (n+2) 146 [.sl (ag a),.sl (ag b)]=some (.sl (ag (aE (br a*br b)))):=by
 rw[Yd]
 delta Kk qB qC qS qX qL qV qW qZ iL iR Jn
 obtain⟨M,hM⟩:∃ M,M=a.length+b.length+1:=⟨_,rfl⟩;refine aa (z:=ag a) rfl (aa (z:=ag b) rfl (aa (z:=I ((a.length+b.length:Nat):Int)) (by rw[ao,ao];exact aL (by omega)) (aa (z:=I (M:Int)) (by rw[hM];exact aL (b:=1) (by omega)) (aa (Et M) ?_))))
 rw[if_pos (by omega),xg]
 refine bF (λi s=>∃ out:List Nat,s=[I (i:Int),.sl (ag out)]/\out.length=M/\dl out/\br out=vt a i*br b) a.length 0 (zja _) ⟨List.replicate M 0,rfl,by simp,λx hx=>by rw[ztd hx];decide,by have:=oO [] M;rw[zcc] at this;rw[this];simp[vt,br]⟩ (λi hi s m=>?_) (λs m=>?_)
 ·obtain⟨out,rfl,ho,t,H⟩:=m;left;have aj:=ha.getD i;obtain⟨r,h1,d,rfl,B,u,C⟩:=Ei (body:=λ(v10:List D)=>
   Option.bind (D.asSl (.sl (ag b))) λJ=>
   Option.bind (D.bin .lss (gx v10 0) (D.int .i64 (List.length J))) λO=>
   Option.bind (D.truth O) λF=>
   if F then(Option.bind (D.bin .add (I (i:Int)) (gx v10 0)) λP=>
   Option.bind (D.bin .add (I (i:Int)) (gx v10 0)) λQ=>
   Option.bind (D.idx Q (List.length (D.els (gx v10 1)))) λi16=>
   Option.bind ((D.els (gx v10 1))[i16]?) λR=>
   Option.bind (D.asSl (.sl (ag a))) λy=>
   Option.bind (D.idx (I (i:Int)) (List.length y)) λi19=>
   Option.bind (y[i19]?) λS=>
   Option.bind (D.asSl (.sl (ag b))) λA=>
   Option.bind (D.idx (gx v10 0) (List.length A)) λi22=>
   Option.bind (A[i22]?) λT=>
   Option.bind (D.bin .mul S T) λU=>
   Option.bind (D.bin .add R U) λV=>
   Option.bind (D.idx P (List.length (D.els (gx v10 1)))) λi26=>
   Option.bind ((D.els (gx v10 1))[i26]?) λaI=>
   Option.bind (D.bin .add (gx v10 0) (D.int .i64 1)) λW=>
   some (Sum.inl [W,(D.sl (List.set (D.els (gx v10 1)) i26 V))])) else(some (Sum.inr (0,[(D.sl (D.els (gx v10 1)))]))))
   (s0:=[I 0,.sl (ag out)])
   (λk s=>∃ o:List Nat,s=[I (k:Int),.sl (ag o)]/\o.length=M/\(∀ j,j<M->o.getD j 0<=4295032831/\(i+k<=j->o.getD j 0<65536))/\br o=br out+65536^i*(a.getD i 0*vt b k))
   (λr=>∃ o:List Nat,r=(0,[.sl (ag o)])/\o.length=M/\(∀ j,j<M->o.getD j 0<=4295032831)/\br o=br out+65536^i*(a.getD i 0*br b)) b.length 0 (zja _)
   ⟨out,rfl,ho,λj _=>by have:=t.getD j;omega,by simp[vt]⟩ (λk hk s m=>by
    obtain⟨o,rfl,B,u,C⟩:=m;left;have ak:=hb.getD k;have g:i+k<o.length:=by omega
    have hp:a.getD i 0*b.getD k 0<=65535*65535:=zUa (by omega) (by omega)
    have hx:=(u (i+k) (by omega)).2 (zfa _)
    refine⟨[I ((k+1:Nat):Int),.sl (ag (o.set (i+k) (o.getD (i+k) 0+a.getD i 0*b.getD k 0)))],?_,_,rfl,by simpa using B,λj p=>?_,?_⟩
    ·refine aa (z:=ag b) rfl (aa af (aa ab (aB (by show(k:Int)<((ag b).length:Int);rw[ao];omega) ?_)))
     refine aa (aL (a:=i) (b:=k) (by omega)) (aa (aL (a:=i) (b:=k) (by omega)) (aa (AZ g) (aa (dC g) ?_)))
     refine aa (z:=ag a) rfl (aa (AZ hi) (aa (dC hi) (aa (z:=ag b) rfl (aa (AZ hk) (aa (dC hk) ?_)))));refine aa (oJ (by omega)) (aa (aL (by omega)) (aa (AZ g) (aa (dC g) (aa (aw (ay (i:=k) (by omega))) ?_))))
     show some (Sum.inl [_,D.sl (List.set (ag o) (i+k) _)])=_;rw[rA];rfl
    ·rw[mF _ _ _ _ g];have:=u j p;split
     ·omega
     ·omega
    ·have e:=pN (l:=o) (j:=i+k) (v:=o.getD (i+k) 0+a.getD i 0*b.getD k 0) g;rw[vt,zSb,zSb];have e2:65536^i*(a.getD i 0*(b.getD k 0*65536^k))=65536^(i+k)*(a.getD i 0*b.getD k 0):=by
      rw[zeb,<-zPa (a.getD i 0),zGa (a.getD i 0*b.getD k 0),zPa]
     rw[zSb] at e;omega) (λs m=>by
    obtain⟨o,rfl,B,u,C⟩:=m;rw[nk] at C;exact⟨_,aa (z:=ag b) rfl (aa af (aa ab (aC (by show ¬ ((b.length:Int)<((ag b).length:Int));rw[ao];omega) rfl))),o,rfl,B,λj p=>(u j p).1,C⟩)
  obtain⟨r2,h2,q,rfl,p1,p2,p3⟩:=Ei (body:=λ(v30:List D)=>
   Option.bind (D.bin .lss (gx v30 1) (D.int .i64 (List.length (D.els (gx v30 2))))) λX=>
   Option.bind (D.truth X) λG=>
   if G then(Option.bind (D.idx (gx v30 1) (List.length (D.els (gx v30 2)))) λi33=>
   Option.bind ((D.els (gx v30 2))[i33]?) λY=>
   Option.bind (D.bin .add Y (gx v30 0)) λE=>
   Option.bind (D.bin .rem E (D.int .i64 65536)) λZ=>
   Option.bind (D.idx (gx v30 1) (List.length (D.els (gx v30 2)))) λi37=>
   Option.bind ((D.els (gx v30 2))[i37]?) λa0=>
   Option.bind (D.bin .quo E (D.int .i64 65536)) λad=>
   Option.bind (D.bin .add (gx v30 1) (D.int .i64 1)) λai=>
   some (Sum.inl [ad,ai,(D.sl (List.set (D.els (gx v30 2)) i37 Z))])) else(some (Sum.inr (0,[(D.sl (D.els (gx v30 2)))]))))
   (s0:=[I 0,I 0,.sl (ag d)])
   (λk s=>∃ (o:List Nat) (c:Nat),s=[I (c:Int),I (k:Int),.sl (ag o)]/\o.length=M/\(∀ j,j<k->o.getD j 0<65536)/\(∀ j,k<=j->o.getD j 0=d.getD j 0)/\c<=131072/\br o+65536^k*c=br d)
   (λr=>∃ o:List Nat,r=(0,[.sl (ag o)])/\o.length=M/\dl o/\∃ c,br o+65536^M*c=br d) M 0 (zja _)
   ⟨d,0,rfl,B,λj p=>absurd p (Nat.not_lt_zero _),λj _=>rfl,by omega,by simp⟩ (λk hk s m=>by
    obtain⟨o,c,rfl,K,L,N,q4,q5⟩:=m;left;have f:k<o.length:=by omega
    have hx:=u k hk;have hq:=N k (zfa _);refine⟨[I (((o.getD k 0+c)/65536:Nat):Int),I ((k+1:Nat):Int),.sl (ag (o.set k ((o.getD k 0+c)%65536)))],?_,_,_,rfl,by simpa using K,λj p=>?_,λj p=>?_,by omega,?_⟩
    ·refine aa af (aa ab (aB (by show(k:Int)<((ag o).length:Int);rw[ao];omega) ?_))
     refine aa (AZ f) (aa (dC f) (aa (aL (by omega)) (aa (mu (b:=65536) (by decide)) (aa (AZ f) (aa (dC f) (aa (j6 (b:=65536) (by decide) (by omega)) (aa (aw (ay (i:=k) (by omega))) ?_)))))))
     show some (Sum.inl [_,_,D.sl (List.set (ag o) k _)])=_;rw[rA];rfl
    ·rw[mF _ _ _ _ f];split
     ·omega
     ·exact L j (by omega)
    ·rw[mF _ _ _ _ f,if_neg (by omega)];exact N j (by omega)
    ·have e:=pN (l:=o) (j:=k) (v:=(o.getD k 0+c)%65536) f;have e2:o.getD k 0+c=(o.getD k 0+c)%65536+65536*((o.getD k 0+c)/65536):=by omega
     have e3:65536^k*(o.getD k 0+c)=65536^k*((o.getD k 0+c)%65536)+65536^k*(65536*((o.getD k 0+c)/65536)):=by rw[<-zSb,<-e2]
     rw[zSb] at e3;rw[ztb,zPa];omega) (λs m=>by
    obtain⟨o,c,rfl,K,L,N,q4,q5⟩:=m;exact⟨_,aa af (aa ab (aC (by show ¬ ((M:Int)<((ag o).length:Int));rw[ao];omega) rfl)),o,rfl,K,NA λj p=>L j (by omega),c,q5⟩)
  obtain⟨c,p4⟩:=p3;refine⟨[I ((i+1:Nat):Int),.sl (ag q)],?_,q,rfl,p1,p2,?_⟩
  ·refine aa (z:=ag a) rfl (aa af (aa ab (aB (by show(i:Int)<((ag a).length:Int);rw[ao];omega) ?_)))
   refine aa h1 (aa h2 ?_);exact aa (aw (ay (i:=i) (by omega))) rfl
  ·have w:br d=vt a (i+1)*br b:=by
    rw[C,H,vt,z8a,zGa (a.getD i 0) (65536^i),zPa]
   have ax:vt a (i+1)*br b<65536^M:=by
    have l1:=vX ha (i+1);have l2:=nA hb;have l3:vt a (i+1)*br b<65536^(i+1)*65536^b.length:=Nat.mul_lt_mul'' l1 l2;have l4:65536^(i+1)*65536^b.length<=65536^M:=by rw[<-zeb];exact zpa (by decide) (by omega)
    omega
   have hc:c=0:=by
    rcases zDb c with h|h
    ·exact h
    ·have:65536^M*1<=65536^M*c:=z3a _ h;omega
   subst hc;rw[<-w,<-p4];simp
 ·obtain⟨out,rfl,ho,t,H⟩:=m;refine⟨(0,[.sl (ag out)]),aa (z:=ag a) rfl (aa af (aa ab (aC (by show ¬ ((a.length:Int)<((ag a).length:Int));rw[ao];omega) rfl))),?_⟩
  refine aa (Cl n (l:=out) (by omega)) ?_
  rw[jF t,H,nk]
def MR(x y:Int):sgn (!(decide (decide (x<0)=decide (y<0)))) (x.natAbs*y.natAbs)=x*y:=by
 unfold sgn;rw[<-zHa];by_cases hx:x<0<;>by_cases hy:y<0
 ·have:=zZb hx hy;simp[hx,hy];omega
 ·have:=Int.mul_nonpos_of_nonpos_of_nonneg (zva hx) (zfc.1 hy);simp[hx,hy];omega
 ·have:=Int.mul_nonpos_of_nonneg_of_nonpos (zfc.1 hx) (zva hy);simp[hx,hy];omega
 ·have:=zlb (zfc.1 hx) (zfc.1 hy);simp[hx,hy];omega
end Sy
end
noncomputable section
open Go
def oD(n:Nat):Nat:=2^(32*n)
def dF(n:Nat):oD n=2^(32*n):=rfl
attribute [irreducible] oD
def ew:Nat:=oD 16
def gA:ew=oD 16:=rfl
attribute [irreducible] ew
def pg{a b:Nat}(h:a<=b):oD a<=oD b:=by rw[dF,dF];exact zpa (by omega) (by omega)
def yu:oD 2=18446744073709551616:=by rw[dF]
def Gl(n:Nat):0<oD n:=by rw[dF];exact zta _
def fV:0<ew:=gA ▸ Gl 16
def zN{n:Nat}(h:n<18446744073709551616):n<ew:=by
 rw[gA];rw[<-yu] at h;exact zYa h (pg (by omega))
def bD(X k:Nat):Int:=((X/2^(32*k)%2^32:Nat):Int)
def oN(X k:Nat):bD X k<=4294967295:=by
 grind [bD]
def uy(X k:Nat):bD X k<4294967296:=by
 grind [bD]
def cK(X k:Nat):0<=bD X k:=by unfold bD;exact Int.natCast_nonneg _
def FX(a b:Nat)(h:a<=b):2^b=2^a*2^(b-a):=by rw[<-zeb];congr 1;omega
theorem lr(X k j:Nat):bD (X%2^(32*k)) j=if j<k then bD X j else 0:=by
 unfold bD;split
 ·rename_i h;congr 1;rw[FX (32*j) (32*k) (by omega),Nat.mod_mul_right_div_self,show 32*k-32*j=32+(32*k-32*j-32) from by omega,zeb,Nat.mod_mul_right_mod]
 ·rename_i h;rw[z2a]
  ·simp
  ·exact zYa (zVa _ (zta _)) (zpa (by decide) (by omega))
def zf(n:Nat):∀ (X Y:Nat),X<2^(32*n)->Y<2^(32*n)->(∀ k,k<n->bD X k=bD Y k)->X=Y:=by
 induction n with
 | zero=>intro X Y a b _;simp at a b;omega
 | succ n ih=>
  intro X Y a b h;have f:∀ Z:Nat,Z=Z%2^(32*n)+2^(32*n)*(Z/2^(32*n)):=λZ=>by have:=Nat.mod_add_div Z (2^(32*n));omega
  have hm:X%2^(32*n)=Y%2^(32*n):=by
   refine ih _ _ (zVa _ (zta _)) (zVa _ (zta _)) λk hk=>?_;grind [lr]
  have d:X/2^(32*n)=Y/2^(32*n):=by
   have h1:=h n (by omega)
   unfold bD at h1;have e:∀ Z,Z<2^(32*(n+1))->Z/2^(32*n)<2^32:=λZ c=>by
    rw[zRa (zta _),<-zeb,show 32+32*n=32*(n+1) from by omega];exact c
   grind
  grind
def FB{X Y:Nat}(a:X<ew)(b:Y<ew)(h:∀ k,k<16->bD X k=bD Y k):X=Y:=by
 rw[gA,dF] at a b;exact zf 16 X Y a b h
def wB(s V Z j:Nat):Int:=if j<s then bD V j else bD Z j
def xJ(s V Z:Nat):wB s V Z s=bD Z s:=by unfold wB;rw[if_neg (Nat.lt_irrefl s)]
def fR(X Y k:Nat):Nat:=(X%2^(32*k)+Y%2^(32*k))/2^(32*k)
def ns(X Y k:Nat):fR X Y k<=1:=by
 unfold fR;have h:=zta (32*k);have h1:=zVa X h;have a:=zVa Y h;have:(X%2^(32*k)+Y%2^(32*k))/2^(32*k)<2:=(zRa h).2 (by omega)
 omega
def sM(X Y:Nat):fR X Y 0=0:=by simp[fR,zdd]
theorem jD(X k:Nat):X=X%2^(32*k)+2^(32*k)*(X/2^(32*k)):=by have:=Nat.mod_add_div X (2^(32*k));omega
theorem er(k:Nat):2^(32*(k+1))=2^(32*k)*4294967296:=by grind
theorem fe(X k:Nat):X%2^(32*(k+1))=X%2^(32*k)+2^(32*k)*(X/2^(32*k)%4294967296):=by rw[er,Nat.mod_mul]
def sK(X Y k:Nat):((fR X Y (k+1):Nat):Int)=((fR X Y k:Nat)+(bD X k+bD Y k))/4294967296:=by
 unfold fR bD;have hp:=zta (32*k);rw[fe,fe,er,<-zTa];generalize 2^(32*k)=p at *;have:(X%p+p*(X/p%4294967296)+(Y%p+p*(Y/p%4294967296)))/p=(X%p+Y%p)/p+(X/p%4294967296+Y/p%4294967296):=by
  rw[show X%p+p*(X/p%4294967296)+(Y%p+p*(Y/p%4294967296))=(X%p+Y%p)+p*(X/p%4294967296+Y/p%4294967296) from by rw[zSb];omega,zTb _ _ hp]
 omega
def DZ(X Y k:Nat):bD (X+Y) k=((fR X Y k:Nat)+(bD X k+bD Y k))%4294967296:=by
 unfold fR bD;have hp:=zta (32*k);have hx:=jD X k;have a:=jD Y k;generalize 2^(32*k)=p at *;have:(X+Y)/p=(X%p+Y%p)/p+(X/p+Y/p):=by
  rw[show X+Y=(X%p+Y%p)+p*(X/p+Y/p) from by rw[zSb];omega,zTb _ _ hp]
 omega
theorem Bv:2^(32*16)=ew:=by rw[gA,dF 16]
def Fe{X Y:Nat}(a:X<ew)(b:Y<ew):fR X Y 16=if X+Y<ew then 0 else 1:=by
 have h:=ns X Y 16;unfold fR at *;rw[Bv,zMa a,zMa b] at *;split
 ·simp_all
 ·have:1<=(X+Y)/ew:=(zbc fV).2 (by omega)
  omega
def cj(X Y k:Nat):Nat:=if X%2^(32*k)<Y%2^(32*k) then 1 else 0
def uh(X Y k:Nat):cj X Y k<=1:=by unfold cj;split<;>omega
def pD(X Y:Nat):cj X Y 0=0:=by simp[cj,zdd]
def pC(X Y k:Nat):((cj X Y (k+1):Nat):Int)=if bD X k-bD Y k-(cj X Y k:Nat)<0 then 1 else 0:=by
 unfold cj bD;have hp:=zta (32*k);rw[fe,fe];have h1:=zVa X hp;have c:=zVa Y hp;simp only[show(2:Nat)^32=4294967296 from rfl];generalize 2^(32*k)=p at *;generalize X/p%4294967296=a;generalize Y/p%4294967296=b;generalize X%p=x at *;generalize Y%p=y at *;rcases zrd a b with h|h|h
 ·have:p*a+p<=p*b:=by rw[<-zCd];exact z3a _ h
  grind
 ·grind
 ·have:p*b+p<=p*a:=by rw[<-zCd];exact z3a _ h
  grind
def D1{X Y:Nat}(h:Y<=X)(k:Nat):bD (X-Y) k=(bD X k-bD Y k-(cj X Y k:Nat))%4294967296:=by
 unfold cj bD;have hp:=zta (32*k);have hx:=jD X k;have d:=jD Y k;have h1:=zVa X hp;have f:=zVa Y hp;simp only[show(2:Nat)^32=4294967296 from rfl];generalize 2^(32*k)=p at *;have hle:Y/p<=X/p:=Nat.div_le_div_right h;generalize hxq:X/p=a at *;generalize hyq:Y/p=b at *;generalize hxr:X%p=x at *;generalize hyr:Y%p=y at *;by_cases h3:x<y
 ·have c:b<a:=by
   all_goals grind
  have e:X-Y=(x+p-y)+p*(a-b-1):=by
   rw[hx,d,Nat.mul_sub,Nat.mul_sub];have:p*b+p<=p*a:=by rw[<-zCd];exact z3a _ c
   omega
  rw[e,zTb _ _ hp,z2a (by omega),if_pos h3]
  omega
 ·have e:X-Y=(x-y)+p*(a-b):=by
   rw[hx,d,Nat.mul_sub];have:p*b<=p*a:=z3a _ hle;omega
  rw[e,zTb _ _ hp,z2a (by omega),if_neg h3]
  omega
def tt(a b:Int)(c:Nat)(a0:0<=a)(a1:a<=4294967295)(d:0<=b)(f:b<=4294967295)(hc:c<=1) :
  IntKind.u64.wrap (IntKind.u64.wrap (a-b)-(c:Int))/9223372036854775808=(if a-b-(c:Int)<0 then 1 else 0) ∧
  IntKind.u64.wrap (IntKind.u64.wrap (a-b)-(c:Int))%4294967296=(a-b-(c:Int))%4294967296:=by
 have e:∀ n:Int,IntKind.u64.wrap n=n%18446744073709551616:=λn=>rfl;all_goals grind
def iF(X:Nat):Nat->Nat
 | 0=>0
 | k+1=>if 2^(32*k)<=X then k+1 else iF X k
def c9(X:Nat):Nat:=iF X 16
def FO(X k:Nat):iF X k<=k:=by
 induction k with
 | zero=>exact zfa _
 | succ k ih=>unfold iF;split<;>omega
def CZ(X k:Nat)(h:iF X k≠0):2^(32*(iF X k-1))<=X:=by
 induction k with
 | zero=>exact absurd rfl h
 | succ k ih=>
  all_goals grind [iF]
def Bo(X k:Nat)(h:X<2^(32*k)):X<2^(32*iF X k):=by
 induction k with
 | zero=>exact h
 | succ k ih=>
  all_goals grind [iF]
def kI(X:Nat):c9 X<=16:=FO X 16
def ff{X:Nat}(h:X<ew):X<2^(32*c9 X):=Bo X 16 (by rw[gA,dF] at h;exact h)
def o7{X:Nat}(h:c9 X≠0):2^(32*(c9 X-1))<=X:=CZ X 16 h
def yR{X k:Nat}(h:X<2^(32*(k+1))):bD X k=0↔X<2^(32*k):=by
 unfold bD;have hp:=zta (32*k);have a:X/2^(32*k)<2^32:=by rw[zRa hp,<-zeb,show 32+32*k=32*(k+1) from by omega];exact h
 rw[zMa a];constructor
 ·intro c;have b:X/2^(32*k)=0:=by omega
  all_goals simp_all
 ·simp_all [z2a]
def sgn(a b:Nat):Int:=if a<b then -1 else if b<a then 1 else 0
def kc(X Y k:Nat):Prop:=X/2^(32*k)=Y/2^(32*k)
def Ft{X Y:Nat}(a:X<ew)(b:Y<ew):kc X Y 16:=by
 unfold kc;rw[gA,dF] at a b;omega
def nD(X k:Nat):X/2^(32*k)=X/2^(32*(k+1))*4294967296+(X/2^(32*k))%4294967296:=by
 rw[er,<-zTa];omega
def AY{X Y k:Nat}(h:kc X Y (k+1))(a:bD X k=bD Y k):kc X Y k:=by
 unfold kc bD at *;rw[nD X k,nD Y k,h];omega
def BN{X Y k:Nat}(h:kc X Y (k+1))(b:bD X k≠bD Y k):sgn X Y=if bD X k<bD Y k then -1 else 1:=by
 unfold kc bD at *;have hx:=nD X k;have d:=nD Y k;have hp:=zta (32*k);have e:=jD X k;have f:=jD Y k;have h1:=zVa X hp;have c:=zVa Y hp;simp only[show(2:Nat)^32=4294967296 from rfl] at b ⊢;generalize 2^(32*k)=p at *;unfold sgn;by_cases hlt:X/p<Y/p
 ·have:p*(X/p)+p<=p*(Y/p):=by rw[<-zCd];exact z3a _ hlt
  omega
 ·have a:Y/p<X/p:=by omega
  have:p*(Y/p)+p<=p*(X/p):=by rw[<-zCd];exact z3a _ a
  omega
def Gf{X Y:Nat}(h:kc X Y 0):sgn X Y=0:=by
 simp_all [kc,sgn]
theorem dX(X k:Nat):bD X k=((X/2^(32*k)%4294967296:Nat):Int):=rfl
def gm{X n k:Nat}(h:X<2^(32*n))(hk:n<=k):bD X k=0:=by
 rw[dX,z2a (zYa h (zpa (by omega) (by omega)))];rfl
def lm(X c s j:Nat)(h:j<s):bD (X+c*2^(32*s)) j=bD X j:=by
 rw[dX,dX];congr 1;rw[show 32*s=32*j+(32+32*(s-j-1)) from by omega,zeb,zeb,show c*(2^(32*j)*(2^32*2^(32*(s-j-1))))=2^(32*j)*(4294967296*(c*2^(32*(s-j-1)))) from by
  rw[show(2:Nat)^32=4294967296 from rfl];ac_rfl,zTb _ _ (zta _),znd]
def il(A B i:Nat):Nat:=A%2^(32*i)*B
def oZ(A B i k:Nat):Nat:=il A B i+(A/2^(32*i)%4294967296)*(B%2^(32*k))*2^(32*i)
def qe(A B i k:Nat):Nat:=oZ A B i k/2^(32*(i+k))-il A B i/2^(32*(i+k))
def zn(A B i k:Nat):Nat->Int:=wB (i+k) (oZ A B i k) (il A B i)
def xP(A B i:Nat):oZ A B i 0=il A B i:=by simp[oZ,zdd]
def xL(A B i:Nat):qe A B i 0=0:=by simp[qe,xP]
def FI(A B i:Nat):zn A B i 0=bD (il A B i):=by
 funext j;simp[zn,xP,wB]
def xO(A B i k:Nat):oZ A B i (k+1)=oZ A B i k+(A/2^(32*i)%4294967296)*(B/2^(32*k)%4294967296)*2^(32*(i+k)):=by
 unfold oZ;rw[fe,show 32*(i+k)=32*i+32*k from by omega,zeb,zSb,z8a,zGb]
 grind
def Mx(A B i k:Nat):il A B i<=oZ A B i k:=zad _ _
def zl(A B i k:Nat):qe A B i k+il A B i/2^(32*(i+k))=oZ A B i k/2^(32*(i+k)):=by
 unfold qe;have:=Nat.div_le_div_right (c:=2^(32*(i+k))) (Mx A B i k);omega
theorem Bl(A B i k:Nat):oZ A B i (k+1)/2^(32*(i+k))=qe A B i k+il A B i/2^(32*(i+k))+(A/2^(32*i)%4294967296)*(B/2^(32*k)%4294967296):=by
 rw[xO,zvc _ _ (zta _),zl]
def vg(A B i k:Nat):qe A B i (k+1)=(qe A B i k+((A/2^(32*i)%4294967296)*(B/2^(32*k)%4294967296)+il A B i/2^(32*(i+k))%4294967296))/4294967296:=by
 have h1:=zl A B i (k+1);have a:=Bl A B i k;have e:∀ X,X/2^(32*(i+(k+1)))=X/2^(32*(i+k))/4294967296:=λX=>by
  rw[show i+(k+1)=i+k+1 from by omega,er,zTa]
 grind
def Co(a p q z c:Nat):(((a+(p*q+z))%c:Nat):Int)=((a:Int)+((p:Int)*q+z))%(c:Int):=by push_cast;rfl
def FE(A B i k:Nat):((qe A B i (k+1):Nat):Int)=((qe A B i k:Nat)+(bD A i*bD B k+bD (il A B i) (i+k)))/4294967296:=by
 simp_all [vg,dX]
def zm(A B i k:Nat):qe A B i k<=4294967295:=by
 induction k with
 | zero=>rw[xL];omega
 | succ k ih=>
  rw[vg];have h1:A/2^(32*i)%4294967296<=4294967295:=by omega
  have a:B/2^(32*k)%4294967296<=4294967295:=by omega
  have b:=zUa h1 a;omega
def FG(A B i k:Nat):zn A B i k (i+k)=bD (il A B i) (i+k):=xJ _ _ _
def Is(A B i k:Nat):bD (oZ A B i (k+1)) (i+k)=((qe A B i k:Nat)+(bD A i*bD B k+bD (il A B i) (i+k)))%4294967296:=by
 grind [dX,oZ,Bl]
def xR{A B i m:Nat}(a:B<2^(32*m)):il A B (i+1)=oZ A B i m:=by
 grind [il,oZ,fe,Nat.mod_eq_of_lt,Nat.add_mul]
def Er{A B i m:Nat}(a:B<2^(32*m)):il A B i<2^(32*(i+m)):=by
 unfold il;rw[show 32*(i+m)=32*i+32*m from by omega,zeb]
 exact Nat.mul_lt_mul'' (zVa _ (zta _)) a
def FJ(A B:Nat):il A B 0=0:=by simp[il,zdd]
def Iv{A B n:Nat}(a:A<2^(32*n)):il A B n=A*B:=by unfold il;rw[zMa a]
def jh(k:Nat):bD 0 k=0:=by simp[bD]
def lq(X a k:Nat):bD (X/2^(32*a)) k=bD X (a+k):=by
 simp_all [dX,zTa,zeb,zSb]
def AH(X a k:Nat):bD (X/oD a) k=bD X (a+k):=by rw[dF,lq]
def Iq(a b D c:Nat):(a+b*D)%c=(a+b%c*D)%c:=by
 have h:b*D%c=b%c*D%c:=by simp_all
 simp_all [Nat.add_mod]
def ik(X D k:Nat):Nat:=X%2^(32*k)*D/2^(32*k)
def xN(X D:Nat):ik X D 0=0:=by simp[ik,zdd]
def zo(X k:Nat){D:Nat}(h:0<D):ik X D k<D:=by
 unfold ik;rw[zRa (zta _),zGa D];exact zrb (zVa _ (zta _)) h
def CQ(X D k:Nat):ik X D (k+1)=(ik X D k+X/2^(32*k)%4294967296*D)/4294967296:=by
 unfold ik;grind [fe,er,Nat.div_div_eq_div_mul,Nat.add_mul,Nat.mul_assoc,Nat.add_mul_div_left]
def xM(X D k:Nat):((ik X D (k+1):Nat):Int)=((ik X D k:Nat)+bD X k*(D:Nat))/4294967296:=by
 simp_all [z6b,Int.add_zero,Int.natCast_zero,Int.cast_ofNat_Int,CQ,dX]
def Bk(X D k:Nat):bD (X*D) k=((ik X D k:Nat)+bD X k*(D:Nat))%4294967296:=by
 have h:=Co (ik X D k) (X/2^(32*k)%4294967296) D 0 4294967296;simp only[z6b,Int.add_zero,Int.natCast_zero,Int.cast_ofNat_Int] at h;rw[dX,dX];refine Eq.trans (congrArg Nat.cast ?_) h;have e:X*D/2^(32*k)=ik X D k+X/2^(32*k)*D:=by
  grind [ik,Nat.add_mul_div_left,Nat.two_pow_pos,Nat.mul_assoc,Nat.add_mul,jD]
 rw[e,Iq]
def Ir{X D:Nat}(h:X<ew):ik X D 16=X*D/ew:=by
 grind [ik,Bv,Nat.mod_eq_of_lt]
def HI(X n k:Nat)(hn:n<=32):bD (X/2^n) k=(bD X (k+1)*4294967296+bD X k)/((2^n:Nat):Int)%4294967296:=by
 rw[dX,dX,dX,er,<-zTa,zTa,zGa (2^n),<-zTa];generalize X/2^(32*k)=Y;have e:(((Y/4294967296%4294967296:Nat):Int)*4294967296+((Y%4294967296:Nat):Int))=((Y%(2^n*(2^(32-n)*4294967296)):Nat):Int):=by
  rw[<-zPa,<-zeb,show n+(32-n)=32 from by omega,show(2:Nat)^32=4294967296 from rfl]
  omega
 rw[e,<-zyd,Nat.mod_mul_right_div_self];generalize Y/2^n=Z;have h:Z%4294967296=Z%(2^(32-n)*4294967296)%4294967296:=(Nat.mod_mul_left_mod _ _ _).symm;rw[h];exact Int.natCast_emod _ 4294967296
def xC(X k j:Nat):bD (X/2^(32*k)*2^(32*k)) j=if j<k then 0 else bD X j:=by
 have h:=lm 0 (X/2^(32*k)) k j;by_cases hj:j<k
 ·simp_all [zWa,jh]
 ·rw[if_neg hj,show j=k+(j-k) from by omega,<-lq,zjd _ (zta _),lq]
def ga(X b k:Nat):Nat:=X/2^(32*k)%b
def BE(X k:Nat){b:Nat}(h:0<b):ga X b k<b:=zVa _ h
def uA(X k:Nat):X/2^(32*k)=X/2^(32*(k+1))*4294967296+X/2^(32*k)%4294967296:=by
 rw[er,<-zTa];omega
def Dd(X b k:Nat):ga X b k=(ga X b (k+1)*4294967296+X/2^(32*k)%4294967296)%b:=by
 unfold ga
 conv=>lhs;rw[uA X k]
 simp_all [zJc,Iq]
def Gg(X k:Nat){b:Nat}(a:0<b)(h:b<=4294967295):X/b/2^(32*k)%4294967296=(ga X b (k+1)*4294967296+X/2^(32*k)%4294967296)/b:=by
 have e:X/b/2^(32*k)=X/2^(32*(k+1))/b*4294967296+(ga X b (k+1)*4294967296+X/2^(32*k)%4294967296)/b:=by
  rw[zTa,zGa,<-zTa]
  conv=>lhs;rw[uA X k]
  unfold ga;generalize X/2^(32*(k+1))=Y;generalize X/2^(32*k)%4294967296=z
  conv=>lhs;rw[show Y*4294967296+z=b*(Y/b*4294967296)+(Y%b*4294967296+z) from by
   have:=z4b Y b
   conv=>lhs;rw[<-this]
   rw[z8a,zPa];omega]
  rw[Nat.mul_add_div a]
 have c:(ga X b (k+1)*4294967296+X/2^(32*k)%4294967296)/b<4294967296:=by
  rw[zRa a];have h1:=BE X (k+1) a;omega
 simp_all
def Gb(X b:Nat):ga X b 0=X%b:=by simp[ga]
structure Heads(W V P T F u v:Nat):Prop where
 w:W/P=T*4294967296+u
 d:V/P=F*4294967296+v
 u:u<4294967296
 v:v<4294967296
 one:1<=F
 pos:0<P
 lt:W<V*4294967296
variable{W V P T F u v:Nat}
def Heads.key{d r:Nat}(h:d*F+r=T):d*(F*4294967296+v)+r*4294967296=T*4294967296+d*v:=by
 grind
def Heads.vpos(H:Heads W V P T F u v):0<V:=by
 rcases zDb V with h|h
 ·have:=H.lt;rw[h] at this;omega
 ·exact h
def Heads.over(H:Heads W V P T F u v){d:Nat}(h:W/P<d*(V/P)):W/V<d:=by
 apply zPc;have h1:W<(W/P+1)*P:=by have:=z4b W P;have:=zVa W H.pos;rw[z8a,zGa (W/P)];omega
 have a:(W/P+1)*P<=d*(V/P)*P:=zya _ h;have b:d*(V/P)*P<=d*V:=by rw[zPa];exact z3a _ (zqc V P)
 grind
def Heads.under(H:Heads W V P T F u v){d:Nat}(h:d*(V/P)<=W/P)(i:d<4294967296):d<=W/V+1:=by
 rcases zDb d with h0|h0
 ·simp_all
 obtain⟨e,rfl⟩:∃ e,d=e+1:=⟨d-1,by omega⟩
 have g:e<=V/P:=by rw[H.d];have h1:1*4294967296<=F*4294967296:=zya _ H.one;omega
 have:e<=W/V:=by
  rw[zbc H.vpos];have h1:V<=(V/P+1)*P:=by have:=z4b V P;have:=zVa V H.pos;rw[z8a,zGa (V/P)];omega
  have a:e*V<=e*((V/P+1)*P):=z3a _ h1;have b:e*((V/P+1)*P)<=(e+1)*(V/P)*P:=by
   rw[<-zPa];apply zya;rw[zSb,z8a];omega
  have c:(e+1)*(V/P)*P<=W/P*P:=zya _ h;have f:=zqc W P;omega
 omega
def Heads.q_lt(H:Heads W V P T F u v):W/V<4294967296:=zPc (by have:=H.lt;omega)
def Heads.start(H:Heads W V P T F u v):W/V<=T/F:=by
 have h1:W/V<T/F+1:=by
  apply H.over;rw[H.w,H.d];have a:T<(T/F+1)*F:=by have:=z4b T F;have:=zVa T (show 0<F from H.one);rw[z8a,zGa (T/F)];omega
  have b:(T+1)*4294967296<=(T/F+1)*F*4294967296:=zya _ a;have c:(T/F+1)*F*4294967296<=(T/F+1)*(F*4294967296+v):=by grind
  have e:=H.u;omega
 omega
def Heads.step_big(H:Heads W V P T F u v){d:Nat}(h:4294967296<=d):W/V<=d-1:=Nat.le_sub_one_of_lt (zYa H.q_lt h)
def Heads.step(H:Heads W V P T F u v){d r:Nat}(h:d*F+r=T)(a:r*4294967296+u<d*v):W/V<=d-1/\1<=d:=by
 have h1:W/V<d:=by
  apply H.over;rw[H.w,H.d];grind
 grind
def Heads.t_lt(H:Heads W V P T F u v):T<(F+1)*4294967296:=by
 have h1:W/P*P<=W:=zqc W P;have a:V<(V/P+1)*P:=by have:=z4b V P;have:=zVa V H.pos;rw[z8a,zGa (V/P)];omega
 have e:V*4294967296<(V/P+1)*P*4294967296:=zrb a (by omega)
 have f:=H.lt;have b:W/P*P<(V/P+1)*4294967296*P:=by rw[Nat.mul_right_comm];omega
 have c:W/P<(V/P+1)*4294967296:=Nat.lt_of_mul_lt_mul_right b;rw[H.w,H.d] at c;have g:=H.v;omega
def Heads.done(H:Heads W V P T F u v){d r:Nat}(h:d*F+r=T)(a:4294967296<=r\/(d<4294967296/\d*v<=r*4294967296+u)):d<4294967296/\d<=W/V+1:=by
 have b:d<4294967296:=by
  rcases a with a|a
  ·have h1:=H.t_lt;rw[z8a,zUc] at h1;have c:d*F<4294967296*F:=by omega
   exact Nat.lt_of_mul_lt_mul_right c
  ·exact a.1
 refine⟨b,H.under ?_ b⟩;rw[H.w,H.d];have hk:=Heads.key (v:=v) h;rcases a with a|a
 ·have h1:d*v<=4294967295*4294967295:=zUa (by omega) (by have:=H.v;omega)
  omega
 ·omega
def dg(X k:Nat):Nat:=X/2^(32*k)%4294967296
def rq(X k:Nat):bD X k=(dg X k:Nat):=rfl
def fX(X k:Nat):dg X k<4294967296:=zVa _ (by omega)
def DY(X k:Nat):dg X k<=4294967295:=Nat.le_of_lt_succ (fX X k)
def pH(X k:Nat):X/2^(32*k)=X/2^(32*(k+1))*4294967296+dg X k:=uA X k
def kr{X k:Nat}(h:X<2^(32*(k+1))):X/2^(32*k)=dg X k:=by
 rw[pH,z2a h,zAd,zWa]
def HZ{U V e j:Nat}(b:V<2^(32*(e+2)))(c:2^(32*(e+1))<=V)(d:U/2^(32*j)<V*4294967296) :
  Heads (U/2^(32*j)) V (2^(32*e)) (dg U (j+e+2)*4294967296+dg U (j+e+1)) (dg V (e+1)) (dg U (j+e)) (dg V e):=by
 have hc:∀ k,U/2^(32*j)/2^(32*k)=U/2^(32*(j+k)):=λk=>by rw[zTa,<-zeb,zSb]
 have a:U<2^(32*(j+e+2+1)):=by
  have h1:=(zRa (zta (32*j))).1 d;have f:V*4294967296*2^(32*j)<2^(32*(e+2))*4294967296*2^(32*j):=zrb (zrb b (by omega)) (zta _)
  grind
 refine⟨?_,?_,fX _ _,fX _ _,?_,zta _,d⟩
 ·rw[hc,pH,pH U (j+e+1),kr a]
 ·rw[pH,kr b]
 ·rw[<-kr b];exact(zbc (zta _)).2 (by rw[zUc];exact c)
def Pu(U i k:Nat):dg U i*4294967296+dg U k<=18446744073709551615:=by
 have h1:=DY U i;have a:=DY U k;omega
def CC{T F D R:Nat}(h:D*F+R=T)(a:1<=D):(D-1)*F+(R+F)=T:=by
 obtain⟨E,rfl⟩:∃ E,D=E+1:=⟨D-1,by omega⟩
 grind
def wj{X X' Y k:Nat}(h:X%2^(32*k)=X'%2^(32*k)):cj X Y k=cj X' Y k:=by unfold cj;rw[h]
def fJ(U Z j:Nat):Nat:=U%2^(32*j)+Z*2^(32*j)
def FR{U Z j t:Nat}(h:t<j):bD (fJ U Z j) t=bD U t:=by
 simp_all [fJ,lm,lr]
def C1(U Z j i:Nat):bD (fJ U Z j) (j+i)=bD Z i:=by
 rw[<-lq];unfold fJ
 simp_all [zvc,zta,z2a,zVa,zWa]
def wJ(U Z j i:Nat):Nat->Int:=wB (j+i) (fJ U Z j) U
def yo(U Z j:Nat):wJ U Z j 0=bD U:=by
 funext t;unfold wJ wB;split
 ·rename_i h;exact FR (by omega)
 ·rfl
def nO(U Z j i:Nat):wJ U Z j i (j+i)=bD U (j+i):=xJ _ _ _
def np(W Y m:Nat):Nat:=(W+2^(32*m)-Y)%2^(32*m)
def Gw{W Y m i:Nat}(a:i<m)(d:Y<=2^(32*m)):bD (np W Y m) i=(bD W i-bD Y i-(cj W Y i:Nat))%4294967296:=by
 have c:bD (W+2^(32*m)) i=bD W i:=by
  have:=lm W 1 m i a;rwa [zUc] at this
 have b:cj (W+2^(32*m)) Y i=cj W Y i:=wj (by
  rw[show 32*m=32*i+(32*m-32*i) from by omega,zeb,znd])
 unfold np;rw[lr,if_pos a,D1 (by omega),c,b]
def Jy(W Y m:Nat):np W Y m<2^(32*m):=zVa _ (zta _)
def Aq{W Y m:Nat}(a:W<2^(32*m))(b:Y<2^(32*m)):cj W Y m=if W<Y then 1 else 0:=by
 simp_all [cj,zMa]
def eQ(N V j:Nat):Nat:=N/V%2^(32*j)*V+N%V
def Ga(N V:Nat):eQ N V 0=N%V:=by simp[eQ,zdd]
def Db{N V k:Nat}(h:N/V<2^(32*k)):eQ N V k=N:=by
 unfold eQ;rw[zMa h,zGa];exact z4b N V
def yf(N V j:Nat):eQ N V (j+1)=eQ N V j+dg (N/V) j*V*2^(32*j):=by
 unfold eQ dg;rw[fe];grind
def zD{N V:Nat}(j:Nat)(h:0<V):eQ N V j<V*2^(32*j):=by
 unfold eQ;have h1:=zVa (N/V) (zta (32*j));have a:=zVa N h;have b:(N/V%2^(32*j)+1)*V<=2^(32*j)*V:=zya _ h1;grind
def ql{N V:Nat}(j:Nat)(h:0<V):eQ N V j/2^(32*j)<V:=by
 rw[zRa (zta _)];exact zD j h
def rY(N V j:Nat):eQ N V (j+1)/2^(32*j)=eQ N V j/2^(32*j)+V*dg (N/V) j:=by
 rw[yf,zvc _ _ (zta _),zGa V]
def BD(N V j:Nat):eQ N V (j+1)%2^(32*j)=eQ N V j%2^(32*j):=by
 rw[yf,zhd]
def IU{N V:Nat}(j:Nat)(h:0<V):eQ N V (j+1)/2^(32*j)/V=dg (N/V) j:=by
 simp_all [rY,zTb,z2a,ql,zWa]
def IV{N V:Nat}(j:Nat)(h:0<V):eQ N V (j+1)/2^(32*j)<V*4294967296:=by
 rw[zRa (zta _),zPa,zGa 4294967296,<-er];exact zD (j+1) h
def F9{N V n:Nat}(j:Nat)(h:0<V)(a:V<2^(32*n)):eQ N V (j+1)<2^(32*(j+n+1)):=by
 have h1:=zD (N:=N) (j+1) h;have b:V*2^(32*(j+1))<2^(32*n)*2^(32*(j+1)):=zrb a (zta _);grind
def xZ{U U' j:Nat}(h:U%2^(32*j)=U'%2^(32*j)):fJ U (U'/2^(32*j)) j=U':=by
 unfold fJ;rw[h,zGa (U'/2^(32*j)) (2^(32*j))];exact Nat.mod_add_div U' _
def FS(U Z j:Nat):fJ U Z j%2^(32*j)=U%2^(32*j):=by
 unfold fJ;rw[zhd,Nat.mod_mod]
def FQ(U Z j:Nat):fJ U Z j/2^(32*j)=Z:=by
 simp_all [fJ,zvc,zta,z2a,zVa,zWa]
def Bt{U Z j m:Nat}(a:Z<2^(32*m)):fJ U Z j<2^(32*(j+m)):=by
 have h1:fJ U Z j<(Z+1)*2^(32*j):=by unfold fJ;have:=zVa U (zta (32*j));rw[z8a];omega
 have b:(Z+1)*2^(32*j)<=2^(32*m)*2^(32*j):=zya _ a;grind
variable{N V n:Nat}
def oM(a:V<2^(32*n)):V<2^(32*(n+1)):=zYa a (zpa (by omega) (by omega))
def Ab{x y B:Nat}(hx:x<B):(x+y+B-y)%B=x:=by
 rw[show x+y+B-y=x+B from by omega,Nat.add_mod_right,zMa hx]
def BG(j:Nat)(h:0<V)(a:V<2^(32*n)) :
  fJ (eQ N V (j+1)) (np (eQ N V (j+1)/2^(32*j)) (V*dg (N/V) j) (n+1)) j=eQ N V j:=by
 have e:np (eQ N V (j+1)/2^(32*j)) (V*dg (N/V) j) (n+1)=eQ N V j/2^(32*j):=by
  unfold np;rw[rY];exact Ab (zlc (ql j h) (oM a))
 rw[e,xZ (BD N V j)]
def Gx(j:Nat)(h:0<V)(a:V<2^(32*n)) :
  np (eQ N V (j+1)/2^(32*j)) (V*(dg (N/V) j+1)) (n+1)=eQ N V j/2^(32*j)+2^(32*(n+1))-V:=by
 have h1:=ql (N:=N) j h;have b:=oM a;unfold np;rw[rY,zSb V (dg (N/V) j) 1,zVc];generalize 2^(32*(n+1))=B at *;generalize eQ N V j/2^(32*j)=x at *;generalize V*dg (N/V) j=y;rw[show x+y+B-(y+V)=x+B-V from by omega,zMa (by omega)]
def BH(j:Nat)(h:0<V)(b:V<2^(32*n)){U1:Nat}(a:U1=fJ (eQ N V (j+1)) (np (eQ N V (j+1)/2^(32*j)) (V*(dg (N/V) j+1)) (n+1)) j) :
  fJ U1 ((U1/2^(32*j)+V)%2^(32*(n+1))) j=eQ N V j:=by
 have h1:=ql (N:=N) j h;have d:=oM b;have c:(U1/2^(32*j)+V)%2^(32*(n+1))=eQ N V j/2^(32*j):=by
  rw[a,FQ,Gx j h b];generalize 2^(32*(n+1))=B at *;generalize eQ N V j/2^(32*j)=x at *;rw[show x+B-V+V=x+B from by omega,Nat.add_mod_right,zMa (by omega)]
 rw[c,xZ (by rw[a,FS,BD])]
end
end Go.Proofs.YtphlmegkommlnaaGreatDoor
