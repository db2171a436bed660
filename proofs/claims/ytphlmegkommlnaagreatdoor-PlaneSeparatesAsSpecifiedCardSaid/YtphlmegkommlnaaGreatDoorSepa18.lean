/- Part 18 of the proof that PlaneSeparatesAsSpecified answers true at every input -/
import Derived.Test.YtphlmegkommlnaaGreatDoorSepa01
import Derived.Test.YtphlmegkommlnaaGreatDoorSepa17
set_option linter.unusedVariables false
set_option linter.unusedSimpArgs false
set_option linter.unnecessarySimpa false
set_option linter.defProp false
set_option maxRecDepth 20000
namespace Go.Proofs.YtphlmegkommlnaaGreatDoor
noncomputable section
namespace Sy
open Go Go.Proofs Geo
def ag(L:List Nat):List D:=L.map λ(k:Nat)=>I (k:Int)
def ai(L:List Nat):(ag L).length=L.length:=zma ..
def vu{L:List Nat}{t k:Nat}(h:L[t]?=some k):(ag L)[t]?=some (I (k:Int)):=by simp[ag,h]
def Co{n:Nat}(h:0<n):D.idx (D.int .i64 0) n=some 0:=am (i:=0) h
theorem tn{m:V}{P:Nat->V}{a:Nat}:∀ (L:List Nat) (best:Option Nat) (b:Nat),L.foldl (cT m P a) best=some b->b∈L\/best=some b
 | [],best,b,h=>.inr h
 | k::L,best,b,h=>by
  rw[zhc] at h;rcases tn L _ b h with h1|h1
  ·exact .inl (zia _ h1)
  ·unfold cT at h1;split at h1
   ·exact .inr h1
   ·split at h1
    ·cases h1;exact .inl zra
    ·split at h1<;>cases h1
     ·exact .inl zra
     ·exact .inr rfl
theorem sP{body:Bd}{S:Nat->Nat->Prop}{a:Nat}{G:Nat->Prop}(g:∀ c b,G c->S c b->b≠a->G b)
  (d:∀ (c b:Nat) (out:List Nat),G c->c≠a->S c b->out.length<=1000->body [.sl (ag out),I (c:Int)]=some (.inl [.sl (ag (out++[c])),I (b:Int)]))
  (e:∀ out:List Nat,body [.sl (ag out),I (a:Int)]=some (.inr (0,[.sl (ag out)]))) :
  ∀ {c:Nat} {p:List Nat},Chain S a c p->G c->c≠a->∀ out:List Nat,(out++p).length<=1000->aL body [.sl (ag out),I (c:Int)]=some (0,[.sl (ag (out++p))])
 | c,_,.done s,hc,f,out,hl=>by
  have h1:=d c a out hc f s (by simp at hl;omega)
  rw[show aL body [.sl (ag out),I (c:Int)]=aL body [.sl (ag (out++[c])),I (a:Int)] from cH h1];exact ck (e _)
 | c,_,.step (y:=y) (l:=p) s hy k,hc,f,out,hl=>by
  have h1:=d c y out hc f s (by simp at hl;omega)
  rw[show aL body [.sl (ag out),I (c:Int)]=aL body [.sl (ag (out++[c])),I (y:Int)] from cH h1];have:=sP g d e k (g c y hc s hy) hy (out++[c]) (by simpa using hl)
  rw[this];simp
def jX{P:Nat->V}{i:Nat}{m:V}{d:Int}:bw P (i+1) m d=if V.dot m (P i)=d then bw P i m d++[i] else bw P i m d:=by
 unfold bw;rw[z2b,List.filter_append];by_cases h:V.dot m (P i)=d
 ·simp[h]
 ·simp[h]
def ZQ(n:Nat){l:List V}(hl:∀ x∈l,bd MV x)(hlen:l.length<=100)(hs:∀ i j,i<j->j<l.length->aG (pt l i) (pt l j)){m:V}{d:Int}(U:IsF (pt l) l.length m d)(hm:bd 549755813888 m) :
  ∃ p,bD (pt l) l.length m d p/\cA (n+5) 46 [aT l,cg (m,d)]=some (.sl (ag p)):=by
 obtain⟨p,hp,ax,B⟩:=U.poly hs;refine⟨p,hp,?_⟩;have F:=U.flat hs;obtain⟨a,q,E,P,L,h3⟩:=U.head hs;obtain⟨a',w,M⟩:=hp;rw[q] at w;cases w;obtain⟨on,u⟩:∃ on,bw (pt l) l.length m d=on:=⟨_,rfl⟩;rw[u] at F q E P L h3 M B;have J:∀ k∈on,k<l.length:=λk hk=>by rw[<-u] at hk;exact(aW.1 hk).1
 have O:∀ k∈on,V.dot m (pt l k)=d:=λk hk=>by rw[<-u] at hk;exact(aW.1 hk).2
 have hw:∀ b∈on,∀ k∈on,V.dot m (wy (pt l) b k)=0:=λb A k hk=>by rw[dA,O b A,O k hk];omega
 have a1:on.length<=100:=by
  rw[<-u];unfold bw;exact zBa (zzc _ _) (by rw[zRb];exact hlen)
 have a3:p.length<=on.length:=z4b ax λz hz=>((B z).1 hz).1;have ll:(l.map ab).length=l.length:=zma ..;have r:=λ(c k:Nat) (hc:c∈on) (hk:k∈on) (best:Option Nat) (A:∀ b,best=some b->b∈on) (X:D)=>L2 n hl (d:=d) U.nz.1 (J c hc) (J k hk) (best:=best) (λb e=>⟨J b (A b e),hw c hc b (A b e)⟩) (hw c hc k hk) X;have Q:∀ c∈on,Geo.mu (pt l) on c->∃ b,on.foldl (cT m (pt l) c) none=some b/\Side m (pt l) on c b:=λc hc ec=>we F hc ec (h3 c hc);obtain⟨t0,C⟩:∃ t0,on=a::t0:=by
  cases hx:on with
  | nil=>rw[hx] at E;simp at E
  | cons y t0=>rw[hx] at q;simp at q;subst q;exact⟨t0,rfl⟩
 have f:(ag on)[0]?=some (I (a:Int)):=by rw[C];rfl
 have g:0<(ag on).length:=by rw[ai,C];simp
 rw[Z3]
 delta Ps qG qB qC qT qS qX qV qW qZ iL iR Jn
 refine aa (z:=l.map ab) rfl ?_;refine bq (λi s=>s=[I (i:Int),.sl (ag (bw (pt l) i m d))]) l.length 0 (zla _) rfl (λi hi s o=>?_) (λs o=>?_)
 ·subst o;left;refine⟨_,?_,rfl⟩;refine aa ah (aa ac ?_);refine aA (by show((i:Int)<((l.map ab).length:Int));rw[ll];omega) ?_
  refine aa (z:=(0,[.sl (ag (bw (pt l) (i+1) m d))])) ?_ (aa (aq (ay (i:=i) (by omega))) rfl)
  refine aa (z:=l.map ab) rfl (aa (z:=i) (by rw[ll];exact am hi) (aa (cZ hi) (aa (z:=ab m) rfl (aa (Fi (n+3) hm (hl _ (cD hi)) (by decide)) (aa (z:=I d) rfl ?_)))))
  rw[bI];refine aa ac ?_;rw[jX];by_cases hd:V.dot m (pt l i)=d
  ·have H:V.dot m (l.getD i V.zero)=d:=hd;rw[if_pos hd,Mr H,if_pos ?_]
   ·simp[g1,D.els,ag,g0]
   ·have:(bw (pt l) i m d).length<=i:=by unfold bw;exact zBa (zzc _ _) (by simp)
    simp only[g0,g1,D.els,ai,zIa,zmb];omega
  ·have H:¬ V.dot m (l.getD i V.zero)=d:=hd;rw[if_neg hd,Ms H];rfl
 ·subst o;refine⟨(0,[.sl (ag on)]),?_,?_⟩
  ·refine aa ah (aa ac ?_);rw[<-u];exact aD (by show ¬ ((l.length:Int)<((l.map ab).length:Int));rw[ll];omega) rfl
  refine aa (Co g) (aa f (aa (Co g) (aa f ?_)));obtain⟨Y,al,K⟩:=Q a E P;refine bq (λt s=>s=[jz ((on.take t).foldl (cT m (pt l) a) none),.sl (ag on),I (t:Int),.sl (ag on)]) on.length 0 (zla _) rfl (λt v s o=>?_) (λs o=>?_)
  ·subst o;left;refine⟨_,?_,rfl⟩;refine aa ah (aa ac ?_);refine aA (by show((t:Int)<((ag on).length:Int));rw[ai];omega) ?_
   have hk:on[t]?=some on[t]:=zda v;refine aa (z:=(0,[jz ((on.take (t+1)).foldl (cT m (pt l) a) none),.sl (ag on)])) ?_ (aa (aq (ay (i:=t) (by omega))) rfl)
   refine aa (z:=ag on) rfl (aa (z:=t) (by rw[ai];exact am v) (aa (vu hk) ?_))
   rw[zua v,List.foldl_append,zhc,zxd];exact r a on[t] E (zva v) _ (λb A=>by
    rcases tn _ _ b A with h|h
    ·exact zEa h
    ·cases h) (.sl (ag on))
  ·subst o;rw[z3a,al];refine⟨(0,[I (Y:Int),.sl (ag on)]),?_,?_⟩
   ·refine aa ah (aa ac ?_);refine aD (by show ¬ ((on.length:Int)<((ag on).length:Int));rw[ai];omega) ?_
    rfl
   obtain⟨W,R,N,hy⟩:∃ W,p=a::W/\Chain (Side m (pt l) on) a Y W/\Y≠a:=by
    cases M with
    | done s=>exact absurd rfl s.ne
    | step s aI k=>
     have:=Side.unique F E s K;subst this;exact⟨_,rfl,k,aI⟩
   refine ql (sP (S:=Side m (pt l) on) (a:=a) (G:=λc=>c∈on/\Geo.mu (pt l) on c) (λc b hc s _=>⟨s.mem,s.ext F hc.1⟩) (λc b out hc an a0 a2=>?_) (λout=>?_) N ⟨K.mem,K.ext F E⟩ hy [a] ?_) ?_
   ·obtain⟨b',ad,T⟩:=Q c hc.1 hc.2;have:=Side.unique F hc.1 a0 T;subst this;refine aa (z:=ag on) rfl (aa (Co g) (aa f ?_));have Z:D.beq (I (c:Int)) (I (a:Int))=false:=by rw[ca];simp[an]
    refine aa (z:=true) (by show D.truth (D.bool (!(D.beq (I (c:Int)) (I (a:Int)))))=_;rw[Z];rfl) ?_
    rw[if_pos rfl,if_pos (by simp only[g0,D.els,ai,zIa,zmb];omega)]
    refine aa (z:=ag on) rfl ?_;refine bC (λt s=>s=[jz ((on.take t).foldl (cT m (pt l) c) none),I (t:Int)]) on.length 0 (zla _) rfl (λt v s o=>?_) (λs o=>?_)
    ·subst o;left;refine⟨_,?_,rfl⟩;refine aa ah (aa ac ?_);refine aA (by show((t:Int)<((ag on).length:Int));rw[ai];omega) ?_
     have hk:on[t]?=some on[t]:=zda v;refine aa (z:=(0,[jz ((on.take (t+1)).foldl (cT m (pt l) c) none),.sl (ag on)])) ?_ (aa (aq (ay (i:=t) (by omega))) rfl)
     refine aa (z:=ag on) rfl (aa (z:=t) (by rw[ai];exact am v) (aa (vu hk) ?_))
     rw[zua v,List.foldl_append,zhc,zxd];exact r c on[t] hc.1 (zva v) _ (λb A=>by
      rcases tn _ _ b A with h|h
      ·exact zEa h
      ·cases h) (.sl (ag on))
    ·subst o;rw[z3a,ad];refine⟨(0,[I (b:Int)]),?_,?_⟩
     ·refine aa ah (aa ac ?_);refine aD (by show ¬ ((on.length:Int)<((ag on).length:Int));rw[ai];omega) ?_
      rfl
     ·simp[g0,g1,D.els,ag]
   ·refine aa (z:=ag on) rfl (aa (Co g) (aa f ?_));have Z:D.beq (I (a:Int)) (I (a:Int))=true:=by rw[ca];simp
    refine aa (z:=false) (by show D.truth (D.bool (!(D.beq (I (a:Int)) (I (a:Int)))))=_;rw[Z];rfl) ?_
    rfl
   ·have:([a]++W).length=p.length:=by rw[R];rfl
    omega
   ·rw[R];rfl
end Sy
end
noncomputable section
namespace Sy
open Go Go.Proofs Geo
def mV(q:V×Int)(p:List Nat):D:=.st [ab q.1,I q.2,.sl (ag p)]
def cd(l:List V):D:=.st [aT l]
def E8(l:List V):Prop:=∀ i j,i<j->j<l.length->aG (pt l i) (pt l j)
def Mp{l:List V}(hl:∀ x∈l,bd MV x){m:V}{d:Int}(h:IsF (pt l) l.length m d):bd 549755813888 m:=by
 obtain⟨i,j,k,h1,f,b,g,c,n⟩:=h.ex;have a:=hl _ (cD (show i<l.length by omega))
 have e:=hl _ (cD (show j<l.length by omega))
 have hk:=hl _ (cD b);have:=cX (iA (nj (P:=pt l) a e) (nj (P:=pt l) a hk));rcases c with rfl|rfl
 ·exact this
 ·exact pI this
def ZN(n:Nat){l:List V}(hl:∀ x∈l,bd MV x)(hlen:l.length<=100)(r:E8 l):∃ (L:List (V×Int)) (poly:V×Int->List Nat),Facets (pt l) l.length L/\(∀ q∈L,bD (pt l) l.length q.1 q.2 (poly q))/\L.length<=2000000 ∧
  cA (n+7) 18 [cd l]=some (.sl (L.map λq=>mV q (poly q))):=by
 obtain⟨y,h1,K,L,g,j,m,rfl⟩:=ZP n hl hlen;have b:=g.facets j m;have e:L.length<=2000000:=by rw[j.length_eq];exact g.len hlen
 have hex:∀ q:V×Int,∃ p,q∈L->bD (pt l) l.length q.1 q.2 p/\cA (n+6) 46 [aT l,cg q]=some (.sl (ag p)):=λq=>by
  by_cases hq:q∈L
  ·have k:=(b.mem q).1 hq;obtain⟨p,t,u⟩:=ZQ (n+1) hl hlen r k (Mp hl k);exact⟨p,λ_=>⟨t,u⟩⟩
  ·exact⟨[],λh=>absurd h hq⟩
 obtain⟨poly,a⟩:∃ poly:V×Int->List Nat,∀ q∈L,bD (pt l) l.length q.1 q.2 (poly q)/\cA (n+6) 46 [aT l,cg q]=some (.sl (ag (poly q))):=⟨λq=>Classical.choose (hex q),λq hq=>Classical.choose_spec (hex q) hq⟩;refine⟨L,poly,b,λq hq=>(a q hq).1,e,?_⟩;have hp:=λq (hq:q∈L)=>(a q hq).2;rw[ZT]
 delta Pj qG qB qC qS qX qV qW qZ iL iR Jn
 refine aa (z:=aT l) rfl (aa h1 (aa (z:=L.map cg) rfl ?_));have f:(L.map cg).length=L.length:=zma ..;refine bq (λi s=>s=[.sl ((L.take i).map λq=>mV q (poly q)),I (i:Int)]) L.length 0 (zla _) rfl (λi c s d=>?_) (λs d=>?_)
 ·subst d;left;refine⟨_,?_,rfl⟩;refine aa ah (aa ac (aA (by show((i:Int)<((L.map cg).length:Int));rw[f];omega) ?_))
  have o:(L.map cg)[i]?=some (cg L[i]):=by simp[c]
  refine aa (z:=L.map cg) rfl (aa (z:=i) (by rw[f];exact am c) (aa o ?_))
  refine aa (z:=ab L[i].1) rfl (aa (z:=I L[i].2) rfl (aa (z:=aT l) rfl (aa (hp L[i] (zva c)) ?_)));rw[if_pos (by simp only[g0,D.els,zma,zYa,zIa,zmb];omega)]
  refine aa (aq (ay (i:=i) (by omega))) ?_
  rw[zua c,zrb];rfl
 ·subst d;refine⟨(0,[.sl ((L.take L.length).map λq=>mV q (poly q))]),?_,?_⟩
  ·refine aa ah (aa ac (aD (by show ¬ ((L.length:Int)<((L.map cg).length:Int));rw[f];omega) rfl))
  ·rw[z3a];rfl
def cn(e:Nat×Nat):D:=.st [I (e.1:Int),I (e.2:Int)]
def Ju{a b:Nat×Nat}(h:zL a b):pF [be (a.1:Int) b.1,be (a.2:Int) b.2]=-1:=by
 simp only[zL] at h;rcases h with h|⟨h1,h⟩
 ·have:(a.1:Int)<b.1:=by omega
  simp[pF,be,this]
 ·have e:(a.1:Int)=b.1:=by omega
  have:(a.2:Int)<b.2:=by omega
  simp[pF,be,e,this]
def Jt{a b:Nat×Nat}(h:zL b a):pF [be (a.1:Int) b.1,be (a.2:Int) b.2]=1:=by
 simp only[zL] at h;rcases h with h|⟨h1,h⟩
 ·have:(b.1:Int)<a.1:=by omega
  simp[pF,be,this,z6b.2 (zMa this)]
 ·have e:(a.1:Int)=b.1:=by omega
  have:(b.2:Int)<a.2:=by omega
  simp[pF,be,e,this,z6b.2 (zMa this)]
def FB(n:Nat)(p q:Nat×Nat):sQ (cO aL (cA (n+3)) (jg aL (cA (n+3)))) (cc 51) (cn p) (cn q)=some (pF [be (p.1:Int) q.1,be (p.2:Int) q.2]):=by
 unfold sQ;rw[show ∀ l,(cO aL (cA (n+3)) (jg aL (cA (n+3)))).call (cc 51) l=cA (n+3) 51 l from λl=>congrFun (congrArg (cA (n+3)) (show sN (cc 51)=51 by kernel_rfl)) l,show cn p=.st [I (p.1:Int),I (p.2:Int)] from rfl,show cn q=.st [I (q.1:Int),I (q.2:Int)] from rfl,ZG]
 rfl
theorem KP(n:Nat):∀ (L:List (Nat×Nat)),L.Pairwise zL->rK (cO aL (cA (n+3)) (jg aL (cA (n+3)))) (cc 51) (L.map cn)=true
 | [],_=>rfl
 | p::L,h=>by
  obtain⟨h1,a⟩:=zFa.1 h;simp only[zWa,rK,zaa,zpa,zab];refine⟨⟨?_,?_⟩,KP n L a⟩
  ·simp only[EG,FB];simp[pF,be]
  ·rintro _ ⟨q,hq,rfl⟩;simp only[qm,EG,FB,Ju (h1 q hq),Jt (h1 q hq)];decide
def J2{a b:Nat×Nat}(h:a≠b):zL a b\/zL b a:=by
 obtain⟨a1,a2⟩:=a;obtain⟨c,d⟩:=b;simp only[zL];by_cases h1:a1=c<;>by_cases h2:a2=d
 ·subst h1;subst h2;exact absurd rfl h
 all_goals omega
theorem Af:∀ (K:List (Nat×Nat)),K.Nodup->∃ L:List (Nat×Nat),L.Perm K/\L.Pairwise zL
 | [],_=>⟨[],.refl _,.nil⟩
 | x::K,h=>by
  obtain⟨h1,d⟩:=List.nodup_cons.1 h;obtain⟨L,b,g⟩:=Af K d;have ins:∀ L:List (Nat×Nat),L.Pairwise zL->(∀ y∈L,x≠y)->∃ M:List (Nat×Nat),M.Perm (x::L)/\M.Pairwise zL:=by
   intro L
   induction L with
   | nil=>intro _ _;exact⟨[x],.refl _,by simp⟩
   | cons y L ih=>
    intro hp hn;obtain⟨c,i⟩:=zFa.1 hp;rcases J2 (hn y zra) with k|k
    ·refine⟨x::y::L,.refl _,zFa.2 ⟨λz a=>?_,hp⟩⟩;rcases zza.1 a with rfl|a
     ·exact k
     ·have:=c z a;simp only[zL] at *;omega
    ·obtain⟨M,m1,m2⟩:=ih i (λz a=>hn z (zia _ a));refine⟨y::M,(m1.cons y).trans (.swap x y L),zFa.2 ⟨λz a=>?_,m2⟩⟩;rcases zza.1 (m1.subset a) with rfl|a
     ·exact k
     ·exact c z a
  obtain⟨M,m1,m2⟩:=ins L g (λy f e=>h1 (b.subset (e ▸ f)));exact⟨M,m1.trans (b.cons x),m2⟩
def fX{p:List Nat}{k:Nat}(h:k<p.length):(ag p)[k]?=some (I (p.getD k 0:Nat)):=by simp[ag,List.getD,h]
def eW(p:List Nat)(k:Nat):List (Nat×Nat):=(List.range k).filterMap λk=>if p.getD k 0<p.getD ((k+1)%p.length) 0 then some (p.getD k 0,p.getD ((k+1)%p.length) 0) else none
def xe(p:List Nat)(k:Nat):eW p (k+1)=if p.getD k 0<p.getD ((k+1)%p.length) 0 then eW p k++[(p.getD k 0,p.getD ((k+1)%p.length) 0)] else eW p k:=by
 unfold eW;rw[z2b,List.filterMap_append];split
 ·rename_i h;simp only[List.filterMap_cons,List.filterMap_nil,if_pos h]
 ·rename_i h;simp only[List.filterMap_cons,List.filterMap_nil,if_neg h,ztb]
def qU(p:List Nat)(k:Nat):(eW p k).length<=k:=by
 unfold eW;exact zBa (List.length_filterMap_le _ _) (by simp)
def ZO(n:Nat){l:List V}{L:List (V×Int)}{poly:V×Int->List Nat}(h18:cA (n+7) 18 [cd l]=some (.sl (L.map λq=>mV q (poly q))))(hL:L.length<=2000000)(hp:∀ q∈L,(poly q).length<=100/\0<(poly q).length)
  (h:(cM L poly).Nodup):∃ E:List (Nat×Nat),E.Perm (cM L poly)/\E.Pairwise zL/\cA (n+8) 21 [cd l]=some (.sl (E.map cn)):=by
 obtain⟨E,o,r⟩:=Af _ h;refine⟨E,o,r,?_⟩;rw[ZV];unfold MP;refine aa h18 (aa (z:=L.map λq=>mV q (poly q)) rfl ?_);have j:(L.map λq=>mV q (poly q)).length=L.length:=zma ..;have t:∀ i,i<=L.length->(cM (L.take i) poly).length<=i*100:=λi d=>by
  induction i with
  | zero=>simp[cM]
  | succ i ih=>
   have e:i<L.length:=by omega
   rw[zua e,cM,List.flatMap_append,zja];have h1:=ih (by omega)
   simp only[cM] at h1;have y:(ks (poly L[i])).length<=100:=zBa (qU (poly L[i]) (poly L[i]).length) (hp _ (zva e)).1;simp only[List.flatMap_cons,List.flatMap_nil,ztb];omega
 refine bq (λi s=>s=[.sl ((cM (L.take i) poly).map cn),I (i:Int)]) L.length 0 (zla _) rfl (λi d s b=>?_) (λs b=>?_)
 ·subst b;left;refine⟨_,?_,rfl⟩;refine aa ah (aa ac (aA (by show((i:Int)<((L.map λq=>mV q (poly q)).length:Int));rw[j];omega) ?_))
  have w:(L.map λq=>mV q (poly q))[i]?=some (mV L[i] (poly L[i])):=by simp[d]
  refine aa (z:=L.map λq=>mV q (poly q)) rfl (aa (z:=i) (by rw[j];exact am d) (aa w (aa (z:=.sl (ag (poly L[i]))) rfl (aa (z:=ag (poly L[i])) rfl ?_))))
  obtain⟨x,m⟩:=hp L[i] (zva d);have u:=t i (by omega)
  obtain⟨M,c⟩:∃ M,M=cM (L.take i) poly:=⟨_,rfl⟩;rw[<-c] at u ⊢;have g:cM (L.take (i+1)) poly=M++eW (poly L[i]) (poly L[i]).length:=by
   rw[zua d,c,cM,List.flatMap_append];simp[cM,ks,eW]
  rw[g];generalize poly L[i]=p at *;refine bC (λk s=>s=[.sl ((M++eW p k).map cn),I (k:Int)]) p.length 0 (zla _) (by simp[eW,g0,D.els]) (λk hk s b=>?_) (λs b=>?_)
  ·subst b;left;refine⟨_,?_,rfl⟩;refine aa ah (aa ac (aA (by show((k:Int)<((ag p).length:Int));rw[ai];omega) ?_))
   have a:(k+1)%p.length<p.length:=zRa _ m;have f:(((k:Int)+1).tmod (p.length:Int))=(((k+1)%p.length:Nat):Int):=by
    rw[show((k:Int)+1)=((k+1:Nat):Int) by omega];exact zYc ..
   refine aa (z:=(0,[.sl ((M++eW p (k+1)).map cn)])) ?_ (aa (aq (ay (i:=k) (by omega))) rfl)
   refine aa (z:=ag p) rfl (aa (z:=k) (by rw[ai];exact am hk) (aa (fX hk) (aa (z:=.sl (ag p)) rfl (aa (aq (ay (i:=k) (by omega))) (aa (z:=.sl (ag p)) rfl (aa (z:=ag p) rfl ?_))))))
   refine aa (z:=I (((k+1)%p.length:Nat):Int)) (by rw[show((ag p).length:Int)=(p.length:Int) by rw[ai],kP (by omega),f]) ?_
   refine aa (z:=ag p) rfl (aa (z:=(k+1)%p.length) (by rw[ai];exact am a) (aa (fX a) (aa ah (aa ac ?_))))
   rw[xe];have v:=qU p k;by_cases hab:p.getD k 0<p.getD ((k+1)%p.length) 0
   ·refine aA (by show((p.getD k 0:Nat):Int)<((p.getD ((k+1)%p.length) 0:Nat):Int);omega) ?_
    rw[if_pos hab,if_pos (by simp only[g0,D.els,zma,zja,zIa,zmb];omega)]
    simp[g0,D.els,cn]
   ·refine aD (by show ¬ ((p.getD k 0:Nat):Int)<((p.getD ((k+1)%p.length) 0:Nat):Int);omega) ?_
    rw[if_neg hab];rfl
  ·subst b;refine⟨(0,[.sl ((M++eW p p.length).map cn)]),?_,?_⟩
   ·refine aa ah (aa ac (aD (by show ¬ ((p.length:Int)<((ag p).length:Int));rw[ai];omega) rfl))
   ·exact aa (aq (ay (i:=i) (by omega))) rfl
 ·subst b;refine⟨(0,[.sl ((cM (L.take L.length) poly).map cn)]),?_,?_⟩
  ·refine aa ah (aa ac (aD (by show ¬ ((L.length:Int)<((L.map λq=>mV q (poly q)).length:Int));rw[j];omega) rfl))
  ·have hu:=t L.length (zfa _);rw[z3a] at hu ⊢;refine aa (z:=(cM L poly).map cn) ?_ (aa (ur (KP (n+4) E r) (o.symm.map _)) rfl);exact aA (by show((cM L poly).map cn).length<=1073741824;rw[zma];omega) rfl
end Sy
end
noncomputable section
namespace Sy
open Go Go.Proofs Geo
abbrev FL:=List ((V×Int)×List Nat)
def aK(L:FL):List D:=L.map λf=>mV f.1 f.2
def aV(L:FL):(aK L).length=L.length:=zma ..
def ed{L:FL}{i:Nat}(h:i<L.length):(aK L)[i]?=some (mV L[i].1 L[i].2):=by simp[aK,h]
def Ut(n:Nat)(L:FL)(m:V)(hL:L.length<=3000000):cA (n+1) 108 [.sl (aK L),ab m]=some (.bool (L.any λf=>decide (f.1.1=m))):=by
 rw[VM]
 delta Hz qB qT qX qL qZ iL iR Jn
 refine bq (λi s=>s=[I (i:Int)]/\(L.take i).any (λf=>decide (f.1.1=m))=false) L.length 0 (zla _) ⟨rfl,by simp⟩ (λi a s c=>?_) (λs c=>?_)
 ·obtain⟨rfl,b⟩:=c;by_cases he:L[i].1.1=m
  ·right;refine⟨(0,[.bool true]),?_,?_⟩
   ·refine aa (z:=aK L) rfl (aa ah (aa ac (aA (by show((i:Int)<((aK L).length:Int));rw[aV];omega) ?_)))
    refine aa (z:=aK L) rfl (aa (z:=i) (by rw[aV];exact am a) (aa (ed a) (aa (z:=ab L[i].1.1) rfl ?_)))
    rw[iC];exact aa ac (aA he rfl)
   ·have:L.any (λf=>decide (f.1.1=m))=true:=z8b.2 ⟨L[i],zva a,by simpa using he⟩
    simp[this,g0]
  ·left;refine⟨[I ((i+1:Nat):Int)],?_,rfl,?_⟩
   ·refine aa (z:=aK L) rfl (aa ah (aa ac (aA (by show((i:Int)<((aK L).length:Int));rw[aV];omega) ?_)))
    refine aa (z:=aK L) rfl (aa (z:=i) (by rw[aV];exact am a) (aa (ed a) (aa (z:=ab L[i].1.1) rfl ?_)))
    rw[iC];exact aa ac (aD he (aa (aq (ay (i:=i) (by omega))) rfl))
   ·rw[zua a,zUc,b];simp[he]
 ·obtain⟨rfl,b⟩:=c;rw[z3a] at b;refine⟨(1,[]),?_,by simp[b]⟩
  exact aa (z:=aK L) rfl (aa ah (aa ac (aD (by show ¬ ((L.length:Int)<((aK L).length:Int));rw[aV];omega) rfl)))
def kZ(f:(V×Int)×List Nat):FL->FL
 | []=>[f]
 | x::L=>if aG f.1.1 x.1.1 then f::x::L else x::kZ f L
def Uv(n:Nat)(L:FL)(f:(V×Int)×List Nat)(hL:L.length<=3000000):cA (n+2) 110 [.sl (aK L),mV f.1 f.2]=some (.sl (aK (kZ f L))):=by
 rw[VO]
 delta HB qG qB qT qN qX qL qV qW qZ iL iR Jn
 have app:∀ (o:FL) (x:(V×Int)×List Nat),aK o++[mV x.1 x.2]=aK (o++[x]):=λo x=>by simp[aK]
 refine bq (λi s=>∃ (out:FL) (put:Bool),s=[.sl (aK out),.bool put,I (i:Int)]/\out.length<=2*i/\(put=false->kZ f L=out++kZ f (L.drop i))/\(put=true->kZ f L=out++L.drop i)) L.length 0 (zla _) ⟨[],false,rfl,by simp,by simp,by simp⟩ (λi a s c=>?_) (λs c=>?_)
 ·obtain⟨out,put,rfl,j,h1,b⟩:=c;left;have d:L.drop i=L[i]::L.drop (i+1):=zpb a;have hc:=NP n f.1.1 L[i].1.1;obtain⟨o,p,he,m,k,l⟩:∃ o p,(if put=false/\aG f.1.1 L[i].1.1 then(out++[f],true) else(out,put))=(o,p)/\o.length<=2*i+1/\(p=false->kZ f L=o++L[i]::kZ f (L.drop (i+1)))/\(p=true->kZ f L=o++L[i]::L.drop (i+1)):=by
   by_cases hput:put=false/\aG f.1.1 L[i].1.1
   ·refine⟨_,_,if_pos hput,by simp;omega,by simp,λ_=>?_⟩
    rw[h1 hput.1,d];simp[kZ,hput.2]
   ·refine⟨_,_,if_neg hput,by omega,λhp=>?_,λhp=>?_⟩
    ·have g:¬ aG f.1.1 L[i].1.1:=λh=>hput ⟨hp,h⟩;rw[h1 hp,d];simp[kZ,g]
    ·rw[b hp,d]
  refine⟨[.sl (aK (o++[L[i]])),.bool p,I ((i+1:Nat):Int)],?_,o++[L[i]],p,rfl,by simp;omega,λhp=>by rw[k hp];simp,λhp=>by rw[l hp];simp⟩
  refine aa (z:=aK L) rfl (aa ah (aa ac (aA (by show((i:Int)<((aK L).length:Int));rw[aV];omega) ?_)))
  refine aa (z:=ab f.1.1) rfl (aa (z:=aK L) rfl (aa (z:=i) (by rw[aV];exact am a) (aa (ed a) (aa (z:=ab L[i].1.1) rfl (aa hc ?_)))))
  refine aa (z:=(0,[.sl (aK o),.bool p])) ?_ ?_
  ·refine aa (z:=.bool (!put)) rfl (aa (z:=!put) rfl (aa (z:=!put&&decide (aG f.1.1 L[i].1.1)) ?_ (aa (z:=!put&&decide (aG f.1.1 L[i].1.1)) rfl ?_)))
   ·cases put
    ·exact ac
    ·rfl
   ·by_cases hput:put=false/\aG f.1.1 L[i].1.1
    ·rw[if_pos hput] at he;obtain⟨rfl,e⟩:=hput;cases he;rw[show(!false&&decide (aG f.1.1 L[i].1.1))=true by simp[e],if_pos rfl,if_pos (by simp only[g0,D.els,aV,zIa,zmb];omega)]
     simp only[g0,D.els,app]
    ·rw[if_neg hput] at he;cases he;rw[show(!put&&decide (aG f.1.1 L[i].1.1))=false by
      cases put
      ·simpa using hput
      ·rfl]
     rfl
  ·refine aa (z:=aK L) rfl (aa (z:=i) (by rw[aV];exact am a) (aa (ed a) ?_))
   rw[if_pos (by simp only[g0,D.els,aV,zIa,zmb];omega)]
   refine aa (aq (ay (i:=i) (by omega))) ?_
   simp only[g0,g1,D.els,app];rfl
 ·obtain⟨out,put,rfl,j,h1,b⟩:=c;refine⟨(0,[.sl (aK out),.bool put]),?_,?_⟩
  ·exact aa (z:=aK L) rfl (aa ah (aa ac (aD (by show ¬ ((L.length:Int)<((aK L).length:Int));rw[aV];omega) rfl)))
  ·cases put
   ·have:=h1 rfl;rw[z5c] at this;rw[this];refine aa (z:=(0,[.sl (aK (out++[f]))])) ?_ rfl;refine aa (z:=.bool true) rfl (aa (z:=true) rfl ?_);rw[if_pos rfl,if_pos (by simp only[g0,D.els,aV,zIa,zmb];omega)]
    simp only[g0,D.els,app]
   ·have:=b rfl;rw[z5c,ztb] at this;rw[this];rfl
end Sy
end
noncomputable section
namespace Sy
open Go Go.Proofs Geo
def gR(l:List V)(m:V)(a b x:Nat):Bool:=
 decide (0<=T m (wy (pt l) a b) (wy (pt l) a x))&&(!decide (T m (wy (pt l) a b) (wy (pt l) a x)=0)||(decide (0<=V.dot (wy (pt l) a x) (wy (pt l) a b))&&decide (V.dot (wy (pt l) a x) (wy (pt l) a b)<=V.dot (wy (pt l) a b) (wy (pt l) a b))))
def Bs{l:List V}{m:V}{a b x:Nat}:gR l m a b x=true↔(0<=T m (wy (pt l) a b) (wy (pt l) a x)/\(T m (wy (pt l) a b) (wy (pt l) a x)=0->0<=V.dot (wy (pt l) a x) (wy (pt l) a b)/\V.dot (wy (pt l) a x) (wy (pt l) a b)<=V.dot (wy (pt l) a b) (wy (pt l) a b))):=by
 simp only[gR,zaa,zBb,zGa,decide_eq_true_eq,decide_eq_false_iff_not];by_cases h:T m (wy (pt l) a b) (wy (pt l) a x)=0<;>simp[h]
def wA(l:List V)(m:V)(d:Int)(a b:Nat):Bool:=(bw (pt l) l.length m d).all λx=>gR l m a b x
def wB{l:List V}{m:V}{d:Int}{a b:Nat}(e:b∈bw (pt l) l.length m d)(c:b≠a):wA l m d a b=true↔Side m (pt l) (bw (pt l) l.length m d) a b:=by
 simp only[wA,zpa,Bs];exact⟨λh=>⟨e,c,h⟩,λh=>h.all⟩
def UE(n:Nat){l:List V}(hl:∀ x∈l,bd MV x)(hlen:l.length<=100){m:V}{d:Int}(E:m≠V.zero)(hm:bd 549755813888 m){a b:Nat}(p:a<l.length)(W:b<l.length)(j:V.dot m (pt l a)=d)(C:V.dot m (pt l b)=d) :
  cA (n+3) 156 [aT l,ab m,I d,ab (pt l a),ab (pt l b)]=some (.bool (wA l m d a b)):=by
 rw[Wn]
 delta H7 qB qC qT qX qL qZ iL iR Jn
 have w1:bd 524288 (wy (pt l) a b):=nj (hl _ (cD p)) (hl _ (cD W));refine aa (z:=ab (wy (pt l) a b)) (wW (n+1) (hl _ (cD W)) (hl _ (cD p)) (by decide)) ?_
 have f:(l.map ab).length=l.length:=zma ..;have F:V.dot m (wy (pt l) a b)=0:=by rw[dA,j,C];omega
 refine bq (λi s=>s=[I (i:Int)]/\(bw (pt l) i m d).all (λx=>gR l m a b x)=true) l.length 0 (zla _) ⟨rfl,by simp[bw]⟩ (λi c s B=>?_) (λs B=>?_)
 ·obtain⟨rfl,q⟩:=B;have hc:=Dj (n+1) hm (hl _ (cD c)) (by decide)
  by_cases hon:V.dot m (pt l i)=d
  ·have Y:bd 524288 (wy (pt l) a i):=nj (hl _ (cD p)) (hl _ (cD c));have G:V.dot m (wy (pt l) a i)=0:=by rw[dA,j,hon];omega
   have c1:=wW (n+1) (hl _ (cD c)) (hl _ (cD p)) (by decide)
   have c2:=NS (n+1) w1 Y (by decide)
   have S:=UK n m (V.cross (wy (pt l) a b) (wy (pt l) a i));rw[Ct E (jM F G)] at S;have U:=Dj (n+1) Y w1 (by decide)
   have Z:=Dj (n+1) w1 w1 (by decide)
   have step:∀ (y:Nat×List D),y=(if gR l m a b i then(0,[]) else(1,[D.bool false]))->(Option.bind (D.asSl (aT l)) λX=>Option.bind (D.idx (I (i:Int)) (List.length X)) λi7=>
     Option.bind (X[i7]?) λx8=>Option.bind (cA (n+2) 107 [ab m,x8]) λr9=>Option.bind (D.truth (D.bool (!(D.beq r9 (I d))))) λr=>
     if r then(some ((0:Nat),([]:List D))) else(Option.bind (D.asSl (aT l)) λk=>Option.bind (D.idx (I (i:Int)) (List.length k)) λrZ=>
     Option.bind (k[rZ]?) λO=>Option.bind (cA (n+2) 112 [O,ab (pt l a)]) λg=>Option.bind (cA (n+2) 123 [ab (wy (pt l) a b),g]) λH=>Option.bind (cA (n+2) 188 [ab m,H]) λo=>
     Option.bind (D.bin .lss o (D.int .i64 0)) λP=>Option.bind (D.truth P) λt=>
     Option.bind (if t then(some true) else(Option.bind (D.truth (D.bool (D.beq o (D.int .i64 0)))) λu=>
     if u then(Option.bind (cA (n+2) 107 [g,ab (wy (pt l) a b)]) λJ=>Option.bind (D.bin .lss J (D.int .i64 0)) λQ=>Option.bind (D.truth Q) λv=>
     if v then(some true) else(Option.bind (cA (n+2) 107 [g,ab (wy (pt l) a b)]) λK=>Option.bind (cA (n+2) 107 [ab (wy (pt l) a b),ab (wy (pt l) a b)]) λL=>
     Option.bind (D.bin .gtr K L) λR=>D.truth R)) else(some false))) λw=>Option.bind (D.truth (D.bool w)) λA=>
     if A then(some (1,[(D.bool false)])) else(some (0,[]))))=some y:=by
    intro y hy;refine aa (z:=l.map ab) rfl (aa (z:=i) (by rw[f];exact am c) (aa (cZ c) (aa hc (aa (z:=false) ?_ ?_))))
    ·rw[bI,show V.dot m (l.getD i V.zero)=d from hon];simp[D.truth]
    rw[if_neg (by decide)]
    refine aa (z:=l.map ab) rfl (aa (z:=i) (by rw[f];exact am c) (aa (cZ c) (aa (z:=ab (wy (pt l) a i)) c1 (aa c2 (aa S (aa ah (aa ac ?_)))))))
    rw[hy];have e:V.dot m (V.cross (wy (pt l) a b) (wy (pt l) a i))=T m (wy (pt l) a b) (wy (pt l) a i):=rfl;rw[e];refine aa (z:=!gR l m a b i) ?_ ?_
    ·by_cases t1:T m (wy (pt l) a b) (wy (pt l) a i)<0
     ·rw[Mr (CZ.2 t1)];have:¬ (0<=T m (wy (pt l) a b) (wy (pt l) a i)):=by omega
      simp[gR,this]
     ·rw[Ms (λh=>t1 (CZ.1 h))];have M:0<=T m (wy (pt l) a b) (wy (pt l) a i):=by omega
      by_cases t2:T m (wy (pt l) a b) (wy (pt l) a i)=0
      ·refine aa (z:=true) (by rw[bI,decide_eq_true (eB.2 t2)];rfl) ?_
       rw[if_pos rfl];refine aa U (aa ah (aa ac ?_));by_cases t3:V.dot (wy (pt l) a i) (wy (pt l) a b)<0
       ·rw[Mr t3];have:¬ (0<=V.dot (wy (pt l) a i) (wy (pt l) a b)):=by omega
        simp[gR,t2,this]
       ·rw[Ms t3];refine aa U (aa Z (aa cw ?_));rw[ac];have N:0<=V.dot (wy (pt l) a i) (wy (pt l) a b):=by omega
        simp only[gR,t2,N,decide_true,zQb,zbc,znd,zmd];by_cases t4:V.dot (wy (pt l) a i) (wy (pt l) a b)<=V.dot (wy (pt l) a b) (wy (pt l) a b)
        ·have:¬ (V.dot (wy (pt l) a i) (wy (pt l) a b)>V.dot (wy (pt l) a b) (wy (pt l) a b)):=by omega
         simp[t4,this]
        ·have:(V.dot (wy (pt l) a i) (wy (pt l) a b)>V.dot (wy (pt l) a b) (wy (pt l) a b)):=by omega
         simp[t4,this]
      ·refine aa (z:=false) (by rw[bI,decide_eq_false (λh=>t2 (eB.1 h))];rfl) ?_
       simp[gR,t2,M]
    ·refine aa ac ?_;cases gR l m a b i<;>rfl
   cases hk:gR l m a b i
   ·right;rw[hk] at step;refine⟨(0,[.bool false]),?_,?_⟩
    ·exact aa (z:=l.map ab) rfl (aa ah (aa ac (aA (by show((i:Int)<((l.map ab).length:Int));rw[f];omega) (aa (step _ rfl) rfl))))
    ·have:wA l m d a b=false:=by
      rw[zdc];intro h;have:=zpa.1 h i (aW.2 ⟨c,hon⟩);rw[hk] at this;exact absurd this (by decide)
     rw[this];rfl
   ·left;rw[hk] at step;refine⟨[I ((i+1:Nat):Int)],?_,rfl,?_⟩
    ·exact aa (z:=l.map ab) rfl (aa ah (aa ac (aA (by show((i:Int)<((l.map ab).length:Int));rw[f];omega) (aa (step _ rfl) (by rw[if_pos rfl,if_pos rfl];exact aa (aq (ay (i:=i) (by omega))) rfl)))))
    ·rw[jX,if_pos hon,z9c,q];simp[hk]
  ·left;refine⟨[I ((i+1:Nat):Int)],?_,rfl,?_⟩
   ·refine aa (z:=l.map ab) rfl (aa ah (aa ac (aA (by show((i:Int)<((l.map ab).length:Int));rw[f];omega) (aa (z:=(0,[])) ?_ (by rw[if_pos rfl];exact aa (aq (ay (i:=i) (by omega))) rfl)))))
    refine aa (z:=l.map ab) rfl (aa (z:=i) (by rw[f];exact am c) (aa (cZ c) (aa hc (aa (z:=true) ?_ rfl))))
    rw[bI,decide_eq_false (show ¬ V.dot m (l.getD i V.zero)=d from hon)];rfl
   ·rw[jX,if_neg hon];exact q
 ·obtain⟨rfl,q⟩:=B;refine⟨(1,[]),?_,?_⟩
  ·exact aa (z:=l.map ab) rfl (aa ah (aa ac (aD (by show ¬ ((l.length:Int)<((l.map ab).length:Int));rw[f];omega) rfl)))
  ·have:wA l m d a b=true:=q;rw[this];rfl
end Sy
end
noncomputable section
namespace Sy
open Go Go.Proofs Geo
def Cz{body:Bd}{s0:List D}{r:Nat×List D}(h:Option.bind (aL body s0) some=some r):aL body s0=some r:=by
 cases hb:aL body s0 with
 | none=>rw[hb] at h;cases h
 | some z=>rw[hb] at h;exact h
def GB{P:Nat->V}{m:V}{d:Int}{i N a:Nat}(h:(bw P i m d).head?=some a)(b:i<=N):(bw P N m d).head?=some a:=by
 induction N with
 | zero=>
      have:i=0:=by omega
      subst this;exact h
 | succ N ih=>
  by_cases e:i=N+1
  ·rw[<-e];exact h
  ·have:=ih (by omega)
   rw[jX];split
   ·rw[List.head?_append,this];rfl
   ·exact this
theorem qQ{body:Bd}{S:Nat->Nat->Prop}{a M:Nat}{G:Nat->Prop}(f:∀ c b,G c->S c b->G b)
  (d:∀ (c b:Nat) (out:List Nat),G c->S c b->b≠a->out.length<=M->body [.sl (ag out),I (c:Int)]=some (.inl [.sl (ag (out++[c])),I (b:Int)]))
  (e:∀ (c:Nat) (out:List Nat),G c->S c a->out.length<=M->body [.sl (ag out),I (c:Int)]=some (.inr (0,[.sl (ag (out++[c]))]))) :
  ∀ {c:Nat} {p:List Nat},Chain S a c p->G c->∀ out:List Nat,(out++p).length<=M->aL body [.sl (ag out),I (c:Int)]=some (0,[.sl (ag (out++p))])
 | c,_,.done s,hc,out,hl=>ck (e c out hc s (by simp at hl;omega))
 | c,_,.step (y:=y) (l:=p) s hy k,hc,out,hl=>by
  have h1:=d c y out hc s hy (by simp at hl;omega)
  rw[show aL body [.sl (ag out),I (c:Int)]=aL body [.sl (ag (out++[c])),I (y:Int)] from cH h1];have:=qQ f d e k (f c y hc s) (out++[c]) (by simpa using hl)
  rw[this];simp
def VA(n:Nat){l:List V}(hl:∀ x∈l,bd MV x)(hlen:l.length<=100)(U:E8 l){m:V}{d:Int}(N:IsF (pt l) l.length m d)(hm:bd 549755813888 m){p:List Nat}(hp:bD (pt l) l.length m d p) :
  cA (n+4) 111 [aT l,ab m,I d]=some (.sl (ag p)):=by
 have F:=N.flat U;obtain⟨Z,S,A,J⟩:=N.poly U;have e:=bD.eq U N hp S;subst e;obtain⟨a,v,Q⟩:=hp;have W:a∈bw (pt l) l.length m d:=List.mem_of_mem_head? (by rw[v];rfl)
 have H:∀ k∈bw (pt l) l.length m d,k<l.length:=λk hk=>(aW.1 hk).1;have E:∀ k∈bw (pt l) l.length m d,V.dot m (pt l k)=d:=λk hk=>(aW.1 hk).2;have L:(bw (pt l) l.length m d).length<=l.length:=by
  unfold bw;exact zBa (zzc _ _) (by rw[zRb];omega)
 have T:p.length<=l.length:=zBa (z4b A λz Y=>((J z).1 Y).1) L;have q:(l.map ab).length=l.length:=zma ..;rw[VP]
 delta HC qB qC qT qS qX qL qV qW qZ iL iR Jn
 have r:=λ(i:Nat) (j:i<l.length)=>Dj (n+2) hm (hl _ (cD j)) (by decide)
 refine aa (z:=(0,[.sl [],I (a:Int)])) ?_ ?_
 ·refine Cz (bC (λi s=>s=[.sl [],jz ((bw (pt l) i m d).head?),I (i:Int)]) l.length 0 (zla _) rfl (λi j s u=>?_) (λs u=>?_))
  ·subst u;cases hh:(bw (pt l) i m d).head? with
   | some a'=>
    right;have:=GB hh (zjc j);rw[v] at this;cases this;refine⟨(0,[.sl [],I (a:Int)]),?_,rfl⟩;refine aa (z:=l.map ab) rfl (aa ah (aa ac (aa (z:=false) (aA (by show((i:Int)<((l.map ab).length:Int));rw[q];omega) ?_) (aa ac ?_))))
    ·refine aa ah ?_;rw[decide_eq_false (by omega)];rfl
    ·rfl
   | none=>
    left;have K:bw (pt l) i m d=[]:=by simpa using hh
    refine⟨[.sl [],jz ((bw (pt l) (i+1) m d).head?),I ((i+1:Nat):Int)],?_,rfl⟩;refine aa (z:=l.map ab) rfl (aa ah (aa ac (aa (z:=true) (aA (by show((i:Int)<((l.map ab).length:Int));rw[q];omega) (aa (ah (a:=-1) (b:=0)) rfl)) (aa ac ?_))))
    rw[if_pos rfl];refine aa (z:=(0,[.sl [],jz ((bw (pt l) (i+1) m d).head?)])) ?_ (aa (aq (ay (i:=i) (by omega))) rfl)
    refine aa (z:=l.map ab) rfl (aa (z:=i) (by rw[q];exact am j) (aa (cZ j) (aa (r i j) ?_)))
    rw[bI,jX,K];by_cases f:V.dot m (pt l i)=d
    ·rw[if_pos f,decide_eq_true (show V.dot m (l.getD i V.zero)=d from f)];rfl
    ·rw[if_neg f,decide_eq_false (show ¬ V.dot m (l.getD i V.zero)=d from f)];rfl
  ·subst u;rw[v];refine⟨(0,[.sl [],I (a:Int)]),?_,rfl⟩;refine aa (z:=l.map ab) rfl (aa ah (aa ac (aa (z:=false) (aD (by show ¬ ((l.length:Int)<((l.map ab).length:Int));rw[q];omega) rfl) (aa ac rfl))))
 ·refine aa (z:=(0,[.sl (ag ([]++p))])) ?_ rfl;refine qQ (M:=l.length) (G:=λc=>c∈bw (pt l) l.length m d) (λc b hc C=>C.mem) (λc b out hc C O R=>?_) (λc out hc C R=>?_) Q W [] (by simpa using T)
  all_goals
   obtain⟨g,X,o⟩:∃ g,(g=a\/g≠a)/\Side m (pt l) (bw (pt l) l.length m d) c g:=by first|exact⟨_,Classical.em _,C⟩
   refine aa (z:=l.map ab) rfl (aa sB (aa ac (aA (by show(((ag out).length:Int)<=((l.map ab).length:Int));rw[q,ai];omega) ?_)))
   rw[if_pos (by simp only[g0,D.els,ai,zIa,zmb];omega)]
   have B:ag out++[I (c:Int)]=ag (out++[c]):=by simp[ag]
   have P:=H g o.mem;refine aa (z:=(0,[.sl (ag (out++[c])),I (g:Int)])) ?_ ?_
   ·refine Cz (bC (λi s=>s=[.sl (ag (out++[c])),jz (if g<i then some g else none),I (i:Int)]) l.length 0 (zla _) (by simp[g0,g1,D.els,B,jz]) (λi j s u=>?_) (λs u=>?_))
    ·subst u;by_cases hbi:g<i
     ·right;rw[if_pos hbi];refine⟨(0,[.sl (ag (out++[c])),I (g:Int)]),?_,rfl⟩;refine aa (z:=l.map ab) rfl (aa ah (aa ac (aa (z:=false) (aA (by show((i:Int)<((l.map ab).length:Int));rw[q];omega) ?_) (aa ac ?_))))
      ·refine aa ah ?_;rw[decide_eq_false (by omega)];rfl
      ·rfl
     ·left;rw[if_neg hbi];refine⟨[.sl (ag (out++[c])),jz (if g<i+1 then some g else none),I ((i+1:Nat):Int)],?_,rfl⟩
      refine aa (z:=l.map ab) rfl (aa ah (aa ac (aa (z:=true) (aA (by show((i:Int)<((l.map ab).length:Int));rw[q];omega) (aa (ah (a:=-1) (b:=0)) rfl)) (aa ac ?_))))
      rw[if_pos rfl];refine aa (z:=(0,[.sl (ag (out++[c])),jz (if g<i+1 then some g else none)])) ?_ (aa (aq (ay (i:=i) (by omega))) rfl)
      have w:=H c hc;by_cases f:i≠c/\V.dot m (pt l i)=d
      ·have t:i∈bw (pt l) l.length m d:=aW.2 ⟨j,f.2⟩;refine aa (z:=true) (by show D.truth (D.bool (!(D.beq (I (i:Int)) (I (c:Int)))))=_;rw[ca,decide_eq_false f.1];rfl) (aa (z:=true) ?_ (aa ac ?_))
       ·rw[if_pos rfl];refine aa (z:=l.map ab) rfl (aa (z:=i) (by rw[q];exact am j) (aa (cZ j) (aa (r i j) ?_)))
        rw[bI,decide_eq_true (show V.dot m (l.getD i V.zero)=d from f.2)];rfl
       ·rw[if_pos rfl];refine aa (z:=l.map ab) rfl (aa (z:=c) (by rw[q];exact am w) (aa (cZ w) (aa (z:=l.map ab) rfl (aa (z:=i) (by rw[q];exact am j) (aa (cZ j) (aa (UE n hl hlen N.nz.1 hm w j (E c hc) f.2) (aa ac ?_)))))))
        by_cases y:i=g
        ·subst y;rw[(wB t f.1).2 o,if_pos rfl,if_pos (by omega)];rfl
        ·have:wA l m d c i=false:=by
          rw[zdc];intro h;exact y (Side.unique F hc ((wB t f.1).1 h) o)
         rw[this,if_neg (show ¬ g<i+1 by omega)];rfl
      ·have y:i≠g:=λe=>f (by subst e;exact⟨o.ne,E _ o.mem⟩)
       rw[if_neg (show ¬ g<i+1 by omega)]
       by_cases hic:i=c
       ·subst hic;refine aa (z:=false) (by show D.truth (D.bool (!(D.beq (I (i:Int)) (I (i:Int)))))=_;rw[ca,decide_eq_true rfl];rfl) (aa (z:=false) rfl (aa ac rfl))
       ·have A:¬ V.dot m (l.getD i V.zero)=d:=λh=>f ⟨hic,h⟩;refine aa (z:=true) (by show D.truth (D.bool (!(D.beq (I (i:Int)) (I (c:Int)))))=_;rw[ca,decide_eq_false hic];rfl) (aa (z:=false) ?_ (aa ac rfl))
        rw[if_pos rfl];refine aa (z:=l.map ab) rfl (aa (z:=i) (by rw[q];exact am j) (aa (cZ j) (aa (r i j) ?_)))
        rw[bI,decide_eq_false A];rfl
    ·subst u;rw[if_pos P];refine⟨(0,[.sl (ag (out++[c])),I (g:Int)]),?_,rfl⟩;exact aa (z:=l.map ab) rfl (aa ah (aa ac (aa (z:=false) (aD (by show ¬ ((l.length:Int)<((l.map ab).length:Int));rw[q];omega) rfl) (aa ac rfl))))
   ·have hu:=Side.unique F hc C o;subst hu;first
     | exact aa (z:=true) (by show D.truth (D.bool (D.beq (I (_:Int)) (I (_:Int))))=_;rw[ca,decide_eq_true rfl];rfl) (aa (z:=true) rfl (aa ac rfl))
     | exact aa (z:=false) (by show D.truth (D.bool (D.beq (I (_:Int)) (I (_:Int))))=_;rw[ca,decide_eq_false O];rfl) (aa (z:=false) (by rw[if_neg (by decide)];refine aa ah ?_;rw[decide_eq_false (by omega)];rfl) (aa ac rfl))
end Sy
end
noncomputable section
namespace Sy
open Go Go.Proofs Geo
def a8:List Nat->Nat
 | []=>0
 | d::l=>d+65536*a8 l
def dl(l:List Nat):Prop:=∀ d∈l,d<65536
def dl.cons{d:Nat}{l:List Nat}(a:d<65536)(h:dl l):dl (d::l):=λx hx=>by
 rcases zza.1 hx with rfl|hx
 ·exact a
 ·exact h x hx
def dl.append{a b:List Nat}(c:dl a)(d:dl b):dl (a++b):=λx hx=>by
 rcases zxa.1 hx with hx|hx
 ·exact c x hx
 ·exact d x hx
theorem dl.getD{l:List Nat}(h:dl l)(i:Nat):l.getD i 0<65536:=by
 simp only[List.getD];cases hi:l[i]? with
 | none=>simp
 | some x=>exact h x (zZa hi)
def aw(m:Nat):List Nat:=if h:m=0 then[] else m%65536::aw (m/65536)
termination_by m
decreasing_by omega
def bL:aw 0=[]:=by unfold aw;simp
def iF{m:Nat}(h:m≠0):aw m=m%65536::aw (m/65536):=by rw[aw,dif_neg h]
def vm{d v:Nat}(a:d<65536)(h:d+65536*v≠0):aw (d+65536*v)=d::aw v:=by
 rw[iF h,show(d+65536*v)%65536=d by omega,show(d+65536*v)/65536=v by omega]
def aj(m:Nat):a8 (aw m)=m:=by
 induction m using Nat.strongRecOn with
 | _ m ih=>
  by_cases h:m=0
  ·subst h;rw[bL];rfl
  ·rw[iF h,a8,ih _ (by omega)];omega
def aQ(m:Nat):dl (aw m):=by
 induction m using Nat.strongRecOn with
 | _ m ih=>
  by_cases h:m=0
  ·subst h;rw[bL];intro d a;cases a
  ·rw[iF h];exact dl.cons (by omega) (ih _ (by omega))
def sZ{m:Nat}:aw m=[]↔m=0:=by
 constructor
 ·intro h;have:=aj m;rw[h] at this;exact this.symm
 ·rintro rfl;exact bL
def pS(i:Nat):∀ m,(aw m).getD i 0=m/65536^i%65536:=by
 induction i with
 | zero=>
  intro m;by_cases h:m=0
  ·subst h;rw[bL];simp
  ·rw[iF h];simp
 | succ i ih=>
  intro m;by_cases h:m=0
  ·subst h;rw[bL];simp
  ·rw[iF h];show(aw (m/65536)).getD i 0=_;rw[ih,zUa,zjb,zLa 65536]
def bk(k:Nat):∀ m,m<65536^k->(aw m).length<=k:=by
 induction k with
 | zero=>
      intro m h;have:m=0:=by simpa using h
      subst this;rw[bL];simp
 | succ k ih=>
  intro m h;by_cases h0:m=0
  ·subst h0;rw[bL];simp
  ·rw[iF h0,zIa];have:=ih (m/65536) (by rw[zjb] at h;exact zHc (by rw[zLa];exact h))
   omega
def lH(a b:List Nat):a8 (a++b)=a8 a+65536^a.length*a8 b:=by
 induction a with
 | nil=>simp[a8]
 | cons d a ih=>
  simp only[zib,a8,ih,zIa,zjb];rw[zTb,<-z2a,zLa 65536 (65536^a.length)];omega
def nF(l:List Nat)(n:Nat):a8 (l++List.replicate n 0)=a8 l:=by
 rw[lH];have:∀ n,a8 (List.replicate n 0)=0:=λn=>by
  induction n with
  | zero=>rfl
  | succ n ih=>rw[List.replicate_succ,a8,ih]
 rw[this];simp
def vt(l:List Nat):Nat->Nat
 | 0=>0
 | k+1=>vt l k+l.getD k 0*65536^k
def KA(d:Nat)(l:List Nat)(k:Nat):vt (d::l) (k+1)=d+65536*vt l k:=by
 induction k with
 | zero=>simp[vt]
 | succ k ih=>
  rw[vt,ih,vt,zTb];have:(d::l).getD (k+1) 0=l.getD k 0:=rfl;rw[this,zjb,<-z2a,<-z2a,zLa 65536 (l.getD k 0),z2a,zLa (65536^k),<-z2a];omega
def mq(l:List Nat):vt l l.length=a8 l:=by
 induction l with
 | nil=>rfl
 | cons d l ih=>rw[zIa,KA,ih];rfl
def ia{l:List Nat}{k:Nat}(h:l.length<=k):vt l k=a8 l:=by
 obtain⟨j,rfl⟩:∃ j,k=l.length+j:=⟨k-l.length,by omega⟩
 clear h
 induction j with
 | zero=>exact mq l
 | succ j ih=>
  rw[<-zzb,vt,ih];have:l.getD (l.length+j) 0=0:=by simp[List.getD]
  rw[this];simp
def uy{l:List Nat}(h:dl l)(k:Nat):vt l k<65536^k:=by
 induction k with
 | zero=>simp[vt]
 | succ k ih=>
  have h1:=h.getD k;have a:l.getD k 0*65536^k<=65535*65536^k:=zDa _ (by omega)
  rw[vt,zjb,zLa (65536^k)];omega
def kr{l:List Nat}(h:dl l):a8 l<65536^l.length:=by rw[<-mq];exact uy h _
def kc:List Nat->List Nat
 | []=>[]
 | d::l=>match kc l with
  | []=>if d=0 then[] else[d]
  | x::t=>d::x::t
def gH{l:List Nat}(h:dl l):kc l=aw (a8 l):=by
 induction l with
 | nil=>rw[a8,bL];rfl
 | cons d l ih=>
  have a:d<65536:=h d zra;have ih:=ih λx hx=>h x (zia _ hx);rw[kc,ih,a8];by_cases hv:a8 l=0
  ·rw[hv,bL];by_cases h0:d=0
   ·subst h0;simp[bL]
   ·rw[vm a (by omega),bL];simp[h0]
  ·rw[vm a (by omega),iF hv]
def BB{l:List Nat}(h:∀ i,i<l.length->l.getD i 0=0):kc l=[]:=by
 induction l with
 | nil=>rfl
 | cons d l ih=>
  have h0:d=0:=h 0 (by simp)
  rw[kc,ih (λi a=>h (i+1) (by simpa using a)),h0];simp
theorem wJ:∀ {l:List Nat} {n:Nat},n<=l.length->(∀ i,n<=i->i<l.length->l.getD i 0=0)->(n=0\/l.getD (n-1) 0≠0)->l.take n=kc l
 | [],n,_,_,_=>by simp[kc]
 | d::l,0,_,a,_=>by rw[BB (λi c=>a i (by omega) c)];rfl
 | d::l,n+1,hn,a,hl=>by
  have hl':(d::l).getD n 0≠0:=by
   rcases hl with h|h
   ·omega
   ·exact h
  have ih:l.take n=kc l:=wJ (l:=l) (n:=n) (by simpa using hn) (λi h1 b=>a (i+1) (by omega) (by simpa using b)) (by
   cases n with
   | zero=>exact .inl rfl
   | succ k=>exact .inr hl')
  rw[zWb,ih,kc];cases ht:kc l with
  | nil=>
   rw[ht] at ih;have:n=0:=by
    cases n with
    | zero=>rfl
    | succ k=>cases l with
     | nil=>simp at hn
     | cons e l=>simp at ih
   subst this;have:d≠0:=hl';simp[this]
  | cons x t=>rfl
end Sy
end
noncomputable section
namespace Sy
open Go Go.Proofs Geo
def cS{l:List Nat}{i:Nat}(h:i<l.length):(ag l)[i]?=some (I (l.getD i 0:Nat)):=fX h
def vr(a:List Nat)(d:Nat):ag a++[I (d:Int)]=ag (a++[d]):=by simp[ag]
def yB(n:Nat){l:List Nat}(hl:l.length<=1000000):cA (n+1) 140 [.sl (ag l)]=some (.sl (ag (kc l))):=by
 rw[Wb]
 delta HX qB qC qT qS qX qZ iL iR Jn
 refine aa (z:=ag l) rfl ?_;have fin:∀ j:Nat,j<=l.length->(∀ i,j<=i->i<l.length->l.getD i 0=0)->(j=0\/l.getD (j-1) 0≠0)->(Option.bind (D.asSl (.sl (ag l))) λf=>Option.bind (D.natOf (I (j:Int))) λi14=>Option.bind (D.cut f 0 i14) λg=>some (D.sl g))=some (.sl (ag (kc l))):=by
  intro j m a o;refine aa (z:=ag l) rfl (aa (z:=j) (by simp[D.natOf]) (aa (z:=ag (l.take j)) ?_ (by rw[wJ m a o])))
  simp only[D.cut];rw[if_pos ⟨zla _,by rw[ai];exact m⟩]
  simp[ag,List.map_take]
 refine bq (λi s=>s=[I ((l.length-i:Nat):Int)]/\∀ k,l.length-i<=k->k<l.length->l.getD k 0=0) l.length 0 (zla _) ⟨by rw[ai];rfl,λk h1 h=>by omega⟩ (λi p s c=>?_) (λs c=>?_)
 ·obtain⟨rfl,a⟩:=c;have d:inR (((l.length-i:Nat):Int)-1):=by simp only[inR];omega
  have b:((l.length-i:Nat):Int)-1=((l.length-i-1:Nat):Int):=by omega
  have hx:(ag l)[l.length-i-1]?=some (I (l.getD (l.length-i-1) 0:Nat)):=cS (by omega)
  by_cases h0:l.getD (l.length-i-1) 0=0
  ·left;refine⟨[I ((l.length-(i+1):Nat):Int)],?_,rfl,λk h1 h=>?_⟩
   ·refine aa cw (aa ac (aa (z:=true) (aA (by show((l.length-i:Nat):Int)>0;omega) ?_) (aa ac ?_)))
    ·refine aa (bP d) (aa (z:=ag l) rfl (aa (z:=l.length-i-1) (by rw[b,ai];exact am (by omega)) (aa hx ?_)))
     rw[h0];rfl
    ·rw[if_pos rfl];refine aa (bP d) ?_;rw[b,Nat.sub_sub]
   ·by_cases e:k=l.length-i-1
    ·rw[e];exact h0
    ·exact a k (by omega) h
  ·right;refine⟨(0,[I ((l.length-i:Nat):Int)]),?_,fin _ (by omega) a (.inr h0)⟩
   refine aa cw (aa ac (aa (z:=false) (aA (by show((l.length-i:Nat):Int)>0;omega) ?_) (aa ac rfl)))
   refine aa (bP d) (aa (z:=ag l) rfl (aa (z:=l.length-i-1) (by rw[b,ai];exact am (by omega)) (aa hx ?_)))
   rw[bI,decide_eq_false (by omega)];rfl
 ·obtain⟨rfl,a⟩:=c;refine⟨(0,[I ((l.length-l.length:Nat):Int)]),?_,fin _ (by omega) a (.inl (by omega))⟩
  refine aa cw (aa ac (aa (z:=false) (aD (by show ¬ ((l.length-l.length:Nat):Int)>0;omega) rfl) (aa ac rfl)))
def Dm(n:Nat)(l:List Nat)(k:Nat):cA (n+1) 141 [.sl (ag l),I (k:Int)]=some (I (l.getD k 0:Nat)):=by
 rw[Wc]
 delta HY qX qL Jn
 refine aa (z:=ag l) rfl (aa ah (aa ac ?_));by_cases h:k<l.length
 ·refine aA (by show(k:Int)<((ag l).length:Int);rw[ai];omega) ?_
  exact aa (z:=ag l) rfl (aa (z:=k) (by rw[ai];exact am h) (aa (cS h) rfl))
 ·refine aD (by show ¬ (k:Int)<((ag l).length:Int);rw[ai];omega) ?_
  have:l.getD k 0=0:=by simp[List.getD,h]
  rw[this];rfl
def er(l:List Nat)(i:Nat):Nat:=l.getD (2*i) 0+65536*l.getD (2*i+1) 0
abbrev U(n:Nat):D:=.int .u32 (n:Int)
def dD(l:List Nat):D:=.st ((List.range 16).map λi=>U (er l i))
def ae(x:Int):D:=.st [.bool false,.bool (decide (x<0)),dD (aw x.natAbs)]
def xp{l:List Nat}(h:dl l)(i:Nat):er l i<4294967296:=by
 have:=h.getD (2*i);have:=h.getD (2*i+1);unfold er;omega
def tC{l:List Nat}{i:Nat}(h:i<16):D.fld (dD l) i=some (U (er l i)):=by simp[dD,D.fld,h]
def cQ{x:Int}{i:Nat}(h:i<16):D.get (ae x) [2,i]=some (U (er (aw x.natAbs) i)):=
 aa (z:=dD (aw x.natAbs)) rfl (aa (tC h) rfl)
def pz{n:Int}(h:0<=n/\n<4294967296):IntKind.wrap .u32 n=n:=by
 obtain⟨h1,a⟩:=h;simp only[IntKind.wrap,IntKind.signed,IntKind.bits];first
  | omega
  | (simp;omega)
def LG(a:Nat):D.bin .rem (U a) (.int .u32 65536)=some (U (a%65536)):=by
 simp only[D.bin,if_true,show ¬ (65536:Int)=0 by decide,if_false]
 rw[show(65536:Int)=((65536:Nat):Int) from rfl,<-zYc]
def LF{a:Nat}(h:a<4294967296):D.bin .quo (U a) (.int .u32 65536)=some (U (a/65536)):=by
 simp only[D.bin,if_true,show ¬ (65536:Int)=0 by decide,if_false]
 rw[show(65536:Int)=((65536:Nat):Int) from rfl,<-zzd,pz (by omega)]
def Fh{a b:Nat}(h:a+b<4294967296):D.bin .add (U a) (U b)=some (U (a+b)):=by
 simp only[D.bin,if_true];rw[pz (by omega)];simp
def LE{a b:Nat}(h:a*b<4294967296):D.bin .mul (U a) (U b)=some (U (a*b)):=by
 simp only[D.bin,if_true];rw[show(a:Int)*(b:Int)=((a*b:Nat):Int) by simp,pz (by omega)]
def rU{a:Nat}(h:a<4294967296):D.conv .i64 (U a)=some (I (a:Int)):=by
 simp only[D.conv];rw[ib (by simp only[inR];omega)]
def B9{a:Nat}(h:a<4294967296):D.conv .u32 (I (a:Int))=some (U a):=by
 simp only[D.conv];rw[pz (by omega)]
def Bk(l:List Nat)(k:Nat):((List.range k).map λi=>l.getD i 0)=if k<=l.length then l.take k else l++List.replicate (k-l.length) 0:=by
 apply zcc;intro i;by_cases h:i<k
 ·rw[zbb,z8c h];split
  ·simp[h,List.getD,show i<l.length by omega]
  ·by_cases h2:i<l.length
   ·simp[zIc,h2,List.getD]
   ·simp[zIc,h2,List.getD,List.getElem?_replicate,show i-l.length<k-l.length by omega]
 ·rw[zbb,show(List.range k)[i]?=none by simp;omega]
  split
  ·simp;omega
  ·simp;omega
def Hd{l:List Nat}(a:dl l){k:Nat}(hk:l.length<=k):kc ((List.range k).map λi=>l.getD i 0)=aw (a8 l):=by
 have e:((List.range k).map λi=>l.getD i 0)=l++List.replicate (k-l.length) 0:=by
  rw[Bk];split
  ·have:k=l.length:=by omega
   subst this;simp
  ·rfl
 rw[e,gH (a.append (λx hx=>by rw[zhd hx];decide)),nF]
def sK(n:Nat){x:Int}(hx:x.natAbs<65536^32):cA (n+2) 77 [ae x]=some (.sl (ag (aw x.natAbs))):=by
 rw[u77]
 delta PI qG qB qC qV qW qZ iL iR Jn
 have c:=aQ x.natAbs;have hlen:=bk 32 _ hx;refine bq (λi s=>s=[.sl (ag ((List.range (2*i)).map λi=>(aw x.natAbs).getD i 0)),I (i:Int)]) 16 0 (zla _) rfl (λi a s b=>?_) (λs b=>?_)
 ·subst b;left;refine⟨_,?_,rfl⟩;refine aa ah (aa ac (aA (by show(i:Int)<16;omega) ?_))
  have d:=xp c i;have h1:=c.getD (2*i);refine aa (z:=i) (am a) (aa (cQ a) (aa (LG _) (aa (rU (by omega)) (aa (z:=i) (am a) (aa (cQ a) (aa (LF d) (aa (rU (by omega)) ?_)))))))
  rw[if_pos (by simp only[g0,D.els,ai,zma,zRb,zIa,zmb];omega)]
  refine aa (aq (ay (i:=i) (by omega))) ?_
  have e:er (aw x.natAbs) i%65536=(aw x.natAbs).getD (2*i) 0:=by unfold er;omega
  have f:er (aw x.natAbs) i/65536=(aw x.natAbs).getD (2*i+1) 0:=by unfold er;omega
  rw[e,f,show 2*(i+1)=2*i+1+1 by omega,z2b,z2b]
  simp[g0,D.els,ag]
 ·subst b;refine⟨(0,[.sl (ag ((List.range (2*16)).map λi=>(aw x.natAbs).getD i 0))]),?_,?_⟩
  ·exact aa ah (aa ac (aD (by decide) rfl))
  ·refine aa (yB n (by simp)) ?_
   rw[Hd c hlen,aj]
end Sy
end
noncomputable section
namespace Sy
open Go Go.Proofs Geo
def j9(l:List Nat)(k j:Nat):(l.take k).getD j 0=if j<k then l.getD j 0 else 0:=by
 simp only[List.getD,List.getElem?_take];split<;>simp
def tD{l l':List Nat}{q v:Nat}{a b:D}(hq:q<16)(h:∀ i,er l' i=if i=q then v else er l i):D.set (.st [a,b,dD l]) [2,q] (U v)=some (.st [a,b,dD l']):=by
 have h1:D.set (dD l) [q] (U v)=some (dD l'):=by
  have e:((List.range 16).map λi=>U (er l i))[q]?=some (U (er l q)):=by simp[hq]
  refine aa e (aa (z:=U v) rfl ?_);simp only[dD,zca,D.st.injEq];apply zcc;intro i;rw[List.getElem?_set];by_cases c:q=i
  ·subst c;simp[hq,h]
  ·rw[if_neg c,zbb,zbb];by_cases h16:i<16
   ·rw[z8c h16];simp[h,show i≠q from λe=>c e.symm]
   ·rw[show(List.range 16)[i]?=none by simp;omega];rfl
 exact aa (z:=dD l) rfl (aa h1 rfl)
def Lz(k:Nat):D.bin .rem (I (k:Int)) (.int .i64 2)=some (I (k%2:Nat)):=by
 rw[kP (by decide),show(2:Int)=((2:Nat):Int) from rfl,<-zYc]
def jx{a b:Nat}(d:b≠0)(c:(a:Int)<=9223372036854775807):D.bin .quo (I (a:Int)) (I (b:Int))=some (I (a/b:Nat)):=by
 have:((a/b:Nat):Int)<=9223372036854775807:=by have:=zgc a b;omega
 have h0:0<=((a/b:Nat):Int):=Int.natCast_nonneg _;rw[ni (by omega) (by rw[<-zzd];simp only[inR];omega),<-zzd]
def lm{a b:Nat}(c:b≠0):D.bin .rem (I (a:Int)) (I (b:Int))=some (I (a%b:Nat)):=by
 rw[kP (by omega),<-zYc]
def y7{a b:D}{l:List Nat}{i:Nat}(h:i<16):D.get (.st [a,b,dD l]) [2,i]=some (U (er l i)):=
 aa (z:=dD l) rfl (aa (tC h) rfl)
def sgn(neg:Bool)(m:Nat):Int:=if neg then -(m:Int) else m
def Hp(n:Nat){l:List Nat}{neg:Bool}(p:dl l)(hl:l.length<=1000000)(t:a8 l<65536^32):cA (n+2) 81 [.bool neg,.sl (ag l)]=some (ae (sgn neg (a8 l))):=by
 rw[XJ]
 delta ND qG qB qC qT qS qX qL qZ iL iR Jn
 have hlen:=bk 32 _ t;have e:=aQ (a8 l);have j:ae (sgn neg (a8 l))=.st [.bool false,.bool (neg&&decide (0<(aw (a8 l)).length)),dD (aw (a8 l))]:=by
  have m:(sgn neg (a8 l)).natAbs=a8 l:=by unfold sgn;split<;>omega
  have o:(0<(aw (a8 l)).length)↔a8 l≠0:=by
   rw[List.length_pos_iff];exact not_congr sZ
  unfold ae;rw[m];have:decide (sgn neg (a8 l)<0)=(neg&&decide (0<(aw (a8 l)).length)):=by
   simp only[o,sgn];cases neg
   ·simp<;>omega
   ·by_cases h:a8 l=0
    ·simp[h]
    ·simp[h]<;>omega
  rw[this]
 rw[j];refine aa (yB n hl) ?_;rw[gH p];generalize aw (a8 l)=d at hlen e;refine aa (z:=ag d) rfl (aa cw (aa ac (aD (by show ¬ ((ag d).length:Int)>32;rw[ai];omega) ?_)))
 refine aa ac (aa (z:=neg&&decide (0<d.length)) ?_ ?_)
 ·cases neg
  ·rfl
  ·rw[if_pos rfl];refine aa (z:=ag d) rfl (aa cw ?_);rw[ac,ai];simp
 refine bq (λk s=>s=[I (k:Int),.st [.bool false,.bool (neg&&decide (0<d.length)),dD (d.take k)]]) d.length 0 (zla _) rfl (λk hk s g=>?_) (λs g=>?_)
 ·subst g;left;refine⟨_,?_,rfl⟩;have r:=e.getD k;refine aa (z:=ag d) rfl (aa ah (aa ac (aA (by show(k:Int)<((ag d).length:Int);rw[ai];omega) ?_)))
  refine aa (z:=(0,[.st [.bool false,.bool (neg&&decide (0<d.length)),dD (d.take (k+1))]])) ?_ (aa (aq (ay (i:=k) (by omega))) rfl)
  refine aa (Lz k) ?_;have c:k/2<16:=by omega
  have hq:D.bin .quo (I (k:Int)) (.int .i64 2)=some (I (k/2:Nat)):=jx (b:=2) (by decide) (by omega)
  have a:er (d.take k) (k/2)=if k%2=0 then 0 else d.getD (2*(k/2)) 0:=by
   simp only[er,j9];by_cases hk2:k%2=0
   ·rw[if_pos hk2,if_neg (show ¬ 2*(k/2)<k by omega),if_neg (show ¬ 2*(k/2)+1<k by omega)]
   ·rw[if_neg hk2,if_pos (show 2*(k/2)<k by omega),if_neg (show ¬ 2*(k/2)+1<k by omega)];omega
  have q:=e.getD (2*(k/2));by_cases hk2:k%2=0
  ·rw[if_pos hk2] at a;rw[hk2];refine aa (z:=true) rfl ?_;rw[if_pos rfl];refine aa hq (aa hq (aa (am c) (aa (y7 c) (aa (z:=ag d) rfl (aa (z:=k) (by rw[ai];exact am hk) (aa (cS hk) (aa (B9 (by omega)) (aa (Fh (by rw[a];omega)) (aa (am c) (aa (tD c (l':=d.take (k+1)) ?_) rfl))))))))))
   intro i;by_cases f:i=k/2
   ·rw[if_pos f,a,f];simp only[er,j9];rw[if_pos (show 2*(k/2)<k+1 by omega),if_neg (show ¬ 2*(k/2)+1<k+1 by omega),show 2*(k/2)=k by omega];omega
   ·rw[if_neg f];simp only[er,j9];have a1:(2*i<k+1)↔(2*i<k):=by omega
    have a2:(2*i+1<k+1)↔(2*i+1<k):=by omega
    simp only[a1,a2]
  ·rw[if_neg hk2] at a;refine aa (z:=false) (by rw[show k%2=1 by omega];rfl) ?_
   rw[if_neg (by decide)]
   refine aa hq (aa hq (aa (am c) (aa (y7 c) (aa (z:=ag d) rfl (aa (z:=k) (by rw[ai];exact am hk) (aa (cS hk) (aa (B9 (by omega)) (aa (LE (b:=65536) (by omega)) (aa (Fh (by rw[a];omega)) (aa (am c) (aa (tD c (l':=d.take (k+1)) ?_) rfl)))))))))))
   intro i;by_cases f:i=k/2
   ·rw[if_pos f,a,f];simp only[er,j9];rw[if_pos (show 2*(k/2)<k+1 by omega),if_pos (show 2*(k/2)+1<k+1 by omega),show 2*(k/2)+1=k by omega];omega
   ·rw[if_neg f];simp only[er,j9];have a1:(2*i<k+1)↔(2*i<k):=by omega
    have a2:(2*i+1<k+1)↔(2*i+1<k):=by omega
    simp only[a1,a2]
 ·subst g;refine⟨(0,[.st [.bool false,.bool (neg&&decide (0<d.length)),dD (d.take d.length)]]),?_,?_⟩
  ·exact aa (z:=ag d) rfl (aa ah (aa ac (aD (by show ¬ (d.length:Int)<((ag d).length:Int);rw[ai];omega) rfl)))
  ·rw[z3a];rfl
def Vk(n:Nat){a b:List Nat}(t:dl a)(u:dl b)(E:a.length<=900000)(F:b.length<=900000):cA (n+2) 82 [.sl (ag a),.sl (ag b)]=some (.sl (ag (aw (a8 a+a8 b)))):=by
 rw[u82]
 delta PM qB qC qS qV qW qZ iL iR Jn
 obtain⟨M,A⟩:∃ M,M=max a.length b.length:=⟨_,rfl⟩;have f:∀ k:Nat,D.max2 (D.int .i64 (ag a).length) (D.int .i64 (ag b).length)=some (I (M:Int)):=λ_=>by
  rw[CC,ai,ai,A];congr 2;omega
 refine bq (λk s=>∃ (out:List Nat) (c:Nat),s=[.sl (ag out),I (c:Int),I (k:Int)]/\out.length=k/\dl out/\c<=1/\a8 out+c*65536^k=vt a k+vt b k) (M+1) 0 (zla _) ⟨[],0,rfl,rfl,(by intro d C;cases C),by omega,by simp[a8,vt]⟩ (λk hk s j=>?_) (λs j=>?_)
 ·obtain⟨out,c,rfl,o,g,hc,p⟩:=j;left;have h1:=t.getD k;have G:=u.getD k;refine⟨[.sl (ag (out++[(a.getD k 0+b.getD k 0+c)%65536])),I ((a.getD k 0+b.getD k 0+c)/65536:Nat),I ((k+1:Nat):Int)],?_,out++[(a.getD k 0+b.getD k 0+c)%65536],(a.getD k 0+b.getD k 0+c)/65536,rfl,by simp[o],g.append (λx hx=>by simp at hx;omega),by omega,?_⟩
  ·refine aa (z:=ag a) rfl (aa (z:=ag b) rfl (aa (f 0) (aa (aq (ay (i:=M) (by omega))) (aa ah (aa ac (aA (by show(k:Int)<(M:Int)+1;omega) ?_))))))
   refine aa (Dm n a k) (aa (Dm n b k) (aa (aq (by simp only[inR];omega)) (aa (aq (by simp only[inR];omega)) ?_)))
   rw[show(((a.getD k 0:Nat):Int)+((b.getD k 0:Nat):Int)+(c:Int))=((a.getD k 0+b.getD k 0+c:Nat):Int) by omega]
   refine aa (lm (b:=65536) (by decide)) ?_
   rw[if_pos (by simp only[g0,D.els,ai,zIa,zmb];omega)]
   refine aa (jx (b:=65536) (by decide) (by omega)) (aa (aq (ay (i:=k) (by omega))) ?_)
   simp only[g0,D.els,vr];rfl
  ·rw[lH,o,vt,vt,zjb];have e:a.getD k 0+b.getD k 0+c=(a.getD k 0+b.getD k 0+c)%65536+65536*((a.getD k 0+b.getD k 0+c)/65536):=by omega
   have y:a8 [(a.getD k 0+b.getD k 0+c)%65536]=(a.getD k 0+b.getD k 0+c)%65536:=by simp[a8]
   rw[y];generalize 65536^k=B at *;generalize (a.getD k 0+b.getD k 0+c)%65536=r at *;generalize (a.getD k 0+b.getD k 0+c)/65536=q at *;have:(a.getD k 0+b.getD k 0+c)*B=(r+65536*q)*B:=by rw[e]
   rw[z8a,z8a,z8a] at this;rw[show q*(B*65536)=65536*q*B by rw[zLa B,<-z2a,zLa q],zLa B r]
   omega
 ·obtain⟨out,c,rfl,o,g,hc,p⟩:=j;refine⟨(0,[.sl (ag out)]),?_,?_⟩
  ·refine aa (z:=ag a) rfl (aa (z:=ag b) rfl (aa (f 0) (aa (aq (ay (i:=M) (by omega))) (aa ah (aa ac (aD (by show ¬ (((M+1:Nat):Int)<(M:Int)+1);omega) rfl))))))
  ·refine aa (yB n (l:=out) (by omega)) ?_
   have v:vt a (M+1)=a8 a:=ia (by omega)
   have w:vt b (M+1)=a8 b:=ia (by omega)
   have la:=uy t M;have lb:=uy u M;rw[ia (show a.length<=M by omega)] at la
   rw[ia (show b.length<=M by omega)] at lb
   have m:c=0:=by
    rcases zwb c with h|h
    ·exact h
    ·have:1*65536^(M+1)<=c*65536^(M+1):=zDa _ h;rw[zjb] at this;rw[v,w,zjb] at p;omega
   subst m;rw[gH g,<-v,<-w,<-p];simp
def uK(n:Nat){x:Int}(hx:inR x):cA (n+3) 34 [I x]=some (ae x):=by
 rw[ZY]
 delta Pp qB qC Jn
 obtain⟨h1,c⟩:=hx;have d1:∀ m:Nat,(m:Int)<=9223372036854775807->dl [m%65536,m/65536%65536,m/4294967296%65536,m/281474976710656]:=λm hm d g=>by
  simp only[zza,z7b,or_false] at g;omega
 have d2:∀ m:Nat,a8 [m%65536,m/65536%65536,m/4294967296%65536,m/281474976710656]=m:=λm=>by
  simp only[a8];omega
 have d3:∀ m:Nat,D.sl [I (m%65536:Nat),I (m/65536%65536:Nat),I (m/4294967296%65536:Nat),I (m/281474976710656:Nat)]=.sl (ag [m%65536,m/65536%65536,m/4294967296%65536,m/281474976710656]):=λm=>rfl;have a:∀ m:Nat,(m:Int)<=9223372036854775808->m<65536^32:=λm hm=>by
  have:(65536:Nat)^4<=65536^32:=zta (by decide) (by decide)
  have e:(65536:Nat)^4=18446744073709551616:=by decide
  omega
 refine aa gS (aa ac ?_);by_cases h:x ≥ 0
 ·refine aA h ?_;obtain⟨m,rfl⟩:=zsc h;refine aa (lm (b:=65536) (by decide)) (aa (jx (b:=65536) (by decide) c) (aa (lm (b:=65536) (by decide)) (aa (jx (b:=4294967296) (by decide) c) (aa (lm (b:=65536) (by decide)) (aa (jx (b:=281474976710656) (by decide) c) ?_)))))
  refine aa (z:=ae m) ?_ rfl;rw[d3,Hp n (d1 m c) (by simp) (by rw[d2];exact a m (by omega)),d2];rfl
 ·refine aD h ?_;obtain⟨m,hm⟩:=zsc (show 0<=-(x+1) by omega)
  have f:(m:Int)<=9223372036854775807:=by omega
  refine aa (aq (by simp only[inR];omega)) (aa (mo (by simp only[inR];omega)) ?_)
  rw[hm];refine aa (lm (b:=65536) (by decide)) (aa (jx (b:=65536) (by decide) f) (aa (lm (b:=65536) (by decide)) (aa (jx (b:=4294967296) (by decide) f) (aa (lm (b:=65536) (by decide)) (aa (jx (b:=281474976710656) (by decide) f) ?_)))))
  rw[d3];refine aa (Vk n (b:=[1]) (d1 m f) (λd g=>by simp at g;omega) (by simp) (by simp)) (aa (z:=ae x) ?_ rfl)
  rw[d2];have i:a8 [1]=1:=rfl;rw[i,Hp n (aQ _) ?_ ?_,aj]
  ·congr 2;simp only[sgn,if_true];omega
  ·have:=bk 32 _ (a (m+1) (by omega));omega
  ·rw[aj];exact a (m+1) (by omega)
end Sy
end
noncomputable section
namespace Sy
open Go Go.Proofs Geo
def In(x:Int):Prop:=x.natAbs<65536^32
def In.of{x:Int}(h:inR x):In x:=by
 have:(65536:Nat)^4<=65536^32:=zta (by decide) (by decide)
 have e:(65536:Nat)^4=18446744073709551616:=by decide
 obtain⟨h1,a⟩:=h;unfold In;omega
def ik(m i:Nat):er (aw m) i=m/4294967296^i%4294967296:=by
 have a:65536^(2*i)=4294967296^i:=by rw[Nat.pow_mul]
 have b:65536^(2*i+1)=4294967296^i*65536:=by rw[zjb,a]
 unfold er;rw[pS,pS,a,b,<-zUa];generalize m/4294967296^i=q;omega
def Lc(m:Nat):er (aw m) 0=m%4294967296:=by rw[ik,znc,zOc]
def Gk(m:Nat):er (aw m) 1=m/4294967296%4294967296:=by rw[ik,Nat.pow_one]
def OG{m i:Nat}(h:m<18446744073709551616)(a:2<=i):er (aw m) i=0:=by
 rw[ik];have:(4294967296:Nat)^2<=4294967296^i:=zta (by decide) a
 rw[z9a (by omega)]
def KH{a b:Nat}:D.beq (U a) (U b)=decide (a=b):=by
 simp only[D.beq,decide_true,zQb];by_cases h:a=b
 ·simp[h]
 ·simp[h];omega
def tF{m:Nat}(hm:m<65536^32)(h:∀ i,i<16->er (aw m) i=0):m=0:=by
 have b:∀ i,i<32->(aw m).getD i 0=0:=λi c=>by
  have:=h (i/2) (by omega)
  unfold er at this;rcases Nat.mod_two_eq_zero_or_one i with e|e
  ·rw[show 2*(i/2)=i by omega] at this;omega
  ·rw[show 2*(i/2)+1=i by omega] at this;omega
 have a:∀ k,k<=32->vt (aw m) k=0:=λk=>by
  induction k with
  | zero=>intro _;rfl
  | succ k ih=>intro hk;rw[vt,ih (by omega),b k (by omega)];simp
 have:=a 32 (by omega)
 rw[ia (bk 32 _ hm),aj] at this;exact this
def zB(m i:Nat):Bool:=(List.range i).all λk=>decide (er (aw m) k=0)
def KC(m i:Nat):zB m (i+1)=(zB m i&&decide (er (aw m) i=0)):=by
 unfold zB;rw[z2b,z9c];simp
def Uz(n:Nat){x:Int}(hx:In x):cA (n+1) 139 [ae x]=some (.bool true):=by
 rw[O1]
 delta EU qG qB qC qT qN qZ iL iR Jn
 have fin:∀ z:Bool,(z=true->x=0)->(Option.bind (D.get (ae x) [0]) λj=>Option.bind (D.truth j) λb=>
   if b then(Option.bind (D.truth (.bool z)) λc=>Option.bind (if c then(Option.bind (D.get (ae x) [1]) λk=>Option.bind (D.un .not k) λl=>D.truth l) else(some false)) λd=>
   some (D.bool d)) else(Option.bind (D.un .not (.bool z)) λm=>Option.bind (D.truth m) λe=>
   Option.bind (if e then(some true) else(Option.bind (D.get (ae x) [1]) λo=>Option.bind (D.un .not o) λp=>D.truth p)) λf=>some (D.bool f)))=some (.bool true):=by
  intro z q;refine aa (z:=.bool false) rfl (aa (z:=false) rfl ?_);rw[if_neg (by decide)]
  refine aa (z:=.bool (!z)) rfl (aa (z:=!z) rfl ?_);cases z with
  | false=>rfl
  | true=>
   have:=q rfl;subst this;rfl
 refine bq (λi s=>s=[.bool (zB x.natAbs i),I (i:Int)]) 16 0 (zla _) rfl (λi a s g=>?_) (λs g=>?_)
 ·subst g;left;refine⟨_,?_,rfl⟩;refine aa ah (aa ac (aA (by show(i:Int)<16;omega) (aa ac (aa (z:=zB x.natAbs (i+1)) ?_ (aa (aq (ay (i:=i) (by omega))) rfl)))))
  rw[KC];cases zB x.natAbs i with
  | false=>rfl
  | true=>
   rw[if_pos rfl];refine aa (am a) (aa (cQ a) ?_);show D.truth (D.bool (D.beq (U (er (aw x.natAbs) i)) (U 0)))=_;rw[KH,ac];rfl
 ·subst g;refine⟨(0,[.bool (zB x.natAbs 16)]),?_,?_⟩
  ·exact aa ah (aa ac (aD (by decide) rfl))
  ·refine fin _ λh=>?_;have:=tF hx (λi a=>of_decide_eq_true (zpa.1 h i (zNa.2 a)));omega
def pC(n:Nat){x:Int}(hx:In x):cA (n+2) 76 [ae x]=some (.bool true):=by
 rw[XI]
 delta NC qG qT
 exact aa (Uz n hx) (aa ac rfl)
def nB(n:Nat){x:Int}(hx:x.natAbs<4611686018427387904):cA (n+3) 124 [ae x]=some (.tup [I x,.bool true]):=by
 have b:In x:=In.of (by simp only[inR];omega)
 rw[MH]
 delta Db qG qB qC qT qN qZ iL iR Jn
 have d:=Gk x.natAbs;refine aa (pC n b) (aa aM (aa ac (aa (z:=false) ?_ (aa ac ?_))))
 ·rw[if_neg (by decide)]
  refine aa (cQ (i:=1) (by decide)) ?_
  rw[d];have:D.bin .geq (U (x.natAbs/4294967296%4294967296)) (.int .u32 1073741824)=some (.bool false):=by
   simp only[D.bin,if_true];rw[decide_eq_false (by omega)]
  exact aa this rfl
 ·rw[if_neg (by decide)]
  refine bq (λi s=>s=[I (i:Int)]/\2<=i) 16 2 (by decide) ⟨rfl,by decide⟩ (λi c s a=>?_) (λs a=>?_)
  ·obtain⟨rfl,f⟩:=a;left;refine⟨_,?_,rfl,by omega⟩
   refine aa ah (aa ac (aA (by show(i:Int)<16;omega) ?_))
   refine aa (am c) (aa (cQ c) ?_);rw[OG (by omega) f]
   refine aa (z:=false) rfl ?_;rw[if_neg (by decide)]
   exact aa (aq (ay (i:=i) (by omega))) rfl
  ·obtain⟨rfl,_⟩:=a;refine⟨(1,[]),aa ah (aa ac (aD (by decide) rfl)),?_⟩
   rw[if_neg (by decide)]
   have e:=Lc x.natAbs;refine aa (cQ (i:=1) (by decide)) (aa (rU (xp (aQ _) 1)) ?_)
   rw[d];refine aa (br (by simp only[inR];omega)) (aa (cQ (i:=0) (by decide)) (aa (rU (xp (aQ _) 0)) ?_))
   rw[e];refine aa (aq (by simp only[inR];omega)) (aa (z:=.bool (decide (x<0))) rfl (aa ac ?_))
   by_cases hx0:x<0
   ·refine aA hx0 ?_;refine aa (mo (by simp only[inR];omega)) ?_
    congr 4;omega
   ·refine aD hx0 ?_;congr 4;omega
def UA(n:Nat){x:Int}(hx:In x):cA (n+3) 142 [ae x]=some (ae x.natAbs):=by
 rw[We]
 delta HZ qN
 have hl:=bk 32 _ hx;refine aa (pC n hx) (aa aM (aa ac ?_));refine aa (sK n hx) (aa (z:=ae x.natAbs) ?_ rfl);rw[Hp n (aQ _) (by omega) (by rw[aj];exact hx),aj];rfl
def PZ(n:Nat){a b:List Nat}(p:dl a)(q:dl b)(r:a.length<=900000)(t:b.length<=900000):cA (n+2) 78 [.sl (ag a),.sl (ag b)]=some (.bool (decide (a8 a<a8 b))):=by
 rw[u78]
 delta PJ qB qC qT qS qZ iL iR Jn
 obtain⟨M,o⟩:∃ M,M=max a.length b.length:=⟨_,rfl⟩;have c:D.max2 (D.int .i64 (ag a).length) (D.int .i64 (ag b).length)=some (I (M:Int)):=by
  rw[CC,ai,ai,o];congr 2;omega
 have f:vt a M=a8 a:=ia (by omega)
 have g:vt b M=a8 b:=ia (by omega)
 refine aa (z:=ag a) rfl (aa (z:=ag b) rfl (aa c (aa (bP (by simp only[inR];omega)) ?_)))
 refine bq (λi s=>s=[I ((M:Int)-1-i)]/\(a8 a<a8 b↔vt a (M-i)<vt b (M-i))) M 0 (zla _) ⟨by simp,by simp[f,g]⟩ (λi w s e=>?_) (λs e=>?_)
 ·obtain⟨rfl,d⟩:=e;obtain⟨k,hk⟩:∃ k,M-i=k+1:=⟨M-i-1,by omega⟩
  rw[hk,vt,vt] at d;have m:(M:Int)-1-i=(k:Int):=by omega
  rw[m];have la:=uy p k;have lb:=uy q k;have j:=Dm n a k;have l:=Dm n b k;by_cases hab:a.getD k 0=b.getD k 0
  ·left;refine⟨[I ((M:Int)-1-(i+1:Nat))],?_,rfl,?_⟩
   ·refine aa gS (aa ac (aA (by show(k:Int) ≥ 0;omega) (aa j (aa l (aa (z:=false) ?_ ?_)))))
    ·rw[hab,ca,decide_eq_true rfl];rfl
    ·rw[if_neg (by decide)]
     refine aa (bP (by simp only[inR];omega)) ?_
     congr 4;omega
   ·rw[d,hab,show M-(i+1)=k by omega];omega
  ·right;refine⟨(0,[.bool (decide (a.getD k 0<b.getD k 0))]),?_,?_⟩
   ·refine aa gS (aa ac (aA (by show(k:Int) ≥ 0;omega) (aa j (aa l (aa (z:=true) ?_ ?_)))))
    ·rw[ca,decide_eq_false hab];rfl
    ·rw[if_pos rfl];refine aa j (aa l (aa ah ?_));simp
   ·rw[if_pos rfl];show some (D.bool (decide (a.getD k 0<b.getD k 0)))=_;congr 3;rw[eq_iff_iff,d];generalize a.getD k 0=u at *;generalize b.getD k 0=v at *;generalize 65536^k=B at *;constructor
    ·intro h;have:(u+1)*B<=v*B:=zDa _ h;rw[z8a] at this;omega
    ·intro h;rcases zqa u v with h1|h1
     ·exact h1
     ·have:(v+1)*B<=u*B:=zDa _ (by omega)
      rw[z8a] at this;omega
 ·obtain⟨rfl,d⟩:=e;refine⟨(1,[]),?_,?_⟩
  ·exact aa gS (aa ac (aD (by show ¬ ((M:Int)-1-(M:Nat)) ≥ 0;omega) rfl))
  ·rw[if_neg (by decide)]
   have:¬ a8 a<a8 b:=by rw[d];simp[vt]
   rw[decide_eq_false this]
def MZ(n:Nat){x y:Int}(hx:In x)(c:In y):cA (n+3) 32 [ae x,ae y]=some (I (be x y)):=by
 rw[u32]
 delta MQ qG qT qN Jn
 have h:=bk 32 _ hx;have i:=bk 32 _ c;have gx:=pC n hx;have f:=pC n c;have a:=sK n hx;have b:=sK n c;refine aa gx (aa aM (aa ac (aa (z:=false) rfl (aa (z:=false) rfl ?_))));rw[if_neg (by decide)]
 refine aa gx (aa aM (aa (z:=false) rfl ?_));rw[if_neg (by decide)]
 refine aa f (aa aM (aa (z:=false) rfl ?_));rw[if_neg (by decide)]
 refine aa (z:=.bool (decide (x<0))) rfl (aa (z:=.bool (decide (y<0))) rfl ?_);have d:=PZ n (aQ x.natAbs) (aQ y.natAbs) (by omega) (by omega)
 have e:=PZ n (aQ y.natAbs) (aQ x.natAbs) (by omega) (by omega)
 simp only[aj] at d e;have g:∀ p q:Bool,D.truth (.bool (!(D.beq (.bool p) (.bool q))))=some (!(p==q)):=λp q=>rfl;rw[g];refine aa rfl ?_;by_cases h1:x<0<;>by_cases h2:y<0
 ·rw[decide_eq_true h1,decide_eq_true h2,if_neg (by decide)]
  refine aa a (aa b (aa (z:=(0,[.sl (ag (aw y.natAbs)),.sl (ag (aw x.natAbs))])) ?_ ?_))
  ·refine aa (z:=.bool true) (by rw[show D.get (ae x) [1]=some (.bool (decide (x<0))) from rfl,decide_eq_true h1]) (aa (z:=true) rfl ?_)
   rw[if_pos rfl];exact aa b (aa a rfl)
  ·refine aa e (aa d (aa ac ?_));by_cases h3:y.natAbs<x.natAbs
   ·refine aA h3 ?_;simp[be,show x<y by omega]
   ·refine aD h3 (aa ac ?_);by_cases h4:x.natAbs<y.natAbs
    ·refine aA h4 ?_;simp[be,show ¬ x<y by omega,show y<x by omega]
    ·refine aD h4 ?_;simp[be,show ¬ x<y by omega,show ¬ y<x by omega]
 ·rw[decide_eq_true h1,decide_eq_false h2,if_pos (by decide)]
  refine aa (z:=.bool true) (by rw[show D.get (ae x) [1]=some (.bool (decide (x<0))) from rfl,decide_eq_true h1]) (aa (z:=true) rfl ?_)
  simp[be,show x<y by omega]
 ·rw[decide_eq_false h1,decide_eq_true h2,if_pos (by decide)]
  refine aa (z:=.bool false) (by rw[show D.get (ae x) [1]=some (.bool (decide (x<0))) from rfl,decide_eq_false h1]) (aa (z:=false) rfl ?_)
  simp[be,show ¬ x<y by omega,show y<x by omega]
 ·rw[decide_eq_false h1,decide_eq_false h2,if_neg (by decide)]
  refine aa a (aa b (aa (z:=(0,[.sl (ag (aw x.natAbs)),.sl (ag (aw y.natAbs))])) ?_ ?_))
  ·refine aa (z:=.bool false) (by rw[show D.get (ae x) [1]=some (.bool (decide (x<0))) from rfl,decide_eq_false h1]) (aa (z:=false) rfl rfl)
  ·refine aa d (aa e (aa ac ?_));by_cases h3:x.natAbs<y.natAbs
   ·refine aA h3 ?_;simp[be,show x<y by omega]
   ·refine aD h3 (aa ac ?_);by_cases h4:y.natAbs<x.natAbs
    ·refine aA h4 ?_;simp[be,show ¬ x<y by omega,show y<x by omega]
    ·refine aD h4 ?_;simp[be,show ¬ x<y by omega,show ¬ y<x by omega]
end Sy
end
noncomputable section
namespace Sy
open Go Go.Proofs Geo
def Wd(x:Int):Prop:=x.natAbs<4611686018427387904
theorem Wd.inR{x:Int}(h:Wd x):inR x:=by unfold Wd at h;simp only[Sy.inR];omega
theorem Wd.In{x:Int}(h:Wd x):In x:=In.of h.inR
def UB(n:Nat){a b:Int}(g:Wd a)(c:b≠0)(h:b ∣ a):cA (n+1) 144 [I a,I b]=some (I (a/b)):=by
 rw[O2]
 delta EV qB qT Jn
 obtain⟨q,rfl⟩:=h;have d:(b*q).tdiv b=q:=zid _ c;have e:b*q/b=q:=z7a _ c;have f:(b*q).tmod b=0:=Int.mul_tmod_right ..;have hq:Sy.inR q:=by
  have:q.natAbs<=(b*q).natAbs:=by rw[zKa];exact zNb _ (by omega)
  unfold Wd at g;simp only[Sy.inR];omega
 rw[e];refine aa (ni c (by rw[d];exact hq)) (aa (z:=(0,[I q])) (aa (kP c) ?_) rfl)
 rw[d,f];exact aa (z:=false) rfl (aa (z:=false) rfl (aa ac rfl))
def P0(n:Nat){a b:Int}(d:Wd a)(c:Wd b):cA (n+4) 85 [ae a,ae b]=some (ae (Nat.gcd a.natAbs b.natAbs:Nat)):=by
 rw[XK]
 delta NE qB qC qT qN qS qZ iL iR Jn
 refine aa (nB n d) (aa (z:=I a) rfl (aa (z:=.bool true) rfl (aa (nB n c) (aa (z:=I b) rfl (aa (z:=.bool true) rfl (aa (z:=true) rfl (aa (z:=true) rfl (aa (z:=true) rfl ?_))))))));rw[if_pos rfl];obtain⟨r,h1,g⟩:=yY (body:=λ(v1:List D)=>
  Option.bind (D.truth (D.bool (!(D.beq (gx v1 1) (D.int .i64 0))))) λf=>
  if f then(Option.bind (D.bin .rem (gx v1 0) (gx v1 1)) λh=>
  some (Sum.inl [(gx v1 1),h])) else(some (Sum.inr (0,[(gx v1 0)]))))
  (λa b c=>by simp only[g0,g1,bI,ac,zba,c,decide_false,zPb,if_true,kP c])
  (λa=>by simp only[g0,g1,bI,ac,zba,decide_true,zbc,zya,if_false]) _ a b rfl
 refine ql h1 ?_;have i:Nat.gcd a.natAbs b.natAbs<=4611686018427387903:=by unfold Wd at d c;exact p8 (by omega) (by omega)
 have e:Sy.inR r:=by simp only[Sy.inR];omega
 refine aa (uK n e) (aa (UA n (In.of e)) ?_);rw[g]
def EE(n:Nat){x:Int}(hx:In x):cA (n+3) 83 [ae x]=some (I (sg x)):=by
 rw[u83]
 delta PN qG qT qN qS Jn
 refine aa (pC n hx) (aa aM (aa (z:=false) rfl (aa (z:=decide (x=0)) ?_ (aa ac ?_))))
 ·rw[if_neg (by decide)]
  refine aa (sK n hx) (aa (z:=ag (aw x.natAbs)) rfl ?_);rw[ac,ai];show some (D.beq (I ((aw x.natAbs).length:Nat)) (I (0:Nat)))=_;rw[ca];congr 1;rw[decide_eq_decide,zrc,sZ];omega
 ·by_cases h0:x=0
  ·refine aA h0 ?_;subst h0;rfl
  ·refine aD h0 (aa (z:=.bool (decide (x<0))) rfl (aa ac ?_));by_cases h1:x<0
   ·refine aA h1 ?_;rw[xU h1]
   ·refine aD h1 ?_;rw[gg (by omega)]
def P3(n:Nat){a b:Int}(d:Wd a)(f:Wd b)(c:b≠0)(e:b ∣ a):cA (n+4) 87 [ae a,ae b]=some (ae (a/b)):=by
 rw[Xo]
 delta MW qG qB qT qN qS Jn
 refine aa (nB n d) (aa (z:=I a) rfl (aa (z:=.bool true) rfl (aa (nB n f) (aa (z:=I b) rfl (aa (z:=.bool true) rfl (aa (z:=true) rfl (aa (z:=true) rfl (aa (z:=true) rfl (aa (z:=true) ?_ (aa (z:=true) rfl ?_))))))))))
 ·rw[if_pos rfl,bI,decide_eq_false c];rfl
 ·rw[if_pos rfl];have hq:Sy.inR (a/b):=by
   obtain⟨q,rfl⟩:=e;rw[z7a _ c];have:q.natAbs<=(b*q).natAbs:=by rw[zKa];exact zNb _ (by omega)
   unfold Wd at d;simp only[Sy.inR];omega
  exact aa (UB (n+2) d c e) (aa (uK n hq) rfl)
abbrev PX(n:Nat):D:=.int .u64 (n:Int)
def da{n:Int}(h:0<=n/\n<18446744073709551616):IntKind.wrap .u64 n=n:=by
 obtain⟨h1,a⟩:=h;simp only[IntKind.wrap,IntKind.signed,IntKind.bits];first
  | omega
  | (simp;omega)
def LN(n:Nat){x:Int}(hx:Wd x):cA (n+4) 186 [ae x]=some (.tup [I x,.bool true]):=by
 rw[Wv]
 delta If qG qB qC qT qN Jn
 have a:x.natAbs<4611686018427387904:=hx;have i1:Sy.inR (-9223372036854775808):=⟨by decide,by decide⟩
 have i2:Sy.inR 9223372036854775807:=⟨by decide,by decide⟩
 refine aa (pC (n+1) hx.In) (aa aM (aa (z:=false) rfl ?_));rw[if_neg (by decide)]
 refine aa (uK n i1) (aa (uK n i2) (aa (MZ n hx.In (In.of i1)) ?_));rw[show be x (-9223372036854775808)=1 by unfold be;rw[if_neg (by omega),if_pos (by omega)]]
 refine aa (z:=.bool false) ah (aa (z:=false) rfl (aa (z:=false) ?_ (aa (z:=false) rfl ?_)))
 ·rw[if_neg (by decide)]
  refine aa (MZ n hx.In (In.of i2)) ?_;rw[show be x 9223372036854775807=-1 by unfold be;rw[if_pos (by omega)]]
  exact aa (z:=.bool false) cw rfl
 ·rw[if_neg (by decide)]
  have b:=Gk x.natAbs;have l0:=Lc x.natAbs;refine aa (cQ (i:=1) (by decide)) ?_
  rw[b];refine aa (z:=PX (x.natAbs/4294967296%4294967296)) (by simp only[D.conv];rw[da (by omega)]) ?_
  refine aa (z:=PX (x.natAbs/4294967296%4294967296*4294967296)) (by simp only[D.bin,if_true];rw[da (by omega)];simp) ?_
  refine aa (cQ (i:=0) (by decide)) ?_
  rw[l0];refine aa (z:=PX (x.natAbs%4294967296)) (by simp only[D.conv];rw[da (by omega)]) ?_
  refine aa (z:=PX x.natAbs) (by simp only[D.bin,if_true];rw[da (by omega)];congr 2;omega) ?_
  refine aa (z:=I (x.natAbs:Nat)) (by simp only[D.conv];rw[ib (by simp only[Sy.inR];omega)]) ?_
  refine aa (z:=(0,[I x])) (aa (z:=.bool (decide (x<0))) rfl (aa ac ?_)) rfl;by_cases h:x<0
  ·refine aA h (aa (mo (by simp only[Sy.inR];omega)) ?_)
   congr 4;omega
  ·refine aD h ?_;congr 4;omega
def UJ(n:Nat){v:V}(e:bd 2305843009213693951 v):cA (n+1) 187 [ab v]=some (.bool true):=by
 rw[Ww]
 delta Ig qB qC qT qJ qZ iL iR Jn
 have a:∀ x:Int,(-2305843009213693951<=x/\x<=2305843009213693951)->∀ (i:Nat) (d:i<3),D.get (ab v) [i]=some (I x)->(Option.bind (D.idx (I (i:Int)) 3) λi4=>Option.bind (D.get (ab v) [i4]) λk=>Option.bind (D.bin .geq k (D.int .i64 2305843009213693952)) λl=>Option.bind (D.truth l) λj=>
  Option.bind (if j then(some true) else(Option.bind (D.idx (I (i:Int)) 3) λi8=>Option.bind (D.get (ab v) [i8]) λm=>Option.bind (D.bin .leq m (D.int .i64 (-2305843009213693952))) λf=>D.truth f)) λb=>
  Option.bind (D.truth (D.bool b)) λc=>if c then(some (Sum.inr (0,[(D.bool false)]))) else(Option.bind (D.bin .add (I (i:Int)) (D.int .i64 1)) λg=>some (Sum.inl [g])))=some (Sum.inl [I ((i+1:Nat):Int)]:Sum (List D) (Nat×List D)):=λx hx i d h=>by
  refine aa (am d) (aa h (aa gS (aa ac (aa (z:=false) ?_ (aa (z:=false) rfl ?_)))))
  ·refine aD (by omega) (aa (am d) (aa h (aa sB ?_)))
   rw[ac,decide_eq_false (by omega)]
  ·rw[if_neg (by decide)]
   exact aa (aq (ay (i:=i) (by omega))) rfl
 refine ct (s':=[I (1:Nat)]) (aa ah (aa ac (aA (by decide) (a v.x e.1 0 (by decide) rfl)))) (ct (s':=[I (2:Nat)]) (aa ah (aa ac (aA (by decide) (a v.y e.2.1 1 (by decide) rfl)))) (ct (s':=[I (3:Nat)]) (aa ah (aa ac (aA (by decide) (a v.z e.2.2 2 (by decide) rfl)))) (fI (r:=(1,[])) (aa ah (aa ac (aD (by decide) rfl))) rfl)))
def dP(v:V):D:=.st [ae v.x,ae v.y,ae v.z]
def LX(n:Nat){v:V}(hx:inR v.x)(a:inR v.y)(b:inR v.z):cA (n+4) 80 [ab v]=some (dP v):=by
 rw[u80]
 delta PL qG
 exact aa (nJ v) (aa (uK n hx) (aa (nK v) (aa (uK n a) (aa (nL v) (aa (uK n b) rfl)))))
def BX(n:Nat){v:V}(l:bd 2305843009213693951 v):cA (n+5) 155 [dP v]=some (.st [ab (az v),I (if v=V.zero then 31 else 0)]):=by
 rw[Wm]
 delta H6 qG qB qC qT qN qJ qZ iL iR Jn
 have p:Wd v.x:=by have:=l.1;unfold Wd;omega
 have d:Wd v.y:=by have:=l.2.1;unfold Wd;omega
 have s:Wd v.z:=by have:=l.2.2;unfold Wd;omega
 have h0:Sy.inR 0:=⟨by decide,by decide⟩
 have w0:Wd 0:=by unfold Wd;decide
 have u:Nat.gcd v.x.natAbs v.y.natAbs<=4611686018427387903:=by unfold Wd at p d;exact p8 (by omega) (by omega)
 have G:bf v<=4611686018427387903:=by
  unfold bf;have:=p8 (a:=(Nat.gcd v.x.natAbs v.y.natAbs:Nat)) (b:=v.z) (k:=4611686018427387903) (by simpa using u) (by unfold Wd at s;omega)
  simpa using this
 have q:Wd (v.x.natAbs:Nat):=by unfold Wd at *;omega
 have w1:Wd (Nat.gcd v.x.natAbs v.y.natAbs:Nat):=by unfold Wd;omega
 have m:Wd (bf v:Nat):=by unfold Wd;omega
 have e:=P0 n w0 p;have f:=P0 n q d;have g:=P0 n w1 s;rw[show(Nat.gcd (0:Int).natAbs v.x.natAbs)=v.x.natAbs by simp] at e
 rw[show(Nat.gcd ((v.x.natAbs:Nat):Int).natAbs v.y.natAbs)=Nat.gcd v.x.natAbs v.y.natAbs by simp] at f
 rw[show(Nat.gcd ((Nat.gcd v.x.natAbs v.y.natAbs:Nat):Int).natAbs v.z.natAbs)=bf v by simp[bf]] at g
 have fst:∀ {k:Nat×List D->Option D} {y:D},k (0,[ae (bf v:Nat)])=some y->Option.bind (cA (n+4) 34 [(D.int .i64 0)]) (λr1=>Option.bind (aL (λ(v2:List D)=>
   Option.bind (D.bin .lss (gx v2 0) (D.int .i64 3)) λB=>Option.bind (D.truth B) λt=>
   if t then(Option.bind (D.idx (gx v2 0) 3) λi5=>Option.bind (D.get (dP v) [i5]) λC=>Option.bind (cA (n+4) 85 [(gx v2 1),C]) λw=>
   Option.bind (D.bin .add (gx v2 0) (D.int .i64 1)) λE=>some (Sum.inl [E,w])) else(some (Sum.inr (0,[(gx v2 1)])))) [(D.int .i64 0),r1]) k)=some y:=by
  intro k y hk;refine aa (uK (n+1) h0) ?_;refine ct (s':=[I 1,ae (v.x.natAbs:Nat)]) (aa ah (aa ac (aA (by decide) (aa Gf (aa (z:=ae v.x) rfl (aa e (aa (aq KX) rfl))))))) ?_
  refine ct (s':=[I 2,ae (Nat.gcd v.x.natAbs v.y.natAbs:Nat)]) (aa ah (aa ac (aA (by decide) (aa Gg (aa (z:=ae v.y) rfl (aa f (aa (aq rZ) rfl))))))) ?_
  refine ct (s':=[I 3,ae (bf v:Nat)]) (aa ah (aa ac (aA (by decide) (aa Gh (aa (z:=ae v.z) rfl (aa g (aa (aq KY) rfl))))))) ?_
  exact fI (r:=(0,[ae (bf v:Nat)])) (aa ah (aa ac (aD (by decide) rfl))) hk
 have i:=EE (n+1) m.In;by_cases hz:bf v=0
 ·refine fst (aa (z:=.bool false) rfl (aa (z:=false) rfl ?_));rw[if_neg (by decide)]
  refine aa i ?_;rw[hz];refine aa (z:=true) rfl ?_;rw[if_pos rfl];have o:v=V.zero:=by
   by_cases h:v=V.zero
   ·exact h
   ·have:=iG h;omega
  rw[o];rfl
 ·have c:(bf v:Int)≠0:=by omega
  rw[if_neg (λh=>hz (by rw[h];rfl))]
  refine fst (aa (z:=.bool false) rfl (aa (z:=false) rfl ?_));rw[if_neg (by decide)]
  refine aa i ?_;rw[gg (show(0:Int)<bf v by omega)]
  refine aa (z:=false) rfl ?_;rw[if_neg (by decide)]
  have j:=cX l;have F:=P3 n p m c (vo v);have z2:=P3 n d m c (vp v);have z3:=P3 n s m c (vq v);have s1:=LN n (x:=v.x/(bf v:Nat)) (by have:=j.1;unfold Wd;simp only[az] at this;omega)
  have s2:=LN n (x:=v.y/(bf v:Nat)) (by have:=j.2.1;unfold Wd;simp only[az] at this;omega)
  have A:=LN n (x:=v.z/(bf v:Nat)) (by have:=j.2.2;unfold Wd;simp only[az] at this;omega)
  refine ct (s':=[I 1,.st [ab V.zero,I 0],.st [ab ⟨v.x/(bf v:Nat),0,0⟩,I 0]]) ?_ (ct (s':=[I 2,.st [ab V.zero,I 0],.st [ab ⟨v.x/(bf v:Nat),v.y/(bf v:Nat),0⟩,I 0]]) ?_ (ct (s':=[I 3,.st [ab V.zero,I 0],.st [ab ⟨v.x/(bf v:Nat),v.y/(bf v:Nat),v.z/(bf v:Nat)⟩,I 0]]) ?_ (fI (r:=(1,[.st [ab V.zero,I 0],.st [ab (az v),I 0]])) (aa ah (aa ac (aD (by decide) rfl))) ?_)))
  ·refine aa ah (aa ac (aA (by decide) (aa Gf (aa (z:=ae v.x) rfl (aa F (aa s1 (aa (z:=I (v.x/(bf v:Nat))) rfl (aa (z:=.bool true) rfl (aa (z:=.bool false) rfl (aa (z:=false) rfl ?_))))))))))
   rw[if_neg (by decide)]
   exact aa Gf (aa (z:=.st [ab ⟨v.x/(bf v:Nat),0,0⟩,I 0]) rfl (aa (aq KX) rfl))
  ·refine aa ah (aa ac (aA (by decide) (aa Gg (aa (z:=ae v.y) rfl (aa z2 (aa s2 (aa (z:=I (v.y/(bf v:Nat))) rfl (aa (z:=.bool true) rfl (aa (z:=.bool false) rfl (aa (z:=false) rfl ?_))))))))))
   rw[if_neg (by decide)]
   exact aa Gg (aa (z:=.st [ab ⟨v.x/(bf v:Nat),v.y/(bf v:Nat),0⟩,I 0]) rfl (aa (aq rZ) rfl))
  ·refine aa ah (aa ac (aA (by decide) (aa Gh (aa (z:=ae v.z) rfl (aa z3 (aa A (aa (z:=I (v.z/(bf v:Nat))) rfl (aa (z:=.bool true) rfl (aa (z:=.bool false) rfl (aa (z:=false) rfl ?_))))))))))
   rw[if_neg (by decide)]
   exact aa Gh (aa (z:=.st [ab ⟨v.x/(bf v:Nat),v.y/(bf v:Nat),v.z/(bf v:Nat)⟩,I 0]) rfl (aa (aq KY) rfl))
  ·rw[if_neg (show ¬ (1:Nat)=0 by decide)]
   refine aa (z:=ab (az v)) rfl (aa (UJ (n+3) (v:=az v) ?_) (aa (z:=.bool false) rfl (aa (z:=false) rfl rfl)));simp only[bd] at j ⊢;omega
def UD(n:Nat){v:V}(a:bd 549755813888 v):∃ e:Int,cA (n+5) 155 [dP v]=some (.st [ab (az v),I e]):=
 ⟨_,BX n (by simp only[bd] at *;omega)⟩
def Us(n:Nat){a b c:V}(f:bd MV a)(h:bd MV b)(hc:bd MV c):cA (n+6) 106 [ab a,ab b,ab c]=some (ab (az (V.cross (b.sub a) (c.sub a)))):=by
 rw[VK]
 delta Hx qG
 have h1:bd 524288 (b.sub a):=by have:=jy h f;simpa [MV] using this
 have g:bd 524288 (c.sub a):=by have:=jy hc f;simpa [MV] using this
 have i:=iA h1 g;refine aa (wW (n+4) h f (by decide)) (aa (wW (n+4) hc f (by decide)) (aa (NS (n+4) h1 g (by decide)) ?_))
 have d:bd 549755813888 (V.cross (b.sub a) (c.sub a)):=i;generalize V.cross (b.sub a) (c.sub a)=m at *;obtain⟨e,he⟩:=UD n d;refine aa (LX (n+1) ?_ ?_ ?_) (aa he rfl)
 ·have:=d.1;simp only[Sy.inR];omega
 ·have:=d.2.1;simp only[Sy.inR];omega
 ·have:=d.2.2;simp only[Sy.inR];omega
end Sy
end
noncomputable section
namespace Sy
open Go Go.Proofs Geo
theorem oC:∀ {l:List Nat} {j v:Nat},j<l.length->a8 (l.set j v)+65536^j*l.getD j 0=a8 l+65536^j*v
 | d::l,0,v,_=>by simp only[List.set_cons_zero,a8,znc,zNc,List.getD_cons_zero];omega
 | d::l,j+1,v,h=>by
  have ih:=oC (l:=l) (j:=j) (v:=v) (by simpa using h)
  simp only[List.set_cons_succ,a8,zjb,List.getD_cons_succ];rw[zLa (65536^j) 65536,z2a,z2a];generalize 65536^j*l.getD j 0=x at *;generalize 65536^j*v=y at *;omega
def pW(l:List Nat)(j v:Nat):(ag l).set j (I (v:Int))=ag (l.set j v):=by simp[ag,List.map_set]
def lI(l:List Nat)(j v i:Nat)(h:j<l.length):(l.set j v).getD i 0=if i=j then v else l.getD i 0:=by
 by_cases e:i=j
 ·subst e;simp[List.getD,h]
 ·simp[List.getD,e,List.getElem?_set,show ¬ j=i from λk=>e k.symm]
def vw(m:Nat):List.replicate m (D.int .i64 0)=ag (List.replicate m 0):=by simp[ag]
def kl{a b:Nat}(h:a*b<=9223372036854775807):D.bin .mul (I (a:Int)) (I (b:Int))=some (I ((a*b:Nat):Int)):=by
 rw[br (by simp only[inR];rw[<-zXa];omega),zXa]
def aJ{a b:Nat}(h:a+b<=9223372036854775807):D.bin .add (I (a:Int)) (I (b:Int))=some (I ((a+b:Nat):Int)):=by
 rw[aq (by simp only[inR];omega),zad]
def CI(a:Nat):D.natOf (I (a:Int))=some a:=by simp[D.natOf]
def zd{l:List Nat}{i:Nat}(h:i<l.length):D.idx (I (i:Int)) (ag l).length=some i:=by rw[ai];exact am h
def KQ{l:List Nat}(h:∀ i,i<l.length->l.getD i 0<65536):dl l:=λd b=>by
 obtain⟨i,a,rfl⟩:=zQa b;have:=h i a;simpa [List.getD,a] using this
def LI(n:Nat){a b:List Nat}(ha:dl a)(hb:dl b)(aI:a.length<=400000)(a0:b.length<=400000):cA (n+2) 146 [.sl (ag a),.sl (ag b)]=some (.sl (ag (aw (a8 a*a8 b)))):=by
 rw[Wh]
 delta H2 qB qC qS qX qL qV qW qZ iL iR Jn
 obtain⟨M,hM⟩:∃ M,M=a.length+b.length+1:=⟨_,rfl⟩;refine aa (z:=ag a) rfl (aa (z:=ag b) rfl (aa (z:=I ((a.length+b.length:Nat):Int)) (by rw[ai,ai];exact aJ (by omega)) (aa (z:=I (M:Int)) (by rw[hM];exact aJ (b:=1) (by omega)) (aa (CI M) ?_))))
 rw[if_pos (by omega),vw]
 refine bq (λi s=>∃ out:List Nat,s=[I (i:Int),.sl (ag out)]/\out.length=M/\dl out/\a8 out=vt a i*a8 b) a.length 0 (zla _) ⟨List.replicate M 0,rfl,by simp,λx hx=>by rw[zhd hx];decide,by have:=nF [] M;rw[z3b] at this;rw[this];simp[vt,a8]⟩ (λi hi s m=>?_) (λs m=>?_)
 ·obtain⟨out,rfl,ho,t,H⟩:=m;left;have an:=ha.getD i;obtain⟨r,h1,d,rfl,B,u,C⟩:=Cy (body:=λ(v10:List D)=>
   Option.bind (D.asSl (.sl (ag b))) λJ=>
   Option.bind (D.bin .lss (gx v10 0) (D.int .i64 (List.length J))) λO=>
   Option.bind (D.truth O) λF=>
   if F then(Option.bind (D.bin .add (I (i:Int)) (gx v10 0)) λP=>
   Option.bind (D.bin .add (I (i:Int)) (gx v10 0)) λQ=>
   Option.bind (D.idx Q (List.length (D.els (gx v10 1)))) λi16=>
   Option.bind ((D.els (gx v10 1))[i16]?) λR=>
   Option.bind (D.asSl (.sl (ag a))) λy=>
   Option.bind (D.idx (I (i:Int)) (List.length y)) λi19=>
   Option.bind (y[i19]?) λS=>
   Option.bind (D.asSl (.sl (ag b))) λA=>
   Option.bind (D.idx (gx v10 0) (List.length A)) λi22=>
   Option.bind (A[i22]?) λT=>
   Option.bind (D.bin .mul S T) λU=>
   Option.bind (D.bin .add R U) λV=>
   Option.bind (D.idx P (List.length (D.els (gx v10 1)))) λi26=>
   Option.bind ((D.els (gx v10 1))[i26]?) λa2=>
   Option.bind (D.bin .add (gx v10 0) (D.int .i64 1)) λW=>
   some (Sum.inl [W,(D.sl (List.set (D.els (gx v10 1)) i26 V))])) else(some (Sum.inr (0,[(D.sl (D.els (gx v10 1)))]))))
   (s0:=[I 0,.sl (ag out)])
   (λk s=>∃ o:List Nat,s=[I (k:Int),.sl (ag o)]/\o.length=M/\(∀ j,j<M->o.getD j 0<=4295032831/\(i+k<=j->o.getD j 0<65536))/\a8 o=a8 out+65536^i*(a.getD i 0*vt b k))
   (λr=>∃ o:List Nat,r=(0,[.sl (ag o)])/\o.length=M/\(∀ j,j<M->o.getD j 0<=4295032831)/\a8 o=a8 out+65536^i*(a.getD i 0*a8 b)) b.length 0 (zla _)
   ⟨out,rfl,ho,λj _=>by have:=t.getD j;omega,by simp[vt]⟩ (λk hk s m=>by
    obtain⟨o,rfl,B,u,C⟩:=m;left;have ax:=hb.getD k;have g:i+k<o.length:=by omega
    have hp:a.getD i 0*b.getD k 0<=65535*65535:=z1a (by omega) (by omega)
    have hx:=(u (i+k) (by omega)).2 (zfa _)
    refine⟨[I ((k+1:Nat):Int),.sl (ag (o.set (i+k) (o.getD (i+k) 0+a.getD i 0*b.getD k 0)))],?_,_,rfl,by simpa using B,λj p=>?_,?_⟩
    ·refine aa (z:=ag b) rfl (aa ah (aa ac (aA (by show(k:Int)<((ag b).length:Int);rw[ai];omega) ?_)))
     refine aa (aJ (a:=i) (b:=k) (by omega)) (aa (aJ (a:=i) (b:=k) (by omega)) (aa (zd g) (aa (cS g) ?_)))
     refine aa (z:=ag a) rfl (aa (zd hi) (aa (cS hi) (aa (z:=ag b) rfl (aa (zd hk) (aa (cS hk) ?_)))));refine aa (kl (by omega)) (aa (aJ (by omega)) (aa (zd g) (aa (cS g) (aa (aq (ay (i:=k) (by omega))) ?_))))
     show some (Sum.inl [_,D.sl (List.set (ag o) (i+k) _)])=_;rw[pW];rfl
    ·rw[lI _ _ _ _ g];have:=u j p;split
     ·omega
     ·omega
    ·have e:=oC (l:=o) (j:=i+k) (v:=o.getD (i+k) 0+a.getD i 0*b.getD k 0) g;rw[vt,zTb,zTb];have e2:65536^i*(a.getD i 0*(b.getD k 0*65536^k))=65536^(i+k)*(a.getD i 0*b.getD k 0):=by
      rw[zob,<-z2a (a.getD i 0),zLa (a.getD i 0*b.getD k 0),z2a]
     rw[zTb] at e;omega) (λs m=>by
    obtain⟨o,rfl,B,u,C⟩:=m;rw[mq] at C;exact⟨_,aa (z:=ag b) rfl (aa ah (aa ac (aD (by show ¬ ((b.length:Int)<((ag b).length:Int));rw[ai];omega) rfl))),o,rfl,B,λj p=>(u j p).1,C⟩)
  obtain⟨r2,h2,q,rfl,p1,p2,p3⟩:=Cy (body:=λ(v30:List D)=>
   Option.bind (D.bin .lss (gx v30 1) (D.int .i64 (List.length (D.els (gx v30 2))))) λX=>
   Option.bind (D.truth X) λG=>
   if G then(Option.bind (D.idx (gx v30 1) (List.length (D.els (gx v30 2)))) λi33=>
   Option.bind ((D.els (gx v30 2))[i33]?) λY=>
   Option.bind (D.bin .add Y (gx v30 0)) λE=>
   Option.bind (D.bin .rem E (D.int .i64 65536)) λZ=>
   Option.bind (D.idx (gx v30 1) (List.length (D.els (gx v30 2)))) λi37=>
   Option.bind ((D.els (gx v30 2))[i37]?) λa3=>
   Option.bind (D.bin .quo E (D.int .i64 65536)) λad=>
   Option.bind (D.bin .add (gx v30 1) (D.int .i64 1)) λal=>
   some (Sum.inl [ad,al,(D.sl (List.set (D.els (gx v30 2)) i37 Z))])) else(some (Sum.inr (0,[(D.sl (D.els (gx v30 2)))]))))
   (s0:=[I 0,I 0,.sl (ag d)])
   (λk s=>∃ (o:List Nat) (c:Nat),s=[I (c:Int),I (k:Int),.sl (ag o)]/\o.length=M/\(∀ j,j<k->o.getD j 0<65536)/\(∀ j,k<=j->o.getD j 0=d.getD j 0)/\c<=131072/\a8 o+65536^k*c=a8 d)
   (λr=>∃ o:List Nat,r=(0,[.sl (ag o)])/\o.length=M/\dl o/\∃ c,a8 o+65536^M*c=a8 d) M 0 (zla _)
   ⟨d,0,rfl,B,λj p=>absurd p (Nat.not_lt_zero _),λj _=>rfl,by omega,by simp⟩ (λk hk s m=>by
    obtain⟨o,c,rfl,K,L,N,q4,q5⟩:=m;left;have f:k<o.length:=by omega
    have hx:=u k hk;have hq:=N k (zfa _);refine⟨[I (((o.getD k 0+c)/65536:Nat):Int),I ((k+1:Nat):Int),.sl (ag (o.set k ((o.getD k 0+c)%65536)))],?_,_,_,rfl,by simpa using K,λj p=>?_,λj p=>?_,by omega,?_⟩
    ·refine aa ah (aa ac (aA (by show(k:Int)<((ag o).length:Int);rw[ai];omega) ?_))
     refine aa (zd f) (aa (cS f) (aa (aJ (by omega)) (aa (lm (b:=65536) (by decide)) (aa (zd f) (aa (cS f) (aa (jx (b:=65536) (by decide) (by omega)) (aa (aq (ay (i:=k) (by omega))) ?_)))))))
     show some (Sum.inl [_,_,D.sl (List.set (ag o) k _)])=_;rw[pW];rfl
    ·rw[lI _ _ _ _ f];split
     ·omega
     ·exact L j (by omega)
    ·rw[lI _ _ _ _ f,if_neg (by omega)];exact N j (by omega)
    ·have e:=oC (l:=o) (j:=k) (v:=(o.getD k 0+c)%65536) f;have e2:o.getD k 0+c=(o.getD k 0+c)%65536+65536*((o.getD k 0+c)/65536):=by omega
     have e3:65536^k*(o.getD k 0+c)=65536^k*((o.getD k 0+c)%65536)+65536^k*(65536*((o.getD k 0+c)/65536)):=by rw[<-zTb,<-e2]
     rw[zTb] at e3;rw[zjb,z2a];omega) (λs m=>by
    obtain⟨o,c,rfl,K,L,N,q4,q5⟩:=m;exact⟨_,aa ah (aa ac (aD (by show ¬ ((M:Int)<((ag o).length:Int));rw[ai];omega) rfl)),o,rfl,K,KQ λj p=>L j (by omega),c,q5⟩)
  obtain⟨c,p4⟩:=p3;refine⟨[I ((i+1:Nat):Int),.sl (ag q)],?_,q,rfl,p1,p2,?_⟩
  ·refine aa (z:=ag a) rfl (aa ah (aa ac (aA (by show(i:Int)<((ag a).length:Int);rw[ai];omega) ?_)))
   refine aa h1 (aa h2 ?_);exact aa (aq (ay (i:=i) (by omega))) rfl
  ·have w:a8 d=vt a (i+1)*a8 b:=by
    rw[C,H,vt,z8a,zLa (a.getD i 0) (65536^i),z2a]
   have a1:vt a (i+1)*a8 b<65536^M:=by
    have l1:=uy ha (i+1);have l2:=kr hb;have l3:vt a (i+1)*a8 b<65536^(i+1)*65536^b.length:=zMc l1 l2;have l4:65536^(i+1)*65536^b.length<=65536^M:=by rw[<-zob];exact zta (by decide) (by omega)
    omega
   have hc:c=0:=by
    rcases zwb c with h|h
    ·exact h
    ·have:65536^M*1<=65536^M*c:=z4a _ h;omega
   subst hc;rw[<-w,<-p4];simp
 ·obtain⟨out,rfl,ho,t,H⟩:=m;refine⟨(0,[.sl (ag out)]),aa (z:=ag a) rfl (aa ah (aa ac (aD (by show ¬ ((a.length:Int)<((ag a).length:Int));rw[ai];omega) rfl))),?_⟩
  refine aa (yB n (l:=out) (by omega)) ?_
  rw[gH t,H,mq]
def NV(n:Nat)(x:Int):cA (n+1) 145 [I x]=some (.bool (decide (x<2147483648)&&decide (x>-2147483648))):=by
 rw[Wg]
 delta H1 qB qC Jn
 refine aa ah (aa ac ?_);cases h:decide (x<2147483648)
 ·rfl
 ·rw[if_pos rfl];exact aa (aa cw rfl) rfl
def xW(x y:Int):sgn (!(decide (decide (x<0)=decide (y<0)))) (x.natAbs*y.natAbs)=x*y:=by
 unfold sgn;rw[<-zKa];by_cases hx:x<0<;>by_cases hy:y<0
 ·have:=zZb hx hy;simp[hx,hy];omega
 ·have:=Int.mul_nonpos_of_nonpos_of_nonneg (zMa hx) (z6b.1 hy);simp[hx,hy];omega
 ·have:=Int.mul_nonpos_of_nonneg_of_nonpos (z6b.1 hx) (zMa hy);simp[hx,hy];omega
 ·have:=zSb (z6b.1 hx) (z6b.1 hy);simp[hx,hy];omega
def Vm(n:Nat){x y:Int}(hx:Wd x)(d:Wd y):cA (n+4) 89 [ae x,ae y]=some (ae (x*y)):=by
 rw[Xp]
 delta MX qG qB qT qN
 refine aa (nB n hx) (aa (z:=I x) rfl (aa (z:=.bool true) rfl (aa (nB n d) (aa (z:=I y) rfl (aa (z:=.bool true) rfl (aa (z:=true) rfl (aa (z:=true) rfl (aa (z:=true) rfl ?_))))))));refine aa (z:=(decide (x<2147483648)&&decide (x>-2147483648))) (by rw[if_pos rfl];exact aa (NV (n+2) x) rfl) (aa ac ?_)
 refine aa (z:=((decide (x<2147483648)&&decide (x>-2147483648))&&(decide (y<2147483648)&&decide (y>-2147483648)))) (by
  cases (decide (x<2147483648)&&decide (x>-2147483648))
  ·rfl
  ·rw[if_pos rfl];exact aa (NV (n+2) y) rfl) (aa ac ?_)
 cases hb:((decide (x<2147483648)&&decide (x>-2147483648))&&(decide (y<2147483648)&&decide (y>-2147483648)))
 ·rw[if_neg (by decide)]
  refine aa (pC (n+1) hx.In) (aa aM (aa ac (aa (z:=false) ?_ (aa ac ?_))))
  ·rw[if_neg (by decide)];exact aa (pC (n+1) d.In) rfl
  ·rw[if_neg (by decide)]
   have i:=bk 32 _ hx.In;have j:=bk 32 _ d.In;refine aa (z:=.bool (decide (x<0))) rfl (aa (z:=.bool (decide (y<0))) rfl (aa (sK (n+1) hx.In) (aa (sK (n+1) d.In) (aa (LI (n+1) (aQ _) (aQ _) (by omega) (by omega)) (aa (z:=ae (x*y)) ?_ rfl)))))
   rw[aj,aj];have c:x.natAbs*y.natAbs<65536^8:=by
    have e:(65536:Nat)^8=18446744073709551616*18446744073709551616:=by decide
    rw[e];unfold Wd at hx d;exact zMc (by omega) (by omega)
   have h:=bk 8 _ c;have f:x.natAbs*y.natAbs<65536^32:=zOa c (zta (by decide) (by decide))
   have:=Hp (n+1) (l:=aw (x.natAbs*y.natAbs)) (neg:=!(decide (decide (x<0)=decide (y<0)))) (aQ _) (by omega) (by rw[aj];exact f)
   rw[aj,xW] at this;rw[<-this];congr 4
 ·rw[if_pos rfl];simp only[zaa,decide_eq_true_eq] at hb;have:=gC (A:=2147483648) (B:=2147483648) (a:=x) (b:=y) (by omega) (by omega)
  have g:inR (x*y):=by simp only[inR];omega
  exact aa (br g) (aa (uK n g) rfl)
def Xz(n:Nat){x y:Int}(hx:Wd x)(b:Wd y):cA (n+4) 59 [ae x,ae y]=some (ae (x+y)):=by
 rw[Xm]
 delta MT qG qB qT qN
 refine aa (nB n hx) (aa (z:=I x) rfl (aa (z:=.bool true) rfl (aa (nB n b) (aa (z:=I y) rfl (aa (z:=.bool true) rfl (aa (z:=true) rfl (aa (z:=true) rfl (aa (z:=true) rfl ?_))))))));rw[if_pos rfl];have a:inR (x+y):=by unfold Wd at hx b;simp only[inR];omega
 exact aa (aq a) (aa (uK n a) rfl)
end Sy
end
noncomputable section
open Go
def ns(n:Nat):Nat:=2^(32*n)
def c8(n:Nat):ns n=2^(32*n):=rfl
attribute [irreducible] ns
def dM:Nat:=ns 16
def gk:dM=ns 16:=rfl
attribute [irreducible] dM
def nV{a b:Nat}(h:a<=b):ns a<=ns b:=by rw[c8,c8];exact zta (by omega) (by omega)
def wH:ns 2=18446744073709551616:=by rw[c8]
def Es(n:Nat):0<ns n:=by rw[c8];exact zwa _
def ff:0<dM:=gk ▸ Es 16
def xY{n:Nat}(h:n<18446744073709551616):n<dM:=by
 rw[gk];rw[<-wH] at h;exact zOa h (nV (by omega))
def bx(X k:Nat):Int:=((X/2^(32*k)%2^32:Nat):Int)
def nE(X k:Nat):bx X k<=4294967295:=by
 grind [bx]
def sY(X k:Nat):bx X k<4294967296:=by
 grind [bx]
def cm(X k:Nat):0<=bx X k:=by unfold bx;exact Int.natCast_nonneg _
def D6(a b:Nat)(h:a<=b):2^b=2^a*2^(b-a):=by rw[<-zob];congr 1;omega
theorem kq(X k j:Nat):bx (X%2^(32*k)) j=if j<k then bx X j else 0:=by
 unfold bx;split
 ·rename_i h;congr 1;rw[D6 (32*j) (32*k) (by omega),Nat.mod_mul_right_div_self,show 32*k-32*j=32+(32*k-32*j-32) from by omega,zob,Nat.mod_mul_right_mod]
 ·rename_i h;rw[z9a]
  ·simp
  ·exact zOa (zRa _ (zwa _)) (zta (by decide) (by omega))
def xq(n:Nat):∀ (X Y:Nat),X<2^(32*n)->Y<2^(32*n)->(∀ k,k<n->bx X k=bx Y k)->X=Y:=by
 induction n with
 | zero=>intro X Y a b _;simp at a b;omega
 | succ n ih=>
  intro X Y a b h;have f:∀ Z:Nat,Z=Z%2^(32*n)+2^(32*n)*(Z/2^(32*n)):=λZ=>by have:=Nat.mod_add_div Z (2^(32*n));omega
  have hm:X%2^(32*n)=Y%2^(32*n):=by
   refine ih _ _ (zRa _ (zwa _)) (zRa _ (zwa _)) λk hk=>?_;grind [kq]
  have d:X/2^(32*n)=Y/2^(32*n):=by
   have h1:=h n (by omega)
   unfold bx at h1;have e:∀ Z,Z<2^(32*(n+1))->Z/2^(32*n)<2^32:=λZ c=>by
    rw[zSa (zwa _),<-zob,show 32+32*n=32*(n+1) from by omega];exact c
   grind
  grind
def DK{X Y:Nat}(a:X<dM)(b:Y<dM)(h:∀ k,k<16->bx X k=bx Y k):X=Y:=by
 rw[gk,c8] at a b;exact xq 16 X Y a b h
def uT(s V Z j:Nat):Int:=if j<s then bx V j else bx Z j
def vU(s V Z:Nat):uT s V Z s=bx Z s:=by unfold uT;rw[if_neg (Nat.lt_irrefl s)]
def fc(X Y k:Nat):Nat:=(X%2^(32*k)+Y%2^(32*k))/2^(32*k)
def mw(X Y k:Nat):fc X Y k<=1:=by
 unfold fc;have h:=zwa (32*k);have h1:=zRa X h;have a:=zRa Y h;have:(X%2^(32*k)+Y%2^(32*k))/2^(32*k)<2:=(zSa h).2 (by omega)
 omega
def qO(X Y:Nat):fc X Y 0=0:=by simp[fc,z7c]
theorem iW(X k:Nat):X=X%2^(32*k)+2^(32*k)*(X/2^(32*k)):=by have:=Nat.mod_add_div X (2^(32*k));omega
theorem dn(k:Nat):2^(32*(k+1))=2^(32*k)*4294967296:=by grind
theorem dQ(X k:Nat):X%2^(32*(k+1))=X%2^(32*k)+2^(32*k)*(X/2^(32*k)%4294967296):=by rw[dn,Nat.mod_mul]
def qK(X Y k:Nat):((fc X Y (k+1):Nat):Int)=((fc X Y k:Nat)+(bx X k+bx Y k))/4294967296:=by
 unfold fc bx;have hp:=zwa (32*k);rw[dQ,dQ,dn,<-zUa];generalize 2^(32*k)=p at *;have:(X%p+p*(X/p%4294967296)+(Y%p+p*(Y/p%4294967296)))/p=(X%p+Y%p)/p+(X/p%4294967296+Y/p%4294967296):=by
  rw[show X%p+p*(X/p%4294967296)+(Y%p+p*(Y/p%4294967296))=(X%p+Y%p)+p*(X/p%4294967296+Y/p%4294967296) from by rw[zTb];omega,zKb _ _ hp]
 omega
def Cc(X Y k:Nat):bx (X+Y) k=((fc X Y k:Nat)+(bx X k+bx Y k))%4294967296:=by
 unfold fc bx;have hp:=zwa (32*k);have hx:=iW X k;have a:=iW Y k;generalize 2^(32*k)=p at *;have:(X+Y)/p=(X%p+Y%p)/p+(X/p+Y/p):=by
  rw[show X+Y=(X%p+Y%p)+p*(X/p+Y/p) from by rw[zTb];omega,zKb _ _ hp]
 omega
theorem zM:2^(32*16)=dM:=by rw[gk,c8 16]
def Dq{X Y:Nat}(a:X<dM)(b:Y<dM):fc X Y 16=if X+Y<dM then 0 else 1:=by
 have h:=mw X Y 16;unfold fc at *;rw[zM,zPa a,zPa b] at *;split
 ·simp_all
 ·have:1<=(X+Y)/dM:=(z1b ff).2 (by omega)
  omega
def bT(X Y k:Nat):Nat:=if X%2^(32*k)<Y%2^(32*k) then 1 else 0
def sE(X Y k:Nat):bT X Y k<=1:=by unfold bT;split<;>omega
def oh(X Y:Nat):bT X Y 0=0:=by simp[bT,z7c]
def og(X Y k:Nat):((bT X Y (k+1):Nat):Int)=if bx X k-bx Y k-(bT X Y k:Nat)<0 then 1 else 0:=by
 unfold bT bx;have hp:=zwa (32*k);rw[dQ,dQ];have h1:=zRa X hp;have c:=zRa Y hp;simp only[show(2:Nat)^32=4294967296 from rfl];generalize 2^(32*k)=p at *;generalize X/p%4294967296=a;generalize Y/p%4294967296=b;generalize X%p=x at *;generalize Y%p=y at *;rcases zgd a b with h|h|h
 ·have:p*a+p<=p*b:=by rw[<-zsd];exact z4a _ h
  grind
 ·grind
 ·have:p*b+p<=p*a:=by rw[<-zsd];exact z4a _ h
  grind
def Ce{X Y:Nat}(h:Y<=X)(k:Nat):bx (X-Y) k=(bx X k-bx Y k-(bT X Y k:Nat))%4294967296:=by
 unfold bT bx;have hp:=zwa (32*k);have hx:=iW X k;have d:=iW Y k;have h1:=zRa X hp;have f:=zRa Y hp;simp only[show(2:Nat)^32=4294967296 from rfl];generalize 2^(32*k)=p at *;have hle:Y/p<=X/p:=Nat.div_le_div_right h;generalize hxq:X/p=a at *;generalize hyq:Y/p=b at *;generalize hxr:X%p=x at *;generalize hyr:Y%p=y at *;by_cases h3:x<y
 ·have c:b<a:=by
   all_goals grind
  have e:X-Y=(x+p-y)+p*(a-b-1):=by
   rw[hx,d,Nat.mul_sub,Nat.mul_sub];have:p*b+p<=p*a:=by rw[<-zsd];exact z4a _ c
   omega
  rw[e,zKb _ _ hp,z9a (by omega),if_pos h3]
  omega
 ·have e:X-Y=(x-y)+p*(a-b):=by
   rw[hx,d,Nat.mul_sub];have:p*b<=p*a:=z4a _ hle;omega
  rw[e,zKb _ _ hp,z9a (by omega),if_neg h3]
  omega
def rF(a b:Int)(c:Nat)(a0:0<=a)(a1:a<=4294967295)(d:0<=b)(f:b<=4294967295)(hc:c<=1) :
  IntKind.u64.wrap (IntKind.u64.wrap (a-b)-(c:Int))/9223372036854775808=(if a-b-(c:Int)<0 then 1 else 0) ∧
  IntKind.u64.wrap (IntKind.u64.wrap (a-b)-(c:Int))%4294967296=(a-b-(c:Int))%4294967296:=by
 have e:∀ n:Int,IntKind.u64.wrap n=n%18446744073709551616:=λn=>rfl;all_goals grind
def gN(X:Nat):Nat->Nat
 | 0=>0
 | k+1=>if 2^(32*k)<=X then k+1 else gN X k
def cJ(X:Nat):Nat:=gN X 16
def DX(X k:Nat):gN X k<=k:=by
 induction k with
 | zero=>exact zfa _
 | succ k ih=>unfold gN;split<;>omega
def Ba(X k:Nat)(h:gN X k≠0):2^(32*(gN X k-1))<=X:=by
 induction k with
 | zero=>exact absurd rfl h
 | succ k ih=>
  all_goals grind [gN]
def zE(X k:Nat)(h:X<2^(32*k)):X<2^(32*gN X k):=by
 induction k with
 | zero=>exact h
 | succ k ih=>
  all_goals grind [gN]
def jW(X:Nat):cJ X<=16:=DX X 16
def dS{X:Nat}(h:X<dM):X<2^(32*cJ X):=zE X 16 (by rw[gk,c8] at h;exact h)
def nR{X:Nat}(h:cJ X≠0):2^(32*(cJ X-1))<=X:=Ba X 16 h
def xc{X k:Nat}(h:X<2^(32*(k+1))):bx X k=0↔X<2^(32*k):=by
 unfold bx;have hp:=zwa (32*k);have a:X/2^(32*k)<2^32:=by rw[zSa hp,<-zob,show 32+32*k=32*(k+1) from by omega];exact h
 rw[zPa a];constructor
 ·intro c;have b:X/2^(32*k)=0:=by omega
  all_goals simp_all
 ·simp_all [z9a]
def sgn(a b:Nat):Int:=if a<b then -1 else if b<a then 1 else 0
def jA(X Y k:Nat):Prop:=X/2^(32*k)=Y/2^(32*k)
def DD{X Y:Nat}(a:X<dM)(b:Y<dM):jA X Y 16:=by
 unfold jA;rw[gk,c8] at a b;omega
def mE(X k:Nat):X/2^(32*k)=X/2^(32*(k+1))*4294967296+(X/2^(32*k))%4294967296:=by
 rw[dn,<-zUa];omega
def zb{X Y k:Nat}(h:jA X Y (k+1))(a:bx X k=bx Y k):jA X Y k:=by
 unfold jA bx at *;rw[mE X k,mE Y k,h];omega
def Ac{X Y k:Nat}(h:jA X Y (k+1))(b:bx X k≠bx Y k):sgn X Y=if bx X k<bx Y k then -1 else 1:=by
 unfold jA bx at *;have hx:=mE X k;have d:=mE Y k;have hp:=zwa (32*k);have e:=iW X k;have f:=iW Y k;have h1:=zRa X hp;have c:=zRa Y hp;simp only[show(2:Nat)^32=4294967296 from rfl] at b ⊢;generalize 2^(32*k)=p at *;unfold sgn;by_cases hlt:X/p<Y/p
 ·have:p*(X/p)+p<=p*(Y/p):=by rw[<-zsd];exact z4a _ hlt
  omega
 ·have a:Y/p<X/p:=by omega
  have:p*(Y/p)+p<=p*(X/p):=by rw[<-zsd];exact z4a _ a
  omega
def Ej{X Y:Nat}(h:jA X Y 0):sgn X Y=0:=by
 simp_all [jA,sgn]
theorem eI(X k:Nat):bx X k=((X/2^(32*k)%4294967296:Nat):Int):=rfl
def fD{X n k:Nat}(h:X<2^(32*n))(hk:n<=k):bx X k=0:=by
 rw[eI,z9a (zOa h (zta (by omega) (by omega)))];rfl
def ko(X c s j:Nat)(h:j<s):bx (X+c*2^(32*s)) j=bx X j:=by
 rw[eI,eI];congr 1;rw[show 32*s=32*j+(32+32*(s-j-1)) from by omega,zob,zob,show c*(2^(32*j)*(2^32*2^(32*(s-j-1))))=2^(32*j)*(4294967296*(c*2^(32*(s-j-1)))) from by
  rw[show(2:Nat)^32=4294967296 from rfl];ac_rfl,zKb _ _ (zwa _),zed]
def gB(A B i:Nat):Nat:=A%2^(32*i)*B
def nQ(A B i k:Nat):Nat:=gB A B i+(A/2^(32*i)%4294967296)*(B%2^(32*k))*2^(32*i)
def oT(A B i k:Nat):Nat:=nQ A B i k/2^(32*(i+k))-gB A B i/2^(32*(i+k))
def xy(A B i k:Nat):Nat->Int:=uT (i+k) (nQ A B i k) (gB A B i)
def wa(A B i:Nat):nQ A B i 0=gB A B i:=by simp[nQ,z7c]
def vX(A B i:Nat):oT A B i 0=0:=by simp[oT,wa]
def DS(A B i:Nat):xy A B i 0=bx (gB A B i):=by
 funext j;simp[xy,wa,uT]
def v7(A B i k:Nat):nQ A B i (k+1)=nQ A B i k+(A/2^(32*i)%4294967296)*(B/2^(32*k)%4294967296)*2^(32*(i+k)):=by
 unfold nQ;rw[dQ,show 32*(i+k)=32*i+32*k from by omega,zob,zTb,z8a,zzb]
 grind
def JY(A B i k:Nat):gB A B i<=nQ A B i k:=z4c _ _
def xw(A B i k:Nat):oT A B i k+gB A B i/2^(32*(i+k))=nQ A B i k/2^(32*(i+k)):=by
 unfold oT;have:=Nat.div_le_div_right (c:=2^(32*(i+k))) (JY A B i k);omega
theorem zz(A B i k:Nat):nQ A B i (k+1)/2^(32*(i+k))=oT A B i k+gB A B i/2^(32*(i+k))+(A/2^(32*i)%4294967296)*(B/2^(32*k)%4294967296):=by
 rw[v7,z0c _ _ (zwa _),xw]
def tN(A B i k:Nat):oT A B i (k+1)=(oT A B i k+((A/2^(32*i)%4294967296)*(B/2^(32*k)%4294967296)+gB A B i/2^(32*(i+k))%4294967296))/4294967296:=by
 have h1:=xw A B i (k+1);have a:=zz A B i k;have e:∀ X,X/2^(32*(i+(k+1)))=X/2^(32*(i+k))/4294967296:=λX=>by
  rw[show i+(k+1)=i+k+1 from by omega,dn,zUa]
 grind
def AF(a p q z c:Nat):(((a+(p*q+z))%c:Nat):Int)=((a:Int)+((p:Int)*q+z))%(c:Int):=by push_cast;rfl
def DN(A B i k:Nat):((oT A B i (k+1):Nat):Int)=((oT A B i k:Nat)+(bx A i*bx B k+bx (gB A B i) (i+k)))/4294967296:=by
 simp_all [tN,eI]
def xx(A B i k:Nat):oT A B i k<=4294967295:=by
 induction k with
 | zero=>rw[vX];omega
 | succ k ih=>
  rw[tN];have h1:A/2^(32*i)%4294967296<=4294967295:=by omega
  have a:B/2^(32*k)%4294967296<=4294967295:=by omega
  have b:=z1a h1 a;omega
def DP(A B i k:Nat):xy A B i k (i+k)=bx (gB A B i) (i+k):=vU _ _ _
def Gu(A B i k:Nat):bx (nQ A B i (k+1)) (i+k)=((oT A B i k:Nat)+(bx A i*bx B k+bx (gB A B i) (i+k)))%4294967296:=by
 grind [eI,nQ,zz]
def wc{A B i m:Nat}(a:B<2^(32*m)):gB A B (i+1)=nQ A B i m:=by
 grind [gB,nQ,dQ,Nat.mod_eq_of_lt,Nat.add_mul]
def CG{A B i m:Nat}(a:B<2^(32*m)):gB A B i<2^(32*(i+m)):=by
 unfold gB;rw[show 32*(i+m)=32*i+32*m from by omega,zob]
 exact zMc (zRa _ (zwa _)) a
def DT(A B:Nat):gB A B 0=0:=by simp[gB,z7c]
def Gw{A B n:Nat}(a:A<2^(32*n)):gB A B n=A*B:=by unfold gB;rw[zPa a]
def lz(k:Nat):bx 0 k=0:=by simp[bx]
def kp(X a k:Nat):bx (X/2^(32*a)) k=bx X (a+k):=by
 simp_all [eI,zUa,zob,zTb]
def yP(X a k:Nat):bx (X/ns a) k=bx X (a+k):=by rw[c8,kp]
def Gs(a b D c:Nat):(a+b*D)%c=(a+b%c*D)%c:=by
 have h:b*D%c=b%c*D%c:=by simp_all
 simp_all [Nat.add_mod]
def gA(X D k:Nat):Nat:=X%2^(32*k)*D/2^(32*k)
def vZ(X D:Nat):gA X D 0=0:=by simp[gA,z7c]
def xz(X k:Nat){D:Nat}(h:0<D):gA X D k<D:=by
 unfold gA;rw[zSa (zwa _),zLa D];exact zqb (zRa _ (zwa _)) h
def A6(X D k:Nat):gA X D (k+1)=(gA X D k+X/2^(32*k)%4294967296*D)/4294967296:=by
 unfold gA;grind [dQ,dn,Nat.div_div_eq_div_mul,Nat.add_mul,Nat.mul_assoc,Nat.add_mul_div_left]
def vY(X D k:Nat):((gA X D (k+1):Nat):Int)=((gA X D k:Nat)+bx X k*(D:Nat))/4294967296:=by
 simp_all [zVb,Int.add_zero,Int.natCast_zero,Int.cast_ofNat_Int,A6,eI]
def zy(X D k:Nat):bx (X*D) k=((gA X D k:Nat)+bx X k*(D:Nat))%4294967296:=by
 have h:=AF (gA X D k) (X/2^(32*k)%4294967296) D 0 4294967296;simp only[zVb,Int.add_zero,Int.natCast_zero,Int.cast_ofNat_Int] at h;rw[eI,eI];refine Eq.trans (congrArg Nat.cast ?_) h;have e:X*D/2^(32*k)=gA X D k+X/2^(32*k)*D:=by
  grind [gA,Nat.add_mul_div_left,Nat.two_pow_pos,Nat.mul_assoc,Nat.add_mul,iW]
 rw[e,Gs]
def Gt{X D:Nat}(h:X<dM):gA X D 16=X*D/dM:=by
 grind [gA,zM,Nat.mod_eq_of_lt]
def FJ(X n k:Nat)(hn:n<=32):bx (X/2^n) k=(bx X (k+1)*4294967296+bx X k)/((2^n:Nat):Int)%4294967296:=by
 rw[eI,eI,eI,dn,<-zUa,zUa,zLa (2^n),<-zUa];generalize X/2^(32*k)=Y;have e:(((Y/4294967296%4294967296:Nat):Int)*4294967296+((Y%4294967296:Nat):Int))=((Y%(2^n*(2^(32-n)*4294967296)):Nat):Int):=by
  rw[<-z2a,<-zob,show n+(32-n)=32 from by omega,show(2:Nat)^32=4294967296 from rfl]
  omega
 rw[e,<-zpd,Nat.mod_mul_right_div_self];generalize Y/2^n=Z;have h:Z%4294967296=Z%(2^(32-n)*4294967296)%4294967296:=(Nat.mod_mul_left_mod _ _ _).symm;rw[h];exact Int.natCast_emod _ 4294967296
def vP(X k j:Nat):bx (X/2^(32*k)*2^(32*k)) j=if j<k then 0 else bx X j:=by
 have h:=ko 0 (X/2^(32*k)) k j;by_cases hj:j<k
 ·simp_all [z5a,lz]
 ·rw[if_neg hj,show j=k+(j-k) from by omega,<-kp,Nat.mul_div_cancel _ (zwa _),kp]
def fm(X b k:Nat):Nat:=X/2^(32*k)%b
def zU(X k:Nat){b:Nat}(h:0<b):fm X b k<b:=zRa _ h
def s7(X k:Nat):X/2^(32*k)=X/2^(32*(k+1))*4294967296+X/2^(32*k)%4294967296:=by
 rw[dn,<-zUa];omega
def Bn(X b k:Nat):fm X b k=(fm X b (k+1)*4294967296+X/2^(32*k)%4294967296)%b:=by
 unfold fm
 conv=>lhs;rw[s7 X k]
 simp_all [zwc,Gs]
def El(X k:Nat){b:Nat}(a:0<b)(h:b<=4294967295):X/b/2^(32*k)%4294967296=(fm X b (k+1)*4294967296+X/2^(32*k)%4294967296)/b:=by
 have e:X/b/2^(32*k)=X/2^(32*(k+1))/b*4294967296+(fm X b (k+1)*4294967296+X/2^(32*k)%4294967296)/b:=by
  rw[zUa,zLa,<-zUa]
  conv=>lhs;rw[s7 X k]
  unfold fm;generalize X/2^(32*(k+1))=Y;generalize X/2^(32*k)%4294967296=z
  conv=>lhs;rw[show Y*4294967296+z=b*(Y/b*4294967296)+(Y%b*4294967296+z) from by
   have:=zUb Y b
   conv=>lhs;rw[<-this]
   rw[z8a,z2a];omega]
  rw[Nat.mul_add_div a]
 have c:(fm X b (k+1)*4294967296+X/2^(32*k)%4294967296)/b<4294967296:=by
  rw[zSa a];have h1:=zU X (k+1) a;omega
 simp_all
def Ef(X b:Nat):fm X b 0=X%b:=by simp[fm]
structure Heads(W V P T F u v:Nat):Prop where
 w:W/P=T*4294967296+u
 d:V/P=F*4294967296+v
 u:u<4294967296
 v:v<4294967296
 one:1<=F
 pos:0<P
 lt:W<V*4294967296
variable{W V P T F u v:Nat}
def Heads.key{d r:Nat}(h:d*F+r=T):d*(F*4294967296+v)+r*4294967296=T*4294967296+d*v:=by
 grind
def Heads.vpos(H:Heads W V P T F u v):0<V:=by
 rcases zwb V with h|h
 ·have:=H.lt;rw[h] at this;omega
 ·exact h
def Heads.over(H:Heads W V P T F u v){d:Nat}(h:W/P<d*(V/P)):W/V<d:=by
 apply zHc;have h1:W<(W/P+1)*P:=by have:=zUb W P;have:=zRa W H.pos;rw[z8a,zLa (W/P)];omega
 have a:(W/P+1)*P<=d*(V/P)*P:=zDa _ h;have b:d*(V/P)*P<=d*V:=by rw[z2a];exact z4a _ (zfc V P)
 grind
def Heads.under(H:Heads W V P T F u v){d:Nat}(h:d*(V/P)<=W/P)(i:d<4294967296):d<=W/V+1:=by
 rcases zwb d with h0|h0
 ·simp_all
 obtain⟨e,rfl⟩:∃ e,d=e+1:=⟨d-1,by omega⟩
 have g:e<=V/P:=by rw[H.d];have h1:1*4294967296<=F*4294967296:=zDa _ H.one;omega
 have:e<=W/V:=by
  rw[z1b H.vpos];have h1:V<=(V/P+1)*P:=by have:=zUb V P;have:=zRa V H.pos;rw[z8a,zLa (V/P)];omega
  have a:e*V<=e*((V/P+1)*P):=z4a _ h1;have b:e*((V/P+1)*P)<=(e+1)*(V/P)*P:=by
   rw[<-z2a];apply zDa;rw[zTb,z8a];omega
  have c:(e+1)*(V/P)*P<=W/P*P:=zDa _ h;have f:=zfc W P;omega
 omega
def Heads.q_lt(H:Heads W V P T F u v):W/V<4294967296:=zHc (by have:=H.lt;omega)
def Heads.start(H:Heads W V P T F u v):W/V<=T/F:=by
 have h1:W/V<T/F+1:=by
  apply H.over;rw[H.w,H.d];have a:T<(T/F+1)*F:=by have:=zUb T F;have:=zRa T (show 0<F from H.one);rw[z8a,zLa (T/F)];omega
  have b:(T+1)*4294967296<=(T/F+1)*F*4294967296:=zDa _ a;have c:(T/F+1)*F*4294967296<=(T/F+1)*(F*4294967296+v):=by grind
  have e:=H.u;omega
 omega
def Heads.step_big(H:Heads W V P T F u v){d:Nat}(h:4294967296<=d):W/V<=d-1:=Nat.le_sub_one_of_lt (zOa H.q_lt h)
def Heads.step(H:Heads W V P T F u v){d r:Nat}(h:d*F+r=T)(a:r*4294967296+u<d*v):W/V<=d-1/\1<=d:=by
 have h1:W/V<d:=by
  apply H.over;rw[H.w,H.d];grind
 grind
def Heads.t_lt(H:Heads W V P T F u v):T<(F+1)*4294967296:=by
 have h1:W/P*P<=W:=zfc W P;have a:V<(V/P+1)*P:=by have:=zUb V P;have:=zRa V H.pos;rw[z8a,zLa (V/P)];omega
 have e:V*4294967296<(V/P+1)*P*4294967296:=zqb a (by omega)
 have f:=H.lt;have b:W/P*P<(V/P+1)*4294967296*P:=by rw[Nat.mul_right_comm];omega
 have c:W/P<(V/P+1)*4294967296:=Nat.lt_of_mul_lt_mul_right b;rw[H.w,H.d] at c;have g:=H.v;omega
def Heads.done(H:Heads W V P T F u v){d r:Nat}(h:d*F+r=T)(a:4294967296<=r\/(d<4294967296/\d*v<=r*4294967296+u)):d<4294967296/\d<=W/V+1:=by
 have b:d<4294967296:=by
  rcases a with a|a
  ·have h1:=H.t_lt;rw[z8a,zNc] at h1;have c:d*F<4294967296*F:=by omega
   exact Nat.lt_of_mul_lt_mul_right c
  ·exact a.1
 refine⟨b,H.under ?_ b⟩;rw[H.w,H.d];have hk:=Heads.key (v:=v) h;rcases a with a|a
 ·have h1:d*v<=4294967295*4294967295:=z1a (by omega) (by have:=H.v;omega)
  omega
 ·omega
def dg(X k:Nat):Nat:=X/2^(32*k)%4294967296
def pR(X k:Nat):bx X k=(dg X k:Nat):=rfl
def fh(X k:Nat):dg X k<4294967296:=zRa _ (by omega)
def Cb(X k:Nat):dg X k<=4294967295:=Nat.le_of_lt_succ (fh X k)
def oB(X k:Nat):X/2^(32*k)=X/2^(32*(k+1))*4294967296+dg X k:=s7 X k
def jN{X k:Nat}(h:X<2^(32*(k+1))):X/2^(32*k)=dg X k:=by
 rw[oB,z9a h,zrd,z5a]
def F6{U V e j:Nat}(b:V<2^(32*(e+2)))(c:2^(32*(e+1))<=V)(d:U/2^(32*j)<V*4294967296) :
  Heads (U/2^(32*j)) V (2^(32*e)) (dg U (j+e+2)*4294967296+dg U (j+e+1)) (dg V (e+1)) (dg U (j+e)) (dg V e):=by
 have hc:∀ k,U/2^(32*j)/2^(32*k)=U/2^(32*(j+k)):=λk=>by rw[zUa,<-zob,zTb]
 have a:U<2^(32*(j+e+2+1)):=by
  have h1:=(zSa (zwa (32*j))).1 d;have f:V*4294967296*2^(32*j)<2^(32*(e+2))*4294967296*2^(32*j):=zqb (zqb b (by omega)) (zwa _)
  grind
 refine⟨?_,?_,fh _ _,fh _ _,?_,zwa _,d⟩
 ·rw[hc,oB,oB U (j+e+1),jN a]
 ·rw[oB,jN b]
 ·rw[<-jN b];exact(z1b (zwa _)).2 (by rw[zNc];exact c)
def MG(U i k:Nat):dg U i*4294967296+dg U k<=18446744073709551615:=by
 have h1:=Cb U i;have a:=Cb U k;omega
def AT{T F D R:Nat}(h:D*F+R=T)(a:1<=D):(D-1)*F+(R+F)=T:=by
 obtain⟨E,rfl⟩:∃ E,D=E+1:=⟨D-1,by omega⟩
 grind
def uJ{X X' Y k:Nat}(h:X%2^(32*k)=X'%2^(32*k)):bT X Y k=bT X' Y k:=by unfold bT;rw[h]
def eP(U Z j:Nat):Nat:=U%2^(32*j)+Z*2^(32*j)
def D1{U Z j t:Nat}(h:t<j):bx (eP U Z j) t=bx U t:=by
 simp_all [eP,ko,kq]
def Bc(U Z j i:Nat):bx (eP U Z j) (j+i)=bx Z i:=by
 rw[<-kp];unfold eP
 simp_all [z0c,zwa,z9a,zRa,z5a]
def uY(U Z j i:Nat):Nat->Int:=uT (j+i) (eP U Z j) U
def wE(U Z j:Nat):uY U Z j 0=bx U:=by
 funext t;unfold uY uT;split
 ·rename_i h;exact D1 (by omega)
 ·rfl
def mP(U Z j i:Nat):uY U Z j i (j+i)=bx U (j+i):=vU _ _ _
def mr(W Y m:Nat):Nat:=(W+2^(32*m)-Y)%2^(32*m)
def EB{W Y m i:Nat}(a:i<m)(d:Y<=2^(32*m)):bx (mr W Y m) i=(bx W i-bx Y i-(bT W Y i:Nat))%4294967296:=by
 have c:bx (W+2^(32*m)) i=bx W i:=by
  have:=ko W 1 m i a;rwa [zNc] at this
 have b:bT (W+2^(32*m)) Y i=bT W Y i:=uJ (by
  rw[show 32*m=32*i+(32*m-32*i) from by omega,zob,zed])
 unfold mr;rw[kq,if_pos a,Ce (by omega),c,b]
def Hl(W Y m:Nat):mr W Y m<2^(32*m):=zRa _ (zwa _)
def yy{W Y m:Nat}(a:W<2^(32*m))(b:Y<2^(32*m)):bT W Y m=if W<Y then 1 else 0:=by
 simp_all [bT,zPa]
def dL(N V j:Nat):Nat:=N/V%2^(32*j)*V+N%V
def Ee(N V:Nat):dL N V 0=N%V:=by simp[dL,z7c]
def Bl{N V k:Nat}(h:N/V<2^(32*k)):dL N V k=N:=by
 unfold dL;rw[zPa h,zLa];exact zUb N V
def ws(N V j:Nat):dL N V (j+1)=dL N V j+dg (N/V) j*V*2^(32*j):=by
 unfold dL dg;rw[dQ];grind
def xL{N V:Nat}(j:Nat)(h:0<V):dL N V j<V*2^(32*j):=by
 unfold dL;have h1:=zRa (N/V) (zwa (32*j));have a:=zRa N h;have b:(N/V%2^(32*j)+1)*V<=2^(32*j)*V:=zDa _ h1;grind
def oX{N V:Nat}(j:Nat)(h:0<V):dL N V j/2^(32*j)<V:=by
 rw[zSa (zwa _)];exact xL j h
def qu(N V j:Nat):dL N V (j+1)/2^(32*j)=dL N V j/2^(32*j)+V*dg (N/V) j:=by
 rw[ws,z0c _ _ (zwa _),zLa V]
def zT(N V j:Nat):dL N V (j+1)%2^(32*j)=dL N V j%2^(32*j):=by
 rw[ws,Nat.add_mul_mod_self_right]
def GT{N V:Nat}(j:Nat)(h:0<V):dL N V (j+1)/2^(32*j)/V=dg (N/V) j:=by
 simp_all [qu,zKb,z9a,oX,z5a]
def GU{N V:Nat}(j:Nat)(h:0<V):dL N V (j+1)/2^(32*j)<V*4294967296:=by
 rw[zSa (zwa _),z2a,zLa 4294967296,<-dn];exact xL (j+1) h
def Ed{N V n:Nat}(j:Nat)(h:0<V)(a:V<2^(32*n)):dL N V (j+1)<2^(32*(j+n+1)):=by
 have h1:=xL (N:=N) (j+1) h;have b:V*2^(32*(j+1))<2^(32*n)*2^(32*(j+1)):=zqb a (zwa _);grind
def wl{U U' j:Nat}(h:U%2^(32*j)=U'%2^(32*j)):eP U (U'/2^(32*j)) j=U':=by
 unfold eP;rw[h,zLa (U'/2^(32*j)) (2^(32*j))];exact Nat.mod_add_div U' _
def D2(U Z j:Nat):eP U Z j%2^(32*j)=U%2^(32*j):=by
 unfold eP;rw[Nat.add_mul_mod_self_right,Nat.mod_mod]
def DZ(U Z j:Nat):eP U Z j/2^(32*j)=Z:=by
 simp_all [eP,z0c,zwa,z9a,zRa,z5a]
def zK{U Z j m:Nat}(a:Z<2^(32*m)):eP U Z j<2^(32*(j+m)):=by
 have h1:eP U Z j<(Z+1)*2^(32*j):=by unfold eP;have:=zRa U (zwa (32*j));rw[z8a];omega
 have b:(Z+1)*2^(32*j)<=2^(32*m)*2^(32*j):=zDa _ a;grind
variable{N V n:Nat}
def ny(a:V<2^(32*n)):V<2^(32*(n+1)):=zOa a (zta (by omega) (by omega))
def yj{x y B:Nat}(hx:x<B):(x+y+B-y)%B=x:=by
 rw[show x+y+B-y=x+B from by omega,Nat.add_mod_right,zPa hx]
def zW(j:Nat)(h:0<V)(a:V<2^(32*n)) :
  eP (dL N V (j+1)) (mr (dL N V (j+1)/2^(32*j)) (V*dg (N/V) j) (n+1)) j=dL N V j:=by
 have e:mr (dL N V (j+1)/2^(32*j)) (V*dg (N/V) j) (n+1)=dL N V j/2^(32*j):=by
  unfold mr;rw[qu];exact yj (z0b (oX j h) (ny a))
 rw[e,wl (zT N V j)]
def EC(j:Nat)(h:0<V)(a:V<2^(32*n)) :
  mr (dL N V (j+1)/2^(32*j)) (V*(dg (N/V) j+1)) (n+1)=dL N V j/2^(32*j)+2^(32*(n+1))-V:=by
 have h1:=oX (N:=N) j h;have b:=ny a;unfold mr;rw[qu,zTb V (dg (N/V) j) 1,zkd];generalize 2^(32*(n+1))=B at *;generalize dL N V j/2^(32*j)=x at *;generalize V*dg (N/V) j=y;rw[show x+y+B-(y+V)=x+B-V from by omega,zPa (by omega)]
def zX(j:Nat)(h:0<V)(b:V<2^(32*n)){U1:Nat}(a:U1=eP (dL N V (j+1)) (mr (dL N V (j+1)/2^(32*j)) (V*(dg (N/V) j+1)) (n+1)) j) :
  eP U1 ((U1/2^(32*j)+V)%2^(32*(n+1))) j=dL N V j:=by
 have h1:=oX (N:=N) j h;have d:=ny b;have c:(U1/2^(32*j)+V)%2^(32*(n+1))=dL N V j/2^(32*j):=by
  rw[a,DZ,EC j h b];generalize 2^(32*(n+1))=B at *;generalize dL N V j/2^(32*j)=x at *;rw[show x+B-V+V=x+B from by omega,Nat.add_mod_right,zPa (by omega)]
 rw[c,wl (by rw[a,D2,zT])]
end
end Go.Proofs.YtphlmegkommlnaaGreatDoor
