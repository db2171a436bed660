/- Part 10 of the proof that HullOfBoxes answers true at every input -/
import Derived.Test.YtjjjkojfijpeeaaGreatBoxes08
import Derived.Test.YtjjjkojfijpeeaaGreatBoxes09
import Derived.RangeFuncRecord
import Derived.RangeFuncLeaves
import Derived.RangeFuncSeq
import Derived.KernelRfl
set_option linter.unusedVariables false
set_option linter.unusedSimpArgs false
set_option linter.unnecessarySimpa false
section
set_option linter.unusedVariables false
namespace Go.Proofs.YtjjjkojfijpeeaaGreat.Sy
open Go Go.Proofs Go.Proofs.YtjjjkojfijpeeaaGreat.Geo
def gk(q:V×Int)(p:List Nat):D:=.st [aq q.1,I q.2,.sl (ab p)]
def dq(l:List V):D:=.st [cT l]
def HI(l:List V):Prop:=∀ i j,i<j->j<l.length->aB (pt l i) (pt l j)
theorem Cm{l:List V}(hl:∀ x∈l,bd MV x){m:V}{d:Int}(h:IsF (pt l) l.length m d):bd 549755813888 m:=by
 obtain⟨i,j,k,h1,h2,h3,h4,h5,h6⟩:=h.ex
 have hi:=hl _ (ie (show i<l.length by omega))
 have hj:=hl _ (ie (show j<l.length by omega))
 have hk:=hl _ (ie h3)
 have:=ut (ki (zV (P:=pt l) hi hj) (zV (P:=pt l) hi hk))
 rcases h5 with rfl|rfl
 ·exact this
 ·exact yb this
theorem Iy(n:Nat){l:List V}(hl:∀ x∈l,bd MV x)(hlen:l.length<=100)(hs:HI l):∃ (L:List (V×Int)) (poly:V×Int->List Nat),Facets (pt l) l.length L/\(∀ q∈L,aN (pt l) l.length q.1 q.2 (poly q))/\L.length<=2000000 ∧
  cA (n+7) 18 [dq l]=some (.sl (L.map fun q=>gk q (poly q))):=by
 obtain⟨y,h1,K,L,h2,h3,h4,rfl⟩:=Nr n hl hlen
 have hLF:=h2.facets h3 h4
 have hLl:L.length<=2000000:=by rw[h3.length_eq];exact h2.len hlen
 have hex:∀ q:V×Int,∃ p,q∈L->aN (pt l) l.length q.1 q.2 p/\cA (n+6) 46 [cT l,bw q]=some (.sl (ab p)):=fun q=>by
  by_cases hq:q∈L
  ·have hF:=(hLF.mem q).1 hq
   obtain⟨p,k1,k2⟩:=Nn (n+1) hl hlen hs hF (Cm hl hF)
   exact⟨p,fun _=>⟨k1,k2⟩⟩
  ·exact⟨[],fun h=>absurd h hq⟩
 obtain⟨poly,hpoly⟩:∃ poly:V×Int->List Nat,∀ q∈L,aN (pt l) l.length q.1 q.2 (poly q)/\cA (n+6) 46 [cT l,bw q]=some (.sl (ab (poly q))):=⟨fun q=>Classical.choose (hex q),fun q hq=>Classical.choose_spec (hex q) hq⟩
 refine⟨L,poly,hLF,fun q hq=>(hpoly q hq).1,hLl,?_⟩
 have hp:=fun q (hq:q∈L)=>(hpoly q hq).2
 rw[Pr]
 unfold Ju
 refine aa (z:=cT l) rfl (aa h1 (aa (z:=L.map bw) rfl ?_))
 have ll:(L.map bw).length=L.length:=List.length_map ..
 refine br (fun i s=>s=[.sl ((L.take i).map fun q=>gk q (poly q)),I (i:Int)]) L.length 0 (Nat.zero_le _) rfl (fun i hi s hJ=>?_) (fun s hJ=>?_)
 ·subst hJ
  left
  refine⟨_,?_,rfl⟩
  refine aa aj (aa ag (aX (by show((i:Int)<((L.map bw).length:Int));rw[ll];omega) ?_))
  have hg:(L.map bw)[i]?=some (bw L[i]):=by simp[hi]
  refine aa (z:=L.map bw) rfl (aa (z:=i) (by rw[ll];exact aK hi) (aa hg ?_))
  refine aa (z:=aq L[i].1) rfl (aa (z:=I L[i].2) rfl (aa (z:=cT l) rfl (aa (hp L[i] (List.getElem_mem hi)) ?_)))
  rw[if_pos (by simp only[g0,D.els,List.length_map,List.length_take,List.length_cons,List.length_nil];omega)]
  refine aa (aH (aS (i:=i) (by omega))) ?_
  rw[List.take_succ_eq_append_getElem hi,List.map_append]
  rfl
 ·subst hJ
  refine⟨(0,[.sl ((L.take L.length).map fun q=>gk q (poly q))]),?_,?_⟩
  ·refine aa aj (aa ag (ba (by show ¬ ((L.length:Int)<((L.map bw).length:Int));rw[ll];omega) rfl))
  ·rw[List.take_length];rfl
def lz(e:Nat×Nat):D:=.st [I (e.1:Int),I (e.2:Int)]
theorem ES{a b:Nat×Nat}(h:BZ a b):mH [bD (a.1:Int) b.1,bD (a.2:Int) b.2]=-1:=by
 simp only[BZ] at h
 rcases h with h|⟨h1,h⟩
 ·have:(a.1:Int)<b.1:=by omega
  simp[mH,bD,this]
 ·have e:(a.1:Int)=b.1:=by omega
  have:(a.2:Int)<b.2:=by omega
  simp[mH,bD,e,this]
theorem Fc{a b:Nat×Nat}(h:BZ b a):mH [bD (a.1:Int) b.1,bD (a.2:Int) b.2]=1:=by
 simp only[BZ] at h
 rcases h with h|⟨h1,h⟩
 ·have:(b.1:Int)<a.1:=by omega
  simp[mH,bD,this,Int.not_lt.2 (Int.le_of_lt this)]
 ·have e:(a.1:Int)=b.1:=by omega
  have:(b.2:Int)<a.2:=by omega
  simp[mH,bD,e,this,Int.not_lt.2 (Int.le_of_lt this)]
theorem CP(n:Nat)(p q:Nat×Nat):ns (bZ bo (cA (n+3)) (eP bo (cA (n+3)))) 51 (lz p) (lz q)=some (mH [bD (p.1:Int) q.1,bD (p.2:Int) q.2]):=by
 unfold ns
 rw[show(bZ bo (cA (n+3)) (eP bo (cA (n+3)))).call=cA (n+3) from rfl,show lz p=.st [I (p.1:Int),I (p.2:Int)] from rfl,show lz q=.st [I (q.1:Int),I (q.2:Int)] from rfl,PG]
 rfl
theorem GE(n:Nat):∀ (L:List (Nat×Nat)),L.Pairwise BZ->iY (bZ bo (cA (n+3)) (eP bo (cA (n+3)))) 51 (L.map lz)=true
 | [],_=>rfl
 | p::L,h=>by
  obtain⟨h1,h2⟩:=List.pairwise_cons.1 h
  simp only[List.map_cons,iY,Bool.and_eq_true,List.all_eq_true,List.mem_map]
  refine⟨⟨?_,?_⟩,GE n L h2⟩
  ·simp only[zw,CP];simp[mH,bD]
  ·rintro _ ⟨q,hq,rfl⟩
   simp only[j6,zw,CP,ES (h1 q hq),Fc (h1 q hq)];decide
theorem Ey{a b:Nat×Nat}(h:a≠b):BZ a b\/BZ b a:=by
 obtain⟨a1,a2⟩:=a
 obtain⟨b1,b2⟩:=b
 simp only[BZ]
 by_cases h1:a1=b1<;>by_cases h2:a2=b2
 ·subst h1;subst h2;exact absurd rfl h
 all_goals omega
theorem xA:∀ (K:List (Nat×Nat)),K.Nodup->∃ L:List (Nat×Nat),L.Perm K/\L.Pairwise BZ
 | [],_=>⟨[],.refl _,.nil⟩
 | x::K,h=>by
  obtain⟨h1,h2⟩:=List.nodup_cons.1 h
  obtain⟨L,p1,p2⟩:=xA K h2
  have ins:∀ L:List (Nat×Nat),L.Pairwise BZ->(∀ y∈L,x≠y)->∃ M:List (Nat×Nat),M.Perm (x::L)/\M.Pairwise BZ:=by
   intro L
   induction L with
   | nil=>intro _ _;exact⟨[x],.refl _,by simp⟩
   | cons y L ih=>
    intro hp hn
    obtain⟨q1,q2⟩:=List.pairwise_cons.1 hp
    rcases Ey (hn y List.mem_cons_self) with k|k
    ·refine⟨x::y::L,.refl _,List.pairwise_cons.2 ⟨fun z hz=>?_,hp⟩⟩
     rcases List.mem_cons.1 hz with rfl|hz
     ·exact k
     ·have:=q1 z hz;simp only[BZ] at *;omega
    ·obtain⟨M,m1,m2⟩:=ih q2 (fun z hz=>hn z (List.mem_cons_of_mem _ hz))
     refine⟨y::M,(m1.cons y).trans (.swap x y L),List.pairwise_cons.2 ⟨fun z hz=>?_,m2⟩⟩
     rcases List.mem_cons.1 (m1.subset hz) with rfl|hz
     ·exact k
     ·exact q1 z hz
  obtain⟨M,m1,m2⟩:=ins L p2 (fun y hy e=>h1 (p1.subset (e ▸ hy)))
  exact⟨M,m1.trans (p1.cons x),m2⟩
theorem ib{p:List Nat}{k:Nat}(h:k<p.length):(ab p)[k]?=some (I (p.getD k 0:Nat)):=by simp[ab,List.getD,h]
def eM(p:List Nat)(k:Nat):List (Nat×Nat):=(List.range k).filterMap fun k=>if p.getD k 0<p.getD ((k+1)%p.length) 0 then some (p.getD k 0,p.getD ((k+1)%p.length) 0) else none
theorem vM(p:List Nat)(k:Nat):eM p (k+1)=if p.getD k 0<p.getD ((k+1)%p.length) 0 then eM p k++[(p.getD k 0,p.getD ((k+1)%p.length) 0)] else eM p k:=by
 unfold eM
 rw[List.range_succ,List.filterMap_append]
 split
 ·rename_i h;simp only[List.filterMap_cons,List.filterMap_nil,if_pos h]
 ·rename_i h;simp only[List.filterMap_cons,List.filterMap_nil,if_neg h,List.append_nil]
theorem oU(p:List Nat)(k:Nat):(eM p k).length<=k:=by
 unfold eM;exact Nat.le_trans (List.length_filterMap_le _ _) (by simp)
theorem LE(n:Nat){l:List V}{L:List (V×Int)}{poly:V×Int->List Nat}(h18:cA (n+7) 18 [dq l]=some (.sl (L.map fun q=>gk q (poly q))))(hL:L.length<=2000000)(hp:∀ q∈L,(poly q).length<=100/\0<(poly q).length)
  (hnd:(cp L poly).Nodup):∃ E:List (Nat×Nat),E.Perm (cp L poly)/\E.Pairwise BZ/\cA (n+8) 21 [dq l]=some (.sl (E.map lz)):=by
 obtain⟨E,e1,e2⟩:=xA _ hnd
 refine⟨E,e1,e2,?_⟩
 rw[Od]
 unfold H0
 refine aa h18 (aa (z:=L.map fun q=>gk q (poly q)) rfl ?_)
 have ll:(L.map fun q=>gk q (poly q)).length=L.length:=List.length_map ..
 have ub:∀ i,i<=L.length->(cp (L.take i) poly).length<=i*100:=fun i hi=>by
  induction i with
  | zero=>simp[cp]
  | succ i ih=>
   have hi':i<L.length:=by omega
   rw[List.take_succ_eq_append_getElem hi',cp,List.flatMap_append,List.length_append]
   have h1:=ih (by omega)
   simp only[cp] at h1
   have h2:(dX (poly L[i])).length<=100:=Nat.le_trans (oU (poly L[i]) (poly L[i]).length) (hp _ (List.getElem_mem hi')).1
   simp only[List.flatMap_cons,List.flatMap_nil,List.append_nil]
   omega
 refine br (fun i s=>s=[.sl ((cp (L.take i) poly).map lz),I (i:Int)]) L.length 0 (Nat.zero_le _) rfl (fun i hi s hJ=>?_) (fun s hJ=>?_)
 ·subst hJ
  left
  refine⟨_,?_,rfl⟩
  refine aa aj (aa ag (aX (by show((i:Int)<((L.map fun q=>gk q (poly q)).length:Int));rw[ll];omega) ?_))
  have hg:(L.map fun q=>gk q (poly q))[i]?=some (gk L[i] (poly L[i])):=by simp[hi]
  refine aa (z:=L.map fun q=>gk q (poly q)) rfl (aa (z:=i) (by rw[ll];exact aK hi) (aa hg (aa (z:=.sl (ab (poly L[i]))) rfl (aa (z:=ab (poly L[i])) rfl ?_))))
  obtain⟨pl1,pl2⟩:=hp L[i] (List.getElem_mem hi)
  have hM:=ub i (by omega)
  obtain⟨M,hMd⟩:∃ M,M=cp (L.take i) poly:=⟨_,rfl⟩
  rw[<-hMd] at hM ⊢
  have hMn:cp (L.take (i+1)) poly=M++eM (poly L[i]) (poly L[i]).length:=by
   rw[List.take_succ_eq_append_getElem hi,hMd,cp,List.flatMap_append]
   simp[cp,dX,eM]
  rw[hMn]
  generalize poly L[i]=p at *
  refine cV (fun k s=>s=[.sl ((M++eM p k).map lz),I (k:Int)]) p.length 0 (Nat.zero_le _) (by simp[eM,g0,D.els]) (fun k hk s hJ=>?_) (fun s hJ=>?_)
  ·subst hJ
   left
   refine⟨_,?_,rfl⟩
   refine aa aj (aa ag (aX (by show((k:Int)<((ab p).length:Int));rw[ae];omega) ?_))
   have hmod:(k+1)%p.length<p.length:=Nat.mod_lt _ pl2
   have hrem:(((k:Int)+1).tmod (p.length:Int))=(((k+1)%p.length:Nat):Int):=by
    rw[show((k:Int)+1)=((k+1:Nat):Int) by omega];exact Int.ofNat_tmod ..
   refine aa (z:=(0,[.sl ((M++eM p (k+1)).map lz)])) ?_ (aa (aH (aS (i:=k) (by omega))) rfl)
   refine aa (z:=ab p) rfl (aa (z:=k) (by rw[ae];exact aK hk) (aa (ib hk) (aa (z:=.sl (ab p)) rfl (aa (aH (aS (i:=k) (by omega))) (aa (z:=.sl (ab p)) rfl (aa (z:=ab p) rfl ?_))))))
   refine aa (z:=I (((k+1)%p.length:Nat):Int)) (by rw[show((ab p).length:Int)=(p.length:Int) by rw[ae],lK (by omega),hrem]) ?_
   refine aa (z:=ab p) rfl (aa (z:=(k+1)%p.length) (by rw[ae];exact aK hmod) (aa (ib hmod) (aa aj (aa ag ?_))))
   rw[vM]
   have hel:=oU p k
   by_cases hab:p.getD k 0<p.getD ((k+1)%p.length) 0
   ·refine aX (by show((p.getD k 0:Nat):Int)<((p.getD ((k+1)%p.length) 0:Nat):Int);omega) ?_
    rw[if_pos hab,if_pos (by simp only[g0,D.els,List.length_map,List.length_append,List.length_cons,List.length_nil];omega)]
    simp[g0,D.els,lz]
   ·refine ba (by show ¬ ((p.getD k 0:Nat):Int)<((p.getD ((k+1)%p.length) 0:Nat):Int);omega) ?_
    rw[if_neg hab];rfl
  ·subst hJ
   refine⟨(0,[.sl ((M++eM p p.length).map lz)]),?_,?_⟩
   ·refine aa aj (aa ag (ba (by show ¬ ((p.length:Int)<((ab p).length:Int));rw[ae];omega) rfl))
   ·exact aa (aH (aS (i:=i) (by omega))) rfl
 ·subst hJ
  refine⟨(0,[.sl ((cp (L.take L.length) poly).map lz)]),?_,?_⟩
  ·refine aa aj (aa ag (ba (by show ¬ ((L.length:Int)<((L.map fun q=>gk q (poly q)).length:Int));rw[ll];omega) rfl))
  ·have hu:=ub L.length (Nat.le_refl _)
   rw[List.take_length] at hu ⊢
   refine aa (z:=(cp L poly).map lz) ?_ (aa (qS (GE (n+4) E e2) (e1.symm.map _)) rfl)
   exact aX (by show((cp L poly).map lz).length<=1073741824;rw[List.length_map];omega) rfl
end Go.Proofs.YtjjjkojfijpeeaaGreat.Sy
end
section
set_option linter.unusedVariables false
namespace Go.Proofs.YtjjjkojfijpeeaaGreat.Sy
open Go Go.Proofs
def dS(nt:Nat)(lk:List Nat)(f:Nat->AV):St:={ tm:=f,ob:=fun _=>none,fresh:=0,dead:=[],nt:=nt,lkS:=lk,lkO:=[] }
section
variable{P:Program}{E:Env}{w0:Root}{S S':Nat->Nat->Prop}{γ:Nat->Option Nat}{β:Nat->Option (Nat×Nat)}{s:St}{a:Act}{w w':World}
theorem Cr(hS:∀ b o,S b o->b<w.heap.size){nt:Nat}{lk:List Nat}{f:Nat->AV}(hsz:a.tmps.size=nt)(hdf:a.defers=[])
  (hf:∀ t,t<nt->AR ⟨w,S,fun _=>none,fun _=>none,fun _=>none,[]⟩ (f t) (a.tmps.getD t undef)) (hu:∀ t,nt<=t->f t=.undef):Rp (cq w S) S (fun _=>none) (fun _=>none) (dS nt lk f) a w:=
 ⟨⟨rfl,rfl,rfl,Nat.le_refl _,Nat.le_refl _,fun _ _=>rfl⟩,fun t ht=>hf t (by rw[<-hsz];exact ht),hsz,hu,fun id o b ho=>(by cases ho),fun id b hb=>(by cases hb),fun id id' b hb=>(by cases hb),fun _ _=>rfl,fun v b e _ hb=>(by cases hb),fun v v' b e e' _ _ hb=>(by cases hb),fun v id b e _ hb=>(by cases hb),fun _ _=>rfl,hS,fun b o hb _=>hb,hdf⟩
theorem Rp.slot(h:Rp w0 S γ β s a w){t:Nat}{x:AV}(hx:s.tm t=x)(hne:x≠.undef):t<a.tmps.size/\AR ⟨w,S,γ,β,s.ob,s.dead⟩ x (a.tmps.getD t undef):=by
 have ht:t<s.nt:=by
  rcases Nat.lt_or_ge t s.nt with k|k
  ·exact k
  ·rw[h.tmu t k] at hx;exact absurd hx.symm hne
 have:=h.tms t (by rw[h.nt];exact ht)
 rw[hx] at this
 exact⟨by rw[h.nt];exact ht,this⟩
theorem zD{c:Cx}{t:Ty}{x:D}{v:Value}(hc:aW t=true)(hl:gD x=true)(h:AR c (.d t x) v):v=bf x:=by
 simp only[AR] at h
 rcases h with⟨_,_,h1,h2⟩|⟨ts,rfl,_⟩
 ·have:D.flat x=[x]:=by cases x<;>simp only[gD] at hl<;>first|(cases hl;done)|rfl
  rw[this] at h2
  have h3:=(bq (ds:=[x]) (by intro d hd;rw[List.mem_singleton.1 hd];exact hl)).1 h2
  have hs:∀ cs,v≠.agg cs:=by
   cases x<;>simp only[gD] at hl<;>first|(cases hl;done)|exact h1
  exact ao hs h3
 ·simp[aW] at hc
def nZ(s:St):List (Nat×Ty)->Option (List D)
 | []=>some []
 | (t,ty)::l=>match s.tm t with
  | .d ty' x=>if ty'.beq ty&&gD x then(nZ s l).bind fun r=>some (x::r) else none
  | _=>none
theorem rq:∀ {l:List (Nat×Ty)} {xs:List D},nZ s l=some xs->∀ (i t:Nat) (ty:Ty) (x:D),l[i]?=some (t,ty)->xs[i]?=some x->s.tm t=.d ty x/\gD x=true
 | [],xs,h,i,t,ty,x,hi,_=>by simp at hi
 | (t0,ty0)::l,xs,h,i,t,ty,x,hi,hx=>by
  simp only[nZ] at h
  split at h<;>first|(cases h;done)|skip
  rename_i ty' x' htm
  split at h<;>first|(cases h;done)|skip
  rename_i hc
  simp only[Bool.and_eq_true] at hc
  have he:=Ty.eq_of_beq _ _ hc.1
  subst he
  obtain⟨r,h1,h2⟩:=bind_some_inv h
  cases h2
  cases i with
  | zero=>simp at hi hx;obtain⟨rfl,rfl⟩:=hi;subst hx;exact⟨htm,hc.2⟩
  | succ i=>exact rq h1 i t ty x (by simpa using hi) (by simpa using hx)
theorem Rp.word(h:Rp w0 S γ β s a w){l:List (Nat×Ty)}{xs:List D}(hs:nZ s l=some xs){i t:Nat}{ty:Ty}{x:D}(hi:l[i]?=some (t,ty))(hx:xs[i]?=some x)(hc:aW ty=true):a.tmps.getD t undef=bf x:=by
 obtain⟨h1,h2⟩:=rq hs i t ty x hi hx
 exact zD hc h2 (h.slot h1 (by simp)).2
end
theorem dF.trans{r:Root}{w w':World}{S:Nat->Nat->Prop}(h:dF r w)(k:dF (cq w S) w'):dF r w':=
 ⟨k.tape.trans h.tape,k.os.trans h.os,k.output.trans h.output,Nat.le_trans h.sz k.sz,Nat.le_trans h.dr k.dr,fun b hb=>(k.old b ⟨Nat.lt_of_lt_of_le hb.1 h.sz,fun hf=>hf⟩).trans (h.old b hb)⟩
theorem wG{w W:World}{S0 S:Nat->Nat->Prop}(h:dF (cq w S0) W)(hS:∀ b o,S b o->b<w.heap.size):∀ b o,S b o->W.cell? ⟨b,o,none⟩=w.cell? ⟨b,o,none⟩:=fun b o hb=>by
 have:=h.old b ⟨hS b o hb,fun hf=>hf⟩
 simp only[World.cell?,this];rfl
abbrev i64(n:Int):Value:=.int .i64 n
def sd(e:Ty)(l:List D)(k:Nat)(lk:List Nat):St:=dS 16 lk (fun i=>if i=5 then .d (.sl e) (.sl l) else if i=6 then .d (.int .i64) (.int .i64 (l.length:Nat)) else if i=7 then .d (.int .i64) (.int .i64 (k:Nat)) else .undef)
def kW(l:List (Nat×Ty))(e:Ex)(s:St):Option D:=match e with|.normal=>(nZ s l).bind fun r=>some (.tup r)|_=>none
def BN(e:Ty)(x:Ex)(s:St):Option D:=match x with
 | .normal=>match s.tm 4 with
  | .ptr t id []=>match s.ob id with
   | some (.one t' (.d t'' y))=>if t.beq e&&t'.beq e&&t''.beq e then some y else none
   | _=>none
  | _=>none
 | _=>none
theorem uM{l:List (Nat×Ty)}{x:Ex}{s:St}{r:List D}(h:kW l x s=some (.tup r)):x=.normal/\nZ s l=some r:=by
 unfold kW at h
 split at h<;>first|(cases h;done)|skip
 obtain⟨r',h1,h2⟩:=bind_some_inv h
 cases h2
 exact⟨rfl,h1⟩
theorem CF{e:Ty}{x:Ex}{s:St}{y:D}(h:BN e x s=some y):x=.normal/\∃ id,s.tm 4=.ptr e id []/\s.ob id=some (.one e (.d e y)):=by
 unfold BN at h
 split at h<;>first|(cases h;done)|skip
 split at h<;>first|(cases h;done)|skip
 rename_i t id htm
 split at h<;>first|(cases h;done)|skip
 rename_i t' t'' y' hob
 split at h<;>first|(cases h;done)|skip
 rename_i hc
 simp only[Bool.and_eq_true] at hc
 cases h
 have e1:=Ty.eq_of_beq _ _ hc.1.1;have e2:=Ty.eq_of_beq _ _ hc.1.2;have e3:=Ty.eq_of_beq _ _ hc.2
 subst e1;subst e2;subst e3
 exact⟨rfl,id,htm,hob⟩
theorem cw{a:Act}{t:Nat}{v:Value}(h:t<a.tmps.size):(a.put (some t) v).tmps.getD t undef=v:=by
 simp[Act.put,Array.getD,h]
theorem db{a:Act}{t u:Nat}{v:Value}(h:u≠t):(a.put (some u) v).tmps.getD t undef=a.tmps.getD t undef:=bK (fun e=>h (by cases e;rfl))
theorem aT{a:Act}{d:Option Nat}{v:Value}:(a.put d v).defers=a.defers:=by cases d<;>rfl
theorem ml{n:Int}(h1:0<=n)(h2:n<9223372036854775807):IntKind.wrap .i64 n=n:=by
 simp only[IntKind.wrap,IntKind.signed,IntKind.bits]
 first
  | omega
  | (simp;omega)
theorem gB{P:Program}{ro:Option Nat}{nn:Nat}{ops:Array Oper}{o:Oper}{rest:List Oper}{a:Act}{w:World}{K:Value->World->Prop}{Q:Exit->Act->World->Prop}(hg:o.guard=none)(h:cD P o a w K)
  (hk:∀ v w',K v w'->wpListIn (FW ro) nn P ops Q rest (a.put o.dst v) w'):wpListIn (FW ro) nn P ops Q (o::rest) a w:=by
 simp only[wpListIn,Region.wanted,hg,if_true]
 exact be h hk
theorem C0{P:Program}{ro:Option Nat}{nn:Nat}{ops:Array Oper}{o:Oper}{rest:List Oper}{a:Act}{w:World}{Q:Exit->Act->World->Prop}(hg:o.guard=none)(h:o.wpIn (FW ro) nn P a w (wpListIn (FW ro) nn P ops Q rest) Q):wpListIn (FW ro) nn P ops Q (o::rest) a w:=by
 simp only[wpListIn,Region.wanted,hg,if_true]
 exact h
set_option maxHeartbeats 1000000 in
theorem Dg{P:Program}{E:Env}(hE:EnvOk P E){nn:Nat}{e:Ty}(hce:aW e=true)(hne:af e=true){l:List D}(hwt:∀ x∈l,wt e x)(hlen:l.length<=1073741824){w:World}{S S0:Nat->Nat->Prop}(hS:∀ b o,S b o->b<w.heap.size)
  {f151 L B:Nat} {fn:Func} {sv:Value} (hB:∀ W,dF (cq w S0) W->W.cell? ⟨B,0,none⟩=some sv) (hsv:CR w S (.sl l) sv) (J:Nat->World->Prop) (hJe:∀ k W,J k W->dF (cq w S0) W) (hJ:∀ k W os d,J k W->W.drawn<=d->J k (aw W os d))
  (hY:∀ k x W v,l[k]?=some x->J k W->(∀ c:Cx,AR c (.d e x) v)->YieldAt (FW none) (nn-1) P L #[v] W fun en W'=>en=.returned (.bool true)/\J (k+1) W')
  (hfn:P.funcs[f151]?=some fn) {i0 i1 i2 i3 i4 b0 b1:Nat} {R0 R1 R2 R3 R4:Array Oper} (hbody:fn.body=some (.seq (.region i0 R0 false) (.block b0 (.loop (.seq (.region i1 R1 false) (.seq (.cond (.tmp 8) .skip (.exit b0)) (.seq (.block b1 (.seq (.region i2 R2 false) (.seq (.region i3 R3 false) (.cond (.tmp 14) .ret .skip)))) (.region i4 R4 false))))))))
  (hnt:fn.ntmps=16) (hres:fn.results=#[])
  {Ts Te:Nat} (hTs:E.L Ts=some (.sl e)) (hTe:E.L Te=some e) {y1 y11 y12 y13 y14:TypeId} {p1 p11 p12 p13 p14:String} {f1 f11 f12 f13 f14:Array Edge} {rest0:List Oper} {ats:Array TypeId} {Tb:TypeId}
  (hR0:R0.toList=⟨some 5,.load Ts (.tmp 1),y1,p1,f1,none⟩::rest0) (hr0:∀ x∈rest0,x.guard=none)
  (hR3:R3.toList=[⟨some 11,.move (.tmp 0),y11,p11,f11,none⟩,⟨some 12,.load Te (.tmp 4),y12,p12,f12,none⟩,⟨some 13,.call ⟨.value (.tmp 11),#[.tmp 12],ats⟩,y13,p13,f13,none⟩,⟨some 14,.unOp .not Tb (.tmp 13),y14,p14,f14,none⟩])
  (hv0:ev E (.region 0 rest0.toArray false) .leaf D (dS 16 [0,5] (fun i=>if i=5 then .d (.sl e) (.sl l) else .undef)) (kW [(6,.int .i64),(7,.int .i64)])=some (.tup [.int .i64 (l.length:Nat),.int .i64 0]))
  (hv1:∀ k:Nat,ev E (.region i1 R1 false) .leaf D (sd e l k [0,5,6,7]) (kW [(7,.int .i64),(8,.bool)])=some (.tup [.int .i64 (k:Nat),.bool (decide ((k:Int)<(l.length:Nat)))]))
  (hv2:∀ k:Nat,ev E (.region i2 R2 false) .leaf D (sd e l k [0,5,6,7]) (BN e)=(D.idx (.int .i64 (k:Nat)) l.length).bind fun i=>l[i]?)
  (hv4:∀ k:Nat,ev E (.region i4 R4 false) .leaf D (sd e l k [0,5,6]) (kW [(7,.int .i64)])=(D.bin .add (.int .i64 (k:Nat)) (.int .i64 1)).bind fun x=>some (.tup [x]))
  {W0:World} (h0:J 0 W0):CallsIn (FW none) nn P f151 #[.func (.yield L) #[] #[],.pointer (some ⟨B,0,none⟩)] W0 fun en W'=>(∃ v,en=.returned v)/\J l.length W':=by
 refine callsIn_of_wp hfn hbody trivial ?_
 generalize ha0:Act.mk _ _=a0
 have hsz0:a0.tmps.size=16:=by rw[<-ha0];simp[hnt]
 have e0:a0.tmps.getD 0 undef=.func (.yield L) #[] #[]:=by rw[<-ha0,hnt];rfl
 have e1:a0.tmps.getD 1 undef=.pointer (some ⟨B,0,none⟩):=by rw[<-ha0,hnt];rfl
 have hd0:a0.defers=[]:=by rw[<-ha0]
 clear ha0
 have hcr:∀ W,dF (cq w S0) W->CR W S (.sl l) sv:=fun W hW=>hsv.mono (wG hW hS) fun _ _ hb=>hb
 obtain⟨ad,cap,svb,svo,rfl,_,_,_⟩:=hsv.elems
 have ARsv:∀ (W:World),dF (cq w S0) W->AR ⟨W,S,fun _=>none,fun _=>none,fun _=>none,[]⟩ (.d (.sl e) (.sl l)) (.slice ad l.length cap):=fun W hW=>.inl ⟨by simp only[af];exact hne,⟨l,rfl,hwt⟩,jQ (hcr W hW)⟩
 have hSW:∀ (W:World),dF (cq w S0) W->∀ b o,S b o->b<W.heap.size:=fun W hW b o hb=>Nat.lt_of_lt_of_le (hS b o hb) hW.sz
 have ARint:∀ (c:Cx) (n:Int),AR c (.d (.int .i64) (.int .i64 n)) (.int .i64 n):=fun c n=>.inl ⟨rfl,⟨n,rfl⟩,fun _ h=>(by cases h),(bq (ds:=[.int .i64 n]) (by intro d hd;rw[List.mem_singleton.1 hd];rfl)).2 rfl⟩
 have hX0:=hJe 0 W0 h0
 have lay:=fun T t h=>(hE.lay T t h).resolve_left
 refine wpIn_seq (wpIn_region_list ?_)
 rw[hR0]
 have hls:bh P (.sl e) Ts=true:=(hE.lay Ts _ hTs).resolve_left (by rintro⟨ts,h⟩;cases h)
 obtain⟨v5,hrun5,hv5⟩:=dO (P:=P) hls (w:=W0) (b:=B) (off:=0) (cs:=[.slice ad l.length cap]) rfl (by intro v hv;rw[List.mem_singleton.1 hv];rfl) (fun i c hi=>by
  cases i with
  | zero=>simp at hi;subst hi;exact hB W0 hX0
  | succ i=>simp at hi)
 have hv5':v5=.slice ad l.length cap:=ao (hv5.2.2 rfl) hv5.1
 subst hv5'
 refine gB (K:=fun v w1=>v=.slice ad l.length cap/\W0=w1) rfl (cD.value (dL (m:=Instr.loadAt Ts (.pointer (some ⟨B,0,none⟩))) ?_ hrun5) ⟨rfl,rfl⟩) ?_
 ·show(Instr.loadAt Ts (a0.eval (.tmp 1)) >>= fun r=>pure (Next.value r))=_
  rw[show a0.eval (.tmp 1)=.pointer (some ⟨B,0,none⟩) from e1]
 rintro _ _ ⟨rfl,rfl⟩
 obtain⟨a1,ha1⟩:∃ a1,a0.put (some 5) (.slice ad l.length cap)=a1:=⟨_,rfl⟩
 have q1:a1.tmps.size=16:=by rw[<-ha1,al];exact hsz0
 have q2:a1.tmps.getD 0 undef=.func (.yield L) #[] #[]:=by rw[<-ha1,db (by decide)];exact e0
 have q3:a1.tmps.getD 5 undef=.slice ad l.length cap:=by rw[<-ha1];exact cw (by rw[hsz0];decide)
 have q4:a1.defers=[]:=by rw[<-ha1,aT];exact hd0
 show wpListIn (FW none) nn P R0 _ rest0 (a0.put (some 5) (.slice ad l.length cap)) W0
 rw[ha1]
 clear ha1 e0 e1 hd0 hsz0
 refine mh (ops:=rest0.toArray) rest0 _ _ hr0 ?_
 have RA:=Cr (lk:=[0,5]) (f:=fun i=>if i=5 then .d (.sl e) (.sl l) else .undef) (hSW _ hX0) q1 q4 (fun t ht=>by
  by_cases h5:t=5
  ·subst h5;rw[if_pos rfl,q3];exact ARsv _ hX0
  ·rw[if_neg h5];simp only[AR]) (fun t ht=>by rw[if_neg (by omega)])
 have key:=Ar (ro:=none) (nn:=nn) hE (Q:=Exit.then ((Code.block b0 (.loop (.seq (.region i1 R1 false) (.seq (.cond (.tmp 8) .skip (.exit b0)) (.seq (.block b1 (.seq (.region i2 R2 false) (.seq (.region i3 R3 false) (.cond (.tmp 14) .ret .skip)))) (.region i4 R4 false)))))).wpIn (FW none) nn P (bodyPost P fn fun en W'=>(∃ v,en=.returned v)/\J l.length W')) (bodyPost P fn fun en W'=>(∃ v,en=.returned v)/\J l.length W')) RA hv0 ?_
 ·simpa using key
 clear RA
 intro x s' S' γ' β' a2 w2 g1 g2 g3 g4
 obtain⟨rfl,g5⟩:=uM g4
 obtain⟨os,dd,hdd,rfl⟩:=bQ g1.ext (fun _ hf=>hf)
 have hJ2:=hJ 0 _ os dd h0 hdd
 have w6:=g1.word g5 (i:=0) (t:=6) rfl rfl rfl
 have w7:=g1.word g5 (i:=1) (t:=7) rfl rfl rfl
 have w0':a2.tmps.getD 0 undef=.func (.yield L) #[] #[]:=(g2.slots 0 (by simp[dS])).trans q2
 have w5:a2.tmps.getD 5 undef=.slice ad l.length cap:=(g2.slots 5 (by simp[dS])).trans q3
 have hsz2:a2.tmps.size=16:=by rw[g1.nt,g3.nt];rfl
 have hdf2:=g1.df
 clear g1 g2 g3 g4 g5 q1 q2 q3 q4
 show Code.wpIn (FW none) nn P _ _ a2 (aw W0 os dd)
 refine wpIn_block ?_
 refine jo (m:=l.length) (fun m a W=>∃ k,m+k=l.length/\J k W/\a.tmps.size=16/\a.defers=[]/\a.tmps.getD 0 undef=.func (.yield L) #[] #[]/\a.tmps.getD 5 undef=.slice ad l.length cap/\a.tmps.getD 6 undef=.int .i64 (l.length:Nat)/\a.tmps.getD 7 undef=.int .i64 (k:Nat))
  ⟨0,rfl,hJ2,hsz2,hdf2,w0',w5,w6,w7⟩ ?_
 clear w0' w5 w6 w7 hsz2 hdf2 hJ2 hdd
 rintro m a W ⟨k,hmk,hJk,c1,c2,c3,c4,c5,c6⟩
 have hX:=hJe k W hJk
 have mk:∀ (a:Act) (W:World) (lk:List Nat),dF (cq w S0) W->a.tmps.size=16->a.defers=[]->a.tmps.getD 5 undef=.slice ad l.length cap->a.tmps.getD 6 undef=.int .i64 (l.length:Nat)->a.tmps.getD 7 undef=.int .i64 (k:Nat)->Rp (cq W S) S (fun _=>none) (fun _=>none) (sd e l k lk) a W:=fun a W lk hX c1 c2 c4 c5 c6=>
  Cr (hSW W hX) c1 c2 (fun t ht=>by
   by_cases h5:t=5
   ·subst h5;rw[if_pos rfl,c4];exact ARsv W hX
   ·rw[if_neg h5]
    by_cases h6:t=6
    ·subst h6;rw[if_pos rfl,c5];exact ARint _ _
    ·rw[if_neg h6]
     by_cases h7:t=7
     ·subst h7;rw[if_pos rfl,c6];exact ARint _ _
     ·rw[if_neg h7];simp only[AR]) (fun t ht=>by rw[if_neg (by omega),if_neg (by omega),if_neg (by omega)])
 refine wpIn_seq (em hE _ .leaf D _ _ (mk a W _ hX c1 c2 c4 c5 c6) (hv1 k) fun x s' S' γ' β' a3 w3 g1 g2 g3 g4=>?_)
 obtain⟨rfl,g5⟩:=uM g4
 obtain⟨os3,d3,hd3,rfl⟩:=bQ g1.ext (fun _ hf=>hf)
 have hJ3:=hJ k _ os3 d3 hJk hd3
 have hX3:=hJe k _ hJ3
 have w7:=g1.word g5 (i:=0) (t:=7) rfl rfl rfl
 have w8:=g1.word g5 (i:=1) (t:=8) rfl rfl rfl
 have w0':a3.tmps.getD 0 undef=.func (.yield L) #[] #[]:=(g2.slots 0 (by simp[sd,dS])).trans c3
 have w5:a3.tmps.getD 5 undef=.slice ad l.length cap:=(g2.slots 5 (by simp[sd,dS])).trans c4
 have w6:a3.tmps.getD 6 undef=.int .i64 (l.length:Nat):=(g2.slots 6 (by simp[sd,dS])).trans c5
 have hsz3:a3.tmps.size=16:=by rw[g1.nt,g3.nt];rfl
 have hdf3:=g1.df
 clear g1 g2 g3 g4 g5
 simp only[u9,Exit.then]
 by_cases hk:k<l.length
 rotate_left
 ·
  have hkl:k=l.length:=by omega
  subst hkl
  refine wpIn_seq (wpIn_cond_false (w8.trans (by rw[decide_eq_false (by omega)];rfl)) (wpIn_exit ?_))
  simp only[Exit.then,Exit.inBlock,if_true]
  exact⟨hdf3,_,results_none hres _ _ _,⟨_,rfl⟩,hJ3⟩
 refine wpIn_seq (wpIn_cond_true (w8.trans (by rw[decide_eq_true (by omega)];rfl)) (wpIn_skip ?_))
 simp only[Exit.then]
 have hx:=List.getElem?_eq_getElem hk
 obtain⟨x,hxd⟩:∃ x,l[k]=x:=⟨_,rfl⟩
 rw[hxd] at hx
 have hv2':ev E (.region i2 R2 false) .leaf D (sd e l k [0,5,6,7]) (BN e)=some x:=by
  rw[hv2 k]
  simp only[D.idx]
  rw[if_pos (by omega)]
  simpa using hx
 refine wpIn_seq (wpIn_block (wpIn_seq (em hE _ .leaf D _ _ (mk a3 _ _ hX3 hsz3 hdf3 w5 w6 w7) hv2' fun y s' S' γ' β' a4 w4 g1 g2 g3 g4=>?_)))
 obtain⟨rfl,id,g5,g6⟩:=CF g4
 obtain⟨os4,d4,hd4,hw4⟩:=bQ g1.ext (fun _ hf=>hf)
 have hJ4:=hJ k _ os4 d4 hJ3 hd4
 have v0:a4.tmps.getD 0 undef=.func (.yield L) #[] #[]:=(g2.slots 0 (by simp[sd,dS])).trans w0'
 have v5:a4.tmps.getD 5 undef=.slice ad l.length cap:=(g2.slots 5 (by simp[sd,dS])).trans w5
 have v6:a4.tmps.getD 6 undef=.int .i64 (l.length:Nat):=(g2.slots 6 (by simp[sd,dS])).trans w6
 have hsz4:a4.tmps.size=16:=by rw[g1.nt,g3.nt];rfl
 have v7:a4.tmps.getD 7 undef=.int .i64 (k:Nat):=(g2.slots 7 (by simp[sd,dS])).trans w7
 have hnt4:s'.nt=16:=by rw[g3.nt];rfl
 have hlk4:s'.lkS=[0,5,6,7]:=g3.lkS
 have hdf4:=g1.df
 clear g2 g4
 simp only[u9,Exit.then]
 refine wpIn_seq (wpIn_region_list ?_)
 rw[hR3]
 refine gB (K:=fun v w1=>v=.func (.yield L) #[] #[]/\w4=w1) rfl (cD.value (v:=a4.eval (.tmp 0)) (w':=w4) rfl ⟨v0,rfl⟩) ?_
 rintro _ _ ⟨rfl,rfl⟩
 have R5:=g1.put (v:=.undef) (val:=.func (.yield L) #[] #[]) (by simp[AR]) (some 11)
 have pf:=St.put_fields s' (some 11) .undef
 have hev:nP E (s'.put (some 11) .undef) ⟨some 12,.load Te (.tmp 4),y12,p12,f12,none⟩ some=some ((s'.put (some 11) .undef).put (some 12) (.d e x)):=by
  have t4:(s'.put (some 11) .undef).tm 4=.ptr e id []:=(qZ (by simp)).trans g5
  have hee:e.beq e=true:=Ty.beq_refl' e
  simp only[nP,qv,hTe,Option.bind_some,St.opA,t4,hee,if_true,pf.1,g6,gt,ss]
 obtain⟨s5,k1,k2⟩:=vH hE R5 (o:=⟨some 12,.load Te (.tmp 4),y12,p12,f12,none⟩) (vz rfl) (fun T t h=>by rcases h with h|⟨y,h⟩<;>cases h) (fun t ht=>by rw[pf.2.2.2.2.1,hlk4] at ht;intro h;cases h;simp at ht) (fun T x y h=>by cases h) hev
 cases k1
 obtain⟨_,_,_,_,_,r6⟩:=k2
 refine gB rfl r6 ?_
 rintro v w5 ⟨S5,γ5,β5,m1,m2,_⟩
 have hax:=(m1.slot (t:=12) (x:=.d e x) (kG (by rw[pf.2.2.2.1,hnt4];decide)) (by simp)).2
 have hsz5:(a4.put (some 11) (.func (.yield L) #[] #[])).tmps.size=16:=by rw[al];exact hsz4
 rw[show((a4.put (some 11) (.func (.yield L) #[] #[])).put (some 12) v).tmps.getD 12 undef=v from cw (by rw[hsz5];decide)] at hax
 have ARx:∀ c:Cx,AR c (.d e x) v:=fun c=>by
  simp only[AR] at hax ⊢
  rcases hax with⟨z1,z2,z3⟩|⟨ts,rfl,_⟩
  ·exact .inl ⟨z1,z2,pE hce z2 z3⟩
  ·simp[aW] at hce
 obtain⟨os5,d5,hd5,hw5⟩:=bQ m1.ext (fun _ hf=>hf)
 have hJ5:J k w5:=by rw[hw5];exact hJ k _ os5 d5 hJ3 hd5
 obtain⟨a5,ha5⟩:∃ a5,(a4.put (some 11) (.func (.yield L) #[] #[])).put (some 12) v=a5:=⟨_,rfl⟩
 have KU:a5.tmps.getD 11 undef=.func (.yield L) #[] #[]:=by rw[<-ha5,db (by decide)];exact cw (by rw[hsz4];decide)
 have u12:a5.tmps.getD 12 undef=v:=by rw[<-ha5];exact cw (by rw[hsz5];decide)
 have u:∀ t,t≠11->t≠12->a5.tmps.getD t undef=a4.tmps.getD t undef:=fun t h1 h2=>by rw[<-ha5,db (Ne.symm h2),db (Ne.symm h1)]
 have usz:a5.tmps.size=16:=by rw[<-ha5,al];exact hsz5
 have udf:a5.defers=[]:=by rw[<-ha5,aT,aT];exact hdf4
 show wpListIn (FW none) nn P R3 _ _ ((a4.put (some 11) (.func (.yield L) #[] #[])).put (some 12) v) w5
 rw[ha5]
 clear ha5 m1 m2 r6 hev R5 g1 hax
 obtain⟨fn',tmps',as',bd',hy,hR⟩:=hY k x w5 v hx hJ5 ARx
 refine C0 rfl ⟨fun _ _=>trivial,?_⟩
 have hrun:((⟨some 13,.call ⟨.value (.tmp 11),#[.tmp 12],ats⟩,y13,p13,f13,none⟩:Oper).semAt (FW none).round a5.eval).run P w5=.ok (.round L fn' tmps' as' bd') w5:=by
  have e11:a5.eval (.tmp 11)=.func (.yield L) #[] #[]:=KU
  have e12:a5.eval (.tmp 12)=v:=u12
  show(execOp a5.eval ⟨some 13,.call ⟨.value (.tmp 11),#[.tmp 12],ats⟩,y13,p13,f13,none⟩).run P w5=_
  simp only[execOp,resolve,e11,e12,List.map_toArray,List.map_cons,List.map_nil]
  simpa [Deferred.ofValue,invoke,go_sem] using hy
 rw[hrun]
 simp only[Oper.uponIn]
 refine⟨fun h=>(by cases h),hR.mono ?_⟩
 rintro en w6 ⟨rfl,hJ6⟩
 have hX6:=hJe _ _ hJ6
 obtain⟨a6,ha6⟩:∃ a6,a5.put (some 13) (.bool true)=a6:=⟨_,rfl⟩
 have t13:a6.tmps.getD 13 undef=.bool true:=by rw[<-ha6];exact cw (by rw[usz];decide)
 have tt:∀ t,t≠13->a6.tmps.getD t undef=a5.tmps.getD t undef:=fun t h=>by rw[<-ha6,db (Ne.symm h)]
 have tsz:a6.tmps.size=16:=by rw[<-ha6,al];exact usz
 have tdf:a6.defers=[]:=by rw[<-ha6,aT];exact udf
 show wpListIn (FW none) nn P R3 _ _ (a5.put (some 13) (.bool true)) w6
 rw[ha6]
 have R7:=Cr (lk:=[]) (f:=fun i=>if i=13 then .d .bool (.bool true) else .undef) (hSW _ hX6) tsz tdf (fun t ht=>by
  by_cases h5:t=13
  ·subst h5;rw[if_pos rfl,t13];exact .inl ⟨rfl,⟨true,rfl⟩,fun _ h=>(by cases h),(bq (ds:=[.bool true]) (by intro d hd;rw[List.mem_singleton.1 hd];rfl)).2 rfl⟩
  ·rw[if_neg h5];simp only[AR]) (fun t ht=>by rw[if_neg (by omega)])
 obtain⟨s7,k1,k2⟩:=vH hE R7 (o:=⟨some 14,.unOp .not Tb (.tmp 13),y14,p14,f14,none⟩) (vz rfl) (fun T t h=>by rcases h with h|⟨y,h⟩<;>cases h) (fun t ht=>by simp[dS] at ht) (fun T x y h=>by cases h) (K:=some)
  (r:=(dS 16 [] (fun i=>if i=13 then .d .bool (.bool true) else .undef)).put (some 14) (.d .bool (.bool false))) rfl
 cases k1
 obtain⟨_,_,_,_,_,r7⟩:=k2
 refine gB rfl r7 ?_
 rintro v w7 ⟨S7,γ7,β7,m1,m2,_⟩
 have hb:=zD rfl rfl (m1.slot (t:=14) (x:=.d .bool (.bool false)) (kG (by decide)) (by simp)).2
 obtain⟨os7,d7,hd7,hw7⟩:=bQ m1.ext (fun _ hf=>hf)
 have hJ7:J (k+1) w7:=by rw[hw7];exact hJ _ _ os7 d7 hJ6 hd7
 have hX7:=hJe _ _ hJ7
 obtain⟨a7,ha7⟩:∃ a7,a6.put (some 14) v=a7:=⟨_,rfl⟩
 have z:∀ t,t≠14->a7.tmps.getD t undef=a6.tmps.getD t undef:=fun t h=>by rw[<-ha7,db (Ne.symm h)]
 have zsz:a7.tmps.size=16:=by rw[<-ha7,al];exact tsz
 have zdf:a7.defers=[]:=by rw[<-ha7,aT];exact tdf
 show Exit.then _ _ .normal (a6.put (some 14) v) w7
 rw[show(a6.put (some 14) v).tmps.getD 14 undef=a7.tmps.getD 14 undef by rw[ha7]] at hb
 rw[ha7]
 simp only[Exit.then]
 refine wpIn_cond_false hb (wpIn_skip ?_)
 simp only[Exit.inBlock,Exit.then]
 have keep:∀ t,t≠11->t≠12->t≠13->t≠14->a7.tmps.getD t undef=a4.tmps.getD t undef:=fun t h1 h2 h3 h4=>(z t h4).trans ((tt t h3).trans (u t h1 h2))
 clear m1 m2 R7 r7 ha7 ha6
 have hv4':ev E (.region i4 R4 false) .leaf D (sd e l k [0,5,6]) (kW [(7,.int .i64)])=some (.tup [.int .i64 ((k+1:Nat):Int)]):=by
  rw[hv4 k]
  simp only[D.bin,if_true]
  rw[show IntKind.wrap .i64 ((k:Int)+1)=((k+1:Nat):Int) from by rw[show((k:Int)+1)=((k+1:Nat):Int) by omega];exact ml (by omega) (by omega)]
  rfl
 refine em hE _ .leaf D _ _ (mk a7 w7 [0,5,6] hX7 zsz zdf ((keep 5 (by decide) (by decide) (by decide) (by decide)).trans v5) ((keep 6 (by decide) (by decide) (by decide) (by decide)).trans v6) ((keep 7 (by decide) (by decide) (by decide) (by decide)).trans v7))
  hv4' fun y s' S' γ' β' a8 w8 g1 g2 g3 g4=>?_
 obtain⟨rfl,g5⟩:=uM g4
 obtain⟨os8,d8,hd8,rfl⟩:=bQ g1.ext (fun _ hf=>hf)
 have w7':=g1.word g5 (i:=0) (t:=7) rfl rfl rfl
 simp only[u9]
 refine⟨m-1,by omega,k+1,by omega,hJ _ _ os8 d8 hJ7 hd8,by rw[g1.nt,g3.nt];rfl,g1.df,?_,?_,?_,w7'⟩
 ·exact(g2.slots 0 (by simp[sd,dS])).trans ((keep 0 (by decide) (by decide) (by decide) (by decide)).trans v0)
 ·exact(g2.slots 5 (by simp[sd,dS])).trans ((keep 5 (by decide) (by decide) (by decide) (by decide)).trans v5)
 ·exact(g2.slots 6 (by simp[sd,dS])).trans ((keep 6 (by decide) (by decide) (by decide) (by decide)).trans v6)
end Go.Proofs.YtjjjkojfijpeeaaGreat.Sy
end
section
set_option linter.unusedVariables false
namespace Go.Proofs.YtjjjkojfijpeeaaGreat.Sy
open Go Go.Proofs
open Go.ChangeMaps (setBlock)
def mw(s:St)(e:Ty)(id:Nat):Option (List D):=match s.ob id with
 | some (.one t X)=>if t.beq (.sl e) then(match X with
  | .own e' v l=>if e'.beq e&&!(s.dead.contains v) then some l else none
  | .nils=>some []
  | _=>none) else none
 | _=>none
theorem rB{s:St}{e:Ty}{id:Nat}{L:List D}(h:mw s e id=some L):∃ X,s.ob id=some (.one (.sl e) X)/\((X=.nils/\L=[])\/∃ v,X=.own e v L/\v ∉ s.dead):=by
 unfold mw at h
 split at h<;>first|(cases h;done)|skip
 rename_i t X hob
 split at h<;>first|(cases h;done)|skip
 rename_i ht
 have:=Ty.eq_of_beq _ _ ht;subst this
 split at h<;>first|(cases h;done)|skip
 ·rename_i e' v l
  split at h<;>first|(cases h;done)|skip
  rename_i hb
  simp only[Bool.and_eq_true,Bool.not_eq_true'] at hb
  have:=Ty.eq_of_beq _ _ hb.1;subst this
  cases h
  exact⟨_,hob,.inr ⟨v,rfl,by simpa using hb.2⟩⟩
 ·cases h
  exact⟨_,hob,.inl ⟨rfl,rfl⟩⟩
def γR(L K B:Nat):Nat->Option Nat:=fun i=>if i=0 then some L else if i=1 then some K else if i=2 then some B else none
theorem uB{L K B id b:Nat}(h:γR L K B id=some b):(id=0/\b=L)\/(id=1/\b=K)\/(id=2/\b=B):=by
 unfold γR at h
 split at h
 ·rename_i e;cases h;exact .inl ⟨e,rfl⟩
 ·split at h
  ·rename_i e;cases h;exact .inr (.inl ⟨e,rfl⟩)
  ·split at h
   ·rename_i e;cases h;exact .inr (.inr ⟨e,rfl⟩)
   ·cases h
def σR(nt t:Nat)(e:Ty)(X:AV):St:={ tm:=fun i=>if i=t then .ptr (.sl e) 2 [] else .undef,ob:=fun i=>if i=2 then some (.one (.sl e) X) else none,fresh:=0,dead:=[],nt:=nt,lkS:=[],lkO:=[0,1] }
def ln(dead:List Nat):AV->Bool
 | .d t _=>aW t
 | .own t v _=>aW t&&!(dead.contains v)
 | .ptr ..=>true
 | .nils=>true
 | .undef=>true
 | _=>false
section
variable{P:Program}{E:Env}{r:Root}
theorem DP{w:World}{S:Nat->Nat->Prop}{e:Ty}(hce:aW e=true){l:List D}(hwt:∀ x∈l,wt e x){ad:Option Addr}{n cap L K:Nat}(h:CR w S (.sl l) (.slice ad n cap))(hb:∀ b off,ad=some ⟨b,off,none⟩->b≠L/\b≠K) :
  CR w (fun b i=>S b i/\b≠L/\b≠K) (.sl l) (.slice ad n cap):=by
 obtain⟨ad',cap',b',off',e1,e2,e3,cs,e4,e5⟩:=h.elems
 cases e1
 by_cases hL:l=[]
 ·subst hL;exact CR.of_elems (b:=0) (off:=0) (.inl rfl) e3 ⟨[],cH.nil,by simp⟩
 ·have e2:ad=some ⟨b',off',none⟩:=e2.resolve_left hL
  have hb':=hb _ _ e2
  have lf:=fj hce l hwt
  exact CR.of_elems (.inr e2) e3 ⟨cs,(bq lf).2 ((bq lf).1 e4),fun i c hc=>⟨⟨(e5 i c hc).1,hb'⟩,(e5 i c hc).2⟩⟩
theorem CN{c:Cx}{ob':Nat->Option Ob}{L K:Nat}(hβ:∀ v b e,v ∉ c.dead->c.β v=some (b,e)->b≠L/\b≠K)(hob:∀ i o,ob' i=some o->c.ob i=some o){a:AV}{cs:List Value}(hp:ln c.dead a=true)(h:AC c a cs) :
  AC ⟨c.w,fun b i=>c.S b i/\b≠L/\b≠K,c.γ,c.β,ob',c.dead⟩ a cs:=by
 cases a<;>simp only[ln] at hp<;>first|(cases hp;done)|skip
 case d t x=>
  simp only[AC] at h ⊢
  have lf:=fe t x hp h.1
  exact⟨h.1,h.2.1,(bq lf).2 ((bq lf).1 h.2.2)⟩
 case own t v l=>
  simp only[Bool.and_eq_true,Bool.not_eq_true'] at hp
  have hd:v ∉ c.dead:=by simpa using hp.2
  simp only[AC] at h ⊢
  obtain⟨n0,n1,ad,cap,rfl,n4,n5⟩:=h
  refine⟨n0,n1,ad,cap,rfl,DP hp.1 n1 n4 fun b off hb=>?_,n5⟩
  rcases n5 hd with q|⟨b',off',q1,q2,q3⟩
  ·rw[q.1] at hb;cases hb
  ·rw[q1] at hb;cases hb;exact hβ v _ _ hd q2
 case nils=>simpa only[AC] using h
 case ptr t id p=>
  simp only[AC] at h ⊢
  obtain⟨b,off,rfl,k1,k2⟩:=h
  exact⟨b,off,rfl,k1,fun o ho=>k2 o (hob _ _ ho)⟩
 case undef=>simp only[AC]
theorem HJ{c:Cx}{ob':Nat->Option Ob}{L K:Nat}(hβ:∀ v b e,v ∉ c.dead->c.β v=some (b,e)->b≠L/\b≠K)(hob:∀ i o,ob' i=some o->c.ob i=some o){a:AV}{v:Value}(hp:ln c.dead a=true)(h:AR c a v) :
  AR ⟨c.w,fun b i=>c.S b i/\b≠L/\b≠K,c.γ,c.β,ob',c.dead⟩ a v:=by
 have hp':=hp
 cases a<;>simp only[ln] at hp<;>first|(cases hp;done)|skip
 case d t x=>
  simp only[AR] at h ⊢
  rcases h with⟨k1,k2,k3⟩|⟨ts,rfl,_⟩
  ·exact .inl ⟨k1,k2,pE hp k2 k3⟩
  ·simp[aW] at hp
 case undef=>simp only[AR]
 all_goals
  simp only[AR] at h ⊢
  exact⟨h.1,CN hβ hob hp' h.2⟩
def St.only(s:St)(ids:List Nat):St:={ s with ob:=fun i=>if ids.contains i then s.ob i else none }
def Ae(dead:List Nat):Option Ob->Bool
 | some (.one _ X)=>ln dead X
 | none=>true
 | _=>false
def mY(s:St)(ids:List Nat):Bool:=(List.range s.nt).all (fun t=>ln s.dead (s.tm t))&&ids.all fun i=>Ae s.dead (s.ob i)
theorem Rp.shrink{S:Nat->Nat->Prop}{γ:Nat->Option Nat}{β:Nat->Option (Nat×Nat)}{s:St}{a:Act}{w:World}(h:Rp r S γ β s a w){L K:Nat}(hβ:∀ v b e,v ∉ s.dead->β v=some (b,e)->b≠L/\b≠K){ids:List Nat}(hp:mY s ids=true) :
  Rp r (fun b i=>S b i/\b≠L/\b≠K) γ β (s.only ids) a w:=by
 simp only[mY,Bool.and_eq_true,List.all_eq_true,List.mem_range] at hp
 have hob:∀ i o,(s.only ids).ob i=some o->s.ob i=some o/\i∈ids:=fun i o ho=>by
  simp only[St.only] at ho
  split at ho
  ·rename_i hc;exact⟨ho,by simpa using hc⟩
  ·cases ho
 refine⟨h.ext,fun t ht=>HJ (c:=⟨w,S,γ,β,s.ob,s.dead⟩) hβ (fun i o ho=>(hob i o ho).1) (hp.1 t (by rw[<-h.nt];exact ht)) (h.tms t ht),h.nt,h.tmu,fun id o b ho hb=>?_,h.γn,h.γi,h.γf,fun v b e hv hb=>⟨(h.βn v b e hv hb).1,(h.βn v b e hv hb).2.1,fun o ho hs=>(h.βn v b e hv hb).2.2 o ho hs.1⟩,h.βi,h.βγ,h.βf,fun b o hb=>h.Sb b o hb.1,fun b o hb=>h.So b o hb.1,h.df⟩
 obtain⟨h1,h2⟩:=hob id o ho
 have hO:=h.obs id o b h1 hb
 have hpo:=hp.2 id h2
 rw[h1] at hpo
 cases o<;>simp only[Ae] at hpo<;>first|(cases hpo;done)|skip
 simp only[ii] at hO ⊢
 obtain⟨q1,q2,q3,cs,q4,q5,q6⟩:=hO
 exact⟨q1,q2,fun o hs=>q3 o hs.1,cs,q4,CN (c:=⟨w,S,γ,β,s.ob,s.dead⟩) hβ (fun i o ho=>(hob i o ho).1) hpo q5,q6⟩
theorem Rp.stdO{S:Nat->Nat->Prop}{γ:Nat->Option Nat}{β:Nat->Option (Nat×Nat)}{s:St}{a:Act}{w:World}(h:Rp r S γ β s a w){L K B id:Nat}(hL:¬ r.Old L/\L<w.heap.size)(hK:¬ r.Old K/\K<w.heap.size)(hLK:L≠K)
  (hβ:∀ v b e,v ∉ s.dead->β v=some (b,e)->b≠L/\b≠K) {e:Ty} (hce:aW e=true) (hid:γ id=some B) (hB:B≠L/\B≠K) {l:List D} (hv:mw s e id=some l)
  {aR:Act} {nt t:Nat} (hsz:aR.tmps.size=nt) (ht:t<nt) (hp:aR.tmps.getD t undef=.pointer (some ⟨B,0,none⟩)) (hdf:aR.defers=[]) :
  ∃ β' X,xY e l X/\Rp r (fun b i=>S b i/\b≠L/\b≠K) (γR L K B) β' (σR nt t e X) aR w:=by
 obtain⟨X0,ho,hX0⟩:=rB hv
 have hO:=h.obs id _ B ho hid
 simp only[ii] at hO
 obtain⟨q1,q2,q3,cs,q4,q5,q6⟩:=hO
 have hBn:=h.γn id B hid
 have γn':∀ id b,γR L K B id=some b->¬ r.Old b/\b<w.heap.size:=fun id b hb=>by
  rcases uB hb with⟨_,rfl⟩|⟨_,rfl⟩|⟨_,rfl⟩
  ·exact hL
  ·exact hK
  ·exact hBn
 have γi':∀ id id' b,γR L K B id=some b->γR L K B id'=some b->id=id':=fun id id' b hb hb'=>by
  rcases uB hb with⟨k1,k2⟩|⟨k1,k2⟩|⟨k1,k2⟩<;>rcases uB hb' with⟨k3,k4⟩|⟨k3,k4⟩|⟨k3,k4⟩<;>first
   | omega
   | (exfalso;have:=hB.1;have:=hB.2;omega)
 have γf':∀ id,0*4096+4096<=id->γR L K B id=none:=fun id hid=>by
  unfold γR;rw[if_neg (by omega),if_neg (by omega),if_neg (by omega)]
 have tms':∀ (β':Nat->Option (Nat×Nat)) (X:AV),∀ t',t'<aR.tmps.size->AR ⟨w,fun b i=>S b i/\b≠L/\b≠K,γR L K B,β',(σR nt t e X).ob,[]⟩ ((σR nt t e X).tm t') (aR.tmps.getD t' undef):=fun β' X t' ht'=>by
  show AR _ (if t'=t then AV.ptr (.sl e) 2 [] else .undef) _
  by_cases hh:t'=t
  ·subst hh
   rw[if_pos rfl,hp]
   simp only[AR,AC]
   refine⟨fun cs hcs=>(by cases hcs),B,0,rfl,rfl,fun o ho'=>?_⟩
   have:(σR nt t' e X).ob 2=some (.one (.sl e) X):=rfl
   rw[this] at ho'
   cases ho'
   exact⟨rfl,rfl⟩
  ·rw[if_neg hh];simp only[AR]
 have tmu':∀ X t',nt<=t'->(σR nt t e X).tm t'=.undef:=fun X t' ht'=>by
  show(if t'=t then AV.ptr (.sl e) 2 [] else .undef)=_
  rw[if_neg (by omega)]
 have ob':∀ X i o,(σR nt t e X).ob i=some o->i=2/\o=.one (.sl e) X:=fun X i o ho'=>by
  have:(if i=2 then some (Ob.one (.sl e) X) else none)=some o:=ho'
  split at this
  ·rename_i hi;cases this;exact⟨hi,rfl⟩
  ·cases this
 have γ2:∀ b,γR L K B 2=some b->b=B:=fun b hb=>by cases hb;rfl
 rcases hX0 with⟨rfl,rfl⟩|⟨v,rfl,hd⟩
 ·refine⟨fun _=>none,.nils,.inl ⟨rfl,rfl⟩,h.ext,tms' _ _,hsz,tmu' _,fun i o b ho' hb=>?_,γn',γi',γf',fun v b e _ hb=>(by cases hb),fun v v' b e e' _ _ hb=>(by cases hb),fun v id b e _ hb=>(by cases hb),fun _ _=>rfl,fun b i hb=>h.Sb b i hb.1,fun b i hb=>h.So b i hb.1,hdf⟩
  obtain⟨rfl,rfl⟩:=ob' _ i o ho'
  have:=γ2 b hb;subst this
  simp only[ii]
  exact⟨q1,q2,fun o hs=>q3 o hs.1,cs,q4,by simpa only[AC] using q5,q6⟩
 ·simp only[AC] at q5
  obtain⟨n0,n1,ad,cap,rfl,n4,n5⟩:=q5
  refine⟨fun i=>if i=5 then β v else none,.own e 5 l,.inr rfl,h.ext,tms' _ _,hsz,tmu' _,fun i o b ho' hb=>?_,γn',γi',γf',fun u b e' _ hb=>?_,fun u u' b e' e'' _ _ hb hb'=>?_,fun u id' b e' _ hb hid'=>?_,fun u hu=>?_,fun b i hb=>h.Sb b i hb.1,fun b i hb=>h.So b i hb.1,hdf⟩
  ·obtain⟨rfl,rfl⟩:=ob' _ i o ho'
   have:=γ2 b hb;subst this
   simp only[ii]
   refine⟨q1,q2,fun o hs=>q3 o hs.1,_,q4,?_,q6⟩
   simp only[AC]
   refine⟨n0,n1,ad,cap,rfl,DP hce n1 n4 fun b' off hb'=>?_,fun _=>?_⟩
   ·rcases n5 hd with q|⟨b2,off',k1,k2,k3⟩
    ·rw[q.1] at hb';cases hb'
    ·rw[k1] at hb';cases hb';exact hβ v _ _ hd k2
   ·rcases n5 hd with q|⟨b2,off',k1,k2,k3⟩
    ·exact .inl q
    ·exact .inr ⟨b2,off',k1,by simpa using k2,k3⟩
  ·have hb:(if u=5 then β v else none)=some (b,e'):=hb
   split at hb
   ·obtain⟨k1,k2,k3⟩:=h.βn v b e' hd hb
    exact⟨k1,k2,fun i hi hs=>k3 i hi hs.1⟩
   ·cases hb
  ·have hb:(if u=5 then β v else none)=some (b,e'):=hb
   have hb':(if u'=5 then β v else none)=some (b,e''):=hb'
   split at hb<;>split at hb'<;>first|(cases hb;done)|(cases hb';done)|omega
  ·have hb:(if u=5 then β v else none)=some (b,e'):=hb
   split at hb
   ·have:=hβ v b e' hd hb
    rcases uB hid' with⟨_,q⟩|⟨_,q⟩|⟨_,q⟩
    ·exact this.1 q
    ·exact this.2 q
    ·exact h.βγ v id b e' hd hb (q ▸ hid)
   ·cases hb
  ·have hu':4096<=u:=by simpa [σR,St.base] using hu
   show(if u=5 then β v else none)=none
   rw[if_neg (by omega)]
def kO(e:Ty)(t:Nat)(x:Ex)(s:St):Option D:=match x with
 | .normal=>match s.tm t with
  | .ptr ty id []=>if ty.beq (.sl e) then(mw s e id).bind fun l=>some (.sl l) else none
  | _=>none
 | _=>none
theorem Hr{e:Ty}{t:Nat}{x:Ex}{s:St}{l:List D}(h:kO e t x s=some (.sl l)):x=.normal/\∃ id,s.tm t=.ptr (.sl e) id []/\mw s e id=some l:=by
 unfold kO at h
 split at h<;>first|(cases h;done)|skip
 split at h<;>first|(cases h;done)|skip
 rename_i ty id htm
 split at h<;>first|(cases h;done)|skip
 rename_i ht
 have:=Ty.eq_of_beq _ _ ht;subst this
 obtain⟨l',h1,h2⟩:=bind_some_inv h
 cases h2
 exact⟨rfl,id,htm,h1⟩
def kI(e:Ty)(x:Ex)(s:St):Option D:=match x with|.normal=>(mw s e 2).bind fun l=>some (.sl l)|_=>none
theorem HC{e:Ty}{x:Ex}{s:St}{l:List D}(h:kI e x s=some (.sl l)):x=.normal/\mw s e 2=some l:=by
 unfold kI at h
 split at h<;>first|(cases h;done)|skip
 obtain⟨l',h1,h2⟩:=bind_some_inv h
 cases h2
 exact⟨rfl,h1⟩
def pp(s:St)(t:Nat):List Nat:=match s.tm t with|.ptr _ id _=>[2,id]|_=>[2]
def DV(P:Program)(r:Root)(e:Ty)(l:List D)(g:Nat)(lb:Array Value):Prop:=
 ∀ (nn L:Nat) (J:Nat->World->Prop),(∀ k W,J k W->dF r W)->(∀ k W os d,J k W->W.drawn<=d->J k (aw W os d)) ->
  (∀ k x W v,l[k]?=some x->J k W->(∀ c:Cx,AR c (.d e x) v)->YieldAt (FW none) (nn-1) P L #[v] W fun en W'=>en=.returned (.bool true)/\J (k+1) W') ->
  ∀ W0,J 0 W0->CallsIn (FW none) nn P g (#[.func (.yield L) #[] #[]]++lb) W0 fun en W'=>(∃ v,en=.returned v)/\J l.length W'
def nY(r:Root)(e:Ty)(l:List D)(v:Value)(W:World):Prop:=
 ∃ X S β,xY e l X/\Rp r S (fun _=>none) β (dS 1 [] (fun i=>if i=0 then X else .undef)) ⟨#[v],[]⟩ W
theorem Ie{a:Act}{w:World}(hX:dF r w){nt:Nat}{lk:List Nat}{f:Nat->AV}(hsz:a.tmps.size=nt)(hdf:a.defers=[])
  (hf:∀ t,t<nt->AR ⟨w,fun _ _=>False,fun _=>none,fun _=>none,fun _=>none,[]⟩ (f t) (a.tmps.getD t undef)) (hu:∀ t,nt<=t->f t=.undef):Rp r (fun _ _=>False) (fun _=>none) (fun _=>none) (dS nt lk f) a w:=
 ⟨hX,fun t ht=>hf t (by rw[<-hsz];exact ht),hsz,hu,fun id o b ho=>(by cases ho),fun id b hb=>(by cases hb),fun id id' b hb=>(by cases hb),fun _ _=>rfl,fun v b e _ hb=>(by cases hb),fun v v' b e e' _ _ hb=>(by cases hb),fun v id b e _ hb=>(by cases hb),fun _ _=>rfl,fun b o hb=>hb.elim,fun b o hb _=>hb.elim,hdf⟩
end
end Go.Proofs.YtjjjkojfijpeeaaGreat.Sy
end
section
set_option linter.unusedVariables false
namespace Go.Proofs.YtjjjkojfijpeeaaGreat.Sy
open Go Go.Proofs
open Go.ChangeMaps (setBlock)
open Go.RowKit
section
variable{P:Program}{E:Env}{r:Root}
set_option maxHeartbeats 1000000 in
theorem sB(hE:EnvOk P E){nn:Nat}{e:Ty}(hce:aW e=true){l:List D}(hwt:∀ x∈l,wt e x)(hlen:l.length<=1073741824){g:Nat}{lb:Array Value}(hIt:DV P r e l g lb)
  (eg:∀ args w,(callFunc g args).run P w=.ok (.enter g args) w)
  {f:Nat} {fn:Func} (hfn:P.funcs[f]?=some fn) {i0 i1 i4 b0:Nat} {R0 R1 R4:Array Oper} {asg bdy:Code} (hbody:fn.body=some (.seq (.region i0 R0 false) (.seq (.seq (.region i1 R1 false) (.block b0 (.rangeFunc (.tmp 6) #[7] asg bdy))) (.seq (.region i4 R4 false) .ret))))
  (hnt:fn.ntmps=13) (hres:fn.results=#[.tmp 4])
  {Ts:Nat} (hTs:E.L Ts=some (.sl e)) {y6 y12 y4:TypeId} {p6 p12 p4:String} {f6 f12 f4:Array Edge}
  (hR1:R1.toList=[⟨some 6,.move (.tmp 1),y6,p6,f6,none⟩]) (hR4:R4.toList=[⟨some 12,.load Ts (.tmp 2),y12,p12,f12,none⟩,⟨some 4,.assign (.tmp 12),y4,p4,f4,none⟩])
  (hv0:ev E (.region i0 R0 false) .leaf D (dS 13 [1] (fun i=>if i=0 then .nils else .undef)) (kO e 2)=some (.sl []))
  (hround:∀ X L k,xY e L X->L.length<1073741824->ev E asg .leaf D ((σR 13 2 e X).put (some 7) (.d e k)) (fun x s'=>match x with
   | .normal=>if mY s' (pp s' 5) then ev E bdy .leaf D (s'.only (pp s' 5)) (kI e) else none
   | _=>none)=some (.sl (L++[k])))
  {W0:World} (h0:dF r W0):CallsIn (FW none) nn P f #[.slice none 0 0,.func (.func g) #[] lb] W0 fun en W'=>∃ v,en=.returned v/\nY r e l v W':=by
 refine callsIn_of_wp_marks hfn hbody trivial ?_
 generalize ha0:Act.mk _ _=a0
 have hsz0:a0.tmps.size=13:=by rw[<-ha0];simp[hnt]
 have e0:a0.tmps.getD 0 undef=.slice none 0 0:=by rw[<-ha0,hnt];rfl
 have e1:a0.tmps.getD 1 undef=.func (.func g) #[] lb:=by rw[<-ha0,hnt];rfl
 have hd0:a0.defers=[]:=by rw[<-ha0]
 clear ha0
 have RA:=Ie (r:=r) (lk:=[1]) (f:=fun i=>if i=0 then .nils else .undef) h0 hsz0 hd0 (fun t ht=>by
  by_cases h5:t=0
  ·subst h5;rw[if_pos rfl,e0];simp only[AR,AC];exact⟨fun cs h=>(by cases h),rfl⟩
  ·rw[if_neg h5];simp only[AR]) (fun t ht=>by rw[if_neg (by omega)])
 refine wpIn_seq (em hE _ .leaf D _ _ RA hv0 fun x s1 S1 γ1 β1 a1 w1 g1 g2 g3 g4=>?_)
 obtain⟨rfl,id,htm,hfr⟩:=Hr g4
 simp only[u9,Exit.then]
 have hlt2:=(g1.slot htm (by simp)).1
 have hA:=(g1.slot htm (by simp)).2
 simp only[AR,AC] at hA
 obtain⟨_,B,off,hB1,hγB,hB2⟩:=hA
 have hv2:a1.tmps.getD 2 undef=.pointer (some ⟨B,off,none⟩):=ao (by assumption) hB1
 obtain⟨X0,hX0,_⟩:=rB hfr
 have hoff:off=0:=(hB2 _ hX0).2
 subst hoff
 have hv1:a1.tmps.getD 1 undef=.func (.func g) #[] lb:=(g2.slots 1 (by simp[dS])).trans e1
 have hsz1:a1.tmps.size=13:=by rw[g1.nt,g3.nt];rfl
 refine wpIn_seq (wpIn_seq (wpIn_region_list ?_))
 rw[hR1]
 refine gB (K:=fun v w'=>v=.func (.func g) #[] lb/\w1=w') rfl (cD.value (v:=a1.eval (.tmp 1)) (w':=w1) rfl ⟨hv1,rfl⟩) ?_
 rintro _ _ ⟨rfl,rfl⟩
 obtain⟨a2,ha2⟩:∃ a2,a1.put (some 6) (.func (.func g) #[] lb)=a2:=⟨_,rfl⟩
 show Exit.then _ _ .normal (a1.put (some 6) (.func (.func g) #[] lb)) w1
 rw[ha2]
 have k6:a2.eval (.tmp 6)=.func (.func g) #[] lb:=by rw[<-ha2];exact cw (by rw[hsz1];decide)
 have k2:a2.tmps.getD 2 undef=.pointer (some ⟨B,0,none⟩):=by rw[<-ha2,db (by decide)];exact hv2
 have ksz:a2.tmps.size=13:=by rw[<-ha2,al];exact hsz1
 have kdf:a2.defers=[]:=by rw[<-ha2,aT];exact g1.df
 clear ha2
 simp only[Exit.then]
 refine wpIn_block (wpIn_rangeFunc ?_)
 intro fid hfid
 obtain⟨K,hK⟩:∃ K,K=w1.heap.size:=⟨_,rfl⟩
 obtain⟨L,hL⟩:∃ L,L=w1.heap.size+1:=⟨_,rfl⟩
 obtain⟨rec,hrec⟩:∃ rec:LoopState->Option Code->Loop,rec=fun st pe=>{ state:=st,pending:=pe,fn:=fid,tmps:=a2.tmps,params:=#[7],assign:=asg,body:=bdy,defers:=K }:=⟨_,rfl⟩
 obtain⟨W1,hW1⟩:∃ W1,(w1.alloc (.deferred (some []))).alloc (.loop (rec .ready none))=W1:=⟨_,rfl⟩
 have hgr:W1=aw w1 [.deferred (some []),.loop (rec .ready none)] w1.drawn:=by
  rw[<-hW1]
  unfold aw
  show({ w1 with heap:=(w1.heap.push _).push _ }:World)=_
  congr 1<;>(apply Array.ext';simp)
 have hL1:W1.heap[L]?=some (.loop (rec .ready none)):=by
  rw[<-hW1,hL];have:=World.alloc_heap_new (w1.alloc (.deferred (some []))) (.loop (rec .ready none));rwa [World.size_alloc] at this
 have hK1:W1.heap[K]?=some (.deferred (some [])):=by
  rw[<-hW1,hK];exact(Below.heap_alloc _ _ _ (by simp)).trans (World.alloc_heap_new w1 _)
 have hLK:L≠K:=by omega
 obtain⟨aR,haR⟩:∃ aR:Act,aR=⟨a2.tmps,[]⟩:=⟨_,rfl⟩
 have r1:aR.tmps.size=13:=by rw[haR];exact ksz
 have r2:aR.tmps.getD 2 undef=.pointer (some ⟨B,0,none⟩):=by rw[haR];exact k2
 have r3:aR.defers=[]:=by rw[haR]
 obtain⟨J,hJdef⟩:∃ J:Nat->World->Prop,J=fun k W=>∃ S1 β1 X,xY e (l.take k) X/\Rp r S1 (γR L K B) β1 (σR 13 2 e X) aR W/\(∀ o,¬ S1 L o)/\(∀ o,¬ S1 K o)/\W.heap[L]?=some (.loop (rec .ready none))/\W.heap[K]?=some (.deferred (some [])):=⟨_,rfl⟩
 have hJ0:J 0 W1:=by
  have G:=(g1.grow (os:=[.deferred (some []),.loop (rec .ready none)]) (d:=w1.drawn) (Nat.le_refl _) (S':=S1) (fun _ _ hb=>hb) (fun _ _ hb=>.inl hb)).1
  rw[<-hgr] at G
  have hBn:=g1.γn id B hγB
  have hs:w1.heap.size+1<W1.heap.size:=by rw[hgr];simp[aw]
  have hold:∀ b,w1.heap.size<=b->¬ r.Old b:=fun b hb ho=>by have:=ho.1;have:=g1.ext.sz;omega
  obtain⟨β',X,hX,hR⟩:=G.stdO (L:=L) (K:=K) (B:=B) (id:=id) ⟨hold L (by omega),by omega⟩ ⟨hold K (by omega),by omega⟩ hLK (fun v b e' hd hb=>by have:=(g1.βn v b e' hd hb).2.1;omega) hce hγB (by have:=hBn.2;omega) hfr r1 (t:=2) (by decide) r2 r3
  rw[hJdef]
  exact⟨_,β',X,by simpa using hX,hR,fun o h=>h.2.1 rfl,fun o h=>h.2.2 rfl,hL1,hK1⟩
 have hJe:∀ k W,J k W->dF r W:=fun k W h=>by
  rw[hJdef] at h
  obtain⟨_,_,_,_,hR,_⟩:=h
  exact hR.ext
 have hJg:∀ k W os d,J k W->W.drawn<=d->J k (aw W os d):=fun k W os d h hd=>by
  rw[hJdef] at h ⊢
  obtain⟨S,β,X,hX,hR,h1,h2,h3,h4⟩:=h
  refine⟨S,β,X,hX,(hR.grow hd (S':=S) (fun _ _ hb=>hb) (fun _ _ hb=>.inl hb)).1,h1,h2,?_,?_⟩
  ·rw[bW (Array.getElem?_eq_some_iff.1 h3).1];exact h3
  ·rw[bW (Array.getElem?_eq_some_iff.1 h4).1];exact h4
 clear g1 g2 g3 g4 RA
 refine⟨L,[{ target:=.collected K,args:=#[] }],W1,{ target:=.fn (.func g) lb,args:=#[.func (.yield L) #[] #[]] },W1,g,#[.func (.yield L) #[] #[]]++lb,W1,?_,?_,fun _ _=>trivial,?_,fun h=>(by cases h),?_⟩
 ·rw[<-hW1,hrec,hL,hK];exact run_enterLoop_outer _ _ _ _ _
 ·simp only[resolve,k6]
  simp[go_sem]
 ·simp[invoke,go_sem,eg]
 refine(hIt (nn-1) L J hJe hJg ?_ W1 hJ0).mono ?_
 ·
  intro k x W v hx hJ hAR
  rw[hJdef] at hJ
  obtain⟨S,β,X,hX,hR,hSL,hSK,hl,hk⟩:=hJ
  have hkl:k<l.length:=(List.getElem?_eq_some_iff.1 hx).1
  have hy:=run_yield (P:=P) (args:=#[v]) hl (by rw[hrec];rfl)
  rw[hrec] at hy
  refine⟨fid,_,asg,bdy,hy,roundIn_of_wpIn trivial ?_⟩
  have hact:({ tmps:=((#[7]:Array Tmp).zip #[v]).foldl (fun tmps (t,a)=>tmps.setIfInBounds t a) a2.tmps,defers:=[] }:Act)=aR.put (some 7) v:=by
   rw[haR];simp[Act.put]
  show Code.wpIn (FW (some L)) _ P asg _ { tmps:=((#[7]:Array Tmp).zip #[v]).foldl (fun tmps (t,a)=>tmps.setIfInBounds t a) a2.tmps,defers:=[] } W
  rw[hact]
  have RP:=hR.put (v:=.d e x) (val:=v) (hAR _) (some 7)
  have hlk:((σR 13 2 e X).put (some 7) (.d e x)).lkO=[0,1]:=(St.put_fields _ _ _).2.2.2.2.2.1
  have hnt7:((σR 13 2 e X).put (some 7) (.d e x)).nt=13:=(St.put_fields _ _ _).2.2.2.1
  refine em hE asg .leaf D _ _ RP (hround X (l.take k) x hX (by rw[List.length_take];omega)) fun ex s' S' γ' β' a' w' n1 n2 n3 n4=>?_
  cases ex with
  | ret=>cases n4
  | exit i=>cases n4
  | normal=>
  simp only at n4
  split at n4<;>first|(cases n4;done)|skip
  rename_i hpl
  obtain⟨m1,m2⟩:=n2.objs 0 (by rw[hlk];simp) L rfl
  obtain⟨m3,m4⟩:=n2.objs 1 (by rw[hlk];simp) K rfl
  have m5:=n2.gam 2 B rfl
  have hl':w'.heap[L]?=some (.loop (rec .ready none)):=m2.trans hl
  have hk':w'.heap[K]?=some (.deferred (some [])):=m4.trans hk
  have N1:=n1.shrink (L:=L) (K:=K) (fun v b e' hd hb=>⟨fun h=>n1.βγ v 0 b e' hd hb (h ▸ m1),fun h=>n1.βγ v 1 b e' hd hb (h ▸ m3)⟩) hpl
  refine⟨_,run_beginRound hl' (by rw[hrec]),?_⟩
  have hob:∀ i,i≠2->(∀ id,(∃ t p,s'.tm 5=.ptr t id p)->i≠id)->(s'.only (pp s' 5)).ob i=none:=fun i h1 h2=>by
   simp only[St.only]
   rw[if_neg]
   simp only[pp]
   split
   ·rename_i t id p htm5
    have:=h2 id ⟨t,p,htm5⟩
    simp[h1,this]
   ·simp[h1]
  have h05:∀ id,(∃ t p,s'.tm 5=.ptr t id p)->(∃ o,s'.ob id=some o)->(0≠id/\1≠id)\/True:=fun _ _ _=>.inr trivial
  by_cases hob0:(s'.only (pp s' 5)).ob 0=none
  rotate_left
  ·
   exfalso
   cases hq:(s'.only (pp s' 5)).ob 0 with
   | none=>exact hob0 hq
   | some o=>
    have hO:=N1.obs 0 o L hq m1
    cases o with
    | one t v=>simp only[ii] at hO;obtain⟨_,_,_,cs,h4,_⟩:=hO;simp[bp,hl'] at h4
    | many t v=>simp only[ii] at hO;obtain⟨_,_,_,cs,h4,_⟩:=hO;simp[bp,hl'] at h4
    | mp kt vt v=>simp only[ii] at hO;obtain⟨_,_,_,es,h4,_⟩:=hO;rw[hl'] at h4;cases h4
  have N2:=N1.setB hob0 m1 (fun o h=>h.2.1 rfl) (.loop { rec .ready none with state:=.busy })
  have hsL:L<w'.heap.size:=(Array.getElem?_eq_some_iff.1 hl').1
  have hput:w'.putObj L (.loop { rec .ready none with state:=.busy })=setBlock w' L (.loop { rec .ready none with state:=.busy }):=rfl
  rw[hput]
  have hl2:(setBlock w' L (.loop { rec .ready none with state:=.busy })).heap[L]?=some (.loop { rec .ready none with state:=.busy }):=World.putObj_heap_same hsL
  have hk2:(setBlock w' L (.loop { rec .ready none with state:=.busy })).heap[K]?=some (.deferred (some [])):=(World.putObj_heap_other (Ne.symm hLK)).trans hk'
  have hlk':(s'.only (pp s' 5)).lkO=[0,1]:=n3.lkO.trans hlk
  have hnt':(s'.only (pp s' 5)).nt=13:=n3.nt.trans hnt7
  refine em hE bdy .leaf D _ _ N2 n4 fun ex s2 S2 γ2 β2 a3 w3 o1 o2 o3 o4=>?_
  obtain⟨rfl,hfr2⟩:=HC o4
  obtain⟨u1,u2⟩:=o2.objs 0 (by rw[hlk'];simp) L m1
  obtain⟨u3,u4⟩:=o2.objs 1 (by rw[hlk'];simp) K m3
  have u5:=o2.gam 2 B m5
  have hl3:=u2.trans hl2
  have hk3:=u4.trans hk2
  refine⟨_,_,run_endRound none hl3,rfl,?_⟩
  have hBne:B≠L/\B≠K:=⟨fun h=>by have:=o1.γi 2 0 B u5 (h ▸ u1);omega,fun h=>by have:=o1.γi 2 1 B u5 (h ▸ u3);omega⟩
  obtain⟨β6,X6,hX6,R6⟩:=o1.stdO (L:=L) (K:=K) (B:=B) (id:=2) (o1.γn 0 L u1) (o1.γn 1 K u3) hLK (fun v b e' hd hb=>⟨fun h=>o1.βγ v 0 b e' hd hb (h ▸ u1),fun h=>o1.βγ v 1 b e' hd hb (h ▸ u3)⟩) hce u5 hBne hfr2 r1 (t:=2) (by decide) r2 r3
  have R7:=R6.setB (id:=0) (b:=L) rfl rfl (fun o h=>h.2.1 rfl) (.loop (rec .ready none))
  have hsL3:L<w3.heap.size:=(Array.getElem?_eq_some_iff.1 hl3).1
  have hw:w3.putObj L (.loop { ({ rec .ready none with state:=.busy }:Loop) with state:=if(none:Option Code).isNone then .ready else .done,pending:=none })=setBlock w3 L (.loop (rec .ready none)):=by
   rw[hrec];rfl
  rw[hw,hJdef]
  refine⟨_,β6,X6,?_,R7,fun o h=>h.2.1 rfl,fun o h=>h.2.2 rfl,World.putObj_heap_same hsL3,(World.putObj_heap_other (Ne.symm hLK)).trans hk3⟩
  have:l.take k++[x]=l.take (k+1):=by rw[List.take_add_one,hx];rfl
  rw[<-this];exact hX6
 ·
  rintro en W2 ⟨⟨v,rfl⟩,hJ⟩
  rw[hJdef] at hJ
  obtain⟨S,β,X,hX,hR,hSL,hSK,hl,hk⟩:=hJ
  rw[List.take_of_length_le (Nat.le_refl _)] at hX
  refine⟨none,_,by have:=run_endLoop (P:=P) hl (by rw[hrec];simp);rw[hrec] at this;exact this,?_⟩
  obtain⟨o3,ho3⟩:∃ o3:Obj,o3=.loop { ({ state:=.ready,pending:=none,fn:=fid,tmps:=a2.tmps,params:=#[7],assign:=asg,body:=bdy,defers:=K }:Loop) with state:=.exhausted }:=⟨_,rfl⟩
  have hR3:=hR.setB (id:=0) (b:=L) rfl rfl hSL o3
  have hk3:(setBlock W2 L o3).heap[K]?=some (.deferred (some [])):=(World.putObj_heap_other (Ne.symm hLK)).trans hk
  rw[ho3] at hR3 hk3
  show Exit.inBlock _ _ .normal _ (setBlock W2 L _)
  generalize setBlock W2 L _=W3 at hR3 hk3 ⊢
  have hO:=hR3.obs 2 _ B rfl rfl
  simp only[ii] at hO
  obtain⟨q1,q2,q3,cs,q4,q5,q6⟩:=hO
  have hval:∃ sv,cs=[sv]/\(∀ xs,sv≠.agg xs)/\sv.oneCell'=true/\AR ⟨W3,S,γR L K B,β,(σR 13 2 e X).ob,[]⟩ X sv:=by
   rcases hX with⟨rfl,_⟩|rfl
   ·simp only[AC] at q5
    subst q5
    exact⟨_,rfl,fun _ h=>(by cases h),rfl,by simp only[AR,AC];exact⟨fun _ h=>(by cases h),rfl⟩⟩
   ·have q5':=q5
    simp only[AC] at q5
    obtain⟨_,_,ad,cap,rfl,_⟩:=q5
    exact⟨_,rfl,fun _ h=>(by cases h),rfl,by simp only[AR];exact⟨fun _ h=>(by cases h),q5'⟩⟩
  obtain⟨sv,rfl,hna,hone,hAX⟩:=hval
  have hls:bh P (.sl e) Ts=true:=(hE.lay Ts _ hTs).resolve_left (by rintro⟨ts,h⟩;cases h)
  obtain⟨v5,hrun5,hv5⟩:=dO (P:=P) hls (w:=W3) (b:=B) (off:=0) (cs:=[sv]) rfl (by intro v hv;rw[List.mem_singleton.1 hv];exact hone) (fun i c hi=>by
   cases i with
   | zero=>simp at hi;subst hi;rw[bE W3 q4];rfl
   | succ i=>simp at hi)
  have hv5':v5=sv:=ao (hv5.2.2 rfl) hv5.1
  subst hv5'
  simp only[Exit.inBlock,Exit.then]
  obtain⟨a4,ha4⟩:∃ a4:Act,a4={ a2 with defers:=[{ target:=.collected K,args:=#[] }]++a2.defers }:=⟨_,rfl⟩
  rw[<-ha4]
  have t2:a4.eval (.tmp 2)=.pointer (some ⟨B,0,none⟩):=by rw[ha4];exact k2
  have tsz:a4.tmps.size=13:=by rw[ha4];exact ksz
  have tdf:a4.defers=[{ target:=.collected K,args:=#[] }]:=by rw[ha4];show[_]++a2.defers=_;rw[kdf];rfl
  refine wpIn_seq (wpIn_region_list ?_)
  rw[hR4]
  refine gB (K:=fun v w'=>v=v5/\W3=w') rfl (cD.value (dL (m:=Instr.loadAt Ts (.pointer (some ⟨B,0,none⟩))) ?_ hrun5) ⟨rfl,rfl⟩) ?_
  ·show(Instr.loadAt Ts (a4.eval (.tmp 2)) >>= fun r=>pure (Next.value r))=_
   rw[t2]
  rintro v5 _ ⟨rfl,rfl⟩
  refine gB (K:=fun v w'=>v=v5/\W3=w') rfl (cD.value (v:=(a4.put (some 12) v5).eval (.tmp 12)) (w':=W3) rfl ⟨hG (by rw[tsz];decide),rfl⟩) ?_
  rintro v5 _ ⟨rfl,rfl⟩
  show Exit.then _ _ .normal _ W3
  simp only[Exit.then]
  have t4:((a4.put (some 12) v5).put (some 4) v5).tmps.getD 4 undef=v5:=cw (by rw[al,tsz];decide)
  refine wpIn_ret ?_
  show LeavesInM _ _ P fn ((a4.put (some 12) v5).put (some 4) v5).tmps _ ((a4.put (some 12) v5).put (some 4) v5).defers .returning W3
  rw[aT,aT,tdf]
  refine⟨by simp,.inl ⟨K,_,rfl,run_takeDeferred hk3,v5,?_,v5,rfl,?_⟩⟩
  ·exact(results_tmp hres _ _ _).trans (by rw[t4])
  ·have hR4:=hR3.setB (id:=1) (b:=K) rfl rfl hSK (.deferred none)
   have hle:=hR4
   refine⟨X,S,β,hX,hR4.ext,fun t ht=>?_,rfl,fun t ht=>?_,fun id o b ho=>(by cases ho),fun id b hb=>(by cases hb),fun id id' b hb=>(by cases hb),fun _ _=>rfl,hR4.βn,hR4.βi,fun v id b e _ hb hq=>(by cases hq),hR4.βf,hR4.Sb,hR4.So,rfl⟩
   ·have ht0:t=0:=by have:t<1:=ht;omega
    subst ht0
    have hO:=hR4.obs 2 _ B rfl rfl
    simp only[ii] at hO
    obtain⟨_,_,_,cs,z4,z5,_⟩:=hO
    have hBK:B≠K:=fun h=>by
     have:=hR4.γi 2 1 B rfl (by rw[h];rfl)
     omega
    have hrow:bp (setBlock W3 K (.deferred none)) B=bp W3 B:=by
     simp only[bp,setBlock];rw[Array.getElem?_setIfInBounds_ne (Ne.symm hBK)]
    rw[hrow,q4] at z4
    have hcs:cs=[v5]:=by
     have:=congrArg (Option.map Array.toList) z4
     simpa using this.symm
    subst hcs
    show AR _ X v5
    rcases hX with⟨rfl,_⟩|rfl
    ·simp only[AR,AC] at hAX ⊢;exact hAX
    ·simp only[AR,AC] at hAX z5 ⊢
     refine⟨hAX.1,?_⟩
     obtain⟨z1,z2,ad,cap,z3,z6⟩:=z5
     refine⟨z1,z2,ad,cap,?_,z6⟩
     obtain⟨_,_,ad',cap',z7,_⟩:=hAX.2
     cases z3
     rfl
   ·show(if t=0 then X else .undef)=_
    rw[if_neg (by have:1<=t:=ht;omega)]
end
end Go.Proofs.YtjjjkojfijpeeaaGreat.Sy
end
section
set_option linter.unusedVariables false
namespace Go.Proofs.YtjjjkojfijpeeaaGreat.Sy
open Go Go.Proofs Go.Sort Go.Lib
section
variable{P:Program}{E:Env}{r:Root}
theorem B5 {f : Nat} (hf : ∃ fn, P.funcs[f]? = some fn /\ (fn.name == "runtime.NumGoroutine") = false /\ fn.body.isSome = true) (a : Act) (w : World) (d : Option Nat) (args : Array Operand) (ats : Array TypeId) (y : TypeId) (p : String) (fs : Array Edge) :
  (execOp a.eval ⟨d,.call ⟨.value (.func f),args,ats⟩,y,p,fs,none⟩).run P w=.ok (.enter f (args.map a.eval)) w:=by
 obtain⟨fn,f1,f2,f3⟩:=hf
 have hb:¬ fn.body=none:=by intro hh;rw[hh] at f3;cases f3
 have f2' : ¬ fn.name = "runtime.NumGoroutine" := by simpa using f2
 have e2:a.eval (.func f)=.func (.func f) #[] #[]:=rfl
 simp[execOp,resolve,Deferred.ofValue,invoke,callFunc,f1,f2',hb,e2]
theorem ym {f : Nat} (hf : ∃ fn, P.funcs[f]? = some fn /\ (fn.name == "runtime.NumGoroutine") = false /\ fn.body.isSome = true) (args : Array Value) (w : World) : (callFunc f args).run P w = .ok (.enter f args) w := by
 obtain⟨fn,f1,f2,f3⟩:=hf
 have hb:¬ fn.body=none:=by intro hh;rw[hh] at f3;cases f3
 have f2' : ¬ fn.name = "runtime.NumGoroutine" := by simpa using f2
 simp[callFunc,f1,f2',hb]
theorem nY.at{e:Ty}{l:List D}{v:Value}{W:World}(h:nY r e l v W){a:Act}{nt t:Nat}(hsz:a.tmps.size=nt)(ht:t<nt)(hv:a.tmps.getD t undef=v)(hd:a.defers=[]) :
  ∃ X S β,xY e l X/\Rp r S (fun _=>none) β (dS nt [] (fun i=>if i=t then X else .undef)) a W:=by
 obtain⟨X,S,β,hX,h⟩:=h
 refine⟨X,S,β,hX,h.ext,fun t' ht'=>?_,hsz,fun t' ht'=>?_,fun id o b ho=>(by cases ho),h.γn,h.γi,h.γf,h.βn,h.βi,h.βγ,h.βf,h.Sb,h.So,hd⟩
 ·show AR _ (if t'=t then X else .undef) _
  by_cases hh:t'=t
  ·subst hh
   rw[if_pos rfl,hv]
   exact h.tms 0 Nat.one_pos
  ·rw[if_neg hh];simp only[AR]
 ·show(if t'=t then X else .undef)=_
  rw[if_neg (by have:nt<=t':=ht';omega)]
theorem Bg{e:Ty}{l:List D}{X:AV}(hX:xY e l X)(hlen:l.length<=1073741824){nt t:Nat}:cb (dS nt [] (fun i=>if i=t then X else .undef)) e t=some l:=by
 rcases hX with⟨rfl,rfl⟩|rfl
 ·simp[cb,dS]
 ·simp[cb,dS,Ty.beq_refl',hlen]
def AN(e:Ty)(t:Nat)(x:Ex)(s:St):Option D:=match x with
 | .normal=>match s.tm t with
  | .ptr t id []=>match s.ob id with
   | some (.one t' (.d t'' y))=>if t.beq e&&t'.beq e&&t''.beq e then some y else none
   | _=>none
  | _=>none
 | _=>none
theorem BT{e:Ty}{t:Nat}{x:Ex}{s:St}{y:D}(h:AN e t x s=some y):x=.normal/\∃ id,s.tm t=.ptr e id []/\s.ob id=some (.one e (.d e y)):=by
 unfold AN at h
 split at h<;>first|(cases h;done)|skip
 split at h<;>first|(cases h;done)|skip
 rename_i t id htm
 split at h<;>first|(cases h;done)|skip
 rename_i t' t'' y' hob
 split at h<;>first|(cases h;done)|skip
 rename_i hc
 simp only[Bool.and_eq_true] at hc
 cases h
 have e1:=Ty.eq_of_beq _ _ hc.1.1;have e2:=Ty.eq_of_beq _ _ hc.1.2;have e3:=Ty.eq_of_beq _ _ hc.2
 subst e1;subst e2;subst e3
 exact⟨rfl,id,htm,hob⟩
end
end Go.Proofs.YtjjjkojfijpeeaaGreat.Sy
end
section
set_option linter.unusedVariables false
namespace Go.Proofs.YtjjjkojfijpeeaaGreat.Sy
open Go Go.Proofs Go.Sort Go.Lib
section
variable{r:Root}{lp:Lp}{call:Nat->List D->Option D}
noncomputable abbrev fG(lp:Lp)(call:Nat->List D->Option D):Env:=bZ lp call (eP lp call)
theorem IW : ∃ fn, Tryz.prog.funcs[149]? = some fn /\ (fn.name == "runtime.NumGoroutine") = false /\ fn.body.isSome = true := uE (by kernel_rfl)
theorem Ii : ∃ fn, Tryz.prog.funcs[176]? = some fn /\ (fn.name == "runtime.NumGoroutine") = false /\ fn.body.isSome = true := uE (by kernel_rfl)
theorem Kt : ∃ fn, Tryz.prog.funcs[92]? = some fn /\ (fn.name == "runtime.NumGoroutine") = false /\ fn.body.isSome = true := uE (by kernel_rfl)
theorem JN : ∃ fn, Tryz.prog.funcs[93]? = some fn /\ (fn.name == "runtime.NumGoroutine") = false /\ fn.body.isSome = true := uE (by kernel_rfl)
theorem IR : ∃ fn, Tryz.prog.funcs[151]? = some fn /\ (fn.name == "runtime.NumGoroutine") = false /\ fn.body.isSome = true := uE (by kernel_rfl)
noncomputable def Co:Code:=match kh Tryz.f176 with|.seq _ (.seq (.seq _ (.block _ (.rangeFunc _ _ a _))) _)=>a|c=>c
noncomputable def Dh:Code:=match kh Tryz.f176 with|.seq _ (.seq (.seq _ (.block _ (.rangeFunc _ _ _ b))) _)=>b|c=>c
theorem Cq:∀ X L k,xY K1 L X->L.length<1073741824->ev (fG lp call) Co .leaf D ((σR 13 2 K1 X).put (some 7) (.d K1 k)) (fun x s'=>match x with
   | .normal=>if mY s' (pp s' 5) then ev (fG lp call) Dh .leaf D (s'.only (pp s' 5)) (kI K1) else none
   | _=>none)=some (.sl (L++[k])):=by
 intro X L k hX hL
 rcases hX with⟨rfl,rfl⟩|rfl
 ·kernel_rfl
 ·have key:ev (fG lp call) Co .leaf D ((σR 13 2 K1 (.own K1 5 L)).put (some 7) (.d K1 k)) (fun x s'=>match x with
   | .normal=>if mY s' (pp s' 5) then ev (fG lp call) Dh .leaf D (s'.only (pp s' 5)) (kI K1) else none
   | _=>none)=(if List.length L+List.length [k]<=1073741824 then some (.sl (L++[k])) else none):=by kernel_rfl
  rw[key,if_pos (by simp;omega)]
theorem I0:ev (fG lp call) (pP (kh Tryz.f176)) .leaf D (dS 13 [1] (fun i=>if i=0 then .nils else .undef)) (kO K1 2)=some (.sl []):=by kernel_rfl
theorem uL(hE:EnvOk Tryz.prog (fG lp call)){nn:Nat}{l:List D}(hwt:∀ x∈l,wt K1 x)(hlen:l.length<=1073741824){lb:Array Value}(hIt:DV Tryz.prog r K1 l 151 lb){W0:World}(h0:dF r W0) :
  CallsIn (FW none) nn Tryz.prog 176 #[.slice none 0 0,.func (.func 151) #[] lb] W0 fun en W'=>∃ v,en=.returned v/\nY r K1 l v W':=
 sB hE rfl hwt hlen hIt (ym IR) (fn:=Tryz.f176) (by kernel_rfl) rfl rfl rfl (Ts:=22) (by kernel_rfl) rfl rfl I0 Cq h0
end
end Go.Proofs.YtjjjkojfijpeeaaGreat.Sy
end
section
set_option linter.unusedVariables false
namespace Go.Proofs.YtjjjkojfijpeeaaGreat.Sy
open Go Go.Proofs Go.Sort Go.Lib
section
variable{r:Root}{lp:Lp}{call:Nat->List D->Option D}
theorem lc{P:Program}{ro:Option Nat}{nn:Nat}{ops:Array Oper}{rest:List Oper}{a:Act}{w:World}{K:Value->World->Prop}{Q:Exit->Act->World->Prop}{d:Option Nat}{args:Array Operand}{ats:Array TypeId}{y:TypeId}{p:String}{fs:Array Edge}{f:Nat}
  (hf : ∃ fn, P.funcs[f]? = some fn /\ (fn.name == "runtime.NumGoroutine") = false /\ fn.body.isSome = true) (vs : Array Value) (h : args.map a.eval = vs) (hc : Calls P f vs w fun en w' => ∃ v, en = .returned v /\ K v w')
  (hk:∀ v w',K v w'->wpListIn (FW ro) nn P ops Q rest (a.put d v) w'):wpListIn (FW ro) nn P ops Q (⟨d,.call ⟨.value (.func f),args,ats⟩,y,p,fs,none⟩::rest) a w:=
 gB rfl (cD.enter (h ▸ B5 hf a w d args ats y p fs) hc) hk
theorem Bi{l:List Oper}(h:(l.all fun o=>o.guard.isNone)=true):∀ x∈l,x.guard=none:=fun x hx=>by
 have:=List.all_eq_true.1 h x hx
 cases hg:x.guard with
 | none=>rfl
 | some g=>rw[hg] at this;cases this
theorem ED{l:List D}:ev (fG lp call) (.region 0 ((GJ (pP (kh Tryz.f151))).tail).toArray false) .leaf D (dS 16 [0,5] (fun i=>if i=5 then .d (.sl K1) (.sl l) else .undef)) (kW [(6,.int .i64),(7,.int .i64)])=some (.tup [.int .i64 (l.length:Nat),.int .i64 0]):=by kernel_rfl
noncomputable def nG:Code:=inLoop (nb (nC (kh Tryz.f151)))
theorem Fi{l:List D}(k:Nat):ev (fG lp call) (pP nG) .leaf D (sd K1 l k [0,5,6,7]) (kW [(7,.int .i64),(8,.bool)])=some (.tup [.int .i64 (k:Nat),.bool (decide ((k:Int)<(l.length:Nat)))]):=by kernel_rfl
theorem FZ{l:List D}(k:Nat):ev (fG lp call) (pP (nb (pP (nC (nC nG))))) .leaf D (sd K1 l k [0,5,6,7]) (BN K1)=(D.idx (.int .i64 (k:Nat)) l.length).bind fun i=>l[i]?:=by
 have:ev (fG lp call) (pP (nb (pP (nC (nC nG))))) .leaf D (sd K1 l k [0,5,6,7]) (BN K1)=(D.idx (.int .i64 (k:Nat)) l.length).bind fun i=>(l[i]?).bind fun x=>some x:=by kernel_rfl
 rw[this]
 simp
theorem Em{l:List D}(k:Nat):ev (fG lp call) (nC (nC (nC nG))) .leaf D (sd K1 l k [0,5,6]) (kW [(7,.int .i64)])=(D.bin .add (.int .i64 (k:Nat)) (.int .i64 1)).bind fun x=>some (.tup [x]):=by
 have:ev (fG lp call) (nC (nC (nC nG))) .leaf D (sd K1 l k [0,5,6]) (kW [(7,.int .i64)])=some (.tup [.int .i64 (IntKind.wrap .i64 ((k:Int)+1))]):=by kernel_rfl
 rw[this];rfl
theorem Gf(hE:EnvOk Tryz.prog (fG lp call)){l:List D}(hwt:∀ x∈l,wt K1 x)(hlen:l.length<=1073741824){w:World}{S S0:Nat->Nat->Prop}(hS:∀ b o,S b o->b<w.heap.size){B:Nat}{sv:Value}(hB:∀ W,dF (cq w S0) W->W.cell? ⟨B,0,none⟩=some sv)(hsv:CR w S (.sl l) sv) :
  DV Tryz.prog (cq w S0) K1 l 151 #[.pointer (some ⟨B,0,none⟩)]:=by
 intro nn L J hJe hJ hY W0 h0
 exact Dg hE (e:=K1) rfl rfl hwt hlen hS hB hsv J hJe hJ hY (fn:=Tryz.f151) (by kernel_rfl) rfl rfl rfl (Ts:=22) (Te:=60) (by kernel_rfl) (by kernel_rfl) rfl (Bi rfl) rfl ED Fi FZ Em h0
theorem av{a:Act}{t u:Nat}{v:Value}(h:t<a.tmps.size):(a.put (some t) v).tmps.getD u undef=if u=t then v else a.tmps.getD u undef:=by
 by_cases hh:u=t
 ·subst hh;rw[if_pos rfl,cw h]
 ·rw[if_neg hh,db fun e=>hh e.symm]
theorem aF{a:Act}{t:Nat}:a.eval (.tmp t)=a.tmps.getD t undef:=rfl
theorem bI{a:Act}{v:Value}:a.eval (.const v)=v:=rfl
theorem B9{a:Act}{f:Nat}:a.eval (.func f)=.func (.func f) #[] #[]:=rfl
section
variable{P:Program}{ro:Option Nat}{nn:Nat}{ops:Array Oper}{rest:List Oper}{a:Act}{w:World}{Q:Exit->Act->World->Prop}{d:Option Nat}{x:Operand}{y:TypeId}{p:String}{fs:Array Edge}
theorem co(h:wpListIn (FW ro) nn P ops Q rest (a.put d (a.eval x)) w):wpListIn (FW ro) nn P ops Q (⟨d,.move x,y,p,fs,none⟩::rest) a w:=by
 refine gB (K:=fun v w'=>v=a.eval x/\w=w') rfl (cD.value (v:=a.eval x) (w':=w) rfl ⟨rfl,rfl⟩) ?_
 rintro _ _ ⟨rfl,rfl⟩
 exact h
theorem bN(h:wpListIn (FW ro) nn P ops Q rest (a.put d (a.eval x)) w):wpListIn (FW ro) nn P ops Q (⟨d,.assign x,y,p,fs,none⟩::rest) a w:=by
 refine gB (K:=fun v w'=>v=a.eval x/\w=w') rfl (cD.value (v:=a.eval x) (w':=w) rfl ⟨rfl,rfl⟩) ?_
 rintro _ _ ⟨rfl,rfl⟩
 exact h
theorem dh(h:Q .normal a w):wpListIn (FW ro) nn P ops Q [] a w:=h
end
theorem vP{P:Program}{f g:Nat}{fn:Func}(hfn:P.funcs[f]?=some fn){i0 i1:Nat}{R0 R1:Array Oper}(hbody:fn.body=some (.seq (.region i0 R0 false) (.seq (.region i1 R1 false) .ret)))(hnt:fn.ntmps=5)(hres:fn.results=#[.tmp 2])
  {y2 y3 y4 y5:TypeId} {p2 p3 p4 p5:String} {f2 f3 f4 f5:Array Edge} {ats:Array TypeId} (hR0:R0.toList=[⟨some 2,.assign (.const (.slice none 0 0)),y2,p2,f2,none⟩])
  (hR1:R1.toList=[⟨some 3,.move (.tmp 0),y3,p3,f3,none⟩,⟨some 4,.call ⟨.value (.func g),#[.const (.slice none 0 0),.tmp 3],ats⟩,y4,p4,f4,none⟩,⟨some 2,.assign (.tmp 4),y5,p5,f5,none⟩])
  (hg : ∃ fn, P.funcs[g]? = some fn /\ (fn.name == "runtime.NumGoroutine") = false /\ fn.body.isSome = true) {fv : Value} {R : Value -> World -> Prop} {W0 : World} (hc : Calls P g #[.slice none 0 0, fv] W0 fun en W' => ∃ v, en = .returned v /\ R v W') :
  Calls P f #[fv] W0 fun en W'=>∃ v,en=.returned v/\R v W':=by
 refine cO hfn hbody ?_
 generalize ha0:Act.mk _ _=a0
 have hsz0:a0.tmps.size=5:=by rw[<-ha0];simp[hnt]
 have e0:a0.tmps.getD 0 undef=fv:=by rw[<-ha0,hnt];rfl
 have hd0:a0.defers=[]:=by rw[<-ha0]
 clear ha0
 refine wpIn_seq (wpIn_region_list ?_)
 rw[hR0]
 refine bN (dh ?_)
 refine wpIn_seq (wpIn_region_list ?_)
 rw[hR1]
 refine co (lc hg _ ?_ hc fun v w1 hv=>bN (dh ?_))
 ·simp only[List.map_toArray,List.map_cons,List.map_nil,aF,bI,av,al,hsz0,e0,reduceIte,Nat.reduceLT,Nat.reduceEqDiff]
 ·refine wpIn_ret ⟨by simp only[aT,hd0],v,(results_tmp hres _ _ _).trans ?_,v,rfl,hv⟩
  simp only[aF,bI,av,al,hsz0,e0,reduceIte,Nat.reduceLT,Nat.reduceEqDiff]
theorem yX(hE:EnvOk Tryz.prog (fG lp call)){l:List D}(hwt:∀ x∈l,wt K1 x)(hlen:l.length<=1073741824){lb:Array Value}(hIt:DV Tryz.prog r K1 l 151 lb){W0:World}(h0:dF r W0) :
  Calls Tryz.prog 149 #[.func (.func 151) #[] lb] W0 fun en W'=>∃ v,en=.returned v/\nY r K1 l v W':=
 vP (fn:=Tryz.f149) (by kernel_rfl) rfl rfl rfl rfl rfl Ii (callsIn_wide.1 (uL hE (nn:=0) hwt hlen hIt h0))
end
end Go.Proofs.YtjjjkojfijpeeaaGreat.Sy
end
section
set_option linter.unusedVariables false
namespace Go.Proofs.YtjjjkojfijpeeaaGreat.Sy
open Go Go.Proofs Go.Sort Go.Lib
section
variable{P:Program}{E:Env}{r:Root}
theorem Ix{ro:Option Nat}{nn:Nat}{ops:Array Oper}{rest:List Oper}{a:Act}{w:World}{Q:Exit->Act->World->Prop}{d:Option Nat}{y:TypeId}{p:String}{fs:Array Edge}{g t:Nat}
  (h:wpListIn (FW ro) nn P ops Q rest (a.put d (.func (.func g) #[] #[a.tmps.getD t undef])) w):wpListIn (FW ro) nn P ops Q (⟨d,.makeFunc (.func g) #[] #[.tmp t],y,p,fs,none⟩::rest) a w:=by
 refine gB (K:=fun v w'=>v=.func (.func g) #[] #[a.tmps.getD t undef]/\w=w') rfl (cD.value (v:=.func (.func g) #[] #[a.tmps.getD t undef]) (w':=w) ?_ ⟨rfl,rfl⟩) ?_
 ·simp[execOp,Instr.makeFunc,aF]
 rintro _ _ ⟨rfl,rfl⟩
 exact h
theorem q9 {f150 g : Nat} (hf : ∃ fn, P.funcs[f150]? = some fn /\ (fn.name == "runtime.NumGoroutine") = false /\ fn.body.isSome = true) {K0 K : Value -> World -> Prop} (hsort : ∀ v w, K0 v w -> Calls P f150 #[v, .func (.func g) #[] #[]] w fun en w' => ∃ u, en = .returned u /\ K v w')
  {f f149:Nat} {fn:Func} (hfn:P.funcs[f]?=some fn) {i0 i1 i2 i3:Nat} {R0 R1 R2 R3:Array Oper} (hbody:fn.body=some (.seq (.region i0 R0 false) (.seq (.region i1 R1 false) (.seq (.region i2 R2 false) (.seq (.region i3 R3 false) .ret))))) (hnt:fn.ntmps=12) (hres:fn.results=#[.tmp 4])
  {y2 y3 y4 y5 y6 y7 y8 y9 y10:TypeId} {p2 p3 p4 p5 p6 p7 p8 p9 p10:String} {f2 f3 f4 f5 f6 f7 f8 f9 f10:Array Edge} {ats ats2:Array TypeId} (hR0:R0.toList=[⟨some 4,.assign (.const (.slice none 0 0)),y2,p2,f2,none⟩])
  (hR1:R1.toList=[⟨some 6,.move (.tmp 0),y3,p3,f3,none⟩,⟨some 7,.call ⟨.value (.func f149),#[.tmp 6],ats⟩,y4,p4,f4,none⟩,⟨some 5,.assign (.tmp 7),y5,p5,f5,none⟩])
  (hR2:R2.toList=[⟨some 8,.move (.tmp 5),y6,p6,f6,none⟩,⟨some 9,.move (.tmp 1),y7,p7,f7,none⟩,⟨some 10,.call ⟨.value (.func f150),#[.tmp 8,.tmp 9],ats2⟩,y8,p8,f8,none⟩])
  (hR3:R3.toList=[⟨some 11,.move (.tmp 5),y9,p9,f9,none⟩,⟨some 4,.assign (.tmp 11),y10,p10,f10,none⟩])
  (hg : ∃ fn, P.funcs[f149]? = some fn /\ (fn.name == "runtime.NumGoroutine") = false /\ fn.body.isSome = true) {fv : Value} {W0 : World} (hc : Calls P f149 #[fv] W0 fun en W' => ∃ v, en = .returned v /\ K0 v W') :
  Calls P f #[fv,.func (.func g) #[] #[]] W0 fun en W'=>∃ v,en=.returned v/\K v W':=by
 refine cO hfn hbody ?_
 generalize ha0:Act.mk _ _=a0
 have hsz0:a0.tmps.size=12:=by rw[<-ha0];simp[hnt]
 have e0:a0.tmps.getD 0 undef=fv:=by rw[<-ha0,hnt];rfl
 have e1:a0.tmps.getD 1 undef=.func (.func g) #[] #[]:=by rw[<-ha0,hnt];rfl
 have hd0:a0.defers=[]:=by rw[<-ha0]
 clear ha0
 refine wpIn_seq (wpIn_region_list ?_)
 rw[hR0]
 refine bN (dh ?_)
 refine wpIn_seq (wpIn_region_list ?_)
 rw[hR1]
 refine co (lc hg _ ?_ hc fun v w1 hv=>bN (dh ?_))
 ·simp only[List.map_toArray,List.map_cons,List.map_nil,aF,bI,av,al,hsz0,e0,reduceIte,Nat.reduceLT,Nat.reduceEqDiff]
 generalize ha2:Act.put _ (some 5) _=a2
 have hsz2:a2.tmps.size=12:=by rw[<-ha2];simp only[al,hsz0]
 have e5:a2.tmps.getD 5 undef=v:=by rw[<-ha2];simp only[aF,bI,av,al,hsz0,reduceIte,Nat.reduceLT,Nat.reduceEqDiff]
 have e1':a2.tmps.getD 1 undef=.func (.func g) #[] #[]:=by rw[<-ha2];simp only[aF,bI,av,al,hsz0,e1,reduceIte,Nat.reduceLT,Nat.reduceEqDiff]
 have hd2:a2.defers=[]:=by rw[<-ha2];simp only[aT,hd0]
 clear ha2
 have hcs':=hsort v w1 hv
 refine wpIn_seq (wpIn_region_list ?_)
 rw[hR2]
 refine co (co (lc hf _ ?_ hcs' fun u w2 hu=>dh ?_))
 ·simp only[List.map_toArray,List.map_cons,List.map_nil,aF,bI,av,al,hsz2,e5,e1',reduceIte,Nat.reduceLT,Nat.reduceEqDiff]
 generalize ha3:Act.put _ (some 10) _=a3
 have hsz3:a3.tmps.size=12:=by rw[<-ha3];simp only[al,hsz2]
 have e5':a3.tmps.getD 5 undef=v:=by rw[<-ha3];simp only[aF,bI,av,al,hsz2,e5,reduceIte,Nat.reduceLT,Nat.reduceEqDiff]
 have hd3:a3.defers=[]:=by rw[<-ha3];simp only[aT,hd2]
 clear ha3
 refine wpIn_seq (wpIn_region_list ?_)
 rw[hR3]
 refine co (bN (dh (wpIn_ret ⟨by simp only[aT,hd3],v,(results_tmp hres _ _ _).trans ?_,v,rfl,hu⟩)))
 simp only[aF,bI,av,al,hsz3,e5',reduceIte,Nat.reduceLT,Nat.reduceEqDiff]
def Ap(w:World)(S:Nat->Nat->Prop)(l:List D)(g:Nat)(v:Value)(w1:World):Prop:=
 ∃ B S1 sv,v=.func (.func g) #[] #[.pointer (some ⟨B,0,none⟩)]/\dF (cq w S) w1/\w1.cell? ⟨B,0,none⟩=some sv/\B<w1.heap.size/\CR w1 S1 (.sl l) sv/\(∀ b o,S1 b o->b<w1.heap.size)/\(∀ b o,S1 b o->b<w.heap.size->S b o)
theorem xZ(hE:EnvOk P E){e:Ty}(hne:af e=true){l:List D}(hwt:∀ x∈l,wt e x){g:Nat}
  {f:Nat} {fn:Func} (hfn:P.funcs[f]?=some fn) {i0 i1:Nat} {R0 R1:Array Oper} (hbody:fn.body=some (.seq (.region i0 R0 false) (.seq (.region i1 R1 false) .ret))) (hnt:fn.ntmps=4) (hres:fn.results=#[.tmp 2])
  {y2 y3:TypeId} {p2 p3:String} {f2 f3:Array Edge} (hR1:R1.toList=[⟨some 3,.makeFunc (.func g) #[] #[.tmp 1],y2,p2,f2,none⟩,⟨some 2,.assign (.tmp 3),y3,p3,f3,none⟩])
  (hv0:ev E (.region i0 R0 false) .leaf D (dS 4 [] (fun i=>if i=0 then .d (.sl e) (.sl l) else .undef)) (AN (.sl e) 1)=some (.sl l))
  {w:World} {S:Nat->Nat->Prop} (hS:∀ b o,S b o->b<w.heap.size) {v0:Value} (hv:eN w S (.sl l) v0):Calls P f #[v0] w fun en w1=>∃ v,en=.returned v/\Ap w S l g v w1:=by
 refine cO hfn hbody ?_
 generalize ha0:Act.mk _ _=a0
 have hsz0:a0.tmps.size=4:=by rw[<-ha0];simp[hnt]
 have e0:a0.tmps.getD 0 undef=v0:=by rw[<-ha0,hnt];rfl
 have hd0:a0.defers=[]:=by rw[<-ha0]
 clear ha0
 have RA:=Cr (lk:=[]) (f:=fun i=>if i=0 then .d (.sl e) (.sl l) else .undef) hS hsz0 hd0 (fun t ht=>by
  by_cases h5:t=0
  ·subst h5;rw[if_pos rfl,e0];exact .inl ⟨by simp only[af];exact hne,⟨l,rfl,hwt⟩,hv⟩
  ·rw[if_neg h5];simp only[AR]) (fun t ht=>by rw[if_neg (by omega)])
 refine wpIn_seq (em hE _ .leaf D _ _ RA hv0 fun x s1 S1 γ1 β1 a1 w1 g1 g2 g3 g4=>?_)
 obtain⟨rfl,id,htm,hob⟩:=BT g4
 have hA:=(g1.slot htm (by simp)).2
 simp only[AR,AC] at hA
 obtain⟨hna,B,off,hB1,hγB,hB2⟩:=hA
 have hv1:a1.tmps.getD 1 undef=.pointer (some ⟨B,off,none⟩):=ao hna hB1
 have hoff:off=0:=(hB2 _ hob).2
 subst hoff
 have hO:=g1.obs id _ B hob hγB
 simp only[ii] at hO
 obtain⟨_,_,_,cs,q4,q5,q6⟩:=hO
 simp only[AC] at q5
 obtain⟨_,_,q7⟩:=q5
 have hl1:cs.length=1:=q6
 obtain⟨sv,rfl⟩:∃ sv,cs=[sv]:=by
  match cs,hl1 with
  | [sv],_=>exact⟨sv,rfl⟩
 have hcr:CR w1 S1 (.sl l) sv:=q7.2 0 _ sv (by simp[D.flat]) rfl
 have hsz1:a1.tmps.size=4:=by rw[g1.nt,g3.nt];rfl
 have hd1:=g1.df
 simp only[u9,Exit.then]
 refine wpIn_seq (wpIn_region_list ?_)
 rw[hR1]
 refine Ix (bN (dh (wpIn_ret ⟨by simp only[aT,hd1],_,(results_tmp hres _ _ _).trans ?_,_,rfl,B,S1,sv,rfl,g1.ext,?_,(g1.γn id B hγB).2,hcr,g1.Sb,fun b o hb hlt=>g1.So b o hb ⟨hlt,fun hf=>hf⟩⟩)))
 ·simp only[aF,bI,av,al,hsz1,hv1,reduceIte,Nat.reduceLT,Nat.reduceEqDiff]
 ·rw[bE w1 q4];rfl
theorem zk{f f93 f92 f95 g:Nat}{fn:Func}(hfn:P.funcs[f]?=some fn){i0 i1 i2:Nat}{R0 R1 R2:Array Oper}(hbody:fn.body=some (.seq (.region i0 R0 false) (.seq (.region i1 R1 false) (.seq (.region i2 R2 false) .ret))))(hnt:fn.ntmps=9)(hres:fn.results=#[.tmp 2])
  {y2 y3 y4 y5 y6 y7 y8 y9:TypeId} {p2 p3 p4 p5 p6 p7 p8 p9:String} {f2 f3 f4 f5 f6 f7 f8 f9:Array Edge} {ats ats2 ats3:Array TypeId} (hR0:R0.toList=[⟨some 2,.assign (.const (.slice none 0 0)),y2,p2,f2,none⟩])
  (hR1:R1.toList=[⟨some 4,.move (.tmp 0),y3,p3,f3,none⟩,⟨some 5,.call ⟨.value (.func f93),#[.tmp 4],ats⟩,y4,p4,f4,none⟩,⟨some 6,.call ⟨.value (.func f92),#[.tmp 5,.func g],ats2⟩,y5,p5,f5,none⟩,⟨some 3,.assign (.tmp 6),y6,p6,f6,none⟩])
  (hR2:R2.toList=[⟨some 7,.move (.tmp 3),y7,p7,f7,none⟩,⟨some 8,.call ⟨.value (.func f95),#[.tmp 7],ats3⟩,y8,p8,f8,none⟩,⟨some 2,.assign (.tmp 8),y9,p9,f9,none⟩])
  (hg93 : ∃ fn, P.funcs[f93]? = some fn /\ (fn.name == "runtime.NumGoroutine") = false /\ fn.body.isSome = true) (hg92 : ∃ fn, P.funcs[f92]? = some fn /\ (fn.name == "runtime.NumGoroutine") = false /\ fn.body.isSome = true) (hg95 : ∃ fn, P.funcs[f95]? = some fn /\ (fn.name == "runtime.NumGoroutine") = false /\ fn.body.isSome = true)
  {v0:Value} {w:World} {K1 K2 K3:Value->World->Prop} (h93:Calls P f93 #[v0] w fun en w1=>∃ v,en=.returned v/\K1 v w1) (h92:∀ v w1,K1 v w1->Calls P f92 #[v,.func (.func g) #[] #[]] w1 fun en w2=>∃ v,en=.returned v/\K2 v w2)
  (h95:∀ v w2,K2 v w2->Calls P f95 #[v] w2 fun en w3=>∃ v,en=.returned v/\K3 v w3):Calls P f #[v0] w fun en w3=>∃ v,en=.returned v/\K3 v w3:=by
 refine cO hfn hbody ?_
 generalize ha0:Act.mk _ _=a0
 have hsz0:a0.tmps.size=9:=by rw[<-ha0];simp[hnt]
 have e0:a0.tmps.getD 0 undef=v0:=by rw[<-ha0,hnt];rfl
 have hd0:a0.defers=[]:=by rw[<-ha0]
 clear ha0
 refine wpIn_seq (wpIn_region_list ?_)
 rw[hR0]
 refine bN (dh ?_)
 refine wpIn_seq (wpIn_region_list ?_)
 rw[hR1]
 refine co (lc hg93 _ ?_ h93 fun v w1 hv=>lc hg92 _ ?_ (h92 v w1 hv) fun v2 w2 hv2=>bN (dh ?_))
 ·simp only[List.map_toArray,List.map_cons,List.map_nil,aF,bI,av,al,hsz0,e0,reduceIte,Nat.reduceLT,Nat.reduceEqDiff]
 ·simp only[List.map_toArray,List.map_cons,List.map_nil,aF,bI,B9,av,al,hsz0,e0,reduceIte,Nat.reduceLT,Nat.reduceEqDiff]
 generalize ha2:Act.put _ (some 3) _=a2
 have hsz2:a2.tmps.size=9:=by rw[<-ha2];simp only[al,hsz0]
 have e3:a2.tmps.getD 3 undef=v2:=by rw[<-ha2];simp only[aF,bI,av,al,hsz0,reduceIte,Nat.reduceLT,Nat.reduceEqDiff]
 have hd2:a2.defers=[]:=by rw[<-ha2];simp only[aT,hd0]
 clear ha2
 refine wpIn_seq (wpIn_region_list ?_)
 rw[hR2]
 refine co (lc hg95 _ ?_ (h95 v2 w2 hv2) fun v3 w3 hv3=>bN (dh (wpIn_ret ⟨by simp only[aT,hd2],v3,(results_tmp hres _ _ _).trans ?_,v3,rfl,hv3⟩)))
 ·simp only[List.map_toArray,List.map_cons,List.map_nil,aF,bI,av,al,hsz2,e3,reduceIte,Nat.reduceLT,Nat.reduceEqDiff]
 ·simp only[aF,bI,av,al,hsz2,reduceIte,Nat.reduceLT,Nat.reduceEqDiff]
end
end Go.Proofs.YtjjjkojfijpeeaaGreat.Sy
end
section
set_option linter.unusedVariables false
namespace Go.Proofs.YtjjjkojfijpeeaaGreat.Sy
open Go Go.Proofs Go.Sort Go.Lib
theorem tM:∀ (l:List D) (x y z:D),(x::l).getLast?=some z->jM x (l++[y])=if y.beq z then jM x l else jM x l++[y]
 | [],x,y,z,h=>by
  simp at h
  subst h
  simp only[List.nil_append,jM]
 | w::l,x,y,z,h=>by
  have h':(w::l).getLast?=some z:=by simpa [List.getLast?_cons_cons] using h
  have ih:=tM l w y z h'
  simp only[List.cons_append,jM]
  rw[ih]
  split<;>split<;>rfl
theorem wa{l:List D}{j:Nat}{x y:D}(hx:l[j]?=some x)(hy:l[j+1]?=some y):iU (l.take (j+2))=if y.beq x then iU (l.take (j+1)) else iU (l.take (j+1))++[y]:=by
 cases l with
 | nil=>simp at hx
 | cons a l=>
  simp only[List.getElem?_cons_succ] at hy
  have e1:(a::l).take (j+2)=a::(l.take j++[y]):=by
   rw[List.take_succ_cons,List.take_add_one,hy];rfl
  have hlast:(a::l.take j).getLast?=some x:=by
   have hj:j<(a::l).length:=(List.getElem?_eq_some_iff.1 hx).1
   have e2:(a::l).take (j+1)=a::l.take j:=rfl
   rw[<-e2,List.getLast?_eq_getElem?,List.length_take]
   rw[show min (j+1) (a::l).length-1=j by omega,List.getElem?_take,if_pos (Nat.lt_succ_self j)]
   exact hx
  rw[e1]
  have:=tM (l.take j) a y x hlast
  simp only[iU,List.take_succ_cons]
  rw[this]
  split<;>rfl
theorem qy(x:D):∀ (l:List D),∀ y∈jM x l,y∈l
 | [],y,h=>by simp[jM] at h
 | z::l,y,h=>by
  simp only[jM] at h
  split at h
  ·exact List.mem_cons_of_mem _ (qy z l y h)
  ·rcases List.mem_cons.1 h with rfl|h
   ·exact List.mem_cons_self
   ·exact List.mem_cons_of_mem _ (qy z l y h)
theorem ww:∀ (l:List D),∀ y∈iU l,y∈l
 | [],y,h=>by simp[iU] at h
 | x::l,y,h=>by
  rcases List.mem_cons.1 h with rfl|h
  ·exact List.mem_cons_self
  ·exact List.mem_cons_of_mem _ (qy x l y h)
theorem rT{l:List D}(h:l.length<2):iU l=l:=by
 match l,h with
 | [],_=>rfl
 | [x],_=>rfl
def HL(e:Ty)(W:World)(b off:Nat)(M:List D):Prop:=(∃ row,bp W b=some row/\off+M.length*e.size<=row.size)/\∀ i d,(D.flats M)[i]?=some d->W.cell? ⟨b,off+i,none⟩=some (bf d)
theorem HL.lt{e:Ty}{W:World}{b off:Nat}{M:List D}(h:HL e W b off M):b<W.heap.size:=by
 obtain⟨⟨row,h1,_⟩,_⟩:=h
 unfold bp at h1
 cases hb:W.heap[b]? with
 | none=>rw[hb] at h1;cases h1
 | some o=>exact(Array.getElem?_eq_some_iff.1 hb).1
theorem HL.grow{e:Ty}{W:World}{b off:Nat}{M:List D}(h:HL e W b off M)(os:List Obj)(d:Nat):HL e (aw W os d) b off M:=by
 have hb:=h.lt
 obtain⟨⟨row,h1,h2⟩,h3⟩:=h
 have e1:bp (aw W os d) b=bp W b:=BA hb
 refine⟨⟨row,by rw[e1];exact h1,h2⟩,fun i x hx=>?_⟩
 rw[<-h3 i x hx]
 simp only[World.cell?,bW hb]
section
variable{e:Ty}(hce:aW e=true)(hne:af e=true)
include hce hne
theorem HL.crl{W:World}{b off:Nat}{M:List D}(h:HL e W b off M)(hwt:∀ x∈M,wt e x){j m cap:Nat}(hm:m=M.length-j)(hj:j<=M.length)(hc:m<=cap) :
  CR W (fun b' _=>b'=b) (.sl (M.drop j)) (.slice (some ⟨b,off+j*e.size,none⟩) m cap):=by
 have hlen:(M.drop j).length=m:=by rw[List.length_drop,hm]
 rw[<-hlen]
 have hlf:=fj hce (M.drop j) fun x hx=>hwt x (List.mem_of_mem_drop hx)
 have hfl:D.flats (M.drop j)=(D.flats M).drop (j*e.size):=by
  have h1:D.flats M=D.flats (M.take j)++D.flats (M.drop j):=by rw[<-bA,List.take_append_drop]
  have h2:(D.flats (M.take j)).length=j*e.size:=by
   rw[au hne _ fun x hx=>hwt x (List.mem_of_mem_take hx),List.length_take,Nat.min_eq_left hj]
  rw[h1,List.drop_append,h2,Nat.sub_self,List.drop_zero,List.drop_of_length_le (Nat.le_of_eq h2),List.nil_append]
 refine CR.of_elems (b:=b) (off:=off+j*e.size) (.inr rfl) (by omega) ⟨(D.flats (M.drop j)).map bf,(bq hlf).2 rfl,fun i c hc=>⟨rfl,?_⟩⟩
 rw[List.getElem?_map] at hc
 cases hd:(D.flats (M.drop j))[i]? with
 | none=>rw[hd] at hc;cases hc
 | some d=>
  rw[hd] at hc
  simp only[Option.map_some,Option.some.injEq] at hc
  subst hc
  rw[hfl,List.getElem?_drop] at hd
  have:=h.2 _ d hd
  rw[show off+j*e.size+i=off+(j*e.size+i) by omega]
  exact this
omit hce in
theorem HL.set{W:World}{b off:Nat}{M:List D}(h:HL e W b off M)(hwt:∀ x∈M,wt e x){k:Nat}(hk:k<M.length)(hp:0<e.size){x:D}(hx:wt e x) :
  HL e (bg W b (off+k*e.size) (x.flat.map bf).toArray) b off (M.set k x):=by
 obtain⟨⟨row,h1,h2⟩,h3⟩:=h
 have hxl:x.flat.length=e.size:=bu e x hx hne
 have hkm:k*e.size+e.size<=M.length*e.size:=by
  have:(k+1)*e.size<=M.length*e.size:=Nat.mul_le_mul_right _ hk
  rwa [Nat.add_mul,Nat.one_mul] at this
 have hs:off+k*e.size+(x.flat.map bf).toArray.size<=row.size:=by simp[hxl];omega
 refine⟨⟨_,dY h1,?_⟩,fun i d hd=>?_⟩
 ·rw[List.length_set]
  have:(cL row (off+k*e.size) (x.flat.map bf).toArray).size=row.size:=by
   simp only[cL,Array.size_append,Array.size_extract,List.size_toArray,List.length_map,hxl];omega
  omega
 ·rw[bE _ (dY h1),gS _ _ _ _ hs]
  have hu:∀ y∈M.set k x,y.flat.length=e.size:=fun y hy=>by
   rcases List.mem_or_eq_of_mem_set hy with hy|rfl
   ·exact bu e y (hwt y hy) hne
   ·exact hxl
  have hold:=h3 i
  rw[gO hp _ hu] at hd
  rw[gO hp _ fun y hy=>bu e y (hwt y hy) hne] at hold
  have hlt:i%e.size<e.size:=Nat.mod_lt _ hp
  have hdm:e.size*(i/e.size)+i%e.size=i:=Nat.div_add_mod i e.size
  rw[Nat.mul_comm] at hdm
  rw[List.getElem?_set] at hd
  by_cases hik:k=i/e.size
  ·rw[if_pos hik,if_pos hk] at hd
   simp only[Option.bind_some] at hd
   rw[<-hik] at hdm
   rw[if_neg (by omega),if_pos (by simp[hxl];omega)]
   have e1:off+i-(off+k*e.size)=i%e.size:=by omega
   rw[e1]
   simp[hd]
  ·rw[if_neg hik] at hd
   have:=hold d hd
   rw[bE _ h1] at this
   rw[<-this]
   rcases Nat.lt_or_ge (i/e.size) k with c|c
   ·have:(i/e.size+1)*e.size<=k*e.size:=Nat.mul_le_mul_right _ c
    rw[Nat.add_mul,Nat.one_mul] at this
    rw[if_pos (by omega)]
   ·have:(k+1)*e.size<=i/e.size*e.size:=Nat.mul_le_mul_right _ (by omega)
    rw[Nat.add_mul,Nat.one_mul] at this
    rw[if_neg (by omega),if_neg (by simp[hxl];omega)]
end
theorem HL.take{e:Ty}{W W':World}{b off:Nat}{M:List D}(hne:af e=true)(h:HL e W b off M)(hwt:∀ x∈M,wt e x){k:Nat}(hr:∃ row,bp W' b=some row/\off+(M.take k).length*e.size<=row.size)(hc:∀ o,o<off+k*e.size->W'.cell? ⟨b,o,none⟩=W.cell? ⟨b,o,none⟩):HL e W' b off (M.take k):=by
 refine⟨hr,fun i d hd=>?_⟩
 have h2:(D.flats (M.take k)).length<=k*e.size:=by
  rw[au hne _ fun x hx=>hwt x (List.mem_of_mem_take hx),List.length_take]
  exact Nat.mul_le_mul_right _ (Nat.min_le_left _ _)
 have h1:D.flats M=D.flats (M.take k)++D.flats (M.drop k):=by rw[<-bA,List.take_append_drop]
 have hi:=(List.getElem?_eq_some_iff.1 hd).1
 rw[hc _ (by omega)]
 refine h.2 i d ?_
 rw[h1,List.getElem?_append_left hi]
 exact hd
end Go.Proofs.YtjjjkojfijpeeaaGreat.Sy
end
section
set_option linter.unusedVariables false
namespace Go.Proofs.YtjjjkojfijpeeaaGreat.Sy
open Go Go.Proofs Go.Sort Go.Lib
section
variable{P:Program}{E:Env}{r:Root}{ro:Option Nat}{nn:Nat}
theorem gc(hE:EnvOk P E){c:Code}{ann:Ann}{W:World}{a:Act}{nt:Nat}{f:Nat->AV}{lk:List Nat}(hsz:a.tmps.size=nt)(hdf:a.defers=[]){S:Nat->Nat->Prop}(hS:∀ b o,S b o->b<W.heap.size)
  (hf:∀ t,t<nt->AR ⟨W,S,fun _=>none,fun _=>none,fun _=>none,[]⟩ (f t) (a.tmps.getD t undef)) (hu:∀ t,nt<=t->f t=.undef) {l:List (Nat×Ty)} {xs:List D} (hv:ev E c ann D (dS nt lk f) (kW l)=some (.tup xs)) {Q:Exit->Act->World->Prop}
  (hQ:∀ a' os d,W.drawn<=d->a'.tmps.size=nt->a'.defers=[]->(∀ t∈lk,a'.tmps.getD t undef=a.tmps.getD t undef)->(∀ (i t:Nat) (ty:Ty) (x:D),l[i]?=some (t,ty)->xs[i]?=some x->aW ty=true->a'.tmps.getD t undef=bf x)->Q .normal a' (aw W os d)):c.wpIn (FW ro) nn P Q a W:=by
 refine em hE c ann D _ _ (Cr hS hsz hdf hf hu) hv fun x s' S' γ' β' a2 w2 g1 g2 g3 g4=>?_
 obtain⟨rfl,g5⟩:=uM g4
 obtain⟨os,dd,hdd,rfl⟩:=bQ g1.ext (fun _ hf=>hf)
 exact hQ a2 os dd hdd (by rw[g1.nt,g3.nt];rfl) g1.df (fun t ht=>g2.slots t ht) fun i t ty x hi hx hc=>g1.word g5 hi hx hc
theorem fC{W:World}(h:dF r W){os:List Obj}{d:Nat}(hd:W.drawn<=d):dF r (aw W os d):=
 kq h rfl rfl rfl (by simp[aw]) hd fun b hb=>bW (Nat.lt_of_lt_of_le hb.1 h.sz)
theorem Au{W:World}(h:dF r W){b off:Nat}{cs:Array Value}(hb:¬ r.Old b):dF r (bg W b off cs):=
 kq h rfl rfl rfl (by simp[bg]) (Nat.le_refl _) fun b' hb'=>cF fun e=>hb (e ▸ hb')
theorem BC{T:TypeId}{e:Ty}(hl:bh P (.sl e) T=true)(hp:0<e.size){W:World}{b off m cap:Nat}{row:Array Value}(hr:bp W b=some row)(hs:off+m*e.size<=row.size)(hm:0<m)(ty:TypeId) :
  ∃ cs:Array Value,cs.size=m*e.size/\(Builtin.clear_ #[T] ty #[.slice (some ⟨b,off,none⟩) m cap]).run P W=.ok (.tuple #[]) (bg W b off cs):=by
 obtain⟨u,h1,h2⟩:=im hl
 obtain⟨z,z1,z2,_⟩:=gg h2
 have hzl:∀ (ds:List D) (cs:List Value),bP ds cs=true->ds.length=cs.length/\∀ v∈cs,v.oneCell'=true:=by
  intro ds
  induction ds with
  | nil=>intro cs h;cases cs with|nil=>exact⟨rfl,by simp⟩|cons c cs=>simp[bP] at h
  | cons d ds ih=>
   intro cs h
   cases cs with
   | nil=>simp[bP] at h
   | cons c cs=>
    simp only[bP,Bool.and_eq_true] at h
    obtain⟨k1,k2⟩:=ih cs h.2
    refine⟨by simp[k1],fun v hv=>?_⟩
    rcases List.mem_cons.1 hv with rfl|hv
    ·have:=h.1
     cases d<;>cases v<;>simp_all [yB,Value.oneCell']
    ·exact k2 v hv
 obtain⟨q1,q2⟩:=hzl _ _ z2
 have hn:af e=true:=aD e u h2
 have hzs:z.cells.size=e.size:=by
  rw[<-Array.length_toList,<-q1];exact bu e _ (cl e hn) hn
 have hcs:(Builtin.zeroCells z.cells m).size=m*e.size:=by simp[Builtin.zeroCells,hzs]
 refine⟨Builtin.zeroCells z.cells m,hcs,?_⟩
 have hst:=ce (P:=P) b off (Builtin.zeroCells z.cells m).toList 0 W row hr (by simp only[Array.length_toList,hcs];omega) (by
  rw[List.all_eq_true]
  intro v hv
  have hv':v∈Builtin.zeroCells z.cells m:=by simpa using hv
  obtain⟨i,hi,rfl⟩:=Array.getElem_of_mem hv'
  have hlt:i%z.cells.size<z.cells.size:=Nat.mod_lt _ (by omega)
  have hone:=q2 (z.cells[i%z.cells.size]) (by simp)
  simp only[Builtin.zeroCells,Array.getElem_map,Array.getElem_range]
  rw[getElem!_pos z.cells _ hlt]
  generalize z.cells[i%z.cells.size]=y at *
  cases y<;>simp_all [Value.oneCell',rR])
 simp only[Nat.add_zero] at hst
 obtain⟨m',rfl⟩:∃ m',m=m'+1:=⟨m-1,by omega⟩
 simp[Builtin.clear_,Sem.run_bind,run_underlying h1,Result.andThen_ok,z1,hst]
end
end Go.Proofs.YtjjjkojfijpeeaaGreat.Sy
end
section
set_option linter.unusedVariables false
namespace Go.Proofs.YtjjjkojfijpeeaaGreat.Sy
open Go Go.Proofs Go.Sort Go.Lib
section
variable{P:Program}{ro:Option Nat}{nn:Nat}{ops:Array Oper}{rest:List Oper}{a:Act}{w:World}{Q:Exit->Act->World->Prop}{d:Option Nat}{x y i:Operand}{ty:TypeId}{p:String}{fs:Array Edge}{T:TypeId}{e:Ty}
theorem rN(hl:bh P (.sl e) T=true){A:Option Addr}{len cap lo hi:Nat}{olo ohi:Option Operand}(hx:a.eval x=.slice A len cap)(h1:lo<=hi)(h2:hi<=len)(h3:len<=cap)
  (hlo:(olo=none/\lo=0)\/∃ o,olo=some o/\a.eval o=.int .i64 (lo:Nat)) (hhi:(ohi=none/\hi=len)\/∃ o,ohi=some o/\a.eval o=.int .i64 (hi:Nat))
  (h:wpListIn (FW ro) nn P ops Q rest (a.put d (.slice (if cap=lo then A else A.map (·.add (lo*e.size))) (hi-lo) (cap-lo))) w):wpListIn (FW ro) nn P ops Q (⟨d,.slice T x olo ohi none,ty,p,fs,none⟩::rest) a w:=by
 refine gB (K:=fun v w'=>v=.slice (if cap=lo then A else A.map (·.add (lo*e.size))) (hi-lo) (cap-lo)/\w=w') rfl (cD.value (dL (m:=Instr.sliceAt T (a.eval x) (olo.map a.eval) (ohi.map a.eval) none) rfl ?_) ⟨rfl,rfl⟩) ?_
 ·rw[hx]
  refine mJ hl h1 h2 h3 ?_ ?_ w
  ·rcases hlo with⟨rfl,rfl⟩|⟨o,rfl,h⟩
   ·exact .inl ⟨rfl,rfl⟩
   ·exact .inr ⟨.i64,by rw[Option.map_some,h]⟩
  ·rcases hhi with⟨rfl,rfl⟩|⟨o,rfl,h⟩
   ·exact .inl ⟨rfl,rfl⟩
   ·exact .inr ⟨.i64,by rw[Option.map_some,h]⟩
 rintro _ _ ⟨rfl,rfl⟩
 exact h
theorem xk(hl:bh P (.sl e) T=true){b off len cap k:Nat}(hx:a.eval x=.slice (some ⟨b,off,none⟩) len cap)(hi:a.eval i=.int .i64 (k:Nat))(hk:k<len)
  (h:wpListIn (FW ro) nn P ops Q rest (a.put d (.pointer (some ⟨b,off+k*e.size,none⟩))) w):wpListIn (FW ro) nn P ops Q (⟨d,.indexAddr T x i,ty,p,fs,none⟩::rest) a w:=by
 refine gB (K:=fun v w'=>v=.pointer (some ⟨b,off+k*e.size,none⟩)/\w=w') rfl (cD.value (dL (m:=Instr.indexAt T (a.eval x) (a.eval i)) rfl ?_) ⟨rfl,rfl⟩) ?_
 ·rw[hx,hi];exact gX hl hk b off w
 rintro _ _ ⟨rfl,rfl⟩
 exact h
theorem Fp(hl:bh P e T=true){b off:Nat}{cs:List Value}(hx:a.eval x=.pointer (some ⟨b,off,none⟩))(hlen:cs.length=e.size)(hn:nag cs)(hc:∀ (i:Nat) (c:Value),cs[i]?=some c->w.cell? ⟨b,off+i,none⟩=some c)
  (h:∀ v,fa e cs v->wpListIn (FW ro) nn P ops Q rest (a.put d v) w):wpListIn (FW ro) nn P ops Q (⟨d,.load T x,ty,p,fs,none⟩::rest) a w:=by
 obtain⟨v,h1,h2⟩:=dO (P:=P) hl hlen hn hc
 refine gB (K:=fun v' w'=>v'=v/\w=w') rfl (cD.value (dL (m:=Instr.loadAt T (a.eval x)) rfl ?_) ⟨rfl,rfl⟩) ?_
 ·rw[hx];exact h1
 rintro _ _ ⟨rfl,rfl⟩
 exact h _ h2
theorem CI(hl:bh P e T=true){b off:Nat}{c:Array Value}{v:Value}{cs:List Value}(hx:a.eval x=.pointer (some ⟨b,off,none⟩))(hy:a.eval y=v)(hr:bp w b=some c)(hv:fa e cs v)(hlen:cs.length=e.size)(hn:nag cs)(hb:off+cs.length<=c.size)
  (h:wpListIn (FW ro) nn P ops Q rest a (bg w b off cs.toArray)):wpListIn (FW ro) nn P ops Q (⟨none,.store T x y,ty,p,fs,none⟩::rest) a w:=by
 have h1:=jE (P:=P) hl hr hv hlen hn hb
 refine gB (K:=fun v' w'=>w'=bg w b off cs.toArray) rfl (cD.skip (w':=bg w b off cs.toArray) ?_ rfl) ?_
 ·simp only[execOp,hx,hy,Sem.run_bind,h1,Result.andThen_ok,Sem.run_pure]
 rintro _ _ rfl
 exact h
theorem DL(hl:bh P (.sl e) T=true)(hp:0<e.size){b off m cap:Nat}{row:Array Value}(hx:a.eval x=.slice (some ⟨b,off,none⟩) m cap)(hr:bp w b=some row)(hs:off+m*e.size<=row.size)(hm:0<m)
  (h:∀ cs:Array Value,cs.size=m*e.size->∀ v,wpListIn (FW ro) nn P ops Q rest (a.put d v) (bg w b off cs)):wpListIn (FW ro) nn P ops Q (⟨d,.call ⟨.builtin .clear,#[x],#[T]⟩,ty,p,fs,none⟩::rest) a w:=by
 obtain⟨cs,h1,h2⟩:=BC (P:=P) (cap:=cap) hl hp hr hs hm ty
 refine gB (K:=fun v' w'=>w'=bg w b off cs) rfl (cD.value (v:=.tuple #[]) (w':=bg w b off cs) ?_ rfl) ?_
 ·simp[execOp,resolve,invoke,builtin,hx,h2,Sem.run_bind,Result.andThen_ok]
 rintro v _ rfl
 exact h cs h1 v
end
end Go.Proofs.YtjjjkojfijpeeaaGreat.Sy
end
