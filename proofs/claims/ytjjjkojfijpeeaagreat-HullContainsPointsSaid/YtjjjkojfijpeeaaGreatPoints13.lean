/- HullContainsPoints answers true at every input, and the input reads afterwards as it read before (HullContainsPointsSaid). No condition. -/
import Derived.Test.YtjjjkojfijpeeaaGreatPoints01
import Derived.Test.YtjjjkojfijpeeaaGreatPoints09
import Derived.Test.YtjjjkojfijpeeaaGreatPoints10
import Derived.Test.YtjjjkojfijpeeaaGreatPoints12
import Derived.Test.YtjjjkojfijpeeaaGreatRows
import Derived.ProofKit
set_option linter.unusedVariables false
set_option linter.unusedSimpArgs false
set_option linter.unnecessarySimpa false
section
set_option linter.unusedVariables false
namespace Go.Proofs.YtjjjkojfijpeeaaGreat.Sy
open Go Go.Proofs Go.Proofs.YtjjjkojfijpeeaaGreat.Geo
theorem NT(n:Nat)(a0:D):cA (n+1) 44 [a0]=nM bg (cA n) [a0]:=by kernel_rfl
theorem Oa(n:Nat)(p q:V):cA (n+3) 94 [aj p,aj q]=some (I (rB [ba p.x q.x,ba p.y q.y,ba p.z q.z])):=by
 rw[MH]
 unfold Iz
 simp only[wI,vq,wi,Option.bind_some,HN,GY,Mn (n+1) [ba p.x q.x,ba p.y q.y,ba p.z q.z] (by simp)]
theorem xW(n:Nat)(p q:V):oM (cm bg (cA (n+3)) (fj bg (cA (n+3)))) 94 (aj p) (aj q)=some (rB [ba p.x q.x,ba p.y q.y,ba p.z q.z]):=by
 unfold oM
 rw[show(cm bg (cA (n+3)) (fj bg (cA (n+3)))).call=cA (n+3) from rfl,Oa]
 rfl
theorem FS(n:Nat):∀ (L:List V),L.Pairwise ar->jn (cm bg (cA (n+3)) (fj bg (cA (n+3)))) 94 (L.map aj)=true
 | [],_=>rfl
 | p::L,h=>by
  obtain⟨h1,h2⟩:=List.pairwise_cons.1 h
  simp only[List.map_cons,jn,Bool.and_eq_true,List.all_eq_true,List.mem_map]
  refine⟨⟨?_,?_⟩,FS n L h2⟩
  ·simp only[A3,xW,ui];decide
  ·rintro _ ⟨q,hq,rfl⟩
   simp only[jJ,A3,xW,uj (h1 q hq),uo (h1 q hq)];decide
theorem HH(n:Nat)(p q:V):jJ (cm bg (cA (n+3)) (fj bg (cA (n+3)))) 94 (aj p) (aj q)=decide (ar p q):=by
 simp only[jJ,xW]
 by_cases h:ar p q
 ·rw[uj h,decide_eq_true h];decide
 ·rw[decide_eq_false h]
  by_cases e:p=q
  ·subst e;rw[ui];decide
  ·rw[uo ((gw e).resolve_left h)];decide
def rD(x:V):List V->List V
 | []=>[x]
 | y::l=>if ar x y then x::y::l else y::rD x l
def sortV:List V->List V
 | []=>[]
 | x::l=>rD x (sortV l)
def Bf(x:V):List V->List V
 | []=>[]
 | y::l=>if y=x then Bf y l else y::Bf y l
def HR:List V->List V
 | []=>[]
 | x::l=>x::Bf x l
theorem C5(n:Nat)(x:V):∀ l:List V,tP (jJ (cm bg (cA (n+3)) (fj bg (cA (n+3)))) 94) (aj x) (l.map aj)=(rD x l).map aj
 | []=>rfl
 | y::l=>by
  simp only[List.map_cons,tP,rD,HH]
  by_cases h:ar x y
  ·rw[if_pos (decide_eq_true h),if_pos h];rfl
  ·rw[if_neg (by simpa using h),if_neg h,C5 n x l];rfl
theorem zh(n:Nat):∀ l:List V,fO (jJ (cm bg (cA (n+3)) (fj bg (cA (n+3)))) 94) (l.map aj)=(sortV l).map aj
 | []=>rfl
 | x::l=>by simp only[List.map_cons,fO,sortV,zh n l,C5]
theorem KP(a b:V):D.beq (aj a) (aj b)=decide (a=b):=by
 simp only[aj,D.beq,D.beqs,cV,Bool.and_true]
 cases a;cases b
 simp only[V.mk.injEq]
 grind
theorem qY(x:V):∀ l:List V,jk (aj x) (l.map aj)=(Bf x l).map aj
 | []=>rfl
 | y::l=>by
  simp only[List.map_cons,jk,Bf,KP]
  by_cases h:y=x
  ·rw[if_pos (decide_eq_true h),if_pos h,qY y l]
  ·rw[if_neg (by simpa using h),if_neg h,qY y l];rfl
theorem vU:∀ l:List V,ip (l.map aj)=(HR l).map aj
 | []=>rfl
 | x::l=>by simp only[List.map_cons,ip,HR,qY]
theorem pu{x z:V}:∀ {l:List V},z∈rD x l↔z=x\/z∈l
 | []=>by simp[rD]
 | y::l=>by
  simp only[rD]
  split
  ·simp
  ·simp only[List.mem_cons,pu (l:=l)];grind
theorem tb{z:V}:∀ {l:List V},z∈sortV l↔z∈l
 | []=>by simp[sortV]
 | x::l=>by simp only[sortV,pu,tb (l:=l),List.mem_cons]
theorem zd{x:V}:∀ {l:List V},l.Pairwise (fun a b=>¬ ar b a)->(rD x l).Pairwise (fun a b=>¬ ar b a)
 | [],_=>by simp[rD]
 | y::l,h=>by
  obtain⟨h1,h2⟩:=List.pairwise_cons.1 h
  simp only[rD]
  split
  ·rename_i hxy
   refine List.pairwise_cons.2 ⟨fun z hz hlt=>?_,h⟩
   rcases List.mem_cons.1 hz with rfl|hz
   ·exact iK _ _ hxy hlt
   ·exact h1 z hz (ii hlt hxy)
  ·rename_i hxy
   refine List.pairwise_cons.2 ⟨fun z hz=>?_,zd h2⟩
   rcases pu.1 hz with rfl|hz
   ·exact hxy
   ·exact h1 z hz
theorem vM:∀ l:List V,(sortV l).Pairwise (fun a b=>¬ ar b a)
 | []=>.nil
 | x::l=>zd (vM l)
theorem yO{z:V}:∀ {l:List V} {x:V},z∈x::Bf x l↔z∈x::l
 | [],x=>by simp[Bf]
 | y::l,x=>by
  have ih:=yO (z:=z) (l:=l) (x:=y)
  simp only[Bf]
  split
  ·rename_i h
   subst h
   simp only[List.mem_cons] at ih ⊢;grind
  ·simp only[List.mem_cons] at ih ⊢;grind
theorem DX{z:V}:∀ {l:List V},z∈HR l↔z∈l
 | []=>by simp[HR]
 | x::l=>yO
theorem yT:∀ {l:List V} {x:V},(x::l).Pairwise (fun a b=>¬ ar b a)->(x::Bf x l).Pairwise ar
 | [],x,_=>by simp[Bf]
 | y::l,x,h=>by
  obtain⟨h1,h2⟩:=List.pairwise_cons.1 h
  have ih:=yT h2
  simp only[Bf]
  split
  ·rename_i e
   subst e
   exact ih
  ·rename_i hne
   refine List.pairwise_cons.2 ⟨fun z hz=>?_,ih⟩
   have hxy:ar x y:=(gw (fun e=>hne e.symm)).resolve_right (h1 y List.mem_cons_self)
   rcases List.mem_cons.1 hz with rfl|hz'
   ·exact hxy
   ·exact ii hxy ((List.pairwise_cons.1 ih).1 z hz')
theorem sX(l:List V):HR (sortV l)=bt l:=by
 refine kC (r:=ar) dG iK ?_ (cW l) fun z=>?_
 ·have:=vM l
  cases h:sortV l with
  | nil=>exact .nil
  | cons x m=>rw[h] at this;exact yT this
 ·rw[DX,tb,eX]
theorem M2(n:Nat)(l:List V)(hlen:l.length<=1073741824):cA (n+4) 44 [bA l]=some (bA (bt l)):=by
 rw[NT]
 show(if decide ((l.map aj).length<=1073741824) then _ else none)=_
 rw[if_pos (decide_eq_true (by rw[List.length_map];exact hlen))]
 unfold pG
 rw[zh,vU,sX,FS n _ (cW l),if_pos rfl,Option.bind_some,vU,sX]
 rfl
end Go.Proofs.YtjjjkojfijpeeaaGreat.Sy
end
section
set_option linter.unusedVariables false
namespace Go.Proofs.YtjjjkojfijpeeaaGreat.Sy
open Go Go.Proofs Go.Proofs.YtjjjkojfijpeeaaGreat.Geo
def ES(e:Int):D:=.tup [.st [.sl []],I e]
theorem Gf{p:V}{α:Type}{k:Nat×List D->Option α}{y:α}(hy:k (if bd MV p then(1,[.sl []]) else(0,[I 1,.sl []]))=some y) :
  Option.bind (bg (fun(v11:List D)=>
 Option.bind (D.bin .lss (gx v11 0) (D.int .i64 3)) fun x12=>
 Option.bind (D.truth x12) fun b13=>
 if b13 then(Option.bind (D.idx (gx v11 0) 3) fun i14=>
 Option.bind (D.fld (aj p) i14) fun x15=>
 Option.bind (D.bin .gtr x15 (D.int .i64 262144)) fun x16=>
 Option.bind (D.truth x16) fun b17=>
 Option.bind (if b17 then(some true) else(Option.bind (D.bin .lss x15 (D.int .i64 (-262144))) fun x18=>
 D.truth x18)) fun b19=>
 Option.bind (D.truth (D.bool b19)) fun b20=>
 if b20 then(some (Sum.inr (0,[(D.int .i64 1),(D.sl [])]))) else(Option.bind (D.bin .add (gx v11 0) (D.int .i64 1)) fun x21=>
 some (Sum.inl [x21,(D.sl (D.els (gx v11 1)))]))) else(some (Sum.inr (1,[(D.sl (D.els (gx v11 1)))])))) [(D.int .i64 0),.sl []]) k=some y:=by
 refine fJ (fun t s=>s=[I (t:Int),.sl []]/\∀ t',t'<t->¬ (mC p t'>262144)/\¬ (mC p t' < -262144)) 3 0 (by decide) ⟨rfl,fun t' h=>by omega⟩ (fun t ht s hJ=>?_) (fun s hJ=>?_)
 ·obtain⟨rfl,hz⟩:=hJ
  have hf:=Bx p ht
  have ix:D.idx (I (t:Int)) 3=some t:=aE ht
  have pre:∀ z,(if decide (mC p t>262144\/mC p t < -262144)=true then(some (Sum.inr (0,[(D.int .i64 1),(D.sl [])]))) else(Option.bind (D.bin .add (I (t:Int)) (D.int .i64 1)) fun x21=>some (Sum.inl [x21,.sl []])))=some z->_:=fun(z:Sum (List D) (Nat×List D)) hz'=>
   aa (g:=fun x12=>Option.bind (D.truth x12) fun b13=>if b13 then(Option.bind (D.idx (I (t:Int)) 3) fun i14=>Option.bind (D.fld (aj p) i14) fun x15=>Option.bind (D.bin .gtr x15 (D.int .i64 262144)) fun x16=>Option.bind (D.truth x16) fun b17=>
    Option.bind (if b17 then(some true) else(Option.bind (D.bin .lss x15 (D.int .i64 (-262144))) fun x18=>D.truth x18)) fun b19=>
    Option.bind (D.truth (D.bool b19)) fun b20=>
    if b20 then(some (Sum.inr (0,[(D.int .i64 1),(D.sl [])]))) else(Option.bind (D.bin .add (I (t:Int)) (D.int .i64 1)) fun x21=>some (Sum.inl [x21,.sl []]))) else(some (Sum.inr (1,[.sl []]))))
    (am (a:=(t:Int)) (b:=3)) (y:=z) (aa ag (aZ (by omega) (aa ix (aa hf (aa ff (aa ag (aa (z:=decide (mC p t>262144\/mC p t < -262144)) (by
     by_cases h1:mC p t>262144
     ·refine aZ h1 ?_
      rw[decide_eq_true (.inl h1)]
     ·refine aY h1 (aa am ?_)
      rw[ag];congr 1;rw[decide_eq_decide];exact⟨.inr,fun h=>h.resolve_left h1⟩) (aa ag hz'))))))))
  by_cases hb:mC p t>262144\/mC p t < -262144
  ·right
   refine⟨_,pre _ (aZ hb rfl),?_⟩
   rw[if_neg (fun h=>by have:=yz.1 h t ht;omega)] at hy
   exact hy
  ·left
   refine⟨[I ((t+1:Nat):Int),.sl []],pre _ (aY hb (aa (aS (aK (i:=t) (by omega))) rfl)),rfl,fun t' ht'=>?_⟩
   by_cases e:t'=t
   ·subst e;omega
   ·exact hz t' (by omega)
 ·obtain⟨rfl,hz⟩:=hJ
  refine⟨(1,[.sl []]),aa am (aa ag (aY (by decide) rfl)),?_⟩
  rw[if_pos (yz.2 hz)] at hy
  exact hy
theorem E2(n:Nat){l:List V}(hlen:l.length<=64)(hb:¬ ∀ x∈l,bd MV x):cA (n+1) 11 [bA l]=some (ES 1):=by
 rw[H3]
 unfold GP
 refine aa (z:=l.map aj) rfl (aa ff (aa ag (aY (by show ¬ ((l.map aj).length:Int)>64;rw[aB];omega) (aa (z:=l.map aj) rfl ?_))))
 refine bq (fun i s=>s=[I (i:Int),.sl []]/\∀ x∈l.take i,bd MV x) l.length 0 (Nat.zero_le _) ⟨rfl,by simp⟩ (fun i hi s hJ=>?_) (fun s hJ=>?_)
 ·obtain⟨rfl,hz⟩:=hJ
  by_cases hx:bd MV (l.getD i V.zero)
  ·left
   refine⟨[I ((i+1:Nat):Int),.sl []],?_,rfl,fun x hx'=>?_⟩
   ·refine aa am (aa ag (aZ (by show((i:Int)<((l.map aj).length:Int));rw[aB];omega) (aa (z:=l.map aj) rfl (aa (z:=i) (by rw[aB];exact aE hi) (aa (hG hi) (Gf ?_))))))
    rw[if_pos hx,if_neg (show ¬ (1:Nat)=0 by decide)]
    exact aa (aS (aK (i:=i) (by omega))) rfl
   ·rw[List.take_succ_eq_append_getElem hi] at hx'
    rcases List.mem_append.1 hx' with h|h
    ·exact hz x h
    ·rw[List.mem_singleton.1 h];simpa [List.getD,hi] using hx
  ·right
   refine⟨(0,[I 1,.sl []]),?_,rfl⟩
   refine aa am (aa ag (aZ (by show((i:Int)<((l.map aj).length:Int));rw[aB];omega) (aa (z:=l.map aj) rfl (aa (z:=i) (by rw[aB];exact aE hi) (aa (hG hi) (Gf ?_))))))
   rw[if_neg hx];rfl
 ·obtain⟨rfl,hz⟩:=hJ
  rw[List.take_length] at hz
  exact absurd hz hb
end Go.Proofs.YtjjjkojfijpeeaaGreat.Sy
end
section
set_option linter.unusedVariables false
namespace Go.Proofs.YtjjjkojfijpeeaaGreat.Sy
open Go Go.Proofs Go.Proofs.YtjjjkojfijpeeaaGreat.Geo
def od(g:Nat->Bool)(N:Nat):List D:=(List.range N).map fun i=>D.bool (g i)
theorem kj(g:Nat->Bool)(N:Nat):(od g N).length=N:=by simp[od]
theorem pa{g:Nat->Bool}{N i:Nat}(h:i<N):(od g N)[i]?=some (.bool (g i)):=by simp[od,h]
theorem Dj{g:Nat->Bool}{N a:Nat}:(od g N).set a (.bool true)=od (fun i=>g i||decide (a=i)) N:=by
 apply List.ext_getElem?
 intro i
 rw[List.getElem?_set]
 rcases Nat.lt_or_ge i N with h|h
 ·rw[pa h,pa h,kj]
  by_cases e:a=i
  ·subst e;rw[if_pos rfl,if_pos h];simp
  ·rw[if_neg e];simp[e]
 ·rw[List.getElem?_eq_none (by rw[kj];exact h),List.getElem?_eq_none (by rw[kj];exact h)]
  split
  ·rw[if_neg (by rw[kj];omega)]
  ·rfl
theorem nR{g g':Nat->Bool}{N:Nat}(h:∀ i,g i=g' i):od g N=od g' N:=by rw[show g=g' from funext h]
theorem Cr(N:Nat):od (fun _=>false) N=List.replicate N (D.bool false):=by
 unfold od
 apply List.ext_getElem?
 intro i
 rcases Nat.lt_or_ge i N with h|h
 ·simp[h]
 ·simp[h]
def vB(S:List V)(F:FL):D:=if F.length<4 then ES 120 else if F.length>64 then ES 2 else .tup [.st [bA (cq S F S.length)],I 0]
theorem Cg(n:Nat){l S:List V}(hlen:l.length<=64)(hl:∀ x∈l,bd MV x)(hSl:S.length<=64){F:FL}(hpl:∀ f∈F,f.2.length<=1000000/\∀ x∈f.2,x<S.length)(hFl:F.length<=3000000)(h44:cA n 44 [bA l]=some (bA S))
  (h45:cA n 45 [bA S]=some (.sl (F.map fun f=>bi f.1))) (h46:∀ f∈F,cA n 46 [bA S,bi f.1]=some (.sl (ab f.2))):cA (n+1) 11 [bA l]=some (vB S F):=by
 rw[H3]
 unfold GP
 have ll:(F.map fun f=>bi f.1).length=F.length:=List.length_map ..
 refine aa (z:=l.map aj) rfl (aa ff (aa ag (aY (by show ¬ ((l.map aj).length:Int)>64;rw[aB];omega) (aa (z:=l.map aj) rfl ?_))))
 refine bq (fun i s=>s=[I (i:Int),.sl []]) l.length 0 (Nat.zero_le _) rfl (fun i hi s hJ=>?_) (fun s hJ=>?_)
 ·subst hJ
  left
  refine⟨[I ((i+1:Nat):Int),.sl []],?_,rfl⟩
  refine aa am (aa ag (aZ (by show((i:Int)<((l.map aj).length:Int));rw[aB];omega) (aa (z:=l.map aj) rfl (aa (z:=i) (by rw[aB];exact aE hi) (aa (hG hi) (Gf ?_))))))
  have hx:bd MV (l.getD i V.zero):=hl _ (gC hi)
  rw[if_pos hx,if_neg (show ¬ (1:Nat)=0 by decide)]
  exact aa (aS (aK (i:=i) (by omega))) rfl
 ·subst hJ
  refine⟨(1,[.sl []]),aa am (aa ag (aY (by show ¬ ((l.length:Int)<((l.map aj).length:Int));rw[aB];omega) rfl)),?_⟩
  rw[if_neg (show ¬ (1:Nat)=0 by decide)]
  refine aa h44 (aa h45 (aa (z:=F.map fun f=>bi f.1) rfl (aa am (aa ag ?_))))
  unfold vB
  by_cases h4:F.length<4
  ·refine aZ (by rw[ll];omega) ?_
   rw[if_pos h4];rfl
  refine aY (by rw[ll];omega) (aa (z:=F.map fun f=>bi f.1) rfl (aa ff (aa ag ?_)))
  rw[if_neg h4]
  by_cases h64:F.length>64
  ·refine aZ (by rw[ll];omega) ?_
   rw[if_pos h64];rfl
  refine aY (by rw[ll];omega) (aa (z:=S.map aj) rfl (aa (z:=S.length) (by rw[aB];simp[D.natOf]) ?_))
  rw[if_neg h64,if_pos (by omega)]
  refine aa (z:=F.map fun f=>bi f.1) rfl ?_
  refine fJ (fun k s=>s=[I (k:Int),.sl [],.sl (od (fp (F.take k)) S.length)]) F.length 0 (Nat.zero_le _) ?_ (fun k hk s hJ=>?_) (fun s hJ=>?_)
  ·rw[show od (fp (F.take 0)) S.length=List.replicate S.length (D.bool false) from Cr S.length];rfl
  ·subst hJ
   left
   refine⟨[I ((k+1:Nat):Int),.sl [],.sl (od (fp (F.take (k+1))) S.length)],?_,rfl⟩
   obtain⟨hp1,hp2⟩:=hpl F[k] (List.getElem_mem hk)
   have e1:∀ i,fp (F.take (k+1)) i=(fp (F.take k) i||F[k].2.any fun x=>decide (x=i)):=fun i=>by
    unfold fp;rw[List.take_succ_eq_append_getElem hk,List.any_append];simp
   refine aa am (aa ag (aZ (by show((k:Int)<((F.map fun f=>bi f.1).length:Int));rw[ll];omega) ?_))
   have hg:(F.map fun f=>bi f.1)[k]?=some (bi F[k].1):=by simp[hk]
   refine aa (z:=F.map fun f=>bi f.1) rfl (aa (z:=k) (by rw[ll];exact aE hk) (aa hg (aa (h46 F[k] (List.getElem_mem hk)) (aa (z:=ab F[k].2) rfl ?_))))
   rw[nR e1]
   generalize fp (F.take k)=g0
   obtain⟨p,hp⟩:∃ p,F[k].2=p:=⟨_,rfl⟩
   rw[hp] at hp1 hp2 ⊢
   refine fJ (fun j s=>s=[I (j:Int),.sl [],.sl (od (fun i=>g0 i||(p.take j).any fun x=>decide (x=i)) S.length)]) p.length 0 (Nat.zero_le _) (by rw[show od (fun i=>g0 i||(p.take 0).any fun x=>decide (x=i)) S.length=od g0 S.length from nR fun i=>by simp];rfl) (fun j hj s hJ=>?_) (fun s hJ=>?_)
   ·subst hJ
    left
    refine⟨[I ((j+1:Nat):Int),.sl [],.sl (od (fun i=>g0 i||(p.take (j+1)).any fun x=>decide (x=i)) S.length)],?_,rfl⟩
    have hpj:=hp2 p[j] (List.getElem_mem hj)
    have hD:p.getD j 0=p[j]:=by simp[List.getD,hj]
    refine aa am (aa ag (aZ (by show((j:Int)<((ab p).length:Int));rw[ah];omega) (aa (z:=ab p) rfl (aa (z:=j) (by rw[ah];exact aE hj) (aa (lu hj) ?_)))))
    rw[hD]
    refine aa (z:=p[j]) (by show D.idx (I (p[j]:Int)) (od _ S.length).length=_;rw[kj];exact aE hpj) (aa (pa hpj) (aa (aS (aK (i:=j) (by omega))) ?_))
    have:(od (fun i=>g0 i||(p.take j).any fun x=>decide (x=i)) S.length).set p[j] (D.bool true)=od (fun i=>g0 i||(p.take (j+1)).any fun x=>decide (x=i)) S.length:=by
     rw[Dj]
     refine nR fun i=>?_
     rw[List.take_succ_eq_append_getElem hj,List.any_append]
     simp[Bool.or_assoc]
    rw[<-this];rfl
   ·subst hJ
    rw[List.take_length]
    refine⟨(0,[.sl [],.sl (od (fun i=>g0 i||p.any fun x=>decide (x=i)) S.length)]),aa am (aa ag (aY (by show ¬ ((p.length:Int)<((ab p).length:Int));rw[ah];omega) rfl)),?_⟩
    exact aa (aS (aK (i:=k) (by omega))) rfl
  ·subst hJ
   rw[List.take_length]
   refine⟨(0,[.sl [],.sl (od (fp F) S.length)]),aa am (aa ag (aY (by show ¬ ((F.length:Int)<((F.map fun f=>bi f.1).length:Int));rw[ll];omega) rfl)),?_⟩
   refine aa (z:=S.map aj) rfl ?_
   refine fJ (fun i s=>s=[I (i:Int),.sl [],.sl (od (fp F) S.length),bA (cq S F i)]) S.length 0 (Nat.zero_le _) rfl (fun i hi s hJ=>?_) (fun s hJ=>?_)
   ·subst hJ
    left
    refine⟨[I ((i+1:Nat):Int),.sl [],.sl (od (fp F) S.length),bA (cq S F (i+1))],?_,rfl⟩
    have hvl:=zM S F i
    refine aa am (aa ag (aZ (by show((i:Int)<((S.map aj).length:Int));rw[aB];omega) ?_))
    refine aa (z:=(0,[.sl [],.sl (od (fp F) S.length),bA (cq S F (i+1))])) ?_ (aa (aS (aK (i:=i) (by omega))) rfl)
    refine aa (z:=S.map aj) rfl (aa (z:=i) (by rw[aB];exact aE hi) (aa (hG hi) (aa (z:=i) (by show D.idx (I (i:Int)) (od _ S.length).length=_;rw[kj];exact aE hi) (aa (pa hi) (aa ag ?_)))))
    rw[yg]
    cases fp F i
    ·rfl
    ·rw[if_pos rfl,if_pos rfl]
     rw[if_pos (by show((cq S F i).map aj).length+1<=1073741824;rw[aB];omega)]
     have:D.sl ((cq S F i).map aj++[aj (S.getD i V.zero)])=bA (cq S F i++[pt S i]):=by simp[bA,pt]
     rw[<-this];rfl
   ·subst hJ
    refine⟨(0,[.sl [],bA (cq S F S.length)]),?_,rfl⟩
    exact aa am (aa ag (aY (by show ¬ ((S.length:Int)<((S.map aj).length:Int));rw[aB];omega) rfl))
end Go.Proofs.YtjjjkojfijpeeaaGreat.Sy
end
section
set_option linter.unusedVariables false
namespace Go.Proofs.YtjjjkojfijpeeaaGreat.Sy
open Go Go.Proofs Go.Proofs.YtjjjkojfijpeeaaGreat.Geo
end Go.Proofs.YtjjjkojfijpeeaaGreat.Sy
end
section
set_option linter.unusedVariables false
namespace Go.Proofs.YtjjjkojfijpeeaaGreat.Sy
open Go Go.Proofs Go.Proofs.YtjjjkojfijpeeaaGreat.Geo
theorem ft{S:List V}(hS:C9 S){F:FL}(hK:KnF S S.length 0 0 F){k:Nat}:fp F k=true↔uF (pt S) S.length k:=by
 constructor
 ·intro h
  obtain⟨f,hf,h2⟩:=List.any_eq_true.1 h
  obtain⟨x,hx,hxk⟩:=List.any_eq_true.1 h2
  have hxk:x=k:=by simpa using hxk
  subst hxk
  obtain⟨q1,q2⟩:=hK.fok.ok f hf
  obtain⟨p,p1,_,p3⟩:=q1.poly hS
  rw[<-aN.eq hS q1 q2 p1] at p3
  obtain⟨r1,r2⟩:=(p3 x).1 hx
  exact⟨_,_,q1,r1,r2⟩
 ·rintro⟨m,d,hF,h1,h2⟩
  have hq:(m,d)∈F.map Prod.fst:=(hK.facets.mem (m,d)).2 hF
  obtain⟨f,hf,hfe⟩:=List.mem_map.1 hq
  obtain⟨q1,q2⟩:=hK.fok.ok f hf
  rw[hfe] at q1 q2
  obtain⟨p,p1,_,p3⟩:=q1.poly hS
  rw[<-aN.eq hS q1 q2 p1] at p3
  exact List.any_eq_true.2 ⟨f,hf,List.any_eq_true.2 ⟨k,(p3 k).2 ⟨h1,h2⟩,by simp⟩⟩
end Go.Proofs.YtjjjkojfijpeeaaGreat.Sy
end
section
set_option linter.unusedVariables false
namespace Go.Proofs.YtjjjkojfijpeeaaGreat.Sy
open Go Go.Proofs Go.Proofs.YtjjjkojfijpeeaaGreat.Geo
theorem Gx{l:List V}{L:List (V×Int)}{poly:V×Int->List Nat}(hL:Facets (pt l) l.length L)(hP:∀ q∈L,aN (pt l) l.length q.1 q.2 (poly q)):KnF l l.length 0 0 (L.map fun q=>(q,poly q)):=by
 have e:(L.map fun q=>(q,poly q)).map Prod.fst=L:=by rw[List.map_map];exact List.map_id L
 refine⟨⟨by rw[List.pairwise_map];exact hL.ord,fun f hf=>?_⟩,fun i j k h1 h2 h3 _ h4 m h5 h6=>?_⟩
 ·obtain⟨q,hq,rfl⟩:=List.mem_map.1 hf
  exact⟨(hL.mem q).1 hq,hP q hq⟩
 ·rw[e]
  exact(hL.mem _).2 ⟨⟨i,j,k,h1,h2,h3,h4,h5,rfl⟩,h6⟩
theorem CW(n:Nat){l:List V}(h64:l.length<=64)(hb:∀ x∈l,bd MV x):∃ F:FL,KnF (bt l) (bt l).length 0 0 F/\cA (n+9) 11 [bA l]=some (vB (bt l) F):=by
 have hsl:=mE l
 have hS:=iZ (cW l)
 have hSb:=oP hb
 obtain⟨L0,poly,hL0,hP0,hL0l,_⟩:=GH 0 hSb (by omega) hS
 have hK:=Gx hL0 hP0
 refine⟨_,hK,?_⟩
 obtain⟨F,hF⟩:∃ F:FL,F=L0.map fun q=>(q,poly q):=⟨_,rfl⟩
 rw[<-hF] at hK ⊢
 have hFk:=hK.fok
 have hpl:∀ f∈F,f.2.length<=1000000/\∀ x∈f.2,x<(bt l).length:=fun f hf=>by
  obtain⟨q1,q2⟩:=hFk.ok f hf
  have:=uS hS q1 q2
  exact⟨by omega,this.2.2.2⟩
 have hFl:=Nat.le_trans (hFk.len (by omega)) (show 2000000<=3000000 by decide)
 obtain⟨y,h45,K,L,k1,k2,k3,rfl⟩:=KF (n+2) hSb (by omega)
 have eL:F.map Prod.fst=L:=Facets.eq hK.facets (k1.facets k2 k3)
 have h45':cA (n+8) 45 [bA (bt l)]=some (.sl (F.map fun f=>bi f.1)):=by rw[h45,<-eL,List.map_map];rfl
 exact Cg (n+8) (by omega) hb (by omega) hpl hFl (M2 (n+4) l (by omega)) h45' (fun f hf=>by
  obtain⟨q1,q2⟩:=hFk.ok f hf
  obtain⟨p,p1,p2⟩:=L9 (n+3) hSb (by omega) hS q1 (xg hSb q1)
  rw[aN.eq hS q1 q2 p1]
  exact p2)
theorem Fx{l:List V}(hl:∀ x∈l,bd MV x)(hlen:l.length<=64)(hs:C9 l):∃ (L:List (V×Int)) (poly:V×Int->List Nat),Facets (pt l) l.length L/\(∀ q∈L,aN (pt l) l.length q.1 q.2 (poly q)) ∧
  FIn l (L.map fun q=>(q,poly q))/\∀ m,cA (m+8) 18 [lG l]=some (.sl (kV (L.map fun q=>(q,poly q)))):=by
 obtain⟨L,poly,hL,hP,hLl,_⟩:=GH 0 hl (show l.length<=100 by omega) hs
 refine⟨L,poly,hL,hP,⟨by rw[List.length_map];exact hLl,fun f hf=>?_⟩,fun m=>?_⟩
 ·obtain⟨q,hq,rfl⟩:=List.mem_map.1 hf
  have h3:=et hs hL hP hq
  have hp:=uS hs ((hL.mem q).1 hq) (hP q hq)
  refine⟨h3,by show(poly q).length<=100;omega,fun j hj=>hp.2.2.2 _ ?_⟩
  simp only[List.getD_eq_getElem?_getD,List.getElem?_eq_getElem hj]
  exact List.getElem_mem hj
 ·obtain⟨L',poly',hL',hP',_,h18⟩:=GH (m+1) hl (show l.length<=100 by omega) hs
  have e':L=L':=Facets.eq hL hL'
  subst e'
  rw[h18]
  unfold kV
  rw[List.map_map]
  congr 2
  refine List.map_congr_left fun q hq=>?_
  have:poly' q=poly q:=aN.eq hs ((hL.mem q).1 hq) (hP' q hq) (hP q hq)
  simp only[Function.comp_apply,this]
end Go.Proofs.YtjjjkojfijpeeaaGreat.Sy
end
section
namespace Go.Proofs.YtjjjkojfijpeeaaGreat.Geo
open V
section
variable{P P':Nat->V}{N N':Nat}(hl:∀ i j,i<j->j<N->ar (P i) (P j))(hl':∀ i j,i<j->j<N'->ar (P' i) (P' j))
 (hsub:∀ k,k<N'->∃ j,j<N/\P j=P' k) (hsup:∀ k,uF P N k->∃ j,j<N'/\P' j=P k)
include hl hl' hsub hsup
theorem tY{n0:V}{d0:Int}(h0:IsF P N n0 d0){k:Nat}(hk:k<N'):uF P' N' k↔∃ j,j<N/\P j=P' k/\uF P N j:=by
 obtain⟨j,hj,ej⟩:=hsub k hk
 constructor
 ·intro h
  obtain⟨f,hf⟩:=h.front
  obtain⟨a,va,hmax⟩:=ua hl h0 (V.neg f)
  obtain⟨a',ha',ea⟩:=hsup a va
  by_cases e:a'=k
  ·subst e
   have:a=j:=by
    have hh:=va
    obtain⟨_,_,_,m,_⟩:=hh
    exact im hl (ac.1 m).1 hj (by rw[ej,ea])
   exact⟨a,this ▸ hj,ea.symm,va⟩
  ·have h1:=hf a' ha' e
   have h2:=hmax j hj
   rw[bO,ea,<-ej] at h1
   have e1:dot (V.neg f) (P j)=- dot f (P j):=by simp only[dot,V.neg];grind
   have e2:dot (V.neg f) (P a)=- dot f (P a):=by simp only[dot,V.neg];grind
   omega
 ·rintro⟨i,hi,ei,hv⟩
  obtain⟨f,hf⟩:=hv.front
  obtain⟨n,d,hF,hm,_⟩:=hv
  refine⟨n,d,tJ hl hl' hsub hsup hF,ac.2 ⟨hk,by rw[<-ei];exact(ac.1 hm).2⟩,f,fun x hx hxk=>?_⟩
  have hx':=ac.1 hx
  obtain⟨y,hy,ey⟩:=hsub x hx'.1
  have:=hf y hy fun e=>hxk (im hl' hx'.1 hk (by rw[<-ey,<-ei,e]))
  rw[mU ei ey] at this
  exact this
end
def gj{α:Type}(g:α->Int):List α->Int
 | []=>0
 | e::S=>g e+gj g S
theorem nN{α:Type}(g:α->Int){S S':List α}(h:S.Perm S'):gj g S=gj g S':=by
 induction h with
 | nil=>rfl
 | cons x _ ih=>simp only[gj,ih]
 | swap x y l=>simp only[gj];omega
 | trans _ _ h1 h2=>exact h1.trans h2
theorem E3{α:Type}{g:α->Int}{S:List α}(h:∀ e∈S,0<=g e):0<=gj g S:=by
 induction S with
 | nil=>exact Int.le_refl _
 | cons t T ih=>
  have:=h t List.mem_cons_self
  have:=ih fun x hx=>h x (List.mem_cons_of_mem _ hx)
  simp only[gj];omega
theorem qo{α:Type}{f g:α->Int}{S:List α}(h:∀ e∈S,f e=g e):gj f S=gj g S:=by
 induction S with
 | nil=>rfl
 | cons t T ih=>simp only[gj,h t List.mem_cons_self,ih fun x hx=>h x (List.mem_cons_of_mem _ hx)]
theorem vO{α:Type}{g:α->Int}(p:α->Bool){S:List α}(h:∀ e∈S,p e=false->g e<=0):gj g S<=gj g (S.filter p):=by
 induction S with
 | nil=>exact Int.le_refl _
 | cons t T ih=>
  have h1:=h t List.mem_cons_self
  have h2:=ih fun x hx=>h x (List.mem_cons_of_mem _ hx)
  rw[List.filter_cons]
  split
  ·simp only[gj];omega
  ·have:=h1 (by simpa using ‹¬ p t=true›)
   simp only[gj];omega
theorem wG{α:Type}[DecidableEq α]{g:α->Int}:∀ {S M:List α},S.Nodup->(∀ e∈S,e∈M)->(∀ e∈M,0<=g e)->gj g S<=gj g M
 | [],_,_,_,h=>E3 h
 | a::S,M,hn,hs,h=>by
  have hn':=List.nodup_cons.1 hn
  have ha:=hs a List.mem_cons_self
  rw[nN g (List.perm_cons_erase ha)]
  simp only[gj]
  have:=wG (g:=g) (S:=S) (M:=M.erase a) hn'.2 (fun e he=>(List.mem_erase_of_ne (fun k:e=a=>hn'.1 (by rw[<-k];exact he))).2 (hs e (List.mem_cons_of_mem _ he))) fun e he=>h e (List.mem_of_mem_erase he)
  omega
theorem ka(g:T3->Int)(P:Nat->V)(L:List (V×Int))(poly:V×Int->List Nat):bJ g (eU P L poly)=gj (fun q=>bJ g (lr P (poly q) ((poly q).length-2))) L:=by
 induction L with
 | nil=>rfl
 | cons q L ih=>simp only[gj,<-ih];unfold eU;rw[List.flatMap_cons,jG]
theorem Aq(g:V×V->Int)(P:Nat->V)(S:List (Nat×Nat)):fk (fun e=>g (P e.1,P e.2)) S=gj g (S.map fun e=>(P e.1,P e.2)):=by
 induction S with
 | nil=>rfl
 | cons t T ih=>simp only[List.map_cons,fk,gj,ih]
def part(P:Nat->V)(p:List Nat)(z:V):Int:=bJ (fun t=>lU (shift (V.neg z) t)) (lr P p (p.length-2))
theorem jm(P:Nat->V){p:List Nat}(hp:2<=p.length)(z:V):part P p z=gj (fun e=>gd (V.sub (P (p.getD 0 0)) z) e.1 e.2) ((gh p).map fun e=>(P e.1,P e.2)):=by
 rw[<-Aq,<-tc (g:=gd (V.sub (P (p.getD 0 0)) z)) (fun u v=>zw _ u v) P hp]
 refine lF fun t ht=>?_
 obtain⟨i,_,rfl⟩:=List.mem_map.1 ht
 generalize P (p.getD 0 0)=a
 generalize P (p.getD (i+1) 0)=b
 generalize P (p.getD (i+2) 0)=c
 simp only[lU,shift,FF,gd,dot,cross,V.add,V.neg,V.sub]
 grind
section
variable{P Q:Nat->V}{N M:Nat}(hl:∀ i j,i<j->j<N->ar (P i) (P j))(hl':∀ i j,i<j->j<M->ar (Q i) (Q j))
include hl hl'
theorem xB{n:V}{d:Int}(hback:∀ j,j∈aU Q M n d->∃ k,k∈aU P N n d/\P k=Q j){a b a' b':Nat}(h:oK P N n d a b)(ha:a'∈aU Q M n d)(ea:Q a'=P a)(hb:b'∈aU Q M n d)(eb:Q b'=P b):oK Q M n d a' b':=by
 have _:=hl'
 refine⟨ha,hb,fun e=>h.2.ne (im hl (ac.1 h.2.mem).1 (ac.1 h.1).1 (by rw[<-ea,<-eb,e])),fun x hx=>?_⟩
 obtain⟨k,hk,ek⟩:=hback x hx
 have:=h.2.all k hk
 rw[mU ea eb,mU ea ek.symm]
 exact this
theorem EZ{n:V}{d:Int}(hF:IsF P N n d)(hF':IsF Q M n d)(hPQ:∀ k,k∈aU P N n d->∃ j,j∈aU Q M n d/\Q j=P k)(hQP:∀ j,j∈aU Q M n d->∃ k,k∈aU P N n d/\P k=Q j)
  {p p':List Nat} (kp:aN P N n d p) (kp':aN Q M n d p') (h2:2<=p.length) (h2':2<=p'.length) (nd:p.Nodup) (nd':p'.Nodup) (z:V):part P p z=part Q p' z:=by
 have first:P (p.getD 0 0)=Q (p'.getD 0 0):=by
  obtain⟨a,h1,h2⟩:=kp
  obtain⟨_,e⟩:=h2.head
  have e0:p.getD 0 0=a:=by rw[e];rfl
  obtain⟨a',h1',h2'⟩:=kp'
  obtain⟨_,e'⟩:=h2'.head
  have e0':p'.getD 0 0=a':=by rw[e'];rfl
  rw[e0,e0']
  obtain⟨b,g1,g2,_,g4,_⟩:=hF.head hl
  rw[h1] at g1;cases g1
  obtain⟨b',g1',g2',_,g4',_⟩:=hF'.head hl'
  rw[h1'] at g1';cases g1'
  obtain⟨j,hj,ej⟩:=hPQ a g2
  obtain⟨k,hk,ek⟩:=hQP a' g2'
  apply Classical.byContradiction
  intro hne
  rcases gw hne with c|c
  ·rw[<-ej] at c
   have:=eB hl' (ac.1 hj).1 (ac.1 g2').1 c
   have:=g4' j hj;omega
  ·rw[<-ek] at c
   have:=eB hl (ac.1 hk).1 (ac.1 g2).1 c
   have:=g4 k hk;omega
 rw[jm P h2,jm Q h2',first]
 refine nN _ ?_
 have ndm:∀ {R:Nat->V} {K:Nat} (hR:∀ i j,i<j->j<K->ar (R i) (R j)) {l:List Nat},l.Nodup->(∀ a b,(a,b)∈gh l->a<K/\b<K)->((gh l).map fun e=>(R e.1,R e.2)).Nodup:=fun{R K} hR {l} hn hb=>by
  unfold List.Nodup
  rw[List.pairwise_map]
  refine List.Pairwise.imp_of_mem ?_ (jE hn)
  intro x y hx hy h e
  obtain⟨x1,x2⟩:=x;obtain⟨y1,y2⟩:=y
  simp only[Prod.mk.injEq] at e
  have bx:=hb _ _ hx;have by_:=hb _ _ hy
  exact h (by rw[im hR bx.1 by_.1 e.1,im hR bx.2 by_.2 e.2])
 have dP:∀ a b,(a,b)∈gh p↔oK P N n d a b:=fun a b=>fG.trans (aN.dir hl hF kp)
 have dQ:∀ a b,(a,b)∈gh p'↔oK Q M n d a b:=fun a b=>fG.trans (aN.dir hl' hF' kp')
 refine(List.perm_ext_iff_of_nodup (ndm hl nd fun a b h=>?_) (ndm hl' nd' fun a b h=>?_)).2 fun e=>?_
 ·have:=(dP a b).1 h;exact⟨(ac.1 this.1).1,(ac.1 this.2.mem).1⟩
 ·have:=(dQ a b).1 h;exact⟨(ac.1 this.1).1,(ac.1 this.2.mem).1⟩
 ·rw[List.mem_map,List.mem_map]
  constructor
  ·rintro⟨⟨a,b⟩,h1,rfl⟩
   have h:=(dP a b).1 h1
   obtain⟨a',ha,ea⟩:=hPQ a h.1
   obtain⟨b',hb,eb⟩:=hPQ b h.2.mem
   exact⟨(a',b'),(dQ _ _).2 (xB hl hl' hQP h ha ea hb eb),by simp only[ea,eb]⟩
  ·rintro⟨⟨a,b⟩,h1,rfl⟩
   have h:=(dQ a b).1 h1
   obtain⟨a',ha,ea⟩:=hQP a h.1
   obtain⟨b',hb,eb⟩:=hQP b h.2.mem
   exact⟨(a',b'),(dP _ _).2 (xB hl' hl hPQ h ha ea hb eb),by simp only[ea,eb]⟩
variable(hsub:∀ k,k<N->∃ j,j<M/\Q j=P k)
include hsub
omit hl in
theorem EQ{n0:V}{d0:Int}(h0:IsF P N n0 d0):∃ n d,IsF Q M n d:=by
 obtain⟨i,_,k,_,_,hkN,_⟩:=h0.ex
 obtain⟨z,hz,_⟩:=hsub k hkN
 obtain⟨h,hh⟩:=GE hl'
 obtain⟨n,d,hF,_⟩:=rK (P:=Q) (N:=M) (a:=0) (fun{m} hm=>by
  obtain⟨x,hx,hx0⟩:=uK h0 k hm
  obtain⟨x',hx',ex⟩:=hsub x hx
  obtain⟨k',hk',ek⟩:=hsub k hkN
  apply Classical.byContradiction
  intro hno
  have hz:∀ x,x<M->dot m (wy Q 0 x)=0:=fun x hx=>Classical.byContradiction fun h=>hno ⟨x,hx,h⟩
  have:=hz x' hx';have:=hz k' hk'
  rw[bO] at *
  rw[ex] at *;rw[ek] at *
  omega) (by omega) (fun x hx hx0=>hh 0 x (by omega) hx)
 exact⟨n,d,hF⟩
theorem CG{x:Nat}(hx:∀ j,j<M->j=x\/∃ k,k<N/\P k=Q j){n:V}{d:Int}(h:IsF P N n d)(hd:dot n (Q x)<=d):IsF Q M n d:=by
 obtain⟨i,j,k,hij,hjk,hk,h1,h2,h3⟩:=h.ex
 obtain⟨i',hi',ei⟩:=hsub i (by omega)
 obtain⟨j',hj',ej⟩:=hsub j (by omega)
 obtain⟨k',hk',ek⟩:=hsub k hk
 have ht:dW Q i' j' k'=dW P i j k:=by unfold dW;rw[mU ei ej,mU ei ek]
 refine⟨⟨i',j',k',eB hl' hi' hj' (by rw[ei,ej];exact hl i j hij (by omega)),eB hl' hj' hk' (by rw[ej,ek];exact hl j k hjk hk),hk',by rw[ht];exact h1,by rw[ht];exact h2,by rw[ei];exact h3⟩,fun y hy=>?_,?_⟩
 ·rcases hx y hy with e|⟨k,hk,e⟩
  ·rw[e];exact hd
  ·rw[<-e];exact h.supp.1 k hk
 ·obtain⟨z,hz,hzd⟩:=h.supp.2
  obtain⟨z',hz',ez⟩:=hsub z hz
  exact⟨z',hz',by rw[ez];exact hzd⟩
theorem Bj{x:Nat}(hxM:x<M)(hx:∀ j,j<M->j=x\/∃ k,k<N/\P k=Q j)
  {L:List (V×Int)} (hL:Facets P N L) {poly:V×Int->List Nat} (hp:∀ q∈L,aN P N q.1 q.2 (poly q))
  {L':List (V×Int)} (hL':Facets Q M L') {poly':V×Int->List Nat} (hp':∀ q∈L',aN Q M q.1 q.2 (poly' q)) :
  bJ lU (eU P L poly)<=bJ lU (eU Q L' poly'):=by
 rw[<-s9 hl hL hp (V.neg (Q x)),<-s9 hl' hL' hp' (V.neg (Q x)),jX,jX,pU,pU,ka,ka]
 show gj (fun q=>part P (poly q) (Q x)) L<=gj (fun q=>part Q (poly' q) (Q x)) L'
 refine Int.le_trans (vO (fun q=>decide (dot q.1 (Q x)<q.2)) fun q hq hf=>?_) ?_
 ·have hf:¬ dot q.1 (Q x)<q.2:=of_decide_eq_false hf
  have:∀ T:List T3,(∀ t∈T,t∈lr P (poly q) ((poly q).length-2))->bJ (fun t=>lU (shift (V.neg (Q x)) t)) T<=0:=fun T hT=>by
   have h:=yC (f:=fun t=>(-1)*lU (shift (V.neg (Q x)) t)) (T:=T) fun t ht=>by
    obtain⟨a,b,ha,hb,e⟩:=zu hl hL hp hq (hT t ht) (Q x)
    have h1:b*(q.2-dot q.1 (Q x))<=0:=Int.mul_nonpos_of_nonneg_of_nonpos (Int.le_of_lt hb) (by omega)
    rcases Int.lt_or_le 0 (lU (shift (V.neg (Q x)) t)) with k|k
    ·have:=Int.mul_pos ha k;omega
    ·show 0<=(-1)*lU (shift (V.neg (Q x)) t)
     omega
   rw[BO] at h
   omega
  exact this _ fun _ h=>h
 ·have hsubF:∀ q∈L.filter (fun q=>decide (dot q.1 (Q x)<q.2)),q∈L'/\part P (poly q) (Q x)=part Q (poly' q) (Q x):=fun q hq=>by
   obtain⟨hq,hlt⟩:=List.mem_filter.1 hq
   have hlt:dot q.1 (Q x)<q.2:=of_decide_eq_true hlt
   have hF:=(hL.mem q).1 hq
   have hF':=CG hl hl' hsub hx hF (Int.le_of_lt hlt)
   have hq':=(hL'.mem q).2 hF'
   refine⟨hq',EZ hl hl' hF hF' (fun k hk=>?_) (fun j hj=>?_) (hp q hq) (hp' q hq') (by have:=et hl hL hp hq;omega) (by have:=et hl' hL' hp' hq';omega) (gK hl hL hp hq) (gK hl' hL' hp' hq') _⟩
   ·obtain⟨j,hj,e⟩:=hsub k (ac.1 hk).1
    exact⟨j,ac.2 ⟨hj,by rw[e];exact(ac.1 hk).2⟩,e⟩
   ·rcases hx j (ac.1 hj).1 with e|⟨k,hk,e⟩
    ·have:=(ac.1 hj).2
     rw[e] at this;omega
    ·exact⟨k,ac.2 ⟨hk,by rw[e];exact(ac.1 hj).2⟩,e⟩
  rw[qo (f:=fun q=>part P (poly q) (Q x)) (g:=fun q=>part Q (poly' q) (Q x)) fun q hq=>(hsubF q hq).2]
  refine wG ?_ (fun q hq=>(hsubF q hq).1) fun q hq=>?_
  ·refine List.Pairwise.imp ?_ (List.Pairwise.sublist List.filter_sublist hL.ord)
   intro a b h e
   subst e;exact dG _ h
  ·have hF':=(hL'.mem q).1 hq
   refine yC fun t ht=>?_
   obtain⟨a,b,ha,hb,e⟩:=zu hl' hL' hp' hq ht (Q x)
   exact ko ha (by rw[e];exact Int.mul_nonneg (Int.le_of_lt hb) (by have:=hF'.supp.1 x hxM;omega))
end
section
variable{P P':Nat->V}{N N':Nat}(hl:∀ i j,i<j->j<N->ar (P i) (P j))(hl':∀ i j,i<j->j<N'->ar (P' i) (P' j))
 (hsub:∀ k,k<N'->∃ j,j<N/\P j=P' k) (hsup:∀ k,uF P N k->∃ j,j<N'/\P' j=P k)
include hl hl' hsub hsup
theorem A5{L:List (V×Int)}(hL:Facets P N L){poly:V×Int->List Nat}(hp:∀ q∈L,aN P N q.1 q.2 (poly q))
  (hL':Facets P' N' L) {poly':V×Int->List Nat} (hp':∀ q∈L,aN P' N' q.1 q.2 (poly' q)) :
  bJ lU (eU P L poly)=bJ lU (eU P' L poly'):=by
 have ez:∀ P:Nat->V,∀ p:List Nat,bJ lU (lr P p (p.length-2))=part P p V.zero:=fun P p=>lF fun t _=>by
  congr 1
  unfold shift
  have:∀ v:V,V.add v (V.neg V.zero)=v:=fun v=>by cases v;simp[V.add,V.neg,V.zero]
  rw[this,this,this]
 rw[ka,ka]
 refine qo fun q hq=>?_
 rw[ez,ez]
 have hF:=(hL.mem q).1 hq
 have hF':=(hL'.mem q).1 hq
 have F:=hF.flat hl
 have F':=hF'.flat hl'
 have h3:=et hl hL hp hq;have h3':=et hl' hL' hp' hq
 have nd:=gK hl hL hp hq;have nd':=gK hl' hL' hp' hq
 have up:∀ j,j∈aU P' N' q.1 q.2->∃ k,k∈aU P N q.1 q.2/\P k=P' j:=fun j hj=>by
  obtain⟨k,hk,e⟩:=hsub j (ac.1 hj).1
  exact⟨k,ac.2 ⟨hk,by rw[e];exact(ac.1 hj).2⟩,e⟩
 have down:∀ k,k∈aU P N q.1 q.2->cY P (aU P N q.1 q.2) k->∃ j,j∈aU P' N' q.1 q.2/\P' j=P k:=fun k hk ek=>by
  obtain⟨j,hj,e⟩:=hsup k ⟨q.1,q.2,hF,hk,ek⟩
  exact⟨j,ac.2 ⟨hj,by rw[e];exact(ac.1 hk).2⟩,e⟩
 have dP:∀ a b,(a,b)∈gh (poly q)↔oK P N q.1 q.2 a b:=fun a b=>fG.trans (aN.dir hl hF (hp q hq))
 have dQ:∀ a b,(a,b)∈gh (poly' q)↔oK P' N' q.1 q.2 a b:=fun a b=>fG.trans (aN.dir hl' hF' (hp' q hq))
 have sdown:∀ {a b:Nat},oK P N q.1 q.2 a b->∃ a' b',P' a'=P a/\P' b'=P b/\oK P' N' q.1 q.2 a' b':=fun{a b} h=>by
  obtain⟨a',ha,ea⟩:=down a h.1 (h.2.start F h.1)
  obtain⟨b',hb,eb⟩:=down b h.2.mem (h.2.ext F h.1)
  exact⟨a',b',ea,eb,xB hl hl' up h ha ea hb eb⟩
 have sup:∀ {a' b':Nat},oK P' N' q.1 q.2 a' b'->∃ a b,P' a'=P a/\P' b'=P b/\oK P N q.1 q.2 a b:=fun{a' b'} h=>by
  obtain⟨k,hk,ek⟩:=up a' h.1
  have hv:uF P N k:=by
   obtain⟨j,hj,ej,hv⟩:=(tY hl hl' hsub hsup hF (ac.1 h.1).1).1 ⟨q.1,q.2,hF',h.1,h.2.start F' h.1⟩
   rwa [im hl hj (ac.1 hk).1 (by rw[ej,ek])] at hv
  obtain⟨f,hf⟩:=hv.front
  have hx:cY P (aU P N q.1 q.2) k:=⟨f,fun x hx hne=>hf x (ac.1 hx).1 hne⟩
  obtain⟨_,_,_,_,_,hoth⟩:=hF.head hl
  obtain⟨b,_,sb⟩:=iR F hk hx (hoth k hk)
  obtain⟨a2,b2,e1,e2,hd⟩:=sdown (a:=k) (b:=b) ⟨hk,sb⟩
  have ea:a2=a':=im hl' (ac.1 hd.1).1 (ac.1 h.1).1 (by rw[e1,ek])
  subst ea
  have eb:=Side.unique F' h.1 hd.2 h.2
  subst eb
  exact⟨k,b,e1,e2,hk,sb⟩
 have first:P ((poly q).getD 0 0)=P' ((poly' q).getD 0 0):=by
  obtain⟨g4,g2,g3,_⟩:=nD hl hL hq (hp q hq)
  obtain⟨g4',g2',g3',_⟩:=nD hl' hL' hq (hp' q hq)
  obtain⟨j,hj,ej⟩:=down _ g2 g3
  obtain⟨k,hk,ek⟩:=up _ g2'
  apply Classical.byContradiction
  intro hne
  rcases gw hne with c|c
  ·rw[<-ej] at c
   have:=eB hl' (ac.1 hj).1 (ac.1 g2').1 c
   have:=g4' j hj;omega
  ·rw[<-ek] at c
   have:=eB hl (ac.1 hk).1 (ac.1 g2).1 c
   have:=g4 k hk;omega
 rw[jm P (by omega),jm P' (by omega),first]
 refine nN _ ?_
 have ndm:∀ {R:Nat->V} {K:Nat} (hR:∀ i j,i<j->j<K->ar (R i) (R j)) {l:List Nat},l.Nodup->(∀ a b,(a,b)∈gh l->a<K/\b<K)->((gh l).map fun e=>(R e.1,R e.2)).Nodup:=fun{R K} hR {l} hn hb=>by
  unfold List.Nodup
  rw[List.pairwise_map]
  refine List.Pairwise.imp_of_mem ?_ (jE hn)
  intro x y hx hy h e
  obtain⟨x1,x2⟩:=x;obtain⟨y1,y2⟩:=y
  simp only[Prod.mk.injEq] at e
  have bx:=hb _ _ hx;have by_:=hb _ _ hy
  exact h (by rw[im hR bx.1 by_.1 e.1,im hR bx.2 by_.2 e.2])
 refine(List.perm_ext_iff_of_nodup (ndm hl nd fun a b h=>?_) (ndm hl' nd' fun a b h=>?_)).2 fun e=>?_
 ·have:=(dP a b).1 h;exact⟨(ac.1 this.1).1,(ac.1 this.2.mem).1⟩
 ·have:=(dQ a b).1 h;exact⟨(ac.1 this.1).1,(ac.1 this.2.mem).1⟩
 ·rw[List.mem_map,List.mem_map]
  constructor
  ·rintro⟨⟨a,b⟩,h1,rfl⟩
   obtain⟨a',b',e1,e2,h⟩:=sdown ((dP a b).1 h1)
   exact⟨(a',b'),(dQ _ _).2 h,by simp only[e1,e2]⟩
  ·rintro⟨⟨a,b⟩,h1,rfl⟩
   obtain⟨a',b',e1,e2,h⟩:=sup ((dQ a b).1 h1)
   exact⟨(a',b'),(dP _ _).2 h,by simp only[e1,e2]⟩
end
end Go.Proofs.YtjjjkojfijpeeaaGreat.Geo
end
section
namespace Go.Proofs.YtjjjkojfijpeeaaGreat.Geo
open V
theorem qs{α β:Type}{f g:α->List β}:∀ {l:List α},(∀ x∈l,f x=g x)->l.flatMap f=l.flatMap g
 | [],_=>rfl
 | a::l,h=>by rw[List.flatMap_cons,List.flatMap_cons,h a List.mem_cons_self,qs fun x hx=>h x (List.mem_cons_of_mem _ hx)]
section
variable{P Q:Nat->V}{N:Nat}{d:V}(hm:∀ k,k<N->Q k=V.add (P k) d)
include hm
end
section
variable{P Q:Nat->V}{N:Nat}{d:V}(hm:∀ k,k<N->Q k=V.add (P k) d)
 (hl:∀ i j,i<j->j<N->ar (P i) (P j))
include hm hl
end
end Go.Proofs.YtjjjkojfijpeeaaGreat.Geo
end
section
set_option linter.unusedVariables false
namespace Go.Proofs.YtjjjkojfijpeeaaGreat.Sy
open Go Go.Proofs Go.Proofs.YtjjjkojfijpeeaaGreat.Geo
def fm(S:List V)(w:Int):Prop:=∃ (L:List (V×Int)) (poly:V×Int->List Nat),Facets (pt S) S.length L/\(∀ q∈L,aN (pt S) S.length q.1 q.2 (poly q))/\L≠[]/\w=bJ lU (eU (pt S) L poly)
theorem nC{S:List V}{k:Nat}(h:k<S.length):pt S k∈S:=by
 simp only[pt,List.getD_eq_getElem?_getD,List.getElem?_eq_getElem h,Option.getD_some];exact List.getElem_mem h
theorem ji{S:List V}{x:V}(h:x∈S):∃ j,j<S.length/\pt S j=x:=by
 obtain⟨j,hj,e⟩:=List.getElem_of_mem h
 exact⟨j,hj,by simp[pt,List.getD,hj,e]⟩
theorem fm.of{S:List V}{w:Int}(hs:C9 S)(h:fm S w){L:List (V×Int)}{poly:V×Int->List Nat}(hL:Facets (pt S) S.length L)(hP:∀ q∈L,aN (pt S) S.length q.1 q.2 (poly q)):w=bJ lU (eU (pt S) L poly)/\L≠[]:=by
 obtain⟨L',poly',h1,h2,h3,rfl⟩:=h
 have e:=Facets.eq h1 hL
 subst e
 refine⟨?_,h3⟩
 unfold eU
 refine congrArg _ (qs fun q hq=>?_)
 rw[aN.eq hs ((hL.mem q).1 hq) (h2 q hq) (hP q hq)]
theorem fm.grow{S S':List V}{x:V}{w:Int}(hs:C9 S)(hs':C9 S')(hb':∀ x∈S',bd MV x)(hlen:S'.length<=64)(hm:∀ z,z∈S'↔z∈S\/z=x)(h:fm S w):∃ w',fm S' w'/\w<=w':=by
 obtain⟨L,poly,hL,hP,hne,rfl⟩:=h
 obtain⟨L',poly',hL',hP',_,_⟩:=GH 0 hb' (show S'.length<=100 by omega) hs'
 have hsub:∀ k,k<S.length->∃ j,j<S'.length/\pt S' j=pt S k:=fun k hk=>ji ((hm _).2 (.inl (nC hk)))
 obtain⟨i,hi,ei⟩:=ji ((hm x).2 (.inr rfl))
 have hx:∀ j,j<S'.length->j=i\/∃ k,k<S.length/\pt S k=pt S' j:=fun j hj=>by
  rcases(hm _).1 (nC hj) with h|h
  ·right;exact ji h
  ·left;exact im hs' hj hi (by rw[h,ei])
 refine⟨_,⟨L',poly',hL',hP',fun e=>?_,rfl⟩,Bj hs hs' hsub hi hx hL hP hL' hP'⟩
 obtain⟨q,hq⟩:=List.exists_mem_of_ne_nil L hne
 obtain⟨n,d,hF⟩:=EQ hs' hsub ((hL.mem q).1 hq)
 have:=(hL'.mem (n,d)).2 hF
 rw[e] at this;cases this
theorem fm.all{l:List V}(hb:∀ x∈l,bd MV x)(hlen:l.length<=64){k:Nat}{w:Int}(h:fm (bt (l.take k)) w):∃ w',fm (bt l) w'/\w<=w':=by
 obtain⟨t,ht⟩:∃ t,t=l.length-k:=⟨_,rfl⟩
 induction t generalizing k w with
 | zero=>
  rw[List.take_of_length_le (by omega)] at h
  exact⟨w,h,Int.le_refl _⟩
 | succ t ih=>
  have hk:k<l.length:=by omega
  have hsl:=mE (l.take (k+1))
  obtain⟨w1,h1,h2⟩:=fm.grow (S:=bt (l.take k)) (S':=bt (l.take (k+1))) (x:=l[k]) (iZ (cW _)) (iZ (cW _)) (oP fun x hx=>hb x (List.mem_of_mem_take hx)) (by rw[List.length_take] at hsl;omega) (fun z=>by
   rw[eX,eX,List.take_succ_eq_append_getElem hk,List.mem_append,List.mem_singleton]) h
  obtain⟨w',h3,h4⟩:=ih h1 (by omega)
  exact⟨w',h3,by omega⟩
theorem fm.vtx{S:List V}{w:Int}(hs:C9 S)(hb:∀ x∈S,bd MV x)(hlen:S.length<=64){F:FL}(hK:KnF S S.length 0 0 F)(h:fm S w):fm (cq S F S.length) w/\C9 (cq S F S.length):=by
 obtain⟨L,poly,hL,hP,hne,rfl⟩:=h
 have hsl:=gu S F
 obtain⟨T,hT⟩:∃ T,T=cq S F S.length:=⟨_,rfl⟩
 rw[<-hT] at hsl ⊢
 have hordS:S.Pairwise ar:=List.pairwise_iff_getElem.2 fun i j hi hj hij=>by
  have:=hs i j hij hj
  simpa only[pt,List.getD_eq_getElem?_getD,List.getElem?_eq_getElem hi,List.getElem?_eq_getElem hj,Option.getD_some] using this
 have hsT:=iZ (List.Pairwise.sublist hsl hordS)
 have hvm:∀ x:V,x∈T↔∃ j,j<S.length/\fp F j=true/\pt S j=x:=fun x=>by
  rw[hT];unfold cq
  simp only[List.mem_map,List.mem_filter,List.mem_range,and_assoc]
 have hsub:∀ k,k<T.length->∃ j,j<S.length/\pt S j=pt T k:=fun k hk=>by
  obtain⟨j,j1,_,j3⟩:=(hvm _).1 (nC hk)
  exact⟨j,j1,j3⟩
 have hsup:∀ k,uF (pt S) S.length k->∃ j,j<T.length/\pt T j=pt S k:=fun k hv=>by
  have hk:k<S.length:=by obtain⟨_,_,_,hm,_⟩:=hv;exact(ac.1 hm).1
  exact ji ((hvm _).2 ⟨k,hk,(ft hs hK).2 hv,rfl⟩)
 obtain⟨q0,hq0⟩:=List.exists_mem_of_ne_nil L hne
 have hF0:=(hL.mem q0).1 hq0
 have hLT:Facets (pt T) T.length L:=⟨hL.ord,fun q=>(hL.mem q).trans ⟨fun h=>tJ hs hsT hsub hsup h,fun h=>tG hs hsT hsub hsup hF0 h⟩⟩
 obtain⟨L',poly',hL',hP',_,_⟩:=GH 0 (l:=T) (fun x hx=>hb x (hsl.subset hx)) (by have:=hsl.length_le;omega) hsT
 have e:=Facets.eq hLT hL'
 subst e
 exact⟨⟨L,poly',hLT,hP',hne,A5 hs hsT hsub hsup hL hP hLT hP'⟩,hsT⟩
end Go.Proofs.YtjjjkojfijpeeaaGreat.Sy
end
section
set_option linter.unusedVariables false
namespace Go.Proofs.YtjjjkojfijpeeaaGreat.Sy
open Go Go.Proofs Go.Proofs.YtjjjkojfijpeeaaGreat.Geo
theorem wQ(n:Nat){l:List V}(h64:l.length<=64):(∃ e:Int,e≠0/\cA (n+9) 11 [bA l]=some (ES e)) ∨
  ((∀ x∈l,bd MV x)/\∃ F:FL,KnF (bt l) (bt l).length 0 0 F/\4<=F.length/\F.length<=64/\cA (n+9) 11 [bA l]=some (.tup [lG (cq (bt l) F (bt l).length),I 0])):=by
 by_cases hb:∀ x∈l,bd MV x
 ·obtain⟨F,hK,h⟩:=CW n h64 hb
  unfold vB at h
  by_cases h4:F.length<4
  ·rw[if_pos h4] at h
   exact .inl ⟨_,by decide,h⟩
  ·rw[if_neg h4] at h
   by_cases h5:F.length>64
   ·rw[if_pos h5] at h
    exact .inl ⟨_,by decide,h⟩
   ·rw[if_neg h5] at h
    exact .inr ⟨hb,F,hK,by omega,by omega,h⟩
 ·exact .inl ⟨_,by decide,E2 (n+8) h64 hb⟩
theorem kn{S:List V}{F:FL}{x:V}:x∈cq S F S.length↔∃ j,j<S.length/\fp F j=true/\pt S j=x:=by
 unfold cq
 simp only[List.mem_map,List.mem_filter,List.mem_range,and_assoc]
theorem Fl{S:List V}{F:FL}(hK:KnF S S.length 0 0 F)(h4:4<=F.length):∃ w,fm S w:=by
 refine⟨_,F.map Prod.fst,fun q=>((F.find? fun f=>decide (f.1=q)).getD (q,[])).2,hK.facets,fun q hq=>?_,fun e=>?_,rfl⟩
 ·obtain⟨f,hf,rfl⟩:=List.mem_map.1 hq
  show aN (pt S) S.length f.1.1 f.1.2 ((F.find? (fun g=>decide (g.1=f.1))).getD (f.1,[])).2
  cases hfd:F.find? (fun g=>decide (g.1=f.1)) with
  | none=>
   have:=List.find?_eq_none.1 hfd f hf
   simp at this
  | some g=>
   have h1:=List.find?_some hfd
   have h2:=List.mem_of_find?_eq_some hfd
   have h1:g.1=f.1:=of_decide_eq_true h1
   have:=(hK.fok.ok g h2).2
   rw[h1] at this
   exact this
 ·have h0:F.length=0:=by
   have:=congrArg List.length e
   rw[List.length_map] at this
   exact this
  omega
theorem Ay(n:Nat){l:List V}(hb:∀ x∈l,bd MV x)(h16:l.length<=16){F:FL}(hK:KnF (bt l) (bt l).length 0 0 F)(h4:4<=F.length)(h64:F.length<=64){m:List V}(hm1:∀ x∈cq (bt l) F (bt l).length,x∈m)(hm2:∀ x∈m,x∈l)(hml:m.length<=64) :
  cA (n+9) 11 [bA m]=some (.tup [lG (cq (bt l) F (bt l).length),I 0]):=by
 have hS:=iZ (cW l)
 have hS':=iZ (cW m)
 have hsub:∀ k,k<(bt m).length->∃ j,j<(bt l).length/\pt (bt l) j=pt (bt m) k:=fun k hk=>ji (eX.2 (hm2 _ (eX.1 (nC hk))))
 have hsup:∀ k,uF (pt (bt l)) (bt l).length k->∃ j,j<(bt m).length/\pt (bt m) j=pt (bt l) k:=fun k hv=>by
  have hk:k<(bt l).length:=by obtain⟨_,_,_,hm,_⟩:=hv;exact(ac.1 hm).1
  exact ji (eX.2 (hm1 _ (kn.2 ⟨k,hk,(ft hS hK).2 hv,rfl⟩)))
 obtain⟨f0,hf0⟩:∃ f0,f0∈F:=List.exists_mem_of_ne_nil F (fun e=>by rw[e] at h4;simp at h4)
 have h0:=(hK.fok.ok f0 hf0).1
 have hFa:Facets (pt (bt m)) (bt m).length (F.map Prod.fst):=⟨hK.facets.ord,fun q=>(hK.facets.mem q).trans ⟨fun h=>tJ hS hS' hsub hsup h,fun h=>tG hS hS' hsub hsup h0 h⟩⟩
 obtain⟨F',hK',g⟩:=CW n hml fun x hx=>hb x (hm2 x hx)
 have eF:F'.map Prod.fst=F.map Prod.fst:=Facets.eq hK'.facets hFa
 have hlen:F'.length=F.length:=by rw[<-List.length_map (f:=Prod.fst),eF,List.length_map]
 have ev:cq (bt m) F' (bt m).length=cq (bt l) F (bt l).length:=by
  refine kC dG iK (List.Pairwise.sublist (gu (bt m) F') (cW m)) (List.Pairwise.sublist (gu (bt l) F) (cW l)) fun x=>?_
  rw[kn,kn]
  constructor
  ·rintro⟨k,hk,h1,rfl⟩
   obtain⟨j,j1,j2,j3⟩:=(tY hS hS' hsub hsup h0 hk).1 ((ft hS' hK').1 h1)
   exact⟨j,j1,(ft hS hK).2 j3,j2⟩
  ·rintro⟨j,hj,h1,rfl⟩
   have hv:=(ft hS hK).1 h1
   obtain⟨k,hk,e⟩:=hsup j hv
   exact⟨k,hk,(ft hS' hK').2 ((tY hS hS' hsub hsup h0 hk).2 ⟨j,hj,e.symm,hv⟩),e⟩
 unfold vB at g
 rw[if_neg (by omega),if_neg (by omega),ev] at g
 exact g
end Go.Proofs.YtjjjkojfijpeeaaGreat.Sy
end
section
set_option linter.unusedVariables false
namespace Go.Proofs.YtjjjkojfijpeeaaGreat.Sy
open Go Go.Proofs Go.Proofs.YtjjjkojfijpeeaaGreat.Geo
theorem Kz{call:Nat->List D->Option D}(n:Nat)(l:List V)(b:Int)(hb0:0<=b/\b<=255)(hc:∀ f xs,f≠10->call f xs=cA (n+1040) f xs)(h10:call 10 []=some (.bool true)):F6 bg call (bA l) (.int .u8 b)=some (.bool true):=by
 unfold F6
 refine aa (z:=l.map aj) rfl (aa ff (aa ag ?_))
 by_cases h16:l.length<=16
 rotate_left
 ·exact aZ (by show((l.map aj).length:Int)>16;rw[aB];omega) (aa h10 rfl)
 refine aY (by show ¬ ((l.map aj).length:Int)>16;rw[aB];omega) ?_
 have hneq:∀ e:Int,D.truth (D.bool (!(D.beq (I e) (D.int .i64 0))))=some (!(decide (e=0))):=fun e=>by
  rw[show D.beq (I e) (D.int .i64 0)=decide (e=0) from cV];rfl
 rcases wQ (n+1031) (l:=l) (by omega) with⟨e,he,h11⟩|⟨hb,F,hK,h4,h64,h11⟩
 ·refine aa ((hc 11 _ (by decide)).trans h11) (aa (z:=.st [.sl []]) rfl (aa (z:=I e) rfl (aa (z:=true) (by rw[hneq,decide_eq_false he];rfl) (rd (aa h10 (aa (z:=true) rfl ?_))))))
  exact aa (z:=true) (rd (aa (z:=.sl []) rfl (aa (z:=[]) rfl rfl))) rfl
 have hS:=iZ (cW l)
 have hSb:=oP hb
 have hsl:=mE l
 obtain⟨T,hT⟩:∃ T,T=cq (bt l) F (bt l).length:=⟨_,rfl⟩
 have hTs:T.Sublist (bt l):=hT ▸ gu (bt l) F
 have hTl:T.length<=16:=by have:=hTs.length_le;omega
 have hTm:∀ x∈T,x∈l:=fun x hx=>eX.1 (hTs.subset hx)
 have hTb:∀ x∈T,bd MV x:=fun x hx=>hb x (hTm x hx)
 have hTS:=iZ (List.Pairwise.sublist hTs (cW l))
 rw[<-hT] at h11
 refine aa ((hc 11 _ (by decide)).trans h11) (aa (z:=lG T) rfl (aa (z:=I 0) rfl (aa (z:=false) rfl ?_)))
 rw[if_neg (by decide)]
 have hget:∀ i (hi:i<l.length),(l.map aj)[i]?=some (aj l[i]):=fun i hi=>by simp[hi]
 have hsub:∀ k,k<T.length->∃ j,j<(bt l).length/\pt (bt l) j=pt T k:=fun k hk=>ji (hTs.subset (nC hk))
 have hsup:∀ k,uF (pt (bt l)) (bt l).length k->∃ j,j<T.length/\pt T j=pt (bt l) k:=fun k hv=>by
  have hk:k<(bt l).length:=by obtain⟨_,_,_,hm,_⟩:=hv;exact(ac.1 hm).1
  exact ji (hT ▸ kn.2 ⟨k,hk,(ft hS hK).2 hv,rfl⟩)
 obtain⟨f0,hf0⟩:∃ f0,f0∈F:=List.exists_mem_of_ne_nil F (fun e=>by rw[e] at h4;simp at h4)
 have h0:=(hK.fok.ok f0 hf0).1
 obtain⟨y,h45,K,L,k1,k2,k3,rfl⟩:=KF (n+1033) hTb (by omega)
 have hL:=k1.facets k2 k3
 have hLl:L.length<=2000000:=by rw[k2.length_eq];exact k1.len (by omega)
 have hq:∀ q∈L,bd 549755813888 q.1/\inR q.2/\∀ x∈l,V.dot q.1 x<=q.2:=fun q hq=>by
  have hF:=(hL.mem q).1 hq
  have hn:=xg hTb hF
  have hF':=tG hS hTS hsub hsup h0 hF
  refine⟨hn,?_,fun x hx=>?_⟩
  ·obtain⟨i,j,k,_,_,hk,mi,_⟩:=hF.three
   have hm:=ac.1 mi
   rw[<-hm.2]
   have:=uD hn (hTb _ (nC hm.1))
   have e1:(3:Int)*(549755813888*MV)=432345564227567616:=rfl
   rw[e1] at this
   simp only[inR];omega
  ·obtain⟨j,hj,e⟩:=ji (eX.2 hx)
   rw[<-e];exact hF'.supp.1 j hj
 refine bq (fun i s=>s=[I (i:Int)]) l.length 0 (Nat.zero_le _) rfl (fun i hi s hJ=>?_) (fun s hJ=>?_)
 ·subst hJ
  left
  refine⟨[I ((i+1:Nat):Int)],?_,rfl⟩
  have hx:=hb l[i] (List.getElem_mem hi)
  obtain⟨r,h30,hr⟩:=Mv (n+5) hx hLl (fun q hq'=>⟨(hq q hq').1,(hq q hq').2.1,(hq q hq').2.2 _ (List.getElem_mem hi)⟩) h45
  have hx':=hx
  simp only[bd,show MV=262144 from rfl] at hx'
  refine aa (z:=l.map aj) rfl (aa am (aa ag (aZ (by show((i:Int)<((l.map aj).length:Int));rw[aB];omega) ?_)))
  refine aa (z:=l.map aj) rfl (aa (z:=i) (by rw[aB];exact aE hi) (aa (hget i hi) ?_))
  refine aa ((hc 31 _ (by decide)).trans (Oq (n+1033) (v:=l[i]) (by simp only[inR];omega) (by simp only[inR];omega) (by simp only[inR];omega))) ?_
  refine aa ((hc 30 _ (by decide)).trans h30) (aa am (aa ag (aY (by omega) ?_)))
  exact aa (bn (a:=i) (b:=1) (by omega)) rfl
 subst hJ
 refine⟨(1,[]),aa (z:=l.map aj) rfl (aa am (aa ag (aY (by show ¬ ((l.length:Int)<((l.map aj).length:Int));rw[aB];omega) rfl))),?_⟩
 rw[if_neg (show ¬ (1:Nat)=0 by decide)]
 refine bq (fun i s=>s=[I (i:Int)]) T.length 0 (Nat.zero_le _) rfl (fun i hi s hJ=>?_) (fun s hJ=>?_)
 ·subst hJ
  left
  refine⟨[I ((i+1:Nat):Int)],?_,rfl⟩
  have hgT:(T.map aj)[i]?=some (aj T[i]):=by simp[hi]
  have hTi:=hTm T[i] (List.getElem_mem hi)
  generalize T[i]=x at *
  refine aa (z:=bA T) rfl (aa (z:=T.map aj) rfl (aa am (aa ag (aZ (by show((i:Int)<((T.map aj).length:Int));rw[aB];omega) ?_))))
  refine fJ (fun j s=>s=[.bool ((l.take j).any fun z=>decide (z=x)),I (j:Int)]) l.length 0 (Nat.zero_le _) rfl (fun j hj s hJ=>?_) (fun s hJ=>?_)
  ·subst hJ
   left
   refine⟨[.bool ((l.take (j+1)).any fun z=>decide (z=x)),I ((j+1:Nat):Int)],?_,rfl⟩
   have e1:((l.take (j+1)).any fun z=>decide (z=x))=(((l.take j).any fun z=>decide (z=x))||decide (l[j]=x)):=by
    rw[List.take_succ_eq_append_getElem hj,List.any_append];simp
   rw[e1]
   refine aa (z:=l.map aj) rfl (aa am (aa ag (aZ (by show((j:Int)<((l.map aj).length:Int));rw[aB];omega) ?_)))
   refine aa (z:=((l.take j).any fun z=>decide (z=x))) rfl (aa (z:=(((l.take j).any fun z=>decide (z=x))||decide (l[j]=x))) ?_ (aa (bn (a:=j) (b:=1) (by omega)) rfl))
   cases ((l.take j).any fun z=>decide (z=x)) with
   | true=>rfl
   | false=>
    rw[if_neg (by decide)]
    refine aa (z:=l.map aj) rfl (aa (z:=j) (by rw[aB];exact aE hj) (aa (hget j hj) ?_))
    refine aa (z:=bA T) rfl (aa (z:=T.map aj) rfl (aa (z:=i) (by rw[aB];exact aE hi) (aa hgT ?_)))
    rw[u7,Bool.false_or];rfl
  ·subst hJ
   have hany:((l.take l.length).any fun z=>decide (z=x))=true:=by
    rw[List.take_length];exact List.any_eq_true.2 ⟨x,hTi,by simp⟩
   rw[hany]
   refine⟨_,aa (z:=l.map aj) rfl (aa am (aa ag (aY (by show ¬ ((l.length:Int)<((l.map aj).length:Int));rw[aB];omega) rfl))),?_⟩
   refine aa (z:=.bool false) rfl (aa (z:=false) rfl ?_)
   rw[if_neg (by decide)]
   exact aa (bn (a:=i) (b:=1) (by omega)) rfl
 subst hJ
 refine⟨(1,[]),aa (z:=bA T) rfl (aa (z:=T.map aj) rfl (aa am (aa ag (aY (by show ¬ ((T.length:Int)<((T.map aj).length:Int));rw[aB];omega) rfl)))),?_⟩
 rw[if_neg (show ¬ (1:Nat)=0 by decide)]
 obtain⟨k,hk⟩:∃ k,k=b.toNat%(l.length+1):=⟨_,rfl⟩
 have hkl:k<=l.length:=by
  have:=Nat.mod_lt b.toNat (show 0<l.length+1 by omega)
  omega
 have hrem:D.bin .rem (I b) (I ((l.length+1:Nat):Int))=some (I (k:Int)):=by
  rw[show b=((b.toNat:Nat):Int) by omega,hk]
  exact jf (by omega)
 have hcut:D.cut (l.map aj) 0 k=some ((l.take k).map aj):=by
  unfold D.cut
  rw[if_pos ⟨by omega,by rw[aB];exact hkl⟩,List.drop_zero,List.map_take]
 refine aa (z:=I b) (by simp only[D.conv,ie (show inR b by simp only[inR];omega)]) (aa (z:=l.map aj) rfl (aa (z:=I ((l.length+1:Nat):Int)) (by rw[aB];exact bn (a:=l.length) (b:=1) (by omega)) (aa hrem (aa (z:=bA T) rfl (aa (z:=T.map aj) rfl ?_)))))
 have hn1:List.length ([]:List D)+List.length (T.map aj)<=1073741824:=by rw[aB];show 0+T.length<=_;omega
 refine(if_pos hn1).trans (aa (z:=l.map aj) rfl (aa (oY k) (aa hcut ?_)))
 have hn2:List.length (([]:List D)++T.map aj)+List.length ((l.take k).map aj)<=1073741824:=by
  rw[List.nil_append,aB,aB,List.length_take];omega
 refine(if_pos hn2).trans ?_
 have g11:=Ay (n+1031) hb h16 hK h4 h64 (m:=T++l.take k) (fun x hx=>List.mem_append_left _ (by rw[hT];exact hx)) (fun x hx=>by
  rcases List.mem_append.1 hx with h|h
  ·exact hTm x h
  ·exact List.mem_of_mem_take h) (by rw[List.length_append,List.length_take];omega)
 rw[<-hT] at g11
 have eM:D.sl (([]++T.map aj)++(l.take k).map aj)=bA (T++l.take k):=by
  unfold bA;rw[List.nil_append,List.map_append]
 rw[eM]
 refine aa ((hc 11 _ (by decide)).trans g11) (aa (z:=lG T) rfl (aa (z:=I 0) rfl (aa (z:=false) rfl (aa (z:=false) ?_ (aa (z:=false) rfl ?_)))))
 ·rw[if_neg (by decide)]
  refine aa (z:=bA T) rfl (aa (z:=bA T) rfl (aa ((hc 13 _ (by decide)).trans (NO (n+1039) T T (by omega))) ?_))
  rw[decide_eq_true rfl];rfl
 rw[if_neg (by decide)]
 refine aa (z:=l.map aj) rfl (aa (oY k) (aa hcut ?_))
 have eK:D.sl ((l.take k).map aj)=bA (l.take k):=rfl
 rw[eK]
 rcases wQ (n+1031) (l:=l.take k) (by rw[List.length_take];omega) with⟨e,he,h11k⟩|⟨hbk,Fk,hKk,h4k,h64k,h11k⟩
 ·refine aa ((hc 11 _ (by decide)).trans h11k) (aa (z:=.st [.sl []]) rfl (aa (z:=I e) rfl (aa h10 (aa (z:=true) rfl (aa (z:=true) (rd ?_) rfl)))))
  exact aa (z:=true) (by rw[hneq,decide_eq_false he];rfl) rfl
 ·refine aa ((hc 11 _ (by decide)).trans h11k) (aa (z:=lG _) rfl (aa (z:=I 0) rfl (aa h10 (aa (z:=true) rfl (aa (z:=true) (rd ?_) rfl)))))
  refine aa (z:=false) rfl ?_
  rw[if_neg (by decide)]
  have hSk:=iZ (cW (l.take k))
  have hSbk:=oP hbk
  have hslk:=mE (l.take k)
  rw[List.length_take] at hslk
  obtain⟨wk,hwk⟩:=Fl hKk h4k
  obtain⟨w,hw,hle⟩:=fm.all hb (by omega) hwk
  obtain⟨hvk,hTkS⟩:=fm.vtx hSk hSbk (by omega) hKk hwk
  obtain⟨hv,_⟩:=fm.vtx hS hSb (by omega) hK hw
  have hTkb:∀ x∈cq (bt (l.take k)) Fk (bt (l.take k)).length,bd MV x:=fun x hx=>hSbk x ((gu _ Fk).subset hx)
  have hTkl:(cq (bt (l.take k)) Fk (bt (l.take k)).length).length<=64:=by have:=(gu (bt (l.take k)) Fk).length_le;omega
  rw[<-hT] at hv
  generalize cq (bt (l.take k)) Fk (bt (l.take k)).length=Tk at *
  obtain⟨L1,poly1,a1,a2,a3,a4⟩:=Fx hTkb hTkl hTkS
  obtain⟨L2,poly2,b1,b2,b3,b4⟩:=Fx hTb (by omega) hTS
  have w1:=Mr (n+1030) hTkb a3 (a4 _)
  have w2:=Mr (n+1030) hTb b3 (b4 _)
  have i1:=kb (CM hTkb a3)
  have i2:=kb (CM hTb b3)
  rw[Cw,<-(fm.of hTkS hvk a1 a2).1] at w1 i1
  rw[Cw,<-(fm.of hTS hv b1 b2).1] at w2 i2
  refine aa ((hc 23 _ (by decide)).trans w1) (aa ((hc 23 _ (by decide)).trans w2) (aa ((hc 32 _ (by decide)).trans (Mw (n+1037) (Gz i1) (Gz i2))) (aa Bw ?_)))
  have:ba wk w<=0:=by
   unfold ba
   split
   ·decide
   ·rw[if_neg (by omega)];decide
  rw[decide_eq_true this];rfl
end Go.Proofs.YtjjjkojfijpeeaaGreat.Sy
end
section
namespace Go.Proofs.YtjjjkojfijpeeaaGreat.Sy
open Go Go.Proofs Go.Proofs.YtjjjkojfijpeeaaGreat.Geo
theorem Kn:lX 6=some ([K2,.int .u8],.bool):=by kernel_rfl
theorem ctr6{d:D}{b:Int}(h:wt K2 d)(hb:0<=b/\b<=255):C8 Tryz.prog [K2,.int .u8] .bool 6 [d,.int .u8 b] (.bool true):=by
 obtain⟨l,rfl⟩:=Hb h
 refine L6 lg (wB (0+1040)) (Cv _) [K2,.int .u8] .bool [bA l,.int .u8 b] (.bool true) Kn ?_ ⟨_,_,rfl,h,_,[],rfl,⟨b,rfl⟩,rfl⟩
 exact Kz 0 l b hb (fun f xs hf=>by unfold wB;rw[if_neg hf]) (by unfold wB;rw[if_pos rfl];exact ye)
end Go.Proofs.YtjjjkojfijpeeaaGreat.Sy
end
section
namespace Go.Proofs.YtjjjkojfijpeeaaGreat
open Go Go.ChangeShapes Go.WideShapes Go.ChangeAt Go.RowKit
namespace Sy
theorem lay22:be Tryz.prog K2 22=true:=by kernel_rfl
theorem under4:Tryz.prog.underlying 4=some .bool:=by kernel_rfl
theorem DR0_of{W:World}{S:Nat->Nat->Prop}{d:D}{a:Option Addr}{n m:Nat}(h:wt K2 d)(k:cw W S d.flat (Value.slice a n m).cells.toList):dY W S d (.slice a n m):=by
 obtain⟨l,rfl,_⟩:=h
 exact⟨fun cs h=>(by cases h),k⟩
theorem bool_of{W:World}{S:Nat->Nat->Prop}{b:Bool}{v:Value}(h:DR W S (.bool b) v):v=.bool b:=by
 obtain⟨h1,h2⟩:=(h:dY W S (.bool b) v)
 have h3:=(bj (by intro d hd;simp only[D.flat,List.mem_singleton] at hd;subst hd;rfl)).1 h2
 exact al h1 (by simpa [D.flat,aW] using h3)
theorem slice_of{P:Program}{t:Ty}{T:TypeId}(hl:be P (.sl t) T=true){W:World}{base:Nat}{v:Value}(h:Value.okWide P W .any base T v):∃ a n m,v=.slice a n m:=by
 obtain⟨u,hu,_⟩:=fU hl
 exact okWide_slice hu h
theorem Gn:Tryz.prog.underlying 5=some (.int .u8):=by kernel_rfl
set_option maxRecDepth 100000 in
theorem byte_in{W:World}{base:Nat}{b:Int}(h:Value.okWide Tryz.prog W .any base 5 (.int .u8 b)):0<=b/\b<=255:=by
 simp only[Value.okWide,Gn,Cell.okWide,Cell.ok] at h
 exact h.2
theorem DR0_int{W:World}{S:Nat->Nat->Prop}{b:Int}:dY W S (.int .u8 b) (.int .u8 b):=by
 refine⟨fun cs h=>(by cases h),?_⟩
 exact(bj (by intro d hd;simp only[D.flat,List.mem_singleton] at hd;subst hd;rfl)).2 rfl
end Sy
theorem KR:ownKnob Tryz.prog.godebug=none:=by kernel_rfl
theorem ws:laidOutB Tryz.prog=true:=by kernel_rfl
theorem CJ:Tryz.f6.params=#[22,5]:=by kernel_rfl
set_option maxRecDepth 100000 in
theorem rl(os:Os)(started:os.Started)(H:Type)(enc:TypeId×Value->H) :
  ReturnsInHanded {} Tryz.checked os 6 .any (Rows.hullContainsPointsSpec.pre6 enc Tryz.prog Tryz.f6 Rows.hullContainsPointsRow.domain false) (Rows.hullContainsPointsSpec.post enc Tryz.prog Tryz.f6 false true false false):=by
 refine returnsInHanded_of_change (C:=Tryz.checked) KR started (by kernel_rfl) (show Tryz.prog.funcs[6]?=some Tryz.f6 by kernel_rfl)
  (ChangeSpec.witness6 (enc:=enc) (C:=Tryz.checked) false ⟨#[],#[.slice none 0 0,.int .u8 0],[]⟩ 8 (by kernel_rfl) (by kernel_rfl) (by kernel_rfl) (by kernel_rfl)) ?_
 intro W base args ds gs before hval0 hW hcnd _
 have hval:∀ (j:Nat) t v,Tryz.f6.params[j]?=some t->args[j]?=some v->Value.okWide Tryz.prog W .any base t v:=hval0
 have hW':=hW
 obtain⟨p,q,hA0,hV,rfl,hfz,hnd⟩:=hW
 have hA:DataW.TrodAll enc Tryz.prog W 0 (fun _=>true) true Tryz.f6.params.toList args.toList ds p:=hA0
 rw[CJ] at hA hval
 obtain⟨v0,v1,d0,d1,p0,p1,rfl,rfl,rfl,h0,h1⟩:=trodAll_two hA
 obtain⟨rfl,rfl⟩:=trodVars_none hV
 clear hA0 hval0
 obtain⟨sa,sn,sm,rfl⟩:∃ a n m,v0=.slice a n m:=Sy.slice_of (P:=Tryz.prog) (T:=22) Sy.lay22 (hval 0 22 v0 rfl rfl)
 obtain⟨b,rfl⟩:=okWide_int Sy.Gn (hval 1 5 v1 rfl rfl)
 have hrng:=Sy.byte_in (hval 1 5 _ rfl rfl)
 have h0':=h0
 have h1':=h1
 obtain⟨fuel,hf⟩:=h0
 obtain⟨d,hd1,hd2⟩:=Sy.to (W:=W) Sy.K2 22 fuel _ _ Sy.lay22 (by rfl) hf
 have hctr:=Sy.ctr6 hd1 hrng W (Sy.pP W) [.slice sa sn sm,.int .u8 b] (fun _ _ h=>Sy.valid_lt h) ⟨_,_,rfl,hd1,_,[],rfl,⟨b,rfl⟩,rfl⟩ rfl (fun i x v hx hv=>by
  cases i with
  | zero=>simp at hx hv;subst hx;subst hv;exact Sy.DR0_of hd1 hd2
  | succ i=>
   cases i with
   | zero=>simp at hx hv;subst hx;subst hv;exact Sy.DR0_int
   | succ i=>simp at hx)
 refine Go.Calls.mono hctr fun e W' he=>?_
 obtain⟨v,rfl,⟨os',dr,hdr,rfl⟩,_,hv⟩:=he
 have hv':v=.bool true:=Sy.bool_of hv
 subst hv'
 have hb:Below W.heap.size W (ao W os' dr):=⟨rfl,rfl,rfl,by simp[ao],fun k hk=>co W os' dr hk⟩
 have hlt0:∀ x∈p0,x.block<W.heap.size:=fun x hx=>by simpa using hW'.lt x (by simp[hx])
 have hlt1:∀ x∈p1,x.block<W.heap.size:=fun x hx=>by simpa using hW'.lt x (by simp[hx])
 exact⟨_,rfl,_,_,_,[],p0++p1,[],hW',trodAll_mk1 ((Go.RowKit.shut_bool (P:=Tryz.prog) Sy.under4 true)),trodAll_mk2 (Below.trod ws (by kernel_rfl) (of_decide_eq_true (by kernel_rfl)) h0' hb hlt0) (Below.trod ws (by kernel_rfl) (of_decide_eq_true (by kernel_rfl)) h1' hb hlt1),rfl,hb.frame _,fun h=>by cases h⟩
theorem hullContainsPoints_holds:Rows.HullContainsPointsSaid:=
 OpenClaim.holds_of_wide 6 Tryz.f6 rfl rfl rfl rfl rfl rfl rfl ⟨rfl,rfl,rfl,rfl,rfl⟩ rfl rfl rfl rfl rfl (by kernel_rfl) (show Tryz.prog.funcs[6]?=some Tryz.f6 by kernel_rfl) (by kernel_rfl)
  (of_decide_eq_true (by kernel_rfl)) (by unfold Func.isWrapper;first|(rw[if_pos (by decide +kernel)];kernel_rfl)|(rw[if_neg (by decide +kernel)];exact⟨rfl,rfl⟩))
  (fun os started H enc _=>rl os started H enc)
end Go.Proofs.YtjjjkojfijpeeaaGreat
end
