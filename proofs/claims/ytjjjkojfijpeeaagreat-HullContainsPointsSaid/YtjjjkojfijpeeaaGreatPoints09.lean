/- Part 9 of the proof that HullContainsPoints answers true at every input -/
import Derived.Test.YtjjjkojfijpeeaaGreatPoints08
import Derived.RangeFuncRecord
import Derived.RangeFuncLeaves
import Derived.RangeFuncSeq
import Derived.KernelRfl
set_option linter.unusedVariables false
set_option linter.unusedSimpArgs false
set_option linter.unnecessarySimpa false
section
set_option linter.unusedVariables false
namespace Go.Proofs.YtjjjkojfijpeeaaGreat.Sy
open Go Go.Proofs Go.Proofs.YtjjjkojfijpeeaaGreat.Geo
theorem GY(a b c:Int):D.sl [I a,I b,I c]=D.sl ([a,b,c].map fun x=>I x):=rfl
theorem Lv(n:Nat)(p q:V×Int):cA (n+3) 100 [bi p,bi q]=some (I (rB [ba p.1.x q.1.x,ba p.1.y q.1.y,ba p.1.z q.1.z])):=by
 rw[JW]
 unfold EI
 simp only[show ∀ p:V×Int,D.get (bi p) [0]=some (aj p.1) from fun _=>rfl,show ∀ p:V×Int,D.get (bi p) [0,0]=some (I p.1.x) from fun _=>rfl,show ∀ p:V×Int,D.get (bi p) [0,1]=some (I p.1.y) from fun _=>rfl,show ∀ p:V×Int,D.get (bi p) [0,2]=some (I p.1.z) from fun _=>rfl,wI,vq,wi,Option.bind_some,HN,GY,Mn (n+1) [ba p.1.x q.1.x,ba p.1.y q.1.y,ba p.1.z q.1.z] (by simp)]
theorem uy(a:Int):ba a 0=sg a:=rfl
theorem Hz(a:Int):-1<=sg a/\sg a<=1:=by unfold sg;split<;>(try split)<;>omega
theorem xL(a b:Int):inR (sg a*sg b):=by
 have:=gb (A:=1) (B:=1) (Hz a) (Hz b);simp only[inR];omega
theorem G5(v:V):D.fld (aj v) 0=some (I v.x):=rfl
theorem HT(v:V):D.fld (aj v) 1=some (I v.y):=rfl
theorem GW(v:V):D.fld (aj v) 2=some (I v.z):=rfl
theorem L4:inR (0+1):=⟨by decide,by decide⟩
theorem yX:inR (1+1):=⟨by decide,by decide⟩
theorem GK:inR (2+1):=⟨by decide,by decide⟩
theorem La(n:Nat){A B:Int}{m u v:V}(hu:bd A u)(hv:bd B v)(h:2*(A*B)<=9223372036854775807):cA (n+3) 104 [aj m,aj u,aj v]=some (I (yE m (V.cross u v))):=by
 rw[JZ]
 unfold DZ
 simp only[Gr (n+1) hu hv h,Option.bind_some]
 generalize V.cross u v=c
 unfold yE
 by_cases hx:m.x=0
 ·refine je (s':=[I 1]) (by simp only[g0,am,Option.bind_some,ag,Jh,G5,cV,hx,decide_true,Bool.not_true,Bool.false_eq_true,if_false,aS L4];rfl) ?_
  by_cases hy:m.y=0
  ·refine je (s':=[I 2]) (by simp only[g0,am,Option.bind_some,ag,KQ,HT,cV,hy,decide_true,Bool.not_true,Bool.false_eq_true,if_false,aS yX];rfl) ?_
   by_cases hz:m.z=0
   ·refine je (s':=[I 3]) (by simp only[g0,am,Option.bind_some,ag,KG,GW,cV,hz,decide_true,Bool.not_true,Bool.false_eq_true,if_false,aS GK];rfl) ?_
    refine j6 (r:=(1,[])) (by simp only[g0,am,Option.bind_some,ag];rfl) ?_
    simp[hx,hy,hz]
   ·refine j6 (r:=(0,[I (sg c.z*sg m.z)])) ?_ (by simp[hx,hy,hz,Int.mul_comm])
    simp only[g0,am,Option.bind_some,ag,KG,GW,wi,cV,hz,decide_false,Bool.not_false,if_true,HN,uy,gL (xL _ _)];rfl
  ·refine j6 (r:=(0,[I (sg c.y*sg m.y)])) ?_ (by simp[hx,hy,Int.mul_comm])
   simp only[g0,am,Option.bind_some,ag,KQ,HT,vq,cV,hy,decide_false,Bool.not_false,if_true,HN,uy,gL (xL _ _)];rfl
 ·refine j6 (r:=(0,[I (sg c.x*sg m.x)])) ?_ (by simp[hx,Int.mul_comm])
  simp only[g0,am,Option.bind_some,ag,Jh,G5,wI,cV,hx,decide_false,Bool.not_false,if_true,HN,uy,gL (xL _ _)];rfl
instance decLex (a b:V):Decidable (ar a b):=by unfold ar;exact inferInstance
def bA(l:List V):D:=.sl (l.map aj)
def uU(l:List V)(m:V)(d:Int):Bool:=l.all fun x=>decide (V.dot m x<=d)
def pp(l:List V)(m:V)(d:Int):Bool:=l.any fun x=>decide (V.dot m x<d)
theorem Ky{l:List V}{i:Nat}(h:i<l.length):(l.map aj)[i]?=some (aj l[i]):=by simp[h]
theorem Nt(n:Nat){A:Int}{l:List V}{m:V}{d:Int}(hl:∀ x∈l,bd MV x)(hm:bd A m)(hA:3*(A*262144)<=9223372036854775807)(hlen:l.length<=1000000):cA (n+2) 98 [bA l,bi (m,d)]=some (.bool (uU l m d&&pp l m d)):=by
 rw[Ok]
 unfold Ii
 simp only[bA,D.asSl,Option.bind_some]
 refine bq (fun i s=>s=[.bool (!pp (l.take i) m d),I i]/\uU (l.take i) m d=true) l.length 0 (Nat.zero_le _) ⟨by simp[pp],by simp[uU]⟩ (fun i hi s hJ=>?_) (fun s hJ=>?_)
 ·obtain⟨rfl,hs⟩:=hJ
  have ht:l.take (i+1)=l.take i++[l[i]]:=List.take_succ_eq_append_getElem hi
  have hc:=CV n hm (hl l[i] (List.getElem_mem hi)) hA
  simp only[g0,g1,List.length_map,am,ff,Option.bind_some,ag,decide_eq_true_eq,show((i:Int)<(l.length:Int)) from by omega,if_true,aE hi,Ky hi,show D.get (bi (m,d)) [0]=some (aj m) from rfl,show D.get (bi (m,d)) [1]=some (I d) from rfl,hc,cV]
  by_cases hgt:V.dot m l[i]>d
  ·right
   refine⟨(0,[.bool false]),by simp only[hgt,if_true],?_⟩
   have:uU l m d=false:=by
    rw[Bool.eq_false_iff];intro h
    have:=List.all_eq_true.1 h l[i] (List.getElem_mem hi)
    simp at this;omega
   simp[g0,this]
  ·left
   refine⟨[.bool (!pp (l.take (i+1)) m d),I ((i+1:Nat):Int)],?_,rfl,?_⟩
   ·simp only[hgt,if_false,aS (aK (i:=i) (by omega)),Option.bind_some]
    have e:(!pp (l.take (i+1)) m d)=(!pp (l.take i) m d&&decide (V.dot m l[i]=d)):=by
     rw[ht];simp only[pp,List.any_append,List.any_cons,List.any_nil,Bool.or_false,Bool.not_or]
     congr 1
     by_cases h2:V.dot m l[i]=d
     ·simp[h2]
     ·have:V.dot m l[i]<d:=by omega
      simp[h2,this]
    rw[e]
    cases pp (l.take i) m d<;>simp
   ·rw[ht];simp only[uU,List.all_append,Bool.and_eq_true] at hs ⊢
    exact⟨hs,by simp;omega⟩
 ·obtain⟨rfl,hs⟩:=hJ
  refine⟨(1,[.bool (!pp (l.take l.length) m d)]),?_,?_⟩
  ·simp only[g0,g1,List.length_map,am,Option.bind_some,ag,decide_eq_true_eq,Int.lt_irrefl,if_false]
  ·rw[List.take_length] at *
   simp[g0,hs,cO]
end Go.Proofs.YtjjjkojfijpeeaaGreat.Sy
end
section
set_option linter.unusedVariables false
namespace Go.Proofs.YtjjjkojfijpeeaaGreat.Sy
open Go Go.Proofs Go.Proofs.YtjjjkojfijpeeaaGreat.Geo
theorem C2{α:Type}{body:Bd}{s0:List D}{k:Nat×List D->Option α}{Y:α->Prop}(J:Nat->List D->Prop)(n i0:Nat)(hi:i0<=n)(h0:J i0 s0)
  (hs:∀ i,i<n->∀ s,J i s->∃ z,body s=some z/\match z with|.inl s'=>J (i+1) s'|.inr r=>∃ y,k r=some y/\Y y)
  (he:∀ s,J n s->∃ z,body s=some z/\match z with|.inl _=>False|.inr r=>∃ y,k r=some y/\Y y):∃ y,Option.bind (bg body s0) k=some y/\Y y:=by
 obtain⟨m,hm⟩:∃ m,m=n-i0:=⟨_,rfl⟩
 induction m generalizing i0 s0 with
 | zero=>
  have:i0=n:=by omega
  subst this
  obtain⟨z,h1,h2⟩:=he s0 h0
  cases z with
  | inl s'=>exact h2.elim
  | inr r=>obtain⟨y,h3,h4⟩:=h2;exact⟨y,by rw[show bg body s0=some r from eI h1];exact h3,h4⟩
 | succ m ih=>
  obtain⟨z,h1,h2⟩:=hs i0 (by omega) s0 h0
  cases z with
  | inl s'=>
   obtain⟨y,h3,h4⟩:=ih (i0:=i0+1) (by omega) h2 (by omega)
   exact⟨y,by rw[show bg body s0=bg body s' from ef h1];exact h3,h4⟩
  | inr r=>obtain⟨y,h3,h4⟩:=h2;exact⟨y,by rw[show bg body s0=some r from eI h1];exact h3,h4⟩
theorem cL{α:Type}{body:Bd}{s s':List D}{k:Nat×List D->Option α}{y:α}(h:body s=some (.inl s'))(hk:Option.bind (bg body s') k=some y):Option.bind (bg body s) k=some y:=by
 have:bg body s=bg body s':=ef h
 rw[this];exact hk
theorem jd{α:Type}{body:Bd}{s:List D}{r:Nat×List D}{k:Nat×List D->Option α}{y:α}(h:body s=some (.inr r))(hk:k r=some y):Option.bind (bg body s) k=some y:=by
 have:bg body s=some r:=eI h
 rw[this];exact hk
theorem fJ{α:Type}{body:Bd}{s0:List D}{k:Nat×List D->Option α}{y:α}(J:Nat->List D->Prop)(n i0:Nat)(hi:i0<=n)(h0:J i0 s0)
  (hs:∀ i,i<n->∀ s,J i s->(∃ s',body s=some (.inl s')/\J (i+1) s')\/∃ r,body s=some (.inr r)/\k r=some y) (he:∀ s,J n s->∃ r,body s=some (.inr r)/\k r=some y):Option.bind (bg body s0) k=some y:=by
 obtain⟨m,hm⟩:∃ m,m=n-i0:=⟨_,rfl⟩
 induction m generalizing i0 s0 with
 | zero=>
  have:i0=n:=by omega
  subst this
  obtain⟨r,h1,h2⟩:=he s0 h0
  exact jd h1 h2
 | succ m ih=>
  rcases hs i0 (by omega) s0 h0 with⟨s',h1,h2⟩|⟨r,h1,h2⟩
  ·exact cL h1 (ih (i0:=i0+1) (by omega) h2 (by omega))
  ·exact jd h1 h2
theorem aa{α β:Type}{A:Option α}{g:α->Option β}{z:α}{y:β}(h:A=some z)(hk:g z=some y):Option.bind A g=some y:=by
 rw[h];exact hk
theorem u7(u v:V):D.beq (aj u) (aj v)=decide (u=v):=by
 simp only[aj,D.beq,D.beqs,decide_true,Bool.true_and,Bool.and_true]
 by_cases h:u=v
 ·subst h;simp
 ·by_cases h1:u.x=v.x<;>by_cases h2:u.y=v.y<;>by_cases h3:u.z=v.z<;>simp[h,h1,h2,h3]
  exact h (V.ext' h1 h2 h3)
theorem FG(p q:V×Int):D.beq (bi p) (bi q)=decide (p=q):=by
 have:D.beq (bi p) (bi q)=(D.beq (aj p.1) (aj q.1)&&(D.beq (I p.2) (I q.2)&&true)):=rfl
 rw[this,u7,cV]
 obtain⟨a,b⟩:=p
 obtain⟨c,d⟩:=q
 by_cases h1:a=c<;>by_cases h2:b=d<;>simp[h1,h2]
def gk(K:List (V×Int)):List D:=K.map fun q=>.st [bi q,.bool true]
theorem sA:∀ (K:List (V×Int)) (q:V×Int),D.mget (gk K) (bi q)=if q∈K then some (.bool true) else none
 | [],q=>by simp[gk,D.mget]
 | p::K,q=>by
  have ih:=sA K q
  simp only[gk,List.map_cons,D.mget,FG] at ih ⊢
  by_cases h:q=p
  ·simp[h]
  ·rw[ih];simp[h]
theorem su:∀ (K:List (V×Int)) (q:V×Int),q ∉ K->D.mput (gk K) (bi q) (.bool true)=gk (K++[q])
 | [],q,_=>rfl
 | p::K,q,h=>by
  have ih:=su K q (fun hq=>h (List.mem_cons_of_mem _ hq))
  have hne:¬ q=p:=fun e=>h (by rw[e];exact List.mem_cons_self)
  simp only[gk,List.map_cons,List.cons_append,D.mput,FG,hne,decide_false,Bool.false_eq_true,if_false] at ih ⊢
  rw[ih]
theorem AL(K:List (V×Int)):(gk K).map rh=K.map bi:=by simp[gk,rh]
def supp(l:List V)(q:V×Int):Bool:=uU l q.1 q.2&&pp l q.1 q.2
def gS(l:List V)(K:List (V×Int))(q:V×Int):List (V×Int):=if q∈K then K else if supp l q then K++[q] else K
theorem qS{l:List V}{K:List (V×Int)}{q x:V×Int}(h:x∈K):x∈gS l K q:=by
 unfold gS
 split
 ·exact h
 ·split
  ·exact List.mem_append_left _ h
  ·exact h
theorem vR{l:List V}{K:List (V×Int)}{q:V×Int}(h:supp l q=true):q∈gS l K q:=by
 unfold gS
 split
 ·assumption
 ·simp
theorem vA{l:List V}{K:List (V×Int)}{q x:V×Int}(h:x∈gS l K q):x∈K\/(x=q/\supp l q=true):=by
 unfold gS at h
 split at h
 ·exact .inl h
 ·split at h
  ·rename_i hs
   rcases List.mem_append.1 h with h|h
   ·exact .inl h
   ·exact .inr ⟨List.mem_singleton.1 h,hs⟩
  ·exact .inl h
theorem pA{l:List V}{K:List (V×Int)}{q:V×Int}(h:K.Nodup):(gS l K q).Nodup:=by
 unfold gS
 split
 ·exact h
 ·rename_i hq
  split
  ·exact List.nodup_append.2 ⟨h,by simp,fun x hx y hy e=>hq (by rw[List.mem_singleton.1 hy] at e;exact e ▸ hx)⟩
  ·exact h
def m9(a b c:V):V×Int:=(bw (V.cross (b.sub a) (c.sub a)),V.dot (bw (V.cross (b.sub a) (c.sub a))) a)
def kK(q:V×Int):V×Int:=(q.1.neg,-q.2)
def Cd(l:List V)(i j k:Nat)(q:V×Int):Prop:=(m9 (l.getD i V.zero) (l.getD j V.zero) (l.getD k V.zero)).1≠V.zero/\(q=m9 (l.getD i V.zero) (l.getD j V.zero) (l.getD k V.zero)\/q=kK (m9 (l.getD i V.zero) (l.getD j V.zero) (l.getD k V.zero)))
structure Known(l:List V)(i j k:Nat)(K:List (V×Int)):Prop where
 nd:K.Nodup
 ok:∀ q∈K,supp l q=true/\∃ i j k,k<j/\j<i/\i<l.length/\Cd l i j k q
 all:∀ i' j' k',k'<j'->j'<i'->i'<l.length->(i'<i\/i'=i/\(j'<j\/j'=j/\k'<k))->∀ q,Cd l i' j' k' q->supp l q=true->q∈K
theorem Gh{a b c:V}(ha:bd MV a)(hb:bd MV b)(hc:bd MV c):bd 549755813888 (m9 a b c).1/\inR (m9 a b c).2/\inR (-(m9 a b c).2):=by
 have h1:bd 524288 (b.sub a):=by have:=pI hb ha;simpa [MV] using this
 have h2:bd 524288 (c.sub a):=by have:=pI hc ha;simpa [MV] using this
 have h3:=uk (jR h1 h2)
 have h4:=uD h3 ha
 simp only[MV] at h4
 refine⟨h3,?_,?_⟩<;>simp only[inR,m9]<;>omega
theorem Known.step{l:List V}{i j k:Nat}{K:List (V×Int)}(h:Known l i j k K)(hk:k<j)(hj:j<i)(hi:i<l.length)(hz:(m9 (l.getD i V.zero) (l.getD j V.zero) (l.getD k V.zero)).1≠V.zero) :
  Known l i j (k+1) (gS l (gS l K (m9 (l.getD i V.zero) (l.getD j V.zero) (l.getD k V.zero))) (kK (m9 (l.getD i V.zero) (l.getD j V.zero) (l.getD k V.zero)))):=by
 refine⟨pA (pA h.nd),fun q hq=>?_,fun i' j' k' h1 h2 h3 h4 q hq hs=>?_⟩
 ·rcases vA hq with hq|⟨rfl,hs⟩
  ·rcases vA hq with hq|⟨rfl,hs⟩
   ·exact h.ok q hq
   ·exact⟨hs,i,j,k,hk,hj,hi,hz,.inl rfl⟩
  ·exact⟨hs,i,j,k,hk,hj,hi,hz,.inr rfl⟩
 ·by_cases e:i'=i/\j'=j/\k'=k
  ·obtain⟨rfl,rfl,rfl⟩:=e
   rcases hq.2 with rfl|rfl
   ·exact qS (vR hs)
   ·exact vR hs
  ·exact qS (qS (h.all i' j' k' h1 h2 h3 (by omega) q hq hs))
theorem Known.skip{l:List V}{i j k:Nat}{K:List (V×Int)}(h:Known l i j k K)(hz:(m9 (l.getD i V.zero) (l.getD j V.zero) (l.getD k V.zero)).1=V.zero):Known l i j (k+1) K:=by
 refine⟨h.nd,h.ok,fun i' j' k' h1 h2 h3 h4 q hq hs=>?_⟩
 by_cases e:i'=i/\j'=j/\k'=k
 ·obtain⟨rfl,rfl,rfl⟩:=e
  exact absurd hz hq.1
 ·exact h.all i' j' k' h1 h2 h3 (by omega) q hq hs
theorem Known.next{l:List V}{i j:Nat}{K:List (V×Int)}(h:Known l i j j K):Known l i (j+1) 0 K:=
 ⟨h.nd,h.ok,fun i' j' k' h1 h2 h3 h4=>h.all i' j' k' h1 h2 h3 (by omega)⟩
theorem Known.next2{l:List V}{i:Nat}{K:List (V×Int)}(h:Known l i i 0 K):Known l (i+1) 0 0 K:=
 ⟨h.nd,h.ok,fun i' j' k' h1 h2 h3 h4=>h.all i' j' k' h1 h2 h3 (by omega)⟩
theorem lP{α β:Type}{f:α->List β}{c:Nat}:∀ l:List α,(∀ x∈l,(f x).length=c)->(l.flatMap f).length=l.length*c
 | [],_=>by simp
 | x::l,h=>by
  rw[List.flatMap_cons,List.length_append,h x List.mem_cons_self,lP l (fun y hy=>h y (List.mem_cons_of_mem _ hy)),List.length_cons,Nat.succ_mul]
  omega
theorem Known.len{l:List V}{i j k:Nat}{K:List (V×Int)}(h:Known l i j k K)(hl:l.length<=100):K.length<=2000000:=by
 have h1:=List.Nodup.length_le_of_subset (l₂:=(List.range l.length).flatMap fun i=>(List.range l.length).flatMap fun j=>(List.range l.length).flatMap fun k=>[m9 (l.getD i V.zero) (l.getD j V.zero) (l.getD k V.zero),kK (m9 (l.getD i V.zero) (l.getD j V.zero) (l.getD k V.zero))]) h.nd (fun q hq=>by
  obtain⟨_,i,j,k,h1,h2,h3,h4⟩:=h.ok q hq
  refine List.mem_flatMap.2 ⟨i,List.mem_range.2 h3,List.mem_flatMap.2 ⟨j,List.mem_range.2 (by omega),List.mem_flatMap.2 ⟨k,List.mem_range.2 (by omega),?_⟩⟩⟩
  rcases h4.2 with rfl|rfl<;>simp)
 rw[lP (c:=l.length*(l.length*2)) _ (fun i _=>by rw[lP (c:=l.length*2) _ (fun j _=>by rw[lP (c:=2) _ (fun k _=>rfl),List.length_range]),List.length_range]),List.length_range] at h1
 refine Nat.le_trans h1 ?_
 have a1:l.length*2<=200:=by omega
 have a2:l.length*(l.length*2)<=100*200:=Nat.mul_le_mul hl a1
 have a3:l.length*(l.length*(l.length*2))<=100*(100*200):=Nat.mul_le_mul hl a2
 exact a3
theorem hG{l:List V}{i:Nat}(h:i<l.length):(l.map aj)[i]?=some (aj (l.getD i V.zero)):=by simp[h,List.getD]
theorem gC{l:List V}{i:Nat}(h:i<l.length):l.getD i V.zero∈l:=by simp[List.getD,h]
theorem zX{n:Nat}{l:List V}{K:List (V×Int)}{q:V×Int}(hl:∀ x∈l,bd MV x)(hq:bd 549755813888 q.1)(hlen:l.length<=1000) :
  (if(!decide (q∈K))=true then(Option.bind (cA (n+2) 98 [bA l,bi q]) fun r=>D.truth r) else some false)=some (!decide (q∈K)&&supp l q):=by
 obtain⟨m,d⟩:=q
 have hc:=Nt n (d:=d) hl hq (by decide) (by omega)
 simp only[hc,Option.bind_some,ag]
 cases decide ((m,d)∈K)<;>rfl
end Go.Proofs.YtjjjkojfijpeeaaGreat.Sy
end
section
set_option linter.unusedVariables false
namespace Go.Proofs.YtjjjkojfijpeeaaGreat.Sy
open Go Go.Proofs Go.Proofs.YtjjjkojfijpeeaaGreat.Geo
theorem uj{a b:V}(h:ar a b):rB [ba a.x b.x,ba a.y b.y,ba a.z b.z]=-1:=by
 simp only[ar] at h
 rcases h with h|⟨h1,h|⟨h2,h⟩⟩
 ·simp[rB,ba,h]
 ·simp[rB,ba,h1,h]
 ·simp[rB,ba,h1,h2,h]
theorem uo{a b:V}(h:ar b a):rB [ba a.x b.x,ba a.y b.y,ba a.z b.z]=1:=by
 simp only[ar] at h
 rcases h with h|⟨h1,h|⟨h2,h⟩⟩
 ·simp[rB,ba,h,Int.not_lt.2 (Int.le_of_lt h)]
 ·simp[rB,ba,h1,h,Int.not_lt.2 (Int.le_of_lt h)]
 ·simp[rB,ba,h1,h2,h,Int.not_lt.2 (Int.le_of_lt h)]
theorem ui(a:V):rB [ba a.x a.x,ba a.y a.y,ba a.z a.z]=0:=by simp[rB,ba]
theorem ze{α:Type}(key:α->V):∀ (K:List α),K.Pairwise (fun a b=>key a≠key b)->∃ L:List α,L.Perm K/\L.Pairwise (fun a b=>ar (key a) (key b))
 | [],_=>⟨[],.refl _,.nil⟩
 | x::K,h=>by
  obtain⟨h1,h2⟩:=List.pairwise_cons.1 h
  obtain⟨L,p1,p2⟩:=ze key K h2
  have hne:∀ y∈L,key x≠key y:=fun y hy=>h1 y (p1.subset hy)
  have ins:∀ L:List α,L.Pairwise (fun a b=>ar (key a) (key b))->(∀ y∈L,key x≠key y)->∃ M:List α,M.Perm (x::L)/\M.Pairwise (fun a b=>ar (key a) (key b)):=by
   intro L
   induction L with
   | nil=>intro _ _;exact⟨[x],.refl _,by simp⟩
   | cons y L ih=>
    intro hp hn
    obtain⟨q1,q2⟩:=List.pairwise_cons.1 hp
    rcases gw (hn y List.mem_cons_self) with k|k
    ·refine⟨x::y::L,.refl _,List.pairwise_cons.2 ⟨fun z hz=>?_,hp⟩⟩
     rcases List.mem_cons.1 hz with rfl|hz
     ·exact k
     ·exact ii k (q1 z hz)
    ·obtain⟨M,m1,m2⟩:=ih q2 (fun z hz=>hn z (List.mem_cons_of_mem _ hz))
     refine⟨y::M,(m1.cons y).trans (.swap x y L),List.pairwise_cons.2 ⟨fun z hz=>?_,m2⟩⟩
     rcases List.mem_cons.1 (m1.subset hz) with rfl|hz
     ·exact k
     ·exact q1 z hz
  obtain⟨M,m1,m2⟩:=ins L p2 hne
  exact⟨M,m1.trans (p1.cons x),m2⟩
theorem zm(n:Nat)(p q:V×Int):oM (cm bg (cA (n+3)) (fj bg (cA (n+3)))) 100 (bi p) (bi q)=some (rB [ba p.1.x q.1.x,ba p.1.y q.1.y,ba p.1.z q.1.z]):=by
 unfold oM
 rw[show(cm bg (cA (n+3)) (fj bg (cA (n+3)))).call=cA (n+3) from rfl,Lv]
 rfl
theorem C0(n:Nat):∀ (L:List (V×Int)),L.Pairwise (fun a b=>ar a.1 b.1)->jn (cm bg (cA (n+3)) (fj bg (cA (n+3)))) 100 (L.map bi)=true
 | [],_=>rfl
 | p::L,h=>by
  obtain⟨h1,h2⟩:=List.pairwise_cons.1 h
  simp only[List.map_cons,jn,Bool.and_eq_true,List.all_eq_true,List.mem_map]
  refine⟨⟨?_,?_⟩,C0 n L h2⟩
  ·simp only[A3,zm,ui];decide
  ·rintro _ ⟨q,hq,rfl⟩
   simp only[jJ,A3,zm,uj (h1 q hq),uo (h1 q hq)];decide
theorem DA(n:Nat){K L:List (V×Int)}(hp:L.Perm K)(h:L.Pairwise (fun a b=>ar a.1 b.1)):hC (cm bg (cA (n+3)) (fj bg (cA (n+3)))) 100 (K.map bi)=some (L.map bi):=
 wv (C0 n L h) (hp.symm.map _)
def pt(l:List V)(i:Nat):V:=l.getD i V.zero
theorem kz(a b:V):V.dot a.neg b=- V.dot a b:=by simp only[V.dot,V.neg];grind
theorem Cd.dist{l:List V}{i j k:Nat}{q:V×Int}(h:Cd l i j k q):q.2=V.dot q.1 (l.getD i V.zero):=by
 rcases h.2 with rfl|rfl
 ·rfl
 ·simp only[kK,kz];rfl
theorem zn{l:List V}{q:V×Int}(h:supp l q=true){x:V}(hx:x∈l):V.dot q.1 x<=q.2:=by
 simp only[supp,uU,Bool.and_eq_true,List.all_eq_true,decide_eq_true_eq] at h
 exact h.1 x hx
theorem Known.keys{l:List V}{i j k:Nat}{K:List (V×Int)}(h:Known l i j k K):K.Pairwise (fun a b=>a.1≠b.1):=by
 refine List.Pairwise.imp_of_mem (fun{a b} ha hb hab e=>hab ?_) h.nd
 obtain⟨s1,i1,j1,k1,_,_,h1,c1⟩:=h.ok a ha
 obtain⟨s2,i2,j2,k2,_,_,h2,c2⟩:=h.ok b hb
 have e1:=c1.dist
 have e2:=c2.dist
 have l1:=zn s1 (gC h2)
 have l2:=zn s2 (gC h1)
 rw[e] at e1 l1
 exact Prod.ext e (by omega)
theorem KF(n:Nat){l:List V}(hl:∀ x∈l,bd MV x)(hlen:l.length<=100):∃ y,cA (n+6) 45 [bA l]=some y/\∃ K L:List (V×Int),Known l l.length 0 0 K/\L.Perm K/\L.Pairwise (fun a b=>ar a.1 b.1)/\y=.sl (L.map bi):=by
 rw[MP]
 unfold GM
 simp only[bA,D.asSl,Option.bind_some]
 refine C2 (fun i s=>∃ K,s=[I i,.sl (gk K)]/\Known l i 0 0 K) l.length 0 (Nat.zero_le _) ⟨[],rfl,⟨List.nodup_nil,by simp,fun i' j' k' _ _ _ h=>by omega⟩⟩ (fun i hi s hJ=>?_) (fun s hJ=>?_)
 ·obtain⟨K,rfl,hK⟩:=hJ
  simp only[g0,g1,List.length_map,am,Option.bind_some,ag,decide_eq_true_eq,show((i:Int)<(l.length:Int)) from by omega,if_true,D.els]
  refine C2 (fun j s=>∃ K,s=[I j,.sl (gk K)]/\Known l i j 0 K) i 0 (Nat.zero_le _) ⟨K,rfl,hK⟩ (fun j hj s hJ=>?_) (fun s hJ=>?_)
  ·obtain⟨K,rfl,hK⟩:=hJ
   simp only[g0,g1,am,Option.bind_some,ag,decide_eq_true_eq,show((j:Int)<(i:Int)) from by omega,if_true,D.els]
   refine C2 (fun k s=>∃ K,s=[I k,.sl (gk K)]/\Known l i j k K) j 0 (Nat.zero_le _) ⟨K,rfl,hK⟩ (fun k hk s hJ=>?_) (fun s hJ=>?_)
   ·obtain⟨K,rfl,hK⟩:=hJ
    have hthr:=Gh (hl _ (gC hi)) (hl _ (gC (show j<l.length by omega))) (hl _ (gC (show k<l.length by omega)))
    have hc:=OM (n+2) (hl _ (gC hi)) (hl _ (gC (show j<l.length by omega))) (hl _ (gC (show k<l.length by omega)))
    rw[show(bw (V.cross ((l.getD j V.zero).sub (l.getD i V.zero)) ((l.getD k V.zero).sub (l.getD i V.zero))),V.dot (bw (V.cross ((l.getD j V.zero).sub (l.getD i V.zero)) ((l.getD k V.zero).sub (l.getD i V.zero)))) (l.getD i V.zero))=m9 (l.getD i V.zero) (l.getD j V.zero) (l.getD k V.zero) from rfl] at hc
    simp only[g0,g1,am,Option.bind_some,ag,decide_eq_true_eq,show((k:Int)<(j:Int)) from by omega,if_true,D.els,List.length_map,aE hi,aE (show j<l.length by omega),aE (show k<l.length by omega),hG hi,hG (show j<l.length by omega),hG (show k<l.length by omega),hc]
    by_cases hz:(m9 (l.getD i V.zero) (l.getD j V.zero) (l.getD k V.zero)).1=V.zero
    ·have hb:D.beq (aj (m9 (l.getD i V.zero) (l.getD j V.zero) (l.getD k V.zero)).1) (D.st [D.int .i64 0,D.int .i64 0,D.int .i64 0])=true:=by
      rw[Bc,u7];exact decide_eq_true hz
     simp only[show D.get (bi (m9 (l.getD i V.zero) (l.getD j V.zero) (l.getD k V.zero))) [0]=some (aj (m9 (l.getD i V.zero) (l.getD j V.zero) (l.getD k V.zero)).1) from rfl,Option.bind_some,hb,ag,if_true,g0,D.els,aS (aK (i:=k) (by omega))]
     exact⟨_,rfl,K,rfl,hK.skip hz⟩
    ·have hb:D.beq (aj (m9 (l.getD i V.zero) (l.getD j V.zero) (l.getD k V.zero)).1) (D.st [D.int .i64 0,D.int .i64 0,D.int .i64 0])=false:=by
      rw[Bc,u7];exact decide_eq_false hz
     have step:=hK.step hk hj hi hz
     generalize hq:m9 (l.getD i V.zero) (l.getD j V.zero) (l.getD k V.zero)=q at *
     obtain⟨b1,b2,b3⟩:=hthr
     have hfl:D.st [aj q.1.neg,I (-q.2)]=bi (kK q):=rfl
     have b4:bd 549755813888 (kK q).1:=wX b1
     simp only[show D.get (bi q) [0]=some (aj q.1) from rfl,show D.get (bi q) [1]=some (I q.2) from rfl,Option.bind_some,hb,ag,Bool.false_eq_true,if_false,Mh (n+4) b1 (by decide),qn b3,hfl]
     have one:∀ (K:List (V×Int)) (p:V×Int),bd 549755813888 p.1->(Option.bind (D.un .not (Option.getD (D.mget (gk K) (bi p)) (D.bool false))) fun x32=>Option.bind (D.truth x32) fun b33=>Option.bind (if b33 then(Option.bind (cA (n+5) 98 [D.sl (l.map aj),bi p]) fun r34=>D.truth r34) else(some false)) fun b36=>
       if b36 then(some ((0:Nat),[(D.sl [bi q,bi (kK q)]),(D.sl (D.mput (gk K) (bi p) (D.bool true)))])) else(some (0,[(D.sl [bi q,bi (kK q)]),(D.sl (gk K))])))=some (0,[D.sl [bi q,bi (kK q)],D.sl (gk (gS l K p))]):=fun K p hp=>by
      rw[sA]
      have ht:=zX (n:=n+3) (K:=K) hl hp (by omega)
      simp only[bA] at ht
      by_cases hm:p∈K
      ·simp[hm,cO,ag,gS]
      ·simp only[hm,if_false,Option.getD_none,cO,Bool.not_false,Option.bind_some,ag,if_true,decide_false,Bool.true_and] at ht ⊢
       rw[ht]
       simp only[Option.bind_some,gS,hm,if_false]
       split
       ·rw[su K p hm]
       ·rfl
     refine⟨.inl [I ((k+1:Nat):Int),.sl (gk (gS l (gS l K q) (kK q)))],?_,_,rfl,step⟩
     refine aa (z:=(0,[.sl (gk (gS l (gS l K q) (kK q)))])) ?_ ?_
     ·refine cL (s':=[.sl [bi q,bi (kK q)],I 1,.sl (gk (gS l K q))]) ?_ (cL (s':=[.sl [bi q,bi (kK q)],I 2,.sl (gk (gS l (gS l K q) (kK q)))]) ?_ (jd (r:=(0,[.sl (gk (gS l (gS l K q) (kK q)))])) ?_ rfl))
      ·simp only[g0,g1,g2,D.els,am,Option.bind_some,ag,decide_eq_true_eq,show((0:Int)<2) from by decide,if_true,List.length_cons,List.length_nil,show D.idx (I 0) (0+1+1)=some 0 from rfl,List.getElem?_cons_zero,aS L4]
       exact aa (one K q b1) rfl
      ·simp only[g0,g1,g2,D.els,am,Option.bind_some,ag,decide_eq_true_eq,show((1:Int)<2) from by decide,if_true,List.length_cons,List.length_nil,show D.idx (I 1) (0+1+1)=some 1 from rfl,List.getElem?_cons_succ,List.getElem?_cons_zero,aS yX]
       exact aa (one (gS l K q) (kK q) b4) rfl
      ·simp only[g0,g1,g2,D.els,am,Option.bind_some,ag];rfl
     ·simp only[g0,D.els,aS (aK (i:=k) (by omega)),Option.bind_some]
      rfl
   ·obtain⟨K,rfl,hK⟩:=hJ
    simp only[g0,g1,am,Option.bind_some,ag,decide_eq_true_eq,Int.lt_irrefl,if_false,D.els]
    refine⟨_,rfl,.inl [I ((j+1:Nat):Int),.sl (gk K)],?_,K,rfl,hK.next⟩
    simp only[g0,D.els,aS (aK (i:=j) (by omega)),Option.bind_some]
    rfl
  ·obtain⟨K,rfl,hK⟩:=hJ
   simp only[g0,g1,am,Option.bind_some,ag,decide_eq_true_eq,Int.lt_irrefl,if_false,D.els]
   refine⟨_,rfl,.inl [I ((i+1:Nat):Int),.sl (gk K)],?_,K,rfl,hK.next2⟩
   simp only[g0,D.els,aS (aK (i:=i) (by omega)),Option.bind_some]
   rfl
 ·obtain⟨K,rfl,hK⟩:=hJ
  simp only[g0,g1,List.length_map,am,Option.bind_some,ag,decide_eq_true_eq,Int.lt_irrefl,if_false,D.els]
  obtain⟨L,p1,p2⟩:=ze (fun q:V×Int=>q.1) K hK.keys
  refine⟨_,rfl,.sl (L.map bi),?_,K,L,hK,p1,p2,rfl⟩
  have hKl:(gk K).length<=1073741824:=by
   have:=hK.len hlen
   simp only[gk,List.length_map];omega
  simp only[g0,D.els,hKl,decide_true,if_true,AL,DA (n+2) p1 p2,Option.bind_some]
end Go.Proofs.YtjjjkojfijpeeaaGreat.Sy
end
section
set_option linter.unusedVariables false
namespace Go.Proofs.YtjjjkojfijpeeaaGreat.Sy
open Go Go.Proofs Go.Proofs.YtjjjkojfijpeeaaGreat.Geo
theorem wM{l:List V}{q:V×Int}:supp l q=true↔Dp (pt l) l.length q.1 q.2:=by
 simp only[supp,uU,pp,Bool.and_eq_true,List.all_eq_true,List.any_eq_true,decide_eq_true_eq,Dp,pt]
 constructor
 ·rintro⟨h1,x,hx,h2⟩
  obtain⟨k,hk,rfl⟩:=List.getElem_of_mem hx
  exact⟨fun k hk=>h1 _ (gC hk),k,hk,by simpa [List.getD,hk] using h2⟩
 ·rintro⟨h1,k,hk,h2⟩
  refine⟨fun x hx=>?_,_,gC hk,h2⟩
  obtain⟨k,hk,rfl⟩:=List.getElem_of_mem hx
  simpa [List.getD,hk] using h1 k hk
theorem Ec(P:Nat->V)(i j k:Nat):V.cross ((P j).sub (P i)) ((P k).sub (P i))=(dW P k j i).neg:=by
 apply V.ext'<;>simp only[dW,wy,V.cross,V.sub,V.neg]<;>grind
theorem vm{P:Nat->V}{i j k:Nat}:V.dot (bw (dW P i j k)) (P k)=V.dot (bw (dW P i j k)) (P i):=by
 by_cases h:dW P i j k=V.zero
 ·have e0:bw V.zero=V.zero:=by apply V.ext'<;>simp[bw,V.zero]
  rw[h,e0];simp[V.dot,V.zero]
 ·have g:=j5 h
  have e:=gO (dW P i j k)
  have t2:V.dot (dW P i j k) (wy P i k)=0:=by simp only[dW,V.dot,V.cross];grind
  rw[e] at t2
  have:(cn (dW P i j k):Int)*V.dot (bw (dW P i j k)) (wy P i k)=0:=by rw[<-t2];simp only[V.dot,V.smul];grind
  have h0:=aJ (by omega) this
  rw[bO] at h0
  omega
theorem Gl{v:V}(h:v≠V.zero):v.neg≠V.zero:=fun e=>by
 have e1:=congrArg V.x e;have e2:=congrArg V.y e;have e3:=congrArg V.z e
 simp only[V.neg,V.zero] at e1 e2 e3
 exact h (V.ext' (by simp only[V.zero];omega) (by simp only[V.zero];omega) (by simp only[V.zero];omega))
theorem Ef(l:List V)(i j k:Nat):(m9 (pt l i) (pt l j) (pt l k)).1=(bw (dW (pt l) k j i)).neg:=by
 simp only[m9,Ec (pt l) i j k,wH]
theorem wC(v:V):v.neg.neg=v:=by apply V.ext'<;>simp[V.neg]
theorem CK{l:List V}{i j k:Nat}{q:V×Int}:Cd l i j k q↔dW (pt l) k j i≠V.zero/\(q.1=bw (dW (pt l) k j i)\/q.1=(bw (dW (pt l) k j i)).neg)/\q.2=V.dot q.1 (pt l k):=by
 have e:=Ef l i j k
 have hd:V.dot (bw (dW (pt l) k j i)) (pt l i)=V.dot (bw (dW (pt l) k j i)) (pt l k):=vm
 have hz:(m9 (pt l i) (pt l j) (pt l k)).1≠V.zero↔dW (pt l) k j i≠V.zero:=by
  rw[e]
  constructor
  ·intro h h0;rw[h0] at h;exact h rfl
  ·intro h;exact Gl (tw h)
 constructor
 ·intro h
  have hds:=h.dist
  obtain⟨h1,h2⟩:=h
  refine⟨hz.1 h1,?_⟩
  have hq:q.1=bw (dW (pt l) k j i)\/q.1=(bw (dW (pt l) k j i)).neg:=by
   rcases h2 with rfl|rfl
   ·exact .inr e
   ·left
    show(m9 (pt l i) (pt l j) (pt l k)).1.neg=_
    rw[e,wC]
  refine⟨hq,?_⟩
  rw[hds]
  rcases hq with hq|hq
  ·rw[hq];exact hd
  ·rw[hq,kz,kz];exact congrArg Neg.neg hd
 ·rintro⟨h1,h2,h3⟩
  refine⟨hz.2 h1,?_⟩
  have e2:(m9 (pt l i) (pt l j) (pt l k)).2=V.dot (m9 (pt l i) (pt l j) (pt l k)).1 (pt l i):=rfl
  obtain⟨a,b⟩:=q
  simp only at h2 h3
  subst h3
  rcases h2 with rfl|rfl
  ·right
   show _=((m9 (pt l i) (pt l j) (pt l k)).1.neg,-(m9 (pt l i) (pt l j) (pt l k)).2)
   rw[e2,e,wC,kz,hd,Int.neg_neg]
  ·left
   refine Prod.ext e.symm ?_
   show _=(m9 (pt l i) (pt l j) (pt l k)).2
   rw[e2,e,kz,kz,hd]
theorem Known.facets{l:List V}{K L:List (V×Int)}(h:Known l l.length 0 0 K)(hp:L.Perm K)(ho:L.Pairwise (fun a b=>ar a.1 b.1)):Facets (pt l) l.length L:=by
 refine⟨ho,fun q=>⟨fun hq=>?_,fun hq=>?_⟩⟩
 ·obtain⟨hs,i,j,k,h1,h2,h3,hc⟩:=h.ok q (hp.subset hq)
  obtain⟨c1,c2,c3⟩:=CK.1 hc
  exact⟨⟨k,j,i,h1,h2,h3,c1,c2,c3⟩,wM.1 hs⟩
 ·obtain⟨⟨i,j,k,h1,h2,h3,c1,c2,c3⟩,hs⟩:=hq
  exact hp.symm.subset (h.all k j i h1 h2 h3 (.inl h3) q (CK.2 ⟨c1,c2,c3⟩) (wM.2 hs))
end Go.Proofs.YtjjjkojfijpeeaaGreat.Sy
end
section
set_option linter.unusedVariables false
namespace Go.Proofs.YtjjjkojfijpeeaaGreat.Sy
open Go Go.Proofs Go.Proofs.YtjjjkojfijpeeaaGreat.Geo
def mA:Option Nat->D
 | none=>I (-1)
 | some b=>I (b:Int)
theorem Jk{α:Type}{p:Prop}[Decidable p]{A B:α}(h:p):(if decide p=true then A else B)=A:=by rw[if_pos (decide_eq_true h)]
theorem I8{α:Type}{p:Prop}[Decidable p]{A B:α}(h:¬ p):(if decide p=true then A else B)=B:=by rw[if_neg (by simpa using h)]
theorem aZ{α:Type}{p:Prop}[Decidable p]{A B y:α}(h:p)(hA:A=y):(if decide p=true then A else B)=y:=by rw[if_pos (decide_eq_true h)];exact hA
theorem aY{α:Type}{p:Prop}[Decidable p]{A B y:α}(h:¬ p)(hA:B=y):(if decide p=true then A else B)=y:=by rw[if_neg (by simpa using h)];exact hA
theorem Hf{x:Int}:sg x<0↔x<0:=by unfold sg;split<;>(try split)<;>omega
theorem DI{x:Int}:sg x=0↔x=0:=by unfold sg;split<;>(try split)<;>omega
theorem fe(a b:Nat):D.beq (I (a:Int)) (I (b:Int))=decide (a=b):=by
 rw[cV];by_cases h:a=b<;>simp[h];omega
theorem F3(n:Nat){l:List V}(hl:∀ x∈l,bd MV x){m:V}{d:Int}{a k:Nat}{best:Option Nat}(hm0:m≠V.zero)(ha:a<l.length)(hk:k<l.length)(hb:∀ b,best=some b->b<l.length/\V.dot m (wy (pt l) a b)=0)(hk0:V.dot m (wy (pt l) a k)=0)(X:D) :
  (Option.bind (D.truth (D.bool (D.beq (I (k:Int)) (I (a:Int))))) fun b25=>
  if b25 then(some ((0:Nat),[mA best,X])) else(Option.bind (D.bin .lss (mA best) (D.int .i64 0)) fun x26=>
  Option.bind (D.truth x26) fun b27=>
  if b27 then(some (0,[I (k:Int),X])) else(Option.bind (D.asSl (bA l)) fun l28=>
  Option.bind (D.idx (I (k:Int)) (List.length l28)) fun i29=>
  Option.bind (l28[i29]?) fun x30=>
  Option.bind (D.asSl (bA l)) fun l31=>
  Option.bind (D.idx (I (a:Int)) (List.length l31)) fun i32=>
  Option.bind (l31[i32]?) fun x33=>
  Option.bind (cA (n+4) 103 [x30,x33]) fun r34=>
  Option.bind (D.asSl (bA l)) fun l35=>
  Option.bind (D.idx (mA best) (List.length l35)) fun i36=>
  Option.bind (l35[i36]?) fun x37=>
  Option.bind (D.asSl (bA l)) fun l38=>
  Option.bind (D.idx (I (a:Int)) (List.length l38)) fun i39=>
  Option.bind (l38[i39]?) fun x40=>
  Option.bind (cA (n+4) 103 [x37,x40]) fun r41=>
  Option.bind (D.get (bi (m,d)) [0]) fun x42=>
  Option.bind (cA (n+4) 104 [x42,r41,r34]) fun r43=>
  Option.bind (D.bin .lss r43 (D.int .i64 0)) fun x44=>
  Option.bind (D.truth x44) fun b45=>
  Option.bind (if b45 then(some true) else(Option.bind (D.truth (D.bool (D.beq r43 (D.int .i64 0)))) fun b46=>
  if b46 then(Option.bind (cA (n+4) 101 [r34,r34]) fun r47=>
  Option.bind (cA (n+4) 101 [r41,r41]) fun r48=>
  Option.bind (D.bin .gtr r47 r48) fun x49=>
  D.truth x49) else(some false))) fun b50=>
  Option.bind (D.truth (D.bool b50)) fun b51=>
  if b51 then(some (0,[I (k:Int),X])) else(some (0,[mA best,X])))))=some (0,[mA (cE m (pt l) a best k),X]):=by
 by_cases hka:k=a
 ·subst hka
  have h0:D.beq (I (k:Int)) (I (k:Int))=true:=by rw[fe];simp
  rw[h0,show cE m (pt l) k best k=best from if_pos rfl]
  exact aa (z:=true) rfl (if_pos rfl)
 ·have h0:D.beq (I (k:Int)) (I (a:Int))=false:=by rw[fe];simp[hka]
  rw[h0]
  refine aa (z:=false) rfl ?_
  rw[if_neg (by decide)]
  have hns:∀ b,cE m (pt l) a b k=match b with
   | none=>some k
   | some b=>if nQ m (pt l) a b k then some k else some b:=fun b=>if_neg hka
  rw[hns]
  clear hns h0
  cases best with
  | none=>exact aa (z:=.bool true) rfl (aa (z:=true) rfl rfl)
  | some b=>
   obtain⟨hb1,hb2⟩:=hb b rfl
   have c1:=Ff (n+2) (hl _ (gC hk)) (hl _ (gC ha)) (by decide)
   have c2:=Ff (n+2) (hl _ (gC hb1)) (hl _ (gC ha)) (by decide)
   have w1:bd 524288 (wy (pt l) a k):=yH (hl _ (gC ha)) (hl _ (gC hk))
   have w2:bd 524288 (wy (pt l) a b):=yH (hl _ (gC ha)) (hl _ (gC hb1))
   have e1:(l.getD k V.zero).sub (l.getD a V.zero)=wy (pt l) a k:=rfl
   have e2:(l.getD b V.zero).sub (l.getD a V.zero)=wy (pt l) a b:=rfl
   rw[e1] at c1;rw[e2] at c2
   have c3:=La (n+1) (m:=m) w2 w1 (by decide)
   have c4:=CV (n+3) w1 w1 (by decide)
   have c5:=CV (n+3) w2 w2 (by decide)
   have hle:=En hm0 (dC hb2 hk0)
   rw[hle] at c3
   have hlt:¬ ((b:Int)<0):=by omega
   have ll:(l.map aj).length=l.length:=List.length_map ..
   refine aa (z:=.bool false) (by rw[show mA (some b)=I (b:Int) from rfl,am,decide_eq_false hlt]) (aa (z:=false) rfl ?_)
   rw[if_neg (by decide)]
   refine aa (z:=l.map aj) rfl (aa (z:=k) (by rw[ll];exact aE hk) (aa (hG hk) ?_))
   refine aa (z:=l.map aj) rfl (aa (z:=a) (by rw[ll];exact aE ha) (aa (hG ha) ?_))
   refine aa c1 ?_
   refine aa (z:=l.map aj) rfl (aa (z:=b) (by rw[ll];exact aE hb1) (aa (hG hb1) ?_))
   refine aa (z:=l.map aj) rfl (aa (z:=a) (by rw[ll];exact aE ha) (aa (hG ha) ?_))
   refine aa c2 (aa (z:=aj m) rfl (aa c3 (aa am (aa ag ?_))))
   simp only[Hf,cV,DI,ag,Option.bind_some,c4,c5,ff,nQ,T]
   by_cases t1:V.dot m (V.cross (wy (pt l) a b) (wy (pt l) a k))<0
   ·simp[t1,mA]
   ·by_cases t2:V.dot m (V.cross (wy (pt l) a b) (wy (pt l) a k))=0
    ·by_cases t3:V.dot (wy (pt l) a b) (wy (pt l) a b)<V.dot (wy (pt l) a k) (wy (pt l) a k)
     ·simp[t2,t3,mA]
     ·simp[t2,t3,mA]
    ·simp[t1,t2,mA]
end Go.Proofs.YtjjjkojfijpeeaaGreat.Sy
end
section
set_option linter.unusedVariables false
namespace Go.Proofs.YtjjjkojfijpeeaaGreat.Sy
open Go Go.Proofs Go.Proofs.YtjjjkojfijpeeaaGreat.Geo
def ab(L:List Nat):List D:=L.map fun(k:Nat)=>I (k:Int)
theorem ah(L:List Nat):(ab L).length=L.length:=List.length_map ..
theorem sK{L:List Nat}{t k:Nat}(h:L[t]?=some k):(ab L)[t]?=some (I (k:Int)):=by simp[ab,h]
theorem zA{n:Nat}(h:0<n):D.idx (D.int .i64 0) n=some 0:=aE (i:=0) h
theorem qu{m:V}{P:Nat->V}{a:Nat}:∀ (L:List Nat) (best:Option Nat) (b:Nat),L.foldl (cE m P a) best=some b->b∈L\/best=some b
 | [],best,b,h=>.inr h
 | k::L,best,b,h=>by
  rw[List.foldl_cons] at h
  rcases qu L _ b h with h1|h1
  ·exact .inl (List.mem_cons_of_mem _ h1)
  ·unfold cE at h1
   split at h1
   ·exact .inr h1
   ·split at h1
    ·cases h1;exact .inl List.mem_cons_self
    ·split at h1<;>cases h1
     ·exact .inl List.mem_cons_self
     ·exact .inr rfl
theorem qj{body:Bd}{S:Nat->Nat->Prop}{a:Nat}{G:Nat->Prop}(hS:∀ c b,G c->S c b->b≠a->G b)
  (hstep:∀ (c b:Nat) (out:List Nat),G c->c≠a->S c b->out.length<=1000->body [.sl (ab out),I (c:Int)]=some (.inl [.sl (ab (out++[c])),I (b:Int)]))
  (hend:∀ out:List Nat,body [.sl (ab out),I (a:Int)]=some (.inr (0,[.sl (ab out)]))) :
  ∀ {c:Nat} {p:List Nat},Chain S a c p->G c->c≠a->∀ out:List Nat,(out++p).length<=1000->bg body [.sl (ab out),I (c:Int)]=some (0,[.sl (ab (out++p))])
 | c,_,.done s,hc,hca,out,hl=>by
  have h1:=hstep c a out hc hca s (by simp at hl;omega)
  rw[show bg body [.sl (ab out),I (c:Int)]=bg body [.sl (ab (out++[c])),I (a:Int)] from ef h1]
  exact eI (hend _)
 | c,_,.step (y:=y) (l:=p) s hy k,hc,hca,out,hl=>by
  have h1:=hstep c y out hc hca s (by simp at hl;omega)
  rw[show bg body [.sl (ab out),I (c:Int)]=bg body [.sl (ab (out++[c])),I (y:Int)] from ef h1]
  have:=qj hS hstep hend k (hS c y hc s hy) hy (out++[c]) (by simpa using hl)
  rw[this];simp
theorem Aj{P:Nat->V}{i:Nat}{m:V}{d:Int}:aU P (i+1) m d=if V.dot m (P i)=d then aU P i m d++[i] else aU P i m d:=by
 unfold aU
 rw[List.range_succ,List.filter_append]
 by_cases h:V.dot m (P i)=d
 ·simp[h]
 ·simp[h]
theorem L9(n:Nat){l:List V}(hl:∀ x∈l,bd MV x)(hlen:l.length<=100)(hs:∀ i j,i<j->j<l.length->ar (pt l i) (pt l j)){m:V}{d:Int}(hF:IsF (pt l) l.length m d)(hm:bd 549755813888 m) :
  ∃ p,aN (pt l) l.length m d p/\cA (n+5) 46 [bA l,bi (m,d)]=some (.sl (ab p)):=by
 obtain⟨p,hp,hnd,hmem⟩:=hF.poly hs
 refine⟨p,hp,?_⟩
 have F:=hF.flat hs
 obtain⟨a,ha1,ha,hea,hale,h3⟩:=hF.head hs
 obtain⟨a',ha1',hch⟩:=hp
 rw[ha1] at ha1';cases ha1'
 obtain⟨on,hon⟩:∃ on,aU (pt l) l.length m d=on:=⟨_,rfl⟩
 rw[hon] at F ha1 ha hea hale h3 hch hmem
 have hlt:∀ k∈on,k<l.length:=fun k hk=>by rw[<-hon] at hk;exact(ac.1 hk).1
 have hdk:∀ k∈on,V.dot m (pt l k)=d:=fun k hk=>by rw[<-hon] at hk;exact(ac.1 hk).2
 have hw:∀ b∈on,∀ k∈on,V.dot m (wy (pt l) b k)=0:=fun b hb k hk=>by rw[bO,hdk b hb,hdk k hk];omega
 have honl:on.length<=100:=by
  rw[<-hon];unfold aU
  exact Nat.le_trans (List.length_filter_le _ _) (by rw[List.length_range];exact hlen)
 have hpl:p.length<=on.length:=List.Nodup.length_le_of_subset hnd fun z hz=>((hmem z).1 hz).1
 have ll:(l.map aj).length=l.length:=List.length_map ..
 have hcore:=fun(c k:Nat) (hc:c∈on) (hk:k∈on) (best:Option Nat) (hb:∀ b,best=some b->b∈on) (X:D)=>F3 n hl (d:=d) hF.nz.1 (hlt c hc) (hlt k hk) (best:=best) (fun b e=>⟨hlt b (hb b e),hw c hc b (hb b e)⟩) (hw c hc k hk) X
 have hnx:∀ c∈on,Geo.cY (pt l) on c->∃ b,on.foldl (cE m (pt l) c) none=some b/\Side m (pt l) on c b:=fun c hc ec=>iR F hc ec (h3 c hc)
 obtain⟨t0,hon0⟩:∃ t0,on=a::t0:=by
  cases hx:on with
  | nil=>rw[hx] at ha;simp at ha
  | cons y t0=>rw[hx] at ha1;simp at ha1;subst ha1;exact⟨t0,rfl⟩
 have hget0:(ab on)[0]?=some (I (a:Int)):=by rw[hon0];rfl
 have hpos:0<(ab on).length:=by rw[ah,hon0];simp
 rw[M4]
 unfold Iq
 refine aa (z:=l.map aj) rfl ?_
 refine bq (fun i s=>s=[I (i:Int),.sl (ab (aU (pt l) i m d))]) l.length 0 (Nat.zero_le _) rfl (fun i hi s hJ=>?_) (fun s hJ=>?_)
 ·subst hJ
  left
  refine⟨_,?_,rfl⟩
  refine aa am (aa ag ?_)
  refine aZ (by show((i:Int)<((l.map aj).length:Int));rw[ll];omega) ?_
  refine aa (z:=(0,[.sl (ab (aU (pt l) (i+1) m d))])) ?_ (aa (aS (aK (i:=i) (by omega))) rfl)
  refine aa (z:=l.map aj) rfl (aa (z:=i) (by rw[ll];exact aE hi) (aa (hG hi) (aa (z:=aj m) rfl (aa (CV (n+3) hm (hl _ (gC hi)) (by decide)) (aa (z:=I d) rfl ?_)))))
  rw[cV]
  refine aa ag ?_
  rw[Aj]
  by_cases hd:V.dot m (pt l i)=d
  ·have hd':V.dot m (l.getD i V.zero)=d:=hd
   rw[if_pos hd,Jk hd',if_pos ?_]
   ·simp[g1,D.els,ab,g0]
   ·have:(aU (pt l) i m d).length<=i:=by unfold aU;exact Nat.le_trans (List.length_filter_le _ _) (by simp)
    simp only[g0,g1,D.els,ah,List.length_cons,List.length_nil];omega
  ·have hd':¬ V.dot m (l.getD i V.zero)=d:=hd
   rw[if_neg hd,I8 hd']
   rfl
 ·subst hJ
  refine⟨(0,[.sl (ab on)]),?_,?_⟩
  ·refine aa am (aa ag ?_)
   rw[<-hon]
   exact aY (by show ¬ ((l.length:Int)<((l.map aj).length:Int));rw[ll];omega) rfl
  refine aa (zA hpos) (aa hget0 (aa (zA hpos) (aa hget0 ?_)))
  obtain⟨b1,hb1,hs1⟩:=hnx a ha hea
  refine bq (fun t s=>s=[mA ((on.take t).foldl (cE m (pt l) a) none),.sl (ab on),I (t:Int),.sl (ab on)]) on.length 0 (Nat.zero_le _) rfl (fun t ht s hJ=>?_) (fun s hJ=>?_)
  ·subst hJ
   left
   refine⟨_,?_,rfl⟩
   refine aa am (aa ag ?_)
   refine aZ (by show((t:Int)<((ab on).length:Int));rw[ah];omega) ?_
   have hk:on[t]?=some on[t]:=List.getElem?_eq_getElem ht
   refine aa (z:=(0,[mA ((on.take (t+1)).foldl (cE m (pt l) a) none),.sl (ab on)])) ?_ (aa (aS (aK (i:=t) (by omega))) rfl)
   refine aa (z:=ab on) rfl (aa (z:=t) (by rw[ah];exact aE ht) (aa (sK hk) ?_))
   rw[List.take_succ_eq_append_getElem ht,List.foldl_append,List.foldl_cons,List.foldl_nil]
   exact hcore a on[t] ha (List.getElem_mem ht) _ (fun b hb=>by
    rcases qu _ _ b hb with h|h
    ·exact List.mem_of_mem_take h
    ·cases h) (.sl (ab on))
  ·subst hJ
   rw[List.take_length,hb1]
   refine⟨(0,[I (b1:Int),.sl (ab on)]),?_,?_⟩
   ·refine aa am (aa ag ?_)
    refine aY (by show ¬ ((on.length:Int)<((ab on).length:Int));rw[ah];omega) ?_
    rfl
   obtain⟨p',hpp,hch',hy⟩:∃ p',p=a::p'/\Chain (Side m (pt l) on) a b1 p'/\b1≠a:=by
    cases hch with
    | done s=>exact absurd rfl s.ne
    | step s hne k=>
     have:=Side.unique F ha s hs1
     subst this
     exact⟨_,rfl,k,hne⟩
   refine xP (qj (S:=Side m (pt l) on) (a:=a) (G:=fun c=>c∈on/\Geo.cY (pt l) on c) (fun c b hc s _=>⟨s.mem,s.ext F hc.1⟩) (fun c b out hc hca hsd hol=>?_) (fun out=>?_) hch' ⟨hs1.mem,hs1.ext F ha⟩ hy [a] ?_) ?_
   ·obtain⟨b',hb',hsb'⟩:=hnx c hc.1 hc.2
    have:=Side.unique F hc.1 hsd hsb'
    subst this
    refine aa (z:=ab on) rfl (aa (zA hpos) (aa hget0 ?_))
    have e0:D.beq (I (c:Int)) (I (a:Int))=false:=by rw[fe];simp[hca]
    refine aa (z:=true) (by show D.truth (D.bool (!(D.beq (I (c:Int)) (I (a:Int)))))=_;rw[e0];rfl) ?_
    rw[if_pos rfl,if_pos (by simp only[g0,D.els,ah,List.length_cons,List.length_nil];omega)]
    refine aa (z:=ab on) rfl ?_
    refine fJ (fun t s=>s=[mA ((on.take t).foldl (cE m (pt l) c) none),I (t:Int)]) on.length 0 (Nat.zero_le _) rfl (fun t ht s hJ=>?_) (fun s hJ=>?_)
    ·subst hJ
     left
     refine⟨_,?_,rfl⟩
     refine aa am (aa ag ?_)
     refine aZ (by show((t:Int)<((ab on).length:Int));rw[ah];omega) ?_
     have hk:on[t]?=some on[t]:=List.getElem?_eq_getElem ht
     refine aa (z:=(0,[mA ((on.take (t+1)).foldl (cE m (pt l) c) none),.sl (ab on)])) ?_ (aa (aS (aK (i:=t) (by omega))) rfl)
     refine aa (z:=ab on) rfl (aa (z:=t) (by rw[ah];exact aE ht) (aa (sK hk) ?_))
     rw[List.take_succ_eq_append_getElem ht,List.foldl_append,List.foldl_cons,List.foldl_nil]
     exact hcore c on[t] hc.1 (List.getElem_mem ht) _ (fun b hb=>by
      rcases qu _ _ b hb with h|h
      ·exact List.mem_of_mem_take h
      ·cases h) (.sl (ab on))
    ·subst hJ
     rw[List.take_length,hb']
     refine⟨(0,[I (b:Int)]),?_,?_⟩
     ·refine aa am (aa ag ?_)
      refine aY (by show ¬ ((on.length:Int)<((ab on).length:Int));rw[ah];omega) ?_
      rfl
     ·simp[g0,g1,D.els,ab]
   ·refine aa (z:=ab on) rfl (aa (zA hpos) (aa hget0 ?_))
    have e0:D.beq (I (a:Int)) (I (a:Int))=true:=by rw[fe];simp
    refine aa (z:=false) (by show D.truth (D.bool (!(D.beq (I (a:Int)) (I (a:Int)))))=_;rw[e0];rfl) ?_
    rfl
   ·have:([a]++p').length=p.length:=by rw[hpp];rfl
    omega
   ·rw[hpp];rfl
end Go.Proofs.YtjjjkojfijpeeaaGreat.Sy
end
section
set_option linter.unusedVariables false
namespace Go.Proofs.YtjjjkojfijpeeaaGreat.Sy
open Go Go.Proofs Go.Proofs.YtjjjkojfijpeeaaGreat.Geo
def CA(q:V×Int)(p:List Nat):D:=.st [aj q.1,I q.2,.sl (ab p)]
def lG(l:List V):D:=.st [bA l]
def C9(l:List V):Prop:=∀ i j,i<j->j<l.length->ar (pt l i) (pt l j)
theorem xg{l:List V}(hl:∀ x∈l,bd MV x){m:V}{d:Int}(h:IsF (pt l) l.length m d):bd 549755813888 m:=by
 obtain⟨i,j,k,h1,h2,h3,h4,h5,h6⟩:=h.ex
 have hi:=hl _ (gC (show i<l.length by omega))
 have hj:=hl _ (gC (show j<l.length by omega))
 have hk:=hl _ (gC h3)
 have:=uk (jR (yH (P:=pt l) hi hj) (yH (P:=pt l) hi hk))
 rcases h5 with rfl|rfl
 ·exact this
 ·exact wX this
theorem GH(n:Nat){l:List V}(hl:∀ x∈l,bd MV x)(hlen:l.length<=100)(hs:C9 l):∃ (L:List (V×Int)) (poly:V×Int->List Nat),Facets (pt l) l.length L/\(∀ q∈L,aN (pt l) l.length q.1 q.2 (poly q))/\L.length<=2000000 ∧
  cA (n+7) 18 [lG l]=some (.sl (L.map fun q=>CA q (poly q))):=by
 obtain⟨y,h1,K,L,h2,h3,h4,rfl⟩:=KF n hl hlen
 have hLF:=h2.facets h3 h4
 have hLl:L.length<=2000000:=by rw[h3.length_eq];exact h2.len hlen
 have hex:∀ q:V×Int,∃ p,q∈L->aN (pt l) l.length q.1 q.2 p/\cA (n+6) 46 [bA l,bi q]=some (.sl (ab p)):=fun q=>by
  by_cases hq:q∈L
  ·have hF:=(hLF.mem q).1 hq
   obtain⟨p,k1,k2⟩:=L9 (n+1) hl hlen hs hF (xg hl hF)
   exact⟨p,fun _=>⟨k1,k2⟩⟩
  ·exact⟨[],fun h=>absurd h hq⟩
 obtain⟨poly,hpoly⟩:∃ poly:V×Int->List Nat,∀ q∈L,aN (pt l) l.length q.1 q.2 (poly q)/\cA (n+6) 46 [bA l,bi q]=some (.sl (ab (poly q))):=⟨fun q=>Classical.choose (hex q),fun q hq=>Classical.choose_spec (hex q) hq⟩
 refine⟨L,poly,hLF,fun q hq=>(hpoly q hq).1,hLl,?_⟩
 have hp:=fun q (hq:q∈L)=>(hpoly q hq).2
 rw[NN]
 unfold Ir
 refine aa (z:=bA l) rfl (aa h1 (aa (z:=L.map bi) rfl ?_))
 have ll:(L.map bi).length=L.length:=List.length_map ..
 refine bq (fun i s=>s=[.sl ((L.take i).map fun q=>CA q (poly q)),I (i:Int)]) L.length 0 (Nat.zero_le _) rfl (fun i hi s hJ=>?_) (fun s hJ=>?_)
 ·subst hJ
  left
  refine⟨_,?_,rfl⟩
  refine aa am (aa ag (aZ (by show((i:Int)<((L.map bi).length:Int));rw[ll];omega) ?_))
  have hg:(L.map bi)[i]?=some (bi L[i]):=by simp[hi]
  refine aa (z:=L.map bi) rfl (aa (z:=i) (by rw[ll];exact aE hi) (aa hg ?_))
  refine aa (z:=aj L[i].1) rfl (aa (z:=I L[i].2) rfl (aa (z:=bA l) rfl (aa (hp L[i] (List.getElem_mem hi)) ?_)))
  rw[if_pos (by simp only[g0,D.els,List.length_map,List.length_take,List.length_cons,List.length_nil];omega)]
  refine aa (aS (aK (i:=i) (by omega))) ?_
  rw[List.take_succ_eq_append_getElem hi,List.map_append]
  rfl
 ·subst hJ
  refine⟨(0,[.sl ((L.take L.length).map fun q=>CA q (poly q))]),?_,?_⟩
  ·refine aa am (aa ag (aY (by show ¬ ((L.length:Int)<((L.map bi).length:Int));rw[ll];omega) rfl))
  ·rw[List.take_length];rfl
theorem lu{p:List Nat}{k:Nat}(h:k<p.length):(ab p)[k]?=some (I (p.getD k 0:Nat)):=by simp[ab,List.getD,h]
end Go.Proofs.YtjjjkojfijpeeaaGreat.Sy
end
section
set_option linter.unusedVariables false
namespace Go.Proofs.YtjjjkojfijpeeaaGreat.Sy
open Go Go.Proofs
def dS(nt:Nat)(lk:List Nat)(f:Nat->AV):St:={ tm:=f,ob:=fun _=>none,fresh:=0,dead:=[],nt:=nt,lkS:=lk,lkO:=[] }
section
variable{P:Program}{E:Env}{w0:Root}{S S':Nat->Nat->Prop}{γ:Nat->Option Nat}{β:Nat->Option (Nat×Nat)}{s:St}{a:Act}{w w':World}
theorem BV(hS:∀ b o,S b o->b<w.heap.size){nt:Nat}{lk:List Nat}{f:Nat->AV}(hsz:a.tmps.size=nt)(hdf:a.defers=[])
  (hf:∀ t,t<nt->AR ⟨w,S,fun _=>none,fun _=>none,fun _=>none,[]⟩ (f t) (a.tmps.getD t undef)) (hu:∀ t,nt<=t->f t=.undef):Rp (bZ w S) S (fun _=>none) (fun _=>none) (dS nt lk f) a w:=
 ⟨⟨rfl,rfl,rfl,Nat.le_refl _,Nat.le_refl _,fun _ _=>rfl⟩,fun t ht=>hf t (by rw[<-hsz];exact ht),hsz,hu,fun id o b ho=>(by cases ho),fun id b hb=>(by cases hb),fun id id' b hb=>(by cases hb),fun _ _=>rfl,fun v b e _ hb=>(by cases hb),fun v v' b e e' _ _ hb=>(by cases hb),fun v id b e _ hb=>(by cases hb),fun _ _=>rfl,hS,fun b o hb _=>hb,hdf⟩
theorem Rp.slot(h:Rp w0 S γ β s a w){t:Nat}{x:AV}(hx:s.tm t=x)(hne:x≠.undef):t<a.tmps.size/\AR ⟨w,S,γ,β,s.ob,s.dead⟩ x (a.tmps.getD t undef):=by
 have ht:t<s.nt:=by
  rcases Nat.lt_or_ge t s.nt with k|k
  ·exact k
  ·rw[h.tmu t k] at hx;exact absurd hx.symm hne
 have:=h.tms t (by rw[h.nt];exact ht)
 rw[hx] at this
 exact⟨by rw[h.nt];exact ht,this⟩
theorem zE{c:Cx}{t:Ty}{x:D}{v:Value}(hc:aO t=true)(hl:gg x=true)(h:AR c (.d t x) v):v=aW x:=by
 simp only[AR] at h
 rcases h with⟨_,_,h1,h2⟩|⟨ts,rfl,_⟩
 ·have:D.flat x=[x]:=by cases x<;>simp only[gg] at hl<;>first|(cases hl;done)|rfl
  rw[this] at h2
  have h3:=(bj (ds:=[x]) (by intro d hd;rw[List.mem_singleton.1 hd];exact hl)).1 h2
  have hs:∀ cs,v≠.agg cs:=by
   cases x<;>simp only[gg] at hl<;>first|(cases hl;done)|exact h1
  exact al hs h3
 ·simp[aO] at hc
def nO(s:St):List (Nat×Ty)->Option (List D)
 | []=>some []
 | (t,ty)::l=>match s.tm t with
  | .d ty' x=>if ty'.beq ty&&gg x then(nO s l).bind fun r=>some (x::r) else none
  | _=>none
theorem pw:∀ {l:List (Nat×Ty)} {xs:List D},nO s l=some xs->∀ (i t:Nat) (ty:Ty) (x:D),l[i]?=some (t,ty)->xs[i]?=some x->s.tm t=.d ty x/\gg x=true
 | [],xs,h,i,t,ty,x,hi,_=>by simp at hi
 | (t0,ty0)::l,xs,h,i,t,ty,x,hi,hx=>by
  simp only[nO] at h
  split at h<;>first|(cases h;done)|skip
  rename_i ty' x' htm
  split at h<;>first|(cases h;done)|skip
  rename_i hc
  simp only[Bool.and_eq_true] at hc
  have he:=Ty.eq_of_beq _ _ hc.1
  subst he
  obtain⟨r,h1,h2⟩:=bind_some_inv h
  cases h2
  cases i with
  | zero=>simp at hi hx;obtain⟨rfl,rfl⟩:=hi;subst hx;exact⟨htm,hc.2⟩
  | succ i=>exact pw h1 i t ty x (by simpa using hi) (by simpa using hx)
theorem Rp.word(h:Rp w0 S γ β s a w){l:List (Nat×Ty)}{xs:List D}(hs:nO s l=some xs){i t:Nat}{ty:Ty}{x:D}(hi:l[i]?=some (t,ty))(hx:xs[i]?=some x)(hc:aO ty=true):a.tmps.getD t undef=aW x:=by
 obtain⟨h1,h2⟩:=pw hs i t ty x hi hx
 exact zE hc h2 (h.slot h1 (by simp)).2
end
theorem cY.trans{r:Root}{w w':World}{S:Nat->Nat->Prop}(h:cY r w)(k:cY (bZ w S) w'):cY r w':=
 ⟨k.tape.trans h.tape,k.os.trans h.os,k.output.trans h.output,Nat.le_trans h.sz k.sz,Nat.le_trans h.dr k.dr,fun b hb=>(k.old b ⟨Nat.lt_of_lt_of_le hb.1 h.sz,fun hf=>hf⟩).trans (h.old b hb)⟩
theorem vw{w W:World}{S0 S:Nat->Nat->Prop}(h:cY (bZ w S0) W)(hS:∀ b o,S b o->b<w.heap.size):∀ b o,S b o->W.cell? ⟨b,o,none⟩=w.cell? ⟨b,o,none⟩:=fun b o hb=>by
 have:=h.old b ⟨hS b o hb,fun hf=>hf⟩
 simp only[World.cell?,this];rfl
abbrev i64(n:Int):Value:=.int .i64 n
def rA(e:Ty)(l:List D)(k:Nat)(lk:List Nat):St:=dS 16 lk (fun i=>if i=5 then .d (.sl e) (.sl l) else if i=6 then .d (.int .i64) (.int .i64 (l.length:Nat)) else if i=7 then .d (.int .i64) (.int .i64 (k:Nat)) else .undef)
def kW(l:List (Nat×Ty))(e:Ex)(s:St):Option D:=match e with|.normal=>(nO s l).bind fun r=>some (.tup r)|_=>none
def Ar(e:Ty)(x:Ex)(s:St):Option D:=match x with
 | .normal=>match s.tm 4 with
  | .ptr t id []=>match s.ob id with
   | some (.one t' (.d t'' y))=>if t.beq e&&t'.beq e&&t''.beq e then some y else none
   | _=>none
  | _=>none
 | _=>none
theorem tF{l:List (Nat×Ty)}{x:Ex}{s:St}{r:List D}(h:kW l x s=some (.tup r)):x=.normal/\nO s l=some r:=by
 unfold kW at h
 split at h<;>first|(cases h;done)|skip
 obtain⟨r',h1,h2⟩:=bind_some_inv h
 cases h2
 exact⟨rfl,h1⟩
theorem BX{e:Ty}{x:Ex}{s:St}{y:D}(h:Ar e x s=some y):x=.normal/\∃ id,s.tm 4=.ptr e id []/\s.ob id=some (.one e (.d e y)):=by
 unfold Ar at h
 split at h<;>first|(cases h;done)|skip
 split at h<;>first|(cases h;done)|skip
 rename_i t id htm
 split at h<;>first|(cases h;done)|skip
 rename_i t' t'' y' hob
 split at h<;>first|(cases h;done)|skip
 rename_i hc
 simp only[Bool.and_eq_true] at hc
 cases h
 have e1:=Ty.eq_of_beq _ _ hc.1.1;have e2:=Ty.eq_of_beq _ _ hc.1.2;have e3:=Ty.eq_of_beq _ _ hc.2
 subst e1;subst e2;subst e3
 exact⟨rfl,id,htm,hob⟩
theorem cg{a:Act}{t:Nat}{v:Value}(h:t<a.tmps.size):(a.put (some t) v).tmps.getD t undef=v:=by
 simp[Act.put,Array.getD,h]
theorem cP{a:Act}{t u:Nat}{v:Value}(h:u≠t):(a.put (some u) v).tmps.getD t undef=a.tmps.getD t undef:=bE (fun e=>h (by cases e;rfl))
theorem aI{a:Act}{d:Option Nat}{v:Value}:(a.put d v).defers=a.defers:=by cases d<;>rfl
theorem lh{n:Int}(h1:0<=n)(h2:n<9223372036854775807):IntKind.wrap .i64 n=n:=by
 simp only[IntKind.wrap,IntKind.signed,IntKind.bits]
 first
  | omega
  | (simp;omega)
theorem ge{P:Program}{ro:Option Nat}{nn:Nat}{ops:Array Oper}{o:Oper}{rest:List Oper}{a:Act}{w:World}{K:Value->World->Prop}{Q:Exit->Act->World->Prop}(hg:o.guard=none)(h:cl P o a w K)
  (hk:∀ v w',K v w'->wpListIn (FW ro) nn P ops Q rest (a.put o.dst v) w'):wpListIn (FW ro) nn P ops Q (o::rest) a w:=by
 simp only[wpListIn,Region.wanted,hg,if_true]
 exact aM h hk
theorem A9{P:Program}{ro:Option Nat}{nn:Nat}{ops:Array Oper}{o:Oper}{rest:List Oper}{a:Act}{w:World}{Q:Exit->Act->World->Prop}(hg:o.guard=none)(h:o.wpIn (FW ro) nn P a w (wpListIn (FW ro) nn P ops Q rest) Q):wpListIn (FW ro) nn P ops Q (o::rest) a w:=by
 simp only[wpListIn,Region.wanted,hg,if_true]
 exact h
set_option maxHeartbeats 1000000 in
theorem Ci{P:Program}{E:Env}(hE:EnvOk P E){nn:Nat}{e:Ty}(hce:aO e=true)(hne:af e=true){l:List D}(hwt:∀ x∈l,wt e x)(hlen:l.length<=1073741824){w:World}{S S0:Nat->Nat->Prop}(hS:∀ b o,S b o->b<w.heap.size)
  {f151 L B:Nat} {fn:Func} {sv:Value} (hB:∀ W,cY (bZ w S0) W->W.cell? ⟨B,0,none⟩=some sv) (hsv:CR w S (.sl l) sv) (J:Nat->World->Prop) (hJe:∀ k W,J k W->cY (bZ w S0) W) (hJ:∀ k W os d,J k W->W.drawn<=d->J k (ao W os d))
  (hY:∀ k x W v,l[k]?=some x->J k W->(∀ c:Cx,AR c (.d e x) v)->YieldAt (FW none) (nn-1) P L #[v] W fun en W'=>en=.returned (.bool true)/\J (k+1) W')
  (hfn:P.funcs[f151]?=some fn) {i0 i1 i2 i3 i4 b0 b1:Nat} {R0 R1 R2 R3 R4:Array Oper} (hbody:fn.body=some (.seq (.region i0 R0 false) (.block b0 (.loop (.seq (.region i1 R1 false) (.seq (.cond (.tmp 8) .skip (.exit b0)) (.seq (.block b1 (.seq (.region i2 R2 false) (.seq (.region i3 R3 false) (.cond (.tmp 14) .ret .skip)))) (.region i4 R4 false))))))))
  (hnt:fn.ntmps=16) (hres:fn.results=#[])
  {Ts Te:Nat} (hTs:E.L Ts=some (.sl e)) (hTe:E.L Te=some e) {y1 y11 y12 y13 y14:TypeId} {p1 p11 p12 p13 p14:String} {f1 f11 f12 f13 f14:Array Edge} {rest0:List Oper} {ats:Array TypeId} {Tb:TypeId}
  (hR0:R0.toList=⟨some 5,.load Ts (.tmp 1),y1,p1,f1,none⟩::rest0) (hr0:∀ x∈rest0,x.guard=none)
  (hR3:R3.toList=[⟨some 11,.move (.tmp 0),y11,p11,f11,none⟩,⟨some 12,.load Te (.tmp 4),y12,p12,f12,none⟩,⟨some 13,.call ⟨.value (.tmp 11),#[.tmp 12],ats⟩,y13,p13,f13,none⟩,⟨some 14,.unOp .not Tb (.tmp 13),y14,p14,f14,none⟩])
  (hv0:ev E (.region 0 rest0.toArray false) .leaf D (dS 16 [0,5] (fun i=>if i=5 then .d (.sl e) (.sl l) else .undef)) (kW [(6,.int .i64),(7,.int .i64)])=some (.tup [.int .i64 (l.length:Nat),.int .i64 0]))
  (hv1:∀ k:Nat,ev E (.region i1 R1 false) .leaf D (rA e l k [0,5,6,7]) (kW [(7,.int .i64),(8,.bool)])=some (.tup [.int .i64 (k:Nat),.bool (decide ((k:Int)<(l.length:Nat)))]))
  (hv2:∀ k:Nat,ev E (.region i2 R2 false) .leaf D (rA e l k [0,5,6,7]) (Ar e)=(D.idx (.int .i64 (k:Nat)) l.length).bind fun i=>l[i]?)
  (hv4:∀ k:Nat,ev E (.region i4 R4 false) .leaf D (rA e l k [0,5,6]) (kW [(7,.int .i64)])=(D.bin .add (.int .i64 (k:Nat)) (.int .i64 1)).bind fun x=>some (.tup [x]))
  {W0:World} (h0:J 0 W0):CallsIn (FW none) nn P f151 #[.func (.yield L) #[] #[],.pointer (some ⟨B,0,none⟩)] W0 fun en W'=>(∃ v,en=.returned v)/\J l.length W':=by
 refine callsIn_of_wp hfn hbody trivial ?_
 generalize ha0:Act.mk _ _=a0
 have hsz0:a0.tmps.size=16:=by rw[<-ha0];simp[hnt]
 have e0:a0.tmps.getD 0 undef=.func (.yield L) #[] #[]:=by rw[<-ha0,hnt];rfl
 have e1:a0.tmps.getD 1 undef=.pointer (some ⟨B,0,none⟩):=by rw[<-ha0,hnt];rfl
 have hd0:a0.defers=[]:=by rw[<-ha0]
 clear ha0
 have hcr:∀ W,cY (bZ w S0) W->CR W S (.sl l) sv:=fun W hW=>hsv.mono (vw hW hS) fun _ _ hb=>hb
 obtain⟨ad,cap,svb,svo,rfl,_,_,_⟩:=hsv.elems
 have ARsv:∀ (W:World),cY (bZ w S0) W->AR ⟨W,S,fun _=>none,fun _=>none,fun _=>none,[]⟩ (.d (.sl e) (.sl l)) (.slice ad l.length cap):=fun W hW=>.inl ⟨by simp only[af];exact hne,⟨l,rfl,hwt⟩,jr (hcr W hW)⟩
 have hSW:∀ (W:World),cY (bZ w S0) W->∀ b o,S b o->b<W.heap.size:=fun W hW b o hb=>Nat.lt_of_lt_of_le (hS b o hb) hW.sz
 have ARint:∀ (c:Cx) (n:Int),AR c (.d (.int .i64) (.int .i64 n)) (.int .i64 n):=fun c n=>.inl ⟨rfl,⟨n,rfl⟩,fun _ h=>(by cases h),(bj (ds:=[.int .i64 n]) (by intro d hd;rw[List.mem_singleton.1 hd];rfl)).2 rfl⟩
 have hX0:=hJe 0 W0 h0
 have lay:=fun T t h=>(hE.lay T t h).resolve_left
 refine wpIn_seq (wpIn_region_list ?_)
 rw[hR0]
 have hls:be P (.sl e) Ts=true:=(hE.lay Ts _ hTs).resolve_left (by rintro⟨ts,h⟩;cases h)
 obtain⟨v5,hrun5,hv5⟩:=dp (P:=P) hls (w:=W0) (b:=B) (off:=0) (cs:=[.slice ad l.length cap]) rfl (by intro v hv;rw[List.mem_singleton.1 hv];rfl) (fun i c hi=>by
  cases i with
  | zero=>simp at hi;subst hi;exact hB W0 hX0
  | succ i=>simp at hi)
 have hv5':v5=.slice ad l.length cap:=al (hv5.2.2 rfl) hv5.1
 subst hv5'
 refine ge (K:=fun v w1=>v=.slice ad l.length cap/\W0=w1) rfl (cl.value (dw (m:=Instr.loadAt Ts (.pointer (some ⟨B,0,none⟩))) ?_ hrun5) ⟨rfl,rfl⟩) ?_
 ·show(Instr.loadAt Ts (a0.eval (.tmp 1)) >>= fun r=>pure (Next.value r))=_
  rw[show a0.eval (.tmp 1)=.pointer (some ⟨B,0,none⟩) from e1]
 rintro _ _ ⟨rfl,rfl⟩
 obtain⟨a1,ha1⟩:∃ a1,a0.put (some 5) (.slice ad l.length cap)=a1:=⟨_,rfl⟩
 have q1:a1.tmps.size=16:=by rw[<-ha1,ak];exact hsz0
 have q2:a1.tmps.getD 0 undef=.func (.yield L) #[] #[]:=by rw[<-ha1,cP (by decide)];exact e0
 have q3:a1.tmps.getD 5 undef=.slice ad l.length cap:=by rw[<-ha1];exact cg (by rw[hsz0];decide)
 have q4:a1.defers=[]:=by rw[<-ha1,aI];exact hd0
 show wpListIn (FW none) nn P R0 _ rest0 (a0.put (some 5) (.slice ad l.length cap)) W0
 rw[ha1]
 clear ha1 e0 e1 hd0 hsz0
 refine kX (ops:=rest0.toArray) rest0 _ _ hr0 ?_
 have RA:=BV (lk:=[0,5]) (f:=fun i=>if i=5 then .d (.sl e) (.sl l) else .undef) (hSW _ hX0) q1 q4 (fun t ht=>by
  by_cases h5:t=5
  ·subst h5;rw[if_pos rfl,q3];exact ARsv _ hX0
  ·rw[if_neg h5];simp only[AR]) (fun t ht=>by rw[if_neg (by omega)])
 have key:=zt (ro:=none) (nn:=nn) hE (Q:=Exit.then ((Code.block b0 (.loop (.seq (.region i1 R1 false) (.seq (.cond (.tmp 8) .skip (.exit b0)) (.seq (.block b1 (.seq (.region i2 R2 false) (.seq (.region i3 R3 false) (.cond (.tmp 14) .ret .skip)))) (.region i4 R4 false)))))).wpIn (FW none) nn P (bodyPost P fn fun en W'=>(∃ v,en=.returned v)/\J l.length W')) (bodyPost P fn fun en W'=>(∃ v,en=.returned v)/\J l.length W')) RA hv0 ?_
 ·simpa using key
 clear RA
 intro x s' S' γ' β' a2 w2 g1 g2 g3 g4
 obtain⟨rfl,g5⟩:=tF g4
 obtain⟨os,dd,hdd,rfl⟩:=bM g1.ext (fun _ hf=>hf)
 have hJ2:=hJ 0 _ os dd h0 hdd
 have w6:=g1.word g5 (i:=0) (t:=6) rfl rfl rfl
 have w7:=g1.word g5 (i:=1) (t:=7) rfl rfl rfl
 have w0':a2.tmps.getD 0 undef=.func (.yield L) #[] #[]:=(g2.slots 0 (by simp[dS])).trans q2
 have w5:a2.tmps.getD 5 undef=.slice ad l.length cap:=(g2.slots 5 (by simp[dS])).trans q3
 have hsz2:a2.tmps.size=16:=by rw[g1.nt,g3.nt];rfl
 have hdf2:=g1.df
 clear g1 g2 g3 g4 g5 q1 q2 q3 q4
 show Code.wpIn (FW none) nn P _ _ a2 (ao W0 os dd)
 refine wpIn_block ?_
 refine iO (m:=l.length) (fun m a W=>∃ k,m+k=l.length/\J k W/\a.tmps.size=16/\a.defers=[]/\a.tmps.getD 0 undef=.func (.yield L) #[] #[]/\a.tmps.getD 5 undef=.slice ad l.length cap/\a.tmps.getD 6 undef=.int .i64 (l.length:Nat)/\a.tmps.getD 7 undef=.int .i64 (k:Nat))
  ⟨0,rfl,hJ2,hsz2,hdf2,w0',w5,w6,w7⟩ ?_
 clear w0' w5 w6 w7 hsz2 hdf2 hJ2 hdd
 rintro m a W ⟨k,hmk,hJk,c1,c2,c3,c4,c5,c6⟩
 have hX:=hJe k W hJk
 have mk:∀ (a:Act) (W:World) (lk:List Nat),cY (bZ w S0) W->a.tmps.size=16->a.defers=[]->a.tmps.getD 5 undef=.slice ad l.length cap->a.tmps.getD 6 undef=.int .i64 (l.length:Nat)->a.tmps.getD 7 undef=.int .i64 (k:Nat)->Rp (bZ W S) S (fun _=>none) (fun _=>none) (rA e l k lk) a W:=fun a W lk hX c1 c2 c4 c5 c6=>
  BV (hSW W hX) c1 c2 (fun t ht=>by
   by_cases h5:t=5
   ·subst h5;rw[if_pos rfl,c4];exact ARsv W hX
   ·rw[if_neg h5]
    by_cases h6:t=6
    ·subst h6;rw[if_pos rfl,c5];exact ARint _ _
    ·rw[if_neg h6]
     by_cases h7:t=7
     ·subst h7;rw[if_pos rfl,c6];exact ARint _ _
     ·rw[if_neg h7];simp only[AR]) (fun t ht=>by rw[if_neg (by omega),if_neg (by omega),if_neg (by omega)])
 refine wpIn_seq (dL hE _ .leaf D _ _ (mk a W _ hX c1 c2 c4 c5 c6) (hv1 k) fun x s' S' γ' β' a3 w3 g1 g2 g3 g4=>?_)
 obtain⟨rfl,g5⟩:=tF g4
 obtain⟨os3,d3,hd3,rfl⟩:=bM g1.ext (fun _ hf=>hf)
 have hJ3:=hJ k _ os3 d3 hJk hd3
 have hX3:=hJe k _ hJ3
 have w7:=g1.word g5 (i:=0) (t:=7) rfl rfl rfl
 have w8:=g1.word g5 (i:=1) (t:=8) rfl rfl rfl
 have w0':a3.tmps.getD 0 undef=.func (.yield L) #[] #[]:=(g2.slots 0 (by simp[rA,dS])).trans c3
 have w5:a3.tmps.getD 5 undef=.slice ad l.length cap:=(g2.slots 5 (by simp[rA,dS])).trans c4
 have w6:a3.tmps.getD 6 undef=.int .i64 (l.length:Nat):=(g2.slots 6 (by simp[rA,dS])).trans c5
 have hsz3:a3.tmps.size=16:=by rw[g1.nt,g3.nt];rfl
 have hdf3:=g1.df
 clear g1 g2 g3 g4 g5
 simp only[tu,Exit.then]
 by_cases hk:k<l.length
 rotate_left
 ·
  have hkl:k=l.length:=by omega
  subst hkl
  refine wpIn_seq (wpIn_cond_false (w8.trans (by rw[decide_eq_false (by omega)];rfl)) (wpIn_exit ?_))
  simp only[Exit.then,Exit.inBlock,if_true]
  exact⟨hdf3,_,results_none hres _ _ _,⟨_,rfl⟩,hJ3⟩
 refine wpIn_seq (wpIn_cond_true (w8.trans (by rw[decide_eq_true (by omega)];rfl)) (wpIn_skip ?_))
 simp only[Exit.then]
 have hx:=List.getElem?_eq_getElem hk
 obtain⟨x,hxd⟩:∃ x,l[k]=x:=⟨_,rfl⟩
 rw[hxd] at hx
 have hv2':ev E (.region i2 R2 false) .leaf D (rA e l k [0,5,6,7]) (Ar e)=some x:=by
  rw[hv2 k]
  simp only[D.idx]
  rw[if_pos (by omega)]
  simpa using hx
 refine wpIn_seq (wpIn_block (wpIn_seq (dL hE _ .leaf D _ _ (mk a3 _ _ hX3 hsz3 hdf3 w5 w6 w7) hv2' fun y s' S' γ' β' a4 w4 g1 g2 g3 g4=>?_)))
 obtain⟨rfl,id,g5,g6⟩:=BX g4
 obtain⟨os4,d4,hd4,hw4⟩:=bM g1.ext (fun _ hf=>hf)
 have hJ4:=hJ k _ os4 d4 hJ3 hd4
 have v0:a4.tmps.getD 0 undef=.func (.yield L) #[] #[]:=(g2.slots 0 (by simp[rA,dS])).trans w0'
 have v5:a4.tmps.getD 5 undef=.slice ad l.length cap:=(g2.slots 5 (by simp[rA,dS])).trans w5
 have v6:a4.tmps.getD 6 undef=.int .i64 (l.length:Nat):=(g2.slots 6 (by simp[rA,dS])).trans w6
 have hsz4:a4.tmps.size=16:=by rw[g1.nt,g3.nt];rfl
 have v7:a4.tmps.getD 7 undef=.int .i64 (k:Nat):=(g2.slots 7 (by simp[rA,dS])).trans w7
 have hnt4:s'.nt=16:=by rw[g3.nt];rfl
 have hlk4:s'.lkS=[0,5,6,7]:=g3.lkS
 have hdf4:=g1.df
 clear g2 g4
 simp only[tu,Exit.then]
 refine wpIn_seq (wpIn_region_list ?_)
 rw[hR3]
 refine ge (K:=fun v w1=>v=.func (.yield L) #[] #[]/\w4=w1) rfl (cl.value (v:=a4.eval (.tmp 0)) (w':=w4) rfl ⟨v0,rfl⟩) ?_
 rintro _ _ ⟨rfl,rfl⟩
 have R5:=g1.put (v:=.undef) (val:=.func (.yield L) #[] #[]) (by simp[AR]) (some 11)
 have pf:=St.put_fields s' (some 11) .undef
 have hev:lV E (s'.put (some 11) .undef) ⟨some 12,.load Te (.tmp 4),y12,p12,f12,none⟩ some=some ((s'.put (some 11) .undef).put (some 12) (.d e x)):=by
  have t4:(s'.put (some 11) .undef).tm 4=.ptr e id []:=(nH (by simp)).trans g5
  have hee:e.beq e=true:=Ty.beq_refl' e
  simp only[lV,qv,hTe,Option.bind_some,St.opA,t4,hee,if_true,pf.1,g6,fW,ru]
 obtain⟨s5,k1,k2⟩:=pD hE R5 (o:=⟨some 12,.load Te (.tmp 4),y12,p12,f12,none⟩) (ue rfl) (fun T t h=>by rcases h with h|⟨y,h⟩<;>cases h) (fun t ht=>by rw[pf.2.2.2.2.1,hlk4] at ht;intro h;cases h;simp at ht) (fun T x y h=>by cases h) hev
 cases k1
 obtain⟨_,_,_,_,_,r6⟩:=k2
 refine ge rfl r6 ?_
 rintro v w5 ⟨S5,γ5,β5,m1,m2,_⟩
 have hax:=(m1.slot (t:=12) (x:=.d e x) (ke (by rw[pf.2.2.2.1,hnt4];decide)) (by simp)).2
 have hsz5:(a4.put (some 11) (.func (.yield L) #[] #[])).tmps.size=16:=by rw[ak];exact hsz4
 rw[show((a4.put (some 11) (.func (.yield L) #[] #[])).put (some 12) v).tmps.getD 12 undef=v from cg (by rw[hsz5];decide)] at hax
 have ARx:∀ c:Cx,AR c (.d e x) v:=fun c=>by
  simp only[AR] at hax ⊢
  rcases hax with⟨z1,z2,z3⟩|⟨ts,rfl,_⟩
  ·exact .inl ⟨z1,z2,o8 hce z2 z3⟩
  ·simp[aO] at hce
 obtain⟨os5,d5,hd5,hw5⟩:=bM m1.ext (fun _ hf=>hf)
 have hJ5:J k w5:=by rw[hw5];exact hJ k _ os5 d5 hJ3 hd5
 obtain⟨a5,ha5⟩:∃ a5,(a4.put (some 11) (.func (.yield L) #[] #[])).put (some 12) v=a5:=⟨_,rfl⟩
 have H3:a5.tmps.getD 11 undef=.func (.yield L) #[] #[]:=by rw[<-ha5,cP (by decide)];exact cg (by rw[hsz4];decide)
 have u12:a5.tmps.getD 12 undef=v:=by rw[<-ha5];exact cg (by rw[hsz5];decide)
 have u:∀ t,t≠11->t≠12->a5.tmps.getD t undef=a4.tmps.getD t undef:=fun t h1 h2=>by rw[<-ha5,cP (Ne.symm h2),cP (Ne.symm h1)]
 have usz:a5.tmps.size=16:=by rw[<-ha5,ak];exact hsz5
 have udf:a5.defers=[]:=by rw[<-ha5,aI,aI];exact hdf4
 show wpListIn (FW none) nn P R3 _ _ ((a4.put (some 11) (.func (.yield L) #[] #[])).put (some 12) v) w5
 rw[ha5]
 clear ha5 m1 m2 r6 hev R5 g1 hax
 obtain⟨fn',tmps',as',bd',hy,hR⟩:=hY k x w5 v hx hJ5 ARx
 refine A9 rfl ⟨fun _ _=>trivial,?_⟩
 have hrun:((⟨some 13,.call ⟨.value (.tmp 11),#[.tmp 12],ats⟩,y13,p13,f13,none⟩:Oper).semAt (FW none).round a5.eval).run P w5=.ok (.round L fn' tmps' as' bd') w5:=by
  have e11:a5.eval (.tmp 11)=.func (.yield L) #[] #[]:=H3
  have e12:a5.eval (.tmp 12)=v:=u12
  show(execOp a5.eval ⟨some 13,.call ⟨.value (.tmp 11),#[.tmp 12],ats⟩,y13,p13,f13,none⟩).run P w5=_
  simp only[execOp,resolve,e11,e12,List.map_toArray,List.map_cons,List.map_nil]
  simpa [Deferred.ofValue,invoke,go_sem] using hy
 rw[hrun]
 simp only[Oper.uponIn]
 refine⟨fun h=>(by cases h),hR.mono ?_⟩
 rintro en w6 ⟨rfl,hJ6⟩
 have hX6:=hJe _ _ hJ6
 obtain⟨a6,ha6⟩:∃ a6,a5.put (some 13) (.bool true)=a6:=⟨_,rfl⟩
 have t13:a6.tmps.getD 13 undef=.bool true:=by rw[<-ha6];exact cg (by rw[usz];decide)
 have tt:∀ t,t≠13->a6.tmps.getD t undef=a5.tmps.getD t undef:=fun t h=>by rw[<-ha6,cP (Ne.symm h)]
 have tsz:a6.tmps.size=16:=by rw[<-ha6,ak];exact usz
 have tdf:a6.defers=[]:=by rw[<-ha6,aI];exact udf
 show wpListIn (FW none) nn P R3 _ _ (a5.put (some 13) (.bool true)) w6
 rw[ha6]
 have R7:=BV (lk:=[]) (f:=fun i=>if i=13 then .d .bool (.bool true) else .undef) (hSW _ hX6) tsz tdf (fun t ht=>by
  by_cases h5:t=13
  ·subst h5;rw[if_pos rfl,t13];exact .inl ⟨rfl,⟨true,rfl⟩,fun _ h=>(by cases h),(bj (ds:=[.bool true]) (by intro d hd;rw[List.mem_singleton.1 hd];rfl)).2 rfl⟩
  ·rw[if_neg h5];simp only[AR]) (fun t ht=>by rw[if_neg (by omega)])
 obtain⟨s7,k1,k2⟩:=pD hE R7 (o:=⟨some 14,.unOp .not Tb (.tmp 13),y14,p14,f14,none⟩) (ue rfl) (fun T t h=>by rcases h with h|⟨y,h⟩<;>cases h) (fun t ht=>by simp[dS] at ht) (fun T x y h=>by cases h) (K:=some)
  (r:=(dS 16 [] (fun i=>if i=13 then .d .bool (.bool true) else .undef)).put (some 14) (.d .bool (.bool false))) rfl
 cases k1
 obtain⟨_,_,_,_,_,r7⟩:=k2
 refine ge rfl r7 ?_
 rintro v w7 ⟨S7,γ7,β7,m1,m2,_⟩
 have hb:=zE rfl rfl (m1.slot (t:=14) (x:=.d .bool (.bool false)) (ke (by decide)) (by simp)).2
 obtain⟨os7,d7,hd7,hw7⟩:=bM m1.ext (fun _ hf=>hf)
 have hJ7:J (k+1) w7:=by rw[hw7];exact hJ _ _ os7 d7 hJ6 hd7
 have hX7:=hJe _ _ hJ7
 obtain⟨a7,ha7⟩:∃ a7,a6.put (some 14) v=a7:=⟨_,rfl⟩
 have z:∀ t,t≠14->a7.tmps.getD t undef=a6.tmps.getD t undef:=fun t h=>by rw[<-ha7,cP (Ne.symm h)]
 have zsz:a7.tmps.size=16:=by rw[<-ha7,ak];exact tsz
 have zdf:a7.defers=[]:=by rw[<-ha7,aI];exact tdf
 show Exit.then _ _ .normal (a6.put (some 14) v) w7
 rw[show(a6.put (some 14) v).tmps.getD 14 undef=a7.tmps.getD 14 undef by rw[ha7]] at hb
 rw[ha7]
 simp only[Exit.then]
 refine wpIn_cond_false hb (wpIn_skip ?_)
 simp only[Exit.inBlock,Exit.then]
 have keep:∀ t,t≠11->t≠12->t≠13->t≠14->a7.tmps.getD t undef=a4.tmps.getD t undef:=fun t h1 h2 h3 h4=>(z t h4).trans ((tt t h3).trans (u t h1 h2))
 clear m1 m2 R7 r7 ha7 ha6
 have hv4':ev E (.region i4 R4 false) .leaf D (rA e l k [0,5,6]) (kW [(7,.int .i64)])=some (.tup [.int .i64 ((k+1:Nat):Int)]):=by
  rw[hv4 k]
  simp only[D.bin,if_true]
  rw[show IntKind.wrap .i64 ((k:Int)+1)=((k+1:Nat):Int) from by rw[show((k:Int)+1)=((k+1:Nat):Int) by omega];exact lh (by omega) (by omega)]
  rfl
 refine dL hE _ .leaf D _ _ (mk a7 w7 [0,5,6] hX7 zsz zdf ((keep 5 (by decide) (by decide) (by decide) (by decide)).trans v5) ((keep 6 (by decide) (by decide) (by decide) (by decide)).trans v6) ((keep 7 (by decide) (by decide) (by decide) (by decide)).trans v7))
  hv4' fun y s' S' γ' β' a8 w8 g1 g2 g3 g4=>?_
 obtain⟨rfl,g5⟩:=tF g4
 obtain⟨os8,d8,hd8,rfl⟩:=bM g1.ext (fun _ hf=>hf)
 have w7':=g1.word g5 (i:=0) (t:=7) rfl rfl rfl
 simp only[tu]
 refine⟨m-1,by omega,k+1,by omega,hJ _ _ os8 d8 hJ7 hd8,by rw[g1.nt,g3.nt];rfl,g1.df,?_,?_,?_,w7'⟩
 ·exact(g2.slots 0 (by simp[rA,dS])).trans ((keep 0 (by decide) (by decide) (by decide) (by decide)).trans v0)
 ·exact(g2.slots 5 (by simp[rA,dS])).trans ((keep 5 (by decide) (by decide) (by decide) (by decide)).trans v5)
 ·exact(g2.slots 6 (by simp[rA,dS])).trans ((keep 6 (by decide) (by decide) (by decide) (by decide)).trans v6)
end Go.Proofs.YtjjjkojfijpeeaaGreat.Sy
end
section
set_option linter.unusedVariables false
namespace Go.Proofs.YtjjjkojfijpeeaaGreat.Sy
open Go Go.Proofs
open Go.ChangeMaps (setBlock)
def lN(s:St)(e:Ty)(id:Nat):Option (List D):=match s.ob id with
 | some (.one t X)=>if t.beq (.sl e) then(match X with
  | .own e' v l=>if e'.beq e&&!(s.dead.contains v) then some l else none
  | .nils=>some []
  | _=>none) else none
 | _=>none
theorem pz{s:St}{e:Ty}{id:Nat}{L:List D}(h:lN s e id=some L):∃ X,s.ob id=some (.one (.sl e) X)/\((X=.nils/\L=[])\/∃ v,X=.own e v L/\v ∉ s.dead):=by
 unfold lN at h
 split at h<;>first|(cases h;done)|skip
 rename_i t X hob
 split at h<;>first|(cases h;done)|skip
 rename_i ht
 have:=Ty.eq_of_beq _ _ ht;subst this
 split at h<;>first|(cases h;done)|skip
 ·rename_i e' v l
  split at h<;>first|(cases h;done)|skip
  rename_i hb
  simp only[Bool.and_eq_true,Bool.not_eq_true'] at hb
  have:=Ty.eq_of_beq _ _ hb.1;subst this
  cases h
  exact⟨_,hob,.inr ⟨v,rfl,by simpa using hb.2⟩⟩
 ·cases h
  exact⟨_,hob,.inl ⟨rfl,rfl⟩⟩
def γR(L K B:Nat):Nat->Option Nat:=fun i=>if i=0 then some L else if i=1 then some K else if i=2 then some B else none
theorem tz{L K B id b:Nat}(h:γR L K B id=some b):(id=0/\b=L)\/(id=1/\b=K)\/(id=2/\b=B):=by
 unfold γR at h
 split at h
 ·rename_i e;cases h;exact .inl ⟨e,rfl⟩
 ·split at h
  ·rename_i e;cases h;exact .inr (.inl ⟨e,rfl⟩)
  ·split at h
   ·rename_i e;cases h;exact .inr (.inr ⟨e,rfl⟩)
   ·cases h
def σR(nt t:Nat)(e:Ty)(X:AV):St:={ tm:=fun i=>if i=t then .ptr (.sl e) 2 [] else .undef,ob:=fun i=>if i=2 then some (.one (.sl e) X) else none,fresh:=0,dead:=[],nt:=nt,lkS:=[],lkO:=[0,1] }
def j9(dead:List Nat):AV->Bool
 | .d t _=>aO t
 | .own t v _=>aO t&&!(dead.contains v)
 | .ptr ..=>true
 | .nils=>true
 | .undef=>true
 | _=>false
section
variable{P:Program}{E:Env}{r:Root}
theorem A7{w:World}{S:Nat->Nat->Prop}{e:Ty}(hce:aO e=true){l:List D}(hwt:∀ x∈l,wt e x){ad:Option Addr}{n cap L K:Nat}(h:CR w S (.sl l) (.slice ad n cap))(hb:∀ b off,ad=some ⟨b,off,none⟩->b≠L/\b≠K) :
  CR w (fun b i=>S b i/\b≠L/\b≠K) (.sl l) (.slice ad n cap):=by
 obtain⟨ad',cap',b',off',e1,e2,e3,cs,e4,e5⟩:=h.elems
 cases e1
 by_cases hL:l=[]
 ·subst hL;exact CR.of_elems (b:=0) (off:=0) (.inl rfl) e3 ⟨[],cw.nil,by simp⟩
 ·have e2:ad=some ⟨b',off',none⟩:=e2.resolve_left hL
  have hb':=hb _ _ e2
  have lf:=eJ hce l hwt
  exact CR.of_elems (.inr e2) e3 ⟨cs,(bj lf).2 ((bj lf).1 e4),fun i c hc=>⟨⟨(e5 i c hc).1,hb'⟩,(e5 i c hc).2⟩⟩
theorem BJ{c:Cx}{ob':Nat->Option Ob}{L K:Nat}(hβ:∀ v b e,v ∉ c.dead->c.β v=some (b,e)->b≠L/\b≠K)(hob:∀ i o,ob' i=some o->c.ob i=some o){a:AV}{cs:List Value}(hp:j9 c.dead a=true)(h:AC c a cs) :
  AC ⟨c.w,fun b i=>c.S b i/\b≠L/\b≠K,c.γ,c.β,ob',c.dead⟩ a cs:=by
 cases a<;>simp only[j9] at hp<;>first|(cases hp;done)|skip
 case d t x=>
  simp only[AC] at h ⊢
  have lf:=eC t x hp h.1
  exact⟨h.1,h.2.1,(bj lf).2 ((bj lf).1 h.2.2)⟩
 case own t v l=>
  simp only[Bool.and_eq_true,Bool.not_eq_true'] at hp
  have hd:v ∉ c.dead:=by simpa using hp.2
  simp only[AC] at h ⊢
  obtain⟨n0,n1,ad,cap,rfl,n4,n5⟩:=h
  refine⟨n0,n1,ad,cap,rfl,A7 hp.1 n1 n4 fun b off hb=>?_,n5⟩
  rcases n5 hd with q|⟨b',off',q1,q2,q3⟩
  ·rw[q.1] at hb;cases hb
  ·rw[q1] at hb;cases hb;exact hβ v _ _ hd q2
 case nils=>simpa only[AC] using h
 case ptr t id p=>
  simp only[AC] at h ⊢
  obtain⟨b,off,rfl,k1,k2⟩:=h
  exact⟨b,off,rfl,k1,fun o ho=>k2 o (hob _ _ ho)⟩
 case undef=>simp only[AC]
theorem Gq{c:Cx}{ob':Nat->Option Ob}{L K:Nat}(hβ:∀ v b e,v ∉ c.dead->c.β v=some (b,e)->b≠L/\b≠K)(hob:∀ i o,ob' i=some o->c.ob i=some o){a:AV}{v:Value}(hp:j9 c.dead a=true)(h:AR c a v) :
  AR ⟨c.w,fun b i=>c.S b i/\b≠L/\b≠K,c.γ,c.β,ob',c.dead⟩ a v:=by
 have hp':=hp
 cases a<;>simp only[j9] at hp<;>first|(cases hp;done)|skip
 case d t x=>
  simp only[AR] at h ⊢
  rcases h with⟨k1,k2,k3⟩|⟨ts,rfl,_⟩
  ·exact .inl ⟨k1,k2,o8 hp k2 k3⟩
  ·simp[aO] at hp
 case undef=>simp only[AR]
 all_goals
  simp only[AR] at h ⊢
  exact⟨h.1,BJ hβ hob hp' h.2⟩
def St.only(s:St)(ids:List Nat):St:={ s with ob:=fun i=>if ids.contains i then s.ob i else none }
def yq(dead:List Nat):Option Ob->Bool
 | some (.one _ X)=>j9 dead X
 | none=>true
 | _=>false
def mZ(s:St)(ids:List Nat):Bool:=(List.range s.nt).all (fun t=>j9 s.dead (s.tm t))&&ids.all fun i=>yq s.dead (s.ob i)
theorem Rp.shrink{S:Nat->Nat->Prop}{γ:Nat->Option Nat}{β:Nat->Option (Nat×Nat)}{s:St}{a:Act}{w:World}(h:Rp r S γ β s a w){L K:Nat}(hβ:∀ v b e,v ∉ s.dead->β v=some (b,e)->b≠L/\b≠K){ids:List Nat}(hp:mZ s ids=true) :
  Rp r (fun b i=>S b i/\b≠L/\b≠K) γ β (s.only ids) a w:=by
 simp only[mZ,Bool.and_eq_true,List.all_eq_true,List.mem_range] at hp
 have hob:∀ i o,(s.only ids).ob i=some o->s.ob i=some o/\i∈ids:=fun i o ho=>by
  simp only[St.only] at ho
  split at ho
  ·rename_i hc;exact⟨ho,by simpa using hc⟩
  ·cases ho
 refine⟨h.ext,fun t ht=>Gq (c:=⟨w,S,γ,β,s.ob,s.dead⟩) hβ (fun i o ho=>(hob i o ho).1) (hp.1 t (by rw[<-h.nt];exact ht)) (h.tms t ht),h.nt,h.tmu,fun id o b ho hb=>?_,h.γn,h.γi,h.γf,fun v b e hv hb=>⟨(h.βn v b e hv hb).1,(h.βn v b e hv hb).2.1,fun o ho hs=>(h.βn v b e hv hb).2.2 o ho hs.1⟩,h.βi,h.βγ,h.βf,fun b o hb=>h.Sb b o hb.1,fun b o hb=>h.So b o hb.1,h.df⟩
 obtain⟨h1,h2⟩:=hob id o ho
 have hO:=h.obs id o b h1 hb
 have hpo:=hp.2 id h2
 rw[h1] at hpo
 cases o<;>simp only[yq] at hpo<;>first|(cases hpo;done)|skip
 simp only[gT] at hO ⊢
 obtain⟨q1,q2,q3,cs,q4,q5,q6⟩:=hO
 exact⟨q1,q2,fun o hs=>q3 o hs.1,cs,q4,BJ (c:=⟨w,S,γ,β,s.ob,s.dead⟩) hβ (fun i o ho=>(hob i o ho).1) hpo q5,q6⟩
theorem Rp.stdO{S:Nat->Nat->Prop}{γ:Nat->Option Nat}{β:Nat->Option (Nat×Nat)}{s:St}{a:Act}{w:World}(h:Rp r S γ β s a w){L K B id:Nat}(hL:¬ r.Old L/\L<w.heap.size)(hK:¬ r.Old K/\K<w.heap.size)(hLK:L≠K)
  (hβ:∀ v b e,v ∉ s.dead->β v=some (b,e)->b≠L/\b≠K) {e:Ty} (hce:aO e=true) (hid:γ id=some B) (hB:B≠L/\B≠K) {l:List D} (hv:lN s e id=some l)
  {aR:Act} {nt t:Nat} (hsz:aR.tmps.size=nt) (ht:t<nt) (hp:aR.tmps.getD t undef=.pointer (some ⟨B,0,none⟩)) (hdf:aR.defers=[]) :
  ∃ β' X,xj e l X/\Rp r (fun b i=>S b i/\b≠L/\b≠K) (γR L K B) β' (σR nt t e X) aR w:=by
 obtain⟨X0,ho,hX0⟩:=pz hv
 have hO:=h.obs id _ B ho hid
 simp only[gT] at hO
 obtain⟨q1,q2,q3,cs,q4,q5,q6⟩:=hO
 have hBn:=h.γn id B hid
 have γn':∀ id b,γR L K B id=some b->¬ r.Old b/\b<w.heap.size:=fun id b hb=>by
  rcases tz hb with⟨_,rfl⟩|⟨_,rfl⟩|⟨_,rfl⟩
  ·exact hL
  ·exact hK
  ·exact hBn
 have γi':∀ id id' b,γR L K B id=some b->γR L K B id'=some b->id=id':=fun id id' b hb hb'=>by
  rcases tz hb with⟨k1,k2⟩|⟨k1,k2⟩|⟨k1,k2⟩<;>rcases tz hb' with⟨k3,k4⟩|⟨k3,k4⟩|⟨k3,k4⟩<;>first
   | omega
   | (exfalso;have:=hB.1;have:=hB.2;omega)
 have γf':∀ id,0*4096+4096<=id->γR L K B id=none:=fun id hid=>by
  unfold γR;rw[if_neg (by omega),if_neg (by omega),if_neg (by omega)]
 have tms':∀ (β':Nat->Option (Nat×Nat)) (X:AV),∀ t',t'<aR.tmps.size->AR ⟨w,fun b i=>S b i/\b≠L/\b≠K,γR L K B,β',(σR nt t e X).ob,[]⟩ ((σR nt t e X).tm t') (aR.tmps.getD t' undef):=fun β' X t' ht'=>by
  show AR _ (if t'=t then AV.ptr (.sl e) 2 [] else .undef) _
  by_cases hh:t'=t
  ·subst hh
   rw[if_pos rfl,hp]
   simp only[AR,AC]
   refine⟨fun cs hcs=>(by cases hcs),B,0,rfl,rfl,fun o ho'=>?_⟩
   have:(σR nt t' e X).ob 2=some (.one (.sl e) X):=rfl
   rw[this] at ho'
   cases ho'
   exact⟨rfl,rfl⟩
  ·rw[if_neg hh];simp only[AR]
 have tmu':∀ X t',nt<=t'->(σR nt t e X).tm t'=.undef:=fun X t' ht'=>by
  show(if t'=t then AV.ptr (.sl e) 2 [] else .undef)=_
  rw[if_neg (by omega)]
 have ob':∀ X i o,(σR nt t e X).ob i=some o->i=2/\o=.one (.sl e) X:=fun X i o ho'=>by
  have:(if i=2 then some (Ob.one (.sl e) X) else none)=some o:=ho'
  split at this
  ·rename_i hi;cases this;exact⟨hi,rfl⟩
  ·cases this
 have γ2:∀ b,γR L K B 2=some b->b=B:=fun b hb=>by cases hb;rfl
 rcases hX0 with⟨rfl,rfl⟩|⟨v,rfl,hd⟩
 ·refine⟨fun _=>none,.nils,.inl ⟨rfl,rfl⟩,h.ext,tms' _ _,hsz,tmu' _,fun i o b ho' hb=>?_,γn',γi',γf',fun v b e _ hb=>(by cases hb),fun v v' b e e' _ _ hb=>(by cases hb),fun v id b e _ hb=>(by cases hb),fun _ _=>rfl,fun b i hb=>h.Sb b i hb.1,fun b i hb=>h.So b i hb.1,hdf⟩
  obtain⟨rfl,rfl⟩:=ob' _ i o ho'
  have:=γ2 b hb;subst this
  simp only[gT]
  exact⟨q1,q2,fun o hs=>q3 o hs.1,cs,q4,by simpa only[AC] using q5,q6⟩
 ·simp only[AC] at q5
  obtain⟨n0,n1,ad,cap,rfl,n4,n5⟩:=q5
  refine⟨fun i=>if i=5 then β v else none,.own e 5 l,.inr rfl,h.ext,tms' _ _,hsz,tmu' _,fun i o b ho' hb=>?_,γn',γi',γf',fun u b e' _ hb=>?_,fun u u' b e' e'' _ _ hb hb'=>?_,fun u id' b e' _ hb hid'=>?_,fun u hu=>?_,fun b i hb=>h.Sb b i hb.1,fun b i hb=>h.So b i hb.1,hdf⟩
  ·obtain⟨rfl,rfl⟩:=ob' _ i o ho'
   have:=γ2 b hb;subst this
   simp only[gT]
   refine⟨q1,q2,fun o hs=>q3 o hs.1,_,q4,?_,q6⟩
   simp only[AC]
   refine⟨n0,n1,ad,cap,rfl,A7 hce n1 n4 fun b' off hb'=>?_,fun _=>?_⟩
   ·rcases n5 hd with q|⟨b2,off',k1,k2,k3⟩
    ·rw[q.1] at hb';cases hb'
    ·rw[k1] at hb';cases hb';exact hβ v _ _ hd k2
   ·rcases n5 hd with q|⟨b2,off',k1,k2,k3⟩
    ·exact .inl q
    ·exact .inr ⟨b2,off',k1,by simpa using k2,k3⟩
  ·have hb:(if u=5 then β v else none)=some (b,e'):=hb
   split at hb
   ·obtain⟨k1,k2,k3⟩:=h.βn v b e' hd hb
    exact⟨k1,k2,fun i hi hs=>k3 i hi hs.1⟩
   ·cases hb
  ·have hb:(if u=5 then β v else none)=some (b,e'):=hb
   have hb':(if u'=5 then β v else none)=some (b,e''):=hb'
   split at hb<;>split at hb'<;>first|(cases hb;done)|(cases hb';done)|omega
  ·have hb:(if u=5 then β v else none)=some (b,e'):=hb
   split at hb
   ·have:=hβ v b e' hd hb
    rcases tz hid' with⟨_,q⟩|⟨_,q⟩|⟨_,q⟩
    ·exact this.1 q
    ·exact this.2 q
    ·exact h.βγ v id b e' hd hb (q ▸ hid)
   ·cases hb
  ·have hu':4096<=u:=by simpa [σR,St.base] using hu
   show(if u=5 then β v else none)=none
   rw[if_neg (by omega)]
def kO(e:Ty)(t:Nat)(x:Ex)(s:St):Option D:=match x with
 | .normal=>match s.tm t with
  | .ptr ty id []=>if ty.beq (.sl e) then(lN s e id).bind fun l=>some (.sl l) else none
  | _=>none
 | _=>none
theorem Gs{e:Ty}{t:Nat}{x:Ex}{s:St}{l:List D}(h:kO e t x s=some (.sl l)):x=.normal/\∃ id,s.tm t=.ptr (.sl e) id []/\lN s e id=some l:=by
 unfold kO at h
 split at h<;>first|(cases h;done)|skip
 split at h<;>first|(cases h;done)|skip
 rename_i ty id htm
 split at h<;>first|(cases h;done)|skip
 rename_i ht
 have:=Ty.eq_of_beq _ _ ht;subst this
 obtain⟨l',h1,h2⟩:=bind_some_inv h
 cases h2
 exact⟨rfl,id,htm,h1⟩
def kI(e:Ty)(x:Ex)(s:St):Option D:=match x with|.normal=>(lN s e 2).bind fun l=>some (.sl l)|_=>none
theorem GL{e:Ty}{x:Ex}{s:St}{l:List D}(h:kI e x s=some (.sl l)):x=.normal/\lN s e 2=some l:=by
 unfold kI at h
 split at h<;>first|(cases h;done)|skip
 obtain⟨l',h1,h2⟩:=bind_some_inv h
 cases h2
 exact⟨rfl,h1⟩
def oJ(s:St)(t:Nat):List Nat:=match s.tm t with|.ptr _ id _=>[2,id]|_=>[2]
def BW(P:Program)(r:Root)(e:Ty)(l:List D)(g:Nat)(lb:Array Value):Prop:=
 ∀ (nn L:Nat) (J:Nat->World->Prop),(∀ k W,J k W->cY r W)->(∀ k W os d,J k W->W.drawn<=d->J k (ao W os d)) ->
  (∀ k x W v,l[k]?=some x->J k W->(∀ c:Cx,AR c (.d e x) v)->YieldAt (FW none) (nn-1) P L #[v] W fun en W'=>en=.returned (.bool true)/\J (k+1) W') ->
  ∀ W0,J 0 W0->CallsIn (FW none) nn P g (#[.func (.yield L) #[] #[]]++lb) W0 fun en W'=>(∃ v,en=.returned v)/\J l.length W'
def nv(r:Root)(e:Ty)(l:List D)(v:Value)(W:World):Prop:=
 ∃ X S β,xj e l X/\Rp r S (fun _=>none) β (dS 1 [] (fun i=>if i=0 then X else .undef)) ⟨#[v],[]⟩ W
theorem Ha{a:Act}{w:World}(hX:cY r w){nt:Nat}{lk:List Nat}{f:Nat->AV}(hsz:a.tmps.size=nt)(hdf:a.defers=[])
  (hf:∀ t,t<nt->AR ⟨w,fun _ _=>False,fun _=>none,fun _=>none,fun _=>none,[]⟩ (f t) (a.tmps.getD t undef)) (hu:∀ t,nt<=t->f t=.undef):Rp r (fun _ _=>False) (fun _=>none) (fun _=>none) (dS nt lk f) a w:=
 ⟨hX,fun t ht=>hf t (by rw[<-hsz];exact ht),hsz,hu,fun id o b ho=>(by cases ho),fun id b hb=>(by cases hb),fun id id' b hb=>(by cases hb),fun _ _=>rfl,fun v b e _ hb=>(by cases hb),fun v v' b e e' _ _ hb=>(by cases hb),fun v id b e _ hb=>(by cases hb),fun _ _=>rfl,fun b o hb=>hb.elim,fun b o hb _=>hb.elim,hdf⟩
end
end Go.Proofs.YtjjjkojfijpeeaaGreat.Sy
end
section
set_option linter.unusedVariables false
namespace Go.Proofs.YtjjjkojfijpeeaaGreat.Sy
open Go Go.Proofs
open Go.ChangeMaps (setBlock)
open Go.RowKit
section
variable{P:Program}{E:Env}{r:Root}
set_option maxHeartbeats 1000000 in
theorem rq(hE:EnvOk P E){nn:Nat}{e:Ty}(hce:aO e=true){l:List D}(hwt:∀ x∈l,wt e x)(hlen:l.length<=1073741824){g:Nat}{lb:Array Value}(hIt:BW P r e l g lb)
  (eg:∀ args w,(callFunc g args).run P w=.ok (.enter g args) w)
  {f:Nat} {fn:Func} (hfn:P.funcs[f]?=some fn) {i0 i1 i4 b0:Nat} {R0 R1 R4:Array Oper} {asg bdy:Code} (hbody:fn.body=some (.seq (.region i0 R0 false) (.seq (.seq (.region i1 R1 false) (.block b0 (.rangeFunc (.tmp 6) #[7] asg bdy))) (.seq (.region i4 R4 false) .ret))))
  (hnt:fn.ntmps=13) (hres:fn.results=#[.tmp 4])
  {Ts:Nat} (hTs:E.L Ts=some (.sl e)) {y6 y12 y4:TypeId} {p6 p12 p4:String} {f6 f12 f4:Array Edge}
  (hR1:R1.toList=[⟨some 6,.move (.tmp 1),y6,p6,f6,none⟩]) (hR4:R4.toList=[⟨some 12,.load Ts (.tmp 2),y12,p12,f12,none⟩,⟨some 4,.assign (.tmp 12),y4,p4,f4,none⟩])
  (hv0:ev E (.region i0 R0 false) .leaf D (dS 13 [1] (fun i=>if i=0 then .nils else .undef)) (kO e 2)=some (.sl []))
  (hround:∀ X L k,xj e L X->L.length<1073741824->ev E asg .leaf D ((σR 13 2 e X).put (some 7) (.d e k)) (fun x s'=>match x with
   | .normal=>if mZ s' (oJ s' 5) then ev E bdy .leaf D (s'.only (oJ s' 5)) (kI e) else none
   | _=>none)=some (.sl (L++[k])))
  {W0:World} (h0:cY r W0):CallsIn (FW none) nn P f #[.slice none 0 0,.func (.func g) #[] lb] W0 fun en W'=>∃ v,en=.returned v/\nv r e l v W':=by
 refine callsIn_of_wp_marks hfn hbody trivial ?_
 generalize ha0:Act.mk _ _=a0
 have hsz0:a0.tmps.size=13:=by rw[<-ha0];simp[hnt]
 have e0:a0.tmps.getD 0 undef=.slice none 0 0:=by rw[<-ha0,hnt];rfl
 have e1:a0.tmps.getD 1 undef=.func (.func g) #[] lb:=by rw[<-ha0,hnt];rfl
 have hd0:a0.defers=[]:=by rw[<-ha0]
 clear ha0
 have RA:=Ha (r:=r) (lk:=[1]) (f:=fun i=>if i=0 then .nils else .undef) h0 hsz0 hd0 (fun t ht=>by
  by_cases h5:t=0
  ·subst h5;rw[if_pos rfl,e0];simp only[AR,AC];exact⟨fun cs h=>(by cases h),rfl⟩
  ·rw[if_neg h5];simp only[AR]) (fun t ht=>by rw[if_neg (by omega)])
 refine wpIn_seq (dL hE _ .leaf D _ _ RA hv0 fun x s1 S1 γ1 β1 a1 w1 g1 g2 g3 g4=>?_)
 obtain⟨rfl,id,htm,hfr⟩:=Gs g4
 simp only[tu,Exit.then]
 have hlt2:=(g1.slot htm (by simp)).1
 have hA:=(g1.slot htm (by simp)).2
 simp only[AR,AC] at hA
 obtain⟨_,B,off,hB1,hγB,hB2⟩:=hA
 have hv2:a1.tmps.getD 2 undef=.pointer (some ⟨B,off,none⟩):=al (by assumption) hB1
 obtain⟨X0,hX0,_⟩:=pz hfr
 have hoff:off=0:=(hB2 _ hX0).2
 subst hoff
 have hv1:a1.tmps.getD 1 undef=.func (.func g) #[] lb:=(g2.slots 1 (by simp[dS])).trans e1
 have hsz1:a1.tmps.size=13:=by rw[g1.nt,g3.nt];rfl
 refine wpIn_seq (wpIn_seq (wpIn_region_list ?_))
 rw[hR1]
 refine ge (K:=fun v w'=>v=.func (.func g) #[] lb/\w1=w') rfl (cl.value (v:=a1.eval (.tmp 1)) (w':=w1) rfl ⟨hv1,rfl⟩) ?_
 rintro _ _ ⟨rfl,rfl⟩
 obtain⟨a2,ha2⟩:∃ a2,a1.put (some 6) (.func (.func g) #[] lb)=a2:=⟨_,rfl⟩
 show Exit.then _ _ .normal (a1.put (some 6) (.func (.func g) #[] lb)) w1
 rw[ha2]
 have k6:a2.eval (.tmp 6)=.func (.func g) #[] lb:=by rw[<-ha2];exact cg (by rw[hsz1];decide)
 have k2:a2.tmps.getD 2 undef=.pointer (some ⟨B,0,none⟩):=by rw[<-ha2,cP (by decide)];exact hv2
 have ksz:a2.tmps.size=13:=by rw[<-ha2,ak];exact hsz1
 have kdf:a2.defers=[]:=by rw[<-ha2,aI];exact g1.df
 clear ha2
 simp only[Exit.then]
 refine wpIn_block (wpIn_rangeFunc ?_)
 intro fid hfid
 obtain⟨K,hK⟩:∃ K,K=w1.heap.size:=⟨_,rfl⟩
 obtain⟨L,hL⟩:∃ L,L=w1.heap.size+1:=⟨_,rfl⟩
 obtain⟨rec,hrec⟩:∃ rec:LoopState->Option Code->Loop,rec=fun st pe=>{ state:=st,pending:=pe,fn:=fid,tmps:=a2.tmps,params:=#[7],assign:=asg,body:=bdy,defers:=K }:=⟨_,rfl⟩
 obtain⟨W1,hW1⟩:∃ W1,(w1.alloc (.deferred (some []))).alloc (.loop (rec .ready none))=W1:=⟨_,rfl⟩
 have hgr:W1=ao w1 [.deferred (some []),.loop (rec .ready none)] w1.drawn:=by
  rw[<-hW1]
  unfold ao
  show({ w1 with heap:=(w1.heap.push _).push _ }:World)=_
  congr 1<;>(apply Array.ext';simp)
 have hL1:W1.heap[L]?=some (.loop (rec .ready none)):=by
  rw[<-hW1,hL];have:=World.alloc_heap_new (w1.alloc (.deferred (some []))) (.loop (rec .ready none));rwa [World.size_alloc] at this
 have hK1:W1.heap[K]?=some (.deferred (some [])):=by
  rw[<-hW1,hK];exact(Below.heap_alloc _ _ _ (by simp)).trans (World.alloc_heap_new w1 _)
 have hLK:L≠K:=by omega
 obtain⟨aR,haR⟩:∃ aR:Act,aR=⟨a2.tmps,[]⟩:=⟨_,rfl⟩
 have r1:aR.tmps.size=13:=by rw[haR];exact ksz
 have r2:aR.tmps.getD 2 undef=.pointer (some ⟨B,0,none⟩):=by rw[haR];exact k2
 have r3:aR.defers=[]:=by rw[haR]
 obtain⟨J,hJdef⟩:∃ J:Nat->World->Prop,J=fun k W=>∃ S1 β1 X,xj e (l.take k) X/\Rp r S1 (γR L K B) β1 (σR 13 2 e X) aR W/\(∀ o,¬ S1 L o)/\(∀ o,¬ S1 K o)/\W.heap[L]?=some (.loop (rec .ready none))/\W.heap[K]?=some (.deferred (some [])):=⟨_,rfl⟩
 have hJ0:J 0 W1:=by
  have G:=(g1.grow (os:=[.deferred (some []),.loop (rec .ready none)]) (d:=w1.drawn) (Nat.le_refl _) (S':=S1) (fun _ _ hb=>hb) (fun _ _ hb=>.inl hb)).1
  rw[<-hgr] at G
  have hBn:=g1.γn id B hγB
  have hs:w1.heap.size+1<W1.heap.size:=by rw[hgr];simp[ao]
  have hold:∀ b,w1.heap.size<=b->¬ r.Old b:=fun b hb ho=>by have:=ho.1;have:=g1.ext.sz;omega
  obtain⟨β',X,hX,hR⟩:=G.stdO (L:=L) (K:=K) (B:=B) (id:=id) ⟨hold L (by omega),by omega⟩ ⟨hold K (by omega),by omega⟩ hLK (fun v b e' hd hb=>by have:=(g1.βn v b e' hd hb).2.1;omega) hce hγB (by have:=hBn.2;omega) hfr r1 (t:=2) (by decide) r2 r3
  rw[hJdef]
  exact⟨_,β',X,by simpa using hX,hR,fun o h=>h.2.1 rfl,fun o h=>h.2.2 rfl,hL1,hK1⟩
 have hJe:∀ k W,J k W->cY r W:=fun k W h=>by
  rw[hJdef] at h
  obtain⟨_,_,_,_,hR,_⟩:=h
  exact hR.ext
 have hJg:∀ k W os d,J k W->W.drawn<=d->J k (ao W os d):=fun k W os d h hd=>by
  rw[hJdef] at h ⊢
  obtain⟨S,β,X,hX,hR,h1,h2,h3,h4⟩:=h
  refine⟨S,β,X,hX,(hR.grow hd (S':=S) (fun _ _ hb=>hb) (fun _ _ hb=>.inl hb)).1,h1,h2,?_,?_⟩
  ·rw[bI (Array.getElem?_eq_some_iff.1 h3).1];exact h3
  ·rw[bI (Array.getElem?_eq_some_iff.1 h4).1];exact h4
 clear g1 g2 g3 g4 RA
 refine⟨L,[{ target:=.collected K,args:=#[] }],W1,{ target:=.fn (.func g) lb,args:=#[.func (.yield L) #[] #[]] },W1,g,#[.func (.yield L) #[] #[]]++lb,W1,?_,?_,fun _ _=>trivial,?_,fun h=>(by cases h),?_⟩
 ·rw[<-hW1,hrec,hL,hK];exact run_enterLoop_outer _ _ _ _ _
 ·simp only[resolve,k6]
  simp[go_sem]
 ·simp[invoke,go_sem,eg]
 refine(hIt (nn-1) L J hJe hJg ?_ W1 hJ0).mono ?_
 ·
  intro k x W v hx hJ hAR
  rw[hJdef] at hJ
  obtain⟨S,β,X,hX,hR,hSL,hSK,hl,hk⟩:=hJ
  have hkl:k<l.length:=(List.getElem?_eq_some_iff.1 hx).1
  have hy:=run_yield (P:=P) (args:=#[v]) hl (by rw[hrec];rfl)
  rw[hrec] at hy
  refine⟨fid,_,asg,bdy,hy,roundIn_of_wpIn trivial ?_⟩
  have hact:({ tmps:=((#[7]:Array Tmp).zip #[v]).foldl (fun tmps (t,a)=>tmps.setIfInBounds t a) a2.tmps,defers:=[] }:Act)=aR.put (some 7) v:=by
   rw[haR];simp[Act.put]
  show Code.wpIn (FW (some L)) _ P asg _ { tmps:=((#[7]:Array Tmp).zip #[v]).foldl (fun tmps (t,a)=>tmps.setIfInBounds t a) a2.tmps,defers:=[] } W
  rw[hact]
  have RP:=hR.put (v:=.d e x) (val:=v) (hAR _) (some 7)
  have hlk:((σR 13 2 e X).put (some 7) (.d e x)).lkO=[0,1]:=(St.put_fields _ _ _).2.2.2.2.2.1
  have hnt7:((σR 13 2 e X).put (some 7) (.d e x)).nt=13:=(St.put_fields _ _ _).2.2.2.1
  refine dL hE asg .leaf D _ _ RP (hround X (l.take k) x hX (by rw[List.length_take];omega)) fun ex s' S' γ' β' a' w' n1 n2 n3 n4=>?_
  cases ex with
  | ret=>cases n4
  | exit i=>cases n4
  | normal=>
  simp only at n4
  split at n4<;>first|(cases n4;done)|skip
  rename_i hpl
  obtain⟨m1,m2⟩:=n2.objs 0 (by rw[hlk];simp) L rfl
  obtain⟨m3,m4⟩:=n2.objs 1 (by rw[hlk];simp) K rfl
  have m5:=n2.gam 2 B rfl
  have hl':w'.heap[L]?=some (.loop (rec .ready none)):=m2.trans hl
  have hk':w'.heap[K]?=some (.deferred (some [])):=m4.trans hk
  have N1:=n1.shrink (L:=L) (K:=K) (fun v b e' hd hb=>⟨fun h=>n1.βγ v 0 b e' hd hb (h ▸ m1),fun h=>n1.βγ v 1 b e' hd hb (h ▸ m3)⟩) hpl
  refine⟨_,run_beginRound hl' (by rw[hrec]),?_⟩
  have hob:∀ i,i≠2->(∀ id,(∃ t p,s'.tm 5=.ptr t id p)->i≠id)->(s'.only (oJ s' 5)).ob i=none:=fun i h1 h2=>by
   simp only[St.only]
   rw[if_neg]
   simp only[oJ]
   split
   ·rename_i t id p htm5
    have:=h2 id ⟨t,p,htm5⟩
    simp[h1,this]
   ·simp[h1]
  have h05:∀ id,(∃ t p,s'.tm 5=.ptr t id p)->(∃ o,s'.ob id=some o)->(0≠id/\1≠id)\/True:=fun _ _ _=>.inr trivial
  by_cases hob0:(s'.only (oJ s' 5)).ob 0=none
  rotate_left
  ·
   exfalso
   cases hq:(s'.only (oJ s' 5)).ob 0 with
   | none=>exact hob0 hq
   | some o=>
    have hO:=N1.obs 0 o L hq m1
    cases o with
    | one t v=>simp only[gT] at hO;obtain⟨_,_,_,cs,h4,_⟩:=hO;simp[bk,hl'] at h4
    | many t v=>simp only[gT] at hO;obtain⟨_,_,_,cs,h4,_⟩:=hO;simp[bk,hl'] at h4
    | mp kt vt v=>simp only[gT] at hO;obtain⟨_,_,_,es,h4,_⟩:=hO;rw[hl'] at h4;cases h4
  have N2:=N1.setB hob0 m1 (fun o h=>h.2.1 rfl) (.loop { rec .ready none with state:=.busy })
  have hsL:L<w'.heap.size:=(Array.getElem?_eq_some_iff.1 hl').1
  have hput:w'.putObj L (.loop { rec .ready none with state:=.busy })=setBlock w' L (.loop { rec .ready none with state:=.busy }):=rfl
  rw[hput]
  have hl2:(setBlock w' L (.loop { rec .ready none with state:=.busy })).heap[L]?=some (.loop { rec .ready none with state:=.busy }):=World.putObj_heap_same hsL
  have hk2:(setBlock w' L (.loop { rec .ready none with state:=.busy })).heap[K]?=some (.deferred (some [])):=(World.putObj_heap_other (Ne.symm hLK)).trans hk'
  have hlk':(s'.only (oJ s' 5)).lkO=[0,1]:=n3.lkO.trans hlk
  have hnt':(s'.only (oJ s' 5)).nt=13:=n3.nt.trans hnt7
  refine dL hE bdy .leaf D _ _ N2 n4 fun ex s2 S2 γ2 β2 a3 w3 o1 o2 o3 o4=>?_
  obtain⟨rfl,hfr2⟩:=GL o4
  obtain⟨u1,u2⟩:=o2.objs 0 (by rw[hlk'];simp) L m1
  obtain⟨u3,u4⟩:=o2.objs 1 (by rw[hlk'];simp) K m3
  have u5:=o2.gam 2 B m5
  have hl3:=u2.trans hl2
  have hk3:=u4.trans hk2
  refine⟨_,_,run_endRound none hl3,rfl,?_⟩
  have hBne:B≠L/\B≠K:=⟨fun h=>by have:=o1.γi 2 0 B u5 (h ▸ u1);omega,fun h=>by have:=o1.γi 2 1 B u5 (h ▸ u3);omega⟩
  obtain⟨β6,X6,hX6,R6⟩:=o1.stdO (L:=L) (K:=K) (B:=B) (id:=2) (o1.γn 0 L u1) (o1.γn 1 K u3) hLK (fun v b e' hd hb=>⟨fun h=>o1.βγ v 0 b e' hd hb (h ▸ u1),fun h=>o1.βγ v 1 b e' hd hb (h ▸ u3)⟩) hce u5 hBne hfr2 r1 (t:=2) (by decide) r2 r3
  have R7:=R6.setB (id:=0) (b:=L) rfl rfl (fun o h=>h.2.1 rfl) (.loop (rec .ready none))
  have hsL3:L<w3.heap.size:=(Array.getElem?_eq_some_iff.1 hl3).1
  have hw:w3.putObj L (.loop { ({ rec .ready none with state:=.busy }:Loop) with state:=if(none:Option Code).isNone then .ready else .done,pending:=none })=setBlock w3 L (.loop (rec .ready none)):=by
   rw[hrec];rfl
  rw[hw,hJdef]
  refine⟨_,β6,X6,?_,R7,fun o h=>h.2.1 rfl,fun o h=>h.2.2 rfl,World.putObj_heap_same hsL3,(World.putObj_heap_other (Ne.symm hLK)).trans hk3⟩
  have:l.take k++[x]=l.take (k+1):=by rw[List.take_add_one,hx];rfl
  rw[<-this];exact hX6
 ·
  rintro en W2 ⟨⟨v,rfl⟩,hJ⟩
  rw[hJdef] at hJ
  obtain⟨S,β,X,hX,hR,hSL,hSK,hl,hk⟩:=hJ
  rw[List.take_of_length_le (Nat.le_refl _)] at hX
  refine⟨none,_,by have:=run_endLoop (P:=P) hl (by rw[hrec];simp);rw[hrec] at this;exact this,?_⟩
  obtain⟨o3,ho3⟩:∃ o3:Obj,o3=.loop { ({ state:=.ready,pending:=none,fn:=fid,tmps:=a2.tmps,params:=#[7],assign:=asg,body:=bdy,defers:=K }:Loop) with state:=.exhausted }:=⟨_,rfl⟩
  have hR3:=hR.setB (id:=0) (b:=L) rfl rfl hSL o3
  have hk3:(setBlock W2 L o3).heap[K]?=some (.deferred (some [])):=(World.putObj_heap_other (Ne.symm hLK)).trans hk
  rw[ho3] at hR3 hk3
  show Exit.inBlock _ _ .normal _ (setBlock W2 L _)
  generalize setBlock W2 L _=W3 at hR3 hk3 ⊢
  have hO:=hR3.obs 2 _ B rfl rfl
  simp only[gT] at hO
  obtain⟨q1,q2,q3,cs,q4,q5,q6⟩:=hO
  have hval:∃ sv,cs=[sv]/\(∀ xs,sv≠.agg xs)/\sv.oneCell'=true/\AR ⟨W3,S,γR L K B,β,(σR 13 2 e X).ob,[]⟩ X sv:=by
   rcases hX with⟨rfl,_⟩|rfl
   ·simp only[AC] at q5
    subst q5
    exact⟨_,rfl,fun _ h=>(by cases h),rfl,by simp only[AR,AC];exact⟨fun _ h=>(by cases h),rfl⟩⟩
   ·have q5':=q5
    simp only[AC] at q5
    obtain⟨_,_,ad,cap,rfl,_⟩:=q5
    exact⟨_,rfl,fun _ h=>(by cases h),rfl,by simp only[AR];exact⟨fun _ h=>(by cases h),q5'⟩⟩
  obtain⟨sv,rfl,hna,hone,hAX⟩:=hval
  have hls:be P (.sl e) Ts=true:=(hE.lay Ts _ hTs).resolve_left (by rintro⟨ts,h⟩;cases h)
  obtain⟨v5,hrun5,hv5⟩:=dp (P:=P) hls (w:=W3) (b:=B) (off:=0) (cs:=[sv]) rfl (by intro v hv;rw[List.mem_singleton.1 hv];exact hone) (fun i c hi=>by
   cases i with
   | zero=>simp at hi;subst hi;rw[bv W3 q4];rfl
   | succ i=>simp at hi)
  have hv5':v5=sv:=al (hv5.2.2 rfl) hv5.1
  subst hv5'
  simp only[Exit.inBlock,Exit.then]
  obtain⟨a4,ha4⟩:∃ a4:Act,a4={ a2 with defers:=[{ target:=.collected K,args:=#[] }]++a2.defers }:=⟨_,rfl⟩
  rw[<-ha4]
  have t2:a4.eval (.tmp 2)=.pointer (some ⟨B,0,none⟩):=by rw[ha4];exact k2
  have tsz:a4.tmps.size=13:=by rw[ha4];exact ksz
  have tdf:a4.defers=[{ target:=.collected K,args:=#[] }]:=by rw[ha4];show[_]++a2.defers=_;rw[kdf];rfl
  refine wpIn_seq (wpIn_region_list ?_)
  rw[hR4]
  refine ge (K:=fun v w'=>v=v5/\W3=w') rfl (cl.value (dw (m:=Instr.loadAt Ts (.pointer (some ⟨B,0,none⟩))) ?_ hrun5) ⟨rfl,rfl⟩) ?_
  ·show(Instr.loadAt Ts (a4.eval (.tmp 2)) >>= fun r=>pure (Next.value r))=_
   rw[t2]
  rintro v5 _ ⟨rfl,rfl⟩
  refine ge (K:=fun v w'=>v=v5/\W3=w') rfl (cl.value (v:=(a4.put (some 12) v5).eval (.tmp 12)) (w':=W3) rfl ⟨gA (by rw[tsz];decide),rfl⟩) ?_
  rintro v5 _ ⟨rfl,rfl⟩
  show Exit.then _ _ .normal _ W3
  simp only[Exit.then]
  have t4:((a4.put (some 12) v5).put (some 4) v5).tmps.getD 4 undef=v5:=cg (by rw[ak,tsz];decide)
  refine wpIn_ret ?_
  show LeavesInM _ _ P fn ((a4.put (some 12) v5).put (some 4) v5).tmps _ ((a4.put (some 12) v5).put (some 4) v5).defers .returning W3
  rw[aI,aI,tdf]
  refine⟨by simp,.inl ⟨K,_,rfl,run_takeDeferred hk3,v5,?_,v5,rfl,?_⟩⟩
  ·exact(results_tmp hres _ _ _).trans (by rw[t4])
  ·have hR4:=hR3.setB (id:=1) (b:=K) rfl rfl hSK (.deferred none)
   have hle:=hR4
   refine⟨X,S,β,hX,hR4.ext,fun t ht=>?_,rfl,fun t ht=>?_,fun id o b ho=>(by cases ho),fun id b hb=>(by cases hb),fun id id' b hb=>(by cases hb),fun _ _=>rfl,hR4.βn,hR4.βi,fun v id b e _ hb hq=>(by cases hq),hR4.βf,hR4.Sb,hR4.So,rfl⟩
   ·have ht0:t=0:=by have:t<1:=ht;omega
    subst ht0
    have hO:=hR4.obs 2 _ B rfl rfl
    simp only[gT] at hO
    obtain⟨_,_,_,cs,z4,z5,_⟩:=hO
    have hBK:B≠K:=fun h=>by
     have:=hR4.γi 2 1 B rfl (by rw[h];rfl)
     omega
    have hrow:bk (setBlock W3 K (.deferred none)) B=bk W3 B:=by
     simp only[bk,setBlock];rw[Array.getElem?_setIfInBounds_ne (Ne.symm hBK)]
    rw[hrow,q4] at z4
    have hcs:cs=[v5]:=by
     have:=congrArg (Option.map Array.toList) z4
     simpa using this.symm
    subst hcs
    show AR _ X v5
    rcases hX with⟨rfl,_⟩|rfl
    ·simp only[AR,AC] at hAX ⊢;exact hAX
    ·simp only[AR,AC] at hAX z5 ⊢
     refine⟨hAX.1,?_⟩
     obtain⟨z1,z2,ad,cap,z3,z6⟩:=z5
     refine⟨z1,z2,ad,cap,?_,z6⟩
     obtain⟨_,_,ad',cap',z7,_⟩:=hAX.2
     cases z3
     rfl
   ·show(if t=0 then X else .undef)=_
    rw[if_neg (by have:1<=t:=ht;omega)]
end
end Go.Proofs.YtjjjkojfijpeeaaGreat.Sy
end
section
set_option linter.unusedVariables false
namespace Go.Proofs.YtjjjkojfijpeeaaGreat.Sy
open Go Go.Proofs Go.Sort Go.Lib
section
variable{P:Program}{E:Env}{r:Root}
theorem As {f : Nat} (hf : ∃ fn, P.funcs[f]? = some fn /\ (fn.name == "runtime.NumGoroutine") = false /\ fn.body.isSome = true) (a : Act) (w : World) (d : Option Nat) (args : Array Operand) (ats : Array TypeId) (y : TypeId) (p : String) (fs : Array Edge) :
  (execOp a.eval ⟨d,.call ⟨.value (.func f),args,ats⟩,y,p,fs,none⟩).run P w=.ok (.enter f (args.map a.eval)) w:=by
 obtain⟨fn,f1,f2,f3⟩:=hf
 have hb:¬ fn.body=none:=by intro hh;rw[hh] at f3;cases f3
 have f2' : ¬ fn.name = "runtime.NumGoroutine" := by simpa using f2
 have e2:a.eval (.func f)=.func (.func f) #[] #[]:=rfl
 simp[execOp,resolve,Deferred.ofValue,invoke,callFunc,f1,f2',hb,e2]
theorem yo {f : Nat} (hf : ∃ fn, P.funcs[f]? = some fn /\ (fn.name == "runtime.NumGoroutine") = false /\ fn.body.isSome = true) (args : Array Value) (w : World) : (callFunc f args).run P w = .ok (.enter f args) w := by
 obtain⟨fn,f1,f2,f3⟩:=hf
 have hb:¬ fn.body=none:=by intro hh;rw[hh] at f3;cases f3
 have f2' : ¬ fn.name = "runtime.NumGoroutine" := by simpa using f2
 simp[callFunc,f1,f2',hb]
theorem nv.at{e:Ty}{l:List D}{v:Value}{W:World}(h:nv r e l v W){a:Act}{nt t:Nat}(hsz:a.tmps.size=nt)(ht:t<nt)(hv:a.tmps.getD t undef=v)(hd:a.defers=[]) :
  ∃ X S β,xj e l X/\Rp r S (fun _=>none) β (dS nt [] (fun i=>if i=t then X else .undef)) a W:=by
 obtain⟨X,S,β,hX,h⟩:=h
 refine⟨X,S,β,hX,h.ext,fun t' ht'=>?_,hsz,fun t' ht'=>?_,fun id o b ho=>(by cases ho),h.γn,h.γi,h.γf,h.βn,h.βi,h.βγ,h.βf,h.Sb,h.So,hd⟩
 ·show AR _ (if t'=t then X else .undef) _
  by_cases hh:t'=t
  ·subst hh
   rw[if_pos rfl,hv]
   exact h.tms 0 Nat.one_pos
  ·rw[if_neg hh];simp only[AR]
 ·show(if t'=t then X else .undef)=_
  rw[if_neg (by have:nt<=t':=ht';omega)]
theorem Ad{e:Ty}{l:List D}{X:AV}(hX:xj e l X)(hlen:l.length<=1073741824){nt t:Nat}:bR (dS nt [] (fun i=>if i=t then X else .undef)) e t=some l:=by
 rcases hX with⟨rfl,rfl⟩|rfl
 ·simp[bR,dS]
 ·simp[bR,dS,Ty.beq_refl',hlen]
def yY(e:Ty)(t:Nat)(x:Ex)(s:St):Option D:=match x with
 | .normal=>match s.tm t with
  | .ptr t id []=>match s.ob id with
   | some (.one t' (.d t'' y))=>if t.beq e&&t'.beq e&&t''.beq e then some y else none
   | _=>none
  | _=>none
 | _=>none
theorem AA{e:Ty}{t:Nat}{x:Ex}{s:St}{y:D}(h:yY e t x s=some y):x=.normal/\∃ id,s.tm t=.ptr e id []/\s.ob id=some (.one e (.d e y)):=by
 unfold yY at h
 split at h<;>first|(cases h;done)|skip
 split at h<;>first|(cases h;done)|skip
 rename_i t id htm
 split at h<;>first|(cases h;done)|skip
 rename_i t' t'' y' hob
 split at h<;>first|(cases h;done)|skip
 rename_i hc
 simp only[Bool.and_eq_true] at hc
 cases h
 have e1:=Ty.eq_of_beq _ _ hc.1.1;have e2:=Ty.eq_of_beq _ _ hc.1.2;have e3:=Ty.eq_of_beq _ _ hc.2
 subst e1;subst e2;subst e3
 exact⟨rfl,id,htm,hob⟩
end
end Go.Proofs.YtjjjkojfijpeeaaGreat.Sy
end
section
set_option linter.unusedVariables false
namespace Go.Proofs.YtjjjkojfijpeeaaGreat.Sy
open Go Go.Proofs Go.Sort Go.Lib
section
variable{r:Root}{lp:Lp}{call:Nat->List D->Option D}
noncomputable abbrev fl(lp:Lp)(call:Nat->List D->Option D):Env:=cm lp call (fj lp call)
theorem G6 : ∃ fn, Tryz.prog.funcs[149]? = some fn /\ (fn.name == "runtime.NumGoroutine") = false /\ fn.body.isSome = true := ud (by kernel_rfl)
theorem Hs : ∃ fn, Tryz.prog.funcs[176]? = some fn /\ (fn.name == "runtime.NumGoroutine") = false /\ fn.body.isSome = true := ud (by kernel_rfl)
theorem JY : ∃ fn, Tryz.prog.funcs[92]? = some fn /\ (fn.name == "runtime.NumGoroutine") = false /\ fn.body.isSome = true := ud (by kernel_rfl)
theorem JI : ∃ fn, Tryz.prog.funcs[93]? = some fn /\ (fn.name == "runtime.NumGoroutine") = false /\ fn.body.isSome = true := ud (by kernel_rfl)
theorem G9 : ∃ fn, Tryz.prog.funcs[151]? = some fn /\ (fn.name == "runtime.NumGoroutine") = false /\ fn.body.isSome = true := ud (by kernel_rfl)
noncomputable def Cn:Code:=match jD Tryz.f176 with|.seq _ (.seq (.seq _ (.block _ (.rangeFunc _ _ a _))) _)=>a|c=>c
noncomputable def Bu:Code:=match jD Tryz.f176 with|.seq _ (.seq (.seq _ (.block _ (.rangeFunc _ _ _ b))) _)=>b|c=>c
theorem Cb:∀ X L k,xj K1 L X->L.length<1073741824->ev (fl lp call) Cn .leaf D ((σR 13 2 K1 X).put (some 7) (.d K1 k)) (fun x s'=>match x with
   | .normal=>if mZ s' (oJ s' 5) then ev (fl lp call) Bu .leaf D (s'.only (oJ s' 5)) (kI K1) else none
   | _=>none)=some (.sl (L++[k])):=by
 intro X L k hX hL
 rcases hX with⟨rfl,rfl⟩|rfl
 ·kernel_rfl
 ·have key:ev (fl lp call) Cn .leaf D ((σR 13 2 K1 (.own K1 5 L)).put (some 7) (.d K1 k)) (fun x s'=>match x with
   | .normal=>if mZ s' (oJ s' 5) then ev (fl lp call) Bu .leaf D (s'.only (oJ s' 5)) (kI K1) else none
   | _=>none)=(if List.length L+List.length [k]<=1073741824 then some (.sl (L++[k])) else none):=by kernel_rfl
  rw[key,if_pos (by simp;omega)]
theorem Hn:ev (fl lp call) (oV (jD Tryz.f176)) .leaf D (dS 13 [1] (fun i=>if i=0 then .nils else .undef)) (kO K1 2)=some (.sl []):=by kernel_rfl
theorem tC(hE:EnvOk Tryz.prog (fl lp call)){nn:Nat}{l:List D}(hwt:∀ x∈l,wt K1 x)(hlen:l.length<=1073741824){lb:Array Value}(hIt:BW Tryz.prog r K1 l 151 lb){W0:World}(h0:cY r W0) :
  CallsIn (FW none) nn Tryz.prog 176 #[.slice none 0 0,.func (.func 151) #[] lb] W0 fun en W'=>∃ v,en=.returned v/\nv r K1 l v W':=
 rq hE rfl hwt hlen hIt (yo G9) (fn:=Tryz.f176) (by kernel_rfl) rfl rfl rfl (Ts:=22) (by kernel_rfl) rfl rfl Hn Cb h0
end
end Go.Proofs.YtjjjkojfijpeeaaGreat.Sy
end
section
set_option linter.unusedVariables false
namespace Go.Proofs.YtjjjkojfijpeeaaGreat.Sy
open Go Go.Proofs Go.Sort Go.Lib
section
variable{r:Root}{lp:Lp}{call:Nat->List D->Option D}
theorem kg{P:Program}{ro:Option Nat}{nn:Nat}{ops:Array Oper}{rest:List Oper}{a:Act}{w:World}{K:Value->World->Prop}{Q:Exit->Act->World->Prop}{d:Option Nat}{args:Array Operand}{ats:Array TypeId}{y:TypeId}{p:String}{fs:Array Edge}{f:Nat}
  (hf : ∃ fn, P.funcs[f]? = some fn /\ (fn.name == "runtime.NumGoroutine") = false /\ fn.body.isSome = true) (vs : Array Value) (h : args.map a.eval = vs) (hc : Calls P f vs w fun en w' => ∃ v, en = .returned v /\ K v w')
  (hk:∀ v w',K v w'->wpListIn (FW ro) nn P ops Q rest (a.put d v) w'):wpListIn (FW ro) nn P ops Q (⟨d,.call ⟨.value (.func f),args,ats⟩,y,p,fs,none⟩::rest) a w:=
 ge rfl (cl.enter (h ▸ As hf a w d args ats y p fs) hc) hk
theorem AB{l:List Oper}(h:(l.all fun o=>o.guard.isNone)=true):∀ x∈l,x.guard=none:=fun x hx=>by
 have:=List.all_eq_true.1 h x hx
 cases hg:x.guard with
 | none=>rfl
 | some g=>rw[hg] at this;cases this
theorem Dz{l:List D}:ev (fl lp call) (.region 0 ((FN (oV (jD Tryz.f151))).tail).toArray false) .leaf D (dS 16 [0,5] (fun i=>if i=5 then .d (.sl K1) (.sl l) else .undef)) (kW [(6,.int .i64),(7,.int .i64)])=some (.tup [.int .i64 (l.length:Nat),.int .i64 0]):=by kernel_rfl
noncomputable def mP:Code:=inLoop (mV (mJ (jD Tryz.f151)))
theorem Ei{l:List D}(k:Nat):ev (fl lp call) (oV mP) .leaf D (rA K1 l k [0,5,6,7]) (kW [(7,.int .i64),(8,.bool)])=some (.tup [.int .i64 (k:Nat),.bool (decide ((k:Int)<(l.length:Nat)))]):=by kernel_rfl
theorem EU{l:List D}(k:Nat):ev (fl lp call) (oV (mV (oV (mJ (mJ mP))))) .leaf D (rA K1 l k [0,5,6,7]) (Ar K1)=(D.idx (.int .i64 (k:Nat)) l.length).bind fun i=>l[i]?:=by
 have:ev (fl lp call) (oV (mV (oV (mJ (mJ mP))))) .leaf D (rA K1 l k [0,5,6,7]) (Ar K1)=(D.idx (.int .i64 (k:Nat)) l.length).bind fun i=>(l[i]?).bind fun x=>some x:=by kernel_rfl
 rw[this]
 simp
theorem D3{l:List D}(k:Nat):ev (fl lp call) (mJ (mJ (mJ mP))) .leaf D (rA K1 l k [0,5,6]) (kW [(7,.int .i64)])=(D.bin .add (.int .i64 (k:Nat)) (.int .i64 1)).bind fun x=>some (.tup [x]):=by
 have:ev (fl lp call) (mJ (mJ (mJ mP))) .leaf D (rA K1 l k [0,5,6]) (kW [(7,.int .i64)])=some (.tup [.int .i64 (IntKind.wrap .i64 ((k:Int)+1))]):=by kernel_rfl
 rw[this];rfl
theorem D7(hE:EnvOk Tryz.prog (fl lp call)){l:List D}(hwt:∀ x∈l,wt K1 x)(hlen:l.length<=1073741824){w:World}{S S0:Nat->Nat->Prop}(hS:∀ b o,S b o->b<w.heap.size){B:Nat}{sv:Value}(hB:∀ W,cY (bZ w S0) W->W.cell? ⟨B,0,none⟩=some sv)(hsv:CR w S (.sl l) sv) :
  BW Tryz.prog (bZ w S0) K1 l 151 #[.pointer (some ⟨B,0,none⟩)]:=by
 intro nn L J hJe hJ hY W0 h0
 exact Ci hE (e:=K1) rfl rfl hwt hlen hS hB hsv J hJe hJ hY (fn:=Tryz.f151) (by kernel_rfl) rfl rfl rfl (Ts:=22) (Te:=60) (by kernel_rfl) (by kernel_rfl) rfl (AB rfl) rfl Dz Ei EU D3 h0
theorem aq{a:Act}{t u:Nat}{v:Value}(h:t<a.tmps.size):(a.put (some t) v).tmps.getD u undef=if u=t then v else a.tmps.getD u undef:=by
 by_cases hh:u=t
 ·subst hh;rw[if_pos rfl,cg h]
 ·rw[if_neg hh,cP fun e=>hh e.symm]
theorem aw{a:Act}{t:Nat}:a.eval (.tmp t)=a.tmps.getD t undef:=rfl
theorem bD{a:Act}{v:Value}:a.eval (.const v)=v:=rfl
theorem AU{a:Act}{f:Nat}:a.eval (.func f)=.func (.func f) #[] #[]:=rfl
section
variable{P:Program}{ro:Option Nat}{nn:Nat}{ops:Array Oper}{rest:List Oper}{a:Act}{w:World}{Q:Exit->Act->World->Prop}{d:Option Nat}{x:Operand}{y:TypeId}{p:String}{fs:Array Edge}
theorem cb(h:wpListIn (FW ro) nn P ops Q rest (a.put d (a.eval x)) w):wpListIn (FW ro) nn P ops Q (⟨d,.move x,y,p,fs,none⟩::rest) a w:=by
 refine ge (K:=fun v w'=>v=a.eval x/\w=w') rfl (cl.value (v:=a.eval x) (w':=w) rfl ⟨rfl,rfl⟩) ?_
 rintro _ _ ⟨rfl,rfl⟩
 exact h
theorem bF(h:wpListIn (FW ro) nn P ops Q rest (a.put d (a.eval x)) w):wpListIn (FW ro) nn P ops Q (⟨d,.assign x,y,p,fs,none⟩::rest) a w:=by
 refine ge (K:=fun v w'=>v=a.eval x/\w=w') rfl (cl.value (v:=a.eval x) (w':=w) rfl ⟨rfl,rfl⟩) ?_
 rintro _ _ ⟨rfl,rfl⟩
 exact h
theorem cT(h:Q .normal a w):wpListIn (FW ro) nn P ops Q [] a w:=h
end
theorem wK{P:Program}{f g:Nat}{fn:Func}(hfn:P.funcs[f]?=some fn){i0 i1:Nat}{R0 R1:Array Oper}(hbody:fn.body=some (.seq (.region i0 R0 false) (.seq (.region i1 R1 false) .ret)))(hnt:fn.ntmps=5)(hres:fn.results=#[.tmp 2])
  {y2 y3 y4 y5:TypeId} {p2 p3 p4 p5:String} {f2 f3 f4 f5:Array Edge} {ats:Array TypeId} (hR0:R0.toList=[⟨some 2,.assign (.const (.slice none 0 0)),y2,p2,f2,none⟩])
  (hR1:R1.toList=[⟨some 3,.move (.tmp 0),y3,p3,f3,none⟩,⟨some 4,.call ⟨.value (.func g),#[.const (.slice none 0 0),.tmp 3],ats⟩,y4,p4,f4,none⟩,⟨some 2,.assign (.tmp 4),y5,p5,f5,none⟩])
  (hg : ∃ fn, P.funcs[g]? = some fn /\ (fn.name == "runtime.NumGoroutine") = false /\ fn.body.isSome = true) {fv : Value} {R : Value -> World -> Prop} {W0 : World} (hc : Calls P g #[.slice none 0 0, fv] W0 fun en W' => ∃ v, en = .returned v /\ R v W') :
  Calls P f #[fv] W0 fun en W'=>∃ v,en=.returned v/\R v W':=by
 refine cF hfn hbody ?_
 generalize ha0:Act.mk _ _=a0
 have hsz0:a0.tmps.size=5:=by rw[<-ha0];simp[hnt]
 have e0:a0.tmps.getD 0 undef=fv:=by rw[<-ha0,hnt];rfl
 have hd0:a0.defers=[]:=by rw[<-ha0]
 clear ha0
 refine wpIn_seq (wpIn_region_list ?_)
 rw[hR0]
 refine bF (cT ?_)
 refine wpIn_seq (wpIn_region_list ?_)
 rw[hR1]
 refine cb (kg hg _ ?_ hc fun v w1 hv=>bF (cT ?_))
 ·simp only[List.map_toArray,List.map_cons,List.map_nil,aw,bD,aq,ak,hsz0,e0,reduceIte,Nat.reduceLT,Nat.reduceEqDiff]
 ·refine wpIn_ret ⟨by simp only[aI,hd0],v,(results_tmp hres _ _ _).trans ?_,v,rfl,hv⟩
  simp only[aw,bD,aq,ak,hsz0,e0,reduceIte,Nat.reduceLT,Nat.reduceEqDiff]
theorem ym(hE:EnvOk Tryz.prog (fl lp call)){l:List D}(hwt:∀ x∈l,wt K1 x)(hlen:l.length<=1073741824){lb:Array Value}(hIt:BW Tryz.prog r K1 l 151 lb){W0:World}(h0:cY r W0) :
  Calls Tryz.prog 149 #[.func (.func 151) #[] lb] W0 fun en W'=>∃ v,en=.returned v/\nv r K1 l v W':=
 wK (fn:=Tryz.f149) (by kernel_rfl) rfl rfl rfl rfl rfl Hs (callsIn_wide.1 (tC hE (nn:=0) hwt hlen hIt h0))
end
end Go.Proofs.YtjjjkojfijpeeaaGreat.Sy
end
