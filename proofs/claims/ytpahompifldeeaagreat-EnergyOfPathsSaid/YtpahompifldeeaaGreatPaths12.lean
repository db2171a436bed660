/- Part 12 of the proof that EnergyOfPaths answers true at every input -/
import Derived.Test.YtpahompifldeeaaGreatPaths01
import Derived.Test.YtpahompifldeeaaGreatPaths11
set_option linter.unusedVariables false
set_option linter.unusedSimpArgs false
set_option linter.unnecessarySimpa false
set_option maxRecDepth 20000
namespace Go.Proofs.YtpahompifldeeaaGreat
noncomputable section
namespace Sy
open Go Go.Proofs Geo
abbrev FL:=List ((V×Int)×List Nat)
def aq(L:FL):List D:=L.map fun f=>re f.1 f.2
theorem aG(L:FL):(aq L).length=L.length:=List.length_map ..
theorem dH{L:FL}{i:Nat}(h:i<L.length):(aq L)[i]?=some (re L[i].1 L[i].2):=by simp[aq,h]
theorem Ii(n:Nat)(L:FL)(m:V)(hL:L.length<=3000000):cA (n+1) 108 [.sl (aq L),af m]=some (.bool (L.any fun f=>decide (f.1.1=m))):=by
 rw[O8]
 unfold CV
 refine ba (fun i s=>s=[I (i:Int)]/\(L.take i).any (fun f=>decide (f.1.1=m))=false) L.length 0 (Nat.zero_le _) ⟨rfl,by simp⟩ (fun i hi s hJ=>?_) (fun s hJ=>?_)
 ·obtain⟨rfl,hz⟩:=hJ
  by_cases he:L[i].1.1=m
  ·right
   refine⟨(0,[.bool true]),?_,?_⟩
   ·refine aa (z:=aq L) rfl (aa ah (aa ae (aH (by show((i:Int)<((aq L).length:Int));rw[aG];omega) ?_)))
    refine aa (z:=aq L) rfl (aa (z:=i) (by rw[aG];exact ao hi) (aa (dH hi) (aa (z:=af L[i].1.1) rfl ?_)))
    rw[gl]
    exact aa ae (aH he rfl)
   ·have:L.any (fun f=>decide (f.1.1=m))=true:=List.any_eq_true.2 ⟨L[i],List.getElem_mem hi,by simpa using he⟩
    simp[this,g0]
  ·left
   refine⟨[I ((i+1:Nat):Int)],?_,rfl,?_⟩
   ·refine aa (z:=aq L) rfl (aa ah (aa ae (aH (by show((i:Int)<((aq L).length:Int));rw[aG];omega) ?_)))
    refine aa (z:=aq L) rfl (aa (z:=i) (by rw[aG];exact ao hi) (aa (dH hi) (aa (z:=af L[i].1.1) rfl ?_)))
    rw[gl]
    exact aa ae (aD he (aa (av (ar (i:=i) (by omega))) rfl))
   ·rw[List.take_succ_eq_append_getElem hi,List.any_append,hz];simp[he]
 ·obtain⟨rfl,hz⟩:=hJ
  rw[List.take_length] at hz
  refine⟨(1,[]),?_,by simp[hz]⟩
  exact aa (z:=aq L) rfl (aa ah (aa ae (aD (by show ¬ ((L.length:Int)<((aq L).length:Int));rw[aG];omega) rfl)))
def eY(f:(V×Int)×List Nat):FL->FL
 | []=>[f]
 | x::L=>if az f.1.1 x.1.1 then f::x::L else x::eY f L
theorem NU(n:Nat)(L:FL)(f:(V×Int)×List Nat)(hL:L.length<=3000000):cA (n+2) 110 [.sl (aq L),re f.1 f.2]=some (.sl (aq (eY f L))):=by
 rw[Pa]
 unfold CX
 have app:∀ (o:FL) (x:(V×Int)×List Nat),aq o++[re x.1 x.2]=aq (o++[x]):=fun o x=>by simp[aq]
 refine ba (fun i s=>∃ (out:FL) (put:Bool),s=[.sl (aq out),.bool put,I (i:Int)]/\out.length<=2*i/\(put=false->eY f L=out++eY f (L.drop i))/\(put=true->eY f L=out++L.drop i)) L.length 0 (Nat.zero_le _) ⟨[],false,rfl,by simp,by simp,by simp⟩ (fun i hi s hJ=>?_) (fun s hJ=>?_)
 ·obtain⟨out,put,rfl,hol,h1,h2⟩:=hJ
  left
  have hd:L.drop i=L[i]::L.drop (i+1):=List.drop_eq_getElem_cons hi
  have hc:=GF n f.1.1 L[i].1.1
  obtain⟨o,p,he,ho,q1,q2⟩:∃ o p,(if put=false/\az f.1.1 L[i].1.1 then(out++[f],true) else(out,put))=(o,p)/\o.length<=2*i+1/\(p=false->eY f L=o++L[i]::eY f (L.drop (i+1)))/\(p=true->eY f L=o++L[i]::L.drop (i+1)):=by
   by_cases hput:put=false/\az f.1.1 L[i].1.1
   ·refine⟨_,_,if_pos hput,by simp;omega,by simp,fun _=>?_⟩
    rw[h1 hput.1,hd];simp[eY,hput.2]
   ·refine⟨_,_,if_neg hput,by omega,fun hp=>?_,fun hp=>?_⟩
    ·have hnl:¬ az f.1.1 L[i].1.1:=fun h=>hput ⟨hp,h⟩
     rw[h1 hp,hd];simp[eY,hnl]
    ·rw[h2 hp,hd]
  refine⟨[.sl (aq (o++[L[i]])),.bool p,I ((i+1:Nat):Int)],?_,o++[L[i]],p,rfl,by simp;omega,fun hp=>by rw[q1 hp];simp,fun hp=>by rw[q2 hp];simp⟩
  refine aa (z:=aq L) rfl (aa ah (aa ae (aH (by show((i:Int)<((aq L).length:Int));rw[aG];omega) ?_)))
  refine aa (z:=af f.1.1) rfl (aa (z:=aq L) rfl (aa (z:=i) (by rw[aG];exact ao hi) (aa (dH hi) (aa (z:=af L[i].1.1) rfl (aa hc ?_)))))
  refine aa (z:=(0,[.sl (aq o),.bool p])) ?_ ?_
  ·refine aa (z:=.bool (!put)) rfl (aa (z:=!put) rfl (aa (z:=!put&&decide (az f.1.1 L[i].1.1)) ?_ (aa (z:=!put&&decide (az f.1.1 L[i].1.1)) rfl ?_)))
   ·cases put
    ·exact ae
    ·rfl
   ·by_cases hput:put=false/\az f.1.1 L[i].1.1
    ·rw[if_pos hput] at he
     obtain⟨rfl,hlt⟩:=hput
     cases he
     rw[show(!false&&decide (az f.1.1 L[i].1.1))=true by simp[hlt],if_pos rfl,if_pos (by simp only[g0,D.els,aG,List.length_cons,List.length_nil];omega)]
     simp only[g0,D.els,app]
    ·rw[if_neg hput] at he
     cases he
     rw[show(!put&&decide (az f.1.1 L[i].1.1))=false by
      cases put
      ·simpa using hput
      ·rfl]
     rfl
  ·refine aa (z:=aq L) rfl (aa (z:=i) (by rw[aG];exact ao hi) (aa (dH hi) ?_))
   rw[if_pos (by simp only[g0,D.els,aG,List.length_cons,List.length_nil];omega)]
   refine aa (av (ar (i:=i) (by omega))) ?_
   simp only[g0,g1,D.els,app]
   rfl
 ·obtain⟨out,put,rfl,hol,h1,h2⟩:=hJ
  refine⟨(0,[.sl (aq out),.bool put]),?_,?_⟩
  ·exact aa (z:=aq L) rfl (aa ah (aa ae (aD (by show ¬ ((L.length:Int)<((aq L).length:Int));rw[aG];omega) rfl)))
  ·cases put
   ·have:=h1 rfl
    rw[List.drop_length] at this
    rw[this]
    refine aa (z:=(0,[.sl (aq (out++[f]))])) ?_ rfl
    refine aa (z:=.bool true) rfl (aa (z:=true) rfl ?_)
    rw[if_pos rfl,if_pos (by simp only[g0,D.els,aG,List.length_cons,List.length_nil];omega)]
    simp only[g0,D.els,app]
   ·have:=h2 rfl
    rw[List.drop_length,List.append_nil] at this
    rw[this]
    rfl
end Sy
end
noncomputable section
namespace Sy
open Go Go.Proofs Geo
def fU(l:List V)(m:V)(a b x:Nat):Bool:=
 decide (0<=T m (wy (pt l) a b) (wy (pt l) a x))&&(!decide (T m (wy (pt l) a b) (wy (pt l) a x)=0)||(decide (0<=V.dot (wy (pt l) a x) (wy (pt l) a b))&&decide (V.dot (wy (pt l) a x) (wy (pt l) a b)<=V.dot (wy (pt l) a b) (wy (pt l) a b))))
theorem xN{l:List V}{m:V}{a b x:Nat}:fU l m a b x=true↔(0<=T m (wy (pt l) a b) (wy (pt l) a x)/\(T m (wy (pt l) a b) (wy (pt l) a x)=0->0<=V.dot (wy (pt l) a x) (wy (pt l) a b)/\V.dot (wy (pt l) a x) (wy (pt l) a b)<=V.dot (wy (pt l) a b) (wy (pt l) a b))):=by
 simp only[fU,Bool.and_eq_true,Bool.or_eq_true,Bool.not_eq_true',decide_eq_true_eq,decide_eq_false_iff_not]
 by_cases h:T m (wy (pt l) a b) (wy (pt l) a x)=0<;>simp[h]
def sQ(l:List V)(m:V)(d:Int)(a b:Nat):Bool:=(br (pt l) l.length m d).all fun x=>fU l m a b x
theorem sR{l:List V}{m:V}{d:Int}{a b:Nat}(hb:b∈br (pt l) l.length m d)(hne:b≠a):sQ l m d a b=true↔Side m (pt l) (br (pt l) l.length m d) a b:=by
 simp only[sQ,List.all_eq_true,xN]
 exact⟨fun h=>⟨hb,hne,h⟩,fun h=>h.all⟩
theorem N7(n:Nat){l:List V}(hl:∀ x∈l,bd MV x)(hlen:l.length<=100){m:V}{d:Int}(hm0:m≠V.zero)(hm:bd 549755813888 m){a b:Nat}(ha:a<l.length)(hb:b<l.length)(hda:V.dot m (pt l a)=d)(hdb:V.dot m (pt l b)=d) :
  cA (n+3) 156 [aN l,af m,I d,af (pt l a),af (pt l b)]=some (.bool (sQ l m d a b)):=by
 rw[PK]
 unfold Du
 have w1:bd 524288 (wy (pt l) a b):=gT (hl _ (bL ha)) (hl _ (bL hb))
 refine aa (z:=af (wy (pt l) a b)) (tn (n+1) (hl _ (bL hb)) (hl _ (bL ha)) (by decide)) ?_
 have ll:(l.map af).length=l.length:=List.length_map ..
 have hmb:V.dot m (wy (pt l) a b)=0:=by rw[nh,hda,hdb];omega
 refine ba (fun i s=>s=[I (i:Int)]/\(br (pt l) i m d).all (fun x=>fU l m a b x)=true) l.length 0 (Nat.zero_le _) ⟨rfl,by simp[br]⟩ (fun i hi s hJ=>?_) (fun s hJ=>?_)
 ·obtain⟨rfl,hz⟩:=hJ
  have hc:=wV (n+1) hm (hl _ (bL hi)) (by decide)
  by_cases hon:V.dot m (pt l i)=d
  ·have w2:bd 524288 (wy (pt l) a i):=gT (hl _ (bL ha)) (hl _ (bL hi))
   have hmi:V.dot m (wy (pt l) a i)=0:=by rw[nh,hda,hon];omega
   have c1:=tn (n+1) (hl _ (bL hi)) (hl _ (bL ha)) (by decide)
   have c2:=Io (n+1) w1 w2 (by decide)
   have c3:=Of n m (V.cross (wy (pt l) a b) (wy (pt l) a i))
   rw[yM hm0 (rK hmb hmi)] at c3
   have c4:=wV (n+1) w2 w1 (by decide)
   have c5:=wV (n+1) w1 w1 (by decide)
   have step:∀ (y:Nat×List D),y=(if fU l m a b i then(0,[]) else(1,[D.bool false]))->(Option.bind (D.asSl (aN l)) fun l6=>Option.bind (D.idx (I (i:Int)) (List.length l6)) fun i7=>
     Option.bind (l6[i7]?) fun x8=>Option.bind (cA (n+2) 107 [af m,x8]) fun r9=>Option.bind (D.truth (D.bool (!(D.beq r9 (I d))))) fun b10=>
     if b10 then(some ((0:Nat),([]:List D))) else(Option.bind (D.asSl (aN l)) fun l11=>Option.bind (D.idx (I (i:Int)) (List.length l11)) fun lg=>
     Option.bind (l11[lg]?) fun x13=>Option.bind (cA (n+2) 112 [x13,af (pt l a)]) fun r14=>Option.bind (cA (n+2) 123 [af (wy (pt l) a b),r14]) fun r15=>Option.bind (cA (n+2) 188 [af m,r15]) fun r16=>
     Option.bind (D.bin .lss r16 (D.int .i64 0)) fun x17=>Option.bind (D.truth x17) fun b18=>
     Option.bind (if b18 then(some true) else(Option.bind (D.truth (D.bool (D.beq r16 (D.int .i64 0)))) fun b19=>
     if b19 then(Option.bind (cA (n+2) 107 [r14,af (wy (pt l) a b)]) fun r20=>Option.bind (D.bin .lss r20 (D.int .i64 0)) fun x21=>Option.bind (D.truth x21) fun b22=>
     if b22 then(some true) else(Option.bind (cA (n+2) 107 [r14,af (wy (pt l) a b)]) fun r23=>Option.bind (cA (n+2) 107 [af (wy (pt l) a b),af (wy (pt l) a b)]) fun r24=>
     Option.bind (D.bin .gtr r23 r24) fun x25=>D.truth x25)) else(some false))) fun b26=>Option.bind (D.truth (D.bool b26)) fun b27=>
     if b27 then(some (1,[(D.bool false)])) else(some (0,[]))))=some y:=by
    intro y hy
    refine aa (z:=l.map af) rfl (aa (z:=i) (by rw[ll];exact ao hi) (aa (co hi) (aa hc (aa (z:=false) ?_ ?_))))
    ·rw[bk,show V.dot m (l.getD i V.zero)=d from hon];simp[D.truth]
    rw[if_neg (by decide)]
    refine aa (z:=l.map af) rfl (aa (z:=i) (by rw[ll];exact ao hi) (aa (co hi) (aa (z:=af (wy (pt l) a i)) c1 (aa c2 (aa c3 (aa ah (aa ae ?_)))))))
    rw[hy]
    have e:V.dot m (V.cross (wy (pt l) a b) (wy (pt l) a i))=T m (wy (pt l) a b) (wy (pt l) a i):=rfl
    rw[e]
    refine aa (z:=!fU l m a b i) ?_ ?_
    ·by_cases t1:T m (wy (pt l) a b) (wy (pt l) a i)<0
     ·rw[G6 (Cf.2 t1)]
      have:¬ (0<=T m (wy (pt l) a b) (wy (pt l) a i)):=by omega
      simp[fU,this]
     ·rw[G7 (fun h=>t1 (Cf.1 h))]
      have t1':0<=T m (wy (pt l) a b) (wy (pt l) a i):=by omega
      by_cases t2:T m (wy (pt l) a b) (wy (pt l) a i)=0
      ·refine aa (z:=true) (by rw[bk,decide_eq_true (uk.2 t2)];rfl) ?_
       rw[if_pos rfl]
       refine aa c4 (aa ah (aa ae ?_))
       by_cases t3:V.dot (wy (pt l) a i) (wy (pt l) a b)<0
       ·rw[G6 t3]
        have:¬ (0<=V.dot (wy (pt l) a i) (wy (pt l) a b)):=by omega
        simp[fU,t2,this]
       ·rw[G7 t3]
        refine aa c4 (aa c5 (aa bS ?_))
        rw[ae]
        have t3':0<=V.dot (wy (pt l) a i) (wy (pt l) a b):=by omega
        simp only[fU,t2,t3',decide_true,Bool.true_and,Bool.not_true,Bool.false_or,Int.le_refl]
        by_cases t4:V.dot (wy (pt l) a i) (wy (pt l) a b)<=V.dot (wy (pt l) a b) (wy (pt l) a b)
        ·have:¬ (V.dot (wy (pt l) a i) (wy (pt l) a b)>V.dot (wy (pt l) a b) (wy (pt l) a b)):=by omega
         simp[t4,this]
        ·have:(V.dot (wy (pt l) a i) (wy (pt l) a b)>V.dot (wy (pt l) a b) (wy (pt l) a b)):=by omega
         simp[t4,this]
      ·refine aa (z:=false) (by rw[bk,decide_eq_false (fun h=>t2 (uk.1 h))];rfl) ?_
       simp[fU,t2,t1']
    ·refine aa ae ?_
     cases fU l m a b i<;>rfl
   cases hk:fU l m a b i
   ·right
    rw[hk] at step
    refine⟨(0,[.bool false]),?_,?_⟩
    ·exact aa (z:=l.map af) rfl (aa ah (aa ae (aH (by show((i:Int)<((l.map af).length:Int));rw[ll];omega) (aa (step _ rfl) rfl))))
    ·have:sQ l m d a b=false:=by
      rw[Bool.eq_false_iff];intro h
      have:=List.all_eq_true.1 h i (ca.2 ⟨hi,hon⟩)
      rw[hk] at this;exact absurd this (by decide)
     rw[this];rfl
   ·left
    rw[hk] at step
    refine⟨[I ((i+1:Nat):Int)],?_,rfl,?_⟩
    ·exact aa (z:=l.map af) rfl (aa ah (aa ae (aH (by show((i:Int)<((l.map af).length:Int));rw[ll];omega) (aa (step _ rfl) (by rw[if_pos rfl,if_pos rfl];exact aa (av (ar (i:=i) (by omega))) rfl)))))
    ·rw[iD,if_pos hon,List.all_append,hz];simp[hk]
  ·left
   refine⟨[I ((i+1:Nat):Int)],?_,rfl,?_⟩
   ·refine aa (z:=l.map af) rfl (aa ah (aa ae (aH (by show((i:Int)<((l.map af).length:Int));rw[ll];omega) (aa (z:=(0,[])) ?_ (by rw[if_pos rfl];exact aa (av (ar (i:=i) (by omega))) rfl)))))
    refine aa (z:=l.map af) rfl (aa (z:=i) (by rw[ll];exact ao hi) (aa (co hi) (aa hc (aa (z:=true) ?_ rfl))))
    rw[bk,decide_eq_false (show ¬ V.dot m (l.getD i V.zero)=d from hon)];rfl
   ·rw[iD,if_neg hon];exact hz
 ·obtain⟨rfl,hz⟩:=hJ
  refine⟨(1,[]),?_,?_⟩
  ·exact aa (z:=l.map af) rfl (aa ah (aa ae (aD (by show ¬ ((l.length:Int)<((l.map af).length:Int));rw[ll];omega) rfl)))
  ·have:sQ l m d a b=true:=hz
   rw[this];rfl
end Sy
end
noncomputable section
namespace Sy
open Go Go.Proofs Geo
theorem yP{body:Bd}{s0:List D}{r:Nat×List D}(h:Option.bind (aP body s0) some=some r):aP body s0=some r:=by
 cases hb:aP body s0 with
 | none=>rw[hb] at h;cases h
 | some z=>rw[hb] at h;exact h
theorem BS{P:Nat->V}{m:V}{d:Int}{i N a:Nat}(h:(br P i m d).head?=some a)(hi:i<=N):(br P N m d).head?=some a:=by
 induction N with
 | zero=>
      have:i=0:=by omega
      subst this;exact h
 | succ N ih=>
  by_cases e:i=N+1
  ·rw[<-e];exact h
  ·have:=ih (by omega)
   rw[iD]
   split
   ·rw[List.head?_append,this];rfl
   ·exact this
theorem n8{body:Bd}{S:Nat->Nat->Prop}{a M:Nat}{G:Nat->Prop}(hS:∀ c b,G c->S c b->G b)
  (hstep:∀ (c b:Nat) (out:List Nat),G c->S c b->b≠a->out.length<=M->body [.sl (ag out),I (c:Int)]=some (.inl [.sl (ag (out++[c])),I (b:Int)]))
  (hend:∀ (c:Nat) (out:List Nat),G c->S c a->out.length<=M->body [.sl (ag out),I (c:Int)]=some (.inr (0,[.sl (ag (out++[c]))]))) :
  ∀ {c:Nat} {p:List Nat},Chain S a c p->G c->∀ out:List Nat,(out++p).length<=M->aP body [.sl (ag out),I (c:Int)]=some (0,[.sl (ag (out++p))])
 | c,_,.done s,hc,out,hl=>cl (hend c out hc s (by simp at hl;omega))
 | c,_,.step (y:=y) (l:=p) s hy k,hc,out,hl=>by
  have h1:=hstep c y out hc s hy (by simp at hl;omega)
  rw[show aP body [.sl (ag out),I (c:Int)]=aP body [.sl (ag (out++[c])),I (y:Int)] from cJ h1]
  have:=n8 hS hstep hend k (hS c y hc s) (out++[c]) (by simpa using hl)
  rw[this];simp
theorem I3(n:Nat){l:List V}(hl:∀ x∈l,bd MV x)(hlen:l.length<=100)(hs:AX l){m:V}{d:Int}(hF:IsF (pt l) l.length m d)(hm:bd 549755813888 m){p:List Nat}(hp:cb (pt l) l.length m d p) :
  cA (n+4) 111 [aN l,af m,I d]=some (.sl (ag p)):=by
 have F:=hF.flat hs
 obtain⟨p',hp',hnd,hmem⟩:=hF.poly hs
 have e:=cb.eq hs hF hp hp'
 subst e
 obtain⟨a,ha1,hch⟩:=hp
 have ha:a∈br (pt l) l.length m d:=List.mem_of_mem_head? (by rw[ha1];rfl)
 have hlt:∀ k∈br (pt l) l.length m d,k<l.length:=fun k hk=>(ca.1 hk).1
 have hdk:∀ k∈br (pt l) l.length m d,V.dot m (pt l k)=d:=fun k hk=>(ca.1 hk).2
 have honl:(br (pt l) l.length m d).length<=l.length:=by
  unfold br
  exact Nat.le_trans (List.length_filter_le _ _) (by rw[List.length_range];omega)
 have hpl:p.length<=l.length:=Nat.le_trans (List.Nodup.length_le_of_subset hnd fun z hz=>((hmem z).1 hz).1) honl
 have ll:(l.map af).length=l.length:=List.length_map ..
 rw[Pb]
 unfold CY
 have hdot:=fun(i:Nat) (hi:i<l.length)=>wV (n+2) hm (hl _ (bL hi)) (by decide)
 refine aa (z:=(0,[.sl [],I (a:Int)])) ?_ ?_
 ·refine yP (dn (fun i s=>s=[.sl [],ic ((br (pt l) i m d).head?),I (i:Int)]) l.length 0 (Nat.zero_le _) rfl (fun i hi s hJ=>?_) (fun s hJ=>?_))
  ·subst hJ
   cases hh:(br (pt l) i m d).head? with
   | some a'=>
    right
    have:=BS hh (Nat.le_of_lt hi)
    rw[ha1] at this;cases this
    refine⟨(0,[.sl [],I (a:Int)]),?_,rfl⟩
    refine aa (z:=l.map af) rfl (aa ah (aa ae (aa (z:=false) (aH (by show((i:Int)<((l.map af).length:Int));rw[ll];omega) ?_) (aa ae ?_))))
    ·refine aa ah ?_
     rw[decide_eq_false (by omega)];rfl
    ·rfl
   | none=>
    left
    have hnil:br (pt l) i m d=[]:=by simpa using hh
    refine⟨[.sl [],ic ((br (pt l) (i+1) m d).head?),I ((i+1:Nat):Int)],?_,rfl⟩
    refine aa (z:=l.map af) rfl (aa ah (aa ae (aa (z:=true) (aH (by show((i:Int)<((l.map af).length:Int));rw[ll];omega) (aa (ah (a:=-1) (b:=0)) rfl)) (aa ae ?_))))
    rw[if_pos rfl]
    refine aa (z:=(0,[.sl [],ic ((br (pt l) (i+1) m d).head?)])) ?_ (aa (av (ar (i:=i) (by omega))) rfl)
    refine aa (z:=l.map af) rfl (aa (z:=i) (by rw[ll];exact ao hi) (aa (co hi) (aa (hdot i hi) ?_)))
    rw[bk,iD,hnil]
    by_cases hon:V.dot m (pt l i)=d
    ·rw[if_pos hon,decide_eq_true (show V.dot m (l.getD i V.zero)=d from hon)];rfl
    ·rw[if_neg hon,decide_eq_false (show ¬ V.dot m (l.getD i V.zero)=d from hon)];rfl
  ·subst hJ
   rw[ha1]
   refine⟨(0,[.sl [],I (a:Int)]),?_,rfl⟩
   refine aa (z:=l.map af) rfl (aa ah (aa ae (aa (z:=false) (aD (by show ¬ ((l.length:Int)<((l.map af).length:Int));rw[ll];omega) rfl) (aa ae rfl))))
 ·refine aa (z:=(0,[.sl (ag ([]++p))])) ?_ rfl
  refine n8 (M:=l.length) (G:=fun c=>c∈br (pt l) l.length m d) (fun c b hc hb=>hb.mem) (fun c b out hc hb hba hol=>?_) (fun c out hc hb hol=>?_) hch ha [] (by simpa using hpl)
  all_goals
   obtain⟨b',hbb,hb'⟩:∃ b',(b'=a\/b'≠a)/\Side m (pt l) (br (pt l) l.length m d) c b':=by first|exact⟨_,Classical.em _,hb⟩
   refine aa (z:=l.map af) rfl (aa pm (aa ae (aH (by show(((ag out).length:Int)<=((l.map af).length:Int));rw[ll,aj];omega) ?_)))
   rw[if_pos (by simp only[g0,D.els,aj,List.length_cons,List.length_nil];omega)]
   have happ:ag out++[I (c:Int)]=ag (out++[c]):=by simp[ag]
   have hbl:=hlt b' hb'.mem
   refine aa (z:=(0,[.sl (ag (out++[c])),I (b':Int)])) ?_ ?_
   ·refine yP (dn (fun i s=>s=[.sl (ag (out++[c])),ic (if b'<i then some b' else none),I (i:Int)]) l.length 0 (Nat.zero_le _) (by simp[g0,g1,D.els,happ,ic]) (fun i hi s hJ=>?_) (fun s hJ=>?_))
    ·subst hJ
     by_cases hbi:b'<i
     ·right
      rw[if_pos hbi]
      refine⟨(0,[.sl (ag (out++[c])),I (b':Int)]),?_,rfl⟩
      refine aa (z:=l.map af) rfl (aa ah (aa ae (aa (z:=false) (aH (by show((i:Int)<((l.map af).length:Int));rw[ll];omega) ?_) (aa ae ?_))))
      ·refine aa ah ?_
       rw[decide_eq_false (by omega)];rfl
      ·rfl
     ·left
      rw[if_neg hbi]
      refine⟨[.sl (ag (out++[c])),ic (if b'<i+1 then some b' else none),I ((i+1:Nat):Int)],?_,rfl⟩
      refine aa (z:=l.map af) rfl (aa ah (aa ae (aa (z:=true) (aH (by show((i:Int)<((l.map af).length:Int));rw[ll];omega) (aa (ah (a:=-1) (b:=0)) rfl)) (aa ae ?_))))
      rw[if_pos rfl]
      refine aa (z:=(0,[.sl (ag (out++[c])),ic (if b'<i+1 then some b' else none)])) ?_ (aa (av (ar (i:=i) (by omega))) rfl)
      have hcl:=hlt c hc
      by_cases hon:i≠c/\V.dot m (pt l i)=d
      ·have hion:i∈br (pt l) l.length m d:=ca.2 ⟨hi,hon.2⟩
       refine aa (z:=true) (by show D.truth (D.bool (!(D.beq (I (i:Int)) (I (c:Int)))))=_;rw[bP,decide_eq_false hon.1];rfl) (aa (z:=true) ?_ (aa ae ?_))
       ·rw[if_pos rfl]
        refine aa (z:=l.map af) rfl (aa (z:=i) (by rw[ll];exact ao hi) (aa (co hi) (aa (hdot i hi) ?_)))
        rw[bk,decide_eq_true (show V.dot m (l.getD i V.zero)=d from hon.2)];rfl
       ·rw[if_pos rfl]
        refine aa (z:=l.map af) rfl (aa (z:=c) (by rw[ll];exact ao hcl) (aa (co hcl) (aa (z:=l.map af) rfl (aa (z:=i) (by rw[ll];exact ao hi) (aa (co hi) (aa (N7 n hl hlen hF.nz.1 hm hcl hi (hdk c hc) hon.2) (aa ae ?_)))))))
        by_cases hib:i=b'
        ·subst hib
         rw[(sR hion hon.1).2 hb',if_pos rfl,if_pos (by omega)];rfl
        ·have:sQ l m d c i=false:=by
          rw[Bool.eq_false_iff];intro h
          exact hib (Side.unique F hc ((sR hion hon.1).1 h) hb')
         rw[this,if_neg (show ¬ b'<i+1 by omega)];rfl
      ·have hib:i≠b':=fun e=>hon (by subst e;exact⟨hb'.ne,hdk _ hb'.mem⟩)
       rw[if_neg (show ¬ b'<i+1 by omega)]
       by_cases hic:i=c
       ·subst hic
        refine aa (z:=false) (by show D.truth (D.bool (!(D.beq (I (i:Int)) (I (i:Int)))))=_;rw[bP,decide_eq_true rfl];rfl) (aa (z:=false) rfl (aa ae rfl))
       ·have hnd:¬ V.dot m (l.getD i V.zero)=d:=fun h=>hon ⟨hic,h⟩
        refine aa (z:=true) (by show D.truth (D.bool (!(D.beq (I (i:Int)) (I (c:Int)))))=_;rw[bP,decide_eq_false hic];rfl) (aa (z:=false) ?_ (aa ae rfl))
        rw[if_pos rfl]
        refine aa (z:=l.map af) rfl (aa (z:=i) (by rw[ll];exact ao hi) (aa (co hi) (aa (hdot i hi) ?_)))
        rw[bk,decide_eq_false hnd];rfl
    ·subst hJ
     rw[if_pos hbl]
     refine⟨(0,[.sl (ag (out++[c])),I (b':Int)]),?_,rfl⟩
     exact aa (z:=l.map af) rfl (aa ah (aa ae (aa (z:=false) (aD (by show ¬ ((l.length:Int)<((l.map af).length:Int));rw[ll];omega) rfl) (aa ae rfl))))
   ·have hu:=Side.unique F hc hb hb'
    subst hu
    first
     | exact aa (z:=true) (by show D.truth (D.bool (D.beq (I (_:Int)) (I (_:Int))))=_;rw[bP,decide_eq_true rfl];rfl) (aa (z:=true) rfl (aa ae rfl))
     | exact aa (z:=false) (by show D.truth (D.bool (D.beq (I (_:Int)) (I (_:Int))))=_;rw[bP,decide_eq_false hba];rfl) (aa (z:=false) (by rw[if_neg (by decide)];refine aa ah ?_;rw[decide_eq_false (by omega)];rfl) (aa ae rfl))
end Sy
end
noncomputable section
namespace Sy
open Go Go.Proofs Geo
def aR:List Nat->Nat
 | []=>0
 | d::l=>d+65536*aR l
def dl(l:List Nat):Prop:=∀ d∈l,d<65536
theorem dl.cons{d:Nat}{l:List Nat}(hd:d<65536)(h:dl l):dl (d::l):=fun x hx=>by
 rcases List.mem_cons.1 hx with rfl|hx
 ·exact hd
 ·exact h x hx
theorem dl.append{a b:List Nat}(ha:dl a)(hb:dl b):dl (a++b):=fun x hx=>by
 rcases List.mem_append.1 hx with hx|hx
 ·exact ha x hx
 ·exact hb x hx
theorem dl.getD{l:List Nat}(h:dl l)(i:Nat):l.getD i 0<65536:=by
 simp only[List.getD]
 cases hi:l[i]? with
 | none=>simp
 | some x=>exact h x (List.mem_of_getElem? hi)
def ay(m:Nat):List Nat:=if h:m=0 then[] else m%65536::ay (m/65536)
termination_by m
decreasing_by omega
theorem bO:ay 0=[]:=by unfold ay;simp
theorem gm{m:Nat}(h:m≠0):ay m=m%65536::ay (m/65536):=by rw[ay,dif_neg h]
theorem rL{d v:Nat}(hd:d<65536)(h:d+65536*v≠0):ay (d+65536*v)=d::ay v:=by
 rw[gm h,show(d+65536*v)%65536=d by omega,show(d+65536*v)/65536=v by omega]
theorem ap(m:Nat):aR (ay m)=m:=by
 induction m using Nat.strongRecOn with
 | _ m ih=>
  by_cases h:m=0
  ·subst h;rw[bO];rfl
  ·rw[gm h,aR,ih _ (by omega)];omega
theorem aT(m:Nat):dl (ay m):=by
 induction m using Nat.strongRecOn with
 | _ m ih=>
  by_cases h:m=0
  ·subst h;rw[bO];intro d hd;cases hd
  ·rw[gm h];exact dl.cons (by omega) (ih _ (by omega))
theorem pK{m:Nat}:ay m=[]↔m=0:=by
 constructor
 ·intro h;have:=ap m;rw[h] at this;exact this.symm
 ·rintro rfl;exact bO
theorem m9(i:Nat):∀ m,(ay m).getD i 0=m/65536^i%65536:=by
 induction i with
 | zero=>
  intro m
  by_cases h:m=0
  ·subst h;rw[bO];simp
  ·rw[gm h];simp
 | succ i ih=>
  intro m
  by_cases h:m=0
  ·subst h;rw[bO];simp
  ·rw[gm h]
   show(ay (m/65536)).getD i 0=_
   rw[ih,Nat.div_div_eq_div_mul,Nat.pow_succ,Nat.mul_comm 65536]
theorem bg(k:Nat):∀ m,m<65536^k->(ay m).length<=k:=by
 induction k with
 | zero=>
      intro m h;have:m=0:=by simpa using h
      subst this;rw[bO];simp
 | succ k ih=>
  intro m h
  by_cases h0:m=0
  ·subst h0;rw[bO];simp
  ·rw[gm h0,List.length_cons]
   have:=ih (m/65536) (by rw[Nat.pow_succ] at h;exact Nat.div_lt_of_lt_mul (by rw[Nat.mul_comm];exact h))
   omega
theorem jH(a b:List Nat):aR (a++b)=aR a+65536^a.length*aR b:=by
 induction a with
 | nil=>simp[aR]
 | cons d a ih=>
  simp only[List.cons_append,aR,ih,List.length_cons,Nat.pow_succ]
  rw[Nat.mul_add,<-Nat.mul_assoc,Nat.mul_comm 65536 (65536^a.length)]
  omega
theorem k9(l:List Nat)(n:Nat):aR (l++List.replicate n 0)=aR l:=by
 rw[jH]
 have:∀ n,aR (List.replicate n 0)=0:=fun n=>by
  induction n with
  | zero=>rfl
  | succ n ih=>rw[List.replicate_succ,aR,ih]
 rw[this];simp
def vt(l:List Nat):Nat->Nat
 | 0=>0
 | k+1=>vt l k+l.getD k 0*65536^k
theorem FN(d:Nat)(l:List Nat)(k:Nat):vt (d::l) (k+1)=d+65536*vt l k:=by
 induction k with
 | zero=>simp[vt]
 | succ k ih=>
  rw[vt,ih,vt,Nat.mul_add]
  have:(d::l).getD (k+1) 0=l.getD k 0:=rfl
  rw[this,Nat.pow_succ,<-Nat.mul_assoc,<-Nat.mul_assoc,Nat.mul_comm 65536 (l.getD k 0),Nat.mul_assoc,Nat.mul_comm (65536^k),<-Nat.mul_assoc]
  omega
theorem j9(l:List Nat):vt l l.length=aR l:=by
 induction l with
 | nil=>rfl
 | cons d l ih=>rw[List.length_cons,FN,ih];rfl
theorem f8{l:List Nat}{k:Nat}(h:l.length<=k):vt l k=aR l:=by
 obtain⟨j,rfl⟩:∃ j,k=l.length+j:=⟨k-l.length,by omega⟩
 clear h
 induction j with
 | zero=>exact j9 l
 | succ j ih=>
  rw[<-Nat.add_assoc,vt,ih]
  have:l.getD (l.length+j) 0=0:=by simp[List.getD]
  rw[this];simp
theorem qQ{l:List Nat}(h:dl l)(k:Nat):vt l k<65536^k:=by
 induction k with
 | zero=>simp[vt]
 | succ k ih=>
  have h1:=h.getD k
  have h2:l.getD k 0*65536^k<=65535*65536^k:=Nat.mul_le_mul_right _ (by omega)
  rw[vt,Nat.pow_succ,Nat.mul_comm (65536^k)]
  omega
theorem iU{l:List Nat}(h:dl l):aR l<65536^l.length:=by rw[<-j9];exact qQ h _
def iN:List Nat->List Nat
 | []=>[]
 | d::l=>match iN l with
  | []=>if d=0 then[] else[d]
  | x::t=>d::x::t
theorem fR{l:List Nat}(h:dl l):iN l=ay (aR l):=by
 induction l with
 | nil=>rw[aR,bO];rfl
 | cons d l ih=>
  have hd:d<65536:=h d List.mem_cons_self
  have ih:=ih fun x hx=>h x (List.mem_cons_of_mem _ hx)
  rw[iN,ih,aR]
  by_cases hv:aR l=0
  ·rw[hv,bO]
   by_cases h0:d=0
   ·subst h0;simp[bO]
   ·rw[rL hd (by omega),bO];simp[h0]
  ·rw[rL hd (by omega),gm hv]
theorem xV{l:List Nat}(h:∀ i,i<l.length->l.getD i 0=0):iN l=[]:=by
 induction l with
 | nil=>rfl
 | cons d l ih=>
  have h0:d=0:=h 0 (by simp)
  rw[iN,ih (fun i hi=>h (i+1) (by simpa using hi)),h0];simp
theorem ta:∀ {l:List Nat} {n:Nat},n<=l.length->(∀ i,n<=i->i<l.length->l.getD i 0=0)->(n=0\/l.getD (n-1) 0≠0)->l.take n=iN l
 | [],n,_,_,_=>by simp[iN]
 | d::l,0,_,hz,_=>by rw[xV (fun i hi=>hz i (by omega) hi)];rfl
 | d::l,n+1,hn,hz,hl=>by
  have hl':(d::l).getD n 0≠0:=by
   rcases hl with h|h
   ·omega
   ·exact h
  have ih:l.take n=iN l:=ta (l:=l) (n:=n) (by simpa using hn) (fun i h1 h2=>hz (i+1) (by omega) (by simpa using h2)) (by
   cases n with
   | zero=>exact .inl rfl
   | succ k=>exact .inr hl')
  rw[List.take_succ_cons,ih,iN]
  cases ht:iN l with
  | nil=>
   rw[ht] at ih
   have:n=0:=by
    cases n with
    | zero=>rfl
    | succ k=>cases l with
     | nil=>simp at hn
     | cons e l=>simp at ih
   subst this
   have:d≠0:=hl'
   simp[this]
  | cons x t=>rfl
end Sy
end
noncomputable section
namespace Sy
open Go Go.Proofs Geo
theorem cG{l:List Nat}{i:Nat}(h:i<l.length):(ag l)[i]?=some (I (l.getD i 0:Nat)):=iW h
theorem rN(a:List Nat)(d:Nat):ag a++[I (d:Int)]=ag (a++[d]):=by simp[ag]
theorem uR(n:Nat){l:List Nat}(hl:l.length<=1000000):cA (n+1) 140 [.sl (ag l)]=some (.sl (ag (iN l))):=by
 rw[PB]
 unfold Dl
 refine aa (z:=ag l) rfl ?_
 have fin:∀ j:Nat,j<=l.length->(∀ i,j<=i->i<l.length->l.getD i 0=0)->(j=0\/l.getD (j-1) 0≠0)->(Option.bind (D.asSl (.sl (ag l))) fun l13=>Option.bind (D.natOf (I (j:Int))) fun i14=>Option.bind (D.cut l13 0 i14) fun l15=>some (D.sl l15))=some (.sl (ag (iN l))):=by
  intro j hj hz hd
  refine aa (z:=ag l) rfl (aa (z:=j) (by simp[D.natOf]) (aa (z:=ag (l.take j)) ?_ (by rw[ta hj hz hd])))
  simp only[D.cut]
  rw[if_pos ⟨Nat.zero_le _,by rw[aj];exact hj⟩]
  simp[ag,List.map_take]
 refine ba (fun i s=>s=[I ((l.length-i:Nat):Int)]/\∀ k,l.length-i<=k->k<l.length->l.getD k 0=0) l.length 0 (Nat.zero_le _) ⟨by rw[aj];rfl,fun k h1 h2=>by omega⟩ (fun i hi s hJ=>?_) (fun s hJ=>?_)
 ·obtain⟨rfl,hz⟩:=hJ
  have hb:inR (((l.length-i:Nat):Int)-1):=by simp only[inR];omega
  have e1:((l.length-i:Nat):Int)-1=((l.length-i-1:Nat):Int):=by omega
  have hx:(ag l)[l.length-i-1]?=some (I (l.getD (l.length-i-1) 0:Nat)):=cG (by omega)
  by_cases h0:l.getD (l.length-i-1) 0=0
  ·left
   refine⟨[I ((l.length-(i+1):Nat):Int)],?_,rfl,fun k h1 h2=>?_⟩
   ·refine aa bS (aa ae (aa (z:=true) (aH (by show((l.length-i:Nat):Int)>0;omega) ?_) (aa ae ?_)))
    ·refine aa (cW hb) (aa (z:=ag l) rfl (aa (z:=l.length-i-1) (by rw[e1,aj];exact ao (by omega)) (aa hx ?_)))
     rw[h0];rfl
    ·rw[if_pos rfl]
     refine aa (cW hb) ?_
     rw[e1,Nat.sub_sub]
   ·by_cases e:k=l.length-i-1
    ·rw[e];exact h0
    ·exact hz k (by omega) h2
  ·right
   refine⟨(0,[I ((l.length-i:Nat):Int)]),?_,fin _ (by omega) hz (.inr h0)⟩
   refine aa bS (aa ae (aa (z:=false) (aH (by show((l.length-i:Nat):Int)>0;omega) ?_) (aa ae rfl)))
   refine aa (cW hb) (aa (z:=ag l) rfl (aa (z:=l.length-i-1) (by rw[e1,aj];exact ao (by omega)) (aa hx ?_)))
   rw[bk,decide_eq_false (by omega)];rfl
 ·obtain⟨rfl,hz⟩:=hJ
  refine⟨(0,[I ((l.length-l.length:Nat):Int)]),?_,fin _ (by omega) hz (.inl (by omega))⟩
  refine aa bS (aa ae (aa (z:=false) (aD (by show ¬ ((l.length-l.length:Nat):Int)>0;omega) rfl) (aa ae rfl)))
theorem zn(n:Nat)(l:List Nat)(k:Nat):cA (n+1) 141 [.sl (ag l),I (k:Int)]=some (I (l.getD k 0:Nat)):=by
 rw[PC]
 unfold Dm
 refine aa (z:=ag l) rfl (aa ah (aa ae ?_))
 by_cases h:k<l.length
 ·refine aH (by show(k:Int)<((ag l).length:Int);rw[aj];omega) ?_
  exact aa (z:=ag l) rfl (aa (z:=k) (by rw[aj];exact ao h) (aa (cG h) rfl))
 ·refine aD (by show ¬ (k:Int)<((ag l).length:Int);rw[aj];omega) ?_
  have:l.getD k 0=0:=by simp[List.getD,h]
  rw[this];rfl
def dJ(l:List Nat)(i:Nat):Nat:=l.getD (2*i) 0+65536*l.getD (2*i+1) 0
abbrev U(n:Nat):D:=.int .u32 (n:Int)
def dc(l:List Nat):D:=.st ((List.range 16).map fun i=>U (dJ l i))
def ai(x:Int):D:=.st [.bool false,.bool (decide (x<0)),dc (ay x.natAbs)]
theorem tP{l:List Nat}(h:dl l)(i:Nat):dJ l i<4294967296:=by
 have:=h.getD (2*i);have:=h.getD (2*i+1);unfold dJ;omega
theorem qd{l:List Nat}{i:Nat}(h:i<16):D.fld (dc l) i=some (U (dJ l i)):=by simp[dc,D.fld,h]
theorem cB{x:Int}{i:Nat}(h:i<16):D.get (ai x) [2,i]=some (U (dJ (ay x.natAbs) i)):=
 aa (z:=dc (ay x.natAbs)) rfl (aa (qd h) rfl)
theorem mL{n:Int}(h:0<=n/\n<4294967296):IntKind.wrap .u32 n=n:=by
 obtain⟨h1,h2⟩:=h
 simp only[IntKind.wrap,IntKind.signed,IntKind.bits]
 first
  | omega
  | (simp;omega)
theorem GE(a:Nat):D.bin .rem (U a) (.int .u32 65536)=some (U (a%65536)):=by
 simp only[D.bin,if_true,show ¬ (65536:Int)=0 by decide,if_false]
 rw[show(65536:Int)=((65536:Nat):Int) from rfl,<-Int.ofNat_tmod]
theorem GD{a:Nat}(h:a<4294967296):D.bin .quo (U a) (.int .u32 65536)=some (U (a/65536)):=by
 simp only[D.bin,if_true,show ¬ (65536:Int)=0 by decide,if_false]
 rw[show(65536:Int)=((65536:Nat):Int) from rfl,<-Int.ofNat_tdiv,mL (by omega)]
theorem A2{a b:Nat}(h:a+b<4294967296):D.bin .add (U a) (U b)=some (U (a+b)):=by
 simp only[D.bin,if_true]
 rw[mL (by omega)];simp
theorem GC{a b:Nat}(h:a*b<4294967296):D.bin .mul (U a) (U b)=some (U (a*b)):=by
 simp only[D.bin,if_true]
 rw[show(a:Int)*(b:Int)=((a*b:Nat):Int) by simp,mL (by omega)]
theorem oW{a:Nat}(h:a<4294967296):D.conv .i64 (U a)=some (I (a:Int)):=by
 simp only[D.conv];rw[dX (by simp only[inR];omega)]
theorem yv{a:Nat}(h:a<4294967296):D.conv .u32 (I (a:Int))=some (U a):=by
 simp only[D.conv];rw[mL (by omega)]
theorem xE(l:List Nat)(k:Nat):((List.range k).map fun i=>l.getD i 0)=if k<=l.length then l.take k else l++List.replicate (k-l.length) 0:=by
 apply List.ext_getElem?
 intro i
 by_cases h:i<k
 ·rw[List.getElem?_map,List.getElem?_range h]
  split
  ·simp[h,List.getD,show i<l.length by omega]
  ·by_cases h2:i<l.length
   ·simp[List.getElem?_append,h2,List.getD]
   ·simp[List.getElem?_append,h2,List.getD,List.getElem?_replicate,show i-l.length<k-l.length by omega]
 ·rw[List.getElem?_map,show(List.range k)[i]?=none by simp;omega]
  split
  ·simp;omega
  ·simp;omega
theorem Cu{l:List Nat}(hd:dl l){k:Nat}(hk:l.length<=k):iN ((List.range k).map fun i=>l.getD i 0)=ay (aR l):=by
 have e:((List.range k).map fun i=>l.getD i 0)=l++List.replicate (k-l.length) 0:=by
  rw[xE]
  split
  ·have:k=l.length:=by omega
   subst this;simp
  ·rfl
 rw[e,fR (hd.append (fun x hx=>by rw[List.eq_of_mem_replicate hx];decide)),k9]
theorem tu(n:Nat){x:Int}(hx:x.natAbs<65536^32):cA (n+2) 77 [ai x]=some (.sl (ag (ay x.natAbs))):=by
 rw[TI]
 unfold JJ
 have hd:=aT x.natAbs
 have hlen:=bg 32 _ hx
 refine ba (fun i s=>s=[.sl (ag ((List.range (2*i)).map fun i=>(ay x.natAbs).getD i 0)),I (i:Int)]) 16 0 (Nat.zero_le _) rfl (fun i hi s hJ=>?_) (fun s hJ=>?_)
 ·subst hJ
  left
  refine⟨_,?_,rfl⟩
  refine aa ah (aa ae (aH (by show(i:Int)<16;omega) ?_))
  have hlt:=tP hd i
  have h1:=hd.getD (2*i)
  refine aa (z:=i) (ao hi) (aa (cB hi) (aa (GE _) (aa (oW (by omega)) (aa (z:=i) (ao hi) (aa (cB hi) (aa (GD hlt) (aa (oW (by omega)) ?_)))))))
  rw[if_pos (by simp only[g0,D.els,aj,List.length_map,List.length_range,List.length_cons,List.length_nil];omega)]
  refine aa (av (ar (i:=i) (by omega))) ?_
  have e1:dJ (ay x.natAbs) i%65536=(ay x.natAbs).getD (2*i) 0:=by unfold dJ;omega
  have e2:dJ (ay x.natAbs) i/65536=(ay x.natAbs).getD (2*i+1) 0:=by unfold dJ;omega
  rw[e1,e2,show 2*(i+1)=2*i+1+1 by omega,List.range_succ,List.range_succ]
  simp[g0,D.els,ag]
 ·subst hJ
  refine⟨(0,[.sl (ag ((List.range (2*16)).map fun i=>(ay x.natAbs).getD i 0))]),?_,?_⟩
  ·exact aa ah (aa ae (aD (by decide) rfl))
  ·refine aa (uR n (by simp)) ?_
   rw[Cu hd hlen,ap]
end Sy
end
noncomputable section
namespace Sy
open Go Go.Proofs Geo
theorem iM(l:List Nat)(k j:Nat):(l.take k).getD j 0=if j<k then l.getD j 0 else 0:=by
 simp only[List.getD,List.getElem?_take]
 split<;>simp
theorem qe{l l':List Nat}{q v:Nat}{a b:D}(hq:q<16)(h:∀ i,dJ l' i=if i=q then v else dJ l i):D.set (.st [a,b,dc l]) [2,q] (U v)=some (.st [a,b,dc l']):=by
 have h1:D.set (dc l) [q] (U v)=some (dc l'):=by
  have e:((List.range 16).map fun i=>U (dJ l i))[q]?=some (U (dJ l q)):=by simp[hq]
  refine aa e (aa (z:=U v) rfl ?_)
  simp only[dc,Option.some.injEq,D.st.injEq]
  apply List.ext_getElem?
  intro i
  rw[List.getElem?_set]
  by_cases hi:q=i
  ·subst hi
   simp[hq,h]
  ·rw[if_neg hi,List.getElem?_map,List.getElem?_map]
   by_cases h16:i<16
   ·rw[List.getElem?_range h16];simp[h,show i≠q from fun e=>hi e.symm]
   ·rw[show(List.range 16)[i]?=none by simp;omega];rfl
 exact aa (z:=dc l) rfl (aa h1 rfl)
theorem Gx(k:Nat):D.bin .rem (I (k:Int)) (.int .i64 2)=some (I (k%2:Nat)):=by
 rw[po (by decide),show(2:Int)=((2:Nat):Int) from rfl,<-Int.ofNat_tmod]
theorem hC{a b:Nat}(hb:b≠0)(ha:(a:Int)<=9223372036854775807):D.bin .quo (I (a:Int)) (I (b:Int))=some (I (a/b:Nat)):=by
 have:((a/b:Nat):Int)<=9223372036854775807:=by have:=Nat.div_le_self a b;omega
 have h0:0<=((a/b:Nat):Int):=Int.natCast_nonneg _
 rw[rD (by omega) (by rw[<-Int.ofNat_tdiv];simp only[inR];omega),<-Int.ofNat_tdiv]
theorem jB{a b:Nat}(hb:b≠0):D.bin .rem (I (a:Int)) (I (b:Int))=some (I (a%b:Nat)):=by
 rw[po (by omega),<-Int.ofNat_tmod]
theorem vw{a b:D}{l:List Nat}{i:Nat}(h:i<16):D.get (.st [a,b,dc l]) [2,i]=some (U (dJ l i)):=
 aa (z:=dc l) rfl (aa (qd h) rfl)
def sgn(neg:Bool)(m:Nat):Int:=if neg then -(m:Int) else m
theorem EK(n:Nat){l:List Nat}{neg:Bool}(hd:dl l)(hl:l.length<=1000000)(hv:aR l<65536^32):cA (n+2) 81 [.bool neg,.sl (ag l)]=some (ai (sgn neg (aR l))):=by
 rw[QZ]
 unfold H7
 have hlen:=bg 32 _ hv
 have hdd:=aT (aR l)
 have hen:ai (sgn neg (aR l))=.st [.bool false,.bool (neg&&decide (0<(ay (aR l)).length)),dc (ay (aR l))]:=by
  have e1:(sgn neg (aR l)).natAbs=aR l:=by unfold sgn;split<;>omega
  have e2:(0<(ay (aR l)).length)↔aR l≠0:=by
   rw[List.length_pos_iff];exact not_congr pK
  unfold ai
  rw[e1]
  have:decide (sgn neg (aR l)<0)=(neg&&decide (0<(ay (aR l)).length)):=by
   simp only[e2,sgn]
   cases neg
   ·simp<;>omega
   ·by_cases h:aR l=0
    ·simp[h]
    ·simp[h]<;>omega
  rw[this]
 rw[hen]
 refine aa (uR n hl) ?_
 rw[fR hd]
 generalize ay (aR l)=d at hlen hdd
 refine aa (z:=ag d) rfl (aa bS (aa ae (aD (by show ¬ ((ag d).length:Int)>32;rw[aj];omega) ?_)))
 refine aa ae (aa (z:=neg&&decide (0<d.length)) ?_ ?_)
 ·cases neg
  ·rfl
  ·rw[if_pos rfl]
   refine aa (z:=ag d) rfl (aa bS ?_)
   rw[ae,aj]
   simp
 refine ba (fun k s=>s=[I (k:Int),.st [.bool false,.bool (neg&&decide (0<d.length)),dc (d.take k)]]) d.length 0 (Nat.zero_le _) rfl (fun k hk s hJ=>?_) (fun s hJ=>?_)
 ·subst hJ
  left
  refine⟨_,?_,rfl⟩
  have hdk:=hdd.getD k
  refine aa (z:=ag d) rfl (aa ah (aa ae (aH (by show(k:Int)<((ag d).length:Int);rw[aj];omega) ?_)))
  refine aa (z:=(0,[.st [.bool false,.bool (neg&&decide (0<d.length)),dc (d.take (k+1))]])) ?_ (aa (av (ar (i:=k) (by omega))) rfl)
  refine aa (Gx k) ?_
  have q1:k/2<16:=by omega
  have hq:D.bin .quo (I (k:Int)) (.int .i64 2)=some (I (k/2:Nat)):=hC (b:=2) (by decide) (by omega)
  have hlk:dJ (d.take k) (k/2)=if k%2=0 then 0 else d.getD (2*(k/2)) 0:=by
   simp only[dJ,iM]
   by_cases hk2:k%2=0
   ·rw[if_pos hk2,if_neg (show ¬ 2*(k/2)<k by omega),if_neg (show ¬ 2*(k/2)+1<k by omega)]
   ·rw[if_neg hk2,if_pos (show 2*(k/2)<k by omega),if_neg (show ¬ 2*(k/2)+1<k by omega)];omega
  have hd2:=hdd.getD (2*(k/2))
  by_cases hk2:k%2=0
  ·rw[if_pos hk2] at hlk
   rw[hk2]
   refine aa (z:=true) rfl ?_
   rw[if_pos rfl]
   refine aa hq (aa hq (aa (ao q1) (aa (vw q1) (aa (z:=ag d) rfl (aa (z:=k) (by rw[aj];exact ao hk) (aa (cG hk) (aa (yv (by omega)) (aa (A2 (by rw[hlk];omega)) (aa (ao q1) (aa (qe q1 (l':=d.take (k+1)) ?_) rfl))))))))))
   intro i
   by_cases hi:i=k/2
   ·rw[if_pos hi,hlk,hi]
    simp only[dJ,iM]
    rw[if_pos (show 2*(k/2)<k+1 by omega),if_neg (show ¬ 2*(k/2)+1<k+1 by omega),show 2*(k/2)=k by omega];omega
   ·rw[if_neg hi]
    simp only[dJ,iM]
    have a1:(2*i<k+1)↔(2*i<k):=by omega
    have a2:(2*i+1<k+1)↔(2*i+1<k):=by omega
    simp only[a1,a2]
  ·rw[if_neg hk2] at hlk
   refine aa (z:=false) (by rw[show k%2=1 by omega];rfl) ?_
   rw[if_neg (by decide)]
   refine aa hq (aa hq (aa (ao q1) (aa (vw q1) (aa (z:=ag d) rfl (aa (z:=k) (by rw[aj];exact ao hk) (aa (cG hk) (aa (yv (by omega)) (aa (GC (b:=65536) (by omega)) (aa (A2 (by rw[hlk];omega)) (aa (ao q1) (aa (qe q1 (l':=d.take (k+1)) ?_) rfl)))))))))))
   intro i
   by_cases hi:i=k/2
   ·rw[if_pos hi,hlk,hi]
    simp only[dJ,iM]
    rw[if_pos (show 2*(k/2)<k+1 by omega),if_pos (show 2*(k/2)+1<k+1 by omega),show 2*(k/2)+1=k by omega];omega
   ·rw[if_neg hi]
    simp only[dJ,iM]
    have a1:(2*i<k+1)↔(2*i<k):=by omega
    have a2:(2*i+1<k+1)↔(2*i+1<k):=by omega
    simp only[a1,a2]
 ·subst hJ
  refine⟨(0,[.st [.bool false,.bool (neg&&decide (0<d.length)),dc (d.take d.length)]]),?_,?_⟩
  ·exact aa (z:=ag d) rfl (aa ah (aa ae (aD (by show ¬ (d.length:Int)<((ag d).length:Int);rw[aj];omega) rfl)))
  ·rw[List.take_length];rfl
theorem QS(n:Nat){a b:List Nat}(ha:dl a)(hb:dl b)(hla:a.length<=900000)(hlb:b.length<=900000):cA (n+2) 82 [.sl (ag a),.sl (ag b)]=some (.sl (ag (ay (aR a+aR b)))):=by
 rw[TN]
 unfold JN
 obtain⟨M,hM⟩:∃ M,M=max a.length b.length:=⟨_,rfl⟩
 have hmax:∀ k:Nat,D.max2 (D.int .i64 (ag a).length) (D.int .i64 (ag b).length)=some (I (M:Int)):=fun _=>by
  rw[yQ,aj,aj,hM];congr 2;omega
 refine ba (fun k s=>∃ (out:List Nat) (c:Nat),s=[.sl (ag out),I (c:Int),I (k:Int)]/\out.length=k/\dl out/\c<=1/\aR out+c*65536^k=vt a k+vt b k) (M+1) 0 (Nat.zero_le _) ⟨[],0,rfl,rfl,(by intro d hd;cases hd),by omega,by simp[aR,vt]⟩ (fun k hk s hJ=>?_) (fun s hJ=>?_)
 ·obtain⟨out,c,rfl,ho,hdo,hc,hv⟩:=hJ
  left
  have h1:=ha.getD k
  have h2:=hb.getD k
  refine⟨[.sl (ag (out++[(a.getD k 0+b.getD k 0+c)%65536])),I ((a.getD k 0+b.getD k 0+c)/65536:Nat),I ((k+1:Nat):Int)],?_,out++[(a.getD k 0+b.getD k 0+c)%65536],(a.getD k 0+b.getD k 0+c)/65536,rfl,by simp[ho],hdo.append (fun x hx=>by simp at hx;omega),by omega,?_⟩
  ·refine aa (z:=ag a) rfl (aa (z:=ag b) rfl (aa (hmax 0) (aa (av (ar (i:=M) (by omega))) (aa ah (aa ae (aH (by show(k:Int)<(M:Int)+1;omega) ?_))))))
   refine aa (zn n a k) (aa (zn n b k) (aa (av (by simp only[inR];omega)) (aa (av (by simp only[inR];omega)) ?_)))
   rw[show(((a.getD k 0:Nat):Int)+((b.getD k 0:Nat):Int)+(c:Int))=((a.getD k 0+b.getD k 0+c:Nat):Int) by omega]
   refine aa (jB (b:=65536) (by decide)) ?_
   rw[if_pos (by simp only[g0,D.els,aj,List.length_cons,List.length_nil];omega)]
   refine aa (hC (b:=65536) (by decide) (by omega)) (aa (av (ar (i:=k) (by omega))) ?_)
   simp only[g0,D.els,rN]
   rfl
  ·rw[jH,ho,vt,vt,Nat.pow_succ]
   have e:a.getD k 0+b.getD k 0+c=(a.getD k 0+b.getD k 0+c)%65536+65536*((a.getD k 0+b.getD k 0+c)/65536):=by omega
   have e2:aR [(a.getD k 0+b.getD k 0+c)%65536]=(a.getD k 0+b.getD k 0+c)%65536:=by simp[aR]
   rw[e2]
   generalize 65536^k=B at *
   generalize (a.getD k 0+b.getD k 0+c)%65536=r at *
   generalize (a.getD k 0+b.getD k 0+c)/65536=q at *
   have:(a.getD k 0+b.getD k 0+c)*B=(r+65536*q)*B:=by rw[e]
   rw[Nat.add_mul,Nat.add_mul,Nat.add_mul] at this
   rw[show q*(B*65536)=65536*q*B by rw[Nat.mul_comm B,<-Nat.mul_assoc,Nat.mul_comm q],Nat.mul_comm B r]
   omega
 ·obtain⟨out,c,rfl,ho,hdo,hc,hv⟩:=hJ
  refine⟨(0,[.sl (ag out)]),?_,?_⟩
  ·refine aa (z:=ag a) rfl (aa (z:=ag b) rfl (aa (hmax 0) (aa (av (ar (i:=M) (by omega))) (aa ah (aa ae (aD (by show ¬ (((M+1:Nat):Int)<(M:Int)+1);omega) rfl))))))
  ·refine aa (uR n (l:=out) (by omega)) ?_
   have va:vt a (M+1)=aR a:=f8 (by omega)
   have vb:vt b (M+1)=aR b:=f8 (by omega)
   have la:=qQ ha M
   have lb:=qQ hb M
   rw[f8 (show a.length<=M by omega)] at la
   rw[f8 (show b.length<=M by omega)] at lb
   have hc0:c=0:=by
    rcases Nat.eq_zero_or_pos c with h|h
    ·exact h
    ·have:1*65536^(M+1)<=c*65536^(M+1):=Nat.mul_le_mul_right _ h
     rw[Nat.pow_succ] at this
     rw[va,vb,Nat.pow_succ] at hv
     omega
   subst hc0
   rw[fR hdo,<-va,<-vb,<-hv];simp
theorem AJ(n:Nat){x:Int}(hx:inR x):cA (n+3) 34 [I x]=some (ai x):=by
 rw[Tm]
 unfold Jr
 obtain⟨h1,h2⟩:=hx
 have d1:∀ m:Nat,(m:Int)<=9223372036854775807->dl [m%65536,m/65536%65536,m/4294967296%65536,m/281474976710656]:=fun m hm d hd=>by
  simp only[List.mem_cons,List.not_mem_nil,or_false] at hd;omega
 have d2:∀ m:Nat,aR [m%65536,m/65536%65536,m/4294967296%65536,m/281474976710656]=m:=fun m=>by
  simp only[aR];omega
 have d3:∀ m:Nat,D.sl [I (m%65536:Nat),I (m/65536%65536:Nat),I (m/4294967296%65536:Nat),I (m/281474976710656:Nat)]=.sl (ag [m%65536,m/65536%65536,m/4294967296%65536,m/281474976710656]):=fun m=>rfl
 have big:∀ m:Nat,(m:Int)<=9223372036854775808->m<65536^32:=fun m hm=>by
  have:(65536:Nat)^4<=65536^32:=Nat.pow_le_pow_right (by decide) (by decide)
  have e:(65536:Nat)^4=18446744073709551616:=by decide
  omega
 refine aa fe (aa ae ?_)
 by_cases h:x ≥ 0
 ·refine aH h ?_
  obtain⟨m,rfl⟩:=Int.eq_ofNat_of_zero_le h
  refine aa (jB (b:=65536) (by decide)) (aa (hC (b:=65536) (by decide) h2) (aa (jB (b:=65536) (by decide)) (aa (hC (b:=4294967296) (by decide) h2) (aa (jB (b:=65536) (by decide)) (aa (hC (b:=281474976710656) (by decide) h2) ?_)))))
  refine aa (z:=ai m) ?_ rfl
  rw[d3,EK n (d1 m h2) (by simp) (by rw[d2];exact big m (by omega)),d2];rfl
 ·refine aD h ?_
  obtain⟨m,hm⟩:=Int.eq_ofNat_of_zero_le (show 0<=-(x+1) by omega)
  have h3:(m:Int)<=9223372036854775807:=by omega
  refine aa (av (by simp only[inR];omega)) (aa (mJ (by simp only[inR];omega)) ?_)
  rw[hm]
  refine aa (jB (b:=65536) (by decide)) (aa (hC (b:=65536) (by decide) h3) (aa (jB (b:=65536) (by decide)) (aa (hC (b:=4294967296) (by decide) h3) (aa (jB (b:=65536) (by decide)) (aa (hC (b:=281474976710656) (by decide) h3) ?_)))))
  rw[d3]
  refine aa (QS n (b:=[1]) (d1 m h3) (fun d hd=>by simp at hd;omega) (by simp) (by simp)) (aa (z:=ai x) ?_ rfl)
  rw[d2]
  have e1:aR [1]=1:=rfl
  rw[e1,EK n (aT _) ?_ ?_,ap]
  ·congr 2;simp only[sgn,if_true];omega
  ·have:=bg 32 _ (big (m+1) (by omega));omega
  ·rw[ap];exact big (m+1) (by omega)
end Sy
end
noncomputable section
namespace Sy
open Go Go.Proofs Geo
def In(x:Int):Prop:=x.natAbs<65536^32
theorem In.of{x:Int}(h:inR x):In x:=by
 have:(65536:Nat)^4<=65536^32:=Nat.pow_le_pow_right (by decide) (by decide)
 have e:(65536:Nat)^4=18446744073709551616:=by decide
 obtain⟨h1,h2⟩:=h
 unfold In;omega
theorem gf(m i:Nat):dJ (ay m) i=m/4294967296^i%4294967296:=by
 have e1:65536^(2*i)=4294967296^i:=by rw[Nat.pow_mul]
 have e2:65536^(2*i+1)=4294967296^i*65536:=by rw[Nat.pow_succ,e1]
 unfold dJ
 rw[m9,m9,e1,e2,<-Nat.div_div_eq_div_mul]
 generalize m/4294967296^i=q
 omega
theorem Ga(m:Nat):dJ (ay m) 0=m%4294967296:=by rw[gf,Nat.pow_zero,Nat.div_one]
theorem BD(m:Nat):dJ (ay m) 1=m/4294967296%4294967296:=by rw[gf,Nat.pow_one]
theorem IX{m i:Nat}(h:m<18446744073709551616)(hi:2<=i):dJ (ay m) i=0:=by
 rw[gf]
 have:(4294967296:Nat)^2<=4294967296^i:=Nat.pow_le_pow_right (by decide) hi
 rw[Nat.div_eq_of_lt (by omega)]
theorem FS{a b:Nat}:D.beq (U a) (U b)=decide (a=b):=by
 simp only[D.beq,decide_true,Bool.true_and]
 by_cases h:a=b
 ·simp[h]
 ·simp[h];omega
theorem qf{m:Nat}(hm:m<65536^32)(h:∀ i,i<16->dJ (ay m) i=0):m=0:=by
 have hz:∀ i,i<32->(ay m).getD i 0=0:=fun i hi=>by
  have:=h (i/2) (by omega)
  unfold dJ at this
  rcases Nat.mod_two_eq_zero_or_one i with e|e
  ·rw[show 2*(i/2)=i by omega] at this;omega
  ·rw[show 2*(i/2)+1=i by omega] at this;omega
 have hv:∀ k,k<=32->vt (ay m) k=0:=fun k=>by
  induction k with
  | zero=>intro _;rfl
  | succ k ih=>intro hk;rw[vt,ih (by omega),hz k (by omega)];simp
 have:=hv 32 (by omega)
 rw[f8 (bg 32 _ hm),ap] at this
 exact this
def zB(m i:Nat):Bool:=(List.range i).all fun k=>decide (dJ (ay m) k=0)
theorem FO(m i:Nat):zB m (i+1)=(zB m i&&decide (dJ (ay m) i=0)):=by
 unfold zB;rw[List.range_succ,List.all_append];simp
theorem N0(n:Nat){x:Int}(hx:In x):cA (n+1) 139 [ai x]=some (.bool true):=by
 rw[PA]
 unfold Dk
 have fin:∀ z:Bool,(z=true->x=0)->(Option.bind (D.get (ai x) [0]) fun x10=>Option.bind (D.truth x10) fun b11=>
   if b11 then(Option.bind (D.truth (.bool z)) fun b12=>Option.bind (if b12 then(Option.bind (D.get (ai x) [1]) fun x13=>Option.bind (D.un .not x13) fun x14=>D.truth x14) else(some false)) fun b15=>
   some (D.bool b15)) else(Option.bind (D.un .not (.bool z)) fun x16=>Option.bind (D.truth x16) fun b17=>
   Option.bind (if b17 then(some true) else(Option.bind (D.get (ai x) [1]) fun x18=>Option.bind (D.un .not x18) fun x19=>D.truth x19)) fun b20=>some (D.bool b20)))=some (.bool true):=by
  intro z hz
  refine aa (z:=.bool false) rfl (aa (z:=false) rfl ?_)
  rw[if_neg (by decide)]
  refine aa (z:=.bool (!z)) rfl (aa (z:=!z) rfl ?_)
  cases z with
  | false=>rfl
  | true=>
   have:=hz rfl
   subst this
   rfl
 refine ba (fun i s=>s=[.bool (zB x.natAbs i),I (i:Int)]) 16 0 (Nat.zero_le _) rfl (fun i hi s hJ=>?_) (fun s hJ=>?_)
 ·subst hJ
  left
  refine⟨_,?_,rfl⟩
  refine aa ah (aa ae (aH (by show(i:Int)<16;omega) (aa ae (aa (z:=zB x.natAbs (i+1)) ?_ (aa (av (ar (i:=i) (by omega))) rfl)))))
  rw[FO]
  cases zB x.natAbs i with
  | false=>rfl
  | true=>
   rw[if_pos rfl]
   refine aa (ao hi) (aa (cB hi) ?_)
   show D.truth (D.bool (D.beq (U (dJ (ay x.natAbs) i)) (U 0)))=_
   rw[FS,ae];rfl
 ·subst hJ
  refine⟨(0,[.bool (zB x.natAbs 16)]),?_,?_⟩
  ·exact aa ah (aa ae (aD (by decide) rfl))
  ·refine fin _ fun h=>?_
   have:=qf hx (fun i hi=>of_decide_eq_true (List.all_eq_true.1 h i (List.mem_range.2 hi)))
   omega
theorem oV(n:Nat){x:Int}(hx:In x):cA (n+2) 76 [ai x]=some (.bool true):=by
 rw[TH]
 unfold JI
 exact aa (N0 n hx) (aa ae rfl)
theorem mV(n:Nat){x:Int}(hx:x.natAbs<4611686018427387904):cA (n+3) 124 [ai x]=some (.tup [I x,.bool true]):=by
 have hin:In x:=In.of (by simp only[inR];omega)
 rw[Jb]
 unfold AQ
 have l1:=BD x.natAbs
 refine aa (oV n hin) (aa bN (aa ae (aa (z:=false) ?_ (aa ae ?_))))
 ·rw[if_neg (by decide)]
  refine aa (cB (i:=1) (by decide)) ?_
  rw[l1]
  have:D.bin .geq (U (x.natAbs/4294967296%4294967296)) (.int .u32 1073741824)=some (.bool false):=by
   simp only[D.bin,if_true]
   rw[decide_eq_false (by omega)]
  exact aa this rfl
 ·rw[if_neg (by decide)]
  refine ba (fun i s=>s=[I (i:Int)]/\2<=i) 16 2 (by decide) ⟨rfl,by decide⟩ (fun i hi s hJ=>?_) (fun s hJ=>?_)
  ·obtain⟨rfl,h2⟩:=hJ
   left
   refine⟨_,?_,rfl,by omega⟩
   refine aa ah (aa ae (aH (by show(i:Int)<16;omega) ?_))
   refine aa (ao hi) (aa (cB hi) ?_)
   rw[IX (by omega) h2]
   refine aa (z:=false) rfl ?_
   rw[if_neg (by decide)]
   exact aa (av (ar (i:=i) (by omega))) rfl
  ·obtain⟨rfl,_⟩:=hJ
   refine⟨(1,[]),aa ah (aa ae (aD (by decide) rfl)),?_⟩
   rw[if_neg (by decide)]
   have e0:=Ga x.natAbs
   refine aa (cB (i:=1) (by decide)) (aa (oW (tP (aT _) 1)) ?_)
   rw[l1]
   refine aa (cE (by simp only[inR];omega)) (aa (cB (i:=0) (by decide)) (aa (oW (tP (aT _) 0)) ?_))
   rw[e0]
   refine aa (av (by simp only[inR];omega)) (aa (z:=.bool (decide (x<0))) rfl (aa ae ?_))
   by_cases hx0:x<0
   ·refine aH hx0 ?_
    refine aa (mJ (by simp only[inR];omega)) ?_
    congr 4;omega
   ·refine aD hx0 ?_
    congr 4;omega
theorem N3(n:Nat){x:Int}(hx:In x):cA (n+3) 142 [ai x]=some (ai x.natAbs):=by
 rw[PD]
 unfold Dn
 have hl:=bg 32 _ hx
 refine aa (oV n hx) (aa bN (aa ae ?_))
 refine aa (tu n hx) (aa (z:=ai x.natAbs) ?_ rfl)
 rw[EK n (aT _) (by omega) (by rw[ap];exact hx),ap];rfl
theorem J1(n:Nat){a b:List Nat}(ha:dl a)(hb:dl b)(hla:a.length<=900000)(hlb:b.length<=900000):cA (n+2) 78 [.sl (ag a),.sl (ag b)]=some (.bool (decide (aR a<aR b))):=by
 rw[TJ]
 unfold JK
 obtain⟨M,hM⟩:∃ M,M=max a.length b.length:=⟨_,rfl⟩
 have hmax:D.max2 (D.int .i64 (ag a).length) (D.int .i64 (ag b).length)=some (I (M:Int)):=by
  rw[yQ,aj,aj,hM];congr 2;omega
 have hva:vt a M=aR a:=f8 (by omega)
 have hvb:vt b M=aR b:=f8 (by omega)
 refine aa (z:=ag a) rfl (aa (z:=ag b) rfl (aa hmax (aa (cW (by simp only[inR];omega)) ?_)))
 refine ba (fun i s=>s=[I ((M:Int)-1-i)]/\(aR a<aR b↔vt a (M-i)<vt b (M-i))) M 0 (Nat.zero_le _) ⟨by simp,by simp[hva,hvb]⟩ (fun i hi s hJ=>?_) (fun s hJ=>?_)
 ·obtain⟨rfl,hz⟩:=hJ
  obtain⟨k,hk⟩:∃ k,M-i=k+1:=⟨M-i-1,by omega⟩
  rw[hk,vt,vt] at hz
  have e1:(M:Int)-1-i=(k:Int):=by omega
  rw[e1]
  have la:=qQ ha k
  have lb:=qQ hb k
  have q1:=zn n a k
  have q2:=zn n b k
  by_cases hab:a.getD k 0=b.getD k 0
  ·left
   refine⟨[I ((M:Int)-1-(i+1:Nat))],?_,rfl,?_⟩
   ·refine aa fe (aa ae (aH (by show(k:Int) ≥ 0;omega) (aa q1 (aa q2 (aa (z:=false) ?_ ?_)))))
    ·rw[hab,bP,decide_eq_true rfl];rfl
    ·rw[if_neg (by decide)]
     refine aa (cW (by simp only[inR];omega)) ?_
     congr 4;omega
   ·rw[hz,hab,show M-(i+1)=k by omega];omega
  ·right
   refine⟨(0,[.bool (decide (a.getD k 0<b.getD k 0))]),?_,?_⟩
   ·refine aa fe (aa ae (aH (by show(k:Int) ≥ 0;omega) (aa q1 (aa q2 (aa (z:=true) ?_ ?_)))))
    ·rw[bP,decide_eq_false hab];rfl
    ·rw[if_pos rfl]
     refine aa q1 (aa q2 (aa ah ?_))
     simp
   ·rw[if_pos rfl]
    show some (D.bool (decide (a.getD k 0<b.getD k 0)))=_
    congr 3
    rw[eq_iff_iff,hz]
    generalize a.getD k 0=u at *
    generalize b.getD k 0=v at *
    generalize 65536^k=B at *
    constructor
    ·intro h
     have:(u+1)*B<=v*B:=Nat.mul_le_mul_right _ h
     rw[Nat.add_mul] at this
     omega
    ·intro h
     rcases Nat.lt_or_ge u v with h1|h1
     ·exact h1
     ·have:(v+1)*B<=u*B:=Nat.mul_le_mul_right _ (by omega)
      rw[Nat.add_mul] at this
      omega
 ·obtain⟨rfl,hz⟩:=hJ
  refine⟨(1,[]),?_,?_⟩
  ·exact aa fe (aa ae (aD (by show ¬ ((M:Int)-1-(M:Nat)) ≥ 0;omega) rfl))
  ·rw[if_neg (by decide)]
   have:¬ aR a<aR b:=by rw[hz];simp[vt]
   rw[decide_eq_false this]
theorem GL(n:Nat){x y:Int}(hx:In x)(hy:In y):cA (n+3) 32 [ai x,ai y]=some (I (a7 x y)):=by
 rw[u32]
 unfold Jp
 have hlx:=bg 32 _ hx
 have hly:=bg 32 _ hy
 have gx:=oV n hx
 have gy:=oV n hy
 have dx:=tu n hx
 have dy:=tu n hy
 refine aa gx (aa bN (aa ae (aa (z:=false) rfl (aa (z:=false) rfl ?_))))
 rw[if_neg (by decide)]
 refine aa gx (aa bN (aa (z:=false) rfl ?_))
 rw[if_neg (by decide)]
 refine aa gy (aa bN (aa (z:=false) rfl ?_))
 rw[if_neg (by decide)]
 refine aa (z:=.bool (decide (x<0))) rfl (aa (z:=.bool (decide (y<0))) rfl ?_)
 have l1:=J1 n (aT x.natAbs) (aT y.natAbs) (by omega) (by omega)
 have l2:=J1 n (aT y.natAbs) (aT x.natAbs) (by omega) (by omega)
 simp only[ap] at l1 l2
 have hb:∀ p q:Bool,D.truth (.bool (!(D.beq (.bool p) (.bool q))))=some (!(p==q)):=fun p q=>rfl
 rw[hb]
 refine aa rfl ?_
 by_cases h1:x<0<;>by_cases h2:y<0
 ·rw[decide_eq_true h1,decide_eq_true h2,if_neg (by decide)]
  refine aa dx (aa dy (aa (z:=(0,[.sl (ag (ay y.natAbs)),.sl (ag (ay x.natAbs))])) ?_ ?_))
  ·refine aa (z:=.bool true) (by rw[show D.get (ai x) [1]=some (.bool (decide (x<0))) from rfl,decide_eq_true h1]) (aa (z:=true) rfl ?_)
   rw[if_pos rfl]
   exact aa dy (aa dx rfl)
  ·refine aa l2 (aa l1 (aa ae ?_))
   by_cases h3:y.natAbs<x.natAbs
   ·refine aH h3 ?_
    simp[a7,show x<y by omega]
   ·refine aD h3 (aa ae ?_)
    by_cases h4:x.natAbs<y.natAbs
    ·refine aH h4 ?_
     simp[a7,show ¬ x<y by omega,show y<x by omega]
    ·refine aD h4 ?_
     simp[a7,show ¬ x<y by omega,show ¬ y<x by omega]
 ·rw[decide_eq_true h1,decide_eq_false h2,if_pos (by decide)]
  refine aa (z:=.bool true) (by rw[show D.get (ai x) [1]=some (.bool (decide (x<0))) from rfl,decide_eq_true h1]) (aa (z:=true) rfl ?_)
  simp[a7,show x<y by omega]
 ·rw[decide_eq_false h1,decide_eq_true h2,if_pos (by decide)]
  refine aa (z:=.bool false) (by rw[show D.get (ai x) [1]=some (.bool (decide (x<0))) from rfl,decide_eq_false h1]) (aa (z:=false) rfl ?_)
  simp[a7,show ¬ x<y by omega,show y<x by omega]
 ·rw[decide_eq_false h1,decide_eq_false h2,if_neg (by decide)]
  refine aa dx (aa dy (aa (z:=(0,[.sl (ag (ay x.natAbs)),.sl (ag (ay y.natAbs))])) ?_ ?_))
  ·refine aa (z:=.bool false) (by rw[show D.get (ai x) [1]=some (.bool (decide (x<0))) from rfl,decide_eq_false h1]) (aa (z:=false) rfl rfl)
  ·refine aa l1 (aa l2 (aa ae ?_))
   by_cases h3:x.natAbs<y.natAbs
   ·refine aH h3 ?_
    simp[a7,show x<y by omega]
   ·refine aD h3 (aa ae ?_)
    by_cases h4:y.natAbs<x.natAbs
    ·refine aH h4 ?_
     simp[a7,show ¬ x<y by omega,show y<x by omega]
    ·refine aD h4 ?_
     simp[a7,show ¬ x<y by omega,show ¬ y<x by omega]
end Sy
end
noncomputable section
namespace Sy
open Go Go.Proofs Geo
def Wd(x:Int):Prop:=x.natAbs<4611686018427387904
theorem Wd.inR{x:Int}(h:Wd x):inR x:=by unfold Wd at h;simp only[Sy.inR];omega
theorem Wd.In{x:Int}(h:Wd x):In x:=In.of h.inR
theorem Ip(n:Nat){a b:Int}(ha:Wd a)(hb:b≠0)(hd:b ∣ a):cA (n+1) 144 [I a,I b]=some (I (a/b)):=by
 rw[PF]
 unfold Dp
 obtain⟨q,rfl⟩:=hd
 have e1:(b*q).tdiv b=q:=Int.mul_tdiv_cancel_left _ hb
 have e2:b*q/b=q:=Int.mul_ediv_cancel_left _ hb
 have e3:(b*q).tmod b=0:=Int.mul_tmod_right ..
 have hq:Sy.inR q:=by
  have:q.natAbs<=(b*q).natAbs:=by rw[Int.natAbs_mul];exact Nat.le_mul_of_pos_left _ (by omega)
  unfold Wd at ha;simp only[Sy.inR];omega
 rw[e2]
 refine aa (rD hb (by rw[e1];exact hq)) (aa (z:=(0,[I q])) (aa (po hb) ?_) rfl)
 rw[e1,e3]
 exact aa (z:=false) rfl (aa (z:=false) rfl (aa ae rfl))
theorem J2(n:Nat){a b:Int}(ha:Wd a)(hb:Wd b):cA (n+4) 85 [ai a,ai b]=some (ai (Nat.gcd a.natAbs b.natAbs:Nat)):=by
 rw[Q0]
 unfold H8
 refine aa (mV n ha) (aa (z:=I a) rfl (aa (z:=.bool true) rfl (aa (mV n hb) (aa (z:=I b) rfl (aa (z:=.bool true) rfl (aa (z:=true) rfl (aa (z:=true) rfl (aa (z:=true) rfl ?_))))))))
 rw[if_pos rfl]
 obtain⟨r,h1,h2⟩:=vp (body:=fun(v1:List D)=>
  Option.bind (D.truth (D.bool (!(D.beq (gx v1 1) (D.int .i64 0))))) fun b2=>
  if b2 then(Option.bind (D.bin .rem (gx v1 0) (gx v1 1)) fun x3=>
  some (Sum.inl [(gx v1 1),x3])) else(some (Sum.inr (0,[(gx v1 0)]))))
  (fun a b hb=>by simp only[g0,g1,bk,ae,Option.bind_some,hb,decide_false,Bool.not_false,if_true,po hb])
  (fun a=>by simp only[g0,g1,bk,ae,Option.bind_some,decide_true,Bool.not_true,Bool.false_eq_true,if_false]) _ a b rfl
 refine jR h1 ?_
 have hg:Nat.gcd a.natAbs b.natAbs<=4611686018427387903:=by unfold Wd at ha hb;exact nq (by omega) (by omega)
 have hr:Sy.inR r:=by simp only[Sy.inR];omega
 refine aa (AJ n hr) (aa (N3 n (In.of hr)) ?_)
 rw[h2]
theorem Hv(n:Nat){x:Int}(hx:In x):cA (n+3) 83 [ai x]=some (I (sg x)):=by
 rw[TO]
 unfold JO
 refine aa (oV n hx) (aa bN (aa (z:=false) rfl (aa (z:=decide (x=0)) ?_ (aa ae ?_))))
 ·rw[if_neg (by decide)]
  refine aa (tu n hx) (aa (z:=ag (ay x.natAbs)) rfl ?_)
  rw[ae,aj]
  show some (D.beq (I ((ay x.natAbs).length:Nat)) (I (0:Nat)))=_
  rw[bP]
  congr 1
  rw[decide_eq_decide,List.length_eq_zero_iff,pK]
  omega
 ·by_cases h0:x=0
  ·refine aH h0 ?_
   subst h0;rfl
  ·refine aD h0 (aa (z:=.bool (decide (x<0))) rfl (aa ae ?_))
   by_cases h1:x<0
   ·refine aH h1 ?_
    rw[uj h1]
   ·refine aD h1 ?_
    rw[jh (by omega)]
theorem J3(n:Nat){a b:Int}(ha:Wd a)(hb:Wd b)(hb0:b≠0)(hd:b ∣ a):cA (n+4) 87 [ai a,ai b]=some (ai (a/b)):=by
 rw[Q1]
 unfold H9
 refine aa (mV n ha) (aa (z:=I a) rfl (aa (z:=.bool true) rfl (aa (mV n hb) (aa (z:=I b) rfl (aa (z:=.bool true) rfl (aa (z:=true) rfl (aa (z:=true) rfl (aa (z:=true) rfl (aa (z:=true) ?_ (aa (z:=true) rfl ?_))))))))))
 ·rw[if_pos rfl,bk,decide_eq_false hb0];rfl
 ·rw[if_pos rfl]
  have hq:Sy.inR (a/b):=by
   obtain⟨q,rfl⟩:=hd
   rw[Int.mul_ediv_cancel_left _ hb0]
   have:q.natAbs<=(b*q).natAbs:=by rw[Int.natAbs_mul];exact Nat.le_mul_of_pos_left _ (by omega)
   unfold Wd at ha;simp only[Sy.inR];omega
  exact aa (Ip (n+2) ha hb0 hd) (aa (AJ n hq) rfl)
abbrev JV(n:Nat):D:=.int .u64 (n:Int)
theorem cV{n:Int}(h:0<=n/\n<18446744073709551616):IntKind.wrap .u64 n=n:=by
 obtain⟨h1,h2⟩:=h
 simp only[IntKind.wrap,IntKind.signed,IntKind.bits]
 first
  | omega
  | (simp;omega)
theorem zo(n:Nat){x:Int}(hx:Wd x):cA (n+4) 186 [ai x]=some (.tup [I x,.bool true]):=by
 rw[PW]
 unfold DF
 have hx':x.natAbs<4611686018427387904:=hx
 have i1:Sy.inR (-9223372036854775808):=⟨by decide,by decide⟩
 have i2:Sy.inR 9223372036854775807:=⟨by decide,by decide⟩
 refine aa (oV (n+1) hx.In) (aa bN (aa (z:=false) rfl ?_))
 rw[if_neg (by decide)]
 refine aa (AJ n i1) (aa (AJ n i2) (aa (GL n hx.In (In.of i1)) ?_))
 rw[show a7 x (-9223372036854775808)=1 by unfold a7;rw[if_neg (by omega),if_pos (by omega)]]
 refine aa (z:=.bool false) ah (aa (z:=false) rfl (aa (z:=false) ?_ (aa (z:=false) rfl ?_)))
 ·rw[if_neg (by decide)]
  refine aa (GL n hx.In (In.of i2)) ?_
  rw[show a7 x 9223372036854775807=-1 by unfold a7;rw[if_pos (by omega)]]
  exact aa (z:=.bool false) bS rfl
 ·rw[if_neg (by decide)]
  have l1:=BD x.natAbs
  have l0:=Ga x.natAbs
  refine aa (cB (i:=1) (by decide)) ?_
  rw[l1]
  refine aa (z:=JV (x.natAbs/4294967296%4294967296)) (by simp only[D.conv];rw[cV (by omega)]) ?_
  refine aa (z:=JV (x.natAbs/4294967296%4294967296*4294967296)) (by simp only[D.bin,if_true];rw[cV (by omega)];simp) ?_
  refine aa (cB (i:=0) (by decide)) ?_
  rw[l0]
  refine aa (z:=JV (x.natAbs%4294967296)) (by simp only[D.conv];rw[cV (by omega)]) ?_
  refine aa (z:=JV x.natAbs) (by simp only[D.bin,if_true];rw[cV (by omega)];congr 2;omega) ?_
  refine aa (z:=I (x.natAbs:Nat)) (by simp only[D.conv];rw[dX (by simp only[Sy.inR];omega)]) ?_
  refine aa (z:=(0,[I x])) (aa (z:=.bool (decide (x<0))) rfl (aa ae ?_)) rfl
  by_cases h:x<0
  ·refine aH h (aa (mJ (by simp only[Sy.inR];omega)) ?_)
   congr 4;omega
  ·refine aD h ?_
   congr 4;omega
theorem Oe(n:Nat){v:V}(hv:bd 2305843009213693951 v):cA (n+1) 187 [af v]=some (.bool true):=by
 rw[PX]
 unfold DG
 have stp:∀ x:Int,(-2305843009213693951<=x/\x<=2305843009213693951)->∀ (i:Nat) (hi:i<3),D.get (af v) [i]=some (I x)->(Option.bind (D.idx (I (i:Int)) 3) fun i4=>Option.bind (D.get (af v) [i4]) fun x5=>Option.bind (D.bin .geq x5 (D.int .i64 2305843009213693952)) fun x6=>Option.bind (D.truth x6) fun b7=>
  Option.bind (if b7 then(some true) else(Option.bind (D.idx (I (i:Int)) 3) fun i8=>Option.bind (D.get (af v) [i8]) fun x9=>Option.bind (D.bin .leq x9 (D.int .i64 (-2305843009213693952))) fun x10=>D.truth x10)) fun b11=>
  Option.bind (D.truth (D.bool b11)) fun b12=>if b12 then(some (Sum.inr (0,[(D.bool false)]))) else(Option.bind (D.bin .add (I (i:Int)) (D.int .i64 1)) fun x13=>some (Sum.inl [x13])))=some (Sum.inl [I ((i+1:Nat):Int)]:Sum (List D) (Nat×List D)):=fun x hx i hi hg=>by
  refine aa (ao hi) (aa hg (aa fe (aa ae (aa (z:=false) ?_ (aa (z:=false) rfl ?_)))))
  ·refine aD (by omega) (aa (ao hi) (aa hg (aa pm ?_)))
   rw[ae,decide_eq_false (by omega)]
  ·rw[if_neg (by decide)]
   exact aa (av (ar (i:=i) (by omega))) rfl
 refine cd (s':=[I (1:Nat)]) (aa ah (aa ae (aH (by decide) (stp v.x hv.1 0 (by decide) rfl)))) (cd (s':=[I (2:Nat)]) (aa ah (aa ae (aH (by decide) (stp v.y hv.2.1 1 (by decide) rfl)))) (cd (s':=[I (3:Nat)]) (aa ah (aa ae (aH (by decide) (stp v.z hv.2.2 2 (by decide) rfl)))) (ef (r:=(1,[])) (aa ah (aa ae (aD (by decide) rfl))) rfl)))
def rM(v:V):D:=.st [ai v.x,ai v.y,ai v.z]
theorem IE(n:Nat){v:V}(hx:inR v.x)(hy:inR v.y)(hz:inR v.z):cA (n+4) 80 [af v]=some (rM v):=by
 rw[TM]
 unfold JM
 exact aa (ma v) (aa (AJ n hx) (aa (mb v) (aa (AJ n hy) (aa (mc v) (aa (AJ n hz) rfl)))))
theorem N6(n:Nat){v:V}(hv:bd 549755813888 v):∃ e:Int,cA (n+5) 155 [rM v]=some (.st [af (bA v),I e]):=by
 rw[PJ]
 unfold Dt
 have wx:Wd v.x:=by have:=hv.1;unfold Wd;omega
 have wy':Wd v.y:=by have:=hv.2.1;unfold Wd;omega
 have wz:Wd v.z:=by have:=hv.2.2;unfold Wd;omega
 have h0:Sy.inR 0:=⟨by decide,by decide⟩
 have w0:Wd 0:=by unfold Wd;decide
 have q1:Nat.gcd v.x.natAbs v.y.natAbs<=4611686018427387903:=by unfold Wd at wx wy';exact nq (by omega) (by omega)
 have q2:bi v<=4611686018427387903:=by
  unfold bi
  have:=nq (a:=(Nat.gcd v.x.natAbs v.y.natAbs:Nat)) (b:=v.z) (k:=4611686018427387903) (by simpa using q1) (by unfold Wd at wz;omega)
  simpa using this
 have wxx:Wd (v.x.natAbs:Nat):=by unfold Wd at *;omega
 have w1:Wd (Nat.gcd v.x.natAbs v.y.natAbs:Nat):=by unfold Wd;omega
 have w2:Wd (bi v:Nat):=by unfold Wd;omega
 have g01:=J2 n w0 wx
 have g02:=J2 n wxx wy'
 have g03:=J2 n w1 wz
 rw[show(Nat.gcd (0:Int).natAbs v.x.natAbs)=v.x.natAbs by simp] at g01
 rw[show(Nat.gcd ((v.x.natAbs:Nat):Int).natAbs v.y.natAbs)=Nat.gcd v.x.natAbs v.y.natAbs by simp] at g02
 rw[show(Nat.gcd ((Nat.gcd v.x.natAbs v.y.natAbs:Nat):Int).natAbs v.z.natAbs)=bi v by simp[bi]] at g03
 have fst:∀ {k:Nat×List D->Option D} {y:D},k (0,[ai (bi v:Nat)])=some y->Option.bind (cA (n+4) 34 [(D.int .i64 0)]) (fun r1=>Option.bind (aP (fun(v2:List D)=>
   Option.bind (D.bin .lss (gx v2 0) (D.int .i64 3)) fun x3=>Option.bind (D.truth x3) fun b4=>
   if b4 then(Option.bind (D.idx (gx v2 0) 3) fun i5=>Option.bind (D.get (rM v) [i5]) fun x6=>Option.bind (cA (n+4) 85 [(gx v2 1),x6]) fun r7=>
   Option.bind (D.bin .add (gx v2 0) (D.int .i64 1)) fun x8=>some (Sum.inl [x8,r7])) else(some (Sum.inr (0,[(gx v2 1)])))) [(D.int .i64 0),r1]) k)=some y:=by
  intro k y hk
  refine aa (AJ (n+1) h0) ?_
  refine cd (s':=[I 1,ai (v.x.natAbs:Nat)]) (aa ah (aa ae (aH (by decide) (aa F5 (aa (z:=ai v.x) rfl (aa g01 (aa (av G1) rfl))))))) ?_
  refine cd (s':=[I 2,ai (Nat.gcd v.x.natAbs v.y.natAbs:Nat)]) (aa ah (aa ae (aH (by decide) (aa F6 (aa (z:=ai v.y) rfl (aa g02 (aa (av lg) rfl))))))) ?_
  refine cd (s':=[I 3,ai (bi v:Nat)]) (aa ah (aa ae (aH (by decide) (aa F7 (aa (z:=ai v.z) rfl (aa g03 (aa (av wP) rfl))))))) ?_
  exact ef (r:=(0,[ai (bi v:Nat)])) (aa ah (aa ae (aD (by decide) rfl))) hk
 have hsg:=Hv (n+1) w2.In
 by_cases hz:bi v=0
 ·refine⟨31,fst (aa (z:=.bool false) rfl (aa (z:=false) rfl ?_))⟩
  rw[if_neg (by decide)]
  refine aa hsg ?_
  rw[hz]
  refine aa (z:=true) rfl ?_
  rw[if_pos rfl]
  have hv0:v=V.zero:=by
   by_cases h:v=V.zero
   ·exact h
   ·have:=jJ h;omega
  rw[hv0];rfl
 ·have hg0:(bi v:Int)≠0:=by omega
  refine⟨0,fst (aa (z:=.bool false) rfl (aa (z:=false) rfl ?_))⟩
  rw[if_neg (by decide)]
  refine aa hsg ?_
  rw[jh (show(0:Int)<bi v by omega)]
  refine aa (z:=false) rfl ?_
  rw[if_neg (by decide)]
  have bp:=gS hv
  have z1:=J3 n wx w2 hg0 (vc v)
  have z2:=J3 n wy' w2 hg0 (ve v)
  have z3:=J3 n wz w2 hg0 (vf v)
  have s1:=zo n (x:=v.x/(bi v:Nat)) (by have:=bp.1;unfold Wd;simp only[bA] at this;omega)
  have s2:=zo n (x:=v.y/(bi v:Nat)) (by have:=bp.2.1;unfold Wd;simp only[bA] at this;omega)
  have s3:=zo n (x:=v.z/(bi v:Nat)) (by have:=bp.2.2;unfold Wd;simp only[bA] at this;omega)
  refine cd (s':=[I 1,.st [af V.zero,I 0],.st [af ⟨v.x/(bi v:Nat),0,0⟩,I 0]]) ?_ (cd (s':=[I 2,.st [af V.zero,I 0],.st [af ⟨v.x/(bi v:Nat),v.y/(bi v:Nat),0⟩,I 0]]) ?_ (cd (s':=[I 3,.st [af V.zero,I 0],.st [af ⟨v.x/(bi v:Nat),v.y/(bi v:Nat),v.z/(bi v:Nat)⟩,I 0]]) ?_ (ef (r:=(1,[.st [af V.zero,I 0],.st [af (bA v),I 0]])) (aa ah (aa ae (aD (by decide) rfl))) ?_)))
  ·refine aa ah (aa ae (aH (by decide) (aa F5 (aa (z:=ai v.x) rfl (aa z1 (aa s1 (aa (z:=I (v.x/(bi v:Nat))) rfl (aa (z:=.bool true) rfl (aa (z:=.bool false) rfl (aa (z:=false) rfl ?_))))))))))
   rw[if_neg (by decide)]
   exact aa F5 (aa (z:=.st [af ⟨v.x/(bi v:Nat),0,0⟩,I 0]) rfl (aa (av G1) rfl))
  ·refine aa ah (aa ae (aH (by decide) (aa F6 (aa (z:=ai v.y) rfl (aa z2 (aa s2 (aa (z:=I (v.y/(bi v:Nat))) rfl (aa (z:=.bool true) rfl (aa (z:=.bool false) rfl (aa (z:=false) rfl ?_))))))))))
   rw[if_neg (by decide)]
   exact aa F6 (aa (z:=.st [af ⟨v.x/(bi v:Nat),v.y/(bi v:Nat),0⟩,I 0]) rfl (aa (av lg) rfl))
  ·refine aa ah (aa ae (aH (by decide) (aa F7 (aa (z:=ai v.z) rfl (aa z3 (aa s3 (aa (z:=I (v.z/(bi v:Nat))) rfl (aa (z:=.bool true) rfl (aa (z:=.bool false) rfl (aa (z:=false) rfl ?_))))))))))
   rw[if_neg (by decide)]
   exact aa F7 (aa (z:=.st [af ⟨v.x/(bi v:Nat),v.y/(bi v:Nat),v.z/(bi v:Nat)⟩,I 0]) rfl (aa (av wP) rfl))
  ·rw[if_neg (show ¬ (1:Nat)=0 by decide)]
   refine aa (z:=af (bA v)) rfl (aa (Oe (n+3) (v:=bA v) ?_) (aa (z:=.bool false) rfl (aa (z:=false) rfl rfl)))
   simp only[bd] at bp ⊢;omega
theorem Ih(n:Nat){a b c:V}(ha:bd MV a)(hb:bd MV b)(hc:bd MV c):cA (n+6) 106 [af a,af b,af c]=some (af (bA (V.cross (b.sub a) (c.sub a)))):=by
 rw[O6]
 unfold CS
 have h1:bd 524288 (b.sub a):=by have:=kV hb ha;simpa [MV] using this
 have h2:bd 524288 (c.sub a):=by have:=kV hc ha;simpa [MV] using this
 have h3:=fL h1 h2
 refine aa (tn (n+4) hb ha (by decide)) (aa (tn (n+4) hc ha (by decide)) (aa (Io (n+4) h1 h2 (by decide)) ?_))
 have h4:bd 549755813888 (V.cross (b.sub a) (c.sub a)):=h3
 generalize V.cross (b.sub a) (c.sub a)=m at *
 obtain⟨e,he⟩:=N6 n h4
 refine aa (IE (n+1) ?_ ?_ ?_) (aa he rfl)
 ·have:=h4.1;simp only[Sy.inR];omega
 ·have:=h4.2.1;simp only[Sy.inR];omega
 ·have:=h4.2.2;simp only[Sy.inR];omega
end Sy
end
noncomputable section
namespace Sy
open Go Go.Proofs Geo
theorem lU:∀ {l:List Nat} {j v:Nat},j<l.length->aR (l.set j v)+65536^j*l.getD j 0=aR l+65536^j*v
 | d::l,0,v,_=>by simp only[List.set_cons_zero,aR,Nat.pow_zero,Nat.one_mul,List.getD_cons_zero];omega
 | d::l,j+1,v,h=>by
  have ih:=lU (l:=l) (j:=j) (v:=v) (by simpa using h)
  simp only[List.set_cons_succ,aR,Nat.pow_succ,List.getD_cons_succ]
  rw[Nat.mul_comm (65536^j) 65536,Nat.mul_assoc,Nat.mul_assoc]
  generalize 65536^j*l.getD j 0=x at *
  generalize 65536^j*v=y at *
  omega
theorem nj(l:List Nat)(j v:Nat):(ag l).set j (I (v:Int))=ag (l.set j v):=by simp[ag,List.map_set]
theorem jK(l:List Nat)(j v i:Nat)(h:j<l.length):(l.set j v).getD i 0=if i=j then v else l.getD i 0:=by
 by_cases e:i=j
 ·subst e;simp[List.getD,h]
 ·simp[List.getD,e,List.getElem?_set,show ¬ j=i from fun k=>e k.symm]
theorem rP(m:Nat):List.replicate m (D.int .i64 0)=ag (List.replicate m 0):=by simp[ag]
theorem pn{a b:Nat}(h:a*b<=9223372036854775807):D.bin .mul (I (a:Int)) (I (b:Int))=some (I ((a*b:Nat):Int)):=by
 rw[cE (by simp only[inR];rw[<-Int.natCast_mul];omega),Int.natCast_mul]
theorem aX{a b:Nat}(h:a+b<=9223372036854775807):D.bin .add (I (a:Int)) (I (b:Int))=some (I ((a+b:Nat):Int)):=by
 rw[av (by simp only[inR];omega),Int.natCast_add]
theorem yV(a:Nat):D.natOf (I (a:Int))=some a:=by simp[D.natOf]
theorem vE{l:List Nat}{i:Nat}(h:i<l.length):D.idx (I (i:Int)) (ag l).length=some i:=by rw[aj];exact ao h
theorem FT{l:List Nat}(h:∀ i,i<l.length->l.getD i 0<65536):dl l:=fun d hd=>by
 obtain⟨i,hi,rfl⟩:=List.getElem_of_mem hd
 have:=h i hi
 simpa [List.getD,hi] using this
theorem GI(n:Nat){a b:List Nat}(ha:dl a)(hb:dl b)(hla:a.length<=400000)(hlb:b.length<=400000):cA (n+2) 146 [.sl (ag a),.sl (ag b)]=some (.sl (ag (ay (aR a*aR b)))):=by
 rw[PH]
 unfold Dr
 obtain⟨M,hM⟩:∃ M,M=a.length+b.length+1:=⟨_,rfl⟩
 refine aa (z:=ag a) rfl (aa (z:=ag b) rfl (aa (z:=I ((a.length+b.length:Nat):Int)) (by rw[aj,aj];exact aX (by omega)) (aa (z:=I (M:Int)) (by rw[hM];exact aX (b:=1) (by omega)) (aa (yV M) ?_))))
 rw[if_pos (by omega),rP]
 refine ba (fun i s=>∃ out:List Nat,s=[I (i:Int),.sl (ag out)]/\out.length=M/\dl out/\aR out=vt a i*aR b) a.length 0 (Nat.zero_le _) ⟨List.replicate M 0,rfl,by simp,fun x hx=>by rw[List.eq_of_mem_replicate hx];decide,by have:=k9 [] M;rw[List.nil_append] at this;rw[this];simp[vt,aR]⟩ (fun i hi s hJ=>?_) (fun s hJ=>?_)
 ·obtain⟨out,rfl,ho,hdo,hv⟩:=hJ
  left
  have hai:=ha.getD i
  obtain⟨r,h1,out1,rfl,o1,o2,o3⟩:=yO (body:=fun(v10:List D)=>
   Option.bind (D.asSl (.sl (ag b))) fun l11=>
   Option.bind (D.bin .lss (gx v10 0) (D.int .i64 (List.length l11))) fun x12=>
   Option.bind (D.truth x12) fun b13=>
   if b13 then(Option.bind (D.bin .add (I (i:Int)) (gx v10 0)) fun x14=>
   Option.bind (D.bin .add (I (i:Int)) (gx v10 0)) fun x15=>
   Option.bind (D.idx x15 (List.length (D.els (gx v10 1)))) fun i16=>
   Option.bind ((D.els (gx v10 1))[i16]?) fun x17=>
   Option.bind (D.asSl (.sl (ag a))) fun l18=>
   Option.bind (D.idx (I (i:Int)) (List.length l18)) fun i19=>
   Option.bind (l18[i19]?) fun x20=>
   Option.bind (D.asSl (.sl (ag b))) fun l21=>
   Option.bind (D.idx (gx v10 0) (List.length l21)) fun i22=>
   Option.bind (l21[i22]?) fun x23=>
   Option.bind (D.bin .mul x20 x23) fun x24=>
   Option.bind (D.bin .add x17 x24) fun x25=>
   Option.bind (D.idx x14 (List.length (D.els (gx v10 1)))) fun i26=>
   Option.bind ((D.els (gx v10 1))[i26]?) fun x27=>
   Option.bind (D.bin .add (gx v10 0) (D.int .i64 1)) fun x28=>
   some (Sum.inl [x28,(D.sl (List.set (D.els (gx v10 1)) i26 x25))])) else(some (Sum.inr (0,[(D.sl (D.els (gx v10 1)))]))))
   (s0:=[I 0,.sl (ag out)])
   (fun k s=>∃ o:List Nat,s=[I (k:Int),.sl (ag o)]/\o.length=M/\(∀ j,j<M->o.getD j 0<=4295032831/\(i+k<=j->o.getD j 0<65536))/\aR o=aR out+65536^i*(a.getD i 0*vt b k))
   (fun r=>∃ o:List Nat,r=(0,[.sl (ag o)])/\o.length=M/\(∀ j,j<M->o.getD j 0<=4295032831)/\aR o=aR out+65536^i*(a.getD i 0*aR b)) b.length 0 (Nat.zero_le _)
   ⟨out,rfl,ho,fun j _=>by have:=hdo.getD j;omega,by simp[vt]⟩ (fun k hk s hJ=>by
    obtain⟨o,rfl,o1,o2,o3⟩:=hJ
    left
    have hbk:=hb.getD k
    have hik:i+k<o.length:=by omega
    have hp:a.getD i 0*b.getD k 0<=65535*65535:=Nat.mul_le_mul (by omega) (by omega)
    have hx:=(o2 (i+k) (by omega)).2 (Nat.le_refl _)
    refine⟨[I ((k+1:Nat):Int),.sl (ag (o.set (i+k) (o.getD (i+k) 0+a.getD i 0*b.getD k 0)))],?_,_,rfl,by simpa using o1,fun j hj=>?_,?_⟩
    ·refine aa (z:=ag b) rfl (aa ah (aa ae (aH (by show(k:Int)<((ag b).length:Int);rw[aj];omega) ?_)))
     refine aa (aX (a:=i) (b:=k) (by omega)) (aa (aX (a:=i) (b:=k) (by omega)) (aa (vE hik) (aa (cG hik) ?_)))
     refine aa (z:=ag a) rfl (aa (vE hi) (aa (cG hi) (aa (z:=ag b) rfl (aa (vE hk) (aa (cG hk) ?_)))))
     refine aa (pn (by omega)) (aa (aX (by omega)) (aa (vE hik) (aa (cG hik) (aa (av (ar (i:=k) (by omega))) ?_))))
     show some (Sum.inl [_,D.sl (List.set (ag o) (i+k) _)])=_
     rw[nj];rfl
    ·rw[jK _ _ _ _ hik]
     have:=o2 j hj
     split
     ·omega
     ·omega
    ·have e:=lU (l:=o) (j:=i+k) (v:=o.getD (i+k) 0+a.getD i 0*b.getD k 0) hik
     rw[vt,Nat.mul_add,Nat.mul_add]
     have e2:65536^i*(a.getD i 0*(b.getD k 0*65536^k))=65536^(i+k)*(a.getD i 0*b.getD k 0):=by
      rw[Nat.pow_add,<-Nat.mul_assoc (a.getD i 0),Nat.mul_comm (a.getD i 0*b.getD k 0),Nat.mul_assoc]
     rw[Nat.mul_add] at e
     omega) (fun s hJ=>by
    obtain⟨o,rfl,o1,o2,o3⟩:=hJ
    rw[j9] at o3
    exact⟨_,aa (z:=ag b) rfl (aa ah (aa ae (aD (by show ¬ ((b.length:Int)<((ag b).length:Int));rw[aj];omega) rfl))),o,rfl,o1,fun j hj=>(o2 j hj).1,o3⟩)
  obtain⟨r2,h2,out2,rfl,p1,p2,p3⟩:=yO (body:=fun(v30:List D)=>
   Option.bind (D.bin .lss (gx v30 1) (D.int .i64 (List.length (D.els (gx v30 2))))) fun x31=>
   Option.bind (D.truth x31) fun b32=>
   if b32 then(Option.bind (D.idx (gx v30 1) (List.length (D.els (gx v30 2)))) fun i33=>
   Option.bind ((D.els (gx v30 2))[i33]?) fun x34=>
   Option.bind (D.bin .add x34 (gx v30 0)) fun x35=>
   Option.bind (D.bin .rem x35 (D.int .i64 65536)) fun x36=>
   Option.bind (D.idx (gx v30 1) (List.length (D.els (gx v30 2)))) fun i37=>
   Option.bind ((D.els (gx v30 2))[i37]?) fun x38=>
   Option.bind (D.bin .quo x35 (D.int .i64 65536)) fun x39=>
   Option.bind (D.bin .add (gx v30 1) (D.int .i64 1)) fun x40=>
   some (Sum.inl [x39,x40,(D.sl (List.set (D.els (gx v30 2)) i37 x36))])) else(some (Sum.inr (0,[(D.sl (D.els (gx v30 2)))]))))
   (s0:=[I 0,I 0,.sl (ag out1)])
   (fun k s=>∃ (o:List Nat) (c:Nat),s=[I (c:Int),I (k:Int),.sl (ag o)]/\o.length=M/\(∀ j,j<k->o.getD j 0<65536)/\(∀ j,k<=j->o.getD j 0=out1.getD j 0)/\c<=131072/\aR o+65536^k*c=aR out1)
   (fun r=>∃ o:List Nat,r=(0,[.sl (ag o)])/\o.length=M/\dl o/\∃ c,aR o+65536^M*c=aR out1) M 0 (Nat.zero_le _)
   ⟨out1,0,rfl,o1,fun j hj=>absurd hj (Nat.not_lt_zero _),fun j _=>rfl,by omega,by simp⟩ (fun k hk s hJ=>by
    obtain⟨o,c,rfl,q1,q2,q3,q4,q5⟩:=hJ
    left
    have hko:k<o.length:=by omega
    have hx:=o2 k hk
    have hq:=q3 k (Nat.le_refl _)
    refine⟨[I (((o.getD k 0+c)/65536:Nat):Int),I ((k+1:Nat):Int),.sl (ag (o.set k ((o.getD k 0+c)%65536)))],?_,_,_,rfl,by simpa using q1,fun j hj=>?_,fun j hj=>?_,by omega,?_⟩
    ·refine aa ah (aa ae (aH (by show(k:Int)<((ag o).length:Int);rw[aj];omega) ?_))
     refine aa (vE hko) (aa (cG hko) (aa (aX (by omega)) (aa (jB (b:=65536) (by decide)) (aa (vE hko) (aa (cG hko) (aa (hC (b:=65536) (by decide) (by omega)) (aa (av (ar (i:=k) (by omega))) ?_)))))))
     show some (Sum.inl [_,_,D.sl (List.set (ag o) k _)])=_
     rw[nj];rfl
    ·rw[jK _ _ _ _ hko]
     split
     ·omega
     ·exact q2 j (by omega)
    ·rw[jK _ _ _ _ hko,if_neg (by omega)];exact q3 j (by omega)
    ·have e:=lU (l:=o) (j:=k) (v:=(o.getD k 0+c)%65536) hko
     have e2:o.getD k 0+c=(o.getD k 0+c)%65536+65536*((o.getD k 0+c)/65536):=by omega
     have e3:65536^k*(o.getD k 0+c)=65536^k*((o.getD k 0+c)%65536)+65536^k*(65536*((o.getD k 0+c)/65536)):=by rw[<-Nat.mul_add,<-e2]
     rw[Nat.mul_add] at e3
     rw[Nat.pow_succ,Nat.mul_assoc]
     omega) (fun s hJ=>by
    obtain⟨o,c,rfl,q1,q2,q3,q4,q5⟩:=hJ
    exact⟨_,aa ah (aa ae (aD (by show ¬ ((M:Int)<((ag o).length:Int));rw[aj];omega) rfl)),o,rfl,q1,FT fun j hj=>q2 j (by omega),c,q5⟩)
  obtain⟨c,p4⟩:=p3
  refine⟨[I ((i+1:Nat):Int),.sl (ag out2)],?_,out2,rfl,p1,p2,?_⟩
  ·refine aa (z:=ag a) rfl (aa ah (aa ae (aH (by show(i:Int)<((ag a).length:Int);rw[aj];omega) ?_)))
   refine aa h1 (aa h2 ?_)
   exact aa (av (ar (i:=i) (by omega))) rfl
  ·have hval:aR out1=vt a (i+1)*aR b:=by
    rw[o3,hv,vt,Nat.add_mul,Nat.mul_comm (a.getD i 0) (65536^i),Nat.mul_assoc]
   have hlt:vt a (i+1)*aR b<65536^M:=by
    have l1:=qQ ha (i+1)
    have l2:=iU hb
    have l3:vt a (i+1)*aR b<65536^(i+1)*65536^b.length:=Nat.mul_lt_mul'' l1 l2
    have l4:65536^(i+1)*65536^b.length<=65536^M:=by rw[<-Nat.pow_add];exact Nat.pow_le_pow_right (by decide) (by omega)
    omega
   have hc:c=0:=by
    rcases Nat.eq_zero_or_pos c with h|h
    ·exact h
    ·have:65536^M*1<=65536^M*c:=Nat.mul_le_mul_left _ h
     omega
   subst hc
   rw[<-hval,<-p4];simp
 ·obtain⟨out,rfl,ho,hdo,hv⟩:=hJ
  refine⟨(0,[.sl (ag out)]),aa (z:=ag a) rfl (aa ah (aa ae (aD (by show ¬ ((a.length:Int)<((ag a).length:Int));rw[aj];omega) rfl))),?_⟩
  refine aa (uR n (l:=out) (by omega)) ?_
  rw[fR hdo,hv,j9]
theorem Iq(n:Nat)(x:Int):cA (n+1) 145 [I x]=some (.bool (decide (x<2147483648)&&decide (x>-2147483648))):=by
 rw[PG]
 unfold Dq
 refine aa ah (aa ae ?_)
 cases h:decide (x<2147483648)
 ·rfl
 ·rw[if_pos rfl];exact aa (aa bS rfl) rfl
theorem ul(x y:Int):sgn (!(decide (decide (x<0)=decide (y<0)))) (x.natAbs*y.natAbs)=x*y:=by
 unfold sgn
 rw[<-Int.natAbs_mul]
 by_cases hx:x<0<;>by_cases hy:y<0
 ·have:=Int.mul_pos_of_neg_of_neg hx hy;simp[hx,hy];omega
 ·have:=Int.mul_nonpos_of_nonpos_of_nonneg (Int.le_of_lt hx) (Int.not_lt.1 hy);simp[hx,hy];omega
 ·have:=Int.mul_nonpos_of_nonneg_of_nonpos (Int.not_lt.1 hx) (Int.le_of_lt hy);simp[hx,hy];omega
 ·have:=Int.mul_nonneg (Int.not_lt.1 hx) (Int.not_lt.1 hy);simp[hx,hy];omega
theorem Hx(n:Nat){x y:Int}(hx:Wd x)(hy:Wd y):cA (n+4) 89 [ai x,ai y]=some (ai (x*y)):=by
 rw[Q2]
 unfold Ia
 refine aa (mV n hx) (aa (z:=I x) rfl (aa (z:=.bool true) rfl (aa (mV n hy) (aa (z:=I y) rfl (aa (z:=.bool true) rfl (aa (z:=true) rfl (aa (z:=true) rfl (aa (z:=true) rfl ?_))))))))
 refine aa (z:=(decide (x<2147483648)&&decide (x>-2147483648))) (by rw[if_pos rfl];exact aa (Iq (n+2) x) rfl) (aa ae ?_)
 refine aa (z:=((decide (x<2147483648)&&decide (x>-2147483648))&&(decide (y<2147483648)&&decide (y>-2147483648)))) (by
  cases (decide (x<2147483648)&&decide (x>-2147483648))
  ·rfl
  ·rw[if_pos rfl];exact aa (Iq (n+2) y) rfl) (aa ae ?_)
 cases hb:((decide (x<2147483648)&&decide (x>-2147483648))&&(decide (y<2147483648)&&decide (y>-2147483648)))
 ·rw[if_neg (by decide)]
  refine aa (oV (n+1) hx.In) (aa bN (aa ae (aa (z:=false) ?_ (aa ae ?_))))
  ·rw[if_neg (by decide)];exact aa (oV (n+1) hy.In) rfl
  ·rw[if_neg (by decide)]
   have lx:=bg 32 _ hx.In
   have ly:=bg 32 _ hy.In
   refine aa (z:=.bool (decide (x<0))) rfl (aa (z:=.bool (decide (y<0))) rfl (aa (tu (n+1) hx.In) (aa (tu (n+1) hy.In) (aa (GI (n+1) (aT _) (aT _) (by omega) (by omega)) (aa (z:=ai (x*y)) ?_ rfl)))))
   rw[ap,ap]
   have hxy:x.natAbs*y.natAbs<65536^8:=by
    have e:(65536:Nat)^8=18446744073709551616*18446744073709551616:=by decide
    rw[e];unfold Wd at hx hy
    exact Nat.mul_lt_mul'' (by omega) (by omega)
   have l8:=bg 8 _ hxy
   have h32:x.natAbs*y.natAbs<65536^32:=Nat.lt_of_lt_of_le hxy (Nat.pow_le_pow_right (by decide) (by decide))
   have:=EK (n+1) (l:=ay (x.natAbs*y.natAbs)) (neg:=!(decide (decide (x<0)=decide (y<0)))) (aT _) (by omega) (by rw[ap];exact h32)
   rw[ap,ul] at this
   rw[<-this]
   congr 4
 ·rw[if_pos rfl]
  simp only[Bool.and_eq_true,decide_eq_true_eq] at hb
  have:=eQ (A:=2147483648) (B:=2147483648) (a:=x) (b:=y) (by omega) (by omega)
  have hr:inR (x*y):=by simp only[inR];omega
  exact aa (cE hr) (aa (AJ n hr) rfl)
theorem JZ(n:Nat){x y:Int}(hx:Wd x)(hy:Wd y):cA (n+4) 59 [ai x,ai y]=some (ai (x+y)):=by
 rw[QY]
 unfold H6
 refine aa (mV n hx) (aa (z:=I x) rfl (aa (z:=.bool true) rfl (aa (mV n hy) (aa (z:=I y) rfl (aa (z:=.bool true) rfl (aa (z:=true) rfl (aa (z:=true) rfl (aa (z:=true) rfl ?_))))))))
 rw[if_pos rfl]
 have hr:inR (x+y):=by unfold Wd at hx hy;simp only[inR];omega
 exact aa (av hr) (aa (AJ n hr) rfl)
theorem SU(n:Nat){A B:Int}{u v:V}(hu:bd A u)(hv:bd B v)(hA:A<=4611686018427387903)(hB:B<=4611686018427387903)(h:3*(A*B)<=4611686018427387903):cA (n+6) 33 [af u,af v]=some (ai (V.dot u v)):=by
 have w:∀ {K:Int} {x:Int},K<=4611686018427387903->-K<=x/\x<=K->Wd x/\inR x:=fun h1 h2=>by unfold Wd;simp only[inR];omega
 have ux:=w hA hu.1;have uy:=w hA hu.2.1;have uz:=w hA hu.2.2
 have vx:=w hB hv.1;have vy:=w hB hv.2.1;have vz:=w hB hv.2.2
 have mx:=eQ hu.1 hv.1;have my:=eQ hu.2.1 hv.2.1;have mz:=eQ hu.2.2 hv.2.2
 have hAB:0<=A*B:=by omega
 rw[Tl]
 unfold Jq
 refine aa (IE (n+1) ux.2 uy.2 uz.2) (aa (IE (n+1) vx.2 vy.2 vz.2) (aa (z:=ai (V.dot u v)) ?_ rfl))
 rw[TL]
 unfold JL
 refine aa (z:=ai u.x) rfl (aa (z:=ai v.x) rfl (aa (Hx n ux.1 vx.1) (aa (z:=ai u.y) rfl (aa (z:=ai v.y) rfl (aa (Hx n uy.1 vy.1) ?_)))))
 refine aa (JZ n (w (K:=A*B) (by omega) mx).1 (w (K:=A*B) (by omega) my).1) (aa (z:=ai u.z) rfl (aa (z:=ai v.z) rfl (aa (Hx n uz.1 vz.1) ?_)))
 refine aa (JZ n ?_ (w (K:=A*B) (by omega) mz).1) rfl
 unfold Wd;omega
end Sy
end
noncomputable section
open Go
def kN(n:Nat):Nat:=2^(32*n)
theorem cT(n:Nat):kN n=2^(32*n):=rfl
attribute [irreducible] kN
def dO:Nat:=kN 16
theorem fE:dO=kN 16:=rfl
attribute [irreducible] dO
theorem lv{a b:Nat}(h:a<=b):kN a<=kN b:=by rw[cT,cT];exact Nat.pow_le_pow_right (by omega) (by omega)
theorem s8:kN 2=18446744073709551616:=by rw[cT]
theorem Ay(n:Nat):0<kN n:=by rw[cT];exact Nat.two_pow_pos _
theorem eS:0<dO:=fE ▸ Ay 16
theorem uo{n:Nat}(h:n<18446744073709551616):n<dO:=by
 rw[fE];rw[<-s8] at h;exact Nat.lt_of_lt_of_le h (lv (by omega))
def bc(X k:Nat):Int:=((X/2^(32*k)%2^32:Nat):Int)
theorem kZ(X k:Nat):bc X k<=4294967295:=by
 unfold bc;have:=Nat.mod_lt (X/2^(32*k)) (show 0<2^32 by decide);omega
theorem pJ(X k:Nat):bc X k<4294967296:=by
 unfold bc;have:=Nat.mod_lt (X/2^(32*k)) (show 0<2^32 by decide);omega
theorem bY(X k:Nat):0<=bc X k:=by unfold bc;exact Int.natCast_nonneg _
theorem Ac(a b:Nat)(h:a<=b):2^b=2^a*2^(b-a):=by rw[<-Nat.pow_add];congr 1;omega
theorem gV(X k j:Nat):bc (X%2^(32*k)) j=if j<k then bc X j else 0:=by
 unfold bc
 split
 ·rename_i h
  congr 1
  rw[Ac (32*j) (32*k) (by omega),Nat.mod_mul_right_div_self,show 32*k-32*j=32+(32*k-32*j-32) from by omega,Nat.pow_add,Nat.mod_mul_right_mod]
 ·rename_i h
  rw[Nat.div_eq_of_lt]
  ·simp
  ·exact Nat.lt_of_lt_of_le (Nat.mod_lt _ (Nat.two_pow_pos _)) (Nat.pow_le_pow_right (by decide) (by omega))
theorem tQ(n:Nat):∀ (X Y:Nat),X<2^(32*n)->Y<2^(32*n)->(∀ k,k<n->bc X k=bc Y k)->X=Y:=by
 induction n with
 | zero=>intro X Y hX hY _;simp at hX hY;omega
 | succ n ih=>
  intro X Y hX hY h
  have hs:∀ Z:Nat,Z=Z%2^(32*n)+2^(32*n)*(Z/2^(32*n)):=fun Z=>by have:=Nat.mod_add_div Z (2^(32*n));omega
  have hm:X%2^(32*n)=Y%2^(32*n):=by
   refine ih _ _ (Nat.mod_lt _ (Nat.two_pow_pos _)) (Nat.mod_lt _ (Nat.two_pow_pos _)) fun k hk=>?_
   rw[gV,gV,if_pos hk,if_pos hk]
   exact h k (by omega)
  have hd:X/2^(32*n)=Y/2^(32*n):=by
   have h1:=h n (by omega)
   unfold bc at h1
   have e:∀ Z,Z<2^(32*(n+1))->Z/2^(32*n)<2^32:=fun Z hZ=>by
    rw[Nat.div_lt_iff_lt_mul (Nat.two_pow_pos _),<-Nat.pow_add,show 32+32*n=32*(n+1) from by omega];exact hZ
   rw[Nat.mod_eq_of_lt (e X hX),Nat.mod_eq_of_lt (e Y hY)] at h1
   exact Int.ofNat.inj h1
  rw[hs X,hs Y,hm,hd]
theorem zJ{X Y:Nat}(hX:X<dO)(hY:Y<dO)(h:∀ k,k<16->bc X k=bc Y k):X=Y:=by
 rw[fE,cT] at hX hY
 exact tQ 16 X Y hX hY h
def rn(s V Z j:Nat):Int:=if j<s then bc V j else bc Z j
theorem sm(s V Z:Nat):rn s V Z s=bc Z s:=by unfold rn;rw[if_neg (Nat.lt_irrefl s)]
def dY(X Y k:Nat):Nat:=(X%2^(32*k)+Y%2^(32*k))/2^(32*k)
theorem kf(X Y k:Nat):dY X Y k<=1:=by
 unfold dY
 have h:=Nat.two_pow_pos (32*k)
 have h1:=Nat.mod_lt X h
 have h2:=Nat.mod_lt Y h
 have:(X%2^(32*k)+Y%2^(32*k))/2^(32*k)<2:=(Nat.div_lt_iff_lt_mul h).2 (by omega)
 omega
theorem n7(X Y:Nat):dY X Y 0=0:=by simp[dY,Nat.mod_one]
theorem gI(X k:Nat):X=X%2^(32*k)+2^(32*k)*(X/2^(32*k)):=by have:=Nat.mod_add_div X (2^(32*k));omega
theorem cL(k:Nat):2^(32*(k+1))=2^(32*k)*4294967296:=by rw[show 32*(k+1)=32*k+32 from by omega,Nat.pow_add]
theorem dA(X k:Nat):X%2^(32*(k+1))=X%2^(32*k)+2^(32*k)*(X/2^(32*k)%4294967296):=by rw[cL,Nat.mod_mul]
theorem nZ(X Y k:Nat):((dY X Y (k+1):Nat):Int)=((dY X Y k:Nat)+(bc X k+bc Y k))/4294967296:=by
 unfold dY bc
 have hp:=Nat.two_pow_pos (32*k)
 rw[dA,dA,cL,<-Nat.div_div_eq_div_mul]
 generalize 2^(32*k)=p at *
 have:(X%p+p*(X/p%4294967296)+(Y%p+p*(Y/p%4294967296)))/p=(X%p+Y%p)/p+(X/p%4294967296+Y/p%4294967296):=by
  rw[show X%p+p*(X/p%4294967296)+(Y%p+p*(Y/p%4294967296))=(X%p+Y%p)+p*(X/p%4294967296+Y/p%4294967296) from by rw[Nat.mul_add];omega,Nat.add_mul_div_left _ _ hp]
 rw[this]
 simp only[show(2:Nat)^32=4294967296 from rfl]
 omega
theorem yx(X Y k:Nat):bc (X+Y) k=((dY X Y k:Nat)+(bc X k+bc Y k))%4294967296:=by
 unfold dY bc
 have hp:=Nat.two_pow_pos (32*k)
 have hx:=gI X k
 have hy:=gI Y k
 generalize 2^(32*k)=p at *
 have:(X+Y)/p=(X%p+Y%p)/p+(X/p+Y/p):=by
  rw[show X+Y=(X%p+Y%p)+p*(X/p+Y/p) from by rw[Nat.mul_add];omega,Nat.add_mul_div_left _ _ hp]
 rw[this]
 simp only[show(2:Nat)^32=4294967296 from rfl]
 omega
theorem wh:2^(32*16)=dO:=by rw[fE,cT 16]
theorem zq{X Y:Nat}(hX:X<dO)(hY:Y<dO):dY X Y 16=if X+Y<dO then 0 else 1:=by
 have h:=kf X Y 16
 unfold dY at *
 rw[wh,Nat.mod_eq_of_lt hX,Nat.mod_eq_of_lt hY] at *
 split
 ·rw[Nat.div_eq_of_lt (by assumption)]
 ·have:1<=(X+Y)/dO:=(Nat.le_div_iff_mul_le eS).2 (by omega)
  omega
def bC(X Y k:Nat):Nat:=if X%2^(32*k)<Y%2^(32*k) then 1 else 0
theorem pu(X Y k:Nat):bC X Y k<=1:=by unfold bC;split<;>omega
theorem lN(X Y:Nat):bC X Y 0=0:=by simp[bC,Nat.mod_one]
theorem lM(X Y k:Nat):((bC X Y (k+1):Nat):Int)=if bc X k-bc Y k-(bC X Y k:Nat)<0 then 1 else 0:=by
 unfold bC bc
 have hp:=Nat.two_pow_pos (32*k)
 rw[dA,dA]
 have h1:=Nat.mod_lt X hp
 have h2:=Nat.mod_lt Y hp
 simp only[show(2:Nat)^32=4294967296 from rfl]
 generalize 2^(32*k)=p at *
 generalize X/p%4294967296=a
 generalize Y/p%4294967296=b
 generalize X%p=x at *
 generalize Y%p=y at *
 rcases Nat.lt_trichotomy a b with h|h|h
 ·have:p*a+p<=p*b:=by rw[<-Nat.mul_succ];exact Nat.mul_le_mul_left _ h
  rw[if_pos (by omega)]
  split<;>rw[if_pos (by omega)]<;>rfl
 ·subst h
  by_cases h3:x<y
  ·rw[if_pos (by omega),if_pos h3,if_pos (by omega)];rfl
  ·rw[if_neg (by omega),if_neg h3,if_neg (by omega)];rfl
 ·have:p*b+p<=p*a:=by rw[<-Nat.mul_succ];exact Nat.mul_le_mul_left _ h
  rw[if_neg (by omega)]
  split<;>rw[if_neg (by omega)]<;>rfl
theorem yy{X Y:Nat}(h:Y<=X)(k:Nat):bc (X-Y) k=(bc X k-bc Y k-(bC X Y k:Nat))%4294967296:=by
 unfold bC bc
 have hp:=Nat.two_pow_pos (32*k)
 have hx:=gI X k
 have hy:=gI Y k
 have h1:=Nat.mod_lt X hp
 have h2:=Nat.mod_lt Y hp
 simp only[show(2:Nat)^32=4294967296 from rfl]
 generalize 2^(32*k)=p at *
 have hle:Y/p<=X/p:=Nat.div_le_div_right h
 generalize hxq:X/p=a at *
 generalize hyq:Y/p=b at *
 generalize hxr:X%p=x at *
 generalize hyr:Y%p=y at *
 by_cases h3:x<y
 ·have hab:b<a:=by
   rcases Nat.lt_or_ge b a with h'|h'
   ·exact h'
   ·have:a=b:=by omega
    subst this;omega
  have e:X-Y=(x+p-y)+p*(a-b-1):=by
   rw[hx,hy,Nat.mul_sub,Nat.mul_sub]
   have:p*b+p<=p*a:=by rw[<-Nat.mul_succ];exact Nat.mul_le_mul_left _ hab
   omega
  rw[e,Nat.add_mul_div_left _ _ hp,Nat.div_eq_of_lt (by omega),if_pos h3]
  omega
 ·have e:X-Y=(x-y)+p*(a-b):=by
   rw[hx,hy,Nat.mul_sub]
   have:p*b<=p*a:=Nat.mul_le_mul_left _ hle
   omega
  rw[e,Nat.add_mul_div_left _ _ hp,Nat.div_eq_of_lt (by omega),if_neg h3]
  omega
theorem oL(a b:Int)(c:Nat)(a0:0<=a)(a1:a<=4294967295)(b0:0<=b)(b1:b<=4294967295)(hc:c<=1) :
  IntKind.u64.wrap (IntKind.u64.wrap (a-b)-(c:Int))/9223372036854775808=(if a-b-(c:Int)<0 then 1 else 0) ∧
  IntKind.u64.wrap (IntKind.u64.wrap (a-b)-(c:Int))%4294967296=(a-b-(c:Int))%4294967296:=by
 have e:∀ n:Int,IntKind.u64.wrap n=n%18446744073709551616:=fun n=>rfl
 rw[e,e]
 constructor
 ·split<;>omega
 ·omega
def ft(X:Nat):Nat->Nat
 | 0=>0
 | k+1=>if 2^(32*k)<=X then k+1 else ft X k
def ct(X:Nat):Nat:=ft X 16
theorem zS(X k:Nat):ft X k<=k:=by
 induction k with
 | zero=>exact Nat.le_refl _
 | succ k ih=>unfold ft;split<;>omega
theorem xt(X k:Nat)(h:ft X k≠0):2^(32*(ft X k-1))<=X:=by
 induction k with
 | zero=>exact absurd rfl h
 | succ k ih=>
  by_cases h1:2^(32*k)<=X
  ·simp only[ft,if_pos h1] at *;simpa using h1
  ·simp only[ft,if_neg h1] at *;exact ih h
theorem vZ(X k:Nat)(h:X<2^(32*k)):X<2^(32*ft X k):=by
 induction k with
 | zero=>exact h
 | succ k ih=>
  unfold ft
  split
  ·exact h
  ·exact ih (by omega)
theorem iC(X:Nat):ct X<=16:=zS X 16
theorem dC{X:Nat}(h:X<dO):X<2^(32*ct X):=vZ X 16 (by rw[fE,cT] at h;exact h)
theorem lm{X:Nat}(h:ct X≠0):2^(32*(ct X-1))<=X:=xt X 16 h
theorem tC{X k:Nat}(h:X<2^(32*(k+1))):bc X k=0↔X<2^(32*k):=by
 unfold bc
 have hp:=Nat.two_pow_pos (32*k)
 have h2:X/2^(32*k)<2^32:=by rw[Nat.div_lt_iff_lt_mul hp,<-Nat.pow_add,show 32+32*k=32*(k+1) from by omega];exact h
 rw[Nat.mod_eq_of_lt h2]
 constructor
 ·intro h3
  have h3':X/2^(32*k)=0:=by omega
  rcases(Nat.div_eq_zero_iff).1 h3' with h4|h4
  ·omega
  ·exact h4
 ·intro h3;rw[Nat.div_eq_of_lt h3];rfl
def sgn(a b:Nat):Int:=if a<b then -1 else if b<a then 1 else 0
def ie(X Y k:Nat):Prop:=X/2^(32*k)=Y/2^(32*k)
theorem zC{X Y:Nat}(hX:X<dO)(hY:Y<dO):ie X Y 16:=by
 unfold ie
 rw[fE,cT] at hX hY
 rw[Nat.div_eq_of_lt hX,Nat.div_eq_of_lt hY]
theorem km(X k:Nat):X/2^(32*k)=X/2^(32*(k+1))*4294967296+(X/2^(32*k))%4294967296:=by
 rw[cL,<-Nat.div_div_eq_div_mul];omega
theorem vD{X Y k:Nat}(h:ie X Y (k+1))(hd:bc X k=bc Y k):ie X Y k:=by
 unfold ie bc at *
 rw[km X k,km Y k,h]
 simp only[show(2:Nat)^32=4294967296 from rfl] at hd
 omega
theorem wB{X Y k:Nat}(h:ie X Y (k+1))(hd:bc X k≠bc Y k):sgn X Y=if bc X k<bc Y k then -1 else 1:=by
 unfold ie bc at *
 have hx:=km X k
 have hy:=km Y k
 have hp:=Nat.two_pow_pos (32*k)
 have sx:=gI X k
 have sy:=gI Y k
 have h1:=Nat.mod_lt X hp
 have h2:=Nat.mod_lt Y hp
 simp only[show(2:Nat)^32=4294967296 from rfl] at hd ⊢
 generalize 2^(32*k)=p at *
 unfold sgn
 by_cases hlt:X/p<Y/p
 ·have:p*(X/p)+p<=p*(Y/p):=by rw[<-Nat.mul_succ];exact Nat.mul_le_mul_left _ hlt
  rw[if_pos (by omega),if_pos (by omega)]
 ·have hgt:Y/p<X/p:=by omega
  have:p*(Y/p)+p<=p*(X/p):=by rw[<-Nat.mul_succ];exact Nat.mul_le_mul_left _ hgt
  rw[if_neg (by omega),if_pos (by omega),if_neg (by omega)]
theorem Aq{X Y:Nat}(h:ie X Y 0):sgn X Y=0:=by
 have:X=Y:=by simpa [ie] using h
 subst this;simp[sgn]
theorem cz(X k:Nat):bc X k=((X/2^(32*k)%4294967296:Nat):Int):=rfl
theorem eJ{X n k:Nat}(h:X<2^(32*n))(hk:n<=k):bc X k=0:=by
 rw[cz,Nat.div_eq_of_lt (Nat.lt_of_lt_of_le h (Nat.pow_le_pow_right (by omega) (by omega)))];rfl
theorem iS(X c s j:Nat)(h:j<s):bc (X+c*2^(32*s)) j=bc X j:=by
 rw[cz,cz]
 congr 1
 rw[show 32*s=32*j+(32+32*(s-j-1)) from by omega,Nat.pow_add,Nat.pow_add,show c*(2^(32*j)*(2^32*2^(32*(s-j-1))))=2^(32*j)*(4294967296*(c*2^(32*(s-j-1)))) from by
  rw[show(2:Nat)^32=4294967296 from rfl];ac_rfl,Nat.add_mul_div_left _ _ (Nat.two_pow_pos _),Nat.add_mul_mod_self_left]
def eG(A B i:Nat):Nat:=A%2^(32*i)*B
def lj(A B i k:Nat):Nat:=eG A B i+(A/2^(32*i)%4294967296)*(B%2^(32*k))*2^(32*i)
def mu(A B i k:Nat):Nat:=lj A B i k/2^(32*(i+k))-eG A B i/2^(32*(i+k))
def tW(A B i k:Nat):Nat->Int:=rn (i+k) (lj A B i k) (eG A B i)
theorem su(A B i:Nat):lj A B i 0=eG A B i:=by simp[lj,Nat.mod_one]
theorem so(A B i:Nat):mu A B i 0=0:=by simp[mu,su]
theorem zQ(A B i:Nat):tW A B i 0=bc (eG A B i):=by
 funext j;simp[tW,su,rn]
theorem ss(A B i k:Nat):lj A B i (k+1)=lj A B i k+(A/2^(32*i)%4294967296)*(B/2^(32*k)%4294967296)*2^(32*(i+k)):=by
 unfold lj
 rw[dA,show 32*(i+k)=32*i+32*k from by omega,Nat.pow_add,Nat.mul_add,Nat.add_mul,Nat.add_assoc]
 congr 2
 ac_rfl
theorem Fd(A B i k:Nat):eG A B i<=lj A B i k:=Nat.le_add_right _ _
theorem tU(A B i k:Nat):mu A B i k+eG A B i/2^(32*(i+k))=lj A B i k/2^(32*(i+k)):=by
 unfold mu;have:=Nat.div_le_div_right (c:=2^(32*(i+k))) (Fd A B i k);omega
theorem vX(A B i k:Nat):lj A B i (k+1)/2^(32*(i+k))=mu A B i k+eG A B i/2^(32*(i+k))+(A/2^(32*i)%4294967296)*(B/2^(32*k)%4294967296):=by
 rw[ss,Nat.add_mul_div_right _ _ (Nat.two_pow_pos _),tU]
theorem ql(A B i k:Nat):mu A B i (k+1)=(mu A B i k+((A/2^(32*i)%4294967296)*(B/2^(32*k)%4294967296)+eG A B i/2^(32*(i+k))%4294967296))/4294967296:=by
 have h1:=tU A B i (k+1)
 have h2:=vX A B i k
 have e:∀ X,X/2^(32*(i+(k+1)))=X/2^(32*(i+k))/4294967296:=fun X=>by
  rw[show i+(k+1)=i+k+1 from by omega,cL,Nat.div_div_eq_div_mul]
 rw[e,e,h2] at h1
 generalize A/2^(32*i)%4294967296*(B/2^(32*k)%4294967296)=p at *
 generalize eG A B i/2^(32*(i+k))=z at *
 omega
theorem rF(a p q z c:Nat):(((a+(p*q+z))/c:Nat):Int)=((a:Int)+((p:Int)*q+z))/(c:Int):=by push_cast;rfl
theorem pB(a p q z c:Nat):(((a+(p*q+z))%c:Nat):Int)=((a:Int)+((p:Int)*q+z))%(c:Int):=by push_cast;rfl
theorem zM(A B i k:Nat):((mu A B i (k+1):Nat):Int)=((mu A B i k:Nat)+(bc A i*bc B k+bc (eG A B i) (i+k)))/4294967296:=by
 rw[ql,cz,cz,cz];exact rF _ _ _ _ 4294967296
theorem tV(A B i k:Nat):mu A B i k<=4294967295:=by
 induction k with
 | zero=>rw[so];omega
 | succ k ih=>
  rw[ql]
  have h1:A/2^(32*i)%4294967296<=4294967295:=by have:=Nat.mod_lt (A/2^(32*i)) (show 0<4294967296 by omega);omega
  have h2:B/2^(32*k)%4294967296<=4294967295:=by have:=Nat.mod_lt (B/2^(32*k)) (show 0<4294967296 by omega);omega
  have h3:=Nat.mul_le_mul h1 h2
  have h4:=Nat.mod_lt (eG A B i/2^(32*(i+k))) (show 0<4294967296 by omega)
  omega
theorem zO(A B i k:Nat):tW A B i k (i+k)=bc (eG A B i) (i+k):=sm _ _ _
theorem BN(A B i k:Nat):bc (lj A B i (k+1)) (i+k)=((mu A B i k:Nat)+(bc A i*bc B k+bc (eG A B i) (i+k)))%4294967296:=by
 rw[cz (lj _ _ _ _),vX,cz,cz,cz]
 refine Eq.trans (congrArg Nat.cast ?_) (pB _ _ _ _ 4294967296)
 generalize A/2^(32*i)%4294967296*(B/2^(32*k)%4294967296)=p
 generalize eG A B i/2^(32*(i+k))=z
 omega
theorem sv{A B i m:Nat}(hB:B<2^(32*m)):eG A B (i+1)=lj A B i m:=by
 unfold eG lj eG
 rw[dA,Nat.mod_eq_of_lt hB,Nat.add_mul];congr 1;ac_rfl
theorem yU{A B i m:Nat}(hB:B<2^(32*m)):eG A B i<2^(32*(i+m)):=by
 unfold eG
 rw[show 32*(i+m)=32*i+32*m from by omega,Nat.pow_add]
 exact Nat.mul_lt_mul'' (Nat.mod_lt _ (Nat.two_pow_pos _)) hB
theorem zR(A B:Nat):eG A B 0=0:=by simp[eG,Nat.mod_one]
theorem BO{A B n:Nat}(hA:A<2^(32*n)):eG A B n=A*B:=by unfold eG;rw[Nat.mod_eq_of_lt hA]
theorem lQ(k:Nat):bc 0 k=0:=by simp[bc]
theorem iT(X a k:Nat):bc (X/2^(32*a)) k=bc X (a+k):=by
 rw[cz,cz,Nat.div_div_eq_div_mul,<-Nat.pow_add,Nat.mul_add]
theorem u4(X a k:Nat):bc (X/kN a) k=bc X (a+k):=by rw[cT,iT]
theorem BL(a b D c:Nat):(a+b*D)%c=(a+b%c*D)%c:=by
 have h:b*D%c=b%c*D%c:=by rw[Nat.mul_mod b D c,Nat.mul_mod (b%c) D c,Nat.mod_mod b c]
 rw[Nat.add_mod,h,<-Nat.add_mod]
def fr(X D k:Nat):Nat:=X%2^(32*k)*D/2^(32*k)
theorem sr(X D:Nat):fr X D 0=0:=by simp[fr,Nat.mod_one]
theorem tX(X k:Nat){D:Nat}(h:0<D):fr X D k<D:=by
 unfold fr
 rw[Nat.div_lt_iff_lt_mul (Nat.two_pow_pos _),Nat.mul_comm D]
 exact Nat.mul_lt_mul_of_pos_right (Nat.mod_lt _ (Nat.two_pow_pos _)) h
theorem xp(X D k:Nat):fr X D (k+1)=(fr X D k+X/2^(32*k)%4294967296*D)/4294967296:=by
 unfold fr
 rw[dA,cL,<-Nat.div_div_eq_div_mul,Nat.add_mul,Nat.mul_assoc,Nat.add_mul_div_left _ _ (Nat.two_pow_pos _)]
theorem sq(X D k:Nat):((fr X D (k+1):Nat):Int)=((fr X D k:Nat)+bc X k*(D:Nat))/4294967296:=by
 have h:=rF (fr X D k) (X/2^(32*k)%4294967296) D 0 4294967296
 simp only[Nat.add_zero,Int.add_zero,Int.natCast_zero,Int.cast_ofNat_Int] at h
 rw[xp,cz];exact h
theorem vW(X D k:Nat):bc (X*D) k=((fr X D k:Nat)+bc X k*(D:Nat))%4294967296:=by
 have h:=pB (fr X D k) (X/2^(32*k)%4294967296) D 0 4294967296
 simp only[Nat.add_zero,Int.add_zero,Int.natCast_zero,Int.cast_ofNat_Int] at h
 rw[cz,cz]
 refine Eq.trans (congrArg Nat.cast ?_) h
 have e:X*D/2^(32*k)=fr X D k+X/2^(32*k)*D:=by
  unfold fr
  rw[<-Nat.add_mul_div_left _ _ (Nat.two_pow_pos (32*k)),<-Nat.mul_assoc,<-Nat.add_mul,<-gI]
 rw[e,BL]
theorem BM{X D:Nat}(h:X<dO):fr X D 16=X*D/dO:=by
 unfold fr;rw[wh,Nat.mod_eq_of_lt h]
theorem Bj(X n k:Nat)(hn:n<=32):bc (X/2^n) k=(bc X (k+1)*4294967296+bc X k)/((2^n:Nat):Int)%4294967296:=by
 rw[cz,cz,cz,cL,<-Nat.div_div_eq_div_mul,Nat.div_div_eq_div_mul,Nat.mul_comm (2^n),<-Nat.div_div_eq_div_mul]
 generalize X/2^(32*k)=Y
 have e:(((Y/4294967296%4294967296:Nat):Int)*4294967296+((Y%4294967296:Nat):Int))=((Y%(2^n*(2^(32-n)*4294967296)):Nat):Int):=by
  rw[<-Nat.mul_assoc,<-Nat.pow_add,show n+(32-n)=32 from by omega,show(2:Nat)^32=4294967296 from rfl]
  omega
 rw[e,<-Int.natCast_ediv,Nat.mod_mul_right_div_self]
 generalize Y/2^n=Z
 have h:Z%4294967296=Z%(2^(32-n)*4294967296)%4294967296:=(Nat.mod_mul_left_mod _ _ _).symm
 rw[h]
 exact Int.natCast_emod _ 4294967296
theorem sf(X k j:Nat):bc (X/2^(32*k)*2^(32*k)) j=if j<k then 0 else bc X j:=by
 have h:=iS 0 (X/2^(32*k)) k j
 by_cases hj:j<k
 ·rw[if_pos hj];rw[Nat.zero_add] at h;rw[h hj,lQ]
 ·rw[if_neg hj,show j=k+(j-k) from by omega,<-iT,Nat.mul_div_cancel _ (Nat.two_pow_pos _),iT]
def dT(X b k:Nat):Nat:=X/2^(32*k)%b
theorem wp(X k:Nat){b:Nat}(h:0<b):dT X b k<b:=Nat.mod_lt _ h
theorem pL(X k:Nat):X/2^(32*k)=X/2^(32*(k+1))*4294967296+X/2^(32*k)%4294967296:=by
 rw[cL,<-Nat.div_div_eq_div_mul];omega
theorem xH(X b k:Nat):dT X b k=(dT X b (k+1)*4294967296+X/2^(32*k)%4294967296)%b:=by
 unfold dT
 conv=>lhs;rw[pL X k]
 rw[Nat.add_comm,BL,Nat.add_comm]
theorem Ar(X k:Nat){b:Nat}(hb:0<b)(h:b<=4294967295):X/b/2^(32*k)%4294967296=(dT X b (k+1)*4294967296+X/2^(32*k)%4294967296)/b:=by
 have e:X/b/2^(32*k)=X/2^(32*(k+1))/b*4294967296+(dT X b (k+1)*4294967296+X/2^(32*k)%4294967296)/b:=by
  rw[Nat.div_div_eq_div_mul,Nat.mul_comm,<-Nat.div_div_eq_div_mul]
  conv=>lhs;rw[pL X k]
  unfold dT
  generalize X/2^(32*(k+1))=Y
  generalize X/2^(32*k)%4294967296=z
  conv=>lhs;rw[show Y*4294967296+z=b*(Y/b*4294967296)+(Y%b*4294967296+z) from by
   have:=Nat.div_add_mod Y b
   conv=>lhs;rw[<-this]
   rw[Nat.add_mul,Nat.mul_assoc];omega]
  rw[Nat.mul_add_div hb]
 have hlt:(dT X b (k+1)*4294967296+X/2^(32*k)%4294967296)/b<4294967296:=by
  rw[Nat.div_lt_iff_lt_mul hb]
  have h1:=wp X (k+1) hb
  have h2:=Nat.mod_lt (X/2^(32*k)) (show 0<4294967296 by omega)
  have h3:(dT X b (k+1)+1)*4294967296<=b*4294967296:=Nat.mul_le_mul_right _ h1
  omega
 rw[e,Nat.mul_comm (_/b),Nat.mul_add_mod,Nat.mod_eq_of_lt hlt]
theorem Am(X b:Nat):dT X b 0=X%b:=by simp[dT]
structure Heads(W V P T F u v:Nat):Prop where
 w:W/P=T*4294967296+u
 d:V/P=F*4294967296+v
 u:u<4294967296
 v:v<4294967296
 one:1<=F
 pos:0<P
 lt:W<V*4294967296
variable{W V P T F u v:Nat}
theorem Heads.key{d r:Nat}(h:d*F+r=T):d*(F*4294967296+v)+r*4294967296=T*4294967296+d*v:=by
 rw[<-h,Nat.mul_add,Nat.add_mul,Nat.mul_assoc];omega
theorem Heads.vpos(H:Heads W V P T F u v):0<V:=by
 rcases Nat.eq_zero_or_pos V with h|h
 ·have:=H.lt;rw[h] at this;omega
 ·exact h
theorem Heads.over(H:Heads W V P T F u v){d:Nat}(h:W/P<d*(V/P)):W/V<d:=by
 apply Nat.div_lt_of_lt_mul
 have h1:W<(W/P+1)*P:=by have:=Nat.div_add_mod W P;have:=Nat.mod_lt W H.pos;rw[Nat.add_mul,Nat.mul_comm (W/P)];omega
 have h2:(W/P+1)*P<=d*(V/P)*P:=Nat.mul_le_mul_right _ h
 have h3:d*(V/P)*P<=d*V:=by rw[Nat.mul_assoc];exact Nat.mul_le_mul_left _ (Nat.div_mul_le_self V P)
 rw[Nat.mul_comm V];omega
theorem Heads.under(H:Heads W V P T F u v){d:Nat}(h:d*(V/P)<=W/P)(hd:d<4294967296):d<=W/V+1:=by
 rcases Nat.eq_zero_or_pos d with h0|h0
 ·rw[h0];exact Nat.zero_le _
 obtain⟨e,rfl⟩:∃ e,d=e+1:=⟨d-1,by omega⟩
 have hb:e<=V/P:=by rw[H.d];have h1:1*4294967296<=F*4294967296:=Nat.mul_le_mul_right _ H.one;omega
 have:e<=W/V:=by
  rw[Nat.le_div_iff_mul_le H.vpos]
  have h1:V<=(V/P+1)*P:=by have:=Nat.div_add_mod V P;have:=Nat.mod_lt V H.pos;rw[Nat.add_mul,Nat.mul_comm (V/P)];omega
  have h2:e*V<=e*((V/P+1)*P):=Nat.mul_le_mul_left _ h1
  have h3:e*((V/P+1)*P)<=(e+1)*(V/P)*P:=by
   rw[<-Nat.mul_assoc];apply Nat.mul_le_mul_right;rw[Nat.mul_add,Nat.add_mul];omega
  have h4:(e+1)*(V/P)*P<=W/P*P:=Nat.mul_le_mul_right _ h
  have h5:=Nat.div_mul_le_self W P
  omega
 exact Nat.succ_le_succ this
theorem Heads.q_lt(H:Heads W V P T F u v):W/V<4294967296:=Nat.div_lt_of_lt_mul (by have:=H.lt;omega)
theorem Heads.start(H:Heads W V P T F u v):W/V<=T/F:=by
 have h1:W/V<T/F+1:=by
  apply H.over
  rw[H.w,H.d]
  have h2:T<(T/F+1)*F:=by have:=Nat.div_add_mod T F;have:=Nat.mod_lt T (show 0<F from H.one);rw[Nat.add_mul,Nat.mul_comm (T/F)];omega
  have h3:(T+1)*4294967296<=(T/F+1)*F*4294967296:=Nat.mul_le_mul_right _ h2
  have h4:(T/F+1)*F*4294967296<=(T/F+1)*(F*4294967296+v):=by rw[Nat.mul_assoc];exact Nat.mul_le_mul_left _ (Nat.le_add_right _ _)
  have h5:=H.u
  exact Nat.lt_of_lt_of_le (by omega) (Nat.le_trans h3 h4)
 exact Nat.le_of_lt_succ h1
theorem Heads.step_big(H:Heads W V P T F u v){d:Nat}(h:4294967296<=d):W/V<=d-1:=Nat.le_sub_one_of_lt (Nat.lt_of_lt_of_le H.q_lt h)
theorem Cl{A B T r u c:Nat}(hk:A+r*c=T*c+B)(ht:r*c+u<B):T*c+u<A:=by omega
theorem Heads.step(H:Heads W V P T F u v){d r:Nat}(h:d*F+r=T)(ht:r*4294967296+u<d*v):W/V<=d-1/\1<=d:=by
 have h1:W/V<d:=by
  apply H.over
  rw[H.w,H.d]
  exact Cl (Heads.key (v:=v) h) ht
 exact⟨Nat.le_sub_one_of_lt h1,Nat.lt_of_le_of_lt (Nat.zero_le _) h1⟩
theorem Heads.t_lt(H:Heads W V P T F u v):T<(F+1)*4294967296:=by
 have h1:W/P*P<=W:=Nat.div_mul_le_self W P
 have h2:V<(V/P+1)*P:=by have:=Nat.div_add_mod V P;have:=Nat.mod_lt V H.pos;rw[Nat.add_mul,Nat.mul_comm (V/P)];omega
 have h3:V*4294967296<(V/P+1)*P*4294967296:=Nat.mul_lt_mul_of_pos_right h2 (by omega)
 have h4:=H.lt
 have h5:W/P*P<(V/P+1)*4294967296*P:=by rw[Nat.mul_right_comm];omega
 have h6:W/P<(V/P+1)*4294967296:=Nat.lt_of_mul_lt_mul_right h5
 rw[H.w,H.d] at h6
 have h7:=H.v
 rw[Nat.add_mul]
 omega
theorem Heads.done(H:Heads W V P T F u v){d r:Nat}(h:d*F+r=T)(hr:4294967296<=r\/(d<4294967296/\d*v<=r*4294967296+u)):d<4294967296/\d<=W/V+1:=by
 have hd:d<4294967296:=by
  rcases hr with hr|hr
  ·have h1:=H.t_lt
   rw[Nat.add_mul,Nat.one_mul] at h1
   have h2:d*F<4294967296*F:=by omega
   exact Nat.lt_of_mul_lt_mul_right h2
  ·exact hr.1
 refine⟨hd,H.under ?_ hd⟩
 rw[H.w,H.d]
 have hk:=Heads.key (v:=v) h
 rcases hr with hr|hr
 ·have h1:d*v<=4294967295*4294967295:=Nat.mul_le_mul (by omega) (by have:=H.v;omega)
  omega
 ·omega
def dg(X k:Nat):Nat:=X/2^(32*k)%4294967296
theorem m8(X k:Nat):bc X k=(dg X k:Nat):=rfl
theorem et(X k:Nat):dg X k<4294967296:=Nat.mod_lt _ (by omega)
theorem yw(X k:Nat):dg X k<=4294967295:=Nat.le_of_lt_succ (et X k)
theorem lT(X k:Nat):X/2^(32*k)=X/2^(32*(k+1))*4294967296+dg X k:=pL X k
theorem iq{X k:Nat}(h:X<2^(32*(k+1))):X/2^(32*k)=dg X k:=by
 rw[lT,Nat.div_eq_of_lt h,Nat.zero_mul,Nat.zero_add]
theorem Bw{U V e j:Nat}(hV:V<2^(32*(e+2)))(hV1:2^(32*(e+1))<=V)(hU:U/2^(32*j)<V*4294967296) :
  Heads (U/2^(32*j)) V (2^(32*e)) (dg U (j+e+2)*4294967296+dg U (j+e+1)) (dg V (e+1)) (dg U (j+e)) (dg V e):=by
 have hc:∀ k,U/2^(32*j)/2^(32*k)=U/2^(32*(j+k)):=fun k=>by rw[Nat.div_div_eq_div_mul,<-Nat.pow_add,Nat.mul_add]
 have hUl:U<2^(32*(j+e+2+1)):=by
  have h1:=(Nat.div_lt_iff_lt_mul (Nat.two_pow_pos (32*j))).1 hU
  have h2:V*4294967296*2^(32*j)<2^(32*(e+2))*4294967296*2^(32*j):=Nat.mul_lt_mul_of_pos_right (Nat.mul_lt_mul_of_pos_right hV (by omega)) (Nat.two_pow_pos _)
  have h3:2^(32*(e+2))*4294967296*2^(32*j)=2^(32*(j+e+2+1)):=by
   rw[cL (j+e+2),show 32*(j+e+2)=32*j+32*(e+2) from by omega,Nat.pow_add,Nat.mul_right_comm,Nat.mul_comm (2^(32*(e+2))) (2^(32*j))]
  rw[<-h3];exact Nat.lt_trans h1 h2
 refine⟨?_,?_,et _ _,et _ _,?_,Nat.two_pow_pos _,hU⟩
 ·rw[hc,lT,lT U (j+e+1),iq hUl]
 ·rw[lT,iq hV]
 ·rw[<-iq hV];exact(Nat.le_div_iff_mul_le (Nat.two_pow_pos _)).2 (by rw[Nat.one_mul];exact hV1)
theorem Hh(U i k:Nat):dg U i*4294967296+dg U k<=18446744073709551615:=by
 have h1:=yw U i;have h2:=yw U k;omega
theorem xe{T F D R:Nat}(h:D*F+R=T)(hD:1<=D):(D-1)*F+(R+F)=T:=by
 obtain⟨E,rfl⟩:∃ E,D=E+1:=⟨D-1,by omega⟩
 rw[Nat.add_mul,Nat.one_mul] at h
 rw[Nat.add_sub_cancel];omega
theorem q8{X X' Y k:Nat}(h:X%2^(32*k)=X'%2^(32*k)):bC X Y k=bC X' Y k:=by unfold bC;rw[h]
def dS(U Z j:Nat):Nat:=U%2^(32*j)+Z*2^(32*j)
theorem zW{U Z j t:Nat}(h:t<j):bc (dS U Z j) t=bc U t:=by
 unfold dS;rw[iS _ _ _ _ h,gV,if_pos h]
theorem xv(U Z j i:Nat):bc (dS U Z j) (j+i)=bc Z i:=by
 rw[<-iT];unfold dS
 rw[Nat.add_mul_div_right _ _ (Nat.two_pow_pos _),Nat.div_eq_of_lt (Nat.mod_lt _ (Nat.two_pow_pos _)),Nat.zero_add]
def rA(U Z j i:Nat):Nat->Int:=rn (j+i) (dS U Z j) U
theorem sV(U Z j:Nat):rA U Z j 0=bc U:=by
 funext t;unfold rA rn;split
 ·rename_i h;exact zW (by omega)
 ·rfl
theorem ks(U Z j i:Nat):rA U Z j i (j+i)=bc U (j+i):=sm _ _ _
def kc(W Y m:Nat):Nat:=(W+2^(32*m)-Y)%2^(32*m)
theorem AG{W Y m i:Nat}(hi:i<m)(hY:Y<=2^(32*m)):bc (kc W Y m) i=(bc W i-bc Y i-(bC W Y i:Nat))%4294967296:=by
 have hd:bc (W+2^(32*m)) i=bc W i:=by
  have:=iS W 1 m i hi;rwa [Nat.one_mul] at this
 have hb:bC (W+2^(32*m)) Y i=bC W Y i:=q8 (by
  rw[show 32*m=32*i+(32*m-32*i) from by omega,Nat.pow_add,Nat.add_mul_mod_self_left])
 unfold kc
 rw[gV,if_pos hi,yy (by omega),hd,hb]
theorem CE(W Y m:Nat):kc W Y m<2^(32*m):=Nat.mod_lt _ (Nat.two_pow_pos _)
theorem uQ{W Y m:Nat}(hW:W<2^(32*m))(hY:Y<2^(32*m)):bC W Y m=if W<Y then 1 else 0:=by
 unfold bC;rw[Nat.mod_eq_of_lt hW,Nat.mod_eq_of_lt hY]
def dp(N V j:Nat):Nat:=N/V%2^(32*j)*V+N%V
theorem Al(N V:Nat):dp N V 0=N%V:=by simp[dp,Nat.mod_one]
theorem xF{N V k:Nat}(h:N/V<2^(32*k)):dp N V k=N:=by
 unfold dp;rw[Nat.mod_eq_of_lt h,Nat.mul_comm];exact Nat.div_add_mod N V
theorem sM(N V j:Nat):dp N V (j+1)=dp N V j+dg (N/V) j*V*2^(32*j):=by
 unfold dp dg
 rw[dA]
 generalize N/V/2^(32*j)%4294967296=t
 generalize 2^(32*j)=P
 rw[Nat.add_mul,show P*t*V=t*V*P from by rw[Nat.mul_comm P t,Nat.mul_right_comm]]
 omega
theorem ud{N V:Nat}(j:Nat)(h:0<V):dp N V j<V*2^(32*j):=by
 unfold dp
 have h1:=Nat.mod_lt (N/V) (Nat.two_pow_pos (32*j))
 have h2:=Nat.mod_lt N h
 have h3:(N/V%2^(32*j)+1)*V<=2^(32*j)*V:=Nat.mul_le_mul_right _ h1
 rw[Nat.add_mul,Nat.one_mul] at h3
 rw[Nat.mul_comm V];omega
theorem mw{N V:Nat}(j:Nat)(h:0<V):dp N V j/2^(32*j)<V:=by
 rw[Nat.div_lt_iff_lt_mul (Nat.two_pow_pos _)];exact ud j h
theorem nL(N V j:Nat):dp N V (j+1)/2^(32*j)=dp N V j/2^(32*j)+V*dg (N/V) j:=by
 rw[sM,Nat.add_mul_div_right _ _ (Nat.two_pow_pos _),Nat.mul_comm V]
theorem wo(N V j:Nat):dp N V (j+1)%2^(32*j)=dp N V j%2^(32*j):=by
 rw[sM,Nat.add_mul_mod_self_right]
theorem B9{N V:Nat}(j:Nat)(h:0<V):dp N V (j+1)/2^(32*j)/V=dg (N/V) j:=by
 rw[nL,Nat.add_mul_div_left _ _ h,Nat.div_eq_of_lt (mw j h),Nat.zero_add]
theorem Cb{N V:Nat}(j:Nat)(h:0<V):dp N V (j+1)/2^(32*j)<V*4294967296:=by
 rw[Nat.div_lt_iff_lt_mul (Nat.two_pow_pos _),Nat.mul_assoc,Nat.mul_comm 4294967296,<-cL];exact ud (j+1) h
theorem Ak{N V n:Nat}(j:Nat)(h:0<V)(hV:V<2^(32*n)):dp N V (j+1)<2^(32*(j+n+1)):=by
 have h1:=ud (N:=N) (j+1) h
 have h2:V*2^(32*(j+1))<2^(32*n)*2^(32*(j+1)):=Nat.mul_lt_mul_of_pos_right hV (Nat.two_pow_pos _)
 rw[<-Nat.pow_add,show 32*n+32*(j+1)=32*(j+n+1) from by omega] at h2
 omega
theorem sH{U U' j:Nat}(h:U%2^(32*j)=U'%2^(32*j)):dS U (U'/2^(32*j)) j=U':=by
 unfold dS;rw[h,Nat.mul_comm (U'/2^(32*j)) (2^(32*j))];exact Nat.mod_add_div U' _
theorem zX(U Z j:Nat):dS U Z j%2^(32*j)=U%2^(32*j):=by
 unfold dS;rw[Nat.add_mul_mod_self_right,Nat.mod_mod]
theorem zV(U Z j:Nat):dS U Z j/2^(32*j)=Z:=by
 unfold dS;rw[Nat.add_mul_div_right _ _ (Nat.two_pow_pos _),Nat.div_eq_of_lt (Nat.mod_lt _ (Nat.two_pow_pos _)),Nat.zero_add]
theorem we{U Z j m:Nat}(hZ:Z<2^(32*m)):dS U Z j<2^(32*(j+m)):=by
 have h1:dS U Z j<(Z+1)*2^(32*j):=by unfold dS;have:=Nat.mod_lt U (Nat.two_pow_pos (32*j));rw[Nat.add_mul];omega
 have h2:(Z+1)*2^(32*j)<=2^(32*m)*2^(32*j):=Nat.mul_le_mul_right _ hZ
 rw[<-Nat.pow_add,show 32*m+32*j=32*(j+m) from by omega] at h2
 omega
variable{N V n:Nat}
theorem kW(hV:V<2^(32*n)):V<2^(32*(n+1)):=Nat.lt_of_lt_of_le hV (Nat.pow_le_pow_right (by omega) (by omega))
theorem uC{x y B:Nat}(hx:x<B):(x+y+B-y)%B=x:=by
 rw[show x+y+B-y=x+B from by omega,Nat.add_mod_right,Nat.mod_eq_of_lt hx]
theorem wr(j:Nat)(h:0<V)(hV:V<2^(32*n)) :
  dS (dp N V (j+1)) (kc (dp N V (j+1)/2^(32*j)) (V*dg (N/V) j) (n+1)) j=dp N V j:=by
 have e:kc (dp N V (j+1)/2^(32*j)) (V*dg (N/V) j) (n+1)=dp N V j/2^(32*j):=by
  unfold kc;rw[nL];exact uC (Nat.lt_trans (mw j h) (kW hV))
 rw[e,sH (wo N V j)]
theorem AH(j:Nat)(h:0<V)(hV:V<2^(32*n)) :
  kc (dp N V (j+1)/2^(32*j)) (V*(dg (N/V) j+1)) (n+1)=dp N V j/2^(32*j)+2^(32*(n+1))-V:=by
 have h1:=mw (N:=N) j h
 have h2:=kW hV
 unfold kc
 rw[nL,Nat.mul_add V (dg (N/V) j) 1,Nat.mul_one]
 generalize 2^(32*(n+1))=B at *
 generalize dp N V j/2^(32*j)=x at *
 generalize V*dg (N/V) j=y
 rw[show x+y+B-(y+V)=x+B-V from by omega,Nat.mod_eq_of_lt (by omega)]
theorem ws(j:Nat)(h:0<V)(hV:V<2^(32*n)){U1:Nat}(e1:U1=dS (dp N V (j+1)) (kc (dp N V (j+1)/2^(32*j)) (V*(dg (N/V) j+1)) (n+1)) j) :
  dS U1 ((U1/2^(32*j)+V)%2^(32*(n+1))) j=dp N V j:=by
 have h1:=mw (N:=N) j h
 have h2:=kW hV
 have e2:(U1/2^(32*j)+V)%2^(32*(n+1))=dp N V j/2^(32*j):=by
  rw[e1,zV,AH j h hV]
  generalize 2^(32*(n+1))=B at *
  generalize dp N V j/2^(32*j)=x at *
  rw[show x+B-V+V=x+B from by omega,Nat.add_mod_right,Nat.mod_eq_of_lt (by omega)]
 rw[e2,sH (by rw[e1,zX,wo])]
end
end Go.Proofs.YtpahompifldeeaaGreat
