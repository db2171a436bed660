/- Part 19 of the proof that PlaneChecksMatchSpec answers true at every input -/
import Derived.Test.YtphlmegkommlnaaGreatDoorChecks01
import Derived.Test.YtphlmegkommlnaaGreatDoorChecks18
set_option linter.unusedVariables false
set_option linter.unusedSimpArgs false
set_option linter.unnecessarySimpa false
set_option linter.defProp false
set_option maxRecDepth 20000
namespace Go.Proofs.YtphlmegkommlnaaGreatDoor
noncomputable section
namespace Sy
open Go Go.Proofs Geo
def gn(l:List V)(m:V)(a b x:Nat):Bool:=
 decide (0<=T m (wy (pt l) a b) (wy (pt l) a x))&&(!decide (T m (wy (pt l) a b) (wy (pt l) a x)=0)||(decide (0<=V.dot (wy (pt l) a x) (wy (pt l) a b))&&decide (V.dot (wy (pt l) a x) (wy (pt l) a b)<=V.dot (wy (pt l) a b) (wy (pt l) a b))))
def zN{l:List V}{m:V}{a b x:Nat}:gn l m a b x=true↔(0<=T m (wy (pt l) a b) (wy (pt l) a x)/\(T m (wy (pt l) a b) (wy (pt l) a x)=0->0<=V.dot (wy (pt l) a x) (wy (pt l) a b)/\V.dot (wy (pt l) a x) (wy (pt l) a b)<=V.dot (wy (pt l) a b) (wy (pt l) a b))):=by
 simp only[gn,zaa,zKb,zxa,decide_eq_true_eq,decide_eq_false_iff_not];by_cases h:T m (wy (pt l) a b) (wy (pt l) a x)=0<;>simp[h]
def uJ(l:List V)(m:V)(d:Int)(a b:Nat):Bool:=(bC (pt l) l.length m d).all λx=>gn l m a b x
def uK{l:List V}{m:V}{d:Int}{a b:Nat}(hb:b∈bC (pt l) l.length m d)(hne:b≠a):uJ l m d a b=true↔Side m (pt l) (bC (pt l) l.length m d) a b:=by
 simp only[uJ,zja,zN];exact⟨λh=>⟨hb,hne,h⟩,λh=>h.all⟩
def SJ(n:Nat){l:List V}(hl:∀ x∈l,bd MV x)(hlen:l.length<=100){m:V}{d:Int}(hm0:m≠V.zero)(hm:bd 549755813888 m){a b:Nat}(ha:a<l.length)(hb:b<l.length)(hda:V.dot m (pt l a)=d)(hdb:V.dot m (pt l b)=d) :
  cA (n+3) 156 [aX l,ag m,I d,ag (pt l a),ag (pt l b)]=some (.bool (uJ l m d a b)):=by
 rw[Uv]
 delta Gq qB qC qT qX qL qZ iL iR Jn
 have w1:bd 524288 (wy (pt l) a b):=lP (hl _ (ct ha)) (hl _ (ct hb));refine aa (z:=ag (wy (pt l) a b)) (yU (n+1) (hl _ (ct hb)) (hl _ (ct ha)) (by decide)) ?_
 have ll:(l.map ag).length=l.length:=zCa ..;have hmb:V.dot m (wy (pt l) a b)=0:=by rw[oD,hda,hdb];omega
 refine bn (λi s=>s=[I (i:Int)]/\(bC (pt l) i m d).all (λx=>gn l m a b x)=true) l.length 0 (zoa _) ⟨rfl,by simp[bC]⟩ (λi hi s hJ=>?_) (λs hJ=>?_)
 ·obtain⟨rfl,hz⟩:=hJ;have hc:=BG (n+1) hm (hl _ (ct hi)) (by decide)
  by_cases hon:V.dot m (pt l i)=d
  ·have w2:bd 524288 (wy (pt l) a i):=lP (hl _ (ct ha)) (hl _ (ct hi));have hmi:V.dot m (wy (pt l) a i)=0:=by rw[oD,hda,hon];omega
   have c1:=yU (n+1) (hl _ (ct hi)) (hl _ (ct ha)) (by decide)
   have c2:=L0 (n+1) w1 w2 (by decide)
   have c3:=SP n m (V.cross (wy (pt l) a b) (wy (pt l) a i));rw[AU hm0 (tL hmb hmi)] at c3;have c4:=BG (n+1) w2 w1 (by decide)
   have c5:=BG (n+1) w1 w1 (by decide)
   have step:∀ (y:Nat×List D),y=(if gn l m a b i then(0,[]) else(1,[D.bool false]))->(Option.bind (D.asSl (aX l)) λl6=>Option.bind (D.idx (I (i:Int)) (List.length l6)) λi7=>
     Option.bind (l6[i7]?) λx8=>Option.bind (cA (n+2) 107 [ag m,x8]) λr9=>Option.bind (D.truth (D.bool (!(D.beq r9 (I d))))) λb10=>
     if b10 then(some ((0:Nat),([]:List D))) else(Option.bind (D.asSl (aX l)) λl11=>Option.bind (D.idx (I (i:Int)) (List.length l11)) λs9=>
     Option.bind (l11[s9]?) λx13=>Option.bind (cA (n+2) 112 [x13,ag (pt l a)]) λr14=>Option.bind (cA (n+2) 123 [ag (wy (pt l) a b),r14]) λr15=>Option.bind (cA (n+2) 188 [ag m,r15]) λr16=>
     Option.bind (D.bin .lss r16 (D.int .i64 0)) λx17=>Option.bind (D.truth x17) λb18=>
     Option.bind (if b18 then(some true) else(Option.bind (D.truth (D.bool (D.beq r16 (D.int .i64 0)))) λb19=>
     if b19 then(Option.bind (cA (n+2) 107 [r14,ag (wy (pt l) a b)]) λr20=>Option.bind (D.bin .lss r20 (D.int .i64 0)) λx21=>Option.bind (D.truth x21) λb22=>
     if b22 then(some true) else(Option.bind (cA (n+2) 107 [r14,ag (wy (pt l) a b)]) λr23=>Option.bind (cA (n+2) 107 [ag (wy (pt l) a b),ag (wy (pt l) a b)]) λr24=>
     Option.bind (D.bin .gtr r23 r24) λx25=>D.truth x25)) else(some false))) λb26=>Option.bind (D.truth (D.bool b26)) λb27=>
     if b27 then(some (1,[(D.bool false)])) else(some (0,[]))))=some y:=by
    intro y hy;refine aa (z:=l.map ag) rfl (aa (z:=i) (by rw[ll];exact aq hi) (aa (cY hi) (aa hc (aa (z:=false) ?_ ?_))))
    ·rw[bw,show V.dot m (l.getD i V.zero)=d from hon];simp[D.truth]
    rw[if_neg (by decide)]
    refine aa (z:=l.map ag) rfl (aa (z:=i) (by rw[ll];exact aq hi) (aa (cY hi) (aa (z:=ag (wy (pt l) a i)) c1 (aa c2 (aa c3 (aa ah (aa ab ?_)))))))
    rw[hy];have e:V.dot m (V.cross (wy (pt l) a b) (wy (pt l) a i))=T m (wy (pt l) a b) (wy (pt l) a i):=rfl;rw[e];refine aa (z:=!gn l m a b i) ?_ ?_
    ·by_cases t1:T m (wy (pt l) a b) (wy (pt l) a i)<0
     ·rw[Kq (E0.2 t1)];have:¬ (0<=T m (wy (pt l) a b) (wy (pt l) a i)):=by omega
      simp[gn,this]
     ·rw[Kr (λh=>t1 (E0.1 h))];have t1':0<=T m (wy (pt l) a b) (wy (pt l) a i):=by omega
      by_cases t2:T m (wy (pt l) a b) (wy (pt l) a i)=0
      ·refine aa (z:=true) (by rw[bw,decide_eq_true (dQ.2 t2)];rfl) ?_
       rw[if_pos rfl];refine aa c4 (aa ah (aa ab ?_));by_cases t3:V.dot (wy (pt l) a i) (wy (pt l) a b)<0
       ·rw[Kq t3];have:¬ (0<=V.dot (wy (pt l) a i) (wy (pt l) a b)):=by omega
        simp[gn,t2,this]
       ·rw[Kr t3];refine aa c4 (aa c5 (aa ca ?_));rw[ab];have t3':0<=V.dot (wy (pt l) a i) (wy (pt l) a b):=by omega
        simp only[gn,t2,t3',decide_true,zgb,z2b,Bool.false_or,Int.le_refl];by_cases t4:V.dot (wy (pt l) a i) (wy (pt l) a b)<=V.dot (wy (pt l) a b) (wy (pt l) a b)
        ·have:¬ (V.dot (wy (pt l) a i) (wy (pt l) a b)>V.dot (wy (pt l) a b) (wy (pt l) a b)):=by omega
         simp[t4,this]
        ·have:(V.dot (wy (pt l) a i) (wy (pt l) a b)>V.dot (wy (pt l) a b) (wy (pt l) a b)):=by omega
         simp[t4,this]
      ·refine aa (z:=false) (by rw[bw,decide_eq_false (λh=>t2 (dQ.1 h))];rfl) ?_
       simp[gn,t2,t1']
    ·refine aa ab ?_;cases gn l m a b i<;>rfl
   cases hk:gn l m a b i
   ·right;rw[hk] at step;refine⟨(0,[.bool false]),?_,?_⟩
    ·exact aa (z:=l.map ag) rfl (aa ah (aa ab (aD (by show((i:Int)<((l.map ag).length:Int));rw[ll];omega) (aa (step _ rfl) rfl))))
    ·have:uJ l m d a b=false:=by
      rw[zUb];intro h;have:=zja.1 h i (cl.2 ⟨hi,hon⟩);rw[hk] at this;exact absurd this (by decide)
     rw[this];rfl
   ·left;rw[hk] at step;refine⟨[I ((i+1:Nat):Int)],?_,rfl,?_⟩
    ·exact aa (z:=l.map ag) rfl (aa ah (aa ab (aD (by show((i:Int)<((l.map ag).length:Int));rw[ll];omega) (aa (step _ rfl) (by rw[if_pos rfl,if_pos rfl];exact aa (au (ay (i:=i) (by omega))) rfl)))))
    ·rw[jc,if_pos hon,zXc,hz];simp[hk]
  ·left;refine⟨[I ((i+1:Nat):Int)],?_,rfl,?_⟩
   ·refine aa (z:=l.map ag) rfl (aa ah (aa ab (aD (by show((i:Int)<((l.map ag).length:Int));rw[ll];omega) (aa (z:=(0,[])) ?_ (by rw[if_pos rfl];exact aa (au (ay (i:=i) (by omega))) rfl)))))
    refine aa (z:=l.map ag) rfl (aa (z:=i) (by rw[ll];exact aq hi) (aa (cY hi) (aa hc (aa (z:=true) ?_ rfl))))
    rw[bw,decide_eq_false (show ¬ V.dot m (l.getD i V.zero)=d from hon)];rfl
   ·rw[jc,if_neg hon];exact hz
 ·obtain⟨rfl,hz⟩:=hJ;refine⟨(1,[]),?_,?_⟩
  ·exact aa (z:=l.map ag) rfl (aa ah (aa ab (aH (by show ¬ ((l.length:Int)<((l.map ag).length:Int));rw[ll];omega) rfl)))
  ·have:uJ l m d a b=true:=hz;rw[this];rfl
end Sy
end
noncomputable section
namespace Sy
open Go Go.Proofs Geo
def A0{body:Bd}{s0:List D}{r:Nat×List D}(h:Option.bind (aO body s0) some=some r):aO body s0=some r:=by
 cases hb:aO body s0 with
 | none=>rw[hb] at h;cases h
 | some z=>rw[hb] at h;exact h
def EI{P:Nat->V}{m:V}{d:Int}{i N a:Nat}(h:(bC P i m d).head?=some a)(hi:i<=N):(bC P N m d).head?=some a:=by
 induction N with
 | zero=>
      have:i=0:=by omega
      subst this;exact h
 | succ N ih=>
  by_cases e:i=N+1
  ·rw[<-e];exact h
  ·have:=ih (by omega)
   rw[jc];split
   ·rw[List.head?_append,this];rfl
   ·exact this
theorem pq{body:Bd}{S:Nat->Nat->Prop}{a M:Nat}{G:Nat->Prop}(hS:∀ c b,G c->S c b->G b)
  (hstep:∀ (c b:Nat) (out:List Nat),G c->S c b->b≠a->out.length<=M->body [.sl (ae out),I (c:Int)]=some (.inl [.sl (ae (out++[c])),I (b:Int)]))
  (hend:∀ (c:Nat) (out:List Nat),G c->S c a->out.length<=M->body [.sl (ae out),I (c:Int)]=some (.inr (0,[.sl (ae (out++[c]))]))) :
  ∀ {c:Nat} {p:List Nat},Chain S a c p->G c->∀ out:List Nat,(out++p).length<=M->aO body [.sl (ae out),I (c:Int)]=some (0,[.sl (ae (out++p))])
 | c,_,.done s,hc,out,hl=>cJ (hend c out hc s (by simp at hl;omega))
 | c,_,.step (y:=y) (l:=p) s hy k,hc,out,hl=>by
  have h1:=hstep c y out hc s hy (by simp at hl;omega)
  rw[show aO body [.sl (ae out),I (c:Int)]=aO body [.sl (ae (out++[c])),I (y:Int)] from cR h1];have:=pq hS hstep hend k (hS c y hc s) (out++[c]) (by simpa using hl)
  rw[this];simp
def TG(n:Nat){l:List V}(hl:∀ x∈l,bd MV x)(hlen:l.length<=100)(hs:Fy l){m:V}{d:Int}(hF:IsF (pt l) l.length m d)(hm:bd 549755813888 m){p:List Nat}(hp:cn (pt l) l.length m d p) :
  cA (n+4) 111 [aX l,ag m,I d]=some (.sl (ae p)):=by
 have F:=hF.flat hs;obtain⟨p',hp',hnd,hmem⟩:=hF.poly hs;have e:=cn.eq hs hF hp hp';subst e;obtain⟨a,ha1,hch⟩:=hp;have ha:a∈bC (pt l) l.length m d:=List.mem_of_mem_head? (by rw[ha1];rfl)
 have hlt:∀ k∈bC (pt l) l.length m d,k<l.length:=λk hk=>(cl.1 hk).1;have hdk:∀ k∈bC (pt l) l.length m d,V.dot m (pt l k)=d:=λk hk=>(cl.1 hk).2;have honl:(bC (pt l) l.length m d).length<=l.length:=by
  unfold bC;exact zMa (zsc _ _) (by rw[zLb];omega)
 have hpl:p.length<=l.length:=zMa (zYb hnd λz hz=>((hmem z).1 hz).1) honl;have ll:(l.map ag).length=l.length:=zCa ..;rw[TW]
 delta FN qB qC qT qS qX qL qV qW qZ iL iR Jn
 have hdot:=λ(i:Nat) (hi:i<l.length)=>BG (n+2) hm (hl _ (ct hi)) (by decide)
 refine aa (z:=(0,[.sl [],I (a:Int)])) ?_ ?_
 ·refine A0 (cN (λi s=>s=[.sl [],iG ((bC (pt l) i m d).head?),I (i:Int)]) l.length 0 (zoa _) rfl (λi hi s hJ=>?_) (λs hJ=>?_))
  ·subst hJ;cases hh:(bC (pt l) i m d).head? with
   | some a'=>
    right;have:=EI hh (zbc hi);rw[ha1] at this;cases this;refine⟨(0,[.sl [],I (a:Int)]),?_,rfl⟩;refine aa (z:=l.map ag) rfl (aa ah (aa ab (aa (z:=false) (aD (by show((i:Int)<((l.map ag).length:Int));rw[ll];omega) ?_) (aa ab ?_))))
    ·refine aa ah ?_;rw[decide_eq_false (by omega)];rfl
    ·rfl
   | none=>
    left;have hnil:bC (pt l) i m d=[]:=by simpa using hh
    refine⟨[.sl [],iG ((bC (pt l) (i+1) m d).head?),I ((i+1:Nat):Int)],?_,rfl⟩;refine aa (z:=l.map ag) rfl (aa ah (aa ab (aa (z:=true) (aD (by show((i:Int)<((l.map ag).length:Int));rw[ll];omega) (aa (ah (a:=-1) (b:=0)) rfl)) (aa ab ?_))))
    rw[if_pos rfl];refine aa (z:=(0,[.sl [],iG ((bC (pt l) (i+1) m d).head?)])) ?_ (aa (au (ay (i:=i) (by omega))) rfl)
    refine aa (z:=l.map ag) rfl (aa (z:=i) (by rw[ll];exact aq hi) (aa (cY hi) (aa (hdot i hi) ?_)))
    rw[bw,jc,hnil];by_cases hon:V.dot m (pt l i)=d
    ·rw[if_pos hon,decide_eq_true (show V.dot m (l.getD i V.zero)=d from hon)];rfl
    ·rw[if_neg hon,decide_eq_false (show ¬ V.dot m (l.getD i V.zero)=d from hon)];rfl
  ·subst hJ;rw[ha1];refine⟨(0,[.sl [],I (a:Int)]),?_,rfl⟩;refine aa (z:=l.map ag) rfl (aa ah (aa ab (aa (z:=false) (aH (by show ¬ ((l.length:Int)<((l.map ag).length:Int));rw[ll];omega) rfl) (aa ab rfl))))
 ·refine aa (z:=(0,[.sl (ae ([]++p))])) ?_ rfl;refine pq (M:=l.length) (G:=λc=>c∈bC (pt l) l.length m d) (λc b hc hb=>hb.mem) (λc b out hc hb hba hol=>?_) (λc out hc hb hol=>?_) hch ha [] (by simpa using hpl)
  all_goals
   obtain⟨b',hbb,hb'⟩:∃ b',(b'=a\/b'≠a)/\Side m (pt l) (bC (pt l) l.length m d) c b':=by first|exact⟨_,Classical.em _,hb⟩
   refine aa (z:=l.map ag) rfl (aa jV (aa ab (aD (by show(((ae out).length:Int)<=((l.map ag).length:Int));rw[ll,aj];omega) ?_)))
   rw[if_pos (by simp only[g0,D.els,aj,zBa,zpb];omega)]
   have happ:ae out++[I (c:Int)]=ae (out++[c]):=by simp[ae]
   have hbl:=hlt b' hb'.mem;refine aa (z:=(0,[.sl (ae (out++[c])),I (b':Int)])) ?_ ?_
   ·refine A0 (cN (λi s=>s=[.sl (ae (out++[c])),iG (if b'<i then some b' else none),I (i:Int)]) l.length 0 (zoa _) (by simp[g0,g1,D.els,happ,iG]) (λi hi s hJ=>?_) (λs hJ=>?_))
    ·subst hJ;by_cases hbi:b'<i
     ·right;rw[if_pos hbi];refine⟨(0,[.sl (ae (out++[c])),I (b':Int)]),?_,rfl⟩;refine aa (z:=l.map ag) rfl (aa ah (aa ab (aa (z:=false) (aD (by show((i:Int)<((l.map ag).length:Int));rw[ll];omega) ?_) (aa ab ?_))))
      ·refine aa ah ?_;rw[decide_eq_false (by omega)];rfl
      ·rfl
     ·left;rw[if_neg hbi];refine⟨[.sl (ae (out++[c])),iG (if b'<i+1 then some b' else none),I ((i+1:Nat):Int)],?_,rfl⟩
      refine aa (z:=l.map ag) rfl (aa ah (aa ab (aa (z:=true) (aD (by show((i:Int)<((l.map ag).length:Int));rw[ll];omega) (aa (ah (a:=-1) (b:=0)) rfl)) (aa ab ?_))))
      rw[if_pos rfl];refine aa (z:=(0,[.sl (ae (out++[c])),iG (if b'<i+1 then some b' else none)])) ?_ (aa (au (ay (i:=i) (by omega))) rfl)
      have hcl:=hlt c hc;by_cases hon:i≠c/\V.dot m (pt l i)=d
      ·have hion:i∈bC (pt l) l.length m d:=cl.2 ⟨hi,hon.2⟩;refine aa (z:=true) (by show D.truth (D.bool (!(D.beq (I (i:Int)) (I (c:Int)))))=_;rw[ce,decide_eq_false hon.1];rfl) (aa (z:=true) ?_ (aa ab ?_))
       ·rw[if_pos rfl];refine aa (z:=l.map ag) rfl (aa (z:=i) (by rw[ll];exact aq hi) (aa (cY hi) (aa (hdot i hi) ?_)))
        rw[bw,decide_eq_true (show V.dot m (l.getD i V.zero)=d from hon.2)];rfl
       ·rw[if_pos rfl];refine aa (z:=l.map ag) rfl (aa (z:=c) (by rw[ll];exact aq hcl) (aa (cY hcl) (aa (z:=l.map ag) rfl (aa (z:=i) (by rw[ll];exact aq hi) (aa (cY hi) (aa (SJ n hl hlen hF.nz.1 hm hcl hi (hdk c hc) hon.2) (aa ab ?_)))))))
        by_cases hib:i=b'
        ·subst hib;rw[(uK hion hon.1).2 hb',if_pos rfl,if_pos (by omega)];rfl
        ·have:uJ l m d c i=false:=by
          rw[zUb];intro h;exact hib (Side.unique F hc ((uK hion hon.1).1 h) hb')
         rw[this,if_neg (show ¬ b'<i+1 by omega)];rfl
      ·have hib:i≠b':=λe=>hon (by subst e;exact⟨hb'.ne,hdk _ hb'.mem⟩)
       rw[if_neg (show ¬ b'<i+1 by omega)]
       by_cases hic:i=c
       ·subst hic;refine aa (z:=false) (by show D.truth (D.bool (!(D.beq (I (i:Int)) (I (i:Int)))))=_;rw[ce,decide_eq_true rfl];rfl) (aa (z:=false) rfl (aa ab rfl))
       ·have hnd:¬ V.dot m (l.getD i V.zero)=d:=λh=>hon ⟨hic,h⟩;refine aa (z:=true) (by show D.truth (D.bool (!(D.beq (I (i:Int)) (I (c:Int)))))=_;rw[ce,decide_eq_false hic];rfl) (aa (z:=false) ?_ (aa ab rfl))
        rw[if_pos rfl];refine aa (z:=l.map ag) rfl (aa (z:=i) (by rw[ll];exact aq hi) (aa (cY hi) (aa (hdot i hi) ?_)))
        rw[bw,decide_eq_false hnd];rfl
    ·subst hJ;rw[if_pos hbl];refine⟨(0,[.sl (ae (out++[c])),I (b':Int)]),?_,rfl⟩;exact aa (z:=l.map ag) rfl (aa ah (aa ab (aa (z:=false) (aH (by show ¬ ((l.length:Int)<((l.map ag).length:Int));rw[ll];omega) rfl) (aa ab rfl))))
   ·have hu:=Side.unique F hc hb hb';subst hu;first
     | exact aa (z:=true) (by show D.truth (D.bool (D.beq (I (_:Int)) (I (_:Int))))=_;rw[ce,decide_eq_true rfl];rfl) (aa (z:=true) rfl (aa ab rfl))
     | exact aa (z:=false) (by show D.truth (D.bool (D.beq (I (_:Int)) (I (_:Int))))=_;rw[ce,decide_eq_false hba];rfl) (aa (z:=false) (by rw[if_neg (by decide)];refine aa ah ?_;rw[decide_eq_false (by omega)];rfl) (aa ab rfl))
end Sy
end
noncomputable section
namespace Sy
open Go Go.Proofs Geo
def aV:List Nat->Nat
 | []=>0
 | d::l=>d+65536*aV l
def dl(l:List Nat):Prop:=∀ d∈l,d<65536
def dl.cons{d:Nat}{l:List Nat}(hd:d<65536)(h:dl l):dl (d::l):=λx hx=>by
 rcases zva.1 hx with rfl|hx
 ·exact hd
 ·exact h x hx
def dl.append{a b:List Nat}(ha:dl a)(hb:dl b):dl (a++b):=λx hx=>by
 rcases zDa.1 hx with hx|hx
 ·exact ha x hx
 ·exact hb x hx
theorem dl.getD{l:List Nat}(h:dl l)(i:Nat):l.getD i 0<65536:=by
 simp only[List.getD];cases hi:l[i]? with
 | none=>simp
 | some x=>exact h x (zYa hi)
def ar(m:Nat):List Nat:=if h:m=0 then[] else m%65536::ar (m/65536)
termination_by m
decreasing_by omega
def bB:ar 0=[]:=by unfold ar;simp
def gM{m:Nat}(h:m≠0):ar m=m%65536::ar (m/65536):=by rw[ar,dif_neg h]
def tM{d v:Nat}(hd:d<65536)(h:d+65536*v≠0):ar (d+65536*v)=d::ar v:=by
 rw[gM h,show(d+65536*v)%65536=d by omega,show(d+65536*v)/65536=v by omega]
def ai(m:Nat):aV (ar m)=m:=by
 induction m using Nat.strongRecOn with
 | _ m ih=>
  by_cases h:m=0
  ·subst h;rw[bB];rfl
  ·rw[gM h,aV,ih _ (by omega)];omega
def aP(m:Nat):dl (ar m):=by
 induction m using Nat.strongRecOn with
 | _ m ih=>
  by_cases h:m=0
  ·subst h;rw[bB];intro d hd;cases hd
  ·rw[gM h];exact dl.cons (by omega) (ih _ (by omega))
def ri{m:Nat}:ar m=[]↔m=0:=by
 constructor
 ·intro h;have:=ai m;rw[h] at this;exact this.symm
 ·rintro rfl;exact bB
def oA(i:Nat):∀ m,(ar m).getD i 0=m/65536^i%65536:=by
 induction i with
 | zero=>
  intro m;by_cases h:m=0
  ·subst h;rw[bB];simp
  ·rw[gM h];simp
 | succ i ih=>
  intro m;by_cases h:m=0
  ·subst h;rw[bB];simp
  ·rw[gM h];show(ar (m/65536)).getD i 0=_;rw[ih,zQa,zkb,zya 65536]
def bc(k:Nat):∀ m,m<65536^k->(ar m).length<=k:=by
 induction k with
 | zero=>
      intro m h;have:m=0:=by simpa using h
      subst this;rw[bB];simp
 | succ k ih=>
  intro m h;by_cases h0:m=0
  ·subst h0;rw[bB];simp
  ·rw[gM h0,zBa];have:=ih (m/65536) (by rw[zkb] at h;exact zzc (by rw[zya];exact h))
   omega
def ks(a b:List Nat):aV (a++b)=aV a+65536^a.length*aV b:=by
 induction a with
 | nil=>simp[aV]
 | cons d a ih=>
  simp only[zib,aV,ih,zBa,zkb];rw[zFb,<-zNa,zya 65536 (65536^a.length)];omega
def ml(l:List Nat)(n:Nat):aV (l++List.replicate n 0)=aV l:=by
 rw[ks];have:∀ n,aV (List.replicate n 0)=0:=λn=>by
  induction n with
  | zero=>rfl
  | succ n ih=>rw[List.replicate_succ,aV,ih]
 rw[this];simp
def vt(l:List Nat):Nat->Nat
 | 0=>0
 | k+1=>vt l k+l.getD k 0*65536^k
def IT(d:Nat)(l:List Nat)(k:Nat):vt (d::l) (k+1)=d+65536*vt l k:=by
 induction k with
 | zero=>simp[vt]
 | succ k ih=>
  rw[vt,ih,vt,zFb];have:(d::l).getD (k+1) 0=l.getD k 0:=rfl;rw[this,zkb,<-zNa,<-zNa,zya 65536 (l.getD k 0),zNa,zya (65536^k),<-zNa];omega
def kY(l:List Nat):vt l l.length=aV l:=by
 induction l with
 | nil=>rfl
 | cons d l ih=>rw[zBa,IT,ih];rfl
def gC{l:List Nat}{k:Nat}(h:l.length<=k):vt l k=aV l:=by
 obtain⟨j,rfl⟩:∃ j,k=l.length+j:=⟨k-l.length,by omega⟩
 clear h
 induction j with
 | zero=>exact kY l
 | succ j ih=>
  rw[<-zvb,vt,ih];have:l.getD (l.length+j) 0=0:=by simp[List.getD]
  rw[this];simp
def sS{l:List Nat}(h:dl l)(k:Nat):vt l k<65536^k:=by
 induction k with
 | zero=>simp[vt]
 | succ k ih=>
  have h1:=h.getD k;have h2:l.getD k 0*65536^k<=65535*65536^k:=zwa _ (by omega)
  rw[vt,zkb,zya (65536^k)];omega
def jB{l:List Nat}(h:dl l):aV l<65536^l.length:=by rw[<-kY];exact sS h _
def jm:List Nat->List Nat
 | []=>[]
 | d::l=>match jm l with
  | []=>if d=0 then[] else[d]
  | x::t=>d::x::t
def gc{l:List Nat}(h:dl l):jm l=ar (aV l):=by
 induction l with
 | nil=>rw[aV,bB];rfl
 | cons d l ih=>
  have hd:d<65536:=h d zqa;have ih:=ih λx hx=>h x (zma _ hx);rw[jm,ih,aV];by_cases hv:aV l=0
  ·rw[hv,bB];by_cases h0:d=0
   ·subst h0;simp[bB]
   ·rw[tM hd (by omega),bB];simp[h0]
  ·rw[tM hd (by omega),gM hv]
def zY{l:List Nat}(h:∀ i,i<l.length->l.getD i 0=0):jm l=[]:=by
 induction l with
 | nil=>rfl
 | cons d l ih=>
  have h0:d=0:=h 0 (by simp)
  rw[jm,ih (λi hi=>h (i+1) (by simpa using hi)),h0];simp
theorem uT:∀ {l:List Nat} {n:Nat},n<=l.length->(∀ i,n<=i->i<l.length->l.getD i 0=0)->(n=0\/l.getD (n-1) 0≠0)->l.take n=jm l
 | [],n,_,_,_=>by simp[jm]
 | d::l,0,_,hz,_=>by rw[zY (λi hi=>hz i (by omega) hi)];rfl
 | d::l,n+1,hn,hz,hl=>by
  have hl':(d::l).getD n 0≠0:=by
   rcases hl with h|h
   ·omega
   ·exact h
  have ih:l.take n=jm l:=uT (l:=l) (n:=n) (by simpa using hn) (λi h1 h2=>hz (i+1) (by omega) (by simpa using h2)) (by
   cases n with
   | zero=>exact .inl rfl
   | succ k=>exact .inr hl')
  rw[zPb,ih,jm];cases ht:jm l with
  | nil=>
   rw[ht] at ih;have:n=0:=by
    cases n with
    | zero=>rfl
    | succ k=>cases l with
     | nil=>simp at hn
     | cons e l=>simp at ih
   subst this;have:d≠0:=hl';simp[this]
  | cons x t=>rfl
end Sy
end
noncomputable section
namespace Sy
open Go Go.Proofs Geo
def cM{l:List Nat}{i:Nat}(h:i<l.length):(ae l)[i]?=some (I (l.getD i 0:Nat)):=rn h
def tN(a:List Nat)(d:Nat):ae a++[I (d:Int)]=ae (a++[d]):=by simp[ae]
def wP(n:Nat){l:List Nat}(hl:l.length<=1000000):cA (n+1) 140 [.sl (ae l)]=some (.sl (ae (jm l))):=by
 rw[Ul]
 delta Gf qB qC qT qS qX qZ iL iR Jn
 refine aa (z:=ae l) rfl ?_;have fin:∀ j:Nat,j<=l.length->(∀ i,j<=i->i<l.length->l.getD i 0=0)->(j=0\/l.getD (j-1) 0≠0)->(Option.bind (D.asSl (.sl (ae l))) λl13=>Option.bind (D.natOf (I (j:Int))) λi14=>Option.bind (D.cut l13 0 i14) λl15=>some (D.sl l15))=some (.sl (ae (jm l))):=by
  intro j hj hz hd;refine aa (z:=ae l) rfl (aa (z:=j) (by simp[D.natOf]) (aa (z:=ae (l.take j)) ?_ (by rw[uT hj hz hd])))
  simp only[D.cut];rw[if_pos ⟨zoa _,by rw[aj];exact hj⟩]
  simp[ae,List.map_take]
 refine bn (λi s=>s=[I ((l.length-i:Nat):Int)]/\∀ k,l.length-i<=k->k<l.length->l.getD k 0=0) l.length 0 (zoa _) ⟨by rw[aj];rfl,λk h1 h2=>by omega⟩ (λi hi s hJ=>?_) (λs hJ=>?_)
 ·obtain⟨rfl,hz⟩:=hJ;have hb:inR (((l.length-i:Nat):Int)-1):=by simp only[inR];omega
  have e1:((l.length-i:Nat):Int)-1=((l.length-i-1:Nat):Int):=by omega
  have hx:(ae l)[l.length-i-1]?=some (I (l.getD (l.length-i-1) 0:Nat)):=cM (by omega)
  by_cases h0:l.getD (l.length-i-1) 0=0
  ·left;refine⟨[I ((l.length-(i+1):Nat):Int)],?_,rfl,λk h1 h2=>?_⟩
   ·refine aa ca (aa ab (aa (z:=true) (aD (by show((l.length-i:Nat):Int)>0;omega) ?_) (aa ab ?_)))
    ·refine aa (bH hb) (aa (z:=ae l) rfl (aa (z:=l.length-i-1) (by rw[e1,aj];exact aq (by omega)) (aa hx ?_)))
     rw[h0];rfl
    ·rw[if_pos rfl];refine aa (bH hb) ?_;rw[e1,Nat.sub_sub]
   ·by_cases e:k=l.length-i-1
    ·rw[e];exact h0
    ·exact hz k (by omega) h2
  ·right;refine⟨(0,[I ((l.length-i:Nat):Int)]),?_,fin _ (by omega) hz (.inr h0)⟩
   refine aa ca (aa ab (aa (z:=false) (aD (by show((l.length-i:Nat):Int)>0;omega) ?_) (aa ab rfl)))
   refine aa (bH hb) (aa (z:=ae l) rfl (aa (z:=l.length-i-1) (by rw[e1,aj];exact aq (by omega)) (aa hx ?_)))
   rw[bw,decide_eq_false (by omega)];rfl
 ·obtain⟨rfl,hz⟩:=hJ;refine⟨(0,[I ((l.length-l.length:Nat):Int)]),?_,fin _ (by omega) hz (.inl (by omega))⟩
  refine aa ca (aa ab (aa (z:=false) (aH (by show ¬ ((l.length-l.length:Nat):Int)>0;omega) rfl) (aa ab rfl)))
def yX(n:Nat)(l:List Nat)(k:Nat):cA (n+1) 141 [.sl (ae l),I (k:Int)]=some (I (l.getD k 0:Nat)):=by
 rw[Um]
 delta Gg qX qL Jn
 refine aa (z:=ae l) rfl (aa ah (aa ab ?_));by_cases h:k<l.length
 ·refine aD (by show(k:Int)<((ae l).length:Int);rw[aj];omega) ?_
  exact aa (z:=ae l) rfl (aa (z:=k) (by rw[aj];exact aq h) (aa (cM h) rfl))
 ·refine aH (by show ¬ (k:Int)<((ae l).length:Int);rw[aj];omega) ?_
  have:l.getD k 0=0:=by simp[List.getD,h]
  rw[this];rfl
def dP(l:List Nat)(i:Nat):Nat:=l.getD (2*i) 0+65536*l.getD (2*i+1) 0
abbrev U(n:Nat):D:=.int .u32 (n:Int)
def dn(l:List Nat):D:=.st ((List.range 16).map λi=>U (dP l i))
def af(x:Int):D:=.st [.bool false,.bool (decide (x<0)),dn (ar x.natAbs)]
def vA{l:List Nat}(h:dl l)(i:Nat):dP l i<4294967296:=by
 have:=h.getD (2*i);have:=h.getD (2*i+1);unfold dP;omega
def rP{l:List Nat}{i:Nat}(h:i<16):D.fld (dn l) i=some (U (dP l i)):=by simp[dn,D.fld,h]
def cH{x:Int}{i:Nat}(h:i<16):D.get (af x) [2,i]=some (U (dP (ar x.natAbs) i)):=
 aa (z:=dn (ar x.natAbs)) rfl (aa (rP h) rfl)
def nU{n:Int}(h:0<=n/\n<4294967296):IntKind.wrap .u32 n=n:=by
 obtain⟨h1,h2⟩:=h;simp only[IntKind.wrap,IntKind.signed,IntKind.bits];first
  | omega
  | (simp;omega)
def JK(a:Nat):D.bin .rem (U a) (.int .u32 65536)=some (U (a%65536)):=by
 simp only[D.bin,if_true,show ¬ (65536:Int)=0 by decide,if_false]
 rw[show(65536:Int)=((65536:Nat):Int) from rfl,<-zsd]
def JJ{a:Nat}(h:a<4294967296):D.bin .quo (U a) (.int .u32 65536)=some (U (a/65536)):=by
 simp only[D.bin,if_true,show ¬ (65536:Int)=0 by decide,if_false]
 rw[show(65536:Int)=((65536:Nat):Int) from rfl,<-ztd,nU (by omega)]
def DD{a b:Nat}(h:a+b<4294967296):D.bin .add (U a) (U b)=some (U (a+b)):=by
 simp only[D.bin,if_true];rw[nU (by omega)];simp
def JI{a b:Nat}(h:a*b<4294967296):D.bin .mul (U a) (U b)=some (U (a*b)):=by
 simp only[D.bin,if_true];rw[show(a:Int)*(b:Int)=((a*b:Nat):Int) by simp,nU (by omega)]
def qg{a:Nat}(h:a<4294967296):D.conv .i64 (U a)=some (I (a:Int)):=by
 simp only[D.conv];rw[gD (by simp only[inR];omega)]
def AB{a:Nat}(h:a<4294967296):D.conv .u32 (I (a:Int))=some (U a):=by
 simp only[D.conv];rw[nU (by omega)]
def zF(l:List Nat)(k:Nat):((List.range k).map λi=>l.getD i 0)=if k<=l.length then l.take k else l++List.replicate (k-l.length) 0:=by
 apply z3b;intro i;by_cases h:i<k
 ·rw[z9a,zUc h];split
  ·simp[h,List.getD,show i<l.length by omega]
  ·by_cases h2:i<l.length
   ·simp[zAc,h2,List.getD]
   ·simp[zAc,h2,List.getD,List.getElem?_replicate,show i-l.length<k-l.length by omega]
 ·rw[z9a,show(List.range k)[i]?=none by simp;omega]
  split
  ·simp;omega
  ·simp;omega
def Ff{l:List Nat}(hd:dl l){k:Nat}(hk:l.length<=k):jm ((List.range k).map λi=>l.getD i 0)=ar (aV l):=by
 have e:((List.range k).map λi=>l.getD i 0)=l++List.replicate (k-l.length) 0:=by
  rw[zF];split
  ·have:k=l.length:=by omega
   subst this;simp
  ·rfl
 rw[e,gc (hd.append (λx hx=>by rw[z8c hx];decide)),ml]
def qf(n:Nat){x:Int}(hx:x.natAbs<65536^32):cA (n+2) 77 [af x]=some (.sl (ae (ar x.natAbs))):=by
 rw[Ye]
 delta NO qG qB qC qV qW qZ iL iR Jn
 have hd:=aP x.natAbs;have hlen:=bc 32 _ hx;refine bn (λi s=>s=[.sl (ae ((List.range (2*i)).map λi=>(ar x.natAbs).getD i 0)),I (i:Int)]) 16 0 (zoa _) rfl (λi hi s hJ=>?_) (λs hJ=>?_)
 ·subst hJ;left;refine⟨_,?_,rfl⟩;refine aa ah (aa ab (aD (by show(i:Int)<16;omega) ?_))
  have hlt:=vA hd i;have h1:=hd.getD (2*i);refine aa (z:=i) (aq hi) (aa (cH hi) (aa (JK _) (aa (qg (by omega)) (aa (z:=i) (aq hi) (aa (cH hi) (aa (JJ hlt) (aa (qg (by omega)) ?_)))))))
  rw[if_pos (by simp only[g0,D.els,aj,zCa,zLb,zBa,zpb];omega)]
  refine aa (au (ay (i:=i) (by omega))) ?_
  have e1:dP (ar x.natAbs) i%65536=(ar x.natAbs).getD (2*i) 0:=by unfold dP;omega
  have e2:dP (ar x.natAbs) i/65536=(ar x.natAbs).getD (2*i+1) 0:=by unfold dP;omega
  rw[e1,e2,show 2*(i+1)=2*i+1+1 by omega,zrc,zrc]
  simp[g0,D.els,ae]
 ·subst hJ;refine⟨(0,[.sl (ae ((List.range (2*16)).map λi=>(ar x.natAbs).getD i 0))]),?_,?_⟩
  ·exact aa ah (aa ab (aH (by decide) rfl))
  ·refine aa (wP n (by simp)) ?_
   rw[Ff hd hlen,ai]
end Sy
end
noncomputable section
namespace Sy
open Go Go.Proofs Geo
def jl(l:List Nat)(k j:Nat):(l.take k).getD j 0=if j<k then l.getD j 0 else 0:=by
 simp only[List.getD,List.getElem?_take];split<;>simp
def rQ{l l':List Nat}{q v:Nat}{a b:D}(hq:q<16)(h:∀ i,dP l' i=if i=q then v else dP l i):D.set (.st [a,b,dn l]) [2,q] (U v)=some (.st [a,b,dn l']):=by
 have h1:D.set (dn l) [q] (U v)=some (dn l'):=by
  have e:((List.range 16).map λi=>U (dP l i))[q]?=some (U (dP l q)):=by simp[hq]
  refine aa e (aa (z:=U v) rfl ?_);simp only[dn,zca,D.st.injEq];apply z3b;intro i;rw[List.getElem?_set];by_cases hi:q=i
  ·subst hi;simp[hq,h]
  ·rw[if_neg hi,z9a,z9a];by_cases h16:i<16
   ·rw[zUc h16];simp[h,show i≠q from λe=>hi e.symm]
   ·rw[show(List.range 16)[i]?=none by simp;omega];rfl
 exact aa (z:=dn l) rfl (aa h1 rfl)
def JE(k:Nat):D.bin .rem (I (k:Int)) (.int .i64 2)=some (I (k%2:Nat)):=by
 rw[jW (by decide),show(2:Int)=((2:Nat):Int) from rfl,<-zsd]
def iE{a b:Nat}(hb:b≠0)(ha:(a:Int)<=9223372036854775807):D.bin .quo (I (a:Int)) (I (b:Int))=some (I (a/b:Nat)):=by
 have:((a/b:Nat):Int)<=9223372036854775807:=by have:=z6b a b;omega
 have h0:0<=((a/b:Nat):Int):=Int.natCast_nonneg _;rw[kl (by omega) (by rw[<-ztd];simp only[inR];omega),<-ztd]
def km{a b:Nat}(hb:b≠0):D.bin .rem (I (a:Int)) (I (b:Int))=some (I (a%b:Nat)):=by
 rw[jW (by omega),<-zsd]
def xp{a b:D}{l:List Nat}{i:Nat}(h:i<16):D.get (.st [a,b,dn l]) [2,i]=some (U (dP l i)):=
 aa (z:=dn l) rfl (aa (rP h) rfl)
def sgn(neg:Bool)(m:Nat):Int:=if neg then -(m:Int) else m
def Fz(n:Nat){l:List Nat}{neg:Bool}(hd:dl l)(hl:l.length<=1000000)(hv:aV l<65536^32):cA (n+2) 81 [.bool neg,.sl (ae l)]=some (af (sgn neg (aV l))):=by
 rw[VM]
 delta LK qG qB qC qT qS qX qL qZ iL iR Jn
 have hlen:=bc 32 _ hv;have hdd:=aP (aV l);have hen:af (sgn neg (aV l))=.st [.bool false,.bool (neg&&decide (0<(ar (aV l)).length)),dn (ar (aV l))]:=by
  have e1:(sgn neg (aV l)).natAbs=aV l:=by unfold sgn;split<;>omega
  have e2:(0<(ar (aV l)).length)↔aV l≠0:=by
   rw[List.length_pos_iff];exact not_congr ri
  unfold af;rw[e1];have:decide (sgn neg (aV l)<0)=(neg&&decide (0<(ar (aV l)).length)):=by
   simp only[e2,sgn];cases neg
   ·simp<;>omega
   ·by_cases h:aV l=0
    ·simp[h]
    ·simp[h]<;>omega
  rw[this]
 rw[hen];refine aa (wP n hl) ?_;rw[gc hd];generalize ar (aV l)=d at hlen hdd;refine aa (z:=ae d) rfl (aa ca (aa ab (aH (by show ¬ ((ae d).length:Int)>32;rw[aj];omega) ?_)))
 refine aa ab (aa (z:=neg&&decide (0<d.length)) ?_ ?_)
 ·cases neg
  ·rfl
  ·rw[if_pos rfl];refine aa (z:=ae d) rfl (aa ca ?_);rw[ab,aj];simp
 refine bn (λk s=>s=[I (k:Int),.st [.bool false,.bool (neg&&decide (0<d.length)),dn (d.take k)]]) d.length 0 (zoa _) rfl (λk hk s hJ=>?_) (λs hJ=>?_)
 ·subst hJ;left;refine⟨_,?_,rfl⟩;have hdk:=hdd.getD k;refine aa (z:=ae d) rfl (aa ah (aa ab (aD (by show(k:Int)<((ae d).length:Int);rw[aj];omega) ?_)))
  refine aa (z:=(0,[.st [.bool false,.bool (neg&&decide (0<d.length)),dn (d.take (k+1))]])) ?_ (aa (au (ay (i:=k) (by omega))) rfl)
  refine aa (JE k) ?_;have q1:k/2<16:=by omega
  have hq:D.bin .quo (I (k:Int)) (.int .i64 2)=some (I (k/2:Nat)):=iE (b:=2) (by decide) (by omega)
  have hlk:dP (d.take k) (k/2)=if k%2=0 then 0 else d.getD (2*(k/2)) 0:=by
   simp only[dP,jl];by_cases hk2:k%2=0
   ·rw[if_pos hk2,if_neg (show ¬ 2*(k/2)<k by omega),if_neg (show ¬ 2*(k/2)+1<k by omega)]
   ·rw[if_neg hk2,if_pos (show 2*(k/2)<k by omega),if_neg (show ¬ 2*(k/2)+1<k by omega)];omega
  have hd2:=hdd.getD (2*(k/2));by_cases hk2:k%2=0
  ·rw[if_pos hk2] at hlk;rw[hk2];refine aa (z:=true) rfl ?_;rw[if_pos rfl];refine aa hq (aa hq (aa (aq q1) (aa (xp q1) (aa (z:=ae d) rfl (aa (z:=k) (by rw[aj];exact aq hk) (aa (cM hk) (aa (AB (by omega)) (aa (DD (by rw[hlk];omega)) (aa (aq q1) (aa (rQ q1 (l':=d.take (k+1)) ?_) rfl))))))))))
   intro i;by_cases hi:i=k/2
   ·rw[if_pos hi,hlk,hi];simp only[dP,jl];rw[if_pos (show 2*(k/2)<k+1 by omega),if_neg (show ¬ 2*(k/2)+1<k+1 by omega),show 2*(k/2)=k by omega];omega
   ·rw[if_neg hi];simp only[dP,jl];have a1:(2*i<k+1)↔(2*i<k):=by omega
    have a2:(2*i+1<k+1)↔(2*i+1<k):=by omega
    simp only[a1,a2]
  ·rw[if_neg hk2] at hlk;refine aa (z:=false) (by rw[show k%2=1 by omega];rfl) ?_
   rw[if_neg (by decide)]
   refine aa hq (aa hq (aa (aq q1) (aa (xp q1) (aa (z:=ae d) rfl (aa (z:=k) (by rw[aj];exact aq hk) (aa (cM hk) (aa (AB (by omega)) (aa (JI (b:=65536) (by omega)) (aa (DD (by rw[hlk];omega)) (aa (aq q1) (aa (rQ q1 (l':=d.take (k+1)) ?_) rfl)))))))))))
   intro i;by_cases hi:i=k/2
   ·rw[if_pos hi,hlk,hi];simp only[dP,jl];rw[if_pos (show 2*(k/2)<k+1 by omega),if_pos (show 2*(k/2)+1<k+1 by omega),show 2*(k/2)+1=k by omega];omega
   ·rw[if_neg hi];simp only[dP,jl];have a1:(2*i<k+1)↔(2*i<k):=by omega
    have a2:(2*i+1<k+1)↔(2*i+1<k):=by omega
    simp only[a1,a2]
 ·subst hJ;refine⟨(0,[.st [.bool false,.bool (neg&&decide (0<d.length)),dn (d.take d.length)]]),?_,?_⟩
  ·exact aa (z:=ae d) rfl (aa ah (aa ab (aH (by show ¬ (d.length:Int)<((ae d).length:Int);rw[aj];omega) rfl)))
  ·rw[z3a];rfl
def Tr(n:Nat){a b:List Nat}(ha:dl a)(hb:dl b)(hla:a.length<=900000)(hlb:b.length<=900000):cA (n+2) 82 [.sl (ae a),.sl (ae b)]=some (.sl (ae (ar (aV a+aV b)))):=by
 rw[Yi]
 delta NS qB qC qS qV qW qZ iL iR Jn
 obtain⟨M,hM⟩:∃ M,M=max a.length b.length:=⟨_,rfl⟩;have hmax:∀ k:Nat,D.max2 (D.int .i64 (ae a).length) (D.int .i64 (ae b).length)=some (I (M:Int)):=λ_=>by
  rw[A2,aj,aj,hM];congr 2;omega
 refine bn (λk s=>∃ (out:List Nat) (c:Nat),s=[.sl (ae out),I (c:Int),I (k:Int)]/\out.length=k/\dl out/\c<=1/\aV out+c*65536^k=vt a k+vt b k) (M+1) 0 (zoa _) ⟨[],0,rfl,rfl,(by intro d hd;cases hd),by omega,by simp[aV,vt]⟩ (λk hk s hJ=>?_) (λs hJ=>?_)
 ·obtain⟨out,c,rfl,ho,hdo,hc,hv⟩:=hJ;left;have h1:=ha.getD k;have h2:=hb.getD k;refine⟨[.sl (ae (out++[(a.getD k 0+b.getD k 0+c)%65536])),I ((a.getD k 0+b.getD k 0+c)/65536:Nat),I ((k+1:Nat):Int)],?_,out++[(a.getD k 0+b.getD k 0+c)%65536],(a.getD k 0+b.getD k 0+c)/65536,rfl,by simp[ho],hdo.append (λx hx=>by simp at hx;omega),by omega,?_⟩
  ·refine aa (z:=ae a) rfl (aa (z:=ae b) rfl (aa (hmax 0) (aa (au (ay (i:=M) (by omega))) (aa ah (aa ab (aD (by show(k:Int)<(M:Int)+1;omega) ?_))))))
   refine aa (yX n a k) (aa (yX n b k) (aa (au (by simp only[inR];omega)) (aa (au (by simp only[inR];omega)) ?_)))
   rw[show(((a.getD k 0:Nat):Int)+((b.getD k 0:Nat):Int)+(c:Int))=((a.getD k 0+b.getD k 0+c:Nat):Int) by omega]
   refine aa (km (b:=65536) (by decide)) ?_
   rw[if_pos (by simp only[g0,D.els,aj,zBa,zpb];omega)]
   refine aa (iE (b:=65536) (by decide) (by omega)) (aa (au (ay (i:=k) (by omega))) ?_)
   simp only[g0,D.els,tN];rfl
  ·rw[ks,ho,vt,vt,zkb];have e:a.getD k 0+b.getD k 0+c=(a.getD k 0+b.getD k 0+c)%65536+65536*((a.getD k 0+b.getD k 0+c)/65536):=by omega
   have e2:aV [(a.getD k 0+b.getD k 0+c)%65536]=(a.getD k 0+b.getD k 0+c)%65536:=by simp[aV]
   rw[e2];generalize 65536^k=B at *;generalize (a.getD k 0+b.getD k 0+c)%65536=r at *;generalize (a.getD k 0+b.getD k 0+c)/65536=q at *;have:(a.getD k 0+b.getD k 0+c)*B=(r+65536*q)*B:=by rw[e]
   rw[zUa,zUa,zUa] at this;rw[show q*(B*65536)=65536*q*B by rw[zya B,<-zNa,zya q],zya B r]
   omega
 ·obtain⟨out,c,rfl,ho,hdo,hc,hv⟩:=hJ;refine⟨(0,[.sl (ae out)]),?_,?_⟩
  ·refine aa (z:=ae a) rfl (aa (z:=ae b) rfl (aa (hmax 0) (aa (au (ay (i:=M) (by omega))) (aa ah (aa ab (aH (by show ¬ (((M+1:Nat):Int)<(M:Int)+1);omega) rfl))))))
  ·refine aa (wP n (l:=out) (by omega)) ?_
   have va:vt a (M+1)=aV a:=gC (by omega)
   have vb:vt b (M+1)=aV b:=gC (by omega)
   have la:=sS ha M;have lb:=sS hb M;rw[gC (show a.length<=M by omega)] at la
   rw[gC (show b.length<=M by omega)] at lb
   have hc0:c=0:=by
    rcases zrb c with h|h
    ·exact h
    ·have:1*65536^(M+1)<=c*65536^(M+1):=zwa _ h;rw[zkb] at this;rw[va,vb,zkb] at hv;omega
   subst hc0;rw[gc hdo,<-va,<-vb,<-hv];simp
def yI(n:Nat){x:Int}(hx:inR x):cA (n+3) 34 [I x]=some (af x):=by
 rw[XU]
 delta Nw qB qC Jn
 obtain⟨h1,h2⟩:=hx;have d1:∀ m:Nat,(m:Int)<=9223372036854775807->dl [m%65536,m/65536%65536,m/4294967296%65536,m/281474976710656]:=λm hm d hd=>by
  simp only[zva,z9b,or_false] at hd;omega
 have d2:∀ m:Nat,aV [m%65536,m/65536%65536,m/4294967296%65536,m/281474976710656]=m:=λm=>by
  simp only[aV];omega
 have d3:∀ m:Nat,D.sl [I (m%65536:Nat),I (m/65536%65536:Nat),I (m/4294967296%65536:Nat),I (m/281474976710656:Nat)]=.sl (ae [m%65536,m/65536%65536,m/4294967296%65536,m/281474976710656]):=λm=>rfl;have big:∀ m:Nat,(m:Int)<=9223372036854775808->m<65536^32:=λm hm=>by
  have:(65536:Nat)^4<=65536^32:=zra (by decide) (by decide)
  have e:(65536:Nat)^4=18446744073709551616:=by decide
  omega
 refine aa fl (aa ab ?_);by_cases h:x ≥ 0
 ·refine aD h ?_;obtain⟨m,rfl⟩:=zdd h;refine aa (km (b:=65536) (by decide)) (aa (iE (b:=65536) (by decide) h2) (aa (km (b:=65536) (by decide)) (aa (iE (b:=4294967296) (by decide) h2) (aa (km (b:=65536) (by decide)) (aa (iE (b:=281474976710656) (by decide) h2) ?_)))))
  refine aa (z:=af m) ?_ rfl;rw[d3,Fz n (d1 m h2) (by simp) (by rw[d2];exact big m (by omega)),d2];rfl
 ·refine aH h ?_;obtain⟨m,hm⟩:=zdd (show 0<=-(x+1) by omega)
  have h3:(m:Int)<=9223372036854775807:=by omega
  refine aa (au (by simp only[inR];omega)) (aa (kX (by simp only[inR];omega)) ?_)
  rw[hm];refine aa (km (b:=65536) (by decide)) (aa (iE (b:=65536) (by decide) h3) (aa (km (b:=65536) (by decide)) (aa (iE (b:=4294967296) (by decide) h3) (aa (km (b:=65536) (by decide)) (aa (iE (b:=281474976710656) (by decide) h3) ?_)))))
  rw[d3];refine aa (Tr n (b:=[1]) (d1 m h3) (λd hd=>by simp at hd;omega) (by simp) (by simp)) (aa (z:=af x) ?_ rfl)
  rw[d2];have e1:aV [1]=1:=rfl;rw[e1,Fz n (aP _) ?_ ?_,ai]
  ·congr 2;simp only[sgn,if_true];omega
  ·have:=bc 32 _ (big (m+1) (by omega));omega
  ·rw[ai];exact big (m+1) (by omega)
end Sy
end
noncomputable section
namespace Sy
open Go Go.Proofs Geo
def In(x:Int):Prop:=x.natAbs<65536^32
def In.of{x:Int}(h:inR x):In x:=by
 have:(65536:Nat)^4<=65536^32:=zra (by decide) (by decide)
 have e:(65536:Nat)^4=18446744073709551616:=by decide
 obtain⟨h1,h2⟩:=h;unfold In;omega
def gH(m i:Nat):dP (ar m) i=m/4294967296^i%4294967296:=by
 have e1:65536^(2*i)=4294967296^i:=by rw[Nat.pow_mul]
 have e2:65536^(2*i+1)=4294967296^i*65536:=by rw[zkb,e1]
 unfold dP;rw[oA,oA,e1,e2,<-zQa];generalize m/4294967296^i=q;omega
def Jj(m:Nat):dP (ar m) 0=m%4294967296:=by rw[gH,zic,zHc]
def Er(m:Nat):dP (ar m) 1=m/4294967296%4294967296:=by rw[gH,Nat.pow_one]
def MP{m i:Nat}(h:m<18446744073709551616)(hi:2<=i):dP (ar m) i=0:=by
 rw[gH];have:(4294967296:Nat)^2<=4294967296^i:=zra (by decide) hi
 rw[zSa (by omega)]
def I1{a b:Nat}:D.beq (U a) (U b)=decide (a=b):=by
 simp only[D.beq,decide_true,zgb];by_cases h:a=b
 ·simp[h]
 ·simp[h];omega
def rR{m:Nat}(hm:m<65536^32)(h:∀ i,i<16->dP (ar m) i=0):m=0:=by
 have hz:∀ i,i<32->(ar m).getD i 0=0:=λi hi=>by
  have:=h (i/2) (by omega)
  unfold dP at this;rcases Nat.mod_two_eq_zero_or_one i with e|e
  ·rw[show 2*(i/2)=i by omega] at this;omega
  ·rw[show 2*(i/2)+1=i by omega] at this;omega
 have hv:∀ k,k<=32->vt (ar m) k=0:=λk=>by
  induction k with
  | zero=>intro _;rfl
  | succ k ih=>intro hk;rw[vt,ih (by omega),hz k (by omega)];simp
 have:=hv 32 (by omega)
 rw[gC (bc 32 _ hm),ai] at this;exact this
def zB(m i:Nat):Bool:=(List.range i).all λk=>decide (dP (ar m) k=0)
def IV(m i:Nat):zB m (i+1)=(zB m i&&decide (dP (ar m) i=0)):=by
 unfold zB;rw[zrc,zXc];simp
def SE(n:Nat){x:Int}(hx:In x):cA (n+1) 139 [af x]=some (.bool true):=by
 rw[KG]
 delta By qG qB qC qT qN qZ iL iR Jn
 have fin:∀ z:Bool,(z=true->x=0)->(Option.bind (D.get (af x) [0]) λx10=>Option.bind (D.truth x10) λb11=>
   if b11 then(Option.bind (D.truth (.bool z)) λb12=>Option.bind (if b12 then(Option.bind (D.get (af x) [1]) λx13=>Option.bind (D.un .not x13) λx14=>D.truth x14) else(some false)) λb15=>
   some (D.bool b15)) else(Option.bind (D.un .not (.bool z)) λx16=>Option.bind (D.truth x16) λb17=>
   Option.bind (if b17 then(some true) else(Option.bind (D.get (af x) [1]) λx18=>Option.bind (D.un .not x18) λx19=>D.truth x19)) λb20=>some (D.bool b20)))=some (.bool true):=by
  intro z hz;refine aa (z:=.bool false) rfl (aa (z:=false) rfl ?_);rw[if_neg (by decide)]
  refine aa (z:=.bool (!z)) rfl (aa (z:=!z) rfl ?_);cases z with
  | false=>rfl
  | true=>
   have:=hz rfl;subst this;rfl
 refine bn (λi s=>s=[.bool (zB x.natAbs i),I (i:Int)]) 16 0 (zoa _) rfl (λi hi s hJ=>?_) (λs hJ=>?_)
 ·subst hJ;left;refine⟨_,?_,rfl⟩;refine aa ah (aa ab (aD (by show(i:Int)<16;omega) (aa ab (aa (z:=zB x.natAbs (i+1)) ?_ (aa (au (ay (i:=i) (by omega))) rfl)))))
  rw[IV];cases zB x.natAbs i with
  | false=>rfl
  | true=>
   rw[if_pos rfl];refine aa (aq hi) (aa (cH hi) ?_);show D.truth (D.bool (D.beq (U (dP (ar x.natAbs) i)) (U 0)))=_;rw[I1,ab];rfl
 ·subst hJ;refine⟨(0,[.bool (zB x.natAbs 16)]),?_,?_⟩
  ·exact aa ah (aa ab (aH (by decide) rfl))
  ·refine fin _ λh=>?_;have:=rR hx (λi hi=>of_decide_eq_true (zja.1 h i (zWa.2 hi)));omega
def lQ(n:Nat){x:Int}(hx:In x):cA (n+2) 76 [af x]=some (.bool true):=by
 rw[Vs]
 delta KW qG qT
 exact aa (SE n hx) (aa ab rfl)
def mg(n:Nat){x:Int}(hx:x.natAbs<4611686018427387904):cA (n+3) 124 [af x]=some (.tup [I x,.bool true]):=by
 have hin:In x:=In.of (by simp only[inR];omega)
 rw[KF]
 delta Bx qG qB qC qT qN qZ iL iR Jn
 have l1:=Er x.natAbs;refine aa (lQ n hin) (aa aJ (aa ab (aa (z:=false) ?_ (aa ab ?_))))
 ·rw[if_neg (by decide)]
  refine aa (cH (i:=1) (by decide)) ?_
  rw[l1];have:D.bin .geq (U (x.natAbs/4294967296%4294967296)) (.int .u32 1073741824)=some (.bool false):=by
   simp only[D.bin,if_true];rw[decide_eq_false (by omega)]
  exact aa this rfl
 ·rw[if_neg (by decide)]
  refine bn (λi s=>s=[I (i:Int)]/\2<=i) 16 2 (by decide) ⟨rfl,by decide⟩ (λi hi s hJ=>?_) (λs hJ=>?_)
  ·obtain⟨rfl,h2⟩:=hJ;left;refine⟨_,?_,rfl,by omega⟩
   refine aa ah (aa ab (aD (by show(i:Int)<16;omega) ?_))
   refine aa (aq hi) (aa (cH hi) ?_);rw[MP (by omega) h2]
   refine aa (z:=false) rfl ?_;rw[if_neg (by decide)]
   exact aa (au (ay (i:=i) (by omega))) rfl
  ·obtain⟨rfl,_⟩:=hJ;refine⟨(1,[]),aa ah (aa ab (aH (by decide) rfl)),?_⟩
   rw[if_neg (by decide)]
   have e0:=Jj x.natAbs;refine aa (cH (i:=1) (by decide)) (aa (qg (vA (aP _) 1)) ?_)
   rw[l1];refine aa (bg (by simp only[inR];omega)) (aa (cH (i:=0) (by decide)) (aa (qg (vA (aP _) 0)) ?_))
   rw[e0];refine aa (au (by simp only[inR];omega)) (aa (z:=.bool (decide (x<0))) rfl (aa ab ?_))
   by_cases hx0:x<0
   ·refine aD hx0 ?_;refine aa (kX (by simp only[inR];omega)) ?_
    congr 4;omega
   ·refine aH hx0 ?_;congr 4;omega
def SF(n:Nat){x:Int}(hx:In x):cA (n+3) 142 [af x]=some (af x.natAbs):=by
 rw[Un]
 delta Gh qN
 have hl:=bc 32 _ hx;refine aa (lQ n hx) (aa aJ (aa ab ?_));refine aa (qf n hx) (aa (z:=af x.natAbs) ?_ rfl);rw[Fz n (aP _) (by omega) (by rw[ai];exact hx),ai];rfl
def N9(n:Nat){a b:List Nat}(ha:dl a)(hb:dl b)(hla:a.length<=900000)(hlb:b.length<=900000):cA (n+2) 78 [.sl (ae a),.sl (ae b)]=some (.bool (decide (aV a<aV b))):=by
 rw[Yf]
 delta NP qB qC qT qS qZ iL iR Jn
 obtain⟨M,hM⟩:∃ M,M=max a.length b.length:=⟨_,rfl⟩;have hmax:D.max2 (D.int .i64 (ae a).length) (D.int .i64 (ae b).length)=some (I (M:Int)):=by
  rw[A2,aj,aj,hM];congr 2;omega
 have hva:vt a M=aV a:=gC (by omega)
 have hvb:vt b M=aV b:=gC (by omega)
 refine aa (z:=ae a) rfl (aa (z:=ae b) rfl (aa hmax (aa (bH (by simp only[inR];omega)) ?_)))
 refine bn (λi s=>s=[I ((M:Int)-1-i)]/\(aV a<aV b↔vt a (M-i)<vt b (M-i))) M 0 (zoa _) ⟨by simp,by simp[hva,hvb]⟩ (λi hi s hJ=>?_) (λs hJ=>?_)
 ·obtain⟨rfl,hz⟩:=hJ;obtain⟨k,hk⟩:∃ k,M-i=k+1:=⟨M-i-1,by omega⟩
  rw[hk,vt,vt] at hz;have e1:(M:Int)-1-i=(k:Int):=by omega
  rw[e1];have la:=sS ha k;have lb:=sS hb k;have q1:=yX n a k;have q2:=yX n b k;by_cases hab:a.getD k 0=b.getD k 0
  ·left;refine⟨[I ((M:Int)-1-(i+1:Nat))],?_,rfl,?_⟩
   ·refine aa fl (aa ab (aD (by show(k:Int) ≥ 0;omega) (aa q1 (aa q2 (aa (z:=false) ?_ ?_)))))
    ·rw[hab,ce,decide_eq_true rfl];rfl
    ·rw[if_neg (by decide)]
     refine aa (bH (by simp only[inR];omega)) ?_
     congr 4;omega
   ·rw[hz,hab,show M-(i+1)=k by omega];omega
  ·right;refine⟨(0,[.bool (decide (a.getD k 0<b.getD k 0))]),?_,?_⟩
   ·refine aa fl (aa ab (aD (by show(k:Int) ≥ 0;omega) (aa q1 (aa q2 (aa (z:=true) ?_ ?_)))))
    ·rw[ce,decide_eq_false hab];rfl
    ·rw[if_pos rfl];refine aa q1 (aa q2 (aa ah ?_));simp
   ·rw[if_pos rfl];show some (D.bool (decide (a.getD k 0<b.getD k 0)))=_;congr 3;rw[eq_iff_iff,hz];generalize a.getD k 0=u at *;generalize b.getD k 0=v at *;generalize 65536^k=B at *;constructor
    ·intro h;have:(u+1)*B<=v*B:=zwa _ h;rw[zUa] at this;omega
    ·intro h;rcases zla u v with h1|h1
     ·exact h1
     ·have:(v+1)*B<=u*B:=zwa _ (by omega)
      rw[zUa] at this;omega
 ·obtain⟨rfl,hz⟩:=hJ;refine⟨(1,[]),?_,?_⟩
  ·exact aa fl (aa ab (aH (by show ¬ ((M:Int)-1-(M:Nat)) ≥ 0;omega) rfl))
  ·rw[if_neg (by decide)]
   have:¬ aV a<aV b:=by rw[hz];simp[vt]
   rw[decide_eq_false this]
def La(n:Nat){x y:Int}(hx:In x)(hy:In y):cA (n+3) 32 [af x,af y]=some (I (bf x y)):=by
 rw[u32]
 delta KQ qG qT qN Jn
 have hlx:=bc 32 _ hx;have hly:=bc 32 _ hy;have gx:=lQ n hx;have gy:=lQ n hy;have dx:=qf n hx;have dy:=qf n hy;refine aa gx (aa aJ (aa ab (aa (z:=false) rfl (aa (z:=false) rfl ?_))));rw[if_neg (by decide)]
 refine aa gx (aa aJ (aa (z:=false) rfl ?_));rw[if_neg (by decide)]
 refine aa gy (aa aJ (aa (z:=false) rfl ?_));rw[if_neg (by decide)]
 refine aa (z:=.bool (decide (x<0))) rfl (aa (z:=.bool (decide (y<0))) rfl ?_);have l1:=N9 n (aP x.natAbs) (aP y.natAbs) (by omega) (by omega)
 have l2:=N9 n (aP y.natAbs) (aP x.natAbs) (by omega) (by omega)
 simp only[ai] at l1 l2;have hb:∀ p q:Bool,D.truth (.bool (!(D.beq (.bool p) (.bool q))))=some (!(p==q)):=λp q=>rfl;rw[hb];refine aa rfl ?_;by_cases h1:x<0<;>by_cases h2:y<0
 ·rw[decide_eq_true h1,decide_eq_true h2,if_neg (by decide)]
  refine aa dx (aa dy (aa (z:=(0,[.sl (ae (ar y.natAbs)),.sl (ae (ar x.natAbs))])) ?_ ?_))
  ·refine aa (z:=.bool true) (by rw[show D.get (af x) [1]=some (.bool (decide (x<0))) from rfl,decide_eq_true h1]) (aa (z:=true) rfl ?_)
   rw[if_pos rfl];exact aa dy (aa dx rfl)
  ·refine aa l2 (aa l1 (aa ab ?_));by_cases h3:y.natAbs<x.natAbs
   ·refine aD h3 ?_;simp[bf,show x<y by omega]
   ·refine aH h3 (aa ab ?_);by_cases h4:x.natAbs<y.natAbs
    ·refine aD h4 ?_;simp[bf,show ¬ x<y by omega,show y<x by omega]
    ·refine aH h4 ?_;simp[bf,show ¬ x<y by omega,show ¬ y<x by omega]
 ·rw[decide_eq_true h1,decide_eq_false h2,if_pos (by decide)]
  refine aa (z:=.bool true) (by rw[show D.get (af x) [1]=some (.bool (decide (x<0))) from rfl,decide_eq_true h1]) (aa (z:=true) rfl ?_)
  simp[bf,show x<y by omega]
 ·rw[decide_eq_false h1,decide_eq_true h2,if_pos (by decide)]
  refine aa (z:=.bool false) (by rw[show D.get (af x) [1]=some (.bool (decide (x<0))) from rfl,decide_eq_false h1]) (aa (z:=false) rfl ?_)
  simp[bf,show ¬ x<y by omega,show y<x by omega]
 ·rw[decide_eq_false h1,decide_eq_false h2,if_neg (by decide)]
  refine aa dx (aa dy (aa (z:=(0,[.sl (ae (ar x.natAbs)),.sl (ae (ar y.natAbs))])) ?_ ?_))
  ·refine aa (z:=.bool false) (by rw[show D.get (af x) [1]=some (.bool (decide (x<0))) from rfl,decide_eq_false h1]) (aa (z:=false) rfl rfl)
  ·refine aa l1 (aa l2 (aa ab ?_));by_cases h3:x.natAbs<y.natAbs
   ·refine aD h3 ?_;simp[bf,show x<y by omega]
   ·refine aH h3 (aa ab ?_);by_cases h4:y.natAbs<x.natAbs
    ·refine aD h4 ?_;simp[bf,show ¬ x<y by omega,show y<x by omega]
    ·refine aH h4 ?_;simp[bf,show ¬ x<y by omega,show ¬ y<x by omega]
end Sy
end
noncomputable section
namespace Sy
open Go Go.Proofs Geo
def Wd(x:Int):Prop:=x.natAbs<4611686018427387904
theorem Wd.inR{x:Int}(h:Wd x):inR x:=by unfold Wd at h;simp only[Sy.inR];omega
theorem Wd.In{x:Int}(h:Wd x):In x:=In.of h.inR
def SG(n:Nat){a b:Int}(ha:Wd a)(hb:b≠0)(hd:b ∣ a):cA (n+1) 144 [I a,I b]=some (I (a/b)):=by
 rw[M8]
 delta Di qB qT Jn
 obtain⟨q,rfl⟩:=hd;have e1:(b*q).tdiv b=q:=z9c _ hb;have e2:b*q/b=q:=z2a _ hb;have e3:(b*q).tmod b=0:=Int.mul_tmod_right ..;have hq:Sy.inR q:=by
  have:q.natAbs<=(b*q).natAbs:=by rw[zOa];exact zJb _ (by omega)
  unfold Wd at ha;simp only[Sy.inR];omega
 rw[e2];refine aa (kl hb (by rw[e1];exact hq)) (aa (z:=(0,[I q])) (aa (jW hb) ?_) rfl)
 rw[e1,e3];exact aa (z:=false) rfl (aa (z:=false) rfl (aa ab rfl))
def Oa(n:Nat){a b:Int}(ha:Wd a)(hb:Wd b):cA (n+4) 85 [af a,af b]=some (af (Nat.gcd a.natAbs b.natAbs:Nat)):=by
 rw[VN]
 delta LL qB qC qT qN qS qZ iL iR Jn
 refine aa (mg n ha) (aa (z:=I a) rfl (aa (z:=.bool true) rfl (aa (mg n hb) (aa (z:=I b) rfl (aa (z:=.bool true) rfl (aa (z:=true) rfl (aa (z:=true) rfl (aa (z:=true) rfl ?_))))))));rw[if_pos rfl];obtain⟨r,h1,h2⟩:=xl (body:=λ(v1:List D)=>
  Option.bind (D.truth (D.bool (!(D.beq (gx v1 1) (D.int .i64 0))))) λb2=>
  if b2 then(Option.bind (D.bin .rem (gx v1 0) (gx v1 1)) λx3=>
  some (Sum.inl [(gx v1 1),x3])) else(some (Sum.inr (0,[(gx v1 0)]))))
  (λa b hb=>by simp only[g0,g1,bw,ab,zba,hb,decide_false,zxb,if_true,jW hb])
  (λa=>by simp only[g0,g1,bw,ab,zba,decide_true,z2b,zsa,if_false]) _ a b rfl
 refine kD h1 ?_;have hg:Nat.gcd a.natAbs b.natAbs<=4611686018427387903:=by unfold Wd at ha hb;exact oI (by omega) (by omega)
 have hr:Sy.inR r:=by simp only[Sy.inR];omega
 refine aa (yI n hr) (aa (SF n (In.of hr)) ?_);rw[h2]
def BI(n:Nat){x:Int}(hx:In x):cA (n+3) 83 [af x]=some (I (sg x)):=by
 rw[Yj]
 delta NT qG qT qN qS Jn
 refine aa (lQ n hx) (aa aJ (aa (z:=false) rfl (aa (z:=decide (x=0)) ?_ (aa ab ?_))))
 ·rw[if_neg (by decide)]
  refine aa (qf n hx) (aa (z:=ae (ar x.natAbs)) rfl ?_);rw[ab,aj];show some (D.beq (I ((ar x.natAbs).length:Nat)) (I (0:Nat)))=_;rw[ce];congr 1;rw[decide_eq_decide,zmc,ri];omega
 ·by_cases h0:x=0
  ·refine aD h0 ?_;subst h0;rfl
  ·refine aH h0 (aa (z:=.bool (decide (x<0))) rfl (aa ab ?_));by_cases h1:x<0
   ·refine aD h1 ?_;rw[wa h1]
   ·refine aH h1 ?_;rw[fK (by omega)]
def Oc(n:Nat){a b:Int}(ha:Wd a)(hb:Wd b)(hb0:b≠0)(hd:b ∣ a):cA (n+4) 87 [af a,af b]=some (af (a/b)):=by
 rw[Vt]
 delta KX qG qB qT qN qS Jn
 refine aa (mg n ha) (aa (z:=I a) rfl (aa (z:=.bool true) rfl (aa (mg n hb) (aa (z:=I b) rfl (aa (z:=.bool true) rfl (aa (z:=true) rfl (aa (z:=true) rfl (aa (z:=true) rfl (aa (z:=true) ?_ (aa (z:=true) rfl ?_))))))))))
 ·rw[if_pos rfl,bw,decide_eq_false hb0];rfl
 ·rw[if_pos rfl];have hq:Sy.inR (a/b):=by
   obtain⟨q,rfl⟩:=hd;rw[z2a _ hb0];have:q.natAbs<=(b*q).natAbs:=by rw[zOa];exact zJb _ (by omega)
   unfold Wd at ha;simp only[Sy.inR];omega
  exact aa (SG (n+2) ha hb0 hd) (aa (yI n hq) rfl)
abbrev N5(n:Nat):D:=.int .u64 (n:Int)
def c7{n:Int}(h:0<=n/\n<18446744073709551616):IntKind.wrap .u64 n=n:=by
 obtain⟨h1,h2⟩:=h;simp only[IntKind.wrap,IntKind.signed,IntKind.bits];first
  | omega
  | (simp;omega)
def JR(n:Nat){x:Int}(hx:Wd x):cA (n+4) 186 [af x]=some (.tup [I x,.bool true]):=by
 rw[UD]
 delta Gy qG qB qC qT qN Jn
 have hx':x.natAbs<4611686018427387904:=hx;have i1:Sy.inR (-9223372036854775808):=⟨by decide,by decide⟩
 have i2:Sy.inR 9223372036854775807:=⟨by decide,by decide⟩
 refine aa (lQ (n+1) hx.In) (aa aJ (aa (z:=false) rfl ?_));rw[if_neg (by decide)]
 refine aa (yI n i1) (aa (yI n i2) (aa (La n hx.In (In.of i1)) ?_));rw[show bf x (-9223372036854775808)=1 by unfold bf;rw[if_neg (by omega),if_pos (by omega)]]
 refine aa (z:=.bool false) ah (aa (z:=false) rfl (aa (z:=false) ?_ (aa (z:=false) rfl ?_)))
 ·rw[if_neg (by decide)]
  refine aa (La n hx.In (In.of i2)) ?_;rw[show bf x 9223372036854775807=-1 by unfold bf;rw[if_pos (by omega)]]
  exact aa (z:=.bool false) ca rfl
 ·rw[if_neg (by decide)]
  have l1:=Er x.natAbs;have l0:=Jj x.natAbs;refine aa (cH (i:=1) (by decide)) ?_
  rw[l1];refine aa (z:=N5 (x.natAbs/4294967296%4294967296)) (by simp only[D.conv];rw[c7 (by omega)]) ?_
  refine aa (z:=N5 (x.natAbs/4294967296%4294967296*4294967296)) (by simp only[D.bin,if_true];rw[c7 (by omega)];simp) ?_
  refine aa (cH (i:=0) (by decide)) ?_
  rw[l0];refine aa (z:=N5 (x.natAbs%4294967296)) (by simp only[D.conv];rw[c7 (by omega)]) ?_
  refine aa (z:=N5 x.natAbs) (by simp only[D.bin,if_true];rw[c7 (by omega)];congr 2;omega) ?_
  refine aa (z:=I (x.natAbs:Nat)) (by simp only[D.conv];rw[gD (by simp only[Sy.inR];omega)]) ?_
  refine aa (z:=(0,[I x])) (aa (z:=.bool (decide (x<0))) rfl (aa ab ?_)) rfl;by_cases h:x<0
  ·refine aD h (aa (kX (by simp only[Sy.inR];omega)) ?_)
   congr 4;omega
  ·refine aH h ?_;congr 4;omega
def SO(n:Nat){v:V}(hv:bd 2305843009213693951 v):cA (n+1) 187 [ag v]=some (.bool true):=by
 rw[Nd]
 delta Dn qB qC qT qJ qZ iL iR Jn
 have stp:∀ x:Int,(-2305843009213693951<=x/\x<=2305843009213693951)->∀ (i:Nat) (hi:i<3),D.get (ag v) [i]=some (I x)->(Option.bind (D.idx (I (i:Int)) 3) λi4=>Option.bind (D.get (ag v) [i4]) λx5=>Option.bind (D.bin .geq x5 (D.int .i64 2305843009213693952)) λx6=>Option.bind (D.truth x6) λb7=>
  Option.bind (if b7 then(some true) else(Option.bind (D.idx (I (i:Int)) 3) λi8=>Option.bind (D.get (ag v) [i8]) λx9=>Option.bind (D.bin .leq x9 (D.int .i64 (-2305843009213693952))) λx10=>D.truth x10)) λb11=>
  Option.bind (D.truth (D.bool b11)) λb12=>if b12 then(some (Sum.inr (0,[(D.bool false)]))) else(Option.bind (D.bin .add (I (i:Int)) (D.int .i64 1)) λx13=>some (Sum.inl [x13])))=some (Sum.inl [I ((i+1:Nat):Int)]:Sum (List D) (Nat×List D)):=λx hx i hi hg=>by
  refine aa (aq hi) (aa hg (aa fl (aa ab (aa (z:=false) ?_ (aa (z:=false) rfl ?_)))))
  ·refine aH (by omega) (aa (aq hi) (aa hg (aa jV ?_)))
   rw[ab,decide_eq_false (by omega)]
  ·rw[if_neg (by decide)]
   exact aa (au (ay (i:=i) (by omega))) rfl
 refine co (s':=[I (1:Nat)]) (aa ah (aa ab (aD (by decide) (stp v.x hv.1 0 (by decide) rfl)))) (co (s':=[I (2:Nat)]) (aa ah (aa ab (aD (by decide) (stp v.y hv.2.1 1 (by decide) rfl)))) (co (s':=[I (3:Nat)]) (aa ah (aa ab (aD (by decide) (stp v.z hv.2.2 2 (by decide) rfl)))) (eZ (r:=(1,[])) (aa ah (aa ab (aH (by decide) rfl))) rfl)))
def pz(v:V):D:=.st [af v.x,af v.y,af v.z]
def Tq(n:Nat){v:V}(hx:inR v.x)(hy:inR v.y)(hz:inR v.z):cA (n+4) 80 [ag v]=some (pz v):=by
 rw[Yh]
 delta NR qG
 exact aa (ni v) (aa (yI n hx) (aa (nj v) (aa (yI n hy) (aa (nk v) (aa (yI n hz) rfl)))))
def L7(n:Nat){v:V}(hv:bd 2305843009213693951 v):cA (n+5) 155 [pz v]=some (.st [ag (bS v),I (if v=V.zero then 31 else 0)]):=by
 rw[Uu]
 delta Gp qG qB qC qT qN qJ qZ iL iR Jn
 have wx:Wd v.x:=by have:=hv.1;unfold Wd;omega
 have wy':Wd v.y:=by have:=hv.2.1;unfold Wd;omega
 have wz:Wd v.z:=by have:=hv.2.2;unfold Wd;omega
 have h0:Sy.inR 0:=⟨by decide,by decide⟩
 have w0:Wd 0:=by unfold Wd;decide
 have q1:Nat.gcd v.x.natAbs v.y.natAbs<=4611686018427387903:=by unfold Wd at wx wy';exact oI (by omega) (by omega)
 have q2:bu v<=4611686018427387903:=by
  unfold bu;have:=oI (a:=(Nat.gcd v.x.natAbs v.y.natAbs:Nat)) (b:=v.z) (k:=4611686018427387903) (by simpa using q1) (by unfold Wd at wz;omega)
  simpa using this
 have wxx:Wd (v.x.natAbs:Nat):=by unfold Wd at *;omega
 have w1:Wd (Nat.gcd v.x.natAbs v.y.natAbs:Nat):=by unfold Wd;omega
 have w2:Wd (bu v:Nat):=by unfold Wd;omega
 have g01:=Oa n w0 wx;have g02:=Oa n wxx wy';have g03:=Oa n w1 wz;rw[show(Nat.gcd (0:Int).natAbs v.x.natAbs)=v.x.natAbs by simp] at g01
 rw[show(Nat.gcd ((v.x.natAbs:Nat):Int).natAbs v.y.natAbs)=Nat.gcd v.x.natAbs v.y.natAbs by simp] at g02
 rw[show(Nat.gcd ((Nat.gcd v.x.natAbs v.y.natAbs:Nat):Int).natAbs v.z.natAbs)=bu v by simp[bu]] at g03
 have fst:∀ {k:Nat×List D->Option D} {y:D},k (0,[af (bu v:Nat)])=some y->Option.bind (cA (n+4) 34 [(D.int .i64 0)]) (λr1=>Option.bind (aO (λ(v2:List D)=>
   Option.bind (D.bin .lss (gx v2 0) (D.int .i64 3)) λx3=>Option.bind (D.truth x3) λb4=>
   if b4 then(Option.bind (D.idx (gx v2 0) 3) λi5=>Option.bind (D.get (pz v) [i5]) λx6=>Option.bind (cA (n+4) 85 [(gx v2 1),x6]) λr7=>
   Option.bind (D.bin .add (gx v2 0) (D.int .i64 1)) λx8=>some (Sum.inl [x8,r7])) else(some (Sum.inr (0,[(gx v2 1)])))) [(D.int .i64 0),r1]) k)=some y:=by
  intro k y hk;refine aa (yI (n+1) h0) ?_;refine co (s':=[I 1,af (v.x.natAbs:Nat)]) (aa ah (aa ab (aD (by decide) (aa Jg (aa (z:=af v.x) rfl (aa g01 (aa (au Lc) rfl))))))) ?_
  refine co (s':=[I 2,af (Nat.gcd v.x.natAbs v.y.natAbs:Nat)]) (aa ah (aa ab (aD (by decide) (aa Jh (aa (z:=af v.y) rfl (aa g02 (aa (au s9) rfl))))))) ?_
  refine co (s':=[I 3,af (bu v:Nat)]) (aa ah (aa ab (aD (by decide) (aa Ji (aa (z:=af v.z) rfl (aa g03 (aa (au Ld) rfl))))))) ?_
  exact eZ (r:=(0,[af (bu v:Nat)])) (aa ah (aa ab (aH (by decide) rfl))) hk
 have hsg:=BI (n+1) w2.In;by_cases hz:bu v=0
 ·refine fst (aa (z:=.bool false) rfl (aa (z:=false) rfl ?_));rw[if_neg (by decide)]
  refine aa hsg ?_;rw[hz];refine aa (z:=true) rfl ?_;rw[if_pos rfl];have hv0:v=V.zero:=by
   by_cases h:v=V.zero
   ·exact h
   ·have:=ku h;omega
  rw[hv0];rfl
 ·have hg0:(bu v:Int)≠0:=by omega
  rw[if_neg (λh=>hz (by rw[h];rfl))]
  refine fst (aa (z:=.bool false) rfl (aa (z:=false) rfl ?_));rw[if_neg (by decide)]
  refine aa hsg ?_;rw[fK (show(0:Int)<bu v by omega)]
  refine aa (z:=false) rfl ?_;rw[if_neg (by decide)]
  have bp:=jv hv;have z1:=Oc n wx w2 hg0 (xd v);have z2:=Oc n wy' w2 hg0 (xe v);have z3:=Oc n wz w2 hg0 (xf v);have s1:=JR n (x:=v.x/(bu v:Nat)) (by have:=bp.1;unfold Wd;simp only[bS] at this;omega)
  have s2:=JR n (x:=v.y/(bu v:Nat)) (by have:=bp.2.1;unfold Wd;simp only[bS] at this;omega)
  have s3:=JR n (x:=v.z/(bu v:Nat)) (by have:=bp.2.2;unfold Wd;simp only[bS] at this;omega)
  refine co (s':=[I 1,.st [ag V.zero,I 0],.st [ag ⟨v.x/(bu v:Nat),0,0⟩,I 0]]) ?_ (co (s':=[I 2,.st [ag V.zero,I 0],.st [ag ⟨v.x/(bu v:Nat),v.y/(bu v:Nat),0⟩,I 0]]) ?_ (co (s':=[I 3,.st [ag V.zero,I 0],.st [ag ⟨v.x/(bu v:Nat),v.y/(bu v:Nat),v.z/(bu v:Nat)⟩,I 0]]) ?_ (eZ (r:=(1,[.st [ag V.zero,I 0],.st [ag (bS v),I 0]])) (aa ah (aa ab (aH (by decide) rfl))) ?_)))
  ·refine aa ah (aa ab (aD (by decide) (aa Jg (aa (z:=af v.x) rfl (aa z1 (aa s1 (aa (z:=I (v.x/(bu v:Nat))) rfl (aa (z:=.bool true) rfl (aa (z:=.bool false) rfl (aa (z:=false) rfl ?_))))))))))
   rw[if_neg (by decide)]
   exact aa Jg (aa (z:=.st [ag ⟨v.x/(bu v:Nat),0,0⟩,I 0]) rfl (aa (au Lc) rfl))
  ·refine aa ah (aa ab (aD (by decide) (aa Jh (aa (z:=af v.y) rfl (aa z2 (aa s2 (aa (z:=I (v.y/(bu v:Nat))) rfl (aa (z:=.bool true) rfl (aa (z:=.bool false) rfl (aa (z:=false) rfl ?_))))))))))
   rw[if_neg (by decide)]
   exact aa Jh (aa (z:=.st [ag ⟨v.x/(bu v:Nat),v.y/(bu v:Nat),0⟩,I 0]) rfl (aa (au s9) rfl))
  ·refine aa ah (aa ab (aD (by decide) (aa Ji (aa (z:=af v.z) rfl (aa z3 (aa s3 (aa (z:=I (v.z/(bu v:Nat))) rfl (aa (z:=.bool true) rfl (aa (z:=.bool false) rfl (aa (z:=false) rfl ?_))))))))))
   rw[if_neg (by decide)]
   exact aa Ji (aa (z:=.st [ag ⟨v.x/(bu v:Nat),v.y/(bu v:Nat),v.z/(bu v:Nat)⟩,I 0]) rfl (aa (au Ld) rfl))
  ·rw[if_neg (show ¬ (1:Nat)=0 by decide)]
   refine aa (z:=ag (bS v)) rfl (aa (SO (n+3) (v:=bS v) ?_) (aa (z:=.bool false) rfl (aa (z:=false) rfl rfl)));simp only[bd] at bp ⊢;omega
def SI(n:Nat){v:V}(hv:bd 549755813888 v):∃ e:Int,cA (n+5) 155 [pz v]=some (.st [ag (bS v),I e]):=
 ⟨_,L7 n (by simp only[bd] at *;omega)⟩
def Sv(n:Nat){a b c:V}(ha:bd MV a)(hb:bd MV b)(hc:bd MV c):cA (n+6) 106 [ag a,ag b,ag c]=some (ag (bS (V.cross (b.sub a) (c.sub a)))):=by
 rw[TQ]
 delta FH qG
 have h1:bd 524288 (b.sub a):=by have:=jx hb ha;simpa [MV] using this
 have h2:bd 524288 (c.sub a):=by have:=jx hc ha;simpa [MV] using this
 have h3:=gL h1 h2;refine aa (yU (n+4) hb ha (by decide)) (aa (yU (n+4) hc ha (by decide)) (aa (L0 (n+4) h1 h2 (by decide)) ?_))
 have h4:bd 549755813888 (V.cross (b.sub a) (c.sub a)):=h3;generalize V.cross (b.sub a) (c.sub a)=m at *;obtain⟨e,he⟩:=SI n h4;refine aa (Tq (n+1) ?_ ?_ ?_) (aa he rfl)
 ·have:=h4.1;simp only[Sy.inR];omega
 ·have:=h4.2.1;simp only[Sy.inR];omega
 ·have:=h4.2.2;simp only[Sy.inR];omega
end Sy
end
noncomputable section
namespace Sy
open Go Go.Proofs Geo
theorem mY:∀ {l:List Nat} {j v:Nat},j<l.length->aV (l.set j v)+65536^j*l.getD j 0=aV l+65536^j*v
 | d::l,0,v,_=>by simp only[List.set_cons_zero,aV,zic,zpc,List.getD_cons_zero];omega
 | d::l,j+1,v,h=>by
  have ih:=mY (l:=l) (j:=j) (v:=v) (by simpa using h)
  simp only[List.set_cons_succ,aV,zkb,List.getD_cons_succ];rw[zya (65536^j) 65536,zNa,zNa];generalize 65536^j*l.getD j 0=x at *;generalize 65536^j*v=y at *;omega
def oF(l:List Nat)(j v:Nat):(ae l).set j (I (v:Int))=ae (l.set j v):=by simp[ae,List.map_set]
def kw(l:List Nat)(j v i:Nat)(h:j<l.length):(l.set j v).getD i 0=if i=j then v else l.getD i 0:=by
 by_cases e:i=j
 ·subst e;simp[List.getD,h]
 ·simp[List.getD,e,List.getElem?_set,show ¬ j=i from λk=>e k.symm]
def tP(m:Nat):List.replicate m (D.int .i64 0)=ae (List.replicate m 0):=by simp[ae]
def ju{a b:Nat}(h:a*b<=9223372036854775807):D.bin .mul (I (a:Int)) (I (b:Int))=some (I ((a*b:Nat):Int)):=by
 rw[bg (by simp only[inR];rw[<-z0a];omega),z0a]
def aM{a b:Nat}(h:a+b<=9223372036854775807):D.bin .add (I (a:Int)) (I (b:Int))=some (I ((a+b:Nat):Int)):=by
 rw[au (by simp only[inR];omega),zYc]
def A8(a:Nat):D.natOf (I (a:Int))=some a:=by simp[D.natOf]
def xv{l:List Nat}{i:Nat}(h:i<l.length):D.idx (I (i:Int)) (ae l).length=some i:=by rw[aj];exact aq h
def I6{l:List Nat}(h:∀ i,i<l.length->l.getD i 0<65536):dl l:=λd hd=>by
 obtain⟨i,hi,rfl⟩:=zRa hd;have:=h i hi;simpa [List.getD,hi] using this
def JN(n:Nat){a b:List Nat}(ha:dl a)(hb:dl b)(hla:a.length<=400000)(hlb:b.length<=400000):cA (n+2) 146 [.sl (ae a),.sl (ae b)]=some (.sl (ae (ar (aV a*aV b)))):=by
 rw[Uq]
 delta Gk qB qC qS qX qL qV qW qZ iL iR Jn
 obtain⟨M,hM⟩:∃ M,M=a.length+b.length+1:=⟨_,rfl⟩;refine aa (z:=ae a) rfl (aa (z:=ae b) rfl (aa (z:=I ((a.length+b.length:Nat):Int)) (by rw[aj,aj];exact aM (by omega)) (aa (z:=I (M:Int)) (by rw[hM];exact aM (b:=1) (by omega)) (aa (A8 M) ?_))))
 rw[if_pos (by omega),tP]
 refine bn (λi s=>∃ out:List Nat,s=[I (i:Int),.sl (ae out)]/\out.length=M/\dl out/\aV out=vt a i*aV b) a.length 0 (zoa _) ⟨List.replicate M 0,rfl,by simp,λx hx=>by rw[z8c hx];decide,by have:=ml [] M;rw[zXb] at this;rw[this];simp[vt,aV]⟩ (λi hi s hJ=>?_) (λs hJ=>?_)
 ·obtain⟨out,rfl,ho,hdo,hv⟩:=hJ;left;have hai:=ha.getD i;obtain⟨r,h1,out1,rfl,o1,o2,o3⟩:=AZ (body:=λ(v10:List D)=>
   Option.bind (D.asSl (.sl (ae b))) λl11=>
   Option.bind (D.bin .lss (gx v10 0) (D.int .i64 (List.length l11))) λx12=>
   Option.bind (D.truth x12) λb13=>
   if b13 then(Option.bind (D.bin .add (I (i:Int)) (gx v10 0)) λx14=>
   Option.bind (D.bin .add (I (i:Int)) (gx v10 0)) λx15=>
   Option.bind (D.idx x15 (List.length (D.els (gx v10 1)))) λi16=>
   Option.bind ((D.els (gx v10 1))[i16]?) λx17=>
   Option.bind (D.asSl (.sl (ae a))) λl18=>
   Option.bind (D.idx (I (i:Int)) (List.length l18)) λi19=>
   Option.bind (l18[i19]?) λx20=>
   Option.bind (D.asSl (.sl (ae b))) λl21=>
   Option.bind (D.idx (gx v10 0) (List.length l21)) λi22=>
   Option.bind (l21[i22]?) λx23=>
   Option.bind (D.bin .mul x20 x23) λx24=>
   Option.bind (D.bin .add x17 x24) λx25=>
   Option.bind (D.idx x14 (List.length (D.els (gx v10 1)))) λi26=>
   Option.bind ((D.els (gx v10 1))[i26]?) λx27=>
   Option.bind (D.bin .add (gx v10 0) (D.int .i64 1)) λx28=>
   some (Sum.inl [x28,(D.sl (List.set (D.els (gx v10 1)) i26 x25))])) else(some (Sum.inr (0,[(D.sl (D.els (gx v10 1)))]))))
   (s0:=[I 0,.sl (ae out)])
   (λk s=>∃ o:List Nat,s=[I (k:Int),.sl (ae o)]/\o.length=M/\(∀ j,j<M->o.getD j 0<=4295032831/\(i+k<=j->o.getD j 0<65536))/\aV o=aV out+65536^i*(a.getD i 0*vt b k))
   (λr=>∃ o:List Nat,r=(0,[.sl (ae o)])/\o.length=M/\(∀ j,j<M->o.getD j 0<=4295032831)/\aV o=aV out+65536^i*(a.getD i 0*aV b)) b.length 0 (zoa _)
   ⟨out,rfl,ho,λj _=>by have:=hdo.getD j;omega,by simp[vt]⟩ (λk hk s hJ=>by
    obtain⟨o,rfl,o1,o2,o3⟩:=hJ;left;have hbk:=hb.getD k;have hik:i+k<o.length:=by omega
    have hp:a.getD i 0*b.getD k 0<=65535*65535:=zfb (by omega) (by omega)
    have hx:=(o2 (i+k) (by omega)).2 (zha _)
    refine⟨[I ((k+1:Nat):Int),.sl (ae (o.set (i+k) (o.getD (i+k) 0+a.getD i 0*b.getD k 0)))],?_,_,rfl,by simpa using o1,λj hj=>?_,?_⟩
    ·refine aa (z:=ae b) rfl (aa ah (aa ab (aD (by show(k:Int)<((ae b).length:Int);rw[aj];omega) ?_)))
     refine aa (aM (a:=i) (b:=k) (by omega)) (aa (aM (a:=i) (b:=k) (by omega)) (aa (xv hik) (aa (cM hik) ?_)))
     refine aa (z:=ae a) rfl (aa (xv hi) (aa (cM hi) (aa (z:=ae b) rfl (aa (xv hk) (aa (cM hk) ?_)))));refine aa (ju (by omega)) (aa (aM (by omega)) (aa (xv hik) (aa (cM hik) (aa (au (ay (i:=k) (by omega))) ?_))))
     show some (Sum.inl [_,D.sl (List.set (ae o) (i+k) _)])=_;rw[oF];rfl
    ·rw[kw _ _ _ _ hik];have:=o2 j hj;split
     ·omega
     ·omega
    ·have e:=mY (l:=o) (j:=i+k) (v:=o.getD (i+k) 0+a.getD i 0*b.getD k 0) hik;rw[vt,zFb,zFb];have e2:65536^i*(a.getD i 0*(b.getD k 0*65536^k))=65536^(i+k)*(a.getD i 0*b.getD k 0):=by
      rw[z6a,<-zNa (a.getD i 0),zya (a.getD i 0*b.getD k 0),zNa]
     rw[zFb] at e;omega) (λs hJ=>by
    obtain⟨o,rfl,o1,o2,o3⟩:=hJ;rw[kY] at o3;exact⟨_,aa (z:=ae b) rfl (aa ah (aa ab (aH (by show ¬ ((b.length:Int)<((ae b).length:Int));rw[aj];omega) rfl))),o,rfl,o1,λj hj=>(o2 j hj).1,o3⟩)
  obtain⟨r2,h2,out2,rfl,p1,p2,p3⟩:=AZ (body:=λ(v30:List D)=>
   Option.bind (D.bin .lss (gx v30 1) (D.int .i64 (List.length (D.els (gx v30 2))))) λx31=>
   Option.bind (D.truth x31) λb32=>
   if b32 then(Option.bind (D.idx (gx v30 1) (List.length (D.els (gx v30 2)))) λi33=>
   Option.bind ((D.els (gx v30 2))[i33]?) λx34=>
   Option.bind (D.bin .add x34 (gx v30 0)) λx35=>
   Option.bind (D.bin .rem x35 (D.int .i64 65536)) λx36=>
   Option.bind (D.idx (gx v30 1) (List.length (D.els (gx v30 2)))) λi37=>
   Option.bind ((D.els (gx v30 2))[i37]?) λx38=>
   Option.bind (D.bin .quo x35 (D.int .i64 65536)) λx39=>
   Option.bind (D.bin .add (gx v30 1) (D.int .i64 1)) λx40=>
   some (Sum.inl [x39,x40,(D.sl (List.set (D.els (gx v30 2)) i37 x36))])) else(some (Sum.inr (0,[(D.sl (D.els (gx v30 2)))]))))
   (s0:=[I 0,I 0,.sl (ae out1)])
   (λk s=>∃ (o:List Nat) (c:Nat),s=[I (c:Int),I (k:Int),.sl (ae o)]/\o.length=M/\(∀ j,j<k->o.getD j 0<65536)/\(∀ j,k<=j->o.getD j 0=out1.getD j 0)/\c<=131072/\aV o+65536^k*c=aV out1)
   (λr=>∃ o:List Nat,r=(0,[.sl (ae o)])/\o.length=M/\dl o/\∃ c,aV o+65536^M*c=aV out1) M 0 (zoa _)
   ⟨out1,0,rfl,o1,λj hj=>absurd hj (Nat.not_lt_zero _),λj _=>rfl,by omega,by simp⟩ (λk hk s hJ=>by
    obtain⟨o,c,rfl,q1,q2,q3,q4,q5⟩:=hJ;left;have hko:k<o.length:=by omega
    have hx:=o2 k hk;have hq:=q3 k (zha _);refine⟨[I (((o.getD k 0+c)/65536:Nat):Int),I ((k+1:Nat):Int),.sl (ae (o.set k ((o.getD k 0+c)%65536)))],?_,_,_,rfl,by simpa using q1,λj hj=>?_,λj hj=>?_,by omega,?_⟩
    ·refine aa ah (aa ab (aD (by show(k:Int)<((ae o).length:Int);rw[aj];omega) ?_))
     refine aa (xv hko) (aa (cM hko) (aa (aM (by omega)) (aa (km (b:=65536) (by decide)) (aa (xv hko) (aa (cM hko) (aa (iE (b:=65536) (by decide) (by omega)) (aa (au (ay (i:=k) (by omega))) ?_)))))))
     show some (Sum.inl [_,_,D.sl (List.set (ae o) k _)])=_;rw[oF];rfl
    ·rw[kw _ _ _ _ hko];split
     ·omega
     ·exact q2 j (by omega)
    ·rw[kw _ _ _ _ hko,if_neg (by omega)];exact q3 j (by omega)
    ·have e:=mY (l:=o) (j:=k) (v:=(o.getD k 0+c)%65536) hko;have e2:o.getD k 0+c=(o.getD k 0+c)%65536+65536*((o.getD k 0+c)/65536):=by omega
     have e3:65536^k*(o.getD k 0+c)=65536^k*((o.getD k 0+c)%65536)+65536^k*(65536*((o.getD k 0+c)/65536)):=by rw[<-zFb,<-e2]
     rw[zFb] at e3;rw[zkb,zNa];omega) (λs hJ=>by
    obtain⟨o,c,rfl,q1,q2,q3,q4,q5⟩:=hJ;exact⟨_,aa ah (aa ab (aH (by show ¬ ((M:Int)<((ae o).length:Int));rw[aj];omega) rfl)),o,rfl,q1,I6 λj hj=>q2 j (by omega),c,q5⟩)
  obtain⟨c,p4⟩:=p3;refine⟨[I ((i+1:Nat):Int),.sl (ae out2)],?_,out2,rfl,p1,p2,?_⟩
  ·refine aa (z:=ae a) rfl (aa ah (aa ab (aD (by show(i:Int)<((ae a).length:Int);rw[aj];omega) ?_)))
   refine aa h1 (aa h2 ?_);exact aa (au (ay (i:=i) (by omega))) rfl
  ·have hval:aV out1=vt a (i+1)*aV b:=by
    rw[o3,hv,vt,zUa,zya (a.getD i 0) (65536^i),zNa]
   have hlt:vt a (i+1)*aV b<65536^M:=by
    have l1:=sS ha (i+1);have l2:=jB hb;have l3:vt a (i+1)*aV b<65536^(i+1)*65536^b.length:=zEc l1 l2;have l4:65536^(i+1)*65536^b.length<=65536^M:=by rw[<-z6a];exact zra (by decide) (by omega)
    omega
   have hc:c=0:=by
    rcases zrb c with h|h
    ·exact h
    ·have:65536^M*1<=65536^M*c:=zXa _ h;omega
   subst hc;rw[<-hval,<-p4];simp
 ·obtain⟨out,rfl,ho,hdo,hv⟩:=hJ;refine⟨(0,[.sl (ae out)]),aa (z:=ae a) rfl (aa ah (aa ab (aH (by show ¬ ((a.length:Int)<((ae a).length:Int));rw[aj];omega) rfl))),?_⟩
  refine aa (wP n (l:=out) (by omega)) ?_
  rw[gc hdo,hv,kY]
def L5(n:Nat)(x:Int):cA (n+1) 145 [I x]=some (.bool (decide (x<2147483648)&&decide (x>-2147483648))):=by
 rw[Up]
 delta Gj qB qC Jn
 refine aa ah (aa ab ?_);cases h:decide (x<2147483648)
 ·rfl
 ·rw[if_pos rfl];exact aa (aa ca rfl) rfl
def wd(x y:Int):sgn (!(decide (decide (x<0)=decide (y<0)))) (x.natAbs*y.natAbs)=x*y:=by
 unfold sgn;rw[<-zOa];by_cases hx:x<0<;>by_cases hy:y<0
 ·have:=zfc hx hy;simp[hx,hy];omega
 ·have:=Int.mul_nonpos_of_nonpos_of_nonneg (z5a hx) (zac.1 hy);simp[hx,hy];omega
 ·have:=Int.mul_nonpos_of_nonneg_of_nonpos (zac.1 hx) (z5a hy);simp[hx,hy];omega
 ·have:=zoc (zac.1 hx) (zac.1 hy);simp[hx,hy];omega
def XI(n:Nat){x y:Int}(hx:Wd x)(hy:Wd y):cA (n+4) 89 [af x,af y]=some (af (x*y)):=by
 rw[Vu]
 delta KY qG qB qT qN
 refine aa (mg n hx) (aa (z:=I x) rfl (aa (z:=.bool true) rfl (aa (mg n hy) (aa (z:=I y) rfl (aa (z:=.bool true) rfl (aa (z:=true) rfl (aa (z:=true) rfl (aa (z:=true) rfl ?_))))))));refine aa (z:=(decide (x<2147483648)&&decide (x>-2147483648))) (by rw[if_pos rfl];exact aa (L5 (n+2) x) rfl) (aa ab ?_)
 refine aa (z:=((decide (x<2147483648)&&decide (x>-2147483648))&&(decide (y<2147483648)&&decide (y>-2147483648)))) (by
  cases (decide (x<2147483648)&&decide (x>-2147483648))
  ·rfl
  ·rw[if_pos rfl];exact aa (L5 (n+2) y) rfl) (aa ab ?_)
 cases hb:((decide (x<2147483648)&&decide (x>-2147483648))&&(decide (y<2147483648)&&decide (y>-2147483648)))
 ·rw[if_neg (by decide)]
  refine aa (lQ (n+1) hx.In) (aa aJ (aa ab (aa (z:=false) ?_ (aa ab ?_))))
  ·rw[if_neg (by decide)];exact aa (lQ (n+1) hy.In) rfl
  ·rw[if_neg (by decide)]
   have lx:=bc 32 _ hx.In;have ly:=bc 32 _ hy.In;refine aa (z:=.bool (decide (x<0))) rfl (aa (z:=.bool (decide (y<0))) rfl (aa (qf (n+1) hx.In) (aa (qf (n+1) hy.In) (aa (JN (n+1) (aP _) (aP _) (by omega) (by omega)) (aa (z:=af (x*y)) ?_ rfl)))))
   rw[ai,ai];have hxy:x.natAbs*y.natAbs<65536^8:=by
    have e:(65536:Nat)^8=18446744073709551616*18446744073709551616:=by decide
    rw[e];unfold Wd at hx hy;exact zEc (by omega) (by omega)
   have l8:=bc 8 _ hxy;have h32:x.natAbs*y.natAbs<65536^32:=zGa hxy (zra (by decide) (by decide))
   have:=Fz (n+1) (l:=ar (x.natAbs*y.natAbs)) (neg:=!(decide (decide (x<0)=decide (y<0)))) (aP _) (by omega) (by rw[ai];exact h32)
   rw[ai,wd] at this;rw[<-this];congr 4
 ·rw[if_pos rfl];simp only[zaa,decide_eq_true_eq] at hb;have:=fX (A:=2147483648) (B:=2147483648) (a:=x) (b:=y) (by omega) (by omega)
  have hr:inR (x*y):=by simp only[inR];omega
  exact aa (bg hr) (aa (yI n hr) rfl)
def XG(n:Nat){x y:Int}(hx:Wd x)(hy:Wd y):cA (n+4) 59 [af x,af y]=some (af (x+y)):=by
 rw[Vq]
 delta KU qG qB qT qN
 refine aa (mg n hx) (aa (z:=I x) rfl (aa (z:=.bool true) rfl (aa (mg n hy) (aa (z:=I y) rfl (aa (z:=.bool true) rfl (aa (z:=true) rfl (aa (z:=true) rfl (aa (z:=true) rfl ?_))))))));rw[if_pos rfl];have hr:inR (x+y):=by unfold Wd at hx hy;simp only[inR];omega
 exact aa (au hr) (aa (yI n hr) rfl)
end Sy
end
noncomputable section
open Go
def lY(n:Nat):Nat:=2^(32*n)
def cP(n:Nat):lY n=2^(32*n):=rfl
attribute [irreducible] lY
def dJ:Nat:=lY 16
def ff:dJ=lY 16:=rfl
attribute [irreducible] dJ
def mG{a b:Nat}(h:a<=b):lY a<=lY b:=by rw[cP,cP];exact zra (by omega) (by omega)
def uR:lY 2=18446744073709551616:=by rw[cP]
def CP(n:Nat):0<lY n:=by rw[cP];exact zpa _
def eC:0<dJ:=ff ▸ CP 16
def wg{n:Nat}(h:n<18446744073709551616):n<dJ:=by
 rw[ff];rw[<-uR] at h;exact zGa h (mG (by omega))
def bi(X k:Nat):Int:=((X/2^(32*k)%2^32:Nat):Int)
def mh(X k:Nat):bi X k<=4294967295:=by
 unfold bi;have:=zIa (X/2^(32*k)) (show 0<2^32 by decide);omega
def rh(X k:Nat):bi X k<4294967296:=by
 unfold bi;have:=zIa (X/2^(32*k)) (show 0<2^32 by decide);omega
def ci(X k:Nat):0<=bi X k:=by unfold bi;exact Int.natCast_nonneg _
def Cv(a b:Nat)(h:a<=b):2^b=2^a*2^(b-a):=by rw[<-z6a];congr 1;omega
def il(X k j:Nat):bi (X%2^(32*k)) j=if j<k then bi X j else 0:=by
 unfold bi;split
 ·rename_i h;congr 1;rw[Cv (32*j) (32*k) (by omega),Nat.mod_mul_right_div_self,show 32*k-32*j=32+(32*k-32*j-32) from by omega,z6a,Nat.mod_mul_right_mod]
 ·rename_i h;rw[zSa]
  ·simp
  ·exact zGa (zIa _ (zpa _)) (zra (by decide) (by omega))
def vB(n:Nat):∀ (X Y:Nat),X<2^(32*n)->Y<2^(32*n)->(∀ k,k<n->bi X k=bi Y k)->X=Y:=by
 induction n with
 | zero=>intro X Y hX hY _;simp at hX hY;omega
 | succ n ih=>
  intro X Y hX hY h;have hs:∀ Z:Nat,Z=Z%2^(32*n)+2^(32*n)*(Z/2^(32*n)):=λZ=>by have:=Nat.mod_add_div Z (2^(32*n));omega
  have hm:X%2^(32*n)=Y%2^(32*n):=by
   refine ih _ _ (zIa _ (zpa _)) (zIa _ (zpa _)) λk hk=>?_;rw[il,il,if_pos hk,if_pos hk];exact h k (by omega)
  have hd:X/2^(32*n)=Y/2^(32*n):=by
   have h1:=h n (by omega)
   unfold bi at h1;have e:∀ Z,Z<2^(32*(n+1))->Z/2^(32*n)<2^32:=λZ hZ=>by
    rw[zPa (zpa _),<-z6a,show 32+32*n=32*(n+1) from by omega];exact hZ
   rw[zAa (e X hX),zAa (e Y hY)] at h1;exact Int.ofNat.inj h1
  rw[hs X,hs Y,hm,hd]
def B9{X Y:Nat}(hX:X<dJ)(hY:Y<dJ)(h:∀ k,k<16->bi X k=bi Y k):X=Y:=by
 rw[ff,cP] at hX hY;exact vB 16 X Y hX hY h
def tq(s V Z j:Nat):Int:=if j<s then bi V j else bi Z j
def uk(s V Z:Nat):tq s V Z s=bi Z s:=by unfold tq;rw[if_neg (Nat.lt_irrefl s)]
def et(X Y k:Nat):Nat:=(X%2^(32*k)+Y%2^(32*k))/2^(32*k)
def lg(X Y k:Nat):et X Y k<=1:=by
 unfold et;have h:=zpa (32*k);have h1:=zIa X h;have h2:=zIa Y h;have:(X%2^(32*k)+Y%2^(32*k))/2^(32*k)<2:=(zPa h).2 (by omega)
 omega
def pp(X Y:Nat):et X Y 0=0:=by simp[et,zTc]
def g6(X k:Nat):X=X%2^(32*k)+2^(32*k)*(X/2^(32*k)):=by have:=Nat.mod_add_div X (2^(32*k));omega
def cT(k:Nat):2^(32*(k+1))=2^(32*k)*4294967296:=by rw[show 32*(k+1)=32*k+32 from by omega,z6a]
def dE(X k:Nat):X%2^(32*(k+1))=X%2^(32*k)+2^(32*k)*(X/2^(32*k)%4294967296):=by rw[cT,Nat.mod_mul]
def po(X Y k:Nat):((et X Y (k+1):Nat):Int)=((et X Y k:Nat)+(bi X k+bi Y k))/4294967296:=by
 unfold et bi;have hp:=zpa (32*k);rw[dE,dE,cT,<-zQa];generalize 2^(32*k)=p at *;have:(X%p+p*(X/p%4294967296)+(Y%p+p*(Y/p%4294967296)))/p=(X%p+Y%p)/p+(X/p%4294967296+Y/p%4294967296):=by
  rw[show X%p+p*(X/p%4294967296)+(Y%p+p*(Y/p%4294967296))=(X%p+Y%p)+p*(X/p%4294967296+Y/p%4294967296) from by rw[zFb];omega,zGb _ _ hp]
 rw[this];simp only[show(2:Nat)^32=4294967296 from rfl];omega
def AE(X Y k:Nat):bi (X+Y) k=((et X Y k:Nat)+(bi X k+bi Y k))%4294967296:=by
 unfold et bi;have hp:=zpa (32*k);have hx:=g6 X k;have hy:=g6 Y k;generalize 2^(32*k)=p at *;have:(X+Y)/p=(X%p+Y%p)/p+(X/p+Y/p):=by
  rw[show X+Y=(X%p+Y%p)+p*(X/p+Y/p) from by rw[zFb];omega,zGb _ _ hp]
 rw[this];simp only[show(2:Nat)^32=4294967296 from rfl];omega
def yc:2^(32*16)=dJ:=by rw[ff,cP 16]
def BM{X Y:Nat}(hX:X<dJ)(hY:Y<dJ):et X Y 16=if X+Y<dJ then 0 else 1:=by
 have h:=lg X Y 16;unfold et at *;rw[yc,zAa hX,zAa hY] at *;split
 ·rw[zSa (by assumption)]
 ·have:1<=(X+Y)/dJ:=(zWb eC).2 (by omega)
  omega
def bK(X Y k:Nat):Nat:=if X%2^(32*k)<Y%2^(32*k) then 1 else 0
def qA(X Y k:Nat):bK X Y k<=1:=by unfold bK;split<;>omega
def mR(X Y:Nat):bK X Y 0=0:=by simp[bK,zTc]
def mQ(X Y k:Nat):((bK X Y (k+1):Nat):Int)=if bi X k-bi Y k-(bK X Y k:Nat)<0 then 1 else 0:=by
 unfold bK bi;have hp:=zpa (32*k);rw[dE,dE];have h1:=zIa X hp;have h2:=zIa Y hp;simp only[show(2:Nat)^32=4294967296 from rfl];generalize 2^(32*k)=p at *;generalize X/p%4294967296=a;generalize Y/p%4294967296=b;generalize X%p=x at *;generalize Y%p=y at *;rcases z7c a b with h|h|h
 ·have:p*a+p<=p*b:=by rw[<-zkd];exact zXa _ h
  rw[if_pos (by omega)]
  split<;>rw[if_pos (by omega)]<;>rfl
 ·subst h;by_cases h3:x<y
  ·rw[if_pos (by omega),if_pos h3,if_pos (by omega)];rfl
  ·rw[if_neg (by omega),if_neg h3,if_neg (by omega)];rfl
 ·have:p*b+p<=p*a:=by rw[<-zkd];exact zXa _ h
  rw[if_neg (by omega)]
  split<;>rw[if_neg (by omega)]<;>rfl
def AF{X Y:Nat}(h:Y<=X)(k:Nat):bi (X-Y) k=(bi X k-bi Y k-(bK X Y k:Nat))%4294967296:=by
 unfold bK bi;have hp:=zpa (32*k);have hx:=g6 X k;have hy:=g6 Y k;have h1:=zIa X hp;have h2:=zIa Y hp;simp only[show(2:Nat)^32=4294967296 from rfl];generalize 2^(32*k)=p at *;have hle:Y/p<=X/p:=Nat.div_le_div_right h;generalize hxq:X/p=a at *;generalize hyq:Y/p=b at *;generalize hxr:X%p=x at *;generalize hyr:Y%p=y at *;by_cases h3:x<y
 ·have hab:b<a:=by
   rcases zla b a with h'|h'
   ·exact h'
   ·have:a=b:=by omega
    subst this;omega
  have e:X-Y=(x+p-y)+p*(a-b-1):=by
   rw[hx,hy,Nat.mul_sub,Nat.mul_sub];have:p*b+p<=p*a:=by rw[<-zkd];exact zXa _ hab
   omega
  rw[e,zGb _ _ hp,zSa (by omega),if_pos h3]
  omega
 ·have e:X-Y=(x-y)+p*(a-b):=by
   rw[hx,hy,Nat.mul_sub];have:p*b<=p*a:=zXa _ hle;omega
  rw[e,zGb _ _ hp,zSa (by omega),if_neg h3]
  omega
def pV(a b:Int)(c:Nat)(a0:0<=a)(a1:a<=4294967295)(b0:0<=b)(b1:b<=4294967295)(hc:c<=1) :
  IntKind.u64.wrap (IntKind.u64.wrap (a-b)-(c:Int))/9223372036854775808=(if a-b-(c:Int)<0 then 1 else 0) ∧
  IntKind.u64.wrap (IntKind.u64.wrap (a-b)-(c:Int))%4294967296=(a-b-(c:Int))%4294967296:=by
 have e:∀ n:Int,IntKind.u64.wrap n=n%18446744073709551616:=λn=>rfl;rw[e,e];constructor
 ·split<;>omega
 ·omega
def fG(X:Nat):Nat->Nat
 | 0=>0
 | k+1=>if 2^(32*k)<=X then k+1 else fG X k
def cB(X:Nat):Nat:=fG X 16
def Cl(X k:Nat):fG X k<=k:=by
 induction k with
 | zero=>exact zha _
 | succ k ih=>unfold fG;split<;>omega
def zu(X k:Nat)(h:fG X k≠0):2^(32*(fG X k-1))<=X:=by
 induction k with
 | zero=>exact absurd rfl h
 | succ k ih=>
  by_cases h1:2^(32*k)<=X
  ·simp only[fG,if_pos h1] at *;simpa using h1
  ·simp only[fG,if_neg h1] at *;exact ih h
def xU(X k:Nat)(h:X<2^(32*k)):X<2^(32*fG X k):=by
 induction k with
 | zero=>exact h
 | succ k ih=>
  unfold fG;split
  ·exact h
  ·exact ih (by omega)
def jb(X:Nat):cB X<=16:=Cl X 16
def dF{X:Nat}(h:X<dJ):X<2^(32*cB X):=xU X 16 (by rw[ff,cP] at h;exact h)
def mB{X:Nat}(h:cB X≠0):2^(32*(cB X-1))<=X:=zu X 16 h
def vk{X k:Nat}(h:X<2^(32*(k+1))):bi X k=0↔X<2^(32*k):=by
 unfold bi;have hp:=zpa (32*k);have h2:X/2^(32*k)<2^32:=by rw[zPa hp,<-z6a,show 32+32*k=32*(k+1) from by omega];exact h
 rw[zAa h2];constructor
 ·intro h3;have h3':X/2^(32*k)=0:=by omega
  rcases(Nat.div_eq_zero_iff).1 h3' with h4|h4
  ·omega
  ·exact h4
 ·intro h3;rw[zSa h3];rfl
def sgn(a b:Nat):Int:=if a<b then -1 else if b<a then 1 else 0
def iH(X Y k:Nat):Prop:=X/2^(32*k)=Y/2^(32*k)
def BZ{X Y:Nat}(hX:X<dJ)(hY:Y<dJ):iH X Y 16:=by
 unfold iH;rw[ff,cP] at hX hY;rw[zSa hX,zSa hY]
def ln(X k:Nat):X/2^(32*k)=X/2^(32*(k+1))*4294967296+(X/2^(32*k))%4294967296:=by
 rw[cT,<-zQa];omega
def xu{X Y k:Nat}(h:iH X Y (k+1))(hd:bi X k=bi Y k):iH X Y k:=by
 unfold iH bi at *;rw[ln X k,ln Y k,h];simp only[show(2:Nat)^32=4294967296 from rfl] at hd;omega
def yr{X Y k:Nat}(h:iH X Y (k+1))(hd:bi X k≠bi Y k):sgn X Y=if bi X k<bi Y k then -1 else 1:=by
 unfold iH bi at *;have hx:=ln X k;have hy:=ln Y k;have hp:=zpa (32*k);have sx:=g6 X k;have sy:=g6 Y k;have h1:=zIa X hp;have h2:=zIa Y hp;simp only[show(2:Nat)^32=4294967296 from rfl] at hd ⊢;generalize 2^(32*k)=p at *;unfold sgn;by_cases hlt:X/p<Y/p
 ·have:p*(X/p)+p<=p*(Y/p):=by rw[<-zkd];exact zXa _ hlt
  rw[if_pos (by omega),if_pos (by omega)]
 ·have hgt:Y/p<X/p:=by omega
  have:p*(Y/p)+p<=p*(X/p):=by rw[<-zkd];exact zXa _ hgt
  rw[if_neg (by omega),if_pos (by omega),if_neg (by omega)]
def CI{X Y:Nat}(h:iH X Y 0):sgn X Y=0:=by
 have:X=Y:=by simpa [iH] using h
 subst this;simp[sgn]
def cw(X k:Nat):bi X k=((X/2^(32*k)%4294967296:Nat):Int):=rfl
def eU{X n k:Nat}(h:X<2^(32*n))(hk:n<=k):bi X k=0:=by
 rw[cw,zSa (zGa h (zra (by omega) (by omega)))];rfl
def jz(X c s j:Nat)(h:j<s):bi (X+c*2^(32*s)) j=bi X j:=by
 rw[cw,cw];congr 1;rw[show 32*s=32*j+(32+32*(s-j-1)) from by omega,z6a,z6a,show c*(2^(32*j)*(2^32*2^(32*(s-j-1))))=2^(32*j)*(4294967296*(c*2^(32*(s-j-1)))) from by
  rw[show(2:Nat)^32=4294967296 from rfl];ac_rfl,zGb _ _ (zpa _),z4c]
def eP(A B i:Nat):Nat:=A%2^(32*i)*B
def mz(A B i k:Nat):Nat:=eP A B i+(A/2^(32*i)%4294967296)*(B%2^(32*k))*2^(32*i)
def ny(A B i k:Nat):Nat:=mz A B i k/2^(32*(i+k))-eP A B i/2^(32*(i+k))
def vF(A B i k:Nat):Nat->Int:=tq (i+k) (mz A B i k) (eP A B i)
def ut(A B i:Nat):mz A B i 0=eP A B i:=by simp[mz,zTc]
def um(A B i:Nat):ny A B i 0=0:=by simp[ny,ut]
def Ci(A B i:Nat):vF A B i 0=bi (eP A B i):=by
 funext j;simp[vF,ut,tq]
def ur(A B i k:Nat):mz A B i (k+1)=mz A B i k+(A/2^(32*i)%4294967296)*(B/2^(32*k)%4294967296)*2^(32*(i+k)):=by
 unfold mz;rw[dE,show 32*(i+k)=32*i+32*k from by omega,z6a,zFb,zUa,zvb]
 congr 2
 ac_rfl
def Ih(A B i k:Nat):eP A B i<=mz A B i k:=zFc _ _
def vD(A B i k:Nat):ny A B i k+eP A B i/2^(32*(i+k))=mz A B i k/2^(32*(i+k)):=by
 unfold ny;have:=Nat.div_le_div_right (c:=2^(32*(i+k))) (Ih A B i k);omega
def xQ(A B i k:Nat):mz A B i (k+1)/2^(32*(i+k))=ny A B i k+eP A B i/2^(32*(i+k))+(A/2^(32*i)%4294967296)*(B/2^(32*k)%4294967296):=by
 rw[ur,zdc _ _ (zpa _),vD]
def rY(A B i k:Nat):ny A B i (k+1)=(ny A B i k+((A/2^(32*i)%4294967296)*(B/2^(32*k)%4294967296)+eP A B i/2^(32*(i+k))%4294967296))/4294967296:=by
 have h1:=vD A B i (k+1);have h2:=xQ A B i k;have e:∀ X,X/2^(32*(i+(k+1)))=X/2^(32*(i+k))/4294967296:=λX=>by
  rw[show i+(k+1)=i+k+1 from by omega,cT,zQa]
 rw[e,e,h2] at h1;generalize A/2^(32*i)%4294967296*(B/2^(32*k)%4294967296)=p at *;generalize eP A B i/2^(32*(i+k))=z at *;omega
def tF(a p q z c:Nat):(((a+(p*q+z))/c:Nat):Int)=((a:Int)+((p:Int)*q+z))/(c:Int):=by push_cast;rfl
def qO(a p q z c:Nat):(((a+(p*q+z))%c:Nat):Int)=((a:Int)+((p:Int)*q+z))%(c:Int):=by push_cast;rfl
def Ce(A B i k:Nat):((ny A B i (k+1):Nat):Int)=((ny A B i k:Nat)+(bi A i*bi B k+bi (eP A B i) (i+k)))/4294967296:=by
 rw[rY,cw,cw,cw];exact tF _ _ _ _ 4294967296
def vE(A B i k:Nat):ny A B i k<=4294967295:=by
 induction k with
 | zero=>rw[um];omega
 | succ k ih=>
  rw[rY];have h1:A/2^(32*i)%4294967296<=4294967295:=by have:=zIa (A/2^(32*i)) (show 0<4294967296 by omega);omega
  have h2:B/2^(32*k)%4294967296<=4294967295:=by have:=zIa (B/2^(32*k)) (show 0<4294967296 by omega);omega
  have h3:=zfb h1 h2;have h4:=zIa (eP A B i/2^(32*(i+k))) (show 0<4294967296 by omega)
  omega
def Cg(A B i k:Nat):vF A B i k (i+k)=bi (eP A B i) (i+k):=uk _ _ _
def EC(A B i k:Nat):bi (mz A B i (k+1)) (i+k)=((ny A B i k:Nat)+(bi A i*bi B k+bi (eP A B i) (i+k)))%4294967296:=by
 rw[cw (mz _ _ _ _),xQ,cw,cw,cw];refine Eq.trans (congrArg Nat.cast ?_) (qO _ _ _ _ 4294967296);generalize A/2^(32*i)%4294967296*(B/2^(32*k)%4294967296)=p;generalize eP A B i/2^(32*(i+k))=z;omega
def uu{A B i m:Nat}(hB:B<2^(32*m)):eP A B (i+1)=mz A B i m:=by
 unfold eP mz eP;rw[dE,zAa hB,zUa];congr 1;ac_rfl
def A7{A B i m:Nat}(hB:B<2^(32*m)):eP A B i<2^(32*(i+m)):=by
 unfold eP;rw[show 32*(i+m)=32*i+32*m from by omega,z6a]
 exact zEc (zIa _ (zpa _)) hB
def Cj(A B:Nat):eP A B 0=0:=by simp[eP,zTc]
def ED{A B n:Nat}(hA:A<2^(32*n)):eP A B n=A*B:=by unfold eP;rw[zAa hA]
def iS(k:Nat):bi 0 k=0:=by simp[bi]
def jA(X a k:Nat):bi (X/2^(32*a)) k=bi X (a+k):=by
 rw[cw,cw,zQa,<-z6a,zFb]
def w9(X a k:Nat):bi (X/lY a) k=bi X (a+k):=by rw[cP,jA]
def EA(a b D c:Nat):(a+b*D)%c=(a+b%c*D)%c:=by
 have h:b*D%c=b%c*D%c:=by rw[Nat.mul_mod b D c,Nat.mul_mod (b%c) D c,Nat.mod_mod b c]
 rw[Nat.add_mod,h,<-Nat.add_mod]
def fF(X D k:Nat):Nat:=X%2^(32*k)*D/2^(32*k)
def uq(X D:Nat):fF X D 0=0:=by simp[fF,zTc]
def vG(X k:Nat){D:Nat}(h:0<D):fF X D k<D:=by
 unfold fF;rw[zPa (zpa _),zya D];exact znb (zIa _ (zpa _)) h
def zp(X D k:Nat):fF X D (k+1)=(fF X D k+X/2^(32*k)%4294967296*D)/4294967296:=by
 unfold fF;rw[dE,cT,<-zQa,zUa,zNa,zGb _ _ (zpa _)]
def uo(X D k:Nat):((fF X D (k+1):Nat):Int)=((fF X D k:Nat)+bi X k*(D:Nat))/4294967296:=by
 have h:=tF (fF X D k) (X/2^(32*k)%4294967296) D 0 4294967296;simp only[zOb,Int.add_zero,Int.natCast_zero,Int.cast_ofNat_Int] at h;rw[zp,cw];exact h
def xP(X D k:Nat):bi (X*D) k=((fF X D k:Nat)+bi X k*(D:Nat))%4294967296:=by
 have h:=qO (fF X D k) (X/2^(32*k)%4294967296) D 0 4294967296;simp only[zOb,Int.add_zero,Int.natCast_zero,Int.cast_ofNat_Int] at h;rw[cw,cw];refine Eq.trans (congrArg Nat.cast ?_) h;have e:X*D/2^(32*k)=fF X D k+X/2^(32*k)*D:=by
  unfold fF;rw[<-zGb _ _ (zpa (32*k)),<-zNa,<-zUa,<-g6]
 rw[e,EA]
def EB{X D:Nat}(h:X<dJ):fF X D 16=X*D/dJ:=by
 unfold fF;rw[yc,zAa h]
def DZ(X n k:Nat)(hn:n<=32):bi (X/2^n) k=(bi X (k+1)*4294967296+bi X k)/((2^n:Nat):Int)%4294967296:=by
 rw[cw,cw,cw,cT,<-zQa,zQa,zya (2^n),<-zQa];generalize X/2^(32*k)=Y;have e:(((Y/4294967296%4294967296:Nat):Int)*4294967296+((Y%4294967296:Nat):Int))=((Y%(2^n*(2^(32-n)*4294967296)):Nat):Int):=by
  rw[<-zNa,<-z6a,show n+(32-n)=32 from by omega,show(2:Nat)^32=4294967296 from rfl]
  omega
 rw[e,<-zgd,Nat.mod_mul_right_div_self];generalize Y/2^n=Z;have h:Z%4294967296=Z%(2^(32-n)*4294967296)%4294967296:=(Nat.mod_mul_left_mod _ _ _).symm;rw[h];exact Int.natCast_emod _ 4294967296
def ue(X k j:Nat):bi (X/2^(32*k)*2^(32*k)) j=if j<k then 0 else bi X j:=by
 have h:=jz 0 (X/2^(32*k)) k j;by_cases hj:j<k
 ·rw[if_pos hj];rw[z1a] at h;rw[h hj,iS]
 ·rw[if_neg hj,show j=k+(j-k) from by omega,<-jA,Nat.mul_div_cancel _ (zpa _),jA]
def dX(X b k:Nat):Nat:=X/2^(32*k)%b
def yj(X k:Nat){b:Nat}(h:0<b):dX X b k<b:=zIa _ h
def rj(X k:Nat):X/2^(32*k)=X/2^(32*(k+1))*4294967296+X/2^(32*k)%4294967296:=by
 rw[cT,<-zQa];omega
def zI(X b k:Nat):dX X b k=(dX X b (k+1)*4294967296+X/2^(32*k)%4294967296)%b:=by
 unfold dX
 conv=>lhs;rw[rj X k]
 rw[zjc,EA,zjc]
def CK(X k:Nat){b:Nat}(hb:0<b)(h:b<=4294967295):X/b/2^(32*k)%4294967296=(dX X b (k+1)*4294967296+X/2^(32*k)%4294967296)/b:=by
 have e:X/b/2^(32*k)=X/2^(32*(k+1))/b*4294967296+(dX X b (k+1)*4294967296+X/2^(32*k)%4294967296)/b:=by
  rw[zQa,zya,<-zQa]
  conv=>lhs;rw[rj X k]
  unfold dX;generalize X/2^(32*(k+1))=Y;generalize X/2^(32*k)%4294967296=z
  conv=>lhs;rw[show Y*4294967296+z=b*(Y/b*4294967296)+(Y%b*4294967296+z) from by
   have:=zMb Y b
   conv=>lhs;rw[<-this]
   rw[zUa,zNa];omega]
  rw[Nat.mul_add_div hb]
 have hlt:(dX X b (k+1)*4294967296+X/2^(32*k)%4294967296)/b<4294967296:=by
  rw[zPa hb];have h1:=yj X (k+1) hb;have h2:=zIa (X/2^(32*k)) (show 0<4294967296 by omega)
  have h3:(dX X b (k+1)+1)*4294967296<=b*4294967296:=zwa _ h1;omega
 rw[e,zya (_/b),Nat.mul_add_mod,zAa hlt]
def CF(X b:Nat):dX X b 0=X%b:=by simp[dX]
structure Heads(W V P T F u v:Nat):Prop where
 w:W/P=T*4294967296+u
 d:V/P=F*4294967296+v
 u:u<4294967296
 v:v<4294967296
 one:1<=F
 pos:0<P
 lt:W<V*4294967296
variable{W V P T F u v:Nat}
def Heads.key{d r:Nat}(h:d*F+r=T):d*(F*4294967296+v)+r*4294967296=T*4294967296+d*v:=by
 rw[<-h,zFb,zUa,zNa];omega
def Heads.vpos(H:Heads W V P T F u v):0<V:=by
 rcases zrb V with h|h
 ·have:=H.lt;rw[h] at this;omega
 ·exact h
def Heads.over(H:Heads W V P T F u v){d:Nat}(h:W/P<d*(V/P)):W/V<d:=by
 apply zzc;have h1:W<(W/P+1)*P:=by have:=zMb W P;have:=zIa W H.pos;rw[zUa,zya (W/P)];omega
 have h2:(W/P+1)*P<=d*(V/P)*P:=zwa _ h;have h3:d*(V/P)*P<=d*V:=by rw[zNa];exact zXa _ (z5b V P)
 rw[zya V];omega
def Heads.under(H:Heads W V P T F u v){d:Nat}(h:d*(V/P)<=W/P)(hd:d<4294967296):d<=W/V+1:=by
 rcases zrb d with h0|h0
 ·rw[h0];exact zoa _
 obtain⟨e,rfl⟩:∃ e,d=e+1:=⟨d-1,by omega⟩
 have hb:e<=V/P:=by rw[H.d];have h1:1*4294967296<=F*4294967296:=zwa _ H.one;omega
 have:e<=W/V:=by
  rw[zWb H.vpos];have h1:V<=(V/P+1)*P:=by have:=zMb V P;have:=zIa V H.pos;rw[zUa,zya (V/P)];omega
  have h2:e*V<=e*((V/P+1)*P):=zXa _ h1;have h3:e*((V/P+1)*P)<=(e+1)*(V/P)*P:=by
   rw[<-zNa];apply zwa;rw[zFb,zUa];omega
  have h4:(e+1)*(V/P)*P<=W/P*P:=zwa _ h;have h5:=z5b W P;omega
 exact Nat.succ_le_succ this
def Heads.q_lt(H:Heads W V P T F u v):W/V<4294967296:=zzc (by have:=H.lt;omega)
def Heads.start(H:Heads W V P T F u v):W/V<=T/F:=by
 have h1:W/V<T/F+1:=by
  apply H.over;rw[H.w,H.d];have h2:T<(T/F+1)*F:=by have:=zMb T F;have:=zIa T (show 0<F from H.one);rw[zUa,zya (T/F)];omega
  have h3:(T+1)*4294967296<=(T/F+1)*F*4294967296:=zwa _ h2;have h4:(T/F+1)*F*4294967296<=(T/F+1)*(F*4294967296+v):=by rw[zNa];exact zXa _ (zFc _ _)
  have h5:=H.u;exact zGa (by omega) (zMa h3 h4)
 exact Nat.le_of_lt_succ h1
def Heads.step_big(H:Heads W V P T F u v){d:Nat}(h:4294967296<=d):W/V<=d-1:=znd (zGa H.q_lt h)
def E5{A B T r u c:Nat}(hk:A+r*c=T*c+B)(ht:r*c+u<B):T*c+u<A:=by omega
def Heads.step(H:Heads W V P T F u v){d r:Nat}(h:d*F+r=T)(ht:r*4294967296+u<d*v):W/V<=d-1/\1<=d:=by
 have h1:W/V<d:=by
  apply H.over;rw[H.w,H.d];exact E5 (Heads.key (v:=v) h) ht
 exact⟨znd h1,zFa (zoa _) h1⟩
def Heads.t_lt(H:Heads W V P T F u v):T<(F+1)*4294967296:=by
 have h1:W/P*P<=W:=z5b W P;have h2:V<(V/P+1)*P:=by have:=zMb V P;have:=zIa V H.pos;rw[zUa,zya (V/P)];omega
 have h3:V*4294967296<(V/P+1)*P*4294967296:=znb h2 (by omega)
 have h4:=H.lt;have h5:W/P*P<(V/P+1)*4294967296*P:=by rw[Nat.mul_right_comm];omega
 have h6:W/P<(V/P+1)*4294967296:=Nat.lt_of_mul_lt_mul_right h5;rw[H.w,H.d] at h6;have h7:=H.v;rw[zUa];omega
def Heads.done(H:Heads W V P T F u v){d r:Nat}(h:d*F+r=T)(hr:4294967296<=r\/(d<4294967296/\d*v<=r*4294967296+u)):d<4294967296/\d<=W/V+1:=by
 have hd:d<4294967296:=by
  rcases hr with hr|hr
  ·have h1:=H.t_lt;rw[zUa,zpc] at h1;have h2:d*F<4294967296*F:=by omega
   exact Nat.lt_of_mul_lt_mul_right h2
  ·exact hr.1
 refine⟨hd,H.under ?_ hd⟩;rw[H.w,H.d];have hk:=Heads.key (v:=v) h;rcases hr with hr|hr
 ·have h1:d*v<=4294967295*4294967295:=zfb (by omega) (by have:=H.v;omega)
  omega
 ·omega
def dg(X k:Nat):Nat:=X/2^(32*k)%4294967296
def ov(X k:Nat):bi X k=(dg X k:Nat):=rfl
def eE(X k:Nat):dg X k<4294967296:=zIa _ (by omega)
def AD(X k:Nat):dg X k<=4294967295:=Nat.le_of_lt_succ (eE X k)
def mX(X k:Nat):X/2^(32*k)=X/2^(32*(k+1))*4294967296+dg X k:=rj X k
def iT{X k:Nat}(h:X<2^(32*(k+1))):X/2^(32*k)=dg X k:=by
 rw[mX,zSa h,zid,z1a]
def Ee{U V e j:Nat}(hV:V<2^(32*(e+2)))(hV1:2^(32*(e+1))<=V)(hU:U/2^(32*j)<V*4294967296) :
  Heads (U/2^(32*j)) V (2^(32*e)) (dg U (j+e+2)*4294967296+dg U (j+e+1)) (dg V (e+1)) (dg U (j+e)) (dg V e):=by
 have hc:∀ k,U/2^(32*j)/2^(32*k)=U/2^(32*(j+k)):=λk=>by rw[zQa,<-z6a,zFb]
 have hUl:U<2^(32*(j+e+2+1)):=by
  have h1:=(zPa (zpa (32*j))).1 hU;have h2:V*4294967296*2^(32*j)<2^(32*(e+2))*4294967296*2^(32*j):=znb (znb hV (by omega)) (zpa _)
  have h3:2^(32*(e+2))*4294967296*2^(32*j)=2^(32*(j+e+2+1)):=by
   rw[cT (j+e+2),show 32*(j+e+2)=32*j+32*(e+2) from by omega,z6a,Nat.mul_right_comm,zya (2^(32*(e+2))) (2^(32*j))]
  rw[<-h3];exact zNb h1 h2
 refine⟨?_,?_,eE _ _,eE _ _,?_,zpa _,hU⟩
 ·rw[hc,mX,mX U (j+e+1),iT hUl]
 ·rw[mX,iT hV]
 ·rw[<-iT hV];exact(zWb (zpa _)).2 (by rw[zpc];exact hV1)
def KE(U i k:Nat):dg U i*4294967296+dg U k<=18446744073709551615:=by
 have h1:=AD U i;have h2:=AD U k;omega
def zg{T F D R:Nat}(h:D*F+R=T)(hD:1<=D):(D-1)*F+(R+F)=T:=by
 obtain⟨E,rfl⟩:∃ E,D=E+1:=⟨D-1,by omega⟩
 rw[zUa,zpc] at h;rw[Nat.add_sub_cancel];omega
def tb{X X' Y k:Nat}(h:X%2^(32*k)=X'%2^(32*k)):bK X Y k=bK X' Y k:=by unfold bK;rw[h]
def dW(U Z j:Nat):Nat:=U%2^(32*j)+Z*2^(32*j)
def Cp{U Z j t:Nat}(h:t<j):bi (dW U Z j) t=bi U t:=by
 unfold dW;rw[jz _ _ _ _ h,il,if_pos h]
def zw(U Z j i:Nat):bi (dW U Z j) (j+i)=bi Z i:=by
 rw[<-jA];unfold dW;rw[zdc _ _ (zpa _),zSa (zIa _ (zpa _)),z1a]
def tz(U Z j i:Nat):Nat->Int:=tq (j+i) (dW U Z j) U
def uO(U Z j:Nat):tz U Z j 0=bi U:=by
 funext t;unfold tz tq;split
 ·rename_i h;exact Cp (by omega)
 ·rfl
def lD(U Z j i:Nat):tz U Z j i (j+i)=bi U (j+i):=uk _ _ _
def kZ(W Y m:Nat):Nat:=(W+2^(32*m)-Y)%2^(32*m)
def CZ{W Y m i:Nat}(hi:i<m)(hY:Y<=2^(32*m)):bi (kZ W Y m) i=(bi W i-bi Y i-(bK W Y i:Nat))%4294967296:=by
 have hd:bi (W+2^(32*m)) i=bi W i:=by
  have:=jz W 1 m i hi;rwa [zpc] at this
 have hb:bK (W+2^(32*m)) Y i=bK W Y i:=tb (by
  rw[show 32*m=32*i+(32*m-32*i) from by omega,z6a,z4c])
 unfold kZ;rw[il,if_pos hi,AF (by omega),hd,hb]
def Fp(W Y m:Nat):kZ W Y m<2^(32*m):=zIa _ (zpa _)
def wN{W Y m:Nat}(hW:W<2^(32*m))(hY:Y<2^(32*m)):bK W Y m=if W<Y then 1 else 0:=by
 unfold bK;rw[zAa hW,zAa hY]
def dC(N V j:Nat):Nat:=N/V%2^(32*j)*V+N%V
def CE(N V:Nat):dC N V 0=N%V:=by simp[dC,zTc]
def zG{N V k:Nat}(h:N/V<2^(32*k)):dC N V k=N:=by
 unfold dC;rw[zAa h,zya];exact zMb N V
def uF(N V j:Nat):dC N V (j+1)=dC N V j+dg (N/V) j*V*2^(32*j):=by
 unfold dC dg;rw[dE];generalize N/V/2^(32*j)%4294967296=t;generalize 2^(32*j)=P;rw[zUa,show P*t*V=t*V*P from by rw[zya P t,Nat.mul_right_comm]]
 omega
def vS{N V:Nat}(j:Nat)(h:0<V):dC N V j<V*2^(32*j):=by
 unfold dC;have h1:=zIa (N/V) (zpa (32*j));have h2:=zIa N h;have h3:(N/V%2^(32*j)+1)*V<=2^(32*j)*V:=zwa _ h1;rw[zUa,zpc] at h3;rw[zya V];omega
def nG{N V:Nat}(j:Nat)(h:0<V):dC N V j/2^(32*j)<V:=by
 rw[zPa (zpa _)];exact vS j h
def oZ(N V j:Nat):dC N V (j+1)/2^(32*j)=dC N V j/2^(32*j)+V*dg (N/V) j:=by
 rw[uF,zdc _ _ (zpa _),zya V]
def yi(N V j:Nat):dC N V (j+1)%2^(32*j)=dC N V j%2^(32*j):=by
 rw[uF,z0c]
def EX{N V:Nat}(j:Nat)(h:0<V):dC N V (j+1)/2^(32*j)/V=dg (N/V) j:=by
 rw[oZ,zGb _ _ h,zSa (nG j h),z1a]
def EY{N V:Nat}(j:Nat)(h:0<V):dC N V (j+1)/2^(32*j)<V*4294967296:=by
 rw[zPa (zpa _),zNa,zya 4294967296,<-cT];exact vS (j+1) h
def CD{N V n:Nat}(j:Nat)(h:0<V)(hV:V<2^(32*n)):dC N V (j+1)<2^(32*(j+n+1)):=by
 have h1:=vS (N:=N) (j+1) h;have h2:V*2^(32*(j+1))<2^(32*n)*2^(32*(j+1)):=znb hV (zpa _);rw[<-z6a,show 32*n+32*(j+1)=32*(j+n+1) from by omega] at h2
 omega
def uA{U U' j:Nat}(h:U%2^(32*j)=U'%2^(32*j)):dW U (U'/2^(32*j)) j=U':=by
 unfold dW;rw[h,zya (U'/2^(32*j)) (2^(32*j))];exact Nat.mod_add_div U' _
def Cq(U Z j:Nat):dW U Z j%2^(32*j)=U%2^(32*j):=by
 unfold dW;rw[z0c,Nat.mod_mod]
def Co(U Z j:Nat):dW U Z j/2^(32*j)=Z:=by
 unfold dW;rw[zdc _ _ (zpa _),zSa (zIa _ (zpa _)),z1a]
def ya{U Z j m:Nat}(hZ:Z<2^(32*m)):dW U Z j<2^(32*(j+m)):=by
 have h1:dW U Z j<(Z+1)*2^(32*j):=by unfold dW;have:=zIa U (zpa (32*j));rw[zUa];omega
 have h2:(Z+1)*2^(32*j)<=2^(32*m)*2^(32*j):=zwa _ hZ;rw[<-z6a,show 32*m+32*j=32*(j+m) from by omega] at h2
 omega
variable{N V n:Nat}
def me(hV:V<2^(32*n)):V<2^(32*(n+1)):=zGa hV (zra (by omega) (by omega))
def wA{x y B:Nat}(hx:x<B):(x+y+B-y)%B=x:=by
 rw[show x+y+B-y=x+B from by omega,Nat.add_mod_right,zAa hx]
def yl(j:Nat)(h:0<V)(hV:V<2^(32*n)) :
  dW (dC N V (j+1)) (kZ (dC N V (j+1)/2^(32*j)) (V*dg (N/V) j) (n+1)) j=dC N V j:=by
 have e:kZ (dC N V (j+1)/2^(32*j)) (V*dg (N/V) j) (n+1)=dC N V j/2^(32*j):=by
  unfold kZ;rw[oZ];exact wA (zNb (nG j h) (me hV))
 rw[e,uA (yi N V j)]
def C0(j:Nat)(h:0<V)(hV:V<2^(32*n)) :
  kZ (dC N V (j+1)/2^(32*j)) (V*(dg (N/V) j+1)) (n+1)=dC N V j/2^(32*j)+2^(32*(n+1))-V:=by
 have h1:=nG (N:=N) j h;have h2:=me hV;unfold kZ;rw[oZ,zFb V (dg (N/V) j) 1,zbd];generalize 2^(32*(n+1))=B at *;generalize dC N V j/2^(32*j)=x at *;generalize V*dg (N/V) j=y;rw[show x+y+B-(y+V)=x+B-V from by omega,zAa (by omega)]
def ym(j:Nat)(h:0<V)(hV:V<2^(32*n)){U1:Nat}(e1:U1=dW (dC N V (j+1)) (kZ (dC N V (j+1)/2^(32*j)) (V*(dg (N/V) j+1)) (n+1)) j) :
  dW U1 ((U1/2^(32*j)+V)%2^(32*(n+1))) j=dC N V j:=by
 have h1:=nG (N:=N) j h;have h2:=me hV;have e2:(U1/2^(32*j)+V)%2^(32*(n+1))=dC N V j/2^(32*j):=by
  rw[e1,Co,C0 j h hV];generalize 2^(32*(n+1))=B at *;generalize dC N V j/2^(32*j)=x at *;rw[show x+B-V+V=x+B from by omega,Nat.add_mod_right,zAa (by omega)]
 rw[e2,uA (by rw[e1,Cq,yi])]
end
noncomputable section
namespace Sy
open Go Go.Proofs Geo
def bT(n:Nat)(f:Nat->Int):D:=.st ((List.range n).map λi=>.int .u32 (f i))
abbrev LM(X:Nat):D:=bT 16 (bi X)
def a8{n i:Nat}(f:Nat->Int)(h:i<n):D.get (bT n f) [i]=some (.int .u32 (f i)):=by
 simp[bT,D.get,D.fld,h]
def bV{n:Nat}{f g:Nat->Int}(h:∀ i,i<n->f i=g i):bT n f=bT n g:=by
 unfold bT;congr 1;exact zRb λi hi=>by rw[h i (zWa.1 hi)]
def lF{n i:Nat}{f g:Nat->Int}{v:Int}(h:i<n)(hg:∀ j,j<n->g j=if j=i then v else f j):D.set (bT n f) [i] (.int .u32 v)=some (bT n g):=by
 have e:((List.range n).map λi=>D.int .u32 (f i))[i]?=some (.int .u32 (f i)):=by simp[h]
 simp only[bT,D.set,e,zba];congr 2;apply z3b;intro j;by_cases hj:j<n
 ·rw[List.getElem?_set];by_cases hij:i=j
  ·subst hij;simp[h,hg i h]
  ·simp[hij,hj,hg j hj,show ¬ j=i from λe=>hij e.symm]
 ·rw[zVa (by simp;omega),zVa (by simp;omega)]
theorem qy(f g:Nat->Int):∀ l:List Nat,D.beqs (l.map λi=>D.int .u32 (f i)) (l.map λi=>D.int .u32 (g i))=l.all λi=>decide (f i=g i)
 | []=>rfl
 | i::l=>by simp only[z7a,D.beqs,D.beq,zEb,qy f g l];simp
def Bv(n:Nat)(f g:Nat->Int):D.beq (bT n f) (bT n g)=decide (∀ i,i<n->f i=g i):=by
 simp only[bT,D.beq,qy];rw[Bool.eq_iff_iff];simp
def jt{X Y:Nat}(hX:X<dJ)(hY:Y<dJ):D.beq (LM X) (LM Y)=decide (X=Y):=by
 rw[Bv,decide_eq_decide];constructor
 ·exact B9 hX hY
 ·rintro rfl;exact λ_ _=>rfl
def gt:D.st (D.putParts (List.replicate 16 (D.int .u32 0)) [])=LM 0:=by
 have:LM 0=bT 16 (λ_=>0):=bV λi _=>iS i;rw[this];rfl
def fT:aw aS=LM 0:=by
 have:LM 0=bT 16 (λ_=>0):=bV λi _=>iS i;rw[this];rfl
def Kv(i:Nat):2^(32*i)=4294967296^i:=by rw[Nat.pow_mul]
def B8(m:Nat):dn (ar m)=LM m:=by
 unfold dn LM bT;congr 1;refine zRb λi _=>?_;rw[gH];unfold bi;rw[Kv]
def bL(x:Int):af x=.st [.bool false,.bool (decide (x<0)),LM x.natAbs]:=by unfold af;rw[B8]
def zC(a b c:Nat)(h:a*b=c):((2:Nat)^a)^b=2^c:=by rw[<-Nat.pow_mul,h]
def uS:(65536:Nat)^32=dJ:=(zC 16 32 (32*16) rfl).trans ((cP 16).symm.trans ff.symm)
def under(X k:Nat):Prop:=X<2^(32*k)
def zl{X k:Nat}(hk:k=16)(h:X<dJ):under X k:=by subst hk;unfold under;rw[yc];exact h
def zX{X k:Nat}(hk:k<=16)(h:X<2^(32*k)):X<dJ:=by
 rw[<-cP] at h;rw[ff];exact zGa h (mG hk)
def aZ{x:Int}:In x↔x.natAbs<dJ:=by unfold In;rw[uS]
def mb:D:=.st [.bool true,.bool false,LM 0]
def bY:Option Int->D
 | some x=>af x
 | none=>mb
def k9(a:Option Int):Prop:=∀ x,a=some x->In x
def gl(x:Int):Option Int:=if x.natAbs<dJ then some x else none
def jJ{x:Int}(h:In x):gl x=some x:=by unfold gl;rw[if_pos (aZ.1 h)]
def xW(x:Int):k9 (gl x):=λy h=>by
 unfold gl at h;split at h
 ·cases h;exact aZ.2 (by assumption)
 ·cases h
theorem k9.some{x:Int}(h:k9 (some x)):In x:=h x rfl
def ba{x:Int}(h:In x):k9 (some x):=λy e=>by cases e;exact h
abbrev W(n:Int):D:=.int .u64 n
def Fk{k:IntKind}{a:Int}(h0:0<=a)(h:a<18446744073709551616):D.conv .u64 (.int k a)=some (W a):=by simp only[D.conv,c7 ⟨h0,h⟩]
def sT{a b:Int}(h0:0<=a+b)(h:a+b<18446744073709551616):D.bin .add (W a) (W b)=some (W (a+b)):=by simp only[D.bin,if_true,c7 ⟨h0,h⟩]
def sV(a b:Int):D.bin .sub (W a) (W b)=some (W (IntKind.u64.wrap (a-b))):=by simp only[D.bin,if_true]
def Jr{a b:Int}(h0:0<=a*b)(h:a*b<18446744073709551616):D.bin .mul (W a) (W b)=some (W (a*b)):=by simp only[D.bin,if_true,c7 ⟨h0,h⟩]
def gr(a:Int):D.conv .u32 (W a)=some (.int .u32 (a%4294967296)):=by
 simp only[D.conv];rfl
def sU{a:Int}(h:0<=a):D.bin .shr (W a) (.int .u64 32)=some (W (a/4294967296)):=by
 simp only[D.bin];rw[if_neg (by decide),zyc _ (by decide)];rfl
def wv{a:Int}:D.bin .shr (W a) (.int .u64 63)=some (W (a/9223372036854775808)):=by
 simp only[D.bin];rw[if_neg (by decide),zyc _ (by decide)];rfl
def dS{i n:Nat}(h:i<n):D.idx (I (i:Int)) n=some i:=aq h
def dM(X k:Nat):D.conv .u64 (.int .u32 (bi X k))=some (W (bi X k)):=Fk (ci X k) (by have:=rh X k;omega)
def qd{Z k:Nat}(hk:k<16):D.set (LM (Z%2^(32*k))) [k] (.int .u32 (bi Z k))=some (LM (Z%2^(32*(k+1)))):=
 lF hk λj hj=>by
  rw[il,il];by_cases e:j=k
  ·subst e;simp
  ·rw[if_neg e];by_cases h:j<k
   ·rw[if_pos h,if_pos (by omega)]
   ·rw[if_neg h,if_neg (by omega)]
def qe(Z:Nat):LM (Z%2^(32*0))=LM 0:=by simp[zTc]
def Hm(Z k:Nat)(hk:k=16):LM (Z%2^(32*k))=LM Z:=bV λj hj=>by rw[il,if_pos (by omega)]
def mM(Z:Nat):LM (Z%2^(32*16))=LM Z:=Hm Z 16 rfl
def L9(n:Nat){a:Option Int}(ha:k9 a):cA (n+1) 167 [bY a]=some (.bool true):=by
 rw[Ux]
 delta Gs qG qT qN
 cases a with
 | none=>
  refine aa (z:=LM 0) rfl (aa (z:=.bool true) rfl (aa (z:=true) rfl ?_));rw[if_pos rfl,gt,jt eC eC,decide_eq_true rfl];rfl
 | some x=>
  have hx:=aZ.1 ha.some;simp only[bY,bL];refine aa (z:=LM x.natAbs) rfl (aa (z:=.bool false) rfl (aa (z:=false) rfl ?_));rw[if_neg (by decide),gt,jt hx eC]
  refine aa aJ (aa ab ?_);by_cases h:x.natAbs=0
  ·rw[decide_eq_true h];have:decide (x<0)=false:=decide_eq_false (by omega)
   rw[this];rfl
  ·rw[decide_eq_false h];rfl
def LZ(n:Nat){l:List (Option Int)}(hl:l.length<=1000)(h:∀ a∈l,k9 a):cA (n+2) 118 [.sl (l.map bY)]=some (.bool (l.all Option.isSome)):=by
 rw[T2]
 delta FS qG qB qC qT qS qX qZ iL iR Jn
 refine aa (z:=l.map bY) rfl ?_;refine bn (λi s=>s=[I (i:Int)]/\(l.take i).all Option.isSome=true) l.length 0 (zoa _) ⟨rfl,rfl⟩ (λi hi s hJ=>?_) (λs hJ=>?_)
 ·obtain⟨rfl,ht⟩:=hJ;have hg:(l.map bY)[i]?=some (bY l[i]):=by simp[hi]
  have hb:D.bin .lss (I (i:Int)) (D.int .i64 (l.map bY).length)=some (.bool true):=by
   rw[ah,decide_eq_true (by rw[zCa];omega)]
  have hix:D.idx (I (i:Int)) (l.map bY).length=some i:=aq (by rw[zCa];exact hi)
  have hin:=h l[i] (zLa hi);cases ha:l[i] with
  | none=>
   right;refine⟨(0,[.bool false]),?_,?_⟩
   ·refine aa hb (aa (z:=true) rfl ?_);rw[if_pos rfl];refine aa (z:=l.map bY) rfl (aa hix (aa hg ?_));rw[ha];exact aa (z:=.bool true) rfl (aa (z:=true) rfl (aa (z:=true) rfl (aa (z:=true) rfl rfl)))
   ·have:l.all Option.isSome=false:=by
     rw[zUb];intro hall;have:=zja.1 hall l[i] (zLa hi);rw[ha] at this;cases this
    rw[this];rfl
  | some x=>
   left;refine⟨[I ((i+1:Nat):Int)],?_,rfl,?_⟩
   ·refine aa hb (aa (z:=true) rfl ?_);rw[if_pos rfl];refine aa (z:=l.map bY) rfl (aa hix (aa hg ?_));rw[ha] at hin ⊢;refine aa (z:=.bool false) rfl (aa (z:=false) rfl (aa (z:=false) ?_ (aa (z:=false) rfl ?_)))
    ·rw[if_neg (by decide)];exact aa (L9 n hin) rfl
    ·rw[if_neg (by decide)];exact aa (au (ay (i:=i) (by omega))) rfl
   ·rw[zEa hi,zXc,ht,ha];rfl
 ·obtain⟨rfl,ht⟩:=hJ;rw[z3a] at ht;refine⟨(1,[]),?_,?_⟩
  ·have hb:D.bin .lss (I (l.length:Int)) (D.int .i64 (l.map bY).length)=some (.bool false):=by
    rw[ah,decide_eq_false (by rw[zCa];omega)]
   exact aa hb (aa (z:=false) rfl rfl)
  ·rw[ht];rfl
def mf(n:Nat){a:Option Int}(ha:k9 a):cA (n+2) 118 [.sl [bY a]]=some (.bool a.isSome):=by
 have:=LZ n (l:=[a]) (by simp) (λb hb=>by rw[zKa.1 hb];exact ha)
 simpa using this
def qE(n:Nat){a b:Option Int}(ha:k9 a)(hb:k9 b):cA (n+2) 118 [.sl [bY a,bY b]]=some (.bool (a.isSome&&b.isSome)):=by
 have:=LZ n (l:=[a,b]) (by simp) (λc hc=>by
  simp only[zva,z9b,or_false] at hc;rcases hc with rfl|rfl
  ·exact ha
  ·exact hb)
 simpa using this
def BH(n:Nat):cA (n+1) 119 []=some mb:=by
 rw[T4];unfold FT;rw[fT];rfl
def pP(neg:Bool)(m:Nat):decide (sgn neg m<0)=(neg&&!(decide (m=0))):=by
 unfold sgn;cases neg<;>by_cases h:m=0<;>simp[h]<;>omega
def nK(neg:Bool)(m:Nat):(sgn neg m).natAbs=m:=by unfold sgn;cases neg<;>simp
def qD(n:Nat)(neg:Bool){m:Nat}(h:m<dJ):cA (n+1) 116 [.bool neg,LM m]=some (af (sgn neg m)):=by
 rw[TZ]
 delta FQ qT
 rw[gt,jt h eC,bL,pP,nK];refine aa (z:=neg) rfl (aa (z:=neg&&!(decide (m=0))) ?_ rfl);cases neg<;>rfl
def SB(n:Nat){X Y:Nat}(hX:X<dJ)(hY:Y<dJ):cA (n+1) 120 [LM X,LM Y]=some (.tup [LM (X+Y),.bool (decide (X+Y<dJ))]):=by
 rw[T6]
 delta FU qB qC qJ qZ iL iR Jn
 rw[fT];refine bn (λk s=>s=[W (et X Y k:Nat),I (k:Int),LM ((X+Y)%2^(32*k))]) 16 0 (zoa _) (by rw[pp,qe];rfl) (λk hk s hJ=>?_) (λs hJ=>?_)
 ·subst hJ;left;refine⟨_,?_,rfl⟩;have hc:=lg X Y k;have x0:=ci X k;have x1:=rh X k;have y0:=ci Y k;have y1:=rh Y k;refine aa ah (aa ab (aD (by show(k:Int)<16;omega) ?_))
  refine aa (dS hk) (aa (a8 _ hk) (aa (dM X k) (aa (dS hk) (aa (a8 _ hk) (aa (dM Y k) ?_)))));refine aa (sT (by omega) (by omega)) (aa (sT (by omega) (by omega)) (aa (gr _) (aa (dS hk) ?_)))
  rw[<-AE];refine aa (qd hk) (aa (sU (by omega)) ?_)
  rw[<-po];exact aa (au (ay (i:=k) (by omega))) rfl
 ·subst hJ;refine⟨_,aa ah (aa ab (aH (by decide) rfl)),?_⟩
  rw[mM,BM hX hY];by_cases h:X+Y<dJ
  ·rw[if_pos h,decide_eq_true h];rfl
  ·rw[if_neg h,decide_eq_false h];rfl
def Mb(n:Nat)(a:Int):cA (n+1) 194 [.int .u32 a]=some (.bool false):=by
 rw[UF];simp[GA,D.beq]
def SL(n:Nat)(a b:Int):cA (n+2) 168 [.int .u32 a,.int .u32 b]=some (I (bf a b)):=by
 rw[Uy]
 delta Gt qC qT Jn
 refine aa (Mb n a) (aa (Mb n b) (aa (z:=false) rfl ?_));rw[if_neg (by decide)]
 refine aa (z:=false) rfl ?_;rw[if_neg (by decide)]
 refine aa (z:=.bool (decide (a<b))) (by simp only[D.bin,if_true]) (aa ab ?_)
 unfold bf;by_cases h:a<b
 ·rw[if_pos h];exact aD h rfl
 ·rw[if_neg h];refine aH h (aa (z:=.bool (decide (a>b))) (by simp only[D.bin,if_true]) (aa ab ?_))
  by_cases h2:a>b
  ·rw[if_pos h2];exact aD h2 rfl
  ·rw[if_neg h2];exact aH h2 rfl
def Hx(n:Nat){X Y:Nat}(hX:X<dJ)(hY:Y<dJ):cA (n+3) 121 [LM X,LM Y]=some (I (bf X Y)):=by
 rw[T7]
 delta FV qB qC qT qJ qZ iL iR Jn
 refine bn (λt s=>s=[I (15-(t:Int))]/\iH X Y (16-t)) 16 0 (zoa _) ⟨rfl,BZ hX hY⟩ (λt ht s hJ=>?_) (λs hJ=>?_)
 ·obtain⟨rfl,he⟩:=hJ;obtain⟨k,hk⟩:∃ k,k=15-t:=⟨_,rfl⟩;have hk16:k<16:=by omega
  have e1:(15-(t:Int))=(k:Int):=by omega
  rw[show 16-t=k+1 by omega] at he
  rw[e1];have hix:D.idx (I (k:Int)) 16=some k:=dS hk16;have hb:D.bin .geq (I (k:Int)) (D.int .i64 0)=some (.bool true):=by rw[fl,decide_eq_true (by omega)]
  by_cases hd:bi X k=bi Y k
  ·left;refine⟨[I ((k:Int)-1)],?_,?_,?_⟩
   ·refine aa hb (aa (z:=true) rfl ?_);rw[if_pos rfl];refine aa hix (aa (a8 _ hk16) (aa hix (aa (a8 _ hk16) (aa (z:=false) ?_ ?_))))
    ·rw[hd];simp[D.beq,D.truth]
    ·rw[if_neg (by decide)];exact aa (bH (by simp only[inR];omega)) rfl
   ·congr 2;omega
   ·rw[show 16-(t+1)=k by omega];exact xu he hd
  ·right;refine⟨(0,[I (bf (bi X k) (bi Y k))]),?_,?_⟩
   ·refine aa hb (aa (z:=true) rfl ?_);rw[if_pos rfl];refine aa hix (aa (a8 _ hk16) (aa hix (aa (a8 _ hk16) (aa (z:=true) ?_ ?_))))
    ·simp[D.beq,D.truth,hd]
    ·rw[if_pos rfl];exact aa hix (aa (a8 _ hk16) (aa hix (aa (a8 _ hk16) (aa (SL n _ _) rfl))))
   ·have hs:=yr he hd;rw[if_pos rfl];show some (I (bf (bi X k) (bi Y k)))=_;congr 2;unfold Go.Proofs.YtphlmegkommlnaaGreatDoor.sgn at hs;unfold bf;repeat' split at hs
    all_goals (repeat' split)<;>omega
 ·obtain⟨rfl,he⟩:=hJ;refine⟨(1,[]),aa fl (aa ab (aH (by decide) rfl)),?_⟩
  rw[if_neg (by decide)]
  have hs:=CI he;congr 2;unfold Go.Proofs.YtphlmegkommlnaaGreatDoor.sgn at hs;unfold bf;repeat' split at hs
  all_goals (repeat' split)<;>omega
def JL(n:Nat){X Y:Nat}(hX:X<dJ)(h:Y<=X):cA (n+1) 122 [LM X,LM Y]=some (LM (X-Y)):=by
 rw[T8]
 delta FX qB qC qJ qZ iL iR Jn
 rw[fT];refine bn (λk s=>s=[W (bK X Y k:Nat),I (k:Int),LM ((X-Y)%2^(32*k))]) 16 0 (zoa _) (by rw[mR,qe];rfl) (λk hk s hJ=>?_) (λs hJ=>?_)
 ·subst hJ;left;refine⟨_,?_,rfl⟩;have hc:=qA X Y k;obtain⟨q1,q2⟩:=pV (bi X k) (bi Y k) (bK X Y k) (ci X k) (mh X k) (ci Y k) (mh Y k) hc;refine aa ah (aa ab (aD (by show(k:Int)<16;omega) ?_))
  refine aa (dS hk) (aa (a8 _ hk) (aa (dM X k) (aa (dS hk) (aa (a8 _ hk) (aa (dM Y k) ?_)))));refine aa (sV _ _) (aa (sV _ _) (aa (gr _) (aa (dS hk) ?_)));rw[q2,<-AF h];refine aa (qd hk) (aa wv ?_);rw[q1,<-mQ];exact aa (au (ay (i:=k) (by omega))) rfl
 ·subst hJ;refine⟨_,aa ah (aa ab (aH (by decide) rfl)),?_⟩
  rw[mM];rfl
def yV(n:Nat){X:Nat}(hX:X<dJ):cA (n+1) 127 [LM X]=some (I (cB X:Nat)):=by
 rw[Uc]
 delta F6 qB qC qT qJ qZ iL iR Jn
 refine bn (λt s=>s=[I ((16-t:Nat):Int)]/\cB X=fG X (16-t)/\under X (16-t)) 16 0 (zoa _) ⟨rfl,rfl,zl rfl hX⟩ (λt ht s hJ=>?_) (λs hJ=>?_)
 ·obtain⟨rfl,he,hlt⟩:=hJ;obtain⟨k,hk⟩:∃ k,k=15-t:=⟨_,rfl⟩;rw[show 16-t=k+1 by omega] at he hlt ⊢
  have hk16:k<16:=by omega
  have hsub:D.bin .sub (I ((k+1:Nat):Int)) (D.int .i64 1)=some (I (k:Int)):=by
   rw[show(D.int .i64 1)=I 1 from rfl,bH (by simp only[inR];omega)];congr 2;omega
  have hb:D.bin .gtr (I ((k+1:Nat):Int)) (D.int .i64 0)=some (.bool true):=by rw[ca,decide_eq_true (by omega)]
  have hz:=vk (show X<2^(32*(k+1)) from hlt);have hbq:D.beq (.int .u32 (bi X k)) (.int .u32 0)=decide (X<2^(32*k)):=by
   simp[D.beq,hz]
  by_cases hs:X<2^(32*k)
  ·left;refine⟨[I ((16-(t+1):Nat):Int)],?_,rfl,?_,?_⟩
   ·refine aa hb (aa (z:=true) rfl (aa (z:=true) ?_ (aa (z:=true) rfl ?_)))
    ·rw[if_pos rfl];refine aa hsub (aa (dS hk16) (aa (a8 _ hk16) ?_));rw[hbq,decide_eq_true hs];rfl
    ·rw[if_pos rfl,show 16-(t+1)=k by omega]
     exact aa hsub rfl
   ·rw[show 16-(t+1)=k by omega,he,fG,if_neg (by omega)]
   ·rw[show 16-(t+1)=k by omega];exact hs
  ·right;refine⟨(0,[I ((k+1:Nat):Int)]),?_,?_⟩
   ·refine aa hb (aa (z:=true) rfl (aa (z:=false) ?_ (aa (z:=false) rfl rfl)));rw[if_pos rfl];refine aa hsub (aa (dS hk16) (aa (a8 _ hk16) ?_));rw[hbq,decide_eq_false hs];rfl
   ·rw[he,fG,if_pos (by omega)];rfl
 ·obtain⟨rfl,he,_⟩:=hJ;refine⟨(0,[I 0]),aa ca (aa ab (aa (z:=false) (aH (by decide) rfl) (aa (z:=false) rfl rfl))),?_⟩
  rw[he];rfl
def ta:Option Int->Option Int->Option Int
 | some x,some y=>gl (x+y)
 | _,_=>none
def dN{a b:Option Int}:(a.isSome&&b.isSome)=false\/∃ x y,a=some x/\b=some y:=by
 cases a<;>cases b<;>simp
def fN{neg:Bool}{m:Nat}{z:Int}(hz:sgn neg m=z)(h:m<dJ):bY (gl z)=af (sgn neg m):=by
 have:z.natAbs=m:=by rw[<-hz,nK]
 unfold gl;rw[if_pos (by rw[this];exact h),<-hz];rfl
def VA(n:Nat){a b:Option Int}(ha:k9 a)(hb:k9 b):cA (n+4) 57 [bY a,bY b]=some (bY (ta a b)):=by
 rw[X5]
 delta NG qG qC qT qN Jn
 refine aa (qE (n+1) ha hb) (aa aJ (aa ab ?_));rcases dN (a:=a) (b:=b) with h|⟨x,y,rfl,rfl⟩
 ·rw[h,if_pos (by decide)]
  refine aa (BH (n+2)) ?_;cases a<;>cases b<;>simp at h<;>rfl
 rw[if_neg (by simp)]
 have hx:=aZ.1 ha.some;have hy:=aZ.1 hb.some;rw[show bY (some x)=_ from bL x,show bY (some y)=_ from bL y,show ta (some x) (some y)=gl (x+y) from rfl];refine aa (z:=.bool (decide (x<0))) rfl (aa (z:=.bool (decide (y<0))) rfl (aa (z:=decide (decide (x<0)=decide (y<0))) (by simp[D.beq,D.truth]) ?_))
 by_cases hs:decide (x<0)=decide (y<0)
 ·refine aD hs ?_;refine aa (z:=LM x.natAbs) rfl (aa (z:=LM y.natAbs) rfl (aa (SB (n+2) hx hy) (aa (z:=LM (x.natAbs+y.natAbs)) rfl (aa (z:=.bool (decide (x.natAbs+y.natAbs<dJ))) rfl (aa aJ (aa ab ?_))))));have habs:(x+y).natAbs=x.natAbs+y.natAbs:=by
   rw[decide_eq_decide] at hs;omega
  by_cases ht:x.natAbs+y.natAbs<dJ
  ·rw[decide_eq_true ht,if_neg (by decide)]
   rw[fN (neg:=decide (x<0)) (z:=x+y) (by unfold sgn;rw[decide_eq_decide] at hs;simp only[decide_eq_true_eq];split<;>omega) ht]
   exact aa (z:=.bool (decide (x<0))) rfl (aa (qD (n+2) _ ht) rfl)
  ·rw[decide_eq_false ht,if_pos (by decide)]
   refine aa (BH (n+2)) ?_;unfold gl;rw[if_neg (by rw[habs];exact ht)];rfl
 ·refine aH hs ?_;refine aa (z:=LM x.natAbs) rfl (aa (z:=LM y.natAbs) rfl (aa (Hx n hx hy) (aa fl (aa ab ?_))));have hs':¬ (x<0↔y<0):=λe=>hs (by rw[decide_eq_decide];exact e)
  by_cases hge:y.natAbs<=x.natAbs
  ·refine aD (by unfold bf;split<;>(try split)<;>omega) ?_
   refine aa (z:=.bool (decide (x<0))) rfl (aa (z:=LM x.natAbs) rfl (aa (z:=LM y.natAbs) rfl (aa (JL (n+2) hx hge) (aa (qD (n+2) _ (zFa (Nat.sub_le _ _) hx)) ?_))));rw[fN (neg:=decide (x<0)) (m:=x.natAbs-y.natAbs) (z:=x+y) (by unfold sgn;simp only[decide_eq_true_eq];split<;>omega) (zFa (Nat.sub_le _ _) hx)]
  ·refine aH (by unfold bf;split<;>(try split)<;>omega) ?_
   refine aa (z:=.bool (decide (y<0))) rfl (aa (z:=LM y.natAbs) rfl (aa (z:=LM x.natAbs) rfl (aa (JL (n+2) hy (by omega)) (aa (qD (n+2) _ (zFa (Nat.sub_le _ _) hy)) ?_))))
   rw[fN (neg:=decide (y<0)) (m:=y.natAbs-x.natAbs) (z:=x+y) (by unfold sgn;simp only[decide_eq_true_eq];split<;>omega) (zFa (Nat.sub_le _ _) hy)]
def VC(n:Nat){a:Option Int}(ha:k9 a):cA (n+3) 68 [bY a]=some (bY (a.map (λx=>-x))):=by
 rw[X8]
 delta NI qG qN
 refine aa (mf n ha) (aa aJ (aa ab ?_));cases a with
 | none=>rw[if_pos (by decide)];exact aa (BH (n+1)) rfl
 | some x=>
  rw[if_neg (by simp)]
  have hx:=aZ.1 ha.some;rw[show bY (some x)=_ from bL x];show _=some (af (-x));refine aa (z:=.bool (decide (x<0))) rfl (aa aJ (aa (z:=LM x.natAbs) rfl (aa (qD (n+1) _ hx) ?_)));rw[bL,pP,nK];rw[bL,zec,show((!(decide (x<0)))&&!(decide (x.natAbs=0)))=decide (-x<0) by rw[Bool.eq_iff_iff];simp;omega]
def tc(n:Nat){x:Int}(hx:In x):cA (n+3) 129 [af x]=some (I (sg x)):=by
 rw[Ud]
 delta F7 qG qT qN Jn
 have h118:=mf n (ba hx);have hx:=aZ.1 hx;refine aa h118 (aa aJ (aa (z:=false) rfl (aa (z:=decide (x=0)) ?_ (aa ab ?_))))
 ·rw[if_neg (by decide),bL]
  refine aa (z:=LM x.natAbs) rfl ?_;rw[gt,jt hx eC,ab];congr 1;rw[decide_eq_decide];omega
 ·by_cases h0:x=0
  ·refine aD h0 ?_;subst h0;rfl
  ·refine aH h0 (aa (z:=.bool (decide (x<0))) rfl (aa ab ?_));by_cases h1:x<0
   ·refine aD h1 ?_;rw[wa h1]
   ·refine aH h1 ?_;rw[fK (by omega)]
def C3(n:Nat){x:Int}(hx:inR x):cA (n+2) 54 [I x]=some (af x):=by
 rw[X4]
 delta NF qB qC Jn
 obtain⟨h1,h2⟩:=hx;have key:∀ m:Nat,m<18446744073709551616->D.st (D.putParts (List.replicate 16 (D.int .u32 0)) [(0,.int .u32 ((m:Int)%4294967296)),(1,.int .u32 ((m:Int)/4294967296%4294967296))])=LM m:=λm hm=>by
  have e:LM m=bT 16 (λj=>if j=0 then(m:Int)%4294967296 else if j=1 then(m:Int)/4294967296%4294967296 else 0):=bV λj hj=>by
   match j with
   | 0=>simp[bi]
   | 1=>simp[bi]
   | j+2=>
    rw[if_neg (by omega),if_neg (by omega)]
    exact eU (n:=2) (by simpa using hm) (by omega)
  rw[e];rfl
 have w1:IntKind.u64.wrap x=if x<0 then x+18446744073709551616 else x:=by
  have:IntKind.u64.wrap x=x%18446744073709551616:=rfl;rw[this];split<;>omega
 have hc:D.conv .u64 (I x)=some (W (if x<0 then x+18446744073709551616 else x)):=by simp only[D.conv,w1]
 refine aa hc ?_;have habs:x.natAbs<18446744073709551616:=by omega
 refine aa (z:=(0,[W (x.natAbs:Nat)])) ?_ ?_
 ·refine aa ah (aa ab ?_);by_cases h:x<0
  ·refine aD h ?_;rw[if_pos h];have:D.un .neg (W (x+18446744073709551616))=some (W (x.natAbs:Nat)):=by
    simp only[D.un];have:IntKind.u64.wrap (0-(x+18446744073709551616))=(0-(x+18446744073709551616))%18446744073709551616:=rfl;rw[this];congr 2;omega
   exact aa this rfl
  ·refine aH h ?_;rw[if_neg h];congr 4;omega
 ·refine aa ah (aa (gr _) (aa (sU (by show(0:Int)<=(x.natAbs:Nat);omega)) (aa (gr _) ?_)))
  have e:=key x.natAbs habs;refine aa (z:=af x) ?_ rfl;show cA (n+1) 116 [.bool (decide (x<0)),D.st (D.putParts (List.replicate 16 (D.int .u32 0)) [(0,.int .u32 (((x.natAbs:Nat):Int)%4294967296)),(1,.int .u32 (((x.natAbs:Nat):Int)/4294967296%4294967296))])]=_;rw[e,qD n _ (wg habs)];congr 1;congr 1;unfold sgn;simp only[decide_eq_true_eq];split<;>omega
end Sy
end
end Go.Proofs.YtphlmegkommlnaaGreatDoor
