/- HullOfBoxes answers true at every input, and the input reads afterwards as it read before (HullOfBoxesSaid). No condition. -/
import Derived.Test.YtjjjkojfijpeeaaGreatBoxes01
import Derived.Test.YtjjjkojfijpeeaaGreatBoxes10
import Derived.Test.YtjjjkojfijpeeaaGreatBoxes11
import Derived.Test.YtjjjkojfijpeeaaGreatBoxes13
import Derived.Test.YtjjjkojfijpeeaaGreatRows
import Derived.ProofKit
set_option linter.unusedVariables false
set_option linter.unusedSimpArgs false
set_option linter.unnecessarySimpa false
section
set_option linter.unusedVariables false
namespace Go.Proofs.YtjjjkojfijpeeaaGreat.Sy
open Go Go.Proofs Go.Proofs.YtjjjkojfijpeeaaGreat.Geo
def gC(f:Nat->Int):D:=.st [ah (f 0),ah (f 1),ah (f 2)]
def dC(f:Nat->Nat->Int):D:=.st [gC (f 0),gC (f 1),gC (f 2)]
def pj(f:Nat->Rat):D:=.st [fB (f 0),fB (f 1),fB (f 2)]
theorem Hq{k:Nat}(h:k<3):k=0\/k=1\/k=2:=by omega
theorem fE{k:Nat}(h:k<3)(v:V):D.get (aq v) [k]=some (I (cmp k v)):=by rcases Hq h with rfl|rfl|rfl<;>rfl
theorem Hd{k:Nat}(h:k<3)(f:Nat->Int):D.get (gC f) [k]=some (ah (f k)):=by rcases Hq h with rfl|rfl|rfl<;>rfl
theorem De{k:Nat}(h:k<3){f g:Nat->Int}{v:Int}(hg:∀ j,j<3->g j=if j=k then v else f j):D.set (gC f) [k] (ah v)=some (gC g):=by
 have g0:=hg 0 (by decide);have g1:=hg 1 (by decide);have g2:=hg 2 (by decide)
 unfold gC
 rcases Hq h with rfl|rfl|rfl
 ·rw[if_pos rfl] at g0;rw[if_neg (by decide)] at g1;rw[if_neg (by decide)] at g2
  rw[g0,g1,g2];rfl
 ·rw[if_neg (by decide)] at g0;rw[if_pos rfl] at g1;rw[if_neg (by decide)] at g2
  rw[g0,g1,g2];rfl
 ·rw[if_neg (by decide)] at g0;rw[if_neg (by decide)] at g1;rw[if_pos rfl] at g2
  rw[g0,g1,g2];rfl
theorem zW{i k:Nat}(hi:i<3)(hk:k<3)(f:Nat->Nat->Int):D.get (dC f) [i,k]=some (ah (f i k)):=by
 rcases Hq hi with rfl|rfl|rfl<;>rcases Hq hk with rfl|rfl|rfl<;>rfl
theorem Er{i k:Nat}(hi:i<3)(hk:k<3){f g:Nat->Nat->Int}{v:Int}(hg:∀ a b,a<3->b<3->g a b=if a=i/\b=k then v else f a b):D.set (dC f) [i,k] (ah v)=some (dC g):=by
 have e:∀ a,a<3->a≠i->gC (f a)=gC (g a):=fun a ha hne=>by
  unfold gC
  rw[hg a 0 ha (by decide),hg a 1 ha (by decide),hg a 2 ha (by decide),if_neg (fun h=>hne h.1),if_neg (fun h=>hne h.1),if_neg (fun h=>hne h.1)]
 have s:=De hk (f:=f i) (g:=g i) (v:=v) fun j hj=>by
  rw[hg i j hi hj]
  by_cases h:j=k
  ·rw[if_pos ⟨rfl,h⟩,if_pos h]
  ·rw[if_neg (fun c=>h c.2),if_neg h]
 unfold dC
 rcases Hq hi with rfl|rfl|rfl
 ·rw[<-e 1 (by decide) (by decide),<-e 2 (by decide) (by decide)]
  simp only[D.set,List.getElem?_cons_zero,Option.bind_some,s,List.set_cons_zero]
 ·rw[<-e 0 (by decide) (by decide),<-e 2 (by decide) (by decide)]
  simp only[D.set,List.getElem?_cons_zero,List.getElem?_cons_succ,Option.bind_some,s,List.set_cons_zero,List.set_cons_succ]
 ·rw[<-e 0 (by decide) (by decide),<-e 1 (by decide) (by decide)]
  simp only[D.set,List.getElem?_cons_zero,List.getElem?_cons_succ,Option.bind_some,s,List.set_cons_zero,List.set_cons_succ]
theorem C1:D.st [D.bool false,D.bool false,aA aU]=ah 0:=by rw[fr,bY];rfl
theorem cU{k:Nat}(h:k<3):D.idx (I (k:Int)) 3=some k:=aK h
theorem nq{v:V}(h:bd MV v)(i:Nat):-262144<=cmp i v/\cmp i v<=262144:=by have:=et h i;omega
theorem fH{x:Int}{k:Nat}(h:x.natAbs<=2^k)(hk:k<=511:=by decide):In x:=gr hk h
theorem Pq(n:Nat){l:List V}{F:FL}(hl:∀ x∈l,bd MV x)(hF:FIn l F)(h18:∀ m,cA (m+8) 18 [dq l]=some (.sl (er F)))(hV:ar lv (c9 l F)≠0) :
  cA (n+1031) 25 [dq l]=some (pj fun i=>Rat.divInt (ar (fV i) (c9 l F)) (4*ar lv (c9 l F))):=by
 rw[NW];unfold Jp
 have hFl:=hF.len
 rw[C1]
 refine aa (h18 (n+1022)) (aa (z:=er F) rfl ?_)
 obtain⟨Z,hZ⟩:∃ Z,(D.st [D.st [ah 0,ah 0],D.st [ah 0,ah 0],D.st [ah 0,ah 0]])=Z:=⟨_,rfl⟩
 rw[hZ]
 refine br (fun i s=>s=[I (i:Int),dq l,Z,gC fun j=>ar (fV j) (c9 l (F.take i))]) F.length 0 (Nat.zero_le _) (by simp[c9,ar];rfl) (fun i hi s hJ=>?_) (fun s hJ=>?_)
 ·subst hJ
  left
  refine⟨_,?_,rfl⟩
  refine aa aj (aa ag (aX (by show((i:Int)<((er F).length:Int));rw[ed];omega) ?_))
  refine aa (z:=er F) rfl (aa (z:=i) (by rw[ed];exact aK hi) (aa (nX hi) ?_))
  have hpart:=fun m (hm:m<=F[i].2.length-2)=>uR hl hF hi hm
  obtain⟨k1,k2,k3⟩:=hF.ok F[i] (List.getElem_mem hi)
  rw[kV l hi]
  generalize F[i]=f at *
  obtain⟨q,p⟩:=f
  simp only at *
  generalize c9 l (F.take i)=T at *
  refine cV (fun j s=>s=[I ((j+2:Nat):Int),dq l,Z,gC fun a=>ar (fV a) (T++Ad l p j)]) (p.length-2) 0 (Nat.zero_le _) (by rw[qn,List.append_nil];rfl) (fun j hj s hJ=>?_) (fun s hJ=>?_)
  ·subst hJ
   left
   refine⟨_,?_,rfl⟩
   have hp1:=hpart j (by omega)
   have hp2:=hpart (j+1) (by omega)
   have b0:=jW hl (k3 0 (by omega))
   have b1:=jW hl (k3 (j+1) (by omega))
   have b2:=jW hl (k3 (j+2) (by omega))
   obtain⟨v1,v2⟩:=HA (n+1024) (t:=(pt l (p.getD 0 0),pt l (p.getD (j+1) 0),pt l (p.getD (j+2) 0))) ⟨b0,b1,b2⟩
   have hs1:=fun a=>oo a hp1
   have hs2:=fun a=>oo a hp2
   have hv:=oy (t:=(pt l (p.getD 0 0),pt l (p.getD (j+1) 0),pt l (p.getD (j+2) 0))) ⟨b0,b1,b2⟩
   have hm:=fun a=>Ec a (t:=(pt l (p.getD 0 0),pt l (p.getD (j+1) 0),pt l (p.getD (j+2) 0))) ⟨b0,b1,b2⟩
   rw[qC,<-List.append_assoc] at hs2 ⊢
   simp only[nL] at hs2 ⊢
   refine aa (z:=.sl (ab p)) rfl (aa (z:=ab p) rfl (aa aj (aa ag (aX (by show(((j+2:Nat):Int)<((ab p).length:Int));rw[ae];omega) ?_))))
   refine aa (z:=cT l) rfl (aa (z:=.sl (ab p)) rfl (Fq (j:=0) (by omega) (k3 _ (by omega)) ?_))
   refine aa (z:=cT l) rfl (aa (z:=.sl (ab p)) rfl (aa (iD (a:=j+2) (b:=1) rfl (by omega) (by omega)) (Fq (j:=j+1) (by omega) (k3 _ (by omega)) ?_)))
   refine aa (z:=cT l) rfl (aa (z:=.sl (ab p)) rfl (Fq (j:=j+2) (by omega) (k3 _ (by omega)) ?_))
   refine aa v1 (aa v2 ?_)
   generalize pt l (p.getD 0 0)=A at *
   generalize pt l (p.getD (j+1) 0)=B at *
   generalize pt l (p.getD (j+2) 0)=C at *
   generalize T++Ad l p j=S at *
   refine cV (fun k s=>s=[I (k:Int),dq l,Z,gC (fun a=>if a<k then ar (fV a) S+fV a (A,B,C) else ar (fV a) S),dq l,gk q p,.st [aq A,aq B,aq C]]) 3 0 (Nat.zero_le _) rfl (fun k hk s hJ=>?_) (fun s hJ=>?_)
   ·subst hJ
    left
    refine⟨[I ((k+1:Nat):Int),dq l,Z,gC (fun a=>if a<k+1 then ar (fV a) S+fV a (A,B,C) else ar (fV a) S),dq l,gk q p,.st [aq A,aq B,aq C]],?_,rfl⟩
    have a0:=nq b0 k;have a1:=nq b1 k;have a2:=nq b2 k
    refine aa aj (aa ag (aX (by show(k:Int)<3;omega) ?_))
    refine aa (cU hk) (aa (show D.get (gC fun a=>if a<k then ar (fV a) S+fV a (A,B,C) else ar (fV a) S) [k]=_ from Hd hk _) (aa (cU hk) (aa (fE hk A) (aa (cU hk) (aa (fE hk B) ?_)))))
    refine aa (aH (by simp only[inR];omega)) (aa (cU hk) (aa (fE hk C) (aa (aH (by simp only[inR];omega)) ?_)))
    refine aa (C2 (n+1028) (by simp only[inR];omega)) ?_
    rw[if_neg (Nat.lt_irrefl k)]
    have hsm:=tf (t:=(A,B,C)) ⟨b0,b1,b2⟩ k
    refine aa (AZ (n+1027) (fH hv) (fH (k:=20) (Nat.le_trans hsm (by decide))) (fH (hm k))) ?_
    refine aa (u7 (n+1026) (fH (hs1 k)) (fH (hm k)) (fH (hs2 k))) ?_
    refine aa (cU hk) (aa (De hk (f:=fun a=>if a<k then ar (fV a) S+fV a (A,B,C) else ar (fV a) S) (g:=fun a=>if a<k+1 then ar (fV a) S+fV a (A,B,C) else ar (fV a) S) fun j hj=>?_) (aa (aZ (a:=k) (b:=1) (by omega)) rfl))
    by_cases e:j=k
    ·subst e;rw[if_pos (Nat.lt_succ_self _),if_pos rfl];rfl
    ·rw[if_neg e]
     by_cases h:j<k
     ·rw[if_pos h,if_pos (by omega)]
     ·rw[if_neg h,if_neg (by omega)]
   ·subst hJ
    refine⟨_,aa aj (aa ag (ba (by decide) rfl)),?_⟩
    exact aa (aZ (a:=j+2) (b:=1) (by omega)) rfl
  ·subst hJ
   refine⟨_,aa (z:=.sl (ab p)) rfl (aa (z:=ab p) rfl (aa aj (aa ag (ba (by show ¬ (((p.length-2+2:Nat):Int)<((ab p).length:Int));rw[ae];omega) rfl)))),?_⟩
   exact aa (aZ (a:=i) (b:=1) (by omega)) rfl
 ·subst hJ
  refine⟨_,aa aj (aa ag (ba (by show ¬ ((F.length:Int)<((er F).length:Int));rw[ed];omega) rfl)),?_⟩
  rw[List.take_length]
  have hT:=zo hl hF
  have h1:=og hT
  have h2:=fun i=>oo i hT
  have h3:=Nv (n+1020) hl hF (h18 _)
  generalize ar lv (c9 l F)=W at *
  have i4:In 4:=ir (jX 4)
  have h4:(4*W).natAbs<=2^87:=il (i:=2) (by decide) h1 (by decide)
  refine aa (C2 (n+1028) (jX 4)) (aa h3 (aa (AZ (n+1027) i4 (fH h1) (fH h4)) ?_))
  have hq:=fun i=>M7 n (fH (h2 i)) (fH h4) (by omega)
  subst hZ
  obtain⟨z,hz⟩:∃ z,ah 0=z:=⟨_,rfl⟩
  rw[hz]
  refine cn (s':=[I 1,.st [fB (Rat.divInt (ar (fV 0) (c9 l F)) (4*W)),.st [z,z],.st [z,z]]]) ?_ (cn (s':=[I 2,.st [fB (Rat.divInt (ar (fV 0) (c9 l F)) (4*W)),fB (Rat.divInt (ar (fV 1) (c9 l F)) (4*W)),.st [z,z]]]) ?_ (cn (s':=[I 3,pj fun i=>Rat.divInt (ar (fV i) (c9 l F)) (4*W)]) ?_ (iJ (r:=(0,[pj fun i=>Rat.divInt (ar (fV i) (c9 l F)) (4*W)])) ?_ rfl)))
  ·exact aa (z:=.bool true) rfl (aa (z:=true) rfl (BF (aa (z:=0) rfl (aa (z:=ah (ar (fV 0) (c9 l F))) rfl (aa (hq 0) (aa (z:=0) rfl (aa (z:=.st [fB (Rat.divInt (ar (fV 0) (c9 l F)) (4*W)),.st [z,z],.st [z,z]]) rfl (aa (z:=I 1) rfl rfl))))))))
  ·exact aa (z:=.bool true) rfl (aa (z:=true) rfl (BF (aa (z:=1) rfl (aa (z:=ah (ar (fV 1) (c9 l F))) rfl (aa (hq 1) (aa (z:=1) rfl (aa (z:=.st [fB (Rat.divInt (ar (fV 0) (c9 l F)) (4*W)),fB (Rat.divInt (ar (fV 1) (c9 l F)) (4*W)),.st [z,z]]) rfl (aa (z:=I 2) rfl rfl))))))))
  ·exact aa (z:=.bool true) rfl (aa (z:=true) rfl (BF (aa (z:=2) rfl (aa (z:=ah (ar (fV 2) (c9 l F))) rfl (aa (hq 2) (aa (z:=2) rfl (aa (z:=pj fun i=>Rat.divInt (ar (fV i) (c9 l F)) (4*W)) rfl (aa (z:=I 3) rfl rfl))))))))
  ·exact aa (z:=.bool false) rfl (aa (z:=false) rfl rfl)
theorem Lu(n:Nat){x:Int}(hx:In x):cA (n+3) 68 [ah x]=some (ah (-x)):=Ao n hx
def jU(f:Nat->Nat->Int)(m:Nat):Rat:=Rat.divInt (if m/3=m%3 then -(f (m/3) (m%3))+(f 0 0+f 1 1+f 2 2) else -(f (m/3) (m%3))) 120
def eW(f:Nat->Nat->Int)(m:Nat):List D:=(List.range m).map fun j=>fB (jU f j)
theorem xF(f:Nat->Nat->Int)(m:Nat):eW f (m+1)=eW f m++[fB (jU f m)]:=by unfold eW;rw[List.range_succ,List.map_append];rfl
theorem qY(f:Nat->Nat->Int)(m:Nat):(eW f m).length=m:=by simp[eW]
theorem HB{i k:Nat}(h:k<3):(3*i+k)/3=i/\(3*i+k)%3=k:=by omega
theorem EP{A B C:V}(h:bd MV A/\bd MV B/\bd MV C)(i k:Nat) :
  (-786432<=cmp i A+cmp i B+cmp i C/\cmp i A+cmp i B+cmp i C<=786432)/\(-786432<=cmp k A+cmp k B+cmp k C/\cmp k A+cmp k B+cmp k C<=786432) ∧
  ((cmp i A+cmp i B+cmp i C)*(cmp k A+cmp k B+cmp k C)).natAbs<=618475290624/\(cmp i A*cmp k A).natAbs<=68719476736/\(cmp i B*cmp k B).natAbs<=68719476736/\(cmp i C*cmp k C).natAbs<=68719476736:=by
 have key:∀ {a b:Int} {m:Nat},a.natAbs<=m->b.natAbs<=m->(a*b).natAbs<=m*m:=fun ha hb=>by rw[Int.natAbs_mul];exact Nat.mul_le_mul ha hb
 have s1:=tf (t:=(A,B,C)) h i;have s2:=tf (t:=(A,B,C)) h k
 unfold sm at s1 s2
 simp only at s1 s2
 refine⟨by omega,by omega,key s1 s2,key (et h.1 i) (et h.1 k),key (et h.2.1 i) (et h.2.1 k),key (et h.2.2 i) (et h.2.2 k)⟩
theorem Pv(n:Nat){l:List V}{F:FL}(hl:∀ x∈l,bd MV x)(hF:FIn l F)(h18:∀ m,cA (m+8) 18 [dq l]=some (.sl (er F))) :
  cA (n+1031) 28 [dq l]=some (.st [I 3,I 3,.sl (eW (fun i k=>ar (dD i k) (c9 l F)) 9)]):=by
 rw[Oq];unfold Jw
 have hFl:=hF.len
 rw[C1]
 refine aa (h18 (n+1022)) (aa (z:=er F) rfl ?_)
 refine br (fun i s=>s=[I (i:Int),dq l,I 0,I 0,.sl [],dC fun a b=>ar (dD a b) (c9 l (F.take i))]) F.length 0 (Nat.zero_le _) (by simp[c9,ar];rfl) (fun i hi s hJ=>?_) (fun s hJ=>?_)
 ·subst hJ
  left
  refine⟨_,?_,rfl⟩
  refine aa aj (aa ag (aX (by show((i:Int)<((er F).length:Int));rw[ed];omega) ?_))
  refine aa (z:=er F) rfl (aa (z:=i) (by rw[ed];exact aK hi) (aa (nX hi) ?_))
  have hpart:=fun m (hm:m<=F[i].2.length-2)=>uR hl hF hi hm
  obtain⟨k1,k2,k3⟩:=hF.ok F[i] (List.getElem_mem hi)
  rw[kV l hi]
  generalize F[i]=f at *
  obtain⟨q,p⟩:=f
  simp only at *
  generalize c9 l (F.take i)=T at *
  refine cV (fun j s=>s=[I ((j+2:Nat):Int),dq l,I 0,I 0,.sl [],dC fun a b=>ar (dD a b) (T++Ad l p j)]) (p.length-2) 0 (Nat.zero_le _) (by rw[qn,List.append_nil];rfl) (fun j hj s hJ=>?_) (fun s hJ=>?_)
  ·subst hJ
   left
   refine⟨_,?_,rfl⟩
   have hp1:=hpart j (by omega)
   have hp2:=hpart (j+1) (by omega)
   have b0:=jW hl (k3 0 (by omega))
   have b1:=jW hl (k3 (j+1) (by omega))
   have b2:=jW hl (k3 (j+2) (by omega))
   obtain⟨v1,v2⟩:=HA (n+1024) (t:=(pt l (p.getD 0 0),pt l (p.getD (j+1) 0),pt l (p.getD (j+2) 0))) ⟨b0,b1,b2⟩
   have hs1:=fun a b=>kR a b hp1
   have hs2:=fun a b=>kR a b hp2
   have hv:=oy (t:=(pt l (p.getD 0 0),pt l (p.getD (j+1) 0),pt l (p.getD (j+2) 0))) ⟨b0,b1,b2⟩
   have hm:=fun a b=>Du a b (t:=(pt l (p.getD 0 0),pt l (p.getD (j+1) 0),pt l (p.getD (j+2) 0))) ⟨b0,b1,b2⟩
   rw[qC,<-List.append_assoc] at hs2 ⊢
   simp only[nL] at hs2 ⊢
   refine aa (z:=.sl (ab p)) rfl (aa (z:=ab p) rfl (aa aj (aa ag (aX (by show(((j+2:Nat):Int)<((ab p).length:Int));rw[ae];omega) ?_))))
   refine aa (z:=cT l) rfl (aa (z:=.sl (ab p)) rfl (Fq (j:=0) (by omega) (k3 _ (by omega)) ?_))
   refine aa (z:=cT l) rfl (aa (z:=.sl (ab p)) rfl (aa (iD (a:=j+2) (b:=1) rfl (by omega) (by omega)) (Fq (j:=j+1) (by omega) (k3 _ (by omega)) ?_)))
   refine aa (z:=cT l) rfl (aa (z:=.sl (ab p)) rfl (Fq (j:=j+2) (by omega) (k3 _ (by omega)) ?_))
   refine aa v1 (aa v2 ?_)
   generalize pt l (p.getD 0 0)=A at *
   generalize pt l (p.getD (j+1) 0)=B at *
   generalize pt l (p.getD (j+2) 0)=C at *
   generalize T++Ad l p j=S at *
   obtain⟨ST,hST⟩:∃ ST,D.st [aq A,aq B,aq C]=ST:=⟨_,rfl⟩
   rw[hST]
   refine cV (fun i s=>s=[I (i:Int),dq l,I 0,I 0,.sl [],dC (fun a b=>if a<i then ar (dD a b) S+dD a b (A,B,C) else ar (dD a b) S),dq l,gk q p,ST]) 3 0 (Nat.zero_le _) rfl (fun i hi s hJ=>?_) (fun s hJ=>?_)
   ·subst hJ
    left
    refine⟨[I ((i+1:Nat):Int),dq l,I 0,I 0,.sl [],dC (fun a b=>if a<i+1 then ar (dD a b) S+dD a b (A,B,C) else ar (dD a b) S),dq l,gk q p,ST],?_,rfl⟩
    refine aa aj (aa ag (aX (by show(i:Int)<3;omega) ?_))
    refine cV (fun k s=>s=[I (k:Int),dq l,I 0,I 0,.sl [],dC (fun a b=>if a<i\/a=i/\b<k then ar (dD a b) S+dD a b (A,B,C) else ar (dD a b) S),dq l,gk q p,ST]) 3 0 (Nat.zero_le _) (by
     have e0:dC (fun a b=>if a<i then ar (dD a b) S+dD a b (A,B,C) else ar (dD a b) S)=dC (fun a b=>if a<i\/a=i/\b<0 then ar (dD a b) S+dD a b (A,B,C) else ar (dD a b) S):=by
      congr 1;funext a b;simp
     rw[<-e0];rfl) (fun k hk s hJ=>?_) (fun s hJ=>?_)
    ·subst hJ
     left
     refine⟨[I ((k+1:Nat):Int),dq l,I 0,I 0,.sl [],dC (fun a b=>if a<i\/a=i/\b<k+1 then ar (dD a b) S+dD a b (A,B,C) else ar (dD a b) S),dq l,gk q p,ST],?_,rfl⟩
     have a0:=nq b0 i;have a1:=nq b1 i;have a2:=nq b2 i
     have e0:=nq b0 k;have e1:=nq b1 k;have e2:=nq b2 k
     obtain⟨q1,q2,q3,q4,q5,q6⟩:=EP ⟨b0,b1,b2⟩ i k
     have hq:Bb i k (A,B,C)=(cmp i A+cmp i B+cmp i C)*(cmp k A+cmp k B+cmp k C)+cmp i A*cmp k A+cmp i B*cmp k B+cmp i C*cmp k C:=rfl
     have hql:=AI (t:=(A,B,C)) ⟨b0,b1,b2⟩ i k
     refine aa aj (aa ag (aX (by show(k:Int)<3;omega) ?_))
     refine aa (cU hi) (aa (fE hi A) (aa (cU hi) (aa (fE hi B) (aa (aH (by simp only[inR];omega)) (aa (cU hi) (aa (fE hi C) (aa (aH (by simp only[inR];omega)) ?_)))))))
     refine aa (cU hk) (aa (fE hk A) (aa (cU hk) (aa (fE hk B) (aa (aH (by simp only[inR];omega)) (aa (cU hk) (aa (fE hk C) (aa (aH (by simp only[inR];omega)) ?_)))))))
     refine aa (bB (by simp only[inR];omega)) ?_
     obtain⟨M,hM⟩:∃ M,dC (fun a b=>if a<i\/a=i/\b<k then ar (dD a b) S+dD a b (A,B,C) else ar (dD a b) S)=M:=⟨_,rfl⟩
     have gM:D.get M [i,k]=some (ah (ar (dD i k) S)):=by
      rw[<-hM,zW hi hk]
      rw[if_neg (by omega)]
     have sM:∀ v,v=ar (dD i k) S+dD i k (A,B,C)->D.set M [i,k] (ah v)=some (dC (fun a b=>if a<i\/a=i/\b<k+1 then ar (dD a b) S+dD a b (A,B,C) else ar (dD a b) S)):=fun v hv=>by
      rw[<-hM]
      refine Er hi hk fun a b ha hb=>?_
      by_cases h:a=i/\b=k
      ·obtain⟨rfl,rfl⟩:=h
       rw[if_pos (.inr ⟨rfl,Nat.lt_succ_self _⟩),if_pos ⟨rfl,rfl⟩,hv]
      ·rw[if_neg h]
       by_cases h2:a<i\/a=i/\b<k
       ·rw[if_pos h2,if_pos (by omega)]
       ·rw[if_neg h2,if_neg (by omega)]
     rw[hM]
     generalize (cmp i A+cmp i B+cmp i C)*(cmp k A+cmp k B+cmp k C)=x0 at *
     generalize hx1:cmp i A*cmp k A=x1 at *
     generalize hx2:cmp i B*cmp k B=x2 at *
     generalize hx3:cmp i C*cmp k C=x3 at *
     refine cn (s':=[I (x0+x1),I 1,dq l,I 0,I 0,.sl [],dq l,gk q p,ST]) ?_ (cn (s':=[I (x0+x1+x2),I 2,dq l,I 0,I 0,.sl [],dq l,gk q p,ST]) ?_ (cn (s':=[I (x0+x1+x2+x3),I 3,dq l,I 0,I 0,.sl [],dq l,gk q p,ST]) ?_ (iJ (r:=(0,[I (x0+x1+x2+x3),dq l,I 0,I 0,.sl [],dq l,gk q p,ST])) ?_ ?_)))
     ·refine aa (z:=.bool true) rfl (aa (z:=true) rfl (BF (aa (z:=0) rfl (aa (z:=aq A) (show D.fld ST 0=_ by rw[<-hST];rfl) (aa (cU hi) (aa (fE hi A) (aa (cU hk) (aa (fE hk A) (aa (bB (by simp only[inR];omega)) ?_)))))))))
      rw[hx1]
      exact aa (aH (by simp only[inR];omega)) (aa (z:=I 1) rfl rfl)
     ·refine aa (z:=.bool true) rfl (aa (z:=true) rfl (BF (aa (z:=1) rfl (aa (z:=aq B) (show D.fld ST 1=_ by rw[<-hST];rfl) (aa (cU hi) (aa (fE hi B) (aa (cU hk) (aa (fE hk B) (aa (bB (by simp only[inR];omega)) ?_)))))))))
      rw[hx2]
      exact aa (aH (by simp only[inR];omega)) (aa (z:=I 2) rfl rfl)
     ·refine aa (z:=.bool true) rfl (aa (z:=true) rfl (BF (aa (z:=2) rfl (aa (z:=aq C) (show D.fld ST 2=_ by rw[<-hST];rfl) (aa (cU hi) (aa (fE hi C) (aa (cU hk) (aa (fE hk C) (aa (bB (by simp only[inR];omega)) ?_)))))))))
      rw[hx3]
      exact aa (aH (by simp only[inR];omega)) (aa (z:=I 3) rfl rfl)
     ·exact aa (z:=.bool false) rfl (aa (z:=false) rfl rfl)
     ·refine aa (cU hi) (aa (cU hk) (aa gM (aa (C2 (n+1028) (by simp only[inR];omega)) ?_)))
      rw[<-hq]
      refine aa (AZ (n+1027) (fH hv) (fH (k:=40) (Nat.le_trans hql (by decide))) (fH (hm i k))) ?_
      refine aa (u7 (n+1026) (fH (hs1 i k)) (fH (hm i k)) (fH (hs2 i k))) ?_
      exact aa (cU hi) (aa (cU hk) (aa (sM _ rfl) (aa (aZ (a:=k) (b:=1) (by omega)) rfl)))
    ·subst hJ
     refine⟨_,aa aj (aa ag (ba (by decide) rfl)),?_⟩
     refine aa (aZ (a:=i) (b:=1) (by omega)) ?_
     have:dC (fun a b=>if a<i\/a=i/\b<3 then ar (dD a b) S+dD a b (A,B,C) else ar (dD a b) S)=dC (fun a b=>if a<i+1 then ar (dD a b) S+dD a b (A,B,C) else ar (dD a b) S):=by
      have e:∀ a b,b<3->(if a<i\/a=i/\b<3 then ar (dD a b) S+dD a b (A,B,C) else ar (dD a b) S)=(if a<i+1 then ar (dD a b) S+dD a b (A,B,C) else ar (dD a b) S):=fun a b hb=>by
       by_cases h:a<i+1
       ·rw[if_pos h,if_pos (by omega)]
       ·rw[if_neg h,if_neg (by omega)]
      simp only[dC,gC]
      rw[e 0 0 (by decide),e 0 1 (by decide),e 0 2 (by decide),e 1 0 (by decide),e 1 1 (by decide),e 1 2 (by decide),e 2 0 (by decide),e 2 1 (by decide),e 2 2 (by decide)]
     rw[<-this];rfl
   ·subst hJ
    refine⟨_,aa aj (aa ag (ba (by decide) rfl)),?_⟩
    exact aa (aZ (a:=j+2) (b:=1) (by omega)) rfl
  ·subst hJ
   refine⟨_,aa (z:=.sl (ab p)) rfl (aa (z:=ab p) rfl (aa aj (aa ag (ba (by show ¬ (((p.length-2+2:Nat):Int)<((ab p).length:Int));rw[ae];omega) rfl)))),?_⟩
   exact aa (aZ (a:=i) (b:=1) (by omega)) rfl
 ·subst hJ
  refine⟨_,aa aj (aa ag (ba (by show ¬ ((F.length:Int)<((er F).length:Int));rw[ed];omega) rfl)),?_⟩
  rw[List.take_length]
  have hT:=zo hl hF
  have h2:=fun i k=>kR i k hT
  generalize c9 l F=T at *
  have t1:=gU (h2 0 0) (h2 1 1)
  have t2:=gU t1 (lH (h2 2 2) (k:=126) (by decide))
  have tn:∀ i k,(-(ar (dD i k) T)).natAbs<=2^125:=fun i k=>by rw[Int.natAbs_neg];exact h2 i k
  have tt:∀ i,(-(ar (dD i i) T)+(ar (dD 0 0) T+ar (dD 1 1) T+ar (dD 2 2) T)).natAbs<=2^128:=fun i=>gU (lH (tn i i) (k:=127) (by decide)) t2
  refine aa (z:=ah (ar (dD 0 0) T)) rfl (aa (z:=ah (ar (dD 1 1) T)) rfl (aa (u7 (n+1026) (fH (h2 0 0)) (fH (h2 1 1)) (fH t1)) (aa (z:=ah (ar (dD 2 2) T)) rfl (aa (u7 (n+1026) (fH t1) (fH (h2 2 2)) (fH t2)) ?_))))
  refine br (fun i s=>s=[I (i:Int),I 0,I 0,.sl [],I 3,I 3,.sl (eW (fun i k=>ar (dD i k) T) (3*i))]) 3 0 (Nat.zero_le _) rfl (fun i hi s hJ=>?_) (fun s hJ=>?_)
  ·subst hJ
   left
   refine⟨_,?_,rfl⟩
   refine aa aj (aa ag (aX (by show(i:Int)<3;omega) ?_))
   refine cV (fun k s=>s=[I (k:Int),I 0,I 0,.sl [],I 3,I 3,.sl (eW (fun i k=>ar (dD i k) T) (3*i+k))]) 3 0 (Nat.zero_le _) rfl (fun k hk s hJ=>?_) (fun s hJ=>?_)
   ·subst hJ
    left
    refine⟨_,?_,rfl⟩
    refine aa aj (aa ag (aX (by show(k:Int)<3;omega) ?_))
    refine aa (cU hi) (aa (cU hk) (aa (show D.get (dC fun a b=>ar (dD a b) T) [i,k]=_ from zW hi hk _) (aa (Lu (n+1027) (fH (h2 i k))) ?_)))
    have fin:∀ {v:Int},In v->jU (fun i k=>ar (dD i k) T) (3*i+k)=Rat.divInt v 120->(Option.bind (some (0,[I 0,I 0,.sl [],I 3,I 3,.sl (eW (fun i k=>ar (dD i k) T) (3*i+k)),ah v])) fun(r111:Nat×List D)=>
      Option.bind (cA (n+1030) 54 [(D.int .i64 120)]) fun r112=>
      Option.bind (cA (n+1030) 62 [(gx r111.2 6),r112]) fun r113=>
      if List.length (D.els (gx r111.2 5))+List.length [r113]<=1073741824 then(Option.bind (D.bin .add (I (k:Int)) (D.int .i64 1)) fun x114=>
      some (Sum.inl (β:=Nat×List D) [x114,(gx r111.2 0),(gx r111.2 1),(D.sl (D.els (gx r111.2 2))),(gx r111.2 3),(gx r111.2 4),(D.sl ((D.els (gx r111.2 5))++[r113]))])) else none)=some (.inl [I ((k+1:Nat):Int),I 0,I 0,.sl [],I 3,I 3,.sl (eW (fun i k=>ar (dD i k) T) (3*i+(k+1)))]):=fun{v} hv he=>by
     have i120:In 120:=ir (jX 120)
     refine aa (z:=_) rfl (aa (C2 (n+1028) (jX 120)) (aa (M7 n hv i120 (by decide)) ?_))
     have hlen:List.length (D.els (.sl (eW (fun i k=>ar (dD i k) T) (3*i+k))))+List.length [fB (Rat.divInt v 120)]<=1073741824:=by
      show(eW (fun i k=>ar (dD i k) T) (3*i+k)).length+1<=_
      rw[qY];omega
     refine(if_pos hlen).trans (aa (aZ (a:=k) (b:=1) (by omega)) ?_)
     rw[show 3*i+(k+1)=3*i+k+1 by omega,xF,he]
     rfl
    obtain⟨d1,d2⟩:=HB (i:=i) hk
    by_cases e:i=k
    ·subst e
     refine(congrArg (fun z=>Option.bind z _) (aa (z:=true) (show D.truth (D.bool (D.beq (I (i:Int)) (I (i:Int))))=some true by rw[eK,decide_eq_true rfl];rfl) (BF ?c))).trans (fin (fH (tt i)) ?e)
     case c=>exact aa (u7 (n+1026) (fH (tn i i)) (fH t2) (fH (tt i))) rfl
     case e=>
      unfold jU
      rw[d1,d2,if_pos rfl]
    ·refine(congrArg (fun z=>Option.bind z _) (aa (z:=false) (show D.truth (D.bool (D.beq (I (i:Int)) (I (k:Int))))=some false by rw[eK,decide_eq_false e];rfl) (by rw[if_neg (by decide)];rfl))).trans (fin (fH (tn i k)) ?_)
     unfold jU
     rw[d1,d2,if_neg e]
   ·subst hJ
    refine⟨_,aa aj (aa ag (ba (by decide) rfl)),?_⟩
    exact aa (aZ (a:=i) (b:=1) (by omega)) rfl
  ·subst hJ
   refine⟨_,aa aj (aa ag (ba (by decide) rfl)),?_⟩
   rfl
end Go.Proofs.YtjjjkojfijpeeaaGreat.Sy
end
section
set_option linter.unusedVariables false
namespace Go.Proofs.YtjjjkojfijpeeaaGreat.Sy
open Go Go.Proofs Go.Proofs.YtjjjkojfijpeeaaGreat.Geo
theorem Dt{m k:Nat}(h:m<=2^k)(hk:k<=511):m<eI:=by
 have:In (m:Int):=gr hk (by rw[Int.natAbs_natCast];exact h)
 have:=bC.1 this
 rwa [Int.natAbs_natCast] at this
theorem yD{a b k:Nat}(ha:a<=2^k)(hb:b<=2^k):a+b<=2^(k+1):=by rw[Nat.pow_succ];omega
def HX(q:Rat)(a k:Nat):Prop:=q.num.natAbs<=2^a/\q.den<=2^k
theorem qI{x d:Int}{a k:Nat}(hx:x.natAbs<=2^a)(hd:d.natAbs<=2^k)(h0:d≠0):HX (Rat.divInt x d) a k:=by
 obtain⟨h1,h2⟩:=BK x h0
 exact⟨Nat.le_trans h1 hx,Nat.le_trans h2 hd⟩
theorem HX.inR{q:Rat}{a k:Nat}(h:HX q a k)(ha:a<=511:=by decide)(hk:k<=511:=by decide):JF q:=
 ⟨gr ha h.1,gr hk (by rw[Int.natAbs_natCast];exact h.2)⟩
theorem HX.fitA{x y:Rat}{a k b m:Nat}(hx:HX x a k)(hy:HX y b m)(h1:a+m<=510:=by decide)(h2:b+k<=510:=by decide)(h3:k+m<=511:=by decide):fitA x y:=by
 refine⟨?_,Dt (dK hx.2 hy.2 (Nat.le_refl _)) h3⟩
 have e1:=dK hx.1 hy.2 h1
 have e2:=dK hy.1 hx.2 h2
 exact Dt (k:=510+1) (yD e1 e2) (by decide)
theorem Hu{A B K:Int}(hK:K≠0):Rat.divInt A K+Rat.divInt B K=Rat.divInt (A+B) K:=by
 rw[Rat.divInt_add_divInt _ _ hK hK,<-Int.add_mul,Rat.divInt_mul_right hK]
def IF(t:T3):D:=.st [.st [aq t.1,aq t.2.1,aq t.2.2],ah (lv t)]
def GR(T:List T3):List D:=T.map IF
theorem uc.take{T:List T3}{N:Nat}(h:uc T N)(i:Nat):uc (T.take i) N:=
 ⟨Nat.le_trans (by rw[List.length_take];omega) h.1,fun t ht=>h.2 t (List.mem_of_mem_take ht)⟩
section
variable{l:List V}{T:List T3}(hT:uc T 268435456)(h58:∀ m,cA (m+9) 58 [dq l]=some (.sl (GR T)))
include hT h58
end
end Go.Proofs.YtjjjkojfijpeeaaGreat.Sy
end
section
set_option linter.unusedVariables false
namespace Go.Proofs.YtjjjkojfijpeeaaGreat.Sy
open Go Go.Proofs Go.Proofs.YtjjjkojfijpeeaaGreat.Geo
end Go.Proofs.YtjjjkojfijpeeaaGreat.Sy
end
section
set_option linter.unusedVariables false
namespace Go.Proofs.YtjjjkojfijpeeaaGreat.Sy
open Go Go.Proofs Go.Proofs.YtjjjkojfijpeeaaGreat.Geo
theorem zL(q:Rat):D.beq (fB q) (fB q)=true:=by
 unfold fB
 show(D.beq (ah q.num) (ah q.num)&&(D.beq (ah q.den) (ah q.den)&&true))=true
 rw[zI,zI];rfl
section
variable{l:List V}{T:List T3}(hT:uc T 268435456)(h58:∀ m,cA (m+9) 58 [dq l]=some (.sl (GR T)))
include hT h58
end
end Go.Proofs.YtjjjkojfijpeeaaGreat.Sy
end
section
set_option linter.unusedVariables false
namespace Go.Proofs.YtjjjkojfijpeeaaGreat.Sy
open Go Go.Proofs Go.Proofs.YtjjjkojfijpeeaaGreat.Geo
theorem Kq(n:Nat){a b k:Int}{p q:Nat}(ha:a.natAbs<=2^p)(hb:b.natAbs<=2^p)(hk:k.natAbs<=2^q)(k0:k≠0)(h1:p+q<=510:=by decide)(h2:q+q<=511:=by decide) :
  cA (n+6) 40 [fB (Rat.divInt a k),fB (Rat.divInt b k)]=some (fB (Rat.divInt (a+b) k)):=by
 have f1:=qI ha hk k0
 have f2:=qI hb hk k0
 rw[Pn n (f1.inR (by omega) (by omega)) (f2.inR (by omega) (by omega)) (f1.fitA f2 h1 h1 h2),Hu k0]
theorem Hf{k:Nat}(h:k<3)(f:Nat->Rat):D.get (pj f) [k]=some (fB (f k)):=by rcases Hq h with rfl|rfl|rfl<;>rfl
end Go.Proofs.YtjjjkojfijpeeaaGreat.Sy
end
section
set_option linter.unusedVariables false
namespace Go.Proofs.YtjjjkojfijpeeaaGreat.Sy
open Go Go.Proofs Go.Proofs.YtjjjkojfijpeeaaGreat.Geo
theorem O6(n:Nat)(a0:D):cA (n+1) 44 [a0]=oJ bo (cA n) [a0]:=by kernel_rfl
theorem Pk(n:Nat)(p q:V):cA (n+3) 94 [aq p,aq q]=some (I (mH [bD p.x q.x,bD p.y q.y,bD p.z q.z])):=by
 rw[NF]
 unfold JC
 simp only[xe,xd,xt,Option.bind_some,HW,IZ,Le (n+1) [bD p.x q.x,bD p.y q.y,bD p.z q.z] (by simp)]
theorem zs(n:Nat)(p q:V):ns (bZ bo (cA (n+3)) (eP bo (cA (n+3)))) 94 (aq p) (aq q)=some (mH [bD p.x q.x,bD p.y q.y,bD p.z q.z]):=by
 unfold ns
 rw[show(bZ bo (cA (n+3)) (eP bo (cA (n+3)))).call=cA (n+3) from rfl,Pk]
 rfl
theorem GK(n:Nat):∀ (L:List V),L.Pairwise aB->iY (bZ bo (cA (n+3)) (eP bo (cA (n+3)))) 94 (L.map aq)=true
 | [],_=>rfl
 | p::L,h=>by
  obtain⟨h1,h2⟩:=List.pairwise_cons.1 h
  simp only[List.map_cons,iY,Bool.and_eq_true,List.all_eq_true,List.mem_map]
  refine⟨⟨?_,?_⟩,GK n L h2⟩
  ·simp only[zw,zs,ul];decide
  ·rintro _ ⟨q,hq,rfl⟩
   simp only[j6,zw,zs,uY (h1 q hq),vq (h1 q hq)];decide
theorem H9(n:Nat)(p q:V):j6 (bZ bo (cA (n+3)) (eP bo (cA (n+3)))) 94 (aq p) (aq q)=decide (aB p q):=by
 simp only[j6,zs]
 by_cases h:aB p q
 ·rw[uY h,decide_eq_true h];decide
 ·rw[decide_eq_false h]
  by_cases e:p=q
  ·subst e;rw[ul];decide
  ·rw[vq ((lr e).resolve_left h)];decide
def se(x:V):List V->List V
 | []=>[x]
 | y::l=>if aB x y then x::y::l else y::se x l
def sortV:List V->List V
 | []=>[]
 | x::l=>se x (sortV l)
def Cy(x:V):List V->List V
 | []=>[]
 | y::l=>if y=x then Cy y l else y::Cy y l
def It:List V->List V
 | []=>[]
 | x::l=>x::Cy x l
theorem DB(n:Nat)(x:V):∀ l:List V,vh (j6 (bZ bo (cA (n+3)) (eP bo (cA (n+3)))) 94) (aq x) (l.map aq)=(se x l).map aq
 | []=>rfl
 | y::l=>by
  simp only[List.map_cons,vh,se,H9]
  by_cases h:aB x y
  ·rw[if_pos (decide_eq_true h),if_pos h];rfl
  ·rw[if_neg (by simpa using h),if_neg h,DB n x l];rfl
theorem zz(n:Nat):∀ l:List V,gm (j6 (bZ bo (cA (n+3)) (eP bo (cA (n+3)))) 94) (l.map aq)=(sortV l).map aq
 | []=>rfl
 | x::l=>by simp only[List.map_cons,gm,sortV,zz n l,DB]
theorem Ms(a b:V):D.beq (aq a) (aq b)=decide (a=b):=by
 simp only[aq,D.beq,D.beqs,dN,Bool.and_true]
 cases a;cases b
 simp only[V.mk.injEq]
 grind
theorem qW(x:V):∀ l:List V,jM (aq x) (l.map aq)=(Cy x l).map aq
 | []=>rfl
 | y::l=>by
  simp only[List.map_cons,jM,Cy,Ms]
  by_cases h:y=x
  ·rw[if_pos (decide_eq_true h),if_pos h,qW y l]
  ·rw[if_neg (by simpa using h),if_neg h,qW y l];rfl
theorem wo:∀ l:List V,iU (l.map aq)=(It l).map aq
 | []=>rfl
 | x::l=>by simp only[List.map_cons,iU,It,qW]
theorem qc{x z:V}:∀ {l:List V},z∈se x l↔z=x\/z∈l
 | []=>by simp[se]
 | y::l=>by
  simp only[se]
  split
  ·simp
  ·simp only[List.mem_cons,qc (l:=l)];grind
theorem sY{z:V}:∀ {l:List V},z∈sortV l↔z∈l
 | []=>by simp[sortV]
 | x::l=>by simp only[sortV,qc,sY (l:=l),List.mem_cons]
theorem zN{x:V}:∀ {l:List V},l.Pairwise (fun a b=>¬ aB b a)->(se x l).Pairwise (fun a b=>¬ aB b a)
 | [],_=>by simp[se]
 | y::l,h=>by
  obtain⟨h1,h2⟩:=List.pairwise_cons.1 h
  simp only[se]
  split
  ·rename_i hxy
   refine List.pairwise_cons.2 ⟨fun z hz hlt=>?_,h⟩
   rcases List.mem_cons.1 hz with rfl|hz
   ·exact kU _ _ hxy hlt
   ·exact h1 z hz (iO hlt hxy)
  ·rename_i hxy
   refine List.pairwise_cons.2 ⟨fun z hz=>?_,zN h2⟩
   rcases qc.1 hz with rfl|hz
   ·exact hxy
   ·exact h1 z hz
theorem wm:∀ l:List V,(sortV l).Pairwise (fun a b=>¬ aB b a)
 | []=>.nil
 | x::l=>zN (wm l)
theorem AP{z:V}:∀ {l:List V} {x:V},z∈x::Cy x l↔z∈x::l
 | [],x=>by simp[Cy]
 | y::l,x=>by
  have ih:=AP (z:=z) (l:=l) (x:=y)
  simp only[Cy]
  split
  ·rename_i h
   subst h
   simp only[List.mem_cons] at ih ⊢;grind
  ·simp only[List.mem_cons] at ih ⊢;grind
theorem FX{z:V}:∀ {l:List V},z∈It l↔z∈l
 | []=>by simp[It]
 | x::l=>AP
theorem zK:∀ {l:List V} {x:V},(x::l).Pairwise (fun a b=>¬ aB b a)->(x::Cy x l).Pairwise aB
 | [],x,_=>by simp[Cy]
 | y::l,x,h=>by
  obtain⟨h1,h2⟩:=List.pairwise_cons.1 h
  have ih:=zK h2
  simp only[Cy]
  split
  ·rename_i e
   subst e
   exact ih
  ·rename_i hne
   refine List.pairwise_cons.2 ⟨fun z hz=>?_,ih⟩
   have hxy:aB x y:=(lr (fun e=>hne e.symm)).resolve_right (h1 y List.mem_cons_self)
   rcases List.mem_cons.1 hz with rfl|hz'
   ·exact hxy
   ·exact iO hxy ((List.pairwise_cons.1 ih).1 z hz')
theorem sJ(l:List V):It (sortV l)=mq l:=by
 refine kF (r:=aB) ff kU ?_ (mQ l) fun z=>?_
 ·have:=wm l
  cases h:sortV l with
  | nil=>exact .nil
  | cons x m=>rw[h] at this;exact zK this
 ·rw[FX,sY,rV]
theorem O4(n:Nat)(l:List V)(hlen:l.length<=1073741824):cA (n+4) 44 [cT l]=some (cT (mq l)):=by
 rw[O6]
 show(if decide ((l.map aq).length<=1073741824) then _ else none)=_
 rw[if_pos (decide_eq_true (by rw[List.length_map];exact hlen))]
 unfold qa
 rw[zz,wo,sJ,GK n _ (mQ l),if_pos rfl,Option.bind_some,wo,sJ]
 rfl
end Go.Proofs.YtjjjkojfijpeeaaGreat.Sy
end
section
set_option linter.unusedVariables false
namespace Go.Proofs.YtjjjkojfijpeeaaGreat.Sy
open Go Go.Proofs Go.Proofs.YtjjjkojfijpeeaaGreat.Geo
def IN(e:Int):D:=.tup [.st [.sl []],I e]
theorem Lh{p:V}{α:Type}{k:Nat×List D->Option α}{y:α}(hy:k (if bd MV p then(1,[.sl []]) else(0,[I 1,.sl []]))=some y) :
  Option.bind (bo (fun(v11:List D)=>
 Option.bind (D.bin .lss (gx v11 0) (D.int .i64 3)) fun x12=>
 Option.bind (D.truth x12) fun b13=>
 if b13 then(Option.bind (D.idx (gx v11 0) 3) fun i14=>
 Option.bind (D.fld (aq p) i14) fun x15=>
 Option.bind (D.bin .gtr x15 (D.int .i64 262144)) fun x16=>
 Option.bind (D.truth x16) fun b17=>
 Option.bind (if b17 then(some true) else(Option.bind (D.bin .lss x15 (D.int .i64 (-262144))) fun x18=>
 D.truth x18)) fun b19=>
 Option.bind (D.truth (D.bool b19)) fun b20=>
 if b20 then(some (Sum.inr (0,[(D.int .i64 1),(D.sl [])]))) else(Option.bind (D.bin .add (gx v11 0) (D.int .i64 1)) fun x21=>
 some (Sum.inl [x21,(D.sl (D.els (gx v11 1)))]))) else(some (Sum.inr (1,[(D.sl (D.els (gx v11 1)))])))) [(D.int .i64 0),.sl []]) k=some y:=by
 refine cV (fun t s=>s=[I (t:Int),.sl []]/\∀ t',t'<t->¬ (nj p t'>262144)/\¬ (nj p t' < -262144)) 3 0 (by decide) ⟨rfl,fun t' h=>by omega⟩ (fun t ht s hJ=>?_) (fun s hJ=>?_)
 ·obtain⟨rfl,hz⟩:=hJ
  have hf:=Cu p ht
  have ix:D.idx (I (t:Int)) 3=some t:=aK ht
  have pre:∀ z,(if decide (nj p t>262144\/nj p t < -262144)=true then(some (Sum.inr (0,[(D.int .i64 1),(D.sl [])]))) else(Option.bind (D.bin .add (I (t:Int)) (D.int .i64 1)) fun x21=>some (Sum.inl [x21,.sl []])))=some z->_:=fun(z:Sum (List D) (Nat×List D)) hz'=>
   aa (g:=fun x12=>Option.bind (D.truth x12) fun b13=>if b13 then(Option.bind (D.idx (I (t:Int)) 3) fun i14=>Option.bind (D.fld (aq p) i14) fun x15=>Option.bind (D.bin .gtr x15 (D.int .i64 262144)) fun x16=>Option.bind (D.truth x16) fun b17=>
    Option.bind (if b17 then(some true) else(Option.bind (D.bin .lss x15 (D.int .i64 (-262144))) fun x18=>D.truth x18)) fun b19=>
    Option.bind (D.truth (D.bool b19)) fun b20=>
    if b20 then(some (Sum.inr (0,[(D.int .i64 1),(D.sl [])]))) else(Option.bind (D.bin .add (I (t:Int)) (D.int .i64 1)) fun x21=>some (Sum.inl [x21,.sl []]))) else(some (Sum.inr (1,[.sl []]))))
    (aj (a:=(t:Int)) (b:=3)) (y:=z) (aa ag (aX (by omega) (aa ix (aa hf (aa fK (aa ag (aa (z:=decide (nj p t>262144\/nj p t < -262144)) (by
     by_cases h1:nj p t>262144
     ·refine aX h1 ?_
      rw[decide_eq_true (.inl h1)]
     ·refine ba h1 (aa aj ?_)
      rw[ag];congr 1;rw[decide_eq_decide];exact⟨.inr,fun h=>h.resolve_left h1⟩) (aa ag hz'))))))))
  by_cases hb:nj p t>262144\/nj p t < -262144
  ·right
   refine⟨_,pre _ (aX hb rfl),?_⟩
   rw[if_neg (fun h=>by have:=zS.1 h t ht;omega)] at hy
   exact hy
  ·left
   refine⟨[I ((t+1:Nat):Int),.sl []],pre _ (ba hb (aa (aH (aS (i:=t) (by omega))) rfl)),rfl,fun t' ht'=>?_⟩
   by_cases e:t'=t
   ·subst e;omega
   ·exact hz t' (by omega)
 ·obtain⟨rfl,hz⟩:=hJ
  refine⟨(1,[.sl []]),aa aj (aa ag (ba (by decide) rfl)),?_⟩
  rw[if_pos (zS.2 hz)] at hy
  exact hy
end Go.Proofs.YtjjjkojfijpeeaaGreat.Sy
end
section
set_option linter.unusedVariables false
namespace Go.Proofs.YtjjjkojfijpeeaaGreat.Sy
open Go Go.Proofs Go.Proofs.YtjjjkojfijpeeaaGreat.Geo
def oR(g:Nat->Bool)(N:Nat):List D:=(List.range N).map fun i=>D.bool (g i)
theorem kE(g:Nat->Bool)(N:Nat):(oR g N).length=N:=by simp[oR]
theorem pO{g:Nat->Bool}{N i:Nat}(h:i<N):(oR g N)[i]?=some (.bool (g i)):=by simp[oR,h]
theorem Fl{g:Nat->Bool}{N a:Nat}:(oR g N).set a (.bool true)=oR (fun i=>g i||decide (a=i)) N:=by
 apply List.ext_getElem?
 intro i
 rw[List.getElem?_set]
 rcases Nat.lt_or_ge i N with h|h
 ·rw[pO h,pO h,kE]
  by_cases e:a=i
  ·subst e;rw[if_pos rfl,if_pos h];simp
  ·rw[if_neg e];simp[e]
 ·rw[List.getElem?_eq_none (by rw[kE];exact h),List.getElem?_eq_none (by rw[kE];exact h)]
  split
  ·rw[if_neg (by rw[kE];omega)]
  ·rfl
theorem nT{g g':Nat->Bool}{N:Nat}(h:∀ i,g i=g' i):oR g N=oR g' N:=by rw[show g=g' from funext h]
theorem DQ(N:Nat):oR (fun _=>false) N=List.replicate N (D.bool false):=by
 unfold oR
 apply List.ext_getElem?
 intro i
 rcases Nat.lt_or_ge i N with h|h
 ·simp[h]
 ·simp[h]
def Aj(S:List V)(F:FL):D:=if F.length<4 then IN 120 else if F.length>64 then IN 2 else .tup [.st [cT (gA S F S.length)],I 0]
theorem C4(n:Nat){l S:List V}(hlen:l.length<=64)(hl:∀ x∈l,bd MV x)(hSl:S.length<=64){F:FL}(hpl:∀ f∈F,f.2.length<=1000000/\∀ x∈f.2,x<S.length)(hFl:F.length<=3000000)(h44:cA n 44 [cT l]=some (cT S))
  (h45:cA n 45 [cT S]=some (.sl (F.map fun f=>bw f.1))) (h46:∀ f∈F,cA n 46 [cT S,bw f.1]=some (.sl (ab f.2))):cA (n+1) 11 [cT l]=some (Aj S F):=by
 rw[KU]
 unfold Jd
 have ll:(F.map fun f=>bw f.1).length=F.length:=List.length_map ..
 refine aa (z:=l.map aq) rfl (aa fK (aa ag (ba (by show ¬ ((l.map aq).length:Int)>64;rw[eH];omega) (aa (z:=l.map aq) rfl ?_))))
 refine br (fun i s=>s=[I (i:Int),.sl []]) l.length 0 (Nat.zero_le _) rfl (fun i hi s hJ=>?_) (fun s hJ=>?_)
 ·subst hJ
  left
  refine⟨[I ((i+1:Nat):Int),.sl []],?_,rfl⟩
  refine aa aj (aa ag (aX (by show((i:Int)<((l.map aq).length:Int));rw[eH];omega) (aa (z:=l.map aq) rfl (aa (z:=i) (by rw[eH];exact aK hi) (aa (lF hi) (Lh ?_))))))
  have hx:bd MV (l.getD i V.zero):=hl _ (ie hi)
  rw[if_pos hx,if_neg (show ¬ (1:Nat)=0 by decide)]
  exact aa (aH (aS (i:=i) (by omega))) rfl
 ·subst hJ
  refine⟨(1,[.sl []]),aa aj (aa ag (ba (by show ¬ ((l.length:Int)<((l.map aq).length:Int));rw[eH];omega) rfl)),?_⟩
  rw[if_neg (show ¬ (1:Nat)=0 by decide)]
  refine aa h44 (aa h45 (aa (z:=F.map fun f=>bw f.1) rfl (aa aj (aa ag ?_))))
  unfold Aj
  by_cases h4:F.length<4
  ·refine aX (by rw[ll];omega) ?_
   rw[if_pos h4];rfl
  refine ba (by rw[ll];omega) (aa (z:=F.map fun f=>bw f.1) rfl (aa fK (aa ag ?_)))
  rw[if_neg h4]
  by_cases h64:F.length>64
  ·refine aX (by rw[ll];omega) ?_
   rw[if_pos h64];rfl
  refine ba (by rw[ll];omega) (aa (z:=S.map aq) rfl (aa (z:=S.length) (by rw[eH];simp[D.natOf]) ?_))
  rw[if_neg h64,if_pos (by omega)]
  refine aa (z:=F.map fun f=>bw f.1) rfl ?_
  refine cV (fun k s=>s=[I (k:Int),.sl [],.sl (oR (gf (F.take k)) S.length)]) F.length 0 (Nat.zero_le _) ?_ (fun k hk s hJ=>?_) (fun s hJ=>?_)
  ·rw[show oR (gf (F.take 0)) S.length=List.replicate S.length (D.bool false) from DQ S.length];rfl
  ·subst hJ
   left
   refine⟨[I ((k+1:Nat):Int),.sl [],.sl (oR (gf (F.take (k+1))) S.length)],?_,rfl⟩
   obtain⟨hp1,hp2⟩:=hpl F[k] (List.getElem_mem hk)
   have e1:∀ i,gf (F.take (k+1)) i=(gf (F.take k) i||F[k].2.any fun x=>decide (x=i)):=fun i=>by
    unfold gf;rw[List.take_succ_eq_append_getElem hk,List.any_append];simp
   refine aa aj (aa ag (aX (by show((k:Int)<((F.map fun f=>bw f.1).length:Int));rw[ll];omega) ?_))
   have hg:(F.map fun f=>bw f.1)[k]?=some (bw F[k].1):=by simp[hk]
   refine aa (z:=F.map fun f=>bw f.1) rfl (aa (z:=k) (by rw[ll];exact aK hk) (aa hg (aa (h46 F[k] (List.getElem_mem hk)) (aa (z:=ab F[k].2) rfl ?_))))
   rw[nT e1]
   generalize gf (F.take k)=g0
   obtain⟨p,hp⟩:∃ p,F[k].2=p:=⟨_,rfl⟩
   rw[hp] at hp1 hp2 ⊢
   refine cV (fun j s=>s=[I (j:Int),.sl [],.sl (oR (fun i=>g0 i||(p.take j).any fun x=>decide (x=i)) S.length)]) p.length 0 (Nat.zero_le _) (by rw[show oR (fun i=>g0 i||(p.take 0).any fun x=>decide (x=i)) S.length=oR g0 S.length from nT fun i=>by simp];rfl) (fun j hj s hJ=>?_) (fun s hJ=>?_)
   ·subst hJ
    left
    refine⟨[I ((j+1:Nat):Int),.sl [],.sl (oR (fun i=>g0 i||(p.take (j+1)).any fun x=>decide (x=i)) S.length)],?_,rfl⟩
    have hpj:=hp2 p[j] (List.getElem_mem hj)
    have hD:p.getD j 0=p[j]:=by simp[List.getD,hj]
    refine aa aj (aa ag (aX (by show((j:Int)<((ab p).length:Int));rw[ae];omega) (aa (z:=ab p) rfl (aa (z:=j) (by rw[ae];exact aK hj) (aa (ib hj) ?_)))))
    rw[hD]
    refine aa (z:=p[j]) (by show D.idx (I (p[j]:Int)) (oR _ S.length).length=_;rw[kE];exact aK hpj) (aa (pO hpj) (aa (aH (aS (i:=j) (by omega))) ?_))
    have:(oR (fun i=>g0 i||(p.take j).any fun x=>decide (x=i)) S.length).set p[j] (D.bool true)=oR (fun i=>g0 i||(p.take (j+1)).any fun x=>decide (x=i)) S.length:=by
     rw[Fl]
     refine nT fun i=>?_
     rw[List.take_succ_eq_append_getElem hj,List.any_append]
     simp[Bool.or_assoc]
    rw[<-this];rfl
   ·subst hJ
    rw[List.take_length]
    refine⟨(0,[.sl [],.sl (oR (fun i=>g0 i||p.any fun x=>decide (x=i)) S.length)]),aa aj (aa ag (ba (by show ¬ ((p.length:Int)<((ab p).length:Int));rw[ae];omega) rfl)),?_⟩
    exact aa (aH (aS (i:=k) (by omega))) rfl
  ·subst hJ
   rw[List.take_length]
   refine⟨(0,[.sl [],.sl (oR (gf F) S.length)]),aa aj (aa ag (ba (by show ¬ ((F.length:Int)<((F.map fun f=>bw f.1).length:Int));rw[ll];omega) rfl)),?_⟩
   refine aa (z:=S.map aq) rfl ?_
   refine cV (fun i s=>s=[I (i:Int),.sl [],.sl (oR (gf F) S.length),cT (gA S F i)]) S.length 0 (Nat.zero_le _) rfl (fun i hi s hJ=>?_) (fun s hJ=>?_)
   ·subst hJ
    left
    refine⟨[I ((i+1:Nat):Int),.sl [],.sl (oR (gf F) S.length),cT (gA S F (i+1))],?_,rfl⟩
    have hvl:=Bn S F i
    refine aa aj (aa ag (aX (by show((i:Int)<((S.map aq).length:Int));rw[eH];omega) ?_))
    refine aa (z:=(0,[.sl [],.sl (oR (gf F) S.length),cT (gA S F (i+1))])) ?_ (aa (aH (aS (i:=i) (by omega))) rfl)
    refine aa (z:=S.map aq) rfl (aa (z:=i) (by rw[eH];exact aK hi) (aa (lF hi) (aa (z:=i) (by show D.idx (I (i:Int)) (oR _ S.length).length=_;rw[kE];exact aK hi) (aa (pO hi) (aa ag ?_)))))
    rw[zn]
    cases gf F i
    ·rfl
    ·rw[if_pos rfl,if_pos rfl]
     rw[if_pos (by show((gA S F i).map aq).length+1<=1073741824;rw[eH];omega)]
     have:D.sl ((gA S F i).map aq++[aq (S.getD i V.zero)])=cT (gA S F i++[pt S i]):=by simp[cT,pt]
     rw[<-this];rfl
   ·subst hJ
    refine⟨(0,[.sl [],cT (gA S F S.length)]),?_,rfl⟩
    exact aa aj (aa ag (ba (by show ¬ ((S.length:Int)<((S.map aq).length:Int));rw[eH];omega) rfl))
end Go.Proofs.YtjjjkojfijpeeaaGreat.Sy
end
section
set_option linter.unusedVariables false
namespace Go.Proofs.YtjjjkojfijpeeaaGreat.Sy
open Go Go.Proofs Go.Proofs.YtjjjkojfijpeeaaGreat.Geo
end Go.Proofs.YtjjjkojfijpeeaaGreat.Sy
end
section
set_option linter.unusedVariables false
namespace Go.Proofs.YtjjjkojfijpeeaaGreat.Sy
open Go Go.Proofs Go.Proofs.YtjjjkojfijpeeaaGreat.Geo
theorem A8{S:List V}(hS:HI S){F:FL}(hK:KnF S S.length 0 0 F){k:Nat}:gf F k=true↔Cb (pt S) S.length k:=by
 constructor
 ·intro h
  obtain⟨f,hf,h2⟩:=List.any_eq_true.1 h
  obtain⟨x,hx,hxk⟩:=List.any_eq_true.1 h2
  have hxk:x=k:=by simpa using hxk
  subst hxk
  obtain⟨q1,q2⟩:=hK.fok.ok f hf
  obtain⟨p,p1,_,p3⟩:=q1.poly hS
  rw[<-aN.eq hS q1 q2 p1] at p3
  obtain⟨r1,r2⟩:=(p3 x).1 hx
  exact⟨_,_,q1,r1,r2⟩
 ·rintro⟨m,d,hF,h1,h2⟩
  have hq:(m,d)∈F.map Prod.fst:=(hK.facets.mem (m,d)).2 hF
  obtain⟨f,hf,hfe⟩:=List.mem_map.1 hq
  obtain⟨q1,q2⟩:=hK.fok.ok f hf
  rw[hfe] at q1 q2
  obtain⟨p,p1,_,p3⟩:=q1.poly hS
  rw[<-aN.eq hS q1 q2 p1] at p3
  exact List.any_eq_true.2 ⟨f,hf,List.any_eq_true.2 ⟨k,(p3 k).2 ⟨h1,h2⟩,by simp⟩⟩
theorem HS(S:List V):((List.range S.length).map (pt S))=S:=by
 apply List.ext_getElem?
 intro i
 by_cases h:i<S.length
 ·rw[List.getElem?_map,List.getElem?_range h];simp[pt,List.getD,h]
 ·rw[List.getElem?_map,show(List.range S.length)[i]?=none by simp;omega];simp;omega
end Go.Proofs.YtjjjkojfijpeeaaGreat.Sy
end
section
set_option linter.unusedVariables false
namespace Go.Proofs.YtjjjkojfijpeeaaGreat.Sy
open Go Go.Proofs Go.Proofs.YtjjjkojfijpeeaaGreat.Geo
theorem Hb{l:List V}{L:List (V×Int)}{poly:V×Int->List Nat}(hL:Facets (pt l) l.length L)(hP:∀ q∈L,aN (pt l) l.length q.1 q.2 (poly q)):KnF l l.length 0 0 (L.map fun q=>(q,poly q)):=by
 have e:(L.map fun q=>(q,poly q)).map Prod.fst=L:=by rw[List.map_map];exact List.map_id L
 refine⟨⟨by rw[List.pairwise_map];exact hL.ord,fun f hf=>?_⟩,fun i j k h1 h2 h3 _ h4 m h5 h6=>?_⟩
 ·obtain⟨q,hq,rfl⟩:=List.mem_map.1 hf
  exact⟨(hL.mem q).1 hq,hP q hq⟩
 ·rw[e]
  exact(hL.mem _).2 ⟨⟨i,j,k,h1,h2,h3,h4,h5,rfl⟩,h6⟩
theorem Hz(n:Nat){l:List V}(h64:l.length<=64)(hb:∀ x∈l,bd MV x):∃ F:FL,KnF (mq l) (mq l).length 0 0 F/\cA (n+9) 11 [cT l]=some (Aj (mq l) F):=by
 have hsl:=Cg l
 have hS:=HG (mQ l)
 have hSb:=EZ hb
 obtain⟨L0,poly,hL0,hP0,hL0l,_⟩:=Iy 0 hSb (by omega) hS
 have hK:=Hb hL0 hP0
 refine⟨_,hK,?_⟩
 obtain⟨F,hF⟩:∃ F:FL,F=L0.map fun q=>(q,poly q):=⟨_,rfl⟩
 rw[<-hF] at hK ⊢
 have hFk:=hK.fok
 have hpl:∀ f∈F,f.2.length<=1000000/\∀ x∈f.2,x<(mq l).length:=fun f hf=>by
  obtain⟨q1,q2⟩:=hFk.ok f hf
  have:=rm hS q1 q2
  exact⟨by omega,this.2.2.2⟩
 have hFl:=Nat.le_trans (hFk.len (by omega)) (show 2000000<=3000000 by decide)
 obtain⟨y,h45,K,L,k1,k2,k3,rfl⟩:=Nr (n+2) hSb (by omega)
 have eL:F.map Prod.fst=L:=Facets.eq hK.facets (k1.facets k2 k3)
 have h45':cA (n+8) 45 [cT (mq l)]=some (.sl (F.map fun f=>bw f.1)):=by rw[h45,<-eL,List.map_map];rfl
 exact C4 (n+8) (by omega) hb (by omega) hpl hFl (O4 (n+4) l (by omega)) h45' (fun f hf=>by
  obtain⟨q1,q2⟩:=hFk.ok f hf
  obtain⟨p,p1,p2⟩:=Nn (n+3) hSb (by omega) hS q1 (Cm hSb q1)
  rw[aN.eq hS q1 q2 p1]
  exact p2)
theorem I7{l:List V}(hl:∀ x∈l,bd MV x)(hlen:l.length<=64)(hs:HI l):∃ (L:List (V×Int)) (poly:V×Int->List Nat),Facets (pt l) l.length L/\(∀ q∈L,aN (pt l) l.length q.1 q.2 (poly q)) ∧
  FIn l (L.map fun q=>(q,poly q))/\∀ m,cA (m+8) 18 [dq l]=some (.sl (er (L.map fun q=>(q,poly q)))):=by
 obtain⟨L,poly,hL,hP,hLl,_⟩:=Iy 0 hl (show l.length<=100 by omega) hs
 refine⟨L,poly,hL,hP,⟨by rw[List.length_map];exact hLl,fun f hf=>?_⟩,fun m=>?_⟩
 ·obtain⟨q,hq,rfl⟩:=List.mem_map.1 hf
  have h3:=qz hs hL hP hq
  have hp:=rm hs ((hL.mem q).1 hq) (hP q hq)
  refine⟨h3,by show(poly q).length<=100;omega,fun j hj=>hp.2.2.2 _ ?_⟩
  simp only[List.getD_eq_getElem?_getD,List.getElem?_eq_getElem hj]
  exact List.getElem_mem hj
 ·obtain⟨L',poly',hL',hP',_,h18⟩:=Iy (m+1) hl (show l.length<=100 by omega) hs
  have e':L=L':=Facets.eq hL hL'
  subst e'
  rw[h18]
  unfold er
  rw[List.map_map]
  congr 2
  refine List.map_congr_left fun q hq=>?_
  have:poly' q=poly q:=aN.eq hs ((hL.mem q).1 hq) (hP' q hq) (hP q hq)
  simp only[Function.comp_apply,this]
end Go.Proofs.YtjjjkojfijpeeaaGreat.Sy
end
section
namespace Go.Proofs.YtjjjkojfijpeeaaGreat.Geo
open V
section
variable{P P':Nat->V}{N N':Nat}(hl:∀ i j,i<j->j<N->aB (P i) (P j))(hl':∀ i j,i<j->j<N'->aB (P' i) (P' j))
 (hsub:∀ k,k<N'->∃ j,j<N/\P j=P' k) (hsup:∀ k,Cb P N k->∃ j,j<N'/\P' j=P k)
include hl hl' hsub hsup
end
def jY{α:Type}(g:α->Int):List α->Int
 | []=>0
 | e::S=>g e+jY g S
theorem BV{α:Type}(g:α->Int){S S':List α}(h:S.Perm S'):jY g S=jY g S':=by
 induction h with
 | nil=>rfl
 | cons x _ ih=>simp only[jY,ih]
 | swap x y l=>simp only[jY];omega
 | trans _ _ h1 h2=>exact h1.trans h2
theorem yW{α:Type}{f g:α->Int}{S:List α}(h:∀ e∈S,f e=g e):jY f S=jY g S:=by
 induction S with
 | nil=>rfl
 | cons t T ih=>simp only[jY,h t List.mem_cons_self,ih fun x hx=>h x (List.mem_cons_of_mem _ hx)]
theorem BG(g:T3->Int)(P:Nat->V)(L:List (V×Int))(poly:V×Int->List Nat):ar g (da P L poly)=jY (fun q=>ar g (ji P (poly q) ((poly q).length-2))) L:=by
 induction L with
 | nil=>rfl
 | cons q L ih=>simp only[jY,<-ih];unfold da;rw[List.flatMap_cons,kw]
def part(P:Nat->V)(p:List Nat)(z:V):Int:=ar (fun t=>lv (shift (V.neg z) t)) (ji P p (p.length-2))
section
variable{P Q:Nat->V}{N M:Nat}(hl:∀ i j,i<j->j<N->aB (P i) (P j))(hl':∀ i j,i<j->j<M->aB (Q i) (Q j))
include hl hl'
variable(hsub:∀ k,k<N->∃ j,j<M/\Q j=P k)
include hsub
end
section
variable{P P':Nat->V}{N N':Nat}(hl:∀ i j,i<j->j<N->aB (P i) (P j))(hl':∀ i j,i<j->j<N'->aB (P' i) (P' j))
 (hsub:∀ k,k<N'->∃ j,j<N/\P j=P' k) (hsup:∀ k,Cb P N k->∃ j,j<N'/\P' j=P k)
include hl hl' hsub hsup
end
end Go.Proofs.YtjjjkojfijpeeaaGreat.Geo
end
section
namespace Go.Proofs.YtjjjkojfijpeeaaGreat.Geo
open V
theorem pG(n u v w:V):T n u (add v w)=T n u v+T n u w:=by simp only[T,dot,cross,add];grind
theorem pz(n u v w:V):T n (add u v) w=T n u w+T n v w:=by simp only[T,dot,cross,add];grind
theorem pA(n u v:V):T n (neg u) v=- T n u v:=by simp only[T,dot,cross,neg];grind
theorem pw(n u v:V):T n u (neg v)=- T n u v:=by simp only[T,dot,cross,neg];grind
theorem uF(n u:V):T n u u=0:=by simp only[T,dot,cross];grind
theorem vr(n u:V):T n u zero=0:=by simp only[T,dot,cross,zero];grind
theorem lg(u v w:V):dot (add u v) w=dot u w+dot v w:=by simp only[dot,add];grind
theorem kD(u v w:V):dot w (add u v)=dot w u+dot w v:=by simp only[dot,add];grind
theorem kP(u w:V):dot (neg u) w=- dot u w:=by simp only[dot,neg];grind
theorem kK(u w:V):dot w (neg u)=- dot w u:=by simp only[dot,neg];grind
theorem mV(w:V):dot zero w=0:=by simp[dot,zero]
section
variable{P:Nat->V}{N:Nat}
theorem gK{n:V}{d:Int}{a b c e:Nat}{u v:V}(hon:aJ P N n d=[a,b,c,e]\/aJ P N n d=[a,b,e,c]\/aJ P N n d=[a,c,b,e]\/aJ P N n d=[a,c,e,b]\/aJ P N n d=[a,e,b,c]\/aJ P N n d=[a,e,c,b])
  (hne:b≠a/\c≠b/\e≠c/\a≠e/\c≠a) (wb:P b=add (P a) u) (wc:P c=add (P a) (add u v)) (we:P e=add (P a) v) (hT:0<T n u v) (huv:dot u v=0):aN P N n d [a,b,c,e]:=by
 have hmem:∀ x,x∈aJ P N n d↔x=a\/x=b\/x=c\/x=e:=fun x=>by
  rcases hon with h|h|h|h|h|h<;>rw[h]<;>simp only[List.mem_cons,List.not_mem_nil,or_false]<;>grind
 have hh:(aJ P N n d).head?=some a:=by rcases hon with h|h|h|h|h|h<;>rw[h]<;>rfl
 have huv':dot v u=0:=by rw[AY];exact huv
 have hu:=iG u;have hv:=iG v
 have e1:wy P a b=u:=by apply V.ext'<;>simp only[wy,sub,wb,add]<;>omega
 have e2:wy P a c=add u v:=by apply V.ext'<;>simp only[wy,sub,wc,add]<;>omega
 have e3:wy P a e=v:=by apply V.ext'<;>simp only[wy,sub,we,add]<;>omega
 have e4:wy P b a=neg u:=by apply V.ext'<;>simp only[wy,sub,wb,add,neg]<;>omega
 have e5:wy P b c=v:=by apply V.ext'<;>simp only[wy,sub,wb,wc,add]<;>omega
 have e6:wy P b e=add (neg u) v:=by apply V.ext'<;>simp only[wy,sub,wb,we,add,neg]<;>omega
 have e7:wy P c a=add (neg u) (neg v):=by apply V.ext'<;>simp only[wy,sub,wc,add,neg]<;>omega
 have e8:wy P c b=neg v:=by apply V.ext'<;>simp only[wy,sub,wc,wb,add,neg]<;>omega
 have e9:wy P c e=neg u:=by apply V.ext'<;>simp only[wy,sub,wc,we,add,neg]<;>omega
 have f1:wy P e a=neg v:=by apply V.ext'<;>simp only[wy,sub,we,add,neg]<;>omega
 have f2:wy P e b=add u (neg v):=by apply V.ext'<;>simp only[wy,sub,we,wb,add,neg]<;>omega
 have f3:wy P e c=u:=by apply V.ext'<;>simp only[wy,sub,we,wc,add]<;>omega
 have tv:T n v u=- T n u v:=wE u v
 have s1:Side n P (aJ P N n d) a b:=⟨(hmem b).2 (by simp),hne.1,fun x hx=>by
  rcases(hmem x).1 hx with rfl|rfl|rfl|rfl<;>simp only[e1,e2,e3,nE,vr,uF,pG,pz,pA,pw,lg,kD,kP,kK,mV,ku,huv,huv',tv]<;>omega⟩
 have s2:Side n P (aJ P N n d) b c:=⟨(hmem c).2 (by simp),hne.2.1,fun x hx=>by
  rcases(hmem x).1 hx with rfl|rfl|rfl|rfl<;>simp only[e4,e5,e6,nE,vr,uF,pG,pz,pA,pw,lg,kD,kP,kK,mV,ku,huv,huv',tv]<;>omega⟩
 have s3:Side n P (aJ P N n d) c e:=⟨(hmem e).2 (by simp),hne.2.2.1,fun x hx=>by
  rcases(hmem x).1 hx with rfl|rfl|rfl|rfl<;>simp only[e7,e8,e9,nE,vr,uF,pG,pz,pA,pw,lg,kD,kP,kK,mV,ku,huv,huv',tv]<;>omega⟩
 have s4:Side n P (aJ P N n d) e a:=⟨(hmem a).2 (by simp),hne.2.2.2.1,fun x hx=>by
  rcases(hmem x).1 hx with rfl|rfl|rfl|rfl<;>simp only[f1,f2,f3,nE,vr,uF,pG,pz,pA,pw,lg,kD,kP,kK,mV,ku,huv,huv',tv]<;>omega⟩
 exact⟨a,hh,.step s1 hne.1 (.step s2 hne.2.2.2.2 (.step s3 (Ne.symm hne.2.2.2.1) (.done s4)))⟩
end
def kl(at_ s:V)(k:Nat):V:=⟨at_.x+(k/4%2:Nat)*s.x,at_.y+(k/2%2:Nat)*s.y,at_.z+(k%2:Nat)*s.z⟩
def gZ(at_ s:V):List ((V×Int)×List Nat):=
 [((⟨-1,0,0⟩,-at_.x),[0,1,3,2]),((⟨0,-1,0⟩,-at_.y),[0,4,5,1]),((⟨0,0,-1⟩,-at_.z),[0,2,6,4]),
 ((⟨0,0,1⟩,at_.z+s.z),[1,5,7,3]),((⟨0,1,0⟩,at_.y+s.y),[2,3,7,6]),((⟨1,0,0⟩,at_.x+s.x),[4,6,7,5])]
section
variable{P:Nat->V}{at_ s:V}(hP:∀ k,k<8->P k=kl at_ s k)(h1:0<s.x)(h2:0<s.y)(h3:0<s.z)
include hP
theorem uD:P 0=at_/\P 1=⟨at_.x,at_.y,at_.z+s.z⟩/\P 2=⟨at_.x,at_.y+s.y,at_.z⟩/\P 3=⟨at_.x,at_.y+s.y,at_.z+s.z⟩ ∧
  P 4=⟨at_.x+s.x,at_.y,at_.z⟩/\P 5=⟨at_.x+s.x,at_.y,at_.z+s.z⟩/\P 6=⟨at_.x+s.x,at_.y+s.y,at_.z⟩/\P 7=⟨at_.x+s.x,at_.y+s.y,at_.z+s.z⟩:=by
 refine⟨?_,?_,?_,?_,?_,?_,?_,?_⟩<;>rw[hP _ (by decide)]<;>apply V.ext'<;>simp[kl]
include h1 h2 h3
theorem kH:∀ i j,i<j->j<8->aB (P i) (P j):=fun i j hij hj=>by
 obtain⟨p0,p1,p2,p3,p4,p5,p6,p7⟩:=uD hP
 have c:(i=0\/i=1\/i=2\/i=3\/i=4\/i=5\/i=6)/\(j=1\/j=2\/j=3\/j=4\/j=5\/j=6\/j=7):=by omega
 obtain⟨ci,cj⟩:=c
 rcases ci with rfl|rfl|rfl|rfl|rfl|rfl|rfl<;>rcases cj with rfl|rfl|rfl|rfl|rfl|rfl|rfl<;>first|omega|(simp only[p0,p1,p2,p3,p4,p5,p6,p7,aB,true_and];omega)
theorem kZ{e:V}(he:bT e=1){p q r:Nat}(hp:p<8)(hq:q<8)(hr:r<8)(n1:p≠q)(n2:p≠r)(n3:q≠r){c:Int}(hc:0<c)(ht:eZ P p q r=smul c e)(hle:∀ x,x<8->dot e (wy P p x)<=0)(hlt:∃ x,x<8/\dot e (wy P p x)<0):IsF P 8 e (dot e (P p)):=by
 have _:=h1;have _:=h2;have _:=h3;have _:=hP
 obtain⟨n',g,hg,hm,hF⟩:=yi hp hq hr n1 n2 n3 rfl (fun x hx=>by
  rw[ht,kb];exact Int.mul_nonpos_of_nonneg_of_nonpos (Int.le_of_lt hc) (hle x hx)) (by
  obtain⟨x,hx,h⟩:=hlt
  exact⟨x,hx,by rw[ht,kb];exact Int.mul_neg_of_pos_of_neg hc h⟩)
 rw[ht] at hm
 have:=rO he hF.nz.2 hc hg hm
 rw[this];exact hF
theorem jJ:∀ q∈gZ at_ s,IsF P 8 q.1.1 q.1.2/\aN P 8 q.1.1 q.1.2 q.2:=by
 obtain⟨p0,p1,p2,p3,p4,p5,p6,p7⟩:=uD hP
 have yz:=Int.mul_pos h2 h3;have xz:=Int.mul_pos h1 h3;have xy:=Int.mul_pos h1 h2
 have all:∀ {Q:Nat->Prop},Q 0->Q 1->Q 2->Q 3->Q 4->Q 5->Q 6->Q 7->∀ x,x<8->Q x:=fun{Q} a0 a1 a2 a3 a4 a5 a6 a7 x hx=>by
  have:x=0\/x=1\/x=2\/x=3\/x=4\/x=5\/x=6\/x=7:=by omega
  rcases this with rfl|rfl|rfl|rfl|rfl|rfl|rfl|rfl<;>assumption
 have rng:List.range 8=[0,1,2,3,4,5,6,7]:=rfl
 intro q hq
 simp only[gZ,List.mem_cons,List.not_mem_nil,or_false] at hq
 rcases hq with rfl|rfl|rfl|rfl|rfl|rfl
 ·have hF:=kZ hP h1 h2 h3 (e:=⟨-1,0,0⟩) (by decide) (p:=0) (q:=1) (r:=2) (by decide) (by decide) (by decide) (by decide) (by decide) (by decide) yz
   (by simp only[eZ,wy,p0,p1,p2,sub,cross,smul];apply V.ext'<;>grind) (by apply all<;>simp only[wy,p0,p1,p2,p3,p4,p5,p6,p7,sub,dot]<;>omega) ⟨4,by decide,by simp only[wy,p0,p4,sub,dot];omega⟩
  rw[show dot ⟨-1,0,0⟩ (P 0)=-at_.x by rw[p0];simp only[dot];omega] at hF
  have g0:decide (dot ⟨-1,0,0⟩ (P 0)=-at_.x)=true:=decide_eq_true (by rw[p0];simp only[dot];omega)
  have g1:decide (dot ⟨-1,0,0⟩ (P 1)=-at_.x)=true:=decide_eq_true (by rw[p1];simp only[dot];omega)
  have g2:decide (dot ⟨-1,0,0⟩ (P 2)=-at_.x)=true:=decide_eq_true (by rw[p2];simp only[dot];omega)
  have g3:decide (dot ⟨-1,0,0⟩ (P 3)=-at_.x)=true:=decide_eq_true (by rw[p3];simp only[dot];omega)
  have g4:decide (dot ⟨-1,0,0⟩ (P 4)=-at_.x)=false:=decide_eq_false (by rw[p4];simp only[dot];omega)
  have g5:decide (dot ⟨-1,0,0⟩ (P 5)=-at_.x)=false:=decide_eq_false (by rw[p5];simp only[dot];omega)
  have g6:decide (dot ⟨-1,0,0⟩ (P 6)=-at_.x)=false:=decide_eq_false (by rw[p6];simp only[dot];omega)
  have g7:decide (dot ⟨-1,0,0⟩ (P 7)=-at_.x)=false:=decide_eq_false (by rw[p7];simp only[dot];omega)
  have hon:aJ P 8 ⟨-1,0,0⟩ (-at_.x)=[0,1,2,3]:=by
   unfold aJ;rw[rng];simp only[List.filter_cons,g0,g1,g2,g3,g4,g5,g6,g7,if_true,List.filter_nil];rfl
  exact⟨hF,gK (u:=⟨0,0,s.z⟩) (v:=⟨0,s.y,0⟩) (Or.inr (Or.inl hon)) (by decide) (by rw[p0,p1];apply V.ext'<;>simp only[add]<;>omega) (by rw[p0,p3];apply V.ext'<;>simp only[add]<;>omega) (by rw[p0,p2];apply V.ext'<;>simp only[add]<;>omega) (by simp only[T,dot,cross];grind) (by simp only[dot];grind)⟩
 ·have hF:=kZ hP h1 h2 h3 (e:=⟨0,-1,0⟩) (by decide) (p:=0) (q:=4) (r:=1) (by decide) (by decide) (by decide) (by decide) (by decide) (by decide) xz
   (by simp only[eZ,wy,p0,p4,p1,sub,cross,smul];apply V.ext'<;>grind) (by apply all<;>simp only[wy,p0,p1,p2,p3,p4,p5,p6,p7,sub,dot]<;>omega) ⟨2,by decide,by simp only[wy,p0,p2,sub,dot];omega⟩
  rw[show dot ⟨0,-1,0⟩ (P 0)=-at_.y by rw[p0];simp only[dot];omega] at hF
  have g0:decide (dot ⟨0,-1,0⟩ (P 0)=-at_.y)=true:=decide_eq_true (by rw[p0];simp only[dot];omega)
  have g1:decide (dot ⟨0,-1,0⟩ (P 1)=-at_.y)=true:=decide_eq_true (by rw[p1];simp only[dot];omega)
  have g2:decide (dot ⟨0,-1,0⟩ (P 2)=-at_.y)=false:=decide_eq_false (by rw[p2];simp only[dot];omega)
  have g3:decide (dot ⟨0,-1,0⟩ (P 3)=-at_.y)=false:=decide_eq_false (by rw[p3];simp only[dot];omega)
  have g4:decide (dot ⟨0,-1,0⟩ (P 4)=-at_.y)=true:=decide_eq_true (by rw[p4];simp only[dot];omega)
  have g5:decide (dot ⟨0,-1,0⟩ (P 5)=-at_.y)=true:=decide_eq_true (by rw[p5];simp only[dot];omega)
  have g6:decide (dot ⟨0,-1,0⟩ (P 6)=-at_.y)=false:=decide_eq_false (by rw[p6];simp only[dot];omega)
  have g7:decide (dot ⟨0,-1,0⟩ (P 7)=-at_.y)=false:=decide_eq_false (by rw[p7];simp only[dot];omega)
  have hon:aJ P 8 ⟨0,-1,0⟩ (-at_.y)=[0,1,4,5]:=by
   unfold aJ;rw[rng];simp only[List.filter_cons,g0,g1,g2,g3,g4,g5,g6,g7,if_true,List.filter_nil];rfl
  exact⟨hF,gK (u:=⟨s.x,0,0⟩) (v:=⟨0,0,s.z⟩) (Or.inr (Or.inr (Or.inr (Or.inr (Or.inl hon))))) (by decide) (by rw[p0,p4];apply V.ext'<;>simp only[add]<;>omega) (by rw[p0,p5];apply V.ext'<;>simp only[add]<;>omega) (by rw[p0,p1];apply V.ext'<;>simp only[add]<;>omega) (by simp only[T,dot,cross];grind) (by simp only[dot];grind)⟩
 ·have hF:=kZ hP h1 h2 h3 (e:=⟨0,0,-1⟩) (by decide) (p:=0) (q:=2) (r:=4) (by decide) (by decide) (by decide) (by decide) (by decide) (by decide) xy
   (by simp only[eZ,wy,p0,p2,p4,sub,cross,smul];apply V.ext'<;>grind) (by apply all<;>simp only[wy,p0,p1,p2,p3,p4,p5,p6,p7,sub,dot]<;>omega) ⟨1,by decide,by simp only[wy,p0,p1,sub,dot];omega⟩
  rw[show dot ⟨0,0,-1⟩ (P 0)=-at_.z by rw[p0];simp only[dot];omega] at hF
  have g0:decide (dot ⟨0,0,-1⟩ (P 0)=-at_.z)=true:=decide_eq_true (by rw[p0];simp only[dot];omega)
  have g1:decide (dot ⟨0,0,-1⟩ (P 1)=-at_.z)=false:=decide_eq_false (by rw[p1];simp only[dot];omega)
  have g2:decide (dot ⟨0,0,-1⟩ (P 2)=-at_.z)=true:=decide_eq_true (by rw[p2];simp only[dot];omega)
  have g3:decide (dot ⟨0,0,-1⟩ (P 3)=-at_.z)=false:=decide_eq_false (by rw[p3];simp only[dot];omega)
  have g4:decide (dot ⟨0,0,-1⟩ (P 4)=-at_.z)=true:=decide_eq_true (by rw[p4];simp only[dot];omega)
  have g5:decide (dot ⟨0,0,-1⟩ (P 5)=-at_.z)=false:=decide_eq_false (by rw[p5];simp only[dot];omega)
  have g6:decide (dot ⟨0,0,-1⟩ (P 6)=-at_.z)=true:=decide_eq_true (by rw[p6];simp only[dot];omega)
  have g7:decide (dot ⟨0,0,-1⟩ (P 7)=-at_.z)=false:=decide_eq_false (by rw[p7];simp only[dot];omega)
  have hon:aJ P 8 ⟨0,0,-1⟩ (-at_.z)=[0,2,4,6]:=by
   unfold aJ;rw[rng];simp only[List.filter_cons,g0,g1,g2,g3,g4,g5,g6,g7,if_true,List.filter_nil];rfl
  exact⟨hF,gK (u:=⟨0,s.y,0⟩) (v:=⟨s.x,0,0⟩) (Or.inr (Or.inl hon)) (by decide) (by rw[p0,p2];apply V.ext'<;>simp only[add]<;>omega) (by rw[p0,p6];apply V.ext'<;>simp only[add]<;>omega) (by rw[p0,p4];apply V.ext'<;>simp only[add]<;>omega) (by simp only[T,dot,cross];grind) (by simp only[dot];grind)⟩
 ·have hF:=kZ hP h1 h2 h3 (e:=⟨0,0,1⟩) (by decide) (p:=1) (q:=5) (r:=3) (by decide) (by decide) (by decide) (by decide) (by decide) (by decide) xy
   (by simp only[eZ,wy,p1,p5,p3,sub,cross,smul];apply V.ext'<;>grind) (by apply all<;>simp only[wy,p0,p1,p2,p3,p4,p5,p6,p7,sub,dot]<;>omega) ⟨0,by decide,by simp only[wy,p1,p0,sub,dot];omega⟩
  rw[show dot ⟨0,0,1⟩ (P 1)=at_.z+s.z by rw[p1];simp only[dot];omega] at hF
  have g0:decide (dot ⟨0,0,1⟩ (P 0)=at_.z+s.z)=false:=decide_eq_false (by rw[p0];simp only[dot];omega)
  have g1:decide (dot ⟨0,0,1⟩ (P 1)=at_.z+s.z)=true:=decide_eq_true (by rw[p1];simp only[dot];omega)
  have g2:decide (dot ⟨0,0,1⟩ (P 2)=at_.z+s.z)=false:=decide_eq_false (by rw[p2];simp only[dot];omega)
  have g3:decide (dot ⟨0,0,1⟩ (P 3)=at_.z+s.z)=true:=decide_eq_true (by rw[p3];simp only[dot];omega)
  have g4:decide (dot ⟨0,0,1⟩ (P 4)=at_.z+s.z)=false:=decide_eq_false (by rw[p4];simp only[dot];omega)
  have g5:decide (dot ⟨0,0,1⟩ (P 5)=at_.z+s.z)=true:=decide_eq_true (by rw[p5];simp only[dot];omega)
  have g6:decide (dot ⟨0,0,1⟩ (P 6)=at_.z+s.z)=false:=decide_eq_false (by rw[p6];simp only[dot];omega)
  have g7:decide (dot ⟨0,0,1⟩ (P 7)=at_.z+s.z)=true:=decide_eq_true (by rw[p7];simp only[dot];omega)
  have hon:aJ P 8 ⟨0,0,1⟩ (at_.z+s.z)=[1,3,5,7]:=by
   unfold aJ;rw[rng];simp only[List.filter_cons,g0,g1,g2,g3,g4,g5,g6,g7,if_true,List.filter_nil];rfl
  exact⟨hF,gK (u:=⟨s.x,0,0⟩) (v:=⟨0,s.y,0⟩) (Or.inr (Or.inr (Or.inr (Or.inr (Or.inl hon))))) (by decide) (by rw[p1,p5];apply V.ext'<;>simp only[add]<;>omega) (by rw[p1,p7];apply V.ext'<;>simp only[add]<;>omega) (by rw[p1,p3];apply V.ext'<;>simp only[add]<;>omega) (by simp only[T,dot,cross];grind) (by simp only[dot];grind)⟩
 ·have hF:=kZ hP h1 h2 h3 (e:=⟨0,1,0⟩) (by decide) (p:=2) (q:=3) (r:=6) (by decide) (by decide) (by decide) (by decide) (by decide) (by decide) xz
   (by simp only[eZ,wy,p2,p3,p6,sub,cross,smul];apply V.ext'<;>grind) (by apply all<;>simp only[wy,p0,p1,p2,p3,p4,p5,p6,p7,sub,dot]<;>omega) ⟨0,by decide,by simp only[wy,p2,p0,sub,dot];omega⟩
  rw[show dot ⟨0,1,0⟩ (P 2)=at_.y+s.y by rw[p2];simp only[dot];omega] at hF
  have g0:decide (dot ⟨0,1,0⟩ (P 0)=at_.y+s.y)=false:=decide_eq_false (by rw[p0];simp only[dot];omega)
  have g1:decide (dot ⟨0,1,0⟩ (P 1)=at_.y+s.y)=false:=decide_eq_false (by rw[p1];simp only[dot];omega)
  have g2:decide (dot ⟨0,1,0⟩ (P 2)=at_.y+s.y)=true:=decide_eq_true (by rw[p2];simp only[dot];omega)
  have g3:decide (dot ⟨0,1,0⟩ (P 3)=at_.y+s.y)=true:=decide_eq_true (by rw[p3];simp only[dot];omega)
  have g4:decide (dot ⟨0,1,0⟩ (P 4)=at_.y+s.y)=false:=decide_eq_false (by rw[p4];simp only[dot];omega)
  have g5:decide (dot ⟨0,1,0⟩ (P 5)=at_.y+s.y)=false:=decide_eq_false (by rw[p5];simp only[dot];omega)
  have g6:decide (dot ⟨0,1,0⟩ (P 6)=at_.y+s.y)=true:=decide_eq_true (by rw[p6];simp only[dot];omega)
  have g7:decide (dot ⟨0,1,0⟩ (P 7)=at_.y+s.y)=true:=decide_eq_true (by rw[p7];simp only[dot];omega)
  have hon:aJ P 8 ⟨0,1,0⟩ (at_.y+s.y)=[2,3,6,7]:=by
   unfold aJ;rw[rng];simp only[List.filter_cons,g0,g1,g2,g3,g4,g5,g6,g7,if_true,List.filter_nil];rfl
  exact⟨hF,gK (u:=⟨0,0,s.z⟩) (v:=⟨s.x,0,0⟩) (Or.inr (Or.inl hon)) (by decide) (by rw[p2,p3];apply V.ext'<;>simp only[add]<;>omega) (by rw[p2,p7];apply V.ext'<;>simp only[add]<;>omega) (by rw[p2,p6];apply V.ext'<;>simp only[add]<;>omega) (by simp only[T,dot,cross];grind) (by simp only[dot];grind)⟩
 ·have hF:=kZ hP h1 h2 h3 (e:=⟨1,0,0⟩) (by decide) (p:=4) (q:=6) (r:=5) (by decide) (by decide) (by decide) (by decide) (by decide) (by decide) yz
   (by simp only[eZ,wy,p4,p6,p5,sub,cross,smul];apply V.ext'<;>grind) (by apply all<;>simp only[wy,p0,p1,p2,p3,p4,p5,p6,p7,sub,dot]<;>omega) ⟨0,by decide,by simp only[wy,p4,p0,sub,dot];omega⟩
  rw[show dot ⟨1,0,0⟩ (P 4)=at_.x+s.x by rw[p4];simp only[dot];omega] at hF
  have g0:decide (dot ⟨1,0,0⟩ (P 0)=at_.x+s.x)=false:=decide_eq_false (by rw[p0];simp only[dot];omega)
  have g1:decide (dot ⟨1,0,0⟩ (P 1)=at_.x+s.x)=false:=decide_eq_false (by rw[p1];simp only[dot];omega)
  have g2:decide (dot ⟨1,0,0⟩ (P 2)=at_.x+s.x)=false:=decide_eq_false (by rw[p2];simp only[dot];omega)
  have g3:decide (dot ⟨1,0,0⟩ (P 3)=at_.x+s.x)=false:=decide_eq_false (by rw[p3];simp only[dot];omega)
  have g4:decide (dot ⟨1,0,0⟩ (P 4)=at_.x+s.x)=true:=decide_eq_true (by rw[p4];simp only[dot];omega)
  have g5:decide (dot ⟨1,0,0⟩ (P 5)=at_.x+s.x)=true:=decide_eq_true (by rw[p5];simp only[dot];omega)
  have g6:decide (dot ⟨1,0,0⟩ (P 6)=at_.x+s.x)=true:=decide_eq_true (by rw[p6];simp only[dot];omega)
  have g7:decide (dot ⟨1,0,0⟩ (P 7)=at_.x+s.x)=true:=decide_eq_true (by rw[p7];simp only[dot];omega)
  have hon:aJ P 8 ⟨1,0,0⟩ (at_.x+s.x)=[4,5,6,7]:=by
   unfold aJ;rw[rng];simp only[List.filter_cons,g0,g1,g2,g3,g4,g5,g6,g7,if_true,List.filter_nil];rfl
  exact⟨hF,gK (u:=⟨0,s.y,0⟩) (v:=⟨0,0,s.z⟩) (Or.inr (Or.inr (Or.inr (Or.inr (Or.inl hon))))) (by decide) (by rw[p4,p6];apply V.ext'<;>simp only[add]<;>omega) (by rw[p4,p7];apply V.ext'<;>simp only[add]<;>omega) (by rw[p4,p5];apply V.ext'<;>simp only[add]<;>omega) (by simp only[T,dot,cross];grind) (by simp only[dot];grind)⟩
set_option maxHeartbeats 1000000 in
theorem CY{n:V}{d:Int}(hF:IsF P 8 n d):((n,d):V×Int)∈(gZ at_ s).map Prod.fst:=by
 obtain⟨p0,p1,p2,p3,p4,p5,p6,p7⟩:=uD hP
 obtain⟨i,j,k,hij,hjk,hk,mi,mj,mk,_⟩:=hF.three
 obtain⟨w,hw⟩:∃ w,w=n.x*at_.x+n.y*at_.y+n.z*at_.z:=⟨_,rfl⟩
 obtain⟨a,ha⟩:∃ a,a=n.x*s.x:=⟨_,rfl⟩
 obtain⟨b,hb⟩:∃ b,b=n.y*s.y:=⟨_,rfl⟩
 obtain⟨c,hc⟩:∃ c,c=n.z*s.z:=⟨_,rfl⟩
 have d0:dot n (P 0)=w:=by rw[p0];simp only[dot];grind
 have d1:dot n (P 1)=w+c:=by rw[p1];simp only[dot];grind
 have d2:dot n (P 2)=w+b:=by rw[p2];simp only[dot];grind
 have d3:dot n (P 3)=w+b+c:=by rw[p3];simp only[dot];grind
 have d4:dot n (P 4)=w+a:=by rw[p4];simp only[dot];grind
 have d5:dot n (P 5)=w+a+c:=by rw[p5];simp only[dot];grind
 have d6:dot n (P 6)=w+a+b:=by rw[p6];simp only[dot];grind
 have d7:dot n (P 7)=w+a+b+c:=by rw[p7];simp only[dot];grind
 have l0:=hF.supp.1 0 (by decide);have l1:=hF.supp.1 1 (by decide);have l2:=hF.supp.1 2 (by decide);have l3:=hF.supp.1 3 (by decide)
 have l4:=hF.supp.1 4 (by decide);have l5:=hF.supp.1 5 (by decide);have l6:=hF.supp.1 6 (by decide);have l7:=hF.supp.1 7 (by decide)
 rw[d0] at l0;rw[d1] at l1;rw[d2] at l2;rw[d3] at l3;rw[d4] at l4;rw[d5] at l5;rw[d6] at l6;rw[d7] at l7
 have bits:∀ x,x∈aJ P 8 n d->(0<a->x/4=1)/\(a<0->x/4=0)/\(0<b->x/2%2=1)/\(b<0->x/2%2=0)/\(0<c->x%2=1)/\(c<0->x%2=0) ∧
   ((b=0->c=0->0<a->d=w+a)/\(b=0->c=0->a<0->d=w)/\(a=0->c=0->0<b->d=w+b)/\(a=0->c=0->b<0->d=w)/\(a=0->b=0->0<c->d=w+c)/\(a=0->b=0->c<0->d=w)):=fun x hx=>by
  obtain⟨hx8,hxd⟩:=ap.1 hx
  have:x=0\/x=1\/x=2\/x=3\/x=4\/x=5\/x=6\/x=7:=by omega
  rcases this with rfl|rfl|rfl|rfl|rfl|rfl|rfl|rfl
  ·rw[d0] at hxd;clear d0 d1 d2 d3 d4 d5 d6 d7 mi mj mk ha hb hc hw p0 p1 p2 p3 p4 p5 p6 p7;(refine⟨?_,?_,?_,?_,?_,?_,?_,?_,?_,?_,?_,?_⟩<;>intros<;>omega)
  ·rw[d1] at hxd;clear d0 d1 d2 d3 d4 d5 d6 d7 mi mj mk ha hb hc hw p0 p1 p2 p3 p4 p5 p6 p7;(refine⟨?_,?_,?_,?_,?_,?_,?_,?_,?_,?_,?_,?_⟩<;>intros<;>omega)
  ·rw[d2] at hxd;clear d0 d1 d2 d3 d4 d5 d6 d7 mi mj mk ha hb hc hw p0 p1 p2 p3 p4 p5 p6 p7;(refine⟨?_,?_,?_,?_,?_,?_,?_,?_,?_,?_,?_,?_⟩<;>intros<;>omega)
  ·rw[d3] at hxd;clear d0 d1 d2 d3 d4 d5 d6 d7 mi mj mk ha hb hc hw p0 p1 p2 p3 p4 p5 p6 p7;(refine⟨?_,?_,?_,?_,?_,?_,?_,?_,?_,?_,?_,?_⟩<;>intros<;>omega)
  ·rw[d4] at hxd;clear d0 d1 d2 d3 d4 d5 d6 d7 mi mj mk ha hb hc hw p0 p1 p2 p3 p4 p5 p6 p7;(refine⟨?_,?_,?_,?_,?_,?_,?_,?_,?_,?_,?_,?_⟩<;>intros<;>omega)
  ·rw[d5] at hxd;clear d0 d1 d2 d3 d4 d5 d6 d7 mi mj mk ha hb hc hw p0 p1 p2 p3 p4 p5 p6 p7;(refine⟨?_,?_,?_,?_,?_,?_,?_,?_,?_,?_,?_,?_⟩<;>intros<;>omega)
  ·rw[d6] at hxd;clear d0 d1 d2 d3 d4 d5 d6 d7 mi mj mk ha hb hc hw p0 p1 p2 p3 p4 p5 p6 p7;(refine⟨?_,?_,?_,?_,?_,?_,?_,?_,?_,?_,?_,?_⟩<;>intros<;>omega)
  ·rw[d7] at hxd;clear d0 d1 d2 d3 d4 d5 d6 d7 mi mj mk ha hb hc hw p0 p1 p2 p3 p4 p5 p6 p7;(refine⟨?_,?_,?_,?_,?_,?_,?_,?_,?_,?_,?_,?_⟩<;>intros<;>omega)
 have bi:=bits i mi;have bj:=bits j mj;have bk:=bits k mk
 have hki:k<8:=hk
 have za:a=0↔n.x=0:=by rw[ha];constructor<;>intro h;{ rcases Int.mul_eq_zero.1 h with h|h;exact h;omega };{ rw[h,Int.zero_mul] }
 have zb:b=0↔n.y=0:=by rw[hb];constructor<;>intro h;{ rcases Int.mul_eq_zero.1 h with h|h;exact h;omega };{ rw[h,Int.zero_mul] }
 have zc:c=0↔n.z=0:=by rw[hc];constructor<;>intro h;{ rcases Int.mul_eq_zero.1 h with h|h;exact h;omega };{ rw[h,Int.zero_mul] }
 have ea:a≠0->i/4=j/4/\j/4=k/4:=fun h=>by
  rcases Int.lt_or_gt_of_ne h with h|h
  ·have:=bi.2.1 h;have:=bj.2.1 h;have:=bk.2.1 h;clear bi bj bk;omega
  ·have:=bi.1 h;have:=bj.1 h;have:=bk.1 h;clear bi bj bk;omega
 have eb:b≠0->i/2%2=j/2%2/\j/2%2=k/2%2:=fun h=>by
  rcases Int.lt_or_gt_of_ne h with h|h
  ·have:=bi.2.2.2.1 h;have:=bj.2.2.2.1 h;have:=bk.2.2.2.1 h;clear bi bj bk;omega
  ·have:=bi.2.2.1 h;have:=bj.2.2.1 h;have:=bk.2.2.1 h;clear bi bj bk;omega
 have ec:c≠0->i%2=j%2/\j%2=k%2:=fun h=>by
  rcases Int.lt_or_gt_of_ne h with h|h
  ·have:=bi.2.2.2.2.2.1 h;have:=bj.2.2.2.2.2.1 h;have:=bk.2.2.2.2.2.1 h;clear bi bj bk;omega
  ·have:=bi.2.2.2.2.1 h;have:=bj.2.2.2.2.1 h;have:=bk.2.2.2.2.1 h;clear bi bj bk;omega
 have nab:a=0\/b=0:=Classical.byContradiction fun h=>by
  have h:=not_or.1 h
  have h1:=ea h.1;have h2:=eb h.2
  clear bi bj bk ea eb ec l0 l1 l2 l3 l4 l5 l6 l7 d0 d1 d2 d3 d4 d5 d6 d7 ha hb hc hw;omega
 have nac:a=0\/c=0:=Classical.byContradiction fun h=>by
  have h:=not_or.1 h
  have h1:=ea h.1;have h2:=ec h.2
  clear bi bj bk ea eb ec l0 l1 l2 l3 l4 l5 l6 l7 d0 d1 d2 d3 d4 d5 d6 d7 ha hb hc hw;omega
 have nbc:b=0\/c=0:=Classical.byContradiction fun h=>by
  have h:=not_or.1 h
  have h1:=eb h.1;have h2:=ec h.2
  clear bi bj bk ea eb ec l0 l1 l2 l3 l4 l5 l6 l7 d0 d1 d2 d3 d4 d5 d6 d7 ha hb hc hw;omega
 have bd:=bi.2.2.2.2.2.2
 clear bi bj bk bits ea eb ec
 clear l0 l1 l2 l3 l4 l5 l6 l7 d0 d1 d2 d3 d4 d5 d6 d7 p0 p1 p2 p3 p4 p5 p6 p7
 obtain⟨hn0,hg⟩:=hF.nz
 obtain⟨nx,ny,nz⟩:=n
 simp only at *
 have pick:(ny=0/\nz=0/\nx≠0)\/(nx=0/\nz=0/\ny≠0)\/(nx=0/\ny=0/\nz≠0):=by
  by_cases x0:nx=0
  ·by_cases y0:ny=0
   ·by_cases z0:nz=0
    ·exact(hn0 (by rw[x0,y0,z0];rfl)).elim
    ·exact .inr (.inr ⟨x0,y0,z0⟩)
   ·exact .inr (.inl ⟨x0,zc.1 (nbc.resolve_left fun h=>y0 (zb.1 h)),y0⟩)
  ·exact .inl ⟨zb.1 (nab.resolve_left fun h=>x0 (za.1 h)),zc.1 (nac.resolve_left fun h=>x0 (za.1 h)),x0⟩
 obtain⟨b1,b2,b3,b4,b5,b6⟩:=bd
 clear nab nac nbc hki hij hjk hk hn0
 have one:∀ m:Int,bT ⟨m,0,0⟩=m.natAbs/\bT ⟨0,m,0⟩=m.natAbs/\bT ⟨0,0,m⟩=m.natAbs:=fun m=>by simp[bT]
 rcases pick with⟨rfl,rfl,x0⟩|⟨rfl,rfl,x0⟩|⟨rfl,rfl,x0⟩
 ·rw[(one nx).1] at hg
  have hb0:b=0:=by rw[hb,Int.zero_mul]
  have hc0:c=0:=by rw[hc,Int.zero_mul]
  have:nx=1\/nx=-1:=by clear b1 b2 b3 b4 b5 b6 za zb zc;omega
  rcases this with rfl|rfl
  ·have:d=at_.x+s.x:=by have:=b1 hb0 hc0 (by omega);clear b1 b2 b3 b4 b5 b6 za zb zc;omega
   subst this;simp[gZ]
  ·have:d=-at_.x:=by have:=b2 hb0 hc0 (by omega);clear b1 b2 b3 b4 b5 b6 za zb zc;omega
   subst this;simp[gZ]
 ·rw[(one ny).2.1] at hg
  have hb0:a=0:=by rw[ha,Int.zero_mul]
  have hc0:c=0:=by rw[hc,Int.zero_mul]
  have:ny=1\/ny=-1:=by clear b1 b2 b3 b4 b5 b6 za zb zc;omega
  rcases this with rfl|rfl
  ·have:d=at_.y+s.y:=by have:=b3 hb0 hc0 (by omega);clear b1 b2 b3 b4 b5 b6 za zb zc;omega
   subst this;simp[gZ]
  ·have:d=-at_.y:=by have:=b4 hb0 hc0 (by omega);clear b1 b2 b3 b4 b5 b6 za zb zc;omega
   subst this;simp[gZ]
 ·rw[(one nz).2.2] at hg
  have hb0:a=0:=by rw[ha,Int.zero_mul]
  have hc0:b=0:=by rw[hb,Int.zero_mul]
  have:nz=1\/nz=-1:=by clear b1 b2 b3 b4 b5 b6 za zb zc;omega
  rcases this with rfl|rfl
  ·have:d=at_.z+s.z:=by have:=b5 hb0 hc0 (by omega);clear b1 b2 b3 b4 b5 b6 za zb zc;omega
   subst this;simp[gZ]
  ·have:d=-at_.z:=by have:=b6 hb0 hc0 (by omega);clear b1 b2 b3 b4 b5 b6 za zb zc;omega
   subst this;simp[gZ]
end
end Go.Proofs.YtjjjkojfijpeeaaGreat.Geo
end
section
namespace Go.Proofs.YtjjjkojfijpeeaaGreat.Geo
open V
theorem pY{L:List (V×Int)}(h:L.Pairwise fun a b=>aB a.1 b.1):L.Nodup:=by
 refine List.Pairwise.imp ?_ h
 intro a b h e
 subst e;exact ff _ h
section
variable{P:Nat->V}{at_ s:V}(hP:∀ k,k<8->P k=kl at_ s k)(h1:0<s.x)(h2:0<s.y)(h3:0<s.z)
 {L:List (V×Int)} (hL:Facets P 8 L) {poly:V×Int->List Nat} (hp:∀ q∈L,aN P 8 q.1 q.2 (poly q))
include hP h1 h2 h3 hL
theorem xv:L.Perm ((gZ at_ s).map Prod.fst):=by
 refine(List.perm_ext_iff_of_nodup (pY hL.ord) ?_).2 fun q=>?_
 ·simp[gZ]
 ·rw[hL.mem q]
  constructor
  ·exact fun h=>CY hP h1 h2 h3 h
  ·intro h
   obtain⟨f,hf,rfl⟩:=List.mem_map.1 h
   exact(jJ hP h1 h2 h3 f hf).1
theorem Ga:L.length=6:=by rw[(xv hP h1 h2 h3 hL).length_eq];rfl
omit hL in
theorem Ej:∀ k,k<8->Cb P 8 k:=fun k hk=>by
 have f1:=jJ hP h1 h2 h3 ((⟨-1,0,0⟩,-at_.x),[0,1,3,2]) (by simp[gZ])
 have f2:=jJ hP h1 h2 h3 ((⟨1,0,0⟩,at_.x+s.x),[4,6,7,5]) (by simp[gZ])
 have hl:=kH hP h1 h2 h3
 obtain⟨p,p1,_,p3⟩:=f1.1.poly hl
 obtain⟨p',p1',_,p3'⟩:=f2.1.poly hl
 rw[<-aN.eq hl f1.1 f1.2 p1] at p3
 rw[<-aN.eq hl f2.1 f2.2 p1'] at p3'
 rcases Nat.lt_or_ge k 4 with c|c
 ·have m:k∈[0,1,3,2]:=by simp;omega
  obtain⟨r1,r2⟩:=(p3 k).1 m
  exact⟨_,_,f1.1,r1,r2⟩
 ·have m:k∈[4,6,7,5]:=by simp;omega
  obtain⟨r1,r2⟩:=(p3' k).1 m
  exact⟨_,_,f2.1,r1,r2⟩
include hp
theorem Gg(R:Nat->V)(g:T3->Int):ar g (da R L poly)=jY (fun f:(V×Int)×List Nat=>ar g (ji R f.2 (f.2.length-2))) (gZ at_ s):=by
 rw[BG,BV _ (xv hP h1 h2 h3 hL)]
 have hm:∀ f∈gZ at_ s,poly f.1=f.2:=fun f hf=>by
  have h:=jJ hP h1 h2 h3 f hf
  exact aN.eq (kH hP h1 h2 h3) h.1 (hp _ ((hL.mem _).2 h.1)) h.2
 generalize gZ at_ s=F at hm
 induction F with
 | nil=>rfl
 | cons f F ih=>
  simp only[List.map_cons,jY]
  rw[hm f List.mem_cons_self,ih fun x hx=>hm x (List.mem_cons_of_mem _ hx)]
theorem rn(g:T3->Int):ar g (da (fun k=>V.add (P k) (V.neg at_)) L poly)=jY (fun f:(V×Int)×List Nat=>ar g (ji (kl V.zero s) f.2 (f.2.length-2))) (gZ at_ s):=by
 rw[Gg hP h1 h2 h3 hL hp]
 have e:∀ k,k<8->V.add (P k) (V.neg at_)=kl V.zero s k:=fun k hk=>by
  rw[hP k hk];apply V.ext'<;>simp only[kl,V.add,V.neg,V.zero]<;>omega
 refine yW fun f hf=>?_
 congr 1
 unfold ji
 simp only[gZ,List.mem_cons,List.not_mem_nil,or_false] at hf
 rcases hf with rfl|rfl|rfl|rfl|rfl|rfl<;>simp[List.range_succ,e]
theorem uH:ar lv (da P L poly)=6*(s.x*s.y*s.z):=by
 rw[<-AW (kH hP h1 h2 h3) hL hp (V.neg at_),rn hP h1 h2 h3 hL hp]
 simp[gZ,jY,ar,ji,List.range_succ,kl,V.zero,lv,dot,cross]
 grind
theorem uG(i:Nat)(hi:i<3):ar (fV i) (da P L poly)=12*(s.x*s.y*s.z)*(2*cmp i at_+cmp i s):=by
 have h:=Bf (kH hP h1 h2 h3) hL hp i (V.neg at_)
 rw[uH hP h1 h2 h3 hL hp,rn hP h1 h2 h3 hL hp] at h
 have e:cmp i (V.neg at_)=- cmp i at_:=by unfold cmp V.neg;split;rfl;split<;>rfl
 rw[e] at h
 have h0:jY (fun f:(V×Int)×List Nat=>ar (fV i) (ji (kl V.zero s) f.2 (f.2.length-2))) (gZ at_ s)=12*(s.x*s.y*s.z)*cmp i s:=by
  have:i=0\/i=1\/i=2:=by omega
  rcases this with rfl|rfl|rfl<;>simp[gZ,jY,ar,ji,List.range_succ,kl,V.zero,fV,sm,cmp,lv,dot,cross]<;>grind
 rw[h0] at h
 grind
omit hP h1 h2 h3 hL hp in
theorem Ds(i k:Nat)(hi:i<3)(hk:k<3):jY (fun f:(V×Int)×List Nat=>ar (dD i k) (ji (kl V.zero s) f.2 (f.2.length-2))) (gZ at_ s)=if i=k then 40*(s.x*s.y*s.z)*(cmp i s*cmp i s) else 30*(s.x*s.y*s.z)*(cmp i s*cmp k s):=by
 have a:i=0\/i=1\/i=2:=by omega
 have b:k=0\/k=1\/k=2:=by omega
 rcases a with rfl|rfl|rfl<;>rcases b with rfl|rfl|rfl<;>simp[gZ,jY,ar,ji,List.range_succ,kl,V.zero,dD,Bb,sm,cmp,lv,dot,cross]<;>grind
theorem Fx(i k:Nat)(hi:i<3)(hk:k<3):ar (dD i k) (da P L poly)=if i=k then 40*((s.x*s.y*s.z)*(3*cmp i at_*cmp i at_+3*cmp i at_*cmp i s+cmp i s*cmp i s)) else 30*((s.x*s.y*s.z)*(2*cmp i at_+cmp i s)*(2*cmp k at_+cmp k s)):=by
 have h:=B7 (kH hP h1 h2 h3) hL hp i k (V.neg at_)
 rw[uH hP h1 h2 h3 hL hp,rn hP h1 h2 h3 hL hp,Ds i k hi hk,uG hP h1 h2 h3 hL hp i hi,uG hP h1 h2 h3 hL hp k hk] at h
 have e:∀ i,cmp i (V.neg at_)=- cmp i at_:=fun i=>by unfold cmp V.neg;split;rfl;split<;>rfl
 rw[e,e] at h
 split
 ·subst_vars;rw[if_pos rfl] at h;grind
 ·rw[if_neg (by assumption)] at h;grind
end
end Go.Proofs.YtjjjkojfijpeeaaGreat.Geo
end
section
set_option linter.unusedVariables false
namespace Go.Proofs.YtjjjkojfijpeeaaGreat.Sy
open Go Go.Proofs Go.Proofs.YtjjjkojfijpeeaaGreat.Geo
theorem vU{a b:Int}{m k:Nat}(ha:a.natAbs<=m)(hb:b.natAbs<=k):(a*b).natAbs<=m*k:=by rw[Int.natAbs_mul];exact Nat.mul_le_mul ha hb
theorem Nt{x y W:Int}(hx:x.natAbs<=99999)(hy:y.natAbs<=256)(hW:W.natAbs<=16777216) :
  inR (3*x)/\inR (3*x*x)/\inR (3*x*y)/\inR (3*x*x+3*x*y)/\inR (y*y)/\inR (3*x*x+3*x*y+y*y)/\inR (W*(3*x*x+3*x*y+y*y))/\(W*(3*x*x+3*x*y+y*y)).natAbs<=2^60:=by
 have h0:(3*x).natAbs<=299997:=by omega
 have h1:=vU h0 hx;have h2:=vU h0 hy;have h3:=vU hy hy
 have h4:(3*x*x+3*x*y+y*y).natAbs<=31000000000:=by omega
 have h5:=vU hW h4
 refine⟨by simp only[inR];omega,by simp only[inR];omega,by simp only[inR];omega,by simp only[inR];omega,by simp only[inR];omega,by simp only[inR];omega,by simp only[inR];omega,Nat.le_trans h5 (by decide)⟩
theorem NB{x y x' y' W:Int}(hx:x.natAbs<=99999)(hy:y.natAbs<=256)(hx':x'.natAbs<=99999)(hy':y'.natAbs<=256)(hW:W.natAbs<=16777216) :
  inR (2*x)/\inR (2*x+y)/\inR (2*x')/\inR (2*x'+y')/\inR (-W)/\inR (-W*(2*x+y))/\inR (-W*(2*x+y)*(2*x'+y')):=by
 have h1:(2*x+y).natAbs<=200254:=by omega
 have h2:(2*x'+y').natAbs<=200254:=by omega
 have hW':(-W).natAbs<=16777216:=by omega
 have h3:=vU hW' h1
 have h4:=vU h3 h2
 refine⟨by simp only[inR];omega,by simp only[inR];omega,by simp only[inR];omega,by simp only[inR];omega,by simp only[inR];omega,by simp only[inR];omega,by simp only[inR];omega⟩
def yf(s:V):D:=.st [.int .u8 s.x,.int .u8 s.y,.int .u8 s.z]
def sr(a s:V)(k:Nat):V:=⟨a.x+(k%2:Nat)*s.x,a.y+(k/2%2:Nat)*s.y,a.z+(k/4:Nat)*s.z⟩
def gl(a s:V):List V:=(List.range 8).map (kl a s)
theorem E2(a s:V){k:Nat}(hk:k<8):pt (gl a s) k=kl a s k:=by
 unfold pt gl
 simp[hk]
theorem mN:∀ k,k<8->(k%2*4+k/2%2*2+k/4)/4%2=k%2/\(k%2*4+k/2%2*2+k/4)/2%2=k/2%2/\(k%2*4+k/2%2*2+k/4)%2=k/4/\k%2*4+k/2%2*2+k/4<8 ∧
  (k%2*4+k/2%2*2+k/4)%2*4+(k%2*4+k/2%2*2+k/4)/2%2*2+(k%2*4+k/2%2*2+k/4)/4=k:=by decide
theorem Af(a s x:V):x∈(List.range 8).map (sr a s)↔x∈gl a s:=by
 have e:∀ k,k<8->sr a s k=kl a s (k%2*4+k/2%2*2+k/4):=fun k hk=>by
  unfold sr kl
  obtain⟨h1,h2,h3,_⟩:=mN k hk
  rw[h1,h2,h3]
 unfold gl
 simp only[List.mem_map,List.mem_range]
 constructor
 ·rintro⟨k,hk,rfl⟩
  exact⟨_,(mN k hk).2.2.2.1,(e k hk).symm⟩
 ·rintro⟨k,hk,rfl⟩
  refine⟨k%2*4+k/2%2*2+k/4,(mN k hk).2.2.2.1,?_⟩
  rw[e _ (mN k hk).2.2.2.1,(mN k hk).2.2.2.2]
theorem nk{A K m:Int}(hm:m≠0)(hK:K≠0):Rat.divInt (m*A) (m*K)=Rat.divInt A K:=by
 rw[Int.mul_comm m A,Int.mul_comm m K,Rat.divInt_mul_right hm]
theorem Kw{call:Nat->List D->Option D}(n:Nat)(a0 s0:V)(hs0:(0<=s0.x/\s0.x<=255)/\(0<=s0.y/\s0.y<=255)/\0<=s0.z/\s0.z<=255)(hc:∀ f xs,f≠10->call f xs=cA (n+1031) f xs)(h10:call 10 []=some (.bool true)):F9 bo call (aq a0) (yf s0)=some (.bool true):=by
 unfold F9
 have tm:∀ x:Int,(x.tmod 100000).natAbs<=99999:=fun x=>by
  have:=Int.natAbs_tmod x 100000
  rw[this]
  have:=Nat.mod_lt x.natAbs (show 0<(100000:Int).natAbs by decide)
  have e:(100000:Int).natAbs=100000:=rfl
  omega
 have cv:∀ x:Int,(0<=x/\x<=255)->D.conv .i64 (.int .u8 x)=some (I x):=fun x h=>by
  simp only[D.conv,iE (show inR x by simp only[inR];omega)]
 refine aa (z:=I a0.x) rfl (aa (lK (b:=100000) (by decide)) (aa (z:=I a0.y) rfl (aa (lK (b:=100000) (by decide)) (aa (z:=I a0.z) rfl (aa (lK (b:=100000) (by decide)) ?_)))))
 refine aa (z:=.int .u8 s0.x) rfl (aa (cv _ hs0.1) (aa (aH (a:=1) (by simp only[inR];omega)) (aa (z:=.int .u8 s0.y) rfl (aa (cv _ hs0.2.1) (aa (aH (a:=1) (by simp only[inR];omega)) (aa (z:=.int .u8 s0.z) rfl (aa (cv _ hs0.2.2) (aa (aH (a:=1) (by simp only[inR];omega)) ?_))))))))
 obtain⟨a,ha⟩:∃ a:V,a=⟨a0.x.tmod 100000,a0.y.tmod 100000,a0.z.tmod 100000⟩:=⟨_,rfl⟩
 obtain⟨s,hs⟩:∃ s:V,s=⟨1+s0.x,1+s0.y,1+s0.z⟩:=⟨_,rfl⟩
 have ax:a0.x.tmod 100000=a.x:=by rw[ha]
 have ay:a0.y.tmod 100000=a.y:=by rw[ha]
 have az:a0.z.tmod 100000=a.z:=by rw[ha]
 have sx:1+s0.x=s.x:=by rw[hs]
 have sy:1+s0.y=s.y:=by rw[hs]
 have sz:1+s0.z=s.z:=by rw[hs]
 have tx:=tm a0.x;have ty:=tm a0.y;have tz:=tm a0.z
 rw[ax] at tx ⊢;rw[ay] at ty ⊢;rw[az] at tz ⊢
 rw[sx,sy,sz]
 have hsx:1<=s.x/\s.x<=256:=by omega
 have hsy:1<=s.y/\s.y<=256:=by omega
 have hsz:1<=s.z/\s.z<=256:=by omega
 clear ha hs ax ay az sx sy sz hs0 tm cv
 refine br (fun k st=>st=[.sl (((List.range k).map (sr a s)).map aq),I (k:Int)]) 8 0 (Nat.zero_le _) rfl (fun k hk st hJ=>?_) (fun st hJ=>?_)
 ·subst hJ
  left
  refine⟨_,?_,rfl⟩
  have q2:D.bin .quo (I (k:Int)) (D.int .i64 2)=some (I ((k/2:Nat):Int)):=gu (b:=2) (by decide) (by omega)
  have q4:D.bin .quo (I (k:Int)) (D.int .i64 4)=some (I ((k/4:Nat):Int)):=gu (b:=4) (by decide) (by omega)
  have m1:∀ (i:Nat) (x:Int),i<=1->(1<=x/\x<=256)->inR ((i:Int)*x)/\0<=(i:Int)*x/\(i:Int)*x<=256:=fun i x hi hx=>by
   have:i=0\/i=1:=by omega
   rcases this with rfl|rfl
   ·simp only[inR];omega
   ·simp only[inR];omega
  obtain⟨u1,u2,u3⟩:=m1 (k%2) s.x (by omega) hsx
  obtain⟨v1,v2,v3⟩:=m1 (k/2%2) s.y (by omega) hsy
  obtain⟨w1,w2,w3⟩:=m1 (k/4) s.z (by omega) hsz
  refine aa aj (aa ag (aX (by show(k:Int)<8;omega) ?_))
  refine aa (yK k) (aa (bB u1) (aa (aH (by simp only[inR];omega)) ?_))
  refine aa q2 (aa (yK (k/2)) (aa (bB v1) (aa (aH (by simp only[inR];omega)) ?_)))
  refine aa q4 (aa (bB w1) (aa (aH (by simp only[inR];omega)) ?_))
  have hlen:List.length (D.els (.sl (((List.range k).map (sr a s)).map aq)))+List.length [aq (sr a s k)]<=1073741824:=by
   show(((List.range k).map (sr a s)).map aq).length+1<=_
   rw[List.length_map,List.length_map,List.length_range];omega
  refine(if_pos hlen).trans (aa (aZ (a:=k) (b:=1) (by omega)) ?_)
  rw[List.range_succ,List.map_append,List.map_append];rfl
 subst hJ
 refine⟨_,aa aj (aa ag (ba (by decide) rfl)),?_⟩
 have hP:∀ k,k<8->pt (gl a s) k=kl a s k:=fun k hk=>E2 a s hk
 have h1:0<s.x:=by omega
 have h2:0<s.y:=by omega
 have h3:0<s.z:=by omega
 have hTl:(gl a s).length=8:=by simp[gl]
 have hlex:=kH hP h1 h2 h3
 have hST:HI (gl a s):=by unfold HI;rw[hTl];exact hlex
 have hord:(gl a s).Pairwise aB:=List.pairwise_iff_getElem.2 fun i j hi hj hij=>by
  have:=hST i j hij hj
  simpa only[pt,List.getD_eq_getElem?_getD,List.getElem?_eq_getElem hi,List.getElem?_eq_getElem hj,Option.getD_some] using this
 have eS:mq ((List.range 8).map (sr a s))=gl a s:=kF ff kU (mQ _) hord fun x=>by rw[rV,Af]
 have hbT:∀ x∈gl a s,bd MV x:=fun x hx=>by
  obtain⟨k,hk,rfl⟩:=List.mem_map.1 hx
  simp only[bd,show MV=262144 from rfl,kl]
  have m1:∀ (i:Nat) (x:Int),i<=1->(1<=x/\x<=256)->0<=(i:Int)*x/\(i:Int)*x<=256:=fun i x hi hx=>by
   have:i=0\/i=1:=by omega
   rcases this with rfl|rfl<;>omega
  have:=m1 (k/4%2) s.x (by omega) hsx
  have:=m1 (k/2%2) s.y (by omega) hsy
  have:=m1 (k%2) s.z (by omega) hsz
  omega
 have hbQ:∀ x∈(List.range 8).map (sr a s),bd MV x:=fun x hx=>hbT x ((Af a s x).1 hx)
 obtain⟨F,hK,g11⟩:=Hz (n+1022) (l:=(List.range 8).map (sr a s)) (by simp) hbQ
 rw[eS] at hK g11
 obtain⟨L,poly,hL,hP',hF,h18⟩:=I7 hbT (by omega) hST
 have hL8:=hL;have hP8:=hP'
 rw[hTl] at hL8 hP8
 have hL6:=Ga hP h1 h2 h3 hL8
 have eF:F.map Prod.fst=L:=Facets.eq hK.facets hL
 have hF6:F.length=6:=by rw[<-List.length_map (f:=Prod.fst),eF,hL6]
 have hvx:∀ k,k<(gl a s).length->Cb (pt (gl a s)) (gl a s).length k:=by rw[hTl];exact Ej hP h1 h2 h3
 have hvv:gA (gl a s) F (gl a s).length=gl a s:=by
  unfold gA
  have:(List.range (gl a s).length).filter (gf F)=List.range (gl a s).length:=List.filter_eq_self.2 fun k hk=>(A8 hST hK).2 (hvx k (List.mem_range.1 hk))
  rw[this,HS]
 unfold Aj at g11
 rw[if_neg (by omega),if_neg (by omega),hvv] at g11
 have e18:er (L.map fun q=>(q,poly q))=L.map fun q=>gk q (poly q):=by unfold er;rw[List.map_map];rfl
 have hpl:∀ q∈L,(poly q).length<=100/\0<(poly q).length:=fun q hq=>by
  have:=rm hST ((hL.mem q).1 hq) (hP' q hq)
  omega
 obtain⟨E,e1,_,h21⟩:=LE (n+1023) (by rw[<-e18];exact h18 (n+1022)) (by omega) hpl (su hST hL hP')
 have hEu:=Iu hST hL hP' (fun e=>by rw[e] at hL6;cases hL6) hvx
 rw[<-e1.length_eq,hTl,hL6] at hEu
 have eT:c9 (gl a s) (L.map fun q=>(q,poly q))=da (pt (gl a s)) L poly:=HM ..
 have bV:=uH hP h1 h2 h3 hL8 hP8
 have bM:=uG hP h1 h2 h3 hL8 hP8
 have bS:=Fx hP h1 h2 h3 hL8 hP8
 rw[<-eT] at bV bM bS
 have hT:=zo hbT hF
 have b23:=Nv (n+1021) hbT hF (h18 _)
 have b25:=Pq n hbT hF h18 (by rw[bV];have:=Int.mul_pos (Int.mul_pos h1 h2) h3;omega)
 have b28:=Pv n hbT hF h18
 have hW0:=Int.mul_pos (Int.mul_pos h1 h2) h3
 have hsxy:(s.x*s.y).natAbs<=256*256:=vU (by omega) (by omega)
 have hW:(s.x*s.y*s.z).natAbs<=16777216:=vU hsxy (k:=256) (by omega)
 rw[bV] at b23 b25
 generalize c9 (gl a s) (L.map fun q=>(q,poly q))=T at *
 obtain⟨S,hS⟩:∃ S:Nat->Nat->Int,S=fun i k=>ar (dD i k) T:=⟨_,rfl⟩
 have hS':∀ i k,ar (dD i k) T=S i k:=fun i k=>by rw[hS]
 have vS:=fun i k=>kR i k hT
 simp only[hS'] at bS vS b28
 have h6:(6*(s.x*s.y*s.z))=6*(s.x*s.y*s.z):=rfl
 have eC:(pj fun i=>Rat.divInt (ar (fV i) T) (4*(6*(s.x*s.y*s.z))))=pj fun i=>Rat.divInt (2*cmp i a+cmp i s) 2:=by
  have e:∀ i,i<3->Rat.divInt (ar (fV i) T) (4*(6*(s.x*s.y*s.z)))=Rat.divInt (2*cmp i a+cmp i s) 2:=fun i hi=>by
   rw[bM i hi,show 4*(6*(s.x*s.y*s.z))=12*(s.x*s.y*s.z)*2 by omega]
   exact nk (by omega) (by decide)
  simp only[pj,e 0 (by decide),e 1 (by decide),e 2 (by decide)]
 rw[eC] at b25
 refine aa ((hc 11 _ (by decide)).trans g11) (aa (z:=dq (gl a s)) rfl (aa (z:=I 0) rfl (aa (z:=false) rfl ?_)))
 have n8:((gl a s).map aq).length=8:=by rw[List.length_map,hTl]
 have n6:(L.map fun q=>gk q (poly q)).length=6:=by rw[List.length_map,hL6]
 have n12:(E.map lz).length=12:=by rw[List.length_map];omega
 refine aa (z:=false) ?_ (aa (z:=false) rfl (aa (z:=false) ?_ (aa (z:=false) rfl (aa (z:=false) ?_ (aa (z:=false) rfl ?_)))))
 ·rw[if_neg (by decide)]
  exact aa (z:=cT (gl a s)) rfl (aa (z:=(gl a s).map aq) rfl (by rw[n8];rfl))
 ·rw[if_neg (by decide)]
  refine aa ((hc 18 _ (by decide)).trans (h18 (n+1023))) ?_
  rw[e18]
  exact aa (z:=L.map fun q=>gk q (poly q)) rfl (by rw[n6];rfl)
 ·rw[if_neg (by decide)]
  exact aa ((hc 21 _ (by decide)).trans h21) (aa (z:=E.map lz) rfl (by rw[n12];rfl))
 rw[if_neg (by decide)]
 refine aa (bB (by simp only[inR];omega)) (aa (bB (by simp only[inR];omega)) ?_)
 refine aa ((hc 25 _ (by decide)).trans b25) (aa ((hc 28 _ (by decide)).trans b28) (aa ((hc 23 _ (by decide)).trans b23) (aa (bB (a:=6) (by simp only[inR];omega)) (aa ((hc 34 _ (by decide)).trans (GS (n+1028) (by simp only[inR];omega))) (aa (z:=false) (by rw[zI];rfl) ?_)))))
 have hg:∀ i,i<9->(eW S 9)[i]?=some (fB (jU S i)):=fun i hi=>by simp[eW,hi]
 have hn:=qY S 9
 generalize eW S 9=Q at *
 refine aa (z:=false) ?_ (aa (z:=false) rfl ?_)
 ·rw[if_neg (by decide)]
  exact aa (z:=.sl Q) rfl (aa (z:=Q) rfl (by rw[hn];rfl))
 rw[if_neg (by decide)]
 clear g11 h18 h21 b23 b25 b28 e18 hEu e1 hF hL hP' hL8 hP8 hpl hK eF hvv hvx eT bV bM eC
 have ca:∀ i,(cmp i a).natAbs<=99999:=fun i=>by
  unfold cmp;split
  ·exact tx
  ·split
   ·exact ty
   ·exact tz
 have cs:∀ i,(cmp i s).natAbs<=256:=fun i=>by
  unfold cmp;split
  ·omega
  ·split<;>omega
 have eA:D.st [I a.x,I a.y,I a.z]=aq a:=rfl
 have eB:D.st [I s.x,I s.y,I s.z]=aq s:=rfl
 obtain⟨W,hWe⟩:∃ W,s.x*s.y*s.z=W:=⟨_,rfl⟩
 simp only[hWe] at *
 refine br (fun k st=>st=[I (k:Int)]) 3 0 (Nat.zero_le _) rfl (fun k hk st hJ=>?_) (fun st hJ=>?_)
 ·subst hJ
  left
  refine⟨[I ((k+1:Nat):Int)],?_,rfl⟩
  obtain⟨i,hi⟩:∃ i,i=(k+1)%3:=⟨_,rfl⟩
  obtain⟨j,hj⟩:∃ j,j=(k+2)%3:=⟨_,rfl⟩
  have fF:i<3:=by omega
  have hj3:j<3:=by omega
  have hij:i≠j:=by omega
  obtain⟨s1,s2,s3,s4,s5,s6,s7,s8⟩:=Nt (ca i) (cs i) hW
  obtain⟨t1,t2,t3,t4,t5,t6,t7,t8⟩:=Nt (ca j) (cs j) hW
  obtain⟨m1,m2,m3,m4,m5,m6,m7⟩:=NB (ca i) (cs i) (ca j) (cs j) hW
  obtain⟨c1,c2,_⟩:=NB (ca k) (cs k) (ca j) (cs j) hW
  refine aa aj (aa ag (aX (by show(k:Int)<3;omega) ?_))
  refine aa (cU hk) (aa (Hf hk _) (aa (cU hk) (aa (z:=I (cmp k a)) (by rw[eA];exact fE hk a) (aa (bB (a:=2) c1) (aa (cU hk) (aa (z:=I (cmp k s)) (by rw[eB];exact fE hk s) (aa (aH c2) ?_)))))))
  refine aa ((hc 42 _ (by decide)).trans (E7 (n+1025) c2 (jX 2) (by decide))) (aa (z:=false) (by rw[zL];rfl) ?_)
  rw[if_neg (by decide)]
  have gi:D.bin .add (I (k:Int)) (D.int .i64 1)=some (I ((k+1:Nat):Int)):=aZ (a:=k) (b:=1) (by omega)
  have gj:D.bin .add (I (k:Int)) (D.int .i64 2)=some (I ((k+2:Nat):Int)):=aZ (a:=k) (b:=2) (by omega)
  have ri:D.bin .rem (I ((k+1:Nat):Int)) (D.int .i64 3)=some (I (i:Int)):=by rw[hi];exact iQ (b:=3) (by decide)
  have rj:D.bin .rem (I ((k+2:Nat):Int)) (D.int .i64 3)=some (I (j:Int)):=by rw[hj];exact iQ (b:=3) (by decide)
  have ga:∀ {t:Nat},t<3->D.get (D.st [I a.x,I a.y,I a.z]) [t]=some (I (cmp t a)):=fun ht=>fE ht a
  have gs:∀ {t:Nat},t<3->D.get (D.st [I s.x,I s.y,I s.z]) [t]=some (I (cmp t s)):=fun ht=>fE ht s
  refine aa gi (aa ri (aa gj (aa rj ?_)))
  refine aa (cU fF) (aa (ga fF) (aa (bB (a:=3) s1) (aa (cU fF) (aa (ga fF) (aa (bB s2) ?_)))))
  refine aa (cU fF) (aa (ga fF) (aa (bB (a:=3) s1) (aa (cU fF) (aa (gs fF) (aa (bB s3) (aa (aH s4) ?_))))))
  refine aa (cU fF) (aa (gs fF) (aa (cU fF) (aa (gs fF) (aa (bB s5) (aa (aH s6) (aa (bB s7) ?_))))))
  refine aa ((hc 42 _ (by decide)).trans (E7 (n+1025) s7 (jX 3) (by decide))) ?_
  refine aa (cU hj3) (aa (ga hj3) (aa (bB (a:=3) t1) (aa (cU hj3) (aa (ga hj3) (aa (bB t2) ?_)))))
  refine aa (cU hj3) (aa (ga hj3) (aa (bB (a:=3) t1) (aa (cU hj3) (aa (gs hj3) (aa (bB t3) (aa (aH t4) ?_))))))
  refine aa (cU hj3) (aa (gs hj3) (aa (cU hj3) (aa (gs hj3) (aa (bB t5) (aa (aH t6) (aa (bB t7) ?_))))))
  refine aa ((hc 42 _ (by decide)).trans (E7 (n+1025) t7 (jX 3) (by decide))) ?_
  refine aa (po m5) (aa (cU fF) (aa (ga fF) (aa (bB (a:=2) m1) (aa (cU fF) (aa (gs fF) (aa (aH m2) (aa (bB m6) ?_)))))))
  refine aa (cU hj3) (aa (ga hj3) (aa (bB (a:=2) m3) (aa (cU hj3) (aa (gs hj3) (aa (aH m4) (aa (bB m7) ?_))))))
  refine aa ((hc 42 _ (by decide)).trans (E7 (n+1025) m7 (jX 4) (by decide))) ?_
  have k4:D.bin .mul (D.int .i64 4) (I (k:Int))=some (I ((4*k:Nat):Int)):=mr (a:=4) (b:=k) (by omega)
  have p3:∀ {t:Nat},t<3->D.bin .mul (D.int .i64 3) (I (t:Int))=some (I ((3*t:Nat):Int)):=fun{t} ht=>mr (a:=3) (b:=t) (by omega)
  have q3:∀ {t r:Nat},t<3->r<3->D.bin .add (I ((3*t:Nat):Int)) (I (r:Int))=some (I ((3*t+r:Nat):Int)):=fun{t r} ht hr=>aZ (by omega)
  have tr:S 0 0+S 1 1+S 2 2=S i i+S j j+S k k:=by
   have:k=0\/k=1\/k=2:=by omega
   rcases this with rfl|rfl|rfl<;>subst hi<;>subst hj<;>simp only[Nat.reduceAdd,Nat.reduceMod]<;>omega
  have si:=bS i i fF fF;have sj:=bS j j hj3 hj3;have sij:=bS i j fF hj3;have sji:=bS j i hj3 fF
  rw[if_pos rfl] at si sj
  rw[if_neg hij] at sij
  rw[if_neg (Ne.symm hij)] at sji
  have v1:jU S (4*k)=Rat.divInt (W*(3*cmp i a*cmp i a+3*cmp i a*cmp i s+cmp i s*cmp i s)+W*(3*cmp j a*cmp j a+3*cmp j a*cmp j s+cmp j s*cmp j s)) 3:=by
   have d1:4*k/3=k:=by omega
   have d2:4*k%3=k:=by omega
   unfold jU
   rw[d1,d2,if_pos rfl,tr,show -(S k k)+(S i i+S j j+S k k)=S i i+S j j by omega,si,sj,<-Int.mul_add]
   rw[show(120:Int)=40*3 from rfl]
   exact nk (m:=40) (K:=3) (by decide) (by decide)
  have v2:jU S (3*i+j)=Rat.divInt (-W*(2*cmp i a+cmp i s)*(2*cmp j a+cmp j s)) 4:=by
   obtain⟨d1,d2⟩:=HB (i:=i) hj3
   unfold jU
   rw[d1,d2,if_neg hij,sij,show -(30*(W*(2*cmp i a+cmp i s)*(2*cmp j a+cmp j s)))=30*(-W*(2*cmp i a+cmp i s)*(2*cmp j a+cmp j s)) by grind]
   rw[show(120:Int)=30*4 from rfl]
   exact nk (m:=30) (K:=4) (by decide) (by decide)
  have v3:jU S (3*j+i)=Rat.divInt (-W*(2*cmp i a+cmp i s)*(2*cmp j a+cmp j s)) 4:=by
   obtain⟨d1,d2⟩:=HB (i:=j) fF
   unfold jU
   rw[d1,d2,if_neg (Ne.symm hij),sji,show -(30*(W*(2*cmp j a+cmp j s)*(2*cmp i a+cmp i s)))=30*(-W*(2*cmp i a+cmp i s)*(2*cmp j a+cmp j s)) by grind]
   rw[show(120:Int)=30*4 from rfl]
   exact nk (m:=30) (K:=4) (by decide) (by decide)
  refine aa (z:=.sl Q) rfl (aa k4 (aa (z:=Q) rfl (aa (z:=4*k) (by rw[hn];exact aK (by omega)) (aa (hg _ (by omega)) ?_))))
  refine aa ((hc 40 _ (by decide)).trans (Kq (n+1025) s8 t8 (q:=2) (by decide) (by decide))) ?_
  rw[v1]
  refine aa (z:=false) (by rw[zL];rfl) (aa (z:=false) ?_ (aa (z:=false) rfl (aa (z:=false) ?_ (aa (z:=false) rfl ?_))))
  ·rw[if_neg (by decide)]
   refine aa (z:=.sl Q) rfl (aa (p3 fF) (aa (q3 fF hj3) (aa (z:=Q) rfl (aa (z:=3*i+j) (by rw[hn];exact aK (by omega)) (aa (hg _ (by omega)) ?_)))))
   rw[v2,zL];rfl
  ·rw[if_neg (by decide)]
   refine aa (z:=.sl Q) rfl (aa (p3 hj3) (aa (q3 hj3 fF) (aa (z:=Q) rfl (aa (z:=3*j+i) (by rw[hn];exact aK (by omega)) (aa (hg _ (by omega)) ?_)))))
   rw[v3,zL];rfl
  ·rw[if_neg (by decide)]
   exact aa gi rfl
 ·subst hJ
  refine⟨(1,[]),aa aj (aa ag (ba (by decide) rfl)),?_⟩
  rw[if_neg (show ¬ (1:Nat)=0 by decide)]
  exact aa h10 rfl
end Go.Proofs.YtjjjkojfijpeeaaGreat.Sy
end
section
namespace Go.Proofs.YtjjjkojfijpeeaaGreat.Sy
open Go Go.Proofs Go.Proofs.YtjjjkojfijpeeaaGreat.Geo
theorem Kn:nB 9=some ([K1,Gj],.bool):=by kernel_rfl
theorem wt_K16{d:D}(h:wt Gj d):∃ v:V,d=yf v:=by
 obtain⟨l,rfl,hl,h⟩:=h
 match l,hl with
 | [a,b,c],_=>
  obtain⟨x,rfl⟩:=h a (by simp)
  obtain⟨y,rfl⟩:=h b (by simp)
  obtain⟨z,rfl⟩:=h c (by simp)
  exact⟨⟨x,y,z⟩,rfl⟩
theorem ctr9{d:D}{s:V}(h:wt K1 d)(h':wt Gj (yf s))(hs:(0<=s.x/\s.x<=255)/\(0<=s.y/\s.y<=255)/\0<=s.z/\s.z<=255):Ei Tryz.prog [K1,Gj] .bool 9 [d,yf s] (.bool true):=by
 obtain⟨v,rfl⟩:=Id h
 refine L9 mf (xi (0+1031)) (Cs _) [K1,Gj] .bool [aq v,yf s] (.bool true) Kn ?_ ⟨_,_,rfl,h,_,[],rfl,h',rfl⟩
 exact Kw 0 v s hs (fun f xs hf=>by unfold xi;rw[if_neg hf]) (by unfold xi;rw[if_pos rfl];exact yo)
end Go.Proofs.YtjjjkojfijpeeaaGreat.Sy
end
section
namespace Go.Proofs.YtjjjkojfijpeeaaGreat
open Go Go.ChangeShapes Go.WideShapes Go.ChangeAt Go.RowKit
namespace Sy
theorem under4:Tryz.prog.underlying 4=some .bool:=by kernel_rfl
theorem bool_of{W:World}{S:Nat->Nat->Prop}{b:Bool}{v:Value}(h:DR W S (.bool b) v):v=.bool b:=by
 obtain⟨h1,h2⟩:=(h:eN W S (.bool b) v)
 have h3:=(bq (by intro d hd;simp only[D.flat,List.mem_singleton] at hd;subst hd;rfl)).1 h2
 exact ao h1 (by simpa [D.flat,bf] using h3)
theorem lay60:bh Tryz.prog K1 60=true:=by kernel_rfl
theorem DR0_of1{W:World}{S:Nat->Nat->Prop}{d:D}{cs:Array Value}(h:wt K1 d)(k:cH W S d.flat (Value.agg cs).cells.toList):eN W S d (.agg cs):=by
 obtain⟨l,rfl,_⟩:=h
 exact⟨⟨_,rfl⟩,k⟩
theorem agg_ofA{P:Program}{n:Nat}{e:Ty}{t:TypeId}(hl:bh P (.arr n e) t=true){W:World}{base:Nat}{v:Value}(h:Value.okWide P W .any base t v):∃ cs,v=.agg cs:=by
 obtain⟨u,hu,_⟩:=dT hl
 simp only[Value.okWide,hu] at h
 obtain⟨cs,h1,_⟩:=h
 exact⟨cs,h1⟩
theorem lay76:bh Tryz.prog Gj 76=true:=by kernel_rfl
theorem DR0_of16{W:World}{S:Nat->Nat->Prop}{d:D}{cs:Array Value}(h:wt Gj d)(k:cH W S d.flat (Value.agg cs).cells.toList):eN W S d (.agg cs):=by
 obtain⟨l,rfl,_⟩:=h
 exact⟨⟨_,rfl⟩,k⟩
theorem ET:Tryz.prog.underlying 76=some (.array 3 5):=by kernel_rfl
theorem G0:Tryz.prog.underlying 5=some (.int .u8):=by kernel_rfl
theorem G5:Tryz.prog.cellTypes Tryz.prog.depth 76=some [5,5,5]:=by kernel_rfl
set_option maxRecDepth 100000 in
theorem bytes_in{W:World}{base:Nat}{S:Nat->Nat->Prop}{s:Geo.V}{cs:Array Value}(h:Value.okWide Tryz.prog W .any base 76 (.agg cs))(k:cH W S (yf s).flat (Value.agg cs).cells.toList) :
  (0<=s.x/\s.x<=255)/\(0<=s.y/\s.y<=255)/\0<=s.z/\s.z<=255:=by
 have e:cs.toList=[.int .u8 s.x,.int .u8 s.y,.int .u8 s.z]:=(bq (by intro d hd;simp only[yf,D.flat,D.flats,List.cons_append,List.nil_append,List.mem_cons,List.not_mem_nil,or_false] at hd;rcases hd with rfl|rfl|rfl<;>rfl)).1 k
 simp only[Value.okWide,ET] at h
 obtain⟨cs',h1,_,ts,ht,_,h3⟩:=h
 cases h1
 rw[G5] at ht
 cases ht
 have key:∀ (i:Nat) (n:Int),cs[i]?=some (.int .u8 n)->0<=n/\n<=255:=fun i n hi=>by
  obtain⟨u,hu,hc⟩:=h3 i _ hi
  have hu5:u=5:=by
   have:i%3=0\/i%3=1\/i%3=2:=by omega
   rcases this with m|m|m<;>simp only[List.length_cons,List.length_nil,Nat.zero_add,Nat.reduceAdd,m] at hu<;>simpa using hu.symm
  subst hu5
  simp only[Cell.okWide,Cell.ok,G0] at hc
  exact hc.2
 have g:∀ i:Nat,cs[i]?=cs.toList[i]?:=fun i=>by simp
 exact⟨key 0 _ (by rw[g,e];rfl),key 1 _ (by rw[g,e];rfl),key 2 _ (by rw[g,e];rfl)⟩
end Sy
theorem Mg:ownKnob Tryz.prog.godebug=none:=by kernel_rfl
theorem wY:laidOutB Tryz.prog=true:=by kernel_rfl
theorem CB:Tryz.f9.params=#[60,76]:=by kernel_rfl
set_option maxRecDepth 100000 in
theorem vp(os:Os)(started:os.Started)(H:Type)(enc:TypeId×Value->H) :
  ReturnsInHanded {} Tryz.checked os 9 .any (Rows.hullOfBoxesSpec.pre6 enc Tryz.prog Tryz.f9 Rows.hullOfBoxesRow.domain false) (Rows.hullOfBoxesSpec.post enc Tryz.prog Tryz.f9 false true false false):=by
 refine returnsInHanded_of_change (C:=Tryz.checked) Mg started (by kernel_rfl) (show Tryz.prog.funcs[9]?=some Tryz.f9 by kernel_rfl)
  (ChangeSpec.witness6 (enc:=enc) (C:=Tryz.checked) false ⟨#[],#[.agg #[.int .i64 0,.int .i64 0,.int .i64 0],.agg #[.int .u8 0,.int .u8 0,.int .u8 0]],[]⟩ 8 (by kernel_rfl) (by kernel_rfl) (by kernel_rfl) (by kernel_rfl)) ?_
 intro W base args ds gs before hval0 hW hcnd _
 have hval:∀ (j:Nat) t v,Tryz.f9.params[j]?=some t->args[j]?=some v->Value.okWide Tryz.prog W .any base t v:=hval0
 have hW':=hW
 obtain⟨p,q,hA0,hV,rfl,hfz,hnd⟩:=hW
 have hA:DataW.TrodAll enc Tryz.prog W 0 (fun _=>true) true Tryz.f9.params.toList args.toList ds p:=hA0
 rw[CB] at hA hval
 obtain⟨v0,v1,d0,d1,p0,p1,rfl,rfl,rfl,h0,h1⟩:=trodAll_two hA
 obtain⟨rfl,rfl⟩:=trodVars_none hV
 clear hA0 hval0
 obtain⟨cs,rfl⟩:∃ cs,v0=.agg cs:=Sy.agg_ofA (P:=Tryz.prog) (t:=60) Sy.lay60 (hval 0 60 v0 rfl rfl)
 obtain⟨cs1,rfl⟩:∃ cs,v1=.agg cs:=Sy.agg_ofA (P:=Tryz.prog) (t:=76) Sy.lay76 (hval 1 76 v1 rfl rfl)
 have h0':=h0
 have h1':=h1
 obtain⟨fuel,hf⟩:=h0
 obtain⟨fuel1,hf1⟩:=h1
 obtain⟨d,hd1,hd2⟩:=Sy.vL (W:=W) Sy.K1 60 fuel _ _ Sy.lay60 (by rfl) hf
 obtain⟨e,he1,he2⟩:=Sy.vL (W:=W) Sy.Gj 76 fuel1 _ _ Sy.lay76 (by rfl) hf1
 obtain⟨s,rfl⟩:=Sy.wt_K16 he1
 have hrng:=Sy.bytes_in (hval 1 76 _ rfl rfl) he2
 have hctr:=Sy.ctr9 hd1 he1 hrng W (Sy.qd W) [.agg cs,.agg cs1] (fun _ _ h=>Sy.valid_lt h) ⟨_,_,rfl,hd1,_,[],rfl,he1,rfl⟩ rfl (fun i x v hx hv=>by
  cases i with
  | zero=>simp at hx hv;subst hx;subst hv;exact Sy.DR0_of1 hd1 hd2
  | succ i=>
   cases i with
   | zero=>simp at hx hv;subst hx;subst hv;exact Sy.DR0_of16 he1 he2
   | succ i=>simp at hx)
 refine Go.Calls.mono hctr fun e W' he=>?_
 obtain⟨v,rfl,⟨os',dr,hdr,rfl⟩,_,hv⟩:=he
 have hv':v=.bool true:=Sy.bool_of hv
 subst hv'
 have hb:Below W.heap.size W (aw W os' dr):=⟨rfl,rfl,rfl,by simp[aw],fun k hk=>cG W os' dr hk⟩
 have hlt0:∀ x∈p0,x.block<W.heap.size:=fun x hx=>by simpa using hW'.lt x (by simp[hx])
 have hlt1:∀ x∈p1,x.block<W.heap.size:=fun x hx=>by simpa using hW'.lt x (by simp[hx])
 exact⟨_,rfl,_,_,_,[],p0++p1,[],hW',trodAll_mk1 ((Go.RowKit.shut_bool (P:=Tryz.prog) Sy.under4 true)),trodAll_mk2 (Below.trod wY (by kernel_rfl) (of_decide_eq_true (by kernel_rfl)) h0' hb hlt0) (Below.trod wY (by kernel_rfl) (of_decide_eq_true (by kernel_rfl)) h1' hb hlt1),rfl,hb.frame _,fun h=>by cases h⟩
theorem hullOfBoxes_holds:Rows.HullOfBoxesSaid:=
 OpenClaim.holds_of_wide 9 Tryz.f9 rfl rfl rfl rfl rfl rfl rfl ⟨rfl,rfl,rfl,rfl,rfl⟩ rfl rfl rfl rfl rfl (by kernel_rfl) (show Tryz.prog.funcs[9]?=some Tryz.f9 by kernel_rfl) (by kernel_rfl)
  (of_decide_eq_true (by kernel_rfl)) (by unfold Func.isWrapper;first|(rw[if_pos (by decide +kernel)];kernel_rfl)|(rw[if_neg (by decide +kernel)];exact⟨rfl,rfl⟩))
  (fun os started H enc _=>vp os started H enc)
end Go.Proofs.YtjjjkojfijpeeaaGreat
end
