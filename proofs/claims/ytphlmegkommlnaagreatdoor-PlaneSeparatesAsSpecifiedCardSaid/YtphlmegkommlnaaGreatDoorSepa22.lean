/- PlaneSeparatesAsSpecified answers true at every input, and the input reads afterwards as it read before. -/
import Derived.Test.YtphlmegkommlnaaGreatDoorSepa06
import Derived.Test.YtphlmegkommlnaaGreatDoorSepa21
import Derived.Test.YtphlmegkommlnaaGreatDoorRows
import Derived.Test.YtphlmegkommlnaaGreatDoorTie
import Derived.Test.YtphlmegkommlnaaGreatDoorCards
import Derived.SevenTiedAt
import Derived.LaidLaws
import Derived.Handed
set_option linter.unusedVariables false
set_option linter.unusedSimpArgs false
set_option linter.unnecessarySimpa false
set_option linter.defProp false
set_option maxRecDepth 20000
namespace Go.Proofs.YtphlmegkommlnaaGreatDoor
noncomputable section
namespace Sy
open Go Go.Proofs Geo
def GL(K:List V)(u:V):(lW K u).length<=K.length+1:=by
 unfold lW;split
 ·omega
 ·simp
def lr(R:List V):(jf R).length<=R.length:=by
 refine tG (P:=λR=>(jf R).length<=R.length) (zfa _) (λR u ih=>?_) R;rw[jK,zja];exact zBa (GL _ _) (Nat.add_le_add_right ih 1)
def oI{α β:Type}{E:List α}{g:α->List β}{k:Nat}(h:∀ e∈E,(g e).length<=k):(E.flatMap g).length<=E.length*k:=by
 induction E with
 | nil=>simp
 | cons a E ih=>
  rw[List.flatMap_cons,zja,zIa,z8a,zNc];have:=h a (by simp);have:=ih λe he=>h e (by simp[he])
  omega
def KR{u:V}{v:V}(h:u=az v):u=if(1:Int)<0 then(az v).neg else az v:=by rw[h,if_neg (by decide)]
def KS{u:V}{v:V}(h:u=(az v).neg):u=if(-1:Int)<0 then(az v).neg else az v:=by rw[h,if_pos (by decide)]
section
variable{x y:V}{q r:Nat->Int}{l m:List V}{F G:FL}{E E':List (Nat×Nat)}
def Da(e:Nat×Nat)(hm:Fac m G E'):(wN q r l m E' e).length<=20000:=by
 have:=oI (E:=E') (g:=λf=>[az (V.cross (jc q l e) (jc r m f)),(az (V.cross (jc q l e) (jc r m f))).neg]) (k:=2) (λ_ _=>zfa _);have:=hm.el;unfold wN;omega
def Va(n:Nat)(h:PairOk x y q r l m)(hl:Fac l F E)(hm:Fac m G E') :
  cA (n+10) 436 [dc x q,cd l,dc y r,cd m]=some (.sl ((jf (lY q r l m F G E E')).map ab)):=by
 rw[Xd];delta IX qG qB qX qL qW qZ iL iR Jn;have P:=xK h hl hm;have lF:=hl.fb.1;have lG:=hm.fb.1;have lE:=hl.el;have X:=hm.el;refine aa (hl.h19 (n+1)) ?_;refine bC (λi s=>s=[.sl ((jf (pD q (F.take i))).map ab),I (i:Int)]) F.length 0 (zla _) rfl (λi c s d=>?_) (λs d=>?_)
 ·subst d;left;refine⟨_,?_,rfl⟩;have p:=oF h.pa.hq hl.fb (zva c);obtain⟨i1,i2,i3⟩:=qc p;have L:=(hl.fb.2 _ (zva c)).1;have H:pD q (F.take (i+1))=pD q (F.take i)++[az (ju q F[i].1.1)]:=by
   unfold pD;rw[List.take_add_one,zda c];simp only[Option.toList_some,zrb,zWa,zyc]
  have K:(jf (pD q (F.take i))).length<=1000000000:=zBa (lr _) (by unfold pD;rw[zma,zYa];omega)
  rw[H,jK];refine aa (z:=aK F) rfl (aa ah (aa ac (aA (by rw[aV];omega) ?_)))
  refine aa (z:=fW q) rfl (aa (z:=aK F) rfl (aa (z:=i) (by rw[aV];exact am c) (aa (ed c) (aa (z:=ab F[i].1.1) rfl ?_))))
  refine aa (z:=ab (ju q F[i].1.1)) (BZ (n+7) h.pa.hq (LB L)) (aa (LX (n+5) i1 i2 i3) ?_);exact aa (Le n 1 p (KR rfl) K rfl rfl _ _ _ _) (aa (aJ (a:=i) (b:=1) (by omega)) rfl)
 ·subst d;refine⟨_,aa (z:=aK F) rfl (aa ah (aa ac (aD (by rw[aV];omega) rfl))),?_⟩
  rw[zVa (zfa _)];obtain⟨R1,w⟩:∃ R1,R1=pD q F:=⟨_,rfl⟩;have Z:R1.length<=3000000:=by rw[w];unfold pD;rw[zma];omega
  rw[<-w];refine aa (hm.h19 (n+1)) ?_;refine bC (λi s=>s=[.sl ((jf (R1++(pD r (G.take i)).map V.neg)).map ab),I (i:Int)]) G.length 0 (zla _) (by rw[List.take_zero];simp only[pD,zyc,ztb];rfl) (λi c s d=>?_) (λs d=>?_)
  ·subst d;left;refine⟨_,?_,rfl⟩;have p:=oF h.pb.hq hm.fb (zva c);obtain⟨i1,i2,i3⟩:=qc p;have L:=(hm.fb.2 _ (zva c)).1;have H:R1++(pD r (G.take (i+1))).map V.neg=(R1++(pD r (G.take i)).map V.neg)++[(az (ju r G[i].1.1)).neg]:=by
    unfold pD;rw[List.take_add_one,zda c];simp only[Option.toList_some,zrb,zWa,zyc,zCa]
   have K:(jf (R1++(pD r (G.take i)).map V.neg)).length<=1000000000:=zBa (lr _) (by unfold pD;rw[zja,zma,zma,zYa];omega)
   rw[H,jK];refine aa (z:=aK G) rfl (aa ah (aa ac (aA (by rw[aV];omega) ?_)))
   refine aa (z:=fW r) rfl (aa (z:=aK G) rfl (aa (z:=i) (by rw[aV];exact am c) (aa (ed c) (aa (z:=ab G[i].1.1) rfl ?_))))
   refine aa (z:=ab (ju r G[i].1.1)) (BZ (n+7) h.pb.hq (LB L)) (aa (LX (n+5) i1 i2 i3) ?_);exact aa (Le n (-1) p (KS rfl) K rfl rfl _ _ _ _) (aa (aJ (a:=i) (b:=1) (by omega)) rfl)
  ·subst d;refine⟨_,aa (z:=aK G) rfl (aa ah (aa ac (aD (by rw[aV];omega) rfl))),?_⟩
   rw[zVa (zfa _)];obtain⟨R0,t⟩:∃ R0,R1++(pD r G).map V.neg=R0:=⟨_,rfl⟩;have l0:R0.length<=6000000:=by rw[<-t];unfold pD;rw[zja,zma,zma];omega
   have S:lY q r l m F G E E'=R0++E.flatMap (wN q r l m E'):=by rw[<-t,w];rfl
   rw[S] at P ⊢;rw[t];refine aa (hl.h22 n) (aa (hm.h22 n) ?_);refine bC (λi s=>s=[.sl ((jf (R0++(E.take i).flatMap (wN q r l m E'))).map ab),I (i:Int)]) E.length 0 (zla _) (by rw[List.take_zero,List.flatMap_nil,ztb];rfl) (λi c s d=>?_) (λs d=>?_)
   ·subst d;left;refine⟨_,?_,rfl⟩;have he:=hl.lt E[i] (zva c);have A:=pV h.pa.hq h.la he;have Y:(R0++(E.take i).flatMap (wN q r l m E')).length<=206000000:=by
     rw[zja];have:=oI (E:=E.take i) (g:=wN q r l m E') (k:=20000) (λe _=>Da e hm);have:(E.take i).length<=10000:=by rw[zYa];omega
     have:(E.take i).length*20000<=10000*20000:=zDa _ this;omega
    rw[mC _ c,<-zCa];obtain⟨R2,J⟩:∃ R2,R0++(E.take i).flatMap (wN q r l m E')=R2:=⟨_,rfl⟩;rw[J] at Y ⊢;refine aa (z:=E.map cn) rfl (aa ah (aa ac (aA (by rw[dt];omega) ?_)))
    refine aa (z:=fW q) rfl (aa (z:=aT l) rfl (aa (z:=E.map cn) rfl (aa (z:=i) (by rw[dt];exact am c) (aa (FX c) (aa (z:=I (E[i].2:Int)) rfl (aa (z:=l.map ab) rfl (aa (z:=E[i].2) (by rw[au];exact am he.2) (aa (jD he.2) ?_))))))))
    refine aa (z:=aT l) rfl (aa (z:=E.map cn) rfl (aa (z:=i) (by rw[dt];exact am c) (aa (FX c) (aa (z:=I (E[i].1:Int)) rfl (aa (z:=l.map ab) rfl (aa (z:=E[i].1) (by rw[au];exact am he.1) (aa (jD he.1) ?_)))))))
    refine aa (wW (n+8) (h.la _ (eJ he.2)) (h.la _ (eJ he.1)) (by decide)) (aa (z:=ab (jc q l E[i])) (BZ (n+7) h.pa.hq (u7 (pm h.la he.1 he.2) (by decide))) ?_)
    obtain⟨e,O⟩:∃ e,E[i]=e:=⟨_,rfl⟩;have M:∀ u∈wN q r l m E' e,bd NB u:=λu hu=>P u (zTa _ (zgb.2 ⟨E[i],zva c,by rw[O];exact hu⟩))
    rw[O] at he A ⊢;obtain⟨c2,B⟩:∃ c2:Nat×Nat->List V,c2=λf=>[az (V.cross (jc q l e) (jc r m f)),(az (V.cross (jc q l e) (jc r m f))).neg]:=⟨_,rfl⟩;rw[show wN q r l m E' e=E'.flatMap c2 by rw[B];rfl] at M ⊢
    refine bC (λj s=>s=[.sl ((jf (R2++(E'.take j).flatMap c2)).map ab),I (j:Int)]) E'.length 0 (zla _) (by rw[List.take_zero,List.flatMap_nil,ztb];rfl) (λj C s d=>?_) (λs d=>?_)
    ·subst d;left;refine⟨_,?_,rfl⟩;have o:=hm.lt E'[j] (zva C);have D:=pV h.pb.hq h.lb o;have N:(R2++(E'.take j).flatMap c2).length<=207000000:=by
      rw[zja];have:=oI (E:=E'.take j) (g:=c2) (k:=2) (λ_ _=>by rw[B];exact zfa _)
      have:(E'.take j).length<=10000:=by rw[zYa];omega
      omega
     rw[mC _ C,<-zCa];obtain⟨R,Q⟩:∃ R,R2++(E'.take j).flatMap c2=R:=⟨_,rfl⟩;rw[Q] at N ⊢;refine aa (z:=E'.map cn) rfl (aa ah (aa ac (aA (by rw[dt];omega) ?_)))
     refine aa (z:=fW r) rfl (aa (z:=aT m) rfl (aa (z:=E'.map cn) rfl (aa (z:=j) (by rw[dt];exact am C) (aa (FX C) (aa (z:=I (E'[j].2:Int)) rfl (aa (z:=m.map ab) rfl (aa (z:=E'[j].2) (by rw[au];exact am o.2) (aa (jD o.2) ?_))))))))
     refine aa (z:=aT m) rfl (aa (z:=E'.map cn) rfl (aa (z:=j) (by rw[dt];exact am C) (aa (FX C) (aa (z:=I (E'[j].1:Int)) rfl (aa (z:=m.map ab) rfl (aa (z:=E'[j].1) (by rw[au];exact am o.1) (aa (jD o.1) ?_)))))))
     refine aa (wW (n+8) (h.lb _ (eJ o.2)) (h.lb _ (eJ o.1)) (by decide)) (aa (z:=ab (jc r m E'[j])) (BZ (n+7) h.pb.hq (u7 (pm h.lb o.1 o.2) (by decide))) ?_)
     refine aa (N7 (n+1) A D) ?_;have p:=pN A D;have T:c2 E'[j]=[az (V.cross (jc q l e) (jc r m E'[j])),(az (V.cross (jc q l e) (jc r m E'[j]))).neg]:=by rw[B]
     rw[T];obtain⟨v,ev⟩:∃ v,V.cross (jc q l e) (jc r m E'[j])=v:=⟨_,rfl⟩;rw[ev] at p ⊢;rw[show R++[az v,(az v).neg]=(R++[az v])++[(az v).neg] by simp,jK (R++[az v])]
     have U:(jf R).length<=1000000000:=zBa (lr _) (by omega)
     have W:(jf (R++[az v])).length<=1000000000:=zBa (lr _) (by rw[zja];show R.length+1<=_;omega)
     refine aa (OO n 1 p (KR rfl) U rfl rfl _ _ _ _ _ _) ?_;rw[<-jK];exact aa (ON n (-1) p (KS rfl) W rfl rfl _ _ _ _ _) (aa (aJ (a:=j) (b:=1) (by omega)) rfl)
    ·subst d;refine⟨_,aa (z:=E'.map cn) rfl (aa ah (aa ac (aD (by rw[dt];omega) rfl))),?_⟩
     rw[zVa (zfa _)];exact aa (aJ (a:=i) (b:=1) (by omega)) rfl
   ·subst d;refine⟨_,aa (z:=E.map cn) rfl (aa ah (aa ac (aD (by rw[dt];omega) rfl))),?_⟩
    rw[zVa (zfa _)];rfl
end
end Sy
end
noncomputable section
namespace Sy
open Go Go.Proofs Geo
def vV:Option (V×Rat)->D
 | none=>dC ((0:Int):Rat)
 | some p=>dC p.2
def Dz(a:V->Rat)(S:Option (V×Rat)):D:=.st [fg a S,.bool S.isSome]
def Vv{K:List V}{i:Nat}(a:i<K.length):(K.map ab)[i]?=some (ab K[i]):=by simp[a]
section
variable{x y:V}{q r:Nat->Int}{l m:List V}{F G:FL}{E E':List (Nat×Nat)}
def U6(n:Nat)(h:PairOk x y q r l m)(hl:Fac l F E)(hm:Fac m G E') :
  cA (n+11) 417 [dc x q,cd l,dc y r,cd m]=some (Dz (λu=>JB u x y q r l m) (eM x y q r l m (lY q r l m F G E E')).2):=by
 rw[W5];delta IP qG qB qC qT qN qX qL qZ iL iR Jn;have Z:=xK h hl hm;have lF:=hl.fb.1;have lG:=hm.fb.1;have lE:=hl.el;have ad:=hm.el;have M:∀ u∈jf (lY q r l m F G E E'),bd NB u/\u≠V.zero:=λu hu=>by
  have e:=CW (λu=>jF u x y q r l m) (λu=>pu u x y q r l m) (lY q r l m F G E E');have:=(CX (mg:=λu=>jF u x y q r l m) (vl:=λu=>pu u x y q r l m) (lY q r l m F G E E')).1 u (by rw[e];exact hu)
  exact⟨Z u this.1,this.2⟩
 have hlen:(jf (lY q r l m F G E E')).length<=1000000000:=by
  refine zBa (lr _) ?_;unfold lY pD;rw[zja,zja,zma,zma,zma];have:=oI (E:=E) (g:=wN q r l m E') (k:=20000) (λe _=>Da e hm);have:E.length*20000<=10000*20000:=zDa _ lE;omega
 have U:(eM x y q r l m (lY q r l m F G E E')).2=(jf (lY q r l m F G E E')).foldl (eQ (λu=>jF u x y q r l m) (λu=>pu u x y q r l m)) none:=by
  unfold eM;rw[CW]
 rw[U];refine aa (Va n h hl hm) (aa (ZK (n+4) (fk 0)) ?_);obtain⟨K,T⟩:∃ K,jf (lY q r l m F G E E')=K:=⟨_,rfl⟩;rw[T] at M hlen ⊢;obtain⟨sp,c⟩:∃ sp,sp=eQ (λu=>jF u x y q r l m) (λu=>pu u x y q r l m):=⟨_,rfl⟩;obtain⟨f,t⟩:∃ f:V->Rat,f=λu=>JB u x y q r l m:=⟨_,rfl⟩;rw[<-c,<-t];have d:∀ i p,(K.take i).foldl sp none=some p->InR p.2:=λi=>by
  have key:∀ (L:List V),(∀ u∈L,bd NB u/\u≠V.zero)->∀ S:Option (V×Rat),(∀ p,S=some p->InR p.2)->∀ p,L.foldl sp S=some p->InR p.2:=λL=>by
   induction L with
   | nil=>exact λ_ S d p hp=>d p hp
   | cons u L ih=>
    intro hL S d p hp;have hu:=hL u (by simp)
    have R:InR (pu u x y q r l m):=(yf h hu.1 hu.2).InR (by decide) (by decide)
    refine ih (λw hw=>hL w (by simp[hw])) (sp S u) (λp hp=>?_) p hp
    rw[c] at hp;unfold eQ at hp;split at hp
    ·exact d p hp
    ·split at hp
     ·cases hp;exact R
     ·split at hp
      ·cases hp;exact R
      ·cases hp;exact d _ rfl
  exact key _ (λu hu=>M u (zEa hu)) none (λp hp=>by cases hp)
 refine bC (λi s=>s=[I (i:Int),Dz f ((K.take i).foldl sp none),vV ((K.take i).foldl sp none)]) K.length 0 (zla _) rfl (λi H s N=>?_) (λs N=>?_)
 ·subst N;left;refine⟨_,?_,rfl⟩;have d:=d i;rw[zua H,List.foldl_append,zhc,zxd];obtain⟨S,J⟩:∃ S,(K.take i).foldl sp none=S:=⟨_,rfl⟩;rw[J] at d ⊢;obtain⟨hu,h0⟩:=M _ (zva H);have gx:∀ {β:Type} {g:D->Option β} {Y:β},g (ab K[i])=some Y->(Option.bind (D.asSl (.sl (K.map ab))) λl=>Option.bind (D.idx (I (i:Int)) l.length) λk=>Option.bind (l[k]?) g)=some Y:=λ{β g Y} hg=>
   aa (z:=K.map ab) rfl (aa (z:=i) (by rw[au];exact am H) (aa (Vv H) hg))
  obtain⟨u,W⟩:∃ u,K[i]=u:=⟨_,rfl⟩;rw[W] at hu h0 gx ⊢;have sm:=lM h hu;have om:OW (some (jF u x y q r l m)):=bS (sm.InR (by decide) (by decide))
  have ov:OW (some (pu u x y q r l m)):=bS ((yf h hu h0).InR (by decide) (by decide))
  have j:=U7 (n+1) h hu;have o:=U8 (n+1) h hu h0;rw[tK h hu] at j o;have skip:sp S u=S->(0,[Dz f S,vV S])=(0,[Dz f (sp S u),vV (sp S u)]):=λe=>by rw[e]
  refine aa (z:=K.map ab) rfl (aa ah (aa ac (aA (by rw[au];omega) (aa (z:=(0,[Dz f (sp S u),vV (sp S u)])) ?_ (aa (aJ (a:=i) (b:=1) (by omega)) rfl)))))
  refine gx (aa j (aa (N0 (n+4) om) (aa ah (aa ac ?_))));rw[GZ];by_cases hneg:jF u x y q r l m<0
  ·rw[decide_eq_true hneg,if_pos rfl];exact congrArg some (skip (by rw[c];unfold eQ;rw[if_pos hneg]))
  ·rw[decide_eq_false hneg,if_neg (by decide)]
   refine gx (aa o (aa (z:=.bool S.isSome) rfl (aa aM (aa ac ?_))));have take:sp S u=some (u,pu u x y q r l m)->∀ {A:Option (Nat×List D)},A=some (0,[.st [.st [ab u,dC (f u)],.bool true],dC (pu u x y q r l m)])->A=some (0,[Dz f (sp S u),vV (sp S u)]):=λe A X=>by rw[X,e];rfl
   obtain⟨C,t1,t2,t3⟩:∃ C:Bool,(if(!S.isSome)=true then some true else Option.bind (cA (n+10) 324 [dC (pu u x y q r l m),vV S]) λP=>Option.bind (D.bin .gtr P (D.int .i64 0)) λQ=>D.truth Q)=some C/\(C=true->sp S u=some (u,pu u x y q r l m))/\(C=false->sp S u=S):=by
    cases S with
    | none=>exact⟨true,rfl,λ_=>by rw[c];unfold eQ;rw[if_neg hneg],λh=>by cases h⟩
    | some p=>
     have v:=N3 (n+4) ov (bS (d p rfl)) (.inl rfl);refine⟨decide (p.2<pu u x y q r l m),?_,λh=>?_,λh=>?_⟩
     ·rw[<-FD];exact qb (aa v (aa cw ac))
     ·rw[decide_eq_true_eq] at h;rw[c];unfold eQ;rw[if_neg hneg];simp only[h,if_true]
     ·rw[decide_eq_false_iff_not] at h;rw[c];unfold eQ;rw[if_neg hneg];simp only[h,if_false]
   refine aa t1 (aa ac ?_);cases C with
   | false=>exact qb (congrArg some (skip (t3 rfl)))
   | true=>
    have B:=LU (n+3) (a:=addW (some (c6 u x q l)) (some (-(c6 u.neg y r m)))) (b:=some (Rat.divInt 1 2)) (BM _ _) (bS (rT.InR (by decide) (by decide)))
    rw[Vq h hu] at B;have O:=Oa (n+3) (a:=some (c6 u x q l)) (b:=some (-(c6 u.neg y r m))) (bS (gE hu h.pa h.la h.na)) (xB (a:=some (c6 u.neg y r m)) (bS (gE (gc hu) h.pb h.lb h.nb)));refine dX (take (t2 rfl) (gx (aa (Jq (n+2) hu h.pa h.la h.na h.ka) (gx (aa (Fu (n+8) hu) (aa (Jq (n+2) (gc hu) h.pb h.lb h.nb h.kb) (aa (LW (n+4) (a:=some (c6 u.neg y r m)) (bS (gE (gc hu) h.pb h.lb h.nb))) (aa O (gx (aa (UZ (n+4) (fk 1) (fk 2) (by decide)) (aa B (by rw[t];rfl))))))))))))
 ·subst N;refine⟨_,aa (z:=K.map ab) rfl (aa ah (aa ac (aD (by rw[au];omega) rfl))),?_⟩
  rw[z3a];rfl
end
def Ff(a:V->Rat)(S:Option (V×Rat)):D.beq (fg a S) (fg a S)=true:=by
 cases S with
 | none=>rfl
 | some p=>
  show(D.beq (ab p.1) (ab p.1)&&(D.beq (dC (a p.1)) (dC (a p.1))&&true))=true;rw[iC,NL,decide_eq_true rfl];rfl
def Mt{call:Nat->List D->Option D}(n:Nat)(x y:V)(q r:Nat->Int)(l m:List V)
  (hc:∀ f xs,f≠415->call f xs=cA (n+1040) f xs) (b:call 415 []=some (.bool true)):IL aL call (dc x q) (cd l) (dc y r) (cd m)=some (.bool true):=by
 delta IL qG qT qN
 obtain⟨v,h1,i⟩:=U4 (n+1029) x y q r l m;refine aa ((hc 414 _ (by decide)).trans h1) (aa aM (aa ac ?_))
 cases v with
 | false=>exact dX (aa b rfl)
 | true=>
 obtain⟨hp,hul,c⟩:=i rfl;obtain⟨F,E,g⟩:=KI hp.la hul.len hul.srt;obtain⟨G,E',h⟩:=KI hp.lb c.len c.srt;have d:=U5 (n+6) hp g h;have e:=U6 (n+1029) hp g h;generalize (eM x y q r l m (lY q r l m F G E E')).2=S at *;refine qb (aa ((hc 416 _ (by decide)).trans d) (aa (z:=fg (λu=>JB u x y q r l m) S) rfl (aa (z:=.bool S.isSome) rfl (aa ((hc 417 _ (by decide)).trans e) (aa b (aa ac (aa (z:=true) (dX (aa (z:=.bool S.isSome) rfl ?_)) (aa ac (aa (z:=true) (dX (aa (z:=fg (λu=>JB u x y q r l m) S) rfl (by rw[Ff];rfl))) rfl)))))))))
 generalize S.isSome=a;cases a<;>rfl
end Sy
end
noncomputable section
namespace Sy
open Go Go.Proofs Geo
def ctr408{d0 d1 d2 d3:D}(h0:wt bn d0)(h1:wt K3 d1)(a:wt bn d2)(b:wt K3 d3):Lt Tryz.prog [bn,K3,bn,K3] .bool 3 [d0,d1,d2,d3] (.bool true):=by
 have hw:eO [bn,K3,bn,K3] [d0,d1,d2,d3]:=⟨_,_,rfl,h0,_,_,rfl,h1,_,_,rfl,a,_,_,rfl,b,rfl⟩;obtain⟨x,q,rfl⟩:=Hm h0;obtain⟨l,rfl⟩:=Ln h1;obtain⟨y,r,rfl⟩:=Hm a;obtain⟨m,rfl⟩:=Ln b;have key:=NI tI (yE (0+1040)) (Fy _) [bn,K3,bn,K3] .bool [dc x q,cd l,dc y r,cd m] (.bool true) (by kernel_rfl) (Mt 0 x y q r l m (λf xs c=>by unfold yE;rw[if_neg c]) (by unfold yE;rw[if_pos rfl];exact Bq)) hw
 rw[show jn (cc 408)=0 by kernel_rfl] at key
 exact key.1
end Sy
end
noncomputable section
set_option maxHeartbeats 1000000
open Go Go.ChangeShapes Go.WideShapes Go.ChangeAt Go.RowKit
def Vz:ownKnob Tryz.prog.godebug=none:=by kernel_rfl
def Gi:laidOutB Tryz.prog=true:=by kernel_rfl
def MK:Tryz.prog.underlying 4=some .bool:=by kernel_rfl
def CM:Tryz.f3.params=#[27,30,27,30]:=by kernel_rfl
def OE:Sy.zm Tryz.prog [Sy.bn,Sy.K3,Sy.bn,Sy.K3] [27,30,27,30]=true:=by kernel_rfl
def OR:List.all [27,30,27,30] (λt=>Tryz.prog.readableRec t&&decide (t<Tryz.prog.types.size))=true:=by kernel_rfl
def EA{l:Array TypeId}(h:l.toList.all (λt=>!(Tryz.prog.wantsStandIn t))=true){j:Nat}{t:TypeId}(b:l[j]?=some t):Tryz.prog.wantsStandIn t=false:=by
 have:=zpa.1 h t (by have:=zZa (l:=l.toList) (i:=j) (a:=t) (by simpa using b);exact this)
 simpa using this
def shape{α:Type}{l:List α}(h:l.length=4):∃ d0 d1 d2 d3,l=[d0,d1,d2,d3]:=by
 match l,h with
 | [d0,d1,d2,d3],_=>exact⟨d0,d1,d2,d3,rfl⟩
def vI(os:Os):World:=
 let w0:=World.holding Tryz.prog os ⟨#[],#[],[]⟩
 { w0 with heap:=w0.heap.modify 0 λ
   | .cells _ t frozen=>.cells #[.int .u8 0,.int .u8 1,.int .u8 28,.int .u8 2,.int .u8 29,.int .u8 14,.int .u8 24,.int .u8 3,.int .u8 30,.int .u8 22,.int .u8 20,.int .u8 15,.int .u8 25,.int .u8 17,.int .u8 4,.int .u8 8,.int .u8 31,.int .u8 27,.int .u8 13,.int .u8 23,.int .u8 21,.int .u8 19,.int .u8 16,.int .u8 7,.int .u8 26,.int .u8 12,.int .u8 18,.int .u8 6,.int .u8 11,.int .u8 5,.int .u8 10,.int .u8 9] t frozen
   | o=>o }
def uR(os:Os)(args:Array Value):laidMet Tryz.prog Rows.planeSeparatesAsSpecifiedRow.laid ((vI os).forCall (λ_ _=>0) ⟨#[],args,[]⟩).memory:=
 laidMet_of_run' 8 (by kernel_rfl) (by kernel_rfl)
set_option maxRecDepth 100000 in
theorem planeSeparatesAsSpecified_lifted(os:Os)(started:os.Started)(H:Type)(enc:TypeId×Value->H) :
  ReturnsInHanded {} Tryz.checked os 3 .any (λw args=>(Rows.planeSeparatesAsSpecifiedSpec.pre enc Tryz.prog Tryz.f3 Rows.planeSeparatesAsSpecifiedRow.domain false w args/\laidMet Tryz.prog Rows.planeSeparatesAsSpecifiedRow.laid w)/\sizedMet enc Tryz.prog Tryz.f3 (OpenSpec.ofChange Rows.planeSeparatesAsSpecifiedSpec) false w args) (Rows.planeSeparatesAsSpecifiedSpec.post enc Tryz.prog Tryz.f3 false true false false):=by
 refine returnsInHanded_of_change_and (C:=Tryz.checked) (X:=λw _=>laidMet Tryz.prog Rows.planeSeparatesAsSpecifiedRow.laid w) (λ_ _ _ E h=>h.of_heap E) Vz started (by kernel_rfl) (show Tryz.prog.funcs[3]?=some Tryz.f3 by kernel_rfl)
  (ChangeSpec.witness_at (enc:=enc) (C:=Tryz.checked) (os:=os) (X:=λw _=>laidMet Tryz.prog Rows.planeSeparatesAsSpecifiedRow.laid w) false (vI os) #[.agg #[.int .i64 0,.int .i64 0,.int .i64 0,.int .i64 0,.int .i64 0,.int .i64 0,.int .i64 0],.agg #[.slice none 0 0],.agg #[.int .i64 0,.int .i64 0,.int .i64 0,.int .i64 0,.int .i64 0,.int .i64 0,.int .i64 0],.agg #[.slice none 0 0]] 8 rfl (by kernel_rfl) (by kernel_rfl) (by kernel_rfl) (by kernel_rfl) (by kernel_rfl) (uR os _)) ?_
 intro W base args u gs before a o s _ _ _;have c:∀ (j:Nat) t v,Tryz.f3.params[j]?=some t->args[j]?=some v->Value.okWide Tryz.prog W .any base t v:=a;have f:=o;obtain⟨p,q,d,z,rfl,D,F⟩:=o;have g:DataW.TrodAll enc Tryz.prog W 0 (λ_=>true) true Tryz.f3.params.toList args.toList u p:=d;rw[CM] at g c;obtain⟨rfl,rfl⟩:=trodVars_none z;clear d a;obtain⟨xs,hx,K,hlen,A⟩:=Sy.Jb OE g (λj t v h1 y=>c j t v (by simpa using h1) (by simpa using y))
 have n:=hx;obtain⟨N,r0,rfl,w0,O,r1,rfl,w1,Q,L,rfl,I,R,M,rfl,J,hn⟩:=n;have l:_=[]:=hn;subst l;have b:=Sy.ctr408 w0 w1 I J  W (Sy.pq W) args.toList (λ_ _ h=>Sy.valid_lt h) hx hlen A;rw[z9b] at b;obtain⟨d0,d1,d2,d3,rfl⟩:=shape (Sy.L4 g);refine Go.Calls.mono b λe W' he=>?_;obtain⟨v,rfl,⟨os',dr,B,rfl⟩,_,G⟩:=he;have m:v=.bool true:=Sy.bool_of G;subst m;have r:Below W.heap.size W (grown W os' dr):=⟨rfl,rfl,rfl,by simp[grown],λk hk=>cG W os' dr hk⟩
 have i:∀ x∈p,x.block<W.heap.size:=λx hx=>by simpa using f.lt x (by simpa using hx)
 exact⟨_,rfl,_,_,_,[],p,[],f,trodAll_mk1 ((Go.RowKit.shut_bool (P:=Tryz.prog) MK true)),Sy.Di Gi OR g r i,rfl,r.frame _,λh=>by cases h⟩
theorem planeSeparatesAsSpecified_row:Rows.PlaneSeparatesAsSpecifiedSaid:=
 OpenClaim.holds_of_wide 3 Tryz.f3 rfl rfl rfl rfl rfl rfl rfl ⟨rfl,rfl,rfl,rfl,rfl⟩ rfl rfl rfl rfl rfl (by kernel_rfl) (show Tryz.prog.funcs[3]?=some Tryz.f3 by kernel_rfl) (by kernel_rfl)
  (of_decide_eq_true (by kernel_rfl)) (by unfold Func.isWrapper;first|(rw[if_pos (by decide +kernel)];kernel_rfl)|(rw[if_neg (by decide +kernel)];exact⟨rfl,rfl⟩))
  (λos started H enc _=>planeSeparatesAsSpecified_lifted os started H enc)
theorem planeSeparatesAsSpecified_holds:Rows.PlaneSeparatesAsSpecifiedCardSaid:=
 Claim7.holds_tied_plain_at .later [] [.data] true (true, "af7a03bd2c7ac196ce4e3bd4e884afe91d5d9462e962db29bbf1e0f2b31f9681") false
  planeSeparatesAsSpecified_row (λ_ h=>by cases h) (by kernel_rfl) (λ_ h=>by cases h) planeSeparatesAsSpecified_row_tie rfl ⟨rfl,rfl⟩ (by kernel_rfl) rfl
  (λf fn hf hfn=>by
   obtain rfl:f=3:=zqd ((show Tryz.prog.funcNamed Rows.planeSeparatesAsSpecifiedRow.func=some 3 by kernel_rfl).symm.trans hf) |>.symm
   obtain rfl:fn=Tryz.f3:=(zqd ((show Tryz.prog.funcs[3]?=some Tryz.f3 by kernel_rfl).symm.trans hfn)).symm
   exact⟨by kernel_rfl,λj t ht=>EA (by rw[CM];kernel_rfl) ht⟩)
  (by kernel_rfl)
end
end Go.Proofs.YtphlmegkommlnaaGreatDoor
