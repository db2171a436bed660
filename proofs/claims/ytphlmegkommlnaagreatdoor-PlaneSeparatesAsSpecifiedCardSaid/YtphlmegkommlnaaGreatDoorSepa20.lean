/- Part 20 of the proof that PlaneSeparatesAsSpecified answers true at every input -/
import Derived.Test.YtphlmegkommlnaaGreatDoorSepa18
import Derived.Test.YtphlmegkommlnaaGreatDoorSepa19
set_option linter.unusedVariables false
set_option linter.unusedSimpArgs false
set_option linter.unnecessarySimpa false
set_option linter.defProp false
set_option maxRecDepth 20000
namespace Go.Proofs.YtphlmegkommlnaaGreatDoor
noncomputable section
namespace Sy
open Go Go.Proofs Geo
def gw(x:V):List V->List V
 | []=>[x]
 | y::L=>if aG x y\/x=y then x::(y::L).filter (λz=>decide (z≠x)) else y::gw x L
def du(l:List V):List V:=l.foldl (λo x=>gw x o) []
theorem zh(x:V):∀ L:List V,(gw x L).length<=L.length+1
 | []=>by simp[gw]
 | y::L=>by
  have:=zh x L;unfold gw;all_goals grind
theorem tL{x z:V}:∀ {L:List V},z∈gw x L↔z=x\/z∈L
 | []=>by simp[gw]
 | y::L=>by
  have ih:=tL (x:=x) (z:=z) (L:=L);unfold gw;all_goals grind
theorem zi{x:V}:∀ {L:List V},L.Pairwise aG->(gw x L).Pairwise aG
 | [],_=>by simp[gw]
 | y::L,h=>by
  obtain⟨h1,i⟩:=zFa.1 h;unfold gw;split
  ·rename_i c;refine zFa.2 ⟨λz f=>?_,h.filter _⟩;obtain⟨d,g⟩:=zxc.1 f;have j:z≠x:=by simpa using g
   rcases zza.1 d with rfl|d
   ·grind
   ·rcases c with h|h
    ·exact lK h (h1 z d)
    ·simp_all
  ·rename_i c;refine zFa.2 ⟨λz f=>?_,zi i⟩;rcases tL.1 f with rfl|f
   ·rcases qi (a:=z) (b:=y) (λe=>c (.inr e)) with k|k
    ·simp_all
    ·exact k
   ·exact h1 z f
def ut(l:List V):(du l).Pairwise aG:=by
 unfold du;have:∀ (l o:List V),o.Pairwise aG->(l.foldl (λo x=>gw x o) o).Pairwise aG:=by
  intro l
  induction l with
  | nil=>intro o h;exact h
  | cons x l ih=>intro o h;exact ih _ (zi h)
 simp_all
def zt{l:List V}{z:V}:z∈du l↔z∈l:=by
 unfold du;have:∀ (l o:List V),z∈l.foldl (λo x=>gw x o) o↔z∈l\/z∈o:=by
  intro l
  induction l with
  | nil=>intro o;simp
  | cons x l ih=>
   intro o;rw[zhc,ih,tL,zza];all_goals grind
 simp_all
def pi(l:List V):(du l).length<=l.length:=by
 unfold du;have:∀ (l o:List V),(l.foldl (λo x=>gw x o) o).length<=l.length+o.length:=by
  intro l
  induction l with
  | nil=>intro o;simp
  | cons x l ih=>
   intro o;have h1:=ih (gw x o);have a:=zh x o;grind
 grind
def G3{l:List V}(h:l.Pairwise aG):E8 l:=λi j a b=>by
 have:=zDb.1 h i j (by omega) b a
 simpa [pt,List.getD,b,show i<l.length by omega] using this
def Ko{l:List V}(h:l.Pairwise aG):du l=l:=
 mO (r:=aG) mG vN (ut l) h λx=>zt
def ZF(n:Nat)(l:List V)(hlen:l.length<=1000000):cA (n+2) 47 [aT l]=some (aT (du l)):=by
 rw[Z4]
 delta Pt qB qC qT qN qX qL qV qW qZ iL iR Jn
 have m:(l.map ab).length=l.length:=zma ..;refine bq (λi s=>s=[aT (du (l.take i)),I (i:Int)]) l.length 0 (zla _) rfl (λi p s j=>?_) (λs j=>?_)
 ·subst j;left;refine⟨[aT (du (l.take (i+1))),I ((i+1:Nat):Int)],?_,rfl⟩;have A:du (l.take (i+1))=gw (l.getD i V.zero) (du (l.take i)):=by
   grind [du,List.take_succ_eq_append_getElem,List.getD]
  have u:(du (l.take i)).length<=1000000:=zBa (pi _) (by rw[zYa];omega)
  rw[A];obtain⟨o,w⟩:∃ o,du (l.take i)=o:=⟨_,rfl⟩;obtain⟨x,hx⟩:∃ x,l.getD i V.zero=x:=⟨_,rfl⟩;have c:(l.map ab)[i]?=some (ab x):=by rw[<-hx];exact cZ p
  rw[w] at u ⊢;rw[hx];have ol:(o.map ab).length=o.length:=zma ..;refine aa (z:=l.map ab) rfl (aa ah (aa ac (aA (by show((i:Int)<((l.map ab).length:Int));rw[m];omega) ?_)))
  refine bC (λk s=>∃ (nx:List V) (put:Bool),s=[aT o,aT nx,.bool put,I (k:Int)]/\nx.length<=2*k/\(put=false->gw x o=nx++gw x (o.drop k))/\(put=true->gw x o=nx++(o.drop k).filter (λz=>decide (z≠x)))) o.length 0 (zla _) ⟨[],false,rfl,by simp,by simp,by simp⟩ (λk hk s j=>?_) (λs j=>?_)
  ·obtain⟨nx,put,rfl,t,h1,q⟩:=j;left;have v:o.drop k=o.getD k V.zero::o.drop (k+1):=by rw[zpb hk];simp[List.getD,hk]
   have d:(o.map ab)[k]?=some (ab (o.getD k V.zero)):=cZ hk;obtain⟨y,B⟩:∃ y,o.getD k V.zero=y:=⟨_,rfl⟩;rw[B] at v d;rw[v] at h1 q;obtain⟨f,g,he,G,C,E⟩:∃ (f:List V) (g:Bool),(if put=false/\(aG x y\/x=y) then(nx++[x],true) else(nx,put))=(f,g)/\f.length<=2*k+1/\(g=false->x≠y/\gw x o=f++y::gw x (o.drop (k+1)))/\(g=true->gw x o=f++(y::o.drop (k+1)).filter (λz=>decide (z≠x))):=by
    by_cases hp:put=false/\(aG x y\/x=y)
    ·refine⟨_,_,if_pos hp,by simp;omega,by simp,λ_=>?_⟩
     rw[h1 hp.1,gw,if_pos hp.2];simp
    ·refine⟨_,_,if_neg hp,by omega,λe=>?_,λe=>q e⟩
     have hn:¬ (aG x y\/x=y):=λh=>hp ⟨e,h⟩;refine⟨λh=>hn (.inr h),?_⟩;rw[h1 e,gw,if_neg hn]
   refine⟨[aT o,aT (if y≠x then f++[y] else f),.bool g,I ((k+1:Nat):Int)],?_,_,g,rfl,?_,?_,?_⟩
   ·refine aa ah (aa ac (aA (by show((k:Int)<((o.map ab).length:Int));rw[ol];omega) ?_))
    have app:∀ (a:List V) (z:V),D.sl ((a.map ab)++[ab z])=aT (a++[z]):=λa z=>by simp[aT]
    have r:∀ a:List V,(a.map ab).length=a.length:=λa=>zma ..;refine aa (z:=(0,[aT o,aT (if y≠x then f++[y] else f),.bool g])) ?_ (aa (aq (ay (i:=k) (by omega))) rfl)
    refine aa (z:=l.map ab) rfl (aa (z:=i) (by rw[m];exact am p) (aa c (aa (z:=k) (by show D.idx (I (k:Int)) (o.map ab).length=_;rw[ol];exact am hk) (aa d (aa (NP n x y) (aa (z:=(0,[aT o,aT f,.bool g])) ?_ ?_))))))
    ·refine aa (z:=.bool (!put)) rfl (aa ac (aa (z:=!put&&decide (aG x y\/x=y)) ?_ (aa ac ?_)))
     ·cases put
      ·rw[show(!false)=true from rfl,if_pos rfl];refine aa ac ?_;by_cases hlt:aG x y
       ·refine aA hlt ?_;rw[decide_eq_true (.inl hlt)];rfl
       ·refine aD hlt ?_;refine aa (z:=l.map ab) rfl (aa (z:=i) (by rw[m];exact am p) (aa c (aa (z:=k) (by show D.idx (I (k:Int)) (o.map ab).length=_;rw[ol];exact am hk) (aa d ?_))))
        rw[iC,ac];simp[hlt]
      ·rfl
     ·by_cases hp:put=false/\(aG x y\/x=y)
      ·rw[if_pos hp] at he;cases he;rw[show(!put&&decide (aG x y\/x=y))=true by rw[hp.1,decide_eq_true hp.2];rfl,if_pos rfl]
       refine aa (z:=l.map ab) rfl (aa (z:=i) (by rw[m];exact am p) (aa c ?_))
       rw[if_pos (by show(nx.map ab).length+1<=1073741824;rw[r];omega)]
       rw[<-app];rfl
      ·rw[if_neg hp] at he;cases he;rw[show(!put&&decide (aG x y\/x=y))=false by
        cases hput:put
        ·have:¬ (aG x y\/x=y):=λh=>hp ⟨hput,h⟩;simp[this]
        ·rfl]
       rfl
    ·refine aa (z:=k) (by show D.idx (I (k:Int)) (o.map ab).length=_;rw[ol];exact am hk) (aa d (aa (z:=l.map ab) rfl (aa (z:=i) (by rw[m];exact am p) (aa c ?_))))
     rw[iC];refine aa ac ?_;by_cases b:y=x
     ·rw[decide_eq_true b,if_neg (show ¬ (y≠x) from λh=>h b)];rfl
     ·rw[decide_eq_false b,if_pos (show y≠x from b),show(!false)=true from rfl,if_pos rfl];refine aa (z:=k) (by show D.idx (I (k:Int)) (o.map ab).length=_;rw[ol];exact am hk) (aa d ?_)
      rw[if_pos (by show(f.map ab).length+1<=1073741824;rw[r];omega)]
      rw[<-app];rfl
   ·split
    ·simp;omega
    ·omega
   ·intro e;obtain⟨r1,F⟩:=C e;rw[if_pos (λh=>r1 h.symm),F];simp
   ·intro e;rw[E e,List.filter_cons];by_cases b:y=x
    ·simp[b]
    ·simp[b]
  ·obtain⟨nx,put,rfl,t,h1,q⟩:=j;refine⟨(0,[aT nx,.bool put]),?_,?_⟩
   ·exact aa ah (aa ac (aD (by show ¬ ((o.length:Int)<((o.map ab).length:Int));rw[ol];omega) rfl))
   ·have r:∀ a:List V,(a.map ab).length=a.length:=λa=>zma ..;rw[z5c] at h1 q;refine aa (z:=(0,[aT (gw x o)])) ?_ (aa (aq (ay (i:=i) (by omega))) rfl)
    refine aa (z:=.bool (!put)) rfl (aa ac ?_);cases put
    ·rw[show(!false)=true from rfl,if_pos rfl];refine aa (z:=l.map ab) rfl (aa (z:=i) (by rw[m];exact am p) (aa c ?_))
     rw[if_pos (by show(nx.map ab).length+1<=1073741824;rw[r];omega)]
     rw[h1 rfl];simp[gw,aT,g0,D.els]
    ·have:=q rfl;simp only[List.filter_nil,ztb] at this;rw[this];rfl
 ·subst j;rw[z3a];refine⟨(0,[aT (du l)]),?_,rfl⟩;exact aa (z:=l.map ab) rfl (aa ah (aa ac (aD (by show ¬ ((l.length:Int)<((l.map ab).length:Int));rw[m];omega) rfl)))
structure FOk(l:List V)(F:FL):Prop where
 ord:F.Pairwise (λa b=>aG a.1.1 b.1.1)
 ok:∀ f∈F,IsF (pt l) l.length f.1.1 f.1.2/\bD (pt l) l.length f.1.1 f.1.2 f.2
theorem lP{f x:(V×Int)×List Nat}:∀ {L:FL},x∈kZ f L↔x=f\/x∈L
 | []=>by simp[kZ]
 | y::L=>by
  have ih:=lP (f:=f) (x:=x) (L:=L);unfold kZ;all_goals grind
theorem zg{f:(V×Int)×List Nat}:∀ {L:FL},L.Pairwise (λa b=>aG a.1.1 b.1.1)->(∀ x∈L,x.1.1≠f.1.1)->(kZ f L).Pairwise (λa b=>aG a.1.1 b.1.1)
 | [],_,_=>by simp[kZ]
 | y::L,h,hn=>by
  obtain⟨h1,e⟩:=zFa.1 h;unfold kZ;split
  ·rename_i k;refine zFa.2 ⟨λz c=>?_,h⟩;rcases zza.1 c with rfl|c
   ·exact k
   ·exact lK k (h1 z c)
  ·rename_i k;refine zFa.2 ⟨λz c=>?_,zg e λx hx=>hn x (zia _ hx)⟩;rcases lP.1 c with rfl|c
   ·rcases qi (hn y zra) with d|d
    ·exact d
    ·simp_all
   ·grind
def B0(l:List V):List (V×Int):=(List.range l.length).flatMap λi=>(List.range l.length).flatMap λj=>(List.range l.length).flatMap λk=>[(az (eN (pt l) i j k),V.dot (az (eN (pt l) i j k)) (pt l i)),((az (eN (pt l) i j k)).neg,V.dot (az (eN (pt l) i j k)).neg (pt l i))]
def Dp(l:List V)(h:l.length<=100):(B0 l).length<=2000000:=by
 unfold B0;rw[nM (c:=l.length*(l.length*2)) _ (λi _=>by rw[nM (c:=l.length*2) _ (λj _=>by rw[nM (c:=2) _ (λk _=>rfl),zRb]),zRb]),zRb]
 have a1:l.length*2<=200:=by omega
 have a2:l.length*(l.length*2)<=100*200:=z1a h a1;exact z1a h a2
def DE{l:List V}{q:V×Int}(h:IsF (pt l) l.length q.1 q.2):q∈B0 l:=by
 obtain⟨i,j,k,h1,b,a,c,d,e⟩:=h.ex;refine zgb.2 ⟨i,zNa.2 (by omega),zgb.2 ⟨j,zNa.2 (by omega),zgb.2 ⟨k,zNa.2 a,?_⟩⟩⟩
 grind
def FOk.len{l:List V}{F:FL}(h:FOk l F)(hl:l.length<=100):F.length<=2000000:=by
 have nd:(F.map Prod.fst).Nodup:=by
  refine List.pairwise_map.2 (h.ord.imp λ{a b} c e=>?_);rw[e] at c;exact mG _ c
 have:=z4b (l₂:=B0 l) nd λq hq=>by
  obtain⟨f,d,rfl⟩:=zab.1 hq;exact DE (h.ok f d).1
 rw[zma] at this;exact zBa this (Dp l hl)
def FOk.insert{l:List V}{F:FL}(h:FOk l F){f:(V×Int)×List Nat}(hn:∀ x∈F,x.1.1≠f.1.1)(h1:IsF (pt l) l.length f.1.1 f.1.2)(a:bD (pt l) l.length f.1.1 f.1.2 f.2):FOk l (kZ f F):=
 ⟨zg h.ord hn,λx hx=>by
  rcases lP.1 hx with rfl|hx
  ·simp_all
  ·exact h.ok x hx⟩
theorem tW{v:V}:az v=V.zero↔v=V.zero:=by
 constructor
 ·intro h;by_cases a:v=V.zero
  ·exact a
  ·exact absurd h (si a)
 ·simp_all [az,V.zero]
theorem DV{v:V}:v.neg=V.zero↔v=V.zero:=by
 constructor
 ·intro h;by_cases a:v=V.zero
  ·exact a
  ·exact absurd h (Gy a)
 ·simp_all [V.neg,V.zero]
def aC{α β:Type}{A:Option α}{g:α->Option β}{z:α}{Y:β->Prop}(h:A=some z)(hk:∃ y,g z=some y/\Y y):∃ y,Option.bind A g=some y/\Y y:=by
 simp_all
def jm{β:Type}{p:Prop}[Decidable p]{A B:Option β}{Y:β->Prop}(h:p)(a:∃ y,A=some y/\Y y):∃ y,(if decide p=true then A else B)=some y/\Y y:=by rw[if_pos (decide_eq_true h)];exact a
def Cj{β:Type}{p:Prop}[Decidable p]{A B:Option β}{Y:β->Prop}(h:¬ p)(a:∃ y,B=some y/\Y y):∃ y,(if decide p=true then A else B)=some y/\Y y:=by rw[if_neg (by simpa using h)];exact a
def Hf(n:Nat){l:List V}(hl:∀ x∈l,bd MV x)(hlen:l.length<=100)(U:E8 l){F:FL}(r:FOk l F){i j k:Nat}(t:i<j)(u:j<k)(hk:k<l.length){m:V}(hm:m=az (eN (pt l) i j k)\/m=(az (eN (pt l) i j k)).neg){α:Type}{g:D->Nat×List D->Option α}{Y:α->Prop}
  (s:∀ F':FL,FOk l F'->(∀ f∈F,f∈F')->(eN (pt l) i j k≠V.zero->Ax (pt l) l.length m (V.dot m (pt l i))->(m,V.dot m (pt l i))∈F'.map Prod.fst)->∃ y,g (I (V.dot m (pt l i))) (0,[.sl (aK F')])=some y/\Y y) :
  ∃ y,(Option.bind (cA (n+4) 107 [ab m,ab (pt l i)]) λo=>
  Option.bind (cA (n+4) 108 [.sl (aK F),ab m]) λM=>
  Option.bind (Option.bind (D.un .not M) λR=>
  Option.bind (D.truth R) λB=>
  Option.bind (if B then(Option.bind (D.un .not (D.bool (D.beq (ab m) (D.st [(D.int .i64 0),(D.int .i64 0),(D.int .i64 0)])))) λS=>
  D.truth S) else(some false)) λC=>
  Option.bind (D.truth (D.bool C)) λE=>
  Option.bind (if E then(Option.bind (cA (n+4) 109 [aT l,ab m,o]) λN=>
  D.truth N) else(some false)) λG=>
  Option.bind (D.truth (D.bool G)) λH=>
  if H then(Option.bind (cA (n+4) 111 [aT l,ab m,o]) λO=>
  Option.bind (cA (n+4) 110 [.sl (aK F),(D.st [ab m,o,O])]) λQ=>
  some (0,[Q])) else(some (0,[.sl (aK F)]))) (g o))=some y/\Y y:=by
 have K:i<l.length:=by omega
 have T:bd 549755813888 (az (eN (pt l) i j k)):=cX (iA (nj (P:=pt l) (hl _ (cD K)) (hl _ (cD (show j<l.length by omega)))) (nj (P:=pt l) (hl _ (cD K)) (hl _ (cD hk))))
 have J:bd 549755813888 m:=by
  rcases hm with rfl|rfl
  ·exact T
  ·exact pI T
 have X:=r.len hlen;have v:m=V.zero↔eN (pt l) i j k=V.zero:=by
  all_goals grind [DV,tW]
 refine aC (Dj (n+3) J (hl _ (cD K)) (by decide)) (aC (Ut (n+3) F m (by omega)) ?_)
 obtain⟨d,Z⟩:∃ d,V.dot m (l.getD i V.zero)=d:=⟨_,rfl⟩;have c:V.dot m (pt l i)=d:=Z;rw[c] at s;rw[c];by_cases hkn:(F.any λf=>decide (f.1.1=m))=true
 ·rw[hkn];refine aC (z:=(0,[.sl (aK F)])) (aa (z:=.bool false) rfl (aa (z:=false) rfl (aa (z:=false) rfl (aa (z:=false) rfl (aa (z:=false) rfl (aa (z:=false) rfl rfl)))))) (s F r (λf b=>b) λA a=>?_);obtain⟨f,b,h⟩:=z8b.1 hkn;have h:f.1.1=m:=by simpa using h
  have h1:=(r.ok f b).1;rw[h] at h1;have W:IsF (pt l) l.length m d:=⟨⟨i,j,k,t,u,hk,A,hm,c.symm⟩,a⟩;exact zab.2 ⟨f,b,Prod.ext h (IsF.d_eq h1 W)⟩
 ·rw[Bool.not_eq_true] at hkn;rw[hkn];have L:∀ f∈F,f.1.1≠m:=λf b e=>by
   grind
  by_cases hz:m=V.zero
  ·refine aC (z:=(0,[.sl (aK F)])) (aa (z:=.bool true) rfl (aa (z:=true) rfl (aa (z:=false) ?_ (aa (z:=false) rfl (aa (z:=false) rfl (aa (z:=false) rfl rfl)))))) (s F r (λf b=>b) λA a=>absurd (v.1 hz) A);rw[if_pos rfl,s9,iC,decide_eq_true (show m=⟨0,0,0⟩ from hz)];rfl
  ·have A:eN (pt l) i j k≠V.zero:=λe=>hz (v.2 e);have hc:=Uu (n+2) (d:=d) hl J (by decide) (by omega)
   by_cases a:supp l (m,d)=true
   ·have q:IsF (pt l) l.length m d:=⟨⟨i,j,k,t,u,hk,A,hm,c.symm⟩,pn.1 a⟩;obtain⟨p,hp,_,_⟩:=q.poly U;refine aC (z:=(0,[.sl (aK (kZ ((m,d),p) F))])) (aa (z:=.bool true) rfl (aa (z:=true) rfl (aa (z:=true) ?_ (aa (z:=true) rfl (aa (z:=true) ?_ (aa (z:=true) rfl ?_)))))) (s _ (r.insert L q hp) (λf b=>lP.2 (.inr b)) λ_ _=>zab.2 ⟨((m,d),p),lP.2 (.inl rfl),rfl⟩)
    ·rw[if_pos rfl,s9,iC,decide_eq_false (show ¬ m=⟨0,0,0⟩ from hz)];rfl
    ·rw[if_pos rfl];refine aa hc ?_;rw[ac];exact congrArg some a
    ·rw[if_pos rfl];exact aa (VA n hl hlen U q J hp) (aa (Uv (n+2) F ((m,d),p) (by omega)) rfl)
   ·refine aC (z:=(0,[.sl (aK F)])) (aa (z:=.bool true) rfl (aa (z:=true) rfl (aa (z:=true) ?_ (aa (z:=true) rfl (aa (z:=false) ?_ (aa (z:=false) rfl rfl)))))) (s F r (λf b=>b) λ_ w=>absurd (pn.2 w) a)
    ·rw[if_pos rfl,s9,iC,decide_eq_false (show ¬ m=⟨0,0,0⟩ from hz)];rfl
    ·rw[if_pos rfl];refine aa hc ?_;rw[ac];exact congrArg some (zdc.2 a)
structure KnF(l:List V)(i j k:Nat)(F:FL):Prop where
 fok:FOk l F
 all:∀ i' j' k',i'<j'->j'<k'->k'<l.length->(i'<i\/i'=i/\(j'<j\/j'=j/\k'<k))->eN (pt l) i' j' k'≠V.zero->∀ m,(m=az (eN (pt l) i' j' k')\/m=(az (eN (pt l) i' j' k')).neg)->Ax (pt l) l.length m (V.dot m (pt l i'))->(m,V.dot m (pt l i'))∈F.map Prod.fst
def KnF.mono{l:List V}{i j k i2 d g:Nat}{F:FL}(h:KnF l i j k F)(hm:∀ b a c,b<a->a<c->c<l.length->(b<i2\/b=i2/\(a<d\/a=d/\c<g))->(b<i\/b=i/\(a<j\/a=j/\c<k))):KnF l i2 d g F:=
 ⟨h.fok,λb a c h1 e f m=>h.all b a c h1 e f (hm b a c h1 e f m)⟩
def KnF.facets{l:List V}{F:FL}(h:KnF l l.length 0 0 F):Facets (pt l) l.length (F.map Prod.fst):=by
 refine⟨List.pairwise_map.2 h.fok.ord,λq=>⟨λhq=>?_,λhq=>?_⟩⟩
 ·obtain⟨f,g,rfl⟩:=zab.1 hq;exact(h.fok.ok f g).1
 ·obtain⟨⟨i,j,k,h1,c,e,c1,c2,a⟩,b⟩:=hq;obtain⟨m,d⟩:=q;simp only at c2 a b;subst a;exact h.all i j k h1 c e (.inl (by omega)) c1 m c2 b
end Sy
end
noncomputable section
namespace Sy
open Go Go.Proofs Geo
def mt(p:V):Nat->V
 | 0=>p
 | 1=>p.neg
 | _=>p
def Xw(n:Nat){l:List V}(hl:∀ x∈l,bd MV x)(hlen:l.length<=100)(N:E8 l):∃ F:FL,KnF l l.length 0 0 F/\cA (n+7) 48 [aT l]=some (.sl (aK F)):=by
 suffices h:∃ y,cA (n+7) 48 [aT l]=some y/\∃ F:FL,KnF l l.length 0 0 F/\y=.sl (aK F) by
  obtain⟨y,h1,F,c,rfl⟩:=h;exact⟨F,c,h1⟩
 rw[Z5]
 delta Pu qB qC qT qN qX qL qZ iL iR Jn
 have d:(l.map ab).length=l.length:=zma ..;refine oR (λi s=>∃ F:FL,s=[.sl (aK F),I (i:Int)]/\KnF l i 0 0 F) l.length 0 (zla _) ⟨[],rfl,⟨.nil,by simp⟩,λq r u h1 c v w=>by omega⟩ (λi o s a=>?_) (λs a=>?_)
 ·obtain⟨F,rfl,b⟩:=a;refine aC (z:=l.map ab) rfl (aC ah (aC ac (jm (by show((i:Int)<((l.map ab).length:Int));rw[d];omega) (aC (aq (ay (i:=i) (by omega))) ?_))))
  refine oR (λj s=>i+1<=j/\∃ F:FL,s=[.sl (aK F),I (j:Int)]/\KnF l i j 0 F) l.length (i+1) (by omega) ⟨zfa _,F,rfl,b.mono λq r u h1 c v w=>by omega⟩ (λj A s a=>?_) (λs a=>?_)
  ·obtain⟨H,F,rfl,b⟩:=a;refine aC (z:=l.map ab) rfl (aC ah (aC ac (jm (by show((j:Int)<((l.map ab).length:Int));rw[d];omega) (aC (aq (ay (i:=j) (by omega))) ?_))))
   refine oR (λk s=>j+1<=k/\∃ F:FL,s=[.sl (aK F),I (k:Int)]/\KnF l i j k F) l.length (j+1) (by omega) ⟨zfa _,F,rfl,b.mono λq r u h1 c v w=>by omega⟩ (λk hk s a=>?_) (λs a=>?_)
   ·obtain⟨J,F,rfl,b⟩:=a;refine aC (z:=l.map ab) rfl (aC ah (aC ac (jm (by show((k:Int)<((l.map ab).length:Int));rw[d];omega) ?_)))
    refine aC (z:=l.map ab) rfl (aC (z:=i) (by rw[d];exact am o) (aC (cZ o) (aC (z:=l.map ab) rfl (aC (z:=j) (by rw[d];exact am A) (aC (cZ A) (aC (z:=l.map ab) rfl (aC (z:=k) (by rw[d];exact am hk) (aC (cZ hk) (aC (z:=ab (az (eN (pt l) i j k))) (Us n (hl _ (cD o)) (hl _ (cD A)) (hl _ (cD hk))) ?_)))))))))
    have C:bd 549755813888 (az (eN (pt l) i j k)):=cX (iA (nj (P:=pt l) (hl _ (cD o)) (hl _ (cD A))) (nj (P:=pt l) (hl _ (cD o)) (hl _ (cD hk))));obtain⟨p,hp⟩:∃ p,az (eN (pt l) i j k)=p:=⟨_,rfl⟩;rw[hp] at C ⊢;have z0:bd 0 V.zero:=by simp only[bd,V.zero];omega
    have O:V.zero.sub p=p.neg:=by apply V.ext'<;>simp[V.sub,V.neg,V.zero]
    have Q:V.zero.sub p.neg=p:=by apply V.ext'<;>simp[V.sub,V.neg,V.zero]
    refine oR (λt s=>∃ F':FL,s=[.sl (aK F'),I (t:Int),ab (mt p t)]/\FOk l F'/\(∀ f∈F,f∈F')/\(1<=t->eN (pt l) i j k≠V.zero->Ax (pt l) l.length p (V.dot p (pt l i))->(p,V.dot p (pt l i))∈F'.map Prod.fst)/\(2<=t->eN (pt l) i j k≠V.zero->Ax (pt l) l.length p.neg (V.dot p.neg (pt l i))->(p.neg,V.dot p.neg (pt l i))∈F'.map Prod.fst)) 2 0 (by omega) ⟨F,rfl,b.fok,λf g=>g,λh=>by omega,λh=>by omega⟩ (λt R s a=>?_) (λs a=>?_)
    ·obtain⟨F',rfl,f1,f2,f3,f4⟩:=a;refine aC ah (aC ac (jm (by show((t:Int)<2);omega) (aC (z:=l.map ab) rfl (aC (z:=i) (by rw[d];exact am o) (aC (cZ o) ?_)))))
     have K:t=0\/t=1:=by omega
     simp only[g0,g1,g2];rcases K with rfl|rfl
     ·rw[show mt p 0=p from rfl];refine Hf (n+2) hl hlen N f1 (show i<j by omega) (show j<k by omega) hk (m:=p) (.inl hp.symm) (λF2 L B M=>?_)
      refine⟨.inl [.sl (aK F2),I ((0+1:Nat):Int),ab p.neg],?_,?_⟩
      ·refine aa (z:=ab p.neg) ?_ ?_
       ·have:=wW (n+5) z0 C (by decide)
        rw[O] at this;exact this
       ·exact aa (aq KX) rfl
      ·exact⟨F2,rfl,L,λf g=>B f (f2 f g),λ_=>M,λh=>by omega⟩
     ·rw[show mt p 1=p.neg from rfl];refine Hf (n+2) hl hlen N f1 (show i<j by omega) (show j<k by omega) hk (m:=p.neg) (.inr (by rw[hp])) (λF2 L B M=>?_)
      refine⟨.inl [.sl (aK F2),I ((1+1:Nat):Int),ab p],?_,F2,rfl,L,λf g=>B f (f2 f g),λ_ h1 c=>?_,λ_=>M⟩
      ·refine aa (z:=ab p) ?_ ?_
       ·have:=wW (n+5) z0 (pI C) (by decide)
        rw[Q] at this;exact this
       ·exact aa (aq rZ) rfl
      ·obtain⟨f,g,e⟩:=zab.1 (f3 (zfa _) h1 c);exact zab.2 ⟨f,B f g,e⟩
    ·obtain⟨F',rfl,f1,f2,f3,f4⟩:=a;refine⟨.inr (0,[.sl (aK F')]),aa ah (aa ac (aD (by decide) rfl)),.inl [.sl (aK F'),I ((k+1:Nat):Int)],aa (aq (ay (i:=k) (by omega))) rfl,by omega,F',rfl,f1,λq r u h1 c v w D m E G=>?_⟩
     by_cases e:q=i/\r=j/\u=k
     ·obtain⟨rfl,rfl,rfl⟩:=e;rw[hp] at E;rcases E with rfl|rfl
      ·exact f3 (by omega) D G
      ·exact f4 (by omega) D G
     ·obtain⟨f,g,e⟩:=zab.1 (b.all q r u h1 c v (by omega) D m E G)
      exact zab.2 ⟨f,f2 f g,e⟩
   ·obtain⟨J,F,rfl,b⟩:=a;refine⟨.inr (0,[.sl (aK F)]),?_,.inl [.sl (aK F),I ((j+1:Nat):Int)],aa (aq (ay (i:=j) (by omega))) rfl,by omega,F,rfl,b.mono λq r u h1 c v w=>by omega⟩
    exact aa (z:=l.map ab) rfl (aa ah (aa ac (aD (by show ¬ ((l.length:Int)<((l.map ab).length:Int));rw[d];omega) rfl)))
  ·obtain⟨H,F,rfl,b⟩:=a;refine⟨.inr (0,[.sl (aK F)]),?_,.inl [.sl (aK F),I ((i+1:Nat):Int)],aa (aq (ay (i:=i) (by omega))) rfl,F,rfl,b.mono λq r u h1 c v w=>by omega⟩
   exact aa (z:=l.map ab) rfl (aa ah (aa ac (aD (by show ¬ ((l.length:Int)<((l.map ab).length:Int));rw[d];omega) rfl)))
 ·obtain⟨F,rfl,b⟩:=a;refine⟨.inr (0,[.sl (aK F)]),?_,.sl (aK F),rfl,F,b,rfl⟩;exact aa (z:=l.map ab) rfl (aa ah (aa ac (aD (by show ¬ ((l.length:Int)<((l.map ab).length:Int));rw[d];omega) rfl)))
end Sy
end
noncomputable section
namespace Sy
open Go Go.Proofs Geo
def au(l:List V):(l.map ab).length=l.length:=zma ..
def ZC(n:Nat)(a b:List V)(t:a.length<=1000000):cA (n+1) 13 [aT a,aT b]=some (.bool (decide (a=b))):=by
 rw[ZR]
 delta Ph qB qT qS qX qL qZ iL iR Jn
 refine aa (z:=a.map ab) rfl (aa (z:=b.map ab) rfl ?_);rw[au,au,ca];by_cases hab:a.length=b.length
 ·rw[decide_eq_true hab];refine aa (z:=false) rfl ?_;rw[if_neg (by decide)]
  refine bq (λi s=>s=[I (i:Int)]/\a.take i=b.take i) a.length 0 (zla _) ⟨rfl,by simp⟩ (λi k s j=>?_) (λs j=>?_)
  ·obtain⟨rfl,h⟩:=j;have d:i<b.length:=by omega
   have pre:∀ z,(Option.bind (D.truth (D.bool (!(D.beq (ab (a.getD i V.zero)) (ab (b.getD i V.zero)))))) λc=>
     if c then(some (Sum.inr (0,[(D.bool false)]))) else(Option.bind (D.bin .add (I (i:Int)) (D.int .i64 1)) λf=>some (Sum.inl [f])))=some z ->
     (Option.bind (D.asSl (aT a)) λq=>Option.bind (D.bin .lss (I (i:Int)) (D.int .i64 (List.length q))) λr=>Option.bind (D.truth r) λp=>
     if p then(Option.bind (D.asSl (aT a)) λo=>Option.bind (D.idx (I (i:Int)) (List.length o)) λi9=>Option.bind (o[i9]?) λl=>Option.bind (D.asSl (aT b)) λg=>Option.bind (D.idx (I (i:Int)) (List.length g)) λrZ=>Option.bind (g[rZ]?) λm=>
     Option.bind (D.truth (D.bool (!(D.beq l m)))) λc=>
     if c then(some (Sum.inr (0,[(D.bool false)]))) else(Option.bind (D.bin .add (I (i:Int)) (D.int .i64 1)) λf=>some (Sum.inl [f]))) else(some (Sum.inr (1,[]):Sum (List D) (Nat×List D))))=some z:=λz h=>
    aa (z:=a.map ab) rfl (aa ah (aa ac (aA (by show((i:Int)<((a.map ab).length:Int));rw[au];omega) (aa (z:=a.map ab) rfl (aa (z:=i) (by rw[au];exact am k) (aa (cZ k) (aa (z:=b.map ab) rfl (aa (z:=i) (by rw[au];exact am d) (aa (cZ d) h)))))))))
   rw[iC] at pre;by_cases he:a.getD i V.zero=b.getD i V.zero
   ·left;refine⟨[I ((i+1:Nat):Int)],pre _ ?_,rfl,?_⟩
    ·rw[decide_eq_true he];refine aa (z:=false) rfl ?_;rw[if_neg (by decide)]
     exact aa (aq (ay (i:=i) (by omega))) rfl
    ·rw[zua k,zua d,h]
     simp_all
   ·right;refine⟨(0,[.bool false]),pre _ ?_,?_⟩
    ·rw[decide_eq_false he];rfl
    ·rw[decide_eq_false (λe=>he (by rw[e]))];rfl
  ·obtain⟨rfl,h⟩:=j;refine⟨(1,[]),?_,?_⟩
   ·exact aa (z:=a.map ab) rfl (aa ah (aa ac (aD (by show ¬ ((a.length:Int)<((a.map ab).length:Int));rw[au];omega) rfl)))
   ·grind
 ·rw[decide_eq_false hab,decide_eq_false (λe=>hab (by rw[e]))]
  rfl
instance decBd (k:Int) (v:V):Decidable (bd k v):=by unfold bd;exact inferInstance
def oz(v:V):Nat->Int
 | 0=>v.x
 | 1=>v.y
 | _=>v.z
def FT(v:V){t:Nat}(h:t<3):D.fld (ab v) t=some (I (oz v t)):=by
 have:t=0\/t=1\/t=2:=by omega
 rcases this with rfl|rfl|rfl<;>rfl
def BR{v:V}:bd MV v↔∀ t,t<3->¬ (oz v t>262144)/\¬ (oz v t < -262144):=by
 constructor
 ·intro h t b;have:t=0\/t=1\/t=2:=by omega
  grind [bd,MV,oz]
 ·intro h;have h0:=h 0 (by decide);have h1:=h 1 (by decide);have a:=h 2 (by decide)
  simp_all [oz,bd,MV]
def jP(F:FL)(i:Nat):Bool:=F.any λf=>f.2.any λx=>decide (x=i)
def cW(S:List V)(F:FL)(k:Nat):List V:=((List.range k).filter (jP F)).map (pt S)
def BC(S:List V)(F:FL)(k:Nat):cW S F (k+1)=if jP F k then cW S F k++[pt S k] else cW S F k:=by
 grind [cW,List.range_succ]
def wL(S:List V)(F:FL)(k:Nat):(cW S F k).length<=k:=by
 grind [cW,List.length_map]
def AN(e:Int):D:=.st [.st [.sl []],I e]
def Cn(S:List V)(F:FL):D:=if F.length=0 then AN 120 else if F.length>64 then AN 2 else .st [.st [aT (cW S F S.length)],I 0]
def Jk(n:Nat){l:List V}(h:64<l.length):cA (n+1) 12 [aT l]=some (AN 2):=by
 rw[VX]
 delta MO qB qC qT qS qX qL qV qW qZ iL iR Jn
 exact aa (z:=l.map ab) rfl (aa cw (aa ac (aA (by show((l.map ab).length:Int)>64;rw[au];omega) rfl)))
def Mm{l:List V}{i:Nat}(B:i<l.length){α:Type}{k:Nat×List D->Option α}{y:α}(C:k (if bd MV (l.getD i V.zero) then(1,[.sl [],I 0]) else(0,[.sl [],I 1]))=some y) :
  Option.bind (aL (λ(j:List D)=>
 Option.bind (D.bin .lss (gx j 0) (D.int .i64 3)) λH=>
 Option.bind (D.truth H) λm=>
 if m then(Option.bind (D.asSl (aT l)) λc=>
 Option.bind (D.idx (I (i:Int)) (List.length c)) λrZ=>
 Option.bind (c[rZ]?) λr=>
 Option.bind (D.idx (gx j 0) 3) λi14=>
 Option.bind (D.fld r i14) λu=>
 Option.bind (D.bin .gtr u (D.int .i64 262144)) λv=>
 Option.bind (D.truth v) λn=>
 Option.bind (if n then(some true) else(Option.bind (D.asSl (aT l)) λd=>
 Option.bind (D.idx (I (i:Int)) (List.length d)) λi19=>
 Option.bind (d[i19]?) λw=>
 Option.bind (D.idx (gx j 0) 3) λi21=>
 Option.bind (D.fld w i21) λx=>
 Option.bind (D.bin .lss x (D.int .i64 (-262144))) λA=>
 D.truth A)) λo=>
 Option.bind (D.truth (D.bool o)) λp=>
 if p then(some (Sum.inr (0,[(D.sl []),(D.int .i64 1)]))) else(Option.bind (D.bin .add (gx j 0) (D.int .i64 1)) λf=>
 some (Sum.inl [f,(D.sl (D.els (gx j 1))),(gx j 2)]))) else(some (Sum.inr (1,[(D.sl (D.els (gx j 1))),(gx j 2)])))) [(D.int .i64 0),.sl [],I 0]) k=some y:=by
 refine bC (λt s=>s=[I (t:Int),.sl [],I 0]/\∀ q,q<t->¬ (oz (l.getD i V.zero) q>262144)/\¬ (oz (l.getD i V.zero) q < -262144)) 3 0 (by decide) ⟨rfl,λq h=>by omega⟩ (λt F s E=>?_) (λs E=>?_)
 ·obtain⟨rfl,G⟩:=E;have J:=FT (l.getD i V.zero) F;have K:D.idx (I (t:Int)) 3=some t:=am F;have pre:∀ z,(if decide (oz (l.getD i V.zero) t>262144\/oz (l.getD i V.zero) t < -262144)=true then(some (Sum.inr (0,[(D.sl []),(D.int .i64 1)]))) else(Option.bind (D.bin .add (I (t:Int)) (D.int .i64 1)) λf=>some (Sum.inl [f,.sl [],I 0])))=some z->_:=λ(z:Sum (List D) (Nat×List D)) hz'=>
   aa (g:=λH=>Option.bind (D.truth H) λm=>if m then(Option.bind (D.asSl (aT l)) λc=>Option.bind (D.idx (I (i:Int)) (List.length c)) λrZ=>Option.bind (c[rZ]?) λr=>Option.bind (D.idx (I (t:Int)) 3) λi14=>Option.bind (D.fld r i14) λu=>Option.bind (D.bin .gtr u (D.int .i64 262144)) λv=>Option.bind (D.truth v) λn=>
    Option.bind (if n then(some true) else(Option.bind (D.asSl (aT l)) λd=>Option.bind (D.idx (I (i:Int)) (List.length d)) λi19=>Option.bind (d[i19]?) λw=>Option.bind (D.idx (I (t:Int)) 3) λi21=>Option.bind (D.fld w i21) λx=>Option.bind (D.bin .lss x (D.int .i64 (-262144))) λA=>D.truth A)) λo=>
    Option.bind (D.truth (D.bool o)) λp=>
    if p then(some (Sum.inr (0,[(D.sl []),(D.int .i64 1)]))) else(Option.bind (D.bin .add (I (t:Int)) (D.int .i64 1)) λf=>some (Sum.inl [f,.sl [],I 0]))) else(some (Sum.inr (1,[.sl [],I 0]))))
    (ah (a:=(t:Int)) (b:=3)) (y:=z) (aa ac (aA (by omega) (aa (z:=l.map ab) rfl (aa (z:=i) (by rw[au];exact am B) (aa (cZ B) (aa K (aa J (aa cw (aa ac (aa (z:=decide (oz (l.getD i V.zero) t>262144\/oz (l.getD i V.zero) t < -262144)) (by
     by_cases h1:oz (l.getD i V.zero) t>262144
     ·refine aA h1 ?_;rw[decide_eq_true (.inl h1)]
     ·refine aD h1 (aa (z:=l.map ab) rfl (aa (z:=i) (by rw[au];exact am B) (aa (cZ B) (aa K (aa J (aa ah ?_))))))
      rw[ac];congr 1;rw[decide_eq_decide];exact⟨.inr,λh=>h.resolve_left h1⟩) (aa ac hz')))))))))))
  by_cases hb:oz (l.getD i V.zero) t>262144\/oz (l.getD i V.zero) t < -262144
  ·right;refine⟨_,pre _ (aA hb rfl),?_⟩;rw[if_neg (λh=>by have:=BR.1 h t F;omega)] at C
   exact C
  ·left;refine⟨[I ((t+1:Nat):Int),.sl [],I 0],pre _ (aD hb (aa (aq (ay (i:=t) (by omega))) rfl)),rfl,λq L=>?_⟩
   by_cases e:q=t
   ·subst e;omega
   ·exact G q (by omega)
 ·obtain⟨rfl,G⟩:=E;refine⟨(1,[.sl [],I 0]),aa ah (aa ac (aD (by decide) rfl)),?_⟩
  rw[if_pos (BR.2 G)] at C;exact C
def Jj(n:Nat){l:List V}(hlen:l.length<=64)(e:¬ ∀ x∈l,bd MV x):cA (n+1) 12 [aT l]=some (AN 1):=by
 rw[VX]
 delta MO qB qC qT qS qX qL qV qW qZ iL iR Jn
 refine aa (z:=l.map ab) rfl (aa cw (aa ac (aD (by show ¬ ((l.map ab).length:Int)>64;rw[au];omega) ?_)))
 refine bq (λi s=>s=[I (i:Int),.sl [],I 0]/\∀ x∈l.take i,bd MV x) l.length 0 (zla _) ⟨rfl,by simp⟩ (λi b s d=>?_) (λs d=>?_)
 ·obtain⟨rfl,c⟩:=d;by_cases hx:bd MV (l.getD i V.zero)
  ·left;refine⟨[I ((i+1:Nat):Int),.sl [],I 0],?_,rfl,λx a=>?_⟩
   ·refine aa (z:=l.map ab) rfl (aa ah (aa ac (aA (by show((i:Int)<((l.map ab).length:Int));rw[au];omega) (Mm b ?_))))
    rw[if_pos hx,if_neg (show ¬ (1:Nat)=0 by decide)]
    exact aa (aq (ay (i:=i) (by omega))) rfl
   ·rw[zua b] at a;rcases zxa.1 a with h|h
    ·exact c x h
    ·rw[zJa.1 h];simpa [List.getD,b] using hx
  ·right;refine⟨(0,[.sl [],I 1]),?_,rfl⟩;refine aa (z:=l.map ab) rfl (aa ah (aa ac (aA (by show((i:Int)<((l.map ab).length:Int));rw[au];omega) (Mm b ?_))))
   rw[if_neg hx];rfl
 ·obtain⟨rfl,c⟩:=d;rw[z3a] at c;exact absurd c e
def Fq(n:Nat){l:List V}(hlen:l.length<=64)(hl:∀ x∈l,bd MV x){F:FL}(t:∀ f∈F,f.2.length<=1000000)(A:F.length<=3000000)(m:cA (n+2) 48 [aT (du l)]=some (.sl (aK F))):cA (n+3) 12 [aT l]=some (Cn (du l) F):=by
 rw[VX]
 delta MO qB qC qT qS qX qL qV qW qZ iL iR Jn
 refine aa (z:=l.map ab) rfl (aa cw (aa ac (aD (by show ¬ ((l.map ab).length:Int)>64;rw[au];omega) ?_)))
 refine bq (λi s=>s=[I (i:Int),.sl [],I 0]) l.length 0 (zla _) rfl (λi c s a=>?_) (λs a=>?_)
 ·subst a;left;refine⟨[I ((i+1:Nat):Int),.sl [],I 0],?_,rfl⟩;refine aa (z:=l.map ab) rfl (aa ah (aa ac (aA (by show((i:Int)<((l.map ab).length:Int));rw[au];omega) (Mm c ?_))))
  rw[if_pos (hl _ (cD c)),if_neg (show ¬ (1:Nat)=0 by decide)]
  exact aa (aq (ay (i:=i) (by omega))) rfl
 ·subst a;refine⟨(1,[.sl [],I 0]),aa (z:=l.map ab) rfl (aa ah (aa ac (aD (by show ¬ ((l.length:Int)<((l.map ab).length:Int));rw[au];omega) rfl))),?_⟩
  rw[if_neg (show ¬ (1:Nat)=0 by decide)]
  have o:=zBa (pi l) hlen;refine aa (ZF n l (by omega)) (aa m (aa (z:=aK F) rfl ?_))
  obtain⟨S,B⟩:∃ S,du l=S:=⟨_,rfl⟩;rw[B] at o ⊢;rw[aV,show D.beq (D.int .i64 (F.length:Nat)) (D.int .i64 0)=decide (F.length=0) from ca F.length 0];refine aa ac ?_;unfold Cn;by_cases h0:F.length=0
  ·refine aA h0 ?_;rw[if_pos h0];rfl
  refine aD h0 (aa (z:=aK F) rfl (aa cw (aa ac ?_)));rw[if_neg h0];by_cases h64:F.length>64
  ·refine aA (by rw[aV];omega) ?_
   rw[if_pos h64];rfl
  refine aD (by rw[aV];omega) ?_
  rw[if_neg h64];refine bq (λi s=>s=[I (i:Int),.sl [],I 0,aT (cW S F i),I 0]) S.length 0 (zla _) rfl (λi c s a=>?_) (λs a=>?_)
  ·subst a;left;refine⟨[I ((i+1:Nat):Int),.sl [],I 0,aT (cW S F (i+1)),I 0],?_,rfl⟩;have C:=wL S F i;refine aa (z:=S.map ab) rfl (aa ah (aa ac (aA (by show((i:Int)<((S.map ab).length:Int));rw[au];omega) ?_)))
   refine aa (z:=(0,[.sl [],I 0,aT (cW S F (i+1)),I 0])) ?_ (aa (aq (ay (i:=i) (by omega))) rfl)
   refine bC (λk s=>s=[.bool (jP (F.take k) i),I (k:Int),.sl [],I 0,aT (cW S F i),I 0]) F.length 0 (zla _) rfl (λk hk s a=>?_) (λs a=>?_)
   ·subst a;left;refine⟨[.bool (jP (F.take (k+1)) i),I ((k+1:Nat):Int),.sl [],I 0,aT (cW S F i),I 0],?_,rfl⟩;have r:=t F[k] (zva hk);have w:jP (F.take (k+1)) i=(jP (F.take k) i||F[k].2.any λx=>decide (x=i)):=by
     grind [jP,List.take_succ_eq_append_getElem]
    refine aa (z:=aK F) rfl (aa ah (aa ac (aA (by show((k:Int)<((aK F).length:Int));rw[aV];omega) ?_)))
    have e:∀ {β:Type} {g:List D->Option β} {y:β},g (ag F[k].2)=some y->(Option.bind (D.asSl (.sl (aK F))) λd=>Option.bind (D.idx (I (k:Int)) (List.length d)) λi47=>Option.bind (d[i47]?) λu=>Option.bind (D.fld u 2) λv=>Option.bind (D.asSl v) g)=some y:=λh=>
     aa (z:=aK F) rfl (aa (z:=k) (by rw[aV];exact am hk) (aa (ed hk) (aa (z:=.sl (ag F[k].2)) rfl (aa (z:=ag F[k].2) rfl h))))
    rw[w];generalize jP (F.take k) i=b;obtain⟨p,hp⟩:∃ p,F[k].2=p:=⟨_,rfl⟩;rw[hp] at r e ⊢;refine bC (λj s=>s=[.bool (b||(p.take j).any λx=>decide (x=i)),I (j:Int),.sl [],I 0,aT (cW S F i),I 0]) p.length 0 (zla _) (by rw[List.take_zero,List.any_nil,Bool.or_false];rfl) (λj q s a=>?_) (λs a=>?_)
    ·subst a;left;refine⟨[.bool (b||(p.take (j+1)).any λx=>decide (x=i)),I ((j+1:Nat):Int),.sl [],I 0,aT (cW S F i),I 0],?_,rfl⟩;refine e (aa ah (aa ac (aA (by show((j:Int)<((ag p).length:Int));rw[ai];omega) (aa ac (aa (z:=b||(p.take (j+1)).any λx=>decide (x=i)) ?_ (aa (aq (ay (i:=j) (by omega))) rfl))))))
     rw[zua q,zUc];generalize (p.take j).any (λx=>decide (x=i))=b1;cases hb:(b||b1)
     ·rw[<-Bool.or_assoc,hb,if_neg (by decide)]
      refine e (aa (z:=j) (by rw[ai];exact am q) (aa (fX q) ?_))
      simp_all [ca,List.getD,ac]
     ·grind
    ·subst a;rw[z3a];refine⟨(0,[.bool (b||p.any λx=>decide (x=i)),.sl [],I 0,aT (cW S F i),I 0]),e (aa ah (aa ac (aD (by show ¬ ((p.length:Int)<((ag p).length:Int));rw[ai];omega) rfl))),?_⟩
     exact aa (aq (ay (i:=k) (by omega))) rfl
   ·subst a;rw[z3a];refine⟨(0,[.bool (jP F i),.sl [],I 0,aT (cW S F i),I 0]),?_,?_⟩
    ·exact aa (z:=aK F) rfl (aa ah (aa ac (aD (by show ¬ ((F.length:Int)<((aK F).length:Int));rw[aV];omega) rfl)))
    ·rw[BC];refine aa (z:=jP F i) ac ?_;cases jP F i
     ·rfl
     ·rw[if_pos rfl,if_pos rfl];refine aa (z:=S.map ab) rfl (aa (z:=i) (by rw[au];exact am c) (aa (cZ c) ?_))
      rw[if_pos (by show((cW S F i).map ab).length+1<=1073741824;rw[au];omega)]
      have:D.sl ((cW S F i).map ab++[ab (S.getD i V.zero)])=aT (cW S F i++[pt S i]):=by simp[aT,pt]
      rw[<-this];rfl
  ·subst a;refine⟨(0,[.sl [],I 0,aT (cW S F S.length),I 0]),?_,rfl⟩;exact aa (z:=S.map ab) rfl (aa ah (aa ac (aD (by show ¬ ((S.length:Int)<((S.map ab).length:Int));rw[au];omega) rfl)))
def tU{l:List V}(i:E8 l){m:V}{d:Int}(f:IsF (pt l) l.length m d){p:List Nat}(hp:bD (pt l) l.length m d p):p.Nodup/\p.length<=l.length/\0<p.length/\∀ x∈p,x<l.length:=by
 obtain⟨k,h,c,b⟩:=f.poly i;have e:=bD.eq i f hp h;subst e;obtain⟨a,_,j,g,_,_⟩:=f.head i;have hm:a∈p:=(b a).2 ⟨j,g⟩;refine⟨c,?_,List.length_pos_iff.2 (λe=>by rw[e] at hm;cases hm),λx hx=>(aW.1 ((b x).1 hx).1).1⟩
 have:=z4b (l₂:=List.range l.length) c λx hx=>zNa.2 (aW.1 ((b x).1 hx).1).1
 simp_all
def Kn{l:List V}(hl:∀ x∈l,bd MV x):∀ x∈du l,bd MV x:=λx hx=>hl x (zt.1 hx)
def ZB(n:Nat){l:List V}(hlen:l.length<=100):(64<l.length/\cA (n+8) 12 [aT l]=some (AN 2))\/(l.length<=64/\(¬ ∀ x∈l,bd MV x)/\cA (n+8) 12 [aT l]=some (AN 1)) ∨
  (l.length<=64/\(∀ x∈l,bd MV x)/\∃ F:FL,KnF (du l) (du l).length 0 0 F/\cA (n+8) 12 [aT l]=some (Cn (du l) F)):=by
 by_cases h64:64<l.length
 ·exact .inl ⟨h64,Jk (n+7) h64⟩
 ·by_cases hb:∀ x∈l,bd MV x
  ·right;right;refine⟨by omega,hb,?_⟩
   have d:=pi l;have a:=G3 (ut l);obtain⟨F,h1,b⟩:=Xw n (Kn hb) (by omega) a
   refine⟨F,h1,Fq (n+5) (by omega) hb (λf c=>?_) (zBa (h1.fok.len (by omega)) (by decide)) b⟩
   obtain⟨e,g⟩:=h1.fok.ok f c;have:=(tU a e g).2.1;omega
  ·exact .inr (.inl ⟨by omega,hb,Jj (n+7) (by omega) hb⟩)
def Ev(S:List V)(F:FL):(cW S F S.length).Sublist S:=by
 have h1:((List.range S.length).map (pt S))=S:=by
  apply zcc;intro i;by_cases h:i<S.length
  ·rw[zbb,z8c h];simp[pt,List.getD,h]
  ·simp_all
 have a:(cW S F S.length).Sublist ((List.range S.length).map (pt S)):=List.Sublist.map _ List.filter_sublist
 simp_all
def ZD(n:Nat){l:List V}(hlen:l.length<=100):(∃ e:Int,cA (n+9) 15 [cd l]=some (I e)/\e≠0)\/(cA (n+9) 15 [cd l]=some (I 0)/\l.length<=64/\(∀ x∈l,bd MV x)/\∃ F:FL,KnF (du l) (du l).length 0 0 F/\F.length≠0/\F.length<=64/\cW (du l) F (du l).length=l):=by
 rw[ZS]
 delta Pi qG qT Jn
 have err:∀ e:Int,e≠0->cA (n+8) 12 [aT l]=some (AN e)->∃ e:Int,(Option.bind (D.get (cd l) [0]) λp=>
 Option.bind (cA (n+8) 12 [p]) λf=>
 Option.bind (D.get f [1]) λq=>
 Option.bind (D.truth (D.bool (D.beq q (D.int .i64 0)))) λi=>
 Option.bind (if i then(Option.bind (D.get f [0,0]) λr=>
 Option.bind (D.get (cd l) [0]) λs=>
 Option.bind (cA (n+8) 13 [r,s]) λo=>
 Option.bind (D.un .not o) λt=>
 D.truth t) else(some false)) λj=>
 Option.bind (D.truth (D.bool j)) λc=>
 if c then(some (D.int .i64 3)) else(Option.bind (D.get f [1]) λg=>
 some g))=some (I e)/\e≠0:=λe he h=>⟨e,by
  refine aa (z:=aT l) rfl (aa h (aa (z:=I e) rfl (aa (z:=false) ?_ (aa (z:=false) rfl (aa (z:=false) rfl rfl)))));rw[show D.beq (I e) (D.int .i64 0)=decide (e=0) from bI,decide_eq_false he];rfl,he⟩
 rcases ZB n hlen with⟨h1,d⟩|⟨h0,h1,d⟩|⟨h0,h1,F,d,b⟩
 ·grind
 ·grind
 ·unfold Cn at b;by_cases f0:F.length=0
  ·grind
  ·rw[if_neg f0] at b;by_cases f1:F.length>64
   ·grind
   ·rw[if_neg f1] at b;have m:=wL (du l) F (du l).length;have k:=pi l;have a:=ZC (n+7) (cW (du l) F (du l).length) l (by omega)
    by_cases hv:cW (du l) F (du l).length=l
    ·rw[decide_eq_true hv] at a;refine .inr ⟨?_,h0,h1,F,d,f0,by omega,hv⟩
     refine aa (z:=aT l) rfl (aa b (aa (z:=I 0) rfl (aa (z:=true) rfl (aa (z:=false) ?_ (aa (z:=false) rfl rfl)))));rw[if_pos rfl];exact aa (z:=aT (cW (du l) F (du l).length)) rfl (aa (z:=aT l) rfl (aa a rfl))
    ·rw[decide_eq_false hv] at a;refine .inl ⟨3,?_,by decide⟩
     refine aa (z:=aT l) rfl (aa b (aa (z:=I 0) rfl (aa (z:=true) rfl (aa (z:=true) ?_ (aa (z:=true) rfl rfl)))));rw[if_pos rfl];exact aa (z:=aT (cW (du l) F (du l).length)) rfl (aa (z:=aT l) rfl (aa a rfl))
end Sy
end
noncomputable section
namespace Sy
open Go Go.Proofs Geo
def FE(n:Nat){x y:Int}(hx:In x)(c:In y)(h:In (x*y)):cA (n+3) 61 [ae x,ae y]=some (ae (x*y)):=by
 have:=XA n (a:=some x) (b:=some y) (bc hx) (bc c)
 rwa [show lQ (some x) (some y)=some (x*y) from kB h] at this
def Fw(n:Nat){x y:Int}(hx:In x)(c:In y)(h:In (x+y)):cA (n+4) 57 [ae x,ae y]=some (ae (x+y)):=by
 have:=Xy n (a:=some x) (b:=some y) (bc hx) (bc c)
 rwa [show uH (some x) (some y)=some (x+y) from kB h] at this
def dX{α:Type}{A B y:α}(h:A=y):(if true=true then A else B)=y:=h
def Jo(n:Nat){v:V}(h1:inR v.x)(a:inR v.y)(b:inR v.z):cA (n+3) 148 [ab v]=some (dP v):=by
 rw[Wj];delta H4 qB qC qZ iL iR Jn;obtain⟨Z,c⟩:∃ Z,(D.st [(D.bool false),(D.bool false),(av aU)])=Z:=⟨_,rfl⟩;rw[c];refine aY (s':=[I 1,.st [ae v.x,Z,Z]]) ?_ (aY (s':=[I 2,.st [ae v.x,ae v.y,Z]]) ?_ (aY (s':=[I 3,dP v]) ?_ (dI (r:=(0,[dP v])) ?_ rfl)))
 ·exact aa (z:=.bool true) rfl (aa (z:=true) rfl (dX (aa (z:=0) rfl (aa (z:=I v.x) rfl (aa (yC n h1) (aa (z:=0) rfl (aa (z:=.st [ae v.x,Z,Z]) rfl (aa (z:=I 1) rfl rfl))))))))
 ·exact aa (z:=.bool true) rfl (aa (z:=true) rfl (dX (aa (z:=1) rfl (aa (z:=I v.y) rfl (aa (yC n a) (aa (z:=1) rfl (aa (z:=.st [ae v.x,ae v.y,Z]) rfl (aa (z:=I 2) rfl rfl))))))))
 ·exact aa (z:=.bool true) rfl (aa (z:=true) rfl (dX (aa (z:=2) rfl (aa (z:=I v.z) rfl (aa (yC n b) (aa (z:=2) rfl (aa (z:=dP v) rfl (aa (z:=I 3) rfl rfl))))))))
 ·exact aa (z:=.bool false) rfl (aa (z:=false) rfl rfl)
end Sy
end
noncomputable section
namespace Sy
open Go Go.Proofs Geo
end Sy
end
noncomputable section
namespace Sy
open Go Go.Proofs Geo
def xt{m k:Nat}(h:m<=2^k)(hk:k<=511):m<dM:=by
 have:In (m:Int):=io hk (by rw[zoa];exact h)
 have:=aS.1 this
 rwa [zoa] at this
def Bg{a b k:Nat}(c:a<=2^k)(d:b<=2^k):a+b<=2^(k+1):=by rw[zjb];omega
def KD(q:Rat)(a k:Nat):Prop:=q.num.natAbs<=2^a/\q.den<=2^k
def KD.inR{q:Rat}{a k:Nat}(h:KD q a k)(b:a<=511:=by decide)(hk:k<=511:=by decide):InR q:=
 ⟨io b h.1,io hk (by rw[zoa];exact h.2)⟩
theorem KD.fitM{x y:Rat}{a k b m:Nat}(hx:KD x a k)(c:KD y b m)(h1:a+b<=511:=by decide)(d:k+m<=511:=by decide):fitM x y:=
 ⟨xt (bG hx.1 c.1 (zfa _)) h1,xt (bG hx.2 c.2 (zfa _)) d⟩
theorem KD.fitA{x y:Rat}{a k b m:Nat}(hx:KD x a k)(c:KD y b m)(h1:a+m<=510:=by decide)(f:b+k<=510:=by decide)(g:k+m<=511:=by decide):fitA x y:=by
 refine⟨?_,xt (bG hx.2 c.2 (zfa _)) g⟩;have d:=bG hx.1 c.2 h1;have e:=bG c.1 hx.2 f;exact xt (k:=510+1) (Bg d e) (by decide)
def Ou(t:T3):D:=.st [.st [ab t.1,ab t.2.1,ab t.2.2],ae (vol t)]
def KU(T:List T3):List D:=T.map Ou
theorem ED.take{T:List T3}{N:Nat}(h:ED T N)(i:Nat):ED (T.take i) N:=
 ⟨zBa (by rw[zYa];omega) h.1,λt a=>h.2 t (zEa a)⟩
section
variable{l:List V}{T:List T3}(hT:ED T 268435456)(h58:∀ m,cA (m+9) 58 [cd l]=some (.sl (KU T)))
include hT h58
end
end Sy
end
noncomputable section
namespace Sy
open Go Go.Proofs Geo
def F9{S:List V}(c:E8 S){F:FL}(g:FOk S F){k:Nat}(h:jP F k=true):NJ (pt S) S.length k:=by
 obtain⟨f,i,e⟩:=z8b.1 h;obtain⟨x,hx,a⟩:=z8b.1 e;have a:x=k:=by simpa using a
 subst a;obtain⟨b,l⟩:=g.ok f i;obtain⟨p,j,_,d⟩:=b.poly c;rw[<-bD.eq c b l j] at d;obtain⟨r1,m⟩:=(d x).1 hx;exact⟨_,_,b,r1,m⟩
end Sy
end
noncomputable section
namespace Sy
open Go Go.Proofs Geo
def NL(q:Rat):D.beq (dC q) (dC q)=true:=by
 unfold dC;show(D.beq (ae q.num) (ae q.num)&&(D.beq (ae q.den) (ae q.den)&&true))=true;rw[BS,BS];rfl
section
variable{l:List V}{T:List T3}(hT:ED T 268435456)(h58:∀ m,cA (m+9) 58 [cd l]=some (.sl (KU T)))
include hT h58
end
end Sy
end
noncomputable section
namespace Sy
open Go Go.Proofs Geo
end Sy
end
noncomputable section
namespace Sy
open Go Go.Proofs Geo
def LK(n:Nat):cA (n+3) 169 []=some (ae 1):=by
 rw[Wr];delta Ib Jn;exact aa (yC n (fk 1)) rfl
def Uy(n:Nat){x:Int}(hx:In x):cA (n+1031) 138 [ae x]=some (dC (x:Rat)):=by
 rw[Wa];unfold HW;refine aa (LK (n+1027)) (aa (M0 n hx wR (by decide)) ?_)
 rw[lC]
def ZJ(n:Nat){x:Int}(hx:inR x):cA (n+1032) 74 [I x]=some (dC (x:Rat)):=by
 rw[u74];unfold PG;exact aa (yC (n+1029) hx) (aa (Uy n (bo hx)) rfl)
def NT(n:Nat){q:Rat}(h:InR q):cA (n+1030) 136 [dC q]=some (.bool true):=by
 rw[O0];delta ET qG qB qT Jn;have hp:=q.den_pos;refine aa (z:=ae q.num) rfl (aa (Fp (n+1027) h.1) (aa (z:=true) rfl (aa (z:=true) (dX ?_) (aa (z:=true) rfl (aa (z:=true) (dX ?_) (aa (z:=true) rfl (aa (z:=true) (dX ?_) rfl)))))))
 ·exact aa (z:=ae (q.den:Int)) rfl (aa (Fp (n+1027) h.2) rfl)
 ·refine aa (z:=ae (q.den:Int)) rfl (aa (rJ (n+1026) h.2) (aa cw ?_));rw[gg (by omega)];rfl
 ·refine aa (z:=ae q.num) rfl (aa (z:=ae (q.den:Int)) rfl (aa (Dl n h.1 h.2) (aa (LK (n+1026)) ?_)));have e:Nat.gcd q.num.natAbs (q.den:Int).natAbs=1:=q.reduced;rw[e];show D.truth (.bool (D.beq (ae 1) (ae 1)))=_;rw[BS];rfl
theorem Er{x y:Rat}{a b g:Nat}(d:x.den=g*a)(e:y.den=g*b)(c:(a:Int)*y.den≠0):Rat.divInt (x.num*b+y.num*a) ((a:Int)*y.den)=x+y:=by
 conv=>rhs;rw[<-zvb x,<-zvb y]
 rw[Rat.divInt_add_divInt _ _ (cq x) (cq y),Rat.divInt_eq_divInt_iff c (by have:=cq x;have:=cq y;exact ztd ‹_› ‹_›)]
 have f:(x.den:Int)=g*a:=by rw[d,zXa]
 have h:(y.den:Int)=g*b:=by rw[e,zXa]
 rw[f,h];grind
def AJ{N D:Int}(c:0<D)(h:Nat.gcd N.natAbs D.natAbs=1):(Rat.divInt N D).num=N/\((Rat.divInt N D).den:Int)=D:=by
 obtain⟨a,b⟩:=fE N (show D≠0 by omega)
 have e:((1:Nat):Int)=1:=rfl;rw[if_neg (by omega),h,e,Int.ediv_one] at a b
 exact⟨a,b⟩
def Cg(x:Int){d:Int}(a:d≠0):(Rat.divInt x d).num.natAbs ∣ x.natAbs/\(Rat.divInt x d).den ∣ d.natAbs:=by
 obtain⟨f,h⟩:=fE x a;have e:(Rat.divInt x d).den=((Rat.divInt x d).den:Int).natAbs:=rfl;rw[e,f,h];have key:∀ z:Int,((Nat.gcd x.natAbs d.natAbs:Nat):Int) ∣ z->(z/(if d<0 then -(Nat.gcd x.natAbs d.natAbs:Int) else(Nat.gcd x.natAbs d.natAbs:Int))).natAbs ∣ z.natAbs:=by
  intro z c;have b:0<Nat.gcd x.natAbs d.natAbs:=zmc _ (by omega)
  obtain⟨k,rfl⟩:=c;generalize Nat.gcd x.natAbs d.natAbs=g at *;split
  ·rw[Int.ediv_neg,z7a _ (by omega),zYb,zKa];exact Nat.dvd_mul_left _ _
  ·rw[z7a _ (by omega),zKa];exact Nat.dvd_mul_left _ _
 exact⟨key x (z0a.2 (zcb _ _)),key d (z0a.2 (zCb _ _))⟩
def P4(n:Nat){x y:Int}(hx:In x)(e:In y):cA (n+4) 90 [ae x,ae y]=some (I (be x y)):=by
 rw[u90];delta PQ qG qT qN Jn;have gx:=nA (n+1) (a:=some x) (bc hx);have f:=nA (n+1) (a:=some y) (bc e);have b:=aS.1 hx;have d:=aS.1 e;refine aa gx (aa f (aa (z:=.bool false) rfl (aa (z:=false) rfl (aa (z:=false) rfl (aa (z:=false) rfl ?_)))));rw[if_neg (by decide)]
 refine aa (z:=.bool false) rfl (aa (z:=false) rfl ?_);rw[if_neg (by decide)]
 refine aa (z:=.bool false) rfl (aa (z:=false) rfl ?_);rw[if_neg (by decide)]
 refine aa (aF x) (aa (aF y) ?_);by_cases h1:x<0<;>by_cases h2:y<0
 ·rw[decide_eq_true h1,decide_eq_true h2];refine aa (z:=false) rfl ?_;rw[if_neg (by decide)]
  refine aa (z:=.bool true) (by rw[aF,decide_eq_true h1]) (aa (z:=true) rfl (dX ?_))
  refine aa (gX y) (aa (gX x) (aa (Ji n d b) ?_));congr 2;unfold be;by_cases c:x<y
  ·rw[if_pos c,if_pos (by omega)]
  ·rw[if_neg c,if_neg (by omega)]
   by_cases c2:x>y
   ·rw[if_pos c2,if_pos (by omega)]
   ·rw[if_neg c2,if_neg (by omega)]
 ·rw[decide_eq_true h1,decide_eq_false h2];refine aa (z:=true) rfl (dX ?_);refine aa (z:=.bool true) (by rw[aF,decide_eq_true h1]) (aa (z:=true) rfl (dX ?_))
  unfold be;rw[if_pos (by omega)]
 ·rw[decide_eq_false h1,decide_eq_true h2];refine aa (z:=true) rfl (dX ?_);refine aa (z:=.bool false) (by rw[aF,decide_eq_false h1]) (aa (z:=false) rfl ?_)
  rw[if_neg (by decide)]
  unfold be;rw[if_neg (by omega),if_pos (by omega)]
 ·rw[decide_eq_false h1,decide_eq_false h2];refine aa (z:=false) rfl ?_;rw[if_neg (by decide)]
  refine aa (z:=.bool false) (by rw[aF,decide_eq_false h1]) (aa (z:=false) rfl ?_)
  rw[if_neg (by decide)]
  refine aa (gX x) (aa (gX y) (aa (Ji n b d) ?_));congr 2;unfold be;by_cases c:x<y
  ·rw[if_pos c,if_pos (by omega)]
  ·rw[if_neg c,if_neg (by omega)]
   by_cases c2:x>y
   ·rw[if_pos c2,if_pos (by omega)]
   ·rw[if_neg c2,if_neg (by omega)]
end Sy
end
noncomputable section
namespace Sy
open Go Go.Proofs Geo
def LA:D:=.st [uI,ae 1]
def bV:Option Rat->D
 | some q=>dC q
 | none=>LA
def OW(a:Option Rat):Prop:=∀ q,a=some q->InR q
theorem OW.some{q:Rat}(h:OW (some q)):InR q:=h q rfl
def bS{q:Rat}(h:InR q):OW (some q):=λy e=>by cases e;exact h
def mv:OW none:=λy e=>by cases e
def lg:n8 none:=λy e=>by cases e
def k9:Option Int->Option Int->Option Rat
 | some n,some d=>if d=0 then none else some (Rat.divInt n d)
 | _,_=>none
def sa{a b:Option Int}(c:n8 a)(d:n8 b):OW (k9 a b):=by
 cases a<;>cases b<;>simp only[k9]<;>first|exact mv|skip
 split
 ·exact mv
 ·exact bS (fV c.some d.some (by assumption))
def wT(a b:Option Int):n8 (uH a b):=by
 cases a<;>cases b<;>simp only[uH]<;>first|exact lg|exact zG _
def fJ(a b:Option Int):n8 (lQ a b):=by
 cases a<;>cases b<;>simp only[lQ]<;>first|exact lg|exact zG _
def kF{x:Int}(hx:In x)(g:Int):In (x/g):=NH hx (Int.natAbs_ediv_le_natAbs x g)
def Df(x y:Rat):Option Rat:=
 k9 (uH (lQ (some x.num) (some ((y.den:Int)/(Nat.gcd x.den y.den:Nat)))) (lQ (some y.num) (some ((x.den:Int)/(Nat.gcd x.den y.den:Nat))))) (lQ (some ((x.den:Int)/(Nat.gcd x.den y.den:Nat))) (some (y.den:Int)))
def addW:Option Rat->Option Rat->Option Rat
 | some x,some y=>Df x y
 | _,_=>none
def JX(x y:Rat):Option Rat:=
 k9 (lQ (some (Rat.divInt x.num y.den).num) (some (Rat.divInt y.num x.den).num)) (lQ (some ((Rat.divInt x.num y.den).den:Int)) (some ((Rat.divInt y.num x.den).den:Int)))
def mulW:Option Rat->Option Rat->Option Rat
 | some x,some y=>JX x y
 | _,_=>none
def DU(a:Option Rat):Option Rat:=a.map (λx=>-x)
def VE(a b:Option Rat):Option Rat:=addW a (DU b)
def xd(a b:Option Rat):Option Rat:=b.elim none λy=>mulW a (k9 (some (y.den:Int)) (some y.num))
def BM(a b:Option Rat):OW (addW a b):=by
 cases a<;>cases b<;>simp only[addW]<;>first|exact mv|exact sa (wT _ _) (fJ _ _)
def JZ(a b:Option Rat):OW (mulW a b):=by
 cases a<;>cases b<;>simp only[mulW]<;>first|exact mv|exact sa (fJ _ _) (fJ _ _)
def xB{a:Option Rat}(h:OW a):OW (DU a):=by
 cases a with
 | none=>exact mv
 | some x=>exact bS ⟨aS.2 (by rw[Rat.neg_num,zYb];exact aS.1 h.some.1),h.some.2⟩
def JA(a b:Option Rat):OW (xd a b):=by
 cases b with
 | none=>exact mv
 | some y=>exact JZ _ _
def G4(x y:Rat):∃ g a b:Nat,g=Nat.gcd x.den y.den/\0<g/\x.den=g*a/\y.den=g*b/\0<a/\0<b/\(x.den:Int)/(Nat.gcd x.den y.den:Nat)=a/\(y.den:Int)/(Nat.gcd x.den y.den:Nat)=b:=by
 obtain⟨g,c⟩:∃ g,g=Nat.gcd x.den y.den:=⟨_,rfl⟩;have i:=x.den_pos;have hyp:=y.den_pos;have f:0<g:=by simp_all
 obtain⟨a,d⟩:g ∣ x.den:=c ▸ zcb _ _;obtain⟨b,e⟩:g ∣ y.den:=c ▸ zCb _ _;have g0:(g:Int)≠0:=by omega
 refine⟨g,a,b,c,f,d,e,Nat.pos_of_ne_zero λh=>by rw[h] at d;omega,Nat.pos_of_ne_zero λh=>by rw[h] at e;omega,?_,?_⟩
 ·rw[<-c,d,zXa];exact z7a _ g0
 ·rw[<-c,e,zXa];exact z7a _ g0
def mI{x y:Int}(h:In (x*y)):lQ (some x) (some y)=some (x*y):=kB h
def BL{x y:Int}(h:In (x+y)):uH (some x) (some y)=some (x+y):=kB h
def Fa{x y:Rat}(k:fitA x y):addW (some x) (some y)=some (x+y):=by
 obtain⟨f1,f2⟩:=k;obtain⟨g,a,b,n,e,i,j,a0,m,f,h⟩:=G4 x y;have c:a<=x.den:=by rw[i];exact zNb _ e
 have d:b<=y.den:=by rw[j];exact zNb _ e
 have m1:x.num.natAbs*b<=x.num.natAbs*y.den:=z4a _ d;have m2:y.num.natAbs*a<=y.num.natAbs*x.den:=z4a _ c;have m3:a*y.den<=x.den*y.den:=zDa _ c;have i1:In (x.num*b):=aS.2 (by rw[zKa,zoa];omega)
 have i2:In (y.num*a):=aS.2 (by rw[zKa,zoa];omega)
 have i3:In (x.num*b+y.num*a):=aS.2 (by
  have:=zDc (x.num*b) (y.num*a);rw[zKa,zKa,zoa,zoa] at this;omega)
 have i4:In ((a:Int)*y.den):=aS.2 (by rw[<-zXa,zoa];omega)
 have l:(a:Int)*y.den≠0:=by
  have:0<a*y.den:=Nat.mul_pos a0 y.den_pos;omega
 simp only[addW,Df,f,h];rw[mI i1,mI i2,BL i3,mI i4];grind [k9,Er]
def A5(x y:Rat):Rat.divInt x.num y.den*Rat.divInt y.num x.den=x*y:=by
 conv=>rhs;rw[<-zvb x,<-zvb y]
 rw[zZc,zZc,zpc (y.den:Int)]
def Gv{x y:Rat}(c:fitM x y):mulW (some x) (some y)=some (x*y):=by
 obtain⟨f1,f2⟩:=c;obtain⟨d,a⟩:=mz x.num (cq y);obtain⟨f,b⟩:=mz y.num (cq x);rw[zoa] at a b;have e:=A5 x y;simp only[mulW,JX];generalize Rat.divInt x.num y.den=P at *;generalize Rat.divInt y.num x.den=Q at *;have i1:In (P.num*Q.num):=aS.2 (by rw[zKa];exact zHa (z1a d f) f1)
 have i2:In ((P.den:Int)*Q.den):=aS.2 (by
  rw[<-zXa,zoa];exact zHa (z1a a b) (by rw[zLa];exact f2))
 rw[mI i1,mI i2];simp only[k9];rw[if_neg (ztd (cq P) (cq Q)),<-zZc,zvb,zvb,e]
def NU(n:Nat):cA (n+1) 139 [uI]=some (.bool true):=by
 rw[O1];delta EU qG qB qC qT qN qZ iL iR Jn;refine bq (λi s=>s=[.bool true,I (i:Int)]) 16 0 (zla _) rfl (λi b s a=>?_) (λs a=>?_)
 ·subst a;left;refine⟨_,?_,rfl⟩;refine aa ah (aa ac (aA (by show(i:Int)<16;omega) (aa ac (aa (z:=true) ?_ (aa (aq (ay (i:=i) (by omega))) rfl)))))
  rw[if_pos rfl];refine aa (am b) (aa (z:=.int .u32 0) ?_ rfl);have c:D.get uI [2,i]=D.get (LM 0) [i]:=rfl;rw[c,bi _ b,lz]
 ·subst a;refine⟨(0,[.bool true]),aa ah (aa ac (aD (by decide) rfl)),?_⟩
  exact aa (z:=.bool true) rfl (aa (z:=true) rfl (dX (aa (z:=true) rfl (aa (z:=true) rfl rfl))))
def sJ(n:Nat){a:Option Int}(b:n8 a):cA (n+2) 76 [cF a]=some (.bool a.isSome):=by
 cases a with
 | some x=>exact pC n b.some
 | none=>rw[XI];delta NC qG qT;exact aa (NU n) (aa (z:=true) rfl (aa (z:=false) rfl rfl))
def C9(n:Nat){a:Option Int}(c:n8 a):∃ w b,cA (n+3) 124 [cF a]=some (.tup [I w,.bool b])/\(b=true->a.isSome=true):=by
 cases a with
 | some x=>
  obtain⟨w,b,h,_⟩:=pw n c.some;exact⟨w,b,h,λ_=>rfl⟩
 | none=>
  refine⟨0,false,?_,λh=>by cases h⟩
  rw[MH];delta Db qG qB qC qT qN qZ iL iR Jn;exact aa (sJ n c) (aa (z:=.bool true) rfl (aa (z:=true) rfl (aa (z:=true) rfl (aa (z:=true) rfl rfl))))
def xE{n f:Nat}{a b:Option Int}{e:Option Int->D}(h:(a.isSome&&b.isSome)=false)(c:cA n f [e b]=some (.bool b.isSome)) :
  (if(!a.isSome)=true then some true else Option.bind (cA n f [e b]) λr=>Option.bind (D.un .not r) λx=>D.truth x)=some true:=by
 cases hA:a.isSome with
 | false=>rfl
 | true=>
  rw[hA] at h;have:b.isSome=false:=by simpa using h
  rw[if_neg (by decide),c,this];rfl
def Oi(n:Nat){a b:Option Int}(f:n8 a)(g:n8 b):cA (n+4) 59 [cF a,cF b]=some (cF (uH a b)):=by
 rcases ef (a:=a) (b:=b) with h|⟨x,y,rfl,rfl⟩
 ·have e:uH a b=none:=by cases a<;>cases b<;>simp at h<;>rfl
  rw[e,Xm];delta MT qG qB qT qN;obtain⟨w1,c,h1,l⟩:=C9 n f;obtain⟨k,d,j,m⟩:=C9 n g;have i:(c&&d)=false:=by
   all_goals grind
  refine aa h1 (aa (z:=I w1) rfl (aa (z:=.bool c) rfl (aa j (aa (z:=I k) rfl (aa (z:=.bool d) rfl (aa (z:=c) rfl (aa (z:=false) (by cases c<;>cases d<;>simp at i<;>rfl) (aa (z:=false) rfl ?_))))))))
  rw[if_neg (by decide)]
  refine aa (sJ (n+1) f) (aa aM (aa ac (aa (xE h (sJ (n+1) g)) (aa (z:=true) rfl (dX (aa (Fn (n+2)) rfl))))))
 ·exact Vf n f.some g.some
def Vn(n:Nat){a b:Option Int}(f:n8 a)(g:n8 b):cA (n+4) 89 [cF a,cF b]=some (cF (lQ a b)):=by
 rcases ef (a:=a) (b:=b) with h|⟨x,y,rfl,rfl⟩
 ·have e:lQ a b=none:=by cases a<;>cases b<;>simp at h<;>rfl
  rw[e,Xp];delta MX qG qB qT qN;obtain⟨w1,c,h1,l⟩:=C9 n f;obtain⟨k,d,j,m⟩:=C9 n g;have i:(c&&d)=false:=by
   all_goals grind
  refine aa h1 (aa (z:=I w1) rfl (aa (z:=.bool c) rfl (aa j (aa (z:=I k) rfl (aa (z:=.bool d) rfl (aa (z:=c) rfl (aa (z:=false) (by cases c<;>cases d<;>simp at i<;>rfl) (aa (z:=false) rfl (aa (z:=false) rfl (aa (z:=false) rfl (aa (z:=false) rfl (aa (z:=false) rfl ?_))))))))))))
  rw[if_neg (by decide)]
  refine aa (sJ (n+1) f) (aa aM (aa ac (aa (xE h (sJ (n+1) g)) (aa (z:=true) rfl (dX (aa (Fn (n+2)) rfl))))))
 ·exact Vo n f.some g.some
def M4(n:Nat):cA (n+5) 84 []=some LA:=by
 rw[u84];unfold PO;exact aa (Fn (n+3)) (aa (Jl n) rfl)
def LT(n:Nat){a b:Option Int}(f:n8 a)(c:n8 b):cA (n+6) 37 [cF a,cF b]=some (bV (k9 a b)):=by
 rcases ef (a:=a) (b:=b) with h|⟨x,d,rfl,rfl⟩
 ·have e:k9 a b=none:=by cases a<;>cases b<;>simp at h<;>rfl
  rw[e,WR];delta MR qC qT qN Jn;exact aa (sJ (n+3) f) (aa aM (aa ac (aa (xE h (sJ (n+3) c)) (aa (z:=true) rfl (aa (z:=true) rfl (aa (z:=true) rfl (dX (aa (M4 n) rfl))))))))
 ·by_cases hd:d=0
  ·subst hd;rw[WR];delta MR qC qT qN Jn;refine aa (sJ (n+3) f) (aa aM (aa (z:=false) rfl (aa (z:=false) ?_ (aa (z:=false) rfl (aa (z:=true) ?_ (aa (z:=true) rfl (dX (aa (M4 n) rfl))))))))
   ·rw[if_neg (by decide)];exact aa (sJ (n+3) c) (aa aM rfl)
   ·rw[if_neg (by decide)];exact aa (EE (n+2) c.some) rfl
  ·have e:k9 (some x) (some d)=some (Rat.divInt x d):=by simp only[k9];rw[if_neg hd]
   rw[e];exact LR (n+1) f.some c.some hd
def Do(n:Nat){x y:Int}(hx:In x)(c:In y):cA (n+4) 89 [ae x,ae y]=some (cF (lQ (some x) (some y))):=Vn n (a:=some x) (b:=some y) (bc hx) (bc c)
def UY(n:Nat){x d:Int}(hx:In x)(c:In d):cA (n+6) 37 [ae x,ae d]=some (bV (k9 (some x) (some d))):=LT n (a:=some x) (b:=some d) (bc hx) (bc c)
def nC(n:Nat){a:Option Rat}(b:OW a):cA (n+5) 88 [bV a]=some (.bool a.isSome):=by
 cases a with
 | some q=>exact XB n b.some
 | none=>
  rw[XL];delta NF qG qC qT qN Jn;exact aa (z:=uI) rfl (aa (sJ (n+2) (a:=none) lg) (aa (z:=.bool true) rfl (aa (z:=true) rfl (aa (z:=true) rfl (aa (z:=true) rfl rfl)))))
def gm{a b:Option Rat}:(a.isSome&&b.isSome)=false\/∃ x y,a=some x/\b=some y:=by
 cases a<;>cases b<;>simp
def sf{n f:Nat}{a b:Option Rat}(h:(a.isSome&&b.isSome)=false)(c:cA n f [bV b]=some (.bool b.isSome)) :
  (if(!a.isSome)=true then some true else Option.bind (cA n f [bV b]) λr=>Option.bind (D.un .not r) λx=>D.truth x)=some true:=by
 cases hA:a.isSome with
 | false=>rfl
 | true=>
  rw[hA] at h;have:b.isSome=false:=by simpa using h
  rw[if_neg (by decide),c,this];rfl
def FU{x y:Rat}(hx:InR x):In ((Nat.gcd x.den y.den:Nat):Int):=lh.2 (zHa (Nat.gcd_le_left _ x.den_pos) (lh.1 hx.2))
def Oa(n:Nat){a b:Option Rat}(d:OW a)(f:OW b):cA (n+7) 40 [bV a,bV b]=some (bV (addW a b)):=by
 rcases gm (a:=a) (b:=b) with h|⟨x,y,rfl,rfl⟩
 ·have e:addW a b=none:=by cases a<;>cases b<;>simp at h<;>rfl
  rw[e,XG];delta Nk qG qT qN;exact aa (nC (n+1) d) (aa aM (aa ac (aa (sf h (nC (n+1) f)) (aa (z:=true) rfl (dX (aa (M4 (n+1)) rfl))))))
 ·have hx:=d.some;have c:=f.some;rw[XG];delta Nk qG qT qN;refine aa (nC (n+1) d) (aa aM (aa (z:=false) rfl (aa (z:=false) ?_ (aa (z:=false) rfl ?_))))
  ·rw[if_neg (by decide)];exact aa (nC (n+1) f) (aa aM rfl)
  rw[if_neg (by decide)]
  obtain⟨g,p,q,i,r,hp,hq,s,t,o,eq⟩:=G4 x y;have j:=FU (y:=y) hx;have g0:((Nat.gcd x.den y.den:Nat):Int)≠0:=by rw[<-i];omega
  have h1:=LY (n+2) hx.2 c.2;rw[zoa,zoa] at h1;have k:=Js (n+2) hx.2 j g0 ⟨p,by rw[<-i,hp,zXa]⟩
  have l:=Js (n+2) c.2 j g0 ⟨q,by rw[<-i,hq,zXa]⟩
  have ip:=kF hx.2 ((Nat.gcd x.den y.den:Nat):Int);have m:=kF c.2 ((Nat.gcd x.den y.den:Nat):Int);refine aa (z:=ae (x.den:Int)) rfl (aa (z:=ae (y.den:Int)) rfl (aa h1 ?_));refine aa (z:=ae (x.den:Int)) rfl (aa k (aa (z:=ae (y.den:Int)) rfl (aa l (aa (z:=ae x.num) rfl (aa (Do (n+2) hx.1 m) (aa (z:=ae y.num) rfl (aa (Do (n+2) c.1 ip) (aa (Oi (n+2) (fJ _ _) (fJ _ _)) (aa (z:=ae (y.den:Int)) rfl (aa (Do (n+2) ip c.2) ?_))))))))));exact aa (LT n (wT _ _) (fJ _ _)) rfl
def xv{x d:Int}(h:d≠0):k9 (some x) (some d)=some (Rat.divInt x d):=by simp only[k9];rw[if_neg h]
def LU(n:Nat){a b:Option Rat}(d:OW a)(f:OW b):cA (n+7) 38 [bV a,bV b]=some (bV (mulW a b)):=by
 rcases gm (a:=a) (b:=b) with h|⟨x,y,rfl,rfl⟩
 ·have e:mulW a b=none:=by cases a<;>cases b<;>simp at h<;>rfl
  rw[e,XF];delta Nj qG qT qN;exact aa (nC (n+1) d) (aa aM (aa ac (aa (sf h (nC (n+1) f)) (aa (z:=true) rfl (dX (aa (M4 (n+1)) rfl))))))
 ·have hx:=d.some;have c:=f.some;rw[XF];delta Nj qG qT qN;refine aa (nC (n+1) d) (aa aM (aa (z:=false) rfl (aa (z:=false) ?_ (aa (z:=false) rfl ?_))))
  ·rw[if_neg (by decide)];exact aa (nC (n+1) f) (aa aM rfl)
  rw[if_neg (by decide)]
  have r1:=fV hx.1 c.2 (cq y);have g:=fV c.1 hx.2 (cq x);refine aa (z:=ae x.num) rfl (aa (z:=ae (y.den:Int)) rfl (aa (LR (n+1) hx.1 c.2 (cq y)) (aa (z:=ae y.num) rfl (aa (z:=ae (x.den:Int)) rfl (aa (LR (n+1) c.1 hx.2 (cq x)) ?_)))));simp only[mulW,JX];generalize Rat.divInt x.num y.den=P at *;generalize Rat.divInt y.num x.den=Q at *;refine aa (z:=ae P.num) rfl (aa (z:=ae Q.num) rfl (aa (Do (n+2) r1.1 g.1) (aa (z:=ae (P.den:Int)) rfl (aa (z:=ae (Q.den:Int)) rfl (aa (Do (n+2) r1.2 g.2) ?_)))));exact aa (LT n (fJ _ _) (fJ _ _)) rfl
def LW(n:Nat){a:Option Rat}(b:OW a):cA (n+6) 70 [bV a]=some (bV (DU a)):=by
 cases a with
 | some q=>exact ZI n b.some
 | none=>rw[XH];delta NA qG qN;exact aa (nC n b) (aa aM (aa (z:=true) rfl (dX (aa (M4 n) rfl))))
def U3(n:Nat){a b:Option Rat}(d:OW a)(c:OW b):cA (n+8) 39 [bV a,bV b]=some (bV (VE a b)):=by
 rw[ZZ];unfold Pq;exact aa (LW (n+1) c) (aa (Oa n d (xB c)) rfl)
def Vh(n:Nat){a b:Option Rat}(d:OW a)(c:OW b):cA (n+8) 65 [bV a,bV b]=some (bV (xd a b)):=by
 rw[u65];delta PD qG qN;cases b with
 | none=>exact aa (nC (n+2) c) (aa aM (aa (z:=true) rfl (dX (aa (M4 (n+2)) rfl))))
 | some y=>
  refine aa (nC (n+2) c) (aa aM (aa (z:=false) rfl ?_));rw[if_neg (by decide)]
  exact aa (z:=ae (y.den:Int)) rfl (aa (z:=ae y.num) rfl (aa (UY (n+1) c.some.2 c.some.1) (aa (LU n d (sa (bc c.some.2) (bc c.some.1))) rfl)))
end Sy
end
noncomputable section
namespace Sy
open Go Go.Proofs Geo
end Sy
end
noncomputable section
namespace Sy
open Go Go.Proofs Geo
def UU(n:Nat){q:Rat}(h:InR q):cA (n+1031) 357 [dC q]=some (dC (-q)):=by
 rw[O8];delta E1 qG qN;refine aa (NT n h) (aa (z:=.bool false) rfl (aa (z:=false) rfl ?_));rw[if_neg (by decide)]
 exact aa (z:=ae q.num) rfl (aa (z:=ae (-q.num)) (Vi (n+1027) (a:=some q.num) (λx hx=>by cases hx;exact h.1)) (aa (z:=ae (q.den:Int)) rfl rfl))
structure Way(P:List D)(z:Nat->Int):Prop where
 get:∀ i (h:i<P.length),D.get P[i] [0,2]=some (I (z i))
 le:∀ i,i<P.length->(z i).natAbs<=2^60
 len:P.length<=512
end Sy
end
noncomputable section
namespace Sy
open Go Go.Proofs Geo
def yz(n:Nat){a:Option Int}(b:n8 a):cA (n+2) 128 [cF a]=some (.bool a.isSome):=by
 cases a with
 | some x=>exact Fp n b.some
 | none=>rw[OY];delta ER qG qN;exact aa (z:=.bool true) rfl (aa (z:=.bool false) rfl (aa (z:=false) rfl (aa (z:=false) rfl rfl)))
def yA(n:Nat):cA (n+4) 130 []=some LA:=by
 rw[V6];unfold HS;exact aa (Dk (n+2)) (aa (LK n) rfl)
def Ok(n:Nat){a b:Option Int}(f:n8 a)(c:n8 b):cA (n+1030) 62 [cF a,cF b]=some (bV (k9 a b)):=by
 rcases ef (a:=a) (b:=b) with h|⟨x,d,rfl,rfl⟩
 ·have e:k9 a b=none:=by cases a<;>cases b<;>simp at h<;>rfl
  rw[e,Xn];delta MU qC qT qN Jn;exact aa (yz (n+1027) f) (aa aM (aa ac (aa (xE h (yz (n+1027) c)) (aa (z:=true) rfl (aa (z:=true) rfl (aa (z:=true) rfl (dX (aa (yA (n+1025)) rfl))))))))
 ·by_cases hd:d=0
  ·subst hd;rw[Xn];delta MU qC qT qN Jn;refine aa (yz (n+1027) f) (aa aM (aa (z:=false) rfl (aa (z:=false) ?_ (aa (z:=false) rfl (aa (z:=true) ?_ (aa (z:=true) rfl (dX (aa (yA (n+1025)) rfl))))))))
   ·rw[if_neg (by decide)];exact aa (yz (n+1027) c) (aa aM rfl)
   ·rw[if_neg (by decide)];exact aa (rJ (n+1026) c.some) rfl
  ·rw[xv hd];exact M0 n f.some c.some hd
def Fv(n:Nat){x y:Int}(hx:In x)(c:In y):cA (n+3) 61 [ae x,ae y]=some (cF (lQ (some x) (some y))):=XA n (a:=some x) (b:=some y) (bc hx) (bc c)
def Vg(n:Nat){x d:Int}(hx:In x)(c:In d):cA (n+1030) 62 [ae x,ae d]=some (bV (k9 (some x) (some d))):=Ok n (a:=some x) (b:=some d) (bc hx) (bc c)
def iE(n:Nat){a:Option Rat}(b:OW a):cA (n+1030) 136 [bV a]=some (.bool a.isSome):=by
 cases a with
 | some q=>exact NT n b.some
 | none=>
  rw[O0];delta ET qG qB qT Jn;exact aa (z:=uI) rfl (aa (yz (n+1027) (a:=none) lg) (aa (z:=false) rfl (aa (z:=false) rfl (aa (z:=false) rfl (aa (z:=false) rfl (aa (z:=false) rfl (aa (z:=false) rfl rfl)))))))
def KL(n:Nat){a b:Option Rat}(d:OW a)(f:OW b):cA (n+1031) 173 [bV a,bV b]=some (bV (addW a b)):=by
 rcases gm (a:=a) (b:=b) with h|⟨x,y,rfl,rfl⟩
 ·have e:addW a b=none:=by cases a<;>cases b<;>simp at h<;>rfl
  rw[e,O5];delta EY qG qT qN;exact aa (iE n d) (aa aM (aa ac (aa (sf h (iE n f)) (aa (z:=true) rfl (dX (aa (yA (n+1026)) rfl))))))
 ·have hx:=d.some;have c:=f.some;rw[O5];delta EY qG qT qN;refine aa (iE n d) (aa aM (aa (z:=false) rfl (aa (z:=false) ?_ (aa (z:=false) rfl ?_))))
  ·rw[if_neg (by decide)];exact aa (iE n f) (aa aM rfl)
  rw[if_neg (by decide)]
  obtain⟨g,p,q,i,r,hp,hq,s,t,o,eq⟩:=G4 x y;have j:=FU (y:=y) hx;have g0:((Nat.gcd x.den y.den:Nat):Int)≠0:=by rw[<-i];omega
  have h1:=Dl (n+1) hx.2 c.2;rw[zoa,zoa] at h1;have k:=AD (n+1024) hx.2 j g0 ⟨p,by rw[<-i,hp,zXa]⟩
  have l:=AD (n+1024) c.2 j g0 ⟨q,by rw[<-i,hq,zXa]⟩
  have ip:=kF hx.2 ((Nat.gcd x.den y.den:Nat):Int);have m:=kF c.2 ((Nat.gcd x.den y.den:Nat):Int);refine aa (z:=ae (x.den:Int)) rfl (aa (z:=ae (y.den:Int)) rfl (aa h1 ?_));refine aa (z:=ae (x.den:Int)) rfl (aa k (aa (z:=ae (y.den:Int)) rfl (aa l (aa (z:=ae x.num) rfl (aa (Fv (n+1027) hx.1 m) (aa (z:=ae y.num) rfl (aa (Fv (n+1027) c.1 ip) (aa (Xy (n+1026) (fJ _ _) (fJ _ _)) (aa (z:=ae (y.den:Int)) rfl (aa (Fv (n+1027) ip c.2) ?_))))))))));exact aa (Ok n (wT _ _) (fJ _ _)) rfl
def KM(n:Nat){a b:Option Rat}(g:OW a)(i:OW b):cA (n+1031) 174 [bV a,bV b]=some (bV (mulW a b)):=by
 rcases gm (a:=a) (b:=b) with h|⟨x,y,rfl,rfl⟩
 ·have e:mulW a b=none:=by cases a<;>cases b<;>simp at h<;>rfl
  rw[e,O6];delta EZ qG qT qN;exact aa (iE n g) (aa aM (aa ac (aa (sf h (iE n i)) (aa (z:=true) rfl (dX (aa (yA (n+1026)) rfl))))))
 ·have hx:=g.some;have f:=i.some;rw[O6];delta EZ qG qT qN;refine aa (iE n g) (aa aM (aa (z:=false) rfl (aa (z:=false) ?_ (aa (z:=false) rfl ?_))))
  ·rw[if_neg (by decide)];exact aa (iE n i) (aa aM rfl)
  rw[if_neg (by decide)]
  obtain⟨v1,v2⟩:=Cg x.num (cq y);obtain⟨w1,k⟩:=Cg y.num (cq x);rw[zoa] at v2 k;have r1:=fV hx.1 f.2 (cq y);have j:=fV f.1 hx.2 (cq x);refine aa (z:=ae x.num) rfl (aa (z:=ae (y.den:Int)) rfl (aa (M0 n hx.1 f.2 (cq y)) (aa (z:=ae y.num) rfl (aa (z:=ae (x.den:Int)) rfl (aa (M0 n f.1 hx.2 (cq x)) ?_)))));simp only[mulW,JX];generalize Rat.divInt x.num y.den=P at *;generalize Rat.divInt y.num x.den=Q at *;refine aa (z:=ae P.num) rfl (aa (z:=ae Q.num) rfl (aa (Fv (n+1027) r1.1 j.1) (aa (z:=ae (P.den:Int)) rfl (aa (z:=ae (Q.den:Int)) rfl (aa (Fv (n+1027) r1.2 j.2) ?_)))));have c:0<(P.den:Int)*Q.den:=by
   have:=Nat.mul_pos P.den_pos Q.den_pos;rw[<-zXa];omega
  have c1:Nat.Coprime P.num.natAbs P.den:=P.reduced;have c2:Nat.Coprime Q.num.natAbs Q.den:=Q.reduced;have l:Nat.Coprime P.num.natAbs Q.den:=Nat.Coprime.coprime_dvd_left v1 (Nat.Coprime.coprime_dvd_right k x.reduced);have m:Nat.Coprime Q.num.natAbs P.den:=Nat.Coprime.coprime_dvd_left w1 (Nat.Coprime.coprime_dvd_right v2 y.reduced);have d:Nat.gcd (P.num*Q.num).natAbs ((P.den:Int)*Q.den).natAbs=1:=by
   rw[zKa,<-zXa,zoa];exact Nat.Coprime.mul_left (Nat.Coprime.mul_right c1 l) (Nat.Coprime.mul_right m c2)
  obtain⟨o,z2⟩:=AJ c d;simp only[lQ,gO];by_cases t1:(P.num*Q.num).natAbs<dM
  ·rw[if_pos t1];by_cases t2:((P.den:Int)*Q.den).natAbs<dM
   ·rw[if_pos t2];refine aa (z:=.bool false) rfl (aa (z:=false) rfl (aa (z:=false) ?_ (aa (z:=false) rfl ?_)))
    ·rw[if_neg (by decide)]
     exact aa (z:=.bool false) rfl rfl
    rw[if_neg (by decide),xv (by omega)]
    show some (D.st [ae (P.num*Q.num),ae ((P.den:Int)*Q.den)])=some (D.st [ae (Rat.divInt (P.num*Q.num) ((P.den:Int)*Q.den)).num,ae ((Rat.divInt (P.num*Q.num) ((P.den:Int)*Q.den)).den:Int)]);rw[o,z2]
   ·rw[if_neg t2];refine aa (z:=.bool false) rfl (aa (z:=false) rfl (aa (z:=true) ?_ (aa (z:=true) rfl (dX (aa (yA (n+1026)) rfl)))));rw[if_neg (by decide)]
    exact aa (z:=.bool true) rfl rfl
  ·rw[if_neg t1];exact aa (z:=.bool true) rfl (aa (z:=true) rfl (aa (z:=true) rfl (aa (z:=true) rfl (dX (aa (yA (n+1026)) rfl)))))
def N5(n:Nat){a:Option Rat}(b:OW a):cA (n+1031) 357 [bV a]=some (bV (DU a)):=by
 cases a with
 | some q=>exact UU n b.some
 | none=>rw[O8];delta E1 qG qN;exact aa (iE n b) (aa aM (aa (z:=true) rfl (dX (aa (yA (n+1026)) rfl))))
def KN(n:Nat){a b:Option Rat}(d:OW a)(c:OW b):cA (n+1032) 352 [bV a,bV b]=some (bV (xd a b)):=by
 rw[WO];delta Iy qG qN;cases b with
 | none=>exact aa (iE (n+1) c) (aa aM (aa (z:=true) rfl (dX (aa (yA (n+1027)) rfl))))
 | some y=>
  refine aa (iE (n+1) c) (aa aM (aa (z:=false) rfl ?_));rw[if_neg (by decide)]
  exact aa (z:=ae (y.den:Int)) rfl (aa (z:=ae y.num) rfl (aa (Vg (n+1) c.some.2 c.some.1) (aa (KM n d (sa (bc c.some.2) (bc c.some.1))) rfl)))
def M8:Option Rat->Int
 | some q=>sg q.num
 | none=>0
def UR(n:Nat){a:Option Rat}(h:OW a):cA (n+1031) 342 [bV a]=some (I (M8 a)):=by
 rw[WJ];delta It qG qN Jn;cases a with
 | none=>exact aa (iE n h) (aa aM (aa (z:=true) rfl (dX rfl)))
 | some q=>
  refine aa (iE n h) (aa aM (aa (z:=false) rfl ?_));rw[if_neg (by decide)]
  exact aa (z:=ae q.num) rfl (aa (rJ (n+1027) h.some.1) rfl)
def N0(n:Nat){a:Option Rat}(h:OW a):cA (n+6) 322 [bV a]=some (I (M8 a)):=by
 rw[WG];delta Iq qG qN Jn;cases a with
 | none=>exact aa (nC n h) (aa aM (aa (z:=true) rfl (dX rfl)))
 | some q=>
  refine aa (nC n h) (aa aM (aa (z:=false) rfl ?_));rw[if_neg (by decide)]
  exact aa (z:=ae q.num) rfl (aa (EE (n+2) h.some.1) rfl)
end Sy
end
noncomputable section
namespace Sy
open Go Go.Proofs Geo
end Sy
end
noncomputable section
namespace Sy
open Go Go.Proofs Geo
theorem A0{body:Bd}{m:Nat}{r0:List D}(ok:Nat->Bool)(h:∀ i,i<m->body [I (i:Int)]=some (if ok i then .inl [I ((i+1:Nat):Int)] else .inr (0,r0)))(he:body [I (m:Int)]=some (.inr (1,[]))) :
  ∀ d j,j+d=m->aL body [I (j:Int)]=some (if((List.range d).all λt=>ok (j+t)) then(1,[]) else(0,r0))
 | 0,j,b=>by
  have b:j=m:=by omega
  subst b;exact(ck he:aL body [I (j:Int)]=some (1,[]))
 | d+1,j,b=>by
  have ih:=A0 ok h he d (j+1) (by omega)
  have a:=h j (by omega)
  rw[List.range_succ_eq_map];simp only[zIb,List.all_map,zVb,Function.comp_def];cases hok:ok j with
  | false=>
   rw[hok] at a;exact(ck a:aL body [I (j:Int)]=some (0,r0))
  | true=>
   rw[hok] at a;rw[show aL body [I (j:Int)]=aL body [I ((j+1:Nat):Int)] from cH a,ih];simp only[zQb,Nat.succ_eq_add_one,zzb,zwc 1]
def yp(m:Int)(x:Int):Bool:=decide (-m<x)&&decide (x<m)
def nD(v:V)(i:Nat):Int:=if i=0 then v.x else if i=1 then v.y else v.z
def FY{v:V}{i:Nat}(h:i<3):D.get (ab v) [i]=some (I (nD v i)):=by
 have:i=0\/i=1\/i=2:=by omega
 rcases this with rfl|rfl|rfl<;>rfl
end Sy
end
noncomputable section
namespace Sy
open Go Go.Proofs Geo
def UV(n:Nat){a b:Int}(c:a.natAbs<=9223372036854775807)(d:b.natAbs<=9223372036854775807):cA (n+1) 364 [I a,I b]=some (I (Nat.gcd a.natAbs b.natAbs:Nat)):=by
 rw[WP,show Iz aL (cA n) (I a) (I b)=EW aL (cA n) (I a) (I b) from rfl,<-O3];exact LJ n c d
def UW(n:Nat)(a:Int):cA (n+1) 365 [I a]=some (I (sg a)):=by
 rw[WQ];delta IA qC Jn;refine aa ah (aa ac ?_);by_cases h:a<0
 ·refine aA h ?_;rw[show sg a=-1 by unfold sg;rw[if_pos h]]
 ·refine aD h ?_;by_cases h0:0<a
  ·rw[show sg a=1 by unfold sg;rw[if_neg h,if_pos h0]]
   have e:D.min2 (I a) (I 1)=some (I 1):=by
    simp only[D.min2];split
    ·rfl
    ·rw[show a=1 by omega]
   exact aa e rfl
  ·have b:a=0:=by omega
   subst b;rfl
def fW(q:Nat->Int):D:=.st [I (q 0),I (q 1),I (q 2),I (q 3)]
def vE{q:Nat->Int}{i:Nat}(h:i<4):D.get (fW q) [i]=some (I (q i)):=by
 have:i=0\/i=1\/i=2\/i=3:=by omega
 rcases this with rfl|rfl|rfl|rfl<;>rfl
def DL(q:Nat->Int):Bool:=(List.range 4).all λt=>yp 65 (q (0+t))
def Cw{q:Nat->Int}(h:DL q=true):∀ i,i<4->(q i).natAbs<=64:=by
 intro i a;have:=zpa.1 h i (zNa.2 a);simp only[yp,zaa,decide_eq_true_eq,z5a] at this;omega
def US(n:Nat)(q:Nat->Int):cA (n+1) 348 [fW q]=some (.bool (DL q)):=by
 rw[WM];delta Iw qB qC qT qJ qZ iL iR Jn;refine ql (r:=if DL q then(1,[]) else(0,[.bool false])) (A0 (m:=4) (λi=>yp 65 (q i)) (λi d=>?_) ?_ 4 0 rfl) ?_
 ·have c:D.idx (I (i:Int)) 4=some i:=am d;refine aa ah (aa ac (aA (by show(i:Int)<4;omega) ?_))
  have hx:=vE (q:=q) d;refine aa c (aa hx ?_);generalize q i=x at *;by_cases h1:x>64
  ·have e:yp 65 x=false:=by simp[yp];omega
   refine aa (z:=.bool true) (by simp[D.bin,h1]) (aa (z:=true) rfl (aa (z:=true) rfl (aa (z:=true) rfl ?_)))
   rw[if_pos rfl,e];rfl
  ·refine aa (z:=.bool false) (by simp[D.bin,h1]) (aa (z:=false) rfl ?_)
   by_cases h2:x < -64
   ·have e:yp 65 x=false:=by simp[yp];omega
    refine aa (z:=true) ?_ (aa (z:=true) rfl ?_)
    ·rw[if_neg (by decide)]
     exact aa c (aa hx (aa (z:=.bool true) (by simp[D.bin,h2]) rfl))
    ·rw[if_pos rfl,e];rfl
   ·have e:yp 65 x=true:=by simp[yp];omega
    refine aa (z:=false) ?_ (aa (z:=false) rfl ?_)
    ·rw[if_neg (by decide)]
     exact aa c (aa hx (aa (z:=.bool false) (by simp[D.bin,h2]) rfl))
    ·rw[if_neg (by decide),e]
     exact aa (aJ (a:=i) (b:=1) (by omega)) rfl
 ·exact aa ah (aa ac (aD (by decide) rfl))
 ·cases DL q<;>rfl
end Sy
end
noncomputable section
namespace Sy
open Go Go.Proofs Geo
def Mu{body:Bd}{s0:List D}{k:Nat×List D->Option D}{Q:D->Prop}(h:∃ r,aL body s0=some r/\∃ y,k r=some y/\Q y):∃ y,Option.bind (aL body s0) k=some y/\Q y:=by
 obtain⟨r,h1,y,a,b⟩:=h;exact⟨y,ql h1 a,b⟩
def cY{α β:Type}{A:Option α}{g:α->Option β}{Q:β->Prop}{z:α}(h:A=some z)(hk:∃ y,g z=some y/\Q y):∃ y,Option.bind A g=some y/\Q y:=by
 subst h;exact hk
theorem Ot{body:Bd}{q:Nat->Int}(h1:∀ (g s:Int) (k:Nat),k<4->0<=g->g<=64->s.natAbs<=1->∃ a s':Int,body [I g,I s,I (k:Int)]=some (.inl [I a,I s',I ((k:Int)-1)])/\0<=a/\a<=64/\s'.natAbs<=1/\(s'≠0->s≠0\/q k≠0))
  (d:∀ g s:Int,body [I g,I s,I (-1)]=some (.inr (0,[I g,I s]))):∀ (c:Nat),c<=4->∀ g s:Int,0<=g->g<=64->s.natAbs<=1->(s≠0->∃ i,i<4/\q i≠0) ->
   ∃ a s':Int,aL body [I g,I s,I ((c:Int)-1)]=some (0,[I a,I s'])/\0<=a/\a<=64/\s'.natAbs<=1/\(s'≠0->∃ i,i<4/\q i≠0)
 | 0,_,g,s,g0,g1,s1,b=>⟨g,s,ck (d g s),g0,g1,s1,b⟩
 | c+1,hc,g,s,g0,g1,s1,b=>by
  obtain⟨a,s',j,l,m,n,o⟩:=h1 g s c (by omega) g0 g1 s1
  obtain⟨g2,s2,e,f⟩:=Ot h1 d c (by omega) a s' l m n (λh=>(o h).elim b (λh=>⟨c,by omega,h⟩))
  refine⟨g2,s2,?_,f⟩;rw[show(((c+1:Nat):Int)-1)=(c:Int) by omega]
  exact(cH j).trans e
def Oq{body:Bd}{q:Nat->Int}{k:Nat×List D->Option D}{Q:D->Prop}(h1:∀ (g s:Int) (k:Nat),k<4->0<=g->g<=64->s.natAbs<=1->∃ a s':Int,body [I g,I s,I (k:Int)]=some (.inl [I a,I s',I ((k:Int)-1)])/\0<=a/\a<=64/\s'.natAbs<=1/\(s'≠0->s≠0\/q k≠0))
  (b:∀ g s:Int,body [I g,I s,I (-1)]=some (.inr (0,[I g,I s]))) (c:∀ g s:Int,0<=g->g<=64->s.natAbs<=1->(s≠0->∃ i,i<4/\q i≠0)->∃ y,k (0,[I g,I s])=some y/\Q y):∃ y,Option.bind (aL body [I 0,I 0,I 3]) k=some y/\Q y:=by
 obtain⟨g,s,e,g0,g1,s1,d⟩:=Ot h1 b 4 (zfa _) 0 0 (by decide) (by decide) (by decide) (λh=>absurd rfl h)
 exact Mu ⟨_,e,c g s g0 g1 s1 d⟩
def UT(n:Nat){q:Nat->Int}(hq:∀ i,i<4->(q i).natAbs<=64):∃ r,cA (n+2) 349 [fW q]=some r/\∃ y b,r=.tup [y,.bool b]/\(b=true->∃ i,i<4/\q i≠0):=by
 rw[WN];delta Ix qG qB qC qT qJ qZ iL iR Jn;refine Oq (q:=q) (λg s k hk g0 g1 s1=>?_) (λg s=>aa (z:=.bool false) rfl (aa (z:=false) rfl rfl)) (λg s g0 g1 s1 t=>?_)
 ·have c:D.idx (I (k:Int)) 4=some k:=am hk;have hx:=vE (q:=q) hk;have d:=hq k hk;have o:=UV (n) (a:=g) (b:=q k) (by omega) (by omega)
  have m:Nat.gcd g.natAbs (q k).natAbs<=64:=p8 (by omega) d
  refine⟨((Nat.gcd g.natAbs (q k).natAbs:Nat):Int),if q k=0 then s else sg (q k),aa (z:=.bool true) (by simp[D.bin]) (aa (z:=true) rfl (dX (aa (z:=(0,[I ((Nat.gcd g.natAbs (q k).natAbs:Nat):Int),I (if q k=0 then s else sg (q k))])) (aa c (aa hx (aa o (aa c (aa hx ?_))))) (aa (z:=I ((k:Int)-1)) ?_ rfl)))),by omega,by omega,?_,?_⟩
  ·by_cases h:q k=0
   ·rw[h];exact aa (z:=false) rfl rfl
   ·rw[if_neg h];refine aa (z:=true) (by rw[bI];simp[h,D.truth]) (dX (aa c (aa hx (aa (UW n (q k)) rfl))))
  ·have:k=0\/k=1\/k=2\/k=3:=by omega
   rcases this with rfl|rfl|rfl|rfl<;>rfl
  ·split
   ·exact s1
   ·unfold sg;split<;>(try split)<;>decide
  ·intro h;by_cases h0:q k=0
   ·left;rw[if_pos h0] at h;exact h
   ·exact .inr h0
 ·have ms:(s*g).natAbs<=64:=by
   have:=z1a s1 (show g.natAbs<=64 by omega)
   rwa [<-zKa,zNc] at this
  refine cY (mo (a:=g) (by simp only[inR];omega)) (cY (z:=I g) ((CC (a:=g) (b:=-g)).trans (by congr 2;omega)) (cY (br (a:=s) (b:=g) (by simp only[inR];omega)) ?_))
  by_cases h:s*g=0
  ·rw[h];exact cY (z:=true) rfl ⟨_,rfl,_,false,rfl,λh=>by cases h⟩
  ·have p:s≠0:=λh0=>h (by rw[h0,z1c])
   refine cY (z:=false) (by rw[bI,decide_eq_false h];rfl) ?_
   have qq:∀ x:Int,∃ z,D.bin .quo (I x) (I (s*g))=some z:=λx=>⟨D.int .i64 (IntKind.i64.wrap (x.tdiv (s*g))),by simp only[D.bin,if_true,if_neg h]⟩
   obtain⟨z0,e⟩:=qq (q 0);obtain⟨u,f⟩:=qq (q 1);obtain⟨z2,j⟩:=qq (q 2);obtain⟨z3,l⟩:=qq (q 3);rw[if_neg (by decide)]
   exact cY (vE (i:=0) (by decide)) (cY e (cY (vE (i:=1) (by decide)) (cY f (cY (vE (i:=2) (by decide)) (cY j (cY (vE (i:=3) (by decide)) (cY l ⟨_,rfl,_,true,rfl,λ_=>t p⟩)))))))
end Sy
end
noncomputable section
namespace Sy
open Go Go.Proofs Geo
def UQ(n:Nat)(q:Nat->Int):∃ v:Bool,cA (n+3) 331 [fW q]=some (.bool v)/\(v=true->DL q=true/\∃ i,i<4/\q i≠0):=by
 rw[WI];delta Is qT qN;have a:=US (n+1) q;cases hl:DL q with
 | false=>
  rw[hl] at a;exact⟨false,aa a (aa (z:=.bool true) rfl (aa (z:=true) rfl (dX rfl))),λh=>by cases h⟩
 | true=>
  rw[hl] at a;obtain⟨r,h1,y,b,rfl,c⟩:=UT n (Cw hl);cases b with
  | false=>
   refine⟨false,aa a (aa (z:=.bool false) rfl (aa (z:=false) rfl ?_)),λh=>by cases h⟩
   rw[if_neg (by decide)]
   exact aa h1 (aa (z:=y) rfl (aa (z:=.bool false) rfl (aa (z:=false) rfl (aa (z:=false) rfl rfl))))
  | true=>
   refine⟨D.beq y (fW q),aa a (aa (z:=.bool false) rfl (aa (z:=false) rfl ?_)),λ_=>⟨rfl,c rfl⟩⟩;rw[if_neg (by decide)]
   exact aa h1 (aa (z:=y) rfl (aa (z:=.bool true) rfl (aa (z:=true) rfl (aa (z:=D.beq y (fW q)) (dX rfl) rfl))))
def dc(x:V)(q:Nat->Int):D:=.st [ab x,fW q]
end Sy
end
noncomputable section
namespace Sy
open Go Go.Proofs Geo
end Sy
end
noncomputable section
namespace Sy
open Go Go.Proofs Geo
end Sy
end
noncomputable section
namespace Sy
open Go Go.Proofs Geo
structure Bdy where
 nm:ByteArray
 P:List (List V)
 m0:Int
 m1:Int
 r0:Int
 r1:Int
def Jy{v:V}{k:Int}(h:∀ t,t<3->nD v t<=k/\-k<=nD v t):bd k v:=by
 have a:=h 0 (by decide);have b:=h 1 (by decide);have c:=h 2 (by decide)
 simp only[nD,if_true,if_false,Nat.one_ne_zero,Nat.reduceEqDiff] at a b c;exact⟨⟨a.2,a.1⟩,⟨b.2,b.1⟩,⟨c.2,c.1⟩⟩
def yV{v:V}{i:Nat}(h:i<3):D.fld (ab v) i=some (I (nD v i)):=by
 have:i=0\/i=1\/i=2:=by omega
 rcases this with rfl|rfl|rfl<;>rfl
structure Hul(l:List V):Prop where
 len:l.length<=64
 bd:∀ x∈l,bd MV x
 srt:E8 l
 vtx:∀ k,k<l.length->NJ (pt l) l.length k
 ex:∃ m d,IsF (pt l) l.length m d
def UF(n:Nat){l:List V}(h:l.length<=100):(∃ e:Int,cA (n+9) 15 [cd l]=some (I e)/\e≠0)\/(cA (n+9) 15 [cd l]=some (I 0)/\Hul l):=by
 rcases ZD n (l:=l) h with⟨e,h1,a⟩|⟨h1,a,m,F,b,d,_,c⟩
 ·exact .inl ⟨e,h1,a⟩
 ·right;have g:=List.Pairwise.sublist (Ev (du l) F) (ut l);rw[c] at g;have i:=G3 g;rw[Ko g] at b c;refine⟨h1,a,m,i,λk hk=>?_,?_⟩
  ·refine F9 i b.fok ?_;have e:=congrArg List.length c;unfold cW at e;rw[zma] at e;have j:((List.range l.length).filter (jP F)).length=(List.range l.length).length:=by rw[e,zRb]
   exact List.length_filter_eq_length_iff.1 j k (zNa.2 hk)
  ·obtain⟨f,o⟩:∃ f,f∈F:=List.exists_mem_of_ne_nil F (λe=>d (by rw[e];rfl))
   exact⟨_,_,(b.fok.ok f o).1⟩
def Hul.pos{l:List V}(h:Hul l):0<l.length:=by
 obtain⟨m,d,a⟩:=h.ex;obtain⟨i,j,k,h1,b,c,_⟩:=a.ex;omega
end Sy
end
noncomputable section
namespace Sy
open Go Go.Proofs Geo
def M5(p:List Nat)(a b i:Nat):Bool:=(decide (p.getD i 0=a)&&decide (p.getD ((i+1)%p.length) 0=b))||(decide (p.getD i 0=b)&&decide (p.getD ((i+1)%p.length) 0=a))
def Hq(p:List Nat)(a b t:Nat):Bool:=(List.range t).any (M5 p a b)
def mY(F:FL)(a b:Nat):Bool:=F.any λf=>Hq f.2 a b f.2.length
def kI(F:FL)(a b:Nat):List (Nat×Nat):=((List.range b).filter λc=>decide (a<c)&&mY F a c).map λc=>(a,c)
def kY(F:FL)(N a:Nat):List (Nat×Nat):=(List.range a).flatMap λa=>kI F a N
def Ge(p:List Nat)(a b t:Nat):Hq p a b (t+1)=(Hq p a b t||M5 p a b t):=by
 unfold Hq;rw[z2b,zUc];simp
def Eg(F:FL){a b:Nat}(h:a<b):kI F a (b+1)=if mY F a b then kI F a b++[(a,b)] else kI F a b:=by
 unfold kI;rw[z2b,List.filter_append];by_cases k:mY F a b=true<;>simp[h,k]
def GW(F:FL)(a:Nat):kI F a (a+1)=[]:=by
 unfold kI;rw[List.map_eq_nil_iff,List.filter_eq_nil_iff];intro c hc;have:=zNa.1 hc;simp;omega
def zY(F:FL)(a b:Nat):(kI F a b).length<=b:=by
 unfold kI;rw[zma];exact zBa (zzc _ _) (by simp)
def u6(F:FL)(N a:Nat):kY F N (a+1)=kY F N a++kI F a N:=by
 unfold kY;rw[z2b,List.flatMap_append];simp
def yt(F:FL)(N a:Nat):(kY F N a).length<=a*N:=by
 induction a with
 | zero=>simp[kY]
 | succ a ih=>rw[u6,zja,Nat.succ_mul];have:=zY F a N;omega
def zr{F:FL}{N:Nat}{e:Nat×Nat}:e∈kY F N N↔e.1<N/\e.2<N/\e.1<e.2/\mY F e.1 e.2=true:=by
 obtain⟨a,b⟩:=e;simp only[kY,kI,zgb,zNa,zab,zxc,zaa,decide_eq_true_eq,Prod.mk.injEq];constructor
 ·rintro⟨c,hc,d,⟨i,h1,f⟩,rfl,rfl⟩;exact⟨hc,i,h1,f⟩
 ·rintro⟨h1,f,g,h⟩;exact⟨a,h1,b,⟨f,g,h⟩,rfl,rfl⟩
def Fb(F:FL)(N:Nat):(kY F N N).Pairwise zL:=by
 unfold kY;rw[List.pairwise_flatMap];refine⟨λa _=>?_,?_⟩
 ·unfold kI;refine List.pairwise_map.2 ((List.Pairwise.filter _ List.pairwise_lt_range).imp λh=>.inr ⟨rfl,h⟩)
 ·refine List.pairwise_lt_range.imp λ{a b} h x hx y e=>?_;simp only[kI,zab] at hx e;obtain⟨c,_,rfl⟩:=hx;obtain⟨d,_,rfl⟩:=e;exact .inl h
def Up{M:List (Nat×Nat)}(e:Nat×Nat):D.sl (M.map cn++[cn e])=.sl ((M++[e]).map cn):=by simp
def dt(M:List (Nat×Nat)):(M.map cn).length=M.length:=zma ..
def ZE(n:Nat){l:List V}(hlen:l.length<=100){F:FL}(T:F.length<=3000000)(hp:∀ f∈F,0<f.2.length/\f.2.length<=1000000)(h19:cA (n+1) 19 [cd l]=some (.sl (aK F))):cA (n+2) 22 [cd l]=some (.sl ((kY F l.length l.length).map cn)):=by
 rw[ZW]
 delta Pn qB qT qS qX qL qM qV qW qZ iL iR Jn
 refine aa h19 ?_;refine bq (λa s=>s=[.sl ((kY F l.length a).map cn),I (a:Int)]) l.length 0 (zla _) rfl (λa U s c=>?_) (λs c=>?_)
 ·subst c;left;refine⟨[.sl ((kY F l.length (a+1)).map cn),I ((a+1:Nat):Int)],?_,rfl⟩;have v:(kY F l.length a).length<=10000:=zBa (yt F l.length a) (z1a (show a<=100 by omega) hlen)
  refine aa (z:=aT l) rfl (aa (z:=l.map ab) rfl (aa ah (aa ac (aA (by show((a:Int)<((l.map ab).length:Int));rw[au];omega) (aa (aq (ay (i:=a) (by omega))) ?_)))))
  rw[u6];obtain⟨M,O⟩:∃ M,kY F l.length a=M:=⟨_,rfl⟩;rw[O] at v ⊢;refine bC (λb s=>a+1<=b/\s=[.sl ((M++kI F a b).map cn),I (b:Int)]) l.length (a+1) (by omega) ⟨zfa _,by rw[GW,ztb];rfl⟩ (λb J s c=>?_) (λs c=>?_)
  ·obtain⟨u,rfl⟩:=c;left;refine⟨[.sl ((M++kI F a (b+1)).map cn),I ((b+1:Nat):Int)],?_,by omega,rfl⟩
   have S:=zY F a b;rw[Eg F (show a<b by omega)]
   obtain⟨R,r⟩:∃ R,M++kI F a b=R:=⟨_,rfl⟩;have P:R.length<=10100:=by rw[<-r,zja];omega
   have N:(M++if mY F a b=true then kI F a b++[(a,b)] else kI F a b)=if mY F a b=true then R++[(a,b)] else R:=by
    split
    ·rw[<-r,zCa]
    ·exact r
   rw[N,r];refine aa (z:=aT l) rfl (aa (z:=l.map ab) rfl (aa ah (aa ac (aA (by show((b:Int)<((l.map ab).length:Int));rw[au];omega) ?_))))
   refine aa (z:=(0,[.sl ((if mY F a b=true then R++[(a,b)] else R).map cn)])) ?_ (aa (aq (ay (i:=b) (by omega))) rfl)
   refine bC (λk s=>s=[.sl (R.map cn),.bool (mY (F.take k) a b),I (k:Int)]) F.length 0 (zla _) rfl (λk hk s c=>?_) (λs c=>?_)
   ·subst c;left;refine⟨[.sl (R.map cn),.bool (mY (F.take (k+1)) a b),I ((k+1:Nat):Int)],?_,rfl⟩;obtain⟨g,w⟩:=hp F[k] (zva hk);have L:mY (F.take (k+1)) a b=(mY (F.take k) a b||Hq F[k].2 a b F[k].2.length):=by
     unfold mY;rw[zua hk,zUc];simp
    refine aa (z:=aK F) rfl (aa ah (aa ac (aA (by show((k:Int)<((aK F).length:Int));rw[aV];omega) ?_)))
    refine aa (z:=aK F) rfl (aa (z:=k) (by rw[aV];exact am hk) (aa (ed hk) (aa (z:=.sl (ag F[k].2)) rfl ?_)))
    rw[L];generalize mY (F.take k) a b=e;obtain⟨p,A⟩:∃ p,F[k].2=p:=⟨_,rfl⟩;rw[A] at g w ⊢;refine bC (λi s=>s=[.sl (R.map cn),.bool (e||Hq p a b i),I (i:Int)]) p.length 0 (zla _) (by rw[show Hq p a b 0=false from rfl,Bool.or_false];rfl) (λi K s c=>?_) (λs c=>?_)
    ·subst c;left;refine⟨[.sl (R.map cn),.bool (e||Hq p a b (i+1)),I ((i+1:Nat):Int)],?_,rfl⟩;have d:(i+1)%p.length<p.length:=zRa _ g;have j:(((i:Int)+1).tmod (p.length:Int))=(((i+1)%p.length:Nat):Int):=by
      rw[show((i:Int)+1)=((i+1:Nat):Int) by omega];exact zYc ..
     have nb:∀ (x y:Nat) {X:Option Bool},X=(Option.bind (D.asSl (.sl (ag p))) λm=>
       Option.bind (D.idx (I (i:Int)) (List.length m)) λi27=>
       Option.bind (m[i27]?) λC=>
       Option.bind (D.truth (D.bool (D.beq C (I (x:Int))))) λt=>
       if t then(Option.bind (D.bin .add (I (i:Int)) (D.int .i64 1)) λE=>
       Option.bind (D.asSl (.sl (ag p))) λB=>
       Option.bind (D.bin .rem E (D.int .i64 (List.length B))) λG=>
       Option.bind (D.asSl (.sl (ag p))) λo=>
       Option.bind (D.idx G (List.length o)) λi34=>
       Option.bind (o[i34]?) λH=>
       D.truth (D.bool (D.beq H (I (y:Int))))) else(some false))->X=some (decide (p.getD i 0=x)&&decide (p.getD ((i+1)%p.length) 0=y)):=λx y X Q=>by
      rw[Q];refine aa (z:=ag p) rfl (aa (z:=i) (by rw[ai];exact am K) (aa (fX K) ?_))
      rw[ca];refine aa ac ?_;by_cases h:p.getD i 0=x
      ·refine aA h (aa (aq (ay (i:=i) (by omega))) (aa (z:=ag p) rfl (aa (z:=I (((i+1)%p.length:Nat):Int)) (by rw[show((ag p).length:Int)=(p.length:Int) by rw[ai],kP (by omega),j]) (aa (z:=ag p) rfl (aa (z:=(i+1)%p.length) (by rw[ai];exact am d) (aa (fX d) ?_))))))
       rw[ca,ac,decide_eq_true h,zQb]
      ·refine aD h ?_;rw[decide_eq_false h,zfd]
     refine aa (z:=ag p) rfl (aa ah (aa ac (aA (by show((i:Int)<((ag p).length:Int));rw[ai];omega) (aa ac ?_))))
     rw[Ge];generalize Hq p a b i=q;refine aa (z:=(e||q)||(decide (p.getD i 0=a)&&decide (p.getD ((i+1)%p.length) 0=b))) ?_ (aa ac (aa (z:=e||(q||M5 p a b i)) ?_ (aa (aq (ay (i:=i) (by omega))) rfl)))
     ·cases J:(e||q)
      ·rw[show(if false=true then some true else _)=_ from if_neg (by decide),znd]
       exact nb a b rfl
      ·rfl
     ·rw[<-Bool.or_assoc];unfold M5;rw[<-Bool.or_assoc];cases J:(e||q||(decide (p.getD i 0=a)&&decide (p.getD ((i+1)%p.length) 0=b)))
      ·rw[show(if false=true then some true else _)=_ from if_neg (by decide),znd]
       exact nb b a rfl
      ·rfl
    ·subst c;refine⟨(0,[.sl (R.map cn),.bool (e||Hq p a b p.length)]),aa (z:=ag p) rfl (aa ah (aa ac (aD (by show ¬ ((p.length:Int)<((ag p).length:Int));rw[ai];omega) rfl))),?_⟩
     exact aa (aq (ay (i:=k) (by omega))) rfl
   ·subst c;rw[z3a];refine⟨(0,[.sl (R.map cn),.bool (mY F a b)]),?_,?_⟩
    ·exact aa (z:=aK F) rfl (aa ah (aa ac (aD (by show ¬ ((F.length:Int)<((aK F).length:Int));rw[aV];omega) rfl)))
    ·refine aa (z:=mY F a b) ac ?_;cases mY F a b
     ·rfl
     ·rw[if_pos rfl,if_pos rfl,if_pos (by show(R.map cn).length+1<=1073741824;rw[dt];omega),<-Up]
      rfl
  ·obtain⟨u,rfl⟩:=c;refine⟨(0,[.sl ((M++kI F a l.length).map cn)]),?_,aa (aq (ay (i:=a) (by omega))) rfl⟩
   exact aa (z:=aT l) rfl (aa (z:=l.map ab) rfl (aa ah (aa ac (aD (by show ¬ ((l.length:Int)<((l.map ab).length:Int));rw[au];omega) rfl))))
 ·subst c;refine⟨(0,[.sl ((kY F l.length l.length).map cn)]),?_,rfl⟩;exact aa (z:=aT l) rfl (aa (z:=l.map ab) rfl (aa ah (aa ac (aD (by show ¬ ((l.length:Int)<((l.map ab).length:Int));rw[au];omega) rfl))))
def NO(n:Nat){l:List V}(hl:∀ x∈l,bd MV x)(hlen:l.length<=100)(j:E8 l):∃ (F:FL) (E:List (Nat×Nat)),F.length<=2000000/\E.length<=10000/\KnF l l.length 0 0 F ∧
  cA (n+8) 18 [cd l]=some (.sl (aK F))/\cA (n+8) 19 [cd l]=some (.sl (aK F))/\cA (n+9) 21 [cd l]=some (.sl (E.map cn))/\cA (n+9) 22 [cd l]=some (.sl (E.map cn))/\E=kY F l.length l.length:=by
 obtain⟨F,B,w⟩:=Xw n hl hlen j;obtain⟨L,poly,hL,D,C,h18⟩:=ZN (n+1) hl hlen j;have g:=B.fok;have A:=g.len hlen;have t:F.map Prod.fst=L:=Facets.eq B.facets hL;have o:∀ f∈F,poly f.1=f.2:=λf c=>by
  obtain⟨h,k⟩:=g.ok f c;exact bD.eq j h (D f.1 (by rw[<-t];exact zab.2 ⟨f,c,rfl⟩)) k
 have P:(L.map λq=>mV q (poly q))=aK F:=by
  rw[<-t,List.map_map];refine zPc λf c=>?_;simp only[Function.comp_apply,o f c]
 have H:∀ f∈F,0<f.2.length/\f.2.length<=1000000:=λf c=>by
  obtain⟨h,k⟩:=g.ok f c;have:=tU j h k;omega
 have h19:cA (n+8) 19 [cd l]=some (.sl (aK F)):=by
  rw[ZU]
  delta Pm qG
  exact aa (z:=aT l) rfl (aa w rfl)
 have h22:=ZE (n+7) hlen (show F.length<=3000000 by omega) H h19
 obtain⟨E,N,O,h21⟩:=ZO (n+1) h18 C (λq hq=>by
  have s:=hq;rw[<-t] at s;obtain⟨f,c,rfl⟩:=zab.1 s;rw[o f c];obtain⟨h,k⟩:=g.ok f c;have:=tU j h k;exact⟨by omega,this.2.2.1⟩) (u0 j hL D)
 have u:E=kY F l.length l.length:=by
  refine mO (r:=zL) (λa=>by simp only[zL];omega) (λa b=>by simp only[zL];omega) O (Fb F l.length) λe=>?_
  obtain⟨a,b⟩:=e;rw[N.mem_iff,Aq j hL D,zr];constructor
  ·rintro⟨h1,m,d,v,p⟩;have M:=(aW.1 p.2.mem).1;have K:=(aW.1 p.1).1;refine⟨K,M,h1,?_⟩;have hq:(m,d)∈F.map Prod.fst:=by rw[t];exact(hL.mem (m,d)).2 v
   obtain⟨f,c,G⟩:=zab.1 hq;obtain⟨h,k⟩:=g.ok f c;rw[G] at h k;obtain⟨i,i1,i2,i3⟩:=(bD.dir j h k).2 p;refine z8b.2 ⟨f,c,z8b.2 ⟨i,zNa.2 i1,?_⟩⟩;unfold M5;rw[decide_eq_true i2,decide_eq_true i3];rfl
  ·rintro⟨K,M,h1,v⟩;refine⟨h1,(AL j).1 ?_⟩;obtain⟨f,c,p⟩:=z8b.1 v;obtain⟨i,i1,i2⟩:=z8b.1 p;obtain⟨h,k⟩:=g.ok f c;have i1:=zNa.1 i1;simp only[M5,zBb,zaa,decide_eq_true_eq] at i2;refine⟨f.1.1,f.1.2,h,?_⟩;rcases i2 with⟨I,J⟩|⟨I,J⟩
   ·exact .inl ((bD.dir j h k).1 ⟨i,i1,I,J⟩)
   ·exact .inr ((bD.dir j h k).1 ⟨i,i1,I,J⟩)
 have y:E.length<=10000:=by
  rw[u];exact zBa (yt _ _ _) (z1a hlen hlen)
 rw[<-u] at h22;rw[P] at h18;exact⟨F,E,A,y,B,h18,h19,h21,h22,u⟩
end Sy
end
noncomputable section
namespace Sy
open Go Go.Proofs Geo
def iB{k:Nat}{v:V}(h:bd (k:Int) v):v.x.natAbs<=k/\v.y.natAbs<=k/\v.z.natAbs<=k:=by
 unfold bd at h;omega
structure BOk(b:Bdy):Prop where
 one:1<=b.P.length
 few:b.P.length<=3
 vs:∀ l∈b.P,l.length<=10
 hul:∀ l∈b.P,Hul l
 bd:∀ l∈b.P,∀ x∈l,bd 4096 x
 m0:1<=b.m0
 m1:b.m0<=b.m1
 m2:b.m1<=1099511627776
end Sy
end
noncomputable section
namespace Sy
open Go Go.Proofs Geo
def CA{body:Bd}{k:Nat×List D->Option D}{y:D}{l0:List D}(x:Nat->D)(h0:l0.length=3)
  (d:∀ i:Nat,i<3->∀ l:List D,l.length=3->(∀ j:Nat,i<=j->l[j]?=l0[j]?)->body [I (i:Int),.st l]=some (.inl [I ((i+1:Nat):Int),.st (l.set i (x i))]))
  (he:∀ l,body [I ((3:Nat):Int),.st l]=some (.inr (0,[.st l]))) (hk:k (0,[.st [x 0,x 1,x 2]])=some y):Option.bind (aL body [I ((0:Nat):Int),.st l0]) k=some y:=by
 match l0,h0 with
 | [a,b,c],_=>
 have s0:=d 0 (by decide) [a,b,c] rfl (λj _=>rfl)
 have s1:=d 1 (by decide) [x 0,b,c] rfl (λj e=>by cases j with|zero=>omega|succ j=>rfl)
 have s2:=d 2 (by decide) [x 0,x 1,c] rfl (λj e=>by cases j with|zero=>omega|succ j=>cases j with|zero=>omega|succ j=>rfl)
 exact aY s0 (aY s1 (aY s2 (dI (he _) hk)))
def xT{l:List D}{i:Nat}{v:D}(h:i<l.length):D.set (.st l) [i] v=some (.st (l.set i v)):=by
 simp only[D.set,zda h,zba]
end Sy
end
noncomputable section
namespace Sy
open Go Go.Proofs Geo
def NK(l:List D):Bd:=λ(v1:List D)=>
 Option.bind (D.bin .add (gx v1 1) (D.int .i64 1)) λi=>Option.bind (D.asSl (.sl l)) λh=>Option.bind (D.bin .lss i (D.int .i64 (h.length))) λj=>Option.bind (D.truth j) λg=>
 if g then(Option.bind (D.asSl (.sl l)) λf=>Option.bind (D.idx (gx v1 1) (f.length)) λi7=>Option.bind (f[i7]?) λk=>Option.bind (D.bin .add (gx v1 1) (D.int .i64 1)) λm=>
  Option.bind (D.asSl (.sl l)) λa=>Option.bind (D.idx m (a.length)) λi11=>Option.bind (a[i11]?) λb=>Option.bind (D.bin .mul k b) λc=>Option.bind (D.bin .add (gx v1 0) c) λd=>
  Option.bind (D.bin .add (gx v1 1) (D.int .i64 2)) λe=>some (Sum.inl [d,e])) else(some (Sum.inr (0,[(gx v1 0)])))
def fM{l:List D}(k:Nat){s a b t:Int}(hl:l.length<=100)(e:l[k]?=some (I a))(c:l[k+1]?=some (I b))(h1:inR (a*b))(d:inR (s+a*b))(f:s+a*b=t):NK l [I s,I (k:Int)]=some (.inl [I t,I ((k+2:Nat):Int)]):=by
 have g:=(zka.1 c).1;subst f;exact aa (aJ (a:=k) (b:=1) (by omega)) (aa (z:=l) rfl (aa ah (aa ac (aA (by show((k+1:Nat):Int)<(l.length:Int);omega) (aa (z:=l) rfl (aa (am (by omega)) (aa e (aa (aJ (a:=k) (b:=1) (by omega)) (aa (z:=l) rfl (aa (am g) (aa c (aa (br h1) (aa (aq d) (aa (aJ (a:=k) (b:=2) (by omega)) rfl))))))))))))))
def xZ{l:List D}(k:Nat){s:Int}(hl:l.length<=100)(hk:l.length=k):NK l [I s,I (k:Int)]=some (.inr (0,[I s])):=
 aa (aJ (a:=k) (b:=1) (by omega)) (aa (z:=l) rfl (aa ah (aa ac (aD (by show ¬ (((k+1:Nat):Int)<(l.length:Int));omega) rfl))))
def pK(n:Nat){a b c d:Int}(h1:inR (a*b))(e:inR (c*d))(f:inR (a*b+c*d)):cA (n+1) 394 [.sl [I a,I b,I c,I d]]=some (I (a*b+c*d)):=by
 rw[MI];delta Dd qB qX qL qZ iL iR Jn;exact aY (fM 0 (l:=[I a,I b,I c,I d]) (s:=0) (t:=a*b) (by simp) rfl rfl h1 (by rw[zoc];exact h1) (zoc _)) (aY (fM 2 (by simp) rfl rfl e f rfl) (dI (xZ 4 (by simp) rfl) rfl))
def Fs(n:Nat){a b c d e f:Int}(h1:inR (a*b))(g:inR (c*d))(h:inR (a*b+c*d))(i:inR (e*f))(j:inR (a*b+c*d+e*f)):cA (n+1) 394 [.sl [I a,I b,I c,I d,I e,I f]]=some (I (a*b+c*d+e*f)):=by
 rw[MI];delta Dd qB qX qL qZ iL iR Jn;exact aY (fM 0 (l:=[I a,I b,I c,I d,I e,I f]) (s:=0) (t:=a*b) (by simp) rfl rfl h1 (by rw[zoc];exact h1) (zoc _)) (aY (fM 2 (by simp) rfl rfl g h rfl) (aY (fM 4 (by simp) rfl rfl i j rfl) (dI (xZ 6 (by simp) rfl) rfl)))
def wY(n:Nat){a b c d e f g h:Int}(h1:inR (a*b))(i:inR (c*d))(j:inR (a*b+c*d))(k:inR (e*f))(m:inR (a*b+c*d+e*f))(o:inR (g*h))(p:inR (a*b+c*d+e*f+g*h)) :
  cA (n+1) 394 [.sl [I a,I b,I c,I d,I e,I f,I g,I h]]=some (I (a*b+c*d+e*f+g*h)):=by
 rw[MI];delta Dd qB qX qL qZ iL iR Jn;exact aY (fM 0 (l:=[I a,I b,I c,I d,I e,I f,I g,I h]) (s:=0) (t:=a*b) (by simp) rfl rfl h1 (by rw[zoc];exact h1) (zoc _)) (aY (fM 2 (by simp) rfl rfl i j rfl) (aY (fM 4 (by simp) rfl rfl k m rfl) (aY (fM 6 (by simp) rfl rfl o p rfl) (dI (xZ 8 (by simp) rfl) rfl))))
def ft(q:Nat->Int):Nat->Int
 | 0=>q 0*q 0+q 1*q 1-q 2*q 2-q 3*q 3
 | 1=>2*(q 1*q 2-q 0*q 3)
 | 2=>2*(q 1*q 3+q 0*q 2)
 | 3=>2*(q 1*q 2+q 0*q 3)
 | 4=>q 0*q 0-q 1*q 1+q 2*q 2-q 3*q 3
 | 5=>2*(q 2*q 3-q 0*q 1)
 | 6=>2*(q 1*q 3-q 0*q 2)
 | 7=>2*(q 2*q 3+q 0*q 1)
 | _=>q 0*q 0-q 1*q 1-q 2*q 2+q 3*q 3
def FM(m:Nat->Int):D:=.st [I (m 0),I (m 1),I (m 2),I (m 3),I (m 4),I (m 5),I (m 6),I (m 7),I (m 8)]
def gM{k:Nat}(h:k<9)(m:Nat->Int):D.get (FM m) [k]=some (I (m k)):=by
 match k,h with
 | 0,_=>rfl
 | 1,_=>rfl
 | 2,_=>rfl
 | 3,_=>rfl
 | 4,_=>rfl
 | 5,_=>rfl
 | 6,_=>rfl
 | 7,_=>rfl
 | 8,_=>rfl
 | k+9,h=>omega
def wS(q:Nat->Int):Prop:=∀ i,i<4->(q i).natAbs<=64
def qq{q:Nat->Int}(h:wS q){i j:Nat}(a:i<4)(b:j<4):-4096<=q i*q j/\q i*q j<=4096:=by
 have:(q i*q j).natAbs<=64*64:=by rw[zKa];exact z1a (h i a) (h j b)
 omega
def ap{x:Int}(h:-4000000000<=x/\x<=4000000000):inR x:=by simp only[inR];omega
def dj{q:Nat->Int}(h:wS q)(k:Nat):-16384<=ft q k/\ft q k<=16384:=by
 have a:=qq h (i:=0) (j:=0) (by decide) (by decide);have e:=qq h (i:=1) (j:=1) (by decide) (by decide);have a22:=qq h (i:=2) (j:=2) (by decide) (by decide);have a33:=qq h (i:=3) (j:=3) (by decide) (by decide)
 have b:=qq h (i:=0) (j:=1) (by decide) (by decide);have c:=qq h (i:=0) (j:=2) (by decide) (by decide);have d:=qq h (i:=0) (j:=3) (by decide) (by decide)
 have a12:=qq h (i:=1) (j:=2) (by decide) (by decide);have f:=qq h (i:=1) (j:=3) (by decide) (by decide);have a23:=qq h (i:=2) (j:=3) (by decide) (by decide)
 unfold ft;grind
def BP{a:Int}(h:inR (-a)):D.un .neg (I a)=some (I (-a)):=by
 simp_all [D.un,Int.zero_sub,ib]
def kQ{a b:Int}(c:2*a=b)(h:inR b):D.bin .mul (D.int .i64 2) (I a)=some (I b):=by
 subst c;exact br h
def N9(n:Nat){q:Nat->Int}(h:wS q):cA (n+2) 393 [fW q]=some (FM (ft q)):=by
 have g:=qq h (i:=0) (j:=0) (by decide) (by decide);have p:=qq h (i:=1) (j:=1) (by decide) (by decide);have a22:=qq h (i:=2) (j:=2) (by decide) (by decide);have a33:=qq h (i:=3) (j:=3) (by decide) (by decide)
 have k:=qq h (i:=0) (j:=1) (by decide) (by decide);have l:=qq h (i:=0) (j:=2) (by decide) (by decide);have o:=qq h (i:=0) (j:=3) (by decide) (by decide)
 have a12:=qq h (i:=1) (j:=2) (by decide) (by decide);have r:=qq h (i:=1) (j:=3) (by decide) (by decide);have a23:=qq h (i:=2) (j:=3) (by decide) (by decide)
 have h0:=h 0 (by decide);have h1:=h 1 (by decide);have v:=h 2 (by decide);have w:=h 3 (by decide)
 have c:D.un .neg (I (q 0))=some (I (-(q 0))):=BP (ap (by omega))
 have d:D.un .neg (I (q 1))=some (I (-(q 1))):=BP (ap (by omega))
 have e:D.un .neg (I (q 2))=some (I (-(q 2))):=BP (ap (by omega))
 have f:D.un .neg (I (q 3))=some (I (-(q 3))):=BP (ap (by omega))
 have m:∀ a b:Int,-a*b=-(a*b):=λa b=>Int.neg_mul a b;rw[WZ];delta II qG qB Jn;refine aa (z:=I (q 0)) rfl (aa (z:=I (q 1)) rfl (aa (z:=I (q 2)) rfl (aa (z:=I (q 3)) rfl (aa e (aa f ?_)))));refine aa (wY n (ap (by omega)) (ap (by omega)) (ap (by omega)) (ap (by rw[m];omega)) (ap (by rw[m];omega)) (ap (by rw[m];omega)) (ap (by rw[m,m];omega))) ?_
 refine aa c (aa (pK n (ap (by omega)) (ap (by rw[m];omega)) (ap (by rw[m];omega))) (aa (kQ (b:=ft q 1) (by show _=2*(q 1*q 2-q 0*q 3);rw[m];omega) (ap (by have:=dj h 1;omega))) ?_))
 refine aa (pK n (ap (by omega)) (ap (by omega)) (ap (by omega))) (aa (kQ (b:=ft q 2) rfl (ap (by have:=dj h 2;omega))) ?_)
 refine aa (pK n (ap (by omega)) (ap (by omega)) (ap (by omega))) (aa (kQ (b:=ft q 3) rfl (ap (by have:=dj h 3;omega))) ?_)
 refine aa d (aa f (aa (wY n (ap (by omega)) (ap (by rw[m];omega)) (ap (by rw[m];omega)) (ap (by omega)) (ap (by rw[m];omega)) (ap (by rw[m];omega)) (ap (by rw[m,m];omega))) ?_))
 refine aa c (aa (pK n (ap (by omega)) (ap (by rw[m];omega)) (ap (by rw[m];omega))) (aa (kQ (b:=ft q 5) (by show _=2*(q 2*q 3-q 0*q 1);rw[m];omega) (ap (by have:=dj h 5;omega))) ?_))
 refine aa c (aa (pK n (ap (by omega)) (ap (by rw[m];omega)) (ap (by rw[m];omega))) (aa (kQ (b:=ft q 6) (by show _=2*(q 1*q 3-q 0*q 2);rw[m];omega) (ap (by have:=dj h 6;omega))) ?_))
 refine aa (pK n (ap (by omega)) (ap (by omega)) (ap (by omega))) (aa (kQ (b:=ft q 7) rfl (ap (by have:=dj h 7;omega))) ?_)
 refine aa d (aa e (aa (wY n (ap (by omega)) (ap (by rw[m];omega)) (ap (by rw[m];omega)) (ap (by rw[m];omega)) (ap (by rw[m,m];omega)) (ap (by omega)) (ap (by rw[m,m];omega))) ?_))
 have s:q 0*q 0+q 1*q 1+-(q 2)*q 2+-(q 3)*q 3=ft q 0:=by show _=q 0*q 0+q 1*q 1-q 2*q 2-q 3*q 3;rw[m,m];omega
 have t:q 0*q 0+-(q 1)*q 1+q 2*q 2+-(q 3)*q 3=ft q 4:=by show _=q 0*q 0-q 1*q 1+q 2*q 2-q 3*q 3;rw[m,m];omega
 have u:q 0*q 0+-(q 1)*q 1+-(q 2)*q 2+q 3*q 3=ft q 8:=by show _=q 0*q 0-q 1*q 1-q 2*q 2+q 3*q 3;rw[m,m];omega
 rw[s,t,u];rfl
def N8(n:Nat){q:Nat->Int}(h:wS q):cA (n+1) 387 [fW q]=some (FM (ft q)):=by
 have d:=qq h (i:=0) (j:=0) (by decide) (by decide);have e:=qq h (i:=1) (j:=1) (by decide) (by decide);have a22:=qq h (i:=2) (j:=2) (by decide) (by decide);have a33:=qq h (i:=3) (j:=3) (by decide) (by decide)
 have f:=qq h (i:=0) (j:=1) (by decide) (by decide);have g:=qq h (i:=0) (j:=2) (by decide) (by decide);have k:=qq h (i:=0) (j:=3) (by decide) (by decide)
 have a12:=qq h (i:=1) (j:=2) (by decide) (by decide);have l:=qq h (i:=1) (j:=3) (by decide) (by decide);have a23:=qq h (i:=2) (j:=3) (by decide) (by decide)
 have c:∀ {a b:Int},-4096<=a*b/\a*b<=4096->D.bin .mul (I a) (I b)=some (I (a*b)):=λh=>br (ap (by omega))
 rw[WV];delta IE qG qB Jn;refine aa (z:=I (q 0)) rfl (aa (z:=I (q 1)) rfl (aa (z:=I (q 2)) rfl (aa (z:=I (q 3)) rfl ?_)));refine aa (c d) (aa (c e) (aa (aq (ap (by omega))) (aa (c a22) (aa (bP (ap (by omega))) (aa (c a33) (aa (bP (ap (by omega))) ?_))))))
 refine aa (c a12) (aa (c k) (aa (bP (ap (by omega))) (aa (kQ (b:=ft q 1) rfl (ap (by have:=dj h 1;omega))) ?_)))
 refine aa (c l) (aa (c g) (aa (aq (ap (by omega))) (aa (kQ (b:=ft q 2) rfl (ap (by have:=dj h 2;omega))) ?_)))
 refine aa (c a12) (aa (c k) (aa (aq (ap (by omega))) (aa (kQ (b:=ft q 3) rfl (ap (by have:=dj h 3;omega))) ?_)))
 refine aa (c d) (aa (c e) (aa (bP (ap (by omega))) (aa (c a22) (aa (aq (ap (by omega))) (aa (c a33) (aa (bP (ap (by omega))) ?_))))))
 refine aa (c a23) (aa (c f) (aa (bP (ap (by omega))) (aa (kQ (b:=ft q 5) rfl (ap (by have:=dj h 5;omega))) ?_)))
 refine aa (c l) (aa (c g) (aa (bP (ap (by omega))) (aa (kQ (b:=ft q 6) rfl (ap (by have:=dj h 6;omega))) ?_)))
 refine aa (c a23) (aa (c f) (aa (aq (ap (by omega))) (aa (kQ (b:=ft q 7) rfl (ap (by have:=dj h 7;omega))) ?_)))
 refine aa (c d) (aa (c e) (aa (bP (ap (by omega))) (aa (c a22) (aa (bP (ap (by omega))) (aa (c a33) (aa (aq (ap (by omega))) ?_))))))
 rfl
def cK(q:Nat->Int)(v:V)(i:Nat):Int:=ft q (3*i)*v.x+ft q (3*i+1)*v.y+ft q (3*i+2)*v.z
def gQ(q:Nat->Int):Int:=q 0*q 0+q 1*q 1+q 2*q 2+q 3*q 3
def oU{q:Nat->Int}(h:wS q)(k:Nat){x:Int}(hx:x.natAbs<=4096):-67108864<=ft q k*x/\ft q k*x<=67108864:=by
 have:=dj h k;have:(ft q k*x).natAbs<=16384*4096:=by rw[zKa];exact z1a (by omega) hx
 omega
def fN{q:Nat->Int}(h:wS q){v:V}(d:bd 4096 v)(i:Nat):-201326592<=cK q v i/\cK q v i<=201326592:=by
 obtain⟨v1,v2,v3⟩:=iB (k:=4096) d;have a:=oU h (3*i) v1;have b:=oU h (3*i+1) v2;have c:=oU h (3*i+2) v3;grind [cK]
def xQ{q:Nat->Int}(h:wS q)(h0:∃ i,i<4/\q i≠0):0<gQ q/\gQ q<=16384:=by
 have a:=qq h (i:=0) (j:=0) (by decide) (by decide);have b:=qq h (i:=1) (j:=1) (by decide) (by decide);have a22:=qq h (i:=2) (j:=2) (by decide) (by decide);have a33:=qq h (i:=3) (j:=3) (by decide) (by decide)
 have d:=ml (q 0);have e:=ml (q 1);have f:=ml (q 2);have g:=ml (q 3);have pos:∀ x:Int,x≠0->0<x*x:=λx hx=>by
  have:=ml x;rcases znb this with h|h
  ·exact h
  ·rcases zBc.1 h.symm with h|h<;>exact absurd h hx
 obtain⟨i,c,hq⟩:=h0;have hp:=pos _ hq;unfold gQ;refine⟨?_,by omega⟩
 match i,c with
 | 0,_=>omega
 | 1,_=>omega
 | 2,_=>omega
 | 3,_=>omega
 | k+4,h=>omega
def xf(f:Nat->Int):D:=.st [I (f 0),I (f 1),I (f 2)]
def rM{k:Nat}(h:k<9):D.idx (I (k:Int)) 9=some k:=am h
def U2(n:Nat){q:Nat->Int}(h:wS q){v:V}(f:bd 4096 v):cA (n+3) 386 [fW q,ab v]=some (xf (cK q v)):=by
 obtain⟨v1,v2,v3⟩:=iB (k:=4096) f;rw[Pa];delta E3 qG qB qC qJ qZ iL iR Jn;refine aa (N9 n h) ?_;refine CA (l0:=[I 0,I 0,I 0]) (λi=>I (cK q v i)) rfl (λi e l hl m=>?_) (λl=>aa ah (aa ac (aD (by decide) rfl))) rfl
 have a:=oU h (3*i) v1;have b:=oU h (3*i+1) v2;have c:=oU h (3*i+2) v3;have d:D.bin .mul (D.int .i64 3) (I (i:Int))=some (I ((3*i:Nat):Int)):=kl (a:=3) (b:=i) (by omega)
 have g:D.bin .add (I ((3*i:Nat):Int)) (D.int .i64 1)=some (I ((3*i+1:Nat):Int)):=aJ (a:=3*i) (b:=1) (by omega)
 have j:D.bin .add (I ((3*i:Nat):Int)) (D.int .i64 2)=some (I ((3*i+2:Nat):Int)):=aJ (a:=3*i) (b:=2) (by omega)
 refine aa ah (aa ac (aA (by show(i:Int)<3;omega) ?_))
 refine aa d (aa (rM (by omega)) (aa (gM (by omega) _) (aa (z:=I v.x) rfl ?_)))
 refine aa d (aa g (aa (rM (by omega)) (aa (gM (by omega) _) (aa (z:=I v.y) rfl ?_))))
 refine aa d (aa j (aa (rM (by omega)) (aa (gM (by omega) _) (aa (z:=I v.z) rfl ?_))))
 refine aa (Fs (n+1) (ap (by omega)) (ap (by omega)) (ap (by omega)) (ap (by omega)) (ap (by omega))) ?_
 exact aa (am e) (aa (xT (by omega)) (aa (aJ (a:=i) (b:=1) (by omega)) rfl))
def UX(n:Nat){q:Nat->Int}(h:wS q){v:V}(f:bd 4096 v):cA (n+2) 373 [fW q,ab v]=some (xf (cK q v)):=by
 obtain⟨v1,v2,v3⟩:=iB (k:=4096) f;rw[O9];delta E2 qG qB qC qJ qZ iL iR Jn;refine aa (N8 n h) ?_;refine CA (l0:=[I 0,I 0,I 0]) (λi=>I (cK q v i)) rfl (λi e l hl m=>?_) (λl=>aa ah (aa ac (aD (by decide) rfl))) rfl
 have a:=oU h (3*i) v1;have b:=oU h (3*i+1) v2;have c:=oU h (3*i+2) v3;have d:D.bin .mul (D.int .i64 3) (I (i:Int))=some (I ((3*i:Nat):Int)):=kl (a:=3) (b:=i) (by omega)
 have g:D.bin .add (I ((3*i:Nat):Int)) (D.int .i64 1)=some (I ((3*i+1:Nat):Int)):=aJ (a:=3*i) (b:=1) (by omega)
 have j:D.bin .add (I ((3*i:Nat):Int)) (D.int .i64 2)=some (I ((3*i+2:Nat):Int)):=aJ (a:=3*i) (b:=2) (by omega)
 refine aa ah (aa ac (aA (by show(i:Int)<3;omega) ?_))
 refine aa d (aa (rM (by omega)) (aa (gM (by omega) _) (aa (z:=I v.x) rfl (aa (br (ap (by omega))) ?_))))
 refine aa d (aa g (aa (rM (by omega)) (aa (gM (by omega) _) (aa (z:=I v.y) rfl (aa (br (ap (by omega))) (aa (aq (ap (by omega))) ?_))))))
 refine aa d (aa j (aa (rM (by omega)) (aa (gM (by omega) _) (aa (z:=I v.z) rfl (aa (br (ap (by omega))) (aa (aq (ap (by omega))) ?_))))))
 exact aa (am e) (aa (xT (by omega)) (aa (aJ (a:=i) (b:=1) (by omega)) rfl))
def U0(n:Nat){q:Nat->Int}(h:wS q):cA (n+3) 385 [fW q]=some (I (gQ q)):=by
 have a:=qq h (i:=0) (j:=0) (by decide) (by decide);have b:=qq h (i:=1) (j:=1) (by decide) (by decide);have a22:=qq h (i:=2) (j:=2) (by decide) (by decide);have a33:=qq h (i:=3) (j:=3) (by decide) (by decide)
 rw[WU];unfold ID;refine aa (z:=I (gQ q)) ?_ rfl;rw[WY];delta IH qG;refine aa (z:=I (q 0)) rfl (aa (z:=I (q 0)) rfl (aa (z:=I (q 1)) rfl (aa (z:=I (q 1)) rfl (aa (z:=I (q 2)) rfl (aa (z:=I (q 2)) rfl (aa (z:=I (q 3)) rfl (aa (z:=I (q 3)) rfl ?_)))))));exact aa (wY n (ap (by omega)) (ap (by omega)) (ap (by omega)) (ap (by omega)) (ap (by omega)) (ap (by omega)) (ap (by omega))) rfl
def N6(n:Nat){q:Nat->Int}(h:wS q):cA (n+2) 374 [fW q]=some (I (gQ q)):=by
 have a:=qq h (i:=0) (j:=0) (by decide) (by decide);have b:=qq h (i:=1) (j:=1) (by decide) (by decide);have a22:=qq h (i:=2) (j:=2) (by decide) (by decide);have a33:=qq h (i:=3) (j:=3) (by decide) (by decide)
 rw[WS];unfold IB;refine aa (z:=I (gQ q)) ?_ rfl;rw[WW];delta IF qG qB;refine aa (z:=I (q 0)) rfl (aa (z:=I (q 0)) rfl (aa (br (ap (by omega))) (aa (z:=I (q 1)) rfl (aa (z:=I (q 1)) rfl (aa (br (ap (by omega))) (aa (aq (ap (by omega))) ?_))))))
 exact aa (z:=I (q 2)) rfl (aa (z:=I (q 2)) rfl (aa (br (ap (by omega))) (aa (aq (ap (by omega))) (aa (z:=I (q 3)) rfl (aa (z:=I (q 3)) rfl (aa (br (ap (by omega))) (aa (aq (ap (by omega))) rfl)))))))
end Sy
end
noncomputable section
namespace Sy
open Go Go.Proofs Geo
def gU{x:Int}(h:-4611686018427387904<=x/\x<=4611686018427387904):inR x:=by simp only[inR];omega
def qo{q:Nat->Int}(h:wS q)(k:Nat){x:Int}(hx:x.natAbs<=1099511627776):-18014398509481984<=ft q k*x/\ft q k*x<=18014398509481984:=by
 have:=dj h k;have:(ft q k*x).natAbs<=16384*1099511627776:=by rw[zKa];exact z1a (by omega) hx
 omega
def KO(n:Nat){q:Nat->Int}(h:wS q){v:V}(f:bd 1099511627776 v):cA (n+3) 386 [fW q,ab v]=some (xf (cK q v)):=by
 obtain⟨v1,v2,v3⟩:=iB (k:=1099511627776) f;rw[Pa];delta E3 qG qB qC qJ qZ iL iR Jn;refine aa (N9 n h) ?_;refine CA (l0:=[I 0,I 0,I 0]) (λi=>I (cK q v i)) rfl (λi e l hl m=>?_) (λl=>aa ah (aa ac (aD (by decide) rfl))) rfl
 have a:=qo h (3*i) v1;have b:=qo h (3*i+1) v2;have c:=qo h (3*i+2) v3;have d:D.bin .mul (D.int .i64 3) (I (i:Int))=some (I ((3*i:Nat):Int)):=kl (a:=3) (b:=i) (by omega)
 have g:D.bin .add (I ((3*i:Nat):Int)) (D.int .i64 1)=some (I ((3*i+1:Nat):Int)):=aJ (a:=3*i) (b:=1) (by omega)
 have j:D.bin .add (I ((3*i:Nat):Int)) (D.int .i64 2)=some (I ((3*i+2:Nat):Int)):=aJ (a:=3*i) (b:=2) (by omega)
 refine aa ah (aa ac (aA (by show(i:Int)<3;omega) ?_))
 refine aa d (aa (rM (by omega)) (aa (gM (by omega) _) (aa (z:=I v.x) rfl ?_)))
 refine aa d (aa g (aa (rM (by omega)) (aa (gM (by omega) _) (aa (z:=I v.y) rfl ?_))))
 refine aa d (aa j (aa (rM (by omega)) (aa (gM (by omega) _) (aa (z:=I v.z) rfl ?_))))
 refine aa (Fs (n+1) (gU (by omega)) (gU (by omega)) (gU (by omega)) (gU (by omega)) (gU (by omega))) ?_
 exact aa (am e) (aa (xT (by omega)) (aa (aJ (a:=i) (b:=1) (by omega)) rfl))
def BZ(n:Nat){q:Nat->Int}(h:wS q){v:V}(f:bd 1099511627776 v):cA (n+2) 373 [fW q,ab v]=some (xf (cK q v)):=by
 obtain⟨v1,v2,v3⟩:=iB (k:=1099511627776) f;rw[O9];delta E2 qG qB qC qJ qZ iL iR Jn;refine aa (N8 n h) ?_;refine CA (l0:=[I 0,I 0,I 0]) (λi=>I (cK q v i)) rfl (λi e l hl m=>?_) (λl=>aa ah (aa ac (aD (by decide) rfl))) rfl
 have a:=qo h (3*i) v1;have b:=qo h (3*i+1) v2;have c:=qo h (3*i+2) v3;have d:D.bin .mul (D.int .i64 3) (I (i:Int))=some (I ((3*i:Nat):Int)):=kl (a:=3) (b:=i) (by omega)
 have g:D.bin .add (I ((3*i:Nat):Int)) (D.int .i64 1)=some (I ((3*i+1:Nat):Int)):=aJ (a:=3*i) (b:=1) (by omega)
 have j:D.bin .add (I ((3*i:Nat):Int)) (D.int .i64 2)=some (I ((3*i+2:Nat):Int)):=aJ (a:=3*i) (b:=2) (by omega)
 refine aa ah (aa ac (aA (by show(i:Int)<3;omega) ?_))
 refine aa d (aa (rM (by omega)) (aa (gM (by omega) _) (aa (z:=I v.x) rfl (aa (br (gU (by omega))) ?_))))
 refine aa d (aa g (aa (rM (by omega)) (aa (gM (by omega) _) (aa (z:=I v.y) rfl (aa (br (gU (by omega))) (aa (aq (gU (by omega))) ?_))))))
 refine aa d (aa j (aa (rM (by omega)) (aa (gM (by omega) _) (aa (z:=I v.z) rfl (aa (br (gU (by omega))) (aa (aq (gU (by omega))) ?_))))))
 exact aa (am e) (aa (xT (by omega)) (aa (aJ (a:=i) (b:=1) (by omega)) rfl))
end Sy
end
end Go.Proofs.YtphlmegkommlnaaGreatDoor
