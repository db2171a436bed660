/- Part 20 of the proof that PlaneOrPoint answers true at every input -/
import Derived.Test.YtphlmegkommlnaaGreatDoorOrpt18
import Derived.Test.YtphlmegkommlnaaGreatDoorOrpt19
set_option linter.unusedVariables false
set_option linter.unusedSimpArgs false
set_option linter.unnecessarySimpa false
set_option linter.defProp false
set_option maxRecDepth 20000
namespace Go.Proofs.YtphlmegkommlnaaGreatDoor
noncomputable section
namespace Sy
open Go Go.Proofs Geo
def iT(x:V):List V->List V
 | []=>[x]
 | y::L=>if aM x y\/x=y then x::(y::L).filter (λz=>decide (z≠x)) else y::iT x L
def fe(l:List V):List V:=l.foldl (λo x=>iT x o) []
theorem Ch(x:V):∀ L:List V,(iT x L).length<=L.length+1
 | []=>by simp[iT]
 | y::L=>by have:=Ch x L;unfold iT;all_goals grind
theorem wF{x z:V}:∀ {L:List V},z∈iT x L↔z=x\/z∈L
 | []=>by simp[iT]
 | y::L=>by have ih:=wF (x:=x) (z:=z) (L:=L);unfold iT;all_goals grind
theorem Ci{x:V}:∀ {L:List V},L.Pairwise aM->(iT x L).Pairwise aM
 | [],_=>by simp[iT]
 | y::L,h=>by
  obtain⟨h1,h2⟩:=zOa.1 h;unfold iT;split
  ·rename_i c;refine zOa.2 ⟨λz f=>?_,h.filter _⟩;obtain⟨d,g⟩:=zrb.1 f;have i:z≠x:=by simpa using g
   rcases zEa.1 d with rfl|d
   ·grind
   ·rcases c with h|h
    ·exact nT h (h1 z d)
    ·simp_all
  ·rename_i c;refine zOa.2 ⟨λz f=>?_,Ci h2⟩;rcases wF.1 f with rfl|f
   ·rcases tq (a:=z) (b:=y) (λe=>c (.inr e)) with k|k
    ·simp_all
    ·exact k
   ·exact h1 z f
def xj(l:List V):(fe l).Pairwise aM:=by
 unfold fe;have:∀ (l o:List V),o.Pairwise aM->(l.foldl (λo x=>iT x o) o).Pairwise aM:=by
  intro l
  induction l with
  | nil=>intro o h;exact h
  | cons x l ih=>intro o h;exact ih _ (Ci h)
 simp_all
def Cs{l:List V}{z:V}:z∈fe l↔z∈l:=by
 unfold fe;have:∀ (l o:List V),z∈l.foldl (λo x=>iT x o) o↔z∈l\/z∈o:=by
  intro l
  induction l with
  | nil=>intro o;simp
  | cons x l ih=> intro o;rw[zLc,ih,wF,zEa];all_goals grind
 simp_all
def rO(l:List V):(fe l).length<=l.length:=by
 unfold fe;have:∀ (l o:List V),(l.foldl (λo x=>iT x o) o).length<=l.length+o.length:=by
  intro l
  induction l with
  | nil=>intro o;simp
  | cons x l ih=> intro o;have h1:=ih (iT x o);have h2:=Ch x o;grind
 grind
def KE{l:List V}(h:l.Pairwise aM):Ij l:=λi j a b=>by
 have:=zRb.1 h i j j1 b a
 simpa [pt,List.getD,b,show i<l.length by omega] using this
def OT{l:List V}(h:l.Pairwise aM):fe l=l:=
 oS (r:=aM) lI yL (xj l) h λx=>Cs
def c47(n:Nat)(l:List V)(hlen:l.length<=1000000):cA (n+2) 47 [bu l]=some (bu (fe l)):=by
 rw[u47]
 delta UE qB qC qT qN qX qL qV qW qZ iL iR Jn
 have j:(l.map ae).length=l.length:=zxa ..;refine bR (λi s=>s=[bu (fe (l.take i)),I (i:Int)]) l.length 0 (zqa _) rfl (λi m s g=>?_) (λs g=>?_)
 ·subst g;left;refine⟨[bu (fe (l.take (i+1))),I ((i+1:Nat):Int)],?_,rfl⟩;have hs:fe (l.take (i+1))=iT (l.getD i V.zero) (fe (l.take i)):=by
   grind [fe,List.take_succ_eq_append_getElem,List.getD]
  have r:(fe (l.take i)).length<=1000000:=zHa (rO _) (by rw[zkb];omega)
  rw[hs];obtain⟨o,u⟩:∃ o,fe (l.take i)=o:=⟨_,rfl⟩;obtain⟨x,hx⟩:∃ x,l.getD i V.zero=x:=⟨_,rfl⟩;have c:(l.map ae)[i]?=some (ae x):=by rw[<-hx];exact dW m
  rw[u] at r ⊢;rw[hx];have ol:(o.map ae).length=o.length:=zxa ..;refine j0 (l.map ae) (aa am (aa ac (aK (by show((i:Int)<((l.map ae).length:Int));rw[j];omega) ?_)))
  refine cr (λk s=>∃ (nx:List V) (put:Bool),s=[bu o,bu nx,.bool put,I (k:Int)]/\nx.length<=2*k/\(put=false->iT x o=nx++iT x (o.drop k))/\(put=true->iT x o=nx++(o.drop k).filter (λz=>decide (z≠x)))) o.length 0 (zqa _) ⟨[],false,rfl,j3,j3,j3⟩ (λk hk s g=>?_) (λs g=>?_)
  ·obtain⟨nx,put,rfl,q,h1,h2⟩:=g;left;have t:o.drop k=o.getD k V.zero::o.drop (k+1):=by rw[zSb hk];simp[List.getD,hk]
   have d:(o.map ae)[k]?=some (ae (o.getD k V.zero)):=dW hk;obtain⟨y,hy⟩:∃ y,o.getD k V.zero=y:=⟨_,rfl⟩;rw[hy] at t d;rw[t] at h1 h2;obtain⟨n1,f,he,B,v,w⟩:∃ (n1:List V) (f:Bool),(if put=false/\(aM x y\/x=y) then(nx++[x],true) else(nx,put))=(n1,f)/\n1.length<=2*k+1/\(f=false->x≠y/\iT x o=n1++y::iT x (o.drop (k+1)))/\(f=true->iT x o=n1++(y::o.drop (k+1)).filter (λz=>decide (z≠x))):=by
    by_cases hp:put=false/\(aM x y\/x=y)
    ·refine⟨_,_,zja hp,by simp;omega,j3,λ_=>?_⟩
     rw[h1 hp.1,iT,zja hp.2];simp
    ·refine⟨_,_,zia hp,j1,λe=>?_,λe=>h2 e⟩
     have hn:¬ (aM x y\/x=y):=λh=>hp ⟨e,h⟩;refine⟨λh=>hn (.inr h),?_⟩;rw[h1 e,iT,zia hn]
   refine⟨[bu o,bu (if y≠x then n1++[y] else n1),.bool f,I ((k+1:Nat):Int)],?_,_,f,rfl,?_,?_,?_⟩
   ·refine aa am (aa ac (aK (by show((k:Int)<((o.map ae).length:Int));rw[ol];omega) ?_))
    have app:∀ (a:List V) (z:V),D.sl ((a.map ae)++[ae z])=bu (a++[z]):=λa z=>by simp[bu]
    have p:∀ a:List V,(a.map ae).length=a.length:=λa=>zxa ..;refine aa (z:=(0,[bu o,bu (if y≠x then n1++[y] else n1),.bool f])) ?_ (aa (aC (aL (i:=k) j1)) rfl)
    refine j0 (l.map ae) (aa (z:=i) (by rw[j];exact aq m) (aa c (aa (z:=k) (by show D.idx (I (k:Int)) (o.map ae).length=_;rw[ol];exact aq hk) (aa d (aa (SG n x y) (aa (z:=(0,[bu o,bu n1,.bool f])) ?_ ?_))))))
    ·refine j0 (.bool (!put)) (aa ac (aa (z:=!put&&decide (aM x y\/x=y)) ?_ (aa ac ?_)))
     ·cases put
      ·rw[show(!false)=true from rfl,zja rfl];refine aa ac ?_;by_cases hlt:aM x y
       ·refine aK hlt ?_;rw[zha (.inl hlt)];rfl
       ·refine aO hlt ?_;refine j0 (l.map ae) (aa (z:=i) (by rw[j];exact aq m) (aa c (aa (z:=k) (by show D.idx (I (k:Int)) (o.map ae).length=_;rw[ol];exact aq hk) (aa d ?_))))
        rw[ks,ac];simp[hlt]
      ·rfl
     ·by_cases hp:put=false/\(aM x y\/x=y)
      ·rw[zja hp] at he;cases he;rw[show(!put&&decide (aM x y\/x=y))=true by rw[hp.1,zha hp.2];rfl,zja rfl]
       refine j0 (l.map ae) (aa (z:=i) (by rw[j];exact aq m) (aa c ?_))
       rw[zja (by show(nx.map ae).length+1<=1073741824;rw[p];omega)]
       rw[<-app];rfl
      ·rw[zia hp] at he;cases he;rw[show(!put&&decide (aM x y\/x=y))=false by
        cases hput:put
        ·have:¬ (aM x y\/x=y):=λh=>hp ⟨hput,h⟩;simp[this]
        ·rfl]
       rfl
    ·refine aa (z:=k) (by show D.idx (I (k:Int)) (o.map ae).length=_;rw[ol];exact aq hk) (aa d (j0 (l.map ae) (aa (z:=i) (by rw[j];exact aq m) (aa c ?_))))
     rw[ks];refine aa ac ?_;by_cases b:y=x
     ·rw[zha b,zia (show ¬ (y≠x) from λh=>h b)];rfl
     ·rw[zca b,zja (show y≠x from b),show(!false)=true from rfl,zja rfl];refine aa (z:=k) (by show D.idx (I (k:Int)) (o.map ae).length=_;rw[ol];exact aq hk) (aa d ?_)
      rw[zja (by show(n1.map ae).length+1<=1073741824;rw[p];omega)]
      rw[<-app];rfl
   ·split
    ·simp;omega
    ·omega
   ·intro e;obtain⟨r1,A⟩:=v e;rw[zja (λh=>r1 h.symm),A];simp
   ·intro e;rw[w e,List.filter_cons];by_cases b:y=x
    ·simp[b]
    ·simp[b]
  ·obtain⟨nx,put,rfl,q,h1,h2⟩:=g;refine⟨(0,[bu nx,.bool put]),?_,?_⟩
   ·exact aa am (aa ac (aO (by show ¬ ((o.length:Int)<((o.map ae).length:Int));rw[ol];omega) rfl))
   ·have p:∀ a:List V,(a.map ae).length=a.length:=λa=>zxa ..;rw[zid] at h1 h2;refine aa (z:=(0,[bu (iT x o)])) ?_ (aa (aC (aL (i:=i) j1)) rfl)
    refine j0 (.bool (!put)) (aa ac ?_);cases put
    ·rw[show(!false)=true from rfl,zja rfl];refine j0 (l.map ae) (aa (z:=i) (by rw[j];exact aq m) (aa c ?_))
     rw[zja (by show(nx.map ae).length+1<=1073741824;rw[p];omega)]
     rw[h1 rfl];simp[iT,bu,g0,D.els]
    ·have:=h2 rfl;simp only[List.filter_nil,zzb] at this;rw[this];rfl
 ·subst g;rw[zub];refine⟨(0,[bu (fe l)]),?_,rfl⟩;exact j0 (l.map ae) (aa am (aa ac (aO (by show ¬ ((l.length:Int)<((l.map ae).length:Int));rw[j];omega) rfl)))
structure FOk(l:List V)(F:FL):Prop where
 ord:F.Pairwise (λa b=>aM a.1.1 b.1.1)
 ok:∀ f∈F,IsF (pt l) l.length f.1.1 f.1.2/\bU (pt l) l.length f.1.1 f.1.2 f.2
theorem nX{f x:(V×Int)×List Nat}:∀ {L:FL},x∈ns f L↔x=f\/x∈L
 | []=>by simp[ns]
 | y::L=>by have ih:=nX (f:=f) (x:=x) (L:=L);unfold ns;all_goals grind
theorem Cf{f:(V×Int)×List Nat}:∀ {L:FL},L.Pairwise (λa b=>aM a.1.1 b.1.1)->(∀ x∈L,x.1.1≠f.1.1)->(ns f L).Pairwise (λa b=>aM a.1.1 b.1.1)
 | [],_,_=>by simp[ns]
 | y::L,h,hn=>by
  obtain⟨h1,h2⟩:=zOa.1 h;unfold ns;split
  ·rename_i k;refine zOa.2 ⟨λz c=>?_,h⟩;rcases zEa.1 c with rfl|c
   ·exact k
   ·exact nT k (h1 z c)
  ·rename_i k;refine zOa.2 ⟨λz c=>?_,Cf h2 λx hx=>hn x (zoa _ hx)⟩;rcases nX.1 c with rfl|c
   ·rcases tq (hn y zva) with d|d
    ·exact d
    ·simp_all
   ·grind
def yb(l:List V):List (V×Int):=(List.range l.length).flatMap λi=>(List.range l.length).flatMap λj=>(List.range l.length).flatMap λk=>[(aR (dA (pt l) i j k),V.dot (aR (dA (pt l) i j k)) (pt l i)),((aR (dA (pt l) i j k)).neg,V.dot (aR (dA (pt l) i j k)).neg (pt l i))]
def GJ(l:List V)(h:l.length<=100):(yb l).length<=2000000:=by
 unfold yb;rw[kW (c:=l.length*(l.length*2)) _ (λi _=>by rw[kW (c:=l.length*2) _ (λj _=>by rw[kW (c:=2) _ (λk _=>rfl),zxb]),zxb]),zxb]
 have a1:l.length*2<=200:=j1
 have a2:l.length*(l.length*2)<=100*200:=z9a h a1;exact z9a h a2
def yC{l:List V}{q:V×Int}(h:IsF (pt l) l.length q.1 q.2):q∈yb l:=by
 obtain⟨i,j,k,h1,h2,h3,a,b,c⟩:=h.ex;refine zUa.2 ⟨i,z0a.2 j1,zUa.2 ⟨j,z0a.2 j1,zUa.2 ⟨k,z0a.2 h3,?_⟩⟩⟩
 grind
def FOk.len{l:List V}{F:FL}(h:FOk l F)(hl:l.length<=100):F.length<=2000000:=by
 have nd:(F.map Prod.fst).Nodup:=by refine zyd.2 (h.ord.imp λ{a b} c e=>?_);rw[e] at c;exact lI _ c
 have:=z4b (l₂:=yb l) nd λq hq=>by obtain⟨f,hf,rfl⟩:=zSa.1 hq;exact yC (h.ok f hf).1
 rw[zxa] at this;exact zHa this (GJ l hl)
def FOk.insert{l:List V}{F:FL}(h:FOk l F){f:(V×Int)×List Nat}(hn:∀ x∈F,x.1.1≠f.1.1)(h1:IsF (pt l) l.length f.1.1 f.1.2)(h2:bU (pt l) l.length f.1.1 f.1.2 f.2):FOk l (ns f F):=
 ⟨Cf h.ord hn,λx hx=>by
  rcases nX.1 hx with rfl|hx
  ·simp_all
  ·exact h.ok x hx⟩
theorem wR{v:V}:aR v=V.zero↔v=V.zero:=by
 constructor
 ·intro h;by_cases a:v=V.zero
  ·exact a
  ·exact z4a h (ve a)
 ·simp_all [aR,V.zero]
theorem Hc{v:V}:v.neg=V.zero↔v=V.zero:=by
 constructor
 ·intro h;by_cases a:v=V.zero
  ·exact a
  ·exact z4a h (J1 a)
 ·simp_all [V.neg,V.zero]
def ap{α β:Type}{A:Option α}{g:α->Option β}{z:α}{Y:β->Prop}(h:A=some z)(hk:∃ y,g z=some y/\Y y):∃ y,Option.bind A g=some y/\Y y:=by simp_all
def gj{β:Type}{p:Prop}[Decidable p]{A B:Option β}{Y:β->Prop}(h:p)(a:∃ y,A=some y/\Y y):∃ y,(if decide p=true then A else B)=some y/\Y y:=by rw[zja (zha h)];exact a
def uU{β:Type}{p:Prop}[Decidable p]{A B:Option β}{Y:β->Prop}(h:¬ p)(a:∃ y,B=some y/\Y y):∃ y,(if decide p=true then A else B)=some y/\Y y:=by rw[zia (by simpa using h)];exact a
def KR(n:Nat){l:List V}(hl:∀ x∈l,bd MV x)(hlen:l.length<=100)(hs:Ij l){F:FL}(hF:FOk l F){i j k:Nat}(r:i<j)(s:j<k)(hk:k<l.length){m:V}(hm:m=aR (dA (pt l) i j k)\/m=(aR (dA (pt l) i j k)).neg){α:Type}{g:D->Nat×List D->Option α}{Y:α->Prop}
  (q:∀ F':FL,FOk l F'->(∀ f∈F,f∈F')->(dA (pt l) i j k≠V.zero->Du (pt l) l.length m (V.dot m (pt l i))->(m,V.dot m (pt l i))∈F'.map Prod.fst)->∃ y,g (I (V.dot m (pt l i))) (0,[.sl (aZ F')])=some y/\Y y) :
  ∃ y,((cA (n+4) 107 [ae m,ae (pt l i)]).bind λh=>
  (cA (n+4) 108 [.sl (aZ F),ae m]).bind λJ=>
  Option.bind ((afB .not J).bind λN=>
  (D.truth N).bind λv=>
  Option.bind (if v then((afB .not (D.bool (D.beq (ae m) (D.st [(D.int .i64 0),(D.int .i64 0),(D.int .i64 0)])))).bind λO=>
  D.truth O) else(some false)) λw=>
  (D.truth (D.bool w)).bind λA=>
  Option.bind (if A then((cA (n+4) 109 [bu l,ae m,h]).bind λK=>
  D.truth K) else(some false)) λB=>
  (D.truth (D.bool B)).bind λC=>
  if C then((cA (n+4) 111 [bu l,ae m,h]).bind λL=>
  (cA (n+4) 110 [.sl (aZ F),(D.st [ae m,h,L])]).bind λM=>
  some (0,[M])) else(some (0,[.sl (aZ F)]))) (g h))=some y/\Y y:=by
 have G:i<l.length:=j1
 have Q:bd 549755813888 (aR (dA (pt l) i j k)):=fJ (jJ (po (P:=pt l) (hl _ (df G)) (hl _ (df (show j<l.length by omega)))) (po (P:=pt l) (hl _ (df G)) (hl _ (df hk))))
 have E:bd 549755813888 m:=by
  rcases hm with rfl|rfl
  ·exact Q
  ·exact sC Q
 have R:=hF.len hlen;have t:m=V.zero↔dA (pt l) i j k=V.zero:=by all_goals grind [Hc,wR]
 refine ap (GD (n+3) E (hl _ (df G)) j2) (ap (Zc (n+3) F m j1) ?_)
 obtain⟨d,S⟩:∃ d,V.dot m (l.getD i V.zero)=d:=⟨_,rfl⟩;have b:V.dot m (pt l i)=d:=S;rw[b] at q;rw[b];by_cases hkn:(F.any λf=>decide (f.1.1=m))=true
 ·rw[hkn];refine ap (z:=(0,[.sl (aZ F)])) (j0 (.bool false) (j0 false (j0 false (j0 false (j0 false (j0 false rfl)))))) (q F hF (λf hf=>hf) λht a=>?_);obtain⟨f,hf,c⟩:=z9b.1 hkn;have c:f.1.1=m:=by simpa using c
  have h1:=(hF.ok f hf).1;rw[c] at h1;have h2:IsF (pt l) l.length m d:=⟨⟨i,j,k,r,s,hk,ht,hm,b.symm⟩,a⟩;exact zSa.2 ⟨f,hf,Prod.ext c (afE h1 h2)⟩
 ·rw[Bool.not_eq_true] at hkn;rw[hkn];have H:∀ f∈F,f.1.1≠m:=λf hf e=>by
   grind
  by_cases hz:m=V.zero
  ·refine ap (z:=(0,[.sl (aZ F)])) (j0 (.bool true) (j0 true (aa (z:=false) ?_ (j0 false (j0 false (j0 false rfl)))))) (q F hF (λf hf=>hf) λht a=>z4a (t.1 hz) ht);rw[zja rfl,vS,ks,zha (show m=⟨0,0,0⟩ from hz)];rfl
  ·have ht:dA (pt l) i j k≠V.zero:=λe=>hz (t.2 e);have hc:=Zd (n+2) (d:=d) hl E j2 j1
   by_cases a:supp l (m,d)=true
   ·have o:IsF (pt l) l.length m d:=⟨⟨i,j,k,r,s,hk,ht,hm,b.symm⟩,rQ.1 a⟩;obtain⟨p,hp,_,_⟩:=o.poly hs;refine ap (z:=(0,[.sl (aZ (ns ((m,d),p) F))])) (j0 (.bool true) (j0 true (aa (z:=true) ?_ (j0 true (aa (z:=true) ?_ (j0 true ?_)))))) (q _ (hF.insert H o hp) (λf hf=>nX.2 (.inr hf)) λ_ _=>zSa.2 ⟨((m,d),p),nX.2 (.inl rfl),rfl⟩)
    ·rw[zja rfl,vS,ks,zca (show ¬ m=⟨0,0,0⟩ from hz)];rfl
    ·rw[zja rfl];refine aa hc ?_;rw[ac];exact zna some a
    ·rw[zja rfl];exact aa (aai n hl hlen hs o E hp) (aa (Ze (n+2) F ((m,d),p) j1) rfl)
   ·refine ap (z:=(0,[.sl (aZ F)])) (j0 (.bool true) (j0 true (aa (z:=true) ?_ (j0 true (aa (z:=false) ?_ (j0 false rfl)))))) (q F hF (λf hf=>hf) λ_ u=>z4a (rQ.2 u) a)
    ·rw[zja rfl,vS,ks,zca (show ¬ m=⟨0,0,0⟩ from hz)];rfl
    ·rw[zja rfl];refine aa hc ?_;rw[ac];exact zna some (ztc.2 a)
structure KnF(l:List V)(i j k:Nat)(F:FL):Prop where
 fok:FOk l F
 all:∀ i' j' k',i'<j'->j'<k'->k'<l.length->(i'<i\/i'=i/\(j'<j\/j'=j/\k'<k))->dA (pt l) i' j' k'≠V.zero->∀ m,(m=aR (dA (pt l) i' j' k')\/m=(aR (dA (pt l) i' j' k')).neg)->Du (pt l) l.length m (V.dot m (pt l i'))->(m,V.dot m (pt l i'))∈F.map Prod.fst
def KnF.mono{l:List V}{i j k i2 d e:Nat}{F:FL}(h:KnF l i j k F)(hm:∀ b a c,b<a->a<c->c<l.length->(b<i2\/b=i2/\(a<d\/a=d/\c<e))->(b<i\/b=i/\(a<j\/a=j/\c<k))):KnF l i2 d e F:=
 ⟨h.fok,λb a c h1 h2 h3 f=>h.all b a c h1 h2 h3 (hm b a c h1 h2 h3 f)⟩
def KnF.facets{l:List V}{F:FL}(h:KnF l l.length 0 0 F):Facets (pt l) l.length (F.map Prod.fst):=by
 refine⟨zyd.2 h.fok.ord,λq=>⟨λhq=>?_,λhq=>?_⟩⟩
 ·obtain⟨f,hf,rfl⟩:=zSa.1 hq;exact(h.fok.ok f hf).1
 ·obtain⟨⟨i,j,k,h1,h2,h3,c1,c2,a⟩,hs⟩:=hq;obtain⟨m,d⟩:=q;simp only at c2 a hs;subst a;exact h.all i j k h1 h2 h3 (.inl j1) c1 m c2 hs
def mt(p:V):Nat->V
 | 0=>p
 | 1=>p.neg
 | _=>p
def c48(n:Nat){l:List V}(hl:∀ x∈l,bd MV x)(hlen:l.length<=100)(hs:Ij l):∃ F:FL,KnF l l.length 0 0 F/\cA (n+7) 48 [bu l]=some (.sl (aZ F)):=by
 suffices h:∃ y,cA (n+7) 48 [bu l]=some y/\∃ F:FL,KnF l l.length 0 0 F/\y=.sl (aZ F) by obtain⟨y,h1,F,h2,rfl⟩:=h;exact⟨F,h2,h1⟩
 rw[u48]
 delta UF qB qC qT qN qX qL qZ iL iR Jn
 have b:(l.map ae).length=l.length:=zxa ..;refine nh (λi s=>∃ F:FL,s=[.sl (aZ F),I (i:Int)]/\KnF l i 0 0 F) l.length 0 (zqa _) ⟨[],rfl,⟨.nil,j3⟩,λd g o h1 h2 h3 q=>j1⟩ (λi c s a=>?_) (λs a=>?_)
 ·obtain⟨F,rfl,hF⟩:=a;refine ap (z:=l.map ae) rfl (ap am (ap ac (gj (by show((i:Int)<((l.map ae).length:Int));rw[b];omega) (ap (aC (aL (i:=i) j1)) ?_))))
  refine nh (λj s=>i+1<=j/\∃ F:FL,s=[.sl (aZ F),I (j:Int)]/\KnF l i j 0 F) l.length (i+1) j1 ⟨zka _,F,rfl,hF.mono λd g o h1 h2 h3 q=>j1⟩ (λj r s a=>?_) (λs a=>?_)
  ·obtain⟨C,F,rfl,hF⟩:=a;refine ap (z:=l.map ae) rfl (ap am (ap ac (gj (by show((j:Int)<((l.map ae).length:Int));rw[b];omega) (ap (aC (aL (i:=j) j1)) ?_))))
   refine nh (λk s=>j+1<=k/\∃ F:FL,s=[.sl (aZ F),I (k:Int)]/\KnF l i j k F) l.length (j+1) j1 ⟨zka _,F,rfl,hF.mono λd g o h1 h2 h3 q=>j1⟩ (λk hk s a=>?_) (λs a=>?_)
   ·obtain⟨D,F,rfl,hF⟩:=a;refine ap (z:=l.map ae) rfl (ap am (ap ac (gj (by show((k:Int)<((l.map ae).length:Int));rw[b];omega) ?_)))
    refine ap (z:=l.map ae) rfl (ap (z:=i) (by rw[b];exact aq c) (ap (dW c) (ap (z:=l.map ae) rfl (ap (z:=j) (by rw[b];exact aq r) (ap (dW r) (ap (z:=l.map ae) rfl (ap (z:=k) (by rw[b];exact aq hk) (ap (dW hk) (ap (z:=ae (aR (dA (pt l) i j k))) (Zb n (hl _ (df c)) (hl _ (df r)) (hl _ (df hk))) ?_)))))))))
    have v:bd 549755813888 (aR (dA (pt l) i j k)):=fJ (jJ (po (P:=pt l) (hl _ (df c)) (hl _ (df r))) (po (P:=pt l) (hl _ (df c)) (hl _ (df hk))));obtain⟨p,hp⟩:∃ p,aR (dA (pt l) i j k)=p:=⟨_,rfl⟩;rw[hp] at v ⊢;have z0:bd 0 V.zero:=by simp only[bd,V.zero];omega
    have J:V.zero.sub p=p.neg:=by apply V.ext'<;>simp[V.sub,V.neg,V.zero]
    have K:V.zero.sub p.neg=p:=by apply V.ext'<;>simp[V.sub,V.neg,V.zero]
    refine nh (λt s=>∃ F':FL,s=[.sl (aZ F'),I (t:Int),ae (mt p t)]/\FOk l F'/\(∀ f∈F,f∈F')/\(1<=t->dA (pt l) i j k≠V.zero->Du (pt l) l.length p (V.dot p (pt l i))->(p,V.dot p (pt l i))∈F'.map Prod.fst)/\(2<=t->dA (pt l) i j k≠V.zero->Du (pt l) l.length p.neg (V.dot p.neg (pt l i))->(p.neg,V.dot p.neg (pt l i))∈F'.map Prod.fst)) 2 0 j1 ⟨F,rfl,hF.fok,λf hf=>hf,λh=>j1,λh=>j1⟩ (λt ht s a=>?_) (λs a=>?_)
    ·obtain⟨F',rfl,f1,f2,f3,f4⟩:=a;refine ap am (ap ac (gj (by show((t:Int)<2);omega) (ap (z:=l.map ae) rfl (ap (z:=i) (by rw[b];exact aq c) (ap (dW c) ?_)))))
     have E:t=0\/t=1:=j1
     simp only[g0,g1,g2];rcases E with rfl|rfl
     ·rw[show mt p 0=p from rfl];refine KR (n+2) hl hlen hs f1 (show i<j by omega) (show j<k by omega) hk (m:=p) (.inl hp.symm) (λF2 G u H=>?_)
      refine⟨.inl [.sl (aZ F2),I ((0+1:Nat):Int),ae p.neg],?_,?_⟩
      ·refine aa (z:=ae p.neg) ?_ ?_
       ·have:=Dx (n+5) z0 v j2
        rw[J] at this;exact this
       ·exact aa (aC PF) rfl
      ·exact⟨F2,rfl,G,λf hf=>u f (f2 f hf),λ_=>H,λh=>j1⟩
     ·rw[show mt p 1=p.neg from rfl];refine KR (n+2) hl hlen hs f1 (show i<j by omega) (show j<k by omega) hk (m:=p.neg) (.inr (by rw[hp])) (λF2 G u H=>?_)
      refine⟨.inl [.sl (aZ F2),I ((1+1:Nat):Int),ae p],?_,F2,rfl,G,λf hf=>u f (f2 f hf),λ_ h1 h2=>?_,λ_=>H⟩
      ·refine aa (z:=ae p) ?_ ?_
       ·have:=Dx (n+5) z0 (sC v) j2
        rw[K] at this;exact this
       ·exact aa (aC uY) rfl
      ·obtain⟨f,hf,e⟩:=zSa.1 (f3 (zka _) h1 h2);exact zSa.2 ⟨f,u f hf,e⟩
    ·obtain⟨F',rfl,f1,f2,f3,f4⟩:=a;refine⟨.inr (0,[.sl (aZ F')]),aa am (aa ac (aO j2 rfl)),.inl [.sl (aZ F'),I ((k+1:Nat):Int)],aa (aC (aL (i:=k) j1)) rfl,j1,F',rfl,f1,λd g o h1 h2 h3 q w m A B=>?_⟩
     by_cases e:d=i/\g=j/\o=k
     ·obtain⟨rfl,rfl,rfl⟩:=e;rw[hp] at A;rcases A with rfl|rfl
      ·exact f3 j1 w B
      ·exact f4 j1 w B
     ·obtain⟨f,hf,e⟩:=zSa.1 (hF.all d g o h1 h2 h3 j1 w m A B)
      exact zSa.2 ⟨f,f2 f hf,e⟩
   ·obtain⟨D,F,rfl,hF⟩:=a;refine⟨.inr (0,[.sl (aZ F)]),?_,.inl [.sl (aZ F),I ((j+1:Nat):Int)],aa (aC (aL (i:=j) j1)) rfl,j1,F,rfl,hF.mono λd g o h1 h2 h3 q=>j1⟩
    exact j0 (l.map ae) (aa am (aa ac (aO (by show ¬ ((l.length:Int)<((l.map ae).length:Int));rw[b];omega) rfl)))
  ·obtain⟨C,F,rfl,hF⟩:=a;refine⟨.inr (0,[.sl (aZ F)]),?_,.inl [.sl (aZ F),I ((i+1:Nat):Int)],aa (aC (aL (i:=i) j1)) rfl,F,rfl,hF.mono λd g o h1 h2 h3 q=>j1⟩
   exact j0 (l.map ae) (aa am (aa ac (aO (by show ¬ ((l.length:Int)<((l.map ae).length:Int));rw[b];omega) rfl)))
 ·obtain⟨F,rfl,hF⟩:=a;refine⟨.inr (0,[.sl (aZ F)]),?_,.sl (aZ F),rfl,F,hF,rfl⟩;exact j0 (l.map ae) (aa am (aa ac (aO (by show ¬ ((l.length:Int)<((l.map ae).length:Int));rw[b];omega) rfl)))
def aS(l:List V):(l.map ae).length=l.length:=zxa ..
def c13(n:Nat)(a b:List V)(t:a.length<=1000000):cA (n+1) 13 [bu a,bu b]=some (.bool (decide (a=b))):=by
 rw[u13]
 delta Uu qB qT qS qX qL qZ iL iR Jn
 refine j0 (a.map ae) (j0 (b.map ae) ?_);rw[aS,aS,cW];by_cases hab:a.length=b.length
 ·rw[zha hab];refine j0 false ?_;rw[zia j2]
  refine bR (λi s=>s=[I (i:Int)]/\a.take i=b.take i) a.length 0 (zqa _) ⟨rfl,j3⟩ (λi k s j=>?_) (λs j=>?_)
  ·obtain⟨rfl,h⟩:=j;have d:i<b.length:=j1
   have pre:∀ z,((D.truth (D.bool (!(D.beq (ae (a.getD i V.zero)) (ae (b.getD i V.zero)))))).bind λc=>
     if c then(some (Sum.inr (0,[(D.bool false)]))) else((afn .add (I (i:Int)) (D.int .i64 1)).bind λf=>some (Sum.inl [f])))=some z ->
     ((D.asSl (bu a)).bind λq=>(afn .lss (I (i:Int)) (D.int .i64 (List.length q))).bind λr=>(D.truth r).bind λp=>
     if p then((D.asSl (bu a)).bind λo=>(D.idx (I (i:Int)) (List.length o)).bind λi9=>(o[i9]?).bind λl=>(D.asSl (bu b)).bind λg=>(D.idx (I (i:Int)) (List.length g)).bind λuY=>(g[uY]?).bind λm=>
     (D.truth (D.bool (!(D.beq l m)))).bind λc=>
     if c then(some (Sum.inr (0,[(D.bool false)]))) else((afn .add (I (i:Int)) (D.int .i64 1)).bind λf=>some (Sum.inl [f]))) else(some (Sum.inr (1,[]):Sum (List D) (Nat×List D))))=some z:=λz h=>
    j0 (a.map ae) (aa am (aa ac (aK (by show((i:Int)<((a.map ae).length:Int));rw[aS];omega) (j0 (a.map ae) (aa (z:=i) (by rw[aS];exact aq k) (aa (dW k) (j0 (b.map ae) (aa (z:=i) (by rw[aS];exact aq d) (aa (dW d) h)))))))))
   rw[ks] at pre;by_cases he:a.getD i V.zero=b.getD i V.zero
   ·left;refine⟨[I ((i+1:Nat):Int)],pre _ ?_,rfl,?_⟩
    ·rw[zha he];refine j0 false ?_;rw[zia j2]
     exact aa (aC (aL (i:=i) j1)) rfl
    ·rw[zJa k,zJa d,h]
     simp_all
   ·right;refine⟨(0,[.bool false]),pre _ ?_,?_⟩
    ·rw[zca he];rfl
    ·rw[zca (λe=>he (by rw[e]))];rfl
  ·obtain⟨rfl,h⟩:=j;refine⟨(1,[]),?_,?_⟩
   ·exact j0 (a.map ae) (aa am (aa ac (aO (by show ¬ ((a.length:Int)<((a.map ae).length:Int));rw[aS];omega) rfl)))
   ·grind
 ·rw[zca hab,zca (λe=>hab (by rw[e]))]
  rfl
instance decBd (k:Int) (v:V):Decidable (bd k v):=by unfold bd;exact inferInstance
def qx(v:V):Nat->Int
 | 0=>v.x
 | 1=>v.y
 | _=>v.z
def Ji(v:V){t:Nat}(h:t<3):D.fld (ae v) t=some (I (qx v t)):=by
 have:t=0\/t=1\/t=2:=j1
 rcases this with rfl|rfl|rfl<;>rfl
def EX{v:V}:bd MV v↔∀ t,t<3->¬ (qx v t>262144)/\¬ (qx v t < -262144):=by
 constructor
 ·intro h t ht;have:t=0\/t=1\/t=2:=j1
  grind [bd,MV,qx]
 ·intro h;have h0:=h 0 j2;have h1:=h 1 j2;have h2:=h 2 j2
  simp_all [qx,bd,MV]
def lD(F:FL)(i:Nat):Bool:=F.any λf=>f.2.any λx=>decide (x=i)
def dQ(S:List V)(F:FL)(k:Nat):List V:=((List.range k).filter (lD F)).map (pt S)
def EK(S:List V)(F:FL)(k:Nat):dQ S F (k+1)=if lD F k then dQ S F k++[pt S k] else dQ S F k:=by grind [dQ,List.range_succ]
def zD(S:List V)(F:FL)(k:Nat):(dQ S F k).length<=k:=by grind [dQ,List.length_map]
def DL(e:Int):D:=.st [.st [.sl []],I e]
def Fs(S:List V)(F:FL):D:=if F.length=0 then DL 120 else if F.length>64 then DL 2 else .st [.st [bu (dQ S F S.length)],I 0]
def NI(n:Nat){l:List V}(h:64<l.length):cA (n+1) 12 [bu l]=some (DL 2):=by
 rw[u12]
 delta RL qB qC qT qS qX qL qV qW qZ iL iR Jn
 exact j0 (l.map ae) (aa cK (aa ac (aK (by show((l.map ae).length:Int)>64;rw[aS];omega) rfl)))
def Q8{l:List V}{i:Nat}(B:i<l.length){α:Type}{k:Nat×List D->Option α}{y:α}(hy:k (if bd MV (l.getD i V.zero) then(1,[.sl [],I 0]) else(0,[.sl [],I 1]))=some y) :
  Option.bind (aU (λ(j:List D)=>
 (afn .lss (gx j 0) (D.int .i64 3)).bind λF=>
 (D.truth F).bind λm=>
 if m then((D.asSl (bu l)).bind λc=>
 (D.idx (I (i:Int)) (List.length c)).bind λuY=>
 (c[uY]?).bind λr=>
 (D.idx (gx j 0) 3).bind λi14=>
 (D.fld r i14).bind λu=>
 (afn .gtr u (D.int .i64 262144)).bind λv=>
 (D.truth v).bind λn=>
 Option.bind (if n then(some true) else((D.asSl (bu l)).bind λd=>
 (D.idx (I (i:Int)) (List.length d)).bind λi19=>
 (d[i19]?).bind λw=>
 (D.idx (gx j 0) 3).bind λi21=>
 (D.fld w i21).bind λx=>
 (afn .lss x (D.int .i64 (-262144))).bind λA=>
 D.truth A)) λo=>
 (D.truth (D.bool o)).bind λp=>
 if p then(some (Sum.inr (0,[(D.sl []),(D.int .i64 1)]))) else((afn .add (gx j 0) (D.int .i64 1)).bind λf=>
 some (Sum.inl [f,(D.sl (D.els (gx j 1))),(gx j 2)]))) else(some (Sum.inr (1,[(D.sl (D.els (gx j 1))),(gx j 2)])))) [(D.int .i64 0),.sl [],I 0]) k=some y:=by
 refine cr (λt s=>s=[I (t:Int),.sl [],I 0]/\∀ q,q<t->¬ (qx (l.getD i V.zero) q>262144)/\¬ (qx (l.getD i V.zero) q < -262144)) 3 0 j2 ⟨rfl,λq h=>j1⟩ (λt ht s C=>?_) (λs C=>?_)
 ·obtain⟨rfl,E⟩:=C;have hf:=Ji (l.getD i V.zero) ht;have G:D.idx (I (t:Int)) 3=some t:=aq ht;have pre:∀ z,(if decide (qx (l.getD i V.zero) t>262144\/qx (l.getD i V.zero) t < -262144)=true then(some (Sum.inr (0,[(D.sl []),(D.int .i64 1)]))) else((afn .add (I (t:Int)) (D.int .i64 1)).bind λf=>some (Sum.inl [f,.sl [],I 0])))=some z->_:=λ(z:Sum (List D) (Nat×List D)) hz'=>
   aa (g:=λF=>(D.truth F).bind λm=>if m then((D.asSl (bu l)).bind λc=>(D.idx (I (i:Int)) (List.length c)).bind λuY=>(c[uY]?).bind λr=>(D.idx (I (t:Int)) 3).bind λi14=>(D.fld r i14).bind λu=>(afn .gtr u (D.int .i64 262144)).bind λv=>(D.truth v).bind λn=>
    Option.bind (if n then(some true) else((D.asSl (bu l)).bind λd=>(D.idx (I (i:Int)) (List.length d)).bind λi19=>(d[i19]?).bind λw=>(D.idx (I (t:Int)) 3).bind λi21=>(D.fld w i21).bind λx=>(afn .lss x (D.int .i64 (-262144))).bind λA=>D.truth A)) λo=>
    (D.truth (D.bool o)).bind λp=>
    if p then(some (Sum.inr (0,[(D.sl []),(D.int .i64 1)]))) else((afn .add (I (t:Int)) (D.int .i64 1)).bind λf=>some (Sum.inl [f,.sl [],I 0]))) else(some (Sum.inr (1,[.sl [],I 0]))))
    (am (a:=(t:Int)) (b:=3)) (y:=z) (aa ac (aK j1 (j0 (l.map ae) (aa (z:=i) (by rw[aS];exact aq B) (aa (dW B) (aa G (aa hf (aa cK (aa ac (aa (z:=decide (qx (l.getD i V.zero) t>262144\/qx (l.getD i V.zero) t < -262144)) (by
     by_cases h1:qx (l.getD i V.zero) t>262144
     ·refine aK h1 ?_;rw[zha (.inl h1)]
     ·refine aO h1 (j0 (l.map ae) (aa (z:=i) (by rw[aS];exact aq B) (aa (dW B) (aa G (aa hf (aa am ?_))))))
      rw[ac];congr 1;rw[decide_eq_decide];exact⟨.inr,λh=>h.resolve_left h1⟩) (aa ac hz')))))))))))
  by_cases hb:qx (l.getD i V.zero) t>262144\/qx (l.getD i V.zero) t < -262144
  ·right;refine⟨_,pre _ (aK hb rfl),?_⟩;rw[zia (λh=>by have:=EX.1 h t ht;omega)] at hy
   exact hy
  ·left;refine⟨[I ((t+1:Nat):Int),.sl [],I 0],pre _ (aO hb (aa (aC (aL (i:=t) j1)) rfl)),rfl,λq H=>?_⟩
   by_cases e:q=t
   ·subst e;omega
   ·exact E q j1
 ·obtain⟨rfl,E⟩:=C;refine⟨(1,[.sl [],I 0]),aa am (aa ac (aO j2 rfl)),?_⟩
  rw[zja (EX.2 E)] at hy;exact hy
def NH(n:Nat){l:List V}(hlen:l.length<=64)(e:¬ ∀ x∈l,bd MV x):cA (n+1) 12 [bu l]=some (DL 1):=by
 rw[u12]
 delta RL qB qC qT qS qX qL qV qW qZ iL iR Jn
 refine j0 (l.map ae) (aa cK (aa ac (aO (by show ¬ ((l.map ae).length:Int)>64;rw[aS];omega) ?_)))
 refine bR (λi s=>s=[I (i:Int),.sl [],I 0]/\∀ x∈l.take i,bd MV x) l.length 0 (zqa _) ⟨rfl,j3⟩ (λi b s d=>?_) (λs d=>?_)
 ·obtain⟨rfl,c⟩:=d;by_cases hx:bd MV (l.getD i V.zero)
  ·left;refine⟨[I ((i+1:Nat):Int),.sl [],I 0],?_,rfl,λx a=>?_⟩
   ·refine j0 (l.map ae) (aa am (aa ac (aK (by show((i:Int)<((l.map ae).length:Int));rw[aS];omega) (Q8 b ?_))))
    rw[zja hx,zia (show ¬ (1:Nat)=0 by decide)]
    exact aa (aC (aL (i:=i) j1)) rfl
   ·rw[zJa b] at a;rcases List.mem_append.1 a with h|h
    ·exact c x h
    ·rw[zKa.1 h];simpa [List.getD,b] using hx
  ·right;refine⟨(0,[.sl [],I 1]),?_,rfl⟩;refine j0 (l.map ae) (aa am (aa ac (aK (by show((i:Int)<((l.map ae).length:Int));rw[aS];omega) (Q8 b ?_))))
   rw[zia hx];rfl
 ·obtain⟨rfl,c⟩:=d;rw[zub] at c;exact z4a c e
def IE(n:Nat){l:List V}(hlen:l.length<=64)(hl:∀ x∈l,bd MV x){F:FL}(t:∀ f∈F,f.2.length<=1000000)(A:F.length<=3000000)(m:cA (n+2) 48 [bu (fe l)]=some (.sl (aZ F))):cA (n+3) 12 [bu l]=some (Fs (fe l) F):=by
 rw[u12]
 delta RL qB qC qT qS qX qL qV qW qZ iL iR Jn
 refine j0 (l.map ae) (aa cK (aa ac (aO (by show ¬ ((l.map ae).length:Int)>64;rw[aS];omega) ?_)))
 refine bR (λi s=>s=[I (i:Int),.sl [],I 0]) l.length 0 (zqa _) rfl (λi c s a=>?_) (λs a=>?_)
 ·subst a;left;refine⟨[I ((i+1:Nat):Int),.sl [],I 0],?_,rfl⟩;refine j0 (l.map ae) (aa am (aa ac (aK (by show((i:Int)<((l.map ae).length:Int));rw[aS];omega) (Q8 c ?_))))
  rw[zja (hl _ (df c)),zia (show ¬ (1:Nat)=0 by decide)]
  exact aa (aC (aL (i:=i) j1)) rfl
 ·subst a;refine⟨(1,[.sl [],I 0]),j0 (l.map ae) (aa am (aa ac (aO (by show ¬ ((l.length:Int)<((l.map ae).length:Int));rw[aS];omega) rfl))),?_⟩
  rw[zia (show ¬ (1:Nat)=0 by decide)]
  have o:=zHa (rO l) hlen;refine aa (c47 n l j1) (aa m (j0 (aZ F) ?_))
  obtain⟨S,B⟩:∃ S,fe l=S:=⟨_,rfl⟩;rw[B] at o ⊢;rw[bh,show D.beq (D.int .i64 (F.length:Nat)) (D.int .i64 0)=decide (F.length=0) from cW F.length 0];refine aa ac ?_;unfold Fs;by_cases h0:F.length=0
  ·refine aK h0 ?_;rw[zja h0];rfl
  refine aO h0 (j0 (aZ F) (aa cK (aa ac ?_)));rw[zia h0];by_cases h64:F.length>64
  ·refine aK (by rw[bh];omega) ?_
   rw[zja h64];rfl
  refine aO (by rw[bh];omega) ?_
  rw[zia h64];refine bR (λi s=>s=[I (i:Int),.sl [],I 0,bu (dQ S F i),I 0]) S.length 0 (zqa _) rfl (λi c s a=>?_) (λs a=>?_)
  ·subst a;left;refine⟨[I ((i+1:Nat):Int),.sl [],I 0,bu (dQ S F (i+1)),I 0],?_,rfl⟩;have C:=zD S F i;refine j0 (S.map ae) (aa am (aa ac (aK (by show((i:Int)<((S.map ae).length:Int));rw[aS];omega) ?_)))
   refine aa (z:=(0,[.sl [],I 0,bu (dQ S F (i+1)),I 0])) ?_ (aa (aC (aL (i:=i) j1)) rfl)
   refine cr (λk s=>s=[.bool (lD (F.take k) i),I (k:Int),.sl [],I 0,bu (dQ S F i),I 0]) F.length 0 (zqa _) rfl (λk hk s a=>?_) (λs a=>?_)
   ·subst a;left;refine⟨[.bool (lD (F.take (k+1)) i),I ((k+1:Nat):Int),.sl [],I 0,bu (dQ S F i),I 0],?_,rfl⟩;have r:=t F[k] (zBa hk);have w:lD (F.take (k+1)) i=(lD (F.take k) i||F[k].2.any λx=>decide (x=i)):=by
     grind [lD,List.take_succ_eq_append_getElem]
    refine j0 (aZ F) (aa am (aa ac (aK (by show((k:Int)<((aZ F).length:Int));rw[bh];omega) ?_)))
    have e:∀ {β:Type} {g:List D->Option β} {y:β},g (ah F[k].2)=some y->((D.asSl (.sl (aZ F))).bind λd=>(D.idx (I (k:Int)) (List.length d)).bind λi47=>(d[i47]?).bind λu=>(D.fld u 2).bind λv=>(D.asSl v).bind g)=some y:=λh=> j0 (aZ F) (aa (z:=k) (by rw[bh];exact aq hk) (aa (fg hk) (j0 (.sl (ah F[k].2)) (j0 (ah F[k].2) h))))
    rw[w];generalize lD (F.take k) i=b;obtain⟨p,hp⟩:∃ p,F[k].2=p:=⟨_,rfl⟩;rw[hp] at r e ⊢;refine cr (λj s=>s=[.bool (b||(p.take j).any λx=>decide (x=i)),I (j:Int),.sl [],I 0,bu (dQ S F i),I 0]) p.length 0 (zqa _) (by rw[List.take_zero,List.any_nil,Bool.or_false];rfl) (λj q s a=>?_) (λs a=>?_)
    ·subst a;left;refine⟨[.bool (b||(p.take (j+1)).any λx=>decide (x=i)),I ((j+1:Nat):Int),.sl [],I 0,bu (dQ S F i),I 0],?_,rfl⟩;refine e (aa am (aa ac (aK (by show((j:Int)<((ah p).length:Int));rw[ao];omega) (aa ac (aa (z:=b||(p.take (j+1)).any λx=>decide (x=i)) ?_ (aa (aC (aL (i:=j) j1)) rfl))))))
     rw[zJa q,zHd];generalize (p.take j).any (λx=>decide (x=i))=b1;cases hb:(b||b1)
     ·rw[<-Bool.or_assoc,hb,zia j2]
      refine e (aa (z:=j) (by rw[ao];exact aq q) (aa (mE q) ?_))
      simp_all [cW,List.getD,ac]
     ·grind
    ·subst a;rw[zub];refine⟨(0,[.bool (b||p.any λx=>decide (x=i)),.sl [],I 0,bu (dQ S F i),I 0]),e (aa am (aa ac (aO (by show ¬ ((p.length:Int)<((ah p).length:Int));rw[ao];omega) rfl))),?_⟩
     exact aa (aC (aL (i:=k) j1)) rfl
   ·subst a;rw[zub];refine⟨(0,[.bool (lD F i),.sl [],I 0,bu (dQ S F i),I 0]),?_,?_⟩
    ·exact j0 (aZ F) (aa am (aa ac (aO (by show ¬ ((F.length:Int)<((aZ F).length:Int));rw[bh];omega) rfl)))
    ·rw[EK];refine aa (z:=lD F i) ac ?_;cases lD F i
     ·rfl
     ·rw[zja rfl,zja rfl];refine j0 (S.map ae) (aa (z:=i) (by rw[aS];exact aq c) (aa (dW c) ?_))
      rw[zja (by show((dQ S F i).map ae).length+1<=1073741824;rw[aS];omega)]
      have:D.sl ((dQ S F i).map ae++[ae (S.getD i V.zero)])=bu (dQ S F i++[pt S i]):=by simp[bu,pt]
      rw[<-this];rfl
  ·subst a;refine⟨(0,[.sl [],I 0,bu (dQ S F S.length),I 0]),?_,rfl⟩;exact j0 (S.map ae) (aa am (aa ac (aO (by show ¬ ((S.length:Int)<((S.map ae).length:Int));rw[aS];omega) rfl)))
def CL{l:List V}(hs:Ij l){m:V}{d:Int}(hF:IsF (pt l) l.length m d){p:List Nat}(hp:bU (pt l) l.length m d p):p.Nodup/\p.length<=l.length/\0<p.length/\∀ x∈p,x<l.length:=by
 obtain⟨i,g,c,b⟩:=hF.poly hs;have e:=bU.eq hs hF hp g;subst e;obtain⟨a,_,h,f,_,_⟩:=hF.head hs;have hm:a∈p:=(b a).2 ⟨h,f⟩;refine⟨c,?_,List.length_pos_iff.2 (λe=>by rw[e] at hm;cases hm),λx hx=>(aD.1 ((b x).1 hx).1).1⟩
 have:=z4b (l₂:=List.range l.length) c λx hx=>z0a.2 (aD.1 ((b x).1 hx).1).1
 simp_all
def OS{l:List V}(hl:∀ x∈l,bd MV x):∀ x∈fe l,bd MV x:=λx hx=>hl x (Cs.1 hx)
def Zg(n:Nat){l:List V}(hlen:l.length<=100):(64<l.length/\cA (n+8) 12 [bu l]=some (DL 2))\/(l.length<=64/\(¬ ∀ x∈l,bd MV x)/\cA (n+8) 12 [bu l]=some (DL 1)) ∨
  (l.length<=64/\(∀ x∈l,bd MV x)/\∃ F:FL,KnF (fe l) (fe l).length 0 0 F/\cA (n+8) 12 [bu l]=some (Fs (fe l) F)):=by
 by_cases h64:64<l.length
 ·exact .inl ⟨h64,NI (n+7) h64⟩
 ·by_cases hb:∀ x∈l,bd MV x
  ·right;right;refine⟨j1,hb,?_⟩
   have b:=rO l;have a:=KE (xj l);obtain⟨F,h1,h2⟩:=c48 n (OS hb) j1 a
   refine⟨F,h1,IE (n+5) j1 hb (λf hf=>?_) (zHa (h1.fok.len j1) j2) h2⟩
   obtain⟨c,d⟩:=h1.fok.ok f hf;have:=(CL a c d).2.1;omega
  ·exact .inr (.inl ⟨j1,hb,NH (n+7) j1 hb⟩)
def HI(S:List V)(F:FL):(dQ S F S.length).Sublist S:=by
 have h1:((List.range S.length).map (pt S))=S:=by
  apply zrc;intro i;by_cases h:i<S.length
  ·rw[zmb,zmd h];simp[pt,List.getD,h]
  ·simp_all
 have h2:(dQ S F S.length).Sublist ((List.range S.length).map (pt S)):=List.Sublist.map _ List.filter_sublist
 simp_all
def c15(n:Nat){l:List V}(hlen:l.length<=100):(∃ e:Int,cA (n+9) 15 [cl l]=some (I e)/\e≠0)\/(cA (n+9) 15 [cl l]=some (I 0)/\l.length<=64/\(∀ x∈l,bd MV x)/\∃ F:FL,KnF (fe l) (fe l).length 0 0 F/\F.length≠0/\F.length<=64/\dQ (fe l) F (fe l).length=l):=by
 rw[u15]
 delta Uv qG qT Jn
 have err:∀ e:Int,e≠0->cA (n+8) 12 [bu l]=some (DL e)->∃ e:Int,((D.get (cl l) [0]).bind λm=>
 (cA (n+8) 12 [m]).bind λc=>
 (D.get c [1]).bind λo=>
 (D.truth (D.bool (D.beq o (D.int .i64 0)))).bind λf=>
 Option.bind (if f then((D.get c [0,0]).bind λp=>
 (D.get (cl l) [0]).bind λq=>
 (cA (n+8) 13 [p,q]).bind λk=>
 (afB .not k).bind λr=>
 D.truth r) else(some false)) λg=>
 (D.truth (D.bool g)).bind λb=>
 if b then(some (D.int .i64 3)) else((D.get c [1]).bind λd=>
 some d))=some (I e)/\e≠0:=λe he h=>⟨e,by refine j0 (bu l) (aa h (j0 (I e) (aa (z:=false) ?_ (j0 false (j0 false rfl)))));rw[show D.beq (I e) (D.int .i64 0)=decide (e=0) from bY,zca he];rfl,he⟩
 rcases Zg n hlen with⟨h1,h2⟩|⟨h0,h1,h2⟩|⟨h0,h1,F,h2,h3⟩
 ·grind
 ·grind
 ·unfold Fs at h3;by_cases f0:F.length=0
  ·grind
  ·rw[zia f0] at h3;by_cases f1:F.length>64
   ·grind
   ·rw[zia f1] at h3;have j:=zD (fe l) F (fe l).length;have i:=rO l;have a:=c13 (n+7) (dQ (fe l) F (fe l).length) l j1
    by_cases hv:dQ (fe l) F (fe l).length=l
    ·rw[zha hv] at a;refine .inr ⟨?_,h0,h1,F,h2,f0,j1,hv⟩
     refine j0 (bu l) (aa h3 (j0 (I 0) (j0 true (aa (z:=false) ?_ (j0 false rfl)))));rw[zja rfl];exact j0 (bu (dQ (fe l) F (fe l).length)) (j0 (bu l) (aa a rfl))
    ·rw[zca hv] at a;refine .inl ⟨3,?_,j2⟩
     refine j0 (bu l) (aa h3 (j0 (I 0) (j0 true (aa (z:=true) ?_ (j0 true rfl)))));rw[zja rfl];exact j0 (bu (dQ (fe l) F (fe l).length)) (j0 (bu l) (aa a rfl))
def IX(n:Nat){x y:Int}(hx:In x)(hy:In y)(h:In (x*y)):cA (n+3) 61 [af x,af y]=some (af (x*y)):=by
 have:=c61 n (a:=some x) (b:=some y) (aY hx) (aY hy)
 rwa [show mI (some x) (some y)=some (x*y) from iN h] at this
def IP(n:Nat){x y:Int}(hx:In x)(hy:In y)(h:In (x+y)):cA (n+4) 57 [af x,af y]=some (af (x+y)):=by
 have:=c57 n (a:=some x) (b:=some y) (aY hx) (aY hy)
 rwa [show uA (some x) (some y)=some (x+y) from iN h] at this
def dT{α:Type}{A B y:α}(h:A=y):(if true=true then A else B)=y:=h
def NK(n:Nat){v:V}(h1:inR v.x)(h2:inR v.y)(h3:inR v.z):cA (n+3) 148 [ae v]=some (g9 v):=by
 rw[aa1];delta L5 qB qC qZ iL iR Jn;obtain⟨Z,hZ⟩:∃ Z,(D.st [(D.bool false),(D.bool false),(aw bc)])=Z:=⟨_,rfl⟩;rw[hZ];refine bg (s':=[I 1,.st [af v.x,Z,Z]]) ?_ (bg (s':=[I 2,.st [af v.x,af v.y,Z]]) ?_ (bg (s':=[I 3,g9 v]) ?_ (eJ (r:=(0,[g9 v])) ?_ rfl)))
 ·exact j0 (.bool true) (j0 true (dT (j0 0 (j0 (I v.x) (aa (zR n h1) (j0 0 (j0 (.st [af v.x,Z,Z]) (j0 (I 1) rfl))))))))
 ·exact j0 (.bool true) (j0 true (dT (j0 1 (j0 (I v.y) (aa (zR n h2) (j0 1 (j0 (.st [af v.x,af v.y,Z]) (j0 (I 2) rfl))))))))
 ·exact j0 (.bool true) (j0 true (dT (j0 2 (j0 (I v.z) (aa (zR n h3) (j0 2 (j0 (g9 v) (j0 (I 3) rfl))))))))
 ·exact j0 (.bool false) (j0 false rfl)
def As{m k:Nat}(h:m<=2^k)(hk:k<=511):m<eY:=by
 have:In (m:Int):=fj hk (by rw[zsa];exact h)
 have:=aX.1 this
 rwa [zsa] at this
def Eh{a b k:Nat}(c:a<=2^k)(d:b<=2^k):a+b<=2^(k+1):=by rw[zAb];omega
def O9(q:Rat)(a k:Nat):Prop:=q.num.natAbs<=2^a/\q.den<=2^k
theorem O9.inR{q:Rat}{a k:Nat}(h:O9 q a k)(b:a<=511:=by decide)(hk:k<=511:=by decide):InR q:=
 ⟨fj b h.1,fj hk (by rw[zsa];exact h.2)⟩
theorem O9.fitM{x y:Rat}{a k b m:Nat}(hx:O9 x a k)(hy:O9 y b m)(h1:a+b<=511:=by decide)(h2:k+m<=511:=by decide):fitM x y:=
 ⟨As (bH hx.1 hy.1 (zka _)) h1,As (bH hx.2 hy.2 (zka _)) h2⟩
theorem O9.fitA{x y:Rat}{a k b m:Nat}(hx:O9 x a k)(hy:O9 y b m)(h1:a+m<=510:=by decide)(h2:b+k<=510:=by decide)(h3:k+m<=511:=by decide):fitA x y:=by refine⟨?_,As (bH hx.2 hy.2 (zka _)) h3⟩;have c:=bH hx.1 hy.2 h1;have d:=bH hy.1 hx.2 h2;exact As (k:=510+1) (Eh c d) j2
def Tt(t:T3):D:=.st [.st [ae t.1,ae t.2.1,ae t.2.2],af (vol t)]
def Py(T:List T3):List D:=T.map Tt
theorem HP.take{T:List T3}{N:Nat}(h:HP T N)(i:Nat):HP (T.take i) N:=
 ⟨zHa (by rw[zkb];omega) h.1,λt ht=>h.2 t (zVa ht)⟩
def Ju{S:List V}(c:Ij S){F:FL}(hK:FOk S F){k:Nat}(h:lD F k=true):HR (pt S) S.length k:=by
 obtain⟨f,hf,h2⟩:=z9b.1 h;obtain⟨x,hx,a⟩:=z9b.1 h2;have a:x=k:=by simpa using a
 subst a;obtain⟨b,g⟩:=hK.ok f hf;obtain⟨p,e,_,d⟩:=b.poly c;rw[<-bU.eq c b g e] at d;obtain⟨r1,i⟩:=(d x).1 hx;exact⟨_,_,b,r1,i⟩
def wJ{a b:Int}{k:Nat}(c:a.natAbs<=2^k)(d:b.natAbs<=2^k):(a-b).natAbs<=2^(k+1):=by rw[zsd];exact cG c (by rw[zCb];exact d)
def IF(n:Nat):cA (n+3) 169 []=some (af 1):=by rw[aa8];delta Mf Jn;exact aa (zR n (dO 1)) rfl
def Zj(n:Nat){x:Int}(hx:In x):cA (n+1031) 138 [af x]=some (g8 (x:Rat)):=by
 rw[aaT];unfold LT;refine aa (IF (n+1027)) (aa (QA n hx Ds j2) ?_)
 rw[tW]
def Pp(n:Nat){x:Int}(hx:inR x):cA (n+1032) 74 [I x]=some (g8 (x:Rat)):=by rw[u74];unfold UQ;exact aa (zR (n+1029) hx) (aa (Zj n (bC hx)) rfl)
def SL(n:Nat){q:Rat}(h:InR q):cA (n+1030) 136 [g8 q]=some (.bool true):=by
 rw[Ua];delta H3 qG qB qT Jn;have hp:=q.den_pos;refine j0 (af q.num) (aa (ID (n+1027) h.1) (j0 true (aa (z:=true) (dT ?_) (j0 true (aa (z:=true) (dT ?_) (j0 true (aa (z:=true) (dT ?_) rfl)))))))
 ·exact j0 (af (q.den:Int)) (aa (ID (n+1027) h.2) rfl)
 ·refine j0 (af (q.den:Int)) (aa (sJ (n+1026) h.2) (aa cK ?_));rw[gT j1];rfl
 ·refine j0 (af q.num) (j0 (af (q.den:Int)) (aa (GE n h.1 h.2) (aa (IF (n+1026)) ?_)));have e:Nat.gcd q.num.natAbs (q.den:Int).natAbs=1:=q.reduced;rw[e];show D.truth (.bool (D.beq (af 1) (af 1)))=_;rw[Pc];rfl
theorem tJ{x y:Rat}{a b g:Nat}(d:x.den=g*a)(e:y.den=g*b)(c:(a:Int)*y.den≠0):Rat.divInt (x.num*b+y.num*a) ((a:Int)*y.den)=x+y:=by
 conv=>rhs;rw[<-zEb x,<-zEb y]
 rw[zFc _ _ (cT x) (cT y),zLb c (by have:=cT x;have:=cT y;exact z8b ‹_› ‹_›)]
 have f:(x.den:Int)=g*a:=by rw[d,zYa]
 have h:(y.den:Int)=g*b:=by rw[e,zYa]
 rw[f,h];grind
def DI{N D:Int}(c:0<D)(h:Nat.gcd N.natAbs D.natAbs=1):(Rat.divInt N D).num=N/\((Rat.divInt N D).den:Int)=D:=by
 obtain⟨a,b⟩:=gO N (show D≠0 by omega)
 have e:((1:Nat):Int)=1:=rfl;rw[zia j1,h,e,Int.ediv_one] at a b
 exact⟨a,b⟩
def z8(x:Int){d:Int}(a:d≠0):(Rat.divInt x d).num.natAbs ∣ x.natAbs/\(Rat.divInt x d).den ∣ d.natAbs:=by
 obtain⟨f,h⟩:=gO x a;have e:(Rat.divInt x d).den=((Rat.divInt x d).den:Int).natAbs:=rfl;rw[e,f,h];have key:∀ z:Int,((Nat.gcd x.natAbs d.natAbs:Nat):Int) ∣ z->(z/(if d<0 then -(Nat.gcd x.natAbs d.natAbs:Int) else(Nat.gcd x.natAbs d.natAbs:Int))).natAbs ∣ z.natAbs:=by
  intro z c;have b:0<Nat.gcd x.natAbs d.natAbs:=zzc _ j1
  obtain⟨k,rfl⟩:=c;generalize Nat.gcd x.natAbs d.natAbs=g at *;split
  ·rw[Int.ediv_neg,zob _ j1,zCb,zLa];exact Nat.dvd_mul_left _ _
  ·rw[zob _ j1,zLa];exact Nat.dvd_mul_left _ _
 exact⟨key x (z6a.2 (ztb _ _)),key d (z6a.2 (zQb _ _))⟩
def Vc(n:Nat){x y:Int}(hx:In x)(hy:In y):cA (n+4) 90 [af x,af y]=some (I (bB x y)):=by
 rw[u90];delta U0 qG qT qN Jn;have gx:=nH (n+1) (a:=some x) (aY hx);have e:=nH (n+1) (a:=some y) (aY hy);have b:=aX.1 hx;have d:=aX.1 hy;refine aa gx (aa e (j0 (.bool false) (j0 false (j0 false (j0 false ?_)))));rw[zia j2]
 refine j0 (.bool false) (j0 false ?_);rw[zia j2]
 refine j0 (.bool false) (j0 false ?_);rw[zia j2]
 refine aa (aQ x) (aa (aQ y) ?_);by_cases h1:x<0<;>by_cases h2:y<0
 ·rw[zha h1,zha h2];refine j0 false ?_;rw[zia j2]
  refine aa (z:=.bool true) (by rw[aQ,zha h1]) (j0 true (dT ?_))
  refine aa (jr y) (aa (jr x) (aa (NG n d b) ?_));congr 2;unfold bB;by_cases c:x<y
  ·rw[zja c,zja j1]
  ·rw[zia c,zia j1]
   by_cases c2:x>y
   ·rw[zja c2,zja j1]
   ·rw[zia c2,zia j1]
 ·rw[zha h1,zca h2];refine j0 true (dT ?_);refine aa (z:=.bool true) (by rw[aQ,zha h1]) (j0 true (dT ?_))
  unfold bB;rw[zja j1]
 ·rw[zca h1,zha h2];refine j0 true (dT ?_);refine aa (z:=.bool false) (by rw[aQ,zca h1]) (j0 false ?_)
  rw[zia j2]
  unfold bB;rw[zia j1,zja j1]
 ·rw[zca h1,zca h2];refine j0 false ?_;rw[zia j2]
  refine aa (z:=.bool false) (by rw[aQ,zca h1]) (j0 false ?_)
  rw[zia j2]
  refine aa (jr x) (aa (jr y) (aa (NG n b d) ?_));congr 2;unfold bB;by_cases c:x<y
  ·rw[zja c,zja j1]
  ·rw[zia c,zia j1]
   by_cases c2:x>y
   ·rw[zja c2,zja j1]
   ·rw[zia c2,zia j1]
def Zi(n:Nat){v:V}(h1:inR v.x)(h2:inR v.y)(h3:inR v.z):cA (n+1033) 135 [ae v]=some (Px (RV.of v)):=by rw[aaR];delta LQ qG;exact j0 (I v.x) (aa (Pp n h1) (j0 (I v.y) (aa (Pp n h2) (j0 (I v.z) (aa (Pp n h3) rfl)))))
def Ir:D:=.st [nF,af 1]
def a7:Option Rat->D
 | some q=>g8 q
 | none=>Ir
def OW(a:Option Rat):Prop:=∀ q,a=some q->InR q
theorem OW.some{q:Rat}(h:OW (some q)):InR q:=h q rfl
def bS{q:Rat}(h:InR q):OW (some q):=λy e=>by cases e;exact h
def iJ:OW none:=λy e=>by cases e
def fZ:pF none:=λy e=>by cases e
def lK:Option Int->Option Int->Option Rat
 | some n,some d=>if d=0 then none else some (Rat.divInt n d)
 | _,_=>none
def At{a b:Option Int}(c:pF a)(d:pF b):OW (lK a b):=by
 cases a<;>cases b<;>simp only[lK]<;>first|exact iJ|skip
 split
 ·exact iJ
 ·exact bS (dh c.some d.some (by assumption))
def uO(a b:Option Int):pF (uA a b):=by cases a<;>cases b<;>simp only[uA]<;>first|exact fZ|exact rD _
def gk(a b:Option Int):pF (mI a b):=by cases a<;>cases b<;>simp only[mI]<;>first|exact fZ|exact rD _
def jk{x:Int}(hx:In x)(g:Int):In (x/g):=Sw hx (Int.natAbs_ediv_le_natAbs x g)
def Bq(x y:Rat):Option Rat:=
 lK (uA (mI (some x.num) (some ((y.den:Int)/(Nat.gcd x.den y.den:Nat)))) (mI (some y.num) (some ((x.den:Int)/(Nat.gcd x.den y.den:Nat))))) (mI (some ((x.den:Int)/(Nat.gcd x.den y.den:Nat))) (some (y.den:Int)))
def addW:Option Rat->Option Rat->Option Rat
 | some x,some y=>Bq x y
 | _,_=>none
def JU(x y:Rat):Option Rat:=
 lK (mI (some (Rat.divInt x.num y.den).num) (some (Rat.divInt y.num x.den).num)) (mI (some ((Rat.divInt x.num y.den).den:Int)) (some ((Rat.divInt y.num x.den).den:Int)))
def mulW:Option Rat->Option Rat->Option Rat
 | some x,some y=>JU x y
 | _,_=>none
def D8(a:Option Rat):Option Rat:=a.map (λx=>-x)
def A7(a b:Option Rat):Option Rat:=addW a (D8 b)
def vN(a b:Option Rat):Option Rat:=b.elim none λy=>mulW a (lK (some (y.den:Int)) (some y.num))
def kr(a b:Option Rat):OW (addW a b):=by cases a<;>cases b<;>simp only[addW]<;>first|exact iJ|exact At (uO _ _) (gk _ _)
def mJ(a b:Option Rat):OW (mulW a b):=by cases a<;>cases b<;>simp only[mulW]<;>first|exact iJ|exact At (gk _ _) (gk _ _)
def u6{a:Option Rat}(h:OW a):OW (D8 a):=by
 cases a with
 | none=>exact iJ
 | some x=>exact bS ⟨aX.2 (by rw[Rat.neg_num,zCb];exact aX.1 h.some.1),h.some.2⟩
def Gi(a b:Option Rat):OW (A7 a b):=kr _ _
def Fi(a b:Option Rat):OW (vN a b):=by
 cases b with
 | none=>exact iJ
 | some y=>exact mJ _ _
def lO{a b:Option Int}{z:Int}(h:mI a b=some z):∃ x y,a=some x/\b=some y/\z=x*y/\In z:=by
 have c:=gk a b z h;cases a<;>cases b<;>simp only[mI,eN] at h<;>try cases h
 all_goals simp_all
def Gz{a b:Option Int}{z:Int}(h:uA a b=some z):∃ x y,a=some x/\b=some y/\z=x+y/\In z:=by
 have c:=uO a b z h;cases a<;>cases b<;>simp only[uA,eN] at h<;>try cases h
 all_goals simp_all
def yR{a b:Option Int}{z:Rat}(h:lK a b=some z):∃ x y,a=some x/\b=some y/\y≠0/\z=Rat.divInt x y:=by
 cases a<;>cases b<;>simp only[lK] at h<;>try cases h
 all_goals simp_all
def De(x y:Rat):∃ g a b:Nat,g=Nat.gcd x.den y.den/\0<g/\x.den=g*a/\y.den=g*b/\0<a/\0<b/\(x.den:Int)/(Nat.gcd x.den y.den:Nat)=a/\(y.den:Int)/(Nat.gcd x.den y.den:Nat)=b:=by
 obtain⟨g,c⟩:∃ g,g=Nat.gcd x.den y.den:=⟨_,rfl⟩;have i:=x.den_pos;have hyp:=y.den_pos;have f:0<g:=by simp_all
 obtain⟨a,d⟩:g ∣ x.den:=c ▸ ztb _ _;obtain⟨b,e⟩:g ∣ y.den:=c ▸ zQb _ _;have g0:(g:Int)≠0:=j1
 refine⟨g,a,b,c,f,d,e,Nat.pos_of_ne_zero λh=>by rw[h] at d;omega,Nat.pos_of_ne_zero λh=>by rw[h] at e;omega,?_,?_⟩
 ·rw[<-c,d,zYa];exact zob _ g0
 ·rw[<-c,e,zYa];exact zob _ g0
def Il{x y z:Rat}(h:addW (some x) (some y)=some z):z=x+y:=by obtain⟨g,a,b,o,n,j,k,a0,m,c,d⟩:=De x y;simp only[addW,Bq,c,d] at h;obtain⟨p,q,hp,hq,l,rfl⟩:=yR h;obtain⟨s,t,hs,ht,rfl,_⟩:=Gz hp;obtain⟨_,_,h1,h2,rfl,_⟩:=lO hs;obtain⟨_,_,h3,e,rfl,_⟩:=lO ht;obtain⟨_,_,f,i,rfl,_⟩:=lO hq;cases h1;cases h2;cases h3;cases e;cases f;cases i;exact tJ j k l
def ju{x y:Int}(h:In (x*y)):mI (some x) (some y)=some (x*y):=iN h
def zL{x y:Int}(h:In (x+y)):uA (some x) (some y)=some (x+y):=iN h
def Br{x y:Rat}(hf:fitA x y):addW (some x) (some y)=some (x+y):=by
 obtain⟨f1,f2⟩:=hf;obtain⟨g,a,b,m,e,i,j,a0,l,f,h⟩:=De x y;have c:a<=x.den:=by rw[i];exact z7b _ e
 have d:b<=y.den:=by rw[j];exact z7b _ e
 have m1:x.num.natAbs*b<=x.num.natAbs*y.den:=zeb _ d;have m2:y.num.natAbs*a<=y.num.natAbs*x.den:=zeb _ c;have m3:a*y.den<=x.den*y.den:=zIa _ c;have i1:In (x.num*b):=aX.2 (by rw[zLa,zsa];omega)
 have i2:In (y.num*a):=aX.2 (by rw[zLa,zsa];omega)
 have i3:In (x.num*b+y.num*a):=aX.2 (by have:=zsc (x.num*b) (y.num*a);rw[zLa,zLa,zsa,zsa] at this;omega)
 have i4:In ((a:Int)*y.den):=aX.2 (by rw[<-zYa,zsa];omega)
 have k:(a:Int)*y.den≠0:=by have:0<a*y.den:=Nat.mul_pos a0 y.den_pos;omega
 simp only[addW,Bq,f,h];rw[ju i1,ju i2,zL i3,ju i4];grind [lK,tJ]
theorem wI(x y:Rat):Rat.divInt x.num y.den*Rat.divInt y.num x.den=x*y:=by
 conv=>rhs;rw[<-zEb x,<-zEb y]
 rw[zOb,zOb,zMa (y.den:Int)]
def JY{x y z:Rat}(h:mulW (some x) (some y)=some z):z=x*y:=by simp only[mulW,JU] at h;obtain⟨p,q,hp,hq,d,rfl⟩:=yR h;obtain⟨_,_,h3,a,rfl,_⟩:=lO hp;obtain⟨_,_,b,c,rfl,_⟩:=lO hq;all_goals grind [Rat.divInt_mul_divInt,Rat.num_divInt_den,wI]
def JX{x y:Rat}(hf:fitM x y):mulW (some x) (some y)=some (x*y):=by
 obtain⟨f1,f2⟩:=hf;obtain⟨c,a⟩:=oC x.num (cT y);obtain⟨d,b⟩:=oC y.num (cT x);rw[zsa] at a b;have e:=wI x y;simp only[mulW,JU];generalize Rat.divInt x.num y.den=P at *;generalize Rat.divInt y.num x.den=Q at *;have i1:In (P.num*Q.num):=aX.2 (by rw[zLa];exact zNa (z9a c d) f1)
 have i2:In ((P.den:Int)*Q.den):=aX.2 (by rw[<-zYa,zsa];exact zNa (z9a a b) (by rw[zRa];exact f2))
 rw[ju i1,ju i2];simp only[lK];rw[zia (z8b (cT P) (cT Q)),<-zOb,zEb,zEb,e]
def SM(n:Nat):cA (n+1) 139 [nF]=some (.bool true):=by
 rw[Ub];delta H4 qG qB qC qT qN qZ iL iR Jn;refine bR (λi s=>s=[.bool true,I (i:Int)]) 16 0 (zqa _) rfl (λi b s a=>?_) (λs a=>?_)
 ·subst a;left;refine⟨_,?_,rfl⟩;refine aa am (aa ac (aK (by show(i:Int)<16;omega) (aa ac (aa (z:=true) ?_ (aa (aC (aL (i:=i) j1)) rfl)))))
  rw[zja rfl];refine aa (aq b) (aa (z:=.int .u32 0) ?_ rfl);have c:D.get nF [2,i]=D.get (LM 0) [i]:=rfl;rw[c,bI _ b,lw]
 ·subst a;refine⟨(0,[.bool true]),aa am (aa ac (aO j2 rfl)),?_⟩
  exact j0 (.bool true) (j0 true (dT (j0 true (j0 true rfl))))
def uF(n:Nat){a:Option Int}(b:pF a):cA (n+2) 76 [cZ a]=some (.bool a.isSome):=by
 cases a with
 | some x=>exact sa n b.some
 | none=>rw[u76];delta Sr qG qT;exact aa (SM n) (j0 true (j0 false rfl))
def Gt(n:Nat){a:Option Int}(c:pF a):∃ w b,cA (n+3) 124 [cZ a]=some (.tup [I w,.bool b])/\(b=true->a.isSome=true):=by
 cases a with
 | some x=> obtain⟨w,b,h,_⟩:=rV n c.some;exact⟨w,b,h,λ_=>rfl⟩
 | none=>
  refine⟨0,false,?_,λh=>by cases h⟩
  rw[RB];delta Gu qG qB qC qT qN qZ iL iR Jn;exact aa (uF n c) (j0 (.bool true) (j0 true (j0 true (j0 true rfl))))
def AF{n f:Nat}{a b:Option Int}{e:Option Int->D}(h:(a.isSome&&b.isSome)=false)(c:cA n f [e b]=some (.bool b.isSome)) :
  (if(!a.isSome)=true then some true else (cA n f [e b]).bind λr=>(afB .not r).bind λx=>D.truth x)=some true:=by
 cases hA:a.isSome with
 | false=>rfl
 | true=>
  rw[hA] at h;have:b.isSome=false:=by simpa using h
  rw[zia j2,c,this];rfl
def Tk(n:Nat){a b:Option Int}(f:pF a)(g:pF b):cA (n+4) 59 [cZ a,cZ b]=some (cZ (uA a b)):=by
 rcases fN (a:=a) (b:=b) with h|⟨x,y,rfl,rfl⟩
 ·have e:uA a b=none:=by cases a<;>cases b<;>simp at h<;>rfl
  rw[e,u59];delta RQ qG qB qT qN;obtain⟨w1,c,h1,k⟩:=Gt n f;obtain⟨j,d,h2,l⟩:=Gt n g;have i:(c&&d)=false:=by all_goals grind
  refine aa h1 (j0 (I w1) (j0 (.bool c) (aa h2 (j0 (I j) (j0 (.bool d) (j0 c (aa (z:=false) (by cases c<;>cases d<;>simp at i<;>rfl) (j0 false ?_))))))))
  rw[zia j2]
  refine aa (uF (n+1) f) (aa aV (aa ac (aa (AF h (uF (n+1) g)) (j0 true (dT (aa (IB (n+2)) rfl))))))
 ·exact ZY n f.some g.some
def Z6(n:Nat){a b:Option Int}(f:pF a)(g:pF b):cA (n+4) 89 [cZ a,cZ b]=some (cZ (mI a b)):=by
 rcases fN (a:=a) (b:=b) with h|⟨x,y,rfl,rfl⟩
 ·have e:mI a b=none:=by cases a<;>cases b<;>simp at h<;>rfl
  rw[e,u89];delta RT qG qB qT qN;obtain⟨w1,c,h1,k⟩:=Gt n f;obtain⟨j,d,h2,l⟩:=Gt n g;have i:(c&&d)=false:=by all_goals grind
  refine aa h1 (j0 (I w1) (j0 (.bool c) (aa h2 (j0 (I j) (j0 (.bool d) (j0 c (aa (z:=false) (by cases c<;>cases d<;>simp at i<;>rfl) (j0 false (j0 false (j0 false (j0 false (j0 false ?_))))))))))))
  rw[zia j2]
  refine aa (uF (n+1) f) (aa aV (aa ac (aa (AF h (uF (n+1) g)) (j0 true (dT (aa (IB (n+2)) rfl))))))
 ·exact Z7 n f.some g.some
def Tn(n:Nat):cA (n+5) 84 []=some Ir:=by rw[u84];unfold UY;exact aa (IB (n+3)) (aa (Qh n) rfl)
def S5(n:Nat){a b:Option Int}(f:pF a)(c:pF b):cA (n+6) 37 [cZ a,cZ b]=some (a7 (lK a b)):=by
 rcases fN (a:=a) (b:=b) with h|⟨x,d,rfl,rfl⟩
 ·have e:lK a b=none:=by cases a<;>cases b<;>simp at h<;>rfl
  rw[e,u37];delta RO qC qT qN Jn;exact aa (uF (n+3) f) (aa aV (aa ac (aa (AF h (uF (n+3) c)) (j0 true (j0 true (j0 true (dT (aa (Tn n) rfl))))))))
 ·by_cases hd:d=0
  ·subst hd;rw[u37];delta RO qC qT qN Jn;refine aa (uF (n+3) f) (aa aV (j0 false (aa (z:=false) ?_ (j0 false (aa (z:=true) ?_ (j0 true (dT (aa (Tn n) rfl))))))))
   ·rw[zia j2];exact aa (uF (n+3) c) (aa aV rfl)
   ·rw[zia j2];exact aa (IN (n+2) c.some) rfl
  ·have e:lK (some x) (some d)=some (Rat.divInt x d):=by simp only[lK];rw[zia hd]
   rw[e];exact SZ (n+1) f.some c.some hd
def GI(n:Nat){x y:Int}(hx:In x)(hy:In y):cA (n+4) 89 [af x,af y]=some (cZ (mI (some x) (some y))):=Z6 n (a:=some x) (b:=some y) (aY hx) (aY hy)
def vw(n:Nat){a:Option Rat}(b:OW a):cA (n+5) 88 [a7 a]=some (.bool a.isSome):=by
 cases a with
 | some q=>exact c88 n b.some
 | none=> rw[u88];delta Sv qG qC qT qN Jn;exact j0 nF (aa (uF (n+2) (a:=none) fZ) (j0 (.bool true) (j0 true (j0 true (j0 true rfl)))))
def iM{a b:Option Rat}:(a.isSome&&b.isSome)=false\/∃ x y,a=some x/\b=some y:=by cases a<;>cases b<;>simp
def u7{n f:Nat}{a b:Option Rat}(h:(a.isSome&&b.isSome)=false)(c:cA n f [a7 b]=some (.bool b.isSome)) :
  (if(!a.isSome)=true then some true else (cA n f [a7 b]).bind λr=>(afB .not r).bind λx=>D.truth x)=some true:=by
 cases hA:a.isSome with
 | false=>rfl
 | true=>
  rw[hA] at h;have:b.isSome=false:=by simpa using h
  rw[zia j2,c,this];rfl
def Jj{x y:Rat}(hx:InR x):In ((Nat.gcd x.den y.den:Nat):Int):=nA.2 (zNa (Nat.gcd_le_left _ x.den_pos) (nA.1 hx.2))
def Qu(n:Nat){a b:Option Rat}(c:OW a)(d:OW b):cA (n+7) 40 [a7 a,a7 b]=some (a7 (addW a b)):=by
 rcases iM (a:=a) (b:=b) with h|⟨x,y,rfl,rfl⟩
 ·have e:addW a b=none:=by cases a<;>cases b<;>simp at h<;>rfl
  rw[e,u40];delta Se qG qT qN;exact aa (vw (n+1) c) (aa aV (aa ac (aa (u7 h (vw (n+1) d)) (j0 true (dT (aa (Tn (n+1)) rfl))))))
 ·have hx:=c.some;have hy:=d.some;rw[u40];delta Se qG qT qN;refine aa (vw (n+1) c) (aa aV (j0 false (aa (z:=false) ?_ (j0 false ?_))))
  ·rw[zia j2];exact aa (vw (n+1) d) (aa aV rfl)
  rw[zia j2]
  obtain⟨g,p,q,f,l,hp,hq,m,o,k,eq⟩:=De x y;have i:=Jj (y:=y) hx;have g0:((Nat.gcd x.den y.den:Nat):Int)≠0:=by rw[<-f];omega
  have h1:=QD (n+2) hx.2 hy.2;rw[zsa,zsa] at h1;have h2:=NO (n+2) hx.2 i g0 ⟨p,by rw[<-f,hp,zYa]⟩
  have h3:=NO (n+2) hy.2 i g0 ⟨q,by rw[<-f,hq,zYa]⟩
  have ip:=jk hx.2 ((Nat.gcd x.den y.den:Nat):Int);have j:=jk hy.2 ((Nat.gcd x.den y.den:Nat):Int);refine j0 (af (x.den:Int)) (j0 (af (y.den:Int)) (aa h1 ?_));refine j0 (af (x.den:Int)) (aa h2 (j0 (af (y.den:Int)) (aa h3 (j0 (af x.num) (aa (GI (n+2) hx.1 j) (j0 (af y.num) (aa (GI (n+2) hy.1 ip) (aa (Tk (n+2) (gk _ _) (gk _ _)) (j0 (af (y.den:Int)) (aa (GI (n+2) ip hy.2) ?_))))))))));exact aa (S5 n (uO _ _) (gk _ _)) rfl
def ru{x d:Int}(h:d≠0):lK (some x) (some d)=some (Rat.divInt x d):=by simp only[lK];rw[zia h]
def Qr(n:Nat){a b:Option Rat}(c:OW a)(d:OW b):cA (n+7) 38 [a7 a,a7 b]=some (a7 (mulW a b)):=by
 rcases iM (a:=a) (b:=b) with h|⟨x,y,rfl,rfl⟩
 ·have e:mulW a b=none:=by cases a<;>cases b<;>simp at h<;>rfl
  rw[e,u38];delta Sd qG qT qN;exact aa (vw (n+1) c) (aa aV (aa ac (aa (u7 h (vw (n+1) d)) (j0 true (dT (aa (Tn (n+1)) rfl))))))
 ·have hx:=c.some;have hy:=d.some;rw[u38];delta Sd qG qT qN;refine aa (vw (n+1) c) (aa aV (j0 false (aa (z:=false) ?_ (j0 false ?_))))
  ·rw[zia j2];exact aa (vw (n+1) d) (aa aV rfl)
  rw[zia j2]
  have r1:=dh hx.1 hy.2 (cT y);have f:=dh hy.1 hx.2 (cT x);refine j0 (af x.num) (j0 (af (y.den:Int)) (aa (SZ (n+1) hx.1 hy.2 (cT y)) (j0 (af y.num) (j0 (af (x.den:Int)) (aa (SZ (n+1) hy.1 hx.2 (cT x)) ?_)))));simp only[mulW,JU];generalize Rat.divInt x.num y.den=P at *;generalize Rat.divInt y.num x.den=Q at *;refine j0 (af P.num) (j0 (af Q.num) (aa (GI (n+2) r1.1 f.1) (j0 (af (P.den:Int)) (j0 (af (Q.den:Int)) (aa (GI (n+2) r1.2 f.2) ?_)))));exact aa (S5 n (gk _ _) (gk _ _)) rfl
def Tm(n:Nat){a:Option Rat}(b:OW a):cA (n+6) 70 [a7 a]=some (a7 (D8 a)):=by
 cases a with
 | some q=>exact c70 n b.some
 | none=>rw[u70];delta Sq qG qN;exact aa (vw n b) (aa aV (j0 true (dT (aa (Tn n) rfl))))
def Qt(n:Nat){a b:Option Rat}(d:OW a)(c:OW b):cA (n+8) 39 [a7 a,a7 b]=some (a7 (A7 a b)):=by rw[u39];unfold UB;exact aa (Tm (n+1) c) (aa (Qu n d (u6 c)) rfl)
def ZE(n:Nat){q:Rat}(h:InR q):cA (n+1031) 357 [g8 q]=some (g8 (-q)):=by
 rw[Ui];delta Ib qG qN;refine aa (SL n h) (j0 (.bool false) (j0 false ?_));rw[zia j2]
 exact j0 (af q.num) (aa (z:=af (-q.num)) (QB (n+1027) (a:=some q.num) (λx hx=>by cases hx;exact h.1)) (j0 (af (q.den:Int)) rfl))
structure Way(P:List D)(z:Nat->Int):Prop where
 get:∀ i (h:i<P.length),D.get P[i] [0,2]=some (I (z i))
 le:∀ i,i<P.length->(z i).natAbs<=2^60
 len:P.length<=512
def By(n:Nat){a:Option Int}(b:pF a):cA (n+2) 128 [cZ a]=some (.bool a.isSome):=by
 cases a with
 | some x=>exact ID n b.some
 | none=>rw[T9];delta H2 qG qN;exact j0 (.bool true) (j0 (.bool false) (j0 false (j0 false rfl)))
def uE(n:Nat):cA (n+4) 130 []=some Ir:=by rw[aaN];unfold LK;exact aa (zN (n+2)) (aa (IF n) rfl)
def GG(n:Nat){a b:Option Int}(f:pF a)(c:pF b):cA (n+1030) 62 [cZ a,cZ b]=some (a7 (lK a b)):=by
 rcases fN (a:=a) (b:=b) with h|⟨x,d,rfl,rfl⟩
 ·have e:lK a b=none:=by cases a<;>cases b<;>simp at h<;>rfl
  rw[e,u62];delta RR qC qT qN Jn;exact aa (By (n+1027) f) (aa aV (aa ac (aa (AF h (By (n+1027) c)) (j0 true (j0 true (j0 true (dT (aa (uE (n+1025)) rfl))))))))
 ·by_cases hd:d=0
  ·subst hd;rw[u62];delta RR qC qT qN Jn;refine aa (By (n+1027) f) (aa aV (j0 false (aa (z:=false) ?_ (j0 false (aa (z:=true) ?_ (j0 true (dT (aa (uE (n+1025)) rfl))))))))
   ·rw[zia j2];exact aa (By (n+1027) c) (aa aV rfl)
   ·rw[zia j2];exact aa (sJ (n+1026) c.some) rfl
  ·rw[ru hd];exact QA n f.some c.some hd
def IL(n:Nat){x y:Int}(hx:In x)(hy:In y):cA (n+3) 61 [af x,af y]=some (cZ (mI (some x) (some y))):=c61 n (a:=some x) (b:=some y) (aY hx) (aY hy)
def ZZ(n:Nat){x d:Int}(hx:In x)(c:In d):cA (n+1030) 62 [af x,af d]=some (a7 (lK (some x) (some d))):=GG n (a:=some x) (b:=some d) (aY hx) (aY c)
def gC(n:Nat){a:Option Rat}(b:OW a):cA (n+1030) 136 [a7 a]=some (.bool a.isSome):=by
 cases a with
 | some q=>exact SL n b.some
 | none=> rw[Ua];delta H3 qG qB qT Jn;exact j0 nF (aa (By (n+1027) (a:=none) fZ) (j0 false (j0 false (j0 false (j0 false (j0 false (j0 false rfl)))))))
def BA(n:Nat){a b:Option Rat}(c:OW a)(d:OW b):cA (n+1031) 173 [a7 a,a7 b]=some (a7 (addW a b)):=by
 rcases iM (a:=a) (b:=b) with h|⟨x,y,rfl,rfl⟩
 ·have e:addW a b=none:=by cases a<;>cases b<;>simp at h<;>rfl
  rw[e,Ue];delta H7 qG qT qN;exact aa (gC n c) (aa aV (aa ac (aa (u7 h (gC n d)) (j0 true (dT (aa (uE (n+1026)) rfl))))))
 ·have hx:=c.some;have hy:=d.some;rw[Ue];delta H7 qG qT qN;refine aa (gC n c) (aa aV (j0 false (aa (z:=false) ?_ (j0 false ?_))))
  ·rw[zia j2];exact aa (gC n d) (aa aV rfl)
  rw[zia j2]
  obtain⟨g,p,q,f,l,hp,hq,m,o,k,eq⟩:=De x y;have i:=Jj (y:=y) hx;have g0:((Nat.gcd x.den y.den:Nat):Int)≠0:=by rw[<-f];omega
  have h1:=GE (n+1) hx.2 hy.2;rw[zsa,zsa] at h1;have h2:=Dz (n+1024) hx.2 i g0 ⟨p,by rw[<-f,hp,zYa]⟩
  have h3:=Dz (n+1024) hy.2 i g0 ⟨q,by rw[<-f,hq,zYa]⟩
  have ip:=jk hx.2 ((Nat.gcd x.den y.den:Nat):Int);have j:=jk hy.2 ((Nat.gcd x.den y.den:Nat):Int);refine j0 (af (x.den:Int)) (j0 (af (y.den:Int)) (aa h1 ?_));refine j0 (af (x.den:Int)) (aa h2 (j0 (af (y.den:Int)) (aa h3 (j0 (af x.num) (aa (IL (n+1027) hx.1 j) (j0 (af y.num) (aa (IL (n+1027) hy.1 ip) (aa (c57 (n+1026) (gk _ _) (gk _ _)) (j0 (af (y.den:Int)) (aa (IL (n+1027) ip hy.2) ?_))))))))));exact aa (GG n (uO _ _) (gk _ _)) rfl
def E4(n:Nat){a b:Option Rat}(f:OW a)(g:OW b):cA (n+1031) 174 [a7 a,a7 b]=some (a7 (mulW a b)):=by
 rcases iM (a:=a) (b:=b) with h|⟨x,y,rfl,rfl⟩
 ·have e:mulW a b=none:=by cases a<;>cases b<;>simp at h<;>rfl
  rw[e,Uf];delta H8 qG qT qN;exact aa (gC n f) (aa aV (aa ac (aa (u7 h (gC n g)) (j0 true (dT (aa (uE (n+1026)) rfl))))))
 ·have hx:=f.some;have hy:=g.some;rw[Uf];delta H8 qG qT qN;refine aa (gC n f) (aa aV (j0 false (aa (z:=false) ?_ (j0 false ?_))))
  ·rw[zia j2];exact aa (gC n g) (aa aV rfl)
  rw[zia j2]
  obtain⟨v1,v2⟩:=z8 x.num (cT y);obtain⟨w1,j⟩:=z8 y.num (cT x);rw[zsa] at v2 j;have r1:=dh hx.1 hy.2 (cT y);have i:=dh hy.1 hx.2 (cT x);refine j0 (af x.num) (j0 (af (y.den:Int)) (aa (QA n hx.1 hy.2 (cT y)) (j0 (af y.num) (j0 (af (x.den:Int)) (aa (QA n hy.1 hx.2 (cT x)) ?_)))));simp only[mulW,JU];generalize Rat.divInt x.num y.den=P at *;generalize Rat.divInt y.num x.den=Q at *;refine j0 (af P.num) (j0 (af Q.num) (aa (IL (n+1027) r1.1 i.1) (j0 (af (P.den:Int)) (j0 (af (Q.den:Int)) (aa (IL (n+1027) r1.2 i.2) ?_)))));have c:0<(P.den:Int)*Q.den:=by have:=Nat.mul_pos P.den_pos Q.den_pos;rw[<-zYa];omega
  have c1:Nat.Coprime P.num.natAbs P.den:=P.reduced;have c2:Nat.Coprime Q.num.natAbs Q.den:=Q.reduced;have k:Nat.Coprime P.num.natAbs Q.den:=Nat.Coprime.coprime_dvd_left v1 (Nat.Coprime.coprime_dvd_right j x.reduced);have l:Nat.Coprime Q.num.natAbs P.den:=Nat.Coprime.coprime_dvd_left w1 (Nat.Coprime.coprime_dvd_right v2 y.reduced);have d:Nat.gcd (P.num*Q.num).natAbs ((P.den:Int)*Q.den).natAbs=1:=by rw[zLa,<-zYa,zsa];exact Nat.Coprime.mul_left (Nat.Coprime.mul_right c1 k) (Nat.Coprime.mul_right l c2)
  obtain⟨m,z2⟩:=DI c d;simp only[mI,eN];by_cases t1:(P.num*Q.num).natAbs<eY
  ·rw[zja t1];by_cases t2:((P.den:Int)*Q.den).natAbs<eY
   ·rw[zja t2];refine j0 (.bool false) (j0 false (aa (z:=false) ?_ (j0 false ?_)))
    ·rw[zia j2]
     exact j0 (.bool false) rfl
    rw[zia j2,ru j1]
    show some (D.st [af (P.num*Q.num),af ((P.den:Int)*Q.den)])=some (D.st [af (Rat.divInt (P.num*Q.num) ((P.den:Int)*Q.den)).num,af ((Rat.divInt (P.num*Q.num) ((P.den:Int)*Q.den)).den:Int)]);rw[m,z2]
   ·rw[zia t2];refine j0 (.bool false) (j0 false (aa (z:=true) ?_ (j0 true (dT (aa (uE (n+1026)) rfl)))));rw[zia j2]
    exact j0 (.bool true) rfl
  ·rw[zia t1];exact j0 (.bool true) (j0 true (j0 true (j0 true (dT (aa (uE (n+1026)) rfl)))))
def II(n:Nat){a:Option Rat}(b:OW a):cA (n+1031) 357 [a7 a]=some (a7 (D8 a)):=by
 cases a with
 | some q=>exact ZE n b.some
 | none=>rw[Ui];delta Ib qG qN;exact aa (gC n b) (aa aV (j0 true (dT (aa (uE (n+1026)) rfl))))
def Pj(n:Nat){a b:Option Rat}(d:OW a)(c:OW b):cA (n+1032) 336 [a7 a,a7 b]=some (a7 (A7 a b)):=by rw[abp];unfold Mv;exact aa (II n c) (aa (BA n d (u6 c)) rfl)
def IH(n:Nat){a b:Option Rat}(d:OW a)(c:OW b):cA (n+1032) 352 [a7 a,a7 b]=some (a7 (vN a b)):=by
 rw[abx];delta MD qG qN;cases b with
 | none=>exact aa (gC (n+1) c) (aa aV (j0 true (dT (aa (uE (n+1027)) rfl))))
 | some y=>
  refine aa (gC (n+1) c) (aa aV (j0 false ?_));rw[zia j2]
  exact j0 (af (y.den:Int)) (j0 (af y.num) (aa (ZZ (n+1) c.some.2 c.some.1) (aa (E4 n d (At (aY c.some.2) (aY c.some.1))) rfl)))
def C6:Option Rat->Int
 | some q=>sg q.num
 | none=>0
def Qo(n:Nat){a:Option Rat}(h:OW a):cA (n+1031) 342 [a7 a]=some (I (C6 a)):=by
 rw[abr];delta Mx qG qN Jn;cases a with
 | none=>exact aa (gC n h) (aa aV (j0 true (dT rfl)))
 | some q=>
  refine aa (gC n h) (aa aV (j0 false ?_));rw[zia j2]
  exact j0 (af q.num) (aa (sJ (n+1027) h.some.1) rfl)
theorem wC{body:Bd}{m:Nat}{r0:List D}(ok:Nat->Bool)(h:∀ i,i<m->body [I (i:Int)]=some (if ok i then .inl [I ((i+1:Nat):Int)] else .inr (0,r0)))(he:body [I (m:Int)]=some (.inr (1,[]))) :
  ∀ d j,j+d=m->aU body [I (j:Int)]=some (if((List.range d).all λt=>ok (j+t)) then(1,[]) else(0,r0))
 | 0,j,b=>by
  have b:j=m:=j1
  subst b;exact(de he:aU body [I (j:Int)]=some (1,[]))
 | d+1,j,b=>by
  have ih:=wC ok h he d (j+1) j1
  have a:=h j j1
  rw[List.range_succ_eq_map];simp only[z1b,List.all_map,zjc,Function.comp_def];cases hok:ok j with
  | false=> rw[hok] at a;exact(de a:aU body [I (j:Int)]=some (0,r0))
  | true=> rw[hok] at a;rw[show aU body [I (j:Int)]=aU body [I ((j+1:Nat):Int)] from dq a,ih];simp only[zqb,Nat.succ_eq_add_one,zVb,z4c 1]
def pd(m:Int)(x:Int):Bool:=decide (-m<x)&&decide (x<m)
def aJ(v:V)(i:Nat):Int:=if i=0 then v.x else if i=1 then v.y else v.z
def B5{v:V}{i:Nat}(h:i<3):D.get (ae v) [i]=some (I (aJ v i)):=by
 have:i=0\/i=1\/i=2:=j1
 rcases this with rfl|rfl|rfl<;>rfl
def ZF(n:Nat){a b:Int}(c:a.natAbs<=9223372036854775807)(d:b.natAbs<=9223372036854775807):cA (n+1) 364 [I a,I b]=some (I (Nat.gcd a.natAbs b.natAbs:Nat)):=by rw[aby,show ME aU (cA n) (I a) (I b)=H6 aU (cA n) (I a) (I b) from rfl,<-Ud];exact Qj n c d
def ZG(n:Nat)(a:Int):cA (n+1) 365 [I a]=some (I (sg a)):=by
 rw[abz];delta MF qC Jn;refine aa am (aa ac ?_);by_cases h:a<0
 ·refine aK h ?_;rw[show sg a=-1 by unfold sg;rw[zja h]]
 ·refine aO h ?_;by_cases h0:0<a
  ·rw[show sg a=1 by unfold sg;rw[zia h,zja h0]]
   have e:D.min2 (I a) (I 1)=some (I 1):=by
    simp only[D.min2];split
    ·rfl
    ·rw[show a=1 by omega]
   exact aa e rfl
  ·have b:a=0:=j1
   subst b;rfl
def gZ(q:Nat->Int):D:=.st [I (q 0),I (q 1),I (q 2),I (q 3)]
def yy{q:Nat->Int}{i:Nat}(h:i<4):D.get (gZ q) [i]=some (I (q i)):=by
 have:i=0\/i=1\/i=2\/i=3:=j1
 rcases this with rfl|rfl|rfl|rfl<;>rfl
def G4(q:Nat->Int):Bool:=(List.range 4).all λt=>pd 65 (q (0+t))
def FG{q:Nat->Int}(h:G4 q=true):∀ i,i<4->(q i).natAbs<=64:=by intro i a;have:=zDa.1 h i (z0a.2 a);simp only[pd,zaa,zfa,zfb] at this;omega
def ZC(n:Nat)(q:Nat->Int):cA (n+1) 348 [gZ q]=some (.bool (G4 q)):=by
 rw[abv];delta MB qB qC qT qJ qZ iL iR Jn;refine nV (r:=if G4 q then(1,[]) else(0,[.bool false])) (wC (m:=4) (λi=>pd 65 (q i)) (λi d=>?_) ?_ 4 0 rfl) ?_
 ·have c:D.idx (I (i:Int)) 4=some i:=aq d;refine aa am (aa ac (aK (by show(i:Int)<4;omega) ?_))
  have hx:=yy (q:=q) d;refine aa c (aa hx ?_);generalize q i=x at *;by_cases h1:x>64
  ·have e:pd 65 x=false:=by simp[pd];omega
   refine aa (z:=.bool true) (by simp[afn,h1]) (j0 true (j0 true (j0 true ?_)))
   rw[zja rfl,e];rfl
  ·refine aa (z:=.bool false) (by simp[afn,h1]) (j0 false ?_)
   by_cases h2:x < -64
   ·have e:pd 65 x=false:=by simp[pd];omega
    refine aa (z:=true) ?_ (j0 true ?_)
    ·rw[zia j2]
     exact aa c (aa hx (aa (z:=.bool true) (by simp[afn,h2]) rfl))
    ·rw[zja rfl,e];rfl
   ·have e:pd 65 x=true:=by simp[pd];omega
    refine aa (z:=false) ?_ (j0 false ?_)
    ·rw[zia j2]
     exact aa c (aa hx (aa (z:=.bool false) (by simp[afn,h2]) rfl))
    ·rw[zia j2,e]
     exact aa (aH (a:=i) (b:=1) j1) rfl
 ·exact aa am (aa ac (aO j2 rfl))
 ·cases G4 q<;>rfl
def Rf{body:Bd}{s0:List D}{k:Nat×List D->Option D}{Q:D->Prop}(h:∃ r,aU body s0=some r/\∃ y,k r=some y/\Q y):∃ y,(aU body s0).bind k=some y/\Q y:=by obtain⟨r,h1,y,h2,h3⟩:=h;exact⟨y,nV h1 h2,h3⟩
def dV{α β:Type}{A:Option α}{g:α->Option β}{Q:β->Prop}{z:α}(h:A=some z)(hk:∃ y,g z=some y/\Q y):∃ y,Option.bind A g=some y/\Q y:=by subst h;exact hk
theorem Tr{body:Bd}{q:Nat->Int}(h1:∀ (g s:Int) (k:Nat),k<4->0<=g->g<=64->s.natAbs<=1->∃ a s':Int,body [I g,I s,I (k:Int)]=some (.inl [I a,I s',I ((k:Int)-1)])/\0<=a/\a<=64/\s'.natAbs<=1/\(s'≠0->s≠0\/q k≠0))
  (h2:∀ g s:Int,body [I g,I s,I (-1)]=some (.inr (0,[I g,I s]))):∀ (c:Nat),c<=4->∀ g s:Int,0<=g->g<=64->s.natAbs<=1->(s≠0->∃ i,i<4/\q i≠0) ->
   ∃ a s':Int,aU body [I g,I s,I ((c:Int)-1)]=some (0,[I a,I s'])/\0<=a/\a<=64/\s'.natAbs<=1/\(s'≠0->∃ i,i<4/\q i≠0)
 | 0,_,g,s,g0,g1,s1,b=>⟨g,s,de (h2 g s),g0,g1,s1,b⟩
 | c+1,hc,g,s,g0,g1,s1,b=>by
  obtain⟨a,s',f,j,l,m,n⟩:=h1 g s c j1 g0 g1 s1
  obtain⟨g2,s2,d,e⟩:=Tr h1 h2 c j1 a s' j l m (λh=>(n h).elim b (λh=>⟨c,j1,h⟩))
  refine⟨g2,s2,?_,e⟩;rw[show(((c+1:Nat):Int)-1)=(c:Int) by omega]
  exact(dq f).trans d
def Tq{body:Bd}{q:Nat->Int}{k:Nat×List D->Option D}{Q:D->Prop}(h1:∀ (g s:Int) (k:Nat),k<4->0<=g->g<=64->s.natAbs<=1->∃ a s':Int,body [I g,I s,I (k:Int)]=some (.inl [I a,I s',I ((k:Int)-1)])/\0<=a/\a<=64/\s'.natAbs<=1/\(s'≠0->s≠0\/q k≠0))
  (h2:∀ g s:Int,body [I g,I s,I (-1)]=some (.inr (0,[I g,I s]))) (h3:∀ g s:Int,0<=g->g<=64->s.natAbs<=1->(s≠0->∃ i,i<4/\q i≠0)->∃ y,k (0,[I g,I s])=some y/\Q y):∃ y,(aU body [I 0,I 0,I 3]).bind k=some y/\Q y:=by
 obtain⟨g,s,e,g0,g1,s1,b⟩:=Tr h1 h2 4 (zka _) 0 0 j2 j2 j2 (λh=>z4a rfl h)
 exact Rf ⟨_,e,h3 g s g0 g1 s1 b⟩
def ZD(n:Nat){q:Nat->Int}(hq:∀ i,i<4->(q i).natAbs<=64):∃ r,cA (n+2) 349 [gZ q]=some r/\∃ y b,r=.tup [y,.bool b]/\(b=true->∃ i,i<4/\q i≠0):=by
 rw[abw];delta MC qG qB qC qT qJ qZ iL iR Jn;refine Tq (q:=q) (λg s k hk g0 g1 s1=>?_) (λg s=>j0 (.bool false) (j0 false rfl)) (λg s g0 g1 s1 p=>?_)
 ·have c:D.idx (I (k:Int)) 4=some k:=aq hk;have hx:=yy (q:=q) hk;have d:=hq k hk;have o:=ZF (n) (a:=g) (b:=q k) j1 j1
  have m:Nat.gcd g.natAbs (q k).natAbs<=64:=s9 j1 d
  refine⟨((Nat.gcd g.natAbs (q k).natAbs:Nat):Int),if q k=0 then s else sg (q k),aa (z:=.bool true) (by simp[afn]) (j0 true (dT (aa (z:=(0,[I ((Nat.gcd g.natAbs (q k).natAbs:Nat):Int),I (if q k=0 then s else sg (q k))])) (aa c (aa hx (aa o (aa c (aa hx ?_))))) (aa (z:=I ((k:Int)-1)) ?_ rfl)))),j1,j1,?_,?_⟩
  ·by_cases h:q k=0
   ·rw[h];exact j0 false rfl
   ·rw[zia h];refine aa (z:=true) (by rw[bY];simp[h,D.truth]) (dT (aa c (aa hx (aa (ZG n (q k)) rfl))))
  ·have:k=0\/k=1\/k=2\/k=3:=j1
   rcases this with rfl|rfl|rfl|rfl<;>rfl
  ·split
   ·exact s1
   ·unfold sg;split<;>(try split)<;>decide
  ·intro h;by_cases h0:q k=0
   ·left;rw[zja h0] at h;exact h
   ·exact .inr h0
 ·have ms:(s*g).natAbs<=64:=by
   have:=z9a s1 (show g.natAbs<=64 by omega)
   rwa [<-zLa,zGc] at this
  refine dV (ou (a:=g) (by simp only[inR];omega)) (dV (z:=I g) ((FK (a:=g) (b:=-g)).trans (by congr 2;omega)) (dV (bK (a:=s) (b:=g) (by simp only[inR];omega)) ?_))
  by_cases h:s*g=0
  ·rw[h];exact dV (z:=true) rfl ⟨_,rfl,_,false,rfl,λh=>by cases h⟩
  ·have hs:s≠0:=λh0=>h (by rw[h0,z5b])
   refine dV (z:=false) (by rw[bY,zca h];rfl) ?_
   have qq:∀ x:Int,∃ z,afn .quo (I x) (I (s*g))=some z:=λx=>⟨D.int .i64 (IntKind.i64.wrap (x.tdiv (s*g))),by simp only[afn,if_true,zia h]⟩
   obtain⟨z0,e⟩:=qq (q 0);obtain⟨t,f⟩:=qq (q 1);obtain⟨z2,j⟩:=qq (q 2);obtain⟨z3,l⟩:=qq (q 3);rw[zia j2]
   exact dV (yy (i:=0) j2) (dV e (dV (yy (i:=1) j2) (dV f (dV (yy (i:=2) j2) (dV j (dV (yy (i:=3) j2) (dV l ⟨_,rfl,_,true,rfl,λ_=>p hs⟩)))))))
def ZB(n:Nat)(q:Nat->Int):∃ v:Bool,cA (n+3) 331 [gZ q]=some (.bool v)/\(v=true->G4 q=true/\∃ i,i<4/\q i≠0):=by
 rw[abn];delta Mt qT qN;have a:=ZC (n+1) q;cases hl:G4 q with
 | false=> rw[hl] at a;exact⟨false,aa a (j0 (.bool true) (j0 true (dT rfl))),λh=>by cases h⟩
 | true=>
  rw[hl] at a;obtain⟨r,h1,y,b,rfl,h2⟩:=ZD n (FG hl);cases b with
  | false=>
   refine⟨false,aa a (j0 (.bool false) (j0 false ?_)),λh=>by cases h⟩
   rw[zia j2]
   exact aa h1 (j0 y (j0 (.bool false) (j0 false (j0 false rfl))))
  | true=>
   refine⟨D.beq y (gZ q),aa a (j0 (.bool false) (j0 false ?_)),λ_=>⟨rfl,h2 rfl⟩⟩;rw[zia j2]
   exact aa h1 (j0 y (j0 (.bool true) (j0 true (aa (z:=D.beq y (gZ q)) (dT rfl) rfl))))
def cL(x:V)(q:Nat->Int):D:=.st [ae x,gZ q]
structure Bdy where
 nm:ByteArray
 P:List (List V)
 m0:Int
 m1:Int
 r0:Int
 r1:Int
def NV{v:V}{k:Int}(h:∀ t,t<3->aJ v t<=k/\-k<=aJ v t):bd k v:=by
 have a:=h 0 j2;have b:=h 1 j2;have c:=h 2 j2
 simp only[aJ,if_true,if_false,Nat.one_ne_zero,Nat.reduceEqDiff] at a b c;exact⟨⟨a.2,a.1⟩,⟨b.2,b.1⟩,⟨c.2,c.1⟩⟩
def qR{v:V}{i:Nat}(h:i<3):D.fld (ae v) i=some (I (aJ v i)):=by
 have:i=0\/i=1\/i=2:=j1
 rcases this with rfl|rfl|rfl<;>rfl
structure Hul(l:List V):Prop where
 len:l.length<=64
 bd:∀ x∈l,bd MV x
 srt:Ij l
 vtx:∀ k,k<l.length->HR (pt l) l.length k
 ex:∃ m d,IsF (pt l) l.length m d
def Zq(n:Nat){l:List V}(h:l.length<=100):(∃ e:Int,cA (n+9) 15 [cl l]=some (I e)/\e≠0)\/(cA (n+9) 15 [cl l]=some (I 0)/\Hul l):=by
 rcases c15 n (l:=l) h with⟨e,h1,h2⟩|⟨h1,h2,h3,F,a,c,_,b⟩
 ·exact .inl ⟨e,h1,h2⟩
 ·right;have d:=List.Pairwise.sublist (HI (fe l) F) (xj l);rw[b] at d;have hs:=KE d;rw[OT d] at a b;refine⟨h1,h2,h3,hs,λk hk=>?_,?_⟩
  ·refine Ju hs a.fok ?_;have e:=zna List.length b;unfold dQ at e;rw[zxa] at e;have g:((List.range l.length).filter (lD F)).length=(List.range l.length).length:=by rw[e,zxb]
   exact List.length_filter_eq_length_iff.1 g k (z0a.2 hk)
  ·obtain⟨f,hf⟩:∃ f,f∈F:=List.exists_mem_of_ne_nil F (λe=>c (by rw[e];rfl))
   exact⟨_,_,(a.fok.ok f hf).1⟩
def Hul.pos{l:List V}(h:Hul l):0<l.length:=by obtain⟨m,d,hF⟩:=h.ex;obtain⟨i,j,k,h1,h2,h3,_⟩:=hF.ex;omega
def Ve(p:List Nat)(a b i:Nat):Bool:=(decide (p.getD i 0=a)&&decide (p.getD ((i+1)%p.length) 0=b))||(decide (p.getD i 0=b)&&decide (p.getD ((i+1)%p.length) 0=a))
def isE(p:List Nat)(a b t:Nat):Bool:=(List.range t).any (Ve p a b)
def TF(F:FL)(a b:Nat):Bool:=F.any λf=>isE f.2 a b f.2.length
def Er(F:FL)(a b:Nat):List (Nat×Nat):=((List.range b).filter λc=>decide (a<c)&&TF F a c).map λc=>(a,c)
def uB(F:FL)(N a:Nat):List (Nat×Nat):=(List.range a).flatMap λa=>Er F a N
def Ku(F:FL)(a b:Nat):(Er F a b).length<=b:=by unfold Er;rw[zxa];exact zHa (zJc _ _) j3
def GA(F:FL)(N a:Nat):uB F N (a+1)=uB F N a++Er F a N:=by unfold uB;rw[zkc,List.flatMap_append];simp
def Bs(F:FL)(N a:Nat):(uB F N a).length<=a*N:=by
 induction a with
 | zero=>simp[uB]
 | succ a ih=>rw[GA,zwa,Nat.succ_mul];have:=Ku F a N;omega
def wE{F:FL}{N:Nat}{e:Nat×Nat}:e∈uB F N N↔e.1<N/\e.2<N/\e.1<e.2/\TF F e.1 e.2=true:=by
 obtain⟨a,b⟩:=e;simp only[uB,Er,zUa,z0a,zSa,zrb,zaa,zfa,Prod.mk.injEq];constructor
 ·rintro⟨c,hc,d,⟨g,h1,h2⟩,rfl,rfl⟩;exact⟨hc,g,h1,h2⟩
 ·rintro⟨h1,h2,h3,f⟩;exact⟨a,h1,b,⟨h2,h3,f⟩,rfl,rfl⟩
def Im(F:FL)(N:Nat):(uB F N N).Pairwise CK:=by
 unfold uB;rw[List.pairwise_flatMap];refine⟨λa _=>?_,?_⟩
 ·unfold Er;refine zyd.2 ((List.Pairwise.filter _ List.pairwise_lt_range).imp λh=>.inr ⟨rfl,h⟩)
 ·refine List.pairwise_lt_range.imp λ{a b} h x hx y hy=>?_;simp only[Er,zSa] at hx hy;obtain⟨c,_,rfl⟩:=hx;obtain⟨d,_,rfl⟩:=hy;exact .inl h
def lM(M:List (Nat×Nat)):(M.map jq).length=M.length:=zxa ..
def SE(n:Nat){l:List V}(hl:∀ x∈l,bd MV x)(hlen:l.length<=100)(hs:Ij l):∃ (F:FL) (E:List (Nat×Nat)),F.length<=2000000/\E.length<=10000/\KnF l l.length 0 0 F ∧
  cA (n+8) 18 [cl l]=some (.sl (aZ F))/\cA (n+8) 19 [cl l]=some (.sl (aZ F))/\cA (n+9) 21 [cl l]=some (.sl (E.map jq))/\E=uB F l.length l.length:=by
 obtain⟨F,hK,p⟩:=c48 n hl hlen hs;obtain⟨L,poly,hL,hP,u,h18⟩:=p18 (n+1) hl hlen hs;have c:=hK.fok;have t:=c.len hlen;have o:F.map Prod.fst=L:=Facets.eq hK.facets hL;have j:∀ f∈F,poly f.1=f.2:=λf hf=>by obtain⟨g,h⟩:=c.ok f hf;exact bU.eq hs g (hP f.1 (by rw[<-o];exact zSa.2 ⟨f,hf,rfl⟩)) h
 have H:(L.map λq=>oX q (poly q))=aZ F:=by rw[<-o,List.map_map];refine z2c λf hf=>?_;simp only[Function.comp_apply,j f hf]
 have h19:cA (n+8) 19 [cl l]=some (.sl (aZ F)):=by
  rw[u19]
  delta Ux qG
  exact j0 (bu l) (aa p rfl)
 obtain⟨E,D,G,h21⟩:=p21 (n+1) h18 u (λq hq=>by have k:=hq;rw[<-o] at k;obtain⟨f,hf,rfl⟩:=zSa.1 k;rw[j f hf];obtain⟨g,h⟩:=c.ok f hf;have:=CL hs g h;exact⟨j1,this.2.2.1⟩) (xW hs hL hP)
 have A:E=uB F l.length l.length:=by
  refine oS (r:=CK) (λa=>by simp only[CK];omega) (λa b=>by simp only[CK];omega) G (Im F l.length) λe=>?_
  obtain⟨a,b⟩:=e;rw[D.mem_iff,Do hs hL hP,wE];constructor
  ·rintro⟨h1,m,d,h2,h3⟩;have C:=(aD.1 h3.2.mem).1;have B:=(aD.1 h3.1).1;refine⟨B,C,h1,?_⟩;have hq:(m,d)∈F.map Prod.fst:=by rw[o];exact(hL.mem (m,d)).2 h2
   obtain⟨f,hf,v⟩:=zSa.1 hq;obtain⟨g,h⟩:=c.ok f hf;rw[v] at g h;obtain⟨i,i1,i2,i3⟩:=(afF hs g h).2 h3;refine z9b.2 ⟨f,hf,z9b.2 ⟨i,z0a.2 i1,?_⟩⟩;unfold Ve;rw[zha i2,zha i3];rfl
  ·rintro⟨B,C,h1,h2⟩;refine⟨h1,(vQ hs).1 ?_⟩;obtain⟨f,hf,h3⟩:=z9b.1 h2;obtain⟨i,i1,i2⟩:=z9b.1 h3;obtain⟨g,h⟩:=c.ok f hf;have i1:=z0a.1 i1;simp only[Ve,zmc,zaa,zfa] at i2;refine⟨f.1.1,f.1.2,g,?_⟩;rcases i2 with⟨w,y⟩|⟨w,y⟩
   ·exact .inl ((afF hs g h).1 ⟨i,i1,w,y⟩)
   ·exact .inr ((afF hs g h).1 ⟨i,i1,w,y⟩)
 have s:E.length<=10000:=by rw[A];exact zHa (Bs _ _ _) (z9a hlen hlen)
 rw[H] at h18;exact⟨F,E,t,s,hK,h18,h19,h21,A⟩
def kQ{k:Nat}{v:V}(h:bd (k:Int) v):v.x.natAbs<=k/\v.y.natAbs<=k/\v.z.natAbs<=k:=by unfold bd at h;omega
structure BOk(b:Bdy):Prop where
 one:1<=b.P.length
 few:b.P.length<=3
 vs:∀ l∈b.P,l.length<=10
 hul:∀ l∈b.P,Hul l
 bd:∀ l∈b.P,∀ x∈l,bd 4096 x
 m0:1<=b.m0
 m1:b.m0<=b.m1
 m2:b.m1<=1099511627776
def uf{body:Bd}{k:Nat×List D->Option D}{y:D}{l0:List D}(x:Nat->D)(h0:l0.length=3)
  (hs:∀ i:Nat,i<3->∀ l:List D,l.length=3->(∀ j:Nat,i<=j->l[j]?=l0[j]?)->body [I (i:Int),.st l]=some (.inl [I ((i+1:Nat):Int),.st (l.set i (x i))]))
  (he:∀ l,body [I ((3:Nat):Int),.st l]=some (.inr (0,[.st l]))) (hk:k (0,[.st [x 0,x 1,x 2]])=some y):(aU body [I ((0:Nat):Int),.st l0]).bind k=some y:=by
 match l0,h0 with
 | [a,b,c],_=>
 have s0:=hs 0 j2 [a,b,c] rfl (λj _=>rfl)
 have s1:=hs 1 j2 [x 0,b,c] rfl (λj d=>by cases j with|zero=>omega|succ j=>rfl)
 have s2:=hs 2 j2 [x 0,x 1,c] rfl (λj d=>by cases j with|zero=>omega|succ j=>cases j with|zero=>omega|succ j=>rfl)
 exact bg s0 (bg s1 (bg s2 (eJ (he _) hk)))
abbrev WV:=Nat->Option Rat
def a8(v:WV):D:=.st [a7 (v 0),a7 (v 1),a7 (v 2)]
def tR(v:WV):Prop:=∀ i,OW (v i)
def kq(v:V):WV:=λi=>some (aJ v i:Rat)
def kU{i:Nat}(h:i<3)(v:WV):D.get (a8 v) [i]=some (a7 (v i)):=by
 have:i=0\/i=1\/i=2:=j1
 rcases this with rfl|rfl|rfl<;>rfl
def tO{v:V}(h:∀ i,inR (aJ v i)):tR (kq v):=λi=>bS (tP (bC (h i)))
def jT{v:V}(h1:inR v.x)(h2:inR v.y)(h3:inR v.z)(i:Nat):inR (aJ v i):=by unfold aJ;split<;>(try split)<;>assumption
def E2(n:Nat){v:V}(h:∀ i,inR (aJ v i)):cA (n+1033) 135 [ae v]=some (a8 (kq v)):=Zi n (h 0) (h 1) (h 2)
def SV(n:Nat){v:V}(h:∀ i,inR (aJ v i)):cA (n+7) 31 [ae v]=some (a8 (kq v)):=c31 n (h 0) (h 1) (h 2)
def HN{a:Option Rat}(h:OW a):addW (some 0) a=a:=by
 cases a with
 | none=>rfl
 | some x=>
  have e:addW (some 0) (some x)=some (0+x):=Br ⟨by simpa using aX.1 h.some.1,by simpa using aX.1 h.some.2⟩
  rw[e,Rat.zero_add]
def pV(u v:WV):Option Rat:=addW (addW (mulW (u 0) (v 0)) (mulW (u 1) (v 1))) (mulW (u 2) (v 2))
def uZ(u v:WV):OW (pV u v):=kr _ _
def SK(n:Nat){u v:WV}(hu:tR u)(j:tR v):cA (n+1033) 134 [a8 u,a8 v]=some (a7 (pV u v)):=by
 rw[aaQ];delta LP qB qC qJ qZ iL iR Jn;refine aa (Pp n (dO 0)) ?_;have st:∀ i:Nat,i<3->∀ a,OW a->((afn .lss (List.getD [I (i:Int),a7 a] 0 (.bool false)) (D.int .i64 3)).bind λl=>(D.truth l).bind λg=>
   if g then((D.idx (List.getD [I (i:Int),a7 a] 0 (.bool false)) 3).bind λi5=>(D.get (a8 u) [i5]).bind λm=>(D.idx (List.getD [I (i:Int),a7 a] 0 (.bool false)) 3).bind λi7=>(D.get (a8 v) [i7]).bind λo=> (cA (n+1032) 174 [m,o]).bind λk=>(cA (n+1032) 173 [(List.getD [I (i:Int),a7 a] 1 (.bool false)),k]).bind λd=>(afn .add (List.getD [I (i:Int),a7 a] 0 (.bool false)) (D.int .i64 1)).bind λf=>some (Sum.inl [f,d]))
   else(some (Sum.inr ((0:Nat),[(List.getD [I (i:Int),a7 a] 1 (.bool false))]))))=some (Sum.inl [I ((i+1:Nat):Int),a7 (addW a (mulW (u i) (v i)))]):=λi c a h=>
  aa am (aa ac (aK (by show(i:Int)<3;omega) (aa (aq c) (aa (kU c u) (aa (aq c) (aa (kU c v) (aa (E4 (n+1) (hu i) (j i)) (aa (BA (n+1) h (mJ _ _)) (aa (aH (a:=i) (b:=1) j1) rfl)))))))))
 have z:OW (some (0:Rat)):=bS (tP (bC (dO 0)));have s0:=st 0 j2 (some 0) z
 have s1:=st 1 j2 (addW (some 0) (mulW (u 0) (v 0))) (kr _ _)
 have s2:=st 2 j2 (addW (addW (some 0) (mulW (u 0) (v 0))) (mulW (u 1) (v 1))) (kr _ _)
 have e:=HN (mJ (u 0) (v 0));unfold pV;rw[<-e];exact bg s0 (bg s1 (bg s2 (eJ (aa am (aa ac (aO j2 rfl))) rfl)))
def QC(n:Nat){u:V}{v:WV}(hu:∀ i,inR (aJ u i))(a:tR v):cA (n+1034) 72 [ae u,a8 v]=some (a7 (pV (kq u) v)):=by rw[u72];unfold UO;exact aa (E2 n hu) (aa (SK n (tO hu) a) rfl)
def ZL(n:Nat){u v:WV}(hu:tR u)(a:tR v):cA (n+8) 41 [a8 u,a8 v]=some (a7 (pV u v)):=by rw[u41];delta UC qG;exact aa (kU j2 u) (aa (kU j2 v) (aa (Qr n (hu 0) (a 0)) (aa (kU j2 u) (aa (kU j2 v) (aa (Qr n (hu 1) (a 1)) (aa (Qu n (mJ _ _) (mJ _ _)) (aa (kU j2 u) (aa (kU j2 v) (aa (Qr n (hu 2) (a 2)) (aa (Qu n (kr _ _) (mJ _ _)) rfl))))))))))
def SY(n:Nat){u:V}{v:WV}(hu:∀ i,inR (aJ u i))(a:tR v):cA (n+9) 340 [ae u,a8 v]=some (a7 (pV (kq u) v)):=by rw[abq];unfold Mw;exact aa (SV (n+1) hu) (aa (ZL n (tO hu) a) rfl)
def ui(u v:WV):WV:=λi=>addW (u i) (v i)
def Ke(u v:WV):tR (ui u v):=λi=>kr _ _
def og{l:List D}{i:Nat}{v:D}(h:i<l.length):D.set (.st l) [i] v=some (.st (l.set i v)):=by simp only[D.set,zda h,zba]
def Pm(n:Nat){u v:WV}(hu:tR u)(g:tR v):cA (n+1032) 371 [a8 u,a8 v]=some (a8 (ui u v)):=by
 rw[abB];delta MG qB qC qJ qZ iL iR Jn;refine uf (l0:=[a7 (u 0),a7 (u 1),a7 (u 2)]) (λi=>a7 (ui u v i)) rfl (λi c l hl f=>?_) (λl=>aa am (aa ac (aO j2 rfl))) rfl
 have d:D.get (.st l) [i]=some (a7 (u i)):=by
  have e:=f i (zka _);have:i=0\/i=1\/i=2:=j1
  rcases this with rfl|rfl|rfl<;>simp[D.get,D.fld,e]
 exact aa am (aa ac (aK (by show(i:Int)<3;omega) (aa (aq c) (aa d (aa (aq c) (aa (kU c v) (aa (BA n (hu i) (g i)) (aa (aq c) (aa (og j1) (aa (aH (a:=i) (b:=1) j1) rfl))))))))))
def SB(l:List D):Bd:=λ(v1:List D)=>
 (afn .add (gx v1 1) (D.int .i64 1)).bind λi=>(D.asSl (.sl l)).bind λh=>(afn .lss i (D.int .i64 (h.length))).bind λj=>(D.truth j).bind λg=>
 if g then((D.asSl (.sl l)).bind λf=>(D.idx (gx v1 1) (f.length)).bind λi7=>(f[i7]?).bind λk=>(afn .add (gx v1 1) (D.int .i64 1)).bind λm=>
  (D.asSl (.sl l)).bind λa=>(D.idx m (a.length)).bind λi11=>(a[i11]?).bind λb=>(afn .mul k b).bind λc=>(afn .add (gx v1 0) c).bind λd=>
  (afn .add (gx v1 1) (D.int .i64 2)).bind λe=>some (Sum.inl [d,e])) else(some (Sum.inr (0,[(gx v1 0)])))
def gU{l:List D}(k:Nat){s a b t:Int}(hl:l.length<=100)(d:l[k]?=some (I a))(c:l[k+1]?=some (I b))(h1:inR (a*b))(h2:inR (s+a*b))(ht:s+a*b=t):SB l [I s,I (k:Int)]=some (.inl [I t,I ((k+2:Nat):Int)]):=by have e:=(zra.1 c).1;subst ht;exact aa (aH (a:=k) (b:=1) j1) (j0 l (aa am (aa ac (aK (by show((k+1:Nat):Int)<(l.length:Int);omega) (j0 l (aa (aq j1) (aa d (aa (aH (a:=k) (b:=1) j1) (j0 l (aa (aq e) (aa c (aa (bK h1) (aa (aC h2) (aa (aH (a:=k) (b:=2) j1) rfl))))))))))))))
def A8{l:List D}(k:Nat){s:Int}(hl:l.length<=100)(hk:l.length=k):SB l [I s,I (k:Int)]=some (.inr (0,[I s])):=
 aa (aH (a:=k) (b:=1) j1) (j0 l (aa am (aa ac (aO (by show ¬ (((k+1:Nat):Int)<(l.length:Int));omega) rfl))))
def sK(n:Nat){a b c d:Int}(h1:inR (a*b))(h2:inR (c*d))(h3:inR (a*b+c*d)):cA (n+1) 394 [.sl [I a,I b,I c,I d]]=some (I (a*b+c*d)):=by rw[RE];delta Gy qB qX qL qZ iL iR Jn;exact bg (gU 0 (l:=[I a,I b,I c,I d]) (s:=0) (t:=a*b) j3 rfl rfl h1 (by rw[zCc];exact h1) (zCc _)) (bg (gU 2 j3 rfl rfl h2 h3 rfl) (eJ (A8 4 j3 rfl) rfl))
def IJ(n:Nat){a b c d e f:Int}(h1:inR (a*b))(h2:inR (c*d))(h3:inR (a*b+c*d))(g:inR (e*f))(h:inR (a*b+c*d+e*f)):cA (n+1) 394 [.sl [I a,I b,I c,I d,I e,I f]]=some (I (a*b+c*d+e*f)):=by rw[RE];delta Gy qB qX qL qZ iL iR Jn;exact bg (gU 0 (l:=[I a,I b,I c,I d,I e,I f]) (s:=0) (t:=a*b) j3 rfl rfl h1 (by rw[zCc];exact h1) (zCc _)) (bg (gU 2 j3 rfl rfl h2 h3 rfl) (bg (gU 4 j3 rfl rfl g h rfl) (eJ (A8 6 j3 rfl) rfl)))
def zQ(n:Nat){a b c d e f g h:Int}(h1:inR (a*b))(h2:inR (c*d))(h3:inR (a*b+c*d))(i:inR (e*f))(j:inR (a*b+c*d+e*f))(k:inR (g*h))(m:inR (a*b+c*d+e*f+g*h)) :
  cA (n+1) 394 [.sl [I a,I b,I c,I d,I e,I f,I g,I h]]=some (I (a*b+c*d+e*f+g*h)):=by
 rw[RE];delta Gy qB qX qL qZ iL iR Jn;exact bg (gU 0 (l:=[I a,I b,I c,I d,I e,I f,I g,I h]) (s:=0) (t:=a*b) j3 rfl rfl h1 (by rw[zCc];exact h1) (zCc _)) (bg (gU 2 j3 rfl rfl h2 h3 rfl) (bg (gU 4 j3 rfl rfl i j rfl) (bg (gU 6 j3 rfl rfl k m rfl) (eJ (A8 8 j3 rfl) rfl))))
def dY(q:Nat->Int):Nat->Int
 | 0=>q 0*q 0+q 1*q 1-q 2*q 2-q 3*q 3
 | 1=>2*(q 1*q 2-q 0*q 3)
 | 2=>2*(q 1*q 3+q 0*q 2)
 | 3=>2*(q 1*q 2+q 0*q 3)
 | 4=>q 0*q 0-q 1*q 1+q 2*q 2-q 3*q 3
 | 5=>2*(q 2*q 3-q 0*q 1)
 | 6=>2*(q 1*q 3-q 0*q 2)
 | 7=>2*(q 2*q 3+q 0*q 1)
 | _=>q 0*q 0-q 1*q 1-q 2*q 2+q 3*q 3
def I8(m:Nat->Int):D:=.st [I (m 0),I (m 1),I (m 2),I (m 3),I (m 4),I (m 5),I (m 6),I (m 7),I (m 8)]
def jg{k:Nat}(h:k<9)(m:Nat->Int):D.get (I8 m) [k]=some (I (m k)):=by
 match k,h with
 | 0,_=>rfl
 | 1,_=>rfl
 | 2,_=>rfl
 | 3,_=>rfl
 | 4,_=>rfl
 | 5,_=>rfl
 | 6,_=>rfl
 | 7,_=>rfl
 | 8,_=>rfl
 | k+9,h=>omega
def xY(q:Nat->Int):Prop:=∀ i,i<4->(q i).natAbs<=64
def qq{q:Nat->Int}(h:xY q){i j:Nat}(a:i<4)(b:j<4):-4096<=q i*q j/\q i*q j<=4096:=by
 have:(q i*q j).natAbs<=64*64:=by rw[zLa];exact z9a (h i a) (h j b)
 omega
def az{x:Int}(h:-4000000000<=x/\x<=4000000000):inR x:=by simp only[inR];omega
def eK{q:Nat->Int}(h:xY q)(k:Nat):-16384<=dY q k/\dY q k<=16384:=by
 have a:=qq h (i:=0) (j:=0) j2 j2;have e:=qq h (i:=1) (j:=1) j2 j2;have a22:=qq h (i:=2) (j:=2) j2 j2;have a33:=qq h (i:=3) (j:=3) j2 j2
 have b:=qq h (i:=0) (j:=1) j2 j2;have c:=qq h (i:=0) (j:=2) j2 j2;have d:=qq h (i:=0) (j:=3) j2 j2
 have a12:=qq h (i:=1) (j:=2) j2 j2;have f:=qq h (i:=1) (j:=3) j2 j2;have a23:=qq h (i:=2) (j:=3) j2 j2
 unfold dY;grind
def EV{a:Int}(h:inR (-a)):afB .neg (I a)=some (I (-a)):=by simp_all [afB,Int.zero_sub,jz]
def mZ{a b:Int}(c:2*a=b)(h:inR b):afn .mul (D.int .i64 2) (I a)=some (I b):=by subst c;exact bK h
def S8(n:Nat){q:Nat->Int}(h:xY q):cA (n+2) 393 [gZ q]=some (I8 (dY q)):=by
 have e:=qq h (i:=0) (j:=0) j2 j2;have l:=qq h (i:=1) (j:=1) j2 j2;have a22:=qq h (i:=2) (j:=2) j2 j2;have a33:=qq h (i:=3) (j:=3) j2 j2
 have f:=qq h (i:=0) (j:=1) j2 j2;have g:=qq h (i:=0) (j:=2) j2 j2;have k:=qq h (i:=0) (j:=3) j2 j2
 have a12:=qq h (i:=1) (j:=2) j2 j2;have o:=qq h (i:=1) (j:=3) j2 j2;have a23:=qq h (i:=2) (j:=3) j2 j2
 have h0:=h 0 j2;have h1:=h 1 j2;have h2:=h 2 j2;have h3:=h 3 j2
 have c:afB .neg (I (q 0))=some (I (-(q 0))):=EV (az j1)
 have n1:afB .neg (I (q 1))=some (I (-(q 1))):=EV (az j1)
 have n2:afB .neg (I (q 2))=some (I (-(q 2))):=EV (az j1)
 have d:afB .neg (I (q 3))=some (I (-(q 3))):=EV (az j1)
 have m:∀ a b:Int,-a*b=-(a*b):=λa b=>Int.neg_mul a b;rw[abH];delta MM qG qB Jn;refine j0 (I (q 0)) (j0 (I (q 1)) (j0 (I (q 2)) (j0 (I (q 3)) (aa n2 (aa d ?_)))));refine aa (zQ n (az j1) (az j1) (az j1) (az (by rw[m];omega)) (az (by rw[m];omega)) (az (by rw[m];omega)) (az (by rw[m,m];omega))) ?_
 refine aa c (aa (sK n (az j1) (az (by rw[m];omega)) (az (by rw[m];omega))) (aa (mZ (b:=dY q 1) (by show _=2*(q 1*q 2-q 0*q 3);rw[m];omega) (az (by have:=eK h 1;omega))) ?_))
 refine aa (sK n (az j1) (az j1) (az j1)) (aa (mZ (b:=dY q 2) rfl (az (by have:=eK h 2;omega))) ?_)
 refine aa (sK n (az j1) (az j1) (az j1)) (aa (mZ (b:=dY q 3) rfl (az (by have:=eK h 3;omega))) ?_)
 refine aa n1 (aa d (aa (zQ n (az j1) (az (by rw[m];omega)) (az (by rw[m];omega)) (az j1) (az (by rw[m];omega)) (az (by rw[m];omega)) (az (by rw[m,m];omega))) ?_))
 refine aa c (aa (sK n (az j1) (az (by rw[m];omega)) (az (by rw[m];omega))) (aa (mZ (b:=dY q 5) (by show _=2*(q 2*q 3-q 0*q 1);rw[m];omega) (az (by have:=eK h 5;omega))) ?_))
 refine aa c (aa (sK n (az j1) (az (by rw[m];omega)) (az (by rw[m];omega))) (aa (mZ (b:=dY q 6) (by show _=2*(q 1*q 3-q 0*q 2);rw[m];omega) (az (by have:=eK h 6;omega))) ?_))
 refine aa (sK n (az j1) (az j1) (az j1)) (aa (mZ (b:=dY q 7) rfl (az (by have:=eK h 7;omega))) ?_)
 refine aa n1 (aa n2 (aa (zQ n (az j1) (az (by rw[m];omega)) (az (by rw[m];omega)) (az (by rw[m];omega)) (az (by rw[m,m];omega)) (az j1) (az (by rw[m,m];omega))) ?_))
 have p:q 0*q 0+q 1*q 1+-(q 2)*q 2+-(q 3)*q 3=dY q 0:=by show _=q 0*q 0+q 1*q 1-q 2*q 2-q 3*q 3;rw[m,m];omega
 have r:q 0*q 0+-(q 1)*q 1+q 2*q 2+-(q 3)*q 3=dY q 4:=by show _=q 0*q 0-q 1*q 1+q 2*q 2-q 3*q 3;rw[m,m];omega
 have s:q 0*q 0+-(q 1)*q 1+-(q 2)*q 2+q 3*q 3=dY q 8:=by show _=q 0*q 0-q 1*q 1-q 2*q 2+q 3*q 3;rw[m,m];omega
 rw[p,r,s];rfl
def S7(n:Nat){q:Nat->Int}(h:xY q):cA (n+1) 387 [gZ q]=some (I8 (dY q)):=by
 have d:=qq h (i:=0) (j:=0) j2 j2;have e:=qq h (i:=1) (j:=1) j2 j2;have a22:=qq h (i:=2) (j:=2) j2 j2;have a33:=qq h (i:=3) (j:=3) j2 j2
 have f:=qq h (i:=0) (j:=1) j2 j2;have g:=qq h (i:=0) (j:=2) j2 j2;have k:=qq h (i:=0) (j:=3) j2 j2
 have a12:=qq h (i:=1) (j:=2) j2 j2;have l:=qq h (i:=1) (j:=3) j2 j2;have a23:=qq h (i:=2) (j:=3) j2 j2
 have c:∀ {a b:Int},-4096<=a*b/\a*b<=4096->afn .mul (I a) (I b)=some (I (a*b)):=λh=>bK (az j1)
 rw[abE];delta MJ qG qB Jn;refine j0 (I (q 0)) (j0 (I (q 1)) (j0 (I (q 2)) (j0 (I (q 3)) ?_)));refine aa (c d) (aa (c e) (aa (aC (az j1)) (aa (c a22) (aa (ct (az j1)) (aa (c a33) (aa (ct (az j1)) ?_))))))
 refine aa (c a12) (aa (c k) (aa (ct (az j1)) (aa (mZ (b:=dY q 1) rfl (az (by have:=eK h 1;omega))) ?_)))
 refine aa (c l) (aa (c g) (aa (aC (az j1)) (aa (mZ (b:=dY q 2) rfl (az (by have:=eK h 2;omega))) ?_)))
 refine aa (c a12) (aa (c k) (aa (aC (az j1)) (aa (mZ (b:=dY q 3) rfl (az (by have:=eK h 3;omega))) ?_)))
 refine aa (c d) (aa (c e) (aa (ct (az j1)) (aa (c a22) (aa (aC (az j1)) (aa (c a33) (aa (ct (az j1)) ?_))))))
 refine aa (c a23) (aa (c f) (aa (ct (az j1)) (aa (mZ (b:=dY q 5) rfl (az (by have:=eK h 5;omega))) ?_)))
 refine aa (c l) (aa (c g) (aa (ct (az j1)) (aa (mZ (b:=dY q 6) rfl (az (by have:=eK h 6;omega))) ?_)))
 refine aa (c a23) (aa (c f) (aa (aC (az j1)) (aa (mZ (b:=dY q 7) rfl (az (by have:=eK h 7;omega))) ?_)))
 refine aa (c d) (aa (c e) (aa (ct (az j1)) (aa (c a22) (aa (ct (az j1)) (aa (c a33) (aa (aC (az j1)) ?_))))))
 rfl
def co(q:Nat->Int)(v:V)(i:Nat):Int:=dY q (3*i)*v.x+dY q (3*i+1)*v.y+dY q (3*i+2)*v.z
def ay(q:Nat->Int):Int:=q 0*q 0+q 1*q 1+q 2*q 2+q 3*q 3
def rB{q:Nat->Int}(h:xY q)(k:Nat){x:Int}(hx:x.natAbs<=4096):-67108864<=dY q k*x/\dY q k*x<=67108864:=by
 have:=eK h k;have:(dY q k*x).natAbs<=16384*4096:=by rw[zLa];exact z9a j1 hx
 omega
def gV{q:Nat->Int}(h:xY q){v:V}(d:bd 4096 v)(i:Nat):-201326592<=co q v i/\co q v i<=201326592:=by obtain⟨v1,v2,v3⟩:=kQ (k:=4096) d;have a:=rB h (3*i) v1;have b:=rB h (3*i+1) v2;have c:=rB h (3*i+2) v3;grind [co]
def cJ{q:Nat->Int}(h:xY q)(h0:∃ i,i<4/\q i≠0):0<ay q/\ay q<=16384:=by
 have a:=qq h (i:=0) (j:=0) j2 j2;have b:=qq h (i:=1) (j:=1) j2 j2;have a22:=qq h (i:=2) (j:=2) j2 j2;have a33:=qq h (i:=3) (j:=3) j2 j2
 have d:=oo (q 0);have e:=oo (q 1);have f:=oo (q 2);have g:=oo (q 3);have pos:∀ x:Int,x≠0->0<x*x:=λx hx=>by
  have:=oo x;rcases z7a this with h|h
  ·exact h
  ·rcases zcb.1 h.symm with h|h<;>exact z4a h hx
 obtain⟨i,c,hq⟩:=h0;have hp:=pos _ hq;unfold ay;refine⟨?_,j1⟩
 match i,c with
 | 0,_=>omega
 | 1,_=>omega
 | 2,_=>omega
 | 3,_=>omega
 | k+4,h=>omega
def Ac(f:Nat->Int):D:=.st [I (f 0),I (f 1),I (f 2)]
def uI{k:Nat}(h:k<9):D.idx (I (k:Int)) 9=some k:=aq h
def ZI(n:Nat){q:Nat->Int}(h:xY q){v:V}(f:bd 4096 v):cA (n+3) 386 [gZ q,ae v]=some (Ac (co q v)):=by
 obtain⟨v1,v2,v3⟩:=kQ (k:=4096) f;rw[Uk];delta Id qG qB qC qJ qZ iL iR Jn;refine aa (S8 n h) ?_;refine uf (l0:=[I 0,I 0,I 0]) (λi=>I (co q v i)) rfl (λi e l hl m=>?_) (λl=>aa am (aa ac (aO j2 rfl))) rfl
 have a:=rB h (3*i) v1;have b:=rB h (3*i+1) v2;have c:=rB h (3*i+2) v3;have d:afn .mul (D.int .i64 3) (I (i:Int))=some (I ((3*i:Nat):Int)):=mv (a:=3) (b:=i) j1
 have g:afn .add (I ((3*i:Nat):Int)) (D.int .i64 1)=some (I ((3*i+1:Nat):Int)):=aH (a:=3*i) (b:=1) j1
 have j:afn .add (I ((3*i:Nat):Int)) (D.int .i64 2)=some (I ((3*i+2:Nat):Int)):=aH (a:=3*i) (b:=2) j1
 refine aa am (aa ac (aK (by show(i:Int)<3;omega) ?_))
 refine aa d (aa (uI j1) (aa (jg j1 _) (j0 (I v.x) ?_)))
 refine aa d (aa g (aa (uI j1) (aa (jg j1 _) (j0 (I v.y) ?_))))
 refine aa d (aa j (aa (uI j1) (aa (jg j1 _) (j0 (I v.z) ?_))))
 refine aa (IJ (n+1) (az j1) (az j1) (az j1) (az j1) (az j1)) ?_
 exact aa (aq e) (aa (og j1) (aa (aH (a:=i) (b:=1) j1) rfl))
def ZH(n:Nat){q:Nat->Int}(h:xY q){v:V}(f:bd 4096 v):cA (n+2) 373 [gZ q,ae v]=some (Ac (co q v)):=by
 obtain⟨v1,v2,v3⟩:=kQ (k:=4096) f;rw[Uj];delta Ic qG qB qC qJ qZ iL iR Jn;refine aa (S7 n h) ?_;refine uf (l0:=[I 0,I 0,I 0]) (λi=>I (co q v i)) rfl (λi e l hl m=>?_) (λl=>aa am (aa ac (aO j2 rfl))) rfl
 have a:=rB h (3*i) v1;have b:=rB h (3*i+1) v2;have c:=rB h (3*i+2) v3;have d:afn .mul (D.int .i64 3) (I (i:Int))=some (I ((3*i:Nat):Int)):=mv (a:=3) (b:=i) j1
 have g:afn .add (I ((3*i:Nat):Int)) (D.int .i64 1)=some (I ((3*i+1:Nat):Int)):=aH (a:=3*i) (b:=1) j1
 have j:afn .add (I ((3*i:Nat):Int)) (D.int .i64 2)=some (I ((3*i+2:Nat):Int)):=aH (a:=3*i) (b:=2) j1
 refine aa am (aa ac (aK (by show(i:Int)<3;omega) ?_))
 refine aa d (aa (uI j1) (aa (jg j1 _) (j0 (I v.x) (aa (bK (az j1)) ?_))))
 refine aa d (aa g (aa (uI j1) (aa (jg j1 _) (j0 (I v.y) (aa (bK (az j1)) (aa (aC (az j1)) ?_))))))
 refine aa d (aa j (aa (uI j1) (aa (jg j1 _) (j0 (I v.z) (aa (bK (az j1)) (aa (aC (az j1)) ?_))))))
 exact aa (aq e) (aa (og j1) (aa (aH (a:=i) (b:=1) j1) rfl))
def S6(n:Nat){q:Nat->Int}(h:xY q):cA (n+3) 385 [gZ q]=some (I (ay q)):=by
 have a:=qq h (i:=0) (j:=0) j2 j2;have b:=qq h (i:=1) (j:=1) j2 j2;have a22:=qq h (i:=2) (j:=2) j2 j2;have a33:=qq h (i:=3) (j:=3) j2 j2
 rw[abD];unfold MI;refine aa (z:=I (ay q)) ?_ rfl;rw[abG];delta ML qG;refine j0 (I (q 0)) (j0 (I (q 0)) (j0 (I (q 1)) (j0 (I (q 1)) (j0 (I (q 2)) (j0 (I (q 2)) (j0 (I (q 3)) (j0 (I (q 3)) ?_)))))));exact aa (zQ n (az j1) (az j1) (az j1) (az j1) (az j1) (az j1) (az j1)) rfl
def Qq(n:Nat){q:Nat->Int}(h:xY q):cA (n+2) 374 [gZ q]=some (I (ay q)):=by
 have a:=qq h (i:=0) (j:=0) j2 j2;have b:=qq h (i:=1) (j:=1) j2 j2;have a22:=qq h (i:=2) (j:=2) j2 j2;have a33:=qq h (i:=3) (j:=3) j2 j2
 rw[abC];unfold MH;refine aa (z:=I (ay q)) ?_ rfl;rw[abF];delta MK qG qB;refine j0 (I (q 0)) (j0 (I (q 0)) (aa (bK (az j1)) (j0 (I (q 1)) (j0 (I (q 1)) (aa (bK (az j1)) (aa (aC (az j1)) ?_))))))
 exact j0 (I (q 2)) (j0 (I (q 2)) (aa (bK (az j1)) (aa (aC (az j1)) (j0 (I (q 3)) (j0 (I (q 3)) (aa (bK (az j1)) (aa (aC (az j1)) rfl)))))))
def jm{x:Int}(h:-4611686018427387904<=x/\x<=4611686018427387904):inR x:=by simp only[inR];omega
def mK{q:Nat->Int}(h:xY q)(k:Nat){x:Int}(hx:x.natAbs<=1099511627776):-18014398509481984<=dY q k*x/\dY q k*x<=18014398509481984:=by
 have:=eK h k;have:(dY q k*x).natAbs<=16384*1099511627776:=by rw[zLa];exact z9a j1 hx
 omega
def E6(n:Nat){q:Nat->Int}(h:xY q){v:V}(f:bd 1099511627776 v):cA (n+3) 386 [gZ q,ae v]=some (Ac (co q v)):=by
 obtain⟨v1,v2,v3⟩:=kQ (k:=1099511627776) f;rw[Uk];delta Id qG qB qC qJ qZ iL iR Jn;refine aa (S8 n h) ?_;refine uf (l0:=[I 0,I 0,I 0]) (λi=>I (co q v i)) rfl (λi e l hl m=>?_) (λl=>aa am (aa ac (aO j2 rfl))) rfl
 have a:=mK h (3*i) v1;have b:=mK h (3*i+1) v2;have c:=mK h (3*i+2) v3;have d:afn .mul (D.int .i64 3) (I (i:Int))=some (I ((3*i:Nat):Int)):=mv (a:=3) (b:=i) j1
 have g:afn .add (I ((3*i:Nat):Int)) (D.int .i64 1)=some (I ((3*i+1:Nat):Int)):=aH (a:=3*i) (b:=1) j1
 have j:afn .add (I ((3*i:Nat):Int)) (D.int .i64 2)=some (I ((3*i+2:Nat):Int)):=aH (a:=3*i) (b:=2) j1
 refine aa am (aa ac (aK (by show(i:Int)<3;omega) ?_))
 refine aa d (aa (uI j1) (aa (jg j1 _) (j0 (I v.x) ?_)))
 refine aa d (aa g (aa (uI j1) (aa (jg j1 _) (j0 (I v.y) ?_))))
 refine aa d (aa j (aa (uI j1) (aa (jg j1 _) (j0 (I v.z) ?_))))
 refine aa (IJ (n+1) (jm j1) (jm j1) (jm j1) (jm j1) (jm j1)) ?_
 exact aa (aq e) (aa (og j1) (aa (aH (a:=i) (b:=1) j1) rfl))
def S4(n:Nat){q:Nat->Int}(h:xY q){v:V}(f:bd 1099511627776 v):cA (n+2) 373 [gZ q,ae v]=some (Ac (co q v)):=by
 obtain⟨v1,v2,v3⟩:=kQ (k:=1099511627776) f;rw[Uj];delta Ic qG qB qC qJ qZ iL iR Jn;refine aa (S7 n h) ?_;refine uf (l0:=[I 0,I 0,I 0]) (λi=>I (co q v i)) rfl (λi e l hl m=>?_) (λl=>aa am (aa ac (aO j2 rfl))) rfl
 have a:=mK h (3*i) v1;have b:=mK h (3*i+1) v2;have c:=mK h (3*i+2) v3;have d:afn .mul (D.int .i64 3) (I (i:Int))=some (I ((3*i:Nat):Int)):=mv (a:=3) (b:=i) j1
 have g:afn .add (I ((3*i:Nat):Int)) (D.int .i64 1)=some (I ((3*i+1:Nat):Int)):=aH (a:=3*i) (b:=1) j1
 have j:afn .add (I ((3*i:Nat):Int)) (D.int .i64 2)=some (I ((3*i+2:Nat):Int)):=aH (a:=3*i) (b:=2) j1
 refine aa am (aa ac (aK (by show(i:Int)<3;omega) ?_))
 refine aa d (aa (uI j1) (aa (jg j1 _) (j0 (I v.x) (aa (bK (jm j1)) ?_))))
 refine aa d (aa g (aa (uI j1) (aa (jg j1 _) (j0 (I v.y) (aa (bK (jm j1)) (aa (aC (jm j1)) ?_))))))
 refine aa d (aa j (aa (uI j1) (aa (jg j1 _) (j0 (I v.z) (aa (bK (jm j1)) (aa (aC (jm j1)) ?_))))))
 exact aa (aq e) (aa (og j1) (aa (aH (a:=i) (b:=1) j1) rfl))
def ko(x:V)(q:Nat->Int)(v:V):V:=⟨co q v 0+ay q*x.x,co q v 1+ay q*x.y,co q v 2+ay q*x.z⟩
def PB:Int:=2305843009415020544
structure PoseOk(x:V)(q:Nat->Int):Prop where
 hx:bd 140737488355327 x
 hq:xY q
 h0:∃ i,i<4/\q i≠0
def rR{x:V}{q:Nat->Int}(h:PoseOk x q){a:Int}(b:-140737488355327<=a/\a<=140737488355327):-2305843009213693952<=ay q*a/\ay q*a<=2305843009213693952:=by
 have s:=cJ h.hq h.h0;have:(ay q*a).natAbs<=16384*140737488355327:=by rw[zLa];exact z9a j1 j1
 omega
def wS{x:V}{q:Nat->Int}(h:PoseOk x q){v:V}(a:bd 4096 v):bd PB (ko x q v):=by have t0:=gV h.hq a 0;have t1:=gV h.hq a 1;have t2:=gV h.hq a 2;have s0:=rR h h.hx.1;have s1:=rR h h.hx.2.1;have s2:=rR h h.hx.2.2;simp only[bd,ko,PB];omega
def ga(x:V)(q:Nat->Int)(l:List V):D:=.st [cL x q,cl l,I (ay q),bu (l.map (ko x q))]
def PP{x:V}{q:Nat->Int}{l:List V}{i:Nat}(a:i<l.length):((l.take i).map λv=>ae (ko x q v))++[ae (ko x q l[i])]=(l.take (i+1)).map λv=>ae (ko x q v):=by rw[List.take_add_one,zda a];simp only[Option.toList_some,zXb,zjb,zrd]
def GF(n:Nat){x:V}{q:Nat->Int}(h:PoseOk x q){l:List V}(hl:∀ v∈l,bd 4096 v)(hlen:l.length<=100):cA (n+4) 433 [cL x q,cl l]=some (ga x q l):=by
 rw[abS];delta MZ qG qB qC qS qX qJ qV qW qZ iL iR Jn;refine j0 (gZ q) (aa (S6 n h.hq) (j0 (bu l) (j0 (l.map ae) ?_)));obtain⟨Z,hZ⟩:∃ Z,D.st [D.st [I 0,I 0,I 0],D.st [I 0,I 0,I 0,I 0]]=Z:=⟨_,rfl⟩;refine cr (λi s=>s=[I (i:Int),Z,.sl [],I 0,.sl [],cL x q,cl l,I (ay q),.sl ((l.take i).map λv=>ae (ko x q v))]) l.length 0 (zqa _) (by rw[<-hZ];rfl) (λi d s hs=>?_) (λs hs=>?_)
 ·subst hs;left;have e:bd 4096 l[i]:=hl _ (zBa d);have t0:=gV h.hq e 0;have t1:=gV h.hq e 1;have t2:=gV h.hq e 2;have s0:=rR h h.hx.1;have s1:=rR h h.hx.2.1;have s2:=rR h h.hx.2.2;refine⟨_,?_,rfl⟩;refine aa am (aa ac (aK (by rw[aS];omega) ?_))
  refine j0 (l.map ae) (aa (z:=i) (by rw[aS];exact aq d) (aa (z:=ae l[i]) (by simp[d]) ?_))
  refine j0 (gZ q) (aa (ZI n h.hq e) ?_);obtain⟨L,hL⟩:∃ L,((l.take i).map λv=>ae (ko x q v))=L:=⟨_,rfl⟩;obtain⟨v,c⟩:∃ v,l[i]=v:=⟨_,rfl⟩;rw[<-PP d,c,hL];rw[c] at t0 t1 t2;refine bg (s':=[I 1,Z,.sl [],I 0,.sl [],cL x q,cl l,I (ay q),.sl L,.st [I (ko x q v).x,I (co q v 1),I (co q v 2)]]) ?_ (bg (s':=[I 2,Z,.sl [],I 0,.sl [],cL x q,cl l,I (ay q),.sl L,.st [I (ko x q v).x,I (ko x q v).y,I (co q v 2)]]) ?_ (bg (s':=[I 3,Z,.sl [],I 0,.sl [],cL x q,cl l,I (ay q),.sl L,ae (ko x q v)]) ?_ (eJ (r:=(0,[Z,.sl [],I 0,.sl [],cL x q,cl l,I (ay q),.sl L,ae (ko x q v)])) ?_ ?_)))
  ·exact j0 (.bool true) (j0 true (dT (j0 0 (j0 (I (co q v 0)) (j0 0 (j0 (I x.x) (aa (bK (jm j1)) (aa (aC (by simp only[inR];omega)) (j0 0 (j0 (.st [I (ko x q v).x,I (co q v 1),I (co q v 2)]) (j0 (I 1) rfl)))))))))))
  ·exact j0 (.bool true) (j0 true (dT (j0 1 (j0 (I (co q v 1)) (j0 1 (j0 (I x.y) (aa (bK (jm j1)) (aa (aC (by simp only[inR];omega)) (j0 1 (j0 (.st [I (ko x q v).x,I (ko x q v).y,I (co q v 2)]) (j0 (I 2) rfl)))))))))))
  ·exact j0 (.bool true) (j0 true (dT (j0 2 (j0 (I (co q v 2)) (j0 2 (j0 (I x.z) (aa (bK (jm j1)) (aa (aC (by simp only[inR];omega)) (j0 2 (j0 (ae (ko x q v)) (j0 (I 3) rfl)))))))))))
  ·exact j0 (.bool false) (j0 false rfl)
  ·have hn:List.length (D.els (.sl L))+List.length [ae (ko x q v)]<=1073741824:=by
    rw[<-hL];show((l.take i).map _).length+1<=_;simp;omega
   refine(zja hn).trans ?_;exact aa (aH (a:=i) (b:=1) j1) rfl
 ·subst hs;refine⟨_,aa am (aa ac (aO (by rw[aS];omega) rfl)),?_⟩
  rw[zgb (zka _)];simp only[ga,bu,List.map_map];rfl
def ZX(n:Nat){x:V}{q:Nat->Int}(h:PoseOk x q){l:List V}(hl:∀ v∈l,bd 4096 v)(hlen:l.length<=100):cA (n+3) 452 [cL x q,cl l]=some (bu (l.map (ko x q))):=by
 rw[ab8];delta Nm qG qB qY qM qV qW qZ iL iR Jn;refine j0 (gZ q) (aa (Qq n h.hq) ?_);refine cr (λi s=>s=[.sl ((l.take i).map λv=>ae (ko x q v)),I (i:Int)]) l.length 0 (zqa _) rfl (λi c s hs=>?_) (λs hs=>?_)
 ·subst hs;left;have d:bd 4096 l[i]:=hl _ (zBa c);have t0:=gV h.hq d 0;have t1:=gV h.hq d 1;have t2:=gV h.hq d 2;have s0:=rR h h.hx.1;have s1:=rR h h.hx.2.1;have s2:=rR h h.hx.2.2;refine⟨_,?_,rfl⟩;refine j0 (bu l) (j0 (l.map ae) (aa am (aa ac (aK (by rw[aS];omega) ?_))))
  refine j0 (gZ q) (j0 (bu l) (j0 (l.map ae) (aa (z:=i) (by rw[aS];exact aq c) (aa (z:=ae l[i]) (by simp[c]) ?_))))
  refine aa (ZH n h.hq d) ?_;rw[<-PP c];have hn:List.length (D.els (.sl ((l.take i).map λv=>ae (ko x q v))))+List.length [ae (ko x q l[i])]<=1073741824:=by show((l.take i).map _).length+1<=_;simp;omega
  refine j0 (I (co q l[i] 0)) (j0 (I x.x) (aa (bK (jm j1)) (aa (aC (by simp only[inR];omega)) ?_)))
  refine j0 (I (co q l[i] 1)) (j0 (I x.y) (aa (bK (jm j1)) (aa (aC (by simp only[inR];omega)) ?_)))
  refine j0 (I (co q l[i] 2)) (j0 (I x.z) (aa (bK (jm j1)) (aa (aC (by simp only[inR];omega)) ?_)))
  refine(zja hn).trans ?_;exact aa (aH (a:=i) (b:=1) j1) rfl
 ·subst hs;refine⟨_,j0 (bu l) (j0 (l.map ae) (aa am (aa ac (aO (by rw[aS];omega) rfl)))),?_⟩
  rw[zgb (zka _)];simp only[bu,List.map_map];rfl
def NB:Int:=2305843009213693951
def yl{u v:V}(hu:bd NB u)(c:bd PB v):(u.x*v.x).natAbs<=2^123/\(u.y*v.y).natAbs<=2^123/\(u.z*v.z).natAbs<=2^123:=by
 have key:∀ a b:Int,(-NB<=a/\a<=NB)->(-PB<=b/\b<=PB)->(a*b).natAbs<=2^123:=λa b d e=>by rw[zLa];simp only[NB,PB] at d e;exact bH (i:=61) (j:=62) (by rw[show(2:Nat)^61=2305843009213693952 from rfl];omega) (by rw[show(2:Nat)^62=4611686018427387904 from rfl];omega) j2
 exact⟨key _ _ hu.1 c.1,key _ _ hu.2.1 c.2.1,key _ _ hu.2.2 c.2.2⟩
def pN{u v:V}(hu:bd NB u)(a:bd PB v):In (u.x*v.x)/\In (u.y*v.y)/\In (u.z*v.z)/\In (u.x*v.x+u.y*v.y)/\In (V.dot u v):=by obtain⟨h1,h2,h3⟩:=yl hu a;have b:=zsc (u.x*v.x) (u.y*v.y);have c:=zsc (u.x*v.x+u.y*v.y) (u.z*v.z);exact⟨fj j2 h1,fj j2 h2,fj j2 h3,fj (k:=130) j2 j1,fj (k:=130) j2 (by unfold V.dot;omega)⟩
def Al{u:V}(hu:bd NB u):inR u.x/\inR u.y/\inR u.z:=by simp only[bd,NB] at hu;simp only[inR];omega
def Am{u:V}(hu:bd PB u):inR u.x/\inR u.y/\inR u.z:=by simp only[bd,PB] at hu;simp only[inR];omega
def QF(n:Nat){u v:V}(hu:bd NB u)(d:bd PB v):cA (n+6) 91 [ae u,ae v]=some (af (V.dot u v)):=by
 obtain⟨a1,a2,a3⟩:=Al hu;obtain⟨a,b,c⟩:=Am d;obtain⟨i1,i2,i3,e,g⟩:=pN hu d;have f:In 0:=bC (dO 0);rw[u91];unfold U2;refine aa (NK (n+2) a1 a2 a3) (aa (NK (n+2) a b c) (aa (z:=af (V.dot u v)) ?_ rfl));rw[aa0];delta L4 qB qC qJ qZ iL iR Jn;refine aa (zR (n+2) (dO 0)) ?_;refine bg (s':=[I 1,af (u.x*v.x)]) ?_ (bg (s':=[I 2,af (u.x*v.x+u.y*v.y)]) ?_ (bg (s':=[I 3,af (V.dot u v)]) ?_ (eJ (r:=(0,[af (V.dot u v)])) ?_ rfl)))
 ·exact j0 (.bool true) (j0 true (dT (j0 0 (j0 (af u.x) (j0 0 (j0 (af v.x) (aa (IX (n+1) (bC a1) (bC a) i1) (aa (IP n f i1 (by rw[zCc];exact i1)) (j0 (I 1) (by rw[zCc]))))))))))
 ·exact j0 (.bool true) (j0 true (dT (j0 1 (j0 (af u.y) (j0 1 (j0 (af v.y) (aa (IX (n+1) (bC a2) (bC b) i2) (aa (IP n i1 i2 e) (j0 (I 2) rfl)))))))))
 ·exact j0 (.bool true) (j0 true (dT (j0 2 (j0 (af u.z) (j0 2 (j0 (af v.z) (aa (IX (n+1) (bC a3) (bC c) i3) (aa (IP n e i3 g) (j0 (I 3) rfl)))))))))
 ·exact j0 (.bool false) (j0 false rfl)
def QE(n:Nat){x y:Int}(hx:In x)(hy:In y)(h:In (x*y)):cA (n+4) 89 [af x,af y]=some (af (x*y)):=by rw[GI n hx hy,ju h];rfl
def Tl(n:Nat){x y:Int}(hx:In x)(hy:In y)(h:In (x+y)):cA (n+4) 59 [af x,af y]=some (af (x+y)):=by have:=Tk n (a:=some x) (b:=some y) (aY hx) (aY hy);rw[zL h] at this;exact this
def SX(n:Nat){u v:V}(hu:bd NB u)(d:bd PB v):cA (n+6) 33 [ae u,ae v]=some (af (V.dot u v)):=by obtain⟨a1,a2,a3⟩:=Al hu;obtain⟨a,b,c⟩:=Am d;obtain⟨i1,i2,i3,e,f⟩:=pN hu d;rw[u33];unfold Uz;refine aa (Z4 (n+1) a1 a2 a3) (aa (Z4 (n+1) a b c) (aa (z:=af (V.dot u v)) ?_ rfl));rw[u79];delta UU qG;refine j0 (af u.x) (j0 (af v.x) (aa (QE n (bC a1) (bC a) i1) (j0 (af u.y) (j0 (af v.y) (aa (QE n (bC a2) (bC b) i2) ?_)))));exact aa (Tl n i1 i2 e) (j0 (af u.z) (j0 (af v.z) (aa (QE n (bC a3) (bC c) i3) (aa (Tl n e i3 f) rfl))))
def xD(u:V)(L:List V):Nat->Int
 | 0=>V.dot u (pt L 0)
 | k+1=>if V.dot u (pt L (k+1))>xD u L k then V.dot u (pt L (k+1)) else xD u L k
def rC(u:V)(L:List V)(k:Nat):xD u L (k+1)=if V.dot u (pt L (k+1))>xD u L k then V.dot u (pt L (k+1)) else xD u L k:=rfl
def fW{L:List V}{i:Nat}(h:i<L.length):pt L i∈L:=by unfold pt;rw[zab,zda h];exact zBa h
def tD{L:List V}{i:Nat}(h:i<L.length):(L.map ae)[i]?=some (ae (pt L i)):=by unfold pt;rw[zmb,zab,zda h];rfl
theorem AB{u:V}{L:List V}(hu:bd NB u)(hL:∀ v∈L,bd PB v):∀ k,k<L.length->In (xD u L k)
 | 0,h=>(pN hu (hL _ (fW h))).2.2.2.2
 | k+1,h=>by
  unfold xD;split
  ·exact(pN hu (hL _ (fW h))).2.2.2.2
  ·exact AB hu hL k j1
def Fc(a b:Int):decide (bB a b>0)=decide (a>b):=by unfold bB;split<;>(try split)<;>simp<;>omega
def da(u x:V)(q:Nat->Int)(l:List V):Rat:=Rat.divInt (xD u (l.map (ko x q)) (l.length-1)) (ay q)
def vf{x:V}{q:Nat->Int}(h:PoseOk x q){l:List V}(hl:∀ v∈l,bd 4096 v):∀ v∈l.map (ko x q),bd PB v:=λv a=>by obtain⟨w,hw,rfl⟩:=zSa.1 a;exact wS h (hl w hw)
def oa{x:V}{q:Nat->Int}(h:PoseOk x q):inR (ay q)/\ay q≠0:=by have:=cJ h.hq h.h0;exact⟨by simp only[inR];omega,j1⟩
def jZ{u x:V}{q:Nat->Int}(hu:bd NB u)(h:PoseOk x q){l:List V}(hl:∀ v∈l,bd 4096 v)(h0:0<l.length):InR (da u x q l):=
 dh (AB hu (vf h hl) _ (by simp;omega)) (bC (oa h).1) (oa h).2
def IK(n:Nat){u x:V}{q:Nat->Int}(hu:bd NB u)(h:PoseOk x q){l:List V}(hl:∀ v∈l,bd 4096 v)(h0:0<l.length)(hlen:l.length<=100):cA (n+1031) 435 [ga x q l,ae u]=some (g8 (da u x q l)):=by
 have hs:=oa h;have hP:=vf h hl;have c:=AB hu hP;unfold ga da;obtain⟨L,hL⟩:∃ L,l.map (ko x q)=L:=⟨_,rfl⟩;have hk:L.length=l.length:=by rw[<-hL];simp
 rw[hL] at hP c ⊢;rw[abU];delta M5 qG qB qC qI qY qP qZ iL iR Jn;refine j0 (bu L) (j0 (L.map ae) (aa (z:=0) (by rw[aS];exact aq (i:=0) j1) (aa (tD j1) ?_)))
 refine aa (QF (n+1024) hu (hP _ (fW j1))) ?_
 refine j0 (bu L) (j0 (L.map ae) (aa (z:=(L.map ae).drop 1) ?_ ?_))
 ·unfold D.cut;rw[zja ⟨by rw[aS];omega,zka _⟩,zgb (zka _)]
 have d:((L.map ae).drop 1).length=l.length-1:=by rw[List.length_drop,aS,hk]
 refine cr (λi s=>s=[I (i:Int),af (xD u L i)]) (l.length-1) 0 (zqa _) rfl (λi f s e=>?_) (λs e=>?_)
 ·subst e;left;refine⟨_,?_,rfl⟩;have hm:=fW (L:=L) (i:=i+1) j1
  refine aa am (aa ac (aK (by rw[d];omega) ?_))
  refine aa (z:=(0,[af (xD u L (i+1))])) ?_ (aa (aH (a:=i) (b:=1) j1) rfl)
  refine aa (z:=i) (by rw[d];exact aq f) (aa (z:=ae (pt L (i+1))) (by rw[zdc,z4c];exact tD j1) ?_)
  refine aa (QF (n+1024) hu (hP _ hm)) (aa (Vc (n+1026) (pN hu (hP _ hm)).2.2.2.2 (c i j1)) ?_)
  refine aa (z:=.bool (decide (V.dot u (pt L (i+1))>xD u L i))) (by rw[<-Fc];exact cK) (aa ac ?_)
  rw[rC];by_cases hc:V.dot u (pt L (i+1))>xD u L i
  ·rw[zja hc];exact aK hc rfl
  ·rw[zia hc];exact aO hc rfl
 ·subst e;refine⟨_,aa am (aa ac (aO (by rw[d];omega) rfl)),?_⟩
  exact j0 (I (ay q)) (aa (zR (n+1028) hs.1) (aa (QA n (c _ j1) (bC hs.1) hs.2) rfl))
def Te(n:Nat){u x:V}{q:Nat->Int}(hu:bd NB u)(h:PoseOk x q){l:List V}(hl:∀ v∈l,bd 4096 v)(h0:0<l.length)(hlen:l.length<=100):cA (n+8) 437 [ae u,cL x q,cl l]=some (g8 (da u x q l)):=by
 have hs:=oa h;have hP:=vf h hl;have c:=AB hu hP;unfold da;rw[abV];delta M6 qG qB qC qX qL qZ iL iR Jn;refine aa (ZX (n+4) h hl hlen) ?_;obtain⟨L,hL⟩:∃ L,l.map (ko x q)=L:=⟨_,rfl⟩;have hk:L.length=l.length:=by rw[<-hL];simp
 rw[hL] at hP c ⊢;refine j0 (L.map ae) (aa (z:=0) (by rw[aS];exact aq (i:=0) j1) (aa (tD j1) ?_))
 refine aa (SX (n+1) hu (hP _ (fW j1))) ?_
 refine cr (λi s=>s=[I ((i+1:Nat):Int),af (xD u L i)]) (l.length-1) 0 (zqa _) rfl (λi e s d=>?_) (λs d=>?_)
 ·subst d;left;refine⟨_,?_,rfl⟩;have hm:=fW (L:=L) (i:=i+1) j1
  refine j0 (L.map ae) (aa am (aa ac (aK (by rw[aS];omega) ?_)))
  refine aa (z:=(0,[af (xD u L (i+1))])) ?_ (aa (aH (a:=i+1) (b:=1) j1) rfl)
  refine j0 (L.map ae) (aa (z:=i+1) (by rw[aS];exact aq j1) (aa (tD j1) ?_))
  refine aa (SX (n+1) hu (hP _ hm)) (aa (RW (n+4) (pN hu (hP _ hm)).2.2.2.2 (c i j1)) ?_)
  refine aa (z:=.bool (decide (V.dot u (pt L (i+1))>xD u L i))) (by rw[<-Fc];exact cK) (aa ac ?_)
  rw[rC];by_cases hc:V.dot u (pt L (i+1))>xD u L i
  ·rw[zja hc];exact aK hc rfl
  ·rw[zia hc];exact aO hc rfl
 ·subst d;refine⟨_,j0 (L.map ae) (aa am (aa ac (aO (by rw[aS];omega) rfl))),?_⟩
  exact j0 (gZ q) (aa (Qq (n+5) h.hq) (aa (zP (n+4) hs.1) (aa (SZ (n+2) (c _ j1) (bC hs.1) hs.2) rfl)))
end Sy
end
end Go.Proofs.YtphlmegkommlnaaGreatDoor
