/- Part 6 of the proof that SweepFoundIsAccepted answers true at every input -/
import Derived.Test.YtdlipdnepadhjaaGreatFoun01
import Derived.Test.YtdlipdnepadhjaaGreatFoun05
set_option linter.all false
set_option maxRecDepth 20000
namespace Go.Proofs.YtdlipdnepadhjaaGreat
noncomputable section
namespace Sy
open Go Go.Proofs Geo
section
variable{l:List V}{F:FL}{f:(V×Int)×List Nat}{a c j:Nat}
def jc(x:V):List V->List V
 | []=>[x]
 | y::L=>if aP x y\/x=y then x::(y::L).filter (λz=>decide (z≠x)) else y::jc x L
def eQ(l:List V):List V:=l.foldl (λo x=>jc x o) []
theorem C5(x:V):∀ L:List V,(jc x L).length<=L.length+1
 | []=>by simp[jc]
 | y::L=>by have:=C5 x L;grind [jc]
theorem xe{x z:V}:∀ {L:List V},z∈jc x L↔z=x\/z∈L
 | []=>by simp[jc]
 | y::L=>by have ih:=xe (x:=x) (z:=z) (L:=L);grind [jc]
theorem C6{x:V}:∀ {L:List V},L.Pairwise aP->(jc x L).Pairwise aP
 | [],_=>by simp[jc]
 | y::L,h=>by
  obtain⟨h1,i⟩:=zNa.1 h;unfold jc;split
  ·rename_i c;refine zNa.2 ⟨λz f=>?_,h.filter _⟩;obtain⟨d,g⟩:=zJc.1 f;have j:z≠x:=by simpa using g
   rcases zOa.1 d with rfl|d
   ·grind
   ·rcases c with h|h
    ·exact nI h (h1 z d)
    ·simp_all
  ·rename_i c;refine zNa.2 ⟨λz f=>?_,C6 i⟩;rcases xe.1 f with rfl|f
   ·rcases t6 (a:=z) (b:=y) (λe=>c (.inr e)) with k|k
    ·simp_all
    ·exact k
   ·exact h1 z f
def xH(l:List V):(eQ l).Pairwise aP:=by
 unfold eQ;have:∀ (l o:List V),o.Pairwise aP->(l.foldl (λo x=>jc x o) o).Pairwise aP:=by
  intro l
  induction l with
  | nil=>intro o h;exact h
  | cons x l ih=>intro o h;exact ih _ (C6 h)
 simp_all
theorem Di{z:V}:z∈eQ l↔z∈l:=by
 unfold eQ;have:∀ (l o:List V),z∈l.foldl (λo x=>jc x o) o↔z∈l\/z∈o:=by
  intro l
  induction l with
  | nil=>intro o;simp
  | cons x l ih=> intro o;rw[zzc,ih,xe,zOa];all_goals grind
 simp_all
theorem sW(l:List V):(eQ l).length<=l.length:=by
 unfold eQ;have:∀ (l o:List V),(l.foldl (λo x=>jc x o) o).length<=l.length+o.length:=by
  intro l
  induction l with
  | nil=>intro o;simp
  | cons x l ih=> intro o;have h1:=ih (jc x o);have a:=C5 x o;grind
 grind
def Nn(h:l.Pairwise aP):JO l:=λi j a b=>by
 have:=zGb.1 h i j u0 b a
 simpa [A,List.getD,b,show i<l.length by omega] using this
def Sl(h:l.Pairwise aP):eQ l=l:=
 oK (r:=aP) oF zp (xH l) h λx=>Di
theorem c47(n:Nat)(l:List V)(hlen:l.length<=1000000):C (n+2) 47 [bg l]=some (bg (eQ l)):=by
 rw[u47]
 delta YU qN qX qV qW iL iR Jn J0 bF bT bq nq qA qb qc qi qj Z ql qn qt qu qy
 have ll:(l.map ag).length=l.length:=zka ..;refine aZ (λi s=>s=[bg (eQ (l.take i)),I (i:Int)]) l.length 0 (zoa _) rfl (λi hi s g=>?_) (λs g=>?_)
 ·subst g;left;refine⟨[bg (eQ (l.take (i+1))),I ((i+1:Nat):Int)],?_,rfl⟩;have u:eQ (l.take (i+1))=jc (l.getD i V.zero) (eQ (l.take i)):=by
   grind [eQ,List.take_succ_eq_append_getElem,List.getD]
  have q:(eQ (l.take i)).length<=1000000:=zva (sW _) (by rw[zjb];omega)
  rw[u];obtain⟨o,t⟩:∃ o,eQ (l.take i)=o:=⟨_,rfl⟩;obtain⟨x,hx⟩:∃ x,l.getD i V.zero=x:=⟨_,rfl⟩;have c:(l.map ag)[i]?=some (ag x):=by rw[<-hx];exact ew hi
  rw[t] at q ⊢;rw[hx];have ol:(o.map ag).length=o.length:=zka ..;refine J (l.map ag) (O ah (O ac (au (by show((i:Int)<((l.map ag).length:Int));rw[ll];omega) ?_)))
  refine cH (λk s=>∃ (nx:List V) (put:Bool),s=[bg o,bg nx,.bool put,I (k:Int)]/\nx.length<=2*k/\(put=false->jc x o=nx++jc x (o.drop k))/\(put=true->jc x o=nx++(o.drop k).filter (λz=>decide (z≠x)))) o.length 0 (zoa _) ⟨[],false,rfl,j2,j2,j2⟩ (λk hk s g=>?_) (λs g=>?_)
  ·obtain⟨nx,put,rfl,p,h1,j⟩:=g;left;have r:o.drop k=o.getD k V.zero::o.drop (k+1):=by rw[zob hk];simp[List.getD,hk]
   have d:=ew hk;obtain⟨y,v⟩:∃ y,o.getD k V.zero=y:=⟨_,rfl⟩;rw[v] at r d;rw[r] at h1 j;obtain⟨f,p1,he,q0,q1,w⟩:∃ (f:List V) (p1:Bool),(if put=false/\(aP x y\/x=y) then(nx++[x],true) else(nx,put))=(f,p1)/\f.length<=2*k+1/\(p1=false->x≠y/\jc x o=f++y::jc x (o.drop (k+1)))/\(p1=true->jc x o=f++(y::o.drop (k+1)).filter (λz=>decide (z≠x))):=by
    by_cases hp:put=false/\(aP x y\/x=y)
    ·refine⟨_,_,zla hp,by simp;omega,j2,λ_=>?_⟩
     rw[h1 hp.1,jc,zla hp.2];simp
    ·refine⟨_,_,zia hp,u0,λe=>?_,λe=>j e⟩
     have hn:¬ (aP x y\/x=y):=λh=>hp ⟨e,h⟩;refine⟨λh=>hn (.inr h),?_⟩;rw[h1 e,jc,zia hn]
   refine⟨[bg o,bg (if y≠x then f++[y] else f),.bool p1,I ((k+1:Nat):Int)],?_,_,p1,rfl,?_,?_,?_⟩
   ·refine O ah (O ac (au (by show((k:Int)<((o.map ag).length:Int));rw[ol];omega) ?_))
    have app:∀ (a:List V) (z:V),D.sl ((a.map ag)++[ag z])=bg (a++[z]):=λa z=>by simp[bg]
    have m:∀ a:List V,(a.map ag).length=a.length:=λa=>zka ..;refine O (z:=(0,[bg o,bg (if y≠x then f++[y] else f),.bool p1])) ?_ (O (ay (aw (i:=k) u0)) rfl)
    refine J (l.map ag) (O (z:=i) (by rw[ll];exact aj hi) (O c (O (z:=k) (by show D.idx (I (k:Int)) (o.map ag).length=_;rw[ol];exact aj hk) (O d (O (WX n x y) (O (z:=(0,[bg o,bg f,.bool p1])) ?_ ?_))))))
    ·refine J (.bool (!put)) (O ac (O (z:=!put&&decide (aP x y\/x=y)) ?_ (O ac ?_)))
     ·cases put
      ·rw[show(!false)=true from rfl,zla rfl];refine O ac ?_;by_cases hlt:aP x y
       ·refine au hlt ?_;rw[zna (.inl hlt)];rfl
       ·refine aB hlt ?_;refine J (l.map ag) (O (z:=i) (by rw[ll];exact aj hi) (O c (O (z:=k) (by show D.idx (I (k:Int)) (o.map ag).length=_;rw[ol];exact aj hk) (O d ?_))))
        rw[kH,ac];simp[hlt]
      ·rfl
     ·by_cases hp:put=false/\(aP x y\/x=y)
      ·rw[zla hp] at he;cases he;rw[show(!put&&decide (aP x y\/x=y))=true by rw[hp.1,zna hp.2];rfl,zla rfl]
       refine J (l.map ag) (O (z:=i) (by rw[ll];exact aj hi) (O c ?_))
       rw[zla (by show(nx.map ag).length+1<=1073741824;rw[m];omega)]
       rw[<-app];rfl
      ·rw[zia hp] at he;cases he;rw[show(!put&&decide (aP x y\/x=y))=false by
        cases hput:put
        ·have:¬ (aP x y\/x=y):=λh=>hp ⟨hput,h⟩;simp[this]
        ·rfl]
       rfl
    ·refine O (z:=k) (by show D.idx (I (k:Int)) (o.map ag).length=_;rw[ol];exact aj hk) (O d (J (l.map ag) (O (z:=i) (by rw[ll];exact aj hi) (O c ?_))))
     rw[kH];refine O ac ?_;by_cases b:y=x
     ·rw[zna b,zia (show ¬ (y≠x) from λh=>h b)];rfl
     ·rw[zfa b,zla (show y≠x from b),show(!false)=true from rfl,zla rfl];refine O (z:=k) (by show D.idx (I (k:Int)) (o.map ag).length=_;rw[ol];exact aj hk) (O d ?_)
      rw[zla (by show(f.map ag).length+1<=1073741824;rw[m];omega)]
      rw[<-app];rfl
   ·split
    ·simp;omega
    ·omega
   ·intro e;obtain⟨r1,A⟩:=q1 e;rw[zla (λh=>r1 h.symm),A];simp
   ·intro e;rw[w e,List.filter_cons];by_cases b:y=x
    ·simp[b]
    ·simp[b]
  ·obtain⟨nx,put,rfl,p,h1,j⟩:=g;refine⟨(0,[bg nx,.bool put]),?_,?_⟩
   ·exact O ah (O ac (aB (by show ¬ ((o.length:Int)<((o.map ag).length:Int));rw[ol];omega) rfl))
   ·have m:∀ a:List V,(a.map ag).length=a.length:=λa=>zka ..;rw[zFc] at h1 j;refine O (z:=(0,[bg (jc x o)])) ?_ (O (ay (aw (i:=i) u0)) rfl)
    refine J (.bool (!put)) (O ac ?_);cases put
    ·rw[show(!false)=true from rfl,zla rfl];refine J (l.map ag) (O (z:=i) (by rw[ll];exact aj hi) (O c ?_))
     rw[zla (by show(nx.map ag).length+1<=1073741824;rw[m];omega)]
     rw[h1 rfl];simp[jc,bg,g0,D.els]
    ·have:=j rfl;simp only[List.filter_nil,zVb] at this;rw[this];rfl
 ·subst g;rw[z8a];refine⟨(0,[bg (eQ l)]),?_,rfl⟩;exact J (l.map ag) (O ah (O ac (aB (by show ¬ ((l.length:Int)<((l.map ag).length:Int));rw[ll];omega) rfl)))
structure FOk(l:List V)(F:FL):Prop where
 ord:F.Pairwise (λa b=>aP a.1.1 b.1.1)
 ok:∀ f∈F,IsF (A l) l.length f.1.1 f.1.2/\bZ (A l) l.length f.1.1 f.1.2 f.2
theorem nO{f x:(V×Int)×List Nat}:∀ {L:FL},x∈nr f L↔x=f\/x∈L
 | []=>by simp[nr]
 | y::L=>by have ih:=nO (f:=f) (x:=x) (L:=L);grind [nr]
theorem C4:∀ {L:FL},L.Pairwise (λa b=>aP a.1.1 b.1.1)->(∀ x∈L,x.1.1≠f.1.1)->(nr f L).Pairwise (λa b=>aP a.1.1 b.1.1)
 | [],_,_=>by simp[nr]
 | y::L,h,hn=>by
  obtain⟨h1,e⟩:=zNa.1 h;unfold nr;split
  ·rename_i k;refine zNa.2 ⟨λz c=>?_,h⟩;rcases zOa.1 c with rfl|c
   ·exact k
   ·exact nI k (h1 z c)
  ·rename_i k;refine zNa.2 ⟨λz c=>?_,C4 e λx hx=>hn x (zsa _ hx)⟩;rcases nO.1 c with rfl|c
   ·rcases t6 (hn y zBa) with d|d
    ·exact d
    ·simp_all
   ·grind
def GG(l:List V):List (V×Int):=(List.range l.length).flatMap λi=>(List.range l.length).flatMap λj=>(List.range l.length).flatMap λk=>[(aS (gq (A l) i j k),V.dot (aS (gq (A l) i j k)) (A l i)),((aS (gq (A l) i j k)).neg,V.dot (aS (gq (A l) i j k)).neg (A l i))]
def Ii(l:List V)(h:l.length<=100):(GG l).length<=2000000:=by
 unfold GG;rw[qg (c:=l.length*(l.length*2)) _ (λi _=>by rw[qg (c:=l.length*2) _ (λj _=>by rw[qg (c:=2) _ (λk _=>rfl),zcc]),zcc]),zcc]
 have a1:l.length*2<=200:=u0
 have a2:=zFa h a1;exact zFa h a2
theorem IA{q:V×Int}(h:IsF (A l) l.length q.1 q.2):q∈GG l:=by
 obtain⟨i,j,k,h1,b,a,c,d,e⟩:=h.ex;refine zqb.2 ⟨i,zRa.2 u0,zqb.2 ⟨j,zRa.2 u0,zqb.2 ⟨k,zRa.2 a,?_⟩⟩⟩
 grind
def FOk.len(h:FOk l F)(hl:l.length<=100):F.length<=2000000:=by
 have nd:(F.map Prod.fst).Nodup:=by refine List.pairwise_map.2 (h.ord.imp λ{a b} c e=>?_);rw[e] at c;exact oF _ c
 have:=zhc (l₂:=GG l) nd λq hq=>by obtain⟨f,d,rfl⟩:=zmb.1 hq;exact IA (h.ok f d).1
 rw[zka] at this;exact zva this (Ii l hl)
def FOk.insert(h:FOk l F)(hn:∀ x∈F,x.1.1≠f.1.1)(h1:IsF (A l) l.length f.1.1 f.1.2)(a:bZ (A l) l.length f.1.1 f.1.2 f.2):FOk l (nr f F):=
 ⟨C4 h.ord hn,λx hx=>by
  rcases nO.1 hx with rfl|hx
  ·simp_all
  ·exact h.ok x hx⟩
theorem xp{v:V}:aS v=V.zero↔v=V.zero:=by
 constructor
 ·intro h;by_cases a:v=V.zero
  ·exact a
  ·exact zgb h (vI a)
 ·simp_all [aS,V.zero]
theorem IV{v:V}:v.neg=V.zero↔v=V.zero:=by
 constructor
 ·intro h;by_cases a:v=V.zero
  ·exact a
  ·exact zgb h (MA a)
 ·simp_all [V.neg,V.zero]
def aq{α β:Type}{A:Option α}{g:α->Option β}{z:α}{Y:β->Prop}(h:A=some z)(hk:∃ y,g z=some y/\Y y):∃ y,Option.bind A g=some y/\Y y:=by simp_all
def iT{β:Type}{p:Prop}[Decidable p]{A B:Option β}{Y:β->Prop}(h:p)(a:∃ y,A=some y/\Y y):∃ y,(if decide p=true then A else B)=some y/\Y y:=by rw[zla (zna h)];exact a
def AP{β:Type}{p:Prop}[Decidable p]{A B:Option β}{Y:β->Prop}(h:¬ p)(a:∃ y,B=some y/\Y y):∃ y,(if decide p=true then A else B)=some y/\Y y:=by rw[zia (by simpa using h)];exact a
theorem Nz(n:Nat)(hl:∀ x∈l,bd MV x)(hlen:l.length<=100)(S:JO l)(r:FOk l F){i k:Nat}(t:i<j)(u:j<k)(hk:k<l.length){m:V}(hm:m=aS (gq (A l) i j k)\/m=(aS (gq (A l) i j k)).neg){α:Type}{g:D->Nat×List D->Option α}{Y:α->Prop}
  (s:∀ F':FL,FOk l F'->(∀ f∈F,f∈F')->(gq (A l) i j k≠V.zero->Ey (A l) l.length m (V.dot m (A l i))->(m,V.dot m (A l i))∈F'.map Prod.fst)->∃ y,g (I (V.dot m (A l i))) (0,[.sl (aU F')])=some y/\Y y) :
  ∃ y,((C (n+4) 107 [ag m,ag (A l i)]).bind λo=>
  (C (n+4) 108 [.sl (aU F),ag m]).bind λK=>
  Option.bind ((akz .not K).bind λX=>
  (D.truth X).bind λa2=>
  Option.bind (if a2 then((akz .not (D.bool (D.beq (ag m) (D.st [(D.int .i64 0),(D.int .i64 0),(D.int .i64 0)])))).bind λQ=>
  D.truth Q) else(some false)) λB=>
  (D.truth (D.bool B)).bind λa1=>
  Option.bind (if a1 then((C (n+4) 109 [bg l,ag m,o]).bind λL=>
  D.truth L) else(some false)) λE=>
  (D.truth (D.bool E)).bind λG=>
  if G then((C (n+4) 111 [bg l,ag m,o]).bind λM=>
  (C (n+4) 110 [.sl (aU F),(D.st [ag m,o,M])]).bind λN=>
  some (0,[N])) else(some (0,[.sl (aU F)]))) (g o))=some y/\Y y:=by
 have hi:i<l.length:=u0
 have R:=fJ (jU (pi (P:=A l) (hl _ (de hi)) (hl _ (de (show j<l.length by omega)))) (pi (P:=A l) (hl _ (de hi)) (hl _ (de hk))))
 have a0:bd 549755813888 m:=by
  rcases hm with rfl|rfl
  ·exact R
  ·exact tn R
 have U:=r.len hlen;have v:m=V.zero↔gq (A l) i j k=V.zero:=by all_goals grind [IV,xp]
 refine aq (H9 (n+3) a0 (hl _ (de hi)) H) (aq (adQ (n+3) F m u0) ?_)
 obtain⟨d,W⟩:∃ d,V.dot m (l.getD i V.zero)=d:=⟨_,rfl⟩;have c:V.dot m (A l i)=d:=W;rw[c] at s;rw[c];by_cases hkn:(F.any λf=>decide (f.1.1=m))=true
 ·rw[hkn];refine aq (z:=(0,[.sl (aU F)])) (J (.bool false) (J false (J false (J false (J false (J false rfl)))))) (s F r (λf b=>b) λht a=>?_);obtain⟨f,b,h⟩:=zrc.1 hkn;have h:f.1.1=m:=by simpa using h
  have h1:=(r.ok f b).1;rw[h] at h1;have T:IsF (A l) l.length m d:=⟨⟨i,j,k,t,u,hk,ht,hm,c.symm⟩,a⟩;exact zmb.2 ⟨f,b,Prod.ext h (akC h1 T)⟩
 ·rw[Bool.not_eq_true] at hkn;rw[hkn];have Z:∀ f∈F,f.1.1≠m:=λf b e=>by
   grind
  by_cases hz:m=V.zero
  ·refine aq (z:=(0,[.sl (aU F)])) (J (.bool true) (J true (O (z:=false) ?_ (J false (J false (J false rfl)))))) (s F r (λf b=>b) λht a=>zgb (v.1 hz) ht);rw[zla rfl,wI,kH,zna (show m=⟨0,0,0⟩ from hz)];rfl
  ·have ht:gq (A l) i j k≠V.zero:=λe=>hz (v.2 e);have hc:=adR (n+2) (d:=d) hl a0 H u0
   by_cases a:supp l (m,d)=true
   ·have q:IsF (A l) l.length m d:=⟨⟨i,j,k,t,u,hk,ht,hm,c.symm⟩,sZ.1 a⟩;obtain⟨p,hp,_,_⟩:=q.poly S;refine aq (z:=(0,[.sl (aU (nr ((m,d),p) F))])) (J (.bool true) (J true (O (z:=true) ?_ (J true (O (z:=true) ?_ (J true ?_)))))) (s _ (r.insert Z q hp) (λf b=>nO.2 (.inr b)) λ_ _=>zmb.2 ⟨((m,d),p),nO.2 (.inl rfl),rfl⟩)
    ·rw[zla rfl,wI,kH,zfa (show ¬ m=⟨0,0,0⟩ from hz)];rfl
    ·rw[zla rfl];refine O hc ?_;rw[ac];exact zIa some a
    ·rw[zla rfl];exact O (afi n hl hlen S q a0 hp) (O (adS (n+2) F ((m,d),p) u0) rfl)
   ·refine aq (z:=(0,[.sl (aU F)])) (J (.bool true) (J true (O (z:=true) ?_ (J true (O (z:=false) ?_ (J false rfl)))))) (s F r (λf b=>b) λ_ w=>zgb (sZ.2 w) a)
    ·rw[zla rfl,wI,kH,zfa (show ¬ m=⟨0,0,0⟩ from hz)];rfl
    ·rw[zla rfl];refine O hc ?_;rw[ac];exact zIa some (zoc.2 a)
structure KnF(l:List V)(i j k:Nat)(F:FL):Prop where
 fok:FOk l F
 all:∀ i' j' k',i'<j'->j'<k'->k'<l.length->(i'<i\/i'=i/\(j'<j\/j'=j/\k'<k))->gq (A l) i' j' k'≠V.zero->∀ m,(m=aS (gq (A l) i' j' k')\/m=(aS (gq (A l) i' j' k')).neg)->Ey (A l) l.length m (V.dot m (A l i'))->(m,V.dot m (A l i'))∈F.map Prod.fst
def KnF.mono{i k i2:Nat}(h:KnF l i j k F)(hm:∀ d b e,d<b->b<e->e<l.length->(d<i2\/d=i2/\(b<a\/b=a/\e<c))->(d<i\/d=i/\(b<j\/b=j/\e<k))):KnF l i2 a c F:=
 ⟨h.fok,λd b e h1 f g m=>h.all d b e h1 f g (hm d b e h1 f g m)⟩
def KnF.facets(h:KnF l l.length 0 0 F):Facets (A l) l.length (F.map Prod.fst):=by
 refine⟨List.pairwise_map.2 h.fok.ord,λq=>⟨λhq=>?_,λhq=>?_⟩⟩
 ·obtain⟨f,g,rfl⟩:=zmb.1 hq;exact(h.fok.ok f g).1
 ·obtain⟨⟨i,j,k,h1,c,e,c1,c2,a⟩,b⟩:=hq;obtain⟨m,d⟩:=q;simp only at c2 a b;subst a;exact h.all i j k h1 c e (.inl u0) c1 m c2 b
end
def mt(p:V):Nat->V
 | 0=>p
 | 1=>p.neg
 | _=>p
def c48(n:Nat){l:List V}(hl:∀ x∈l,bd MV x)(hlen:l.length<=100)(R:JO l):∃ F:FL,KnF l l.length 0 0 F/\C (n+7) 48 [bg l]=some (.sl (aU F)):=by
 suffices h:∃ y,C (n+7) 48 [bg l]=some y/\∃ F:FL,KnF l l.length 0 0 F/\y=.sl (aU F) by grind
 rw[u48]
 delta YV qN qX iL iR J0 J2 bq qA qa qb qc qj Z ql qy qz
 have ll:(l.map ag).length=l.length:=zka ..;refine nK (λi s=>∃ F:FL,s=[.sl (aU F),I (i:Int)]/\KnF l i 0 0 F) l.length 0 (zoa _) ⟨[],rfl,⟨.nil,j2⟩,λd g o h1 c q u=>u0⟩ (λi hi s a=>?_) (λs a=>?_)
 ·obtain⟨F,rfl,b⟩:=a;refine aq (z:=l.map ag) rfl (aq ah (aq ac (iT (by show((i:Int)<((l.map ag).length:Int));rw[ll];omega) (aq (ay (aw (i:=i) u0)) ?_))))
  refine nK (λj s=>i+1<=j/\∃ F:FL,s=[.sl (aU F),I (j:Int)]/\KnF l i j 0 F) l.length (i+1) u0 ⟨zja _,F,rfl,b.mono λd g o h1 c q u=>u0⟩ (λj v s a=>?_) (λs a=>?_)
  ·obtain⟨a0,F,rfl,b⟩:=a;refine aq (z:=l.map ag) rfl (aq ah (aq ac (iT (by show((j:Int)<((l.map ag).length:Int));rw[ll];omega) (aq (ay (aw (i:=j) u0)) ?_))))
   refine nK (λk s=>j+1<=k/\∃ F:FL,s=[.sl (aU F),I (k:Int)]/\KnF l i j k F) l.length (j+1) u0 ⟨zja _,F,rfl,b.mono λd g o h1 c q u=>u0⟩ (λk hk s a=>?_) (λs a=>?_)
   ·obtain⟨B,F,rfl,b⟩:=a;refine aq (z:=l.map ag) rfl (aq ah (aq ac (iT (by show((k:Int)<((l.map ag).length:Int));rw[ll];omega) ?_)))
    refine aq (z:=l.map ag) rfl (aq (z:=i) (by rw[ll];exact aj hi) (aq (ew hi) (aq (z:=l.map ag) rfl (aq (z:=j) (by rw[ll];exact aj v) (aq (ew v) (aq (z:=l.map ag) rfl (aq (z:=k) (by rw[ll];exact aj hk) (aq (ew hk) (aq (z:=ag (aS (gq (A l) i j k))) (adP n (hl _ (de hi)) (hl _ (de v)) (hl _ (de hk))) ?_)))))))))
    have w:bd 549755813888 (aS (gq (A l) i j k)):=fJ (jU (pi (P:=A l) (hl _ (de hi)) (hl _ (de v))) (pi (P:=A l) (hl _ (de hi)) (hl _ (de hk))));obtain⟨p,hp⟩:∃ p,aS (gq (A l) i j k)=p:=⟨_,rfl⟩;rw[hp] at w ⊢;have z0:bd 0 V.zero:=by simp only[bd,V.zero];omega
    have Q:V.zero.sub p=p.neg:=by apply V.ext'<;>simp[V.sub,V.neg,V.zero]
    have K:V.zero.sub p.neg=p:=by apply V.ext'<;>simp[V.sub,V.neg,V.zero]
    refine nK (λt s=>∃ F':FL,s=[.sl (aU F'),I (t:Int),ag (mt p t)]/\FOk l F'/\(∀ f∈F,f∈F')/\(1<=t->gq (A l) i j k≠V.zero->Ey (A l) l.length p (V.dot p (A l i))->(p,V.dot p (A l i))∈F'.map Prod.fst)/\(2<=t->gq (A l) i j k≠V.zero->Ey (A l) l.length p.neg (V.dot p.neg (A l i))->(p.neg,V.dot p.neg (A l i))∈F'.map Prod.fst)) 2 0 u0 ⟨F,rfl,b.fok,λf r=>r,λh=>u0,λh=>u0⟩ (λt ht s a=>?_) (λs a=>?_)
    ·obtain⟨F',rfl,f1,f2,f3,f4⟩:=a;refine aq ah (aq ac (iT (by show((t:Int)<2);omega) (aq (z:=l.map ag) rfl (aq (z:=i) (by rw[ll];exact aj hi) (aq (ew hi) ?_)))))
     have S:t=0\/t=1:=u0
     simp only[g0,g1,g2];rcases S with rfl|rfl
     ·rw[show mt p 0=p from rfl];refine Nz (n+2) hl hlen R f1 (show i<j by omega) (show j<k by omega) hk (m:=p) (.inl hp.symm) (λF2 D E G=>?_)
      refine⟨.inl [.sl (aU F2),I ((0+1:Nat):Int),ag p.neg],?_,?_⟩
      ·refine O (z:=ag p.neg) ?_ ?_
       ·have:=Ia (n+5) z0 w H
        rw[Q] at this;exact this
       ·exact O (ay Tf) rfl
      ·exact⟨F2,rfl,D,λf r=>E f (f2 f r),λ_=>G,λh=>u0⟩
     ·rw[show mt p 1=p.neg from rfl];refine Nz (n+2) hl hlen R f1 (show i<j by omega) (show j<k by omega) hk (m:=p.neg) (.inr (by rw[hp])) (λF2 D E G=>?_)
      refine⟨.inl [.sl (aU F2),I ((1+1:Nat):Int),ag p],?_,F2,rfl,D,λf r=>E f (f2 f r),λ_ h1 c=>?_,λ_=>G⟩
      ·refine O (z:=ag p) ?_ ?_
       ·have:=Ia (n+5) z0 (tn w) H
        rw[K] at this;exact this
       ·exact O (ay yb) rfl
      ·grind
    ·obtain⟨F',rfl,f1,f2,f3,f4⟩:=a;refine⟨.inr (0,[.sl (aU F')]),O ah (O ac (aB H rfl)),.inl [.sl (aU F'),I ((k+1:Nat):Int)],O (ay (aw (i:=k) u0)) rfl,u0,F',rfl,f1,λd g o h1 c q u L m M N=>?_⟩
     by_cases e:d=i/\g=j/\o=k
     ·grind
     ·obtain⟨f,r,e⟩:=zmb.1 (b.all d g o h1 c q u0 L m M N)
      grind
   ·obtain⟨B,F,rfl,b⟩:=a;refine⟨.inr (0,[.sl (aU F)]),?_,.inl [.sl (aU F),I ((j+1:Nat):Int)],O (ay (aw (i:=j) u0)) rfl,u0,F,rfl,b.mono λd g o h1 c q u=>u0⟩
    exact J (l.map ag) (O ah (O ac (aB (by show ¬ ((l.length:Int)<((l.map ag).length:Int));rw[ll];omega) rfl)))
  ·obtain⟨a0,F,rfl,b⟩:=a;refine⟨.inr (0,[.sl (aU F)]),?_,.inl [.sl (aU F),I ((i+1:Nat):Int)],O (ay (aw (i:=i) u0)) rfl,F,rfl,b.mono λd g o h1 c q u=>u0⟩
   exact J (l.map ag) (O ah (O ac (aB (by show ¬ ((l.length:Int)<((l.map ag).length:Int));rw[ll];omega) rfl)))
 ·obtain⟨F,rfl,b⟩:=a;refine⟨.inr (0,[.sl (aU F)]),?_,.sl (aU F),rfl,F,b,rfl⟩;exact J (l.map ag) (O ah (O ac (aB (by show ¬ ((l.length:Int)<((l.map ag).length:Int));rw[ll];omega) rfl)))
section
variable{l:List V}
theorem aG(l:List V):(l.map ag).length=l.length:=zka ..
theorem c13(n:Nat)(a b:List V)(r:a.length<=1000000):C (n+1) 13 [bg a,bg b]=some (.bool (decide (a=b))):=by
 rw[u13]
 delta YM qS qX iL iR J0 bF bT jl nq qj ql qr qt qy
 refine J (a.map ag) (J (b.map ag) ?_);rw[aG,aG,cZ];by_cases hab:a.length=b.length
 ·rw[zna hab];refine J false ?_;rw[zia H]
  refine aZ (λi s=>s=[I (i:Int)]/\a.take i=b.take i) a.length 0 (zoa _) ⟨rfl,j2⟩ (λi hi s h=>?_) (λs h=>?_)
  ·obtain⟨rfl,j⟩:=h;have f:i<b.length:=u0
   have pre:∀ z,((D.truth (D.bool (!(D.beq (ag (a.getD i V.zero)) (ag (b.getD i V.zero)))))).bind λc=>
     if c then(some (Sum.inr (0,[(D.bool false)]))) else((akk .add (I (i:Int)) (D.int .i64 1)).bind λd=>some (Sum.inl [d])))=some z ->
     ((D.asSl (bg a)).bind λp=>(akk .lss (I (i:Int)) (D.int .i64 (List.length p))).bind λq=>(D.truth q).bind λo=>
     if o then((D.asSl (bg a)).bind λm=>(D.idx (I (i:Int)) (List.length m)).bind λi9=>(m[i9]?).bind λk=>(D.asSl (bg b)).bind λg=>(D.idx (I (i:Int)) (List.length g)).bind λyb=>(g[yb]?).bind λl=>
     (D.truth (D.bool (!(D.beq k l)))).bind λc=>
     if c then(some (Sum.inr (0,[(D.bool false)]))) else((akk .add (I (i:Int)) (D.int .i64 1)).bind λd=>some (Sum.inl [d]))) else(some (Sum.inr (1,[]):Sum (List D) (Nat×List D))))=some z:=λz j=>
    J (a.map ag) (O ah (O ac (au (by show((i:Int)<((a.map ag).length:Int));rw[aG];omega) (J (a.map ag) (O (z:=i) (by rw[aG];exact aj hi) (O (ew hi) (J (b.map ag) (O (z:=i) (by rw[aG];exact aj f) (O (ew f) j)))))))))
   rw[kH] at pre;by_cases he:a.getD i V.zero=b.getD i V.zero
   ·left;refine⟨[I ((i+1:Nat):Int)],pre _ ?_,rfl,?_⟩
    ·rw[zna he];refine J false ?_;rw[zia H]
     exact O (ay (aw (i:=i) u0)) rfl
    ·grind [List.take_succ_eq_append_getElem]
   ·right;refine⟨(0,[.bool false]),pre _ ?_,?_⟩
    ·rw[zfa he];rfl
    ·rw[zfa (λe=>he (by rw[e]))];rfl
  ·obtain⟨rfl,j⟩:=h;refine⟨(1,[]),?_,?_⟩
   ·exact J (a.map ag) (O ah (O ac (aB (by show ¬ ((a.length:Int)<((a.map ag).length:Int));rw[aG];omega) rfl)))
   ·grind
 ·rw[zfa hab,zfa (λe=>hab (by rw[e]))]
  rfl
instance decBd (k:Int) (v:V):Decidable (bd k v):=by unfold bd;exact inferInstance
def rM(v:V):Nat->Int
 | 0=>v.x
 | 1=>v.y
 | _=>v.z
def LN(v:V){t:Nat}(h:t<3):D.fld (ag v) t=some (I (rM v t)):=by
 have:t=0\/t=1\/t=2:=u0
 rcases this with rfl|rfl|rfl<;>rfl
theorem Gy{v:V}:bd MV v↔∀ t,t<3->¬ (rM v t>262144)/\¬ (rM v t < -262144):=by
 constructor
 ·intro h t ht;have:t=0\/t=1\/t=2:=u0
  grind [bd,MV,rM]
 ·intro h;have h0:=h 0 H;have h1:=h 1 H;have a:=h 2 H
  simp_all [rM,bd,MV]
def lE(F:FL)(i:Nat):Bool:=F.any λf=>f.2.any λx=>decide (x=i)
def dY(S:List V)(F:FL)(k:Nat):List V:=((List.range k).filter (lE F)).map (A S)
theorem Ge(S:List V)(F:FL)(k:Nat):dY S F (k+1)=if lE F k then dY S F k++[A S k] else dY S F k:=by grind [dY,List.range_succ]
theorem Aj(S:List V)(F:FL)(k:Nat):(dY S F k).length<=k:=by grind [dY,List.length_map]
def EQ(e:Int):D:=.st [.st [.sl []],I e]
def Hd(S:List V)(F:FL):D:=if F.length=0 then EQ 120 else if F.length>64 then EQ 2 else .st [.st [bg (dY S F S.length)],I 0]
def QC(n:Nat)(h:64<l.length):C (n+1) 12 [bg l]=some (EQ 2):=by
 rw[u12]
 delta Wl qC qT qS qX qV qW iL iR Jn J0 J1 J2 J3 bF bq jl qO qb qc qe qf qh qi qj Z ql qt qu qy
 exact J (l.map ag) (O cn (O ac (au (by show((l.map ag).length:Int)>64;rw[aG];omega) rfl)))
def Vj{i:Nat}(hi:i<l.length){α:Type}{k:Nat×List D->Option α}{y:α}(B:k (if bd MV (l.getD i V.zero) then(1,[.sl [],I 0]) else(0,[.sl [],I 1]))=some y) :
  Option.bind (F (λ(j:List D)=>
 (akk .lss (Y j 0) (D.int .i64 3)).bind λS=>
 (D.truth S).bind λm=>
 if m then((D.asSl (bg l)).bind λc=>
 (D.idx (I (i:Int)) (List.length c)).bind λyb=>
 (c[yb]?).bind λr=>
 (D.idx (Y j 0) 3).bind λi14=>
 (D.fld r i14).bind λu=>
 (akk .gtr u (D.int .i64 262144)).bind λv=>
 (D.truth v).bind λn=>
 Option.bind (if n then(some true) else((D.asSl (bg l)).bind λd=>
 (D.idx (I (i:Int)) (List.length d)).bind λi19=>
 (d[i19]?).bind λw=>
 (D.idx (Y j 0) 3).bind λi21=>
 (D.fld w i21).bind λx=>
 (akk .lss x (D.int .i64 (-262144))).bind λA=>
 D.truth A)) λo=>
 (D.truth (D.bool o)).bind λp=>
 if p then(some (Sum.inr (0,[(D.sl []),(D.int .i64 1)]))) else((akk .add (Y j 0) (D.int .i64 1)).bind λf=>
 some (Sum.inl [f,(D.sl (D.els (Y j 1))),(Y j 2)]))) else(some (Sum.inr (1,[(D.sl (D.els (Y j 1))),(Y j 2)])))) [(D.int .i64 0),.sl [],I 0]) k=some y:=by
 refine cH (λt s=>s=[I (t:Int),.sl [],I 0]/\∀ q,q<t->¬ (rM (l.getD i V.zero) q>262144)/\¬ (rM (l.getD i V.zero) q < -262144)) 3 0 H ⟨rfl,λq h=>u0⟩ (λt ht s C=>?_) (λs C=>?_)
 ·obtain⟨rfl,E⟩:=C;have G:=LN (l.getD i V.zero) ht;have M:=aj ht;have pre:∀ z,(if decide (rM (l.getD i V.zero) t>262144\/rM (l.getD i V.zero) t < -262144)=true then(some (Sum.inr (0,[(D.sl []),(D.int .i64 1)]))) else((akk .add (I (t:Int)) (D.int .i64 1)).bind λf=>some (Sum.inl [f,.sl [],I 0])))=some z->_:=λ(z:Sum (List D) (Nat×List D)) hz'=>
   O (g:=λS=>(D.truth S).bind λm=>if m then((D.asSl (bg l)).bind λc=>(D.idx (I (i:Int)) (List.length c)).bind λyb=>(c[yb]?).bind λr=>(D.idx (I (t:Int)) 3).bind λi14=>(D.fld r i14).bind λu=>(akk .gtr u (D.int .i64 262144)).bind λv=>(D.truth v).bind λn=>
    Option.bind (if n then(some true) else((D.asSl (bg l)).bind λd=>(D.idx (I (i:Int)) (List.length d)).bind λi19=>(d[i19]?).bind λw=>(D.idx (I (t:Int)) 3).bind λi21=>(D.fld w i21).bind λx=>(akk .lss x (D.int .i64 (-262144))).bind λA=>D.truth A)) λo=>
    (D.truth (D.bool o)).bind λp=>
    if p then(some (Sum.inr (0,[(D.sl []),(D.int .i64 1)]))) else((akk .add (I (t:Int)) (D.int .i64 1)).bind λf=>some (Sum.inl [f,.sl [],I 0]))) else(some (Sum.inr (1,[.sl [],I 0]))))
    (ah (a:=(t:Int)) (b:=3)) (y:=z) (O ac (au u0 (J (l.map ag) (O (z:=i) (by rw[aG];exact aj hi) (O (ew hi) (O M (O G (O cn (O ac (O (z:=decide (rM (l.getD i V.zero) t>262144\/rM (l.getD i V.zero) t < -262144)) (by
     by_cases h1:rM (l.getD i V.zero) t>262144
     ·refine au h1 ?_;rw[zna (.inl h1)]
     ·refine aB h1 (J (l.map ag) (O (z:=i) (by rw[aG];exact aj hi) (O (ew hi) (O M (O G (O ah ?_))))))
      rw[ac];congr 1;rw[decide_eq_decide];exact⟨.inr,λh=>h.resolve_left h1⟩) (O ac hz')))))))))))
  by_cases hb:rM (l.getD i V.zero) t>262144\/rM (l.getD i V.zero) t < -262144
  ·right;refine⟨_,pre _ (au hb rfl),?_⟩;rw[zia (λh=>by have:=Gy.1 h t ht;omega)] at B
   exact B
  ·left;refine⟨[I ((t+1:Nat):Int),.sl [],I 0],pre _ (aB hb (O (ay (aw (i:=t) u0)) rfl)),rfl,λq K=>?_⟩
   by_cases e:q=t
   ·subst e;omega
   ·exact E q u0
 ·obtain⟨rfl,E⟩:=C;refine⟨(1,[.sl [],I 0]),O ah (O ac (aB H rfl)),?_⟩
  rw[zla (Gy.2 E)] at B;exact B
def QB(n:Nat)(hlen:l.length<=64)(d:¬ ∀ x∈l,bd MV x):C (n+1) 12 [bg l]=some (EQ 1):=by
 rw[u12]
 delta Wl qC qT qS qX qV qW iL iR Jn J0 J1 J2 J3 bF bq jl qO qb qc qe qf qh qi qj Z ql qt qu qy
 refine J (l.map ag) (O cn (O ac (aB (by show ¬ ((l.map ag).length:Int)>64;rw[aG];omega) ?_)))
 refine aZ (λi s=>s=[I (i:Int),.sl [],I 0]/\∀ x∈l.take i,bd MV x) l.length 0 (zoa _) ⟨rfl,j2⟩ (λi hi s c=>?_) (λs c=>?_)
 ·obtain⟨rfl,b⟩:=c;by_cases hx:bd MV (l.getD i V.zero)
  ·left;refine⟨[I ((i+1:Nat):Int),.sl [],I 0],?_,rfl,λx a=>?_⟩
   ·refine J (l.map ag) (O ah (O ac (au (by show((i:Int)<((l.map ag).length:Int));rw[aG];omega) (Vj hi ?_))))
    rw[zla hx,zia (show ¬ (1:Nat)=0 by decide)]
    exact O (ay (aw (i:=i) u0)) rfl
   ·rw[zxa hi] at a;rcases zKa.1 a with h|h
    ·exact b x h
    ·rw[zUa.1 h];simpa [List.getD,hi] using hx
  ·right;refine⟨(0,[.sl [],I 1]),?_,rfl⟩;refine J (l.map ag) (O ah (O ac (au (by show((i:Int)<((l.map ag).length:Int));rw[aG];omega) (Vj hi ?_))))
   rw[zia hx];rfl
 ·obtain⟨rfl,b⟩:=c;rw[z8a] at b;exact zgb b d
theorem KR(n:Nat)(hlen:l.length<=64)(hl:∀ x∈l,bd MV x){F:FL}(q:∀ f∈F,f.2.length<=1000000)(v:F.length<=3000000)(d:C (n+2) 48 [bg (eQ l)]=some (.sl (aU F))):C (n+3) 12 [bg l]=some (Hd (eQ l) F):=by
 rw[u12]
 delta Wl qC qT qS qX qV qW iL iR Jn J0 J1 J2 J3 bF bq jl qO qb qc qe qf qh qi qj Z ql qt qu qy
 refine J (l.map ag) (O cn (O ac (aB (by show ¬ ((l.map ag).length:Int)>64;rw[aG];omega) ?_)))
 refine aZ (λi s=>s=[I (i:Int),.sl [],I 0]) l.length 0 (zoa _) rfl (λi hi s a=>?_) (λs a=>?_)
 ·subst a;left;refine⟨[I ((i+1:Nat):Int),.sl [],I 0],?_,rfl⟩;refine J (l.map ag) (O ah (O ac (au (by show((i:Int)<((l.map ag).length:Int));rw[aG];omega) (Vj hi ?_))))
  rw[zla (hl _ (de hi)),zia (show ¬ (1:Nat)=0 by decide)]
  exact O (ay (aw (i:=i) u0)) rfl
 ·subst a;refine⟨(1,[.sl [],I 0]),J (l.map ag) (O ah (O ac (aB (by show ¬ ((l.length:Int)<((l.map ag).length:Int));rw[aG];omega) rfl))),?_⟩
  rw[zia (show ¬ (1:Nat)=0 by decide)]
  have e:=zva (sW l) hlen;refine O (c47 n l u0) (O d (J (aU F) ?_))
  obtain⟨S,w⟩:∃ S,eQ l=S:=⟨_,rfl⟩;rw[w] at e ⊢;rw[bE,show D.beq (D.int .i64 (F.length:Nat)) (D.int .i64 0)=decide (F.length=0) from cZ F.length 0];refine O ac ?_;unfold Hd;by_cases h0:F.length=0
  ·refine au h0 ?_;rw[zla h0];rfl
  refine aB h0 (J (aU F) (O cn (O ac ?_)));rw[zia h0];by_cases h64:F.length>64
  ·refine au (by rw[bE];omega) ?_
   rw[zla h64];rfl
  refine aB (by rw[bE];omega) ?_
  rw[zia h64];refine aZ (λi s=>s=[I (i:Int),.sl [],I 0,bg (dY S F i),I 0]) S.length 0 (zoa _) rfl (λi hi s a=>?_) (λs a=>?_)
  ·subst a;left;refine⟨[I ((i+1:Nat):Int),.sl [],I 0,bg (dY S F (i+1)),I 0],?_,rfl⟩;have E:=Aj S F i;refine J (S.map ag) (O ah (O ac (au (by show((i:Int)<((S.map ag).length:Int));rw[aG];omega) ?_)))
   refine O (z:=(0,[.sl [],I 0,bg (dY S F (i+1)),I 0])) ?_ (O (ay (aw (i:=i) u0)) rfl)
   refine cH (λk s=>s=[.bool (lE (F.take k) i),I (k:Int),.sl [],I 0,bg (dY S F i),I 0]) F.length 0 (zoa _) rfl (λk hk s a=>?_) (λs a=>?_)
   ·subst a;left;refine⟨[.bool (lE (F.take (k+1)) i),I ((k+1:Nat):Int),.sl [],I 0,bg (dY S F i),I 0],?_,rfl⟩;have o:=q F[k] (zGa hk);have a0:lE (F.take (k+1)) i=(lE (F.take k) i||F[k].2.any λx=>decide (x=i)):=by
     grind [lE,List.take_succ_eq_append_getElem]
    refine J (aU F) (O ah (O ac (au (by show((k:Int)<((aU F).length:Int));rw[bE];omega) ?_)))
    have c:∀ {β:Type} {g:List D->Option β} {y:β},g (u F[k].2)=some y->((D.asSl (.sl (aU F))).bind λb=>(D.idx (I (k:Int)) (List.length b)).bind λi47=>(b[i47]?).bind λr=>(D.fld r 2).bind λt=>(D.asSl t).bind g)=some y:=λh=> J (aU F) (O (z:=k) (by rw[bE];exact aj hk) (O (io hk) (J (.sl (u F[k].2)) (J (u F[k].2) h))))
    rw[a0];generalize lE (F.take k) i=b0;obtain⟨p,hp⟩:∃ p,F[k].2=p:=⟨_,rfl⟩;rw[hp] at o c ⊢;refine cH (λj s=>s=[.bool (b0||(p.take j).any λx=>decide (x=i)),I (j:Int),.sl [],I 0,bg (dY S F i),I 0]) p.length 0 (zoa _) (by rw[List.take_zero,List.any_nil,Bool.or_false];rfl) (λj m s a=>?_) (λs a=>?_)
    ·subst a;left;refine⟨[.bool (b0||(p.take (j+1)).any λx=>decide (x=i)),I ((j+1:Nat):Int),.sl [],I 0,bg (dY S F i),I 0],?_,rfl⟩;refine c (O ah (O ac (au (by show((j:Int)<((u p).length:Int));rw[ao];omega) (O ac (O (z:=b0||(p.take (j+1)).any λx=>decide (x=i)) ?_ (O (ay (aw (i:=j) u0)) rfl))))))
     rw[zxa m,zBd];generalize (p.take j).any (λx=>decide (x=i))=b1;cases hb:(b0||b1)
     ·rw[<-Bool.or_assoc,hb,zia H]
      refine c (O (z:=j) (by rw[ao];exact aj m) (O (iu m) ?_))
      simp_all [cZ,List.getD,ac]
     ·grind
    ·subst a;rw[z8a];refine⟨(0,[.bool (b0||p.any λx=>decide (x=i)),.sl [],I 0,bg (dY S F i),I 0]),c (O ah (O ac (aB (by show ¬ ((p.length:Int)<((u p).length:Int));rw[ao];omega) rfl))),?_⟩
     exact O (ay (aw (i:=k) u0)) rfl
   ·subst a;rw[z8a];refine⟨(0,[.bool (lE F i),.sl [],I 0,bg (dY S F i),I 0]),?_,?_⟩
    ·exact J (aU F) (O ah (O ac (aB (by show ¬ ((F.length:Int)<((aU F).length:Int));rw[bE];omega) rfl)))
    ·rw[Ge];refine O (z:=lE F i) ac ?_;cases lE F i
     ·rfl
     ·rw[zla rfl,zla rfl];refine J (S.map ag) (O (z:=i) (by rw[aG];exact aj hi) (O (ew hi) ?_))
      rw[zla (by show((dY S F i).map ag).length+1<=1073741824;rw[aG];omega)]
      have:D.sl ((dY S F i).map ag++[ag (S.getD i V.zero)])=bg (dY S F i++[A S i]):=by simp[bg,A]
      rw[<-this];rfl
  ·subst a;refine⟨(0,[.sl [],I 0,bg (dY S F S.length),I 0]),?_,rfl⟩;exact J (S.map ag) (O ah (O ac (aB (by show ¬ ((S.length:Int)<((S.map ag).length:Int));rw[aG];omega) rfl)))
def xn(i:JO l){m:V}{d:Int}(f:IsF (A l) l.length m d){p:List Nat}(hp:bZ (A l) l.length m d p):p.Nodup/\p.length<=l.length/\0<p.length/\∀ x∈p,x<l.length:=by
 obtain⟨k,h,c,b⟩:=f.poly i;have e:=bZ.eq i f hp h;subst e;obtain⟨a,_,j,g,_,_⟩:=f.head i;have hm:=(b a).2 ⟨j,g⟩;refine⟨c,?_,zYc.2 (λe=>by rw[e] at hm;cases hm),λx hx=>(bc.1 ((b x).1 hx).1).1⟩
 have:=zhc (l₂:=List.range l.length) c λx hx=>zRa.2 (bc.1 ((b x).1 hx).1).1
 simp_all
def Sj(hl:∀ x∈l,bd MV x):∀ x∈eQ l,bd MV x:=λx hx=>hl x (Di.1 hx)
def c12(n:Nat)(hlen:l.length<=100):(64<l.length/\C (n+8) 12 [bg l]=some (EQ 2))\/(l.length<=64/\(¬ ∀ x∈l,bd MV x)/\C (n+8) 12 [bg l]=some (EQ 1)) ∨
  (l.length<=64/\(∀ x∈l,bd MV x)/\∃ F:FL,KnF (eQ l) (eQ l).length 0 0 F/\C (n+8) 12 [bg l]=some (Hd (eQ l) F)):=by
 by_cases h64:64<l.length
 ·exact .inl ⟨h64,QC (n+7) h64⟩
 ·by_cases hb:∀ x∈l,bd MV x
  ·right;right;refine⟨u0,hb,?_⟩
   have d:=sW l;have a:=Nn (xH l);obtain⟨F,h1,b⟩:=c48 n (Sj hb) u0 a
   refine⟨F,h1,KR (n+5) u0 hb (λf c=>?_) (zva (h1.fok.len u0) H) b⟩
   obtain⟨q1,e⟩:=h1.fok.ok f c;have:=(xn a q1 e).2.1;omega
  ·exact .inr (.inl ⟨u0,hb,QB (n+7) u0 hb⟩)
def JE(S:List V)(F:FL):(dY S F S.length).Sublist S:=by
 have h1:((List.range S.length).map (A S))=S:=by
  apply zOb;intro i;by_cases h:i<S.length
  ·rw[z2b,List.getElem?_range h];simp[A,List.getD,h]
  ·simp_all
 have a:(dY S F S.length).Sublist ((List.range S.length).map (A S)):=List.Sublist.map _ List.filter_sublist
 simp_all
theorem c15(n:Nat){l:List V}(hlen:l.length<=100):(∃ e:Int,C (n+9) 15 [bw l]=some (I e)/\e≠0)\/(C (n+9) 15 [bw l]=some (I 0)/\l.length<=64/\(∀ x∈l,bd MV x)/\∃ F:FL,KnF (eQ l) (eQ l).length 0 0 F/\F.length≠0/\F.length<=64/\dY (eQ l) F (eQ l).length=l):=by
 rw[u15]
 delta YN Q qT J0 J3 bq qA Z qz
 have err:∀ e:Int,e≠0->C (n+8) 12 [bg l]=some (EQ e)->∃ e:Int,((D.get (bw l) [0]).bind λx1=>
 (C (n+8) 12 [x1]).bind λf=>
 (D.get f [1]).bind λp=>
 (D.truth (D.bool (D.beq p (D.int .i64 0)))).bind λi=>
 Option.bind (if i then((D.get f [0,0]).bind λq=>
 (D.get (bw l) [0]).bind λr=>
 (C (n+8) 13 [q,r]).bind λo=>
 (akz .not o).bind λs=>
 D.truth s) else(some false)) λj=>
 (D.truth (D.bool j)).bind λc=>
 if c then(some (D.int .i64 3)) else((D.get f [1]).bind λg=>
 some g))=some (I e)/\e≠0:=λe he h=>⟨e,by refine J (bg l) (O h (J (I e) (O (z:=false) ?_ (J false (J false rfl)))));rw[show D.beq (I e) (D.int .i64 0)=decide (e=0) from ci,zfa he];rfl,he⟩
 rcases c12 n hlen with⟨h1,d⟩|⟨h0,h1,d⟩|⟨h0,h1,F,d,b⟩
 ·grind
 ·grind
 ·unfold Hd at b;by_cases f0:F.length=0
  ·grind
  ·rw[zia f0] at b;by_cases f1:F.length>64
   ·grind
   ·rw[zia f1] at b;have m:=Aj (eQ l) F (eQ l).length;have k:=sW l;have a:=c13 (n+7) (dY (eQ l) F (eQ l).length) l u0
    by_cases hv:dY (eQ l) F (eQ l).length=l
    ·rw[zna hv] at a;refine .inr ⟨?_,h0,h1,F,d,f0,u0,hv⟩
     refine J (bg l) (O b (J (I 0) (J true (O (z:=false) ?_ (J false rfl)))));rw[zla rfl];exact J (bg (dY (eQ l) F (eQ l).length)) (J (bg l) (O a rfl))
    ·rw[zfa hv] at a;refine .inl ⟨3,?_,H⟩
     refine J (bg l) (O b (J (I 0) (J true (O (z:=true) ?_ (J true rfl)))));rw[zla rfl];exact J (bg (dY (eQ l) F (eQ l).length)) (J (bg l) (O a rfl))
end
def js(n:Nat){x y:Int}(hx:In x)(c:In y)(h:In (x*y)):C (n+3) 61 [R x,R y]=some (R (x*y)):=by
 have:=c61 n (a:=some x) (b:=some y) (bn hx) (bn c)
 rwa [show sE (some x) (some y)=some (x*y) from vB h] at this
def rH(n:Nat){x y:Int}(hx:In x)(c:In y)(h:In (x+y)):C (n+4) 57 [R x,R y]=some (R (x+y)):=by
 have:=c57 n (a:=some x) (b:=some y) (bn hx) (bn c)
 rwa [show Cc (some x) (some y)=some (x+y) from vB h] at this
def fW{α:Type}{A B y:α}(h:A=y):(if true=true then A else B)=y:=h
def QE(n:Nat){v:V}(h1:inR v.x)(a:inR v.y)(b:inR v.z):C (n+3) 148 [ag v]=some (gZ v):=by
 rw[af4];delta OJ iL iR J0 J3 bF qc qf qi qj Z qs qy;obtain⟨f,c⟩:∃ f,(D.st [(D.bool false),(D.bool false),(az bf)])=f:=⟨_,rfl⟩;rw[c];refine aL (s':=[I 1,.st [R v.x,f,f]]) ?_ (aL (s':=[I 2,.st [R v.x,R v.y,f]]) ?_ (aL (s':=[I 3,gZ v]) ?_ (dS (r:=(0,[gZ v])) ?_ rfl)))
 ·exact J (.bool true) (J true (fW (J 0 (J (I v.x) (O (ou n h1) (J 0 (J (.st [R v.x,f,f]) (J (I 1) rfl))))))))
 ·exact J (.bool true) (J true (fW (J 1 (J (I v.y) (O (ou n a) (J 1 (J (.st [R v.x,R v.y,f]) (J (I 2) rfl))))))))
 ·exact J (.bool true) (J true (fW (J 2 (J (I v.z) (O (ou n b) (J 2 (J (gZ v) (J (I 3) rfl))))))))
 ·exact J (.bool false) (J false rfl)
section
variable{q y:Rat}
def A9{m k:Nat}(h:m<=2^k)(hk:k<=511):m<eN:=by
 have:In (m:Int):=bJ hk (by rw[zha];exact h)
 have:=aD.1 this
 rwa [zha] at this
def Fy{a b k:Nat}(c:a<=2^k)(d:b<=2^k):a+b<=2^(k+1):=by rw[z0b];omega
def eO(q:Rat)(a k:Nat):Prop:=q.num.natAbs<=2^a/\q.den<=2^k
def eG{x d:Int}{a k:Nat}(hx:x.natAbs<=2^a)(c:d.natAbs<=2^k)(h0:d≠0):eO (Rat.divInt x d) a k:=by obtain⟨h1,b⟩:=gv x h0;exact⟨zva h1 hx,zva b c⟩
def mf{x:Int}{a:Nat}(hx:x.natAbs<=2^a):eO (x:Rat) a 0:=⟨by simpa using hx,j2⟩
theorem eO.inR{a k:Nat}(h:eO q a k)(b:a<=511:=by decide)(hk:k<=511:=by decide):InR q:=
 ⟨bJ b h.1,bJ hk (by rw[zha];exact h.2)⟩
theorem eO.fitM{x:Rat}{a k b m:Nat}(hx:eO x a k)(c:eO y b m)(h1:a+b<=511:=by decide)(d:k+m<=511:=by decide):fitM x y:=
 ⟨A9 (ce hx.1 c.1 (zja _)) h1,A9 (ce hx.2 c.2 (zja _)) d⟩
theorem eO.fitA{x:Rat}{a k b m:Nat}(hx:eO x a k)(c:eO y b m)(h1:a+m<=510:=by decide)(f:b+k<=510:=by decide)(g:k+m<=511:=by decide):fitA x y:=by refine⟨?_,A9 (ce hx.2 c.2 (zja _)) g⟩;have d:=ce hx.1 c.2 h1;have e:=ce c.1 hx.2 f;exact A9 (k:=510+1) (Fy d e) H
def Xz(t:T3):D:=.st [.st [ag t.1,ag t.2.1,ag t.2.2],R (vol t)]
def S9(T:List T3):List D:=T.map Xz
theorem JP.take{T:List T3}{N:Nat}(h:JP T N)(i:Nat):JP (T.take i) N:=
 ⟨zva (by rw[zjb];omega) h.1,λt ht=>h.2 t (zSa ht)⟩
end
def L3{S:List V}(b:JO S){F:FL}(e:FOk S F){k:Nat}(h:lE F k=true):WN (A S) S.length k:=by
 obtain⟨f,g,d⟩:=zrc.1 h;obtain⟨x,hx,a⟩:=zrc.1 d;have a:x=k:=by simpa using a
 subst a;obtain⟨q1,i⟩:=e.ok f g;obtain⟨p,p1,_,c⟩:=q1.poly b;rw[<-bZ.eq b q1 i p1] at c;obtain⟨r1,j⟩:=(c x).1 hx;exact⟨_,_,q1,r1,j⟩
section
variable{q y:Rat}
def KS(n:Nat):C (n+3) 169 []=some (R 1):=by rw[aga];delta OP J1 Z;exact O (ou n (cj 1)) rfl
def QD(n:Nat){x:Int}(hx:In x):C (n+1031) 138 [R x]=some (av (x:Rat)):=by
 rw[afU];unfold OB;refine O (KS (n+1027)) (O (KY n hx Kq H) ?_)
 rw[CC]
def Es(n:Nat){x:Int}(hx:inR x):C (n+1032) 74 [I x]=some (av (x:Rat)):=by rw[u74];unfold Y5;exact O (ou (n+1029) hx) (O (QD n (bB hx)) rfl)
def nl(n:Nat)(h:InR q):C (n+1030) 136 [av q]=some (.bool true):=by
 rw[JD];delta Ap Q qT J0 bq qa qe qh Z;have hp:=q.den_pos;refine J (R q.num) (O (Ic (n+1027) h.1) (J true (O (z:=true) (fW ?_) (J true (O (z:=true) (fW ?_) (J true (O (z:=true) (fW ?_) rfl)))))))
 ·exact J (R (q.den:Int)) (O (Ic (n+1027) h.2) rfl)
 ·refine J (R (q.den:Int)) (O (lc (n+1026) h.2) (O cn ?_));rw[gQ u0];rfl
 ·refine J (R q.num) (J (R (q.den:Int)) (O (wh n h.1 h.2) (O (KS (n+1026)) ?_)));have e:Nat.gcd q.num.natAbs (q.den:Int).natAbs=1:=q.reduced;rw[e];show D.truth (.bool (D.beq (R 1) (R 1)))=_;rw[WQ];rfl
theorem Ab{x:Rat}{a b g:Nat}(d:x.den=g*a)(e:y.den=g*b)(c:(a:Int)*y.den≠0):Rat.divInt (x.num*b+y.num*a) ((a:Int)*y.den)=x+y:=by
 conv=>rhs;rw[<-z7a x,<-z7a y]
 rw[zvd _ _ (bV x) (bV y),Rat.divInt_eq_divInt_iff c (by have:=bV x;have:=bV y;exact zLc ‹_› ‹_›)]
 have f:(x.den:Int)=g*a:=by rw[d,z1a]
 have h:(y.den:Int)=g*b:=by rw[e,z1a]
 rw[f,h];grind
theorem ad8(n:Nat){x:Rat}(hx:InR x)(d:InR y)(v:fitA x y):C (n+1031) 173 [av x,av y]=some (av (x+y)):=by
 rw[V9];delta H2 Q qN qO Z qz;obtain⟨f1,f2⟩:=v;refine O (nl n hx) (J (.bool false) (J false (O (z:=false) ?_ (J false ?_))))
 ·rw[zia H]
  exact O (nl n d) (J (.bool false) rfl)
 rw[zia H]
 obtain⟨g,l⟩:∃ g,g=Nat.gcd x.den y.den:=⟨_,rfl⟩;have o:=x.den_pos;have hyp:=y.den_pos;have g1:g ∣ x.den:=l ▸ zhb _ _;have g2:g ∣ y.den:=l ▸ zpb _ _;have q:0<g:=by simp_all
 obtain⟨a,e⟩:=g1;obtain⟨b,j⟩:=g2;have p:In (g:Int):=ik.2 (zLa (zed o ⟨a,e⟩) (ik.1 hx.2));have g0:(g:Int)≠0:=u0
 have t:(x.den:Int)/(g:Int)=(a:Int):=by rw[e,z1a];exact zZa _ g0
 have u:(y.den:Int)/(g:Int)=(b:Int):=by rw[j,z1a];exact zZa _ g0
 have c:a<=x.den:=by rw[e];exact zlb _ q
 have i:b<=y.den:=by rw[j];exact zlb _ q
 have a0:0<a:=Nat.pos_of_ne_zero λh=>by rw[h] at e;omega
 have f:In (a:Int):=ik.2 (zLa c (ik.1 hx.2));have k:In (b:Int):=ik.2 (zLa i (ik.1 d.2));have m1:x.num.natAbs*b<=x.num.natAbs*y.den:=z6a _ i;have G:y.num.natAbs*a<=y.num.natAbs*x.den:=z6a _ c;have m3:a*y.den<=x.den*y.den:=zJa _ c;have i1:In (x.num*b):=aD.2 (by rw[zwa,zha];omega)
 have i2:In (y.num*a):=aD.2 (by rw[zwa,zha];omega)
 have i3:In (x.num*b+y.num*a):=aD.2 (by have:=zPb (x.num*b) (y.num*a);rw[zwa,zwa,zha,zha] at this;omega)
 have i4:In ((a:Int)*y.den):=aD.2 (by rw[<-z1a,zha];omega)
 have h1:=wh (n+1) hx.2 d.2;rw[zha,zha,<-l] at h1;have r:=u5 (n+1024) hx.2 p g0 ⟨a,by rw[e,z1a]⟩
 have s:=u5 (n+1024) d.2 p g0 ⟨b,by rw[j,z1a]⟩
 rw[t] at r;rw[u] at s;refine J (R (x.den:Int)) (J (R (y.den:Int)) (O (h1) ?_));refine J (R (x.den:Int)) (O (r) (J (R (y.den:Int)) (O (s) (J (R x.num) (O (js (n+1027) hx.1 k i1) (J (R y.num) (O (js (n+1027) d.1 f i2) (O (rH (n+1026) i1 i2 i3) (J (R (y.den:Int)) (O (js (n+1027) f d.2 i4) ?_))))))))));have m:(a:Int)*y.den≠0:=by have:0<a*y.den:=Nat.mul_pos a0 hyp;omega
 refine O (KY n i3 i4 m) ?_;grind [Ab]
theorem wE{N D:Int}(a:0<D)(h:Nat.gcd N.natAbs D.natAbs=1):(Rat.divInt N D).num=N/\((Rat.divInt N D).den:Int)=D:=by
 obtain⟨p1,b⟩:=jE N (show D≠0 by omega)
 grind
def vp(x:Int){d:Int}(a:d≠0):(Rat.divInt x d).num.natAbs ∣ x.natAbs/\(Rat.divInt x d).den ∣ d.natAbs:=by
 obtain⟨p1,f⟩:=jE x a;have e:(Rat.divInt x d).den=((Rat.divInt x d).den:Int).natAbs:=rfl;rw[e,p1,f];have key:∀ z:Int,((Nat.gcd x.natAbs d.natAbs:Nat):Int) ∣ z->(z/(if d<0 then -(Nat.gcd x.natAbs d.natAbs:Int) else(Nat.gcd x.natAbs d.natAbs:Int))).natAbs ∣ z.natAbs:=by
  intro z c;have b:0<Nat.gcd x.natAbs d.natAbs:=z2c _ u0
  obtain⟨k,rfl⟩:=c;generalize Nat.gcd x.natAbs d.natAbs=g at *;split
  ·rw[Int.ediv_neg,zZa _ u0,zHb,zwa];exact Nat.dvd_mul_left _ _
  ·rw[zZa _ u0,zwa];exact Nat.dvd_mul_left _ _
 exact⟨key x (zfb.2 (zhb _ _)),key d (zfb.2 (zpb _ _))⟩
theorem ad9(n:Nat){x:Rat}(hx:InR x)(c:InR y)(l:fitM x y):C (n+1031) 174 [av x,av y]=some (av (x*y)):=by
 rw[Wa];delta H3 Q qT qN qO Z qz;obtain⟨f1,f2⟩:=l;refine O (nl n hx) (J (.bool false) (J false (O (z:=false) ?_ (J false ?_))))
 ·rw[zia H]
  exact O (nl n c) (J (.bool false) rfl)
 rw[zia H]
 obtain⟨p1,d⟩:=gv x.num (bV y);obtain⟨q1,f⟩:=gv y.num (bV x);obtain⟨v1,v2⟩:=vp x.num (bV y);obtain⟨w1,h⟩:=vp y.num (bV x);have e:Rat.divInt x.num y.den*Rat.divInt y.num x.den=x*y:=by
  conv=>rhs;rw[<-z7a x,<-z7a y]
  rw[zZb,zZb,zNc (y.den:Int)]
 refine J (R x.num) (J (R (y.den:Int)) (O (KY n hx.1 c.2 (bV y)) (J (R y.num) (J (R (x.den:Int)) (O (KY n c.1 hx.2 (bV x)) ?_)))));rw[zha] at d f v2 h;have r1:=gh hx.1 c.2 (bV y);have g:=gh c.1 hx.2 (bV x);generalize Rat.divInt x.num y.den=P at *;generalize Rat.divInt y.num x.den=u at *;have i1:In (P.num*u.num):=aD.2 (by rw[zwa];exact zLa (zFa p1 q1) f1)
 have i2:In ((P.den:Int)*u.den):=aD.2 (by rw[<-z1a,zha];exact zLa (zFa d f) (by rw[zTa];exact f2))
 refine J (R P.num) (J (R u.num) (O (js (n+1027) r1.1 g.1 i1) (J (R (P.den:Int)) (J (R (u.den:Int)) (O (js (n+1027) r1.2 g.2 i2) ?_)))));refine J (.bool false) (J false (O (z:=false) ?_ (J false ?_)))
 ·rw[zia H]
  exact J (.bool false) rfl
 rw[zia H]
 have a:0<(P.den:Int)*u.den:=by have:=P.den_pos;have:=u.den_pos;rw[<-z1a];have:=Nat.mul_pos ‹0<P.den› ‹0<u.den›;omega
 have c1:=P.reduced;have c2:=u.reduced;have i:=zGc v1 (zEc h x.reduced);have j:=zGc w1 (zEc v2 y.reduced);have b:Nat.gcd (P.num*u.num).natAbs ((P.den:Int)*u.den).natAbs=1:=by rw[zwa,<-z1a,zha];exact Nat.Coprime.mul_left (z9c c1 i) (z9c j c2)
 obtain⟨m,z2⟩:=wE a b;have k:Rat.divInt (P.num*u.num) ((P.den:Int)*u.den)=x*y:=by grind [Rat.divInt_mul_divInt,Rat.num_divInt_den]
 simp_all [k,av,m,z2]
theorem NO(n:Nat){x y:Int}(hx:In x)(d:In y):C (n+4) 90 [R x,R y]=some (I (bk x y)):=by
 rw[u90];delta Zd Q qN Jn J0 J1 nq qA Z qn qt qz;have Y:=pO (n+1) (a:=some x) (bn hx);have e:=pO (n+1) (a:=some y) (bn d);have b:=aD.1 hx;have c:=aD.1 d;refine O Y (O e (J (.bool false) (J false (J false (J false ?_)))));rw[zia H]
 refine J (.bool false) (J false ?_);rw[zia H]
 refine J (.bool false) (J false ?_);rw[zia H]
 refine O (dC x) (O (dC y) ?_);by_cases h1:x<0<;>by_cases h2:y<0
 ·rw[zna h1,zna h2];refine J false ?_;rw[zia H]
  refine O (z:=.bool true) (by rw[dC,zna h1]) (J true (fW ?_))
  refine O (jF y) (O (jF x) (O (QA n c b) ?_));congr 2;unfold bk;all_goals omega
 ·rw[zna h1,zfa h2];refine J true (fW ?_);refine O (z:=.bool true) (by rw[dC,zna h1]) (J true (fW ?_))
  unfold bk;grind
 ·rw[zfa h1,zna h2];refine J true (fW ?_);refine O (z:=.bool false) (by rw[dC,zfa h1]) (J false ?_)
  rw[zia H]
  unfold bk;grind
 ·rw[zfa h1,zfa h2];refine J false ?_;rw[zia H]
  refine O (z:=.bool false) (by rw[dC,zfa h1]) (J false ?_)
  rw[zia H]
  refine O (jF x) (O (jF y) (O (QA n b c) ?_));all_goals grind
def adW(n:Nat){v:V}(h1:inR v.x)(a:inR v.y)(b:inR v.z):C (n+1033) 135 [ag v]=some (XC (RV.of v)):=by rw[afS];delta Oz Q Z;exact J (I v.x) (O (Es n h1) (J (I v.y) (O (Es n a) (J (I v.z) (O (Es n b) rfl)))))
end
section
variable{q:Rat}{a:Option Int}{y:Int}{f:Nat}
def Qs:D:=.st [EA,R 1]
def bH:Option Rat->D
 | some q=>av q
 | none=>Qs
def OW(a:Option Rat):Prop:=∀ q,a=some q->InR q
theorem OW.some(h:OW (some q)):InR q:=h q rfl
def aH(h:InR q):OW (some q):=λy e=>by cases e;exact h
def kF:OW none:=λy e=>by cases e
def rB:vV none:=λy e=>by cases e
def nL:Option Int->Option Int->Option Rat
 | some n,some d=>if d=0 then none else some (Rat.divInt n d)
 | _,_=>none
def Ba{b:Option Int}(c:vV a)(d:vV b):OW (nL a b):=by
 cases a<;>cases b<;>simp only[nL]<;>first|exact kF|skip
 split
 ·exact kF
 ·exact aH (gh c.some d.some (by assumption))
def Gs(a b:Option Int):vV (Cc a b):=by cases a<;>cases b<;>simp only[Cc]<;>first|exact rB|exact Du _
def oG(a b:Option Int):vV (sE a b):=by cases a<;>cases b<;>simp only[sE]<;>first|exact rB|exact Du _
def qU{x:Int}(hx:In x)(g:Int):In (x/g):=Cb hx (Int.natAbs_ediv_le_natAbs x g)
def H7(x y:Rat):Option Rat:=
 nL (Cc (sE (some x.num) (some ((y.den:Int)/(Nat.gcd x.den y.den:Nat)))) (sE (some y.num) (some ((x.den:Int)/(Nat.gcd x.den y.den:Nat))))) (sE (some ((x.den:Int)/(Nat.gcd x.den y.den:Nat))) (some (y.den:Int)))
def addW:Option Rat->Option Rat->Option Rat
 | some x,some y=>H7 x y
 | _,_=>none
def Vz(x y:Rat):Option Rat:=
 nL (sE (some (Rat.divInt x.num y.den).num) (some (Rat.divInt y.num x.den).num)) (sE (some ((Rat.divInt x.num y.den).den:Int)) (some ((Rat.divInt y.num x.den).den:Int)))
def mulW:Option Rat->Option Rat->Option Rat
 | some x,some y=>Vz x y
 | _,_=>none
def yq(a:Option Rat):Option Rat:=a.map (λx=>-x)
def V0(a b:Option Rat):Option Rat:=addW a (yq b)
def wF(a b:Option Rat):Option Rat:=b.elim none λy=>mulW a (nL (some (y.den:Int)) (some y.num))
def rD(a b:Option Rat):OW (addW a b):=by cases a<;>cases b<;>simp only[addW]<;>first|exact kF|exact Ba (Gs _ _) (oG _ _)
def Bn(a b:Option Rat):OW (mulW a b):=by cases a<;>cases b<;>simp only[mulW]<;>first|exact kF|exact Ba (oG _ _) (oG _ _)
def Ru{a:Option Rat}(h:OW a):OW (yq a):=by
 cases a with
 | none=>exact kF
 | some x=>exact aH ⟨aD.2 (by rw[Rat.neg_num,zHb];exact aD.1 h.some.1),h.some.2⟩
def GX(a b:Option Rat):OW (wF a b):=by
 cases b with
 | none=>exact kF
 | some y=>exact Bn _ _
def TH(x y:Rat):∃ g a b:Nat,g=Nat.gcd x.den y.den/\0<g/\x.den=g*a/\y.den=g*b/\0<a/\0<b/\(x.den:Int)/(Nat.gcd x.den y.den:Nat)=a/\(y.den:Int)/(Nat.gcd x.den y.den:Nat)=b:=by
 obtain⟨g,c⟩:∃ g,g=Nat.gcd x.den y.den:=⟨_,rfl⟩;have i:=x.den_pos;have hyp:=y.den_pos;have f:0<g:=by simp_all
 obtain⟨a,d⟩:g ∣ x.den:=c ▸ zhb _ _;obtain⟨b,e⟩:g ∣ y.den:=c ▸ zpb _ _;have g0:(g:Int)≠0:=u0
 refine⟨g,a,b,c,f,d,e,Nat.pos_of_ne_zero λh=>by rw[h] at d;omega,Nat.pos_of_ne_zero λh=>by rw[h] at e;omega,?_,?_⟩
 ·rw[<-c,d,z1a];exact zZa _ g0
 ·rw[<-c,e,z1a];exact zZa _ g0
def sG{x:Int}(h:In (x*y)):sE (some x) (some y)=some (x*y):=vB h
def Qm{x:Int}(h:In (x+y)):Cc (some x) (some y)=some (x+y):=vB h
theorem iZ{x y:Rat}(k:fitA x y):addW (some x) (some y)=some (x+y):=by
 obtain⟨f1,f2⟩:=k;obtain⟨g,a,b,m,e,i,j,a0,b0,f,h⟩:=TH x y;have c:a<=x.den:=by rw[i];exact zlb _ e
 have d:b<=y.den:=by rw[j];exact zlb _ e
 have m1:x.num.natAbs*b<=x.num.natAbs*y.den:=z6a _ d;have G:y.num.natAbs*a<=y.num.natAbs*x.den:=z6a _ c;have m3:a*y.den<=x.den*y.den:=zJa _ c;have i1:In (x.num*b):=aD.2 (by rw[zwa,zha];omega)
 have i2:In (y.num*a):=aD.2 (by rw[zwa,zha];omega)
 have i3:In (x.num*b+y.num*a):=aD.2 (by have:=zPb (x.num*b) (y.num*a);rw[zwa,zwa,zha,zha] at this;omega)
 have i4:In ((a:Int)*y.den):=aD.2 (by rw[<-z1a,zha];omega)
 have l:(a:Int)*y.den≠0:=by have:0<a*y.den:=Nat.mul_pos a0 y.den_pos;omega
 simp only[addW,H7,f,h];rw[sG i1,sG i2,Qm i3,sG i4];grind [nL,Ab]
def Fe(x y:Rat):Rat.divInt x.num y.den*Rat.divInt y.num x.den=x*y:=by
 conv=>rhs;rw[<-z7a x,<-z7a y]
 rw[zZb,zZb,zNc (y.den:Int)]
def nP{x y:Rat}(c:fitM x y):mulW (some x) (some y)=some (x*y):=by
 obtain⟨f1,f2⟩:=c;obtain⟨p1,a⟩:=gv x.num (bV y);obtain⟨q1,b⟩:=gv y.num (bV x);rw[zha] at a b;have e:=Fe x y;simp only[mulW,Vz];generalize Rat.divInt x.num y.den=P at *;generalize Rat.divInt y.num x.den=Q at *;have i1:In (P.num*Q.num):=aD.2 (by rw[zwa];exact zLa (zFa p1 q1) f1)
 have i2:In ((P.den:Int)*Q.den):=aD.2 (by rw[<-z1a,zha];exact zLa (zFa a b) (by rw[zTa];exact f2))
 rw[sG i1,sG i2];simp only[nL];rw[zia (zLc (bV P) (bV Q)),<-zZb,z7a,z7a,e]
def VC{n:Nat}{b:Option Int}{e:Option Int->D}(h:(a.isSome&&b.isSome)=false)(c:C n f [e b]=some (.bool b.isSome)) :
  (if(!a.isSome)=true then some true else (C n f [e b]).bind λr=>(akz .not r).bind λx=>D.truth x)=some true:=by
 cases hA:a.isSome with
 | false=>rfl
 | true=>
  rw[hA] at h;have:b.isSome=false:=by simpa using h
  rw[zia H,c,this];rfl
def pw{a b:Option Rat}:(a.isSome&&b.isSome)=false\/∃ x y,a=some x/\b=some y:=by cases a<;>cases b<;>simp
def Hy{n:Nat}{a b:Option Rat}(h:(a.isSome&&b.isSome)=false)(c:C n f [bH b]=some (.bool b.isSome)) :
  (if(!a.isSome)=true then some true else (C n f [bH b]).bind λr=>(akz .not r).bind λx=>D.truth x)=some true:=by
 cases hA:a.isSome with
 | false=>rfl
 | true=>
  rw[hA] at h;have:b.isSome=false:=by simpa using h
  rw[zia H,c,this];rfl
def U3{x y:Rat}(hx:InR x):In ((Nat.gcd x.den y.den:Nat):Int):=ik.2 (zLa (Nat.gcd_le_left _ x.den_pos) (ik.1 hx.2))
def Bh{x d:Int}(h:d≠0):nL (some x) (some d)=some (Rat.divInt x d):=by simp only[nL];rw[zia h]
end
def ED(n:Nat){q:Rat}(h:InR q):C (n+1031) 357 [av q]=some (av (-q)):=by
 rw[Yx];delta Kf Q Z qn;refine O (nl n h) (J (.bool false) (J false ?_));rw[zia H]
 exact J (R q.num) (O (z:=R (-q.num)) (Wr (n+1027) (a:=some q.num) (λx hx=>by cases hx;exact h.1)) (J (R (q.den:Int)) rfl))
structure Way(P:List D)(z:Nat->Int):Prop where
 get:∀ i (h:i<P.length),D.get P[i] [0,2]=some (I (z i))
 le:∀ i,i<P.length->(z i).natAbs<=2^60
 len:P.length<=512
section
variable{a:Option Rat}
def Cj(n:Nat){a:Option Int}(b:vV a):C (n+2) 128 [fM a]=some (.bool a.isSome):=by
 cases a with
 | some x=>exact Ic n b.some
 | none=>rw[V8];delta H1 Q qN qe Z;exact J (.bool true) (J (.bool false) (J false (J false rfl)))
def wg(n:Nat):C (n+4) 130 []=some Qs:=by rw[afO];unfold Ov;exact O (Ib (n+2)) (O (KS n) rfl)
def Xt(n:Nat){a b:Option Int}(f:vV a)(c:vV b):C (n+1030) 62 [fM a,fM b]=some (bH (nL a b)):=by
 rcases my (a:=a) (b:=b) with h|⟨x,d,rfl,rfl⟩
 ·have e:nL a b=none:=by cases a<;>cases b<;>simp at h<;>rfl
  rw[e,u62];delta Wo qN J0 bq qO qb qc Z qo qz;exact O (Cj (n+1027) f) (O aJ (O ac (O (VC h (Cj (n+1027) c)) (J true (J true (J true (fW (O (wg (n+1025)) rfl))))))))
 ·by_cases hd:d=0
  ·subst hd;rw[u62];delta Wo qN J0 bq qO qb qc Z qo qz;refine O (Cj (n+1027) f) (O aJ (J false (O (z:=false) ?_ (J false (O (z:=true) ?_ (J true (fW (O (wg (n+1025)) rfl))))))))
   ·rw[zia H];exact O (Cj (n+1027) c) (O aJ rfl)
   ·rw[zia H];exact O (lc (n+1026) c.some) rfl
  ·rw[Bh hd];exact KY n f.some c.some hd
def KX(n:Nat){x y:Int}(hx:In x)(c:In y):C (n+3) 61 [R x,R y]=some (fM (sE (some x) (some y))):=c61 n (a:=some x) (b:=some y) (bn hx) (bn c)
def aeU(n:Nat){x d:Int}(hx:In x)(c:In d):C (n+1030) 62 [R x,R d]=some (bH (nL (some x) (some d))):=Xt n (a:=some x) (b:=some d) (bn hx) (bn c)
def gJ(n:Nat){a:Option Rat}(b:OW a):C (n+1030) 136 [bH a]=some (.bool a.isSome):=by
 cases a with
 | some q=>exact nl n b.some
 | none=> rw[JD];delta Ap Q qT J0 bq qa qe qh Z;exact J EA (O (Cj (n+1027) (a:=none) rB) (J false (J false (J false (J false (J false (J false rfl)))))))
def yH(n:Nat){a b:Option Rat}(d:OW a)(f:OW b):C (n+1031) 173 [bH a,bH b]=some (bH (addW a b)):=by
 rcases pw (a:=a) (b:=b) with h|⟨x,y,rfl,rfl⟩
 ·have e:addW a b=none:=by cases a<;>cases b<;>simp at h<;>rfl
  rw[e,V9];delta H2 Q qN qO Z qz;exact O (gJ n d) (O aJ (O ac (O (Hy h (gJ n f)) (J true (fW (O (wg (n+1026)) rfl))))))
 ·have hx:=d.some;have c:=f.some;rw[V9];delta H2 Q qN qO Z qz;refine O (gJ n d) (O aJ (J false (O (z:=false) ?_ (J false ?_))))
  ·rw[zia H];exact O (gJ n f) (O aJ rfl)
  rw[zia H]
  obtain⟨g,p,q,i,r,hp,hq,p0,q0,o,eq⟩:=TH x y;have j:=U3 (y:=y) hx;have g0:((Nat.gcd x.den y.den:Nat):Int)≠0:=by rw[<-i];omega
  have h1:=wh (n+1) hx.2 c.2;rw[zha,zha] at h1;have k:=u5 (n+1024) hx.2 j g0 ⟨p,by rw[<-i,hp,z1a]⟩
  have l:=u5 (n+1024) c.2 j g0 ⟨q,by rw[<-i,hq,z1a]⟩
  have ip:=qU hx.2 ((Nat.gcd x.den y.den:Nat):Int);have m:=qU c.2 ((Nat.gcd x.den y.den:Nat):Int);refine J (R (x.den:Int)) (J (R (y.den:Int)) (O h1 ?_));refine J (R (x.den:Int)) (O k (J (R (y.den:Int)) (O l (J (R x.num) (O (KX (n+1027) hx.1 m) (J (R y.num) (O (KX (n+1027) c.1 ip) (O (c57 (n+1026) (oG _ _) (oG _ _)) (J (R (y.den:Int)) (O (KX (n+1027) ip c.2) ?_))))))))));exact O (Xt n (Gs _ _) (oG _ _)) rfl
def GD(n:Nat){b:Option Rat}(g:OW a)(i:OW b):C (n+1031) 174 [bH a,bH b]=some (bH (mulW a b)):=by
 rcases pw (a:=a) (b:=b) with h|⟨x,y,rfl,rfl⟩
 ·have e:mulW a b=none:=by cases a<;>cases b<;>simp at h<;>rfl
  rw[e,Wa];delta H3 Q qT qN qO Z qz;exact O (gJ n g) (O aJ (O ac (O (Hy h (gJ n i)) (J true (fW (O (wg (n+1026)) rfl))))))
 ·have hx:=g.some;have f:=i.some;rw[Wa];delta H3 Q qT qN qO Z qz;refine O (gJ n g) (O aJ (J false (O (z:=false) ?_ (J false ?_))))
  ·rw[zia H];exact O (gJ n i) (O aJ rfl)
  rw[zia H]
  obtain⟨v1,v2⟩:=vp x.num (bV y);obtain⟨w1,k⟩:=vp y.num (bV x);rw[zha] at v2 k;have r1:=gh hx.1 f.2 (bV y);have j:=gh f.1 hx.2 (bV x);refine J (R x.num) (J (R (y.den:Int)) (O (KY n hx.1 f.2 (bV y)) (J (R y.num) (J (R (x.den:Int)) (O (KY n f.1 hx.2 (bV x)) ?_)))));simp only[mulW,Vz];generalize Rat.divInt x.num y.den=P at *;generalize Rat.divInt y.num x.den=q at *;refine J (R P.num) (J (R q.num) (O (KX (n+1027) r1.1 j.1) (J (R (P.den:Int)) (J (R (q.den:Int)) (O (KX (n+1027) r1.2 j.2) ?_)))));have c:0<(P.den:Int)*q.den:=by have:=Nat.mul_pos P.den_pos q.den_pos;omega
  have c1:=P.reduced;have c2:=q.reduced;have l:=zGc v1 (zEc k x.reduced);have m:=zGc w1 (zEc v2 y.reduced);have d:Nat.gcd (P.num*q.num).natAbs ((P.den:Int)*q.den).natAbs=1:=by rw[zwa,<-z1a,zha];exact Nat.Coprime.mul_left (z9c c1 l) (z9c m c2)
  obtain⟨o,z2⟩:=wE c d;simp only[sE,lI];by_cases t1:(P.num*q.num).natAbs<eN
  ·rw[zla t1];by_cases t2:((P.den:Int)*q.den).natAbs<eN
   ·rw[zla t2];refine J (.bool false) (J false (O (z:=false) ?_ (J false ?_)))
    ·rw[zia H]
     exact J (.bool false) rfl
    rw[zia H,Bh u0]
    show some (D.st [R (P.num*q.num),R ((P.den:Int)*q.den)])=some (D.st [R (Rat.divInt (P.num*q.num) ((P.den:Int)*q.den)).num,R ((Rat.divInt (P.num*q.num) ((P.den:Int)*q.den)).den:Int)]);rw[o,z2]
   ·rw[zia t2];refine J (.bool false) (J false (O (z:=true) ?_ (J true (fW (O (wg (n+1026)) rfl)))));rw[zia H]
    exact J (.bool true) rfl
  ·rw[zia t1];exact J (.bool true) (J true (J true (J true (fW (O (wg (n+1026)) rfl)))))
def GE(n:Nat)(b:OW a):C (n+1031) 357 [bH a]=some (bH (yq a)):=by
 cases a with
 | some q=>exact ED n b.some
 | none=>rw[Yx];delta Kf Q Z qn;exact O (gJ n b) (O aJ (J true (fW (O (wg (n+1026)) rfl))))
def KU(n:Nat){a b:Option Rat}(d:OW a)(c:OW b):C (n+1032) 336 [bH a,bH b]=some (bH (V0 a b)):=by rw[ags];unfold O6;exact O (GE n c) (O (yH n d (Ru c)) rfl)
def yI(n:Nat){a b:Option Rat}(d:OW a)(c:OW b):C (n+1032) 352 [bH a,bH b]=some (bH (wF a b)):=by
 rw[agx];delta Pb Q Z qn;cases b with
 | none=>exact O (gJ (n+1) c) (O aJ (J true (fW (O (wg (n+1027)) rfl))))
 | some y=>
  refine O (gJ (n+1) c) (O aJ (J false ?_));rw[zia H]
  exact J (R (y.den:Int)) (J (R y.num) (O (aeU (n+1) c.some.2 c.some.1) (O (GD n d (Ba (bn c.some.2) (bn c.some.1))) rfl)))
def TF:Option Rat->Int
 | some q=>sg q.num
 | none=>0
def Ie(n:Nat){a:Option Rat}(h:OW a):C (n+1031) 342 [bH a]=some (I (TF a)):=by
 rw[agu];delta O8 Q J0 Z qn;cases a with
 | none=>exact O (gJ n h) (O aJ (J true (fW rfl)))
 | some q=>
  refine O (gJ n h) (O aJ (J false ?_));rw[zia H]
  exact J (R q.num) (O (lc (n+1027) h.some.1) rfl)
end
theorem A8{body:Bd}{m:Nat}{r0:List D}(ok:Nat->Bool)(h:∀ i,i<m->body [I (i:Int)]=some (if ok i then .inl [I ((i+1:Nat):Int)] else .inr (0,r0)))(he:body [I (m:Int)]=some (.inr (1,[]))) :
  ∀ d j,j+d=m->F body [I (j:Int)]=some (if((List.range d).all λt=>ok (j+t)) then(1,[]) else(0,r0))
 | 0,j,b=>by
  have b:j=m:=u0
  subst b;exact(cT he:F body [I (j:Int)]=some (1,[]))
 | d+1,j,b=>by
  have ih:=A8 ok h he d (j+1) u0
  have a:=h j u0
  rw[zud];simp only[zMb,List.all_map,zTb,Function.comp_def];cases hok:ok j with
  | false=> rw[hok] at a;exact(cT a:F body [I (j:Int)]=some (0,r0))
  | true=> rw[hok] at a;rw[show F body [I (j:Int)]=F body [I ((j+1:Nat):Int)] from cB a,ih];grind
def D6(m:Int)(x:Int):Bool:=decide (-m<x)&&decide (x<m)
def aX(v:V)(i:Nat):Int:=if i=0 then v.x else if i=1 then v.y else v.z
def se{v:V}{i:Nat}(h:i<3):D.get (ag v) [i]=some (I (aX v i)):=by
 have:i=0\/i=1\/i=2:=u0
 rcases this with rfl|rfl|rfl<;>rfl
def aej(n:Nat){a b:Int}(c:a.natAbs<=9223372036854775807)(d:b.natAbs<=9223372036854775807):C (n+1) 364 [I a,I b]=some (I (Nat.gcd a.natAbs b.natAbs:Nat)):=by rw[agy,show Pc F (C n) (I a) (I b)=Kb F (C n) (I a) (I b) from rfl,<-Yt];exact Uj n c d
def aek(n:Nat)(a:Int):C (n+1) 365 [I a]=some (I (sg a)):=by
 rw[agz];delta Pd Jn J0 J1 qc;refine O ah (O ac ?_);by_cases h:a<0
 ·refine au h ?_;rw[show sg a=-1 by unfold sg;rw[zla h]]
 ·refine aB h ?_;by_cases h0:0<a
  ·rw[show sg a=1 by unfold sg;rw[zia h,zla h0]]
   have e:D.min2 (I a) (I 1)=some (I 1):=by simp only[D.min2];all_goals grind
   simp_all
  ·have b:a=0:=u0
   subst b;rfl
def gG(q:Nat->Int):D:=.st [I (q 0),I (q 1),I (q 2),I (q 3)]
def jC{q:Nat->Int}{i:Nat}(h:i<4):D.get (gG q) [i]=some (I (q i)):=by
 have:i=0\/i=1\/i=2\/i=3:=u0
 rcases this with rfl|rfl|rfl|rfl<;>rfl
def Mj(q:Nat->Int):Bool:=(List.range 4).all λt=>D6 65 (q (0+t))
def Hm{q:Nat->Int}(h:Mj q=true):∀ i,i<4->(q i).natAbs<=64:=by intro i hi;have:=zya.1 h i (zRa.2 hi);simp only[D6,X,zea,zbb] at this;omega
def aeh(n:Nat)(q:Nat->Int):C (n+1) 348 [gG q]=some (.bool (Mj q)):=by
 rw[agv];delta O9 qC qJ iL iR Jn J0 bF bT qO qc qh qj qr qy;refine t8 (r:=if Mj q then(1,[]) else(0,[.bool false])) (A8 (m:=4) (λi=>D6 65 (q i)) (λi hi=>?_) ?_ 4 0 rfl) ?_
 ·have c:=aj hi;refine O ah (O ac (au (by show(i:Int)<4;omega) ?_))
  have hx:=jC (q:=q) hi;refine O c (O hx ?_);generalize q i=x at *;by_cases h1:x>64
  ·have e:D6 65 x=false:=by simp[D6];omega
   refine O (z:=.bool true) (by simp[akk,h1]) (J true (J true (J true ?_)))
   simp_all
  ·refine O (z:=.bool false) (by simp[akk,h1]) (J false ?_)
   by_cases h2:x < -64
   ·have e:D6 65 x=false:=by simp[D6];omega
    refine O (z:=true) ?_ (J true ?_)
    ·rw[zia H]
     exact O c (O hx (O (z:=.bool true) (by simp[akk,h2]) rfl))
    ·simp_all
   ·have e:D6 65 x=true:=by simp[D6];omega
    refine O (z:=false) ?_ (J false ?_)
    ·rw[zia H]
     exact O c (O hx (O (z:=.bool false) (by simp[akk,h2]) rfl))
    ·rw[zia H,e]
     exact O (aA (a:=i) (b:=1) u0) rfl
 ·exact O ah (O ac (aB H rfl))
 ·grind
section
variable{q:Nat->Int}
def er{α β:Type}{A:Option α}{g:α->Option β}{Q:β->Prop}{z:α}(h:A=some z)(hk:∃ y,g z=some y/\Q y):∃ y,Option.bind A g=some y/\Q y:=by simp_all
theorem Xx{body:Bd}(h1:∀ (g s:Int) (k:Nat),k<4->0<=g->g<=64->s.natAbs<=1->∃ a s':Int,body [I g,I s,I (k:Int)]=some (.inl [I a,I s',I ((k:Int)-1)])/\0<=a/\a<=64/\s'.natAbs<=1/\(s'≠0->s≠0\/q k≠0))
  (d:∀ g s:Int,body [I g,I s,I (-1)]=some (.inr (0,[I g,I s]))):∀ (c:Nat),c<=4->∀ g s:Int,0<=g->g<=64->s.natAbs<=1->(s≠0->∃ i,i<4/\q i≠0) ->
   ∃ a s':Int,F body [I g,I s,I ((c:Int)-1)]=some (0,[I a,I s'])/\0<=a/\a<=64/\s'.natAbs<=1/\(s'≠0->∃ i,i<4/\q i≠0)
 | 0,_,g,s,g0,g1,s1,b=>⟨g,s,cT (d g s),g0,g1,s1,b⟩
 | c+1,hc,g,s,g0,g1,s1,b=>by
  obtain⟨a,s',j,l,m,n,o⟩:=h1 g s c u0 g0 g1 s1
  obtain⟨g2,s2,e,f⟩:=Xx h1 d c u0 a s' l m n (λh=>(o h).elim b (λh=>⟨c,u0,h⟩))
  refine⟨g2,s2,?_,f⟩;rw[show(((c+1:Nat):Int)-1)=(c:Int) by omega]
  exact(cB j).trans e
def Xw{body:Bd}{q:Nat->Int}{k:Nat×List D->Option D}{Q:D->Prop}(h1:∀ (g s:Int) (k:Nat),k<4->0<=g->g<=64->s.natAbs<=1->∃ a s':Int,body [I g,I s,I (k:Int)]=some (.inl [I a,I s',I ((k:Int)-1)])/\0<=a/\a<=64/\s'.natAbs<=1/\(s'≠0->s≠0\/q k≠0))
  (b:∀ g s:Int,body [I g,I s,I (-1)]=some (.inr (0,[I g,I s]))) (c:∀ g s:Int,0<=g->g<=64->s.natAbs<=1->(s≠0->∃ i,i<4/\q i≠0)->∃ y,k (0,[I g,I s])=some y/\Q y):∃ y,(F body [I 0,I 0,I 3]).bind k=some y/\Q y:=by
 obtain⟨g,s,e,g0,g1,s1,d⟩:=Xx h1 b 4 (zja _) 0 0 H H H (λh=>zgb rfl h)
 simp_all
theorem aei(n:Nat)(hq:∀ i,i<4->(q i).natAbs<=64):∃ r,C (n+2) 349 [gG q]=some r/\∃ y b,r=.tup [y,.bool b]/\(b=true->∃ i,i<4/\q i≠0):=by
 rw[agw];delta Pa Q P qJ iL iR J0 J1 J3 bF bT bq nq qb qc Z qt qy;refine Xw (q:=q) (λg s k hk g0 g1 s1=>?_) (λg s=>J (.bool false) (J false rfl)) (λg s g0 g1 s1 p=>?_)
 ·have hi:=aj hk;have hx:=jC (q:=q) hk;have c:=hq k hk;have m:=aej (n) (a:=g) (b:=q k) u0 u0
  have l:Nat.gcd g.natAbs (q k).natAbs<=64:=tS u0 c
  refine⟨((Nat.gcd g.natAbs (q k).natAbs:Nat):Int),if q k=0 then s else sg (q k),O (z:=.bool true) (by simp[akk]) (J true (fW (O (z:=(0,[I ((Nat.gcd g.natAbs (q k).natAbs:Nat):Int),I (if q k=0 then s else sg (q k))])) (O hi (O hx (O m (O hi (O hx ?_))))) (O (z:=I ((k:Int)-1)) ?_ rfl)))),u0,u0,?_,?_⟩
  ·by_cases h:q k=0
   ·rw[h];exact J false rfl
   ·rw[zia h];refine O (z:=true) (by rw[ci];simp[h,D.truth]) (fW (O hi (O hx (O (aek n (q k)) rfl))))
  ·have:k=0\/k=1\/k=2\/k=3:=u0
   rcases this with rfl|rfl|rfl|rfl<;>rfl
  ·grind [sg]
  ·omega
 ·have ms:(s*g).natAbs<=64:=by
   have:=zFa s1 (show g.natAbs<=64 by omega)
   rwa [<-zwa,z6c] at this
  refine er (nj (a:=g) (by simp only[inR];omega)) (er (z:=I g) ((sB (a:=g) (b:=-g)).trans (by congr 2;omega)) (er (cN (a:=s) (b:=g) (by simp only[inR];omega)) ?_))
  by_cases h:s*g=0
  ·rw[h];exact er (z:=true) rfl ⟨_,rfl,_,false,rfl,λh=>by cases h⟩
  ·have o:s≠0:=λh0=>h (by rw[h0,zKc])
   refine er (z:=false) (by rw[ci,zfa h];rfl) ?_
   have qq:∀ x:Int,∃ z,akk .quo (I x) (I (s*g))=some z:=λx=>⟨D.int .i64 (IntKind.i64.wrap (x.tdiv (s*g))),by simp only[akk,if_true,zia h]⟩
   obtain⟨z0,d⟩:=qq (q 0);obtain⟨t,e⟩:=qq (q 1);obtain⟨z2,f⟩:=qq (q 2);obtain⟨z3,j⟩:=qq (q 3);rw[zia H]
   exact er (jC (i:=0) H) (er d (er (jC (i:=1) H) (er e (er (jC (i:=2) H) (er f (er (jC (i:=3) H) (er j ⟨_,rfl,_,true,rfl,λ_=>p o⟩)))))))
end
def aef(n:Nat)(q:Nat->Int):∃ v:Bool,C (n+3) 331 [gG q]=some (.bool v)/\(v=true->Mj q=true/\∃ i,i<4/\q i≠0):=by
 rw[agq];delta O4 qT bF bq qe Z qn qp;have a:=aeh (n+1) q;cases hl:Mj q with
 | false=> rw[hl] at a;exact⟨false,O a (J (.bool true) (J true (fW rfl))),λh=>by cases h⟩
 | true=>
  rw[hl] at a;obtain⟨r,h1,y,b,rfl,c⟩:=aei n (Hm hl);cases b with
  | false=>
   refine⟨false,O a (J (.bool false) (J false ?_)),λh=>by cases h⟩
   rw[zia H]
   exact O h1 (J y (J (.bool false) (J false (J false rfl))))
  | true=>
   refine⟨D.beq y (gG q),O a (J (.bool false) (J false ?_)),λ_=>⟨rfl,c rfl⟩⟩;rw[zia H]
   exact O h1 (J y (J (.bool true) (J true (O (z:=D.beq y (gG q)) (fW rfl) rfl))))
def dW(x:V)(q:Nat->Int):D:=.st [ag x,gG q]
structure Bdy where
 nm:ByteArray
 P:List (List V)
 m0:Int
 m1:Int
 r0:Int
 r1:Int
def GM{v:V}{k:Int}(h:∀ t,t<3->aX v t<=k/\-k<=aX v t):bd k v:=by
 have a:=h 0 H;have b:=h 1 H;have c:=h 2 H
 simp only[aX,if_true,if_false,Nat.one_ne_zero,Nat.reduceEqDiff] at a b c;exact⟨⟨a.2,a.1⟩,⟨b.2,b.1⟩,⟨c.2,c.1⟩⟩
def jX{v:V}{i:Nat}(h:i<3):D.fld (ag v) i=some (I (aX v i)):=by
 have:i=0\/i=1\/i=2:=u0
 rcases this with rfl|rfl|rfl<;>rfl
structure Hul(l:List V):Prop where
 len:l.length<=64
 bd:∀ x∈l,bd MV x
 srt:JO l
 vtx:∀ k,k<l.length->WN (A l) l.length k
 ex:∃ m d,IsF (A l) l.length m d
def ad5(n:Nat){l:List V}(h:l.length<=100):(∃ e:Int,C (n+9) 15 [bw l]=some (I e)/\e≠0)\/(C (n+9) 15 [bw l]=some (I 0)/\Hul l):=by
 rcases c15 n (l:=l) h with⟨e,h1,g⟩|⟨h1,g,m,F,a,c,_,b⟩
 ·simp_all
 ·right;have d:=List.Pairwise.sublist (JE (eQ l) F) (xH l);rw[b] at d;have i:=Nn d;rw[Sl d] at a b;refine⟨h1,g,m,i,λk hk=>?_,?_⟩
  ·refine L3 i a.fok ?_;have e:=zIa List.length b;unfold dY at e;rw[zka] at e;have j:((List.range l.length).filter (lE F)).length=(List.range l.length).length:=by rw[e,zcc]
   exact List.length_filter_eq_length_iff.1 j k (zRa.2 hk)
  ·obtain⟨f,o⟩:∃ f,f∈F:=List.exists_mem_of_ne_nil F (λe=>c (by rw[e];rfl))
   exact⟨_,_,(a.fok.ok f o).1⟩
def Hul.pos{l:List V}(h:Hul l):0<l.length:=by obtain⟨m,d,a⟩:=h.ex;obtain⟨i,j,k,h1,b,c,_⟩:=a.ex;omega
section
variable{l:List V}{F:FL}
def Wu(p:List Nat)(a b i:Nat):Bool:=(decide (p.getD i 0=a)&&decide (p.getD ((i+1)%p.length) 0=b))||(decide (p.getD i 0=b)&&decide (p.getD ((i+1)%p.length) 0=a))
def NR(p:List Nat)(a b t:Nat):Bool:=(List.range t).any (Wu p a b)
def p9(F:FL)(a b:Nat):Bool:=F.any λf=>NR f.2 a b f.2.length
def mK(F:FL)(a b:Nat):List (Nat×Nat):=((List.range b).filter λc=>decide (a<c)&&p9 F a c).map λc=>(a,c)
def nk(F:FL)(N a:Nat):List (Nat×Nat):=(List.range a).flatMap λa=>mK F a N
def L8(p:List Nat)(a b t:Nat):NR p a b (t+1)=(NR p a b t||Wu p a b t):=by simp_all [NR,zyb,zBd]
theorem Jh(F:FL){a b:Nat}(h:a<b):mK F a (b+1)=if p9 F a b then mK F a b++[(a,b)] else mK F a b:=by grind [mK,List.range_succ]
theorem M7(F:FL)(a:Nat):mK F a (a+1)=[]:=by grind [mK,List.map_eq_nil_iff,List.filter_eq_nil_iff]
theorem DS(F:FL)(a b:Nat):(mK F a b).length<=b:=by grind [mK,List.length_map]
def yD(F:FL)(N a:Nat):nk F N (a+1)=nk F N a++mK F a N:=by simp_all [nk,zyb,List.flatMap_append]
def Ce(F:FL)(N a:Nat):(nk F N a).length<=a*N:=by
 induction a with
 | zero=>simp[nk]
 | succ a ih=>rw[yD,zAa,Nat.succ_mul];have:=DS F a N;omega
def Dh{N:Nat}{e:Nat×Nat}:e∈nk F N N↔e.1<N/\e.2<N/\e.1<e.2/\p9 F e.1 e.2=true:=by obtain⟨a,b⟩:=e;all_goals simp_all [nk,mK,zqb,zRa,zmb,zJc]
def Kz(F:FL)(N:Nat):(nk F N N).Pairwise DC:=by
 unfold nk;rw[List.pairwise_flatMap];refine⟨λa _=>?_,?_⟩
 ·unfold mK;refine List.pairwise_map.2 ((List.Pairwise.filter _ List.pairwise_lt_range).imp λh=>.inr ⟨rfl,h⟩)
 ·refine List.pairwise_lt_range.imp λ{a b} h x hx y e=>?_;simp[mK,zmb] at hx e;obtain⟨c,_,rfl⟩:=hx;obtain⟨d,_,rfl⟩:=e;exact .inl h
def adK{M:List (Nat×Nat)}(e:Nat×Nat):D.sl (M.map dP++[dP e])=.sl ((M++[e]).map dP):=j2
def sA(M:List (Nat×Nat)):(M.map dP).length=M.length:=zka ..
theorem c22(n:Nat)(hlen:l.length<=100)(a2:F.length<=3000000)(hp:∀ f∈F,0<f.2.length/\f.2.length<=1000000)(h19:C (n+1) 19 [bw l]=some (.sl (aU F))):C (n+2) 22 [bw l]=some (.sl ((nk F l.length l.length).map dP)):=by
 rw[u22]
 delta YQ P qT qS qX qV qW iL iR J0 bF bq jl qb qe qf qj Z ql qm qo qt qu qy
 refine O h19 ?_;refine aZ (λa s=>s=[.sl ((nk F l.length a).map dP),I (a:Int)]) l.length 0 (zoa _) rfl (λa Q s c=>?_) (λs c=>?_)
 ·subst c;left;refine⟨[.sl ((nk F l.length (a+1)).map dP),I ((a+1:Nat):Int)],?_,rfl⟩;have r:=zva (Ce F l.length a) (zFa (show a<=100 by omega) hlen)
  refine J (bg l) (J (l.map ag) (O ah (O ac (au (by show((a:Int)<((l.map ag).length:Int));rw[aG];omega) (O (ay (aw (i:=a) u0)) ?_)))))
  rw[yD];obtain⟨M,a0⟩:∃ M,nk F l.length a=M:=⟨_,rfl⟩;rw[a0] at r ⊢;refine cH (λb s=>a+1<=b/\s=[.sl ((M++mK F a b).map dP),I (b:Int)]) l.length (a+1) u0 ⟨zja _,by rw[M7,zVb];rfl⟩ (λb E s c=>?_) (λs c=>?_)
  ·obtain⟨q,rfl⟩:=c;left;refine⟨[.sl ((M++mK F a (b+1)).map dP),I ((b+1:Nat):Int)],?_,u0,rfl⟩
   have S:=DS F a b;rw[Jh F (show a<b by omega)]
   obtain⟨R,K⟩:∃ R,M++mK F a b=R:=⟨_,rfl⟩;have L:R.length<=10100:=s6
   have H:(M++if p9 F a b=true then mK F a b++[(a,b)] else mK F a b)=if p9 F a b=true then R++[(a,b)] else R:=by all_goals grind
   rw[H,K];refine J (bg l) (J (l.map ag) (O ah (O ac (au (by show((b:Int)<((l.map ag).length:Int));rw[aG];omega) ?_))))
   refine O (z:=(0,[.sl ((if p9 F a b=true then R++[(a,b)] else R).map dP)])) ?_ (O (ay (aw (i:=b) u0)) rfl)
   refine cH (λk s=>s=[.sl (R.map dP),.bool (p9 (F.take k) a b),I (k:Int)]) F.length 0 (zoa _) rfl (λk hk s c=>?_) (λs c=>?_)
   ·subst c;left;refine⟨[.sl (R.map dP),.bool (p9 (F.take (k+1)) a b),I ((k+1:Nat):Int)],?_,rfl⟩;obtain⟨e,t⟩:=hp F[k] (zGa hk);have G:p9 (F.take (k+1)) a b=(p9 (F.take k) a b||NR F[k].2 a b F[k].2.length):=by
     grind [p9,List.take_succ_eq_append_getElem]
    refine J (aU F) (O ah (O ac (au (by show((k:Int)<((aU F).length:Int));rw[bE];omega) ?_)))
    refine J (aU F) (O (z:=k) (by rw[bE];exact aj hk) (O (io hk) (J (.sl (u F[k].2)) ?_)))
    rw[G];generalize p9 (F.take k) a b=b0;obtain⟨p,a3⟩:∃ p,F[k].2=p:=⟨_,rfl⟩;rw[a3] at e t ⊢;refine cH (λi s=>s=[.sl (R.map dP),.bool (b0||NR p a b i),I (i:Int)]) p.length 0 (zoa _) (by rw[show NR p a b 0=false from rfl,Bool.or_false];rfl) (λi hi s c=>?_) (λs c=>?_)
    ·subst c;left;refine⟨[.sl (R.map dP),.bool (b0||NR p a b (i+1)),I ((i+1:Nat):Int)],?_,rfl⟩;have d:(i+1)%p.length<p.length:=zVa _ e;have g:(((i:Int)+1).tmod (p.length:Int))=(((i+1)%p.length:Nat):Int):=by
      grind
     have nb:∀ (x y:Nat) {X:Option Bool},X=((D.asSl (.sl (u p))).bind λj=>
       (D.idx (I (i:Int)) (List.length j)).bind λi27=>
       (j[i27]?).bind λw=>
       (D.truth (D.bool (D.beq w (I (x:Int))))).bind λo=>
       if o then((akk .add (I (i:Int)) (D.int .i64 1)).bind λA=>
       (D.asSl (.sl (u p))).bind λv=>
       (akk .rem A (D.int .i64 (List.length v))).bind λB=>
       (D.asSl (.sl (u p))).bind λm=>
       (D.idx B (List.length m)).bind λi34=>
       (m[i34]?).bind λa1=>
       D.truth (D.bool (D.beq a1 (I (y:Int))))) else(some false))->X=some (decide (p.getD i 0=x)&&decide (p.getD ((i+1)%p.length) 0=y)):=λx y X N=>by
      rw[N];refine J (u p) (O (z:=i) (by rw[ao];exact aj hi) (O (iu hi) ?_))
      rw[cZ];refine O ac ?_;by_cases h:p.getD i 0=x
      ·refine au h (O (ay (aw (i:=i) u0)) (J (u p) (O (z:=I (((i+1)%p.length:Nat):Int)) (by rw[show((u p).length:Int)=(p.length:Int) by rw[ao],ph u0,g]) (J (u p) (O (z:=(i+1)%p.length) (by rw[ao];exact aj d) (O (iu d) ?_))))))
       rw[cZ,ac,zna h,z6b]
      ·simp_all
     refine J (u p) (O ah (O ac (au (by show((i:Int)<((u p).length:Int));rw[ao];omega) (O ac ?_))))
     rw[L8];generalize NR p a b i=b1;refine O (z:=(b0||b1)||(decide (p.getD i 0=a)&&decide (p.getD ((i+1)%p.length) 0=b))) ?_ (O ac (O (z:=b0||(b1||Wu p a b i)) ?_ (O (ay (aw (i:=i) u0)) rfl)))
     ·cases E:(b0||b1)
      ·simp_all
      ·rfl
     ·rw[<-Bool.or_assoc];unfold Wu;rw[<-Bool.or_assoc];cases E:(b0||b1||(decide (p.getD i 0=a)&&decide (p.getD ((i+1)%p.length) 0=b)))
      ·simp_all
      ·rfl
    ·subst c;refine⟨(0,[.sl (R.map dP),.bool (b0||NR p a b p.length)]),J (u p) (O ah (O ac (aB (by show ¬ ((p.length:Int)<((u p).length:Int));rw[ao];omega) rfl))),?_⟩
     exact O (ay (aw (i:=k) u0)) rfl
   ·subst c;rw[z8a];refine⟨(0,[.sl (R.map dP),.bool (p9 F a b)]),?_,?_⟩
    ·exact J (aU F) (O ah (O ac (aB (by show ¬ ((F.length:Int)<((aU F).length:Int));rw[bE];omega) rfl)))
    ·refine O (z:=p9 F a b) ac ?_;cases p9 F a b
     ·rfl
     ·rw[zla rfl,zla rfl,zla (by show(R.map dP).length+1<=1073741824;rw[sA];omega),<-adK]
      rfl
  ·obtain⟨q,rfl⟩:=c;refine⟨(0,[.sl ((M++mK F a l.length).map dP)]),?_,O (ay (aw (i:=a) u0)) rfl⟩
   exact J (bg l) (J (l.map ag) (O ah (O ac (aB (by show ¬ ((l.length:Int)<((l.map ag).length:Int));rw[aG];omega) rfl))))
 ·subst c;refine⟨(0,[.sl ((nk F l.length l.length).map dP)]),?_,rfl⟩;exact J (bg l) (J (l.map ag) (O ah (O ac (aB (by show ¬ ((l.length:Int)<((l.map ag).length:Int));rw[aG];omega) rfl))))
theorem WU(n:Nat)(hl:∀ x∈l,bd MV x)(hlen:l.length<=100)(h:JO l):∃ (F:FL) (E:List (Nat×Nat)),F.length<=2000000/\E.length<=10000/\KnF l l.length 0 0 F ∧
  C (n+8) 18 [bw l]=some (.sl (aU F))/\C (n+8) 19 [bw l]=some (.sl (aU F))/\C (n+9) 21 [bw l]=some (.sl (E.map dP))/\(∀ f∈F,0<f.2.length/\f.2.length<=1000000)/\E=nk F l.length l.length:=by
 obtain⟨F,w,u⟩:=c48 n hl hlen h;obtain⟨L,poly,hL,A,y,h18⟩:=p18 (n+1) hl hlen h;have c:=w.fok;have z:=c.len hlen;have p:=Facets.eq w.facets hL;have s:∀ f∈F,poly f.1=f.2:=λf g=>by obtain⟨q1,j⟩:=c.ok f g;exact bZ.eq h q1 (A f.1 (by rw[<-p];exact zmb.2 ⟨f,g,rfl⟩)) j
 have N:(L.map λq=>oU q (poly q))=aU F:=by rw[<-p,zmd];refine zpc λf g=>?_;grind
 have S:∀ f∈F,0<f.2.length/\f.2.length<=1000000:=λf g=>by obtain⟨q1,j⟩:=c.ok f g;have:=xn h q1 j;omega
 have h19:C (n+8) 19 [bw l]=some (.sl (aU F)):=by
  rw[u19]
  delta YP Q Z
  exact J (bg l) (O u rfl)
 obtain⟨E,K,M,h21⟩:=p21 (n+1) h18 y (λq hq=>by have o:=hq;rw[<-p] at o;obtain⟨f,g,rfl⟩:=zmb.1 o;rw[s f g];obtain⟨q1,j⟩:=c.ok f g;have:=xn h q1 j;exact⟨u0,this.2.2.1⟩) (yA h hL A)
 have H:E=nk F l.length l.length:=by
  refine oK (r:=DC) (λa=>by simp only[DC];omega) (λa b=>by simp[DC];omega) M (Kz F l.length) λe=>?_
  obtain⟨a,b⟩:=e;rw[K.mem_iff,Em h hL A,Dh];constructor
  ·rintro⟨h1,m,d,t,k⟩;have P:=(bc.1 k.2.mem).1;have I:=(bc.1 k.1).1;refine⟨I,P,h1,?_⟩;have hq:(m,d)∈F.map Prod.fst:=by rw[p];exact(hL.mem (m,d)).2 t
   obtain⟨f,g,B⟩:=zmb.1 hq;obtain⟨q1,j⟩:=c.ok f g;rw[B] at q1 j;obtain⟨i,i1,i2,i3⟩:=(akD h q1 j).2 k;refine zrc.2 ⟨f,g,zrc.2 ⟨i,zRa.2 i1,?_⟩⟩;unfold Wu
   simp_all
  ·rintro⟨I,P,h1,t⟩;refine⟨h1,(EN h).1 ?_⟩;obtain⟨f,g,k⟩:=zrc.1 t;obtain⟨i,i1,i2⟩:=zrc.1 k;obtain⟨q1,j⟩:=c.ok f g;have i1:=zRa.1 i1;simp[Wu,zFb,X,zea] at i2;refine⟨f.1.1,f.1.2,q1,?_⟩;rcases i2 with⟨D,G⟩|⟨D,G⟩
   ·exact .inl ((akD h q1 j).1 ⟨i,i1,D,G⟩)
   ·exact .inr ((akD h q1 j).1 ⟨i,i1,D,G⟩)
 have v:E.length<=10000:=by rw[H];exact zva (Ce _ _ _) (zFa hlen hlen)
 exact⟨F,E,u0,v,w,by rw[<-N];exact h18,h19,h21,S,H⟩
def WT(n:Nat)(hl:∀ x∈l,bd MV x)(hlen:l.length<=100)(h:JO l):∃ (F:FL) (E:List (Nat×Nat)),F.length<=2000000/\E.length<=10000/\KnF l l.length 0 0 F ∧
  C (n+8) 18 [bw l]=some (.sl (aU F))/\C (n+8) 19 [bw l]=some (.sl (aU F))/\C (n+9) 21 [bw l]=some (.sl (E.map dP))/\C (n+9) 22 [bw l]=some (.sl (E.map dP))/\E=nk F l.length l.length:=by
 obtain⟨F,E,a,b,c,d,e,f,g,i⟩:=WU n hl hlen h;have h22:=c22 (n+7) hlen (show F.length<=3000000 by omega) g e
 rw[<-i] at h22;exact⟨F,E,a,b,c,d,e,f,h22,i⟩
end
def pM{k:Nat}{v:V}(h:bd (k:Int) v):v.x.natAbs<=k/\v.y.natAbs<=k/\v.z.natAbs<=k:=by grind [bd]
structure BOk(b:Bdy):Prop where
 one:1<=b.P.length
 few:b.P.length<=3
 vs:∀ l∈b.P,l.length<=10
 hul:∀ l∈b.P,Hul l
 bd:∀ l∈b.P,∀ x∈l,bd 4096 x
 m0:1<=b.m0
 m1:b.m0<=b.m1
 G:b.m1<=1099511627776
def Tr{body:Bd}{k:Nat×List D->Option D}{y:D}{l0:List D}(x:Nat->D)(h0:l0.length=3)
  (d:∀ i:Nat,i<3->∀ l:List D,l.length=3->(∀ j:Nat,i<=j->l[j]?=l0[j]?)->body [I (i:Int),.st l]=some (.inl [I ((i+1:Nat):Int),.st (l.set i (x i))]))
  (he:∀ l,body [I ((3:Nat):Int),.st l]=some (.inr (0,[.st l]))) (hk:k (0,[.st [x 0,x 1,x 2]])=some y):(F body [I ((0:Nat):Int),.st l0]).bind k=some y:=by
 match l0,h0 with
 | [a,b,c],_=>
 have s0:=d 0 H [a,b,c] rfl (λj _=>rfl)
 have s1:=d 1 H [x 0,b,c] rfl (λj e=>by cases j with|zero=>omega|succ j=>rfl)
 have s2:=d 2 H [x 0,x 1,c] rfl (λj e=>by cases j with|zero=>omega|succ j=>cases j with|zero=>omega|succ j=>rfl)
 exact aL s0 (aL s1 (aL s2 (dS (he _) hk)))
abbrev WV:=Nat->Option Rat
def uC(v:WV):D:=.st [bH (v 0),bH (v 1),bH (v 2)]
def WK(v:WV):Prop:=∀ i,OW (v i)
def Zv(v:V):WV:=λi=>some (aX v i:Rat)
def LU{i:Nat}(h:i<3)(v:WV):D.get (uC v) [i]=some (bH (v i)):=by
 have:i=0\/i=1\/i=2:=u0
 rcases this with rfl|rfl|rfl<;>rfl
def Wf{v:V}(h:∀ i,inR (aX v i)):WK (Zv v):=λi=>aH (Gl (bB (h i)))
def W5(n:Nat){v:V}(h:∀ i,inR (aX v i)):C (n+1033) 135 [ag v]=some (uC (Zv v)):=adW n (h 0) (h 1) (h 2)
def JK{a:Option Rat}(h:OW a):addW (some 0) a=a:=by
 cases a with
 | none=>rfl
 | some x=>
  have e:addW (some 0) (some x)=some (0+x):=iZ ⟨by simpa using aD.1 h.some.1,by simpa using aD.1 h.some.2⟩
  rw[e,Rat.zero_add]
def L5(u v:WV):Option Rat:=addW (addW (mulW (u 0) (v 0)) (mulW (u 1) (v 1))) (mulW (u 2) (v 2))
def Rf(u v:WV):OW (L5 u v):=rD _ _
def W4(n:Nat){u v:WV}(hu:WK u)(h:WK v):C (n+1033) 134 [uC u,uC v]=some (bH (L5 u v)):=by
 rw[afR];delta Oy qJ iL iR J0 J3 qc qj Z qy;refine O (Es n (cj 0)) ?_;have st:∀ i:Nat,i<3->∀ a,OW a->((akk .lss (List.getD [I (i:Int),bH a] 0 (.bool false)) (D.int .i64 3)).bind λk=>(D.truth k).bind λf=>
   if f then((D.idx (List.getD [I (i:Int),bH a] 0 (.bool false)) 3).bind λi5=>(D.get (uC u) [i5]).bind λl=>(D.idx (List.getD [I (i:Int),bH a] 0 (.bool false)) 3).bind λi7=>(D.get (uC v) [i7]).bind λm=> (C (n+1032) 174 [l,m]).bind λj=>(C (n+1032) 173 [(List.getD [I (i:Int),bH a] 1 (.bool false)),j]).bind λc=>(akk .add (List.getD [I (i:Int),bH a] 0 (.bool false)) (D.int .i64 1)).bind λd=>some (Sum.inl [d,c]))
   else(some (Sum.inr ((0:Nat),[(List.getD [I (i:Int),bH a] 1 (.bool false))]))))=some (Sum.inl [I ((i+1:Nat):Int),bH (addW a (mulW (u i) (v i)))]):=λi hi a g=>
  O ah (O ac (au (by show(i:Int)<3;omega) (O (aj hi) (O (LU hi u) (O (aj hi) (O (LU hi v) (O (GD (n+1) (hu i) (h i)) (O (yH (n+1) g (Bn _ _)) (O (aA (a:=i) (b:=1) u0) rfl)))))))))
 have z:=aH (Gl (bB (cj 0)));have s0:=st 0 H (some 0) z
 have s1:=st 1 H (addW (some 0) (mulW (u 0) (v 0))) (rD _ _)
 have s2:=st 2 H (addW (addW (some 0) (mulW (u 0) (v 0))) (mulW (u 1) (v 1))) (rD _ _)
 have e:=JK (Bn (u 0) (v 0));unfold L5;rw[<-e];exact aL s0 (aL s1 (aL s2 (dS (O ah (O ac (aB H rfl))) rfl)))
def aeV(n:Nat){u:V}{v:WV}(hu:∀ i,inR (aX u i))(a:WK v):C (n+1034) 72 [ag u,uC v]=some (bH (L5 (Zv u) v)):=by rw[u72];unfold Y3;exact O (W5 n hu) (O (W4 n (Wf hu) a) rfl)
def Na{l:List D}{i:Nat}{v:D}(h:i<l.length):D.set (.st l) [i] v=some (.st (l.set i v)):=by simp only[D.set,zda h,zba]
section
variable{q:Nat->Int}{a c f h:Int}
def WO(l:List D):Bd:=λ(v1:List D)=>
 (akk .add (Y v1 1) (D.int .i64 1)).bind λi=>(D.asSl (.sl l)).bind λh=>(akk .lss i (D.int .i64 (h.length))).bind λj=>(D.truth j).bind λg=>
 if g then((D.asSl (.sl l)).bind λf=>(D.idx (Y v1 1) (f.length)).bind λi7=>(f[i7]?).bind λk=>(akk .add (Y v1 1) (D.int .i64 1)).bind λm=>
  (D.asSl (.sl l)).bind λa=>(D.idx m (a.length)).bind λi11=>(a[i11]?).bind λb=>(akk .mul k b).bind λc=>(akk .add (Y v1 0) c).bind λd=>
  (akk .add (Y v1 1) (D.int .i64 2)).bind λe=>some (Sum.inl [d,e])) else(some (Sum.inr (0,[(Y v1 0)])))
def gS{l:List D}(k:Nat){s b t:Int}(hl:l.length<=100)(e:l[k]?=some (I a))(c:l[k+1]?=some (I b))(h1:inR (a*b))(d:inR (s+a*b))(ht:s+a*b=t):WO l [I s,I (k:Int)]=some (.inl [I t,I ((k+2:Nat):Int)]):=by have f:=(zra.1 c).1;subst ht;exact O (aA (a:=k) (b:=1) u0) (J l (O ah (O ac (au (by show((k+1:Nat):Int)<(l.length:Int);omega) (J l (O (aj u0) (O e (O (aA (a:=k) (b:=1) u0) (J l (O (aj f) (O c (O (cN h1) (O (ay d) (O (aA (a:=k) (b:=2) u0) rfl))))))))))))))
def BN{l:List D}(k:Nat){s:Int}(hl:l.length<=100)(hk:l.length=k):WO l [I s,I (k:Int)]=some (.inr (0,[I s])):=
 O (aA (a:=k) (b:=1) u0) (J l (O ah (O ac (aB (by show ¬ (((k+1:Nat):Int)<(l.length:Int));omega) rfl))))
def tq(n:Nat){b d:Int}(h1:inR (a*b))(e:inR (c*d))(f:inR (a*b+c*d)):C (n+1) 394 [.sl [I a,I b,I c,I d]]=some (I (a*b+c*d)):=by rw[Wb];delta H5 P qX iL iR J0 J2 qj ql qy;exact aL (gS 0 (l:=[I a,I b,I c,I d]) (s:=0) (t:=a*b) j2 rfl rfl h1 (by rw[zuc];exact h1) (zuc _)) (aL (gS 2 j2 rfl rfl e f rfl) (dS (BN 4 j2 rfl) rfl))
def KV(n:Nat){b d e:Int}(h1:inR (a*b))(g:inR (c*d))(h:inR (a*b+c*d))(i:inR (e*f))(j:inR (a*b+c*d+e*f)):C (n+1) 394 [.sl [I a,I b,I c,I d,I e,I f]]=some (I (a*b+c*d+e*f)):=by rw[Wb];delta H5 P qX iL iR J0 J2 qj ql qy;exact aL (gS 0 (l:=[I a,I b,I c,I d,I e,I f]) (s:=0) (t:=a*b) j2 rfl rfl h1 (by rw[zuc];exact h1) (zuc _)) (aL (gS 2 j2 rfl rfl g h rfl) (aL (gS 4 j2 rfl rfl i j rfl) (dS (BN 6 j2 rfl) rfl)))
def wj(n:Nat){b d e g:Int}(h1:inR (a*b))(i:inR (c*d))(j:inR (a*b+c*d))(k:inR (e*f))(m:inR (a*b+c*d+e*f))(o:inR (g*h))(p:inR (a*b+c*d+e*f+g*h)) :
  C (n+1) 394 [.sl [I a,I b,I c,I d,I e,I f,I g,I h]]=some (I (a*b+c*d+e*f+g*h)):=by
 rw[Wb];delta H5 P qX iL iR J0 J2 qj ql qy;exact aL (gS 0 (l:=[I a,I b,I c,I d,I e,I f,I g,I h]) (s:=0) (t:=a*b) j2 rfl rfl h1 (by rw[zuc];exact h1) (zuc _)) (aL (gS 2 j2 rfl rfl i j rfl) (aL (gS 4 j2 rfl rfl k m rfl) (aL (gS 6 j2 rfl rfl o p rfl) (dS (BN 8 j2 rfl) rfl))))
def j8(q:Nat->Int):Nat->Int
 | 0=>q 0*q 0+q 1*q 1-q 2*q 2-q 3*q 3
 | 1=>2*(q 1*q 2-q 0*q 3)
 | 2=>2*(q 1*q 3+q 0*q 2)
 | 3=>2*(q 1*q 2+q 0*q 3)
 | 4=>q 0*q 0-q 1*q 1+q 2*q 2-q 3*q 3
 | 5=>2*(q 2*q 3-q 0*q 1)
 | 6=>2*(q 1*q 3-q 0*q 2)
 | 7=>2*(q 2*q 3+q 0*q 1)
 | _=>q 0*q 0-q 1*q 1-q 2*q 2+q 3*q 3
def S8(m:Nat->Int):D:=.st [I (m 0),I (m 1),I (m 2),I (m 3),I (m 4),I (m 5),I (m 6),I (m 7),I (m 8)]
def tT{k:Nat}(h:k<9)(m:Nat->Int):D.get (S8 m) [k]=some (I (m k)):=by
 match k,h with
 | 0,_=>rfl
 | 1,_=>rfl
 | 2,_=>rfl
 | 3,_=>rfl
 | 4,_=>rfl
 | 5,_=>rfl
 | 6,_=>rfl
 | 7,_=>rfl
 | 8,_=>rfl
 | k+9,h=>omega
def pe(q:Nat->Int):Prop:=∀ i,i<4->(q i).natAbs<=64
def qq(h:pe q){i j:Nat}(hi:i<4)(a:j<4):-4096<=q i*q j/\q i*q j<=4096:=by
 have:(q i*q j).natAbs<=64*64:=by rw[zwa];exact zFa (h i hi) (h j a)
 omega
def aF{x:Int}(h:-4000000000<=x/\x<=4000000000):inR x:=by simp only[inR];omega
theorem jI(h:pe q)(k:Nat):-16384<=j8 q k/\j8 q k<=16384:=by
 have a:=qq h (i:=0) (j:=0) H H;have e:=qq h (i:=1) (j:=1) H H;have a22:=qq h (i:=2) (j:=2) H H;have a33:=qq h (i:=3) (j:=3) H H
 have b:=qq h (i:=0) (j:=1) H H;have c:=qq h (i:=0) (j:=2) H H;have d:=qq h (i:=0) (j:=3) H H
 have a12:=qq h (i:=1) (j:=2) H H;have f:=qq h (i:=1) (j:=3) H H;have a23:=qq h (i:=2) (j:=3) H H
 unfold j8;grind
def Gw(h:inR (-a)):akz .neg (I a)=some (I (-a)):=by simp_all [akz,Int.zero_sub,iX]
def yF{b:Int}(c:2*a=b)(h:inR b):akk .mul (D.int .i64 2) (I a)=some (I b):=by subst c;exact cN h
def Xg(n:Nat)(h:pe q):C (n+2) 393 [gG q]=some (S8 (j8 q)):=by
 have g:=qq h (i:=0) (j:=0) H H;have p:=qq h (i:=1) (j:=1) H H;have a22:=qq h (i:=2) (j:=2) H H;have a33:=qq h (i:=3) (j:=3) H H
 have k:=qq h (i:=0) (j:=1) H H;have l:=qq h (i:=0) (j:=2) H H;have o:=qq h (i:=0) (j:=3) H H
 have a12:=qq h (i:=1) (j:=2) H H;have r:=qq h (i:=1) (j:=3) H H;have a23:=qq h (i:=2) (j:=3) H H
 have h0:=h 0 H;have h1:=h 1 H;have v:=h 2 H;have w:=h 3 H
 have c:akz .neg (I (q 0))=some (I (-(q 0))):=Gw (aF u0)
 have d:akz .neg (I (q 1))=some (I (-(q 1))):=Gw (aF u0)
 have e:akz .neg (I (q 2))=some (I (-(q 2))):=Gw (aF u0)
 have f:akz .neg (I (q 3))=some (I (-(q 3))):=Gw (aF u0)
 have m:∀ a b:Int,-a*b=-(a*b):=λa b=>Int.neg_mul a b;rw[agB];delta Pf Q P J0 J2 Z;refine J (I (q 0)) (J (I (q 1)) (J (I (q 2)) (J (I (q 3)) (O e (O f ?_)))));refine O (wj n (aF u0) (aF u0) (aF u0) (aF (by rw[m];omega)) (aF (by rw[m];omega)) (aF (by rw[m];omega)) (aF (by rw[m,m];omega))) ?_
 refine O c (O (tq n (aF u0) (aF (by rw[m];omega)) (aF (by rw[m];omega))) (O (yF (b:=j8 q 1) (by show _=2*(q 1*q 2-q 0*q 3);rw[m];omega) (aF (by have:=jI h 1;omega))) ?_))
 refine O (tq n (aF u0) (aF u0) (aF u0)) (O (yF (b:=j8 q 2) rfl (aF (by have:=jI h 2;omega))) ?_)
 refine O (tq n (aF u0) (aF u0) (aF u0)) (O (yF (b:=j8 q 3) rfl (aF (by have:=jI h 3;omega))) ?_)
 refine O d (O f (O (wj n (aF u0) (aF (by rw[m];omega)) (aF (by rw[m];omega)) (aF u0) (aF (by rw[m];omega)) (aF (by rw[m];omega)) (aF (by rw[m,m];omega))) ?_))
 refine O c (O (tq n (aF u0) (aF (by rw[m];omega)) (aF (by rw[m];omega))) (O (yF (b:=j8 q 5) (by show _=2*(q 2*q 3-q 0*q 1);rw[m];omega) (aF (by have:=jI h 5;omega))) ?_))
 refine O c (O (tq n (aF u0) (aF (by rw[m];omega)) (aF (by rw[m];omega))) (O (yF (b:=j8 q 6) (by show _=2*(q 1*q 3-q 0*q 2);rw[m];omega) (aF (by have:=jI h 6;omega))) ?_))
 refine O (tq n (aF u0) (aF u0) (aF u0)) (O (yF (b:=j8 q 7) rfl (aF (by have:=jI h 7;omega))) ?_)
 refine O d (O e (O (wj n (aF u0) (aF (by rw[m];omega)) (aF (by rw[m];omega)) (aF (by rw[m];omega)) (aF (by rw[m,m];omega)) (aF u0) (aF (by rw[m,m];omega))) ?_))
 have s:q 0*q 0+q 1*q 1+-(q 2)*q 2+-(q 3)*q 3=j8 q 0:=by show _=q 0*q 0+q 1*q 1-q 2*q 2-q 3*q 3;rw[m,m];omega
 have t:q 0*q 0+-(q 1)*q 1+q 2*q 2+-(q 3)*q 3=j8 q 4:=by show _=q 0*q 0-q 1*q 1+q 2*q 2-q 3*q 3;rw[m,m];omega
 have u:q 0*q 0+-(q 1)*q 1+-(q 2)*q 2+q 3*q 3=j8 q 8:=by show _=q 0*q 0-q 1*q 1-q 2*q 2+q 3*q 3;rw[m,m];omega
 rw[s,t,u];rfl
def fk(q:Nat->Int)(v:V)(i:Nat):Int:=j8 q (3*i)*v.x+j8 q (3*i+1)*v.y+j8 q (3*i+2)*v.z
def fQ(q:Nat->Int):Int:=q 0*q 0+q 1*q 1+q 2*q 2+q 3*q 3
def zG(h:pe q)(k:Nat){x:Int}(hx:x.natAbs<=4096):-67108864<=j8 q k*x/\j8 q k*x<=67108864:=by
 have:=jI h k;have:(j8 q k*x).natAbs<=16384*4096:=by rw[zwa];exact zFa u0 hx
 omega
theorem lX(h:pe q){v:V}(d:bd 4096 v)(i:Nat):-201326592<=fk q v i/\fk q v i<=201326592:=by obtain⟨v1,v2,v3⟩:=pM (k:=4096) d;have a:=zG h (3*i) v1;have b:=zG h (3*i+1) v2;have c:=zG h (3*i+2) v3;grind [fk]
def sT(h:pe q)(h0:∃ i,i<4/\q i≠0):0<fQ q/\fQ q<=16384:=by
 have a:=qq h (i:=0) (j:=0) H H;have b:=qq h (i:=1) (j:=1) H H;have a22:=qq h (i:=2) (j:=2) H H;have a33:=qq h (i:=3) (j:=3) H H
 have p0:=oa (q 0);have p1:=oa (q 1);have c:=oa (q 2);have d:=oa (q 3);have pos:∀ x:Int,x≠0->0<x*x:=λx hx=>by
  have:=oa x;rcases zBb this with h|h
  ·exact h
  ·rcases zMc.1 h.symm with h|h<;>exact zgb h hx
 obtain⟨i,hi,hq⟩:=h0;have hp:=pos _ hq;unfold fQ;refine⟨?_,u0⟩
 match i,hi with
 | 0,_=>omega
 | 1,_=>omega
 | 2,_=>omega
 | 3,_=>omega
 | k+4,h=>omega
def Lz(f:Nat->Int):D:=.st [I (f 0),I (f 1),I (f 2)]
def Iz{k:Nat}(h:k<9):D.idx (I (k:Int)) 9=some k:=aj h
def aem(n:Nat)(h:pe q){v:V}(e:bd 4096 v):C (n+3) 386 [gG q,ag v]=some (Lz (fk q v)):=by
 obtain⟨v1,v2,v3⟩:=pM (k:=4096) e;rw[Yy];delta Kg Q P qJ iL iR J0 J2 J3 qc qi qj Z qs qy;refine O (Xg n h) ?_;refine Tr (l0:=[I 0,I 0,I 0]) (λi=>I (fk q v i)) rfl (λi hi l hl j=>?_) (λl=>O ah (O ac (aB H rfl))) rfl
 have a:=zG h (3*i) v1;have b:=zG h (3*i+1) v2;have c:=zG h (3*i+2) v3;have d:=pK (a:=3) (b:=i) u0
 have f:=aA (a:=3*i) (b:=1) u0
 have g:=aA (a:=3*i) (b:=2) u0
 refine O ah (O ac (au (by show(i:Int)<3;omega) ?_))
 refine O d (O (Iz u0) (O (tT u0 _) (J (I v.x) ?_)))
 refine O d (O f (O (Iz u0) (O (tT u0 _) (J (I v.y) ?_))))
 refine O d (O g (O (Iz u0) (O (tT u0 _) (J (I v.z) ?_))))
 refine O (KV (n+1) (aF u0) (aF u0) (aF u0) (aF u0) (aF u0)) ?_
 exact O (aj hi) (O (Na u0) (O (aA (a:=i) (b:=1) u0) rfl))
def ael(n:Nat)(h:pe q):C (n+3) 385 [gG q]=some (I (fQ q)):=by
 have a:=qq h (i:=0) (j:=0) H H;have b:=qq h (i:=1) (j:=1) H H;have a22:=qq h (i:=2) (j:=2) H H;have a33:=qq h (i:=3) (j:=3) H H
 rw[agA];unfold Pe;refine O (z:=I (fQ q)) ?_ rfl;rw[Yz];delta Kh Q Z;refine J (I (q 0)) (J (I (q 0)) (J (I (q 1)) (J (I (q 1)) (J (I (q 2)) (J (I (q 2)) (J (I (q 3)) (J (I (q 3)) ?_)))))));exact O (wj n (aF u0) (aF u0) (aF u0) (aF u0) (aF u0) (aF u0) (aF u0)) rfl
end
section
variable{q:Nat->Int}
def uI{x:Int}(h:-4611686018427387904<=x/\x<=4611686018427387904):inR x:=by simp only[inR];omega
def Fg(h:pe q)(k:Nat){x:Int}(hx:x.natAbs<=1099511627776):-18014398509481984<=j8 q k*x/\j8 q k*x<=18014398509481984:=by
 have:=jI h k;have:(j8 q k*x).natAbs<=16384*1099511627776:=by rw[zwa];exact zFa u0 hx
 omega
def SS(n:Nat)(h:pe q){v:V}(e:bd 1099511627776 v):C (n+3) 386 [gG q,ag v]=some (Lz (fk q v)):=by
 obtain⟨v1,v2,v3⟩:=pM (k:=1099511627776) e;rw[Yy];delta Kg Q P qJ iL iR J0 J2 J3 qc qi qj Z qs qy;refine O (Xg n h) ?_;refine Tr (l0:=[I 0,I 0,I 0]) (λi=>I (fk q v i)) rfl (λi hi l hl j=>?_) (λl=>O ah (O ac (aB H rfl))) rfl
 have a:=Fg h (3*i) v1;have b:=Fg h (3*i+1) v2;have c:=Fg h (3*i+2) v3;have d:=pK (a:=3) (b:=i) u0
 have f:=aA (a:=3*i) (b:=1) u0
 have g:=aA (a:=3*i) (b:=2) u0
 refine O ah (O ac (au (by show(i:Int)<3;omega) ?_))
 refine O d (O (Iz u0) (O (tT u0 _) (J (I v.x) ?_)))
 refine O d (O f (O (Iz u0) (O (tT u0 _) (J (I v.y) ?_))))
 refine O d (O g (O (Iz u0) (O (tT u0 _) (J (I v.z) ?_))))
 refine O (KV (n+1) (uI u0) (uI u0) (uI u0) (uI u0) (uI u0)) ?_
 exact O (aj hi) (O (Na u0) (O (aA (a:=i) (b:=1) u0) rfl))
end
section
variable{q:Nat->Int}{l:List V}
def yt(x:V)(q:Nat->Int)(v:V):V:=⟨fk q v 0+fQ q*x.x,fk q v 1+fQ q*x.y,fk q v 2+fQ q*x.z⟩
def PB:Int:=2305843009415020544
structure PoseOk(x:V)(q:Nat->Int):Prop where
 hx:bd 140737488355327 x
 hq:pe q
 h0:∃ i,i<4/\q i≠0
def Ac{x:V}(h:PoseOk x q){a:Int}(b:-140737488355327<=a/\a<=140737488355327):-2305843009213693952<=fQ q*a/\fQ q*a<=2305843009213693952:=by
 have s:=sT h.hq h.h0;have:(fQ q*a).natAbs<=16384*140737488355327:=by rw[zwa];exact zFa u0 u0
 omega
theorem VI{x:V}(h:PoseOk x q){v:V}(a:bd 4096 v):bd PB (yt x q v):=by have t0:=lX h.hq a 0;have t1:=lX h.hq a 1;have t2:=lX h.hq a 2;have s0:=Ac h h.hx.1;have s1:=Ac h h.hx.2.1;have s2:=Ac h h.hx.2.2;grind [bd,yt,PB]
def jB(x:V)(q:Nat->Int)(l:List V):D:=.st [dW x q,bw l,I (fQ q),bg (l.map (yt x q))]
def Ym{x:V}{i:Nat}(hi:i<l.length):((l.take i).map λv=>ag (yt x q v))++[ag (yt x q l[i])]=(l.take (i+1)).map λv=>ag (yt x q v):=by rw[List.take_add_one,zda hi];simp only[Option.toList_some,zib,z4a,zld]
def Xh(n:Nat){x:V}(h:PoseOk x q)(hl:∀ v∈l,bd 4096 v)(hlen:l.length<=100):C (n+4) 433 [dW x q,bw l]=some (jB x q l):=by
 rw[agF];delta Pj Q P qS qX qJ qV qW iL iR J0 J3 jl qc qi qj Z qs qu qy;refine J (gG q) (O (ael n h.hq) (J (bg l) (J (l.map ag) ?_)));obtain⟨j,f⟩:∃ j,D.st [D.st [I 0,I 0,I 0],D.st [I 0,I 0,I 0,I 0]]=j:=⟨_,rfl⟩;refine cH (λi s=>s=[I (i:Int),j,.sl [],I 0,.sl [],dW x q,bw l,I (fQ q),.sl ((l.take i).map λv=>ag (yt x q v))]) l.length 0 (zoa _) (by rw[<-f];rfl) (λi hi s e=>?_) (λs e=>?_)
 ·subst e;left;have d:=hl _ (zGa hi);have t0:=lX h.hq d 0;have t1:=lX h.hq d 1;have t2:=lX h.hq d 2;have s0:=Ac h h.hx.1;have s1:=Ac h h.hx.2.1;have s2:=Ac h h.hx.2.2;refine⟨_,?_,rfl⟩;refine O ah (O ac (au (by rw[aG];omega) ?_))
  refine J (l.map ag) (O (z:=i) (by rw[aG];exact aj hi) (O (z:=ag l[i]) (by simp[hi]) ?_))
  refine J (gG q) (O (aem n h.hq d) ?_);obtain⟨L,hL⟩:∃ L,((l.take i).map λv=>ag (yt x q v))=L:=⟨_,rfl⟩;obtain⟨v,c⟩:∃ v,l[i]=v:=⟨_,rfl⟩;rw[<-Ym hi,c,hL];rw[c] at t0 t1 t2;refine aL (s':=[I 1,j,.sl [],I 0,.sl [],dW x q,bw l,I (fQ q),.sl L,.st [I (yt x q v).x,I (fk q v 1),I (fk q v 2)]]) ?_ (aL (s':=[I 2,j,.sl [],I 0,.sl [],dW x q,bw l,I (fQ q),.sl L,.st [I (yt x q v).x,I (yt x q v).y,I (fk q v 2)]]) ?_ (aL (s':=[I 3,j,.sl [],I 0,.sl [],dW x q,bw l,I (fQ q),.sl L,ag (yt x q v)]) ?_ (dS (r:=(0,[j,.sl [],I 0,.sl [],dW x q,bw l,I (fQ q),.sl L,ag (yt x q v)])) ?_ ?_)))
  ·exact J (.bool true) (J true (fW (J 0 (J (I (fk q v 0)) (J 0 (J (I x.x) (O (cN (uI u0)) (O (ay (by simp only[inR];omega)) (J 0 (J (.st [I (yt x q v).x,I (fk q v 1),I (fk q v 2)]) (J (I 1) rfl)))))))))))
  ·exact J (.bool true) (J true (fW (J 1 (J (I (fk q v 1)) (J 1 (J (I x.y) (O (cN (uI u0)) (O (ay (by simp only[inR];omega)) (J 1 (J (.st [I (yt x q v).x,I (yt x q v).y,I (fk q v 2)]) (J (I 2) rfl)))))))))))
  ·exact J (.bool true) (J true (fW (J 2 (J (I (fk q v 2)) (J 2 (J (I x.z) (O (cN (uI u0)) (O (ay (by simp only[inR];omega)) (J 2 (J (ag (yt x q v)) (J (I 3) rfl)))))))))))
  ·exact J (.bool false) (J false rfl)
  ·have hn:List.length (D.els (.sl L))+List.length [ag (yt x q v)]<=1073741824:=by
    rw[<-hL];show((l.take i).map _).length+1<=_;simp;omega
   refine(zla hn).trans ?_;exact O (aA (a:=i) (b:=1) u0) rfl
 ·subst e;refine⟨_,O ah (O ac (aB (by rw[aG];omega) rfl)),?_⟩
  rw[zub (zja _)];simp only[jB,bg,zmd];rfl
end
section
variable{u:V}{q:Nat->Int}{l:List V}
def NB:Int:=2305843009213693951
def yT{v:V}(hu:bd NB u)(c:bd PB v):(u.x*v.x).natAbs<=2^123/\(u.y*v.y).natAbs<=2^123/\(u.z*v.z).natAbs<=2^123:=by
 have key:∀ a b:Int,(-NB<=a/\a<=NB)->(-PB<=b/\b<=PB)->(a*b).natAbs<=2^123:=λa b d e=>by rw[zwa];simp only[NB,PB] at d e;exact ce (i:=61) (j:=62) (by rw[show(2:Nat)^61=2305843009213693952 from rfl];omega) (by rw[show(2:Nat)^62=4611686018427387904 from rfl];omega) H
 exact⟨key _ _ hu.1 c.1,key _ _ hu.2.1 c.2.1,key _ _ hu.2.2 c.2.2⟩
def wH{v:V}(hu:bd NB u)(c:bd PB v):In (u.x*v.x)/\In (u.y*v.y)/\In (u.z*v.z)/\In (u.x*v.x+u.y*v.y)/\In (V.dot u v):=by obtain⟨h1,a,b⟩:=yT hu c;have d:=zPb (u.x*v.x) (u.y*v.y);have e:=zPb (u.x*v.x+u.y*v.y) (u.z*v.z);exact⟨bJ H h1,bJ H a,bJ H b,bJ (k:=130) H u0,bJ (k:=130) H (by unfold V.dot;omega)⟩
def E4(hu:bd NB u):inR u.x/\inR u.y/\inR u.z:=by simp only[bd,NB] at hu;simp only[inR];omega
def Vk(hu:bd PB u):inR u.x/\inR u.y/\inR u.z:=by simp only[bd,PB] at hu;simp only[inR];omega
def Ux(n:Nat){v:V}(hu:bd NB u)(b:bd PB v):C (n+6) 91 [ag u,ag v]=some (R (V.dot u v)):=by
 obtain⟨a1,a2,a3⟩:=E4 hu;obtain⟨b1,b2,a⟩:=Vk b;obtain⟨i1,i2,i3,c,e⟩:=wH hu b;have d:=bB (cj 0);rw[u91];unfold Ze;refine O (QE (n+2) a1 a2 a3) (O (QE (n+2) b1 b2 a) (O (z:=R (V.dot u v)) ?_ rfl));rw[af3];delta OI qJ iL iR J0 J3 qc qj Z qy;refine O (ou (n+2) (cj 0)) ?_;refine aL (s':=[I 1,R (u.x*v.x)]) ?_ (aL (s':=[I 2,R (u.x*v.x+u.y*v.y)]) ?_ (aL (s':=[I 3,R (V.dot u v)]) ?_ (dS (r:=(0,[R (V.dot u v)])) ?_ rfl)))
 ·exact J (.bool true) (J true (fW (J 0 (J (R u.x) (J 0 (J (R v.x) (O (js (n+1) (bB a1) (bB b1) i1) (O (rH n d i1 (by rw[zuc];exact i1)) (J (I 1) (by rw[zuc]))))))))))
 ·exact J (.bool true) (J true (fW (J 1 (J (R u.y) (J 1 (J (R v.y) (O (js (n+1) (bB a2) (bB b2) i2) (O (rH n i1 i2 c) (J (I 2) rfl)))))))))
 ·exact J (.bool true) (J true (fW (J 2 (J (R u.z) (J 2 (J (R v.z) (O (js (n+1) (bB a3) (bB a) i3) (O (rH n c i3 e) (J (I 3) rfl)))))))))
 ·exact J (.bool false) (J false rfl)
def IT(u:V)(L:List V):Nat->Int
 | 0=>V.dot u (A L 0)
 | k+1=>if V.dot u (A L (k+1))>IT u L k then V.dot u (A L (k+1)) else IT u L k
theorem Mx(u:V)(L:List V)(k:Nat):IT u L (k+1)=if V.dot u (A L (k+1))>IT u L k then V.dot u (A L (k+1)) else IT u L k:=rfl
def li{L:List V}{i:Nat}(h:i<L.length):A L i∈L:=by unfold A;rw[zDa,zda h];exact zGa h
def Bt{L:List V}{i:Nat}(h:i<L.length):(L.map ag)[i]?=some (ag (A L i)):=by unfold A;rw[z2b,zDa,zda h];rfl
theorem Fh{L:List V}(hu:bd NB u)(hL:∀ v∈L,bd PB v):∀ k,k<L.length->In (IT u L k)
 | 0,h=>(wH hu (hL _ (li h))).2.2.2.2
 | k+1,h=>by
  unfold IT;split
  ·exact(wH hu (hL _ (li h))).2.2.2.2
  ·exact Fh hu hL k u0
theorem QT(a b:Int):decide (bk a b>0)=decide (a>b):=by grind [bk]
def kQ(u x:V)(q:Nat->Int)(l:List V):Rat:=Rat.divInt (IT u (l.map (yt x q)) (l.length-1)) (fQ q)
def Bs{x:V}(h:PoseOk x q)(hl:∀ v∈l,bd 4096 v):∀ v∈l.map (yt x q),bd PB v:=λv a=>by obtain⟨w,hw,rfl⟩:=zmb.1 a;exact VI h (hl w hw)
theorem FK{x:V}(h:PoseOk x q):inR (fQ q)/\fQ q≠0:=by have:=sT h.hq h.h0;grind [inR]
def xu{x:V}(hu:bd NB u)(h:PoseOk x q)(hl:∀ v∈l,bd 4096 v)(h0:0<l.length):InR (kQ u x q l):=
 gh (Fh hu (Bs h hl) _ (by simp;omega)) (bB (FK h).1) (FK h).2
theorem Uo(n:Nat){x:V}(hu:bd NB u)(h:PoseOk x q)(hl:∀ v∈l,bd 4096 v)(h0:0<l.length)(hlen:l.length<=100):C (n+1031) 435 [jB x q l,ag u]=some (av (kQ u x q l)):=by
 have g:=FK h;have d:=Bs h hl;have c:=Fh hu d;unfold jB kQ;obtain⟨L,hL⟩:∃ L,l.map (yt x q)=L:=⟨_,rfl⟩;have hk:L.length=l.length:=by rw[<-hL];simp
 rw[hL] at d c ⊢;rw[agH];delta Pn Q qI qY qP iL iR J0 jl qb qc qj Z qy;refine J (bg L) (J (L.map ag) (O (z:=0) (by rw[aG];exact aj (i:=0) u0) (O (Bt u0) ?_)))
 refine O (Ux (n+1024) hu (d _ (li u0))) ?_
 refine J (bg L) (J (L.map ag) (O (z:=(L.map ag).drop 1) ?_ ?_))
 ·grind [D.cut,aG]
 have e:((L.map ag).drop 1).length=l.length-1:=by rw[List.length_drop,aG,hk]
 refine cH (λi s=>s=[I (i:Int),R (IT u L i)]) (l.length-1) 0 (zoa _) rfl (λi hi s f=>?_) (λs f=>?_)
 ·subst f;left;refine⟨_,?_,rfl⟩;have hm:=li (L:=L) (i:=i+1) u0
  refine O ah (O ac (au (by rw[e];omega) ?_))
  refine O (z:=(0,[R (IT u L (i+1))])) ?_ (O (aA (a:=i) (b:=1) u0) rfl)
  refine O (z:=i) (by rw[e];exact aj hi) (O (z:=ag (A L (i+1))) (by rw[zDb,zgc];exact Bt u0) ?_)
  refine O (Ux (n+1024) hu (d _ hm)) (O (NO (n+1026) (wH hu (d _ hm)).2.2.2.2 (c i u0)) ?_)
  refine O (z:=.bool (decide (V.dot u (A L (i+1))>IT u L i))) (by rw[<-QT];exact cn) (O ac ?_)
  all_goals grind [Mx]
 ·subst f;refine⟨_,O ah (O ac (aB (by rw[e];omega) rfl)),?_⟩
  exact J (I (fQ q)) (O (ou (n+1028) g.1) (O (KY n (c _ u0) (bB g.1) g.2) rfl))
end
section
variable{y:Int}
def Nr{x:Int}(b:0<y):(0<=x/\x/y=x.tdiv y/\x%y=x.tmod y/\0<=x.tmod y)\/(x<0/\x.tmod y=0/\x/y=x.tdiv y/\x%y=0)\/(x<0/\x.tmod y<0/\x/y=x.tdiv y-1/\x%y=x.tmod y+y):=by
 have e:=Int.mul_tdiv_add_tmod x y;have l:=Int.tmod_lt_of_pos x b;have d:=Int.lt_tmod_of_pos x b;by_cases hx:0<=x
 ·have h0:=Int.tmod_nonneg y hx;have:=(Int.ediv_emod_unique (a:=x) (q:=x.tdiv y) (r:=x.tmod y) b).2 ⟨u0,h0,l⟩
  exact .inl ⟨hx,this.1,this.2,h0⟩
 ·have h0:x.tmod y<=0:=by
   have h1:=Int.tmod_nonneg y (show 0<=-x by omega)
   rw[Int.neg_tmod] at h1;omega
  by_cases hz:x.tmod y=0
  ·have:=(Int.ediv_emod_unique (a:=x) (q:=x.tdiv y) (r:=x.tmod y) b).2 ⟨u0,u0,l⟩
   exact .inr (.inl ⟨u0,hz,this.1,by rw[this.2,hz]⟩)
  ·have c:y*(x.tdiv y-1)=y*x.tdiv y-y:=by rw[Int.mul_sub,Int.mul_one]
   have:=(Int.ediv_emod_unique (a:=x) (q:=x.tdiv y-1) (r:=x.tmod y+y) b).2 ⟨u0,u0,u0⟩
   exact .inr (.inr ⟨u0,u0,this.1,this.2⟩)
theorem Mz{x:Int}(b:0<y):(0<=x/\x/y=((x.natAbs/y.natAbs:Nat):Int)/\x%y=((x.natAbs%y.natAbs:Nat):Int))\/(x<0/\x.natAbs%y.natAbs=0/\x/y=-((x.natAbs/y.natAbs:Nat):Int)/\x%y=0) ∨
  (x<0/\0<x.natAbs%y.natAbs/\x/y=-((x.natAbs/y.natAbs:Nat):Int)-1/\x%y=((y.natAbs-x.natAbs%y.natAbs:Nat):Int)):=by
 have e:=zwb x.natAbs y.natAbs;have l:=zVa x.natAbs (show 0<y.natAbs by omega)
 have f:(y.natAbs:Int)=y:=u0
 have g:y*((x.natAbs/y.natAbs:Nat):Int)+((x.natAbs%y.natAbs:Nat):Int)=(x.natAbs:Int):=by grind
 generalize x.natAbs/y.natAbs=Q at *;generalize x.natAbs%y.natAbs=R at *;by_cases hx:0<=x
 ·have:=(Int.ediv_emod_unique (a:=x) (q:=Q) (r:=R) b).2 ⟨u0,u0,u0⟩
  omega
 ·have c:y*-(Q:Int)=-(y*Q):=Int.mul_neg ..;by_cases hz:R=0
  ·have:=(Int.ediv_emod_unique (a:=x) (q:=-Q) (r:=0) b).2 ⟨u0,u0,u0⟩
   omega
  ·have d:y*(-(Q:Int)-1)=-(y*Q)-y:=by rw[Int.mul_sub,Int.mul_one,c]
   have:=(Int.ediv_emod_unique (a:=x) (q:=-Q-1) (r:=((y.natAbs-R:Nat):Int)) b).2 ⟨u0,u0,u0⟩
   omega
theorem Ko{x:Int}(c:In y)(h:0<y):In (x%y):=by
 have a:=Int.emod_nonneg x (show y≠0 by omega)
 have b:=Int.emod_lt_of_pos x h;grind [In]
def oe{x:Int}(h:0<y):0<=x%y/\x%y<y:=⟨Int.emod_nonneg x u0,Int.emod_lt_of_pos x h⟩
end
section
variable{y:Int}
theorem SR(n:Nat){x:Int}(hx:In x)(B:In y)(l:0<y):C (n+6) 172 [R x,R y]=some (.tup [R (x/y),R (x%y)]):=by
 have N:=Int.natAbs_ediv_le_natAbs x y;have L:=qU hx y;have a2:=oe (x:=x) l;rw[Yv];delta Kd Q P qT qN Jn J0 J1 bF bq nq qA qO qb Z qp;have s:=we (n+3) (a:=some x) (b:=some y) (bn hx) (bn B);have d:∀ a b:Int,D.beq (I a) (.int .i64 b)=decide (a=b):=λa b=>ci;refine O s (O aJ (J false (O (z:=false) ?_ (J false ?_))))
 ·rw[zia H]
  refine O (lc (n+2) B) ?_;rw[d,zfa (Nc u0)];rfl
 rw[zia H]
 by_cases fast:(inR x/\x≠-9223372036854775808)/\inR y/\y≠-9223372036854775808
 ·obtain⟨⟨F,e⟩,G,S⟩:=fast;have k:C (n+5) 202 [R x]=some (.tup [I x,.bool true]):=by
   rcases wi (n+1) hx with⟨_,h⟩|⟨h,_⟩
   ·exact h
   ·simp_all
  have m:C (n+5) 202 [R y]=some (.tup [I y,.bool true]):=by
   rcases wi (n+1) B with⟨_,h⟩|⟨h,_⟩
   ·exact h
   ·simp_all
  simp only[inR] at F G;have i:inR (x/y):=by simp only[inR];omega
  have g:inR (x%y):=by simp only[inR];omega
  refine O (z:=(0,[R (x/y),R (x%y)])) ?_ rfl;refine O k (J (I x) (J (.bool true) (J true (O (z:=true) ?_ (J true ?_)))))
  ·rw[zla rfl,d,zfa e];rfl
  rw[zla rfl];refine O m (J (I y) (J (.bool true) (J true (O (z:=true) ?_ (J true ?_)))))
  ·rw[zla rfl,d,zfa S];rfl
  rw[zla rfl];have M:inR (x.tdiv y):=by
   have:(x.tdiv y).natAbs<=x.natAbs:=by rw[Int.natAbs_tdiv];exact zfc _ _
   grind [inR]
  refine O (uw u0 M) (O (ph u0) (O (z:=(0,[I (x/y),I (x%y)])) ?_ (O (ou (n+3) i) (O (ou (n+3) g) rfl))))
  refine O ac ?_;rw[d];rcases Nr (x:=x) l with⟨h0,h1,f,X⟩|⟨h0,h1,f,X⟩|⟨h0,h1,f,X⟩
  ·rw[h1,f];refine O (z:=false) ?_ (O ac rfl);by_cases hz:x.tmod y=0
   ·simp_all
   ·rw[zfa hz];refine fW (O ah (O ah ?_));rw[zfa u0,zfa u0];rfl
  ·rw[f,X,h1];exact J false (O ac rfl)
  ·rw[zfa (show ¬ x.tmod y=0 by omega)]
   refine O (z:=true) (fW (O ah (O ah ?_))) (O ac ?_)
   ·rw[zna u0,zfa u0];rfl
   ·rw[f] at i ⊢;rw[X] at g ⊢;exact fW (O (bW i) (O (ay g) rfl))
 ·refine O (z:=(1,[.st [.bool false,.bool false,az bf],.st [.bool false,.bool false,az bf]])) ?_ ?_
  ·rcases wi (n+1) hx with⟨F,h⟩|⟨F,h⟩
   ·by_cases e:x=-9223372036854775808
    ·refine O h (J (I x) (J (.bool true) (J true (O (z:=false) ?_ (J false rfl)))));rw[zla rfl,d,zna e];rfl
    ·refine O h (J (I x) (J (.bool true) (J true (O (z:=true) ?_ (J true ?_)))))
     ·rw[zla rfl,d,zfa e];rfl
     rw[zla rfl];rcases wi (n+1) B with⟨G,f⟩|⟨G,f⟩
     ·simp_all
     ·exact O f (J (I 0) (J (.bool false) (J false (J false (J false rfl)))))
   ·exact O h (J (I 0) (J (.bool false) (J false (J false (J false rfl)))))
  rw[zia H]
  have A:=aD.1 hx;have o:=aD.1 B;have v:x.natAbs/y.natAbs<eN:=zLa (zfc _ _) A;have j:x.natAbs%y.natAbs<eN:=zmc (zVa _ u0) o
  refine O (jF x) (O (jF y) (O (Uk (n+1) A o u0) (J (LM (x.natAbs/y.natAbs)) (J (LM (x.natAbs%y.natAbs)) (O (dC x) (O (dC y) ?_))))))
  have a0:(!(D.beq (.bool (decide (x<0))) (.bool (decide (y<0)))))=decide (x<0):=by grind [D.beq]
  rw[a0,iQ,kX j iH];refine O (wd (n+4) _ v) ?_;have c:∀ a1:Nat,(a1:Int)=x%y->a1<eN->C (n+5) 116 [.bool (decide (y<0)),LM a1]=some (R (x%y)):=λa1 hQ ht=>by rw[wd (n+4) _ ht,zfa (show ¬ y<0 by omega),show sgn false a1=(a1:Int) from rfl,hQ]
  rcases Mz (x:=x) l with⟨p,q,r⟩|⟨p,q,r,E⟩|⟨p,q,r,E⟩
  ·refine O (z:=(0,[LM (x.natAbs%y.natAbs),R (x/y)])) ?_ (O (dC y) (O (c _ r.symm j) rfl));have w:sgn (decide (x<0)) (x.natAbs/y.natAbs)=x/y:=by unfold sgn;rw[zfa u0];simp[q]
   rw[w];refine J (!decide (x.natAbs%y.natAbs=0)) (O (z:=false) ?_ (J false rfl));cases (!decide (x.natAbs%y.natAbs=0))
   ·rfl
   ·refine fW (O (dC x) (O (dC y) ?_));rw[a0,zfa u0];rfl
  ·refine O (z:=(0,[LM (x.natAbs%y.natAbs),R (x/y)])) ?_ (O (dC y) (O (c _ (by rw[q,E];rfl) j) rfl))
   have w:sgn (decide (x<0)) (x.natAbs/y.natAbs)=x/y:=by unfold sgn;rw[zna p];simp[r]
   rw[w,zna q];exact J false (J false (J false rfl))
  ·have K:=zVa x.natAbs (show 0<y.natAbs by omega)
   refine O (z:=(0,[LM (y.natAbs-x.natAbs%y.natAbs),R (x/y)])) ?_ (O (dC y) (O (c _ E.symm u0) rfl))
   have w:sgn (decide (x<0)) (x.natAbs/y.natAbs)=-((x.natAbs/y.natAbs:Nat):Int):=by unfold sgn;rw[zna p];rfl
   rw[w,zfa (show ¬ x.natAbs%y.natAbs=0 by omega)]
   refine J true (O (z:=true) ?_ (J true (fW ?_)))
   ·refine fW (O (dC x) (O (dC y) ?_));rw[a0,zna p];rfl
   ·have i1:=bB (cj 1);have u:In (-((x.natAbs/y.natAbs:Nat):Int)):=by rw[aD,zHb,zha];exact v
    have t:C (n+5) 203 [R (-((x.natAbs/y.natAbs:Nat):Int)),R 1]=some (R (x/y)):=by
     rw[Yw];unfold Ke;have hm:=bB (cj (-1));refine O (Hv (n+1) i1) (O (rH n u hm (by rw[show -((x.natAbs/y.natAbs:Nat):Int)+-1=x/y by rw[r];rfl];exact L)) ?_)
     grind
    exact O (ou (n+3) (cj 1)) (O t (O (jF y) (O (Ui (n+4) o (zIc K)) rfl)))
def mR(n:Nat){x:Int}(hx:In x)(b:In y)(a:0<y):C (n+7) 132 [R x,R y]=some (R (x/y)):=by rw[Yr];unfold J9;exact O (SR n hx b a) (J (R (x/y)) (J (R (x%y)) rfl))
def yG(n:Nat){x:Int}(hx:In x)(b:In y)(a:0<y):C (n+7) 137 [R x,R y]=some (R (x%y)):=by rw[afT];unfold OA;exact O (SR n hx b a) (J (R (x/y)) (J (R (x%y)) rfl))
end
section
variable{a c y:Int}
def A1{α:Type}{A B y:α}(h:B=y):(if false=true then A else B)=y:=h
def u7(a b c d:Int):Int:=bk (a*d) (c*b)
theorem Io(x y:Int):bk y x=-bk x y:=by grind [bk]
def GN{x:Int}(h:x<y):bk x y=-1:=by unfold bk;rw[zla h]
def Ct{x:Int}(h:y<x):bk x y=1:=by unfold bk;rw[zia u0,zla h]
def Cu(x y:Int):-1<=bk x y/\bk x y<=1:=by unfold bk;split<;>(try split)<;>omega
theorem Cs{x:Int}:bk x y=0↔x=y:=by grind [bk]
def Lk(t x y:Int):bk (t+x) (t+y)=bk x y:=by unfold bk;all_goals omega
theorem zv{b d:Int}(f:0<b)(e:0<d)(h:a/b<c/d):a*d<c*b:=by
 have g:=Int.mul_ediv_add_emod a b;have i:=Int.mul_ediv_add_emod c d;have r1:=oe (x:=a) f;have j:=oe (x:=c) e;generalize a/b=Q1 at *;generalize a%b=R1 at *;generalize c/d=Q2 at *;generalize c%d=R2 at *;have k:0<=(Q2-Q1-1)*(b*d):=zWb u0 (zWa (zCb f e))
 have l:0<(b-R1)*d:=zCb u0 e
 have m:0<=R2*b:=zWb j.1 u0
 subst g i;grind
def QS{b d:Int}(e:0<b)(f:0<d)(h:a/b≠c/d):bk (a/b) (c/d)=u7 a b c d:=by
 unfold u7;rcases Int.lt_or_gt_of_ne h with h|h
 ·simp_all [GN,zv]
 ·simp_all [Ct,zv]
theorem QR{b d:Int}(h:a/b=c/d):u7 a b c d=u7 (a%b) b (c%d) d:=by have e:=Int.mul_ediv_add_emod a b;have f:=Int.mul_ediv_add_emod c d;unfold u7;rw[<-Lk (b*d*(a/b)) (a%b*d) (c%d*b)];all_goals grind
theorem Im(a b c d:Int):u7 b a d c=-u7 a b c d:=by grind [u7,Io,Int.mul_comm]
def gQ{x:Int}(h:0<x):sg x=1:=by unfold sg;rw[zia u0,zla h]
def Li{b d:Int}(e:0<b)(f:0<d)(g:0<=a)(hc:0<=c)(h:a=0\/c=0):sg a-sg c=u7 a b c d:=by
 unfold u7;rcases h with rfl|rfl
 ·rw[zKc];by_cases h0:c=0
  ·subst h0;rw[zKc];rfl
  ·rw[GN (zCb u0 e),gQ (x:=c) u0];rfl
 ·rw[zKc];by_cases h0:a=0
  ·subst h0;rw[zKc];rfl
  ·rw[Ct (zCb u0 f),gQ (x:=a) u0];rfl
def CJ(z:Int)(m:Nat)(st:List D):Prop:=∃ s p d q e:Int,st=[I s,.st [R p,R d],.st [R q,R e]]/\(s=1\/s=-1)/\0<d/\0<e/\In p/\In d/\In q/\In e/\m=d.natAbs/\s*u7 p d q e=z
def KD{s:Int}(a:s=1\/s=-1)(hc:-1<=c/\c<=1):akk .mul (I s) (I c)=some (I (s*c)):=
 cN (by
      have:c=-1\/c=0\/c=1:=u0
      rcases a with rfl|rfl<;>rcases this with rfl|rfl|rfl<;>exact cj _)
theorem Nf(x:Int):-1<=sg x/\sg x<=1:=by grind [sg]
def oT:Option Rat->Option Rat->Int
 | some x,some y=>u7 x.num x.den y.num y.den
 | none,none=>0
 | none,some _=>-1
 | some _,none=>1
def Lh{x y:Rat}(hx:InR x)(a:InR y):CJ (oT (some x) (some y)) (x.den:Int).natAbs [I 1,av x,av y]:=
 ⟨1,x.num,x.den,y.num,y.den,rfl,.inl rfl,by have:=x.den_pos;omega,by have:=y.den_pos;omega,hx.1,hx.2,a.1,a.2,rfl,Int.one_mul _⟩
def Cg(a:Int):D.beq (I a) (.int .i64 0)=decide (a=0):=ci
theorem yh(n:Nat){a b:Option Rat}(v:OW a)(w:OW b):C (n+1031) 73 [bH a,bH b]=some (I (oT a b)):=by
 rw[u73];delta Y4 Q P qT qN iL iR Jn J0 J1 bq nq qA qO Z qn qt qy qz;refine O (gJ n v) (O (gJ n w) (O aJ (O ac ?_)));cases a with
 | none=>
  cases b with
  | none=>exact J true (O ac rfl)
  | some y=>exact J false (O ac (A1 (O aJ (O ac rfl))))
 | some x=>
 cases b with
 | none=>exact J false (O ac (A1 (O aJ (O ac (A1 (O aJ (O ac rfl)))))))
 | some y=>
 refine J false (O ac (A1 (O aJ (O ac (A1 (O aJ (O ac (A1 ?_))))))));have hx:=v.some;have F:=w.some;refine su (CJ (oT (some x) (some y))) _ _ (Lh hx F) (λm s E=>?_);obtain⟨s,p,d,q,e,rfl,K,c,he,ip,id,l,i,rfl,o⟩:=E;have j:=qU ip d;have k:=qU l e;have u:=Ko (x:=p) id c;have it:=Ko (x:=q) i he;have wr:=oe (x:=p) c;have wt:=oe (x:=q) he;by_cases hne:p/d=q/e
 ·have h0:=Cs.2 hne;have g:∀ {A:Option (Sum (List D) (Nat×List D))} {B y},B=some y->(if(!(D.beq (I (bk (p/d) (q/e))) (.int .i64 0)))=true then A else B)=some y:=λh=>by
   simp_all [Cg]
  rw[QR hne] at o;by_cases hr:p%d=0\/q%e=0
  ·right;have f:=Li c he wr.1 wt.1 hr;rw[<-f] at o;refine⟨(0,[I (oT (some x) (some y))]),?_,rfl⟩;refine J (R p) (J (R d) (O (mR (n+1023) ip id c) (J (R q) (J (R e) (O (mR (n+1023) l i he) (O (NO (n+1026) j k) (O ac (g ?_))))))));refine J (R d) (J (R p) (J (R d) (O (yG (n+1023) ip id c) (J (R e) (J (R q) (J (R e) (O (yG (n+1023) l i he) ?_)))))));refine O (lc (n+1027) u) (O (lc (n+1027) it) (O ac (O (z:=true) ?_ (O ac (fW ?_)))))
   ·rw[Cg,Cg];by_cases h1:p%d=0
    ·simp_all [zna,jL]
    ·rw[zfa (by rw[jL];exact h1),zna (by rw[jL];exact hr.resolve_left h1)];rfl
   ·have s1:=Nf (p%d);have s2:=Nf (q%e);have G:-1<=sg (p%d)-sg (q%e)/\sg (p%d)-sg (q%e)<=1:=by rw[f];exact Cu _ _
    refine O (bW (by simp only[inR];omega)) (O (KD K G) ?_)
    rw[o]
  ·left;have r:p%d≠0:=λh=>hr (.inl h);have t:q%e≠0:=λh=>hr (.inr h);refine⟨(p%d).natAbs,[I (-s),.st [R d,R (p%d)],.st [R e,R (q%e)]],u0,?_,-s,d,p%d,e,q%e,rfl,u0,u0,u0,id,u,i,it,rfl,?_⟩
   ·refine J (R p) (J (R d) (O (mR (n+1023) ip id c) (J (R q) (J (R e) (O (mR (n+1023) l i he) (O (NO (n+1026) j k) (O ac (g ?_))))))));refine J (R d) (J (R p) (J (R d) (O (yG (n+1023) ip id c) (J (R e) (J (R q) (J (R e) (O (yG (n+1023) l i he) ?_)))))));refine O (lc (n+1027) u) (O (lc (n+1027) it) (O ac (O (z:=false) ?_ (O ac ?_))))
    ·rw[Cg,Cg,zfa (by rw[jL];exact r),zfa (by rw[jL];exact t)];rfl
    ·exact A1 (O (nj (a:=s) (by simp only[inR];omega)) rfl)
   ·grind [Im,Int.neg_mul_neg]
 ·right;have h0:bk (p/d) (q/e)≠0:=λh=>hne (Cs.1 h);rw[<-QS c he hne] at o;refine⟨(0,[I (oT (some x) (some y))]),?_,rfl⟩;refine J (R p) (J (R d) (O (mR (n+1023) ip id c) (J (R q) (J (R e) (O (mR (n+1023) l i he) (O (NO (n+1026) j k) (O ac ?_)))))));rw[Cg,zfa h0];refine fW (O (KD K (Cu _ _)) ?_);rw[o]
end
section
variable{u y:V}
def Dv(z:Int):lI (-z)=(lI z).map (λx=>-x):=by simp_all [lI,zHb]
theorem Ky(x y:Rat):H7 (-x) (-y)=yq (H7 x y):=by
 unfold H7;rw[Rat.neg_num,Rat.neg_num,Rat.neg_den,Rat.neg_den];simp only[sE,Int.neg_mul,Dv];generalize lI (x.num*_)=A;generalize lI (y.num*_)=B;generalize lI (_*(y.den:Int))=C;cases A with
 | none=>cases C<;>rfl
 | some a=>
 cases B with
 | none=>cases C<;>rfl
 | some b=>
 simp only[Cc,zUb];rw[show -a+-b=-(a+b) by omega,Dv]
 generalize lI (a+b)=S;cases S with
 | none=>cases C<;>rfl
 | some t=>
 cases C with
 | none=>rfl
 | some c=>
 all_goals grind [nL,yq,Rat.neg_divInt]
def mC(h:bd NB u):bd NB u.neg:=by simp only[bd,V.neg,NB] at *;omega
structure PairOk(x y:V)(q r:Nat->Int)(l m:List V):Prop where
 pa:PoseOk x q
 pb:PoseOk y r
 la:∀ v∈l,bd 4096 v
 lb:∀ v∈m,bd 4096 v
 na:0<l.length
 nb:0<m.length
 ka:l.length<=100
 kb:m.length<=100
 ta:l.length<=10
 tb:m.length<=10
def Vv(u x y:V)(q r:Nat->Int)(l m:List V):Option Rat:=H7 (-(kQ u.neg y r m)) (-(kQ u x q l))
def aep(n:Nat){x:V}{q r:Nat->Int}{l m:List V}(h:PairOk x y q r l m)(hu:bd NB u):C (n+1033) 434 [ag u,jB x q l,jB y r m]=some (bH (Vv u x y q r l m)):=by
 rw[agG];unfold Pm;have c:=xu hu h.pa h.la h.na;have d:=xu (mC hu) h.pb h.lb h.nb;refine O (QL (n+1031) hu H) (O (Uo (n+1) (mC hu) h.pb h.lb h.nb h.kb) (O (Uo (n+1) hu h.pa h.la h.na h.ka) ?_))
 refine O (yH (n+1) (a:=some (kQ u.neg y r m)) (b:=some (kQ u x q l)) (aH d) (aH c)) (O (GE (n+1) (rD _ _)) ?_);unfold Vv;rw[Ky];rfl
end
def xF(k:Int)(v:V):Bool:=(List.range 3).all λt=>D6 k (aX v (0+t))
def Jr{k:Int}{v:V}(h:xF k v=true):bd (k-1) v:=by grind [xF,D6,List.range_succ,aX,bd]
def KI(u:V):D.beq (ag u) (D.st [(.int .i64 0),(.int .i64 0),(.int .i64 0)])=decide (u=V.zero):=kH u V.zero
def pF(q:Nat->Int)(v:V):V:=⟨fk q v 0,fk q v 1,fk q v 2⟩
def WG(F:FL):Prop:=F.length<=3000000/\∀ f∈F,bd 549755813888 f.1.1/\(f.1.2).natAbs<=281474976710656
def adM{v:V}(h:bd 549755813888 v):bd 1099511627776 v:=by simp only[bd] at *;omega
def Gz{A B:Int}{v:V}(h:bd A v)(a:A<=B):bd B v:=by simp only[bd] at *;omega
def IB{l:List V}(hl:∀ x∈l,bd 4096 x){m:V}{d:Int}(h:IsF (A l) l.length m d):bd 549755813888 m/\d.natAbs<=281474976710656:=by
 obtain⟨i,j,k,h1,p,b,q,c,f⟩:=h.ex;have hi:=hl _ (de (show i<l.length by omega))
 have n:=hl _ (de (show j<l.length by omega))
 have hk:=hl _ (de b);have w1:=k9 n hi;have o:=k9 hk hi;have hp:=fJ (jU w1 o);have hm:bd 134217728 m:=by
  rcases c with rfl|rfl
  ·exact hp
  ·exact tn hp
 refine⟨Gz hm H,?_⟩
 have a:=KE hm hi;rw[f];have e:(3:Int)*(134217728*4096)=1649267441664:=rfl;rw[e] at a;have g:-1649267441664<=V.dot m (A l i)/\V.dot m (A l i)<=1649267441664:=a;omega
def ST(n:Nat)(l:List V){m:Nat}(hm:m<=100):∃ v:Bool,C (n+10) 431 [bw l,I (m:Int)]=some (.bool v)/\(v=true->l.length<=m/\(∀ x∈l,bd 4096 x)/\Hul l):=by
 suffices h:∃ y,C (n+10) 431 [bw l,I (m:Int)]=some y/\∃ v:Bool,y=.bool v/\(v=true->l.length<=m/\(∀ x∈l,bd 4096 x)/\Hul l) by grind
 rw[agE];delta Pi qC qY qP iL iR Jn J0 J3 bF bq jl qO qc qf qh qi qj Z qm qr qy;refine aq (z:=bg l) rfl (aq (z:=l.map ag) rfl (aq cn (aq ac ?_)));by_cases hlen:l.length>m
 ·exact iT (by rw[aG];omega) ⟨.bool false,rfl,false,rfl,λh=>by cases h⟩
 refine AP (by rw[aG];omega) ?_
 refine nK (λi s=>s=[I (i:Int)]/\∀ x∈l.take i,bd 4096 x) l.length 0 (zoa _) ⟨rfl,j2⟩ (λi hi s c=>?_) (λs c=>?_)
 ·obtain⟨rfl,c⟩:=c;refine aq (z:=bg l) rfl (aq (z:=l.map ag) rfl (aq ah (aq ac (iT (by show(i:Int)<((l.map ag).length:Int);rw[aG];omega) ?_))))
  refine nK (λk s=>s=[I (k:Int)]/\∀ t,t<k->aX l[i] t<=4096/\-4096<=aX l[i] t) 3 0 (zoa _) ⟨rfl,λt h=>u0⟩ (λk hk s d=>?_) (λs d=>?_)
  ·obtain⟨rfl,d⟩:=d;have o:(D.get (bw l) [0]).bind (λj=>(D.asSl j).bind λg=>(D.idx (I (i:Int)) g.length).bind λi11=>g[i11]?)=some (ag l[i]):=
    J (bg l) (J (l.map ag) (O (z:=i) (by rw[aG];exact aj hi) (EX hi)))
   refine aq ah (aq ac (iT (by show(k:Int)<3;omega) ?_))
   refine aq (z:=bg l) rfl (aq (z:=l.map ag) rfl (aq (z:=i) (by rw[aG];exact aj hi) (aq (EX hi) (aq (z:=k) (aj hk) (aq (jX hk) (aq cn (aq ac ?_)))))))
   by_cases h1:aX l[i] k>4096
   ·refine aq (z:=true) (by rw[zna h1];rfl) (aq (z:=true) rfl ⟨.inr (0,[.bool false]),rfl,.inr (0,[.bool false]),rfl,.bool false,rfl,false,rfl,λh=>by cases h⟩)
   ·refine aq (z:=decide (aX l[i] k < -4096)) ?_ (aq ac ?_)
    ·rw[zfa h1,zia H]
     exact J (bg l) (J (l.map ag) (O (z:=i) (by rw[aG];exact aj hi) (O (EX hi) (O (z:=k) (aj hk) (O (jX hk) (O ah ac))))))
    ·by_cases f:aX l[i] k < -4096
     ·exact iT f ⟨.inr (0,[.bool false]),rfl,.inr (0,[.bool false]),rfl,.bool false,rfl,false,rfl,λh=>by cases h⟩
     ·refine AP f ⟨.inl [I ((k+1:Nat):Int)],O (aA (a:=k) (b:=1) u0) rfl,rfl,λt ht=>?_⟩
      by_cases e:t=k
      ·subst e;omega
      ·exact d t u0
  ·obtain⟨rfl,d⟩:=d;refine⟨.inr (1,[]),O ah (O ac (aB H rfl)),.inl [I ((i+1:Nat):Int)],?_,rfl,?_⟩
   ·rw[zia H]
    exact O (aA (a:=i) (b:=1) u0) rfl
   ·rw[zxa hi];intro x hx;rcases zKa.1 hx with hx|hx
    ·exact c x hx
    ·rw[zUa.1 hx];exact GM d
 ·obtain⟨rfl,c⟩:=c;rw[z8a] at c;refine⟨.inr (1,[]),J (bg l) (J (l.map ag) (O ah (O ac (aB (by show ¬ ((l.length:Int)<((l.map ag).length:Int));rw[aG];omega) rfl)))),?_⟩
  rcases ad5 n (l:=l) u0 with⟨e,h1,f⟩|⟨h1,f⟩
  ·refine⟨.bool false,O h1 ?_,false,rfl,λh=>by cases h⟩
   rw[Cg,zfa f]
  ·refine⟨.bool true,O h1 ?_,true,rfl,λ_=>⟨u0,c,f⟩⟩
   rw[Cg];rfl
def aeo(n:Nat)(x:V)(q:Nat->Int):∃ v:Bool,C (n+4) 427 [dW x q]=some (.bool v)/\(v=true->PoseOk x q):=by
 obtain⟨v,h1,d⟩:=aef n q;refine⟨xF 140737488355328 x&&v,?_,λh=>by simp only[X] at h;exact⟨Jr h.1,Hm (d h.2).1,(d h.2).2⟩⟩
 rw[agD];delta Ph Q qC iL iR Jn J0 J3 bF qO qc qh qi qj Z qr qy;refine t8 (r:=if xF 140737488355328 x then(1,[]) else(0,[.bool false])) (A8 (m:=3) (λi=>D6 140737488355328 (aX x i)) (λi hi=>?_) ?_ 3 0 rfl) ?_
 ·have c:=aj hi;refine O ah (O ac (au (by show(i:Int)<3;omega) ?_))
  have hx:=se (v:=x) hi;refine O c (O hx (O fS (O ac ?_)));generalize aX x i=y at *;by_cases h1:y ≥ 140737488355328
  ·have e:D6 140737488355328 y=false:=by simp[D6];omega
   rw[zna h1,e];exact J true (O ac rfl)
  ·rw[zfa h1];refine O (z:=decide (y<=-140737488355328)) (A1 (O c (O hx (O ja ac)))) (O ac ?_);by_cases d:y<=-140737488355328
   ·simp_all [D6,zna]
   ·have e:D6 140737488355328 y=true:=by simp[D6];omega
    rw[zfa d,e];exact A1 (O (aA (a:=i) (b:=1) u0) rfl)
 ·exact O ah (O ac (aB H rfl))
 ·cases xF 140737488355328 x with
  | false=>rfl
  | true=>exact O h1 rfl
section
variable{u y:V}{q:Nat->Int}{a c:Nat}{l:List V}
def Sz(a b:Nat)(x:Rat):Prop:=x.num.natAbs<=2^a/\x.den<=2^b
def Sz.up{b d:Nat}{x:Rat}(h:Sz a b x)(h1:a<=c)(e:b<=d):Sz c d x:=
 ⟨zva h.1 (zqa H h1),zva h.2 (zqa H e)⟩
theorem Sz.neg{b:Nat}{x:Rat}(h:Sz a b x):Sz a b (-x):=⟨by rw[Rat.neg_num,zHb];exact h.1,h.2⟩
def ti{a b:Nat}{x d:Int}(hx:x.natAbs<=2^a)(e:d.natAbs<=2^b)(h0:d≠0):Sz a b (Rat.divInt x d):=by obtain⟨h1,c⟩:=gv x h0;exact⟨zva h1 hx,zva c e⟩
theorem Sz.add{b d k:Nat}{x y:Rat}(hx:Sz a b x)(f:Sz c d y)(h1:a+d<k)(h:c+b<k):Sz k (b+d) (x+y):=by
 have e:x+y=Rat.divInt (x.num*(y.den:Int)+y.num*(x.den:Int)) ((x.den:Int)*y.den):=by
  conv=>lhs;rw[<-z7a x,<-z7a y]
  grind [Rat.divInt_add_divInt,bV]
 rw[e];refine ti ?_ ?_ (zLc (bV x) (bV y))
 ·have m1:=ce (k:=k-1) hx.1 f.2 u0
  have G:=ce (k:=k-1) f.1 hx.2 u0
  have:=zPb (x.num*(y.den:Int)) (y.num*(x.den:Int));rw[zwa,zwa,zha,zha] at this;have g:2^k=2^(k-1)+2^(k-1):=by rw[<-Nat.two_mul,<-Nat.pow_succ'];congr 1;omega
  omega
 ·rw[<-z1a,zha];exact ce hx.2 f.2 (zja _)
def Sz.mul{b d:Nat}{x y:Rat}(hx:Sz a b x)(f:Sz c d y):Sz (a+c) (b+d) (x*y):=by
 have e:x*y=Rat.divInt (x.num*y.num) ((x.den:Int)*y.den):=by
  conv=>lhs;rw[<-z7a x,<-z7a y]
  rw[zZb]
 rw[e];refine ti ?_ ?_ (zLc (bV x) (bV y))
 ·rw[zwa];exact ce hx.1 f.1 (zja _)
 ·rw[<-z1a,zha];exact ce hx.2 f.2 (zja _)
def Ho{x k:Nat}(h:x<=2^k)(hk:k<=511):x<eN:=by
 have:=aD.1 (bJ (x:=(x:Int)) hk (by rw[zha];exact h))
 rwa [zha] at this
theorem Sz.InR{b:Nat}{x:Rat}(h:Sz a b x)(c:a<=511)(d:b<=511):InR x:=⟨bJ c h.1,bJ d (by rw[zha];exact h.2)⟩
theorem Sz.addW{b d:Nat}{x y:Rat}(hx:Sz a b x)(e:Sz c d y)(h1:a+d<511)(g:c+b<511)(f:b+d<=511):addW (some x) (some y)=some (x+y):=by
 refine iZ ⟨?_,?_⟩
 ·obtain⟨k,hk⟩:∃ k,k=510:=⟨_,rfl⟩;have m1:=ce (k:=k) hx.1 e.2 u0
  have G:=ce (k:=k) e.1 hx.2 u0
  refine Ho (k:=k+1) ?_ u0
  omega
 ·exact Ho (ce hx.2 e.2 (zja _)) f
theorem Sz.mulW{b d:Nat}{x y:Rat}(hx:Sz a b x)(e:Sz c d y)(h1:a+c<=511)(f:b+d<=511):mulW (some x) (some y)=some (x*y):=
 nP ⟨Ho (ce hx.1 e.1 (zja _)) h1,Ho (ce hx.2 e.2 (zja _)) f⟩
theorem vo{v:V}(hu:bd NB u)(a:bd PB v):(V.dot u v).natAbs<=2^125:=by obtain⟨h1,b,c⟩:=yT hu a;grind [V.dot]
theorem Ht{L:List V}(hu:bd NB u)(hL:∀ v∈L,bd PB v):∀ k,k<L.length->(IT u L k).natAbs<=2^125
 | 0,h=>vo hu (hL _ (li h))
 | k+1,h=>by
  unfold IT;split
  ·exact vo hu (hL _ (li h))
  ·exact Ht hu hL k u0
def HL{x:V}(h:PoseOk x q):(fQ q).natAbs<=2^14/\fQ q≠0:=by have:=sT h.hq h.h0;omega
def nU{x:V}(hu:bd NB u)(h:PoseOk x q)(hl:∀ v∈l,bd 4096 v)(h0:0<l.length):Sz 125 14 (kQ u x q l):=
 ti (Ht hu (Bs h hl) _ (by simp;omega)) (HL h).1 (HL h).2
def pB(u x y:V)(q r:Nat->Int)(l m:List V):Rat:=-(kQ u.neg y r m)+-(kQ u x q l)
def Mm{x:V}{r:Nat->Int}{m:List V}(h:PairOk x y q r l m)(hu:bd NB u):Vv u x y q r l m=some (pB u x y q r l m):=
 (nU (mC hu) h.pb h.lb h.nb).neg.addW (nU hu h.pa h.la h.na).neg H H H
def uc{x:V}{r:Nat->Int}{m:List V}(h:PairOk x y q r l m)(hu:bd NB u):Sz 140 28 (pB u x y q r l m):=
 (nU (mC hu) h.pb h.lb h.nb).neg.add (nU hu h.pa h.la h.na).neg H H
def Eu(u x y:V)(q r:Nat->Int)(l m:List V):Rat:=pB u x y q r l m*pB u x y q r l m*Rat.divInt 1 (V.dot u u)
def Gp(hu:bd NB u):bd PB u:=by simp only[bd,NB,PB] at *;omega
def GY(h:u≠V.zero):0<V.dot u u:=by
 have key:∀ a:Int,0<=a*a/\(a≠0->0<a*a):=λa=>by
  rcases zQb a 0 with k|k|k
  ·have:=zdc k k;omega
  ·subst k;simp
  ·have:=zCb k k;omega
 obtain⟨x,y,z⟩:=u;have hx:=key x;have b:=key y;have c:=key z;show 0<x*x+y*y+z*z;by_cases h1:x=0
 ·by_cases h2:y=0
  ·by_cases h3:z=0
   ·subst h1 h2 h3;exact zgb rfl h
   ·omega
  ·omega
 ·omega
def div_one(x:Int):Rat.divInt x 1=(x:Rat):=by
 have h:=z7a (x:Rat)
 rwa [Rat.num_intCast,Rat.den_intCast] at h
def Lw{a:Option Rat}{x:Int}(h:x≠0):wF a (some (x:Rat))=mulW a (some (Rat.divInt 1 x)):=by simp_all [wF,Option.elim,Rat.num_intCast,Rat.den_intCast,Bh]
def ahx{x:V}{r:Nat->Int}{m:List V}(h:PairOk x y q r l m)(hu:bd NB u)(h0:u≠V.zero) :
  mulW (some (pB u x y q r l m)) (some (pB u x y q r l m))=some (pB u x y q r l m*pB u x y q r l m)/\wF (some (pB u x y q r l m*pB u x y q r l m)) (some (V.dot u u:Rat))=some (Eu u x y q r l m):=by
 have s:=uc h hu;have d0:=GY h0;refine⟨s.mulW s H H,?_⟩
 rw[Lw u0]
 have a:Sz 0 125 (Rat.divInt 1 (V.dot u u)):=ti H (vo hu (Gp hu)) u0
 exact(s.mul s).mulW a H H
def NA{x:V}{r:Nat->Int}{m:List V}(h:PairOk x y q r l m)(hu:bd NB u)(h0:u≠V.zero):Sz 280 181 (Eu u x y q r l m):=
 ((uc h hu).mul (uc h hu)).mul (ti (a:=0) (b:=125) H (vo hu (Gp hu)) (by have:=GY h0;omega))
def Zo(u x y:V)(q r:Nat->Int)(l m:List V):Rat:=kQ u x q l+pB u x y q r l m*Rat.divInt 1 2
def Gq:Sz 0 1 (Rat.divInt 1 2):=ti H H H
def ae2{x:V}{r:Nat->Int}{m:List V}(h:PairOk x y q r l m)(hu:bd NB u) :
  addW (some (kQ u x q l)) (wF (some (pB u x y q r l m)) (some ((2:Int):Rat)))=some (Zo u x y q r l m):=by
 have e:wF (some (pB u x y q r l m)) (some ((2:Int):Rat))=some (pB u x y q r l m*Rat.divInt 1 2):=by
  rw[Lw H]
  exact(uc h hu).mulW Gq H H
 rw[e];exact(nU hu h.pa h.la h.na).addW ((uc h hu).mul Gq) H H H
theorem GO(x y:Rat):oT (some x) (some y)=if x<y then -1 else if y<x then 1 else 0:=by
 show bk (x.num*(y.den:Int)) (y.num*(x.den:Int))=_
 simp_all [bk,gt_iff_lt,Rat.lt_iff]
theorem tx(x y:Rat):decide (oT (some x) (some y)>0)=decide (y<x):=by all_goals grind [GO]
def SY(x y:Rat):decide (oT (some x) (some y)<=0)=!decide (y<x):=by rw[<-tx,zOc];simp
def Nd(x:Rat):decide (TF (some x)<0)=decide (x<0):=by
 have h:x<0↔x.num<0:=by rw[Rat.lt_iff];simp
 rw[zOc,zea,zea,h];exact zV
theorem El(h:pe q){k:Nat}{v:V}(d:bd (k:Int) v):bd ((49152*k:Nat):Int) (pF q v):=by
 have key:∀ (i:Nat) (x:Int),(-(k:Int)<=x/\x<=k)->(j8 q i*x).natAbs<=16384*k:=λi x hx=>by have:=jI h i;rw[zwa];exact zFa u0 u0
 have:∀ i,(fk q v i).natAbs<=49152*k:=λi=>by have a:=key (3*i) _ d.1;have b:=key (3*i+1) _ d.2.1;have c:=key (3*i+2) _ d.2.2;grind [fk]
 grind [bd,pF]
end
section
variable{u:V}
def Bm{a b:Int}(c:a.natAbs<=402653184)(d:b.natAbs<=402653184):(a*b).natAbs<=162129586585337856:=by rw[zwa];exact zFa c d
theorem yR{v:V}(hu:bd 402653184 u)(d:bd 402653184 v):bd NB (V.cross u v):=by obtain⟨a,b,c⟩:=pM (k:=402653184) hu;obtain⟨v1,v2,v3⟩:=pM (k:=402653184) d;have a1:=Bm b v3;have a2:=Bm c v2;have a3:=Bm c v1;have a4:=Bm a v3;have a5:=Bm a v2;have a6:=Bm b v1;unfold bd NB;grind [V.cross]
def QH(n:Nat){x y:Int}(hx:In x)(b:In y)(h:In (x-y)):C (n+5) 203 [R x,R y]=some (R (x-y)):=by
 rw[Yw];unfold Ke;refine O (Wr (n+1) (a:=some y) (bn b)) (O (z:=R (x-y)) ?_ rfl);have:=rH n (x:=x) (y:=-y) hx (aD.2 (by rw[zHb];exact aD.1 b)) (by rw[<-Int.sub_eq_add_neg];exact h)
 rwa [<-Int.sub_eq_add_neg] at this
def aes(n:Nat){v:V}(hu:bd 402653184 u)(t:bd 402653184 v):C (n+7) 450 [ag u,ag v]=some (gZ (V.cross u v)):=by
 obtain⟨m,o,p⟩:=pM (k:=402653184) hu;obtain⟨v1,v2,v3⟩:=pM (k:=402653184) t;have e:∀ {x:Int},x.natAbs<=402653184->inR x:=λ{x} h=>by simp only[inR];omega
 have l:∀ {a b:Int},a.natAbs<=402653184->b.natAbs<=402653184->In (a*b):=λf g=>by have:=Bm f g;exact bB (by simp only[inR];omega)
 have is:∀ {a b c d:Int},a.natAbs<=402653184->b.natAbs<=402653184->c.natAbs<=402653184->d.natAbs<=402653184->In (a*b-c*d):=λf g hc j=>by have:=Bm f g;have:=Bm hc j;exact bB (by simp only[inR];omega)
 have i:∀ {a b c d:Int},a.natAbs<=402653184->b.natAbs<=402653184->c.natAbs<=402653184->d.natAbs<=402653184->C (n+5) 61 [R a,R b]=some (R (a*b))/\C (n+5) 61 [R c,R d]=some (R (c*d))/\C (n+5) 203 [R (a*b),R (c*d)]=some (R (a*b-c*d)):=λf g hc j=> ⟨js (n+2) (bB (e f)) (bB (e g)) (l f g),js (n+2) (bB (e hc)) (bB (e j)) (l hc j),QH n (l f g) (l hc j) (is f g hc j)⟩
 rw[agL];unfold Pr;refine O (QE (n+3) (e m) (e o) (e p)) (O (QE (n+3) (e v1) (e v2) (e v3)) (O (z:=gZ (V.cross u v)) ?_ rfl));rw[agM];delta Ps P qJ iL iR J0 J2 J3 bF qc qi qj Z qs qy;obtain⟨A,s⟩:∃ A,(D.st [(D.bool false),(D.bool false),(az bf)])=A:=⟨_,rfl⟩;rw[s];obtain⟨a1,a2,a3⟩:=i o v3 p v2;obtain⟨b1,b2,q⟩:=i p v1 m v3;obtain⟨d1,d2,d3⟩:=i m v2 o v1;refine aL (s':=[I 1,.st [R (V.cross u v).x,A,A]]) ?_ (aL (s':=[I 2,.st [R (V.cross u v).x,R (V.cross u v).y,A]]) ?_ (aL (s':=[I 3,gZ (V.cross u v)]) ?_ (dS (r:=(0,[gZ (V.cross u v)])) ?_ rfl)))
 ·refine J (.bool true) (J true (fW (J (I 1) (J (I 1) (J (I 2) (J (I 2) ?_))))));refine J 1 (J (R u.y) (J 2 (J (R v.z) (O a1 ?_))));refine J 2 (J (R u.z) (J 1 (J (R v.y) (O a2 (O a3 ?_)))));exact J 0 (J (.st [R (V.cross u v).x,A,A]) (J (I 1) rfl))
 ·refine J (.bool true) (J true (fW (J (I 2) (J (I 2) (J (I 3) (J (I 0) ?_))))));refine J 2 (J (R u.z) (J 0 (J (R v.x) (O b1 ?_))));refine J 0 (J (R u.x) (J 2 (J (R v.z) (O b2 (O q ?_)))));exact J 1 (J (.st [R (V.cross u v).x,R (V.cross u v).y,A]) (J (I 2) rfl))
 ·refine J (.bool true) (J true (fW (J (I 3) (J (I 0) (J (I 4) (J (I 1) ?_))))));refine J 0 (J (R u.x) (J 1 (J (R v.y) (O d1 ?_))));refine J 1 (J (R u.y) (J 0 (J (R v.x) (O d2 (O d3 ?_)))));exact J 2 (J (gZ (V.cross u v)) (J (I 3) rfl))
 ·exact J (.bool false) (J false rfl)
def aeq(n:Nat){v:V}(h1:inR v.x)(a:inR v.y)(b:inR v.z):C (n+3) 448 [ag v]=some (gZ v):=by rw[agJ];delta Pp Q Z;exact O (pX v) (O (ou n h1) (O (pY v) (O (ou n a) (O (pZ v) (O (ou n b) rfl)))))
theorem Xi(n:Nat){v:V}(u:bd NB v):C (n+1030) 447 [gZ v]=some (.tup [ag (aS v),I (if v=V.zero then 31 else 0)]):=by
 obtain⟨h1,E,F⟩:=E4 u;have i0:=bB (cj 0);have l:=bB h1;have o:=bB E;have p:=bB F;have M:∀ {x y:Int},In x->In (Nat.gcd x.natAbs y.natAbs:Nat)\/x=0:=λ{x y} hx=>by
  by_cases h:x=0
  ·omega
  ·left;rw[aD,zha];exact zLa (zed u0 (zhb _ _)) (aD.1 hx)
 have c:=wh n i0 l;rw[show(Nat.gcd (0:Int).natAbs v.x.natAbs)=v.x.natAbs by simp] at c
 have m:In (v.x.natAbs:Nat):=s6
 have d:=wh n m o;rw[show(Nat.gcd ((v.x.natAbs:Nat):Int).natAbs v.y.natAbs)=Nat.gcd v.x.natAbs v.y.natAbs by simp] at d
 have i2:In (Nat.gcd v.x.natAbs v.y.natAbs:Nat):=by
  rcases M l (y:=v.y) with h|h
  ·exact h
  ·rw[h,aD,zha];simpa using aD.1 o
 have e:=wh n i2 p;rw[show(Nat.gcd ((Nat.gcd v.x.natAbs v.y.natAbs:Nat):Int).natAbs v.z.natAbs)=br v by simp[br]] at e
 have i3:In (br v:Nat):=by
  by_cases h:Nat.gcd v.x.natAbs v.y.natAbs=0
  ·unfold br;rw[h,aD,zha];simpa using aD.1 p
  ·rw[aD,zha];exact zLa (zed u0 (zhb _ _)) (by simpa using aD.1 i2)
 rw[agI];delta Po Q qN iL iR Jn J0 J3 bq qO qc qf qh qi qj Z qo qp qs qt qy;refine O (ou (n+1027) (cj 0)) ?_;refine aL (s':=[I 1,R (v.x.natAbs:Nat)]) (O ah (O ac (au H (O L9 (J (R v.x) (O c (O (ay Tf) rfl))))))) ?_
 refine aL (s':=[I 2,R (Nat.gcd v.x.natAbs v.y.natAbs:Nat)]) (O ah (O ac (au H (O IC (J (R v.y) (O d (O (ay yb) rfl))))))) ?_
 refine aL (s':=[I 3,R (br v:Nat)]) (O ah (O ac (au H (O Ma (J (R v.z) (O e (O (ay Tg) rfl))))))) ?_
 refine dS (r:=(0,[R (br v:Nat)])) (O ah (O ac (aB H rfl))) ?_
 refine J (.bool false) (O ac (A1 (O (lc (n+1026) i3) ?_)));by_cases hz:br v=0
 ·have f:v=V.zero:=by
   by_cases h:v=V.zero
   ·exact h
   ·have:=jZ h;omega
  rw[hz,zla f,f];exact J true (fW rfl)
 ·rw[zia (λh=>hz (by rw[h];rfl)),gQ (show(0:Int)<br v by omega)]
  refine J false (A1 ?_);have a:(br v:Int)≠0:=u0
  have K:=u5 (n+1023) l i3 a (yU v);have z2:=u5 (n+1023) o i3 a (yV v);have z3:=u5 (n+1023) p i3 a (yW v);obtain⟨p1,w,N⟩:=fJ u;have sm:∀ {x:Int},-NB<=x/\x<=NB->C (n+1029) 202 [R x]=some (.tup [I x,.bool true]):=λ{x} h=>by
   have t:inR x:=by simp only[NB] at h;simp only[inR];omega
   rcases wi (n+1025) (bB t) with⟨_,h⟩|⟨h,_⟩
   ·exact h
   ·exact zgb t h
  have b:∀ {x:Int} {α:Type} {A B y:Option α},-NB<=x/\x<=NB->B=y->((if(false:Bool)=true then some true else (akk .geq (I x) (D.int .i64 2305843009213693952)).bind λq=>D.truth q).bind λg=>(D.truth (D.bool g)).bind λi=>Option.bind (if i=true then some true else (akk .leq (I x) (D.int .i64 (-2305843009213693952))).bind λs=>D.truth s) λj=>(D.truth (D.bool j)).bind λk=>if k=true then A else B)=y:=λ{x α A B y} h G=>by
   simp only[NB] at h;subst G;rw[zia H,show akk .geq (I x) (D.int .i64 2305843009213693952)=some (.bool (decide (x ≥ 2305843009213693952))) from fS,show akk .leq (I x) (D.int .i64 (-2305843009213693952))=some (.bool (decide (x<=-2305843009213693952))) from ja,zfa u0,zfa u0]
   rfl
  refine aL (s':=[I 1,ag V.zero,ag ⟨v.x/(br v:Nat),0,0⟩]) ?_ (aL (s':=[I 2,ag V.zero,ag ⟨v.x/(br v:Nat),v.y/(br v:Nat),0⟩]) ?_ (aL (s':=[I 3,ag V.zero,ag (aS v)]) ?_ (dS (r:=(1,[ag V.zero,ag (aS v)])) (O ah (O ac (aB H rfl))) rfl)))
  ·refine O ah (O ac (au H (O L9 (J (R v.x) (O K (O (sm p1) (J (I (v.x/(br v:Nat))) (J (.bool true) (O aJ (O ac (b p1 ?_)))))))))))
   exact O L9 (J (ag ⟨v.x/(br v:Nat),0,0⟩) (O (ay Tf) rfl))
  ·refine O ah (O ac (au H (O IC (J (R v.y) (O z2 (O (sm w) (J (I (v.y/(br v:Nat))) (J (.bool true) (O aJ (O ac (b w ?_)))))))))))
   exact O IC (J (ag ⟨v.x/(br v:Nat),v.y/(br v:Nat),0⟩) (O (ay yb) rfl))
  ·refine O ah (O ac (au H (O Ma (J (R v.z) (O z3 (O (sm N) (J (I (v.z/(br v:Nat))) (J (.bool true) (O aJ (O ac (b N ?_)))))))))))
   exact O Ma (J (ag (aS v)) (O (ay Tg) rfl))
end
end Sy
end
noncomputable section
namespace Sy
section
variable{f:Nat->Int}{a:Nat}{l:List Int}
def bL:List Int->List Int
 | []=>[]
 | x::l=>if bL l=[]/\x=0 then[] else x::bL l
theorem Jx(l:List Int):∀ k,(bL l).getD k 0=l.getD k 0:=by
 induction l with
 | nil=>intro k;rfl
 | cons x l ih=>
  intro k;have e:bL (x::l)=if bL l=[]/\x=0 then[] else x::bL l:=rfl
  rw[e];split
  ·rename_i h;cases k with
   | zero=>simp[h.2]
   | succ k=> have:=ih k;grind
  ·cases k with
   | zero=>simp
   | succ k=>simpa using ih k
def oN{a b:List Int}(h:∀ k,a.getD k 0=b.getD k 0):bL a=bL b:=by
 induction a generalizing b with
 | nil=>
  induction b with
  | nil=>rfl
  | cons y b d=>
   have e:bL (y::b)=if bL b=[]/\y=0 then[] else y::bL b:=rfl
   have h0:=h 0;have f:=d λk=>by have:=h (k+1);simpa using this
   simp at h0;rw[e,zla ⟨f.symm,h0.symm⟩];rfl
 | cons x a ih=>
  cases b with
  | nil=>
   have e:bL (x::a)=if bL a=[]/\x=0 then[] else x::bL a:=rfl
   have h0:=h 0;have c:=ih (b:=[]) λk=>by have:=h (k+1);simpa using this
   simp at h0;rw[e,zla ⟨c,h0⟩];rfl
  | cons y b=>
   have h0:=h 0;have c:=ih (b:=b) λk=>by have:=h (k+1);simpa using this
   simp at h0;show(if bL a=[]/\x=0 then[] else x::bL a)=(if bL b=[]/\y=0 then[] else y::bL b)
   rw[c,h0]
theorem Jy(l:List Int):(bL l).length<=l.length:=by
 induction l with
 | nil=>exact zja _
 | cons x l ih=>
  show(if bL l=[]/\x=0 then[] else x::bL l).length<=_
  grind
def xO(l:List Int)(h:bL l≠[]):l.getD ((bL l).length-1) 0≠0:=by
 induction l with
 | nil=>exact zgb rfl h
 | cons x l ih=>
  have e:bL (x::l)=if bL l=[]/\x=0 then[] else x::bL l:=rfl
  rw[e] at h ⊢;split at h
  ·simp_all
  ·rename_i hc;rw[zia hc];by_cases hl:bL l=[]
   ·simp_all
   ·have:=ih hl;have hp:=zYc.2 hl;obtain⟨m,hm⟩:∃ m,(bL l).length=m+1:=⟨_,(Nat.succ_pred_eq_of_pos hp).symm⟩
    simp_all
def BT(l:List Int)(x:Int):bL (l++[x])=if x=0 then bL l else l++[x]:=by
 induction l with
 | nil=> simp_all [bL]
 | cons y l ih=>
  show(if bL (l++[x])=[]/\y=0 then[] else y::bL (l++[x]))=_
  rw[ih];by_cases h:x=0
  ·simp only[h,if_true];rfl
  ·simp[h]
theorem F8{m:Nat}(h:∀ k,m<=k->l.getD k 0=0):(bL l).length<=m:=by
 by_cases hn:bL l=[]
 ·simp_all
 ·have:=xO l hn;all_goals grind
theorem Jz{P:Int->Prop}(h:∀ x∈l,P x):∀ x∈bL l,P x:=by
 induction l with
 | nil=>exact h
 | cons y l ih=>
  show ∀ x∈(if bL l=[]/\y=0 then[] else y::bL l),P x
  all_goals grind
theorem dj(f:Nat->Int)(n k:Nat):((List.range n).map f).getD k 0=if k<n then f k else 0:=by all_goals grind
def K(f:Nat->Int):List Int:=bL [f 0,f 1,f 2,f 3]
def S(f:Nat->Int)(d b:Nat):Prop:=(∀ k,d<k->f k=0)/\∀ k,(f k).natAbs<=2^b
def rZ(a b c d:Int)(k:Nat)(f:Nat->Int)(h0:f 0=a)(h1:f 1=b)(e:f 2=c)(g:f 3=d)(h:∀ k,3<k->f k=0):[a,b,c,d].getD k 0=f k:=by
 match k with
 | 0=>exact h0.symm
 | 1=>exact h1.symm
 | 2=>exact e.symm
 | 3=>exact g.symm
 | k+4=>rw[h (k+4) u0];rfl
def bN{d b:Nat}(h:S f d b)(a:d<=3)(k:Nat):(K f).getD k 0=f k:=by unfold K;rw[Jx];exact rZ _ _ _ _ k f rfl rfl rfl rfl λk hk=>h.1 k u0
def dI{d b:Nat}(h:S f d b)(a:d<=3):(K f).length<=d+1:=by
 unfold K;exact F8 λk hk=>by
  rw[rZ _ _ _ _ k f rfl rfl rfl rfl λk hk=>h.1 k u0]
  exact h.1 k u0
def yP{d b:Nat}(h:S f d b)(a:d<=3)(hl:∀ k,l.getD k 0=f k):bL l=K f:=
 oN λk=>by rw[hl,rZ _ _ _ _ k f rfl rfl rfl rfl λk hk=>h.1 k u0]
def UC{d b:Nat}(h:S f d b):∀ x∈K f,x.natAbs<=2^b:=Jz λx hx=>by simp only[zOa,zkc,or_false] at hx;rcases hx with rfl|rfl|rfl|rfl<;>exact h.2 _
def S.mono{d b d':Nat}(h:S f d b)(e:d<=d')(c:b<=a):S f d' a:=
 ⟨λk hk=>h.1 k u0,λk=>zva (h.2 k) (zqa H c)⟩
def HE(a b:Nat):2^a+2^b<=2^(max a b+1):=by
 have h1:2^a<=2^max a b:=zqa H (Nat.le_max_left ..)
 have c:2^b<=2^max a b:=zqa H (Nat.le_max_right ..)
 omega
def dF(f g:Nat->Int):Nat->Int:=λk=>f k+g k
def Ea(f g:Nat->Int):Nat->Int:=λk=>f k-g k
def ef(f:Nat->Int)(z:Int):Nat->Int:=λk=>f k*z
def pn(f g:Nat->Int)(k:Nat):Nat->Int
 | 0=>0
 | i+1=>pn f g k i+f i*g (k-i)
def bA(f g:Nat->Int):Nat->Int:=λk=>pn f g k (k+1)
theorem S.add{g:Nat->Int}{d e b:Nat}(c:S f d a)(h:S g e b):S (dF f g) (max d e) (max a b+1):=
 ⟨λk hk=>by show f k+g k=0;rw[c.1 k u0,h.1 k u0];rfl,λk=>by have:=c.2 k;have:=h.2 k;have:=HE a b;have:(dF f g k).natAbs<=(f k).natAbs+(g k).natAbs:=zPb ..;omega⟩
theorem S.sub{g:Nat->Int}{d e b:Nat}(c:S f d a)(h:S g e b):S (Ea f g) (max d e) (max a b+1):=
 ⟨λk hk=>by show f k-g k=0;rw[c.1 k u0,h.1 k u0];rfl,λk=>by have:=c.2 k;have:=h.2 k;have:=HE a b;have:(Ea f g k).natAbs<=(f k).natAbs+(g k).natAbs:=Int.natAbs_sub_le ..;omega⟩
def akK{d b:Nat}(c:S f d a){z:Int}(e:z.natAbs<=2^b):S (ef f z) d (a+b):=
 ⟨λk hk=>by show f k*z=0;rw[c.1 k hk,zKc],λk=>by show(f k*z).natAbs<=_;rw[zwa,z5a];exact zFa (c.2 k) e⟩
theorem Ls{g:Nat->Int}{d e b:Nat}(c:S f d a)(h:S g e b)(k i:Nat):(pn f g k i).natAbs<=i*2^(a+b):=by
 induction i with
 | zero=>exact zoa _
 | succ i ih=>
  have h1:(pn f g k (i+1)).natAbs<=(pn f g k i).natAbs+(f i*g (k-i)).natAbs:=zPb ..;have j:(f i*g (k-i)).natAbs<=2^(a+b):=by rw[zwa,z5a];exact zFa (c.2 i) (h.2 _)
  grind
def wv{g:Nat->Int}{d e b:Nat}(c:S f d a)(j:S g e b){k:Nat}(hk:d+e<k):∀ i,i<=k+1->pn f g k i=0:=by
 intro i
 induction i with
 | zero=>intro _;rfl
 | succ i ih=>
  intro hi;show pn f g k i+f i*g (k-i)=0;rw[ih u0]
  by_cases h:d<i
  ·rw[c.1 i h];simp
  ·rw[j.1 (k-i) u0];simp
def S.mul{g:Nat->Int}{d e b:Nat}(c:S f d a)(i:S g e b)(h:d+e<=3):S (bA f g) (d+e) (a+b+2):=
 ⟨λk hk=>wv c i hk _ (zja _),λk=>by
  by_cases hk:d+e<k
  ·rw[show bA f g k=0 from wv c i hk _ (zja _)];exact zoa _
  ·have h1:=Ls c i k (k+1);have j:(k+1)*2^(a+b)<=4*2^(a+b):=zJa _ u0
   rw[z5a _ (a+b) 2];show(pn f g k (k+1)).natAbs<=_;omega⟩
def bP(a b:Int):Nat->Int
 | 0=>a
 | 1=>b
 | _=>0
def akJ{a b:Int}{n:Nat}(c:a.natAbs<=2^n)(d:b.natAbs<=2^n):S (bP a b) 1 n:=
 ⟨λk hk=>by match k,hk with|k+2,_=>rfl,λk=>by match k with|0=>exact c|1=>exact d|k+2=>exact zoa _⟩
def X2(f g:Nat->Int):bA f g 0=f 0*g 0/\bA f g 1=f 0*g 1+f 1*g 0/\bA f g 2=f 0*g 2+f 1*g 1+f 2*g 0/\bA f g 3=f 0*g 3+f 1*g 2+f 2*g 1+f 3*g 0:=by simp_all [bA,pn]
end
end Sy
end
noncomputable section
namespace Sy
open Go Go.Proofs Geo
section
variable{l:List Int}{f:Nat->Int}{a:Nat}{z:Int}
def aE(l:List Int):D:=.sl (l.map R)
def ar(f:Nat->Int):D:=aE (K f)
def Kn(l:List Int):Prop:=∀ x∈l,In x
def o9{i:Nat}:akk .lss (I (i:Int)) (.int .i64 (l.map R).length)=some (.bool (decide (i<l.length))):=by rw[zka];rw[show akk .lss (I (i:Int)) (.int .i64 (l.length:Int))=some (.bool (decide ((i:Int)<l.length))) from ah];simp
def kG{i:Nat}(h:i<l.length):D.idx (I (i:Int)) (l.map R).length=some i:=aj (by rw[zka];exact h)
def jS{l:List Int}{i:Nat}(h:i<l.length):(l.map R)[i]?=some (R (l.getD i 0)):=by simp_all
def gH(h:Kn l)(i:Nat):In (l.getD i 0):=by
 by_cases hi:i<l.length
 ·rw[zDa,zda hi];exact h _ (zGa hi)
 ·rw[zDa,zXa u0];exact bB (cj 0)
def o8{d b:Nat}(h:S f d b)(a:b<=500)(k:Nat):In (f k):=bJ (k:=b) u0 (h.2 k)
def fr{d b:Nat}(h:S f d b)(a:b<=500):Kn (K f):=λx hx=>bJ (k:=b) u0 (UC h x hx)
def In0:In 0:=bB (cj 0)
def eP{body:Bd}{s0:List D}{r:Nat×List D}(J:Nat->List D->Prop)(n:Nat)(h0:J 0 s0)(c:∀ i,i<n->∀ s,J i s->∃ s',body s=some (.inl s')/\J (i+1) s')(he:∀ s,J n s->body s=some (.inr r)):F body s0=some r:=by obtain⟨r',h1,b⟩:=ss J (λx=>x=r) n 0 (zoa _) h0 (λi hi s a=>.inl (c i hi s a)) (λs a=>⟨r,he s a,rfl⟩);rw[h1,b]
def rt:D.st [D.bool false,D.bool false,az bf]=R 0:=by rw[iY,bS];rfl
def KW(n:Nat){x:Int}(hx:In x):C (n+2) 517 [R x]=some (.bool true):=by rw[ag6];delta PP Q qN qe Z;refine J (.bool false) (J (.bool true) (J true (O (z:=true) ?_ rfl)));rw[zla rfl];exact O (QF n (a:=some x) (bn hx)) rfl
def aeL(n:Nat)(d:D):C (n+1) 552 [d]=some d:=by rw[ahm];rfl
def rG(n:Nat)(h:Kn l)(hl:l.length<=1000):C (n+3) 546 [aE l]=some (.bool false):=by
 rw[ahh];delta P4 P qS qX iL iR Jn J0 jl qc qj Z qn qy;refine J (l.map R) ?_;refine aZ (λi s=>s=[I (i:Int)]) l.length 0 (zoa _) rfl (λi hi s a=>?_) (λs a=>?_)
 ·subst a;left;refine⟨_,?_,rfl⟩;refine O o9 (O ac (au hi (J (l.map R) (O (kG hi) (O (jS hi) (O (KW n (gH h i)) (O aJ (O ac ?_))))))));rw[zia H]
  exact O (ay (aw (i:=i) u0)) rfl
 ·subst a;exact⟨(1,[]),O o9 (O ac (aB u0 rfl)),rfl⟩
def Az(n:Nat)(l:List Int)(k:Nat):C (n+1) 550 [aE l,I (k:Int)]=some (R (l.getD k 0)):=by
 rw[ahk];delta P7 qC qS qX J0 bF jl qO qh;refine O ah (O ac (O (z:=decide (l.length<=k)) ?_ (O ac ?_)))
 ·refine aB u0 (J (l.map R) (O fS ?_))
  rw[zka,ac];simp
 ·by_cases h:l.length<=k
  ·refine au h ?_;rw[rt,zDa,zXa h];rfl
  ·exact aB h (J (l.map R) (O (kG u0) (O (jS u0) rfl)))
def trB(c:Ca):Bd:=λv=>
 (D.asSl (v.getD 0 (.bool false))).bind λe=>(akk .gtr (.int .i64 e.length) (.int .i64 0)).bind λz=>(D.truth z).bind λa=>
 (if a then((D.asSl (v.getD 0 (.bool false))).bind λf=>(akk .sub (.int .i64 f.length) (.int .i64 1)).bind λm=>(D.asSl (v.getD 0 (.bool false))).bind λl=>(D.idx m l.length).bind λk=>(l[k]?).bind λn=> (c 129 [n]).bind λj=>D.truth (D.bool (D.beq j (.int .i64 0)))) else some false).bind λb=>(D.truth (.bool b)).bind λd=>
 if d then((D.asSl (v.getD 0 (.bool false))).bind λg=>(akk .sub (.int .i64 g.length) (.int .i64 1)).bind λo=>(D.asSl (v.getD 0 (.bool false))).bind λh=>(D.natOf o).bind λi31=>(D.cut h 0 i31).bind λi=>some (.inl [.sl i])) else some (.inr (0,[v.getD 0 (.bool false)]))
def WM{m:Nat}:akk .gtr (.int .i64 (m:Int)) (.int .i64 0)=some (.bool (decide (0<m))):=by rw[show akk .gtr (.int .i64 (m:Int)) (.int .i64 0)=some (.bool (decide ((m:Int)>0))) from cn];simp
theorem th{m:Nat}(h:0<m)(hm:m<=1000):akk .sub (.int .i64 (m:Int)) (.int .i64 1)=some (I ((m-1:Nat):Int)):=by
 rw[show akk .sub (.int .i64 (m:Int)) (.int .i64 1)=some (I ((m:Int)-1)) from bW (by simp only[inR];omega)]
 grind
def Ew(x:Int):D.beq (I (sg x)) (.int .i64 0)=decide (x=0):=by rw[show D.beq (I (sg x)) (.int .i64 0)=decide (sg x=0) from ci];simp only[jL]
def WL{l:List D}{k:Nat}(h:k<=l.length):D.cut l 0 k=some (l.take k):=by simp[D.cut,h]
def vX(k:Nat):D.natOf (I (k:Int))=some k:=by simp[D.natOf]
def Yo(n:Nat)(h:Kn l)(hl:l.length<=1000){K:Nat×List D->Option D}{y:D}(i:K (0,[aE (bL l)])=some y) :
  (F (trB (C (n+3))) [aE l]).bind K=some y:=by
 obtain⟨m,hm⟩:∃ m,m=l.length:=⟨_,rfl⟩
 induction m generalizing l with
 | zero=> have:l=[]:=z5b.1 hm.symm;subst this;exact fg (r:=(0,[aE []])) rfl i
 | succ m ih=>
  have u:(l.map R).length=m+1:=by simp_all
  have p:l≠[]:=λe=>by rw[e] at hm;cases hm
  obtain⟨a,x,rfl⟩:∃ a x,l=a++[x]:=⟨l.dropLast,l.getLast p,(List.dropLast_concat_getLast p).symm⟩;have v:a.length=m:=by simp at hm;omega
  have hx:=h x j2
  have M:(a++[x]).getD m 0=x:=by rw[<-v];simp
  have o:D.idx (I (m:Int)) ((a++[x]).map R).length=some m:=kG (by rw[<-hm];omega)
  have j:((a++[x]).map R)[m]?=some (R x):=by rw[jS (by rw[<-hm];omega),M]
  have b:akk .sub (.int .i64 (((a++[x]).map R).length:Int)) (.int .i64 1)=some (I (m:Int)):=by rw[u,th u0 u0,Nat.add_sub_cancel]
  have w:akk .gtr (.int .i64 (((a++[x]).map R).length:Int)) (.int .i64 0)=some (.bool true):=by rw[u,WM];rfl
  have head:∀ {α:Type} {A B Y:Option α},(if decide (x=0)=true then A else B)=Y->((D.asSl (aE (a++[x]))).bind λE=>(akk .gtr (.int .i64 E.length) (.int .i64 0)).bind λz=>(D.truth z).bind λq=>
    (if q=true then((D.asSl (aE (a++[x]))).bind λc=>(akk .sub (.int .i64 c.length) (.int .i64 1)).bind λf=>(D.asSl (aE (a++[x]))).bind λl=>(D.idx f l.length).bind λk=>(l[k]?).bind λg=> (C (n+3) 129 [g]).bind λd=>D.truth (D.bool (D.beq d (.int .i64 0)))) else some false).bind λs=>(D.truth (.bool s)).bind λt=>if t=true then A else B)=Y:=λ{α A B Y} S=>by
   have key:((D.asSl (aE (a++[x]))).bind λc=>(akk .sub (.int .i64 c.length) (.int .i64 1)).bind λf=>(D.asSl (aE (a++[x]))).bind λl=>(D.idx f l.length).bind λk=>(l[k]?).bind λg=>
     (C (n+3) 129 [g]).bind λd=>D.truth (D.bool (D.beq d (.int .i64 0))))=some (decide (x=0)):=
    J ((a++[x]).map R) (O b (J ((a++[x]).map R) (O o (O j (O (lc n hx) (by rw[Ew];rfl))))))
   rw[show D.asSl (aE (a++[x]))=some ((a++[x]).map R) from rfl,zba,w,zba,ac,zba,zla rfl];rw[show D.asSl (aE (a++[x]))=some ((a++[x]).map R) from rfl] at key;rw[key,zba,ac,zba];exact S
  rw[BT] at i;by_cases h0:x=0
  ·rw[zla h0] at i;refine cC (s':=[aE a]) ?_ (ih (λz G=>h z (by simp[G])) u0 i v.symm)
   refine head (au h0 (J ((a++[x]).map R) (O b (J ((a++[x]).map R) (O (vX m) (O (WL (by rw[u];omega)) ?_))))))
   rw[<-zsd,<-v,List.take_left];rfl
  ·rw[zia h0] at i;exact fg (r:=(0,[aE (a++[x])])) (head (aB h0 rfl)) i
def trT(c:Ca)(d:D):Option D:=
 (F (trB c) [d]).bind λr=>(D.asSl (r.2.getD 0 (.bool false))).bind λl=>(akk .gtr (.int .i64 l.length) (.int .i64 25)).bind λz=>(D.truth z).bind λb=>if b then((c 518 []).bind λr=>some r) else some (r.2.getD 0 (.bool false))
def V5(n:Nat)(h:Kn l)(hl:l.length<=25):trT (C (n+3)) (aE l)=some (aE (bL l)):=by
 refine Yo n h u0 (J ((bL l).map R) (O cn (O ac (aB ?_ rfl))))
 rw[zka];have:=Jy l;omega
theorem Uc(n m:Nat)(g:Nat->Int)(c:∀ k,k<m->In (g k))(hm:m<=25){body:Bd}{rest:List D}
  (b:∀ i,i<m->body (aE ((List.range i).map g)::I (i:Int)::rest)=some (.inl (aE ((List.range i).map g++[g i])::I ((i:Int)+1)::rest)))
  (he:body (aE ((List.range m).map g)::I (m:Int)::rest)=some (.inr (1,[aE ((List.range m).map g)]))) :
  ((F body (.sl []::I 0::rest)).bind λr=>if r.1=0 then some (r.2.getD 0 (.bool false)) else trT (C (n+3)) (.sl ((r.2.getD 0 (.bool false)).els)))=some (aE (bL ((List.range m).map g))):=by
 refine aZ (λi s=>s=aE ((List.range i).map g)::I (i:Int)::rest) m 0 (zoa _) rfl (λi hi s a=>?_) (λs a=>?_)
 ·simp_all [zyb,zib]
 ·subst a;refine⟨_,he,?_⟩;rw[zia (show ¬ (1=0) by decide)]
  refine V5 n (λx hx=>?_) (by simpa using hm)
  grind
def Wq(n:Nat)(g:In z)(hl:l.length<=1000){i:Nat}(hi:i<=1000)(rest:List D)(b:Option (Sum (List D) (Nat×List D))) :
  ((C (n+3) 552 [R z]).bind λd=>(C (n+3) 517 [d]).bind λc=>(akz .not c).bind λz=>(D.truth z).bind λa=>if a=true then b else
   (if List.length ((aE l).els)+List.length [d]<=1073741824 then((akk .add (I (i:Int)) (.int .i64 1)).bind λf=>some (.inl ((.sl ((aE l).els++[d]))::f::rest))) else none))=some (Sum.inl (aE (l++[z])::I ((i:Int)+1)::rest)):=by
 refine O (aeL (n+2) _) (O (KW (n+1) g) (O aJ (O ac ?_)));rw[zia H]
 have e:(aE l).els=l.map R:=rfl;rw[e,zla (by simp;omega)]
 refine O (ay (aw (i:=i) u0)) ?_
 rw[show aE (l++[z])=.sl (l.map R++[R z]) from by unfold aE;rw[zib];rfl]
theorem SM(l m:List Int):D.max2 (.int .i64 (l.map R).length) (.int .i64 (m.map R).length)=some (I ((max l.length m.length:Nat):Int)):=by rw[zka,zka,show D.max2 (.int .i64 (l.length:Int)) (.int .i64 (m.length:Int))=some (I (max (l.length:Int) (m.length:Int))) from sB];grind
def jr(k:Nat):D.max2 (I (k:Int)) (.int .i64 0)=some (I (k:Int)):=by
 rw[show D.max2 (I (k:Int)) (.int .i64 0)=some (I (max (k:Int) 0)) from sB]
 simp_all
def jq{i m:Nat}:akk .lss (I (i:Int)) (I (m:Int))=some (.bool (decide (i<m))):=by rw[ah];simp
def UA{g:Nat->Int}{d e b:Nat}(c:S f d a)(h:S g e b)(i:d<=3)(he:e<=3) :
  bL ((List.range (max (K f).length (K g).length)).map λk=>(K f).getD k 0+(K g).getD k 0)=K (dF f g):=
 yP (S.add c h) u0 λk=>by
  rw[dj];split
  ·rw[bN c i,bN h he];rfl
  ·show 0=f k+g k;rw[<-bN c i k,<-bN h he k,zDa,zDa,zXa u0,zXa u0];rfl
def UG{g:Nat->Int}{d e b:Nat}(c:S f d a)(h:S g e b)(i:d<=3)(he:e<=3) :
  bL ((List.range (max (K f).length (K g).length)).map λk=>(K f).getD k 0-(K g).getD k 0)=K (Ea f g):=
 yP (S.sub c h) u0 λk=>by
  rw[dj];split
  ·rw[bN c i,bN h he];rfl
  ·show 0=f k-g k;rw[<-bN c i k,<-bN h he k,zDa,zDa,zXa u0,zXa u0];rfl
def UF{d b:Nat}(e:S f d a)(g:z.natAbs<=2^b)(c:d<=3) :
  bL ((List.range (K f).length).map λk=>(K f).getD k 0*z)=K (ef f z):=
 yP (akK e g) c λk=>by
  rw[dj];split
  ·rw[bN e c];rfl
  ·show 0=f k*z;rw[<-bN e c k,zDa,zXa u0];simp
def s8{c:Ca}{m:List Int}(h1:c 546 [aE l]=some (.bool false))(e:c 546 [aE m]=some (.bool false)){α:Type}{A B Y:Option α}(f:B=Y) :
  ((c 546 [aE l]).bind λr1=>(D.truth r1).bind λb2=>(if b2=true then some true else((c 546 [aE m]).bind λd=>D.truth d)).bind λa=>(D.truth (D.bool a)).bind λb=>if b=true then A else B)=Y:=by
 simp_all [zba,ac,decide]
def Ig(n:Nat){f g:Nat->Int}{d e b:Nat}(c:S f d a)(h:S g e b)(m:max d e<=3)(l:max a b<=480):C (n+5) 520 [ar f,ar g]=some (ar (dF f g)):=by
 have l1:=dI c u0;have o:=dI h u0
 rw[ag8];delta PR P qC qT qS qX qV qW iL iR Jn J0 J1 bq jl qA qO qc qj Z qn qr qu qy;refine s8 (rG (n+1) (fr c u0) u0) (rG (n+1) (fr h u0) u0) ?_
 refine J ((K f).map R) (J ((K g).map R) (O (SM _ _) (O (jr _) (O (vX _) ?_))));rw[zla u0]
 refine O (jr _) ?_;have j:∀ k,In (dF f g k):=λk=>o8 (S.add c h) u0 k
 refine(Uc (n+1) (max (K f).length (K g).length) (λk=>(K f).getD k 0+(K g).getD k 0) (λk _=>by rw[bN c u0,bN h u0];exact j k) u0 (rest:=[ar f,ar g]) (λi hi=>?_) ?_).trans ?_
 ·refine O jq (O ac (au hi (O (Az (n+3) (K f) i) (O (Az (n+3) (K g) i) (O (rH n (gH (fr c u0) i) (gH (fr h u0) i) (by rw[bN c u0,bN h u0];exact j i)) ?_)))))
  exact Wq (n+1) (by rw[bN c u0,bN h u0];exact j i) (by simp;omega) u0 _ _
 ·exact O jq (O ac (aB u0 rfl))
 ·rw[UA c h u0 u0];rfl
def QJ(n:Nat){g:Nat->Int}{d e b:Nat}(c:S f d a)(h:S g e b)(m:max d e<=3)(l:max a b<=480):C (n+6) 521 [ar f,ar g]=some (ar (Ea f g)):=by
 have l1:=dI c u0;have o:=dI h u0
 rw[ag9];delta PS P qC qT qS qX qV qW iL iR Jn J0 J1 bq jl qA qO qc qj Z qn qr qu qy;refine s8 (rG (n+2) (fr c u0) u0) (rG (n+2) (fr h u0) u0) ?_
 refine J ((K f).map R) (J ((K g).map R) (O (SM _ _) (O (jr _) (O (vX _) ?_))));rw[zla u0]
 refine O (jr _) ?_;have j:∀ k,In (Ea f g k):=λk=>o8 (S.sub c h) u0 k
 refine(Uc (n+2) (max (K f).length (K g).length) (λk=>(K f).getD k 0-(K g).getD k 0) (λk _=>by rw[bN c u0,bN h u0];exact j k) u0 (rest:=[ar f,ar g]) (λi hi=>?_) ?_).trans ?_
 ·refine O jq (O ac (au hi (O (Az (n+4) (K f) i) (O (Az (n+4) (K g) i) (O (QH n (gH (fr c u0) i) (gH (fr h u0) i) (by rw[bN c u0,bN h u0];exact j i)) ?_)))))
  exact Wq (n+2) (by rw[bN c u0,bN h u0];exact j i) (by simp;omega) u0 _ _
 ·exact O jq (O ac (aB u0 rfl))
 ·rw[UG c h u0 u0];rfl
def aeE(n:Nat){x:Int}(d:D)(hx:In x)(a:In z)(h:In (x*z)):C (n+4) 519 [R x,d,R z]=some (R (x*z)):=by rw[ag7];unfold PQ;exact O (js n hx a h) rfl
def Cl(n:Nat){d b:Nat}(c:S f d a){z:Int}(g:z.natAbs<=2^b)(l:d<=3)(j:a+b<=480):C (n+5) 499 [ar f,R z]=some (ar (ef f z)):=by
 have l1:=dI c u0
 have h:=bJ (k:=b) u0 g
 rw[agX];delta PF P qC qT qS qX qV qW iL iR Jn J0 J1 bq jl qA qO qc qj Z qn qr qu qy;refine O (KW (n+2) h) (O aJ (O ac ?_));rw[zia H]
 refine s8 (m:=[]) (rG (n+1) (fr c u0) u0) (rG (n+1) (λx hx=>by cases hx) j2) ?_
 refine J ((K f).map R) (O (z:=I ((K f).length:Int)) (by rw[zka];exact jr _) (O (jr _) (O (vX _) ?_)))
 rw[zla u0]
 refine O (jr _) ?_;have e:∀ k,In (ef f z k):=λk=>o8 (akK c g) u0 k
 refine(Uc (n+1) (K f).length (λk=>(K f).getD k 0*z) (λk _=>by rw[bN c u0];exact e k) u0 (rest:=[R z,ar f,.sl []]) (λi hi=>?_) ?_).trans ?_
 ·refine O jq (O ac (au hi (O (Az (n+3) (K f) i) (O (Az (n+3) [] i) (O (aeE n _ (gH (fr c u0) i) h (by rw[bN c u0];exact e i)) ?_)))))
  exact Wq (n+1) (by rw[bN c u0];exact e i) (by simp;omega) u0 _ _
 ·exact O jq (O ac (aB u0 rfl))
 ·rw[UF c g u0];rfl
end
section
variable{a y:D}{f:Nat}
mutual
def akm:D->D->Bool
 | .int k n,.int k' n'=>decide (k=k')&&decide (n=n')
 | .bool b,.bool b'=>b==b'
 | .st l,.st l'=>ako l l'
 | .sl l,.sl l'=>ako l l'
 | .tup l,.tup l'=>ako l l'
 | _,_=>false
def ako:List D->List D->Bool
 | [],[]=>true
 | x::l,x'::l'=>akm x x'&&ako l l'
 | _,_=>false
end
mutual
theorem akn:∀ {x x':D},akm x x'=true->x=x'
 | .int k n,x',h=>by cases x'<;>simp[akm] at h;rw[h.1,h.2]
 | .bool b,x',h=>by cases x'<;>simp[akm] at h;rw[h]
 | .str _,x',h=>by cases x'<;>simp[akm] at h
 | .st l,x',h=>by cases x'<;>simp[akm] at h;rw[akp h]
 | .sl l,x',h=>by cases x'<;>simp[akm] at h;rw[akp h]
 | .tup l,x',h=>by cases x'<;>simp[akm] at h;rw[akp h]
theorem akp:∀ {l l':List D},ako l l'=true->l=l'
 | [],l',h=>by cases l'<;>simp[ako] at h;rfl
 | x::l,l',h=>by cases l'<;>simp[ako] at h;rw[akn h.1,akp h.2]
end
def Rj:Nat->Nat->List D
 | 0,_=>[]
 | k+1,X=>.int .u32 ((X%4294967296:Nat):Int)::Rj k (X/4294967296)
def EO(x:Int):D:=.st [.bool false,.bool (decide (x<0)),.st (Rj 16 x.natAbs)]
theorem Hj:∀ k X,Rj k X=(List.range k).map λi=>D.int .u32 (bM X i)
 | 0,_=>rfl
 | k+1,X=>by
  rw[zud,z4a,zmd];show _::Rj k (X/4294967296)=_;rw[Hj k];congr 1
  ·simp[bM]
  ·apply zpc;intro i _;show D.int .u32 (bM (X/4294967296) i)=D.int .u32 (bM X (i+1));congr 1;unfold bM;rw[zYa,show 4294967296*2^(32*i)=2^(32*(i+1)) from by rw[zjc,z5a,zTa]]
def vq(x:Int):EO x=R x:=by rw[bS];unfold EO;rw[Hj];rfl
def Me:List D->Nat
 | .int _ n::l=>n.toNat+4294967296*Me l
 | _=>0
def kA:D->Option Int
 | .st [.bool false,.bool s,.st l]=>let x:Int:=cond s (-((Me l:Nat):Int)) (Me l:Nat);bif Nat.blt x.natAbs eN&&akm (EO x) (.st [.bool false,.bool s,.st l]) then some x else none
 | _=>none
def oy{d:D}{x:Int}(h:kA d=some x):In x/\d=R x:=by
 unfold kA at h;split at h
 ·rename_i s l;simp only at h;generalize cond s (-((Me l:Nat):Int)) (Me l:Nat)=y at h;cases hb:Nat.blt y.natAbs eN&&akm (EO y) (.st [.bool false,.bool s,.st l]) with
  | false=>rw[hb] at h;cases h
  | true=> rw[hb] at h;cases h;simp only[X,Nat.blt_eq] at hb;exact⟨aD.2 hb.1,by rw[<-vq,akn hb.2]⟩
 ·cases h
def XQ(x:Int):Option D:=bif Nat.blt x.natAbs eN then some (EO x) else none
def E5{x:Int}{d:D}(h:XQ x=some d):In x/\d=R x:=by
 unfold XQ at h;cases hb:Nat.blt x.natAbs eN with
 | false=>rw[hb] at h;cases h
 | true=> rw[hb] at h;cases h;exact⟨aD.2 (by simpa using hb),vq x⟩
def G7(f:Nat):List D->Option D
 | [a]=>bif Nat.beq f 129 then(kA a).bind λx=>some (.int .i64 (sg x)) else bif Nat.beq f 517||Nat.beq f 128 then(kA a).bind λ_=>some (.bool true) else none
 | [a,b]=>bif Nat.beq f 61 then(kA a).bind λx=>(kA b).bind λy=>XQ (x*y)
  else bif Nat.beq f 57 then(kA a).bind λx=>(kA b).bind λy=>XQ (x+y)
  else bif Nat.beq f 203 then(kA a).bind λx=>(kA b).bind λy=>XQ (x-y)
  else bif Nat.beq f 131 then(kA a).bind λx=>(kA b).bind λy=>some (EO (Nat.gcd x.natAbs y.natAbs:Nat))
  else bif Nat.beq f 132 then(kA a).bind λx=>(kA b).bind λy=>bif decide (0<y) then some (EO (x/y)) else none
  else bif Nat.beq f 90 then(kA a).bind λx=>(kA b).bind λy=>some (.int .i64 (bk x y)) else none
 | _=>none
def oO{b:D}{g:Int->Int->Option D}(h:((kA a).bind λx=>(kA b).bind λz=>g x z)=some y):∃ x z,In x/\In z/\a=R x/\b=R z/\g x z=some y:=by
 cases ha:kA a with
 | none=>rw[ha] at h;cases h
 | some x=>
  cases hb:kA b with
  | none=>rw[ha,hb] at h;cases h
  | some z=> rw[ha,hb] at h;exact⟨x,z,(oy ha).1,(oy hb).1,(oy ha).2,(oy hb).2,h⟩
def Hz{g:Int->Option D}(h:((kA a).bind λx=>g x)=some y):∃ x,In x/\a=R x/\g x=some y:=by
 cases ha:kA a with
 | none=>rw[ha] at h;cases h
 | some x=> rw[ha] at h;exact⟨x,(oy ha).1,(oy ha).2,h⟩
def At{k:Nat}(h:Nat.beq f k=true):f=k:=z1b h
def LI{xs:List D}(h:G7 f xs=some y):∃ k,C k f xs=some y:=by
 unfold G7 at h;split at h
 ·rename_i a;cases g:Nat.beq f 129 with
  | true=> rw[g,cond_true] at h;have h1:=Hz h;clear h;obtain⟨x,c,rfl,h⟩:=h1;cases h;exact⟨3,by rw[At g];exact lc 0 c⟩
  | false=>
   rw[g,cond_false] at h;cases d:Nat.beq f 517||Nat.beq f 128 with
   | true=>
    rw[d,cond_true] at h;have h1:=Hz h;clear h;obtain⟨x,c,rfl,h⟩:=h1;cases h;rw[zFb] at d;rcases d with d|d
    ·exact⟨2,by rw[At d];exact KW 0 c⟩
    ·exact⟨2,by rw[At d];exact Ic 0 c⟩
   | false=>rw[d] at h;cases h
 ·rename_i a b;cases g:Nat.beq f 61 with
  | true=> rw[g,cond_true] at h;have h1:=oO h;clear h;obtain⟨x,z,c,e,rfl,rfl,h⟩:=h1;obtain⟨i,rfl⟩:=E5 h;exact⟨3,by rw[At g];exact js 0 c e i⟩
  | false=>
  rw[g,cond_false] at h;cases d:Nat.beq f 57 with
  | true=> rw[d,cond_true] at h;have h1:=oO h;clear h;obtain⟨x,z,c,e,rfl,rfl,h⟩:=h1;obtain⟨i,rfl⟩:=E5 h;exact⟨4,by rw[At d];exact rH 0 c e i⟩
  | false=>
  rw[d,cond_false] at h;cases e3:Nat.beq f 203 with
  | true=> rw[e3,cond_true] at h;have h1:=oO h;clear h;obtain⟨x,z,c,e,rfl,rfl,h⟩:=h1;obtain⟨i,rfl⟩:=E5 h;exact⟨5,by rw[At e3];exact QH 0 c e i⟩
  | false=>
  rw[e3,cond_false] at h;cases e4:Nat.beq f 131 with
  | true=> rw[e4,cond_true] at h;have h1:=oO h;clear h;obtain⟨x,z,c,e,rfl,rfl,h⟩:=h1;cases h;exact⟨1029,by rw[At e4,vq];exact wh 0 c e⟩
  | false=>
  rw[e4,cond_false] at h;cases e5:Nat.beq f 132 with
  | true=>
   rw[e5,cond_true] at h;have h1:=oO h;clear h;obtain⟨x,z,c,e,rfl,rfl,h⟩:=h1;cases hz:decide (0<z) with
   | false=>rw[hz] at h;cases h
   | true=> rw[hz] at h;cases h;exact⟨7,by rw[At e5,vq];exact mR 0 c e (of_decide_eq_true hz)⟩
  | false=>
  rw[e5,cond_false] at h;cases e6:Nat.beq f 90 with
  | true=> rw[e6,cond_true] at h;have h1:=oO h;clear h;obtain⟨x,z,c,e,rfl,rfl,h⟩:=h1;cases h;exact⟨4,by rw[At e6];exact NO 0 c e⟩
  | false=>rw[e6] at h;cases h
 ·cases h
end
end Sy
end
end Go.Proofs.YtdlipdnepadhjaaGreat
