/- Part 20 of the proof that PlaneNoPointOnBothSides answers true at every input -/
import Derived.Test.YtphlmegkommlnaaGreatDoorNopo18
import Derived.Test.YtphlmegkommlnaaGreatDoorNopo19
set_option linter.unusedVariables false
set_option linter.unusedSimpArgs false
set_option linter.unnecessarySimpa false
set_option linter.defProp false
set_option maxRecDepth 20000
namespace Go.Proofs.YtphlmegkommlnaaGreatDoor
noncomputable section
namespace Sy
open Go Go.Proofs Geo
def ii(x:V):List V->List V
 | []=>[x]
 | y::L=>if aD x y\/x=y then x::(y::L).filter (λz=>decide (z≠x)) else y::ii x L
def eG(l:List V):List V:=l.foldl (λo x=>ii x o) []
theorem A2(x:V):∀ L:List V,(ii x L).length<=L.length+1
 | []=>by simp[ii]
 | y::L=>by
  have:=A2 x L;unfold ii;all_goals grind
theorem ve{x z:V}:∀ {L:List V},z∈ii x L↔z=x\/z∈L
 | []=>by simp[ii]
 | y::L=>by
  have ih:=ve (x:=x) (z:=z) (L:=L);unfold ii;all_goals grind
theorem A3{x:V}:∀ {L:List V},L.Pairwise aD->(ii x L).Pairwise aD
 | [],_=>by simp[ii]
 | y::L,h=>by
  obtain⟨h1,i⟩:=zFa.1 h;unfold ii;split
  ·rename_i c;refine zFa.2 ⟨λz f=>?_,h.filter _⟩;obtain⟨d,g⟩:=zxb.1 f;have j:z≠x:=by simpa using g
   rcases zwa.1 d with rfl|d
   ·grind
   ·rcases c with h|h
    ·exact mH h (h1 z d)
    ·simp_all
  ·rename_i c;refine zFa.2 ⟨λz f=>?_,A3 i⟩;rcases ve.1 f with rfl|f
   ·rcases rN (a:=z) (b:=y) (λe=>c (.inr e)) with k|k
    ·simp_all
    ·exact k
   ·exact h1 z f
def vP(l:List V):(eG l).Pairwise aD:=by
 unfold eG;have:∀ (l o:List V),o.Pairwise aD->(l.foldl (λo x=>ii x o) o).Pairwise aD:=by
  intro l
  induction l with
  | nil=>intro o h;exact h
  | cons x l ih=>intro o h;exact ih _ (A3 h)
 simp_all
def Bf{l:List V}{z:V}:z∈eG l↔z∈l:=by
 unfold eG;have:∀ (l o:List V),z∈l.foldl (λo x=>ii x o) o↔z∈l\/z∈o:=by
  intro l
  induction l with
  | nil=>intro o;simp
  | cons x l ih=>
   intro o;rw[zxc,ih,ve,zwa];all_goals grind
 simp_all
def qu(l:List V):(eG l).length<=l.length:=by
 unfold eG;have:∀ (l o:List V),(l.foldl (λo x=>ii x o) o).length<=l.length+o.length:=by
  intro l
  induction l with
  | nil=>intro o;simp
  | cons x l ih=>
   intro o;have h1:=ih (ii x o);have a:=A2 x o;grind
 grind
def I9{l:List V}(h:l.Pairwise aD):G6 l:=λi j a b=>by
 have:=zJb.1 h i j (by omega) b a
 simpa [pt,List.getD,b,show i<l.length by omega] using this
def MX{l:List V}(h:l.Pairwise aD):eG l=l:=
 nN (r:=aD) kE xA (vP l) h λx=>Bf
def c47(n:Nat)(l:List V)(hlen:l.length<=1000000):cA (n+2) 47 [bc l]=some (bc (eG l)):=by
 rw[u47]
 delta R5 qB qC qT qN qX qL qV qW qZ iL iR Jn
 have m:(l.map ac).length=l.length:=zsa ..;refine bF (λi s=>s=[bc (eG (l.take i)),I (i:Int)]) l.length 0 (zja _) rfl (λi p s j=>?_) (λs j=>?_)
 ·subst j;left;refine⟨[bc (eG (l.take (i+1))),I ((i+1:Nat):Int)],?_,rfl⟩;have A:eG (l.take (i+1))=ii (l.getD i V.zero) (eG (l.take i)):=by
   grind [eG,List.take_succ_eq_append_getElem,List.getD]
  have u:(eG (l.take i)).length<=1000000:=zEa (qu _) (by rw[zgb];omega)
  rw[A];obtain⟨o,w⟩:∃ o,eG (l.take i)=o:=⟨_,rfl⟩;obtain⟨x,hx⟩:∃ x,l.getD i V.zero=x:=⟨_,rfl⟩;have c:(l.map ac)[i]?=some (ac x):=by rw[<-hx];exact dN p
  rw[w] at u ⊢;rw[hx];have ol:(o.map ac).length=o.length:=zsa ..;refine aa (z:=l.map ac) rfl (aa af (aa ab (aB (by show((i:Int)<((l.map ac).length:Int));rw[m];omega) ?_)))
  refine cn (λk s=>∃ (nx:List V) (put:Bool),s=[bc o,bc nx,.bool put,I (k:Int)]/\nx.length<=2*k/\(put=false->ii x o=nx++ii x (o.drop k))/\(put=true->ii x o=nx++(o.drop k).filter (λz=>decide (z≠x)))) o.length 0 (zja _) ⟨[],false,rfl,by simp,by simp,by simp⟩ (λk hk s j=>?_) (λs j=>?_)
  ·obtain⟨nx,put,rfl,t,h1,q⟩:=j;left;have v:o.drop k=o.getD k V.zero::o.drop (k+1):=by rw[zAb hk];simp[List.getD,hk]
   have d:(o.map ac)[k]?=some (ac (o.getD k V.zero)):=dN hk;obtain⟨y,B⟩:∃ y,o.getD k V.zero=y:=⟨_,rfl⟩;rw[B] at v d;rw[v] at h1 q;obtain⟨f,g,he,G,C,E⟩:∃ (f:List V) (g:Bool),(if put=false/\(aD x y\/x=y) then(nx++[x],true) else(nx,put))=(f,g)/\f.length<=2*k+1/\(g=false->x≠y/\ii x o=f++y::ii x (o.drop (k+1)))/\(g=true->ii x o=f++(y::o.drop (k+1)).filter (λz=>decide (z≠x))):=by
    by_cases hp:put=false/\(aD x y\/x=y)
    ·refine⟨_,_,if_pos hp,by simp;omega,by simp,λ_=>?_⟩
     rw[h1 hp.1,ii,if_pos hp.2];simp
    ·refine⟨_,_,if_neg hp,by omega,λe=>?_,λe=>q e⟩
     have hn:¬ (aD x y\/x=y):=λh=>hp ⟨e,h⟩;refine⟨λh=>hn (.inr h),?_⟩;rw[h1 e,ii,if_neg hn]
   refine⟨[bc o,bc (if y≠x then f++[y] else f),.bool g,I ((k+1:Nat):Int)],?_,_,g,rfl,?_,?_,?_⟩
   ·refine aa af (aa ab (aB (by show((k:Int)<((o.map ac).length:Int));rw[ol];omega) ?_))
    have app:∀ (a:List V) (z:V),D.sl ((a.map ac)++[ac z])=bc (a++[z]):=λa z=>by simp[bc]
    have r:∀ a:List V,(a.map ac).length=a.length:=λa=>zsa ..;refine aa (z:=(0,[bc o,bc (if y≠x then f++[y] else f),.bool g])) ?_ (aa (aw (ay (i:=k) (by omega))) rfl)
    refine aa (z:=l.map ac) rfl (aa (z:=i) (by rw[m];exact ap p) (aa c (aa (z:=k) (by show D.idx (I (k:Int)) (o.map ac).length=_;rw[ol];exact ap hk) (aa d (aa (Qe n x y) (aa (z:=(0,[bc o,bc f,.bool g])) ?_ ?_))))))
    ·refine aa (z:=.bool (!put)) rfl (aa ab (aa (z:=!put&&decide (aD x y\/x=y)) ?_ (aa ab ?_)))
     ·cases put
      ·rw[show(!false)=true from rfl,if_pos rfl];refine aa ab ?_;by_cases hlt:aD x y
       ·refine aB hlt ?_;rw[decide_eq_true (.inl hlt)];rfl
       ·refine aC hlt ?_;refine aa (z:=l.map ac) rfl (aa (z:=i) (by rw[m];exact ap p) (aa c (aa (z:=k) (by show D.idx (I (k:Int)) (o.map ac).length=_;rw[ol];exact ap hk) (aa d ?_))))
        rw[jP,ab];simp[hlt]
      ·rfl
     ·by_cases hp:put=false/\(aD x y\/x=y)
      ·rw[if_pos hp] at he;cases he;rw[show(!put&&decide (aD x y\/x=y))=true by rw[hp.1,decide_eq_true hp.2];rfl,if_pos rfl]
       refine aa (z:=l.map ac) rfl (aa (z:=i) (by rw[m];exact ap p) (aa c ?_))
       rw[if_pos (by show(nx.map ac).length+1<=1073741824;rw[r];omega)]
       rw[<-app];rfl
      ·rw[if_neg hp] at he;cases he;rw[show(!put&&decide (aD x y\/x=y))=false by
        cases hput:put
        ·have:¬ (aD x y\/x=y):=λh=>hp ⟨hput,h⟩;simp[this]
        ·rfl]
       rfl
    ·refine aa (z:=k) (by show D.idx (I (k:Int)) (o.map ac).length=_;rw[ol];exact ap hk) (aa d (aa (z:=l.map ac) rfl (aa (z:=i) (by rw[m];exact ap p) (aa c ?_))))
     rw[jP];refine aa ab ?_;by_cases b:y=x
     ·rw[decide_eq_true b,if_neg (show ¬ (y≠x) from λh=>h b)];rfl
     ·rw[decide_eq_false b,if_pos (show y≠x from b),show(!false)=true from rfl,if_pos rfl];refine aa (z:=k) (by show D.idx (I (k:Int)) (o.map ac).length=_;rw[ol];exact ap hk) (aa d ?_)
      rw[if_pos (by show(f.map ac).length+1<=1073741824;rw[r];omega)]
      rw[<-app];rfl
   ·split
    ·simp;omega
    ·omega
   ·intro e;obtain⟨r1,F⟩:=C e;rw[if_pos (λh=>r1 h.symm),F];simp
   ·intro e;rw[E e,List.filter_cons];by_cases b:y=x
    ·simp[b]
    ·simp[b]
  ·obtain⟨nx,put,rfl,t,h1,q⟩:=j;refine⟨(0,[bc nx,.bool put]),?_,?_⟩
   ·exact aa af (aa ab (aC (by show ¬ ((o.length:Int)<((o.map ac).length:Int));rw[ol];omega) rfl))
   ·have r:∀ a:List V,(a.map ac).length=a.length:=λa=>zsa ..;rw[zbd] at h1 q;refine aa (z:=(0,[bc (ii x o)])) ?_ (aa (aw (ay (i:=i) (by omega))) rfl)
    refine aa (z:=.bool (!put)) rfl (aa ab ?_);cases put
    ·rw[show(!false)=true from rfl,if_pos rfl];refine aa (z:=l.map ac) rfl (aa (z:=i) (by rw[m];exact ap p) (aa c ?_))
     rw[if_pos (by show(nx.map ac).length+1<=1073741824;rw[r];omega)]
     rw[h1 rfl];simp[ii,bc,g0,D.els]
    ·have:=q rfl;simp only[List.filter_nil,zYb] at this;rw[this];rfl
 ·subst j;rw[zfb];refine⟨(0,[bc (eG l)]),?_,rfl⟩;exact aa (z:=l.map ac) rfl (aa af (aa ab (aC (by show ¬ ((l.length:Int)<((l.map ac).length:Int));rw[m];omega) rfl)))
structure FOk(l:List V)(F:FL):Prop where
 ord:F.Pairwise (λa b=>aD a.1.1 b.1.1)
 ok:∀ f∈F,IsF (pt l) l.length f.1.1 f.1.2/\bH (pt l) l.length f.1.1 f.1.2 f.2
theorem mM{f x:(V×Int)×List Nat}:∀ {L:FL},x∈mh f L↔x=f\/x∈L
 | []=>by simp[mh]
 | y::L=>by
  have ih:=mM (f:=f) (x:=x) (L:=L);unfold mh;all_goals grind
theorem A1{f:(V×Int)×List Nat}:∀ {L:FL},L.Pairwise (λa b=>aD a.1.1 b.1.1)->(∀ x∈L,x.1.1≠f.1.1)->(mh f L).Pairwise (λa b=>aD a.1.1 b.1.1)
 | [],_,_=>by simp[mh]
 | y::L,h,hn=>by
  obtain⟨h1,e⟩:=zFa.1 h;unfold mh;split
  ·rename_i k;refine zFa.2 ⟨λz c=>?_,h⟩;rcases zwa.1 c with rfl|c
   ·exact k
   ·exact mH k (h1 z c)
  ·rename_i k;refine zFa.2 ⟨λz c=>?_,A1 e λx hx=>hn x (zia _ hx)⟩;rcases mM.1 c with rfl|c
   ·rcases rN (hn y zoa) with d|d
    ·exact d
    ·simp_all
   ·grind
def wT(l:List V):List (V×Int):=(List.range l.length).flatMap λi=>(List.range l.length).flatMap λj=>(List.range l.length).flatMap λk=>[(aG (da (pt l) i j k),V.dot (aG (da (pt l) i j k)) (pt l i)),((aG (da (pt l) i j k)).neg,V.dot (aG (da (pt l) i j k)).neg (pt l i))]
def Fd(l:List V)(h:l.length<=100):(wT l).length<=2000000:=by
 unfold wT;rw[ke (c:=l.length*(l.length*2)) _ (λi _=>by rw[ke (c:=l.length*2) _ (λj _=>by rw[ke (c:=2) _ (λk _=>rfl),zub]),zub]),zub]
 have a1:l.length*2<=200:=by omega
 have a2:l.length*(l.length*2)<=100*200:=zUa h a1;exact zUa h a2
def xr{l:List V}{q:V×Int}(h:IsF (pt l) l.length q.1 q.2):q∈wT l:=by
 obtain⟨i,j,k,h1,b,a,c,d,e⟩:=h.ex;refine zib.2 ⟨i,zLa.2 (by omega),zib.2 ⟨j,zLa.2 (by omega),zib.2 ⟨k,zLa.2 a,?_⟩⟩⟩
 grind
def FOk.len{l:List V}{F:FL}(h:FOk l F)(hl:l.length<=100):F.length<=2000000:=by
 have nd:(F.map Prod.fst).Nodup:=by
  refine zsd.2 (h.ord.imp λ{a b} c e=>?_);rw[e] at c;exact kE _ c
 have:=zWb (l₂:=wT l) nd λq hq=>by
  obtain⟨f,d,rfl⟩:=zXa.1 hq;exact xr (h.ok f d).1
 rw[zsa] at this;exact zEa this (Fd l hl)
def FOk.insert{l:List V}{F:FL}(h:FOk l F){f:(V×Int)×List Nat}(hn:∀ x∈F,x.1.1≠f.1.1)(h1:IsF (pt l) l.length f.1.1 f.1.2)(a:bH (pt l) l.length f.1.1 f.1.2 f.2):FOk l (mh f F):=
 ⟨A1 h.ord hn,λx hx=>by
  rcases mM.1 hx with rfl|hx
  ·simp_all
  ·exact h.ok x hx⟩
theorem vq{v:V}:aG v=V.zero↔v=V.zero:=by
 constructor
 ·intro h;by_cases a:v=V.zero
  ·exact a
  ·exact absurd h (tW a)
 ·simp_all [aG,V.zero]
theorem FM{v:V}:v.neg=V.zero↔v=V.zero:=by
 constructor
 ·intro h;by_cases a:v=V.zero
  ·exact a
  ·exact absurd h (Iy a)
 ·simp_all [V.neg,V.zero]
def ae{α β:Type}{A:Option α}{g:α->Option β}{z:α}{Y:β->Prop}(h:A=some z)(hk:∃ y,g z=some y/\Y y):∃ y,Option.bind A g=some y/\Y y:=by
 simp_all
def dL{β:Type}{p:Prop}[Decidable p]{A B:Option β}{Y:β->Prop}(h:p)(a:∃ y,A=some y/\Y y):∃ y,(if decide p=true then A else B)=some y/\Y y:=by rw[if_pos (decide_eq_true h)];exact a
def pQ{β:Type}{p:Prop}[Decidable p]{A B:Option β}{Y:β->Prop}(h:¬ p)(a:∃ y,B=some y/\Y y):∃ y,(if decide p=true then A else B)=some y/\Y y:=by rw[if_neg (by simpa using h)];exact a
def Jp(n:Nat){l:List V}(hl:∀ x∈l,bd MV x)(hlen:l.length<=100)(U:G6 l){F:FL}(r:FOk l F){i j k:Nat}(t:i<j)(u:j<k)(hk:k<l.length){m:V}(hm:m=aG (da (pt l) i j k)\/m=(aG (da (pt l) i j k)).neg){α:Type}{g:D->Nat×List D->Option α}{Y:α->Prop}
  (s:∀ F':FL,FOk l F'->(∀ f∈F,f∈F')->(da (pt l) i j k≠V.zero->Ce (pt l) l.length m (V.dot m (pt l i))->(m,V.dot m (pt l i))∈F'.map Prod.fst)->∃ y,g (I (V.dot m (pt l i))) (0,[.sl (aK F')])=some y/\Y y) :
  ∃ y,(Option.bind (cA (n+4) 107 [ac m,ac (pt l i)]) λo=>
  Option.bind (cA (n+4) 108 [.sl (aK F),ac m]) λM=>
  Option.bind (Option.bind (D.un .not M) λR=>
  Option.bind (D.truth R) λB=>
  Option.bind (if B then(Option.bind (D.un .not (D.bool (D.beq (ac m) (D.st [(D.int .i64 0),(D.int .i64 0),(D.int .i64 0)])))) λS=>
  D.truth S) else(some false)) λC=>
  Option.bind (D.truth (D.bool C)) λE=>
  Option.bind (if E then(Option.bind (cA (n+4) 109 [bc l,ac m,o]) λN=>
  D.truth N) else(some false)) λG=>
  Option.bind (D.truth (D.bool G)) λH=>
  if H then(Option.bind (cA (n+4) 111 [bc l,ac m,o]) λO=>
  Option.bind (cA (n+4) 110 [.sl (aK F),(D.st [ac m,o,O])]) λQ=>
  some (0,[Q])) else(some (0,[.sl (aK F)]))) (g o))=some y/\Y y:=by
 have K:i<l.length:=by omega
 have T:bd 549755813888 (aG (da (pt l) i j k)):=fk (jg (oo (P:=pt l) (hl _ (cV K)) (hl _ (cV (show j<l.length by omega)))) (oo (P:=pt l) (hl _ (cV K)) (hl _ (cV hk))))
 have J:bd 549755813888 m:=by
  rcases hm with rfl|rfl
  ·exact T
  ·exact q8 T
 have X:=r.len hlen;have v:m=V.zero↔da (pt l) i j k=V.zero:=by
  all_goals grind [FM,vq]
 refine ae (E9 (n+3) J (hl _ (cV K)) (by decide)) (ae (Wx (n+3) F m (by omega)) ?_)
 obtain⟨d,Z⟩:∃ d,V.dot m (l.getD i V.zero)=d:=⟨_,rfl⟩;have c:V.dot m (pt l i)=d:=Z;rw[c] at s;rw[c];by_cases hkn:(F.any λf=>decide (f.1.1=m))=true
 ·rw[hkn];refine ae (z:=(0,[.sl (aK F)])) (aa (z:=.bool false) rfl (aa (z:=false) rfl (aa (z:=false) rfl (aa (z:=false) rfl (aa (z:=false) rfl (aa (z:=false) rfl rfl)))))) (s F r (λf b=>b) λA a=>?_);obtain⟨f,b,h⟩:=z0b.1 hkn;have h:f.1.1=m:=by simpa using h
  have h1:=(r.ok f b).1;rw[h] at h1;have W:IsF (pt l) l.length m d:=⟨⟨i,j,k,t,u,hk,A,hm,c.symm⟩,a⟩;exact zXa.2 ⟨f,b,Prod.ext h (IsF.d_eq h1 W)⟩
 ·rw[Bool.not_eq_true] at hkn;rw[hkn];have L:∀ f∈F,f.1.1≠m:=λf b e=>by
   grind
  by_cases hz:m=V.zero
  ·refine ae (z:=(0,[.sl (aK F)])) (aa (z:=.bool true) rfl (aa (z:=true) rfl (aa (z:=false) ?_ (aa (z:=false) rfl (aa (z:=false) rfl (aa (z:=false) rfl rfl)))))) (s F r (λf b=>b) λA a=>absurd (v.1 hz) A);rw[if_pos rfl,uE,jP,decide_eq_true (show m=⟨0,0,0⟩ from hz)];rfl
  ·have A:da (pt l) i j k≠V.zero:=λe=>hz (v.2 e);have hc:=Wy (n+2) (d:=d) hl J (by decide) (by omega)
   by_cases a:supp l (m,d)=true
   ·have q:IsF (pt l) l.length m d:=⟨⟨i,j,k,t,u,hk,A,hm,c.symm⟩,qx.1 a⟩;obtain⟨p,hp,_,_⟩:=q.poly U;refine ae (z:=(0,[.sl (aK (mh ((m,d),p) F))])) (aa (z:=.bool true) rfl (aa (z:=true) rfl (aa (z:=true) ?_ (aa (z:=true) rfl (aa (z:=true) ?_ (aa (z:=true) rfl ?_)))))) (s _ (r.insert L q hp) (λf b=>mM.2 (.inr b)) λ_ _=>zXa.2 ⟨((m,d),p),mM.2 (.inl rfl),rfl⟩)
    ·rw[if_pos rfl,uE,jP,decide_eq_false (show ¬ m=⟨0,0,0⟩ from hz)];rfl
    ·rw[if_pos rfl];refine aa hc ?_;rw[ab];exact congrArg some a
    ·rw[if_pos rfl];exact aa (Xv n hl hlen U q J hp) (aa (Wz (n+2) F ((m,d),p) (by omega)) rfl)
   ·refine ae (z:=(0,[.sl (aK F)])) (aa (z:=.bool true) rfl (aa (z:=true) rfl (aa (z:=true) ?_ (aa (z:=true) rfl (aa (z:=false) ?_ (aa (z:=false) rfl rfl)))))) (s F r (λf b=>b) λ_ w=>absurd (qx.2 w) a)
    ·rw[if_pos rfl,uE,jP,decide_eq_false (show ¬ m=⟨0,0,0⟩ from hz)];rfl
    ·rw[if_pos rfl];refine aa hc ?_;rw[ab];exact congrArg some (zoc.2 a)
structure KnF(l:List V)(i j k:Nat)(F:FL):Prop where
 fok:FOk l F
 all:∀ i' j' k',i'<j'->j'<k'->k'<l.length->(i'<i\/i'=i/\(j'<j\/j'=j/\k'<k))->da (pt l) i' j' k'≠V.zero->∀ m,(m=aG (da (pt l) i' j' k')\/m=(aG (da (pt l) i' j' k')).neg)->Ce (pt l) l.length m (V.dot m (pt l i'))->(m,V.dot m (pt l i'))∈F.map Prod.fst
def KnF.mono{l:List V}{i j k i2 d g:Nat}{F:FL}(h:KnF l i j k F)(hm:∀ b a c,b<a->a<c->c<l.length->(b<i2\/b=i2/\(a<d\/a=d/\c<g))->(b<i\/b=i/\(a<j\/a=j/\c<k))):KnF l i2 d g F:=
 ⟨h.fok,λb a c h1 e f m=>h.all b a c h1 e f (hm b a c h1 e f m)⟩
def KnF.facets{l:List V}{F:FL}(h:KnF l l.length 0 0 F):Facets (pt l) l.length (F.map Prod.fst):=by
 refine⟨zsd.2 h.fok.ord,λq=>⟨λhq=>?_,λhq=>?_⟩⟩
 ·obtain⟨f,g,rfl⟩:=zXa.1 hq;exact(h.fok.ok f g).1
 ·obtain⟨⟨i,j,k,h1,c,e,c1,c2,a⟩,b⟩:=hq;obtain⟨m,d⟩:=q;simp only at c2 a b;subst a;exact h.all i j k h1 c e (.inl (by omega)) c1 m c2 b
end Sy
end
noncomputable section
namespace Sy
open Go Go.Proofs Geo
def mt(p:V):Nat->V
 | 0=>p
 | 1=>p.neg
 | _=>p
def Zn(n:Nat){l:List V}(hl:∀ x∈l,bd MV x)(hlen:l.length<=100)(N:G6 l):∃ F:FL,KnF l l.length 0 0 F/\cA (n+7) 48 [bc l]=some (.sl (aK F)):=by
 suffices h:∃ y,cA (n+7) 48 [bc l]=some y/\∃ F:FL,KnF l l.length 0 0 F/\y=.sl (aK F) by
  obtain⟨y,h1,F,c,rfl⟩:=h;exact⟨F,c,h1⟩
 rw[u48]
 delta R7 qB qC qT qN qX qL qZ iL iR Jn
 have d:(l.map ac).length=l.length:=zsa ..;refine jr (λi s=>∃ F:FL,s=[.sl (aK F),I (i:Int)]/\KnF l i 0 0 F) l.length 0 (zja _) ⟨[],rfl,⟨.nil,by simp⟩,λq r u h1 c v w=>by omega⟩ (λi o s a=>?_) (λs a=>?_)
 ·obtain⟨F,rfl,b⟩:=a;refine ae (z:=l.map ac) rfl (ae af (ae ab (dL (by show((i:Int)<((l.map ac).length:Int));rw[d];omega) (ae (aw (ay (i:=i) (by omega))) ?_))))
  refine jr (λj s=>i+1<=j/\∃ F:FL,s=[.sl (aK F),I (j:Int)]/\KnF l i j 0 F) l.length (i+1) (by omega) ⟨zfa _,F,rfl,b.mono λq r u h1 c v w=>by omega⟩ (λj A s a=>?_) (λs a=>?_)
  ·obtain⟨H,F,rfl,b⟩:=a;refine ae (z:=l.map ac) rfl (ae af (ae ab (dL (by show((j:Int)<((l.map ac).length:Int));rw[d];omega) (ae (aw (ay (i:=j) (by omega))) ?_))))
   refine jr (λk s=>j+1<=k/\∃ F:FL,s=[.sl (aK F),I (k:Int)]/\KnF l i j k F) l.length (j+1) (by omega) ⟨zfa _,F,rfl,b.mono λq r u h1 c v w=>by omega⟩ (λk hk s a=>?_) (λs a=>?_)
   ·obtain⟨J,F,rfl,b⟩:=a;refine ae (z:=l.map ac) rfl (ae af (ae ab (dL (by show((k:Int)<((l.map ac).length:Int));rw[d];omega) ?_)))
    refine ae (z:=l.map ac) rfl (ae (z:=i) (by rw[d];exact ap o) (ae (dN o) (ae (z:=l.map ac) rfl (ae (z:=j) (by rw[d];exact ap A) (ae (dN A) (ae (z:=l.map ac) rfl (ae (z:=k) (by rw[d];exact ap hk) (ae (dN hk) (ae (z:=ac (aG (da (pt l) i j k))) (Ww n (hl _ (cV o)) (hl _ (cV A)) (hl _ (cV hk))) ?_)))))))))
    have C:bd 549755813888 (aG (da (pt l) i j k)):=fk (jg (oo (P:=pt l) (hl _ (cV o)) (hl _ (cV A))) (oo (P:=pt l) (hl _ (cV o)) (hl _ (cV hk))));obtain⟨p,hp⟩:∃ p,aG (da (pt l) i j k)=p:=⟨_,rfl⟩;rw[hp] at C ⊢;have z0:bd 0 V.zero:=by simp only[bd,V.zero];omega
    have O:V.zero.sub p=p.neg:=by apply V.ext'<;>simp[V.sub,V.neg,V.zero]
    have Q:V.zero.sub p.neg=p:=by apply V.ext'<;>simp[V.sub,V.neg,V.zero]
    refine jr (λt s=>∃ F':FL,s=[.sl (aK F'),I (t:Int),ac (mt p t)]/\FOk l F'/\(∀ f∈F,f∈F')/\(1<=t->da (pt l) i j k≠V.zero->Ce (pt l) l.length p (V.dot p (pt l i))->(p,V.dot p (pt l i))∈F'.map Prod.fst)/\(2<=t->da (pt l) i j k≠V.zero->Ce (pt l) l.length p.neg (V.dot p.neg (pt l i))->(p.neg,V.dot p.neg (pt l i))∈F'.map Prod.fst)) 2 0 (by omega) ⟨F,rfl,b.fok,λf g=>g,λh=>by omega,λh=>by omega⟩ (λt R s a=>?_) (λs a=>?_)
    ·obtain⟨F',rfl,f1,f2,f3,f4⟩:=a;refine ae af (ae ab (dL (by show((t:Int)<2);omega) (ae (z:=l.map ac) rfl (ae (z:=i) (by rw[d];exact ap o) (ae (dN o) ?_)))))
     have K:t=0\/t=1:=by omega
     simp only[g0,g1,g2];rcases K with rfl|rfl
     ·rw[show mt p 0=p from rfl];refine Jp (n+2) hl hlen N f1 (show i<j by omega) (show j<k by omega) hk (m:=p) (.inl hp.symm) (λF2 L B M=>?_)
      refine⟨.inl [.sl (aK F2),I ((0+1:Nat):Int),ac p.neg],?_,?_⟩
      ·refine aa (z:=ac p.neg) ?_ ?_
       ·have:=Fa (n+5) z0 C (by decide)
        rw[O] at this;exact this
       ·exact aa (aw NJ) rfl
      ·exact⟨F2,rfl,L,λf g=>B f (f2 f g),λ_=>M,λh=>by omega⟩
     ·rw[show mt p 1=p.neg from rfl];refine Jp (n+2) hl hlen N f1 (show i<j by omega) (show j<k by omega) hk (m:=p.neg) (.inr (by rw[hp])) (λF2 L B M=>?_)
      refine⟨.inl [.sl (aK F2),I ((1+1:Nat):Int),ac p],?_,F2,rfl,L,λf g=>B f (f2 f g),λ_ h1 c=>?_,λ_=>M⟩
      ·refine aa (z:=ac p) ?_ ?_
       ·have:=Fa (n+5) z0 (q8 C) (by decide)
        rw[Q] at this;exact this
       ·exact aa (aw tR) rfl
      ·obtain⟨f,g,e⟩:=zXa.1 (f3 (zfa _) h1 c);exact zXa.2 ⟨f,B f g,e⟩
    ·obtain⟨F',rfl,f1,f2,f3,f4⟩:=a;refine⟨.inr (0,[.sl (aK F')]),aa af (aa ab (aC (by decide) rfl)),.inl [.sl (aK F'),I ((k+1:Nat):Int)],aa (aw (ay (i:=k) (by omega))) rfl,by omega,F',rfl,f1,λq r u h1 c v w D m E G=>?_⟩
     by_cases e:q=i/\r=j/\u=k
     ·obtain⟨rfl,rfl,rfl⟩:=e;rw[hp] at E;rcases E with rfl|rfl
      ·exact f3 (by omega) D G
      ·exact f4 (by omega) D G
     ·obtain⟨f,g,e⟩:=zXa.1 (b.all q r u h1 c v (by omega) D m E G)
      exact zXa.2 ⟨f,f2 f g,e⟩
   ·obtain⟨J,F,rfl,b⟩:=a;refine⟨.inr (0,[.sl (aK F)]),?_,.inl [.sl (aK F),I ((j+1:Nat):Int)],aa (aw (ay (i:=j) (by omega))) rfl,by omega,F,rfl,b.mono λq r u h1 c v w=>by omega⟩
    exact aa (z:=l.map ac) rfl (aa af (aa ab (aC (by show ¬ ((l.length:Int)<((l.map ac).length:Int));rw[d];omega) rfl)))
  ·obtain⟨H,F,rfl,b⟩:=a;refine⟨.inr (0,[.sl (aK F)]),?_,.inl [.sl (aK F),I ((i+1:Nat):Int)],aa (aw (ay (i:=i) (by omega))) rfl,F,rfl,b.mono λq r u h1 c v w=>by omega⟩
   exact aa (z:=l.map ac) rfl (aa af (aa ab (aC (by show ¬ ((l.length:Int)<((l.map ac).length:Int));rw[d];omega) rfl)))
 ·obtain⟨F,rfl,b⟩:=a;refine⟨.inr (0,[.sl (aK F)]),?_,.sl (aK F),rfl,F,b,rfl⟩;exact aa (z:=l.map ac) rfl (aa af (aa ab (aC (by show ¬ ((l.length:Int)<((l.map ac).length:Int));rw[d];omega) rfl)))
end Sy
end
noncomputable section
namespace Sy
open Go Go.Proofs Geo
def aP(l:List V):(l.map ac).length=l.length:=zsa ..
def c13(n:Nat)(a b:List V)(t:a.length<=1000000):cA (n+1) 13 [bc a,bc b]=some (.bool (decide (a=b))):=by
 rw[u13]
 delta RQ qB qT qS qX qL qZ iL iR Jn
 refine aa (z:=a.map ac) rfl (aa (z:=b.map ac) rfl ?_);rw[aP,aP,cO];by_cases hab:a.length=b.length
 ·rw[decide_eq_true hab];refine aa (z:=false) rfl ?_;rw[if_neg (by decide)]
  refine bF (λi s=>s=[I (i:Int)]/\a.take i=b.take i) a.length 0 (zja _) ⟨rfl,by simp⟩ (λi k s j=>?_) (λs j=>?_)
  ·obtain⟨rfl,h⟩:=j;have d:i<b.length:=by omega
   have pre:∀ z,(Option.bind (D.truth (D.bool (!(D.beq (ac (a.getD i V.zero)) (ac (b.getD i V.zero)))))) λc=>
     if c then(some (Sum.inr (0,[(D.bool false)]))) else(Option.bind (D.bin .add (I (i:Int)) (D.int .i64 1)) λf=>some (Sum.inl [f])))=some z ->
     (Option.bind (D.asSl (bc a)) λq=>Option.bind (D.bin .lss (I (i:Int)) (D.int .i64 (List.length q))) λr=>Option.bind (D.truth r) λp=>
     if p then(Option.bind (D.asSl (bc a)) λo=>Option.bind (D.idx (I (i:Int)) (List.length o)) λi9=>Option.bind (o[i9]?) λl=>Option.bind (D.asSl (bc b)) λg=>Option.bind (D.idx (I (i:Int)) (List.length g)) λtR=>Option.bind (g[tR]?) λm=>
     Option.bind (D.truth (D.bool (!(D.beq l m)))) λc=>
     if c then(some (Sum.inr (0,[(D.bool false)]))) else(Option.bind (D.bin .add (I (i:Int)) (D.int .i64 1)) λf=>some (Sum.inl [f]))) else(some (Sum.inr (1,[]):Sum (List D) (Nat×List D))))=some z:=λz h=>
    aa (z:=a.map ac) rfl (aa af (aa ab (aB (by show((i:Int)<((a.map ac).length:Int));rw[aP];omega) (aa (z:=a.map ac) rfl (aa (z:=i) (by rw[aP];exact ap k) (aa (dN k) (aa (z:=b.map ac) rfl (aa (z:=i) (by rw[aP];exact ap d) (aa (dN d) h)))))))))
   rw[jP] at pre;by_cases he:a.getD i V.zero=b.getD i V.zero
   ·left;refine⟨[I ((i+1:Nat):Int)],pre _ ?_,rfl,?_⟩
    ·rw[decide_eq_true he];refine aa (z:=false) rfl ?_;rw[if_neg (by decide)]
     exact aa (aw (ay (i:=i) (by omega))) rfl
    ·rw[zAa k,zAa d,h]
     simp_all
   ·right;refine⟨(0,[.bool false]),pre _ ?_,?_⟩
    ·rw[decide_eq_false he];rfl
    ·rw[decide_eq_false (λe=>he (by rw[e]))];rfl
  ·obtain⟨rfl,h⟩:=j;refine⟨(1,[]),?_,?_⟩
   ·exact aa (z:=a.map ac) rfl (aa af (aa ab (aC (by show ¬ ((a.length:Int)<((a.map ac).length:Int));rw[aP];omega) rfl)))
   ·grind
 ·rw[decide_eq_false hab,decide_eq_false (λe=>hab (by rw[e]))]
  rfl
instance decBd (k:Int) (v:V):Decidable (bd k v):=by unfold bd;exact inferInstance
def pF(v:V):Nat->Int
 | 0=>v.x
 | 1=>v.y
 | _=>v.z
def HU(v:V){t:Nat}(h:t<3):D.fld (ac v) t=some (I (pF v t)):=by
 have:t=0\/t=1\/t=2:=by omega
 rcases this with rfl|rfl|rfl<;>rfl
def DJ{v:V}:bd MV v↔∀ t,t<3->¬ (pF v t>262144)/\¬ (pF v t < -262144):=by
 constructor
 ·intro h t b;have:t=0\/t=1\/t=2:=by omega
  grind [bd,MV,pF]
 ·intro h;have h0:=h 0 (by decide);have h1:=h 1 (by decide);have a:=h 2 (by decide)
  simp_all [pF,bd,MV]
def ku(F:FL)(i:Nat):Bool:=F.any λf=>f.2.any λx=>decide (x=i)
def dK(S:List V)(F:FL)(k:Nat):List V:=((List.range k).filter (ku F)).map (pt S)
def Dt(S:List V)(F:FL)(k:Nat):dK S F (k+1)=if ku F k then dK S F k++[pt S k] else dK S F k:=by
 grind [dK,List.range_succ]
def yx(S:List V)(F:FL)(k:Nat):(dK S F k).length<=k:=by
 grind [dK,List.length_map]
def Cw(e:Int):D:=.st [.st [.sl []],I e]
def D8(S:List V)(F:FL):D:=if F.length=0 then Cw 120 else if F.length>64 then Cw 2 else .st [.st [bc (dK S F S.length)],I 0]
def LN(n:Nat){l:List V}(h:64<l.length):cA (n+1) 12 [bc l]=some (Cw 2):=by
 rw[XQ]
 delta PG qB qC qT qS qX qL qV qW qZ iL iR Jn
 exact aa (z:=l.map ac) rfl (aa cM (aa ab (aB (by show((l.map ac).length:Int)>64;rw[aP];omega) rfl)))
def O5{l:List V}{i:Nat}(B:i<l.length){α:Type}{k:Nat×List D->Option α}{y:α}(C:k (if bd MV (l.getD i V.zero) then(1,[.sl [],I 0]) else(0,[.sl [],I 1]))=some y) :
  Option.bind (aS (λ(j:List D)=>
 Option.bind (D.bin .lss (gx j 0) (D.int .i64 3)) λH=>
 Option.bind (D.truth H) λm=>
 if m then(Option.bind (D.asSl (bc l)) λc=>
 Option.bind (D.idx (I (i:Int)) (List.length c)) λtR=>
 Option.bind (c[tR]?) λr=>
 Option.bind (D.idx (gx j 0) 3) λi14=>
 Option.bind (D.fld r i14) λu=>
 Option.bind (D.bin .gtr u (D.int .i64 262144)) λv=>
 Option.bind (D.truth v) λn=>
 Option.bind (if n then(some true) else(Option.bind (D.asSl (bc l)) λd=>
 Option.bind (D.idx (I (i:Int)) (List.length d)) λi19=>
 Option.bind (d[i19]?) λw=>
 Option.bind (D.idx (gx j 0) 3) λi21=>
 Option.bind (D.fld w i21) λx=>
 Option.bind (D.bin .lss x (D.int .i64 (-262144))) λA=>
 D.truth A)) λo=>
 Option.bind (D.truth (D.bool o)) λp=>
 if p then(some (Sum.inr (0,[(D.sl []),(D.int .i64 1)]))) else(Option.bind (D.bin .add (gx j 0) (D.int .i64 1)) λf=>
 some (Sum.inl [f,(D.sl (D.els (gx j 1))),(gx j 2)]))) else(some (Sum.inr (1,[(D.sl (D.els (gx j 1))),(gx j 2)])))) [(D.int .i64 0),.sl [],I 0]) k=some y:=by
 refine cn (λt s=>s=[I (t:Int),.sl [],I 0]/\∀ q,q<t->¬ (pF (l.getD i V.zero) q>262144)/\¬ (pF (l.getD i V.zero) q < -262144)) 3 0 (by decide) ⟨rfl,λq h=>by omega⟩ (λt F s E=>?_) (λs E=>?_)
 ·obtain⟨rfl,G⟩:=E;have J:=HU (l.getD i V.zero) F;have K:D.idx (I (t:Int)) 3=some t:=ap F;have pre:∀ z,(if decide (pF (l.getD i V.zero) t>262144\/pF (l.getD i V.zero) t < -262144)=true then(some (Sum.inr (0,[(D.sl []),(D.int .i64 1)]))) else(Option.bind (D.bin .add (I (t:Int)) (D.int .i64 1)) λf=>some (Sum.inl [f,.sl [],I 0])))=some z->_:=λ(z:Sum (List D) (Nat×List D)) hz'=>
   aa (g:=λH=>Option.bind (D.truth H) λm=>if m then(Option.bind (D.asSl (bc l)) λc=>Option.bind (D.idx (I (i:Int)) (List.length c)) λtR=>Option.bind (c[tR]?) λr=>Option.bind (D.idx (I (t:Int)) 3) λi14=>Option.bind (D.fld r i14) λu=>Option.bind (D.bin .gtr u (D.int .i64 262144)) λv=>Option.bind (D.truth v) λn=>
    Option.bind (if n then(some true) else(Option.bind (D.asSl (bc l)) λd=>Option.bind (D.idx (I (i:Int)) (List.length d)) λi19=>Option.bind (d[i19]?) λw=>Option.bind (D.idx (I (t:Int)) 3) λi21=>Option.bind (D.fld w i21) λx=>Option.bind (D.bin .lss x (D.int .i64 (-262144))) λA=>D.truth A)) λo=>
    Option.bind (D.truth (D.bool o)) λp=>
    if p then(some (Sum.inr (0,[(D.sl []),(D.int .i64 1)]))) else(Option.bind (D.bin .add (I (t:Int)) (D.int .i64 1)) λf=>some (Sum.inl [f,.sl [],I 0]))) else(some (Sum.inr (1,[.sl [],I 0]))))
    (af (a:=(t:Int)) (b:=3)) (y:=z) (aa ab (aB (by omega) (aa (z:=l.map ac) rfl (aa (z:=i) (by rw[aP];exact ap B) (aa (dN B) (aa K (aa J (aa cM (aa ab (aa (z:=decide (pF (l.getD i V.zero) t>262144\/pF (l.getD i V.zero) t < -262144)) (by
     by_cases h1:pF (l.getD i V.zero) t>262144
     ·refine aB h1 ?_;rw[decide_eq_true (.inl h1)]
     ·refine aC h1 (aa (z:=l.map ac) rfl (aa (z:=i) (by rw[aP];exact ap B) (aa (dN B) (aa K (aa J (aa af ?_))))))
      rw[ab];congr 1;rw[decide_eq_decide];exact⟨.inr,λh=>h.resolve_left h1⟩) (aa ab hz')))))))))))
  by_cases hb:pF (l.getD i V.zero) t>262144\/pF (l.getD i V.zero) t < -262144
  ·right;refine⟨_,pre _ (aB hb rfl),?_⟩;rw[if_neg (λh=>by have:=DJ.1 h t F;omega)] at C
   exact C
  ·left;refine⟨[I ((t+1:Nat):Int),.sl [],I 0],pre _ (aC hb (aa (aw (ay (i:=t) (by omega))) rfl)),rfl,λq L=>?_⟩
   by_cases e:q=t
   ·subst e;omega
   ·exact G q (by omega)
 ·obtain⟨rfl,G⟩:=E;refine⟨(1,[.sl [],I 0]),aa af (aa ab (aC (by decide) rfl)),?_⟩
  rw[if_pos (DJ.2 G)] at C;exact C
def LL(n:Nat){l:List V}(hlen:l.length<=64)(e:¬ ∀ x∈l,bd MV x):cA (n+1) 12 [bc l]=some (Cw 1):=by
 rw[XQ]
 delta PG qB qC qT qS qX qL qV qW qZ iL iR Jn
 refine aa (z:=l.map ac) rfl (aa cM (aa ab (aC (by show ¬ ((l.map ac).length:Int)>64;rw[aP];omega) ?_)))
 refine bF (λi s=>s=[I (i:Int),.sl [],I 0]/\∀ x∈l.take i,bd MV x) l.length 0 (zja _) ⟨rfl,by simp⟩ (λi b s d=>?_) (λs d=>?_)
 ·obtain⟨rfl,c⟩:=d;by_cases hx:bd MV (l.getD i V.zero)
  ·left;refine⟨[I ((i+1:Nat):Int),.sl [],I 0],?_,rfl,λx a=>?_⟩
   ·refine aa (z:=l.map ac) rfl (aa af (aa ab (aB (by show((i:Int)<((l.map ac).length:Int));rw[aP];omega) (O5 b ?_))))
    rw[if_pos hx,if_neg (show ¬ (1:Nat)=0 by decide)]
    exact aa (aw (ay (i:=i) (by omega))) rfl
   ·rw[zAa b] at a;rcases List.mem_append.1 a with h|h
    ·exact c x h
    ·rw[zDa.1 h];simpa [List.getD,b] using hx
  ·right;refine⟨(0,[.sl [],I 1]),?_,rfl⟩;refine aa (z:=l.map ac) rfl (aa af (aa ab (aB (by show((i:Int)<((l.map ac).length:Int));rw[aP];omega) (O5 b ?_))))
   rw[if_neg hx];rfl
 ·obtain⟨rfl,c⟩:=d;rw[zfb] at c;exact absurd c e
def Hl(n:Nat){l:List V}(hlen:l.length<=64)(hl:∀ x∈l,bd MV x){F:FL}(t:∀ f∈F,f.2.length<=1000000)(A:F.length<=3000000)(m:cA (n+2) 48 [bc (eG l)]=some (.sl (aK F))):cA (n+3) 12 [bc l]=some (D8 (eG l) F):=by
 rw[XQ]
 delta PG qB qC qT qS qX qL qV qW qZ iL iR Jn
 refine aa (z:=l.map ac) rfl (aa cM (aa ab (aC (by show ¬ ((l.map ac).length:Int)>64;rw[aP];omega) ?_)))
 refine bF (λi s=>s=[I (i:Int),.sl [],I 0]) l.length 0 (zja _) rfl (λi c s a=>?_) (λs a=>?_)
 ·subst a;left;refine⟨[I ((i+1:Nat):Int),.sl [],I 0],?_,rfl⟩;refine aa (z:=l.map ac) rfl (aa af (aa ab (aB (by show((i:Int)<((l.map ac).length:Int));rw[aP];omega) (O5 c ?_))))
  rw[if_pos (hl _ (cV c)),if_neg (show ¬ (1:Nat)=0 by decide)]
  exact aa (aw (ay (i:=i) (by omega))) rfl
 ·subst a;refine⟨(1,[.sl [],I 0]),aa (z:=l.map ac) rfl (aa af (aa ab (aC (by show ¬ ((l.length:Int)<((l.map ac).length:Int));rw[aP];omega) rfl))),?_⟩
  rw[if_neg (show ¬ (1:Nat)=0 by decide)]
  have o:=zEa (qu l) hlen;refine aa (c47 n l (by omega)) (aa m (aa (z:=aK F) rfl ?_))
  obtain⟨S,B⟩:∃ S,eG l=S:=⟨_,rfl⟩;rw[B] at o ⊢;rw[aY,show D.beq (D.int .i64 (F.length:Nat)) (D.int .i64 0)=decide (F.length=0) from cO F.length 0];refine aa ab ?_;unfold D8;by_cases h0:F.length=0
  ·refine aB h0 ?_;rw[if_pos h0];rfl
  refine aC h0 (aa (z:=aK F) rfl (aa cM (aa ab ?_)));rw[if_neg h0];by_cases h64:F.length>64
  ·refine aB (by rw[aY];omega) ?_
   rw[if_pos h64];rfl
  refine aC (by rw[aY];omega) ?_
  rw[if_neg h64];refine bF (λi s=>s=[I (i:Int),.sl [],I 0,bc (dK S F i),I 0]) S.length 0 (zja _) rfl (λi c s a=>?_) (λs a=>?_)
  ·subst a;left;refine⟨[I ((i+1:Nat):Int),.sl [],I 0,bc (dK S F (i+1)),I 0],?_,rfl⟩;have C:=yx S F i;refine aa (z:=S.map ac) rfl (aa af (aa ab (aB (by show((i:Int)<((S.map ac).length:Int));rw[aP];omega) ?_)))
   refine aa (z:=(0,[.sl [],I 0,bc (dK S F (i+1)),I 0])) ?_ (aa (aw (ay (i:=i) (by omega))) rfl)
   refine cn (λk s=>s=[.bool (ku (F.take k) i),I (k:Int),.sl [],I 0,bc (dK S F i),I 0]) F.length 0 (zja _) rfl (λk hk s a=>?_) (λs a=>?_)
   ·subst a;left;refine⟨[.bool (ku (F.take (k+1)) i),I ((k+1:Nat):Int),.sl [],I 0,bc (dK S F i),I 0],?_,rfl⟩;have r:=t F[k] (zza hk);have w:ku (F.take (k+1)) i=(ku (F.take k) i||F[k].2.any λx=>decide (x=i)):=by
     grind [ku,List.take_succ_eq_append_getElem]
    refine aa (z:=aK F) rfl (aa af (aa ab (aB (by show((k:Int)<((aK F).length:Int));rw[aY];omega) ?_)))
    have e:∀ {β:Type} {g:List D->Option β} {y:β},g (ag F[k].2)=some y->(Option.bind (D.asSl (.sl (aK F))) λd=>Option.bind (D.idx (I (k:Int)) (List.length d)) λi47=>Option.bind (d[i47]?) λu=>Option.bind (D.fld u 2) λv=>Option.bind (D.asSl v) g)=some y:=λh=>
     aa (z:=aK F) rfl (aa (z:=k) (by rw[aY];exact ap hk) (aa (fo hk) (aa (z:=.sl (ag F[k].2)) rfl (aa (z:=ag F[k].2) rfl h))))
    rw[w];generalize ku (F.take k) i=b;obtain⟨p,hp⟩:∃ p,F[k].2=p:=⟨_,rfl⟩;rw[hp] at r e ⊢;refine cn (λj s=>s=[.bool (b||(p.take j).any λx=>decide (x=i)),I (j:Int),.sl [],I 0,bc (dK S F i),I 0]) p.length 0 (zja _) (by rw[List.take_zero,List.any_nil,Bool.or_false];rfl) (λj q s a=>?_) (λs a=>?_)
    ·subst a;left;refine⟨[.bool (b||(p.take (j+1)).any λx=>decide (x=i)),I ((j+1:Nat):Int),.sl [],I 0,bc (dK S F i),I 0],?_,rfl⟩;refine e (aa af (aa ab (aB (by show((j:Int)<((ag p).length:Int));rw[ao];omega) (aa ab (aa (z:=b||(p.take (j+1)).any λx=>decide (x=i)) ?_ (aa (aw (ay (i:=j) (by omega))) rfl))))))
     rw[zAa q,z3c];generalize (p.take j).any (λx=>decide (x=i))=b1;cases hb:(b||b1)
     ·rw[<-Bool.or_assoc,hb,if_neg (by decide)]
      refine e (aa (z:=j) (by rw[ao];exact ap q) (aa (gK q) ?_))
      simp_all [cO,List.getD,ab]
     ·grind
    ·subst a;rw[zfb];refine⟨(0,[.bool (b||p.any λx=>decide (x=i)),.sl [],I 0,bc (dK S F i),I 0]),e (aa af (aa ab (aC (by show ¬ ((p.length:Int)<((ag p).length:Int));rw[ao];omega) rfl))),?_⟩
     exact aa (aw (ay (i:=k) (by omega))) rfl
   ·subst a;rw[zfb];refine⟨(0,[.bool (ku F i),.sl [],I 0,bc (dK S F i),I 0]),?_,?_⟩
    ·exact aa (z:=aK F) rfl (aa af (aa ab (aC (by show ¬ ((F.length:Int)<((aK F).length:Int));rw[aY];omega) rfl)))
    ·rw[Dt];refine aa (z:=ku F i) ab ?_;cases ku F i
     ·rfl
     ·rw[if_pos rfl,if_pos rfl];refine aa (z:=S.map ac) rfl (aa (z:=i) (by rw[aP];exact ap c) (aa (dN c) ?_))
      rw[if_pos (by show((dK S F i).map ac).length+1<=1073741824;rw[aP];omega)]
      have:D.sl ((dK S F i).map ac++[ac (S.getD i V.zero)])=bc (dK S F i++[pt S i]):=by simp[bc,pt]
      rw[<-this];rfl
  ·subst a;refine⟨(0,[.sl [],I 0,bc (dK S F S.length),I 0]),?_,rfl⟩;exact aa (z:=S.map ac) rfl (aa af (aa ab (aC (by show ¬ ((S.length:Int)<((S.map ac).length:Int));rw[aP];omega) rfl)))
def vp{l:List V}(i:G6 l){m:V}{d:Int}(f:IsF (pt l) l.length m d){p:List Nat}(hp:bH (pt l) l.length m d p):p.Nodup/\p.length<=l.length/\0<p.length/\∀ x∈p,x<l.length:=by
 obtain⟨k,h,c,b⟩:=f.poly i;have e:=bH.eq i f hp h;subst e;obtain⟨a,_,j,g,_,_⟩:=f.head i;have hm:a∈p:=(b a).2 ⟨j,g⟩;refine⟨c,?_,List.length_pos_iff.2 (λe=>by rw[e] at hm;cases hm),λx hx=>(az.1 ((b x).1 hx).1).1⟩
 have:=zWb (l₂:=List.range l.length) c λx hx=>zLa.2 (az.1 ((b x).1 hx).1).1
 simp_all
def MW{l:List V}(hl:∀ x∈l,bd MV x):∀ x∈eG l,bd MV x:=λx hx=>hl x (Bf.1 hx)
def c12(n:Nat){l:List V}(hlen:l.length<=100):(64<l.length/\cA (n+8) 12 [bc l]=some (Cw 2))\/(l.length<=64/\(¬ ∀ x∈l,bd MV x)/\cA (n+8) 12 [bc l]=some (Cw 1)) ∨
  (l.length<=64/\(∀ x∈l,bd MV x)/\∃ F:FL,KnF (eG l) (eG l).length 0 0 F/\cA (n+8) 12 [bc l]=some (D8 (eG l) F)):=by
 by_cases h64:64<l.length
 ·exact .inl ⟨h64,LN (n+7) h64⟩
 ·by_cases hb:∀ x∈l,bd MV x
  ·right;right;refine⟨by omega,hb,?_⟩
   have d:=qu l;have a:=I9 (vP l);obtain⟨F,h1,b⟩:=Zn n (MW hb) (by omega) a
   refine⟨F,h1,Hl (n+5) (by omega) hb (λf c=>?_) (zEa (h1.fok.len (by omega)) (by decide)) b⟩
   obtain⟨e,g⟩:=h1.fok.ok f c;have:=(vp a e g).2.1;omega
  ·exact .inr (.inl ⟨by omega,hb,LL (n+7) (by omega) hb⟩)
def Gr(S:List V)(F:FL):(dK S F S.length).Sublist S:=by
 have h1:((List.range S.length).map (pt S))=S:=by
  apply zmc;intro i;by_cases h:i<S.length
  ·rw[z7a,zed h];simp[pt,List.getD,h]
  ·simp_all
 have a:(dK S F S.length).Sublist ((List.range S.length).map (pt S)):=List.Sublist.map _ List.filter_sublist
 simp_all
def c15(n:Nat){l:List V}(hlen:l.length<=100):(∃ e:Int,cA (n+9) 15 [bZ l]=some (I e)/\e≠0)\/(cA (n+9) 15 [bZ l]=some (I 0)/\l.length<=64/\(∀ x∈l,bd MV x)/\∃ F:FL,KnF (eG l) (eG l).length 0 0 F/\F.length≠0/\F.length<=64/\dK (eG l) F (eG l).length=l):=by
 rw[u15]
 delta RR qG qT Jn
 have err:∀ e:Int,e≠0->cA (n+8) 12 [bc l]=some (Cw e)->∃ e:Int,(Option.bind (D.get (bZ l) [0]) λp=>
 Option.bind (cA (n+8) 12 [p]) λf=>
 Option.bind (D.get f [1]) λq=>
 Option.bind (D.truth (D.bool (D.beq q (D.int .i64 0)))) λi=>
 Option.bind (if i then(Option.bind (D.get f [0,0]) λr=>
 Option.bind (D.get (bZ l) [0]) λs=>
 Option.bind (cA (n+8) 13 [r,s]) λo=>
 Option.bind (D.un .not o) λt=>
 D.truth t) else(some false)) λj=>
 Option.bind (D.truth (D.bool j)) λc=>
 if c then(some (D.int .i64 3)) else(Option.bind (D.get f [1]) λg=>
 some g))=some (I e)/\e≠0:=λe he h=>⟨e,by
  refine aa (z:=bc l) rfl (aa h (aa (z:=I e) rfl (aa (z:=false) ?_ (aa (z:=false) rfl (aa (z:=false) rfl rfl)))));rw[show D.beq (I e) (D.int .i64 0)=decide (e=0) from bR,decide_eq_false he];rfl,he⟩
 rcases c12 n hlen with⟨h1,d⟩|⟨h0,h1,d⟩|⟨h0,h1,F,d,b⟩
 ·grind
 ·grind
 ·unfold D8 at b;by_cases f0:F.length=0
  ·grind
  ·rw[if_neg f0] at b;by_cases f1:F.length>64
   ·grind
   ·rw[if_neg f1] at b;have m:=yx (eG l) F (eG l).length;have k:=qu l;have a:=c13 (n+7) (dK (eG l) F (eG l).length) l (by omega)
    by_cases hv:dK (eG l) F (eG l).length=l
    ·rw[decide_eq_true hv] at a;refine .inr ⟨?_,h0,h1,F,d,f0,by omega,hv⟩
     refine aa (z:=bc l) rfl (aa b (aa (z:=I 0) rfl (aa (z:=true) rfl (aa (z:=false) ?_ (aa (z:=false) rfl rfl)))));rw[if_pos rfl];exact aa (z:=bc (dK (eG l) F (eG l).length)) rfl (aa (z:=bc l) rfl (aa a rfl))
    ·rw[decide_eq_false hv] at a;refine .inl ⟨3,?_,by decide⟩
     refine aa (z:=bc l) rfl (aa b (aa (z:=I 0) rfl (aa (z:=true) rfl (aa (z:=true) ?_ (aa (z:=true) rfl rfl)))));rw[if_pos rfl];exact aa (z:=bc (dK (eG l) F (eG l).length)) rfl (aa (z:=bc l) rfl (aa a rfl))
end Sy
end
noncomputable section
namespace Sy
open Go Go.Proofs Geo
def HC(n:Nat){x y:Int}(hx:In x)(c:In y)(h:In (x*y)):cA (n+3) 61 [am x,am y]=some (am (x*y)):=by
 have:=Zq n (a:=some x) (b:=some y) (aN hx) (aN c)
 rwa [show n7 (some x) (some y)=some (x*y) from nG h] at this
def Ht(n:Nat){x y:Int}(hx:In x)(c:In y)(h:In (x+y)):cA (n+4) 57 [am x,am y]=some (am (x+y)):=by
 have:=Zp n (a:=some x) (b:=some y) (aN hx) (aN c)
 rwa [show wi (some x) (some y)=some (x+y) from nG h] at this
def fH{α:Type}{A B y:α}(h:A=y):(if true=true then A else B)=y:=h
def LP(n:Nat){v:V}(h1:inR v.x)(a:inR v.y)(b:inR v.z):cA (n+3) 148 [ac v]=some (gE v):=by
 rw[Yf];delta Km qB qC qZ iL iR Jn;obtain⟨Z,c⟩:∃ Z,(D.st [(D.bool false),(D.bool false),(av aW)])=Z:=⟨_,rfl⟩;rw[c];refine aV (s':=[I 1,.st [am v.x,Z,Z]]) ?_ (aV (s':=[I 2,.st [am v.x,am v.y,Z]]) ?_ (aV (s':=[I 3,gE v]) ?_ (dZ (r:=(0,[gE v])) ?_ rfl)))
 ·exact aa (z:=.bool true) rfl (aa (z:=true) rfl (fH (aa (z:=0) rfl (aa (z:=I v.x) rfl (aa (yJ n h1) (aa (z:=0) rfl (aa (z:=.st [am v.x,Z,Z]) rfl (aa (z:=I 1) rfl rfl))))))))
 ·exact aa (z:=.bool true) rfl (aa (z:=true) rfl (fH (aa (z:=1) rfl (aa (z:=I v.y) rfl (aa (yJ n a) (aa (z:=1) rfl (aa (z:=.st [am v.x,am v.y,Z]) rfl (aa (z:=I 2) rfl rfl))))))))
 ·exact aa (z:=.bool true) rfl (aa (z:=true) rfl (fH (aa (z:=2) rfl (aa (z:=I v.z) rfl (aa (yJ n b) (aa (z:=2) rfl (aa (z:=gE v) rfl (aa (z:=I 3) rfl rfl))))))))
 ·exact aa (z:=.bool false) rfl (aa (z:=false) rfl rfl)
end Sy
end
noncomputable section
namespace Sy
open Go Go.Proofs Geo
end Sy
end
noncomputable section
namespace Sy
open Go Go.Proofs Geo
def zh{m k:Nat}(h:m<=2^k)(hk:k<=511):m<ew:=by
 have:In (m:Int):=fF hk (by rw[zra];exact h)
 have:=aH.1 this
 rwa [zra] at this
def C5{a b k:Nat}(c:a<=2^k)(d:b<=2^k):a+b<=2^(k+1):=by rw[ztb];omega
def Nj(q:Rat)(a k:Nat):Prop:=q.num.natAbs<=2^a/\q.den<=2^k
def Nj.inR{q:Rat}{a k:Nat}(h:Nj q a k)(b:a<=511:=by decide)(hk:k<=511:=by decide):InR q:=
 ⟨fF b h.1,fF hk (by rw[zra];exact h.2)⟩
theorem Nj.fitM{x y:Rat}{a k b m:Nat}(hx:Nj x a k)(c:Nj y b m)(h1:a+b<=511:=by decide)(d:k+m<=511:=by decide):fitM x y:=
 ⟨zh (bC hx.1 c.1 (zfa _)) h1,zh (bC hx.2 c.2 (zfa _)) d⟩
theorem Nj.fitA{x y:Rat}{a k b m:Nat}(hx:Nj x a k)(c:Nj y b m)(h1:a+m<=510:=by decide)(f:b+k<=510:=by decide)(g:k+m<=511:=by decide):fitA x y:=by
 refine⟨?_,zh (bC hx.2 c.2 (zfa _)) g⟩;have d:=bC hx.1 c.2 h1;have e:=bC c.1 hx.2 f;exact zh (k:=510+1) (C5 d e) (by decide)
def QS(t:T3):D:=.st [.st [ac t.1,ac t.2.1,ac t.2.2],am (vol t)]
def NF(T:List T3):List D:=T.map QS
theorem GA.take{T:List T3}{N:Nat}(h:GA T N)(i:Nat):GA (T.take i) N:=
 ⟨zEa (by rw[zgb];omega) h.1,λt a=>h.2 t (zJa a)⟩
section
variable{l:List V}{T:List T3}(hT:GA T 268435456)(h58:∀ m,cA (m+9) 58 [bZ l]=some (.sl (NF T)))
include hT h58
end
end Sy
end
noncomputable section
namespace Sy
open Go Go.Proofs Geo
def H2{S:List V}(c:G6 S){F:FL}(g:FOk S F){k:Nat}(h:ku F k=true):Nm (pt S) S.length k:=by
 obtain⟨f,i,e⟩:=z0b.1 h;obtain⟨x,hx,a⟩:=z0b.1 e;have a:x=k:=by simpa using a
 subst a;obtain⟨b,l⟩:=g.ok f i;obtain⟨p,j,_,d⟩:=b.poly c;rw[<-bH.eq c b l j] at d;obtain⟨r1,m⟩:=(d x).1 hx;exact⟨_,_,b,r1,m⟩
end Sy
end
noncomputable section
namespace Sy
open Go Go.Proofs Geo
section
variable{l:List V}{T:List T3}(hT:GA T 268435456)(h58:∀ m,cA (m+9) 58 [bZ l]=some (.sl (NF T)))
include hT h58
end
end Sy
end
noncomputable section
namespace Sy
open Go Go.Proofs Geo
end Sy
end
noncomputable section
namespace Sy
open Go Go.Proofs Geo
def Hm(n:Nat):cA (n+3) 169 []=some (am 1):=by
 rw[Ym];delta Ku Jn;exact aa (yJ n (dJ 1)) rfl
def WE(n:Nat){x:Int}(hx:In x):cA (n+1031) 138 [am x]=some (iO (x:Rat)):=by
 rw[X7];unfold Ke;refine aa (Hm (n+1027)) (aa (OB n hx G0 (by decide)) ?_)
 rw[AI]
def Nx(n:Nat){x:Int}(hx:inR x):cA (n+1032) 74 [I x]=some (iO (x:Rat)):=by
 rw[u74];unfold Sl;exact aa (yJ (n+1029) hx) (aa (WE n (bB hx)) rfl)
def Ql(n:Nat){q:Rat}(h:InR q):cA (n+1030) 136 [iO q]=some (.bool true):=by
 rw[Rx];delta GQ qG qB qT Jn;have hp:=q.den_pos;refine aa (z:=am q.num) rfl (aa (Hk (n+1027) h.1) (aa (z:=true) rfl (aa (z:=true) (fH ?_) (aa (z:=true) rfl (aa (z:=true) (fH ?_) (aa (z:=true) rfl (aa (z:=true) (fH ?_) rfl)))))))
 ·exact aa (z:=am (q.den:Int)) rfl (aa (Hk (n+1027) h.2) rfl)
 ·refine aa (z:=am (q.den:Int)) rfl (aa (re (n+1026) h.2) (aa cM ?_));rw[gU (by omega)];rfl
 ·refine aa (z:=am q.num) rfl (aa (z:=am (q.den:Int)) rfl (aa (Fb n h.1 h.2) (aa (Hm (n+1026)) ?_)));have e:Nat.gcd q.num.natAbs (q.den:Int).natAbs=1:=q.reduced;rw[e];show D.truth (.bool (D.beq (am 1) (am 1)))=_;rw[No];rfl
theorem sf{x y:Rat}{a b g:Nat}(d:x.den=g*a)(e:y.den=g*b)(c:(a:Int)*y.den≠0):Rat.divInt (x.num*b+y.num*a) ((a:Int)*y.den)=x+y:=by
 conv=>rhs;rw[<-zpb x,<-zpb y]
 rw[z8c _ _ (dG x) (dG y),zqd c (by have:=dG x;have:=dG y;exact zrc ‹_› ‹_›)]
 have f:(x.den:Int)=g*a:=by rw[d,zSa]
 have h:(y.den:Int)=g*b:=by rw[e,zSa]
 rw[f,h];grind
def Ct{N D:Int}(c:0<D)(h:Nat.gcd N.natAbs D.natAbs=1):(Rat.divInt N D).num=N/\((Rat.divInt N D).den:Int)=D:=by
 obtain⟨a,b⟩:=iN N (show D≠0 by omega)
 have e:((1:Nat):Int)=1:=rfl;rw[if_neg (by omega),h,e,Int.ediv_one] at a b
 exact⟨a,b⟩
def yT(x:Int){d:Int}(a:d≠0):(Rat.divInt x d).num.natAbs ∣ x.natAbs/\(Rat.divInt x d).den ∣ d.natAbs:=by
 obtain⟨f,h⟩:=iN x a;have e:(Rat.divInt x d).den=((Rat.divInt x d).den:Int).natAbs:=rfl;rw[e,f,h];have key:∀ z:Int,((Nat.gcd x.natAbs d.natAbs:Nat):Int) ∣ z->(z/(if d<0 then -(Nat.gcd x.natAbs d.natAbs:Int) else(Nat.gcd x.natAbs d.natAbs:Int))).natAbs ∣ z.natAbs:=by
  intro z c;have b:0<Nat.gcd x.natAbs d.natAbs:=z0c _ (by omega)
  obtain⟨k,rfl⟩:=c;generalize Nat.gcd x.natAbs d.natAbs=g at *;split
  ·rw[Int.ediv_neg,zhb _ (by omega),z3b,zHa];exact Nat.dvd_mul_left _ _
  ·rw[zhb _ (by omega),zHa];exact Nat.dvd_mul_left _ _
 exact⟨key x (zZa.2 (zob _ _)),key d (zZa.2 (zIb _ _))⟩
def SJ(n:Nat){x y:Int}(hx:In x)(e:In y):cA (n+4) 90 [am x,am y]=some (I (bq x y)):=by
 rw[u90];delta Sx qG qT qN Jn;have gx:=mz (n+1) (a:=some x) (aN hx);have f:=mz (n+1) (a:=some y) (aN e);have b:=aH.1 hx;have d:=aH.1 e;refine aa gx (aa f (aa (z:=.bool false) rfl (aa (z:=false) rfl (aa (z:=false) rfl (aa (z:=false) rfl ?_)))));rw[if_neg (by decide)]
 refine aa (z:=.bool false) rfl (aa (z:=false) rfl ?_);rw[if_neg (by decide)]
 refine aa (z:=.bool false) rfl (aa (z:=false) rfl ?_);rw[if_neg (by decide)]
 refine aa (dc x) (aa (dc y) ?_);by_cases h1:x<0<;>by_cases h2:y<0
 ·rw[decide_eq_true h1,decide_eq_true h2];refine aa (z:=false) rfl ?_;rw[if_neg (by decide)]
  refine aa (z:=.bool true) (by rw[dc,decide_eq_true h1]) (aa (z:=true) rfl (fH ?_))
  refine aa (iP y) (aa (iP x) (aa (LK n d b) ?_));congr 2;unfold bq;by_cases c:x<y
  ·rw[if_pos c,if_pos (by omega)]
  ·rw[if_neg c,if_neg (by omega)]
   by_cases c2:x>y
   ·rw[if_pos c2,if_pos (by omega)]
   ·rw[if_neg c2,if_neg (by omega)]
 ·rw[decide_eq_true h1,decide_eq_false h2];refine aa (z:=true) rfl (fH ?_);refine aa (z:=.bool true) (by rw[dc,decide_eq_true h1]) (aa (z:=true) rfl (fH ?_))
  unfold bq;rw[if_pos (by omega)]
 ·rw[decide_eq_false h1,decide_eq_true h2];refine aa (z:=true) rfl (fH ?_);refine aa (z:=.bool false) (by rw[dc,decide_eq_false h1]) (aa (z:=false) rfl ?_)
  rw[if_neg (by decide)]
  unfold bq;rw[if_neg (by omega),if_pos (by omega)]
 ·rw[decide_eq_false h1,decide_eq_false h2];refine aa (z:=false) rfl ?_;rw[if_neg (by decide)]
  refine aa (z:=.bool false) (by rw[dc,decide_eq_false h1]) (aa (z:=false) rfl ?_)
  rw[if_neg (by decide)]
  refine aa (iP x) (aa (iP y) (aa (LK n b d) ?_));congr 2;unfold bq;by_cases c:x<y
  ·rw[if_pos c,if_pos (by omega)]
  ·rw[if_neg c,if_neg (by omega)]
   by_cases c2:x>y
   ·rw[if_pos c2,if_pos (by omega)]
   ·rw[if_neg c2,if_neg (by omega)]
def WD(n:Nat){v:V}(h1:inR v.x)(a:inR v.y)(b:inR v.z):cA (n+1033) 135 [ac v]=some (QT (RV.of v)):=by
 rw[X4];delta Kc qG;exact aa (z:=I v.x) rfl (aa (Nx n h1) (aa (z:=I v.y) rfl (aa (Nx n a) (aa (z:=I v.z) rfl (aa (Nx n b) rfl)))))
end Sy
end
noncomputable section
namespace Sy
open Go Go.Proofs Geo
def An:D:=.st [mv,am 1]
def a8:Option Rat->D
 | some q=>iO q
 | none=>An
def OW(a:Option Rat):Prop:=∀ q,a=some q->InR q
theorem OW.some{q:Rat}(h:OW (some q)):InR q:=h q rfl
def bQ{q:Rat}(h:InR q):OW (some q):=λy e=>by cases e;exact h
def gk:OW none:=λy e=>by cases e
def eV:qQ none:=λy e=>by cases e
def nZ:Option Int->Option Int->Option Rat
 | some n,some d=>if d=0 then none else some (Rat.divInt n d)
 | _,_=>none
def zi{a b:Option Int}(c:qQ a)(d:qQ b):OW (nZ a b):=by
 cases a<;>cases b<;>simp only[nZ]<;>first|exact gk|skip
 split
 ·exact gk
 ·exact bQ (dU c.some d.some (by assumption))
def yD(a b:Option Int):qQ (wi a b):=by
 cases a<;>cases b<;>simp only[wi]<;>first|exact eV|exact qf _
def lF(a b:Option Int):qQ (n7 a b):=by
 cases a<;>cases b<;>simp only[n7]<;>first|exact eV|exact qf _
def mT{x:Int}(hx:In x)(g:Int):In (x/g):=P7 hx (Int.natAbs_ediv_le_natAbs x g)
def Aj(x y:Rat):Option Rat:=
 nZ (wi (n7 (some x.num) (some ((y.den:Int)/(Nat.gcd x.den y.den:Nat)))) (n7 (some y.num) (some ((x.den:Int)/(Nat.gcd x.den y.den:Nat))))) (n7 (some ((x.den:Int)/(Nat.gcd x.den y.den:Nat))) (some (y.den:Int)))
def addW:Option Rat->Option Rat->Option Rat
 | some x,some y=>Aj x y
 | _,_=>none
def Mw(x y:Rat):Option Rat:=
 nZ (n7 (some (Rat.divInt x.num y.den).num) (some (Rat.divInt y.num x.den).num)) (n7 (some ((Rat.divInt x.num y.den).den:Int)) (some ((Rat.divInt y.num x.den).den:Int)))
def mulW:Option Rat->Option Rat->Option Rat
 | some x,some y=>Mw x y
 | _,_=>none
def FK(a:Option Rat):Option Rat:=a.map (λx=>-x)
def Ja(a b:Option Rat):Option Rat:=addW a (FK b)
def yS(a b:Option Rat):Option Rat:=b.elim none λy=>mulW a (nZ (some (y.den:Int)) (some y.num))
def li(a b:Option Rat):OW (addW a b):=by
 cases a<;>cases b<;>simp only[addW]<;>first|exact gk|exact zi (yD _ _) (lF _ _)
def tT(a b:Option Rat):OW (mulW a b):=by
 cases a<;>cases b<;>simp only[mulW]<;>first|exact gk|exact zi (lF _ _) (lF _ _)
def Eu{a:Option Rat}(h:OW a):OW (FK a):=by
 cases a with
 | none=>exact gk
 | some x=>exact bQ ⟨aH.2 (by rw[Rat.neg_num,z3b];exact aH.1 h.some.1),h.some.2⟩
def EP(a b:Option Rat):OW (Ja a b):=li _ _
def D2(a b:Option Rat):OW (yS a b):=by
 cases b with
 | none=>exact gk
 | some y=>exact tT _ _
def kH{a b:Option Int}{z:Int}(h:n7 a b=some z):∃ x y,a=some x/\b=some y/\z=x*y/\In z:=by
 have c:=lF a b z h;cases a<;>cases b<;>simp only[n7,fA] at h<;>try cases h
 all_goals simp_all
def E4{a b:Option Int}{z:Int}(h:wi a b=some z):∃ x y,a=some x/\b=some y/\z=x+y/\In z:=by
 have c:=yD a b z h;cases a<;>cases b<;>simp only[wi,fA] at h<;>try cases h
 all_goals simp_all
def xH{a b:Option Int}{z:Rat}(h:nZ a b=some z):∃ x y,a=some x/\b=some y/\y≠0/\z=Rat.divInt x y:=by
 cases a<;>cases b<;>simp only[nZ] at h<;>try cases h
 all_goals simp_all
def EQ(x y:Rat):∃ g a b:Nat,g=Nat.gcd x.den y.den/\0<g/\x.den=g*a/\y.den=g*b/\0<a/\0<b/\(x.den:Int)/(Nat.gcd x.den y.den:Nat)=a/\(y.den:Int)/(Nat.gcd x.den y.den:Nat)=b:=by
 obtain⟨g,c⟩:∃ g,g=Nat.gcd x.den y.den:=⟨_,rfl⟩;have i:=x.den_pos;have hyp:=y.den_pos;have f:0<g:=by simp_all
 obtain⟨a,d⟩:g ∣ x.den:=c ▸ zob _ _;obtain⟨b,e⟩:g ∣ y.den:=c ▸ zIb _ _;have g0:(g:Int)≠0:=by omega
 refine⟨g,a,b,c,f,d,e,Nat.pos_of_ne_zero λh=>by rw[h] at d;omega,Nat.pos_of_ne_zero λh=>by rw[h] at e;omega,?_,?_⟩
 ·rw[<-c,d,zSa];exact zhb _ g0
 ·rw[<-c,e,zSa];exact zhb _ g0
def G8{x y z:Rat}(h:addW (some x) (some y)=some z):z=x+y:=by
 obtain⟨g,a,b,w,v,l,m,a0,u,c,d⟩:=EQ x y;simp only[addW,Aj,c,d] at h;obtain⟨p,q,hp,hq,r,rfl⟩:=xH h;obtain⟨s,t,n,o,rfl,_⟩:=E4 hp;obtain⟨_,_,h1,e,rfl,_⟩:=kH n;obtain⟨_,_,f,i,rfl,_⟩:=kH o;obtain⟨_,_,j,k,rfl,_⟩:=kH hq;cases h1;cases e;cases f;cases i;cases j;cases k;exact sf l m r
def jW{x y:Int}(h:In (x*y)):n7 (some x) (some y)=some (x*y):=nG h
def DE{x y:Int}(h:In (x+y)):wi (some x) (some y)=some (x+y):=nG h
def Ak{x y:Rat}(k:fitA x y):addW (some x) (some y)=some (x+y):=by
 obtain⟨f1,f2⟩:=k;obtain⟨g,a,b,n,e,i,j,a0,m,f,h⟩:=EQ x y;have c:a<=x.den:=by rw[i];exact zXb _ e
 have d:b<=y.den:=by rw[j];exact zXb _ e
 have m1:x.num.natAbs*b<=x.num.natAbs*y.den:=z3a _ d;have m2:y.num.natAbs*a<=y.num.natAbs*x.den:=z3a _ c;have m3:a*y.den<=x.den*y.den:=zya _ c;have i1:In (x.num*b):=aH.2 (by rw[zHa,zra];omega)
 have i2:In (y.num*a):=aH.2 (by rw[zHa,zra];omega)
 have i3:In (x.num*b+y.num*a):=aH.2 (by
  have:=znc (x.num*b) (y.num*a);rw[zHa,zHa,zra,zra] at this;omega)
 have i4:In ((a:Int)*y.den):=aH.2 (by rw[<-zSa,zra];omega)
 have l:(a:Int)*y.den≠0:=by
  have:0<a*y.den:=Nat.mul_pos a0 y.den_pos;omega
 simp only[addW,Aj,f,h];rw[jW i1,jW i2,DE i3,jW i4];grind [nZ,sf]
theorem vh(x y:Rat):Rat.divInt x.num y.den*Rat.divInt y.num x.den=x*y:=by
 conv=>rhs;rw[<-zpb x,<-zpb y]
 rw[zac,zac,z5a (y.den:Int)]
def Iu{x y z:Rat}(h:mulW (some x) (some y)=some z):z=x*y:=by
 simp only[mulW,Mw] at h;obtain⟨p,q,hp,hq,e,rfl⟩:=xH h;obtain⟨_,_,a,b,rfl,_⟩:=kH hp;obtain⟨_,_,c,d,rfl,_⟩:=kH hq;all_goals grind [Rat.divInt_mul_divInt,Rat.num_divInt_den,vh]
def It{x y:Rat}(c:fitM x y):mulW (some x) (some y)=some (x*y):=by
 obtain⟨f1,f2⟩:=c;obtain⟨d,a⟩:=nv x.num (dG y);obtain⟨f,b⟩:=nv y.num (dG x);rw[zra] at a b;have e:=vh x y;simp only[mulW,Mw];generalize Rat.divInt x.num y.den=P at *;generalize Rat.divInt y.num x.den=Q at *;have i1:In (P.num*Q.num):=aH.2 (by rw[zHa];exact zNa (zUa d f) f1)
 have i2:In ((P.den:Int)*Q.den):=aH.2 (by
  rw[<-zSa,zra];exact zNa (zUa a b) (by rw[zGa];exact f2))
 rw[jW i1,jW i2];simp only[nZ];rw[if_neg (zrc (dG P) (dG Q)),<-zac,zpb,zpb,e]
def Qm(n:Nat):cA (n+1) 139 [mv]=some (.bool true):=by
 rw[Pw];delta EZ qG qB qC qT qN qZ iL iR Jn;refine bF (λi s=>s=[.bool true,I (i:Int)]) 16 0 (zja _) rfl (λi b s a=>?_) (λs a=>?_)
 ·subst a;left;refine⟨_,?_,rfl⟩;refine aa af (aa ab (aB (by show(i:Int)<16;omega) (aa ab (aa (z:=true) ?_ (aa (aw (ay (i:=i) (by omega))) rfl)))))
  rw[if_pos rfl];refine aa (ap b) (aa (z:=.int .u32 0) ?_ rfl);have c:D.get mv [2,i]=D.get (LM 0) [i]:=rfl;rw[c,bz _ b,jh]
 ·subst a;refine⟨(0,[.bool true]),aa af (aa ab (aC (by decide) rfl)),?_⟩
  exact aa (z:=.bool true) rfl (aa (z:=true) rfl (fH (aa (z:=true) rfl (aa (z:=true) rfl rfl))))
def QI(n:Nat){a:Option Int}(b:qQ a):cA (n+2) 76 [dH a]=some (.bool a.isSome):=by
 cases a with
 | some x=>exact B9 n b.some
 | none=>rw[Zd];delta PK qG qT;exact aa (Qm n) (aa (z:=true) rfl (aa (z:=false) rfl rfl))
def Pg{n f:Nat}{a b:Option Int}{e:Option Int->D}(h:(a.isSome&&b.isSome)=false)(c:cA n f [e b]=some (.bool b.isSome)) :
  (if(!a.isSome)=true then some true else Option.bind (cA n f [e b]) λr=>Option.bind (D.un .not r) λx=>D.truth x)=some true:=by
 cases hA:a.isSome with
 | false=>rfl
 | true=>
  rw[hA] at h;have:b.isSome=false:=by simpa using h
  rw[if_neg (by decide),c,this];rfl
def c84(n:Nat):cA (n+5) 84 []=some An:=by
 rw[u84];unfold Sv;exact aa (WC (n+3)) (aa (On n) rfl)
def QL(n:Nat){a:Option Rat}(b:OW a):cA (n+5) 88 [a8 a]=some (.bool a.isSome):=by
 cases a with
 | some q=>exact c88 n b.some
 | none=>
  rw[PP];delta Lx qG qC qT qN Jn;exact aa (z:=mv) rfl (aa (QI (n+2) (a:=none) eV) (aa (z:=.bool true) rfl (aa (z:=true) rfl (aa (z:=true) rfl (aa (z:=true) rfl rfl)))))
def oA{a b:Option Rat}:(a.isSome&&b.isSome)=false\/∃ x y,a=some x/\b=some y:=by
 cases a<;>cases b<;>simp
def Ez{n f:Nat}{a b:Option Rat}(h:(a.isSome&&b.isSome)=false)(c:cA n f [a8 b]=some (.bool b.isSome)) :
  (if(!a.isSome)=true then some true else Option.bind (cA n f [a8 b]) λr=>Option.bind (D.un .not r) λx=>D.truth x)=some true:=by
 cases hA:a.isSome with
 | false=>rfl
 | true=>
  rw[hA] at h;have:b.isSome=false:=by simpa using h
  rw[if_neg (by decide),c,this];rfl
def OX{x y:Rat}(hx:InR x):In ((Nat.gcd x.den y.den:Nat):Int):=oH.2 (zNa (Nat.gcd_le_left _ x.den_pos) (oH.1 hx.2))
def tS{x d:Int}(h:d≠0):nZ (some x) (some d)=some (Rat.divInt x d):=by simp only[nZ];rw[if_neg h]
end Sy
end
noncomputable section
namespace Sy
open Go Go.Proofs Geo
end Sy
end
noncomputable section
namespace Sy
open Go Go.Proofs Geo
def W2(n:Nat){q:Rat}(h:InR q):cA (n+1031) 357 [iO q]=some (iO (-q)):=by
 rw[RC];delta GV qG qN;refine aa (Ql n h) (aa (z:=.bool false) rfl (aa (z:=false) rfl ?_));rw[if_neg (by decide)]
 exact aa (z:=am q.num) rfl (aa (z:=am (-q.num)) (OC (n+1027) (a:=some q.num) (λx hx=>by cases hx;exact h.1)) (aa (z:=am (q.den:Int)) rfl rfl))
structure Way(P:List D)(z:Nat->Int):Prop where
 get:∀ i (h:i<P.length),D.get P[i] [0,2]=some (I (z i))
 le:∀ i,i<P.length->(z i).natAbs<=2^60
 len:P.length<=512
end Sy
end
noncomputable section
namespace Sy
open Go Go.Proofs Geo
def Ar(n:Nat){a:Option Int}(b:qQ a):cA (n+2) 128 [dH a]=some (.bool a.isSome):=by
 cases a with
 | some x=>exact Hk n b.some
 | none=>rw[Rv];delta GP qG qN;exact aa (z:=.bool true) rfl (aa (z:=.bool false) rfl (aa (z:=false) rfl (aa (z:=false) rfl rfl)))
def tA(n:Nat):cA (n+4) 130 []=some An:=by
 rw[XZ];unfold J8;exact aa (yG (n+2)) (aa (Hm n) rfl)
def Fc(n:Nat){a b:Option Int}(f:qQ a)(c:qQ b):cA (n+1030) 62 [dH a,dH b]=some (a8 (nZ a b)):=by
 rcases lC (a:=a) (b:=b) with h|⟨x,d,rfl,rfl⟩
 ·have e:nZ a b=none:=by cases a<;>cases b<;>simp at h<;>rfl
  rw[e,Zc];delta PJ qC qT qN Jn;exact aa (Ar (n+1027) f) (aa bn (aa ab (aa (Pg h (Ar (n+1027) c)) (aa (z:=true) rfl (aa (z:=true) rfl (aa (z:=true) rfl (fH (aa (tA (n+1025)) rfl))))))))
 ·by_cases hd:d=0
  ·subst hd;rw[Zc];delta PJ qC qT qN Jn;refine aa (Ar (n+1027) f) (aa bn (aa (z:=false) rfl (aa (z:=false) ?_ (aa (z:=false) rfl (aa (z:=true) ?_ (aa (z:=true) rfl (fH (aa (tA (n+1025)) rfl))))))))
   ·rw[if_neg (by decide)];exact aa (Ar (n+1027) c) (aa bn rfl)
   ·rw[if_neg (by decide)];exact aa (re (n+1026) c.some) rfl
  ·rw[tS hd];exact OB n f.some c.some hd
def Hr(n:Nat){x y:Int}(hx:In x)(c:In y):cA (n+3) 61 [am x,am y]=some (dH (n7 (some x) (some y))):=Zq n (a:=some x) (b:=some y) (aN hx) (aN c)
def Xg(n:Nat){x d:Int}(hx:In x)(c:In d):cA (n+1030) 62 [am x,am d]=some (a8 (nZ (some x) (some d))):=Fc n (a:=some x) (b:=some d) (aN hx) (aN c)
def fW(n:Nat){a:Option Rat}(b:OW a):cA (n+1030) 136 [a8 a]=some (.bool a.isSome):=by
 cases a with
 | some q=>exact Ql n b.some
 | none=>
  rw[Rx];delta GQ qG qB qT Jn;exact aa (z:=mv) rfl (aa (Ar (n+1027) (a:=none) eV) (aa (z:=false) rfl (aa (z:=false) rfl (aa (z:=false) rfl (aa (z:=false) rfl (aa (z:=false) rfl (aa (z:=false) rfl rfl)))))))
def As(n:Nat){a b:Option Rat}(d:OW a)(f:OW b):cA (n+1031) 173 [a8 a,a8 b]=some (a8 (addW a b)):=by
 rcases oA (a:=a) (b:=b) with h|⟨x,y,rfl,rfl⟩
 ·have e:addW a b=none:=by cases a<;>cases b<;>simp at h<;>rfl
  rw[e,Rz];delta GS qG qT qN;exact aa (fW n d) (aa bn (aa ab (aa (Ez h (fW n f)) (aa (z:=true) rfl (fH (aa (tA (n+1026)) rfl))))))
 ·have hx:=d.some;have c:=f.some;rw[Rz];delta GS qG qT qN;refine aa (fW n d) (aa bn (aa (z:=false) rfl (aa (z:=false) ?_ (aa (z:=false) rfl ?_))))
  ·rw[if_neg (by decide)];exact aa (fW n f) (aa bn rfl)
  rw[if_neg (by decide)]
  obtain⟨g,p,q,i,r,hp,hq,s,t,o,eq⟩:=EQ x y;have j:=OX (y:=y) hx;have g0:((Nat.gcd x.den y.den:Nat):Int)≠0:=by rw[<-i];omega
  have h1:=Fb (n+1) hx.2 c.2;rw[zra,zra] at h1;have k:=Ck (n+1024) hx.2 j g0 ⟨p,by rw[<-i,hp,zSa]⟩
  have l:=Ck (n+1024) c.2 j g0 ⟨q,by rw[<-i,hq,zSa]⟩
  have ip:=mT hx.2 ((Nat.gcd x.den y.den:Nat):Int);have m:=mT c.2 ((Nat.gcd x.den y.den:Nat):Int);refine aa (z:=am (x.den:Int)) rfl (aa (z:=am (y.den:Int)) rfl (aa h1 ?_));refine aa (z:=am (x.den:Int)) rfl (aa k (aa (z:=am (y.den:Int)) rfl (aa l (aa (z:=am x.num) rfl (aa (Hr (n+1027) hx.1 m) (aa (z:=am y.num) rfl (aa (Hr (n+1027) c.1 ip) (aa (Zp (n+1026) (lF _ _) (lF _ _)) (aa (z:=am (y.den:Int)) rfl (aa (Hr (n+1027) ip c.2) ?_))))))))));exact aa (Fc n (yD _ _) (lF _ _)) rfl
def DQ(n:Nat){a b:Option Rat}(g:OW a)(i:OW b):cA (n+1031) 174 [a8 a,a8 b]=some (a8 (mulW a b)):=by
 rcases oA (a:=a) (b:=b) with h|⟨x,y,rfl,rfl⟩
 ·have e:mulW a b=none:=by cases a<;>cases b<;>simp at h<;>rfl
  rw[e,RA];delta GT qG qT qN;exact aa (fW n g) (aa bn (aa ab (aa (Ez h (fW n i)) (aa (z:=true) rfl (fH (aa (tA (n+1026)) rfl))))))
 ·have hx:=g.some;have f:=i.some;rw[RA];delta GT qG qT qN;refine aa (fW n g) (aa bn (aa (z:=false) rfl (aa (z:=false) ?_ (aa (z:=false) rfl ?_))))
  ·rw[if_neg (by decide)];exact aa (fW n i) (aa bn rfl)
  rw[if_neg (by decide)]
  obtain⟨v1,v2⟩:=yT x.num (dG y);obtain⟨w1,k⟩:=yT y.num (dG x);rw[zra] at v2 k;have r1:=dU hx.1 f.2 (dG y);have j:=dU f.1 hx.2 (dG x);refine aa (z:=am x.num) rfl (aa (z:=am (y.den:Int)) rfl (aa (OB n hx.1 f.2 (dG y)) (aa (z:=am y.num) rfl (aa (z:=am (x.den:Int)) rfl (aa (OB n f.1 hx.2 (dG x)) ?_)))));simp only[mulW,Mw];generalize Rat.divInt x.num y.den=P at *;generalize Rat.divInt y.num x.den=Q at *;refine aa (z:=am P.num) rfl (aa (z:=am Q.num) rfl (aa (Hr (n+1027) r1.1 j.1) (aa (z:=am (P.den:Int)) rfl (aa (z:=am (Q.den:Int)) rfl (aa (Hr (n+1027) r1.2 j.2) ?_)))));have c:0<(P.den:Int)*Q.den:=by
   have:=Nat.mul_pos P.den_pos Q.den_pos;rw[<-zSa];omega
  have c1:Nat.Coprime P.num.natAbs P.den:=P.reduced;have c2:Nat.Coprime Q.num.natAbs Q.den:=Q.reduced;have l:Nat.Coprime P.num.natAbs Q.den:=Nat.Coprime.coprime_dvd_left v1 (Nat.Coprime.coprime_dvd_right k x.reduced);have m:Nat.Coprime Q.num.natAbs P.den:=Nat.Coprime.coprime_dvd_left w1 (Nat.Coprime.coprime_dvd_right v2 y.reduced);have d:Nat.gcd (P.num*Q.num).natAbs ((P.den:Int)*Q.den).natAbs=1:=by
   rw[zHa,<-zSa,zra];exact Nat.Coprime.mul_left (Nat.Coprime.mul_right c1 l) (Nat.Coprime.mul_right m c2)
  obtain⟨o,z2⟩:=Ct c d;simp only[n7,fA];by_cases t1:(P.num*Q.num).natAbs<ew
  ·rw[if_pos t1];by_cases t2:((P.den:Int)*Q.den).natAbs<ew
   ·rw[if_pos t2];refine aa (z:=.bool false) rfl (aa (z:=false) rfl (aa (z:=false) ?_ (aa (z:=false) rfl ?_)))
    ·rw[if_neg (by decide)]
     exact aa (z:=.bool false) rfl rfl
    rw[if_neg (by decide),tS (by omega)]
    show some (D.st [am (P.num*Q.num),am ((P.den:Int)*Q.den)])=some (D.st [am (Rat.divInt (P.num*Q.num) ((P.den:Int)*Q.den)).num,am ((Rat.divInt (P.num*Q.num) ((P.den:Int)*Q.den)).den:Int)]);rw[o,z2]
   ·rw[if_neg t2];refine aa (z:=.bool false) rfl (aa (z:=false) rfl (aa (z:=true) ?_ (aa (z:=true) rfl (fH (aa (tA (n+1026)) rfl)))));rw[if_neg (by decide)]
    exact aa (z:=.bool true) rfl rfl
  ·rw[if_neg t1];exact aa (z:=.bool true) rfl (aa (z:=true) rfl (aa (z:=true) rfl (aa (z:=true) rfl (fH (aa (tA (n+1026)) rfl)))))
def Ho(n:Nat){a:Option Rat}(b:OW a):cA (n+1031) 357 [a8 a]=some (a8 (FK a)):=by
 cases a with
 | some q=>exact W2 n b.some
 | none=>rw[RC];delta GV qG qN;exact aa (fW n b) (aa bn (aa (z:=true) rfl (fH (aa (tA (n+1026)) rfl))))
def Nv(n:Nat){a b:Option Rat}(d:OW a)(c:OW b):cA (n+1032) 336 [a8 a,a8 b]=some (a8 (Ja a b)):=by
 rw[YE];unfold KL;exact aa (Ho n c) (aa (As n d (Eu c)) rfl)
def Hn(n:Nat){a b:Option Rat}(d:OW a)(c:OW b):cA (n+1032) 352 [a8 a,a8 b]=some (a8 (yS a b)):=by
 rw[YI];delta KP qG qN;cases b with
 | none=>exact aa (fW (n+1) c) (aa bn (aa (z:=true) rfl (fH (aa (tA (n+1027)) rfl))))
 | some y=>
  refine aa (fW (n+1) c) (aa bn (aa (z:=false) rfl ?_));rw[if_neg (by decide)]
  exact aa (z:=am (y.den:Int)) rfl (aa (z:=am y.num) rfl (aa (Xg (n+1) c.some.2 c.some.1) (aa (DQ n d (zi (aN c.some.2) (aN c.some.1))) rfl)))
def EL:Option Rat->Int
 | some q=>sg q.num
 | none=>0
def Ow(n:Nat){a:Option Rat}(h:OW a):cA (n+1031) 342 [a8 a]=some (I (EL a)):=by
 rw[YF];delta KM qG qN Jn;cases a with
 | none=>exact aa (fW n h) (aa bn (aa (z:=true) rfl (fH rfl)))
 | some q=>
  refine aa (fW n h) (aa bn (aa (z:=false) rfl ?_));rw[if_neg (by decide)]
  exact aa (z:=am q.num) rfl (aa (re (n+1027) h.some.1) rfl)
def Nu(n:Nat){a:Option Rat}(h:OW a):cA (n+6) 322 [a8 a]=some (I (EL a)):=by
 rw[YB];delta KI qG qN Jn;cases a with
 | none=>exact aa (QL n h) (aa bn (aa (z:=true) rfl (fH rfl)))
 | some q=>
  refine aa (QL n h) (aa bn (aa (z:=false) rfl ?_));rw[if_neg (by decide)]
  exact aa (z:=am q.num) rfl (aa (QJ (n+2) h.some.1) rfl)
end Sy
end
noncomputable section
namespace Sy
open Go Go.Proofs Geo
end Sy
end
noncomputable section
namespace Sy
open Go Go.Proofs Geo
theorem zg{body:Bd}{m:Nat}{r0:List D}(ok:Nat->Bool)(h:∀ i,i<m->body [I (i:Int)]=some (if ok i then .inl [I ((i+1:Nat):Int)] else .inr (0,r0)))(he:body [I (m:Int)]=some (.inr (1,[]))) :
  ∀ d j,j+d=m->aS body [I (j:Int)]=some (if((List.range d).all λt=>ok (j+t)) then(1,[]) else(0,r0))
 | 0,j,b=>by
  have b:j=m:=by omega
  subst b;exact(cU he:aS body [I (j:Int)]=some (1,[]))
 | d+1,j,b=>by
  have ih:=zg ok h he d (j+1) (by omega)
  have a:=h j (by omega)
  rw[List.range_succ_eq_map];simp only[zRb,List.all_map,z6b,Function.comp_def];cases hok:ok j with
  | false=>
   rw[hok] at a;exact(cU a:aS body [I (j:Int)]=some (0,r0))
  | true=>
   rw[hok] at a;rw[show aS body [I (j:Int)]=aS body [I ((j+1:Nat):Int)] from c8 a,ih];simp only[zsb,Nat.succ_eq_add_one,zGb,zJc 1]
def tF(m:Int)(x:Int):Bool:=decide (-m<x)&&decide (x<m)
def bV(v:V)(i:Nat):Int:=if i=0 then v.x else if i=1 then v.y else v.z
def HX{v:V}{i:Nat}(h:i<3):D.get (ac v) [i]=some (I (bV v i)):=by
 have:i=0\/i=1\/i=2:=by omega
 rcases this with rfl|rfl|rfl<;>rfl
end Sy
end
noncomputable section
namespace Sy
open Go Go.Proofs Geo
def W3(n:Nat){a b:Int}(c:a.natAbs<=9223372036854775807)(d:b.natAbs<=9223372036854775807):cA (n+1) 364 [I a,I b]=some (I (Nat.gcd a.natAbs b.natAbs:Nat)):=by
 rw[YJ,show KQ aS (cA n) (I a) (I b)=GR aS (cA n) (I a) (I b) from rfl,<-Ry];exact Oo n c d
def W4(n:Nat)(a:Int):cA (n+1) 365 [I a]=some (I (sg a)):=by
 rw[YK];delta KR qC Jn;refine aa af (aa ab ?_);by_cases h:a<0
 ·refine aB h ?_;rw[show sg a=-1 by unfold sg;rw[if_pos h]]
 ·refine aC h ?_;by_cases h0:0<a
  ·rw[show sg a=1 by unfold sg;rw[if_neg h,if_pos h0]]
   have e:D.min2 (I a) (I 1)=some (I 1):=by
    simp only[D.min2];split
    ·rfl
    ·rw[show a=1 by omega]
   exact aa e rfl
  ·have b:a=0:=by omega
   subst b;rfl
def lv(q:Nat->Int):D:=.st [I (q 0),I (q 1),I (q 2),I (q 3)]
def xn{q:Nat->Int}{i:Nat}(h:i<4):D.get (lv q) [i]=some (I (q i)):=by
 have:i=0\/i=1\/i=2\/i=3:=by omega
 rcases this with rfl|rfl|rfl|rfl<;>rfl
def FC(q:Nat->Int):Bool:=(List.range 4).all λt=>tF 65 (q (0+t))
def Eh{q:Nat->Int}(h:FC q=true):∀ i,i<4->(q i).natAbs<=64:=by
 intro i a;have:=zma.1 h i (zLa.2 a);simp only[tF,zaa,decide_eq_true_eq,zWa] at this;omega
def WZ(n:Nat)(q:Nat->Int):cA (n+1) 348 [lv q]=some (.bool (FC q)):=by
 rw[YG];delta KN qB qC qT qJ qZ iL iR Jn;refine oW (r:=if FC q then(1,[]) else(0,[.bool false])) (zg (m:=4) (λi=>tF 65 (q i)) (λi d=>?_) ?_ 4 0 rfl) ?_
 ·have c:D.idx (I (i:Int)) 4=some i:=ap d;refine aa af (aa ab (aB (by show(i:Int)<4;omega) ?_))
  have hx:=xn (q:=q) d;refine aa c (aa hx ?_);generalize q i=x at *;by_cases h1:x>64
  ·have e:tF 65 x=false:=by simp[tF];omega
   refine aa (z:=.bool true) (by simp[D.bin,h1]) (aa (z:=true) rfl (aa (z:=true) rfl (aa (z:=true) rfl ?_)))
   rw[if_pos rfl,e];rfl
  ·refine aa (z:=.bool false) (by simp[D.bin,h1]) (aa (z:=false) rfl ?_)
   by_cases h2:x < -64
   ·have e:tF 65 x=false:=by simp[tF];omega
    refine aa (z:=true) ?_ (aa (z:=true) rfl ?_)
    ·rw[if_neg (by decide)]
     exact aa c (aa hx (aa (z:=.bool true) (by simp[D.bin,h2]) rfl))
    ·rw[if_pos rfl,e];rfl
   ·have e:tF 65 x=true:=by simp[tF];omega
    refine aa (z:=false) ?_ (aa (z:=false) rfl ?_)
    ·rw[if_neg (by decide)]
     exact aa c (aa hx (aa (z:=.bool false) (by simp[D.bin,h2]) rfl))
    ·rw[if_neg (by decide),e]
     exact aa (aL (a:=i) (b:=1) (by omega)) rfl
 ·exact aa af (aa ab (aC (by decide) rfl))
 ·cases FC q<;>rfl
end Sy
end
noncomputable section
namespace Sy
open Go Go.Proofs Geo
def Pc{body:Bd}{s0:List D}{k:Nat×List D->Option D}{Q:D->Prop}(h:∃ r,aS body s0=some r/\∃ y,k r=some y/\Q y):∃ y,Option.bind (aS body s0) k=some y/\Q y:=by
 obtain⟨r,h1,y,a,b⟩:=h;exact⟨y,oW h1 a,b⟩
def dM{α β:Type}{A:Option α}{g:α->Option β}{Q:β->Prop}{z:α}(h:A=some z)(hk:∃ y,g z=some y/\Q y):∃ y,Option.bind A g=some y/\Q y:=by
 subst h;exact hk
theorem QP{body:Bd}{q:Nat->Int}(h1:∀ (g s:Int) (k:Nat),k<4->0<=g->g<=64->s.natAbs<=1->∃ a s':Int,body [I g,I s,I (k:Int)]=some (.inl [I a,I s',I ((k:Int)-1)])/\0<=a/\a<=64/\s'.natAbs<=1/\(s'≠0->s≠0\/q k≠0))
  (d:∀ g s:Int,body [I g,I s,I (-1)]=some (.inr (0,[I g,I s]))):∀ (c:Nat),c<=4->∀ g s:Int,0<=g->g<=64->s.natAbs<=1->(s≠0->∃ i,i<4/\q i≠0) ->
   ∃ a s':Int,aS body [I g,I s,I ((c:Int)-1)]=some (0,[I a,I s'])/\0<=a/\a<=64/\s'.natAbs<=1/\(s'≠0->∃ i,i<4/\q i≠0)
 | 0,_,g,s,g0,g1,s1,b=>⟨g,s,cU (d g s),g0,g1,s1,b⟩
 | c+1,hc,g,s,g0,g1,s1,b=>by
  obtain⟨a,s',j,l,m,n,o⟩:=h1 g s c (by omega) g0 g1 s1
  obtain⟨g2,s2,e,f⟩:=QP h1 d c (by omega) a s' l m n (λh=>(o h).elim b (λh=>⟨c,by omega,h⟩))
  refine⟨g2,s2,?_,f⟩;rw[show(((c+1:Nat):Int)-1)=(c:Int) by omega]
  exact(c8 j).trans e
def QO{body:Bd}{q:Nat->Int}{k:Nat×List D->Option D}{Q:D->Prop}(h1:∀ (g s:Int) (k:Nat),k<4->0<=g->g<=64->s.natAbs<=1->∃ a s':Int,body [I g,I s,I (k:Int)]=some (.inl [I a,I s',I ((k:Int)-1)])/\0<=a/\a<=64/\s'.natAbs<=1/\(s'≠0->s≠0\/q k≠0))
  (b:∀ g s:Int,body [I g,I s,I (-1)]=some (.inr (0,[I g,I s]))) (c:∀ g s:Int,0<=g->g<=64->s.natAbs<=1->(s≠0->∃ i,i<4/\q i≠0)->∃ y,k (0,[I g,I s])=some y/\Q y):∃ y,Option.bind (aS body [I 0,I 0,I 3]) k=some y/\Q y:=by
 obtain⟨g,s,e,g0,g1,s1,d⟩:=QP h1 b 4 (zfa _) 0 0 (by decide) (by decide) (by decide) (λh=>absurd rfl h)
 exact Pc ⟨_,e,c g s g0 g1 s1 d⟩
def W0(n:Nat){q:Nat->Int}(hq:∀ i,i<4->(q i).natAbs<=64):∃ r,cA (n+2) 349 [lv q]=some r/\∃ y b,r=.tup [y,.bool b]/\(b=true->∃ i,i<4/\q i≠0):=by
 rw[YH];delta KO qG qB qC qT qJ qZ iL iR Jn;refine QO (q:=q) (λg s k hk g0 g1 s1=>?_) (λg s=>aa (z:=.bool false) rfl (aa (z:=false) rfl rfl)) (λg s g0 g1 s1 t=>?_)
 ·have c:D.idx (I (k:Int)) 4=some k:=ap hk;have hx:=xn (q:=q) hk;have d:=hq k hk;have o:=W3 (n) (a:=g) (b:=q k) (by omega) (by omega)
  have m:Nat.gcd g.natAbs (q k).natAbs<=64:=rE (by omega) d
  refine⟨((Nat.gcd g.natAbs (q k).natAbs:Nat):Int),if q k=0 then s else sg (q k),aa (z:=.bool true) (by simp[D.bin]) (aa (z:=true) rfl (fH (aa (z:=(0,[I ((Nat.gcd g.natAbs (q k).natAbs:Nat):Int),I (if q k=0 then s else sg (q k))])) (aa c (aa hx (aa o (aa c (aa hx ?_))))) (aa (z:=I ((k:Int)-1)) ?_ rfl)))),by omega,by omega,?_,?_⟩
  ·by_cases h:q k=0
   ·rw[h];exact aa (z:=false) rfl rfl
   ·rw[if_neg h];refine aa (z:=true) (by rw[bR];simp[h,D.truth]) (fH (aa c (aa hx (aa (W4 n (q k)) rfl))))
  ·have:k=0\/k=1\/k=2\/k=3:=by omega
   rcases this with rfl|rfl|rfl|rfl<;>rfl
  ·split
   ·exact s1
   ·unfold sg;split<;>(try split)<;>decide
  ·intro h;by_cases h0:q k=0
   ·left;rw[if_pos h0] at h;exact h
   ·exact .inr h0
 ·have ms:(s*g).natAbs<=64:=by
   have:=zUa s1 (show g.natAbs<=64 by omega)
   rwa [<-zHa,zUc] at this
  refine dM (oE (a:=g) (by simp only[inR];omega)) (dM (z:=I g) ((Em (a:=g) (b:=-g)).trans (by congr 2;omega)) (dM (cz (a:=s) (b:=g) (by simp only[inR];omega)) ?_))
  by_cases h:s*g=0
  ·rw[h];exact dM (z:=true) rfl ⟨_,rfl,_,false,rfl,λh=>by cases h⟩
  ·have p:s≠0:=λh0=>h (by rw[h0,z2b])
   refine dM (z:=false) (by rw[bR,decide_eq_false h];rfl) ?_
   have qq:∀ x:Int,∃ z,D.bin .quo (I x) (I (s*g))=some z:=λx=>⟨D.int .i64 (IntKind.i64.wrap (x.tdiv (s*g))),by simp only[D.bin,if_true,if_neg h]⟩
   obtain⟨z0,e⟩:=qq (q 0);obtain⟨u,f⟩:=qq (q 1);obtain⟨z2,j⟩:=qq (q 2);obtain⟨z3,l⟩:=qq (q 3);rw[if_neg (by decide)]
   exact dM (xn (i:=0) (by decide)) (dM e (dM (xn (i:=1) (by decide)) (dM f (dM (xn (i:=2) (by decide)) (dM j (dM (xn (i:=3) (by decide)) (dM l ⟨_,rfl,_,true,rfl,λ_=>t p⟩)))))))
end Sy
end
noncomputable section
namespace Sy
open Go Go.Proofs Geo
def WY(n:Nat)(q:Nat->Int):∃ v:Bool,cA (n+3) 331 [lv q]=some (.bool v)/\(v=true->FC q=true/\∃ i,i<4/\q i≠0):=by
 rw[YC];delta KJ qT qN;have a:=WZ (n+1) q;cases hl:FC q with
 | false=>
  rw[hl] at a;exact⟨false,aa a (aa (z:=.bool true) rfl (aa (z:=true) rfl (fH rfl))),λh=>by cases h⟩
 | true=>
  rw[hl] at a;obtain⟨r,h1,y,b,rfl,c⟩:=W0 n (Eh hl);cases b with
  | false=>
   refine⟨false,aa a (aa (z:=.bool false) rfl (aa (z:=false) rfl ?_)),λh=>by cases h⟩
   rw[if_neg (by decide)]
   exact aa h1 (aa (z:=y) rfl (aa (z:=.bool false) rfl (aa (z:=false) rfl (aa (z:=false) rfl rfl))))
  | true=>
   refine⟨D.beq y (lv q),aa a (aa (z:=.bool false) rfl (aa (z:=false) rfl ?_)),λ_=>⟨rfl,c rfl⟩⟩;rw[if_neg (by decide)]
   exact aa h1 (aa (z:=y) rfl (aa (z:=.bool true) rfl (aa (z:=true) rfl (aa (z:=D.beq y (lv q)) (fH rfl) rfl))))
def cZ(x:V)(q:Nat->Int):D:=.st [ac x,lv q]
end Sy
end
noncomputable section
namespace Sy
open Go Go.Proofs Geo
end Sy
end
noncomputable section
namespace Sy
open Go Go.Proofs Geo
end Sy
end
noncomputable section
namespace Sy
open Go Go.Proofs Geo
structure Bdy where
 nm:ByteArray
 P:List (List V)
 m0:Int
 m1:Int
 r0:Int
 r1:Int
def L3{v:V}{k:Int}(h:∀ t,t<3->bV v t<=k/\-k<=bV v t):bd k v:=by
 have a:=h 0 (by decide);have b:=h 1 (by decide);have c:=h 2 (by decide)
 simp only[bV,if_true,if_false,Nat.one_ne_zero,Nat.reduceEqDiff] at a b c;exact⟨⟨a.2,a.1⟩,⟨b.2,b.1⟩,⟨c.2,c.1⟩⟩
def pT{v:V}{i:Nat}(h:i<3):D.fld (ac v) i=some (I (bV v i)):=by
 have:i=0\/i=1\/i=2:=by omega
 rcases this with rfl|rfl|rfl<;>rfl
structure Hul(l:List V):Prop where
 len:l.length<=64
 bd:∀ x∈l,bd MV x
 srt:G6 l
 vtx:∀ k,k<l.length->Nm (pt l) l.length k
 ex:∃ m d,IsF (pt l) l.length m d
def WN(n:Nat){l:List V}(h:l.length<=100):(∃ e:Int,cA (n+9) 15 [bZ l]=some (I e)/\e≠0)\/(cA (n+9) 15 [bZ l]=some (I 0)/\Hul l):=by
 rcases c15 n (l:=l) h with⟨e,h1,a⟩|⟨h1,a,m,F,b,d,_,c⟩
 ·exact .inl ⟨e,h1,a⟩
 ·right;have g:=List.Pairwise.sublist (Gr (eG l) F) (vP l);rw[c] at g;have i:=I9 g;rw[MX g] at b c;refine⟨h1,a,m,i,λk hk=>?_,?_⟩
  ·refine H2 i b.fok ?_;have e:=congrArg List.length c;unfold dK at e;rw[zsa] at e;have j:((List.range l.length).filter (ku F)).length=(List.range l.length).length:=by rw[e,zub]
   exact List.length_filter_eq_length_iff.1 j k (zLa.2 hk)
  ·obtain⟨f,o⟩:∃ f,f∈F:=List.exists_mem_of_ne_nil F (λe=>d (by rw[e];rfl))
   exact⟨_,_,(b.fok.ok f o).1⟩
def Hul.pos{l:List V}(h:Hul l):0<l.length:=by
 obtain⟨m,d,a⟩:=h.ex;obtain⟨i,j,k,h1,b,c,_⟩:=a.ex;omega
end Sy
end
noncomputable section
namespace Sy
open Go Go.Proofs Geo
def Pe(p:List Nat)(a b i:Nat):Bool:=(decide (p.getD i 0=a)&&decide (p.getD ((i+1)%p.length) 0=b))||(decide (p.getD i 0=b)&&decide (p.getD ((i+1)%p.length) 0=a))
def JG(p:List Nat)(a b t:Nat):Bool:=(List.range t).any (Pe p a b)
def nY(F:FL)(a b:Nat):Bool:=F.any λf=>JG f.2 a b f.2.length
def lN(F:FL)(a b:Nat):List (Nat×Nat):=((List.range b).filter λc=>decide (a<c)&&nY F a c).map λc=>(a,c)
def mc(F:FL)(N a:Nat):List (Nat×Nat):=(List.range a).flatMap λa=>lN F a N
def H8(p:List Nat)(a b t:Nat):JG p a b (t+1)=(JG p a b t||Pe p a b t):=by
 unfold JG;rw[z5b,z3c];simp
def Gc(F:FL){a b:Nat}(h:a<b):lN F a (b+1)=if nY F a b then lN F a b++[(a,b)] else lN F a b:=by
 unfold lN;rw[z5b,List.filter_append];by_cases k:nY F a b=true<;>simp[h,k]
def IX(F:FL)(a:Nat):lN F a (a+1)=[]:=by
 unfold lN;rw[List.map_eq_nil_iff,List.filter_eq_nil_iff];intro c hc;have:=zLa.1 hc;simp;omega
def BI(F:FL)(a b:Nat):(lN F a b).length<=b:=by
 unfold lN;rw[zsa];exact zEa (zKc _ _) (by simp)
def wP(F:FL)(N a:Nat):mc F N (a+1)=mc F N a++lN F a N:=by
 unfold mc;rw[z5b,List.flatMap_append];simp
def ue(F:FL)(N a:Nat):(mc F N a).length<=a*N:=by
 induction a with
 | zero=>simp[mc]
 | succ a ih=>rw[wP,zua,Nat.succ_mul];have:=BI F a N;omega
def vc{F:FL}{N:Nat}{e:Nat×Nat}:e∈mc F N N↔e.1<N/\e.2<N/\e.1<e.2/\nY F e.1 e.2=true:=by
 obtain⟨a,b⟩:=e;simp only[mc,lN,zib,zLa,zXa,zxb,zaa,decide_eq_true_eq,Prod.mk.injEq];constructor
 ·rintro⟨c,hc,d,⟨i,h1,f⟩,rfl,rfl⟩;exact⟨hc,i,h1,f⟩
 ·rintro⟨h1,f,g,h⟩;exact⟨a,h1,b,⟨f,g,h⟩,rfl,rfl⟩
def G9(F:FL)(N:Nat):(mc F N N).Pairwise Bu:=by
 unfold mc;rw[List.pairwise_flatMap];refine⟨λa _=>?_,?_⟩
 ·unfold lN;refine zsd.2 ((List.Pairwise.filter _ List.pairwise_lt_range).imp λh=>.inr ⟨rfl,h⟩)
 ·refine List.pairwise_lt_range.imp λ{a b} h x hx y e=>?_;simp only[lN,zXa] at hx e;obtain⟨c,_,rfl⟩:=hx;obtain⟨d,_,rfl⟩:=e;exact .inl h
def Wt{M:List (Nat×Nat)}(e:Nat×Nat):D.sl (M.map du++[du e])=.sl ((M++[e]).map du):=by simp
def jt(M:List (Nat×Nat)):(M.map du).length=M.length:=zsa ..
def c22(n:Nat){l:List V}(hlen:l.length<=100){F:FL}(T:F.length<=3000000)(hp:∀ f∈F,0<f.2.length/\f.2.length<=1000000)(h19:cA (n+1) 19 [bZ l]=some (.sl (aK F))):cA (n+2) 22 [bZ l]=some (.sl ((mc F l.length l.length).map du)):=by
 rw[u22]
 delta RU qB qT qS qX qL qM qV qW qZ iL iR Jn
 refine aa h19 ?_;refine bF (λa s=>s=[.sl ((mc F l.length a).map du),I (a:Int)]) l.length 0 (zja _) rfl (λa U s c=>?_) (λs c=>?_)
 ·subst c;left;refine⟨[.sl ((mc F l.length (a+1)).map du),I ((a+1:Nat):Int)],?_,rfl⟩;have v:(mc F l.length a).length<=10000:=zEa (ue F l.length a) (zUa (show a<=100 by omega) hlen)
  refine aa (z:=bc l) rfl (aa (z:=l.map ac) rfl (aa af (aa ab (aB (by show((a:Int)<((l.map ac).length:Int));rw[aP];omega) (aa (aw (ay (i:=a) (by omega))) ?_)))))
  rw[wP];obtain⟨M,O⟩:∃ M,mc F l.length a=M:=⟨_,rfl⟩;rw[O] at v ⊢;refine cn (λb s=>a+1<=b/\s=[.sl ((M++lN F a b).map du),I (b:Int)]) l.length (a+1) (by omega) ⟨zfa _,by rw[IX,zYb];rfl⟩ (λb J s c=>?_) (λs c=>?_)
  ·obtain⟨u,rfl⟩:=c;left;refine⟨[.sl ((M++lN F a (b+1)).map du),I ((b+1:Nat):Int)],?_,by omega,rfl⟩
   have S:=BI F a b;rw[Gc F (show a<b by omega)]
   obtain⟨R,r⟩:∃ R,M++lN F a b=R:=⟨_,rfl⟩;have P:R.length<=10100:=by rw[<-r,zua];omega
   have N:(M++if nY F a b=true then lN F a b++[(a,b)] else lN F a b)=if nY F a b=true then R++[(a,b)] else R:=by
    split
    ·rw[<-r,zIa]
    ·exact r
   rw[N,r];refine aa (z:=bc l) rfl (aa (z:=l.map ac) rfl (aa af (aa ab (aB (by show((b:Int)<((l.map ac).length:Int));rw[aP];omega) ?_))))
   refine aa (z:=(0,[.sl ((if nY F a b=true then R++[(a,b)] else R).map du)])) ?_ (aa (aw (ay (i:=b) (by omega))) rfl)
   refine cn (λk s=>s=[.sl (R.map du),.bool (nY (F.take k) a b),I (k:Int)]) F.length 0 (zja _) rfl (λk hk s c=>?_) (λs c=>?_)
   ·subst c;left;refine⟨[.sl (R.map du),.bool (nY (F.take (k+1)) a b),I ((k+1:Nat):Int)],?_,rfl⟩;obtain⟨g,w⟩:=hp F[k] (zza hk);have L:nY (F.take (k+1)) a b=(nY (F.take k) a b||JG F[k].2 a b F[k].2.length):=by
     unfold nY;rw[zAa hk,z3c];simp
    refine aa (z:=aK F) rfl (aa af (aa ab (aB (by show((k:Int)<((aK F).length:Int));rw[aY];omega) ?_)))
    refine aa (z:=aK F) rfl (aa (z:=k) (by rw[aY];exact ap hk) (aa (fo hk) (aa (z:=.sl (ag F[k].2)) rfl ?_)))
    rw[L];generalize nY (F.take k) a b=e;obtain⟨p,A⟩:∃ p,F[k].2=p:=⟨_,rfl⟩;rw[A] at g w ⊢;refine cn (λi s=>s=[.sl (R.map du),.bool (e||JG p a b i),I (i:Int)]) p.length 0 (zja _) (by rw[show JG p a b 0=false from rfl,Bool.or_false];rfl) (λi K s c=>?_) (λs c=>?_)
    ·subst c;left;refine⟨[.sl (R.map du),.bool (e||JG p a b (i+1)),I ((i+1:Nat):Int)],?_,rfl⟩;have d:(i+1)%p.length<p.length:=zVa _ g;have j:(((i:Int)+1).tmod (p.length:Int))=(((i+1)%p.length:Nat):Int):=by
      rw[show((i:Int)+1)=((i+1:Nat):Int) by omega];exact z7c ..
     have nb:∀ (x y:Nat) {X:Option Bool},X=(Option.bind (D.asSl (.sl (ag p))) λm=>
       Option.bind (D.idx (I (i:Int)) (List.length m)) λi27=>
       Option.bind (m[i27]?) λC=>
       Option.bind (D.truth (D.bool (D.beq C (I (x:Int))))) λt=>
       if t then(Option.bind (D.bin .add (I (i:Int)) (D.int .i64 1)) λE=>
       Option.bind (D.asSl (.sl (ag p))) λB=>
       Option.bind (D.bin .rem E (D.int .i64 (List.length B))) λG=>
       Option.bind (D.asSl (.sl (ag p))) λo=>
       Option.bind (D.idx G (List.length o)) λi34=>
       Option.bind (o[i34]?) λH=>
       D.truth (D.bool (D.beq H (I (y:Int))))) else(some false))->X=some (decide (p.getD i 0=x)&&decide (p.getD ((i+1)%p.length) 0=y)):=λx y X Q=>by
      rw[Q];refine aa (z:=ag p) rfl (aa (z:=i) (by rw[ao];exact ap K) (aa (gK K) ?_))
      rw[cO];refine aa ab ?_;by_cases h:p.getD i 0=x
      ·refine aB h (aa (aw (ay (i:=i) (by omega))) (aa (z:=ag p) rfl (aa (z:=I (((i+1)%p.length:Nat):Int)) (by rw[show((ag p).length:Int)=(p.length:Int) by rw[ao],mr (by omega),j]) (aa (z:=ag p) rfl (aa (z:=(i+1)%p.length) (by rw[ao];exact ap d) (aa (gK d) ?_))))))
       rw[cO,ab,decide_eq_true h,zsb]
      ·refine aC h ?_;rw[decide_eq_false h,zpd]
     refine aa (z:=ag p) rfl (aa af (aa ab (aB (by show((i:Int)<((ag p).length:Int));rw[ao];omega) (aa ab ?_))))
     rw[H8];generalize JG p a b i=q;refine aa (z:=(e||q)||(decide (p.getD i 0=a)&&decide (p.getD ((i+1)%p.length) 0=b))) ?_ (aa ab (aa (z:=e||(q||Pe p a b i)) ?_ (aa (aw (ay (i:=i) (by omega))) rfl)))
     ·cases J:(e||q)
      ·rw[show(if false=true then some true else _)=_ from if_neg (by decide),zwd]
       exact nb a b rfl
      ·rfl
     ·rw[<-Bool.or_assoc];unfold Pe;rw[<-Bool.or_assoc];cases J:(e||q||(decide (p.getD i 0=a)&&decide (p.getD ((i+1)%p.length) 0=b)))
      ·rw[show(if false=true then some true else _)=_ from if_neg (by decide),zwd]
       exact nb b a rfl
      ·rfl
    ·subst c;refine⟨(0,[.sl (R.map du),.bool (e||JG p a b p.length)]),aa (z:=ag p) rfl (aa af (aa ab (aC (by show ¬ ((p.length:Int)<((ag p).length:Int));rw[ao];omega) rfl))),?_⟩
     exact aa (aw (ay (i:=k) (by omega))) rfl
   ·subst c;rw[zfb];refine⟨(0,[.sl (R.map du),.bool (nY F a b)]),?_,?_⟩
    ·exact aa (z:=aK F) rfl (aa af (aa ab (aC (by show ¬ ((F.length:Int)<((aK F).length:Int));rw[aY];omega) rfl)))
    ·refine aa (z:=nY F a b) ab ?_;cases nY F a b
     ·rfl
     ·rw[if_pos rfl,if_pos rfl,if_pos (by show(R.map du).length+1<=1073741824;rw[jt];omega),<-Wt]
      rfl
  ·obtain⟨u,rfl⟩:=c;refine⟨(0,[.sl ((M++lN F a l.length).map du)]),?_,aa (aw (ay (i:=a) (by omega))) rfl⟩
   exact aa (z:=bc l) rfl (aa (z:=l.map ac) rfl (aa af (aa ab (aC (by show ¬ ((l.length:Int)<((l.map ac).length:Int));rw[aP];omega) rfl))))
 ·subst c;refine⟨(0,[.sl ((mc F l.length l.length).map du)]),?_,rfl⟩;exact aa (z:=bc l) rfl (aa (z:=l.map ac) rfl (aa af (aa ab (aC (by show ¬ ((l.length:Int)<((l.map ac).length:Int));rw[aP];omega) rfl))))
def Qd(n:Nat){l:List V}(hl:∀ x∈l,bd MV x)(hlen:l.length<=100)(j:G6 l):∃ (F:FL) (E:List (Nat×Nat)),F.length<=2000000/\E.length<=10000/\KnF l l.length 0 0 F ∧
  cA (n+8) 18 [bZ l]=some (.sl (aK F))/\cA (n+8) 19 [bZ l]=some (.sl (aK F))/\cA (n+9) 21 [bZ l]=some (.sl (E.map du))/\cA (n+9) 22 [bZ l]=some (.sl (E.map du))/\E=mc F l.length l.length:=by
 obtain⟨F,B,w⟩:=Zn n hl hlen j;obtain⟨L,poly,hL,D,C,h18⟩:=p18 (n+1) hl hlen j;have g:=B.fok;have A:=g.len hlen;have t:F.map Prod.fst=L:=Facets.eq B.facets hL;have o:∀ f∈F,poly f.1=f.2:=λf c=>by
  obtain⟨h,k⟩:=g.ok f c;exact bH.eq j h (D f.1 (by rw[<-t];exact zXa.2 ⟨f,c,rfl⟩)) k
 have P:(L.map λq=>nV q (poly q))=aK F:=by
  rw[<-t,List.map_map];refine zXc λf c=>?_;simp only[Function.comp_apply,o f c]
 have H:∀ f∈F,0<f.2.length/\f.2.length<=1000000:=λf c=>by
  obtain⟨h,k⟩:=g.ok f c;have:=vp j h k;omega
 have h19:cA (n+8) 19 [bZ l]=some (.sl (aK F)):=by
  rw[u19]
  delta RT qG
  exact aa (z:=bc l) rfl (aa w rfl)
 have h22:=c22 (n+7) hlen (show F.length<=3000000 by omega) H h19
 obtain⟨E,N,O,h21⟩:=p21 (n+1) h18 C (λq hq=>by
  have s:=hq;rw[<-t] at s;obtain⟨f,c,rfl⟩:=zXa.1 s;rw[o f c];obtain⟨h,k⟩:=g.ok f c;have:=vp j h k;exact⟨by omega,this.2.2.1⟩) (wL j hL D)
 have u:E=mc F l.length l.length:=by
  refine nN (r:=Bu) (λa=>by simp only[Bu];omega) (λa b=>by simp only[Bu];omega) O (G9 F l.length) λe=>?_
  obtain⟨a,b⟩:=e;rw[N.mem_iff,B4 j hL D,vc];constructor
  ·rintro⟨h1,m,d,v,p⟩;have M:=(az.1 p.2.mem).1;have K:=(az.1 p.1).1;refine⟨K,M,h1,?_⟩;have hq:(m,d)∈F.map Prod.fst:=by rw[t];exact(hL.mem (m,d)).2 v
   obtain⟨f,c,G⟩:=zXa.1 hq;obtain⟨h,k⟩:=g.ok f c;rw[G] at h k;obtain⟨i,i1,i2,i3⟩:=(bH.dir j h k).2 p;refine z0b.2 ⟨f,c,z0b.2 ⟨i,zLa.2 i1,?_⟩⟩;unfold Pe;rw[decide_eq_true i2,decide_eq_true i3];rfl
  ·rintro⟨K,M,h1,v⟩;refine⟨h1,(uD j).1 ?_⟩;obtain⟨f,c,p⟩:=z0b.1 v;obtain⟨i,i1,i2⟩:=z0b.1 p;obtain⟨h,k⟩:=g.ok f c;have i1:=zLa.1 i1;simp only[Pe,zHb,zaa,decide_eq_true_eq] at i2;refine⟨f.1.1,f.1.2,h,?_⟩;rcases i2 with⟨I,J⟩|⟨I,J⟩
   ·exact .inl ((bH.dir j h k).1 ⟨i,i1,I,J⟩)
   ·exact .inr ((bH.dir j h k).1 ⟨i,i1,I,J⟩)
 have y:E.length<=10000:=by
  rw[u];exact zEa (ue _ _ _) (zUa hlen hlen)
 rw[<-u] at h22;rw[P] at h18;exact⟨F,E,A,y,B,h18,h19,h21,h22,u⟩
end Sy
end
noncomputable section
namespace Sy
open Go Go.Proofs Geo
def mw{k:Nat}{v:V}(h:bd (k:Int) v):v.x.natAbs<=k/\v.y.natAbs<=k/\v.z.natAbs<=k:=by
 unfold bd at h;omega
structure BOk(b:Bdy):Prop where
 one:1<=b.P.length
 few:b.P.length<=3
 vs:∀ l∈b.P,l.length<=10
 hul:∀ l∈b.P,Hul l
 bd:∀ l∈b.P,∀ x∈l,bd 4096 x
 m0:1<=b.m0
 m1:b.m0<=b.m1
 m2:b.m1<=1099511627776
end Sy
end
noncomputable section
namespace Sy
open Go Go.Proofs Geo
def xF{body:Bd}{k:Nat×List D->Option D}{y:D}{l0:List D}(x:Nat->D)(h0:l0.length=3)
  (d:∀ i:Nat,i<3->∀ l:List D,l.length=3->(∀ j:Nat,i<=j->l[j]?=l0[j]?)->body [I (i:Int),.st l]=some (.inl [I ((i+1:Nat):Int),.st (l.set i (x i))]))
  (he:∀ l,body [I ((3:Nat):Int),.st l]=some (.inr (0,[.st l]))) (hk:k (0,[.st [x 0,x 1,x 2]])=some y):Option.bind (aS body [I ((0:Nat):Int),.st l0]) k=some y:=by
 match l0,h0 with
 | [a,b,c],_=>
 have s0:=d 0 (by decide) [a,b,c] rfl (λj _=>rfl)
 have s1:=d 1 (by decide) [x 0,b,c] rfl (λj e=>by cases j with|zero=>omega|succ j=>rfl)
 have s2:=d 2 (by decide) [x 0,x 1,c] rfl (λj e=>by cases j with|zero=>omega|succ j=>cases j with|zero=>omega|succ j=>rfl)
 exact aV s0 (aV s1 (aV s2 (dZ (he _) hk)))
abbrev WV:=Nat->Option Rat
def aU(v:WV):D:=.st [a8 (v 0),a8 (v 1),a8 (v 2)]
def wO(v:WV):Prop:=∀ i,OW (v i)
def wM(v:V):WV:=λi=>some (bV v i:Rat)
def y7{i:Nat}(h:i<3)(v:WV):D.get (aU v) [i]=some (a8 (v i)):=by
 have:i=0\/i=1\/i=2:=by omega
 rcases this with rfl|rfl|rfl<;>rfl
def zY{v:V}(h:∀ i,inR (bV v i)):wO (wM v):=λi=>bQ (ua (bB (h i)))
def kw{v:V}(h1:inR v.x)(a:inR v.y)(b:inR v.z)(i:Nat):inR (bV v i):=by
 unfold bV;split<;>(try split)<;>assumption
def DO(n:Nat){v:V}(h:∀ i,inR (bV v i)):cA (n+1033) 135 [ac v]=some (aU (wM v)):=WD n (h 0) (h 1) (h 2)
def Gy{a:Option Rat}(h:OW a):addW (some 0) a=a:=by
 cases a with
 | none=>rfl
 | some x=>
  have e:addW (some 0) (some x)=some (0+x):=Ak ⟨by simpa using aH.1 h.some.1,by simpa using aH.1 h.some.2⟩
  rw[e,Rat.zero_add]
def wu(u v:WV):Option Rat:=addW (addW (mulW (u 0) (v 0)) (mulW (u 1) (v 1))) (mulW (u 2) (v 2))
def zb(u v:WV):OW (wu u v):=li _ _
def Qk(n:Nat){u v:WV}(hu:wO u)(j:wO v):cA (n+1033) 134 [aU u,aU v]=some (a8 (wu u v)):=by
 rw[X3];delta Kb qB qC qJ qZ iL iR Jn;refine aa (Nx n (dJ 0)) ?_;have st:∀ i:Nat,i<3->∀ a,OW a->(Option.bind (D.bin .lss (List.getD [I (i:Int),a8 a] 0 (.bool false)) (D.int .i64 3)) λl=>Option.bind (D.truth l) λg=>
   if g then(Option.bind (D.idx (List.getD [I (i:Int),a8 a] 0 (.bool false)) 3) λi5=>Option.bind (D.get (aU u) [i5]) λm=>Option.bind (D.idx (List.getD [I (i:Int),a8 a] 0 (.bool false)) 3) λi7=>Option.bind (D.get (aU v) [i7]) λo=>
    Option.bind (cA (n+1032) 174 [m,o]) λk=>Option.bind (cA (n+1032) 173 [(List.getD [I (i:Int),a8 a] 1 (.bool false)),k]) λd=>Option.bind (D.bin .add (List.getD [I (i:Int),a8 a] 0 (.bool false)) (D.int .i64 1)) λf=>some (Sum.inl [f,d]))
   else(some (Sum.inr ((0:Nat),[(List.getD [I (i:Int),a8 a] 1 (.bool false))]))))=some (Sum.inl [I ((i+1:Nat):Int),a8 (addW a (mulW (u i) (v i)))]):=λi c a h=>
  aa af (aa ab (aB (by show(i:Int)<3;omega) (aa (ap c) (aa (y7 c u) (aa (ap c) (aa (y7 c v) (aa (DQ (n+1) (hu i) (j i)) (aa (As (n+1) h (tT _ _)) (aa (aL (a:=i) (b:=1) (by omega)) rfl)))))))))
 have z:OW (some (0:Rat)):=bQ (ua (bB (dJ 0)));have s0:=st 0 (by decide) (some 0) z
 have s1:=st 1 (by decide) (addW (some 0) (mulW (u 0) (v 0))) (li _ _)
 have s2:=st 2 (by decide) (addW (addW (some 0) (mulW (u 0) (v 0))) (mulW (u 1) (v 1))) (li _ _)
 have e:=Gy (tT (u 0) (v 0));unfold wu;rw[<-e];exact aV s0 (aV s1 (aV s2 (dZ (aa af (aa ab (aC (by decide) rfl))) rfl)))
def OD(n:Nat){u:V}{v:WV}(hu:∀ i,inR (bV u i))(a:wO v):cA (n+1034) 72 [ac u,aU v]=some (a8 (wu (wM u) v)):=by
 rw[u72];unfold Si;exact aa (DO n hu) (aa (Qk n (zY hu) a) rfl)
def yc(u v:WV):WV:=λi=>addW (u i) (v i)
def II(u v:WV):wO (yc u v):=λi=>li _ _
def sa{l:List D}{i:Nat}{v:D}(h:i<l.length):D.set (.st l) [i] v=some (.st (l.set i v)):=by
 simp only[D.set,zca h,zba]
def Nw(n:Nat){u v:WV}(hu:wO u)(g:wO v):cA (n+1032) 371 [aU u,aU v]=some (aU (yc u v)):=by
 rw[YL];delta KS qB qC qJ qZ iL iR Jn;refine xF (l0:=[a8 (u 0),a8 (u 1),a8 (u 2)]) (λi=>a8 (yc u v i)) rfl (λi c l hl f=>?_) (λl=>aa af (aa ab (aC (by decide) rfl))) rfl
 have d:D.get (.st l) [i]=some (a8 (u i)):=by
  have e:=f i (zfa _);have:i=0\/i=1\/i=2:=by omega
  rcases this with rfl|rfl|rfl<;>simp[D.get,D.fld,e]
 exact aa af (aa ab (aB (by show(i:Int)<3;omega) (aa (ap c) (aa d (aa (ap c) (aa (y7 c v) (aa (As n (hu i) (g i)) (aa (ap c) (aa (sa (by omega)) (aa (aL (a:=i) (b:=1) (by omega)) rfl))))))))))
end Sy
end
noncomputable section
namespace Sy
open Go Go.Proofs Geo
def Qa(l:List D):Bd:=λ(v1:List D)=>
 Option.bind (D.bin .add (gx v1 1) (D.int .i64 1)) λi=>Option.bind (D.asSl (.sl l)) λh=>Option.bind (D.bin .lss i (D.int .i64 (h.length))) λj=>Option.bind (D.truth j) λg=>
 if g then(Option.bind (D.asSl (.sl l)) λf=>Option.bind (D.idx (gx v1 1) (f.length)) λi7=>Option.bind (f[i7]?) λk=>Option.bind (D.bin .add (gx v1 1) (D.int .i64 1)) λm=>
  Option.bind (D.asSl (.sl l)) λa=>Option.bind (D.idx m (a.length)) λi11=>Option.bind (a[i11]?) λb=>Option.bind (D.bin .mul k b) λc=>Option.bind (D.bin .add (gx v1 0) c) λd=>
  Option.bind (D.bin .add (gx v1 1) (D.int .i64 2)) λe=>some (Sum.inl [d,e])) else(some (Sum.inr (0,[(gx v1 0)])))
def gw{l:List D}(k:Nat){s a b t:Int}(hl:l.length<=100)(e:l[k]?=some (I a))(c:l[k+1]?=some (I b))(h1:inR (a*b))(d:inR (s+a*b))(f:s+a*b=t):Qa l [I s,I (k:Int)]=some (.inl [I t,I ((k+2:Nat):Int)]):=by
 have g:=(zka.1 c).1;subst f;exact aa (aL (a:=k) (b:=1) (by omega)) (aa (z:=l) rfl (aa af (aa ab (aB (by show((k+1:Nat):Int)<(l.length:Int);omega) (aa (z:=l) rfl (aa (ap (by omega)) (aa e (aa (aL (a:=k) (b:=1) (by omega)) (aa (z:=l) rfl (aa (ap g) (aa c (aa (cz h1) (aa (aw d) (aa (aL (a:=k) (b:=2) (by omega)) rfl))))))))))))))
def zS{l:List D}(k:Nat){s:Int}(hl:l.length<=100)(hk:l.length=k):Qa l [I s,I (k:Int)]=some (.inr (0,[I s])):=
 aa (aL (a:=k) (b:=1) (by omega)) (aa (z:=l) rfl (aa af (aa ab (aC (by show ¬ (((k+1:Nat):Int)<(l.length:Int));omega) rfl))))
def rh(n:Nat){a b c d:Int}(h1:inR (a*b))(e:inR (c*d))(f:inR (a*b+c*d)):cA (n+1) 394 [.sl [I a,I b,I c,I d]]=some (I (a*b+c*d)):=by
 rw[Py];delta E2 qB qX qL qZ iL iR Jn;exact aV (gw 0 (l:=[I a,I b,I c,I d]) (s:=0) (t:=a*b) (by simp) rfl rfl h1 (by rw[zzc];exact h1) (zzc _)) (aV (gw 2 (by simp) rfl rfl e f rfl) (dZ (zS 4 (by simp) rfl) rfl))
def Hp(n:Nat){a b c d e f:Int}(h1:inR (a*b))(g:inR (c*d))(h:inR (a*b+c*d))(i:inR (e*f))(j:inR (a*b+c*d+e*f)):cA (n+1) 394 [.sl [I a,I b,I c,I d,I e,I f]]=some (I (a*b+c*d+e*f)):=by
 rw[Py];delta E2 qB qX qL qZ iL iR Jn;exact aV (gw 0 (l:=[I a,I b,I c,I d,I e,I f]) (s:=0) (t:=a*b) (by simp) rfl rfl h1 (by rw[zzc];exact h1) (zzc _)) (aV (gw 2 (by simp) rfl rfl g h rfl) (aV (gw 4 (by simp) rfl rfl i j rfl) (dZ (zS 6 (by simp) rfl) rfl)))
def yI(n:Nat){a b c d e f g h:Int}(h1:inR (a*b))(i:inR (c*d))(j:inR (a*b+c*d))(k:inR (e*f))(m:inR (a*b+c*d+e*f))(o:inR (g*h))(p:inR (a*b+c*d+e*f+g*h)) :
  cA (n+1) 394 [.sl [I a,I b,I c,I d,I e,I f,I g,I h]]=some (I (a*b+c*d+e*f+g*h)):=by
 rw[Py];delta E2 qB qX qL qZ iL iR Jn;exact aV (gw 0 (l:=[I a,I b,I c,I d,I e,I f,I g,I h]) (s:=0) (t:=a*b) (by simp) rfl rfl h1 (by rw[zzc];exact h1) (zzc _)) (aV (gw 2 (by simp) rfl rfl i j rfl) (aV (gw 4 (by simp) rfl rfl k m rfl) (aV (gw 6 (by simp) rfl rfl o p rfl) (dZ (zS 8 (by simp) rfl) rfl))))
def ft(q:Nat->Int):Nat->Int
 | 0=>q 0*q 0+q 1*q 1-q 2*q 2-q 3*q 3
 | 1=>2*(q 1*q 2-q 0*q 3)
 | 2=>2*(q 1*q 3+q 0*q 2)
 | 3=>2*(q 1*q 2+q 0*q 3)
 | 4=>q 0*q 0-q 1*q 1+q 2*q 2-q 3*q 3
 | 5=>2*(q 2*q 3-q 0*q 1)
 | 6=>2*(q 1*q 3-q 0*q 2)
 | 7=>2*(q 2*q 3+q 0*q 1)
 | _=>q 0*q 0-q 1*q 1-q 2*q 2+q 3*q 3
def ND(m:Nat->Int):D:=.st [I (m 0),I (m 1),I (m 2),I (m 3),I (m 4),I (m 5),I (m 6),I (m 7),I (m 8)]
def rF{k:Nat}(h:k<9)(m:Nat->Int):D.get (ND m) [k]=some (I (m k)):=by
 match k,h with
 | 0,_=>rfl
 | 1,_=>rfl
 | 2,_=>rfl
 | 3,_=>rfl
 | 4,_=>rfl
 | 5,_=>rfl
 | 6,_=>rfl
 | 7,_=>rfl
 | 8,_=>rfl
 | k+9,h=>omega
def B8(q:Nat->Int):Prop:=∀ i,i<4->(q i).natAbs<=64
def qq{q:Nat->Int}(h:B8 q){i j:Nat}(a:i<4)(b:j<4):-4096<=q i*q j/\q i*q j<=4096:=by
 have:(q i*q j).natAbs<=64*64:=by rw[zHa];exact zUa (h i a) (h j b)
 omega
def aM{x:Int}(h:-4000000000<=x/\x<=4000000000):inR x:=by simp only[inR];omega
def iT{q:Nat->Int}(h:B8 q)(k:Nat):-16384<=ft q k/\ft q k<=16384:=by
 have a:=qq h (i:=0) (j:=0) (by decide) (by decide);have e:=qq h (i:=1) (j:=1) (by decide) (by decide);have a22:=qq h (i:=2) (j:=2) (by decide) (by decide);have a33:=qq h (i:=3) (j:=3) (by decide) (by decide)
 have b:=qq h (i:=0) (j:=1) (by decide) (by decide);have c:=qq h (i:=0) (j:=2) (by decide) (by decide);have d:=qq h (i:=0) (j:=3) (by decide) (by decide)
 have a12:=qq h (i:=1) (j:=2) (by decide) (by decide);have f:=qq h (i:=1) (j:=3) (by decide) (by decide);have a23:=qq h (i:=2) (j:=3) (by decide) (by decide)
 unfold ft;grind
def DH{a:Int}(h:inR (-a)):D.un .neg (I a)=some (I (-a)):=by
 simp_all [D.un,Int.zero_sub,iZ]
def wQ{a b:Int}(c:2*a=b)(h:inR b):D.bin .mul (D.int .i64 2) (I a)=some (I b):=by
 subst c;exact cz h
def Qx(n:Nat){q:Nat->Int}(h:B8 q):cA (n+2) 393 [lv q]=some (ND (ft q)):=by
 have g:=qq h (i:=0) (j:=0) (by decide) (by decide);have p:=qq h (i:=1) (j:=1) (by decide) (by decide);have a22:=qq h (i:=2) (j:=2) (by decide) (by decide);have a33:=qq h (i:=3) (j:=3) (by decide) (by decide)
 have k:=qq h (i:=0) (j:=1) (by decide) (by decide);have l:=qq h (i:=0) (j:=2) (by decide) (by decide);have o:=qq h (i:=0) (j:=3) (by decide) (by decide)
 have a12:=qq h (i:=1) (j:=2) (by decide) (by decide);have r:=qq h (i:=1) (j:=3) (by decide) (by decide);have a23:=qq h (i:=2) (j:=3) (by decide) (by decide)
 have h0:=h 0 (by decide);have h1:=h 1 (by decide);have v:=h 2 (by decide);have w:=h 3 (by decide)
 have c:D.un .neg (I (q 0))=some (I (-(q 0))):=DH (aM (by omega))
 have d:D.un .neg (I (q 1))=some (I (-(q 1))):=DH (aM (by omega))
 have e:D.un .neg (I (q 2))=some (I (-(q 2))):=DH (aM (by omega))
 have f:D.un .neg (I (q 3))=some (I (-(q 3))):=DH (aM (by omega))
 have m:∀ a b:Int,-a*b=-(a*b):=λa b=>Int.neg_mul a b;rw[YO];delta KW qG qB Jn;refine aa (z:=I (q 0)) rfl (aa (z:=I (q 1)) rfl (aa (z:=I (q 2)) rfl (aa (z:=I (q 3)) rfl (aa e (aa f ?_)))));refine aa (yI n (aM (by omega)) (aM (by omega)) (aM (by omega)) (aM (by rw[m];omega)) (aM (by rw[m];omega)) (aM (by rw[m];omega)) (aM (by rw[m,m];omega))) ?_
 refine aa c (aa (rh n (aM (by omega)) (aM (by rw[m];omega)) (aM (by rw[m];omega))) (aa (wQ (b:=ft q 1) (by show _=2*(q 1*q 2-q 0*q 3);rw[m];omega) (aM (by have:=iT h 1;omega))) ?_))
 refine aa (rh n (aM (by omega)) (aM (by omega)) (aM (by omega))) (aa (wQ (b:=ft q 2) rfl (aM (by have:=iT h 2;omega))) ?_)
 refine aa (rh n (aM (by omega)) (aM (by omega)) (aM (by omega))) (aa (wQ (b:=ft q 3) rfl (aM (by have:=iT h 3;omega))) ?_)
 refine aa d (aa f (aa (yI n (aM (by omega)) (aM (by rw[m];omega)) (aM (by rw[m];omega)) (aM (by omega)) (aM (by rw[m];omega)) (aM (by rw[m];omega)) (aM (by rw[m,m];omega))) ?_))
 refine aa c (aa (rh n (aM (by omega)) (aM (by rw[m];omega)) (aM (by rw[m];omega))) (aa (wQ (b:=ft q 5) (by show _=2*(q 2*q 3-q 0*q 1);rw[m];omega) (aM (by have:=iT h 5;omega))) ?_))
 refine aa c (aa (rh n (aM (by omega)) (aM (by rw[m];omega)) (aM (by rw[m];omega))) (aa (wQ (b:=ft q 6) (by show _=2*(q 1*q 3-q 0*q 2);rw[m];omega) (aM (by have:=iT h 6;omega))) ?_))
 refine aa (rh n (aM (by omega)) (aM (by omega)) (aM (by omega))) (aa (wQ (b:=ft q 7) rfl (aM (by have:=iT h 7;omega))) ?_)
 refine aa d (aa e (aa (yI n (aM (by omega)) (aM (by rw[m];omega)) (aM (by rw[m];omega)) (aM (by rw[m];omega)) (aM (by rw[m,m];omega)) (aM (by omega)) (aM (by rw[m,m];omega))) ?_))
 have s:q 0*q 0+q 1*q 1+-(q 2)*q 2+-(q 3)*q 3=ft q 0:=by show _=q 0*q 0+q 1*q 1-q 2*q 2-q 3*q 3;rw[m,m];omega
 have t:q 0*q 0+-(q 1)*q 1+q 2*q 2+-(q 3)*q 3=ft q 4:=by show _=q 0*q 0-q 1*q 1+q 2*q 2-q 3*q 3;rw[m,m];omega
 have u:q 0*q 0+-(q 1)*q 1+-(q 2)*q 2+q 3*q 3=ft q 8:=by show _=q 0*q 0-q 1*q 1-q 2*q 2+q 3*q 3;rw[m,m];omega
 rw[s,t,u];rfl
def cE(q:Nat->Int)(v:V)(i:Nat):Int:=ft q (3*i)*v.x+ft q (3*i+1)*v.y+ft q (3*i+2)*v.z
def bg(q:Nat->Int):Int:=q 0*q 0+q 1*q 1+q 2*q 2+q 3*q 3
def xS{q:Nat->Int}(h:B8 q)(k:Nat){x:Int}(hx:x.natAbs<=4096):-67108864<=ft q k*x/\ft q k*x<=67108864:=by
 have:=iT h k;have:(ft q k*x).natAbs<=16384*4096:=by rw[zHa];exact zUa (by omega) hx
 omega
def kV{q:Nat->Int}(h:B8 q){v:V}(d:bd 4096 v)(i:Nat):-201326592<=cE q v i/\cE q v i<=201326592:=by
 obtain⟨v1,v2,v3⟩:=mw (k:=4096) d;have a:=xS h (3*i) v1;have b:=xS h (3*i+1) v2;have c:=xS h (3*i+2) v3;grind [cE]
def fP{q:Nat->Int}(h:B8 q)(h0:∃ i,i<4/\q i≠0):0<bg q/\bg q<=16384:=by
 have a:=qq h (i:=0) (j:=0) (by decide) (by decide);have b:=qq h (i:=1) (j:=1) (by decide) (by decide);have a22:=qq h (i:=2) (j:=2) (by decide) (by decide);have a33:=qq h (i:=3) (j:=3) (by decide) (by decide)
 have d:=ni (q 0);have e:=ni (q 1);have f:=ni (q 2);have g:=ni (q 3);have pos:∀ x:Int,x≠0->0<x*x:=λx hx=>by
  have:=ni x;rcases z6a this with h|h
  ·exact h
  ·rcases zcb.1 h.symm with h|h<;>exact absurd h hx
 obtain⟨i,c,hq⟩:=h0;have hp:=pos _ hq;unfold bg;refine⟨?_,by omega⟩
 match i,c with
 | 0,_=>omega
 | 1,_=>omega
 | 2,_=>omega
 | 3,_=>omega
 | k+4,h=>omega
def HL(f:Nat->Int):D:=.st [I (f 0),I (f 1),I (f 2)]
def Fu{k:Nat}(h:k<9):D.idx (I (k:Int)) 9=some k:=ap h
def W5(n:Nat){q:Nat->Int}(h:B8 q){v:V}(f:bd 4096 v):cA (n+3) 386 [lv q,ac v]=some (HL (cE q v)):=by
 obtain⟨v1,v2,v3⟩:=mw (k:=4096) f;rw[RD];delta GW qG qB qC qJ qZ iL iR Jn;refine aa (Qx n h) ?_;refine xF (l0:=[I 0,I 0,I 0]) (λi=>I (cE q v i)) rfl (λi e l hl m=>?_) (λl=>aa af (aa ab (aC (by decide) rfl))) rfl
 have a:=xS h (3*i) v1;have b:=xS h (3*i+1) v2;have c:=xS h (3*i+2) v3;have d:D.bin .mul (D.int .i64 3) (I (i:Int))=some (I ((3*i:Nat):Int)):=oJ (a:=3) (b:=i) (by omega)
 have g:D.bin .add (I ((3*i:Nat):Int)) (D.int .i64 1)=some (I ((3*i+1:Nat):Int)):=aL (a:=3*i) (b:=1) (by omega)
 have j:D.bin .add (I ((3*i:Nat):Int)) (D.int .i64 2)=some (I ((3*i+2:Nat):Int)):=aL (a:=3*i) (b:=2) (by omega)
 refine aa af (aa ab (aB (by show(i:Int)<3;omega) ?_))
 refine aa d (aa (Fu (by omega)) (aa (rF (by omega) _) (aa (z:=I v.x) rfl ?_)))
 refine aa d (aa g (aa (Fu (by omega)) (aa (rF (by omega) _) (aa (z:=I v.y) rfl ?_))))
 refine aa d (aa j (aa (Fu (by omega)) (aa (rF (by omega) _) (aa (z:=I v.z) rfl ?_))))
 refine aa (Hp (n+1) (aM (by omega)) (aM (by omega)) (aM (by omega)) (aM (by omega)) (aM (by omega))) ?_
 exact aa (ap e) (aa (sa (by omega)) (aa (aL (a:=i) (b:=1) (by omega)) rfl))
def Qw(n:Nat){q:Nat->Int}(h:B8 q):cA (n+3) 385 [lv q]=some (I (bg q)):=by
 have a:=qq h (i:=0) (j:=0) (by decide) (by decide);have b:=qq h (i:=1) (j:=1) (by decide) (by decide);have a22:=qq h (i:=2) (j:=2) (by decide) (by decide);have a33:=qq h (i:=3) (j:=3) (by decide) (by decide)
 rw[YM];unfold KU;refine aa (z:=I (bg q)) ?_ rfl;rw[YN];delta KV qG;refine aa (z:=I (q 0)) rfl (aa (z:=I (q 0)) rfl (aa (z:=I (q 1)) rfl (aa (z:=I (q 1)) rfl (aa (z:=I (q 2)) rfl (aa (z:=I (q 2)) rfl (aa (z:=I (q 3)) rfl (aa (z:=I (q 3)) rfl ?_)))))));exact aa (yI n (aM (by omega)) (aM (by omega)) (aM (by omega)) (aM (by omega)) (aM (by omega)) (aM (by omega)) (aM (by omega))) rfl
end Sy
end
noncomputable section
namespace Sy
open Go Go.Proofs Geo
def sT{x:Int}(h:-4611686018427387904<=x/\x<=4611686018427387904):inR x:=by simp only[inR];omega
def rS{q:Nat->Int}(h:B8 q)(k:Nat){x:Int}(hx:x.natAbs<=1099511627776):-18014398509481984<=ft q k*x/\ft q k*x<=18014398509481984:=by
 have:=iT h k;have:(ft q k*x).natAbs<=16384*1099511627776:=by rw[zHa];exact zUa (by omega) hx
 omega
def DS(n:Nat){q:Nat->Int}(h:B8 q){v:V}(f:bd 1099511627776 v):cA (n+3) 386 [lv q,ac v]=some (HL (cE q v)):=by
 obtain⟨v1,v2,v3⟩:=mw (k:=1099511627776) f;rw[RD];delta GW qG qB qC qJ qZ iL iR Jn;refine aa (Qx n h) ?_;refine xF (l0:=[I 0,I 0,I 0]) (λi=>I (cE q v i)) rfl (λi e l hl m=>?_) (λl=>aa af (aa ab (aC (by decide) rfl))) rfl
 have a:=rS h (3*i) v1;have b:=rS h (3*i+1) v2;have c:=rS h (3*i+2) v3;have d:D.bin .mul (D.int .i64 3) (I (i:Int))=some (I ((3*i:Nat):Int)):=oJ (a:=3) (b:=i) (by omega)
 have g:D.bin .add (I ((3*i:Nat):Int)) (D.int .i64 1)=some (I ((3*i+1:Nat):Int)):=aL (a:=3*i) (b:=1) (by omega)
 have j:D.bin .add (I ((3*i:Nat):Int)) (D.int .i64 2)=some (I ((3*i+2:Nat):Int)):=aL (a:=3*i) (b:=2) (by omega)
 refine aa af (aa ab (aB (by show(i:Int)<3;omega) ?_))
 refine aa d (aa (Fu (by omega)) (aa (rF (by omega) _) (aa (z:=I v.x) rfl ?_)))
 refine aa d (aa g (aa (Fu (by omega)) (aa (rF (by omega) _) (aa (z:=I v.y) rfl ?_))))
 refine aa d (aa j (aa (Fu (by omega)) (aa (rF (by omega) _) (aa (z:=I v.z) rfl ?_))))
 refine aa (Hp (n+1) (sT (by omega)) (sT (by omega)) (sT (by omega)) (sT (by omega)) (sT (by omega))) ?_
 exact aa (ap e) (aa (sa (by omega)) (aa (aL (a:=i) (b:=1) (by omega)) rfl))
end Sy
end
noncomputable section
namespace Sy
open Go Go.Proofs Geo
def kj(x:V)(q:Nat->Int)(v:V):V:=⟨cE q v 0+bg q*x.x,cE q v 1+bg q*x.y,cE q v 2+bg q*x.z⟩
def PB:Int:=2305843009415020544
structure PoseOk(x:V)(q:Nat->Int):Prop where
 hx:bd 140737488355327 x
 hq:B8 q
 h0:∃ i,i<4/\q i≠0
def yq{x:V}{q:Nat->Int}(h:PoseOk x q){a:Int}(b:-140737488355327<=a/\a<=140737488355327):-2305843009213693952<=bg q*a/\bg q*a<=2305843009213693952:=by
 have s:=fP h.hq h.h0;have:(bg q*a).natAbs<=16384*140737488355327:=by rw[zHa];exact zUa (by omega) (by omega)
 omega
def zx{x:V}{q:Nat->Int}(h:PoseOk x q){v:V}(a:bd 4096 v):bd PB (kj x q v):=by
 have t0:=kV h.hq a 0;have t1:=kV h.hq a 1;have t2:=kV h.hq a 2;have s0:=yq h h.hx.1;have s1:=yq h h.hx.2.1;have s2:=yq h h.hx.2.2;simp only[bd,kj,PB];omega
def eZ(x:V)(q:Nat->Int)(l:List V):D:=.st [cZ x q,bZ l,I (bg q),bc (l.map (kj x q))]
def Rq{x:V}{q:Nat->Int}{l:List V}{i:Nat}(a:i<l.length):((l.take i).map λv=>ac (kj x q v))++[ac (kj x q l[i])]=(l.take (i+1)).map λv=>ac (kj x q v):=by
 rw[List.take_add_one,zca a];simp only[Option.toList_some,zMb,z9a,zld]
def At(n:Nat){x:V}{q:Nat->Int}(h:PoseOk x q){l:List V}(hl:∀ v∈l,bd 4096 v)(hlen:l.length<=100):cA (n+4) 433 [cZ x q,bZ l]=some (eZ x q l):=by
 rw[YY];delta Lh qG qB qC qS qX qJ qV qW qZ iL iR Jn;refine aa (z:=lv q) rfl (aa (Qw n h.hq) (aa (z:=bc l) rfl (aa (z:=l.map ac) rfl ?_)));obtain⟨Z,g⟩:∃ Z,D.st [D.st [I 0,I 0,I 0],D.st [I 0,I 0,I 0,I 0]]=Z:=⟨_,rfl⟩;refine cn (λi s=>s=[I (i:Int),Z,.sl [],I 0,.sl [],cZ x q,bZ l,I (bg q),.sl ((l.take i).map λv=>ac (kj x q v))]) l.length 0 (zja _) (by rw[<-g];rfl) (λi d s f=>?_) (λs f=>?_)
 ·subst f;left;have e:bd 4096 l[i]:=hl _ (zza d);have t0:=kV h.hq e 0;have t1:=kV h.hq e 1;have t2:=kV h.hq e 2;have s0:=yq h h.hx.1;have s1:=yq h h.hx.2.1;have s2:=yq h h.hx.2.2;refine⟨_,?_,rfl⟩;refine aa af (aa ab (aB (by rw[aP];omega) ?_))
  refine aa (z:=l.map ac) rfl (aa (z:=i) (by rw[aP];exact ap d) (aa (z:=ac l[i]) (by simp[d]) ?_))
  refine aa (z:=lv q) rfl (aa (W5 n h.hq e) ?_);obtain⟨L,hL⟩:∃ L,((l.take i).map λv=>ac (kj x q v))=L:=⟨_,rfl⟩;obtain⟨v,c⟩:∃ v,l[i]=v:=⟨_,rfl⟩;rw[<-Rq d,c,hL];rw[c] at t0 t1 t2;refine aV (s':=[I 1,Z,.sl [],I 0,.sl [],cZ x q,bZ l,I (bg q),.sl L,.st [I (kj x q v).x,I (cE q v 1),I (cE q v 2)]]) ?_ (aV (s':=[I 2,Z,.sl [],I 0,.sl [],cZ x q,bZ l,I (bg q),.sl L,.st [I (kj x q v).x,I (kj x q v).y,I (cE q v 2)]]) ?_ (aV (s':=[I 3,Z,.sl [],I 0,.sl [],cZ x q,bZ l,I (bg q),.sl L,ac (kj x q v)]) ?_ (dZ (r:=(0,[Z,.sl [],I 0,.sl [],cZ x q,bZ l,I (bg q),.sl L,ac (kj x q v)])) ?_ ?_)))
  ·exact aa (z:=.bool true) rfl (aa (z:=true) rfl (fH (aa (z:=0) rfl (aa (z:=I (cE q v 0)) rfl (aa (z:=0) rfl (aa (z:=I x.x) rfl (aa (cz (sT (by omega))) (aa (aw (by simp only[inR];omega)) (aa (z:=0) rfl (aa (z:=.st [I (kj x q v).x,I (cE q v 1),I (cE q v 2)]) rfl (aa (z:=I 1) rfl rfl)))))))))))
  ·exact aa (z:=.bool true) rfl (aa (z:=true) rfl (fH (aa (z:=1) rfl (aa (z:=I (cE q v 1)) rfl (aa (z:=1) rfl (aa (z:=I x.y) rfl (aa (cz (sT (by omega))) (aa (aw (by simp only[inR];omega)) (aa (z:=1) rfl (aa (z:=.st [I (kj x q v).x,I (kj x q v).y,I (cE q v 2)]) rfl (aa (z:=I 2) rfl rfl)))))))))))
  ·exact aa (z:=.bool true) rfl (aa (z:=true) rfl (fH (aa (z:=2) rfl (aa (z:=I (cE q v 2)) rfl (aa (z:=2) rfl (aa (z:=I x.z) rfl (aa (cz (sT (by omega))) (aa (aw (by simp only[inR];omega)) (aa (z:=2) rfl (aa (z:=ac (kj x q v)) rfl (aa (z:=I 3) rfl rfl)))))))))))
  ·exact aa (z:=.bool false) rfl (aa (z:=false) rfl rfl)
  ·have hn:List.length (D.els (.sl L))+List.length [ac (kj x q v)]<=1073741824:=by
    rw[<-hL];show((l.take i).map _).length+1<=_;simp;omega
   refine(if_pos hn).trans ?_;exact aa (aL (a:=i) (b:=1) (by omega)) rfl
 ·subst f;refine⟨_,aa af (aa ab (aC (by rw[aP];omega) rfl)),?_⟩
  rw[znb (zfa _)];simp only[eZ,bc,List.map_map];rfl
end Sy
end
noncomputable section
namespace Sy
open Go Go.Proofs Geo
def NB:Int:=2305843009213693951
def w9{u v:V}(hu:bd NB u)(c:bd PB v):(u.x*v.x).natAbs<=2^123/\(u.y*v.y).natAbs<=2^123/\(u.z*v.z).natAbs<=2^123:=by
 have key:∀ a b:Int,(-NB<=a/\a<=NB)->(-PB<=b/\b<=PB)->(a*b).natAbs<=2^123:=λa b d e=>by
  rw[zHa];simp only[NB,PB] at d e;exact bC (i:=61) (j:=62) (by rw[show(2:Nat)^61=2305843009213693952 from rfl];omega) (by rw[show(2:Nat)^62=4611686018427387904 from rfl];omega) (by decide)
 exact⟨key _ _ hu.1 c.1,key _ _ hu.2.1 c.2.1,key _ _ hu.2.2 c.2.2⟩
def uB{u v:V}(hu:bd NB u)(c:bd PB v):In (u.x*v.x)/\In (u.y*v.y)/\In (u.z*v.z)/\In (u.x*v.x+u.y*v.y)/\In (V.dot u v):=by
 obtain⟨h1,a,b⟩:=w9 hu c;have d:=znc (u.x*v.x) (u.y*v.y);have e:=znc (u.x*v.x+u.y*v.y) (u.z*v.z);exact⟨fF (by decide) h1,fF (by decide) a,fF (by decide) b,fF (k:=130) (by decide) (by omega),fF (k:=130) (by decide) (by unfold V.dot;omega)⟩
def CF{u:V}(hu:bd NB u):inR u.x/\inR u.y/\inR u.z:=by simp only[bd,NB] at hu;simp only[inR];omega
def CG{u:V}(hu:bd PB u):inR u.x/\inR u.y/\inR u.z:=by simp only[bd,PB] at hu;simp only[inR];omega
def OG(n:Nat){u v:V}(hu:bd NB u)(d:bd PB v):cA (n+6) 91 [ac u,ac v]=some (am (V.dot u v)):=by
 obtain⟨a1,a2,a3⟩:=CF hu;obtain⟨a,b,c⟩:=CG d;obtain⟨i1,i2,i3,e,g⟩:=uB hu d;have f:In 0:=bB (dJ 0);rw[u91];unfold SA;refine aa (LP (n+2) a1 a2 a3) (aa (LP (n+2) a b c) (aa (z:=am (V.dot u v)) ?_ rfl));rw[Ye];delta Kl qB qC qJ qZ iL iR Jn;refine aa (yJ (n+2) (dJ 0)) ?_;refine aV (s':=[I 1,am (u.x*v.x)]) ?_ (aV (s':=[I 2,am (u.x*v.x+u.y*v.y)]) ?_ (aV (s':=[I 3,am (V.dot u v)]) ?_ (dZ (r:=(0,[am (V.dot u v)])) ?_ rfl)))
 ·exact aa (z:=.bool true) rfl (aa (z:=true) rfl (fH (aa (z:=0) rfl (aa (z:=am u.x) rfl (aa (z:=0) rfl (aa (z:=am v.x) rfl (aa (HC (n+1) (bB a1) (bB a) i1) (aa (Ht n f i1 (by rw[zzc];exact i1)) (aa (z:=I 1) rfl (by rw[zzc]))))))))))
 ·exact aa (z:=.bool true) rfl (aa (z:=true) rfl (fH (aa (z:=1) rfl (aa (z:=am u.y) rfl (aa (z:=1) rfl (aa (z:=am v.y) rfl (aa (HC (n+1) (bB a2) (bB b) i2) (aa (Ht n i1 i2 e) (aa (z:=I 2) rfl rfl)))))))))
 ·exact aa (z:=.bool true) rfl (aa (z:=true) rfl (fH (aa (z:=2) rfl (aa (z:=am u.z) rfl (aa (z:=2) rfl (aa (z:=am v.z) rfl (aa (HC (n+1) (bB a3) (bB c) i3) (aa (Ht n e i3 g) (aa (z:=I 3) rfl rfl)))))))))
 ·exact aa (z:=.bool false) rfl (aa (z:=false) rfl rfl)
def xT(u:V)(L:List V):Nat->Int
 | 0=>V.dot u (pt L 0)
 | k+1=>if V.dot u (pt L (k+1))>xT u L k then V.dot u (pt L (k+1)) else xT u L k
def vi(u:V)(L:List V)(k:Nat):xT u L (k+1)=if V.dot u (pt L (k+1))>xT u L k then V.dot u (pt L (k+1)) else xT u L k:=rfl
def gQ{L:List V}{i:Nat}(h:i<L.length):pt L i∈L:=by
 unfold pt;rw[z1a,zca h];exact zza h
def zy{L:List V}{i:Nat}(h:i<L.length):(L.map ac)[i]?=some (ac (pt L i)):=by
 unfold pt;rw[z7a,z1a,zca h];rfl
theorem CV{u:V}{L:List V}(hu:bd NB u)(hL:∀ v∈L,bd PB v):∀ k,k<L.length->In (xT u L k)
 | 0,h=>(uB hu (hL _ (gQ h))).2.2.2.2
 | k+1,h=>by
  unfold xT;split
  ·exact(uB hu (hL _ (gQ h))).2.2.2.2
  ·exact CV hu hL k (by omega)
def L4(a b:Int):decide (bq a b>0)=decide (a>b):=by
 unfold bq;split<;>(try split)<;>simp<;>omega
def eC(u x:V)(q:Nat->Int)(l:List V):Rat:=Rat.divInt (xT u (l.map (kj x q)) (l.length-1)) (bg q)
def zw{x:V}{q:Nat->Int}(h:PoseOk x q){l:List V}(hl:∀ v∈l,bd 4096 v):∀ v∈l.map (kj x q),bd PB v:=λv a=>by
 obtain⟨w,hw,rfl⟩:=zXa.1 a;exact zx h (hl w hw)
def pd{x:V}{q:Nat->Int}(h:PoseOk x q):inR (bg q)/\bg q≠0:=by
 have:=fP h.hq h.h0;exact⟨by simp only[inR];omega,by omega⟩
def mW{u x:V}{q:Nat->Int}(hu:bd NB u)(h:PoseOk x q){l:List V}(hl:∀ v∈l,bd 4096 v)(h0:0<l.length):InR (eC u x q l):=
 dU (CV hu (zw h hl) _ (by simp;omega)) (bB (pd h).1) (pd h).2
def Hq(n:Nat){u x:V}{q:Nat->Int}(hu:bd NB u)(h:PoseOk x q){l:List V}(hl:∀ v∈l,bd 4096 v)(h0:0<l.length)(hlen:l.length<=100):cA (n+1031) 435 [eZ x q l,ac u]=some (iO (eC u x q l)):=by
 have g:=pd h;have d:=zw h hl;have c:=CV hu d;unfold eZ eC;obtain⟨L,hL⟩:∃ L,l.map (kj x q)=L:=⟨_,rfl⟩;have hk:L.length=l.length:=by rw[<-hL];simp
 rw[hL] at d c ⊢;rw[Y0];delta Lj qG qB qC qI qY qP qZ iL iR Jn;refine aa (z:=bc L) rfl (aa (z:=L.map ac) rfl (aa (z:=0) (by rw[aP];exact ap (i:=0) (by omega)) (aa (zy (by omega)) ?_)))
 refine aa (OG (n+1024) hu (d _ (gQ (by omega)))) ?_
 refine aa (z:=bc L) rfl (aa (z:=L.map ac) rfl (aa (z:=(L.map ac).drop 1) ?_ ?_))
 ·unfold D.cut;rw[if_pos ⟨by rw[aP];omega,zfa _⟩,znb (zfa _)]
 have e:((L.map ac).drop 1).length=l.length-1:=by rw[List.length_drop,aP,hk]
 refine cn (λi s=>s=[I (i:Int),am (xT u L i)]) (l.length-1) 0 (zja _) rfl (λi j s f=>?_) (λs f=>?_)
 ·subst f;left;refine⟨_,?_,rfl⟩;have hm:=gQ (L:=L) (i:=i+1) (by omega)
  refine aa af (aa ab (aB (by rw[e];omega) ?_))
  refine aa (z:=(0,[am (xT u L (i+1))])) ?_ (aa (aL (a:=i) (b:=1) (by omega)) rfl)
  refine aa (z:=i) (by rw[e];exact ap j) (aa (z:=ac (pt L (i+1))) (by rw[zmb,zJc];exact zy (by omega)) ?_)
  refine aa (OG (n+1024) hu (d _ hm)) (aa (SJ (n+1026) (uB hu (d _ hm)).2.2.2.2 (c i (by omega))) ?_)
  refine aa (z:=.bool (decide (V.dot u (pt L (i+1))>xT u L i))) (by rw[<-L4];exact cM) (aa ab ?_)
  rw[vi];by_cases hc:V.dot u (pt L (i+1))>xT u L i
  ·rw[if_pos hc];exact aB hc rfl
  ·rw[if_neg hc];exact aC hc rfl
 ·subst f;refine⟨_,aa af (aa ab (aC (by rw[e];omega) rfl)),?_⟩
  exact aa (z:=I (bg q)) rfl (aa (yJ (n+1028) g.1) (aa (OB n (c _ (by omega)) (bB g.1) g.2) rfl))
end Sy
end
noncomputable section
namespace Sy
open Go Go.Proofs Geo
def Jf{x y:Int}(b:0<y):(0<=x/\x/y=x.tdiv y/\x%y=x.tmod y/\0<=x.tmod y)\/(x<0/\x.tmod y=0/\x/y=x.tdiv y/\x%y=0)\/(x<0/\x.tmod y<0/\x/y=x.tdiv y-1/\x%y=x.tmod y+y):=by
 have e:=Int.mul_tdiv_add_tmod x y;have l:=Int.tmod_lt_of_pos x b;have d:=Int.lt_tmod_of_pos x b;by_cases hx:0<=x
 ·have h0:=Int.tmod_nonneg y hx;have:=(Int.ediv_emod_unique (a:=x) (q:=x.tdiv y) (r:=x.tmod y) b).2 ⟨by omega,h0,l⟩
  exact .inl ⟨hx,this.1,this.2,h0⟩
 ·have h0:x.tmod y<=0:=by
   have h1:=Int.tmod_nonneg y (show 0<=-x by omega)
   rw[Int.neg_tmod] at h1;omega
  by_cases hz:x.tmod y=0
  ·have:=(Int.ediv_emod_unique (a:=x) (q:=x.tdiv y) (r:=x.tmod y) b).2 ⟨by omega,by omega,l⟩
   exact .inr (.inl ⟨by omega,hz,this.1,by rw[this.2,hz]⟩)
  ·have c:y*(x.tdiv y-1)=y*x.tdiv y-y:=by rw[Int.mul_sub,Int.mul_one]
   have:=(Int.ediv_emod_unique (a:=x) (q:=x.tdiv y-1) (r:=x.tmod y+y) b).2 ⟨by omega,by omega,by omega⟩
   exact .inr (.inr ⟨by omega,by omega,this.1,this.2⟩)
def Ix{x y:Int}(b:0<y):(0<=x/\x/y=((x.natAbs/y.natAbs:Nat):Int)/\x%y=((x.natAbs%y.natAbs:Nat):Int))\/(x<0/\x.natAbs%y.natAbs=0/\x/y=-((x.natAbs/y.natAbs:Nat):Int)/\x%y=0) ∨
  (x<0/\0<x.natAbs%y.natAbs/\x/y=-((x.natAbs/y.natAbs:Nat):Int)-1/\x%y=((y.natAbs-x.natAbs%y.natAbs:Nat):Int)):=by
 have e:=z4b x.natAbs y.natAbs;have l:=zVa x.natAbs (show 0<y.natAbs by omega)
 have d:(y.natAbs:Int)=y:=by omega
 have g:y*((x.natAbs/y.natAbs:Nat):Int)+((x.natAbs%y.natAbs:Nat):Int)=(x.natAbs:Int):=by
  rw[<-e,zgd,zSa,d,e]
 generalize x.natAbs/y.natAbs=Q at *;generalize x.natAbs%y.natAbs=R at *;by_cases hx:0<=x
 ·have:=(Int.ediv_emod_unique (a:=x) (q:=Q) (r:=R) b).2 ⟨by omega,by omega,by omega⟩
  exact .inl ⟨hx,this⟩
 ·have c:y*-(Q:Int)=-(y*Q):=z1b ..;by_cases hz:R=0
  ·have:=(Int.ediv_emod_unique (a:=x) (q:=-Q) (r:=0) b).2 ⟨by omega,by omega,by omega⟩
   exact .inr (.inl ⟨by omega,hz,this⟩)
  ·have f:y*(-(Q:Int)-1)=-(y*Q)-y:=by rw[Int.mul_sub,Int.mul_one,c]
   have:=(Int.ediv_emod_unique (a:=x) (q:=-Q-1) (r:=((y.natAbs-R:Nat):Int)) b).2 ⟨by omega,by omega,by omega⟩
   exact .inr (.inr ⟨by omega,by omega,this⟩)
def GZ{x y:Int}(c:In y)(h:0<y):In (x%y):=by
 have a:=Int.emod_nonneg x (show y≠0 by omega)
 have b:=Int.emod_lt_of_pos x h;unfold In at *;omega
def nl{x y:Int}(h:0<y):0<=x%y/\x%y<y:=⟨Int.emod_nonneg x (by omega),Int.emod_lt_of_pos x h⟩
end Sy
end
end Go.Proofs.YtphlmegkommlnaaGreatDoor
