/- Part 6 of the proof that SweepChecksAsSpecified answers true at every input -/
import Derived.Test.YtmnkibhalflchaaGreatChek01
import Derived.Test.YtmnkibhalflchaaGreatChek02
import Derived.Test.YtmnkibhalflchaaGreatChek05
import Derived.Shelf.SlSortCmp.InsertionK
import Derived.ProofKit
import Derived.Carry
import Derived.Test.YtmnkibhalflchaaGreatProg
import Derived.KernelRfl
set_option linter.unusedVariables false
set_option linter.unusedSimpArgs false
set_option linter.unnecessarySimpa false
set_option linter.defProp false
set_option maxRecDepth 20000
namespace Go.Proofs.YtmnkibhalflchaaGreat
noncomputable section
namespace Sy
open Go Go.Proofs Go.Sort Go.Lib
def AP(E:Env)(g:Nat)(x y:D):Option Int:=(E.call g [x,y]).bind λr=>match r with|.int .i64 n=>some n|_=>none
def rt(E:Env)(g:Nat)(x y:D):Bool:=match AP E g x y with|some n=>decide (n<0)|none=>false
def Md(E:Env)(g:Nat)(x y:D):Bool:=match AP E g x y with|some n=>decide (0<=n)|none=>false
def Bc(lt:D->D->Bool)(x:D):List D->List D
 | []=>[x]
 | y::l=>if lt x y then x::y::l else y::Bc lt x l
def kL(lt:D->D->Bool):List D->List D
 | []=>[]
 | x::l=>Bc lt x (kL lt l)
def yJ(E:Env)(g:Nat):List D->Bool
 | []=>true
 | x::l=>Md E g x x&&l.all (λy=>rt E g x y&&Md E g y x)&&yJ E g l
def jX(E:Env)(g:Nat)(l:List D):Option (List D):=if yJ E g (kL (rt E g) l) then some (kL (rt E g) l) else none
theorem pV(lt:D->D->Bool)(x:D):∀ l:List D,(Bc lt x l).Perm (x::l)
 | []=>.refl _
 | y::l=>by
  simp only[Bc];split
  ·exact .refl _
  ·exact((pV lt x l).cons y).trans (.swap x y l)
theorem gz(lt:D->D->Bool):∀ l:List D,(kL lt l).Perm l
 | []=>.refl _
 | x::l=>(pV lt x _).trans ((gz lt l).cons x)
section
variable{E:Env}{g:Nat}
theorem jC:∀ {l:List D},yJ E g l=true->l.Pairwise (λx y=>rt E g x y=true/\Md E g y x=true)/\∀ x∈l,Md E g x x=true
 | [],_=>⟨.nil,s6⟩
 | x::l,h=>by
  simp only[yJ,zaa,zya] at h;obtain⟨⟨h1,b⟩,c⟩:=h;obtain⟨d,e⟩:=jC c;exact⟨z9a.2 ⟨b,d⟩,λy a=>by
   rcases zGa.1 a with rfl|a
   ·exact h1
   ·exact e y a⟩
def Gn{x y:D}(h:Md E g x y=true):rt E g x y=false:=by
 unfold Md at h;unfold rt;split at h
 ·rename_i n hn;simp only[zia] at h;simp only[decide_eq_false_iff_not];omega
 ·cases h
def NR{x y:D}(h:rt E g x y=true\/Md E g x y=true):∃ n,AP E g x y=some n:=by
 rcases h with h|h
 ·unfold rt at h;split at h
  ·exact⟨_,by assumption⟩
  ·cases h
 ·unfold Md at h;split at h
  ·exact⟨_,by assumption⟩
  ·cases h
variable{l:List D}(hc:yJ E g l=true)
include hc
def eM{i j:Nat}{x y:D}(d:l[i]?=some x)(e:l[j]?=some y):(rt E g x y=true↔i<j)/\∃ n,AP E g x y=some n:=by
 obtain⟨h1,c⟩:=jC hc;obtain⟨a,rfl⟩:=zna.1 d;obtain⟨b,rfl⟩:=zna.1 e;rcases zrd i j with k|k|k
 ·have:=z7b.1 h1 i j a b k;exact⟨⟨λ_=>k,λ_=>this.1⟩,NR (.inl this.1)⟩
 ·subst k;have:=c _ (zWa a);exact⟨⟨λh=>(by rw[Gn this] at h;cases h),λh=>z3a h (Nat.lt_irrefl _)⟩,NR (.inr this)⟩
 ·have:=z7b.1 h1 j i b a k;exact⟨⟨λh=>(by rw[Gn this.2] at h;cases h),λh=>j1⟩,NR (.inr this.2)⟩
def vc:l.Nodup:=by obtain⟨h1,a⟩:=jC hc;refine h1.imp λ{x y} h e=>?_;subst e;rw[Gn h.2] at h;cases h.1
def EX(E:Env)(g:Nat)(l:List D)(x y:{d:D // d∈l}):Int:=(AP E g x.1 y.1).getD 0
omit hc in
def zy{x y:{d:D // d∈l}}:ltOf (EX E g l) x y=rt E g x.1 y.1:=by unfold ltOf EX rt;cases AP E g x.1 y.1<;>simp
def LF:SWO (ltOf (EX E g l)):=by
 have f:∀ x:{d:D // d∈l},∃ i,l[i]?=some x.1:=λx=>by obtain⟨i,h1,m⟩:=z2a x.2;exact⟨i,by rw[zea h1,m]⟩
 have key:∀ (x y:{d:D // d∈l}) (i j:Nat),l[i]?=some x.1->l[j]?=some y.1->(ltOf (EX E g l) x y=true↔i<j):=λx y i j c e=>by rw[zy];exact(eM hc c e).1
 refine⟨λx=>?_,λx y z h1 m=>?_,λx y z h1 m=>?_⟩
 ·obtain⟨i,c⟩:=f x;cases h:ltOf (EX E g l) x x with
  | false=>rfl
  | true=>exact z3a ((key x x i i c c).1 h) (Nat.lt_irrefl _)
 ·obtain⟨i,c⟩:=f x;obtain⟨j,e⟩:=f y;obtain⟨k,hk⟩:=f z;have a:=(key x y i j c e).1 h1;have b:=(key y z j k e hk).1 m;exact(key x z i k c hk).2 j1
 ·obtain⟨i,c⟩:=f x;obtain⟨j,e⟩:=f y;obtain⟨k,hk⟩:=f z;have a:¬ i<j:=λh=>by rw[(key x y i j c e).2 h] at h1;cases h1
  have b:¬ j<k:=λh=>by rw[(key y z j k e hk).2 h] at m;cases m
  cases h:ltOf (EX E g l) x z with
  | false=>rfl
  | true=>have:=(key x z i k c hk).1 h;omega
def EH[Inhabited {d:D // d∈l}]{d d':Array {d:D // d∈l}}(K:(d.toList.map (·.1)).Perm l)(hp:PermIn 0 d.size d d')(L:SortedIn (ltOf (EX E g l)) 0 d.size d'):d'.toList.map (·.1)=l:=by
 obtain⟨p1,_,F⟩:=hp;have q:d'.toList.Perm d.toList:=by
  have G:d'.extract 0 d.size=d':=by rw[<-p1];simp
  rw[G] at F;simpa using F
 have m:(d'.toList.map (·.1)).Perm l:=(q.map _).trans K;have hlen:(d'.toList.map (·.1)).length=l.length:=m.length_eq;have nd:=m.symm.nodup (vc hc);have asc:(d'.toList.map (·.1)).Pairwise (λx y=>rt E g x y=true):=by
  rw[z7b];intro i j p t k;simp only[zva,zFb] at p t;have h1:=L i j (zoa _) k j1
  rw[getElem!_pos d' j t,getElem!_pos d' i p,zy] at h1;simp only[zBd,zKd];obtain⟨a,n,c⟩:=z2a (d'[i]).2;obtain⟨b,o,f⟩:=z2a (d'[j]).2;have w:l[a]?=some (d'[i]).1:=by rw[zea n,c]
  have A:l[b]?=some (d'[j]).1:=by rw[zea o,f]
  have N:¬ b<a:=λh=>by rw[(eM hc A w).1.2 h] at h1;cases h1
  have O:a≠b:=λe=>by
   subst e;have:(d'[i]).1=(d'[j]).1:=by rw[<-c,<-f]
   have:=z7b.1 nd i j (by simpa using p) (by simpa using t) k
   simp only[zBd,zKd] at this;contradiction
  exact(eM hc w A).1.2 j1
 have key:∀ {a b:List D},a.Pairwise (λx y=>rt E g x y=true)->b.Pairwise (λx y=>rt E g x y=true)->a.Perm b->(∀ x∈a,x∈l)->a=b:=by
  intro a
  induction a with
  | nil=>intro b _ _ hp _;exact hp.symm.eq_nil.symm ▸ rfl
  | cons x a ih=>
   intro b I J hp hm;cases b with
   | nil=>exact z3a hp.eq_nil s6
   | cons y b=>
    obtain⟨a1,a2⟩:=z9a.1 I;obtain⟨b1,b2⟩:=z9a.1 J;have e:x=y:=by
     rcases zGa.1 (hp.subset zwa) with e|m1
     ·exact e
     ·rcases zGa.1 (hp.symm.subset (zwa (a:=y))) with e|m2
      ·exact e.symm
      ·exfalso;have h1:=b1 x m1;have H:=a1 y m2;obtain⟨i,r,s⟩:=z2a (hm x zwa);obtain⟨j,u,v⟩:=z2a (hm y (zma _ m2));have B:l[i]?=some x:=by rw[zea r,s]
       have C:l[j]?=some y:=by rw[zea u,v]
       have:=(eM hc B C).1.1 H;have:=(eM hc C B).1.1 h1;omega
    subst e;rw[ih a2 b2 ((List.perm_cons x).1 hp) (λz M=>hm z (zma _ M))]
 exact key asc ((jC hc).1.imp λh=>h.1) m λx hx=>m.subset hx
end
def qF:D->Bool
 | .int ..=>true
 | .bool _=>true
 | _=>false
def fM:D->Value
 | .int k n=>.int k n
 | .bool b=>.bool b
 | _=>undef
mutual
theorem gt:∀ (t:Ty) (x:D),bE t=true->wt t x->∀ d∈x.flat,qF d=true
 | .int k,x,_,h=>by simp only[wt] at h;obtain⟨n,rfl⟩:=h;intro d hd;simp only[D.flat,zKa] at hd;subst hd;rfl
 | .bool,x,_,h=>by simp only[wt] at h;obtain⟨n,rfl⟩:=h;intro d hd;simp only[D.flat,zKa] at hd;subst hd;rfl
 | .str,x,hc,h=>by simp[bE] at hc
 | .st ts,x,hc,h=>by simp only[wt] at h;obtain⟨l,rfl,hl⟩:=h;simp only[bE] at hc;simp only[D.flat];exact tu ts l hc hl
 | .arr n t,x,hc,h=>by
  simp only[wt] at h;obtain⟨l,rfl,hn,hl⟩:=h;clear hn;simp only[bE] at hc;simp only[D.flat]
  induction l with
  | nil=>intro d hd;simp[ad2] at hd
  | cons y l ih=>
   intro d hd;simp only[ad2,zIa] at hd;rcases hd with hd|hd
   ·exact gt t y hc (hl y zwa) d hd
   ·exact ih (λz hz=>hl z (zma _ hz)) d hd
 | .sl t,x,hc,h=>by simp[bE] at hc
 | .tup l,x,hc,h=>by simp[bE] at hc
 | .fn,x,hc,h=>by simp[bE] at hc
theorem tu:∀ (ts:List Ty) (l:List D),lj ts=true->eu ts l->∀ d∈ad2 l,qF d=true
 | [],l,_,h=>by simp only[eu] at h;subst h;intro d hd;simp[ad2] at hd
 | t::ts,l,hc,h=>by
  simp only[eu] at h;obtain⟨y,l',rfl,h1,h2⟩:=h;simp only[lj,zaa] at hc;intro d hd;simp only[ad2,zIa] at hd;rcases hd with hd|hd
  ·exact gt t y hc.1 h1 d hd
  ·exact tu ts l' hc.2 h2 d hd
end
def B4{w:World}{S:Nat->Nat->Prop}{d:D}{c:Value}(hl:qF d=true):CR w S d c↔c=fM d:=by
 cases d<;>simp only[qF] at hl<;>first|(cases hl;done)|skip
 ·exact⟨λh=>h.int_inv,λh=>by subst h;exact .int _ _⟩
 ·exact⟨λh=>h.bool_inv,λh=>by subst h;exact .bool _⟩
def cV{w:World}{S:Nat->Nat->Prop}{e:List D}{cs:List Value}(hl:∀ d∈e,qF d=true):cL w S e cs↔cs=e.map fM:=by
 constructor
 ·rintro⟨h1,g⟩;apply zNb;intro i;rw[zgb];rcases zta i e.length with k|k
  ·have a:=zea k;have b:cs[i]?=some cs[i]:=zea (h1 ▸ k);rw[a,b];simp only[zSb,zda];exact(B4 (hl _ (zWa k))).1 (g i _ _ a b)
  ·rw[zBa k,zBa j1];rfl
 ·rintro rfl;refine⟨s6,λi d c f hc=>?_⟩
  rw[zgb,f] at hc;simp only[zSb,zda] at hc;exact(B4 (hl d (zbb f))).2 hc.symm
theorem vr{k:Nat}(hk:0<k):∀ (l:List D),(∀ x∈l,x.flat.length=k)->∀ t,(ad2 l)[t]?=(l[t/k]?).bind λx=>x.flat[t%k]?
 | [],_,t=>by simp[ad2]
 | x::l,h,t=>by
  have hx:=h x zwa;simp only[ad2];rcases zta t k with c|c
  ·rw[zeb j1,z6a c,zTa c];rfl
  ·rw[zOb j1,hx,vr hk l (λy d=>h y (zma _ d)) (t-k)]
   have a:t/k=(t-k)/k+1:=by rw[Nat.div_eq_sub_div hk c]
   have b:t%k=(t-k)%k:=Nat.mod_eq_sub_mod c;rw[a,b];rfl
structure SortOk(P:Program)(f:Nat)(e:Ty):Prop where
 cmp:bE e=true
 agg:cW e=true
 pos:0<e.size
 nt:ao e=true
 fn : ∃ fn, P.funcs[f]? = some fn /\ (fn.name == "runtime.NumGoroutine") = false /\ fn.body.isSome = true
 empty:∀ (p:Option Addr) (cap:Nat) (fv:Value) (w:World),Calls P f #[.slice p 0 cap,fv] w λen w'=>en=.returned (.tuple #[])/\w'=w
 whole:∀ (α:Type) [Inhabited α] (enc:α->List Value) (_:∀ x,(enc x).length=e.size) (_:∀ x,∀ v∈enc x,v.oneCell'=true) (cf:α->α->Int) (_:SWO (ltOf cf)) (g:Nat) (blk off cap:Nat) (d:Array α) (w:World)
  (_:∀ args w,(callFunc g args).run P w=.ok (.enter g args) w) (_:CmpLays P g #[] enc e.size cf blk off d.size w) (_:HoldsK enc e.size w blk off d) (_:blk<w.heap.size) (_:d.size<4611686018427387904),
  Calls P f #[.slice (some ⟨blk,off,none⟩) d.size cap,.func (.func g) #[] #[]] w λen w'=>en=.returned (.tuple #[])/\∃ d' n os,PermIn 0 d.size d d'/\SortedIn (ltOf cf) 0 d.size d'/\w'=sortWorldK enc e.size w blk off n d' os
section
variable{P:Program}{E:Env}
def A0(hE:EnvOk P E){g:Nat}{ptys:List Ty}{rty:Ty}(h:E.sig g=some (ptys,rty))(args:Array Value)(w:World):(callFunc g args).run P w=.ok (.enter g args) w:=by
 obtain⟨_,_,fn,f1,f2,f3⟩:=hE.sig g ptys rty h;have f2' : ¬ fn.name = "runtime.NumGoroutine" := by simpa using f2
 have hb':¬ fn.body=none:=by intro hh;rw[hh] at f3;cases f3
 simp[callFunc,f1,f2',hb']
def EG(hE:EnvOk P E){f:Nat}{e:Ty}(H:SortOk P f e){g:Nat}(B:E.sig g=some ([e,e],.int .i64)/\E.free g=0){l l':List D}(a7:∀ x∈l,wt e x)(hs:jX E g l=some l')(a4:l≠[]){w:World}{b off cap:Nat}{row:Array Value}
  (R:bO w b=some row) (hc:∀ (i:Nat) (d:D),(ad2 l)[i]?=some d->w.cell? ⟨b,off+i,none⟩=some (fM d)) (hlen:l.length<4611686018427387904) :
  Calls P f #[.slice (some ⟨b,off,none⟩) l.length cap,.func (.func g) #[] #[]] w λen w'=>en=.returned (.tuple #[])/\l'.Perm l/\w.drawn<=w'.drawn/\w'.tape=w.tape/\w'.os=w.os/\w'.output=w.output/\w.heap.size<=w'.heap.size ∧
   (∀ T,T≠b->T<w.heap.size->w'.heap[T]?=w.heap[T]?)/\∀ (i:Nat) (d:D),(ad2 l')[i]?=some d->w'.cell? ⟨b,off+i,none⟩=some (fM d):=by
 have a5:yJ E g l'=true/\l'=kL (rt E g) l:=by
  unfold jX at hs;split at hs
  ·rename_i h;cases hs;exact⟨h,rfl⟩
  ·cases hs
 obtain⟨s,hl'⟩:=a5;have k:l'.Perm l:=hl' ▸ gz _ l;have I:∀ x∈l,x∈l':=λx hx=>k.symm.subset hx;have p:∀ x∈l',wt e x:=λx hx=>a7 x (k.subset hx);obtain⟨x0,a8⟩:∃ x0,x0∈l':=by
  cases l with
  | nil=>exact z3a rfl a4
  | cons x l=>exact⟨x,I x zwa⟩
 have a9:Inhabited {d:D // d∈l'}:=⟨⟨x0,a8⟩⟩;have N:∀ x:{d:D // d∈l'},x.1.flat.length=e.size:=λx=>ct e x.1 (p x.1 x.2) H.nt;have A:∀ x:{d:D // d∈l'},∀ d∈x.1.flat,qF d=true:=λx=>gt e x.1 H.cmp (p x.1 x.2);obtain⟨d,Q⟩:∃ d:Array {d:D // d∈l'},d.toList.map (·.1)=l:=⟨(l.pmap Subtype.mk I).toArray,by simp[List.map_pmap]⟩
 have M:d.size=l.length:=by rw[<-Q];simp
 have U:b<w.heap.size:=by
  unfold bO at R;cases O:w.heap[b]? with
  | none=>rw[O] at R;cases R
  | some o=>exact(zpa.1 O).1
 have Y:∀ o,w.frozen? ⟨b,o,none⟩=false:=λo=>by
  unfold bO at R;split at R
  ·rename_i c t O;unfold World.frozen?;simp[O]
  ·cases R
 have at_:∀ (dd:Array {d:D // d∈l'}) (t:Nat),t<dd.size*e.size->(ad2 (dd.toList.map (·.1)))[t]?.map fM=some ((flatK (λx:{d:D // d∈l'}=>x.1.flat.map fM) e.size dd)[t]!):=λdd t ht=>by
  rw[get_flatK _ _ _ _ ht,vr H.pos _ (λx hx=>by obtain⟨y,_,rfl⟩:=zDb.1 hx;exact N y)]
  have h1:t/e.size<dd.size:=(zYa H.pos).2 ht;have F:t%e.size<e.size:=zVa _ H.pos;rw[zgb,zJa,zIb h1,getElem!_pos dd _ h1];simp only[zSb,zba];have h3:t%e.size<(dd[t/e.size]).1.flat.length:=by rw[N];exact F
  rw[zea h3,getElem!_pos _ _ (by simpa using h3)]
  simp
 have hH:HoldsK (λx:{d:D // d∈l'}=>x.1.flat.map fM) e.size w b off d:=by
  intro j hj;rw[size_flatK] at hj;refine⟨?_,Y _⟩;have:=at_ d j hj;rw[Q] at this;cases hq:(ad2 l)[j]? with
  | none=>rw[hq] at this;cases this
  | some q=> rw[hq] at this;simp only[zSb,zda] at this;rw[hc j q hq,this];rfl
 have V:CmpLays P g #[] (λx:{d:D // d∈l'}=>x.1.flat.map fM) e.size (EX E g l') b off d.size w:=by
  intro m os dk _ x y;obtain⟨i,a0,a1⟩:=z2a x.2;obtain⟨j,a2,a3⟩:=z2a y.2;obtain⟨_,n,hn⟩:=eM s (i:=i) (j:=j) (x:=x.1) (y:=y.1) (by rw[zea a0,a1]) (by rw[zea a2,a3])
  have L:E.call g [x.1,y.1]=some (.int .i64 n):=by
   unfold AP at hn;obtain⟨r,h1,F⟩:=ab hn;rw[h1];split at F
   ·cases F;rfl
   ·cases F
  have ax:EX E g l' x y=n:=by simp[EX,hn]
  rw[ax];have K:∀ z:{d:D // d∈l'},∀ (w:World) (S:Nat->Nat->Prop),fa w S z.1 (.agg (z.1.flat.map fM).toArray):=λz w S=>by
   refine⟨?_,?_⟩
   ·have C:=p z.1 z.2;have ha:=H.agg;cases e<;>simp only[cW] at ha<;>first|(cases ha;done)|skip
    ·simp only[wt] at C;obtain⟨ll,h1,_⟩:=C;rw[h1];exact⟨_,rfl⟩
    ·simp only[wt] at C;obtain⟨ll,h1,_⟩:=C;rw[h1];exact⟨_,rfl⟩
   ·exact(cV (A z)).2 (by simp[Value.cells])
  have ad:eu [e,e] [x.1,y.1]:=⟨x.1,[y.1],rfl,p _ x.2,⟨y.1,[],rfl,p _ y.2,rfl⟩⟩;have u:=(hE.call g [e,e] (.int .i64) [x.1,y.1] (.int .i64 n) B.1 L ad).1;rw[B.2] at u;have W:=u
   (sortWorldK (λx:{d:D // d∈l'}=>x.1.flat.map fM) e.size w b off m dk os) (λ_ _=>False) [.agg (x.1.flat.map fM).toArray,.agg (y.1.flat.map fM).toArray] (λ_ _ h=>h.elim) ad rfl
   (λi z v C J=>by
    cases i with
    | zero=>simp at C J;subst C;subst J;exact K x _ _
    | succ i=>cases i with
     | zero=>simp at C J;subst C;subst J;exact K y _ _
     | succ i=>simp at C)
  refine W.mono ?_;rintro en w' ⟨v,rfl,⟨os',dr,aI,rfl⟩,_,J⟩;have a6:v=.int .i64 n:=by
   obtain⟨c1,c2⟩:=(J:fa _ _ _ _);have:=(cV (by intro d Q;simp only[D.flat,zKa] at Q;subst Q;rfl)).1 c2
   exact ar c1 (by simpa [D.flat,fM] using this)
  refine⟨by rw[a6],dr-(sortWorldK (λx:{d:D // d∈l'}=>x.1.flat.map fM) e.size w b off m dk os).drawn,os'.toArray,?_⟩
  unfold grown grow World.drewN;simp only[show ∀ a b:Nat,a<=b->a+(b-a)=b from λa b h=>j1,aI]
 have hO:SWO (ltOf (EX E g l')):=LF s;have key:=H.whole {d:D // d∈l'} (λx=>x.1.flat.map fM) (λx=>by simp[N x]) (λx v J=>by obtain⟨q,hq,rfl⟩:=zDb.1 J;have:=A x q hq;cases q<;>simp only[qF] at this<;>first|(cases this;done)|rfl) (EX E g l') hO g b off cap d w (A0 hE B.1) V hH U j1
 rw[M] at key;refine key.mono ?_;rintro en w' ⟨rfl,d',n,os,hp,Z,rfl⟩;rw[<-M] at hp Z;have X:d'.toList.map (·.1)=l':=EH s (d:=d) (by rw[Q];exact k.symm) hp Z
 have G:d'.size=d.size:=hp.1;have al:=holdsK_sortWorldK_c (λx:{d:D // d∈l'}=>x.1.flat.map fM) e.size w b off d d' n os hH U G;refine⟨rfl,k,?_,rfl,rfl,rfl,?_,λT O an=>?_,λi q hq=>?_⟩
 ·show w.drawn<=w.drawn+n;omega
 ·simp only[sortWorldK,grow,putRowK,putRow,mapBlock,Go.Sort.ahead,Array.size_append,Array.size_modify];omega
 ·simp only[sortWorldK,grow,putRowK,putRow,mapBlock,Go.Sort.ahead];rw[Array.getElem?_append_left (by simpa using an),z9c,zga (Ne.symm O)]
 ·have hi:i<d'.size*e.size:=by
   have h1:=(zna.1 hq).1;rw[aK H.nt l' p] at h1;rw[G,M,<-k.length_eq];exact h1
  have F:=at_ d' i hi;rw[X,hq] at F;simp only[zSb,zda] at F;have h3:=(al i (by rw[size_flatK];exact hi)).1
  rw[h3,<-F];rfl
end
end Sy
end
noncomputable section
namespace Sy
open Go Go.ChangeShapes Go.WideShapes Go.ChangeAt Go.RowKit
def bool_of{W:World}{S:Nat->Nat->Prop}{b:Bool}{v:Value}(h:DR W S (.bool b) v):v=.bool b:=by
 obtain⟨h1,c⟩:=(h:fa W S (.bool b) v);have e:=(cV (by intro d a;simp only[D.flat,zKa] at a;subst a;rfl)).1 c
 exact ar h1 (by simpa [D.flat,fM] using e)
section
variable{H:Type}{enc:TypeId×Value->H}{P:Program}{W:World}
def MM{ty:Ty}{T:TypeId}(hl:bL P ty T=true)(hp:oV ty=true){base:Nat}{v:Value}(c:Value.okWide P W .any base T v){d0:DataW H}{p0:List MemPlace}{spare:Nat->Bool}{held:Bool}(h:DataW.Trod enc P W 0 spare held T v d0 p0) :
  ∃ d,wt ty d/\EY d/\fa W (pq W) d v:=by
 obtain⟨fuel,g⟩:=h;obtain⟨d,h1,a,f⟩:=rY (W:=W) ty T fuel _ _ hl hp g;refine⟨d,h1,a,?_,f⟩;have na:∀ {u:TypeDesc},P.underlying T=some u->(match u with|.struct _=>False|.array _ _=>False|_=>True)->∀ cs,v≠.agg cs:=λ{u} hu hn cs e=>by subst e;simp only[Value.okWide,hu] at c;cases u<;>simp only[Cell.okWide,Cell.ok,hu] at c<;>first|exact hn|(cases c;done)|exact c
 cases ty with
 | int k=>obtain⟨n,rfl⟩:=h1;exact na (jk hl) trivial
 | bool=>obtain⟨b,rfl⟩:=h1;exact na (u:=.bool) (by simp only[bL,zaa] at hl;have a:=hl.2;split at a<;>first|assumption|cases a) trivial
 | str=>obtain⟨s,rfl⟩:=h1;exact na (u:=.string) (by simp only[bL,zaa] at hl;have a:=hl.2;split at a<;>first|assumption|cases a) trivial
 | st j=> obtain⟨l,rfl,_⟩:=h1;obtain⟨i,hu,_⟩:=iI hl;obtain⟨cs,h,_⟩:=okWide_struct hu c;exact⟨cs,h⟩
 | arr n e=> obtain⟨l,rfl,_⟩:=h1;obtain⟨u,hu,_⟩:=ef hl;simp only[Value.okWide,hu] at c;obtain⟨cs,h,_⟩:=c;exact⟨cs,h⟩
 | sl e=> obtain⟨l,rfl,_⟩:=h1;obtain⟨u,hu,_⟩:=gZ hl;exact na hu trivial
 | tup l=>simp[bL] at hl
 | fn=>simp[bL] at hl
def zt(P:Program):List Ty->List TypeId->Bool
 | [],[]=>true
 | ty::a,T::Ts=>bL P ty T&&oV ty&&zt P a Ts
 | _,_=>false
theorem Kc:∀ {c:List Ty} {Ts:List TypeId},zt P c Ts=true->∀ {vs:List Value} {e:List (DataW H)} {ps:List MemPlace} {base:Nat} {spare:Nat->Bool} {held:Bool},DataW.TrodAll enc P W 0 spare held Ts vs e ps ->
  (∀ (j:Nat) t v,Ts[j]?=some t->vs[j]?=some v->Value.okWide P W .any base t v)->∃ xs,eu c xs/\tP xs/\vs.length=xs.length/\∀ (i:Nat) (x:D) (v:Value),xs[i]?=some x->vs[i]?=some v->fa W (pq W) x v
 | [],[],_,vs,e,ps,base,spare,held,h,f=>by obtain⟨rfl,rfl,rfl⟩:=trodAll_nil h;exact⟨[],rfl,trivial,rfl,s6⟩
 | ty::c,T::Ts,hl,vs,e,ps,base,spare,held,h,f=>by
  simp only[zt,zaa] at hl;obtain⟨v,l,d,k,p,q,rfl,rfl,rfl,h0,h1⟩:=trodAll_cons h;obtain⟨x,x1,m,n⟩:=MM hl.1.1 hl.1.2 (f 0 T v rfl rfl) h0;obtain⟨xs,o,r,s,w⟩:=Kc hl.2 h1 (λj t u a b=>f (j+1) t u (by simpa using a) (by simpa using b))
  refine⟨x::xs,⟨x,xs,rfl,x1,o⟩,⟨m,r⟩,by simp[s],λi z u g hu=>?_⟩
  cases i with
  | zero=>simp at g hu;subst g;subst hu;exact n
  | succ i=>exact w i z u (by simpa using g) (by simpa using hu)
 | [],_::_,h,_,_,_,_,_,_,_,_=>by simp[zt] at h
 | _::_,[],h,_,_,_,_,_,_,_,_=>by simp[zt] at h
theorem Nd:∀ {Ts:List TypeId} {vs:List Value} {a:List (DataW H)} {ps:List MemPlace} {base:Nat} {spare:Nat->Bool} {held:Bool},DataW.TrodAll enc P W base spare held Ts vs a ps->a.length=Ts.length
 | [],vs,a,ps,_,_,_,h=>by obtain⟨rfl,rfl,rfl⟩:=trodAll_nil h;rfl
 | T::Ts,vs,a,ps,_,_,_,h=>by obtain⟨v,c,d,b,p,q,rfl,rfl,rfl,h0,h1⟩:=trodAll_cons h;simp[Nd h1]
theorem Dy{W':World}(hl:laidOutB P=true):∀ {Ts:List TypeId},Ts.all (λt=>P.readableRec t&&decide (t<P.types.size))=true->∀ {vs:List Value} {c:List (DataW H)} {ps:List MemPlace},
  DataW.TrodAll enc P W 0 (λ_=>true) true Ts vs c ps->Below W.heap.size W W'->(∀ x∈ps,x.block<W.heap.size)->DataW.TrodAll enc P W' 0 (λb=>decide (b<W.heap.size)) true Ts vs c ps
 | [],_,vs,c,ps,h,_,_=>by obtain⟨rfl,rfl,rfl⟩:=trodAll_nil h;exact trodAll_mk0
 | T::Ts,e,vs,c,ps,h,f,a=>by simp only[zyb,zaa,zia] at e;obtain⟨v,i,d,g,p,q,rfl,rfl,rfl,h0,h1⟩:=trodAll_cons h;exact⟨p,q,Below.trod hl e.1.1 e.1.2 h0 f (λx hx=>a x (by simp[hx])),Dy hl e.2 h1 f (λx hx=>a x (by simp[hx])),rfl⟩
end
end Sy
end
noncomputable section
namespace Sy
open Go
variable{ro:Option Nat}{nn:Nat}
def AO(s:St):List ResultVar->Option (Nat×List AV)
 | [.tmp i]=>match s.tm i with
  | .clo f l=>some (f,l)
  | _=>none
 | _=>none
def qd(s:St)(t:Ty):List ResultVar->Option (Nat×List D)
 | [.tmp i]=>match s.tm i with
  | .own a v l=>if a.beq t&&!(s.dead.contains v) then some (v,l) else none
  | _=>none
 | _=>none
def Bm(s:St):List ResultVar->Bool
 | [.tmp i]=>match s.tm i with
  | .nils=>true
  | _=>false
 | _=>false
def KO{R:Type}(E:Env)(s sc:St)(a:List Nat)(b:List ResultVar)(K:AV->St->Option R):Ty->Option R
 | .fn=>(AO sc b).bind λq=>K (.clo q.1 q.2) (nh s sc a)
 | .sl t=>match qd sc t b with
  | some q=>K (.own t q.1 q.2) (nh s sc a)
  | none=>if Bm sc b then K .nils (nh s sc a) else(results E sc (.sl t) b).bind λy=>K (.d (.sl t) y) (nh s sc a)
 | c=>(results E sc c b).bind λy=>K (.d c y) (nh s sc a)
def NF(E:Env)(fn:Func)(b:Ty)(ann:Ann)(R:Type)(s:St)(a:List AV)(K:AV->St->Option R):Option R:=
 match fn.body with
 | none=>none
 | some c=>if a.length<=fn.ntmps/\(eJ s).length<=4096 then HV E c ann R (KQ s fn.ntmps a (A8 s a b)) λe sc=>match e with
   | .exit _=>none
   | _=>KO E s sc (A8 s a b) fn.results.toList K b
  else none
def BD(n:Nat)(a:Ty):Bool:=match a with|.fn=>decide (n=1)|a=>fd n a
section
variable{P:Program}{E:Env}{w0:Root}{S S':Nat->Nat->Prop}{γ γ':Nat->Option Nat}{β β' β'':Nat->Option (Nat×Nat)}{s sc:St}{a:Act}{w w':World}
def MD{c:Cx}{b:Ty}{n:Nat}{y:D}{v:Value}(e:fd n b=true)(a:wt b y)(h:DR c.w c.S y v):AR c (.d b y) v:=by
 simp only[AR];have key:ao b=true\/∃ g,b=.tup g/\aO g=true:=by
  unfold fd at e;split at e
  ·exact .inl e
  ·split at e
   ·exact .inr ⟨_,rfl,e⟩
   ·cases e
 rcases key with f|⟨g,rfl,f⟩
 ·refine .inl ⟨f,a,?_⟩;cases b<;>simp only[wt] at a<;>first
   | (obtain⟨m,rfl⟩:=a;exact h)
   | (obtain⟨m,rfl,_⟩:=a;exact h)
   | (exact a.elim)
   | (simp[ao] at f)
 ·exact .inr ⟨g,rfl,f,a,h⟩
def DN(h:Rp w0 S γ β s a w){fn:Func}{q:Nat×List AV}(hq:AO s fn.results.toList=some q):∃ v,(Go.results fn a.tmps).run P w=.ok v w/\AR ⟨w,S,γ,β,s.ob,s.dead⟩ (.clo q.1 q.2) v:=by
 rw[iO];have hm:fn.results.mapM (jf a.tmps)=Functor.map List.toArray (fn.results.toList.mapM (jf a.tmps)):=by rw[zrc]
 rw[hm];generalize fn.results.toList=g at *;unfold AO at hq;split at hq<;>first|(cases hq;done)|skip
 rename_i i;split at hq<;>first|(cases hq;done)|skip
 rename_i f l b;cases hq;have e:i<a.tmps.size:=by
  rcases zta i a.tmps.size with d|c
  ·exact d
  ·have:=h.tmu i (by rw[<-h.nt];exact c)
   rw[b] at this;cases this
 have:=h.tms i e;rw[b] at this;exact⟨a.tmps.getD i undef,by simp[zBc,jf],this⟩
def wc(h:Rp w0 S γ β s a w){fn:Func}{t:Ty}{q:Nat×List D}(hq:qd s t fn.results.toList=some q):∃ v,(Go.results fn a.tmps).run P w=.ok v w/\AR ⟨w,S,γ,β,s.ob,s.dead⟩ (.own t q.1 q.2) v:=by
 rw[iO];have hm:fn.results.mapM (jf a.tmps)=Functor.map List.toArray (fn.results.toList.mapM (jf a.tmps)):=by rw[zrc]
 rw[hm];generalize fn.results.toList=g at *;unfold qd at hq;split at hq<;>first|(cases hq;done)|skip
 rename_i i;split at hq<;>first|(cases hq;done)|skip
 rename_i j v l b;split at hq<;>first|(cases hq;done)|skip
 rename_i e;simp only[zaa] at e;have:=aeK _ _ e.1;subst this;cases hq;have f:i<a.tmps.size:=by
  rcases zta i a.tmps.size with d|c
  ·exact d
  ·have:=h.tmu i (by rw[<-h.nt];exact c)
   rw[b] at this;cases this
 have:=h.tms i f;rw[b] at this;exact⟨a.tmps.getD i undef,by simp[zBc,jf],this⟩
def Ed(h:Rp w0 S γ β s a w){fn:Func}(hq:Bm s fn.results.toList=true):∃ v,(Go.results fn a.tmps).run P w=.ok v w/\AR ⟨w,S,γ,β,s.ob,s.dead⟩ .nils v:=by
 rw[iO];have hm:fn.results.mapM (jf a.tmps)=Functor.map List.toArray (fn.results.toList.mapM (jf a.tmps)):=by rw[zrc]
 rw[hm];generalize fn.results.toList=f at *;unfold Bm at hq;split at hq<;>first|(cases hq;done)|skip
 rename_i i;split at hq<;>first|(cases hq;done)|skip
 rename_i b;have e:i<a.tmps.size:=by
  rcases zta i a.tmps.size with d|c
  ·exact d
  ·have:=h.tmu i (by rw[<-h.nt];exact c)
   rw[b] at this;cases this
 have:=h.tms i e;rw[b] at this;exact⟨a.tmps.getD i undef,by simp[zBc,jf],this⟩
def KP(i:EnvOk P E){a':Act}(g:Rp w0 S γ β sc a' w'){fn:Func}{a:Ty}{f:List Nat}(e:BD fn.results.size a=true){R:Type}{K:AV->St->Option R}{r:R}(hq:KO E s sc f fn.results.toList K a=some r) :
  ∃ v x,(Go.results fn a'.tmps).run P w'=.ok v w'/\AR ⟨w',S,γ,β,sc.ob,sc.dead⟩ x v/\K x (nh s sc f)=some r:=by
 have plain:fd fn.results.size a=true->(results E sc a fn.results.toList).bind (λy=>K (.d a y) (nh s sc f))=some r->∃ v x,(Go.results fn a'.tmps).run P w'=.ok v w'/\AR ⟨w',S,γ,β,sc.ob,sc.dead⟩ x v/\K x (nh s sc f)=some r:=λe hq=>by obtain⟨y,h1,h⟩:=ab hq;obtain⟨v,b,c,j⟩:=iP i g e h1;exact⟨v,_,b,MD e c j,h⟩
 cases a
 case fn=> obtain⟨q,h1,h⟩:=ab hq;obtain⟨v,b,c⟩:=DN (P:=P) g h1;exact⟨v,_,b,c,h⟩
 case sl t=>
  simp only[KO] at hq;split at hq
  ·rename_i q h1;obtain⟨v,b,c⟩:=wc (P:=P) g h1;exact⟨v,_,b,c,hq⟩
  ·split at hq
   ·rename_i h1;obtain⟨v,b,c⟩:=Ed (P:=P) g h1;exact⟨v,_,b,c,hq⟩
   ·exact plain e hq
 all_goals exact plain e hq
def KN(O:EnvOk P E){f:FuncId}{fn:Func}{k:Ty}(V:P.funcs[f]?=some fn)(Y:BD fn.results.size k=true):Fl P f (NF E fn k):=by
 intro ann R w0 S γ β s a w z vs K r h hlen J d;unfold NF at d;split at d<;>first|(cases d;done)|skip
 rename_i c D;split at d<;>first|(cases d;done)|skip
 rename_i A;obtain⟨W,C⟩:=A;obtain⟨B,L⟩:∃ B,B=A8 s z k:=⟨_,rfl⟩;rw[<-L] at d;have C:=zNa (List.length_filter_le (λv=>!(B.contains v)) (eJ s)) C;obtain⟨I,g⟩:∃ I,I=uW s B:=⟨_,rfl⟩;obtain⟨sh,H⟩:∃ sh:Nat->Prop,sh=λb=>(∃ id,γ id=some b)\/∃ v e,v ∉ I++s.dead/\β v=some (b,e):=⟨_,rfl⟩;have ad:vs.length<=fn.ntmps:=j1
 have G:(vs.toArray++Array.replicate (fn.ntmps-vs.toArray.size) undef).size=fn.ntmps:=by simp;omega
 have M:Cx.le ⟨w,S,γ,β,s.ob,s.dead⟩ ⟨w,S,γ,β,s.ob,I++s.dead⟩:=
  ⟨λ_ _ _=>rfl,λ_ _ D=>D,λ_ _ D=>D,λid o X _=>⟨o,X,λp=>⟨rfl,rfl⟩,λt l e=>⟨l,e,rfl⟩,λ_ _ l e=>⟨l,e⟩⟩,λu hu=>⟨λF=>hu (zfb _ F),λb e he=>⟨he,λn hn=>hn⟩⟩⟩
 have U:Rp ⟨w,S,sh⟩ S γ β (KQ s fn.ntmps z B) { tmps:=vs.toArray++Array.replicate (fn.ntmps-vs.toArray.size) undef,defers:=[] } w:=by
  refine CP h g H (λ_ _ F=>F) rfl (by rw[g];rfl) G (λt Q=>?_) λt Q=>?_
  ·have Z:fn.ntmps<=t:=Q;simp only[KQ];rw[zsa,zBa j1]
   rfl
  ·simp only[KQ];by_cases hlt:t<vs.length
   ·have m:t<z.length:=j1
    have hv:(vs.toArray++Array.replicate (fn.ntmps-vs.toArray.size) undef).getD t undef=vs[t]:=by simp[Array.getD,zuc,hlt];omega
    rw[hv,zsa,zea m];exact(J t _ _ (zea m) (zea hlt)).mono M
   ·rw[zsa,zBa j1]
    simp only[Option.getD_none,AR]
 refine gK O V D rfl U d (λ_ _ F=>by cases F) λe sc S' γ' β' a' w' T j n3 N=>?_
 have q:KO E s sc B fn.results.toList K k=some r->(∃ v,(Go.results fn a'.tmps).run P w'=.ok v w'/\∃ v' y s' S' γ' β',Ending.returned v=.returned v'/\K y s'=some r/\Rp w0 S' γ' β' s' a w'/\AR ⟨w',S',γ',β',s'.ob,s'.dead⟩ y v'/\Fm s S γ a w S' γ' a w'/\Sk s s'):=λhq=>by
  obtain⟨v,x,k1,k2,k3⟩:=KP O T Y hq;obtain⟨β'',q1,q2⟩:=Cg h g H (by rw[g];exact C) T j.sub j.cell j.gam j.sz
  exact⟨v,k1,v,x,nh s sc B,S',γ',β'',rfl,k3,q1,k2.mono q2,⟨j.sub,j.cell,λ_ _=>rfl,j.objs,j.sz,j.gam,j6.same rfl j.dfs.1⟩,⟨rfl,rfl,rfl⟩⟩
 cases e with
 | normal=>exact q N
 | ret=>exact q N
 | exit i=>cases N
def Nh(E:Env)(fn:Func)(ann:Ann)(a:List Ty)(t:Ty)(args:List D):Option (List D):=
 match fn.body with
 | none=>none
 | some c=>HV E c ann (List D) { tm:=fX a args,ob:=λ_=>none,fresh:=0,dead:=[],nt:=fn.ntmps,lkS:=[],lkO:=[] } λe s=>match e with
  | .exit _=>none
  | _=>(qd s t fn.results.toList).bind λq=>some q.2
def E3.ctr{a:List Ty}{t:Ty}{f:FuncId}{xs l:List D}(h:E3 P a t f xs l):HZ P a (.sl t) f xs (.sl l):=by intro w S vs g d hlen c;refine(h w S vs g d hlen c).mono λe w' ⟨A,cap,he,i,k,hl,S',s1,s2,b,_⟩=>⟨_,he,i,⟨l,rfl,hl⟩,?_⟩;exact⟨λcs j=>(by cases j),cL.single.2 (b.mono (λ_ _ _=>rfl) s2)⟩
def yM(O:EnvOk P E){f:FuncId}{fn:Func}{ann:Ann}{k:List Ty}{t:Ty}{xs l:List D}(s:P.funcs[f]?=some fn)(U:k.length<=fn.ntmps)(hn:aO k=true)
  (h:Nh E fn ann k t xs=some l):E3 P k t f xs l:=by
 intro w S vs Q B hlen I;unfold Nh at h;split at h<;>first|(cases h;done)|skip
 rename_i c g;have X:xs.length=k.length:=gA B;have z:(vs.toArray++Array.replicate (fn.ntmps-vs.toArray.size) undef).size=fn.ntmps:=by simp;omega
 refine gK (w0:=⟨w,S,λ_=>False⟩) (S:=S) (γ:=λ_=>none) (β:=λ_=>none) O s g rfl ?_ h (λ_ _ R=>by cases R) λe s' S' γ' β' a' w' F n2 n3 K=>?_
 ·refine⟨⟨rfl,rfl,rfl,zka _,zka _,λ_ _=>rfl⟩,λt M=>?_,z,λt M=>?_,λid o b T=>(by cases T),λid b g=>(by cases g),λid Y b g=>(by cases g),λ_ _=>rfl,λv b e _ g=>(by cases g),λv v' b e e' _ _ g=>(by cases g),λv id b e _ g=>(by cases g),λ_ _=>rfl,Q,λb o g _=>g⟩
  ·simp only[fX];split
   ·rename_i ty x L G;have m:=(zna.1 G).1;have p:t<vs.length:=j1
    have W:(vs.toArray++Array.replicate (fn.ntmps-vs.toArray.size) undef).getD t undef=vs[t]:=by simp[Array.getD,zuc,p];omega
    show AR _ _ ((vs.toArray++Array.replicate (fn.ntmps-vs.toArray.size) undef).getD t undef);rw[W];obtain⟨x',C,J⟩:=fg B L;rw[G] at C;cases C;exact c6 (bJ hn L) J (I t x _ G (zea p))
   ·simp only[AR]
  ·have V:fn.ntmps<=t:=M;simp only[fX];rw[zBa j1]
 ·have r:(qd s' t fn.results.toList).bind (λq=>some q.2)=some l->(∃ v,(Go.results fn a'.tmps).run P w'=.ok v w'/\∃ a cap,Ending.returned v=.returned (.slice a l.length cap)/\(∃ os d,w.drawn<=d/\w'=grown w os d)/\ao t=true/\(∀ x∈l,wt t x)/\∃ S':Nat->Nat->Prop,(∀ b o,S b o->S' b o)/\(∀ b o,S' b o->S b o\/(w.heap.size<=b/\b<w'.heap.size)) ∧
    CR w' S' (.sl l) (.slice a l.length cap)/\((a=none/\cap=0)\/∃ b off,a=some ⟨b,off,none⟩/\(w.heap.size<=b/\b<w'.heap.size)/\(∃ n,kW w' b=some n/\off+cap*t.size<=n/\off=0)/\∀ o,off+l.length*t.size<=o->¬ S' b o)):=λhq=>by
   obtain⟨q,j,H⟩:=ab hq;cases H;have y:q.1 ∉ s'.dead:=by
    unfold qd at j;split at j<;>first|(cases j;done)|skip
    split at j<;>first|(cases j;done)|skip
    split at j<;>first|(cases j;done)|skip
    rename_i g;cases j;simp only[zaa,zCa] at g;simpa using g.2
   obtain⟨v,Z,N⟩:=wc (P:=P) F j;simp only[AR,AC] at N;obtain⟨na,m1,m2,A,cap,m3,m4,m5⟩:=N;refine⟨v,Z,A,cap,by rw[ar na m3],eO F.ext (λ_ s=>s),m1,m2,S',n2.sub,λb o g=>?_,m4,?_⟩
   ·rcases zta b w.heap.size with m|u
    ·exact .inl (F.So b o g ⟨m,λs=>s⟩)
    ·exact .inr ⟨u,F.Sb b o g⟩
   ·rcases m5 y with m5|⟨b,off,rfl,m6,m7⟩
    ·exact .inl m5
    ·obtain⟨z1,z2,z3⟩:=F.βn _ _ _ y m6;refine .inr ⟨b,off,rfl,⟨?_,z2⟩,m7,z3⟩;rcases zta b w.heap.size with m|u
     ·exact z3a ⟨m,λs=>s⟩ z1
     ·exact u
  cases e with
  | normal=>exact r K
  | ret=>exact r K
  | exit i=>cases K
end
end Sy
end
noncomputable section
namespace Sy
abbrev K0:Ty:=Ty.st [Ty.int .i64,Ty.int .i64,Ty.bool,Ty.int .u8]
abbrev K1:Ty:=Ty.arr 3 (Ty.int .i64)
abbrev K2:Ty:=Ty.sl (K1)
abbrev K3:Ty:=Ty.st [K2]
abbrev K4:Ty:=Ty.st [K3,Ty.int .i64]
abbrev K5:Ty:=Ty.sl (Ty.int .i64)
abbrev K6:Ty:=Ty.st [K1,Ty.int .i64,K5]
abbrev K7:Ty:=Ty.sl (K6)
abbrev K8:Ty:=Ty.arr 2 (Ty.int .i64)
abbrev K9:Ty:=Ty.sl (K8)
abbrev aZ:Ty:=Ty.arr 16 (Ty.int .u32)
abbrev am:Ty:=Ty.st [Ty.bool,Ty.bool,aZ]
abbrev aG:Ty:=Ty.st [am,am]
abbrev jz:Ty:=Ty.arr 3 (aG)
abbrev K14:Ty:=Ty.sl (aG)
abbrev dK:Ty:=Ty.st [K1,Ty.int .i64]
abbrev Ou:Ty:=Ty.sl (dK)
abbrev gJ:Ty:=Ty.arr 3 (am)
abbrev J7:Ty:=Ty.arr 32 (Ty.int .u32)
abbrev K26:Ty:=Ty.sl (Ty.int .u32)
abbrev be:Ty:=Ty.sl (am)
abbrev rD:Ty:=Ty.arr 17 (Ty.int .u32)
abbrev K31:Ty:=Ty.tup [aZ,Ty.bool]
abbrev Up:Ty:=Ty.tup [Ty.int .i64,Ty.bool]
abbrev K33:Ty:=Ty.tup [K5,K5]
abbrev K34:Ty:=Ty.tup [aZ,aZ]
abbrev K35:Ty:=Ty.tup [am,am]
abbrev K36:Ty:=Ty.tup [aZ,Ty.int .u32]
abbrev RF:Ty:=Ty.tup []
abbrev ew:Ty:=Ty.arr 4 (Ty.int .i64)
abbrev fC:Ty:=Ty.st [K1,ew]
abbrev K42:Ty:=Ty.sl (fC)
abbrev MH:Ty:=Ty.arr 2 (am)
abbrev Pt:Ty:=Ty.arr 9 (Ty.int .i64)
abbrev K56:Ty:=Ty.tup [ew,Ty.bool]
abbrev cR:Ty:=Ty.st [K1,aG]
abbrev Pu:Ty:=Ty.st [cR,Ty.bool]
abbrev cl:Ty:=Ty.st [fC,K3,Ty.int .i64,K2]
abbrev K62:Ty:=Ty.sl (cl)
abbrev K64:Ty:=Ty.tup [cR,Ty.bool]
abbrev K67:Ty:=Ty.tup [K1,Ty.int .i64]
abbrev bP:Ty:=Ty.st [fC,fC]
abbrev RG:Ty:=Ty.st [aG,cR]
abbrev Ay:Ty:=Ty.sl (RG)
abbrev Uq:Ty:=Ty.st [Ay,Ty.int .i64]
abbrev Ur:Ty:=Ty.st [Ay,Ty.bool]
abbrev K73:Ty:=Ty.st [K1,aG,aG]
abbrev pE:Ty:=Ty.arr 3 (be)
abbrev B6:Ty:=Ty.arr 4 (am)
abbrev Us:Ty:=Ty.st [ew,Ty.int .i64]
abbrev AD:Ty:=Ty.st [pE,be]
abbrev uF:Ty:=Ty.st [be,Ty.bool]
abbrev pF:Ty:=Ty.arr 4 (be)
abbrev HS:Ty:=Ty.arr 9 (be)
abbrev K81:Ty:=Ty.sl (be)
abbrev Ut:Ty:=Ty.tup [Ay,Ty.int .i64]
abbrev K83:Ty:=Ty.tup [Ay,Ty.bool]
abbrev K84:Ty:=Ty.tup [pE,be]
abbrev K85:Ty:=Ty.tup [be,Ty.bool]
abbrev K86:Ty:=Ty.tup [ew,Ty.int .i64]
abbrev K87:Ty:=Ty.tup [B6,Ty.bool]
def HX:Nat:=343
def EE:Nat:=365
abbrev bb{α:Type}(t n:Nat)(a b:α):α:=bif Nat.blt t n then a else b
abbrev Ti:Ty:=.int .i64
abbrev c7{α:Type}(a:α):Option α:=some a
abbrev aE(n:Nat)(l:List Ty)(t:Ty):Option (Nat×List Ty×Ty):=some (n,l,t)
def QU(t:Nat):Option Ty:=bif Nat.blt t HX then(bb t 171 (bb t 85 (bb t 42 (bb t 21 (bb t 10 (bb t 5 (bb t 2 none (bb t 3 (c7 Ti) (bb t 4 (c7 Ti) (c7 Ty.bool)))) (bb t 7 (bb t 6 (c7 (Ty.int .u8)) (c7 (Ty.int .u8))) (bb t 8 (c7 K0) (bb t 9 (c7 K0) (c7 Ty.str))))) (bb t 15 (bb t 12 (bb t 11 (c7 Ty.str) (c7 Ty.str)) (bb t 13 (c7 (Ty.int .u64)) none)) none)) (bb t 31 (bb t 26 (bb t 23 (bb t 22 (c7 (Ty.int .i32)) (c7 K1)) (bb t 24 (c7 K1) (bb t 25 (c7 ew) (c7 ew)))) (bb t 28 (bb t 27 (c7 fC) (c7 fC)) (bb t 29 (c7 bP) (bb t 30 (c7 bP) (c7 K2))))) (bb t 36 (bb t 33 (bb t 32 (c7 K3) (c7 K3)) (bb t 34 (c7 (Ty.int .u32)) (bb t 35 (c7 aZ) (c7 am)))) (bb t 39 (bb t 37 (c7 am) (bb t 38 (c7 aG) (c7 aG))) none)))) (bb t 63 (bb t 52 (bb t 47 (bb t 44 (bb t 43 (c7 Ay) (c7 Ti)) (bb t 45 none (bb t 46 none (c7 Uq)))) (bb t 49 (bb t 48 (c7 Uq) none) (bb t 50 (c7 cR) (bb t 51 (c7 cR) none)))) (bb t 57 (bb t 54 (bb t 53 none (c7 Pu)) (bb t 55 (c7 Pu) none)) (bb t 60 (bb t 58 none (bb t 59 none (c7 Ur))) (bb t 61 (c7 Ur) none)))) (bb t 74 (bb t 68 (bb t 65 (bb t 64 (c7 RG) (c7 RG)) none) none) (bb t 79 (bb t 76 none (bb t 77 none (bb t 78 (c7 jz) (c7 jz)))) (bb t 82 none (bb t 83 (c7 K42) none)))))) (bb t 128 (bb t 106 (bb t 95 (bb t 90 none (bb t 92 (bb t 91 (c7 Pu) none) none)) (bb t 100 (bb t 97 (bb t 96 (c7 K73) (c7 K73)) none) none)) (bb t 117 (bb t 111 (bb t 108 none (bb t 109 none (bb t 110 (c7 be) (c7 be)))) none) (bb t 122 (bb t 119 none (bb t 120 none (bb t 121 none (c7 pE)))) (bb t 125 none (bb t 126 (c7 cl) (bb t 127 (c7 cl) none)))))) (bb t 149 (bb t 138 (bb t 133 (bb t 130 none (bb t 131 none (bb t 132 (c7 K5) none))) (bb t 135 none (bb t 136 (c7 MH) none))) none) (bb t 160 (bb t 154 (bb t 151 none (bb t 152 (c7 B6) (bb t 153 (c7 Us) (c7 Us)))) (bb t 157 (bb t 155 none (bb t 156 (c7 (Ty.int .u64)) none)) (bb t 158 (c7 (Ty.int .u64)) none))) (bb t 165 none (bb t 168 none (bb t 169 none (bb t 170 (c7 AD) (c7 AD))))))))) (bb t 257 (bb t 214 (bb t 192 (bb t 181 (bb t 176 (bb t 173 (bb t 172 none (c7 uF)) (bb t 174 (c7 uF) none)) (bb t 178 none (bb t 179 none (bb t 180 (c7 pF) none)))) (bb t 186 (bb t 183 none (bb t 184 none (bb t 185 (c7 HS) none))) (bb t 189 none (bb t 190 none (bb t 191 none (c7 K4)))))) (bb t 203 (bb t 197 (bb t 194 (bb t 193 (c7 K4) none) none) none) (bb t 208 (bb t 205 (bb t 204 (c7 gJ) none) (bb t 206 none (bb t 207 none (c7 K62)))) (bb t 211 (bb t 209 (c7 K7) (bb t 210 none (c7 K6))) (bb t 212 (c7 K6) none))))) (bb t 235 (bb t 224 (bb t 219 (bb t 216 none (bb t 217 none (bb t 218 (c7 K9) none))) (bb t 221 (bb t 220 (c7 K8) none) none)) (bb t 229 none (bb t 232 none (bb t 233 none (bb t 234 (c7 J7) (c7 K26)))))) (bb t 246 (bb t 240 none (bb t 243 none (bb t 244 (c7 rD) none))) (bb t 251 (bb t 248 none (bb t 249 none (bb t 250 (c7 K81) none))) (bb t 254 none (bb t 255 none (bb t 256 none (c7 Pt)))))))) (bb t 300 (bb t 278 (bb t 267 (bb t 262 (bb t 259 none (bb t 260 none (bb t 261 none (c7 Ou)))) (bb t 264 (bb t 263 none (c7 dK)) (bb t 265 (c7 dK) none))) (bb t 272 (bb t 269 (bb t 268 (c7 dK) (c7 dK)) none) (bb t 275 none (bb t 276 (c7 K14) none)))) none) (bb t 321 (bb t 310 (bb t 305 (bb t 302 none (bb t 303 none (bb t 304 (c7 Ti) none))) none) (bb t 315 none (bb t 318 (bb t 316 (c7 (Ty.int .u64)) none) none))) (bb t 332 none (bb t 337 (bb t 334 none (bb t 335 (c7 (Ty.int .u8)) (bb t 336 (c7 (Ty.int .u8)) none))) (bb t 340 (bb t 338 none (bb t 339 (c7 (Ty.int .i32)) (c7 (Ty.int .i32)))) none))))))) else none
def LA(t:Nat):Option (Nat×List Ty×Ty):=bif Nat.blt t EE then(bb t 182 (bb t 91 (bb t 45 (bb t 22 (bb t 11 (bb t 5 (bb t 2 none (bb t 3 none (bb t 4 (aE 467 [bP,K3,bP,K3,Ti,aG,aG] Ty.bool) (aE 468 [bP,K3,bP,K3,Ay] Ty.bool)))) (bb t 8 (bb t 6 (aE 469 [bP,K3,bP,K3,Ty.int .u8,Ty.int .u8] Ty.bool) (bb t 7 (aE 470 [bP,K3,bP,K3,Ay,Ty.int .u8,aG] Ty.bool) (aE 471 [bP,K3,bP,K3,Ti] Ty.bool))) (bb t 9 (aE 472 [aG,aG] Ty.bool) (bb t 10 (aE 473 [] Ty.bool) (aE 474 [bP,K3,bP,K3,Ti] Ut))))) (bb t 16 (bb t 13 (bb t 12 (aE 475 [bP,K3,bP,K3,Ti] Uq) (aE 476 [bP,K3,bP,K3,aG,aG] K64)) (bb t 14 (aE 477 [bP,K3,bP,K3,aG,aG] Pu) (bb t 15 (aE 478 [Ay,Ay] Ty.bool) (aE 479 [bP,K3,bP,K3,aG,aG,Ti] K83)))) (bb t 19 (bb t 17 (aE 480 [bP,K3,bP,K3,aG,aG,Ti] Ur) (bb t 18 (aE 217 [am] Ti) (aE 481 [bP,K3,bP,K3,Ay] Ty.bool))) (bb t 20 (aE 482 [bP,K3,bP,K3,Ay] Ty.bool) (bb t 21 (aE 74 [Ti] aG) (aE 483 [cR,bP,K3,bP,K3,aG,aG] Ty.bool)))))) (bb t 33 (bb t 27 (bb t 24 (bb t 23 (aE 484 [cR,bP,K3,bP,K3,aG,aG] Ty.bool) (aE 97 [K1] K1)) (bb t 25 (aE 357 [aG] aG) (bb t 26 (aE 485 [aG,aG] aG) (aE 136 [aG] Ty.bool)))) (bb t 30 (bb t 28 (aE 342 [aG] Ti) (bb t 29 (aE 73 [aG,aG] Ti) (aE 72 [K1,jz] aG))) (bb t 31 (aE 486 [bP,K1,aG] jz) (bb t 32 (aE 421 [cR,fC,K3,fC,K3] Ty.bool) (aE 427 [fC] Ty.bool))))) (bb t 39 (bb t 36 (bb t 34 (aE 431 [K3,Ti] Ty.bool) (bb t 35 (aE 88 [aG] Ty.bool) (aE 426 [am] Ti))) (bb t 37 (aE 322 [aG] Ti) (bb t 38 (aE 324 [aG,aG] Ti) (aE 75 [Ti] aG)))) (bb t 42 (bb t 40 (aE 487 [] K3) (bb t 41 (aE 488 [K1,K1] bP) (aE 489 [K1,K1,bP,K3] Ut))) (bb t 43 (aE 333 [Ti,Ti] aG) (bb t 44 (aE 416 [fC,K3,fC,K3] K64) (aE 417 [fC,K3,fC,K3] Pu))))))) (bb t 68 (bb t 56 (bb t 50 (bb t 47 (bb t 46 none (aE 490 [aG,aG] aG)) (bb t 48 (aE 491 [aG,aG] jz) (bb t 49 (aE 492 [bP,aG] fC) (aE 493 [K1,bP,K3,jz] aG)))) (bb t 53 (bb t 51 (aE 70 [aG] aG) (bb t 52 (aE 112 [K1,K1] K1) (aE 494 [aG,aG] aG))) (bb t 54 (aE 495 [aG,aG] aG) (bb t 55 (aE 127 [aZ] Ti) (aE 118 [be] Ty.bool))))) (bb t 62 (bb t 59 (bb t 57 (aE 165 [Ty.int .u32] Ti) (bb t 58 (aE 90 [am,am] Ti) (aE 54 [Ti] am))) (bb t 60 (aE 32 [am,am] Ti) (bb t 61 (aE 34 [Ti] am) (aE 138 [am] aG)))) (bb t 65 (bb t 63 (aE 496 [cR] Ty.bool) (bb t 64 (aE 497 [bP,K3,Ti,cR,aG,aG] Ty.bool) (aE 498 [be,aG,aG] Ty.bool))) (bb t 66 (aE 499 [be,am] be) (bb t 67 (aE 500 [bP,K1,cR] be) (aE 501 [cR] Ty.bool)))))) (bb t 79 (bb t 73 (bb t 70 (bb t 69 (aE 502 [be,am] be) (aE 503 [bP,K1,cR] be)) (bb t 71 (aE 504 [be,aG,aG] Ty.bool) (bb t 72 (aE 130 [] aG) (aE 68 [am] am)))) (bb t 76 (bb t 74 (aE 174 [aG,aG] aG) (bb t 75 (aE 173 [aG,aG] aG) (aE 128 [am] Ty.bool))) (bb t 77 (aE 129 [am] Ti) (bb t 78 (aE 131 [am,am] am) (aE 169 [] am))))) (bb t 85 (bb t 82 (bb t 80 (aE 132 [am,am] am) (bb t 81 (aE 137 [am,am] am) (aE 134 [jz,jz] aG))) (bb t 83 (aE 135 [K1] jz) (bb t 84 (aE 505 [bP,K1] K84) (aE 352 [aG,aG] aG)))) (bb t 88 (bb t 86 (aE 506 [be,aG] aG) (bb t 87 (aE 433 [fC,K3] cl) (aE 435 [cl,K1] aG))) (bb t 89 (aE 331 [ew] Ty.bool) (bb t 90 (aE 15 [K3] Ti) (aE 76 [am] Ty.bool)))))))) (bb t 136 (bb t 113 (bb t 102 (bb t 96 (bb t 93 (bb t 92 (aE 83 [am] Ti) (aE 85 [am,am] am)) (bb t 94 (aE 133 [] am) (bb t 95 (aE 77 [am] K5) (aE 446 [K5,Ti] Ti)))) (bb t 99 (bb t 97 (aE 344 [aG,Ty.bool] am) (bb t 98 (aE 87 [am,am] am) (aE 345 [am,am] am))) (bb t 100 (aE 37 [am,am] aG) (bb t 101 (aE 62 [am,am] aG) none)))) (bb t 107 (bb t 104 (bb t 103 (aE 434 [K1,cl,cl] aG) (aE 91 [K1,K1] am)) (bb t 105 (aE 436 [fC,K3,fC,K3] K2) (bb t 106 (aE 420 [K1,fC,K3,fC,K3] aG) (aE 428 [K1,aG] aG)))) (bb t 110 (bb t 108 (aE 40 [aG,aG] aG) (bb t 109 (aE 437 [K1,fC,K3] aG) (aE 438 [K1] K1))) (bb t 111 (aE 38 [aG,aG] aG) (bb t 112 (aE 42 [Ti,Ti] aG) (aE 507 [K1,bP,K3,jz] aG)))))) (bb t 124 (bb t 118 (bb t 115 (bb t 114 (aE 337 [aG,aG] aG) none) (bb t 116 (aE 508 [bP,aG] fC) (bb t 117 (aE 509 [aG] am) (aE 510 [aG] am)))) (bb t 121 (bb t 119 (aE 336 [aG,aG] aG) (bb t 120 (aE 511 [Ti,Ti,aG] Ti) (aE 388 [ew,ew] Ti))) (bb t 122 (aE 89 [am,am] am) (bb t 123 (aE 59 [am,am] am) (aE 396 [am,am] am))))) (bb t 130 (bb t 127 (bb t 125 (aE 512 [B6] Us) (bb t 126 (aE 340 [K1,jz] aG) (aE 513 [bP,K1,aG] jz))) (bb t 128 (aE 514 [aG,aG] aG) (bb t 129 (aE 84 [] aG) (aE 86 [am] am)))) (bb t 133 (bb t 131 (aE 515 [aG,aG] aG) (bb t 132 (aE 167 [am] Ty.bool) (aE 121 [aZ,aZ] Ti))) (bb t 134 (aE 116 [Ty.bool,aZ] am) (bb t 135 (aE 78 [K5,K5] Ty.bool) (aE 81 [Ty.bool,K5] am))))))) (bb t 159 (bb t 147 (bb t 141 (bb t 138 (bb t 137 (aE 82 [K5,K5] K5) (aE 516 [be,aG,aG] K85)) (bb t 139 (aE 517 [am] Ty.bool) (bb t 140 (aE 518 [] be) none))) (bb t 144 (bb t 142 (aE 519 [am,am,am] am) (bb t 143 (aE 61 [am,am] am) (aE 520 [be,be] be))) (bb t 145 (aE 521 [be,be] be) (bb t 146 (aE 522 [be] Ty.bool) (aE 523 [am] Ty.bool))))) (bb t 153 (bb t 150 (bb t 148 (aE 524 [] be) (bb t 149 (aE 525 [be] be) (aE 526 [bP,K1] AD))) (bb t 151 (aE 527 [be,be] be) (bb t 152 (aE 528 [be,be] be) (aE 529 [be,aG,aG] uF)))) (bb t 156 (bb t 154 (aE 119 [] am) (bb t 155 (aE 57 [am,am] am) (aE 170 [aZ,aZ] K34))) (bb t 157 (aE 171 [am] am) (bb t 158 (aE 172 [am,am] K35) (aE 530 [bP] pF)))))) (bb t 170 (bb t 164 (bb t 161 (bb t 160 (aE 531 [bP] be) (aE 532 [be,be,be,be] be)) (bb t 162 (aE 533 [Ti,K81] be) (bb t 163 (aE 534 [be,be] be) (aE 535 [K5] be)))) (bb t 167 (bb t 165 (aE 536 [be,aG] K35) (bb t 166 (aE 385 [ew] Ti) (aE 386 [ew,K1] K1))) (bb t 168 (aE 348 [ew] Ty.bool) (bb t 169 (aE 349 [ew] K56) (aE 12 [K2] K4))))) (bb t 176 (bb t 173 (bb t 171 (aE 13 [K2,K2] Ty.bool) (bb t 172 (aE 139 [am] Ty.bool) (aE 124 [am] Up))) (bb t 174 (aE 142 [am] am) (bb t 175 (aE 125 [] am) (aE 143 [K5,K5] K33)))) (bb t 179 (bb t 177 (aE 140 [K5] K5) (bb t 178 (aE 141 [K5,Ti] Ti) (aE 144 [Ti,Ti] Ti))) (bb t 180 (aE 126 [K5,K5] K5) none))))))) (bb t 273 (bb t 227 (bb t 204 (bb t 193 (bb t 187 (bb t 184 (bb t 183 (aE 447 [gJ] K67) (aE 18 [K3] K7)) (bb t 185 (aE 448 [K1] gJ) (bb t 186 (aE 449 [cl] K2) (aE 450 [K1,K1] gJ)))) (bb t 190 (bb t 188 (aE 147 [gJ,gJ] am) (bb t 189 (aE 148 [K1] gJ) (aE 19 [K3] K7))) (bb t 191 (aE 451 [K2,gJ,Ti] K2) (bb t 192 (aE 80 [K1] gJ) (aE 373 [ew,K1] K1))))) (bb t 198 (bb t 195 (bb t 194 (aE 22 [K3] K9) (aE 379 [K1,K1] gJ)) (bb t 196 (aE 39 [aG,aG] aG) (bb t 197 (aE 65 [aG,aG] aG) (aE 63 [am] aG)))) (bb t 201 (bb t 199 (aE 33 [K1,K1] am) (bb t 200 (aE 452 [fC,K3] K2) (aE 374 [ew] Ti))) (bb t 202 (aE 202 [am] Up) (bb t 203 (aE 537 [aG] am) (aE 538 [B6] K86)))))) (bb t 215 (bb t 209 (bb t 206 (bb t 205 (aE 186 [am] Up) (aE 539 [aG] am)) (bb t 207 (aE 145 [Ti] Ty.bool) (bb t 208 (aE 146 [K5,K5] K5) (aE 540 [B6] K87)))) (bb t 212 (bb t 210 (aE 541 [am,am] Ti) (bb t 211 (aE 41 [jz,jz] aG) (aE 31 [K1] jz))) (bb t 213 (aE 542 [be,aG] aG) (bb t 214 (aE 543 [aG,aG] aG) (aE 544 [aG] am))))) (bb t 221 (bb t 218 (bb t 216 (aE 545 [aG] am) (bb t 217 (aE 168 [Ty.int .u32,Ty.int .u32] Ti) (aE 546 [be] Ty.bool))) (bb t 219 (aE 547 [K14] Ty.bool) (bb t 220 (aE 548 [be,aG,aG] be) (aE 549 [Ti,Ti] be)))) (bb t 224 (bb t 222 (aE 550 [be,Ti] am) (bb t 223 (aE 551 [be] am) none)) (bb t 225 none (bb t 226 (aE 552 [am] am) (aE 203 [am,am] am))))))) (bb t 250 (bb t 238 (bb t 232 (bb t 229 (bb t 228 (aE 553 [bP] be) (aE 554 [bP] HS)) (bb t 230 (aE 555 [K5] be) (bb t 231 (aE 556 [be,be] be) (aE 557 [be,Ti] am)))) (bb t 235 (bb t 233 (aE 558 [aG] Ty.bool) (bb t 234 (aE 559 [be,aG,aG] be) (aE 560 [Ti,Ti] Ti))) (bb t 236 (aE 561 [Ti] am) (bb t 237 (aE 562 [be] am) (aE 120 [aZ,aZ] K31))))) (bb t 244 (bb t 241 (bb t 239 (aE 122 [aZ,aZ] aZ) (bb t 240 (aE 195 [aZ,Ty.int .u32] K36) (aE 196 [Ty.int .u32] Ti))) (bb t 242 (aE 197 [aZ,Ti] K36) none)) (bb t 247 (bb t 245 none (bb t 246 (aE 201 [aZ,Ti] aZ) (aE 392 [ew,ew] Ti))) (bb t 248 (aE 563 [Ti,be,be] am) (bb t 249 none (aE 564 [Ti,K5] Ti)))))) (bb t 261 (bb t 255 (bb t 252 (bb t 251 (aE 565 [am,Ti] be) none) (bb t 253 (aE 393 [ew] Pt) (bb t 254 (aE 394 [K5] Ti) (aE 364 [Ti,Ti] Ti)))) (bb t 258 (bb t 256 (aE 365 [Ti] Ti) (bb t 257 (aE 47 [K2] K2) (aE 48 [K2] K7))) (bb t 259 (aE 175 [K5,Ti] Ti) (bb t 260 (aE 45 [K2] Ou) (aE 46 [K2,dK] K5))))) (bb t 267 (bb t 264 (bb t 262 (aE 21 [K3] K9) (bb t 263 (aE 103 [K1,K1] K1) (aE 456 [gJ,gJ] gJ))) (bb t 265 (aE 155 [gJ] dK) (bb t 266 (aE 387 [ew] Pt) (aE 390 [gJ,gJ] gJ)))) (bb t 270 (bb t 268 (aE 79 [gJ,gJ] am) (bb t 269 (aE 566 [am,am] am) (aE 567 [ew] K56))) (bb t 271 (aE 568 [be,aG] am) (bb t 272 (aE 569 [am,Ti] am) (aE 194 [Ty.int .u32] Ty.bool)))))))) (bb t 319 (bb t 296 (bb t 284 (bb t 278 (bb t 275 (bb t 274 none (aE 570 [am] Ty.bool)) (bb t 276 none (bb t 277 (aE 571 [aG] Ty.bool) (aE 572 [be] be)))) (bb t 281 (bb t 279 (aE 573 [be,aG,aG] be) (bb t 280 (aE 574 [bP] pF) (aE 575 [be] be))) (bb t 282 (aE 576 [be,be,be,be] be) (bb t 283 (aE 577 [be,be,be,be,Ti] be) (aE 578 [be] be))))) (bb t 290 (bb t 287 (bb t 285 none (bb t 286 (aE 105 [K1,K1] Ty.bool) (aE 106 [K1,K1,K1] K1))) (bb t 288 (aE 107 [K1,K1] Ti) (bb t 289 (aE 108 [K7,K1] Ty.bool) (aE 109 [K2,K1,Ti] Ty.bool)))) (bb t 293 (bb t 291 (aE 110 [K7,K6] K7) (bb t 292 (aE 111 [K2,K1,Ti] K5) (aE 96 [K1,K1,K1] dK))) (bb t 294 (aE 98 [K2,dK] Ty.bool) (bb t 295 none (aE 100 [dK,dK] Ti)))))) (bb t 307 (bb t 301 (bb t 298 (bb t 297 (aE 52 [K5] Ti) (aE 53 [Ti,Ti] Ti)) (bb t 299 (aE 101 [K1,K1] Ti) (bb t 300 (aE 102 [Ti,K5,K2,dK] Ti) (aE 104 [K1,K1,K1] Ti)))) (bb t 304 (bb t 302 none (bb t 303 (aE 51 [K8,K8] Ti) (aE 154 [K1,K1] K1))) (bb t 305 (aE 187 [K1] Ty.bool) (bb t 306 (aE 395 [am,am,am,am] am) (aE 579 [K5] Ti))))) (bb t 313 (bb t 310 (bb t 308 none (bb t 309 none (aE 580 [am,am,am] am))) (bb t 311 (aE 581 [be] be) (bb t 312 (aE 123 [K1,K1] K1) (aE 156 [K2,K1,Ti,K1,K1] Ty.bool)))) (bb t 316 (bb t 314 (aE 117 [K1,K1] K1) (bb t 315 (aE 152 [Ti,Ti] Ti) none)) (bb t 317 (aE 114 [Ty.int .u64] Ti) (bb t 318 (aE 115 [Ti] Ty.bool) none)))))) (bb t 342 (bb t 330 (bb t 324 (bb t 321 (bb t 320 (aE 582 [Ti,be] am) (aE 188 [K1,K1] Ti)) none) (bb t 327 none (bb t 328 none (bb t 329 none (aE 166 [Ty.int .u64] Ti))))) (bb t 336 none (bb t 339 (bb t 337 none (bb t 338 none (aE 215 [Ti] Ti))) (bb t 340 none (bb t 341 (aE 190 [Ti] (Ty.int .u64)) none))))) none)))) else none
def mK(t:Nat):Option (List Ty×Ty):=match LA t with|some p=>some p.2|none=>none
def rp(t:Nat):Nat:=match LA t with|some p=>p.1|none=>0
def iF(t:Nat):Nat:=(bb t 182 (bb t 91 (bb t 45 (bb t 22 0 (bb t 33 0 (bb t 39 0 (bb t 42 (bb t 40 0 (bb t 41 0 2)) 0)))) (bb t 68 (bb t 56 0 (bb t 62 0 (bb t 65 (bb t 63 0 (bb t 64 3 0)) 0))) 0)) (bb t 136 (bb t 113 (bb t 102 0 (bb t 107 0 (bb t 110 0 (bb t 111 0 (bb t 112 0 1))))) 0) (bb t 159 (bb t 147 (bb t 141 0 (bb t 144 (bb t 142 1 0) 0)) 0) 0))) (bb t 273 (bb t 227 0 (bb t 250 (bb t 238 0 (bb t 244 0 (bb t 247 0 (bb t 248 2 (bb t 249 0 1))))) 0)) (bb t 319 (bb t 296 0 (bb t 307 (bb t 301 (bb t 298 0 (bb t 299 0 (bb t 300 3 0))) 0) (bb t 313 (bb t 310 (bb t 308 0 (bb t 309 0 1)) 0) 0))) (bb t 342 (bb t 330 (bb t 324 (bb t 321 (bb t 320 1 0) 0) 0) 0) 0))))
def GK(t:Nat):Option (Ty×Ty):=bif Nat.blt t HX then(bb t 171 none (bb t 257 (bb t 214 (bb t 192 none (bb t 203 (bb t 197 none (bb t 200 none (bb t 201 none (bb t 202 none (some (K1,Ty.bool)))))) none)) none) (bb t 300 (bb t 278 none (bb t 289 (bb t 283 none (bb t 286 none (bb t 287 none (bb t 288 (some (dK,Ty.bool)) none)))) none)) none))) else none
def XF:List Nat:=[0,1,2,0,0,0,0,0,0,0,0,0,169,170,0,89,0,0,183,189,0,261,193,0,0,0,0,0,0,0,0,211,59,198,60,0,0,99,110,195,107,210,111,0,0,259,260,256,257,0,301,302,296,297,58,0,0,154,0,122,0,142,100,197,0,196,0,0,72,0,50,0,29,28,20,38,90,94,134,267,191,135,136,91,128,92,129,97,34,121,57,103,0,0,0,0,292,23,293,294,295,298,299,262,300,285,286,287,288,289,290,291,51,318,316,317,133,313,55,153,237,132,238,311,172,174,179,54,75,76,71,77,79,93,81,82,26,80,61,171,176,177,173,175,178,206,207,187,188,0,0,0,314,315,303,264,312,330,331,332,333,334,335,336,337,56,329,131,216,78,155,156,157,74,73,258,0,0,321,322,323,324,325,326,327,328,204,304,320,344,340,341,345,346,272,239,240,241,242,243,244,245,201,226,0,0,0,0,0,0,0,0,339,342,343,338,348,17,0,0,0,347,0,349,350,351,352,353,354,355,356,357,358,359,360,361,362,363,364,0,0,0,0,0,0,0,0,0,0,0,0,0,0,0,0,0,0,0,0,0,0,0,0,0,0,0,0,0,0,0,0,0,0,0,0,0,0,0,0,0,0,0,0,0,0,0,0,0,0,0,0,0,0,0,0,0,0,0,0,0,0,0,0,0,0,0,0,0,0,0,0,0,0,0,0,0,0,0,0,0,0,0,36,0,37,0,0,0,0,0,0,88,0,42,0,0,118,113,0,0,125,0,27,0,96,98,0,0,167,168,0,0,84,0,0,0,0,24,0,0,0,0,0,0,254,255,0,0,0,0,0,0,0,192,200,0,0,0,0,194,0,0,0,0,0,165,166,265,120,0,266,0,246,252,253,305,123,275,0,0,0,0,0,0,308,0,0,0,0,0,0,0,0,0,0,0,43,44,0,0,105,31,0,0,0,0,35,32,106,0,0,33,0,86,102,87,104,108,109,0,0,0,0,0,0,0,95,182,184,185,186,190,199,0,0,0,263,0,0,0,0,0,0,0,101,181,180,3,4,5,6,7,8,9,10,11,12,13,14,15,16,18,19,21,22,25,30,39,40,41,46,47,48,49,52,53,62,63,64,65,66,67,68,69,70,83,85,112,115,116,117,119,124,126,127,130,137,138,139,141,143,144,145,146,147,148,149,150,151,152,158,159,160,161,162,163,164,202,203,205,208,209,212,213,214,215,217,218,219,220,221,222,225,227,228,229,230,231,232,233,234,235,236,247,249,250,268,269,270,271,274,276,277,278,279,280,281,282,283,306,309,310,319,140,223,251,114,273,307,284,248,224,45]
def cw(k:Nat):Nat:=XF.getD k 0
def QM:List Nat:=[15,16]
def mX(f:Nat):Bool:=QM.any (Nat.beq f)
def pvL:List (List Nat):=[[33,39],[6,18]]
def fnL:List Nat:=[117,146,201,202]
def YT(t:Nat):Bool:=fnL.any (Nat.beq t)
def dL(lp:{α β:Type}->(α->Option (Sum α β))->α->Option β)(call:Nat->List D->Option D)(inl:Inl):Env:={ L:=QU,sig:=mK,call:=λf=>call (rp f),mapL:=GK,fnT:=YT,ownF:=mX,lp:=lp,inl:=inl.f,cod:=inl.cod,free:=iF,pv:=inl.pv }
def CW:List (Nat×(Func×Ty))->Nat->Option (Func×Ty)
 | [],_=>none
 | p::l,f=>bif Nat.beq f p.1 then some p.2 else CW l f
theorem pZ:∀ {l:List (Nat×(Func×Ty))} {f:Nat} {p:Func×Ty},CW l f=some p->(f,p)∈l
 | [],_,_,h=>by cases h
 | q::l,f,p,h=>by
  simp only[CW] at h;cases hb:Nat.beq f q.1
  ·rw[hb] at h;exact zma _ (pZ h)
  ·rw[hb] at h;cases h;rw[zVb hb];exact zwa
open Go.Proofs in
def NX:List (Nat×(Func×Ty)):=[(41,(Tryz.f41,Ut)),(45,(Tryz.f45,Ty.fn)),(63,(Tryz.f63,Ty.bool)),(101,(Tryz.f101,Ty.fn)),(112,(Tryz.f112,aG)),(114,(Tryz.f114,RF)),(140,(Tryz.f140,be)),(141,(Tryz.f141,am)),(160,(Tryz.f160,be)),(180,(Tryz.f180,RF)),(181,(Tryz.f181,Ty.bool)),(223,(Tryz.f223,be)),(224,(Tryz.f224,am)),(242,(Tryz.f242,Ty.int .u64)),(243,(Tryz.f243,Ty.bool)),(244,(Tryz.f244,RF)),(247,(Tryz.f247,am)),(248,(Tryz.f248,be)),(249,(Tryz.f249,Ty.int .i64)),(251,(Tryz.f251,Ty.fn)),(273,(Tryz.f273,Ty.bool)),(274,(Tryz.f274,Ty.bool)),(275,(Tryz.f275,Ty.bool)),(276,(Tryz.f276,Ty.bool)),(284,(Tryz.f284,RF)),(295,(Tryz.f295,Ty.int .i64)),(299,(Tryz.f299,Ty.int .i64)),(302,(Tryz.f302,Ty.int .i64)),(307,(Tryz.f307,Ty.int .i64)),(308,(Tryz.f308,Ty.int .i64)),(309,(Tryz.f309,am)),(319,(Tryz.f319,am))]
open Go.Proofs in
def LJ:List (Nat×(Func×Ty)):=NX++[(190,(Tryz.f190,K2)),(306,(Tryz.f306,Ty.int .i64))]
def LH(v f:Nat):Option (Func×Ty):=CW (bif Nat.beq v 2 then LJ else NX) f
def Ht{v f:Nat}{p:Func×Ty}(h:LH v f=some p):(f,p)∈LJ:=by
 unfold LH at h;cases hb:Nat.beq v 2
 ·rw[hb] at h;exact zlb _ (pZ h)
 ·rw[hb] at h;exact pZ h
end Sy
end
noncomputable section
namespace Sy
open Go
def tt(P:Program):Bool:=((List.range HX).all λt=>match QU t with|some ty=>bL P ty t&&decide (ty.high<=1000)&&ao ty|none=>true)&&fnL.all (KH P)
def Hm(P:Program)(f:Nat)(g:List Ty×Ty):Bool:=
 aO g.1 && (ao g.2 || match g.2 with | .tup ts => aO ts | _ => false) && match P.funcs[f]? with | some fn => !(fn.name == "runtime.NumGoroutine") && fn.body.isSome | none => false
def Bh(P:Program):Bool:=(List.range HX).all λt=>match GK t with|some g=>bE g.1&&decide (g.1.high<=1000)&&(match P.underlying t with|some (.map K V)=>bL P g.1 K&&bL P g.2 V|_=>false)|none=>true
def BH(P:Program):Bool:=(List.range EE).all λf=>match mK f with|some g=>Hm P f g|none=>true
def LN{t:Nat}{ty:Ty}(h:QU t=some ty):t<HX:=by
 unfold QU at h;rcases zta t HX with k|k
 ·exact k
 ·have:Nat.blt t HX=false:=zwc.2 λa=>z3a (Nat.blt_eq ▸ a) (zIc.2 k);rw[this] at h;cases h
def GL{t:Nat}{g:Ty×Ty}(h:GK t=some g):t<HX:=by
 unfold GK at h;rcases zta t HX with k|k
 ·exact k
 ·have:Nat.blt t HX=false:=zwc.2 λa=>z3a (Nat.blt_eq ▸ a) (zIc.2 k);rw[this] at h;cases h
def Ah{t:Nat}{ty:List Ty×Ty}(h:mK t=some ty):t<EE:=by
 unfold mK LA at h;rcases zta t EE with k|k
 ·exact k
 ·have:Nat.blt t EE=false:=zwc.2 λa=>z3a (Nat.blt_eq ▸ a) (zIc.2 k);rw[this] at h;cases h
def fh(P:Program)(call:Nat->List D->Option D):Prop:=∀ f a b xs y,mK f=some (a,b)->call (rp f) xs=some y->eu a xs->H0 P (mX f) (iF f) a b f xs y
abbrev Lp:Type 1:={α β:Type}->(α->Option (Sum α β))->α->Option β
def aj(lp:Lp):Prop:=∀ (α β:Type) (body:α->Option (Sum α β)) (x:α) (y:β),lp body x=some y->∃ n,oQ body n x=some y
def vO(N:Nat):aj (λbody=>oQ body N):=λ_ _ _ _ _ h=>⟨N,h⟩
def nF:aj (λbody=>lw body):=λ_ _ _ _ _ h=>nE h
def Gw(pv:Nat->Bool)(a:Nat->Option (Func×Ty))(lp:Lp)(call:Nat->List D->Option D):Nat->Inl
 | 0=>⟨pv,λ_=>none,λ_ _ _ _ _=>none⟩
 | n+1=>⟨pv,λf=>match a f with
  | some p=>some (NF (dL lp call (Gw pv a lp call n)) p.1 p.2)
  | none=>none,λc an R s k=>HV (dL lp call (Gw pv a lp call n)) c an R s k⟩
def Nq{P:Program}(h:tt P=true){t:Nat}(a:YT t=true):KH P t=true:=by simp only[tt,zaa] at h;exact zya.1 h.2 t (by simpa [YT] using a)
section
variable{P:Program}
def sZ(h1:tt P=true)(h2:BH P=true)(h4:Bh P=true)(h3:P.follows .mixedOrders=true){lp:Lp}(hlp:aj lp){call:Nat->List D->Option D}(hc:fh P call)
  {inl : Inl} (hcod : E2 P inl.cod) (hi : ∀ f g, inl.f f = some g -> (∃ fn, P.funcs[f]? = some fn /\ (fn.name == "runtime.NumGoroutine") = false /\ fn.body.isSome = true) /\ Fl P f g) : EnvOk P (dL lp call inl) := by
 have k1:∀ t ty,QU t=some ty->bL P ty t=true/\ty.high<=1000/\ao ty=true:=λt ty ht=>by have:=zya.1 (zaa _ _ ▸ h1:_/\_).1 t (zHa.2 (LN ht));rw[ht] at this;simp only[zaa,zia] at this;exact⟨this.1.1,this.1.2,this.2⟩
 refine⟨λt ty ht=>.inr (k1 t ty ht).1,λt ty ht=>(k1 t ty ht).2.1,λt ty ht=>(k1 t ty ht).2.2,λf ptys rty hf=>?_,hc,h3,hlp,λt kt vt ht=>?_,hi,hcod,λt ht=>Nq h1 ht⟩
 ·have:=zya.1 h2 f (zHa.2 (Ah hf));rw[show mK f=some (ptys,rty) from hf] at this;simp only[Hm,zaa,zKb] at this;obtain⟨⟨q1,q2⟩,q3⟩:=this;refine⟨q1,?_,?_⟩
  ·rcases q2 with q2|q2
   ·exact .inl q2
   ·right;split at q2
    ·rename_i ts;exact⟨_,rfl,q2⟩
    ·cases q2
  ·split at q3
   ·rename_i fn hfn;simp only[zaa,zCa] at q3;exact⟨fn,hfn,q3⟩
   ·cases q3
 ·have:=zya.1 h4 t (zHa.2 (GL ht));rw[show GK t=some (kt,vt) from ht] at this;simp only[zaa,zia] at this;obtain⟨⟨m1,m2⟩,m3⟩:=this;refine⟨m1,?_⟩;split at m3<;>first|(cases m3;done)|skip
  rename_i K V hu;simp only[zaa] at m3;exact⟨K,V,hu,m3.1,m3.2,m2⟩
def BM (P : Program) (f : Nat) (p : Func × Ty) : Prop := P.funcs[f]? = some p.1 /\ (!(p.1.name == "runtime.NumGoroutine") && p.1.body.isSome && BD p.1.results.size p.2) = true
theorem xm{pv:Nat->Bool}{b:Nat->Option (Func×Ty)}(h1:tt P=true)(c:BH P=true)(e:Bh P=true)(d:P.follows .mixedOrders=true)(j:∀ f p,b f=some p->BM P f p){lp:Lp}(a:aj lp){call:Nat->List D->Option D}(hc:fh P call) :
  ∀ n,EnvOk P (dL lp call (Gw pv b lp call n))
 | 0=>sZ h1 c e d a hc (λ_ _ _ _ _ _ _ _ _ _ _ _ _ _ _ _ _ h=>by cases h) λf g h=>by cases h
 | n+1=>sZ h1 c e d a hc (Nc (xm h1 c e d j a hc n)) λf g h=>by
  simp only[Gw] at h;split at h<;>first|(cases h;done)|skip
  rename_i p hp;cases h;obtain⟨q1,i⟩:=j f p hp;simp only[zaa,zCa] at i;exact⟨⟨p.1,q1,i.1.1,i.1.2⟩,KN (xm h1 c e d j a hc n) q1 i.2⟩
end
end Sy
end
noncomputable section
namespace Sy
open Go Go.Proofs
def zr:tt Tryz.prog=true:=x6
def Ag:BH Tryz.prog=true:=x6
def zz:Bh Tryz.prog=true:=x6
def Bi:Tryz.prog.follows .mixedOrders=true:=x6
def Bb(v:Nat)(lp:Lp)(call:Nat->List D->Option D):Inl:=Gw (λt=>Nat.beq v 1||(Nat.ble 3 v&&(pvL.getD (v-3) []).any (Nat.beq t))) (LH v) lp call 9
noncomputable abbrev nC(lp:Lp)(call:Nat->List D->Option D):Inl:=Bb 0 lp call
def LI(v:Nat):∀ f p,LH v f=some p->BM Tryz.prog f p:=by
 intro f p h;have key:∀ q∈LJ,BM Tryz.prog q.1 q.2:=by
  intro q hq;simp only[LJ,NX,zub,z0b,zGa,zTb,or_false] at hq;repeat' first
   | (rcases hq with hq|hq;· subst hq;exact⟨x6,x6⟩)
   | (subst hq;exact⟨x6,x6⟩)
 exact key (f,p) (Ht h)
def Nf{v:Nat}{lp:Lp}(a:aj lp){call:Nat->List D->Option D}(hc:fh Tryz.prog call):EnvOk Tryz.prog (dL lp call (Bb v lp call)):=
 xm zr Ag zz Bi (LI v) a hc 9
def Qr{lp:Lp}(a:aj lp){call:Nat->List D->Option D}(hc:fh Tryz.prog call):EnvOk Tryz.prog (dL lp call (nC lp call)):=Nf a hc
def QK(o:Oper):Option ByteArray:=match o.op with|.index _ (.const (.string s)) _=>some s|_=>none
def pi:Code->Option ByteArray
 | .region _ ops _=>ops.toList.findSome? QK
 | .seq a b=>(pi a).orElse λ_=>pi b
 | .cond _ a b=>(pi a).orElse λ_=>pi b
 | .block _ a=>pi a
 | .loop a=>pi a
 | .scope a=>pi a
 | _=>none
def F6(f:Func):Code:=match f.body with|some c=>c|none=>.skip
end Sy
end
noncomputable section
namespace Sy
open Go
variable{ro:Option Nat}{nn:Nat}
def pS(s:St)(t:Ty):AV->Option (List D)
 | .own a v l=>if a.beq t&&!(s.dead.contains v) then some l else none
 | .nils=>some []
 | _=>none
def Mv(s:St)(t:Ty)(c:List Ty):AV->Option D
 | .st a (b::l)=>if Ty.beqs (.sl t::c) a then(pS s t b).bind λd=>(AV.toDl s.ob c l).bind λxs=>some (.st (.sl d::xs)) else none
 | _=>none
def Lr(E:Env)(s:St):Ty->List ResultVar->Option D
 | .tup (.sl t::u::b),.tmp i::r::c=>(pS s t (s.tm i)).bind λl=>qU E s (u::b) (r::c) λxs=>some (.tup (.sl l::xs))
 | .st (.sl t::b),[.cell i T]=>(E.L T).bind λu=>match s.tm i with
  | .ptr d id p=>if u.beq d&&u.beq (.st (.sl t::b)) then(s.ob id).bind λo=>fZ o p λa=>Mv s t b a else none
  | _=>none
 | _,_=>none
def Nj(E:Env)(fn:Func)(ann:Ann)(b:List Ty)(a:Ty)(args:List D):Option D:=
 match fn.body with
 | none=>none
 | some c=>HV E c ann D { tm:=fX b args,ob:=λ_=>none,fresh:=0,dead:=[],nt:=fn.ntmps,lkS:=[],lkO:=[] } λe s=>match e with
  | .exit _=>none
  | _=>Lr E s a fn.results.toList
section
variable{P:Program}{E:Env}{S S':Nat->Nat->Prop}{γ γ':Nat->Option Nat}{β β' β'':Nat->Option (Nat×Nat)}{s sc:St}{a:Act}{w w':World}
def vw{c:World}(i:Rp ⟨c,S,λ_=>False⟩ S' γ β s a w){t:Ty}(hn:ao t=true){x:AV}{cs:List Value}(hx:AC ⟨w,S',γ,β,s.ob,s.dead⟩ x cs){l:List D}(hq:pS s t x=some l):∃ v0,cs=[v0]/\Dx c w S' t l v0:=by
 unfold pS at hq;split at hq<;>first|(cases hq;done)|skip
 ·rename_i k v l';split at hq<;>first|(cases hq;done)|skip
  rename_i e;simp only[zaa,zCa] at e;have:=aeK _ _ e.1;subst this;cases hq;have d:v ∉ s.dead:=by simpa using e.2
  simp only[AC] at hx;obtain⟨m1,m2,A,cap,rfl,m4,m5⟩:=hx;refine⟨_,rfl,A,cap,rfl,m1,m2,m4,?_⟩;rcases m5 d with m5|⟨b,off,rfl,m6,m7⟩
  ·exact .inl m5
  ·obtain⟨j,z2,z3⟩:=i.βn _ _ _ d m6;refine .inr ⟨b,off,rfl,⟨?_,z2⟩,m7,z3⟩;rcases zta b c.heap.size with g|f
   ·exact z3a ⟨g,λh=>h⟩ j
   ·exact f
 ·cases hq;simp only[AC] at hx;subst hx;exact⟨_,rfl,none,0,rfl,hn,s6,adS (b:=0) (off:=0) (.inl rfl) (zka _) ⟨[],cL.nil,s6⟩,.inl ⟨rfl,rfl⟩⟩
theorem Dx.wt{w w':World}{t:Ty}{l:List D}{v:Value}(h:Dx w w' S' t l v):ao t=true/\Sy.wt (.sl t) (.sl l)/\fa w' S' (.sl l) v:=by obtain⟨A,cap,rfl,h1,a,b,_⟩:=h;exact⟨h1,by simp only[Sy.wt];exact⟨l,rfl,a⟩,aec b⟩
def Ls(M:EnvOk P E){A:World}(d:Rp ⟨A,S,λ_=>False⟩ S' γ β s a w){fn:Func}{f:Ty}{y:D}(hn:ao f=true\/∃ g,f=.tup g/\aO g=true)(hq:Lr E s f fn.results.toList=some y) :
  ∃ v,(Go.results fn a.tmps).run P w=.ok v w/\sf A w S' f y v:=by
 rw[iO];have hm:fn.results.mapM (jf a.tmps)=Functor.map List.toArray (fn.results.toList.mapM (jf a.tmps)):=by rw[zrc]
 rw[hm];generalize fn.results.toList=L at *;unfold Lr at hq;split at hq<;>first|(cases hq;done)|skip
 ·rename_i t u g i r L;have c:ao t=true/\aO (u::g)=true:=by
   rcases hn with hn|⟨z,e,hn⟩
   ·simp[ao] at hn
   ·cases e;simp only[aO,ao,zaa] at hn ⊢;exact hn
  obtain⟨l,h1,R⟩:=ab hq;obtain⟨xs,vs,B,W,X,Y,Z,k6⟩:=o7 M d (u::g) (r::L) _ y c.2 R;simp only[zda] at B;subst B;have H:i<a.tmps.size:=by
   rcases zta i a.tmps.size with j|h
   ·exact j
   ·rw[d.tmu i (by rw[<-d.nt];exact h)] at h1
    simp[pS] at h1
  have hx:=d.tms i H;have x:(∀ cs,a.tmps.getD i undef≠.agg cs)/\AC ⟨w,S',γ,β,s.ob,s.dead⟩ (s.tm i) (a.tmps.getD i undef).cells.toList:=by
   unfold pS at h1;split at h1<;>first|(cases h1;done)|skip
   ·rename_i e;rw[e] at hx ⊢;simpa only[AR] using hx
   ·rename_i e;rw[e] at hx ⊢;simpa only[AR] using hx
  obtain⟨v0,O,k⟩:=vw d c.1 x.2 h1;have C:=ar x.1 O;refine⟨.tuple (v0::vs).toArray,?_,?_⟩
  ·have hlen:(v0::vs).length≠1:=by simp only[zOa,Y];omega
   have K:((List.mapM (jf a.tmps) (r::L)).run P w)=.ok vs w:=W;rw[zBc];simp only[jf,pure_bind,zla,map_eq_pure_bind,K,zfa,zra,C];simp at hlen;simp[hlen]
  ·simp only[sf];exact⟨l,xs,v0,vs,rfl,rfl,k,c.2,X,Z.symm,k6⟩
 ·rename_i t g i T;have c:ao t=true/\aO g=true:=by
   rcases hn with hn|⟨z,e,hn⟩
   ·simpa only[aO,ao,zaa] using hn
   ·cases e
  obtain⟨u,hu,hq⟩:=ab hq;split at hq<;>first|(cases hq;done)|skip
  rename_i t' id p n;split at hq<;>first|(cases hq;done)|skip
  rename_i F;simp only[zaa] at F;have C:=aeK _ _ F.1;have Q:=aeK _ _ F.2;subst C;subst Q;obtain⟨o,N,hq⟩:=ab hq;have H:i<a.tmps.size:=by
   rcases zta i a.tmps.size with j|h
   ·exact j
   ·have:=d.tmu i (by rw[<-d.nt];exact h)
    rw[n] at this;cases this
  have hx:=d.tms i H;rw[n] at hx;obtain⟨b,off,U,V,I⟩:=jp hx;obtain⟨B,rfl⟩:=I o N;obtain⟨a',cs,m1,m2,m3,m4,m5⟩:=jP (d.obs id o b N V) B hq;obtain⟨m6,m7⟩:=gl _ _ _ m3 m2;obtain⟨v,m,q⟩:=gS (ii M hu m4) (w:=w) (b:=b) (off:=ci o p) m6 m7 m5;have J:v=.agg cs.toArray:=by obtain⟨i1,i2,_⟩:=q;obtain⟨zs,rfl⟩:=i2 rfl;rw[<-i1];simp[Value.cells]
  refine⟨v,?_,?_⟩
  ·have:(jf a.tmps (.cell i T)).run P w=.ok v w:=by
    rw[<-m];simp only[jf,Instr.loadAt,Instr.sureAddr,pure_bind];rw[show a.tmps.getD i undef=.pointer (some ⟨b,ci o p,none⟩) from U];rfl
   simp[zBc,this]
  ·unfold Mv at m1;split at m1<;>first|(cases m1;done)|skip
   rename_i z b0 l;split at m1<;>first|(cases m1;done)|skip
   rename_i G;have:=aeL _ _ G;subst this;obtain⟨l0,q1,q2⟩:=ab m1;obtain⟨xs,q3,q4⟩:=ab q2;cases q4;simp only[AC,il] at m2;obtain⟨_,_,c1,c2,rfl,g1,g2⟩:=m2;obtain⟨v0,rfl,k⟩:=vw d c.1 g1 q1;obtain⟨g3,g4⟩:=xZ l g c2 xs q3 g2;simp only[sf];exact⟨l0,xs,v0,c2,rfl,J,k,c.2,g3,g4⟩
theorem sf.wt{w w':World}{a:Ty}{y:D}{v:Value}(h:sf w w' S' a y v):Sy.wt a y/\DR w' S' y v:=by
 unfold sf at h;split at h<;>first|(exact h.elim)|skip
 ·rename_i t o;obtain⟨l,p,v0,vs,rfl,rfl,b,k,e,f,m⟩:=h;obtain⟨n,g,j⟩:=b.wt;refine⟨by simp only[Sy.wt];exact⟨_,rfl,_,_,rfl,g,e⟩,v0::vs,rfl,by simp[f],λi d u c hu=>?_⟩
  cases i with
  | zero=>simp at c hu;subst c;subst hu;exact j
  | succ i=>simp at c hu;exact m i d u c hu
 ·rename_i t o;obtain⟨l,p,v0,cs,rfl,rfl,b,k,e,f⟩:=h;obtain⟨n,g,j⟩:=b.wt;refine⟨by simp only[Sy.wt];exact⟨_,rfl,_,_,rfl,g,e⟩,?_⟩
  obtain⟨A,cap,rfl,_⟩:=b;refine DR.of0 ⟨⟨_,rfl⟩,?_⟩;simp only[D.flat,ad2,Value.cells];exact j.2.append f
def E4.ctr{a:List Ty}{b:Ty}{f:FuncId}{xs:List D}{y:D}(h:E4 P a b f xs y):HZ P a b f xs y:=by intro w S vs i d hlen c;refine(h w S vs i d hlen c).mono λe w' ⟨v,he,j,S',s1,s2,g⟩=>⟨v,he,j,g.wt.1,g.wt.2.mono (λ_ _ _=>rfl) s2⟩
def yN(G:EnvOk P E){f:FuncId}{fn:Func}{ann:Ann}{a:List Ty}{j:Ty}{xs:List D}{y:D}(m:P.funcs[f]?=some fn)(N:a.length<=fn.ntmps)(hn:aO a=true)(M:ao j=true\/∃ I,j=.tup I/\aO I=true)
  (h:Nj E fn ann a j xs=some y):E4 P a j f xs y:=by
 intro w S vs J q hlen A;unfold Nj at h;split at h<;>first|(cases h;done)|skip
 rename_i c g;have R:xs.length=a.length:=gA q;have p:(vs.toArray++Array.replicate (fn.ntmps-vs.toArray.size) undef).size=fn.ntmps:=by simp;omega
 refine gK (w0:=⟨w,S,λ_=>False⟩) (S:=S) (γ:=λ_=>none) (β:=λ_=>none) G m g rfl ?_ h (λ_ _ K=>by cases K) λe s' S' γ' β' a' w' s W Y C=>?_
 ·refine⟨⟨rfl,rfl,rfl,zka _,zka _,λ_ _=>rfl⟩,λt H=>?_,p,λt H=>?_,λid o b L=>(by cases L),λid b g=>(by cases g),λid T b g=>(by cases g),λ_ _=>rfl,λv b e _ g=>(by cases g),λv v' b e X _ _ g=>(by cases g),λv id b e _ g=>(by cases g),λ_ _=>rfl,J,λb o g _=>g⟩
  ·simp only[fX];split
   ·rename_i ty x F u;have n:=(zna.1 u).1;have k:t<vs.length:=j1
    have Q:(vs.toArray++Array.replicate (fn.ntmps-vs.toArray.size) undef).getD t undef=vs[t]:=by simp[Array.getD,zuc,k];omega
    show AR _ _ ((vs.toArray++Array.replicate (fn.ntmps-vs.toArray.size) undef).getD t undef);rw[Q];obtain⟨Z,r,B⟩:=fg q F;rw[u] at r;cases r;exact c6 (bJ hn F) B (A t x _ u (zea k))
   ·simp only[AR]
  ·have O:fn.ntmps<=t:=H;simp only[fX];rw[zBa j1]
 ·have l:Lr E s' j fn.results.toList=some y->(∃ v,(Go.results fn a'.tmps).run P w'=.ok v w'/\∃ v',Ending.returned v=.returned v'/\(∃ os d,w.drawn<=d/\w'=grown w os d)/\∃ S':Nat->Nat->Prop,(∀ b o,S b o->S' b o)/\(∀ b o,S' b o->S b o\/(w.heap.size<=b/\b<w'.heap.size))/\sf w w' S' j y v'):=λhq=>by
   obtain⟨v,U,V⟩:=Ls G s M hq;refine⟨v,U,v,rfl,eO s.ext (λ_ m=>m),S',W.sub,λb o g=>?_,V⟩;rcases zta b w.heap.size with n|z
   ·exact .inl (s.So b o g ⟨n,λm=>m⟩)
   ·exact .inr ⟨z,s.Sb b o g⟩
  cases e with
  | normal=>exact l C
  | ret=>exact l C
  | exit i=>cases C
end
end Sy
end
noncomputable section
namespace Sy
open Go Go.Proofs
inductive CT where
 | leaf (k:Nat) (g:(Nat->List D->Option D)->List D->Option D)
 | node (m:Nat) (a b:CT)
def CT.get:CT->Nat->(Nat->List D->Option D)->List D->Option D
 | .leaf k g,f,call,xs=>bif Nat.beq f k then g call xs else none
 | .node m a b,f,call,xs=>bif Nat.blt f m then a.get f call xs else b.get f call xs
def af(f:Nat)(g:(Nat->List D->Option D)->List D->Option D):Prop:=
 ∀ call,fh Tryz.prog call->∀ a b xs y,mK (cw f)=some (a,b)->g call xs=some y->eu a xs->H0 Tryz.prog (mX (cw f)) (iF (cw f)) a b (cw f) xs y
def CT.ok:CT->Prop
 | .leaf k g=>af k g
 | .node _ a b=>a.ok/\b.ok
theorem adV:∀ {t:CT},t.ok->∀ {call},fh Tryz.prog call->∀ f c d xs y,mK (cw f)=some (c,d)->t.get f call xs=some y->eu c xs->H0 Tryz.prog (mX (cw f)) (iF (cw f)) c d (cw f) xs y
 | .leaf k g,h,call,hc,f,c,d,xs,y,i,e,hw=>by
  simp only[CT.get] at e;cases hb:Nat.beq f k with
  | false=>rw[hb] at e;cases e
  | true=> rw[hb] at e;have:=zVb hb;subst this;exact h call hc c d xs y i e hw
 | .node m a b,h,call,hc,f,c,d,xs,y,i,e,hw=>by
  simp only[CT.get] at e;cases hb:Nat.blt f m with
  | false=>rw[hb] at e;exact adV h.2 hc f c d xs y i e hw
  | true=>rw[hb] at e;exact adV h.1 hc f c d xs y i e hw
def ML:((List.range EE).all λf=>match LA f with|some p=>Nat.beq (cw p.1) f|none=>true)=true:=x6
def Kb{f:Nat}{g:List Ty×Ty}(h:mK f=some g):cw (rp f)=f:=by
 have a:=zya.1 ML f (zHa.2 (Ah h));unfold mK at h;unfold rp;split at h<;>first|(cases h;done)|skip
 rename_i p hp;rw[hp] at a;exact zVb a
def adU{t:CT}(h:t.ok){call}(hc:fh Tryz.prog call):fh Tryz.prog λf xs=>t.get f call xs:=λf a b xs y c d hw=>by
 have e:=Kb c;have:=adV h hc (rp f) a b xs y (by rw[e];exact c) d hw
 rwa [e] at this
def vp(v:Nat)(lp:Lp)(f:Nat)(fn:Func)(ann:Ann)(call:Nat->List D->Option D)(xs:List D):Option D:=
 (mK (cw f)).bind λs=>bif mX (cw f) then(match s.2 with|.sl t=>(Nh (dL lp call (Bb v lp call)) fn ann s.1 t xs).bind λl=>some (.sl l)|r=>Nj (dL lp call (Bb v lp call)) fn ann s.1 r xs) else bif Nat.beq (iF (cw f)) 0 then YQ (dL lp call (Bb v lp call)) fn ann s.1 s.2 xs else Ni (dL lp call (Bb v lp call)) fn ann s.1 (iF (cw f)) s.2 xs
def HW(f:Nat)(fn:Func):Bool:=match mK (cw f) with
 | some (p,r)=>decide (p.length<=fn.ntmps)&&fd fn.results.size r&&aO p&&(decide (iF (cw f)<=p.length)&&(bif mX (cw f) then Nat.beq (iF (cw f)) 0 else decide (iF (cw f)<=4095)))
 | none=>false
def jN{v:Nat}{lp:Lp}(m:aj lp){f:Nat}{fn:Func}{ann:Ann}(e:Tryz.prog.funcs[cw f]?=some fn)(hk:HW f fn=true):af f (vp v lp f fn ann):=by
 intro call hc n c xs y r a hw;unfold vp at a;unfold HW at hk;rw[r] at a hk;simp only[zba] at a;simp only[zaa,zia] at hk;obtain⟨⟨⟨g,b⟩,i⟩,s,j⟩:=hk;have d:=Nf (v:=v) m hc;cases how:mX (cw f) with
 | true=>
  rw[how] at a;simp only[cond_true] at a;have h0:iF (cw f)=0:=by rw[how] at j;simpa using j
  rw[h0];split at a
  ·rename_i t;obtain⟨l,h1,p⟩:=ab a;cases p;have hO:=yM d e g i h1;exact⟨hO.ctr,λ_=>.inl ⟨t,l,rfl,rfl,hO⟩⟩
  ·have q:ao c=true\/∃ o,c=.tup o/\aO o=true:=by
    unfold fd at b;split at b
    ·exact .inl b
    ·split at b
     ·exact .inr ⟨_,rfl,b⟩
     ·cases b
   have hT:=yN d e g i q a;exact⟨hT.ctr,λ_=>.inr hT⟩
 | false=>
 rw[how] at a;simp only[cond_false] at a;refine⟨?_,λh=>by cases h⟩
 cases hz:iF (cw f) with
 | zero=> rw[hz] at a;exact DP d e g i b a
 | succ k=> rw[hz] at a;exact AT d e g i (by rw[<-hz];exact s) (by rw[<-hz];rw[how] at j;simpa using j) b a
abbrev Ann.tl(a:Ann):Ann:=.two .leaf a
section
variable{α:Type}
noncomputable abbrev qT(x:D)(f:Bool->Option α):Option α:=(D.truth x).bind f
noncomputable abbrev qG(x:D)(p:List Nat)(f:D->Option α):Option α:=(D.get x p).bind f
noncomputable abbrev qS(x:D)(f:List D->Option α):Option α:=(D.asSl x).bind f
noncomputable abbrev qI(x:D)(l:List D)(f:D->Option α):Option α:=(D.idx x l.length).bind λk=>(l[k]?).bind f
noncomputable abbrev qB(o:BinOp)(x y:D)(f:D->Option α):Option α:=(adW o x y).bind f
noncomputable abbrev qC(o:BinOp)(x y:D)(f:Bool->Option α):Option α:=(adW o x y).bind λz=>(D.truth z).bind f
noncomputable abbrev qN(x:D)(f:Bool->Option α):Option α:=(aeb .not x).bind λz=>(D.truth z).bind f
noncomputable abbrev qX(x i:D)(f:D->Option α):Option α:=(D.asSl x).bind λl=>(D.idx i l.length).bind λk=>(l[k]?).bind f
noncomputable abbrev qL(x i:D)(f:Bool->Option α):Option α:=(D.asSl x).bind λl=>(adW .lss i (.int .i64 l.length)).bind λz=>(D.truth z).bind f
noncomputable abbrev qY(x:D)(p:List Nat)(i:D)(f:D->Option α):Option α:=(D.get x p).bind λx=>(D.asSl x).bind λl=>(D.idx i l.length).bind λk=>(l[k]?).bind f
noncomputable abbrev qM(x:D)(p:List Nat)(i:D)(f:Bool->Option α):Option α:=(D.get x p).bind λx=>(D.asSl x).bind λl=>(adW .lss i (.int .i64 l.length)).bind λz=>(D.truth z).bind f
noncomputable abbrev qP(x:D)(p:List Nat)(f:List D->Option α):Option α:=(D.get x p).bind λx=>(D.asSl x).bind f
noncomputable abbrev qJ(i:D)(n:Nat)(x:D)(f:D->Option α):Option α:=(D.idx i n).bind λk=>(D.get x [k]).bind f
end
abbrev qV(l:List D)(i:Nat):List D:=(l.getD i (.bool false)).els
abbrev qW(l:List D)(i:Nat):D:=D.sl ((l.getD i (.bool false)).els)
abbrev qZ(lp:Lp)(f:List D->Option (Sum (List D) (Nat×List D))):List D->Option (Nat×List D):=lp f
abbrev iL(l:List D):Option (Sum (List D) (Nat×List D)):=some (Sum.inl l)
abbrev iR(l:Nat×List D):Option (Sum (List D) (Nat×List D)):=some (Sum.inr l)
abbrev LO:Type:=List (Nat×ShO)
abbrev LS:Type:=List (Nat×Sh)
abbrev Jn(n:Int):D:=.int .i64 n
abbrev Ca:Type:=Nat->List D->Option D
abbrev Sh.di:Sh:=.dv (.int .i64)
abbrev Sh.sp(t:Ty)(i:Nat):Sh:=.same (.ptr t i [])
def m0(F:(Nat->List D->Option D)->Option D)(call:Nat->List D->Option D)(xs:List D):Option D:=match xs with|[]=>F call|_=>none
def qE(v:Nat)(fn:Func)(ann:Ann){lp:Lp}(c:aj lp){f:Nat}{F:(Nat->List D->Option D)->Option D}(g:Tryz.prog.funcs[cw f]?=some fn:=by kernel_rfl)(hk:HW f fn=true:=by kernel_rfl)
  (e:∀ call,vp v lp f fn ann call []=F call:=by intros;kernel_rfl):af f (m0 F):=by
 intro call hc a d xs y h b hw;unfold m0 at b;split at b<;>first|(cases b;done)|skip
 exact jN (v:=v) c g hk call hc a d _ y h ((e call).trans b) hw
def m1(F:(Nat->List D->Option D)->D->Option D)(call:Nat->List D->Option D)(xs:List D):Option D:=match xs with|[a0]=>F call a0|_=>none
def aJ(v:Nat)(fn:Func)(ann:Ann){lp:Lp}(c:aj lp){f:Nat}{F:(Nat->List D->Option D)->D->Option D}(g:Tryz.prog.funcs[cw f]?=some fn:=by kernel_rfl)(hk:HW f fn=true:=by kernel_rfl)
  (e:∀ call a0,vp v lp f fn ann call [a0]=F call a0:=by intros;kernel_rfl):af f (m1 F):=by
 intro call hc a d xs y h b hw;unfold m1 at b;split at b<;>first|(cases b;done)|skip
 exact jN (v:=v) c g hk call hc a d _ y h ((e call _).trans b) hw
def m2(F:(Nat->List D->Option D)->D->D->Option D)(call:Nat->List D->Option D)(xs:List D):Option D:=match xs with|[a0,a1]=>F call a0 a1|_=>none
def aD(v:Nat)(fn:Func)(ann:Ann){lp:Lp}(c:aj lp){f:Nat}{F:(Nat->List D->Option D)->D->D->Option D}(g:Tryz.prog.funcs[cw f]?=some fn:=by kernel_rfl)(hk:HW f fn=true:=by kernel_rfl)
  (e:∀ call a0 a1,vp v lp f fn ann call [a0,a1]=F call a0 a1:=by intros;kernel_rfl):af f (m2 F):=by
 intro call hc a d xs y h b hw;unfold m2 at b;split at b<;>first|(cases b;done)|skip
 exact jN (v:=v) c g hk call hc a d _ y h ((e call _ _).trans b) hw
def m3(F:(Nat->List D->Option D)->D->D->D->Option D)(call:Nat->List D->Option D)(xs:List D):Option D:=match xs with|[a0,a1,a2]=>F call a0 a1 a2|_=>none
def gN(v:Nat)(fn:Func)(ann:Ann){lp:Lp}(c:aj lp){f:Nat}{F:(Nat->List D->Option D)->D->D->D->Option D}(g:Tryz.prog.funcs[cw f]?=some fn:=by kernel_rfl)(hk:HW f fn=true:=by kernel_rfl)
  (e:∀ call a0 a1 a2,vp v lp f fn ann call [a0,a1,a2]=F call a0 a1 a2:=by intros;kernel_rfl):af f (m3 F):=by
 intro call hc a d xs y h b hw;unfold m3 at b;split at b<;>first|(cases b;done)|skip
 exact jN (v:=v) c g hk call hc a d _ y h ((e call _ _ _).trans b) hw
def m4(F:(Nat->List D->Option D)->D->D->D->D->Option D)(call:Nat->List D->Option D)(xs:List D):Option D:=match xs with|[a0,a1,a2,a3]=>F call a0 a1 a2 a3|_=>none
def GB(v:Nat)(fn:Func)(ann:Ann){lp:Lp}(c:aj lp){f:Nat}{F:(Nat->List D->Option D)->D->D->D->D->Option D}(g:Tryz.prog.funcs[cw f]?=some fn:=by kernel_rfl)(hk:HW f fn=true:=by kernel_rfl)
  (e:∀ call a0 a1 a2 a3,vp v lp f fn ann call [a0,a1,a2,a3]=F call a0 a1 a2 a3:=by intros;kernel_rfl):af f (m4 F):=by
 intro call hc a d xs y h b hw;unfold m4 at b;split at b<;>first|(cases b;done)|skip
 exact jN (v:=v) c g hk call hc a d _ y h ((e call _ _ _ _).trans b) hw
def m5(F:(Nat->List D->Option D)->D->D->D->D->D->Option D)(call:Nat->List D->Option D)(xs:List D):Option D:=match xs with|[a0,a1,a2,a3,a4]=>F call a0 a1 a2 a3 a4|_=>none
def vH(v:Nat)(fn:Func)(ann:Ann){lp:Lp}(c:aj lp){f:Nat}{F:(Nat->List D->Option D)->D->D->D->D->D->Option D}(g:Tryz.prog.funcs[cw f]?=some fn:=by kernel_rfl)(hk:HW f fn=true:=by kernel_rfl)
  (e:∀ call a0 a1 a2 a3 a4,vp v lp f fn ann call [a0,a1,a2,a3,a4]=F call a0 a1 a2 a3 a4:=by intros;kernel_rfl):af f (m5 F):=by
 intro call hc a d xs y h b hw;unfold m5 at b;split at b<;>first|(cases b;done)|skip
 exact jN (v:=v) c g hk call hc a d _ y h ((e call _ _ _ _ _).trans b) hw
def m6(F:(Nat->List D->Option D)->D->D->D->D->D->D->Option D)(call:Nat->List D->Option D)(xs:List D):Option D:=match xs with|[a0,a1,a2,a3,a4,a5]=>F call a0 a1 a2 a3 a4 a5|_=>none
def Mm(v:Nat)(fn:Func)(ann:Ann){lp:Lp}(c:aj lp){f:Nat}{F:(Nat->List D->Option D)->D->D->D->D->D->D->Option D}(g:Tryz.prog.funcs[cw f]?=some fn:=by kernel_rfl)(hk:HW f fn=true:=by kernel_rfl)
  (e:∀ call a0 a1 a2 a3 a4 a5,vp v lp f fn ann call [a0,a1,a2,a3,a4,a5]=F call a0 a1 a2 a3 a4 a5:=by intros;kernel_rfl):af f (m6 F):=by
 intro call hc a d xs y h b hw;unfold m6 at b;split at b<;>first|(cases b;done)|skip
 exact jN (v:=v) c g hk call hc a d _ y h ((e call _ _ _ _ _ _).trans b) hw
def m7(F:(Nat->List D->Option D)->D->D->D->D->D->D->D->Option D)(call:Nat->List D->Option D)(xs:List D):Option D:=match xs with|[a0,a1,a2,a3,a4,a5,a6]=>F call a0 a1 a2 a3 a4 a5 a6|_=>none
def GC(v:Nat)(fn:Func)(ann:Ann){lp:Lp}(c:aj lp){f:Nat}{F:(Nat->List D->Option D)->D->D->D->D->D->D->D->Option D}(g:Tryz.prog.funcs[cw f]?=some fn:=by kernel_rfl)(hk:HW f fn=true:=by kernel_rfl)
  (e:∀ call a0 a1 a2 a3 a4 a5 a6,vp v lp f fn ann call [a0,a1,a2,a3,a4,a5,a6]=F call a0 a1 a2 a3 a4 a5 a6:=by intros;kernel_rfl):af f (m7 F):=by
 intro call hc a d xs y h b hw;unfold m7 at b;split at b<;>first|(cases b;done)|skip
 exact jN (v:=v) c g hk call hc a d _ y h ((e call _ _ _ _ _ _ _).trans b) hw
abbrev gx(l:List D)(i:Nat):D:=l.getD i (.bool false)
end Sy
end
noncomputable section
set_option maxHeartbeats 0
noncomputable section
namespace Sy
open Go Go.Proofs
section
variable{lp}(a:aj lp)
def A12:Ann:=let a:LO:=[(4098,.one K4 (.st [K3,Ti] [.st [K2] [.ow K1],.di])),(36871,.one K4 (.st [K3,Ti] [.st [K2] [.ow K1],.di]))];let b:LO:=[(4098,.one K4 (.st [K3,Ti] [.st [K2] [.ow K1],.di]))];let c:LS:=[(2,.sp K4 4098),(7,.sp K4 36871),(9,.dv Ty.bool)];let d:LS:=[(2,.sp K4 4098),(7,.sp K4 36871)];(.tl (.tl (.two (.tl (.two (.loop ⟨[(2,.sp K4 4098),(3,.di)],b,[0]⟩ [(.ret,⟨[(2,.sp K4 4098)],b,[]⟩),(.exit 0,⟨[(2,.sp K4 4098)],b,[0]⟩)] (.tl (.two (.two (.tl (.two (.loop ⟨[(2,.sp K4 4098),(4,.di)],b,[0,3]⟩ [(.ret,⟨[(2,.sp K4 4098)],b,[]⟩),(.exit 2,⟨[(2,.sp K4 4098)],b,[0,3]⟩)] .leaf) .leaf)) .leaf) .leaf))) .leaf)) (.tl (.tl (.tl (.tl (.tl (.two (.tl (.two (.loop ⟨[(2,.sp K4 4098),(7,.sp K4 36871),(8,.di)],a,[5,6]⟩ [(.exit 4,⟨d,a,[]⟩)] (.tl (.cut [(.normal,⟨d,a,[5,6,8]⟩)] [5,6,8] [] (.two (.tl (.two (.tl (.two (.loop ⟨[(2,.sp K4 4098),(7,.sp K4 36871),(9,.dv Ty.bool),(10,.di)],a,[5,6,8]⟩ [(.exit 6,⟨c,a,[5,6,8]⟩)] (.tl (.two (.two (.tl (.two (.loop ⟨[(2,.sp K4 4098),(7,.sp K4 36871),(9,.dv Ty.bool),(11,.di)],a,[5,6,8,10]⟩ [(.exit 8,⟨c,a,[5,6,8,10]⟩)] .leaf) .leaf)) .leaf) .leaf))) .leaf)) (.tl (.two (.reg [] 8) .leaf)))) .leaf) .leaf))) .leaf)) .leaf)))))))))
def Oi(lp:Lp)(c:Ca)(a0:D):Option D:=qS a0 λR=>qC .gtr (Jn (R.length)) (Jn 64) λP=>if P then(some (D.st [(D.st [(D.sl [])]),(Jn 2)])) else((qZ lp (λv4=>qL a0 (gx v4 0) λQ=>if Q then((qZ lp (λh=>qC .lss (gx h 0) (Jn 3) λl=>if l then(qX a0 (gx v4 0) λz=>(D.idx (gx h 0) 3).bind λi14=>(D.fld z i14).bind λA=>qC .gtr A (Jn 262144) λm=>(if m then(some true) else(qX a0 (gx v4 0) λB=>(D.idx (gx h 0) 3).bind λi21=>(D.fld B i21).bind λC=>qB .lss C (Jn (-262144)) λE=>D.truth E)).bind λn=>qT (D.bool n) λo=>if o then(iR (0,[(D.sl []),(Jn 1)])) else(qB .add (gx h 0) (Jn 1) λF=>iL [F,(qW h 1),(gx h 2)])) else(iR (1,[(qW h 1),(gx h 2)]))) [(Jn 0),(qW v4 1),(gx v4 2)]).bind λb=>if b.1=0 then(iR (0,[(qW b.2 0),(gx b.2 1)])) else(qB .add (gx v4 0) (Jn 1) λG=>iL [G,(qW b.2 0),(gx b.2 1)])) else(iR (1,[(qW v4 1),(gx v4 2)]))) [(Jn 0),(D.sl []),(Jn 0)]).bind λd=>if d.1=0 then(some (D.st [(D.st [(qW d.2 0)]),(gx d.2 1)])) else((c 47 [a0]).bind λi=>(c 48 [i]).bind λe=>qS e λx=>qT (D.bool (D.beq (Jn (x.length)) (Jn 0))) λp=>if p then(some (D.st [(D.st [(D.sl [])]),(Jn 120)])) else(qS e λy=>qC .gtr (Jn (y.length)) (Jn 64) λq=>if q then(some (D.st [(D.st [(D.sl [])]),(Jn 2)])) else((qZ lp (λv37=>qL i (gx v37 0) λr=>if r then(((qZ lp (λv41=>qL e (gx v41 1) λs=>if s then((qZ lp (λv45=>qX e (gx v41 1) λH=>(D.fld H 2).bind λI=>qL I (gx v45 1) λt=>if t then(qT (gx v45 0) λu=>(if u then(some true) else(qX e (gx v41 1) λJ=>(D.fld J 2).bind λK=>qX K (gx v45 1) λL=>D.truth (D.bool (D.beq L (gx v37 0))))).bind λv=>qB .add (gx v45 1) (Jn 1) λM=>iL [(D.bool v),M,(qW v45 2),(gx v45 3),(qW v45 4),(gx v45 5)]) else(iR (0,[(gx v45 0),(qW v45 2),(gx v45 3),(qW v45 4),(gx v45 5)]))) [(gx v41 0),(Jn 0),(qW v41 2),(gx v41 3),(qW v41 4),(gx v41 5)]).bind λf=>qB .add (gx v41 1) (Jn 1) λN=>iL [(gx f.2 0),N,(qW f.2 1),(gx f.2 2),(qW f.2 3),(gx f.2 4)]) else(iR (0,[(gx v41 0),(qW v41 2),(gx v41 3),(qW v41 4),(gx v41 5)]))) [(D.bool false),(Jn 0),(qW v37 1),(gx v37 2),(qW v37 3),(gx v37 4)]).bind λa=>qT (gx a.2 0) λw=>if w then(qX i (gx v37 0) λk=>if List.length (qV a.2 3)+List.length [k]<=1073741824 then(some (0,[(qW a.2 1),(gx a.2 2),(D.sl ((qV a.2 3)++[k])),(gx a.2 4)])) else none) else(some (0,[(qW a.2 1),(gx a.2 2),(qW a.2 3),(gx a.2 4)]))).bind λ(g:Nat×List D)=>qB .add (gx v37 0) (Jn 1) λO=>iL [O,(qW g.2 0),(gx g.2 1),(qW g.2 2),(gx g.2 3)]) else(iR (0,[(qW v37 1),(gx v37 2),(qW v37 3),(gx v37 4)]))) [(Jn 0),(qW d.2 0),(gx d.2 1),(D.sl []),(Jn 0)]).bind λj=>some (D.st [(D.st [(qW j.2 2)]),(gx j.2 3)])))))
def L12:af 12 (m1 (Oi lp)):=aJ 0 Tryz.f169 A12 a
def A13:Ann:=(.tl (.tl (.two (.tl (.two (.loop ⟨[(5,.di)],[],[0,1]⟩ [(.ret,⟨[(4,.dv Ty.bool)],[],[]⟩),(.exit 0,⟨[],[],[]⟩)] (.tl (.two (.two (.two (.reg [] 8) .leaf) .leaf) .leaf))) .leaf)) .leaf)))
def Rf(lp:Lp)(c:Ca)(a0 a1:D):Option D:=qS a0 λi=>qS a1 λj=>qT (D.bool (!(D.beq (Jn (i.length)) (Jn (j.length))))) λg=>if g then(some (D.bool false)) else((qZ lp (λv4=>qL a0 (gx v4 0) λh=>if h then(qX a0 (gx v4 0) λd=>qX a1 (gx v4 0) λe=>qT (D.bool (!(D.beq d e))) λb=>if b then(iR (0,[(D.bool false)])) else(qB .add (gx v4 0) (Jn 1) λf=>iL [f])) else(iR (1,[]))) [(Jn 0)]).bind λa=>if a.1=0 then(some (gx a.2 0)) else(some (D.bool true)))
def L13:af 13 (m2 (Rf lp)):=aD 0 Tryz.f170 A13 a
def Rg(lp:Lp)(c:Ca)(a0:D):Option D:=qG a0 [0] λx1=>(c 12 [x1]).bind λb=>qG b [1] λh=>qT (D.bool (D.beq h (Jn 0))) λe=>(if e then(qG b [0,0] λi=>qG a0 [0] λj=>(c 13 [i,j]).bind λg=>(aeb .not g).bind λk=>D.truth k) else(some false)).bind λf=>qT (D.bool f) λa=>if a then(some (Jn 3)) else(qG b [1] λd=>some d)
def L15:af 15 (m1 (Rg lp)):=aJ 0 Tryz.f89 .leaf a
def A18:Ann:=(.tl (.tl (.two (.tl (.two (.loop ⟨[(1,.sp K3 4097),(3,.ow K6),(10,.di)],[(4097,.keep K3 1)],[8,9]⟩ [(.exit 0,⟨[(3,.ow K6)],[],[]⟩)] (.tl (.tl (.two (.two (.tl (.reg [] 11)) .leaf) .leaf)))) .leaf)) .leaf)))
def F18(lp:Lp)(c:Ca)(a0:D):Option D:=qG a0 [0] λx1=>(c 45 [x1]).bind λi=>qS i λk=>(qZ lp (λv4=>qC .lss (gx v4 1) (Jn (k.length)) λj=>if j then(qX i (gx v4 1) λh=>qG h [0] λb=>qG h [1] λd=>qG a0 [0] λf=>(c 46 [f,h]).bind λa=>if List.length (qV v4 0)+List.length [(D.st [b,d,a])]<=1073741824 then(qB .add (gx v4 1) (Jn 1) λg=>iL [(D.sl ((qV v4 0)++[(D.st [b,d,a])])),g]) else none) else(iR (0,[(qW v4 0)]))) [(D.sl []),(Jn 0)]).bind λe=>some (qW e.2 0)
def L18:af 18 (m1 (F18 lp)):=aJ 0 Tryz.f183 A18 a
def A32:Ann:=(.tl (.tl (.tl (.tl (.tl (.tl (.tl (.cut [(.normal,⟨[(5,.dv K5),(6,.dv K5)],[],[]⟩)] [] [] .leaf .leaf))))))))
def Oj(lp:Lp)(c:Ca)(a0 a1:D):Option D:=(c 76 [a0]).bind λr1=>qN r1 λu=>(if u then((c 76 [a1]).bind λx=>(aeb .not x).bind λz=>D.truth z) else(some false)).bind λv=>qT (D.bool v) λw=>if w then(some (Jn 0)) else((c 76 [a0]).bind λy=>qN y λb=>if b then(some (Jn (-1))) else((c 76 [a1]).bind λj=>qN j λd=>if d then(some (Jn 1)) else(qG a0 [1] λq=>qG a1 [1] λr=>qT (D.bool (!(D.beq q r))) λe=>if e then(qG a0 [1] λs=>qT s λf=>if f then(some (Jn (-1))) else(some (Jn 1))) else((c 77 [a0]).bind λk=>(c 77 [a1]).bind λl=>(qG a0 [1] λt=>qT t λg=>if g then((c 77 [a1]).bind λm=>(c 77 [a0]).bind λn=>some (0,[m,n])) else(some (0,[k,l]))).bind λ(a:Nat×List D)=>(c 78 [(gx a.2 0),(gx a.2 1)]).bind λo=>(c 78 [(gx a.2 1),(gx a.2 0)]).bind λp=>qT o λh=>if h then(some (Jn (-1))) else(qT p λi=>if i then(some (Jn 1)) else(some (Jn 0)))))))
def L32:af 32 (m2 (Oj lp)):=aD 0 Tryz.f59 A32 a
def Ri(lp:Lp)(c:Ca)(a0:D):Option D:=qC .geq a0 (Jn 0) λb2=>if b2 then(qB .rem a0 (Jn 65536) λm=>qB .quo a0 (Jn 65536) λn=>qB .rem n (Jn 65536) λo=>qB .quo a0 (Jn 4294967296) λp=>qB .rem p (Jn 65536) λq=>qB .quo a0 (Jn 281474976710656) λr=>(c 81 [(D.bool false),(D.sl [m,o,q,r])]).bind λl=>some l) else(qB .add a0 (Jn 1) λe=>(aeb .neg e).bind λa=>qB .rem a (Jn 65536) λf=>qB .quo a (Jn 65536) λg=>qB .rem g (Jn 65536) λh=>qB .quo a (Jn 4294967296) λi=>qB .rem i (Jn 65536) λj=>qB .quo a (Jn 281474976710656) λk=>(c 82 [(D.sl [f,h,j,k]),(D.sl [(Jn 1)])]).bind λb=>(c 81 [(D.bool true),b]).bind λd=>some d)
def L34:af 34 (m1 (Ri lp)):=aJ 0 Tryz.f60 .leaf a
def A37:Ann:=(.tl (.tl (.tl (.cut [(.normal,⟨[(2,.sp am 4098),(3,.sp am 4099),(4,.sp aG 4100),(5,.sp am 12293)],[(4098,.keep am 2),(4099,.keep am 3),(4100,.keep aG 4),(12293,.one am (.dv am))],[]⟩)] [] [4098,4099,4100] .leaf (.two (.reg [] 7) .leaf)))))
def Ol(lp:Lp)(c:Ca)(a0 a1:D):Option D:=(c 76 [a0]).bind λr1=>qN r1 λk=>(if k then(some true) else((c 76 [a1]).bind λo=>(aeb .not o).bind λq=>D.truth q)).bind λl=>qT (D.bool l) λm=>(if m then(some true) else((c 83 [a1]).bind λp=>D.truth (D.bool (D.beq p (Jn 0))))).bind λn=>qT (D.bool n) λd=>if d then((c 84 []).bind λf=>some f) else((c 85 [a0,a1]).bind λa=>((c 83 [a1]).bind λg=>qC .lss g (Jn 0) λe=>if e then((c 86 [a]).bind λh=>some (0,[h])) else(some (0,[a]))).bind λ(b:Nat×List D)=>(c 87 [a0,(gx b.2 0)]).bind λi=>(c 87 [a1,(gx b.2 0)]).bind λj=>some (D.st [i,j]))
def L37:af 37 (m2 (Ol lp)):=aD 0 Tryz.f99 A37 a
def A39:Ann:=(.tl (.two (.reg [] 4) .leaf))
def Rj(lp:Lp)(c:Ca)(a0 a1:D):Option D:=(c 70 [a1]).bind λr1=>(c 40 [a0,r1]).bind λa=>some a
def L39:af 39 (m2 (Rj lp)):=aD 0 Tryz.f195 A39 a
def A40:Ann:=(.tl (.tl (.tl (.tl (.tl (.two (.reg [] 14) .leaf))))))
def OY(lp:Lp)(c:Ca)(a0 a1:D):Option D:=(c 88 [a0]).bind λr1=>qN r1 λp=>(if p then(some true) else((c 88 [a1]).bind λs=>(aeb .not s).bind λu=>D.truth u)).bind λq=>qT (D.bool q) λr=>if r then((c 84 []).bind λt=>some t) else(qG a0 [1] λv=>qG a1 [1] λj=>(c 85 [v,j]).bind λa=>qG a0 [1] λk=>(c 87 [k,a]).bind λb=>qG a1 [1] λl=>(c 87 [l,a]).bind λd=>qG a0 [0] λm=>(c 89 [m,d]).bind λe=>qG a1 [0] λn=>(c 89 [n,b]).bind λf=>(c 59 [e,f]).bind λg=>qG a1 [1] λo=>(c 89 [b,o]).bind λh=>(c 37 [g,h]).bind λi=>some i)
def L40:af 40 (m2 (OY lp)):=aD 0 Tryz.f107 A40 a
def A46:Ann:=let a:LO:=[(4098,.keep K2 2),(4099,.keep dK 3),(8197,.one K5 (.dv K5))];let b:LO:=[(4098,.keep K2 2),(4099,.keep dK 3),(8197,.one K5 (.ow Ti))];let c:LO:=[(4098,.keep K2 2),(4099,.keep dK 3),(8197,.keep K5 1)];let d:LS:=[(2,.sp K2 4098),(3,.sp dK 4099),(5,.sp K5 8197)];let e:LS:=[(2,.sp K2 4098),(3,.sp dK 4099),(6,.di)];(.tl (.tl (.two (.tl (.two (.loop ⟨[(2,.sp K2 4098),(3,.sp dK 4099),(5,.sp K5 8197),(13,.di)],b,[11,12]⟩ [(.exit 0,⟨d,b,[]⟩)] (.tl (.tl (.cut [(.normal,⟨d,b,[11,12,13]⟩)] [11,12,13] [4098,4099] (.two (.tl (.two (.reg [] 6) .leaf)) .leaf) .leaf)))) .leaf)) (.tl (.tl (.two (.two (.regI [] 6 (.two (.tl (.tl (.two (.tl (.two (.loop ⟨[(2,.sp K2 4098),(3,.sp dK 4099),(6,.di),(12,.dv K5),(14,.di)],a,[0,13]⟩ [(.exit 0,⟨[(6,.di)],a,[]⟩)] (.tl (.tl (.cut [(.normal,⟨e,a,[0,12,13,14]⟩)] [0,12,13,14] [4098,4099] (.two (.tl (.tl (.tl (.two (.reg [] 20) .leaf)))) .leaf) .leaf)))) .leaf)) .leaf))) .leaf)) (.two (.loop ⟨[(5,.sp K5 8197),(8,.same (.clo 299 [(.ptr K5 8197 []),(.ptr K2 4098 []),(.ptr dK 4099 [])])),(9,.ow Ti),(10,.di)],[(4098,.keep K2 2),(4099,.keep dK 3),(8197,.keep K5 5)],[]⟩ [(.exit 2,⟨[(9,.ow Ti)],[],[]⟩)] (.tl (.tl (.regI [] 4 (.two (.tl (.tl (.two (.tl (.two (.loop ⟨[(2,.sp K2 4098),(3,.sp dK 4099),(6,.di),(14,.di)],c,[0,12,13]⟩ [(.exit 0,⟨[(6,.di)],c,[]⟩)] (.tl (.tl (.cut [(.normal,⟨e,a,[0,12,13,14]⟩)] [0,12,13,14] [4098,4099] (.two (.tl (.tl (.tl (.two (.reg [] 20) .leaf)))) .leaf) .leaf)))) .leaf)) .leaf))) .leaf))))) .leaf)) .leaf))))))
def F46(lp:Lp)(c:Ca)(a0 a1:D):Option D:=qS a0 λl1=>(qZ lp (λv2=>qC .lss (gx v2 0) (Jn (l1.length)) λb4=>if b4 then((qX a0 (gx v2 0) λx7=>qG a1 [0] λx8=>(c 101 [x8,x7]).bind λr9=>qG a1 [1] λP=>qT (D.bool (D.beq r9 P)) λp=>if p then(if List.length (qV v2 1)+List.length [(gx v2 0)]<=1073741824 then(some (0,[(D.sl ((qV v2 1)++[(gx v2 0)]))])) else none) else(some (0,[(qW v2 1)]))).bind λ(H:Nat×List D)=>qB .add (gx v2 0) (Jn 1) λQ=>iL [Q,(qW H.2 0)]) else(iR (0,[(qW v2 1)]))) [(Jn 0),(D.sl [])]).bind λe=>(D.idx (Jn 0) (List.length (qV e.2 0))).bind λi15=>((qV e.2 0)[i15]?).bind λR=>(D.idx (Jn 0) (List.length (qV e.2 0))).bind λi17=>((qV e.2 0)[i17]?).bind λl=>(qZ lp (λa=>qC .lss (gx a 2) (Jn (List.length (qV e.2 0))) λq=>if q then((qX (gx a 1) (gx a 2) λf=>qT (D.bool (D.beq f l)) λr=>if r then(some (0,[(gx a 0),(gx a 3)])) else(qC .lss (gx a 0) (Jn 0) λs=>if s then(some (0,[f,(gx a 3)])) else(qX a0 f λS=>qX a0 l λT=>(c 103 [S,T]).bind λh=>qX a0 (gx a 0) λU=>qX a0 l λV=>(c 103 [U,V]).bind λi=>qG a1 [0] λW=>(c 104 [W,i,h]).bind λm=>qC .lss m (Jn 0) λt=>(if t then(some true) else(qT (D.bool (D.beq m (Jn 0))) λu=>if u then((c 101 [h,h]).bind λI=>(c 101 [i,i]).bind λJ=>qB .gtr I J λX=>D.truth X) else(some false))).bind λv=>qT (D.bool v) λw=>if w then(some (0,[f,(gx a 3)])) else(some (0,[(gx a 0),(gx a 3)]))))).bind λ(n:Nat×List D)=>qB .add (gx a 2) (Jn 1) λY=>iL [(gx n.2 0),(gx a 1),Y,(gx n.2 1)]) else(iR (0,[(gx a 0),(gx a 3)]))) [(Jn (-1)),(qW e.2 0),(Jn 0),(qW e.2 0)]).bind λb=>(qZ lp (λv55=>qX (gx b.2 1) (Jn 0) λZ=>qT (D.bool (!(D.beq (gx v55 1) Z))) λx=>if x then(if List.length (qV v55 0)+List.length [(gx v55 1)]<=1073741824 then(qS (gx b.2 1) λG=>(qZ lp (λd=>qC .lss (gx d 1) (Jn (G.length)) λy=>if y then((qX (gx b.2 1) (gx d 1) λg=>qT (D.bool (D.beq g (gx v55 1))) λz=>if z then(some (0,[(gx d 0),(gx b.2 1)])) else(qC .lss (gx d 0) (Jn 0) λA=>if A then(some (0,[g,(gx b.2 1)])) else(qX a0 g λad=>qX a0 (gx v55 1) λal=>(c 103 [ad,al]).bind λj=>qX a0 (gx d 0) λan=>qX a0 (gx v55 1) λax=>(c 103 [an,ax]).bind λk=>qG a1 [0] λaI=>(c 104 [aI,k,j]).bind λo=>qC .lss o (Jn 0) λB=>(if B then(some true) else(qT (D.bool (D.beq o (Jn 0))) λC=>if C then((c 101 [j,j]).bind λK=>(c 101 [k,k]).bind λL=>qB .gtr K L λa2=>D.truth a2) else(some false))).bind λE=>qT (D.bool E) λF=>if F then(some (0,[g,(gx b.2 1)])) else(some (0,[(gx d 0),(gx b.2 1)]))))).bind λ(M:Nat×List D)=>qB .add (gx d 1) (Jn 1) λa3=>iL [(gx M.2 0),a3]) else(iR (0,[(gx d 0)]))) [(Jn (-1)),(Jn 0)]).bind λN=>iL [(D.sl ((qV v55 0)++[(gx v55 1)])),(gx N.2 0)]) else none) else(iR (0,[(qW v55 0)]))) [(D.sl [R]),(gx b.2 0)]).bind λO=>some (qW O.2 0)
def L46:af 46 (m2 (F46 lp)):=aD 0 Tryz.f260 A46 a
def A47:Ann:=let a:LS:=[(3,.ow K1),(5,.ow K1),(6,.dv Ty.bool)];(.tl (.tl (.two (.tl (.two (.loop ⟨[(3,.ow K1),(4,.di)],[],[0]⟩ [(.exit 0,⟨[(3,.ow K1)],[],[]⟩)] (.tl (.two (.two (.tl (.tl (.two (.tl (.two (.loop ⟨[(3,.ow K1),(5,.ow K1),(6,.dv Ty.bool),(7,.di)],[],[0,4]⟩ [(.exit 2,⟨[(5,.ow K1),(6,.dv Ty.bool)],[],[0,4]⟩)] (.tl (.cut [(.normal,⟨a,[],[0,4,7]⟩)] [0,4,7] [] (.two (.two (.reg [] 9) (.cut [(.normal,⟨a,[],[0,4,7]⟩)] [0,4,7] [] .leaf (.two (.reg [] 8) .leaf))) .leaf) .leaf))) .leaf)) (.cut [(.normal,⟨[(5,.ow K1)],[],[0,4]⟩)] [0,4] [] .leaf .leaf)))) .leaf) .leaf))) .leaf)) .leaf)))
def Rl(lp:Lp)(c:Ca)(a0:D):Option D:=(qZ lp (λv1=>qL a0 (gx v1 1) λy=>if y then((qZ lp (λv5=>qC .lss (gx v5 3) (Jn (List.length (qV v5 0))) λz=>if z then((qX a0 (gx v1 1) λq=>(D.idx (gx v5 3) (List.length (qV v5 0))).bind λi11=>((qV v5 0)[i11]?).bind λr=>(c 105 [q,r]).bind λn=>(qN (gx v5 2) λh=>(if h then(qT n λi=>if i then(some true) else(qX a0 (gx v1 1) λs=>(D.idx (gx v5 3) (List.length (qV v5 0))).bind λi20=>((qV v5 0)[i20]?).bind λt=>D.truth (D.bool (D.beq s t)))) else(some false)).bind λj=>qT (D.bool j) λk=>if k then(qX a0 (gx v1 1) λe=>if List.length (qV v5 1)+List.length [e]<=1073741824 then(some (0,[(qW v5 0),(D.sl ((qV v5 1)++[e])),(D.bool true)])) else none) else(some (0,[(qW v5 0),(qW v5 1),(gx v5 2)]))).bind λ(a:Nat×List D)=>(D.idx (gx v5 3) (List.length (qV a.2 0))).bind λi28=>((qV a.2 0)[i28]?).bind λu=>qX a0 (gx v1 1) λv=>qT (D.bool (!(D.beq u v))) λl=>if l then((D.idx (gx v5 3) (List.length (qV a.2 0))).bind λi34=>((qV a.2 0)[i34]?).bind λf=>if List.length (qV a.2 1)+List.length [f]<=1073741824 then(some (0,[(qW a.2 0),(D.sl ((qV a.2 1)++[f])),(gx a.2 2)])) else none) else(some (0,[(qW a.2 0),(qW a.2 1),(gx a.2 2)]))).bind λ(d:Nat×List D)=>qB .add (gx v5 3) (Jn 1) λw=>iL [(qW d.2 0),(qW d.2 1),(gx d.2 2),w]) else(iR (0,[(qW v5 1),(gx v5 2)]))) [(qW v1 0),(D.sl []),(D.bool false),(Jn 0)]).bind λb=>(qN (gx b.2 1) λm=>if m then(qX a0 (gx v1 1) λg=>if List.length (qV b.2 0)+List.length [g]<=1073741824 then(some (0,[(D.sl ((qV b.2 0)++[g]))])) else none) else(some (0,[(qW b.2 0)]))).bind λ(o:Nat×List D)=>qB .add (gx v1 1) (Jn 1) λx=>iL [(qW o.2 0),x]) else(iR (0,[(qW v1 0)]))) [(D.sl []),(Jn 0)]).bind λp=>some (qW p.2 0)
def L47:af 47 (m1 (Rl lp)):=aJ 0 Tryz.f256 A47 a
end
end Sy
end
set_option maxHeartbeats 0
noncomputable section
namespace Sy
open Go Go.Proofs
section
variable{lp}(a:aj lp)
def A48:Ann:=(.tl (.tl (.two (.tl (.two (.loop ⟨[(3,.dv K7),(4,.di)],[],[0]⟩ [(.exit 0,⟨[(3,.dv K7)],[],[]⟩)] (.tl (.two (.two (.tl (.two (.loop ⟨[(3,.dv K7),(5,.di)],[],[0,4]⟩ [(.exit 2,⟨[(3,.dv K7)],[],[0,4]⟩)] (.tl (.two (.two (.tl (.two (.loop ⟨[(3,.dv K7),(6,.di)],[],[0,4,5]⟩ [(.exit 4,⟨[(3,.dv K7)],[],[0,4,5]⟩)] (.tl (.two (.two (.two (.reg [] 14) (.tl (.two (.loop ⟨[(3,.dv K7),(7,.sp K1 49159),(8,.di)],[(49159,.one K1 (.dv K1))],[0,4,5,6]⟩ [(.exit 6,⟨[(3,.dv K7)],[],[0,4,5,6]⟩)] (.tl (.two (.two (.two (.reg [] 6) (.tl (.tl (.cut [(.normal,⟨[(3,.dv K7),(7,.sp K1 49159)],[(49159,.keep K1 7)],[0,4,5,6,8]⟩)] [0,4,5,6,8] [49159] (.tl (.two (.reg [] 9) .leaf)) .leaf)))) .leaf) .leaf))) .leaf))) .leaf) .leaf))) .leaf)) .leaf) .leaf))) .leaf)) .leaf) .leaf))) .leaf)) .leaf)))
def Rm(lp:Lp)(c:Ca)(a0:D):Option D:=(qZ lp (λv1=>qL a0 (gx v1 1) λF=>if F then(qB .add (gx v1 1) (Jn 1) λH=>(qZ lp (λv6=>qL a0 (gx v6 1) λG=>if G then(qB .add (gx v6 1) (Jn 1) λu=>(qZ lp (λv11=>qL a0 (gx v11 1) λb=>if b then(qX a0 (gx v1 1) λv=>qX a0 (gx v6 1) λw=>qX a0 (gx v11 1) λx=>(c 106 [v,w,x]).bind λj=>(qZ lp (λv25=>qC .lss (gx v25 1) (Jn 2) λd=>if d then(qX a0 (gx v1 1) λy=>(c 107 [(gx v25 2),y]).bind λa=>(c 108 [(gx v25 0),(gx v25 2)]).bind λk=>(qN k λe=>(if e then((aeb .not (D.bool (D.beq (gx v25 2) (D.st [(Jn 0),(Jn 0),(Jn 0)])))).bind λz=>D.truth z) else(some false)).bind λf=>qT (D.bool f) λg=>(if g then((c 109 [a0,(gx v25 2),a]).bind λl=>D.truth l) else(some false)).bind λh=>qT (D.bool h) λi=>if i then((c 111 [a0,(gx v25 2),a]).bind λm=>(c 110 [(gx v25 0),(D.st [(gx v25 2),a,m])]).bind λn=>some (0,[n])) else(some (0,[(gx v25 0)]))).bind λ(o:Nat×List D)=>(c 112 [(D.st [(Jn 0),(Jn 0),(Jn 0)]),(gx v25 2)]).bind λp=>qB .add (gx v25 1) (Jn 1) λA=>iL [(gx o.2 0),A,p]) else(iR (0,[(gx v25 0)]))) [(gx v11 0),(Jn 0),j]).bind λq=>qB .add (gx v11 1) (Jn 1) λB=>iL [(gx q.2 0),B]) else(iR (0,[(gx v11 0)]))) [(gx v6 0),u]).bind λr=>qB .add (gx v6 1) (Jn 1) λC=>iL [(gx r.2 0),C]) else(iR (0,[(gx v6 0)]))) [(gx v1 0),H]).bind λs=>qB .add (gx v1 1) (Jn 1) λE=>iL [(gx s.2 0),E]) else(iR (0,[(gx v1 0)]))) [(D.sl []),(Jn 0)]).bind λt=>some (gx t.2 0)
def L48:af 48 (m1 (Rm lp)):=aJ 0 Tryz.f257 A48 a
def A51:Ann:=(.tl (.two (.reg [] 12) .leaf))
def F51(lp:Lp)(c:Ca)(a0 a1:D):Option D:=qG a0 [0] λx1=>qG a1 [0] λe=>(c 53 [x1,e]).bind λa=>qG a0 [1] λf=>qG a1 [1] λg=>(c 53 [f,g]).bind λb=>(c 52 [(D.sl [a,b])]).bind λd=>some d
def L51:af 51 (m2 (F51 lp)):=aD 0 Tryz.f302 A51 a
def A52:Ann:=(.tl (.tl (.two (.tl (.two (.loop ⟨[(8,.di)],[],[3,6,7]⟩ [(.ret,⟨[(2,.di)],[],[]⟩),(.exit 0,⟨[],[],[3]⟩)] .leaf) .leaf)) .leaf)))
def F52(lp:Lp)(c:Ca)(a0:D):Option D:=qS a0 λf=>(qZ lp (λv2=>qC .lss (gx v2 0) (Jn (f.length)) λd=>if d then(qX a0 (gx v2 0) λb=>qT (D.bool (!(D.beq b (Jn 0)))) λe=>if e then(iR (0,[b])) else(qB .add (gx v2 0) (Jn 1) λg=>iL [g])) else(iR (1,[]))) [(Jn 0)]).bind λa=>if a.1=0 then(some (gx a.2 0)) else(some (Jn 0))
def L52:af 52 (m1 (F52 lp)):=aJ 0 Tryz.f296 A52 a
def F53(lp:Lp)(c:Ca)(a0 a1:D):Option D:=(c 115 [a0]).bind λr1=>(c 115 [a1]).bind λa=>qT r1 λb=>if b then(qT a λd=>if d then(some (Jn 0)) else(some (Jn (-1)))) else(qT a λe=>if e then(some (Jn 1)) else(qC .lss a0 a1 λf=>if f then(some (Jn (-1))) else(qC .gtr a0 a1 λg=>if g then(some (Jn 1)) else(some (Jn 0)))))
def L53:af 53 (m2 (F53 lp)):=aD 0 Tryz.f297 .leaf a
def A54:Ann:=(.tl (.tl (.cut [(.normal,⟨[(2,.sp am 4098),(3,.dv (Ty.int .u64))],[(4098,.keep am 2)],[0]⟩)] [0] [4098] .leaf .leaf)))
def Ro(lp:Lp)(c:Ca)(a0:D):Option D:=(D.conv .u64 a0).bind λx1=>(qC .lss a0 (Jn 0) λd=>if d then((aeb .neg x1).bind λe=>some (0,[e])) else(some (0,[x1]))).bind λ(b:Nat×List D)=>qB .lss a0 (Jn 0) λf=>(D.conv .u32 (gx b.2 0)).bind λg=>qB .shr (gx b.2 0) (D.int .u64 32) λh=>(D.conv .u32 h).bind λi=>(c 116 [f,(D.st (ad9 (List.replicate 16 (D.int .u32 0)) [(0,g),(1,i)]))]).bind λa=>some a
def L54:af 54 (m1 (Ro lp)):=aJ 0 Tryz.f58 A54 a
def A57:Ann:=(.tl (.tl (.tl (.two (.tl (.two (.two (.reg [] 8) .leaf) .leaf)) (.two (.reg [] 8) .leaf)))))
def Rq(lp:Lp)(c:Ca)(a0 a1:D):Option D:=(c 118 [(D.sl [a0,a1])]).bind λr1=>qN r1 λw=>if w then((c 119 []).bind λy=>some y) else(qG a0 [1] λz=>qG a1 [1] λA=>qT (D.bool (D.beq z A)) λx=>if x then(qG a0 [2] λB=>qG a1 [2] λC=>(c 120 [B,C]).bind λa=>(D.tupAt a 0).bind λl=>(D.tupAt a 1).bind λm=>qN m λb=>if b then((c 119 []).bind λe=>some e) else(qG a0 [1] λn=>(c 116 [n,l]).bind λf=>some f)) else(qG a0 [2] λo=>qG a1 [2] λp=>(c 121 [o,p]).bind λg=>qC .geq g (Jn 0) λd=>if d then(qG a0 [1] λq=>qG a0 [2] λr=>qG a1 [2] λs=>(c 122 [r,s]).bind λh=>(c 116 [q,h]).bind λi=>some i) else(qG a1 [1] λt=>qG a1 [2] λu=>qG a0 [2] λv=>(c 122 [u,v]).bind λj=>(c 116 [t,j]).bind λk=>some k)))
def L57:af 57 (m2 (Rq lp)):=aD 0 Tryz.f154 A57 a
def A59:Ann:=(.tl (.tl (.tl (.tl (.tl (.tl (.tl (.two (.tl (.two (.two (.reg [] 6) .leaf) .leaf)) (.tl (.two (.tl (.two (.two (.reg [] 6) .leaf) .leaf)) (.two (.reg [] 6) .leaf)))))))))))
def Om(lp:Lp)(c:Ca)(a0 a1:D):Option D:=(c 124 [a0]).bind λr1=>(D.tupAt r1 0).bind λF=>(D.tupAt r1 1).bind λG=>(c 124 [a1]).bind λA=>(D.tupAt A 0).bind λH=>(D.tupAt A 1).bind λI=>qT G λB=>(if B then(D.truth I) else(some false)).bind λC=>qT (D.bool C) λE=>if E then(qB .add F H λt=>(c 34 [t]).bind λi=>some i) else((c 76 [a0]).bind λj=>qN j λd=>(if d then(some true) else((c 76 [a1]).bind λk=>(aeb .not k).bind λu=>D.truth u)).bind λe=>qT (D.bool e) λf=>if f then((c 125 []).bind λl=>some l) else((c 77 [a0]).bind λa=>(c 77 [a1]).bind λb=>qG a0 [1] λv=>qG a1 [1] λw=>qT (D.bool (D.beq v w)) λg=>if g then(qG a0 [1] λx=>(c 82 [a,b]).bind λm=>(c 81 [x,m]).bind λn=>some n) else((c 78 [a,b]).bind λo=>qT o λh=>if h then(qG a1 [1] λy=>(c 126 [b,a]).bind λp=>(c 81 [y,p]).bind λq=>some q) else(qG a0 [1] λz=>(c 126 [a,b]).bind λr=>(c 81 [z,r]).bind λs=>some s))))
def L59:af 59 (m2 (Om lp)):=aD 0 Tryz.f122 A59 a
def A61:Ann:=let a:LO:=[(4098,.keep am 2),(4099,.keep am 3),(4100,.keep am 4),(12293,.one J7 (.dv J7))];(.tl (.tl (.tl (.two (.reg [] 7) (.two (.tl (.two (.loop ⟨[(2,.sp am 4098),(3,.sp am 4099),(4,.sp am 4100),(5,.sp J7 12293),(24,.di)],a,[7,23]⟩ [(.exit 0,⟨[(2,.sp am 4098),(3,.sp am 4099),(4,.sp am 4100),(5,.sp J7 12293)],a,[]⟩)] (.tl (.tl (.two (.two (.tl (.tl (.two (.tl (.two (.loop ⟨[(2,.sp am 4098),(3,.sp am 4099),(4,.sp am 4100),(5,.sp J7 12293),(9,.dv (Ty.int .u64)),(28,.di)],a,[7,8,23,24,27]⟩ [(.exit 2,⟨[(2,.sp am 4098),(3,.sp am 4099),(4,.sp am 4100),(5,.sp J7 12293),(9,.dv (Ty.int .u64))],a,[7,8,23,24]⟩)] (.tl (.tl (.two (.two (.tl (.two (.reg [] 20) .leaf)) .leaf) .leaf)))) .leaf)) .leaf))) .leaf) .leaf)))) .leaf)) (.tl (.two (.reg [] 9) .leaf)))))))
def Rr(lp:Lp)(c:Ca)(a0 a1:D):Option D:=(c 118 [(D.sl [a0,a1])]).bind λr1=>qN r1 λH=>if H then((c 119 []).bind λI=>some I) else(qG a0 [2] λK=>(c 127 [K]).bind λJ=>qG a1 [2] λL=>(c 127 [L]).bind λG=>(qZ lp (λv9=>qC .lss (gx v9 0) J λg=>if g then((qZ lp (λv12=>qC .lss (gx v12 1) G λh=>if h then((D.idx (gx v9 0) 16).bind λi15=>qG a0 [2,i15] λl=>(D.conv .u64 l).bind λm=>(D.idx (gx v12 1) 16).bind λi18=>qG a1 [2,i18] λn=>(D.conv .u64 n).bind λo=>qB .mul m o λp=>qB .add (gx v9 0) (gx v12 1) λq=>qJ q 32 (gx v12 2) λr=>(D.conv .u64 r).bind λs=>qB .add p s λt=>qB .add (gx v12 0) t λf=>qB .add (gx v9 0) (gx v12 1) λu=>(D.conv .u32 f).bind λv=>(D.idx u 32).bind λi30=>(D.set (gx v12 2) [i30] v).bind λw=>qB .shr f (D.int .u64 32) λx=>qB .add (gx v12 1) (Jn 1) λy=>iL [x,y,w]) else(iR (0,[(gx v12 0),(gx v12 2)]))) [(D.int .u64 0),(Jn 0),(gx v9 1)]).bind λd=>qB .add (gx v9 0) G λz=>(D.conv .u32 (gx d.2 0)).bind λA=>(D.idx z 32).bind λi37=>(D.set (gx d.2 1) [i37] A).bind λB=>qB .add (gx v9 0) (Jn 1) λC=>iL [C,B]) else(iR (0,[(gx v9 1)]))) [(Jn 0),(az J7)]).bind λe=>(match (gx e.2 0) with
| D.st a=>(if decide (16+16<=a.length) then(qT (D.bool (!(D.beq (D.st (List.take 16 (List.drop 16 a))) (D.st (ad9 (List.replicate 16 (D.int .u32 0)) []))))) λi=>
 if i then((c 119 []).bind λj=>
 some j) else(qG a0 [1] λE=>
 qG a1 [1] λF=>
(match (gx e.2 0) with
| D.st b=>(if decide (0+16<=b.length) then((c 116 [(D.bool (!(D.beq E F))),(D.st (List.take 16 (List.drop 0 b)))]).bind λk=> some k) else none)
| _=>none))) else none)
| _=>none))
def L61:af 61 (m2 (Rr lp)):=aD 0 Tryz.f142 A61 a
def A62:Ann:=(.tl (.tl (.tl (.cut [(.normal,⟨[(2,.sp am 4098),(3,.sp am 4099),(4,.sp aG 4100),(5,.sp am 12293)],[(4098,.keep am 2),(4099,.keep am 3),(4100,.keep aG 4),(12293,.one am (.dv am))],[]⟩)] [] [4098,4099,4100] .leaf (.two (.reg [] 7) .leaf)))))
def On(lp:Lp)(c:Ca)(a0 a1:D):Option D:=(c 128 [a0]).bind λr1=>qN r1 λk=>(if k then(some true) else((c 128 [a1]).bind λo=>(aeb .not o).bind λq=>D.truth q)).bind λl=>qT (D.bool l) λm=>(if m then(some true) else((c 129 [a1]).bind λp=>D.truth (D.bool (D.beq p (Jn 0))))).bind λn=>qT (D.bool n) λd=>if d then((c 130 []).bind λf=>some f) else((c 131 [a0,a1]).bind λa=>((c 129 [a1]).bind λg=>qC .lss g (Jn 0) λe=>if e then((c 68 [a]).bind λh=>some (0,[h])) else(some (0,[a]))).bind λ(b:Nat×List D)=>(c 132 [a0,(gx b.2 0)]).bind λi=>(c 132 [a1,(gx b.2 0)]).bind λj=>some (D.st [i,j]))
def L62:af 62 (m2 (On lp)):=aD 0 Tryz.f100 A62 a
def Rs(lp:Lp)(c:Ca)(a0:D):Option D:=(c 118 [(D.sl [a0])]).bind λr1=>qN r1 λa=>if a then((c 119 []).bind λb=>some b) else(qG a0 [1] λe=>(aeb .not e).bind λf=>qG a0 [2] λg=>(c 116 [f,g]).bind λd=>some d)
def L68:af 68 (m1 (Rs lp)):=aJ 0 Tryz.f72 .leaf a
def A70:Ann:=(.tl (.tl (.two (.reg [] 6) .leaf)))
def Pq(lp:Lp)(c:Ca)(a0:D):Option D:=(c 88 [a0]).bind λr1=>qN r1 λa=>if a then((c 84 []).bind λb=>some b) else(qG a0 [0] λe=>(c 86 [e]).bind λd=>qG a0 [1] λf=>some (D.st [d,f]))
def L70:af 70 (m1 (Pq lp)):=aJ 0 Tryz.f50 A70 a
def A72:Ann:=(.tl (.two (.reg [] 4) .leaf))
def F72(lp:Lp)(c:Ca)(a0 a1:D):Option D:=(c 135 [a0]).bind λr1=>(c 134 [r1,a1]).bind λa=>some a
def L72:af 72 (m2 (F72 lp)):=aD 0 Tryz.f29 A72 a
def A73:Ann:=(.tl (.two (.reg [] 5) (.tl (.tl (.tl (.two (.two (.loop ⟨[(2,.sp aG 4098),(3,.sp aG 4099),(7,.di)],[(4098,.one aG (.dv aG)),(4099,.one aG (.dv aG))],[]⟩ [(.exit 1,⟨[(7,.di)],[],[]⟩)] (.two (.two (.two (.reg [] 11) .leaf) (.two (.reg [] 16) (.two (.reg [] 7) .leaf))) .leaf)) .leaf) .leaf))))))
def Rt(lp:Lp)(c:Ca)(a0 a1:D):Option D:=(c 136 [a0]).bind λr1=>(c 136 [a1]).bind λC=>qN r1 λE=>(if E then((aeb .not C).bind λI=>D.truth I) else(some false)).bind λF=>qT (D.bool F) λG=>if G then(some (Jn 0)) else(qN r1 λH=>if H then(some (Jn (-1))) else(qN C λg=>if g then(some (Jn 1)) else((qZ lp (λv12=>qG (gx v12 1) [0] λo=>qG (gx v12 1) [1] λp=>(c 132 [o,p]).bind λl=>qG (gx v12 2) [0] λq=>qG (gx v12 2) [1] λr=>(c 132 [q,r]).bind λm=>(c 90 [l,m]).bind λa=>qT (D.bool (!(D.beq a (Jn 0)))) λh=>if h then(qB .mul (gx v12 0) a λs=>iR (0,[s])) else(qG (gx v12 1) [1] λt=>qG (gx v12 1) [0] λu=>qG (gx v12 1) [1] λv=>(c 137 [u,v]).bind λb=>qG (gx v12 2) [1] λw=>qG (gx v12 2) [0] λx=>qG (gx v12 2) [1] λy=>(c 137 [x,y]).bind λd=>(c 129 [b]).bind λe=>(c 129 [d]).bind λf=>qT (D.bool (D.beq e (Jn 0))) λi=>(if i then(some true) else(D.truth (D.bool (D.beq f (Jn 0))))).bind λj=>qT (D.bool j) λk=>if k then(qB .sub e f λz=>qB .mul (gx v12 0) z λA=>iR (0,[A])) else((aeb .neg (gx v12 0)).bind λB=>iL [B,(D.st [t,b]),(D.st [w,d])]))) [(Jn 1),a0,a1]).bind λn=>some (gx n.2 0))))
def L73:af 73 (m2 (Rt lp)):=aD 0 Tryz.f28 A73 a
def Ru(lp:Lp)(c:Ca)(a0:D):Option D:=(c 54 [a0]).bind λr1=>(c 138 [r1]).bind λa=>some a
def L74:af 74 (m1 (Ru lp)):=aJ 0 Tryz.f20 .leaf a
def Rv(lp:Lp)(c:Ca)(a0:D):Option D:=(c 34 [a0]).bind λr1=>(c 133 []).bind λa=>(c 37 [r1,a]).bind λb=>some b
def L75:af 75 (m1 (Rv lp)):=aJ 0 Tryz.f38 .leaf a
def Oo(lp:Lp)(c:Ca)(a0:D):Option D:=(c 139 [a0]).bind λr1=>qT r1 λb2=>(if b2 then(qG a0 [0] λb=>(aeb .not b).bind λd=>D.truth d) else(some false)).bind λa=>some (D.bool a)
def L76:af 76 (m1 (Oo lp)):=aJ 0 Tryz.f90 .leaf a
def A77:Ann:=(.tl (.tl (.two (.tl (.two (.loop ⟨[(1,.sp am 4097),(3,.ow Ti),(4,.di)],[(4097,.keep am 1)],[]⟩ [(.exit 0,⟨[(3,.ow Ti)],[],[]⟩)] (.tl (.two (.two (.reg [] 14) .leaf) .leaf))) .leaf)) .leaf)))
def Rx(lp:Lp)(c:Ca)(a0:D):Option D:=(qZ lp (λv1=>qC .lss (gx v1 1) (Jn 16) λh=>if h then((D.idx (gx v1 1) 16).bind λi4=>qG a0 [2,i4] λi=>qB .rem i (D.int .u32 65536) λj=>(D.conv .i64 j).bind λg=>(D.idx (gx v1 1) 16).bind λi8=>qG a0 [2,i8] λk=>qB .quo k (D.int .u32 65536) λe=>(D.conv .i64 e).bind λa=>if List.length (qV v1 0)+List.length [g,a]<=1073741824 then(qB .add (gx v1 1) (Jn 1) λf=>iL [(D.sl ((qV v1 0)++[g,a])),f]) else none) else(iR (0,[(qW v1 0)]))) [(D.sl []),(Jn 0)]).bind λb=>(c 140 [(qW b.2 0)]).bind λd=>some d
def L77:af 77 (m1 (Rx lp)):=aJ 0 Tryz.f94 A77 a
def A78:Ann:=(.tl (.two (.tl (.two (.loop ⟨[(5,.di)],[],[0,1]⟩ [(.ret,⟨[(4,.dv Ty.bool)],[],[]⟩),(.exit 0,⟨[],[],[]⟩)] .leaf) .leaf)) .leaf))
def Ry(lp:Lp)(c:Ca)(a0 a1:D):Option D:=qS a0 λi=>qS a1 λj=>(D.max2 (Jn (i.length)) (Jn (j.length))).bind λm=>qB .sub m (Jn 1) λn=>(qZ lp (λv5=>qC .geq (gx v5 0) (Jn 0) λh=>if h then((c 141 [a0,(gx v5 0)]).bind λk=>(c 141 [a1,(gx v5 0)]).bind λl=>qT (D.bool (!(D.beq k l))) λb=>if b then((c 141 [a0,(gx v5 0)]).bind λd=>(c 141 [a1,(gx v5 0)]).bind λe=>qB .lss d e λf=>iR (0,[f])) else(qB .sub (gx v5 0) (Jn 1) λg=>iL [g])) else(iR (1,[]))) [n]).bind λa=>if a.1=0 then(some (gx a.2 0)) else(some (D.bool false))
def L78:af 78 (m2 (Ry lp)):=aD 0 Tryz.f134 A78 a
def A80:Ann:=(.tl (.two (.reg [] 10) .leaf))
def Rz(lp:Lp)(c:Ca)(a0:D):Option D:=qG a0 [0] λx1=>(c 34 [x1]).bind λa=>qG a0 [1] λe=>(c 34 [e]).bind λb=>qG a0 [2] λf=>(c 34 [f]).bind λd=>some (D.st [a,b,d])
def L80:af 80 (m1 (Rz lp)):=aJ 0 Tryz.f191 A80 a
def A81:Ann:=let a:LO:=[(4100,.keep am 4),(16390,.one am (.dv am))];let b:LS:=[(4,.sp am 4100),(6,.sp am 16390)];(.tl (.tl (.tl (.tl (.two (.tl (.two (.loop ⟨[(4,.sp am 4100),(6,.sp am 16390),(7,.di)],a,[5]⟩ [(.exit 0,⟨b,a,[]⟩)] (.tl (.cut [(.normal,⟨b,a,[5,7]⟩)] [5,7] [4100] (.two (.tl (.two (.reg [] 15) (.reg [] 16))) .leaf) .leaf))) .leaf)) .leaf)))))
def Pr(lp:Lp)(c:Ca)(a0 a1:D):Option D:=(c 140 [a1]).bind λr1=>qS r1 λz=>qC .gtr (Jn (z.length)) (Jn 32) λw=>if w then((c 125 []).bind λB=>some B) else(qT a0 λx=>(if x then(qS r1 λA=>qB .gtr (Jn (A.length)) (Jn 0) λC=>D.truth C) else(some false)).bind λy=>(qZ lp (λv10=>qL r1 (gx v10 0) λa=>if a then((qB .rem (gx v10 0) (Jn 2) λf=>qT (D.bool (D.beq f (Jn 0))) λb=>if b then(qB .quo (gx v10 0) (Jn 2) λg=>qB .quo (gx v10 0) (Jn 2) λh=>(D.idx h 16).bind λi18=>qG (gx v10 1) [2,i18] λi=>qX r1 (gx v10 0) λj=>(D.conv .u32 j).bind λk=>qB .add i k λl=>(D.idx g 16).bind λi25=>(D.set (gx v10 1) [2,i25] l).bind λm=>some (0,[m])) else(qB .quo (gx v10 0) (Jn 2) λn=>qB .quo (gx v10 0) (Jn 2) λo=>(D.idx o 16).bind λi29=>qG (gx v10 1) [2,i29] λp=>qX r1 (gx v10 0) λq=>(D.conv .u32 q).bind λr=>qB .mul r (D.int .u32 65536) λs=>qB .add p s λt=>(D.idx n 16).bind λi37=>(D.set (gx v10 1) [2,i37] t).bind λu=>some (0,[u]))).bind λ(d:Nat×List D)=>qB .add (gx v10 0) (Jn 1) λv=>iL [v,(gx d.2 0)]) else(iR (0,[(gx v10 1)]))) [(Jn 0),(D.st [(D.bool false),(D.bool y),(az aZ)])]).bind λe=>some (gx e.2 0))
def L81:af 81 (m2 (Pr lp)):=aD 0 Tryz.f135 A81 a
def A82:Ann:=(.tl (.tl (.tl (.two (.tl (.two (.loop ⟨[(5,.ow Ti),(6,.di),(7,.di)],[],[0,1]⟩ [(.exit 0,⟨[(5,.ow Ti)],[],[]⟩)] .leaf) .leaf)) .leaf))))
def RA(lp:Lp)(c:Ca)(a0 a1:D):Option D:=(qZ lp (λv1=>qS a0 λj=>qS a1 λk=>(D.max2 (Jn (j.length)) (Jn (k.length))).bind λn=>qB .add n (Jn 1) λo=>qC .lss (gx v1 2) o λi=>if i then((c 141 [a0,(gx v1 2)]).bind λl=>(c 141 [a1,(gx v1 2)]).bind λm=>qB .add l m λf=>qB .add f (gx v1 1) λa=>qB .rem a (Jn 65536) λb=>if List.length (qV v1 0)+List.length [b]<=1073741824 then(qB .quo a (Jn 65536) λg=>qB .add (gx v1 2) (Jn 1) λh=>iL [(D.sl ((qV v1 0)++[b])),g,h]) else none) else(iR (0,[(qW v1 0)]))) [(D.sl []),(Jn 0),(Jn 0)]).bind λd=>(c 140 [(qW d.2 0)]).bind λe=>some e
def L82:af 82 (m2 (RA lp)):=aD 0 Tryz.f136 A82 a
def RB(lp:Lp)(c:Ca)(a0:D):Option D:=(c 76 [a0]).bind λr1=>qN r1 λa=>(if a then(some true) else((c 77 [a0]).bind λg=>qS g λf=>D.truth (D.bool (D.beq (Jn (f.length)) (Jn 0))))).bind λb=>qT (D.bool b) λd=>if d then(some (Jn 0)) else(qG a0 [1] λh=>qT h λe=>if e then(some (Jn (-1))) else(some (Jn 1)))
def L83:af 83 (m1 (RB lp)):=aJ 0 Tryz.f91 .leaf a
def RC(lp:Lp)(c:Ca) :Option D:=(c 125 []).bind λr1=>(c 133 []).bind λa=>some (D.st [r1,a])
def L84:af 84 (m0 (RC lp)):=qE 0 Tryz.f128 .leaf a
def A85:Ann:=(.tl (.tl (.tl (.two (.tl (.two (.two (.two (.loop ⟨[(4,.sp am 4100),(5,.di),(7,.di)],[(4100,.keep am 4)],[]⟩ [(.exit 0,⟨[(4,.sp am 4100),(5,.di)],[(4100,.keep am 4)],[]⟩)] .leaf) .leaf) .leaf) .leaf)) (.tl (.tl (.tl (.two (.two (.loop ⟨[(4,.sp am 4100),(10,.dv K5),(11,.dv K5)],[(4100,.keep am 4)],[]⟩ [(.exit 2,⟨[(4,.sp am 4100),(10,.dv K5)],[(4100,.keep am 4)],[]⟩)] .leaf) .leaf) .leaf))))))))
def Ps(lp:Lp)(c:Ca)(a0 a1:D):Option D:=(c 124 [a0]).bind λr1=>(D.tupAt r1 0).bind λz=>(D.tupAt r1 1).bind λA=>(c 124 [a1]).bind λv=>(D.tupAt v 0).bind λC=>(D.tupAt v 1).bind λE=>qT A λw=>(if w then(D.truth E) else(some false)).bind λx=>qT (D.bool x) λy=>if y then((qZ lp (λv10=>qT (D.bool (!(D.beq (gx v10 1) (Jn 0)))) λb=>if b then(qB .rem (gx v10 0) (gx v10 1) λs=>iL [(gx v10 1),s]) else(iR (0,[(gx v10 0)]))) [z,C]).bind λi=>(c 34 [(gx i.2 0)]).bind λj=>(c 142 [j]).bind λk=>some k) else((c 76 [a0]).bind λl=>qN l λd=>(if d then(some true) else((c 76 [a1]).bind λm=>(aeb .not m).bind λt=>D.truth t)).bind λe=>qT (D.bool e) λf=>if f then((c 125 []).bind λn=>some n) else((c 77 [a0]).bind λo=>(c 77 [a1]).bind λp=>(qZ lp (λv26=>qS (gx v26 1) λh=>qC .gtr (Jn (h.length)) (Jn 0) λg=>if g then((c 143 [(gx v26 0),(gx v26 1)]).bind λa=>(D.tupAt a 0).bind λB=>(D.tupAt a 1).bind λu=>iL [(gx v26 1),u]) else(iR (0,[(gx v26 0)]))) [o,p]).bind λq=>(c 81 [(D.bool false),(gx q.2 0)]).bind λr=>some r))
def L85:af 85 (m2 (Ps lp)):=aD 0 Tryz.f92 A85 a
def A86:Ann:=(.tl (.tl (.two (.reg [] 6) .leaf)))
def RD(lp:Lp)(c:Ca)(a0:D):Option D:=(c 76 [a0]).bind λr1=>qN r1 λa=>if a then((c 125 []).bind λb=>some b) else(qG a0 [1] λf=>(aeb .not f).bind λg=>(c 77 [a0]).bind λd=>(c 81 [g,d]).bind λe=>some e)
def L86:af 86 (m1 (RD lp)):=aJ 0 Tryz.f129 A86 a
end
end Sy
end
end
end Go.Proofs.YtmnkibhalflchaaGreat
