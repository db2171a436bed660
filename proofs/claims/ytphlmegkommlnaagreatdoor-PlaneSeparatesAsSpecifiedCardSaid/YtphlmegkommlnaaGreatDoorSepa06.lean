/- Part 6 of the proof that PlaneSeparatesAsSpecified answers true at every input -/
import Derived.Test.YtphlmegkommlnaaGreatDoorSepa01
import Derived.Test.YtphlmegkommlnaaGreatDoorSepa02
import Derived.Test.YtphlmegkommlnaaGreatDoorSepa05
import Derived.Shelf.SlSortCmp.InsertionK
import Derived.ProofKit
import Derived.Carry
import Derived.Test.YtphlmegkommlnaaGreatDoorProg
import Derived.KernelRfl
set_option linter.unusedVariables false
set_option linter.unusedSimpArgs false
set_option linter.unnecessarySimpa false
set_option linter.defProp false
set_option maxRecDepth 20000
namespace Go.Proofs.YtphlmegkommlnaaGreatDoor
noncomputable section
namespace Sy
open Go Go.Proofs Go.Sort Go.Lib
def sQ(E:Env)(g:Nat)(x y:D):Option Int:=(E.call g [x,y]).bind λr=>match r with|.int .i64 n=>some n|_=>none
def qm(E:Env)(g:Nat)(x y:D):Bool:=match sQ E g x y with|some n=>decide (n<0)|none=>false
def EG(E:Env)(g:Nat)(x y:D):Bool:=match sQ E g x y with|some n=>decide (0<=n)|none=>false
def AY(lt:D->D->Bool)(x:D):List D->List D
 | []=>[x]
 | y::l=>if lt x y then x::y::l else y::AY lt x l
def kX(lt:D->D->Bool):List D->List D
 | []=>[]
 | x::l=>AY lt x (kX lt l)
def rK(E:Env)(g:Nat):List D->Bool
 | []=>true
 | x::l=>EG E g x x&&l.all (λy=>qm E g x y&&EG E g y x)&&rK E g l
def js(E:Env)(g:Nat)(l:List D):Option (List D):=if rK E g (kX (qm E g) l) then some (kX (qm E g) l) else none
theorem qf(lt:D->D->Bool)(x:D):∀ l:List D,(AY lt x l).Perm (x::l)
 | []=>.refl _
 | y::l=>by
  simp only[AY];split
  ·exact .refl _
  ·exact((qf lt x l).cons y).trans (.swap x y l)
theorem gh(lt:D->D->Bool):∀ l:List D,(kX lt l).Perm l
 | []=>.refl _
 | x::l=>(qf lt x _).trans ((gh lt l).cons x)
section
variable{E:Env}{g:Nat}
theorem jL:∀ {l:List D},rK E g l=true->l.Pairwise (λx y=>qm E g x y=true/\EG E g y x=true)/\∀ x∈l,EG E g x x=true
 | [],_=>⟨.nil,by simp⟩
 | x::l,h=>by
  simp only[rK,zaa,zpa] at h;obtain⟨⟨h1,b⟩,c⟩:=h;obtain⟨d,e⟩:=jL c;exact⟨zFa.2 ⟨b,d⟩,λy a=>by
   rcases zza.1 a with rfl|a
   ·exact h1
   ·exact e y a⟩
def FV{x y:D}(h:EG E g x y=true):qm E g x y=false:=by
 unfold EG at h;unfold qm;split at h
 ·rename_i n hn;simp only[decide_eq_true_eq] at h;simp only[decide_eq_false_iff_not];omega
 ·cases h
def MA{x y:D}(h:qm E g x y=true\/EG E g x y=true):∃ n,sQ E g x y=some n:=by
 rcases h with h|h
 ·unfold qm at h;split at h
  ·exact⟨_,by assumption⟩
  ·cases h
 ·unfold EG at h;split at h
  ·exact⟨_,by assumption⟩
  ·cases h
variable{l:List D}(hc:rK E g l=true)
include hc
def dY{i j:Nat}{x y:D}(d:l[i]?=some x)(e:l[j]?=some y):(qm E g x y=true↔i<j)/\∃ n,sQ E g x y=some n:=by
 obtain⟨h1,c⟩:=jL hc;obtain⟨a,rfl⟩:=zka.1 d;obtain⟨b,rfl⟩:=zka.1 e;rcases zgd i j with k|k|k
 ·have:=zDb.1 h1 i j a b k;exact⟨⟨λ_=>k,λ_=>this.1⟩,MA (.inl this.1)⟩
 ·subst k;have:=c _ (zva a);exact⟨⟨λh=>(by rw[FV this] at h;cases h),λh=>absurd h (Nat.lt_irrefl _)⟩,MA (.inr this)⟩
 ·have:=zDb.1 h1 j i b a k;exact⟨⟨λh=>(by rw[FV this.2] at h;cases h),λh=>by omega⟩,MA (.inr this.2)⟩
def vh:l.Nodup:=by
 obtain⟨h1,a⟩:=jL hc;refine h1.imp λ{x y} h e=>?_;subst e;rw[FV h.2] at h;cases h.1
def EF(E:Env)(g:Nat)(l:List D)(x y:{d:D // d∈l}):Int:=(sQ E g x.1 y.1).getD 0
omit hc in
def zp{x y:{d:D // d∈l}}:ltOf (EF E g l) x y=qm E g x.1 y.1:=by
 unfold ltOf EF qm;cases sQ E g x.1 y.1<;>simp
def Kq:SWO (ltOf (EF E g l)):=by
 have f:∀ x:{d:D // d∈l},∃ i,l[i]?=some x.1:=λx=>by
  obtain⟨i,h1,m⟩:=zQa x.2;exact⟨i,by rw[zda h1,m]⟩
 have key:∀ (x y:{d:D // d∈l}) (i j:Nat),l[i]?=some x.1->l[j]?=some y.1->(ltOf (EF E g l) x y=true↔i<j):=λx y i j c e=>by rw[zp];exact(dY hc c e).1
 refine⟨λx=>?_,λx y z h1 m=>?_,λx y z h1 m=>?_⟩
 ·obtain⟨i,c⟩:=f x;cases h:ltOf (EF E g l) x x with
  | false=>rfl
  | true=>exact absurd ((key x x i i c c).1 h) (Nat.lt_irrefl _)
 ·obtain⟨i,c⟩:=f x;obtain⟨j,e⟩:=f y;obtain⟨k,hk⟩:=f z;have a:=(key x y i j c e).1 h1;have b:=(key y z j k e hk).1 m;exact(key x z i k c hk).2 (by omega)
 ·obtain⟨i,c⟩:=f x;obtain⟨j,e⟩:=f y;obtain⟨k,hk⟩:=f z;have a:¬ i<j:=λh=>by rw[(key x y i j c e).2 h] at h1;cases h1
  have b:¬ j<k:=λh=>by rw[(key y z j k e hk).2 h] at m;cases m
  cases h:ltOf (EF E g l) x z with
  | false=>rfl
  | true=>have:=(key x z i k c hk).1 h;omega
def Ep[Inhabited {d:D // d∈l}]{d d':Array {d:D // d∈l}}(N:(d.toList.map (·.1)).Perm l)(hp:PermIn 0 d.size d d')(O:SortedIn (ltOf (EF E g l)) 0 d.size d'):d'.toList.map (·.1)=l:=by
 obtain⟨Q,_,G⟩:=hp;have q:d'.toList.Perm d.toList:=by
  have J:d'.extract 0 d.size=d':=by rw[<-Q];simp
  rw[J] at G;simpa using G
 have m:(d'.toList.map (·.1)).Perm l:=(q.map _).trans N;have hlen:(d'.toList.map (·.1)).length=l.length:=m.length_eq;have nd:=m.symm.nodup (vh hc);have n:(d'.toList.map (·.1)).Pairwise (λx y=>qm E g x y=true):=by
  rw[zDb];intro i j r u k;simp only[zma,zFb] at r u;have h1:=O i j (zla _) k (by omega)
  rw[getElem!_pos d' j u,getElem!_pos d' i r,zp] at h1;simp only[List.getElem_map,zwd];obtain⟨a,o,c⟩:=zQa (d'[i]).2;obtain⟨b,p,f⟩:=zQa (d'[j]).2;have A:l[a]?=some (d'[i]).1:=by rw[zda o,c]
  have B:l[b]?=some (d'[j]).1:=by rw[zda p,f]
  have R:¬ b<a:=λh=>by rw[(dY hc B A).1.2 h] at h1;cases h1
  have S:a≠b:=λe=>by
   subst e;have:(d'[i]).1=(d'[j]).1:=by rw[<-c,<-f]
   have:=zDb.1 nd i j (by simpa using r) (by simpa using u) k
   simp only[List.getElem_map,zwd] at this;contradiction
  exact(dY hc A B).1.2 (by omega)
 have key:∀ {a b:List D},a.Pairwise (λx y=>qm E g x y=true)->b.Pairwise (λx y=>qm E g x y=true)->a.Perm b->(∀ x∈a,x∈l)->a=b:=by
  intro a
  induction a with
  | nil=>intro b _ _ hp _;exact hp.symm.eq_nil.symm ▸ rfl
  | cons x a ih=>
   intro b L M hp hm;cases b with
   | nil=>exact absurd hp.eq_nil (by simp)
   | cons y b=>
    obtain⟨a1,a2⟩:=zFa.1 L;obtain⟨H,I⟩:=zFa.1 M;have e:x=y:=by
     rcases zza.1 (hp.subset zra) with e|m1
     ·exact e
     ·rcases zza.1 (hp.symm.subset (zra (a:=y))) with e|m2
      ·exact e.symm
      ·exfalso;have h1:=H x m1;have K:=a1 y m2;obtain⟨i,s,t⟩:=zQa (hm x zra);obtain⟨j,v,w⟩:=zQa (hm y (zia _ m2));have C:l[i]?=some x:=by rw[zda s,t]
       have F:l[j]?=some y:=by rw[zda v,w]
       have:=(dY hc C F).1.1 K;have:=(dY hc F C).1.1 h1;omega
    subst e;rw[ih a2 I ((List.perm_cons x).1 hp) (λz P=>hm z (zia _ P))]
 exact key n ((jL hc).1.imp λh=>h.1) m λx hx=>m.subset hx
end
end Sy
end
noncomputable section
namespace Sy
open Go Go.Proofs Go.Sort Go.Lib
def rl:D->Bool
 | .int ..=>true
 | .bool _=>true
 | _=>false
def fr:D->Value
 | .int k n=>.int k n
 | .bool b=>.bool b
 | _=>undef
mutual
theorem jT:∀ (t:Ty) (x:D),bM t=true->wt t x->∀ d∈x.flat,rl d=true
 | .int k,x,_,h=>by simp only[wt] at h;obtain⟨n,rfl⟩:=h;intro d hd;simp only[D.flat,zJa] at hd;subst hd;rfl
 | .bool,x,_,h=>by simp only[wt] at h;obtain⟨n,rfl⟩:=h;intro d hd;simp only[D.flat,zJa] at hd;subst hd;rfl
 | .str,x,hc,h=>by simp[bM] at hc
 | .st ts,x,hc,h=>by
  simp only[wt] at h;obtain⟨l,rfl,hl⟩:=h;simp only[bM] at hc;simp only[D.flat];exact tB ts l hc hl
 | .arr n t,x,hc,h=>by
  simp only[wt] at h;obtain⟨l,rfl,hn,hl⟩:=h;clear hn;simp only[bM] at hc;simp only[D.flat]
  induction l with
  | nil=>intro d hd;simp[D.flats] at hd
  | cons y l ih=>
   intro d hd;simp only[D.flats,zxa] at hd;rcases hd with hd|hd
   ·exact jT t y hc (hl y zra) d hd
   ·exact ih (λz hz=>hl z (zia _ hz)) d hd
 | .sl t,x,hc,h=>by simp[bM] at hc
 | .tup l,x,hc,h=>by simp[bM] at hc
 | .fn,x,hc,h=>by simp[bM] at hc
theorem tB:∀ (ts:List Ty) (l:List D),lv ts=true->eO ts l->∀ d∈D.flats l,rl d=true
 | [],l,_,h=>by simp only[eO] at h;subst h;intro d hd;simp[D.flats] at hd
 | t::ts,l,hc,h=>by
  simp only[eO] at h;obtain⟨y,l',rfl,h1,h2⟩:=h;simp only[lv,zaa] at hc;intro d hd;simp only[D.flats,zxa] at hd;rcases hd with hd|hd
  ·exact jT t y hc.1 h1 d hd
  ·exact tB ts l' hc.2 h2 d hd
end
def BG{w:World}{S:Nat->Nat->Prop}{d:D}{c:Value}(hl:rl d=true):CR w S d c↔c=fr d:=by
 cases d<;>simp only[rl] at hl<;>first|(cases hl;done)|skip
 ·exact⟨λh=>h.int_inv,λh=>by subst h;exact .int _ _⟩
 ·exact⟨λh=>h.bool_inv,λh=>by subst h;exact .bool _⟩
def fA{w:World}{S:Nat->Nat->Prop}{e:List D}{cs:List Value}(hl:∀ d∈e,rl d=true):cN w S e cs↔cs=e.map fr:=by
 constructor
 ·rintro⟨h1,g⟩;apply zcc;intro i;rw[zbb];rcases zqa i e.length with k|k
  ·have a:=zda k;have b:cs[i]?=some cs[i]:=zda (h1 ▸ k);rw[a,b];simp only[zkb,zca];exact(BG (hl _ (zva k))).1 (g i _ _ a b)
  ·rw[z6a k,z6a (by omega)];rfl
 ·rintro rfl;refine⟨by simp,λi d c f hc=>?_⟩
  rw[zbb,f] at hc;simp only[zkb,zca] at hc;exact(BG (hl d (zZa f))).2 hc.symm
theorem vB{k:Nat}(hk:0<k):∀ (l:List D),(∀ x∈l,x.flat.length=k)->∀ t,(D.flats l)[t]?=(l[t/k]?).bind λx=>x.flat[t%k]?
 | [],_,t=>by simp[D.flats]
 | x::l,h,t=>by
  have hx:=h x zra;simp only[D.flats];rcases zqa t k with c|c
  ·rw[zeb (by omega),z9a c,zPa c];rfl
  ·rw[zxb (by omega),hx,vB hk l (λy d=>h y (zia _ d)) (t-k)]
   have a:t/k=(t-k)/k+1:=by rw[Nat.div_eq_sub_div hk c]
   have b:t%k=(t-k)%k:=Nat.mod_eq_sub_mod c;rw[a,b];rfl
structure SortOk(P:Program)(f:Nat)(e:Ty):Prop where
 cmp:bM e=true
 agg:cE e=true
 pos:0<e.size
 nt:ao e=true
 fn : ∃ fn, P.funcs[f]? = some fn /\ (fn.name == "runtime.NumGoroutine") = false /\ fn.body.isSome = true
 empty:∀ (p:Option Addr) (cap:Nat) (fv:Value) (w:World),Calls P f #[.slice p 0 cap,fv] w λen w'=>en=.returned (.tuple #[])/\w'=w
 whole:∀ (α:Type) [Inhabited α] (enc:α->List Value) (_:∀ x,(enc x).length=e.size) (_:∀ x,∀ v∈enc x,v.oneCell'=true) (cf:α->α->Int) (_:SWO (ltOf cf)) (g:Nat) (blk off cap:Nat) (d:Array α) (w:World)
  (_:∀ args w,(callFunc g args).run P w=.ok (.enter g args) w) (_:CmpLays P g #[] enc e.size cf blk off d.size w) (_:HoldsK enc e.size w blk off d) (_:blk<w.heap.size) (_:d.size<4611686018427387904),
  Calls P f #[.slice (some ⟨blk,off,none⟩) d.size cap,.func (.func g) #[] #[]] w λen w'=>en=.returned (.tuple #[])/\∃ d' n os,PermIn 0 d.size d d'/\SortedIn (ltOf cf) 0 d.size d'/\w'=sortWorldK enc e.size w blk off n d' os
section
variable{P:Program}{E:Env}
def AM(hE:EnvOk P E){g:Nat}{ptys:List Ty}{rty:Ty}(h:E.sig g=some (ptys,rty))(args:Array Value)(w:World):(callFunc g args).run P w=.ok (.enter g args) w:=by
 obtain⟨_,_,fn,f1,f2,f3⟩:=hE.sig g ptys rty h;have f2' : ¬ fn.name = "runtime.NumGoroutine" := by simpa using f2
 have hb':¬ fn.body=none:=by intro hh;rw[hh] at f3;cases f3
 simp[callFunc,f1,f2',hb']
def Eo(hE:EnvOk P E){f:Nat}{e:Ty}(H:SortOk P f e){g:Nat}(B:E.sig g=some ([e,e],.int .i64)/\E.free g=0){l l':List D}(a9:∀ x∈l,wt e x)(hs:js E g l=some l')(a4:l≠[]){w:World}{b off cap:Nat}{row:Array Value}
  (R:bH w b=some row) (hc:∀ (i:Nat) (d:D),(D.flats l)[i]?=some d->w.cell? ⟨b,off+i,none⟩=some (fr d)) (hlen:l.length<4611686018427387904) :
  Calls P f #[.slice (some ⟨b,off,none⟩) l.length cap,.func (.func g) #[] #[]] w λen w'=>en=.returned (.tuple #[])/\l'.Perm l/\w.drawn<=w'.drawn/\w'.tape=w.tape/\w'.os=w.os/\w'.output=w.output/\w.heap.size<=w'.heap.size ∧
   (∀ T,T≠b->T<w.heap.size->w'.heap[T]?=w.heap[T]?)/\∀ (i:Nat) (d:D),(D.flats l')[i]?=some d->w'.cell? ⟨b,off+i,none⟩=some (fr d):=by
 have a5:rK E g l'=true/\l'=kX (qm E g) l:=by
  unfold js at hs;split at hs
  ·rename_i h;cases hs;exact⟨h,rfl⟩
  ·cases hs
 obtain⟨s,hl'⟩:=a5;have k:l'.Perm l:=hl' ▸ gh _ l;have I:∀ x∈l,x∈l':=λx hx=>k.symm.subset hx;have p:∀ x∈l',wt e x:=λx hx=>a9 x (k.subset hx);obtain⟨x0,bj⟩:∃ x0,x0∈l':=by
  cases l with
  | nil=>exact absurd rfl a4
  | cons x l=>exact⟨x,I x zra⟩
 have bl:Inhabited {d:D // d∈l'}:=⟨⟨x0,bj⟩⟩;have N:∀ x:{d:D // d∈l'},x.1.flat.length=e.size:=λx=>ci e x.1 (p x.1 x.2) H.nt;have A:∀ x:{d:D // d∈l'},∀ d∈x.1.flat,rl d=true:=λx=>jT e x.1 H.cmp (p x.1 x.2);obtain⟨d,Q⟩:∃ d:Array {d:D // d∈l'},d.toList.map (·.1)=l:=⟨(l.pmap Subtype.mk I).toArray,by simp[List.map_pmap]⟩
 have M:d.size=l.length:=by rw[<-Q];simp
 have U:b<w.heap.size:=by
  unfold bH at R;cases O:w.heap[b]? with
  | none=>rw[O] at R;cases R
  | some o=>exact(zga.1 O).1
 have Y:∀ o,w.frozen? ⟨b,o,none⟩=false:=λo=>by
  unfold bH at R;split at R
  ·rename_i c t O;unfold World.frozen?;simp[O]
  ·cases R
 have at_:∀ (dd:Array {d:D // d∈l'}) (t:Nat),t<dd.size*e.size->(D.flats (dd.toList.map (·.1)))[t]?.map fr=some ((flatK (λx:{d:D // d∈l'}=>x.1.flat.map fr) e.size dd)[t]!):=λdd t ht=>by
  rw[get_flatK _ _ _ _ ht,vB H.pos _ (λx hx=>by
   obtain⟨y,_,rfl⟩:=zab.1 hx;exact N y)]
  have h1:t/e.size<dd.size:=(zSa H.pos).2 ht;have F:t%e.size<e.size:=zRa _ H.pos;rw[zbb,zAa,zEb h1,getElem!_pos dd _ h1];simp only[zkb,zba];have h3:t%e.size<(dd[t/e.size]).1.flat.length:=by rw[N];exact F
  rw[zda h3,getElem!_pos _ _ (by simpa using h3)]
  simp
 have hH:HoldsK (λx:{d:D // d∈l'}=>x.1.flat.map fr) e.size w b off d:=by
  intro j hj;rw[size_flatK] at hj;refine⟨?_,Y _⟩;have:=at_ d j hj;rw[Q] at this;cases hq:(D.flats l)[j]? with
  | none=>rw[hq] at this;cases this
  | some q=>
   rw[hq] at this;simp only[zkb,zca] at this;rw[hc j q hq,this];rfl
 have V:CmpLays P g #[] (λx:{d:D // d∈l'}=>x.1.flat.map fr) e.size (EF E g l') b off d.size w:=by
  intro m os dk _ x y;obtain⟨i,a0,a1⟩:=zQa x.2;obtain⟨j,a2,a3⟩:=zQa y.2;obtain⟨_,n,hn⟩:=dY s (i:=i) (j:=j) (x:=x.1) (y:=y.1) (by rw[zda a0,a1]) (by rw[zda a2,a3])
  have L:E.call g [x.1,y.1]=some (.int .i64 n):=by
   unfold sQ at hn;obtain⟨r,h1,F⟩:=bind_some_inv hn;rw[h1];split at F
   ·cases F;rfl
   ·cases F
  have ax:EF E g l' x y=n:=by simp[EF,hn]
  rw[ax];have K:∀ z:{d:D // d∈l'},∀ (w:World) (S:Nat->Nat->Prop),fQ w S z.1 (.agg (z.1.flat.map fr).toArray):=λz w S=>by
   refine⟨?_,?_⟩
   ·have C:=p z.1 z.2;have ha:=H.agg;cases e<;>simp only[cE] at ha<;>first|(cases ha;done)|skip
    ·simp only[wt] at C;obtain⟨ll,h1,_⟩:=C;rw[h1];exact⟨_,rfl⟩
    ·simp only[wt] at C;obtain⟨ll,h1,_⟩:=C;rw[h1];exact⟨_,rfl⟩
   ·exact(fA (A z)).2 (by simp[Value.cells])
  have ad:eO [e,e] [x.1,y.1]:=⟨x.1,[y.1],rfl,p _ x.2,⟨y.1,[],rfl,p _ y.2,rfl⟩⟩;have u:=(hE.call g [e,e] (.int .i64) [x.1,y.1] (.int .i64 n) B.1 L ad).1;rw[B.2] at u;have W:=u
   (sortWorldK (λx:{d:D // d∈l'}=>x.1.flat.map fr) e.size w b off m dk os) (λ_ _=>False) [.agg (x.1.flat.map fr).toArray,.agg (y.1.flat.map fr).toArray] (λ_ _ h=>h.elim) ad rfl
   (λi z v C J=>by
    cases i with
    | zero=>simp at C J;subst C;subst J;exact K x _ _
    | succ i=>cases i with
     | zero=>simp at C J;subst C;subst J;exact K y _ _
     | succ i=>simp at C)
  refine W.mono ?_;rintro en w' ⟨v,rfl,⟨os',dr,aI,rfl⟩,_,J⟩;have a6:v=.int .i64 n:=by
   obtain⟨c1,c2⟩:=(J:fQ _ _ _ _);have:=(fA (by intro d Q;simp only[D.flat,zJa] at Q;subst Q;rfl)).1 c2
   exact ar c1 (by simpa [D.flat,fr] using this)
  refine⟨by rw[a6],dr-(sortWorldK (λx:{d:D // d∈l'}=>x.1.flat.map fr) e.size w b off m dk os).drawn,os'.toArray,?_⟩
  unfold grown grow World.drewN;simp only[show ∀ a b:Nat,a<=b->a+(b-a)=b from λa b h=>by omega,aI]
 have hO:SWO (ltOf (EF E g l')):=Kq s;have key:=H.whole {d:D // d∈l'} (λx=>x.1.flat.map fr) (λx=>by simp[N x]) (λx v J=>by
   obtain⟨q,hq,rfl⟩:=zab.1 J;have:=A x q hq;cases q<;>simp only[rl] at this<;>first|(cases this;done)|rfl) (EF E g l') hO g b off cap d w (AM hE B.1) V hH U (by omega)
 rw[M] at key;refine key.mono ?_;rintro en w' ⟨rfl,d',n,os,hp,Z,rfl⟩;rw[<-M] at hp Z;have X:d'.toList.map (·.1)=l':=Ep s (d:=d) (by rw[Q];exact k.symm) hp Z
 have G:d'.size=d.size:=hp.1;have al:=holdsK_sortWorldK_c (λx:{d:D // d∈l'}=>x.1.flat.map fr) e.size w b off d d' n os hH U G;refine⟨rfl,k,?_,rfl,rfl,rfl,?_,λT O an=>?_,λi q hq=>?_⟩
 ·show w.drawn<=w.drawn+n;omega
 ·simp only[sortWorldK,grow,putRowK,putRow,mapBlock,Go.Sort.ahead,Array.size_append,Array.size_modify];omega
 ·simp only[sortWorldK,grow,putRowK,putRow,mapBlock,Go.Sort.ahead];rw[Array.getElem?_append_left (by simpa using an),z3c,if_neg (Ne.symm O)]
 ·have hi:i<d'.size*e.size:=by
   have h1:=(zka.1 hq).1;rw[aE H.nt l' p] at h1;rw[G,M,<-k.length_eq];exact h1
  have F:=at_ d' i hi;rw[X,hq] at F;simp only[zkb,zca] at F;have h3:=(al i (by rw[size_flatK];exact hi)).1
  rw[h3,<-F];rfl
end
end Sy
end
noncomputable section
namespace Sy
open Go Go.ChangeShapes Go.WideShapes Go.ChangeAt Go.RowKit
def bool_of{W:World}{S:Nat->Nat->Prop}{b:Bool}{v:Value}(h:DR W S (.bool b) v):v=.bool b:=by
 obtain⟨h1,c⟩:=(h:fQ W S (.bool b) v);have e:=(fA (by intro d a;simp only[D.flat,zJa] at a;subst a;rfl)).1 c
 exact ar h1 (by simpa [D.flat,fr] using e)
section
variable{H:Type}{enc:TypeId×Value->H}{P:Program}{W:World}
def Ly{ty:Ty}{T:TypeId}(hl:bF P ty T=true)(hp:oW ty=true){base:Nat}{v:Value}(c:Value.okWide P W .any base T v){d0:DataW H}{i:List MemPlace}{spare:Nat->Bool}{held:Bool}(h:DataW.Trod enc P W 0 spare held T v d0 i) :
  ∃ d,wt ty d/\M7 d/\fQ W (pq W) d v:=by
 obtain⟨fuel,g⟩:=h;obtain⟨d,h1,a,f⟩:=sq (W:=W) ty T fuel _ _ hl hp g;refine⟨d,h1,a,?_,f⟩;have na:∀ {u:TypeDesc},P.underlying T=some u->(match u with|.struct _=>False|.array _ _=>False|_=>True)->∀ cs,v≠.agg cs:=λ{u} hu hn cs e=>by
  subst e;simp only[Value.okWide,hu] at c;cases u<;>simp only[Cell.okWide,Cell.ok,hu] at c<;>first|exact hn|(cases c;done)|exact c
 cases ty with
 | int k=>obtain⟨n,rfl⟩:=h1;exact na (jp hl) trivial
 | bool=>obtain⟨b,rfl⟩:=h1;exact na (u:=.bool) (by simp only[bF,zaa] at hl;have a:=hl.2;split at a<;>first|assumption|cases a) trivial
 | str=>obtain⟨s,rfl⟩:=h1;exact na (u:=.string) (by simp only[bF,zaa] at hl;have a:=hl.2;split at a<;>first|assumption|cases a) trivial
 | st m=>
  obtain⟨l,rfl,_⟩:=h1;obtain⟨j,hu,_⟩:=iM hl;obtain⟨cs,h,_⟩:=okWide_struct hu c;exact⟨cs,h⟩
 | arr n e=>
  obtain⟨l,rfl,_⟩:=h1;obtain⟨u,hu,_⟩:=dH hl;simp only[Value.okWide,hu] at c;obtain⟨cs,h,_⟩:=c;exact⟨cs,h⟩
 | sl e=>
  obtain⟨l,rfl,_⟩:=h1;obtain⟨u,hu,_⟩:=iK hl;exact na hu trivial
 | tup l=>simp[bF] at hl
 | fn=>simp[bF] at hl
def zm(P:Program):List Ty->List TypeId->Bool
 | [],[]=>true
 | ty::a,T::Ts=>bF P ty T&&oW ty&&zm P a Ts
 | _,_=>false
theorem Jb:∀ {c:List Ty} {Ts:List TypeId},zm P c Ts=true->∀ {vs:List Value} {e:List (DataW H)} {ps:List MemPlace} {base:Nat} {spare:Nat->Bool} {held:Bool},DataW.TrodAll enc P W 0 spare held Ts vs e ps ->
  (∀ (j:Nat) t v,Ts[j]?=some t->vs[j]?=some v->Value.okWide P W .any base t v)->∃ xs,eO c xs/\xD xs/\vs.length=xs.length/\∀ (i:Nat) (x:D) (v:Value),xs[i]?=some x->vs[i]?=some v->fQ W (pq W) x v
 | [],[],_,vs,e,ps,base,spare,held,h,f=>by
  obtain⟨rfl,rfl,rfl⟩:=trodAll_nil h;exact⟨[],rfl,trivial,rfl,by simp⟩
 | ty::c,T::Ts,hl,vs,e,ps,base,spare,held,h,f=>by
  simp only[zm,zaa] at hl;obtain⟨v,l,d,k,p,q,rfl,rfl,rfl,h0,h1⟩:=trodAll_cons h;obtain⟨x,m,n,o⟩:=Ly hl.1.1 hl.1.2 (f 0 T v rfl rfl) h0;obtain⟨xs,r,s,w,y⟩:=Jb hl.2 h1 (λj t u a b=>f (j+1) t u (by simpa using a) (by simpa using b))
  refine⟨x::xs,⟨x,xs,rfl,m,r⟩,⟨n,s⟩,by simp[w],λi z u g hu=>?_⟩
  cases i with
  | zero=>simp at g hu;subst g;subst hu;exact o
  | succ i=>exact y i z u (by simpa using g) (by simpa using hu)
 | [],_::_,h,_,_,_,_,_,_,_,_=>by simp[zm] at h
 | _::_,[],h,_,_,_,_,_,_,_,_=>by simp[zm] at h
theorem L4:∀ {Ts:List TypeId} {vs:List Value} {a:List (DataW H)} {ps:List MemPlace} {base:Nat} {spare:Nat->Bool} {held:Bool},DataW.TrodAll enc P W base spare held Ts vs a ps->a.length=Ts.length
 | [],vs,a,ps,_,_,_,h=>by obtain⟨rfl,rfl,rfl⟩:=trodAll_nil h;rfl
 | T::Ts,vs,a,ps,_,_,_,h=>by
  obtain⟨v,c,d,b,p,q,rfl,rfl,rfl,h0,h1⟩:=trodAll_cons h;simp[L4 h1]
theorem Di{W':World}(hl:laidOutB P=true):∀ {Ts:List TypeId},Ts.all (λt=>P.readableRec t&&decide (t<P.types.size))=true->∀ {vs:List Value} {c:List (DataW H)} {ps:List MemPlace},
  DataW.TrodAll enc P W 0 (λ_=>true) true Ts vs c ps->Below W.heap.size W W'->(∀ x∈ps,x.block<W.heap.size)->DataW.TrodAll enc P W' 0 (λb=>decide (b<W.heap.size)) true Ts vs c ps
 | [],_,vs,c,ps,h,_,_=>by
  obtain⟨rfl,rfl,rfl⟩:=trodAll_nil h;exact trodAll_mk0
 | T::Ts,e,vs,c,ps,h,f,a=>by
  simp only[zIb,zaa,decide_eq_true_eq] at e;obtain⟨v,i,d,g,p,q,rfl,rfl,rfl,h0,h1⟩:=trodAll_cons h;exact⟨p,q,Below.trod hl e.1.1 e.1.2 h0 f (λx hx=>a x (by simp[hx])),Di hl e.2 h1 f (λx hx=>a x (by simp[hx])),rfl⟩
end
end Sy
end
noncomputable section
namespace Sy
open Go
variable{ro:Option Nat}{nn:Nat}
def AG(s:St):List ResultVar->Option (Nat×List AV)
 | [.tmp i]=>match s.tm i with
  | .clo f l=>some (f,l)
  | _=>none
 | _=>none
def qr(s:St)(t:Ty):List ResultVar->Option (Nat×List D)
 | [.tmp i]=>match s.tm i with
  | .own a v l=>if a.beq t&&!(s.dead.contains v) then some (v,l) else none
  | _=>none
 | _=>none
def A9(s:St):List ResultVar->Bool
 | [.tmp i]=>match s.tm i with
  | .nils=>true
  | _=>false
 | _=>false
def JL{R:Type}(E:Env)(s sc:St)(a:List Nat)(b:List ResultVar)(K:AV->St->Option R):Ty->Option R
 | .fn=>(AG sc b).bind λq=>K (.clo q.1 q.2) (nw s sc a)
 | .sl t=>match qr sc t b with
  | some q=>K (.own t q.1 q.2) (nw s sc a)
  | none=>if A9 sc b then K .nils (nw s sc a) else(results E sc (.sl t) b).bind λy=>K (.d (.sl t) y) (nw s sc a)
 | c=>(results E sc c b).bind λy=>K (.d c y) (nw s sc a)
def Mn(E:Env)(fn:Func)(b:Ty)(ann:Ann)(R:Type)(s:St)(a:List AV)(K:AV->St->Option R):Option R:=
 match fn.body with
 | none=>none
 | some c=>if a.length<=fn.ntmps/\(dU s).length<=4096 then JG E c ann R (JN s fn.ntmps a (AW s a b)) λe sc=>match e with
   | .exit _=>none
   | _=>JL E s sc (AW s a b) fn.results.toList K b
  else none
def Bp(n:Nat)(a:Ty):Bool:=match a with|.fn=>decide (n=1)|a=>iS n a
section
variable{P:Program}{E:Env}{w0:Root}{S S':Nat->Nat->Prop}{γ γ':Nat->Option Nat}{β β' β'':Nat->Option (Nat×Nat)}{s sc:St}{a:Act}{w w':World}
def Lo{c:Cx}{b:Ty}{n:Nat}{y:D}{v:Value}(e:iS n b=true)(a:wt b y)(h:DR c.w c.S y v):AR c (.d b y) v:=by
 simp only[AR];have key:ao b=true\/∃ g,b=.tup g/\bh g=true:=by
  unfold iS at e;split at e
  ·exact .inl e
  ·split at e
   ·exact .inr ⟨_,rfl,e⟩
   ·cases e
 rcases key with f|⟨g,rfl,f⟩
 ·refine .inl ⟨f,a,?_⟩;cases b<;>simp only[wt] at a<;>first
   | (obtain⟨m,rfl⟩:=a;exact h)
   | (obtain⟨m,rfl,_⟩:=a;exact h)
   | (exact a.elim)
   | (simp[ao] at f)
 ·exact .inr ⟨g,rfl,f,a,h⟩
def Ds(h:Rp w0 S γ β s a w){fn:Func}{q:Nat×List AV}(hq:AG s fn.results.toList=some q):∃ v,(Go.results fn a.tmps).run P w=.ok v w/\AR ⟨w,S,γ,β,s.ob,s.dead⟩ (.clo q.1 q.2) v:=by
 rw[kG];have hm:fn.results.mapM (mZ a.tmps)=Functor.map List.toArray (fn.results.toList.mapM (mZ a.tmps)):=by
  rw[zLc]
 rw[hm];generalize fn.results.toList=g at *;unfold AG at hq;split at hq<;>first|(cases hq;done)|skip
 rename_i i;split at hq<;>first|(cases hq;done)|skip
 rename_i f l b;cases hq;have e:i<a.tmps.size:=by
  rcases zqa i a.tmps.size with d|c
  ·exact d
  ·have:=h.tmu i (by rw[<-h.nt];exact c)
   rw[b] at this;cases this
 have:=h.tms i e;rw[b] at this;exact⟨a.tmps.getD i undef,by simp[zXc,mZ],this⟩
def wn(h:Rp w0 S γ β s a w){fn:Func}{t:Ty}{q:Nat×List D}(hq:qr s t fn.results.toList=some q):∃ v,(Go.results fn a.tmps).run P w=.ok v w/\AR ⟨w,S,γ,β,s.ob,s.dead⟩ (.own t q.1 q.2) v:=by
 rw[kG];have hm:fn.results.mapM (mZ a.tmps)=Functor.map List.toArray (fn.results.toList.mapM (mZ a.tmps)):=by
  rw[zLc]
 rw[hm];generalize fn.results.toList=g at *;unfold qr at hq;split at hq<;>first|(cases hq;done)|skip
 rename_i i;split at hq<;>first|(cases hq;done)|skip
 rename_i j v l b;split at hq<;>first|(cases hq;done)|skip
 rename_i e;simp only[zaa] at e;have:=Ty.eq_of_beq _ _ e.1;subst this;cases hq;have f:i<a.tmps.size:=by
  rcases zqa i a.tmps.size with d|c
  ·exact d
  ·have:=h.tmu i (by rw[<-h.nt];exact c)
   rw[b] at this;cases this
 have:=h.tms i f;rw[b] at this;exact⟨a.tmps.getD i undef,by simp[zXc,mZ],this⟩
def DW(h:Rp w0 S γ β s a w){fn:Func}(hq:A9 s fn.results.toList=true):∃ v,(Go.results fn a.tmps).run P w=.ok v w/\AR ⟨w,S,γ,β,s.ob,s.dead⟩ .nils v:=by
 rw[kG];have hm:fn.results.mapM (mZ a.tmps)=Functor.map List.toArray (fn.results.toList.mapM (mZ a.tmps)):=by
  rw[zLc]
 rw[hm];generalize fn.results.toList=f at *;unfold A9 at hq;split at hq<;>first|(cases hq;done)|skip
 rename_i i;split at hq<;>first|(cases hq;done)|skip
 rename_i b;have e:i<a.tmps.size:=by
  rcases zqa i a.tmps.size with d|c
  ·exact d
  ·have:=h.tmu i (by rw[<-h.nt];exact c)
   rw[b] at this;cases this
 have:=h.tms i e;rw[b] at this;exact⟨a.tmps.getD i undef,by simp[zXc,mZ],this⟩
def JM(i:EnvOk P E){a':Act}(g:Rp w0 S γ β sc a' w'){fn:Func}{a:Ty}{f:List Nat}(e:Bp fn.results.size a=true){R:Type}{K:AV->St->Option R}{r:R}(hq:JL E s sc f fn.results.toList K a=some r) :
  ∃ v x,(Go.results fn a'.tmps).run P w'=.ok v w'/\AR ⟨w',S,γ,β,sc.ob,sc.dead⟩ x v/\K x (nw s sc f)=some r:=by
 have plain:iS fn.results.size a=true->(results E sc a fn.results.toList).bind (λy=>K (.d a y) (nw s sc f))=some r->∃ v x,(Go.results fn a'.tmps).run P w'=.ok v w'/\AR ⟨w',S,γ,β,sc.ob,sc.dead⟩ x v/\K x (nw s sc f)=some r:=λe hq=>by
  obtain⟨y,h1,h⟩:=bind_some_inv hq;obtain⟨v,b,c,j⟩:=kH i g e h1;exact⟨v,_,b,Lo e c j,h⟩
 cases a
 case fn=>
  obtain⟨q,h1,h⟩:=bind_some_inv hq;obtain⟨v,b,c⟩:=Ds (P:=P) g h1;exact⟨v,_,b,c,h⟩
 case sl t=>
  simp only[JL] at hq;split at hq
  ·rename_i q h1;obtain⟨v,b,c⟩:=wn (P:=P) g h1;exact⟨v,_,b,c,hq⟩
  ·split at hq
   ·rename_i h1;obtain⟨v,b,c⟩:=DW (P:=P) g h1;exact⟨v,_,b,c,hq⟩
   ·exact plain e hq
 all_goals exact plain e hq
def JK(O:EnvOk P E){f:FuncId}{fn:Func}{k:Ty}(V:P.funcs[f]?=some fn)(Y:Bp fn.results.size k=true):E6 P f (Mn E fn k):=by
 intro ann R w0 S γ β s a w z vs K r h hlen J d;unfold Mn at d;split at d<;>first|(cases d;done)|skip
 rename_i c D;split at d<;>first|(cases d;done)|skip
 rename_i A;obtain⟨W,C⟩:=A;obtain⟨B,L⟩:∃ B,B=AW s z k:=⟨_,rfl⟩;rw[<-L] at d;have C:=zBa (zzc (λv=>!(B.contains v)) (dU s)) C;obtain⟨I,g⟩:∃ I,I=uZ s B:=⟨_,rfl⟩;obtain⟨sh,H⟩:∃ sh:Nat->Prop,sh=λb=>(∃ id,γ id=some b)\/∃ v e,v ∉ I++s.dead/\β v=some (b,e):=⟨_,rfl⟩;have ad:vs.length<=fn.ntmps:=by omega
 have G:(vs.toArray++Array.replicate (fn.ntmps-vs.toArray.size) undef).size=fn.ntmps:=by
  simp;omega
 have M:Cx.le ⟨w,S,γ,β,s.ob,s.dead⟩ ⟨w,S,γ,β,s.ob,I++s.dead⟩:=
  ⟨λ_ _ _=>rfl,λ_ _ D=>D,λ_ _ D=>D,λid o X _=>⟨o,X,λp=>⟨rfl,rfl⟩,λt l e=>⟨l,e,rfl⟩,λ_ _ l e=>⟨l,e⟩⟩,λu hu=>⟨λF=>hu (zTa _ F),λb e he=>⟨he,λn hn=>hn⟩⟩⟩
 have U:Rp ⟨w,S,sh⟩ S γ β (JN s fn.ntmps z B) { tmps:=vs.toArray++Array.replicate (fn.ntmps-vs.toArray.size) undef,defers:=[] } w:=by
  refine Cq h g H (λ_ _ F=>F) rfl (by rw[g];rfl) G (λt Q=>?_) λt Q=>?_
  ·have Z:fn.ntmps<=t:=Q;simp only[JN];rw[zhb,z6a (by omega)]
   rfl
  ·simp only[JN];by_cases hlt:t<vs.length
   ·have m:t<z.length:=by omega
    have hv:(vs.toArray++Array.replicate (fn.ntmps-vs.toArray.size) undef).getD t undef=vs[t]:=by
     simp[Array.getD,zJc,hlt];omega
    rw[hv,zhb,zda m];exact(J t _ _ (zda m) (zda hlt)).mono M
   ·rw[zhb,z6a (by omega)]
    simp only[Option.getD_none,AR]
 refine ji O V D rfl U d (λ_ _ F=>by cases F) λe sc S' γ' β' a' w' T j n3 N=>?_
 have q:JL E s sc B fn.results.toList K k=some r->(∃ v,(Go.results fn a'.tmps).run P w'=.ok v w'/\∃ v' y s' S' γ' β',Ending.returned v=.returned v'/\K y s'=some r/\Rp w0 S' γ' β' s' a w'/\AR ⟨w',S',γ',β',s'.ob,s'.dead⟩ y v'/\Fm s S γ a w S' γ' a w'/\Sk s s'):=λhq=>by
  obtain⟨v,x,k1,k2,k3⟩:=JM O T Y hq;obtain⟨β'',q1,q2⟩:=BQ h g H (by rw[g];exact C) T j.sub j.cell j.gam j.sz
  exact⟨v,k1,v,x,nw s sc B,S',γ',β'',rfl,k3,q1,k2.mono q2,⟨j.sub,j.cell,λ_ _=>rfl,j.objs,j.sz,j.gam,kg.same rfl j.dfs.1⟩,⟨rfl,rfl,rfl⟩⟩
 cases e with
 | normal=>exact q N
 | ret=>exact q N
 | exit i=>cases N
def L6(E:Env)(fn:Func)(ann:Ann)(a:List Ty)(t:Ty)(args:List D):Option (List D):=
 match fn.body with
 | none=>none
 | some c=>JG E c ann (List D) { tm:=iJ a args,ob:=λ_=>none,fresh:=0,dead:=[],nt:=fn.ntmps,lkS:=[],lkO:=[] } λe s=>match e with
  | .exit _=>none
  | _=>(qr s t fn.results.toList).bind λq=>some q.2
def EM.ctr{a:List Ty}{t:Ty}{f:FuncId}{xs l:List D}(h:EM P a t f xs l):Lt P a (.sl t) f xs (.sl l):=by
 intro w S vs g d hlen c;refine(h w S vs g d hlen c).mono λe w' ⟨A,cap,he,i,k,hl,S',s1,s2,b,_⟩=>⟨_,he,i,⟨l,rfl,hl⟩,?_⟩;exact⟨λcs j=>(by cases j),cN.single.2 (b.mono (λ_ _ _=>rfl) s2)⟩
def yL(O:EnvOk P E){f:FuncId}{fn:Func}{ann:Ann}{k:List Ty}{t:Ty}{xs l:List D}(s:P.funcs[f]?=some fn)(U:k.length<=fn.ntmps)(hn:bh k=true)
  (h:L6 E fn ann k t xs=some l):EM P k t f xs l:=by
 intro w S vs Q B hlen I;unfold L6 at h;split at h<;>first|(cases h;done)|skip
 rename_i c g;have X:xs.length=k.length:=ja B;have z:(vs.toArray++Array.replicate (fn.ntmps-vs.toArray.size) undef).size=fn.ntmps:=by
  simp;omega
 refine ji (w0:=⟨w,S,λ_=>False⟩) (S:=S) (γ:=λ_=>none) (β:=λ_=>none) O s g rfl ?_ h (λ_ _ R=>by cases R) λe s' S' γ' β' a' w' F n2 n3 K=>?_
 ·refine⟨⟨rfl,rfl,rfl,zfa _,zfa _,λ_ _=>rfl⟩,λt M=>?_,z,λt M=>?_,λid o b T=>(by cases T),λid b g=>(by cases g),λid Y b g=>(by cases g),λ_ _=>rfl,λv b e _ g=>(by cases g),λv v' b e e' _ _ g=>(by cases g),λv id b e _ g=>(by cases g),λ_ _=>rfl,Q,λb o g _=>g⟩
  ·simp only[iJ];split
   ·rename_i ty x L G;have m:=(zka.1 G).1;have p:t<vs.length:=by omega
    have W:(vs.toArray++Array.replicate (fn.ntmps-vs.toArray.size) undef).getD t undef=vs[t]:=by
     simp[Array.getD,zJc,p];omega
    show AR _ _ ((vs.toArray++Array.replicate (fn.ntmps-vs.toArray.size) undef).getD t undef);rw[W];obtain⟨x',C,J⟩:=gr B L;rw[G] at C;cases C;exact de (bN hn L) J (I t x _ G (zda p))
   ·simp only[AR]
  ·have V:fn.ntmps<=t:=M;simp only[iJ];rw[z6a (by omega)]
 ·have r:(qr s' t fn.results.toList).bind (λq=>some q.2)=some l->(∃ v,(Go.results fn a'.tmps).run P w'=.ok v w'/\∃ a cap,Ending.returned v=.returned (.slice a l.length cap)/\(∃ os d,w.drawn<=d/\w'=grown w os d)/\ao t=true/\(∀ x∈l,wt t x)/\∃ S':Nat->Nat->Prop,(∀ b o,S b o->S' b o)/\(∀ b o,S' b o->S b o\/(w.heap.size<=b/\b<w'.heap.size)) ∧
    CR w' S' (.sl l) (.slice a l.length cap)/\((a=none/\cap=0)\/∃ b off,a=some ⟨b,off,none⟩/\(w.heap.size<=b/\b<w'.heap.size)/\(∃ n,lZ w' b=some n/\off+cap*t.size<=n)/\∀ o,off+l.length*t.size<=o->¬ S' b o)):=λhq=>by
   obtain⟨q,j,H⟩:=bind_some_inv hq;cases H;have y:q.1 ∉ s'.dead:=by
    unfold qr at j;split at j<;>first|(cases j;done)|skip
    split at j<;>first|(cases j;done)|skip
    split at j<;>first|(cases j;done)|skip
    rename_i g;cases j;simp only[zaa,zGa] at g;simpa using g.2
   obtain⟨v,Z,N⟩:=wn (P:=P) F j;simp only[AR,AC] at N;obtain⟨na,m1,m2,A,cap,m3,m4,m5⟩:=N;refine⟨v,Z,A,cap,by rw[ar na m3],gY F.ext (λ_ s=>s),m1,m2,S',n2.sub,λb o g=>?_,m4,?_⟩
   ·rcases zqa b w.heap.size with m|u
    ·exact .inl (F.So b o g ⟨m,λs=>s⟩)
    ·exact .inr ⟨u,F.Sb b o g⟩
   ·rcases m5 y with m5|⟨b,off,rfl,m6,m7⟩
    ·exact .inl m5
    ·obtain⟨z1,z2,z3⟩:=F.βn _ _ _ y m6;refine .inr ⟨b,off,rfl,⟨?_,z2⟩,m7,z3⟩;rcases zqa b w.heap.size with m|u
     ·exact absurd ⟨m,λs=>s⟩ z1
     ·exact u
  cases e with
  | normal=>exact r K
  | ret=>exact r K
  | exit i=>cases K
end
end Sy
end
noncomputable section
namespace Sy
abbrev K0:Ty:=Ty.st [Ty.int .i64,Ty.int .i64,Ty.bool,Ty.int .u8]
abbrev K1:Ty:=Ty.arr 3 (Ty.int .i64)
abbrev K2:Ty:=Ty.sl (K1)
abbrev K3:Ty:=Ty.st [K2]
abbrev K4:Ty:=Ty.st [K3,Ty.int .i64]
abbrev K5:Ty:=Ty.sl (Ty.int .i64)
abbrev K6:Ty:=Ty.st [K1,Ty.int .i64,K5]
abbrev K7:Ty:=Ty.sl (K6)
abbrev K8:Ty:=Ty.arr 2 (Ty.int .i64)
abbrev K9:Ty:=Ty.sl (K8)
abbrev aU:Ty:=Ty.arr 16 (Ty.int .u32)
abbrev aP:Ty:=Ty.st [Ty.bool,Ty.bool,aU]
abbrev bK:Ty:=Ty.st [aP,aP]
abbrev bY:Ty:=Ty.arr 3 (bK)
abbrev RH:Ty:=Ty.arr 3 (Ty.int .u8)
abbrev dq:Ty:=Ty.st [K1,Ty.int .i64]
abbrev MY:Ty:=Ty.sl (dq)
abbrev fB:Ty:=Ty.arr 3 (aP)
abbrev I6:Ty:=Ty.arr 32 (Ty.int .u32)
abbrev Yu:Ty:=Ty.sl (Ty.int .u32)
abbrev Xt:Ty:=Ty.sl (aP)
abbrev rQ:Ty:=Ty.arr 17 (Ty.int .u32)
abbrev Yv:Ty:=Ty.tup [aU,Ty.bool]
abbrev RJ:Ty:=Ty.tup [Ty.int .i64,Ty.bool]
abbrev Yw:Ty:=Ty.tup [K5,K5]
abbrev Yx:Ty:=Ty.tup [aU,aU]
abbrev Yy:Ty:=Ty.tup [aP,aP]
abbrev Xu:Ty:=Ty.tup [aU,Ty.int .u32]
abbrev PW:Ty:=Ty.tup []
abbrev qH:Ty:=Ty.arr 4 (Ty.int .i64)
abbrev bn:Ty:=Ty.st [K1,qH]
abbrev Lu:Ty:=Ty.arr 2 (aP)
abbrev Lv:Ty:=Ty.arr 9 (Ty.int .i64)
abbrev Yz:Ty:=Ty.tup [qH,Ty.bool]
abbrev eV:Ty:=Ty.st [K1,bK]
abbrev Av:Ty:=Ty.st [eV,Ty.bool]
abbrev bB:Ty:=Ty.st [bn,K3,Ty.int .i64,K2]
abbrev yn:Ty:=Ty.sl (bY)
abbrev YA:Ty:=Ty.sl (bB)
abbrev YB:Ty:=Ty.arr 32 (Ty.int .u8)
abbrev YC:Ty:=Ty.tup [eV,Ty.bool]
abbrev YD:Ty:=Ty.tup [bY,Ty.bool]
abbrev YE:Ty:=Ty.tup [bK,bK]
abbrev YF:Ty:=Ty.tup [K1,Ty.int .i64]
def Hr:Nat:=261
def Em:Nat:=273
abbrev bb{α:Type}(t n:Nat)(a b:α):α:=bif Nat.blt t n then a else b
abbrev Ti:Ty:=.int .i64
abbrev eG{α:Type}(a:α):Option α:=some a
abbrev aX(n:Nat)(l:List Ty)(t:Ty):Option (Nat×List Ty×Ty):=some (n,l,t)
def OX(t:Nat):Option Ty:=bif Nat.blt t Hr then(bb t 130 (bb t 65 (bb t 32 (bb t 16 (bb t 8 (bb t 4 (bb t 2 none (bb t 3 (eG Ti) (eG Ti))) (bb t 6 (bb t 5 (eG Ty.bool) (eG (Ty.int .u8))) (bb t 7 (eG (Ty.int .u8)) (eG K0)))) (bb t 12 (bb t 10 (bb t 9 (eG K0) (eG Ty.str)) (bb t 11 (eG Ty.str) (eG Ty.str))) (bb t 14 (bb t 13 (eG (Ty.int .u64)) none) none))) (bb t 24 (bb t 20 none (bb t 22 (bb t 21 none (eG (Ty.int .i32))) (bb t 23 (eG K1) (eG K1)))) (bb t 28 (bb t 26 (bb t 25 (eG qH) (eG qH)) (bb t 27 (eG bn) (eG bn))) (bb t 30 (bb t 29 (eG K2) (eG K3)) (bb t 31 (eG K3) none))))) (bb t 48 (bb t 40 (bb t 36 (bb t 34 (bb t 33 none (eG (Ty.int .u32))) (bb t 35 (eG aU) (eG aP))) (bb t 38 (bb t 37 (eG aP) (eG bK)) (bb t 39 (eG bK) (eG eV)))) (bb t 44 (bb t 42 (bb t 41 (eG eV) none) (bb t 43 none (eG Av))) (bb t 46 (bb t 45 (eG Av) none) (bb t 47 (eG bY) (eG bY))))) none)) (bb t 97 (bb t 81 (bb t 73 (bb t 69 (bb t 67 (bb t 66 none (eG RH)) none) none) (bb t 77 (bb t 75 none (bb t 76 (eG bB) (eG bB))) none)) (bb t 89 none (bb t 93 none (bb t 95 (bb t 94 (eG K7) none) (bb t 96 (eG K5) (eG K6)))))) (bb t 113 (bb t 105 (bb t 101 (bb t 99 (bb t 98 (eG K6) none) (bb t 100 none (eG yn))) none) none) (bb t 121 (bb t 117 (bb t 115 (bb t 114 (eG fB) none) (bb t 116 (eG Ti) none)) (bb t 119 none (bb t 120 (eG Lu) none))) (bb t 125 (bb t 123 none (bb t 124 none (eG YA))) (bb t 127 none (bb t 128 none (bb t 129 (eG (Ty.int .u64)) none)))))))) (bb t 195 (bb t 162 (bb t 146 (bb t 138 (bb t 134 (bb t 132 (bb t 131 (eG (Ty.int .u64)) none) (bb t 133 (eG K9) none)) (bb t 136 (bb t 135 (eG K8) none) (bb t 137 none (eG MY)))) (bb t 142 (bb t 140 (bb t 139 none (eG dq)) (bb t 141 (eG dq) none)) (bb t 144 (bb t 143 none (eG Lv)) none))) none) (bb t 178 (bb t 170 (bb t 166 (bb t 164 (bb t 163 none (eG K4)) (bb t 165 (eG K4) none)) (bb t 168 none (bb t 169 none (eG I6)))) (bb t 174 (bb t 172 (bb t 171 none (eG Yu)) none) none)) (bb t 186 (bb t 182 (bb t 180 none (bb t 181 (eG dq) (eG dq))) none) none))) (bb t 228 (bb t 211 (bb t 203 none (bb t 207 (bb t 205 (bb t 204 (eG Xt) none) (bb t 206 none (eG rQ))) none)) (bb t 219 none (bb t 223 (bb t 221 (bb t 220 none (eG Ti)) none) none))) (bb t 244 (bb t 236 (bb t 232 none (bb t 234 (bb t 233 (eG (Ty.int .u64)) none) none)) (bb t 240 none (bb t 242 (bb t 241 (eG YB) none) none))) (bb t 252 none (bb t 256 (bb t 254 (bb t 253 (eG (Ty.int .u8)) (eG (Ty.int .u8))) none) (bb t 258 (bb t 257 (eG (Ty.int .i32)) (eG (Ty.int .i32))) none))))))) else none
def Kk(t:Nat):Option (Nat×List Ty×Ty):=bif Nat.blt t Em then(bb t 136 (bb t 68 (bb t 34 (bb t 17 (bb t 8 (bb t 4 (bb t 2 none (bb t 3 none (aX 408 [bn,K3,bn,K3] Ty.bool))) (bb t 6 (bb t 5 (aX 409 [bn,K3,bn,K3,eV,bY] Ty.bool) (aX 410 [bn,K3,bn,K3] Ty.bool)) (bb t 7 (aX 411 [bn,K3,bn,K3,K1,bK] Ty.bool) (aX 412 [bn,K3,bn,K3,K1] Ty.bool)))) (bb t 12 (bb t 10 (bb t 9 (aX 413 [K1,K1,RH,RH] Ty.bool) (aX 414 [bn,K3,bn,K3] Ty.bool)) (bb t 11 (aX 415 [] Ty.bool) (aX 416 [bn,K3,bn,K3] YC))) (bb t 14 (bb t 13 (aX 417 [bn,K3,bn,K3] Av) (aX 418 [bK] Ty.bool)) (bb t 15 (aX 187 [K1] Ty.bool) (bb t 16 (aX 419 [K1,bn,K3,bn,K3] bK) (aX 420 [K1,bn,K3,bn,K3] bK)))))) (bb t 25 (bb t 21 (bb t 19 (bb t 18 (aX 421 [eV,bn,K3,bn,K3] Ty.bool) (aX 422 [eV,bn,K3,bn,K3] Ty.bool)) (bb t 20 (aX 423 [bn,K3,bY] Ti) (aX 424 [bn,K3,bY] Ti))) (bb t 23 (bb t 22 (aX 425 [bn,K3,bn,K3] YD) (aX 426 [aP] Ti)) (bb t 24 (aX 322 [bK] Ti) (aX 64 [K1,K1] K1)))) (bb t 29 (bb t 27 (bb t 26 (aX 427 [bn] Ty.bool) (aX 428 [K1,bK] bK)) (bb t 28 (aX 40 [bK,bK] bK) (aX 63 [aP] bK))) (bb t 31 (bb t 30 (aX 33 [K1,K1] aP) (aX 429 [K1,K1] K3)) (bb t 32 (aX 430 [Ti,Ti,Ti] bn) (bb t 33 (aX 431 [K3,Ti] Ty.bool) (aX 432 [K1,Ti] eV))))))) (bb t 51 (bb t 42 (bb t 38 (bb t 36 (bb t 35 (aX 31 [K1] bY) (aX 324 [bK,bK] Ti)) (bb t 37 (aX 75 [Ti] bK) (aX 433 [bn,K3] bB))) (bb t 40 (bb t 39 none (aX 434 [K1,bB,bB] bK)) (bb t 41 (aX 342 [bK] Ti) (aX 352 [bK,bK] bK)))) (bb t 46 (bb t 44 (bb t 43 (aX 174 [bK,bK] bK) (aX 62 [aP,aP] bK)) (bb t 45 (aX 91 [K1,K1] aP) (aX 54 [Ti] aP))) (bb t 48 (bb t 47 (aX 73 [bK,bK] Ti) (aX 173 [bK,bK] bK)) (bb t 49 (aX 435 [bB,K1] bK) (bb t 50 (aX 74 [Ti] bK) (aX 436 [bn,K3,bn,K3] K2)))))) (bb t 59 (bb t 55 (bb t 53 (bb t 52 (aX 437 [K1,bn,K3] bK) (aX 70 [bK] bK)) (bb t 54 (aX 438 [K1] K1) (aX 38 [bK,bK] bK))) (bb t 57 (bb t 56 (aX 42 [Ti,Ti] bK) (aX 439 [bK] Ty.bool)) (bb t 58 (aX 39 [bK,bK] bK) (aX 97 [K1] K1)))) (bb t 63 (bb t 61 (bb t 60 (aX 357 [bK] bK) (aX 71 [bY] Ty.bool)) (bb t 62 (aX 440 [bY,bY] bY) (aX 135 [K1] bY))) (bb t 65 (bb t 64 (aX 385 [qH] Ti) (aX 18 [K3] K7)) (bb t 66 (aX 72 [K1,bY] bK) (bb t 67 (aX 386 [qH,K1] K1) (aX 441 [bY] Ty.bool)))))))) (bb t 102 (bb t 85 (bb t 76 (bb t 72 (bb t 70 (bb t 69 (aX 442 [bY,bY] bY) (aX 19 [K3] K7)) (bb t 71 (aX 340 [K1,bY] bK) (aX 373 [qH,K1] K1))) (bb t 74 (bb t 73 (aX 374 [qH] Ti) (aX 443 [bB,bB] yn)) (bb t 75 (aX 444 [bK,Ti] YE) (aX 371 [bY,bY] bY)))) (bb t 80 (bb t 78 (bb t 77 (aX 445 [bK,bY] bY) (aX 333 [Ti,Ti] bK)) (bb t 79 (aX 76 [aP] Ty.bool) (aX 77 [aP] K5))) (bb t 82 (bb t 81 (aX 446 [K5,Ti] Ti) (aX 88 [bK] Ty.bool)) (bb t 83 (aX 83 [aP] Ti) (bb t 84 (aX 331 [qH] Ty.bool) (aX 65 [bK,bK] bK)))))) (bb t 93 (bb t 89 (bb t 87 (bb t 86 (aX 84 [] bK) (aX 85 [aP,aP] aP)) (bb t 88 (aX 87 [aP,aP] aP) (aX 37 [aP,aP] bK))) (bb t 91 (bb t 90 (aX 59 [aP,aP] aP) (aX 89 [aP,aP] aP)) (bb t 92 (aX 133 [] aP) (aX 79 [fB,fB] aP)))) (bb t 97 (bb t 95 (bb t 94 (aX 80 [K1] fB) (aX 15 [K3] Ti)) (bb t 96 (aX 32 [aP,aP] Ti) (aX 344 [bK,Ty.bool] aP))) (bb t 99 (bb t 98 (aX 345 [aP,aP] aP) (aX 34 [Ti] aP)) (bb t 100 none (bb t 101 none (aX 447 [fB] YF))))))) (bb t 119 (bb t 110 (bb t 106 (bb t 104 (bb t 103 (aX 448 [K1] fB) (aX 449 [bB] K2)) (bb t 105 (aX 450 [K1,K1] fB) (aX 136 [bK] Ty.bool))) (bb t 108 (bb t 107 (aX 129 [aP] Ti) (aX 130 [] bK)) (bb t 109 (aX 61 [aP,aP] aP) (aX 128 [aP] Ty.bool)))) (bb t 114 (bb t 112 (bb t 111 (aX 131 [aP,aP] aP) (aX 68 [aP] aP)) (bb t 113 (aX 132 [aP,aP] aP) (aX 147 [fB,fB] aP))) (bb t 116 (bb t 115 (aX 148 [K1] fB) (aX 116 [Ty.bool,aU] aP)) (bb t 117 (aX 90 [aP,aP] Ti) (bb t 118 (aX 137 [aP,aP] aP) (aX 57 [aP,aP] aP)))))) (bb t 127 (bb t 123 (bb t 121 (bb t 120 (aX 138 [aP] bK) (aX 451 [K2,fB,Ti] K2)) (bb t 122 (aX 22 [K3] K9) (aX 112 [K1,K1] K1))) (bb t 125 (bb t 124 (aX 379 [K1,K1] fB) (aX 452 [bn,K3] K2)) (bb t 126 (aX 86 [aP] aP) (aX 336 [bK,bK] bK)))) (bb t 131 (bb t 129 (bb t 128 (aX 392 [qH,qH] Ti) (aX 45 [K2] MY)) (bb t 130 (aX 46 [K2,dq] K5) (aX 134 [bY,bY] bK))) (bb t 133 (bb t 132 (aX 393 [qH] Lv) (aX 394 [K5] Ti)) (bb t 134 (aX 48 [K2] K7) (bb t 135 (aX 41 [bY,bY] bK) (aX 387 [qH] Lv))))))))) (bb t 204 (bb t 170 (bb t 153 (bb t 144 (bb t 140 (bb t 138 (bb t 137 (aX 388 [qH,qH] Ti) (aX 453 [bY,bB,bB,yn] PW)) (bb t 139 (aX 454 [bB,Ti] bY) (aX 21 [K3] K9))) (bb t 142 (bb t 141 (aX 455 [aP,Ti] aP) (aX 169 [] aP)) (bb t 143 (aX 139 [aP] Ty.bool) (aX 140 [K5] K5)))) (bb t 148 (bb t 146 (bb t 145 (aX 141 [K5,Ti] Ti) (aX 348 [qH] Ty.bool)) (bb t 147 (aX 349 [qH] Yz) (aX 125 [] aP))) (bb t 150 (bb t 149 (aX 124 [aP] RJ) (aX 142 [aP] aP)) (bb t 151 (aX 143 [K5,K5] Yw) (bb t 152 (aX 81 [Ty.bool,K5] aP) (aX 144 [Ti,Ti] Ti)))))) (bb t 161 (bb t 157 (bb t 155 (bb t 154 (aX 82 [K5,K5] K5) (aX 78 [K5,K5] Ty.bool)) (bb t 156 (aX 126 [K5,K5] K5) (aX 145 [Ti] Ty.bool))) (bb t 159 (bb t 158 (aX 146 [K5,K5] K5) (aX 12 [K2] K4)) (bb t 160 (aX 13 [K2,K2] Ty.bool) (aX 202 [aP] RJ)))) (bb t 165 (bb t 163 (bb t 162 (aX 103 [K1,K1] K1) (aX 456 [fB,fB] fB)) (bb t 164 (aX 118 [Xt] Ty.bool) (aX 119 [] aP))) (bb t 167 (bb t 166 (aX 127 [aU] Ti) (aX 167 [aP] Ty.bool)) (bb t 168 (aX 170 [aU,aU] Yx) (bb t 169 (aX 171 [aP] aP) (aX 172 [aP,aP] Yy))))))) (bb t 187 (bb t 178 (bb t 174 (bb t 172 (bb t 171 (aX 121 [aU,aU] Ti) (aX 120 [aU,aU] Yv)) (bb t 173 (aX 122 [aU,aU] aU) (aX 155 [fB] dq))) (bb t 176 (bb t 175 (aX 390 [fB,fB] fB) (aX 96 [K1,K1,K1] dq)) (bb t 177 (aX 98 [K2,dq] Ty.bool) none))) (bb t 182 (bb t 180 (bb t 179 (aX 100 [dq,dq] Ti) (aX 52 [K5] Ti)) (bb t 181 (aX 53 [Ti,Ti] Ti) (aX 101 [K1,K1] Ti))) (bb t 184 (bb t 183 (aX 102 [Ti,K5,K2,dq] Ti) (aX 104 [K1,K1,K1] Ti)) (bb t 185 (aX 106 [K1,K1,K1] K1) (bb t 186 (aX 107 [K1,K1] Ti) (aX 108 [K7,K1] Ty.bool)))))) (bb t 195 (bb t 191 (bb t 189 (bb t 188 (aX 109 [K2,K1,Ti] Ty.bool) (aX 110 [K7,K6] K7)) (bb t 190 (aX 111 [K2,K1,Ti] K5) none)) (bb t 193 (bb t 192 (aX 51 [K8,K8] Ti) (aX 217 [aP] Ti)) (bb t 194 (aX 457 [aP,aU,K5] aP) (aX 197 [aU,Ti] Xu)))) (bb t 199 (bb t 197 (bb t 196 (aX 201 [aU,Ti] aU) (aX 364 [Ti,Ti] Ti)) (bb t 198 (aX 365 [Ti] Ti) (aX 175 [K5,Ti] Ti))) (bb t 201 (bb t 200 (aX 47 [K2] K2) (aX 154 [K1,K1] K1)) (bb t 202 (aX 203 [aP,aP] aP) (bb t 203 (aX 195 [aU,Ty.int .u32] Xu) (aX 196 [Ty.int .u32] Ti)))))))) (bb t 238 (bb t 221 (bb t 212 (bb t 208 (bb t 206 none (bb t 207 none (aX 168 [Ty.int .u32,Ty.int .u32] Ti))) (bb t 210 (bb t 209 (aX 186 [aP] RJ) (aX 395 [aP,aP,aP,aP] aP)) (bb t 211 (aX 117 [K1,K1] K1) (aX 152 [Ti,Ti] Ti)))) (bb t 216 (bb t 214 (bb t 213 none (aX 114 [Ty.int .u64] Ti)) (bb t 215 (aX 115 [Ti] Ty.bool) (aX 123 [K1,K1] K1))) (bb t 218 (bb t 217 (aX 105 [K1,K1] Ty.bool) (aX 156 [K2,K1,Ti,K1,K1] Ty.bool)) (bb t 219 none (bb t 220 (aX 165 [Ty.int .u32] Ti) (aX 458 [aU] Ti)))))) (bb t 229 (bb t 225 (bb t 223 (bb t 222 (aX 194 [Ty.int .u32] Ty.bool) (aX 396 [aP,aP] aP)) none) none) (bb t 233 (bb t 231 none (bb t 232 (aX 166 [Ty.int .u64] Ti) (aX 188 [K1,K1] Ti))) none))) (bb t 255 (bb t 246 (bb t 242 (bb t 240 none (bb t 241 none (aX 459 [Ty.int .u32] Ti))) (bb t 244 (bb t 243 none (aX 190 [Ti] (Ty.int .u64))) none)) (bb t 250 (bb t 248 (bb t 247 none (aX 215 [Ti] Ti)) none) none)) none)))) else none
def pg(t:Nat):Option (List Ty×Ty):=match Kk t with|some p=>some p.2|none=>none
def sN(t:Nat):Nat:=match Kk t with|some p=>p.1|none=>0
def jn(t:Nat):Nat:=(bb t 136 0 (bb t 204 (bb t 170 (bb t 153 (bb t 144 (bb t 140 (bb t 138 (bb t 137 0 3) 0) 0) 0) 0) (bb t 187 (bb t 178 0 (bb t 182 0 (bb t 184 (bb t 183 3 0) 0))) 0)) 0))
def Gm(t:Nat):Option (Ty×Ty):=bif Nat.blt t Hr then(bb t 130 (bb t 65 none (bb t 97 none (bb t 113 none (bb t 121 (bb t 117 none (bb t 119 none (bb t 120 none (some (K1,Ty.bool))))) none)))) (bb t 195 (bb t 162 none (bb t 178 none (bb t 186 (bb t 182 none (bb t 184 (bb t 183 none (some (dq,Ty.bool))) none)) none))) none)) else none
def Uo:List Nat:=[0,1,2,0,0,0,0,0,0,0,0,0,158,159,0,94,0,0,64,69,0,139,121,0,0,0,0,0,0,0,0,34,95,29,98,0,0,88,54,57,27,134,55,0,0,128,129,199,133,0,190,191,179,180,45,0,0,118,0,89,0,108,43,28,24,84,0,0,111,0,52,60,65,46,49,36,78,79,154,92,93,151,153,82,85,86,125,87,81,90,116,44,0,0,0,0,175,58,176,177,178,181,182,161,183,216,184,185,186,187,188,189,122,218,213,214,115,210,163,164,171,170,172,215,148,147,155,165,109,106,107,110,112,91,130,62,105,117,119,142,143,144,149,150,152,156,157,113,114,0,0,0,211,212,200,173,217,233,234,235,236,237,238,239,240,219,231,166,207,141,167,168,169,47,42,198,0,0,223,224,225,226,227,228,229,230,208,14,232,248,243,244,249,250,221,202,203,194,204,205,206,195,160,201,0,0,0,0,0,0,0,0,242,245,246,247,252,192,0,0,0,251,0,253,254,255,256,257,258,259,260,261,262,263,264,265,266,267,268,0,0,0,0,0,0,0,0,0,0,0,0,0,0,0,0,0,0,0,0,0,0,0,0,0,0,0,0,0,0,0,0,0,0,0,0,0,0,0,0,0,0,0,0,0,0,0,0,0,0,0,0,0,0,0,0,0,0,0,0,0,0,0,0,0,0,0,0,0,0,0,0,0,0,0,0,0,0,0,0,0,0,0,23,0,35,0,0,0,0,0,0,83,0,77,0,0,126,0,0,0,70,0,40,0,96,97,0,0,145,146,0,0,41,0,0,0,0,59,0,0,0,0,0,0,196,197,0,0,0,0,0,75,0,71,72,0,0,0,0,123,0,0,0,0,0,63,66,135,136,0,174,0,127,131,132,209,222,0,0,0,0,0,0,0,0,0,0,0,3,4,5,6,7,8,9,10,11,12,13,15,16,17,18,19,20,21,22,25,26,30,31,32,33,37,39,48,50,51,53,56,61,67,68,73,74,76,80,101,102,103,104,120,124,137,138,140,162,193,220,241,269,270,271,272,38,100,99]
def cc(k:Nat):Nat:=Uo.getD k 0
def OM:List Nat:=[73]
def oV(f:Nat):Bool:=OM.any (Nat.beq f)
def XC:List Nat:=[49,120]
def Vu(t:Nat):Bool:=XC.any (Nat.beq t)
def cO(lp:{α β:Type}->(α->Option (Sum α β))->α->Option β)(call:Nat->List D->Option D)(inl:Inl):Env:={ L:=OX,sig:=pg,call:=λf=>call (sN f),mapL:=Gm,fnT:=Vu,ownF:=oV,lp:=lp,inl:=inl.f,cod:=inl.cod,free:=jn,pv:=inl.pv }
def Cu:List (Nat×(Func×Ty))->Nat->Option (Func×Ty)
 | [],_=>none
 | p::l,f=>bif Nat.beq f p.1 then some p.2 else Cu l f
theorem qj:∀ {l:List (Nat×(Func×Ty))} {f:Nat} {p:Func×Ty},Cu l f=some p->(f,p)∈l
 | [],_,_,h=>by cases h
 | q::l,f,p,h=>by
  simp only[Cu] at h;cases hb:Nat.beq f q.1
  ·rw[hb] at h;exact zia _ (qj h)
  ·rw[hb] at h;cases h;rw[zkc hb];exact zra
open Go.Proofs in
def MC:List (Nat×(Func×Ty)):=[(38,(Tryz.f38,Ty.fn)),(99,(Tryz.f99,PW)),(100,(Tryz.f100,Ty.bool)),(137,(Tryz.f137,PW)),(178,(Tryz.f178,Ty.int .i64)),(182,(Tryz.f182,Ty.int .i64)),(191,(Tryz.f191,Ty.int .i64)),(204,(Tryz.f204,Ty.int .u64)),(205,(Tryz.f205,Ty.bool)),(206,(Tryz.f206,PW))]
open Go.Proofs in
def Kt:List (Nat×(Func×Ty)):=MC++[(120,(Tryz.f120,K2))]
def Kr(v f:Nat):Option (Func×Ty):=Cu (bif Nat.beq v 2 then Kt else MC) f
def G6{v f:Nat}{p:Func×Ty}(h:Kr v f=some p):(f,p)∈Kt:=by
 unfold Kr at h;cases hb:Nat.beq v 2
 ·rw[hb] at h;exact List.mem_append_left _ (qj h)
 ·rw[hb] at h;exact qj h
end Sy
end
noncomputable section
namespace Sy
open Go
def tz(P:Program):Bool:=((List.range Hr).all λt=>match OX t with|some ty=>bF P ty t&&decide (ty.high<=1000)&&ao ty|none=>true)&&XC.all (JI P)
def G0(P:Program)(f:Nat)(g:List Ty×Ty):Bool:=
 bh g.1 && (ao g.2 || match g.2 with | .tup ts => bh ts | _ => false) && match P.funcs[f]? with | some fn => !(fn.name == "runtime.NumGoroutine") && fn.body.isSome | none => false
def A3(P:Program):Bool:=(List.range Hr).all λt=>match Gm t with|some g=>bM g.1&&decide (g.1.high<=1000)&&(match P.underlying t with|some (.map K V)=>bF P g.1 K&&bF P g.2 V|_=>false)|none=>true
def Bt(P:Program):Bool:=(List.range Em).all λf=>match pg f with|some g=>G0 P f g|none=>true
def Kx{t:Nat}{ty:Ty}(h:OX t=some ty):t<Hr:=by
 unfold OX at h;rcases zqa t Hr with k|k
 ·exact k
 ·have:Nat.blt t Hr=false:=zdc.2 λa=>absurd (Nat.blt_eq ▸ a) (ztc.2 k);rw[this] at h;cases h
def Gn{t:Nat}{g:Ty×Ty}(h:Gm t=some g):t<Hr:=by
 unfold Gm at h;rcases zqa t Hr with k|k
 ·exact k
 ·have:Nat.blt t Hr=false:=zdc.2 λa=>absurd (Nat.blt_eq ▸ a) (ztc.2 k);rw[this] at h;cases h
def Ae{t:Nat}{ty:List Ty×Ty}(h:pg t=some ty):t<Em:=by
 unfold pg Kk at h;rcases zqa t Em with k|k
 ·exact k
 ·have:Nat.blt t Em=false:=zdc.2 λa=>absurd (Nat.blt_eq ▸ a) (ztc.2 k);rw[this] at h;cases h
def gK(P:Program)(call:Nat->List D->Option D):Prop:=∀ f a b xs y,pg f=some (a,b)->call (sN f) xs=some y->eO a xs->Hs P (oV f) (jn f) a b f xs y
abbrev Lp:Type 1:={α β:Type}->(α->Option (Sum α β))->α->Option β
def ak(lp:Lp):Prop:=∀ (α β:Type) (body:α->Option (Sum α β)) (x:α) (y:β),lp body x=some y->∃ n,oO body n x=some y
def vR(N:Nat):ak (λbody=>oO body N):=λ_ _ _ _ _ h=>⟨N,h⟩
def tI:ak (λbody=>lL body):=λ_ _ _ _ _ h=>nN h
def Gc(pv:Bool)(a:Nat->Option (Func×Ty))(lp:Lp)(call:Nat->List D->Option D):Nat->Inl
 | 0=>⟨pv,λ_=>none,λ_ _ _ _ _=>none⟩
 | n+1=>⟨pv,λf=>match a f with
  | some p=>some (Mn (cO lp call (Gc pv a lp call n)) p.1 p.2)
  | none=>none,λc an R s k=>JG (cO lp call (Gc pv a lp call n)) c an R s k⟩
def Md{P:Program}(h:tz P=true){t:Nat}(a:Vu t=true):JI P t=true:=by
 simp only[tz,zaa] at h;exact zpa.1 h.2 t (by simpa [Vu] using a)
section
variable{P:Program}
def tc(h1:tz P=true)(h2:Bt P=true)(h4:A3 P=true)(h3:P.follows .mixedOrders=true){lp:Lp}(hlp:ak lp){call:Nat->List D->Option D}(hc:gK P call)
  {inl : Inl} (hcod : EL P inl.cod) (hi : ∀ f g, inl.f f = some g -> (∃ fn, P.funcs[f]? = some fn /\ (fn.name == "runtime.NumGoroutine") = false /\ fn.body.isSome = true) /\ E6 P f g) : EnvOk P (cO lp call inl) := by
 have k1:∀ t ty,OX t=some ty->bF P ty t=true/\ty.high<=1000/\ao ty=true:=λt ty ht=>by
  have:=zpa.1 (zaa _ _ ▸ h1:_/\_).1 t (zNa.2 (Kx ht));rw[ht] at this;simp only[zaa,decide_eq_true_eq] at this;exact⟨this.1.1,this.1.2,this.2⟩
 refine⟨λt ty ht=>.inr (k1 t ty ht).1,λt ty ht=>(k1 t ty ht).2.1,λt ty ht=>(k1 t ty ht).2.2,λf ptys rty hf=>?_,hc,h3,hlp,λt kt vt ht=>?_,hi,hcod,λt ht=>Md h1 ht⟩
 ·have:=zpa.1 h2 f (zNa.2 (Ae hf));rw[show pg f=some (ptys,rty) from hf] at this;simp only[G0,zaa,zBb] at this;obtain⟨⟨q1,q2⟩,q3⟩:=this;refine⟨q1,?_,?_⟩
  ·rcases q2 with q2|q2
   ·exact .inl q2
   ·right;split at q2
    ·rename_i ts;exact⟨_,rfl,q2⟩
    ·cases q2
  ·split at q3
   ·rename_i fn hfn;simp only[zaa,zGa] at q3;exact⟨fn,hfn,q3⟩
   ·cases q3
 ·have:=zpa.1 h4 t (zNa.2 (Gn ht));rw[show Gm t=some (kt,vt) from ht] at this;simp only[zaa,decide_eq_true_eq] at this;obtain⟨⟨m1,m2⟩,m3⟩:=this;refine⟨m1,?_⟩;split at m3<;>first|(cases m3;done)|skip
  rename_i K V hu;simp only[zaa] at m3;exact⟨K,V,hu,m3.1,m3.2,m2⟩
def Bx (P : Program) (f : Nat) (p : Func × Ty) : Prop := P.funcs[f]? = some p.1 /\ (!(p.1.name == "runtime.NumGoroutine") && p.1.body.isSome && Bp p.1.results.size p.2) = true
theorem xn{pv:Bool}{b:Nat->Option (Func×Ty)}(h1:tz P=true)(c:Bt P=true)(e:A3 P=true)(d:P.follows .mixedOrders=true)(j:∀ f p,b f=some p->Bx P f p){lp:Lp}(a:ak lp){call:Nat->List D->Option D}(hc:gK P call) :
  ∀ n,EnvOk P (cO lp call (Gc pv b lp call n))
 | 0=>tc h1 c e d a hc (λ_ _ _ _ _ _ _ _ _ _ _ _ _ _ _ _ _ h=>by cases h) λf g h=>by cases h
 | n+1=>tc h1 c e d a hc (L1 (xn h1 c e d j a hc n)) λf g h=>by
  simp only[Gc] at h;split at h<;>first|(cases h;done)|skip
  rename_i p hp;cases h;obtain⟨k,i⟩:=j f p hp;simp only[zaa,zGa] at i;exact⟨⟨p.1,k,i.1.1,i.1.2⟩,JK (xn h1 c e d j a hc n) k i.2⟩
end
end Sy
end
noncomputable section
namespace Sy
open Go Go.Proofs
def zl:tz Tryz.prog=true:=by kernel_rfl
def Ad:Bt Tryz.prog=true:=by kernel_rfl
def zq:A3 Tryz.prog=true:=by kernel_rfl
def A4:Tryz.prog.follows .mixedOrders=true:=by kernel_rfl
def Gb(v:Nat)(lp:Lp)(call:Nat->List D->Option D):Inl:=Gc (Nat.beq v 1) (Kr v) lp call 9
noncomputable abbrev jg(lp:Lp)(call:Nat->List D->Option D):Inl:=Gb 0 lp call
def Ks(v:Nat):∀ f p,Kr v f=some p->Bx Tryz.prog f p:=by
 intro f p h;have key:∀ q∈Kt,Bx Tryz.prog q.1 q.2:=by
  intro q hq;simp only[Kt,MC,zib,z3b,zza,z7b,or_false] at hq;repeat' first
   | (rcases hq with hq|hq;· subst hq;exact⟨by kernel_rfl,by kernel_rfl⟩)
   | (subst hq;exact⟨by kernel_rfl,by kernel_rfl⟩)
 exact key (f,p) (G6 h)
def Ov{v:Nat}{lp:Lp}(a:ak lp){call:Nat->List D->Option D}(hc:gK Tryz.prog call):EnvOk Tryz.prog (cO lp call (Gb v lp call)):=
 xn zl Ad zq A4 (Ks v) a hc 9
def Ow{lp:Lp}(a:ak lp){call:Nat->List D->Option D}(hc:gK Tryz.prog call):EnvOk Tryz.prog (cO lp call (jg lp call)):=Ov a hc
def OK(o:Oper):Option ByteArray:=match o.op with|.index _ (.const (.string s)) _=>some s|_=>none
def pj:Code->Option ByteArray
 | .region _ ops _=>ops.toList.findSome? OK
 | .seq a b=>(pj a).orElse λ_=>pj b
 | .cond _ a b=>(pj a).orElse λ_=>pj b
 | .block _ a=>pj a
 | .loop a=>pj a
 | .scope a=>pj a
 | _=>none
def FF(f:Func):Code:=match f.body with|some c=>c|none=>.skip
end Sy
end
noncomputable section
namespace Sy
open Go Go.Proofs
inductive CT where
 | leaf (k:Nat) (g:(Nat->List D->Option D)->List D->Option D)
 | node (m:Nat) (a b:CT)
def CT.get:CT->Nat->(Nat->List D->Option D)->List D->Option D
 | .leaf k g,f,call,xs=>bif Nat.beq f k then g call xs else none
 | .node m a b,f,call,xs=>bif Nat.blt f m then a.get f call xs else b.get f call xs
def af(f:Nat)(g:(Nat->List D->Option D)->List D->Option D):Prop:=
 ∀ call,gK Tryz.prog call->∀ a b xs y,pg (cc f)=some (a,b)->g call xs=some y->eO a xs->Hs Tryz.prog (oV (cc f)) (jn (cc f)) a b (cc f) xs y
def CT.ok:CT->Prop
 | .leaf k g=>af k g
 | .node _ a b=>a.ok/\b.ok
theorem CT.get_ok':∀ {t:CT},t.ok->∀ {call},gK Tryz.prog call->∀ f c d xs y,pg (cc f)=some (c,d)->t.get f call xs=some y->eO c xs->Hs Tryz.prog (oV (cc f)) (jn (cc f)) c d (cc f) xs y
 | .leaf k g,h,call,hc,f,c,d,xs,y,i,e,hw=>by
  simp only[CT.get] at e;cases hb:Nat.beq f k with
  | false=>rw[hb] at e;cases e
  | true=>
   rw[hb] at e;have:=zkc hb;subst this;exact h call hc c d xs y i e hw
 | .node m a b,h,call,hc,f,c,d,xs,y,i,e,hw=>by
  simp only[CT.get] at e;cases hb:Nat.blt f m with
  | false=>rw[hb] at e;exact CT.get_ok' h.2 hc f c d xs y i e hw
  | true=>rw[hb] at e;exact CT.get_ok' h.1 hc f c d xs y i e hw
def Lx:((List.range Em).all λf=>match Kk f with|some p=>Nat.beq (cc p.1) f|none=>true)=true:=by kernel_rfl
def I9{f:Nat}{g:List Ty×Ty}(h:pg f=some g):cc (sN f)=f:=by
 have a:=zpa.1 Lx f (zNa.2 (Ae h));unfold pg at h;unfold sN;split at h<;>first|(cases h;done)|skip
 rename_i p hp;rw[hp] at a;exact zkc a
def CT.get_ok{t:CT}(h:t.ok){call}(hc:gK Tryz.prog call):gK Tryz.prog λf xs=>t.get f call xs:=λf a b xs y c d hw=>by
 have e:=I9 c;have:=CT.get_ok' h hc (sN f) a b xs y (by rw[e];exact c) d hw
 rwa [e] at this
def Dx(v:Nat)(lp:Lp)(f:Nat)(fn:Func)(ann:Ann)(call:Nat->List D->Option D)(xs:List D):Option D:=
 (pg (cc f)).bind λs=>bif oV (cc f) then(match s.2 with|.sl t=>(L6 (cO lp call (Gb v lp call)) fn ann s.1 t xs).bind λl=>some (.sl l)|_=>none) else bif Nat.beq (jn (cc f)) 0 then Vr (cO lp call (Gb v lp call)) fn ann s.1 s.2 xs else L7 (cO lp call (Gb v lp call)) fn ann s.1 (jn (cc f)) s.2 xs
def JQ(f:Nat)(fn:Func):Bool:=match pg (cc f) with
 | some (p,r)=>decide (p.length<=fn.ntmps)&&iS fn.results.size r&&bh p&&(decide (jn (cc f)<=p.length)&&(bif oV (cc f) then Nat.beq (jn (cc f)) 0 else decide (jn (cc f)<=4095)))
 | none=>false
def oQ{v:Nat}{lp:Lp}(e:ak lp){f:Nat}{fn:Func}{ann:Ann}(d:Tryz.prog.funcs[cc f]?=some fn)(hk:JQ f fn=true):af f (Dx v lp f fn ann):=by
 intro call hc m q xs y o a hw;unfold Dx at a;unfold JQ at hk;rw[o] at a hk;simp only[zba] at a;simp only[zaa,decide_eq_true_eq] at hk;obtain⟨⟨⟨g,j⟩,i⟩,p,b⟩:=hk;have c:=Ov (v:=v) e hc;cases how:oV (cc f) with
 | true=>
  rw[how] at a;simp only[cond_true] at a;split at a<;>first|(cases a;done)|skip
  rename_i t;obtain⟨l,h1,n⟩:=bind_some_inv a;cases n;have hO:=yL c d g i h1;have h0:jn (cc f)=0:=by
   rw[how] at b;simpa using b
  rw[h0];exact⟨hO.ctr,λ_=>⟨t,l,rfl,rfl,hO⟩⟩
 | false=>
 rw[how] at a;simp only[cond_false] at a;refine⟨?_,λh=>by cases h⟩
 cases hz:jn (cc f) with
 | zero=>
  rw[hz] at a;exact Du c d g i j a
 | succ k=>
  rw[hz] at a;exact AI c d g i (by rw[<-hz];exact p) (by rw[<-hz];rw[how] at b;simpa using b) j a
abbrev Ann.tl(a:Ann):Ann:=.two .leaf a
section
variable{α:Type}
noncomputable abbrev qT(x:D)(f:Bool->Option α):Option α:=(D.truth x).bind f
noncomputable abbrev qG(x:D)(p:List Nat)(f:D->Option α):Option α:=(D.get x p).bind f
noncomputable abbrev qS(x:D)(f:List D->Option α):Option α:=(D.asSl x).bind f
noncomputable abbrev qI(x:D)(l:List D)(f:D->Option α):Option α:=(D.idx x l.length).bind λk=>(l[k]?).bind f
noncomputable abbrev qB(o:BinOp)(x y:D)(f:D->Option α):Option α:=(D.bin o x y).bind f
noncomputable abbrev qC(o:BinOp)(x y:D)(f:Bool->Option α):Option α:=(D.bin o x y).bind λz=>(D.truth z).bind f
noncomputable abbrev qN(x:D)(f:Bool->Option α):Option α:=(D.un .not x).bind λz=>(D.truth z).bind f
noncomputable abbrev qX(x i:D)(f:D->Option α):Option α:=(D.asSl x).bind λl=>(D.idx i l.length).bind λk=>(l[k]?).bind f
noncomputable abbrev qL(x i:D)(f:Bool->Option α):Option α:=(D.asSl x).bind λl=>(D.bin .lss i (.int .i64 l.length)).bind λz=>(D.truth z).bind f
noncomputable abbrev qY(x:D)(p:List Nat)(i:D)(f:D->Option α):Option α:=(D.get x p).bind λx=>(D.asSl x).bind λl=>(D.idx i l.length).bind λk=>(l[k]?).bind f
noncomputable abbrev qM(x:D)(p:List Nat)(i:D)(f:Bool->Option α):Option α:=(D.get x p).bind λx=>(D.asSl x).bind λl=>(D.bin .lss i (.int .i64 l.length)).bind λz=>(D.truth z).bind f
noncomputable abbrev qP(x:D)(p:List Nat)(f:List D->Option α):Option α:=(D.get x p).bind λx=>(D.asSl x).bind f
noncomputable abbrev qJ(i:D)(n:Nat)(x:D)(f:D->Option α):Option α:=(D.idx i n).bind λk=>(D.get x [k]).bind f
end
abbrev qV(l:List D)(i:Nat):List D:=(l.getD i (.bool false)).els
abbrev qW(l:List D)(i:Nat):D:=D.sl ((l.getD i (.bool false)).els)
abbrev qZ(lp:Lp)(f:List D->Option (Sum (List D) (Nat×List D))):List D->Option (Nat×List D):=lp f
abbrev iL(l:List D):Option (Sum (List D) (Nat×List D)):=some (Sum.inl l)
abbrev iR(l:Nat×List D):Option (Sum (List D) (Nat×List D)):=some (Sum.inr l)
abbrev LO:Type:=List (Nat×ShO)
abbrev LS:Type:=List (Nat×Sh)
abbrev Jn(n:Int):D:=.int .i64 n
abbrev Ca:Type:=Nat->List D->Option D
abbrev Sh.di:Sh:=.dv (.int .i64)
abbrev Sh.sp(t:Ty)(i:Nat):Sh:=.same (.ptr t i [])
def m0(F:(Nat->List D->Option D)->Option D)(call:Nat->List D->Option D)(xs:List D):Option D:=match xs with|[]=>F call|_=>none
def vK(v:Nat)(fn:Func)(ann:Ann){lp:Lp}(c:ak lp){f:Nat}{F:(Nat->List D->Option D)->Option D}(g:Tryz.prog.funcs[cc f]?=some fn:=by kernel_rfl)(hk:JQ f fn=true:=by kernel_rfl)
  (e:∀ call,Dx v lp f fn ann call []=F call:=by intros;kernel_rfl):af f (m0 F):=by
 intro call hc a d xs y h b hw;unfold m0 at b;split at b<;>first|(cases b;done)|skip
 exact oQ (v:=v) c g hk call hc a d _ y h ((e call).trans b) hw
def m1(F:(Nat->List D->Option D)->D->Option D)(call:Nat->List D->Option D)(xs:List D):Option D:=match xs with|[a0]=>F call a0|_=>none
def a7(v:Nat)(fn:Func)(ann:Ann){lp:Lp}(c:ak lp){f:Nat}{F:(Nat->List D->Option D)->D->Option D}(g:Tryz.prog.funcs[cc f]?=some fn:=by kernel_rfl)(hk:JQ f fn=true:=by kernel_rfl)
  (e:∀ call a0,Dx v lp f fn ann call [a0]=F call a0:=by intros;kernel_rfl):af f (m1 F):=by
 intro call hc a d xs y h b hw;unfold m1 at b;split at b<;>first|(cases b;done)|skip
 exact oQ (v:=v) c g hk call hc a d _ y h ((e call _).trans b) hw
def m2(F:(Nat->List D->Option D)->D->D->Option D)(call:Nat->List D->Option D)(xs:List D):Option D:=match xs with|[a0,a1]=>F call a0 a1|_=>none
def aB(v:Nat)(fn:Func)(ann:Ann){lp:Lp}(c:ak lp){f:Nat}{F:(Nat->List D->Option D)->D->D->Option D}(g:Tryz.prog.funcs[cc f]?=some fn:=by kernel_rfl)(hk:JQ f fn=true:=by kernel_rfl)
  (e:∀ call a0 a1,Dx v lp f fn ann call [a0,a1]=F call a0 a1:=by intros;kernel_rfl):af f (m2 F):=by
 intro call hc a d xs y h b hw;unfold m2 at b;split at b<;>first|(cases b;done)|skip
 exact oQ (v:=v) c g hk call hc a d _ y h ((e call _ _).trans b) hw
def m3(F:(Nat->List D->Option D)->D->D->D->Option D)(call:Nat->List D->Option D)(xs:List D):Option D:=match xs with|[a0,a1,a2]=>F call a0 a1 a2|_=>none
def nq(v:Nat)(fn:Func)(ann:Ann){lp:Lp}(c:ak lp){f:Nat}{F:(Nat->List D->Option D)->D->D->D->Option D}(g:Tryz.prog.funcs[cc f]?=some fn:=by kernel_rfl)(hk:JQ f fn=true:=by kernel_rfl)
  (e:∀ call a0 a1 a2,Dx v lp f fn ann call [a0,a1,a2]=F call a0 a1 a2:=by intros;kernel_rfl):af f (m3 F):=by
 intro call hc a d xs y h b hw;unfold m3 at b;split at b<;>first|(cases b;done)|skip
 exact oQ (v:=v) c g hk call hc a d _ y h ((e call _ _ _).trans b) hw
def m4(F:(Nat->List D->Option D)->D->D->D->D->Option D)(call:Nat->List D->Option D)(xs:List D):Option D:=match xs with|[a0,a1,a2,a3]=>F call a0 a1 a2 a3|_=>none
def tA(v:Nat)(fn:Func)(ann:Ann){lp:Lp}(c:ak lp){f:Nat}{F:(Nat->List D->Option D)->D->D->D->D->Option D}(g:Tryz.prog.funcs[cc f]?=some fn:=by kernel_rfl)(hk:JQ f fn=true:=by kernel_rfl)
  (e:∀ call a0 a1 a2 a3,Dx v lp f fn ann call [a0,a1,a2,a3]=F call a0 a1 a2 a3:=by intros;kernel_rfl):af f (m4 F):=by
 intro call hc a d xs y h b hw;unfold m4 at b;split at b<;>first|(cases b;done)|skip
 exact oQ (v:=v) c g hk call hc a d _ y h ((e call _ _ _ _).trans b) hw
def m5(F:(Nat->List D->Option D)->D->D->D->D->D->Option D)(call:Nat->List D->Option D)(xs:List D):Option D:=match xs with|[a0,a1,a2,a3,a4]=>F call a0 a1 a2 a3 a4|_=>none
def Cs(v:Nat)(fn:Func)(ann:Ann){lp:Lp}(c:ak lp){f:Nat}{F:(Nat->List D->Option D)->D->D->D->D->D->Option D}(g:Tryz.prog.funcs[cc f]?=some fn:=by kernel_rfl)(hk:JQ f fn=true:=by kernel_rfl)
  (e:∀ call a0 a1 a2 a3 a4,Dx v lp f fn ann call [a0,a1,a2,a3,a4]=F call a0 a1 a2 a3 a4:=by intros;kernel_rfl):af f (m5 F):=by
 intro call hc a d xs y h b hw;unfold m5 at b;split at b<;>first|(cases b;done)|skip
 exact oQ (v:=v) c g hk call hc a d _ y h ((e call _ _ _ _ _).trans b) hw
def m6(F:(Nat->List D->Option D)->D->D->D->D->D->D->Option D)(call:Nat->List D->Option D)(xs:List D):Option D:=match xs with|[a0,a1,a2,a3,a4,a5]=>F call a0 a1 a2 a3 a4 a5|_=>none
def leaf6(v:Nat)(fn:Func)(ann:Ann){lp:Lp}(c:ak lp){f:Nat}{F:(Nat->List D->Option D)->D->D->D->D->D->D->Option D}(g:Tryz.prog.funcs[cc f]?=some fn:=by kernel_rfl)(hk:JQ f fn=true:=by kernel_rfl)
  (e:∀ call a0 a1 a2 a3 a4 a5,Dx v lp f fn ann call [a0,a1,a2,a3,a4,a5]=F call a0 a1 a2 a3 a4 a5:=by intros;kernel_rfl):af f (m6 F):=by
 intro call hc a d xs y h b hw;unfold m6 at b;split at b<;>first|(cases b;done)|skip
 exact oQ (v:=v) c g hk call hc a d _ y h ((e call _ _ _ _ _ _).trans b) hw
abbrev gx(l:List D)(i:Nat):D:=l.getD i (.bool false)
end Sy
end
noncomputable section
set_option maxHeartbeats 0
noncomputable section
namespace Sy
open Go Go.Proofs
def XN:Ann:=let a:LO:=[(4098,.one K4 (.st [K3,Ti] [.st [K2] [.ow K1],.di])),(36871,.one K4 (.st [K3,Ti] [.st [K2] [.ow K1],.di]))]
 let b:LO:=[(4098,.one K4 (.st [K3,Ti] [.st [K2] [.ow K1],.di]))]
 let c:LS:=[(2,.sp K4 4098),(7,.sp K4 36871),(9,.dv Ty.bool)]
 let d:LS:=[(2,.sp K4 4098),(7,.sp K4 36871)]
 (.tl (.tl (.two (.tl (.two (.loop ⟨[(2,.sp K4 4098),(3,.di)],b,[0]⟩ [(.ret,⟨[(2,.sp K4 4098)],b,[]⟩),(.exit 0,⟨[(2,.sp K4 4098)],b,[0]⟩)] (.tl (.two (.two (.tl (.two (.loop ⟨[(2,.sp K4 4098),(4,.di)],b,[0,3]⟩ [(.ret,⟨[(2,.sp K4 4098)],b,[]⟩),(.exit 2,⟨[(2,.sp K4 4098)],b,[0,3]⟩)] .leaf) .leaf)) .leaf) .leaf))) .leaf)) (.tl (.tl (.tl (.tl (.tl (.two (.tl (.two (.loop ⟨[(2,.sp K4 4098),(7,.sp K4 36871),(8,.di)],a,[5,6]⟩ [(.exit 4,⟨d,a,[]⟩)] (.tl (.cut [(.normal,⟨d,a,[5,6,8]⟩)] [5,6,8] [] (.two (.tl (.two (.tl (.two (.loop ⟨[(2,.sp K4 4098),(7,.sp K4 36871),(9,.dv Ty.bool),(10,.di)],a,[5,6,8]⟩ [(.exit 6,⟨c,a,[5,6,8]⟩)] (.tl (.two (.two (.tl (.two (.loop ⟨[(2,.sp K4 4098),(7,.sp K4 36871),(9,.dv Ty.bool),(11,.di)],a,[5,6,8,10]⟩ [(.exit 8,⟨c,a,[5,6,8,10]⟩)] .leaf) .leaf)) .leaf) .leaf))) .leaf)) (.tl (.two (.reg [] 8) .leaf)))) .leaf) .leaf))) .leaf)) .leaf)))))))))
def MO(lp:Lp)(c:Ca)(a0:D):Option D:=
 qS a0 λR=>
 qC .gtr (Jn (R.length)) (Jn 64) λP=>
 if P then(some (D.st [(D.st [(D.sl [])]),(Jn 2)])) else((qZ lp (λv4=>
 qL a0 (gx v4 0) λQ=>
 if Q then((qZ lp (λh=>
 qC .lss (gx h 0) (Jn 3) λl=>
 if l then(qX a0 (gx v4 0) λz=>
(D.idx (gx h 0) 3).bind λi14=>
(D.fld z i14).bind λA=>
 qC .gtr A (Jn 262144) λm=>
(if m then(some true) else(qX a0 (gx v4 0) λB=>
(D.idx (gx h 0) 3).bind λi21=>
(D.fld B i21).bind λC=>
 qB .lss C (Jn (-262144)) λE=>
 D.truth E)).bind λn=>
 qT (D.bool n) λo=>
 if o then(iR (0,[(D.sl []),(Jn 1)])) else(qB .add (gx h 0) (Jn 1) λF=>
 iL [F,(qW h 1),(gx h 2)])) else(iR (1,[(qW h 1),(gx h 2)]))) [(Jn 0),(qW v4 1),(gx v4 2)]).bind λb=>
 if b.1=0 then(iR (0,[(qW b.2 0),(gx b.2 1)])) else(qB .add (gx v4 0) (Jn 1) λG=>
 iL [G,(qW b.2 0),(gx b.2 1)])) else(iR (1,[(qW v4 1),(gx v4 2)]))) [(Jn 0),(D.sl []),(Jn 0)]).bind λd=>
 if d.1=0 then(some (D.st [(D.st [(qW d.2 0)]),(gx d.2 1)])) else((c 47 [a0]).bind λi=>
(c 48 [i]).bind λe=>
 qS e λx=>
 qT (D.bool (D.beq (Jn (x.length)) (Jn 0))) λp=>
 if p then(some (D.st [(D.st [(D.sl [])]),(Jn 120)])) else(qS e λy=>
 qC .gtr (Jn (y.length)) (Jn 64) λq=>
 if q then(some (D.st [(D.st [(D.sl [])]),(Jn 2)])) else((qZ lp (λv37=>
 qL i (gx v37 0) λr=>
 if r then(((qZ lp (λv41=>
 qL e (gx v41 1) λs=>
 if s then((qZ lp (λv45=>
 qX e (gx v41 1) λH=>
(D.fld H 2).bind λI=>
 qL I (gx v45 1) λt=>
 if t then(qT (gx v45 0) λu=>
(if u then(some true) else(qX e (gx v41 1) λJ=>
(D.fld J 2).bind λK=>
 qX K (gx v45 1) λL=>
 D.truth (D.bool (D.beq L (gx v37 0))))).bind λv=>
 qB .add (gx v45 1) (Jn 1) λM=>
 iL [(D.bool v),M,(qW v45 2),(gx v45 3),(qW v45 4),(gx v45 5)]) else(iR (0,[(gx v45 0),(qW v45 2),(gx v45 3),(qW v45 4),(gx v45 5)]))) [(gx v41 0),(Jn 0),(qW v41 2),(gx v41 3),(qW v41 4),(gx v41 5)]).bind λf=>
 qB .add (gx v41 1) (Jn 1) λN=>
 iL [(gx f.2 0),N,(qW f.2 1),(gx f.2 2),(qW f.2 3),(gx f.2 4)]) else(iR (0,[(gx v41 0),(qW v41 2),(gx v41 3),(qW v41 4),(gx v41 5)]))) [(D.bool false),(Jn 0),(qW v37 1),(gx v37 2),(qW v37 3),(gx v37 4)]).bind λa=>
 qT (gx a.2 0) λw=>
 if w then(qX i (gx v37 0) λk=>
 if List.length (qV a.2 3)+List.length [k]<=1073741824 then(some (0,[(qW a.2 1),(gx a.2 2),(D.sl ((qV a.2 3)++[k])),(gx a.2 4)])) else none) else(some (0,[(qW a.2 1),(gx a.2 2),(qW a.2 3),(gx a.2 4)]))).bind λ(g:Nat×List D)=>
 qB .add (gx v37 0) (Jn 1) λO=>
 iL [O,(qW g.2 0),(gx g.2 1),(qW g.2 2),(gx g.2 3)]) else(iR (0,[(qW v37 1),(gx v37 2),(qW v37 3),(gx v37 4)]))) [(Jn 0),(qW d.2 0),(gx d.2 1),(D.sl []),(Jn 0)]).bind λj=>
 some (D.st [(D.st [(qW j.2 2)]),(gx j.2 3)])))))
def YG{lp}(a:ak lp):af 12 (m1 (MO lp)):=a7 0 Tryz.f158 XN a
def XO:Ann:=(.tl (.tl (.two (.tl (.two (.loop ⟨[(5,.di)],[],[0,1]⟩ [(.ret,⟨[(4,.dv Ty.bool)],[],[]⟩),(.exit 0,⟨[],[],[]⟩)] (.tl (.two (.two (.two (.reg [] 8) .leaf) .leaf) .leaf))) .leaf)) .leaf)))
def Ph(lp:Lp)(c:Ca)(a0:D)(a1:D):Option D:=
 qS a0 λi=>
 qS a1 λj=>
 qT (D.bool (!(D.beq (Jn (i.length)) (Jn (j.length))))) λg=>
 if g then(some (D.bool false)) else((qZ lp (λv4=>
 qL a0 (gx v4 0) λh=>
 if h then(qX a0 (gx v4 0) λd=>
 qX a1 (gx v4 0) λe=>
 qT (D.bool (!(D.beq d e))) λb=>
 if b then(iR (0,[(D.bool false)])) else(qB .add (gx v4 0) (Jn 1) λf=>
 iL [f])) else(iR (1,[]))) [(Jn 0)]).bind λa=>
 if a.1=0 then(some (gx a.2 0)) else(some (D.bool true)))
def YH{lp}(a:ak lp):af 13 (m2 (Ph lp)):=aB 0 Tryz.f159 XO a
def Pi(lp:Lp)(c:Ca)(a0:D):Option D:=
 qG a0 [0] λh=>
(c 12 [h]).bind λb=>
 qG b [1] λi=>
 qT (D.bool (D.beq i (Jn 0))) λe=>
(if e then(qG b [0,0] λj=>
 qG a0 [0] λk=>
(c 13 [j,k]).bind λg=>
(D.un .not g).bind λl=>
 D.truth l) else(some false)).bind λf=>
 qT (D.bool f) λa=>
 if a then(some (Jn 3)) else(qG b [1] λd=>
 some d)
def YI{lp}(a:ak lp):af 15 (m1 (Pi lp)):=a7 0 Tryz.f94 .leaf a
def XP:Ann:=(.tl (.tl (.two (.tl (.two (.loop ⟨[(1,.sp K3 4097),(3,.ow K6),(10,.di)],[(4097,.keep K3 1)],[8,9]⟩ [(.exit 0,⟨[(3,.ow K6)],[],[]⟩)] (.tl (.tl (.two (.two (.tl (.reg [] 11)) .leaf) .leaf)))) .leaf)) .leaf)))
def Pj(lp:Lp)(c:Ca)(a0:D):Option D:=
 qG a0 [0] λl=>
(c 45 [l]).bind λi=>
 qS i λk=>
(qZ lp (λv4=>
 qC .lss (gx v4 1) (Jn (k.length)) λj=>
 if j then(qX i (gx v4 1) λh=>
 qG h [0] λb=>
 qG h [1] λd=>
 qG a0 [0] λf=>
(c 46 [f,h]).bind λa=>
 if List.length (qV v4 0)+List.length [(D.st [b,d,a])]<=1073741824 then(qB .add (gx v4 1) (Jn 1) λg=>
 iL [(D.sl ((qV v4 0)++[(D.st [b,d,a])])),g]) else none) else(iR (0,[(qW v4 0)]))) [(D.sl []),(Jn 0)]).bind λe=>
 some (qW e.2 0)
def YJ{lp}(a:ak lp):af 18 (m1 (Pj lp)):=a7 0 Tryz.f64 XP a
def Pm(lp:Lp)(c:Ca)(a0:D):Option D:=
 qG a0 [0] λb=>
(c 48 [b]).bind λa=>
 some a
def YK{lp}(a:ak lp):af 19 (m1 (Pm lp)):=a7 0 Tryz.f69 .leaf a
def XQ:Ann:=let a:LS:=[(1,.sp K3 4097),(3,.ow K8),(7,.dv Ty.bool)]
 let b:LS:=[(1,.sp K3 4097),(3,.ow K8)]
 (.tl (.tl (.tl (.two (.tl (.two (.loop ⟨[(1,.sp K3 4097),(3,.ow K8),(5,.di)],[(4097,.keep K3 1)],[4]⟩ [(.exit 0,⟨[(3,.ow K8)],[],[]⟩)] (.tl (.two (.two (.tl (.two (.loop ⟨[(1,.sp K3 4097),(3,.ow K8),(6,.di)],[(4097,.keep K3 1)],[4,5]⟩ [(.exit 2,⟨b,[(4097,.keep K3 1)],[4,5]⟩)] (.tl (.cut [(.normal,⟨b,[(4097,.keep K3 1)],[4,5,6]⟩)] [4,5,6] [4097] (.two (.tl (.two (.tl (.two (.loop ⟨[(1,.sp K3 4097),(3,.ow K8),(7,.dv Ty.bool),(8,.di)],[(4097,.keep K3 1)],[4,5,6]⟩ [(.exit 4,⟨a,[(4097,.keep K3 1)],[4,5,6]⟩)] (.tl (.two (.two (.tl (.tl (.two (.loop ⟨[(1,.sp K3 4097),(3,.ow K8),(7,.dv Ty.bool),(10,.di)],[(4097,.keep K3 1)],[4,5,6,8,9]⟩ [(.exit 6,⟨a,[(4097,.keep K3 1)],[4,5,6,8]⟩)] .leaf) .leaf))) .leaf) .leaf))) .leaf)) .leaf)) .leaf) .leaf))) .leaf)) .leaf) .leaf))) .leaf)) .leaf))))
def Pn(lp:Lp)(c:Ca)(a0:D):Option D:=
(c 19 [a0]).bind λr1=>
(qZ lp (λv2=>
 qM a0 [0] (gx v2 1) λJ=>
 if J then(qB .add (gx v2 1) (Jn 1) λK=>
(qZ lp (λe=>
 qM a0 [0] (gx e 1) λg=>
 if g then(((qZ lp (λa=>
 qL r1 (gx a 2) λh=>
 if h then(qX r1 (gx a 2) λv=>
(D.fld v 2).bind λb=>
(qZ lp (λv21=>
 qL b (gx v21 2) λi=>
 if i then(qT (gx v21 1) λj=>
(if j then(some true) else(qX b (gx v21 2) λw=>
 qT (D.bool (D.beq w (gx v2 1))) λk=>
 if k then(qB .add (gx v21 2) (Jn 1) λx=>
 qS b λq=>
 qB .rem x (Jn (q.length)) λy=>
 qX b y λz=>
 D.truth (D.bool (D.beq z (gx e 1)))) else(some false))).bind λl=>
 qT (D.bool l) λm=>
(if m then(some true) else(qX b (gx v21 2) λA=>
 qT (D.bool (D.beq A (gx e 1))) λn=>
 if n then(qB .add (gx v21 2) (Jn 1) λB=>
 qS b λr=>
 qB .rem B (Jn (r.length)) λC=>
 qX b C λE=>
 D.truth (D.bool (D.beq E (gx v2 1)))) else(some false))).bind λo=>
 qB .add (gx v21 2) (Jn 1) λF=>
 iL [(qW v21 0),(D.bool o),F]) else(iR (0,[(qW v21 0),(gx v21 1)]))) [(qW a 0),(gx a 1),(Jn 0)]).bind λf=>
 qB .add (gx a 2) (Jn 1) λG=>
 iL [(qW f.2 0),(gx f.2 1),G]) else(iR (0,[(qW a 0),(gx a 1)]))) [(qW e 0),(D.bool false),(Jn 0)]).bind λd=>
 qT (gx d.2 1) λp=>
 if p then(if List.length (qV d.2 0)+List.length [(D.st [(gx v2 1),(gx e 1)])]<=1073741824 then(some (0,[(D.sl ((qV d.2 0)++[(D.st [(gx v2 1),(gx e 1)])]))])) else none) else(some (0,[(qW d.2 0)]))).bind λ(s:Nat×List D)=>
 qB .add (gx e 1) (Jn 1) λH=>
 iL [(qW s.2 0),H]) else(iR (0,[(qW e 0)]))) [(qW v2 0),K]).bind λt=>
 qB .add (gx v2 1) (Jn 1) λI=>
 iL [(qW t.2 0),I]) else(iR (0,[(qW v2 0)]))) [(D.sl []),(Jn 0)]).bind λu=>
 some (qW u.2 0)
def YM{lp}(a:ak lp):af 22 (m1 (Pn lp)):=a7 0 Tryz.f121 XQ a
def XR:Ann:=(.tl (.two (.reg [] 10) .leaf))
def Xq(lp:Lp)(c:Ca)(a0:D):Option D:=
 qG a0 [0] λe=>
(c 75 [e]).bind λa=>
 qG a0 [1] λf=>
(c 75 [f]).bind λb=>
 qG a0 [2] λg=>
(c 75 [g]).bind λd=>
 some (D.st [a,b,d])
def YN{lp}(a:ak lp):af 31 (m1 (Xq lp)):=a7 0 Tryz.f34 XR a
def XS:Ann:=(.tl (.tl (.tl (.tl (.tl (.tl (.tl (.cut [(.normal,⟨[(5,.dv K5),(6,.dv K5)],[],[]⟩)] [] [] .leaf .leaf))))))))
def MQ(lp:Lp)(c:Ca)(a0:D)(a1:D):Option D:=
(c 76 [a0]).bind λr1=>
 qN r1 λu=>
(if u then((c 76 [a1]).bind λx=>
(D.un .not x).bind λz=>
 D.truth z) else(some false)).bind λv=>
 qT (D.bool v) λw=>
 if w then(some (Jn 0)) else((c 76 [a0]).bind λy=>
 qN y λb=>
 if b then(some (Jn (-1))) else((c 76 [a1]).bind λj=>
 qN j λd=>
 if d then(some (Jn 1)) else(qG a0 [1] λq=>
 qG a1 [1] λr=>
 qT (D.bool (!(D.beq q r))) λe=>
 if e then(qG a0 [1] λs=>
 qT s λf=>
 if f then(some (Jn (-1))) else(some (Jn 1))) else((c 77 [a0]).bind λk=>
(c 77 [a1]).bind λl=>
(qG a0 [1] λt=>
 qT t λg=>
 if g then((c 77 [a1]).bind λm=>
(c 77 [a0]).bind λn=>
 some (0,[m,n])) else(some (0,[k,l]))).bind λ(a:Nat×List D)=>
(c 78 [(gx a.2 0),(gx a.2 1)]).bind λo=>
(c 78 [(gx a.2 1),(gx a.2 0)]).bind λp=>
 qT o λh=>
 if h then(some (Jn (-1))) else(qT p λi=>
 if i then(some (Jn 1)) else(some (Jn 0)))))))
def YO{lp}(a:ak lp):af 32 (m2 (MQ lp)):=aB 0 Tryz.f95 XS a
def XT:Ann:=(.tl (.two (.reg [] 5) .leaf))
def Po(lp:Lp)(c:Ca)(a0:D)(a1:D):Option D:=
(c 80 [a0]).bind λr1=>
(c 80 [a1]).bind λa=>
(c 79 [r1,a]).bind λb=>
 some b
def YP{lp}(a:ak lp):af 33 (m2 (Po lp)):=aB 0 Tryz.f29 XT a
def Pp(lp:Lp)(c:Ca)(a0:D):Option D:=
 qC .geq a0 (Jn 0) λl=>
 if l then(qB .rem a0 (Jn 65536) λn=>
 qB .quo a0 (Jn 65536) λo=>
 qB .rem o (Jn 65536) λp=>
 qB .quo a0 (Jn 4294967296) λq=>
 qB .rem q (Jn 65536) λr=>
 qB .quo a0 (Jn 281474976710656) λs=>
(c 81 [(D.bool false),(D.sl [n,p,r,s])]).bind λm=>
 some m) else(qB .add a0 (Jn 1) λe=>
(D.un .neg e).bind λa=>
 qB .rem a (Jn 65536) λf=>
 qB .quo a (Jn 65536) λg=>
 qB .rem g (Jn 65536) λh=>
 qB .quo a (Jn 4294967296) λi=>
 qB .rem i (Jn 65536) λj=>
 qB .quo a (Jn 281474976710656) λk=>
(c 82 [(D.sl [f,h,j,k]),(D.sl [(Jn 1)])]).bind λb=>
(c 81 [(D.bool true),b]).bind λd=>
 some d)
def YQ{lp}(a:ak lp):af 34 (m1 (Pp lp)):=a7 0 Tryz.f98 .leaf a
def XU:Ann:=(.tl (.tl (.tl (.cut [(.normal,⟨[(2,.sp aP 4098),(3,.sp aP 4099),(4,.sp bK 4100),(5,.sp aP 12293)],[(4098,.keep aP 2),(4099,.keep aP 3),(4100,.keep bK 4),(12293,.one aP (.dv aP))],[]⟩)] [] [4098,4099,4100] .leaf (.two (.reg [] 7) .leaf)))))
def MR(lp:Lp)(c:Ca)(a0:D)(a1:D):Option D:=
(c 76 [a0]).bind λr1=>
 qN r1 λk=>
(if k then(some true) else((c 76 [a1]).bind λo=>
(D.un .not o).bind λq=>
 D.truth q)).bind λl=>
 qT (D.bool l) λm=>
(if m then(some true) else((c 83 [a1]).bind λp=>
 D.truth (D.bool (D.beq p (Jn 0))))).bind λn=>
 qT (D.bool n) λd=>
 if d then((c 84 []).bind λf=>
 some f) else((c 85 [a0,a1]).bind λa=>
((c 83 [a1]).bind λg=>
 qC .lss g (Jn 0) λe=>
 if e then((c 86 [a]).bind λh=>
 some (0,[h])) else(some (0,[a]))).bind λ(b:Nat×List D)=>
(c 87 [a0,(gx b.2 0)]).bind λi=>
(c 87 [a1,(gx b.2 0)]).bind λj=>
 some (D.st [i,j]))
def YR{lp}(a:ak lp):af 37 (m2 (MR lp)):=aB 0 Tryz.f88 XU a
def Nj(lp:Lp)(c:Ca)(a0:D)(a1:D):Option D:=
(c 88 [a0]).bind λr1=>
 qN r1 λn=>
(if n then(some true) else((c 88 [a1]).bind λq=>
(D.un .not q).bind λs=>
 D.truth s)).bind λo=>
 qT (D.bool o) λp=>
 if p then((c 84 []).bind λr=>
 some r) else(qG a0 [0] λt=>
 qG a1 [1] λg=>
(c 37 [t,g]).bind λa=>
 qG a1 [0] λh=>
 qG a0 [1] λi=>
(c 37 [h,i]).bind λb=>
 qG a [0] λj=>
 qG b [0] λk=>
(c 89 [j,k]).bind λd=>
 qG a [1] λl=>
 qG b [1] λm=>
(c 89 [l,m]).bind λe=>
(c 37 [d,e]).bind λf=>
 some f)
def YS{lp}(a:ak lp):af 38 (m2 (Nj lp)):=aB 0 Tryz.f54 .leaf a
def XV:Ann:=(.tl (.two (.reg [] 4) .leaf))
def Pq(lp:Lp)(c:Ca)(a0:D)(a1:D):Option D:=
(c 70 [a1]).bind λr1=>
(c 40 [a0,r1]).bind λa=>
 some a
def YT{lp}(a:ak lp):af 39 (m2 (Pq lp)):=aB 0 Tryz.f57 XV a
def XW:Ann:=(.tl (.tl (.tl (.tl (.tl (.two (.reg [] 14) .leaf))))))
def Nk(lp:Lp)(c:Ca)(a0:D)(a1:D):Option D:=
(c 88 [a0]).bind λr1=>
 qN r1 λp=>
(if p then(some true) else((c 88 [a1]).bind λs=>
(D.un .not s).bind λu=>
 D.truth u)).bind λq=>
 qT (D.bool q) λr=>
 if r then((c 84 []).bind λt=>
 some t) else(qG a0 [1] λv=>
 qG a1 [1] λj=>
(c 85 [v,j]).bind λa=>
 qG a0 [1] λk=>
(c 87 [k,a]).bind λb=>
 qG a1 [1] λl=>
(c 87 [l,a]).bind λd=>
 qG a0 [0] λm=>
(c 89 [m,d]).bind λe=>
 qG a1 [0] λn=>
(c 89 [n,b]).bind λf=>
(c 59 [e,f]).bind λg=>
 qG a1 [1] λo=>
(c 89 [b,o]).bind λh=>
(c 37 [g,h]).bind λi=>
 some i)
def YU{lp}(a:ak lp):af 40 (m2 (Nk lp)):=aB 0 Tryz.f27 XW a
def Pr(lp:Lp)(c:Ca)(a0:D)(a1:D):Option D:=
(c 34 [a0]).bind λr1=>
(c 34 [a1]).bind λa=>
(c 37 [r1,a]).bind λb=>
 some b
def YV{lp}(a:ak lp):af 42 (m2 (Pr lp)):=aB 0 Tryz.f55 .leaf a
end Sy
end
end
noncomputable section
set_option maxHeartbeats 0
noncomputable section
namespace Sy
open Go Go.Proofs
def XX:Ann:=let a:LO:=[(4098,.keep K2 2),(4099,.keep dq 3),(8197,.one K5 (.dv K5))]
 let b:LO:=[(4098,.keep K2 2),(4099,.keep dq 3),(8197,.one K5 (.ow Ti))]
 let c:LO:=[(4098,.keep K2 2),(4099,.keep dq 3),(8197,.keep K5 1)]
 let d:LS:=[(2,.sp K2 4098),(3,.sp dq 4099),(5,.sp K5 8197)]
 let e:LS:=[(2,.sp K2 4098),(3,.sp dq 4099),(6,.di)]
 (.tl (.tl (.two (.tl (.two (.loop ⟨[(2,.sp K2 4098),(3,.sp dq 4099),(5,.sp K5 8197),(13,.di)],b,[11,12]⟩ [(.exit 0,⟨d,b,[]⟩)] (.tl (.tl (.cut [(.normal,⟨d,b,[11,12,13]⟩)] [11,12,13] [4098,4099] (.two (.tl (.two (.reg [] 6) .leaf)) .leaf) .leaf)))) .leaf)) (.tl (.tl (.two (.two (.regI [] 6 (.two (.tl (.tl (.two (.tl (.two (.loop ⟨[(2,.sp K2 4098),(3,.sp dq 4099),(6,.di),(12,.dv K5),(14,.di)],a,[0,13]⟩ [(.exit 0,⟨[(6,.di)],a,[]⟩)] (.tl (.tl (.cut [(.normal,⟨e,a,[0,12,13,14]⟩)] [0,12,13,14] [4098,4099] (.two (.tl (.tl (.tl (.two (.reg [] 20) .leaf)))) .leaf) .leaf)))) .leaf)) .leaf))) .leaf)) (.two (.loop ⟨[(5,.sp K5 8197),(8,.same (.clo 182 [(.ptr K5 8197 []),(.ptr K2 4098 []),(.ptr dq 4099 [])])),(9,.ow Ti),(10,.di)],[(4098,.keep K2 2),(4099,.keep dq 3),(8197,.keep K5 5)],[]⟩ [(.exit 2,⟨[(9,.ow Ti)],[],[]⟩)] (.tl (.tl (.regI [] 4 (.two (.tl (.tl (.two (.tl (.two (.loop ⟨[(2,.sp K2 4098),(3,.sp dq 4099),(6,.di),(14,.di)],c,[0,12,13]⟩ [(.exit 0,⟨[(6,.di)],c,[]⟩)] (.tl (.tl (.cut [(.normal,⟨e,a,[0,12,13,14]⟩)] [0,12,13,14] [4098,4099] (.two (.tl (.tl (.tl (.two (.reg [] 20) .leaf)))) .leaf) .leaf)))) .leaf)) .leaf))) .leaf))))) .leaf)) .leaf))))))
def Ps(lp:Lp)(c:Ca)(a0:D)(a1:D):Option D:=
 qS a0 λl1=>
(qZ lp (λv2=>
 qC .lss (gx v2 0) (Jn (l1.length)) λb4=>
 if b4 then((qX a0 (gx v2 0) λx7=>
 qG a1 [0] λx8=>
(c 101 [x8,x7]).bind λr9=>
 qG a1 [1] λP=>
 qT (D.bool (D.beq r9 P)) λp=>
 if p then(if List.length (qV v2 1)+List.length [(gx v2 0)]<=1073741824 then(some (0,[(D.sl ((qV v2 1)++[(gx v2 0)]))])) else none) else(some (0,[(qW v2 1)]))).bind λ(H:Nat×List D)=>
 qB .add (gx v2 0) (Jn 1) λQ=>
 iL [Q,(qW H.2 0)]) else(iR (0,[(qW v2 1)]))) [(Jn 0),(D.sl [])]).bind λe=>
(D.idx (Jn 0) (List.length (qV e.2 0))).bind λi15=>
((qV e.2 0)[i15]?).bind λR=>
(D.idx (Jn 0) (List.length (qV e.2 0))).bind λi17=>
((qV e.2 0)[i17]?).bind λl=>
(qZ lp (λa=>
 qC .lss (gx a 2) (Jn (List.length (qV e.2 0))) λq=>
 if q then((qX (gx a 1) (gx a 2) λf=>
 qT (D.bool (D.beq f l)) λr=>
 if r then(some (0,[(gx a 0),(gx a 3)])) else(qC .lss (gx a 0) (Jn 0) λs=>
 if s then(some (0,[f,(gx a 3)])) else(qX a0 f λS=>
 qX a0 l λT=>
(c 103 [S,T]).bind λh=>
 qX a0 (gx a 0) λU=>
 qX a0 l λV=>
(c 103 [U,V]).bind λi=>
 qG a1 [0] λW=>
(c 104 [W,i,h]).bind λm=>
 qC .lss m (Jn 0) λt=>
(if t then(some true) else(qT (D.bool (D.beq m (Jn 0))) λu=>
 if u then((c 101 [h,h]).bind λI=>
(c 101 [i,i]).bind λJ=>
 qB .gtr I J λX=>
 D.truth X) else(some false))).bind λv=>
 qT (D.bool v) λw=>
 if w then(some (0,[f,(gx a 3)])) else(some (0,[(gx a 0),(gx a 3)]))))).bind λ(n:Nat×List D)=>
 qB .add (gx a 2) (Jn 1) λY=>
 iL [(gx n.2 0),(gx a 1),Y,(gx n.2 1)]) else(iR (0,[(gx a 0),(gx a 3)]))) [(Jn (-1)),(qW e.2 0),(Jn 0),(qW e.2 0)]).bind λb=>
(qZ lp (λv55=>
 qX (gx b.2 1) (Jn 0) λZ=>
 qT (D.bool (!(D.beq (gx v55 1) Z))) λx=>
 if x then(if List.length (qV v55 0)+List.length [(gx v55 1)]<=1073741824 then(qS (gx b.2 1) λG=>
(qZ lp (λd=>
 qC .lss (gx d 1) (Jn (G.length)) λy=>
 if y then((qX (gx b.2 1) (gx d 1) λg=>
 qT (D.bool (D.beq g (gx v55 1))) λz=>
 if z then(some (0,[(gx d 0),(gx b.2 1)])) else(qC .lss (gx d 0) (Jn 0) λA=>
 if A then(some (0,[g,(gx b.2 1)])) else(qX a0 g λad=>
 qX a0 (gx v55 1) λal=>
(c 103 [ad,al]).bind λj=>
 qX a0 (gx d 0) λan=>
 qX a0 (gx v55 1) λax=>
(c 103 [an,ax]).bind λk=>
 qG a1 [0] λaI=>
(c 104 [aI,k,j]).bind λo=>
 qC .lss o (Jn 0) λB=>
(if B then(some true) else(qT (D.bool (D.beq o (Jn 0))) λC=>
 if C then((c 101 [j,j]).bind λK=>
(c 101 [k,k]).bind λL=>
 qB .gtr K L λa2=>
 D.truth a2) else(some false))).bind λE=>
 qT (D.bool E) λF=>
 if F then(some (0,[g,(gx b.2 1)])) else(some (0,[(gx d 0),(gx b.2 1)]))))).bind λ(M:Nat×List D)=>
 qB .add (gx d 1) (Jn 1) λa3=>
 iL [(gx M.2 0),a3]) else(iR (0,[(gx d 0)]))) [(Jn (-1)),(Jn 0)]).bind λN=>
 iL [(D.sl ((qV v55 0)++[(gx v55 1)])),(gx N.2 0)]) else none) else(iR (0,[(qW v55 0)]))) [(D.sl [R]),(gx b.2 0)]).bind λO=>
 some (qW O.2 0)
def YX{lp}(a:ak lp):af 46 (m2 (Ps lp)):=aB 0 Tryz.f129 XX a
def XY:Ann:=let a:LS:=[(3,.ow K1),(5,.ow K1),(6,.dv Ty.bool)]
 (.tl (.tl (.two (.tl (.two (.loop ⟨[(3,.ow K1),(4,.di)],[],[0]⟩ [(.exit 0,⟨[(3,.ow K1)],[],[]⟩)] (.tl (.two (.two (.tl (.tl (.two (.tl (.two (.loop ⟨[(3,.ow K1),(5,.ow K1),(6,.dv Ty.bool),(7,.di)],[],[0,4]⟩ [(.exit 2,⟨[(5,.ow K1),(6,.dv Ty.bool)],[],[0,4]⟩)] (.tl (.cut [(.normal,⟨a,[],[0,4,7]⟩)] [0,4,7] [] (.two (.two (.reg [] 9) (.cut [(.normal,⟨a,[],[0,4,7]⟩)] [0,4,7] [] .leaf (.two (.reg [] 8) .leaf))) .leaf) .leaf))) .leaf)) (.cut [(.normal,⟨[(5,.ow K1)],[],[0,4]⟩)] [0,4] [] .leaf .leaf)))) .leaf) .leaf))) .leaf)) .leaf)))
def Pt(lp:Lp)(c:Ca)(a0:D):Option D:=
(qZ lp (λv1=>
 qL a0 (gx v1 1) λy=>
 if y then((qZ lp (λv5=>
 qC .lss (gx v5 3) (Jn (List.length (qV v5 0))) λz=>
 if z then((qX a0 (gx v1 1) λq=>
(D.idx (gx v5 3) (List.length (qV v5 0))).bind λi11=>
((qV v5 0)[i11]?).bind λr=>
(c 105 [q,r]).bind λn=>
(qN (gx v5 2) λh=>
(if h then(qT n λi=>
 if i then(some true) else(qX a0 (gx v1 1) λs=>
(D.idx (gx v5 3) (List.length (qV v5 0))).bind λi20=>
((qV v5 0)[i20]?).bind λt=>
 D.truth (D.bool (D.beq s t)))) else(some false)).bind λj=>
 qT (D.bool j) λk=>
 if k then(qX a0 (gx v1 1) λe=>
 if List.length (qV v5 1)+List.length [e]<=1073741824 then(some (0,[(qW v5 0),(D.sl ((qV v5 1)++[e])),(D.bool true)])) else none) else(some (0,[(qW v5 0),(qW v5 1),(gx v5 2)]))).bind λ(a:Nat×List D)=>
(D.idx (gx v5 3) (List.length (qV a.2 0))).bind λi28=>
((qV a.2 0)[i28]?).bind λu=>
 qX a0 (gx v1 1) λv=>
 qT (D.bool (!(D.beq u v))) λl=>
 if l then((D.idx (gx v5 3) (List.length (qV a.2 0))).bind λi34=>
((qV a.2 0)[i34]?).bind λf=>
 if List.length (qV a.2 1)+List.length [f]<=1073741824 then(some (0,[(qW a.2 0),(D.sl ((qV a.2 1)++[f])),(gx a.2 2)])) else none) else(some (0,[(qW a.2 0),(qW a.2 1),(gx a.2 2)]))).bind λ(d:Nat×List D)=>
 qB .add (gx v5 3) (Jn 1) λw=>
 iL [(qW d.2 0),(qW d.2 1),(gx d.2 2),w]) else(iR (0,[(qW v5 1),(gx v5 2)]))) [(qW v1 0),(D.sl []),(D.bool false),(Jn 0)]).bind λb=>
(qN (gx b.2 1) λm=>
 if m then(qX a0 (gx v1 1) λg=>
 if List.length (qV b.2 0)+List.length [g]<=1073741824 then(some (0,[(D.sl ((qV b.2 0)++[g]))])) else none) else(some (0,[(qW b.2 0)]))).bind λ(o:Nat×List D)=>
 qB .add (gx v1 1) (Jn 1) λx=>
 iL [(qW o.2 0),x]) else(iR (0,[(qW v1 0)]))) [(D.sl []),(Jn 0)]).bind λp=>
 some (qW p.2 0)
def YY{lp}(a:ak lp):af 47 (m1 (Pt lp)):=a7 0 Tryz.f199 XY a
def XZ:Ann:=(.tl (.tl (.two (.tl (.two (.loop ⟨[(3,.dv K7),(4,.di)],[],[0]⟩ [(.exit 0,⟨[(3,.dv K7)],[],[]⟩)] (.tl (.two (.two (.tl (.two (.loop ⟨[(3,.dv K7),(5,.di)],[],[0,4]⟩ [(.exit 2,⟨[(3,.dv K7)],[],[0,4]⟩)] (.tl (.two (.two (.tl (.two (.loop ⟨[(3,.dv K7),(6,.di)],[],[0,4,5]⟩ [(.exit 4,⟨[(3,.dv K7)],[],[0,4,5]⟩)] (.tl (.two (.two (.two (.reg [] 14) (.tl (.two (.loop ⟨[(3,.dv K7),(7,.sp K1 49159),(8,.di)],[(49159,.one K1 (.dv K1))],[0,4,5,6]⟩ [(.exit 6,⟨[(3,.dv K7)],[],[0,4,5,6]⟩)] (.tl (.two (.two (.two (.reg [] 6) (.tl (.tl (.cut [(.normal,⟨[(3,.dv K7),(7,.sp K1 49159)],[(49159,.keep K1 7)],[0,4,5,6,8]⟩)] [0,4,5,6,8] [49159] (.tl (.two (.reg [] 9) .leaf)) .leaf)))) .leaf) .leaf))) .leaf))) .leaf) .leaf))) .leaf)) .leaf) .leaf))) .leaf)) .leaf) .leaf))) .leaf)) .leaf)))
def Pu(lp:Lp)(c:Ca)(a0:D):Option D:=
(qZ lp (λv1=>
 qL a0 (gx v1 1) λF=>
 if F then(qB .add (gx v1 1) (Jn 1) λH=>
(qZ lp (λv6=>
 qL a0 (gx v6 1) λG=>
 if G then(qB .add (gx v6 1) (Jn 1) λu=>
(qZ lp (λv11=>
 qL a0 (gx v11 1) λb=>
 if b then(qX a0 (gx v1 1) λv=>
 qX a0 (gx v6 1) λw=>
 qX a0 (gx v11 1) λx=>
(c 106 [v,w,x]).bind λj=>
(qZ lp (λv25=>
 qC .lss (gx v25 1) (Jn 2) λd=>
 if d then(qX a0 (gx v1 1) λy=>
(c 107 [(gx v25 2),y]).bind λa=>
(c 108 [(gx v25 0),(gx v25 2)]).bind λk=>
(qN k λe=>
(if e then((D.un .not (D.bool (D.beq (gx v25 2) (D.st [(Jn 0),(Jn 0),(Jn 0)])))).bind λz=>
 D.truth z) else(some false)).bind λf=>
 qT (D.bool f) λg=>
(if g then((c 109 [a0,(gx v25 2),a]).bind λl=>
 D.truth l) else(some false)).bind λh=>
 qT (D.bool h) λi=>
 if i then((c 111 [a0,(gx v25 2),a]).bind λm=>
(c 110 [(gx v25 0),(D.st [(gx v25 2),a,m])]).bind λn=>
 some (0,[n])) else(some (0,[(gx v25 0)]))).bind λ(o:Nat×List D)=>
(c 112 [(D.st [(Jn 0),(Jn 0),(Jn 0)]),(gx v25 2)]).bind λp=>
 qB .add (gx v25 1) (Jn 1) λA=>
 iL [(gx o.2 0),A,p]) else(iR (0,[(gx v25 0)]))) [(gx v11 0),(Jn 0),j]).bind λq=>
 qB .add (gx v11 1) (Jn 1) λB=>
 iL [(gx q.2 0),B]) else(iR (0,[(gx v11 0)]))) [(gx v6 0),u]).bind λr=>
 qB .add (gx v6 1) (Jn 1) λC=>
 iL [(gx r.2 0),C]) else(iR (0,[(gx v6 0)]))) [(gx v1 0),H]).bind λs=>
 qB .add (gx v1 1) (Jn 1) λE=>
 iL [(gx s.2 0),E]) else(iR (0,[(gx v1 0)]))) [(D.sl []),(Jn 0)]).bind λt=>
 some (gx t.2 0)
def YZ{lp}(a:ak lp):af 48 (m1 (Pu lp)):=a7 0 Tryz.f133 XZ a
def X0:Ann:=(.tl (.two (.reg [] 12) .leaf))
def Pv(lp:Lp)(c:Ca)(a0:D)(a1:D):Option D:=
 qG a0 [0] λe=>
 qG a1 [0] λf=>
(c 53 [e,f]).bind λa=>
 qG a0 [1] λg=>
 qG a1 [1] λh=>
(c 53 [g,h]).bind λb=>
(c 52 [(D.sl [a,b])]).bind λd=>
 some d
def Y0{lp}(a:ak lp):af 51 (m2 (Pv lp)):=aB 0 Tryz.f191 X0 a
def X2:Ann:=(.tl (.tl (.two (.tl (.two (.loop ⟨[(8,.di)],[],[3,6,7]⟩ [(.ret,⟨[(2,.di)],[],[]⟩),(.exit 0,⟨[],[],[3]⟩)] .leaf) .leaf)) .leaf)))
def Pw(lp:Lp)(c:Ca)(a0:D):Option D:=
 qS a0 λf=>
(qZ lp (λv2=>
 qC .lss (gx v2 0) (Jn (f.length)) λd=>
 if d then(qX a0 (gx v2 0) λb=>
 qT (D.bool (!(D.beq b (Jn 0)))) λe=>
 if e then(iR (0,[b])) else(qB .add (gx v2 0) (Jn 1) λg=>
 iL [g])) else(iR (1,[]))) [(Jn 0)]).bind λa=>
 if a.1=0 then(some (gx a.2 0)) else(some (Jn 0))
def Y1{lp}(a:ak lp):af 52 (m1 (Pw lp)):=a7 0 Tryz.f179 X2 a
def Px(lp:Lp)(c:Ca)(a0:D)(a1:D):Option D:=
(c 115 [a0]).bind λr1=>
(c 115 [a1]).bind λa=>
 qT r1 λb=>
 if b then(qT a λd=>
 if d then(some (Jn 0)) else(some (Jn (-1)))) else(qT a λe=>
 if e then(some (Jn 1)) else(qC .lss a0 a1 λf=>
 if f then(some (Jn (-1))) else(qC .gtr a0 a1 λg=>
 if g then(some (Jn 1)) else(some (Jn 0)))))
def Y2{lp}(a:ak lp):af 53 (m2 (Px lp)):=aB 0 Tryz.f180 .leaf a
def X3:Ann:=(.tl (.tl (.cut [(.normal,⟨[(2,.sp aP 4098),(3,.dv (Ty.int .u64))],[(4098,.keep aP 2)],[0]⟩)] [0] [4098] .leaf .leaf)))
def Py(lp:Lp)(c:Ca)(a0:D):Option D:=
(D.conv .u64 a0).bind λd=>
(qC .lss a0 (Jn 0) λe=>
 if e then((D.un .neg d).bind λf=>
 some (0,[f])) else(some (0,[d]))).bind λ(b:Nat×List D)=>
 qB .lss a0 (Jn 0) λg=>
(D.conv .u32 (gx b.2 0)).bind λh=>
 qB .shr (gx b.2 0) (D.int .u64 32) λi=>
(D.conv .u32 i).bind λj=>
(c 116 [g,(D.st (D.putParts (List.replicate 16 (D.int .u32 0)) [(0,h),(1,j)]))]).bind λa=>
 some a
def Y3{lp}(a:ak lp):af 54 (m1 (Py lp)):=a7 0 Tryz.f45 X3 a
def X4:Ann:=(.tl (.tl (.tl (.two (.tl (.two (.two (.reg [] 8) .leaf) .leaf)) (.two (.reg [] 8) .leaf)))))
def Pz(lp:Lp)(c:Ca)(a0:D)(a1:D):Option D:=
(c 118 [(D.sl [a0,a1])]).bind λr1=>
 qN r1 λw=>
 if w then((c 119 []).bind λy=>
 some y) else(qG a0 [1] λz=>
 qG a1 [1] λA=>
 qT (D.bool (D.beq z A)) λx=>
 if x then(qG a0 [2] λB=>
 qG a1 [2] λC=>
(c 120 [B,C]).bind λa=>
(D.tupAt a 0).bind λl=>
(D.tupAt a 1).bind λm=>
 qN m λb=>
 if b then((c 119 []).bind λe=>
 some e) else(qG a0 [1] λn=>
(c 116 [n,l]).bind λf=>
 some f)) else(qG a0 [2] λo=>
 qG a1 [2] λp=>
(c 121 [o,p]).bind λg=>
 qC .geq g (Jn 0) λd=>
 if d then(qG a0 [1] λq=>
 qG a0 [2] λr=>
 qG a1 [2] λs=>
(c 122 [r,s]).bind λh=>
(c 116 [q,h]).bind λi=>
 some i) else(qG a1 [1] λt=>
 qG a1 [2] λu=>
 qG a0 [2] λv=>
(c 122 [u,v]).bind λj=>
(c 116 [t,j]).bind λk=>
 some k)))
def Y4{lp}(a:ak lp):af 57 (m2 (Pz lp)):=aB 0 Tryz.f118 X4 a
def X5:Ann:=(.tl (.tl (.tl (.tl (.tl (.tl (.tl (.two (.tl (.two (.two (.reg [] 6) .leaf) .leaf)) (.tl (.two (.tl (.two (.two (.reg [] 6) .leaf) .leaf)) (.two (.reg [] 6) .leaf)))))))))))
def MT(lp:Lp)(c:Ca)(a0:D)(a1:D):Option D:=
(c 124 [a0]).bind λr1=>
(D.tupAt r1 0).bind λF=>
(D.tupAt r1 1).bind λG=>
(c 124 [a1]).bind λA=>
(D.tupAt A 0).bind λH=>
(D.tupAt A 1).bind λI=>
 qT G λB=>
(if B then(D.truth I) else(some false)).bind λC=>
 qT (D.bool C) λE=>
 if E then(qB .add F H λt=>
(c 34 [t]).bind λi=>
 some i) else((c 76 [a0]).bind λj=>
 qN j λd=>
(if d then(some true) else((c 76 [a1]).bind λk=>
(D.un .not k).bind λu=>
 D.truth u)).bind λe=>
 qT (D.bool e) λf=>
 if f then((c 125 []).bind λl=>
 some l) else((c 77 [a0]).bind λa=>
(c 77 [a1]).bind λb=>
 qG a0 [1] λv=>
 qG a1 [1] λw=>
 qT (D.bool (D.beq v w)) λg=>
 if g then(qG a0 [1] λx=>
(c 82 [a,b]).bind λm=>
(c 81 [x,m]).bind λn=>
 some n) else((c 78 [a,b]).bind λo=>
 qT o λh=>
 if h then(qG a1 [1] λy=>
(c 126 [b,a]).bind λp=>
(c 81 [y,p]).bind λq=>
 some q) else(qG a0 [1] λz=>
(c 126 [a,b]).bind λr=>
(c 81 [z,r]).bind λs=>
 some s))))
def Y5{lp}(a:ak lp):af 59 (m2 (MT lp)):=aB 0 Tryz.f89 X5 a
def X7:Ann:=let a:LO:=[(4098,.keep aP 2),(4099,.keep aP 3),(4100,.keep aP 4),(12293,.one I6 (.dv I6))]
 (.tl (.tl (.tl (.two (.reg [] 7) (.two (.tl (.two (.loop ⟨[(2,.sp aP 4098),(3,.sp aP 4099),(4,.sp aP 4100),(5,.sp I6 12293),(24,.di)],a,[7,23]⟩ [(.exit 0,⟨[(2,.sp aP 4098),(3,.sp aP 4099),(4,.sp aP 4100),(5,.sp I6 12293)],a,[]⟩)] (.tl (.tl (.two (.two (.tl (.tl (.two (.tl (.two (.loop ⟨[(2,.sp aP 4098),(3,.sp aP 4099),(4,.sp aP 4100),(5,.sp I6 12293),(9,.dv (Ty.int .u64)),(28,.di)],a,[7,8,23,24,27]⟩ [(.exit 2,⟨[(2,.sp aP 4098),(3,.sp aP 4099),(4,.sp aP 4100),(5,.sp I6 12293),(9,.dv (Ty.int .u64))],a,[7,8,23,24]⟩)] (.tl (.tl (.two (.two (.tl (.two (.reg [] 20) .leaf)) .leaf) .leaf)))) .leaf)) .leaf))) .leaf) .leaf)))) .leaf)) (.tl (.two (.reg [] 9) .leaf)))))))
def PA(lp:Lp)(c:Ca)(a0:D)(a1:D):Option D:=
(c 118 [(D.sl [a0,a1])]).bind λr1=>
 qN r1 λH=>
 if H then((c 119 []).bind λI=>
 some I) else(qG a0 [2] λK=>
(c 127 [K]).bind λJ=>
 qG a1 [2] λL=>
(c 127 [L]).bind λG=>
(qZ lp (λv9=>
 qC .lss (gx v9 0) J λg=>
 if g then((qZ lp (λv12=>
 qC .lss (gx v12 1) G λh=>
 if h then((D.idx (gx v9 0) 16).bind λi15=>
 qG a0 [2,i15] λl=>
(D.conv .u64 l).bind λm=>
(D.idx (gx v12 1) 16).bind λi18=>
 qG a1 [2,i18] λn=>
(D.conv .u64 n).bind λo=>
 qB .mul m o λp=>
 qB .add (gx v9 0) (gx v12 1) λq=>
 qJ q 32 (gx v12 2) λr=>
(D.conv .u64 r).bind λs=>
 qB .add p s λt=>
 qB .add (gx v12 0) t λf=>
 qB .add (gx v9 0) (gx v12 1) λu=>
(D.conv .u32 f).bind λv=>
(D.idx u 32).bind λi30=>
(D.set (gx v12 2) [i30] v).bind λw=>
 qB .shr f (D.int .u64 32) λx=>
 qB .add (gx v12 1) (Jn 1) λy=>
 iL [x,y,w]) else(iR (0,[(gx v12 0),(gx v12 2)]))) [(D.int .u64 0),(Jn 0),(gx v9 1)]).bind λd=>
 qB .add (gx v9 0) G λz=>
(D.conv .u32 (gx d.2 0)).bind λA=>
(D.idx z 32).bind λi37=>
(D.set (gx d.2 1) [i37] A).bind λB=>
 qB .add (gx v9 0) (Jn 1) λC=>
 iL [C,B]) else(iR (0,[(gx v9 1)]))) [(Jn 0),(av I6)]).bind λe=>
(match (gx e.2 0) with
| D.st a=>(if decide (16+16<=a.length) then(qT (D.bool (!(D.beq (D.st (List.take 16 (List.drop 16 a))) (D.st (D.putParts (List.replicate 16 (D.int .u32 0)) []))))) λi=>
 if i then((c 119 []).bind λj=>
 some j) else(qG a0 [1] λE=>
 qG a1 [1] λF=>
(match (gx e.2 0) with
| D.st b=>(if decide (0+16<=b.length) then((c 116 [(D.bool (!(D.beq E F))),(D.st (List.take 16 (List.drop 0 b)))]).bind λk=>
 some k) else none)
| _=>none))) else none)
| _=>none))
def Y6{lp}(a:ak lp):af 61 (m2 (PA lp)):=aB 0 Tryz.f108 X7 a
def X8:Ann:=(.tl (.tl (.tl (.cut [(.normal,⟨[(2,.sp aP 4098),(3,.sp aP 4099),(4,.sp bK 4100),(5,.sp aP 12293)],[(4098,.keep aP 2),(4099,.keep aP 3),(4100,.keep bK 4),(12293,.one aP (.dv aP))],[]⟩)] [] [4098,4099,4100] .leaf (.two (.reg [] 7) .leaf)))))
def MU(lp:Lp)(c:Ca)(a0:D)(a1:D):Option D:=
(c 128 [a0]).bind λr1=>
 qN r1 λk=>
(if k then(some true) else((c 128 [a1]).bind λo=>
(D.un .not o).bind λq=>
 D.truth q)).bind λl=>
 qT (D.bool l) λm=>
(if m then(some true) else((c 129 [a1]).bind λp=>
 D.truth (D.bool (D.beq p (Jn 0))))).bind λn=>
 qT (D.bool n) λd=>
 if d then((c 130 []).bind λf=>
 some f) else((c 131 [a0,a1]).bind λa=>
((c 129 [a1]).bind λg=>
 qC .lss g (Jn 0) λe=>
 if e then((c 68 [a]).bind λh=>
 some (0,[h])) else(some (0,[a]))).bind λ(b:Nat×List D)=>
(c 132 [a0,(gx b.2 0)]).bind λi=>
(c 132 [a1,(gx b.2 0)]).bind λj=>
 some (D.st [i,j]))
def Y7{lp}(a:ak lp):af 62 (m2 (MU lp)):=aB 0 Tryz.f43 X8 a
def X9:Ann:=(.tl (.two (.reg [] 3) .leaf))
def PC(lp:Lp)(c:Ca)(a0:D):Option D:=
(c 133 []).bind λr1=>
(c 37 [a0,r1]).bind λa=>
 some a
def Y8{lp}(a:ak lp):af 63 (m1 (PC lp)):=a7 0 Tryz.f28 X9 a
def Ya:Ann:=(.tl (.tl (.two (.reg [] 7) .leaf)))
def PD(lp:Lp)(c:Ca)(a0:D)(a1:D):Option D:=
(c 88 [a1]).bind λr1=>
 qN r1 λa=>
 if a then((c 84 []).bind λb=>
 some b) else(qG a1 [1] λf=>
 qG a1 [0] λg=>
(c 37 [f,g]).bind λd=>
(c 38 [a0,d]).bind λe=>
 some e)
def Y9{lp}(a:ak lp):af 65 (m2 (PD lp)):=aB 0 Tryz.f84 Ya a
def PE(lp:Lp)(c:Ca)(a0:D):Option D:=
(c 118 [(D.sl [a0])]).bind λr1=>
 qN r1 λa=>
 if a then((c 119 []).bind λb=>
 some b) else(qG a0 [1] λe=>
(D.un .not e).bind λf=>
 qG a0 [2] λg=>
(c 116 [f,g]).bind λd=>
 some d)
def Za{lp}(a:ak lp):af 68 (m1 (PE lp)):=a7 0 Tryz.f111 .leaf a
def Yb:Ann:=(.tl (.tl (.two (.reg [] 6) .leaf)))
def NA(lp:Lp)(c:Ca)(a0:D):Option D:=
(c 88 [a0]).bind λr1=>
 qN r1 λa=>
 if a then((c 84 []).bind λb=>
 some b) else(qG a0 [0] λe=>
(c 86 [e]).bind λd=>
 qG a0 [1] λf=>
 some (D.st [d,f]))
def Zb{lp}(a:ak lp):af 70 (m1 (NA lp)):=a7 0 Tryz.f52 Yb a
def Xr(lp:Lp)(c:Ca)(a0:D):Option D:=
 qG a0 [0,0,0] λf=>
 qT f λa=>
(if a then(some true) else(qG a0 [1,0,0] λg=>
 D.truth g)).bind λb=>
 qT (D.bool b) λd=>
(if d then(some true) else(qG a0 [2,0,0] λh=>
 D.truth h)).bind λe=>
 some (D.bool e)
def Zc{lp}(a:ak lp):af 71 (m1 (Xr lp)):=a7 0 Tryz.f60 .leaf a
def Yc:Ann:=(.tl (.two (.reg [] 4) .leaf))
def Xs(lp:Lp)(c:Ca)(a0:D)(a1:D):Option D:=
(c 135 [a0]).bind λr1=>
(c 134 [r1,a1]).bind λa=>
 some a
def Zd{lp}(a:ak lp):af 72 (m2 (Xs lp)):=aB 0 Tryz.f65 Yc a
end Sy
end
end
noncomputable section
set_option maxHeartbeats 0
noncomputable section
namespace Sy
open Go Go.Proofs
def Yd:Ann:=(.tl (.two (.reg [] 5) (.tl (.tl (.tl (.two (.two (.loop ⟨[(2,.sp bK 4098),(3,.sp bK 4099),(7,.di)],[(4098,.one bK (.dv bK)),(4099,.one bK (.dv bK))],[]⟩ [(.exit 1,⟨[(7,.di)],[],[]⟩)] (.two (.two (.two (.reg [] 11) .leaf) (.two (.reg [] 16) (.two (.reg [] 7) .leaf))) .leaf)) .leaf) .leaf))))))
def PF(lp:Lp)(c:Ca)(a0:D)(a1:D):Option D:=
(c 136 [a0]).bind λr1=>
(c 136 [a1]).bind λC=>
 qN r1 λE=>
(if E then((D.un .not C).bind λI=>
 D.truth I) else(some false)).bind λF=>
 qT (D.bool F) λG=>
 if G then(some (Jn 0)) else(qN r1 λH=>
 if H then(some (Jn (-1))) else(qN C λg=>
 if g then(some (Jn 1)) else((qZ lp (λv12=>
 qG (gx v12 1) [0] λo=>
 qG (gx v12 1) [1] λp=>
(c 132 [o,p]).bind λl=>
 qG (gx v12 2) [0] λq=>
 qG (gx v12 2) [1] λr=>
(c 132 [q,r]).bind λm=>
(c 90 [l,m]).bind λa=>
 qT (D.bool (!(D.beq a (Jn 0)))) λh=>
 if h then(qB .mul (gx v12 0) a λs=>
 iR (0,[s])) else(qG (gx v12 1) [1] λt=>
 qG (gx v12 1) [0] λu=>
 qG (gx v12 1) [1] λv=>
(c 137 [u,v]).bind λb=>
 qG (gx v12 2) [1] λw=>
 qG (gx v12 2) [0] λx=>
 qG (gx v12 2) [1] λy=>
(c 137 [x,y]).bind λd=>
(c 129 [b]).bind λe=>
(c 129 [d]).bind λf=>
 qT (D.bool (D.beq e (Jn 0))) λi=>
(if i then(some true) else(D.truth (D.bool (D.beq f (Jn 0))))).bind λj=>
 qT (D.bool j) λk=>
 if k then(qB .sub e f λz=>
 qB .mul (gx v12 0) z λA=>
 iR (0,[A])) else((D.un .neg (gx v12 0)).bind λB=>
 iL [B,(D.st [t,b]),(D.st [w,d])]))) [(Jn 1),a0,a1]).bind λn=>
 some (gx n.2 0))))
def Ze{lp}(a:ak lp):af 73 (m2 (PF lp)):=aB 0 Tryz.f46 Yd a
def PG(lp:Lp)(c:Ca)(a0:D):Option D:=
(c 54 [a0]).bind λr1=>
(c 138 [r1]).bind λa=>
 some a
def Zf{lp}(a:ak lp):af 74 (m1 (PG lp)):=a7 0 Tryz.f49 .leaf a
def PH(lp:Lp)(c:Ca)(a0:D):Option D:=
(c 34 [a0]).bind λr1=>
(c 133 []).bind λa=>
(c 37 [r1,a]).bind λb=>
 some b
def Zg{lp}(a:ak lp):af 75 (m1 (PH lp)):=a7 0 Tryz.f36 .leaf a
def NC(lp:Lp)(c:Ca)(a0:D):Option D:=
(c 139 [a0]).bind λr1=>
 qT r1 λa=>
(if a then(qG a0 [0] λd=>
(D.un .not d).bind λe=>
 D.truth e) else(some false)).bind λb=>
 some (D.bool b)
def Zh{lp}(a:ak lp):af 76 (m1 (NC lp)):=a7 0 Tryz.f78 .leaf a
def Ye:Ann:=(.tl (.tl (.two (.tl (.two (.loop ⟨[(1,.sp aP 4097),(3,.ow Ti),(4,.di)],[(4097,.keep aP 1)],[]⟩ [(.exit 0,⟨[(3,.ow Ti)],[],[]⟩)] (.tl (.two (.two (.reg [] 14) .leaf) .leaf))) .leaf)) .leaf)))
def PI(lp:Lp)(c:Ca)(a0:D):Option D:=
(qZ lp (λv1=>
 qC .lss (gx v1 1) (Jn 16) λh=>
 if h then((D.idx (gx v1 1) 16).bind λi4=>
 qG a0 [2,i4] λi=>
 qB .rem i (D.int .u32 65536) λj=>
(D.conv .i64 j).bind λg=>
(D.idx (gx v1 1) 16).bind λi8=>
 qG a0 [2,i8] λk=>
 qB .quo k (D.int .u32 65536) λe=>
(D.conv .i64 e).bind λa=>
 if List.length (qV v1 0)+List.length [g,a]<=1073741824 then(qB .add (gx v1 1) (Jn 1) λf=>
 iL [(D.sl ((qV v1 0)++[g,a])),f]) else none) else(iR (0,[(qW v1 0)]))) [(D.sl []),(Jn 0)]).bind λb=>
(c 140 [(qW b.2 0)]).bind λd=>
 some d
def Zi{lp}(a:ak lp):af 77 (m1 (PI lp)):=a7 0 Tryz.f79 Ye a
def Yf:Ann:=(.tl (.two (.tl (.two (.loop ⟨[(5,.di)],[],[0,1]⟩ [(.ret,⟨[(4,.dv Ty.bool)],[],[]⟩),(.exit 0,⟨[],[],[]⟩)] .leaf) .leaf)) .leaf))
def PJ(lp:Lp)(c:Ca)(a0:D)(a1:D):Option D:=
 qS a0 λi=>
 qS a1 λj=>
(D.max2 (Jn (i.length)) (Jn (j.length))).bind λm=>
 qB .sub m (Jn 1) λn=>
(qZ lp (λv5=>
 qC .geq (gx v5 0) (Jn 0) λh=>
 if h then((c 141 [a0,(gx v5 0)]).bind λk=>
(c 141 [a1,(gx v5 0)]).bind λl=>
 qT (D.bool (!(D.beq k l))) λb=>
 if b then((c 141 [a0,(gx v5 0)]).bind λd=>
(c 141 [a1,(gx v5 0)]).bind λe=>
 qB .lss d e λf=>
 iR (0,[f])) else(qB .sub (gx v5 0) (Jn 1) λg=>
 iL [g])) else(iR (1,[]))) [n]).bind λa=>
 if a.1=0 then(some (gx a.2 0)) else(some (D.bool false))
def Zj{lp}(a:ak lp):af 78 (m2 (PJ lp)):=aB 0 Tryz.f154 Yf a
def Yg:Ann:=(.tl (.tl (.two (.reg [] 7) (.two (.reg [] 7) .leaf))))
def PK(lp:Lp)(c:Ca)(a0:D)(a1:D):Option D:=
 qG a0 [0] λg=>
 qG a1 [0] λh=>
(c 89 [g,h]).bind λd=>
 qG a0 [1] λi=>
 qG a1 [1] λj=>
(c 89 [i,j]).bind λe=>
(c 59 [d,e]).bind λf=>
 qG a0 [2] λk=>
 qG a1 [2] λl=>
(c 89 [k,l]).bind λa=>
(c 59 [f,a]).bind λb=>
 some b
def Zk{lp}(a:ak lp):af 79 (m2 (PK lp)):=aB 0 Tryz.f92 Yg a
def Yh:Ann:=(.tl (.two (.reg [] 10) .leaf))
def PL(lp:Lp)(c:Ca)(a0:D):Option D:=
 qG a0 [0] λe=>
(c 34 [e]).bind λa=>
 qG a0 [1] λf=>
(c 34 [f]).bind λb=>
 qG a0 [2] λg=>
(c 34 [g]).bind λd=>
 some (D.st [a,b,d])
def Zl{lp}(a:ak lp):af 80 (m1 (PL lp)):=a7 0 Tryz.f93 Yh a
def Yi:Ann:=let a:LO:=[(4100,.keep aP 4),(16390,.one aP (.dv aP))]
 let b:LS:=[(4,.sp aP 4100),(6,.sp aP 16390)]
 (.tl (.tl (.tl (.tl (.two (.tl (.two (.loop ⟨[(4,.sp aP 4100),(6,.sp aP 16390),(7,.di)],a,[5]⟩ [(.exit 0,⟨b,a,[]⟩)] (.tl (.cut [(.normal,⟨b,a,[5,7]⟩)] [5,7] [4100] (.two (.tl (.two (.reg [] 15) (.reg [] 16))) .leaf) .leaf))) .leaf)) .leaf)))))
def ND(lp:Lp)(c:Ca)(a0:D)(a1:D):Option D:=
(c 140 [a1]).bind λr1=>
 qS r1 λz=>
 qC .gtr (Jn (z.length)) (Jn 32) λw=>
 if w then((c 125 []).bind λB=>
 some B) else(qT a0 λx=>
(if x then(qS r1 λA=>
 qB .gtr (Jn (A.length)) (Jn 0) λC=>
 D.truth C) else(some false)).bind λy=>
(qZ lp (λv10=>
 qL r1 (gx v10 0) λa=>
 if a then((qB .rem (gx v10 0) (Jn 2) λf=>
 qT (D.bool (D.beq f (Jn 0))) λb=>
 if b then(qB .quo (gx v10 0) (Jn 2) λg=>
 qB .quo (gx v10 0) (Jn 2) λh=>
(D.idx h 16).bind λi18=>
 qG (gx v10 1) [2,i18] λi=>
 qX r1 (gx v10 0) λj=>
(D.conv .u32 j).bind λk=>
 qB .add i k λl=>
(D.idx g 16).bind λi25=>
(D.set (gx v10 1) [2,i25] l).bind λm=>
 some (0,[m])) else(qB .quo (gx v10 0) (Jn 2) λn=>
 qB .quo (gx v10 0) (Jn 2) λo=>
(D.idx o 16).bind λi29=>
 qG (gx v10 1) [2,i29] λp=>
 qX r1 (gx v10 0) λq=>
(D.conv .u32 q).bind λr=>
 qB .mul r (D.int .u32 65536) λs=>
 qB .add p s λt=>
(D.idx n 16).bind λi37=>
(D.set (gx v10 1) [2,i37] t).bind λu=>
 some (0,[u]))).bind λ(d:Nat×List D)=>
 qB .add (gx v10 0) (Jn 1) λv=>
 iL [v,(gx d.2 0)]) else(iR (0,[(gx v10 1)]))) [(Jn 0),(D.st [(D.bool false),(D.bool y),(av aU)])]).bind λe=>
 some (gx e.2 0))
def Zm{lp}(a:ak lp):af 81 (m2 (ND lp)):=aB 0 Tryz.f151 Yi a
def Yj:Ann:=(.tl (.tl (.tl (.two (.tl (.two (.loop ⟨[(5,.ow Ti),(6,.di),(7,.di)],[],[0,1]⟩ [(.exit 0,⟨[(5,.ow Ti)],[],[]⟩)] .leaf) .leaf)) .leaf))))
def PM(lp:Lp)(c:Ca)(a0:D)(a1:D):Option D:=
(qZ lp (λv1=>
 qS a0 λj=>
 qS a1 λk=>
(D.max2 (Jn (j.length)) (Jn (k.length))).bind λn=>
 qB .add n (Jn 1) λo=>
 qC .lss (gx v1 2) o λi=>
 if i then((c 141 [a0,(gx v1 2)]).bind λl=>
(c 141 [a1,(gx v1 2)]).bind λm=>
 qB .add l m λf=>
 qB .add f (gx v1 1) λa=>
 qB .rem a (Jn 65536) λb=>
 if List.length (qV v1 0)+List.length [b]<=1073741824 then(qB .quo a (Jn 65536) λg=>
 qB .add (gx v1 2) (Jn 1) λh=>
 iL [(D.sl ((qV v1 0)++[b])),g,h]) else none) else(iR (0,[(qW v1 0)]))) [(D.sl []),(Jn 0),(Jn 0)]).bind λd=>
(c 140 [(qW d.2 0)]).bind λe=>
 some e
def Zn{lp}(a:ak lp):af 82 (m2 (PM lp)):=aB 0 Tryz.f153 Yj a
def PN(lp:Lp)(c:Ca)(a0:D):Option D:=
(c 76 [a0]).bind λr1=>
 qN r1 λa=>
(if a then(some true) else((c 77 [a0]).bind λg=>
 qS g λf=>
 D.truth (D.bool (D.beq (Jn (f.length)) (Jn 0))))).bind λb=>
 qT (D.bool b) λd=>
 if d then(some (Jn 0)) else(qG a0 [1] λh=>
 qT h λe=>
 if e then(some (Jn (-1))) else(some (Jn 1)))
def Zo{lp}(a:ak lp):af 83 (m1 (PN lp)):=a7 0 Tryz.f82 .leaf a
def PO(lp:Lp)(c:Ca) :Option D:=
(c 125 []).bind λr1=>
(c 133 []).bind λa=>
 some (D.st [r1,a])
def Zp{lp}(a:ak lp):af 84 (m0 (PO lp)):=vK 0 Tryz.f85 .leaf a
def Yk:Ann:=(.tl (.tl (.tl (.two (.tl (.two (.two (.two (.loop ⟨[(4,.sp aP 4100),(5,.di),(7,.di)],[(4100,.keep aP 4)],[]⟩ [(.exit 0,⟨[(4,.sp aP 4100),(5,.di)],[(4100,.keep aP 4)],[]⟩)] .leaf) .leaf) .leaf) .leaf)) (.tl (.tl (.tl (.two (.two (.loop ⟨[(4,.sp aP 4100),(10,.dv K5),(11,.dv K5)],[(4100,.keep aP 4)],[]⟩ [(.exit 2,⟨[(4,.sp aP 4100),(10,.dv K5)],[(4100,.keep aP 4)],[]⟩)] .leaf) .leaf) .leaf))))))))
def NE(lp:Lp)(c:Ca)(a0:D)(a1:D):Option D:=
(c 124 [a0]).bind λr1=>
(D.tupAt r1 0).bind λz=>
(D.tupAt r1 1).bind λA=>
(c 124 [a1]).bind λv=>
(D.tupAt v 0).bind λC=>
(D.tupAt v 1).bind λE=>
 qT A λw=>
(if w then(D.truth E) else(some false)).bind λx=>
 qT (D.bool x) λy=>
 if y then((qZ lp (λv10=>
 qT (D.bool (!(D.beq (gx v10 1) (Jn 0)))) λb=>
 if b then(qB .rem (gx v10 0) (gx v10 1) λs=>
 iL [(gx v10 1),s]) else(iR (0,[(gx v10 0)]))) [z,C]).bind λi=>
(c 34 [(gx i.2 0)]).bind λj=>
(c 142 [j]).bind λk=>
 some k) else((c 76 [a0]).bind λl=>
 qN l λd=>
(if d then(some true) else((c 76 [a1]).bind λm=>
(D.un .not m).bind λt=>
 D.truth t)).bind λe=>
 qT (D.bool e) λf=>
 if f then((c 125 []).bind λn=>
 some n) else((c 77 [a0]).bind λo=>
(c 77 [a1]).bind λp=>
(qZ lp (λv26=>
 qS (gx v26 1) λh=>
 qC .gtr (Jn (h.length)) (Jn 0) λg=>
 if g then((c 143 [(gx v26 0),(gx v26 1)]).bind λa=>
(D.tupAt a 0).bind λB=>
(D.tupAt a 1).bind λu=>
 iL [(gx v26 1),u]) else(iR (0,[(gx v26 0)]))) [o,p]).bind λq=>
(c 81 [(D.bool false),(gx q.2 0)]).bind λr=>
 some r))
def Zq{lp}(a:ak lp):af 85 (m2 (NE lp)):=aB 0 Tryz.f86 Yk a
def Yl:Ann:=(.tl (.tl (.two (.reg [] 6) .leaf)))
def PP(lp:Lp)(c:Ca)(a0:D):Option D:=
(c 76 [a0]).bind λr1=>
 qN r1 λa=>
 if a then((c 125 []).bind λb=>
 some b) else(qG a0 [1] λf=>
(D.un .not f).bind λg=>
(c 77 [a0]).bind λd=>
(c 81 [g,d]).bind λe=>
 some e)
def Zr{lp}(a:ak lp):af 86 (m1 (PP lp)):=a7 0 Tryz.f125 Yl a
def Ym:Ann:=(.tl (.tl (.tl (.tl (.tl (.two (.reg [] 9) (.cut [(.normal,⟨[(2,.sp aP 4098),(3,.sp aP 4099),(4,.sp aP 4100),(9,.dv K5)],[(4098,.keep aP 2),(4099,.keep aP 3),(4100,.keep aP 4)],[]⟩)] [] [4098,4099,4100] .leaf .leaf)))))))
def MW(lp:Lp)(c:Ca)(a0:D)(a1:D):Option D:=
(c 124 [a0]).bind λr1=>
(D.tupAt r1 0).bind λN=>
(D.tupAt r1 1).bind λO=>
(c 124 [a1]).bind λI=>
(D.tupAt I 0).bind λJ=>
(D.tupAt I 1).bind λP=>
 qT O λK=>
(if K then(D.truth P) else(some false)).bind λL=>
 qT (D.bool L) λM=>
(if M then(D.truth (D.bool (!(D.beq J (Jn 0))))) else(some false)).bind λd=>
 qT (D.bool d) λe=>
 if e then((c 144 [N,J]).bind λp=>
(c 34 [p]).bind λq=>
 some q) else((c 76 [a0]).bind λr=>
 qN r λf=>
(if f then(some true) else((c 76 [a1]).bind λs=>
(D.un .not s).bind λA=>
 D.truth A)).bind λg=>
 qT (D.bool g) λh=>
(if h then(some true) else((c 77 [a1]).bind λt=>
 qS t λn=>
 D.truth (D.bool (D.beq (Jn (n.length)) (Jn 0))))).bind λi=>
 qT (D.bool i) λj=>
 if j then((c 125 []).bind λu=>
 some u) else((c 77 [a0]).bind λv=>
(c 77 [a1]).bind λw=>
(c 143 [v,w]).bind λa=>
(D.tupAt a 0).bind λb=>
(D.tupAt a 1).bind λB=>
(qG a0 [1] λC=>
 qG a1 [1] λE=>
 qT (D.bool (!(D.beq C E))) λk=>
(if k then(qS B λo=>
 qB .gtr (Jn (o.length)) (Jn 0) λF=>
 D.truth F) else(some false)).bind λl=>
 qT (D.bool l) λm=>
 if m then((c 82 [b,(D.sl [(Jn 1)])]).bind λx=>
 some (0,[x])) else(some (0,[b]))).bind λ(y:Nat×List D)=>
 qG a0 [1] λG=>
 qG a1 [1] λH=>
(c 81 [(D.bool (!(D.beq G H))),(gx y.2 0)]).bind λz=>
 some z))
def Zs{lp}(a:ak lp):af 87 (m2 (MW lp)):=aB 0 Tryz.f87 Ym a
def NF(lp:Lp)(c:Ca)(a0:D):Option D:=
 qG a0 [0] λo=>
(c 76 [o]).bind λm=>
 qN m λj=>
(if j then(some true) else(qG a0 [1] λp=>
(c 76 [p]).bind λn=>
(D.un .not n).bind λq=>
 D.truth q)).bind λk=>
 qT (D.bool k) λl=>
 if l then(some (D.bool false)) else(qG a0 [1] λg=>
(c 83 [g]).bind λd=>
 qC .gtr d (Jn 0) λa=>
(if a then(qG a0 [0] λh=>
 qG a0 [1] λi=>
(c 85 [h,i]).bind λe=>
(c 133 []).bind λf=>
 D.truth (D.bool (D.beq e f))) else(some false)).bind λb=>
 some (D.bool b))
def Zt{lp}(a:ak lp):af 88 (m1 (NF lp)):=a7 0 Tryz.f81 .leaf a
def Yn:Ann:=(.tl (.tl (.tl (.tl (.tl (.two (.reg [] 11) .leaf))))))
def MX(lp:Lp)(c:Ca)(a0:D)(a1:D):Option D:=
(c 124 [a0]).bind λr1=>
(D.tupAt r1 0).bind λx=>
(D.tupAt r1 1).bind λC=>
(c 124 [a1]).bind λw=>
(D.tupAt w 0).bind λy=>
(D.tupAt w 1).bind λE=>
 qT C λz=>
(if z then(D.truth E) else(some false)).bind λA=>
 qT (D.bool A) λB=>
(if B then((c 145 [x]).bind λi=>
 D.truth i) else(some false)).bind λa=>
 qT (D.bool a) λb=>
(if b then((c 145 [y]).bind λj=>
 D.truth j) else(some false)).bind λd=>
 qT (D.bool d) λe=>
 if e then(qB .mul x y λs=>
(c 34 [s]).bind λk=>
 some k) else((c 76 [a0]).bind λl=>
 qN l λf=>
(if f then(some true) else((c 76 [a1]).bind λm=>
(D.un .not m).bind λt=>
 D.truth t)).bind λg=>
 qT (D.bool g) λh=>
 if h then((c 125 []).bind λn=>
 some n) else(qG a0 [1] λu=>
 qG a1 [1] λv=>
(c 77 [a0]).bind λo=>
(c 77 [a1]).bind λp=>
(c 146 [o,p]).bind λq=>
(c 81 [(D.bool (!(D.beq u v))),q]).bind λr=>
 some r))
def Zu{lp}(a:ak lp):af 89 (m2 (MX lp)):=aB 0 Tryz.f90 Yn a
def Yo:Ann:=(.tl (.two (.reg [] 7) .leaf))
def PQ(lp:Lp)(c:Ca)(a0:D)(a1:D):Option D:=
(c 118 [(D.sl [a0])]).bind λr1=>
(c 118 [(D.sl [a1])]).bind λp=>
 qN r1 λq=>
(if q then((D.un .not p).bind λu=>
 D.truth u) else(some false)).bind λr=>
 qT (D.bool r) λs=>
 if s then(some (Jn 0)) else(qN r1 λt=>
 if t then(some (Jn (-1))) else(qN p λa=>
 if a then(some (Jn 1)) else(qG a0 [1] λh=>
 qG a1 [1] λi=>
 qT (D.bool (!(D.beq h i))) λb=>
 if b then(qG a0 [1] λj=>
 qT j λd=>
 if d then(some (Jn (-1))) else(some (Jn 1))) else(qG a0 [1] λk=>
 qT k λe=>
 if e then(qG a1 [2] λl=>
 qG a0 [2] λm=>
(c 121 [l,m]).bind λf=>
 some f) else(qG a0 [2] λn=>
 qG a1 [2] λo=>
(c 121 [n,o]).bind λg=>
 some g)))))
def Zv{lp}(a:ak lp):af 90 (m2 (PQ lp)):=aB 0 Tryz.f116 Yo a
def Yp:Ann:=(.tl (.two (.reg [] 5) .leaf))
def PR(lp:Lp)(c:Ca)(a0:D)(a1:D):Option D:=
(c 148 [a0]).bind λr1=>
(c 148 [a1]).bind λa=>
(c 147 [r1,a]).bind λb=>
 some b
def Zw{lp}(a:ak lp):af 91 (m2 (PR lp)):=aB 0 Tryz.f44 Yp a
def Yq:Ann:=(.tl (.two (.reg [] 8) (.cut [(.normal,⟨[(3,.sp K1 4099),(6,.sp dq 4102),(7,.sp K1 8199)],[(4099,.keep K1 3),(4102,.keep dq 6),(8199,.one K1 (.dv K1))],[]⟩)] [] [4099,4102] (.two (.reg [] 8) (.tl (.two (.reg [] 13) .leaf))) (.two (.reg [] 5) .leaf))))
def PS(lp:Lp)(c:Ca)(a0:D)(a1:D)(a2:D):Option D:=
(c 103 [a1,a0]).bind λr1=>
(c 103 [a2,a0]).bind λm=>
(c 117 [r1,m]).bind λa=>
(qG a [0] λo=>
 qG a [1] λp=>
(c 152 [o,p]).bind λn=>
 qG a [2] λq=>
(c 152 [n,q]).bind λd=>
 qC .gtr d (Jn 1) λe=>
 if e then(qG a [0] λg=>
 qB .quo g d λh=>
 qG a [1] λi=>
 qB .quo i d λj=>
 qG a [2] λk=>
 qB .quo k d λl=>
 some (0,[(D.st [h,j,l])])) else(some (0,[a]))).bind λ(b:Nat×List D)=>
(c 101 [(gx b.2 0),a0]).bind λf=>
 some (D.st [(gx b.2 0),f])
def Zx{lp}(a:ak lp):af 96 (m3 (PS lp)):=nq 0 Tryz.f175 Yq a
def PT(lp:Lp)(c:Ca)(a0:D):Option D:=
 qG a0 [0] λa=>
(D.un .neg a).bind λb=>
 qG a0 [1] λd=>
(D.un .neg d).bind λe=>
 qG a0 [2] λf=>
(D.un .neg f).bind λg=>
 some (D.st [b,e,g])
def Zy{lp}(a:ak lp):af 97 (m1 (PT lp)):=a7 0 Tryz.f58 .leaf a
def Yr:Ann:=(.tl (.tl (.two (.tl (.two (.loop ⟨[(3,.sp dq 4099),(5,.dv Ty.bool),(11,.di)],[(4099,.keep dq 3)],[9,10]⟩ [(.ret,⟨[(4,.dv Ty.bool)],[],[]⟩),(.exit 0,⟨[(5,.dv Ty.bool)],[],[]⟩)] .leaf) .leaf)) .leaf)))
def PU(lp:Lp)(c:Ca)(a0:D)(a1:D):Option D:=
 qS a0 λl=>
(qZ lp (λv2=>
 qC .lss (gx v2 1) (Jn (l.length)) λk=>
 if k then(qX a0 (gx v2 1) λm=>
 qG a1 [0] λn=>
(c 101 [n,m]).bind λj=>
 qG a1 [1] λf=>
 qC .gtr j f λb=>
 if b then(iR (0,[(D.bool false)])) else(qT (gx v2 0) λd=>
(if d then(qG a1 [1] λg=>
 D.truth (D.bool (D.beq j g))) else(some false)).bind λe=>
 qB .add (gx v2 1) (Jn 1) λh=>
 iL [(D.bool e),h])) else(iR (1,[(gx v2 0)]))) [(D.bool true),(Jn 0)]).bind λa=>
 if a.1=0 then(some (gx a.2 0)) else((D.un .not (gx a.2 0)).bind λi=>
 some i)
def Zz{lp}(a:ak lp):af 98 (m2 (PU lp)):=aB 0 Tryz.f176 Yr a
def P8:Ann:=(.tl (.two (.reg [] 23) .leaf))
def Ht(lp:Lp)(c:Ca)(a0:D)(a1:D):Option D:=
 qG a0 [0,0] λf=>
 qG a1 [0,0] λg=>
(c 53 [f,g]).bind λb=>
 qG a0 [0,1] λh=>
 qG a1 [0,1] λi=>
(c 53 [h,i]).bind λd=>
 qG a0 [0,2] λj=>
 qG a1 [0,2] λk=>
(c 53 [j,k]).bind λe=>
(c 52 [(D.sl [b,d,e])]).bind λa=>
 some a
def RK{lp}(a:ak lp):af 100 (m2 (Ht lp)):=aB 0 Tryz.f178 P8 a
def EQ(lp:Lp)(c:Ca)(a0:D)(a1:D):Option D:=
 qG a0 [0] λd=>
 qG a1 [0] λe=>
 qB .mul d e λf=>
 qG a0 [1] λg=>
 qG a1 [1] λh=>
 qB .mul g h λi=>
 qB .add f i λj=>
 qG a0 [2] λk=>
 qG a1 [2] λl=>
 qB .mul k l λa=>
 qB .add j a λb=>
 some b
def RL{lp}(a:ak lp):af 101 (m2 (EQ lp)):=aB 0 Tryz.f181 .leaf a
def P9:Ann:=(.tl (.two (.reg [] 4) .leaf))
def Hu(lp:Lp)(c:Ca)(a0:D)(a1:D):Option D:=
(c 97 [a1]).bind λr1=>
(c 154 [a0,r1]).bind λa=>
 some a
def RM{lp}(a:ak lp):af 103 (m2 (Hu lp)):=aB 0 Tryz.f161 P9 a
def Qa:Ann:=(.tl (.tl (.two (.tl (.two (.loop ⟨[(7,.sp K1 8199),(14,.di)],[(8199,.keep K1 7)],[13]⟩ [(.ret,⟨[(6,.di)],[],[]⟩),(.exit 0,⟨[],[],[]⟩)] .leaf) .leaf)) .leaf)))
def Hv(lp:Lp)(c:Ca)(a0:D)(a1:D)(a2:D):Option D:=
(c 117 [a1,a2]).bind λr1=>
(qZ lp (λv2=>
 qC .lss (gx v2 0) (Jn 3) λh=>
 if h then((D.idx (gx v2 0) 3).bind λi5=>
(D.fld a0 i5).bind λg=>
 qT (D.bool (!(D.beq g (Jn 0)))) λi=>
 if i then(qJ (gx v2 0) 3 r1 λj=>
(c 53 [j,(Jn 0)]).bind λb=>
(c 53 [g,(Jn 0)]).bind λd=>
 qB .mul b d λe=>
 iR (0,[e])) else(qB .add (gx v2 0) (Jn 1) λf=>
 iL [f])) else(iR (1,[]))) [(Jn 0)]).bind λa=>
 if a.1=0 then(some (gx a.2 0)) else(some (Jn 0))
def RN{lp}(a:ak lp):af 104 (m3 (Hv lp)):=nq 0 Tryz.f183 Qa a
def Hw(lp:Lp)(c:Ca)(a0:D)(a1:D):Option D:=
 qG a0 [0] λj=>
 qG a1 [0] λk=>
 qT (D.bool (!(D.beq j k))) λh=>
 if h then(qG a0 [0] λl=>
 qG a1 [0] λm=>
 qB .lss l m λn=>
 some n) else(qG a0 [1] λo=>
 qG a1 [1] λp=>
 qT (D.bool (!(D.beq o p))) λi=>
 if i then(qG a0 [1] λa=>
 qG a1 [1] λb=>
 qB .lss a b λd=>
 some d) else(qG a0 [2] λe=>
 qG a1 [2] λf=>
 qB .lss e f λg=>
 some g))
def RO{lp}(a:ak lp):af 105 (m2 (Hw lp)):=aB 0 Tryz.f216 .leaf a
def Qb:Ann:=(.tl (.two (.reg [] 8) .leaf))
def Hx(lp:Lp)(c:Ca)(a0:D)(a1:D)(a2:D):Option D:=
(c 112 [a1,a0]).bind λr1=>
(c 112 [a2,a0]).bind λa=>
(c 123 [r1,a]).bind λb=>
(c 80 [b]).bind λd=>
(c 155 [d]).bind λe=>
 qG e [0] λf=>
 some f
def RP{lp}(a:ak lp):af 106 (m3 (Hx lp)):=nq 0 Tryz.f184 Qb a
def Hy(lp:Lp)(c:Ca)(a0:D)(a1:D):Option D:=
 qG a0 [0] λd=>
 qG a1 [0] λe=>
 qB .mul d e λf=>
 qG a0 [1] λg=>
 qG a1 [1] λh=>
 qB .mul g h λi=>
 qB .add f i λj=>
 qG a0 [2] λk=>
 qG a1 [2] λl=>
 qB .mul k l λa=>
 qB .add j a λb=>
 some b
def RQ{lp}(a:ak lp):af 107 (m2 (Hy lp)):=aB 0 Tryz.f185 .leaf a
def Qc:Ann:=(.tl (.two (.tl (.two (.loop ⟨[(3,.sp K1 4099),(5,.di)],[(4099,.keep K1 3)],[0]⟩ [(.ret,⟨[(4,.dv Ty.bool)],[],[]⟩),(.exit 0,⟨[],[],[]⟩)] (.tl (.two (.two (.two (.reg [] 6) .leaf) .leaf) .leaf))) .leaf)) .leaf))
def Hz(lp:Lp)(c:Ca)(a0:D)(a1:D):Option D:=
(qZ lp (λv1=>
 qL a0 (gx v1 0) λd=>
 if d then(qX a0 (gx v1 0) λf=>
(D.fld f 0).bind λg=>
 qT (D.bool (D.beq g a1)) λe=>
 if e then(iR (0,[(D.bool true)])) else(qB .add (gx v1 0) (Jn 1) λb=>
 iL [b])) else(iR (1,[]))) [(Jn 0)]).bind λa=>
 if a.1=0 then(some (gx a.2 0)) else(some (D.bool false))
def RR{lp}(a:ak lp):af 108 (m2 (Hz lp)):=aB 0 Tryz.f186 Qc a
def Qd:Ann:=(.tl (.tl (.two (.tl (.two (.loop ⟨[(4,.sp K1 4100),(7,.dv Ty.bool),(8,.di)],[(4100,.keep K1 4)],[0,2]⟩ [(.ret,⟨[(6,.dv Ty.bool)],[],[]⟩),(.exit 0,⟨[(7,.dv Ty.bool)],[],[]⟩)] (.tl (.two (.two (.two (.reg [] 6) .leaf) .leaf) .leaf))) .leaf)) .leaf)))
def HA(lp:Lp)(c:Ca)(a0:D)(a1:D)(a2:D):Option D:=
(qZ lp (λv1=>
 qL a0 (gx v1 1) λi=>
 if i then(qX a0 (gx v1 1) λj=>
(c 107 [a1,j]).bind λh=>
 qC .gtr h a2 λb=>
 if b then(iR (0,[(D.bool false)])) else(qT (gx v1 0) λd=>
(if d then(some true) else(qB .lss h a2 λf=>
 D.truth f)).bind λe=>
 qB .add (gx v1 1) (Jn 1) λg=>
 iL [(D.bool e),g])) else(iR (1,[(gx v1 0)]))) [(D.bool false),(Jn 0)]).bind λa=>
 if a.1=0 then(some (gx a.2 0)) else(some (gx a.2 0))
def RS{lp}(a:ak lp):af 109 (m3 (HA lp)):=nq 0 Tryz.f187 Qd a
end Sy
end
end
end Go.Proofs.YtphlmegkommlnaaGreatDoor
