/- Part 6 of the proof that For every valid body with few parts -/
import Derived.Test.YtpahompifldeeaaGreatQuads01
import Derived.Test.YtpahompifldeeaaGreatQuads02
import Derived.Test.YtpahompifldeeaaGreatQuads05
import Derived.Shelf.SlSortCmp.InsertionK
import Derived.ProofKit
import Derived.Carry
import Derived.Test.YtpahompifldeeaaGreatProg
import Derived.KernelRfl
set_option linter.unusedVariables false
set_option linter.unusedSimpArgs false
set_option linter.unnecessarySimpa false
set_option linter.defProp false
set_option maxRecDepth 20000
namespace Go.Proofs.YtpahompifldeeaaGreat
noncomputable section
namespace Sy
open Go Go.Proofs Go.Sort Go.Lib
def wq(E:Env)(g:Nat)(x y:D):Option Int:=(E.call g [x,y]).bind λr=>match r with|.int .i64 n=>some n|_=>none
def qF(E:Env)(g:Nat)(x y:D):Bool:=match wq E g x y with|some n=>decide (n<0)|none=>false
def Gy(E:Env)(g:Nat)(x y:D):Bool:=match wq E g x y with|some n=>decide (0<=n)|none=>false
def Aq(lt:D->D->Bool)(x:D):List D->List D
 | []=>[x]
 | y::l=>if lt x y then x::y::l else y::Aq lt x l
def lh(lt:D->D->Bool):List D->List D
 | []=>[]
 | x::l=>Aq lt x (lh lt l)
def ul(E:Env)(g:Nat):List D->Bool
 | []=>true
 | x::l=>Gy E g x x&&l.all (λy=>qF E g x y&&Gy E g y x)&&ul E g l
def kj(E:Env)(g:Nat)(l:List D):Option (List D):=if ul E g (lh (qF E g) l) then some (lh (qF E g) l) else none
theorem pO(lt:D->D->Bool)(x:D):∀ l:List D,(Aq lt x l).Perm (x::l)
 | []=>.refl _
 | y::l=>by
  simp only[Aq];split
  ·exact .refl _
  ·exact((pO lt x l).cons y).trans (.swap x y l)
theorem gD(lt:D->D->Bool):∀ l:List D,(lh lt l).Perm l
 | []=>.refl _
 | x::l=>(pO lt x _).trans ((gD lt l).cons x)
section
variable{E:Env}{g:Nat}
theorem jU:∀ {l:List D},ul E g l=true->l.Pairwise (λx y=>qF E g x y=true/\Gy E g y x=true)/\∀ x∈l,Gy E g x x=true
 | [],_=>⟨.nil,by simp⟩
 | x::l,h=>by
  simp only[ul,zaa,zpa] at h;obtain⟨⟨h1,h2⟩,h3⟩:=h;obtain⟨k1,k2⟩:=jU h3;exact⟨zQa.2 ⟨h2,k1⟩,λy hy=>by
   rcases zCa.1 hy with rfl|hy
   ·exact h1
   ·exact k2 y hy⟩
def EX{x y:D}(h:Gy E g x y=true):qF E g x y=false:=by
 unfold Gy at h;unfold qF;split at h
 ·rename_i n hn;simp only[decide_eq_true_eq] at h;simp only[decide_eq_false_iff_not];omega
 ·cases h
def Ln{x y:D}(h:qF E g x y=true\/Gy E g x y=true):∃ n,wq E g x y=some n:=by
 rcases h with h|h
 ·unfold qF at h;split at h
  ·exact⟨_,by assumption⟩
  ·cases h
 ·unfold Gy at h;split at h
  ·exact⟨_,by assumption⟩
  ·cases h
variable{l:List D}(hc:ul E g l=true)
include hc
def eQ{i j:Nat}{x y:D}(hi:l[i]?=some x)(hj:l[j]?=some y):(qF E g x y=true↔i<j)/\∃ n,wq E g x y=some n:=by
 obtain⟨h1,h2⟩:=jU hc;obtain⟨hi',rfl⟩:=zla.1 hi;obtain⟨hj',rfl⟩:=zla.1 hj;rcases zpd i j with k|k|k
 ·have:=zrb.1 h1 i j hi' hj' k;exact⟨⟨λ_=>k,λ_=>this.1⟩,Ln (.inl this.1)⟩
 ·subst k;have:=h2 _ (zra hi');exact⟨⟨λh=>(by rw[EX this] at h;cases h),λh=>absurd h (Nat.lt_irrefl _)⟩,Ln (.inr this)⟩
 ·have:=zrb.1 h1 j i hj' hi' k;exact⟨⟨λh=>(by rw[EX this.2] at h;cases h),λh=>by omega⟩,Ln (.inr this.2)⟩
def uN:l.Nodup:=by
 obtain⟨h1,h2⟩:=jU hc;refine h1.imp λ{x y} h e=>?_;subst e;rw[EX h.2] at h;cases h.1
def D3(E:Env)(g:Nat)(l:List D)(x y:{d:D // d∈l}):Int:=(wq E g x.1 y.1).getD 0
omit hc in
def yS{x y:{d:D // d∈l}}:ltOf (D3 E g l) x y=qF E g x.1 y.1:=by
 unfold ltOf D3 qF;cases wq E g x.1 y.1<;>simp
def Js:SWO (ltOf (D3 E g l)):=by
 have ix:∀ x:{d:D // d∈l},∃ i,l[i]?=some x.1:=λx=>by
  obtain⟨i,h1,h2⟩:=zTa x.2;exact⟨i,by rw[zca h1,h2]⟩
 have key:∀ (x y:{d:D // d∈l}) (i j:Nat),l[i]?=some x.1->l[j]?=some y.1->(ltOf (D3 E g l) x y=true↔i<j):=λx y i j hi hj=>by rw[yS];exact(eQ hc hi hj).1
 refine⟨λx=>?_,λx y z h1 h2=>?_,λx y z h1 h2=>?_⟩
 ·obtain⟨i,hi⟩:=ix x;cases h:ltOf (D3 E g l) x x with
  | false=>rfl
  | true=>exact absurd ((key x x i i hi hi).1 h) (Nat.lt_irrefl _)
 ·obtain⟨i,hi⟩:=ix x;obtain⟨j,hj⟩:=ix y;obtain⟨k,hk⟩:=ix z;have a:=(key x y i j hi hj).1 h1;have b:=(key y z j k hj hk).1 h2;exact(key x z i k hi hk).2 (by omega)
 ·obtain⟨i,hi⟩:=ix x;obtain⟨j,hj⟩:=ix y;obtain⟨k,hk⟩:=ix z;have a:¬ i<j:=λh=>by rw[(key x y i j hi hj).2 h] at h1;cases h1
  have b:¬ j<k:=λh=>by rw[(key y z j k hj hk).2 h] at h2;cases h2
  cases h:ltOf (D3 E g l) x z with
  | false=>rfl
  | true=>have:=(key x z i k hi hk).1 h;omega
def DO[Inhabited {d:D // d∈l}]{d d':Array {d:D // d∈l}}(hd:(d.toList.map (·.1)).Perm l)(hp:PermIn 0 d.size d d')(hs:SortedIn (ltOf (D3 E g l)) 0 d.size d'):d'.toList.map (·.1)=l:=by
 obtain⟨p1,_,p3⟩:=hp;have q:d'.toList.Perm d.toList:=by
  have e1:d'.extract 0 d.size=d':=by rw[<-p1];simp
  rw[e1] at p3;simpa using p3
 have qp:(d'.toList.map (·.1)).Perm l:=(q.map _).trans hd;have hlen:(d'.toList.map (·.1)).length=l.length:=qp.length_eq;have nd:=qp.symm.nodup (uN hc);have asc:(d'.toList.map (·.1)).Pairwise (λx y=>qF E g x y=true):=by
  rw[zrb];intro i j hi hj hij;simp only[zta,zIb] at hi hj;have h1:=hs i j (zia _) hij (by omega)
  rw[getElem!_pos d' j hj,getElem!_pos d' i hi,yS] at h1;simp only[List.getElem_map,zFd];obtain⟨a,ha1,ha2⟩:=zTa (d'[i]).2;obtain⟨b,hb1,hb2⟩:=zTa (d'[j]).2;have ea:l[a]?=some (d'[i]).1:=by rw[zca ha1,ha2]
  have eb:l[b]?=some (d'[j]).1:=by rw[zca hb1,hb2]
  have k1:¬ b<a:=λh=>by rw[(eQ hc eb ea).1.2 h] at h1;cases h1
  have k2:a≠b:=λe=>by
   subst e;have:(d'[i]).1=(d'[j]).1:=by rw[<-ha2,<-hb2]
   have:=zrb.1 nd i j (by simpa using hi) (by simpa using hj) hij
   simp only[List.getElem_map,zFd] at this;contradiction
  exact(eQ hc ea eb).1.2 (by omega)
 have key:∀ {a b:List D},a.Pairwise (λx y=>qF E g x y=true)->b.Pairwise (λx y=>qF E g x y=true)->a.Perm b->(∀ x∈a,x∈l)->a=b:=by
  intro a
  induction a with
  | nil=>intro b _ _ hp _;exact hp.symm.eq_nil.symm ▸ rfl
  | cons x a ih=>
   intro b ha hb hp hm;cases b with
   | nil=>exact absurd hp.eq_nil (by simp)
   | cons y b=>
    obtain⟨a1,a2⟩:=zQa.1 ha;obtain⟨b1,b2⟩:=zQa.1 hb;have e:x=y:=by
     rcases zCa.1 (hp.subset zka) with e|m1
     ·exact e
     ·rcases zCa.1 (hp.symm.subset (zka (a:=y))) with e|m2
      ·exact e.symm
      ·exfalso;have h1:=b1 x m1;have h2:=a1 y m2;obtain⟨i,hi1,hi2⟩:=zTa (hm x zka);obtain⟨j,hj1,hj2⟩:=zTa (hm y (zha _ m2));have ei:l[i]?=some x:=by rw[zca hi1,hi2]
       have ej:l[j]?=some y:=by rw[zca hj1,hj2]
       have:=(eQ hc ei ej).1.1 h2;have:=(eQ hc ej ei).1.1 h1;omega
    subst e;rw[ih a2 b2 ((List.perm_cons x).1 hp) (λz hz=>hm z (zha _ hz))]
 exact key asc ((jU hc).1.imp λh=>h.1) qp λx hx=>qp.subset hx
end
end Sy
end
noncomputable section
namespace Sy
open Go Go.Proofs Go.Sort Go.Lib
def qE:D->Bool
 | .int ..=>true
 | .bool _=>true
 | _=>false
def fK:D->Value
 | .int k n=>.int k n
 | .bool b=>.bool b
 | _=>undef
mutual
theorem j6:∀ (t:Ty) (x:D),bL t=true->wt t x->∀ d∈x.flat,qE d=true
 | .int k,x,_,h=>by simp only[wt] at h;obtain⟨n,rfl⟩:=h;intro d hd;simp only[D.flat,zIa] at hd;subst hd;rfl
 | .bool,x,_,h=>by simp only[wt] at h;obtain⟨n,rfl⟩:=h;intro d hd;simp only[D.flat,zIa] at hd;subst hd;rfl
 | .str,x,hc,h=>by simp[bL] at hc
 | .st ts,x,hc,h=>by
  simp only[wt] at h;obtain⟨l,rfl,hl⟩:=h;simp only[bL] at hc;simp only[D.flat];exact tf ts l hc hl
 | .arr n t,x,hc,h=>by
  simp only[wt] at h;obtain⟨l,rfl,hn,hl⟩:=h;clear hn;simp only[bL] at hc;simp only[D.flat]
  induction l with
  | nil=>intro d hd;simp[D.flats] at hd
  | cons y l ih=>
   intro d hd;simp only[D.flats,zDa] at hd;rcases hd with hd|hd
   ·exact j6 t y hc (hl y zka) d hd
   ·exact ih (λz hz=>hl z (zha _ hz)) d hd
 | .sl t,x,hc,h=>by simp[bL] at hc
 | .tup l,x,hc,h=>by simp[bL] at hc
 | .fn,x,hc,h=>by simp[bL] at hc
theorem tf:∀ (ts:List Ty) (l:List D),lC ts=true->fq ts l->∀ d∈D.flats l,qE d=true
 | [],l,_,h=>by simp only[fq] at h;subst h;intro d hd;simp[D.flats] at hd
 | t::ts,l,hc,h=>by
  simp only[fq] at h;obtain⟨y,l',rfl,h1,h2⟩:=h;simp only[lC,zaa] at hc;intro d hd;simp only[D.flats,zDa] at hd;rcases hd with hd|hd
  ·exact j6 t y hc.1 h1 d hd
  ·exact tf ts l' hc.2 h2 d hd
end
def Bi{w:World}{S:Nat->Nat->Prop}{d:D}{c:Value}(hl:qE d=true):CR w S d c↔c=fK d:=by
 cases d<;>simp only[qE] at hl<;>first|(cases hl;done)|skip
 ·exact⟨λh=>h.int_inv,λh=>by subst h;exact .int _ _⟩
 ·exact⟨λh=>h.bool_inv,λh=>by subst h;exact .bool _⟩
def fO{w:World}{S:Nat->Nat->Prop}{ds:List D}{cs:List Value}(hl:∀ d∈ds,qE d=true):cS w S ds cs↔cs=ds.map fK:=by
 constructor
 ·rintro⟨h1,h2⟩;apply zcc;intro i;rw[zcb];rcases zna i ds.length with k|k
  ·have a:=zca k;have b:cs[i]?=some cs[i]:=zca (h1 ▸ k);rw[a,b];simp only[zFb,zda];exact(Bi (hl _ (zra k))).1 (h2 i _ _ a b)
  ·rw[z3a k,z3a (by omega)];rfl
 ·rintro rfl;refine⟨by simp,λi d c hd hc=>?_⟩
  rw[zcb,hd] at hc;simp only[zFb,zda] at hc;exact(Bi (hl d (z8a hd))).2 hc.symm
theorem uX{k:Nat}(hk:0<k):∀ (l:List D),(∀ x∈l,x.flat.length=k)->∀ t,(D.flats l)[t]?=(l[t/k]?).bind λx=>x.flat[t%k]?
 | [],_,t=>by simp[D.flats]
 | x::l,h,t=>by
  have hx:=h x zka;simp only[D.flats];rcases zna t k with c|c
  ·rw[zfb (by omega),z0a c,zFa c];rfl
  ·rw[zyb (by omega),hx,uX hk l (λy hy=>h y (zha _ hy)) (t-k)]
   have e1:t/k=(t-k)/k+1:=by rw[Nat.div_eq_sub_div hk c]
   have e2:t%k=(t-k)%k:=Nat.mod_eq_sub_mod c;rw[e1,e2];rfl
structure SortOk(P:Program)(f:Nat)(e:Ty):Prop where
 cmp:bL e=true
 agg:cM e=true
 pos:0<e.size
 nt:au e=true
 fn : ∃ fn, P.funcs[f]? = some fn /\ (fn.name == "runtime.NumGoroutine") = false /\ fn.body.isSome = true
 empty:∀ (p:Option Addr) (cap:Nat) (fv:Value) (w:World),Calls P f #[.slice p 0 cap,fv] w λen w'=>en=.returned (.tuple #[])/\w'=w
 whole:∀ (α:Type) [Inhabited α] (enc:α->List Value) (_:∀ x,(enc x).length=e.size) (_:∀ x,∀ v∈enc x,v.oneCell'=true) (cf:α->α->Int) (_:SWO (ltOf cf)) (g:Nat) (blk off cap:Nat) (d:Array α) (w:World)
  (_:∀ args w,(callFunc g args).run P w=.ok (.enter g args) w) (_:CmpLays P g #[] enc e.size cf blk off d.size w) (_:HoldsK enc e.size w blk off d) (_:blk<w.heap.size) (_:d.size<4611686018427387904),
  Calls P f #[.slice (some ⟨blk,off,none⟩) d.size cap,.func (.func g) #[] #[]] w λen w'=>en=.returned (.tuple #[])/\∃ d' n os,PermIn 0 d.size d d'/\SortedIn (ltOf cf) 0 d.size d'/\w'=sortWorldK enc e.size w blk off n d' os
section
variable{P:Program}{E:Env}
def Ag(hE:EnvOk P E){g:Nat}{ptys:List Ty}{rty:Ty}(h:E.sig g=some (ptys,rty))(args:Array Value)(w:World):(callFunc g args).run P w=.ok (.enter g args) w:=by
 obtain⟨_,_,fn,f1,f2,f3⟩:=hE.sig g ptys rty h;have f2' : ¬ fn.name = "runtime.NumGoroutine" := by simpa using f2
 have hb':¬ fn.body=none:=by intro hh;rw[hh] at f3;cases f3
 simp[callFunc,f1,f2',hb']
def DM(hE:EnvOk P E){f:Nat}{e:Ty}(hf:SortOk P f e){g:Nat}(hsig:E.sig g=some ([e,e],.int .i64)/\E.free g=0){l l':List D}(hwt:∀ x∈l,wt e x)(hs:kj E g l=some l')(hne:l≠[]){w:World}{b off cap:Nat}{row:Array Value}
  (hr:bN w b=some row) (hc:∀ (i:Nat) (d:D),(D.flats l)[i]?=some d->w.cell? ⟨b,off+i,none⟩=some (fK d)) (hlen:l.length<4611686018427387904) :
  Calls P f #[.slice (some ⟨b,off,none⟩) l.length cap,.func (.func g) #[] #[]] w λen w'=>en=.returned (.tuple #[])/\l'.Perm l/\w.drawn<=w'.drawn/\w'.tape=w.tape/\w'.os=w.os/\w'.output=w.output/\w.heap.size<=w'.heap.size ∧
   (∀ b',b'≠b->b'<w.heap.size->w'.heap[b']?=w.heap[b']?)/\∀ (i:Nat) (d:D),(D.flats l')[i]?=some d->w'.cell? ⟨b,off+i,none⟩=some (fK d):=by
 have hsd:ul E g l'=true/\l'=lh (qF E g) l:=by
  unfold kj at hs;split at hs
  ·rename_i h;cases hs;exact⟨h,rfl⟩
  ·cases hs
 obtain⟨hchk,hl'⟩:=hsd;have hperm:l'.Perm l:=hl' ▸ gD _ l;have hmem:∀ x∈l,x∈l':=λx hx=>hperm.symm.subset hx;have hwt':∀ x∈l',wt e x:=λx hx=>hwt x (hperm.subset hx);obtain⟨x0,hx0⟩:∃ x0,x0∈l':=by
  cases l with
  | nil=>exact absurd rfl hne
  | cons x l=>exact⟨x,hmem x zka⟩
 have hinh:Inhabited {d:D // d∈l'}:=⟨⟨x0,hx0⟩⟩;have hfl:∀ x:{d:D // d∈l'},x.1.flat.length=e.size:=λx=>cq e x.1 (hwt' x.1 x.2) hf.nt;have hleaf:∀ x:{d:D // d∈l'},∀ d∈x.1.flat,qE d=true:=λx=>j6 e x.1 hf.cmp (hwt' x.1 x.2);obtain⟨d,hd⟩:∃ d:Array {d:D // d∈l'},d.toList.map (·.1)=l:=⟨(l.pmap Subtype.mk hmem).toArray,by simp[List.map_pmap]⟩
 have hds:d.size=l.length:=by rw[<-hd];simp
 have hbs:b<w.heap.size:=by
  unfold bN at hr;cases hb:w.heap[b]? with
  | none=>rw[hb] at hr;cases hr
  | some o=>exact(zfa.1 hb).1
 have hfro:∀ o,w.frozen? ⟨b,o,none⟩=false:=λo=>by
  unfold bN at hr;split at hr
  ·rename_i c t hb;unfold World.frozen?;simp[hb]
  ·cases hr
 have at_:∀ (dd:Array {d:D // d∈l'}) (t:Nat),t<dd.size*e.size->(D.flats (dd.toList.map (·.1)))[t]?.map fK=some ((flatK (λx:{d:D // d∈l'}=>x.1.flat.map fK) e.size dd)[t]!):=λdd t ht=>by
  rw[get_flatK _ _ _ _ ht,uX hf.pos _ (λx hx=>by
   obtain⟨y,_,rfl⟩:=z5a.1 hx;exact hfl y)]
  have h1:t/e.size<dd.size:=(zVa hf.pos).2 ht;have h2:t%e.size<e.size:=zUa _ hf.pos;rw[zcb,zya,zlb h1,getElem!_pos dd _ h1];simp only[zFb,zba];have h3:t%e.size<(dd[t/e.size]).1.flat.length:=by rw[hfl];exact h2
  rw[zca h3,getElem!_pos _ _ (by simpa using h3)]
  simp
 have hH:HoldsK (λx:{d:D // d∈l'}=>x.1.flat.map fK) e.size w b off d:=by
  intro j hj;rw[size_flatK] at hj;refine⟨?_,hfro _⟩;have:=at_ d j hj;rw[hd] at this;cases hq:(D.flats l)[j]? with
  | none=>rw[hq] at this;cases this
  | some q=>
   rw[hq] at this;simp only[zFb,zda] at this;rw[hc j q hq,this];rfl
 have hcmp:CmpLays P g #[] (λx:{d:D // d∈l'}=>x.1.flat.map fK) e.size (D3 E g l') b off d.size w:=by
  intro m os dk _ x y;obtain⟨i,hi1,hi2⟩:=zTa x.2;obtain⟨j,hj1,hj2⟩:=zTa y.2;obtain⟨_,n,hn⟩:=eQ hchk (i:=i) (j:=j) (x:=x.1) (y:=y.1) (by rw[zca hi1,hi2]) (by rw[zca hj1,hj2])
  have hcall:E.call g [x.1,y.1]=some (.int .i64 n):=by
   unfold wq at hn;obtain⟨r,h1,h2⟩:=bind_some_inv hn;rw[h1];split at h2
   ·cases h2;rfl
   ·cases h2
  have hcf:D3 E g l' x y=n:=by simp[D3,hn]
  rw[hcf];have shpa:∀ z:{d:D // d∈l'},∀ (w:World) (S:Nat->Nat->Prop),gj w S z.1 (.agg (z.1.flat.map fK).toArray):=λz w S=>by
   refine⟨?_,?_⟩
   ·have hz:=hwt' z.1 z.2;have ha:=hf.agg;cases e<;>simp only[cM] at ha<;>first|(cases ha;done)|skip
    ·simp only[wt] at hz;obtain⟨ll,h1,_⟩:=hz;rw[h1];exact⟨_,rfl⟩
    ·simp only[wt] at hz;obtain⟨ll,h1,_⟩:=hz;rw[h1];exact⟨_,rfl⟩
   ·exact(fO (hleaf z)).2 (by simp[Value.cells])
  have hw2:fq [e,e] [x.1,y.1]:=⟨x.1,[y.1],rfl,hwt' _ x.2,⟨y.1,[],rfl,hwt' _ y.2,rfl⟩⟩;have hctr0:=hE.call g [e,e] (.int .i64) [x.1,y.1] (.int .i64 n) hsig.1 hcall hw2;rw[hsig.2] at hctr0;have hctr:=hctr0
   (sortWorldK (λx:{d:D // d∈l'}=>x.1.flat.map fK) e.size w b off m dk os) (λ_ _=>False) [.agg (x.1.flat.map fK).toArray,.agg (y.1.flat.map fK).toArray] (λ_ _ h=>h.elim) hw2 rfl
   (λi z v hz hv=>by
    cases i with
    | zero=>simp at hz hv;subst hz;subst hv;exact shpa x _ _
    | succ i=>cases i with
     | zero=>simp at hz hv;subst hz;subst hv;exact shpa y _ _
     | succ i=>simp at hz)
  refine hctr.mono ?_;rintro en w' ⟨v,rfl,⟨os',dr,hdr,rfl⟩,_,hv⟩;have hv':v=.int .i64 n:=by
   obtain⟨c1,c2⟩:=(hv:gj _ _ _ _);have:=(fO (by intro d hd;simp only[D.flat,zIa] at hd;subst hd;rfl)).1 c2
   exact az c1 (by simpa [D.flat,fK] using this)
  refine⟨by rw[hv'],dr-(sortWorldK (λx:{d:D // d∈l'}=>x.1.flat.map fK) e.size w b off m dk os).drawn,os'.toArray,?_⟩
  unfold grown grow World.drewN;simp only[show ∀ a b:Nat,a<=b->a+(b-a)=b from λa b h=>by omega,hdr]
 have hO:SWO (ltOf (D3 E g l')):=Js hchk;have key:=hf.whole {d:D // d∈l'} (λx=>x.1.flat.map fK) (λx=>by simp[hfl x]) (λx v hv=>by
   obtain⟨q,hq,rfl⟩:=z5a.1 hv;have:=hleaf x q hq;cases q<;>simp only[qE] at this<;>first|(cases this;done)|rfl) (D3 E g l') hO g b off cap d w (Ag hE hsig.1) hcmp hH hbs (by omega)
 rw[hds] at key;refine key.mono ?_;rintro en w' ⟨rfl,d',n,os,hp,hso,rfl⟩;rw[<-hds] at hp hso;have hd'l:d'.toList.map (·.1)=l':=DO hchk (d:=d) (by rw[hd];exact hperm.symm) hp hso
 have hd's:d'.size=d.size:=hp.1;have hH':=holdsK_sortWorldK_c (λx:{d:D // d∈l'}=>x.1.flat.map fK) e.size w b off d d' n os hH hbs hd's;refine⟨rfl,hperm,?_,rfl,rfl,rfl,?_,λb' hb hb'=>?_,λi q hq=>?_⟩
 ·show w.drawn<=w.drawn+n;omega
 ·simp only[sortWorldK,grow,putRowK,putRow,mapBlock,Go.Sort.ahead,Array.size_append,Array.size_modify];omega
 ·simp only[sortWorldK,grow,putRowK,putRow,mapBlock,Go.Sort.ahead];rw[Array.getElem?_append_left (by simpa using hb'),zad,if_neg (Ne.symm hb)]
 ·have hi:i<d'.size*e.size:=by
   have h1:=(zla.1 hq).1;rw[aL hf.nt l' hwt'] at h1;rw[hd's,hds,<-hperm.length_eq];exact h1
  have h2:=at_ d' i hi;rw[hd'l,hq] at h2;simp only[zFb,zda] at h2;have h3:=(hH' i (by rw[size_flatK];exact hi)).1
  rw[h3,<-h2];rfl
end
end Sy
end
noncomputable section
namespace Sy
open Go Go.ChangeShapes Go.WideShapes Go.ChangeAt Go.RowKit
def bool_of{W:World}{S:Nat->Nat->Prop}{b:Bool}{v:Value}(h:DR W S (.bool b) v):v=.bool b:=by
 obtain⟨h1,h2⟩:=(h:gj W S (.bool b) v);have h3:=(fO (by intro d hd;simp only[D.flat,zIa] at hd;subst hd;rfl)).1 h2
 exact az h1 (by simpa [D.flat,fK] using h3)
section
variable{H:Type}{enc:TypeId×Value->H}{P:Program}{W:World}
def Kl{ty:Ty}{T:TypeId}(hl:bH P ty T=true)(hp:oI ty=true){base:Nat}{v:Value}(hv:Value.okWide P W .any base T v){d0:DataW H}{p0:List MemPlace}{spare:Nat->Bool}{held:Bool}(h:DataW.Trod enc P W 0 spare held T v d0 p0) :
  ∃ d,wt ty d/\Fw d/\gj W (oX W) d v:=by
 obtain⟨fuel,hf⟩:=h;obtain⟨d,h1,h2,h3⟩:=rP (W:=W) ty T fuel _ _ hl hp hf;refine⟨d,h1,h2,?_,h3⟩;have na:∀ {u:TypeDesc},P.underlying T=some u->(match u with|.struct _=>False|.array _ _=>False|_=>True)->∀ cs,v≠.agg cs:=λ{u} hu hn cs e=>by
  subst e;simp only[Value.okWide,hu] at hv;cases u<;>simp only[Cell.okWide,Cell.ok,hu] at hv<;>first|exact hn|(cases hv;done)|exact hv
 cases ty with
 | int k=>obtain⟨n,rfl⟩:=h1;exact na (jt hl) trivial
 | bool=>obtain⟨b,rfl⟩:=h1;exact na (u:=.bool) (by simp only[bH,zaa] at hl;have h2:=hl.2;split at h2<;>first|assumption|cases h2) trivial
 | str=>obtain⟨s,rfl⟩:=h1;exact na (u:=.string) (by simp only[bH,zaa] at hl;have h2:=hl.2;split at h2<;>first|assumption|cases h2) trivial
 | st ts=>
  obtain⟨l,rfl,_⟩:=h1;obtain⟨fs,hu,_⟩:=iN hl;obtain⟨cs,h,_⟩:=okWide_struct hu hv;exact⟨cs,h⟩
 | arr n e=>
  obtain⟨l,rfl,_⟩:=h1;obtain⟨u,hu,_⟩:=ed hl;simp only[Value.okWide,hu] at hv;obtain⟨cs,h,_⟩:=hv;exact⟨cs,h⟩
 | sl e=>
  obtain⟨l,rfl,_⟩:=h1;obtain⟨u,hu,_⟩:=iM hl;exact na hu trivial
 | tup l=>simp[bH] at hl
 | fn=>simp[bH] at hl
def yP(P:Program):List Ty->List TypeId->Bool
 | [],[]=>true
 | ty::tys,T::Ts=>bH P ty T&&oI ty&&yP P tys Ts
 | _,_=>false
theorem Ii:∀ {tys:List Ty} {Ts:List TypeId},yP P tys Ts=true->∀ {vs:List Value} {ds:List (DataW H)} {ps:List MemPlace} {base:Nat} {spare:Nat->Bool} {held:Bool},DataW.TrodAll enc P W 0 spare held Ts vs ds ps ->
  (∀ (j:Nat) t v,Ts[j]?=some t->vs[j]?=some v->Value.okWide P W .any base t v)->∃ xs,fq tys xs/\xb xs/\vs.length=xs.length/\∀ (i:Nat) (x:D) (v:Value),xs[i]?=some x->vs[i]?=some v->gj W (oX W) x v
 | [],[],_,vs,ds,ps,base,spare,held,h,hv=>by
  obtain⟨rfl,rfl,rfl⟩:=trodAll_nil h;exact⟨[],rfl,trivial,rfl,by simp⟩
 | ty::tys,T::Ts,hl,vs,ds,ps,base,spare,held,h,hv=>by
  simp only[yP,zaa] at hl;obtain⟨v,vs',d,ds',p,q,rfl,rfl,rfl,h0,h1⟩:=trodAll_cons h;obtain⟨x,x1,x2,x3⟩:=Kl hl.1.1 hl.1.2 (hv 0 T v rfl rfl) h0;obtain⟨xs,y1,y2,y3,y4⟩:=Ii hl.2 h1 (λj t u a b=>hv (j+1) t u (by simpa using a) (by simpa using b))
  refine⟨x::xs,⟨x,xs,rfl,x1,y1⟩,⟨x2,y2⟩,by simp[y3],λi z u hz hu=>?_⟩
  cases i with
  | zero=>simp at hz hu;subst hz;subst hu;exact x3
  | succ i=>exact y4 i z u (by simpa using hz) (by simpa using hu)
 | [],_::_,h,_,_,_,_,_,_,_,_=>by simp[yP] at h
 | _::_,[],h,_,_,_,_,_,_,_,_=>by simp[yP] at h
theorem KL:∀ {Ts:List TypeId} {vs:List Value} {ds:List (DataW H)} {ps:List MemPlace} {base:Nat} {spare:Nat->Bool} {held:Bool},DataW.TrodAll enc P W base spare held Ts vs ds ps->ds.length=Ts.length
 | [],vs,ds,ps,_,_,_,h=>by obtain⟨rfl,rfl,rfl⟩:=trodAll_nil h;rfl
 | T::Ts,vs,ds,ps,_,_,_,h=>by
  obtain⟨v,vs',d,ds',p,q,rfl,rfl,rfl,h0,h1⟩:=trodAll_cons h;simp[KL h1]
theorem CD{W':World}(hl:laidOutB P=true):∀ {Ts:List TypeId},Ts.all (λt=>P.readableRec t&&decide (t<P.types.size))=true->∀ {vs:List Value} {ds:List (DataW H)} {ps:List MemPlace},
  DataW.TrodAll enc P W 0 (λ_=>true) true Ts vs ds ps->Below W.heap.size W W'->(∀ x∈ps,x.block<W.heap.size)->DataW.TrodAll enc P W' 0 (λb=>decide (b<W.heap.size)) true Ts vs ds ps
 | [],_,vs,ds,ps,h,_,_=>by
  obtain⟨rfl,rfl,rfl⟩:=trodAll_nil h;exact trodAll_mk0
 | T::Ts,ht,vs,ds,ps,h,hb,hlt=>by
  simp only[zKb,zaa,decide_eq_true_eq] at ht;obtain⟨v,vs',d,ds',p,q,rfl,rfl,rfl,h0,h1⟩:=trodAll_cons h;exact⟨p,q,Below.trod hl ht.1.1 ht.1.2 h0 hb (λx hx=>hlt x (by simp[hx])),CD hl ht.2 h1 hb (λx hx=>hlt x (by simp[hx])),rfl⟩
end
end Sy
end
noncomputable section
namespace Sy
open Go
variable{ro:Option Nat}{nn:Nat}
def Ab(s:St):List ResultVar->Option (Nat×List AV)
 | [.tmp i]=>match s.tm i with
  | .clo f l=>some (f,l)
  | _=>none
 | _=>none
def AH(s:St)(t:Ty):List ResultVar->Option (Nat×List D)
 | [.tmp i]=>match s.tm i with
  | .own t' v l=>if t'.beq t&&!(s.dead.contains v) then some (v,l) else none
  | _=>none
 | _=>none
def IS{R:Type}(E:Env)(s sc:St)(rs:List ResultVar)(K:AV->St->Option R):Ty->Option R
 | .fn=>(Ab sc rs).bind λq=>K (.clo q.1 q.2) (nV s sc)
 | .sl t=>match AH sc t rs with
  | some q=>K (.own t q.1 q.2) (nV s sc)
  | none=>(results E sc (.sl t) rs).bind λy=>K (.d (.sl t) y) (nV s sc)
 | rty=>(results E sc rty rs).bind λy=>K (.d rty y) (nV s sc)
def KZ(E:Env)(fn:Func)(rty:Ty)(ann:Ann)(R:Type)(s:St)(avs:List AV)(K:AV->St->Option R):Option R:=
 match fn.body with
 | none=>none
 | some c=>if avs.length<=fn.ntmps/\(du s).length<=4096 then ev E c ann R (IW s fn.ntmps avs) λe sc=>match e with
   | .exit _=>none
   | _=>IS E s sc fn.results.toList K rty
  else none
def AX(n:Nat)(rty:Ty):Bool:=match rty with|.fn=>decide (n=1)|rty=>iW n rty
section
variable{P:Program}{E:Env}{w0:Root}{S S':Nat->Nat->Prop}{γ γ':Nat->Option Nat}{β β' β'':Nat->Option (Nat×Nat)}{s sc:St}{a:Act}{w w':World}
def Kb{c:Cx}{rty:Ty}{n:Nat}{y:D}{v:Value}(hr:iW n rty=true)(hwt:wt rty y)(h:DR c.w c.S y v):AR c (.d rty y) v:=by
 simp only[AR];have key:au rty=true\/∃ ts,rty=.tup ts/\bh ts=true:=by
  unfold iW at hr;split at hr
  ·exact .inl hr
  ·split at hr
   ·exact .inr ⟨_,rfl,hr⟩
   ·cases hr
 rcases key with n2|⟨ts,rfl,n2⟩
 ·refine .inl ⟨n2,hwt,?_⟩;cases rty<;>simp only[wt] at hwt<;>first
   | (obtain⟨m,rfl⟩:=hwt;exact h)
   | (obtain⟨m,rfl,_⟩:=hwt;exact h)
   | (exact hwt.elim)
   | (simp[au] at n2)
 ·exact .inr ⟨ts,rfl,n2,hwt,h⟩
def CL(h:Rp w0 S γ β s a w){fn:Func}{q:Nat×List AV}(hq:Ab s fn.results.toList=some q):∃ v,(Go.results fn a.tmps).run P w=.ok v w/\AR ⟨w,S,γ,β,s.ob,s.dead⟩ (.clo q.1 q.2) v:=by
 rw[nG];have hm:fn.results.mapM (p9 a.tmps)=Functor.map List.toArray (fn.results.toList.mapM (p9 a.tmps)):=by
  rw[zod]
 rw[hm];generalize fn.results.toList=rs at *;unfold Ab at hq;split at hq<;>first|(cases hq;done)|skip
 rename_i i;split at hq<;>first|(cases hq;done)|skip
 rename_i f l htm;cases hq;have hi:i<a.tmps.size:=by
  rcases zna i a.tmps.size with hlt|hge
  ·exact hlt
  ·have:=h.tmu i (by rw[<-h.nt];exact hge)
   rw[htm] at this;cases this
 have:=h.tms i hi;rw[htm] at this;exact⟨a.tmps.getD i undef,by simp[zld,p9],this⟩
def Do(h:Rp w0 S γ β s a w){fn:Func}{t:Ty}{q:Nat×List D}(hq:AH s t fn.results.toList=some q):∃ v,(Go.results fn a.tmps).run P w=.ok v w/\AR ⟨w,S,γ,β,s.ob,s.dead⟩ (.own t q.1 q.2) v:=by
 rw[nG];have hm:fn.results.mapM (p9 a.tmps)=Functor.map List.toArray (fn.results.toList.mapM (p9 a.tmps)):=by
  rw[zod]
 rw[hm];generalize fn.results.toList=rs at *;unfold AH at hq;split at hq<;>first|(cases hq;done)|skip
 rename_i i;split at hq<;>first|(cases hq;done)|skip
 rename_i t' v l htm;split at hq<;>first|(cases hq;done)|skip
 rename_i hb;simp only[zaa] at hb;have:=Ty.eq_of_beq _ _ hb.1;subst this;cases hq;have hi:i<a.tmps.size:=by
  rcases zna i a.tmps.size with hlt|hge
  ·exact hlt
  ·have:=h.tmu i (by rw[<-h.nt];exact hge)
   rw[htm] at this;cases this
 have:=h.tms i hi;rw[htm] at this;exact⟨a.tmps.getD i undef,by simp[zld,p9],this⟩
def IT(hE:EnvOk P E){a':Act}(n1:Rp w0 S γ β sc a' w'){fn:Func}{rty:Ty}(hr:AX fn.results.size rty=true){R:Type}{K:AV->St->Option R}{r:R}(hq:IS E s sc fn.results.toList K rty=some r) :
  ∃ v x,(Go.results fn a'.tmps).run P w'=.ok v w'/\AR ⟨w',S,γ,β,sc.ob,sc.dead⟩ x v/\K x (nV s sc)=some r:=by
 have plain:iW fn.results.size rty=true->(results E sc rty fn.results.toList).bind (λy=>K (.d rty y) (nV s sc))=some r->∃ v x,(Go.results fn a'.tmps).run P w'=.ok v w'/\AR ⟨w',S,γ,β,sc.ob,sc.dead⟩ x v/\K x (nV s sc)=some r:=λhr hq=>by
  obtain⟨y,h1,h2⟩:=bind_some_inv hq;obtain⟨v,k1,k2,k3⟩:=kL hE n1 hr h1;exact⟨v,_,k1,Kb hr k2 k3,h2⟩
 cases rty
 case fn=>
  obtain⟨q,h1,h2⟩:=bind_some_inv hq;obtain⟨v,k1,k2⟩:=CL (P:=P) n1 h1;exact⟨v,_,k1,k2,h2⟩
 case sl t=>
  simp only[IS] at hq;split at hq
  ·rename_i q h1;obtain⟨v,k1,k2⟩:=Do (P:=P) n1 h1;exact⟨v,_,k1,k2,hq⟩
  ·exact plain hr hq
 all_goals exact plain hr hq
def IR(hE:EnvOk P E){f:FuncId}{fn:Func}{rty:Ty}(hf:P.funcs[f]?=some fn)(hr:AX fn.results.size rty=true):Ee P f (KZ E fn rty):=by
 intro ann R w0 S γ β s a w avs vs K r h hlen hAR hev;unfold KZ at hev;split at hev<;>first|(cases hev;done)|skip
 rename_i c hb;split at hev<;>first|(cases hev;done)|skip
 rename_i hcond;obtain⟨hnt,htk⟩:=hcond;obtain⟨tk,htkd⟩:∃ tk,tk=du s:=⟨_,rfl⟩;obtain⟨sh,hsh⟩:∃ sh:Nat->Prop,sh=λb=>(∃ id,γ id=some b)\/∃ v e,v ∉ tk++s.dead/\β v=some (b,e):=⟨_,rfl⟩;have hvl:vs.length<=fn.ntmps:=by omega
 have hntm:(vs.toArray++Array.replicate (fn.ntmps-vs.toArray.size) undef).size=fn.ntmps:=by
  simp;omega
 have le0:Cx.le ⟨w,S,γ,β,s.ob,s.dead⟩ ⟨w,S,γ,β,s.ob,tk++s.dead⟩:=
  ⟨λ_ _ _=>rfl,λ_ _ hb=>hb,λ_ _ hb=>hb,λid o ho _=>⟨o,ho,λp=>⟨rfl,rfl⟩,λt l e=>⟨l,e,rfl⟩,λ_ _ l e=>⟨l,e⟩⟩,λu hu=>⟨λhh=>hu (zjb _ hh),λb e he=>⟨he,λn hn=>hn⟩⟩⟩
 have hI:Rp ⟨w,S,sh⟩ S γ β (IW s fn.ntmps avs) { tmps:=vs.toArray++Array.replicate (fn.ntmps-vs.toArray.size) undef,defers:=[] } w:=by
  refine BW h htkd hsh (λ_ _ hh=>hh) rfl (by rw[htkd];rfl) hntm (λt ht=>?_) λt ht=>?_
  ·have ht':fn.ntmps<=t:=ht;simp only[IW];rw[zSa,z3a (by omega)]
   rfl
  ·simp only[IW];by_cases hlt:t<vs.length
   ·have hlt':t<avs.length:=by omega
    have hv:(vs.toArray++Array.replicate (fn.ntmps-vs.toArray.size) undef).getD t undef=vs[t]:=by
     simp[Array.getD,zcd,hlt];omega
    rw[hv,zSa,zca hlt'];exact(hAR t _ _ (zca hlt') (zca hlt)).mono le0
   ·rw[zSa,z3a (by omega)]
    simp only[Option.getD_none,AR]
 refine lw hE hf hb rfl hI hev (λ_ _ hh=>by cases hh) λe sc S' γ' β' a' w' n1 n2 n3 n4=>?_
 have hres:IS E s sc fn.results.toList K rty=some r->(∃ v,(Go.results fn a'.tmps).run P w'=.ok v w'/\∃ v' y s' S' γ' β',Ending.returned v=.returned v'/\K y s'=some r/\Rp w0 S' γ' β' s' a w'/\AR ⟨w',S',γ',β',s'.ob,s'.dead⟩ y v'/\Fm s S γ a w S' γ' a w'/\Sk s s'):=λhq=>by
  obtain⟨v,x,k1,k2,k3⟩:=IT hE n1 hr hq;obtain⟨β'',q1,q2⟩:=Br h htkd hsh (by rw[htkd];exact htk) n1 n2.sub n2.cell n2.gam n2.sz
  exact⟨v,k1,v,x,nV s sc,S',γ',β'',rfl,k3,q1,k2.mono q2,⟨n2.sub,n2.cell,λ_ _=>rfl,n2.objs,n2.sz,n2.gam,ku.same rfl n2.dfs.1⟩,⟨rfl,rfl,rfl⟩⟩
 cases e with
 | normal=>exact hres n4
 | ret=>exact hres n4
 | exit i=>cases n4
end
end Sy
end
noncomputable section
namespace Sy
abbrev K0:Ty:=Ty.st [Ty.int .i64,Ty.int .i64,Ty.bool,Ty.int .u8]
abbrev K1:Ty:=Ty.arr 3 (Ty.int .i64)
abbrev K2:Ty:=Ty.sl (K1)
abbrev K3:Ty:=Ty.st [K2]
abbrev K4:Ty:=Ty.st [K3,Ty.int .i64]
abbrev K5:Ty:=Ty.sl (Ty.int .i64)
abbrev K6:Ty:=Ty.st [K1,Ty.int .i64,K5]
abbrev K7:Ty:=Ty.sl (K6)
abbrev K8:Ty:=Ty.arr 2 (Ty.int .i64)
abbrev K9:Ty:=Ty.sl (K8)
abbrev bf:Ty:=Ty.arr 16 (Ty.int .u32)
abbrev aK:Ty:=Ty.st [Ty.bool,Ty.bool,bf]
abbrev aX:Ty:=Ty.st [aK,aK]
abbrev gK:Ty:=Ty.arr 3 (aX)
abbrev jL:Ty:=Ty.sl (aX)
abbrev cd:Ty:=Ty.st [Ty.int .i64,Ty.int .i64,jL]
abbrev dN:Ty:=Ty.st [K1,Ty.int .i64]
abbrev LL:Ty:=Ty.sl (dN)
abbrev JG:Ty:=Ty.sl (Ty.bool)
abbrev Ef:Ty:=Ty.arr 3 (K1)
abbrev Kf:Ty:=Ty.st [Ef,aK]
abbrev PW:Ty:=Ty.sl (Kf)
abbrev nP:Ty:=Ty.arr 3 (aK)
abbrev pi:Ty:=Ty.arr 3 (nP)
abbrev Ic:Ty:=Ty.arr 32 (Ty.int .u32)
abbrev Ww:Ty:=Ty.sl (Ty.int .u32)
abbrev Vn:Ty:=Ty.sl (aK)
abbrev rq:Ty:=Ty.arr 17 (Ty.int .u32)
abbrev Wx:Ty:=Ty.tup [bf,Ty.bool]
abbrev PX:Ty:=Ty.tup [Ty.int .i64,Ty.bool]
abbrev Wy:Ty:=Ty.tup [K5,K5]
abbrev Wz:Ty:=Ty.tup [bf,bf]
abbrev WA:Ty:=Ty.tup [aK,aK]
abbrev Vo:Ty:=Ty.tup [bf,Ty.int .u32]
abbrev Kg:Ty:=Ty.tup []
abbrev OA:Ty:=Ty.sl (K3)
abbrev gX:Ty:=Ty.st [Ty.str,OA,K8,K8]
abbrev wh:Ty:=Ty.arr 4 (Ty.int .i64)
abbrev Gx:Ty:=Ty.st [K1,wh]
abbrev JH:Ty:=Ty.sl (Gx)
abbrev PY:Ty:=Ty.st [Ty.int .i64,gX,Gx]
abbrev Vp:Ty:=Ty.sl (PY)
abbrev PZ:Ty:=Ty.st [Ty.int .i64,Ty.int .i64,K1,K1]
abbrev Vq:Ty:=Ty.sl (PZ)
abbrev Vr:Ty:=Ty.arr 2 (K1)
abbrev P0:Ty:=Ty.st [Ty.int .i64,K1,Vr]
abbrev Vs:Ty:=Ty.sl (P0)
abbrev zO:Ty:=Ty.st [Ty.int .i64,K8,Vp,Vq,Vs]
abbrev pj:Ty:=Ty.st [JG,JH,K2,K2,JG,JG]
abbrev WB:Ty:=Ty.arr 2 (aK)
abbrev Mp:Ty:=Ty.st [cd,Ty.int .i64]
abbrev Vt:Ty:=Ty.sl (cd)
abbrev Mq:Ty:=Ty.arr 9 (Ty.int .i64)
abbrev WC:Ty:=Ty.tup [wh,Ty.bool]
abbrev P1:Ty:=Ty.tup [cd,Ty.int .i64]
def GC:Nat:=293
def DL:Nat:=286
abbrev bb{α:Type}(t n:Nat)(a b:α):α:=bif Nat.blt t n then a else b
abbrev Ti:Ty:=.int .i64
abbrev cX{α:Type}(a:α):Option α:=some a
abbrev aP(n:Nat)(l:List Ty)(t:Ty):Option (Nat×List Ty×Ty):=some (n,l,t)
def NE(t:Nat):Option Ty:=bif Nat.blt t GC then(bb t 146 (bb t 73 (bb t 36 (bb t 18 (bb t 9 (bb t 4 (bb t 2 none (bb t 3 (cX Ti) (cX Ti))) (bb t 6 (bb t 5 (cX Ty.bool) (cX (Ty.int .u8))) (bb t 7 (cX (Ty.int .u8)) (bb t 8 (cX K0) (cX K0))))) (bb t 13 (bb t 11 (bb t 10 (cX Ty.str) (cX Ty.str)) (bb t 12 (cX Ty.str) (cX (Ty.int .u64)))) none)) (bb t 27 (bb t 22 (bb t 20 none (bb t 21 none (cX (Ty.int .i32)))) (bb t 24 (bb t 23 (cX OA) (cX K8)) (bb t 25 (cX gX) (bb t 26 (cX gX) (cX K1))))) (bb t 31 (bb t 29 (bb t 28 (cX K1) (cX JH)) none) (bb t 33 (bb t 32 (cX Ti) none) (bb t 34 (cX wh) (bb t 35 (cX wh) (cX Gx))))))) (bb t 54 (bb t 45 (bb t 40 (bb t 38 (bb t 37 (cX Gx) (cX (Ty.int .u32))) (bb t 39 (cX bf) (cX aK))) (bb t 42 (bb t 41 (cX aK) (cX aX)) (bb t 43 (cX aX) none))) (bb t 49 (bb t 47 none (bb t 48 (cX Vp) (cX Vq))) (bb t 51 (bb t 50 (cX Vs) (cX zO)) (bb t 52 (cX zO) (bb t 53 (cX JG) (cX K2)))))) (bb t 63 (bb t 58 (bb t 56 (bb t 55 (cX pj) (cX pj)) none) none) (bb t 68 none (bb t 70 none (bb t 71 (cX Vr) (bb t 72 (cX P0) (cX P0)))))))) (bb t 109 (bb t 91 (bb t 82 (bb t 77 none (bb t 79 (bb t 78 (cX PY) (cX PY)) (bb t 80 none (bb t 81 none (cX jL))))) (bb t 86 (bb t 84 (bb t 83 (cX cd) (cX cd)) none) (bb t 88 (bb t 87 (cX gK) (cX gK)) none))) none) (bb t 127 (bb t 118 (bb t 113 (bb t 111 (bb t 110 (cX WB) none) (bb t 112 (cX K3) (cX K3))) none) (bb t 122 (bb t 120 none (bb t 121 none (cX Mp))) (bb t 124 (bb t 123 (cX Mp) none) none))) (bb t 136 (bb t 131 (bb t 129 none (bb t 130 none (cX K5))) none) none)))) (bb t 219 (bb t 182 (bb t 164 (bb t 155 (bb t 150 (bb t 148 (bb t 147 none (cX (Ty.int .u64))) (bb t 149 none (cX (Ty.int .u64)))) (bb t 152 (bb t 151 (cX nP) (cX pi)) (bb t 153 none (bb t 154 (cX Ef) none)))) (bb t 159 none (bb t 161 (bb t 160 none (cX Ic)) (bb t 162 none (bb t 163 (cX Ww) (cX PW)))))) none) (bb t 200 (bb t 191 (bb t 186 (bb t 184 (bb t 183 (cX K4) (cX K4)) none) (bb t 188 (bb t 187 (cX K7) none) (bb t 189 none (bb t 190 (cX K6) (cX K6))))) (bb t 195 none (bb t 197 (bb t 196 (cX Vt) none) (bb t 198 none (bb t 199 none (cX Vn)))))) (bb t 209 (bb t 204 (bb t 202 (bb t 201 (cX Kf) (cX Kf)) none) (bb t 206 none (bb t 207 (cX rq) none))) (bb t 214 (bb t 211 none (bb t 212 none (bb t 213 none (cX Mq)))) (bb t 216 none (bb t 217 none (bb t 218 none (cX aX)))))))) (bb t 256 (bb t 237 (bb t 228 (bb t 223 (bb t 221 (bb t 220 (cX aX) none) (bb t 222 (cX K9) none)) (bb t 225 none (bb t 226 (cX LL) (bb t 227 none (cX dN))))) (bb t 232 (bb t 230 (bb t 229 (cX dN) none) none) none)) (bb t 246 none (bb t 251 none (bb t 253 (bb t 252 none (cX dN)) (bb t 254 (cX dN) none))))) (bb t 274 (bb t 265 (bb t 260 (bb t 258 none (bb t 259 none (cX Ti))) none) (bb t 269 (bb t 267 (bb t 266 none (cX (Ty.int .u64))) none) none)) (bb t 283 (bb t 278 none (bb t 280 none (bb t 281 none (bb t 282 none (cX (Ty.int .u8)))))) (bb t 288 (bb t 285 (bb t 284 (cX (Ty.int .u8)) none) (bb t 286 none (bb t 287 (cX (Ty.int .i32)) (cX (Ty.int .i32))))) (bb t 290 none (bb t 291 (cX PZ) (bb t 292 (cX PZ) none))))))))) else none
def Jm(t:Nat):Option (Nat×List Ty×Ty):=bif Nat.blt t DL then(bb t 143 (bb t 71 (bb t 35 (bb t 17 (bb t 8 (bb t 4 (bb t 2 none (bb t 3 none (aP 300 [gX,K1,K1,Ti,JH] Ty.bool))) (bb t 6 (bb t 5 (aP 301 [zO,pj,pj] Ty.bool) (aP 302 [gX,K1,K1] Ty.bool)) (bb t 7 (aP 303 [gX,Ti,JH] Ty.bool) (aP 304 [zO,pj,pj,pj] Ty.bool)))) (bb t 12 (bb t 10 (bb t 9 (aP 305 [zO,pj] Ty.bool) (aP 306 [gX,K1,K1] Ty.bool)) (bb t 11 (aP 307 [] Ty.bool) (aP 308 [Gx] Ti))) (bb t 14 (bb t 13 (aP 309 [gX,K1,K1] aX) (aP 310 [gX,K1,K1] aX)) (bb t 15 (aP 311 [gX,Ti,JH] aX) (bb t 16 (aP 312 [gX,Ti,JH] aX) (aP 313 [gX,Ti,Gx] aX)))))) (bb t 26 (bb t 21 (bb t 19 (bb t 18 (aP 314 [gX,Ti,Gx] aX) (aP 315 [zO,pj] Ty.bool)) (bb t 20 (aP 316 [zO,pj] aX) (aP 317 [zO,pj] aX))) (bb t 23 (bb t 22 (aP 318 [zO,pj,pj] aX) (aP 319 [zO,pj,pj] aX)) (bb t 24 (aP 320 [zO,pj,pj] Ti) (bb t 25 (aP 321 [zO,pj,pj] Ti) (aP 64 [K1,K1] K1))))) (bb t 30 (bb t 28 (bb t 27 (aP 112 [K1,K1] K1) (aP 322 [aX] Ti)) (bb t 29 (aP 38 [aX,aX] aX) (aP 75 [Ti] aX))) (bb t 32 (bb t 31 (aP 323 [JH] JH) (aP 39 [aX,aX] aX)) (bb t 33 (aP 324 [aX,aX] Ti) (bb t 34 (aP 325 [pj] pj) (aP 40 [aX,aX] aX))))))) (bb t 53 (bb t 44 (bb t 39 (bb t 37 (bb t 36 (aP 326 [gX] Ty.bool) (aP 327 [K1] Ty.bool)) (bb t 38 (aP 328 [] gX) (aP 329 [Ti] Gx))) (bb t 41 (bb t 40 (aP 330 [K1] pj) (aP 331 [wh] Ty.bool)) (bb t 42 (aP 74 [Ti] aX) (bb t 43 (aP 332 [gX,aX] cd) (aP 130 [] aX))))) (bb t 48 (bb t 46 (bb t 45 (aP 135 [K1] gK) (aP 134 [gK,gK] aX)) (bb t 47 (aP 174 [aX,aX] aX) (aP 333 [Ti,Ti] aX))) (bb t 50 (bb t 49 (aP 334 [jL] aX) (aP 335 [gX,aX] cd)) (bb t 51 (aP 84 [] aX) (bb t 52 (aP 31 [K1] gK) (aP 41 [gK,gK] aX)))))) (bb t 62 (bb t 57 (bb t 55 (bb t 54 (aP 42 [Ti,Ti] aX) (aP 336 [aX,aX] aX)) (bb t 56 (aP 173 [aX,aX] aX) (aP 337 [aX,aX] aX))) (bb t 59 (bb t 58 (aP 338 [zO] Ty.bool) none) (bb t 60 none (bb t 61 (aP 339 [Gx,K1] gK) (aP 340 [K1,gK] aX))))) (bb t 66 (bb t 64 (bb t 63 (aP 341 [JG,JG] Ty.bool) (aP 342 [aX] Ti)) (bb t 65 (aP 343 [JG,JG] Ty.bool) (aP 88 [aX] Ty.bool))) (bb t 68 (bb t 67 (aP 83 [aK] Ti) (aP 37 [aK,aK] aX)) (bb t 69 (aP 89 [aK,aK] aK) (bb t 70 (aP 34 [Ti] aK) (aP 133 [] aK)))))))) (bb t 107 (bb t 89 (bb t 80 (bb t 75 (bb t 73 (bb t 72 (aP 70 [aX] aX) (aP 32 [aK,aK] Ti)) (bb t 74 (aP 344 [aX,Ty.bool] aK) (aP 87 [aK,aK] aK))) (bb t 77 (bb t 76 (aP 345 [aK,aK] aK) (aP 85 [aK,aK] aK)) (bb t 78 (aP 59 [aK,aK] aK) (bb t 79 (aP 346 [gX] Ty.bool) (aP 347 [gX] Ti))))) (bb t 84 (bb t 82 (bb t 81 (aP 348 [wh] Ty.bool) (aP 349 [wh] WC)) (bb t 83 (aP 138 [aK] aX) (aP 54 [Ti] aK))) (bb t 86 (bb t 85 (aP 28 [K3] cd) (aP 350 [cd,cd] P1)) (bb t 87 (aP 351 [cd,aX] P1) (bb t 88 (aP 352 [aX,aX] aX) (aP 353 [gX] aK)))))) (bb t 98 (bb t 93 (bb t 91 (bb t 90 (aP 119 [] aK) (aP 169 [] aK)) (bb t 92 (aP 136 [aX] Ty.bool) (aP 62 [aK,aK] aX))) (bb t 95 (bb t 94 (aP 61 [aK,aK] aK) (aP 29 [K3] cd)) (bb t 96 (aP 354 [cd,cd] Mp) (bb t 97 (aP 65 [aX,aX] aX) (aP 63 [aK] aX))))) (bb t 102 (bb t 100 (bb t 99 (aP 355 [gX] aK) (aP 356 [cd,aX] Mp)) (bb t 101 (aP 125 [] aK) (aP 357 [aX] aX))) (bb t 104 (bb t 103 (aP 131 [aK,aK] aK) (aP 132 [aK,aK] aK)) (bb t 105 (aP 57 [aK,aK] aK) (bb t 106 (aP 73 [aX,aX] Ti) (aP 358 [K1,Ti] Ty.bool))))))) (bb t 125 (bb t 116 (bb t 111 (bb t 109 none (bb t 110 (aP 72 [K1,gK] aX) (aP 359 [Gx,K1] gK))) (bb t 113 (bb t 112 (aP 36 [gK,gK] gK) (aP 360 [wh,K1] gK)) (bb t 114 (aP 129 [aK] Ti) (bb t 115 (aP 76 [aK] Ty.bool) (aP 77 [aK] K5))))) (bb t 120 (bb t 118 (bb t 117 (aP 86 [aK] aK) (aP 124 [aK] PX)) (bb t 119 (aP 145 [Ti] Ty.bool) (aP 81 [Ty.bool,K5] aK))) (bb t 122 (bb t 121 (aP 146 [K5,K5] K5) (aP 82 [K5,K5] K5)) (bb t 123 (aP 78 [K5,K5] Ty.bool) (bb t 124 (aP 144 [Ti,Ti] Ti) (aP 143 [K5,K5] Wy)))))) (bb t 134 (bb t 129 (bb t 127 (bb t 126 (aP 126 [K5,K5] K5) (aP 142 [aK] aK)) (bb t 128 (aP 361 [Ty.str] Ty.bool) (aP 15 [K3] Ti))) (bb t 131 (bb t 130 (aP 362 [K3] Ty.bool) (aP 363 [K3,K3] Ty.bool)) (bb t 132 (aP 364 [Ti,Ti] Ti) (bb t 133 (aP 365 [Ti] Ti) (aP 116 [Ty.bool,bf] aK))))) (bb t 138 (bb t 136 (bb t 135 none (aP 67 [aK,Ef,pi] Kg)) (bb t 137 (aP 68 [aK] aK) (aP 366 [Vt] Ty.bool))) (bb t 140 (bb t 139 none (aP 407 [Ti,Ti,cd,cd] aX)) (bb t 141 (aP 367 [cd,Ti,Ti] aX) (bb t 142 (aP 402 [Ti,Ti,cd,aX] aX) (aP 23 [K3] aK))))))))) (bb t 214 (bb t 178 (bb t 160 (bb t 151 (bb t 147 (bb t 145 (bb t 144 (aP 128 [aK] Ty.bool) (aP 118 [Vn] Ty.bool)) (bb t 146 (aP 127 [bf] Ti) (aP 58 [K3] PW))) (bb t 149 (bb t 148 (aP 69 [PW,Ti,Ti] aX) (aP 368 [cd] Ty.bool)) (bb t 150 (aP 369 [Ti,Ti] cd) (aP 370 [cd] Mp)))) (bb t 155 (bb t 153 (bb t 152 (aP 24 [K3] aK) (aP 170 [bf,bf] Wz)) (bb t 154 (aP 171 [aK] aK) (aP 172 [aK,aK] WA))) (bb t 157 (bb t 156 (aP 120 [bf,bf] Wx) (aP 121 [bf,bf] Ti)) (bb t 158 (aP 122 [bf,bf] bf) (bb t 159 (aP 90 [aK,aK] Ti) (aP 137 [aK,aK] aK)))))) (bb t 169 (bb t 164 (bb t 162 (bb t 161 (aP 371 [gK,gK] gK) (aP 372 [wh,K1] gK)) (bb t 163 (aP 373 [wh,K1] K1) (aP 374 [wh] Ti))) (bb t 166 (bb t 165 (aP 139 [aK] Ty.bool) (aP 140 [K5] K5)) (bb t 167 (aP 141 [K5,Ti] Ti) (bb t 168 (aP 175 [K5,Ti] Ti) (aP 375 [Ty.int .u8] Ty.bool))))) (bb t 173 (bb t 171 (bb t 170 (aP 12 [K2] K4) (aP 13 [K2,K2] Ty.bool)) (bb t 172 (aP 19 [K3] K7) (aP 376 [K3,K3,K1] Ty.bool))) (bb t 175 (bb t 174 (aP 377 [K3] K2) (aP 378 [nP] K1)) (bb t 176 (aP 379 [K1,K1] nP) (bb t 177 (aP 18 [K3] K7) (aP 91 [K1,K1] aK))))))) (bb t 196 (bb t 187 (bb t 182 (bb t 180 (bb t 179 (aP 117 [K1,K1] K1) none) (bb t 181 (aP 380 [cd] Ty.bool) (aP 381 [cd] Ti))) (bb t 184 (bb t 183 (aP 382 [jL] Ty.bool) (aP 56 [aK,Ef,aK] Kg)) (bb t 185 (aP 167 [aK] Ty.bool) (bb t 186 (aP 33 [K1,K1] aK) (aP 123 [K1,K1] K1))))) (bb t 191 (bb t 189 (bb t 188 (aP 383 [cd] Ti) (aP 384 [jL] Ty.bool)) (bb t 190 (aP 195 [bf,Ty.int .u32] Vo) (aP 196 [Ty.int .u32] Ti))) (bb t 193 (bb t 192 (aP 197 [bf,Ti] Vo) none) (bb t 194 none (bb t 195 none (aP 201 [bf,Ti] bf)))))) (bb t 205 (bb t 200 (bb t 198 (bb t 197 (aP 202 [aK] PX) (aP 203 [aK,aK] aK)) (bb t 199 (aP 168 [Ty.int .u32,Ty.int .u32] Ti) (aP 385 [wh] Ti))) (bb t 202 (bb t 201 (aP 386 [wh,K1] K1) (aP 387 [wh] Mq)) (bb t 203 (aP 388 [wh,wh] Ti) (bb t 204 (aP 47 [K2] K2) (aP 48 [K2] K7))))) (bb t 209 (bb t 207 (bb t 206 (aP 389 [K3,K1] aX) (aP 22 [K3] K9)) (bb t 208 (aP 186 [aK] PX) (aP 390 [nP,nP] nP))) (bb t 211 (bb t 210 (aP 80 [K1] nP) (aP 45 [K2] LL)) (bb t 212 (aP 46 [K2,dN] K5) (bb t 213 (aP 147 [nP,nP] aK) (aP 148 [K1] nP)))))))) (bb t 250 (bb t 232 (bb t 223 (bb t 218 (bb t 216 none (bb t 217 (aP 391 [aX] Ty.bool) (aP 79 [nP,nP] aK))) (bb t 220 (bb t 219 (aP 165 [Ty.int .u32] Ti) (aP 217 [aK] Ti)) (bb t 221 (aP 194 [Ty.int .u32] Ty.bool) (bb t 222 (aP 392 [wh,wh] Ti) (aP 393 [wh] Mq))))) (bb t 227 (bb t 225 (bb t 224 (aP 394 [K5] Ti) (aP 105 [K1,K1] Ty.bool)) (bb t 226 (aP 106 [K1,K1,K1] K1) (aP 107 [K1,K1] Ti))) (bb t 229 (bb t 228 (aP 108 [K7,K1] Ty.bool) (aP 109 [K2,K1,Ti] Ty.bool)) (bb t 230 (aP 110 [K7,K6] K7) (bb t 231 (aP 111 [K2,K1,Ti] K5) (aP 395 [aK,aK,aK,aK] aK)))))) (bb t 241 (bb t 236 (bb t 234 (bb t 233 (aP 96 [K1,K1,K1] dN) (aP 97 [K1] K1)) (bb t 235 (aP 98 [K2,dN] Ty.bool) none)) (bb t 238 (bb t 237 (aP 100 [dN,dN] Ti) (aP 52 [K5] Ti)) (bb t 239 (aP 53 [Ti,Ti] Ti) (bb t 240 (aP 101 [K1,K1] Ti) (aP 102 [Ti,K5,K2,dN] Ti))))) (bb t 245 (bb t 243 (bb t 242 (aP 103 [K1,K1] K1) (aP 104 [K1,K1,K1] Ti)) (bb t 244 none (aP 155 [nP] dN))) (bb t 247 (bb t 246 (aP 156 [K2,K1,Ti,K1,K1] Ty.bool) (aP 396 [aK,aK] aK)) (bb t 248 (aP 152 [Ti,Ti] Ti) (bb t 249 none (aP 114 [Ty.int .u64] Ti))))))) (bb t 268 (bb t 259 (bb t 254 (bb t 252 (bb t 251 (aP 115 [Ti] Ty.bool) (aP 154 [K1,K1] K1)) (bb t 253 (aP 187 [K1] Ty.bool) (aP 188 [K1,K1] Ti))) none) (bb t 263 (bb t 261 none (bb t 262 none (aP 166 [Ty.int .u64] Ti))) (bb t 265 (bb t 264 (aP 215 [Ti] Ti) none) (bb t 266 (aP 190 [Ti] (Ty.int .u64)) none)))) none)))) else none
def qb(t:Nat):Option (List Ty×Ty):=match Jm t with|some p=>some p.2|none=>none
def uj(t:Nat):Nat:=match Jm t with|some p=>p.1|none=>0
def m8(t:Nat):Nat:=(bb t 143 (bb t 71 0 (bb t 107 0 (bb t 125 0 (bb t 134 0 (bb t 138 (bb t 136 (bb t 135 0 1) 0) (bb t 140 (bb t 139 0 2) (bb t 141 0 (bb t 142 2 0)))))))) (bb t 214 (bb t 178 0 (bb t 196 (bb t 187 (bb t 182 0 (bb t 184 (bb t 183 0 1) 0)) 0) 0)) (bb t 250 (bb t 232 0 (bb t 241 (bb t 236 0 (bb t 238 0 (bb t 239 0 (bb t 240 0 3)))) 0)) 0)))
def Fi(t:Nat):Option (Ty×Ty):=bif Nat.blt t GC then(bb t 146 none (bb t 219 none (bb t 256 (bb t 237 none (bb t 246 (bb t 241 none (bb t 243 none (bb t 244 none (bb t 245 (some (dN,Ty.bool)) none)))) none)) none))) else none
def Sj:List Nat:=[0,1,2,0,0,0,0,0,0,0,0,0,169,170,0,128,0,0,176,171,0,0,206,142,151,0,0,0,84,94,0,51,72,185,69,0,111,67,28,31,34,52,53,0,0,210,211,203,204,0,0,0,237,238,83,134,183,104,146,77,0,93,92,97,25,96,0,135,136,147,71,0,109,105,41,29,114,115,122,217,209,119,121,66,50,76,116,74,65,68,158,177,0,0,0,0,232,233,234,235,236,239,240,241,242,224,225,226,227,228,229,230,26,0,249,250,133,178,144,89,155,156,157,186,117,100,125,145,143,113,43,102,103,70,45,44,91,159,82,164,165,166,126,124,123,118,120,212,213,0,0,0,247,248,251,244,245,0,0,0,0,0,0,0,0,218,262,184,198,90,152,153,154,55,46,167,0,0,254,255,256,257,258,259,260,261,207,252,253,0,265,266,0,0,220,189,190,191,192,193,194,195,196,197,0,0,0,0,0,0,0,0,264,267,268,263,0,219,0,0,0,269,0,270,271,272,273,274,275,276,277,278,279,280,281,282,283,284,285,0,0,0,0,0,0,0,0,0,0,0,0,0,0,0,0,0,0,0,0,0,0,0,0,0,0,0,0,0,0,0,0,0,0,0,0,0,0,0,0,0,0,0,0,0,0,0,0,0,0,0,0,0,0,0,0,0,0,0,0,0,3,4,5,6,7,8,9,10,11,12,13,14,15,16,17,18,19,20,21,22,23,24,27,30,32,33,35,36,37,38,39,40,42,47,48,49,54,56,57,60,61,62,63,64,73,75,78,79,80,81,85,86,87,88,95,98,99,101,106,110,112,127,129,130,131,132,137,140,148,149,150,160,161,162,163,168,172,173,174,175,180,181,182,187,188,199,200,201,202,205,208,216,221,222,223,231,246,215,59,138,107,58,141,214,243,108,179,139]
def eP(k:Nat):Nat:=Sj.getD k 0
def fi(lp:{α β:Type}->(α->Option (Sum α β))->α->Option β)(call:Nat->List D->Option D)(inl:Inl):Env:={ L:=NE,sig:=qb,call:=λf=>call (uj f),mapL:=Fi,lp:=lp,inl:=inl.f,cod:=inl.cod,free:=m8,pv:=inl.pv }
def BZ:List (Nat×(Func×Ty))->Nat->Option (Func×Ty)
 | [],_=>none
 | p::l,f=>bif Nat.beq f p.1 then some p.2 else BZ l f
theorem pS:∀ {l:List (Nat×(Func×Ty))} {f:Nat} {p:Func×Ty},BZ l f=some p->(f,p)∈l
 | [],_,_,h=>by cases h
 | q::l,f,p,h=>by
  simp only[BZ] at h;cases hb:Nat.beq f q.1
  ·rw[hb] at h;exact zha _ (pS h)
  ·rw[hb] at h;cases h;rw[zDc hb];exact zka
open Go.Proofs in
def Ls:List (Nat×(Func×Ty)):=[(58,(Tryz.f58,jL)),(59,(Tryz.f59,Ty.fn)),(107,(Tryz.f107,jL)),(108,(Tryz.f108,Kg)),(134,(Tryz.f134,Kg)),(135,(Tryz.f135,Kg)),(138,(Tryz.f138,P1)),(139,(Tryz.f139,aX)),(141,(Tryz.f141,aX)),(179,(Tryz.f179,Ty.bool)),(180,(Tryz.f180,Ty.bool)),(183,(Tryz.f183,Kg)),(192,(Tryz.f192,Ty.int .u64)),(193,(Tryz.f193,Ty.bool)),(194,(Tryz.f194,Kg)),(214,(Tryz.f214,Ty.int .i64)),(215,(Tryz.f215,Ty.bool)),(216,(Tryz.f216,Ty.bool)),(236,(Tryz.f236,Ty.int .i64)),(240,(Tryz.f240,Ty.int .i64)),(243,(Tryz.f243,Ty.int .i64))]
open Go.Proofs in
def Jw:List (Nat×(Func×Ty)):=Ls++[(171,(Tryz.f171,K7)),(204,(Tryz.f204,K7)),(229,(Tryz.f229,K7))]
def Ju(v f:Nat):Option (Func×Ty):=BZ (bif Nat.beq v 2 then Jw else Ls) f
def Gc{v f:Nat}{p:Func×Ty}(h:Ju v f=some p):(f,p)∈Jw:=by
 unfold Ju at h;cases hb:Nat.beq v 2
 ·rw[hb] at h;exact znb _ (pS h)
 ·rw[hb] at h;exact pS h
end Sy
end
noncomputable section
namespace Sy
open Go
def As(P:Program):Bool:=(List.range GC).all λt=>match NE t with|some ty=>bH P ty t&&decide (ty.high<=1000)&&au ty|none=>true
def F5(P:Program)(f:Nat)(g:List Ty×Ty):Bool:=
 bh g.1 && (au g.2 || match g.2 with | .tup ts => bh ts | _ => false) && match P.funcs[f]? with | some fn => !(fn.name == "runtime.NumGoroutine") && fn.body.isSome | none => false
def Aw(P:Program):Bool:=(List.range GC).all λt=>match Fi t with|some g=>bL g.1&&decide (g.1.high<=1000)&&(match P.underlying t with|some (.map K V)=>bH P g.1 K&&bH P g.2 V|_=>false)|none=>true
def A3(P:Program):Bool:=(List.range DL).all λf=>match qb f with|some g=>F5 P f g|none=>true
def JA{t:Nat}{ty:Ty}(h:NE t=some ty):t<GC:=by
 unfold NE at h;rcases zna t GC with k|k
 ·exact k
 ·have:Nat.blt t GC=false:=zXb.2 λhb=>absurd (Nat.blt_eq ▸ hb) (zzc.2 k);rw[this] at h;cases h
def Fj{t:Nat}{g:Ty×Ty}(h:Fi t=some g):t<GC:=by
 unfold Fi at h;rcases zna t GC with k|k
 ·exact k
 ·have:Nat.blt t GC=false:=zXb.2 λhb=>absurd (Nat.blt_eq ▸ hb) (zzc.2 k);rw[this] at h;cases h
def zy{t:Nat}{ty:List Ty×Ty}(h:qb t=some ty):t<DL:=by
 unfold qb Jm at h;rcases zna t DL with k|k
 ·exact k
 ·have:Nat.blt t DL=false:=zXb.2 λhb=>absurd (Nat.blt_eq ▸ hb) (zzc.2 k);rw[this] at h;cases h
def iz(P:Program)(call:Nat->List D->Option D):Prop:=∀ f ptys rty xs y,qb f=some (ptys,rty)->call (uj f) xs=some y->fq ptys xs->GD P (m8 f) ptys rty f xs y
abbrev Lp:Type 1:={α β:Type}->(α->Option (Sum α β))->α->Option β
def ar(lp:Lp):Prop:=∀ (α β:Type) (body:α->Option (Sum α β)) (x:α) (y:β),lp body x=some y->∃ n,oC body n x=some y
def C7(N:Nat):ar (λbody=>oC body N):=λ_ _ _ _ _ h=>⟨N,h⟩
def tq:ar (λbody=>lO body):=λ_ _ _ _ _ h=>nA h
def E6(pv:Bool)(tab:Nat->Option (Func×Ty))(lp:Lp)(call:Nat->List D->Option D):Nat->Inl
 | 0=>⟨pv,λ_=>none,λ_ _ _ _ _=>none⟩
 | n+1=>⟨pv,λf=>match tab f with
  | some p=>some (KZ (fi lp call (E6 pv tab lp call n)) p.1 p.2)
  | none=>none,λc an R s k=>ev (fi lp call (E6 pv tab lp call n)) c an R s k⟩
section
variable{P:Program}
def sG(h1:As P=true)(h2:A3 P=true)(h4:Aw P=true)(h3:P.follows .mixedOrders=true){lp:Lp}(hlp:ar lp){call:Nat->List D->Option D}(hc:iz P call)
  {inl : Inl} (hcod : D6 P inl.cod) (hi : ∀ f g, inl.f f = some g -> (∃ fn, P.funcs[f]? = some fn /\ (fn.name == "runtime.NumGoroutine") = false /\ fn.body.isSome = true) /\ Ee P f g) : EnvOk P (fi lp call inl) := by
 have k1:∀ t ty,NE t=some ty->bH P ty t=true/\ty.high<=1000/\au ty=true:=λt ty ht=>by
  have:=zpa.1 h1 t (zJa.2 (JA ht));rw[ht] at this;simp only[zaa,decide_eq_true_eq] at this;exact⟨this.1.1,this.1.2,this.2⟩
 refine⟨λt ty ht=>.inr (k1 t ty ht).1,λt ty ht=>(k1 t ty ht).2.1,λt ty ht=>(k1 t ty ht).2.2,λf ptys rty hf=>?_,hc,h3,hlp,λt kt vt ht=>?_,hi,hcod⟩
 ·have:=zpa.1 h2 f (zJa.2 (zy hf));rw[show qb f=some (ptys,rty) from hf] at this;simp only[F5,zaa,zHb] at this;obtain⟨⟨q1,q2⟩,q3⟩:=this;refine⟨q1,?_,?_⟩
  ·rcases q2 with q2|q2
   ·exact .inl q2
   ·right;split at q2
    ·rename_i ts;exact⟨_,rfl,q2⟩
    ·cases q2
  ·split at q3
   ·rename_i fn hfn;simp only[zaa,zLa] at q3;exact⟨fn,hfn,q3⟩
   ·cases q3
 ·have:=zpa.1 h4 t (zJa.2 (Fj ht));rw[show Fi t=some (kt,vt) from ht] at this;simp only[zaa,decide_eq_true_eq] at this;obtain⟨⟨m1,m2⟩,m3⟩:=this;refine⟨m1,?_⟩;split at m3<;>first|(cases m3;done)|skip
  rename_i K V hu;simp only[zaa] at m3;exact⟨K,V,hu,m3.1,m3.2,m2⟩
def A8 (P : Program) (f : Nat) (p : Func × Ty) : Prop := P.funcs[f]? = some p.1 /\ (!(p.1.name == "runtime.NumGoroutine") && p.1.body.isSome && AX p.1.results.size p.2) = true
theorem wN{pv:Bool}{tab:Nat->Option (Func×Ty)}(h1:As P=true)(h2:A3 P=true)(h4:Aw P=true)(h3:P.follows .mixedOrders=true)(ht:∀ f p,tab f=some p->A8 P f p){lp:Lp}(hlp:ar lp){call:Nat->List D->Option D}(hc:iz P call) :
  ∀ n,EnvOk P (fi lp call (E6 pv tab lp call n))
 | 0=>sG h1 h2 h4 h3 hlp hc (λ_ _ _ _ _ _ _ _ _ _ _ _ _ _ _ _ _ h=>by cases h) λf g h=>by cases h
 | n+1=>sG h1 h2 h4 h3 hlp hc (KH (wN h1 h2 h4 h3 ht hlp hc n)) λf g h=>by
  simp only[E6] at h;split at h<;>first|(cases h;done)|skip
  rename_i p hp;cases h;obtain⟨q1,q2⟩:=ht f p hp;simp only[zaa,zLa] at q2;exact⟨⟨p.1,q1,q2.1.1,q2.1.2⟩,IR (wN h1 h2 h4 h3 ht hlp hc n) q1 q2.2⟩
end
end Sy
end
noncomputable section
namespace Sy
open Go Go.Proofs
def yO:As Tryz.prog=true:=by kernel_rfl
def zx:A3 Tryz.prog=true:=by kernel_rfl
def yT:Aw Tryz.prog=true:=by kernel_rfl
def Ax:Tryz.prog.follows .mixedOrders=true:=by kernel_rfl
def IQ(v:Nat)(lp:Lp)(call:Nat->List D->Option D):Inl:=E6 (Nat.beq v 1) (Ju v) lp call 9
noncomputable abbrev oA(lp:Lp)(call:Nat->List D->Option D):Inl:=IQ 0 lp call
def Jv(v:Nat):∀ f p,Ju v f=some p->A8 Tryz.prog f p:=by
 intro f p h;have key:∀ q∈Jw,A8 Tryz.prog q.1 q.2:=by
  intro q hq;simp only[Jw,Ls,zdb,z3b,zCa,zxc,or_false] at hq;repeat' first
   | (rcases hq with hq|hq;· subst hq;exact⟨by kernel_rfl,by kernel_rfl⟩)
   | (subst hq;exact⟨by kernel_rfl,by kernel_rfl⟩)
 exact key (f,p) (Gc h)
def Na{v:Nat}{lp:Lp}(hlp:ar lp){call:Nat->List D->Option D}(hc:iz Tryz.prog call):EnvOk Tryz.prog (fi lp call (IQ v lp call)):=
 wN yO zx yT Ax (Jv v) hlp hc 9
def Tj{lp:Lp}(hlp:ar lp){call:Nat->List D->Option D}(hc:iz Tryz.prog call):EnvOk Tryz.prog (fi lp call (oA lp call)):=Na hlp hc
def Ns(o:Oper):Option ByteArray:=match o.op with|.index _ (.const (.string s)) _=>some s|_=>none
def oS:Code->Option ByteArray
 | .region _ ops _=>ops.toList.findSome? Ns
 | .seq a b=>(oS a).orElse λ_=>oS b
 | .cond _ a b=>(oS a).orElse λ_=>oS b
 | .block _ a=>oS a
 | .loop a=>oS a
 | .scope a=>oS a
 | _=>none
def EG(f:Func):Code:=match f.body with|some c=>c|none=>.skip
end Sy
end
noncomputable section
namespace Sy
open Go Go.Proofs
inductive CT where
 | leaf (k:Nat) (g:(Nat->List D->Option D)->List D->Option D)
 | node (m:Nat) (a b:CT)
def CT.get:CT->Nat->(Nat->List D->Option D)->List D->Option D
 | .leaf k g,f,call,xs=>bif Nat.beq f k then g call xs else none
 | .node m a b,f,call,xs=>bif Nat.blt f m then a.get f call xs else b.get f call xs
def aj(f:Nat)(g:(Nat->List D->Option D)->List D->Option D):Prop:=
 ∀ call,iz Tryz.prog call->∀ ptys rty xs y,qb (eP f)=some (ptys,rty)->g call xs=some y->fq ptys xs->GD Tryz.prog (m8 (eP f)) ptys rty (eP f) xs y
def CT.ok:CT->Prop
 | .leaf k g=>aj k g
 | .node _ a b=>a.ok/\b.ok
theorem CT.get_ok':∀ {t:CT},t.ok->∀ {call},iz Tryz.prog call->∀ f ptys rty xs y,qb (eP f)=some (ptys,rty)->t.get f call xs=some y->fq ptys xs->GD Tryz.prog (m8 (eP f)) ptys rty (eP f) xs y
 | .leaf k g,h,call,hc,f,ptys,rty,xs,y,hs,hy,hw=>by
  simp only[CT.get] at hy;cases hb:Nat.beq f k with
  | false=>rw[hb] at hy;cases hy
  | true=>
   rw[hb] at hy;have:=zDc hb;subst this;exact h call hc ptys rty xs y hs hy hw
 | .node m a b,h,call,hc,f,ptys,rty,xs,y,hs,hy,hw=>by
  simp only[CT.get] at hy;cases hb:Nat.blt f m with
  | false=>rw[hb] at hy;exact CT.get_ok' h.2 hc f ptys rty xs y hs hy hw
  | true=>rw[hb] at hy;exact CT.get_ok' h.1 hc f ptys rty xs y hs hy hw
def Kk:((List.range DL).all λf=>match Jm f with|some p=>Nat.beq (eP p.1) f|none=>true)=true:=by kernel_rfl
def If{f:Nat}{g:List Ty×Ty}(h:qb f=some g):eP (uj f)=f:=by
 have h2:=zpa.1 Kk f (zJa.2 (zy h));unfold qb at h;unfold uj;split at h<;>first|(cases h;done)|skip
 rename_i p hp;rw[hp] at h2;exact zDc h2
def CT.get_ok{t:CT}(h:t.ok){call}(hc:iz Tryz.prog call):iz Tryz.prog λf xs=>t.get f call xs:=λf ptys rty xs y hs hy hw=>by
 have e:=If hs;have:=CT.get_ok' h hc (uj f) ptys rty xs y (by rw[e];exact hs) hy hw
 rwa [e] at this
def fD(v:Nat)(lp:Lp)(f:Nat)(fn:Func)(ann:Ann)(call:Nat->List D->Option D)(xs:List D):Option D:=
 (qb (eP f)).bind λs=>bif Nat.beq (m8 (eP f)) 0 then Tk (fi lp call (IQ v lp call)) fn ann s.1 s.2 xs else KN (fi lp call (IQ v lp call)) fn ann s.1 (m8 (eP f)) s.2 xs
def JY(f:Nat)(fn:Func):Bool:=match qb (eP f) with
 | some (p,r)=>decide (p.length<=fn.ntmps)&&iW fn.results.size r&&bh p&&(decide (m8 (eP f)<=p.length)&&decide (m8 (eP f)<=4095))
 | none=>false
def cB{v:Nat}{lp:Lp}(hlp:ar lp){f:Nat}{fn:Func}{ann:Ann}(hf:Tryz.prog.funcs[eP f]?=some fn)(hk:JY f fn=true):aj f (fD v lp f fn ann):=by
 intro call hc ptys rty xs y hs hy hw;unfold fD at hy;unfold JY at hk;rw[hs] at hy hk;simp only[zba] at hy;simp only[zaa,decide_eq_true_eq] at hk;obtain⟨⟨⟨k1,k2⟩,k3⟩,k4,k5⟩:=hk;have hE:=Na (v:=v) hlp hc;cases hz:m8 (eP f) with
 | zero=>
  rw[hz] at hy;exact CN hE hf k1 k3 k2 hy
 | succ k=>
  rw[hz] at hy;exact Ad hE hf k1 k3 (by rw[<-hz];exact k4) (by rw[<-hz];exact k5) k2 hy
abbrev Ann.tl(a:Ann):Ann:=.two .leaf a
section
variable{α:Type}
noncomputable abbrev qT(x:D)(f:Bool->Option α):Option α:=(D.truth x).bind f
noncomputable abbrev qG(x:D)(p:List Nat)(f:D->Option α):Option α:=(D.get x p).bind f
noncomputable abbrev qS(x:D)(f:List D->Option α):Option α:=(D.asSl x).bind f
noncomputable abbrev qB(o:BinOp)(x y:D)(f:D->Option α):Option α:=(D.bin o x y).bind f
noncomputable abbrev qC(o:BinOp)(x y:D)(f:Bool->Option α):Option α:=(D.bin o x y).bind λz=>(D.truth z).bind f
noncomputable abbrev qN(x:D)(f:Bool->Option α):Option α:=(D.un .not x).bind λz=>(D.truth z).bind f
noncomputable abbrev qX(x i:D)(f:D->Option α):Option α:=(D.asSl x).bind λl=>(D.idx i l.length).bind λk=>(l[k]?).bind f
noncomputable abbrev qL(x i:D)(f:Bool->Option α):Option α:=(D.asSl x).bind λl=>(D.bin .lss i (.int .i64 l.length)).bind λz=>(D.truth z).bind f
noncomputable abbrev qY(x:D)(p:List Nat)(i:D)(f:D->Option α):Option α:=(D.get x p).bind λx=>(D.asSl x).bind λl=>(D.idx i l.length).bind λk=>(l[k]?).bind f
noncomputable abbrev qM(x:D)(p:List Nat)(i:D)(f:Bool->Option α):Option α:=(D.get x p).bind λx=>(D.asSl x).bind λl=>(D.bin .lss i (.int .i64 l.length)).bind λz=>(D.truth z).bind f
noncomputable abbrev qP(x:D)(p:List Nat)(f:List D->Option α):Option α:=(D.get x p).bind λx=>(D.asSl x).bind f
noncomputable abbrev qJ(i:D)(n:Nat)(x:D)(f:D->Option α):Option α:=(D.idx i n).bind λk=>(D.get x [k]).bind f
end
abbrev qV(l:List D)(i:Nat):List D:=(l.getD i (.bool false)).els
abbrev qW(l:List D)(i:Nat):D:=D.sl ((l.getD i (.bool false)).els)
abbrev qZ(lp:Lp)(f:List D->Option (Sum (List D) (Nat×List D))):List D->Option (Nat×List D):=lp f
abbrev iL(l:List D):Option (Sum (List D) (Nat×List D)):=some (Sum.inl l)
abbrev iR(l:Nat×List D):Option (Sum (List D) (Nat×List D)):=some (Sum.inr l)
abbrev LO:Type:=List (Nat×ShO)
abbrev LS:Type:=List (Nat×Sh)
abbrev Jn(n:Int):D:=.int .i64 n
abbrev Ca:Type:=Nat->List D->Option D
abbrev Sh.di:Sh:=.dv (.int .i64)
abbrev Sh.sp(t:Ty)(i:Nat):Sh:=.same (.ptr t i [])
def m0(F:(Nat->List D->Option D)->Option D)(call:Nat->List D->Option D)(xs:List D):Option D:=match xs with|[]=>F call|_=>none
def u7(v:Nat)(fn:Func)(ann:Ann){lp:Lp}(hlp:ar lp){f:Nat}{F:(Nat->List D->Option D)->Option D}(hf:Tryz.prog.funcs[eP f]?=some fn:=by kernel_rfl)(hk:JY f fn=true:=by kernel_rfl)
  (hE:∀ call,fD v lp f fn ann call []=F call:=by intros;kernel_rfl):aj f (m0 F):=by
 intro call hc ptys rty xs y hs hy hw;unfold m0 at hy;split at hy<;>first|(cases hy;done)|skip
 exact cB (v:=v) hlp hf hk call hc ptys rty _ y hs ((hE call).trans hy) hw
def m1(F:(Nat->List D->Option D)->D->Option D)(call:Nat->List D->Option D)(xs:List D):Option D:=match xs with|[a0]=>F call a0|_=>none
def ba(v:Nat)(fn:Func)(ann:Ann){lp:Lp}(hlp:ar lp){f:Nat}{F:(Nat->List D->Option D)->D->Option D}(hf:Tryz.prog.funcs[eP f]?=some fn:=by kernel_rfl)(hk:JY f fn=true:=by kernel_rfl)
  (hE:∀ call a0,fD v lp f fn ann call [a0]=F call a0:=by intros;kernel_rfl):aj f (m1 F):=by
 intro call hc ptys rty xs y hs hy hw;unfold m1 at hy;split at hy<;>first|(cases hy;done)|skip
 exact cB (v:=v) hlp hf hk call hc ptys rty _ y hs ((hE call _).trans hy) hw
def m2(F:(Nat->List D->Option D)->D->D->Option D)(call:Nat->List D->Option D)(xs:List D):Option D:=match xs with|[a0,a1]=>F call a0 a1|_=>none
def a8(v:Nat)(fn:Func)(ann:Ann){lp:Lp}(hlp:ar lp){f:Nat}{F:(Nat->List D->Option D)->D->D->Option D}(hf:Tryz.prog.funcs[eP f]?=some fn:=by kernel_rfl)(hk:JY f fn=true:=by kernel_rfl)
  (hE:∀ call a0 a1,fD v lp f fn ann call [a0,a1]=F call a0 a1:=by intros;kernel_rfl):aj f (m2 F):=by
 intro call hc ptys rty xs y hs hy hw;unfold m2 at hy;split at hy<;>first|(cases hy;done)|skip
 exact cB (v:=v) hlp hf hk call hc ptys rty _ y hs ((hE call _ _).trans hy) hw
def m3(F:(Nat->List D->Option D)->D->D->D->Option D)(call:Nat->List D->Option D)(xs:List D):Option D:=match xs with|[a0,a1,a2]=>F call a0 a1 a2|_=>none
def lM(v:Nat)(fn:Func)(ann:Ann){lp:Lp}(hlp:ar lp){f:Nat}{F:(Nat->List D->Option D)->D->D->D->Option D}(hf:Tryz.prog.funcs[eP f]?=some fn:=by kernel_rfl)(hk:JY f fn=true:=by kernel_rfl)
  (hE:∀ call a0 a1 a2,fD v lp f fn ann call [a0,a1,a2]=F call a0 a1 a2:=by intros;kernel_rfl):aj f (m3 F):=by
 intro call hc ptys rty xs y hs hy hw;unfold m3 at hy;split at hy<;>first|(cases hy;done)|skip
 exact cB (v:=v) hlp hf hk call hc ptys rty _ y hs ((hE call _ _ _).trans hy) hw
def m4(F:(Nat->List D->Option D)->D->D->D->D->Option D)(call:Nat->List D->Option D)(xs:List D):Option D:=match xs with|[a0,a1,a2,a3]=>F call a0 a1 a2 a3|_=>none
def Fc(v:Nat)(fn:Func)(ann:Ann){lp:Lp}(hlp:ar lp){f:Nat}{F:(Nat->List D->Option D)->D->D->D->D->Option D}(hf:Tryz.prog.funcs[eP f]?=some fn:=by kernel_rfl)(hk:JY f fn=true:=by kernel_rfl)
  (hE:∀ call a0 a1 a2 a3,fD v lp f fn ann call [a0,a1,a2,a3]=F call a0 a1 a2 a3:=by intros;kernel_rfl):aj f (m4 F):=by
 intro call hc ptys rty xs y hs hy hw;unfold m4 at hy;split at hy<;>first|(cases hy;done)|skip
 exact cB (v:=v) hlp hf hk call hc ptys rty _ y hs ((hE call _ _ _ _).trans hy) hw
def m5(F:(Nat->List D->Option D)->D->D->D->D->D->Option D)(call:Nat->List D->Option D)(xs:List D):Option D:=match xs with|[a0,a1,a2,a3,a4]=>F call a0 a1 a2 a3 a4|_=>none
def Nl(v:Nat)(fn:Func)(ann:Ann){lp:Lp}(hlp:ar lp){f:Nat}{F:(Nat->List D->Option D)->D->D->D->D->D->Option D}(hf:Tryz.prog.funcs[eP f]?=some fn:=by kernel_rfl)(hk:JY f fn=true:=by kernel_rfl)
  (hE:∀ call a0 a1 a2 a3 a4,fD v lp f fn ann call [a0,a1,a2,a3,a4]=F call a0 a1 a2 a3 a4:=by intros;kernel_rfl):aj f (m5 F):=by
 intro call hc ptys rty xs y hs hy hw;unfold m5 at hy;split at hy<;>first|(cases hy;done)|skip
 exact cB (v:=v) hlp hf hk call hc ptys rty _ y hs ((hE call _ _ _ _ _).trans hy) hw
abbrev gx(l:List D)(i:Nat):D:=l.getD i (.bool false)
end Sy
end
noncomputable section
set_option maxHeartbeats 0
noncomputable section
namespace Sy
open Go Go.Proofs
def VQ:Ann:=let o0:LO:=[(4098,.one K4 (.st [K3,Ti] [.st [K2] [.ow K1],.di])),(36871,.one K4 (.st [K3,Ti] [.st [K2] [.ow K1],.di]))]
 let o1:LO:=[(4098,.one K4 (.st [K3,Ti] [.st [K2] [.ow K1],.di]))]
 let o2:LS:=[(2,.sp K4 4098),(7,.sp K4 36871),(9,.dv Ty.bool)]
 let o3:LS:=[(2,.sp K4 4098),(7,.sp K4 36871)]
 (.tl (.tl (.two (.tl (.two (.loop ⟨[(2,.sp K4 4098),(3,.di)],o1,[0]⟩ [(.ret,⟨[(2,.sp K4 4098)],o1,[]⟩),(.exit 0,⟨[(2,.sp K4 4098)],o1,[0]⟩)] (.tl (.two (.two (.tl (.two (.loop ⟨[(2,.sp K4 4098),(4,.di)],o1,[0,3]⟩ [(.ret,⟨[(2,.sp K4 4098)],o1,[]⟩),(.exit 2,⟨[(2,.sp K4 4098)],o1,[0,3]⟩)] .leaf) .leaf)) .leaf) .leaf))) .leaf)) (.tl (.tl (.tl (.tl (.tl (.two (.tl (.two (.loop ⟨[(2,.sp K4 4098),(7,.sp K4 36871),(8,.di)],o0,[5,6]⟩ [(.exit 4,⟨o3,o0,[]⟩)] (.tl (.cut [(.normal,⟨o3,o0,[5,6,8]⟩)] [5,6,8] [] (.two (.tl (.two (.tl (.two (.loop ⟨[(2,.sp K4 4098),(7,.sp K4 36871),(9,.dv Ty.bool),(10,.di)],o0,[5,6,8]⟩ [(.exit 6,⟨o2,o0,[5,6,8]⟩)] (.tl (.two (.two (.tl (.two (.loop ⟨[(2,.sp K4 4098),(7,.sp K4 36871),(9,.dv Ty.bool),(11,.di)],o0,[5,6,8,10]⟩ [(.exit 8,⟨o2,o0,[5,6,8,10]⟩)] .leaf) .leaf)) .leaf) .leaf))) .leaf)) (.tl (.two (.reg [] 8) .leaf)))) .leaf) .leaf))) .leaf)) .leaf)))))))))
def LG(lp:Lp)(c:Ca)(a0:D):Option D:=
 qS a0 λl1=>
 qC .gtr (Jn (l1.length)) (Jn 64) λb3=>
 if b3 then(some (D.st [(D.st [(D.sl [])]),(Jn 2)])) else((qZ lp (λv4=>
 qL a0 (gx v4 0) λb7=>
 if b7 then((qZ lp (λv8=>
 qC .lss (gx v8 0) (Jn 3) λb10=>
 if b10 then(qX a0 (gx v4 0) λx13=>
(D.idx (gx v8 0) 3).bind λi14=>
(D.fld x13 i14).bind λx15=>
 qC .gtr x15 (Jn 262144) λb17=>
(if b17 then(some true) else(qX a0 (gx v4 0) λx20=>
(D.idx (gx v8 0) 3).bind λi21=>
(D.fld x20 i21).bind λx22=>
 qB .lss x22 (Jn (-262144)) λx23=>
 D.truth x23)).bind λb24=>
 qT (D.bool b24) λb25=>
 if b25 then(iR (0,[(D.sl []),(Jn 1)])) else(qB .add (gx v8 0) (Jn 1) λx26=>
 iL [x26,(qW v8 1),(gx v8 2)])) else(iR (1,[(qW v8 1),(gx v8 2)]))) [(Jn 0),(qW v4 1),(gx v4 2)]).bind λr27=>
 if r27.1=0 then(iR (0,[(qW r27.2 0),(gx r27.2 1)])) else(qB .add (gx v4 0) (Jn 1) λx28=>
 iL [x28,(qW r27.2 0),(gx r27.2 1)])) else(iR (1,[(qW v4 1),(gx v4 2)]))) [(Jn 0),(D.sl []),(Jn 0)]).bind λr29=>
 if r29.1=0 then(some (D.st [(D.st [(qW r29.2 0)]),(gx r29.2 1)])) else((c 47 [a0]).bind λr30=>
(c 48 [r30]).bind λr31=>
 qS r31 λl32=>
 qT (D.bool (D.beq (Jn (l32.length)) (Jn 0))) λb33=>
 if b33 then(some (D.st [(D.st [(D.sl [])]),(Jn 120)])) else(qS r31 λl34=>
 qC .gtr (Jn (l34.length)) (Jn 64) λb36=>
 if b36 then(some (D.st [(D.st [(D.sl [])]),(Jn 2)])) else((qZ lp (λv37=>
 qL r30 (gx v37 0) λb40=>
 if b40 then(((qZ lp (λv41=>
 qL r31 (gx v41 1) λb44=>
 if b44 then((qZ lp (λv45=>
 qX r31 (gx v41 1) λx48=>
(D.fld x48 2).bind λx49=>
 qL x49 (gx v45 1) λb52=>
 if b52 then(qT (gx v45 0) λb53=>
(if b53 then(some true) else(qX r31 (gx v41 1) λx56=>
(D.fld x56 2).bind λx57=>
 qX x57 (gx v45 1) λx60=>
 D.truth (D.bool (D.beq x60 (gx v37 0))))).bind λb61=>
 qB .add (gx v45 1) (Jn 1) λx62=>
 iL [(D.bool b61),x62,(qW v45 2),(gx v45 3),(qW v45 4),(gx v45 5)]) else(iR (0,[(gx v45 0),(qW v45 2),(gx v45 3),(qW v45 4),(gx v45 5)]))) [(gx v41 0),(Jn 0),(qW v41 2),(gx v41 3),(qW v41 4),(gx v41 5)]).bind λr63=>
 qB .add (gx v41 1) (Jn 1) λx64=>
 iL [(gx r63.2 0),x64,(qW r63.2 1),(gx r63.2 2),(qW r63.2 3),(gx r63.2 4)]) else(iR (0,[(gx v41 0),(qW v41 2),(gx v41 3),(qW v41 4),(gx v41 5)]))) [(D.bool false),(Jn 0),(qW v37 1),(gx v37 2),(qW v37 3),(gx v37 4)]).bind λr65=>
 qT (gx r65.2 0) λb66=>
 if b66 then(qX r30 (gx v37 0) λx69=>
 if List.length (qV r65.2 3)+List.length [x69]<=1073741824 then(some (0,[(qW r65.2 1),(gx r65.2 2),(D.sl ((qV r65.2 3)++[x69])),(gx r65.2 4)])) else none) else(some (0,[(qW r65.2 1),(gx r65.2 2),(qW r65.2 3),(gx r65.2 4)]))).bind λ(r70:Nat×List D)=>
 qB .add (gx v37 0) (Jn 1) λx71=>
 iL [x71,(qW r70.2 0),(gx r70.2 1),(qW r70.2 2),(gx r70.2 3)]) else(iR (0,[(qW v37 1),(gx v37 2),(qW v37 3),(gx v37 4)]))) [(Jn 0),(qW r29.2 0),(gx r29.2 1),(D.sl []),(Jn 0)]).bind λr72=>
 some (D.st [(D.st [(qW r72.2 2)]),(gx r72.2 3)])))))
def WD{lp}(hlp:ar lp):aj 12 (m1 (LG lp)):=ba 0 Tryz.f169 VQ hlp
def VR:Ann:=(.tl (.tl (.two (.tl (.two (.loop ⟨[(5,.di)],[],[0,1]⟩ [(.ret,⟨[(4,.dv Ty.bool)],[],[]⟩),(.exit 0,⟨[],[],[]⟩)] (.tl (.two (.two (.two (.reg [] 8) .leaf) .leaf) .leaf))) .leaf)) .leaf)))
def NP(lp:Lp)(c:Ca)(a0:D)(a1:D):Option D:=
 qS a0 λl1=>
 qS a1 λl2=>
 qT (D.bool (!(D.beq (Jn (l1.length)) (Jn (l2.length))))) λb3=>
 if b3 then(some (D.bool false)) else((qZ lp (λv4=>
 qL a0 (gx v4 0) λb7=>
 if b7 then(qX a0 (gx v4 0) λx10=>
 qX a1 (gx v4 0) λx13=>
 qT (D.bool (!(D.beq x10 x13))) λb14=>
 if b14 then(iR (0,[(D.bool false)])) else(qB .add (gx v4 0) (Jn 1) λx15=>
 iL [x15])) else(iR (1,[]))) [(Jn 0)]).bind λr16=>
 if r16.1=0 then(some (gx r16.2 0)) else(some (D.bool true)))
def WE{lp}(hlp:ar lp):aj 13 (m2 (NP lp)):=a8 0 Tryz.f170 VR hlp
def NQ(lp:Lp)(c:Ca)(a0:D):Option D:=
 qG a0 [0] λx1=>
(c 12 [x1]).bind λr2=>
 qG r2 [1] λx3=>
 qT (D.bool (D.beq x3 (Jn 0))) λb4=>
(if b4 then(qG r2 [0,0] λx5=>
 qG a0 [0] λx6=>
(c 13 [x5,x6]).bind λr7=>
(D.un .not r7).bind λx8=>
 D.truth x8) else(some false)).bind λb9=>
 qT (D.bool b9) λb10=>
 if b10 then(some (Jn 3)) else(qG r2 [1] λx11=>
 some x11)
def WF{lp}(hlp:ar lp):aj 15 (m1 (NQ lp)):=ba 0 Tryz.f128 .leaf hlp
def VS:Ann:=(.tl (.tl (.two (.tl (.two (.loop ⟨[(1,.sp K3 4097),(3,.ow K6),(10,.di)],[(4097,.keep K3 1)],[8,9]⟩ [(.exit 0,⟨[(3,.ow K6)],[],[]⟩)] (.tl (.tl (.two (.two (.tl (.reg [] 11)) .leaf) .leaf)))) .leaf)) .leaf)))
def NR(lp:Lp)(c:Ca)(a0:D):Option D:=
 qG a0 [0] λx1=>
(c 45 [x1]).bind λr2=>
 qS r2 λl3=>
(qZ lp (λv4=>
 qC .lss (gx v4 1) (Jn (l3.length)) λb6=>
 if b6 then(qX r2 (gx v4 1) λx9=>
 qG x9 [0] λx10=>
 qG x9 [1] λx11=>
 qG a0 [0] λx12=>
(c 46 [x12,x9]).bind λr13=>
 if List.length (qV v4 0)+List.length [(D.st [x10,x11,r13])]<=1073741824 then(qB .add (gx v4 1) (Jn 1) λx14=>
 iL [(D.sl ((qV v4 0)++[(D.st [x10,x11,r13])])),x14]) else none) else(iR (0,[(qW v4 0)]))) [(D.sl []),(Jn 0)]).bind λr15=>
 some (qW r15.2 0)
def WG{lp}(hlp:ar lp):aj 18 (m1 (NR lp)):=ba 0 Tryz.f176 VS hlp
def NS(lp:Lp)(c:Ca)(a0:D):Option D:=
 qG a0 [0] λx1=>
(c 48 [x1]).bind λr2=>
 some r2
def WH{lp}(hlp:ar lp):aj 19 (m1 (NS lp)):=ba 0 Tryz.f171 .leaf hlp
def VU:Ann:=let o0:LS:=[(1,.sp K3 4097),(3,.ow K8),(7,.dv Ty.bool)]
 let o1:LS:=[(1,.sp K3 4097),(3,.ow K8)]
 (.tl (.tl (.tl (.two (.tl (.two (.loop ⟨[(1,.sp K3 4097),(3,.ow K8),(5,.di)],[(4097,.keep K3 1)],[4]⟩ [(.exit 0,⟨[(3,.ow K8)],[],[]⟩)] (.tl (.two (.two (.tl (.two (.loop ⟨[(1,.sp K3 4097),(3,.ow K8),(6,.di)],[(4097,.keep K3 1)],[4,5]⟩ [(.exit 2,⟨o1,[(4097,.keep K3 1)],[4,5]⟩)] (.tl (.cut [(.normal,⟨o1,[(4097,.keep K3 1)],[4,5,6]⟩)] [4,5,6] [4097] (.two (.tl (.two (.tl (.two (.loop ⟨[(1,.sp K3 4097),(3,.ow K8),(7,.dv Ty.bool),(8,.di)],[(4097,.keep K3 1)],[4,5,6]⟩ [(.exit 4,⟨o0,[(4097,.keep K3 1)],[4,5,6]⟩)] (.tl (.two (.two (.tl (.tl (.two (.loop ⟨[(1,.sp K3 4097),(3,.ow K8),(7,.dv Ty.bool),(10,.di)],[(4097,.keep K3 1)],[4,5,6,8,9]⟩ [(.exit 6,⟨o0,[(4097,.keep K3 1)],[4,5,6,8]⟩)] .leaf) .leaf))) .leaf) .leaf))) .leaf)) .leaf)) .leaf) .leaf))) .leaf)) .leaf) .leaf))) .leaf)) .leaf))))
def NT(lp:Lp)(c:Ca)(a0:D):Option D:=
(c 19 [a0]).bind λr1=>
(qZ lp (λv2=>
 qM a0 [0] (gx v2 1) λb6=>
 if b6 then(qB .add (gx v2 1) (Jn 1) λx7=>
(qZ lp (λv8=>
 qM a0 [0] (gx v8 1) λb12=>
 if b12 then(((qZ lp (λv13=>
 qL r1 (gx v13 2) λb16=>
 if b16 then(qX r1 (gx v13 2) λx19=>
(D.fld x19 2).bind λx20=>
(qZ lp (λv21=>
 qL x20 (gx v21 2) λb24=>
 if b24 then(qT (gx v21 1) λb25=>
(if b25 then(some true) else(qX x20 (gx v21 2) λx28=>
 qT (D.bool (D.beq x28 (gx v2 1))) λb29=>
 if b29 then(qB .add (gx v21 2) (Jn 1) λx30=>
 qS x20 λl31=>
 qB .rem x30 (Jn (l31.length)) λx32=>
 qX x20 x32 λx35=>
 D.truth (D.bool (D.beq x35 (gx v8 1)))) else(some false))).bind λb36=>
 qT (D.bool b36) λb37=>
(if b37 then(some true) else(qX x20 (gx v21 2) λx40=>
 qT (D.bool (D.beq x40 (gx v8 1))) λb41=>
 if b41 then(qB .add (gx v21 2) (Jn 1) λx42=>
 qS x20 λl43=>
 qB .rem x42 (Jn (l43.length)) λx44=>
 qX x20 x44 λx47=>
 D.truth (D.bool (D.beq x47 (gx v2 1)))) else(some false))).bind λb48=>
 qB .add (gx v21 2) (Jn 1) λx49=>
 iL [(qW v21 0),(D.bool b48),x49]) else(iR (0,[(qW v21 0),(gx v21 1)]))) [(qW v13 0),(gx v13 1),(Jn 0)]).bind λr50=>
 qB .add (gx v13 2) (Jn 1) λx51=>
 iL [(qW r50.2 0),(gx r50.2 1),x51]) else(iR (0,[(qW v13 0),(gx v13 1)]))) [(qW v8 0),(D.bool false),(Jn 0)]).bind λr52=>
 qT (gx r52.2 1) λb53=>
 if b53 then(if List.length (qV r52.2 0)+List.length [(D.st [(gx v2 1),(gx v8 1)])]<=1073741824 then(some (0,[(D.sl ((qV r52.2 0)++[(D.st [(gx v2 1),(gx v8 1)])]))])) else none) else(some (0,[(qW r52.2 0)]))).bind λ(r54:Nat×List D)=>
 qB .add (gx v8 1) (Jn 1) λx55=>
 iL [(qW r54.2 0),x55]) else(iR (0,[(qW v8 0)]))) [(qW v2 0),x7]).bind λr56=>
 qB .add (gx v2 1) (Jn 1) λx57=>
 iL [(qW r56.2 0),x57]) else(iR (0,[(qW v2 0)]))) [(D.sl []),(Jn 0)]).bind λr58=>
 some (qW r58.2 0)
def WI{lp}(hlp:ar lp):aj 22 (m1 (NT lp)):=ba 0 Tryz.f206 VU hlp
def VV:Ann:=let o0:LO:=[(4098,.one aK (.dv aK)),(8195,.one aK (.dv aK)),(20482,.keep K3 2)]
 (.tl (.tl (.two (.regI [] 3 (.two (.tl (.tl (.two (.loop ⟨[(1,.same (.clo 183 [(.ptr aK 8195 [])])),(2,.sp K3 20482),(11,.di)],o0,[9,10]⟩ [(.exit 0,⟨[],[(4098,.one aK (.dv aK)),(8195,.one aK (.dv aK))],[]⟩)] (.tl (.tl (.two (.two (.tl (.tl (.two (.loop ⟨[(1,.same (.clo 183 [(.ptr aK 8195 [])])),(2,.sp K3 20482),(5,.sp K6 36869),(6,.di)],[(4098,.one aK (.dv aK)),(8195,.one aK (.dv aK)),(20482,.keep K3 2),(36869,.keep K6 5)],[9,10,11]⟩ [(.exit 2,⟨[(1,.same (.clo 183 [(.ptr aK 8195 [])])),(2,.sp K3 20482)],o0,[9,10,11]⟩)] (.tl (.two (.two (.two (.reg [] 29) (.regI [] 10 .leaf)) .leaf) .leaf))) .leaf))) .leaf) .leaf)))) .leaf))) .leaf)) .leaf)))
def NU(lp:Lp)(c:Ca)(a0:D):Option D:=
(c 54 [(Jn 0)]).bind λr1=>
(c 18 [a0]).bind λr2=>
 qS r2 λl3=>
(qZ lp (λv4=>
 qC .lss (gx v4 0) (Jn (l3.length)) λb6=>
 if b6 then(qX r2 (gx v4 0) λx9=>
(qZ lp (λv10=>
 qM x9 [2] (gx v10 0) λb14=>
 if b14 then(qG a0 [0] λx15=>
 qY x9 [2] (Jn 0) λx19=>
 qX x15 x19 λx22=>
 qG a0 [0] λx23=>
 qG x9 [2] λx24=>
 qB .sub (gx v10 0) (Jn 1) λx25=>
 qX x24 x25 λx28=>
 qX x23 x28 λx31=>
 qG a0 [0] λx32=>
 qY x9 [2] (gx v10 0) λx36=>
 qX x32 x36 λx39=>
(c 117 [x22,x31]).bind λr40=>
(c 91 [r40,x39]).bind λr41=>
(c 57 [(gx v10 2),r41]).bind λr42=>
 qB .add (gx v10 0) (Jn 1) λx43=>
 iL [x43,(gx v10 1),r42]) else(iR (0,[(gx v10 1),(gx v10 2)]))) [(Jn 2),(gx v4 1),(gx v4 2)]).bind λr44=>
 qB .add (gx v4 0) (Jn 1) λx45=>
 iL [x45,(gx r44.2 0),(gx r44.2 1)]) else(iR (0,[(gx v4 1),(gx v4 2)]))) [(Jn 0),(D.st [(D.bool false),(D.bool false),(aJ bf)]),r1]).bind λr46=>
 some (gx r46.2 1)
def WJ{lp}(hlp:ar lp):aj 23 (m1 (NU lp)):=ba 0 Tryz.f142 VV hlp
def VW:Ann:=let o0:LO:=[(4098,.keep aK 2),(12292,.one aK (.dv aK))]
 (.tl (.tl (.tl (.two (.tl (.two (.loop ⟨[(2,.sp aK 4098),(4,.sp aK 12292),(5,.di)],o0,[3]⟩ [(.exit 0,⟨[(2,.sp aK 4098),(4,.sp aK 12292)],o0,[]⟩)] (.tl (.two (.two (.reg [] 7) .leaf) .leaf))) .leaf)) .leaf))))
def NV(lp:Lp)(c:Ca)(a0:D):Option D:=
(c 58 [a0]).bind λr1=>
(c 34 [(Jn 0)]).bind λr2=>
(qZ lp (λv3=>
 qL r1 (gx v3 0) λb6=>
 if b6 then(qX r1 (gx v3 0) λx9=>
(D.fld x9 1).bind λx10=>
(c 59 [(gx v3 1),x10]).bind λr11=>
 qB .add (gx v3 0) (Jn 1) λx12=>
 iL [x12,r11]) else(iR (0,[(gx v3 1)]))) [(Jn 0),r2]).bind λr13=>
 some (gx r13.2 0)
def WK{lp}(hlp:ar lp):aj 24 (m1 (NV lp)):=ba 0 Tryz.f151 VW hlp
end Sy
end
end
noncomputable section
set_option maxHeartbeats 0
noncomputable section
namespace Sy
open Go Go.Proofs
def VX:Ann:=let o0:LO:=[(4098,.one cd (.st [Ti,Ti,jL] [.di,.di,.ow aX])),(8195,.one pi (.dv pi)),(20482,.one K3 (.dv K3)),(36869,.one K6 (.dv K6)),(65539,.keep aK 3),(65540,.keep Ef 4)]
 let o1:LO:=[(4098,.one cd (.st [Ti,Ti,jL] [.di,.di,.ow aX])),(8195,.keep pi 3),(36868,.keep aK 4),(40965,.one cd (.st [Ti,Ti,jL] [.di,.di,.ow aX]))]
 let o2:LO:=[(4098,.one cd (.st [Ti,Ti,jL] [.di,.di,.ow aX])),(8195,.keep pi 2),(20482,.one K3 (.dv K3)),(36869,.one K6 (.dv K6)),(65539,.keep aK 3),(65540,.keep Ef 4)]
 let o3:LO:=[(4098,.one cd (.st [Ti,Ti,jL] [.di,.di,.ow aX])),(8195,.one pi (.dv pi)),(20482,.keep K3 2)]
 (.tl (.tl (.two (.regI [] 3 (.two (.tl (.tl (.two (.loop ⟨[(1,.same (.clo 135 [(.ptr pi 8195 [])])),(2,.sp K3 20482),(11,.di)],o3,[9,10]⟩ [(.exit 0,⟨[],[(4098,.one cd (.st [Ti,Ti,jL] [.di,.di,.ow aX])),(8195,.one pi (.dv pi))],[]⟩)] (.tl (.tl (.two (.two (.tl (.tl (.two (.loop ⟨[(1,.same (.clo 135 [(.ptr pi 8195 [])])),(2,.sp K3 20482),(5,.sp K6 36869),(6,.di)],[(4098,.one cd (.st [Ti,Ti,jL] [.di,.di,.ow aX])),(8195,.one pi (.dv pi)),(20482,.keep K3 2),(36869,.keep K6 5)],[9,10,11]⟩ [(.exit 2,⟨[(1,.same (.clo 135 [(.ptr pi 8195 [])])),(2,.sp K3 20482)],o3,[9,10,11]⟩)] (.tl (.two (.two (.two (.reg [] 29) (.regI [] 10 (.two (.tl (.tl (.two (.loop ⟨[(2,.sp pi 8195),(3,.sp aK 65539),(4,.sp Ef 65540),(10,.di)],o0,[]⟩ [(.exit 0,⟨[],[(4098,.one cd (.st [Ti,Ti,jL] [.di,.di,.ow aX])),(8195,.one pi (.dv pi)),(20482,.one K3 (.dv K3)),(36869,.one K6 (.dv K6))],[]⟩)] (.tl (.tl (.two (.two (.tl (.tl (.two (.loop ⟨[(2,.sp pi 8195),(3,.sp aK 65539),(4,.sp Ef 65540),(13,.di)],o0,[5,10]⟩ [(.exit 2,⟨[(2,.sp pi 8195),(3,.sp aK 65539),(4,.sp Ef 65540)],o0,[10]⟩)] (.tl (.tl (.two (.two (.tl (.two (.reg [] 29) (.two (.tl (.two (.loop ⟨[(2,.sp pi 8195),(3,.sp aK 65539),(4,.sp Ef 65540),(7,.di),(46,.di)],o2,[5,6,10,13,45]⟩ [(.exit 4,⟨[(2,.sp pi 8195),(3,.sp aK 65539),(4,.sp Ef 65540),(7,.di)],o2,[5,6,10,13]⟩)] (.tl (.tl (.two (.two (.tl (.reg [] 9)) .leaf) .leaf)))) .leaf)) (.reg [] 14)))) .leaf) .leaf)))) .leaf))) .leaf) .leaf)))) .leaf))) .leaf))) .leaf) .leaf))) .leaf))) .leaf) .leaf)))) .leaf))) .leaf)) (.two (.reg [] 12) (.tl (.two (.tl (.two (.loop ⟨[(2,.sp cd 4098),(3,.sp pi 8195),(4,.sp aK 36868),(5,.sp cd 40965),(24,.di)],o1,[]⟩ [(.exit 0,⟨[(2,.sp cd 4098),(5,.sp cd 40965)],[(4098,.one cd (.st [Ti,Ti,jL] [.di,.di,.ow aX])),(40965,.one cd (.st [Ti,Ti,jL] [.di,.di,.ow aX]))],[]⟩)] (.tl (.tl (.two (.two (.tl (.tl (.two (.loop ⟨[(2,.sp cd 4098),(3,.sp pi 8195),(4,.sp aK 36868),(5,.sp cd 40965),(27,.di)],o1,[6,24]⟩ [(.exit 2,⟨[(2,.sp cd 4098),(3,.sp pi 8195),(4,.sp aK 36868),(5,.sp cd 40965)],o1,[24]⟩)] (.tl (.tl (.two (.two (.tl (.tl (.cut [(.normal,⟨[(2,.sp cd 4098),(3,.sp pi 8195),(4,.sp aK 36868),(5,.sp cd 40965),(8,.sp aK 77832)],[(4098,.one cd (.st [Ti,Ti,jL] [.di,.di,.ow aX])),(8195,.keep pi 3),(36868,.keep aK 4),(40965,.one cd (.st [Ti,Ti,jL] [.di,.di,.ow aX])),(77832,.one aK (.dv aK))],[6,24,27]⟩)] [6,24,27] [8195,36868] .leaf (.reg [] 6)))) .leaf) .leaf)))) .leaf))) .leaf) .leaf)))) .leaf)) .leaf))))))
def NW(lp:Lp)(c:Ca)(a0:D):Option D:=
(c 18 [a0]).bind λr1=>
 qS r1 λl2=>
(qZ lp (λv3=>
 qC .lss (gx v3 0) (Jn (l2.length)) λb5=>
 if b5 then(qX r1 (gx v3 0) λx8=>
(qZ lp (λv9=>
 qM x8 [2] (gx v9 0) λb13=>
 if b13 then(qG a0 [0] λx14=>
 qY x8 [2] (Jn 0) λx18=>
 qX x14 x18 λx21=>
 qG a0 [0] λx22=>
 qG x8 [2] λx23=>
 qB .sub (gx v9 0) (Jn 1) λx24=>
 qX x23 x24 λx27=>
 qX x22 x27 λx30=>
 qG a0 [0] λx31=>
 qY x8 [2] (gx v9 0) λx35=>
 qX x31 x35 λx38=>
(c 117 [x21,x30]).bind λr39=>
(c 91 [r39,x38]).bind λr40=>
(qZ lp (λv41=>
 qC .lss (gx v41 0) (Jn 3) λb43=>
 if b43 then((qZ lp (λv44=>
 qC .lss (gx v44 0) (Jn 3) λb46=>
 if b46 then(qJ (gx v41 0) 3 x21 λx48=>
 qJ (gx v41 0) 3 x30 λx50=>
 qB .add x48 x50 λx51=>
 qJ (gx v41 0) 3 x38 λx53=>
 qB .add x51 x53 λx54=>
 qJ (gx v44 0) 3 x21 λx56=>
 qJ (gx v44 0) 3 x30 λx58=>
 qB .add x56 x58 λx59=>
 qJ (gx v44 0) 3 x38 λx61=>
 qB .add x59 x61 λx62=>
 qB .mul x54 x62 λx63=>
(qZ lp (λv64=>
 qC .lss (gx v64 1) (Jn 3) λb66=>
 if b66 then((D.idx (gx v64 1) 3).bind λi67=>
(D.fld (D.st [x21,x30,x38]) i67).bind λx68=>
 qJ (gx v41 0) 3 x68 λx70=>
 qJ (gx v44 0) 3 x68 λx72=>
 qB .mul x70 x72 λx73=>
 qB .add (gx v64 0) x73 λx74=>
 qB .add (gx v64 1) (Jn 1) λx75=>
 iL [x74,x75,(gx v64 2),(gx v64 3),(qW v64 4),(gx v64 5),(gx v64 6)]) else(iR (0,[(gx v64 0),(gx v64 2),(gx v64 3),(qW v64 4),(gx v64 5),(gx v64 6)]))) [x63,(Jn 0),(gx v44 1),(gx v44 2),(qW v44 3),(gx v44 5),(gx v44 6)]).bind λr76=>
(D.idx (gx v41 0) 3).bind λi77=>
(D.idx (gx v44 0) 3).bind λi78=>
 qG (gx v44 4) [i77,i78] λx79=>
(c 54 [(gx r76.2 0)]).bind λr80=>
(c 61 [r40,r80]).bind λr81=>
(c 57 [x79,r81]).bind λr82=>
(D.idx (gx v41 0) 3).bind λi83=>
(D.idx (gx v44 0) 3).bind λi84=>
(D.set (gx v44 4) [i83,i84] r82).bind λx85=>
 qB .add (gx v44 0) (Jn 1) λx86=>
 iL [x86,(gx r76.2 1),(gx r76.2 2),(qW r76.2 3),x85,(gx r76.2 4),(gx r76.2 5)]) else(iR (0,[(gx v44 1),(gx v44 2),(qW v44 3),(gx v44 4),(gx v44 5),(gx v44 6)]))) [(Jn 0),(gx v41 1),(gx v41 2),(qW v41 3),(gx v41 4),(gx v41 5),(gx v41 6)]).bind λr87=>
 qB .add (gx v41 0) (Jn 1) λx88=>
 iL [x88,(gx r87.2 0),(gx r87.2 1),(qW r87.2 2),(gx r87.2 3),(gx r87.2 4),(gx r87.2 5)]) else(iR (0,[(gx v41 1),(gx v41 2),(qW v41 3),(gx v41 4),(gx v41 5),(gx v41 6)]))) [(Jn 0),(gx v9 1),(gx v9 2),(qW v9 3),(gx v9 4),a0,x8]).bind λr89=>
 qB .add (gx v9 0) (Jn 1) λx90=>
 iL [x90,(gx r89.2 0),(gx r89.2 1),(qW r89.2 2),(gx r89.2 3)]) else(iR (0,[(gx v9 1),(gx v9 2),(qW v9 3),(gx v9 4)]))) [(Jn 2),(gx v3 1),(gx v3 2),(qW v3 3),(gx v3 4)]).bind λr91=>
 qB .add (gx v3 0) (Jn 1) λx92=>
 iL [x92,(gx r91.2 0),(gx r91.2 1),(qW r91.2 2),(gx r91.2 3)]) else(iR (0,[(gx v3 1),(gx v3 2),(qW v3 3),(gx v3 4)]))) [(Jn 0),(Jn 0),(Jn 0),(D.sl []),(D.st [(D.st [(D.st [(D.bool false),(D.bool false),(aJ bf)]),(D.st [(D.bool false),(D.bool false),(aJ bf)]),(D.st [(D.bool false),(D.bool false),(aJ bf)])]),(D.st [(D.st [(D.bool false),(D.bool false),(aJ bf)]),(D.st [(D.bool false),(D.bool false),(aJ bf)]),(D.st [(D.bool false),(D.bool false),(aJ bf)])]),(D.st [(D.st [(D.bool false),(D.bool false),(aJ bf)]),(D.st [(D.bool false),(D.bool false),(aJ bf)]),(D.st [(D.bool false),(D.bool false),(aJ bf)])])])]).bind λr93=>
 qG (gx r93.2 3) [0,0] λx94=>
 qG (gx r93.2 3) [1,1] λx95=>
(c 57 [x94,x95]).bind λr96=>
 qG (gx r93.2 3) [2,2] λx97=>
(c 57 [r96,x97]).bind λr98=>
(qZ lp (λv99=>
 qC .lss (gx v99 0) (Jn 3) λb101=>
 if b101 then((qZ lp (λv102=>
 qC .lss (gx v102 0) (Jn 3) λb104=>
 if b104 then((D.idx (gx v99 0) 3).bind λi105=>
(D.idx (gx v102 0) 3).bind λi106=>
 qG (gx r93.2 3) [i105,i106] λx107=>
(c 68 [x107]).bind λr108=>
(qT (D.bool (D.beq (gx v99 0) (gx v102 0))) λb109=>
 if b109 then((c 57 [r108,r98]).bind λr110=>
 some (0,[(gx v102 1),(gx v102 2),(qW v102 3),(gx v102 4),(gx v102 5),(qW v102 6),r110])) else(some (0,[(gx v102 1),(gx v102 2),(qW v102 3),(gx v102 4),(gx v102 5),(qW v102 6),r108]))).bind λ(r111:Nat×List D)=>
(c 54 [(Jn 120)]).bind λr112=>
(c 62 [(gx r111.2 6),r112]).bind λr113=>
 if List.length (qV r111.2 5)+List.length [r113]<=1073741824 then(qB .add (gx v102 0) (Jn 1) λx114=>
 iL [x114,(gx r111.2 0),(gx r111.2 1),(qW r111.2 2),(gx r111.2 3),(gx r111.2 4),(D.sl ((qV r111.2 5)++[r113]))]) else none) else(iR (0,[(gx v102 1),(gx v102 2),(qW v102 3),(gx v102 4),(gx v102 5),(qW v102 6)]))) [(Jn 0),(gx v99 1),(gx v99 2),(qW v99 3),(gx v99 4),(gx v99 5),(qW v99 6)]).bind λr115=>
 qB .add (gx v99 0) (Jn 1) λx116=>
 iL [x116,(gx r115.2 0),(gx r115.2 1),(qW r115.2 2),(gx r115.2 3),(gx r115.2 4),(qW r115.2 5)]) else(iR (0,[(gx v99 1),(gx v99 2),(qW v99 3),(gx v99 4),(gx v99 5),(qW v99 6)]))) [(Jn 0),(gx r93.2 0),(gx r93.2 1),(qW r93.2 2),(Jn 3),(Jn 3),(D.sl [])]).bind λr117=>
 some (D.st [(gx r117.2 3),(gx r117.2 4),(qW r117.2 5)])
def WL{lp}(hlp:ar lp):aj 28 (m1 (NW lp)):=ba 0 Tryz.f84 VX hlp
def VY:Ann:=let o0:LO:=[(4098,.one cd (.st [Ti,Ti,jL] [.di,.di,.ow aX])),(12292,.keep aX 4),(16389,.one cd (.st [Ti,Ti,jL] [.di,.di,.ow aX]))]
 (.tl (.tl (.tl (.tl (.two (.tl (.two (.loop ⟨[(2,.sp cd 4098),(4,.sp aX 12292),(5,.sp cd 16389),(6,.di)],o0,[3]⟩ [(.exit 0,⟨[(2,.sp cd 4098),(5,.sp cd 16389)],[(4098,.one cd (.st [Ti,Ti,jL] [.di,.di,.ow aX])),(16389,.one cd (.st [Ti,Ti,jL] [.di,.di,.ow aX]))],[]⟩)] (.tl (.two (.two (.tl (.two (.loop ⟨[(2,.sp cd 4098),(4,.sp aX 12292),(5,.sp cd 16389),(7,.di)],o0,[3,6]⟩ [(.exit 2,⟨[(2,.sp cd 4098),(4,.sp aX 12292),(5,.sp cd 16389)],o0,[3,6]⟩)] (.tl (.two (.two (.tl (.cut [(.normal,⟨[(2,.sp cd 4098),(4,.sp aX 12292),(5,.sp cd 16389),(8,.sp aX 45064)],[(4098,.one cd (.st [Ti,Ti,jL] [.di,.di,.ow aX])),(12292,.keep aX 4),(16389,.one cd (.st [Ti,Ti,jL] [.di,.di,.ow aX])),(45064,.one aX (.dv aX))],[3,6,7]⟩)] [3,6,7] [12292] .leaf .leaf)) .leaf) .leaf))) .leaf)) .leaf) .leaf))) .leaf)) .leaf)))))
def NX(lp:Lp)(c:Ca)(a0:D):Option D:=
(c 58 [a0]).bind λr1=>
(c 69 [r1,(Jn 0),(Jn 0)]).bind λr2=>
(c 69 [r1,(Jn 1),(Jn 1)]).bind λr3=>
(c 40 [r2,r3]).bind λr4=>
(c 69 [r1,(Jn 2),(Jn 2)]).bind λr5=>
(c 40 [r4,r5]).bind λr6=>
(qZ lp (λv7=>
 qC .lss (gx v7 0) (Jn 3) λb9=>
 if b9 then((qZ lp (λv10=>
 qC .lss (gx v10 0) (Jn 3) λb12=>
 if b12 then((c 69 [r1,(gx v7 0),(gx v10 0)]).bind λr13=>
(c 70 [r13]).bind λr14=>
(qT (D.bool (D.beq (gx v7 0) (gx v10 0))) λb15=>
 if b15 then((c 40 [r6,r14]).bind λr16=>
 some (0,[(gx v10 1),(gx v10 2),(qW v10 3),(gx v10 4),(gx v10 5),(qW v10 6),r16])) else(some (0,[(gx v10 1),(gx v10 2),(qW v10 3),(gx v10 4),(gx v10 5),(qW v10 6),r14]))).bind λ(r17:Nat×List D)=>
 if List.length (qV r17.2 5)+List.length [(gx r17.2 6)]<=1073741824 then(qB .add (gx v10 0) (Jn 1) λx18=>
 iL [x18,(gx r17.2 0),(gx r17.2 1),(qW r17.2 2),(gx r17.2 3),(gx r17.2 4),(D.sl ((qV r17.2 5)++[(gx r17.2 6)]))]) else none) else(iR (0,[(gx v10 1),(gx v10 2),(qW v10 3),(gx v10 4),(gx v10 5),(qW v10 6)]))) [(Jn 0),(gx v7 1),(gx v7 2),(qW v7 3),(gx v7 4),(gx v7 5),(qW v7 6)]).bind λr19=>
 qB .add (gx v7 0) (Jn 1) λx20=>
 iL [x20,(gx r19.2 0),(gx r19.2 1),(qW r19.2 2),(gx r19.2 3),(gx r19.2 4),(qW r19.2 5)]) else(iR (0,[(gx v7 1),(gx v7 2),(qW v7 3),(gx v7 4),(gx v7 5),(qW v7 6)]))) [(Jn 0),(Jn 0),(Jn 0),(D.sl []),(Jn 3),(Jn 3),(D.sl [])]).bind λr21=>
 some (D.st [(gx r21.2 3),(gx r21.2 4),(qW r21.2 5)])
def WM{lp}(hlp:ar lp):aj 29 (m1 (NX lp)):=ba 0 Tryz.f94 VY hlp
def VZ:Ann:=(.tl (.tl (.tl (.tl (.tl (.tl (.tl (.cut [(.normal,⟨[(5,.dv K5),(6,.dv K5)],[],[]⟩)] [] [] .leaf .leaf))))))))
def NY(lp:Lp)(c:Ca)(a0:D)(a1:D):Option D:=
(c 76 [a0]).bind λr1=>
 qN r1 λb3=>
(if b3 then((c 76 [a1]).bind λr4=>
(D.un .not r4).bind λx5=>
 D.truth x5) else(some false)).bind λb6=>
 qT (D.bool b6) λb7=>
 if b7 then(some (Jn 0)) else((c 76 [a0]).bind λr8=>
 qN r8 λb10=>
 if b10 then(some (Jn (-1))) else((c 76 [a1]).bind λr11=>
 qN r11 λb13=>
 if b13 then(some (Jn 1)) else(qG a0 [1] λx14=>
 qG a1 [1] λx15=>
 qT (D.bool (!(D.beq x14 x15))) λb16=>
 if b16 then(qG a0 [1] λx17=>
 qT x17 λb18=>
 if b18 then(some (Jn (-1))) else(some (Jn 1))) else((c 77 [a0]).bind λr19=>
(c 77 [a1]).bind λr20=>
(qG a0 [1] λx21=>
 qT x21 λb22=>
 if b22 then((c 77 [a1]).bind λr23=>
(c 77 [a0]).bind λr24=>
 some (0,[r23,r24])) else(some (0,[r19,r20]))).bind λ(r25:Nat×List D)=>
(c 78 [(gx r25.2 0),(gx r25.2 1)]).bind λr26=>
(c 78 [(gx r25.2 1),(gx r25.2 0)]).bind λr27=>
 qT r26 λb28=>
 if b28 then(some (Jn (-1))) else(qT r27 λb29=>
 if b29 then(some (Jn 1)) else(some (Jn 0)))))))
def WN{lp}(hlp:ar lp):aj 32 (m2 (NY lp)):=a8 0 Tryz.f72 VZ hlp
def V0:Ann:=(.tl (.two (.reg [] 5) .leaf))
def NZ(lp:Lp)(c:Ca)(a0:D)(a1:D):Option D:=
(c 80 [a0]).bind λr1=>
(c 80 [a1]).bind λr2=>
(c 79 [r1,r2]).bind λr3=>
 some r3
def WO{lp}(hlp:ar lp):aj 33 (m2 (NZ lp)):=a8 0 Tryz.f185 V0 hlp
def N0(lp:Lp)(c:Ca)(a0:D):Option D:=
 qC .geq a0 (Jn 0) λb2=>
 if b2 then(qB .rem a0 (Jn 65536) λx3=>
 qB .quo a0 (Jn 65536) λx4=>
 qB .rem x4 (Jn 65536) λx5=>
 qB .quo a0 (Jn 4294967296) λx6=>
 qB .rem x6 (Jn 65536) λx7=>
 qB .quo a0 (Jn 281474976710656) λx8=>
(c 81 [(D.bool false),(D.sl [x3,x5,x7,x8])]).bind λr9=>
 some r9) else(qB .add a0 (Jn 1) λx10=>
(D.un .neg x10).bind λx11=>
 qB .rem x11 (Jn 65536) λx12=>
 qB .quo x11 (Jn 65536) λx13=>
 qB .rem x13 (Jn 65536) λx14=>
 qB .quo x11 (Jn 4294967296) λx15=>
 qB .rem x15 (Jn 65536) λx16=>
 qB .quo x11 (Jn 281474976710656) λx17=>
(c 82 [(D.sl [x12,x14,x16,x17]),(D.sl [(Jn 1)])]).bind λr18=>
(c 81 [(D.bool true),r18]).bind λr19=>
 some r19)
def WP{lp}(hlp:ar lp):aj 34 (m1 (N0 lp)):=ba 0 Tryz.f69 .leaf hlp
def V1:Ann:=(.tl (.tl (.tl (.cut [(.normal,⟨[(2,.sp aK 4098),(3,.sp aK 4099),(4,.sp aX 4100),(5,.sp aK 12293)],[(4098,.keep aK 2),(4099,.keep aK 3),(4100,.keep aX 4),(12293,.one aK (.dv aK))],[]⟩)] [] [4098,4099,4100] .leaf (.two (.reg [] 7) .leaf)))))
def LH(lp:Lp)(c:Ca)(a0:D)(a1:D):Option D:=
(c 76 [a0]).bind λr1=>
 qN r1 λb3=>
(if b3 then(some true) else((c 76 [a1]).bind λr4=>
(D.un .not r4).bind λx5=>
 D.truth x5)).bind λb6=>
 qT (D.bool b6) λb7=>
(if b7 then(some true) else((c 83 [a1]).bind λr8=>
 D.truth (D.bool (D.beq r8 (Jn 0))))).bind λb9=>
 qT (D.bool b9) λb10=>
 if b10 then((c 84 []).bind λr11=>
 some r11) else((c 85 [a0,a1]).bind λr12=>
((c 83 [a1]).bind λr13=>
 qC .lss r13 (Jn 0) λb15=>
 if b15 then((c 86 [r12]).bind λr16=>
 some (0,[r16])) else(some (0,[r12]))).bind λ(r17:Nat×List D)=>
(c 87 [a0,(gx r17.2 0)]).bind λr18=>
(c 87 [a1,(gx r17.2 0)]).bind λr19=>
 some (D.st [r18,r19]))
def WQ{lp}(hlp:ar lp):aj 37 (m2 (LH lp)):=a8 0 Tryz.f67 V1 hlp
def Mh(lp:Lp)(c:Ca)(a0:D)(a1:D):Option D:=
(c 88 [a0]).bind λr1=>
 qN r1 λb3=>
(if b3 then(some true) else((c 88 [a1]).bind λr4=>
(D.un .not r4).bind λx5=>
 D.truth x5)).bind λb6=>
 qT (D.bool b6) λb7=>
 if b7 then((c 84 []).bind λr8=>
 some r8) else(qG a0 [0] λx9=>
 qG a1 [1] λx10=>
(c 37 [x9,x10]).bind λr11=>
 qG a1 [0] λx12=>
 qG a0 [1] λx13=>
(c 37 [x12,x13]).bind λr14=>
 qG r11 [0] λx15=>
 qG r14 [0] λx16=>
(c 89 [x15,x16]).bind λr17=>
 qG r11 [1] λx18=>
 qG r14 [1] λx19=>
(c 89 [x18,x19]).bind λr20=>
(c 37 [r17,r20]).bind λr21=>
 some r21)
def WR{lp}(hlp:ar lp):aj 38 (m2 (Mh lp)):=a8 0 Tryz.f28 .leaf hlp
def V2:Ann:=(.tl (.tl (.tl (.tl (.tl (.two (.reg [] 14) .leaf))))))
def N3(lp:Lp)(c:Ca)(a0:D)(a1:D):Option D:=
(c 88 [a0]).bind λr1=>
 qN r1 λb3=>
(if b3 then(some true) else((c 88 [a1]).bind λr4=>
(D.un .not r4).bind λx5=>
 D.truth x5)).bind λb6=>
 qT (D.bool b6) λb7=>
 if b7 then((c 84 []).bind λr8=>
 some r8) else(qG a0 [1] λx9=>
 qG a1 [1] λx10=>
(c 85 [x9,x10]).bind λr11=>
 qG a0 [1] λx12=>
(c 87 [x12,r11]).bind λr13=>
 qG a1 [1] λx14=>
(c 87 [x14,r11]).bind λr15=>
 qG a0 [0] λx16=>
(c 89 [x16,r15]).bind λr17=>
 qG a1 [0] λx18=>
(c 89 [x18,r13]).bind λr19=>
(c 59 [r17,r19]).bind λr20=>
 qG a1 [1] λx21=>
(c 89 [r13,x21]).bind λr22=>
(c 37 [r20,r22]).bind λr23=>
 some r23)
def WS{lp}(hlp:ar lp):aj 40 (m2 (N3 lp)):=a8 0 Tryz.f34 V2 hlp
end Sy
end
end
noncomputable section
set_option maxHeartbeats 0
noncomputable section
namespace Sy
open Go Go.Proofs
def V3:Ann:=let o0:LO:=[(4098,.keep K2 2),(4099,.keep dN 3),(8197,.one K5 (.dv K5))]
 let o1:LO:=[(4098,.keep K2 2),(4099,.keep dN 3),(8197,.one K5 (.ow Ti))]
 let o2:LO:=[(4098,.keep K2 2),(4099,.keep dN 3),(8197,.keep K5 1)]
 let o3:LS:=[(2,.sp K2 4098),(3,.sp dN 4099),(5,.sp K5 8197)]
 let o4:LS:=[(2,.sp K2 4098),(3,.sp dN 4099),(6,.di)]
 (.tl (.tl (.two (.tl (.two (.loop ⟨[(2,.sp K2 4098),(3,.sp dN 4099),(5,.sp K5 8197),(13,.di)],o1,[11,12]⟩ [(.exit 0,⟨o3,o1,[]⟩)] (.tl (.tl (.cut [(.normal,⟨o3,o1,[11,12,13]⟩)] [11,12,13] [4098,4099] (.two (.tl (.two (.reg [] 6) .leaf)) .leaf) .leaf)))) .leaf)) (.tl (.tl (.two (.two (.regI [] 6 (.two (.tl (.tl (.two (.tl (.two (.loop ⟨[(2,.sp K2 4098),(3,.sp dN 4099),(6,.di),(12,.dv K5),(14,.di)],o0,[0,13]⟩ [(.exit 0,⟨[(6,.di)],o0,[]⟩)] (.tl (.tl (.cut [(.normal,⟨o4,o0,[0,12,13,14]⟩)] [0,12,13,14] [4098,4099] (.two (.tl (.tl (.tl (.two (.reg [] 20) .leaf)))) .leaf) .leaf)))) .leaf)) .leaf))) .leaf)) (.two (.loop ⟨[(5,.sp K5 8197),(8,.same (.clo 240 [(.ptr K5 8197 []),(.ptr K2 4098 []),(.ptr dN 4099 [])])),(9,.ow Ti),(10,.di)],[(4098,.keep K2 2),(4099,.keep dN 3),(8197,.keep K5 5)],[]⟩ [(.exit 2,⟨[(9,.ow Ti)],[],[]⟩)] (.tl (.tl (.regI [] 4 (.two (.tl (.tl (.two (.tl (.two (.loop ⟨[(2,.sp K2 4098),(3,.sp dN 4099),(6,.di),(14,.di)],o2,[0,12,13]⟩ [(.exit 0,⟨[(6,.di)],o2,[]⟩)] (.tl (.tl (.cut [(.normal,⟨o4,o0,[0,12,13,14]⟩)] [0,12,13,14] [4098,4099] (.two (.tl (.tl (.tl (.two (.reg [] 20) .leaf)))) .leaf) .leaf)))) .leaf)) .leaf))) .leaf))))) .leaf)) .leaf))))))
def N5(lp:Lp)(c:Ca)(a0:D)(a1:D):Option D:=
 qS a0 λl1=>
(qZ lp (λv2=>
 qC .lss (gx v2 0) (Jn (l1.length)) λb4=>
 if b4 then((qX a0 (gx v2 0) λx7=>
 qG a1 [0] λx8=>
(c 101 [x8,x7]).bind λr9=>
 qG a1 [1] λx10=>
 qT (D.bool (D.beq r9 x10)) λb11=>
 if b11 then(if List.length (qV v2 1)+List.length [(gx v2 0)]<=1073741824 then(some (0,[(D.sl ((qV v2 1)++[(gx v2 0)]))])) else none) else(some (0,[(qW v2 1)]))).bind λ(r12:Nat×List D)=>
 qB .add (gx v2 0) (Jn 1) λx13=>
 iL [x13,(qW r12.2 0)]) else(iR (0,[(qW v2 1)]))) [(Jn 0),(D.sl [])]).bind λr14=>
(D.idx (Jn 0) (List.length (qV r14.2 0))).bind λi15=>
((qV r14.2 0)[i15]?).bind λx16=>
(D.idx (Jn 0) (List.length (qV r14.2 0))).bind λi17=>
((qV r14.2 0)[i17]?).bind λx18=>
(qZ lp (λv19=>
 qC .lss (gx v19 2) (Jn (List.length (qV r14.2 0))) λb21=>
 if b21 then((qX (gx v19 1) (gx v19 2) λx24=>
 qT (D.bool (D.beq x24 x18)) λb25=>
 if b25 then(some (0,[(gx v19 0),(gx v19 3)])) else(qC .lss (gx v19 0) (Jn 0) λb27=>
 if b27 then(some (0,[x24,(gx v19 3)])) else(qX a0 x24 λx30=>
 qX a0 x18 λx33=>
(c 103 [x30,x33]).bind λr34=>
 qX a0 (gx v19 0) λx37=>
 qX a0 x18 λx40=>
(c 103 [x37,x40]).bind λr41=>
 qG a1 [0] λx42=>
(c 104 [x42,r41,r34]).bind λr43=>
 qC .lss r43 (Jn 0) λb45=>
(if b45 then(some true) else(qT (D.bool (D.beq r43 (Jn 0))) λb46=>
 if b46 then((c 101 [r34,r34]).bind λr47=>
(c 101 [r41,r41]).bind λr48=>
 qB .gtr r47 r48 λx49=>
 D.truth x49) else(some false))).bind λb50=>
 qT (D.bool b50) λb51=>
 if b51 then(some (0,[x24,(gx v19 3)])) else(some (0,[(gx v19 0),(gx v19 3)]))))).bind λ(r52:Nat×List D)=>
 qB .add (gx v19 2) (Jn 1) λx53=>
 iL [(gx r52.2 0),(gx v19 1),x53,(gx r52.2 1)]) else(iR (0,[(gx v19 0),(gx v19 3)]))) [(Jn (-1)),(qW r14.2 0),(Jn 0),(qW r14.2 0)]).bind λr54=>
(qZ lp (λv55=>
 qX (gx r54.2 1) (Jn 0) λx58=>
 qT (D.bool (!(D.beq (gx v55 1) x58))) λb59=>
 if b59 then(if List.length (qV v55 0)+List.length [(gx v55 1)]<=1073741824 then(qS (gx r54.2 1) λl60=>
(qZ lp (λv61=>
 qC .lss (gx v61 1) (Jn (l60.length)) λb63=>
 if b63 then((qX (gx r54.2 1) (gx v61 1) λx66=>
 qT (D.bool (D.beq x66 (gx v55 1))) λb67=>
 if b67 then(some (0,[(gx v61 0),(gx r54.2 1)])) else(qC .lss (gx v61 0) (Jn 0) λb69=>
 if b69 then(some (0,[x66,(gx r54.2 1)])) else(qX a0 x66 λx72=>
 qX a0 (gx v55 1) λx75=>
(c 103 [x72,x75]).bind λr76=>
 qX a0 (gx v61 0) λx79=>
 qX a0 (gx v55 1) λx82=>
(c 103 [x79,x82]).bind λr83=>
 qG a1 [0] λx84=>
(c 104 [x84,r83,r76]).bind λr85=>
 qC .lss r85 (Jn 0) λb87=>
(if b87 then(some true) else(qT (D.bool (D.beq r85 (Jn 0))) λb88=>
 if b88 then((c 101 [r76,r76]).bind λr89=>
(c 101 [r83,r83]).bind λr90=>
 qB .gtr r89 r90 λx91=>
 D.truth x91) else(some false))).bind λb92=>
 qT (D.bool b92) λb93=>
 if b93 then(some (0,[x66,(gx r54.2 1)])) else(some (0,[(gx v61 0),(gx r54.2 1)]))))).bind λ(r94:Nat×List D)=>
 qB .add (gx v61 1) (Jn 1) λx95=>
 iL [(gx r94.2 0),x95]) else(iR (0,[(gx v61 0)]))) [(Jn (-1)),(Jn 0)]).bind λr96=>
 iL [(D.sl ((qV v55 0)++[(gx v55 1)])),(gx r96.2 0)]) else none) else(iR (0,[(qW v55 0)]))) [(D.sl [x16]),(gx r54.2 0)]).bind λr97=>
 some (qW r97.2 0)
def WU{lp}(hlp:ar lp):aj 46 (m2 (N5 lp)):=a8 0 Tryz.f211 V3 hlp
def V4:Ann:=let o0:LS:=[(3,.ow K1),(5,.ow K1),(6,.dv Ty.bool)]
 (.tl (.tl (.two (.tl (.two (.loop ⟨[(3,.ow K1),(4,.di)],[],[0]⟩ [(.exit 0,⟨[(3,.ow K1)],[],[]⟩)] (.tl (.two (.two (.tl (.tl (.two (.tl (.two (.loop ⟨[(3,.ow K1),(5,.ow K1),(6,.dv Ty.bool),(7,.di)],[],[0,4]⟩ [(.exit 2,⟨[(5,.ow K1),(6,.dv Ty.bool)],[],[0,4]⟩)] (.tl (.cut [(.normal,⟨o0,[],[0,4,7]⟩)] [0,4,7] [] (.two (.two (.reg [] 9) (.cut [(.normal,⟨o0,[],[0,4,7]⟩)] [0,4,7] [] .leaf (.two (.reg [] 8) .leaf))) .leaf) .leaf))) .leaf)) (.cut [(.normal,⟨[(5,.ow K1)],[],[0,4]⟩)] [0,4] [] .leaf .leaf)))) .leaf) .leaf))) .leaf)) .leaf)))
def N6(lp:Lp)(c:Ca)(a0:D):Option D:=
(qZ lp (λv1=>
 qL a0 (gx v1 1) λb4=>
 if b4 then((qZ lp (λv5=>
 qC .lss (gx v5 3) (Jn (List.length (qV v5 0))) λb7=>
 if b7 then((qX a0 (gx v1 1) λx10=>
(D.idx (gx v5 3) (List.length (qV v5 0))).bind λi11=>
((qV v5 0)[i11]?).bind λx12=>
(c 105 [x10,x12]).bind λr13=>
(qN (gx v5 2) λb15=>
(if b15 then(qT r13 λb16=>
 if b16 then(some true) else(qX a0 (gx v1 1) λx19=>
(D.idx (gx v5 3) (List.length (qV v5 0))).bind λi20=>
((qV v5 0)[i20]?).bind λx21=>
 D.truth (D.bool (D.beq x19 x21)))) else(some false)).bind λb22=>
 qT (D.bool b22) λb23=>
 if b23 then(qX a0 (gx v1 1) λx26=>
 if List.length (qV v5 1)+List.length [x26]<=1073741824 then(some (0,[(qW v5 0),(D.sl ((qV v5 1)++[x26])),(D.bool true)])) else none) else(some (0,[(qW v5 0),(qW v5 1),(gx v5 2)]))).bind λ(r27:Nat×List D)=>
(D.idx (gx v5 3) (List.length (qV r27.2 0))).bind λi28=>
((qV r27.2 0)[i28]?).bind λx29=>
 qX a0 (gx v1 1) λx32=>
 qT (D.bool (!(D.beq x29 x32))) λb33=>
 if b33 then((D.idx (gx v5 3) (List.length (qV r27.2 0))).bind λi34=>
((qV r27.2 0)[i34]?).bind λx35=>
 if List.length (qV r27.2 1)+List.length [x35]<=1073741824 then(some (0,[(qW r27.2 0),(D.sl ((qV r27.2 1)++[x35])),(gx r27.2 2)])) else none) else(some (0,[(qW r27.2 0),(qW r27.2 1),(gx r27.2 2)]))).bind λ(r36:Nat×List D)=>
 qB .add (gx v5 3) (Jn 1) λx37=>
 iL [(qW r36.2 0),(qW r36.2 1),(gx r36.2 2),x37]) else(iR (0,[(qW v5 1),(gx v5 2)]))) [(qW v1 0),(D.sl []),(D.bool false),(Jn 0)]).bind λr38=>
(qN (gx r38.2 1) λb40=>
 if b40 then(qX a0 (gx v1 1) λx43=>
 if List.length (qV r38.2 0)+List.length [x43]<=1073741824 then(some (0,[(D.sl ((qV r38.2 0)++[x43]))])) else none) else(some (0,[(qW r38.2 0)]))).bind λ(r44:Nat×List D)=>
 qB .add (gx v1 1) (Jn 1) λx45=>
 iL [(qW r44.2 0),x45]) else(iR (0,[(qW v1 0)]))) [(D.sl []),(Jn 0)]).bind λr46=>
 some (qW r46.2 0)
def WW{lp}(hlp:ar lp):aj 47 (m1 (N6 lp)):=ba 0 Tryz.f203 V4 hlp
def V5:Ann:=(.tl (.tl (.two (.tl (.two (.loop ⟨[(3,.dv K7),(4,.di)],[],[0]⟩ [(.exit 0,⟨[(3,.dv K7)],[],[]⟩)] (.tl (.two (.two (.tl (.two (.loop ⟨[(3,.dv K7),(5,.di)],[],[0,4]⟩ [(.exit 2,⟨[(3,.dv K7)],[],[0,4]⟩)] (.tl (.two (.two (.tl (.two (.loop ⟨[(3,.dv K7),(6,.di)],[],[0,4,5]⟩ [(.exit 4,⟨[(3,.dv K7)],[],[0,4,5]⟩)] (.tl (.two (.two (.two (.reg [] 14) (.tl (.two (.loop ⟨[(3,.dv K7),(7,.sp K1 49159),(8,.di)],[(49159,.one K1 (.dv K1))],[0,4,5,6]⟩ [(.exit 6,⟨[(3,.dv K7)],[],[0,4,5,6]⟩)] (.tl (.two (.two (.two (.reg [] 6) (.tl (.tl (.cut [(.normal,⟨[(3,.dv K7),(7,.sp K1 49159)],[(49159,.keep K1 7)],[0,4,5,6,8]⟩)] [0,4,5,6,8] [49159] (.tl (.two (.reg [] 9) .leaf)) .leaf)))) .leaf) .leaf))) .leaf))) .leaf) .leaf))) .leaf)) .leaf) .leaf))) .leaf)) .leaf) .leaf))) .leaf)) .leaf)))
def N7(lp:Lp)(c:Ca)(a0:D):Option D:=
(qZ lp (λv1=>
 qL a0 (gx v1 1) λb4=>
 if b4 then(qB .add (gx v1 1) (Jn 1) λx5=>
(qZ lp (λv6=>
 qL a0 (gx v6 1) λb9=>
 if b9 then(qB .add (gx v6 1) (Jn 1) λx10=>
(qZ lp (λv11=>
 qL a0 (gx v11 1) λb14=>
 if b14 then(qX a0 (gx v1 1) λx17=>
 qX a0 (gx v6 1) λx20=>
 qX a0 (gx v11 1) λx23=>
(c 106 [x17,x20,x23]).bind λr24=>
(qZ lp (λv25=>
 qC .lss (gx v25 1) (Jn 2) λb27=>
 if b27 then(qX a0 (gx v1 1) λx30=>
(c 107 [(gx v25 2),x30]).bind λr31=>
(c 108 [(gx v25 0),(gx v25 2)]).bind λr32=>
(qN r32 λb34=>
(if b34 then((D.un .not (D.bool (D.beq (gx v25 2) (D.st [(Jn 0),(Jn 0),(Jn 0)])))).bind λx35=>
 D.truth x35) else(some false)).bind λb36=>
 qT (D.bool b36) λb37=>
(if b37 then((c 109 [a0,(gx v25 2),r31]).bind λr38=>
 D.truth r38) else(some false)).bind λb39=>
 qT (D.bool b39) λb40=>
 if b40 then((c 111 [a0,(gx v25 2),r31]).bind λr41=>
(c 110 [(gx v25 0),(D.st [(gx v25 2),r31,r41])]).bind λr42=>
 some (0,[r42])) else(some (0,[(gx v25 0)]))).bind λ(r43:Nat×List D)=>
(c 112 [(D.st [(Jn 0),(Jn 0),(Jn 0)]),(gx v25 2)]).bind λr44=>
 qB .add (gx v25 1) (Jn 1) λx45=>
 iL [(gx r43.2 0),x45,r44]) else(iR (0,[(gx v25 0)]))) [(gx v11 0),(Jn 0),r24]).bind λr46=>
 qB .add (gx v11 1) (Jn 1) λx47=>
 iL [(gx r46.2 0),x47]) else(iR (0,[(gx v11 0)]))) [(gx v6 0),x10]).bind λr48=>
 qB .add (gx v6 1) (Jn 1) λx49=>
 iL [(gx r48.2 0),x49]) else(iR (0,[(gx v6 0)]))) [(gx v1 0),x5]).bind λr50=>
 qB .add (gx v1 1) (Jn 1) λx51=>
 iL [(gx r50.2 0),x51]) else(iR (0,[(gx v1 0)]))) [(D.sl []),(Jn 0)]).bind λr52=>
 some (gx r52.2 0)
def WX{lp}(hlp:ar lp):aj 48 (m1 (N7 lp)):=ba 0 Tryz.f204 V5 hlp
def V6:Ann:=(.tl (.tl (.two (.tl (.two (.loop ⟨[(8,.di)],[],[3,6,7]⟩ [(.ret,⟨[(2,.di)],[],[]⟩),(.exit 0,⟨[],[],[3]⟩)] .leaf) .leaf)) .leaf)))
def N8(lp:Lp)(c:Ca)(a0:D):Option D:=
 qS a0 λl1=>
(qZ lp (λv2=>
 qC .lss (gx v2 0) (Jn (l1.length)) λb4=>
 if b4 then(qX a0 (gx v2 0) λx7=>
 qT (D.bool (!(D.beq x7 (Jn 0)))) λb8=>
 if b8 then(iR (0,[x7])) else(qB .add (gx v2 0) (Jn 1) λx9=>
 iL [x9])) else(iR (1,[]))) [(Jn 0)]).bind λr10=>
 if r10.1=0 then(some (gx r10.2 0)) else(some (Jn 0))
def WY{lp}(hlp:ar lp):aj 52 (m1 (N8 lp)):=ba 0 Tryz.f237 V6 hlp
def N9(lp:Lp)(c:Ca)(a0:D)(a1:D):Option D:=
(c 115 [a0]).bind λr1=>
(c 115 [a1]).bind λr2=>
 qT r1 λb3=>
 if b3 then(qT r2 λb4=>
 if b4 then(some (Jn 0)) else(some (Jn (-1)))) else(qT r2 λb5=>
 if b5 then(some (Jn 1)) else(qC .lss a0 a1 λb7=>
 if b7 then(some (Jn (-1))) else(qC .gtr a0 a1 λb9=>
 if b9 then(some (Jn 1)) else(some (Jn 0)))))
def WZ{lp}(hlp:ar lp):aj 53 (m2 (N9 lp)):=a8 0 Tryz.f238 .leaf hlp
def V7:Ann:=(.tl (.tl (.cut [(.normal,⟨[(2,.sp aK 4098),(3,.dv (Ty.int .u64))],[(4098,.keep aK 2)],[0]⟩)] [0] [4098] .leaf .leaf)))
def Oa(lp:Lp)(c:Ca)(a0:D):Option D:=
(D.conv .u64 a0).bind λx1=>
(qC .lss a0 (Jn 0) λb3=>
 if b3 then((D.un .neg x1).bind λx4=>
 some (0,[x4])) else(some (0,[x1]))).bind λ(r5:Nat×List D)=>
 qB .lss a0 (Jn 0) λx6=>
(D.conv .u32 (gx r5.2 0)).bind λx7=>
 qB .shr (gx r5.2 0) (D.int .u64 32) λx8=>
(D.conv .u32 x8).bind λx9=>
(c 116 [x6,(D.st (D.putParts (List.replicate 16 (D.int .u32 0)) [(0,x7),(1,x9)]))]).bind λr10=>
 some r10
def W0{lp}(hlp:ar lp):aj 54 (m1 (Oa lp)):=ba 0 Tryz.f83 V7 hlp
def V8:Ann:=(.tl (.tl (.tl (.two (.tl (.two (.two (.reg [] 8) .leaf) .leaf)) (.two (.reg [] 8) .leaf)))))
def Oc(lp:Lp)(c:Ca)(a0:D)(a1:D):Option D:=
(c 118 [(D.sl [a0,a1])]).bind λr1=>
 qN r1 λb3=>
 if b3 then((c 119 []).bind λr4=>
 some r4) else(qG a0 [1] λx5=>
 qG a1 [1] λx6=>
 qT (D.bool (D.beq x5 x6)) λb7=>
 if b7 then(qG a0 [2] λx8=>
 qG a1 [2] λx9=>
(c 120 [x8,x9]).bind λr10=>
(D.tupAt r10 0).bind λx11=>
(D.tupAt r10 1).bind λx12=>
 qN x12 λb14=>
 if b14 then((c 119 []).bind λr15=>
 some r15) else(qG a0 [1] λx16=>
(c 116 [x16,x11]).bind λr17=>
 some r17)) else(qG a0 [2] λx18=>
 qG a1 [2] λx19=>
(c 121 [x18,x19]).bind λr20=>
 qC .geq r20 (Jn 0) λb22=>
 if b22 then(qG a0 [1] λx23=>
 qG a0 [2] λx24=>
 qG a1 [2] λx25=>
(c 122 [x24,x25]).bind λr26=>
(c 116 [x23,r26]).bind λr27=>
 some r27) else(qG a1 [1] λx28=>
 qG a1 [2] λx29=>
 qG a0 [2] λx30=>
(c 122 [x29,x30]).bind λr31=>
(c 116 [x28,r31]).bind λr32=>
 some r32)))
def W2{lp}(hlp:ar lp):aj 57 (m2 (Oc lp)):=a8 0 Tryz.f104 V8 hlp
def V9:Ann:=(.tl (.tl (.tl (.two (.tl (.two (.loop ⟨[(1,.sp K3 4097),(3,.ow Kf),(5,.di)],[(4097,.keep K3 1)],[4]⟩ [(.exit 0,⟨[(3,.ow Kf)],[],[]⟩)] (.tl (.two (.two (.tl (.tl (.two (.loop ⟨[(1,.sp K3 4097),(3,.ow Kf),(7,.di)],[(4097,.keep K3 1)],[4,5,6]⟩ [(.exit 2,⟨[(1,.sp K3 4097),(3,.ow Kf)],[(4097,.keep K3 1)],[4,5]⟩)] (.tl (.two (.two (.two (.reg [] 26) (.reg [] 12)) .leaf) .leaf))) .leaf))) .leaf) .leaf))) .leaf)) .leaf))))
def Od(lp:Lp)(c:Ca)(a0:D):Option D:=
(c 19 [a0]).bind λr1=>
(qZ lp (λv2=>
 qL r1 (gx v2 1) λb5=>
 if b5 then(qX r1 (gx v2 1) λx8=>
(D.fld x8 2).bind λx9=>
(qZ lp (λv10=>
 qB .add (gx v10 1) (Jn 1) λx11=>
 qL x9 x11 λb14=>
 if b14 then(qG a0 [0] λx15=>
 qX x9 (Jn 0) λx18=>
 qX x15 x18 λx21=>
 qG a0 [0] λx22=>
 qX x9 (gx v10 1) λx25=>
 qX x22 x25 λx28=>
 qG a0 [0] λx29=>
 qB .add (gx v10 1) (Jn 1) λx30=>
 qX x9 x30 λx33=>
 qX x29 x33 λx36=>
(c 123 [x21,x28]).bind λr37=>
(c 33 [r37,x36]).bind λr38=>
 if List.length (qV v10 0)+List.length [(D.st [(D.st [x21,x28,x36]),r38])]<=1073741824 then(qB .add (gx v10 1) (Jn 1) λx39=>
 iL [(D.sl ((qV v10 0)++[(D.st [(D.st [x21,x28,x36]),r38])])),x39]) else none) else(iR (0,[(qW v10 0)]))) [(qW v2 0),(Jn 1)]).bind λr40=>
 qB .add (gx v2 1) (Jn 1) λx41=>
 iL [(qW r40.2 0),x41]) else(iR (0,[(qW v2 0)]))) [(D.sl []),(Jn 0)]).bind λr42=>
 some (qW r42.2 0)
def W3{lp}(hlp:ar lp):aj 58 (m1 (Od lp)):=ba 0 Tryz.f146 V9 hlp
def Wa:Ann:=(.tl (.tl (.tl (.tl (.tl (.tl (.tl (.two (.tl (.two (.two (.reg [] 6) .leaf) .leaf)) (.tl (.two (.tl (.two (.two (.reg [] 6) .leaf) .leaf)) (.two (.reg [] 6) .leaf)))))))))))
def Mi(lp:Lp)(c:Ca)(a0:D)(a1:D):Option D:=
(c 124 [a0]).bind λr1=>
(D.tupAt r1 0).bind λx2=>
(D.tupAt r1 1).bind λx3=>
(c 124 [a1]).bind λr4=>
(D.tupAt r4 0).bind λx5=>
(D.tupAt r4 1).bind λx6=>
 qT x3 λb7=>
(if b7 then(D.truth x6) else(some false)).bind λb8=>
 qT (D.bool b8) λb9=>
 if b9 then(qB .add x2 x5 λx10=>
(c 34 [x10]).bind λr11=>
 some r11) else((c 76 [a0]).bind λr12=>
 qN r12 λb14=>
(if b14 then(some true) else((c 76 [a1]).bind λr15=>
(D.un .not r15).bind λx16=>
 D.truth x16)).bind λb17=>
 qT (D.bool b17) λb18=>
 if b18 then((c 125 []).bind λr19=>
 some r19) else((c 77 [a0]).bind λr20=>
(c 77 [a1]).bind λr21=>
 qG a0 [1] λx22=>
 qG a1 [1] λx23=>
 qT (D.bool (D.beq x22 x23)) λb24=>
 if b24 then(qG a0 [1] λx25=>
(c 82 [r20,r21]).bind λr26=>
(c 81 [x25,r26]).bind λr27=>
 some r27) else((c 78 [r20,r21]).bind λr28=>
 qT r28 λb29=>
 if b29 then(qG a1 [1] λx30=>
(c 126 [r21,r20]).bind λr31=>
(c 81 [x30,r31]).bind λr32=>
 some r32) else(qG a0 [1] λx33=>
(c 126 [r20,r21]).bind λr34=>
(c 81 [x33,r34]).bind λr35=>
 some r35))))
def W4{lp}(hlp:ar lp):aj 59 (m2 (Mi lp)):=a8 0 Tryz.f77 Wa hlp
def Wb:Ann:=let o0:LO:=[(4098,.keep aK 2),(4099,.keep aK 3),(4100,.keep aK 4),(12293,.one Ic (.dv Ic))]
 (.tl (.tl (.tl (.two (.reg [] 7) (.two (.tl (.two (.loop ⟨[(2,.sp aK 4098),(3,.sp aK 4099),(4,.sp aK 4100),(5,.sp Ic 12293),(24,.di)],o0,[7,23]⟩ [(.exit 0,⟨[(2,.sp aK 4098),(3,.sp aK 4099),(4,.sp aK 4100),(5,.sp Ic 12293)],o0,[]⟩)] (.tl (.tl (.two (.two (.tl (.tl (.two (.tl (.two (.loop ⟨[(2,.sp aK 4098),(3,.sp aK 4099),(4,.sp aK 4100),(5,.sp Ic 12293),(9,.dv (Ty.int .u64)),(28,.di)],o0,[7,8,23,24,27]⟩ [(.exit 2,⟨[(2,.sp aK 4098),(3,.sp aK 4099),(4,.sp aK 4100),(5,.sp Ic 12293),(9,.dv (Ty.int .u64))],o0,[7,8,23,24]⟩)] (.tl (.tl (.two (.two (.tl (.two (.reg [] 20) .leaf)) .leaf) .leaf)))) .leaf)) .leaf))) .leaf) .leaf)))) .leaf)) (.tl (.two (.reg [] 9) .leaf)))))))
def Oe(lp:Lp)(c:Ca)(a0:D)(a1:D):Option D:=
(c 118 [(D.sl [a0,a1])]).bind λr1=>
 qN r1 λb3=>
 if b3 then((c 119 []).bind λr4=>
 some r4) else(qG a0 [2] λx5=>
(c 127 [x5]).bind λr6=>
 qG a1 [2] λx7=>
(c 127 [x7]).bind λr8=>
(qZ lp (λv9=>
 qC .lss (gx v9 0) r6 λb11=>
 if b11 then((qZ lp (λv12=>
 qC .lss (gx v12 1) r8 λb14=>
 if b14 then((D.idx (gx v9 0) 16).bind λi15=>
 qG a0 [2,i15] λx16=>
(D.conv .u64 x16).bind λx17=>
(D.idx (gx v12 1) 16).bind λi18=>
 qG a1 [2,i18] λx19=>
(D.conv .u64 x19).bind λx20=>
 qB .mul x17 x20 λx21=>
 qB .add (gx v9 0) (gx v12 1) λx22=>
 qJ x22 32 (gx v12 2) λx24=>
(D.conv .u64 x24).bind λx25=>
 qB .add x21 x25 λx26=>
 qB .add (gx v12 0) x26 λx27=>
 qB .add (gx v9 0) (gx v12 1) λx28=>
(D.conv .u32 x27).bind λx29=>
(D.idx x28 32).bind λi30=>
(D.set (gx v12 2) [i30] x29).bind λx31=>
 qB .shr x27 (D.int .u64 32) λx32=>
 qB .add (gx v12 1) (Jn 1) λx33=>
 iL [x32,x33,x31]) else(iR (0,[(gx v12 0),(gx v12 2)]))) [(D.int .u64 0),(Jn 0),(gx v9 1)]).bind λr34=>
 qB .add (gx v9 0) r8 λx35=>
(D.conv .u32 (gx r34.2 0)).bind λx36=>
(D.idx x35 32).bind λi37=>
(D.set (gx r34.2 1) [i37] x36).bind λx38=>
 qB .add (gx v9 0) (Jn 1) λx39=>
 iL [x39,x38]) else(iR (0,[(gx v9 1)]))) [(Jn 0),(aJ Ic)]).bind λr40=>
(match (gx r40.2 0) with
| D.st l41=>(if decide (16+16<=l41.length) then(qT (D.bool (!(D.beq (D.st (List.take 16 (List.drop 16 l41))) (D.st (D.putParts (List.replicate 16 (D.int .u32 0)) []))))) λb42=>
 if b42 then((c 119 []).bind λr43=>
 some r43) else(qG a0 [1] λx44=>
 qG a1 [1] λx45=>
(match (gx r40.2 0) with
| D.st l46=>(if decide (0+16<=l46.length) then((c 116 [(D.bool (!(D.beq x44 x45))),(D.st (List.take 16 (List.drop 0 l46)))]).bind λr47=>
 some r47) else none)
| _=>none))) else none)
| _=>none))
def W5{lp}(hlp:ar lp):aj 61 (m2 (Oe lp)):=a8 0 Tryz.f93 Wb hlp
def Wc:Ann:=(.tl (.tl (.tl (.cut [(.normal,⟨[(2,.sp aK 4098),(3,.sp aK 4099),(4,.sp aX 4100),(5,.sp aK 12293)],[(4098,.keep aK 2),(4099,.keep aK 3),(4100,.keep aX 4),(12293,.one aK (.dv aK))],[]⟩)] [] [4098,4099,4100] .leaf (.two (.reg [] 7) .leaf)))))
def LJ(lp:Lp)(c:Ca)(a0:D)(a1:D):Option D:=
(c 128 [a0]).bind λr1=>
 qN r1 λb3=>
(if b3 then(some true) else((c 128 [a1]).bind λr4=>
(D.un .not r4).bind λx5=>
 D.truth x5)).bind λb6=>
 qT (D.bool b6) λb7=>
(if b7 then(some true) else((c 129 [a1]).bind λr8=>
 D.truth (D.bool (D.beq r8 (Jn 0))))).bind λb9=>
 qT (D.bool b9) λb10=>
 if b10 then((c 130 []).bind λr11=>
 some r11) else((c 131 [a0,a1]).bind λr12=>
((c 129 [a1]).bind λr13=>
 qC .lss r13 (Jn 0) λb15=>
 if b15 then((c 68 [r12]).bind λr16=>
 some (0,[r16])) else(some (0,[r12]))).bind λ(r17:Nat×List D)=>
(c 132 [a0,(gx r17.2 0)]).bind λr18=>
(c 132 [a1,(gx r17.2 0)]).bind λr19=>
 some (D.st [r18,r19]))
def W6{lp}(hlp:ar lp):aj 62 (m2 (LJ lp)):=a8 0 Tryz.f92 Wc hlp
def Of(lp:Lp)(c:Ca)(a0:D)(a1:D):Option D:=
 qG a0 [0] λx1=>
 qG a1 [0] λx2=>
 qB .add x1 x2 λx3=>
 qG a0 [1] λx4=>
 qG a1 [1] λx5=>
 qB .add x4 x5 λx6=>
 qG a0 [2] λx7=>
 qG a1 [2] λx8=>
 qB .add x7 x8 λx9=>
 some (D.st [x3,x6,x9])
def W7{lp}(hlp:ar lp):aj 64 (m2 (Of lp)):=a8 0 Tryz.f25 .leaf hlp
def Og(lp:Lp)(c:Ca)(a0:D):Option D:=
(c 118 [(D.sl [a0])]).bind λr1=>
 qN r1 λb3=>
 if b3 then((c 119 []).bind λr4=>
 some r4) else(qG a0 [1] λx5=>
(D.un .not x5).bind λx6=>
 qG a0 [2] λx7=>
(c 116 [x6,x7]).bind λr8=>
 some r8)
def W8{lp}(hlp:ar lp):aj 68 (m1 (Og lp)):=ba 0 Tryz.f136 .leaf hlp
end Sy
end
end
end Go.Proofs.YtpahompifldeeaaGreat
