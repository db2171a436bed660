/- Part 6 of the proof that For every yard with at most 6 things -/
import Derived.Test.YtpahompifldeeaaGreatSteps01
import Derived.Test.YtpahompifldeeaaGreatSteps02
import Derived.Test.YtpahompifldeeaaGreatSteps05
import Derived.Shelf.SlSortCmp.InsertionK
import Derived.ProofKit
import Derived.Carry
import Derived.Test.YtpahompifldeeaaGreatProg
import Derived.KernelRfl
set_option linter.unusedVariables false
set_option linter.unusedSimpArgs false
set_option linter.unnecessarySimpa false
set_option linter.defProp false
set_option maxRecDepth 20000
namespace Go.Proofs.YtpahompifldeeaaGreat
noncomputable section
namespace Sy
open Go Go.Proofs Go.Sort Go.Lib
def wO(E:Env)(g:Nat)(x y:D):Option Int:=(E.call g [x,y]).bind λr=>match r with|.int .i64 n=>some n|_=>none
def rb(E:Env)(g:Nat)(x y:D):Bool:=match wO E g x y with|some n=>decide (n<0)|none=>false
def He(E:Env)(g:Nat)(x y:D):Bool:=match wO E g x y with|some n=>decide (0<=n)|none=>false
def AO(lt:D->D->Bool)(x:D):List D->List D
 | []=>[x]
 | y::l=>if lt x y then x::y::l else y::AO lt x l
def k9(lt:D->D->Bool):List D->List D
 | []=>[]
 | x::l=>AO lt x (k9 lt l)
def uF(E:Env)(g:Nat):List D->Bool
 | []=>true
 | x::l=>He E g x x&&l.all (λy=>rb E g x y&&He E g y x)&&uF E g l
def j7(E:Env)(g:Nat)(l:List D):Option (List D):=if uF E g (k9 (rb E g) l) then some (k9 (rb E g) l) else none
theorem pT(lt:D->D->Bool)(x:D):∀ l:List D,(AO lt x l).Perm (x::l)
 | []=>.refl _
 | y::l=>by
  simp only[AO];split
  ·exact .refl _
  ·exact((pT lt x l).cons y).trans (.swap x y l)
theorem gz(lt:D->D->Bool):∀ l:List D,(k9 lt l).Perm l
 | []=>.refl _
 | x::l=>(pT lt x _).trans ((gz lt l).cons x)
section
variable{E:Env}{g:Nat}
theorem jK:∀ {l:List D},uF E g l=true->l.Pairwise (λx y=>rb E g x y=true/\He E g y x=true)/\∀ x∈l,He E g x x=true
 | [],_=>⟨.nil,by simp⟩
 | x::l,h=>by
  simp only[uF,zaa,zra] at h;obtain⟨⟨h1,h2⟩,h3⟩:=h;obtain⟨k1,k2⟩:=jK h3;exact⟨zQa.2 ⟨h2,k1⟩,λy hy=>by
   rcases zEa.1 hy with rfl|hy
   ·exact h1
   ·exact k2 y hy⟩
def FB{x y:D}(h:He E g x y=true):rb E g x y=false:=by
 unfold He at h;unfold rb;split at h
 ·rename_i n hn;simp only[decide_eq_true_eq] at h;simp only[decide_eq_false_iff_not];omega
 ·cases h
def MK{x y:D}(h:rb E g x y=true\/He E g x y=true):∃ n,wO E g x y=some n:=by
 rcases h with h|h
 ·unfold rb at h;split at h
  ·exact⟨_,by assumption⟩
  ·cases h
 ·unfold He at h;split at h
  ·exact⟨_,by assumption⟩
  ·cases h
variable{l:List D}(hc:uF E g l=true)
include hc
def eE{i j:Nat}{x y:D}(hi:l[i]?=some x)(hj:l[j]?=some y):(rb E g x y=true↔i<j)/\∃ n,wO E g x y=some n:=by
 obtain⟨h1,h2⟩:=jK hc;obtain⟨hi',rfl⟩:=zna.1 hi;obtain⟨hj',rfl⟩:=zna.1 hj;rcases zod i j with k|k|k
 ·have:=ztb.1 h1 i j hi' hj' k;exact⟨⟨λ_=>k,λ_=>this.1⟩,MK (.inl this.1)⟩
 ·subst k;have:=h2 _ (zla hi');exact⟨⟨λh=>(by rw[FB this] at h;cases h),λh=>absurd h (Nat.lt_irrefl _)⟩,MK (.inr this)⟩
 ·have:=ztb.1 h1 j i hj' hi' k;exact⟨⟨λh=>(by rw[FB this.2] at h;cases h),λh=>by omega⟩,MK (.inr this.2)⟩
def u5:l.Nodup:=by
 obtain⟨h1,h2⟩:=jK hc;refine h1.imp λ{x y} h e=>?_;subst e;rw[FB h.2] at h;cases h.1
def EC(E:Env)(g:Nat)(l:List D)(x y:{d:D // d∈l}):Int:=(wO E g x.1 y.1).getD 0
omit hc in
def zj{x y:{d:D // d∈l}}:ltOf (EC E g l) x y=rb E g x.1 y.1:=by
 unfold ltOf EC rb;cases wO E g x.1 y.1<;>simp
def KA:SWO (ltOf (EC E g l)):=by
 have ix:∀ x:{d:D // d∈l},∃ i,l[i]?=some x.1:=λx=>by
  obtain⟨i,h1,h2⟩:=zTa x.2;exact⟨i,by rw[zca h1,h2]⟩
 have key:∀ (x y:{d:D // d∈l}) (i j:Nat),l[i]?=some x.1->l[j]?=some y.1->(ltOf (EC E g l) x y=true↔i<j):=λx y i j hi hj=>by rw[zj];exact(eE hc hi hj).1
 refine⟨λx=>?_,λx y z h1 h2=>?_,λx y z h1 h2=>?_⟩
 ·obtain⟨i,hi⟩:=ix x;cases h:ltOf (EC E g l) x x with
  | false=>rfl
  | true=>exact absurd ((key x x i i hi hi).1 h) (Nat.lt_irrefl _)
 ·obtain⟨i,hi⟩:=ix x;obtain⟨j,hj⟩:=ix y;obtain⟨k,hk⟩:=ix z;have a:=(key x y i j hi hj).1 h1;have b:=(key y z j k hj hk).1 h2;exact(key x z i k hi hk).2 (by omega)
 ·obtain⟨i,hi⟩:=ix x;obtain⟨j,hj⟩:=ix y;obtain⟨k,hk⟩:=ix z;have a:¬ i<j:=λh=>by rw[(key x y i j hi hj).2 h] at h1;cases h1
  have b:¬ j<k:=λh=>by rw[(key y z j k hj hk).2 h] at h2;cases h2
  cases h:ltOf (EC E g l) x z with
  | false=>rfl
  | true=>have:=(key x z i k hi hk).1 h;omega
def Ek[Inhabited {d:D // d∈l}]{d d':Array {d:D // d∈l}}(hd:(d.toList.map (·.1)).Perm l)(hp:PermIn 0 d.size d d')(hs:SortedIn (ltOf (EC E g l)) 0 d.size d'):d'.toList.map (·.1)=l:=by
 obtain⟨p1,_,p3⟩:=hp;have q:d'.toList.Perm d.toList:=by
  have e1:d'.extract 0 d.size=d':=by rw[<-p1];simp
  rw[e1] at p3;simpa using p3
 have qp:(d'.toList.map (·.1)).Perm l:=(q.map _).trans hd;have hlen:(d'.toList.map (·.1)).length=l.length:=qp.length_eq;have nd:=qp.symm.nodup (u5 hc);have asc:(d'.toList.map (·.1)).Pairwise (λx y=>rb E g x y=true):=by
  rw[ztb];intro i j hi hj hij;simp only[zoa,zGb] at hi hj;have h1:=hs i j (zga _) hij (by omega)
  rw[getElem!_pos d' j hj,getElem!_pos d' i hi,zj] at h1;simp only[List.getElem_map,zGd];obtain⟨a,ha1,ha2⟩:=zTa (d'[i]).2;obtain⟨b,hb1,hb2⟩:=zTa (d'[j]).2;have ea:l[a]?=some (d'[i]).1:=by rw[zca ha1,ha2]
  have eb:l[b]?=some (d'[j]).1:=by rw[zca hb1,hb2]
  have k1:¬ b<a:=λh=>by rw[(eE hc eb ea).1.2 h] at h1;cases h1
  have k2:a≠b:=λe=>by
   subst e;have:(d'[i]).1=(d'[j]).1:=by rw[<-ha2,<-hb2]
   have:=ztb.1 nd i j (by simpa using hi) (by simpa using hj) hij
   simp only[List.getElem_map,zGd] at this;contradiction
  exact(eE hc ea eb).1.2 (by omega)
 have key:∀ {a b:List D},a.Pairwise (λx y=>rb E g x y=true)->b.Pairwise (λx y=>rb E g x y=true)->a.Perm b->(∀ x∈a,x∈l)->a=b:=by
  intro a
  induction a with
  | nil=>intro b _ _ hp _;exact hp.symm.eq_nil.symm ▸ rfl
  | cons x a ih=>
   intro b ha hb hp hm;cases b with
   | nil=>exact absurd hp.eq_nil (by simp)
   | cons y b=>
    obtain⟨a1,a2⟩:=zQa.1 ha;obtain⟨b1,b2⟩:=zQa.1 hb;have e:x=y:=by
     rcases zEa.1 (hp.subset zma) with e|m1
     ·exact e
     ·rcases zEa.1 (hp.symm.subset (zma (a:=y))) with e|m2
      ·exact e.symm
      ·exfalso;have h1:=b1 x m1;have h2:=a1 y m2;obtain⟨i,hi1,hi2⟩:=zTa (hm x zma);obtain⟨j,hj1,hj2⟩:=zTa (hm y (zia _ m2));have ei:l[i]?=some x:=by rw[zca hi1,hi2]
       have ej:l[j]?=some y:=by rw[zca hj1,hj2]
       have:=(eE hc ei ej).1.1 h2;have:=(eE hc ej ei).1.1 h1;omega
    subst e;rw[ih a2 b2 ((List.perm_cons x).1 hp) (λz hz=>hm z (zia _ hz))]
 exact key asc ((jK hc).1.imp λh=>h.1) qp λx hx=>qp.subset hx
end
end Sy
end
noncomputable section
namespace Sy
open Go Go.Proofs Go.Sort Go.Lib
def ra:D->Bool
 | .int ..=>true
 | .bool _=>true
 | _=>false
def fB:D->Value
 | .int k n=>.int k n
 | .bool b=>.bool b
 | _=>undef
mutual
theorem jS:∀ (t:Ty) (x:D),bI t=true->wt t x->∀ d∈x.flat,ra d=true
 | .int k,x,_,h=>by simp only[wt] at h;obtain⟨n,rfl⟩:=h;intro d hd;simp only[D.flat,zAa] at hd;subst hd;rfl
 | .bool,x,_,h=>by simp only[wt] at h;obtain⟨n,rfl⟩:=h;intro d hd;simp only[D.flat,zAa] at hd;subst hd;rfl
 | .str,x,hc,h=>by simp[bI] at hc
 | .st ts,x,hc,h=>by
  simp only[wt] at h;obtain⟨l,rfl,hl⟩:=h;simp only[bI] at hc;simp only[D.flat];exact tA ts l hc hl
 | .arr n t,x,hc,h=>by
  simp only[wt] at h;obtain⟨l,rfl,hn,hl⟩:=h;clear hn;simp only[bI] at hc;simp only[D.flat]
  induction l with
  | nil=>intro d hd;simp[D.flats] at hd
  | cons y l ih=>
   intro d hd;simp only[D.flats,zwa] at hd;rcases hd with hd|hd
   ·exact jS t y hc (hl y zma) d hd
   ·exact ih (λz hz=>hl z (zia _ hz)) d hd
 | .sl t,x,hc,h=>by simp[bI] at hc
 | .tup l,x,hc,h=>by simp[bI] at hc
 | .fn,x,hc,h=>by simp[bI] at hc
theorem tA:∀ (ts:List Ty) (l:List D),lv ts=true->ff ts l->∀ d∈D.flats l,ra d=true
 | [],l,_,h=>by simp only[ff] at h;subst h;intro d hd;simp[D.flats] at hd
 | t::ts,l,hc,h=>by
  simp only[ff] at h;obtain⟨y,l',rfl,h1,h2⟩:=h;simp only[lv,zaa] at hc;intro d hd;simp only[D.flats,zwa] at hd;rcases hd with hd|hd
  ·exact jS t y hc.1 h1 d hd
  ·exact tA ts l' hc.2 h2 d hd
end
def BL{w:World}{S:Nat->Nat->Prop}{d:D}{c:Value}(hl:ra d=true):CR w S d c↔c=fB d:=by
 cases d<;>simp only[ra] at hl<;>first|(cases hl;done)|skip
 ·exact⟨λh=>h.int_inv,λh=>by subst h;exact .int _ _⟩
 ·exact⟨λh=>h.bool_inv,λh=>by subst h;exact .bool _⟩
def fF{w:World}{S:Nat->Nat->Prop}{ds:List D}{cs:List Value}(hl:∀ d∈ds,ra d=true):cG w S ds cs↔cs=ds.map fB:=by
 constructor
 ·rintro⟨h1,h2⟩;apply zcc;intro i;rw[zcb];rcases zqa i ds.length with k|k
  ·have a:=zca k;have b:cs[i]?=some cs[i]:=zca (h1 ▸ k);rw[a,b];simp only[zEb,zda];exact(BL (hl _ (zla k))).1 (h2 i _ _ a b)
  ·rw[z3a k,z3a (by omega)];rfl
 ·rintro rfl;refine⟨by simp,λi d c hd hc=>?_⟩
  rw[zcb,hd] at hc;simp only[zEb,zda] at hc;exact(BL (hl d (z8a hd))).2 hc.symm
theorem vk{k:Nat}(hk:0<k):∀ (l:List D),(∀ x∈l,x.flat.length=k)->∀ t,(D.flats l)[t]?=(l[t/k]?).bind λx=>x.flat[t%k]?
 | [],_,t=>by simp[D.flats]
 | x::l,h,t=>by
  have hx:=h x zma;simp only[D.flats];rcases zqa t k with c|c
  ·rw[zfb (by omega),z1a c,zHa c];rfl
  ·rw[zzb (by omega),hx,vk hk l (λy hy=>h y (zia _ hy)) (t-k)]
   have e1:t/k=(t-k)/k+1:=by rw[Nat.div_eq_sub_div hk c]
   have e2:t%k=(t-k)%k:=Nat.mod_eq_sub_mod c;rw[e1,e2];rfl
structure SortOk(P:Program)(f:Nat)(e:Ty):Prop where
 cmp:bI e=true
 agg:cz e=true
 pos:0<e.size
 nt:aq e=true
 fn : ∃ fn, P.funcs[f]? = some fn /\ (fn.name == "runtime.NumGoroutine") = false /\ fn.body.isSome = true
 empty:∀ (p:Option Addr) (cap:Nat) (fv:Value) (w:World),Calls P f #[.slice p 0 cap,fv] w λen w'=>en=.returned (.tuple #[])/\w'=w
 whole:∀ (α:Type) [Inhabited α] (enc:α->List Value) (_:∀ x,(enc x).length=e.size) (_:∀ x,∀ v∈enc x,v.oneCell'=true) (cf:α->α->Int) (_:SWO (ltOf cf)) (g:Nat) (blk off cap:Nat) (d:Array α) (w:World)
  (_:∀ args w,(callFunc g args).run P w=.ok (.enter g args) w) (_:CmpLays P g #[] enc e.size cf blk off d.size w) (_:HoldsK enc e.size w blk off d) (_:blk<w.heap.size) (_:d.size<4611686018427387904),
  Calls P f #[.slice (some ⟨blk,off,none⟩) d.size cap,.func (.func g) #[] #[]] w λen w'=>en=.returned (.tuple #[])/\∃ d' n os,PermIn 0 d.size d d'/\SortedIn (ltOf cf) 0 d.size d'/\w'=sortWorldK enc e.size w blk off n d' os
section
variable{P:Program}{E:Env}
def AB(hE:EnvOk P E){g:Nat}{ptys:List Ty}{rty:Ty}(h:E.sig g=some (ptys,rty))(args:Array Value)(w:World):(callFunc g args).run P w=.ok (.enter g args) w:=by
 obtain⟨_,_,fn,f1,f2,f3⟩:=hE.sig g ptys rty h;have f2' : ¬ fn.name = "runtime.NumGoroutine" := by simpa using f2
 have hb':¬ fn.body=none:=by intro hh;rw[hh] at f3;cases f3
 simp[callFunc,f1,f2',hb']
def Ei(hE:EnvOk P E){f:Nat}{e:Ty}(hf:SortOk P f e){g:Nat}(hsig:E.sig g=some ([e,e],.int .i64)/\E.free g=0){l l':List D}(hwt:∀ x∈l,wt e x)(hs:j7 E g l=some l')(hne:l≠[]){w:World}{b off cap:Nat}{row:Array Value}
  (hr:bJ w b=some row) (hc:∀ (i:Nat) (d:D),(D.flats l)[i]?=some d->w.cell? ⟨b,off+i,none⟩=some (fB d)) (hlen:l.length<4611686018427387904) :
  Calls P f #[.slice (some ⟨b,off,none⟩) l.length cap,.func (.func g) #[] #[]] w λen w'=>en=.returned (.tuple #[])/\l'.Perm l/\w.drawn<=w'.drawn/\w'.tape=w.tape/\w'.os=w.os/\w'.output=w.output/\w.heap.size<=w'.heap.size ∧
   (∀ b',b'≠b->b'<w.heap.size->w'.heap[b']?=w.heap[b']?)/\∀ (i:Nat) (d:D),(D.flats l')[i]?=some d->w'.cell? ⟨b,off+i,none⟩=some (fB d):=by
 have hsd:uF E g l'=true/\l'=k9 (rb E g) l:=by
  unfold j7 at hs;split at hs
  ·rename_i h;cases hs;exact⟨h,rfl⟩
  ·cases hs
 obtain⟨hchk,hl'⟩:=hsd;have hperm:l'.Perm l:=hl' ▸ gz _ l;have hmem:∀ x∈l,x∈l':=λx hx=>hperm.symm.subset hx;have hwt':∀ x∈l',wt e x:=λx hx=>hwt x (hperm.subset hx);obtain⟨x0,hx0⟩:∃ x0,x0∈l':=by
  cases l with
  | nil=>exact absurd rfl hne
  | cons x l=>exact⟨x,hmem x zma⟩
 have hinh:Inhabited {d:D // d∈l'}:=⟨⟨x0,hx0⟩⟩;have hfl:∀ x:{d:D // d∈l'},x.1.flat.length=e.size:=λx=>ci e x.1 (hwt' x.1 x.2) hf.nt;have hleaf:∀ x:{d:D // d∈l'},∀ d∈x.1.flat,ra d=true:=λx=>jS e x.1 hf.cmp (hwt' x.1 x.2);obtain⟨d,hd⟩:∃ d:Array {d:D // d∈l'},d.toList.map (·.1)=l:=⟨(l.pmap Subtype.mk hmem).toArray,by simp[List.map_pmap]⟩
 have hds:d.size=l.length:=by rw[<-hd];simp
 have hbs:b<w.heap.size:=by
  unfold bJ at hr;cases hb:w.heap[b]? with
  | none=>rw[hb] at hr;cases hr
  | some o=>exact(zfa.1 hb).1
 have hfro:∀ o,w.frozen? ⟨b,o,none⟩=false:=λo=>by
  unfold bJ at hr;split at hr
  ·rename_i c t hb;unfold World.frozen?;simp[hb]
  ·cases hr
 have at_:∀ (dd:Array {d:D // d∈l'}) (t:Nat),t<dd.size*e.size->(D.flats (dd.toList.map (·.1)))[t]?.map fB=some ((flatK (λx:{d:D // d∈l'}=>x.1.flat.map fB) e.size dd)[t]!):=λdd t ht=>by
  rw[get_flatK _ _ _ _ ht,vk hf.pos _ (λx hx=>by
   obtain⟨y,_,rfl⟩:=z5a.1 hx;exact hfl y)]
  have h1:t/e.size<dd.size:=(zWa hf.pos).2 ht;have h2:t%e.size<e.size:=zUa _ hf.pos;rw[zcb,zza,zlb h1,getElem!_pos dd _ h1];simp only[zEb,zba];have h3:t%e.size<(dd[t/e.size]).1.flat.length:=by rw[hfl];exact h2
  rw[zca h3,getElem!_pos _ _ (by simpa using h3)]
  simp
 have hH:HoldsK (λx:{d:D // d∈l'}=>x.1.flat.map fB) e.size w b off d:=by
  intro j hj;rw[size_flatK] at hj;refine⟨?_,hfro _⟩;have:=at_ d j hj;rw[hd] at this;cases hq:(D.flats l)[j]? with
  | none=>rw[hq] at this;cases this
  | some q=>
   rw[hq] at this;simp only[zEb,zda] at this;rw[hc j q hq,this];rfl
 have hcmp:CmpLays P g #[] (λx:{d:D // d∈l'}=>x.1.flat.map fB) e.size (EC E g l') b off d.size w:=by
  intro m os dk _ x y;obtain⟨i,hi1,hi2⟩:=zTa x.2;obtain⟨j,hj1,hj2⟩:=zTa y.2;obtain⟨_,n,hn⟩:=eE hchk (i:=i) (j:=j) (x:=x.1) (y:=y.1) (by rw[zca hi1,hi2]) (by rw[zca hj1,hj2])
  have hcall:E.call g [x.1,y.1]=some (.int .i64 n):=by
   unfold wO at hn;obtain⟨r,h1,h2⟩:=bind_some_inv hn;rw[h1];split at h2
   ·cases h2;rfl
   ·cases h2
  have hcf:EC E g l' x y=n:=by simp[EC,hn]
  rw[hcf];have shpa:∀ z:{d:D // d∈l'},∀ (w:World) (S:Nat->Nat->Prop),fZ w S z.1 (.agg (z.1.flat.map fB).toArray):=λz w S=>by
   refine⟨?_,?_⟩
   ·have hz:=hwt' z.1 z.2;have ha:=hf.agg;cases e<;>simp only[cz] at ha<;>first|(cases ha;done)|skip
    ·simp only[wt] at hz;obtain⟨ll,h1,_⟩:=hz;rw[h1];exact⟨_,rfl⟩
    ·simp only[wt] at hz;obtain⟨ll,h1,_⟩:=hz;rw[h1];exact⟨_,rfl⟩
   ·exact(fF (hleaf z)).2 (by simp[Value.cells])
  have hw2:ff [e,e] [x.1,y.1]:=⟨x.1,[y.1],rfl,hwt' _ x.2,⟨y.1,[],rfl,hwt' _ y.2,rfl⟩⟩;have hctr0:=hE.call g [e,e] (.int .i64) [x.1,y.1] (.int .i64 n) hsig.1 hcall hw2;rw[hsig.2] at hctr0;have hctr:=hctr0
   (sortWorldK (λx:{d:D // d∈l'}=>x.1.flat.map fB) e.size w b off m dk os) (λ_ _=>False) [.agg (x.1.flat.map fB).toArray,.agg (y.1.flat.map fB).toArray] (λ_ _ h=>h.elim) hw2 rfl
   (λi z v hz hv=>by
    cases i with
    | zero=>simp at hz hv;subst hz;subst hv;exact shpa x _ _
    | succ i=>cases i with
     | zero=>simp at hz hv;subst hz;subst hv;exact shpa y _ _
     | succ i=>simp at hz)
  refine hctr.mono ?_;rintro en w' ⟨v,rfl,⟨os',dr,hdr,rfl⟩,_,hv⟩;have hv':v=.int .i64 n:=by
   obtain⟨c1,c2⟩:=(hv:fZ _ _ _ _);have:=(fF (by intro d hd;simp only[D.flat,zAa] at hd;subst hd;rfl)).1 c2
   exact ay c1 (by simpa [D.flat,fB] using this)
  refine⟨by rw[hv'],dr-(sortWorldK (λx:{d:D // d∈l'}=>x.1.flat.map fB) e.size w b off m dk os).drawn,os'.toArray,?_⟩
  unfold grown grow World.drewN;simp only[show ∀ a b:Nat,a<=b->a+(b-a)=b from λa b h=>by omega,hdr]
 have hO:SWO (ltOf (EC E g l')):=KA hchk;have key:=hf.whole {d:D // d∈l'} (λx=>x.1.flat.map fB) (λx=>by simp[hfl x]) (λx v hv=>by
   obtain⟨q,hq,rfl⟩:=z5a.1 hv;have:=hleaf x q hq;cases q<;>simp only[ra] at this<;>first|(cases this;done)|rfl) (EC E g l') hO g b off cap d w (AB hE hsig.1) hcmp hH hbs (by omega)
 rw[hds] at key;refine key.mono ?_;rintro en w' ⟨rfl,d',n,os,hp,hso,rfl⟩;rw[<-hds] at hp hso;have hd'l:d'.toList.map (·.1)=l':=Ek hchk (d:=d) (by rw[hd];exact hperm.symm) hp hso
 have hd's:d'.size=d.size:=hp.1;have hH':=holdsK_sortWorldK_c (λx:{d:D // d∈l'}=>x.1.flat.map fB) e.size w b off d d' n os hH hbs hd's;refine⟨rfl,hperm,?_,rfl,rfl,rfl,?_,λb' hb hb'=>?_,λi q hq=>?_⟩
 ·show w.drawn<=w.drawn+n;omega
 ·simp only[sortWorldK,grow,putRowK,putRow,mapBlock,Go.Sort.ahead,Array.size_append,Array.size_modify];omega
 ·simp only[sortWorldK,grow,putRowK,putRow,mapBlock,Go.Sort.ahead];rw[Array.getElem?_append_left (by simpa using hb'),zad,if_neg (Ne.symm hb)]
 ·have hi:i<d'.size*e.size:=by
   have h1:=(zna.1 hq).1;rw[aK hf.nt l' hwt'] at h1;rw[hd's,hds,<-hperm.length_eq];exact h1
  have h2:=at_ d' i hi;rw[hd'l,hq] at h2;simp only[zEb,zda] at h2;have h3:=(hH' i (by rw[size_flatK];exact hi)).1
  rw[h3,<-h2];rfl
end
end Sy
end
noncomputable section
namespace Sy
open Go Go.ChangeShapes Go.WideShapes Go.ChangeAt Go.RowKit
def bool_of{W:World}{S:Nat->Nat->Prop}{b:Bool}{v:Value}(h:DR W S (.bool b) v):v=.bool b:=by
 obtain⟨h1,h2⟩:=(h:fZ W S (.bool b) v);have h3:=(fF (by intro d hd;simp only[D.flat,zAa] at hd;subst hd;rfl)).1 h2
 exact ay h1 (by simpa [D.flat,fB] using h3)
section
variable{H:Type}{enc:TypeId×Value->H}{P:Program}{W:World}
def LJ{ty:Ty}{T:TypeId}(hl:bD P ty T=true)(hp:oN ty=true){base:Nat}{v:Value}(hv:Value.okWide P W .any base T v){d0:DataW H}{p0:List MemPlace}{spare:Nat->Bool}{held:Bool}(h:DataW.Trod enc P W 0 spare held T v d0 p0) :
  ∃ d,wt ty d/\ED d/\fZ W (pb W) d v:=by
 obtain⟨fuel,hf⟩:=h;obtain⟨d,h1,h2,h3⟩:=sa (W:=W) ty T fuel _ _ hl hp hf;refine⟨d,h1,h2,?_,h3⟩;have na:∀ {u:TypeDesc},P.underlying T=some u->(match u with|.struct _=>False|.array _ _=>False|_=>True)->∀ cs,v≠.agg cs:=λ{u} hu hn cs e=>by
  subst e;simp only[Value.okWide,hu] at hv;cases u<;>simp only[Cell.okWide,Cell.ok,hu] at hv<;>first|exact hn|(cases hv;done)|exact hv
 cases ty with
 | int k=>obtain⟨n,rfl⟩:=h1;exact na (jo hl) trivial
 | bool=>obtain⟨b,rfl⟩:=h1;exact na (u:=.bool) (by simp only[bD,zaa] at hl;have h2:=hl.2;split at h2<;>first|assumption|cases h2) trivial
 | str=>obtain⟨s,rfl⟩:=h1;exact na (u:=.string) (by simp only[bD,zaa] at hl;have h2:=hl.2;split at h2<;>first|assumption|cases h2) trivial
 | st ts=>
  obtain⟨l,rfl,_⟩:=h1;obtain⟨fs,hu,_⟩:=iD hl;obtain⟨cs,h,_⟩:=okWide_struct hu hv;exact⟨cs,h⟩
 | arr n e=>
  obtain⟨l,rfl,_⟩:=h1;obtain⟨u,hu,_⟩:=dP hl;simp only[Value.okWide,hu] at hv;obtain⟨cs,h,_⟩:=hv;exact⟨cs,h⟩
 | sl e=>
  obtain⟨l,rfl,_⟩:=h1;obtain⟨u,hu,_⟩:=iC hl;exact na hu trivial
 | tup l=>simp[bD] at hl
 | fn=>simp[bD] at hl
def ze(P:Program):List Ty->List TypeId->Bool
 | [],[]=>true
 | ty::tys,T::Ts=>bD P ty T&&oN ty&&ze P tys Ts
 | _,_=>false
theorem Jm:∀ {tys:List Ty} {Ts:List TypeId},ze P tys Ts=true->∀ {vs:List Value} {ds:List (DataW H)} {ps:List MemPlace} {base:Nat} {spare:Nat->Bool} {held:Bool},DataW.TrodAll enc P W 0 spare held Ts vs ds ps ->
  (∀ (j:Nat) t v,Ts[j]?=some t->vs[j]?=some v->Value.okWide P W .any base t v)->∃ xs,ff tys xs/\uN xs/\vs.length=xs.length/\∀ (i:Nat) (x:D) (v:Value),xs[i]?=some x->vs[i]?=some v->fZ W (pb W) x v
 | [],[],_,vs,ds,ps,base,spare,held,h,hv=>by
  obtain⟨rfl,rfl,rfl⟩:=trodAll_nil h;exact⟨[],rfl,trivial,rfl,by simp⟩
 | ty::tys,T::Ts,hl,vs,ds,ps,base,spare,held,h,hv=>by
  simp only[ze,zaa] at hl;obtain⟨v,vs',d,ds',p,q,rfl,rfl,rfl,h0,h1⟩:=trodAll_cons h;obtain⟨x,x1,x2,x3⟩:=LJ hl.1.1 hl.1.2 (hv 0 T v rfl rfl) h0;obtain⟨xs,y1,y2,y3,y4⟩:=Jm hl.2 h1 (λj t u a b=>hv (j+1) t u (by simpa using a) (by simpa using b))
  refine⟨x::xs,⟨x,xs,rfl,x1,y1⟩,⟨x2,y2⟩,by simp[y3],λi z u hz hu=>?_⟩
  cases i with
  | zero=>simp at hz hu;subst hz;subst hu;exact x3
  | succ i=>exact y4 i z u (by simpa using hz) (by simpa using hu)
 | [],_::_,h,_,_,_,_,_,_,_,_=>by simp[ze] at h
 | _::_,[],h,_,_,_,_,_,_,_,_=>by simp[ze] at h
theorem Mc:∀ {Ts:List TypeId} {vs:List Value} {ds:List (DataW H)} {ps:List MemPlace} {base:Nat} {spare:Nat->Bool} {held:Bool},DataW.TrodAll enc P W base spare held Ts vs ds ps->ds.length=Ts.length
 | [],vs,ds,ps,_,_,_,h=>by obtain⟨rfl,rfl,rfl⟩:=trodAll_nil h;rfl
 | T::Ts,vs,ds,ps,_,_,_,h=>by
  obtain⟨v,vs',d,ds',p,q,rfl,rfl,rfl,h0,h1⟩:=trodAll_cons h;simp[Mc h1]
theorem Dg{W':World}(hl:laidOutB P=true):∀ {Ts:List TypeId},Ts.all (λt=>P.readableRec t&&decide (t<P.types.size))=true->∀ {vs:List Value} {ds:List (DataW H)} {ps:List MemPlace},
  DataW.TrodAll enc P W 0 (λ_=>true) true Ts vs ds ps->Below W.heap.size W W'->(∀ x∈ps,x.block<W.heap.size)->DataW.TrodAll enc P W' 0 (λb=>decide (b<W.heap.size)) true Ts vs ds ps
 | [],_,vs,ds,ps,h,_,_=>by
  obtain⟨rfl,rfl,rfl⟩:=trodAll_nil h;exact trodAll_mk0
 | T::Ts,ht,vs,ds,ps,h,hb,hlt=>by
  simp only[zHb,zaa,decide_eq_true_eq] at ht;obtain⟨v,vs',d,ds',p,q,rfl,rfl,rfl,h0,h1⟩:=trodAll_cons h;exact⟨p,q,Below.trod hl ht.1.1 ht.1.2 h0 hb (λx hx=>hlt x (by simp[hx])),Dg hl ht.2 h1 hb (λx hx=>hlt x (by simp[hx])),rfl⟩
end
end Sy
end
noncomputable section
namespace Sy
open Go
variable{ro:Option Nat}{nn:Nat}
def Aw(s:St):List ResultVar->Option (Nat×List AV)
 | [.tmp i]=>match s.tm i with
  | .clo f l=>some (f,l)
  | _=>none
 | _=>none
def A9(s:St)(t:Ty):List ResultVar->Option (Nat×List D)
 | [.tmp i]=>match s.tm i with
  | .own t' v l=>if t'.beq t&&!(s.dead.contains v) then some (v,l) else none
  | _=>none
 | _=>none
def JX{R:Type}(E:Env)(s sc:St)(rs:List ResultVar)(K:AV->St->Option R):Ty->Option R
 | .fn=>(Aw sc rs).bind λq=>K (.clo q.1 q.2) (nW s sc)
 | .sl t=>match A9 sc t rs with
  | some q=>K (.own t q.1 q.2) (nW s sc)
  | none=>(results E sc (.sl t) rs).bind λy=>K (.d (.sl t) y) (nW s sc)
 | rty=>(results E sc rty rs).bind λy=>K (.d rty y) (nW s sc)
def Mq(E:Env)(fn:Func)(rty:Ty)(ann:Ann)(R:Type)(s:St)(avs:List AV)(K:AV->St->Option R):Option R:=
 match fn.body with
 | none=>none
 | some c=>if avs.length<=fn.ntmps/\(de s).length<=4096 then ev E c ann R (J2 s fn.ntmps avs) λe sc=>match e with
   | .exit _=>none
   | _=>JX E s sc fn.results.toList K rty
  else none
def Bn(n:Nat)(rty:Ty):Bool:=match rty with|.fn=>decide (n=1)|rty=>iK n rty
section
variable{P:Program}{E:Env}{w0:Root}{S S':Nat->Nat->Prop}{γ γ':Nat->Option Nat}{β β' β'':Nat->Option (Nat×Nat)}{s sc:St}{a:Act}{w w':World}
def Lz{c:Cx}{rty:Ty}{n:Nat}{y:D}{v:Value}(hr:iK n rty=true)(hwt:wt rty y)(h:DR c.w c.S y v):AR c (.d rty y) v:=by
 simp only[AR];have key:aq rty=true\/∃ ts,rty=.tup ts/\bi ts=true:=by
  unfold iK at hr;split at hr
  ·exact .inl hr
  ·split at hr
   ·exact .inr ⟨_,rfl,hr⟩
   ·cases hr
 rcases key with n2|⟨ts,rfl,n2⟩
 ·refine .inl ⟨n2,hwt,?_⟩;cases rty<;>simp only[wt] at hwt<;>first
   | (obtain⟨m,rfl⟩:=hwt;exact h)
   | (obtain⟨m,rfl,_⟩:=hwt;exact h)
   | (exact hwt.elim)
   | (simp[aq] at n2)
 ·exact .inr ⟨ts,rfl,n2,hwt,h⟩
def Do(h:Rp w0 S γ β s a w){fn:Func}{q:Nat×List AV}(hq:Aw s fn.results.toList=some q):∃ v,(Go.results fn a.tmps).run P w=.ok v w/\AR ⟨w,S,γ,β,s.ob,s.dead⟩ (.clo q.1 q.2) v:=by
 rw[nK];have hm:fn.results.mapM (qh a.tmps)=Functor.map List.toArray (fn.results.toList.mapM (qh a.tmps)):=by
  rw[znd]
 rw[hm];generalize fn.results.toList=rs at *;unfold Aw at hq;split at hq<;>first|(cases hq;done)|skip
 rename_i i;split at hq<;>first|(cases hq;done)|skip
 rename_i f l htm;cases hq;have hi:i<a.tmps.size:=by
  rcases zqa i a.tmps.size with hlt|hge
  ·exact hlt
  ·have:=h.tmu i (by rw[<-h.nt];exact hge)
   rw[htm] at this;cases this
 have:=h.tms i hi;rw[htm] at this;exact⟨a.tmps.getD i undef,by simp[zkd,qh],this⟩
def DV(h:Rp w0 S γ β s a w){fn:Func}{t:Ty}{q:Nat×List D}(hq:A9 s t fn.results.toList=some q):∃ v,(Go.results fn a.tmps).run P w=.ok v w/\AR ⟨w,S,γ,β,s.ob,s.dead⟩ (.own t q.1 q.2) v:=by
 rw[nK];have hm:fn.results.mapM (qh a.tmps)=Functor.map List.toArray (fn.results.toList.mapM (qh a.tmps)):=by
  rw[znd]
 rw[hm];generalize fn.results.toList=rs at *;unfold A9 at hq;split at hq<;>first|(cases hq;done)|skip
 rename_i i;split at hq<;>first|(cases hq;done)|skip
 rename_i t' v l htm;split at hq<;>first|(cases hq;done)|skip
 rename_i hb;simp only[zaa] at hb;have:=Ty.eq_of_beq _ _ hb.1;subst this;cases hq;have hi:i<a.tmps.size:=by
  rcases zqa i a.tmps.size with hlt|hge
  ·exact hlt
  ·have:=h.tmu i (by rw[<-h.nt];exact hge)
   rw[htm] at this;cases this
 have:=h.tms i hi;rw[htm] at this;exact⟨a.tmps.getD i undef,by simp[zkd,qh],this⟩
def JY(hE:EnvOk P E){a':Act}(n1:Rp w0 S γ β sc a' w'){fn:Func}{rty:Ty}(hr:Bn fn.results.size rty=true){R:Type}{K:AV->St->Option R}{r:R}(hq:JX E s sc fn.results.toList K rty=some r) :
  ∃ v x,(Go.results fn a'.tmps).run P w'=.ok v w'/\AR ⟨w',S,γ,β,sc.ob,sc.dead⟩ x v/\K x (nW s sc)=some r:=by
 have plain:iK fn.results.size rty=true->(results E sc rty fn.results.toList).bind (λy=>K (.d rty y) (nW s sc))=some r->∃ v x,(Go.results fn a'.tmps).run P w'=.ok v w'/\AR ⟨w',S,γ,β,sc.ob,sc.dead⟩ x v/\K x (nW s sc)=some r:=λhr hq=>by
  obtain⟨y,h1,h2⟩:=bind_some_inv hq;obtain⟨v,k1,k2,k3⟩:=kI hE n1 hr h1;exact⟨v,_,k1,Lz hr k2 k3,h2⟩
 cases rty
 case fn=>
  obtain⟨q,h1,h2⟩:=bind_some_inv hq;obtain⟨v,k1,k2⟩:=Do (P:=P) n1 h1;exact⟨v,_,k1,k2,h2⟩
 case sl t=>
  simp only[JX] at hq;split at hq
  ·rename_i q h1;obtain⟨v,k1,k2⟩:=DV (P:=P) n1 h1;exact⟨v,_,k1,k2,hq⟩
  ·exact plain hr hq
 all_goals exact plain hr hq
def JW(hE:EnvOk P E){f:FuncId}{fn:Func}{rty:Ty}(hf:P.funcs[f]?=some fn)(hr:Bn fn.results.size rty=true):ES P f (Mq E fn rty):=by
 intro ann R w0 S γ β s a w avs vs K r h hlen hAR hev;unfold Mq at hev;split at hev<;>first|(cases hev;done)|skip
 rename_i c hb;split at hev<;>first|(cases hev;done)|skip
 rename_i hcond;obtain⟨hnt,htk⟩:=hcond;obtain⟨tk,htkd⟩:∃ tk,tk=de s:=⟨_,rfl⟩;obtain⟨sh,hsh⟩:∃ sh:Nat->Prop,sh=λb=>(∃ id,γ id=some b)\/∃ v e,v ∉ tk++s.dead/\β v=some (b,e):=⟨_,rfl⟩;have hvl:vs.length<=fn.ntmps:=by omega
 have hntm:(vs.toArray++Array.replicate (fn.ntmps-vs.toArray.size) undef).size=fn.ntmps:=by
  simp;omega
 have le0:Cx.le ⟨w,S,γ,β,s.ob,s.dead⟩ ⟨w,S,γ,β,s.ob,tk++s.dead⟩:=
  ⟨λ_ _ _=>rfl,λ_ _ hb=>hb,λ_ _ hb=>hb,λid o ho _=>⟨o,ho,λp=>⟨rfl,rfl⟩,λt l e=>⟨l,e,rfl⟩,λ_ _ l e=>⟨l,e⟩⟩,λu hu=>⟨λhh=>hu (zjb _ hh),λb e he=>⟨he,λn hn=>hn⟩⟩⟩
 have hI:Rp ⟨w,S,sh⟩ S γ β (J2 s fn.ntmps avs) { tmps:=vs.toArray++Array.replicate (fn.ntmps-vs.toArray.size) undef,defers:=[] } w:=by
  refine Cr h htkd hsh (λ_ _ hh=>hh) rfl (by rw[htkd];rfl) hntm (λt ht=>?_) λt ht=>?_
  ·have ht':fn.ntmps<=t:=ht;simp only[J2];rw[zKa,z3a (by omega)]
   rfl
  ·simp only[J2];by_cases hlt:t<vs.length
   ·have hlt':t<avs.length:=by omega
    have hv:(vs.toArray++Array.replicate (fn.ntmps-vs.toArray.size) undef).getD t undef=vs[t]:=by
     simp[Array.getD,zcd,hlt];omega
    rw[hv,zKa,zca hlt'];exact(hAR t _ _ (zca hlt') (zca hlt)).mono le0
   ·rw[zKa,z3a (by omega)]
    simp only[Option.getD_none,AR]
 refine lr hE hf hb rfl hI hev (λ_ _ hh=>by cases hh) λe sc S' γ' β' a' w' n1 n2 n3 n4=>?_
 have hres:JX E s sc fn.results.toList K rty=some r->(∃ v,(Go.results fn a'.tmps).run P w'=.ok v w'/\∃ v' y s' S' γ' β',Ending.returned v=.returned v'/\K y s'=some r/\Rp w0 S' γ' β' s' a w'/\AR ⟨w',S',γ',β',s'.ob,s'.dead⟩ y v'/\Fm s S γ a w S' γ' a w'/\Sk s s'):=λhq=>by
  obtain⟨v,x,k1,k2,k3⟩:=JY hE n1 hr hq;obtain⟨β'',q1,q2⟩:=BS h htkd hsh (by rw[htkd];exact htk) n1 n2.sub n2.cell n2.gam n2.sz
  exact⟨v,k1,v,x,nW s sc,S',γ',β'',rfl,k3,q1,k2.mono q2,⟨n2.sub,n2.cell,λ_ _=>rfl,n2.objs,n2.sz,n2.gam,kj.same rfl n2.dfs.1⟩,⟨rfl,rfl,rfl⟩⟩
 cases e with
 | normal=>exact hres n4
 | ret=>exact hres n4
 | exit i=>cases n4
end
end Sy
end
noncomputable section
namespace Sy
abbrev K0:Ty:=Ty.st [Ty.int .i64,Ty.int .i64,Ty.bool,Ty.int .u8]
abbrev K1:Ty:=Ty.arr 3 (Ty.int .i64)
abbrev K2:Ty:=Ty.sl (K1)
abbrev K3:Ty:=Ty.st [K2]
abbrev K4:Ty:=Ty.st [K3,Ty.int .i64]
abbrev K5:Ty:=Ty.sl (Ty.int .i64)
abbrev K6:Ty:=Ty.st [K1,Ty.int .i64,K5]
abbrev K7:Ty:=Ty.sl (K6)
abbrev K8:Ty:=Ty.arr 2 (Ty.int .i64)
abbrev K9:Ty:=Ty.sl (K8)
abbrev bc:Ty:=Ty.arr 16 (Ty.int .u32)
abbrev aJ:Ty:=Ty.st [Ty.bool,Ty.bool,bc]
abbrev aY:Ty:=Ty.st [aJ,aJ]
abbrev gG:Ty:=Ty.arr 3 (aY)
abbrev jD:Ty:=Ty.sl (aY)
abbrev bX:Ty:=Ty.st [Ty.int .i64,Ty.int .i64,jD]
abbrev dF:Ty:=Ty.st [K1,Ty.int .i64]
abbrev Nc:Ty:=Ty.sl (dF)
abbrev Jd:Ty:=Ty.sl (Ty.bool)
abbrev ET:Ty:=Ty.arr 3 (K1)
abbrev LD:Ty:=Ty.st [ET,aJ]
abbrev Rt:Ty:=Ty.sl (LD)
abbrev nQ:Ty:=Ty.arr 3 (aJ)
abbrev pp:Ty:=Ty.arr 3 (nQ)
abbrev Je:Ty:=Ty.arr 32 (Ty.int .u32)
abbrev Yx:Ty:=Ty.sl (Ty.int .u32)
abbrev Xp:Ty:=Ty.sl (aJ)
abbrev rJ:Ty:=Ty.arr 17 (Ty.int .u32)
abbrev Yy:Ty:=Ty.tup [bc,Ty.bool]
abbrev Ru:Ty:=Ty.tup [Ty.int .i64,Ty.bool]
abbrev Yz:Ty:=Ty.tup [K5,K5]
abbrev YA:Ty:=Ty.tup [bc,bc]
abbrev YB:Ty:=Ty.tup [aJ,aJ]
abbrev Xq:Ty:=Ty.tup [bc,Ty.int .u32]
abbrev LE:Ty:=Ty.tup []
abbrev PM:Ty:=Ty.sl (K3)
abbrev iZ:Ty:=Ty.st [Ty.str,PM,K8,K8]
abbrev ph:Ty:=Ty.arr 4 (Ty.int .i64)
abbrev Ao:Ty:=Ty.st [K1,ph]
abbrev Jf:Ty:=Ty.sl (Ao)
abbrev PN:Ty:=Ty.st [Ty.int .i64,iZ,Ao]
abbrev Xr:Ty:=Ty.sl (PN)
abbrev Rv:Ty:=Ty.st [Ty.int .i64,Ty.int .i64,K1,K1]
abbrev Xs:Ty:=Ty.sl (Rv)
abbrev Xt:Ty:=Ty.arr 2 (K1)
abbrev PO:Ty:=Ty.st [Ty.int .i64,K1,Xt]
abbrev Xu:Ty:=Ty.sl (PO)
abbrev nj:Ty:=Ty.st [Ty.int .i64,K8,Xr,Xs,Xu]
abbrev ja:Ty:=Ty.st [Jd,Jf,K2,K2,Jd,Jd]
abbrev YC:Ty:=Ty.arr 2 (aJ)
abbrev Ny:Ty:=Ty.st [bX,Ty.int .i64]
abbrev Xv:Ty:=Ty.sl (bX)
abbrev Nz:Ty:=Ty.arr 9 (Ty.int .i64)
abbrev YD:Ty:=Ty.tup [ph,Ty.bool]
abbrev Rx:Ty:=Ty.tup [bX,Ty.int .i64]
def Hh:Nat:=293
def Eh:Nat:=286
abbrev bb{α:Type}(t n:Nat)(a b:α):α:=bif Nat.blt t n then a else b
abbrev Ti:Ty:=.int .i64
abbrev cM{α:Type}(a:α):Option α:=some a
abbrev aO(n:Nat)(l:List Ty)(t:Ty):Option (Nat×List Ty×Ty):=some (n,l,t)
def OQ(t:Nat):Option Ty:=bif Nat.blt t Hh then(bb t 146 (bb t 73 (bb t 36 (bb t 18 (bb t 9 (bb t 4 (bb t 2 none (bb t 3 (cM Ti) (cM Ti))) (bb t 6 (bb t 5 (cM Ty.bool) (cM (Ty.int .u8))) (bb t 7 (cM (Ty.int .u8)) (bb t 8 (cM K0) (cM K0))))) (bb t 13 (bb t 11 (bb t 10 (cM Ty.str) (cM Ty.str)) (bb t 12 (cM Ty.str) (cM (Ty.int .u64)))) none)) (bb t 27 (bb t 22 (bb t 20 none (bb t 21 none (cM (Ty.int .i32)))) (bb t 24 (bb t 23 (cM PM) (cM K8)) (bb t 25 (cM iZ) (bb t 26 (cM iZ) (cM K1))))) (bb t 31 (bb t 29 (bb t 28 (cM K1) (cM Jf)) none) (bb t 33 (bb t 32 (cM Ti) none) (bb t 34 (cM ph) (bb t 35 (cM ph) (cM Ao))))))) (bb t 54 (bb t 45 (bb t 40 (bb t 38 (bb t 37 (cM Ao) (cM (Ty.int .u32))) (bb t 39 (cM bc) (cM aJ))) (bb t 42 (bb t 41 (cM aJ) (cM aY)) (bb t 43 (cM aY) none))) (bb t 49 (bb t 47 none (bb t 48 (cM Xr) (cM Xs))) (bb t 51 (bb t 50 (cM Xu) (cM nj)) (bb t 52 (cM nj) (bb t 53 (cM Jd) (cM K2)))))) (bb t 63 (bb t 58 (bb t 56 (bb t 55 (cM ja) (cM ja)) none) none) (bb t 68 none (bb t 70 none (bb t 71 (cM Xt) (bb t 72 (cM PO) (cM PO)))))))) (bb t 109 (bb t 91 (bb t 82 (bb t 77 none (bb t 79 (bb t 78 (cM PN) (cM PN)) (bb t 80 none (bb t 81 none (cM jD))))) (bb t 86 (bb t 84 (bb t 83 (cM bX) (cM bX)) none) (bb t 88 (bb t 87 (cM gG) (cM gG)) none))) none) (bb t 127 (bb t 118 (bb t 113 (bb t 111 (bb t 110 (cM YC) none) (bb t 112 (cM K3) (cM K3))) none) (bb t 122 (bb t 120 none (bb t 121 none (cM Ny))) (bb t 124 (bb t 123 (cM Ny) none) none))) (bb t 136 (bb t 131 (bb t 129 none (bb t 130 none (cM K5))) none) none)))) (bb t 219 (bb t 182 (bb t 164 (bb t 155 (bb t 150 (bb t 148 (bb t 147 none (cM (Ty.int .u64))) (bb t 149 none (cM (Ty.int .u64)))) (bb t 152 (bb t 151 (cM nQ) (cM pp)) (bb t 153 none (bb t 154 (cM ET) none)))) (bb t 159 none (bb t 161 (bb t 160 none (cM Je)) (bb t 162 none (bb t 163 (cM Yx) (cM Rt)))))) none) (bb t 200 (bb t 191 (bb t 186 (bb t 184 (bb t 183 (cM K4) (cM K4)) none) (bb t 188 (bb t 187 (cM K7) none) (bb t 189 none (bb t 190 (cM K6) (cM K6))))) (bb t 195 none (bb t 197 (bb t 196 (cM Xv) none) (bb t 198 none (bb t 199 none (cM Xp)))))) (bb t 209 (bb t 204 (bb t 202 (bb t 201 (cM LD) (cM LD)) none) (bb t 206 none (bb t 207 (cM rJ) none))) (bb t 214 (bb t 211 none (bb t 212 none (bb t 213 none (cM Nz)))) (bb t 216 none (bb t 217 none (bb t 218 none (cM aY)))))))) (bb t 256 (bb t 237 (bb t 228 (bb t 223 (bb t 221 (bb t 220 (cM aY) none) (bb t 222 (cM K9) none)) (bb t 225 none (bb t 226 (cM Nc) (bb t 227 none (cM dF))))) (bb t 232 (bb t 230 (bb t 229 (cM dF) none) none) none)) (bb t 246 none (bb t 251 none (bb t 253 (bb t 252 none (cM dF)) (bb t 254 (cM dF) none))))) (bb t 274 (bb t 265 (bb t 260 (bb t 258 none (bb t 259 none (cM Ti))) none) (bb t 269 (bb t 267 (bb t 266 none (cM (Ty.int .u64))) none) none)) (bb t 283 (bb t 278 none (bb t 280 none (bb t 281 none (bb t 282 none (cM (Ty.int .u8)))))) (bb t 288 (bb t 285 (bb t 284 (cM (Ty.int .u8)) none) (bb t 286 none (bb t 287 (cM (Ty.int .i32)) (cM (Ty.int .i32))))) (bb t 290 none (bb t 291 (cM Rv) (bb t 292 (cM Rv) none))))))))) else none
def Kt(t:Nat):Option (Nat×List Ty×Ty):=bif Nat.blt t Eh then(bb t 143 (bb t 71 (bb t 35 (bb t 17 (bb t 8 (bb t 4 (bb t 2 none (bb t 3 none (aO 300 [iZ,K1,K1,Ti,Jf] Ty.bool))) (bb t 6 (bb t 5 (aO 301 [nj,ja,ja] Ty.bool) (aO 302 [iZ,K1,K1] Ty.bool)) (bb t 7 (aO 303 [iZ,Ti,Jf] Ty.bool) (aO 304 [nj,ja,ja,ja] Ty.bool)))) (bb t 12 (bb t 10 (bb t 9 (aO 305 [nj,ja] Ty.bool) (aO 306 [iZ,K1,K1] Ty.bool)) (bb t 11 (aO 307 [] Ty.bool) (aO 308 [Ao] Ti))) (bb t 14 (bb t 13 (aO 309 [iZ,K1,K1] aY) (aO 310 [iZ,K1,K1] aY)) (bb t 15 (aO 311 [iZ,Ti,Jf] aY) (bb t 16 (aO 312 [iZ,Ti,Jf] aY) (aO 313 [iZ,Ti,Ao] aY)))))) (bb t 26 (bb t 21 (bb t 19 (bb t 18 (aO 314 [iZ,Ti,Ao] aY) (aO 315 [nj,ja] Ty.bool)) (bb t 20 (aO 316 [nj,ja] aY) (aO 317 [nj,ja] aY))) (bb t 23 (bb t 22 (aO 318 [nj,ja,ja] aY) (aO 319 [nj,ja,ja] aY)) (bb t 24 (aO 320 [nj,ja,ja] Ti) (bb t 25 (aO 321 [nj,ja,ja] Ti) (aO 64 [K1,K1] K1))))) (bb t 30 (bb t 28 (bb t 27 (aO 112 [K1,K1] K1) (aO 322 [aY] Ti)) (bb t 29 (aO 38 [aY,aY] aY) (aO 75 [Ti] aY))) (bb t 32 (bb t 31 (aO 323 [Jf] Jf) (aO 39 [aY,aY] aY)) (bb t 33 (aO 324 [aY,aY] Ti) (bb t 34 (aO 325 [ja] ja) (aO 40 [aY,aY] aY))))))) (bb t 53 (bb t 44 (bb t 39 (bb t 37 (bb t 36 (aO 326 [iZ] Ty.bool) (aO 327 [K1] Ty.bool)) (bb t 38 (aO 328 [] iZ) (aO 329 [Ti] Ao))) (bb t 41 (bb t 40 (aO 330 [K1] ja) (aO 331 [ph] Ty.bool)) (bb t 42 (aO 74 [Ti] aY) (bb t 43 (aO 332 [iZ,aY] bX) (aO 130 [] aY))))) (bb t 48 (bb t 46 (bb t 45 (aO 135 [K1] gG) (aO 134 [gG,gG] aY)) (bb t 47 (aO 174 [aY,aY] aY) (aO 333 [Ti,Ti] aY))) (bb t 50 (bb t 49 (aO 334 [jD] aY) (aO 335 [iZ,aY] bX)) (bb t 51 (aO 84 [] aY) (bb t 52 (aO 31 [K1] gG) (aO 41 [gG,gG] aY)))))) (bb t 62 (bb t 57 (bb t 55 (bb t 54 (aO 42 [Ti,Ti] aY) (aO 336 [aY,aY] aY)) (bb t 56 (aO 173 [aY,aY] aY) (aO 337 [aY,aY] aY))) (bb t 59 (bb t 58 (aO 338 [nj] Ty.bool) none) (bb t 60 none (bb t 61 (aO 339 [Ao,K1] gG) (aO 340 [K1,gG] aY))))) (bb t 66 (bb t 64 (bb t 63 (aO 341 [Jd,Jd] Ty.bool) (aO 342 [aY] Ti)) (bb t 65 (aO 343 [Jd,Jd] Ty.bool) (aO 88 [aY] Ty.bool))) (bb t 68 (bb t 67 (aO 83 [aJ] Ti) (aO 37 [aJ,aJ] aY)) (bb t 69 (aO 89 [aJ,aJ] aJ) (bb t 70 (aO 34 [Ti] aJ) (aO 133 [] aJ)))))))) (bb t 107 (bb t 89 (bb t 80 (bb t 75 (bb t 73 (bb t 72 (aO 70 [aY] aY) (aO 32 [aJ,aJ] Ti)) (bb t 74 (aO 344 [aY,Ty.bool] aJ) (aO 87 [aJ,aJ] aJ))) (bb t 77 (bb t 76 (aO 345 [aJ,aJ] aJ) (aO 85 [aJ,aJ] aJ)) (bb t 78 (aO 59 [aJ,aJ] aJ) (bb t 79 (aO 346 [iZ] Ty.bool) (aO 347 [iZ] Ti))))) (bb t 84 (bb t 82 (bb t 81 (aO 348 [ph] Ty.bool) (aO 349 [ph] YD)) (bb t 83 (aO 138 [aJ] aY) (aO 54 [Ti] aJ))) (bb t 86 (bb t 85 (aO 28 [K3] bX) (aO 350 [bX,bX] Rx)) (bb t 87 (aO 351 [bX,aY] Rx) (bb t 88 (aO 352 [aY,aY] aY) (aO 353 [iZ] aJ)))))) (bb t 98 (bb t 93 (bb t 91 (bb t 90 (aO 119 [] aJ) (aO 169 [] aJ)) (bb t 92 (aO 136 [aY] Ty.bool) (aO 62 [aJ,aJ] aY))) (bb t 95 (bb t 94 (aO 61 [aJ,aJ] aJ) (aO 29 [K3] bX)) (bb t 96 (aO 354 [bX,bX] Ny) (bb t 97 (aO 65 [aY,aY] aY) (aO 63 [aJ] aY))))) (bb t 102 (bb t 100 (bb t 99 (aO 355 [iZ] aJ) (aO 356 [bX,aY] Ny)) (bb t 101 (aO 125 [] aJ) (aO 357 [aY] aY))) (bb t 104 (bb t 103 (aO 131 [aJ,aJ] aJ) (aO 132 [aJ,aJ] aJ)) (bb t 105 (aO 57 [aJ,aJ] aJ) (bb t 106 (aO 73 [aY,aY] Ti) (aO 358 [K1,Ti] Ty.bool))))))) (bb t 125 (bb t 116 (bb t 111 (bb t 109 none (bb t 110 (aO 72 [K1,gG] aY) (aO 359 [Ao,K1] gG))) (bb t 113 (bb t 112 (aO 36 [gG,gG] gG) (aO 360 [ph,K1] gG)) (bb t 114 (aO 129 [aJ] Ti) (bb t 115 (aO 76 [aJ] Ty.bool) (aO 77 [aJ] K5))))) (bb t 120 (bb t 118 (bb t 117 (aO 86 [aJ] aJ) (aO 124 [aJ] Ru)) (bb t 119 (aO 145 [Ti] Ty.bool) (aO 81 [Ty.bool,K5] aJ))) (bb t 122 (bb t 121 (aO 146 [K5,K5] K5) (aO 82 [K5,K5] K5)) (bb t 123 (aO 78 [K5,K5] Ty.bool) (bb t 124 (aO 144 [Ti,Ti] Ti) (aO 143 [K5,K5] Yz)))))) (bb t 134 (bb t 129 (bb t 127 (bb t 126 (aO 126 [K5,K5] K5) (aO 142 [aJ] aJ)) (bb t 128 (aO 361 [Ty.str] Ty.bool) (aO 15 [K3] Ti))) (bb t 131 (bb t 130 (aO 362 [K3] Ty.bool) (aO 363 [K3,K3] Ty.bool)) (bb t 132 (aO 364 [Ti,Ti] Ti) (bb t 133 (aO 365 [Ti] Ti) (aO 116 [Ty.bool,bc] aJ))))) (bb t 138 (bb t 136 (bb t 135 none (aO 67 [aJ,ET,pp] LE)) (bb t 137 (aO 68 [aJ] aJ) (aO 366 [Xv] Ty.bool))) (bb t 140 (bb t 139 none (aO 407 [Ti,Ti,bX,bX] aY)) (bb t 141 (aO 367 [bX,Ti,Ti] aY) (bb t 142 (aO 402 [Ti,Ti,bX,aY] aY) (aO 23 [K3] aJ))))))))) (bb t 214 (bb t 178 (bb t 160 (bb t 151 (bb t 147 (bb t 145 (bb t 144 (aO 128 [aJ] Ty.bool) (aO 118 [Xp] Ty.bool)) (bb t 146 (aO 127 [bc] Ti) (aO 58 [K3] Rt))) (bb t 149 (bb t 148 (aO 69 [Rt,Ti,Ti] aY) (aO 368 [bX] Ty.bool)) (bb t 150 (aO 369 [Ti,Ti] bX) (aO 370 [bX] Ny)))) (bb t 155 (bb t 153 (bb t 152 (aO 24 [K3] aJ) (aO 170 [bc,bc] YA)) (bb t 154 (aO 171 [aJ] aJ) (aO 172 [aJ,aJ] YB))) (bb t 157 (bb t 156 (aO 120 [bc,bc] Yy) (aO 121 [bc,bc] Ti)) (bb t 158 (aO 122 [bc,bc] bc) (bb t 159 (aO 90 [aJ,aJ] Ti) (aO 137 [aJ,aJ] aJ)))))) (bb t 169 (bb t 164 (bb t 162 (bb t 161 (aO 371 [gG,gG] gG) (aO 372 [ph,K1] gG)) (bb t 163 (aO 373 [ph,K1] K1) (aO 374 [ph] Ti))) (bb t 166 (bb t 165 (aO 139 [aJ] Ty.bool) (aO 140 [K5] K5)) (bb t 167 (aO 141 [K5,Ti] Ti) (bb t 168 (aO 175 [K5,Ti] Ti) (aO 375 [Ty.int .u8] Ty.bool))))) (bb t 173 (bb t 171 (bb t 170 (aO 12 [K2] K4) (aO 13 [K2,K2] Ty.bool)) (bb t 172 (aO 19 [K3] K7) (aO 376 [K3,K3,K1] Ty.bool))) (bb t 175 (bb t 174 (aO 377 [K3] K2) (aO 378 [nQ] K1)) (bb t 176 (aO 379 [K1,K1] nQ) (bb t 177 (aO 18 [K3] K7) (aO 91 [K1,K1] aJ))))))) (bb t 196 (bb t 187 (bb t 182 (bb t 180 (bb t 179 (aO 117 [K1,K1] K1) none) (bb t 181 (aO 380 [bX] Ty.bool) (aO 381 [bX] Ti))) (bb t 184 (bb t 183 (aO 382 [jD] Ty.bool) (aO 56 [aJ,ET,aJ] LE)) (bb t 185 (aO 167 [aJ] Ty.bool) (bb t 186 (aO 33 [K1,K1] aJ) (aO 123 [K1,K1] K1))))) (bb t 191 (bb t 189 (bb t 188 (aO 383 [bX] Ti) (aO 384 [jD] Ty.bool)) (bb t 190 (aO 195 [bc,Ty.int .u32] Xq) (aO 196 [Ty.int .u32] Ti))) (bb t 193 (bb t 192 (aO 197 [bc,Ti] Xq) none) (bb t 194 none (bb t 195 none (aO 201 [bc,Ti] bc)))))) (bb t 205 (bb t 200 (bb t 198 (bb t 197 (aO 202 [aJ] Ru) (aO 203 [aJ,aJ] aJ)) (bb t 199 (aO 168 [Ty.int .u32,Ty.int .u32] Ti) (aO 385 [ph] Ti))) (bb t 202 (bb t 201 (aO 386 [ph,K1] K1) (aO 387 [ph] Nz)) (bb t 203 (aO 388 [ph,ph] Ti) (bb t 204 (aO 47 [K2] K2) (aO 48 [K2] K7))))) (bb t 209 (bb t 207 (bb t 206 (aO 389 [K3,K1] aY) (aO 22 [K3] K9)) (bb t 208 (aO 186 [aJ] Ru) (aO 390 [nQ,nQ] nQ))) (bb t 211 (bb t 210 (aO 80 [K1] nQ) (aO 45 [K2] Nc)) (bb t 212 (aO 46 [K2,dF] K5) (bb t 213 (aO 147 [nQ,nQ] aJ) (aO 148 [K1] nQ)))))))) (bb t 250 (bb t 232 (bb t 223 (bb t 218 (bb t 216 none (bb t 217 (aO 391 [aY] Ty.bool) (aO 79 [nQ,nQ] aJ))) (bb t 220 (bb t 219 (aO 165 [Ty.int .u32] Ti) (aO 217 [aJ] Ti)) (bb t 221 (aO 194 [Ty.int .u32] Ty.bool) (bb t 222 (aO 392 [ph,ph] Ti) (aO 393 [ph] Nz))))) (bb t 227 (bb t 225 (bb t 224 (aO 394 [K5] Ti) (aO 105 [K1,K1] Ty.bool)) (bb t 226 (aO 106 [K1,K1,K1] K1) (aO 107 [K1,K1] Ti))) (bb t 229 (bb t 228 (aO 108 [K7,K1] Ty.bool) (aO 109 [K2,K1,Ti] Ty.bool)) (bb t 230 (aO 110 [K7,K6] K7) (bb t 231 (aO 111 [K2,K1,Ti] K5) (aO 395 [aJ,aJ,aJ,aJ] aJ)))))) (bb t 241 (bb t 236 (bb t 234 (bb t 233 (aO 96 [K1,K1,K1] dF) (aO 97 [K1] K1)) (bb t 235 (aO 98 [K2,dF] Ty.bool) none)) (bb t 238 (bb t 237 (aO 100 [dF,dF] Ti) (aO 52 [K5] Ti)) (bb t 239 (aO 53 [Ti,Ti] Ti) (bb t 240 (aO 101 [K1,K1] Ti) (aO 102 [Ti,K5,K2,dF] Ti))))) (bb t 245 (bb t 243 (bb t 242 (aO 103 [K1,K1] K1) (aO 104 [K1,K1,K1] Ti)) (bb t 244 none (aO 155 [nQ] dF))) (bb t 247 (bb t 246 (aO 156 [K2,K1,Ti,K1,K1] Ty.bool) (aO 396 [aJ,aJ] aJ)) (bb t 248 (aO 152 [Ti,Ti] Ti) (bb t 249 none (aO 114 [Ty.int .u64] Ti))))))) (bb t 268 (bb t 259 (bb t 254 (bb t 252 (bb t 251 (aO 115 [Ti] Ty.bool) (aO 154 [K1,K1] K1)) (bb t 253 (aO 187 [K1] Ty.bool) (aO 188 [K1,K1] Ti))) none) (bb t 263 (bb t 261 none (bb t 262 none (aO 166 [Ty.int .u64] Ti))) (bb t 265 (bb t 264 (aO 215 [Ti] Ti) none) (bb t 266 (aO 190 [Ti] (Ty.int .u64)) none)))) none)))) else none
def qj(t:Nat):Option (List Ty×Ty):=match Kt t with|some p=>some p.2|none=>none
def uD(t:Nat):Nat:=match Kt t with|some p=>p.1|none=>0
def mZ(t:Nat):Nat:=(bb t 143 (bb t 71 0 (bb t 107 0 (bb t 125 0 (bb t 134 0 (bb t 138 (bb t 136 (bb t 135 0 1) 0) (bb t 140 (bb t 139 0 2) (bb t 141 0 (bb t 142 2 0)))))))) (bb t 214 (bb t 178 0 (bb t 196 (bb t 187 (bb t 182 0 (bb t 184 (bb t 183 0 1) 0)) 0) 0)) (bb t 250 (bb t 232 0 (bb t 241 (bb t 236 0 (bb t 238 0 (bb t 239 0 (bb t 240 0 3)))) 0)) 0)))
def FS(t:Nat):Option (Ty×Ty):=bif Nat.blt t Hh then(bb t 146 none (bb t 219 none (bb t 256 (bb t 237 none (bb t 246 (bb t 241 none (bb t 243 none (bb t 244 none (bb t 245 (some (dF,Ty.bool)) none)))) none)) none))) else none
def T9:List Nat:=[0,1,2,0,0,0,0,0,0,0,0,0,169,170,0,128,0,0,176,171,0,0,206,142,151,0,0,0,84,94,0,51,72,185,69,0,111,67,28,31,34,52,53,0,0,210,211,203,204,0,0,0,237,238,83,134,183,104,146,77,0,93,92,97,25,96,0,135,136,147,71,0,109,105,41,29,114,115,122,217,209,119,121,66,50,76,116,74,65,68,158,177,0,0,0,0,232,233,234,235,236,239,240,241,242,224,225,226,227,228,229,230,26,0,249,250,133,178,144,89,155,156,157,186,117,100,125,145,143,113,43,102,103,70,45,44,91,159,82,164,165,166,126,124,123,118,120,212,213,0,0,0,247,248,251,244,245,0,0,0,0,0,0,0,0,218,262,184,198,90,152,153,154,55,46,167,0,0,254,255,256,257,258,259,260,261,207,252,253,0,265,266,0,0,220,189,190,191,192,193,194,195,196,197,0,0,0,0,0,0,0,0,264,267,268,263,0,219,0,0,0,269,0,270,271,272,273,274,275,276,277,278,279,280,281,282,283,284,285,0,0,0,0,0,0,0,0,0,0,0,0,0,0,0,0,0,0,0,0,0,0,0,0,0,0,0,0,0,0,0,0,0,0,0,0,0,0,0,0,0,0,0,0,0,0,0,0,0,0,0,0,0,0,0,0,0,0,0,0,0,3,4,5,6,7,8,9,10,11,12,13,14,15,16,17,18,19,20,21,22,23,24,27,30,32,33,35,36,37,38,39,40,42,47,48,49,54,56,57,60,61,62,63,64,73,75,78,79,80,81,85,86,87,88,95,98,99,101,106,110,112,127,129,130,131,132,137,140,148,149,150,160,161,162,163,168,172,173,174,175,180,181,182,187,188,199,200,201,202,205,208,216,221,222,223,231,246,215,59,138,107,58,141,214,243,108,179,139]
def eB(k:Nat):Nat:=T9.getD k 0
def eX(lp:{α β:Type}->(α->Option (Sum α β))->α->Option β)(call:Nat->List D->Option D)(inl:Inl):Env:={ L:=OQ,sig:=qj,call:=λf=>call (uD f),mapL:=FS,lp:=lp,inl:=inl.f,cod:=inl.cod,free:=mZ,pv:=inl.pv }
def Cv:List (Nat×(Func×Ty))->Nat->Option (Func×Ty)
 | [],_=>none
 | p::l,f=>bif Nat.beq f p.1 then some p.2 else Cv l f
theorem pX:∀ {l:List (Nat×(Func×Ty))} {f:Nat} {p:Func×Ty},Cv l f=some p->(f,p)∈l
 | [],_,_,h=>by cases h
 | q::l,f,p,h=>by
  simp only[Cv] at h;cases hb:Nat.beq f q.1
  ·rw[hb] at h;exact zia _ (pX h)
  ·rw[hb] at h;cases h;rw[zFc hb];exact zma
open Go.Proofs in
def MM:List (Nat×(Func×Ty)):=[(58,(Tryz.f58,jD)),(59,(Tryz.f59,Ty.fn)),(107,(Tryz.f107,jD)),(108,(Tryz.f108,LE)),(134,(Tryz.f134,LE)),(135,(Tryz.f135,LE)),(138,(Tryz.f138,Rx)),(139,(Tryz.f139,aY)),(141,(Tryz.f141,aY)),(179,(Tryz.f179,Ty.bool)),(180,(Tryz.f180,Ty.bool)),(183,(Tryz.f183,LE)),(192,(Tryz.f192,Ty.int .u64)),(193,(Tryz.f193,Ty.bool)),(194,(Tryz.f194,LE)),(214,(Tryz.f214,Ty.int .i64)),(215,(Tryz.f215,Ty.bool)),(216,(Tryz.f216,Ty.bool)),(236,(Tryz.f236,Ty.int .i64)),(240,(Tryz.f240,Ty.int .i64)),(243,(Tryz.f243,Ty.int .i64))]
open Go.Proofs in
def KE:List (Nat×(Func×Ty)):=MM++[(171,(Tryz.f171,K7)),(204,(Tryz.f204,K7)),(229,(Tryz.f229,K7))]
def KC(v f:Nat):Option (Func×Ty):=Cv (bif Nat.beq v 2 then KE else MM) f
def GP{v f:Nat}{p:Func×Ty}(h:KC v f=some p):(f,p)∈KE:=by
 unfold KC at h;cases hb:Nat.beq v 2
 ·rw[hb] at h;exact zob _ (pX h)
 ·rw[hb] at h;exact pX h
end Sy
end
noncomputable section
namespace Sy
open Go
def AT(P:Program):Bool:=(List.range Hh).all λt=>match OQ t with|some ty=>bD P ty t&&decide (ty.high<=1000)&&aq ty|none=>true
def GF(P:Program)(f:Nat)(g:List Ty×Ty):Bool:=
 bi g.1 && (aq g.2 || match g.2 with | .tup ts => bi ts | _ => false) && match P.funcs[f]? with | some fn => !(fn.name == "runtime.NumGoroutine") && fn.body.isSome | none => false
def A0(P:Program):Bool:=(List.range Hh).all λt=>match FS t with|some g=>bI g.1&&decide (g.1.high<=1000)&&(match P.underlying t with|some (.map K V)=>bD P g.1 K&&bD P g.2 V|_=>false)|none=>true
def Bu(P:Program):Bool:=(List.range Eh).all λf=>match qj f with|some g=>GF P f g|none=>true
def KI{t:Nat}{ty:Ty}(h:OQ t=some ty):t<Hh:=by
 unfold OQ at h;rcases zqa t Hh with k|k
 ·exact k
 ·have:Nat.blt t Hh=false:=zJb.2 λhb=>absurd (Nat.blt_eq ▸ hb) (zAc.2 k);rw[this] at h;cases h
def FT{t:Nat}{g:Ty×Ty}(h:FS t=some g):t<Hh:=by
 unfold FS at h;rcases zqa t Hh with k|k
 ·exact k
 ·have:Nat.blt t Hh=false:=zJb.2 λhb=>absurd (Nat.blt_eq ▸ hb) (zAc.2 k);rw[this] at h;cases h
def zU{t:Nat}{ty:List Ty×Ty}(h:qj t=some ty):t<Eh:=by
 unfold qj Kt at h;rcases zqa t Eh with k|k
 ·exact k
 ·have:Nat.blt t Eh=false:=zJb.2 λhb=>absurd (Nat.blt_eq ▸ hb) (zAc.2 k);rw[this] at h;cases h
def ik(P:Program)(call:Nat->List D->Option D):Prop:=∀ f ptys rty xs y,qj f=some (ptys,rty)->call (uD f) xs=some y->ff ptys xs->Hi P (mZ f) ptys rty f xs y
abbrev Lp:Type 1:={α β:Type}->(α->Option (Sum α β))->α->Option β
def ap(lp:Lp):Prop:=∀ (α β:Type) (body:α->Option (Sum α β)) (x:α) (y:β),lp body x=some y->∃ n,oH body n x=some y
def DG(N:Nat):ap (λbody=>oH body N):=λ_ _ _ _ _ h=>⟨N,h⟩
def tH:ap (λbody=>lJ body):=λ_ _ _ _ _ h=>nA h
def FI(pv:Bool)(tab:Nat->Option (Func×Ty))(lp:Lp)(call:Nat->List D->Option D):Nat->Inl
 | 0=>⟨pv,λ_=>none,λ_ _ _ _ _=>none⟩
 | n+1=>⟨pv,λf=>match tab f with
  | some p=>some (Mq (eX lp call (FI pv tab lp call n)) p.1 p.2)
  | none=>none,λc an R s k=>ev (eX lp call (FI pv tab lp call n)) c an R s k⟩
section
variable{P:Program}
def sT(h1:AT P=true)(h2:Bu P=true)(h4:A0 P=true)(h3:P.follows .mixedOrders=true){lp:Lp}(hlp:ap lp){call:Nat->List D->Option D}(hc:ik P call)
  {inl : Inl} (hcod : EG P inl.cod) (hi : ∀ f g, inl.f f = some g -> (∃ fn, P.funcs[f]? = some fn /\ (fn.name == "runtime.NumGoroutine") = false /\ fn.body.isSome = true) /\ ES P f g) : EnvOk P (eX lp call inl) := by
 have k1:∀ t ty,OQ t=some ty->bD P ty t=true/\ty.high<=1000/\aq ty=true:=λt ty ht=>by
  have:=zra.1 h1 t (zLa.2 (KI ht));rw[ht] at this;simp only[zaa,decide_eq_true_eq] at this;exact⟨this.1.1,this.1.2,this.2⟩
 refine⟨λt ty ht=>.inr (k1 t ty ht).1,λt ty ht=>(k1 t ty ht).2.1,λt ty ht=>(k1 t ty ht).2.2,λf ptys rty hf=>?_,hc,h3,hlp,λt kt vt ht=>?_,hi,hcod⟩
 ·have:=zra.1 h2 f (zLa.2 (zU hf));rw[show qj f=some (ptys,rty) from hf] at this;simp only[GF,zaa,zFb] at this;obtain⟨⟨q1,q2⟩,q3⟩:=this;refine⟨q1,?_,?_⟩
  ·rcases q2 with q2|q2
   ·exact .inl q2
   ·right;split at q2
    ·rename_i ts;exact⟨_,rfl,q2⟩
    ·cases q2
  ·split at q3
   ·rename_i fn hfn;simp only[zaa,zMa] at q3;exact⟨fn,hfn,q3⟩
   ·cases q3
 ·have:=zra.1 h4 t (zLa.2 (FT ht));rw[show FS t=some (kt,vt) from ht] at this;simp only[zaa,decide_eq_true_eq] at this;obtain⟨⟨m1,m2⟩,m3⟩:=this;refine⟨m1,?_⟩;split at m3<;>first|(cases m3;done)|skip
  rename_i K V hu;simp only[zaa] at m3;exact⟨K,V,hu,m3.1,m3.2,m2⟩
def BA (P : Program) (f : Nat) (p : Func × Ty) : Prop := P.funcs[f]? = some p.1 /\ (!(p.1.name == "runtime.NumGoroutine") && p.1.body.isSome && Bn p.1.results.size p.2) = true
theorem xd{pv:Bool}{tab:Nat->Option (Func×Ty)}(h1:AT P=true)(h2:Bu P=true)(h4:A0 P=true)(h3:P.follows .mixedOrders=true)(ht:∀ f p,tab f=some p->BA P f p){lp:Lp}(hlp:ap lp){call:Nat->List D->Option D}(hc:ik P call) :
  ∀ n,EnvOk P (eX lp call (FI pv tab lp call n))
 | 0=>sT h1 h2 h4 h3 hlp hc (λ_ _ _ _ _ _ _ _ _ _ _ _ _ _ _ _ _ h=>by cases h) λf g h=>by cases h
 | n+1=>sT h1 h2 h4 h3 hlp hc (L8 (xd h1 h2 h4 h3 ht hlp hc n)) λf g h=>by
  simp only[FI] at h;split at h<;>first|(cases h;done)|skip
  rename_i p hp;cases h;obtain⟨q1,q2⟩:=ht f p hp;simp only[zaa,zMa] at q2;exact⟨⟨p.1,q1,q2.1.1,q2.1.2⟩,JW (xd h1 h2 h4 h3 ht hlp hc n) q1 q2.2⟩
end
end Sy
end
noncomputable section
namespace Sy
open Go Go.Proofs
def zd:AT Tryz.prog=true:=by kernel_rfl
def zT:Bu Tryz.prog=true:=by kernel_rfl
def zk:A0 Tryz.prog=true:=by kernel_rfl
def A1:Tryz.prog.follows .mixedOrders=true:=by kernel_rfl
def JV(v:Nat)(lp:Lp)(call:Nat->List D->Option D):Inl:=FI (Nat.beq v 1) (KC v) lp call 9
noncomputable abbrev oF(lp:Lp)(call:Nat->List D->Option D):Inl:=JV 0 lp call
def KD(v:Nat):∀ f p,KC v f=some p->BA Tryz.prog f p:=by
 intro f p h;have key:∀ q∈KE,BA Tryz.prog q.1 q.2:=by
  intro q hq;simp only[KE,MM,zdb,z3b,zEa,zyc,or_false] at hq;repeat' first
   | (rcases hq with hq|hq;· subst hq;exact⟨by kernel_rfl,by kernel_rfl⟩)
   | (subst hq;exact⟨by kernel_rfl,by kernel_rfl⟩)
 exact key (f,p) (GP h)
def Oj{v:Nat}{lp:Lp}(hlp:ap lp){call:Nat->List D->Option D}(hc:ik Tryz.prog call):EnvOk Tryz.prog (eX lp call (JV v lp call)):=
 xd zd zT zk A1 (KD v) hlp hc 9
def Vb{lp:Lp}(hlp:ap lp){call:Nat->List D->Option D}(hc:ik Tryz.prog call):EnvOk Tryz.prog (eX lp call (oF lp call)):=Oj hlp hc
def OE(o:Oper):Option ByteArray:=match o.op with|.index _ (.const (.string s)) _=>some s|_=>none
def oW:Code->Option ByteArray
 | .region _ ops _=>ops.toList.findSome? OE
 | .seq a b=>(oW a).orElse λ_=>oW b
 | .cond _ a b=>(oW a).orElse λ_=>oW b
 | .block _ a=>oW a
 | .loop a=>oW a
 | .scope a=>oW a
 | _=>none
def Fi(f:Func):Code:=match f.body with|some c=>c|none=>.skip
end Sy
end
noncomputable section
namespace Sy
open Go Go.Proofs
inductive CT where
 | leaf (k:Nat) (g:(Nat->List D->Option D)->List D->Option D)
 | node (m:Nat) (a b:CT)
def CT.get:CT->Nat->(Nat->List D->Option D)->List D->Option D
 | .leaf k g,f,call,xs=>bif Nat.beq f k then g call xs else none
 | .node m a b,f,call,xs=>bif Nat.blt f m then a.get f call xs else b.get f call xs
def ai(f:Nat)(g:(Nat->List D->Option D)->List D->Option D):Prop:=
 ∀ call,ik Tryz.prog call->∀ ptys rty xs y,qj (eB f)=some (ptys,rty)->g call xs=some y->ff ptys xs->Hi Tryz.prog (mZ (eB f)) ptys rty (eB f) xs y
def CT.ok:CT->Prop
 | .leaf k g=>ai k g
 | .node _ a b=>a.ok/\b.ok
theorem CT.get_ok':∀ {t:CT},t.ok->∀ {call},ik Tryz.prog call->∀ f ptys rty xs y,qj (eB f)=some (ptys,rty)->t.get f call xs=some y->ff ptys xs->Hi Tryz.prog (mZ (eB f)) ptys rty (eB f) xs y
 | .leaf k g,h,call,hc,f,ptys,rty,xs,y,hs,hy,hw=>by
  simp only[CT.get] at hy;cases hb:Nat.beq f k with
  | false=>rw[hb] at hy;cases hy
  | true=>
   rw[hb] at hy;have:=zFc hb;subst this;exact h call hc ptys rty xs y hs hy hw
 | .node m a b,h,call,hc,f,ptys,rty,xs,y,hs,hy,hw=>by
  simp only[CT.get] at hy;cases hb:Nat.blt f m with
  | false=>rw[hb] at hy;exact CT.get_ok' h.2 hc f ptys rty xs y hs hy hw
  | true=>rw[hb] at hy;exact CT.get_ok' h.1 hc f ptys rty xs y hs hy hw
def LH:((List.range Eh).all λf=>match Kt f with|some p=>Nat.beq (eB p.1) f|none=>true)=true:=by kernel_rfl
def Ji{f:Nat}{g:List Ty×Ty}(h:qj f=some g):eB (uD f)=f:=by
 have h2:=zra.1 LH f (zLa.2 (zU h));unfold qj at h;unfold uD;split at h<;>first|(cases h;done)|skip
 rename_i p hp;rw[hp] at h2;exact zFc h2
def CT.get_ok{t:CT}(h:t.ok){call}(hc:ik Tryz.prog call):ik Tryz.prog λf xs=>t.get f call xs:=λf ptys rty xs y hs hy hw=>by
 have e:=Ji hs;have:=CT.get_ok' h hc (uD f) ptys rty xs y (by rw[e];exact hs) hy hw
 rwa [e] at this
def mX(v:Nat)(lp:Lp)(f:Nat)(fn:Func)(ann:Ann)(call:Nat->List D->Option D)(xs:List D):Option D:=
 (qj (eB f)).bind λs=>bif Nat.beq (mZ (eB f)) 0 then Vc (eX lp call (JV v lp call)) fn ann s.1 s.2 xs else Me (eX lp call (JV v lp call)) fn ann s.1 (mZ (eB f)) s.2 xs
def Ll(f:Nat)(fn:Func):Bool:=match qj (eB f) with
 | some (p,r)=>decide (p.length<=fn.ntmps)&&iK fn.results.size r&&bi p&&(decide (mZ (eB f)<=p.length)&&decide (mZ (eB f)<=4095))
 | none=>false
def gb{v:Nat}{lp:Lp}(hlp:ap lp){f:Nat}{fn:Func}{ann:Ann}(hf:Tryz.prog.funcs[eB f]?=some fn)(hk:Ll f fn=true):ai f (mX v lp f fn ann):=by
 intro call hc ptys rty xs y hs hy hw;unfold mX at hy;unfold Ll at hk;rw[hs] at hy hk;simp only[zba] at hy;simp only[zaa,decide_eq_true_eq] at hk;obtain⟨⟨⟨k1,k2⟩,k3⟩,k4,k5⟩:=hk;have hE:=Oj (v:=v) hlp hc;cases hz:mZ (eB f) with
 | zero=>
  rw[hz] at hy;exact Dq hE hf k1 k3 k2 hy
 | succ k=>
  rw[hz] at hy;exact Ay hE hf k1 k3 (by rw[<-hz];exact k4) (by rw[<-hz];exact k5) k2 hy
abbrev Ann.tl(a:Ann):Ann:=.two .leaf a
section
variable{α:Type}
noncomputable abbrev qT(x:D)(f:Bool->Option α):Option α:=(D.truth x).bind f
noncomputable abbrev qG(x:D)(p:List Nat)(f:D->Option α):Option α:=(D.get x p).bind f
noncomputable abbrev qS(x:D)(f:List D->Option α):Option α:=(D.asSl x).bind f
noncomputable abbrev qB(o:BinOp)(x y:D)(f:D->Option α):Option α:=(D.bin o x y).bind f
noncomputable abbrev qC(o:BinOp)(x y:D)(f:Bool->Option α):Option α:=(D.bin o x y).bind λz=>(D.truth z).bind f
noncomputable abbrev qN(x:D)(f:Bool->Option α):Option α:=(D.un .not x).bind λz=>(D.truth z).bind f
noncomputable abbrev qX(x i:D)(f:D->Option α):Option α:=(D.asSl x).bind λl=>(D.idx i l.length).bind λk=>(l[k]?).bind f
noncomputable abbrev qL(x i:D)(f:Bool->Option α):Option α:=(D.asSl x).bind λl=>(D.bin .lss i (.int .i64 l.length)).bind λz=>(D.truth z).bind f
noncomputable abbrev qY(x:D)(p:List Nat)(i:D)(f:D->Option α):Option α:=(D.get x p).bind λx=>(D.asSl x).bind λl=>(D.idx i l.length).bind λk=>(l[k]?).bind f
noncomputable abbrev qM(x:D)(p:List Nat)(i:D)(f:Bool->Option α):Option α:=(D.get x p).bind λx=>(D.asSl x).bind λl=>(D.bin .lss i (.int .i64 l.length)).bind λz=>(D.truth z).bind f
noncomputable abbrev qP(x:D)(p:List Nat)(f:List D->Option α):Option α:=(D.get x p).bind λx=>(D.asSl x).bind f
noncomputable abbrev qJ(i:D)(n:Nat)(x:D)(f:D->Option α):Option α:=(D.idx i n).bind λk=>(D.get x [k]).bind f
end
abbrev qV(l:List D)(i:Nat):List D:=(l.getD i (.bool false)).els
abbrev qW(l:List D)(i:Nat):D:=D.sl ((l.getD i (.bool false)).els)
abbrev qZ(lp:Lp)(f:List D->Option (Sum (List D) (Nat×List D))):List D->Option (Nat×List D):=lp f
abbrev iL(l:List D):Option (Sum (List D) (Nat×List D)):=some (Sum.inl l)
abbrev iR(l:Nat×List D):Option (Sum (List D) (Nat×List D)):=some (Sum.inr l)
abbrev LO:Type:=List (Nat×ShO)
abbrev LS:Type:=List (Nat×Sh)
abbrev Jn(n:Int):D:=.int .i64 n
abbrev Ca:Type:=Nat->List D->Option D
abbrev Sh.di:Sh:=.dv (.int .i64)
abbrev Sh.sp(t:Ty)(i:Nat):Sh:=.same (.ptr t i [])
def m0(F:(Nat->List D->Option D)->Option D)(call:Nat->List D->Option D)(xs:List D):Option D:=match xs with|[]=>F call|_=>none
def zf(v:Nat)(fn:Func)(ann:Ann){lp:Lp}(hlp:ap lp){f:Nat}{F:(Nat->List D->Option D)->Option D}(hf:Tryz.prog.funcs[eB f]?=some fn:=by kernel_rfl)(hk:Ll f fn=true:=by kernel_rfl)
  (hE:∀ call,mX v lp f fn ann call []=F call:=by intros;kernel_rfl):ai f (m0 F):=by
 intro call hc ptys rty xs y hs hy hw;unfold m0 at hy;split at hy<;>first|(cases hy;done)|skip
 exact gb (v:=v) hlp hf hk call hc ptys rty _ y hs ((hE call).trans hy) hw
def m1(F:(Nat->List D->Option D)->D->Option D)(call:Nat->List D->Option D)(xs:List D):Option D:=match xs with|[a0]=>F call a0|_=>none
def aU(v:Nat)(fn:Func)(ann:Ann){lp:Lp}(hlp:ap lp){f:Nat}{F:(Nat->List D->Option D)->D->Option D}(hf:Tryz.prog.funcs[eB f]?=some fn:=by kernel_rfl)(hk:Ll f fn=true:=by kernel_rfl)
  (hE:∀ call a0,mX v lp f fn ann call [a0]=F call a0:=by intros;kernel_rfl):ai f (m1 F):=by
 intro call hc ptys rty xs y hs hy hw;unfold m1 at hy;split at hy<;>first|(cases hy;done)|skip
 exact gb (v:=v) hlp hf hk call hc ptys rty _ y hs ((hE call _).trans hy) hw
def m2(F:(Nat->List D->Option D)->D->D->Option D)(call:Nat->List D->Option D)(xs:List D):Option D:=match xs with|[a0,a1]=>F call a0 a1|_=>none
def aR(v:Nat)(fn:Func)(ann:Ann){lp:Lp}(hlp:ap lp){f:Nat}{F:(Nat->List D->Option D)->D->D->Option D}(hf:Tryz.prog.funcs[eB f]?=some fn:=by kernel_rfl)(hk:Ll f fn=true:=by kernel_rfl)
  (hE:∀ call a0 a1,mX v lp f fn ann call [a0,a1]=F call a0 a1:=by intros;kernel_rfl):ai f (m2 F):=by
 intro call hc ptys rty xs y hs hy hw;unfold m2 at hy;split at hy<;>first|(cases hy;done)|skip
 exact gb (v:=v) hlp hf hk call hc ptys rty _ y hs ((hE call _ _).trans hy) hw
def m3(F:(Nat->List D->Option D)->D->D->D->Option D)(call:Nat->List D->Option D)(xs:List D):Option D:=match xs with|[a0,a1,a2]=>F call a0 a1 a2|_=>none
def kY(v:Nat)(fn:Func)(ann:Ann){lp:Lp}(hlp:ap lp){f:Nat}{F:(Nat->List D->Option D)->D->D->D->Option D}(hf:Tryz.prog.funcs[eB f]?=some fn:=by kernel_rfl)(hk:Ll f fn=true:=by kernel_rfl)
  (hE:∀ call a0 a1 a2,mX v lp f fn ann call [a0,a1,a2]=F call a0 a1 a2:=by intros;kernel_rfl):ai f (m3 F):=by
 intro call hc ptys rty xs y hs hy hw;unfold m3 at hy;split at hy<;>first|(cases hy;done)|skip
 exact gb (v:=v) hlp hf hk call hc ptys rty _ y hs ((hE call _ _ _).trans hy) hw
def m4(F:(Nat->List D->Option D)->D->D->D->D->Option D)(call:Nat->List D->Option D)(xs:List D):Option D:=match xs with|[a0,a1,a2,a3]=>F call a0 a1 a2 a3|_=>none
def Ct(v:Nat)(fn:Func)(ann:Ann){lp:Lp}(hlp:ap lp){f:Nat}{F:(Nat->List D->Option D)->D->D->D->D->Option D}(hf:Tryz.prog.funcs[eB f]?=some fn:=by kernel_rfl)(hk:Ll f fn=true:=by kernel_rfl)
  (hE:∀ call a0 a1 a2 a3,mX v lp f fn ann call [a0,a1,a2,a3]=F call a0 a1 a2 a3:=by intros;kernel_rfl):ai f (m4 F):=by
 intro call hc ptys rty xs y hs hy hw;unfold m4 at hy;split at hy<;>first|(cases hy;done)|skip
 exact gb (v:=v) hlp hf hk call hc ptys rty _ y hs ((hE call _ _ _ _).trans hy) hw
def m5(F:(Nat->List D->Option D)->D->D->D->D->D->Option D)(call:Nat->List D->Option D)(xs:List D):Option D:=match xs with|[a0,a1,a2,a3,a4]=>F call a0 a1 a2 a3 a4|_=>none
def Ox(v:Nat)(fn:Func)(ann:Ann){lp:Lp}(hlp:ap lp){f:Nat}{F:(Nat->List D->Option D)->D->D->D->D->D->Option D}(hf:Tryz.prog.funcs[eB f]?=some fn:=by kernel_rfl)(hk:Ll f fn=true:=by kernel_rfl)
  (hE:∀ call a0 a1 a2 a3 a4,mX v lp f fn ann call [a0,a1,a2,a3,a4]=F call a0 a1 a2 a3 a4:=by intros;kernel_rfl):ai f (m5 F):=by
 intro call hc ptys rty xs y hs hy hw;unfold m5 at hy;split at hy<;>first|(cases hy;done)|skip
 exact gb (v:=v) hlp hf hk call hc ptys rty _ y hs ((hE call _ _ _ _ _).trans hy) hw
abbrev gx(l:List D)(i:Nat):D:=l.getD i (.bool false)
end Sy
end
noncomputable section
set_option maxHeartbeats 0
noncomputable section
namespace Sy
open Go Go.Proofs
def XS:Ann:=let o0:LO:=[(4098,.one K4 (.st [K3,Ti] [.st [K2] [.ow K1],.di])),(36871,.one K4 (.st [K3,Ti] [.st [K2] [.ow K1],.di]))]
 let o1:LO:=[(4098,.one K4 (.st [K3,Ti] [.st [K2] [.ow K1],.di]))]
 let o2:LS:=[(2,.sp K4 4098),(7,.sp K4 36871),(9,.dv Ty.bool)]
 let o3:LS:=[(2,.sp K4 4098),(7,.sp K4 36871)]
 (.tl (.tl (.two (.tl (.two (.loop ⟨[(2,.sp K4 4098),(3,.di)],o1,[0]⟩ [(.ret,⟨[(2,.sp K4 4098)],o1,[]⟩),(.exit 0,⟨[(2,.sp K4 4098)],o1,[0]⟩)] (.tl (.two (.two (.tl (.two (.loop ⟨[(2,.sp K4 4098),(4,.di)],o1,[0,3]⟩ [(.ret,⟨[(2,.sp K4 4098)],o1,[]⟩),(.exit 2,⟨[(2,.sp K4 4098)],o1,[0,3]⟩)] .leaf) .leaf)) .leaf) .leaf))) .leaf)) (.tl (.tl (.tl (.tl (.tl (.two (.tl (.two (.loop ⟨[(2,.sp K4 4098),(7,.sp K4 36871),(8,.di)],o0,[5,6]⟩ [(.exit 4,⟨o3,o0,[]⟩)] (.tl (.cut [(.normal,⟨o3,o0,[5,6,8]⟩)] [5,6,8] [] (.two (.tl (.two (.tl (.two (.loop ⟨[(2,.sp K4 4098),(7,.sp K4 36871),(9,.dv Ty.bool),(10,.di)],o0,[5,6,8]⟩ [(.exit 6,⟨o2,o0,[5,6,8]⟩)] (.tl (.two (.two (.tl (.two (.loop ⟨[(2,.sp K4 4098),(7,.sp K4 36871),(9,.dv Ty.bool),(11,.di)],o0,[5,6,8,10]⟩ [(.exit 8,⟨o2,o0,[5,6,8,10]⟩)] .leaf) .leaf)) .leaf) .leaf))) .leaf)) (.tl (.two (.reg [] 8) .leaf)))) .leaf) .leaf))) .leaf)) .leaf)))))))))
def M9(lp:Lp)(c:Ca)(a0:D):Option D:=
 qS a0 λl1=>
 qC .gtr (Jn (l1.length)) (Jn 64) λb3=>
 if b3 then(some (D.st [(D.st [(D.sl [])]),(Jn 2)])) else((qZ lp (λv4=>
 qL a0 (gx v4 0) λb7=>
 if b7 then((qZ lp (λv8=>
 qC .lss (gx v8 0) (Jn 3) λb10=>
 if b10 then(qX a0 (gx v4 0) λx13=>
(D.idx (gx v8 0) 3).bind λi14=>
(D.fld x13 i14).bind λx15=>
 qC .gtr x15 (Jn 262144) λb17=>
(if b17 then(some true) else(qX a0 (gx v4 0) λx20=>
(D.idx (gx v8 0) 3).bind λi21=>
(D.fld x20 i21).bind λx22=>
 qB .lss x22 (Jn (-262144)) λx23=>
 D.truth x23)).bind λb24=>
 qT (D.bool b24) λb25=>
 if b25 then(iR (0,[(D.sl []),(Jn 1)])) else(qB .add (gx v8 0) (Jn 1) λx26=>
 iL [x26,(qW v8 1),(gx v8 2)])) else(iR (1,[(qW v8 1),(gx v8 2)]))) [(Jn 0),(qW v4 1),(gx v4 2)]).bind λr27=>
 if r27.1=0 then(iR (0,[(qW r27.2 0),(gx r27.2 1)])) else(qB .add (gx v4 0) (Jn 1) λx28=>
 iL [x28,(qW r27.2 0),(gx r27.2 1)])) else(iR (1,[(qW v4 1),(gx v4 2)]))) [(Jn 0),(D.sl []),(Jn 0)]).bind λr29=>
 if r29.1=0 then(some (D.st [(D.st [(qW r29.2 0)]),(gx r29.2 1)])) else((c 47 [a0]).bind λr30=>
(c 48 [r30]).bind λr31=>
 qS r31 λl32=>
 qT (D.bool (D.beq (Jn (l32.length)) (Jn 0))) λb33=>
 if b33 then(some (D.st [(D.st [(D.sl [])]),(Jn 120)])) else(qS r31 λl34=>
 qC .gtr (Jn (l34.length)) (Jn 64) λb36=>
 if b36 then(some (D.st [(D.st [(D.sl [])]),(Jn 2)])) else((qZ lp (λv37=>
 qL r30 (gx v37 0) λb40=>
 if b40 then(((qZ lp (λv41=>
 qL r31 (gx v41 1) λb44=>
 if b44 then((qZ lp (λv45=>
 qX r31 (gx v41 1) λx48=>
(D.fld x48 2).bind λx49=>
 qL x49 (gx v45 1) λb52=>
 if b52 then(qT (gx v45 0) λb53=>
(if b53 then(some true) else(qX r31 (gx v41 1) λx56=>
(D.fld x56 2).bind λx57=>
 qX x57 (gx v45 1) λx60=>
 D.truth (D.bool (D.beq x60 (gx v37 0))))).bind λb61=>
 qB .add (gx v45 1) (Jn 1) λx62=>
 iL [(D.bool b61),x62,(qW v45 2),(gx v45 3),(qW v45 4),(gx v45 5)]) else(iR (0,[(gx v45 0),(qW v45 2),(gx v45 3),(qW v45 4),(gx v45 5)]))) [(gx v41 0),(Jn 0),(qW v41 2),(gx v41 3),(qW v41 4),(gx v41 5)]).bind λr63=>
 qB .add (gx v41 1) (Jn 1) λx64=>
 iL [(gx r63.2 0),x64,(qW r63.2 1),(gx r63.2 2),(qW r63.2 3),(gx r63.2 4)]) else(iR (0,[(gx v41 0),(qW v41 2),(gx v41 3),(qW v41 4),(gx v41 5)]))) [(D.bool false),(Jn 0),(qW v37 1),(gx v37 2),(qW v37 3),(gx v37 4)]).bind λr65=>
 qT (gx r65.2 0) λb66=>
 if b66 then(qX r30 (gx v37 0) λx69=>
 if List.length (qV r65.2 3)+List.length [x69]<=1073741824 then(some (0,[(qW r65.2 1),(gx r65.2 2),(D.sl ((qV r65.2 3)++[x69])),(gx r65.2 4)])) else none) else(some (0,[(qW r65.2 1),(gx r65.2 2),(qW r65.2 3),(gx r65.2 4)]))).bind λ(r70:Nat×List D)=>
 qB .add (gx v37 0) (Jn 1) λx71=>
 iL [x71,(qW r70.2 0),(gx r70.2 1),(qW r70.2 2),(gx r70.2 3)]) else(iR (0,[(qW v37 1),(gx v37 2),(qW v37 3),(gx v37 4)]))) [(Jn 0),(qW r29.2 0),(gx r29.2 1),(D.sl []),(Jn 0)]).bind λr72=>
 some (D.st [(D.st [(qW r72.2 2)]),(gx r72.2 3)])))))
def YE{lp}(hlp:ap lp):ai 12 (m1 (M9 lp)):=aU 0 Tryz.f169 XS hlp
def XT:Ann:=(.tl (.tl (.two (.tl (.two (.loop ⟨[(5,.di)],[],[0,1]⟩ [(.ret,⟨[(4,.dv Ty.bool)],[],[]⟩),(.exit 0,⟨[],[],[]⟩)] (.tl (.two (.two (.two (.reg [] 8) .leaf) .leaf) .leaf))) .leaf)) .leaf)))
def O4(lp:Lp)(c:Ca)(a0:D)(a1:D):Option D:=
 qS a0 λl1=>
 qS a1 λl2=>
 qT (D.bool (!(D.beq (Jn (l1.length)) (Jn (l2.length))))) λb3=>
 if b3 then(some (D.bool false)) else((qZ lp (λv4=>
 qL a0 (gx v4 0) λb7=>
 if b7 then(qX a0 (gx v4 0) λx10=>
 qX a1 (gx v4 0) λx13=>
 qT (D.bool (!(D.beq x10 x13))) λb14=>
 if b14 then(iR (0,[(D.bool false)])) else(qB .add (gx v4 0) (Jn 1) λx15=>
 iL [x15])) else(iR (1,[]))) [(Jn 0)]).bind λr16=>
 if r16.1=0 then(some (gx r16.2 0)) else(some (D.bool true)))
def YF{lp}(hlp:ap lp):ai 13 (m2 (O4 lp)):=aR 0 Tryz.f170 XT hlp
def O5(lp:Lp)(c:Ca)(a0:D):Option D:=
 qG a0 [0] λx1=>
(c 12 [x1]).bind λr2=>
 qG r2 [1] λx3=>
 qT (D.bool (D.beq x3 (Jn 0))) λb4=>
(if b4 then(qG r2 [0,0] λx5=>
 qG a0 [0] λx6=>
(c 13 [x5,x6]).bind λr7=>
(D.un .not r7).bind λx8=>
 D.truth x8) else(some false)).bind λb9=>
 qT (D.bool b9) λb10=>
 if b10 then(some (Jn 3)) else(qG r2 [1] λx11=>
 some x11)
def YG{lp}(hlp:ap lp):ai 15 (m1 (O5 lp)):=aU 0 Tryz.f128 .leaf hlp
def XU:Ann:=(.tl (.tl (.two (.tl (.two (.loop ⟨[(1,.sp K3 4097),(3,.ow K6),(10,.di)],[(4097,.keep K3 1)],[8,9]⟩ [(.exit 0,⟨[(3,.ow K6)],[],[]⟩)] (.tl (.tl (.two (.two (.tl (.reg [] 11)) .leaf) .leaf)))) .leaf)) .leaf)))
def O6(lp:Lp)(c:Ca)(a0:D):Option D:=
 qG a0 [0] λx1=>
(c 45 [x1]).bind λr2=>
 qS r2 λl3=>
(qZ lp (λv4=>
 qC .lss (gx v4 1) (Jn (l3.length)) λb6=>
 if b6 then(qX r2 (gx v4 1) λx9=>
 qG x9 [0] λx10=>
 qG x9 [1] λx11=>
 qG a0 [0] λx12=>
(c 46 [x12,x9]).bind λr13=>
 if List.length (qV v4 0)+List.length [(D.st [x10,x11,r13])]<=1073741824 then(qB .add (gx v4 1) (Jn 1) λx14=>
 iL [(D.sl ((qV v4 0)++[(D.st [x10,x11,r13])])),x14]) else none) else(iR (0,[(qW v4 0)]))) [(D.sl []),(Jn 0)]).bind λr15=>
 some (qW r15.2 0)
def YH{lp}(hlp:ap lp):ai 18 (m1 (O6 lp)):=aU 0 Tryz.f176 XU hlp
def O7(lp:Lp)(c:Ca)(a0:D):Option D:=
 qG a0 [0] λx1=>
(c 48 [x1]).bind λr2=>
 some r2
def YI{lp}(hlp:ap lp):ai 19 (m1 (O7 lp)):=aU 0 Tryz.f171 .leaf hlp
def XV:Ann:=let o0:LS:=[(1,.sp K3 4097),(3,.ow K8),(7,.dv Ty.bool)]
 let o1:LS:=[(1,.sp K3 4097),(3,.ow K8)]
 (.tl (.tl (.tl (.two (.tl (.two (.loop ⟨[(1,.sp K3 4097),(3,.ow K8),(5,.di)],[(4097,.keep K3 1)],[4]⟩ [(.exit 0,⟨[(3,.ow K8)],[],[]⟩)] (.tl (.two (.two (.tl (.two (.loop ⟨[(1,.sp K3 4097),(3,.ow K8),(6,.di)],[(4097,.keep K3 1)],[4,5]⟩ [(.exit 2,⟨o1,[(4097,.keep K3 1)],[4,5]⟩)] (.tl (.cut [(.normal,⟨o1,[(4097,.keep K3 1)],[4,5,6]⟩)] [4,5,6] [4097] (.two (.tl (.two (.tl (.two (.loop ⟨[(1,.sp K3 4097),(3,.ow K8),(7,.dv Ty.bool),(8,.di)],[(4097,.keep K3 1)],[4,5,6]⟩ [(.exit 4,⟨o0,[(4097,.keep K3 1)],[4,5,6]⟩)] (.tl (.two (.two (.tl (.tl (.two (.loop ⟨[(1,.sp K3 4097),(3,.ow K8),(7,.dv Ty.bool),(10,.di)],[(4097,.keep K3 1)],[4,5,6,8,9]⟩ [(.exit 6,⟨o0,[(4097,.keep K3 1)],[4,5,6,8]⟩)] .leaf) .leaf))) .leaf) .leaf))) .leaf)) .leaf)) .leaf) .leaf))) .leaf)) .leaf) .leaf))) .leaf)) .leaf))))
def O8(lp:Lp)(c:Ca)(a0:D):Option D:=
(c 19 [a0]).bind λr1=>
(qZ lp (λv2=>
 qM a0 [0] (gx v2 1) λb6=>
 if b6 then(qB .add (gx v2 1) (Jn 1) λx7=>
(qZ lp (λv8=>
 qM a0 [0] (gx v8 1) λb12=>
 if b12 then(((qZ lp (λv13=>
 qL r1 (gx v13 2) λb16=>
 if b16 then(qX r1 (gx v13 2) λx19=>
(D.fld x19 2).bind λx20=>
(qZ lp (λv21=>
 qL x20 (gx v21 2) λb24=>
 if b24 then(qT (gx v21 1) λb25=>
(if b25 then(some true) else(qX x20 (gx v21 2) λx28=>
 qT (D.bool (D.beq x28 (gx v2 1))) λb29=>
 if b29 then(qB .add (gx v21 2) (Jn 1) λx30=>
 qS x20 λl31=>
 qB .rem x30 (Jn (l31.length)) λx32=>
 qX x20 x32 λx35=>
 D.truth (D.bool (D.beq x35 (gx v8 1)))) else(some false))).bind λb36=>
 qT (D.bool b36) λb37=>
(if b37 then(some true) else(qX x20 (gx v21 2) λx40=>
 qT (D.bool (D.beq x40 (gx v8 1))) λb41=>
 if b41 then(qB .add (gx v21 2) (Jn 1) λx42=>
 qS x20 λl43=>
 qB .rem x42 (Jn (l43.length)) λx44=>
 qX x20 x44 λx47=>
 D.truth (D.bool (D.beq x47 (gx v2 1)))) else(some false))).bind λb48=>
 qB .add (gx v21 2) (Jn 1) λx49=>
 iL [(qW v21 0),(D.bool b48),x49]) else(iR (0,[(qW v21 0),(gx v21 1)]))) [(qW v13 0),(gx v13 1),(Jn 0)]).bind λr50=>
 qB .add (gx v13 2) (Jn 1) λx51=>
 iL [(qW r50.2 0),(gx r50.2 1),x51]) else(iR (0,[(qW v13 0),(gx v13 1)]))) [(qW v8 0),(D.bool false),(Jn 0)]).bind λr52=>
 qT (gx r52.2 1) λb53=>
 if b53 then(if List.length (qV r52.2 0)+List.length [(D.st [(gx v2 1),(gx v8 1)])]<=1073741824 then(some (0,[(D.sl ((qV r52.2 0)++[(D.st [(gx v2 1),(gx v8 1)])]))])) else none) else(some (0,[(qW r52.2 0)]))).bind λ(r54:Nat×List D)=>
 qB .add (gx v8 1) (Jn 1) λx55=>
 iL [(qW r54.2 0),x55]) else(iR (0,[(qW v8 0)]))) [(qW v2 0),x7]).bind λr56=>
 qB .add (gx v2 1) (Jn 1) λx57=>
 iL [(qW r56.2 0),x57]) else(iR (0,[(qW v2 0)]))) [(D.sl []),(Jn 0)]).bind λr58=>
 some (qW r58.2 0)
def YJ{lp}(hlp:ap lp):ai 22 (m1 (O8 lp)):=aU 0 Tryz.f206 XV hlp
def XW:Ann:=let o0:LO:=[(4098,.one aJ (.dv aJ)),(8195,.one aJ (.dv aJ)),(20482,.keep K3 2)]
 (.tl (.tl (.two (.regI [] 3 (.two (.tl (.tl (.two (.loop ⟨[(1,.same (.clo 183 [(.ptr aJ 8195 [])])),(2,.sp K3 20482),(11,.di)],o0,[9,10]⟩ [(.exit 0,⟨[],[(4098,.one aJ (.dv aJ)),(8195,.one aJ (.dv aJ))],[]⟩)] (.tl (.tl (.two (.two (.tl (.tl (.two (.loop ⟨[(1,.same (.clo 183 [(.ptr aJ 8195 [])])),(2,.sp K3 20482),(5,.sp K6 36869),(6,.di)],[(4098,.one aJ (.dv aJ)),(8195,.one aJ (.dv aJ)),(20482,.keep K3 2),(36869,.keep K6 5)],[9,10,11]⟩ [(.exit 2,⟨[(1,.same (.clo 183 [(.ptr aJ 8195 [])])),(2,.sp K3 20482)],o0,[9,10,11]⟩)] (.tl (.two (.two (.two (.reg [] 29) (.regI [] 10 .leaf)) .leaf) .leaf))) .leaf))) .leaf) .leaf)))) .leaf))) .leaf)) .leaf)))
def O9(lp:Lp)(c:Ca)(a0:D):Option D:=
(c 54 [(Jn 0)]).bind λr1=>
(c 18 [a0]).bind λr2=>
 qS r2 λl3=>
(qZ lp (λv4=>
 qC .lss (gx v4 0) (Jn (l3.length)) λb6=>
 if b6 then(qX r2 (gx v4 0) λx9=>
(qZ lp (λv10=>
 qM x9 [2] (gx v10 0) λb14=>
 if b14 then(qG a0 [0] λx15=>
 qY x9 [2] (Jn 0) λx19=>
 qX x15 x19 λx22=>
 qG a0 [0] λx23=>
 qG x9 [2] λx24=>
 qB .sub (gx v10 0) (Jn 1) λx25=>
 qX x24 x25 λx28=>
 qX x23 x28 λx31=>
 qG a0 [0] λx32=>
 qY x9 [2] (gx v10 0) λx36=>
 qX x32 x36 λx39=>
(c 117 [x22,x31]).bind λr40=>
(c 91 [r40,x39]).bind λr41=>
(c 57 [(gx v10 2),r41]).bind λr42=>
 qB .add (gx v10 0) (Jn 1) λx43=>
 iL [x43,(gx v10 1),r42]) else(iR (0,[(gx v10 1),(gx v10 2)]))) [(Jn 2),(gx v4 1),(gx v4 2)]).bind λr44=>
 qB .add (gx v4 0) (Jn 1) λx45=>
 iL [x45,(gx r44.2 0),(gx r44.2 1)]) else(iR (0,[(gx v4 1),(gx v4 2)]))) [(Jn 0),(D.st [(D.bool false),(D.bool false),(aB bc)]),r1]).bind λr46=>
 some (gx r46.2 1)
def YK{lp}(hlp:ap lp):ai 23 (m1 (O9 lp)):=aU 0 Tryz.f142 XW hlp
def XX:Ann:=let o0:LO:=[(4098,.keep aJ 2),(12292,.one aJ (.dv aJ))]
 (.tl (.tl (.tl (.two (.tl (.two (.loop ⟨[(2,.sp aJ 4098),(4,.sp aJ 12292),(5,.di)],o0,[3]⟩ [(.exit 0,⟨[(2,.sp aJ 4098),(4,.sp aJ 12292)],o0,[]⟩)] (.tl (.two (.two (.reg [] 7) .leaf) .leaf))) .leaf)) .leaf))))
def Pa(lp:Lp)(c:Ca)(a0:D):Option D:=
(c 58 [a0]).bind λr1=>
(c 34 [(Jn 0)]).bind λr2=>
(qZ lp (λv3=>
 qL r1 (gx v3 0) λb6=>
 if b6 then(qX r1 (gx v3 0) λx9=>
(D.fld x9 1).bind λx10=>
(c 59 [(gx v3 1),x10]).bind λr11=>
 qB .add (gx v3 0) (Jn 1) λx12=>
 iL [x12,r11]) else(iR (0,[(gx v3 1)]))) [(Jn 0),r2]).bind λr13=>
 some (gx r13.2 0)
def YL{lp}(hlp:ap lp):ai 24 (m1 (Pa lp)):=aU 0 Tryz.f151 XX hlp
end Sy
end
end
noncomputable section
set_option maxHeartbeats 0
noncomputable section
namespace Sy
open Go Go.Proofs
def XY:Ann:=let o0:LO:=[(4098,.one bX (.st [Ti,Ti,jD] [.di,.di,.ow aY])),(8195,.one pp (.dv pp)),(20482,.one K3 (.dv K3)),(36869,.one K6 (.dv K6)),(65539,.keep aJ 3),(65540,.keep ET 4)]
 let o1:LO:=[(4098,.one bX (.st [Ti,Ti,jD] [.di,.di,.ow aY])),(8195,.keep pp 3),(36868,.keep aJ 4),(40965,.one bX (.st [Ti,Ti,jD] [.di,.di,.ow aY]))]
 let o2:LO:=[(4098,.one bX (.st [Ti,Ti,jD] [.di,.di,.ow aY])),(8195,.keep pp 2),(20482,.one K3 (.dv K3)),(36869,.one K6 (.dv K6)),(65539,.keep aJ 3),(65540,.keep ET 4)]
 let o3:LO:=[(4098,.one bX (.st [Ti,Ti,jD] [.di,.di,.ow aY])),(8195,.one pp (.dv pp)),(20482,.keep K3 2)]
 (.tl (.tl (.two (.regI [] 3 (.two (.tl (.tl (.two (.loop ⟨[(1,.same (.clo 135 [(.ptr pp 8195 [])])),(2,.sp K3 20482),(11,.di)],o3,[9,10]⟩ [(.exit 0,⟨[],[(4098,.one bX (.st [Ti,Ti,jD] [.di,.di,.ow aY])),(8195,.one pp (.dv pp))],[]⟩)] (.tl (.tl (.two (.two (.tl (.tl (.two (.loop ⟨[(1,.same (.clo 135 [(.ptr pp 8195 [])])),(2,.sp K3 20482),(5,.sp K6 36869),(6,.di)],[(4098,.one bX (.st [Ti,Ti,jD] [.di,.di,.ow aY])),(8195,.one pp (.dv pp)),(20482,.keep K3 2),(36869,.keep K6 5)],[9,10,11]⟩ [(.exit 2,⟨[(1,.same (.clo 135 [(.ptr pp 8195 [])])),(2,.sp K3 20482)],o3,[9,10,11]⟩)] (.tl (.two (.two (.two (.reg [] 29) (.regI [] 10 (.two (.tl (.tl (.two (.loop ⟨[(2,.sp pp 8195),(3,.sp aJ 65539),(4,.sp ET 65540),(10,.di)],o0,[]⟩ [(.exit 0,⟨[],[(4098,.one bX (.st [Ti,Ti,jD] [.di,.di,.ow aY])),(8195,.one pp (.dv pp)),(20482,.one K3 (.dv K3)),(36869,.one K6 (.dv K6))],[]⟩)] (.tl (.tl (.two (.two (.tl (.tl (.two (.loop ⟨[(2,.sp pp 8195),(3,.sp aJ 65539),(4,.sp ET 65540),(13,.di)],o0,[5,10]⟩ [(.exit 2,⟨[(2,.sp pp 8195),(3,.sp aJ 65539),(4,.sp ET 65540)],o0,[10]⟩)] (.tl (.tl (.two (.two (.tl (.two (.reg [] 29) (.two (.tl (.two (.loop ⟨[(2,.sp pp 8195),(3,.sp aJ 65539),(4,.sp ET 65540),(7,.di),(46,.di)],o2,[5,6,10,13,45]⟩ [(.exit 4,⟨[(2,.sp pp 8195),(3,.sp aJ 65539),(4,.sp ET 65540),(7,.di)],o2,[5,6,10,13]⟩)] (.tl (.tl (.two (.two (.tl (.reg [] 9)) .leaf) .leaf)))) .leaf)) (.reg [] 14)))) .leaf) .leaf)))) .leaf))) .leaf) .leaf)))) .leaf))) .leaf))) .leaf) .leaf))) .leaf))) .leaf) .leaf)))) .leaf))) .leaf)) (.two (.reg [] 12) (.tl (.two (.tl (.two (.loop ⟨[(2,.sp bX 4098),(3,.sp pp 8195),(4,.sp aJ 36868),(5,.sp bX 40965),(24,.di)],o1,[]⟩ [(.exit 0,⟨[(2,.sp bX 4098),(5,.sp bX 40965)],[(4098,.one bX (.st [Ti,Ti,jD] [.di,.di,.ow aY])),(40965,.one bX (.st [Ti,Ti,jD] [.di,.di,.ow aY]))],[]⟩)] (.tl (.tl (.two (.two (.tl (.tl (.two (.loop ⟨[(2,.sp bX 4098),(3,.sp pp 8195),(4,.sp aJ 36868),(5,.sp bX 40965),(27,.di)],o1,[6,24]⟩ [(.exit 2,⟨[(2,.sp bX 4098),(3,.sp pp 8195),(4,.sp aJ 36868),(5,.sp bX 40965)],o1,[24]⟩)] (.tl (.tl (.two (.two (.tl (.tl (.cut [(.normal,⟨[(2,.sp bX 4098),(3,.sp pp 8195),(4,.sp aJ 36868),(5,.sp bX 40965),(8,.sp aJ 77832)],[(4098,.one bX (.st [Ti,Ti,jD] [.di,.di,.ow aY])),(8195,.keep pp 3),(36868,.keep aJ 4),(40965,.one bX (.st [Ti,Ti,jD] [.di,.di,.ow aY])),(77832,.one aJ (.dv aJ))],[6,24,27]⟩)] [6,24,27] [8195,36868] .leaf (.reg [] 6)))) .leaf) .leaf)))) .leaf))) .leaf) .leaf)))) .leaf)) .leaf))))))
def Pb(lp:Lp)(c:Ca)(a0:D):Option D:=
(c 18 [a0]).bind λr1=>
 qS r1 λl2=>
(qZ lp (λv3=>
 qC .lss (gx v3 0) (Jn (l2.length)) λb5=>
 if b5 then(qX r1 (gx v3 0) λx8=>
(qZ lp (λv9=>
 qM x8 [2] (gx v9 0) λb13=>
 if b13 then(qG a0 [0] λx14=>
 qY x8 [2] (Jn 0) λx18=>
 qX x14 x18 λx21=>
 qG a0 [0] λx22=>
 qG x8 [2] λx23=>
 qB .sub (gx v9 0) (Jn 1) λx24=>
 qX x23 x24 λx27=>
 qX x22 x27 λx30=>
 qG a0 [0] λx31=>
 qY x8 [2] (gx v9 0) λx35=>
 qX x31 x35 λx38=>
(c 117 [x21,x30]).bind λr39=>
(c 91 [r39,x38]).bind λr40=>
(qZ lp (λv41=>
 qC .lss (gx v41 0) (Jn 3) λb43=>
 if b43 then((qZ lp (λv44=>
 qC .lss (gx v44 0) (Jn 3) λb46=>
 if b46 then(qJ (gx v41 0) 3 x21 λx48=>
 qJ (gx v41 0) 3 x30 λx50=>
 qB .add x48 x50 λx51=>
 qJ (gx v41 0) 3 x38 λx53=>
 qB .add x51 x53 λx54=>
 qJ (gx v44 0) 3 x21 λx56=>
 qJ (gx v44 0) 3 x30 λx58=>
 qB .add x56 x58 λx59=>
 qJ (gx v44 0) 3 x38 λx61=>
 qB .add x59 x61 λx62=>
 qB .mul x54 x62 λx63=>
(qZ lp (λv64=>
 qC .lss (gx v64 1) (Jn 3) λb66=>
 if b66 then((D.idx (gx v64 1) 3).bind λi67=>
(D.fld (D.st [x21,x30,x38]) i67).bind λx68=>
 qJ (gx v41 0) 3 x68 λx70=>
 qJ (gx v44 0) 3 x68 λx72=>
 qB .mul x70 x72 λx73=>
 qB .add (gx v64 0) x73 λx74=>
 qB .add (gx v64 1) (Jn 1) λx75=>
 iL [x74,x75,(gx v64 2),(gx v64 3),(qW v64 4),(gx v64 5),(gx v64 6)]) else(iR (0,[(gx v64 0),(gx v64 2),(gx v64 3),(qW v64 4),(gx v64 5),(gx v64 6)]))) [x63,(Jn 0),(gx v44 1),(gx v44 2),(qW v44 3),(gx v44 5),(gx v44 6)]).bind λr76=>
(D.idx (gx v41 0) 3).bind λi77=>
(D.idx (gx v44 0) 3).bind λi78=>
 qG (gx v44 4) [i77,i78] λx79=>
(c 54 [(gx r76.2 0)]).bind λr80=>
(c 61 [r40,r80]).bind λr81=>
(c 57 [x79,r81]).bind λr82=>
(D.idx (gx v41 0) 3).bind λi83=>
(D.idx (gx v44 0) 3).bind λi84=>
(D.set (gx v44 4) [i83,i84] r82).bind λx85=>
 qB .add (gx v44 0) (Jn 1) λx86=>
 iL [x86,(gx r76.2 1),(gx r76.2 2),(qW r76.2 3),x85,(gx r76.2 4),(gx r76.2 5)]) else(iR (0,[(gx v44 1),(gx v44 2),(qW v44 3),(gx v44 4),(gx v44 5),(gx v44 6)]))) [(Jn 0),(gx v41 1),(gx v41 2),(qW v41 3),(gx v41 4),(gx v41 5),(gx v41 6)]).bind λr87=>
 qB .add (gx v41 0) (Jn 1) λx88=>
 iL [x88,(gx r87.2 0),(gx r87.2 1),(qW r87.2 2),(gx r87.2 3),(gx r87.2 4),(gx r87.2 5)]) else(iR (0,[(gx v41 1),(gx v41 2),(qW v41 3),(gx v41 4),(gx v41 5),(gx v41 6)]))) [(Jn 0),(gx v9 1),(gx v9 2),(qW v9 3),(gx v9 4),a0,x8]).bind λr89=>
 qB .add (gx v9 0) (Jn 1) λx90=>
 iL [x90,(gx r89.2 0),(gx r89.2 1),(qW r89.2 2),(gx r89.2 3)]) else(iR (0,[(gx v9 1),(gx v9 2),(qW v9 3),(gx v9 4)]))) [(Jn 2),(gx v3 1),(gx v3 2),(qW v3 3),(gx v3 4)]).bind λr91=>
 qB .add (gx v3 0) (Jn 1) λx92=>
 iL [x92,(gx r91.2 0),(gx r91.2 1),(qW r91.2 2),(gx r91.2 3)]) else(iR (0,[(gx v3 1),(gx v3 2),(qW v3 3),(gx v3 4)]))) [(Jn 0),(Jn 0),(Jn 0),(D.sl []),(D.st [(D.st [(D.st [(D.bool false),(D.bool false),(aB bc)]),(D.st [(D.bool false),(D.bool false),(aB bc)]),(D.st [(D.bool false),(D.bool false),(aB bc)])]),(D.st [(D.st [(D.bool false),(D.bool false),(aB bc)]),(D.st [(D.bool false),(D.bool false),(aB bc)]),(D.st [(D.bool false),(D.bool false),(aB bc)])]),(D.st [(D.st [(D.bool false),(D.bool false),(aB bc)]),(D.st [(D.bool false),(D.bool false),(aB bc)]),(D.st [(D.bool false),(D.bool false),(aB bc)])])])]).bind λr93=>
 qG (gx r93.2 3) [0,0] λx94=>
 qG (gx r93.2 3) [1,1] λx95=>
(c 57 [x94,x95]).bind λr96=>
 qG (gx r93.2 3) [2,2] λx97=>
(c 57 [r96,x97]).bind λr98=>
(qZ lp (λv99=>
 qC .lss (gx v99 0) (Jn 3) λb101=>
 if b101 then((qZ lp (λv102=>
 qC .lss (gx v102 0) (Jn 3) λb104=>
 if b104 then((D.idx (gx v99 0) 3).bind λi105=>
(D.idx (gx v102 0) 3).bind λi106=>
 qG (gx r93.2 3) [i105,i106] λx107=>
(c 68 [x107]).bind λr108=>
(qT (D.bool (D.beq (gx v99 0) (gx v102 0))) λb109=>
 if b109 then((c 57 [r108,r98]).bind λr110=>
 some (0,[(gx v102 1),(gx v102 2),(qW v102 3),(gx v102 4),(gx v102 5),(qW v102 6),r110])) else(some (0,[(gx v102 1),(gx v102 2),(qW v102 3),(gx v102 4),(gx v102 5),(qW v102 6),r108]))).bind λ(r111:Nat×List D)=>
(c 54 [(Jn 120)]).bind λr112=>
(c 62 [(gx r111.2 6),r112]).bind λr113=>
 if List.length (qV r111.2 5)+List.length [r113]<=1073741824 then(qB .add (gx v102 0) (Jn 1) λx114=>
 iL [x114,(gx r111.2 0),(gx r111.2 1),(qW r111.2 2),(gx r111.2 3),(gx r111.2 4),(D.sl ((qV r111.2 5)++[r113]))]) else none) else(iR (0,[(gx v102 1),(gx v102 2),(qW v102 3),(gx v102 4),(gx v102 5),(qW v102 6)]))) [(Jn 0),(gx v99 1),(gx v99 2),(qW v99 3),(gx v99 4),(gx v99 5),(qW v99 6)]).bind λr115=>
 qB .add (gx v99 0) (Jn 1) λx116=>
 iL [x116,(gx r115.2 0),(gx r115.2 1),(qW r115.2 2),(gx r115.2 3),(gx r115.2 4),(qW r115.2 5)]) else(iR (0,[(gx v99 1),(gx v99 2),(qW v99 3),(gx v99 4),(gx v99 5),(qW v99 6)]))) [(Jn 0),(gx r93.2 0),(gx r93.2 1),(qW r93.2 2),(Jn 3),(Jn 3),(D.sl [])]).bind λr117=>
 some (D.st [(gx r117.2 3),(gx r117.2 4),(qW r117.2 5)])
def YM{lp}(hlp:ap lp):ai 28 (m1 (Pb lp)):=aU 0 Tryz.f84 XY hlp
def XZ:Ann:=let o0:LO:=[(4098,.one bX (.st [Ti,Ti,jD] [.di,.di,.ow aY])),(12292,.keep aY 4),(16389,.one bX (.st [Ti,Ti,jD] [.di,.di,.ow aY]))]
 (.tl (.tl (.tl (.tl (.two (.tl (.two (.loop ⟨[(2,.sp bX 4098),(4,.sp aY 12292),(5,.sp bX 16389),(6,.di)],o0,[3]⟩ [(.exit 0,⟨[(2,.sp bX 4098),(5,.sp bX 16389)],[(4098,.one bX (.st [Ti,Ti,jD] [.di,.di,.ow aY])),(16389,.one bX (.st [Ti,Ti,jD] [.di,.di,.ow aY]))],[]⟩)] (.tl (.two (.two (.tl (.two (.loop ⟨[(2,.sp bX 4098),(4,.sp aY 12292),(5,.sp bX 16389),(7,.di)],o0,[3,6]⟩ [(.exit 2,⟨[(2,.sp bX 4098),(4,.sp aY 12292),(5,.sp bX 16389)],o0,[3,6]⟩)] (.tl (.two (.two (.tl (.cut [(.normal,⟨[(2,.sp bX 4098),(4,.sp aY 12292),(5,.sp bX 16389),(8,.sp aY 45064)],[(4098,.one bX (.st [Ti,Ti,jD] [.di,.di,.ow aY])),(12292,.keep aY 4),(16389,.one bX (.st [Ti,Ti,jD] [.di,.di,.ow aY])),(45064,.one aY (.dv aY))],[3,6,7]⟩)] [3,6,7] [12292] .leaf .leaf)) .leaf) .leaf))) .leaf)) .leaf) .leaf))) .leaf)) .leaf)))))
def Pc(lp:Lp)(c:Ca)(a0:D):Option D:=
(c 58 [a0]).bind λr1=>
(c 69 [r1,(Jn 0),(Jn 0)]).bind λr2=>
(c 69 [r1,(Jn 1),(Jn 1)]).bind λr3=>
(c 40 [r2,r3]).bind λr4=>
(c 69 [r1,(Jn 2),(Jn 2)]).bind λr5=>
(c 40 [r4,r5]).bind λr6=>
(qZ lp (λv7=>
 qC .lss (gx v7 0) (Jn 3) λb9=>
 if b9 then((qZ lp (λv10=>
 qC .lss (gx v10 0) (Jn 3) λb12=>
 if b12 then((c 69 [r1,(gx v7 0),(gx v10 0)]).bind λr13=>
(c 70 [r13]).bind λr14=>
(qT (D.bool (D.beq (gx v7 0) (gx v10 0))) λb15=>
 if b15 then((c 40 [r6,r14]).bind λr16=>
 some (0,[(gx v10 1),(gx v10 2),(qW v10 3),(gx v10 4),(gx v10 5),(qW v10 6),r16])) else(some (0,[(gx v10 1),(gx v10 2),(qW v10 3),(gx v10 4),(gx v10 5),(qW v10 6),r14]))).bind λ(r17:Nat×List D)=>
 if List.length (qV r17.2 5)+List.length [(gx r17.2 6)]<=1073741824 then(qB .add (gx v10 0) (Jn 1) λx18=>
 iL [x18,(gx r17.2 0),(gx r17.2 1),(qW r17.2 2),(gx r17.2 3),(gx r17.2 4),(D.sl ((qV r17.2 5)++[(gx r17.2 6)]))]) else none) else(iR (0,[(gx v10 1),(gx v10 2),(qW v10 3),(gx v10 4),(gx v10 5),(qW v10 6)]))) [(Jn 0),(gx v7 1),(gx v7 2),(qW v7 3),(gx v7 4),(gx v7 5),(qW v7 6)]).bind λr19=>
 qB .add (gx v7 0) (Jn 1) λx20=>
 iL [x20,(gx r19.2 0),(gx r19.2 1),(qW r19.2 2),(gx r19.2 3),(gx r19.2 4),(qW r19.2 5)]) else(iR (0,[(gx v7 1),(gx v7 2),(qW v7 3),(gx v7 4),(gx v7 5),(qW v7 6)]))) [(Jn 0),(Jn 0),(Jn 0),(D.sl []),(Jn 3),(Jn 3),(D.sl [])]).bind λr21=>
 some (D.st [(gx r21.2 3),(gx r21.2 4),(qW r21.2 5)])
def YN{lp}(hlp:ap lp):ai 29 (m1 (Pc lp)):=aU 0 Tryz.f94 XZ hlp
def X0:Ann:=(.tl (.tl (.tl (.tl (.tl (.tl (.tl (.cut [(.normal,⟨[(5,.dv K5),(6,.dv K5)],[],[]⟩)] [] [] .leaf .leaf))))))))
def Pd(lp:Lp)(c:Ca)(a0:D)(a1:D):Option D:=
(c 76 [a0]).bind λr1=>
 qN r1 λb3=>
(if b3 then((c 76 [a1]).bind λr4=>
(D.un .not r4).bind λx5=>
 D.truth x5) else(some false)).bind λb6=>
 qT (D.bool b6) λb7=>
 if b7 then(some (Jn 0)) else((c 76 [a0]).bind λr8=>
 qN r8 λb10=>
 if b10 then(some (Jn (-1))) else((c 76 [a1]).bind λr11=>
 qN r11 λb13=>
 if b13 then(some (Jn 1)) else(qG a0 [1] λx14=>
 qG a1 [1] λx15=>
 qT (D.bool (!(D.beq x14 x15))) λb16=>
 if b16 then(qG a0 [1] λx17=>
 qT x17 λb18=>
 if b18 then(some (Jn (-1))) else(some (Jn 1))) else((c 77 [a0]).bind λr19=>
(c 77 [a1]).bind λr20=>
(qG a0 [1] λx21=>
 qT x21 λb22=>
 if b22 then((c 77 [a1]).bind λr23=>
(c 77 [a0]).bind λr24=>
 some (0,[r23,r24])) else(some (0,[r19,r20]))).bind λ(r25:Nat×List D)=>
(c 78 [(gx r25.2 0),(gx r25.2 1)]).bind λr26=>
(c 78 [(gx r25.2 1),(gx r25.2 0)]).bind λr27=>
 qT r26 λb28=>
 if b28 then(some (Jn (-1))) else(qT r27 λb29=>
 if b29 then(some (Jn 1)) else(some (Jn 0)))))))
def YO{lp}(hlp:ap lp):ai 32 (m2 (Pd lp)):=aR 0 Tryz.f72 X0 hlp
def X2:Ann:=(.tl (.two (.reg [] 5) .leaf))
def Pe(lp:Lp)(c:Ca)(a0:D)(a1:D):Option D:=
(c 80 [a0]).bind λr1=>
(c 80 [a1]).bind λr2=>
(c 79 [r1,r2]).bind λr3=>
 some r3
def YP{lp}(hlp:ap lp):ai 33 (m2 (Pe lp)):=aR 0 Tryz.f185 X2 hlp
def Pf(lp:Lp)(c:Ca)(a0:D):Option D:=
 qC .geq a0 (Jn 0) λb2=>
 if b2 then(qB .rem a0 (Jn 65536) λx3=>
 qB .quo a0 (Jn 65536) λx4=>
 qB .rem x4 (Jn 65536) λx5=>
 qB .quo a0 (Jn 4294967296) λx6=>
 qB .rem x6 (Jn 65536) λx7=>
 qB .quo a0 (Jn 281474976710656) λx8=>
(c 81 [(D.bool false),(D.sl [x3,x5,x7,x8])]).bind λr9=>
 some r9) else(qB .add a0 (Jn 1) λx10=>
(D.un .neg x10).bind λx11=>
 qB .rem x11 (Jn 65536) λx12=>
 qB .quo x11 (Jn 65536) λx13=>
 qB .rem x13 (Jn 65536) λx14=>
 qB .quo x11 (Jn 4294967296) λx15=>
 qB .rem x15 (Jn 65536) λx16=>
 qB .quo x11 (Jn 281474976710656) λx17=>
(c 82 [(D.sl [x12,x14,x16,x17]),(D.sl [(Jn 1)])]).bind λr18=>
(c 81 [(D.bool true),r18]).bind λr19=>
 some r19)
def YQ{lp}(hlp:ap lp):ai 34 (m1 (Pf lp)):=aU 0 Tryz.f69 .leaf hlp
def X3:Ann:=(.tl (.tl (.tl (.cut [(.normal,⟨[(2,.sp aJ 4098),(3,.sp aJ 4099),(4,.sp aY 4100),(5,.sp aJ 12293)],[(4098,.keep aJ 2),(4099,.keep aJ 3),(4100,.keep aY 4),(12293,.one aJ (.dv aJ))],[]⟩)] [] [4098,4099,4100] .leaf (.two (.reg [] 7) .leaf)))))
def Pg(lp:Lp)(c:Ca)(a0:D)(a1:D):Option D:=
(c 76 [a0]).bind λr1=>
 qN r1 λb3=>
(if b3 then(some true) else((c 76 [a1]).bind λr4=>
(D.un .not r4).bind λx5=>
 D.truth x5)).bind λb6=>
 qT (D.bool b6) λb7=>
(if b7 then(some true) else((c 83 [a1]).bind λr8=>
 D.truth (D.bool (D.beq r8 (Jn 0))))).bind λb9=>
 qT (D.bool b9) λb10=>
 if b10 then((c 84 []).bind λr11=>
 some r11) else((c 85 [a0,a1]).bind λr12=>
((c 83 [a1]).bind λr13=>
 qC .lss r13 (Jn 0) λb15=>
 if b15 then((c 86 [r12]).bind λr16=>
 some (0,[r16])) else(some (0,[r12]))).bind λ(r17:Nat×List D)=>
(c 87 [a0,(gx r17.2 0)]).bind λr18=>
(c 87 [a1,(gx r17.2 0)]).bind λr19=>
 some (D.st [r18,r19]))
def YR{lp}(hlp:ap lp):ai 37 (m2 (Pg lp)):=aR 0 Tryz.f67 X3 hlp
def X4:Ann:=(.tl (.tl (.tl (.tl (.tl (.two (.reg [] 14) .leaf))))))
def Ph(lp:Lp)(c:Ca)(a0:D)(a1:D):Option D:=
(c 88 [a0]).bind λr1=>
 qN r1 λb3=>
(if b3 then(some true) else((c 88 [a1]).bind λr4=>
(D.un .not r4).bind λx5=>
 D.truth x5)).bind λb6=>
 qT (D.bool b6) λb7=>
 if b7 then((c 84 []).bind λr8=>
 some r8) else(qG a0 [1] λx9=>
 qG a1 [1] λx10=>
(c 85 [x9,x10]).bind λr11=>
 qG a0 [1] λx12=>
(c 87 [x12,r11]).bind λr13=>
 qG a1 [1] λx14=>
(c 87 [x14,r11]).bind λr15=>
 qG a0 [0] λx16=>
(c 89 [x16,r15]).bind λr17=>
 qG a1 [0] λx18=>
(c 89 [x18,r13]).bind λr19=>
(c 59 [r17,r19]).bind λr20=>
 qG a1 [1] λx21=>
(c 89 [r13,x21]).bind λr22=>
(c 37 [r20,r22]).bind λr23=>
 some r23)
def YS{lp}(hlp:ap lp):ai 40 (m2 (Ph lp)):=aR 0 Tryz.f34 X4 hlp
def X5:Ann:=let o0:LO:=[(4098,.keep K2 2),(4099,.keep dF 3),(8197,.one K5 (.dv K5))]
 let o1:LO:=[(4098,.keep K2 2),(4099,.keep dF 3),(8197,.one K5 (.ow Ti))]
 let o2:LO:=[(4098,.keep K2 2),(4099,.keep dF 3),(8197,.keep K5 1)]
 let o3:LS:=[(2,.sp K2 4098),(3,.sp dF 4099),(5,.sp K5 8197)]
 let o4:LS:=[(2,.sp K2 4098),(3,.sp dF 4099),(6,.di)]
 (.tl (.tl (.two (.tl (.two (.loop ⟨[(2,.sp K2 4098),(3,.sp dF 4099),(5,.sp K5 8197),(13,.di)],o1,[11,12]⟩ [(.exit 0,⟨o3,o1,[]⟩)] (.tl (.tl (.cut [(.normal,⟨o3,o1,[11,12,13]⟩)] [11,12,13] [4098,4099] (.two (.tl (.two (.reg [] 6) .leaf)) .leaf) .leaf)))) .leaf)) (.tl (.tl (.two (.two (.regI [] 6 (.two (.tl (.tl (.two (.tl (.two (.loop ⟨[(2,.sp K2 4098),(3,.sp dF 4099),(6,.di),(12,.dv K5),(14,.di)],o0,[0,13]⟩ [(.exit 0,⟨[(6,.di)],o0,[]⟩)] (.tl (.tl (.cut [(.normal,⟨o4,o0,[0,12,13,14]⟩)] [0,12,13,14] [4098,4099] (.two (.tl (.tl (.tl (.two (.reg [] 20) .leaf)))) .leaf) .leaf)))) .leaf)) .leaf))) .leaf)) (.two (.loop ⟨[(5,.sp K5 8197),(8,.same (.clo 240 [(.ptr K5 8197 []),(.ptr K2 4098 []),(.ptr dF 4099 [])])),(9,.ow Ti),(10,.di)],[(4098,.keep K2 2),(4099,.keep dF 3),(8197,.keep K5 5)],[]⟩ [(.exit 2,⟨[(9,.ow Ti)],[],[]⟩)] (.tl (.tl (.regI [] 4 (.two (.tl (.tl (.two (.tl (.two (.loop ⟨[(2,.sp K2 4098),(3,.sp dF 4099),(6,.di),(14,.di)],o2,[0,12,13]⟩ [(.exit 0,⟨[(6,.di)],o2,[]⟩)] (.tl (.tl (.cut [(.normal,⟨o4,o0,[0,12,13,14]⟩)] [0,12,13,14] [4098,4099] (.two (.tl (.tl (.tl (.two (.reg [] 20) .leaf)))) .leaf) .leaf)))) .leaf)) .leaf))) .leaf))))) .leaf)) .leaf))))))
def Pi(lp:Lp)(c:Ca)(a0:D)(a1:D):Option D:=
 qS a0 λl1=>
(qZ lp (λv2=>
 qC .lss (gx v2 0) (Jn (l1.length)) λb4=>
 if b4 then((qX a0 (gx v2 0) λx7=>
 qG a1 [0] λx8=>
(c 101 [x8,x7]).bind λr9=>
 qG a1 [1] λx10=>
 qT (D.bool (D.beq r9 x10)) λb11=>
 if b11 then(if List.length (qV v2 1)+List.length [(gx v2 0)]<=1073741824 then(some (0,[(D.sl ((qV v2 1)++[(gx v2 0)]))])) else none) else(some (0,[(qW v2 1)]))).bind λ(r12:Nat×List D)=>
 qB .add (gx v2 0) (Jn 1) λx13=>
 iL [x13,(qW r12.2 0)]) else(iR (0,[(qW v2 1)]))) [(Jn 0),(D.sl [])]).bind λr14=>
(D.idx (Jn 0) (List.length (qV r14.2 0))).bind λi15=>
((qV r14.2 0)[i15]?).bind λx16=>
(D.idx (Jn 0) (List.length (qV r14.2 0))).bind λi17=>
((qV r14.2 0)[i17]?).bind λx18=>
(qZ lp (λv19=>
 qC .lss (gx v19 2) (Jn (List.length (qV r14.2 0))) λb21=>
 if b21 then((qX (gx v19 1) (gx v19 2) λx24=>
 qT (D.bool (D.beq x24 x18)) λb25=>
 if b25 then(some (0,[(gx v19 0),(gx v19 3)])) else(qC .lss (gx v19 0) (Jn 0) λb27=>
 if b27 then(some (0,[x24,(gx v19 3)])) else(qX a0 x24 λx30=>
 qX a0 x18 λx33=>
(c 103 [x30,x33]).bind λr34=>
 qX a0 (gx v19 0) λx37=>
 qX a0 x18 λx40=>
(c 103 [x37,x40]).bind λr41=>
 qG a1 [0] λx42=>
(c 104 [x42,r41,r34]).bind λr43=>
 qC .lss r43 (Jn 0) λb45=>
(if b45 then(some true) else(qT (D.bool (D.beq r43 (Jn 0))) λb46=>
 if b46 then((c 101 [r34,r34]).bind λr47=>
(c 101 [r41,r41]).bind λr48=>
 qB .gtr r47 r48 λx49=>
 D.truth x49) else(some false))).bind λb50=>
 qT (D.bool b50) λb51=>
 if b51 then(some (0,[x24,(gx v19 3)])) else(some (0,[(gx v19 0),(gx v19 3)]))))).bind λ(r52:Nat×List D)=>
 qB .add (gx v19 2) (Jn 1) λx53=>
 iL [(gx r52.2 0),(gx v19 1),x53,(gx r52.2 1)]) else(iR (0,[(gx v19 0),(gx v19 3)]))) [(Jn (-1)),(qW r14.2 0),(Jn 0),(qW r14.2 0)]).bind λr54=>
(qZ lp (λv55=>
 qX (gx r54.2 1) (Jn 0) λx58=>
 qT (D.bool (!(D.beq (gx v55 1) x58))) λb59=>
 if b59 then(if List.length (qV v55 0)+List.length [(gx v55 1)]<=1073741824 then(qS (gx r54.2 1) λl60=>
(qZ lp (λv61=>
 qC .lss (gx v61 1) (Jn (l60.length)) λb63=>
 if b63 then((qX (gx r54.2 1) (gx v61 1) λx66=>
 qT (D.bool (D.beq x66 (gx v55 1))) λb67=>
 if b67 then(some (0,[(gx v61 0),(gx r54.2 1)])) else(qC .lss (gx v61 0) (Jn 0) λb69=>
 if b69 then(some (0,[x66,(gx r54.2 1)])) else(qX a0 x66 λx72=>
 qX a0 (gx v55 1) λx75=>
(c 103 [x72,x75]).bind λr76=>
 qX a0 (gx v61 0) λx79=>
 qX a0 (gx v55 1) λx82=>
(c 103 [x79,x82]).bind λr83=>
 qG a1 [0] λx84=>
(c 104 [x84,r83,r76]).bind λr85=>
 qC .lss r85 (Jn 0) λb87=>
(if b87 then(some true) else(qT (D.bool (D.beq r85 (Jn 0))) λb88=>
 if b88 then((c 101 [r76,r76]).bind λr89=>
(c 101 [r83,r83]).bind λr90=>
 qB .gtr r89 r90 λx91=>
 D.truth x91) else(some false))).bind λb92=>
 qT (D.bool b92) λb93=>
 if b93 then(some (0,[x66,(gx r54.2 1)])) else(some (0,[(gx v61 0),(gx r54.2 1)]))))).bind λ(r94:Nat×List D)=>
 qB .add (gx v61 1) (Jn 1) λx95=>
 iL [(gx r94.2 0),x95]) else(iR (0,[(gx v61 0)]))) [(Jn (-1)),(Jn 0)]).bind λr96=>
 iL [(D.sl ((qV v55 0)++[(gx v55 1)])),(gx r96.2 0)]) else none) else(iR (0,[(qW v55 0)]))) [(D.sl [x16]),(gx r54.2 0)]).bind λr97=>
 some (qW r97.2 0)
def YU{lp}(hlp:ap lp):ai 46 (m2 (Pi lp)):=aR 0 Tryz.f211 X5 hlp
end Sy
end
end
noncomputable section
set_option maxHeartbeats 0
noncomputable section
namespace Sy
open Go Go.Proofs
def X7:Ann:=let o0:LS:=[(3,.ow K1),(5,.ow K1),(6,.dv Ty.bool)]
 (.tl (.tl (.two (.tl (.two (.loop ⟨[(3,.ow K1),(4,.di)],[],[0]⟩ [(.exit 0,⟨[(3,.ow K1)],[],[]⟩)] (.tl (.two (.two (.tl (.tl (.two (.tl (.two (.loop ⟨[(3,.ow K1),(5,.ow K1),(6,.dv Ty.bool),(7,.di)],[],[0,4]⟩ [(.exit 2,⟨[(5,.ow K1),(6,.dv Ty.bool)],[],[0,4]⟩)] (.tl (.cut [(.normal,⟨o0,[],[0,4,7]⟩)] [0,4,7] [] (.two (.two (.reg [] 9) (.cut [(.normal,⟨o0,[],[0,4,7]⟩)] [0,4,7] [] .leaf (.two (.reg [] 8) .leaf))) .leaf) .leaf))) .leaf)) (.cut [(.normal,⟨[(5,.ow K1)],[],[0,4]⟩)] [0,4] [] .leaf .leaf)))) .leaf) .leaf))) .leaf)) .leaf)))
def Pj(lp:Lp)(c:Ca)(a0:D):Option D:=
(qZ lp (λv1=>
 qL a0 (gx v1 1) λb4=>
 if b4 then((qZ lp (λv5=>
 qC .lss (gx v5 3) (Jn (List.length (qV v5 0))) λb7=>
 if b7 then((qX a0 (gx v1 1) λx10=>
(D.idx (gx v5 3) (List.length (qV v5 0))).bind λi11=>
((qV v5 0)[i11]?).bind λx12=>
(c 105 [x10,x12]).bind λr13=>
(qN (gx v5 2) λb15=>
(if b15 then(qT r13 λb16=>
 if b16 then(some true) else(qX a0 (gx v1 1) λx19=>
(D.idx (gx v5 3) (List.length (qV v5 0))).bind λi20=>
((qV v5 0)[i20]?).bind λx21=>
 D.truth (D.bool (D.beq x19 x21)))) else(some false)).bind λb22=>
 qT (D.bool b22) λb23=>
 if b23 then(qX a0 (gx v1 1) λx26=>
 if List.length (qV v5 1)+List.length [x26]<=1073741824 then(some (0,[(qW v5 0),(D.sl ((qV v5 1)++[x26])),(D.bool true)])) else none) else(some (0,[(qW v5 0),(qW v5 1),(gx v5 2)]))).bind λ(r27:Nat×List D)=>
(D.idx (gx v5 3) (List.length (qV r27.2 0))).bind λi28=>
((qV r27.2 0)[i28]?).bind λx29=>
 qX a0 (gx v1 1) λx32=>
 qT (D.bool (!(D.beq x29 x32))) λb33=>
 if b33 then((D.idx (gx v5 3) (List.length (qV r27.2 0))).bind λi34=>
((qV r27.2 0)[i34]?).bind λx35=>
 if List.length (qV r27.2 1)+List.length [x35]<=1073741824 then(some (0,[(qW r27.2 0),(D.sl ((qV r27.2 1)++[x35])),(gx r27.2 2)])) else none) else(some (0,[(qW r27.2 0),(qW r27.2 1),(gx r27.2 2)]))).bind λ(r36:Nat×List D)=>
 qB .add (gx v5 3) (Jn 1) λx37=>
 iL [(qW r36.2 0),(qW r36.2 1),(gx r36.2 2),x37]) else(iR (0,[(qW v5 1),(gx v5 2)]))) [(qW v1 0),(D.sl []),(D.bool false),(Jn 0)]).bind λr38=>
(qN (gx r38.2 1) λb40=>
 if b40 then(qX a0 (gx v1 1) λx43=>
 if List.length (qV r38.2 0)+List.length [x43]<=1073741824 then(some (0,[(D.sl ((qV r38.2 0)++[x43]))])) else none) else(some (0,[(qW r38.2 0)]))).bind λ(r44:Nat×List D)=>
 qB .add (gx v1 1) (Jn 1) λx45=>
 iL [(qW r44.2 0),x45]) else(iR (0,[(qW v1 0)]))) [(D.sl []),(Jn 0)]).bind λr46=>
 some (qW r46.2 0)
def YV{lp}(hlp:ap lp):ai 47 (m1 (Pj lp)):=aU 0 Tryz.f203 X7 hlp
def X8:Ann:=(.tl (.tl (.two (.tl (.two (.loop ⟨[(3,.dv K7),(4,.di)],[],[0]⟩ [(.exit 0,⟨[(3,.dv K7)],[],[]⟩)] (.tl (.two (.two (.tl (.two (.loop ⟨[(3,.dv K7),(5,.di)],[],[0,4]⟩ [(.exit 2,⟨[(3,.dv K7)],[],[0,4]⟩)] (.tl (.two (.two (.tl (.two (.loop ⟨[(3,.dv K7),(6,.di)],[],[0,4,5]⟩ [(.exit 4,⟨[(3,.dv K7)],[],[0,4,5]⟩)] (.tl (.two (.two (.two (.reg [] 14) (.tl (.two (.loop ⟨[(3,.dv K7),(7,.sp K1 49159),(8,.di)],[(49159,.one K1 (.dv K1))],[0,4,5,6]⟩ [(.exit 6,⟨[(3,.dv K7)],[],[0,4,5,6]⟩)] (.tl (.two (.two (.two (.reg [] 6) (.tl (.tl (.cut [(.normal,⟨[(3,.dv K7),(7,.sp K1 49159)],[(49159,.keep K1 7)],[0,4,5,6,8]⟩)] [0,4,5,6,8] [49159] (.tl (.two (.reg [] 9) .leaf)) .leaf)))) .leaf) .leaf))) .leaf))) .leaf) .leaf))) .leaf)) .leaf) .leaf))) .leaf)) .leaf) .leaf))) .leaf)) .leaf)))
def Pk(lp:Lp)(c:Ca)(a0:D):Option D:=
(qZ lp (λv1=>
 qL a0 (gx v1 1) λb4=>
 if b4 then(qB .add (gx v1 1) (Jn 1) λx5=>
(qZ lp (λv6=>
 qL a0 (gx v6 1) λb9=>
 if b9 then(qB .add (gx v6 1) (Jn 1) λx10=>
(qZ lp (λv11=>
 qL a0 (gx v11 1) λb14=>
 if b14 then(qX a0 (gx v1 1) λx17=>
 qX a0 (gx v6 1) λx20=>
 qX a0 (gx v11 1) λx23=>
(c 106 [x17,x20,x23]).bind λr24=>
(qZ lp (λv25=>
 qC .lss (gx v25 1) (Jn 2) λb27=>
 if b27 then(qX a0 (gx v1 1) λx30=>
(c 107 [(gx v25 2),x30]).bind λr31=>
(c 108 [(gx v25 0),(gx v25 2)]).bind λr32=>
(qN r32 λb34=>
(if b34 then((D.un .not (D.bool (D.beq (gx v25 2) (D.st [(Jn 0),(Jn 0),(Jn 0)])))).bind λx35=>
 D.truth x35) else(some false)).bind λb36=>
 qT (D.bool b36) λb37=>
(if b37 then((c 109 [a0,(gx v25 2),r31]).bind λr38=>
 D.truth r38) else(some false)).bind λb39=>
 qT (D.bool b39) λb40=>
 if b40 then((c 111 [a0,(gx v25 2),r31]).bind λr41=>
(c 110 [(gx v25 0),(D.st [(gx v25 2),r31,r41])]).bind λr42=>
 some (0,[r42])) else(some (0,[(gx v25 0)]))).bind λ(r43:Nat×List D)=>
(c 112 [(D.st [(Jn 0),(Jn 0),(Jn 0)]),(gx v25 2)]).bind λr44=>
 qB .add (gx v25 1) (Jn 1) λx45=>
 iL [(gx r43.2 0),x45,r44]) else(iR (0,[(gx v25 0)]))) [(gx v11 0),(Jn 0),r24]).bind λr46=>
 qB .add (gx v11 1) (Jn 1) λx47=>
 iL [(gx r46.2 0),x47]) else(iR (0,[(gx v11 0)]))) [(gx v6 0),x10]).bind λr48=>
 qB .add (gx v6 1) (Jn 1) λx49=>
 iL [(gx r48.2 0),x49]) else(iR (0,[(gx v6 0)]))) [(gx v1 0),x5]).bind λr50=>
 qB .add (gx v1 1) (Jn 1) λx51=>
 iL [(gx r50.2 0),x51]) else(iR (0,[(gx v1 0)]))) [(D.sl []),(Jn 0)]).bind λr52=>
 some (gx r52.2 0)
def YW{lp}(hlp:ap lp):ai 48 (m1 (Pk lp)):=aU 0 Tryz.f204 X8 hlp
def X9:Ann:=(.tl (.tl (.two (.tl (.two (.loop ⟨[(8,.di)],[],[3,6,7]⟩ [(.ret,⟨[(2,.di)],[],[]⟩),(.exit 0,⟨[],[],[3]⟩)] .leaf) .leaf)) .leaf)))
def Pm(lp:Lp)(c:Ca)(a0:D):Option D:=
 qS a0 λl1=>
(qZ lp (λv2=>
 qC .lss (gx v2 0) (Jn (l1.length)) λb4=>
 if b4 then(qX a0 (gx v2 0) λx7=>
 qT (D.bool (!(D.beq x7 (Jn 0)))) λb8=>
 if b8 then(iR (0,[x7])) else(qB .add (gx v2 0) (Jn 1) λx9=>
 iL [x9])) else(iR (1,[]))) [(Jn 0)]).bind λr10=>
 if r10.1=0 then(some (gx r10.2 0)) else(some (Jn 0))
def YX{lp}(hlp:ap lp):ai 52 (m1 (Pm lp)):=aU 0 Tryz.f237 X9 hlp
def Pn(lp:Lp)(c:Ca)(a0:D)(a1:D):Option D:=
(c 115 [a0]).bind λr1=>
(c 115 [a1]).bind λr2=>
 qT r1 λb3=>
 if b3 then(qT r2 λb4=>
 if b4 then(some (Jn 0)) else(some (Jn (-1)))) else(qT r2 λb5=>
 if b5 then(some (Jn 1)) else(qC .lss a0 a1 λb7=>
 if b7 then(some (Jn (-1))) else(qC .gtr a0 a1 λb9=>
 if b9 then(some (Jn 1)) else(some (Jn 0)))))
def YY{lp}(hlp:ap lp):ai 53 (m2 (Pn lp)):=aR 0 Tryz.f238 .leaf hlp
def Ya:Ann:=(.tl (.tl (.cut [(.normal,⟨[(2,.sp aJ 4098),(3,.dv (Ty.int .u64))],[(4098,.keep aJ 2)],[0]⟩)] [0] [4098] .leaf .leaf)))
def Pp(lp:Lp)(c:Ca)(a0:D):Option D:=
(D.conv .u64 a0).bind λx1=>
(qC .lss a0 (Jn 0) λb3=>
 if b3 then((D.un .neg x1).bind λx4=>
 some (0,[x4])) else(some (0,[x1]))).bind λ(r5:Nat×List D)=>
 qB .lss a0 (Jn 0) λx6=>
(D.conv .u32 (gx r5.2 0)).bind λx7=>
 qB .shr (gx r5.2 0) (D.int .u64 32) λx8=>
(D.conv .u32 x8).bind λx9=>
(c 116 [x6,(D.st (D.putParts (List.replicate 16 (D.int .u32 0)) [(0,x7),(1,x9)]))]).bind λr10=>
 some r10
def YZ{lp}(hlp:ap lp):ai 54 (m1 (Pp lp)):=aU 0 Tryz.f83 Ya hlp
def Yb:Ann:=(.tl (.tl (.tl (.two (.tl (.two (.two (.reg [] 8) .leaf) .leaf)) (.two (.reg [] 8) .leaf)))))
def Pq(lp:Lp)(c:Ca)(a0:D)(a1:D):Option D:=
(c 118 [(D.sl [a0,a1])]).bind λr1=>
 qN r1 λb3=>
 if b3 then((c 119 []).bind λr4=>
 some r4) else(qG a0 [1] λx5=>
 qG a1 [1] λx6=>
 qT (D.bool (D.beq x5 x6)) λb7=>
 if b7 then(qG a0 [2] λx8=>
 qG a1 [2] λx9=>
(c 120 [x8,x9]).bind λr10=>
(D.tupAt r10 0).bind λx11=>
(D.tupAt r10 1).bind λx12=>
 qN x12 λb14=>
 if b14 then((c 119 []).bind λr15=>
 some r15) else(qG a0 [1] λx16=>
(c 116 [x16,x11]).bind λr17=>
 some r17)) else(qG a0 [2] λx18=>
 qG a1 [2] λx19=>
(c 121 [x18,x19]).bind λr20=>
 qC .geq r20 (Jn 0) λb22=>
 if b22 then(qG a0 [1] λx23=>
 qG a0 [2] λx24=>
 qG a1 [2] λx25=>
(c 122 [x24,x25]).bind λr26=>
(c 116 [x23,r26]).bind λr27=>
 some r27) else(qG a1 [1] λx28=>
 qG a1 [2] λx29=>
 qG a0 [2] λx30=>
(c 122 [x29,x30]).bind λr31=>
(c 116 [x28,r31]).bind λr32=>
 some r32)))
def Y0{lp}(hlp:ap lp):ai 57 (m2 (Pq lp)):=aR 0 Tryz.f104 Yb hlp
def Yc:Ann:=(.tl (.tl (.tl (.two (.tl (.two (.loop ⟨[(1,.sp K3 4097),(3,.ow LD),(5,.di)],[(4097,.keep K3 1)],[4]⟩ [(.exit 0,⟨[(3,.ow LD)],[],[]⟩)] (.tl (.two (.two (.tl (.tl (.two (.loop ⟨[(1,.sp K3 4097),(3,.ow LD),(7,.di)],[(4097,.keep K3 1)],[4,5,6]⟩ [(.exit 2,⟨[(1,.sp K3 4097),(3,.ow LD)],[(4097,.keep K3 1)],[4,5]⟩)] (.tl (.two (.two (.two (.reg [] 26) (.reg [] 12)) .leaf) .leaf))) .leaf))) .leaf) .leaf))) .leaf)) .leaf))))
def Pr(lp:Lp)(c:Ca)(a0:D):Option D:=
(c 19 [a0]).bind λr1=>
(qZ lp (λv2=>
 qL r1 (gx v2 1) λb5=>
 if b5 then(qX r1 (gx v2 1) λx8=>
(D.fld x8 2).bind λx9=>
(qZ lp (λv10=>
 qB .add (gx v10 1) (Jn 1) λx11=>
 qL x9 x11 λb14=>
 if b14 then(qG a0 [0] λx15=>
 qX x9 (Jn 0) λx18=>
 qX x15 x18 λx21=>
 qG a0 [0] λx22=>
 qX x9 (gx v10 1) λx25=>
 qX x22 x25 λx28=>
 qG a0 [0] λx29=>
 qB .add (gx v10 1) (Jn 1) λx30=>
 qX x9 x30 λx33=>
 qX x29 x33 λx36=>
(c 123 [x21,x28]).bind λr37=>
(c 33 [r37,x36]).bind λr38=>
 if List.length (qV v10 0)+List.length [(D.st [(D.st [x21,x28,x36]),r38])]<=1073741824 then(qB .add (gx v10 1) (Jn 1) λx39=>
 iL [(D.sl ((qV v10 0)++[(D.st [(D.st [x21,x28,x36]),r38])])),x39]) else none) else(iR (0,[(qW v10 0)]))) [(qW v2 0),(Jn 1)]).bind λr40=>
 qB .add (gx v2 1) (Jn 1) λx41=>
 iL [(qW r40.2 0),x41]) else(iR (0,[(qW v2 0)]))) [(D.sl []),(Jn 0)]).bind λr42=>
 some (qW r42.2 0)
def Y1{lp}(hlp:ap lp):ai 58 (m1 (Pr lp)):=aU 0 Tryz.f146 Yc hlp
def Yd:Ann:=(.tl (.tl (.tl (.tl (.tl (.tl (.tl (.two (.tl (.two (.two (.reg [] 6) .leaf) .leaf)) (.tl (.two (.tl (.two (.two (.reg [] 6) .leaf) .leaf)) (.two (.reg [] 6) .leaf)))))))))))
def Ns(lp:Lp)(c:Ca)(a0:D)(a1:D):Option D:=
(c 124 [a0]).bind λr1=>
(D.tupAt r1 0).bind λx2=>
(D.tupAt r1 1).bind λx3=>
(c 124 [a1]).bind λr4=>
(D.tupAt r4 0).bind λx5=>
(D.tupAt r4 1).bind λx6=>
 qT x3 λb7=>
(if b7 then(D.truth x6) else(some false)).bind λb8=>
 qT (D.bool b8) λb9=>
 if b9 then(qB .add x2 x5 λx10=>
(c 34 [x10]).bind λr11=>
 some r11) else((c 76 [a0]).bind λr12=>
 qN r12 λb14=>
(if b14 then(some true) else((c 76 [a1]).bind λr15=>
(D.un .not r15).bind λx16=>
 D.truth x16)).bind λb17=>
 qT (D.bool b17) λb18=>
 if b18 then((c 125 []).bind λr19=>
 some r19) else((c 77 [a0]).bind λr20=>
(c 77 [a1]).bind λr21=>
 qG a0 [1] λx22=>
 qG a1 [1] λx23=>
 qT (D.bool (D.beq x22 x23)) λb24=>
 if b24 then(qG a0 [1] λx25=>
(c 82 [r20,r21]).bind λr26=>
(c 81 [x25,r26]).bind λr27=>
 some r27) else((c 78 [r20,r21]).bind λr28=>
 qT r28 λb29=>
 if b29 then(qG a1 [1] λx30=>
(c 126 [r21,r20]).bind λr31=>
(c 81 [x30,r31]).bind λr32=>
 some r32) else(qG a0 [1] λx33=>
(c 126 [r20,r21]).bind λr34=>
(c 81 [x33,r34]).bind λr35=>
 some r35))))
def Y2{lp}(hlp:ap lp):ai 59 (m2 (Ns lp)):=aR 0 Tryz.f77 Yd hlp
def Ye:Ann:=let o0:LO:=[(4098,.keep aJ 2),(4099,.keep aJ 3),(4100,.keep aJ 4),(12293,.one Je (.dv Je))]
 (.tl (.tl (.tl (.two (.reg [] 7) (.two (.tl (.two (.loop ⟨[(2,.sp aJ 4098),(3,.sp aJ 4099),(4,.sp aJ 4100),(5,.sp Je 12293),(24,.di)],o0,[7,23]⟩ [(.exit 0,⟨[(2,.sp aJ 4098),(3,.sp aJ 4099),(4,.sp aJ 4100),(5,.sp Je 12293)],o0,[]⟩)] (.tl (.tl (.two (.two (.tl (.tl (.two (.tl (.two (.loop ⟨[(2,.sp aJ 4098),(3,.sp aJ 4099),(4,.sp aJ 4100),(5,.sp Je 12293),(9,.dv (Ty.int .u64)),(28,.di)],o0,[7,8,23,24,27]⟩ [(.exit 2,⟨[(2,.sp aJ 4098),(3,.sp aJ 4099),(4,.sp aJ 4100),(5,.sp Je 12293),(9,.dv (Ty.int .u64))],o0,[7,8,23,24]⟩)] (.tl (.tl (.two (.two (.tl (.two (.reg [] 20) .leaf)) .leaf) .leaf)))) .leaf)) .leaf))) .leaf) .leaf)))) .leaf)) (.tl (.two (.reg [] 9) .leaf)))))))
def Ps(lp:Lp)(c:Ca)(a0:D)(a1:D):Option D:=
(c 118 [(D.sl [a0,a1])]).bind λr1=>
 qN r1 λb3=>
 if b3 then((c 119 []).bind λr4=>
 some r4) else(qG a0 [2] λx5=>
(c 127 [x5]).bind λr6=>
 qG a1 [2] λx7=>
(c 127 [x7]).bind λr8=>
(qZ lp (λv9=>
 qC .lss (gx v9 0) r6 λb11=>
 if b11 then((qZ lp (λv12=>
 qC .lss (gx v12 1) r8 λb14=>
 if b14 then((D.idx (gx v9 0) 16).bind λi15=>
 qG a0 [2,i15] λx16=>
(D.conv .u64 x16).bind λx17=>
(D.idx (gx v12 1) 16).bind λi18=>
 qG a1 [2,i18] λx19=>
(D.conv .u64 x19).bind λx20=>
 qB .mul x17 x20 λx21=>
 qB .add (gx v9 0) (gx v12 1) λx22=>
 qJ x22 32 (gx v12 2) λx24=>
(D.conv .u64 x24).bind λx25=>
 qB .add x21 x25 λx26=>
 qB .add (gx v12 0) x26 λx27=>
 qB .add (gx v9 0) (gx v12 1) λx28=>
(D.conv .u32 x27).bind λx29=>
(D.idx x28 32).bind λi30=>
(D.set (gx v12 2) [i30] x29).bind λx31=>
 qB .shr x27 (D.int .u64 32) λx32=>
 qB .add (gx v12 1) (Jn 1) λx33=>
 iL [x32,x33,x31]) else(iR (0,[(gx v12 0),(gx v12 2)]))) [(D.int .u64 0),(Jn 0),(gx v9 1)]).bind λr34=>
 qB .add (gx v9 0) r8 λx35=>
(D.conv .u32 (gx r34.2 0)).bind λx36=>
(D.idx x35 32).bind λi37=>
(D.set (gx r34.2 1) [i37] x36).bind λx38=>
 qB .add (gx v9 0) (Jn 1) λx39=>
 iL [x39,x38]) else(iR (0,[(gx v9 1)]))) [(Jn 0),(aB Je)]).bind λr40=>
(match (gx r40.2 0) with
| D.st l41=>(if decide (16+16<=l41.length) then(qT (D.bool (!(D.beq (D.st (List.take 16 (List.drop 16 l41))) (D.st (D.putParts (List.replicate 16 (D.int .u32 0)) []))))) λb42=>
 if b42 then((c 119 []).bind λr43=>
 some r43) else(qG a0 [1] λx44=>
 qG a1 [1] λx45=>
(match (gx r40.2 0) with
| D.st l46=>(if decide (0+16<=l46.length) then((c 116 [(D.bool (!(D.beq x44 x45))),(D.st (List.take 16 (List.drop 0 l46)))]).bind λr47=>
 some r47) else none)
| _=>none))) else none)
| _=>none))
def Y3{lp}(hlp:ap lp):ai 61 (m2 (Ps lp)):=aR 0 Tryz.f93 Ye hlp
def Yf:Ann:=(.tl (.tl (.tl (.cut [(.normal,⟨[(2,.sp aJ 4098),(3,.sp aJ 4099),(4,.sp aY 4100),(5,.sp aJ 12293)],[(4098,.keep aJ 2),(4099,.keep aJ 3),(4100,.keep aY 4),(12293,.one aJ (.dv aJ))],[]⟩)] [] [4098,4099,4100] .leaf (.two (.reg [] 7) .leaf)))))
def Nb(lp:Lp)(c:Ca)(a0:D)(a1:D):Option D:=
(c 128 [a0]).bind λr1=>
 qN r1 λb3=>
(if b3 then(some true) else((c 128 [a1]).bind λr4=>
(D.un .not r4).bind λx5=>
 D.truth x5)).bind λb6=>
 qT (D.bool b6) λb7=>
(if b7 then(some true) else((c 129 [a1]).bind λr8=>
 D.truth (D.bool (D.beq r8 (Jn 0))))).bind λb9=>
 qT (D.bool b9) λb10=>
 if b10 then((c 130 []).bind λr11=>
 some r11) else((c 131 [a0,a1]).bind λr12=>
((c 129 [a1]).bind λr13=>
 qC .lss r13 (Jn 0) λb15=>
 if b15 then((c 68 [r12]).bind λr16=>
 some (0,[r16])) else(some (0,[r12]))).bind λ(r17:Nat×List D)=>
(c 132 [a0,(gx r17.2 0)]).bind λr18=>
(c 132 [a1,(gx r17.2 0)]).bind λr19=>
 some (D.st [r18,r19]))
def Y4{lp}(hlp:ap lp):ai 62 (m2 (Nb lp)):=aR 0 Tryz.f92 Yf hlp
def Pt(lp:Lp)(c:Ca)(a0:D):Option D:=
(c 118 [(D.sl [a0])]).bind λr1=>
 qN r1 λb3=>
 if b3 then((c 119 []).bind λr4=>
 some r4) else(qG a0 [1] λx5=>
(D.un .not x5).bind λx6=>
 qG a0 [2] λx7=>
(c 116 [x6,x7]).bind λr8=>
 some r8)
def Y5{lp}(hlp:ap lp):ai 68 (m1 (Pt lp)):=aU 0 Tryz.f136 .leaf hlp
def Yg:Ann:=let o0:LO:=[(4102,.keep aY 6),(8199,.one aJ (.dv aJ))]
 (.tl (.tl (.two (.tl (.two (.loop ⟨[(6,.sp aY 4102),(7,.sp aJ 8199),(8,.di)],o0,[0,1,2]⟩ [(.exit 0,⟨[(6,.sp aY 4102),(7,.sp aJ 8199)],o0,[]⟩)] (.tl (.two (.two (.tl (.two (.reg [] 29) (.two (.reg [] 31) (.reg [] 10)))) .leaf) .leaf))) .leaf)) (.two (.reg [] 3) .leaf))))
def Pv(lp:Lp)(c:Ca)(a0:D)(a1:D)(a2:D):Option D:=
(c 34 [(Jn 0)]).bind λr1=>
(qZ lp (λv2=>
 qL a0 (gx v2 0) λb5=>
 if b5 then(qX a0 (gx v2 0) λx8=>
(D.fld x8 0).bind λx9=>
(D.idx a1 3).bind λi10=>
 qG x9 [0,i10] λx11=>
(D.idx a1 3).bind λtg=>
 qG x9 [1,tg] λx13=>
 qB .add x11 x13 λx14=>
(D.idx a1 3).bind λi15=>
 qG x9 [2,i15] λx16=>
 qB .add x14 x16 λx17=>
(D.idx a2 3).bind λi18=>
 qG x9 [0,i18] λx19=>
(D.idx a2 3).bind λi20=>
 qG x9 [1,i20] λx21=>
 qB .add x19 x21 λx22=>
(D.idx a2 3).bind λNh=>
 qG x9 [2,Nh] λx24=>
 qB .add x22 x24 λx25=>
 qB .mul x17 x25 λx26=>
(D.idx a1 3).bind λi27=>
 qG x9 [0,i27] λx28=>
(D.idx a2 3).bind λi29=>
 qG x9 [0,i29] λx30=>
 qB .mul x28 x30 λx31=>
 qB .add x26 x31 λx32=>
(D.idx a1 3).bind λi33=>
 qG x9 [1,i33] λx34=>
(D.idx a2 3).bind λi35=>
 qG x9 [1,i35] λx36=>
 qB .mul x34 x36 λx37=>
 qB .add x32 x37 λx38=>
(D.idx a1 3).bind λi39=>
 qG x9 [2,i39] λx40=>
(D.idx a2 3).bind λi41=>
 qG x9 [2,i41] λx42=>
 qB .mul x40 x42 λx43=>
 qB .add x38 x43 λx44=>
 qX a0 (gx v2 0) λx47=>
(D.fld x47 1).bind λx48=>
(c 34 [x44]).bind λr49=>
(c 89 [x48,r49]).bind λr50=>
(c 59 [(gx v2 1),r50]).bind λr51=>
 qB .add (gx v2 0) (Jn 1) λx52=>
 iL [x52,r51]) else(iR (0,[(gx v2 1)]))) [(Jn 0),r1]).bind λr53=>
(c 34 [(Jn 120)]).bind λr54=>
(c 37 [(gx r53.2 0),r54]).bind λr55=>
 some r55
def Y6{lp}(hlp:ap lp):ai 69 (m3 (Pv lp)):=kY 0 Tryz.f147 Yg hlp
def Yh:Ann:=(.tl (.tl (.two (.reg [] 6) .leaf)))
def Pw(lp:Lp)(c:Ca)(a0:D):Option D:=
(c 88 [a0]).bind λr1=>
 qN r1 λb3=>
 if b3 then((c 84 []).bind λr4=>
 some r4) else(qG a0 [0] λx5=>
(c 86 [x5]).bind λr6=>
 qG a0 [1] λx7=>
 some (D.st [r6,x7]))
def Y7{lp}(hlp:ap lp):ai 70 (m1 (Pw lp)):=aU 0 Tryz.f71 Yh hlp
def Yi:Ann:=(.tl (.two (.reg [] 4) .leaf))
def Px(lp:Lp)(c:Ca)(a0:D)(a1:D):Option D:=
(c 135 [a0]).bind λr1=>
(c 134 [r1,a1]).bind λr2=>
 some r2
def Y8{lp}(hlp:ap lp):ai 72 (m2 (Px lp)):=aR 0 Tryz.f109 Yi hlp
def Xn:Ann:=(.tl (.two (.reg [] 5) (.tl (.tl (.tl (.two (.two (.loop ⟨[(2,.sp aY 4098),(3,.sp aY 4099),(7,.di)],[(4098,.one aY (.dv aY)),(4099,.one aY (.dv aY))],[]⟩ [(.exit 1,⟨[(7,.di)],[],[]⟩)] (.two (.two (.two (.reg [] 11) .leaf) (.two (.reg [] 16) (.two (.reg [] 7) .leaf))) .leaf)) .leaf) .leaf))))))
def Y9{lp}(hlp:ap lp):ai 73 (mX 0 lp 73 Tryz.f105 Xn):=gb hlp (by kernel_rfl) (by kernel_rfl)
def Py(lp:Lp)(c:Ca)(a0:D):Option D:=
(c 54 [a0]).bind λr1=>
(c 138 [r1]).bind λr2=>
 some r2
def Za{lp}(hlp:ap lp):ai 74 (m1 (Py lp)):=aU 0 Tryz.f41 .leaf hlp
def Zb{lp}(hlp:ap lp):ai 75 (mX 0 lp 75 Tryz.f29 .leaf):=gb hlp (by kernel_rfl) (by kernel_rfl)
def Pz(lp:Lp)(c:Ca)(a0:D):Option D:=
(c 139 [a0]).bind λr1=>
 qT r1 λb2=>
(if b2 then(qG a0 [0] λx3=>
(D.un .not x3).bind λx4=>
 D.truth x4) else(some false)).bind λb5=>
 some (D.bool b5)
def Zc{lp}(hlp:ap lp):ai 76 (m1 (Pz lp)):=aU 0 Tryz.f114 .leaf hlp
def Yj:Ann:=(.tl (.tl (.two (.tl (.two (.loop ⟨[(1,.sp aJ 4097),(3,.ow Ti),(4,.di)],[(4097,.keep aJ 1)],[]⟩ [(.exit 0,⟨[(3,.ow Ti)],[],[]⟩)] (.tl (.two (.two (.reg [] 14) .leaf) .leaf))) .leaf)) .leaf)))
def PA(lp:Lp)(c:Ca)(a0:D):Option D:=
(qZ lp (λv1=>
 qC .lss (gx v1 1) (Jn 16) λb3=>
 if b3 then((D.idx (gx v1 1) 16).bind λi4=>
 qG a0 [2,i4] λx5=>
 qB .rem x5 (D.int .u32 65536) λx6=>
(D.conv .i64 x6).bind λx7=>
(D.idx (gx v1 1) 16).bind λi8=>
 qG a0 [2,i8] λx9=>
 qB .quo x9 (D.int .u32 65536) λx10=>
(D.conv .i64 x10).bind λx11=>
 if List.length (qV v1 0)+List.length [x7,x11]<=1073741824 then(qB .add (gx v1 1) (Jn 1) λx12=>
 iL [(D.sl ((qV v1 0)++[x7,x11])),x12]) else none) else(iR (0,[(qW v1 0)]))) [(D.sl []),(Jn 0)]).bind λr13=>
(c 140 [(qW r13.2 0)]).bind λr14=>
 some r14
def Zd{lp}(hlp:ap lp):ai 77 (m1 (PA lp)):=aU 0 Tryz.f115 Yj hlp
def Yk:Ann:=(.tl (.two (.tl (.two (.loop ⟨[(5,.di)],[],[0,1]⟩ [(.ret,⟨[(4,.dv Ty.bool)],[],[]⟩),(.exit 0,⟨[],[],[]⟩)] .leaf) .leaf)) .leaf))
def PB(lp:Lp)(c:Ca)(a0:D)(a1:D):Option D:=
 qS a0 λl1=>
 qS a1 λl2=>
(D.max2 (Jn (l1.length)) (Jn (l2.length))).bind λx3=>
 qB .sub x3 (Jn 1) λx4=>
(qZ lp (λv5=>
 qC .geq (gx v5 0) (Jn 0) λb7=>
 if b7 then((c 141 [a0,(gx v5 0)]).bind λr8=>
(c 141 [a1,(gx v5 0)]).bind λr9=>
 qT (D.bool (!(D.beq r8 r9))) λb10=>
 if b10 then((c 141 [a0,(gx v5 0)]).bind λr11=>
(c 141 [a1,(gx v5 0)]).bind λr12=>
 qB .lss r11 r12 λx13=>
 iR (0,[x13])) else(qB .sub (gx v5 0) (Jn 1) λx14=>
 iL [x14])) else(iR (1,[]))) [x4]).bind λr15=>
 if r15.1=0 then(some (gx r15.2 0)) else(some (D.bool false))
def Ze{lp}(hlp:ap lp):ai 78 (m2 (PB lp)):=aR 0 Tryz.f122 Yk hlp
def Yl:Ann:=(.tl (.tl (.two (.reg [] 7) (.two (.reg [] 7) .leaf))))
def PC(lp:Lp)(c:Ca)(a0:D)(a1:D):Option D:=
 qG a0 [0] λx1=>
 qG a1 [0] λx2=>
(c 89 [x1,x2]).bind λr3=>
 qG a0 [1] λx4=>
 qG a1 [1] λx5=>
(c 89 [x4,x5]).bind λr6=>
(c 59 [r3,r6]).bind λr7=>
 qG a0 [2] λx8=>
 qG a1 [2] λx9=>
(c 89 [x8,x9]).bind λr10=>
(c 59 [r7,r10]).bind λr11=>
 some r11
def Zf{lp}(hlp:ap lp):ai 79 (m2 (PC lp)):=aR 0 Tryz.f217 Yl hlp
def Ym:Ann:=(.tl (.two (.reg [] 10) .leaf))
def PD(lp:Lp)(c:Ca)(a0:D):Option D:=
 qG a0 [0] λx1=>
(c 34 [x1]).bind λr2=>
 qG a0 [1] λx3=>
(c 34 [x3]).bind λr4=>
 qG a0 [2] λx5=>
(c 34 [x5]).bind λr6=>
 some (D.st [r2,r4,r6])
def Zg{lp}(hlp:ap lp):ai 80 (m1 (PD lp)):=aU 0 Tryz.f209 Ym hlp
end Sy
end
end
end Go.Proofs.YtpahompifldeeaaGreat
