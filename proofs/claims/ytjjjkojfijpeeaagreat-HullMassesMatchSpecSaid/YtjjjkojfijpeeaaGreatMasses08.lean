/- Part 8 of the proof that HullMassesMatchSpec answers true at every input -/
import Derived.Test.YtjjjkojfijpeeaaGreatMasses05
import Derived.Test.YtjjjkojfijpeeaaGreatMasses06
import Derived.Test.YtjjjkojfijpeeaaGreatMasses07
import Derived.Shelf.SlSortCmp.InsertionK
import Derived.Maps.RangeRun
import Derived.Shelf.SlSortCmp.NoneTotal
import Derived.Ground.SlsfProg
import Derived.KernelRfl
import Derived.Test.YtjjjkojfijpeeaaGreatProg
import Derived.Test.YtjjjkojfijpeeaaGreatChecked
set_option linter.unusedVariables false
set_option linter.unusedSimpArgs false
set_option linter.unnecessarySimpa false
section
namespace Go.Proofs.YtjjjkojfijpeeaaGreat.Sy
open Go Go.Proofs Go.Sort Go.Lib
def rt(E:Env)(g:Nat)(x y:D):Option Int:=(E.call g [x,y]).bind fun r=>match r with|.int .i64 n=>some n|_=>none
def lY(E:Env)(g:Nat)(x y:D):Bool:=match rt E g x y with|some n=>decide (n<0)|none=>false
def CS(E:Env)(g:Nat)(x y:D):Bool:=match rt E g x y with|some n=>decide (0<=n)|none=>false
def wX(lt:D->D->Bool)(x:D):List D->List D
 | []=>[x]
 | y::l=>if lt x y then x::y::l else y::wX lt x l
def gQ(lt:D->D->Bool):List D->List D
 | []=>[]
 | x::l=>wX lt x (gQ lt l)
def ka(E:Env)(g:Nat):List D->Bool
 | []=>true
 | x::l=>CS E g x x&&l.all (fun y=>lY E g x y&&CS E g y x)&&ka E g l
def il(E:Env)(g:Nat)(l:List D):Option (List D):=if ka E g (gQ (lY E g) l) then some (gQ (lY E g) l) else none
theorem nQ(lt:D->D->Bool)(x:D):∀ l:List D,(wX lt x l).Perm (x::l)
 | []=>.refl _
 | y::l=>by
  simp only[wX]
  split
  ·exact .refl _
  ·exact((nQ lt x l).cons y).trans (.swap x y l)
theorem eU(lt:D->D->Bool):∀ l:List D,(gQ lt l).Perm l
 | []=>.refl _
 | x::l=>(nQ lt x _).trans ((eU lt l).cons x)
section
variable{E:Env}{g:Nat}
theorem gH:∀ {l:List D},ka E g l=true->l.Pairwise (fun x y=>lY E g x y=true/\CS E g y x=true)/\∀ x∈l,CS E g x x=true
 | [],_=>⟨.nil,by simp⟩
 | x::l,h=>by
  simp only[ka,Bool.and_eq_true,List.all_eq_true] at h
  obtain⟨⟨h1,h2⟩,h3⟩:=h
  obtain⟨k1,k2⟩:=gH h3
  exact⟨List.pairwise_cons.2 ⟨h2,k1⟩,fun y hy=>by
   rcases List.mem_cons.1 hy with rfl|hy
   ·exact h1
   ·exact k2 y hy⟩
theorem vm{x y:D}(h:CS E g x y=true):lY E g x y=false:=by
 unfold CS at h
 unfold lY
 split at h
 ·rename_i n hn
  simp only[decide_eq_true_eq] at h
  simp only[decide_eq_false_iff_not];omega
 ·cases h
theorem Fw{x y:D}(h:lY E g x y=true\/CS E g x y=true):∃ n,rt E g x y=some n:=by
 rcases h with h|h
 ·unfold lY at h;split at h
  ·exact⟨_,by assumption⟩
  ·cases h
 ·unfold CS at h;split at h
  ·exact⟨_,by assumption⟩
  ·cases h
variable{l:List D}(hc:ka E g l=true)
include hc
theorem cZ{i j:Nat}{x y:D}(hi:l[i]?=some x)(hj:l[j]?=some y):(lY E g x y=true↔i<j)/\∃ n,rt E g x y=some n:=by
 obtain⟨h1,h2⟩:=gH hc
 obtain⟨hi',rfl⟩:=List.getElem?_eq_some_iff.1 hi
 obtain⟨hj',rfl⟩:=List.getElem?_eq_some_iff.1 hj
 rcases Nat.lt_trichotomy i j with k|k|k
 ·have:=List.pairwise_iff_getElem.1 h1 i j hi' hj' k
  exact⟨⟨fun _=>k,fun _=>this.1⟩,Fw (.inl this.1)⟩
 ·subst k
  have:=h2 _ (List.getElem_mem hi')
  exact⟨⟨fun h=>(by rw[vm this] at h;cases h),fun h=>absurd h (Nat.lt_irrefl _)⟩,Fw (.inr this)⟩
 ·have:=List.pairwise_iff_getElem.1 h1 j i hj' hi' k
  exact⟨⟨fun h=>(by rw[vm this.2] at h;cases h),fun h=>by omega⟩,Fw (.inr this.2)⟩
theorem si:l.Nodup:=by
 obtain⟨h1,h2⟩:=gH hc
 refine h1.imp fun{x y} h e=>?_
 subst e
 rw[vm h.2] at h;cases h.1
def wg(E:Env)(g:Nat)(l:List D)(x y:{d:D // d∈l}):Int:=(rt E g x.1 y.1).getD 0
omit hc in
theorem pM{x y:{d:D // d∈l}}:ltOf (wg E g l) x y=lY E g x.1 y.1:=by
 unfold ltOf wg lY
 cases rt E g x.1 y.1<;>simp
theorem yK:SWO (ltOf (wg E g l)):=by
 have ix:∀ x:{d:D // d∈l},∃ i,l[i]?=some x.1:=fun x=>by
  obtain⟨i,h1,h2⟩:=List.getElem_of_mem x.2
  exact⟨i,by rw[List.getElem?_eq_getElem h1,h2]⟩
 have key:∀ (x y:{d:D // d∈l}) (i j:Nat),l[i]?=some x.1->l[j]?=some y.1->(ltOf (wg E g l) x y=true↔i<j):=fun x y i j hi hj=>by rw[pM];exact(cZ hc hi hj).1
 refine⟨fun x=>?_,fun x y z h1 h2=>?_,fun x y z h1 h2=>?_⟩
 ·obtain⟨i,hi⟩:=ix x
  cases h:ltOf (wg E g l) x x with
  | false=>rfl
  | true=>exact absurd ((key x x i i hi hi).1 h) (Nat.lt_irrefl _)
 ·obtain⟨i,hi⟩:=ix x;obtain⟨j,hj⟩:=ix y;obtain⟨k,hk⟩:=ix z
  have a:=(key x y i j hi hj).1 h1;have b:=(key y z j k hj hk).1 h2
  exact(key x z i k hi hk).2 (by omega)
 ·obtain⟨i,hi⟩:=ix x;obtain⟨j,hj⟩:=ix y;obtain⟨k,hk⟩:=ix z
  have a:¬ i<j:=fun h=>by rw[(key x y i j hi hj).2 h] at h1;cases h1
  have b:¬ j<k:=fun h=>by rw[(key y z j k hj hk).2 h] at h2;cases h2
  cases h:ltOf (wg E g l) x z with
  | false=>rfl
  | true=>have:=(key x z i k hi hk).1 h;omega
theorem AB[Inhabited {d:D // d∈l}]{d d':Array {d:D // d∈l}}(hd:(d.toList.map (·.1)).Perm l)(hp:PermIn 0 d.size d d')(hs:SortedIn (ltOf (wg E g l)) 0 d.size d'):d'.toList.map (·.1)=l:=by
 obtain⟨p1,_,p3⟩:=hp
 have q:d'.toList.Perm d.toList:=by
  have e1:d'.extract 0 d.size=d':=by rw[<-p1];simp
  rw[e1] at p3
  simpa using p3
 have qp:(d'.toList.map (·.1)).Perm l:=(q.map _).trans hd
 have hlen:(d'.toList.map (·.1)).length=l.length:=qp.length_eq
 have nd:=qp.symm.nodup (si hc)
 have asc:(d'.toList.map (·.1)).Pairwise (fun x y=>lY E g x y=true):=by
  rw[List.pairwise_iff_getElem]
  intro i j hi hj hij
  simp only[List.length_map,Array.length_toList] at hi hj
  have h1:=hs i j (Nat.zero_le _) hij (by omega)
  rw[getElem!_pos d' j hj,getElem!_pos d' i hi,pM] at h1
  simp only[List.getElem_map,Array.getElem_toList]
  obtain⟨a,ha1,ha2⟩:=List.getElem_of_mem (d'[i]).2
  obtain⟨b,hb1,hb2⟩:=List.getElem_of_mem (d'[j]).2
  have ea:l[a]?=some (d'[i]).1:=by rw[List.getElem?_eq_getElem ha1,ha2]
  have eb:l[b]?=some (d'[j]).1:=by rw[List.getElem?_eq_getElem hb1,hb2]
  have k1:¬ b<a:=fun h=>by rw[(cZ hc eb ea).1.2 h] at h1;cases h1
  have k2:a≠b:=fun e=>by
   subst e
   have:(d'[i]).1=(d'[j]).1:=by rw[<-ha2,<-hb2]
   have:=List.pairwise_iff_getElem.1 nd i j (by simpa using hi) (by simpa using hj) hij
   simp only[List.getElem_map,Array.getElem_toList] at this
   contradiction
  exact(cZ hc ea eb).1.2 (by omega)
 have key:∀ {a b:List D},a.Pairwise (fun x y=>lY E g x y=true)->b.Pairwise (fun x y=>lY E g x y=true)->a.Perm b->(∀ x∈a,x∈l)->a=b:=by
  intro a
  induction a with
  | nil=>intro b _ _ hp _;exact hp.symm.eq_nil.symm ▸ rfl
  | cons x a ih=>
   intro b ha hb hp hm
   cases b with
   | nil=>exact absurd hp.eq_nil (by simp)
   | cons y b=>
    obtain⟨a1,a2⟩:=List.pairwise_cons.1 ha
    obtain⟨b1,b2⟩:=List.pairwise_cons.1 hb
    have e:x=y:=by
     rcases List.mem_cons.1 (hp.subset List.mem_cons_self) with e|m1
     ·exact e
     ·rcases List.mem_cons.1 (hp.symm.subset (List.mem_cons_self (a:=y))) with e|m2
      ·exact e.symm
      ·exfalso
       have h1:=b1 x m1
       have h2:=a1 y m2
       obtain⟨i,hi1,hi2⟩:=List.getElem_of_mem (hm x List.mem_cons_self)
       obtain⟨j,hj1,hj2⟩:=List.getElem_of_mem (hm y (List.mem_cons_of_mem _ m2))
       have ei:l[i]?=some x:=by rw[List.getElem?_eq_getElem hi1,hi2]
       have ej:l[j]?=some y:=by rw[List.getElem?_eq_getElem hj1,hj2]
       have:=(cZ hc ei ej).1.1 h2
       have:=(cZ hc ej ei).1.1 h1
       omega
    subst e
    rw[ih a2 b2 ((List.perm_cons x).1 hp) (fun z hz=>hm z (List.mem_cons_of_mem _ hz))]
 exact key asc ((gH hc).1.imp fun h=>h.1) qp fun x hx=>qp.subset hx
end
end Go.Proofs.YtjjjkojfijpeeaaGreat.Sy
end
section
namespace Go.Proofs.YtjjjkojfijpeeaaGreat.Sy
open Go Go.Proofs Go.Sort Go.Lib
def gt:D->Bool
 | .int ..=>true
 | .bool _=>true
 | _=>false
def bf:D->Value
 | .int k n=>.int k n
 | .bool b=>.bool b
 | _=>undef
mutual
theorem eZ:∀ (t:Ty) (x:D),aX t=true->wt t x->∀ d∈x.flat,gt d=true
 | .int k,x,_,h=>by simp only[wt] at h;obtain⟨n,rfl⟩:=h;intro d hd;simp only[D.flat,List.mem_singleton] at hd;subst hd;rfl
 | .bool,x,_,h=>by simp only[wt] at h;obtain⟨n,rfl⟩:=h;intro d hd;simp only[D.flat,List.mem_singleton] at hd;subst hd;rfl
 | .str,x,hc,h=>by simp[aX] at hc
 | .st ts,x,hc,h=>by
  simp only[wt] at h
  obtain⟨l,rfl,hl⟩:=h
  simp only[aX] at hc
  simp only[D.flat]
  exact qT ts l hc hl
 | .arr n t,x,hc,h=>by
  simp only[wt] at h
  obtain⟨l,rfl,hn,hl⟩:=h
  clear hn
  simp only[aX] at hc
  simp only[D.flat]
  induction l with
  | nil=>intro d hd;simp[D.flats] at hd
  | cons y l ih=>
   intro d hd
   simp only[D.flats,List.mem_append] at hd
   rcases hd with hd|hd
   ·exact eZ t y hc (hl y List.mem_cons_self) d hd
   ·exact ih (fun z hz=>hl z (List.mem_cons_of_mem _ hz)) d hd
 | .sl t,x,hc,h=>by simp[aX] at hc
 | .tup l,x,hc,h=>by simp[aX] at hc
 | .fn,x,hc,h=>by simp[aX] at hc
theorem qT:∀ (ts:List Ty) (l:List D),kh ts=true->fY ts l->∀ d∈D.flats l,gt d=true
 | [],l,_,h=>by simp only[fY] at h;subst h;intro d hd;simp[D.flats] at hd
 | t::ts,l,hc,h=>by
  simp only[fY] at h
  obtain⟨y,l',rfl,h1,h2⟩:=h
  simp only[kh,Bool.and_eq_true] at hc
  intro d hd
  simp only[D.flats,List.mem_append] at hd
  rcases hd with hd|hd
  ·exact eZ t y hc.1 h1 d hd
  ·exact qT ts l' hc.2 h2 d hd
end
theorem zh{w:World}{S:Nat->Nat->Prop}{d:D}{c:Value}(hl:gt d=true):CR w S d c↔c=bf d:=by
 cases d<;>simp only[gt] at hl<;>first|(cases hl;done)|skip
 ·exact⟨fun h=>h.int_inv,fun h=>by subst h;exact .int _ _⟩
 ·exact⟨fun h=>h.bool_inv,fun h=>by subst h;exact .bool _⟩
theorem bz{w:World}{S:Nat->Nat->Prop}{ds:List D}{cs:List Value}(hl:∀ d∈ds,gt d=true):cJ w S ds cs↔cs=ds.map bf:=by
 constructor
 ·rintro⟨h1,h2⟩
  apply List.ext_getElem?
  intro i
  rw[List.getElem?_map]
  rcases Nat.lt_or_ge i ds.length with k|k
  ·have a:=List.getElem?_eq_getElem k
   have b:cs[i]?=some cs[i]:=List.getElem?_eq_getElem (h1 ▸ k)
   rw[a,b]
   simp only[Option.map_some,Option.some.injEq]
   exact(zh (hl _ (List.getElem_mem k))).1 (h2 i _ _ a b)
  ·rw[List.getElem?_eq_none k,List.getElem?_eq_none (by omega)];rfl
 ·rintro rfl
  refine⟨by simp,fun i d c hd hc=>?_⟩
  rw[List.getElem?_map,hd] at hc
  simp only[Option.map_some,Option.some.injEq] at hc
  exact(zh (hl d (List.mem_of_getElem? hd))).2 hc.symm
theorem gG{k:Nat}(hk:0<k):∀ (l:List D),(∀ x∈l,x.flat.length=k)->∀ t,(D.flats l)[t]?=(l[t/k]?).bind fun x=>x.flat[t%k]?
 | [],_,t=>by simp[D.flats]
 | x::l,h,t=>by
  have hx:=h x List.mem_cons_self
  simp only[D.flats]
  rcases Nat.lt_or_ge t k with c|c
  ·rw[List.getElem?_append_left (by omega),Nat.div_eq_of_lt c,Nat.mod_eq_of_lt c];rfl
  ·rw[List.getElem?_append_right (by omega),hx,gG hk l (fun y hy=>h y (List.mem_cons_of_mem _ hy)) (t-k)]
   have e1:t/k=(t-k)/k+1:=by rw[Nat.div_eq_sub_div hk c]
   have e2:t%k=(t-k)%k:=Nat.mod_eq_sub_mod c
   rw[e1,e2];rfl
structure SortOk(P:Program)(f:Nat)(e:Ty):Prop where
 cmp:aX e=true
 agg:cu e=true
 pos:0<e.size
 nt:aj e=true
 fn : ∃ fn, P.funcs[f]? = some fn /\ (fn.name == "runtime.NumGoroutine") = false /\ fn.body.isSome = true
 empty:∀ (p:Option Addr) (cap:Nat) (fv:Value) (w:World),Calls P f #[.slice p 0 cap,fv] w fun en w'=>en=.returned (.tuple #[])/\w'=w
 whole:∀ (α:Type) [Inhabited α] (enc:α->List Value) (_:∀ x,(enc x).length=e.size) (_:∀ x,∀ v∈enc x,v.oneCell'=true) (cf:α->α->Int) (_:SWO (ltOf cf)) (g:Nat) (blk off cap:Nat) (d:Array α) (w:World)
  (_:∀ args w,(callFunc g args).run P w=.ok (.enter g args) w) (_:CmpLays P g #[] enc e.size cf blk off d.size w) (_:HoldsK enc e.size w blk off d) (_:blk<w.heap.size) (_:d.size<4611686018427387904),
  Calls P f #[.slice (some ⟨blk,off,none⟩) d.size cap,.func (.func g) #[] #[]] w fun en w'=>en=.returned (.tuple #[])/\∃ d' n os,PermIn 0 d.size d d'/\SortedIn (ltOf cf) 0 d.size d'/\w'=sortWorldK enc e.size w blk off n d' os
section
variable{P:Program}{E:Env}
theorem qM(hE:EnvOk P E){g:Nat}{ptys:List Ty}{rty:Ty}(h:E.sig g=some (ptys,rty))(args:Array Value)(w:World):(callFunc g args).run P w=.ok (.enter g args) w:=by
 obtain⟨_,_,fn,f1,f2,f3⟩:=hE.sig g ptys rty h
 have f2' : ¬ fn.name = "runtime.NumGoroutine" := by simpa using f2
 have hb':¬ fn.body=none:=by intro hh;rw[hh] at f3;cases f3
 simp[callFunc,f1,f2',hb']
theorem zX(hE:EnvOk P E){f:Nat}{e:Ty}(hf:SortOk P f e){g:Nat}(hsig:E.sig g=some ([e,e],.int .i64)){l l':List D}(hwt:∀ x∈l,wt e x)(hs:il E g l=some l')(hne:l≠[]){w:World}{b off cap:Nat}{row:Array Value}
  (hr:bx w b=some row) (hc:∀ (i:Nat) (d:D),(D.flats l)[i]?=some d->w.cell? ⟨b,off+i,none⟩=some (bf d)) (hlen:l.length<4611686018427387904) :
  Calls P f #[.slice (some ⟨b,off,none⟩) l.length cap,.func (.func g) #[] #[]] w fun en w'=>en=.returned (.tuple #[])/\l'.Perm l/\w.drawn<=w'.drawn/\w'.tape=w.tape/\w'.os=w.os/\w'.output=w.output/\w.heap.size<=w'.heap.size ∧
   (∀ b',b'≠b->b'<w.heap.size->w'.heap[b']?=w.heap[b']?)/\∀ (i:Nat) (d:D),(D.flats l')[i]?=some d->w'.cell? ⟨b,off+i,none⟩=some (bf d):=by
 have hsd:ka E g l'=true/\l'=gQ (lY E g) l:=by
  unfold il at hs
  split at hs
  ·rename_i h;cases hs;exact⟨h,rfl⟩
  ·cases hs
 obtain⟨hchk,hl'⟩:=hsd
 have hperm:l'.Perm l:=hl' ▸ eU _ l
 have hmem:∀ x∈l,x∈l':=fun x hx=>hperm.symm.subset hx
 have hwt':∀ x∈l',wt e x:=fun x hx=>hwt x (hperm.subset hx)
 obtain⟨x0,hx0⟩:∃ x0,x0∈l':=by
  cases l with
  | nil=>exact absurd rfl hne
  | cons x l=>exact⟨x,hmem x List.mem_cons_self⟩
 have hinh:Inhabited {d:D // d∈l'}:=⟨⟨x0,hx0⟩⟩
 have hfl:∀ x:{d:D // d∈l'},x.1.flat.length=e.size:=fun x=>bA e x.1 (hwt' x.1 x.2) hf.nt
 have hleaf:∀ x:{d:D // d∈l'},∀ d∈x.1.flat,gt d=true:=fun x=>eZ e x.1 hf.cmp (hwt' x.1 x.2)
 obtain⟨d,hd⟩:∃ d:Array {d:D // d∈l'},d.toList.map (·.1)=l:=⟨(l.pmap Subtype.mk hmem).toArray,by simp[List.map_pmap]⟩
 have hds:d.size=l.length:=by rw[<-hd];simp
 have hbs:b<w.heap.size:=by
  unfold bx at hr
  cases hb:w.heap[b]? with
  | none=>rw[hb] at hr;cases hr
  | some o=>exact(Array.getElem?_eq_some_iff.1 hb).1
 have hfro:∀ o,w.frozen? ⟨b,o,none⟩=false:=fun o=>by
  unfold bx at hr
  split at hr
  ·rename_i c t hb
   unfold World.frozen?
   simp[hb]
  ·cases hr
 have at_:∀ (dd:Array {d:D // d∈l'}) (t:Nat),t<dd.size*e.size->(D.flats (dd.toList.map (·.1)))[t]?.map bf=some ((flatK (fun x:{d:D // d∈l'}=>x.1.flat.map bf) e.size dd)[t]!):=fun dd t ht=>by
  rw[get_flatK _ _ _ _ ht,gG hf.pos _ (fun x hx=>by
   obtain⟨y,_,rfl⟩:=List.mem_map.1 hx
   exact hfl y)]
  have h1:t/e.size<dd.size:=(Nat.div_lt_iff_lt_mul hf.pos).2 ht
  have h2:t%e.size<e.size:=Nat.mod_lt _ hf.pos
  rw[List.getElem?_map,Array.getElem?_toList,Array.getElem?_eq_getElem h1,getElem!_pos dd _ h1]
  simp only[Option.map_some,Option.bind_some]
  have h3:t%e.size<(dd[t/e.size]).1.flat.length:=by rw[hfl];exact h2
  rw[List.getElem?_eq_getElem h3,getElem!_pos _ _ (by simpa using h3)]
  simp
 have hH:HoldsK (fun x:{d:D // d∈l'}=>x.1.flat.map bf) e.size w b off d:=by
  intro j hj
  rw[size_flatK] at hj
  refine⟨?_,hfro _⟩
  have:=at_ d j hj
  rw[hd] at this
  cases hq:(D.flats l)[j]? with
  | none=>rw[hq] at this;cases this
  | some q=>
   rw[hq] at this
   simp only[Option.map_some,Option.some.injEq] at this
   rw[hc j q hq,this];rfl
 have hcmp:CmpLays P g #[] (fun x:{d:D // d∈l'}=>x.1.flat.map bf) e.size (wg E g l') b off d.size w:=by
  intro m os dk _ x y
  obtain⟨i,hi1,hi2⟩:=List.getElem_of_mem x.2
  obtain⟨j,hj1,hj2⟩:=List.getElem_of_mem y.2
  obtain⟨_,n,hn⟩:=cZ hchk (i:=i) (j:=j) (x:=x.1) (y:=y.1) (by rw[List.getElem?_eq_getElem hi1,hi2]) (by rw[List.getElem?_eq_getElem hj1,hj2])
  have hcall:E.call g [x.1,y.1]=some (.int .i64 n):=by
   unfold rt at hn
   obtain⟨r,h1,h2⟩:=bind_some_inv hn
   rw[h1]
   split at h2
   ·cases h2;rfl
   ·cases h2
  have hcf:wg E g l' x y=n:=by simp[wg,hn]
  rw[hcf]
  have shpa:∀ z:{d:D // d∈l'},∀ (w:World) (S:Nat->Nat->Prop),eW w S z.1 (.agg (z.1.flat.map bf).toArray):=fun z w S=>by
   refine⟨?_,?_⟩
   ·have hz:=hwt' z.1 z.2
    have ha:=hf.agg
    cases e<;>simp only[cu] at ha<;>first|(cases ha;done)|skip
    ·simp only[wt] at hz;obtain⟨ll,h1,_⟩:=hz;rw[h1];exact⟨_,rfl⟩
    ·simp only[wt] at hz;obtain⟨ll,h1,_⟩:=hz;rw[h1];exact⟨_,rfl⟩
   ·exact(bz (hleaf z)).2 (by simp[Value.cells])
  have hw2:fY [e,e] [x.1,y.1]:=⟨x.1,[y.1],rfl,hwt' _ x.2,⟨y.1,[],rfl,hwt' _ y.2,rfl⟩⟩
  have hctr:=hE.call g [e,e] (.int .i64) [x.1,y.1] (.int .i64 n) hsig hcall hw2
   (sortWorldK (fun x:{d:D // d∈l'}=>x.1.flat.map bf) e.size w b off m dk os) (fun _ _=>False) [.agg (x.1.flat.map bf).toArray,.agg (y.1.flat.map bf).toArray] (fun _ _ h=>h.elim) hw2 rfl
   (fun i z v hz hv=>by
    cases i with
    | zero=>simp at hz hv;subst hz;subst hv;exact shpa x _ _
    | succ i=>cases i with
     | zero=>simp at hz hv;subst hz;subst hv;exact shpa y _ _
     | succ i=>simp at hz)
  refine hctr.mono ?_
  rintro en w' ⟨v,rfl,⟨os',dr,hdr,rfl⟩,_,hv⟩
  have hv':v=.int .i64 n:=by
   obtain⟨c1,c2⟩:=(hv:eW _ _ _ _)
   have:=(bz (by intro d hd;simp only[D.flat,List.mem_singleton] at hd;subst hd;rfl)).1 c2
   exact ao c1 (by simpa [D.flat,bf] using this)
  refine⟨by rw[hv'],dr-(sortWorldK (fun x:{d:D // d∈l'}=>x.1.flat.map bf) e.size w b off m dk os).drawn,os'.toArray,?_⟩
  unfold ay grow World.drewN
  simp only[show ∀ a b:Nat,a<=b->a+(b-a)=b from fun a b h=>by omega,hdr]
 have hO:SWO (ltOf (wg E g l')):=yK hchk
 have key:=hf.whole {d:D // d∈l'} (fun x=>x.1.flat.map bf) (fun x=>by simp[hfl x]) (fun x v hv=>by
   obtain⟨q,hq,rfl⟩:=List.mem_map.1 hv
   have:=hleaf x q hq
   cases q<;>simp only[gt] at this<;>first|(cases this;done)|rfl) (wg E g l') hO g b off cap d w (qM hE hsig) hcmp hH hbs (by omega)
 rw[hds] at key
 refine key.mono ?_
 rintro en w' ⟨rfl,d',n,os,hp,hso,rfl⟩
 rw[<-hds] at hp hso
 have hd'l:d'.toList.map (·.1)=l':=AB hchk (d:=d) (by rw[hd];exact hperm.symm) hp hso
 have hd's:d'.size=d.size:=hp.1
 have hH':=holdsK_sortWorldK_c (fun x:{d:D // d∈l'}=>x.1.flat.map bf) e.size w b off d d' n os hH hbs hd's
 refine⟨rfl,hperm,?_,rfl,rfl,rfl,?_,fun b' hb hb'=>?_,fun i q hq=>?_⟩
 ·show w.drawn<=w.drawn+n;omega
 ·simp only[sortWorldK,grow,putRowK,putRow,mapBlock,Go.Sort.ahead,Array.size_append,Array.size_modify];omega
 ·simp only[sortWorldK,grow,putRowK,putRow,mapBlock,Go.Sort.ahead]
  rw[Array.getElem?_append_left (by simpa using hb'),Array.getElem?_modify,if_neg (Ne.symm hb)]
 ·have hi:i<d'.size*e.size:=by
   have h1:=(List.getElem?_eq_some_iff.1 hq).1
   rw[av hf.nt l' hwt'] at h1
   rw[hd's,hds,<-hperm.length_eq];exact h1
  have h2:=at_ d' i hi
  rw[hd'l,hq] at h2
  simp only[Option.map_some,Option.some.injEq] at h2
  have h3:=(hH' i (by rw[size_flatK];exact hi)).1
  rw[h3,<-h2];rfl
end
end Go.Proofs.YtjjjkojfijpeeaaGreat.Sy
end
section
namespace Go.Proofs.YtjjjkojfijpeeaaGreat.Sy
open Go Go.Proofs Go.Sort Go.Lib
variable{ro:Option Nat}{nn:Nat}
inductive AnnT where
 | hand
 | seq (a:Ann) (b:AnnT)
def FV(E:Env)(K:St->Option D):Code->AnnT->St->Option D
 | .seq c d,.seq a b,s=>ev E c a D s fun e s'=>match e with
  | .normal=>FV E K d b s'
  | _=>none
 | _,.hand,s=>K s
 | _,_,_=>none
def om:Code->AnnT->Code
 | .seq _ d,.seq _ b=>om d b
 | c,_=>c
def uj(fn:Func)(tys:List Ty)(args:List D):St:={ tm:=nH tys args,ob:=fun _=>none,fresh:=0,dead:=[],nt:=fn.ntmps,lkS:=[],lkO:=[] }
def Dm(E:Env)(K:St->Option D)(fn:Func)(ann:AnnT)(tys:List Ty)(args:List D):Option D:=
 match fn.body with
 | none=>none
 | some c=>FV E K c ann (uj fn tys args)
section
variable{P:Program}{E:Env}{w0:Root}
theorem Gy(hE:EnvOk P E){K:St->Option D}{Q:Exit->Act->World->Prop}{y:D}:∀ (c:Code) (ann:AnnT) {S:Nat->Nat->Prop} {γ:Nat->Option Nat} {β:Nat->Option (Nat×Nat)} {s:St} {a:Act} {w:World},
  Rp w0 S γ β s a w->FV E K c ann s=some y->(∀ s' S' γ' β' a' w',Rp w0 S' γ' β' s' a' w'->K s'=some y->(om c ann).wpIn (FW ro) nn P Q a' w')->c.wpIn (FW ro) nn P Q a w:=by
 intro c
 induction c with
 | seq c d _ ih=>
  intro ann S γ β s a w h hev hQ
  cases ann with
  | hand=>exact hQ s S γ β a w h (by simpa only[FV] using hev)
  | seq a1 b=>
   simp only[FV] at hev
   refine wpIn_seq (eE hE c a1 D _ y h hev fun e s' S' γ' β' a' w' n1 n2 n3 n4=>?_)
   cases e with
   | normal=>exact ih b n1 n4 hQ
   | ret=>cases n4
   | exit i=>cases n4
 | _=>
  intro ann S γ β s a w h hev hQ
  cases ann with
  | hand=>exact hQ s S γ β a w h (by simpa only[FV] using hev)
  | seq a1 b=>simp[FV] at hev
def ci(s:St)(e:Ty)(x:Nat):Option (List D):=match s.tm x with
 | .own e' v l=>if e'.beq e&&!(s.dead.contains v)&&decide (l.length<=1073741824) then some l else none
 | .nils=>some []
 | _=>none
def F7(s:St)(x:Nat)(e:Ty)(l:List D):St:={ tm:=fun i=>if i=x then .d (.sl e) (.sl l) else .undef,ob:=fun _=>none,fresh:=s.fresh+1,dead:=[],nt:=s.nt,lkS:=[],lkO:=[] }
theorem jB{w:World}{S:Nat->Nat->Prop}{l:List D}{a:Option Addr}{n cap:Nat}(h:CR w S (.sl l) (.slice a n cap)):eW w S (.sl l) (.slice a n cap):=by
 refine⟨fun cs h=>(by cases h),rfl,fun i d c hd hc=>?_⟩
 cases i with
 | zero=>simp only[D.flat,List.getElem?_cons_zero,Option.some.injEq,Value.cells] at hd hc;subst hd;first|(subst hc;exact h)|(simp at hc;subst hc;exact h)
 | succ i=>simp[D.flat] at hd
theorem fd{e:Ty}(hc:aX e=true):∀ l:List D,(∀ x∈l,wt e x)->∀ d∈D.flats l,gt d=true
 | [],_,d,hd=>by simp[D.flats] at hd
 | y::l,h,d,hd=>by
  simp only[D.flats,List.mem_append] at hd
  rcases hd with hd|hd
  ·exact eZ e y hc (h y List.mem_cons_self) d hd
  ·exact fd hc l (fun z hz=>h z (List.mem_cons_of_mem _ hz)) d hd
theorem Rp.new{S S':Nat->Nat->Prop}{γ:Nat->Option Nat}{β:Nat->Option (Nat×Nat)}{s:St}{a a':Act}{w w':World}(h:Rp w0 S γ β s a w)(he:dV w0 w'){x:Nat}{e:Ty}{l:List D}(hn:aj e=true)(hx:x<s.nt)(hwt:∀ y∈l,wt e y)
  (hv:eW w' S' (.sl l) (a'.tmps.getD x undef)) (hnt:a'.tmps.size=s.nt) (hdf:a'.defers=[]) (hSb:∀ b o,S' b o->b<w'.heap.size) (hSo:∀ b o,S' b o->w0.Old b->w0.S0 b o):Rp w0 S' (fun _=>none) (fun _=>none) (F7 s x e l) a' w':=by
 refine⟨he,fun t ht=>?_,hnt,fun t ht=>?_,fun id o b ho=>(by cases ho),fun id b hb=>(by cases hb),fun id id' b hb=>(by cases hb),fun _ _=>rfl,fun v b e _ hb=>(by cases hb),fun v v' b e e' _ _ hb=>(by cases hb),fun v id b e _ hb=>(by cases hb),fun _ _=>rfl,hSb,hSo,hdf⟩
 ·show AR _ (if t=x then AV.d (.sl e) (.sl l) else .undef) (a'.tmps.getD t undef)
  by_cases htx:t=x
  ·rw[if_pos htx]
   subst htx
   exact .inl ⟨by simp only[aj];exact hn,⟨l,rfl,hwt⟩,hv⟩
  ·rw[if_neg htx]
   simp only[AR]
 ·show(if t=x then AV.d (.sl e) (.sl l) else .undef)=_
  rw[if_neg (fun h=>by subst h;exact absurd hx (Nat.not_lt.2 ht))]
theorem D8(hE:EnvOk P E){f:Nat}{e:Ty}(hf:SortOk P f e){g:Nat}(hsig:E.sig g=some ([e,e],.int .i64)){id x t d2:Nat}{ops:Array Oper}{ty1 ty2:TypeId}{p1 p2:String}{af1 af2:Array Edge}{args:Array Operand}{ats:Array TypeId}
  (hops:ops.toList=[⟨some t,.move (.tmp x),ty1,p1,af1,none⟩,⟨some d2,.call ⟨.value (.func f),args,ats⟩,ty2,p2,af2,none⟩]) (hargs:args=#[.tmp t,.func g]) {Q:Exit->Act->World->Prop}
  {S:Nat->Nat->Prop} {γ:Nat->Option Nat} {β:Nat->Option (Nat×Nat)} {s:St} {a:Act} {w:World} (h:Rp w0 S γ β s a w) (hxt:x≠t) (hxd:x≠d2) (ht:t<s.nt) {l l':List D} (hv:ci s e x=some l) (hs:il E g l=some l')
  (hQ:∀ a' w' S',Rp w0 S' (fun _=>none) (fun _=>none) (F7 s x e l') a' w'->Q .normal a' w'):(Code.region id ops false).wpIn (FW ro) nn P Q a w:=by
 have hx:x<s.nt:=by
  rcases Nat.lt_or_ge x s.nt with k|k
  ·exact k
  ·unfold ci at hv;rw[h.tmu x k] at hv;cases hv
 have hax:AR ⟨w,S,γ,β,s.ob,s.dead⟩ (s.tm x) (a.tmps.getD x undef):=h.tms x (by rw[h.nt];exact hx)
 obtain⟨ad,cap,val,hwt,hcr,hown⟩:∃ ad cap,a.tmps.getD x undef=.slice ad l.length cap/\(∀ y∈l,wt e y)/\CR w S (.sl l) (.slice ad l.length cap)/\(l≠[]->∃ b off row,ad=some ⟨b,off,none⟩/\bx w b=some row/\¬ w0.Old b/\b<w.heap.size)/\l.length<=1073741824:=by
  unfold ci at hv
  split at hv
  ·rename_i e' v l0 htm
   split at hv
   ·rename_i hb
    simp only[Bool.and_eq_true,Bool.not_eq_true',decide_eq_true_eq] at hb
    obtain⟨⟨hb1,hb2⟩,hb3⟩:=hb
    cases hv
    have:=Ty.eq_of_beq _ _ hb1;subst this
    rw[htm] at hax
    simp only[AR,AC] at hax
    obtain⟨n0,n1,n2,ad,cap,n3,n4,n5⟩:=hax
    have hval:=ao n0 n3
    have hdead:v ∉ s.dead:=by simpa using hb2
    refine⟨ad,cap,hval,n2,n4,fun hne=>?_,hb3⟩
    rcases n5 hdead with⟨q1,q2⟩|⟨b,off,q1,q2,n,q3,q4⟩
    ·exfalso
     obtain⟨_,_,b,off,e1,e2,e3,e4⟩:=n4.elems
     cases e1
     rcases e2 with e2|e2
     ·exact hne e2
     ·rw[q1] at e2;cases e2
    ·obtain⟨k1,k2,_⟩:=h.βn v b _ hdead q2
     unfold nl at q3
     cases hr:bx w b with
     | none=>rw[hr] at q3;cases q3
     | some row=>exact⟨b,off,row,q1,hr,k1,k2⟩
   ·cases hv
  ·rename_i htm
   cases hv
   rw[htm] at hax
   simp only[AR,AC] at hax
   have hval:=ao hax.1 hax.2
   exact⟨none,0,hval,by simp,CR.of_elems (b:=0) (off:=0) (.inl rfl) (Nat.le_refl _) ⟨[],cJ.nil,by simp⟩,fun h=>absurd rfl h,by simp⟩
  ·cases hv
 obtain⟨hown,hlen⟩:=hown
 have hperm:l'.Perm l:=by
  unfold il at hs
  split at hs
  ·cases hs;exact eU _ l
  ·cases hs
 have hll:l'.length=l.length:=hperm.length_eq
 have hwt':∀ y∈l',wt e y:=fun y hy=>hwt y (hperm.subset hy)
 refine wpIn_region_list ?_
 rw[hops]
 simp only[wpListIn,Region.wanted,if_true]
 refine(ba (K:=fun v w1=>v=a.tmps.getD x undef/\w=w1) (cD.value (v:=a.eval (.tmp x)) (w':=w) rfl ⟨rfl,rfl⟩) ?_)
 rintro _ _ ⟨rfl,rfl⟩
 have hsz:(a.put (some t) (a.tmps.getD x undef)).tmps.size=s.nt:=by simp[Act.put,h.nt]
 have ht1:(a.put (some t) (a.tmps.getD x undef)).eval (.tmp t)=a.tmps.getD x undef:=by
  have:t<a.tmps.size:=by rw[h.nt];exact ht
  simp[Act.eval,Act.put,Array.getD,this]
 have hx1:(a.put (some t) (a.tmps.getD x undef)).tmps.getD x undef=a.tmps.getD x undef:=by
  exact bL (fun e=>hxt (by cases e;rfl))
 have hdf1:(a.put (some t) (a.tmps.getD x undef)).defers=[]:=h.df
 generalize (a.put (some t) (a.tmps.getD x undef))=a1 at *
 refine(ba (K:=fun v w1=>∃ S',dV w0 w1/\eW w1 S' (.sl l') (a.tmps.getD x undef)/\(∀ b o,S' b o->b<w1.heap.size)/\(∀ b o,S' b o->w0.Old b->w0.S0 b o)) ?_ ?_)
 ·obtain⟨fn,f1,f2,f3⟩:=hf.fn
  refine cD.enter (f:=f) (args:=#[.slice ad l.length cap,.func (.func g) #[] #[]]) (w':=w) ?_ ?_
  ·have hb:¬ fn.body=none:=by intro hh;rw[hh] at f3;cases f3
   have f2' : ¬ fn.name = "runtime.NumGoroutine" := by simpa using f2
   have e1:a1.eval (.tmp t)=.slice ad l.length cap:=by rw[ht1,val]
   subst hargs
   have e2:a1.eval (.func g)=.func (.func g) #[] #[]:=rfl
   simp[execOp,resolve,Deferred.ofValue,invoke,callFunc,f1,f2',hb,e1,e2]
   simp[Act.eval,f1,f2',hb]
  ·by_cases hne:l=[]
   ·subst hne
    have e0:l'=[]:=by cases l' with|nil=>rfl|cons y l'=>simp at hll
    subst e0
    refine(hf.empty ad cap _ w).mono ?_
    rintro en w1 ⟨rfl,rfl⟩
    exact⟨_,rfl,S,h.ext,by rw[val];exact jB hcr,h.Sb,h.So⟩
   ·obtain⟨b,off,row,rfl,hr,hold,hbs⟩:=hown hne
    have hcell:∀ (i:Nat) (d:D),(D.flats l)[i]?=some d->w.cell? ⟨b,off+i,none⟩=some (bf d):=by
     obtain⟨_,_,b',off',e1,e2,e3,cs,e4,e5⟩:=hcr.elems
     cases e1
     rcases e2 with e2|e2
     ·exact absurd e2 hne
     ·cases e2
      have hleaf:=fd hf.cmp l hwt
      have:=(bz hleaf).1 e4
      subst this
      intro i d hd
      exact(e5 i (bf d) (by rw[List.getElem?_map,hd];rfl)).2
    refine(zX hE hf hsig hwt hs hne (b:=b) (off:=off) (cap:=cap) hr hcell (by omega)).mono ?_
    rintro en w1 ⟨rfl,_,q1,q2,q3,q4,q5,q6,q7⟩
    refine⟨_,rfl,fun b' o=>(S b' o/\b'≠b)\/(b'=b/\off<=o/\o<off+(D.flats l').length),?_,?_,?_,?_⟩
    ·refine jX h.ext q2 q3 q4 q5 q1 fun b' hb'=>q6 b' (fun e=>hold (e ▸ hb')) (Nat.lt_of_lt_of_le hb'.1 h.ext.sz)
    ·rw[val]
     refine jB ?_
     rw[<-hll]
     refine CR.of_elems (b:=b) (off:=off) (.inr rfl) (by obtain⟨_,_,_,_,e1,_,e3,_⟩:=hcr.elems;cases e1;rw[hll];exact e3) ⟨(D.flats l').map bf,?_,fun i c hc=>?_⟩
     ·exact(bz (fd hf.cmp l' hwt')).2 rfl
     ·rw[List.getElem?_map] at hc
      cases hd:(D.flats l')[i]? with
      | none=>rw[hd] at hc;cases hc
      | some d=>
       rw[hd] at hc
       simp only[Option.map_some,Option.some.injEq] at hc
       subst hc
       exact⟨.inr ⟨rfl,by omega,by have:=(List.getElem?_eq_some_iff.1 hd).1;omega⟩,q7 i d hd⟩
    ·rintro b' o (⟨hb',_⟩|⟨rfl,_,_⟩)
     ·exact Nat.lt_of_lt_of_le (h.Sb b' o hb') q5
     ·exact Nat.lt_of_lt_of_le hbs q5
    ·rintro b' o (⟨hb',_⟩|⟨rfl,_,_⟩) ho
     ·exact h.So b' o hb' ho
     ·exact absurd ho hold
 ·rintro v w1 ⟨S',k1,k2,k3,k4⟩
  refine hQ _ w1 S' (Rp.new h k1 hf.nt hx hwt' ?_ (by simp[Act.put,hsz]) hdf1 k3 k4)
  have:(a1.put (some d2) v).tmps.getD x undef=a.tmps.getD x undef:=by
   rw[<-hx1]
   exact bL (fun e=>hxd (by cases e;rfl))
  rw[this];exact k2
end
end Go.Proofs.YtjjjkojfijpeeaaGreat.Sy
end
section
namespace Go.Proofs.YtjjjkojfijpeeaaGreat.Sy
open Go Go.Proofs Go.Sort Go.Lib
variable{ro:Option Nat}{nn:Nat}
open Go.ChangeMaps (setBlock)
section
variable{P:Program}{E:Env}{w0:Root}
theorem lh{ops ops':Array Oper}{Q:Exit->Act->World->Prop}:∀ (l:List Oper) (a:Act) (w:World),(∀ o∈l,o.guard=none)->wpListIn (FW ro) nn P ops Q l a w->wpListIn (FW ro) nn P ops' Q l a w
 | [],_,_,_,h=>h
 | o::l,a,w,hg,h=>by
  have hgo:=hg o List.mem_cons_self
  have hfun:∀ a w,wpListIn (FW ro) nn P ops Q l a w->wpListIn (FW ro) nn P ops' Q l a w:=fun a w=>lh l a w fun o ho=>hg o (List.mem_cons_of_mem _ ho)
  simp only[wpListIn,Region.wanted,hgo,if_true] at h ⊢
  exact Oper.wpIn_mono hfun h
theorem yF(hE:EnvOk P E){Q:Exit->Act->World->Prop}{id:Nat}{ops:Array Oper}{R:Type}{S:Nat->Nat->Prop}{γ:Nat->Option Nat}{β:Nat->Option (Nat×Nat)}{s:St}{a:Act}{w:World}{k:Ex->St->Option R}{r:R}
  (h:Rp w0 S γ β s a w) (hev:ev E (.region id ops false) .leaf R s k=some r) (hQ:Kp Q w0 s S γ a w k r):wpListIn (FW ro) nn P ops Q ops.toList a w:=by
 obtain⟨S1,f1,f2,f3⟩:=nS (Ann.leaf).fz h
 obtain⟨s1,hs1⟩:∃ s1,s1={ fi s (Ann.leaf).fz with fresh:=s.fresh+1 }:=⟨_,rfl⟩
 obtain⟨h1,h23⟩:=rJ hs1 hev
 obtain⟨h2,h3⟩:(!false||nq E ops ((Ann.leaf).heads ops.size))=true/\_:=h23.resolve_right fun h=>by cases h.1
 have hb1:s1.base=s.base+4096:=by rw[hs1];simp only[St.base];omega
 have r1:Rp w0 S1 γ β s1 a w:=by
  rw[hs1]
  have q1:∀ id,({ fi s (Ann.leaf).fz with fresh:=s.fresh+1 }:St).base+4096<=id->s.base+4096<=id:=fun id hid=>by
   have e:({ fi s (Ann.leaf).fz with fresh:=s.fresh+1 }:St).base=s.base+4096:=by simp only[St.base];omega
   rw[e] at hid
   exact Nat.le_trans (Nat.le_add_right _ _) hid
  exact⟨f1.ext,f1.tms,f1.nt,f1.tmu,f1.obs,f1.γn,f1.γi,fun id hid=>h.γf id (q1 id hid),f1.βn,f1.βi,f1.βγ,fun v hv=>h.βf v (q1 v hv),f1.Sb,f1.So,f1.df⟩
 have hle1:∀ d,s.base+4096<=s1.base+d:=fun d=>by have:=Nat.le_add_right s1.base d;rw[hb1] at this ⊢;exact this
 have hg:∀ d,γ (s1.base+d)=none:=fun d=>h.γf (s1.base+d) (hle1 d)
 have hgb:∀ d,β (s1.base+d)=none:=fun d=>h.βf (s1.base+d) (hle1 d)
 obtain⟨r2,m2⟩:=zj (E:=E) ops.toList r1 hg
 have hmk:=h1
 simp only[dF,Bool.and_eq_true,List.all_eq_true] at hmk
 obtain⟨⟨hm1,hm2⟩,hm3⟩:=hmk
 have hfr:EH E (je E ops.toList s1) γ β ops.toList:=by
  intro o ho hc d hd
  rw[m2.base_eq]
  have hd4:=hm2 o ho
  rw[hd] at hd4
  simp only[decide_eq_true_eq] at hd4
  exact⟨hd4,hg d,hgb d,fun T t e1 e2=>tL ops.toList hm1 ho e1 hd e2⟩
 have hsk:Sk s (je E ops.toList s1):=by
  refine⟨m2.lkS.trans ?_,m2.lkO.trans ?_,m2.nt.trans ?_⟩<;>rw[hs1]
  ·exact f3.lkS
  ·exact f3.lkO
  ·exact f3.nt
 have hstores:(ops.toList.all fun o=>match o.op with|.store ..=>o.dst.isNone|_=>true)=true:=by
  simp only[dF,Bool.and_eq_true] at h1;exact h1.2
 have:=ud (ro:=ro) (nn:=nn) (ops:=ops) hE hstores _ R (bE 0 ops.toList) _ r _ r2 (by rw[br];exact hfr) (by rw[br];exact fun A B o o' e ho d hd=>eQ hm1 A B o o' e ho d hd) (fun p hp=>jq hp) h3
  (Q:=Q) fun s' S' γ' β' a' w' n1 n2 n3 n4=>hQ .normal s' S' γ' β' a' w' n1 (f2.tr n2 hsk) (hsk.trans n3) n4
 rwa [br] at this
def σL(nt o it:Nat)(X:AV):St:={ tm:=fun i=>if i=o then X else .undef,ob:=fun _=>none,fresh:=0,dead:=[],nt:=nt,lkS:=[it],lkO:=[0,1] }
def γs(m r:Nat):Nat->Option Nat:=fun i=>if i=0 then some m else if i=1 then some r else none
def xe(e:Ty)(L:List D)(X:AV):Prop:=(X=.nils/\L=[])\/X=.own e 5 L
theorem xp{s:St}{e:Ty}{o:Nat}{L:List D}(h:ci s e o=some L):(s.tm o=.nils/\L=[])\/∃ v,s.tm o=.own e v L/\v ∉ s.dead:=by
 unfold ci at h
 split at h
 ·rename_i e' v l htm
  split at h
  ·rename_i hb
   simp only[Bool.and_eq_true,Bool.not_eq_true',decide_eq_true_eq] at hb
   cases h
   have:=Ty.eq_of_beq _ _ hb.1.1;subst this
   exact .inr ⟨v,htm,by simpa using hb.1.2⟩
  ·cases h
 ·rename_i htm
  cases h
  exact .inl ⟨htm,rfl⟩
 ·cases h
theorem Rp.std{S:Nat->Nat->Prop}{γ:Nat->Option Nat}{β:Nat->Option (Nat×Nat)}{s:St}{a:Act}{w:World}(h:Rp w0 S γ β s a w){m r:Nat}(hm:¬ w0.Old m/\m<w.heap.size)(hr:¬ w0.Old r/\r<w.heap.size)(hmr:m≠r)
  (hβ:∀ v b e,v ∉ s.dead->β v=some (b,e)->b≠m/\b≠r) {e:Ty} (hce:aX e=true) {o:Nat} {L:List D} (hv:ci s e o=some L) (it:Nat) :
  ∃ β' X,xe e L X/\Rp w0 (fun b i=>S b i/\b≠m/\b≠r) (γs m r) β' (σL s.nt o it X) a w:=by
 have ho:o<s.nt:=by
  rcases Nat.lt_or_ge o s.nt with k|k
  ·exact k
  ·unfold ci at hv;rw[h.tmu o k] at hv;cases hv
 have hao:=h.tms o (by rw[h.nt];exact ho)
 have g1:∀ id b,γs m r id=some b->(id=0/\b=m)\/(id=1/\b=r):=fun id b hb=>by
  unfold γs at hb
  split at hb
  ·rename_i e;cases hb;exact .inl ⟨e,rfl⟩
  ·split at hb
   ·rename_i e;cases hb;exact .inr ⟨e,rfl⟩
   ·cases hb
 have γn':∀ id b,γs m r id=some b->¬ w0.Old b/\b<w.heap.size:=fun id b hb=>by
  rcases g1 id b hb with⟨_,rfl⟩|⟨_,rfl⟩
  ·exact hm
  ·exact hr
 have γi':∀ id id' b,γs m r id=some b->γs m r id'=some b->id=id':=fun id id' b hb hb'=>by
  rcases g1 id b hb with⟨k1,k2⟩|⟨k1,k2⟩<;>rcases g1 id' b hb' with⟨k3,k4⟩|⟨k3,k4⟩
  ·omega
  ·exact absurd (k2.symm.trans k4) hmr
  ·exact absurd (k4.symm.trans k2) hmr
  ·omega
 have γf':∀ id,0*4096+4096<=id->γs m r id=none:=fun id hid=>by
  unfold γs;rw[if_neg (by omega),if_neg (by omega)]
 rcases xp hv with⟨h1,h2⟩|⟨v,h1,h2⟩
 ·refine⟨fun _=>none,.nils,.inl ⟨rfl,h2⟩,h.ext,fun t ht=>?_,h.nt,fun t ht=>?_,fun id o b ho=>(by cases ho),γn',γi',γf',fun v b e _ hb=>(by cases hb),fun v v' b e e' _ _ hb=>(by cases hb),fun v id b e _ hb=>(by cases hb),fun _ _=>rfl,fun b i hb=>h.Sb b i hb.1,fun b i hb=>h.So b i hb.1,h.df⟩
  ·show AR _ (if t=o then AV.nils else .undef) (a.tmps.getD t undef)
   by_cases hto:t=o
   ·rw[if_pos hto];subst hto;rw[h1] at hao;simpa only[AR,AC] using hao
   ·rw[if_neg hto];simp only[AR]
  ·show(if t=o then AV.nils else .undef)=_
   rw[if_neg (fun h=>by subst h;exact absurd ho (Nat.not_lt.2 ht))]
 ·refine⟨fun i=>if i=5 then β v else none,.own e 5 L,.inr rfl,h.ext,fun t ht=>?_,h.nt,fun t ht=>?_,fun id o b ho=>(by cases ho),γn',γi',γf',fun u b e' _ hb=>?_,fun u u' b e' e'' _ _ hb hb'=>?_,fun u id b e' _ hb hid=>?_,fun u hu=>?_,fun b i hb=>h.Sb b i hb.1,fun b i hb=>h.So b i hb.1,h.df⟩
  ·show AR _ (if t=o then AV.own e 5 L else .undef) (a.tmps.getD t undef)
   by_cases hto:t=o
   ·rw[if_pos hto]
    subst hto
    rw[h1] at hao
    simp only[AR,AC] at hao ⊢
    obtain⟨n0,n1,n2,ad,cap,n3,n4,n5⟩:=hao
    have n4':CR w (fun b i=>S b i/\b≠m/\b≠r) (.sl L) (.slice ad L.length cap):=by
     obtain⟨ad',cap',b',off',e1,e2,e3,cs,e4,e5⟩:=n4.elems
     cases e1
     by_cases hL:L=[]
     ·subst hL;exact CR.of_elems (b:=0) (off:=0) (.inl rfl) e3 ⟨[],cJ.nil,by simp⟩
     ·have e2:ad=some ⟨b',off',none⟩:=e2.resolve_left hL
      have hb':b'≠m/\b'≠r:=by
       rcases n5 h2 with q|⟨b,off,q1,q2,q3⟩
       ·rw[q.1] at e2;cases e2
       ·rw[q1] at e2;cases e2;exact hβ v _ _ h2 q2
      have lf:=fd hce L n2
      exact CR.of_elems (.inr e2) e3 ⟨cs,(bz lf).2 ((bz lf).1 e4),fun i c hc=>⟨⟨(e5 i c hc).1,hb'⟩,(e5 i c hc).2⟩⟩
    refine⟨n0,n1,n2,ad,cap,n3,n4',fun _=>?_⟩
    rcases n5 h2 with q|⟨b,off,q1,q2,q3⟩
    ·exact .inl q
    ·exact .inr ⟨b,off,q1,by simpa using q2,q3⟩
   ·rw[if_neg hto];simp only[AR]
  ·show(if t=o then AV.own e 5 L else .undef)=_
   rw[if_neg (fun h=>by subst h;exact absurd ho (Nat.not_lt.2 ht))]
  ·have hb:(if u=5 then β v else none)=some (b,e'):=hb
   split at hb
   ·obtain⟨q1,q2,q3⟩:=h.βn v b e' h2 hb
    exact⟨q1,q2,fun i hi hs=>q3 i hi hs.1⟩
   ·cases hb
  ·have hb:(if u=5 then β v else none)=some (b,e'):=hb
   have hb':(if u'=5 then β v else none)=some (b,e''):=hb'
   split at hb<;>split at hb'<;>first|(cases hb;done)|(cases hb';done)|omega
  ·have hb:(if u=5 then β v else none)=some (b,e'):=hb
   split at hb
   ·have:=hβ v b e' h2 hb
    rcases g1 id b hid with⟨_,q⟩|⟨_,q⟩
    ·exact this.1 q
    ·exact this.2 q
   ·cases hb
  ·have hu':4096<=u:=by simpa [σL,St.base] using hu
   show(if u=5 then β v else none)=none
   rw[if_neg (by omega)]
theorem Rp.setB{S:Nat->Nat->Prop}{γ:Nat->Option Nat}{β:Nat->Option (Nat×Nat)}{s:St}{a:Act}{w:World}(h:Rp w0 S γ β s a w){id b:Nat}(ho:s.ob id=none)(hγ:γ id=some b)(hS:∀ o,¬ S b o)(x:Obj) :
  Rp w0 S γ β s a (setBlock w b x):=by
 have hbS:∀ b' o,S b' o->b'≠b:=fun b' o hb e=>hS o (e ▸ hb)
 have hh:∀ b',b'≠b->(setBlock w b x).heap[b']?=w.heap[b']?:=fun b' hb'=>by simp only[setBlock];rw[Array.getElem?_setIfInBounds_ne (Ne.symm hb')]
 have hsz:(setBlock w b x).heap.size=w.heap.size:=by simp[setBlock]
 have hle:Cx.le ⟨w,S,γ,β,s.ob,s.dead⟩ ⟨setBlock w b x,S,γ,β,s.ob,s.dead⟩:=by
  refine⟨fun b' o hb=>by simp only[World.cell?,hh b' (hbS b' o hb)],fun _ _ hb=>hb,fun _ _ hb=>hb,fun i y hy _=>⟨y,hy,fun p=>⟨rfl,rfl⟩,fun t l e=>⟨l,e,rfl⟩,fun _ _ l e=>⟨l,e⟩⟩,fun v hv=>⟨hv,fun b' e he=>⟨he,fun n hn=>?_⟩⟩⟩
  have hne:b'≠b:=fun e'=>h.βγ v id b' e hv he (e' ▸ hγ)
  have hn':nl w b'=some n:=hn
  show nl (setBlock w b x) b'=some n
  simp only[nl,bx,hh b' hne] at hn' ⊢
  exact hn'
 refine⟨jX h.ext rfl rfl rfl (by rw[hsz];exact Nat.le_refl _) (Nat.le_refl _) (fun b' hb'=>hh b' fun e=>(h.γn id b hγ).1 (e ▸ hb')),fun t ht=>(h.tms t ht).mono hle,h.nt,h.tmu,fun i y b' hy hb'=>?_,fun i b' hb'=>by rw[hsz];exact h.γn i b' hb',h.γi,h.γf,
  fun v b' e hv he=>by rw[hsz];exact h.βn v b' e hv he,h.βi,h.βγ,h.βf,fun b' o hb=>by rw[hsz];exact h.Sb b' o hb,h.So,h.df⟩
 have hne:b'≠b:=fun e'=>by
  have:=h.γi i id b' hb' (e' ▸ hγ)
  subst this
  rw[ho] at hy;cases hy
 exact(h.obs i y b' hy hb').mono hle (hh b' hne) fun _ hh=>hh
end
end Go.Proofs.YtjjjkojfijpeeaaGreat.Sy
end
section
namespace Go.Proofs.YtjjjkojfijpeeaaGreat.Sy
open Go Go.Proofs Go.Sort Go.Lib
variable{ro:Option Nat}{nn:Nat}
open Go.ChangeMaps (setBlock)
def rG:D->D
 | .st (k::_)=>k
 | x=>x
theorem Bn{c:Cx}{kt vt:Ty}:∀ {l:List D} {es:List MapEntry} {j:Nat},iO c kt vt j l es->es.length=l.length/\∀ (i:Nat) (en:MapEntry),es[i]?=some en->en.born=j+i/\∃ k v,l[i]?=some (.st [k,v])/\wt kt k/\wt vt v/\eW c.w c.S k en.key/\eW c.w c.S v en.val
 | [],[],j,_=>⟨rfl,fun i en h=>by simp at h⟩
 | [],_::_,_,h=>h.elim
 | _::_,[],_,h=>h.elim
 | x::l,e::es,j,h=>by
  simp only[iO] at h
  obtain⟨⟨h1,k,v,rfl,h2,h3,h4,h5⟩,h6⟩:=h
  obtain⟨q1,q2⟩:=Bn h6
  refine⟨by simp[q1],fun i en hi=>?_⟩
  cases i with
  | zero=>simp at hi;subst hi;exact⟨by simpa using h1,k,v,by simp,h2,h3,h4,h5⟩
  | succ i=>
   simp only[List.getElem?_cons_succ] at hi
   obtain⟨r1,r2⟩:=q2 i en hi
   exact⟨by omega,by simpa using r2⟩
theorem o9{t:Ty}(hc:aX t=true){x:D}(hx:wt t x){w w':World}{S S':Nat->Nat->Prop}{v:Value}(h:eW w S x v):eW w' S' x v:=by
 have lf:=eZ t x hc hx
 exact⟨h.1,(bz lf).2 ((bz lf).1 h.2)⟩
theorem vf:∀ (n:Nat) (l:List Nat),l.Nodup->(∀ x∈l,x<n)->l.length<=n
 | 0,l,_,h=>by
  cases l with
  | nil=>simp
  | cons x l=>exact absurd (h x List.mem_cons_self) (by omega)
 | n+1,l,hn,h=>by
  have h1:(l.erase n).length<=n:=vf n (l.erase n) (hn.erase n) fun x hx=>by
   have hx':=(hn.mem_erase_iff).1 hx
   have:=h x hx'.2
   have:=hx'.1
   omega
  have h2:=List.length_erase (a:=n) (l:=l)
  split at h2<;>omega
section
variable{P:Program}{E:Env}{w0:Root}
theorem dU{a:Act}{o:Oper}{m:Sem Value}{v:Value}{w w':World}(hex:execOp a.eval o=(m >>= fun r=>pure (Next.value r)))(hrun:m.run P w=.ok v w'):(execOp a.eval o).run P w=.ok (.value v) w':=by
 rw[hex]
 simp only[Sem.run_bind,hrun,Result.andThen_ok,Sem.run_pure]
theorem tz{nt o it t:Nat}{X:AV}(h:t≠o):(σL nt o it X).put (some t) .undef=σL nt o it X:=by
 unfold St.put σL
 simp only
 split
 ·congr 1
  funext i
  by_cases hi:i=t
  ·subst hi;rw[if_pos rfl,if_neg h]
  ·rw[if_neg hi]
 ·rfl
theorem gX{a:Act}{t:Nat}{v:Value}(h:t<a.tmps.size):(a.put (some t) v).eval (.tmp t)=v:=by
 simp[Act.eval,Act.put,Array.getD,h]
theorem am{a:Act}{d:Option Nat}{v:Value}:(a.put d v).tmps.size=a.tmps.size:=by
 cases d<;>simp[Act.put]
theorem DD(hE:EnvOk P E){e vt:Ty}(he:aX e=true)(hvt:aX vt=true)(hne:aj e=true)(hnv:aj vt=true){id23 id24 id25 b b2:Nat}{t72 m0 it T nx ok en o:Nat}{o23 o24 o25:Array Oper}{rest:List Oper}{A7:Code}
  {y1 y2 y3 y4 y5:TypeId} {p1 p2 p3 p4 p5:String} {f1 f2 f3 f4 f5:Array Edge} {TK TV:TypeId}
  (h23:o23.toList=[⟨some t72,.move (.tmp m0),y1,p1,f1,none⟩,⟨some it,.range T (.tmp t72),y2,p2,f2,none⟩])
  (h24:o24.toList=[⟨some nx,.next (.tmp it) false,y3,p3,f3,none⟩,⟨some ok,.extract (.tmp nx) 0,y4,p4,f4,none⟩])
  (h25:o25.toList=⟨some en,.entry (.tmp it),y5,p5,f5,none⟩::rest) (hrest:∀ x∈rest,x.guard=none) (hT:P.underlying T=some (.map TK TV))
  {S:Nat->Nat->Prop} {γ:Nat->Option Nat} {β:Nat->Option (Nat×Nat)} {s:St} {a:Act} {w:World} (h:Rp w0 S γ β s a w)
  (d1:o≠t72) (d2:o≠it) (d3:nx≠o) (d4:ok≠o) (d5:en≠o) (d6:it≠t72) (d7:it≠nx) (d8:it≠ok) (d9:it≠en) (d10:nx≠ok) (n1:t72<s.nt) (n2:it<s.nt) (n3:nx<s.nt) (n4:ok<s.nt) (n5:en<s.nt)
  {idm:Nat} {l:List D} (hm:s.tm m0=.map e vt idm) (hob:s.ob idm=some (.mp e vt l)) (hl:l.length<=1073741824) (hv:ci s e o=some [])
  (hround:∀ X L k v,xe e L X->L.length<1073741824->wt e k->ev E (.region 0 rest.toArray false) .leaf D ((σL s.nt o it X).put (some en) (.d (.tup [e,vt]) (.tup [k,v]))) (fun x s'=>match x with
   | .normal=>ev E A7 .leaf D s' (fun x s''=>match x with|.normal=>(ci s'' e o).bind fun l=>some (.sl l)|_=>none)
   | _=>none)=some (.sl (L++[k])))
  {Q:Exit->Act->World->Prop} (hQ:∀ L S' γ' β' X a' w',xe e L X->L.Perm (l.map rG)->Rp w0 S' γ' β' (σL s.nt o it X) a' w'->Q .normal a' w') :
  (Code.seq (.region id23 o23 false) (.block b (.loop (.seq (.region id24 o24 false) (.seq (.cond (.tmp ok) .skip (.exit b)) (.block b2 (.seq (.region id25 o25 false) A7))))))).wpIn (FW ro) nn P Q a w:=by
 have hm0:m0<s.nt:=by
  rcases Nat.lt_or_ge m0 s.nt with k|k
  ·exact k
  ·rw[h.tmu m0 k] at hm;cases hm
 have hmv:=h.tms m0 (by rw[h.nt];exact hm0)
 rw[hm] at hmv
 simp only[AR,AC] at hmv
 obtain⟨hna,m,hmc,hγm,_,_,_⟩:=hmv
 have hmval:=ao hna hmc
 have hO:=h.obs idm _ m hob hγm
 simp only[g7] at hO
 obtain⟨_,_,hSm,es,hes,hM⟩:=hO
 obtain⟨hesl,hesat⟩:=Bn hM
 have hmn:=h.γn idm m hγm
 have hborn:∀ x∈es.toList,x.born<l.length:=fun x hx=>by
  obtain⟨i,hi,rfl⟩:=List.getElem_of_mem hx
  have:=(hesat i _ (List.getElem?_eq_getElem hi)).1
  omega
 have hbn:(es.toList.map (·.born)).Nodup:=by
  rw[List.Nodup,List.pairwise_iff_getElem]
  intro i j hi hj hij
  simp only[List.length_map] at hi hj
  have a1:=(hesat i _ (List.getElem?_eq_getElem hi)).1
  have a2:=(hesat j _ (List.getElem?_eq_getElem hj)).1
  simp only[List.getElem_map,a1,a2]
  omega
 refine wpIn_seq ?_
 refine wpIn_region_list ?_
 rw[h23]
 simp only[wpListIn,Region.wanted,if_true]
 refine(ba (K:=fun v w1=>v=a.tmps.getD m0 undef/\w=w1) (cD.value (v:=a.eval (.tmp m0)) (w':=w) rfl ⟨rfl,rfl⟩) ?_)
 rintro _ _ ⟨rfl,rfl⟩
 rw[hmval]
 have ha1:(a.put (some t72) (.map (some m))).eval (.tmp t72)=.map (some m):=gX (by rw[h.nt];exact n1)
 refine(ba (K:=fun v w1=>v=.pointer (some ⟨w.heap.size,0,none⟩)/\w1=w.alloc (.mapIter (some m) l.length #[] l.length)) (cD.value (dU (m:=Instr.range T (.map (some m))) ?_ (run_range_map w T TK TV m es l.length hT hes)) ⟨rfl,rfl⟩) ?_)
 ·show(Instr.range T ((a.put (some t72) (.map (some m))).eval (.tmp t72)) >>= fun r=>pure (Next.value r))=_
  rw[ha1]
 rintro _ _ ⟨rfl,rfl⟩
 simp only[Exit.then]
 refine wpIn_block ?_
 obtain⟨r,hr0⟩:∃ r,r=w.heap.size:=⟨_,rfl⟩
 rw[<-hr0]
 have hmr:m≠r:=by have:=hmn.2;omega
 have hgr:w.alloc (.mapIter (some m) l.length #[] l.length)=ay w [.mapIter (some m) l.length #[] l.length] w.drawn:=by
  show({ w with heap:=w.heap.push (.mapIter (some m) l.length #[] l.length) }:World)={ w with heap:=w.heap++[Obj.mapIter (some m) l.length #[] l.length].toArray,drawn:=w.drawn }
  rw[Array.push_eq_append]
 have h1:Rp w0 S γ β ((s.put (some t72) .undef).put (some it) .undef) ((a.put (some t72) (.map (some m))).put (some it) (.pointer (some ⟨r,0,none⟩))) (w.alloc (.mapIter (some m) l.length #[] l.length)):=by
  rw[hgr]
  exact(((h.put (v:=.undef) (val:=.map (some m)) (by simp[AR]) (some t72)).put (v:=.undef) (val:=.pointer (some ⟨r,0,none⟩)) (by simp[AR]) (some it)).grow (os:=[.mapIter (some m) l.length #[] l.length]) (d:=w.drawn) (Nat.le_refl _) (S':=S) (fun _ _ hb=>hb) (fun _ _ hb=>.inl hb)).1
 have hv1:ci ((s.put (some t72) .undef).put (some it) .undef) e o=some []:=by
  have q1:((s.put (some t72) .undef).put (some it) .undef).tm o=s.tm o:=by rw[re (fun e=>d2 (by cases e;rfl)),re (fun e=>d1 (by cases e;rfl))]
  have q2:((s.put (some t72) .undef).put (some it) .undef).dead=s.dead:=by
   rw[(St.put_fields _ _ _).2.2.1,(St.put_fields _ _ _).2.2.1]
  unfold ci at hv ⊢
  rw[q1,q2];exact hv
 have hnt1:((s.put (some t72) .undef).put (some it) .undef).nt=s.nt:=by rw[(St.put_fields _ _ _).2.2.2.1,(St.put_fields _ _ _).2.2.2.1]
 have hsz1:(w.alloc (.mapIter (some m) l.length #[] l.length)).heap.size=w.heap.size+1:=by rw[hgr];simp[ay]
 have hrn:¬ w0.Old r:=fun ho=>by have:=ho.1;have:=h.ext.sz;omega
 have hdead1:((s.put (some t72) .undef).put (some it) .undef).dead=s.dead:=by rw[(St.put_fields _ _ _).2.2.1,(St.put_fields _ _ _).2.2.1]
 obtain⟨β1,X1,hX1,R1⟩:=h1.std (m:=m) (r:=r) ⟨hmn.1,by rw[hsz1];omega⟩ ⟨hrn,by rw[hsz1];omega⟩ hmr (fun v bb ee hd hb=>by
  rw[hdead1] at hd
  exact⟨fun eq=>h.βγ v idm bb ee hd hb (eq ▸ hγm),fun eq=>by have:=(h.βn v bb ee hd hb).2.1;omega⟩) he hv1 it
 rw[hnt1] at R1
 have hes1:(w.alloc (.mapIter (some m) l.length #[] l.length)).heap[m]?=some (.map es l.length):=by
  rw[hgr,ca hmn.2];exact hes
 have hit1:(w.alloc (.mapIter (some m) l.length #[] l.length)).heap[r]?=some (.mapIter (some m) l.length #[] l.length):=by rw[hr0];exact heap_alloc_new w _
 have hp1:((a.put (some t72) (.map (some m))).put (some it) (.pointer (some ⟨r,0,none⟩))).tmps.getD it undef=.pointer (some ⟨r,0,none⟩):=by
  exact gX (by rw[am,h.nt];exact n2)
 refine jo (m:=l.length) (fun n a w=>∃ (S:Nat->Nat->Prop) (β:Nat->Option (Nat×Nat)) (X:AV) (L:List D) (seen:Array Nat) (c0:Nat),xe e L X/\Rp w0 (fun b i=>S b i/\b≠m/\b≠r) (γs m r) β (σL s.nt o it X) a w/\a.tmps.getD it undef=.pointer (some ⟨r,0,none⟩) ∧
  w.heap[m]?=some (.map es l.length)/\w.heap[r]?=some (.mapIter (some m) l.length seen c0)/\l.length<=c0/\L=seen.toList.map (fun j=>rG (l.getD j default))/\seen.toList.Nodup/\(∀ j∈seen.toList,j<l.length)/\n+seen.size=l.length)
  ⟨S,β1,X1,[],#[],l.length,hX1,R1,hp1,hes1,hit1,Nat.le_refl _,rfl,by simp,by simp,by simp⟩ ?_
 clear R1 h1 hv1 hp1 hes1 hit1 hX1 hgr
 rintro n a w ⟨S,β,X,L,seen,c0,hX,R,hp,hes,hit,hc0,hL,hnd,hlt,hn⟩
 have hsz:=R.nt
 refine wpIn_seq (wpIn_region_list ?_)
 rw[h24]
 simp only[wpListIn,Region.wanted,if_true]
 have hev:a.eval (.tmp it)=.pointer (some ⟨r,0,none⟩):=hp
 rcases run_next_at w y3 r m l.length c0 seen es l.length hit hes hborn hc0 with⟨hz,hrun⟩|⟨e0,he0,w1,hw1,hrun⟩
 ·
  refine(ba (K:=fun v w1=>v=.tuple #[.bool false]/\w=w1) (cD.value (dU (m:=Instr.next (.pointer (some ⟨r,0,none⟩)) false y3) ?_ hrun) ⟨rfl,rfl⟩) ?_)
  ·show(Instr.next (a.eval (.tmp it)) false y3 >>= fun r=>pure (Next.value r))=_
   rw[hev]
  rintro _ _ ⟨rfl,rfl⟩
  have ex:(a.put (some nx) (.tuple #[.bool false])).eval (.tmp nx)=.tuple #[.bool false]:=gX (by rw[hsz];exact n3)
  refine(ba (K:=fun v w1=>v=.bool false/\w=w1) (cD.value (dU (m:=Instr.extract (.tuple #[.bool false]) 0) ?_ (v:=.bool false) (w':=w) rfl) ⟨rfl,rfl⟩) ?_)
  ·show(Instr.extract ((a.put (some nx) (.tuple #[.bool false])).eval (.tmp nx)) 0 >>= fun r=>pure (Next.value r))=_
   rw[ex]
  rintro _ _ ⟨rfl,rfl⟩
  simp only[Exit.then]
  refine wpIn_seq (wpIn_cond_false (gX (by rw[am,hsz];exact n4)) (wpIn_exit ?_))
  simp only[Exit.then,Exit.inBlock,if_true]
  have R2:=(R.put (v:=.undef) (val:=.tuple #[.bool false]) (by simp[AR]) (some nx)).put (v:=.undef) (val:=.bool false) (by simp[AR]) (some ok)
  rw[tz d3,tz d4] at R2
  refine hQ L _ _ _ X _ _ hX ?_ R2
  have hall:∀ j,j<l.length->j∈seen.toList:=fun j hj=>by
   have hj':j<es.toList.length:=by omega
   have e1:=(hesat j _ (List.getElem?_eq_getElem hj')).1
   have hno:es.toList[j] ∉ (leftOf es seen).toList:=fun hm=>by
    have:=List.length_pos_of_mem hm
    simp at this;omega
   simp only[leftOf,Array.toList_filter,List.mem_filter,List.getElem_mem,true_and] at hno
   simp at hno
   simp only[Array.getElem_toList,Nat.zero_add] at e1
   rw[e1] at hno
   simpa using hno
  have hperm:seen.toList.Perm (List.range l.length):=(List.perm_ext_iff_of_nodup hnd List.nodup_range).2 fun j=>⟨fun hj=>List.mem_range.2 (hlt j hj),fun hj=>hall j (List.mem_range.1 hj)⟩
  rw[hL]
  refine(hperm.map _).trans ?_
  have:(List.range l.length).map (fun j=>rG (l.getD j default))=l.map rG:=by
   apply List.ext_getElem?
   intro j
   rw[List.getElem?_map,List.getElem?_map]
   rcases Nat.lt_or_ge j l.length with k|k
   ·simp[k,List.getD]
   ·rw[List.getElem?_eq_none (by simpa using k),List.getElem?_eq_none k];rfl
  rw[this]
 ·
  have hw1m:w1.heap[m]?=some (.map es l.length):=by rcases hw1 with rfl|rfl<;>exact hes
  have hw1s:w1.heap.size=w.heap.size:=by rcases hw1 with rfl|rfl<;>rfl
  have hrs:r<w1.heap.size:=by rw[hw1s];exact(Array.getElem?_eq_some_iff.1 hit).1
  have Rw:Rp w0 (fun b i=>S b i/\b≠m/\b≠r) (γs m r) β (σL s.nt o it X) a w1:=by
   rcases hw1 with rfl|rfl
   ·exact R
   ·have:=(R.grow (os:=[]) (d:=w.drawn+1) (Nat.le_succ _) (S':=fun b i=>S b i/\b≠m/\b≠r) (fun _ _ hb=>hb) (fun _ _ hb=>.inl hb)).1
    have e2:ay w [] (w.drawn+1)=w.drew:=by
     unfold ay
     rw[show w.heap++([]:List Obj).toArray=w.heap by simp]
     rfl
    rw[e2] at this
    exact this
  obtain⟨w2,hw2⟩:∃ w2,w2=setBlock w1 r (.mapIter (some m) l.length (seen.push e0.born) l.length):=⟨_,rfl⟩
  rw[<-hw2] at hrun
  have R2:Rp w0 (fun b i=>S b i/\b≠m/\b≠r) (γs m r) β (σL s.nt o it X) a w2:=by
   rw[hw2]
   exact Rw.setB (id:=1) rfl rfl (fun i hi=>hi.2.2 rfl) _
  have hes2:w2.heap[m]?=some (.map es l.length):=by
   rw[hw2];simp only[setBlock];rw[Array.getElem?_setIfInBounds_ne (Ne.symm hmr)];exact hw1m
  have hit2:w2.heap[r]?=some (.mapIter (some m) l.length (seen.push e0.born) l.length):=by
   rw[hw2];simp only[setBlock];rw[Array.getElem?_setIfInBounds_self_of_lt hrs]
  have he0':e0∈es.toList/\e0.born ∉ seen.toList:=by
   simp only[leftOf,Array.toList_filter,List.mem_filter] at he0
   exact⟨he0.1,by have:=he0.2;simpa using this⟩
  obtain⟨j,hj,hje⟩:=List.getElem_of_mem he0'.1
  obtain⟨q1,k,v,q2,q3,q4,q5,q6⟩:=hesat j e0 (by rw[List.getElem?_eq_getElem hj,hje])
  rw[Nat.zero_add] at q1
  have hjl:j<l.length:=by omega
  have hgetj:l.getD j default=.st [k,v]:=by simp[List.getD,q2]
  refine(ba (K:=fun v w1=>v=.tuple #[.bool true,e0.key,e0.val]/\w2=w1) (cD.value (dU (m:=Instr.next (.pointer (some ⟨r,0,none⟩)) false y3) ?_ hrun) ⟨rfl,rfl⟩) ?_)
  ·show(Instr.next (a.eval (.tmp it)) false y3 >>= fun r=>pure (Next.value r))=_
   rw[hev]
  rintro _ _ ⟨rfl,rfl⟩
  have ex:(a.put (some nx) (.tuple #[.bool true,e0.key,e0.val])).eval (.tmp nx)=.tuple #[.bool true,e0.key,e0.val]:=gX (by rw[hsz];exact n3)
  refine(ba (K:=fun v w1=>v=.bool true/\w2=w1) (cD.value (dU (m:=Instr.extract (.tuple #[.bool true,e0.key,e0.val]) 0) ?_ (v:=.bool true) (w':=w2) rfl) ⟨rfl,rfl⟩) ?_)
  ·show(Instr.extract ((a.put (some nx) (.tuple #[.bool true,e0.key,e0.val])).eval (.tmp nx)) 0 >>= fun r=>pure (Next.value r))=_
   rw[ex]
  rintro _ _ ⟨rfl,rfl⟩
  simp only[Exit.then]
  refine wpIn_seq (wpIn_cond_true (gX (by rw[am,hsz];exact n4)) (wpIn_skip ?_))
  simp only[Exit.then]
  refine wpIn_block (wpIn_seq (wpIn_region_list ?_))
  have R3:=(R2.put (v:=.undef) (val:=.tuple #[.bool true,e0.key,e0.val]) (by simp[AR]) (some nx)).put (v:=.undef) (val:=.bool true) (by simp[AR]) (some ok)
  rw[tz d3,tz d4] at R3
  have hp3:((a.put (some nx) (.tuple #[.bool true,e0.key,e0.val])).put (some ok) (.bool true)).tmps.getD it undef=.pointer (some ⟨r,0,none⟩):=by
   rw[bL (fun e=>d8 (by cases e;rfl)),bL (fun e=>d7 (by cases e;rfl))];exact hp
  generalize ((a.put (some nx) (.tuple #[.bool true,e0.key,e0.val])).put (some ok) (.bool true))=a3 at R3 hp3 ⊢
  rw[h25]
  simp only[wpListIn,Region.wanted,if_true]
  refine(ba (K:=fun v w1=>v=.tuple #[e0.key,e0.val]/\w2=w1) (cD.value (dU (m:=Instr.entry (.pointer (some ⟨r,0,none⟩))) ?_ (run_entry_at w2 r m l.length seen es l.length e0 hit2 hes2 he0'.1 hbn)) ⟨rfl,rfl⟩) ?_)
  ·show(Instr.entry (a3.eval (.tmp it)) >>= fun r=>pure (Next.value r))=_
   rw[show a3.eval (.tmp it)=.pointer (some ⟨r,0,none⟩) from hp3]
  rintro _ _ ⟨rfl,rfl⟩
  have R4:=R3.put (v:=.d (.tup [e,vt]) (.tup [k,v])) (val:=.tuple #[e0.key,e0.val]) (by
   simp only[AR]
   refine .inr ⟨[e,vt],rfl,by simp[aZ,hne,hnv],⟨[k,v],rfl,k,[v],rfl,q3,v,[],rfl,q4,rfl⟩,[e0.key,e0.val],rfl,rfl,fun i d u hd hu=>?_⟩
   cases i with
   | zero=>simp at hd hu;subst hd;subst hu;exact o9 he q3 q5
   | succ i=>cases i with
    | zero=>simp at hd hu;subst hd;subst hu;exact o9 hvt q4 q6
    | succ i=>simp at hd) (some en)
  have hp4:(a3.put (some en) (.tuple #[e0.key,e0.val])).tmps.getD it undef=.pointer (some ⟨r,0,none⟩):=by
   rw[bL (fun e=>d9 (by cases e;rfl))];exact hp3
  generalize (a3.put (some en) (.tuple #[e0.key,e0.val]))=a4 at R4 hp4 ⊢
  have hbs:(e0.born::seen.toList).length<=l.length:=vf _ _ (List.nodup_cons.2 ⟨he0'.2,hnd⟩) (fun x hx=>by
   rcases List.mem_cons.1 hx with rfl|hx
   ·omega
   ·exact hlt x hx)
  have hLl:L.length=seen.size:=by rw[hL];simp
  simp only[List.length_cons,Array.length_toList] at hbs
  have lkS4:((σL s.nt o it X).put (some en) (.d (.tup [e,vt]) (.tup [k,v]))).lkS=[it]:=(St.put_fields _ _ _).2.2.2.2.1
  have lkO4:((σL s.nt o it X).put (some en) (.d (.tup [e,vt]) (.tup [k,v]))).lkO=[0,1]:=(St.put_fields _ _ _).2.2.2.2.2.1
  refine lh (ops:=rest.toArray) rest _ _ hrest ?_
  have key:=yF (ro:=ro) (nn:=nn) hE (Q:=Exit.then (A7.wpIn (FW ro) nn P (Exit.inBlock b2 (Exit.then (fun a' w'=>∃ m_1,m_1<n/\∃ (S:Nat->Nat->Prop) (β:Nat->Option (Nat×Nat)) (X:AV) (L:List D) (seen:Array Nat) (c0:Nat),xe e L X/\Rp w0 (fun b i=>S b i/\b≠m/\b≠r) (γs m r) β (σL s.nt o it X) a' w'/\a'.tmps.getD it undef=.pointer (some ⟨r,0,none⟩) ∧
   w'.heap[m]?=some (.map es l.length)/\w'.heap[r]?=some (.mapIter (some m) l.length seen c0)/\l.length<=c0/\L=seen.toList.map (fun j=>rG (l.getD j default))/\seen.toList.Nodup/\(∀ j∈seen.toList,j<l.length)/\m_1+seen.size=l.length) (Exit.inBlock b Q)))) (Exit.inBlock b2 (Exit.then (fun a' w'=>∃ m_1,m_1<n/\∃ (S:Nat->Nat->Prop) (β:Nat->Option (Nat×Nat)) (X:AV) (L:List D) (seen:Array Nat) (c0:Nat),xe e L X/\Rp w0 (fun b i=>S b i/\b≠m/\b≠r) (γs m r) β (σL s.nt o it X) a' w'/\a'.tmps.getD it undef=.pointer (some ⟨r,0,none⟩) ∧
   w'.heap[m]?=some (.map es l.length)/\w'.heap[r]?=some (.mapIter (some m) l.length seen c0)/\l.length<=c0/\L=seen.toList.map (fun j=>rG (l.getD j default))/\seen.toList.Nodup/\(∀ j∈seen.toList,j<l.length)/\m_1+seen.size=l.length) (Exit.inBlock b Q)))) R4 (hround X L k v hX (by omega) q3) ?_
  ·simpa using key
  intro x s' S' γ' β' a' w' g1 g2 g3 g4
  cases x with
  | ret=>cases g4
  | exit i=>cases g4
  | normal=>
   show A7.wpIn (FW ro) nn P _ a' w'
   refine eE hE A7 .leaf D _ _ g1 g4 fun x2 s2 S2 γ2 β2 a5 w5 k1 k2 k3 k4=>?_
   cases x2 with
   | ret=>cases k4
   | exit i=>cases k4
   | normal=>
    have hfr:ci s2 e o=some (L++[k]):=by
     obtain⟨l2,u1,u2⟩:=bind_some_inv k4
     simp only[Option.some.injEq,D.sl.injEq] at u2
     rw[u1,u2]
    have F:=g2.tr k2 g3
    obtain⟨z1,z2⟩:=F.objs 0 (by rw[lkO4];simp) m rfl
    obtain⟨z3,z4⟩:=F.objs 1 (by rw[lkO4];simp) r rfl
    have z5:=F.slots it (by rw[lkS4];simp)
    obtain⟨β6,X6,hX6,R6⟩:=k1.std (m:=m) (r:=r) (k1.γn 0 m z1) (k1.γn 1 r z3) hmr (fun u bb ee hd hb=>⟨fun eq=>k1.βγ u 0 bb ee hd hb (eq ▸ z1),fun eq=>k1.βγ u 1 bb ee hd hb (eq ▸ z3)⟩) he hfr it
    have hnt6:s2.nt=s.nt:=by
     rw[k3.nt,g3.nt,(St.put_fields _ _ _).2.2.2.1];rfl
    rw[hnt6] at R6
    show ∃ m_1,m_1<n/\_
    refine⟨n-1,by omega,S2,β6,X6,L++[k],seen.push e0.born,l.length,hX6,R6,z5.trans hp4,z2.trans hes2,z4.trans hit2,Nat.le_refl _,?_,?_,?_,?_⟩
    ·rw[Array.toList_push,List.map_append,<-hL,List.map_cons,List.map_nil,q1,hgetj];rfl
    ·rw[Array.toList_push,List.nodup_append]
     refine⟨hnd,by simp,fun x hx y hy=>?_⟩
     rw[List.mem_singleton.1 hy]
     exact fun eq=>he0'.2 (eq ▸ hx)
    ·intro x hx
     rw[Array.toList_push] at hx
     rcases List.mem_append.1 hx with hx|hx
     ·exact hlt x hx
     ·rw[List.mem_singleton.1 hx];omega
    ·simp;omega
end
end Go.Proofs.YtjjjkojfijpeeaaGreat.Sy
end
section
namespace Go.Proofs.YtjjjkojfijpeeaaGreat.Sy
open Go Go.Proofs Go.Sort Go.Lib
section
variable{P:Program}{E:Env}
def cq(w:World)(S:Nat->Nat->Prop):Root:=⟨w,S,fun _=>False⟩
def Fq(P:Program)(fn:Func)(w:World)(S:Nat->Nat->Prop)(rty:Ty)(y:D):Exit->Act->World->Prop:=
 bodyPost P fn fun e w'=>∃ v,e=.returned v/\(∃ os d,w.drawn<=d/\w'=ay w os d)/\wt rty y/\DR w' (fun b o=>S b o\/(w.heap.size<=b/\b<w'.heap.size)) y v
theorem Gu(hE:EnvOk P E){fn:Func}{rty:Ty}{y:D}{w:World}{S:Nat->Nat->Prop}(hr:gW fn.results.size rty=true){d:Code}{ann:Ann}{S':Nat->Nat->Prop}{γ':Nat->Option Nat}{β':Nat->Option (Nat×Nat)}{s':St}{a':Act}{w':World}
  (h:Rp (cq w S) S' γ' β' s' a' w') (hev:(ev E d ann D s' fun e s=>match e with|.exit _=>none|_=>results E s rty fn.results.toList)=some y):d.wpIn (FW none) 0 P (Fq P fn w S rty y) a' w':=by
 refine eE hE d ann D _ y h hev fun e s' S' γ' β' a' w' n1 n2 n3 n4=>?_
 have hres:results E s' rty fn.results.toList=some y->(∃ v,(Go.results fn a'.tmps).run P w'=.ok v w'/\∃ v',Ending.returned v=.returned v'/\(∃ os d,w.drawn<=d/\w'=ay w os d)/\wt rty y/\DR w' (fun b o=>S b o\/(w.heap.size<=b/\b<w'.heap.size)) y v'):=fun hq=>by
  obtain⟨v,k1,k2,k3⟩:=lv hE n1 hr hq
  refine⟨v,k1,v,rfl,bT n1.ext (fun _ hf=>hf),k2,k3.mono (fun _ _ _=>rfl) fun b o hb=>?_⟩
  rcases Nat.lt_or_ge b w.heap.size with hlt|hge
  ·exact .inl (n1.So b o hb ⟨hlt,fun hf=>hf⟩)
  ·exact .inr ⟨hge,n1.Sb b o hb⟩
 cases e with
 | normal=>exact⟨n1.df,hres n4⟩
 | ret=>exact⟨n1.df,hres n4⟩
 | exit i=>cases n4
theorem qJ(hE:EnvOk P E){f:FuncId}{fn:Func}{ann:AnnT}{ptys:List Ty}{rty:Ty}{xs:List D}{y:D}{K:St->Option D}(hf:P.funcs[f]?=some fn)(hk:(decide (ptys.length<=fn.ntmps)&&gW fn.results.size rty&&aZ ptys)=true)
  (h:Dm E K fn ann ptys xs=some y) (hK:∀ c,fn.body=some c->∀ (w:World) (S S':Nat->Nat->Prop) γ' β' s' a' w',Rp (cq w S) S' γ' β' s' a' w'->K s'=some y->(om c ann).wpIn (FW none) 0 P (Fq P fn w S rty y) a' w'):CQ P ptys rty f xs y:=by
 intro w S vs hS hwt hlen hvs
 simp only[Bool.and_eq_true,decide_eq_true_eq] at hk
 obtain⟨⟨hsz,hr⟩,hn⟩:=hk
 unfold Dm at h
 split at h<;>first|(cases h;done)|skip
 rename_i c hb
 have hxl:xs.length=ptys.length:=ln hwt
 have hntm:(vs.toArray++Array.replicate (fn.ntmps-vs.toArray.size) undef).size=fn.ntmps:=by
  simp;omega
 refine cV hf hb (Gy (w0:=cq w S) hE c ann (S:=S) (γ:=fun _=>none) (β:=fun _=>none) (s:=uj fn ptys xs) ?_ h fun s' S' γ' β' a' w' n1 n2=>hK c hb w S S' γ' β' s' a' w' n1 n2)
 refine⟨⟨rfl,rfl,rfl,Nat.le_refl _,Nat.le_refl _,fun _ _=>rfl⟩,fun t ht=>?_,hntm,fun t ht=>?_,fun id o b ho=>(by cases ho),fun id b hb=>(by cases hb),fun id id' b hb=>(by cases hb),fun _ _=>rfl,fun v b e _ hb=>(by cases hb),fun v v' b e e' _ _ hb=>(by cases hb),fun v id b e _ hb=>(by cases hb),fun _ _=>rfl,hS,fun b o hb _=>hb,rfl⟩
 ·simp only[uj,nH]
  split
  ·rename_i ty x e1 e2
   have hlt:=(List.getElem?_eq_some_iff.1 e2).1
   have hlt':t<vs.length:=by omega
   have hv:(vs.toArray++Array.replicate (fn.ntmps-vs.toArray.size) undef).getD t undef=vs[t]:=by
    simp[Array.getD,Array.getElem_append,hlt']
    omega
   show AR _ _ ((vs.toArray++Array.replicate (fn.ntmps-vs.toArray.size) undef).getD t undef)
   rw[hv]
   obtain⟨x',hx',hw'⟩:=jI hwt e1
   rw[e2] at hx';cases hx'
   exact eh (ce hn e1) hw' (hvs t x _ e2 (List.getElem?_eq_getElem hlt'))
  ·simp only[AR]
 ·have ht':fn.ntmps<=t:=ht
  simp only[uj,nH]
  rw[List.getElem?_eq_none (by omega)]
def Gi(nt x:Nat)(e:Ty)(l:List D):St:={ tm:=fun i=>if i=x then .d (.sl e) (.sl l) else .undef,ob:=fun _=>none,fresh:=0,dead:=[],nt:=nt,lkS:=[],lkO:=[] }
theorem Rp.reset{w0:Root}{S:Nat->Nat->Prop}{s:St}{x:Nat}{e:Ty}{l:List D}{a:Act}{w:World}(h:Rp w0 S (fun _=>none) (fun _=>none) (F7 s x e l) a w){nt:Nat}(hnt:s.nt=nt):Rp w0 S (fun _=>none) (fun _=>none) (Gi nt x e l) a w:=by
 subst hnt
 exact⟨h.ext,h.tms,h.nt,h.tmu,fun id o b ho=>(by cases ho),h.γn,h.γi,fun _ _=>rfl,h.βn,h.βi,h.βγ,fun _ _=>rfl,h.Sb,h.So,h.df⟩
def yt(E:Env)(nt x g:Nat)(e:Ty)(s:St):Option D:=(ci s e x).bind fun l=>if s.nt=nt then(il E g l).bind fun l'=>some (.sl l') else none
theorem sZ(hE:EnvOk P E){f0:Nat}{e:Ty}(hf:SortOk P f0 e){g:Nat}(hsig:E.sig g=some ([e,e],.int .i64)){fn:Func}{rty:Ty}{y:D}{w:World}{S:Nat->Nat->Prop}(hr:gW fn.results.size rty=true)
  {id x t d2 nt:Nat} {ops:Array Oper} {d:Code} {ann:Ann} {ty1 ty2:TypeId} {p1 p2:String} {af1 af2:Array Edge} {args:Array Operand} {ats:Array TypeId}
  (hops:ops.toList=[⟨some t,.move (.tmp x),ty1,p1,af1,none⟩,⟨some d2,.call ⟨.value (.func f0),args,ats⟩,ty2,p2,af2,none⟩]) (hargs:args=#[.tmp t,.func g]) (hd:(decide (x≠t)&&decide (x≠d2)&&decide (t<nt))=true)
  (hev:∀ l',(ev E d ann D (Gi nt x e l') fun e s=>match e with|.exit _=>none|_=>results E s rty fn.results.toList)=some (.sl l'))
  {S':Nat->Nat->Prop} {γ':Nat->Option Nat} {β':Nat->Option (Nat×Nat)} {s':St} {a':Act} {w':World} (h:Rp (cq w S) S' γ' β' s' a' w') (hK:yt E nt x g e s'=some y):(Code.seq (.region id ops false) d).wpIn (FW none) 0 P (Fq P fn w S rty y) a' w':=by
 simp only[Bool.and_eq_true,decide_eq_true_eq] at hd
 obtain⟨⟨hd1,hd2⟩,hd3⟩:=hd
 obtain⟨l,h1,h2⟩:=bind_some_inv hK
 split at h2<;>first|(cases h2;done)|skip
 rename_i hnt
 obtain⟨l',h3,h4⟩:=bind_some_inv h2
 cases h4
 refine wpIn_seq (D8 hE hf hsig hops hargs h hd1 hd2 (by rw[hnt];exact hd3) h1 h3 fun a2 w2 S2 hR=>?_)
 exact Gu hE hr (hR.reset hnt) (hev l')
theorem oo{lt:D->D->Bool}{x:D}:∀ {l:List D},(∀ a∈x::l,∀ b∈x::l,∀ c∈x::l,lt a b=true->lt b c=true->lt a c=true)->(∀ y∈l,lt x y=true\/lt y x=true)->l.Pairwise (fun a b=>lt a b=true)->(wX lt x l).Pairwise (fun a b=>lt a b=true)
 | [],_,_,_=>by simp[wX]
 | y::l,htr,hto,hp=>by
  obtain⟨p1,p2⟩:=List.pairwise_cons.1 hp
  simp only[wX]
  split
  ·rename_i hxy
   refine List.pairwise_cons.2 ⟨fun z hz=>?_,hp⟩
   rcases List.mem_cons.1 hz with rfl|hz
   ·exact hxy
   ·exact htr x (by simp) y (by simp) z (by simp[hz]) hxy (p1 z hz)
  ·rename_i hxy
   have hyx:lt y x=true:=(hto y List.mem_cons_self).resolve_left hxy
   refine List.pairwise_cons.2 ⟨fun z hz=>?_,oo (fun a ha b hb c hc=>?_) (fun z hz=>hto z (List.mem_cons_of_mem _ hz)) p2⟩
   ·rcases List.mem_cons.1 ((nQ lt x l).subset hz) with rfl|hz
    ·exact hyx
    ·exact p1 z hz
   ·have up:∀ q,q∈x::l->q∈x::y::l:=fun q hq=>by
     rcases List.mem_cons.1 hq with rfl|hq
     ·simp
     ·simp[hq]
    exact htr a (up a ha) b (up b hb) c (up c hc)
theorem nc{lt:D->D->Bool}:∀ {l:List D},(∀ a∈l,∀ b∈l,∀ c∈l,lt a b=true->lt b c=true->lt a c=true)->l.Pairwise (fun a b=>lt a b=true\/lt b a=true)->(gQ lt l).Pairwise (fun a b=>lt a b=true)
 | [],_,_=>by simp[gQ]
 | x::l,htr,hto=>by
  obtain⟨p1,p2⟩:=List.pairwise_cons.1 hto
  have hs:∀ q,q∈gQ lt l->q∈l:=fun q hq=>(eU lt l).subset hq
  have up:∀ q,q∈x::gQ lt l->q∈x::l:=fun q hq=>by
   rcases List.mem_cons.1 hq with rfl|hq
   ·simp
   ·simp[hs q hq]
  exact oo (fun a ha b hb c hc=>htr a (up a ha) b (up b hb) c (up c hc)) (fun y hy=>p1 y (hs y hy)) (nc (fun a ha b hb c hc=>htr a (List.mem_cons_of_mem _ ha) b (List.mem_cons_of_mem _ hb) c (List.mem_cons_of_mem _ hc)) p2)
theorem vP{g:Nat}{l l':List D}(hc:ka E g l'=true)(hp:l.Perm l'):il E g l=some l':=by
 obtain⟨h1,h2⟩:=gH hc
 have ix:∀ x∈l',∃ i,l'[i]?=some x:=fun x hx=>by
  obtain⟨i,k1,k2⟩:=List.getElem_of_mem hx
  exact⟨i,by rw[List.getElem?_eq_getElem k1,k2]⟩
 have htr:∀ a∈l,∀ b∈l,∀ c∈l,lY E g a b=true->lY E g b c=true->lY E g a c=true:=fun a ha b hb c hc' k1 k2=>by
  obtain⟨i,hi⟩:=ix a (hp.subset ha);obtain⟨j,hj⟩:=ix b (hp.subset hb);obtain⟨k,hk⟩:=ix c (hp.subset hc')
  have:=(cZ hc hi hj).1.1 k1
  have:=(cZ hc hj hk).1.1 k2
  exact(cZ hc hi hk).1.2 (by omega)
 have hnd:l.Nodup:=hp.symm.nodup (si hc)
 have hto:l.Pairwise (fun a b=>lY E g a b=true\/lY E g b a=true):=by
  refine List.Pairwise.imp_of_mem (fun{a b} ha hb hab=>?_) hnd
  obtain⟨i,hi⟩:=ix a (hp.subset ha);obtain⟨j,hj⟩:=ix b (hp.subset hb)
  rcases Nat.lt_trichotomy i j with k|k|k
  ·exact .inl ((cZ hc hi hj).1.2 k)
  ·subst k;rw[hi] at hj;cases hj;exact absurd rfl hab
  ·exact .inr ((cZ hc hj hi).1.2 k)
 have hs:=nc htr hto
 have hsp:(gQ (lY E g) l).Perm l':=(eU _ l).trans hp
 have:gQ (lY E g) l=l':=by
  have key:∀ {a b:List D},a.Pairwise (fun x y=>lY E g x y=true)->b.Pairwise (fun x y=>lY E g x y=true)->a.Perm b->(∀ x∈a,x∈l')->a=b:=by
   intro a
   induction a with
   | nil=>intro b _ _ hp _;exact hp.symm.eq_nil.symm ▸ rfl
   | cons x a ih=>
    intro b ha hb hp hm
    cases b with
    | nil=>exact absurd hp.eq_nil (by simp)
    | cons y b=>
     obtain⟨a1,a2⟩:=List.pairwise_cons.1 ha
     obtain⟨b1,b2⟩:=List.pairwise_cons.1 hb
     have e:x=y:=by
      rcases List.mem_cons.1 (hp.subset List.mem_cons_self) with e|m1
      ·exact e
      ·rcases List.mem_cons.1 (hp.symm.subset (List.mem_cons_self (a:=y))) with e|m2
       ·exact e.symm
       ·exfalso
        obtain⟨i,hi⟩:=ix x (hm x List.mem_cons_self)
        obtain⟨j,hj⟩:=ix y (hm y (List.mem_cons_of_mem _ m2))
        have:=(cZ hc hi hj).1.1 (a1 y m2)
        have:=(cZ hc hj hi).1.1 (b1 x m1)
        omega
     subst e
     rw[ih a2 b2 ((List.perm_cons x).1 hp) (fun z hz=>hm z (List.mem_cons_of_mem _ hz))]
  exact key hs (h1.imp fun h=>h.1) hsp fun x hx=>hsp.subset hx
 unfold il
 rw[this,if_pos hc]
theorem xC{g:Nat}{l l2 l':List D}(h:il E g l=some l')(hp:l2.Perm l):il E g l2=some l':=by
 have hsd:ka E g l'=true/\l'=gQ (lY E g) l:=by
  unfold il at h
  split at h
  ·rename_i hh;cases h;exact⟨hh,rfl⟩
  ·cases h
 exact vP hsd.1 (hp.trans (by rw[hsd.2];exact(eU _ l).symm))
end
end Go.Proofs.YtjjjkojfijpeeaaGreat.Sy
end
section
namespace Go.Proofs.YtjjjkojfijpeeaaGreat.Sy
open Go Go.Proofs Go.Sort Go.Lib
section
variable{P:Program}{E:Env}
def tA(E:Env)(nt m0 o g:Nat)(e vt:Ty)(s:St):Option D:=
 match s.tm m0 with
 | .map kt vt' id=>if kt.beq e&&vt'.beq vt then(match s.ob id with
   | some (.mp kt2 vt2 l)=>if kt2.beq e&&vt2.beq vt&&decide (l.length<=1073741824) then(match ci s e o with
     | some []=>if s.nt=nt then(il E g (l.map rG)).bind fun l'=>some (.sl l') else none
     | _=>none) else none
   | _=>none) else none
 | _=>none
theorem xt(hE:EnvOk P E){e vt:Ty}(he:aX e=true)(hvt:aX vt=true)(hne:aj e=true)(hnv:aj vt=true){fn:Func}{rty:Ty}{y:D}{w:World}{S:Nat->Nat->Prop}(hr:gW fn.results.size rty=true)
  {id23 id24 id25 b b2:Nat} {t72 m0 it T nx ok en o nt:Nat} {o23 o24 o25:Array Oper} {rest:List Oper} {A7:Code}
  {y1 y2 y3 y4 y5:TypeId} {p1 p2 p3 p4 p5:String} {f1 f2 f3 f4 f5:Array Edge} {TK TV:TypeId}
  (h23:o23.toList=[⟨some t72,.move (.tmp m0),y1,p1,f1,none⟩,⟨some it,.range T (.tmp t72),y2,p2,f2,none⟩])
  (h24:o24.toList=[⟨some nx,.next (.tmp it) false,y3,p3,f3,none⟩,⟨some ok,.extract (.tmp nx) 0,y4,p4,f4,none⟩])
  (h25:o25.toList=⟨some en,.entry (.tmp it),y5,p5,f5,none⟩::rest) (hrest:(rest.all fun x=>x.guard.isNone)=true) (hT:P.underlying T=some (.map TK TV))
  (hd:(decide (o≠t72)&&decide (o≠it)&&decide (nx≠o)&&decide (ok≠o)&&decide (en≠o)&&decide (it≠t72)&&decide (it≠nx)&&decide (it≠ok)&&decide (it≠en)&&decide (nx≠ok)&&decide (t72<nt)&&decide (it<nt)&&decide (nx<nt)&&decide (ok<nt)&&decide (en<nt))=true)
  (hround:∀ X L k v,xe e L X->L.length<1073741824->wt e k->ev E (.region 0 rest.toArray false) .leaf D ((σL nt o it X).put (some en) (.d (.tup [e,vt]) (.tup [k,v]))) (fun x s'=>match x with
   | .normal=>ev E A7 .leaf D s' (fun x s''=>match x with|.normal=>(ci s'' e o).bind fun l=>some (.sl l)|_=>none)
   | _=>none)=some (.sl (L++[k])))
  {f0 g:Nat} (hf:SortOk P f0 e) (hsig:E.sig g=some ([e,e],.int .i64)) {id t d2:Nat} {ops:Array Oper} {d:Code} {ann:Ann} {ty1 ty2:TypeId} {q1 q2:String} {af1 af2:Array Edge} {args:Array Operand} {ats:Array TypeId}
  (hops:ops.toList=[⟨some t,.move (.tmp o),ty1,q1,af1,none⟩,⟨some d2,.call ⟨.value (.func f0),args,ats⟩,ty2,q2,af2,none⟩]) (hargs:args=#[.tmp t,.func g]) (hd':(decide (o≠t)&&decide (o≠d2)&&decide (t<nt))=true)
  (hev:∀ l',(ev E d ann D (Gi nt o e l') fun x s=>match x with|.exit _=>none|_=>results E s rty fn.results.toList)=some (.sl l'))
  {S':Nat->Nat->Prop} {γ':Nat->Option Nat} {β':Nat->Option (Nat×Nat)} {s':St} {a':Act} {w':World} (h:Rp (cq w S) S' γ' β' s' a' w') (hK:tA E nt m0 o g e vt s'=some y) :
  (Code.seq (Code.seq (.region id23 o23 false) (.block b (.loop (.seq (.region id24 o24 false) (.seq (.cond (.tmp ok) .skip (.exit b)) (.block b2 (.seq (.region id25 o25 false) A7))))))) (Code.seq (.region id ops false) d)).wpIn (FW none) 0 P (Fq P fn w S rty y) a' w':=by
 unfold tA at hK
 split at hK<;>first|(cases hK;done)|skip
 rename_i kt vt' idm htm
 split at hK<;>first|(cases hK;done)|skip
 rename_i hb1
 split at hK<;>first|(cases hK;done)|skip
 rename_i kt2 vt2 l hob
 split at hK<;>first|(cases hK;done)|skip
 rename_i hb2
 split at hK<;>first|(cases hK;done)|skip
 rename_i hfr
 split at hK<;>first|(cases hK;done)|skip
 rename_i hnt
 obtain⟨l',h3,h4⟩:=bind_some_inv hK
 cases h4
 simp only[Bool.and_eq_true,decide_eq_true_eq] at hb1 hb2 hd
 have e1:=Ty.eq_of_beq _ _ hb1.1;have e2:=Ty.eq_of_beq _ _ hb1.2;have e3:=Ty.eq_of_beq _ _ hb2.1.1;have e4:=Ty.eq_of_beq _ _ hb2.1.2
 subst e1;subst e2;subst e3;subst e4
 obtain⟨⟨⟨⟨⟨⟨⟨⟨⟨⟨⟨⟨⟨⟨d1,d2'⟩,d3⟩,d4⟩,d5⟩,d6⟩,d7⟩,d8⟩,d9⟩,d10⟩,n1⟩,n2⟩,n3⟩,n4⟩,n5⟩:=hd
 subst hnt
 refine wpIn_seq (DD hE he hvt hne hnv h23 h24 h25 (fun x hx=>by simpa using List.all_eq_true.1 hrest x hx) hT h d1 d2' d3 d4 d5 d6 d7 d8 d9 d10 n1 n2 n3 n4 n5 htm hob hb2.2 hfr hround fun L S2 γ2 β2 X a2 w2 hX hp hR=>?_)
 have hlen:L.length<=1073741824:=by rw[hp.length_eq];simpa using hb2.2
 have hfX:ci (σL s'.nt o it X) kt2 o=some L:=by
  unfold ci σL
  simp only[if_true]
  rcases hX with⟨rfl,rfl⟩|rfl
  ·rfl
  ·simp only
   have:(kt2.beq kt2&&!(([]:List Nat).contains 5)&&decide (L.length<=1073741824))=true:=by
    simp only[Bool.and_eq_true,decide_eq_true_eq]
    exact⟨⟨hb2.1.1,rfl⟩,hlen⟩
   rw[if_pos this]
 refine sZ hE hf hsig hr hops hargs hd' hev hR ?_
 unfold yt
 rw[hfX,Option.bind_some,if_pos (show(σL s'.nt o it X).nt=s'.nt from rfl),xC h3 hp]
 rfl
end
end Go.Proofs.YtjjjkojfijpeeaaGreat.Sy
end
section
namespace Go.Proofs
open Go.Shelf
def Tryz.sortE_ren:Go.Shelf.Ren:=⟨fun|6=>50|15=>114|14=>113|28=>165|29=>166|20=>157|21=>158|22=>159|23=>160|24=>161|25=>162|26=>163|27=>164|46=>189|47=>190|48=>191|49=>192|50=>193|57=>216|n=>n,fun|22=>40|24=>66|25=>91|3=>3|39=>143|0=>0|53=>42|55=>145|4=>4|46=>172|45=>171|50=>153|5=>5|9=>9|66=>192|70=>196|76=>215|77=>216|n=>n,fun|n=>n⟩
theorem Tryz.sortE:Go.Proofs.SlLaysF0.n6 Tryz.prog Tryz.sortE_ren:={
 mixed:=by kernel_rfl
 f6:=⟨Tryz.f50.name,by decide,Tryz.func50.trans (congrArg some (by kernel_rfl))⟩
 f14:=⟨Tryz.f113.name,by decide,Tryz.func113.trans (congrArg some (by kernel_rfl))⟩
 f15:=Tryz.func114.trans (congrArg some (by kernel_rfl))
 f20:=⟨Tryz.f157.name,by decide,Tryz.func157.trans (congrArg some (by kernel_rfl))⟩
 f21:=⟨Tryz.f158.name,by decide,Tryz.func158.trans (congrArg some (by kernel_rfl))⟩
 f22:=⟨Tryz.f159.name,by decide,Tryz.func159.trans (congrArg some (by kernel_rfl))⟩
 f23:=⟨Tryz.f160.name,by decide,Tryz.func160.trans (congrArg some (by kernel_rfl))⟩
 f24:=⟨Tryz.f161.name,by decide,Tryz.func161.trans (congrArg some (by kernel_rfl))⟩
 f25:=⟨Tryz.f162.name,by decide,Tryz.func162.trans (congrArg some (by kernel_rfl))⟩
 f26:=⟨Tryz.f163.name,by decide,Tryz.func163.trans (congrArg some (by kernel_rfl))⟩
 f27:=⟨Tryz.f164.name,by decide,Tryz.func164.trans (congrArg some (by kernel_rfl))⟩
 f28:=Tryz.func165.trans (congrArg some (by kernel_rfl))
 f29:=Tryz.func166.trans (congrArg some (by kernel_rfl))
 f46:=⟨Tryz.f189.name,by decide,Tryz.func189.trans (congrArg some (by kernel_rfl))⟩
 f47:=Tryz.func190.trans (congrArg some (by kernel_rfl))
 f48:=Tryz.func191.trans (congrArg some (by kernel_rfl))
 f49:=⟨Tryz.f192.name,by decide,Tryz.func192.trans (congrArg some (by kernel_rfl))⟩
 f50:=⟨Tryz.f193.name,by decide,Tryz.func193.trans (congrArg some (by kernel_rfl))⟩
 f57:=⟨Tryz.f216.name,by decide,Tryz.func216.trans (congrArg some (by kernel_rfl))⟩
 t0:=Tryz.underlying0
 a0:=Tryz.isAgg0
 z0:=Tryz.sizeOf0
 v0:=Tryz.zeroValue0
 t3:=Tryz.underlying3
 a3:=Tryz.isAgg3
 z3:=Tryz.sizeOf3
 v3:=Tryz.zeroValue3
 t4:=Tryz.underlying4
 a4:=Tryz.isAgg4
 z4:=Tryz.sizeOf4
 v4:=Tryz.zeroValue4
 t5:=Tryz.underlying5
 a5:=Tryz.isAgg5
 z5:=Tryz.sizeOf5
 v5:=Tryz.zeroValue5
 t9:=Tryz.underlying9
 a9:=Tryz.isAgg9
 z9:=Tryz.sizeOf9
 v9:=Tryz.zeroValue9
 t22:=Tryz.underlying40
 a22:=Tryz.isAgg40
 z22:=Tryz.sizeOf40
 v22:=Tryz.zeroValue40
 t25:=Tryz.underlying91
 a25:=Tryz.isAgg91
 z25:=Tryz.sizeOf91
 v25:=Tryz.zeroValue91
 t39:=Tryz.underlying143
 a39:=Tryz.isAgg143
 z39:=Tryz.sizeOf143
 v39:=Tryz.zeroValue143
 t45:=Tryz.underlying171
 a45:=Tryz.isAgg171
 z45:=Tryz.sizeOf171
 v45:=Tryz.zeroValue171
 t46:=Tryz.underlying172
 a46:=Tryz.isAgg172
 z46:=Tryz.sizeOf172
 v46:=Tryz.zeroValue172
 t50:=Tryz.underlying153
 a50:=Tryz.isAgg153
 z50:=Tryz.sizeOf153
 v50:=Tryz.zeroValue153
 t53:=Tryz.underlying42
 a53:=Tryz.isAgg42
 z53:=Tryz.sizeOf42
 v53:=Tryz.zeroValue42
 t55:=Tryz.underlying145
 a55:=Tryz.isAgg145
 z55:=Tryz.sizeOf145
 v55:=Tryz.zeroValue145
 t66:=Tryz.underlying192
 a66:=Tryz.isAgg192
 z66:=Tryz.sizeOf192
 v66:=Tryz.zeroValue192
 t70:=Tryz.underlying196
 a70:=Tryz.isAgg196
 z70:=Tryz.sizeOf196
 v70:=Tryz.zeroValue196
 t76:=Tryz.underlying215
 a76:=Tryz.isAgg215
 z76:=Tryz.sizeOf215
 v76:=Tryz.zeroValue215
 t77:=Tryz.underlying216
 a77:=Tryz.isAgg216
 z77:=Tryz.sizeOf216
 v77:=Tryz.zeroValue216 }
def Tryz.sortP_ren:Go.Shelf.Ren:=⟨fun|6=>99|15=>114|14=>153|28=>165|29=>166|20=>178|21=>179|22=>180|23=>181|24=>182|25=>183|26=>184|27=>185|46=>212|47=>190|48=>191|49=>213|50=>214|57=>221|n=>n,fun|22=>81|24=>85|25=>132|3=>3|39=>143|0=>0|53=>42|55=>145|4=>4|46=>172|45=>171|50=>153|5=>5|9=>9|66=>192|70=>196|76=>215|77=>216|n=>n,fun|n=>n⟩
theorem Tryz.sortP:Go.Proofs.SlLaysF0.n6 Tryz.prog Tryz.sortP_ren:={
 mixed:=by kernel_rfl
 f6:=⟨Tryz.f99.name,by decide,Tryz.func99.trans (congrArg some (by kernel_rfl))⟩
 f14:=⟨Tryz.f153.name,by decide,Tryz.func153.trans (congrArg some (by kernel_rfl))⟩
 f15:=Tryz.func114.trans (congrArg some (by kernel_rfl))
 f20:=⟨Tryz.f178.name,by decide,Tryz.func178.trans (congrArg some (by kernel_rfl))⟩
 f21:=⟨Tryz.f179.name,by decide,Tryz.func179.trans (congrArg some (by kernel_rfl))⟩
 f22:=⟨Tryz.f180.name,by decide,Tryz.func180.trans (congrArg some (by kernel_rfl))⟩
 f23:=⟨Tryz.f181.name,by decide,Tryz.func181.trans (congrArg some (by kernel_rfl))⟩
 f24:=⟨Tryz.f182.name,by decide,Tryz.func182.trans (congrArg some (by kernel_rfl))⟩
 f25:=⟨Tryz.f183.name,by decide,Tryz.func183.trans (congrArg some (by kernel_rfl))⟩
 f26:=⟨Tryz.f184.name,by decide,Tryz.func184.trans (congrArg some (by kernel_rfl))⟩
 f27:=⟨Tryz.f185.name,by decide,Tryz.func185.trans (congrArg some (by kernel_rfl))⟩
 f28:=Tryz.func165.trans (congrArg some (by kernel_rfl))
 f29:=Tryz.func166.trans (congrArg some (by kernel_rfl))
 f46:=⟨Tryz.f212.name,by decide,Tryz.func212.trans (congrArg some (by kernel_rfl))⟩
 f47:=Tryz.func190.trans (congrArg some (by kernel_rfl))
 f48:=Tryz.func191.trans (congrArg some (by kernel_rfl))
 f49:=⟨Tryz.f213.name,by decide,Tryz.func213.trans (congrArg some (by kernel_rfl))⟩
 f50:=⟨Tryz.f214.name,by decide,Tryz.func214.trans (congrArg some (by kernel_rfl))⟩
 f57:=⟨Tryz.f221.name,by decide,Tryz.func221.trans (congrArg some (by kernel_rfl))⟩
 t0:=Tryz.underlying0
 a0:=Tryz.isAgg0
 z0:=Tryz.sizeOf0
 v0:=Tryz.zeroValue0
 t3:=Tryz.underlying3
 a3:=Tryz.isAgg3
 z3:=Tryz.sizeOf3
 v3:=Tryz.zeroValue3
 t4:=Tryz.underlying4
 a4:=Tryz.isAgg4
 z4:=Tryz.sizeOf4
 v4:=Tryz.zeroValue4
 t5:=Tryz.underlying5
 a5:=Tryz.isAgg5
 z5:=Tryz.sizeOf5
 v5:=Tryz.zeroValue5
 t9:=Tryz.underlying9
 a9:=Tryz.isAgg9
 z9:=Tryz.sizeOf9
 v9:=Tryz.zeroValue9
 t22:=Tryz.underlying81
 a22:=Tryz.isAgg81
 z22:=Tryz.sizeOf81
 v22:=Tryz.zeroValue81
 t25:=Tryz.underlying132
 a25:=Tryz.isAgg132
 z25:=Tryz.sizeOf132
 v25:=Tryz.zeroValue132
 t39:=Tryz.underlying143
 a39:=Tryz.isAgg143
 z39:=Tryz.sizeOf143
 v39:=Tryz.zeroValue143
 t45:=Tryz.underlying171
 a45:=Tryz.isAgg171
 z45:=Tryz.sizeOf171
 v45:=Tryz.zeroValue171
 t46:=Tryz.underlying172
 a46:=Tryz.isAgg172
 z46:=Tryz.sizeOf172
 v46:=Tryz.zeroValue172
 t50:=Tryz.underlying153
 a50:=Tryz.isAgg153
 z50:=Tryz.sizeOf153
 v50:=Tryz.zeroValue153
 t53:=Tryz.underlying42
 a53:=Tryz.isAgg42
 z53:=Tryz.sizeOf42
 v53:=Tryz.zeroValue42
 t55:=Tryz.underlying145
 a55:=Tryz.isAgg145
 z55:=Tryz.sizeOf145
 v55:=Tryz.zeroValue145
 t66:=Tryz.underlying192
 a66:=Tryz.isAgg192
 z66:=Tryz.sizeOf192
 v66:=Tryz.zeroValue192
 t70:=Tryz.underlying196
 a70:=Tryz.isAgg196
 z70:=Tryz.sizeOf196
 v70:=Tryz.zeroValue196
 t76:=Tryz.underlying215
 a76:=Tryz.isAgg215
 z76:=Tryz.sizeOf215
 v76:=Tryz.zeroValue215
 t77:=Tryz.underlying216
 a77:=Tryz.isAgg216
 z77:=Tryz.sizeOf216
 v77:=Tryz.zeroValue216 }
def Tryz.sortV_ren:Go.Shelf.Ren:=⟨fun|6=>150|15=>114|14=>177|28=>165|29=>166|20=>204|21=>205|22=>206|23=>207|24=>208|25=>209|26=>210|27=>211|46=>218|47=>190|48=>191|49=>219|50=>220|57=>222|n=>n,fun|22=>22|24=>60|25=>126|3=>3|39=>143|0=>0|53=>42|55=>145|4=>4|46=>172|45=>171|50=>153|5=>5|9=>9|66=>192|70=>196|76=>215|77=>216|n=>n,fun|n=>n⟩
theorem Tryz.sortV:Go.Proofs.SlLaysF0.n6 Tryz.prog Tryz.sortV_ren:={
 mixed:=by kernel_rfl
 f6:=⟨Tryz.f150.name,by decide,Tryz.func150.trans (congrArg some (by kernel_rfl))⟩
 f14:=⟨Tryz.f177.name,by decide,Tryz.func177.trans (congrArg some (by kernel_rfl))⟩
 f15:=Tryz.func114.trans (congrArg some (by kernel_rfl))
 f20:=⟨Tryz.f204.name,by decide,Tryz.func204.trans (congrArg some (by kernel_rfl))⟩
 f21:=⟨Tryz.f205.name,by decide,Tryz.func205.trans (congrArg some (by kernel_rfl))⟩
 f22:=⟨Tryz.f206.name,by decide,Tryz.func206.trans (congrArg some (by kernel_rfl))⟩
 f23:=⟨Tryz.f207.name,by decide,Tryz.func207.trans (congrArg some (by kernel_rfl))⟩
 f24:=⟨Tryz.f208.name,by decide,Tryz.func208.trans (congrArg some (by kernel_rfl))⟩
 f25:=⟨Tryz.f209.name,by decide,Tryz.func209.trans (congrArg some (by kernel_rfl))⟩
 f26:=⟨Tryz.f210.name,by decide,Tryz.func210.trans (congrArg some (by kernel_rfl))⟩
 f27:=⟨Tryz.f211.name,by decide,Tryz.func211.trans (congrArg some (by kernel_rfl))⟩
 f28:=Tryz.func165.trans (congrArg some (by kernel_rfl))
 f29:=Tryz.func166.trans (congrArg some (by kernel_rfl))
 f46:=⟨Tryz.f218.name,by decide,Tryz.func218.trans (congrArg some (by kernel_rfl))⟩
 f47:=Tryz.func190.trans (congrArg some (by kernel_rfl))
 f48:=Tryz.func191.trans (congrArg some (by kernel_rfl))
 f49:=⟨Tryz.f219.name,by decide,Tryz.func219.trans (congrArg some (by kernel_rfl))⟩
 f50:=⟨Tryz.f220.name,by decide,Tryz.func220.trans (congrArg some (by kernel_rfl))⟩
 f57:=⟨Tryz.f222.name,by decide,Tryz.func222.trans (congrArg some (by kernel_rfl))⟩
 t0:=Tryz.underlying0
 a0:=Tryz.isAgg0
 z0:=Tryz.sizeOf0
 v0:=Tryz.zeroValue0
 t3:=Tryz.underlying3
 a3:=Tryz.isAgg3
 z3:=Tryz.sizeOf3
 v3:=Tryz.zeroValue3
 t4:=Tryz.underlying4
 a4:=Tryz.isAgg4
 z4:=Tryz.sizeOf4
 v4:=Tryz.zeroValue4
 t5:=Tryz.underlying5
 a5:=Tryz.isAgg5
 z5:=Tryz.sizeOf5
 v5:=Tryz.zeroValue5
 t9:=Tryz.underlying9
 a9:=Tryz.isAgg9
 z9:=Tryz.sizeOf9
 v9:=Tryz.zeroValue9
 t22:=Tryz.underlying22
 a22:=Tryz.isAgg22
 z22:=Tryz.sizeOf22
 v22:=Tryz.zeroValue22
 t25:=Tryz.underlying126
 a25:=Tryz.isAgg126
 z25:=Tryz.sizeOf126
 v25:=Tryz.zeroValue126
 t39:=Tryz.underlying143
 a39:=Tryz.isAgg143
 z39:=Tryz.sizeOf143
 v39:=Tryz.zeroValue143
 t45:=Tryz.underlying171
 a45:=Tryz.isAgg171
 z45:=Tryz.sizeOf171
 v45:=Tryz.zeroValue171
 t46:=Tryz.underlying172
 a46:=Tryz.isAgg172
 z46:=Tryz.sizeOf172
 v46:=Tryz.zeroValue172
 t50:=Tryz.underlying153
 a50:=Tryz.isAgg153
 z50:=Tryz.sizeOf153
 v50:=Tryz.zeroValue153
 t53:=Tryz.underlying42
 a53:=Tryz.isAgg42
 z53:=Tryz.sizeOf42
 v53:=Tryz.zeroValue42
 t55:=Tryz.underlying145
 a55:=Tryz.isAgg145
 z55:=Tryz.sizeOf145
 v55:=Tryz.zeroValue145
 t66:=Tryz.underlying192
 a66:=Tryz.isAgg192
 z66:=Tryz.sizeOf192
 v66:=Tryz.zeroValue192
 t70:=Tryz.underlying196
 a70:=Tryz.isAgg196
 z70:=Tryz.sizeOf196
 v70:=Tryz.zeroValue196
 t76:=Tryz.underlying215
 a76:=Tryz.isAgg215
 z76:=Tryz.sizeOf215
 v76:=Tryz.zeroValue215
 t77:=Tryz.underlying216
 a77:=Tryz.isAgg216
 z77:=Tryz.sizeOf216
 v77:=Tryz.zeroValue216 }
end Go.Proofs
end
section
namespace Go.Proofs.YtjjjkojfijpeeaaGreat.Sy
open Go Go.Proofs Go.Shelf Go.RowKit Go.Lib Go.Sort
theorem tP {P : Program} {f : Nat} (h : (match P.funcs[f]? with | some fn => !(fn.name == "runtime.NumGoroutine") && fn.body.isSome | none => false) = true) : ∃ fn, P.funcs[f]? = some fn /\ (fn.name == "runtime.NumGoroutine") = false /\ fn.body.isSome = true := by
 split at h
 ·rename_i fn hf
  simp only[Bool.and_eq_true,Bool.not_eq_true'] at h
  exact⟨fn,hf,h.1,h.2⟩
 ·cases h
theorem By:SortOk Tryz.prog 50 K8:=
 ⟨rfl,rfl,by decide,rfl,tP (by kernel_rfl),fun p cap fv w=>AnyF.slices_SortFunc_none Tryz.sortE p cap fv w,
  fun _ _ enc hk h1 cf hO g blk off cap d w eg hcmp hH hblk hsz=>AnyQ.slices_SortFunc Tryz.sortE 2 Tryz.isAgg66 Tryz.sizeOf66 enc hk h1 cf hO g #[] blk off cap d w eg hcmp hH hblk hsz⟩
theorem BW:SortOk Tryz.prog 99 cY:=
 ⟨rfl,rfl,by decide,rfl,tP (by kernel_rfl),fun p cap fv w=>AnyF.slices_SortFunc_none Tryz.sortP p cap fv w,
  fun _ _ enc hk h1 cf hO g blk off cap d w eg hcmp hH hblk hsz=>AnyQ.slices_SortFunc Tryz.sortP 4 Tryz.isAgg85 Tryz.sizeOf85 enc hk h1 cf hO g #[] blk off cap d w eg hcmp hH hblk hsz⟩
theorem wF:SortOk Tryz.prog 150 K1:=
 ⟨rfl,rfl,by decide,rfl,tP (by kernel_rfl),fun p cap fv w=>AnyF.slices_SortFunc_none Tryz.sortV p cap fv w,
  fun _ _ enc hk h1 cf hO g blk off cap d w eg hcmp hH hblk hsz=>AnyQ.slices_SortFunc Tryz.sortV 3 Tryz.isAgg60 Tryz.sizeOf60 enc hk h1 cf hO g #[] blk off cap d w eg hcmp hH hblk hsz⟩
end Go.Proofs.YtjjjkojfijpeeaaGreat.Sy
end
section
set_option maxRecDepth 20000
set_option maxHeartbeats 0
set_option linter.unusedVariables false
namespace Go.Proofs.YtjjjkojfijpeeaaGreat.Sy
open Go Go.Proofs
def mG:Code->Code|.block _ c=>c|c=>c
def inLoop:Code->Code|.loop c=>c|c=>c
def pj:Code->Code|.seq a _=>a|c=>c
def mU:Code->Code|.seq _ b=>b|c=>c
def Fs:Code->List Oper|.region _ o _=>o.toList|_=>[]
def Ix:AnnT:=(.seq .leaf (.seq .leaf (.seq (.two .leaf (.two (.loop ⟨[(3,.ow K8),(12,.dv (Ty.int .i64))],[],[10,11]⟩ [(.exit 0,⟨[(3,.ow K8)],[],[]⟩)] (.two .leaf (.two .leaf (.two (.two (.two .leaf (.two .leaf (.two (.loop ⟨[(3,.ow K8),(5,.same (.ptr K6 24581 [])),(19,.dv (Ty.int .i64))],[(24581,.keep K6 5)],[10,11,12,17,18]⟩ [(.exit 2,⟨[(3,.ow K8)],[],[10,11,12]⟩)] (.two .leaf (.two .leaf (.cut [(.normal,⟨[(3,.ow K8),(5,.same (.ptr K6 24581 []))],[(24581,.keep K6 5)],[10,11,12,17,18,19]⟩)] [10,11,12,17,18,19] [24581] (.two (.two .leaf (.two (.reg [] 10) .leaf)) .leaf) .leaf)))) .leaf))) .leaf) .leaf)))) .leaf)) .hand)))
noncomputable def IF(lp:Lp)(call:Nat->List D->Option D)(a0:D):Option D:=
 Option.bind (call 18 [a0]) fun r1=>
 Option.bind (D.asSl r1) fun l2=>
 Option.bind (lp (β:=Nat×List D) (fun(v3:List D)=>
 Option.bind (D.bin .lss (gx v3 1) (D.int .i64 (List.length l2))) fun x4=>
 Option.bind (D.truth x4) fun b5=>
 if b5 then(Option.bind (D.asSl r1) fun l6=>
 Option.bind (D.idx (gx v3 1) (List.length l6)) fun i7=>
 Option.bind (l6[i7]?) fun x8=>
 Option.bind (D.get x8 [2]) fun x9=>
 Option.bind (D.asSl x9) fun l10=>
 Option.bind (lp (β:=Nat×List D) (fun(v11:List D)=>
 Option.bind (D.bin .lss (gx v11 1) (D.int .i64 (List.length l10))) fun x12=>
 Option.bind (D.truth x12) fun b13=>
 if b13 then(Option.bind (Option.bind (D.asSl x9) fun l14=>
 Option.bind (D.idx (gx v11 1) (List.length l14)) fun i15=>
 Option.bind (l14[i15]?) fun x16=>
 Option.bind (D.get x8 [2]) fun x17=>
 Option.bind (D.bin .add (gx v11 1) (D.int .i64 1)) fun x18=>
 Option.bind (D.get x8 [2]) fun x19=>
 Option.bind (D.asSl x19) fun l20=>
 Option.bind (D.bin .rem x18 (D.int .i64 (List.length l20))) fun x21=>
 Option.bind (D.asSl x17) fun l22=>
 Option.bind (D.idx x21 (List.length l22)) fun AM=>
 Option.bind (l22[AM]?) fun x24=>
 Option.bind (D.bin .lss x16 x24) fun x25=>
 Option.bind (D.truth x25) fun b26=>
 if b26 then(if List.length (D.els (gx v11 0))+List.length [(D.st [x16,x24])]<=1073741824 then(some (0,[(D.sl ((D.els (gx v11 0))++[(D.st [x16,x24])]))])) else none) else(some (0,[(D.sl (D.els (gx v11 0)))]))) fun(r27:Nat×List D)=>
 Option.bind (D.bin .add (gx v11 1) (D.int .i64 1)) fun x28=>
 some (Sum.inl [(D.sl (D.els (gx r27.2 0))),x28])) else(some (Sum.inr (0,[(D.sl (D.els (gx v11 0)))])))) [(D.sl (D.els (gx v3 0))),(D.int .i64 0)]) fun r29=>
 Option.bind (D.bin .add (gx v3 1) (D.int .i64 1)) fun x30=>
 some (Sum.inl [(D.sl (D.els (gx r29.2 0))),x30])) else(some (Sum.inr (0,[(D.sl (D.els (gx v3 0)))])))) [(D.sl []),(D.int .i64 0)]) fun r31=>
 Option.bind (if decide (List.length (D.els (gx r31.2 0))<=1073741824) then some (D.els (gx r31.2 0)) else none) fun l1=>
 Option.bind (il (dG lp call (ij lp call)) 51 l1) fun l2=>some (D.sl l2)
theorem Qu(lp:Lp)(call:Nat->List D->Option D)(a0:D):Dm (dG lp call (ij lp call)) (yt (dG lp call (ij lp call)) 48 3 51 K8) Tryz.f21 Ix [K3] [a0]=IF lp call a0:=by kernel_rfl
def Hv:AnnT:=(.seq .leaf (.seq .leaf (.seq (.two .leaf (.two (.loop ⟨[(3,.same (.map cY Ty.bool 8204)),(15,.dv (Ty.int .i64))],[(8204,.mp cY Ty.bool)],[0,14]⟩ [(.exit 0,⟨[(3,.same (.map cY Ty.bool 8204))],[(8204,.mp cY Ty.bool)],[]⟩)] (.two .leaf (.two .leaf (.two (.two (.two .leaf (.two .leaf (.two (.loop ⟨[(3,.same (.map cY Ty.bool 8204)),(19,.dv (Ty.int .i64))],[(8204,.mp cY Ty.bool)],[0,4,14,15,18]⟩ [(.exit 2,⟨[(3,.same (.map cY Ty.bool 8204))],[(8204,.mp cY Ty.bool)],[0,14,15]⟩)] (.two .leaf (.two .leaf (.two (.two (.two .leaf (.two .leaf (.two (.loop ⟨[(3,.same (.map cY Ty.bool 8204)),(23,.dv (Ty.int .i64))],[(8204,.mp cY Ty.bool)],[0,4,5,14,15,18,19,22]⟩ [(.exit 4,⟨[(3,.same (.map cY Ty.bool 8204))],[(8204,.mp cY Ty.bool)],[0,4,14,15,18,19]⟩)] (.two .leaf (.two .leaf (.cut [(.normal,⟨[(3,.same (.map cY Ty.bool 8204))],[(8204,.mp cY Ty.bool)],[0,4,5,14,15,18,19,22,23]⟩)] [0,4,5,14,15,18,19,22,23] [] (.two (.two .leaf (.two (.reg [] 14) (.two .leaf (.two .leaf (.two (.loop ⟨[(3,.same (.map cY Ty.bool 8204)),(51,.ow cY),(53,.dv (Ty.int .i64))],[(8204,.mp cY Ty.bool)],[0,4,5,14,15,18,19,22,23,52]⟩ [(.exit 6,⟨[(3,.same (.map cY Ty.bool 8204))],[(8204,.mp cY Ty.bool)],[0,4,5,14,15,18,19,22,23]⟩)] (.two .leaf (.two .leaf (.cut [(.normal,⟨[(3,.same (.map cY Ty.bool 8204)),(51,.ow cY)],[(8204,.mp cY Ty.bool)],[0,4,5,14,15,18,19,22,23,52,53]⟩)] [0,4,5,14,15,18,19,22,23,52,53] [] .leaf .leaf)))) .leaf))))) .leaf) .leaf)))) .leaf))) .leaf) .leaf)))) .leaf))) .leaf) .leaf)))) .leaf)) (.seq .leaf .hand))))
noncomputable def GE(lp:Lp)(call:Nat->List D->Option D)(a0:D):Option D:=
 Option.bind (D.asSl a0) fun l1=>
 Option.bind (lp (β:=Nat×List D) (fun(v2:List D)=>
 Option.bind (D.bin .lss (gx v2 0) (D.int .i64 (List.length l1))) fun x3=>
 Option.bind (D.truth x3) fun b4=>
 if b4 then(Option.bind (lp (β:=Nat×List D) (fun(v5:List D)=>
 Option.bind (D.bin .lss (gx v5 0) (gx v2 0)) fun x6=>
 Option.bind (D.truth x6) fun b7=>
 if b7 then(Option.bind (lp (β:=Nat×List D) (fun(v8:List D)=>
 Option.bind (D.bin .lss (gx v8 0) (gx v5 0)) fun x9=>
 Option.bind (D.truth x9) fun b10=>
 if b10 then(Option.bind (Option.bind (D.asSl a0) fun l11=>
 Option.bind (D.idx (gx v2 0) (List.length l11)) fun lZ=>
 Option.bind (l11[lZ]?) fun x13=>
 Option.bind (D.asSl a0) fun l14=>
 Option.bind (D.idx (gx v5 0) (List.length l14)) fun i15=>
 Option.bind (l14[i15]?) fun x16=>
 Option.bind (D.asSl a0) fun l17=>
 Option.bind (D.idx (gx v8 0) (List.length l17)) fun i18=>
 Option.bind (l17[i18]?) fun x19=>
 Option.bind (call 96 [x13,x16,x19]) fun r20=>
 Option.bind (D.get r20 [0]) fun x21=>
 Option.bind (D.truth (D.bool (D.beq x21 (D.st [(D.int .i64 0),(D.int .i64 0),(D.int .i64 0)])))) fun b22=>
 if b22 then(some (0,[(D.sl (D.els (gx v8 1)))])) else(Option.bind (D.get r20 [0]) fun x23=>
 Option.bind (call 97 [x23]) fun r24=>
 Option.bind (D.get r20 [1]) fun x25=>
 Option.bind (D.un .neg x25) fun x26=>
 Option.bind (lp (β:=Nat×List D) (fun(v27:List D)=>
 Option.bind (D.bin .lss (gx v27 1) (D.int .i64 2)) fun x28=>
 Option.bind (D.truth x28) fun b29=>
 if b29 then(Option.bind (Option.bind (D.idx (gx v27 1) (List.length (D.els (gx v27 0)))) fun i30=>
 Option.bind ((D.els (gx v27 0))[i30]?) fun x31=>
 Option.bind (D.un .not (Option.getD (D.mget (D.els (gx v27 2)) x31) (D.bool false))) fun x32=>
 Option.bind (D.truth x32) fun b33=>
 Option.bind (if b33 then(Option.bind (call 98 [a0,x31]) fun r34=>
 D.truth r34) else(some false)) fun b35=>
 Option.bind (D.truth (D.bool b35)) fun b36=>
 if b36 then(some (0,[(D.sl (D.els (gx v27 0))),(D.sl (D.mput (D.els (gx v27 2)) x31 (D.bool true)))])) else(some (0,[(D.sl (D.els (gx v27 0))),(D.sl (D.els (gx v27 2)))]))) fun(r37:Nat×List D)=>
 Option.bind (D.bin .add (gx v27 1) (D.int .i64 1)) fun x38=>
 some (Sum.inl [(D.sl (D.els (gx r37.2 0))),x38,(D.sl (D.els (gx r37.2 1)))])) else(some (Sum.inr (0,[(D.sl (D.els (gx v27 2)))])))) [(D.sl [r20,(D.st [r24,x26])]),(D.int .i64 0),(D.sl (D.els (gx v8 1)))]) fun r39=>
 some (0,[(D.sl (D.els (gx r39.2 0)))]))) fun(r40:Nat×List D)=>
 Option.bind (D.bin .add (gx v8 0) (D.int .i64 1)) fun x41=>
 some (Sum.inl [x41,(D.sl (D.els (gx r40.2 0)))])) else(some (Sum.inr (0,[(D.sl (D.els (gx v8 1)))])))) [(D.int .i64 0),(D.sl (D.els (gx v5 1)))]) fun r42=>
 Option.bind (D.bin .add (gx v5 0) (D.int .i64 1)) fun x43=>
 some (Sum.inl [x43,(D.sl (D.els (gx r42.2 0)))])) else(some (Sum.inr (0,[(D.sl (D.els (gx v5 1)))])))) [(D.int .i64 0),(D.sl (D.els (gx v2 1)))]) fun r44=>
 Option.bind (D.bin .add (gx v2 0) (D.int .i64 1)) fun x45=>
 some (Sum.inl [x45,(D.sl (D.els (gx r44.2 0)))])) else(some (Sum.inr (0,[(D.sl (D.els (gx v2 1)))])))) [(D.int .i64 0),(D.sl [])]) fun r46=>
 if decide (List.length (D.els (gx r46.2 0))<=1073741824) then(Option.bind (il (dG lp call (ij lp call)) 100 (List.map rG (D.els (gx r46.2 0)))) fun l2=>some (D.sl l2)) else none
theorem Pv(lp:Lp)(call:Nat->List D->Option D)(a0:D):Dm (dG lp call (ij lp call)) (tA (dG lp call (ij lp call)) 85 3 10 100 cY Ty.bool) Tryz.f45 Hv [K2] [a0]=GE lp call a0:=by kernel_rfl
def kj(f:Func):Code:=match f.body with|some c=>c|none=>.skip
noncomputable def wh:Code:=mG (mU (mU (inLoop (mG (mU (pj (om (kj Tryz.f45) Hv)))))))
noncomputable def xB:List Oper:=(Fs (pj wh)).tail
noncomputable def Ly:Code:=mU wh
theorem GM{lp:Lp}{call:Nat->List D->Option D}(hE:EnvOk Tryz.prog (dG lp call (ij lp call))){a0 y:D}(h:IF lp call a0=some y):CQ Tryz.prog [K3] K9 21 [a0] y:=by
 refine qJ hE (f:=21) (fn:=Tryz.f21) (ann:=Ix) (K:=yt (dG lp call (ij lp call)) 48 3 51 K8) (by kernel_rfl) (by kernel_rfl) ((Qu lp call a0).trans h) ?_
 intro c hb w S S' γ' β' s' a' w' hR hK
 have e:∀ c',Tryz.f21.body=some c'->(om c' Ix).wpIn (FW none) 0 Tryz.prog (Fq Tryz.prog Tryz.f21 w S K9 y) a' w'->(om c Ix).wpIn (FW none) 0 Tryz.prog (Fq Tryz.prog Tryz.f21 w S K9 y) a' w':=fun c' h1 h2=>by
  rw[hb] at h1;cases h1;exact h2
 refine e _ rfl ?_
 exact sZ hE By (g:=51) (x:=3) (t:=45) (d2:=46) (nt:=48) (ann:=.leaf) (by kernel_rfl) (by kernel_rfl) rfl rfl (by decide) (fun l'=>by kernel_rfl) hR hK
theorem EQ{lp:Lp}{call:Nat->List D->Option D}:∀ X L k v,xe cY L X->L.length<1073741824->wt cY k->ev (dG lp call (ij lp call)) (.region 0 (xB).toArray false) .leaf D ((σL 85 10 73 X).put (some 76) (.d (.tup [cY,.bool]) (.tup [k,v]))) (fun x s'=>match x with
   | .normal=>ev (dG lp call (ij lp call)) Ly .leaf D s' (fun x s''=>match x with|.normal=>(ci s'' cY 10).bind fun l=>some (.sl l)|_=>none)
   | _=>none)=some (.sl (L++[k])):=by
 intro X L k v hX hL _
 rcases hX with⟨rfl,rfl⟩|rfl
 ·kernel_rfl
 ·have key:ev (dG lp call (ij lp call)) (.region 0 (xB).toArray false) .leaf D ((σL 85 10 73 (.own cY 5 L)).put (some 76) (.d (.tup [cY,.bool]) (.tup [k,v]))) (fun x s'=>match x with
   | .normal=>ev (dG lp call (ij lp call)) Ly .leaf D s' (fun x s''=>match x with|.normal=>(ci s'' cY 10).bind fun l=>some (.sl l)|_=>none)
   | _=>none)=(if List.length L+List.length [k]<=1073741824 then(Option.bind (if decide (List.length (L++[k])<=1073741824) then some (L++[k]) else none) fun l=>some (.sl l)) else none):=by kernel_rfl
  rw[key,if_pos (by simp;omega),if_pos (by simp;omega)]
  rfl
theorem HM{lp:Lp}{call:Nat->List D->Option D}(hE:EnvOk Tryz.prog (dG lp call (ij lp call))){a0 y:D}(h:GE lp call a0=some y):CQ Tryz.prog [K2] GF 45 [a0] y:=by
 refine qJ hE (f:=45) (fn:=Tryz.f45) (ann:=Hv) (K:=tA (dG lp call (ij lp call)) 85 3 10 100 cY .bool) (by kernel_rfl) (by kernel_rfl) ((Pv lp call a0).trans h) ?_
 intro c hb w S S' γ' β' s' a' w' hR hK
 have e:∀ c',Tryz.f45.body=some c'->(om c' Hv).wpIn (FW none) 0 Tryz.prog (Fq Tryz.prog Tryz.f45 w S GF y) a' w'->(om c Hv).wpIn (FW none) 0 Tryz.prog (Fq Tryz.prog Tryz.f45 w S GF y) a' w':=fun c' h1 h2=>by
  rw[hb] at h1;cases h1;exact h2
 refine e _ rfl ?_
 exact xt hE rfl rfl rfl rfl (by kernel_rfl) (t72:=72) (m0:=3) (it:=73) (T:=127) (nx:=74) (ok:=75) (en:=76) (o:=10) (nt:=85) (A7:=Ly) (rest:=xB) rfl rfl rfl rfl (TK:=85) (TV:=4) (by kernel_rfl) (by decide) EQ BW (g:=100) (by kernel_rfl) (t:=82) (d2:=83) (ann:=.leaf) rfl rfl (by decide) (fun l'=>by kernel_rfl) hR hK
end Go.Proofs.YtjjjkojfijpeeaaGreat.Sy
end
section
namespace Go.Proofs.YtjjjkojfijpeeaaGreat.Sy
open Go Go.Proofs
theorem O5{lp:Lp}(hlp:ap lp):ac 21 (m1 (IF lp)):=by
 intro call hc ptys rty' xs y hs hy hw
 have:mo 21=some ([K3],K9):=by kernel_rfl
 rw[this] at hs;cases hs
 unfold m1 at hy
 split at hy<;>first|(cases hy;done)|skip
 exact GM (DB hlp hc) hy
theorem Ok{lp:Lp}(hlp:ap lp):ac 45 (m1 (GE lp)):=by
 intro call hc ptys rty' xs y hs hy hw
 have:mo 45=some ([K2],GF):=by kernel_rfl
 rw[this] at hs;cases hs
 unfold m1 at hy
 split at hy<;>first|(cases hy;done)|skip
 exact HM (DB hlp hc) hy
def kc(x:D):List D->List D
 | []=>[]
 | y::l=>if y.beq x then kc y l else y::kc y l
def jJ:List D->List D
 | []=>[]
 | x::l=>x::kc x l
def tC(E:Env)(g:Nat)(l:List D):Option (List D):=if ka E g (jJ (gQ (lY E g) l)) then some (gQ (lY E g) l) else none
noncomputable def pC(lp:Lp)(call:Nat->List D->Option D)(xs:List D):Option D:=match xs with
 | [.sl l]=>if decide (l.length<=1073741824) then(tC (dG lp call (ij lp call)) 94 l).bind fun l'=>some (.sl (jJ l')) else none
 | _=>none
end Go.Proofs.YtjjjkojfijpeeaaGreat.Sy
end
section
set_option maxRecDepth 20000
set_option maxHeartbeats 0
namespace Go.Proofs.YtjjjkojfijpeeaaGreat.Sy
open Go Go.Proofs
noncomputable def GU(lp:Lp):CT:=.node 96 (.node 51 (.node 28 (.node 18 (.node 13 (.node 11 (.node 10 (.leaf 5 (m1 (F5 lp))) (.leaf 10 (fJ lp 10 Tryz.f10 Nk))) (.node 12 (.leaf 11 (fJ lp 11 Tryz.f11 M9)) (.leaf 12 (m1 (GC lp))))) (.node 15 (.node 14 (.leaf 13 (m2 (If lp))) (.leaf 14 (fJ lp 14 Tryz.f14 .leaf))) (.node 16 (.leaf 15 (m1 (IN lp))) (.node 17 (.leaf 16 (m1 (Ia lp))) (.leaf 17 (fJ lp 17 Tryz.f17 Na)))))) (.node 23 (.node 20 (.node 19 (.leaf 18 (m1 (Im lp))) (.leaf 19 (m1 (IH lp)))) (.node 21 (.leaf 20 (fJ lp 20 Tryz.f20 M8)) (.leaf 21 (m1 (IF lp))))) (.node 25 (.node 24 (.leaf 23 (m1 (HY lp))) (.leaf 24 (m1 (IR lp)))) (.node 26 (.leaf 25 (m1 (Iz lp))) (.node 27 (.leaf 26 (m1 (It lp))) (.leaf 27 (m2 (H0 lp)))))))) (.node 38 (.node 32 (.node 30 (.node 29 (.leaf 28 (m1 (Iy lp))) (.leaf 29 (m1 (Iu lp)))) (.node 31 (.leaf 30 (fJ lp 30 Tryz.f30 M2)) (.leaf 31 (m1 (Ij lp))))) (.node 34 (.node 33 (.leaf 32 (m2 (Ik lp))) (.leaf 33 (m2 (IU lp)))) (.node 36 (.leaf 34 (m1 (H3 lp))) (.node 37 (.leaf 36 (m2 (IA lp))) (.leaf 37 (m2 (Ip lp))))))) (.node 45 (.node 42 (.node 40 (.leaf 38 (m2 (Iq lp))) (.leaf 40 (m2 (IC lp)))) (.node 43 (.leaf 42 (m2 (Ie lp))) (.node 44 (.leaf 43 (fJ lp 43 Tryz.f43 M3)) (.leaf 44 (pC lp))))) (.node 47 (.node 46 (.leaf 45 (m1 (GE lp))) (.leaf 46 (m2 (IL lp)))) (.node 48 (.leaf 47 (m1 (IV lp))) (.node 49 (.leaf 48 (m1 (IG lp))) (.leaf 49 (fJ lp 49 Tryz.f49 Nq)))))))) (.node 74 (.node 63 (.node 57 (.node 53 (.node 52 (.leaf 51 (m2 (Np lp))) (.leaf 52 (m1 (Ib lp)))) (.node 54 (.leaf 53 (m2 (IQ lp))) (.leaf 54 (m1 (H6 lp))))) (.node 59 (.node 58 (.leaf 57 (m2 (IM lp))) (.leaf 58 (m1 (H7 lp)))) (.node 61 (.leaf 59 (m2 (GZ lp))) (.node 62 (.leaf 61 (m2 (IK lp))) (.leaf 62 (m2 (IX lp))))))) (.node 69 (.node 65 (.node 64 (.leaf 63 (m1 (IW lp))) (.leaf 64 (m2 (H5 lp)))) (.node 66 (.leaf 65 (m2 (H1 lp))) (.node 68 (.leaf 66 (m2 (IS lp))) (.leaf 68 (m1 (Il lp)))))) (.node 71 (.node 70 (.leaf 69 (m3 (IZ lp))) (.leaf 70 (m1 (H4 lp)))) (.node 72 (.leaf 71 (fJ lp 71 Tryz.f71 .leaf)) (.node 73 (.leaf 72 (fJ lp 72 Tryz.f72 M6)) (.leaf 73 (fJ lp 73 Tryz.f73 MU))))))) (.node 83 (.node 78 (.node 76 (.node 75 (.leaf 74 (fJ lp 74 Tryz.f74 .leaf)) (.leaf 75 (m1 (Iv lp)))) (.node 77 (.leaf 76 (m1 (II lp))) (.leaf 77 (m1 (Ig lp))))) (.node 80 (.node 79 (.leaf 78 (m2 (I0 lp))) (.leaf 79 (m2 (Io lp)))) (.node 81 (.leaf 80 (m1 (Id lp))) (.node 82 (.leaf 81 (m2 (G0 lp))) (.leaf 82 (m2 (Ii lp))))))) (.node 88 (.node 85 (.node 84 (.leaf 83 (m1 (IP lp))) (.leaf 84 (fJ lp 84 Tryz.f84 .leaf))) (.node 86 (.leaf 85 (m2 (HT lp))) (.node 87 (.leaf 86 (m1 (HX lp))) (.leaf 87 (m2 (HH lp)))))) (.node 90 (.node 89 (.leaf 88 (m1 (Ic lp))) (.leaf 89 (m2 (GN lp)))) (.node 91 (.leaf 90 (fJ lp 90 Tryz.f90 M4)) (.node 94 (.leaf 91 (m2 (IE lp))) (.leaf 94 (m2 (Nd lp)))))))))) (.node 137 (.node 118 (.node 107 (.node 101 (.node 98 (.node 97 (.leaf 96 (m3 (IJ lp))) (.leaf 97 (m1 (IY lp)))) (.node 100 (.leaf 98 (m2 (IB lp))) (.leaf 100 (m2 (CZ lp))))) (.node 104 (.node 103 (.leaf 101 (m2 (CJ lp))) (.leaf 103 (m2 (C5 lp)))) (.node 105 (.leaf 104 (m3 (DM lp))) (.node 106 (.leaf 105 (m2 (Ek lp))) (.leaf 106 (m3 (DJ lp))))))) (.node 111 (.node 109 (.node 108 (.leaf 107 (m2 (EL lp))) (.leaf 108 (m2 (EZ lp)))) (.node 110 (.leaf 109 (m3 (EV lp))) (.leaf 110 (m2 (C2 lp))))) (.node 115 (.node 112 (.leaf 111 (m3 (D7 lp))) (.leaf 112 (m2 (Dl lp)))) (.node 116 (.leaf 115 (m1 (EP lp))) (.node 117 (.leaf 116 (m2 (Dn lp))) (.leaf 117 (m2 (DY lp)))))))) (.node 127 (.node 122 (.node 120 (.node 119 (.leaf 118 (m1 (Dc lp))) (.leaf 119 (m0 (Dv lp)))) (.node 121 (.leaf 120 (m2 (Dr lp))) (.leaf 121 (m2 (Ei lp))))) (.node 124 (.node 123 (.leaf 122 (m2 (DK lp))) (.leaf 123 (m2 (Di lp)))) (.node 125 (.leaf 124 (m1 (A3 lp))) (.node 126 (.leaf 125 (m0 (Dz lp))) (.leaf 126 (m2 (CX lp))))))) (.node 132 (.node 129 (.node 128 (.leaf 127 (m1 (C0 lp))) (.leaf 128 (m1 (D2 lp)))) (.node 130 (.leaf 129 (m1 (EY lp))) (.node 131 (.leaf 130 (fJ lp 130 Tryz.f130 .leaf)) (.leaf 131 (m2 (Eu lp)))))) (.node 134 (.node 133 (.leaf 132 (m2 (Do lp))) (.leaf 133 (m0 (DA lp)))) (.node 135 (.leaf 134 (fJ lp 134 Tryz.f134 G8)) (.node 136 (.leaf 135 (fJ lp 135 Tryz.f135 Hc)) (.leaf 136 (fJ lp 136 Tryz.f136 .leaf)))))))) (.node 169 (.node 146 (.node 141 (.node 139 (.node 138 (.leaf 137 (fJ lp 137 Tryz.f137 .leaf)) (.leaf 138 (fJ lp 138 Tryz.f138 HS))) (.node 140 (.leaf 139 (m1 (Er lp))) (.leaf 140 (m1 (Dk lp))))) (.node 143 (.node 142 (.leaf 141 (m2 (Du lp))) (.leaf 142 (m1 (Ey lp)))) (.node 144 (.leaf 143 (m2 (Ds lp))) (.node 145 (.leaf 144 (m2 (CV lp))) (.leaf 145 (m1 (EM lp))))))) (.node 155 (.node 148 (.node 147 (.leaf 146 (m2 (EI lp))) (.leaf 147 (m2 (EB lp)))) (.node 152 (.leaf 148 (m1 (EX lp))) (.node 154 (.leaf 152 (m2 (E3 lp))) (.leaf 154 (m2 (C9 lp)))))) (.node 165 (.node 156 (.leaf 155 (m1 (Da lp))) (.leaf 156 (m5 (Dw lp)))) (.node 167 (.leaf 165 (m1 (De lp))) (.node 168 (.leaf 167 (m1 (Ee lp))) (.leaf 168 (m2 (DE lp)))))))) (.node 188 (.node 173 (.node 171 (.node 170 (.leaf 169 (fJ lp 169 Tryz.f169 .leaf)) (.leaf 170 (m2 (DS lp)))) (.node 172 (.leaf 171 (m1 (E8 lp))) (.leaf 172 (m2 (DX lp))))) (.node 175 (.node 174 (.leaf 173 (fJ lp 173 Tryz.f173 GX)) (.leaf 174 (fJ lp 174 Tryz.f174 Hr))) (.node 186 (.leaf 175 (m2 (CU lp))) (.node 187 (.leaf 186 (m1 (Eo lp))) (.leaf 187 (m1 (Es lp))))))) (.node 201 (.node 195 (.node 194 (.leaf 188 (m2 (EJ lp))) (.leaf 194 (m1 (El lp)))) (.node 196 (.leaf 195 (m2 (DC lp))) (.node 197 (.leaf 196 (m1 (Eh lp))) (.leaf 197 (m2 (DO lp)))))) (.node 203 (.node 202 (.leaf 201 (m2 (ER lp))) (.leaf 202 (m1 (Aa lp)))) (.node 215 (.leaf 203 (fJ lp 203 Tryz.f203 Ha)) (.node 217 (.leaf 215 (m1 (D5 lp))) (.leaf 217 (m1 (E5 lp))))))))))
theorem E6{lp:Lp}(hlp:ap lp)(h44:ac 44 (pC lp)):(GU lp).ok:=⟨⟨⟨⟨⟨⟨⟨L5 hlp,OF hlp⟩,⟨QN hlp,NZ hlp⟩⟩,⟨⟨Qh hlp,Pj hlp⟩,⟨NV hlp,⟨O2 hlp,QM hlp⟩⟩⟩⟩,⟨⟨⟨PR hlp,N6 hlp⟩,⟨PH hlp,O5 hlp⟩⟩,⟨⟨Od hlp,PQ hlp⟩,⟨Oz hlp,⟨Ol hlp,PX hlp⟩⟩⟩⟩⟩,⟨⟨⟨⟨Qk hlp,PG hlp⟩,⟨Nv hlp,Og hlp⟩⟩,⟨⟨Pw hlp,P4 hlp⟩,⟨QX hlp,⟨Qb hlp,Qq hlp⟩⟩⟩⟩,⟨⟨⟨N7 hlp,Oj hlp⟩,⟨PL hlp,⟨Of hlp,h44⟩⟩⟩,⟨⟨Ok hlp,OQ hlp⟩,⟨OO hlp,⟨NL hlp,N8 hlp⟩⟩⟩⟩⟩⟩,⟨⟨⟨⟨⟨Oq hlp,Nu hlp⟩,⟨Qd hlp,Qi hlp⟩⟩,⟨⟨NT hlp,Pi hlp⟩,⟨Qr hlp,⟨Qj hlp,NM hlp⟩⟩⟩⟩,⟨⟨⟨NW hlp,QQ hlp⟩,⟨PT hlp,⟨O0 hlp,QH hlp⟩⟩⟩,⟨⟨O8 hlp,PF hlp⟩,⟨PY hlp,⟨NP hlp,OC hlp⟩⟩⟩⟩⟩,⟨⟨⟨⟨OK hlp,Pe hlp⟩,⟨NO hlp,P9 hlp⟩⟩,⟨⟨NY hlp,Qc hlp⟩,⟨OY hlp,⟨Ov hlp,OH hlp⟩⟩⟩⟩,⟨⟨⟨P3 hlp,Py hlp⟩,⟨PP hlp,⟨NQ hlp,Ot hlp⟩⟩⟩,⟨⟨Qo hlp,QS hlp⟩,⟨Qy hlp,⟨QW hlp,Nx hlp⟩⟩⟩⟩⟩⟩⟩,⟨⟨⟨⟨⟨⟨Ou hlp,NX hlp⟩,⟨Qv hlp,Kz hlp⟩⟩,⟨⟨Lv hlp,Ld hlp⟩,⟨Km hlp,⟨Lw hlp,Lj hlp⟩⟩⟩⟩,⟨⟨⟨Jd hlp,Kx hlp⟩,⟨LJ hlp,Ku hlp⟩⟩,⟨⟨Je hlp,J1 hlp⟩,⟨JU hlp,⟨Kl hlp,Ki hlp⟩⟩⟩⟩⟩,⟨⟨⟨⟨KM hlp,LU hlp⟩,⟨MD hlp,I1 hlp⟩⟩,⟨⟨Jw hlp,JE hlp⟩,⟨LW hlp,⟨KY hlp,Lf hlp⟩⟩⟩⟩,⟨⟨⟨KX hlp,MR hlp⟩,⟨Lx hlp,⟨JS hlp,Jn hlp⟩⟩⟩,⟨⟨Ma hlp,Mc hlp⟩,⟨KK hlp,⟨KU hlp,JH hlp⟩⟩⟩⟩⟩⟩,⟨⟨⟨⟨⟨JI hlp,I6 hlp⟩,⟨Ms hlp,JA hlp⟩⟩,⟨⟨LK hlp,KN hlp⟩,⟨Lg hlp,⟨Mz hlp,Mq hlp⟩⟩⟩⟩,⟨⟨⟨Lo hlp,Ja hlp⟩,⟨I8 hlp,⟨Lt hlp,Ls hlp⟩⟩⟩,⟨⟨Kw hlp,Kv hlp⟩,⟨MJ hlp,⟨J9 hlp,Mg hlp⟩⟩⟩⟩⟩,⟨⟨⟨⟨Jc hlp,JW hlp⟩,⟨MO hlp,Ll hlp⟩⟩,⟨⟨KL hlp,JC hlp⟩,⟨MK hlp,⟨Ka hlp,Jj hlp⟩⟩⟩⟩,⟨⟨⟨Mt hlp,MH hlp⟩,⟨L7 hlp,⟨LV hlp,MM hlp⟩⟩⟩,⟨⟨Lm hlp,KJ hlp⟩,⟨MN hlp,⟨KI hlp,Lb hlp⟩⟩⟩⟩⟩⟩⟩⟩
noncomputable def vM(lp:Lp):Nat->Nat->List D->Option D
 | 0=>fun _ _=>none
 | n+1=>fun f xs=>(GU lp).get f (vM lp n) xs
theorem qD{lp:Lp}(hlp:ap lp)(h44:ac 44 (pC lp)):∀ n,js Tryz.prog (vM lp n)
 | 0=>fun f ptys rty xs y _ h _=>by cases h
 | n+1=>CT.get_ok (E6 hlp h44) (qD hlp h44 n)
end Go.Proofs.YtjjjkojfijpeeaaGreat.Sy
end
section
set_option maxRecDepth 100000
set_option maxHeartbeats 0
namespace Go.Proofs.YtjjjkojfijpeeaaGreat.Sy
open Go Go.Proofs
noncomputable def MZ(N:Nat):Lp:=fun{α β} body=>mf (α:=α) (β:=β) body N
theorem xj:vM (MZ 2000) 20 10 []=some (.bool true):=by kernel_rfl
end Go.Proofs.YtjjjkojfijpeeaaGreat.Sy
end
section
set_option maxRecDepth 20000
namespace Go.Proofs.YtjjjkojfijpeeaaGreat.Sy
open Go Go.Proofs
noncomputable def aY:Lp:=fun{α β} body=>j4 (α:=α) (β:=β) body
noncomputable def cA(n:Nat):Nat->List D->Option D:=vM aY n
theorem u5(n:Nat)(a0:D):cA (n+1) 5 [a0]=F5 aY (cA n) a0:=by kernel_rfl
theorem G7(n:Nat)(a0:D):cA (n+1) 12 [a0]=GC aY (cA n) a0:=by kernel_rfl
theorem PB(n:Nat)(a0 a1:D):cA (n+1) 13 [a0,a1]=If aY (cA n) a0 a1:=by kernel_rfl
theorem QE(n:Nat)(a0:D):cA (n+1) 15 [a0]=IN aY (cA n) a0:=by kernel_rfl
theorem PJ(n:Nat)(a0:D):cA (n+1) 16 [a0]=Ia aY (cA n) a0:=by kernel_rfl
theorem Qz(n:Nat)(a0:D):cA (n+1) 18 [a0]=Im aY (cA n) a0:=by kernel_rfl
theorem P2(n:Nat)(a0:D):cA (n+1) 19 [a0]=IH aY (cA n) a0:=by kernel_rfl
theorem NC(n:Nat)(a0:D):cA (n+1) 23 [a0]=HY aY (cA n) a0:=by kernel_rfl
theorem ON(n:Nat)(a0:D):cA (n+1) 24 [a0]=IR aY (cA n) a0:=by kernel_rfl
theorem Qm(n:Nat)(a0:D):cA (n+1) 25 [a0]=Iz aY (cA n) a0:=by kernel_rfl
theorem Qn(n:Nat)(a0:D):cA (n+1) 26 [a0]=It aY (cA n) a0:=by kernel_rfl
theorem PM(n:Nat)(a0 a1:D):cA (n+1) 27 [a0,a1]=H0 aY (cA n) a0 a1:=by kernel_rfl
theorem NR(n:Nat)(a0:D):cA (n+1) 28 [a0]=Iy aY (cA n) a0:=by kernel_rfl
theorem PW(n:Nat)(a0:D):cA (n+1) 29 [a0]=Iu aY (cA n) a0:=by kernel_rfl
theorem QB(n:Nat)(a0:D):cA (n+1) 31 [a0]=Ij aY (cA n) a0:=by kernel_rfl
theorem u32(n:Nat)(a0 a1:D):cA (n+1) 32 [a0,a1]=Ik aY (cA n) a0 a1:=by kernel_rfl
theorem P5(n:Nat)(a0 a1:D):cA (n+1) 33 [a0,a1]=IU aY (cA n) a0 a1:=by kernel_rfl
theorem P0(n:Nat)(a0:D):cA (n+1) 34 [a0]=H3 aY (cA n) a0:=by kernel_rfl
theorem OM(n:Nat)(a0 a1:D):cA (n+1) 36 [a0,a1]=IA aY (cA n) a0 a1:=by kernel_rfl
theorem OR(n:Nat)(a0 a1:D):cA (n+1) 37 [a0,a1]=Ip aY (cA n) a0 a1:=by kernel_rfl
theorem Qf(n:Nat)(a0 a1:D):cA (n+1) 38 [a0,a1]=Iq aY (cA n) a0 a1:=by kernel_rfl
theorem Nw(n:Nat)(a0 a1:D):cA (n+1) 40 [a0,a1]=IC aY (cA n) a0 a1:=by kernel_rfl
theorem QO(n:Nat)(a0 a1:D):cA (n+1) 42 [a0,a1]=Ie aY (cA n) a0 a1:=by kernel_rfl
theorem Nt(n:Nat)(a0:D):cA (n+1) 45 [a0]=GE aY (cA n) a0:=by kernel_rfl
theorem PU(n:Nat)(a0 a1:D):cA (n+1) 46 [a0,a1]=IL aY (cA n) a0 a1:=by kernel_rfl
theorem OI(n:Nat)(a0:D):cA (n+1) 47 [a0]=IV aY (cA n) a0:=by kernel_rfl
theorem NA(n:Nat)(a0:D):cA (n+1) 48 [a0]=IG aY (cA n) a0:=by kernel_rfl
theorem Pg(n:Nat)(a0:D):cA (n+1) 52 [a0]=Ib aY (cA n) a0:=by kernel_rfl
theorem PI(n:Nat)(a0 a1:D):cA (n+1) 53 [a0,a1]=IQ aY (cA n) a0 a1:=by kernel_rfl
theorem NF(n:Nat)(a0:D):cA (n+1) 54 [a0]=H6 aY (cA n) a0:=by kernel_rfl
theorem Pb(n:Nat)(a0 a1:D):cA (n+1) 57 [a0,a1]=IM aY (cA n) a0 a1:=by kernel_rfl
theorem PC(n:Nat)(a0:D):cA (n+1) 58 [a0]=H7 aY (cA n) a0:=by kernel_rfl
theorem M5(n:Nat)(a0 a1:D):cA (n+1) 59 [a0,a1]=GZ aY (cA n) a0 a1:=by kernel_rfl
theorem OV(n:Nat)(a0 a1:D):cA (n+1) 61 [a0,a1]=IK aY (cA n) a0 a1:=by kernel_rfl
theorem QY(n:Nat)(a0 a1:D):cA (n+1) 62 [a0,a1]=IX aY (cA n) a0 a1:=by kernel_rfl
theorem Om(n:Nat)(a0:D):cA (n+1) 63 [a0]=IW aY (cA n) a0:=by kernel_rfl
theorem u64(n:Nat)(a0 a1:D):cA (n+1) 64 [a0,a1]=H5 aY (cA n) a0 a1:=by kernel_rfl
theorem O4(n:Nat)(a0 a1:D):cA (n+1) 65 [a0,a1]=H1 aY (cA n) a0 a1:=by kernel_rfl
theorem NE(n:Nat)(a0 a1:D):cA (n+1) 66 [a0,a1]=IS aY (cA n) a0 a1:=by kernel_rfl
theorem OS(n:Nat)(a0:D):cA (n+1) 68 [a0]=Il aY (cA n) a0:=by kernel_rfl
theorem OE(n:Nat)(a0 a1 a2:D):cA (n+1) 69 [a0,a1,a2]=IZ aY (cA n) a0 a1 a2:=by kernel_rfl
theorem Pk(n:Nat)(a0:D):cA (n+1) 70 [a0]=H4 aY (cA n) a0:=by kernel_rfl
theorem Pr(n:Nat)(a0:D):cA (n+1) 75 [a0]=Iv aY (cA n) a0:=by kernel_rfl
theorem QJ(n:Nat)(a0:D):cA (n+1) 76 [a0]=II aY (cA n) a0:=by kernel_rfl
theorem OP(n:Nat)(a0:D):cA (n+1) 77 [a0]=Ig aY (cA n) a0:=by kernel_rfl
theorem QP(n:Nat)(a0 a1:D):cA (n+1) 78 [a0,a1]=I0 aY (cA n) a0 a1:=by kernel_rfl
theorem OL(n:Nat)(a0 a1:D):cA (n+1) 79 [a0,a1]=Io aY (cA n) a0 a1:=by kernel_rfl
theorem OX(n:Nat)(a0:D):cA (n+1) 80 [a0]=Id aY (cA n) a0:=by kernel_rfl
theorem MY(n:Nat)(a0 a1:D):cA (n+1) 81 [a0,a1]=G0 aY (cA n) a0 a1:=by kernel_rfl
theorem P8(n:Nat)(a0 a1:D):cA (n+1) 82 [a0,a1]=Ii aY (cA n) a0 a1:=by kernel_rfl
theorem N3(n:Nat)(a0:D):cA (n+1) 83 [a0]=IP aY (cA n) a0:=by kernel_rfl
theorem Nn(n:Nat)(a0 a1:D):cA (n+1) 85 [a0,a1]=HT aY (cA n) a0 a1:=by kernel_rfl
theorem Oy(n:Nat)(a0:D):cA (n+1) 86 [a0]=HX aY (cA n) a0:=by kernel_rfl
theorem M0(n:Nat)(a0 a1:D):cA (n+1) 87 [a0,a1]=HH aY (cA n) a0 a1:=by kernel_rfl
theorem N9(n:Nat)(a0:D):cA (n+1) 88 [a0]=Ic aY (cA n) a0:=by kernel_rfl
theorem Nh(n:Nat)(a0 a1:D):cA (n+1) 89 [a0,a1]=GN aY (cA n) a0 a1:=by kernel_rfl
theorem N5(n:Nat)(a0 a1:D):cA (n+1) 91 [a0,a1]=IE aY (cA n) a0 a1:=by kernel_rfl
theorem OG(n:Nat)(a0 a1 a2:D):cA (n+1) 96 [a0,a1,a2]=IJ aY (cA n) a0 a1 a2:=by kernel_rfl
theorem Pm(n:Nat)(a0:D):cA (n+1) 97 [a0]=IY aY (cA n) a0:=by kernel_rfl
theorem Pa(n:Nat)(a0 a1:D):cA (n+1) 98 [a0,a1]=IB aY (cA n) a0 a1:=by kernel_rfl
theorem LF(n:Nat)(a0 a1:D):cA (n+1) 100 [a0,a1]=CZ aY (cA n) a0 a1:=by kernel_rfl
theorem MC(n:Nat)(a0 a1:D):cA (n+1) 101 [a0,a1]=CJ aY (cA n) a0 a1:=by kernel_rfl
theorem LS(n:Nat)(a0 a1:D):cA (n+1) 103 [a0,a1]=C5 aY (cA n) a0 a1:=by kernel_rfl
theorem KV(n:Nat)(a0 a1 a2:D):cA (n+1) 104 [a0,a1,a2]=DM aY (cA n) a0 a1 a2:=by kernel_rfl
theorem KD(n:Nat)(a0 a1:D):cA (n+1) 105 [a0,a1]=Ek aY (cA n) a0 a1:=by kernel_rfl
theorem Ml(n:Nat)(a0 a1 a2:D):cA (n+1) 106 [a0,a1,a2]=DJ aY (cA n) a0 a1 a2:=by kernel_rfl
theorem Kg(n:Nat)(a0 a1:D):cA (n+1) 107 [a0,a1]=EL aY (cA n) a0 a1:=by kernel_rfl
theorem KB(n:Nat)(a0 a1:D):cA (n+1) 108 [a0,a1]=EZ aY (cA n) a0 a1:=by kernel_rfl
theorem My(n:Nat)(a0 a1 a2:D):cA (n+1) 109 [a0,a1,a2]=EV aY (cA n) a0 a1 a2:=by kernel_rfl
theorem Ln(n:Nat)(a0 a1:D):cA (n+1) 110 [a0,a1]=C2 aY (cA n) a0 a1:=by kernel_rfl
theorem Jy(n:Nat)(a0 a1 a2:D):cA (n+1) 111 [a0,a1,a2]=D7 aY (cA n) a0 a1 a2:=by kernel_rfl
theorem I7(n:Nat)(a0 a1:D):cA (n+1) 112 [a0,a1]=Dl aY (cA n) a0 a1:=by kernel_rfl
theorem JD(n:Nat)(a0:D):cA (n+1) 115 [a0]=EP aY (cA n) a0:=by kernel_rfl
theorem Mi(n:Nat)(a0 a1:D):cA (n+1) 116 [a0,a1]=Dn aY (cA n) a0 a1:=by kernel_rfl
theorem Mw(n:Nat)(a0 a1:D):cA (n+1) 117 [a0,a1]=DY aY (cA n) a0 a1:=by kernel_rfl
theorem KR(n:Nat)(a0:D):cA (n+1) 118 [a0]=Dc aY (cA n) a0:=by kernel_rfl
theorem J6(n:Nat):cA (n+1) 119 []=Dv aY (cA n) :=by kernel_rfl
theorem LO(n:Nat)(a0 a1:D):cA (n+1) 120 [a0,a1]=Dr aY (cA n) a0 a1:=by kernel_rfl
theorem JV(n:Nat)(a0 a1:D):cA (n+1) 121 [a0,a1]=Ei aY (cA n) a0 a1:=by kernel_rfl
theorem LI(n:Nat)(a0 a1:D):cA (n+1) 122 [a0,a1]=DK aY (cA n) a0 a1:=by kernel_rfl
theorem MA(n:Nat)(a0 a1:D):cA (n+1) 123 [a0,a1]=Di aY (cA n) a0 a1:=by kernel_rfl
theorem G4(n:Nat)(a0:D):cA (n+1) 124 [a0]=A3 aY (cA n) a0:=by kernel_rfl
theorem L1(n:Nat):cA (n+1) 125 []=Dz aY (cA n) :=by kernel_rfl
theorem Jf(n:Nat)(a0 a1:D):cA (n+1) 126 [a0,a1]=CX aY (cA n) a0 a1:=by kernel_rfl
theorem Lc(n:Nat)(a0:D):cA (n+1) 127 [a0]=C0 aY (cA n) a0:=by kernel_rfl
theorem Jg(n:Nat)(a0:D):cA (n+1) 128 [a0]=D2 aY (cA n) a0:=by kernel_rfl
theorem MF(n:Nat)(a0:D):cA (n+1) 129 [a0]=EY aY (cA n) a0:=by kernel_rfl
theorem LL(n:Nat)(a0 a1:D):cA (n+1) 131 [a0,a1]=Eu aY (cA n) a0 a1:=by kernel_rfl
theorem J4(n:Nat)(a0 a1:D):cA (n+1) 132 [a0,a1]=Do aY (cA n) a0 a1:=by kernel_rfl
theorem I2(n:Nat):cA (n+1) 133 []=DA aY (cA n) :=by kernel_rfl
theorem LG(n:Nat)(a0:D):cA (n+1) 139 [a0]=Er aY (cA n) a0:=by kernel_rfl
theorem JY(n:Nat)(a0:D):cA (n+1) 140 [a0]=Dk aY (cA n) a0:=by kernel_rfl
theorem Le(n:Nat)(a0 a1:D):cA (n+1) 141 [a0,a1]=Du aY (cA n) a0 a1:=by kernel_rfl
theorem JK(n:Nat)(a0:D):cA (n+1) 142 [a0]=Ey aY (cA n) a0:=by kernel_rfl
theorem KC(n:Nat)(a0 a1:D):cA (n+1) 143 [a0,a1]=Ds aY (cA n) a0 a1:=by kernel_rfl
theorem Js(n:Nat)(a0 a1:D):cA (n+1) 144 [a0,a1]=CV aY (cA n) a0 a1:=by kernel_rfl
theorem Ju(n:Nat)(a0:D):cA (n+1) 145 [a0]=EM aY (cA n) a0:=by kernel_rfl
theorem LC(n:Nat)(a0 a1:D):cA (n+1) 146 [a0,a1]=EI aY (cA n) a0 a1:=by kernel_rfl
theorem L9(n:Nat)(a0 a1:D):cA (n+1) 147 [a0,a1]=EB aY (cA n) a0 a1:=by kernel_rfl
theorem KA(n:Nat)(a0:D):cA (n+1) 148 [a0]=EX aY (cA n) a0:=by kernel_rfl
theorem L4(n:Nat)(a0 a1:D):cA (n+1) 152 [a0,a1]=E3 aY (cA n) a0 a1:=by kernel_rfl
theorem Jb(n:Nat)(a0 a1:D):cA (n+1) 154 [a0,a1]=C9 aY (cA n) a0 a1:=by kernel_rfl
theorem Kc(n:Nat)(a0:D):cA (n+1) 155 [a0]=Da aY (cA n) a0:=by kernel_rfl
theorem JB(n:Nat)(a0 a1 a2 a3 a4:D):cA (n+1) 156 [a0,a1,a2,a3,a4]=Dw aY (cA n) a0 a1 a2 a3 a4:=by kernel_rfl
theorem ML(n:Nat)(a0:D):cA (n+1) 165 [a0]=De aY (cA n) a0:=by kernel_rfl
theorem Ke(n:Nat)(a0:D):cA (n+1) 167 [a0]=Ee aY (cA n) a0:=by kernel_rfl
theorem L8(n:Nat)(a0 a1:D):cA (n+1) 168 [a0,a1]=DE aY (cA n) a0 a1:=by kernel_rfl
theorem J8(n:Nat)(a0 a1:D):cA (n+1) 170 [a0,a1]=DS aY (cA n) a0 a1:=by kernel_rfl
theorem JQ(n:Nat)(a0:D):cA (n+1) 171 [a0]=E8 aY (cA n) a0:=by kernel_rfl
theorem KG(n:Nat)(a0 a1:D):cA (n+1) 172 [a0,a1]=DX aY (cA n) a0 a1:=by kernel_rfl
theorem JZ(n:Nat)(a0 a1:D):cA (n+1) 175 [a0,a1]=CU aY (cA n) a0 a1:=by kernel_rfl
theorem Mu(n:Nat)(a0:D):cA (n+1) 186 [a0]=Eo aY (cA n) a0:=by kernel_rfl
theorem Mp(n:Nat)(a0:D):cA (n+1) 187 [a0]=Es aY (cA n) a0:=by kernel_rfl
theorem Jo(n:Nat)(a0 a1:D):cA (n+1) 188 [a0,a1]=EJ aY (cA n) a0 a1:=by kernel_rfl
theorem Jk(n:Nat)(a0:D):cA (n+1) 194 [a0]=El aY (cA n) a0:=by kernel_rfl
theorem I9(n:Nat)(a0 a1:D):cA (n+1) 195 [a0,a1]=DC aY (cA n) a0 a1:=by kernel_rfl
theorem LQ(n:Nat)(a0:D):cA (n+1) 196 [a0]=Eh aY (cA n) a0:=by kernel_rfl
theorem LT(n:Nat)(a0 a1:D):cA (n+1) 197 [a0,a1]=DO aY (cA n) a0 a1:=by kernel_rfl
theorem I5(n:Nat)(a0 a1:D):cA (n+1) 201 [a0,a1]=ER aY (cA n) a0 a1:=by kernel_rfl
theorem LH(n:Nat)(a0:D):cA (n+1) 202 [a0]=Aa aY (cA n) a0:=by kernel_rfl
theorem Jp(n:Nat)(a0:D):cA (n+1) 215 [a0]=D5 aY (cA n) a0:=by kernel_rfl
theorem Kd(n:Nat)(a0:D):cA (n+1) 217 [a0]=E5 aY (cA n) a0:=by kernel_rfl
end Go.Proofs.YtjjjkojfijpeeaaGreat.Sy
end
