/- Part 6 of the proof that PlaneNoPointOnBothSides answers true at every input -/
import Derived.Test.YtphlmegkommlnaaGreatDoorNopo01
import Derived.Test.YtphlmegkommlnaaGreatDoorNopo02
import Derived.Test.YtphlmegkommlnaaGreatDoorNopo05
import Derived.Shelf.SlSortCmp.InsertionK
import Derived.ProofKit
import Derived.Carry
import Derived.Test.YtphlmegkommlnaaGreatDoorProg
import Derived.KernelRfl
set_option linter.unusedVariables false
set_option linter.unusedSimpArgs false
set_option linter.unnecessarySimpa false
set_option linter.defProp false
set_option maxRecDepth 20000
namespace Go.Proofs.YtphlmegkommlnaaGreatDoor
noncomputable section
namespace Sy
open Go Go.Proofs Go.Sort Go.Lib
def uo(E:Env)(g:Nat)(x y:D):Option Int:=(E.call g [x,y]).bind λr=>match r with|.int .i64 n=>some n|_=>none
def rP(E:Env)(g:Nat)(x y:D):Bool:=match uo E g x y with|some n=>decide (n<0)|none=>false
def GD(E:Env)(g:Nat)(x y:D):Bool:=match uo E g x y with|some n=>decide (0<=n)|none=>false
def CH(lt:D->D->Bool)(x:D):List D->List D
 | []=>[x]
 | y::l=>if lt x y then x::y::l else y::CH lt x l
def mb(lt:D->D->Bool):List D->List D
 | []=>[]
 | x::l=>CH lt x (mb lt l)
def tB(E:Env)(g:Nat):List D->Bool
 | []=>true
 | x::l=>GD E g x x&&l.all (λy=>rP E g x y&&GD E g y x)&&tB E g l
def jZ(E:Env)(g:Nat)(l:List D):Option (List D):=if tB E g (mb (rP E g) l) then some (mb (rP E g) l) else none
theorem rK(lt:D->D->Bool)(x:D):∀ l:List D,(CH lt x l).Perm (x::l)
 | []=>.refl _
 | y::l=>by
  simp only[CH];split
  ·exact .refl _
  ·exact((rK lt x l).cons y).trans (.swap x y l)
theorem gW(lt:D->D->Bool):∀ l:List D,(mb lt l).Perm l
 | []=>.refl _
 | x::l=>(rK lt x _).trans ((gW lt l).cons x)
section
variable{E:Env}{g:Nat}
theorem kq:∀ {l:List D},tB E g l=true->l.Pairwise (λx y=>rP E g x y=true/\GD E g y x=true)/\∀ x∈l,GD E g x x=true
 | [],_=>⟨.nil,by simp⟩
 | x::l,h=>by
  simp only[tB,zaa,zma] at h;obtain⟨⟨h1,b⟩,c⟩:=h;obtain⟨d,e⟩:=kq c;exact⟨zFa.2 ⟨b,d⟩,λy a=>by
   rcases zwa.1 a with rfl|a
   ·exact h1
   ·exact e y a⟩
def HV{x y:D}(h:GD E g x y=true):rP E g x y=false:=by
 unfold GD at h;unfold rP;split at h
 ·rename_i n hn;simp only[decide_eq_true_eq] at h;simp only[decide_eq_false_iff_not];omega
 ·cases h
def Pn{x y:D}(h:rP E g x y=true\/GD E g x y=true):∃ n,uo E g x y=some n:=by
 rcases h with h|h
 ·unfold rP at h;split at h
  ·exact⟨_,by assumption⟩
  ·cases h
 ·unfold GD at h;split at h
  ·exact⟨_,by assumption⟩
  ·cases h
variable{l:List D}(hc:tB E g l=true)
include hc
def fl{i j:Nat}{x y:D}(d:l[i]?=some x)(e:l[j]?=some y):(rP E g x y=true↔i<j)/\∃ n,uo E g x y=some n:=by
 obtain⟨h1,c⟩:=kq hc;obtain⟨a,rfl⟩:=zka.1 d;obtain⟨b,rfl⟩:=zka.1 e;rcases zrd i j with k|k|k
 ·have:=zJb.1 h1 i j a b k;exact⟨⟨λ_=>k,λ_=>this.1⟩,Pn (.inl this.1)⟩
 ·subst k;have:=c _ (zza a);exact⟨⟨λh=>(by rw[HV this] at h;cases h),λh=>absurd h (Nat.lt_irrefl _)⟩,Pn (.inr this)⟩
 ·have:=zJb.1 h1 j i b a k;exact⟨⟨λh=>(by rw[HV this.2] at h;cases h),λh=>by omega⟩,Pn (.inr this.2)⟩
def wX:l.Nodup:=by
 obtain⟨h1,a⟩:=kq hc;refine h1.imp λ{x y} h e=>?_;subst e;rw[HV h.2] at h;cases h.1
def GC(E:Env)(g:Nat)(l:List D)(x y:{d:D // d∈l}):Int:=(uo E g x.1 y.1).getD 0
omit hc in
def Bc{x y:{d:D // d∈l}}:ltOf (GC E g l) x y=rP E g x.1 y.1:=by
 unfold ltOf GC rP;cases uo E g x.1 y.1<;>simp
def MZ:SWO (ltOf (GC E g l)):=by
 have f:∀ x:{d:D // d∈l},∃ i,l[i]?=some x.1:=λx=>by
  obtain⟨i,h1,m⟩:=zQa x.2;exact⟨i,by rw[zca h1,m]⟩
 have key:∀ (x y:{d:D // d∈l}) (i j:Nat),l[i]?=some x.1->l[j]?=some y.1->(ltOf (GC E g l) x y=true↔i<j):=λx y i j c e=>by rw[Bc];exact(fl hc c e).1
 refine⟨λx=>?_,λx y z h1 m=>?_,λx y z h1 m=>?_⟩
 ·obtain⟨i,c⟩:=f x;cases h:ltOf (GC E g l) x x with
  | false=>rfl
  | true=>exact absurd ((key x x i i c c).1 h) (Nat.lt_irrefl _)
 ·obtain⟨i,c⟩:=f x;obtain⟨j,e⟩:=f y;obtain⟨k,hk⟩:=f z;have a:=(key x y i j c e).1 h1;have b:=(key y z j k e hk).1 m;exact(key x z i k c hk).2 (by omega)
 ·obtain⟨i,c⟩:=f x;obtain⟨j,e⟩:=f y;obtain⟨k,hk⟩:=f z;have a:¬ i<j:=λh=>by rw[(key x y i j c e).2 h] at h1;cases h1
  have b:¬ j<k:=λh=>by rw[(key y z j k e hk).2 h] at m;cases m
  cases h:ltOf (GC E g l) x z with
  | false=>rfl
  | true=>have:=(key x z i k c hk).1 h;omega
def Gj[Inhabited {d:D // d∈l}]{d d':Array {d:D // d∈l}}(N:(d.toList.map (·.1)).Perm l)(hp:PermIn 0 d.size d d')(O:SortedIn (ltOf (GC E g l)) 0 d.size d'):d'.toList.map (·.1)=l:=by
 obtain⟨Q,_,G⟩:=hp;have q:d'.toList.Perm d.toList:=by
  have J:d'.extract 0 d.size=d':=by rw[<-Q];simp
  rw[J] at G;simpa using G
 have m:(d'.toList.map (·.1)).Perm l:=(q.map _).trans N;have hlen:(d'.toList.map (·.1)).length=l.length:=m.length_eq;have nd:=m.symm.nodup (wX hc);have n:(d'.toList.map (·.1)).Pairwise (λx y=>rP E g x y=true):=by
  rw[zJb];intro i j r u k;simp only[zsa,zNb] at r u;have h1:=O i j (zja _) k (by omega)
  rw[getElem!_pos d' j u,getElem!_pos d' i r,Bc] at h1;simp only[zDc,zFd];obtain⟨a,o,c⟩:=zQa (d'[i]).2;obtain⟨b,p,f⟩:=zQa (d'[j]).2;have A:l[a]?=some (d'[i]).1:=by rw[zca o,c]
  have B:l[b]?=some (d'[j]).1:=by rw[zca p,f]
  have R:¬ b<a:=λh=>by rw[(fl hc B A).1.2 h] at h1;cases h1
  have S:a≠b:=λe=>by
   subst e;have:(d'[i]).1=(d'[j]).1:=by rw[<-c,<-f]
   have:=zJb.1 nd i j (by simpa using r) (by simpa using u) k
   simp only[zDc,zFd] at this;contradiction
  exact(fl hc A B).1.2 (by omega)
 have key:∀ {a b:List D},a.Pairwise (λx y=>rP E g x y=true)->b.Pairwise (λx y=>rP E g x y=true)->a.Perm b->(∀ x∈a,x∈l)->a=b:=by
  intro a
  induction a with
  | nil=>intro b _ _ hp _;exact hp.symm.eq_nil.symm ▸ rfl
  | cons x a ih=>
   intro b L M hp hm;cases b with
   | nil=>exact absurd hp.eq_nil (by simp)
   | cons y b=>
    obtain⟨a1,a2⟩:=zFa.1 L;obtain⟨H,I⟩:=zFa.1 M;have e:x=y:=by
     rcases zwa.1 (hp.subset zoa) with e|m1
     ·exact e
     ·rcases zwa.1 (hp.symm.subset (zoa (a:=y))) with e|m2
      ·exact e.symm
      ·exfalso;have h1:=H x m1;have K:=a1 y m2;obtain⟨i,s,t⟩:=zQa (hm x zoa);obtain⟨j,v,w⟩:=zQa (hm y (zia _ m2));have C:l[i]?=some x:=by rw[zca s,t]
       have F:l[j]?=some y:=by rw[zca v,w]
       have:=(fl hc C F).1.1 K;have:=(fl hc F C).1.1 h1;omega
    subst e;rw[ih a2 I ((List.perm_cons x).1 hp) (λz P=>hm z (zia _ P))]
 exact key n ((kq hc).1.imp λh=>h.1) m λx hx=>m.subset hx
end
end Sy
end
noncomputable section
namespace Sy
open Go Go.Proofs Go.Sort Go.Lib
def sY:D->Bool
 | .int ..=>true
 | .bool _=>true
 | _=>false
def ge:D->Value
 | .int k n=>.int k n
 | .bool b=>.bool b
 | _=>undef
mutual
theorem kD:∀ (t:Ty) (x:D),bU t=true->wt t x->∀ d∈x.flat,sY d=true
 | .int k,x,_,h=>by simp only[wt] at h;obtain⟨n,rfl⟩:=h;intro d hd;simp only[D.flat,zDa] at hd;subst hd;rfl
 | .bool,x,_,h=>by simp only[wt] at h;obtain⟨n,rfl⟩:=h;intro d hd;simp only[D.flat,zDa] at hd;subst hd;rfl
 | .str,x,hc,h=>by simp[bU] at hc
 | .st ts,x,hc,h=>by
  simp only[wt] at h;obtain⟨l,rfl,hl⟩:=h;simp only[bU] at hc;simp only[D.flat];exact uX ts l hc hl
 | .arr n t,x,hc,h=>by
  simp only[wt] at h;obtain⟨l,rfl,hn,hl⟩:=h;clear hn;simp only[bU] at hc;simp only[D.flat]
  induction l with
  | nil=>intro d hd;simp[D.flats] at hd
  | cons y l ih=>
   intro d hd;simp only[D.flats,List.mem_append] at hd;rcases hd with hd|hd
   ·exact kD t y hc (hl y zoa) d hd
   ·exact ih (λz hz=>hl z (zia _ hz)) d hd
 | .sl t,x,hc,h=>by simp[bU] at hc
 | .tup l,x,hc,h=>by simp[bU] at hc
 | .fn,x,hc,h=>by simp[bU] at hc
theorem uX:∀ (ts:List Ty) (l:List D),mB ts=true->fI ts l->∀ d∈D.flats l,sY d=true
 | [],l,_,h=>by simp only[fI] at h;subst h;intro d hd;simp[D.flats] at hd
 | t::ts,l,hc,h=>by
  simp only[fI] at h;obtain⟨y,l',rfl,h1,h2⟩:=h;simp only[mB,zaa] at hc;intro d hd;simp only[D.flats,List.mem_append] at hd;rcases hd with hd|hd
  ·exact kD t y hc.1 h1 d hd
  ·exact uX ts l' hc.2 h2 d hd
end
def Dx{w:World}{S:Nat->Nat->Prop}{d:D}{c:Value}(hl:sY d=true):CR w S d c↔c=ge d:=by
 cases d<;>simp only[sY] at hl<;>first|(cases hl;done)|skip
 ·exact⟨λh=>h.int_inv,λh=>by subst h;exact .int _ _⟩
 ·exact⟨λh=>h.bool_inv,λh=>by subst h;exact .bool _⟩
def gh{w:World}{S:Nat->Nat->Prop}{e:List D}{cs:List Value}(hl:∀ d∈e,sY d=true):df w S e cs↔cs=e.map ge:=by
 constructor
 ·rintro⟨h1,g⟩;apply zmc;intro i;rw[z7a];rcases zla i e.length with k|k
  ·have a:=zca k;have b:cs[i]?=some cs[i]:=zca (h1 ▸ k);rw[a,b];simp only[zvb,zda];exact(Dx (hl _ (zza k))).1 (g i _ _ a b)
  ·rw[zbb k,zbb (by omega)];rfl
 ·rintro rfl;refine⟨by simp,λi d c f hc=>?_⟩
  rw[z7a,f] at hc;simp only[zvb,zda] at hc;exact(Dx (hl d (z4a f))).2 hc.symm
theorem xl{k:Nat}(hk:0<k):∀ (l:List D),(∀ x∈l,x.flat.length=k)->∀ t,(D.flats l)[t]?=(l[t/k]?).bind λx=>x.flat[t%k]?
 | [],_,t=>by simp[D.flats]
 | x::l,h,t=>by
  have hx:=h x zoa;simp only[D.flats];rcases zla t k with c|c
  ·rw[zkb (by omega),z2a c,zMa c];rfl
  ·rw[zEb (by omega),hx,xl hk l (λy d=>h y (zia _ d)) (t-k)]
   have a:t/k=(t-k)/k+1:=by rw[Nat.div_eq_sub_div hk c]
   have b:t%k=(t-k)%k:=Nat.mod_eq_sub_mod c;rw[a,b];rfl
structure SortOk(P:Program)(f:Nat)(e:Ty):Prop where
 cmp:bU e=true
 agg:cX e=true
 pos:0<e.size
 nt:aq e=true
 fn : ∃ fn, P.funcs[f]? = some fn /\ (fn.name == "runtime.NumGoroutine") = false /\ fn.body.isSome = true
 empty:∀ (p:Option Addr) (cap:Nat) (fv:Value) (w:World),Calls P f #[.slice p 0 cap,fv] w λen w'=>en=.returned (.tuple #[])/\w'=w
 whole:∀ (α:Type) [Inhabited α] (enc:α->List Value) (_:∀ x,(enc x).length=e.size) (_:∀ x,∀ v∈enc x,v.oneCell'=true) (cf:α->α->Int) (_:SWO (ltOf cf)) (g:Nat) (blk off cap:Nat) (d:Array α) (w:World)
  (_:∀ args w,(callFunc g args).run P w=.ok (.enter g args) w) (_:CmpLays P g #[] enc e.size cf blk off d.size w) (_:HoldsK enc e.size w blk off d) (_:blk<w.heap.size) (_:d.size<4611686018427387904),
  Calls P f #[.slice (some ⟨blk,off,none⟩) d.size cap,.func (.func g) #[] #[]] w λen w'=>en=.returned (.tuple #[])/\∃ d' n os,PermIn 0 d.size d d'/\SortedIn (ltOf cf) 0 d.size d'/\w'=sortWorldK enc e.size w blk off n d' os
section
variable{P:Program}{E:Env}
def Cv(hE:EnvOk P E){g:Nat}{ptys:List Ty}{rty:Ty}(h:E.sig g=some (ptys,rty))(args:Array Value)(w:World):(callFunc g args).run P w=.ok (.enter g args) w:=by
 obtain⟨_,_,fn,f1,f2,f3⟩:=hE.sig g ptys rty h;have f2' : ¬ fn.name = "runtime.NumGoroutine" := by simpa using f2
 have hb':¬ fn.body=none:=by intro hh;rw[hh] at f3;cases f3
 simp[callFunc,f1,f2',hb']
def Gi(hE:EnvOk P E){f:Nat}{e:Ty}(H:SortOk P f e){g:Nat}(B:E.sig g=some ([e,e],.int .i64)/\E.free g=0){l l':List D}(a4:∀ x∈l,wt e x)(hs:jZ E g l=some l')(a1:l≠[]){w:World}{b off cap:Nat}{row:Array Value}
  (R:bO w b=some row) (hc:∀ (i:Nat) (d:D),(D.flats l)[i]?=some d->w.cell? ⟨b,off+i,none⟩=some (ge d)) (hlen:l.length<4611686018427387904) :
  Calls P f #[.slice (some ⟨b,off,none⟩) l.length cap,.func (.func g) #[] #[]] w λen w'=>en=.returned (.tuple #[])/\l'.Perm l/\w.drawn<=w'.drawn/\w'.tape=w.tape/\w'.os=w.os/\w'.output=w.output/\w.heap.size<=w'.heap.size ∧
   (∀ T,T≠b->T<w.heap.size->w'.heap[T]?=w.heap[T]?)/\∀ (i:Nat) (d:D),(D.flats l')[i]?=some d->w'.cell? ⟨b,off+i,none⟩=some (ge d):=by
 have a2:tB E g l'=true/\l'=mb (rP E g) l:=by
  unfold jZ at hs;split at hs
  ·rename_i h;cases hs;exact⟨h,rfl⟩
  ·cases hs
 obtain⟨s,hl'⟩:=a2;have k:l'.Perm l:=hl' ▸ gW _ l;have I:∀ x∈l,x∈l':=λx hx=>k.symm.subset hx;have p:∀ x∈l',wt e x:=λx hx=>a4 x (k.subset hx);obtain⟨x0,a5⟩:∃ x0,x0∈l':=by
  cases l with
  | nil=>exact absurd rfl a1
  | cons x l=>exact⟨x,I x zoa⟩
 have a6:Inhabited {d:D // d∈l'}:=⟨⟨x0,a5⟩⟩;have N:∀ x:{d:D // d∈l'},x.1.flat.length=e.size:=λx=>cF e x.1 (p x.1 x.2) H.nt;have A:∀ x:{d:D // d∈l'},∀ d∈x.1.flat,sY d=true:=λx=>kD e x.1 H.cmp (p x.1 x.2);obtain⟨d,Q⟩:∃ d:Array {d:D // d∈l'},d.toList.map (·.1)=l:=⟨(l.pmap Subtype.mk I).toArray,by simp[List.map_pmap]⟩
 have M:d.size=l.length:=by rw[<-Q];simp
 have U:b<w.heap.size:=by
  unfold bO at R;cases O:w.heap[b]? with
  | none=>rw[O] at R;cases R
  | some o=>exact(zga.1 O).1
 have Y:∀ o,w.frozen? ⟨b,o,none⟩=false:=λo=>by
  unfold bO at R;split at R
  ·rename_i c t O;unfold World.frozen?;simp[O]
  ·cases R
 have at_:∀ (dd:Array {d:D // d∈l'}) (t:Nat),t<dd.size*e.size->(D.flats (dd.toList.map (·.1)))[t]?.map ge=some ((flatK (λx:{d:D // d∈l'}=>x.1.flat.map ge) e.size dd)[t]!):=λdd t ht=>by
  rw[get_flatK _ _ _ _ ht,xl H.pos _ (λx hx=>by
   obtain⟨y,_,rfl⟩:=zXa.1 hx;exact N y)]
  have h1:t/e.size<dd.size:=(zRa H.pos).2 ht;have F:t%e.size<e.size:=zVa _ H.pos;rw[z7a,zBa,zKb h1,getElem!_pos dd _ h1];simp only[zvb,zba];have h3:t%e.size<(dd[t/e.size]).1.flat.length:=by rw[N];exact F
  rw[zca h3,getElem!_pos _ _ (by simpa using h3)]
  simp
 have hH:HoldsK (λx:{d:D // d∈l'}=>x.1.flat.map ge) e.size w b off d:=by
  intro j hj;rw[size_flatK] at hj;refine⟨?_,Y _⟩;have:=at_ d j hj;rw[Q] at this;cases hq:(D.flats l)[j]? with
  | none=>rw[hq] at this;cases this
  | some q=>
   rw[hq] at this;simp only[zvb,zda] at this;rw[hc j q hq,this];rfl
 have V:CmpLays P g #[] (λx:{d:D // d∈l'}=>x.1.flat.map ge) e.size (GC E g l') b off d.size w:=by
  intro m os dk _ x y;obtain⟨i,an,ax⟩:=zQa x.2;obtain⟨j,aI,a0⟩:=zQa y.2;obtain⟨_,n,hn⟩:=fl s (i:=i) (j:=j) (x:=x.1) (y:=y.1) (by rw[zca an,ax]) (by rw[zca aI,a0])
  have L:E.call g [x.1,y.1]=some (.int .i64 n):=by
   unfold uo at hn;obtain⟨r,h1,F⟩:=bind_some_inv hn;rw[h1];split at F
   ·cases F;rfl
   ·cases F
  have ak:GC E g l' x y=n:=by simp[GC,hn]
  rw[ak];have K:∀ z:{d:D // d∈l'},∀ (w:World) (S:Nat->Nat->Prop),gD w S z.1 (.agg (z.1.flat.map ge).toArray):=λz w S=>by
   refine⟨?_,?_⟩
   ·have C:=p z.1 z.2;have ha:=H.agg;cases e<;>simp only[cX] at ha<;>first|(cases ha;done)|skip
    ·simp only[wt] at C;obtain⟨ll,h1,_⟩:=C;rw[h1];exact⟨_,rfl⟩
    ·simp only[wt] at C;obtain⟨ll,h1,_⟩:=C;rw[h1];exact⟨_,rfl⟩
   ·exact(gh (A z)).2 (by simp[Value.cells])
  have ad:fI [e,e] [x.1,y.1]:=⟨x.1,[y.1],rfl,p _ x.2,⟨y.1,[],rfl,p _ y.2,rfl⟩⟩;have u:=(hE.call g [e,e] (.int .i64) [x.1,y.1] (.int .i64 n) B.1 L ad).1;rw[B.2] at u;have W:=u
   (sortWorldK (λx:{d:D // d∈l'}=>x.1.flat.map ge) e.size w b off m dk os) (λ_ _=>False) [.agg (x.1.flat.map ge).toArray,.agg (y.1.flat.map ge).toArray] (λ_ _ h=>h.elim) ad rfl
   (λi z v C J=>by
    cases i with
    | zero=>simp at C J;subst C;subst J;exact K x _ _
    | succ i=>cases i with
     | zero=>simp at C J;subst C;subst J;exact K y _ _
     | succ i=>simp at C)
  refine W.mono ?_;rintro en w' ⟨v,rfl,⟨os',dr,al,rfl⟩,_,J⟩;have a3:v=.int .i64 n:=by
   obtain⟨c1,c2⟩:=(J:gD _ _ _ _);have:=(gh (by intro d Q;simp only[D.flat,zDa] at Q;subst Q;rfl)).1 c2
   exact au c1 (by simpa [D.flat,ge] using this)
  refine⟨by rw[a3],dr-(sortWorldK (λx:{d:D // d∈l'}=>x.1.flat.map ge) e.size w b off m dk os).drawn,os'.toArray,?_⟩
  unfold grown grow World.drewN;simp only[show ∀ a b:Nat,a<=b->a+(b-a)=b from λa b h=>by omega,al]
 have hO:SWO (ltOf (GC E g l')):=MZ s;have key:=H.whole {d:D // d∈l'} (λx=>x.1.flat.map ge) (λx=>by simp[N x]) (λx v J=>by
   obtain⟨q,hq,rfl⟩:=zXa.1 J;have:=A x q hq;cases q<;>simp only[sY] at this<;>first|(cases this;done)|rfl) (GC E g l') hO g b off cap d w (Cv hE B.1) V hH U (by omega)
 rw[M] at key;refine key.mono ?_;rintro en w' ⟨rfl,d',n,os,hp,Z,rfl⟩;rw[<-M] at hp Z;have X:d'.toList.map (·.1)=l':=Gj s (d:=d) (by rw[Q];exact k.symm) hp Z
 have G:d'.size=d.size:=hp.1;have ai:=holdsK_sortWorldK_c (λx:{d:D // d∈l'}=>x.1.flat.map ge) e.size w b off d d' n os hH U G;refine⟨rfl,k,?_,rfl,rfl,rfl,?_,λT O aj=>?_,λi q hq=>?_⟩
 ·show w.drawn<=w.drawn+n;omega
 ·simp only[sortWorldK,grow,putRowK,putRow,mapBlock,Go.Sort.ahead,Array.size_append,Array.size_modify];omega
 ·simp only[sortWorldK,grow,putRowK,putRow,mapBlock,Go.Sort.ahead];rw[Array.getElem?_append_left (by simpa using aj),z9c,if_neg (Ne.symm O)]
 ·have hi:i<d'.size*e.size:=by
   have h1:=(zka.1 hq).1;rw[aF H.nt l' p] at h1;rw[G,M,<-k.length_eq];exact h1
  have F:=at_ d' i hi;rw[X,hq] at F;simp only[zvb,zda] at F;have h3:=(ai i (by rw[size_flatK];exact hi)).1
  rw[h3,<-F];rfl
end
end Sy
end
noncomputable section
namespace Sy
open Go Go.ChangeShapes Go.WideShapes Go.ChangeAt Go.RowKit
def bool_of{W:World}{S:Nat->Nat->Prop}{b:Bool}{v:Value}(h:DR W S (.bool b) v):v=.bool b:=by
 obtain⟨h1,c⟩:=(h:gD W S (.bool b) v);have e:=(gh (by intro d a;simp only[D.flat,zDa] at a;subst a;rfl)).1 c
 exact au h1 (by simpa [D.flat,ge] using e)
section
variable{H:Type}{enc:TypeId×Value->H}{P:Program}{W:World}
def Oe{ty:Ty}{T:TypeId}(hl:bK P ty T=true)(hp:qj ty=true){base:Nat}{v:Value}(c:Value.okWide P W .any base T v){d0:DataW H}{i:List MemPlace}{spare:Nat->Bool}{held:Bool}(h:DataW.Trod enc P W 0 spare held T v d0 i) :
  ∃ d,wt ty d/\Mz d/\gD W (qz W) d v:=by
 obtain⟨fuel,g⟩:=h;obtain⟨d,h1,a,f⟩:=tZ (W:=W) ty T fuel _ _ hl hp g;refine⟨d,h1,a,?_,f⟩;have na:∀ {u:TypeDesc},P.underlying T=some u->(match u with|.struct _=>False|.array _ _=>False|_=>True)->∀ cs,v≠.agg cs:=λ{u} hu hn cs e=>by
  subst e;simp only[Value.okWide,hu] at c;cases u<;>simp only[Cell.okWide,Cell.ok,hu] at c<;>first|exact hn|(cases c;done)|exact c
 cases ty with
 | int k=>obtain⟨n,rfl⟩:=h1;exact na (jV hl) trivial
 | bool=>obtain⟨b,rfl⟩:=h1;exact na (u:=.bool) (by simp only[bK,zaa] at hl;have a:=hl.2;split at a<;>first|assumption|cases a) trivial
 | str=>obtain⟨s,rfl⟩:=h1;exact na (u:=.string) (by simp only[bK,zaa] at hl;have a:=hl.2;split at a<;>first|assumption|cases a) trivial
 | st m=>
  obtain⟨l,rfl,_⟩:=h1;obtain⟨j,hu,_⟩:=jq hl;obtain⟨cs,h,_⟩:=okWide_struct hu c;exact⟨cs,h⟩
 | arr n e=>
  obtain⟨l,rfl,_⟩:=h1;obtain⟨u,hu,_⟩:=eN hl;simp only[Value.okWide,hu] at c;obtain⟨cs,h,_⟩:=c;exact⟨cs,h⟩
 | sl e=>
  obtain⟨l,rfl,_⟩:=h1;obtain⟨u,hu,_⟩:=jp hl;exact na hu trivial
 | tup l=>simp[bK] at hl
 | fn=>simp[bK] at hl
def A8(P:Program):List Ty->List TypeId->Bool
 | [],[]=>true
 | ty::a,T::Ts=>bK P ty T&&qj ty&&A8 P a Ts
 | _,_=>false
theorem LD:∀ {c:List Ty} {Ts:List TypeId},A8 P c Ts=true->∀ {vs:List Value} {e:List (DataW H)} {ps:List MemPlace} {base:Nat} {spare:Nat->Bool} {held:Bool},DataW.TrodAll enc P W 0 spare held Ts vs e ps ->
  (∀ (j:Nat) t v,Ts[j]?=some t->vs[j]?=some v->Value.okWide P W .any base t v)->∃ xs,fI c xs/\wC xs/\vs.length=xs.length/\∀ (i:Nat) (x:D) (v:Value),xs[i]?=some x->vs[i]?=some v->gD W (qz W) x v
 | [],[],_,vs,e,ps,base,spare,held,h,f=>by
  obtain⟨rfl,rfl,rfl⟩:=trodAll_nil h;exact⟨[],rfl,trivial,rfl,by simp⟩
 | ty::c,T::Ts,hl,vs,e,ps,base,spare,held,h,f=>by
  simp only[A8,zaa] at hl;obtain⟨v,l,d,k,p,q,rfl,rfl,rfl,h0,h1⟩:=trodAll_cons h;obtain⟨x,m,n,o⟩:=Oe hl.1.1 hl.1.2 (f 0 T v rfl rfl) h0;obtain⟨xs,r,s,w,y⟩:=LD hl.2 h1 (λj t u a b=>f (j+1) t u (by simpa using a) (by simpa using b))
  refine⟨x::xs,⟨x,xs,rfl,m,r⟩,⟨n,s⟩,by simp[w],λi z u g hu=>?_⟩
  cases i with
  | zero=>simp at g hu;subst g;subst hu;exact o
  | succ i=>exact y i z u (by simpa using g) (by simpa using hu)
 | [],_::_,h,_,_,_,_,_,_,_,_=>by simp[A8] at h
 | _::_,[],h,_,_,_,_,_,_,_,_=>by simp[A8] at h
theorem OK:∀ {Ts:List TypeId} {vs:List Value} {a:List (DataW H)} {ps:List MemPlace} {base:Nat} {spare:Nat->Bool} {held:Bool},DataW.TrodAll enc P W base spare held Ts vs a ps->a.length=Ts.length
 | [],vs,a,ps,_,_,_,h=>by obtain⟨rfl,rfl,rfl⟩:=trodAll_nil h;rfl
 | T::Ts,vs,a,ps,_,_,_,h=>by
  obtain⟨v,c,d,b,p,q,rfl,rfl,rfl,h0,h1⟩:=trodAll_cons h;simp[OK h1]
theorem E8{W':World}(hl:laidOutB P=true):∀ {Ts:List TypeId},Ts.all (λt=>P.readableRec t&&decide (t<P.types.size))=true->∀ {vs:List Value} {c:List (DataW H)} {ps:List MemPlace},
  DataW.TrodAll enc P W 0 (λ_=>true) true Ts vs c ps->Below W.heap.size W W'->(∀ x∈ps,x.block<W.heap.size)->DataW.TrodAll enc P W' 0 (λb=>decide (b<W.heap.size)) true Ts vs c ps
 | [],_,vs,c,ps,h,_,_=>by
  obtain⟨rfl,rfl,rfl⟩:=trodAll_nil h;exact trodAll_mk0
 | T::Ts,e,vs,c,ps,h,f,a=>by
  simp only[zRb,zaa,decide_eq_true_eq] at e;obtain⟨v,i,d,g,p,q,rfl,rfl,rfl,h0,h1⟩:=trodAll_cons h;exact⟨p,q,Below.trod hl e.1.1 e.1.2 h0 f (λx hx=>a x (by simp[hx])),E8 hl e.2 h1 f (λx hx=>a x (by simp[hx])),rfl⟩
end
end Sy
end
noncomputable section
namespace Sy
open Go
variable{ro:Option Nat}{nn:Nat}
def Cp(s:St):List ResultVar->Option (Nat×List AV)
 | [.tmp i]=>match s.tm i with
  | .clo f l=>some (f,l)
  | _=>none
 | _=>none
def rT(s:St)(t:Ty):List ResultVar->Option (Nat×List D)
 | [.tmp i]=>match s.tm i with
  | .own a v l=>if a.beq t&&!(s.dead.contains v) then some (v,l) else none
  | _=>none
 | _=>none
def CY(s:St):List ResultVar->Bool
 | [.tmp i]=>match s.tm i with
  | .nils=>true
  | _=>false
 | _=>false
def Mi{R:Type}(E:Env)(s sc:St)(a:List Nat)(b:List ResultVar)(K:AV->St->Option R):Ty->Option R
 | .fn=>(Cp sc b).bind λq=>K (.clo q.1 q.2) (oK s sc a)
 | .sl t=>match rT sc t b with
  | some q=>K (.own t q.1 q.2) (oK s sc a)
  | none=>if CY sc b then K .nils (oK s sc a) else(results E sc (.sl t) b).bind λy=>K (.d (.sl t) y) (oK s sc a)
 | c=>(results E sc c b).bind λy=>K (.d c y) (oK s sc a)
def O6(E:Env)(fn:Func)(b:Ty)(ann:Ann)(R:Type)(s:St)(a:List AV)(K:AV->St->Option R):Option R:=
 match fn.body with
 | none=>none
 | some c=>if a.length<=fn.ntmps/\(fh s).length<=4096 then Mc E c ann R (Mk s fn.ntmps a (CE s a b)) λe sc=>match e with
   | .exit _=>none
   | _=>Mi E s sc (CE s a b) fn.results.toList K b
  else none
def Df(n:Nat)(a:Ty):Bool:=match a with|.fn=>decide (n=1)|a=>jy n a
section
variable{P:Program}{E:Env}{w0:Root}{S S':Nat->Nat->Prop}{γ γ':Nat->Option Nat}{β β' β'':Nat->Option (Nat×Nat)}{s sc:St}{a:Act}{w w':World}
def N3{c:Cx}{b:Ty}{n:Nat}{y:D}{v:Value}(e:jy n b=true)(a:wt b y)(h:DR c.w c.S y v):AR c (.d b y) v:=by
 simp only[AR];have key:aq b=true\/∃ g,b=.tup g/\bw g=true:=by
  unfold jy at e;split at e
  ·exact .inl e
  ·split at e
   ·exact .inr ⟨_,rfl,e⟩
   ·cases e
 rcases key with f|⟨g,rfl,f⟩
 ·refine .inl ⟨f,a,?_⟩;cases b<;>simp only[wt] at a<;>first
   | (obtain⟨m,rfl⟩:=a;exact h)
   | (obtain⟨m,rfl,_⟩:=a;exact h)
   | (exact a.elim)
   | (simp[aq] at f)
 ·exact .inr ⟨g,rfl,f,a,h⟩
def Fh(h:Rp w0 S γ β s a w){fn:Func}{q:Nat×List AV}(hq:Cp s fn.results.toList=some q):∃ v,(Go.results fn a.tmps).run P w=.ok v w/\AR ⟨w,S,γ,β,s.ob,s.dead⟩ (.clo q.1 q.2) v:=by
 rw[lK];have hm:fn.results.mapM (n8 a.tmps)=Functor.map List.toArray (fn.results.toList.mapM (n8 a.tmps)):=by
  rw[zTc]
 rw[hm];generalize fn.results.toList=g at *;unfold Cp at hq;split at hq<;>first|(cases hq;done)|skip
 rename_i i;split at hq<;>first|(cases hq;done)|skip
 rename_i f l b;cases hq;have e:i<a.tmps.size:=by
  rcases zla i a.tmps.size with d|c
  ·exact d
  ·have:=h.tmu i (by rw[<-h.nt];exact c)
   rw[b] at this;cases this
 have:=h.tms i e;rw[b] at this;exact⟨a.tmps.getD i undef,by simp[z6c,n8],this⟩
def ya(h:Rp w0 S γ β s a w){fn:Func}{t:Ty}{q:Nat×List D}(hq:rT s t fn.results.toList=some q):∃ v,(Go.results fn a.tmps).run P w=.ok v w/\AR ⟨w,S,γ,β,s.ob,s.dead⟩ (.own t q.1 q.2) v:=by
 rw[lK];have hm:fn.results.mapM (n8 a.tmps)=Functor.map List.toArray (fn.results.toList.mapM (n8 a.tmps)):=by
  rw[zTc]
 rw[hm];generalize fn.results.toList=g at *;unfold rT at hq;split at hq<;>first|(cases hq;done)|skip
 rename_i i;split at hq<;>first|(cases hq;done)|skip
 rename_i j v l b;split at hq<;>first|(cases hq;done)|skip
 rename_i e;simp only[zaa] at e;have:=Ty.eq_of_beq _ _ e.1;subst this;cases hq;have f:i<a.tmps.size:=by
  rcases zla i a.tmps.size with d|c
  ·exact d
  ·have:=h.tmu i (by rw[<-h.nt];exact c)
   rw[b] at this;cases this
 have:=h.tms i f;rw[b] at this;exact⟨a.tmps.getD i undef,by simp[z6c,n8],this⟩
def FN(h:Rp w0 S γ β s a w){fn:Func}(hq:CY s fn.results.toList=true):∃ v,(Go.results fn a.tmps).run P w=.ok v w/\AR ⟨w,S,γ,β,s.ob,s.dead⟩ .nils v:=by
 rw[lK];have hm:fn.results.mapM (n8 a.tmps)=Functor.map List.toArray (fn.results.toList.mapM (n8 a.tmps)):=by
  rw[zTc]
 rw[hm];generalize fn.results.toList=f at *;unfold CY at hq;split at hq<;>first|(cases hq;done)|skip
 rename_i i;split at hq<;>first|(cases hq;done)|skip
 rename_i b;have e:i<a.tmps.size:=by
  rcases zla i a.tmps.size with d|c
  ·exact d
  ·have:=h.tmu i (by rw[<-h.nt];exact c)
   rw[b] at this;cases this
 have:=h.tms i e;rw[b] at this;exact⟨a.tmps.getD i undef,by simp[z6c,n8],this⟩
def Mj(i:EnvOk P E){a':Act}(g:Rp w0 S γ β sc a' w'){fn:Func}{a:Ty}{f:List Nat}(e:Df fn.results.size a=true){R:Type}{K:AV->St->Option R}{r:R}(hq:Mi E s sc f fn.results.toList K a=some r) :
  ∃ v x,(Go.results fn a'.tmps).run P w'=.ok v w'/\AR ⟨w',S,γ,β,sc.ob,sc.dead⟩ x v/\K x (oK s sc f)=some r:=by
 have plain:jy fn.results.size a=true->(results E sc a fn.results.toList).bind (λy=>K (.d a y) (oK s sc f))=some r->∃ v x,(Go.results fn a'.tmps).run P w'=.ok v w'/\AR ⟨w',S,γ,β,sc.ob,sc.dead⟩ x v/\K x (oK s sc f)=some r:=λe hq=>by
  obtain⟨y,h1,h⟩:=bind_some_inv hq;obtain⟨v,b,c,j⟩:=lM i g e h1;exact⟨v,_,b,N3 e c j,h⟩
 cases a
 case fn=>
  obtain⟨q,h1,h⟩:=bind_some_inv hq;obtain⟨v,b,c⟩:=Fh (P:=P) g h1;exact⟨v,_,b,c,h⟩
 case sl t=>
  simp only[Mi] at hq;split at hq
  ·rename_i q h1;obtain⟨v,b,c⟩:=ya (P:=P) g h1;exact⟨v,_,b,c,hq⟩
  ·split at hq
   ·rename_i h1;obtain⟨v,b,c⟩:=FN (P:=P) g h1;exact⟨v,_,b,c,hq⟩
   ·exact plain e hq
 all_goals exact plain e hq
def Mh(O:EnvOk P E){f:FuncId}{fn:Func}{k:Ty}(V:P.funcs[f]?=some fn)(Y:Df fn.results.size k=true):G3 P f (O6 E fn k):=by
 intro ann R w0 S γ β s a w z vs K r h hlen J d;unfold O6 at d;split at d<;>first|(cases d;done)|skip
 rename_i c D;split at d<;>first|(cases d;done)|skip
 rename_i A;obtain⟨W,C⟩:=A;obtain⟨B,L⟩:∃ B,B=CE s z k:=⟨_,rfl⟩;rw[<-L] at d;have C:=zEa (zKc (λv=>!(B.contains v)) (fh s)) C;obtain⟨I,g⟩:∃ I,I=wK s B:=⟨_,rfl⟩;obtain⟨sh,H⟩:∃ sh:Nat->Prop,sh=λb=>(∃ id,γ id=some b)\/∃ v e,v ∉ I++s.dead/\β v=some (b,e):=⟨_,rfl⟩;have ad:vs.length<=fn.ntmps:=by omega
 have G:(vs.toArray++Array.replicate (fn.ntmps-vs.toArray.size) undef).size=fn.ntmps:=by
  simp;omega
 have M:Cx.le ⟨w,S,γ,β,s.ob,s.dead⟩ ⟨w,S,γ,β,s.ob,I++s.dead⟩:=
  ⟨λ_ _ _=>rfl,λ_ _ D=>D,λ_ _ D=>D,λid o X _=>⟨o,X,λp=>⟨rfl,rfl⟩,λt l e=>⟨l,e,rfl⟩,λ_ _ l e=>⟨l,e⟩⟩,λu hu=>⟨λF=>hu (zOa _ F),λb e he=>⟨he,λn hn=>hn⟩⟩⟩
 have U:Rp ⟨w,S,sh⟩ S γ β (Mk s fn.ntmps z B) { tmps:=vs.toArray++Array.replicate (fn.ntmps-vs.toArray.size) undef,defers:=[] } w:=by
  refine Ec h g H (λ_ _ F=>F) rfl (by rw[g];rfl) G (λt Q=>?_) λt Q=>?_
  ·have Z:fn.ntmps<=t:=Q;simp only[Mk];rw[z1a,zbb (by omega)]
   rfl
  ·simp only[Mk];by_cases hlt:t<vs.length
   ·have m:t<z.length:=by omega
    have hv:(vs.toArray++Array.replicate (fn.ntmps-vs.toArray.size) undef).getD t undef=vs[t]:=by
     simp[Array.getD,zRc,hlt];omega
    rw[hv,z1a,zca m];exact(J t _ _ (zca m) (zca hlt)).mono M
   ·rw[z1a,zbb (by omega)]
    simp only[Option.getD_none,AR]
 refine jQ O V D rfl U d (λ_ _ F=>by cases F) λe sc S' γ' β' a' w' T j n3 N=>?_
 have q:Mi E s sc B fn.results.toList K k=some r->(∃ v,(Go.results fn a'.tmps).run P w'=.ok v w'/\∃ v' y s' S' γ' β',Ending.returned v=.returned v'/\K y s'=some r/\Rp w0 S' γ' β' s' a w'/\AR ⟨w',S',γ',β',s'.ob,s'.dead⟩ y v'/\Fm s S γ a w S' γ' a w'/\Sk s s'):=λhq=>by
  obtain⟨v,x,k1,k2,k3⟩:=Mj O T Y hq;obtain⟨β'',q1,q2⟩:=DI h g H (by rw[g];exact C) T j.sub j.cell j.gam j.sz
  exact⟨v,k1,v,x,oK s sc B,S',γ',β'',rfl,k3,q1,k2.mono q2,⟨j.sub,j.cell,λ_ _=>rfl,j.objs,j.sz,j.gam,kY.same rfl j.dfs.1⟩,⟨rfl,rfl,rfl⟩⟩
 cases e with
 | normal=>exact q N
 | ret=>exact q N
 | exit i=>cases N
def ON(E:Env)(fn:Func)(ann:Ann)(a:List Ty)(t:Ty)(args:List D):Option (List D):=
 match fn.body with
 | none=>none
 | some c=>Mc E c ann (List D) { tm:=jn a args,ob:=λ_=>none,fresh:=0,dead:=[],nt:=fn.ntmps,lkS:=[],lkO:=[] } λe s=>match e with
  | .exit _=>none
  | _=>(rT s t fn.results.toList).bind λq=>some q.2
def GK.ctr{a:List Ty}{t:Ty}{f:FuncId}{xs l:List D}(h:GK P a t f xs l):N7 P a (.sl t) f xs (.sl l):=by
 intro w S vs g d hlen c;refine(h w S vs g d hlen c).mono λe w' ⟨A,cap,he,i,k,hl,S',s1,s2,b,_⟩=>⟨_,he,i,⟨l,rfl,hl⟩,?_⟩;exact⟨λcs j=>(by cases j),df.single.2 (b.mono (λ_ _ _=>rfl) s2)⟩
def AD(O:EnvOk P E){f:FuncId}{fn:Func}{ann:Ann}{k:List Ty}{t:Ty}{xs l:List D}(s:P.funcs[f]?=some fn)(U:k.length<=fn.ntmps)(hn:bw k=true)
  (h:ON E fn ann k t xs=some l):GK P k t f xs l:=by
 intro w S vs Q B hlen I;unfold ON at h;split at h<;>first|(cases h;done)|skip
 rename_i c g;have X:xs.length=k.length:=jI B;have z:(vs.toArray++Array.replicate (fn.ntmps-vs.toArray.size) undef).size=fn.ntmps:=by
  simp;omega
 refine jQ (w0:=⟨w,S,λ_=>False⟩) (S:=S) (γ:=λ_=>none) (β:=λ_=>none) O s g rfl ?_ h (λ_ _ R=>by cases R) λe s' S' γ' β' a' w' F n2 n3 K=>?_
 ·refine⟨⟨rfl,rfl,rfl,zfa _,zfa _,λ_ _=>rfl⟩,λt M=>?_,z,λt M=>?_,λid o b T=>(by cases T),λid b g=>(by cases g),λid Y b g=>(by cases g),λ_ _=>rfl,λv b e _ g=>(by cases g),λv v' b e e' _ _ g=>(by cases g),λv id b e _ g=>(by cases g),λ_ _=>rfl,Q,λb o g _=>g⟩
  ·simp only[jn];split
   ·rename_i ty x L G;have m:=(zka.1 G).1;have p:t<vs.length:=by omega
    have W:(vs.toArray++Array.replicate (fn.ntmps-vs.toArray.size) undef).getD t undef=vs[t]:=by
     simp[Array.getD,zRc,p];omega
    show AR _ _ ((vs.toArray++Array.replicate (fn.ntmps-vs.toArray.size) undef).getD t undef);rw[W];obtain⟨x',C,J⟩:=hC B L;rw[G] at C;cases C;exact dT (cd hn L) J (I t x _ G (zca p))
   ·simp only[AR]
  ·have V:fn.ntmps<=t:=M;simp only[jn];rw[zbb (by omega)]
 ·have r:(rT s' t fn.results.toList).bind (λq=>some q.2)=some l->(∃ v,(Go.results fn a'.tmps).run P w'=.ok v w'/\∃ a cap,Ending.returned v=.returned (.slice a l.length cap)/\(∃ os d,w.drawn<=d/\w'=grown w os d)/\aq t=true/\(∀ x∈l,wt t x)/\∃ S':Nat->Nat->Prop,(∀ b o,S b o->S' b o)/\(∀ b o,S' b o->S b o\/(w.heap.size<=b/\b<w'.heap.size)) ∧
    CR w' S' (.sl l) (.slice a l.length cap)/\((a=none/\cap=0)\/∃ b off,a=some ⟨b,off,none⟩/\(w.heap.size<=b/\b<w'.heap.size)/\(∃ n,mX w' b=some n/\off+cap*t.size<=n)/\∀ o,off+l.length*t.size<=o->¬ S' b o)):=λhq=>by
   obtain⟨q,j,H⟩:=bind_some_inv hq;cases H;have y:q.1 ∉ s'.dead:=by
    unfold rT at j;split at j<;>first|(cases j;done)|skip
    split at j<;>first|(cases j;done)|skip
    split at j<;>first|(cases j;done)|skip
    rename_i g;cases j;simp only[zaa,zCa] at g;simpa using g.2
   obtain⟨v,Z,N⟩:=ya (P:=P) F j;simp only[AR,AC] at N;obtain⟨na,m1,m2,A,cap,m3,m4,m5⟩:=N;refine⟨v,Z,A,cap,by rw[au na m3],iQ F.ext (λ_ s=>s),m1,m2,S',n2.sub,λb o g=>?_,m4,?_⟩
   ·rcases zla b w.heap.size with m|u
    ·exact .inl (F.So b o g ⟨m,λs=>s⟩)
    ·exact .inr ⟨u,F.Sb b o g⟩
   ·rcases m5 y with m5|⟨b,off,rfl,m6,m7⟩
    ·exact .inl m5
    ·obtain⟨z1,z2,z3⟩:=F.βn _ _ _ y m6;refine .inr ⟨b,off,rfl,⟨?_,z2⟩,m7,z3⟩;rcases zla b w.heap.size with m|u
     ·exact absurd ⟨m,λs=>s⟩ z1
     ·exact u
  cases e with
  | normal=>exact r K
  | ret=>exact r K
  | exit i=>cases K
end
end Sy
end
noncomputable section
namespace Sy
abbrev K0:Ty:=Ty.st [Ty.int .i64,Ty.int .i64,Ty.bool,Ty.int .u8]
abbrev K1:Ty:=Ty.arr 3 (Ty.int .i64)
abbrev K2:Ty:=Ty.sl (K1)
abbrev K3:Ty:=Ty.st [K2]
abbrev K4:Ty:=Ty.st [K3,Ty.int .i64]
abbrev K5:Ty:=Ty.sl (Ty.int .i64)
abbrev K6:Ty:=Ty.st [K1,Ty.int .i64,K5]
abbrev K7:Ty:=Ty.sl (K6)
abbrev K8:Ty:=Ty.arr 2 (Ty.int .i64)
abbrev K9:Ty:=Ty.sl (K8)
abbrev aW:Ty:=Ty.arr 16 (Ty.int .u32)
abbrev aT:Ty:=Ty.st [Ty.bool,Ty.bool,aW]
abbrev bY:Ty:=Ty.st [aT,aT]
abbrev co:Ty:=Ty.arr 3 (bY)
abbrev Uj:Ty:=Ty.arr 3 (Ty.int .u8)
abbrev eB:Ty:=Ty.st [K1,Ty.int .i64]
abbrev PL:Ty:=Ty.sl (eB)
abbrev ia:Ty:=Ty.arr 3 (aT)
abbrev Ly:Ty:=Ty.arr 32 (Ty.int .u32)
abbrev Z7:Ty:=Ty.sl (Ty.int .u32)
abbrev Zj:Ty:=Ty.sl (aT)
abbrev tH:Ty:=Ty.arr 17 (Ty.int .u32)
abbrev Z8:Ty:=Ty.tup [aW,Ty.bool]
abbrev Uk:Ty:=Ty.tup [Ty.int .i64,Ty.bool]
abbrev Z9:Ty:=Ty.tup [K5,K5]
abbrev K34:Ty:=Ty.tup [aW,aW]
abbrev K35:Ty:=Ty.tup [aT,aT]
abbrev Zk:Ty:=Ty.tup [aW,Ty.int .u32]
abbrev SE:Ty:=Ty.tup []
abbrev sD:Ty:=Ty.arr 4 (Ty.int .i64)
abbrev dh:Ty:=Ty.st [K1,sD]
abbrev Oa:Ty:=Ty.arr 2 (aT)
abbrev P8:Ty:=Ty.arr 9 (Ty.int .i64)
abbrev K56:Ty:=Ty.tup [sD,Ty.bool]
abbrev fL:Ty:=Ty.st [K1,bY]
abbrev Ul:Ty:=Ty.st [fL,Ty.bool]
abbrev bI:Ty:=Ty.st [dh,K3,Ty.int .i64,K2]
abbrev Af:Ty:=Ty.sl (co)
abbrev K62:Ty:=Ty.sl (bI)
abbrev K63:Ty:=Ty.arr 32 (Ty.int .u8)
abbrev K64:Ty:=Ty.tup [fL,Ty.bool]
abbrev K65:Ty:=Ty.tup [co,Ty.bool]
abbrev K66:Ty:=Ty.tup [bY,bY]
abbrev K67:Ty:=Ty.tup [K1,Ty.int .i64]
def JH:Nat:=261
def Gh:Nat:=273
abbrev bb{α:Type}(t n:Nat)(a b:α):α:=bif Nat.blt t n then a else b
abbrev Ti:Ty:=.int .i64
abbrev fD{α:Type}(a:α):Option α:=some a
abbrev aZ(n:Nat)(l:List Ty)(t:Ty):Option (Nat×List Ty×Ty):=some (n,l,t)
def Rt(t:Nat):Option Ty:=bif Nat.blt t JH then(bb t 130 (bb t 65 (bb t 32 (bb t 16 (bb t 8 (bb t 4 (bb t 2 none (bb t 3 (fD Ti) (fD Ti))) (bb t 6 (bb t 5 (fD Ty.bool) (fD (Ty.int .u8))) (bb t 7 (fD (Ty.int .u8)) (fD K0)))) (bb t 12 (bb t 10 (bb t 9 (fD K0) (fD Ty.str)) (bb t 11 (fD Ty.str) (fD Ty.str))) (bb t 14 (bb t 13 (fD (Ty.int .u64)) none) none))) (bb t 24 (bb t 20 none (bb t 22 (bb t 21 none (fD (Ty.int .i32))) (bb t 23 (fD K1) (fD K1)))) (bb t 28 (bb t 26 (bb t 25 (fD sD) (fD sD)) (bb t 27 (fD dh) (fD dh))) (bb t 30 (bb t 29 (fD K2) (fD K3)) (bb t 31 (fD K3) none))))) (bb t 48 (bb t 40 (bb t 36 (bb t 34 (bb t 33 none (fD (Ty.int .u32))) (bb t 35 (fD aW) (fD aT))) (bb t 38 (bb t 37 (fD aT) (fD bY)) (bb t 39 (fD bY) (fD fL)))) (bb t 44 (bb t 42 (bb t 41 (fD fL) none) (bb t 43 none (fD Ul))) (bb t 46 (bb t 45 (fD Ul) none) (bb t 47 (fD co) (fD co))))) none)) (bb t 97 (bb t 81 (bb t 73 (bb t 69 (bb t 67 (bb t 66 none (fD Uj)) none) none) (bb t 77 (bb t 75 none (bb t 76 (fD bI) (fD bI))) none)) (bb t 89 none (bb t 93 none (bb t 95 (bb t 94 (fD K7) none) (bb t 96 (fD K5) (fD K6)))))) (bb t 113 (bb t 105 (bb t 101 (bb t 99 (bb t 98 (fD K6) none) (bb t 100 none (fD Af))) none) none) (bb t 121 (bb t 117 (bb t 115 (bb t 114 (fD ia) none) (bb t 116 (fD Ti) none)) (bb t 119 none (bb t 120 (fD Oa) none))) (bb t 125 (bb t 123 none (bb t 124 none (fD K62))) (bb t 127 none (bb t 128 none (bb t 129 (fD (Ty.int .u64)) none)))))))) (bb t 195 (bb t 162 (bb t 146 (bb t 138 (bb t 134 (bb t 132 (bb t 131 (fD (Ty.int .u64)) none) (bb t 133 (fD K9) none)) (bb t 136 (bb t 135 (fD K8) none) (bb t 137 none (fD PL)))) (bb t 142 (bb t 140 (bb t 139 none (fD eB)) (bb t 141 (fD eB) none)) (bb t 144 (bb t 143 none (fD P8)) none))) none) (bb t 178 (bb t 170 (bb t 166 (bb t 164 (bb t 163 none (fD K4)) (bb t 165 (fD K4) none)) (bb t 168 none (bb t 169 none (fD Ly)))) (bb t 174 (bb t 172 (bb t 171 none (fD Z7)) none) none)) (bb t 186 (bb t 182 (bb t 180 none (bb t 181 (fD eB) (fD eB))) none) none))) (bb t 228 (bb t 211 (bb t 203 none (bb t 207 (bb t 205 (bb t 204 (fD Zj) none) (bb t 206 none (fD tH))) none)) (bb t 219 none (bb t 223 (bb t 221 (bb t 220 none (fD Ti)) none) none))) (bb t 244 (bb t 236 (bb t 232 none (bb t 234 (bb t 233 (fD (Ty.int .u64)) none) none)) (bb t 240 none (bb t 242 (bb t 241 (fD K63) none) none))) (bb t 252 none (bb t 256 (bb t 254 (bb t 253 (fD (Ty.int .u8)) (fD (Ty.int .u8))) none) (bb t 258 (bb t 257 (fD (Ty.int .i32)) (fD (Ty.int .i32))) none))))))) else none
def MS(t:Nat):Option (Nat×List Ty×Ty):=bif Nat.blt t Gh then(bb t 136 (bb t 68 (bb t 34 (bb t 17 (bb t 8 (bb t 4 (bb t 2 none (bb t 3 none (aZ 408 [dh,K3,dh,K3] Ty.bool))) (bb t 6 (bb t 5 (aZ 409 [dh,K3,dh,K3,fL,co] Ty.bool) (aZ 410 [dh,K3,dh,K3] Ty.bool)) (bb t 7 (aZ 411 [dh,K3,dh,K3,K1,bY] Ty.bool) (aZ 412 [dh,K3,dh,K3,K1] Ty.bool)))) (bb t 12 (bb t 10 (bb t 9 (aZ 413 [K1,K1,Uj,Uj] Ty.bool) (aZ 414 [dh,K3,dh,K3] Ty.bool)) (bb t 11 (aZ 415 [] Ty.bool) (aZ 416 [dh,K3,dh,K3] K64))) (bb t 14 (bb t 13 (aZ 417 [dh,K3,dh,K3] Ul) (aZ 418 [bY] Ty.bool)) (bb t 15 (aZ 187 [K1] Ty.bool) (bb t 16 (aZ 419 [K1,dh,K3,dh,K3] bY) (aZ 420 [K1,dh,K3,dh,K3] bY)))))) (bb t 25 (bb t 21 (bb t 19 (bb t 18 (aZ 421 [fL,dh,K3,dh,K3] Ty.bool) (aZ 422 [fL,dh,K3,dh,K3] Ty.bool)) (bb t 20 (aZ 423 [dh,K3,co] Ti) (aZ 424 [dh,K3,co] Ti))) (bb t 23 (bb t 22 (aZ 425 [dh,K3,dh,K3] K65) (aZ 426 [aT] Ti)) (bb t 24 (aZ 322 [bY] Ti) (aZ 64 [K1,K1] K1)))) (bb t 29 (bb t 27 (bb t 26 (aZ 427 [dh] Ty.bool) (aZ 428 [K1,bY] bY)) (bb t 28 (aZ 40 [bY,bY] bY) (aZ 63 [aT] bY))) (bb t 31 (bb t 30 (aZ 33 [K1,K1] aT) (aZ 429 [K1,K1] K3)) (bb t 32 (aZ 430 [Ti,Ti,Ti] dh) (bb t 33 (aZ 431 [K3,Ti] Ty.bool) (aZ 432 [K1,Ti] fL))))))) (bb t 51 (bb t 42 (bb t 38 (bb t 36 (bb t 35 (aZ 31 [K1] co) (aZ 324 [bY,bY] Ti)) (bb t 37 (aZ 75 [Ti] bY) (aZ 433 [dh,K3] bI))) (bb t 40 (bb t 39 none (aZ 434 [K1,bI,bI] bY)) (bb t 41 (aZ 342 [bY] Ti) (aZ 352 [bY,bY] bY)))) (bb t 46 (bb t 44 (bb t 43 (aZ 174 [bY,bY] bY) (aZ 62 [aT,aT] bY)) (bb t 45 (aZ 91 [K1,K1] aT) (aZ 54 [Ti] aT))) (bb t 48 (bb t 47 (aZ 73 [bY,bY] Ti) (aZ 173 [bY,bY] bY)) (bb t 49 (aZ 435 [bI,K1] bY) (bb t 50 (aZ 74 [Ti] bY) (aZ 436 [dh,K3,dh,K3] K2)))))) (bb t 59 (bb t 55 (bb t 53 (bb t 52 (aZ 437 [K1,dh,K3] bY) (aZ 70 [bY] bY)) (bb t 54 (aZ 438 [K1] K1) (aZ 38 [bY,bY] bY))) (bb t 57 (bb t 56 (aZ 42 [Ti,Ti] bY) (aZ 439 [bY] Ty.bool)) (bb t 58 (aZ 39 [bY,bY] bY) (aZ 97 [K1] K1)))) (bb t 63 (bb t 61 (bb t 60 (aZ 357 [bY] bY) (aZ 71 [co] Ty.bool)) (bb t 62 (aZ 440 [co,co] co) (aZ 135 [K1] co))) (bb t 65 (bb t 64 (aZ 385 [sD] Ti) (aZ 18 [K3] K7)) (bb t 66 (aZ 72 [K1,co] bY) (bb t 67 (aZ 386 [sD,K1] K1) (aZ 441 [co] Ty.bool)))))))) (bb t 102 (bb t 85 (bb t 76 (bb t 72 (bb t 70 (bb t 69 (aZ 442 [co,co] co) (aZ 19 [K3] K7)) (bb t 71 (aZ 340 [K1,co] bY) (aZ 373 [sD,K1] K1))) (bb t 74 (bb t 73 (aZ 374 [sD] Ti) (aZ 443 [bI,bI] Af)) (bb t 75 (aZ 444 [bY,Ti] K66) (aZ 371 [co,co] co)))) (bb t 80 (bb t 78 (bb t 77 (aZ 445 [bY,co] co) (aZ 333 [Ti,Ti] bY)) (bb t 79 (aZ 76 [aT] Ty.bool) (aZ 77 [aT] K5))) (bb t 82 (bb t 81 (aZ 446 [K5,Ti] Ti) (aZ 88 [bY] Ty.bool)) (bb t 83 (aZ 83 [aT] Ti) (bb t 84 (aZ 331 [sD] Ty.bool) (aZ 65 [bY,bY] bY)))))) (bb t 93 (bb t 89 (bb t 87 (bb t 86 (aZ 84 [] bY) (aZ 85 [aT,aT] aT)) (bb t 88 (aZ 87 [aT,aT] aT) (aZ 37 [aT,aT] bY))) (bb t 91 (bb t 90 (aZ 59 [aT,aT] aT) (aZ 89 [aT,aT] aT)) (bb t 92 (aZ 133 [] aT) (aZ 79 [ia,ia] aT)))) (bb t 97 (bb t 95 (bb t 94 (aZ 80 [K1] ia) (aZ 15 [K3] Ti)) (bb t 96 (aZ 32 [aT,aT] Ti) (aZ 344 [bY,Ty.bool] aT))) (bb t 99 (bb t 98 (aZ 345 [aT,aT] aT) (aZ 34 [Ti] aT)) (bb t 100 none (bb t 101 none (aZ 447 [ia] K67))))))) (bb t 119 (bb t 110 (bb t 106 (bb t 104 (bb t 103 (aZ 448 [K1] ia) (aZ 449 [bI] K2)) (bb t 105 (aZ 450 [K1,K1] ia) (aZ 136 [bY] Ty.bool))) (bb t 108 (bb t 107 (aZ 129 [aT] Ti) (aZ 130 [] bY)) (bb t 109 (aZ 61 [aT,aT] aT) (aZ 128 [aT] Ty.bool)))) (bb t 114 (bb t 112 (bb t 111 (aZ 131 [aT,aT] aT) (aZ 68 [aT] aT)) (bb t 113 (aZ 132 [aT,aT] aT) (aZ 147 [ia,ia] aT))) (bb t 116 (bb t 115 (aZ 148 [K1] ia) (aZ 116 [Ty.bool,aW] aT)) (bb t 117 (aZ 90 [aT,aT] Ti) (bb t 118 (aZ 137 [aT,aT] aT) (aZ 57 [aT,aT] aT)))))) (bb t 127 (bb t 123 (bb t 121 (bb t 120 (aZ 138 [aT] bY) (aZ 451 [K2,ia,Ti] K2)) (bb t 122 (aZ 22 [K3] K9) (aZ 112 [K1,K1] K1))) (bb t 125 (bb t 124 (aZ 379 [K1,K1] ia) (aZ 452 [dh,K3] K2)) (bb t 126 (aZ 86 [aT] aT) (aZ 336 [bY,bY] bY)))) (bb t 131 (bb t 129 (bb t 128 (aZ 392 [sD,sD] Ti) (aZ 45 [K2] PL)) (bb t 130 (aZ 46 [K2,eB] K5) (aZ 134 [co,co] bY))) (bb t 133 (bb t 132 (aZ 393 [sD] P8) (aZ 394 [K5] Ti)) (bb t 134 (aZ 48 [K2] K7) (bb t 135 (aZ 41 [co,co] bY) (aZ 387 [sD] P8))))))))) (bb t 204 (bb t 170 (bb t 153 (bb t 144 (bb t 140 (bb t 138 (bb t 137 (aZ 388 [sD,sD] Ti) (aZ 453 [co,bI,bI,Af] SE)) (bb t 139 (aZ 454 [bI,Ti] co) (aZ 21 [K3] K9))) (bb t 142 (bb t 141 (aZ 455 [aT,Ti] aT) (aZ 169 [] aT)) (bb t 143 (aZ 139 [aT] Ty.bool) (aZ 140 [K5] K5)))) (bb t 148 (bb t 146 (bb t 145 (aZ 141 [K5,Ti] Ti) (aZ 348 [sD] Ty.bool)) (bb t 147 (aZ 349 [sD] K56) (aZ 125 [] aT))) (bb t 150 (bb t 149 (aZ 124 [aT] Uk) (aZ 142 [aT] aT)) (bb t 151 (aZ 143 [K5,K5] Z9) (bb t 152 (aZ 81 [Ty.bool,K5] aT) (aZ 144 [Ti,Ti] Ti)))))) (bb t 161 (bb t 157 (bb t 155 (bb t 154 (aZ 82 [K5,K5] K5) (aZ 78 [K5,K5] Ty.bool)) (bb t 156 (aZ 126 [K5,K5] K5) (aZ 145 [Ti] Ty.bool))) (bb t 159 (bb t 158 (aZ 146 [K5,K5] K5) (aZ 12 [K2] K4)) (bb t 160 (aZ 13 [K2,K2] Ty.bool) (aZ 202 [aT] Uk)))) (bb t 165 (bb t 163 (bb t 162 (aZ 103 [K1,K1] K1) (aZ 456 [ia,ia] ia)) (bb t 164 (aZ 118 [Zj] Ty.bool) (aZ 119 [] aT))) (bb t 167 (bb t 166 (aZ 127 [aW] Ti) (aZ 167 [aT] Ty.bool)) (bb t 168 (aZ 170 [aW,aW] K34) (bb t 169 (aZ 171 [aT] aT) (aZ 172 [aT,aT] K35))))))) (bb t 187 (bb t 178 (bb t 174 (bb t 172 (bb t 171 (aZ 121 [aW,aW] Ti) (aZ 120 [aW,aW] Z8)) (bb t 173 (aZ 122 [aW,aW] aW) (aZ 155 [ia] eB))) (bb t 176 (bb t 175 (aZ 390 [ia,ia] ia) (aZ 96 [K1,K1,K1] eB)) (bb t 177 (aZ 98 [K2,eB] Ty.bool) none))) (bb t 182 (bb t 180 (bb t 179 (aZ 100 [eB,eB] Ti) (aZ 52 [K5] Ti)) (bb t 181 (aZ 53 [Ti,Ti] Ti) (aZ 101 [K1,K1] Ti))) (bb t 184 (bb t 183 (aZ 102 [Ti,K5,K2,eB] Ti) (aZ 104 [K1,K1,K1] Ti)) (bb t 185 (aZ 106 [K1,K1,K1] K1) (bb t 186 (aZ 107 [K1,K1] Ti) (aZ 108 [K7,K1] Ty.bool)))))) (bb t 195 (bb t 191 (bb t 189 (bb t 188 (aZ 109 [K2,K1,Ti] Ty.bool) (aZ 110 [K7,K6] K7)) (bb t 190 (aZ 111 [K2,K1,Ti] K5) none)) (bb t 193 (bb t 192 (aZ 51 [K8,K8] Ti) (aZ 217 [aT] Ti)) (bb t 194 (aZ 457 [aT,aW,K5] aT) (aZ 197 [aW,Ti] Zk)))) (bb t 199 (bb t 197 (bb t 196 (aZ 201 [aW,Ti] aW) (aZ 364 [Ti,Ti] Ti)) (bb t 198 (aZ 365 [Ti] Ti) (aZ 175 [K5,Ti] Ti))) (bb t 201 (bb t 200 (aZ 47 [K2] K2) (aZ 154 [K1,K1] K1)) (bb t 202 (aZ 203 [aT,aT] aT) (bb t 203 (aZ 195 [aW,Ty.int .u32] Zk) (aZ 196 [Ty.int .u32] Ti)))))))) (bb t 238 (bb t 221 (bb t 212 (bb t 208 (bb t 206 none (bb t 207 none (aZ 168 [Ty.int .u32,Ty.int .u32] Ti))) (bb t 210 (bb t 209 (aZ 186 [aT] Uk) (aZ 395 [aT,aT,aT,aT] aT)) (bb t 211 (aZ 117 [K1,K1] K1) (aZ 152 [Ti,Ti] Ti)))) (bb t 216 (bb t 214 (bb t 213 none (aZ 114 [Ty.int .u64] Ti)) (bb t 215 (aZ 115 [Ti] Ty.bool) (aZ 123 [K1,K1] K1))) (bb t 218 (bb t 217 (aZ 105 [K1,K1] Ty.bool) (aZ 156 [K2,K1,Ti,K1,K1] Ty.bool)) (bb t 219 none (bb t 220 (aZ 165 [Ty.int .u32] Ti) (aZ 458 [aW] Ti)))))) (bb t 229 (bb t 225 (bb t 223 (bb t 222 (aZ 194 [Ty.int .u32] Ty.bool) (aZ 396 [aT,aT] aT)) none) none) (bb t 233 (bb t 231 none (bb t 232 (aZ 166 [Ty.int .u64] Ti) (aZ 188 [K1,K1] Ti))) none))) (bb t 255 (bb t 246 (bb t 242 (bb t 240 none (bb t 241 none (aZ 459 [Ty.int .u32] Ti))) (bb t 244 (bb t 243 none (aZ 190 [Ti] (Ty.int .u64))) none)) (bb t 250 (bb t 248 (bb t 247 none (aZ 215 [Ti] Ti)) none) none)) none)))) else none
def qs(t:Nat):Option (List Ty×Ty):=match MS t with|some p=>some p.2|none=>none
def uj(t:Nat):Nat:=match MS t with|some p=>p.1|none=>0
def jT(t:Nat):Nat:=(bb t 136 0 (bb t 204 (bb t 170 (bb t 153 (bb t 144 (bb t 140 (bb t 138 (bb t 137 0 3) 0) 0) 0) 0) (bb t 187 (bb t 178 0 (bb t 182 0 (bb t 184 (bb t 183 3 0) 0))) 0)) 0))
def Ik(t:Nat):Option (Ty×Ty):=bif Nat.blt t JH then(bb t 130 (bb t 65 none (bb t 97 none (bb t 113 none (bb t 121 (bb t 117 none (bb t 119 none (bb t 120 none (some (K1,Ty.bool))))) none)))) (bb t 195 (bb t 162 none (bb t 178 none (bb t 186 (bb t 182 none (bb t 184 (bb t 183 none (some (eB,Ty.bool))) none)) none))) none)) else none
def Ws:List Nat:=[0,1,2,0,0,0,0,0,0,0,0,0,158,159,0,94,0,0,64,69,0,139,121,0,0,0,0,0,0,0,0,34,95,29,98,0,0,88,54,57,27,134,55,0,0,128,129,199,133,0,190,191,179,180,45,0,0,118,0,89,0,108,43,28,24,84,0,0,111,0,52,60,65,46,49,36,78,79,154,92,93,151,153,82,85,86,125,87,81,90,116,44,0,0,0,0,175,58,176,177,178,181,182,161,183,216,184,185,186,187,188,189,122,218,213,214,115,210,163,164,171,170,172,215,148,147,155,165,109,106,107,110,112,91,130,62,105,117,119,142,143,144,149,150,152,156,157,113,114,0,0,0,211,212,200,173,217,233,234,235,236,237,238,239,240,219,231,166,207,141,167,168,169,47,42,198,0,0,223,224,225,226,227,228,229,230,208,14,232,248,243,244,249,250,221,202,203,194,204,205,206,195,160,201,0,0,0,0,0,0,0,0,242,245,246,247,252,192,0,0,0,251,0,253,254,255,256,257,258,259,260,261,262,263,264,265,266,267,268,0,0,0,0,0,0,0,0,0,0,0,0,0,0,0,0,0,0,0,0,0,0,0,0,0,0,0,0,0,0,0,0,0,0,0,0,0,0,0,0,0,0,0,0,0,0,0,0,0,0,0,0,0,0,0,0,0,0,0,0,0,0,0,0,0,0,0,0,0,0,0,0,0,0,0,0,0,0,0,0,0,0,0,23,0,35,0,0,0,0,0,0,83,0,77,0,0,126,0,0,0,70,0,40,0,96,97,0,0,145,146,0,0,41,0,0,0,0,59,0,0,0,0,0,0,196,197,0,0,0,0,0,75,0,71,72,0,0,0,0,123,0,0,0,0,0,63,66,135,136,0,174,0,127,131,132,209,222,0,0,0,0,0,0,0,0,0,0,0,3,4,5,6,7,8,9,10,11,12,13,15,16,17,18,19,20,21,22,25,26,30,31,32,33,37,39,48,50,51,53,56,61,67,68,73,74,76,80,101,102,103,104,120,124,137,138,140,162,193,220,241,269,270,271,272,38,100,99]
def cw(k:Nat):Nat:=Ws.getD k 0
def Rh:List Nat:=[73]
def qi(f:Nat):Bool:=Rh.any (Nat.beq f)
def Zs:List Nat:=[49,120]
def Xp(t:Nat):Bool:=Zs.any (Nat.beq t)
def dm(lp:{α β:Type}->(α->Option (Sum α β))->α->Option β)(call:Nat->List D->Option D)(inl:Inl):Env:={ L:=Rt,sig:=qs,call:=λf=>call (uj f),mapL:=Ik,fnT:=Xp,ownF:=qi,lp:=lp,inl:=inl.f,cod:=inl.cod,free:=jT,pv:=inl.pv }
def Ef:List (Nat×(Func×Ty))->Nat->Option (Func×Ty)
 | [],_=>none
 | p::l,f=>bif Nat.beq f p.1 then some p.2 else Ef l f
theorem rO:∀ {l:List (Nat×(Func×Ty))} {f:Nat} {p:Func×Ty},Ef l f=some p->(f,p)∈l
 | [],_,_,h=>by cases h
 | q::l,f,p,h=>by
  simp only[Ef] at h;cases hb:Nat.beq f q.1
  ·rw[hb] at h;exact zia _ (rO h)
  ·rw[hb] at h;cases h;rw[zuc hb];exact zoa
open Go.Proofs in
def Pq:List (Nat×(Func×Ty)):=[(38,(Tryz.f38,Ty.fn)),(99,(Tryz.f99,SE)),(100,(Tryz.f100,Ty.bool)),(137,(Tryz.f137,SE)),(178,(Tryz.f178,Ty.int .i64)),(182,(Tryz.f182,Ty.int .i64)),(191,(Tryz.f191,Ty.int .i64)),(204,(Tryz.f204,Ty.int .u64)),(205,(Tryz.f205,Ty.bool)),(206,(Tryz.f206,SE))]
open Go.Proofs in
def M5:List (Nat×(Func×Ty)):=Pq++[(120,(Tryz.f120,K2))]
def M0(v f:Nat):Option (Func×Ty):=Ef (bif Nat.beq v 2 then M5 else Pq) f
def Jc{v f:Nat}{p:Func×Ty}(h:M0 v f=some p):(f,p)∈M5:=by
 unfold M0 at h;cases hb:Nat.beq v 2
 ·rw[hb] at h;exact List.mem_append_left _ (rO h)
 ·rw[hb] at h;exact rO h
end Sy
end
noncomputable section
namespace Sy
open Go
def uW(P:Program):Bool:=((List.range JH).all λt=>match Rt t with|some ty=>bK P ty t&&decide (ty.high<=1000)&&aq ty|none=>true)&&Zs.all (Me P)
def I5(P:Program)(f:Nat)(g:List Ty×Ty):Bool:=
 bw g.1 && (aq g.2 || match g.2 with | .tup ts => bw ts | _ => false) && match P.funcs[f]? with | some fn => !(fn.name == "runtime.NumGoroutine") && fn.body.isSome | none => false
def CO(P:Program):Bool:=(List.range JH).all λt=>match Ik t with|some g=>bU g.1&&decide (g.1.high<=1000)&&(match P.underlying t with|some (.map K V)=>bK P g.1 K&&bK P g.2 V|_=>false)|none=>true
def Dj(P:Program):Bool:=(List.range Gh).all λf=>match qs f with|some g=>I5 P f g|none=>true
def Nc{t:Nat}{ty:Ty}(h:Rt t=some ty):t<JH:=by
 unfold Rt at h;rcases zla t JH with k|k
 ·exact k
 ·have:Nat.blt t JH=false:=zoc.2 λa=>absurd (Nat.blt_eq ▸ a) (zEc.2 k);rw[this] at h;cases h
def Il{t:Nat}{g:Ty×Ty}(h:Ik t=some g):t<JH:=by
 unfold Ik at h;rcases zla t JH with k|k
 ·exact k
 ·have:Nat.blt t JH=false:=zoc.2 λa=>absurd (Nat.blt_eq ▸ a) (zEc.2 k);rw[this] at h;cases h
def BP{t:Nat}{ty:List Ty×Ty}(h:qs t=some ty):t<Gh:=by
 unfold qs MS at h;rcases zla t Gh with k|k
 ·exact k
 ·have:Nat.blt t Gh=false:=zoc.2 λa=>absurd (Nat.blt_eq ▸ a) (zEc.2 k);rw[this] at h;cases h
def iC(P:Program)(call:Nat->List D->Option D):Prop:=∀ f a b xs y,qs f=some (a,b)->call (uj f) xs=some y->fI a xs->JJ P (qi f) (jT f) a b f xs y
abbrev Lp:Type 1:={α β:Type}->(α->Option (Sum α β))->α->Option β
def ar(lp:Lp):Prop:=∀ (α β:Type) (body:α->Option (Sum α β)) (x:α) (y:β),lp body x=some y->∃ n,p8 body n x=some y
def xE(N:Nat):ar (λbody=>p8 body N):=λ_ _ _ _ _ h=>⟨N,h⟩
def u6:ar (λbody=>mI body):=λ_ _ _ _ _ h=>oV h
def H5(pv:Bool)(a:Nat->Option (Func×Ty))(lp:Lp)(call:Nat->List D->Option D):Nat->Inl
 | 0=>⟨pv,λ_=>none,λ_ _ _ _ _=>none⟩
 | n+1=>⟨pv,λf=>match a f with
  | some p=>some (O6 (dm lp call (H5 pv a lp call n)) p.1 p.2)
  | none=>none,λc an R s k=>Mc (dm lp call (H5 pv a lp call n)) c an R s k⟩
def OU{P:Program}(h:uW P=true){t:Nat}(a:Xp t=true):Me P t=true:=by
 simp only[uW,zaa] at h;exact zma.1 h.2 t (by simpa [Xp] using a)
section
variable{P:Program}
def uF(h1:uW P=true)(h2:Dj P=true)(h4:CO P=true)(h3:P.follows .mixedOrders=true){lp:Lp}(hlp:ar lp){call:Nat->List D->Option D}(hc:iC P call)
  {inl : Inl} (hcod : GJ P inl.cod) (hi : ∀ f g, inl.f f = some g -> (∃ fn, P.funcs[f]? = some fn /\ (fn.name == "runtime.NumGoroutine") = false /\ fn.body.isSome = true) /\ G3 P f g) : EnvOk P (dm lp call inl) := by
 have k1:∀ t ty,Rt t=some ty->bK P ty t=true/\ty.high<=1000/\aq ty=true:=λt ty ht=>by
  have:=zma.1 (zaa _ _ ▸ h1:_/\_).1 t (zLa.2 (Nc ht));rw[ht] at this;simp only[zaa,decide_eq_true_eq] at this;exact⟨this.1.1,this.1.2,this.2⟩
 refine⟨λt ty ht=>.inr (k1 t ty ht).1,λt ty ht=>(k1 t ty ht).2.1,λt ty ht=>(k1 t ty ht).2.2,λf ptys rty hf=>?_,hc,h3,hlp,λt kt vt ht=>?_,hi,hcod,λt ht=>OU h1 ht⟩
 ·have:=zma.1 h2 f (zLa.2 (BP hf));rw[show qs f=some (ptys,rty) from hf] at this;simp only[I5,zaa,zHb] at this;obtain⟨⟨q1,q2⟩,q3⟩:=this;refine⟨q1,?_,?_⟩
  ·rcases q2 with q2|q2
   ·exact .inl q2
   ·right;split at q2
    ·rename_i ts;exact⟨_,rfl,q2⟩
    ·cases q2
  ·split at q3
   ·rename_i fn hfn;simp only[zaa,zCa] at q3;exact⟨fn,hfn,q3⟩
   ·cases q3
 ·have:=zma.1 h4 t (zLa.2 (Il ht));rw[show Ik t=some (kt,vt) from ht] at this;simp only[zaa,decide_eq_true_eq] at this;obtain⟨⟨m1,m2⟩,m3⟩:=this;refine⟨m1,?_⟩;split at m3<;>first|(cases m3;done)|skip
  rename_i K V hu;simp only[zaa] at m3;exact⟨K,V,hu,m3.1,m3.2,m2⟩
def Dm (P : Program) (f : Nat) (p : Func × Ty) : Prop := P.funcs[f]? = some p.1 /\ (!(p.1.name == "runtime.NumGoroutine") && p.1.body.isSome && Df p.1.results.size p.2) = true
theorem za{pv:Bool}{b:Nat->Option (Func×Ty)}(h1:uW P=true)(c:Dj P=true)(e:CO P=true)(d:P.follows .mixedOrders=true)(j:∀ f p,b f=some p->Dm P f p){lp:Lp}(a:ar lp){call:Nat->List D->Option D}(hc:iC P call) :
  ∀ n,EnvOk P (dm lp call (H5 pv b lp call n))
 | 0=>uF h1 c e d a hc (λ_ _ _ _ _ _ _ _ _ _ _ _ _ _ _ _ _ h=>by cases h) λf g h=>by cases h
 | n+1=>uF h1 c e d a hc (OI (za h1 c e d j a hc n)) λf g h=>by
  simp only[H5] at h;split at h<;>first|(cases h;done)|skip
  rename_i p hp;cases h;obtain⟨k,i⟩:=j f p hp;simp only[zaa,zCa] at i;exact⟨⟨p.1,k,i.1.1,i.1.2⟩,Mh (za h1 c e d j a hc n) k i.2⟩
end
end Sy
end
noncomputable section
namespace Sy
open Go Go.Proofs
def A7:uW Tryz.prog=true:=by kernel_rfl
def BO:Dj Tryz.prog=true:=by kernel_rfl
def Be:CO Tryz.prog=true:=by kernel_rfl
def CP:Tryz.prog.follows .mixedOrders=true:=by kernel_rfl
def H4(v:Nat)(lp:Lp)(call:Nat->List D->Option D):Inl:=H5 (Nat.beq v 1) (M0 v) lp call 9
noncomputable abbrev jN(lp:Lp)(call:Nat->List D->Option D):Inl:=H4 0 lp call
def M4(v:Nat):∀ f p,M0 v f=some p->Dm Tryz.prog f p:=by
 intro f p h;have key:∀ q∈M5,Dm Tryz.prog q.1 q.2:=by
  intro q hq;simp only[M5,Pq,zqb,zcc,zwa,zgc,or_false] at hq;repeat' first
   | (rcases hq with hq|hq;· subst hq;exact⟨by kernel_rfl,by kernel_rfl⟩)
   | (subst hq;exact⟨by kernel_rfl,by kernel_rfl⟩)
 exact key (f,p) (Jc h)
def QU{v:Nat}{lp:Lp}(a:ar lp){call:Nat->List D->Option D}(hc:iC Tryz.prog call):EnvOk Tryz.prog (dm lp call (H4 v lp call)):=
 za A7 BO Be CP (M4 v) a hc 9
def QV{lp:Lp}(a:ar lp){call:Nat->List D->Option D}(hc:iC Tryz.prog call):EnvOk Tryz.prog (dm lp call (jN lp call)):=QU a hc
def Rf(o:Oper):Option ByteArray:=match o.op with|.index _ (.const (.string s)) _=>some s|_=>none
def qw:Code->Option ByteArray
 | .region _ ops _=>ops.toList.findSome? Rf
 | .seq a b=>(qw a).orElse λ_=>qw b
 | .cond _ a b=>(qw a).orElse λ_=>qw b
 | .block _ a=>qw a
 | .loop a=>qw a
 | .scope a=>qw a
 | _=>none
def HE(f:Func):Code:=match f.body with|some c=>c|none=>.skip
end Sy
end
noncomputable section
namespace Sy
open Go Go.Proofs
inductive CT where
 | leaf (k:Nat) (g:(Nat->List D->Option D)->List D->Option D)
 | node (m:Nat) (a b:CT)
def CT.get:CT->Nat->(Nat->List D->Option D)->List D->Option D
 | .leaf k g,f,call,xs=>bif Nat.beq f k then g call xs else none
 | .node m a b,f,call,xs=>bif Nat.blt f m then a.get f call xs else b.get f call xs
def ah(f:Nat)(g:(Nat->List D->Option D)->List D->Option D):Prop:=
 ∀ call,iC Tryz.prog call->∀ a b xs y,qs (cw f)=some (a,b)->g call xs=some y->fI a xs->JJ Tryz.prog (qi (cw f)) (jT (cw f)) a b (cw f) xs y
def CT.ok:CT->Prop
 | .leaf k g=>ah k g
 | .node _ a b=>a.ok/\b.ok
theorem CT.get_ok':∀ {t:CT},t.ok->∀ {call},iC Tryz.prog call->∀ f c d xs y,qs (cw f)=some (c,d)->t.get f call xs=some y->fI c xs->JJ Tryz.prog (qi (cw f)) (jT (cw f)) c d (cw f) xs y
 | .leaf k g,h,call,hc,f,c,d,xs,y,i,e,hw=>by
  simp only[CT.get] at e;cases hb:Nat.beq f k with
  | false=>rw[hb] at e;cases e
  | true=>
   rw[hb] at e;have:=zuc hb;subst this;exact h call hc c d xs y i e hw
 | .node m a b,h,call,hc,f,c,d,xs,y,i,e,hw=>by
  simp only[CT.get] at e;cases hb:Nat.blt f m with
  | false=>rw[hb] at e;exact CT.get_ok' h.2 hc f c d xs y i e hw
  | true=>rw[hb] at e;exact CT.get_ok' h.1 hc f c d xs y i e hw
def Od:((List.range Gh).all λf=>match MS f with|some p=>Nat.beq (cw p.1) f|none=>true)=true:=by kernel_rfl
def LB{f:Nat}{g:List Ty×Ty}(h:qs f=some g):cw (uj f)=f:=by
 have a:=zma.1 Od f (zLa.2 (BP h));unfold qs at h;unfold uj;split at h<;>first|(cases h;done)|skip
 rename_i p hp;rw[hp] at a;exact zuc a
def CT.get_ok{t:CT}(h:t.ok){call}(hc:iC Tryz.prog call):iC Tryz.prog λf xs=>t.get f call xs:=λf a b xs y c d hw=>by
 have e:=LB c;have:=CT.get_ok' h hc (uj f) a b xs y (by rw[e];exact c) d hw
 rwa [e] at this
def Fo(v:Nat)(lp:Lp)(f:Nat)(fn:Func)(ann:Ann)(call:Nat->List D->Option D)(xs:List D):Option D:=
 (qs (cw f)).bind λs=>bif qi (cw f) then(match s.2 with|.sl t=>(ON (dm lp call (H4 v lp call)) fn ann s.1 t xs).bind λl=>some (.sl l)|_=>none) else bif Nat.beq (jT (cw f)) 0 then Xm (dm lp call (H4 v lp call)) fn ann s.1 s.2 xs else OO (dm lp call (H4 v lp call)) fn ann s.1 (jT (cw f)) s.2 xs
def Mn(f:Nat)(fn:Func):Bool:=match qs (cw f) with
 | some (p,r)=>decide (p.length<=fn.ntmps)&&jy fn.results.size r&&bw p&&(decide (jT (cw f)<=p.length)&&(bif qi (cw f) then Nat.beq (jT (cw f)) 0 else decide (jT (cw f)<=4095)))
 | none=>false
def qb{v:Nat}{lp:Lp}(e:ar lp){f:Nat}{fn:Func}{ann:Ann}(d:Tryz.prog.funcs[cw f]?=some fn)(hk:Mn f fn=true):ah f (Fo v lp f fn ann):=by
 intro call hc m q xs y o a hw;unfold Fo at a;unfold Mn at hk;rw[o] at a hk;simp only[zba] at a;simp only[zaa,decide_eq_true_eq] at hk;obtain⟨⟨⟨g,j⟩,i⟩,p,b⟩:=hk;have c:=QU (v:=v) e hc;cases how:qi (cw f) with
 | true=>
  rw[how] at a;simp only[cond_true] at a;split at a<;>first|(cases a;done)|skip
  rename_i t;obtain⟨l,h1,n⟩:=bind_some_inv a;cases n;have hO:=AD c d g i h1;have h0:jT (cw f)=0:=by
   rw[how] at b;simpa using b
  rw[h0];exact⟨hO.ctr,λ_=>⟨t,l,rfl,rfl,hO⟩⟩
 | false=>
 rw[how] at a;simp only[cond_false] at a;refine⟨?_,λh=>by cases h⟩
 cases hz:jT (cw f) with
 | zero=>
  rw[hz] at a;exact Fj c d g i j a
 | succ k=>
  rw[hz] at a;exact Cs c d g i (by rw[<-hz];exact p) (by rw[<-hz];rw[how] at b;simpa using b) j a
abbrev Ann.tl(a:Ann):Ann:=.two .leaf a
section
variable{α:Type}
noncomputable abbrev qT(x:D)(f:Bool->Option α):Option α:=(D.truth x).bind f
noncomputable abbrev qG(x:D)(p:List Nat)(f:D->Option α):Option α:=(D.get x p).bind f
noncomputable abbrev qS(x:D)(f:List D->Option α):Option α:=(D.asSl x).bind f
noncomputable abbrev qI(x:D)(l:List D)(f:D->Option α):Option α:=(D.idx x l.length).bind λk=>(l[k]?).bind f
noncomputable abbrev qB(o:BinOp)(x y:D)(f:D->Option α):Option α:=(D.bin o x y).bind f
noncomputable abbrev qC(o:BinOp)(x y:D)(f:Bool->Option α):Option α:=(D.bin o x y).bind λz=>(D.truth z).bind f
noncomputable abbrev qN(x:D)(f:Bool->Option α):Option α:=(D.un .not x).bind λz=>(D.truth z).bind f
noncomputable abbrev qX(x i:D)(f:D->Option α):Option α:=(D.asSl x).bind λl=>(D.idx i l.length).bind λk=>(l[k]?).bind f
noncomputable abbrev qL(x i:D)(f:Bool->Option α):Option α:=(D.asSl x).bind λl=>(D.bin .lss i (.int .i64 l.length)).bind λz=>(D.truth z).bind f
noncomputable abbrev qY(x:D)(p:List Nat)(i:D)(f:D->Option α):Option α:=(D.get x p).bind λx=>(D.asSl x).bind λl=>(D.idx i l.length).bind λk=>(l[k]?).bind f
noncomputable abbrev qM(x:D)(p:List Nat)(i:D)(f:Bool->Option α):Option α:=(D.get x p).bind λx=>(D.asSl x).bind λl=>(D.bin .lss i (.int .i64 l.length)).bind λz=>(D.truth z).bind f
noncomputable abbrev qP(x:D)(p:List Nat)(f:List D->Option α):Option α:=(D.get x p).bind λx=>(D.asSl x).bind f
noncomputable abbrev qJ(i:D)(n:Nat)(x:D)(f:D->Option α):Option α:=(D.idx i n).bind λk=>(D.get x [k]).bind f
end
abbrev qV(l:List D)(i:Nat):List D:=(l.getD i (.bool false)).els
abbrev qW(l:List D)(i:Nat):D:=D.sl ((l.getD i (.bool false)).els)
abbrev qZ(lp:Lp)(f:List D->Option (Sum (List D) (Nat×List D))):List D->Option (Nat×List D):=lp f
abbrev iL(l:List D):Option (Sum (List D) (Nat×List D)):=some (Sum.inl l)
abbrev iR(l:Nat×List D):Option (Sum (List D) (Nat×List D)):=some (Sum.inr l)
abbrev LO:Type:=List (Nat×ShO)
abbrev LS:Type:=List (Nat×Sh)
abbrev Jn(n:Int):D:=.int .i64 n
abbrev Ca:Type:=Nat->List D->Option D
abbrev Sh.di:Sh:=.dv (.int .i64)
abbrev Sh.sp(t:Ty)(i:Nat):Sh:=.same (.ptr t i [])
def m0(F:(Nat->List D->Option D)->Option D)(call:Nat->List D->Option D)(xs:List D):Option D:=match xs with|[]=>F call|_=>none
def xx(v:Nat)(fn:Func)(ann:Ann){lp:Lp}(c:ar lp){f:Nat}{F:(Nat->List D->Option D)->Option D}(g:Tryz.prog.funcs[cw f]?=some fn:=by kernel_rfl)(hk:Mn f fn=true:=by kernel_rfl)
  (e:∀ call,Fo v lp f fn ann call []=F call:=by intros;kernel_rfl):ah f (m0 F):=by
 intro call hc a d xs y h b hw;unfold m0 at b;split at b<;>first|(cases b;done)|skip
 exact qb (v:=v) c g hk call hc a d _ y h ((e call).trans b) hw
def m1(F:(Nat->List D->Option D)->D->Option D)(call:Nat->List D->Option D)(xs:List D):Option D:=match xs with|[a0]=>F call a0|_=>none
def bh(v:Nat)(fn:Func)(ann:Ann){lp:Lp}(c:ar lp){f:Nat}{F:(Nat->List D->Option D)->D->Option D}(g:Tryz.prog.funcs[cw f]?=some fn:=by kernel_rfl)(hk:Mn f fn=true:=by kernel_rfl)
  (e:∀ call a0,Fo v lp f fn ann call [a0]=F call a0:=by intros;kernel_rfl):ah f (m1 F):=by
 intro call hc a d xs y h b hw;unfold m1 at b;split at b<;>first|(cases b;done)|skip
 exact qb (v:=v) c g hk call hc a d _ y h ((e call _).trans b) hw
def m2(F:(Nat->List D->Option D)->D->D->Option D)(call:Nat->List D->Option D)(xs:List D):Option D:=match xs with|[a0,a1]=>F call a0 a1|_=>none
def aO(v:Nat)(fn:Func)(ann:Ann){lp:Lp}(c:ar lp){f:Nat}{F:(Nat->List D->Option D)->D->D->Option D}(g:Tryz.prog.funcs[cw f]?=some fn:=by kernel_rfl)(hk:Mn f fn=true:=by kernel_rfl)
  (e:∀ call a0 a1,Fo v lp f fn ann call [a0,a1]=F call a0 a1:=by intros;kernel_rfl):ah f (m2 F):=by
 intro call hc a d xs y h b hw;unfold m2 at b;split at b<;>first|(cases b;done)|skip
 exact qb (v:=v) c g hk call hc a d _ y h ((e call _ _).trans b) hw
def m3(F:(Nat->List D->Option D)->D->D->D->Option D)(call:Nat->List D->Option D)(xs:List D):Option D:=match xs with|[a0,a1,a2]=>F call a0 a1 a2|_=>none
def qa(v:Nat)(fn:Func)(ann:Ann){lp:Lp}(c:ar lp){f:Nat}{F:(Nat->List D->Option D)->D->D->D->Option D}(g:Tryz.prog.funcs[cw f]?=some fn:=by kernel_rfl)(hk:Mn f fn=true:=by kernel_rfl)
  (e:∀ call a0 a1 a2,Fo v lp f fn ann call [a0,a1,a2]=F call a0 a1 a2:=by intros;kernel_rfl):ah f (m3 F):=by
 intro call hc a d xs y h b hw;unfold m3 at b;split at b<;>first|(cases b;done)|skip
 exact qb (v:=v) c g hk call hc a d _ y h ((e call _ _ _).trans b) hw
def m4(F:(Nat->List D->Option D)->D->D->D->D->Option D)(call:Nat->List D->Option D)(xs:List D):Option D:=match xs with|[a0,a1,a2,a3]=>F call a0 a1 a2 a3|_=>none
def If(v:Nat)(fn:Func)(ann:Ann){lp:Lp}(c:ar lp){f:Nat}{F:(Nat->List D->Option D)->D->D->D->D->Option D}(g:Tryz.prog.funcs[cw f]?=some fn:=by kernel_rfl)(hk:Mn f fn=true:=by kernel_rfl)
  (e:∀ call a0 a1 a2 a3,Fo v lp f fn ann call [a0,a1,a2,a3]=F call a0 a1 a2 a3:=by intros;kernel_rfl):ah f (m4 F):=by
 intro call hc a d xs y h b hw;unfold m4 at b;split at b<;>first|(cases b;done)|skip
 exact qb (v:=v) c g hk call hc a d _ y h ((e call _ _ _ _).trans b) hw
def m5(F:(Nat->List D->Option D)->D->D->D->D->D->Option D)(call:Nat->List D->Option D)(xs:List D):Option D:=match xs with|[a0,a1,a2,a3,a4]=>F call a0 a1 a2 a3 a4|_=>none
def Ig(v:Nat)(fn:Func)(ann:Ann){lp:Lp}(c:ar lp){f:Nat}{F:(Nat->List D->Option D)->D->D->D->D->D->Option D}(g:Tryz.prog.funcs[cw f]?=some fn:=by kernel_rfl)(hk:Mn f fn=true:=by kernel_rfl)
  (e:∀ call a0 a1 a2 a3 a4,Fo v lp f fn ann call [a0,a1,a2,a3,a4]=F call a0 a1 a2 a3 a4:=by intros;kernel_rfl):ah f (m5 F):=by
 intro call hc a d xs y h b hw;unfold m5 at b;split at b<;>first|(cases b;done)|skip
 exact qb (v:=v) c g hk call hc a d _ y h ((e call _ _ _ _ _).trans b) hw
def m6(F:(Nat->List D->Option D)->D->D->D->D->D->D->Option D)(call:Nat->List D->Option D)(xs:List D):Option D:=match xs with|[a0,a1,a2,a3,a4,a5]=>F call a0 a1 a2 a3 a4 a5|_=>none
def Rb(v:Nat)(fn:Func)(ann:Ann){lp:Lp}(c:ar lp){f:Nat}{F:(Nat->List D->Option D)->D->D->D->D->D->D->Option D}(g:Tryz.prog.funcs[cw f]?=some fn:=by kernel_rfl)(hk:Mn f fn=true:=by kernel_rfl)
  (e:∀ call a0 a1 a2 a3 a4 a5,Fo v lp f fn ann call [a0,a1,a2,a3,a4,a5]=F call a0 a1 a2 a3 a4 a5:=by intros;kernel_rfl):ah f (m6 F):=by
 intro call hc a d xs y h b hw;unfold m6 at b;split at b<;>first|(cases b;done)|skip
 exact qb (v:=v) c g hk call hc a d _ y h ((e call _ _ _ _ _ _).trans b) hw
abbrev gx(l:List D)(i:Nat):D:=l.getD i (.bool false)
end Sy
end
noncomputable section
set_option maxHeartbeats 0
noncomputable section
namespace Sy
open Go Go.Proofs
def Zy:Ann:=let a:LO:=[(4098,.one K4 (.st [K3,Ti] [.st [K2] [.ow K1],.di])),(36871,.one K4 (.st [K3,Ti] [.st [K2] [.ow K1],.di]))]
 let b:LO:=[(4098,.one K4 (.st [K3,Ti] [.st [K2] [.ow K1],.di]))]
 let c:LS:=[(2,.sp K4 4098),(7,.sp K4 36871),(9,.dv Ty.bool)]
 let d:LS:=[(2,.sp K4 4098),(7,.sp K4 36871)]
 (.tl (.tl (.two (.tl (.two (.loop ⟨[(2,.sp K4 4098),(3,.di)],b,[0]⟩ [(.ret,⟨[(2,.sp K4 4098)],b,[]⟩),(.exit 0,⟨[(2,.sp K4 4098)],b,[0]⟩)] (.tl (.two (.two (.tl (.two (.loop ⟨[(2,.sp K4 4098),(4,.di)],b,[0,3]⟩ [(.ret,⟨[(2,.sp K4 4098)],b,[]⟩),(.exit 2,⟨[(2,.sp K4 4098)],b,[0,3]⟩)] .leaf) .leaf)) .leaf) .leaf))) .leaf)) (.tl (.tl (.tl (.tl (.tl (.two (.tl (.two (.loop ⟨[(2,.sp K4 4098),(7,.sp K4 36871),(8,.di)],a,[5,6]⟩ [(.exit 4,⟨d,a,[]⟩)] (.tl (.cut [(.normal,⟨d,a,[5,6,8]⟩)] [5,6,8] [] (.two (.tl (.two (.tl (.two (.loop ⟨[(2,.sp K4 4098),(7,.sp K4 36871),(9,.dv Ty.bool),(10,.di)],a,[5,6,8]⟩ [(.exit 6,⟨c,a,[5,6,8]⟩)] (.tl (.two (.two (.tl (.two (.loop ⟨[(2,.sp K4 4098),(7,.sp K4 36871),(9,.dv Ty.bool),(11,.di)],a,[5,6,8,10]⟩ [(.exit 8,⟨c,a,[5,6,8,10]⟩)] .leaf) .leaf)) .leaf) .leaf))) .leaf)) (.tl (.two (.reg [] 8) .leaf)))) .leaf) .leaf))) .leaf)) .leaf)))))))))
def PG(lp:Lp)(c:Ca)(a0:D):Option D:=
 qS a0 λR=>
 qC .gtr (Jn (R.length)) (Jn 64) λP=>
 if P then(some (D.st [(D.st [(D.sl [])]),(Jn 2)])) else((qZ lp (λv4=>
 qL a0 (gx v4 0) λQ=>
 if Q then((qZ lp (λh=>
 qC .lss (gx h 0) (Jn 3) λl=>
 if l then(qX a0 (gx v4 0) λz=>
(D.idx (gx h 0) 3).bind λi14=>
(D.fld z i14).bind λA=>
 qC .gtr A (Jn 262144) λm=>
(if m then(some true) else(qX a0 (gx v4 0) λB=>
(D.idx (gx h 0) 3).bind λi21=>
(D.fld B i21).bind λC=>
 qB .lss C (Jn (-262144)) λE=>
 D.truth E)).bind λn=>
 qT (D.bool n) λo=>
 if o then(iR (0,[(D.sl []),(Jn 1)])) else(qB .add (gx h 0) (Jn 1) λF=>
 iL [F,(qW h 1),(gx h 2)])) else(iR (1,[(qW h 1),(gx h 2)]))) [(Jn 0),(qW v4 1),(gx v4 2)]).bind λb=>
 if b.1=0 then(iR (0,[(qW b.2 0),(gx b.2 1)])) else(qB .add (gx v4 0) (Jn 1) λG=>
 iL [G,(qW b.2 0),(gx b.2 1)])) else(iR (1,[(qW v4 1),(gx v4 2)]))) [(Jn 0),(D.sl []),(Jn 0)]).bind λd=>
 if d.1=0 then(some (D.st [(D.st [(qW d.2 0)]),(gx d.2 1)])) else((c 47 [a0]).bind λi=>
(c 48 [i]).bind λe=>
 qS e λx=>
 qT (D.bool (D.beq (Jn (x.length)) (Jn 0))) λp=>
 if p then(some (D.st [(D.st [(D.sl [])]),(Jn 120)])) else(qS e λy=>
 qC .gtr (Jn (y.length)) (Jn 64) λq=>
 if q then(some (D.st [(D.st [(D.sl [])]),(Jn 2)])) else((qZ lp (λv37=>
 qL i (gx v37 0) λr=>
 if r then(((qZ lp (λv41=>
 qL e (gx v41 1) λs=>
 if s then((qZ lp (λv45=>
 qX e (gx v41 1) λH=>
(D.fld H 2).bind λI=>
 qL I (gx v45 1) λt=>
 if t then(qT (gx v45 0) λu=>
(if u then(some true) else(qX e (gx v41 1) λJ=>
(D.fld J 2).bind λK=>
 qX K (gx v45 1) λL=>
 D.truth (D.bool (D.beq L (gx v37 0))))).bind λv=>
 qB .add (gx v45 1) (Jn 1) λM=>
 iL [(D.bool v),M,(qW v45 2),(gx v45 3),(qW v45 4),(gx v45 5)]) else(iR (0,[(gx v45 0),(qW v45 2),(gx v45 3),(qW v45 4),(gx v45 5)]))) [(gx v41 0),(Jn 0),(qW v41 2),(gx v41 3),(qW v41 4),(gx v41 5)]).bind λf=>
 qB .add (gx v41 1) (Jn 1) λN=>
 iL [(gx f.2 0),N,(qW f.2 1),(gx f.2 2),(qW f.2 3),(gx f.2 4)]) else(iR (0,[(gx v41 0),(qW v41 2),(gx v41 3),(qW v41 4),(gx v41 5)]))) [(D.bool false),(Jn 0),(qW v37 1),(gx v37 2),(qW v37 3),(gx v37 4)]).bind λa=>
 qT (gx a.2 0) λw=>
 if w then(qX i (gx v37 0) λk=>
 if List.length (qV a.2 3)+List.length [k]<=1073741824 then(some (0,[(qW a.2 1),(gx a.2 2),(D.sl ((qV a.2 3)++[k])),(gx a.2 4)])) else none) else(some (0,[(qW a.2 1),(gx a.2 2),(qW a.2 3),(gx a.2 4)]))).bind λ(g:Nat×List D)=>
 qB .add (gx v37 0) (Jn 1) λO=>
 iL [O,(qW g.2 0),(gx g.2 1),(qW g.2 2),(gx g.2 3)]) else(iR (0,[(qW v37 1),(gx v37 2),(qW v37 3),(gx v37 4)]))) [(Jn 0),(qW d.2 0),(gx d.2 1),(D.sl []),(Jn 0)]).bind λj=>
 some (D.st [(D.st [(qW j.2 2)]),(gx j.2 3)])))))
def L12{lp}(a:ar lp):ah 12 (m1 (PG lp)):=bh 0 Tryz.f158 Zy a
def Zz:Ann:=(.tl (.tl (.two (.tl (.two (.loop ⟨[(5,.di)],[],[0,1]⟩ [(.ret,⟨[(4,.dv Ty.bool)],[],[]⟩),(.exit 0,⟨[],[],[]⟩)] (.tl (.two (.two (.two (.reg [] 8) .leaf) .leaf) .leaf))) .leaf)) .leaf)))
def RQ(lp:Lp)(c:Ca)(a0:D)(a1:D):Option D:=
 qS a0 λi=>
 qS a1 λj=>
 qT (D.bool (!(D.beq (Jn (i.length)) (Jn (j.length))))) λg=>
 if g then(some (D.bool false)) else((qZ lp (λv4=>
 qL a0 (gx v4 0) λh=>
 if h then(qX a0 (gx v4 0) λd=>
 qX a1 (gx v4 0) λe=>
 qT (D.bool (!(D.beq d e))) λb=>
 if b then(iR (0,[(D.bool false)])) else(qB .add (gx v4 0) (Jn 1) λf=>
 iL [f])) else(iR (1,[]))) [(Jn 0)]).bind λa=>
 if a.1=0 then(some (gx a.2 0)) else(some (D.bool true)))
def L13{lp}(a:ar lp):ah 13 (m2 (RQ lp)):=aO 0 Tryz.f159 Zz a
def RR(lp:Lp)(c:Ca)(a0:D):Option D:=
 qG a0 [0] λh=>
(c 12 [h]).bind λb=>
 qG b [1] λi=>
 qT (D.bool (D.beq i (Jn 0))) λe=>
(if e then(qG b [0,0] λj=>
 qG a0 [0] λk=>
(c 13 [j,k]).bind λg=>
(D.un .not g).bind λl=>
 D.truth l) else(some false)).bind λf=>
 qT (D.bool f) λa=>
 if a then(some (Jn 3)) else(qG b [1] λd=>
 some d)
def L15{lp}(a:ar lp):ah 15 (m1 (RR lp)):=bh 0 Tryz.f94 .leaf a
def ZA:Ann:=(.tl (.tl (.two (.tl (.two (.loop ⟨[(1,.sp K3 4097),(3,.ow K6),(10,.di)],[(4097,.keep K3 1)],[8,9]⟩ [(.exit 0,⟨[(3,.ow K6)],[],[]⟩)] (.tl (.tl (.two (.two (.tl (.reg [] 11)) .leaf) .leaf)))) .leaf)) .leaf)))
def RS(lp:Lp)(c:Ca)(a0:D):Option D:=
 qG a0 [0] λl=>
(c 45 [l]).bind λi=>
 qS i λk=>
(qZ lp (λv4=>
 qC .lss (gx v4 1) (Jn (k.length)) λj=>
 if j then(qX i (gx v4 1) λh=>
 qG h [0] λb=>
 qG h [1] λd=>
 qG a0 [0] λf=>
(c 46 [f,h]).bind λa=>
 if List.length (qV v4 0)+List.length [(D.st [b,d,a])]<=1073741824 then(qB .add (gx v4 1) (Jn 1) λg=>
 iL [(D.sl ((qV v4 0)++[(D.st [b,d,a])])),g]) else none) else(iR (0,[(qW v4 0)]))) [(D.sl []),(Jn 0)]).bind λe=>
 some (qW e.2 0)
def L18{lp}(a:ar lp):ah 18 (m1 (RS lp)):=bh 0 Tryz.f64 ZA a
def RT(lp:Lp)(c:Ca)(a0:D):Option D:=
 qG a0 [0] λb=>
(c 48 [b]).bind λa=>
 some a
def L19{lp}(a:ar lp):ah 19 (m1 (RT lp)):=bh 0 Tryz.f69 .leaf a
def ZB:Ann:=let a:LS:=[(1,.sp K3 4097),(3,.ow K8),(7,.dv Ty.bool)]
 let b:LS:=[(1,.sp K3 4097),(3,.ow K8)]
 (.tl (.tl (.tl (.two (.tl (.two (.loop ⟨[(1,.sp K3 4097),(3,.ow K8),(5,.di)],[(4097,.keep K3 1)],[4]⟩ [(.exit 0,⟨[(3,.ow K8)],[],[]⟩)] (.tl (.two (.two (.tl (.two (.loop ⟨[(1,.sp K3 4097),(3,.ow K8),(6,.di)],[(4097,.keep K3 1)],[4,5]⟩ [(.exit 2,⟨b,[(4097,.keep K3 1)],[4,5]⟩)] (.tl (.cut [(.normal,⟨b,[(4097,.keep K3 1)],[4,5,6]⟩)] [4,5,6] [4097] (.two (.tl (.two (.tl (.two (.loop ⟨[(1,.sp K3 4097),(3,.ow K8),(7,.dv Ty.bool),(8,.di)],[(4097,.keep K3 1)],[4,5,6]⟩ [(.exit 4,⟨a,[(4097,.keep K3 1)],[4,5,6]⟩)] (.tl (.two (.two (.tl (.tl (.two (.loop ⟨[(1,.sp K3 4097),(3,.ow K8),(7,.dv Ty.bool),(10,.di)],[(4097,.keep K3 1)],[4,5,6,8,9]⟩ [(.exit 6,⟨a,[(4097,.keep K3 1)],[4,5,6,8]⟩)] .leaf) .leaf))) .leaf) .leaf))) .leaf)) .leaf)) .leaf) .leaf))) .leaf)) .leaf) .leaf))) .leaf)) .leaf))))
def RU(lp:Lp)(c:Ca)(a0:D):Option D:=
(c 19 [a0]).bind λr1=>
(qZ lp (λv2=>
 qM a0 [0] (gx v2 1) λJ=>
 if J then(qB .add (gx v2 1) (Jn 1) λK=>
(qZ lp (λe=>
 qM a0 [0] (gx e 1) λg=>
 if g then(((qZ lp (λa=>
 qL r1 (gx a 2) λh=>
 if h then(qX r1 (gx a 2) λv=>
(D.fld v 2).bind λb=>
(qZ lp (λv21=>
 qL b (gx v21 2) λi=>
 if i then(qT (gx v21 1) λj=>
(if j then(some true) else(qX b (gx v21 2) λw=>
 qT (D.bool (D.beq w (gx v2 1))) λk=>
 if k then(qB .add (gx v21 2) (Jn 1) λx=>
 qS b λq=>
 qB .rem x (Jn (q.length)) λy=>
 qX b y λz=>
 D.truth (D.bool (D.beq z (gx e 1)))) else(some false))).bind λl=>
 qT (D.bool l) λm=>
(if m then(some true) else(qX b (gx v21 2) λA=>
 qT (D.bool (D.beq A (gx e 1))) λn=>
 if n then(qB .add (gx v21 2) (Jn 1) λB=>
 qS b λr=>
 qB .rem B (Jn (r.length)) λC=>
 qX b C λE=>
 D.truth (D.bool (D.beq E (gx v2 1)))) else(some false))).bind λo=>
 qB .add (gx v21 2) (Jn 1) λF=>
 iL [(qW v21 0),(D.bool o),F]) else(iR (0,[(qW v21 0),(gx v21 1)]))) [(qW a 0),(gx a 1),(Jn 0)]).bind λf=>
 qB .add (gx a 2) (Jn 1) λG=>
 iL [(qW f.2 0),(gx f.2 1),G]) else(iR (0,[(qW a 0),(gx a 1)]))) [(qW e 0),(D.bool false),(Jn 0)]).bind λd=>
 qT (gx d.2 1) λp=>
 if p then(if List.length (qV d.2 0)+List.length [(D.st [(gx v2 1),(gx e 1)])]<=1073741824 then(some (0,[(D.sl ((qV d.2 0)++[(D.st [(gx v2 1),(gx e 1)])]))])) else none) else(some (0,[(qW d.2 0)]))).bind λ(s:Nat×List D)=>
 qB .add (gx e 1) (Jn 1) λH=>
 iL [(qW s.2 0),H]) else(iR (0,[(qW e 0)]))) [(qW v2 0),K]).bind λt=>
 qB .add (gx v2 1) (Jn 1) λI=>
 iL [(qW t.2 0),I]) else(iR (0,[(qW v2 0)]))) [(D.sl []),(Jn 0)]).bind λu=>
 some (qW u.2 0)
def L22{lp}(a:ar lp):ah 22 (m1 (RU lp)):=bh 0 Tryz.f121 ZB a
def ZC:Ann:=(.tl (.two (.reg [] 10) .leaf))
def Zf(lp:Lp)(c:Ca)(a0:D):Option D:=
 qG a0 [0] λe=>
(c 75 [e]).bind λa=>
 qG a0 [1] λf=>
(c 75 [f]).bind λb=>
 qG a0 [2] λg=>
(c 75 [g]).bind λd=>
 some (D.st [a,b,d])
def L31{lp}(a:ar lp):ah 31 (m1 (Zf lp)):=bh 0 Tryz.f34 ZC a
def ZD:Ann:=(.tl (.tl (.tl (.tl (.tl (.tl (.tl (.cut [(.normal,⟨[(5,.dv K5),(6,.dv K5)],[],[]⟩)] [] [] .leaf .leaf))))))))
def RW(lp:Lp)(c:Ca)(a0:D)(a1:D):Option D:=
(c 76 [a0]).bind λr1=>
 qN r1 λu=>
(if u then((c 76 [a1]).bind λx=>
(D.un .not x).bind λz=>
 D.truth z) else(some false)).bind λv=>
 qT (D.bool v) λw=>
 if w then(some (Jn 0)) else((c 76 [a0]).bind λy=>
 qN y λb=>
 if b then(some (Jn (-1))) else((c 76 [a1]).bind λj=>
 qN j λd=>
 if d then(some (Jn 1)) else(qG a0 [1] λq=>
 qG a1 [1] λr=>
 qT (D.bool (!(D.beq q r))) λe=>
 if e then(qG a0 [1] λs=>
 qT s λf=>
 if f then(some (Jn (-1))) else(some (Jn 1))) else((c 77 [a0]).bind λk=>
(c 77 [a1]).bind λl=>
(qG a0 [1] λt=>
 qT t λg=>
 if g then((c 77 [a1]).bind λm=>
(c 77 [a0]).bind λn=>
 some (0,[m,n])) else(some (0,[k,l]))).bind λ(a:Nat×List D)=>
(c 78 [(gx a.2 0),(gx a.2 1)]).bind λo=>
(c 78 [(gx a.2 1),(gx a.2 0)]).bind λp=>
 qT o λh=>
 if h then(some (Jn (-1))) else(qT p λi=>
 if i then(some (Jn 1)) else(some (Jn 0)))))))
def L32{lp}(a:ar lp):ah 32 (m2 (RW lp)):=aO 0 Tryz.f95 ZD a
def RY(lp:Lp)(c:Ca)(a0:D):Option D:=
 qC .geq a0 (Jn 0) λl=>
 if l then(qB .rem a0 (Jn 65536) λn=>
 qB .quo a0 (Jn 65536) λo=>
 qB .rem o (Jn 65536) λp=>
 qB .quo a0 (Jn 4294967296) λq=>
 qB .rem q (Jn 65536) λr=>
 qB .quo a0 (Jn 281474976710656) λs=>
(c 81 [(D.bool false),(D.sl [n,p,r,s])]).bind λm=>
 some m) else(qB .add a0 (Jn 1) λe=>
(D.un .neg e).bind λa=>
 qB .rem a (Jn 65536) λf=>
 qB .quo a (Jn 65536) λg=>
 qB .rem g (Jn 65536) λh=>
 qB .quo a (Jn 4294967296) λi=>
 qB .rem i (Jn 65536) λj=>
 qB .quo a (Jn 281474976710656) λk=>
(c 82 [(D.sl [f,h,j,k]),(D.sl [(Jn 1)])]).bind λb=>
(c 81 [(D.bool true),b]).bind λd=>
 some d)
def L34{lp}(a:ar lp):ah 34 (m1 (RY lp)):=bh 0 Tryz.f98 .leaf a
def ZE:Ann:=(.tl (.tl (.tl (.cut [(.normal,⟨[(2,.sp aT 4098),(3,.sp aT 4099),(4,.sp bY 4100),(5,.sp aT 12293)],[(4098,.keep aT 2),(4099,.keep aT 3),(4100,.keep bY 4),(12293,.one aT (.dv aT))],[]⟩)] [] [4098,4099,4100] .leaf (.two (.reg [] 7) .leaf)))))
def Zg(lp:Lp)(c:Ca)(a0:D)(a1:D):Option D:=
(c 76 [a0]).bind λr1=>
 qN r1 λk=>
(if k then(some true) else((c 76 [a1]).bind λo=>
(D.un .not o).bind λq=>
 D.truth q)).bind λl=>
 qT (D.bool l) λm=>
(if m then(some true) else((c 83 [a1]).bind λp=>
 D.truth (D.bool (D.beq p (Jn 0))))).bind λn=>
 qT (D.bool n) λd=>
 if d then((c 84 []).bind λf=>
 some f) else((c 85 [a0,a1]).bind λa=>
((c 83 [a1]).bind λg=>
 qC .lss g (Jn 0) λe=>
 if e then((c 86 [a]).bind λh=>
 some (0,[h])) else(some (0,[a]))).bind λ(b:Nat×List D)=>
(c 87 [a0,(gx b.2 0)]).bind λi=>
(c 87 [a1,(gx b.2 0)]).bind λj=>
 some (D.st [i,j]))
def L37{lp}(a:ar lp):ah 37 (m2 (Zg lp)):=aO 0 Tryz.f88 ZE a
def ZF:Ann:=let a:LO:=[(4098,.keep K2 2),(4099,.keep eB 3),(8197,.one K5 (.dv K5))]
 let b:LO:=[(4098,.keep K2 2),(4099,.keep eB 3),(8197,.one K5 (.ow Ti))]
 let c:LO:=[(4098,.keep K2 2),(4099,.keep eB 3),(8197,.keep K5 1)]
 let d:LS:=[(2,.sp K2 4098),(3,.sp eB 4099),(5,.sp K5 8197)]
 let e:LS:=[(2,.sp K2 4098),(3,.sp eB 4099),(6,.di)]
 (.tl (.tl (.two (.tl (.two (.loop ⟨[(2,.sp K2 4098),(3,.sp eB 4099),(5,.sp K5 8197),(13,.di)],b,[11,12]⟩ [(.exit 0,⟨d,b,[]⟩)] (.tl (.tl (.cut [(.normal,⟨d,b,[11,12,13]⟩)] [11,12,13] [4098,4099] (.two (.tl (.two (.reg [] 6) .leaf)) .leaf) .leaf)))) .leaf)) (.tl (.tl (.two (.two (.regI [] 6 (.two (.tl (.tl (.two (.tl (.two (.loop ⟨[(2,.sp K2 4098),(3,.sp eB 4099),(6,.di),(12,.dv K5),(14,.di)],a,[0,13]⟩ [(.exit 0,⟨[(6,.di)],a,[]⟩)] (.tl (.tl (.cut [(.normal,⟨e,a,[0,12,13,14]⟩)] [0,12,13,14] [4098,4099] (.two (.tl (.tl (.tl (.two (.reg [] 20) .leaf)))) .leaf) .leaf)))) .leaf)) .leaf))) .leaf)) (.two (.loop ⟨[(5,.sp K5 8197),(8,.same (.clo 182 [(.ptr K5 8197 []),(.ptr K2 4098 []),(.ptr eB 4099 [])])),(9,.ow Ti),(10,.di)],[(4098,.keep K2 2),(4099,.keep eB 3),(8197,.keep K5 5)],[]⟩ [(.exit 2,⟨[(9,.ow Ti)],[],[]⟩)] (.tl (.tl (.regI [] 4 (.two (.tl (.tl (.two (.tl (.two (.loop ⟨[(2,.sp K2 4098),(3,.sp eB 4099),(6,.di),(14,.di)],c,[0,12,13]⟩ [(.exit 0,⟨[(6,.di)],c,[]⟩)] (.tl (.tl (.cut [(.normal,⟨e,a,[0,12,13,14]⟩)] [0,12,13,14] [4098,4099] (.two (.tl (.tl (.tl (.two (.reg [] 20) .leaf)))) .leaf) .leaf)))) .leaf)) .leaf))) .leaf))))) .leaf)) .leaf))))))
def RZ(lp:Lp)(c:Ca)(a0:D)(a1:D):Option D:=
 qS a0 λl1=>
(qZ lp (λv2=>
 qC .lss (gx v2 0) (Jn (l1.length)) λb4=>
 if b4 then((qX a0 (gx v2 0) λx7=>
 qG a1 [0] λx8=>
(c 101 [x8,x7]).bind λr9=>
 qG a1 [1] λP=>
 qT (D.bool (D.beq r9 P)) λp=>
 if p then(if List.length (qV v2 1)+List.length [(gx v2 0)]<=1073741824 then(some (0,[(D.sl ((qV v2 1)++[(gx v2 0)]))])) else none) else(some (0,[(qW v2 1)]))).bind λ(H:Nat×List D)=>
 qB .add (gx v2 0) (Jn 1) λQ=>
 iL [Q,(qW H.2 0)]) else(iR (0,[(qW v2 1)]))) [(Jn 0),(D.sl [])]).bind λe=>
(D.idx (Jn 0) (List.length (qV e.2 0))).bind λi15=>
((qV e.2 0)[i15]?).bind λR=>
(D.idx (Jn 0) (List.length (qV e.2 0))).bind λi17=>
((qV e.2 0)[i17]?).bind λl=>
(qZ lp (λa=>
 qC .lss (gx a 2) (Jn (List.length (qV e.2 0))) λq=>
 if q then((qX (gx a 1) (gx a 2) λf=>
 qT (D.bool (D.beq f l)) λr=>
 if r then(some (0,[(gx a 0),(gx a 3)])) else(qC .lss (gx a 0) (Jn 0) λs=>
 if s then(some (0,[f,(gx a 3)])) else(qX a0 f λS=>
 qX a0 l λT=>
(c 103 [S,T]).bind λh=>
 qX a0 (gx a 0) λU=>
 qX a0 l λV=>
(c 103 [U,V]).bind λi=>
 qG a1 [0] λW=>
(c 104 [W,i,h]).bind λm=>
 qC .lss m (Jn 0) λt=>
(if t then(some true) else(qT (D.bool (D.beq m (Jn 0))) λu=>
 if u then((c 101 [h,h]).bind λI=>
(c 101 [i,i]).bind λJ=>
 qB .gtr I J λX=>
 D.truth X) else(some false))).bind λv=>
 qT (D.bool v) λw=>
 if w then(some (0,[f,(gx a 3)])) else(some (0,[(gx a 0),(gx a 3)]))))).bind λ(n:Nat×List D)=>
 qB .add (gx a 2) (Jn 1) λY=>
 iL [(gx n.2 0),(gx a 1),Y,(gx n.2 1)]) else(iR (0,[(gx a 0),(gx a 3)]))) [(Jn (-1)),(qW e.2 0),(Jn 0),(qW e.2 0)]).bind λb=>
(qZ lp (λv55=>
 qX (gx b.2 1) (Jn 0) λZ=>
 qT (D.bool (!(D.beq (gx v55 1) Z))) λx=>
 if x then(if List.length (qV v55 0)+List.length [(gx v55 1)]<=1073741824 then(qS (gx b.2 1) λG=>
(qZ lp (λd=>
 qC .lss (gx d 1) (Jn (G.length)) λy=>
 if y then((qX (gx b.2 1) (gx d 1) λg=>
 qT (D.bool (D.beq g (gx v55 1))) λz=>
 if z then(some (0,[(gx d 0),(gx b.2 1)])) else(qC .lss (gx d 0) (Jn 0) λA=>
 if A then(some (0,[g,(gx b.2 1)])) else(qX a0 g λad=>
 qX a0 (gx v55 1) λai=>
(c 103 [ad,ai]).bind λj=>
 qX a0 (gx d 0) λaj=>
 qX a0 (gx v55 1) λak=>
(c 103 [aj,ak]).bind λk=>
 qG a1 [0] λal=>
(c 104 [al,k,j]).bind λo=>
 qC .lss o (Jn 0) λB=>
(if B then(some true) else(qT (D.bool (D.beq o (Jn 0))) λC=>
 if C then((c 101 [j,j]).bind λK=>
(c 101 [k,k]).bind λL=>
 qB .gtr K L λan=>
 D.truth an) else(some false))).bind λE=>
 qT (D.bool E) λF=>
 if F then(some (0,[g,(gx b.2 1)])) else(some (0,[(gx d 0),(gx b.2 1)]))))).bind λ(M:Nat×List D)=>
 qB .add (gx d 1) (Jn 1) λax=>
 iL [(gx M.2 0),ax]) else(iR (0,[(gx d 0)]))) [(Jn (-1)),(Jn 0)]).bind λN=>
 iL [(D.sl ((qV v55 0)++[(gx v55 1)])),(gx N.2 0)]) else none) else(iR (0,[(qW v55 0)]))) [(D.sl [R]),(gx b.2 0)]).bind λO=>
 some (qW O.2 0)
def L46{lp}(a:ar lp):ah 46 (m2 (RZ lp)):=aO 0 Tryz.f129 ZF a
end Sy
end
end
noncomputable section
set_option maxHeartbeats 0
noncomputable section
namespace Sy
open Go Go.Proofs
def ZG:Ann:=let a:LS:=[(3,.ow K1),(5,.ow K1),(6,.dv Ty.bool)]
 (.tl (.tl (.two (.tl (.two (.loop ⟨[(3,.ow K1),(4,.di)],[],[0]⟩ [(.exit 0,⟨[(3,.ow K1)],[],[]⟩)] (.tl (.two (.two (.tl (.tl (.two (.tl (.two (.loop ⟨[(3,.ow K1),(5,.ow K1),(6,.dv Ty.bool),(7,.di)],[],[0,4]⟩ [(.exit 2,⟨[(5,.ow K1),(6,.dv Ty.bool)],[],[0,4]⟩)] (.tl (.cut [(.normal,⟨a,[],[0,4,7]⟩)] [0,4,7] [] (.two (.two (.reg [] 9) (.cut [(.normal,⟨a,[],[0,4,7]⟩)] [0,4,7] [] .leaf (.two (.reg [] 8) .leaf))) .leaf) .leaf))) .leaf)) (.cut [(.normal,⟨[(5,.ow K1)],[],[0,4]⟩)] [0,4] [] .leaf .leaf)))) .leaf) .leaf))) .leaf)) .leaf)))
def R5(lp:Lp)(c:Ca)(a0:D):Option D:=
(qZ lp (λv1=>
 qL a0 (gx v1 1) λy=>
 if y then((qZ lp (λv5=>
 qC .lss (gx v5 3) (Jn (List.length (qV v5 0))) λz=>
 if z then((qX a0 (gx v1 1) λq=>
(D.idx (gx v5 3) (List.length (qV v5 0))).bind λi11=>
((qV v5 0)[i11]?).bind λr=>
(c 105 [q,r]).bind λn=>
(qN (gx v5 2) λh=>
(if h then(qT n λi=>
 if i then(some true) else(qX a0 (gx v1 1) λs=>
(D.idx (gx v5 3) (List.length (qV v5 0))).bind λi20=>
((qV v5 0)[i20]?).bind λt=>
 D.truth (D.bool (D.beq s t)))) else(some false)).bind λj=>
 qT (D.bool j) λk=>
 if k then(qX a0 (gx v1 1) λe=>
 if List.length (qV v5 1)+List.length [e]<=1073741824 then(some (0,[(qW v5 0),(D.sl ((qV v5 1)++[e])),(D.bool true)])) else none) else(some (0,[(qW v5 0),(qW v5 1),(gx v5 2)]))).bind λ(a:Nat×List D)=>
(D.idx (gx v5 3) (List.length (qV a.2 0))).bind λi28=>
((qV a.2 0)[i28]?).bind λu=>
 qX a0 (gx v1 1) λv=>
 qT (D.bool (!(D.beq u v))) λl=>
 if l then((D.idx (gx v5 3) (List.length (qV a.2 0))).bind λi34=>
((qV a.2 0)[i34]?).bind λf=>
 if List.length (qV a.2 1)+List.length [f]<=1073741824 then(some (0,[(qW a.2 0),(D.sl ((qV a.2 1)++[f])),(gx a.2 2)])) else none) else(some (0,[(qW a.2 0),(qW a.2 1),(gx a.2 2)]))).bind λ(d:Nat×List D)=>
 qB .add (gx v5 3) (Jn 1) λw=>
 iL [(qW d.2 0),(qW d.2 1),(gx d.2 2),w]) else(iR (0,[(qW v5 1),(gx v5 2)]))) [(qW v1 0),(D.sl []),(D.bool false),(Jn 0)]).bind λb=>
(qN (gx b.2 1) λm=>
 if m then(qX a0 (gx v1 1) λg=>
 if List.length (qV b.2 0)+List.length [g]<=1073741824 then(some (0,[(D.sl ((qV b.2 0)++[g]))])) else none) else(some (0,[(qW b.2 0)]))).bind λ(o:Nat×List D)=>
 qB .add (gx v1 1) (Jn 1) λx=>
 iL [(qW o.2 0),x]) else(iR (0,[(qW v1 0)]))) [(D.sl []),(Jn 0)]).bind λp=>
 some (qW p.2 0)
def L47{lp}(a:ar lp):ah 47 (m1 (R5 lp)):=bh 0 Tryz.f199 ZG a
def ZH:Ann:=(.tl (.tl (.two (.tl (.two (.loop ⟨[(3,.dv K7),(4,.di)],[],[0]⟩ [(.exit 0,⟨[(3,.dv K7)],[],[]⟩)] (.tl (.two (.two (.tl (.two (.loop ⟨[(3,.dv K7),(5,.di)],[],[0,4]⟩ [(.exit 2,⟨[(3,.dv K7)],[],[0,4]⟩)] (.tl (.two (.two (.tl (.two (.loop ⟨[(3,.dv K7),(6,.di)],[],[0,4,5]⟩ [(.exit 4,⟨[(3,.dv K7)],[],[0,4,5]⟩)] (.tl (.two (.two (.two (.reg [] 14) (.tl (.two (.loop ⟨[(3,.dv K7),(7,.sp K1 49159),(8,.di)],[(49159,.one K1 (.dv K1))],[0,4,5,6]⟩ [(.exit 6,⟨[(3,.dv K7)],[],[0,4,5,6]⟩)] (.tl (.two (.two (.two (.reg [] 6) (.tl (.tl (.cut [(.normal,⟨[(3,.dv K7),(7,.sp K1 49159)],[(49159,.keep K1 7)],[0,4,5,6,8]⟩)] [0,4,5,6,8] [49159] (.tl (.two (.reg [] 9) .leaf)) .leaf)))) .leaf) .leaf))) .leaf))) .leaf) .leaf))) .leaf)) .leaf) .leaf))) .leaf)) .leaf) .leaf))) .leaf)) .leaf)))
def R7(lp:Lp)(c:Ca)(a0:D):Option D:=
(qZ lp (λv1=>
 qL a0 (gx v1 1) λF=>
 if F then(qB .add (gx v1 1) (Jn 1) λH=>
(qZ lp (λv6=>
 qL a0 (gx v6 1) λG=>
 if G then(qB .add (gx v6 1) (Jn 1) λu=>
(qZ lp (λv11=>
 qL a0 (gx v11 1) λb=>
 if b then(qX a0 (gx v1 1) λv=>
 qX a0 (gx v6 1) λw=>
 qX a0 (gx v11 1) λx=>
(c 106 [v,w,x]).bind λj=>
(qZ lp (λv25=>
 qC .lss (gx v25 1) (Jn 2) λd=>
 if d then(qX a0 (gx v1 1) λy=>
(c 107 [(gx v25 2),y]).bind λa=>
(c 108 [(gx v25 0),(gx v25 2)]).bind λk=>
(qN k λe=>
(if e then((D.un .not (D.bool (D.beq (gx v25 2) (D.st [(Jn 0),(Jn 0),(Jn 0)])))).bind λz=>
 D.truth z) else(some false)).bind λf=>
 qT (D.bool f) λg=>
(if g then((c 109 [a0,(gx v25 2),a]).bind λl=>
 D.truth l) else(some false)).bind λh=>
 qT (D.bool h) λi=>
 if i then((c 111 [a0,(gx v25 2),a]).bind λm=>
(c 110 [(gx v25 0),(D.st [(gx v25 2),a,m])]).bind λn=>
 some (0,[n])) else(some (0,[(gx v25 0)]))).bind λ(o:Nat×List D)=>
(c 112 [(D.st [(Jn 0),(Jn 0),(Jn 0)]),(gx v25 2)]).bind λp=>
 qB .add (gx v25 1) (Jn 1) λA=>
 iL [(gx o.2 0),A,p]) else(iR (0,[(gx v25 0)]))) [(gx v11 0),(Jn 0),j]).bind λq=>
 qB .add (gx v11 1) (Jn 1) λB=>
 iL [(gx q.2 0),B]) else(iR (0,[(gx v11 0)]))) [(gx v6 0),u]).bind λr=>
 qB .add (gx v6 1) (Jn 1) λC=>
 iL [(gx r.2 0),C]) else(iR (0,[(gx v6 0)]))) [(gx v1 0),H]).bind λs=>
 qB .add (gx v1 1) (Jn 1) λE=>
 iL [(gx s.2 0),E]) else(iR (0,[(gx v1 0)]))) [(D.sl []),(Jn 0)]).bind λt=>
 some (gx t.2 0)
def L48{lp}(a:ar lp):ah 48 (m1 (R7 lp)):=bh 0 Tryz.f133 ZH a
def ZI:Ann:=(.tl (.two (.reg [] 12) .leaf))
def R8(lp:Lp)(c:Ca)(a0:D)(a1:D):Option D:=
 qG a0 [0] λe=>
 qG a1 [0] λf=>
(c 53 [e,f]).bind λa=>
 qG a0 [1] λg=>
 qG a1 [1] λh=>
(c 53 [g,h]).bind λb=>
(c 52 [(D.sl [a,b])]).bind λd=>
 some d
def L51{lp}(a:ar lp):ah 51 (m2 (R8 lp)):=aO 0 Tryz.f191 ZI a
def ZJ:Ann:=(.tl (.tl (.two (.tl (.two (.loop ⟨[(8,.di)],[],[3,6,7]⟩ [(.ret,⟨[(2,.di)],[],[]⟩),(.exit 0,⟨[],[],[3]⟩)] .leaf) .leaf)) .leaf)))
def R9(lp:Lp)(c:Ca)(a0:D):Option D:=
 qS a0 λf=>
(qZ lp (λv2=>
 qC .lss (gx v2 0) (Jn (f.length)) λd=>
 if d then(qX a0 (gx v2 0) λb=>
 qT (D.bool (!(D.beq b (Jn 0)))) λe=>
 if e then(iR (0,[b])) else(qB .add (gx v2 0) (Jn 1) λg=>
 iL [g])) else(iR (1,[]))) [(Jn 0)]).bind λa=>
 if a.1=0 then(some (gx a.2 0)) else(some (Jn 0))
def L52{lp}(a:ar lp):ah 52 (m1 (R9 lp)):=bh 0 Tryz.f179 ZJ a
def Sa(lp:Lp)(c:Ca)(a0:D)(a1:D):Option D:=
(c 115 [a0]).bind λr1=>
(c 115 [a1]).bind λa=>
 qT r1 λb=>
 if b then(qT a λd=>
 if d then(some (Jn 0)) else(some (Jn (-1)))) else(qT a λe=>
 if e then(some (Jn 1)) else(qC .lss a0 a1 λf=>
 if f then(some (Jn (-1))) else(qC .gtr a0 a1 λg=>
 if g then(some (Jn 1)) else(some (Jn 0)))))
def L53{lp}(a:ar lp):ah 53 (m2 (Sa lp)):=aO 0 Tryz.f180 .leaf a
def ZK:Ann:=(.tl (.tl (.cut [(.normal,⟨[(2,.sp aT 4098),(3,.dv (Ty.int .u64))],[(4098,.keep aT 2)],[0]⟩)] [0] [4098] .leaf .leaf)))
def Sc(lp:Lp)(c:Ca)(a0:D):Option D:=
(D.conv .u64 a0).bind λd=>
(qC .lss a0 (Jn 0) λe=>
 if e then((D.un .neg d).bind λf=>
 some (0,[f])) else(some (0,[d]))).bind λ(b:Nat×List D)=>
 qB .lss a0 (Jn 0) λg=>
(D.conv .u32 (gx b.2 0)).bind λh=>
 qB .shr (gx b.2 0) (D.int .u64 32) λi=>
(D.conv .u32 i).bind λj=>
(c 116 [g,(D.st (D.putParts (List.replicate 16 (D.int .u32 0)) [(0,h),(1,j)]))]).bind λa=>
 some a
def L54{lp}(a:ar lp):ah 54 (m1 (Sc lp)):=bh 0 Tryz.f45 ZK a
def ZL:Ann:=(.tl (.tl (.tl (.two (.tl (.two (.two (.reg [] 8) .leaf) .leaf)) (.two (.reg [] 8) .leaf)))))
def Sd(lp:Lp)(c:Ca)(a0:D)(a1:D):Option D:=
(c 118 [(D.sl [a0,a1])]).bind λr1=>
 qN r1 λw=>
 if w then((c 119 []).bind λy=>
 some y) else(qG a0 [1] λz=>
 qG a1 [1] λA=>
 qT (D.bool (D.beq z A)) λx=>
 if x then(qG a0 [2] λB=>
 qG a1 [2] λC=>
(c 120 [B,C]).bind λa=>
(D.tupAt a 0).bind λl=>
(D.tupAt a 1).bind λm=>
 qN m λb=>
 if b then((c 119 []).bind λe=>
 some e) else(qG a0 [1] λn=>
(c 116 [n,l]).bind λf=>
 some f)) else(qG a0 [2] λo=>
 qG a1 [2] λp=>
(c 121 [o,p]).bind λg=>
 qC .geq g (Jn 0) λd=>
 if d then(qG a0 [1] λq=>
 qG a0 [2] λr=>
 qG a1 [2] λs=>
(c 122 [r,s]).bind λh=>
(c 116 [q,h]).bind λi=>
 some i) else(qG a1 [1] λt=>
 qG a1 [2] λu=>
 qG a0 [2] λv=>
(c 122 [u,v]).bind λj=>
(c 116 [t,j]).bind λk=>
 some k)))
def L57{lp}(a:ar lp):ah 57 (m2 (Sd lp)):=aO 0 Tryz.f118 ZL a
def ZM:Ann:=let a:LO:=[(4098,.keep aT 2),(4099,.keep aT 3),(4100,.keep aT 4),(12293,.one Ly (.dv Ly))]
 (.tl (.tl (.tl (.two (.reg [] 7) (.two (.tl (.two (.loop ⟨[(2,.sp aT 4098),(3,.sp aT 4099),(4,.sp aT 4100),(5,.sp Ly 12293),(24,.di)],a,[7,23]⟩ [(.exit 0,⟨[(2,.sp aT 4098),(3,.sp aT 4099),(4,.sp aT 4100),(5,.sp Ly 12293)],a,[]⟩)] (.tl (.tl (.two (.two (.tl (.tl (.two (.tl (.two (.loop ⟨[(2,.sp aT 4098),(3,.sp aT 4099),(4,.sp aT 4100),(5,.sp Ly 12293),(9,.dv (Ty.int .u64)),(28,.di)],a,[7,8,23,24,27]⟩ [(.exit 2,⟨[(2,.sp aT 4098),(3,.sp aT 4099),(4,.sp aT 4100),(5,.sp Ly 12293),(9,.dv (Ty.int .u64))],a,[7,8,23,24]⟩)] (.tl (.tl (.two (.two (.tl (.two (.reg [] 20) .leaf)) .leaf) .leaf)))) .leaf)) .leaf))) .leaf) .leaf)))) .leaf)) (.tl (.two (.reg [] 9) .leaf)))))))
def Se(lp:Lp)(c:Ca)(a0:D)(a1:D):Option D:=
(c 118 [(D.sl [a0,a1])]).bind λr1=>
 qN r1 λH=>
 if H then((c 119 []).bind λI=>
 some I) else(qG a0 [2] λK=>
(c 127 [K]).bind λJ=>
 qG a1 [2] λL=>
(c 127 [L]).bind λG=>
(qZ lp (λv9=>
 qC .lss (gx v9 0) J λg=>
 if g then((qZ lp (λv12=>
 qC .lss (gx v12 1) G λh=>
 if h then((D.idx (gx v9 0) 16).bind λi15=>
 qG a0 [2,i15] λl=>
(D.conv .u64 l).bind λm=>
(D.idx (gx v12 1) 16).bind λi18=>
 qG a1 [2,i18] λn=>
(D.conv .u64 n).bind λo=>
 qB .mul m o λp=>
 qB .add (gx v9 0) (gx v12 1) λq=>
 qJ q 32 (gx v12 2) λr=>
(D.conv .u64 r).bind λs=>
 qB .add p s λt=>
 qB .add (gx v12 0) t λf=>
 qB .add (gx v9 0) (gx v12 1) λu=>
(D.conv .u32 f).bind λv=>
(D.idx u 32).bind λi30=>
(D.set (gx v12 2) [i30] v).bind λw=>
 qB .shr f (D.int .u64 32) λx=>
 qB .add (gx v12 1) (Jn 1) λy=>
 iL [x,y,w]) else(iR (0,[(gx v12 0),(gx v12 2)]))) [(D.int .u64 0),(Jn 0),(gx v9 1)]).bind λd=>
 qB .add (gx v9 0) G λz=>
(D.conv .u32 (gx d.2 0)).bind λA=>
(D.idx z 32).bind λi37=>
(D.set (gx d.2 1) [i37] A).bind λB=>
 qB .add (gx v9 0) (Jn 1) λC=>
 iL [C,B]) else(iR (0,[(gx v9 1)]))) [(Jn 0),(av Ly)]).bind λe=>
(match (gx e.2 0) with
| D.st a=>(if decide (16+16<=a.length) then(qT (D.bool (!(D.beq (D.st (List.take 16 (List.drop 16 a))) (D.st (D.putParts (List.replicate 16 (D.int .u32 0)) []))))) λi=>
 if i then((c 119 []).bind λj=>
 some j) else(qG a0 [1] λE=>
 qG a1 [1] λF=>
(match (gx e.2 0) with
| D.st b=>(if decide (0+16<=b.length) then((c 116 [(D.bool (!(D.beq E F))),(D.st (List.take 16 (List.drop 0 b)))]).bind λk=>
 some k) else none)
| _=>none))) else none)
| _=>none))
def L61{lp}(a:ar lp):ah 61 (m2 (Se lp)):=aO 0 Tryz.f108 ZM a
def ZN:Ann:=(.tl (.tl (.tl (.cut [(.normal,⟨[(2,.sp aT 4098),(3,.sp aT 4099),(4,.sp bY 4100),(5,.sp aT 12293)],[(4098,.keep aT 2),(4099,.keep aT 3),(4100,.keep bY 4),(12293,.one aT (.dv aT))],[]⟩)] [] [4098,4099,4100] .leaf (.two (.reg [] 7) .leaf)))))
def PJ(lp:Lp)(c:Ca)(a0:D)(a1:D):Option D:=
(c 128 [a0]).bind λr1=>
 qN r1 λk=>
(if k then(some true) else((c 128 [a1]).bind λo=>
(D.un .not o).bind λq=>
 D.truth q)).bind λl=>
 qT (D.bool l) λm=>
(if m then(some true) else((c 129 [a1]).bind λp=>
 D.truth (D.bool (D.beq p (Jn 0))))).bind λn=>
 qT (D.bool n) λd=>
 if d then((c 130 []).bind λf=>
 some f) else((c 131 [a0,a1]).bind λa=>
((c 129 [a1]).bind λg=>
 qC .lss g (Jn 0) λe=>
 if e then((c 68 [a]).bind λh=>
 some (0,[h])) else(some (0,[a]))).bind λ(b:Nat×List D)=>
(c 132 [a0,(gx b.2 0)]).bind λi=>
(c 132 [a1,(gx b.2 0)]).bind λj=>
 some (D.st [i,j]))
def L62{lp}(a:ar lp):ah 62 (m2 (PJ lp)):=aO 0 Tryz.f43 ZN a
def Sf(lp:Lp)(c:Ca)(a0:D):Option D:=
(c 118 [(D.sl [a0])]).bind λr1=>
 qN r1 λa=>
 if a then((c 119 []).bind λb=>
 some b) else(qG a0 [1] λe=>
(D.un .not e).bind λf=>
 qG a0 [2] λg=>
(c 116 [f,g]).bind λd=>
 some d)
def L68{lp}(a:ar lp):ah 68 (m1 (Sf lp)):=bh 0 Tryz.f111 .leaf a
def Sg(lp:Lp)(c:Ca)(a0:D):Option D:=
 qG a0 [0,0,0] λf=>
 qT f λa=>
(if a then(some true) else(qG a0 [1,0,0] λg=>
 D.truth g)).bind λb=>
 qT (D.bool b) λd=>
(if d then(some true) else(qG a0 [2,0,0] λh=>
 D.truth h)).bind λe=>
 some (D.bool e)
def L71{lp}(a:ar lp):ah 71 (m1 (Sg lp)):=bh 0 Tryz.f60 .leaf a
def ZO:Ann:=(.tl (.two (.reg [] 4) .leaf))
def Si(lp:Lp)(c:Ca)(a0:D)(a1:D):Option D:=
(c 135 [a0]).bind λr1=>
(c 134 [r1,a1]).bind λa=>
 some a
def L72{lp}(a:ar lp):ah 72 (m2 (Si lp)):=aO 0 Tryz.f65 ZO a
def ZP:Ann:=(.tl (.two (.reg [] 5) (.tl (.tl (.tl (.two (.two (.loop ⟨[(2,.sp bY 4098),(3,.sp bY 4099),(7,.di)],[(4098,.one bY (.dv bY)),(4099,.one bY (.dv bY))],[]⟩ [(.exit 1,⟨[(7,.di)],[],[]⟩)] (.two (.two (.two (.reg [] 11) .leaf) (.two (.reg [] 16) (.two (.reg [] 7) .leaf))) .leaf)) .leaf) .leaf))))))
def Sj(lp:Lp)(c:Ca)(a0:D)(a1:D):Option D:=
(c 136 [a0]).bind λr1=>
(c 136 [a1]).bind λC=>
 qN r1 λE=>
(if E then((D.un .not C).bind λI=>
 D.truth I) else(some false)).bind λF=>
 qT (D.bool F) λG=>
 if G then(some (Jn 0)) else(qN r1 λH=>
 if H then(some (Jn (-1))) else(qN C λg=>
 if g then(some (Jn 1)) else((qZ lp (λv12=>
 qG (gx v12 1) [0] λo=>
 qG (gx v12 1) [1] λp=>
(c 132 [o,p]).bind λl=>
 qG (gx v12 2) [0] λq=>
 qG (gx v12 2) [1] λr=>
(c 132 [q,r]).bind λm=>
(c 90 [l,m]).bind λa=>
 qT (D.bool (!(D.beq a (Jn 0)))) λh=>
 if h then(qB .mul (gx v12 0) a λs=>
 iR (0,[s])) else(qG (gx v12 1) [1] λt=>
 qG (gx v12 1) [0] λu=>
 qG (gx v12 1) [1] λv=>
(c 137 [u,v]).bind λb=>
 qG (gx v12 2) [1] λw=>
 qG (gx v12 2) [0] λx=>
 qG (gx v12 2) [1] λy=>
(c 137 [x,y]).bind λd=>
(c 129 [b]).bind λe=>
(c 129 [d]).bind λf=>
 qT (D.bool (D.beq e (Jn 0))) λi=>
(if i then(some true) else(D.truth (D.bool (D.beq f (Jn 0))))).bind λj=>
 qT (D.bool j) λk=>
 if k then(qB .sub e f λz=>
 qB .mul (gx v12 0) z λA=>
 iR (0,[A])) else((D.un .neg (gx v12 0)).bind λB=>
 iL [B,(D.st [t,b]),(D.st [w,d])]))) [(Jn 1),a0,a1]).bind λn=>
 some (gx n.2 0))))
def L73{lp}(a:ar lp):ah 73 (m2 (Sj lp)):=aO 0 Tryz.f46 ZP a
def Sl(lp:Lp)(c:Ca)(a0:D):Option D:=
(c 54 [a0]).bind λr1=>
(c 138 [r1]).bind λa=>
 some a
def L74{lp}(a:ar lp):ah 74 (m1 (Sl lp)):=bh 0 Tryz.f49 .leaf a
def Zh(lp:Lp)(c:Ca)(a0:D):Option D:=
(c 34 [a0]).bind λr1=>
(c 133 []).bind λa=>
(c 37 [r1,a]).bind λb=>
 some b
def L75{lp}(a:ar lp):ah 75 (m1 (Zh lp)):=bh 0 Tryz.f36 .leaf a
def PK(lp:Lp)(c:Ca)(a0:D):Option D:=
(c 139 [a0]).bind λr1=>
 qT r1 λa=>
(if a then(qG a0 [0] λd=>
(D.un .not d).bind λe=>
 D.truth e) else(some false)).bind λb=>
 some (D.bool b)
def L76{lp}(a:ar lp):ah 76 (m1 (PK lp)):=bh 0 Tryz.f78 .leaf a
def ZQ:Ann:=(.tl (.tl (.two (.tl (.two (.loop ⟨[(1,.sp aT 4097),(3,.ow Ti),(4,.di)],[(4097,.keep aT 1)],[]⟩ [(.exit 0,⟨[(3,.ow Ti)],[],[]⟩)] (.tl (.two (.two (.reg [] 14) .leaf) .leaf))) .leaf)) .leaf)))
def Sn(lp:Lp)(c:Ca)(a0:D):Option D:=
(qZ lp (λv1=>
 qC .lss (gx v1 1) (Jn 16) λh=>
 if h then((D.idx (gx v1 1) 16).bind λi4=>
 qG a0 [2,i4] λi=>
 qB .rem i (D.int .u32 65536) λj=>
(D.conv .i64 j).bind λg=>
(D.idx (gx v1 1) 16).bind λi8=>
 qG a0 [2,i8] λk=>
 qB .quo k (D.int .u32 65536) λe=>
(D.conv .i64 e).bind λa=>
 if List.length (qV v1 0)+List.length [g,a]<=1073741824 then(qB .add (gx v1 1) (Jn 1) λf=>
 iL [(D.sl ((qV v1 0)++[g,a])),f]) else none) else(iR (0,[(qW v1 0)]))) [(D.sl []),(Jn 0)]).bind λb=>
(c 140 [(qW b.2 0)]).bind λd=>
 some d
def L77{lp}(a:ar lp):ah 77 (m1 (Sn lp)):=bh 0 Tryz.f79 ZQ a
def ZR:Ann:=(.tl (.two (.tl (.two (.loop ⟨[(5,.di)],[],[0,1]⟩ [(.ret,⟨[(4,.dv Ty.bool)],[],[]⟩),(.exit 0,⟨[],[],[]⟩)] .leaf) .leaf)) .leaf))
def Sp(lp:Lp)(c:Ca)(a0:D)(a1:D):Option D:=
 qS a0 λi=>
 qS a1 λj=>
(D.max2 (Jn (i.length)) (Jn (j.length))).bind λm=>
 qB .sub m (Jn 1) λn=>
(qZ lp (λv5=>
 qC .geq (gx v5 0) (Jn 0) λh=>
 if h then((c 141 [a0,(gx v5 0)]).bind λk=>
(c 141 [a1,(gx v5 0)]).bind λl=>
 qT (D.bool (!(D.beq k l))) λb=>
 if b then((c 141 [a0,(gx v5 0)]).bind λd=>
(c 141 [a1,(gx v5 0)]).bind λe=>
 qB .lss d e λf=>
 iR (0,[f])) else(qB .sub (gx v5 0) (Jn 1) λg=>
 iL [g])) else(iR (1,[]))) [n]).bind λa=>
 if a.1=0 then(some (gx a.2 0)) else(some (D.bool false))
def L78{lp}(a:ar lp):ah 78 (m2 (Sp lp)):=aO 0 Tryz.f154 ZR a
def ZS:Ann:=(.tl (.two (.reg [] 10) .leaf))
def Sq(lp:Lp)(c:Ca)(a0:D):Option D:=
 qG a0 [0] λe=>
(c 34 [e]).bind λa=>
 qG a0 [1] λf=>
(c 34 [f]).bind λb=>
 qG a0 [2] λg=>
(c 34 [g]).bind λd=>
 some (D.st [a,b,d])
def L80{lp}(a:ar lp):ah 80 (m1 (Sq lp)):=bh 0 Tryz.f93 ZS a
def ZT:Ann:=let a:LO:=[(4100,.keep aT 4),(16390,.one aT (.dv aT))]
 let b:LS:=[(4,.sp aT 4100),(6,.sp aT 16390)]
 (.tl (.tl (.tl (.tl (.two (.tl (.two (.loop ⟨[(4,.sp aT 4100),(6,.sp aT 16390),(7,.di)],a,[5]⟩ [(.exit 0,⟨b,a,[]⟩)] (.tl (.cut [(.normal,⟨b,a,[5,7]⟩)] [5,7] [4100] (.two (.tl (.two (.reg [] 15) (.reg [] 16))) .leaf) .leaf))) .leaf)) .leaf)))))
def Sr(lp:Lp)(c:Ca)(a0:D)(a1:D):Option D:=
(c 140 [a1]).bind λr1=>
 qS r1 λz=>
 qC .gtr (Jn (z.length)) (Jn 32) λw=>
 if w then((c 125 []).bind λB=>
 some B) else(qT a0 λx=>
(if x then(qS r1 λA=>
 qB .gtr (Jn (A.length)) (Jn 0) λC=>
 D.truth C) else(some false)).bind λy=>
(qZ lp (λv10=>
 qL r1 (gx v10 0) λa=>
 if a then((qB .rem (gx v10 0) (Jn 2) λf=>
 qT (D.bool (D.beq f (Jn 0))) λb=>
 if b then(qB .quo (gx v10 0) (Jn 2) λg=>
 qB .quo (gx v10 0) (Jn 2) λh=>
(D.idx h 16).bind λi18=>
 qG (gx v10 1) [2,i18] λi=>
 qX r1 (gx v10 0) λj=>
(D.conv .u32 j).bind λk=>
 qB .add i k λl=>
(D.idx g 16).bind λi25=>
(D.set (gx v10 1) [2,i25] l).bind λm=>
 some (0,[m])) else(qB .quo (gx v10 0) (Jn 2) λn=>
 qB .quo (gx v10 0) (Jn 2) λo=>
(D.idx o 16).bind λi29=>
 qG (gx v10 1) [2,i29] λp=>
 qX r1 (gx v10 0) λq=>
(D.conv .u32 q).bind λr=>
 qB .mul r (D.int .u32 65536) λs=>
 qB .add p s λt=>
(D.idx n 16).bind λi37=>
(D.set (gx v10 1) [2,i37] t).bind λu=>
 some (0,[u]))).bind λ(d:Nat×List D)=>
 qB .add (gx v10 0) (Jn 1) λv=>
 iL [v,(gx d.2 0)]) else(iR (0,[(gx v10 1)]))) [(Jn 0),(D.st [(D.bool false),(D.bool y),(av aW)])]).bind λe=>
 some (gx e.2 0))
def L81{lp}(a:ar lp):ah 81 (m2 (Sr lp)):=aO 0 Tryz.f151 ZT a
def ZU:Ann:=(.tl (.tl (.tl (.two (.tl (.two (.loop ⟨[(5,.ow Ti),(6,.di),(7,.di)],[],[0,1]⟩ [(.exit 0,⟨[(5,.ow Ti)],[],[]⟩)] .leaf) .leaf)) .leaf))))
def Ss(lp:Lp)(c:Ca)(a0:D)(a1:D):Option D:=
(qZ lp (λv1=>
 qS a0 λj=>
 qS a1 λk=>
(D.max2 (Jn (j.length)) (Jn (k.length))).bind λn=>
 qB .add n (Jn 1) λo=>
 qC .lss (gx v1 2) o λi=>
 if i then((c 141 [a0,(gx v1 2)]).bind λl=>
(c 141 [a1,(gx v1 2)]).bind λm=>
 qB .add l m λf=>
 qB .add f (gx v1 1) λa=>
 qB .rem a (Jn 65536) λb=>
 if List.length (qV v1 0)+List.length [b]<=1073741824 then(qB .quo a (Jn 65536) λg=>
 qB .add (gx v1 2) (Jn 1) λh=>
 iL [(D.sl ((qV v1 0)++[b])),g,h]) else none) else(iR (0,[(qW v1 0)]))) [(D.sl []),(Jn 0),(Jn 0)]).bind λd=>
(c 140 [(qW d.2 0)]).bind λe=>
 some e
def L82{lp}(a:ar lp):ah 82 (m2 (Ss lp)):=aO 0 Tryz.f153 ZU a
def Su(lp:Lp)(c:Ca)(a0:D):Option D:=
(c 76 [a0]).bind λr1=>
 qN r1 λa=>
(if a then(some true) else((c 77 [a0]).bind λg=>
 qS g λf=>
 D.truth (D.bool (D.beq (Jn (f.length)) (Jn 0))))).bind λb=>
 qT (D.bool b) λd=>
 if d then(some (Jn 0)) else(qG a0 [1] λh=>
 qT h λe=>
 if e then(some (Jn (-1))) else(some (Jn 1)))
def L83{lp}(a:ar lp):ah 83 (m1 (Su lp)):=bh 0 Tryz.f82 .leaf a
def Sv(lp:Lp)(c:Ca) :Option D:=
(c 125 []).bind λr1=>
(c 133 []).bind λa=>
 some (D.st [r1,a])
def L84{lp}(a:ar lp):ah 84 (m0 (Sv lp)):=xx 0 Tryz.f85 .leaf a
end Sy
end
end
end Go.Proofs.YtphlmegkommlnaaGreatDoor
