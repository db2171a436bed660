/- Part 3 of the proof that PlaneOfBoxes answers true at every input -/
import Derived.Test.YtphlmegkommlnaaGreatDoorBoxe02
import Derived.IntWalk
set_option linter.unusedVariables false
set_option linter.unusedSimpArgs false
set_option linter.unnecessarySimpa false
set_option linter.defProp false
set_option maxRecDepth 20000
namespace Go.Proofs.YtphlmegkommlnaaGreatDoor
noncomputable section
namespace Sy
open Go
section
variable{P:Program}{E:Env}{w0:Root}{S:Nat->Nat->Prop}{γ:Nat->Option Nat}{β:Nat->Option (Nat×Nat)}{s:St}{a:Act}{w:World}
def JA(C:EnvOk P E)(h:Rp w0 S γ β s a w){dst T ty pos after guard}(hf:Fr E s γ β ⟨dst,.alloc T,ty,pos,after,guard⟩)(hT:∀ t,E.L T=some t->am t=true):jU P E w0 S γ β s a w ⟨dst,.alloc T,ty,pos,after,guard⟩:=by
 intro R K r hq;simp only[qv] at hq;replace hq:=ab hq;obtain⟨t,ht,hq⟩:=hq;replace hq:=ab hq;obtain⟨d,D,hq⟩:=hq;obtain⟨F,q,I,j⟩:=hf rfl d D;cases hfn:E.fnT T with
 | true=>
  have j:=j T (.fv .undef) rfl (by simp[Env.alOb,hfn])
  have e:t=.fn:=by simp only[Env.alTy,hfn,cond_true,zda] at ht;exact ht.symm
  subst e;obtain⟨i,z,H,_,_,G,_,m⟩:=EE (C.fnT T hfn);have y:∀ w,(zeroValue T).run P w=.ok z w:=by simp_all [zeroValue,typeInfo]
  obtain⟨h1,A⟩:=h.grow (os:=[.cells z.cells T]) (d:=w.drawn) (zia _) (S':=S) (λ_ _ g=>g) (λ_ _ g=>.inl g);have l:¬ w0.Old w.heap.size:=λc=>by have:=c.1;have:=h.ext.sz;omega
  obtain⟨h2,B⟩:=h1.newOb (id:=s.base+d) (b:=w.heap.size) q l j3 (λid hid=>by have:=(h.γn id _ hid).2;omega) (λu f hu hf=>by have:=(h.βn u _ _ hu hf).2.1;omega) j1
   (λo c=>by rw[j] at c;cases c;simp only[gm];exact⟨λo c=>by have:=h.Sb _ _ c;omega,z,by rw[<-ru m];exact n7,by simp only[fR],m⟩)
  refine⟨_,hq,.value (v:=.pointer (some ⟨w.heap.size,0,none⟩)) (w':=grown w [.cells z.cells T] w.drawn) (by rw[<-dI];simp only[execOp,Instr.alloc,newVar,newRow,zla,y,zga,run_newObj,zra];rfl) ⟨S,_,β,h2,gK (bH _ _ _) (λo c=>?_),λ_ _ g=>g,⟨_,_,rfl⟩,λid b g=>fo q g,λid hid=>⟨bY _ _ λx=>?_,rfl⟩⟩⟩
  ·have k:s.ob (s.base+d)=some o:=c;rw[j] at k;cases k;exact⟨rfl,rfl⟩
  ·subst x;rcases hid with hid|hid
   ·simp_all
   ·omega
 | false=>
 simp only[Env.alTy,hfn,cond_false] at ht;have j:=j T (.one t (lG t)) rfl (by simp[Env.alOb,hfn,ht])
 have hn:=hT t ht;have hl:=j9 C ht hn;obtain⟨z,y,p,_⟩:=jT hl;obtain⟨h1,A⟩:=h.grow (os:=[.cells z.cells T]) (d:=w.drawn) (zia _) (S':=S) (λ_ _ g=>g) (λ_ _ g=>.inl g);have l:¬ w0.Old w.heap.size:=λc=>by have:=c.1;have:=h.ext.sz;omega
 have hlen:z.cells.toList.length=t.size:=by rw[<-(cL (w:=w) (S:=S) p).1];exact cH _ _ (cY t hn) hn
 obtain⟨h2,B⟩:=h1.newOb (id:=s.base+d) (b:=w.heap.size) q l j3 (λid hid=>by have:=(h.γn id _ hid).2;omega) (λu f hu hf=>by have:=(h.βn u _ _ hu hf).2.1;omega) j1
  (λo c=>by rw[j] at c;cases c;simp only[gm];exact⟨hn,wH t hn,λo c=>by have:=h.Sb _ _ c;omega,z.cells.toList,by rw[zkc];exact n7,CH t _ hn p,hlen⟩)
 refine⟨_,hq,.value (v:=.pointer (some ⟨w.heap.size,0,none⟩)) (w':=grown w [.cells z.cells T] w.drawn) (by rw[<-dI];simp only[execOp,Instr.alloc,newVar,newRow,zla,y,zga,run_newObj,zra];rfl) ⟨S,_,β,h2,gK (bH _ _ _) (λo c=>?_),λ_ _ g=>g,⟨_,_,rfl⟩,λid b g=>fo q g,λid hid=>⟨bY _ _ λx=>?_,rfl⟩⟩⟩
 ·have k:s.ob (s.base+d)=some o:=c;have:o=.one t (lG t):=by simp_all
  subst this;exact⟨by cases t<;>rfl,by cases t<;>rfl⟩
 ·subst x;rcases hid with hid|hid
  ·simp_all
  ·omega
def CO{c:Cx}{e:Ty}{y:AV}{v:Value}{l:List D}{ob:Nat->Option Ob}(hn:am e=true)(h:AR c y v)(hl:y.asList ob e=some l):∃ a cap,v=.slice a l.length cap:=by
 obtain⟨_,h2⟩:=kJ hn h hl;obtain⟨a,cap,b,off,d,_⟩:=h2.elems
 simp_all
def Ag{T:TypeId}{e:Ty}(hl:bJ P (.sl e) T=true){A:Option Addr}{len cap lo a:Nat}{c b:Option Value}(h1:lo<=a)(h2:a<=len)(h3:len<=cap)
  (f:(c=none/\lo=0)\/∃ k,c=some (.int k lo)) (d:(b=none/\a=len)\/∃ k,b=some (.int k a)) (w:World) :
  (Instr.sliceAt T (.slice A len cap) c b none).run P w=.ok (.slice (if cap=lo then A else A.map (·.add (lo*e.size))) (a-lo) (cap-lo)) w:=by
 obtain⟨u,h,i⟩:=jG hl;have j:(0:Int)<=(a:Int)/\(a:Int)<=(cap:Int):=j1
 have l:(0:Int)<=(lo:Int)/\(lo:Int)<=(a:Int):=j1
 have g:(Instr.sliceBounds true len cap c b none).run P w=.ok (lo,a,cap) w:=by
  rcases f with⟨rfl,rfl⟩|⟨k,rfl⟩<;>rcases d with⟨rfl,rfl⟩|⟨m,rfl⟩ <;>
   simp_all [Instr.sliceBounds,Instr.sliceBound,asIntOf,pure_bind,zla,zra]
 simp only[Instr.sliceAt,zla,run_underlying h,zga,Instr.slice,g,cm i,zra]
def tN{T:TypeId}{m:Nat}{e:Ty}(hl:bJ P (.arr m e) T=true){b off lo a:Nat}{d c:Option Value}(h1:lo<=a)(h2:a<=m)(h3:lo<m)
  (g:(d=none/\lo=0)\/∃ k,d=some (.int k lo)) (f:(c=none/\a=m)\/∃ k,c=some (.int k a)) (w:World) :
  (Instr.sliceAt T (.pointer (some ⟨b,off,none⟩)) d c none).run P w=.ok (.slice (some ⟨b,off+lo*e.size,none⟩) (a-lo) (m-lo)) w:=by
 obtain⟨u,j,l⟩:=eO hl;have n:(0:Int)<=(a:Int)/\(a:Int)<=(m:Int):=j1
 have o:(0:Int)<=(lo:Int)/\(lo:Int)<=(a:Int):=j1
 have h:¬ m=lo:=j1
 have i:(Instr.sliceBounds false m m d c none).run P w=.ok (lo,a,m) w:=by
  rcases g with⟨rfl,rfl⟩|⟨k,rfl⟩<;>rcases f with⟨rfl,rfl⟩|⟨p,rfl⟩ <;>
   simp_all [Instr.sliceBounds,Instr.sliceBound,asIntOf,pure_bind,zla,zra]
 simp only[Instr.sliceAt,zla,run_underlying j,zga,mo,i,cm l,zra,h,if_false,de]
def ON{w:World}{S:Nat->Nat->Prop}{e:Ty}{l:List D}{v:Value}{lo a:Nat}(hn:am e=true)(hw:∀ x∈l,wt e x)(h:CR w S (.sl l) v)(h1:lo<=a)(h2:a<=l.length) :
  ∃ A cap,v=.slice A l.length cap/\l.length<=cap/\CR w S (.sl ((l.take a).drop lo)) (.slice (if cap=lo then A else A.map (·.add (lo*e.size))) (a-lo) (cap-lo)):=by
 obtain⟨A,cap,b,off,i,j,k,c⟩:=h.elems;refine⟨A,cap,i,k,?_⟩;have hlen:((l.take a).drop lo).length=a-lo:=by simp;omega
 rw[<-hlen];have f:l=l.take lo++((l.take a).drop lo++l.drop a):=by rw[<-zOa,show l.take lo=(l.take a).take lo by rw[List.take_take,zDb h1],zua,zua]
 rw[f,cl,cl] at c;have d:=c.part;rw[aE hn _ (λx hx=>hw x (zRa hx)),zgb,zDb j1] at d
 refine abC (b:=b) (off:=off+lo*e.size) ?_ (by rw[hlen];omega) d
 by_cases he:(l.take a).drop lo=[]
 ·exact .inl he
 ·right;have g:0<a-lo:=by rw[<-hlen];exact List.length_pos_iff.2 he
  rw[zka j1]
  rcases j with rfl|rfl
  ·simp at h2;omega
  ·simp only[zIb,de]
def JG(L:EnvOk P E)(h:Rp w0 S γ β s a w){dst T x lo C mx ty pos after guard}:jU P E w0 S γ β s a w ⟨dst,.slice T x lo C mx,ty,pos,after,guard⟩:=by
 intro R K r hq;simp only[qv] at hq;split at hq<;>first|(cases hq;done)|skip
 replace hq:=ab hq;obtain⟨t,ht,hq⟩:=hq;have num:∀ {i:Operand} {n:Nat},((isD (s.opA i)).bind λa=>a.2.natOf)=some n->∃ k,a.eval i=.int k n:=by intro i n M;obtain⟨p,h1,h2⟩:=ab M;obtain⟨V,h3⟩:=yg h2;have J:=aT h i;rw[eN h1,h3] at J;exact⟨V,(fF J).1⟩
 cases t<;>(try simp only at hq)<;>first|(cases hq;done)|skip
 case arr m e=>
  rcases L.lay T _ ht with⟨I,u⟩|hl
  ·cases u
  have hn:=aH _ _ hl;simp only[am] at hn;have hx:=aT h x;generalize s.opA x=y at *;cases y<;>(try simp only at hq)<;>first|(cases hq;done)|skip
  rename_i X id p;split at hq<;>first|(cases hq;done)|skip
  rename_i z;have:=aco _ _ z;subst this;replace hq:=ab hq;obtain⟨c,G,hq⟩:=hq;replace hq:=ab hq;obtain⟨d,F,hq⟩:=hq;split at hq<;>first|(cases hq;done)|skip
  rename_i o;obtain⟨b,off,H,W,N⟩:=lI hx;have g:((lo.map a.eval)=none/\c=0)\/∃ k,(lo.map a.eval)=some (.int k c):=by all_goals grind
  have f:((C.map a.eval)=none/\d=m)\/∃ k,(C.map a.eval)=some (.int k d):=by all_goals grind
  have j:=tN hl (b:=b) (off:=off) o.1 o.2.1 o.2.2 g f w;refine⟨_,hq,.value (v:=.slice (some ⟨b,off+c*e.size,none⟩) (d-c) (m-c)) (w':=w) (by simp only[execOp,Option.map_none,H,zla,j,zga,zra]) (Qp.same h ?_ _)⟩
  simp only[AR,AC,Value.cells];grind
 rename_i e;rcases L.lay T _ ht with⟨I,u⟩|hl
 ·cases u
 have hn:=aH _ _ hl;simp only[am] at hn;replace hq:=ab hq;obtain⟨l,q,hq⟩:=hq;replace hq:=ab hq;obtain⟨c,G,hq⟩:=hq;replace hq:=ab hq;obtain⟨d,F,hq⟩:=hq;replace hq:=ab hq;obtain⟨l',hl',hq⟩:=hq;simp only[D.cut] at hl';split at hl'<;>first|(cases hl';done)|skip
 rename_i z;simp only[zda] at hl';subst hl';obtain⟨O,Q⟩:=kJ hn (aT h x) q;obtain⟨A,cap,H,B,U⟩:=ON hn O Q z.1 z.2;have g:((lo.map a.eval)=none/\c=0)\/∃ k,(lo.map a.eval)=some (.int k c):=by all_goals grind
 have f:((C.map a.eval)=none/\d=l.length)\/∃ k,(C.map a.eval)=some (.int k d):=by all_goals grind
 have j:=Ag hl (A:=A) (len:=l.length) (cap:=cap) z.1 z.2 B g f w;have hw:wt (.sl e) (.sl ((l.take d).drop c)):=by grind [wt]
 exact⟨_,hq,.value (w':=w) (by simp only[execOp,Option.map_none,H,zla,j,zga,zra]) (Qp.same h (dK (by simpa [am] using hn) hw (abV U)) _)⟩
def Nq(F:EnvOk P E)(h:Rp w0 S γ β s a w){dst T x ty pos after guard}:jU P E w0 S γ β s a w ⟨dst,.sliceToArrayPointer T x,ty,pos,after,guard⟩:=by
 intro R K r hq;simp only[qv] at hq;replace hq:=ab hq;obtain⟨t,ht,hq⟩:=hq;have hx:=aT h x;generalize s.opA x=y at *;cases t<;>(try simp only at hq)<;>first|(cases hq;done)|skip
 rename_i n e;have plain:(y.asList s.ob e).bind (λl=>if decide (1<=n)&&decide (n<=l.length) then K (.fptr (.arr n e) (.st (l.take n))) else none)=some r ->
   ∃ v,K v=some r/\eY P ⟨dst,.sliceToArrayPointer T x,ty,pos,after,guard⟩ a w (Qp w0 S γ β s a w dst v):=λhq=>by
  replace hq:=ab hq;obtain⟨l,o,hq⟩:=hq;split at hq<;>first|(cases hq;done)|skip
  rename_i g;simp only[zaa,zfa] at g;rcases F.lay T _ ht with⟨C,d⟩|hl
  ·cases d
  obtain⟨u,hu,q⟩:=eO hl;have hn:=aH _ _ q;obtain⟨L,M⟩:=kJ hn hx o;obtain⟨A,cap,b,off,B,G,_,f⟩:=M.elems;have i:A=some ⟨b,off,none⟩:=G.resolve_left λh0=>by subst h0;simp at g;omega
  subst i;have c:¬ l.length<n:=j1
  refine⟨_,hq,.value (v:=.pointer (some ⟨b,off,none⟩)) (w':=w) (by simp only[execOp,B,Instr.arrayAt,zla,run_underlying hu,zga,c,if_false,zra]) (Qp.same h ?_ _)⟩
  simp only[AR,AC,Value.cells];refine⟨j3,by simp only[wt];exact⟨_,rfl,by simp;omega,λx hx=>L x (zRa hx)⟩,by simpa only[am] using hn,b,off,rfl,?_⟩
  have e:abM l=[]++(abM (l.take n)++abM (l.drop n)):=by rw[ztc,<-cl,zua]
  rw[e] at f;simpa [D.flat] using f.part
 cases y<;>(try simp only at hq)<;>first|exact plain hq|skip
 rename_i sl O id p lo N;split at hq<;>first|(cases hq;done)|skip
 rename_i g;simp only[zaa,zfa] at g;obtain⟨⟨j,k⟩,H⟩:=g;subst j;have:=aco _ _ k;subst this;rcases F.lay T _ ht with⟨C,d⟩|hl
 ·cases d
 obtain⟨u,hu,_⟩:=eO hl;simp only[AR,AC,if_true] at hx;obtain⟨z,I,b,off,cap,m,Q,J⟩:=hx;have B:=ar z m;have c:¬ N<n:=j1
 refine⟨_,hq,.value (v:=.pointer (some ⟨b,off,none⟩)) (w':=w) (by simp only[execOp,B,Instr.arrayAt,zla,run_underlying hu,zga,c,if_false,zra]) (Qp.same h ?_ _)⟩
 grind [AR,AC,Value.cells]
theorem sJ(h:Rp w0 S γ β s a w):∀ (b:List Ty) (l:List Operand) (xs:List D),bq b=true->AV.toDl s.ob b (l.map s.opA)=some xs ->
  fG b xs/\(l.map a.eval).length=xs.length/\∀ (i:Nat) (x:D) (v:Value),xs[i]?=some x->(l.map a.eval)[i]?=some v->gE w S x v
 | b,[],xs,_,hx=>by all_goals grind [AV.toDl,Option.some.injEq,fG]
 | b,y::l,xs,hn,hx=>by
  cases b<;>simp only[zab,AV.toDl] at hx<;>first|(cases hx;done)|skip
  rename_i t b;obtain⟨x,h1,h2⟩:=ab hx;obtain⟨f,h3,e⟩:=ab h2;simp only[zda] at e;subst e;simp only[bq,zaa] at hn;obtain⟨g,j⟩:=oJ hn.1 (aT h y) h1;obtain⟨k,m,n⟩:=sJ h b l f hn.2 h3;refine⟨by simp only[fG];exact⟨x,f,rfl,g,k⟩,by simpa using m,λi z v d c=>?_⟩
  cases i with
  | zero=>simp at d c;subst d;subst c;exact j
  | succ i=>simp only[zpb,zab] at d c;exact n i z v d c
theorem yi:∀ {l:List Nat} {i j x:Nat},dC l=true->l[i]?=some x->l[j]?=some x->i=j
 | [],_,_,_,_,h,_=>by simp at h
 | a::l,i,j,x,h,b,c=>by
  simp only[dC,zaa,zTa] at h;have hn:∀ k,l[k]?≠some a:=λk hk=>by
   have:l.contains a=true:=by rw[List.contains_iff_mem];exact zbb hk
   simp_all
  cases i with
  | zero=> all_goals grind
  | succ i=>
   cases j with
   | zero=>simp at b c;subst c;exact z3a b (hn i)
   | succ j=>simp at b c;rw[yi h.2 b c]
theorem wF:∀ {b us:List Ty} {xs a:List D},fG b xs->fG us a->fG (b++us) (xs++a)
 | [],us,xs,a,h,k=>by simp_all [fG]
 | t::b,us,xs,a,h,k=>by simp only[fG] at h;obtain⟨d,l,rfl,h1,h2⟩:=h;simp only[zzb,fG];exact⟨d,l++a,rfl,h1,wF h2 k⟩
theorem A3(h:Rp w0 S γ β s a w):∀ (j:List Ty) (l:List AV) (f:List D) (caps:List Value),pK s.ob j l=some f->oz ⟨w,S,γ,β,s.ob,s.dead⟩ l caps ->
  ∃ e:List Nat,caps=e.map GG/\fG j f/\e.length=f.length/\l.length=e.length/\(∀ (i b:Nat),e[i]?=some b->∃ id:Nat,(uC l)[i]?=some id/\γ id=some b)/\∀ (i:Nat) (x:D) (b:Nat),f[i]?=some x->e[i]?=some b->OO w S x b
 | [],l,f,caps,c,hc=>by
  cases l with
  | nil=> simp only[pK,zda] at c;subst c;simp only[oz] at hc;subst hc;exact⟨[],rfl,by simp only[fG],rfl,rfl,λi b h=>by simp at h,λi x b h=>by simp at h⟩
  | cons x l=>simp[pK] at c
 | t::j,l,f,caps,c,hc=>by
  cases l with
  | nil=>simp[pK] at c
  | cons x l=>
   cases x<;>first|(simp[pK] at c;done)|skip
   rename_i u id p;cases p<;>first|(simp[pK] at c;done)|skip
   simp only[pK] at c;split at c<;>first|(cases c;done)|skip
   rename_i P v q;split at c<;>first|(cases c;done)|skip
   rename_i C;have:=aco _ _ C;subst this;obtain⟨z,h1,c⟩:=ab c;obtain⟨g,h2,c⟩:=ab c;cases c;simp only[oz] at hc;obtain⟨v',c2,rfl,r,G⟩:=hc;obtain⟨e,rfl,K,L,M,N,O⟩:=A3 h j l g c2 h2 G;simp only[AC] at r;obtain⟨b,off,n,o,y⟩:=r;obtain⟨_,A⟩:=y _ q;have B:off=0:=A;subst B;have hO:=h.obs id _ b q o;simp only[gm] at hO;obtain⟨_,_,H,cs,I,J,_⟩:=hO;obtain⟨t1,t2,_⟩:=sH _ _ _ _ h1 J;refine⟨b::e,by simp only[List.cons.injEq,and_true] at n;rw[n];rfl,by simp only[fG];exact⟨z,g,rfl,t1,K⟩,by simp[L],by simp[M],λi k d=>?_,λi x k hx d=>?_⟩
   ·cases i with
    | zero=>simp at d;subst d;exact⟨id,rfl,o⟩
    | succ i=>simp only[zpb] at d;obtain⟨m,E,F⟩:=N i k d;exact⟨m,by simpa [uC] using E,F⟩
   ·cases i with
    | zero=>simp at hx d;subst hx;subst d;exact⟨H,cs,I,t2⟩
    | succ i=>simp only[zpb] at hx d;exact O i x k hx d
def xc (h : Rp w0 S γ β s a w) {o : Oper} {f : FuncId} {rty : Ty} {y : D} (n2 : am rty = true \/ ∃ ts, rty = .tup ts /\ bq ts = true) {fn : Func} (f1 : P.funcs[f]? = some fn) (f2 : (fn.name == "runtime.NumGoroutine") = false) (f3 : fn.body.isSome = true)
  (vs:List Value) (hx:(execOp a.eval o).run P w=.ok (.enter f vs.toArray) w)
  (hc:Calls P f vs.toArray w λe w'=>∃ v,e=.returned v/\(∃ os d,w.drawn<=d/\w'=grown w os d)/\wt rty y/\DR w' (λb o=>S b o\/(w.heap.size<=b/\b<w'.heap.size)) y v) :
  eY P o a w (Qp w0 S γ β s a w o.dst (.d rty y)):=by
 refine .enter (f:=f) (args:=vs.toArray) (w':=w) hx (hc.mono λe w' ⟨v,he,⟨os,d,hdr0,hw'⟩,hwt,hdr⟩=>⟨v,he,?_⟩);subst hw';obtain⟨h1,le1⟩:=h.grow (os:=os) (d:=d) hdr0 (S':=λb o=>S b o\/(w.heap.size<=b/\b<(grown w os d).heap.size)) (λ_ _ hb=>.inl hb) (λ_ _ hb=>hb);refine⟨_,γ,β,h1,?_,λ_ _ hb=>.inl hb,⟨os,d,rfl⟩,λ_ _ hb=>hb,λ_ _=>⟨rfl,rfl⟩⟩;simp only[AR];rcases n2 with n2|⟨ts,rfl,n2⟩
 ·refine .inl ⟨n2,hwt,?_⟩;cases rty<;>simp only[wt] at hwt<;>first
   | (obtain⟨m,rfl⟩:=hwt;exact hdr)
   | (obtain⟨m,rfl,_⟩:=hwt;exact hdr)
   | (exact hwt.elim)
   | (simp[am] at n2)
 ·simp_all
def Id(h:Rp w0 S γ β s a w){o:Oper}{f:FuncId}{t:Ty}{l:List D}{d:Nat}(N:o.dst=some d)(E:d<4096)(H:β (s.base+d)=none){fn:Func}(f1:P.funcs[f]?=some fn){c:List Ty}{xs:List D}
  (vs:List Value) (hx:(execOp a.eval o).run P w=.ok (.enter f vs.toArray) w) (hc:Hk P c t f xs l) (I:fG c xs) (J:vs.length=xs.length) (K:∀ (i:Nat) (x:D) (v:Value),xs[i]?=some x->vs[i]?=some v->gE w S x v) :
  eY P o a w (Qp w0 S γ β s a w o.dst (.own t (s.base+d) l)):=by
 refine .enter (f:=f) (args:=vs.toArray) (w':=w) hx ((hc w S vs h.Sb I J K).mono λe w' ⟨A,cap,he,⟨os,dr,j,y⟩,m,p,S',s1,s2,g,B⟩=>⟨_,he,?_⟩);subst y;obtain⟨h1,L⟩:=h.grow (os:=os) (d:=dr) j (S':=S') s1 s2;rcases B with⟨rfl,rfl⟩|⟨b,off,rfl,⟨C,r⟩,hn,k⟩
 ·refine⟨S',γ,β,h1,?_,s1,⟨os,dr,rfl⟩,λ_ _ q=>q,λ_ _=>⟨rfl,rfl⟩⟩;simp only[AR,AC,Value.cells];exact⟨j3,m,p,none,0,rfl,g,λ_=>.inl ⟨rfl,rfl⟩⟩
 ·have z:¬ w0.Old b:=λG=>by have:=G.1;have:=h.ext.sz;omega
  obtain⟨h2,M⟩:=h1.newTok (v:=s.base+d) (b:=b) (e:=off+l.length*t.size) H z r (λid hid=>by have:=(h.γn id _ hid).2;omega) (λu f hu hf=>by have:=(h.βn u _ _ hu hf).2.1;omega) j1 k
  refine⟨S',γ,pw β (s.base+d) (b,off+l.length*t.size),h2,?_,s1,⟨os,dr,rfl⟩,λ_ _ q=>q,λid hid=>⟨rfl,bY β _ λF=>?_⟩⟩
  ·simp only[AR,AC,Value.cells];exact⟨j3,m,p,_,cap,rfl,g,λ_=>.inr ⟨b,off,rfl,by simp[bH],hn⟩⟩
  ·subst F;rcases hid with hid|hid
   ·simp_all
   ·omega
def Nr(hE:EnvOk P E)(h:Rp w0 S γ β s a w){dst c ty pos after guard}(hf:Fr E s γ β ⟨dst,.call c,ty,pos,after,guard⟩):jU P E w0 S γ β s a w ⟨dst,.call c,ty,pos,after,guard⟩:=by
 intro R K r hq;obtain⟨callee,args,argTypes⟩:=c;simp only[qv] at hq;split at hq<;>first|(cases hq;done)|skip
 case h_1=>
  replace hq:=ab hq;obtain⟨T,hT,hq⟩:=hq;replace hq:=ab hq;obtain⟨t,ht,hq⟩:=hq;replace hq:=ab hq;obtain⟨x,hx,hq⟩:=hq;have hx':(args.map a.eval)[0]?=some (a.eval x):=by simp[hx]
  have hex:execOp a.eval ⟨dst,.call ⟨.builtin .len,args,argTypes⟩,ty,pos,after,guard⟩=(Builtin.len_ argTypes ty (args.map a.eval) >>= λv=>pure (.value v)):=rfl;cases t<;>(try simp only at hq)<;>first|(cases hq;done)|skip
  case sl e=>
   rcases hE.lay T _ ht with⟨ts',hts⟩|hl
   ·cases hts
   have hn:=aH _ _ hl;simp only[am] at hn;obtain⟨u,k1,_⟩:=jG hl;have run:∀ {A:Option Addr} {n cap:Nat},a.eval x=.slice A n cap->(execOp a.eval ⟨dst,.call ⟨.builtin .len,args,argTypes⟩,ty,pos,after,guard⟩).run P w=.ok (.value (.int .i64 n)) w:=by simp_all [Builtin.len_,run_underlying,k1,goInt]
   by_cases hm:∃ t' id,s.opA x=.mem t' id
   ·obtain⟨t',id,hm⟩:=hm;have hx2:=aT h x;rw[hm] at hq hx2;simp only at hq;split at hq<;>first|(cases hq;done)|skip
    split at hq<;>first|(cases hq;done)|skip
    rename_i u' l hob;obtain⟨_,b,hγ,hob2⟩:=Hh hx2;obtain⟨l',e1,hv⟩:=hob2 _ hob;cases e1;exact⟨_,hq,.value (run hv) (Qp.same h (cT _ _) _)⟩
   ·have hq':((s.opA x).asList s.ob e).bind (λl=>K (.d (.int .i64) (.int .i64 l.length)))=some r:=by
     simp_all
    obtain⟨l,h1,hq⟩:=ab hq';obtain⟨A,cap,hv⟩:=CO hn (aT h x) h1;exact⟨_,hq,.value (run hv) (Qp.same h (cT _ _) _)⟩
  case arr n e=>
   rcases hE.lay T _ ht with⟨ts',hts⟩|hl
   ·cases hts
   obtain⟨u,k1,_⟩:=eO hl;exact⟨_,hq,.value (v:=.int .i64 n) (w':=w) (by rw[hex];simp[Builtin.len_,hT,hx',run_underlying k1,goInt]) (Qp.same h (cT _ _) _)⟩
  case str=>
   rcases hE.lay T _ ht with⟨ts',hts⟩|hl
   ·cases hts
   replace hq:=ab hq;obtain⟨p,hp,hq⟩:=hq;split at hq<;>first|(cases hq;done)|skip
   rename_i hb;replace hq:=ab hq;obtain⟨z,hz,hq⟩:=hq;have hx2:=aT h x;rw[eN hp] at hx2;obtain⟨t',x'⟩:=p;have e:=aco _ _ hb;simp only at e;subst e;obtain⟨k1,k2⟩:=AM hx2 rfl;simp only[wt] at k1;obtain⟨sb,rfl⟩:=k1;simp only[D.slen,zda] at hz;subst hz;have hsv:a.eval x=.string sb:=by obtain⟨c1,c2⟩:=k2;obtain⟨c,e,h⟩:=c8.single' c2;have:=ar c1 e;rw[this];cases h;rfl
   have hu:P.underlying T=some .string:=by simp only[bJ,zaa] at hl;all_goals grind
   exact⟨_,hq,.value (v:=.int .i64 sb.size) (w':=w) (by rw[hex];simp[Builtin.len_,hT,hx',run_underlying hu,hsv,goInt]) (Qp.same h (cT _ _) _)⟩
 case h_2=>
  split at hq<;>first|(cases hq;done)|skip
  rename_i x y he;have he':(args.map a.eval).toList=[a.eval x,a.eval y]:=by simp[he]
  replace hq:=ab hq;obtain⟨p,hp,hq⟩:=hq;replace hq:=ab hq;obtain⟨q,hqq,hq⟩:=hq;split at hq<;>first|(cases hq;done)|skip
  replace hq:=ab hq;obtain⟨z,hz,hq⟩:=hq;have h1:=aT h x;have h2:=aT h y;rw[eN hp] at h1;rw[eN hqq] at h2;cases hp2:p.2<;>rw[hp2] at hz h1<;>cases hq2:q.2<;>rw[hq2] at hz h2<;>simp only[D.min2] at hz<;>first|(cases hz;done)|skip
  rename_i k n k' m;simp only[zda] at hz;subst hz;obtain⟨v1,t1⟩:=fF h1;obtain⟨v2,_⟩:=fF h2;have hex:execOp a.eval ⟨dst,.call ⟨.builtin .min,args,argTypes⟩,ty,pos,after,guard⟩=(Builtin.min_ argTypes ty (args.map a.eval) >>= λv=>pure (.value v)):=rfl;refine⟨_,hq,.value (v:=.int k (if m<n then m else n)) (w':=w) ?_ (Qp.same h (by rw[t1];exact cT _ _) _)⟩
  simp_all [Builtin.min_,v1,v2,Builtin.min2]
 case h_3=>
  split at hq<;>first|(cases hq;done)|skip
  rename_i x y he;have he':(args.map a.eval).toList=[a.eval x,a.eval y]:=by simp[he]
  replace hq:=ab hq;obtain⟨p,hp,hq⟩:=hq;replace hq:=ab hq;obtain⟨q,hqq,hq⟩:=hq;split at hq<;>first|(cases hq;done)|skip
  replace hq:=ab hq;obtain⟨z,hz,hq⟩:=hq;have h1:=aT h x;have h2:=aT h y;rw[eN hp] at h1;rw[eN hqq] at h2;cases hp2:p.2<;>rw[hp2] at hz h1<;>cases hq2:q.2<;>rw[hq2] at hz h2<;>simp only[D.max2] at hz<;>first|(cases hz;done)|skip
  rename_i k n k' m;simp only[zda] at hz;subst hz;obtain⟨v1,t1⟩:=fF h1;obtain⟨v2,_⟩:=fF h2;have hex:execOp a.eval ⟨dst,.call ⟨.builtin .max,args,argTypes⟩,ty,pos,after,guard⟩=(Builtin.max_ argTypes ty (args.map a.eval) >>= λv=>pure (.value v)):=rfl;refine⟨_,hq,.value (v:=.int k (if m>n then m else n)) (w':=w) ?_ (Qp.same h (by rw[t1];exact cT _ _) _)⟩
  simp_all [Builtin.max_,v1,v2,Builtin.max2]
 case h_4 f=>
  replace hq:=ab hq;obtain⟨g,hg,hq⟩:=hq;cases hfr:Nat.beq (E.free f) 0 with
  | false=>rw[hfr] at hq;cases hq
  | true=>
  rw[hfr] at hq;replace hq:=ab hq;obtain⟨xs,hxs,hq⟩:=hq;replace hq:=ab hq;obtain⟨y,hy,hq⟩:=hq;obtain⟨ptys,rty⟩:=g;obtain⟨n1,n2,fn,f1,f2,f3⟩:=hE.sig f ptys rty hg;obtain⟨k1,k2,k3⟩:=sJ h ptys args.toList xs n1 hxs;obtain⟨hc,hc2⟩:=hE.call f ptys rty xs y hg hy k1;rw[zqc hfr] at hc;have hrun:(execOp a.eval ⟨dst,.call ⟨.value (.func f),args,argTypes⟩,ty,pos,after,guard⟩).run P w=.ok (.enter f (args.toList.map a.eval).toArray) w:=by
   have hm:args.map a.eval=(args.toList.map a.eval).toArray:=zpc j3
   have f2' : ¬ fn.name = "runtime.NumGoroutine" := by simpa using f2
   have hb':¬ fn.body=none:=h7
   simp[execOp,resolve,Act.eval,Deferred.ofValue,invoke,callFunc,f1,f2',hb',hm]
  cases how:E.ownF f with
  | true=> rw[how] at hq;simp only[cond_true] at hq;obtain⟨t,l,rfl,rfl,hc3⟩:=hc2 how;replace hq:=ab hq;obtain⟨d,hd,hq⟩:=hq;replace hq:=ab hq;obtain⟨l',hl',hq⟩:=hq;cases hl';obtain⟨hd4,_,hβ,_⟩:=hf rfl d hd;exact⟨_,hq,Id h hd hd4 hβ f1 (args.toList.map a.eval) hrun hc3 k1 k2 k3⟩
  | false=> rw[how] at hq;exact⟨_,hq,xc h n2 f1 f2 f3 (args.toList.map a.eval) hrun (hc w S (args.toList.map a.eval) h.Sb k1 k2 k3)⟩
 case h_5 t=>
  split at hq<;>first|(cases hq;done)|skip
  rename_i f l ht;replace hq:=ab hq;obtain⟨g,hg,hq⟩:=hq;cases hfr:(Nat.beq (E.free f) l.length&&dC (uC l)) with
  | false=>rw[hfr] at hq;cases hq
  | true=>
  rw[hfr] at hq;simp only[zaa] at hfr;obtain⟨hfr,hnd⟩:=hfr;have hfr:=zqc hfr;replace hq:=ab hq;obtain⟨xs,hxs,hq⟩:=hq;replace hq:=ab hq;obtain⟨zs,hzs,hq⟩:=hq;replace hq:=ab hq;obtain⟨y,hy,hq⟩:=hq;obtain⟨ptys,rty⟩:=g;obtain⟨n1,n2,fn,f1,f2,f3⟩:=hE.sig f ptys rty hg;obtain⟨k1,k2,k3⟩:=sJ h _ args.toList xs (iG _ n1) hxs;have hA:=aT h (.tmp t);have hA':AR ⟨w,S,γ,β,s.ob,s.dead⟩ (.clo f l) (a.eval (.tmp t)):=by rw[<-ht];exact hA
  simp only[AR,AC] at hA';obtain⟨na,caps,hcs,hcap⟩:=hA';have hv:=ar na hcs;obtain⟨bs,rfl,q1,q2,q3,q4,q5⟩:=A3 h _ l zs caps hzs hcap;have hwt:fG ptys (xs++zs):=by
   have:=wF k1 q1
   rwa [zua] at this
  have hc:=(hE.call f ptys rty (xs++zs) y hg hy hwt).1;have hx:(execOp a.eval ⟨dst,.call ⟨.value (.tmp t),args,argTypes⟩,ty,pos,after,guard⟩).run P w=.ok (.enter f (args.toList.map a.eval++bs.map GG).toArray) w:=by
   have hm:args.map a.eval=(args.toList.map a.eval).toArray:=zpc j3
   have f2' : ¬ fn.name = "runtime.NumGoroutine" := by simpa using f2
   have hb':¬ fn.body=none:=h7
   simp only[execOp,resolve,hv];simp[Deferred.ofValue,invoke,callFunc,f1,f2',hb',hm]
  refine⟨_,hq,xc h n2 f1 f2 f3 (args.toList.map a.eval++bs.map GG) hx ?_⟩;rw[hfr] at hc;cases l with
  | nil=>
   have hb0:bs=[]:=zVc.1 (by simpa using q3.symm)
   have hz0:zs=[]:=zVc.1 (by rw[<-q2,hb0];rfl)
   subst hb0;subst hz0;simp only[zBb,zkd] at hc ⊢;exact hc w S (args.toList.map a.eval) h.Sb (by simpa using hwt) k2 k3
  | cons x l=>
   refine hc w S (args.toList.map a.eval) bs h.Sb hwt q3.symm (by rw[k2,zta,<-q2,<-q3];rfl) (λi j b hi hj=>?_) (λi x v hx hv=>?_) λi x b hx hb=>?_
   ·obtain⟨id,e1,e2⟩:=q4 i b hi;obtain⟨id',e3,e4⟩:=q4 j b hj;have:=h.γi id id' b e2 e4;subst this;exact yi hnd e1 e3
   ·grind
   ·grind
def R7(b:EnvOk P E)(h:Rp w0 S γ β s a w){o:Oper}(hf:Fr E s γ β o)(hT:∀ T t,o.op=.alloc T->E.L T=some t->am t=true):jU P E w0 S γ β s a w o:=by
 obtain⟨dst,op,ty,pos,after,guard⟩:=o;cases op
 case move x=>exact Nt h
 case assign x=>exact GI h
 case pick c x y=>exact Nu h
 case alloc T=>exact JA b h hf (λt=>hT T t rfl)
 case load T x=>exact Ns b h
 case lookup T x i c=>exact GJ b h
 case fieldAddr T x f=>exact Aa b h
 case indexAddr T x i=>exact Ab b h
 case field T x f=>exact JE b h
 case index T x f=>exact JF b h
 case binOp op T x y T'=>exact JB b h
 case unOp op T x=>exact Nv h
 case convert U T x=>exact DA b h
 case build T ps=>exact JC b h
 case buildSlice T n ps=>exact wW b h hf
 case extract x i=>exact DB h
 case nilCheck x=>exact Cb h
 case slice T x lo hi mx=>exact JG b h
 case sliceToArrayPointer T x=>exact Nq b h
 case makeFunc fn x y=>exact B9 h
 case call c=>exact Nr b h hf
 all_goals (intro R K r hq;simp only[qv] at hq;cases hq)
end
def oS{w0:Root}{w w':World}(h:mG w0 w)(ht:w'.tape=w.tape)(e:w'.os=w.os)(hu:w'.output=w.output)(hs:w.heap.size<=w'.heap.size)(c:w.drawn<=w'.drawn)(d:∀ b,w0.Old b->w'.heap[b]?=w.heap[b]?):mG w0 w':=
 ⟨ht.trans h.tape,e.trans h.os,hu.trans h.output,zIa h.sz hs,zIa h.dr c,λb a=>(d b a).trans (h.old b a)⟩
def cN{w:World}{b a off:Nat}{cs:Array Value}(h:a≠b):(putAt w b off cs).heap[a]?=w.heap[a]?:=by simp only[putAt,z9c];grind
def gU{w:World}{b off:Nat}{c cs:Array Value}(h:bO w b=some c):bO (putAt w b off cs) b=some (eJ c off cs):=by
 unfold bO at h ⊢;split at h<;>first|(cases h;done)|skip
 rename_i a;simp only[zda] at h;subst h;simp only[putAt,z9c,if_true,a,zIb]
def Ad{w:World}{b a off:Nat}{cs:Array Value}(h:a≠b):bO (putAt w b off cs) a=bO w a:=by simp only[bO,cN h]
def ck{w:World}{b a off o:Nat}{cs:Array Value}(h:a≠b):(putAt w b off cs).cell? ⟨a,o,none⟩=w.cell? ⟨a,o,none⟩:=by simp only[World.cell?,cN h]
def lm{w:World}{b a off:Nat}{c cs:Array Value}(h:bO w b=some c)(hs:off+cs.size<=c.size):nk (putAt w b off cs) a=nk w a:=by
 by_cases e:a=b
 ·simp_all [nk,gU,zIb,splice_size]
 ·simp only[nk,Ad e]
def abZ{w w':World}(a:Nat)(h:∀ b,b≠a->b<w.heap.size->w'.heap[b]?=w.heap[b]?)(h0:∀ o,w.heap[a]?=some o->o≠Obj.deferred (some [])/\∀ r,o≠Obj.loop r):dw w w':=by intro b;all_goals grind
def dw.old{w w':World}(h:∀ b,b<w.heap.size->w'.heap[b]?=w.heap[b]?):dw w w':=
 λb=>⟨λa=>(h b (zza.1 a).1).trans a,λ⟨r,a⟩=>⟨r,(h b (zza.1 a).1).trans a⟩⟩
def GP{w:World}{b:Nat}{c:Array Value}(h:bO w b=some c):∀ o,w.heap[b]?=some o->o≠Obj.deferred (some [])/\∀ r,o≠Obj.loop r:=λo a=>by
 constructor
 ·rintro rfl;simp[bO,a] at h
 ·rintro r rfl;simp[bO,a] at h
def Gl{w:World}{b n:Nat}{es:Array MapEntry}(h:w.heap[b]?=some (.map es n)):∀ o,w.heap[b]?=some o->o≠Obj.deferred (some [])/\∀ r,o≠Obj.loop r:=λo a=>by simp_all
theorem dw.putAt{w:World}{b off:Nat}{c cs:Array Value}(h:bO w b=some c):dw w (putAt w b off cs):=abZ b (λd a _=>cN a) (GP h)
theorem dw.grown{w:World}{os:List Obj}{d:Nat}:dw w (grown w os d):=dw.old λb a=>cV w os d a
theorem Fm.refl(s:St)(S:Nat->Nat->Prop)(γ:Nat->Option Nat)(a:Act)(w:World):Fm s S γ a w S γ a w:=
 ⟨λ_ _ h=>h,λ_ _ _=>rfl,λ_ _=>rfl,λ_ _ _ h=>⟨h,km.refl _ _⟩,zia _,λ_ _ h=>h,mD.same rfl (dw.refl _)⟩
theorem Fm.trans{s s1:St}{S S1 S2:Nat->Nat->Prop}{γ γ1 γ2:Nat->Option Nat}{a a1 a2:Act}{w w1 e:World}(h:Fm s S γ a w S1 γ1 a1 w1)(k:Fm s1 S1 γ1 a1 w1 S2 γ2 a2 e)(f:s1.lkS=s.lkS)(d:s1.lkO=s.lkO):Fm s S γ a w S2 γ2 a2 e:=
 ⟨λb o c=>k.sub b o (h.sub b o c),λb o c=>(k.cell b o (h.sub b o c)).trans (h.cell b o c),λt ht=>(k.slots t (f ▸ ht)).trans (h.slots t ht),
  λid hid b c=>by obtain⟨h1,h2⟩:=h.objs id hid b c;obtain⟨g,i⟩:=k.objs id (d ▸ hid) b h1;exact⟨g,h2.trans i⟩,zIa h.sz k.sz,λid b c=>k.gam id b (h.gam id b c),h.dfs.trans (d ▸ k.dfs) h.sz k.sz⟩
def co{a:Act}{dst:Option Nat}{v:Value}{t:Nat}(h:dst≠some t):(a.put dst v).tmps.getD t undef=a.tmps.getD t undef:=by
 cases dst with
 | none=>rfl
 | some d=>
  have b:d≠t:=λe=>h (by rw[e])
  simp only[Act.put];all_goals simp_all
def Hm(P:Program)(w0:Root)(S:Nat->Nat->Prop)(γ:Nat->Option Nat)(β:Nat->Option (Nat×Nat))(s:St)(a:Act)(w:World)(o:Oper)(s':St):Prop:=
 s'.lkS=s.lkS/\s'.lkO=s.lkO/\s'.fresh=s.fresh/\s'.nt=s.nt/\(∀ id,γ id=none->o.dst≠some (id-s.base)\/id<s.base->s'.ob id=s.ob id) ∧
 eY P o a w λval w'=>∃ S' γ' β',Rp w0 S' γ' β' s' (a.put o.dst val) w'/\Fm s S γ a w S' γ' (a.put o.dst val) w'/\(∀ id,o.dst≠some (id-s.base)\/id<s.base->γ' id=γ id/\β' id=β id)
section
variable{P:Program}{E:Env}{w0:Root}{S:Nat->Nat->Prop}{γ:Nat->Option Nat}{β:Nat->Option (Nat×Nat)}{s:St}{a:Act}{w:World}
def aci(s:St)(d:Option Nat)(v:AV):(s.put d v).ob=s.ob/\(s.put d v).fresh=s.fresh/\(s.put d v).dead=s.dead/\(s.put d v).nt=s.nt/\(s.put d v).lkS=s.lkS/\(s.put d v).lkO=s.lkO/\(s.put d v).base=s.base:=by
 cases d with
 | none=>exact⟨rfl,rfl,rfl,rfl,rfl,rfl,rfl⟩
 | some d=>simp only[St.put];split<;>exact⟨rfl,rfl,rfl,rfl,rfl,rfl,rfl⟩
def dB{os:List Obj}{d b:Nat}(h:b<w.heap.size):(grown w os d).heap[b]?=w.heap[b]?:=cV w os d h
def xw(g:EnvOk P E)(h:Rp w0 S γ β s a w){o:Oper}(hf:Fr E s γ β o)(hT:∀ T t,o.op=.alloc T->E.L T=some t->am t=true)(e:∀ t∈s.lkS,o.dst≠some t){R:Type}{K:St->Option R}{r:R}(hq:qv E s o (λv=>K (s.put o.dst v))=some r) :
  ∃ s',K s'=some r/\Hm P w0 S γ β s a w o s':=by
 obtain⟨v,h1,h2⟩:=R7 g h hf hT R _ r hq;obtain⟨p,q,z,u,x,y,A⟩:=aci s o.dst v;refine⟨_,h1,x,y,q,u,λid _ _=>by rw[p],h2.mono λval w' ⟨S',γ',β',i,j,k,⟨os,d,l⟩,f,m⟩=>?_⟩
 subst l;exact⟨S',γ',β',i.put j o.dst,⟨k,λb o c=>dN (h.Sb b o c),λt ht=>co (e t ht),λid hid b c=>⟨f id b c,.inl (dB (h.γn id b c).2)⟩,j3,f,mD.same bS dw.grown⟩,m⟩
def Rp.write(h:Rp w0 S γ β s a w){id b off:Nat}{o o':Ob}{c cs:Array Value}(G:s.ob id=some o)(y:γ id=some b)(A:∀ o,¬ S b o)(D:bO w b=some c)(hs:off+cs.size<=c.size)
  (E:∀ p,fk o' p=fk o p/\cD o' p=cD o p) (m:∀ t l,o=.many t l->∃ l',o'=.many t l'/\l'.length=l.length) (C:∀ F vt l,o≠.mp F vt l)
  (r:gm ⟨putAt w b off cs,S,γ,β,(s.setOb id (some o')).ob,s.dead⟩ b o') :
  Rp w0 S γ β (s.setOb id (some o')) a (putAt w b off cs)/\Cx.le ⟨w,S,γ,β,s.ob,s.dead⟩ ⟨putAt w b off cs,S,γ,β,(s.setOb id (some o')).ob,s.dead⟩:=by
 have k:∀ d o,S d o->d≠b:=λd o j e=>A o (e ▸ j);have hle:Cx.le ⟨w,S,γ,β,s.ob,s.dead⟩ ⟨putAt w b off cs,S,γ,β,(s.setOb id (some o')).ob,s.dead⟩:=by
  refine⟨λd o j=>ck (k d o j),λ_ _ j=>j,λ_ _ j=>j,λi x hx _=>?_,λv u=>⟨u,λd e he=>⟨he,λn hn=>by rw[lm D hs];exact hn⟩⟩⟩
  simp only[St.setOb] at hx;by_cases e:i=id
  ·simp_all
  ·simp_all
 refine⟨⟨oS h.ext rfl rfl rfl j3 (zia _) (λd g=>cN (λe=>(h.γn id b y).1 (e ▸ g))),λt ht=>(h.tms t ht).mono hle,h.nt,h.tmu,λi x d hx g=>?_,λi d g=>by simpa using h.γn i d g,h.γi,h.γf,
  λv d e u he=>by simpa using h.βn v d e u he,h.βi,h.βγ,h.βf,λd o j=>by simpa using h.Sb d o j,h.So⟩,hle⟩
 simp only[St.setOb] at hx;by_cases e:i=id
 ·subst e;simp only[if_true,zda] at hx;subst hx;rw[y] at g;cases g;exact r
 ·rw[zka e] at hx;have q:d≠b:=λz=>e (h.γi i id d g (z ▸ y));exact(h.obs i x d hx g).mono hle (cN q) λ_ B=>B
def F8(hE:EnvOk P E)(h:Rp w0 S γ β s a w){dst T x y ty pos after guard}(aB:∀ t∈s.lkS,dst≠some t){R:Type}{K:St->Option R}{r:R}(hd:dst=none)
  (hq:tZ E s ⟨dst,.store T x y,ty,pos,after,guard⟩ K=some r):∃ s',K s'=some r/\Hm P w0 S γ β s a w ⟨dst,.store T x y,ty,pos,after,guard⟩ s':=by
 subst hd;simp only[tZ] at hq;have hx:=aT h x;have hy:=aT h y;cases hfn:E.fnT T with
 | true=>
  rw[hfn] at hq;simp only[cond_true] at hq;split at hq<;>first|(cases hq;done)|skip
  rename_i id e;split at hq<;>first|(cases hq;done)|skip
  rename_i d;simp only[zaa,zTa] at d;split at hq<;>first|(cases hq;done)|skip
  rename_i v f;rw[e] at hx;have L:id ∉ s.lkO:=by simp_all
  obtain⟨b,off,U,J,M⟩:=lI hx;obtain⟨_,rfl⟩:=M _ f;obtain⟨D,z,m,_,_⟩:=h.obs id _ b f J;obtain⟨hy,h1⟩:=Fb (c:=⟨w,S,γ,β,s.ob,s.dead⟩) d.1 hy;have hr:=Ah (hE.fnT T hfn) (w:=w) (b:=b) m h1;have q:0+#[a.eval y].size<=#[z].size:=j3
  have I:gm ⟨putAt w b 0 #[a.eval y],S,γ,β,(s.setOb id (some (.fv (jO s.ob (s.opA y))))).ob,s.dead⟩ b (.fv (jO s.ob (s.opA y))):=by
   have H:∀ g o,S g o->g≠b:=λg o d e=>D o (e ▸ d);have hle:Cx.le ⟨w,S,γ,β,s.ob,s.dead⟩ ⟨putAt w b 0 #[a.eval y],S,γ,β,(s.setOb id (some (.fv (jO s.ob (s.opA y))))).ob,s.dead⟩:=by
    refine⟨λg o d=>ck (H g o d),λ_ _ d=>d,λ_ _ d=>d,λi z F _=>?_,λv U=>⟨U,λg e he=>⟨he,λn hn=>by rw[lm m q];exact hn⟩⟩⟩
    simp only[St.setOb] at F;by_cases e:i=id
    ·subst e;simp only[if_true,zda] at F;subst F;exact⟨_,f,λp=>by cases p<;>exact⟨rfl,rfl⟩,(λt l e=>by cases e),λ_ _ l e=>by cases e⟩
    ·simp_all
   simp only[gm];refine⟨D,a.eval y,?_,hy.mono hle.cell hle.S hle.γ,h1⟩;rw[gU m];rfl
  obtain⟨n1,n2⟩:=h.write (o':=.fv (jO s.ob (s.opA y))) f J D m q (λp=>by cases p<;>exact⟨rfl,rfl⟩) (λt l e=>by cases e) (λ_ _ _ e=>by cases e) I
  refine⟨_,hq,rfl,rfl,rfl,rfl,λi O _=>?_,.skip (w':=putAt w b 0 #[a.eval y]) ?_ ⟨S,γ,β,n1,?_,λ_ _=>⟨rfl,rfl⟩⟩⟩
  ·grind [St.setOb]
  ·simp_all [execOp,zla,cD,zga,zra]
  ·exact⟨λ_ _ d=>d,λg o d=>ck (λe=>D o (e ▸ d)),λ_ _=>rfl,λi O g k=>⟨k,.inl (cN λe=>L ((h.γi id i b J (e ▸ k)) ▸ O))⟩,j3,λ_ _ d=>d,mD.same rfl (dw.putAt m)⟩
 | false=>
 rw[hfn] at hq;simp only[cond_false] at hq;replace hq:=ab hq;obtain⟨t,ht,hq⟩:=hq;generalize s.opA x=ax at *;cases ax<;>(try simp only at hq)<;>first|(cases hq;done)|skip
 rename_i t' id p;split at hq<;>first|(cases hq;done)|skip
 rename_i d;simp only[zaa,zTa] at d;obtain⟨⟨ai,G⟩,an⟩:=d;have:=aco _ _ ai;subst this;have L:id ∉ s.lkO:=by simp_all
 obtain⟨b,off,U,J,M⟩:=lI hx;split at hq<;>first|(cases hq;done)|skip
 ·
  rename_i u v f;obtain⟨Q,rfl⟩:=M _ f;have hO:=h.obs id _ b f J;simp only[gm] at hO;obtain⟨N,Y,D,cs,m,o5,o6⟩:=hO;simp only[fk] at Q;have hn:=dU p N Q;have hl:=j9 hE ht hn;obtain⟨Z,y2⟩:=AL G hn hy;obtain⟨v',pre,mid,post,m1,rfl,m2,m3,m4,m5⟩:=ND p Y N Q o5 Z G hq;obtain⟨y3,y4⟩:=iK _ _ _ G Z;have hr:=qu hl (w:=w) (b:=b) (off:=aZ u p) m y2 y3 y4 (by simp only[zDc,zta];omega)
  have q:aZ u p+(a.eval y).cells.toList.toArray.size<=(pre++(mid++post)).toArray.size:=h7
  have I:gm ⟨putAt w b (aZ u p) (a.eval y).cells.toList.toArray,S,γ,β,(s.setOb id (some (.one u v'))).ob,s.dead⟩ b (.one u v'):=by
   have H:∀ g o,S g o->g≠b:=λg o d e=>D o (e ▸ d);have hle:Cx.le ⟨w,S,γ,β,s.ob,s.dead⟩ ⟨putAt w b (aZ u p) (a.eval y).cells.toList.toArray,S,γ,β,(s.setOb id (some (.one u v'))).ob,s.dead⟩:=by
    refine⟨λg o d=>ck (H g o d),λ_ _ d=>d,λ_ _ d=>d,λi z F _=>?_,λv U=>⟨U,λg e he=>⟨he,λn hn=>by rw[lm m q];exact hn⟩⟩⟩
    simp only[St.setOb] at F;by_cases e:i=id
    ·subst e;simp only[if_true,zda] at F;subst F;exact⟨_,f,λp=>⟨rfl,rfl⟩,(λt l e=>by cases e),λ_ _ l e=>by cases e⟩
    ·simp_all
   simp only[gm];refine⟨N,m5,D,pre++((a.eval y).cells.toList++post),?_,AC.mono hle _ _ m4,(iK _ _ _ m5 m4).1⟩;rw[gU m,<-m2,iJ pre mid post _ m3]
  obtain⟨n1,n2⟩:=h.write (o':=.one u v') f J D m q (λp=>⟨rfl,rfl⟩) (λt l e=>by cases e) (λ_ _ _ e=>by cases e) I
  refine⟨_,m1,rfl,rfl,rfl,rfl,λi O _=>?_,.skip (w':=putAt w b (aZ u p) (a.eval y).cells.toList.toArray) ?_ ⟨S,γ,β,n1,?_,λ_ _=>⟨rfl,rfl⟩⟩⟩
  ·grind [St.setOb]
  ·simp_all [execOp,zla,cD,zga,zra]
  ·exact⟨λ_ _ d=>d,λg o d=>ck (λe=>D o (e ▸ d)),λ_ _=>rfl,λi O g k=>⟨k,.inl (cN λe=>L ((h.γi id i b J (e ▸ k)) ▸ O))⟩,j3,λ_ _ d=>d,mD.same rfl (dw.putAt m)⟩
 ·
  rename_i u l f;cases p with
  | nil=>simp only at hq;cases hq
  | cons i p=>
   simp only at hq;replace hq:=ab hq;obtain⟨z,F,hq⟩:=hq;replace hq:=ab hq;obtain⟨y',aj,hq⟩:=hq;replace hq:=ab hq;obtain⟨z',ak,hq⟩:=hq;obtain⟨Q,rfl⟩:=M _ f;have hO:=h.obs id _ b f J;simp only[gm] at hO;obtain⟨N,Y,D,cs,m,o5⟩:=hO;simp only[fk] at Q;have hn:=dU p N Q;have hl:=j9 hE ht hn;obtain⟨Z,y2⟩:=AL G hn hy;obtain⟨y3,y4⟩:=iK _ _ _ G Z;obtain⟨q1,q2,_⟩:=sH _ _ _ _ aj Z;obtain⟨s1,A,C,B,s2,s3,s4,s5⟩:=qw p (Y z (zbb F)) N Q ak q1;have O:=(zqa.1 F).1;have e0:(abM (l.take i)).length=i*u.size:=by rw[aE N _ (λx hx=>Y x (zRa hx)),zgb,zDb (zyc O)]
   rw[cu F,s2,show abM (l.take i)++(A++(C++B)++abM (l.drop (i+1)))=(abM (l.take i)++A)++(C++(B++abM (l.drop (i+1)))) by simp[zOa]] at o5
   obtain⟨c1,c2⟩:=o5.split;obtain⟨c3,c4⟩:=c2.split;generalize hpre:cs.take (abM (l.take i)++A).length=pre at *;generalize hrest:cs.drop (abM (l.take i)++A).length=rest at *;have ad:cs=pre++(rest.take C.length++rest.drop C.length):=by rw[<-hpre,zua,<-hrest,zua]
   have X:pre.length=i*u.size+aZ u p:=by rw[<-c1.1,zta,e0,s4]
   have W:(rest.take C.length).length=(a.eval y).cells.toList.length:=by rw[<-c3.1,s5,y3]
   subst ad;have hr:=qu hl (w:=w) (b:=b) (off:=i*u.size+aZ u p) m y2 y3 y4 (by simp only[zDc,zta];omega)
   have q:i*u.size+aZ u p+(a.eval y).cells.toList.toArray.size<=(pre++(rest.take C.length++rest.drop C.length)).toArray.size:=by simp only[zDc,zta,zRb] at *;omega
   have V:gm ⟨putAt w b (i*u.size+aZ u p) (a.eval y).cells.toList.toArray,S,γ,β,(s.setOb id (some (.many u (l.set i z')))).ob,s.dead⟩ b (.many u (l.set i z')):=by
    have H:∀ g o,S g o->g≠b:=λg o d e=>D o (e ▸ d);simp only[gm];refine⟨N,λx hx=>?_,D,pre++((a.eval y).cells.toList++rest.drop C.length),?_,?_⟩
    ·rcases zKc hx with hx|hx
     ·exact Y x hx
     ·rw[hx];exact s1
    ·rw[gU m,<-X,iJ pre _ _ _ W]
    ·rw[nP F,s3,show abM (l.take i)++(A++(y'.flat++B)++abM (l.drop (i+1)))=(abM (l.take i)++A)++(y'.flat++(B++abM (l.drop (i+1)))) by simp[zOa]]
     exact(c1.append (q2.append c4)).mono (λg o d=>ck (H g o d)) λ_ _ hh=>hh
   obtain⟨n1,n2⟩:=h.write (o':=.many u (l.set i z')) f J D m q (λp=>by cases p<;>exact⟨rfl,rfl⟩) (λt l' e=>by cases e;exact⟨_,rfl,j3⟩) (λ_ _ _ e=>by cases e) V
   refine⟨_,hq,rfl,rfl,rfl,rfl,λj hj _=>?_,.skip (w':=putAt w b (i*u.size+aZ u p) (a.eval y).cells.toList.toArray) ?_ ⟨S,γ,β,n1,?_,λ_ _=>⟨rfl,rfl⟩⟩⟩
   ·simp only[St.setOb];rw[zka];intro e;subst e;have al:γ j=some b:=J;rw[al] at hj;cases hj
   ·simp only[execOp,U,zla,cD,hr,zga,zra]
   ·exact⟨λ_ _ d=>d,λg o d=>ck (λe=>D o (e ▸ d)),λ_ _=>rfl,λj hj g k=>⟨k,.inl (cN λe=>L ((h.γi id j b J (e ▸ k)) ▸ hj))⟩,j3,λ_ _ d=>d,mD.same rfl (dw.putAt m)⟩
end
section
variable{P:Program}{E:Env}{w0:Root}{S:Nat->Nat->Prop}{γ:Nat->Option Nat}{β:Nat->Option (Nat×Nat)}{s:St}{a:Act}{w:World}
def Rp.setFree(h:Rp w0 S γ β s a w){id:Nat}(hid:γ id=none)(o:Option Ob):Rp w0 S γ β (s.setOb id o) a w/\Cx.le ⟨w,S,γ,β,s.ob,s.dead⟩ ⟨w,S,γ,β,(s.setOb id o).ob,s.dead⟩:=by
 have hle:Cx.le ⟨w,S,γ,β,s.ob,s.dead⟩ ⟨w,S,γ,β,(s.setOb id o).ob,s.dead⟩:=by
  refine⟨λ_ _ _=>rfl,λ_ _ k=>k,λ_ _ k=>k,λi x hx ⟨b,c⟩=>?_,λv d=>⟨d,λb e he=>⟨he,λn hn=>hn⟩⟩⟩;simp only[St.setOb] at hx;by_cases e:i=id
  ·simp_all
  ·simp_all
 refine⟨⟨h.ext,λt ht=>(h.tms t ht).mono hle,h.nt,h.tmu,λi x b hx c=>?_,h.γn,h.γi,h.γf,h.βn,h.βi,h.βγ,h.βf,h.Sb,h.So⟩,hle⟩;simp only[St.setOb] at hx;by_cases e:i=id
 ·simp_all
 ·rw[zka e] at hx;exact(h.obs i x b hx c).mono hle rfl λ_ k=>k
theorem ls(s:St)(id:Nat)(o:Option Ob):(s.setOb id o).ob id=o:=by simp[St.setOb]
def ns(s:St){id i:Nat}(o:Option Ob)(h:i≠id):(s.setOb id o).ob i=s.ob i:=by simp[St.setOb,h]
def Rp.make(h:Rp w0 S γ β s a w){id:Nat}(hid:γ id=none)(l:id<s.base+4096){c:Array Value}{T:TypeId}{o:Ob}(d:Nat)(k:w.drawn<=d)
  (m:gm ⟨grown w [.cells c T] d,S,pw γ id w.heap.size,β,(s.setOb id (some o)).ob,s.dead⟩ w.heap.size o) :
  Rp w0 S (pw γ id w.heap.size) β (s.setOb id (some o)) a (grown w [.cells c T] d)/\Cx.le ⟨w,S,γ,β,s.ob,s.dead⟩ ⟨grown w [.cells c T] d,S,pw γ id w.heap.size,β,(s.setOb id (some o)).ob,s.dead⟩:=by
 obtain⟨h1,j⟩:=h.grow (os:=[.cells c T]) (d:=d) k (S':=S) (λ_ _ g=>g) (λ_ _ g=>.inl g);obtain⟨h2,q⟩:=h1.setFree hid (some o);have p:¬ w0.Old w.heap.size:=λm=>by have:=m.1;have:=h.ext.sz;omega
 obtain⟨h3,t⟩:=h2.newOb (id:=id) (b:=w.heap.size) hid p j3 (λi l=>by have:=(h.γn i _ l).2;omega) (λu f hu hf=>by have:=(h.βn u _ _ hu hf).2.1;omega) l (λx hx=>by rw[ls] at hx;cases hx;exact m)
 refine⟨h3,⟨λb o g=>j.cell b o g,λ_ _ g=>g,λi b g=>fo hid g,λi x hx g=>?_,λv r=>⟨r,λb e he=>⟨he,λn hn=>by have:=j.β v r;exact(this.2 b e he).2 n hn⟩⟩⟩⟩
 obtain⟨b,g⟩:=g;exact q.ob i x hx ⟨b,g⟩
def OE(h:Rp w0 S γ β s a w){dst T x ty pos after guard}{d:Nat}(y:d<4096)(I:dst=some d)(k:γ (s.base+d)=none)(m:∀ t∈s.lkS,dst≠some t){R:Type}{K:St->Option R}{r:R}{t:Ty}{g:Ob}
  (hq:K ((s.setOb (s.base+d) (some g)).put dst (.ptr t (s.base+d) []))=some r)
  (p:Cx.le ⟨w,S,γ,β,s.ob,s.dead⟩ ⟨grown w [.cells (a.eval x).cells T] w.drawn,S,pw γ (s.base+d) w.heap.size,β,(s.setOb (s.base+d) (some g)).ob,s.dead⟩->gm ⟨grown w [.cells (a.eval x).cells T] w.drawn,S,pw γ (s.base+d) w.heap.size,β,(s.setOb (s.base+d) (some g)).ob,s.dead⟩ w.heap.size g)
  (q:fk g []=some t/\0=cD g []):∃ s',K s'=some r/\Hm P w0 S γ β s a w ⟨dst,.box T x,ty,pos,after,guard⟩ s':=by
 have hle:Cx.le ⟨w,S,γ,β,s.ob,s.dead⟩ ⟨grown w [.cells (a.eval x).cells T] w.drawn,S,pw γ (s.base+d) w.heap.size,β,(s.setOb (s.base+d) (some g)).ob,s.dead⟩:=by
  refine⟨λb o f=>dN (h.Sb b o f),λ_ _ f=>f,λi b f=>fo k f,λi z A ⟨b,f⟩=>?_,λv u=>⟨u,λb e he=>⟨he,λn hn=>by rw[yv (h.βn v b e u he).2.1];exact hn⟩⟩⟩
  by_cases e:i=s.base+d
  ·simp_all
  ·have B:s.ob i=some z:=by rw[<-A];exact(ns s _ e).symm
   simp_all
 obtain⟨h1,C⟩:=h.make (id:=s.base+d) k j1 (c:=(a.eval x).cells) (T:=T) (o:=g) w.drawn (zia _) (p hle)
 obtain⟨D,E,J,F,G,H,L⟩:=aci (s.setOb (s.base+d) (some g)) dst (.ptr t (s.base+d) []);refine⟨_,hq,G,H,E,F,λid hid l=>?_,.value (v:=.pointer (some ⟨w.heap.size,0,none⟩)) (w':=grown w [.cells (a.eval x).cells T] w.drawn) ?_ ⟨S,_,β,h1.put (gK (bH _ _ _) λo p=>?_) dst,?_,λid hid=>⟨bY _ _ ?_,rfl⟩⟩⟩
 ·rw[D];refine ns s _ λe=>?_;subst e;rcases l with l|l
  ·simp_all
  ·omega
 ·simp_all [dI,execOp,Instr.box,newVar,newRow,zla]
 ·have j:(s.setOb (s.base+d) (some g)).ob (s.base+d)=some o:=p;rw[ls] at j;cases j;exact q
 ·exact⟨λ_ _ f=>f,λb o f=>dN (h.Sb b o f),λt ht=>co (m t ht),λid hid b f=>⟨fo k f,.inl (dB (h.γn id b f).2)⟩,j3,λ_ _ f=>fo k f,mD.same bS dw.grown⟩
 ·intro e;subst e;rcases hid with hid|hid
  ·simp_all
  ·omega
def MO(p:EnvOk P E)(h:Rp w0 S γ β s a w){dst T x ty pos after guard}(hf:Fr E s γ β ⟨dst,.box T x,ty,pos,after,guard⟩)(g:∀ t∈s.lkS,dst≠some t){R:Type}{K:St->Option R}{r:R}(hT:∀ t,E.L T=some t->am t=true)
  (hq:tZ E s ⟨dst,.box T x,ty,pos,after,guard⟩ K=some r):∃ s',K s'=some r/\Hm P w0 S γ β s a w ⟨dst,.box T x,ty,pos,after,guard⟩ s':=by
 simp only[tZ] at hq;cases hfn:E.fnT T with
 | true=>
  rw[hfn] at hq;simp only[cond_true] at hq;replace hq:=ab hq;obtain⟨d,f,hq⟩:=hq;split at hq<;>first|(cases hq;done)|skip
  rename_i b;obtain⟨e,k,n,_⟩:=hf rfl d f;obtain⟨m,i⟩:=Fb (c:=⟨w,S,γ,β,s.ob,s.dead⟩) b (aT h x);exact OE h e f k g hq (λhle=>by simp only[gm];exact⟨λo j=>by have:=h.Sb _ _ j;omega,a.eval x,by rw[<-ru i];exact n7,m.mono hle.cell hle.S hle.γ,i⟩) ⟨rfl,rfl⟩
 | false=>
 rw[hfn] at hq;simp only[cond_false] at hq;replace hq:=ab hq;obtain⟨t,ht,hq⟩:=hq;replace hq:=ab hq;obtain⟨d,f,hq⟩:=hq;split at hq<;>first|(cases hq;done)|skip
 rename_i b;obtain⟨e,k,n,_⟩:=hf rfl d f;have hn:=hT t ht;obtain⟨l,m⟩:=AL b hn (aT h x);obtain⟨i,_⟩:=iK _ _ _ b l;exact OE h e f k g hq (λhle=>by simp only[gm];exact⟨hn,b,λo j=>by have:=h.Sb _ _ j;omega,(a.eval x).cells.toList,by rw[zkc];exact n7,AC.mono hle _ _ l,i⟩) ⟨by cases t<;>rfl,by cases t<;>rfl⟩
def DZ{n:Nat}(h:n<=1073741824):IntKind.i64.wrap (n:Int)=(n:Int):=by exact IntWalk.i64_in _ j1
def wQ(Q:EnvOk P E)(h:Rp w0 S γ β s a w){dst T x y ty pos after guard}(hf:Fr E s γ β ⟨dst,.makeSlice T x y,ty,pos,after,guard⟩)(G:∀ t∈s.lkS,dst≠some t){R:Type}{K:St->Option R}{r:R}
  (hq:tZ E s ⟨dst,.makeSlice T x y,ty,pos,after,guard⟩ K=some r):∃ s',K s'=some r/\Hm P w0 S γ β s a w ⟨dst,.makeSlice T x y,ty,pos,after,guard⟩ s':=by
 simp only[tZ] at hq;replace hq:=ab hq;obtain⟨t,ht,hq⟩:=hq;replace hq:=ab hq;obtain⟨d,C,hq⟩:=hq;split at hq<;>first|(cases hq;done)|skip
 rename_i e i j;split at hq<;>first|(cases hq;done)|skip
 rename_i F;subst F;replace hq:=ab hq;obtain⟨p,hp,hq⟩:=hq;replace hq:=ab hq;obtain⟨n,H,hq⟩:=hq;split at hq<;>first|(cases hq;done)|skip
 rename_i g;obtain⟨U,L,hβ,_⟩:=hf rfl d C;rcases Q.lay T _ ht with⟨ad,I⟩|hl
 ·cases I
 have hn:=aH _ _ hl;simp only[am] at hn;obtain⟨u,h1,h2⟩:=jG hl;obtain⟨i0,z0,m,V,AH,D,q,_⟩:=fV (gQ h2);have l:a.eval (.tmp i)=.int .i64 n\/∃ k,a.eval (.tmp i)=.int k n:=by obtain⟨X,h3⟩:=yg H;have M:=aT h (.tmp i);rw[show s.opA (.tmp i)=s.tm i from rfl,eN hp,h3] at M;exact .inr ⟨X,(fF M).1⟩
 obtain⟨k,l⟩:∃ k,a.eval (.tmp i)=.int k n:=by
  rcases l with l|l
  ·exact⟨_,l⟩
  ·exact l
 have J:z0.cells.size=e.size:=by have:=(cL (w:=w) (S:=S) q).1;rw[<-zRb,<-this];exact cH _ _ (cY e hn) hn
 let cells:Array Value:=(Array.range (n*e.size)).map λi=>z0.cells[i%z0.cells.size]!
 have W:∀ w',c8 w' S (abM (List.replicate n (aq e))) cells.toList:=λw'=>yN q J n;obtain⟨r1,Y⟩:=h.make (id:=s.base+d) L j1 (c:=cells) (T:=u) (o:=.many e (List.replicate n (aq e))) w.drawn (zia _) (by simp only[gm];exact⟨hn,λx hx=>by rw[(zjd.1 hx).2];exact cY e hn,λo B=>by have:=h.Sb _ _ B;omega,cells.toList,by rw[zkc];exact n7,W _⟩)
 have z:(Instr.makeSlice T (.int k n) (.int k n)).run P w=.ok (.slice (some ⟨w.heap.size,0,none⟩) n n) (grown w [.cells cells u] w.drawn):=by
  have f:((i0.bytes:Int)*(n:Int))<=2^48:=by have O:i0.bytes*n<=16384*1073741824:=z4a AH.1 g;have:((i0.bytes*n:Nat):Int)<=((16384*1073741824:Nat):Int):=Int.ofNat_le.2 O;rw[z0a] at this;omega
  have hw:=DZ g;have c1:¬ ((n:Int)<0):=j1
  have c2:¬ ((i0.bytes:Int)*(n:Int)>2^48):=j1
  simp only[Instr.makeSlice,zla,run_underlying h1,zga,asInt,asIntOf,pure_bind,typeInfo,run_program,m,zra,hw];rw[zea c1,zea c2,zea (show ¬ ((n:Int)>n) from zFc _)];simp only[Bool.or_self,zDa,if_false,zla,run_askRoom,zga,cm h2,zrd];by_cases h0:n*e.size=0
  ·have N:((Array.range (n*e.size)).map λi=>(#[]:Array Value)[i%(#[]:Array Value).size]!)=cells:=by
    show _=((Array.range (n*e.size)).map λi=>z0.cells[i%z0.cells.size]!);rw[h0];simp
   rw[zna h0];simp only[pure_bind,N,newRow,zla,run_newObj,zga,zra];rw[<-dI];rfl
  ·rw[zka h0];simp only[zeroValue,typeInfo,zla,run_program,m,D,zga,zra,bind_pure_comp,Sem.run_map,newRow,run_newObj];rw[<-dI];rfl
 obtain⟨Z,p2,p3,p4,p5,p6,p7⟩:=aci (s.setOb (s.base+d) (some (.many e (List.replicate n (aq e))))) dst (.mem e (s.base+d));refine⟨_,hq,p5,p6,p2,p4,λid hid A=>?_,.value (v:=.slice (some ⟨w.heap.size,0,none⟩) n n) (w':=grown w [.cells cells u] w.drawn) (by simp only[execOp,l,zla,z,zga,zra]) ⟨S,_,β,r1.put ?_ dst,?_,λid hid=>⟨bY _ _ ?_,rfl⟩⟩⟩
 ·rw[Z];refine ns s _ λe=>?_;subst e;rcases A with A|A
  ·exact A (by rw[C,zNb])
  ·omega
 ·simp only[AR,AC,Value.cells];refine⟨j3,hn,w.heap.size,bH _ _ _,λo B=>?_⟩
  rw[ls] at B;cases B;exact⟨_,rfl,j3⟩
 ·exact⟨λ_ _ f=>f,λb o f=>dN (h.Sb b o f),λt ht=>co (G t ht),λid hid b f=>⟨fo L f,.inl (dB (h.γn id b f).2)⟩,j3,λ_ _ f=>fo L f,mD.same bS dw.grown⟩
 ·intro e;subst e;rcases hid with hid|hid
  ·exact hid (by rw[C,zNb])
  ·omega
theorem xB(m:Nat):∀ (r c:Nat),c<=2*m+200->Builtin.growBy m r c<=2*m+200
 | 0,c,h=>by simpa [Builtin.growBy] using h
 | r+1,c,h=>by
  simp only[Builtin.growBy];split
  ·exact h
  ·exact xB m r _ j1
def Dq{a cap:Nat}(h:cap<a):Builtin.nextslicecap a cap<=2*a+200:=by
 unfold Builtin.nextslicecap;split
 ·omega
 ·split
  ·omega
  ·exact xB a 4 cap j1
def jL{w:World}{S:Nat->Nat->Prop}{e:Ty}{l:List D}{v:Value}(hn:am e=true)(hl:∀ x∈l,wt e x)(h:CR w S (.sl l) v):∃ cs:List Value,c8 w S (abM l) cs/\(Builtin.firstCells e.size l.length v).run P w=.ok cs.toArray w:=by
 obtain⟨A,cap,b,off,c,a,g,cs,d,f⟩:=h.elems;refine⟨cs,d,?_⟩;have hlen:cs.length=l.length*e.size:=by rw[<-d.1];exact aE hn l hl
 subst c;cases A with
 | none=>
  rcases a with rfl|a
  ·have:cs=[]:=by
    simp at hlen;exact hlen
   subst this;rfl
  ·cases a
 | some A=>
  rcases a with rfl|a
  ·have:cs=[]:=by
    simp at hlen;exact hlen
   subst this;simp[Builtin.firstCells,loadCells,loadCellsFrom]
  ·cases a;simp only[Builtin.firstCells];rw[<-hlen];exact run_loadCells_list (P:=P) w ⟨b,off,none⟩ cs (λj v c=>by rw[de];exact(f j v c).2)
def uk{c:Cx}{e:Ty}{v:Nat}(hn:am e=true):AR c (.own e v []) (.slice none 0 0):=by simp only[AR,AC,Value.cells];exact⟨j3,hn,λx hx=>by simp at hx,none,0,rfl,.sl [] none 0 0 0 (λ_=>undef) (.inl rfl) (zia 0) (λi d a=>by simp[abM] at a) (λi d a=>by simp[abM] at a),λ_=>.inl ⟨rfl,rfl⟩⟩
def Rp.bury(h:Rp w0 S γ β s a w)(v:Nat):Rp w0 S γ β { s with dead:=v::s.dead } a w/\Cx.le ⟨w,S,γ,β,s.ob,s.dead⟩ ⟨w,S,γ,β,s.ob,v::s.dead⟩:=by
 have hle:Cx.le ⟨w,S,γ,β,s.ob,s.dead⟩ ⟨w,S,γ,β,s.ob,v::s.dead⟩:=
  ⟨λ_ _ _=>rfl,λ_ _ k=>k,λ_ _ k=>k,λid o d _=>⟨o,d,λp=>⟨rfl,rfl⟩,λt l e=>⟨l,e,rfl⟩,λ_ _ l e=>⟨l,e⟩⟩,λu hu=>⟨λc=>hu (zoa _ c),λb e he=>⟨he,λn hn=>hn⟩⟩⟩
 have nd:∀ {u},u ∉ v::s.dead->u ∉ s.dead:=λhu c=>hu (zoa _ c);exact⟨⟨h.ext,λt ht=>(h.tms t ht).mono hle,h.nt,h.tmu,λid o b d m=>(h.obs id o b d m).mono hle rfl λ_ k=>k,h.γn,h.γi,h.γf,λu b e hu=>h.βn u b e (nd hu),λu q b e j hu g=>h.βi u q b e j (nd hu) (nd g),λu id b e hu=>h.βγ u id b e (nd hu),h.βf,h.Sb,h.So⟩,hle⟩
end
section
variable{P:Program}{E:Env}{w0:Root}{S:Nat->Nat->Prop}{γ:Nat->Option Nat}{β:Nat->Option (Nat×Nat)}{s:St}{a:Act}{w:World}
def Rp.makeG(h:Rp w0 S γ β s a w){id:Nat}(hid:γ id=none)(k:id<s.base+4096){x:Obj}{o:Ob}(d:Nat)(j:w.drawn<=d)
  (l:gm ⟨grown w [x] d,S,pw γ id w.heap.size,β,(s.setOb id (some o)).ob,s.dead⟩ w.heap.size o) :
  Rp w0 S (pw γ id w.heap.size) β (s.setOb id (some o)) a (grown w [x] d)/\Cx.le ⟨w,S,γ,β,s.ob,s.dead⟩ ⟨grown w [x] d,S,pw γ id w.heap.size,β,(s.setOb id (some o)).ob,s.dead⟩:=by
 obtain⟨h1,g⟩:=h.grow (os:=[x]) (d:=d) j (S':=S) (λ_ _ c=>c) (λ_ _ c=>.inl c);obtain⟨h2,p⟩:=h1.setFree hid (some o);have m:¬ w0.Old w.heap.size:=λl=>by have:=l.1;have:=h.ext.sz;omega
 obtain⟨h3,r⟩:=h2.newOb (id:=id) (b:=w.heap.size) hid m j3 (λi k=>by have:=(h.γn i _ k).2;omega) (λu f hu hf=>by have:=(h.βn u _ _ hu hf).2.1;omega) k (λx hx=>by rw[ls] at hx;cases hx;exact l)
 refine⟨h3,⟨λb o c=>g.cell b o c,λ_ _ c=>c,λi b c=>fo hid c,λi x hx c=>?_,λv q=>⟨q,λb e he=>⟨he,λn hn=>by have:=g.β v q;exact(this.2 b e he).2 n hn⟩⟩⟩⟩
 obtain⟨b,c⟩:=c;exact p.ob i x hx ⟨b,c⟩
def Bl(y:EnvOk P E)(h:Rp w0 S γ β s a w){dst T rsv ty pos after guard}(hf:Fr E s γ β ⟨dst,.makeMap T rsv,ty,pos,after,guard⟩)(l:∀ t∈s.lkS,dst≠some t){R:Type}{K:St->Option R}{r:R}
  (hq:tZ E s ⟨dst,.makeMap T rsv,ty,pos,after,guard⟩ K=some r):∃ s',K s'=some r/\Hm P w0 S γ β s a w ⟨dst,.makeMap T rsv,ty,pos,after,guard⟩ s':=by
 simp only[tZ] at hq;cases rsv with
 | some x=>cases hq
 | none=>
 simp only at hq;replace hq:=ab hq;obtain⟨B,k,hq⟩:=hq;replace hq:=ab hq;obtain⟨d,z,hq⟩:=hq;obtain⟨q,vt⟩:=B;simp only at hq;obtain⟨A,p,L,_⟩:=hf rfl d z;obtain⟨hc,KT,VT,hu,g,m,J⟩:=y.mapL T _ _ k;have i:=aH _ _ g;have j:=aH _ _ m;obtain⟨h1,C⟩:=h.makeG (id:=s.base+d) p j1 (x:=.map #[] 0) (o:=.mp q vt []) w.drawn (zia _) (by
  simp only[gm];refine⟨i,j,λo u=>by have:=h.Sb _ _ u;omega,#[],?_,by simp[jt]⟩
  show(w.heap++#[Obj.map #[] 0])[w.heap.size]?=some (.map #[] 0);rw[Array.getElem?_append_right (zia _),Nat.sub_self];rfl)
 obtain⟨D,F,M,G,H,I,N⟩:=aci (s.setOb (s.base+d) (some (.mp q vt []))) dst (.map q vt (s.base+d));refine⟨_,hq,H,I,F,G,λid hid f=>?_,.value (v:=.map (some w.heap.size)) (w':=grown w [.map #[] 0] w.drawn) ?_ ⟨S,_,β,h1.put ?_ dst,?_,λid hid=>⟨bY _ _ ?_,rfl⟩⟩⟩
 ·rw[D];refine ns s _ λe=>?_;subst e;rcases f with f|f
  ·simp_all
  ·omega
 ·simp_all [grown,execOp,Instr.makeMap,Option.map_none,zla,zga]
 ·simp only[AR,AC,Value.cells];refine⟨j3,w.heap.size,rfl,bH _ _ _,i,j,λo u=>?_⟩
  grind [ls]
 ·exact⟨λ_ _ c=>c,λb o c=>dN (h.Sb b o c),λt ht=>co (l t ht),λid hid b c=>⟨fo p c,.inl (dB (h.γn id b c).2)⟩,j3,λ_ _ c=>fo p c,mD.same bS dw.grown⟩
 ·intro e;subst e;rcases hid with hid|hid
  ·simp_all
  ·omega
def sj(w:World)(b:Nat)(o:Obj):World:={ w with heap:=w.heap.setIfInBounds b o }
theorem jn{w:World}{b a:Nat}{o:Obj}(h:a≠b):(sj w b o).heap[a]?=w.heap[a]?:=by simp only[sj];grind
def lu{w:World}{b:Nat}{o:Obj}:(sj w b o).heap.size=w.heap.size:=by simp[sj]
def xg{w:World}{b a o':Nat}{o:Obj}(h:a≠b):(sj w b o).cell? ⟨a,o',none⟩=w.cell? ⟨a,o',none⟩:=by simp only[World.cell?,jn h]
def Rp.writeM(h:Rp w0 S γ β s a w){id b:Nat}{y vt:Ty}{l l':List D}{es':Array MapEntry}(E:s.ob id=some (.mp y vt l))(m:γ id=some b)(F:jt ⟨w,S,γ,β,s.ob,s.dead⟩ y vt 0 l' es'.toList) :
  Rp w0 S γ β (s.setOb id (some (.mp y vt l'))) a (sj w b (.map es' l'.length))/\(∀ c o,S c o->(sj w b (.map es' l'.length)).cell? ⟨c,o,none⟩=w.cell? ⟨c,o,none⟩):=by
 have hO:=h.obs id _ b E m;simp only[gm] at hO;obtain⟨A,B,C,es,G,_⟩:=hO;have q:∀ c o,S c o->c≠b:=λc o g e=>C o (e ▸ g);have I:b<w.heap.size:=(h.γn id b m).2;have hle:Cx.le ⟨w,S,γ,β,s.ob,s.dead⟩ ⟨sj w b (.map es' l'.length),S,γ,β,(s.setOb id (some (.mp y vt l'))).ob,s.dead⟩:=by
  refine⟨λc o g=>xg (q c o g),λ_ _ g=>g,λ_ _ g=>g,λi x hx _=>?_,λv u=>⟨u,λc e he=>⟨he,λn hn=>?_⟩⟩⟩
  ·simp only[St.setOb] at hx;by_cases e:i=id
   ·subst e;simp only[if_true,zda] at hx;subst hx;exact⟨_,E,λp=>⟨rfl,rfl⟩,(λt l e=>by cases e),(λk v l e=>by cases e;exact⟨_,rfl⟩)⟩
   ·simp_all
  ·have j:c≠b:=λz=>h.βγ v id c e u he (z ▸ m);have r:nk w c=some n:=hn;show nk (sj w b (.map es' l'.length)) c=some n;simp only[nk,bO,jn j] at r ⊢;exact r
 refine⟨⟨oS h.ext rfl rfl rfl (by simp[lu]) (zia _) (λc d=>jn λe=>(h.γn id b m).1 (e ▸ d)),λt ht=>(h.tms t ht).mono hle,h.nt,h.tmu,λi x c hx d=>?_,λi c d=>by rw[lu];exact h.γn i c d,h.γi,h.γf,
  λv c e u he=>by rw[lu];exact h.βn v c e u he,h.βi,h.βγ,h.βf,λc o g=>by rw[lu];exact h.Sb c o g,h.So⟩,λc o g=>xg (q c o g)⟩
 simp only[St.setOb] at hx;by_cases e:i=id
 ·subst e;simp only[if_true,zda] at hx;subst hx;rw[m] at d;cases d;simp only[gm];refine⟨A,B,C,es',?_,F.mono hle⟩;simp only[sj]
  simp_all
 ·rw[zka e] at hx;have j:c≠b:=λz=>e (h.γi i id c d (z ▸ m));exact(h.obs i x c hx d).mono hle (jn j) λ_ H=>H
theorem jt.push{c:Cx}{a vt:Ty}{k v:D}{ek ev:Value}(hk:wt a k)(b:wt vt v)(d:gE c.w c.S k ek)(f:gE c.w c.S v ev):∀ {l:List D} {es:List MapEntry} {j:Nat},jt c a vt j l es->jt c a vt j (l++[.st [k,v]]) (es++[{ key:=ek,val:=ev,born:=j+l.length }])
 | [],[],j,_=>by simp only[ztc,jt,zLb,zmc];exact⟨⟨trivial,k,v,rfl,hk,b,d,f⟩,trivial⟩
 | [],_::_,_,h=>h.elim
 | _::_,[],_,h=>h.elim
 | x::l,e::es,j,h=>by simp only[zzb,jt] at h ⊢;refine⟨h.1,?_⟩;have:=jt.push hk b d f h.2;grind
theorem BM{c:Cx}{a vt:Ty}{x y:D}:∀ {l:List D} {es:List MapEntry} {j i:Nat},jt c a vt j l es->CL l x es i=none->abO l x y=l++[.st [x,y]]
 | [],[],_,_,_,_=>rfl
 | [],_::_,_,_,h,_=>h.elim
 | _::_,[],_,_,h,_=>h.elim
 | z::l,e::es,j,i,h,hf=>by
  simp only[jt] at h;obtain⟨⟨_,k,v,rfl,_⟩,h2⟩:=h;simp only[CL] at hf;simp only[abO];cases hb:D.beq x k
  ·rw[hb] at hf;simp only[zDa,if_false] at hf ⊢;rw[BM h2 hf];rfl
  ·simp_all
theorem BN{c:Cx}{b vt:Ty}{x y:D}{ek ev:Value}(o:wt vt y)(q:gE c.w c.S y ev)(p:gE c.w c.S x ek):∀ {l:List D} {es:List MapEntry} {j i n:Nat} {v0:Value},jt c b vt j l es->CL l x es i=some (n,v0) ->
  ∃ m a,n=i+m/\es[m]?=some a/\(abO l x y).length=l.length/\jt c b vt j (abO l x y) (es.modify m λe=>{ e with key:=a.key,val:=ev })/\jt c b vt j (abO l x y) (es.modify m λe=>{ e with key:=ek,val:=ev })
 | [],[],_,_,_,_,_,hf=>by simp[CL] at hf
 | [],_::_,_,_,_,_,h,_=>h.elim
 | _::_,[],_,_,_,_,h,_=>h.elim
 | z::l,e::es,j,i,n,v0,h,hf=>by
  simp only[jt] at h;obtain⟨⟨g,k,v,rfl,u,A,B,C⟩,h2⟩:=h;simp only[CL] at hf;simp only[abO];cases hb:D.beq x k
  ·rw[hb] at hf;simp only[zDa,if_false] at hf ⊢;obtain⟨m,a,r,d,f,s,t⟩:=BN (y:=y) o q p h2 hf;refine⟨m+1,a,j1,by simpa using d,by simp[f],?_,?_⟩
   ·grind [List.modify_succ_cons,jt]
   ·grind [List.modify_succ_cons,jt]
  ·rw[hb] at hf;simp only[if_true,zda,Prod.mk.injEq] at hf;have:=HM _ _ hb;subst this;simp only[if_true];refine⟨0,e,j1,rfl,rfl,?_,?_⟩
   ·grind [List.modify_zero_cons,jt]
   ·grind [List.modify_zero_cons,jt]
def Gf(old new:Value)(w:World):∃ k d,w.drawn<=d/\(Instr.keyThatStays old new).run P w=.ok k { w with drawn:=d }/\(k=old\/k=new):=by
 unfold Instr.keyThatStays;split
 ·exact⟨new,w.drawn,zia _,rfl,.inr rfl⟩
 ·simp only[zla,run_choose];split
  ·simp only[zga,zra];exact⟨_,w.drawn,zia _,rfl,by split<;>simp⟩
  ·simp only[zga,zra];exact⟨_,w.drawn+1,z1c _,rfl,by split<;>simp⟩
def wR(hE:EnvOk P E)(h:Rp w0 S γ β s a w){dst T x k v ty pos after guard}{R:Type}{K:St->Option R}{r:R}
  (hq:tZ E s ⟨dst,.mapUpdate T x k v,ty,pos,after,guard⟩ K=some r):∃ s',K s'=some r/\Hm P w0 S γ β s a w ⟨dst,.mapUpdate T x k v,ty,pos,after,guard⟩ s':=by
 simp only[tZ] at hq;cases dst with
 | some d=>simp at hq
 | none=>
 simp only[Option.isSome_none,zDa,if_false] at hq;replace hq:=ab hq;obtain⟨kv,ad,hq⟩:=hq;obtain⟨a1,a2⟩:=kv;have hx:=aT h x;generalize s.opA x=ax at *;cases ax<;>(try simp only at hq)<;>first|(cases hq;done)|skip
 rename_i kt vt id;split at hq<;>first|(cases hq;done)|skip
 rename_i c;simp only[zaa,zTa] at c;obtain⟨⟨X,f⟩,aB⟩:=c;have L:=aco _ _ X;have A:=aco _ _ f;subst L;subst A;have ai:id ∉ s.lkO:=by simp_all
 split at hq<;>first|(cases hq;done)|skip
 rename_i t an l H;split at hq<;>first|(cases hq;done)|skip
 rename_i f;simp only[zaa] at f;have L:=aco _ _ f.1;have A:=aco _ _ f.2;subst L;subst A;replace hq:=ab hq;obtain⟨u,Z,hq⟩:=hq;replace hq:=ab hq;obtain⟨J,al,hq⟩:=hq;obtain⟨hc,KT,VT,hu,q,aj,hh⟩:=hE.mapL T _ _ ad;have G:=aH _ _ q;have ak:=aH _ _ aj;obtain⟨O,I⟩:=oJ G (aT h k) Z;obtain⟨v1,v2⟩:=oJ ak (aT h v) al;simp only[AR,AC] at hx;obtain⟨na,b,Y,N,_,_,_⟩:=hx;have hv:=ar na Y;have hO:=h.obs id _ b H N;simp only[gm] at hO;obtain⟨_,_,aI,es,g,M⟩:=hO;have i1:gI t (a.eval k).cells.toList (a.eval k):=⟨rfl,pA O G I.1⟩;have rc:=j4 (S:=S) (w:=w) t KT u _ _ 10000 false q hc j1 O I.2 i1 w
 have Q:=uX (P:=P) q hc hh O I w M;have hex:(execOp a.eval ⟨none,.mapUpdate T x k v,ty,pos,after,guard⟩)=(Instr.mapUpdate T (a.eval x) (a.eval k) (a.eval v) >>= λ_=>pure .skip):=rfl;have F:b<w.heap.size:=(h.γn id b N).2;have run:∃ es' d,w.drawn<=d/\jt ⟨w,S,γ,β,s.ob,s.dead⟩ t an 0 (abO l u J) es'.toList/\(execOp a.eval ⟨none,.mapUpdate T x k v,ty,pos,after,guard⟩).run P w=.ok .skip (sj { w with drawn:=d } b (.map es' (abO l u J).length)):=by
  rw[hex,hv];cases hf:CL l u es.toList 0 with
  | none=>
   rw[hf] at Q;have hm:=BM (y:=J) M hf;refine⟨es.push { key:=a.eval k,val:=a.eval v,born:=l.length },w.drawn,zia _,?_,?_⟩
   ·rw[hm,ztd];have:=jt.push O v1 I v2 M
    rwa [zcb] at this
   ·have hl:(abO l u J).length=l.length+1:=by rw[hm];simp
    rw[hl];simp only[Instr.mapUpdate,zla,run_underlying hu,zga,lV g,rc,Q];simp[setObj,Sem.run,g,sj]
  | some p=>
   obtain⟨n,v0⟩:=p;rw[hf] at Q;obtain⟨m,e0,L,A,e3,e4,e5⟩:=BN (ek:=a.eval k) v1 v2 I M hf;have U:n=m:=j1
   subst U;have V:es[n]?=some e0:=by simpa using A
   obtain⟨kk,d,C,r1,r2⟩:=Gf (P:=P) e0.key (a.eval k) w;refine⟨es.modify n λe=>{ e with key:=kk,val:=a.eval v },d,C,?_,?_⟩
   ·rw[Array.toList_modify];all_goals grind
   ·rw[e3];simp only[Instr.mapUpdate,zla,run_underlying hu,zga,lV g,rc,Q,V,zIb,zSb,r1];simp[setObj,Sem.run,g,sj]
 obtain⟨es',d,D,W,j⟩:=run;have hg:({ w with drawn:=d }:World)=grown w [] d:=by simp[grown]
 rw[hg] at j;obtain⟨g1,g2⟩:=h.grow (os:=[]) (d:=d) D (S':=S) (λ_ _ c=>c) (λ_ _ c=>.inl c);obtain⟨w1,w2⟩:=g1.writeM (l':=abO l u J) (es':=es') H N (W.mono g2);refine⟨_,hq,rfl,rfl,rfl,rfl,λi hi _=>?_,.skip j ⟨S,γ,β,w1,?_,λ_ _=>⟨rfl,rfl⟩⟩⟩
 ·refine ns s _ λe=>?_
  simp_all
 ·refine⟨λ_ _ c=>c,λz o c=>(w2 z o c).trans (g2.cell z o c),λ_ _=>rfl,λi hi z B=>⟨B,.inl ?_⟩,by rw[lu];simp,λ_ _ c=>c,mD.same rfl (abZ b (λz c F=>(jn c).trans (dB F)) (Gl g))⟩
  have a0:z≠b:=λe=>by subst e;exact ai ((h.γi id i _ N B) ▸ hi)
  grind [jn]
end
def CR.at_{w:World}{S:Nat->Nat->Prop}{l:List D}{b off n cap:Nat}(h:CR w S (.sl l) (.slice (some ⟨b,off,none⟩) n cap)):q9 w S b off (abM l):=by
 obtain⟨A,d,j,f,e,a,k,g⟩:=h.elems;simp only[Value.slice.injEq] at e;rcases a with rfl|a
 ·exact⟨[],c8.nil,λi c hc=>by simp at hc⟩
 ·rw[<-e.1] at a;cases a;exact g
def vU{w:World}{b n:Nat}(h:nk w b=some n):∃ c,bO w b=some c/\c.size=n:=by simp_all [nk]
def rt{w:World}{b off o:Nat}{c cs:Array Value}(h:bO w b=some c)(hs:off+cs.size<=c.size)(a:o<off):(putAt w b off cs).cell? ⟨b,o,none⟩=w.cell? ⟨b,o,none⟩:=by simp_all [cell_of_row,gU,mr]
def wN{w:World}{b off o:Nat}{c cs:Array Value}(h:bO w b=some c)(hs:off+cs.size<=c.size)(a:o<cs.size):(putAt w b off cs).cell? ⟨b,off+o,none⟩=cs[o]?:=by rw[cell_of_row _ (gU h),mr _ _ _ _ hs,zka j1,zna j1,zNb]
section
variable{P:Program}{E:Env}{w0:Root}{S:Nat->Nat->Prop}{γ:Nat->Option Nat}{β:Nat->Option (Nat×Nat)}{s:St}{a:Act}{w:World}
def Jt(h:Rp w0 S γ β s a w){v v' b off:Nat}{e:Ty}{l l':List D}{cap n:Nat}{g:List Value}(hn:am e=true)(hl:∀ x∈l,wt e x)(hl':∀ x∈l',wt e x)(L:v ∉ s.dead)(M:β v=some (b,off+l.length*e.size))(hr:nk w b=some n)(R:off+cap*e.size<=n)
  (A:l.length+l'.length<=cap) (hc:q9 w S b off (abM l)) (Q:c8 w S (abM l') g) (Z:β v'=none) (hi:v'<s.base+4096) :
  ∃ S' β',Rp w0 S' γ β' { s with dead:=v::s.dead } a (putAt w b (off+l.length*e.size) g.toArray) ∧
   AR ⟨putAt w b (off+l.length*e.size) g.toArray,S',γ,β',s.ob,v::s.dead⟩ (.own e v' (l++l')) (.slice (some ⟨b,off,none⟩) (l.length+l'.length) cap) ∧
   (∀ b o,S b o->S' b o)/\(∀ j o,S j o->(putAt w b (off+l.length*e.size) g.toArray).cell? ⟨j,o,none⟩=w.cell? ⟨j,o,none⟩)/\(∀ u,u≠v'->β' u=β u):=by
 obtain⟨c,y,Y⟩:=vU hr;have F:g.length=l'.length*e.size:=by rw[<-Q.1];exact aE hn l' hl'
 generalize he0:off+l.length*e.size=r at *;obtain⟨H,N,O⟩:=h.βn v b r L M;have E:r+g.toArray.size<=c.size:=by simp only[zDc,F,Y];have:(l.length+l'.length)*e.size<=cap*e.size:=zKa _ A;rw[zob] at this;omega
 let S':Nat->Nat->Prop:=λj o=>S j o\/(j=b/\r<=o/\o<r+g.length)
 have q:∀ j o,S j o->(putAt w b r g.toArray).cell? ⟨j,o,none⟩=w.cell? ⟨j,o,none⟩:=λj o P=>by
  by_cases e:j=b
  ·subst e;exact rt y E (Nat.lt_of_not_le λm=>O o m P)
  ·exact ck e
 have nd:∀ {u},u ∉ v::s.dead->u ∉ s.dead/\u≠v:=λhu=>⟨λm=>hu (zoa _ m),λm=>hu (m ▸ zsa)⟩;have hle:Cx.le ⟨w,S,γ,β,s.ob,s.dead⟩ ⟨putAt w b r g.toArray,S',γ,pw β v' (b,r+g.length),s.ob,v::s.dead⟩:=
  ⟨q,λ_ _ P=>.inl P,λ_ _ k=>k,λid o K _=>⟨o,K,λp=>⟨rfl,rfl⟩,λt l e=>⟨l,e,rfl⟩,λ_ _ l e=>⟨l,e⟩⟩,λu hu=>⟨(nd hu).1,λj e he=>⟨fo Z he,λn hn=>by rw[lm y E];exact hn⟩⟩⟩
 have X:Rp w0 S' γ (pw β v' (b,r+g.length)) { s with dead:=v::s.dead } a (putAt w b r g.toArray):=by
  refine⟨oS h.ext rfl rfl rfl j3 (zia _) (λj d=>cN (λe=>H (e ▸ d))),λt ht=>(h.tms t ht).mono hle,h.nt,h.tmu,λid o j K d=>?_,λid j d=>by simpa using h.γn id j d,h.γi,h.γf,λu j e hu he=>?_,λu W j e e' hu I he z=>?_,λu id j e hu he=>?_,λu hu=>?_,λj o d=>?_,λj o d C=>?_⟩
  ·have T:j≠b:=λe=>h.βγ v id b r L M (e ▸ d);refine(h.obs id o j K d).mono hle (cN T) λo m=>?_;rcases m with m|m
   ·exact m
   ·exact z3a m.1 T
  ·obtain⟨B,J⟩:=nd hu;by_cases e1:u=v'
   ·subst e1;rw[bH] at he;cases he;refine⟨H,by simpa using N,λo K m=>?_⟩
    rcases m with m|m
    ·exact O o j1 m
    ·omega
   ·rw[bY β _ e1] at he;obtain⟨V,k2,k3⟩:=h.βn u j e B he;refine⟨V,by simpa using k2,λo K m=>?_⟩
    rcases m with m|m
    ·exact k3 o K m
    ·obtain⟨m,_⟩:=m;subst m;exact J (h.βi u v j _ _ B L he M)
  ·obtain⟨B,J⟩:=nd hu;obtain⟨G,U⟩:=nd I;by_cases e1:u=v'
   ·by_cases e2:W=v'
    ·rw[e1,e2]
    ·subst e1;rw[bH] at he;cases he;rw[bY β _ e2] at z;exact z3a (h.βi W v b _ _ G L z M) U
   ·by_cases e2:W=v'
    ·subst e2;rw[bH] at z;cases z;rw[bY β _ e1] at he;exact z3a (h.βi u v b _ _ B L he M) J
    ·rw[bY β _ e1] at he;rw[bY β _ e2] at z;exact h.βi u W j e e' B G he z
  ·by_cases e1:u=v'
   ·subst e1;rw[bH] at he;cases he;exact h.βγ v id b r L M
   ·rw[bY β _ e1] at he;exact h.βγ u id j e (nd hu).1 he
  ·have I:s.base+4096<=u:=hu;rw[bY β _ j1]
   exact h.βf u I
  ·rcases d with d|d
   ·simpa using h.Sb j o d
   ·simpa [d.1] using N
  ·rcases d with d|d
   ·exact h.So j o d C
   ·exact z3a (d.1 ▸ C) H
 refine⟨S',_,X,?_,λ_ _ P=>.inl P,q,λu hu=>bY β _ hu⟩;simp only[AR,AC,Value.cells];refine⟨j3,hn,λx hx=>(List.mem_append.1 hx).elim (hl x) (hl' x),some ⟨b,off,none⟩,cap,by rw[zta],?_,λ_=>.inr ⟨b,off,rfl,?_,n,by show nk (putAt w b r g.toArray) b=some n;rw[lm y E];exact hr,R⟩⟩
 ·obtain⟨cs,V,k2⟩:=hc;refine abC (.inr rfl) (by rw[zta];exact A) ⟨cs++g,?_,λi x hx=>?_⟩
  ·rw[cl];exact(V.append Q).mono q λ_ _ m=>.inl m
  ·have len:cs.length=l.length*e.size:=by rw[<-V.1];exact aE hn l hl
   rw[zIc] at hx;by_cases hi2:i<cs.length
   ·rw[zna hi2] at hx;obtain⟨m1,m2⟩:=k2 i x hx;exact⟨.inl m1,(q _ _ m1).trans m2⟩
   ·rw[zka hi2] at hx;have C:=(zqa.1 hx).1;refine⟨.inr ⟨rfl,j1,j1⟩,?_⟩
    rw[show off+i=r+(i-cs.length) by omega,wN y E (by simpa using C)]
    simpa using hx
 ·show pw β v' (b,r+g.length) v'=_;rw[bH,zta,F,zob];congr 2;omega
def vW{T T' u':TypeId}{e:Ty}(W:bJ P (.sl e) T=true)(o:P.underlying T'=some (.slice u')){A:Option Addr}{len cap:Nat}{l l':List D}{r:Value}(ty:TypeId)(hlen:len=l.length)(hl:∀ x∈l,wt e x)(hl':∀ x∈l',wt e x)
  (hx:CR w S (.sl l) (.slice A len cap)) (hy:CR w S (.sl l') r) (hb:l.length+l'.length<=1073741824) :
  ∃ cs i:List Value,c8 w S (abM l) cs/\c8 w S (abM l') i/\∃ u,
   (l.length+l'.length<=cap->(A=none->(Builtin.append_ #[T,T'] ty #[.slice A len cap,r]).run P w=.ok (.slice none (l.length+l'.length) cap) w) ∧
    (∀ b off c,A=some ⟨b,off,none⟩->bO w b=some c->off+cap*e.size<=c.size->(Builtin.append_ #[T,T'] ty #[.slice A len cap,r]).run P w=.ok (.slice A (l.length+l'.length) cap) (putAt w b (off+l.length*e.size) i.toArray))) ∧
   (cap<l.length+l'.length->∃ a rest,l.length+l'.length<=a/\(cs++i).length+rest.length=a*e.size ∧
    (Builtin.append_ #[T,T'] ty #[.slice A len cap,r]).run P w=.ok (.slice (some ⟨w.heap.size,0,none⟩) (l.length+l'.length) a) (grown w [.cells ((cs++i)++rest).toArray u] (w.drawn+1))):=by
 subst hlen;obtain⟨u,R,C⟩:=jG W;have hn:am e=true:=aH _ _ C;obtain⟨i0,z0,I,X,AH,J,K,_⟩:=fV (gQ C);have N:CR { w with drawn:=w.drawn+1 } S (.sl l) (.slice A l.length cap):=CR.mono (w:=w) (w':={ w with drawn:=w.drawn+1 }) (S:=S) (S':=S) (λ_ _ _=>rfl) (λ_ _ h=>h) hx;have O:CR { w with drawn:=w.drawn+1 } S (.sl l') r:=CR.mono (w:=w) (w':={ w with drawn:=w.drawn+1 }) (S:=S) (S':=S) (λ_ _ _=>rfl) (λ_ _ h=>h) hy;obtain⟨cs,c1,c2⟩:=jL (P:=P) hn hl N;obtain⟨i,d1,d2⟩:=jL (P:=P) hn hl' hy;obtain⟨d,d3,d4⟩:=jL (P:=P) hn hl' O;have len:cs.length=l.length*e.size:=by rw[<-c1.1];exact aE hn l hl
 have k:i.length=l'.length*e.size:=by rw[<-d1.1];exact aE hn l' hl'
 have m:d.length=l'.length*e.size:=by rw[<-d3.1];exact aE hn l' hl'
 have H:d=i:=by
  obtain⟨A',s,b,off,p,U,q2,Z⟩:=hy.elems;subst p;have n:=d2;have q:=d4;cases A' with
  | none=> simp only[Builtin.firstCells,zra,Result.ok.injEq] at n q;have:=n.1.symm.trans q.1;simpa using this.symm
  | some A'=>
   rcases U with rfl|U
   ·simp at k m;rw[k,m]
   ·cases U;obtain⟨E,r1,V⟩:=Z;have L:E.length=l'.length*e.size:=by rw[<-r1.1];exact aE hn l' hl'
    have f1:=run_loadCells_list (P:=P) w ⟨b,off,none⟩ E (λj v p=>by rw[de];exact(V j v p).2)
    have f2:=run_loadCells_list (P:=P) { w with drawn:=w.drawn+1 } ⟨b,off,none⟩ E (λj v p=>by rw[de];exact(V j v p).2)
    simp only[Builtin.firstCells] at n q;rw[L] at f1 f2;rw[f1] at n;rw[f2] at q;simp only[Result.ok.injEq] at n q;have:=n.1.symm.trans q.1;simpa using this.symm
 subst H;have f:(Builtin.lenOf r).run P w=.ok l'.length w:=by obtain⟨A',s,b,off,p,_⟩:=hy.elems;subst p;rfl
 refine⟨cs,d,c8.mono (w:={ w with drawn:=w.drawn+1 }) (w':=w) (S:=S) (S':=S) (λ_ _ _=>rfl) (λ_ _ h=>h) c1,d1,u,λg=>⟨λF=>?_,λb off c F z Y=>?_⟩,λg=>?_⟩
 ·subst F;simp only[Builtin.append_,zBc,zWb,zpb,zla,run_underlying R,run_underlying o,zga,cm C,zra,zDa,if_false,f,g,if_true,zTb,d2]
 ·subst F;have B:=cP (P:=P) b (off+l.length*e.size) d 0 w c z (by
   have:(l.length+l'.length)*e.size<=cap*e.size:=zKa _ g;rw[zob] at this;omega) (by rw[zCa];intro x hx;have:=d1.nag x hx;cases x<;>simp_all [Value.oneCell',mz])
  simp only[zmc] at B;simp only[Builtin.append_,zBc,zWb,zpb,zla,run_underlying R,run_underlying o,zga,cm C,zra,zDa,if_false,f,g,if_true,zTb,d2,de,B]
 ·have M:¬ (l.length+l'.length<=cap):=j1
  have G:¬ (Builtin.nextslicecap (l.length+l'.length) cap*i0.bytes>2^48):=by
   have h1:=Dq g;have h2:Builtin.nextslicecap (l.length+l'.length) cap*i0.bytes<=(2*1073741824+200)*16384:=z4a j1 AH.1
   omega
  have y:¬ (((l.length+l'.length:Nat):Int)>IntKind.i64.max):=by
   have:IntKind.i64.max=9223372036854775807:=j2
   omega
  let t:=w.tape w.drawn (.appendCap (l.length+l'.length) cap u)
  let a:=l.length+l'.length+t%(2^63-(l.length+l'.length))
  have Q:z0.cells.size=e.size:=by have:=(cL (w:=w) (S:=S) K).1;rw[<-zRb,<-this];exact cH _ _ (cY e hn) hn
  refine⟨a,(Builtin.zeroCells z0.cells (a-(l.length+l'.length))).toList,j1,?_,?_⟩
  ·have:(Builtin.zeroCells z0.cells (a-(l.length+l'.length))).toList.length=(a-(l.length+l'.length))*e.size:=by simp[Builtin.zeroCells,Q]
   rw[this,zta,len,k,<-zob,<-zob];congr 1;omega
  ·have hf:Question.forced (.appendCap (l.length+l'.length) cap u)=false:=rfl;simp only[Builtin.append_,zBc,zWb,zpb,zla,run_underlying R,run_underlying o,zga,cm C,zra,zDa,if_false,f,M,zTb,if_true,typeInfo,run_program,I,false_or,y,false_and,G,run_choose,hf,run_askRoom,c2,d4,zeroValue,J,newRow,run_newObj];have n:(cs++d++(Builtin.zeroCells z0.cells (a-(l.length+l'.length))).toList).toArray=cs.toArray++d.toArray++Builtin.zeroCells z0.cells (a-(l.length+l'.length)):=j3
   rw[n];simp only[grown];rw[zCd];rfl
def C7(hE:EnvOk P E)(h:Rp w0 S γ β s a w){dst args argTypes ty pos after guard}(hf:Fr E s γ β ⟨dst,.call ⟨.builtin .append,args,argTypes⟩,ty,pos,after,guard⟩)(k:∀ t∈s.lkS,dst≠some t){R:Type}{K:St->Option R}{r:R}
  (hq:tZ E s ⟨dst,.call ⟨.builtin .append,args,argTypes⟩,ty,pos,after,guard⟩ K=some r):∃ s',K s'=some r/\Hm P w0 S γ β s a w ⟨dst,.call ⟨.builtin .append,args,argTypes⟩,ty,pos,after,guard⟩ s':=by
 simp only[tZ] at hq;replace hq:=ab hq;obtain⟨T,hT,hq⟩:=hq;replace hq:=ab hq;obtain⟨t,ht,hq⟩:=hq;replace hq:=ab hq;obtain⟨d,L,hq⟩:=hq;split at hq<;>first|(cases hq;done)|skip
 rename_i e x y T0 T' D p;split at hq<;>first|(cases hq;done)|skip
 rename_i e2 ai;replace hq:=ab hq;obtain⟨l',hl',hq⟩:=hq;obtain⟨al,hγ,hβ,_⟩:=hf rfl d L;rcases hE.lay T _ ht with⟨aj,G⟩|hl
 ·cases G
 rcases hE.lay T' _ ai with⟨aj,G⟩|M
 ·cases G
 obtain⟨u2,Q,_⟩:=jG M;have hn:=aH _ _ hl;simp only[am] at hn;have Z:T0=T:=by
  have:argTypes=#[T0,T']:=zpc (by simpa using p)
  simp_all
 subst Z;have eT:argTypes=#[T0,T']:=zpc (by simpa using p)
 have eA:args.map a.eval=#[a.eval x,a.eval y]:=zpc (by simp[D])
 have hex:execOp a.eval ⟨dst,.call ⟨.builtin .append,args,argTypes⟩,ty,pos,after,guard⟩=(Builtin.append_ #[T0,T'] ty #[a.eval x,a.eval y] >>= λv=>pure (.value v)):=by rw[<-eA,<-eT];rfl
 obtain⟨X,y2⟩:=kJ hn (aT h y) hl';have hx:=aT h x;have own:∀ id:Nat,(dst≠some (id-s.base)\/id<s.base)->id≠s.base+d:=λid hid e=>by
  subst e;rcases hid with hid|hid
  ·simp_all
  ·omega
 split at hq<;>first|(cases hq;done)|skip
 ·
  rename_i e' v l F;rw[F] at hx;split at hq<;>first|(cases hq;done)|skip
  rename_i f;split at hq<;>first|(cases hq;done)|skip
  rename_i hlen;simp only[zaa,zTa] at f;have:=aco _ _ f.1;subst this;have H:v ∉ s.dead:=λhh=>by simp_all
  simp only[AR,AC] at hx;obtain⟨x0,x1,x2,A,cap,B,x4,x5⟩:=hx;have B:=ar x0 B;obtain⟨cs,C,c1,c2,u,r1,r2⟩:=vW (P:=P) (w:=w) (S:=S) hl Q ty rfl x2 X x4 y2 hlen;obtain⟨p1,p2,p3,p4,p5,p6,p7⟩:=aci { s with dead:=v::s.dead } dst (.own e' (s.base+d) (l++l'));refine⟨_,hq,p5,p6,p2,p4,λid _ _=>by rw[p1],?_⟩
  rcases zxa cap (l.length+l'.length) with g|g
  ·obtain⟨j,rest,n1,n2,n3⟩:=r2 g;obtain⟨Y,b2⟩:=h.bury v;obtain⟨S',β',U,q,V,W,k5,k6⟩:=zS Y (v:=s.base+d) hβ (by show s.base+d<s.base+4096;omega) hn (l:=l++l') (λz hz=>(List.mem_append.1 hz).elim (x2 z) (X z)) (cs:=cs++C) (by rw[cl];exact c1.append c2) (T:=u) (rest:=rest) (cap:=j) (w.drawn+1) (z1c _) (by rw[zta];exact n1) n2
   rw[zta] at q;refine .value (by rw[hex,B];simp only[zla,n3,zga,zra]) ⟨S',γ,β',U.put q dst,⟨V,λb o f=>dN (h.Sb b o f),λt ht=>co (k t ht),λid hid b f=>⟨f,.inl (dB (h.γn id b f).2)⟩,j3,λ_ _ f=>f,mD.same bS dw.grown⟩,λid hid=>⟨rfl,W id (own id hid)⟩⟩
  ·obtain⟨r3,r4⟩:=r1 g;rcases x5 H with⟨rfl,rfl⟩|⟨b,off,rfl,J,n,N,ad⟩
   ·have z1:l=[]:=by apply List.eq_nil_of_length_eq_zero;omega
    have z2:l'=[]:=by simp_all
    obtain⟨Y,b2⟩:=h.bury v;subst z1;subst z2;refine .value (by rw[hex,B];simp only[zla,r3 rfl,zga,zra];rfl) ⟨S,γ,β,Y.put (uk hn) dst,⟨λ_ _ f=>f,λ_ _ _=>rfl,λt ht=>co (k t ht),λid hid b f=>⟨f,km.refl _ _⟩,zia _,λ_ _ f=>f,mD.same bS (dw.refl _)⟩,λid hid=>⟨rfl,rfl⟩⟩
   ·obtain⟨c,m,ak⟩:=vU N;obtain⟨S',β',U,q,V,W,k5⟩:=Jt h (v':=s.base+d) hn x2 X H J N ad g x4.at_ c2 hβ j1
    refine .value (by rw[hex,B];simp only[zla,r4 b off c rfl m j1,zga,zra]) ⟨S',γ,β',U.put q dst,⟨V,W,λt ht=>co (k t ht),λid hid b' I=>⟨I,.inl (cN λe=>h.βγ v id b _ H J (e ▸ I))⟩,j3,λ_ _ f=>f,mD.same bS (dw.putAt m)⟩,λid hid=>⟨rfl,k5 id (own id hid)⟩⟩
 ·
  rename_i F;rw[F] at hx;split at hq<;>first|(cases hq;done)|skip
  rename_i hlen;simp only[AR,AC] at hx;have B:=ar hx.1 hx.2;have O:CR w S (.sl []) (.slice none 0 0):=.sl [] none 0 0 0 (λ_=>undef) (.inl rfl) (zia 0) (λi d L=>by simp[abM] at L) (λi d L=>by simp[abM] at L)
  obtain⟨cs,C,c1,c2,u,r1,r2⟩:=vW (P:=P) (w:=w) (S:=S) hl Q (len:=0) ty (l:=[]) rfl (λx hx=>by simp at hx) X O y2 (by simpa using hlen)
  obtain⟨p1,p2,p3,p4,p5,p6,p7⟩:=aci s dst (.own e (s.base+d) l');refine⟨_,hq,p5,p6,p2,p4,λid _ _=>by rw[p1],?_⟩
  rcases zxa 0 l'.length with g|g
  ·obtain⟨j,rest,n1,n2,n3⟩:=r2 (by simpa using g)
   obtain⟨S',β',U,q,V,W,k5,k6⟩:=zS h (v:=s.base+d) hβ j1 hn (l:=[]++l') (λz hz=>X z (by simpa using hz)) (cs:=cs++C) (by rw[cl];exact c1.append c2) (T:=u) (rest:=rest) (cap:=j) (w.drawn+1) (z1c _) (by rw[zta];exact n1) n2
   rw[zta] at q;rw[ztc] at q;refine .value (by rw[hex,B];simp only[zla,n3,zga,zra]) ⟨S',γ,β',U.put q dst,⟨V,λb o f=>dN (h.Sb b o f),λt ht=>co (k t ht),λid hid b f=>⟨f,.inl (dB (h.γn id b f).2)⟩,j3,λ_ _ f=>f,mD.same bS dw.grown⟩,λid hid=>⟨rfl,W id (own id hid)⟩⟩
  ·have z2:l'=[]:=by apply List.eq_nil_of_length_eq_zero;omega
   subst z2;obtain⟨r3,_⟩:=r1 j3
   refine .value (by rw[hex,B];simp only[zla,r3 rfl,zga,zra];rfl) ⟨S,γ,β,h.put (uk hn) dst,⟨λ_ _ f=>f,λ_ _ _=>rfl,λt ht=>co (k t ht),λid hid b f=>⟨f,km.refl _ _⟩,zia _,λ_ _ f=>f,mD.same bS (dw.refl _)⟩,λid hid=>⟨rfl,rfl⟩⟩
def AD{k:IntKind}{l:List D}(h:∀ x∈l,wt (.int k) x):abM l=l:=by
 induction l with
 | nil=>rfl
 | cons x l ih=>
  obtain⟨n,rfl⟩:∃ n,x=.int k n:=by have:=h x zsa;simpa only[wt] using this
  rw[abM,ih λy hy=>h y (zoa _ hy)];rfl
def Ct{x:D}{l:List D}(h:x.stl=some l):x=.st l:=by cases x<;>simp[D.stl] at h;rw[h]
def Iz(hE:EnvOk P E)(h:Rp w0 S γ β s a w){dst args argTypes ty pos after guard}(a0:∀ t∈s.lkS,dst≠some t){R:Type}{K:St->Option R}{r:R}
  (hq:tZ E s ⟨dst,.call ⟨.builtin .copy,args,argTypes⟩,ty,pos,after,guard⟩ K=some r):∃ s',K s'=some r/\Hm P w0 S γ β s a w ⟨dst,.call ⟨.builtin .copy,args,argTypes⟩,ty,pos,after,guard⟩ s':=by
 simp only[tZ] at hq;split at hq<;>first|(cases hq;done)|skip
 rename_i x y T0 T' T an;split at hq<;>first|(cases hq;done)|skip
 rename_i k ht;split at hq<;>first|(cases hq;done)|skip
 rename_i e id lo n e' a9 p' q n' a4 a5;split at hq<;>first|(cases hq;done)|skip
 rename_i m f g x1 o' X Q;have hx:=aT h x;have hy:=aT h y;rw[a4] at hx;rw[a5] at hy;simp only[AR,AC,if_true] at hx hy;obtain⟨x0,_,b,off,cap,x3,x4,x5⟩:=hx;obtain⟨y0,_,F,bl,bj,y3,y4,y5⟩:=hy;have x3:=ar x0 x3;have y3:=ar y0 y3;obtain⟨bi,w1,w2,rfl⟩:=y5 _ Q;have aB:=h.obs a9 _ F Q y4;replace hq:=nZ aB w1 hq;obtain⟨a2,C,hq,p5,pf,_,pc⟩:=hq;split at hq<;>first|(cases hq;done)|skip
 rename_i m' f' y1;cases oT pf;split at hq<;>first|(cases hq;done)|skip
 rename_i G;simp only[zaa,zTa] at G;obtain⟨⟨⟨⟨b1,b2⟩,b3⟩,b5⟩,b7⟩:=G;have:=aco _ _ b1;subst this;have:=aco _ _ b2;subst this;have:=aco _ _ b3;subst this;have:=aco _ _ b5;subst this;replace hq:=ab hq;obtain⟨l,hl,hq⟩:=hq;replace hq:=ab hq;obtain⟨l',hl',hq⟩:=hq;have:=Ct hl;subst this;have:=Ct hl';subst this;have a1:id ∉ s.lkO:=by simp_all
 obtain⟨mm,z1,z2,rfl⟩:=x5 _ X;simp only[fk,aM,zda,Ty.arr.injEq,and_true] at z1;subst z1;have hO:=h.obs id _ b X x4;simp only[gm] at hO;obtain⟨o1,o2,o3,cs,o4,o5,o6⟩:=hO;simp only[AC] at o5 p5;obtain⟨q1,q2,q3⟩:=o5;obtain⟨r1,r2,Y⟩:=p5;simp only[wt] at q1 r1;obtain⟨_,⟨rfl⟩,q4,q5⟩:=q1;obtain⟨_,⟨rfl⟩,r4,r5⟩:=r1;simp only[D.flat] at q3 Y;rw[AD q5] at q3;rw[AD r5] at Y;obtain⟨c,hc⟩:∃ c,c=min n' n:=⟨_,rfl⟩;rw[<-hc] at hq;have bm:cs.length=m:=by rw[<-q3.1,q4]
 have bk:C.length=bi:=by rw[<-Y.1,r4]
 have eo:cD (.one (.arr m (.int k)) (.d (.arr m (.int k)) (.st l))) []+lo*(Ty.int k).size=lo:=by simp[cD,aZ,Ty.size]
 obtain⟨O,aI⟩:∃ O,O=cD o' p':=⟨_,rfl⟩;rw[<-aI] at pc y3;have ax:O+q*(Ty.int k).size=O+q:=by simp[Ty.size]
 rw[eo] at x3;rw[ax] at y3;have W:(loadCells ⟨F,O+q,none⟩ c).run P w=.ok ((C.drop q).take c).toArray w:=by
  have:=run_loadCells_list (P:=P) w ⟨F,O+q,none⟩ ((C.drop q).take c) (λj v hv=>by
   have hj:j<c:=by have:=(zqa.1 hv).1;simp at this;omega
   rw[z6b hj,z8b] at hv;rw[de,show O+q+j=O+(q+j) by omega]
   exact pc _ _ hv)
  rwa [show((C.drop q).take c).length=c by simp;omega] at this
 have a7:lo+((C.drop q).take c).toArray.size<=cs.toArray.size:=by simp;omega
 have ak:((C.drop q).take c).all mz=true:=by
  rw[zCa];intro v hv;obtain⟨j,hj,rfl⟩:=zYa (zbc (zRa hv));have ai:j<l'.length:=by rw[Y.1];exact hj
  have U:=Y.2 j l'[j] C[j] (zca ai) (zca hj);obtain⟨nn,hn⟩:∃ nn,l'[j]=.int k nn:=by have:=r5 l'[j] (zFa ai);simpa only[wt] using this
  rw[hn] at U;generalize C[j]=v at U;cases U;rfl
 have al:=cP (P:=P) b lo ((C.drop q).take c) 0 w cs.toArray o4 (by simp;omega) ak
 obtain⟨u,hu,a3⟩:=jG (j9 hE ht (by rfl))
 have a6:=cm a3 w;have eT:argTypes=#[T0,T']:=zpc (by simpa using an)
 have eA:args.map a.eval=#[a.eval x,a.eval y]:=zpc (by simp[T])
 have hex:execOp a.eval ⟨dst,.call ⟨.builtin .copy,args,argTypes⟩,ty,pos,after,guard⟩=(Builtin.copy_ #[T0,T'] ty #[a.eval x,a.eval y] >>= λv=>pure (.value v)):=by rw[<-eA,<-eT];rfl
 have aj:c8 w S (l.take lo++((l'.drop q).take c++l.drop (lo+c))) (cs.take lo++((C.drop q).take c++cs.drop (lo+c))):=by
  have part:∀ {A:List D} {B:List Value} (i:Nat),c8 w S A B->c8 w S (A.take i) (B.take i)/\c8 w S (A.drop i) (B.drop i):=λ{A B} i J=>by
   have e:A=A.take i++A.drop i:=(zua i A).symm;have N:=J;rw[e] at N;obtain⟨k1,k2⟩:=N.split;rw[zgb,<-e] at *;rcases Nat.le_total i A.length with H|H
   ·rw[zDb H] at k1 k2;exact⟨k1,k2⟩
   ·rw[zfb H,zfb (by rw[<-J.1];exact H),zZc H,zZc (by rw[<-J.1];exact H)]
    exact⟨J,c8.nil⟩
  exact(part lo q3).1.append ((part c (part q Y).2).1.append (part (lo+c) q3).2)
 have I:wt (.arr m (.int k)) (.st (l.take lo++((l'.drop q).take c++l.drop (lo+c)))):=by
  simp only[wt];refine⟨_,rfl,by simp;omega,λz M=>?_⟩
  rcases List.mem_append.1 M with M|M
  ·exact q5 z (zRa M)
  rcases List.mem_append.1 M with M|M
  ·exact r5 z (zbc (zRa M))
  ·exact q5 z (zbc M)
 have V:(D.st (l.take lo++((l'.drop q).take c++l.drop (lo+c)))).flat=l.take lo++((l'.drop q).take c++l.drop (lo+c)):=by simp only[D.flat];simp only[wt] at I;obtain⟨_,⟨rfl⟩,_,t3⟩:=I;exact AD t3
 have ad:∀ F o,S F o->F≠b:=λF o G e=>o3 o (e ▸ G);have L:eJ cs.toArray lo ((C.drop q).take c).toArray=(cs.take lo++((C.drop q).take c++cs.drop (lo+c))).toArray:=by
  have e:cs=cs.take lo++((cs.drop lo).take c++(cs.drop lo).drop c):=by rw[zua,zua]
  have e2:(cs.take lo).length=lo:=by rw[zgb];omega
  conv=>lhs;rw[e]
  rw[List.drop_drop];have:=iJ (cs.take lo) ((cs.drop lo).take c) (cs.drop (lo+c)) ((C.drop q).take c) (by simp;omega)
  rw[e2] at this;exact this
 obtain⟨n1,n2⟩:=h.write (o':=.one (.arr m (.int k)) (.d (.arr m (.int k)) (.st (l.take lo++((l'.drop q).take c++l.drop (lo+c)))))) X x4 o3 o4 a7 (λp=>⟨rfl,rfl⟩) (λt l e=>by cases e) (λ_ _ _ e=>by cases e) (by
  simp only[gm];refine⟨o1,o2,o3,cs.take lo++((C.drop q).take c++cs.drop (lo+c)),by rw[gU o4,L],?_,by simp[Ty.size] at *;omega⟩
  simp only[AC];refine⟨I,q2,?_⟩;rw[V];exact aj.mono (λF o G=>ck (ad F o G)) λ_ _ hh=>hh)
 obtain⟨f1,f2,f3,f4,f5,f6,f7⟩:=aci (s.setOb id (some (.one (.arr m (.int k)) (.d (.arr m (.int k)) (.st (l.take lo++((l'.drop q).take c++l.drop (lo+c)))))))) dst (.d (.int .i64) (.int .i64 (c:Nat)));refine⟨_,hq,f5,f6,f2,f4,λi H _=>?_,.value (v:=.int .i64 (c:Nat)) (w':=putAt w b lo ((C.drop q).take c).toArray) ?_ ⟨S,γ,β,n1.put (cT _ _) dst,?_,λ_ _=>⟨rfl,rfl⟩⟩⟩
 ·rw[f1];simp only[St.setOb];rw[zka];intro e;subst e;rw[x4] at H;cases H
 ·rw[hex,x3,y3];simp only[zmc] at al;have e1:Nat.min n' n=c:=hc.symm;simp[Builtin.copy_,run_underlying hu,Builtin.lenOf,Builtin.firstCells,zla,a6,e1,Ty.size,W,al,goInt]
 ·exact⟨λ_ _ G=>G,λF o G=>ck (ad F o G),λt ht=>co (a0 t ht),λi H F Z=>⟨Z,.inl (cN λe=>a1 ((h.γi id i b x4 (e ▸ Z)) ▸ H))⟩,j3,λ_ _ G=>G,mD.same bS (dw.putAt (by first|assumption))⟩
def IA(f:EnvOk P E)(h:Rp w0 S γ β s a w){o:Oper}(hf:Fr E s γ β o)(hT:∀ T t,(o.op=.alloc T\/∃ x,o.op=.box T x)->E.L T=some t->am t=true)(d:∀ t∈s.lkS,o.dst≠some t)(g:∀ T x y,o.op=.store T x y->o.dst=none){R:Type}{K:St->Option R}{r:R}
  (hq:tZ E s o K=some r):∃ s',K s'=some r/\Hm P w0 S γ β s a w o s':=by
 have quiet:qv E s o (λv=>K (s.put o.dst v))=some r->∃ s',K s'=some r/\Hm P w0 S γ β s a w o s':=λhq=>xw f h hf (λT t e=>hT T t (.inl e)) d hq;obtain⟨dst,op,ty,pos,after,guard⟩:=o;cases op
 case store T x y=>exact F8 f h d (g T x y rfl) hq
 case box T x=>exact MO f h hf d (λt=>hT T t (.inr ⟨x,rfl⟩)) hq
 case makeSlice T x y=>exact wQ f h hf d hq
 case makeMap T x=>exact Bl f h hf d hq
 case mapUpdate T x y z=>exact wR f h hq
 case call c=>
  obtain⟨callee,args,argTypes⟩:=c;cases callee
  case builtin b=>
   cases b
   case append=>exact C7 f h hf d hq
   case copy=>exact Iz f h d hq
   all_goals exact quiet hq
  all_goals exact quiet hq
 all_goals exact quiet hq
end
def mN{α β R:Type}{x:Option α}{f:α->Option R}{g:α->Option β}{K:β->Option R}(h:∀ a,f a=(g a).bind K):x.bind f=(x.bind g).bind K:=by
 cases x with
 | none=>rfl
 | some a=>exact h a
def Bs{R:Type}:∀ (p:List Nat) (a:AV) (K:AV->Option R),zn a p K=(zn a p some).bind K:=by
 intro p
 induction p with
 | nil=>intro a K;cases a<;>rfl
 | cons i p ih=>
  intro a K;cases a<;>simp only[zn]<;>first
   | rfl
   | exact mN λt=>mN λy=>rfl
   | exact mN λb=>ih b K
def pg{R:Type}(o:Ob)(p:List Nat)(K:AV->Option R):gT o p K=(gT o p some).bind K:=by
 cases o with
 | one t v=>exact Bs p v K
 | many t l=>
  cases p with
  | nil=>rfl
  | cons i p=>exact mN λx=>Bs p _ K
 | mp a vt l=>rfl
 | lp i q=>rfl
 | fv v=>rfl
def Cc{R β:Type}{o:Ob}{p:List Nat}{f:AV->Option R}{g:AV->Option β}{K:β->Option R}(h:∀ v,f v=(g v).bind K):gT o p f=(gT o p g).bind K:=by
 rw[pg,pg _ _ g];cases gT o p some with
 | none=>rfl
 | some v=>exact h v
def Io{α R:Type}{c:Bool}{A A':Option R}{B B':Option α}{K:α->Option R}(h:A=B.bind K)(a:A'=B'.bind K):(bif c then A else A')=(bif c then B else B').bind K:=by all_goals grind
def JD{R:Type}(E:Env)(s:St)(o:Oper)(K:AV->Option R):qv E s o K=(qv E s o some).bind K:=by obtain⟨dst,op,ty,pos,after,guard⟩:=o;cases op<;>simp only[qv]<;>(repeat' first|rfl|exact pg _ _ _|refine Cc λ_=>?_|refine mN λ_=>?_|refine Io ?_ ?_|split)
structure Wk(s s':St):Prop where
 tm:∀ t,s'.tm t=s.tm t\/s'.tm t=.undef
 ob:s'.ob=s.ob
 fresh:s'.fresh=s.fresh
 dead:s'.dead=s.dead
 nt:s'.nt=s.nt
 lkS:s'.lkS=s.lkS
 lkO:s'.lkO=s.lkO
def Wk.refl(s:St):Wk s s:=⟨λ_=>.inl rfl,rfl,rfl,rfl,rfl,rfl,rfl⟩
theorem Wk.trans{a b c:St}(h:Wk a b)(k:Wk b c):Wk a c:=
 ⟨λt=>by
  rcases k.tm t with e|e
  ·rw[e];exact h.tm t
  ·exact .inr e,k.ob.trans h.ob,k.fresh.trans h.fresh,k.dead.trans h.dead,k.nt.trans h.nt,k.lkS.trans h.lkS,k.lkO.trans h.lkO⟩
theorem Wk.put{s s':St}(h:Wk s s')(d:Option Nat){v v':AV}(a:v'=v\/v'=.undef):Wk (s.put d v) (s'.put d v'):=by
 cases d with
 | none=>exact h
 | some d=>
  simp only[St.put,h.nt];split
  ·refine⟨λt=>?_,h.ob,h.fresh,h.dead,by first|exact h.nt|rfl,h.lkS,h.lkO⟩
   by_cases e:t=d
   ·simp_all
   ·simp only[e,if_false];exact h.tm t
  ·exact h
def Wk.kill(s:St)(d:Option Nat):Wk s (s.put d .undef):=by
 cases d with
 | none=>exact Wk.refl s
 | some d=>
  simp only[St.put];split
  ·refine⟨λt=>?_,rfl,rfl,rfl,rfl,rfl,rfl⟩;all_goals grind
  ·exact Wk.refl s
theorem Wk.killD:∀ (l:List Oper) (s:St),Wk s (killD s l)
 | [],s=>Wk.refl s
 | o::l,s=>(Wk.kill s o.dst).trans (Wk.killD l _)
theorem Wk.opA{s s':St}(h:Wk s s')(x:Operand):s'.opA x=s.opA x\/s'.opA x=.undef:=by
 cases x with
 | tmp t=>exact h.tm t
 | const v=>exact .inl rfl
 | global g=>exact .inl rfl
 | func f=>exact .inl rfl
theorem jr{ob:Nat->Option Ob}{t:Ty}:abB ob t .undef=none:=by cases t<;>rfl
def Rp.wk{w0:Root}{S:Nat->Nat->Prop}{γ:Nat->Option Nat}{β:Nat->Option (Nat×Nat)}{s s':St}{a:Act}{w:World}(h:Rp w0 S γ β s a w)(k:Wk s s'):Rp w0 S γ β s' a w:=by
 have c:=k.ob;have b:=k.dead;have d:s'.base=s.base:=by simp only[St.base,k.fresh]
 refine⟨h.ext,λt ht=>?_,h.nt.trans k.nt.symm,λt ht=>?_,?_,h.γn,h.γi,?_,?_,?_,?_,?_,h.Sb,h.So⟩
 ·rw[c,b];rcases k.tm t with e|e
  ·rw[e];exact h.tms t ht
  ·rw[e];simp[AR]
 ·rcases k.tm t with e|e
  ·rw[e];exact h.tmu t (k.nt ▸ ht)
  ·exact e
 ·rw[c,b];exact h.obs
 ·rw[d];exact h.γf
 ·rw[b];exact h.βn
 ·rw[b];exact h.βi
 ·rw[b];exact h.βγ
 ·rw[d];exact h.βf
section
variable{E:Env}{s s':St}
theorem Wk.toDl(h:Wk s s'):∀ (l:List Operand) (a:List Ty) {xs:List D},AV.toDl s'.ob a (l.map s'.opA)=some xs->AV.toDl s.ob a (l.map s.opA)=some xs
 | [],a,xs,hx=>by grind [AV.toDl]
 | y::l,a,xs,hx=>by
  cases a<;>simp only[zab,AV.toDl] at hx ⊢<;>first|(cases hx;done)|skip
  obtain⟨x,h1,h2⟩:=ab hx;obtain⟨c,h3,b⟩:=ab h2;rcases h.opA y with e|e
  ·rw[e,h.ob] at h1;rw[h1,zba,h.toDl l _ h3];exact b
  ·simp_all [jr]
theorem Wk.partsD(h:Wk s s')(ty:Nat->Option Ty):∀ (l:List (Nat×Operand)) {xs:List (Nat×D)},Sy.partsD s'.ob s' ty l=some xs->Sy.partsD s.ob s ty l=some xs
 | [],xs,hx=>hx
 | (i,y)::l,xs,hx=>by
  simp only[Sy.partsD] at hx ⊢;obtain⟨t,h0,hx⟩:=ab hx;obtain⟨x,h1,h2⟩:=ab hx;obtain⟨b,h3,a⟩:=ab h2;rw[h0,zba];rcases h.opA y with e|e
  ·rw[e,h.ob] at h1;rw[h1,zba,h.partsD ty l h3];exact a
  ·simp_all [jr]
theorem Wk.asList(h:Wk s s'){e:Ty}{x:Operand}{l:List D}(hx:(s'.opA x).asList s'.ob e=some l):s'.opA x=s.opA x:=by
 rcases h.opA x with k|k
 ·exact k
 ·simp_all [AV.asList,jr]
theorem Wk.isD(h:Wk s s'){x:Operand}{p:Ty×D}(hx:Sy.isD (s'.opA x)=some p):s'.opA x=s.opA x:=by
 rcases h.opA x with k|k
 ·exact k
 ·simp_all [Sy.isD]
theorem Wk.truth(h:Wk s s'){x:Operand}{b:Bool}(hx:(s'.opA x).truth=some b):s'.opA x=s.opA x:=by
 rcases h.opA x with k|k
 ·exact k
 ·simp_all [AV.truth]
end
section
variable{E:Env}{s s':St}
def Wk.base_eq(h:Wk s s'):s'.base=s.base:=by simp only[St.base,h.fresh]
theorem Wk.qv(h:Wk s s'){o:Oper}{v':AV}(hq:Sy.qv E s' o some=some v'):∃ v,Sy.qv E s o some=some v/\(v'=v\/v'=.undef):=by
 obtain⟨dst,op,ty,pos,after,guard⟩:=o;have w:=h.ob;have B:=h.base_eq;have same:∀ {x y:Option AV},x=some v'->y=x->∃ v,y=some v/\(v'=v\/v'=.undef):=λhx hy=>⟨v',hy.trans hx,.inl rfl⟩;cases op<;>simp only[Sy.qv] at hq ⊢<;>(try (cases hq;done))
 case move x=> simp only[zda] at hq;exact⟨_,rfl,by rcases h.opA x with e|e<;>simp[<-hq,e]⟩
 case assign x=> simp only[zda] at hq;exact⟨_,rfl,by rcases h.opA x with e|e<;>simp[<-hq,e]⟩
 case pick c x y=>
  obtain⟨b,h1,h2⟩:=ab hq;rw[<-h.truth h1,h1,zba];cases b
  ·simp only[zDa,if_false,zda] at h2 ⊢;exact⟨_,rfl,by rcases h.opA y with e|e<;>simp[<-h2,e]⟩
  ·simp only[if_true,zda] at h2 ⊢;exact⟨_,rfl,by rcases h.opA x with e|e<;>simp[<-h2,e]⟩
 case alloc T=>rw[B] at hq;exact same hq rfl
 case load T x=>
  rcases h.opA x with e|e
  ·rw[e,w] at hq;exact same hq rfl
  ·rw[e] at hq;cases hfn:E.fnT T<;>rw[hfn] at hq
   ·simp only[cond_false] at hq;obtain⟨t,h1,h2⟩:=ab hq;cases h2
   ·cases hq
 case fieldAddr T x f=>
  obtain⟨t,h1,h2⟩:=ab hq;rcases h.opA x with e|e
  ·simp_all
  ·simp_all
 case indexAddr T x i=>
  obtain⟨t,h1,h2⟩:=ab hq;obtain⟨p,h3,a⟩:=ab h2;have I:=h.isD h3;rcases h.opA x with e|e
  ·simp_all
  ·rw[e] at a;all_goals grind [AV.asList,jr]
 case lookup T x i c=>
  obtain⟨t,h1,h2⟩:=ab hq;rcases h.opA x with e|e
  ·rw[e,w] at h2 hq;have I:s'.opA i=s.opA i:=by
    split at h2<;>first|(cases h2;done)|skip
    split at h2<;>first|(cases h2;done)|skip
    split at h2<;>first|(cases h2;done)|skip
    split at h2<;>first|(cases h2;done)|skip
    obtain⟨p,h3,_⟩:=ab h2;exact h.isD h3
   simp_all
  ·simp_all
 case field T x f=>
  obtain⟨t,h1,h2⟩:=ab hq;rcases h.opA x with e|e
  ·simp_all
  ·simp_all
 case index T x i=>
  obtain⟨t,h1,h2⟩:=ab hq;obtain⟨p,h3,a⟩:=ab h2;have I:=h.isD h3;rcases h.opA x with e|e
  ·simp_all
  ·simp_all
 case binOp op T x y T'=> obtain⟨t,h1,h2⟩:=ab hq;obtain⟨p,h3,a⟩:=ab h2;obtain⟨q,k,j⟩:=ab a;grind [h.isD]
 case unOp op T x=> obtain⟨p,h3,a⟩:=ab hq;grind [h.isD]
 case convert U T x=> obtain⟨u,h1,h2⟩:=ab hq;obtain⟨t,K,h2⟩:=ab h2;obtain⟨p,h3,a⟩:=ab h2;grind [h.isD]
 case nilCheck x=>
  rcases h.opA x with e|e
  ·simp_all
  ·simp_all
 case extract x i=>
  rcases h.opA x with e|e
  ·simp_all
  ·simp_all
 case build T ps=>
  obtain⟨t,h1,h2⟩:=ab hq;rw[h1,zba];cases t<;>simp only at h2 ⊢<;>(try (cases h2;done))
  case st ts=>
   split at h2
   ·rename_i hs;rw[zna hs];split at h2<;>first|(cases h2;done)|skip
    rename_i J;have key:∀ (l:List (Nat×Operand)),l.all (gr s' ts)=true->l.all (gr s ts)=true/\(l.map λp=>(p.1,s'.opA p.2))=l.map λp=>(p.1,s.opA p.2):=by
     intro l
     induction l with
     | nil=>intro _;exact⟨rfl,rfl⟩
     | cons p l ih=>
      intro z;simp only[zXb,zaa] at z;obtain⟨N,O⟩:=ih z.2;have h3:=z.1;have e:s'.opA p.2=s.opA p.2:=by
       rcases h.opA p.2 with e|e
       ·exact e
       ·unfold gr at h3;rw[e] at h3;all_goals grind [AV.fits]
      have L:gr s ts p=true:=by simp_all [gr]
      grind
    grind
   ·rename_i hs;rw[zka hs];obtain⟨l,h3,a⟩:=ab h2
    simp_all [h.partsD,zba]
  case arr n e=>
   obtain⟨l,h3,a⟩:=ab h2
   simp_all [h.partsD,zba]
 case buildSlice T n ps=>
  obtain⟨t,h1,h2⟩:=ab hq;rw[h1,zba];cases t<;>simp only at h2 ⊢<;>(try (cases h2;done))
  split at h2<;>first|(cases h2;done)|skip
  rename_i hn;rw[zna hn];obtain⟨d,h3,a⟩:=ab h2;obtain⟨l,k,j⟩:=ab a
  simp_all [zba,h.partsD]
 case slice T x lo r mx=>
  cases mx with
  | some m=>cases hq
  | none=>
   obtain⟨t,h1,h2⟩:=ab hq;cases t<;>simp only at h2<;>(try (cases h2;done))
   case arr m e=>
    rcases h.opA x with ex|ex
    ·rw[ex] at h2 hq;rw[w] at hq;have key:(∀ i,lo=some i->s'.opA i=s.opA i)/\(∀ i,r=some i->s'.opA i=s.opA i):=by
      clear hq;split at h2<;>first|(cases h2;done)|skip
      split at h2<;>first|(cases h2;done)|skip
      obtain⟨H,k,j⟩:=ab h2;obtain⟨G,F,M⟩:=ab j;refine⟨λi r=>?_,λi r=>?_⟩
      ·subst r;obtain⟨p,A,_⟩:=ab k;exact h.isD A
      ·subst r;obtain⟨p,A,_⟩:=ab F;exact h.isD A
     obtain⟨D,C⟩:=key;clear h2;cases lo<;>cases r<;>simp only at hq ⊢
     ·simp_all
     ·simp_all
     ·simp_all
     ·simp_all
    ·simp_all
   obtain⟨l,h3,a⟩:=ab h2;obtain⟨H,k,j⟩:=ab a;obtain⟨G,F,M⟩:=ab j;have ex:=h.asList h3;have D:∀ i,lo=some i->s'.opA i=s.opA i:=λi r=>by subst r;obtain⟨p,A,_⟩:=ab k;exact h.isD A
   have C:∀ i,r=some i->s'.opA i=s.opA i:=λi r=>by subst r;obtain⟨p,A,_⟩:=ab F;exact h.isD A
   all_goals grind
 case sliceToArrayPointer T x=>
  obtain⟨t,h1,h2⟩:=ab hq;rcases h.opA x with e|e
  ·simp_all
  ·rw[e] at h2;cases t<;>first|(cases h2;done)|(simp[AV.asList,jr] at h2;done)
 case makeFunc fn first captured=>
  cases fn<;>simp only at hq ⊢<;>(try (cases hq;done))
  split at hq<;>first|(cases hq;done)|skip
  rename_i z;have key:∀ (l:List Operand),(l.all λx=>ga (s'.opA x))=true->(l.all λx=>ga (s.opA x))=true/\l.map s'.opA=l.map s.opA:=by
   intro l
   induction l with
   | nil=>intro _;exact⟨rfl,rfl⟩
   | cons p l ih=>
    intro z;simp only[zXb,zaa] at z;obtain⟨N,O⟩:=ih z.2;have h3:=z.1;have e:s'.opA p=s.opA p:=by
     rcases h.opA p with e|e
     ·exact e
     ·simp_all [ga]
    simp_all
  grind
 case call c=>
  obtain⟨callee,args,argTypes⟩:=c;cases callee<;>simp only at hq ⊢<;>(try (cases hq;done))
  case value f=>
   cases f<;>simp only at hq ⊢<;>(try (cases hq;done))
   case func f=>
    obtain⟨g,h1,h2⟩:=ab hq;cases hfr:Nat.beq (E.free f) 0 with
    | false=>rw[hfr] at h2;cases h2
    | true=>
    rw[hfr] at h2;simp only[cond_true] at h2;obtain⟨xs,h3,a⟩:=ab h2;rw[h1,zba,cond_true,h.toDl _ _ h3,zba];rw[B] at a;exact⟨v',a,.inl rfl⟩
   case tmp t=>
    split at hq<;>first|(cases hq;done)|skip
    rename_i f l ht;obtain⟨g,h1,h2⟩:=ab hq;cases hfr:(Nat.beq (E.free f) l.length&&dC (uC l)) with
    | false=>rw[hfr] at h2;cases h2
    | true=>
    rw[hfr] at h2;simp only[cond_true] at h2;obtain⟨xs,h3,a⟩:=ab h2;have e:s.tm t=.clo f l:=by
     rcases h.opA (.tmp t) with e|e
     ·exact e.symm.trans ht
     ·have:s'.tm t=.undef:=e;rw[ht] at this;cases this
    rw[e];simp only;rw[h1,zba,hfr,cond_true,h.toDl _ _ h3,zba];rw[w] at a;exact⟨v',a,.inl rfl⟩
  case builtin b=>
   cases b<;>simp only at hq ⊢<;>(try (cases hq;done))
   case len=>
    obtain⟨T,h1,h2⟩:=ab hq;obtain⟨t,h3,a⟩:=ab h2;obtain⟨x,k,j⟩:=ab a;rcases h.opA x with e|e
    ·rw[h1,zba,h3,zba,k,zba];cases t<;>simp only at j ⊢<;>first
      | (cases j;done)
      | (rw[e,w] at j;exact same j rfl)
      | (rw[e] at j;exact⟨v',j,.inl rfl⟩)
      | exact⟨v',j,.inl rfl⟩
    ·rw[h1,zba,h3,zba,k,zba];cases t<;>simp only at j ⊢<;>first
      | (cases j;done)
      | (rw[e] at j;simp[AV.asList,jr] at j;done)
      | (rw[e] at j;simp[Sy.isD] at j;done)
      | exact⟨v',j,.inl rfl⟩
   case min=>
    split at hq<;>first|(cases hq;done)|skip
    obtain⟨p,h3,a⟩:=ab hq;obtain⟨q,k,j⟩:=ab a;rw[h.isD h3,h.isD k] at hq;exact same hq rfl
   case max=>
    split at hq<;>first|(cases hq;done)|skip
    obtain⟨p,h3,a⟩:=ab hq;obtain⟨q,k,j⟩:=ab a;rw[h.isD h3,h.isD k] at hq;exact same hq rfl
end
def val(E:Env)(ops:Array Oper)(s:St)(o:Oper):Option AV:=
 if qd s o then none else
 match o.guard with
 | none=>qv E s o some
 | some (j,want)=>((ops[j]?).bind (·.dst)).bind λg=>zq (s.tm g) (some .gone) ((s.tm g).truth.bind λc=>if c==want then qv E s o some else some .gone)
def seqV(E:Env)(ops:Array Oper):List Oper->St->Option St
 | [],s=>some s
 | o::l,s=>(val E ops s o).bind λv=>seqV E ops l (s.put o.dst v)
section
variable{E:Env}{ops:Array Oper}{s s':St}
def Wk.lkd_eq(h:Wk s s')(o:Oper):qd s' o=qd s o:=by simp only[qd,h.lkS]
theorem Wk.val(h:Wk s s'){o:Oper}{v':AV}(hq:Sy.val E ops s' o=some v'):∃ v,Sy.val E ops s o=some v/\(v'=v\/v'=.undef):=by
 unfold Sy.val at hq ⊢;rw[h.lkd_eq] at hq;split at hq<;>first|(cases hq;done)|skip
 rename_i a;rw[zka a];cases d:o.guard with
 | none=>rw[d] at hq;exact h.qv hq
 | some p=>
  obtain⟨j,want⟩:=p;rw[d] at hq;simp only at hq ⊢;obtain⟨g,h1,h2⟩:=ab hq;rw[h1,zba];by_cases hgo:s'.tm g=.gone
  ·have e:s'.tm g=s.tm g:=by
    rcases h.tm g with e|e
    ·exact e
    ·simp_all
   rw[hgo,iC] at h2;rw[<-e,hgo,iC];exact⟨v',h2,.inl rfl⟩
  rw[gP hgo] at h2;obtain⟨c,h3,b⟩:=ab h2;have e:s'.tm g=s.tm g:=h.truth (x:=.tmp g) h3;rw[<-e,gP hgo,h3,zba];split at b
  ·rename_i hc;rw[zna hc];exact h.qv b
  ·simp_all
theorem Wk.seqV:∀ (l:List Oper) {s s' a:St},Wk s s'->Sy.seqV E ops l s'=some a->∃ t,Sy.seqV E ops l s=some t/\Wk t a
 | [],s,s',a,h,hq=>by simp_all [Sy.seqV,zda]
 | o::l,s,s',a,h,hq=>by simp only[Sy.seqV] at hq ⊢;obtain⟨v',h1,h2⟩:=ab hq;obtain⟨v,h3,b⟩:=h.val h1;rw[h3,zba];exact Wk.seqV l (h.put o.dst b) h2
theorem np:∀ (l l':List Oper) (s:St),Sy.seqV E ops (l++l') s=(Sy.seqV E ops l s).bind (Sy.seqV E ops l')
 | [],l',s=>rfl
 | o::l,l',s=>by
  simp only[zzb,Sy.seqV];cases val E ops s o with
  | none=>rfl
  | some v=>exact np l l' _
theorem acs:∀ (l:List Oper) {s s':St},Wk s s'->Wk (Sy.killD s l) (Sy.killD s' l)
 | [],_,_,h=>h
 | o::l,_,_,h=>acs l (h.put o.dst (.inl rfl))
theorem lr:∀ (l:List Oper) {s t:St},Sy.seqV E ops l s=some t->Wk t (killD s l)
 | [],s,t,h=>by simp only[Sy.seqV,zda] at h;subst h;exact Wk.refl s
 | o::l,s,t,h=>by simp only[Sy.seqV] at h;obtain⟨v,h1,h2⟩:=ab h;have a:=lr l h2;refine a.trans ?_;show Wk (killD (s.put o.dst v) l) (killD (s.put o.dst .undef) l);exact acs l ((Wk.refl s).put o.dst (.inr rfl))
end
def iP(o:Oper):Bool:=gB o||(match o.op with|.alloc _=>true|_=>false)
def pR{R:Type}(E:Env)(s:St){o:Oper}(h:iP o=true)(K:St->Option R):tZ E s o K=qv E s o λv=>K (s.put o.dst v):=by
 obtain⟨dst,op,ty,pos,after,guard⟩:=o;cases op<;>first|rfl|(simp[iP,gB] at h;done)|skip
 rename_i c;obtain⟨callee,args,argTypes⟩:=c;cases callee<;>first|rfl|skip
 rename_i b;cases b<;>first|rfl|(simp[iP,gB] at h)
def iH{R:Type}{E:Env}{s:St}{o:Oper}{K:AV->Option R}{r:R}(h:qv E s o K=some r):∃ v,qv E s o some=some v/\K v=some r:=by rw[JD] at h;exact ab h
theorem jM(d:Option Nat):∀ (l:List (Nat×Oper)),l=(dD d l).1++(dD d l).2/\∀ p q,(dD d l).2=p::q->p8 d p.2=true
 | []=>⟨rfl,λp q h=>by simp[dD] at h⟩
 | p::l=>by
  simp only[dD];split
  ·simp_all
  ·obtain⟨h1,h2⟩:=jM d l;grind
def vL{s:St}{d:Nat}{v:AV}(h:s.tm d=v):s.put (some d) v=s:=by
 simp only[St.put];split
 ·have:(λi=>if i=d then v else s.tm i)=s.tm:=by
   all_goals grind
  rw[this]
 ·rfl
def ug{s:St}{d:Nat}{v:AV}(h:d<s.nt):(s.put (some d) v).tm d=v:=by simp[St.put,h]
def jP{v:AV}{b:Bool}(h:v.truth=some b):v=.d .bool (.bool b):=by
 cases v<;>simp only[AV.truth] at h<;>first|(cases h;done)|skip
 grind [aco,yK]
def sY{R:Type}{s:St}{g:Nat}{c want:Bool}(hc:(s.tm g).truth=some c){A B:St->Option R}{r:R}
  (h:(if c then(if want then A (s.put (some g) (.d .bool (.bool true))) else B (s.put (some g) (.d .bool (.bool true)))) else(if want then B (s.put (some g) (.d .bool (.bool false))) else A (s.put (some g) (.d .bool (.bool false)))))=some r):(if c==want then A s else B s)=some r:=by
 have e:=vL (jP hc);all_goals grind
def s8{d:Option Nat}{o:Oper}(h:p8 d o=true):∃ c x y,o.op=.pick c x y:=by cases hop:o.op<;>first|exact⟨_,_,_,rfl⟩|(simp[p8,hop] at h)
def mh{o:Oper}(h:gB o=true):iP o=true:=by simp[iP,h]
def GD{o:Oper}{c x y:Operand}(h:o.op=.pick c x y):iP o=true:=by simp[iP,gB,h]
def Bm{E:Env}{ops:Array Oper}:∀ (N:Nat) (R:Type) (l:List (Nat×Oper)) (s:St) (k:St->Option R) (r:R) (m:Nat) (an:Ann),m<=l.length->(∀ p∈l.take m,iP p.2=true/\mW E p.2=false) ->
  ((∀ p∈l.drop m,∀ c x y,p.2.op≠.pick c x y)\/∀ p q,l.drop m=p::q->MA E p.2=false)->jB E N R ops an l s k=some r ->
  ∃ s' z N',seqV E ops ((l.take m).map Prod.snd) s=some s'/\Wk s' z/\jB E N' R ops an (l.drop m) z k=some r:=by
 intro N
 induction N with
 | zero=>intro R l s k r m an _ _ _ h;simp[jB] at h
 | succ N ih=>
  intro R l s k r m an hm hq ht h;cases m with
  | zero=>exact⟨s,s,N+1,rfl,Wk.refl s,by simpa using h⟩
  | succ m=>
   cases l with
   | nil=>simp at hm
   | cons p l=>
    obtain⟨i,o⟩:=p;simp only[zQa,Nat.add_le_add_iff_right] at hm;obtain⟨ho,I⟩:=hq (i,o) j3
    simp only at ho I;have a4:∀ p∈l.take m,iP p.2=true/\mW E p.2=false:=λp hp=>hq p (by simp[hp])
    have n:(∀ p∈l.drop m,∀ c x y,p.2.op≠.pick c x y)\/∀ p q,l.drop m=p::q->MA E p.2=false:=by simpa using ht
    have a1:BY E o an=an:=by simp[BY,I]
    have Q:∀ (s:St) (K:St->Option R),IC E an l s o K=tZ E s o K:=λs K=>by simp[IC,I]
    simp only[jB,a1,Q] at h;have step:∀ {v:AV},val E ops s o=some v->jB E N R ops an l (s.put o.dst v) k=some r->∃ s' z N',seqV E ops (((i,o)::l).take (m+1) |>.map Prod.snd) s=some s'/\Wk s' z/\jB E N' R ops an (((i,o)::l).drop (m+1)) z k=some r:=by grind [seqV]
    cases hg:o.guard with
    | some jw=>
     obtain⟨j,want⟩:=jw;rw[hg] at h;simp only at h;split at h<;>first|(cases h;done)|skip
     rename_i g bj;split at h<;>first|(cases h;done)|skip
     rename_i C;by_cases aI:s.tm g=.gone
     ·simp_all [iC,val,zba]
     rw[gP aI] at h;obtain⟨c,h1,h2⟩:=ab h;replace h2:=sY (A:=λs=>tZ E s o λs'=>jB E N R ops an l s' k) (B:=λs=>jB E N R ops an l (s.put o.dst .gone) k) h1 h2;split at h2
     ·rename_i hc;rw[pR E s ho] at h2;obtain⟨v,h3,P⟩:=iH h2
      simp_all [val,zba,gP]
     ·simp_all [val,zba,gP]
    | none=>
     rw[hg] at h;simp only at h;split at h
     ·
      rename_i S;simp only[tu,zaa] at S;obtain⟨_,f⟩:=S;obtain⟨F,e2⟩:=jM o.dst l;generalize dD o.dst l=sp at *;obtain⟨a,rest⟩:=sp;simp only at h F e2 f;split at h<;>first|(cases h;done)|skip
      rename_i _ _ jj w t d hd;simp only[hd] at f;simp only[zaa,zfa,zTa,zCa] at f;obtain⟨⟨⟨⟨⟨c1,c2⟩,c3⟩,cI⟩,c4⟩,c5⟩:=f;have a3:=e2 _ _ rfl;obtain⟨pc,px,py,a2⟩:=s8 a3;have bi:a.length<m:=by
       rcases zxa a.length m with h0|h0
       ·exact h0
       ·exfalso;rcases n with n|n
        ·have:(jj,w)∈l.drop m:=by
          grind
         grind
        ·have Y:l.drop m=a.drop m++(jj,w)::t:=by rw[F,List.drop_append_of_le_length h0]
         cases hsd:a.drop m with
         | nil=> rw[hsd] at Y;have:=n _ _ Y;have U:w.op=.pick pc px py:=a2;simp[MA,mW,gB,U] at this
         | cons p q=>
          rw[hsd] at Y;have h1:=n _ _ Y;have h2:=c4 p (zbc (i:=m) (by rw[hsd];simp))
          simp[MA,h2.1.1,h2.2] at h1
      unfold Pr at h;split at h<;>first|(cases h;done)|skip
      rename_i C;rw[pR E s ho] at h;obtain⟨v,h3,P⟩:=iH h;rw[hd] at P;obtain⟨c,h5,h6⟩:=ab P;rw[ug c1] at h5;have hv:=jP h5;subst hv;obtain⟨x,D,h8⟩:=ab h6;have u:∀ b,b=c->(s.put (some d) (.d .bool (.bool c))).put (some d) (.d .bool (.bool b))=s.put (some d) (.d .bool (.bool c)):=λb hb=>vL (by rw[ug c1,hb])
      have J:∃ X:St->Option Bool,(∀ s2,X s2=qv E s2 w AV.truth)/\jB E N Bool ops .leaf a (s.put (some d) (.d .bool (.bool c))) X=some x:=by
       cases c
       ·simp only[zDa,if_false] at D;rw[u false rfl] at D;exact⟨_,λ_=>rfl,D⟩
       ·simp only[if_true] at D;rw[u true rfl] at D;exact⟨_,λ_=>rfl,D⟩
      obtain⟨X,a0,D⟩:=J;obtain⟨s2,a7,N2,Z,ad,M⟩:=ih Bool a _ X x a.length .leaf (zia _) (λp hp=>by rw[zOb] at hp;exact⟨mh (c4 p hp).1.1,(c4 p hp).2⟩) (.inl λp hp=>by simp at hp) D
      rw[zxd] at M;rw[zOb] at Z;have O:X a7=some x:=by cases N2<;>simpa [jB] using M
      rw[a0] at O;obtain⟨v2,ai,aj⟩:=iH O;have V:=jP aj;obtain⟨v3,ak,al⟩:=ad.qv ai;have a5:v3=.d .bool (.bool x):=by
       rcases al with e|e
       ·rw[<-e];exact V
       ·rw[V] at e;cases e
      subst a5;have a6:Wk (s2.put w.dst (.d .bool (.bool x))) ((killD (s.put (some d) (.d .bool (.bool c))) (a.map Prod.snd)).put w.dst (.d .bool (.bool x))):=(lr _ Z).put w.dst (.inl rfl);have hlen:l.length=a.length+1+t.length:=by rw[F];simp;omega
      obtain⟨s4,a9,N4,ax,h18,h19⟩:=ih R t _ k r (m-a.length-1) an j1 (λp hp=>a4 p (by
       rw[F,List.take_append,List.mem_append];right;rw[show m-a.length=(m-a.length-1)+1 by omega,zdc]
       exact zoa _ hp)) (by
       have e4:l.drop m=t.drop (m-a.length-1):=by conv=>lhs;rw[F,List.drop_append,zZc j1,ztc,show m-a.length=(m-a.length-1)+1 by omega,zfd]
       rwa [e4] at n) h8
      obtain⟨s5,aB,h21⟩:=Wk.seqV _ a6 ax;refine⟨s5,a9,N4,?_,h21.trans h18,?_⟩
      ·have H:l.take m=a++(jj,w)::t.take (m-a.length-1):=by
        conv=>lhs;rw[F,List.take_append,zfb j1,show m-a.length=(m-a.length-1)+1 by omega,zdc]
       have W:val E ops s o=some (.d .bool (.bool c)):=by unfold val;rw[zka C,hg];exact h3
       have T:¬ qd s2 w=true:=by
        have:s2.lkS=s.lkS:=by
         have w1:=(lr _ Z).lkS;have w2:∀ (l:List Oper) (s:St),(killD s l).lkS=s.lkS:=by
          intro l
          induction l with
          | nil=>intro s;rfl
          | cons o l ih=>intro s;rw[killD,ih];exact(aci s o.dst .undef).2.2.2.2.1
         rw[<-w1,w2];exact(aci s (some d) _).2.2.2.2.1
        simp only[qd,this];have:=c5;simp only[qd] at this;rw[this];simp
       have L:val E ops s2 w=some (.d .bool (.bool x)):=by
        unfold val;rw[zka T];have:w.guard=none:=by simpa using c2
        rw[this];exact ak
       simp only[zdc,zab,seqV,W,zba,H,zKb,np,hd,Z,L];exact aB
      ·have G:l.drop m=t.drop (m-a.length-1):=by
        conv=>lhs;rw[F,List.drop_append,zZc j1,ztc,show m-a.length=(m-a.length-1)+1 by omega,zfd]
       simp only[zfd,G];exact h19
     ·split at h<;>first|(cases h;done)|skip
      rename_i C;rw[pR E s ho] at h;obtain⟨v,h3,P⟩:=iH h;exact step (by unfold val;rw[zka C,hg];exact h3) P
end Sy
end
end Go.Proofs.YtphlmegkommlnaaGreatDoor
