/- Part 3 of the proof that For every valid body with few parts -/
import Derived.Test.YtpahompifldeeaaGreatQuads02
import Derived.IntWalk
set_option linter.unusedVariables false
set_option linter.unusedSimpArgs false
set_option linter.unnecessarySimpa false
set_option linter.defProp false
set_option maxRecDepth 20000
namespace Go.Proofs.YtpahompifldeeaaGreat
noncomputable section
namespace Sy
open Go
section
variable{P:Program}{E:Env}{w0:Root}{S:Nat->Nat->Prop}{γ:Nat->Option Nat}{β:Nat->Option (Nat×Nat)}{s:St}{a:Act}{w:World}
def FI(hE:EnvOk P E)(h:Rp w0 S γ β s a w){dst T ty pos after guard}(hf:Fr E s γ β ⟨dst,.alloc T,ty,pos,after,guard⟩)(hT:∀ t,E.L T=some t->au t=true):jg P E w0 S γ β s a w ⟨dst,.alloc T,ty,pos,after,guard⟩:=by
 intro R K r hq;simp only[qv] at hq;replace hq:=bind_some_inv hq;obtain⟨t,ht,hq⟩:=hq;replace hq:=bind_some_inv hq;obtain⟨d,hd,hq⟩:=hq;obtain⟨hd4,hγ,hβ,hob⟩:=hf rfl d hd;have hob:=hob T t rfl ht;have hn:=hT t ht;have hl:=js hE ht hn;obtain⟨z,hz,hz2,_⟩:=je hl;obtain⟨h1,le1⟩:=h.grow (os:=[.cells z.cells T]) (d:=w.drawn) (zja _) (S':=S) (λ_ _ hb=>hb) (λ_ _ hb=>.inl hb);have hw0:¬ w0.Old w.heap.size:=λho=>by have:=ho.1;have:=h.ext.sz;omega
 have hlen:z.cells.toList.length=t.size:=by
  rw[<-(cw (w:=w) (S:=S) hz2).1];exact cq _ _ (cR t hn) hn
 obtain⟨h2,le2⟩:=h1.newOb (id:=s.base+d) (b:=w.heap.size) hγ hw0 (by simp) (λid hid=>by have:=(h.γn id _ hid).2;omega) (λu f hu hf=>by have:=(h.βn u _ _ hu hf).2.1;omega) (by omega)
  (λo ho=>by
   rw[hob] at ho;cases ho;simp only[gL];exact⟨hn,ue t hn,λo ho=>by have:=h.Sb _ _ ho;omega,z.cells.toList,by rw[z8b];exact rN,zN t _ hn hz2,hlen⟩)
 refine⟨_,hq,.value (v:=.pointer (some ⟨w.heap.size,0,none⟩)) (w':=grown w [.cells z.cells T] w.drawn) (by
  rw[<-eu];simp only[execOp,Instr.alloc,newVar,newRow,zga,hz,zea,run_newObj,zma];rfl) ⟨S,_,β,h2,ii (bJ _ _ _) (λo ho=>?_),λ_ _ hb=>hb,⟨_,_,rfl⟩,λid b hb=>fh hγ hb,λid hid=>⟨cc _ _ λhh=>?_,rfl⟩⟩⟩
 ·have ho':s.ob (s.base+d)=some o:=ho;have:o=.one t (gm t):=by simp_all
  subst this;exact⟨by cases t<;>rfl,by cases t<;>rfl⟩
 ·subst hh;rcases hid with hid|hid
  ·simp_all
  ·omega
def zY{c:Cx}{e:Ty}{y:AV}{v:Value}{l:List D}{ob:Nat->Option Ob}(hn:au e=true)(h:AR c y v)(hl:y.asList ob e=some l):∃ a cap,v=.slice a l.length cap:=by
 obtain⟨_,h2⟩:=jR hn h hl;obtain⟨a,cap,b,off,hv,_⟩:=h2.elems
 simp_all
def xp{T:TypeId}{e:Ty}(hl:bH P (.sl e) T=true){A:Option Addr}{len cap lo hi:Nat}{vlo vhi:Option Value}(h1:lo<=hi)(h2:hi<=len)(h3:len<=cap)
  (hlo:(vlo=none/\lo=0)\/∃ k,vlo=some (.int k lo)) (hhi:(vhi=none/\hi=len)\/∃ k,vhi=some (.int k hi)) (w:World) :
  (Instr.sliceAt T (.slice A len cap) vlo vhi none).run P w=.ok (.slice (if cap=lo then A else A.map (·.add (lo*e.size))) (hi-lo) (cap-lo)) w:=by
 obtain⟨u,k1,k2⟩:=iM hl;have e1:(0:Int)<=(hi:Int)/\(hi:Int)<=(cap:Int):=by omega
 have e2:(0:Int)<=(lo:Int)/\(lo:Int)<=(hi:Int):=by omega
 have hb:(Instr.sliceBounds true len cap vlo vhi none).run P w=.ok (lo,hi,cap) w:=by
  rcases hlo with⟨rfl,rfl⟩|⟨k,rfl⟩<;>rcases hhi with⟨rfl,rfl⟩|⟨k',rfl⟩ <;>
   simp_all [Instr.sliceBounds,Instr.sliceBound,asIntOf,pure_bind,zga,zma]
 simp only[Instr.sliceAt,zga,run_underlying k1,zea,Instr.slice,hb,bX k2,zma]
def rm{T:TypeId}{m:Nat}{e:Ty}(hl:bH P (.arr m e) T=true){b off lo hi:Nat}{vlo vhi:Option Value}(h1:lo<=hi)(h2:hi<=m)(h3:lo<m)
  (hlo:(vlo=none/\lo=0)\/∃ k,vlo=some (.int k lo)) (hhi:(vhi=none/\hi=m)\/∃ k,vhi=some (.int k hi)) (w:World) :
  (Instr.sliceAt T (.pointer (some ⟨b,off,none⟩)) vlo vhi none).run P w=.ok (.slice (some ⟨b,off+lo*e.size,none⟩) (hi-lo) (m-lo)) w:=by
 obtain⟨u,k1,k2⟩:=ed hl;have e1:(0:Int)<=(hi:Int)/\(hi:Int)<=(m:Int):=by omega
 have e2:(0:Int)<=(lo:Int)/\(lo:Int)<=(hi:Int):=by omega
 have e3:¬ m=lo:=by omega
 have hb:(Instr.sliceBounds false m m vlo vhi none).run P w=.ok (lo,hi,m) w:=by
  rcases hlo with⟨rfl,rfl⟩|⟨k,rfl⟩<;>rcases hhi with⟨rfl,rfl⟩|⟨k',rfl⟩ <;>
   simp_all [Instr.sliceBounds,Instr.sliceBound,asIntOf,pure_bind,zga,zma]
 simp only[Instr.sliceAt,zga,run_underlying k1,zea,kM,hb,bX k2,zma,e3,if_false,cZ]
def Kc{w:World}{S:Nat->Nat->Prop}{e:Ty}{l:List D}{v:Value}{lo hi:Nat}(hn:au e=true)(hw:∀ x∈l,wt e x)(h:CR w S (.sl l) v)(h1:lo<=hi)(h2:hi<=l.length) :
  ∃ A cap,v=.slice A l.length cap/\l.length<=cap/\CR w S (.sl ((l.take hi).drop lo)) (.slice (if cap=lo then A else A.map (·.add (lo*e.size))) (hi-lo) (cap-lo)):=by
 obtain⟨A,cap,b,off,hv,k1,k2,k3⟩:=h.elems;refine⟨A,cap,hv,k2,?_⟩;have hlen:((l.take hi).drop lo).length=hi-lo:=by simp;omega
 rw[<-hlen];have e1:l=l.take lo++((l.take hi).drop lo++l.drop hi):=by
  rw[<-zOa,show l.take lo=(l.take hi).take lo by rw[List.take_take,zpb h1],zoa,zoa]
 rw[e1,bW,bW] at k3;have k4:=k3.part;rw[aL hn _ (λx hx=>hw x (zRa hx)),zbb,zpb (by omega)] at k4
 refine CR.of_elems (b:=b) (off:=off+lo*e.size) ?_ (by rw[hlen];omega) k4
 by_cases he:(l.take hi).drop lo=[]
 ·exact .inl he
 ·right;have hne:0<hi-lo:=by rw[<-hlen];exact List.length_pos_iff.2 he
  rw[if_neg (by omega)]
  rcases k1 with rfl|rfl
  ·simp at h2;omega
  ·simp only[zFb,cZ]
def FQ(hE:EnvOk P E)(h:Rp w0 S γ β s a w){dst T x lo hi mx ty pos after guard}:jg P E w0 S γ β s a w ⟨dst,.slice T x lo hi mx,ty,pos,after,guard⟩:=by
 intro R K r hq;simp only[qv] at hq;split at hq<;>first|(cases hq;done)|skip
 replace hq:=bind_some_inv hq;obtain⟨t,ht,hq⟩:=hq;have num:∀ {i:Operand} {n:Nat},((isD (s.opA i)).bind λa=>a.2.natOf)=some n->∃ k,a.eval i=.int k n:=by
  intro i n hh;obtain⟨p,h1,h2⟩:=bind_some_inv hh;obtain⟨kk,h3⟩:=vu h2;have h4:=aV h i;rw[dZ h1,h3] at h4;exact⟨kk,(fe h4).1⟩
 cases t<;>(try simp only at hq)<;>first|(cases hq;done)|skip
 case arr m e=>
  rcases hE.lay T _ ht with⟨ts',jf⟩|hl
  ·cases jf
  have hn:=aO _ _ hl;simp only[au] at hn;have hx:=aV h x;generalize s.opA x=y at *;cases y<;>(try simp only at hq)<;>first|(cases hq;done)|skip
  rename_i t' id p;split at hq<;>first|(cases hq;done)|skip
  rename_i hb;have:=Ty.eq_of_beq _ _ hb;subst this;replace hq:=bind_some_inv hq;obtain⟨lo',hlo,hq⟩:=hq;replace hq:=bind_some_inv hq;obtain⟨hi',hhi,hq⟩:=hq;split at hq<;>first|(cases hq;done)|skip
  rename_i hbd;obtain⟨b,off,hv,hγ,hob⟩:=pg hx;have hlo2:((lo.map a.eval)=none/\lo'=0)\/∃ k,(lo.map a.eval)=some (.int k lo'):=by
   all_goals grind
  have hhi2:((hi.map a.eval)=none/\hi'=m)\/∃ k,(hi.map a.eval)=some (.int k hi'):=by
   all_goals grind
  have hrun:=rm hl (b:=b) (off:=off) hbd.1 hbd.2.1 hbd.2.2 hlo2 hhi2 w;refine⟨_,hq,.value (v:=.slice (some ⟨b,off+lo'*e.size,none⟩) (hi'-lo') (m-lo')) (w':=w) (by simp only[execOp,Option.map_none,hv,zga,hrun,zea,zma]) (Qp.same h ?_ _)⟩
  simp only[AR,AC,Value.cells];grind
 rename_i e;rcases hE.lay T _ ht with⟨ts',jf⟩|hl
 ·cases jf
 have hn:=aO _ _ hl;simp only[au] at hn;replace hq:=bind_some_inv hq;obtain⟨l,hlist,hq⟩:=hq;replace hq:=bind_some_inv hq;obtain⟨lo',hlo,hq⟩:=hq;replace hq:=bind_some_inv hq;obtain⟨hi',hhi,hq⟩:=hq;replace hq:=bind_some_inv hq;obtain⟨l',hl',hq⟩:=hq;simp only[D.cut] at hl';split at hl'<;>first|(cases hl';done)|skip
 rename_i hb;simp only[zda] at hl';subst hl';obtain⟨k1,k2⟩:=jR hn (aV h x) hlist;obtain⟨A,cap,hv,hcap,k3⟩:=Kc hn k1 k2 hb.1 hb.2;have hlo2:((lo.map a.eval)=none/\lo'=0)\/∃ k,(lo.map a.eval)=some (.int k lo'):=by
  all_goals grind
 have hhi2:((hi.map a.eval)=none/\hi'=l.length)\/∃ k,(hi.map a.eval)=some (.int k hi'):=by
  all_goals grind
 have hrun:=xp hl (A:=A) (len:=l.length) (cap:=cap) hb.1 hb.2 hcap hlo2 hhi2 w;have hw:wt (.sl e) (.sl ((l.take hi').drop lo')):=by grind [wt]
 exact⟨_,hq,.value (w':=w) (by simp only[execOp,Option.map_none,hv,zga,hrun,zea,zma]) (Qp.same h (dX (by simpa [au] using hn) hw (gj.of_CR k3)) _)⟩
def I7(hE:EnvOk P E)(h:Rp w0 S γ β s a w){dst T x ty pos after guard}:jg P E w0 S γ β s a w ⟨dst,.sliceToArrayPointer T x,ty,pos,after,guard⟩:=by
 intro R K r hq;simp only[qv] at hq;replace hq:=bind_some_inv hq;obtain⟨t,ht,hq⟩:=hq;have hx:=aV h x;generalize s.opA x=y at *;cases t<;>(try simp only at hq)<;>first|(cases hq;done)|skip
 rename_i n e;have plain:(y.asList s.ob e).bind (λl=>if decide (1<=n)&&decide (n<=l.length) then K (.fptr (.arr n e) (.st (l.take n))) else none)=some r ->
   ∃ v,K v=some r/\et P ⟨dst,.sliceToArrayPointer T x,ty,pos,after,guard⟩ a w (Qp w0 S γ β s a w dst v):=λhq=>by
  replace hq:=bind_some_inv hq;obtain⟨l,hl1,hq⟩:=hq;split at hq<;>first|(cases hq;done)|skip
  rename_i hb;simp only[zaa,decide_eq_true_eq] at hb;rcases hE.lay T _ ht with⟨ts',jf⟩|hl
  ·cases jf
  obtain⟨u,hu,hlu⟩:=ed hl;have hn:=aO _ _ hlu;obtain⟨k1,k2⟩:=jR hn hx hl1;obtain⟨A,cap,b,off,hv,hA,_,hat⟩:=k2.elems;have hA':A=some ⟨b,off,none⟩:=hA.resolve_left λh0=>by subst h0;simp at hb;omega
  subst hA';have hlt:¬ l.length<n:=by omega
  refine⟨_,hq,.value (v:=.pointer (some ⟨b,off,none⟩)) (w':=w) (by simp only[execOp,hv,Instr.arrayAt,zga,run_underlying hu,zea,hlt,if_false,zma]) (Qp.same h ?_ _)⟩
  simp only[AR,AC,Value.cells];refine⟨by simp,by simp only[wt];exact⟨_,rfl,by simp;omega,λx hx=>k1 x (zRa hx)⟩,by simpa only[au] using hn,b,off,rfl,?_⟩
  have e:D.flats l=[]++(D.flats (l.take n)++D.flats (l.drop n)):=by rw[z3b,<-bW,zoa]
  rw[e] at hat;simpa [D.flat] using hat.part
 cases y<;>(try simp only at hq)<;>first|exact plain hq|skip
 rename_i sl e' id p lo n';split at hq<;>first|(cases hq;done)|skip
 rename_i hb;simp only[zaa,decide_eq_true_eq] at hb;obtain⟨⟨hb1,hb2⟩,hb3⟩:=hb;subst hb1;have:=Ty.eq_of_beq _ _ hb2;subst this;rcases hE.lay T _ ht with⟨ts',jf⟩|hl
 ·cases jf
 obtain⟨u,hu,_⟩:=ed hl;simp only[AR,AC,if_true] at hx;obtain⟨hna,hne,b,off,cap,hcs,hγ,hob⟩:=hx;have hv:=az hna hcs;have hlt:¬ n'<n:=by omega
 refine⟨_,hq,.value (v:=.pointer (some ⟨b,off,none⟩)) (w':=w) (by simp only[execOp,hv,Instr.arrayAt,zga,run_underlying hu,zea,hlt,if_false,zma]) (Qp.same h ?_ _)⟩
 grind [AR,AC,Value.cells]
theorem qh(h:Rp w0 S γ β s a w):∀ (ts:List Ty) (l:List Operand) (xs:List D),bh ts=true->AV.toDl s.ob ts (l.map s.opA)=some xs ->
  fq ts xs/\(l.map a.eval).length=xs.length/\∀ (i:Nat) (x:D) (v:Value),xs[i]?=some x->(l.map a.eval)[i]?=some v->gj w S x v
 | ts,[],xs,_,hx=>by
  all_goals grind [AV.toDl,Option.some.injEq,fq]
 | ts,y::l,xs,hn,hx=>by
  cases ts<;>simp only[z6a,AV.toDl] at hx<;>first|(cases hx;done)|skip
  rename_i t ts;obtain⟨x,h1,h2⟩:=bind_some_inv hx;obtain⟨ys,h3,h4⟩:=bind_some_inv h2;simp only[zda] at h4;subst h4;simp only[bh,zaa] at hn;obtain⟨k1,k2⟩:=ni hn.1 (aV h y) h1;obtain⟨k3,k4,k5⟩:=qh h ts l ys hn.2 h3;refine⟨by simp only[fq];exact⟨x,ys,rfl,k1,k3⟩,by simpa using k4,λi z v hz hv=>?_⟩
  cases i with
  | zero=>simp at hz hv;subst hz;subst hv;exact k2
  | succ i=>simp only[z7a,z6a] at hz hv;exact k5 i z v hz hv
theorem vB:∀ {l:List Nat} {i j x:Nat},df l=true->l[i]?=some x->l[j]?=some x->i=j
 | [],_,_,_,_,h,_=>by simp at h
 | a::l,i,j,x,h,hi,hj=>by
  simp only[df,zaa,zLa] at h;have hn:∀ k,l[k]?≠some a:=λk hk=>by
   have:l.contains a=true:=by rw[List.contains_iff_mem];exact z8a hk
   simp_all
  cases i with
  | zero=>
   all_goals grind
  | succ i=>
   cases j with
   | zero=>simp at hi hj;subst hj;exact absurd hi (hn i)
   | succ j=>simp at hi hj;rw[vB h.2 hi hj]
theorem ud:∀ {ts us:List Ty} {xs zs:List D},fq ts xs->fq us zs->fq (ts++us) (xs++zs)
 | [],us,xs,zs,h,k=>by simp_all [fq]
 | t::ts,us,xs,zs,h,k=>by
  simp only[fq] at h;obtain⟨d,l,rfl,h1,h2⟩:=h;simp only[zdb,fq];exact⟨d,l++zs,rfl,h1,ud h2 k⟩
theorem ye(h:Rp w0 S γ β s a w):∀ (ts:List Ty) (l:List AV) (zs:List D) (caps:List Value),nY s.ob ts l=some zs->mX ⟨w,S,γ,β,s.ob,s.dead⟩ l caps ->
  ∃ bs:List Nat,caps=bs.map Du/\fq ts zs/\bs.length=zs.length/\l.length=bs.length/\(∀ (i b:Nat),bs[i]?=some b->∃ id:Nat,(sj l)[i]?=some id/\γ id=some b)/\∀ (i:Nat) (x:D) (b:Nat),zs[i]?=some x->bs[i]?=some b->Kd w S x b
 | [],l,zs,caps,hz,hc=>by
  cases l with
  | nil=>
   simp only[nY,zda] at hz;subst hz;simp only[mX] at hc;subst hc;exact⟨[],rfl,by simp only[fq],rfl,rfl,λi b h=>by simp at h,λi x b h=>by simp at h⟩
  | cons x l=>simp[nY] at hz
 | t::ts,l,zs,caps,hz,hc=>by
  cases l with
  | nil=>simp[nY] at hz
  | cons x l=>
   cases x<;>first|(simp[nY] at hz;done)|skip
   rename_i u id p;cases p<;>first|(simp[nY] at hz;done)|skip
   simp only[nY] at hz;split at hz<;>first|(cases hz;done)|skip
   rename_i u' v ho;split at hz<;>first|(cases hz;done)|skip
   rename_i hb;have:=Ty.eq_of_beq _ _ hb;subst this;obtain⟨z,h1,hz⟩:=bind_some_inv hz;obtain⟨zs',h2,hz⟩:=bind_some_inv hz;cases hz;simp only[mX] at hc;obtain⟨v',c2,rfl,k1,k2⟩:=hc;obtain⟨bs,rfl,q1,q2,q3,q4,q5⟩:=ye h ts l zs' c2 h2 k2;simp only[AC] at k1;obtain⟨b,off,e1,e2,e3⟩:=k1;obtain⟨_,e4⟩:=e3 _ ho;have e5:off=0:=e4;subst e5;have hO:=h.obs id _ b ho e2;simp only[gL] at hO;obtain⟨_,_,o1,cs,o2,o3,_⟩:=hO;obtain⟨t1,t2,_⟩:=qg _ _ _ _ h1 o3;refine⟨b::bs,by simp only[List.cons.injEq,and_true] at e1;rw[e1];rfl,by simp only[fq];exact⟨z,zs',rfl,t1,q1⟩,by simp[q2],by simp[q3],λi b' hi=>?_,λi x b' hx hi=>?_⟩
   ·cases i with
    | zero=>simp at hi;subst hi;exact⟨id,rfl,e2⟩
    | succ i=>simp only[z7a] at hi;obtain⟨id',j1,j2⟩:=q4 i b' hi;exact⟨id',by simpa [sj] using j1,j2⟩
   ·cases i with
    | zero=>simp at hx hi;subst hx;subst hi;exact⟨o1,cs,o2,t2⟩
    | succ i=>simp only[z7a] at hx hi;exact q5 i x b' hx hi
def uK (h : Rp w0 S γ β s a w) {o : Oper} {f : FuncId} {rty : Ty} {y : D} (n2 : au rty = true \/ ∃ ts, rty = .tup ts /\ bh ts = true) {fn : Func} (f1 : P.funcs[f]? = some fn) (f2 : (fn.name == "runtime.NumGoroutine") = false) (f3 : fn.body.isSome = true)
  (vs:List Value) (hx:(execOp a.eval o).run P w=.ok (.enter f vs.toArray) w)
  (hc:Calls P f vs.toArray w λe w'=>∃ v,e=.returned v/\(∃ os d,w.drawn<=d/\w'=grown w os d)/\wt rty y/\DR w' (λb o=>S b o\/(w.heap.size<=b/\b<w'.heap.size)) y v) :
  et P o a w (Qp w0 S γ β s a w o.dst (.d rty y)):=by
 refine .enter (f:=f) (args:=vs.toArray) (w':=w) hx (hc.mono λe w' ⟨v,he,⟨os,d,hdr0,hw'⟩,hwt,hdr⟩=>⟨v,he,?_⟩);subst hw';obtain⟨h1,le1⟩:=h.grow (os:=os) (d:=d) hdr0 (S':=λb o=>S b o\/(w.heap.size<=b/\b<(grown w os d).heap.size)) (λ_ _ hb=>.inl hb) (λ_ _ hb=>hb);refine⟨_,γ,β,h1,?_,λ_ _ hb=>.inl hb,⟨os,d,rfl⟩,λ_ _ hb=>hb,λ_ _=>⟨rfl,rfl⟩⟩;simp only[AR];rcases n2 with n2|⟨ts,rfl,n2⟩
 ·refine .inl ⟨n2,hwt,?_⟩;cases rty<;>simp only[wt] at hwt<;>first
   | (obtain⟨m,rfl⟩:=hwt;exact hdr)
   | (obtain⟨m,rfl,_⟩:=hwt;exact hdr)
   | (exact hwt.elim)
   | (simp[au] at n2)
 ·simp_all
def I8(hE:EnvOk P E)(h:Rp w0 S γ β s a w){dst c ty pos after guard}:jg P E w0 S γ β s a w ⟨dst,.call c,ty,pos,after,guard⟩:=by
 intro R K r hq;obtain⟨callee,args,argTypes⟩:=c;simp only[qv] at hq;split at hq<;>first|(cases hq;done)|skip
 case h_1=>
  replace hq:=bind_some_inv hq;obtain⟨T,hT,hq⟩:=hq;replace hq:=bind_some_inv hq;obtain⟨t,ht,hq⟩:=hq;replace hq:=bind_some_inv hq;obtain⟨x,hx,hq⟩:=hq;have hx':(args.map a.eval)[0]?=some (a.eval x):=by simp[hx]
  have hex:execOp a.eval ⟨dst,.call ⟨.builtin .len,args,argTypes⟩,ty,pos,after,guard⟩=(Builtin.len_ argTypes ty (args.map a.eval) >>= λv=>pure (.value v)):=rfl;cases t<;>(try simp only at hq)<;>first|(cases hq;done)|skip
  case sl e=>
   rcases hE.lay T _ ht with⟨ts',jf⟩|hl
   ·cases jf
   have hn:=aO _ _ hl;simp only[au] at hn;obtain⟨u,k1,_⟩:=iM hl;have run:∀ {A:Option Addr} {n cap:Nat},a.eval x=.slice A n cap->(execOp a.eval ⟨dst,.call ⟨.builtin .len,args,argTypes⟩,ty,pos,after,guard⟩).run P w=.ok (.value (.int .i64 n)) w:=by
    simp_all [Builtin.len_,run_underlying,k1,goInt]
   by_cases hm:∃ t' id,s.opA x=.mem t' id
   ·obtain⟨t',id,hm⟩:=hm;have hx2:=aV h x;rw[hm] at hq hx2;simp only at hq;split at hq<;>first|(cases hq;done)|skip
    split at hq<;>first|(cases hq;done)|skip
    rename_i u' l hob;obtain⟨_,b,hγ,hob2⟩:=D4 hx2;obtain⟨l',e1,hv⟩:=hob2 _ hob;cases e1;exact⟨_,hq,.value (run hv) (Qp.same h (cH _ _) _)⟩
   ·have hq':((s.opA x).asList s.ob e).bind (λl=>K (.d (.int .i64) (.int .i64 l.length)))=some r:=by
     simp_all
    obtain⟨l,h1,hq⟩:=bind_some_inv hq';obtain⟨A,cap,hv⟩:=zY hn (aV h x) h1;exact⟨_,hq,.value (run hv) (Qp.same h (cH _ _) _)⟩
  case arr n e=>
   rcases hE.lay T _ ht with⟨ts',jf⟩|hl
   ·cases jf
   obtain⟨u,k1,_⟩:=ed hl;exact⟨_,hq,.value (v:=.int .i64 n) (w':=w) (by rw[hex];simp[Builtin.len_,hT,hx',run_underlying k1,goInt]) (Qp.same h (cH _ _) _)⟩
  case str=>
   rcases hE.lay T _ ht with⟨ts',jf⟩|hl
   ·cases jf
   replace hq:=bind_some_inv hq;obtain⟨p,hp,hq⟩:=hq;split at hq<;>first|(cases hq;done)|skip
   rename_i hb;replace hq:=bind_some_inv hq;obtain⟨z,hz,hq⟩:=hq;have hx2:=aV h x;rw[dZ hp] at hx2;obtain⟨t',x'⟩:=p;have e:=Ty.eq_of_beq _ _ hb;simp only at e;subst e;obtain⟨k1,k2⟩:=xN hx2 rfl;simp only[wt] at k1;obtain⟨sb,rfl⟩:=k1;simp only[D.slen,zda] at hz;subst hz;have hsv:a.eval x=.string sb:=by
    obtain⟨c1,c2⟩:=k2;obtain⟨c,e,h⟩:=cS.single' c2;have:=az c1 e;rw[this];cases h;rfl
   have hu:P.underlying T=some .string:=by
    simp only[bH,zaa] at hl;all_goals grind
   exact⟨_,hq,.value (v:=.int .i64 sb.size) (w':=w) (by rw[hex];simp[Builtin.len_,hT,hx',run_underlying hu,hsv,goInt]) (Qp.same h (cH _ _) _)⟩
 case h_2=>
  split at hq<;>first|(cases hq;done)|skip
  rename_i x y he;have he':(args.map a.eval).toList=[a.eval x,a.eval y]:=by simp[he]
  replace hq:=bind_some_inv hq;obtain⟨p,hp,hq⟩:=hq;replace hq:=bind_some_inv hq;obtain⟨q,hqq,hq⟩:=hq;split at hq<;>first|(cases hq;done)|skip
  replace hq:=bind_some_inv hq;obtain⟨z,hz,hq⟩:=hq;have h1:=aV h x;have h2:=aV h y;rw[dZ hp] at h1;rw[dZ hqq] at h2;cases hp2:p.2<;>rw[hp2] at hz h1<;>cases hq2:q.2<;>rw[hq2] at hz h2<;>simp only[D.min2] at hz<;>first|(cases hz;done)|skip
  rename_i k n k' m;simp only[zda] at hz;subst hz;obtain⟨v1,t1⟩:=fe h1;obtain⟨v2,_⟩:=fe h2;have hex:execOp a.eval ⟨dst,.call ⟨.builtin .min,args,argTypes⟩,ty,pos,after,guard⟩=(Builtin.min_ argTypes ty (args.map a.eval) >>= λv=>pure (.value v)):=rfl;refine⟨_,hq,.value (v:=.int k (if m<n then m else n)) (w':=w) ?_ (Qp.same h (by rw[t1];exact cH _ _) _)⟩
  simp_all [Builtin.min_,v1,v2,Builtin.min2]
 case h_3=>
  split at hq<;>first|(cases hq;done)|skip
  rename_i x y he;have he':(args.map a.eval).toList=[a.eval x,a.eval y]:=by simp[he]
  replace hq:=bind_some_inv hq;obtain⟨p,hp,hq⟩:=hq;replace hq:=bind_some_inv hq;obtain⟨q,hqq,hq⟩:=hq;split at hq<;>first|(cases hq;done)|skip
  replace hq:=bind_some_inv hq;obtain⟨z,hz,hq⟩:=hq;have h1:=aV h x;have h2:=aV h y;rw[dZ hp] at h1;rw[dZ hqq] at h2;cases hp2:p.2<;>rw[hp2] at hz h1<;>cases hq2:q.2<;>rw[hq2] at hz h2<;>simp only[D.max2] at hz<;>first|(cases hz;done)|skip
  rename_i k n k' m;simp only[zda] at hz;subst hz;obtain⟨v1,t1⟩:=fe h1;obtain⟨v2,_⟩:=fe h2;have hex:execOp a.eval ⟨dst,.call ⟨.builtin .max,args,argTypes⟩,ty,pos,after,guard⟩=(Builtin.max_ argTypes ty (args.map a.eval) >>= λv=>pure (.value v)):=rfl;refine⟨_,hq,.value (v:=.int k (if m>n then m else n)) (w':=w) ?_ (Qp.same h (by rw[t1];exact cH _ _) _)⟩
  simp_all [Builtin.max_,v1,v2,Builtin.max2]
 case h_4 f=>
  replace hq:=bind_some_inv hq;obtain⟨g,hg,hq⟩:=hq;cases hfr:Nat.beq (E.free f) 0 with
  | false=>rw[hfr] at hq;cases hq
  | true=>
  rw[hfr] at hq;replace hq:=bind_some_inv hq;obtain⟨xs,hxs,hq⟩:=hq;replace hq:=bind_some_inv hq;obtain⟨y,hy,hq⟩:=hq;obtain⟨ptys,rty⟩:=g;obtain⟨n1,n2,fn,f1,f2,f3⟩:=hE.sig f ptys rty hg;obtain⟨k1,k2,k3⟩:=qh h ptys args.toList xs n1 hxs;have hc:=hE.call f ptys rty xs y hg hy k1;rw[zDc hfr] at hc;exact⟨_,hq,uK h n2 f1 f2 f3 (args.toList.map a.eval) (by
   have hm:args.map a.eval=(args.toList.map a.eval).toArray:=z7b (by simp)
   have f2' : ¬ fn.name = "runtime.NumGoroutine" := by simpa using f2
   have hb':¬ fn.body=none:=by grind
   simp[execOp,resolve,Act.eval,Deferred.ofValue,invoke,callFunc,f1,f2',hb',hm]) (hc w S (args.toList.map a.eval) h.Sb k1 k2 k3)⟩
 case h_5 t=>
  split at hq<;>first|(cases hq;done)|skip
  rename_i f l ht;replace hq:=bind_some_inv hq;obtain⟨g,hg,hq⟩:=hq;cases hfr:(Nat.beq (E.free f) l.length&&df (sj l)) with
  | false=>rw[hfr] at hq;cases hq
  | true=>
  rw[hfr] at hq;simp only[zaa] at hfr;obtain⟨hfr,hnd⟩:=hfr;have hfr:=zDc hfr;replace hq:=bind_some_inv hq;obtain⟨xs,hxs,hq⟩:=hq;replace hq:=bind_some_inv hq;obtain⟨zs,hzs,hq⟩:=hq;replace hq:=bind_some_inv hq;obtain⟨y,hy,hq⟩:=hq;obtain⟨ptys,rty⟩:=g;obtain⟨n1,n2,fn,f1,f2,f3⟩:=hE.sig f ptys rty hg;obtain⟨k1,k2,k3⟩:=qh h _ args.toList xs (gR _ n1) hxs;have hA:=aV h (.tmp t);have hA':AR ⟨w,S,γ,β,s.ob,s.dead⟩ (.clo f l) (a.eval (.tmp t)):=by rw[<-ht];exact hA
  simp only[AR,AC] at hA';obtain⟨na,caps,hcs,hcap⟩:=hA';have hv:=az na hcs;obtain⟨bs,rfl,q1,q2,q3,q4,q5⟩:=ye h _ l zs caps hzs hcap;have hwt:fq ptys (xs++zs):=by
   have:=ud k1 q1
   rwa [zoa] at this
  have hc:=hE.call f ptys rty (xs++zs) y hg hy hwt;have hx:(execOp a.eval ⟨dst,.call ⟨.value (.tmp t),args,argTypes⟩,ty,pos,after,guard⟩).run P w=.ok (.enter f (args.toList.map a.eval++bs.map Du).toArray) w:=by
   have hm:args.map a.eval=(args.toList.map a.eval).toArray:=z7b (by simp)
   have f2' : ¬ fn.name = "runtime.NumGoroutine" := by simpa using f2
   have hb':¬ fn.body=none:=by grind
   simp only[execOp,resolve,hv];simp[Deferred.ofValue,invoke,callFunc,f1,f2',hb',hm]
  refine⟨_,hq,uK h n2 f1 f2 f3 (args.toList.map a.eval++bs.map Du) hx ?_⟩;rw[hfr] at hc;cases l with
  | nil=>
   have hb0:bs=[]:=zuc.1 (by simpa using q3.symm)
   have hz0:zs=[]:=zuc.1 (by rw[<-q2,hb0];rfl)
   subst hb0;subst hz0;simp only[z4b,List.map_nil] at hc ⊢;exact hc w S (args.toList.map a.eval) h.Sb (by simpa using hwt) k2 k3
  | cons x l=>
   refine hc w S (args.toList.map a.eval) bs h.Sb hwt q3.symm (by rw[k2,zva,<-q2,<-q3];rfl) (λi j b hi hj=>?_) (λi x v hx hv=>?_) λi x b hx hb=>?_
   ·obtain⟨id,e1,e2⟩:=q4 i b hi;obtain⟨id',e3,e4⟩:=q4 j b hj;have:=h.γi id id' b e2 e4;subst this;exact vB hnd e1 e3
   ·grind
   ·grind
def Nv(hE:EnvOk P E)(h:Rp w0 S γ β s a w){o:Oper}(hf:Fr E s γ β o)(hT:∀ T t,o.op=.alloc T->E.L T=some t->au t=true):jg P E w0 S γ β s a w o:=by
 obtain⟨dst,op,ty,pos,after,guard⟩:=o;cases op
 case move x=>exact Ja h
 case assign x=>exact Dx h
 case pick c x y=>exact Jb h
 case alloc T=>exact FI hE h hf (λt=>hT T t rfl)
 case load T x=>exact I9 hE h
 case lookup T x i c=>exact Dy hE h
 case fieldAddr T x f=>exact xk hE h
 case indexAddr T x i=>exact xl hE h
 case field T x f=>exact FO hE h
 case index T x f=>exact FP hE h
 case binOp op T x y T'=>exact FJ hE h
 case unOp op T x=>exact Jc h
 case convert U T x=>exact AO hE h
 case build T ps=>exact FK hE h
 case buildSlice T n ps=>exact uB hE h hf
 case extract x i=>exact AP h
 case nilCheck x=>exact zk h
 case slice T x lo hi mx=>exact FQ hE h
 case sliceToArrayPointer T x=>exact I7 hE h
 case makeFunc fn x y=>exact zj h
 case call c=>exact I8 hE h
 all_goals (intro R K r hq;simp only[qv] at hq;cases hq)
end
end Sy
end
noncomputable section
namespace Sy
open Go
def nv{w0:Root}{w w':World}(h:ln w0 w)(ht:w'.tape=w.tape)(ho:w'.os=w.os)(hu:w'.output=w.output)(hs:w.heap.size<=w'.heap.size)(hd:w.drawn<=w'.drawn)(hh:∀ b,w0.Old b->w'.heap[b]?=w.heap[b]?):ln w0 w':=
 ⟨ht.trans h.tape,ho.trans h.os,hu.trans h.output,zAa h.sz hs,zAa h.dr hd,λb hb=>(hh b hb).trans (h.old b hb)⟩
def cP{w:World}{b b' off:Nat}{cs:Array Value}(h:b'≠b):(putAt w b off cs).heap[b']?=w.heap[b']?:=by
 simp only[putAt,zad];grind
def iu{w:World}{b off:Nat}{c cs:Array Value}(h:bN w b=some c):bN (putAt w b off cs) b=some (dW c off cs):=by
 unfold bN at h ⊢;split at h<;>first|(cases h;done)|skip
 rename_i hb;simp only[zda] at h;subst h;simp only[putAt,zad,if_true,hb,zFb]
def xn{w:World}{b b' off:Nat}{cs:Array Value}(h:b'≠b):bN (putAt w b off cs) b'=bN w b':=by
 simp only[bN,cP h]
def cD{w:World}{b b' off o:Nat}{cs:Array Value}(h:b'≠b):(putAt w b off cs).cell? ⟨b',o,none⟩=w.cell? ⟨b',o,none⟩:=by
 simp only[World.cell?,cP h]
def mH{w:World}{b b' off:Nat}{c cs:Array Value}(h:bN w b=some c)(hs:off+cs.size<=c.size):mU (putAt w b off cs) b'=mU w b':=by
 by_cases e:b'=b
 ·simp_all [mU,iu,zFb,splice_size]
 ·simp only[mU,xn e]
def cY.but{w w':World}(b0:Nat)(h:∀ b,b≠b0->b<w.heap.size->w'.heap[b]?=w.heap[b]?)(h0:∀ o,w.heap[b0]?=some o->o≠Obj.deferred (some [])/\∀ r,o≠Obj.loop r):cY w w':=by
 intro b;all_goals grind
def cY.old{w w':World}(h:∀ b,b<w.heap.size->w'.heap[b]?=w.heap[b]?):cY w w':=
 λb=>⟨λhb=>(h b (zfa.1 hb).1).trans hb,λ⟨r,hb⟩=>⟨r,(h b (zfa.1 hb).1).trans hb⟩⟩
def DF{w:World}{b:Nat}{c:Array Value}(h:bN w b=some c):∀ o,w.heap[b]?=some o->o≠Obj.deferred (some [])/\∀ r,o≠Obj.loop r:=λo ho=>by
 constructor
 ·rintro rfl;simp[bN,ho] at h
 ·rintro r rfl;simp[bN,ho] at h
def C8{w:World}{b n:Nat}{es:Array MapEntry}(h:w.heap[b]?=some (.map es n)):∀ o,w.heap[b]?=some o->o≠Obj.deferred (some [])/\∀ r,o≠Obj.loop r:=λo ho=>by
 simp_all
theorem cY.putAt{w:World}{b off:Nat}{c cs:Array Value}(h:bN w b=some c):cY w (putAt w b off cs):=cY.but b (λb' hb _=>cP hb) (DF h)
theorem cY.grown{w:World}{os:List Obj}{d:Nat}:cY w (grown w os d):=cY.old λb hb=>cO w os d hb
theorem Fm.refl(s:St)(S:Nat->Nat->Prop)(γ:Nat->Option Nat)(a:Act)(w:World):Fm s S γ a w S γ a w:=
 ⟨λ_ _ h=>h,λ_ _ _=>rfl,λ_ _=>rfl,λ_ _ _ h=>⟨h,jh.refl _ _⟩,zja _,λ_ _ h=>h,ku.same rfl (cY.refl _)⟩
theorem Fm.trans{s s1:St}{S S1 S2:Nat->Nat->Prop}{γ γ1 γ2:Nat->Option Nat}{a a1 a2:Act}{w w1 w2:World}(h:Fm s S γ a w S1 γ1 a1 w1)(k:Fm s1 S1 γ1 a1 w1 S2 γ2 a2 w2)(e1:s1.lkS=s.lkS)(e2:s1.lkO=s.lkO):Fm s S γ a w S2 γ2 a2 w2:=
 ⟨λb o hb=>k.sub b o (h.sub b o hb),λb o hb=>(k.cell b o (h.sub b o hb)).trans (h.cell b o hb),λt ht=>(k.slots t (e1 ▸ ht)).trans (h.slots t ht),
  λid hid b hb=>by
   obtain⟨h1,h2⟩:=h.objs id hid b hb;obtain⟨k1,k2⟩:=k.objs id (e2 ▸ hid) b h1;exact⟨k1,h2.trans k2⟩,zAa h.sz k.sz,λid b hb=>k.gam id b (h.gam id b hb),h.dfs.trans (e2 ▸ k.dfs) h.sz k.sz⟩
def bQ{a:Act}{dst:Option Nat}{v:Value}{t:Nat}(h:dst≠some t):(a.put dst v).tmps.getD t undef=a.tmps.getD t undef:=by
 cases dst with
 | none=>rfl
 | some d=>
  have hd:d≠t:=λe=>h (by rw[e])
  simp only[Act.put];all_goals simp_all
def Gw(P:Program)(w0:Root)(S:Nat->Nat->Prop)(γ:Nat->Option Nat)(β:Nat->Option (Nat×Nat))(s:St)(a:Act)(w:World)(o:Oper)(s':St):Prop:=
 s'.lkS=s.lkS/\s'.lkO=s.lkO/\s'.fresh=s.fresh/\s'.nt=s.nt/\(∀ id,γ id=none->o.dst≠some (id-s.base)\/id<s.base->s'.ob id=s.ob id) ∧
 et P o a w λval w'=>∃ S' γ' β',Rp w0 S' γ' β' s' (a.put o.dst val) w'/\Fm s S γ a w S' γ' (a.put o.dst val) w'/\(∀ id,o.dst≠some (id-s.base)\/id<s.base->γ' id=γ id/\β' id=β id)
section
variable{P:Program}{E:Env}{w0:Root}{S:Nat->Nat->Prop}{γ:Nat->Option Nat}{β:Nat->Option (Nat×Nat)}{s:St}{a:Act}{w:World}
def St.put_fields(s:St)(d:Option Nat)(v:AV):(s.put d v).ob=s.ob/\(s.put d v).fresh=s.fresh/\(s.put d v).dead=s.dead/\(s.put d v).nt=s.nt/\(s.put d v).lkS=s.lkS/\(s.put d v).lkO=s.lkO/\(s.put d v).base=s.base:=by
 cases d with
 | none=>exact⟨rfl,rfl,rfl,rfl,rfl,rfl,rfl⟩
 | some d=>simp only[St.put];split<;>exact⟨rfl,rfl,rfl,rfl,rfl,rfl,rfl⟩
def cJ{os:List Obj}{d b:Nat}(h:b<w.heap.size):(grown w os d).heap[b]?=w.heap[b]?:=cO w os d h
def uU(hE:EnvOk P E)(h:Rp w0 S γ β s a w){o:Oper}(hf:Fr E s γ β o)(hT:∀ T t,o.op=.alloc T->E.L T=some t->au t=true)(hlk:∀ t∈s.lkS,o.dst≠some t){R:Type}{K:St->Option R}{r:R}(hq:qv E s o (λv=>K (s.put o.dst v))=some r) :
  ∃ s',K s'=some r/\Gw P w0 S γ β s a w o s':=by
 obtain⟨v,h1,h2⟩:=Nv hE h hf hT R _ r hq;obtain⟨p1,p2,p3,p4,p5,p6,p7⟩:=St.put_fields s o.dst v;refine⟨_,h1,p5,p6,p2,p4,λid _ _=>by rw[p1],h2.mono λval w' ⟨S',γ',β',k1,k2,k3,⟨os,d,k4⟩,k5,k6⟩=>?_⟩
 subst k4;exact⟨S',γ',β',k1.put k2 o.dst,⟨k3,λb o hb=>dH (h.Sb b o hb),λt ht=>bQ (hlk t ht),λid hid b hb=>⟨k5 id b hb,.inl (cJ (h.γn id b hb).2)⟩,by simp,k5,ku.same bF cY.grown⟩,k6⟩
def Rp.write(h:Rp w0 S γ β s a w){id b off:Nat}{o o':Ob}{c cs:Array Value}(ho:s.ob id=some o)(hγ:γ id=some b)(hS:∀ o,¬ S b o)(hr:bN w b=some c)(hs:off+cs.size<=c.size)
  (hty:∀ p,fB o' p=fB o p/\cE o' p=cE o p) (hmany:∀ t l,o=.many t l->∃ l',o'=.many t l'/\l'.length=l.length) (hmp:∀ kt vt l,o≠.mp kt vt l)
  (hob:gL ⟨putAt w b off cs,S,γ,β,(s.setOb id (some o')).ob,s.dead⟩ b o') :
  Rp w0 S γ β (s.setOb id (some o')) a (putAt w b off cs)/\Cx.le ⟨w,S,γ,β,s.ob,s.dead⟩ ⟨putAt w b off cs,S,γ,β,(s.setOb id (some o')).ob,s.dead⟩:=by
 have hbS:∀ b' o,S b' o->b'≠b:=λb' o hb e=>hS o (e ▸ hb);have hle:Cx.le ⟨w,S,γ,β,s.ob,s.dead⟩ ⟨putAt w b off cs,S,γ,β,(s.setOb id (some o')).ob,s.dead⟩:=by
  refine⟨λb' o hb=>cD (hbS b' o hb),λ_ _ hb=>hb,λ_ _ hb=>hb,λi x hx _=>?_,λv hv=>⟨hv,λb' e he=>⟨he,λn hn=>by rw[mH hr hs];exact hn⟩⟩⟩
  simp only[St.setOb] at hx;by_cases e:i=id
  ·simp_all
  ·simp_all
 refine⟨⟨nv h.ext rfl rfl rfl (by simp) (zja _) (λb' hb'=>cP (λe=>(h.γn id b hγ).1 (e ▸ hb'))),λt ht=>(h.tms t ht).mono hle,h.nt,h.tmu,λi x b' hx hb'=>?_,λi b' hb'=>by simpa using h.γn i b' hb',h.γi,h.γf,
  λv b' e hv he=>by simpa using h.βn v b' e hv he,h.βi,h.βγ,h.βf,λb' o hb=>by simpa using h.Sb b' o hb,h.So⟩,hle⟩
 simp only[St.setOb] at hx;by_cases e:i=id
 ·subst e;simp only[if_true,zda] at hx;subst hx;rw[hγ] at hb';cases hb';exact hob
 ·rw[if_neg e] at hx;have hne:b'≠b:=λe'=>e (h.γi i id b' hb' (e' ▸ hγ));exact(h.obs i x b' hx hb').mono hle (cP hne) λ_ hh=>hh
def CQ(hE:EnvOk P E)(h:Rp w0 S γ β s a w){dst T x y ty pos after guard}(hlk:∀ t∈s.lkS,dst≠some t){R:Type}{K:St->Option R}{r:R}(hd:dst=none)
  (hq:qt E s ⟨dst,.store T x y,ty,pos,after,guard⟩ K=some r):∃ s',K s'=some r/\Gw P w0 S γ β s a w ⟨dst,.store T x y,ty,pos,after,guard⟩ s':=by
 subst hd;simp only[qt] at hq;replace hq:=bind_some_inv hq;obtain⟨t,ht,hq⟩:=hq;have hx:=aV h x;have hy:=aV h y;generalize s.opA x=ax at *;cases ax<;>(try simp only at hq)<;>first|(cases hq;done)|skip
 rename_i t' id p;split at hq<;>first|(cases hq;done)|skip
 rename_i hb;simp only[zaa,zLa] at hb;obtain⟨⟨hb1,hb2⟩,hb3⟩:=hb;have:=Ty.eq_of_beq _ _ hb1;subst this;have hlo:id ∉ s.lkO:=by
  simp_all
 obtain⟨b,off,hv,hγ,hob⟩:=pg hx;split at hq<;>first|(cases hq;done)|skip
 ·
  rename_i u v hov;obtain⟨k1,rfl⟩:=hob _ hov;have hO:=h.obs id _ b hov hγ;simp only[gL] at hO;obtain⟨o1,o2,o3,cs,o4,o5,o6⟩:=hO;simp only[fB] at k1;have hn:=dL p o1 k1;have hl:=js hE ht hn;obtain⟨y1,y2⟩:=xM hb2 hn hy;obtain⟨v',pre,mid,post,m1,rfl,m2,m3,m4,m5⟩:=Jk p o2 o1 k1 o5 y1 hb2 hq;obtain⟨y3,y4⟩:=gW _ _ _ hb2 y1;have hr:=oL hl (w:=w) (b:=b) (off:=aW u p) o4 y2 y3 y4 (by simp only[z1c,zva];omega)
  have hsz:aW u p+(a.eval y).cells.toList.toArray.size<=(pre++(mid++post)).toArray.size:=by grind
  have hle0:gL ⟨putAt w b (aW u p) (a.eval y).cells.toList.toArray,S,γ,β,(s.setOb id (some (.one u v'))).ob,s.dead⟩ b (.one u v'):=by
   have hbS:∀ b' o,S b' o->b'≠b:=λb' o hb e=>o3 o (e ▸ hb);have hle:Cx.le ⟨w,S,γ,β,s.ob,s.dead⟩ ⟨putAt w b (aW u p) (a.eval y).cells.toList.toArray,S,γ,β,(s.setOb id (some (.one u v'))).ob,s.dead⟩:=by
    refine⟨λb' o hb=>cD (hbS b' o hb),λ_ _ hb=>hb,λ_ _ hb=>hb,λi z hz _=>?_,λv hv=>⟨hv,λb' e he=>⟨he,λn hn=>by rw[mH o4 hsz];exact hn⟩⟩⟩
    simp only[St.setOb] at hz;by_cases e:i=id
    ·subst e;simp only[if_true,zda] at hz;subst hz;exact⟨_,hov,λp=>⟨rfl,rfl⟩,(λt l e=>by cases e),λ_ _ l e=>by cases e⟩
    ·simp_all
   simp only[gL];refine⟨o1,m5,o3,pre++((a.eval y).cells.toList++post),?_,AC.mono hle _ _ m4,(gW _ _ _ m5 m4).1⟩;rw[iu o4,<-m2,gT pre mid post _ m3]
  obtain⟨n1,n2⟩:=h.write (o':=.one u v') hov hγ o3 o4 hsz (λp=>⟨rfl,rfl⟩) (λt l e=>by cases e) (λ_ _ _ e=>by cases e) hle0
  refine⟨_,m1,rfl,rfl,rfl,rfl,λi hi _=>?_,.skip (w':=putAt w b (aW u p) (a.eval y).cells.toList.toArray) ?_ ⟨S,γ,β,n1,?_,λ_ _=>⟨rfl,rfl⟩⟩⟩
  ·grind [St.setOb]
  ·simp_all [execOp,zga,cE,zea,zma]
  ·exact⟨λ_ _ hb=>hb,λb' o hb=>cD (λe=>o3 o (e ▸ hb)),λ_ _=>rfl,λi hi b' hb'=>⟨hb',.inl (cP λe=>hlo ((h.γi id i b hγ (e ▸ hb')) ▸ hi))⟩,by simp,λ_ _ hb=>hb,ku.same rfl (cY.putAt o4)⟩
 ·
  rename_i u l hov;cases p with
  | nil=>simp only at hq;cases hq
  | cons i p=>
   simp only at hq;replace hq:=bind_some_inv hq;obtain⟨z,hz,hq⟩:=hq;replace hq:=bind_some_inv hq;obtain⟨y',hy',hq⟩:=hq;replace hq:=bind_some_inv hq;obtain⟨z',hz',hq⟩:=hq;obtain⟨k1,rfl⟩:=hob _ hov;have hO:=h.obs id _ b hov hγ;simp only[gL] at hO;obtain⟨o1,o2,o3,cs,o4,o5⟩:=hO;simp only[fB] at k1;have hn:=dL p o1 k1;have hl:=js hE ht hn;obtain⟨y1,y2⟩:=xM hb2 hn hy;obtain⟨y3,y4⟩:=gW _ _ _ hb2 y1;obtain⟨q1,q2,_⟩:=qg _ _ _ _ hy' y1;obtain⟨s1,A,C,B,s2,s3,s4,s5⟩:=oM p (o2 z (z8a hz)) o1 k1 hz' q1;have hi:=(zla.1 hz).1;have e0:(D.flats (l.take i)).length=i*u.size:=by
    rw[aL o1 _ (λx hx=>o2 x (zRa hx)),zbb,zpb (zrc hi)]
   rw[ce hz,s2,show D.flats (l.take i)++(A++(C++B)++D.flats (l.drop (i+1)))=(D.flats (l.take i)++A)++(C++(B++D.flats (l.drop (i+1)))) by simp[zOa]] at o5
   obtain⟨c1,c2⟩:=o5.split;obtain⟨c3,c4⟩:=c2.split;generalize hpre:cs.take (D.flats (l.take i)++A).length=pre at *;generalize hrest:cs.drop (D.flats (l.take i)++A).length=rest at *;have ecs:cs=pre++(rest.take C.length++rest.drop C.length):=by rw[<-hpre,zoa,<-hrest,zoa]
   have lpre:pre.length=i*u.size+aW u p:=by rw[<-c1.1,zva,e0,s4]
   have lmid:(rest.take C.length).length=(a.eval y).cells.toList.length:=by rw[<-c3.1,s5,y3]
   subst ecs;have hr:=oL hl (w:=w) (b:=b) (off:=i*u.size+aW u p) o4 y2 y3 y4 (by simp only[z1c,zva];omega)
   have hsz:i*u.size+aW u p+(a.eval y).cells.toList.toArray.size<=(pre++(rest.take C.length++rest.drop C.length)).toArray.size:=by simp only[z1c,zva,zIb] at *;omega
   have hnew:gL ⟨putAt w b (i*u.size+aW u p) (a.eval y).cells.toList.toArray,S,γ,β,(s.setOb id (some (.many u (l.set i z')))).ob,s.dead⟩ b (.many u (l.set i z')):=by
    have hbS:∀ b' o,S b' o->b'≠b:=λb' o hb e=>o3 o (e ▸ hb);simp only[gL];refine⟨o1,λx hx=>?_,o3,pre++((a.eval y).cells.toList++rest.drop C.length),?_,?_⟩
    ·rcases zOc hx with hx|hx
     ·exact o2 x hx
     ·rw[hx];exact s1
    ·rw[iu o4,<-lpre,gT pre _ _ _ lmid]
    ·rw[mw hz,s3,show D.flats (l.take i)++(A++(y'.flat++B)++D.flats (l.drop (i+1)))=(D.flats (l.take i)++A)++(y'.flat++(B++D.flats (l.drop (i+1)))) by simp[zOa]]
     exact(c1.append (q2.append c4)).mono (λb' o hb=>cD (hbS b' o hb)) λ_ _ hh=>hh
   obtain⟨n1,n2⟩:=h.write (o':=.many u (l.set i z')) hov hγ o3 o4 hsz (λp=>by cases p<;>exact⟨rfl,rfl⟩) (λt l' e=>by cases e;exact⟨_,rfl,by simp⟩) (λ_ _ _ e=>by cases e) hnew
   refine⟨_,hq,rfl,rfl,rfl,rfl,λj hj _=>?_,.skip (w':=putAt w b (i*u.size+aW u p) (a.eval y).cells.toList.toArray) ?_ ⟨S,γ,β,n1,?_,λ_ _=>⟨rfl,rfl⟩⟩⟩
   ·simp only[St.setOb];rw[if_neg];intro e;subst e;have hγ':γ j=some b:=hγ;rw[hγ'] at hj;cases hj
   ·simp only[execOp,hv,zga,cE,hr,zea,zma]
   ·exact⟨λ_ _ hb=>hb,λb' o hb=>cD (λe=>o3 o (e ▸ hb)),λ_ _=>rfl,λj hj b' hb'=>⟨hb',.inl (cP λe=>hlo ((h.γi id j b hγ (e ▸ hb')) ▸ hj))⟩,by simp,λ_ _ hb=>hb,ku.same rfl (cY.putAt o4)⟩
end
end Sy
end
noncomputable section
namespace Sy
open Go
section
variable{P:Program}{E:Env}{w0:Root}{S:Nat->Nat->Prop}{γ:Nat->Option Nat}{β:Nat->Option (Nat×Nat)}{s:St}{a:Act}{w:World}
def Rp.setFree(h:Rp w0 S γ β s a w){id:Nat}(hid:γ id=none)(o:Option Ob):Rp w0 S γ β (s.setOb id o) a w/\Cx.le ⟨w,S,γ,β,s.ob,s.dead⟩ ⟨w,S,γ,β,(s.setOb id o).ob,s.dead⟩:=by
 have hle:Cx.le ⟨w,S,γ,β,s.ob,s.dead⟩ ⟨w,S,γ,β,(s.setOb id o).ob,s.dead⟩:=by
  refine⟨λ_ _ _=>rfl,λ_ _ k=>k,λ_ _ k=>k,λi x hx ⟨b,hb⟩=>?_,λv hv=>⟨hv,λb e he=>⟨he,λn hn=>hn⟩⟩⟩;simp only[St.setOb] at hx;by_cases e:i=id
  ·simp_all
  ·simp_all
 refine⟨⟨h.ext,λt ht=>(h.tms t ht).mono hle,h.nt,h.tmu,λi x b hx hb=>?_,h.γn,h.γi,h.γf,h.βn,h.βi,h.βγ,h.βf,h.Sb,h.So⟩,hle⟩;simp only[St.setOb] at hx;by_cases e:i=id
 ·simp_all
 ·rw[if_neg e] at hx;exact(h.obs i x b hx hb).mono hle rfl λ_ k=>k
theorem kh(s:St)(id:Nat)(o:Option Ob):(s.setOb id o).ob id=o:=by simp[St.setOb]
def mg(s:St){id i:Nat}(o:Option Ob)(h:i≠id):(s.setOb id o).ob i=s.ob i:=by simp[St.setOb,h]
def Rp.make(h:Rp w0 S γ β s a w){id:Nat}(hid:γ id=none)(hi:id<s.base+4096){c:Array Value}{T:TypeId}{o:Ob}(d:Nat)(hdr:w.drawn<=d)
  (ho:gL ⟨grown w [.cells c T] d,S,pe γ id w.heap.size,β,(s.setOb id (some o)).ob,s.dead⟩ w.heap.size o) :
  Rp w0 S (pe γ id w.heap.size) β (s.setOb id (some o)) a (grown w [.cells c T] d)/\Cx.le ⟨w,S,γ,β,s.ob,s.dead⟩ ⟨grown w [.cells c T] d,S,pe γ id w.heap.size,β,(s.setOb id (some o)).ob,s.dead⟩:=by
 obtain⟨h1,le1⟩:=h.grow (os:=[.cells c T]) (d:=d) hdr (S':=S) (λ_ _ hb=>hb) (λ_ _ hb=>.inl hb);obtain⟨h2,le2⟩:=h1.setFree hid (some o);have hw0:¬ w0.Old w.heap.size:=λho=>by have:=ho.1;have:=h.ext.sz;omega
 obtain⟨h3,le3⟩:=h2.newOb (id:=id) (b:=w.heap.size) hid hw0 (by simp) (λi hi=>by have:=(h.γn i _ hi).2;omega) (λu f hu hf=>by have:=(h.βn u _ _ hu hf).2.1;omega) hi (λx hx=>by
  rw[kh] at hx;cases hx;exact ho)
 refine⟨h3,⟨λb o hb=>le1.cell b o hb,λ_ _ hb=>hb,λi b hb=>fh hid hb,λi x hx hb=>?_,λv hv=>⟨hv,λb e he=>⟨he,λn hn=>by
  have:=le1.β v hv;exact(this.2 b e he).2 n hn⟩⟩⟩⟩
 obtain⟨b,hb⟩:=hb;exact le2.ob i x hx ⟨b,hb⟩
def IH(hE:EnvOk P E)(h:Rp w0 S γ β s a w){dst T x ty pos after guard}(hf:Fr E s γ β ⟨dst,.box T x,ty,pos,after,guard⟩)(hlk:∀ t∈s.lkS,dst≠some t){R:Type}{K:St->Option R}{r:R}(hT:∀ t,E.L T=some t->au t=true)
  (hq:qt E s ⟨dst,.box T x,ty,pos,after,guard⟩ K=some r):∃ s',K s'=some r/\Gw P w0 S γ β s a w ⟨dst,.box T x,ty,pos,after,guard⟩ s':=by
 simp only[qt] at hq;replace hq:=bind_some_inv hq;obtain⟨t,ht,hq⟩:=hq;replace hq:=bind_some_inv hq;obtain⟨d,hd,hq⟩:=hq;split at hq<;>first|(cases hq;done)|skip
 rename_i hfit;obtain⟨hd4,hγ,hβ,_⟩:=hf rfl d hd;have hn:=hT t ht;obtain⟨k1,k2⟩:=xM hfit hn (aV h x);obtain⟨k3,_⟩:=gW _ _ _ hfit k1;have hle:Cx.le ⟨w,S,γ,β,s.ob,s.dead⟩ ⟨grown w [.cells (a.eval x).cells T] w.drawn,S,pe γ (s.base+d) w.heap.size,β,(s.setOb (s.base+d) (some (.one t (s.opA x)))).ob,s.dead⟩:=by
  refine⟨λb o hb=>dH (h.Sb b o hb),λ_ _ hb=>hb,λi b hb=>fh hγ hb,λi z hz ⟨b,hb⟩=>?_,λv hv=>⟨hv,λb e he=>⟨he,λn hn=>by rw[vI (h.βn v b e hv he).2.1];exact hn⟩⟩⟩
  by_cases e:i=s.base+d
  ·simp_all
  ·have hz':s.ob i=some z:=by rw[<-hz];exact(mg s _ e).symm
   simp_all
 obtain⟨h1,le1⟩:=h.make (id:=s.base+d) hγ (by omega) (c:=(a.eval x).cells) (T:=T) (o:=.one t (s.opA x)) w.drawn (zja _) (by
  simp only[gL];exact⟨hn,hfit,λo ho=>by have:=h.Sb _ _ ho;omega,(a.eval x).cells.toList,by rw[z8b];exact rN,AC.mono hle _ _ k1,k3⟩)
 obtain⟨p1,p2,p3,p4,p5,p6,p7⟩:=St.put_fields (s.setOb (s.base+d) (some (.one t (s.opA x)))) dst (.ptr t (s.base+d) []);refine⟨_,hq,p5,p6,p2,p4,λid hid hh=>?_,.value (v:=.pointer (some ⟨w.heap.size,0,none⟩)) (w':=grown w [.cells (a.eval x).cells T] w.drawn) ?_ ⟨S,_,β,h1.put (ii (bJ _ _ _) λo ho=>?_) dst,?_,λid hid=>⟨cc _ _ ?_,rfl⟩⟩⟩
 ·rw[p1];refine mg s _ λe=>?_;subst e;rcases hh with hh|hh
  ·simp_all
  ·omega
 ·simp_all [eu,execOp,Instr.box,newVar,newRow,zga]
 ·have ho':(s.setOb (s.base+d) (some (.one t (s.opA x)))).ob (s.base+d)=some o:=ho;rw[kh] at ho';cases ho';exact⟨by cases t<;>rfl,by cases t<;>rfl⟩
 ·exact⟨λ_ _ hb=>hb,λb o hb=>dH (h.Sb b o hb),λt ht=>bQ (hlk t ht),λid hid b hb=>⟨fh hγ hb,.inl (cJ (h.γn id b hb).2)⟩,by simp,λ_ _ hb=>fh hγ hb,ku.same bF cY.grown⟩
 ·intro e;subst e;rcases hid with hid|hid
  ·simp_all
  ·omega
def Bf{n:Nat}(h:n<=1073741824):IntKind.i64.wrap (n:Int)=(n:Int):=by
 exact IntWalk.i64_in _ (by omega)
def uo(hE:EnvOk P E)(h:Rp w0 S γ β s a w){dst T x y ty pos after guard}(hf:Fr E s γ β ⟨dst,.makeSlice T x y,ty,pos,after,guard⟩)(hlk:∀ t∈s.lkS,dst≠some t){R:Type}{K:St->Option R}{r:R}
  (hq:qt E s ⟨dst,.makeSlice T x y,ty,pos,after,guard⟩ K=some r):∃ s',K s'=some r/\Gw P w0 S γ β s a w ⟨dst,.makeSlice T x y,ty,pos,after,guard⟩ s':=by
 simp only[qt] at hq;replace hq:=bind_some_inv hq;obtain⟨t,ht,hq⟩:=hq;replace hq:=bind_some_inv hq;obtain⟨d,hd,hq⟩:=hq;split at hq<;>first|(cases hq;done)|skip
 rename_i e i j;split at hq<;>first|(cases hq;done)|skip
 rename_i hij;subst hij;replace hq:=bind_some_inv hq;obtain⟨p,hp,hq⟩:=hq;replace hq:=bind_some_inv hq;obtain⟨n,hn1,hq⟩:=hq;split at hq<;>first|(cases hq;done)|skip
 rename_i hn30;obtain⟨hd4,hγ,hβ,_⟩:=hf rfl d hd;rcases hE.lay T _ ht with⟨ts',jf⟩|hl
 ·cases jf
 have hn:=aO _ _ hl;simp only[au] at hn;obtain⟨u,h1,h2⟩:=iM hl;obtain⟨i0,z0,hi1,hi2,mQ,hi4,hi5,_⟩:=fA (gz h2);have hv:a.eval (.tmp i)=.int .i64 n\/∃ k,a.eval (.tmp i)=.int k n:=by
  obtain⟨kk,h3⟩:=vu hn1;have h4:=aV h (.tmp i);rw[show s.opA (.tmp i)=s.tm i from rfl,dZ hp,h3] at h4;exact .inr ⟨kk,(fe h4).1⟩
 obtain⟨k,hv⟩:∃ k,a.eval (.tmp i)=.int k n:=by
  rcases hv with hv|hv
  ·exact⟨_,hv⟩
  ·exact hv
 have hzs:z0.cells.size=e.size:=by
  have:=(cw (w:=w) (S:=S) hi5).1;rw[<-zIb,<-this];exact cq _ _ (cR e hn) hn
 let cells:Array Value:=(Array.range (n*e.size)).map λi=>z0.cells[i%z0.cells.size]!
 have hz:∀ w',cS w' S (D.flats (List.replicate n (aJ e))) cells.toList:=λw'=>we hi5 hzs n;obtain⟨r1,le1⟩:=h.make (id:=s.base+d) hγ (by omega) (c:=cells) (T:=u) (o:=.many e (List.replicate n (aJ e))) w.drawn (zja _) (by
  simp only[gL];exact⟨hn,λx hx=>by rw[(zjd.1 hx).2];exact cR e hn,λo ho=>by have:=h.Sb _ _ ho;omega,cells.toList,by rw[z8b];exact rN,hz _⟩)
 have hrun:(Instr.makeSlice T (.int k n) (.int k n)).run P w=.ok (.slice (some ⟨w.heap.size,0,none⟩) n n) (grown w [.cells cells u] w.drawn):=by
  have hb:((i0.bytes:Int)*(n:Int))<=2^48:=by
   have h5:i0.bytes*n<=16384*1073741824:=z2a mQ.1 hn30;have:((i0.bytes*n:Nat):Int)<=((16384*1073741824:Nat):Int):=Int.ofNat_le.2 h5;rw[zMa] at this;omega
  have hw:=Bf hn30;have c1:¬ ((n:Int)<0):=by omega
  have c2:¬ ((i0.bytes:Int)*(n:Int)>2^48):=by omega
  simp only[Instr.makeSlice,zga,run_underlying h1,zea,asInt,asIntOf,pure_bind,typeInfo,run_program,hi1,zma,hw];rw[decide_eq_false c1,decide_eq_false c2,decide_eq_false (show ¬ ((n:Int)>n) from zJc _)];simp only[Bool.or_self,zza,if_false,zga,run_askRoom,zea,bX h2,z2c];by_cases h0:n*e.size=0
  ·have e0:((Array.range (n*e.size)).map λi=>(#[]:Array Value)[i%(#[]:Array Value).size]!)=cells:=by
    show _=((Array.range (n*e.size)).map λi=>z0.cells[i%z0.cells.size]!);rw[h0];simp
   rw[if_pos h0];simp only[pure_bind,e0,newRow,zga,run_newObj,zea,zma];rw[<-eu];rfl
  ·rw[if_neg h0];simp only[zeroValue,typeInfo,zga,run_program,hi1,hi4,zea,zma,bind_pure_comp,Sem.run_map,newRow,run_newObj];rw[<-eu];rfl
 obtain⟨p1,p2,p3,p4,p5,p6,p7⟩:=St.put_fields (s.setOb (s.base+d) (some (.many e (List.replicate n (aJ e))))) dst (.mem e (s.base+d));refine⟨_,hq,p5,p6,p2,p4,λid hid hh=>?_,.value (v:=.slice (some ⟨w.heap.size,0,none⟩) n n) (w':=grown w [.cells cells u] w.drawn) (by simp only[execOp,hv,zga,hrun,zea,zma]) ⟨S,_,β,r1.put ?_ dst,?_,λid hid=>⟨cc _ _ ?_,rfl⟩⟩⟩
 ·rw[p1];refine mg s _ λe=>?_;subst e;rcases hh with hh|hh
  ·exact hh (by rw[hd,zzb])
  ·omega
 ·simp only[AR,AC,Value.cells];refine⟨by simp,hn,w.heap.size,bJ _ _ _,λo ho=>?_⟩
  rw[kh] at ho;cases ho;exact⟨_,rfl,by simp⟩
 ·exact⟨λ_ _ hb=>hb,λb o hb=>dH (h.Sb b o hb),λt ht=>bQ (hlk t ht),λid hid b hb=>⟨fh hγ hb,.inl (cJ (h.γn id b hb).2)⟩,by simp,λ_ _ hb=>fh hγ hb,ku.same bF cY.grown⟩
 ·intro e;subst e;rcases hid with hid|hid
  ·exact hid (by rw[hd,zzb])
  ·omega
theorem u4(m:Nat):∀ (r c:Nat),c<=2*m+200->Builtin.growBy m r c<=2*m+200
 | 0,c,h=>by simpa [Builtin.growBy] using h
 | r+1,c,h=>by
  simp only[Builtin.growBy];split
  ·exact h
  ·exact u4 m r _ (by omega)
def AB{need cap:Nat}(h:cap<need):Builtin.nextslicecap need cap<=2*need+200:=by
 unfold Builtin.nextslicecap;split
 ·omega
 ·split
  ·omega
  ·exact u4 need 4 cap (by omega)
def iY{w:World}{S:Nat->Nat->Prop}{e:Ty}{l:List D}{v:Value}(hn:au e=true)(hl:∀ x∈l,wt e x)(h:CR w S (.sl l) v):∃ cs:List Value,cS w S (D.flats l) cs/\(Builtin.firstCells e.size l.length v).run P w=.ok cs.toArray w:=by
 obtain⟨A,cap,b,off,hv,k1,k2,cs,k3,k4⟩:=h.elems;refine⟨cs,k3,?_⟩;have hlen:cs.length=l.length*e.size:=by rw[<-k3.1];exact aL hn l hl
 subst hv;cases A with
 | none=>
  rcases k1 with rfl|k1
  ·have:cs=[]:=by
    simp at hlen;exact hlen
   subst this;rfl
  ·cases k1
 | some A=>
  rcases k1 with rfl|k1
  ·have:cs=[]:=by
    simp at hlen;exact hlen
   subst this;simp[Builtin.firstCells,loadCells,loadCellsFrom]
  ·cases k1;simp only[Builtin.firstCells];rw[<-hlen];exact run_loadCells_list (P:=P) w ⟨b,off,none⟩ cs (λj v hv=>by rw[cZ];exact(k4 j v hv).2)
def rR{c:Cx}{e:Ty}{v:Nat}(hn:au e=true):AR c (.own e v []) (.slice none 0 0):=by
 simp only[AR,AC,Value.cells];exact⟨by simp,hn,λx hx=>by simp at hx,none,0,rfl,.sl [] none 0 0 0 (λ_=>undef) (.inl rfl) (zja 0) (λi d hd=>by simp[D.flats] at hd) (λi d hd=>by simp[D.flats] at hd),λ_=>.inl ⟨rfl,rfl⟩⟩
def Rp.bury(h:Rp w0 S γ β s a w)(v:Nat):Rp w0 S γ β { s with dead:=v::s.dead } a w/\Cx.le ⟨w,S,γ,β,s.ob,s.dead⟩ ⟨w,S,γ,β,s.ob,v::s.dead⟩:=by
 have hle:Cx.le ⟨w,S,γ,β,s.ob,s.dead⟩ ⟨w,S,γ,β,s.ob,v::s.dead⟩:=
  ⟨λ_ _ _=>rfl,λ_ _ k=>k,λ_ _ k=>k,λid o ho _=>⟨o,ho,λp=>⟨rfl,rfl⟩,λt l e=>⟨l,e,rfl⟩,λ_ _ l e=>⟨l,e⟩⟩,λu hu=>⟨λhh=>hu (zha _ hh),λb e he=>⟨he,λn hn=>hn⟩⟩⟩
 have nd:∀ {u},u ∉ v::s.dead->u ∉ s.dead:=λhu hh=>hu (zha _ hh);exact⟨⟨h.ext,λt ht=>(h.tms t ht).mono hle,h.nt,h.tmu,λid o b ho hb=>(h.obs id o b ho hb).mono hle rfl λ_ k=>k,h.γn,h.γi,h.γf,λu b e hu=>h.βn u b e (nd hu),λu u' b e e' hu hu'=>h.βi u u' b e e' (nd hu) (nd hu'),λu id b e hu=>h.βγ u id b e (nd hu),h.βf,h.Sb,h.So⟩,hle⟩
end
end Sy
end
noncomputable section
namespace Sy
open Go
section
variable{P:Program}{E:Env}{w0:Root}{S:Nat->Nat->Prop}{γ:Nat->Option Nat}{β:Nat->Option (Nat×Nat)}{s:St}{a:Act}{w:World}
def Rp.makeG(h:Rp w0 S γ β s a w){id:Nat}(hid:γ id=none)(hi:id<s.base+4096){x:Obj}{o:Ob}(d:Nat)(hdr:w.drawn<=d)
  (ho:gL ⟨grown w [x] d,S,pe γ id w.heap.size,β,(s.setOb id (some o)).ob,s.dead⟩ w.heap.size o) :
  Rp w0 S (pe γ id w.heap.size) β (s.setOb id (some o)) a (grown w [x] d)/\Cx.le ⟨w,S,γ,β,s.ob,s.dead⟩ ⟨grown w [x] d,S,pe γ id w.heap.size,β,(s.setOb id (some o)).ob,s.dead⟩:=by
 obtain⟨h1,le1⟩:=h.grow (os:=[x]) (d:=d) hdr (S':=S) (λ_ _ hb=>hb) (λ_ _ hb=>.inl hb);obtain⟨h2,le2⟩:=h1.setFree hid (some o);have hw0:¬ w0.Old w.heap.size:=λho=>by have:=ho.1;have:=h.ext.sz;omega
 obtain⟨h3,le3⟩:=h2.newOb (id:=id) (b:=w.heap.size) hid hw0 (by simp) (λi hi=>by have:=(h.γn i _ hi).2;omega) (λu f hu hf=>by have:=(h.βn u _ _ hu hf).2.1;omega) hi (λx hx=>by
  rw[kh] at hx;cases hx;exact ho)
 refine⟨h3,⟨λb o hb=>le1.cell b o hb,λ_ _ hb=>hb,λi b hb=>fh hid hb,λi x hx hb=>?_,λv hv=>⟨hv,λb e he=>⟨he,λn hn=>by
  have:=le1.β v hv;exact(this.2 b e he).2 n hn⟩⟩⟩⟩
 obtain⟨b,hb⟩:=hb;exact le2.ob i x hx ⟨b,hb⟩
def yu(hE:EnvOk P E)(h:Rp w0 S γ β s a w){dst T rsv ty pos after guard}(hf:Fr E s γ β ⟨dst,.makeMap T rsv,ty,pos,after,guard⟩)(hlk:∀ t∈s.lkS,dst≠some t){R:Type}{K:St->Option R}{r:R}
  (hq:qt E s ⟨dst,.makeMap T rsv,ty,pos,after,guard⟩ K=some r):∃ s',K s'=some r/\Gw P w0 S γ β s a w ⟨dst,.makeMap T rsv,ty,pos,after,guard⟩ s':=by
 simp only[qt] at hq;cases rsv with
 | some x=>cases hq
 | none=>
 simp only at hq;replace hq:=bind_some_inv hq;obtain⟨kv,hkv,hq⟩:=hq;replace hq:=bind_some_inv hq;obtain⟨d,hd,hq⟩:=hq;obtain⟨kt,vt⟩:=kv;simp only at hq;obtain⟨hd4,hγ,hβ,_⟩:=hf rfl d hd;obtain⟨hc,KT,VT,hu,hlk1,hlv,hh⟩:=hE.mapL T _ _ hkv;have hnk:=aO _ _ hlk1;have hnv:=aO _ _ hlv;obtain⟨h1,le1⟩:=h.makeG (id:=s.base+d) hγ (by omega) (x:=.map #[] 0) (o:=.mp kt vt []) w.drawn (zja _) (by
  simp only[gL];refine⟨hnk,hnv,λo ho=>by have:=h.Sb _ _ ho;omega,#[],?_,by simp[iA]⟩
  show(w.heap++#[Obj.map #[] 0])[w.heap.size]?=some (.map #[] 0);rw[Array.getElem?_append_right (zja _),z4c];rfl)
 obtain⟨p1,p2,p3,p4,p5,p6,p7⟩:=St.put_fields (s.setOb (s.base+d) (some (.mp kt vt []))) dst (.map kt vt (s.base+d));refine⟨_,hq,p5,p6,p2,p4,λid hid hhh=>?_,.value (v:=.map (some w.heap.size)) (w':=grown w [.map #[] 0] w.drawn) ?_ ⟨S,_,β,h1.put ?_ dst,?_,λid hid=>⟨cc _ _ ?_,rfl⟩⟩⟩
 ·rw[p1];refine mg s _ λe=>?_;subst e;rcases hhh with hhh|hhh
  ·simp_all
  ·omega
 ·simp_all [grown,execOp,Instr.makeMap,Option.map_none,zga,zea]
 ·simp only[AR,AC,Value.cells];refine⟨by simp,w.heap.size,rfl,bJ _ _ _,hnk,hnv,λo ho=>?_⟩
  grind [kh]
 ·exact⟨λ_ _ hb=>hb,λb o hb=>dH (h.Sb b o hb),λt ht=>bQ (hlk t ht),λid hid b hb=>⟨fh hγ hb,.inl (cJ (h.γn id b hb).2)⟩,by simp,λ_ _ hb=>fh hγ hb,ku.same bF cY.grown⟩
 ·intro e;subst e;rcases hid with hid|hid
  ·simp_all
  ·omega
def qa(w:World)(b:Nat)(o:Obj):World:={ w with heap:=w.heap.setIfInBounds b o }
theorem im{w:World}{b b':Nat}{o:Obj}(h:b'≠b):(qa w b o).heap[b']?=w.heap[b']?:=by
 simp only[qa];grind
def ki{w:World}{b:Nat}{o:Obj}:(qa w b o).heap.size=w.heap.size:=by simp[qa]
def uM{w:World}{b b' o':Nat}{o:Obj}(h:b'≠b):(qa w b o).cell? ⟨b',o',none⟩=w.cell? ⟨b',o',none⟩:=by simp only[World.cell?,im h]
def Rp.writeM(h:Rp w0 S γ β s a w){id b:Nat}{kt vt:Ty}{l l':List D}{es':Array MapEntry}(ho:s.ob id=some (.mp kt vt l))(hγ:γ id=some b)(hM:iA ⟨w,S,γ,β,s.ob,s.dead⟩ kt vt 0 l' es'.toList) :
  Rp w0 S γ β (s.setOb id (some (.mp kt vt l'))) a (qa w b (.map es' l'.length))/\(∀ b' o,S b' o->(qa w b (.map es' l'.length)).cell? ⟨b',o,none⟩=w.cell? ⟨b',o,none⟩):=by
 have hO:=h.obs id _ b ho hγ;simp only[gL] at hO;obtain⟨hnk,hnv,hS,es,hes,_⟩:=hO;have hbS:∀ b' o,S b' o->b'≠b:=λb' o hb e=>hS o (e ▸ hb);have hlt:b<w.heap.size:=(h.γn id b hγ).2;have hle:Cx.le ⟨w,S,γ,β,s.ob,s.dead⟩ ⟨qa w b (.map es' l'.length),S,γ,β,(s.setOb id (some (.mp kt vt l'))).ob,s.dead⟩:=by
  refine⟨λb' o hb=>uM (hbS b' o hb),λ_ _ hb=>hb,λ_ _ hb=>hb,λi x hx _=>?_,λv hv=>⟨hv,λb' e he=>⟨he,λn hn=>?_⟩⟩⟩
  ·simp only[St.setOb] at hx;by_cases e:i=id
   ·subst e;simp only[if_true,zda] at hx;subst hx;exact⟨_,ho,λp=>⟨rfl,rfl⟩,(λt l e=>by cases e),(λk v l e=>by cases e;exact⟨_,rfl⟩)⟩
   ·simp_all
  ·have hne:b'≠b:=λe'=>h.βγ v id b' e hv he (e' ▸ hγ);have hn':mU w b'=some n:=hn;show mU (qa w b (.map es' l'.length)) b'=some n;simp only[mU,bN,im hne] at hn' ⊢;exact hn'
 refine⟨⟨nv h.ext rfl rfl rfl (by simp[ki]) (zja _) (λb' hb'=>im λe=>(h.γn id b hγ).1 (e ▸ hb')),λt ht=>(h.tms t ht).mono hle,h.nt,h.tmu,λi x b' hx hb'=>?_,λi b' hb'=>by rw[ki];exact h.γn i b' hb',h.γi,h.γf,
  λv b' e hv he=>by rw[ki];exact h.βn v b' e hv he,h.βi,h.βγ,h.βf,λb' o hb=>by rw[ki];exact h.Sb b' o hb,h.So⟩,λb' o hb=>uM (hbS b' o hb)⟩
 simp only[St.setOb] at hx;by_cases e:i=id
 ·subst e;simp only[if_true,zda] at hx;subst hx;rw[hγ] at hb';cases hb';simp only[gL];refine⟨hnk,hnv,hS,es',?_,hM.mono hle⟩;simp only[qa]
  simp_all
 ·rw[if_neg e] at hx;have hne:b'≠b:=λe'=>e (h.γi i id b' hb' (e' ▸ hγ));exact(h.obs i x b' hx hb').mono hle (im hne) λ_ hh=>hh
theorem iA.push{c:Cx}{kt vt:Ty}{k v:D}{ek ev:Value}(hk:wt kt k)(hv:wt vt v)(rk:gj c.w c.S k ek)(rv:gj c.w c.S v ev):∀ {l:List D} {es:List MapEntry} {j:Nat},iA c kt vt j l es->iA c kt vt j (l++[.st [k,v]]) (es++[{ key:=ek,val:=ev,born:=j+l.length }])
 | [],[],j,_=>by simp only[z3b,iA,zib,z2b];exact⟨⟨trivial,k,v,rfl,hk,hv,rk,rv⟩,trivial⟩
 | [],_::_,_,h=>h.elim
 | _::_,[],_,h=>h.elim
 | x::l,e::es,j,h=>by
  simp only[zdb,iA] at h ⊢;refine⟨h.1,?_⟩;have:=iA.push hk hv rk rv h.2;grind
theorem yW{c:Cx}{kt vt:Ty}{x y:D}:∀ {l:List D} {es:List MapEntry} {j i:Nat},iA c kt vt j l es->zS l x es i=none->D.mput l x y=l++[.st [x,y]]
 | [],[],_,_,_,_=>rfl
 | [],_::_,_,_,h,_=>h.elim
 | _::_,[],_,_,h,_=>h.elim
 | z::l,e::es,j,i,h,hf=>by
  simp only[iA] at h;obtain⟨⟨_,k,v,rfl,_⟩,h2⟩:=h;simp only[zS] at hf;simp only[D.mput];cases hb:D.beq x k
  ·rw[hb] at hf;simp only[zza,if_false] at hf ⊢;rw[yW h2 hf];rfl
  ·simp_all
theorem yX{c:Cx}{kt vt:Ty}{x y:D}{ek ev:Value}(hv:wt vt y)(rv:gj c.w c.S y ev)(rk:gj c.w c.S x ek):∀ {l:List D} {es:List MapEntry} {j i n:Nat} {v0:Value},iA c kt vt j l es->zS l x es i=some (n,v0) ->
  ∃ m e0,n=i+m/\es[m]?=some e0/\(D.mput l x y).length=l.length/\iA c kt vt j (D.mput l x y) (es.modify m λe=>{ e with key:=e0.key,val:=ev })/\iA c kt vt j (D.mput l x y) (es.modify m λe=>{ e with key:=ek,val:=ev })
 | [],[],_,_,_,_,_,hf=>by simp[zS] at hf
 | [],_::_,_,_,_,_,h,_=>h.elim
 | _::_,[],_,_,_,_,h,_=>h.elim
 | z::l,e::es,j,i,n,v0,h,hf=>by
  simp only[iA] at h;obtain⟨⟨hb0,k,v,rfl,q1,q2,q3,q4⟩,h2⟩:=h;simp only[zS] at hf;simp only[D.mput];cases hb:D.beq x k
  ·rw[hb] at hf;simp only[zza,if_false] at hf ⊢;obtain⟨m,e0,e1,e2,e3,e4,e5⟩:=yX (y:=y) hv rv rk h2 hf;refine⟨m+1,e0,by omega,by simpa using e2,by simp[e3],?_,?_⟩
   ·grind [List.modify_succ_cons,iA]
   ·grind [List.modify_succ_cons,iA]
  ·rw[hb] at hf;simp only[if_true,zda,Prod.mk.injEq] at hf;have:=En _ _ hb;subst this;simp only[if_true];refine⟨0,e,by omega,rfl,rfl,?_,?_⟩
   ·grind [List.modify_zero_cons,iA]
   ·grind [List.modify_zero_cons,iA]
def C2(old new:Value)(w:World):∃ k d,w.drawn<=d/\(Instr.keyThatStays old new).run P w=.ok k { w with drawn:=d }/\(k=old\/k=new):=by
 unfold Instr.keyThatStays;split
 ·exact⟨new,w.drawn,zja _,rfl,.inr rfl⟩
 ·simp only[zga,run_choose];split
  ·simp only[zea,zma];exact⟨_,w.drawn,zja _,rfl,by split<;>simp⟩
  ·simp only[zea,zma];exact⟨_,w.drawn+1,ztc _,rfl,by split<;>simp⟩
def uq(hE:EnvOk P E)(h:Rp w0 S γ β s a w){dst T x k v ty pos after guard}{R:Type}{K:St->Option R}{r:R}
  (hq:qt E s ⟨dst,.mapUpdate T x k v,ty,pos,after,guard⟩ K=some r):∃ s',K s'=some r/\Gw P w0 S γ β s a w ⟨dst,.mapUpdate T x k v,ty,pos,after,guard⟩ s':=by
 simp only[qt] at hq;cases dst with
 | some d=>simp at hq
 | none=>
 simp only[Option.isSome_none,zza,if_false] at hq;replace hq:=bind_some_inv hq;obtain⟨kv,hkv,hq⟩:=hq;obtain⟨kt0,vt0⟩:=kv;have hx:=aV h x;generalize s.opA x=ax at *;cases ax<;>(try simp only at hq)<;>first|(cases hq;done)|skip
 rename_i kt vt id;split at hq<;>first|(cases hq;done)|skip
 rename_i hb;simp only[zaa,zLa] at hb;obtain⟨⟨hb1,hb2⟩,hb3⟩:=hb;have e1:=Ty.eq_of_beq _ _ hb1;have e2:=Ty.eq_of_beq _ _ hb2;subst e1;subst e2;have hlo:id ∉ s.lkO:=by
  simp_all
 split at hq<;>first|(cases hq;done)|skip
 rename_i kt' vt' l hob;split at hq<;>first|(cases hq;done)|skip
 rename_i hb2;simp only[zaa] at hb2;have e1:=Ty.eq_of_beq _ _ hb2.1;have e2:=Ty.eq_of_beq _ _ hb2.2;subst e1;subst e2;replace hq:=bind_some_inv hq;obtain⟨kd,hkd,hq⟩:=hq;replace hq:=bind_some_inv hq;obtain⟨vd,hvd,hq⟩:=hq;obtain⟨hc,KT,VT,hu,hlk,hlv,hh⟩:=hE.mapL T _ _ hkv;have hnk:=aO _ _ hlk;have hnv:=aO _ _ hlv;obtain⟨k1,k2⟩:=ni hnk (aV h k) hkd;obtain⟨v1,v2⟩:=ni hnv (aV h v) hvd;simp only[AR,AC] at hx;obtain⟨na,b,hcs,hγ,_,_,_⟩:=hx;have hv:=az na hcs;have hO:=h.obs id _ b hob hγ;simp only[gL] at hO;obtain⟨_,_,hnS,es,hes,hM⟩:=hO;have i1:gl kt' (a.eval k).cells.toList (a.eval k):=⟨rfl,nL k1 hnk k2.1⟩;have rc:=jn (S:=S) (w:=w) kt' KT kd _ _ 10000 false hlk hc (by omega) k1 k2.2 i1 w
 have rf:=sQ (P:=P) hlk hc hh k1 k2 w hM;have hex:(execOp a.eval ⟨none,.mapUpdate T x k v,ty,pos,after,guard⟩)=(Instr.mapUpdate T (a.eval x) (a.eval k) (a.eval v) >>= λ_=>pure .skip):=rfl;have hlt:b<w.heap.size:=(h.γn id b hγ).2;have run:∃ es' d,w.drawn<=d/\iA ⟨w,S,γ,β,s.ob,s.dead⟩ kt' vt' 0 (D.mput l kd vd) es'.toList/\(execOp a.eval ⟨none,.mapUpdate T x k v,ty,pos,after,guard⟩).run P w=.ok .skip (qa { w with drawn:=d } b (.map es' (D.mput l kd vd).length)):=by
  rw[hex,hv];cases hf:zS l kd es.toList 0 with
  | none=>
   rw[hf] at rf;have hm:=yW (y:=vd) hM hf;refine⟨es.push { key:=a.eval k,val:=a.eval v,born:=l.length },w.drawn,zja _,?_,?_⟩
   ·rw[hm,zud];have:=iA.push k1 v1 k2 v2 hM
    rwa [z9a] at this
   ·have hl:(D.mput l kd vd).length=l.length+1:=by rw[hm];simp
    rw[hl];simp only[Instr.mapUpdate,zga,run_underlying hu,zea,kB hes,rc,rf];simp[setObj,Sem.run,hes,qa]
  | some p=>
   obtain⟨n,v0⟩:=p;rw[hf] at rf;obtain⟨m,e0,e1,e2,e3,e4,e5⟩:=yX (ek:=a.eval k) v1 v2 k2 hM hf;have e1':n=m:=by omega
   subst e1';have e2':es[n]?=some e0:=by simpa using e2
   obtain⟨kk,d,hdr1,r1,r2⟩:=C2 (P:=P) e0.key (a.eval k) w;refine⟨es.modify n λe=>{ e with key:=kk,val:=a.eval v },d,hdr1,?_,?_⟩
   ·rw[Array.toList_modify];all_goals grind
   ·rw[e3];simp only[Instr.mapUpdate,zga,run_underlying hu,zea,kB hes,rc,rf,e2',zFb,zBb,r1];simp[setObj,Sem.run,hes,qa]
 obtain⟨es',d,hdr2,hM',hrun⟩:=run;have hg:({ w with drawn:=d }:World)=grown w [] d:=by simp[grown]
 rw[hg] at hrun;obtain⟨g1,g2⟩:=h.grow (os:=[]) (d:=d) hdr2 (S':=S) (λ_ _ hb=>hb) (λ_ _ hb=>.inl hb);obtain⟨w1,w2⟩:=g1.writeM (l':=D.mput l kd vd) (es':=es') hob hγ (hM'.mono g2);refine⟨_,hq,rfl,rfl,rfl,rfl,λi hi _=>?_,.skip hrun ⟨S,γ,β,w1,?_,λ_ _=>⟨rfl,rfl⟩⟩⟩
 ·refine mg s _ λe=>?_
  simp_all
 ·refine⟨λ_ _ hb=>hb,λb' o hb=>(w2 b' o hb).trans (g2.cell b' o hb),λ_ _=>rfl,λi hi b' hb'=>⟨hb',.inl ?_⟩,by rw[ki];simp,λ_ _ hb=>hb,ku.same rfl (cY.but b (λb' hb hlt=>(im hb).trans (cJ hlt)) (C8 hes))⟩
  have hne:b'≠b:=λe=>by
   subst e;exact hlo ((h.γi id i _ hγ hb') ▸ hi)
  grind [im]
end
end Sy
end
noncomputable section
namespace Sy
open Go
def CR.at_{w:World}{S:Nat->Nat->Prop}{l:List D}{b off n cap:Nat}(h:CR w S (.sl l) (.slice (some ⟨b,off,none⟩) n cap)):ph w S b off (D.flats l):=by
 obtain⟨A,cap',b',off',hv,k1,k2,k3⟩:=h.elems;simp only[Value.slice.injEq] at hv;rcases k1 with rfl|k1
 ·exact⟨[],cS.nil,λi c hc=>by simp at hc⟩
 ·rw[<-hv.1] at k1;cases k1;exact k3
def tO{w:World}{b n:Nat}(h:mU w b=some n):∃ c,bN w b=some c/\c.size=n:=by
 simp_all [mU]
def pn{w:World}{b off o:Nat}{c cs:Array Value}(h:bN w b=some c)(hs:off+cs.size<=c.size)(ho:o<off):(putAt w b off cs).cell? ⟨b,o,none⟩=w.cell? ⟨b,o,none⟩:=by
 simp_all [dG,iu,kP]
def uk{w:World}{b off o:Nat}{c cs:Array Value}(h:bN w b=some c)(hs:off+cs.size<=c.size)(ho:o<cs.size):(putAt w b off cs).cell? ⟨b,off+o,none⟩=cs[o]?:=by
 rw[dG _ (iu h),kP _ _ _ _ hs,if_neg (by omega),if_pos (by omega),zzb]
section
variable{P:Program}{E:Env}{w0:Root}{S:Nat->Nat->Prop}{γ:Nat->Option Nat}{β:Nat->Option (Nat×Nat)}{s:St}{a:Act}{w:World}
def FC(h:Rp w0 S γ β s a w){v v' b off:Nat}{e:Ty}{l l':List D}{cap n:Nat}{cs':List Value}(hn:au e=true)(hl:∀ x∈l,wt e x)(hl':∀ x∈l',wt e x)(hv:v ∉ s.dead)(hβ:β v=some (b,off+l.length*e.size))(hr:mU w b=some n)(hcap:off+cap*e.size<=n)
  (hneed:l.length+l'.length<=cap) (hc:ph w S b off (D.flats l)) (hc':cS w S (D.flats l') cs') (hv':β v'=none) (hi:v'<s.base+4096) :
  ∃ S' β',Rp w0 S' γ β' { s with dead:=v::s.dead } a (putAt w b (off+l.length*e.size) cs'.toArray) ∧
   AR ⟨putAt w b (off+l.length*e.size) cs'.toArray,S',γ,β',s.ob,v::s.dead⟩ (.own e v' (l++l')) (.slice (some ⟨b,off,none⟩) (l.length+l'.length) cap) ∧
   (∀ b o,S b o->S' b o)/\(∀ b' o,S b' o->(putAt w b (off+l.length*e.size) cs'.toArray).cell? ⟨b',o,none⟩=w.cell? ⟨b',o,none⟩)/\(∀ u,u≠v'->β' u=β u):=by
 obtain⟨c,hrow,hcn⟩:=tO hr;have len':cs'.length=l'.length*e.size:=by rw[<-hc'.1];exact aL hn l' hl'
 generalize he0:off+l.length*e.size=e0 at *;obtain⟨bn1,bn2,bn3⟩:=h.βn v b e0 hv hβ;have hsz:e0+cs'.toArray.size<=c.size:=by
  simp only[z1c,len',hcn];have:(l.length+l'.length)*e.size<=cap*e.size:=zxa _ hneed;rw[zYa] at this;omega
 let S':Nat->Nat->Prop:=λb' o=>S b' o\/(b'=b/\e0<=o/\o<e0+cs'.length)
 have hcell:∀ b' o,S b' o->(putAt w b e0 cs'.toArray).cell? ⟨b',o,none⟩=w.cell? ⟨b',o,none⟩:=λb' o hb=>by
  by_cases e:b'=b
  ·subst e;exact pn hrow hsz (Nat.lt_of_not_le λhh=>bn3 o hh hb)
  ·exact cD e
 have nd:∀ {u},u ∉ v::s.dead->u ∉ s.dead/\u≠v:=λhu=>⟨λhh=>hu (zha _ hh),λhh=>hu (hh ▸ zka)⟩;have hle:Cx.le ⟨w,S,γ,β,s.ob,s.dead⟩ ⟨putAt w b e0 cs'.toArray,S',γ,pe β v' (b,e0+cs'.length),s.ob,v::s.dead⟩:=
  ⟨hcell,λ_ _ hb=>.inl hb,λ_ _ k=>k,λid o ho _=>⟨o,ho,λp=>⟨rfl,rfl⟩,λt l e=>⟨l,e,rfl⟩,λ_ _ l e=>⟨l,e⟩⟩,λu hu=>⟨(nd hu).1,λb' e he=>⟨fh hv' he,λn hn=>by rw[mH hrow hsz];exact hn⟩⟩⟩
 have hRp:Rp w0 S' γ (pe β v' (b,e0+cs'.length)) { s with dead:=v::s.dead } a (putAt w b e0 cs'.toArray):=by
  refine⟨nv h.ext rfl rfl rfl (by simp) (zja _) (λb' hb'=>cP (λe=>bn1 (e ▸ hb'))),λt ht=>(h.tms t ht).mono hle,h.nt,h.tmu,λid o b' ho hb'=>?_,λid b' hb'=>by simpa using h.γn id b' hb',h.γi,h.γf,λu b' e hu he=>?_,λu u' b' e e' hu hu' he he'=>?_,λu id b' e hu he=>?_,λu hu=>?_,λb' o hb'=>?_,λb' o hb' hlt=>?_⟩
  ·have hne:b'≠b:=λe=>h.βγ v id b e0 hv hβ (e ▸ hb');refine(h.obs id o b' ho hb').mono hle (cP hne) λo hh=>?_;rcases hh with hh|hh
   ·exact hh
   ·exact absurd hh.1 hne
  ·obtain⟨nu1,nu2⟩:=nd hu;by_cases e1:u=v'
   ·subst e1;rw[bJ] at he;cases he;refine⟨bn1,by simpa using bn2,λo ho hh=>?_⟩
    rcases hh with hh|hh
    ·exact bn3 o (by omega) hh
    ·omega
   ·rw[cc β _ e1] at he;obtain⟨k1,k2,k3⟩:=h.βn u b' e nu1 he;refine⟨k1,by simpa using k2,λo ho hh=>?_⟩
    rcases hh with hh|hh
    ·exact k3 o ho hh
    ·obtain⟨hh,_⟩:=hh;subst hh;exact nu2 (h.βi u v b' _ _ nu1 hv he hβ)
  ·obtain⟨nu1,nu2⟩:=nd hu;obtain⟨nu1',nu2'⟩:=nd hu';by_cases e1:u=v'
   ·by_cases e2:u'=v'
    ·rw[e1,e2]
    ·subst e1;rw[bJ] at he;cases he;rw[cc β _ e2] at he';exact absurd (h.βi u' v b _ _ nu1' hv he' hβ) nu2'
   ·by_cases e2:u'=v'
    ·subst e2;rw[bJ] at he';cases he';rw[cc β _ e1] at he;exact absurd (h.βi u v b _ _ nu1 hv he hβ) nu2
    ·rw[cc β _ e1] at he;rw[cc β _ e2] at he';exact h.βi u u' b' e e' nu1 nu1' he he'
  ·by_cases e1:u=v'
   ·subst e1;rw[bJ] at he;cases he;exact h.βγ v id b e0 hv hβ
   ·rw[cc β _ e1] at he;exact h.βγ u id b' e (nd hu).1 he
  ·have hu':s.base+4096<=u:=hu;rw[cc β _ (by omega)]
   exact h.βf u hu'
  ·rcases hb' with hb'|hb'
   ·simpa using h.Sb b' o hb'
   ·simpa [hb'.1] using bn2
  ·rcases hb' with hb'|hb'
   ·exact h.So b' o hb' hlt
   ·exact absurd (hb'.1 ▸ hlt) bn1
 refine⟨S',_,hRp,?_,λ_ _ hb=>.inl hb,hcell,λu hu=>cc β _ hu⟩;simp only[AR,AC,Value.cells];refine⟨by simp,hn,λx hx=>(zDa.1 hx).elim (hl x) (hl' x),some ⟨b,off,none⟩,cap,by rw[zva],?_,λ_=>.inr ⟨b,off,rfl,?_,n,by show mU (putAt w b e0 cs'.toArray) b=some n;rw[mH hrow hsz];exact hr,hcap⟩⟩
 ·obtain⟨cs,k1,k2⟩:=hc;refine CR.of_elems (.inr rfl) (by rw[zva];exact hneed) ⟨cs++cs',?_,λi x hx=>?_⟩
  ·rw[bW];exact(k1.append hc').mono hcell λ_ _ hh=>.inl hh
  ·have len:cs.length=l.length*e.size:=by rw[<-k1.1];exact aL hn l hl
   rw[zNc] at hx;by_cases hi2:i<cs.length
   ·rw[if_pos hi2] at hx;obtain⟨m1,m2⟩:=k2 i x hx;exact⟨.inl m1,(hcell _ _ m1).trans m2⟩
   ·rw[if_neg hi2] at hx;have hlt:=(zla.1 hx).1;refine⟨.inr ⟨rfl,by omega,by omega⟩,?_⟩
    rw[show off+i=e0+(i-cs.length) by omega,uk hrow hsz (by simpa using hlt)]
    simpa using hx
 ·show pe β v' (b,e0+cs'.length) v'=_;rw[bJ,zva,len',zYa];congr 2;omega
def tP{T T' u':TypeId}{e:Ty}(hE:bH P (.sl e) T=true)(hT':P.underlying T'=some (.slice u')){A:Option Addr}{len cap:Nat}{l l':List D}{vy:Value}(ty:TypeId)(hlen:len=l.length)(hl:∀ x∈l,wt e x)(hl':∀ x∈l',wt e x)
  (hx:CR w S (.sl l) (.slice A len cap)) (hy:CR w S (.sl l') vy) (hb:l.length+l'.length<=1073741824) :
  ∃ cs cs':List Value,cS w S (D.flats l) cs/\cS w S (D.flats l') cs'/\∃ u,
   (l.length+l'.length<=cap->(A=none->(Builtin.append_ #[T,T'] ty #[.slice A len cap,vy]).run P w=.ok (.slice none (l.length+l'.length) cap) w) ∧
    (∀ b off c,A=some ⟨b,off,none⟩->bN w b=some c->off+cap*e.size<=c.size->(Builtin.append_ #[T,T'] ty #[.slice A len cap,vy]).run P w=.ok (.slice A (l.length+l'.length) cap) (putAt w b (off+l.length*e.size) cs'.toArray))) ∧
   (cap<l.length+l'.length->∃ newCap rest,l.length+l'.length<=newCap/\(cs++cs').length+rest.length=newCap*e.size ∧
    (Builtin.append_ #[T,T'] ty #[.slice A len cap,vy]).run P w=.ok (.slice (some ⟨w.heap.size,0,none⟩) (l.length+l'.length) newCap) (grown w [.cells ((cs++cs')++rest).toArray u] (w.drawn+1))):=by
 subst hlen;obtain⟨u,k1,k2⟩:=iM hE;have hn:au e=true:=aO _ _ k2;obtain⟨i0,z0,hi1,hi2,mQ,hi4,hi5,_⟩:=fA (gz k2);have hx1:CR { w with drawn:=w.drawn+1 } S (.sl l) (.slice A l.length cap):=CR.mono (w:=w) (w':={ w with drawn:=w.drawn+1 }) (S:=S) (S':=S) (λ_ _ _=>rfl) (λ_ _ h=>h) hx;have hy1:CR { w with drawn:=w.drawn+1 } S (.sl l') vy:=CR.mono (w:=w) (w':={ w with drawn:=w.drawn+1 }) (S:=S) (S':=S) (λ_ _ _=>rfl) (λ_ _ h=>h) hy;obtain⟨cs,c1,c2⟩:=iY (P:=P) hn hl hx1;obtain⟨cs',d1,d2⟩:=iY (P:=P) hn hl' hy;obtain⟨cs'',d3,d4⟩:=iY (P:=P) hn hl' hy1;have len:cs.length=l.length*e.size:=by rw[<-c1.1];exact aL hn l hl
 have len':cs'.length=l'.length*e.size:=by rw[<-d1.1];exact aL hn l' hl'
 have len'':cs''.length=l'.length*e.size:=by rw[<-d3.1];exact aL hn l' hl'
 have hcs:cs''=cs':=by
  obtain⟨A',cap',b,off,hv,q1,q2,q3⟩:=hy.elems;subst hv;have e1:=d2;have e2:=d4;cases A' with
  | none=>
   simp only[Builtin.firstCells,zma,Result.ok.injEq] at e1 e2;have:=e1.1.symm.trans e2.1;simpa using this.symm
  | some A'=>
   rcases q1 with rfl|q1
   ·simp at len' len'';rw[len',len'']
   ·cases q1;obtain⟨ds,r1,r2⟩:=q3;have hld:ds.length=l'.length*e.size:=by rw[<-r1.1];exact aL hn l' hl'
    have f1:=run_loadCells_list (P:=P) w ⟨b,off,none⟩ ds (λj v hv=>by rw[cZ];exact(r2 j v hv).2)
    have f2:=run_loadCells_list (P:=P) { w with drawn:=w.drawn+1 } ⟨b,off,none⟩ ds (λj v hv=>by rw[cZ];exact(r2 j v hv).2)
    simp only[Builtin.firstCells] at e1 e2;rw[hld] at f1 f2;rw[f1] at e1;rw[f2] at e2;simp only[Result.ok.injEq] at e1 e2;have:=e1.1.symm.trans e2.1;simpa using this.symm
 subst hcs;have hlenOf:(Builtin.lenOf vy).run P w=.ok l'.length w:=by
  obtain⟨A',cap',b,off,hv,_⟩:=hy.elems;subst hv;rfl
 refine⟨cs,cs'',cS.mono (w:={ w with drawn:=w.drawn+1 }) (w':=w) (S:=S) (S':=S) (λ_ _ _=>rfl) (λ_ _ h=>h) c1,d1,u,λhcap=>⟨λhA=>?_,λb off c hA hrow hsz=>?_⟩,λhcap=>?_⟩
 ·subst hA;simp only[Builtin.append_,zFc,zeb,z7a,zga,run_underlying k1,run_underlying hT',zea,bX k2,zma,zza,if_false,hlenOf,hcap,if_true,zSb,d2]
 ·subst hA;have hst:=dm (P:=P) b (off+l.length*e.size) cs'' 0 w c hrow (by
   have:(l.length+l'.length)*e.size<=cap*e.size:=zxa _ hcap;rw[zYa] at this;omega) (by rw[zpa];intro x hx;have:=d1.nag x hx;cases x<;>simp_all [Value.oneCell',lL])
  simp only[z2b] at hst;simp only[Builtin.append_,zFc,zeb,z7a,zga,run_underlying k1,run_underlying hT',zea,bX k2,zma,zza,if_false,hlenOf,hcap,if_true,zSb,d2,cZ,hst]
 ·have hnc:¬ (l.length+l'.length<=cap):=by omega
  have hb1:¬ (Builtin.nextslicecap (l.length+l'.length) cap*i0.bytes>2^48):=by
   have h1:=AB hcap;have h2:Builtin.nextslicecap (l.length+l'.length) cap*i0.bytes<=(2*1073741824+200)*16384:=z2a (by omega) mQ.1
   omega
  have hmax:¬ (((l.length+l'.length:Nat):Int)>IntKind.i64.max):=by
   have:IntKind.i64.max=9223372036854775807:=by decide
   omega
  let t:=w.tape w.drawn (.appendCap (l.length+l'.length) cap u)
  let newCap:=l.length+l'.length+t%(2^63-(l.length+l'.length))
  have hzs:z0.cells.size=e.size:=by
   have:=(cw (w:=w) (S:=S) hi5).1;rw[<-zIb,<-this];exact cq _ _ (cR e hn) hn
  refine⟨newCap,(Builtin.zeroCells z0.cells (newCap-(l.length+l'.length))).toList,by omega,?_,?_⟩
  ·have:(Builtin.zeroCells z0.cells (newCap-(l.length+l'.length))).toList.length=(newCap-(l.length+l'.length))*e.size:=by simp[Builtin.zeroCells,hzs]
   rw[this,zva,len,len',<-zYa,<-zYa];congr 1;omega
  ·have hf:Question.forced (.appendCap (l.length+l'.length) cap u)=false:=rfl;simp only[Builtin.append_,zFc,zeb,z7a,zga,run_underlying k1,run_underlying hT',zea,bX k2,zma,zza,if_false,hlenOf,hnc,zSb,if_true,typeInfo,run_program,hi1,false_or,hmax,false_and,hb1,run_choose,hf,run_askRoom,c2,d4,zeroValue,hi4,newRow,run_newObj];have e1:(cs++cs''++(Builtin.zeroCells z0.cells (newCap-(l.length+l'.length))).toList).toArray=cs.toArray++cs''.toArray++Builtin.zeroCells z0.cells (newCap-(l.length+l'.length)):=by simp
   rw[e1];simp only[grown];rw[zEd];rfl
def Ai(hE:EnvOk P E)(h:Rp w0 S γ β s a w){dst args argTypes ty pos after guard}(hf:Fr E s γ β ⟨dst,.call ⟨.builtin .append,args,argTypes⟩,ty,pos,after,guard⟩)(hlk:∀ t∈s.lkS,dst≠some t){R:Type}{K:St->Option R}{r:R}
  (hq:qt E s ⟨dst,.call ⟨.builtin .append,args,argTypes⟩,ty,pos,after,guard⟩ K=some r):∃ s',K s'=some r/\Gw P w0 S γ β s a w ⟨dst,.call ⟨.builtin .append,args,argTypes⟩,ty,pos,after,guard⟩ s':=by
 simp only[qt] at hq;replace hq:=bind_some_inv hq;obtain⟨T,hT,hq⟩:=hq;replace hq:=bind_some_inv hq;obtain⟨t,ht,hq⟩:=hq;replace hq:=bind_some_inv hq;obtain⟨d,hd,hq⟩:=hq;split at hq<;>first|(cases hq;done)|skip
 rename_i e x y T0 T' hargs htys;split at hq<;>first|(cases hq;done)|skip
 rename_i e2 ht2;replace hq:=bind_some_inv hq;obtain⟨l',hl',hq⟩:=hq;obtain⟨hd4,hγ,hβ,_⟩:=hf rfl d hd;rcases hE.lay T _ ht with⟨ts',jf⟩|hl
 ·cases jf
 rcases hE.lay T' _ ht2 with⟨ts',jf⟩|hlT'
 ·cases jf
 obtain⟨u2,hu2,_⟩:=iM hlT';have hn:=aO _ _ hl;simp only[au] at hn;have hT0:T0=T:=by
  have:argTypes=#[T0,T']:=z7b (by simpa using htys)
  simp_all
 subst hT0;have eT:argTypes=#[T0,T']:=z7b (by simpa using htys)
 have eA:args.map a.eval=#[a.eval x,a.eval y]:=z7b (by simp[hargs])
 have hex:execOp a.eval ⟨dst,.call ⟨.builtin .append,args,argTypes⟩,ty,pos,after,guard⟩=(Builtin.append_ #[T0,T'] ty #[a.eval x,a.eval y] >>= λv=>pure (.value v)):=by
  rw[<-eA,<-eT];rfl
 obtain⟨y1,y2⟩:=jR hn (aV h y) hl';have hx:=aV h x;have own:∀ id:Nat,(dst≠some (id-s.base)\/id<s.base)->id≠s.base+d:=λid hid e=>by
  subst e;rcases hid with hid|hid
  ·simp_all
  ·omega
 split at hq<;>first|(cases hq;done)|skip
 ·
  rename_i e' v l hox;rw[hox] at hx;split at hq<;>first|(cases hq;done)|skip
  rename_i hb;split at hq<;>first|(cases hq;done)|skip
  rename_i hlen;simp only[zaa,zLa] at hb;have:=Ty.eq_of_beq _ _ hb.1;subst this;have hvd:v ∉ s.dead:=λhh=>by
   simp_all
  simp only[AR,AC] at hx;obtain⟨x0,x1,x2,A,cap,x3,x4,x5⟩:=hx;have x3:=az x0 x3;obtain⟨cs,cs',c1,c2,u,r1,r2⟩:=tP (P:=P) (w:=w) (S:=S) hl hu2 ty rfl x2 y1 x4 y2 hlen;obtain⟨p1,p2,p3,p4,p5,p6,p7⟩:=St.put_fields { s with dead:=v::s.dead } dst (.own e' (s.base+d) (l++l'));refine⟨_,hq,p5,p6,p2,p4,λid _ _=>by rw[p1],?_⟩
  rcases zna cap (l.length+l'.length) with hcap|hcap
  ·obtain⟨newCap,rest,n1,n2,n3⟩:=r2 hcap;obtain⟨b1,b2⟩:=h.bury v;obtain⟨S',β',k1,k2,k3,k4,k5,k6⟩:=xf b1 (v:=s.base+d) hβ (by show s.base+d<s.base+4096;omega) hn (l:=l++l') (λz hz=>(zDa.1 hz).elim (x2 z) (y1 z)) (cs:=cs++cs') (by rw[bW];exact c1.append c2) (T:=u) (rest:=rest) (cap:=newCap) (w.drawn+1) (ztc _) (by rw[zva];exact n1) n2
   rw[zva] at k2;refine .value (by rw[hex,x3];simp only[zga,n3,zea,zma]) ⟨S',γ,β',k1.put k2 dst,⟨k3,λb o hb=>dH (h.Sb b o hb),λt ht=>bQ (hlk t ht),λid hid b hb=>⟨hb,.inl (cJ (h.γn id b hb).2)⟩,by simp,λ_ _ hb=>hb,ku.same bF cY.grown⟩,λid hid=>⟨rfl,k4 id (own id hid)⟩⟩
  ·obtain⟨r3,r4⟩:=r1 hcap;rcases x5 hvd with⟨rfl,rfl⟩|⟨b,off,rfl,hbv,n,hn1,hn2⟩
   ·have z1:l=[]:=by apply List.eq_nil_of_length_eq_zero;omega
    have z2:l'=[]:=by simp_all
    obtain⟨b1,b2⟩:=h.bury v;subst z1;subst z2;refine .value (by rw[hex,x3];simp only[zga,r3 rfl,zea,zma];rfl) ⟨S,γ,β,b1.put (rR hn) dst,⟨λ_ _ hb=>hb,λ_ _ _=>rfl,λt ht=>bQ (hlk t ht),λid hid b hb=>⟨hb,jh.refl _ _⟩,zja _,λ_ _ hb=>hb,ku.same bF (cY.refl _)⟩,λid hid=>⟨rfl,rfl⟩⟩
   ·obtain⟨c,hrow,hcn⟩:=tO hn1;obtain⟨S',β',k1,k2,k3,k4,k5⟩:=FC h (v':=s.base+d) hn x2 y1 hvd hbv hn1 hn2 hcap x4.at_ c2 hβ (by omega)
    refine .value (by rw[hex,x3];simp only[zga,r4 b off c rfl hrow (by omega),zea,zma]) ⟨S',γ,β',k1.put k2 dst,⟨k3,k4,λt ht=>bQ (hlk t ht),λid hid b' hb'=>⟨hb',.inl (cP λe=>h.βγ v id b _ hvd hbv (e ▸ hb'))⟩,by simp,λ_ _ hb=>hb,ku.same bF (cY.putAt hrow)⟩,λid hid=>⟨rfl,k5 id (own id hid)⟩⟩
 ·
  rename_i hox;rw[hox] at hx;split at hq<;>first|(cases hq;done)|skip
  rename_i hlen;simp only[AR,AC] at hx;have x3:=az hx.1 hx.2;have hnil:CR w S (.sl []) (.slice none 0 0):=.sl [] none 0 0 0 (λ_=>undef) (.inl rfl) (zja 0) (λi d hd=>by simp[D.flats] at hd) (λi d hd=>by simp[D.flats] at hd)
  obtain⟨cs,cs',c1,c2,u,r1,r2⟩:=tP (P:=P) (w:=w) (S:=S) hl hu2 (len:=0) ty (l:=[]) rfl (λx hx=>by simp at hx) y1 hnil y2 (by simpa using hlen)
  obtain⟨p1,p2,p3,p4,p5,p6,p7⟩:=St.put_fields s dst (.own e (s.base+d) l');refine⟨_,hq,p5,p6,p2,p4,λid _ _=>by rw[p1],?_⟩
  rcases zna 0 l'.length with hcap|hcap
  ·obtain⟨newCap,rest,n1,n2,n3⟩:=r2 (by simpa using hcap)
   obtain⟨S',β',k1,k2,k3,k4,k5,k6⟩:=xf h (v:=s.base+d) hβ (by omega) hn (l:=[]++l') (λz hz=>y1 z (by simpa using hz)) (cs:=cs++cs') (by rw[bW];exact c1.append c2) (T:=u) (rest:=rest) (cap:=newCap) (w.drawn+1) (ztc _) (by rw[zva];exact n1) n2
   rw[zva] at k2;rw[z3b] at k2;refine .value (by rw[hex,x3];simp only[zga,n3,zea,zma]) ⟨S',γ,β',k1.put k2 dst,⟨k3,λb o hb=>dH (h.Sb b o hb),λt ht=>bQ (hlk t ht),λid hid b hb=>⟨hb,.inl (cJ (h.γn id b hb).2)⟩,by simp,λ_ _ hb=>hb,ku.same bF cY.grown⟩,λid hid=>⟨rfl,k4 id (own id hid)⟩⟩
  ·have z2:l'=[]:=by apply List.eq_nil_of_length_eq_zero;omega
   subst z2;obtain⟨r3,_⟩:=r1 (by simp)
   refine .value (by rw[hex,x3];simp only[zga,r3 rfl,zea,zma];rfl) ⟨S,γ,β,h.put (rR hn) dst,⟨λ_ _ hb=>hb,λ_ _ _=>rfl,λt ht=>bQ (hlk t ht),λid hid b hb=>⟨hb,jh.refl _ _⟩,zja _,λ_ _ hb=>hb,ku.same bF (cY.refl _)⟩,λid hid=>⟨rfl,rfl⟩⟩
def xJ{k:IntKind}{l:List D}(h:∀ x∈l,wt (.int k) x):D.flats l=l:=by
 induction l with
 | nil=>rfl
 | cons x l ih=>
  obtain⟨n,rfl⟩:∃ n,x=.int k n:=by have:=h x zka;simpa only[wt] using this
  rw[D.flats,ih λy hy=>h y (zha _ hy)];rfl
def zC{x:D}{l:List D}(h:x.stl=some l):x=.st l:=by
 cases x<;>simp[D.stl] at h;rw[h]
def EN(hE:EnvOk P E)(h:Rp w0 S γ β s a w){dst args argTypes ty pos after guard}(hlk:∀ t∈s.lkS,dst≠some t){R:Type}{K:St->Option R}{r:R}
  (hq:qt E s ⟨dst,.call ⟨.builtin .copy,args,argTypes⟩,ty,pos,after,guard⟩ K=some r):∃ s',K s'=some r/\Gw P w0 S γ β s a w ⟨dst,.call ⟨.builtin .copy,args,argTypes⟩,ty,pos,after,guard⟩ s':=by
 simp only[qt] at hq;split at hq<;>first|(cases hq;done)|skip
 rename_i x y T0 T' hargs htys;split at hq<;>first|(cases hq;done)|skip
 rename_i k ht;split at hq<;>first|(cases hq;done)|skip
 rename_i e id lo n e' id' lo' n' hox hoy;split at hq<;>first|(cases hq;done)|skip
 rename_i m f g x1 m' f' g' y1 hov hov';split at hq<;>first|(cases hq;done)|skip
 rename_i hb;simp only[zaa,zLa] at hb;obtain⟨⟨⟨⟨⟨⟨b1,b2⟩,b3⟩,b4⟩,b5⟩,b6⟩,b7⟩:=hb;have:=Ty.eq_of_beq _ _ b1;subst this;have:=Ty.eq_of_beq _ _ b2;subst this;have:=Ty.eq_of_beq _ _ b3;subst this;have:=Ty.eq_of_beq _ _ b4;subst this;have:=Ty.eq_of_beq _ _ b5;subst this;have:=Ty.eq_of_beq _ _ b6;subst this;replace hq:=bind_some_inv hq;obtain⟨l,hl,hq⟩:=hq;replace hq:=bind_some_inv hq;obtain⟨l',hl',hq⟩:=hq;have:=zC hl;subst this;have:=zC hl';subst this;have hlo:id ∉ s.lkO:=by
  simp_all
 have hx:=aV h x;have hy:=aV h y;rw[hox] at hx;rw[hoy] at hy;simp only[AR,AC,if_true] at hx hy;obtain⟨x0,_,b,off,cap,x3,x4,x5⟩:=hx;obtain⟨y0,_,b',off',cap',y3,y4,y5⟩:=hy;have x3:=az x0 x3;have y3:=az y0 y3;obtain⟨mm,z1,z2,rfl⟩:=x5 _ hov;obtain⟨mm',w1,w2,rfl⟩:=y5 _ hov';simp only[fB,aR,zda,Ty.arr.injEq,and_true] at z1 w1;subst z1;subst w1;have hO:=h.obs id _ b hov x4;have hO':=h.obs id' _ b' hov' y4;simp only[gL] at hO hO';obtain⟨o1,o2,o3,cs,o4,o5,o6⟩:=hO;obtain⟨p1,p2,p3,cs',p4,p5,p6⟩:=hO';simp only[AC] at o5 p5;obtain⟨q1,q2,q3⟩:=o5;obtain⟨r1,r2,r3⟩:=p5;simp only[wt] at q1 r1;obtain⟨_,⟨rfl⟩,q4,q5⟩:=q1;obtain⟨_,⟨rfl⟩,r4,r5⟩:=r1;simp only[D.flat] at q3 r3;rw[xJ q5] at q3;rw[xJ r5] at r3;obtain⟨c,hc⟩:∃ c,c=min n' n:=⟨_,rfl⟩;rw[<-hc] at hq;have hcl:cs.length=m:=by rw[<-q3.1,q4]
 have hcl':cs'.length=m':=by rw[<-r3.1,r4]
 have eo:cE (.one (.arr m (.int k)) (.d (.arr m (.int k)) (.st l))) []+lo*(Ty.int k).size=lo:=by simp[cE,aW,Ty.size]
 have eo':cE (.one (.arr m' (.int k)) (.d (.arr m' (.int k)) (.st l'))) []+lo'*(Ty.int k).size=lo':=by simp[cE,aW,Ty.size]
 rw[eo] at x3;rw[eo'] at y3;have hload:(loadCells ⟨b',lo',none⟩ c).run P w=.ok ((cs'.drop lo').take c).toArray w:=by
  have:=run_loadCells_list (P:=P) w ⟨b',lo',none⟩ ((cs'.drop lo').take c) (λj v hv=>by
   have hj:j<c:=by have:=(zla.1 hv).1;simp at this;omega
   rw[zvb hj,zgb] at hv;rw[cZ,dG w p4];simpa using hv)
  rwa [show((cs'.drop lo').take c).length=c by simp;omega] at this
 have hsz:lo+((cs'.drop lo').take c).toArray.size<=cs.toArray.size:=by simp;omega
 have hone:((cs'.drop lo').take c).all lL=true:=by
  rw[zpa];intro v hv;obtain⟨j,hj,rfl⟩:=zTa (zMb (zRa hv));have hj':j<l'.length:=by rw[r3.1];exact hj
  have hcr:=r3.2 j l'[j] cs'[j] (zca hj') (zca hj);obtain⟨nn,hn⟩:∃ nn,l'[j]=.int k nn:=by have:=r5 l'[j] (zra hj');simpa only[wt] using this
  rw[hn] at hcr;generalize cs'[j]=v at hcr;cases hcr;rfl
 have hst:=dm (P:=P) b lo ((cs'.drop lo').take c) 0 w cs.toArray o4 (by simp;omega) hone
 obtain⟨u,hu,hlu⟩:=iM (js hE ht (by rfl))
 have hsu:=bX hlu w;have eT:argTypes=#[T0,T']:=z7b (by simpa using htys)
 have eA:args.map a.eval=#[a.eval x,a.eval y]:=z7b (by simp[hargs])
 have hex:execOp a.eval ⟨dst,.call ⟨.builtin .copy,args,argTypes⟩,ty,pos,after,guard⟩=(Builtin.copy_ #[T0,T'] ty #[a.eval x,a.eval y] >>= λv=>pure (.value v)):=by
  rw[<-eA,<-eT];rfl
 have hnew:cS w S (l.take lo++((l'.drop lo').take c++l.drop (lo+c))) (cs.take lo++((cs'.drop lo').take c++cs.drop (lo+c))):=by
  have part:∀ {A:List D} {B:List Value} (i:Nat),cS w S A B->cS w S (A.take i) (B.take i)/\cS w S (A.drop i) (B.drop i):=λ{A B} i hAB=>by
   have e:A=A.take i++A.drop i:=(zoa i A).symm;have hAB':=hAB;rw[e] at hAB';obtain⟨k1,k2⟩:=hAB'.split;rw[zbb,<-e] at *;rcases Nat.le_total i A.length with hi|hi
   ·rw[zpb hi] at k1 k2;exact⟨k1,k2⟩
   ·rw[zOb hi,zOb (by rw[<-hAB.1];exact hi),zic hi,zic (by rw[<-hAB.1];exact hi)]
    exact⟨hAB,cS.nil⟩
  exact(part lo q3).1.append ((part c (part lo' r3).2).1.append (part (lo+c) q3).2)
 have hwtn:wt (.arr m (.int k)) (.st (l.take lo++((l'.drop lo').take c++l.drop (lo+c)))):=by
  simp only[wt];refine⟨_,rfl,by simp;omega,λz hz=>?_⟩
  rcases zDa.1 hz with hz|hz
  ·exact q5 z (zRa hz)
  rcases zDa.1 hz with hz|hz
  ·exact r5 z (zMb (zRa hz))
  ·exact q5 z (zMb hz)
 have hflat:(D.st (l.take lo++((l'.drop lo').take c++l.drop (lo+c)))).flat=l.take lo++((l'.drop lo').take c++l.drop (lo+c)):=by
  simp only[D.flat];simp only[wt] at hwtn;obtain⟨_,⟨rfl⟩,_,t3⟩:=hwtn;exact xJ t3
 have hbS:∀ b' o,S b' o->b'≠b:=λb' o hb e=>o3 o (e ▸ hb);have hcells:dW cs.toArray lo ((cs'.drop lo').take c).toArray=(cs.take lo++((cs'.drop lo').take c++cs.drop (lo+c))).toArray:=by
  have e:cs=cs.take lo++((cs.drop lo).take c++(cs.drop lo).drop c):=by rw[zoa,zoa]
  have e2:(cs.take lo).length=lo:=by rw[zbb];omega
  conv=>lhs;rw[e]
  rw[zGd];have:=gT (cs.take lo) ((cs.drop lo).take c) (cs.drop (lo+c)) ((cs'.drop lo').take c) (by simp;omega)
  rw[e2] at this;exact this
 obtain⟨n1,n2⟩:=h.write (o':=.one (.arr m (.int k)) (.d (.arr m (.int k)) (.st (l.take lo++((l'.drop lo').take c++l.drop (lo+c)))))) hov x4 o3 o4 hsz (λp=>⟨rfl,rfl⟩) (λt l e=>by cases e) (λ_ _ _ e=>by cases e) (by
  simp only[gL];refine⟨o1,o2,o3,cs.take lo++((cs'.drop lo').take c++cs.drop (lo+c)),by rw[iu o4,hcells],?_,by simp[Ty.size] at *;omega⟩
  simp only[AC];refine⟨hwtn,q2,?_⟩;rw[hflat];exact hnew.mono (λb' o hb=>cD (hbS b' o hb)) λ_ _ hh=>hh)
 obtain⟨f1,f2,f3,f4,f5,f6,f7⟩:=St.put_fields (s.setOb id (some (.one (.arr m (.int k)) (.d (.arr m (.int k)) (.st (l.take lo++((l'.drop lo').take c++l.drop (lo+c)))))))) dst (.d (.int .i64) (.int .i64 (c:Nat)));refine⟨_,hq,f5,f6,f2,f4,λi hi _=>?_,.value (v:=.int .i64 (c:Nat)) (w':=putAt w b lo ((cs'.drop lo').take c).toArray) ?_ ⟨S,γ,β,n1.put (cH _ _) dst,?_,λ_ _=>⟨rfl,rfl⟩⟩⟩
 ·rw[f1];simp only[St.setOb];rw[if_neg];intro e;subst e;rw[x4] at hi;cases hi
 ·rw[hex,x3,y3];simp only[z2b] at hst;have e1:Nat.min n' n=c:=hc.symm;simp[Builtin.copy_,run_underlying hu,Builtin.lenOf,Builtin.firstCells,zga,hsu,e1,Ty.size,hload,hst,goInt]
 ·exact⟨λ_ _ hb=>hb,λb' o hb=>cD (hbS b' o hb),λt ht=>bQ (hlk t ht),λi hi b' hb'=>⟨hb',.inl (cP λe=>hlo ((h.γi id i b x4 (e ▸ hb')) ▸ hi))⟩,by simp,λ_ _ hb=>hb,ku.same bF (cY.putAt (by first|assumption))⟩
def wD(hE:EnvOk P E)(h:Rp w0 S γ β s a w){o:Oper}(hf:Fr E s γ β o)(hT:∀ T t,(o.op=.alloc T\/∃ x,o.op=.box T x)->E.L T=some t->au t=true)(hlk:∀ t∈s.lkS,o.dst≠some t)(hst:∀ T x y,o.op=.store T x y->o.dst=none){R:Type}{K:St->Option R}{r:R}
  (hq:qt E s o K=some r):∃ s',K s'=some r/\Gw P w0 S γ β s a w o s':=by
 have quiet:qv E s o (λv=>K (s.put o.dst v))=some r->∃ s',K s'=some r/\Gw P w0 S γ β s a w o s':=λhq=>uU hE h hf (λT t e=>hT T t (.inl e)) hlk hq;obtain⟨dst,op,ty,pos,after,guard⟩:=o;cases op
 case store T x y=>exact CQ hE h hlk (hst T x y rfl) hq
 case box T x=>exact IH hE h hf hlk (λt=>hT T t (.inr ⟨x,rfl⟩)) hq
 case makeSlice T x y=>exact uo hE h hf hlk hq
 case makeMap T x=>exact yu hE h hf hlk hq
 case mapUpdate T x y z=>exact uq hE h hq
 case call c=>
  obtain⟨callee,args,argTypes⟩:=c;cases callee
  case builtin b=>
   cases b
   case append=>exact Ai hE h hf hlk hq
   case copy=>exact EN hE h hlk hq
   all_goals exact quiet hq
  all_goals exact quiet hq
 all_goals exact quiet hq
end
end Sy
end
noncomputable section
namespace Sy
open Go
def lv{α β R:Type}{x:Option α}{f:α->Option R}{g:α->Option β}{K:β->Option R}(h:∀ a,f a=(g a).bind K):x.bind f=(x.bind g).bind K:=by
 cases x with
 | none=>rfl
 | some a=>exact h a
def yC{R:Type}:∀ (p:List Nat) (a:AV) (K:AV->Option R),wJ a p K=(wJ a p some).bind K:=by
 intro p
 induction p with
 | nil=>intro a K;cases a<;>rfl
 | cons i p ih=>
  intro a K;cases a<;>simp only[wJ]<;>first
   | rfl
   | exact lv λt=>lv λy=>rfl
   | exact lv λb=>ih b K
def nF{R:Type}(o:Ob)(p:List Nat)(K:AV->Option R):iV o p K=(iV o p some).bind K:=by
 cases o with
 | one t v=>exact yC p v K
 | many t l=>
  cases p with
  | nil=>rfl
  | cons i p=>exact lv λx=>yC p _ K
 | mp kt vt l=>rfl
 | lp i q=>rfl
def zl{R:Type}{o:Ob}{p:List Nat}{f:AV->Option R}{g:AV->Option AV}{K:AV->Option R}(h:∀ v,f v=(g v).bind K):iV o p f=(iV o p g).bind K:=by
 rw[nF,nF _ _ g];cases iV o p some with
 | none=>rfl
 | some v=>exact h v
def EH{α R:Type}{c:Bool}{A:Option R}{B:Option α}{K:α->Option R}(h:A=B.bind K):(bif c then A else none)=(bif c then B else none).bind K:=by
 all_goals grind
def FM{R:Type}(E:Env)(s:St)(o:Oper)(K:AV->Option R):qv E s o K=(qv E s o some).bind K:=by
 obtain⟨dst,op,ty,pos,after,guard⟩:=o;cases op<;>simp only[qv]<;>(repeat' first|rfl|exact nF _ _ _|refine zl λ_=>?_|refine lv λ_=>?_|refine EH ?_|split)
structure Wk(s s':St):Prop where
 tm:∀ t,s'.tm t=s.tm t\/s'.tm t=.undef
 ob:s'.ob=s.ob
 fresh:s'.fresh=s.fresh
 dead:s'.dead=s.dead
 nt:s'.nt=s.nt
 lkS:s'.lkS=s.lkS
 lkO:s'.lkO=s.lkO
def Wk.refl(s:St):Wk s s:=⟨λ_=>.inl rfl,rfl,rfl,rfl,rfl,rfl,rfl⟩
theorem Wk.trans{a b c:St}(h:Wk a b)(k:Wk b c):Wk a c:=
 ⟨λt=>by
  rcases k.tm t with e|e
  ·rw[e];exact h.tm t
  ·exact .inr e,k.ob.trans h.ob,k.fresh.trans h.fresh,k.dead.trans h.dead,k.nt.trans h.nt,k.lkS.trans h.lkS,k.lkO.trans h.lkO⟩
theorem Wk.put{s s':St}(h:Wk s s')(d:Option Nat){v v':AV}(hv:v'=v\/v'=.undef):Wk (s.put d v) (s'.put d v'):=by
 cases d with
 | none=>exact h
 | some d=>
  simp only[St.put,h.nt];split
  ·refine⟨λt=>?_,h.ob,h.fresh,h.dead,by first|exact h.nt|rfl,h.lkS,h.lkO⟩
   by_cases e:t=d
   ·simp_all
   ·simp only[e,if_false];exact h.tm t
  ·exact h
def Wk.kill(s:St)(d:Option Nat):Wk s (s.put d .undef):=by
 cases d with
 | none=>exact Wk.refl s
 | some d=>
  simp only[St.put];split
  ·refine⟨λt=>?_,rfl,rfl,rfl,rfl,rfl,rfl⟩;all_goals grind
  ·exact Wk.refl s
theorem Wk.killD:∀ (l:List Oper) (s:St),Wk s (killD s l)
 | [],s=>Wk.refl s
 | o::l,s=>(Wk.kill s o.dst).trans (Wk.killD l _)
theorem Wk.opA{s s':St}(h:Wk s s')(x:Operand):s'.opA x=s.opA x\/s'.opA x=.undef:=by
 cases x with
 | tmp t=>exact h.tm t
 | const v=>exact .inl rfl
 | global g=>exact .inl rfl
 | func f=>exact .inl rfl
theorem iw{ob:Nat->Option Ob}{t:Ty}:AV.toD ob t .undef=none:=by cases t<;>rfl
def Rp.wk{w0:Root}{S:Nat->Nat->Prop}{γ:Nat->Option Nat}{β:Nat->Option (Nat×Nat)}{s s':St}{a:Act}{w:World}(h:Rp w0 S γ β s a w)(k:Wk s s'):Rp w0 S γ β s' a w:=by
 have e1:=k.ob;have e2:=k.dead;have e3:s'.base=s.base:=by simp only[St.base,k.fresh]
 refine⟨h.ext,λt ht=>?_,h.nt.trans k.nt.symm,λt ht=>?_,?_,h.γn,h.γi,?_,?_,?_,?_,?_,h.Sb,h.So⟩
 ·rw[e1,e2];rcases k.tm t with e|e
  ·rw[e];exact h.tms t ht
  ·rw[e];simp[AR]
 ·rcases k.tm t with e|e
  ·rw[e];exact h.tmu t (k.nt ▸ ht)
  ·exact e
 ·rw[e1,e2];exact h.obs
 ·rw[e3];exact h.γf
 ·rw[e2];exact h.βn
 ·rw[e2];exact h.βi
 ·rw[e2];exact h.βγ
 ·rw[e3];exact h.βf
section
variable{E:Env}{s s':St}
theorem Wk.toDl(h:Wk s s'):∀ (l:List Operand) (ts:List Ty) {xs:List D},AV.toDl s'.ob ts (l.map s'.opA)=some xs->AV.toDl s.ob ts (l.map s.opA)=some xs
 | [],ts,xs,hx=>by grind [AV.toDl]
 | y::l,ts,xs,hx=>by
  cases ts<;>simp only[z6a,AV.toDl] at hx ⊢<;>first|(cases hx;done)|skip
  obtain⟨x,h1,h2⟩:=bind_some_inv hx;obtain⟨ys,h3,h4⟩:=bind_some_inv h2;rcases h.opA y with e|e
  ·rw[e,h.ob] at h1;rw[h1,zba,h.toDl l _ h3];exact h4
  ·simp_all [iw]
theorem Wk.partsD(h:Wk s s')(ty:Nat->Option Ty):∀ (l:List (Nat×Operand)) {xs:List (Nat×D)},Sy.partsD s'.ob s' ty l=some xs->Sy.partsD s.ob s ty l=some xs
 | [],xs,hx=>hx
 | (i,y)::l,xs,hx=>by
  simp only[Sy.partsD] at hx ⊢;obtain⟨t,h0,hx⟩:=bind_some_inv hx;obtain⟨x,h1,h2⟩:=bind_some_inv hx;obtain⟨ys,h3,h4⟩:=bind_some_inv h2;rw[h0,zba];rcases h.opA y with e|e
  ·rw[e,h.ob] at h1;rw[h1,zba,h.partsD ty l h3];exact h4
  ·simp_all [iw]
theorem Wk.asList(h:Wk s s'){e:Ty}{x:Operand}{l:List D}(hx:(s'.opA x).asList s'.ob e=some l):s'.opA x=s.opA x:=by
 rcases h.opA x with k|k
 ·exact k
 ·simp_all [AV.asList,iw]
theorem Wk.isD(h:Wk s s'){x:Operand}{p:Ty×D}(hx:Sy.isD (s'.opA x)=some p):s'.opA x=s.opA x:=by
 rcases h.opA x with k|k
 ·exact k
 ·simp_all [Sy.isD]
theorem Wk.truth(h:Wk s s'){x:Operand}{b:Bool}(hx:(s'.opA x).truth=some b):s'.opA x=s.opA x:=by
 rcases h.opA x with k|k
 ·exact k
 ·simp_all [AV.truth]
end
end Sy
end
noncomputable section
namespace Sy
open Go
section
variable{E:Env}{s s':St}
def Wk.base_eq(h:Wk s s'):s'.base=s.base:=by simp only[St.base,h.fresh]
theorem Wk.qv(h:Wk s s'){o:Oper}{v':AV}(hq:Sy.qv E s' o some=some v'):∃ v,Sy.qv E s o some=some v/\(v'=v\/v'=.undef):=by
 obtain⟨dst,op,ty,pos,after,guard⟩:=o;have hob:=h.ob;have hba:=h.base_eq;have same:∀ {x y:Option AV},x=some v'->y=x->∃ v,y=some v/\(v'=v\/v'=.undef):=λhx hy=>⟨v',hy.trans hx,.inl rfl⟩;cases op<;>simp only[Sy.qv] at hq ⊢<;>(try (cases hq;done))
 case move x=>
  simp only[zda] at hq;exact⟨_,rfl,by rcases h.opA x with e|e<;>simp[<-hq,e]⟩
 case assign x=>
  simp only[zda] at hq;exact⟨_,rfl,by rcases h.opA x with e|e<;>simp[<-hq,e]⟩
 case pick c x y=>
  obtain⟨b,h1,h2⟩:=bind_some_inv hq;rw[<-h.truth h1,h1,zba];cases b
  ·simp only[zza,if_false,zda] at h2 ⊢;exact⟨_,rfl,by rcases h.opA y with e|e<;>simp[<-h2,e]⟩
  ·simp only[if_true,zda] at h2 ⊢;exact⟨_,rfl,by rcases h.opA x with e|e<;>simp[<-h2,e]⟩
 case alloc T=>rw[hba] at hq;exact same hq rfl
 case load T x=>
  obtain⟨t,h1,h2⟩:=bind_some_inv hq;rcases h.opA x with e|e
  ·simp_all
  ·simp_all
 case fieldAddr T x f=>
  obtain⟨t,h1,h2⟩:=bind_some_inv hq;rcases h.opA x with e|e
  ·simp_all
  ·simp_all
 case indexAddr T x i=>
  obtain⟨t,h1,h2⟩:=bind_some_inv hq;obtain⟨p,h3,h4⟩:=bind_some_inv h2;have ei:=h.isD h3;rcases h.opA x with e|e
  ·simp_all
  ·rw[e] at h4;all_goals grind [AV.asList,iw]
 case lookup T x i c=>
  obtain⟨t,h1,h2⟩:=bind_some_inv hq;rcases h.opA x with e|e
  ·rw[e,hob] at h2 hq;have ei:s'.opA i=s.opA i:=by
    split at h2<;>first|(cases h2;done)|skip
    split at h2<;>first|(cases h2;done)|skip
    split at h2<;>first|(cases h2;done)|skip
    split at h2<;>first|(cases h2;done)|skip
    obtain⟨p,h3,_⟩:=bind_some_inv h2;exact h.isD h3
   simp_all
  ·simp_all
 case field T x f=>
  obtain⟨t,h1,h2⟩:=bind_some_inv hq;rcases h.opA x with e|e
  ·simp_all
  ·simp_all
 case index T x i=>
  obtain⟨t,h1,h2⟩:=bind_some_inv hq;obtain⟨p,h3,h4⟩:=bind_some_inv h2;have ei:=h.isD h3;rcases h.opA x with e|e
  ·simp_all
  ·simp_all
 case binOp op T x y T'=>
  obtain⟨t,h1,h2⟩:=bind_some_inv hq;obtain⟨p,h3,h4⟩:=bind_some_inv h2;obtain⟨q,h5,h6⟩:=bind_some_inv h4;grind [h.isD]
 case unOp op T x=>
  obtain⟨p,h3,h4⟩:=bind_some_inv hq;grind [h.isD]
 case convert U T x=>
  obtain⟨u,h1,h2⟩:=bind_some_inv hq;obtain⟨t,h1',h2⟩:=bind_some_inv h2;obtain⟨p,h3,h4⟩:=bind_some_inv h2;grind [h.isD]
 case nilCheck x=>
  rcases h.opA x with e|e
  ·simp_all
  ·simp_all
 case extract x i=>
  rcases h.opA x with e|e
  ·simp_all
  ·simp_all
 case build T ps=>
  obtain⟨t,h1,h2⟩:=bind_some_inv hq;rw[h1,zba];cases t<;>simp only at h2 ⊢<;>(try (cases h2;done))
  case st ts=>
   split at h2
   ·rename_i hs;rw[if_pos hs];split at h2<;>first|(cases h2;done)|skip
    rename_i hall;have key:∀ (l:List (Nat×Operand)),l.all (fT s' ts)=true->l.all (fT s ts)=true/\(l.map λp=>(p.1,s'.opA p.2))=l.map λp=>(p.1,s.opA p.2):=by
     intro l
     induction l with
     | nil=>intro _;exact⟨rfl,rfl⟩
     | cons p l ih=>
      intro hh;simp only[zKb,zaa] at hh;obtain⟨k1,k2⟩:=ih hh.2;have h3:=hh.1;have e:s'.opA p.2=s.opA p.2:=by
       rcases h.opA p.2 with e|e
       ·exact e
       ·unfold fT at h3;rw[e] at h3;all_goals grind [AV.fits]
      have h3':fT s ts p=true:=by simp_all [fT]
      grind
    grind
   ·rename_i hs;rw[if_neg hs];obtain⟨l,h3,h4⟩:=bind_some_inv h2
    simp_all [h.partsD,zba]
  case arr n e=>
   obtain⟨l,h3,h4⟩:=bind_some_inv h2
   simp_all [h.partsD,zba]
 case buildSlice T n ps=>
  obtain⟨t,h1,h2⟩:=bind_some_inv hq;rw[h1,zba];cases t<;>simp only at h2 ⊢<;>(try (cases h2;done))
  split at h2<;>first|(cases h2;done)|skip
  rename_i hn;rw[if_pos hn];obtain⟨d,h3,h4⟩:=bind_some_inv h2;obtain⟨l,h5,h6⟩:=bind_some_inv h4
  simp_all [zba,h.partsD]
 case slice T x lo hi mx=>
  cases mx with
  | some m=>cases hq
  | none=>
   obtain⟨t,h1,h2⟩:=bind_some_inv hq;cases t<;>simp only at h2<;>(try (cases h2;done))
   case arr m e=>
    rcases h.opA x with ex|ex
    ·rw[ex] at h2 hq;rw[hob] at hq;have key:(∀ i,lo=some i->s'.opA i=s.opA i)/\(∀ i,hi=some i->s'.opA i=s.opA i):=by
      clear hq;split at h2<;>first|(cases h2;done)|skip
      split at h2<;>first|(cases h2;done)|skip
      obtain⟨lo',h5,h6⟩:=bind_some_inv h2;obtain⟨hi',h7,h8⟩:=bind_some_inv h6;refine⟨λi hi=>?_,λi hi=>?_⟩
      ·subst hi;obtain⟨p,h9,_⟩:=bind_some_inv h5;exact h.isD h9
      ·subst hi;obtain⟨p,h9,_⟩:=bind_some_inv h7;exact h.isD h9
     obtain⟨elo,ehi⟩:=key;clear h2;cases lo<;>cases hi<;>simp only at hq ⊢
     ·simp_all
     ·simp_all
     ·simp_all
     ·simp_all
    ·simp_all
   obtain⟨l,h3,h4⟩:=bind_some_inv h2;obtain⟨lo',h5,h6⟩:=bind_some_inv h4;obtain⟨hi',h7,h8⟩:=bind_some_inv h6;have ex:=h.asList h3;have elo:∀ i,lo=some i->s'.opA i=s.opA i:=λi hi=>by
    subst hi;obtain⟨p,h9,_⟩:=bind_some_inv h5;exact h.isD h9
   have ehi:∀ i,hi=some i->s'.opA i=s.opA i:=λi hi=>by
    subst hi;obtain⟨p,h9,_⟩:=bind_some_inv h7;exact h.isD h9
   all_goals grind
 case sliceToArrayPointer T x=>
  obtain⟨t,h1,h2⟩:=bind_some_inv hq;rcases h.opA x with e|e
  ·simp_all
  ·rw[e] at h2;cases t<;>first|(cases h2;done)|(simp[AV.asList,iw] at h2;done)
 case makeFunc fn first captured=>
  cases fn<;>simp only at hq ⊢<;>(try (cases hq;done))
  split at hq<;>first|(cases hq;done)|skip
  rename_i hh;have key:∀ (l:List Operand),(l.all λx=>fW (s'.opA x))=true->(l.all λx=>fW (s.opA x))=true/\l.map s'.opA=l.map s.opA:=by
   intro l
   induction l with
   | nil=>intro _;exact⟨rfl,rfl⟩
   | cons p l ih=>
    intro hh;simp only[zKb,zaa] at hh;obtain⟨k1,k2⟩:=ih hh.2;have h3:=hh.1;have e:s'.opA p=s.opA p:=by
     rcases h.opA p with e|e
     ·exact e
     ·simp_all [fW]
    simp_all
  grind
 case call c=>
  obtain⟨callee,args,argTypes⟩:=c;cases callee<;>simp only at hq ⊢<;>(try (cases hq;done))
  case value f=>
   cases f<;>simp only at hq ⊢<;>(try (cases hq;done))
   case func f=>
    obtain⟨g,h1,h2⟩:=bind_some_inv hq;cases hfr:Nat.beq (E.free f) 0 with
    | false=>rw[hfr] at h2;cases h2
    | true=>
    rw[hfr] at h2;simp only[cond_true] at h2;obtain⟨xs,h3,h4⟩:=bind_some_inv h2;rw[h1,zba,cond_true,h.toDl _ _ h3,zba];exact⟨v',h4,.inl rfl⟩
   case tmp t=>
    split at hq<;>first|(cases hq;done)|skip
    rename_i f l ht;obtain⟨g,h1,h2⟩:=bind_some_inv hq;cases hfr:(Nat.beq (E.free f) l.length&&df (sj l)) with
    | false=>rw[hfr] at h2;cases h2
    | true=>
    rw[hfr] at h2;simp only[cond_true] at h2;obtain⟨xs,h3,h4⟩:=bind_some_inv h2;have e:s.tm t=.clo f l:=by
     rcases h.opA (.tmp t) with e|e
     ·exact e.symm.trans ht
     ·have:s'.tm t=.undef:=e;rw[ht] at this;cases this
    rw[e];simp only;rw[h1,zba,hfr,cond_true,h.toDl _ _ h3,zba];rw[hob] at h4;exact⟨v',h4,.inl rfl⟩
  case builtin b=>
   cases b<;>simp only at hq ⊢<;>(try (cases hq;done))
   case len=>
    obtain⟨T,h1,h2⟩:=bind_some_inv hq;obtain⟨t,h3,h4⟩:=bind_some_inv h2;obtain⟨x,h5,h6⟩:=bind_some_inv h4;rcases h.opA x with e|e
    ·rw[h1,zba,h3,zba,h5,zba];cases t<;>simp only at h6 ⊢<;>first
      | (cases h6;done)
      | (rw[e,hob] at h6;exact same h6 rfl)
      | (rw[e] at h6;exact⟨v',h6,.inl rfl⟩)
      | exact⟨v',h6,.inl rfl⟩
    ·rw[h1,zba,h3,zba,h5,zba];cases t<;>simp only at h6 ⊢<;>first
      | (cases h6;done)
      | (rw[e] at h6;simp[AV.asList,iw] at h6;done)
      | (rw[e] at h6;simp[Sy.isD] at h6;done)
      | exact⟨v',h6,.inl rfl⟩
   case min=>
    split at hq<;>first|(cases hq;done)|skip
    obtain⟨p,h3,h4⟩:=bind_some_inv hq;obtain⟨q,h5,h6⟩:=bind_some_inv h4;rw[h.isD h3,h.isD h5] at hq;exact same hq rfl
   case max=>
    split at hq<;>first|(cases hq;done)|skip
    obtain⟨p,h3,h4⟩:=bind_some_inv hq;obtain⟨q,h5,h6⟩:=bind_some_inv h4;rw[h.isD h3,h.isD h5] at hq;exact same hq rfl
end
def val(E:Env)(ops:Array Oper)(s:St)(o:Oper):Option AV:=
 if j7 s o then none else
 match o.guard with
 | none=>qv E s o some
 | some (j,want)=>((ops[j]?).bind (·.dst)).bind λg=>wM (s.tm g) (some .gone) ((s.tm g).truth.bind λc=>if c==want then qv E s o some else some .gone)
def seqV(E:Env)(ops:Array Oper):List Oper->St->Option St
 | [],s=>some s
 | o::l,s=>(val E ops s o).bind λv=>seqV E ops l (s.put o.dst v)
section
variable{E:Env}{ops:Array Oper}{s s':St}
def Wk.lkd_eq(h:Wk s s')(o:Oper):j7 s' o=j7 s o:=by simp only[j7,h.lkS]
theorem Wk.val(h:Wk s s'){o:Oper}{v':AV}(hq:Sy.val E ops s' o=some v'):∃ v,Sy.val E ops s o=some v/\(v'=v\/v'=.undef):=by
 unfold Sy.val at hq ⊢;rw[h.lkd_eq] at hq;split at hq<;>first|(cases hq;done)|skip
 rename_i hlk;rw[if_neg hlk];cases hg:o.guard with
 | none=>rw[hg] at hq;exact h.qv hq
 | some p=>
  obtain⟨j,want⟩:=p;rw[hg] at hq;simp only at hq ⊢;obtain⟨g,h1,h2⟩:=bind_some_inv hq;rw[h1,zba];by_cases hgo:s'.tm g=.gone
  ·have e:s'.tm g=s.tm g:=by
    rcases h.tm g with e|e
    ·exact e
    ·simp_all
   rw[hgo,fE] at h2;rw[<-e,hgo,fE];exact⟨v',h2,.inl rfl⟩
  rw[fF hgo] at h2;obtain⟨c,h3,h4⟩:=bind_some_inv h2;have e:s'.tm g=s.tm g:=h.truth (x:=.tmp g) h3;rw[<-e,fF hgo,h3,zba];split at h4
  ·rename_i hc;rw[if_pos hc];exact h.qv h4
  ·simp_all
theorem Wk.seqV:∀ (l:List Oper) {s s' t':St},Wk s s'->Sy.seqV E ops l s'=some t'->∃ t,Sy.seqV E ops l s=some t/\Wk t t'
 | [],s,s',t',h,hq=>by simp_all [Sy.seqV,zda]
 | o::l,s,s',t',h,hq=>by
  simp only[Sy.seqV] at hq ⊢;obtain⟨v',h1,h2⟩:=bind_some_inv hq;obtain⟨v,h3,h4⟩:=h.val h1;rw[h3,zba];exact Wk.seqV l (h.put o.dst h4) h2
theorem mf:∀ (l l':List Oper) (s:St),Sy.seqV E ops (l++l') s=(Sy.seqV E ops l s).bind (Sy.seqV E ops l')
 | [],l',s=>rfl
 | o::l,l',s=>by
  simp only[zdb,Sy.seqV];cases val E ops s o with
  | none=>rfl
  | some v=>exact mf l l' _
theorem Wk.killD_mono:∀ (l:List Oper) {s s':St},Wk s s'->Wk (Sy.killD s l) (Sy.killD s' l)
 | [],_,_,h=>h
 | o::l,_,_,h=>Wk.killD_mono l (h.put o.dst (.inl rfl))
theorem kg:∀ (l:List Oper) {s t:St},Sy.seqV E ops l s=some t->Wk t (killD s l)
 | [],s,t,h=>by simp only[Sy.seqV,zda] at h;subst h;exact Wk.refl s
 | o::l,s,t,h=>by
  simp only[Sy.seqV] at h;obtain⟨v,h1,h2⟩:=bind_some_inv h;have k1:=kg l h2;refine k1.trans ?_;show Wk (killD (s.put o.dst v) l) (killD (s.put o.dst .undef) l);exact Wk.killD_mono l ((Wk.refl s).put o.dst (.inr rfl))
end
end Sy
end
noncomputable section
namespace Sy
open Go
def gu(o:Oper):Bool:=fm o||(match o.op with|.alloc _=>true|_=>false)
def od{R:Type}(E:Env)(s:St){o:Oper}(h:gu o=true)(K:St->Option R):qt E s o K=qv E s o λv=>K (s.put o.dst v):=by
 obtain⟨dst,op,ty,pos,after,guard⟩:=o;cases op<;>first|rfl|(simp[gu,fm] at h;done)|skip
 rename_i c;obtain⟨callee,args,argTypes⟩:=c;cases callee<;>first|rfl|skip
 rename_i b;cases b<;>first|rfl|(simp[gu,fm] at h)
def ga{R:Type}{E:Env}{s:St}{o:Oper}{K:AV->Option R}{r:R}(h:qv E s o K=some r):∃ v,qv E s o some=some v/\K v=some r:=by
 rw[FM] at h;exact bind_some_inv h
theorem iZ(d:Option Nat):∀ (l:List (Nat×Oper)),l=(dw d l).1++(dw d l).2/\∀ p q,(dw d l).2=p::q->oB d p.2=true
 | []=>⟨rfl,λp q h=>by simp[dw] at h⟩
 | p::l=>by
  simp only[dw];split
  ·simp_all
  ·obtain⟨h1,h2⟩:=iZ d l;grind
def tG{s:St}{d:Nat}{v:AV}(h:s.tm d=v):s.put (some d) v=s:=by
 simp only[St.put];split
 ·have:(λi=>if i=d then v else s.tm i)=s.tm:=by
   all_goals grind
  rw[this]
 ·rfl
def rM{s:St}{d:Nat}{v:AV}(h:d<s.nt):(s.put (some d) v).tm d=v:=by simp[St.put,h]
def jb{v:AV}{b:Bool}(h:v.truth=some b):v=.d .bool (.bool b):=by
 cases v<;>simp only[AV.truth] at h<;>first|(cases h;done)|skip
 grind [Ty.eq_of_beq,vY]
def lJ{R:Type}{s:St}{g:Nat}{c want:Bool}(hc:(s.tm g).truth=some c){A B:St->Option R}{r:R}
  (h:(if c then(if want then A (s.put (some g) (.d .bool (.bool true))) else B (s.put (some g) (.d .bool (.bool true)))) else(if want then B (s.put (some g) (.d .bool (.bool false))) else A (s.put (some g) (.d .bool (.bool false)))))=some r):(if c==want then A s else B s)=some r:=by
 have e:=tG (jb hc);all_goals grind
def qA{d:Option Nat}{o:Oper}(h:oB d o=true):∃ c x y,o.op=.pick c x y:=by
 cases hop:o.op<;>first|exact⟨_,_,_,rfl⟩|(simp[oB,hop] at h)
def kK{o:Oper}(h:fm o=true):gu o=true:=by simp[gu,h]
def Dq{o:Oper}{c x y:Operand}(h:o.op=.pick c x y):gu o=true:=by simp[gu,fm,h]
def sH{E:Env}{ops:Array Oper}:∀ (N:Nat) (R:Type) (l:List (Nat×Oper)) (s:St) (k:St->Option R) (r:R) (m:Nat) (an:Ann),m<=l.length->(∀ p∈l.take m,gu p.2=true/\jY E p.2=false) ->
  ((∀ p∈l.drop m,∀ c x y,p.2.op≠.pick c x y)\/∀ p q,l.drop m=p::q->jT E p.2=false)->eN E N R ops an l s k=some r ->
  ∃ s' s'' N',seqV E ops ((l.take m).map Prod.snd) s=some s'/\Wk s' s''/\eN E N' R ops an (l.drop m) s'' k=some r:=by
 intro N
 induction N with
 | zero=>intro R l s k r m an _ _ _ h;simp[eN] at h
 | succ N ih=>
  intro R l s k r m an hm hq ht h;cases m with
  | zero=>exact⟨s,s,N+1,rfl,Wk.refl s,by simpa using h⟩
  | succ m=>
   cases l with
   | nil=>simp at hm
   | cons p l=>
    obtain⟨i,o⟩:=p;simp only[zBa,Nat.add_le_add_iff_right] at hm;obtain⟨ho,hin⟩:=hq (i,o) (by simp)
    simp only at ho hin;have hq':∀ p∈l.take m,gu p.2=true/\jY E p.2=false:=λp hp=>hq p (by simp[hp])
    have ht':(∀ p∈l.drop m,∀ c x y,p.2.op≠.pick c x y)\/∀ p q,l.drop m=p::q->jT E p.2=false:=by simpa using ht
    have hnx:rK E o an=an:=by simp[rK,hin]
    have hev1:∀ (s:St) (K:St->Option R),Aj E an l s o K=qt E s o K:=λs K=>by simp[Aj,hin]
    simp only[eN,hnx,hev1] at h;have step:∀ {v:AV},val E ops s o=some v->eN E N R ops an l (s.put o.dst v) k=some r->∃ s' s'' N',seqV E ops (((i,o)::l).take (m+1) |>.map Prod.snd) s=some s'/\Wk s' s''/\eN E N' R ops an (((i,o)::l).drop (m+1)) s'' k=some r:=by
     grind [seqV]
    cases hg:o.guard with
    | some jw=>
     obtain⟨j,want⟩:=jw;rw[hg] at h;simp only at h;split at h<;>first|(cases h;done)|skip
     rename_i g hgd;split at h<;>first|(cases h;done)|skip
     rename_i hlk;by_cases hgo:s.tm g=.gone
     ·simp_all [fE,val,zba]
     rw[fF hgo] at h;obtain⟨c,h1,h2⟩:=bind_some_inv h;replace h2:=lJ (A:=λs=>qt E s o λs'=>eN E N R ops an l s' k) (B:=λs=>eN E N R ops an l (s.put o.dst .gone) k) h1 h2;split at h2
     ·rename_i hc;rw[od E s ho] at h2;obtain⟨v,h3,h4⟩:=ga h2
      simp_all [val,zba,fF]
     ·simp_all [val,zba,fF]
    | none=>
     rw[hg] at h;simp only at h;split at h
     ·
      rename_i hgu;simp only[me,zaa] at hgu;obtain⟨_,hcond⟩:=hgu;obtain⟨e1,e2⟩:=iZ o.dst l;generalize dw o.dst l=sp at *;obtain⟨seg,rest⟩:=sp;simp only at h e1 e2 hcond;split at h<;>first|(cases h;done)|skip
      rename_i _ _ jj pk l'' d hd;simp only[hd] at hcond;simp only[zaa,decide_eq_true_eq,zLa,zpa] at hcond;obtain⟨⟨⟨⟨⟨c1,c2⟩,c3⟩,cI⟩,c4⟩,c5⟩:=hcond;have hpk:=e2 _ _ rfl;obtain⟨pc,px,py,hop⟩:=qA hpk;have hseg:seg.length<m:=by
       rcases zna seg.length m with h0|h0
       ·exact h0
       ·exfalso;rcases ht' with ht'|ht'
        ·have:(jj,pk)∈l.drop m:=by
          grind
         grind
        ·have e3:l.drop m=seg.drop m++(jj,pk)::l'':=by rw[e1,List.drop_append_of_le_length h0]
         cases hsd:seg.drop m with
         | nil=>
          rw[hsd] at e3;have:=ht' _ _ e3;have hop':pk.op=.pick pc px py:=hop;simp[jT,jY,fm,hop'] at this
         | cons p q=>
          rw[hsd] at e3;have h1:=ht' _ _ e3;have h2:=c4 p (zMb (i:=m) (by rw[hsd];simp))
          simp[jT,h2.1.1,h2.2] at h1
      unfold KM at h;split at h<;>first|(cases h;done)|skip
      rename_i hlk;rw[od E s ho] at h;obtain⟨v,h3,h4⟩:=ga h;rw[hd] at h4;obtain⟨c,h5,h6⟩:=bind_some_inv h4;rw[rM c1] at h5;have hv:=jb h5;subst hv;obtain⟨x,h7,h8⟩:=bind_some_inv h6;have hsame:∀ b,b=c->(s.put (some d) (.d .bool (.bool c))).put (some d) (.d .bool (.bool b))=s.put (some d) (.d .bool (.bool c)):=λb hb=>tG (by rw[rM c1,hb])
      have hsegv:∃ k2:St->Option Bool,(∀ s2,k2 s2=qv E s2 pk AV.truth)/\eN E N Bool ops .leaf seg (s.put (some d) (.d .bool (.bool c))) k2=some x:=by
       cases c
       ·simp only[zza,if_false] at h7;rw[hsame false rfl] at h7;exact⟨_,λ_=>rfl,h7⟩
       ·simp only[if_true] at h7;rw[hsame true rfl] at h7;exact⟨_,λ_=>rfl,h7⟩
      obtain⟨k2,hk2,h7⟩:=hsegv;obtain⟨s2,s2',N2,h9,h10,h11⟩:=ih Bool seg _ k2 x seg.length .leaf (zja _) (λp hp=>by
       rw[zKa] at hp;exact⟨kK (c4 p hp).1.1,(c4 p hp).2⟩) (.inl λp hp=>by simp at hp) h7
      rw[zyc] at h11;rw[zKa] at h9;have h12:k2 s2'=some x:=by cases N2<;>simpa [eN] using h11
      rw[hk2] at h12;obtain⟨v2,h13,h14⟩:=ga h12;have hv2:=jb h14;obtain⟨v3,h15,h16⟩:=h10.qv h13;have hv3:v3=.d .bool (.bool x):=by
       rcases h16 with e|e
       ·rw[<-e];exact hv2
       ·rw[hv2] at e;cases e
      subst hv3;have hwk:Wk (s2.put pk.dst (.d .bool (.bool x))) ((killD (s.put (some d) (.d .bool (.bool c))) (seg.map Prod.snd)).put pk.dst (.d .bool (.bool x))):=(kg _ h9).put pk.dst (.inl rfl);have hlen:l.length=seg.length+1+l''.length:=by rw[e1];simp;omega
      obtain⟨s4,s4',N4,h17,h18,h19⟩:=ih R l'' _ k r (m-seg.length-1) an (by omega) (λp hp=>hq' p (by
       rw[e1,List.take_append,zDa];right;rw[show m-seg.length=(m-seg.length-1)+1 by omega,zYb]
       exact zha _ hp)) (by
       have e4:l.drop m=l''.drop (m-seg.length-1):=by
        conv=>lhs;rw[e1,List.drop_append,zic (by omega),z3b,show m-seg.length=(m-seg.length-1)+1 by omega,zTc]
       rwa [e4] at ht') h8
      obtain⟨s5,h20,h21⟩:=Wk.seqV _ hwk h17;refine⟨s5,s4',N4,?_,h21.trans h18,?_⟩
      ·have etake:l.take m=seg++(jj,pk)::l''.take (m-seg.length-1):=by
        conv=>lhs;rw[e1,List.take_append,zOb (by omega),show m-seg.length=(m-seg.length-1)+1 by omega,zYb]
       have hval:val E ops s o=some (.d .bool (.bool c)):=by unfold val;rw[if_neg hlk,hg];exact h3
       have hlk2:¬ j7 s2 pk=true:=by
        have:s2.lkS=s.lkS:=by
         have w1:=(kg _ h9).lkS;have w2:∀ (l:List Oper) (s:St),(killD s l).lkS=s.lkS:=by
          intro l
          induction l with
          | nil=>intro s;rfl
          | cons o l ih=>intro s;rw[killD,ih];exact(St.put_fields s o.dst .undef).2.2.2.2.1
         rw[<-w1,w2];exact(St.put_fields s (some d) _).2.2.2.2.1
        simp only[j7,this];have:=c5;simp only[j7] at this;rw[this];simp
       have hval2:val E ops s2 pk=some (.d .bool (.bool x)):=by
        unfold val;rw[if_neg hlk2];have:pk.guard=none:=by simpa using c2
        rw[this];exact h15
       simp only[zYb,z6a,seqV,hval,zba,etake,zPb,mf,hd,h9,hval2];exact h20
      ·have edrop:l.drop m=l''.drop (m-seg.length-1):=by
        conv=>lhs;rw[e1,List.drop_append,zic (by omega),z3b,show m-seg.length=(m-seg.length-1)+1 by omega,zTc]
       simp only[zTc,edrop];exact h19
     ·split at h<;>first|(cases h;done)|skip
      rename_i hlk;rw[od E s ho] at h;obtain⟨v,h3,h4⟩:=ga h;exact step (by unfold val;rw[if_neg hlk,hg];exact h3) h4
end Sy
end
end Go.Proofs.YtpahompifldeeaaGreat
