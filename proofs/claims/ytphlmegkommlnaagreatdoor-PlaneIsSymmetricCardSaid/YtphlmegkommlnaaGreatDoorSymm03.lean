/- Part 3 of the proof that PlaneIsSymmetric answers true at every input -/
import Derived.Test.YtphlmegkommlnaaGreatDoorSymm02
import Derived.MapKept
import Derived.IntWalk
set_option linter.unusedVariables false
set_option linter.unusedSimpArgs false
set_option linter.unnecessarySimpa false
set_option linter.defProp false
set_option maxRecDepth 20000
namespace Go.Proofs.YtphlmegkommlnaaGreatDoor
noncomputable section
namespace Sy
open Go
mutual
theorem EE:∀ (x y:D),D.beq x y=true->x=y
 | .int k n,y,h=>by cases y<;>simp_all [D.beq]
 | .bool b,y,h=>by cases y<;>simp_all [D.beq]
 | .str b,y,h=>by cases y<;>simp_all [D.beq]
 | .st l,y,h=>by
  cases y<;>simp only[D.beq] at h<;>first|(cases h;done)|skip
  rw[Bt _ _ h]
 | .sl l,y,h=>by cases y<;>simp[D.beq] at h
 | .tup l,y,h=>by cases y<;>simp[D.beq] at h
theorem Bt:∀ (l l':List D),D.beqs l l'=true->l=l'
 | [],l',h=>by cases l'<;>simp_all [D.beqs]
 | x::l,l',h=>by
  cases l' with
  | nil=>simp[D.beqs] at h
  | cons y l'=>
   simp only[D.beqs,zaa] at h;rw[EE _ _ h.1,Bt _ _ h.2]
end
section
variable{P:Program}{E:Env}{w0:Root}{S:Nat->Nat->Prop}{γ:Nat->Option Nat}{β:Nat->Option (Nat×Nat)}{s:St}{a:Act}{w:World}
theorem mV{α:Type}(g:α->PUnit->Sem (ForInStep PUnit)){w:World}:∀ (l:List α),(∀ x∈l,(g x ⟨⟩).run P w=.ok (.yield ⟨⟩) w)->(forIn l PUnit.unit g).run P w=.ok ⟨⟩ w
 | [],_=>rfl
 | x::l,h=>by
  simp only[List.forIn_cons,zga,h x zoa,zea];exact mV g l λy hy=>h y (zia _ hy)
def kc{w:World}{b n:Nat}{es:Array MapEntry}(h:w.heap[b]?=some (.map es n)):(getObj b).run P w=.ok (.map es n) w:=by simp[getObj,Sem.run,h]
mutual
theorem iT:∀ (ty:Ty) (T:TypeId) (x:D) (cx:List Value) (vx:Value) (n:Nat) (e:Bool),bC P ty T=true->bH ty=true->ty.high<=n->wt ty x->cF w S x.flat cx->fH ty cx vx->∀ w',(Instr.checkKey e n T vx).run P w'=.ok () w'
 | .int k,T,x,cx,vx,n,e,hl,_,hd,hx,rx,ix,w'=>by
  simp only[wt] at hx;obtain⟨m,rfl⟩:=hx;obtain⟨c1,rfl,r1⟩:=rx.single';rw[dX ix rfl,r1.int_inv];obtain⟨n,rfl⟩:∃ e,n=e+1:=⟨n-1,by simp only[Ty.high] at hd;omega⟩
  simp only[Instr.checkKey,zga,run_underlying (ja hl),zea,zla]
 | .bool,T,x,cx,vx,n,e,hl,_,hd,hx,rx,ix,w'=>by
  simp only[wt] at hx;obtain⟨m,rfl⟩:=hx;obtain⟨c1,rfl,r1⟩:=rx.single';rw[dX ix rfl,r1.bool_inv];obtain⟨n,rfl⟩:∃ e,n=e+1:=⟨n-1,by simp only[Ty.high] at hd;omega⟩
  have hu:P.underlying T=some .bool:=by
   simp only[bC,zaa] at hl;all_goals grind
  simp only[Instr.checkKey,zga,run_underlying hu,zea,zla]
 | .st ts,T,x,cx,vx,n,e,hl,hc,hd,hx,rx,ix,w'=>by
  simp only[wt] at hx;obtain⟨l,rfl,hx⟩:=hx;rw[gS ix rfl];obtain⟨fs,h1,h2⟩:=ij hl;simp only[Ty.high] at hd;obtain⟨n,rfl⟩:∃ e,n=e+1:=⟨n-1,by omega⟩
  simp only[bH] at hc;simp only[D.flat] at rx;simp only[Instr.checkKey,zga,run_underlying h1,zea];rw[<-Array.forIn_toList,mV (P:=P) (w:=w')]
  ·rfl
  ·intro f hf;have key:=kQ ts fs.toList 0 l [] cx cx.toArray n e h2 hc (by omega) hx rx rfl rfl w' f hf
   by_cases hn : f.name ≠ "_"
   ·rw[if_pos hn] at key ⊢;simp only[zga] at key ⊢;cases hp:(part f.type cx.toArray f.offset).run P w' with
    | ok v w2=>
     rw[hp] at key;simp only[zea] at key ⊢;rw[key];rfl
    | _=>rw[hp] at key;simp[Result.andThen] at key
   ·rw[if_neg hn];rfl
 | .arr m t,T,x,cx,vx,n,e,hl,hc,hd,hx,rx,ix,w'=>by
  simp only[wt] at hx;obtain⟨l,rfl,hxl,hx⟩:=hx;rw[gS ix rfl];obtain⟨u,h1,h2⟩:=dC hl;simp only[Ty.high] at hd;obtain⟨n,rfl⟩:∃ e,n=e+1:=⟨n-1,by omega⟩
  simp only[bH] at hc;simp only[D.flat] at rx;have hn:=aD _ _ h2;simp only[Instr.checkKey,zga,run_underlying h1,zea];rw[Std.Legacy.Range.forIn_eq_forIn_range',mV (P:=P) (w:=w')]
  ·rfl
  ·intro j hj;have hjn:j<m:=by simp at hj;omega
   have e1:l[j]?=some (l.getD j (.bool false)):=by simp[List.getD,zda (hxl ▸ hjn)]
   generalize l.getD j (.bool false)=dx at *;have wx:=hx dx (z0a e1);have rx':=rx;rw[bT e1] at rx';obtain⟨p1,p2⟩:=rx'.split;obtain⟨p3,p4⟩:=p2.split;have o1:(cx.take (D.flats (l.take j)).length).length=j*t.size:=by
    rw[<-p1.1,aB hn _ (λx hx'=>hx x (zGa hx')),zcb,zlb (by omega)]
   obtain⟨v1,r1,i1⟩:=gq h2 (cs:=cx.toArray) (pre:=cx.take (D.flats (l.take j)).length) (mid:=(cx.drop (D.flats (l.take j)).length).take dx.flat.length) (post:=(cx.drop (D.flats (l.take j)).length).drop dx.flat.length)
     (by simp only[zpa]) (by rw[<-p3.1];exact cb _ _ wx hn) p3.nag w'
   rw[o1] at r1;have r3:=iT t u dx _ v1 n e h2 hc (by omega) wx p3 i1 w'
   simp only[zga,bR h2,zea,r1,r3,zla]
 | .str,_,_,_,_,_,_,_,hc,_,_,_,_,_=>by simp[bH] at hc
 | .sl _,_,_,_,_,_,_,_,hc,_,_,_,_,_=>by simp[bH] at hc
 | .tup _,_,_,_,_,_,_,_,hc,_,_,_,_,_=>by simp[bH] at hc
 | .fn,_,_,_,_,_,_,_,hc,_,_,_,_,_=>by simp[bH] at hc
theorem kQ:∀ (ts:List Ty) (fs:List Field) (off:Nat) (l:List D) (px cx:List Value) (xs:Array Value) (n:Nat) (e:Bool),fl P ts fs off=true->kR ts=true->Ty.highs ts<=n->er ts l->cF w S (D.flats l) cx ->
  xs.toList = px ++ cx -> px.length = off -> ∀ w', ∀ f ∈ fs, (if f.name ≠ "_" then (part f.type xs f.offset >>= λv => Instr.checkKey e n f.type v) else pure ()).run P w' = .ok () w'
 | [],fs,off,l,px,cx,xs,n,e,hf,_,_,_,_,_,_,w'=>by
  all_goals grind [fl]
 | t::ts,[],off,l,px,cx,xs,n,e,hf,_,_,_,_,_,_,w'=>by simp[fl] at hf
 | t::ts,f::fs,off,l,px,cx,xs,n,e,hf,hc,hd,hx,rx,ex,lx,w'=>by
  simp only[fl,zaa,decide_eq_true_eq] at hf;obtain⟨⟨⟨⟨h1,h2⟩,h3⟩,h4⟩,h5⟩:=hf;simp only[er] at hx;obtain⟨dx,l,rfl,hx1,hx2⟩:=hx;simp only[D.flats] at rx;obtain⟨p3,p4⟩:=rx.split;have hn:=aD _ _ h4;simp only[kR,zaa] at hc;simp only[Ty.highs] at hd;obtain⟨v1,r1,i1⟩:=gq h4 (cs:=xs) (pre:=px) (mid:=cx.take dx.flat.length) (post:=cx.drop dx.flat.length) (by rw[ex,zpa]) (by rw[<-p3.1];exact cb _ _ hx1 hn) p3.nag w'
  rw[lx,<-h1] at r1;have r3:=iT t f.type dx _ v1 n e h4 hc.1 (by omega) hx1 p3 i1 w'
  have hs1:(cx.take dx.flat.length).length=t.size:=by rw[<-p3.1];exact cb _ _ hx1 hn
  have ih:=kQ ts fs (off+t.size) l (px++cx.take dx.flat.length) (cx.drop dx.flat.length) xs n e h5 hc.2 (by omega) hx2 p4
   (by rw[zEa,zpa];exact ex) (by rw[zta,lx,hs1]) w'
  intro g hg;rcases zva.1 hg with rfl|hg
  ·rw[if_pos h2,zga,r1,zea,r3]
  ·exact ih g hg
end
def zU:List D->D->List MapEntry->Nat->Option (Nat×Value)
 | .st [k,_]::l,x,e::es,i=>if D.beq x k then some (i,e.val) else zU l x es (i+1)
 | _,_,_,_=>none
theorem sG{c:Cx}{kt vt:Ty}{T:TypeId}{x:D}{vx:Value}(hl:bC P kt T=true)(hc:bH kt=true)(hx:wt kt x)(rx:fD c.w c.S x vx){desc:TypeDesc}(hu:P.underlying T=some desc):∀ (l:List D) (es:List MapEntry) (j i:Nat) (r:Option (Nat×Value)),gW c kt vt j l es->Instr.findNow desc vx es i=some r->r=zU l x es i
 | [],[],j,i,r,_,h=>by simp only[Instr.findNow,zca] at h;rw[<-h];rfl
 | [],_::_,j,i,r,h,_=>h.elim
 | _::_,[],j,i,r,h,_=>h.elim
 | y::l,e::es,j,i,r,h,hr=>by
  simp only[gW] at h;obtain⟨⟨_,k,v,rfl,hk,hv,rk,rv⟩,h2⟩:=h;simp only[Instr.findNow] at hr;have key:∀ b,Instr.sameNow desc vx e.key=some b->b=D.beq x k:=by
   intro b hb;cases kt<;>simp only[wt] at hx hk
   case int kk=>
    obtain⟨n,rfl⟩:=hx;obtain⟨m,rfl⟩:=hk;rw[rx.int_inv,rk.int_inv] at hb;rw[ja hl] at hu;cases hu;simp only[Instr.sameNow,if_true,zca] at hb;rw[<-hb];simp[D.beq];rfl
   case bool=>
    obtain⟨n,rfl⟩:=hx;obtain⟨m,rfl⟩:=hk;rw[rx.bool_inv,rk.bool_inv] at hb;simp only[bC,zaa] at hl;have h3:=hl.2;rw[hu] at h3;cases desc<;>simp at h3;simp only[Instr.sameNow,zca] at hb;rw[<-hb];rfl
   case st ts=>
    obtain⟨fs,h3,_⟩:=ij hl;rw[hu] at h3;cases h3;simp[Instr.sameNow] at hb
   case arr m t=>
    obtain⟨u,h3,_⟩:=dC hl;rw[hu] at h3;cases h3;simp[Instr.sameNow] at hb
   all_goals simp[bH] at hc
  cases hs:Instr.sameNow desc vx e.key with
  | none=>rw[hs] at hr;simp at hr
  | some b=>
   rw[hs] at hr;have:=key b hs;subst this;cases hb:D.beq x k
   ·rw[hb] at hr;simp only at hr;have:=sG hl hc hx rx hu l es (j+1) (i+1) r h2 hr;grind [zU,Bool.false_eq_true]
   ·grind [Option.some.injEq,zU]
theorem mF{c:Cx}{kt vt:Ty}{T:TypeId}{x:D}{vx:Value}(hl:bC P kt T=true)(hc:bH kt=true)(hh:kt.high<=1000)(hx:wt kt x)(rx:fD c.w c.S x vx)(w':World):∀ (l:List D) (es:List MapEntry) (j i:Nat),gW c kt vt j l es->(Instr.findAsking T vx es i).run P w'=.ok (zU l x es i) w'
 | [],[],j,i,_=>rfl
 | [],_::_,j,i,h=>h.elim
 | _::_,[],j,i,h=>h.elim
 | y::l,e::es,j,i,h=>by
  simp only[gW] at h;obtain⟨⟨_,k,v,rfl,hk,hv,rk,rv⟩,h2⟩:=h;have hn:=aD _ _ hl;have i1:fH kt vx.cells.toList vx:=⟨rfl,nB hx hn rx.1⟩;have i2:fH kt e.key.cells.toList e.key:=⟨rfl,nB hk hn rk.1⟩;have r3:=nV kt T x k _ _ _ _ 10000 hl hc (by omega) hx hk rx.2 rk.2 i1 i2 w'
  simp only[Instr.findAsking,Op.equal,Op.maxDepth,zga,r3,zea,zU];cases D.beq x k
  ·simp only[zwa,if_false];exact mF hl hc hh hx rx w' l es (j+1) (i+1) h2
  ·simp
def sE{c:Cx}{kt vt:Ty}{T:TypeId}{x:D}{vx:Value}(hl:bC P kt T=true)(hc:bH kt=true)(hh:kt.high<=1000)(hx:wt kt x)(rx:fD c.w c.S x vx)(w':World){l:List D}{es:List MapEntry}{j:Nat}(h:gW c kt vt j l es) :
  (Instr.findKey T vx es).run P w'=.ok (zU l x es 0) w':=by
 have hu:∃ d,P.underlying T=some d:=by
  cases kt<;>simp only[bH] at hc<;>first|(cases hc;done)|skip
  ·exact⟨_,ja hl⟩
  ·simp only[bC,zaa] at hl;have h2:=hl.2;split at h2
   ·rename_i hu;exact⟨_,hu⟩
   ·cases h2
  ·obtain⟨fs,h1,_⟩:=ij hl;exact⟨_,h1⟩
  ·obtain⟨u,h1,_⟩:=dC hl;exact⟨_,h1⟩
 obtain⟨d,hu⟩:=hu;simp only[Instr.findKey,zga,run_underlying hu,zea];split
 ·rename_i r hr;rw[sG hl hc hx rx hu l es j 0 r h hr];rfl
 ·exact mF hl hc hh hx rx w' l es j 0 h
theorem BM{c:Cx}{kt vt:Ty}{x:D}:∀ (l:List D) (es:List MapEntry) (j i:Nat),gW c kt vt j l es ->
  match zU l x es i with
  | none=>D.mget l x=none
  | some (_,v)=>∃ d,D.mget l x=some d/\wt vt d/\fD c.w c.S d v
 | [],[],j,i,_=>rfl
 | [],_::_,j,i,h=>h.elim
 | _::_,[],j,i,h=>h.elim
 | y::l,e::es,j,i,h=>by
  simp only[gW] at h;obtain⟨⟨_,k,v,rfl,hk,hv,rk,rv⟩,h2⟩:=h;simp only[zU,D.mget];cases hb:D.beq x k
  ·simp only[zwa,if_false];exact BM l es (j+1) (i+1) h2
  ·simp_all
def Dz(hE:EnvOk P E)(h:Rp w0 S γ β s a w){dst T x i cok ty pos after guard}:iM P E w0 S γ β s a w ⟨dst,.lookup T x i cok,ty,pos,after,guard⟩:=by
 intro R K r hq;simp only[qv] at hq;replace hq:=bind_some_inv hq;obtain⟨kv,hkv,hq⟩:=hq;obtain⟨kt0,vt0⟩:=kv;have hx:=aN h x;generalize s.opA x=ax at *;cases ax<;>(try simp only at hq)<;>first|(cases hq;done)|skip
 rename_i kt vt id;split at hq<;>first|(cases hq;done)|skip
 rename_i hb;simp only[zaa] at hb;have e1:=Ty.eq_of_beq _ _ hb.1;have e2:=Ty.eq_of_beq _ _ hb.2;subst e1;subst e2;split at hq<;>first|(cases hq;done)|skip
 rename_i kt' vt' l hob;split at hq<;>first|(cases hq;done)|skip
 rename_i hb2;simp only[zaa] at hb2;have e1:=Ty.eq_of_beq _ _ hb2.1;have e2:=Ty.eq_of_beq _ _ hb2.2;subst e1;subst e2;replace hq:=bind_some_inv hq;obtain⟨ix,hix,hq⟩:=hq;split at hq<;>first|(cases hq;done)|skip
 rename_i hb3;have hi:=aN h i;rw[dA hix,Ty.eq_of_beq _ _ hb3] at hi;obtain⟨hc,KT,VT,hu,hlk,hlv,hh⟩:=hE.mapL T _ _ hkv;have hnk:=aD _ _ hlk;have hnv:=aD _ _ hlv;obtain⟨k1,k2⟩:=xL hi hnk;simp only[AR,AC] at hx;obtain⟨na,b,hcs,hγ,_,_,_⟩:=hx;have hv:=am na hcs;have hO:=h.obs id _ b hob hγ;simp only[fh] at hO;obtain⟨_,_,_,es,hes,hM⟩:=hO;have i1:fH kt' (a.eval i).cells.toList (a.eval i):=⟨rfl,nB k1 hnk k2.1⟩;have rc:=iT (S:=S) (w:=w) kt' KT ix.2 _ _ 10000 es.isEmpty hlk hc (by omega) k1 k2.2 i1 w
 have rf:=sE (P:=P) hlk hc hh k1 k2 w hM;have rg:=BM (x:=ix.2) l es.toList 0 0 hM;obtain⟨z,hz1,hz2,hz3⟩:=iK hlv;have hzAR:wt vt' (ar vt')/\fD w S (ar vt') z:=by
  have wz:=cD vt' hnv;refine⟨wz,?_⟩;have hAC:AC ⟨w,S,γ,β,s.ob,s.dead⟩ (.d vt' (ar vt')) z.cells.toList:=by simp only[AC];exact⟨wz,hnv,cg hz2⟩
  have iv:fH vt' z.cells.toList z:=⟨rfl,λha=>(hz3.2 ha),λha xs e=>by have:=hz3.1 ⟨xs,e⟩;rw[ha] at this;cases this⟩
  exact(xL (ux (bF _ _) hAC iv) hnv).2
 have run:∃ v d,(D.mget l ix.2).getD (ar vt')=d/\wt vt' d/\fD w S d v/\(execOp a.eval ⟨dst,.lookup T x i cok,ty,pos,after,guard⟩).run P w=.ok (.value (if cok then .tuple #[v,.bool (D.mget l ix.2).isSome] else v)) w:=by
  have hex:(execOp a.eval ⟨dst,.lookup T x i cok,ty,pos,after,guard⟩)=(Instr.lookup T (a.eval x) (a.eval i) cok >>= λv=>pure (.value v)):=rfl;rw[hex,hv];cases hf:zU l ix.2 es.toList 0 with
  | none=>
   rw[hf] at rg rf;simp only at rg;refine⟨z,ar vt',by rw[rg];rfl,hzAR.1,hzAR.2,?_⟩
   simp only[Instr.lookup,zga,run_underlying hu,zea,kc hes,zla,rc,rf,hz1,rg];rfl
  | some p=>
   obtain⟨n,v⟩:=p;rw[hf] at rg rf;simp only at rg;obtain⟨d,g1,g2,g3⟩:=rg;refine⟨v,d,by rw[g1];rfl,g2,g3,?_⟩
   simp only[Instr.lookup,zga,run_underlying hu,zea,kc hes,zla,rc,rf,g1];rfl
 obtain⟨v,d,r1,r2,r3,r4⟩:=run;rw[r1] at hq;cases cok with
 | false=>
  simp only at hq;simp only[zwa,if_false] at r4;exact⟨_,hq,.value r4 (Qp.same h (dc hnv r2 r3) _)⟩
 | true=>
  simp only at hq;simp only[if_true] at r4;refine⟨_,hq,.value r4 (Qp.same h ?_ _)⟩;simp only[AR];refine .inr ⟨_,rfl,by simp[bg,hnv,aj],?_,?_⟩
  ·simp only[wt,er];exact⟨_,rfl,d,_,rfl,r2,_,_,rfl,⟨_,rfl⟩,rfl⟩
  ·refine⟨[v,.bool (D.mget l ix.2).isSome],rfl,rfl,λi dd u h1 h2=>?_⟩;rcases i with _|_|i
   ·simp at h1 h2;subst h1;subst h2;exact r3
   ·simp at h1 h2;subst h1;subst h2;exact fD.of_CR (.bool _)
   ·simp at h1
end
end Sy
end
noncomputable section
namespace Sy
open Go
section
variable{P:Program}{E:Env}{w0:Root}{S:Nat->Nat->Prop}{γ:Nat->Option Nat}{β:Nat->Option (Nat×Nat)}{s:St}{a:Act}{w:World}
def F5(hE:EnvOk P E)(h:Rp w0 S γ β s a w){dst T ty pos after guard}(hf:Fr E s γ β ⟨dst,.alloc T,ty,pos,after,guard⟩)(hT:∀ t,E.L T=some t->aj t=true):iM P E w0 S γ β s a w ⟨dst,.alloc T,ty,pos,after,guard⟩:=by
 intro R K r hq;simp only[qv] at hq;replace hq:=bind_some_inv hq;obtain⟨t,ht,hq⟩:=hq;replace hq:=bind_some_inv hq;obtain⟨d,hd,hq⟩:=hq;obtain⟨hd4,hγ,hβ,hob⟩:=hf rfl d hd;cases hfn:E.fnT T with
 | true=>
  have hob:=hob T (.fv .undef) rfl (by simp[Env.alOb,hfn])
  have e:t=.fn:=by simp only[Env.alTy,hfn,cond_true,zca] at ht;exact ht.symm
  subst e;obtain⟨i,z,hi,_,_,hz0,_,hz1⟩:=BL (hE.fnT T hfn);have hz:∀ w,(zeroValue T).run P w=.ok z w:=by simp_all [zeroValue,typeInfo]
  obtain⟨h1,le1⟩:=h.grow (os:=[.cells z.cells T]) (d:=w.drawn) (zha _) (S':=S) (λ_ _ hb=>hb) (λ_ _ hb=>.inl hb);have hw0:¬ w0.Old w.heap.size:=λho=>by have:=ho.1;have:=h.ext.sz;omega
  obtain⟨h2,le2⟩:=h1.newOb (id:=s.base+d) (b:=w.heap.size) hγ hw0 (by simp) (λid hid=>by have:=(h.γn id _ hid).2;omega) (λu f hu hf=>by have:=(h.βn u _ _ hu hf).2.1;omega) (by omega)
   (λo ho=>by
    rw[hob] at ho;cases ho;simp only[fh];exact⟨λo ho=>by have:=h.Sb _ _ ho;omega,z,by rw[<-o7 hz1];exact ma,by simp only[eK],hz1⟩)
  refine⟨_,hq,.value (v:=.pointer (some ⟨w.heap.size,0,none⟩)) (w':=grown w [.cells z.cells T] w.drawn) (by
   rw[<-db];simp only[execOp,Instr.alloc,newVar,newRow,zga,hz,zea,run_newObj,zla];rfl) ⟨S,_,β,h2,fJ (bw _ _ _) (λo ho=>?_),λ_ _ hb=>hb,⟨_,_,rfl⟩,λid b hb=>dQ hγ hb,λid hid=>⟨bJ _ _ λhh=>?_,rfl⟩⟩⟩
  ·have ho':s.ob (s.base+d)=some o:=ho;rw[hob] at ho';cases ho';exact⟨rfl,rfl⟩
  ·subst hh;rcases hid with hid|hid
   ·simp_all
   ·omega
 | false=>
 simp only[Env.alTy,hfn,cond_false] at ht;have hob:=hob T (.one t (jV t)) rfl (by simp[Env.alOb,hfn,ht])
 have hn:=hT t ht;have hl:=iZ hE ht hn;obtain⟨z,hz,hz2,_⟩:=iK hl;obtain⟨h1,le1⟩:=h.grow (os:=[.cells z.cells T]) (d:=w.drawn) (zha _) (S':=S) (λ_ _ hb=>hb) (λ_ _ hb=>.inl hb);have hw0:¬ w0.Old w.heap.size:=λho=>by have:=ho.1;have:=h.ext.sz;omega
 have hlen:z.cells.toList.length=t.size:=by
  rw[<-(cg (w:=w) (S:=S) hz2).1];exact cb _ _ (cD t hn) hn
 obtain⟨h2,le2⟩:=h1.newOb (id:=s.base+d) (b:=w.heap.size) hγ hw0 (by simp) (λid hid=>by have:=(h.γn id _ hid).2;omega) (λu f hu hf=>by have:=(h.βn u _ _ hu hf).2.1;omega) (by omega)
  (λo ho=>by
   rw[hob] at ho;cases ho;simp only[fh];exact⟨hn,t6 t hn,λo ho=>by have:=h.Sb _ _ ho;omega,z.cells.toList,by rw[z8b];exact ma,zR t _ hn hz2,hlen⟩)
 refine⟨_,hq,.value (v:=.pointer (some ⟨w.heap.size,0,none⟩)) (w':=grown w [.cells z.cells T] w.drawn) (by
  rw[<-db];simp only[execOp,Instr.alloc,newVar,newRow,zga,hz,zea,run_newObj,zla];rfl) ⟨S,_,β,h2,fJ (bw _ _ _) (λo ho=>?_),λ_ _ hb=>hb,⟨_,_,rfl⟩,λid b hb=>dQ hγ hb,λid hid=>⟨bJ _ _ λhh=>?_,rfl⟩⟩⟩
 ·have ho':s.ob (s.base+d)=some o:=ho;have:o=.one t (jV t):=by simp_all
  subst this;exact⟨by cases t<;>rfl,by cases t<;>rfl⟩
 ·subst hh;rcases hid with hid|hid
  ·simp_all
  ·omega
def Aa{c:Cx}{e:Ty}{y:AV}{v:Value}{l:List D}{ob:Nat->Option Ob}(hn:aj e=true)(h:AR c y v)(hl:y.asList ob e=some l):∃ a cap,v=.slice a l.length cap:=by
 obtain⟨_,h2⟩:=js hn h hl;obtain⟨a,cap,b,off,hv,_⟩:=h2.elems
 simp_all
def xn{T:TypeId}{e:Ty}(hl:bC P (.sl e) T=true){A:Option Addr}{len cap lo hi:Nat}{vlo vhi:Option Value}(h1:lo<=hi)(h2:hi<=len)(h3:len<=cap)
  (hlo:(vlo=none/\lo=0)\/∃ k,vlo=some (.int k lo)) (hhi:(vhi=none/\hi=len)\/∃ k,vhi=some (.int k hi)) (w:World) :
  (Instr.sliceAt T (.slice A len cap) vlo vhi none).run P w=.ok (.slice (if cap=lo then A else A.map (·.add (lo*e.size))) (hi-lo) (cap-lo)) w:=by
 obtain⟨u,k1,k2⟩:=ii hl;have e1:(0:Int)<=(hi:Int)/\(hi:Int)<=(cap:Int):=by omega
 have e2:(0:Int)<=(lo:Int)/\(lo:Int)<=(hi:Int):=by omega
 have hb:(Instr.sliceBounds true len cap vlo vhi none).run P w=.ok (lo,hi,cap) w:=by
  rcases hlo with⟨rfl,rfl⟩|⟨k,rfl⟩<;>rcases hhi with⟨rfl,rfl⟩|⟨k',rfl⟩ <;>
   simp_all [Instr.sliceBounds,Instr.sliceBound,asIntOf,pure_bind,zga,zla]
 simp only[Instr.sliceAt,zga,run_underlying k1,zea,Instr.slice,hb,bR k2,zla]
def q9{T:TypeId}{m:Nat}{e:Ty}(hl:bC P (.arr m e) T=true){b off lo hi:Nat}{vlo vhi:Option Value}(h1:lo<=hi)(h2:hi<=m)(h3:lo<m)
  (hlo:(vlo=none/\lo=0)\/∃ k,vlo=some (.int k lo)) (hhi:(vhi=none/\hi=m)\/∃ k,vhi=some (.int k hi)) (w:World) :
  (Instr.sliceAt T (.pointer (some ⟨b,off,none⟩)) vlo vhi none).run P w=.ok (.slice (some ⟨b,off+lo*e.size,none⟩) (hi-lo) (m-lo)) w:=by
 obtain⟨u,k1,k2⟩:=dC hl;have e1:(0:Int)<=(hi:Int)/\(hi:Int)<=(m:Int):=by omega
 have e2:(0:Int)<=(lo:Int)/\(lo:Int)<=(hi:Int):=by omega
 have e3:¬ m=lo:=by omega
 have hb:(Instr.sliceBounds false m m vlo vhi none).run P w=.ok (lo,hi,m) w:=by
  rcases hlo with⟨rfl,rfl⟩|⟨k,rfl⟩<;>rcases hhi with⟨rfl,rfl⟩|⟨k',rfl⟩ <;>
   simp_all [Instr.sliceBounds,Instr.sliceBound,asIntOf,pure_bind,zga,zla]
 simp only[Instr.sliceAt,zga,run_underlying k1,zea,ko,hb,bR k2,zla,e3,if_false,cN]
def Kv{w:World}{S:Nat->Nat->Prop}{e:Ty}{l:List D}{v:Value}{lo hi:Nat}(hn:aj e=true)(hw:∀ x∈l,wt e x)(h:CR w S (.sl l) v)(h1:lo<=hi)(h2:hi<=l.length) :
  ∃ A cap,v=.slice A l.length cap/\l.length<=cap/\CR w S (.sl ((l.take hi).drop lo)) (.slice (if cap=lo then A else A.map (·.add (lo*e.size))) (hi-lo) (cap-lo)):=by
 obtain⟨A,cap,b,off,hv,k1,k2,k3⟩:=h.elems;refine⟨A,cap,hv,k2,?_⟩;have hlen:((l.take hi).drop lo).length=hi-lo:=by simp;omega
 rw[<-hlen];have e1:l=l.take lo++((l.take hi).drop lo++l.drop hi):=by
  rw[<-zEa,show l.take lo=(l.take hi).take lo by rw[List.take_take,zlb h1],zpa,zpa]
 rw[e1,bQ,bQ] at k3;have k4:=k3.part;rw[aB hn _ (λx hx=>hw x (zGa hx)),zcb,zlb (by omega)] at k4
 refine CR.of_elems (b:=b) (off:=off+lo*e.size) ?_ (by rw[hlen];omega) k4
 by_cases he:(l.take hi).drop lo=[]
 ·exact .inl he
 ·right;have hne:0<hi-lo:=by rw[<-hlen];exact List.length_pos_iff.2 he
  rw[if_neg (by omega)]
  rcases k1 with rfl|rfl
  ·simp at h2;omega
  ·simp only[zkb,cN]
def Gb(hE:EnvOk P E)(h:Rp w0 S γ β s a w){dst T x lo hi mx ty pos after guard}:iM P E w0 S γ β s a w ⟨dst,.slice T x lo hi mx,ty,pos,after,guard⟩:=by
 intro R K r hq;simp only[qv] at hq;split at hq<;>first|(cases hq;done)|skip
 replace hq:=bind_some_inv hq;obtain⟨t,ht,hq⟩:=hq;have num:∀ {i:Operand} {n:Nat},((isD (s.opA i)).bind λa=>a.2.natOf)=some n->∃ k,a.eval i=.int k n:=by
  intro i n hh;obtain⟨p,h1,h2⟩:=bind_some_inv hh;obtain⟨kk,h3⟩:=vA h2;have h4:=aN h i;rw[dA h1,h3] at h4;exact⟨kk,(ef h4).1⟩
 cases t<;>(try simp only at hq)<;>first|(cases hq;done)|skip
 case arr m e=>
  rcases hE.lay T _ ht with⟨ts',hts⟩|hl
  ·cases hts
  have hn:=aD _ _ hl;simp only[aj] at hn;have hx:=aN h x;generalize s.opA x=y at *;cases y<;>(try simp only at hq)<;>first|(cases hq;done)|skip
  rename_i t' id p;split at hq<;>first|(cases hq;done)|skip
  rename_i hb;have:=Ty.eq_of_beq _ _ hb;subst this;replace hq:=bind_some_inv hq;obtain⟨lo',hlo,hq⟩:=hq;replace hq:=bind_some_inv hq;obtain⟨hi',hhi,hq⟩:=hq;split at hq<;>first|(cases hq;done)|skip
  rename_i hbd;obtain⟨b,off,hv,hγ,hob⟩:=jY hx;have hlo2:((lo.map a.eval)=none/\lo'=0)\/∃ k,(lo.map a.eval)=some (.int k lo'):=by
   all_goals grind
  have hhi2:((hi.map a.eval)=none/\hi'=m)\/∃ k,(hi.map a.eval)=some (.int k hi'):=by
   all_goals grind
  have hrun:=q9 hl (b:=b) (off:=off) hbd.1 hbd.2.1 hbd.2.2 hlo2 hhi2 w;refine⟨_,hq,.value (v:=.slice (some ⟨b,off+lo'*e.size,none⟩) (hi'-lo') (m-lo')) (w':=w) (by simp only[execOp,Option.map_none,hv,zga,hrun,zea,zla]) (Qp.same h ?_ _)⟩
  simp only[AR,AC,Value.cells];grind
 rename_i e;rcases hE.lay T _ ht with⟨ts',hts⟩|hl
 ·cases hts
 have hn:=aD _ _ hl;simp only[aj] at hn;replace hq:=bind_some_inv hq;obtain⟨l,hlist,hq⟩:=hq;replace hq:=bind_some_inv hq;obtain⟨lo',hlo,hq⟩:=hq;replace hq:=bind_some_inv hq;obtain⟨hi',hhi,hq⟩:=hq;replace hq:=bind_some_inv hq;obtain⟨l',hl',hq⟩:=hq;simp only[D.cut] at hl';split at hl'<;>first|(cases hl';done)|skip
 rename_i hb;simp only[zca] at hl';subst hl';obtain⟨k1,k2⟩:=js hn (aN h x) hlist;obtain⟨A,cap,hv,hcap,k3⟩:=Kv hn k1 k2 hb.1 hb.2;have hlo2:((lo.map a.eval)=none/\lo'=0)\/∃ k,(lo.map a.eval)=some (.int k lo'):=by
  all_goals grind
 have hhi2:((hi.map a.eval)=none/\hi'=l.length)\/∃ k,(hi.map a.eval)=some (.int k hi'):=by
  all_goals grind
 have hrun:=xn hl (A:=A) (len:=l.length) (cap:=cap) hb.1 hb.2 hcap hlo2 hhi2 w;have hw:wt (.sl e) (.sl ((l.take hi').drop lo')):=by grind [wt]
 exact⟨_,hq,.value (w':=w) (by simp only[execOp,Option.map_none,hv,zga,hrun,zea,zla]) (Qp.same h (dc (by simpa [aj] using hn) hw (fD.of_CR k3)) _)⟩
def Jo(hE:EnvOk P E)(h:Rp w0 S γ β s a w){dst T x ty pos after guard}:iM P E w0 S γ β s a w ⟨dst,.sliceToArrayPointer T x,ty,pos,after,guard⟩:=by
 intro R K r hq;simp only[qv] at hq;replace hq:=bind_some_inv hq;obtain⟨t,ht,hq⟩:=hq;have hx:=aN h x;generalize s.opA x=y at *;cases t<;>(try simp only at hq)<;>first|(cases hq;done)|skip
 rename_i n e;have plain:(y.asList s.ob e).bind (λl=>if decide (1<=n)&&decide (n<=l.length) then K (.fptr (.arr n e) (.st (l.take n))) else none)=some r ->
   ∃ v,K v=some r/\dH P ⟨dst,.sliceToArrayPointer T x,ty,pos,after,guard⟩ a w (Qp w0 S γ β s a w dst v):=λhq=>by
  replace hq:=bind_some_inv hq;obtain⟨l,hl1,hq⟩:=hq;split at hq<;>first|(cases hq;done)|skip
  rename_i hb;simp only[zaa,decide_eq_true_eq] at hb;rcases hE.lay T _ ht with⟨ts',hts⟩|hl
  ·cases hts
  obtain⟨u,hu,hlu⟩:=dC hl;have hn:=aD _ _ hlu;obtain⟨k1,k2⟩:=js hn hx hl1;obtain⟨A,cap,b,off,hv,hA,_,hat⟩:=k2.elems;have hA':A=some ⟨b,off,none⟩:=hA.resolve_left λh0=>by subst h0;simp at hb;omega
  subst hA';have hlt:¬ l.length<n:=by omega
  refine⟨_,hq,.value (v:=.pointer (some ⟨b,off,none⟩)) (w':=w) (by simp only[execOp,hv,Instr.arrayAt,zga,run_underlying hu,zea,hlt,if_false,zla]) (Qp.same h ?_ _)⟩
  simp only[AR,AC,Value.cells];refine⟨by simp,by simp only[wt];exact⟨_,rfl,by simp;omega,λx hx=>k1 x (zGa hx)⟩,by simpa only[aj] using hn,b,off,rfl,?_⟩
  have e:D.flats l=[]++(D.flats (l.take n)++D.flats (l.drop n)):=by rw[z2b,<-bQ,zpa]
  rw[e] at hat;simpa [D.flat] using hat.part
 cases y<;>(try simp only at hq)<;>first|exact plain hq|skip
 rename_i sl e' id p lo n';split at hq<;>first|(cases hq;done)|skip
 rename_i hb;simp only[zaa,decide_eq_true_eq] at hb;obtain⟨⟨hb1,hb2⟩,hb3⟩:=hb;subst hb1;have:=Ty.eq_of_beq _ _ hb2;subst this;rcases hE.lay T _ ht with⟨ts',hts⟩|hl
 ·cases hts
 obtain⟨u,hu,_⟩:=dC hl;simp only[AR,AC,if_true] at hx;obtain⟨hna,hne,b,off,cap,hcs,hγ,hob⟩:=hx;have hv:=am hna hcs;have hlt:¬ n'<n:=by omega
 refine⟨_,hq,.value (v:=.pointer (some ⟨b,off,none⟩)) (w':=w) (by simp only[execOp,hv,Instr.arrayAt,zga,run_underlying hu,zea,hlt,if_false,zla]) (Qp.same h ?_ _)⟩
 grind [AR,AC,Value.cells]
theorem pU(h:Rp w0 S γ β s a w):∀ (ts:List Ty) (l:List Operand) (xs:List D),bg ts=true->AV.toDl s.ob ts (l.map s.opA)=some xs ->
  er ts xs/\(l.map a.eval).length=xs.length/\∀ (i:Nat) (x:D) (v:Value),xs[i]?=some x->(l.map a.eval)[i]?=some v->fD w S x v
 | ts,[],xs,_,hx=>by
  all_goals grind [AV.toDl,Option.some.injEq,er]
 | ts,y::l,xs,hn,hx=>by
  cases ts<;>simp only[z4a,AV.toDl] at hx<;>first|(cases hx;done)|skip
  rename_i t ts;obtain⟨x,h1,h2⟩:=bind_some_inv hx;obtain⟨ys,h3,h4⟩:=bind_some_inv h2;simp only[zca] at h4;subst h4;simp only[bg,zaa] at hn;obtain⟨k1,k2⟩:=mM hn.1 (aN h y) h1;obtain⟨k3,k4,k5⟩:=pU h ts l ys hn.2 h3;refine⟨by simp only[er];exact⟨x,ys,rfl,k1,k3⟩,by simpa using k4,λi z v hz hv=>?_⟩
  cases i with
  | zero=>simp at hz hv;subst hz;subst hv;exact k2
  | succ i=>simp only[zdb,z4a] at hz hv;exact k5 i z v hz hv
theorem vD:∀ {l:List Nat} {i j x:Nat},cT l=true->l[i]?=some x->l[j]?=some x->i=j
 | [],_,_,_,_,h,_=>by simp at h
 | a::l,i,j,x,h,hi,hj=>by
  simp only[cT,zaa,zFa] at h;have hn:∀ k,l[k]?≠some a:=λk hk=>by
   have:l.contains a=true:=by rw[List.contains_iff_mem];exact z0a hk
   simp_all
  cases i with
  | zero=>
   all_goals grind
  | succ i=>
   cases j with
   | zero=>simp at hi hj;subst hj;exact absurd hi (hn i)
   | succ j=>simp at hi hj;rw[vD h.2 hi hj]
theorem tZ:∀ {ts us:List Ty} {xs zs:List D},er ts xs->er us zs->er (ts++us) (xs++zs)
 | [],us,xs,zs,h,k=>by simp_all [er]
 | t::ts,us,xs,zs,h,k=>by
  simp only[er] at h;obtain⟨d,l,rfl,h1,h2⟩:=h;simp only[zib,er];exact⟨d,l++zs,rfl,h1,tZ h2 k⟩
theorem yc(h:Rp w0 S γ β s a w):∀ (ts:List Ty) (l:List AV) (zs:List D) (caps:List Value),nP s.ob ts l=some zs->mA ⟨w,S,γ,β,s.ob,s.dead⟩ l caps ->
  ∃ bs:List Nat,caps=bs.map Dw/\er ts zs/\bs.length=zs.length/\l.length=bs.length/\(∀ (i b:Nat),bs[i]?=some b->∃ id:Nat,(rU l)[i]?=some id/\γ id=some b)/\∀ (i:Nat) (x:D) (b:Nat),zs[i]?=some x->bs[i]?=some b->Kw w S x b
 | [],l,zs,caps,hz,hc=>by
  cases l with
  | nil=>
   simp only[nP,zca] at hz;subst hz;simp only[mA] at hc;subst hc;exact⟨[],rfl,by simp only[er],rfl,rfl,λi b h=>by simp at h,λi x b h=>by simp at h⟩
  | cons x l=>simp[nP] at hz
 | t::ts,l,zs,caps,hz,hc=>by
  cases l with
  | nil=>simp[nP] at hz
  | cons x l=>
   cases x<;>first|(simp[nP] at hz;done)|skip
   rename_i u id p;cases p<;>first|(simp[nP] at hz;done)|skip
   simp only[nP] at hz;split at hz<;>first|(cases hz;done)|skip
   rename_i u' v ho;split at hz<;>first|(cases hz;done)|skip
   rename_i hb;have:=Ty.eq_of_beq _ _ hb;subst this;obtain⟨z,h1,hz⟩:=bind_some_inv hz;obtain⟨zs',h2,hz⟩:=bind_some_inv hz;cases hz;simp only[mA] at hc;obtain⟨v',c2,rfl,k1,k2⟩:=hc;obtain⟨bs,rfl,q1,q2,q3,q4,q5⟩:=yc h ts l zs' c2 h2 k2;simp only[AC] at k1;obtain⟨b,off,e1,e2,e3⟩:=k1;obtain⟨_,e4⟩:=e3 _ ho;have e5:off=0:=e4;subst e5;have hO:=h.obs id _ b ho e2;simp only[fh] at hO;obtain⟨_,_,o1,cs,o2,o3,_⟩:=hO;obtain⟨t1,t2,_⟩:=pT _ _ _ _ h1 o3;refine⟨b::bs,by simp only[List.cons.injEq,and_true] at e1;rw[e1];rfl,by simp only[er];exact⟨z,zs',rfl,t1,q1⟩,by simp[q2],by simp[q3],λi b' hi=>?_,λi x b' hx hi=>?_⟩
   ·cases i with
    | zero=>simp at hi;subst hi;exact⟨id,rfl,e2⟩
    | succ i=>simp only[zdb] at hi;obtain⟨id',j1,j2⟩:=q4 i b' hi;exact⟨id',by simpa [rU] using j1,j2⟩
   ·cases i with
    | zero=>simp at hx hi;subst hx;subst hi;exact⟨o1,cs,o2,t2⟩
    | succ i=>simp only[zdb] at hx hi;exact q5 i x b' hx hi
def uB (h : Rp w0 S γ β s a w) {o : Oper} {f : FuncId} {rty : Ty} {y : D} (n2 : aj rty = true \/ ∃ ts, rty = .tup ts /\ bg ts = true) {fn : Func} (f1 : P.funcs[f]? = some fn) (f2 : (fn.name == "runtime.NumGoroutine") = false) (f3 : fn.body.isSome = true)
  (vs:List Value) (hx:(execOp a.eval o).run P w=.ok (.enter f vs.toArray) w)
  (hc:Calls P f vs.toArray w λe w'=>∃ v,e=.returned v/\(∃ os d,w.drawn<=d/\w'=grown w os d)/\wt rty y/\DR w' (λb o=>S b o\/(w.heap.size<=b/\b<w'.heap.size)) y v) :
  dH P o a w (Qp w0 S γ β s a w o.dst (.d rty y)):=by
 refine .enter (f:=f) (args:=vs.toArray) (w':=w) hx (hc.mono λe w' ⟨v,he,⟨os,d,hdr0,hw'⟩,hwt,hdr⟩=>⟨v,he,?_⟩);subst hw';obtain⟨h1,le1⟩:=h.grow (os:=os) (d:=d) hdr0 (S':=λb o=>S b o\/(w.heap.size<=b/\b<(grown w os d).heap.size)) (λ_ _ hb=>.inl hb) (λ_ _ hb=>hb);refine⟨_,γ,β,h1,?_,λ_ _ hb=>.inl hb,⟨os,d,rfl⟩,λ_ _ hb=>hb,λ_ _=>⟨rfl,rfl⟩⟩;simp only[AR];rcases n2 with n2|⟨ts,rfl,n2⟩
 ·refine .inl ⟨n2,hwt,?_⟩;cases rty<;>simp only[wt] at hwt<;>first
   | (obtain⟨m,rfl⟩:=hwt;exact hdr)
   | (obtain⟨m,rfl,_⟩:=hwt;exact hdr)
   | (exact hwt.elim)
   | (simp[aj] at n2)
 ·simp_all
def EQ(h:Rp w0 S γ β s a w){o:Oper}{f:FuncId}{t:Ty}{l:List D}{d:Nat}(hd:o.dst=some d)(hd4:d<4096)(hβ:β (s.base+d)=none){fn:Func}(f1:P.funcs[f]?=some fn){ptys:List Ty}{xs:List D}
  (vs:List Value) (hx:(execOp a.eval o).run P w=.ok (.enter f vs.toArray) w) (hc:D8 P ptys t f xs l) (k1:er ptys xs) (k2:vs.length=xs.length) (k3:∀ (i:Nat) (x:D) (v:Value),xs[i]?=some x->vs[i]?=some v->fD w S x v) :
  dH P o a w (Qp w0 S γ β s a w o.dst (.own t (s.base+d) l)):=by
 refine .enter (f:=f) (args:=vs.toArray) (w':=w) hx ((hc w S vs h.Sb k1 k2 k3).mono λe w' ⟨A,cap,he,⟨os,dr,hdr0,hw'⟩,hnt,hwt,S',s1,s2,hcr,hA⟩=>⟨_,he,?_⟩);subst hw';obtain⟨h1,le1⟩:=h.grow (os:=os) (d:=dr) hdr0 (S':=S') s1 s2;rcases hA with⟨rfl,rfl⟩|⟨b,off,rfl,⟨hb0,hb1⟩,hn,hend⟩
 ·refine⟨S',γ,β,h1,?_,s1,⟨os,dr,rfl⟩,λ_ _ hb=>hb,λ_ _=>⟨rfl,rfl⟩⟩;simp only[AR,AC,Value.cells];exact⟨by simp,hnt,hwt,none,0,rfl,hcr,λ_=>.inl ⟨rfl,rfl⟩⟩
 ·have hw0:¬ w0.Old b:=λho=>by have:=ho.1;have:=h.ext.sz;omega
  obtain⟨h2,le2⟩:=h1.newTok (v:=s.base+d) (b:=b) (e:=off+l.length*t.size) hβ hw0 hb1 (λid hid=>by have:=(h.γn id _ hid).2;omega) (λu f hu hf=>by have:=(h.βn u _ _ hu hf).2.1;omega) (by omega) hend
  refine⟨S',γ,nA β (s.base+d) (b,off+l.length*t.size),h2,?_,s1,⟨os,dr,rfl⟩,λ_ _ hb=>hb,λid hid=>⟨rfl,bJ β _ λhh=>?_⟩⟩
  ·simp only[AR,AC,Value.cells];exact⟨by simp,hnt,hwt,_,cap,rfl,hcr,λ_=>.inr ⟨b,off,rfl,by simp[bw],hn⟩⟩
  ·subst hh;rcases hid with hid|hid
   ·simp_all
   ·omega
def Jp(hE:EnvOk P E)(h:Rp w0 S γ β s a w){dst c ty pos after guard}(hf:Fr E s γ β ⟨dst,.call c,ty,pos,after,guard⟩):iM P E w0 S γ β s a w ⟨dst,.call c,ty,pos,after,guard⟩:=by
 intro R K r hq;obtain⟨callee,args,argTypes⟩:=c;simp only[qv] at hq;split at hq<;>first|(cases hq;done)|skip
 case h_1=>
  replace hq:=bind_some_inv hq;obtain⟨T,hT,hq⟩:=hq;replace hq:=bind_some_inv hq;obtain⟨t,ht,hq⟩:=hq;replace hq:=bind_some_inv hq;obtain⟨x,hx,hq⟩:=hq;have hx':(args.map a.eval)[0]?=some (a.eval x):=by simp[hx]
  have hex:execOp a.eval ⟨dst,.call ⟨.builtin .len,args,argTypes⟩,ty,pos,after,guard⟩=(Builtin.len_ argTypes ty (args.map a.eval) >>= λv=>pure (.value v)):=rfl;cases t<;>(try simp only at hq)<;>first|(cases hq;done)|skip
  case sl e=>
   rcases hE.lay T _ ht with⟨ts',hts⟩|hl
   ·cases hts
   have hn:=aD _ _ hl;simp only[aj] at hn;obtain⟨u,k1,_⟩:=ii hl;have run:∀ {A:Option Addr} {n cap:Nat},a.eval x=.slice A n cap->(execOp a.eval ⟨dst,.call ⟨.builtin .len,args,argTypes⟩,ty,pos,after,guard⟩).run P w=.ok (.value (.int .i64 n)) w:=by
    simp_all [Builtin.len_,run_underlying,k1,goInt]
   by_cases hm:∃ t' id,s.opA x=.mem t' id
   ·obtain⟨t',id,hm⟩:=hm;have hx2:=aN h x;rw[hm] at hq hx2;simp only at hq;split at hq<;>first|(cases hq;done)|skip
    split at hq<;>first|(cases hq;done)|skip
    rename_i u' l hob;obtain⟨_,b,hγ,hob2⟩:=D5 hx2;obtain⟨l',e1,hv⟩:=hob2 _ hob;cases e1;exact⟨_,hq,.value (run hv) (Qp.same h (cr _ _) _)⟩
   ·have hq':((s.opA x).asList s.ob e).bind (λl=>K (.d (.int .i64) (.int .i64 l.length)))=some r:=by
     simp_all
    obtain⟨l,h1,hq⟩:=bind_some_inv hq';obtain⟨A,cap,hv⟩:=Aa hn (aN h x) h1;exact⟨_,hq,.value (run hv) (Qp.same h (cr _ _) _)⟩
  case arr n e=>
   rcases hE.lay T _ ht with⟨ts',hts⟩|hl
   ·cases hts
   obtain⟨u,k1,_⟩:=dC hl;exact⟨_,hq,.value (v:=.int .i64 n) (w':=w) (by rw[hex];simp[Builtin.len_,hT,hx',run_underlying k1,goInt]) (Qp.same h (cr _ _) _)⟩
  case str=>
   rcases hE.lay T _ ht with⟨ts',hts⟩|hl
   ·cases hts
   replace hq:=bind_some_inv hq;obtain⟨p,hp,hq⟩:=hq;split at hq<;>first|(cases hq;done)|skip
   rename_i hb;replace hq:=bind_some_inv hq;obtain⟨z,hz,hq⟩:=hq;have hx2:=aN h x;rw[dA hp] at hx2;obtain⟨t',x'⟩:=p;have e:=Ty.eq_of_beq _ _ hb;simp only at e;subst e;obtain⟨k1,k2⟩:=xL hx2 rfl;simp only[wt] at k1;obtain⟨sb,rfl⟩:=k1;simp only[D.slen,zca] at hz;subst hz;have hsv:a.eval x=.string sb:=by
    obtain⟨c1,c2⟩:=k2;obtain⟨c,e,h⟩:=cF.single' c2;have:=am c1 e;rw[this];cases h;rfl
   have hu:P.underlying T=some .string:=by
    simp only[bC,zaa] at hl;all_goals grind
   exact⟨_,hq,.value (v:=.int .i64 sb.size) (w':=w) (by rw[hex];simp[Builtin.len_,hT,hx',run_underlying hu,hsv,goInt]) (Qp.same h (cr _ _) _)⟩
 case h_2=>
  split at hq<;>first|(cases hq;done)|skip
  rename_i x y he;have he':(args.map a.eval).toList=[a.eval x,a.eval y]:=by simp[he]
  replace hq:=bind_some_inv hq;obtain⟨p,hp,hq⟩:=hq;replace hq:=bind_some_inv hq;obtain⟨q,hqq,hq⟩:=hq;split at hq<;>first|(cases hq;done)|skip
  replace hq:=bind_some_inv hq;obtain⟨z,hz,hq⟩:=hq;have h1:=aN h x;have h2:=aN h y;rw[dA hp] at h1;rw[dA hqq] at h2;cases hp2:p.2<;>rw[hp2] at hz h1<;>cases hq2:q.2<;>rw[hq2] at hz h2<;>simp only[D.min2] at hz<;>first|(cases hz;done)|skip
  rename_i k n k' m;simp only[zca] at hz;subst hz;obtain⟨v1,t1⟩:=ef h1;obtain⟨v2,_⟩:=ef h2;have hex:execOp a.eval ⟨dst,.call ⟨.builtin .min,args,argTypes⟩,ty,pos,after,guard⟩=(Builtin.min_ argTypes ty (args.map a.eval) >>= λv=>pure (.value v)):=rfl;refine⟨_,hq,.value (v:=.int k (if m<n then m else n)) (w':=w) ?_ (Qp.same h (by rw[t1];exact cr _ _) _)⟩
  simp_all [Builtin.min_,v1,v2,Builtin.min2]
 case h_3=>
  split at hq<;>first|(cases hq;done)|skip
  rename_i x y he;have he':(args.map a.eval).toList=[a.eval x,a.eval y]:=by simp[he]
  replace hq:=bind_some_inv hq;obtain⟨p,hp,hq⟩:=hq;replace hq:=bind_some_inv hq;obtain⟨q,hqq,hq⟩:=hq;split at hq<;>first|(cases hq;done)|skip
  replace hq:=bind_some_inv hq;obtain⟨z,hz,hq⟩:=hq;have h1:=aN h x;have h2:=aN h y;rw[dA hp] at h1;rw[dA hqq] at h2;cases hp2:p.2<;>rw[hp2] at hz h1<;>cases hq2:q.2<;>rw[hq2] at hz h2<;>simp only[D.max2] at hz<;>first|(cases hz;done)|skip
  rename_i k n k' m;simp only[zca] at hz;subst hz;obtain⟨v1,t1⟩:=ef h1;obtain⟨v2,_⟩:=ef h2;have hex:execOp a.eval ⟨dst,.call ⟨.builtin .max,args,argTypes⟩,ty,pos,after,guard⟩=(Builtin.max_ argTypes ty (args.map a.eval) >>= λv=>pure (.value v)):=rfl;refine⟨_,hq,.value (v:=.int k (if m>n then m else n)) (w':=w) ?_ (Qp.same h (by rw[t1];exact cr _ _) _)⟩
  simp_all [Builtin.max_,v1,v2,Builtin.max2]
 case h_4 f=>
  replace hq:=bind_some_inv hq;obtain⟨g,hg,hq⟩:=hq;cases hfr:Nat.beq (E.free f) 0 with
  | false=>rw[hfr] at hq;cases hq
  | true=>
  rw[hfr] at hq;replace hq:=bind_some_inv hq;obtain⟨xs,hxs,hq⟩:=hq;replace hq:=bind_some_inv hq;obtain⟨y,hy,hq⟩:=hq;obtain⟨ptys,rty⟩:=g;obtain⟨n1,n2,fn,f1,f2,f3⟩:=hE.sig f ptys rty hg;obtain⟨k1,k2,k3⟩:=pU h ptys args.toList xs n1 hxs;obtain⟨hc,hc2⟩:=hE.call f ptys rty xs y hg hy k1;rw[zic hfr] at hc;have hrun:(execOp a.eval ⟨dst,.call ⟨.value (.func f),args,argTypes⟩,ty,pos,after,guard⟩).run P w=.ok (.enter f (args.toList.map a.eval).toArray) w:=by
   have hm:args.map a.eval=(args.toList.map a.eval).toArray:=zcc (by simp)
   have f2' : ¬ fn.name = "runtime.NumGoroutine" := by simpa using f2
   have hb':¬ fn.body=none:=by grind
   simp[execOp,resolve,Act.eval,Deferred.ofValue,invoke,callFunc,f1,f2',hb',hm]
  cases how:E.ownF f with
  | true=>
   rw[how] at hq;simp only[cond_true] at hq;obtain⟨t,l,rfl,rfl,hc3⟩:=hc2 how;replace hq:=bind_some_inv hq;obtain⟨d,hd,hq⟩:=hq;replace hq:=bind_some_inv hq;obtain⟨l',hl',hq⟩:=hq;cases hl';obtain⟨hd4,_,hβ,_⟩:=hf rfl d hd;exact⟨_,hq,EQ h hd hd4 hβ f1 (args.toList.map a.eval) hrun hc3 k1 k2 k3⟩
  | false=>
   rw[how] at hq;exact⟨_,hq,uB h n2 f1 f2 f3 (args.toList.map a.eval) hrun (hc w S (args.toList.map a.eval) h.Sb k1 k2 k3)⟩
 case h_5 t=>
  split at hq<;>first|(cases hq;done)|skip
  rename_i f l ht;replace hq:=bind_some_inv hq;obtain⟨g,hg,hq⟩:=hq;cases hfr:(Nat.beq (E.free f) l.length&&cT (rU l)) with
  | false=>rw[hfr] at hq;cases hq
  | true=>
  rw[hfr] at hq;simp only[zaa] at hfr;obtain⟨hfr,hnd⟩:=hfr;have hfr:=zic hfr;replace hq:=bind_some_inv hq;obtain⟨xs,hxs,hq⟩:=hq;replace hq:=bind_some_inv hq;obtain⟨zs,hzs,hq⟩:=hq;replace hq:=bind_some_inv hq;obtain⟨y,hy,hq⟩:=hq;obtain⟨ptys,rty⟩:=g;obtain⟨n1,n2,fn,f1,f2,f3⟩:=hE.sig f ptys rty hg;obtain⟨k1,k2,k3⟩:=pU h _ args.toList xs (gn _ n1) hxs;have hA:=aN h (.tmp t);have hA':AR ⟨w,S,γ,β,s.ob,s.dead⟩ (.clo f l) (a.eval (.tmp t)):=by rw[<-ht];exact hA
  simp only[AR,AC] at hA';obtain⟨na,caps,hcs,hcap⟩:=hA';have hv:=am na hcs;obtain⟨bs,rfl,q1,q2,q3,q4,q5⟩:=yc h _ l zs caps hzs hcap;have hwt:er ptys (xs++zs):=by
   have:=tZ k1 q1
   rwa [zpa] at this
  have hc:=(hE.call f ptys rty (xs++zs) y hg hy hwt).1;have hx:(execOp a.eval ⟨dst,.call ⟨.value (.tmp t),args,argTypes⟩,ty,pos,after,guard⟩).run P w=.ok (.enter f (args.toList.map a.eval++bs.map Dw).toArray) w:=by
   have hm:args.map a.eval=(args.toList.map a.eval).toArray:=zcc (by simp)
   have f2' : ¬ fn.name = "runtime.NumGoroutine" := by simpa using f2
   have hb':¬ fn.body=none:=by grind
   simp only[execOp,resolve,hv];simp[Deferred.ofValue,invoke,callFunc,f1,f2',hb',hm]
  refine⟨_,hq,uB h n2 f1 f2 f3 (args.toList.map a.eval++bs.map Dw) hx ?_⟩;rw[hfr] at hc;cases l with
  | nil=>
   have hb0:bs=[]:=zuc.1 (by simpa using q3.symm)
   have hz0:zs=[]:=zuc.1 (by rw[<-q2,hb0];rfl)
   subst hb0;subst hz0;simp only[zLb,zbd] at hc ⊢;exact hc w S (args.toList.map a.eval) h.Sb (by simpa using hwt) k2 k3
  | cons x l=>
   refine hc w S (args.toList.map a.eval) bs h.Sb hwt q3.symm (by rw[k2,zta,<-q2,<-q3];rfl) (λi j b hi hj=>?_) (λi x v hx hv=>?_) λi x b hx hb=>?_
   ·obtain⟨id,e1,e2⟩:=q4 i b hi;obtain⟨id',e3,e4⟩:=q4 j b hj;have:=h.γi id id' b e2 e4;subst this;exact vD hnd e1 e3
   ·grind
   ·grind
def NS(hE:EnvOk P E)(h:Rp w0 S γ β s a w){o:Oper}(hf:Fr E s γ β o)(hT:∀ T t,o.op=.alloc T->E.L T=some t->aj t=true):iM P E w0 S γ β s a w o:=by
 obtain⟨dst,op,ty,pos,after,guard⟩:=o;cases op
 case move x=>exact Jr h
 case assign x=>exact Dy h
 case pick c x y=>exact Js h
 case alloc T=>exact F5 hE h hf (λt=>hT T t rfl)
 case load T x=>exact Jq hE h
 case lookup T x i c=>exact Dz hE h
 case fieldAddr T x f=>exact xg hE h
 case indexAddr T x i=>exact xh hE h
 case field T x f=>exact F9 hE h
 case index T x f=>exact Ga hE h
 case binOp op T x y T'=>exact F6 hE h
 case unOp op T x=>exact Jt h
 case convert U T x=>exact AO hE h
 case build T ps=>exact F7 hE h
 case buildSlice T n ps=>exact uq hE h hf
 case extract x i=>exact AP h
 case nilCheck x=>exact zn h
 case slice T x lo hi mx=>exact Gb hE h
 case sliceToArrayPointer T x=>exact Jo hE h
 case makeFunc fn x y=>exact zm h
 case call c=>exact Jp hE h hf
 all_goals (intro R K r hq;simp only[qv] at hq;cases hq)
end
end Sy
end
noncomputable section
namespace Sy
open Go
def mT{w0:Root}{w w':World}(h:lK w0 w)(ht:w'.tape=w.tape)(ho:w'.os=w.os)(hu:w'.output=w.output)(hs:w.heap.size<=w'.heap.size)(hd:w.drawn<=w'.drawn)(hh:∀ b,w0.Old b->w'.heap[b]?=w.heap[b]?):lK w0 w':=
 ⟨ht.trans h.tape,ho.trans h.os,hu.trans h.output,zDa h.sz hs,zDa h.dr hd,λb hb=>(hh b hb).trans (h.old b hb)⟩
def cj{w:World}{b b' off:Nat}{cs:Array Value}(h:b'≠b):(putAt w b off cs).heap[b']?=w.heap[b']?:=by
 simp only[putAt,z0c];grind
def fU{w:World}{b off:Nat}{c cs:Array Value}(h:bE w b=some c):bE (putAt w b off cs) b=some (dw c off cs):=by
 unfold bE at h ⊢;split at h<;>first|(cases h;done)|skip
 rename_i hb;simp only[zca] at h;subst h;simp only[putAt,z0c,if_true,hb,zkb]
def xl{w:World}{b b' off:Nat}{cs:Array Value}(h:b'≠b):bE (putAt w b off cs) b'=bE w b':=by
 simp only[bE,cj h]
def bP{w:World}{b b' off o:Nat}{cs:Array Value}(h:b'≠b):(putAt w b off cs).cell? ⟨b',o,none⟩=w.cell? ⟨b',o,none⟩:=by
 simp only[World.cell?,cj h]
def jL{w:World}{b b' off:Nat}{c cs:Array Value}(h:bE w b=some c)(hs:off+cs.size<=c.size):lu (putAt w b off cs) b'=lu w b':=by
 by_cases e:b'=b
 ·simp_all [lu,fU,zkb,splice_size]
 ·simp only[lu,xl e]
def cJ.but{w w':World}(b0:Nat)(h:∀ b,b≠b0->b<w.heap.size->w'.heap[b]?=w.heap[b]?)(h0:∀ o,w.heap[b0]?=some o->o≠Obj.deferred (some [])/\∀ r,o≠Obj.loop r):cJ w w':=by
 intro b;all_goals grind
def cJ.old{w w':World}(h:∀ b,b<w.heap.size->w'.heap[b]?=w.heap[b]?):cJ w w':=
 λb=>⟨λhb=>(h b (zfa.1 hb).1).trans hb,λ⟨r,hb⟩=>⟨r,(h b (zfa.1 hb).1).trans hb⟩⟩
def DG{w:World}{b:Nat}{c:Array Value}(h:bE w b=some c):∀ o,w.heap[b]?=some o->o≠Obj.deferred (some [])/\∀ r,o≠Obj.loop r:=λo ho=>by
 constructor
 ·rintro rfl;simp[bE,ho] at h
 ·rintro r rfl;simp[bE,ho] at h
def Df{w:World}{b n:Nat}{es:Array MapEntry}(h:w.heap[b]?=some (.map es n)):∀ o,w.heap[b]?=some o->o≠Obj.deferred (some [])/\∀ r,o≠Obj.loop r:=λo ho=>by
 simp_all
theorem cJ.putAt{w:World}{b off:Nat}{c cs:Array Value}(h:bE w b=some c):cJ w (putAt w b off cs):=cJ.but b (λb' hb _=>cj hb) (DG h)
theorem cJ.grown{w:World}{os:List Obj}{d:Nat}:cJ w (grown w os d):=cJ.old λb hb=>cB w os d hb
theorem Fm.refl(s:St)(S:Nat->Nat->Prop)(γ:Nat->Option Nat)(a:Act)(w:World):Fm s S γ a w S γ a w:=
 ⟨λ_ _ h=>h,λ_ _ _=>rfl,λ_ _=>rfl,λ_ _ _ h=>⟨h,iN.refl _ _⟩,zha _,λ_ _ h=>h,jW.same rfl (cJ.refl _)⟩
theorem Fm.trans{s s1:St}{S S1 S2:Nat->Nat->Prop}{γ γ1 γ2:Nat->Option Nat}{a a1 a2:Act}{w w1 w2:World}(h:Fm s S γ a w S1 γ1 a1 w1)(k:Fm s1 S1 γ1 a1 w1 S2 γ2 a2 w2)(e1:s1.lkS=s.lkS)(e2:s1.lkO=s.lkO):Fm s S γ a w S2 γ2 a2 w2:=
 ⟨λb o hb=>k.sub b o (h.sub b o hb),λb o hb=>(k.cell b o (h.sub b o hb)).trans (h.cell b o hb),λt ht=>(k.slots t (e1 ▸ ht)).trans (h.slots t ht),
  λid hid b hb=>by
   obtain⟨h1,h2⟩:=h.objs id hid b hb;obtain⟨k1,k2⟩:=k.objs id (e2 ▸ hid) b h1;exact⟨k1,h2.trans k2⟩,zDa h.sz k.sz,λid b hb=>k.gam id b (h.gam id b hb),h.dfs.trans (e2 ▸ k.dfs) h.sz k.sz⟩
def bM{a:Act}{dst:Option Nat}{v:Value}{t:Nat}(h:dst≠some t):(a.put dst v).tmps.getD t undef=a.tmps.getD t undef:=by
 cases dst with
 | none=>rfl
 | some d=>
  have hd:d≠t:=λe=>h (by rw[e])
  simp only[Act.put];all_goals simp_all
def Eb(P:Program)(w0:Root)(S:Nat->Nat->Prop)(γ:Nat->Option Nat)(β:Nat->Option (Nat×Nat))(s:St)(a:Act)(w:World)(o:Oper)(s':St):Prop:=
 s'.lkS=s.lkS/\s'.lkO=s.lkO/\s'.fresh=s.fresh/\s'.nt=s.nt/\(∀ id,γ id=none->o.dst≠some (id-s.base)\/id<s.base->s'.ob id=s.ob id) ∧
 dH P o a w λval w'=>∃ S' γ' β',Rp w0 S' γ' β' s' (a.put o.dst val) w'/\Fm s S γ a w S' γ' (a.put o.dst val) w'/\(∀ id,o.dst≠some (id-s.base)\/id<s.base->γ' id=γ id/\β' id=β id)
section
variable{P:Program}{E:Env}{w0:Root}{S:Nat->Nat->Prop}{γ:Nat->Option Nat}{β:Nat->Option (Nat×Nat)}{s:St}{a:Act}{w:World}
def St.put_fields(s:St)(d:Option Nat)(v:AV):(s.put d v).ob=s.ob/\(s.put d v).fresh=s.fresh/\(s.put d v).dead=s.dead/\(s.put d v).nt=s.nt/\(s.put d v).lkS=s.lkS/\(s.put d v).lkO=s.lkO/\(s.put d v).base=s.base:=by
 cases d with
 | none=>exact⟨rfl,rfl,rfl,rfl,rfl,rfl,rfl⟩
 | some d=>simp only[St.put];split<;>exact⟨rfl,rfl,rfl,rfl,rfl,rfl,rfl⟩
def ct{os:List Obj}{d b:Nat}(h:b<w.heap.size):(grown w os d).heap[b]?=w.heap[b]?:=cB w os d h
def uR(hE:EnvOk P E)(h:Rp w0 S γ β s a w){o:Oper}(hf:Fr E s γ β o)(hT:∀ T t,o.op=.alloc T->E.L T=some t->aj t=true)(hlk:∀ t∈s.lkS,o.dst≠some t){R:Type}{K:St->Option R}{r:R}(hq:qv E s o (λv=>K (s.put o.dst v))=some r) :
  ∃ s',K s'=some r/\Eb P w0 S γ β s a w o s':=by
 obtain⟨v,h1,h2⟩:=NS hE h hf hT R _ r hq;obtain⟨p1,p2,p3,p4,p5,p6,p7⟩:=St.put_fields s o.dst v;refine⟨_,h1,p5,p6,p2,p4,λid _ _=>by rw[p1],h2.mono λval w' ⟨S',γ',β',k1,k2,k3,⟨os,d,k4⟩,k5,k6⟩=>?_⟩
 subst k4;exact⟨S',γ',β',k1.put k2 o.dst,⟨k3,λb o hb=>df (h.Sb b o hb),λt ht=>bM (hlk t ht),λid hid b hb=>⟨k5 id b hb,.inl (ct (h.γn id b hb).2)⟩,by simp,k5,jW.same bA cJ.grown⟩,k6⟩
def Rp.write(h:Rp w0 S γ β s a w){id b off:Nat}{o o':Ob}{c cs:Array Value}(ho:s.ob id=some o)(hγ:γ id=some b)(hS:∀ o,¬ S b o)(hr:bE w b=some c)(hs:off+cs.size<=c.size)
  (hty:∀ p,dP o' p=dP o p/\bX o' p=bX o p) (hmany:∀ t l,o=.many t l->∃ l',o'=.many t l'/\l'.length=l.length) (hmp:∀ kt vt l,o≠.mp kt vt l)
  (hob:fh ⟨putAt w b off cs,S,γ,β,(s.setOb id (some o')).ob,s.dead⟩ b o') :
  Rp w0 S γ β (s.setOb id (some o')) a (putAt w b off cs)/\Cx.le ⟨w,S,γ,β,s.ob,s.dead⟩ ⟨putAt w b off cs,S,γ,β,(s.setOb id (some o')).ob,s.dead⟩:=by
 have hbS:∀ b' o,S b' o->b'≠b:=λb' o hb e=>hS o (e ▸ hb);have hle:Cx.le ⟨w,S,γ,β,s.ob,s.dead⟩ ⟨putAt w b off cs,S,γ,β,(s.setOb id (some o')).ob,s.dead⟩:=by
  refine⟨λb' o hb=>bP (hbS b' o hb),λ_ _ hb=>hb,λ_ _ hb=>hb,λi x hx _=>?_,λv hv=>⟨hv,λb' e he=>⟨he,λn hn=>by rw[jL hr hs];exact hn⟩⟩⟩
  simp only[St.setOb] at hx;by_cases e:i=id
  ·simp_all
  ·simp_all
 refine⟨⟨mT h.ext rfl rfl rfl (by simp) (zha _) (λb' hb'=>cj (λe=>(h.γn id b hγ).1 (e ▸ hb'))),λt ht=>(h.tms t ht).mono hle,h.nt,h.tmu,λi x b' hx hb'=>?_,λi b' hb'=>by simpa using h.γn i b' hb',h.γi,h.γf,
  λv b' e hv he=>by simpa using h.βn v b' e hv he,h.βi,h.βγ,h.βf,λb' o hb=>by simpa using h.Sb b' o hb,h.So⟩,hle⟩
 simp only[St.setOb] at hx;by_cases e:i=id
 ·subst e;simp only[if_true,zca] at hx;subst hx;rw[hγ] at hb';cases hb';exact hob
 ·rw[if_neg e] at hx;have hne:b'≠b:=λe'=>e (h.γi i id b' hb' (e' ▸ hγ));exact(h.obs i x b' hx hb').mono hle (cj hne) λ_ hh=>hh
def C0(hE:EnvOk P E)(h:Rp w0 S γ β s a w){dst T x y ty pos after guard}(hlk:∀ t∈s.lkS,dst≠some t){R:Type}{K:St->Option R}{r:R}(hd:dst=none)
  (hq:qf E s ⟨dst,.store T x y,ty,pos,after,guard⟩ K=some r):∃ s',K s'=some r/\Eb P w0 S γ β s a w ⟨dst,.store T x y,ty,pos,after,guard⟩ s':=by
 subst hd;simp only[qf] at hq;have hx:=aN h x;have hy:=aN h y;cases hfn:E.fnT T with
 | true=>
  rw[hfn] at hq;simp only[cond_true] at hq;split at hq<;>first|(cases hq;done)|skip
  rename_i id e;split at hq<;>first|(cases hq;done)|skip
  rename_i hb;simp only[zaa,zFa] at hb;split at hq<;>first|(cases hq;done)|skip
  rename_i v hov;rw[e] at hx;have hlo:id ∉ s.lkO:=by
   simp_all
  obtain⟨b,off,hv,hγ,hob⟩:=jY hx;obtain⟨_,rfl⟩:=hob _ hov;obtain⟨o3,z,o4,_,_⟩:=h.obs id _ b hov hγ;obtain⟨hy,h1⟩:=Cj (c:=⟨w,S,γ,β,s.ob,s.dead⟩) hb.1 hy;have hr:=xo (hE.fnT T hfn) (w:=w) (b:=b) o4 h1;have hsz:0+#[a.eval y].size<=#[z].size:=by simp
  have hle0:fh ⟨putAt w b 0 #[a.eval y],S,γ,β,(s.setOb id (some (.fv (iG s.ob (s.opA y))))).ob,s.dead⟩ b (.fv (iG s.ob (s.opA y))):=by
   have hbS:∀ b' o,S b' o->b'≠b:=λb' o hb e=>o3 o (e ▸ hb);have hle:Cx.le ⟨w,S,γ,β,s.ob,s.dead⟩ ⟨putAt w b 0 #[a.eval y],S,γ,β,(s.setOb id (some (.fv (iG s.ob (s.opA y))))).ob,s.dead⟩:=by
    refine⟨λb' o hb=>bP (hbS b' o hb),λ_ _ hb=>hb,λ_ _ hb=>hb,λi z hz _=>?_,λv hv=>⟨hv,λb' e he=>⟨he,λn hn=>by rw[jL o4 hsz];exact hn⟩⟩⟩
    simp only[St.setOb] at hz;by_cases e:i=id
    ·subst e;simp only[if_true,zca] at hz;subst hz;exact⟨_,hov,λp=>by cases p<;>exact⟨rfl,rfl⟩,(λt l e=>by cases e),λ_ _ l e=>by cases e⟩
    ·simp_all
   simp only[fh];refine⟨o3,a.eval y,?_,hy.mono hle.cell hle.S hle.γ,h1⟩;rw[fU o4];rfl
  obtain⟨n1,n2⟩:=h.write (o':=.fv (iG s.ob (s.opA y))) hov hγ o3 o4 hsz (λp=>by cases p<;>exact⟨rfl,rfl⟩) (λt l e=>by cases e) (λ_ _ _ e=>by cases e) hle0
  refine⟨_,hq,rfl,rfl,rfl,rfl,λi hi _=>?_,.skip (w':=putAt w b 0 #[a.eval y]) ?_ ⟨S,γ,β,n1,?_,λ_ _=>⟨rfl,rfl⟩⟩⟩
  ·grind [St.setOb]
  ·simp_all [execOp,zga,bX,zea,zla]
  ·exact⟨λ_ _ hb=>hb,λb' o hb=>bP (λe=>o3 o (e ▸ hb)),λ_ _=>rfl,λi hi b' hb'=>⟨hb',.inl (cj λe=>hlo ((h.γi id i b hγ (e ▸ hb')) ▸ hi))⟩,by simp,λ_ _ hb=>hb,jW.same rfl (cJ.putAt o4)⟩
 | false=>
 rw[hfn] at hq;simp only[cond_false] at hq;replace hq:=bind_some_inv hq;obtain⟨t,ht,hq⟩:=hq;generalize s.opA x=ax at *;cases ax<;>(try simp only at hq)<;>first|(cases hq;done)|skip
 rename_i t' id p;split at hq<;>first|(cases hq;done)|skip
 rename_i hb;simp only[zaa,zFa] at hb;obtain⟨⟨hb1,hb2⟩,hb3⟩:=hb;have:=Ty.eq_of_beq _ _ hb1;subst this;have hlo:id ∉ s.lkO:=by
  simp_all
 obtain⟨b,off,hv,hγ,hob⟩:=jY hx;split at hq<;>first|(cases hq;done)|skip
 ·
  rename_i u v hov;obtain⟨k1,rfl⟩:=hob _ hov;have hO:=h.obs id _ b hov hγ;simp only[fh] at hO;obtain⟨o1,o2,o3,cs,o4,o5,o6⟩:=hO;simp only[dP] at k1;have hn:=dj p o1 k1;have hl:=iZ hE ht hn;obtain⟨y1,y2⟩:=xK hb2 hn hy;obtain⟨v',pre,mid,post,m1,rfl,m2,m3,m4,m5⟩:=JB p o2 o1 k1 o5 y1 hb2 hq;obtain⟨y3,y4⟩:=gv _ _ _ hb2 y1;have hr:=oE hl (w:=w) (b:=b) (off:=aX u p) o4 y2 y3 y4 (by simp only[zDc,zta];omega)
  have hsz:aX u p+(a.eval y).cells.toList.toArray.size<=(pre++(mid++post)).toArray.size:=by grind
  have hle0:fh ⟨putAt w b (aX u p) (a.eval y).cells.toList.toArray,S,γ,β,(s.setOb id (some (.one u v'))).ob,s.dead⟩ b (.one u v'):=by
   have hbS:∀ b' o,S b' o->b'≠b:=λb' o hb e=>o3 o (e ▸ hb);have hle:Cx.le ⟨w,S,γ,β,s.ob,s.dead⟩ ⟨putAt w b (aX u p) (a.eval y).cells.toList.toArray,S,γ,β,(s.setOb id (some (.one u v'))).ob,s.dead⟩:=by
    refine⟨λb' o hb=>bP (hbS b' o hb),λ_ _ hb=>hb,λ_ _ hb=>hb,λi z hz _=>?_,λv hv=>⟨hv,λb' e he=>⟨he,λn hn=>by rw[jL o4 hsz];exact hn⟩⟩⟩
    simp only[St.setOb] at hz;by_cases e:i=id
    ·subst e;simp only[if_true,zca] at hz;subst hz;exact⟨_,hov,λp=>⟨rfl,rfl⟩,(λt l e=>by cases e),λ_ _ l e=>by cases e⟩
    ·simp_all
   simp only[fh];refine⟨o1,m5,o3,pre++((a.eval y).cells.toList++post),?_,AC.mono hle _ _ m4,(gv _ _ _ m5 m4).1⟩;rw[fU o4,<-m2,gr pre mid post _ m3]
  obtain⟨n1,n2⟩:=h.write (o':=.one u v') hov hγ o3 o4 hsz (λp=>⟨rfl,rfl⟩) (λt l e=>by cases e) (λ_ _ _ e=>by cases e) hle0
  refine⟨_,m1,rfl,rfl,rfl,rfl,λi hi _=>?_,.skip (w':=putAt w b (aX u p) (a.eval y).cells.toList.toArray) ?_ ⟨S,γ,β,n1,?_,λ_ _=>⟨rfl,rfl⟩⟩⟩
  ·grind [St.setOb]
  ·simp_all [execOp,zga,bX,zea,zla]
  ·exact⟨λ_ _ hb=>hb,λb' o hb=>bP (λe=>o3 o (e ▸ hb)),λ_ _=>rfl,λi hi b' hb'=>⟨hb',.inl (cj λe=>hlo ((h.γi id i b hγ (e ▸ hb')) ▸ hi))⟩,by simp,λ_ _ hb=>hb,jW.same rfl (cJ.putAt o4)⟩
 ·
  rename_i u l hov;cases p with
  | nil=>simp only at hq;cases hq
  | cons i p=>
   simp only at hq;replace hq:=bind_some_inv hq;obtain⟨z,hz,hq⟩:=hq;replace hq:=bind_some_inv hq;obtain⟨y',hy',hq⟩:=hq;replace hq:=bind_some_inv hq;obtain⟨z',hz',hq⟩:=hq;obtain⟨k1,rfl⟩:=hob _ hov;have hO:=h.obs id _ b hov hγ;simp only[fh] at hO;obtain⟨o1,o2,o3,cs,o4,o5⟩:=hO;simp only[dP] at k1;have hn:=dj p o1 k1;have hl:=iZ hE ht hn;obtain⟨y1,y2⟩:=xK hb2 hn hy;obtain⟨y3,y4⟩:=gv _ _ _ hb2 y1;obtain⟨q1,q2,_⟩:=pT _ _ _ _ hy' y1;obtain⟨s1,A,C,B,s2,s3,s4,s5⟩:=oG p (o2 z (z0a hz)) o1 k1 hz' q1;have hi:=(zja.1 hz).1;have e0:(D.flats (l.take i)).length=i*u.size:=by
    rw[aB o1 _ (λx hx=>o2 x (zGa hx)),zcb,zlb (zhc hi)]
   rw[bT hz,s2,show D.flats (l.take i)++(A++(C++B)++D.flats (l.drop (i+1)))=(D.flats (l.take i)++A)++(C++(B++D.flats (l.drop (i+1)))) by simp[zEa]] at o5
   obtain⟨c1,c2⟩:=o5.split;obtain⟨c3,c4⟩:=c2.split;generalize hpre:cs.take (D.flats (l.take i)++A).length=pre at *;generalize hrest:cs.drop (D.flats (l.take i)++A).length=rest at *;have ecs:cs=pre++(rest.take C.length++rest.drop C.length):=by rw[<-hpre,zpa,<-hrest,zpa]
   have lpre:pre.length=i*u.size+aX u p:=by rw[<-c1.1,zta,e0,s4]
   have lmid:(rest.take C.length).length=(a.eval y).cells.toList.length:=by rw[<-c3.1,s5,y3]
   subst ecs;have hr:=oE hl (w:=w) (b:=b) (off:=i*u.size+aX u p) o4 y2 y3 y4 (by simp only[zDc,zta];omega)
   have hsz:i*u.size+aX u p+(a.eval y).cells.toList.toArray.size<=(pre++(rest.take C.length++rest.drop C.length)).toArray.size:=by simp only[zDc,zta,zDb] at *;omega
   have hnew:fh ⟨putAt w b (i*u.size+aX u p) (a.eval y).cells.toList.toArray,S,γ,β,(s.setOb id (some (.many u (l.set i z')))).ob,s.dead⟩ b (.many u (l.set i z')):=by
    have hbS:∀ b' o,S b' o->b'≠b:=λb' o hb e=>o3 o (e ▸ hb);simp only[fh];refine⟨o1,λx hx=>?_,o3,pre++((a.eval y).cells.toList++rest.drop C.length),?_,?_⟩
    ·rcases zLc hx with hx|hx
     ·exact o2 x hx
     ·rw[hx];exact s1
    ·rw[fU o4,<-lpre,gr pre _ _ _ lmid]
    ·rw[lQ hz,s3,show D.flats (l.take i)++(A++(y'.flat++B)++D.flats (l.drop (i+1)))=(D.flats (l.take i)++A)++(y'.flat++(B++D.flats (l.drop (i+1)))) by simp[zEa]]
     exact(c1.append (q2.append c4)).mono (λb' o hb=>bP (hbS b' o hb)) λ_ _ hh=>hh
   obtain⟨n1,n2⟩:=h.write (o':=.many u (l.set i z')) hov hγ o3 o4 hsz (λp=>by cases p<;>exact⟨rfl,rfl⟩) (λt l' e=>by cases e;exact⟨_,rfl,by simp⟩) (λ_ _ _ e=>by cases e) hnew
   refine⟨_,hq,rfl,rfl,rfl,rfl,λj hj _=>?_,.skip (w':=putAt w b (i*u.size+aX u p) (a.eval y).cells.toList.toArray) ?_ ⟨S,γ,β,n1,?_,λ_ _=>⟨rfl,rfl⟩⟩⟩
   ·simp only[St.setOb];rw[if_neg];intro e;subst e;have hγ':γ j=some b:=hγ;rw[hγ'] at hj;cases hj
   ·simp only[execOp,hv,zga,bX,hr,zea,zla]
   ·exact⟨λ_ _ hb=>hb,λb' o hb=>bP (λe=>o3 o (e ▸ hb)),λ_ _=>rfl,λj hj b' hb'=>⟨hb',.inl (cj λe=>hlo ((h.γi id j b hγ (e ▸ hb')) ▸ hj))⟩,by simp,λ_ _ hb=>hb,jW.same rfl (cJ.putAt o4)⟩
end
end Sy
end
noncomputable section
namespace Sy
open Go
section
variable{P:Program}{E:Env}{w0:Root}{S:Nat->Nat->Prop}{γ:Nat->Option Nat}{β:Nat->Option (Nat×Nat)}{s:St}{a:Act}{w:World}
def Rp.setFree(h:Rp w0 S γ β s a w){id:Nat}(hid:γ id=none)(o:Option Ob):Rp w0 S γ β (s.setOb id o) a w/\Cx.le ⟨w,S,γ,β,s.ob,s.dead⟩ ⟨w,S,γ,β,(s.setOb id o).ob,s.dead⟩:=by
 have hle:Cx.le ⟨w,S,γ,β,s.ob,s.dead⟩ ⟨w,S,γ,β,(s.setOb id o).ob,s.dead⟩:=by
  refine⟨λ_ _ _=>rfl,λ_ _ k=>k,λ_ _ k=>k,λi x hx ⟨b,hb⟩=>?_,λv hv=>⟨hv,λb e he=>⟨he,λn hn=>hn⟩⟩⟩;simp only[St.setOb] at hx;by_cases e:i=id
  ·simp_all
  ·simp_all
 refine⟨⟨h.ext,λt ht=>(h.tms t ht).mono hle,h.nt,h.tmu,λi x b hx hb=>?_,h.γn,h.γi,h.γf,h.βn,h.βi,h.βγ,h.βf,h.Sb,h.So⟩,hle⟩;simp only[St.setOb] at hx;by_cases e:i=id
 ·simp_all
 ·rw[if_neg e] at hx;exact(h.obs i x b hx hb).mono hle rfl λ_ k=>k
theorem jP(s:St)(id:Nat)(o:Option Ob):(s.setOb id o).ob id=o:=by simp[St.setOb]
def lD(s:St){id i:Nat}(o:Option Ob)(h:i≠id):(s.setOb id o).ob i=s.ob i:=by simp[St.setOb,h]
def Rp.make(h:Rp w0 S γ β s a w){id:Nat}(hid:γ id=none)(hi:id<s.base+4096){c:Array Value}{T:TypeId}{o:Ob}(d:Nat)(hdr:w.drawn<=d)
  (ho:fh ⟨grown w [.cells c T] d,S,nA γ id w.heap.size,β,(s.setOb id (some o)).ob,s.dead⟩ w.heap.size o) :
  Rp w0 S (nA γ id w.heap.size) β (s.setOb id (some o)) a (grown w [.cells c T] d)/\Cx.le ⟨w,S,γ,β,s.ob,s.dead⟩ ⟨grown w [.cells c T] d,S,nA γ id w.heap.size,β,(s.setOb id (some o)).ob,s.dead⟩:=by
 obtain⟨h1,le1⟩:=h.grow (os:=[.cells c T]) (d:=d) hdr (S':=S) (λ_ _ hb=>hb) (λ_ _ hb=>.inl hb);obtain⟨h2,le2⟩:=h1.setFree hid (some o);have hw0:¬ w0.Old w.heap.size:=λho=>by have:=ho.1;have:=h.ext.sz;omega
 obtain⟨h3,le3⟩:=h2.newOb (id:=id) (b:=w.heap.size) hid hw0 (by simp) (λi hi=>by have:=(h.γn i _ hi).2;omega) (λu f hu hf=>by have:=(h.βn u _ _ hu hf).2.1;omega) hi (λx hx=>by
  rw[jP] at hx;cases hx;exact ho)
 refine⟨h3,⟨λb o hb=>le1.cell b o hb,λ_ _ hb=>hb,λi b hb=>dQ hid hb,λi x hx hb=>?_,λv hv=>⟨hv,λb e he=>⟨he,λn hn=>by
  have:=le1.β v hv;exact(this.2 b e he).2 n hn⟩⟩⟩⟩
 obtain⟨b,hb⟩:=hb;exact le2.ob i x hx ⟨b,hb⟩
def Kl(h:Rp w0 S γ β s a w){dst T x ty pos after guard}{d:Nat}(hd4:d<4096)(hd:dst=some d)(hγ:γ (s.base+d)=none)(hlk:∀ t∈s.lkS,dst≠some t){R:Type}{K:St->Option R}{r:R}{t:Ty}{o0:Ob}
  (hq:K ((s.setOb (s.base+d) (some o0)).put dst (.ptr t (s.base+d) []))=some r)
  (ho:Cx.le ⟨w,S,γ,β,s.ob,s.dead⟩ ⟨grown w [.cells (a.eval x).cells T] w.drawn,S,nA γ (s.base+d) w.heap.size,β,(s.setOb (s.base+d) (some o0)).ob,s.dead⟩->fh ⟨grown w [.cells (a.eval x).cells T] w.drawn,S,nA γ (s.base+d) w.heap.size,β,(s.setOb (s.base+d) (some o0)).ob,s.dead⟩ w.heap.size o0)
  (hty:dP o0 []=some t/\0=bX o0 []):∃ s',K s'=some r/\Eb P w0 S γ β s a w ⟨dst,.box T x,ty,pos,after,guard⟩ s':=by
 have hle:Cx.le ⟨w,S,γ,β,s.ob,s.dead⟩ ⟨grown w [.cells (a.eval x).cells T] w.drawn,S,nA γ (s.base+d) w.heap.size,β,(s.setOb (s.base+d) (some o0)).ob,s.dead⟩:=by
  refine⟨λb o hb=>df (h.Sb b o hb),λ_ _ hb=>hb,λi b hb=>dQ hγ hb,λi z hz ⟨b,hb⟩=>?_,λv hv=>⟨hv,λb e he=>⟨he,λn hn=>by rw[vM (h.βn v b e hv he).2.1];exact hn⟩⟩⟩
  by_cases e:i=s.base+d
  ·simp_all
  ·have hz':s.ob i=some z:=by rw[<-hz];exact(lD s _ e).symm
   simp_all
 obtain⟨h1,le1⟩:=h.make (id:=s.base+d) hγ (by omega) (c:=(a.eval x).cells) (T:=T) (o:=o0) w.drawn (zha _) (ho hle)
 obtain⟨p1,p2,p3,p4,p5,p6,p7⟩:=St.put_fields (s.setOb (s.base+d) (some o0)) dst (.ptr t (s.base+d) []);refine⟨_,hq,p5,p6,p2,p4,λid hid hh=>?_,.value (v:=.pointer (some ⟨w.heap.size,0,none⟩)) (w':=grown w [.cells (a.eval x).cells T] w.drawn) ?_ ⟨S,_,β,h1.put (fJ (bw _ _ _) λo ho=>?_) dst,?_,λid hid=>⟨bJ _ _ ?_,rfl⟩⟩⟩
 ·rw[p1];refine lD s _ λe=>?_;subst e;rcases hh with hh|hh
  ·simp_all
  ·omega
 ·simp_all [db,execOp,Instr.box,newVar,newRow,zga]
 ·have ho':(s.setOb (s.base+d) (some o0)).ob (s.base+d)=some o:=ho;rw[jP] at ho';cases ho';exact hty
 ·exact⟨λ_ _ hb=>hb,λb o hb=>df (h.Sb b o hb),λt ht=>bM (hlk t ht),λid hid b hb=>⟨dQ hγ hb,.inl (ct (h.γn id b hb).2)⟩,by simp,λ_ _ hb=>dQ hγ hb,jW.same bA cJ.grown⟩
 ·intro e;subst e;rcases hid with hid|hid
  ·simp_all
  ·omega
def IV(hE:EnvOk P E)(h:Rp w0 S γ β s a w){dst T x ty pos after guard}(hf:Fr E s γ β ⟨dst,.box T x,ty,pos,after,guard⟩)(hlk:∀ t∈s.lkS,dst≠some t){R:Type}{K:St->Option R}{r:R}(hT:∀ t,E.L T=some t->aj t=true)
  (hq:qf E s ⟨dst,.box T x,ty,pos,after,guard⟩ K=some r):∃ s',K s'=some r/\Eb P w0 S γ β s a w ⟨dst,.box T x,ty,pos,after,guard⟩ s':=by
 simp only[qf] at hq;cases hfn:E.fnT T with
 | true=>
  rw[hfn] at hq;simp only[cond_true] at hq;replace hq:=bind_some_inv hq;obtain⟨d,hd,hq⟩:=hq;split at hq<;>first|(cases hq;done)|skip
  rename_i hfit;obtain⟨hd4,hγ,hβ,_⟩:=hf rfl d hd;obtain⟨k2,k3⟩:=Cj (c:=⟨w,S,γ,β,s.ob,s.dead⟩) hfit (aN h x);exact Kl h hd4 hd hγ hlk hq (λhle=>by
   simp only[fh];exact⟨λo ho=>by have:=h.Sb _ _ ho;omega,a.eval x,by rw[<-o7 k3];exact ma,k2.mono hle.cell hle.S hle.γ,k3⟩) ⟨rfl,rfl⟩
 | false=>
 rw[hfn] at hq;simp only[cond_false] at hq;replace hq:=bind_some_inv hq;obtain⟨t,ht,hq⟩:=hq;replace hq:=bind_some_inv hq;obtain⟨d,hd,hq⟩:=hq;split at hq<;>first|(cases hq;done)|skip
 rename_i hfit;obtain⟨hd4,hγ,hβ,_⟩:=hf rfl d hd;have hn:=hT t ht;obtain⟨k1,k2⟩:=xK hfit hn (aN h x);obtain⟨k3,_⟩:=gv _ _ _ hfit k1;exact Kl h hd4 hd hγ hlk hq (λhle=>by
  simp only[fh];exact⟨hn,hfit,λo ho=>by have:=h.Sb _ _ ho;omega,(a.eval x).cells.toList,by rw[z8b];exact ma,AC.mono hle _ _ k1,k3⟩) ⟨by cases t<;>rfl,by cases t<;>rfl⟩
def Bb{n:Nat}(h:n<=1073741824):IntKind.i64.wrap (n:Int)=(n:Int):=by
 exact IntWalk.i64_in _ (by omega)
def ui(hE:EnvOk P E)(h:Rp w0 S γ β s a w){dst T x y ty pos after guard}(hf:Fr E s γ β ⟨dst,.makeSlice T x y,ty,pos,after,guard⟩)(hlk:∀ t∈s.lkS,dst≠some t){R:Type}{K:St->Option R}{r:R}
  (hq:qf E s ⟨dst,.makeSlice T x y,ty,pos,after,guard⟩ K=some r):∃ s',K s'=some r/\Eb P w0 S γ β s a w ⟨dst,.makeSlice T x y,ty,pos,after,guard⟩ s':=by
 simp only[qf] at hq;replace hq:=bind_some_inv hq;obtain⟨t,ht,hq⟩:=hq;replace hq:=bind_some_inv hq;obtain⟨d,hd,hq⟩:=hq;split at hq<;>first|(cases hq;done)|skip
 rename_i e i j;split at hq<;>first|(cases hq;done)|skip
 rename_i hij;subst hij;replace hq:=bind_some_inv hq;obtain⟨p,hp,hq⟩:=hq;replace hq:=bind_some_inv hq;obtain⟨n,hn1,hq⟩:=hq;split at hq<;>first|(cases hq;done)|skip
 rename_i hn30;obtain⟨hd4,hγ,hβ,_⟩:=hf rfl d hd;rcases hE.lay T _ ht with⟨ts',hts⟩|hl
 ·cases hts
 have hn:=aD _ _ hl;simp only[aj] at hn;obtain⟨u,h1,h2⟩:=ii hl;obtain⟨i0,z0,hi1,hi2,mr,hi4,hi5,_⟩:=eO (fQ h2);have hv:a.eval (.tmp i)=.int .i64 n\/∃ k,a.eval (.tmp i)=.int k n:=by
  obtain⟨kk,h3⟩:=vA hn1;have h4:=aN h (.tmp i);rw[show s.opA (.tmp i)=s.tm i from rfl,dA hp,h3] at h4;exact .inr ⟨kk,(ef h4).1⟩
 obtain⟨k,hv⟩:∃ k,a.eval (.tmp i)=.int k n:=by
  rcases hv with hv|hv
  ·exact⟨_,hv⟩
  ·exact hv
 have hzs:z0.cells.size=e.size:=by
  have:=(cg (w:=w) (S:=S) hi5).1;rw[<-zDb,<-this];exact cb _ _ (cD e hn) hn
 let cells:Array Value:=(Array.range (n*e.size)).map λi=>z0.cells[i%z0.cells.size]!
 have hz:∀ w',cF w' S (D.flats (List.replicate n (ar e))) cells.toList:=λw'=>we hi5 hzs n;obtain⟨r1,le1⟩:=h.make (id:=s.base+d) hγ (by omega) (c:=cells) (T:=u) (o:=.many e (List.replicate n (ar e))) w.drawn (zha _) (by
  simp only[fh];exact⟨hn,λx hx=>by rw[(zad.1 hx).2];exact cD e hn,λo ho=>by have:=h.Sb _ _ ho;omega,cells.toList,by rw[z8b];exact ma,hz _⟩)
 have hrun:(Instr.makeSlice T (.int k n) (.int k n)).run P w=.ok (.slice (some ⟨w.heap.size,0,none⟩) n n) (grown w [.cells cells u] w.drawn):=by
  have hb:((i0.bytes:Int)*(n:Int))<=2^48:=by
   have h5:i0.bytes*n<=16384*1073741824:=z2a mr.1 hn30;have:((i0.bytes*n:Nat):Int)<=((16384*1073741824:Nat):Int):=Int.ofNat_le.2 h5;rw[zVa] at this;omega
  have hw:=Bb hn30;have c1:¬ ((n:Int)<0):=by omega
  have c2:¬ ((i0.bytes:Int)*(n:Int)>2^48):=by omega
  simp only[Instr.makeSlice,zga,run_underlying h1,zea,asInt,asIntOf,pure_bind,typeInfo,run_program,hi1,zla,hw];rw[decide_eq_false c1,decide_eq_false c2,decide_eq_false (show ¬ ((n:Int)>n) from zFc _)];simp only[Bool.or_self,zwa,if_false,zga,run_askRoom,zea,bR h2,zTc];by_cases h0:n*e.size=0
  ·have e0:((Array.range (n*e.size)).map λi=>(#[]:Array Value)[i%(#[]:Array Value).size]!)=cells:=by
    show _=((Array.range (n*e.size)).map λi=>z0.cells[i%z0.cells.size]!);rw[h0];simp
   rw[if_pos h0];simp only[pure_bind,e0,newRow,zga,run_newObj,zea,zla];rw[<-db];rfl
  ·rw[if_neg h0];simp only[zeroValue,typeInfo,zga,run_program,hi1,hi4,zea,zla,bind_pure_comp,Sem.run_map,newRow,run_newObj];rw[<-db];rfl
 obtain⟨p1,p2,p3,p4,p5,p6,p7⟩:=St.put_fields (s.setOb (s.base+d) (some (.many e (List.replicate n (ar e))))) dst (.mem e (s.base+d));refine⟨_,hq,p5,p6,p2,p4,λid hid hh=>?_,.value (v:=.slice (some ⟨w.heap.size,0,none⟩) n n) (w':=grown w [.cells cells u] w.drawn) (by simp only[execOp,hv,zga,hrun,zea,zla]) ⟨S,_,β,r1.put ?_ dst,?_,λid hid=>⟨bJ _ _ ?_,rfl⟩⟩⟩
 ·rw[p1];refine lD s _ λe=>?_;subst e;rcases hh with hh|hh
  ·exact hh (by rw[hd,zvb])
  ·omega
 ·simp only[AR,AC,Value.cells];refine⟨by simp,hn,w.heap.size,bw _ _ _,λo ho=>?_⟩
  rw[jP] at ho;cases ho;exact⟨_,rfl,by simp⟩
 ·exact⟨λ_ _ hb=>hb,λb o hb=>df (h.Sb b o hb),λt ht=>bM (hlk t ht),λid hid b hb=>⟨dQ hγ hb,.inl (ct (h.γn id b hb).2)⟩,by simp,λ_ _ hb=>dQ hγ hb,jW.same bA cJ.grown⟩
 ·intro e;subst e;rcases hid with hid|hid
  ·exact hid (by rw[hd,zvb])
  ·omega
theorem uY(m:Nat):∀ (r c:Nat),c<=2*m+200->Builtin.growBy m r c<=2*m+200
 | 0,c,h=>by simpa [Builtin.growBy] using h
 | r+1,c,h=>by
  simp only[Builtin.growBy];split
  ·exact h
  ·exact uY m r _ (by omega)
def AG{need cap:Nat}(h:cap<need):Builtin.nextslicecap need cap<=2*need+200:=by
 unfold Builtin.nextslicecap;split
 ·omega
 ·split
  ·omega
  ·exact uY need 4 cap (by omega)
def iD{w:World}{S:Nat->Nat->Prop}{e:Ty}{l:List D}{v:Value}(hn:aj e=true)(hl:∀ x∈l,wt e x)(h:CR w S (.sl l) v):∃ cs:List Value,cF w S (D.flats l) cs/\(Builtin.firstCells e.size l.length v).run P w=.ok cs.toArray w:=by
 obtain⟨A,cap,b,off,hv,k1,k2,cs,k3,k4⟩:=h.elems;refine⟨cs,k3,?_⟩;have hlen:cs.length=l.length*e.size:=by rw[<-k3.1];exact aB hn l hl
 subst hv;cases A with
 | none=>
  rcases k1 with rfl|k1
  ·have:cs=[]:=by
    simp at hlen;exact hlen
   subst this;rfl
  ·cases k1
 | some A=>
  rcases k1 with rfl|k1
  ·have:cs=[]:=by
    simp at hlen;exact hlen
   subst this;simp[Builtin.firstCells,loadCells,loadCellsFrom]
  ·cases k1;simp only[Builtin.firstCells];rw[<-hlen];exact run_loadCells_list (P:=P) w ⟨b,off,none⟩ cs (λj v hv=>by rw[cN];exact(k4 j v hv).2)
def rG{c:Cx}{e:Ty}{v:Nat}(hn:aj e=true):AR c (.own e v []) (.slice none 0 0):=by
 simp only[AR,AC,Value.cells];exact⟨by simp,hn,λx hx=>by simp at hx,none,0,rfl,.sl [] none 0 0 0 (λ_=>undef) (.inl rfl) (zha 0) (λi d hd=>by simp[D.flats] at hd) (λi d hd=>by simp[D.flats] at hd),λ_=>.inl ⟨rfl,rfl⟩⟩
def Rp.bury(h:Rp w0 S γ β s a w)(v:Nat):Rp w0 S γ β { s with dead:=v::s.dead } a w/\Cx.le ⟨w,S,γ,β,s.ob,s.dead⟩ ⟨w,S,γ,β,s.ob,v::s.dead⟩:=by
 have hle:Cx.le ⟨w,S,γ,β,s.ob,s.dead⟩ ⟨w,S,γ,β,s.ob,v::s.dead⟩:=
  ⟨λ_ _ _=>rfl,λ_ _ k=>k,λ_ _ k=>k,λid o ho _=>⟨o,ho,λp=>⟨rfl,rfl⟩,λt l e=>⟨l,e,rfl⟩,λ_ _ l e=>⟨l,e⟩⟩,λu hu=>⟨λhh=>hu (zia _ hh),λb e he=>⟨he,λn hn=>hn⟩⟩⟩
 have nd:∀ {u},u ∉ v::s.dead->u ∉ s.dead:=λhu hh=>hu (zia _ hh);exact⟨⟨h.ext,λt ht=>(h.tms t ht).mono hle,h.nt,h.tmu,λid o b ho hb=>(h.obs id o b ho hb).mono hle rfl λ_ k=>k,h.γn,h.γi,h.γf,λu b e hu=>h.βn u b e (nd hu),λu u' b e e' hu hu'=>h.βi u u' b e e' (nd hu) (nd hu'),λu id b e hu=>h.βγ u id b e (nd hu),h.βf,h.Sb,h.So⟩,hle⟩
end
end Sy
end
noncomputable section
namespace Sy
open Go
section
variable{P:Program}{E:Env}{w0:Root}{S:Nat->Nat->Prop}{γ:Nat->Option Nat}{β:Nat->Option (Nat×Nat)}{s:St}{a:Act}{w:World}
def Rp.makeG(h:Rp w0 S γ β s a w){id:Nat}(hid:γ id=none)(hi:id<s.base+4096){x:Obj}{o:Ob}(d:Nat)(hdr:w.drawn<=d)
  (ho:fh ⟨grown w [x] d,S,nA γ id w.heap.size,β,(s.setOb id (some o)).ob,s.dead⟩ w.heap.size o) :
  Rp w0 S (nA γ id w.heap.size) β (s.setOb id (some o)) a (grown w [x] d)/\Cx.le ⟨w,S,γ,β,s.ob,s.dead⟩ ⟨grown w [x] d,S,nA γ id w.heap.size,β,(s.setOb id (some o)).ob,s.dead⟩:=by
 obtain⟨h1,le1⟩:=h.grow (os:=[x]) (d:=d) hdr (S':=S) (λ_ _ hb=>hb) (λ_ _ hb=>.inl hb);obtain⟨h2,le2⟩:=h1.setFree hid (some o);have hw0:¬ w0.Old w.heap.size:=λho=>by have:=ho.1;have:=h.ext.sz;omega
 obtain⟨h3,le3⟩:=h2.newOb (id:=id) (b:=w.heap.size) hid hw0 (by simp) (λi hi=>by have:=(h.γn i _ hi).2;omega) (λu f hu hf=>by have:=(h.βn u _ _ hu hf).2.1;omega) hi (λx hx=>by
  rw[jP] at hx;cases hx;exact ho)
 refine⟨h3,⟨λb o hb=>le1.cell b o hb,λ_ _ hb=>hb,λi b hb=>dQ hid hb,λi x hx hb=>?_,λv hv=>⟨hv,λb e he=>⟨he,λn hn=>by
  have:=le1.β v hv;exact(this.2 b e he).2 n hn⟩⟩⟩⟩
 obtain⟨b,hb⟩:=hb;exact le2.ob i x hx ⟨b,hb⟩
def yn(hE:EnvOk P E)(h:Rp w0 S γ β s a w){dst T rsv ty pos after guard}(hf:Fr E s γ β ⟨dst,.makeMap T rsv,ty,pos,after,guard⟩)(hlk:∀ t∈s.lkS,dst≠some t){R:Type}{K:St->Option R}{r:R}
  (hq:qf E s ⟨dst,.makeMap T rsv,ty,pos,after,guard⟩ K=some r):∃ s',K s'=some r/\Eb P w0 S γ β s a w ⟨dst,.makeMap T rsv,ty,pos,after,guard⟩ s':=by
 simp only[qf] at hq;cases rsv with
 | some x=>cases hq
 | none=>
 simp only at hq;replace hq:=bind_some_inv hq;obtain⟨kv,hkv,hq⟩:=hq;replace hq:=bind_some_inv hq;obtain⟨d,hd,hq⟩:=hq;obtain⟨kt,vt⟩:=kv;simp only at hq;obtain⟨hd4,hγ,hβ,_⟩:=hf rfl d hd;obtain⟨hc,KT,VT,hu,hlk1,hlv,hh⟩:=hE.mapL T _ _ hkv;have hnk:=aD _ _ hlk1;have hnv:=aD _ _ hlv;obtain⟨h1,le1⟩:=h.makeG (id:=s.base+d) hγ (by omega) (x:=.map #[] 0) (o:=.mp kt vt []) w.drawn (zha _) (by
  simp only[fh];refine⟨hnk,hnv,λo ho=>by have:=h.Sb _ _ ho;omega,#[],?_,by simp[gW]⟩
  show(w.heap++#[Obj.map #[] 0])[w.heap.size]?=some (.map #[] 0);rw[Array.getElem?_append_right (zha _),z8c];rfl)
 obtain⟨p1,p2,p3,p4,p5,p6,p7⟩:=St.put_fields (s.setOb (s.base+d) (some (.mp kt vt []))) dst (.map kt vt (s.base+d));refine⟨_,hq,p5,p6,p2,p4,λid hid hhh=>?_,.value (v:=.map (some w.heap.size)) (w':=grown w [.map #[] 0] w.drawn) ?_ ⟨S,_,β,h1.put ?_ dst,?_,λid hid=>⟨bJ _ _ ?_,rfl⟩⟩⟩
 ·rw[p1];refine lD s _ λe=>?_;subst e;rcases hhh with hhh|hhh
  ·simp_all
  ·omega
 ·simp_all [grown,execOp,Instr.makeMap,Option.map_none,zga,zea]
 ·simp only[AR,AC,Value.cells];refine⟨by simp,w.heap.size,rfl,bw _ _ _,hnk,hnv,λo ho=>?_⟩
  grind [jP]
 ·exact⟨λ_ _ hb=>hb,λb o hb=>df (h.Sb b o hb),λt ht=>bM (hlk t ht),λid hid b hb=>⟨dQ hγ hb,.inl (ct (h.γn id b hb).2)⟩,by simp,λ_ _ hb=>dQ hγ hb,jW.same bA cJ.grown⟩
 ·intro e;subst e;rcases hid with hid|hid
  ·simp_all
  ·omega
def pQ(w:World)(b:Nat)(o:Obj):World:={ w with heap:=w.heap.setIfInBounds b o }
theorem gR{w:World}{b b':Nat}{o:Obj}(h:b'≠b):(pQ w b o).heap[b']?=w.heap[b']?:=by
 simp only[pQ];grind
def jQ{w:World}{b:Nat}{o:Obj}:(pQ w b o).heap.size=w.heap.size:=by simp[pQ]
def uF{w:World}{b b' o':Nat}{o:Obj}(h:b'≠b):(pQ w b o).cell? ⟨b',o',none⟩=w.cell? ⟨b',o',none⟩:=by simp only[World.cell?,gR h]
def Rp.writeM(h:Rp w0 S γ β s a w){id b:Nat}{kt vt:Ty}{l l':List D}{es':Array MapEntry}(ho:s.ob id=some (.mp kt vt l))(hγ:γ id=some b)(hM:gW ⟨w,S,γ,β,s.ob,s.dead⟩ kt vt 0 l' es'.toList) :
  Rp w0 S γ β (s.setOb id (some (.mp kt vt l'))) a (pQ w b (.map es' l'.length))/\(∀ b' o,S b' o->(pQ w b (.map es' l'.length)).cell? ⟨b',o,none⟩=w.cell? ⟨b',o,none⟩):=by
 have hO:=h.obs id _ b ho hγ;simp only[fh] at hO;obtain⟨hnk,hnv,hS,es,hes,_⟩:=hO;have hbS:∀ b' o,S b' o->b'≠b:=λb' o hb e=>hS o (e ▸ hb);have hlt:b<w.heap.size:=(h.γn id b hγ).2;have hle:Cx.le ⟨w,S,γ,β,s.ob,s.dead⟩ ⟨pQ w b (.map es' l'.length),S,γ,β,(s.setOb id (some (.mp kt vt l'))).ob,s.dead⟩:=by
  refine⟨λb' o hb=>uF (hbS b' o hb),λ_ _ hb=>hb,λ_ _ hb=>hb,λi x hx _=>?_,λv hv=>⟨hv,λb' e he=>⟨he,λn hn=>?_⟩⟩⟩
  ·simp only[St.setOb] at hx;by_cases e:i=id
   ·subst e;simp only[if_true,zca] at hx;subst hx;exact⟨_,ho,λp=>⟨rfl,rfl⟩,(λt l e=>by cases e),(λk v l e=>by cases e;exact⟨_,rfl⟩)⟩
   ·simp_all
  ·have hne:b'≠b:=λe'=>h.βγ v id b' e hv he (e' ▸ hγ);have hn':lu w b'=some n:=hn;show lu (pQ w b (.map es' l'.length)) b'=some n;simp only[lu,bE,gR hne] at hn' ⊢;exact hn'
 refine⟨⟨mT h.ext rfl rfl rfl (by simp[jQ]) (zha _) (λb' hb'=>gR λe=>(h.γn id b hγ).1 (e ▸ hb')),λt ht=>(h.tms t ht).mono hle,h.nt,h.tmu,λi x b' hx hb'=>?_,λi b' hb'=>by rw[jQ];exact h.γn i b' hb',h.γi,h.γf,
  λv b' e hv he=>by rw[jQ];exact h.βn v b' e hv he,h.βi,h.βγ,h.βf,λb' o hb=>by rw[jQ];exact h.Sb b' o hb,h.So⟩,λb' o hb=>uF (hbS b' o hb)⟩
 simp only[St.setOb] at hx;by_cases e:i=id
 ·subst e;simp only[if_true,zca] at hx;subst hx;rw[hγ] at hb';cases hb';simp only[fh];refine⟨hnk,hnv,hS,es',?_,hM.mono hle⟩;simp only[pQ]
  simp_all
 ·rw[if_neg e] at hx;have hne:b'≠b:=λe'=>e (h.γi i id b' hb' (e' ▸ hγ));exact(h.obs i x b' hx hb').mono hle (gR hne) λ_ hh=>hh
theorem gW.push{c:Cx}{kt vt:Ty}{k v:D}{ek ev:Value}(hk:wt kt k)(hv:wt vt v)(rk:fD c.w c.S k ek)(rv:fD c.w c.S v ev):∀ {l:List D} {es:List MapEntry} {j:Nat},gW c kt vt j l es->gW c kt vt j (l++[.st [k,v]]) (es++[{ key:=ek,val:=ev,born:=j+l.length }])
 | [],[],j,_=>by simp only[z2b,gW,zmb,zTb];exact⟨⟨trivial,k,v,rfl,hk,hv,rk,rv⟩,trivial⟩
 | [],_::_,_,h=>h.elim
 | _::_,[],_,h=>h.elim
 | x::l,e::es,j,h=>by
  simp only[zib,gW] at h ⊢;refine⟨h.1,?_⟩;have:=gW.push hk hv rk rv h.2;grind
theorem yW{c:Cx}{kt vt:Ty}{x y:D}:∀ {l:List D} {es:List MapEntry} {j i:Nat},gW c kt vt j l es->zU l x es i=none->D.mput l x y=l++[.st [x,y]]
 | [],[],_,_,_,_=>rfl
 | [],_::_,_,_,h,_=>h.elim
 | _::_,[],_,_,h,_=>h.elim
 | z::l,e::es,j,i,h,hf=>by
  simp only[gW] at h;obtain⟨⟨_,k,v,rfl,_⟩,h2⟩:=h;simp only[zU] at hf;simp only[D.mput];cases hb:D.beq x k
  ·rw[hb] at hf;simp only[zwa,if_false] at hf ⊢;rw[yW h2 hf];rfl
  ·simp_all
theorem yX{c:Cx}{kt vt:Ty}{x y:D}{ek ev:Value}(hv:wt vt y)(rv:fD c.w c.S y ev)(rk:fD c.w c.S x ek):∀ {l:List D} {es:List MapEntry} {j i n:Nat} {v0:Value},gW c kt vt j l es->zU l x es i=some (n,v0) ->
  ∃ m e0,n=i+m/\es[m]?=some e0/\(D.mput l x y).length=l.length/\gW c kt vt j (D.mput l x y) (es.modify m λe=>{ e with key:=e0.key,val:=ev })/\gW c kt vt j (D.mput l x y) (es.modify m λe=>{ e with key:=ek,val:=ev })
 | [],[],_,_,_,_,_,hf=>by simp[zU] at hf
 | [],_::_,_,_,_,_,h,_=>h.elim
 | _::_,[],_,_,_,_,h,_=>h.elim
 | z::l,e::es,j,i,n,v0,h,hf=>by
  simp only[gW] at h;obtain⟨⟨hb0,k,v,rfl,q1,q2,q3,q4⟩,h2⟩:=h;simp only[zU] at hf;simp only[D.mput];cases hb:D.beq x k
  ·rw[hb] at hf;simp only[zwa,if_false] at hf ⊢;obtain⟨m,e0,e1,e2,e3,e4,e5⟩:=yX (y:=y) hv rv rk h2 hf;refine⟨m+1,e0,by omega,by simpa using e2,by simp[e3],?_,?_⟩
   ·grind [List.modify_succ_cons,gW]
   ·grind [List.modify_succ_cons,gW]
  ·rw[hb] at hf;simp only[if_true,zca,Prod.mk.injEq] at hf;have:=EE _ _ hb;subst this;simp only[if_true];refine⟨0,e,by omega,rfl,rfl,?_,?_⟩
   ·grind [List.modify_zero_cons,gW]
   ·grind [List.modify_zero_cons,gW]
def C9(old new:Value)(w:World):∃ k d,w.drawn<=d/\(Instr.keyThatStays old new).run P w=.ok k { w with drawn:=d }/\(k=old\/k=new):=by
 unfold Instr.keyThatStays;split
 ·exact⟨new,w.drawn,zha _,rfl,.inr rfl⟩
 ·simp only[zga,run_choose];split
  ·simp only[zea,zla];exact⟨_,w.drawn,zha _,rfl,by split<;>simp⟩
  ·simp only[zea,zla];exact⟨_,w.drawn+1,ztc _,rfl,by split<;>simp⟩
def uj(hE:EnvOk P E)(h:Rp w0 S γ β s a w){dst T x k v ty pos after guard}{R:Type}{K:St->Option R}{r:R}
  (hq:qf E s ⟨dst,.mapUpdate T x k v,ty,pos,after,guard⟩ K=some r):∃ s',K s'=some r/\Eb P w0 S γ β s a w ⟨dst,.mapUpdate T x k v,ty,pos,after,guard⟩ s':=by
 simp only[qf] at hq;cases dst with
 | some d=>simp at hq
 | none=>
 simp only[Option.isSome_none,zwa,if_false] at hq;replace hq:=bind_some_inv hq;obtain⟨kv,hkv,hq⟩:=hq;obtain⟨kt0,vt0⟩:=kv;have hx:=aN h x;generalize s.opA x=ax at *;cases ax<;>(try simp only at hq)<;>first|(cases hq;done)|skip
 rename_i kt vt id;split at hq<;>first|(cases hq;done)|skip
 rename_i hb;simp only[zaa,zFa] at hb;obtain⟨⟨hb1,hb2⟩,hb3⟩:=hb;have e1:=Ty.eq_of_beq _ _ hb1;have e2:=Ty.eq_of_beq _ _ hb2;subst e1;subst e2;have hlo:id ∉ s.lkO:=by
  simp_all
 split at hq<;>first|(cases hq;done)|skip
 rename_i kt' vt' l hob;split at hq<;>first|(cases hq;done)|skip
 rename_i hb2;simp only[zaa] at hb2;have e1:=Ty.eq_of_beq _ _ hb2.1;have e2:=Ty.eq_of_beq _ _ hb2.2;subst e1;subst e2;replace hq:=bind_some_inv hq;obtain⟨kd,hkd,hq⟩:=hq;replace hq:=bind_some_inv hq;obtain⟨vd,hvd,hq⟩:=hq;obtain⟨hc,KT,VT,hu,hlk,hlv,hh⟩:=hE.mapL T _ _ hkv;have hnk:=aD _ _ hlk;have hnv:=aD _ _ hlv;obtain⟨k1,k2⟩:=mM hnk (aN h k) hkd;obtain⟨v1,v2⟩:=mM hnv (aN h v) hvd;simp only[AR,AC] at hx;obtain⟨na,b,hcs,hγ,_,_,_⟩:=hx;have hv:=am na hcs;have hO:=h.obs id _ b hob hγ;simp only[fh] at hO;obtain⟨_,_,hnS,es,hes,hM⟩:=hO;have i1:fH kt' (a.eval k).cells.toList (a.eval k):=⟨rfl,nB k1 hnk k2.1⟩;have rc:=iT (S:=S) (w:=w) kt' KT kd _ _ 10000 false hlk hc (by omega) k1 k2.2 i1 w
 have rf:=sE (P:=P) hlk hc hh k1 k2 w hM;have hex:(execOp a.eval ⟨none,.mapUpdate T x k v,ty,pos,after,guard⟩)=(Instr.mapUpdate T (a.eval x) (a.eval k) (a.eval v) >>= λ_=>pure .skip):=rfl;have hlt:b<w.heap.size:=(h.γn id b hγ).2;have run:∃ es' d,w.drawn<=d/\gW ⟨w,S,γ,β,s.ob,s.dead⟩ kt' vt' 0 (D.mput l kd vd) es'.toList/\(execOp a.eval ⟨none,.mapUpdate T x k v,ty,pos,after,guard⟩).run P w=.ok .skip (pQ { w with drawn:=d } b (.map es' (D.mput l kd vd).length)):=by
  rw[hex,hv];cases hf:zU l kd es.toList 0 with
  | none=>
   rw[hf] at rf;have hm:=yW (y:=vd) hM hf;refine⟨es.push { key:=a.eval k,val:=a.eval v,born:=l.length },w.drawn,zha _,?_,?_⟩
   ·rw[hm,zjd];have:=gW.push k1 v1 k2 v2 hM
    rwa [z6a] at this
   ·have hl:(D.mput l kd vd).length=l.length+1:=by rw[hm];simp
    rw[hl];simp only[Instr.mapUpdate,zga,run_underlying hu,zea,kc hes,rc,rf];simp[setObj,Sem.run,hes,pQ]
  | some p=>
   obtain⟨n,v0⟩:=p;rw[hf] at rf;obtain⟨m,e0,e1,e2,e3,e4,e5⟩:=yX (ek:=a.eval k) v1 v2 k2 hM hf;have e1':n=m:=by omega
   subst e1';have e2':es[n]?=some e0:=by simpa using e2
   obtain⟨kk,d,hdr1,r1,r2⟩:=C9 (P:=P) e0.key (a.eval k) w;refine⟨es.modify n λe=>{ e with key:=kk,val:=a.eval v },d,hdr1,?_,?_⟩
   ·rw[Array.toList_modify];all_goals grind
   ·rw[e3];simp only[Instr.mapUpdate,zga,run_underlying hu,zea,kc hes,rc,rf,e2',zkb,zxb,r1];simp[setObj,Sem.run,hes,pQ]
 obtain⟨es',d,hdr2,hM',hrun⟩:=run;have hg:({ w with drawn:=d }:World)=grown w [] d:=by simp[grown]
 rw[hg] at hrun;obtain⟨g1,g2⟩:=h.grow (os:=[]) (d:=d) hdr2 (S':=S) (λ_ _ hb=>hb) (λ_ _ hb=>.inl hb);obtain⟨w1,w2⟩:=g1.writeM (l':=D.mput l kd vd) (es':=es') hob hγ (hM'.mono g2);refine⟨_,hq,rfl,rfl,rfl,rfl,λi hi _=>?_,.skip hrun ⟨S,γ,β,w1,?_,λ_ _=>⟨rfl,rfl⟩⟩⟩
 ·refine lD s _ λe=>?_
  simp_all
 ·refine⟨λ_ _ hb=>hb,λb' o hb=>(w2 b' o hb).trans (g2.cell b' o hb),λ_ _=>rfl,λi hi b' hb'=>⟨hb',.inl ?_⟩,by rw[jQ];simp,λ_ _ hb=>hb,jW.same rfl (cJ.but b (λb' hb hlt=>(gR hb).trans (ct hlt)) (Df hes))⟩
  have hne:b'≠b:=λe=>by
   subst e;exact hlo ((h.γi id i _ hγ hb') ▸ hi)
  grind [gR]
end
end Sy
end
noncomputable section
namespace Sy
open Go
def CR.at_{w:World}{S:Nat->Nat->Prop}{l:List D}{b off n cap:Nat}(h:CR w S (.sl l) (.slice (some ⟨b,off,none⟩) n cap)):oU w S b off (D.flats l):=by
 obtain⟨A,cap',b',off',hv,k1,k2,k3⟩:=h.elems;simp only[Value.slice.injEq] at hv;rcases k1 with rfl|k1
 ·exact⟨[],cF.nil,λi c hc=>by simp at hc⟩
 ·rw[<-hv.1] at k1;cases k1;exact k3
def tA{w:World}{b n:Nat}(h:lu w b=some n):∃ c,bE w b=some c/\c.size=n:=by
 simp_all [lu]
def oZ{w:World}{b off o:Nat}{c cs:Array Value}(h:bE w b=some c)(hs:off+cs.size<=c.size)(ho:o<off):(putAt w b off cs).cell? ⟨b,o,none⟩=w.cell? ⟨b,o,none⟩:=by
 simp_all [cell_of_row,fU,kp]
def ue{w:World}{b off o:Nat}{c cs:Array Value}(h:bE w b=some c)(hs:off+cs.size<=c.size)(ho:o<cs.size):(putAt w b off cs).cell? ⟨b,off+o,none⟩=cs[o]?:=by
 rw[cell_of_row _ (fU h),kp _ _ _ _ hs,if_neg (by omega),if_pos (by omega),zvb]
section
variable{P:Program}{E:Env}{w0:Root}{S:Nat->Nat->Prop}{γ:Nat->Option Nat}{β:Nat->Option (Nat×Nat)}{s:St}{a:Act}{w:World}
def FU(h:Rp w0 S γ β s a w){v v' b off:Nat}{e:Ty}{l l':List D}{cap n:Nat}{cs':List Value}(hn:aj e=true)(hl:∀ x∈l,wt e x)(hl':∀ x∈l',wt e x)(hv:v ∉ s.dead)(hβ:β v=some (b,off+l.length*e.size))(hr:lu w b=some n)(hcap:off+cap*e.size<=n)
  (hneed:l.length+l'.length<=cap) (hc:oU w S b off (D.flats l)) (hc':cF w S (D.flats l') cs') (hv':β v'=none) (hi:v'<s.base+4096) :
  ∃ S' β',Rp w0 S' γ β' { s with dead:=v::s.dead } a (putAt w b (off+l.length*e.size) cs'.toArray) ∧
   AR ⟨putAt w b (off+l.length*e.size) cs'.toArray,S',γ,β',s.ob,v::s.dead⟩ (.own e v' (l++l')) (.slice (some ⟨b,off,none⟩) (l.length+l'.length) cap) ∧
   (∀ b o,S b o->S' b o)/\(∀ b' o,S b' o->(putAt w b (off+l.length*e.size) cs'.toArray).cell? ⟨b',o,none⟩=w.cell? ⟨b',o,none⟩)/\(∀ u,u≠v'->β' u=β u):=by
 obtain⟨c,hrow,hcn⟩:=tA hr;have len':cs'.length=l'.length*e.size:=by rw[<-hc'.1];exact aB hn l' hl'
 generalize he0:off+l.length*e.size=e0 at *;obtain⟨bn1,bn2,bn3⟩:=h.βn v b e0 hv hβ;have hsz:e0+cs'.toArray.size<=c.size:=by
  simp only[zDc,len',hcn];have:(l.length+l'.length)*e.size<=cap*e.size:=zAa _ hneed;rw[zYa] at this;omega
 let S':Nat->Nat->Prop:=λb' o=>S b' o\/(b'=b/\e0<=o/\o<e0+cs'.length)
 have hcell:∀ b' o,S b' o->(putAt w b e0 cs'.toArray).cell? ⟨b',o,none⟩=w.cell? ⟨b',o,none⟩:=λb' o hb=>by
  by_cases e:b'=b
  ·subst e;exact oZ hrow hsz (Nat.lt_of_not_le λhh=>bn3 o hh hb)
  ·exact bP e
 have nd:∀ {u},u ∉ v::s.dead->u ∉ s.dead/\u≠v:=λhu=>⟨λhh=>hu (zia _ hh),λhh=>hu (hh ▸ zoa)⟩;have hle:Cx.le ⟨w,S,γ,β,s.ob,s.dead⟩ ⟨putAt w b e0 cs'.toArray,S',γ,nA β v' (b,e0+cs'.length),s.ob,v::s.dead⟩:=
  ⟨hcell,λ_ _ hb=>.inl hb,λ_ _ k=>k,λid o ho _=>⟨o,ho,λp=>⟨rfl,rfl⟩,λt l e=>⟨l,e,rfl⟩,λ_ _ l e=>⟨l,e⟩⟩,λu hu=>⟨(nd hu).1,λb' e he=>⟨dQ hv' he,λn hn=>by rw[jL hrow hsz];exact hn⟩⟩⟩
 have hRp:Rp w0 S' γ (nA β v' (b,e0+cs'.length)) { s with dead:=v::s.dead } a (putAt w b e0 cs'.toArray):=by
  refine⟨mT h.ext rfl rfl rfl (by simp) (zha _) (λb' hb'=>cj (λe=>bn1 (e ▸ hb'))),λt ht=>(h.tms t ht).mono hle,h.nt,h.tmu,λid o b' ho hb'=>?_,λid b' hb'=>by simpa using h.γn id b' hb',h.γi,h.γf,λu b' e hu he=>?_,λu u' b' e e' hu hu' he he'=>?_,λu id b' e hu he=>?_,λu hu=>?_,λb' o hb'=>?_,λb' o hb' hlt=>?_⟩
  ·have hne:b'≠b:=λe=>h.βγ v id b e0 hv hβ (e ▸ hb');refine(h.obs id o b' ho hb').mono hle (cj hne) λo hh=>?_;rcases hh with hh|hh
   ·exact hh
   ·exact absurd hh.1 hne
  ·obtain⟨nu1,nu2⟩:=nd hu;by_cases e1:u=v'
   ·subst e1;rw[bw] at he;cases he;refine⟨bn1,by simpa using bn2,λo ho hh=>?_⟩
    rcases hh with hh|hh
    ·exact bn3 o (by omega) hh
    ·omega
   ·rw[bJ β _ e1] at he;obtain⟨k1,k2,k3⟩:=h.βn u b' e nu1 he;refine⟨k1,by simpa using k2,λo ho hh=>?_⟩
    rcases hh with hh|hh
    ·exact k3 o ho hh
    ·obtain⟨hh,_⟩:=hh;subst hh;exact nu2 (h.βi u v b' _ _ nu1 hv he hβ)
  ·obtain⟨nu1,nu2⟩:=nd hu;obtain⟨nu1',nu2'⟩:=nd hu';by_cases e1:u=v'
   ·by_cases e2:u'=v'
    ·rw[e1,e2]
    ·subst e1;rw[bw] at he;cases he;rw[bJ β _ e2] at he';exact absurd (h.βi u' v b _ _ nu1' hv he' hβ) nu2'
   ·by_cases e2:u'=v'
    ·subst e2;rw[bw] at he';cases he';rw[bJ β _ e1] at he;exact absurd (h.βi u v b _ _ nu1 hv he hβ) nu2
    ·rw[bJ β _ e1] at he;rw[bJ β _ e2] at he';exact h.βi u u' b' e e' nu1 nu1' he he'
  ·by_cases e1:u=v'
   ·subst e1;rw[bw] at he;cases he;exact h.βγ v id b e0 hv hβ
   ·rw[bJ β _ e1] at he;exact h.βγ u id b' e (nd hu).1 he
  ·have hu':s.base+4096<=u:=hu;rw[bJ β _ (by omega)]
   exact h.βf u hu'
  ·rcases hb' with hb'|hb'
   ·simpa using h.Sb b' o hb'
   ·simpa [hb'.1] using bn2
  ·rcases hb' with hb'|hb'
   ·exact h.So b' o hb' hlt
   ·exact absurd (hb'.1 ▸ hlt) bn1
 refine⟨S',_,hRp,?_,λ_ _ hb=>.inl hb,hcell,λu hu=>bJ β _ hu⟩;simp only[AR,AC,Value.cells];refine⟨by simp,hn,λx hx=>(List.mem_append.1 hx).elim (hl x) (hl' x),some ⟨b,off,none⟩,cap,by rw[zta],?_,λ_=>.inr ⟨b,off,rfl,?_,n,by show lu (putAt w b e0 cs'.toArray) b=some n;rw[jL hrow hsz];exact hr,hcap⟩⟩
 ·obtain⟨cs,k1,k2⟩:=hc;refine CR.of_elems (.inr rfl) (by rw[zta];exact hneed) ⟨cs++cs',?_,λi x hx=>?_⟩
  ·rw[bQ];exact(k1.append hc').mono hcell λ_ _ hh=>.inl hh
  ·have len:cs.length=l.length*e.size:=by rw[<-k1.1];exact aB hn l hl
   rw[zJc] at hx;by_cases hi2:i<cs.length
   ·rw[if_pos hi2] at hx;obtain⟨m1,m2⟩:=k2 i x hx;exact⟨.inl m1,(hcell _ _ m1).trans m2⟩
   ·rw[if_neg hi2] at hx;have hlt:=(zja.1 hx).1;refine⟨.inr ⟨rfl,by omega,by omega⟩,?_⟩
    rw[show off+i=e0+(i-cs.length) by omega,ue hrow hsz (by simpa using hlt)]
    simpa using hx
 ·show nA β v' (b,e0+cs'.length) v'=_;rw[bw,zta,len',zYa];congr 2;omega
def tC{T T' u':TypeId}{e:Ty}(hE:bC P (.sl e) T=true)(hT':P.underlying T'=some (.slice u')){A:Option Addr}{len cap:Nat}{l l':List D}{vy:Value}(ty:TypeId)(hlen:len=l.length)(hl:∀ x∈l,wt e x)(hl':∀ x∈l',wt e x)
  (hx:CR w S (.sl l) (.slice A len cap)) (hy:CR w S (.sl l') vy) (hb:l.length+l'.length<=1073741824) :
  ∃ cs cs':List Value,cF w S (D.flats l) cs/\cF w S (D.flats l') cs'/\∃ u,
   (l.length+l'.length<=cap->(A=none->(Builtin.append_ #[T,T'] ty #[.slice A len cap,vy]).run P w=.ok (.slice none (l.length+l'.length) cap) w) ∧
    (∀ b off c,A=some ⟨b,off,none⟩->bE w b=some c->off+cap*e.size<=c.size->(Builtin.append_ #[T,T'] ty #[.slice A len cap,vy]).run P w=.ok (.slice A (l.length+l'.length) cap) (putAt w b (off+l.length*e.size) cs'.toArray))) ∧
   (cap<l.length+l'.length->∃ newCap rest,l.length+l'.length<=newCap/\(cs++cs').length+rest.length=newCap*e.size ∧
    (Builtin.append_ #[T,T'] ty #[.slice A len cap,vy]).run P w=.ok (.slice (some ⟨w.heap.size,0,none⟩) (l.length+l'.length) newCap) (grown w [.cells ((cs++cs')++rest).toArray u] (w.drawn+1))):=by
 subst hlen;obtain⟨u,k1,k2⟩:=ii hE;have hn:aj e=true:=aD _ _ k2;obtain⟨i0,z0,hi1,hi2,mr,hi4,hi5,_⟩:=eO (fQ k2);have hx1:CR { w with drawn:=w.drawn+1 } S (.sl l) (.slice A l.length cap):=CR.mono (w:=w) (w':={ w with drawn:=w.drawn+1 }) (S:=S) (S':=S) (λ_ _ _=>rfl) (λ_ _ h=>h) hx;have hy1:CR { w with drawn:=w.drawn+1 } S (.sl l') vy:=CR.mono (w:=w) (w':={ w with drawn:=w.drawn+1 }) (S:=S) (S':=S) (λ_ _ _=>rfl) (λ_ _ h=>h) hy;obtain⟨cs,c1,c2⟩:=iD (P:=P) hn hl hx1;obtain⟨cs',d1,d2⟩:=iD (P:=P) hn hl' hy;obtain⟨cs'',d3,d4⟩:=iD (P:=P) hn hl' hy1;have len:cs.length=l.length*e.size:=by rw[<-c1.1];exact aB hn l hl
 have len':cs'.length=l'.length*e.size:=by rw[<-d1.1];exact aB hn l' hl'
 have len'':cs''.length=l'.length*e.size:=by rw[<-d3.1];exact aB hn l' hl'
 have hcs:cs''=cs':=by
  obtain⟨A',cap',b,off,hv,q1,q2,q3⟩:=hy.elems;subst hv;have e1:=d2;have e2:=d4;cases A' with
  | none=>
   simp only[Builtin.firstCells,zla,Result.ok.injEq] at e1 e2;have:=e1.1.symm.trans e2.1;simpa using this.symm
  | some A'=>
   rcases q1 with rfl|q1
   ·simp at len' len'';rw[len',len'']
   ·cases q1;obtain⟨ds,r1,r2⟩:=q3;have hld:ds.length=l'.length*e.size:=by rw[<-r1.1];exact aB hn l' hl'
    have f1:=run_loadCells_list (P:=P) w ⟨b,off,none⟩ ds (λj v hv=>by rw[cN];exact(r2 j v hv).2)
    have f2:=run_loadCells_list (P:=P) { w with drawn:=w.drawn+1 } ⟨b,off,none⟩ ds (λj v hv=>by rw[cN];exact(r2 j v hv).2)
    simp only[Builtin.firstCells] at e1 e2;rw[hld] at f1 f2;rw[f1] at e1;rw[f2] at e2;simp only[Result.ok.injEq] at e1 e2;have:=e1.1.symm.trans e2.1;simpa using this.symm
 subst hcs;have hlenOf:(Builtin.lenOf vy).run P w=.ok l'.length w:=by
  obtain⟨A',cap',b,off,hv,_⟩:=hy.elems;subst hv;rfl
 refine⟨cs,cs'',cF.mono (w:={ w with drawn:=w.drawn+1 }) (w':=w) (S:=S) (S':=S) (λ_ _ _=>rfl) (λ_ _ h=>h) c1,d1,u,λhcap=>⟨λhA=>?_,λb off c hA hrow hsz=>?_⟩,λhcap=>?_⟩
 ·subst hA;simp only[Builtin.append_,zAc,zEb,zdb,zga,run_underlying k1,run_underlying hT',zea,bR k2,zla,zwa,if_false,hlenOf,hcap,if_true,zNb,d2]
 ·subst hA;have hst:=ck (P:=P) b (off+l.length*e.size) cs'' 0 w c hrow (by
   have:(l.length+l'.length)*e.size<=cap*e.size:=zAa _ hcap;rw[zYa] at this;omega) (by rw[zka];intro x hx;have:=d1.nag x hx;cases x<;>simp_all [Value.oneCell',kA])
  simp only[zTb] at hst;simp only[Builtin.append_,zAc,zEb,zdb,zga,run_underlying k1,run_underlying hT',zea,bR k2,zla,zwa,if_false,hlenOf,hcap,if_true,zNb,d2,cN,hst]
 ·have hnc:¬ (l.length+l'.length<=cap):=by omega
  have hb1:¬ (Builtin.nextslicecap (l.length+l'.length) cap*i0.bytes>2^48):=by
   have h1:=AG hcap;have h2:Builtin.nextslicecap (l.length+l'.length) cap*i0.bytes<=(2*1073741824+200)*16384:=z2a (by omega) mr.1
   omega
  have hmax:¬ (((l.length+l'.length:Nat):Int)>IntKind.i64.max):=by
   have:IntKind.i64.max=9223372036854775807:=by decide
   omega
  let t:=w.tape w.drawn (.appendCap (l.length+l'.length) cap u)
  let newCap:=l.length+l'.length+t%(2^63-(l.length+l'.length))
  have hzs:z0.cells.size=e.size:=by
   have:=(cg (w:=w) (S:=S) hi5).1;rw[<-zDb,<-this];exact cb _ _ (cD e hn) hn
  refine⟨newCap,(Builtin.zeroCells z0.cells (newCap-(l.length+l'.length))).toList,by omega,?_,?_⟩
  ·have:(Builtin.zeroCells z0.cells (newCap-(l.length+l'.length))).toList.length=(newCap-(l.length+l'.length))*e.size:=by simp[Builtin.zeroCells,hzs]
   rw[this,zta,len,len',<-zYa,<-zYa];congr 1;omega
  ·have hf:Question.forced (.appendCap (l.length+l'.length) cap u)=false:=rfl;simp only[Builtin.append_,zAc,zEb,zdb,zga,run_underlying k1,run_underlying hT',zea,bR k2,zla,zwa,if_false,hlenOf,hnc,zNb,if_true,typeInfo,run_program,hi1,false_or,hmax,false_and,hb1,run_choose,hf,run_askRoom,c2,d4,zeroValue,hi4,newRow,run_newObj];have e1:(cs++cs''++(Builtin.zeroCells z0.cells (newCap-(l.length+l'.length))).toList).toArray=cs.toArray++cs''.toArray++Builtin.zeroCells z0.cells (newCap-(l.length+l'.length)):=by simp
   rw[e1];simp only[grown];rw[zxd];rfl
def Ao(hE:EnvOk P E)(h:Rp w0 S γ β s a w){dst args argTypes ty pos after guard}(hf:Fr E s γ β ⟨dst,.call ⟨.builtin .append,args,argTypes⟩,ty,pos,after,guard⟩)(hlk:∀ t∈s.lkS,dst≠some t){R:Type}{K:St->Option R}{r:R}
  (hq:qf E s ⟨dst,.call ⟨.builtin .append,args,argTypes⟩,ty,pos,after,guard⟩ K=some r):∃ s',K s'=some r/\Eb P w0 S γ β s a w ⟨dst,.call ⟨.builtin .append,args,argTypes⟩,ty,pos,after,guard⟩ s':=by
 simp only[qf] at hq;replace hq:=bind_some_inv hq;obtain⟨T,hT,hq⟩:=hq;replace hq:=bind_some_inv hq;obtain⟨t,ht,hq⟩:=hq;replace hq:=bind_some_inv hq;obtain⟨d,hd,hq⟩:=hq;split at hq<;>first|(cases hq;done)|skip
 rename_i e x y T0 T' hargs htys;split at hq<;>first|(cases hq;done)|skip
 rename_i e2 ht2;replace hq:=bind_some_inv hq;obtain⟨l',hl',hq⟩:=hq;obtain⟨hd4,hγ,hβ,_⟩:=hf rfl d hd;rcases hE.lay T _ ht with⟨ts',hts⟩|hl
 ·cases hts
 rcases hE.lay T' _ ht2 with⟨ts',hts⟩|hlT'
 ·cases hts
 obtain⟨u2,hu2,_⟩:=ii hlT';have hn:=aD _ _ hl;simp only[aj] at hn;have hT0:T0=T:=by
  have:argTypes=#[T0,T']:=zcc (by simpa using htys)
  simp_all
 subst hT0;have eT:argTypes=#[T0,T']:=zcc (by simpa using htys)
 have eA:args.map a.eval=#[a.eval x,a.eval y]:=zcc (by simp[hargs])
 have hex:execOp a.eval ⟨dst,.call ⟨.builtin .append,args,argTypes⟩,ty,pos,after,guard⟩=(Builtin.append_ #[T0,T'] ty #[a.eval x,a.eval y] >>= λv=>pure (.value v)):=by
  rw[<-eA,<-eT];rfl
 obtain⟨y1,y2⟩:=js hn (aN h y) hl';have hx:=aN h x;have own:∀ id:Nat,(dst≠some (id-s.base)\/id<s.base)->id≠s.base+d:=λid hid e=>by
  subst e;rcases hid with hid|hid
  ·simp_all
  ·omega
 split at hq<;>first|(cases hq;done)|skip
 ·
  rename_i e' v l hox;rw[hox] at hx;split at hq<;>first|(cases hq;done)|skip
  rename_i hb;split at hq<;>first|(cases hq;done)|skip
  rename_i hlen;simp only[zaa,zFa] at hb;have:=Ty.eq_of_beq _ _ hb.1;subst this;have hvd:v ∉ s.dead:=λhh=>by
   simp_all
  simp only[AR,AC] at hx;obtain⟨x0,x1,x2,A,cap,x3,x4,x5⟩:=hx;have x3:=am x0 x3;obtain⟨cs,cs',c1,c2,u,r1,r2⟩:=tC (P:=P) (w:=w) (S:=S) hl hu2 ty rfl x2 y1 x4 y2 hlen;obtain⟨p1,p2,p3,p4,p5,p6,p7⟩:=St.put_fields { s with dead:=v::s.dead } dst (.own e' (s.base+d) (l++l'));refine⟨_,hq,p5,p6,p2,p4,λid _ _=>by rw[p1],?_⟩
  rcases zna cap (l.length+l'.length) with hcap|hcap
  ·obtain⟨newCap,rest,n1,n2,n3⟩:=r2 hcap;obtain⟨b1,b2⟩:=h.bury v;obtain⟨S',β',k1,k2,k3,k4,k5,k6⟩:=xa b1 (v:=s.base+d) hβ (by show s.base+d<s.base+4096;omega) hn (l:=l++l') (λz hz=>(List.mem_append.1 hz).elim (x2 z) (y1 z)) (cs:=cs++cs') (by rw[bQ];exact c1.append c2) (T:=u) (rest:=rest) (cap:=newCap) (w.drawn+1) (ztc _) (by rw[zta];exact n1) n2
   rw[zta] at k2;refine .value (by rw[hex,x3];simp only[zga,n3,zea,zla]) ⟨S',γ,β',k1.put k2 dst,⟨k3,λb o hb=>df (h.Sb b o hb),λt ht=>bM (hlk t ht),λid hid b hb=>⟨hb,.inl (ct (h.γn id b hb).2)⟩,by simp,λ_ _ hb=>hb,jW.same bA cJ.grown⟩,λid hid=>⟨rfl,k4 id (own id hid)⟩⟩
  ·obtain⟨r3,r4⟩:=r1 hcap;rcases x5 hvd with⟨rfl,rfl⟩|⟨b,off,rfl,hbv,n,hn1,hn2⟩
   ·have z1:l=[]:=by apply List.eq_nil_of_length_eq_zero;omega
    have z2:l'=[]:=by simp_all
    obtain⟨b1,b2⟩:=h.bury v;subst z1;subst z2;refine .value (by rw[hex,x3];simp only[zga,r3 rfl,zea,zla];rfl) ⟨S,γ,β,b1.put (rG hn) dst,⟨λ_ _ hb=>hb,λ_ _ _=>rfl,λt ht=>bM (hlk t ht),λid hid b hb=>⟨hb,iN.refl _ _⟩,zha _,λ_ _ hb=>hb,jW.same bA (cJ.refl _)⟩,λid hid=>⟨rfl,rfl⟩⟩
   ·obtain⟨c,hrow,hcn⟩:=tA hn1;obtain⟨S',β',k1,k2,k3,k4,k5⟩:=FU h (v':=s.base+d) hn x2 y1 hvd hbv hn1 hn2 hcap x4.at_ c2 hβ (by omega)
    refine .value (by rw[hex,x3];simp only[zga,r4 b off c rfl hrow (by omega),zea,zla]) ⟨S',γ,β',k1.put k2 dst,⟨k3,k4,λt ht=>bM (hlk t ht),λid hid b' hb'=>⟨hb',.inl (cj λe=>h.βγ v id b _ hvd hbv (e ▸ hb'))⟩,by simp,λ_ _ hb=>hb,jW.same bA (cJ.putAt hrow)⟩,λid hid=>⟨rfl,k5 id (own id hid)⟩⟩
 ·
  rename_i hox;rw[hox] at hx;split at hq<;>first|(cases hq;done)|skip
  rename_i hlen;simp only[AR,AC] at hx;have x3:=am hx.1 hx.2;have hnil:CR w S (.sl []) (.slice none 0 0):=.sl [] none 0 0 0 (λ_=>undef) (.inl rfl) (zha 0) (λi d hd=>by simp[D.flats] at hd) (λi d hd=>by simp[D.flats] at hd)
  obtain⟨cs,cs',c1,c2,u,r1,r2⟩:=tC (P:=P) (w:=w) (S:=S) hl hu2 (len:=0) ty (l:=[]) rfl (λx hx=>by simp at hx) y1 hnil y2 (by simpa using hlen)
  obtain⟨p1,p2,p3,p4,p5,p6,p7⟩:=St.put_fields s dst (.own e (s.base+d) l');refine⟨_,hq,p5,p6,p2,p4,λid _ _=>by rw[p1],?_⟩
  rcases zna 0 l'.length with hcap|hcap
  ·obtain⟨newCap,rest,n1,n2,n3⟩:=r2 (by simpa using hcap)
   obtain⟨S',β',k1,k2,k3,k4,k5,k6⟩:=xa h (v:=s.base+d) hβ (by omega) hn (l:=[]++l') (λz hz=>y1 z (by simpa using hz)) (cs:=cs++cs') (by rw[bQ];exact c1.append c2) (T:=u) (rest:=rest) (cap:=newCap) (w.drawn+1) (ztc _) (by rw[zta];exact n1) n2
   rw[zta] at k2;rw[z2b] at k2;refine .value (by rw[hex,x3];simp only[zga,n3,zea,zla]) ⟨S',γ,β',k1.put k2 dst,⟨k3,λb o hb=>df (h.Sb b o hb),λt ht=>bM (hlk t ht),λid hid b hb=>⟨hb,.inl (ct (h.γn id b hb).2)⟩,by simp,λ_ _ hb=>hb,jW.same bA cJ.grown⟩,λid hid=>⟨rfl,k4 id (own id hid)⟩⟩
  ·have z2:l'=[]:=by apply List.eq_nil_of_length_eq_zero;omega
   subst z2;obtain⟨r3,_⟩:=r1 (by simp)
   refine .value (by rw[hex,x3];simp only[zga,r3 rfl,zea,zla];rfl) ⟨S,γ,β,h.put (rG hn) dst,⟨λ_ _ hb=>hb,λ_ _ _=>rfl,λt ht=>bM (hlk t ht),λid hid b hb=>⟨hb,iN.refl _ _⟩,zha _,λ_ _ hb=>hb,jW.same bA (cJ.refl _)⟩,λid hid=>⟨rfl,rfl⟩⟩
def xG{k:IntKind}{l:List D}(h:∀ x∈l,wt (.int k) x):D.flats l=l:=by
 induction l with
 | nil=>rfl
 | cons x l ih=>
  obtain⟨n,rfl⟩:∃ n,x=.int k n:=by have:=h x zoa;simpa only[wt] using this
  rw[D.flats,ih λy hy=>h y (zia _ hy)];rfl
def zG{x:D}{l:List D}(h:x.stl=some l):x=.st l:=by
 cases x<;>simp[D.stl] at h;rw[h]
def E7(hE:EnvOk P E)(h:Rp w0 S γ β s a w){dst args argTypes ty pos after guard}(hlk:∀ t∈s.lkS,dst≠some t){R:Type}{K:St->Option R}{r:R}
  (hq:qf E s ⟨dst,.call ⟨.builtin .copy,args,argTypes⟩,ty,pos,after,guard⟩ K=some r):∃ s',K s'=some r/\Eb P w0 S γ β s a w ⟨dst,.call ⟨.builtin .copy,args,argTypes⟩,ty,pos,after,guard⟩ s':=by
 simp only[qf] at hq;split at hq<;>first|(cases hq;done)|skip
 rename_i x y T0 T' hargs htys;split at hq<;>first|(cases hq;done)|skip
 rename_i k ht;split at hq<;>first|(cases hq;done)|skip
 rename_i e id lo n e' id' p' lo' n' hox hoy;split at hq<;>first|(cases hq;done)|skip
 rename_i m f g x1 o' hov hov';have hx:=aN h x;have hy:=aN h y;rw[hox] at hx;rw[hoy] at hy;simp only[AR,AC,if_true] at hx hy;obtain⟨x0,_,b,off,cap,x3,x4,x5⟩:=hx;obtain⟨y0,_,b',off',cap',y3,y4,y5⟩:=hy;have x3:=am x0 x3;have y3:=am y0 y3;obtain⟨mm',w1,w2,rfl⟩:=y5 _ hov';have hO':=h.obs id' _ b' hov' y4;replace hq:=lZ hO' w1 hq;obtain⟨a2,cs',hq,p5,pf,_,pc⟩:=hq;split at hq<;>first|(cases hq;done)|skip
 rename_i m' f' y1;cases mU pf;split at hq<;>first|(cases hq;done)|skip
 rename_i hb;simp only[zaa,zFa] at hb;obtain⟨⟨⟨⟨b1,b2⟩,b3⟩,b5⟩,b7⟩:=hb;have:=Ty.eq_of_beq _ _ b1;subst this;have:=Ty.eq_of_beq _ _ b2;subst this;have:=Ty.eq_of_beq _ _ b3;subst this;have:=Ty.eq_of_beq _ _ b5;subst this;replace hq:=bind_some_inv hq;obtain⟨l,hl,hq⟩:=hq;replace hq:=bind_some_inv hq;obtain⟨l',hl',hq⟩:=hq;have:=zG hl;subst this;have:=zG hl';subst this;have hlo:id ∉ s.lkO:=by
  simp_all
 obtain⟨mm,z1,z2,rfl⟩:=x5 _ hov;simp only[dP,aH,zca,Ty.arr.injEq,and_true] at z1;subst z1;have hO:=h.obs id _ b hov x4;simp only[fh] at hO;obtain⟨o1,o2,o3,cs,o4,o5,o6⟩:=hO;simp only[AC] at o5 p5;obtain⟨q1,q2,q3⟩:=o5;obtain⟨r1,r2,r3⟩:=p5;simp only[wt] at q1 r1;obtain⟨_,⟨rfl⟩,q4,q5⟩:=q1;obtain⟨_,⟨rfl⟩,r4,r5⟩:=r1;simp only[D.flat] at q3 r3;rw[xG q5] at q3;rw[xG r5] at r3;obtain⟨c,hc⟩:∃ c,c=min n' n:=⟨_,rfl⟩;rw[<-hc] at hq;have hcl:cs.length=m:=by rw[<-q3.1,q4]
 have hcl':cs'.length=mm':=by rw[<-r3.1,r4]
 have eo:bX (.one (.arr m (.int k)) (.d (.arr m (.int k)) (.st l))) []+lo*(Ty.int k).size=lo:=by simp[bX,aX,Ty.size]
 obtain⟨O,hO2⟩:∃ O,O=bX o' p':=⟨_,rfl⟩;rw[<-hO2] at pc y3;have eo':O+lo'*(Ty.int k).size=O+lo':=by simp[Ty.size]
 rw[eo] at x3;rw[eo'] at y3;have hload:(loadCells ⟨b',O+lo',none⟩ c).run P w=.ok ((cs'.drop lo').take c).toArray w:=by
  have:=run_loadCells_list (P:=P) w ⟨b',O+lo',none⟩ ((cs'.drop lo').take c) (λj v hv=>by
   have hj:j<c:=by have:=(zja.1 hv).1;simp at this;omega
   rw[zqb hj,zfb] at hv;rw[cN,show O+lo'+j=O+(lo'+j) by omega]
   exact pc _ _ hv)
  rwa [show((cs'.drop lo').take c).length=c by simp;omega] at this
 have hsz:lo+((cs'.drop lo').take c).toArray.size<=cs.toArray.size:=by simp;omega
 have hone:((cs'.drop lo').take c).all kA=true:=by
  rw[zka];intro v hv;obtain⟨j,hj,rfl⟩:=zRa (zIb (zGa hv));have hj':j<l'.length:=by rw[r3.1];exact hj
  have hcr:=r3.2 j l'[j] cs'[j] (zda hj') (zda hj);obtain⟨nn,hn⟩:∃ nn,l'[j]=.int k nn:=by have:=r5 l'[j] (zIa hj');simpa only[wt] using this
  rw[hn] at hcr;generalize cs'[j]=v at hcr;cases hcr;rfl
 have hst:=ck (P:=P) b lo ((cs'.drop lo').take c) 0 w cs.toArray o4 (by simp;omega) hone
 obtain⟨u,hu,hlu⟩:=ii (iZ hE ht (by rfl))
 have hsu:=bR hlu w;have eT:argTypes=#[T0,T']:=zcc (by simpa using htys)
 have eA:args.map a.eval=#[a.eval x,a.eval y]:=zcc (by simp[hargs])
 have hex:execOp a.eval ⟨dst,.call ⟨.builtin .copy,args,argTypes⟩,ty,pos,after,guard⟩=(Builtin.copy_ #[T0,T'] ty #[a.eval x,a.eval y] >>= λv=>pure (.value v)):=by
  rw[<-eA,<-eT];rfl
 have hnew:cF w S (l.take lo++((l'.drop lo').take c++l.drop (lo+c))) (cs.take lo++((cs'.drop lo').take c++cs.drop (lo+c))):=by
  have part:∀ {A:List D} {B:List Value} (i:Nat),cF w S A B->cF w S (A.take i) (B.take i)/\cF w S (A.drop i) (B.drop i):=λ{A B} i hAB=>by
   have e:A=A.take i++A.drop i:=(zpa i A).symm;have hAB':=hAB;rw[e] at hAB';obtain⟨k1,k2⟩:=hAB'.split;rw[zcb,<-e] at *;rcases Nat.le_total i A.length with hi|hi
   ·rw[zlb hi] at k1 k2;exact⟨k1,k2⟩
   ·rw[zgb hi,zgb (by rw[<-hAB.1];exact hi),zgc hi,zgc (by rw[<-hAB.1];exact hi)]
    exact⟨hAB,cF.nil⟩
  exact(part lo q3).1.append ((part c (part lo' r3).2).1.append (part (lo+c) q3).2)
 have hwtn:wt (.arr m (.int k)) (.st (l.take lo++((l'.drop lo').take c++l.drop (lo+c)))):=by
  simp only[wt];refine⟨_,rfl,by simp;omega,λz hz=>?_⟩
  rcases List.mem_append.1 hz with hz|hz
  ·exact q5 z (zGa hz)
  rcases List.mem_append.1 hz with hz|hz
  ·exact r5 z (zIb (zGa hz))
  ·exact q5 z (zIb hz)
 have hflat:(D.st (l.take lo++((l'.drop lo').take c++l.drop (lo+c)))).flat=l.take lo++((l'.drop lo').take c++l.drop (lo+c)):=by
  simp only[D.flat];simp only[wt] at hwtn;obtain⟨_,⟨rfl⟩,_,t3⟩:=hwtn;exact xG t3
 have hbS:∀ b' o,S b' o->b'≠b:=λb' o hb e=>o3 o (e ▸ hb);have hcells:dw cs.toArray lo ((cs'.drop lo').take c).toArray=(cs.take lo++((cs'.drop lo').take c++cs.drop (lo+c))).toArray:=by
  have e:cs=cs.take lo++((cs.drop lo).take c++(cs.drop lo).drop c):=by rw[zpa,zpa]
  have e2:(cs.take lo).length=lo:=by rw[zcb];omega
  conv=>lhs;rw[e]
  rw[zzd];have:=gr (cs.take lo) ((cs.drop lo).take c) (cs.drop (lo+c)) ((cs'.drop lo').take c) (by simp;omega)
  rw[e2] at this;exact this
 obtain⟨n1,n2⟩:=h.write (o':=.one (.arr m (.int k)) (.d (.arr m (.int k)) (.st (l.take lo++((l'.drop lo').take c++l.drop (lo+c)))))) hov x4 o3 o4 hsz (λp=>⟨rfl,rfl⟩) (λt l e=>by cases e) (λ_ _ _ e=>by cases e) (by
  simp only[fh];refine⟨o1,o2,o3,cs.take lo++((cs'.drop lo').take c++cs.drop (lo+c)),by rw[fU o4,hcells],?_,by simp[Ty.size] at *;omega⟩
  simp only[AC];refine⟨hwtn,q2,?_⟩;rw[hflat];exact hnew.mono (λb' o hb=>bP (hbS b' o hb)) λ_ _ hh=>hh)
 obtain⟨f1,f2,f3,f4,f5,f6,f7⟩:=St.put_fields (s.setOb id (some (.one (.arr m (.int k)) (.d (.arr m (.int k)) (.st (l.take lo++((l'.drop lo').take c++l.drop (lo+c)))))))) dst (.d (.int .i64) (.int .i64 (c:Nat)));refine⟨_,hq,f5,f6,f2,f4,λi hi _=>?_,.value (v:=.int .i64 (c:Nat)) (w':=putAt w b lo ((cs'.drop lo').take c).toArray) ?_ ⟨S,γ,β,n1.put (cr _ _) dst,?_,λ_ _=>⟨rfl,rfl⟩⟩⟩
 ·rw[f1];simp only[St.setOb];rw[if_neg];intro e;subst e;rw[x4] at hi;cases hi
 ·rw[hex,x3,y3];simp only[zTb] at hst;have e1:Nat.min n' n=c:=hc.symm;simp[Builtin.copy_,run_underlying hu,Builtin.lenOf,Builtin.firstCells,zga,hsu,e1,Ty.size,hload,hst,goInt]
 ·exact⟨λ_ _ hb=>hb,λb' o hb=>bP (hbS b' o hb),λt ht=>bM (hlk t ht),λi hi b' hb'=>⟨hb',.inl (cj λe=>hlo ((h.γi id i b x4 (e ▸ hb')) ▸ hi))⟩,by simp,λ_ _ hb=>hb,jW.same bA (cJ.putAt (by first|assumption))⟩
def wE(hE:EnvOk P E)(h:Rp w0 S γ β s a w){o:Oper}(hf:Fr E s γ β o)(hT:∀ T t,(o.op=.alloc T\/∃ x,o.op=.box T x)->E.L T=some t->aj t=true)(hlk:∀ t∈s.lkS,o.dst≠some t)(hst:∀ T x y,o.op=.store T x y->o.dst=none){R:Type}{K:St->Option R}{r:R}
  (hq:qf E s o K=some r):∃ s',K s'=some r/\Eb P w0 S γ β s a w o s':=by
 have quiet:qv E s o (λv=>K (s.put o.dst v))=some r->∃ s',K s'=some r/\Eb P w0 S γ β s a w o s':=λhq=>uR hE h hf (λT t e=>hT T t (.inl e)) hlk hq;obtain⟨dst,op,ty,pos,after,guard⟩:=o;cases op
 case store T x y=>exact C0 hE h hlk (hst T x y rfl) hq
 case box T x=>exact IV hE h hf hlk (λt=>hT T t (.inr ⟨x,rfl⟩)) hq
 case makeSlice T x y=>exact ui hE h hf hlk hq
 case makeMap T x=>exact yn hE h hf hlk hq
 case mapUpdate T x y z=>exact uj hE h hq
 case call c=>
  obtain⟨callee,args,argTypes⟩:=c;cases callee
  case builtin b=>
   cases b
   case append=>exact Ao hE h hf hlk hq
   case copy=>exact E7 hE h hlk hq
   all_goals exact quiet hq
  all_goals exact quiet hq
 all_goals exact quiet hq
end
end Sy
end
noncomputable section
namespace Sy
open Go
def kP{α β R:Type}{x:Option α}{f:α->Option R}{g:α->Option β}{K:β->Option R}(h:∀ a,f a=(g a).bind K):x.bind f=(x.bind g).bind K:=by
 cases x with
 | none=>rfl
 | some a=>exact h a
def yv{R:Type}:∀ (p:List Nat) (a:AV) (K:AV->Option R),wI a p K=(wI a p some).bind K:=by
 intro p
 induction p with
 | nil=>intro a K;cases a<;>rfl
 | cons i p ih=>
  intro a K;cases a<;>simp only[wI]<;>first
   | rfl
   | exact kP λt=>kP λy=>rfl
   | exact kP λb=>ih b K
def ns{R:Type}(o:Ob)(p:List Nat)(K:AV->Option R):fT o p K=(fT o p some).bind K:=by
 cases o with
 | one t v=>exact yv p v K
 | many t l=>
  cases p with
  | nil=>rfl
  | cons i p=>exact kP λx=>yv p _ K
 | mp kt vt l=>rfl
 | lp i q=>rfl
 | fv v=>rfl
def zo{R β:Type}{o:Ob}{p:List Nat}{f:AV->Option R}{g:AV->Option β}{K:β->Option R}(h:∀ v,f v=(g v).bind K):fT o p f=(fT o p g).bind K:=by
 rw[ns,ns _ _ g];cases fT o p some with
 | none=>rfl
 | some v=>exact h v
def EY{α R:Type}{c:Bool}{A A':Option R}{B B':Option α}{K:α->Option R}(h:A=B.bind K)(h':A'=B'.bind K):(bif c then A else A')=(bif c then B else B').bind K:=by
 all_goals grind
def F8{R:Type}(E:Env)(s:St)(o:Oper)(K:AV->Option R):qv E s o K=(qv E s o some).bind K:=by
 obtain⟨dst,op,ty,pos,after,guard⟩:=o;cases op<;>simp only[qv]<;>(repeat' first|rfl|exact ns _ _ _|refine zo λ_=>?_|refine kP λ_=>?_|refine EY ?_ ?_|split)
structure Wk(s s':St):Prop where
 tm:∀ t,s'.tm t=s.tm t\/s'.tm t=.undef
 ob:s'.ob=s.ob
 fresh:s'.fresh=s.fresh
 dead:s'.dead=s.dead
 nt:s'.nt=s.nt
 lkS:s'.lkS=s.lkS
 lkO:s'.lkO=s.lkO
def Wk.refl(s:St):Wk s s:=⟨λ_=>.inl rfl,rfl,rfl,rfl,rfl,rfl,rfl⟩
theorem Wk.trans{a b c:St}(h:Wk a b)(k:Wk b c):Wk a c:=
 ⟨λt=>by
  rcases k.tm t with e|e
  ·rw[e];exact h.tm t
  ·exact .inr e,k.ob.trans h.ob,k.fresh.trans h.fresh,k.dead.trans h.dead,k.nt.trans h.nt,k.lkS.trans h.lkS,k.lkO.trans h.lkO⟩
theorem Wk.put{s s':St}(h:Wk s s')(d:Option Nat){v v':AV}(hv:v'=v\/v'=.undef):Wk (s.put d v) (s'.put d v'):=by
 cases d with
 | none=>exact h
 | some d=>
  simp only[St.put,h.nt];split
  ·refine⟨λt=>?_,h.ob,h.fresh,h.dead,by first|exact h.nt|rfl,h.lkS,h.lkO⟩
   by_cases e:t=d
   ·simp_all
   ·simp only[e,if_false];exact h.tm t
  ·exact h
def Wk.kill(s:St)(d:Option Nat):Wk s (s.put d .undef):=by
 cases d with
 | none=>exact Wk.refl s
 | some d=>
  simp only[St.put];split
  ·refine⟨λt=>?_,rfl,rfl,rfl,rfl,rfl,rfl⟩;all_goals grind
  ·exact Wk.refl s
theorem Wk.killD:∀ (l:List Oper) (s:St),Wk s (killD s l)
 | [],s=>Wk.refl s
 | o::l,s=>(Wk.kill s o.dst).trans (Wk.killD l _)
theorem Wk.opA{s s':St}(h:Wk s s')(x:Operand):s'.opA x=s.opA x\/s'.opA x=.undef:=by
 cases x with
 | tmp t=>exact h.tm t
 | const v=>exact .inl rfl
 | global g=>exact .inl rfl
 | func f=>exact .inl rfl
theorem gU{ob:Nat->Option Ob}{t:Ty}:AV.toD ob t .undef=none:=by cases t<;>rfl
def Rp.wk{w0:Root}{S:Nat->Nat->Prop}{γ:Nat->Option Nat}{β:Nat->Option (Nat×Nat)}{s s':St}{a:Act}{w:World}(h:Rp w0 S γ β s a w)(k:Wk s s'):Rp w0 S γ β s' a w:=by
 have e1:=k.ob;have e2:=k.dead;have e3:s'.base=s.base:=by simp only[St.base,k.fresh]
 refine⟨h.ext,λt ht=>?_,h.nt.trans k.nt.symm,λt ht=>?_,?_,h.γn,h.γi,?_,?_,?_,?_,?_,h.Sb,h.So⟩
 ·rw[e1,e2];rcases k.tm t with e|e
  ·rw[e];exact h.tms t ht
  ·rw[e];simp[AR]
 ·rcases k.tm t with e|e
  ·rw[e];exact h.tmu t (k.nt ▸ ht)
  ·exact e
 ·rw[e1,e2];exact h.obs
 ·rw[e3];exact h.γf
 ·rw[e2];exact h.βn
 ·rw[e2];exact h.βi
 ·rw[e2];exact h.βγ
 ·rw[e3];exact h.βf
section
variable{E:Env}{s s':St}
theorem Wk.toDl(h:Wk s s'):∀ (l:List Operand) (ts:List Ty) {xs:List D},AV.toDl s'.ob ts (l.map s'.opA)=some xs->AV.toDl s.ob ts (l.map s.opA)=some xs
 | [],ts,xs,hx=>by grind [AV.toDl]
 | y::l,ts,xs,hx=>by
  cases ts<;>simp only[z4a,AV.toDl] at hx ⊢<;>first|(cases hx;done)|skip
  obtain⟨x,h1,h2⟩:=bind_some_inv hx;obtain⟨ys,h3,h4⟩:=bind_some_inv h2;rcases h.opA y with e|e
  ·rw[e,h.ob] at h1;rw[h1,zba,h.toDl l _ h3];exact h4
  ·simp_all [gU]
theorem Wk.partsD(h:Wk s s')(ty:Nat->Option Ty):∀ (l:List (Nat×Operand)) {xs:List (Nat×D)},Sy.partsD s'.ob s' ty l=some xs->Sy.partsD s.ob s ty l=some xs
 | [],xs,hx=>hx
 | (i,y)::l,xs,hx=>by
  simp only[Sy.partsD] at hx ⊢;obtain⟨t,h0,hx⟩:=bind_some_inv hx;obtain⟨x,h1,h2⟩:=bind_some_inv hx;obtain⟨ys,h3,h4⟩:=bind_some_inv h2;rw[h0,zba];rcases h.opA y with e|e
  ·rw[e,h.ob] at h1;rw[h1,zba,h.partsD ty l h3];exact h4
  ·simp_all [gU]
theorem Wk.asList(h:Wk s s'){e:Ty}{x:Operand}{l:List D}(hx:(s'.opA x).asList s'.ob e=some l):s'.opA x=s.opA x:=by
 rcases h.opA x with k|k
 ·exact k
 ·simp_all [AV.asList,gU]
theorem Wk.isD(h:Wk s s'){x:Operand}{p:Ty×D}(hx:Sy.isD (s'.opA x)=some p):s'.opA x=s.opA x:=by
 rcases h.opA x with k|k
 ·exact k
 ·simp_all [Sy.isD]
theorem Wk.truth(h:Wk s s'){x:Operand}{b:Bool}(hx:(s'.opA x).truth=some b):s'.opA x=s.opA x:=by
 rcases h.opA x with k|k
 ·exact k
 ·simp_all [AV.truth]
end
end Sy
end
end Go.Proofs.YtphlmegkommlnaaGreatDoor
