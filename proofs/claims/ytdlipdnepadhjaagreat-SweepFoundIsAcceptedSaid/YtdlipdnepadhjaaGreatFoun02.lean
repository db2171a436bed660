/- Part 2 of the proof that SweepFoundIsAccepted answers true at every input -/
import Derived.Test.YtdlipdnepadhjaaGreatFoun01
import Derived.MapKept
import Derived.IntWalk
import Derived.RangeFuncSeq
import Derived.RangeFuncRecord
import Derived.RangeFuncNested
set_option linter.all false
set_option maxRecDepth 20000
namespace Go.Proofs.YtdlipdnepadhjaaGreat
noncomputable section
namespace Sy
open Go
section
variable{c:Cx}{f:Ty}{z:Value}
mutual
theorem KH:∀ (x y:D),D.beq x y=true->x=y
 | .int k n,y,h=>by cases y<;>simp_all [D.beq]
 | .bool b,y,h=>by cases y<;>simp_all [D.beq]
 | .str b,y,h=>by cases y<;>simp_all [D.beq]
 | .st l,y,h=>by
  cases y<;>simp only[D.beq] at h<;>try(cases h;done)
  rw[GA _ _ h]
 | .sl l,y,h=>by cases y<;>simp[D.beq] at h
 | .tup l,y,h=>by cases y<;>simp[D.beq] at h
theorem GA:∀ (l l':List D),D.beqs l l'=true->l=l'
 | [],l',h=>by cases l'<;>simp_all [D.beqs]
 | x::l,l',h=>by
  cases l' with
  | nil=>simp[D.beqs] at h
  | cons y l'=> simp only[D.beqs,X] at h;rw[KH _ _ h.1,GA _ _ h.2]
end
section
variable{P:Program}{E:Env}{w0:Root}{S:Nat->Nat->Prop}{γ:Nat->Option Nat}{β:Nat->Option (Nat×Nat)}{s:St}{a:Act}{w:World}
theorem pW{α:Type}(g:α->PUnit->Sem (ForInStep PUnit)){w:World}:∀ (l:List α),(∀ x∈l,(g x ⟨⟩).run P w=.ok (.yield ⟨⟩) w)->(forIn l PUnit.unit g).run P w=.ok ⟨⟩ w
 | [],_=>rfl
 | x::l,h=>by simp only[List.forIn_cons,zma,h x zBa,zga];exact pW g l λy a=>h y (zsa _ a)
def mw{w:World}{b n:Nat}{es:Array MapEntry}(h:w.heap[b]?=some (.map es n)):(getObj b).run P w=.ok (.map es n) w:=by simp[getObj,Sem.run,h]
mutual
theorem kI:∀ (ty:Ty) (T:TypeId) (x:D) (cx:List Value) (vx:Value) (n:Nat) (e:Bool),cg P ty T=true->bX ty=true->ty.high<=n->wt ty x->cY w S x.flat cx->ic ty cx vx->∀ w',(Instr.checkKey e n T vx).run P w'=.ok () w'
 | .int k,T,x,cx,vx,n,e,hl,_,hd,hx,rx,ix,w'=>by
  simp only[wt] at hx;obtain⟨m,rfl⟩:=hx;obtain⟨c1,rfl,r1⟩:=rx.single';rw[fO ix rfl,r1.int_inv];obtain⟨n,rfl⟩:∃ e,n=e+1:=⟨n-1,by simp only[Ty.high] at hd;omega⟩
  simp only[Instr.checkKey,zma,run_underlying (kM hl),zga,zta]
 | .bool,T,x,cx,vx,n,e,hl,_,hd,hx,rx,ix,w'=>by
  simp only[wt] at hx;obtain⟨m,rfl⟩:=hx;obtain⟨c1,rfl,r1⟩:=rx.single';rw[fO ix rfl,r1.bool_inv];obtain⟨n,rfl⟩:∃ e,n=e+1:=⟨n-1,by simp only[Ty.high] at hd;omega⟩
  have hu:P.underlying T=some .bool:=by simp only[cg,X] at hl;all_goals grind
  simp only[Instr.checkKey,zma,run_underlying hu,zga,zta]
 | .st ts,T,x,cx,vx,n,e,hl,hc,hd,hx,rx,ix,w'=>by
  simp only[wt] at hx;obtain⟨l,rfl,hx⟩:=hx;rw[jO ix rfl];obtain⟨fs,h1,h2⟩:=j6 hl;simp only[Ty.high] at hd;obtain⟨n,rfl⟩:∃ e,n=e+1:=⟨n-1,u0⟩
  simp only[bX] at hc;simp only[D.flat] at rx;simp only[Instr.checkKey,zma,run_underlying h1,zga];rw[<-Array.forIn_toList,pW (P:=P) (w:=w')]
  ·rfl
  ·intro f hf;have key:=nB ts fs.toList 0 l [] cx cx.toArray n e h2 hc u0 hx rx rfl rfl w' f hf
   by_cases hn : f.name ≠ "_"
   ·rw[zla hn] at key ⊢;simp only[zma] at key ⊢;cases hp:(part f.type cx.toArray f.offset).run P w' with
    | ok v w2=> rw[hp] at key;simp only[zga] at key ⊢;rw[key];rfl
    | _=>rw[hp] at key;simp[Result.andThen] at key
   ·rw[zia hn];rfl
 | .arr m t,T,x,cx,vx,n,e,hl,hc,hd,hx,rx,ix,w'=>by
  simp only[wt] at hx;obtain⟨l,rfl,hxl,hx⟩:=hx;rw[jO ix rfl];obtain⟨u,h1,h2⟩:=fi hl;simp only[Ty.high] at hd;obtain⟨n,rfl⟩:∃ e,n=e+1:=⟨n-1,u0⟩
  simp only[bX] at hc;simp only[D.flat] at rx;have hn:=aK _ _ h2;simp only[Instr.checkKey,zma,run_underlying h1,zga];rw[Std.Legacy.Range.forIn_eq_forIn_range',pW (P:=P) (w:=w')]
  ·rfl
  ·intro j hj;have hjn:j<m:=by simp at hj;omega
   have e1:l[j]?=some (l.getD j (.bool false)):=by simp[List.getD,zda (hxl ▸ hjn)]
   generalize l.getD j (.bool false)=dx at *;have wx:=hx dx (zeb e1);have rx':=rx;rw[cE e1] at rx';obtain⟨p1,p2⟩:=rx'.split;obtain⟨p3,p4⟩:=p2.split;have o1:(cx.take (N (l.take j)).length).length=j*t.size:=by rw[<-p1.1,aN hn _ (λx hx'=>hx x (zSa hx')),zjb,zsb u0]
   obtain⟨v1,r1,i1⟩:=jn h2 (cs:=cx.toArray) (pre:=cx.take (N (l.take j)).length) (mid:=(cx.drop (N (l.take j)).length).take dx.flat.length) (post:=(cx.drop (N (l.take j)).length).drop dx.flat.length)
     (by simp only[zza]) (by rw[<-p3.1];exact cL _ _ wx hn) p3.nag w'
   rw[o1] at r1;have r3:=kI t u dx _ v1 n e h2 hc u0 wx p3 i1 w'
   simp only[zma,cr h2,zga,r1,r3,zta]
 | .str,_,_,_,_,_,_,_,hc,_,_,_,_,_=>by simp[bX] at hc
 | .sl _,_,_,_,_,_,_,_,hc,_,_,_,_,_=>by simp[bX] at hc
 | .tup _,_,_,_,_,_,_,_,hc,_,_,_,_,_=>by simp[bX] at hc
 | .fn,_,_,_,_,_,_,_,hc,_,_,_,_,_=>by simp[bX] at hc
theorem nB:∀ (ts:List Ty) (fs:List Field) (off:Nat) (l:List D) (px cx:List Value) (xs:Array Value) (n:Nat) (e:Bool),gM P ts fs off=true->nC ts=true->ald ts<=n->fm ts l->cY w S (N l) cx ->
  xs.toList = px ++ cx -> px.length = off -> ∀ w', ∀ f ∈ fs, (if f.name ≠ "_" then (part f.type xs f.offset >>= λv => Instr.checkKey e n f.type v) else pure ()).run P w' = .ok () w'
 | [],fs,off,l,px,cx,xs,n,e,hf,_,_,_,_,_,_,w'=>by all_goals grind [gM]
 | t::ts,[],off,l,px,cx,xs,n,e,hf,_,_,_,_,_,_,w'=>by simp[gM] at hf
 | t::ts,f::fs,off,l,px,cx,xs,n,e,hf,hc,hd,hx,rx,ex,lx,w'=>by
  simp only[gM,X,zea] at hf;obtain⟨⟨⟨⟨h1,h2⟩,h3⟩,h4⟩,h5⟩:=hf;simp only[fm] at hx;obtain⟨dx,l,rfl,hx1,hx2⟩:=hx;simp only[N] at rx;obtain⟨p3,p4⟩:=rx.split;have hn:=aK _ _ h4;simp only[nC,X] at hc;simp only[ald] at hd;obtain⟨v1,r1,i1⟩:=jn h4 (cs:=xs) (pre:=px) (mid:=cx.take dx.flat.length) (post:=cx.drop dx.flat.length) (by rw[ex,zza]) (by rw[<-p3.1];exact cL _ _ hx1 hn) p3.nag w'
  rw[lx,<-h1] at r1;have r3:=kI t f.type dx _ v1 n e h4 hc.1 u0 hx1 p3 i1 w'
  have hs1:(cx.take dx.flat.length).length=t.size:=by rw[<-p3.1];exact cL _ _ hx1 hn
  have ih:=nB ts fs (off+t.size) l (px++cx.take dx.flat.length) (cx.drop dx.flat.length) xs n e h5 hc.2 u0 hx2 p4
   (by rw[zMa,zza];exact ex) (by rw[zAa,lx,hs1]) w'
  intro g hg;rcases zOa.1 hg with rfl|hg
  ·rw[zla h2,zma,r1,zga,r3]
  ·exact ih g hg
end
def Et:List D->D->List MapEntry->Nat->Option (Nat×Value)
 | .st [k,_]::l,x,e::es,i=>if D.beq x k then some (i,e.val) else Et l x es (i+1)
 | _,_,_,_=>none
theorem wP{vt:Ty}{T:TypeId}{x:D}(hl:cg P f T=true)(hc:bX f=true)(hx:wt f x)(rx:fX c.w c.S x z){desc:TypeDesc}(hu:P.underlying T=some desc):∀ (l:List D) (es:List MapEntry) (j i:Nat) (r:Option (Nat×Value)),jR c f vt j l es->Instr.findNow desc z es i=some r->r=Et l x es i
 | [],[],j,i,r,_,h=>by simp only[Instr.findNow,zca] at h;rw[<-h];rfl
 | [],_::_,j,i,r,h,_=>h.elim
 | _::_,[],j,i,r,h,_=>h.elim
 | y::l,e::es,j,i,r,h,g=>by
  simp only[jR] at h;obtain⟨⟨_,k,v,rfl,hk,s,o,A⟩,p⟩:=h;simp only[Instr.findNow] at g;have key:∀ b,Instr.sameNow desc z e.key=some b->b=D.beq x k:=by
   intro b a;cases f<;>simp only[wt] at hx hk
   case int kk=> obtain⟨n,rfl⟩:=hx;obtain⟨m,rfl⟩:=hk;rw[rx.int_inv,o.int_inv] at a;rw[kM hl] at hu;cases hu;simp only[Instr.sameNow,if_true,zca] at a;rw[<-a];simp[D.beq];rfl
   case bool=> obtain⟨n,rfl⟩:=hx;obtain⟨m,rfl⟩:=hk;rw[rx.bool_inv,o.bool_inv] at a;simp only[cg,X] at hl;have d:=hl.2;rw[hu] at d;cases desc<;>simp at d;simp only[Instr.sameNow,zca] at a;rw[<-a];rfl
   case st ts=> obtain⟨q,d,_⟩:=j6 hl;rw[hu] at d;cases d;simp[Instr.sameNow] at a
   case arr m t=> obtain⟨u,d,_⟩:=fi hl;rw[hu] at d;cases d;simp[Instr.sameNow] at a
   all_goals simp[bX] at hc
  cases hs:Instr.sameNow desc z e.key with
  | none=>rw[hs] at g;simp at g
  | some b=>
   rw[hs] at g;have:=key b hs;subst this;cases a:D.beq x k
   ·rw[a] at g;simp only at g;have:=wP hl hc hx rx hu l es (j+1) (i+1) r p g;grind [Et,Bool.false_eq_true]
   ·grind [Option.some.injEq,Et]
theorem pu{vt:Ty}{T:TypeId}{x:D}(hl:cg P f T=true)(hc:bX f=true)(hh:f.high<=1000)(hx:wt f x)(rx:fX c.w c.S x z)(w':World):∀ (l:List D) (es:List MapEntry) (j i:Nat),jR c f vt j l es->(Instr.findAsking T z es i).run P w'=.ok (Et l x es i) w'
 | [],[],j,i,_=>rfl
 | [],_::_,j,i,h=>h.elim
 | _::_,[],j,i,h=>h.elim
 | y::l,e::es,j,i,h=>by
  simp only[jR] at h;obtain⟨⟨_,k,v,rfl,hk,g,a,m⟩,b⟩:=h;have hn:=aK _ _ hl;have i1:ic f z.cells.toList z:=⟨rfl,rn hx hn rx.1⟩;have i2:ic f e.key.cells.toList e.key:=⟨rfl,rn hk hn a.1⟩;have d:=rU f T x k _ _ _ _ 10000 hl hc u0 hx hk rx.2 a.2 i1 i2 w'
  simp only[Instr.findAsking,Op.equal,Op.maxDepth,zma,d,zga,Et];cases D.beq x k
  ·simp only[zHa,if_false];exact pu hl hc hh hx rx w' l es (j+1) (i+1) b
  ·simp
def wO{vt:Ty}{T:TypeId}{x:D}(hl:cg P f T=true)(hc:bX f=true)(hh:f.high<=1000)(hx:wt f x)(rx:fX c.w c.S x z)(w':World){l:List D}{es:List MapEntry}{j:Nat}(h:jR c f vt j l es) :
  (Instr.findKey T z es).run P w'=.ok (Et l x es 0) w':=by
 have hu:∃ d,P.underlying T=some d:=by
  cases f<;>simp only[bX] at hc<;>try(cases hc;done)
  ·exact⟨_,kM hl⟩
  ·simp only[cg,X] at hl;have a:=hl.2;split at a
   ·rename_i hu;exact⟨_,hu⟩
   ·cases a
  ·obtain⟨e,h1,_⟩:=j6 hl;exact⟨_,h1⟩
  ·obtain⟨u,h1,_⟩:=fi hl;exact⟨_,h1⟩
 obtain⟨d,hu⟩:=hu;simp only[Instr.findKey,zma,run_underlying hu,zga];split
 ·rename_i r b;rw[wP hl hc hx rx hu l es j 0 r h b];rfl
 ·exact pu hl hc hh hx rx w' l es j 0 h
theorem Ha{vt:Ty}{x:D}:∀ (l:List D) (es:List MapEntry) (j i:Nat),jR c f vt j l es ->
  match Et l x es i with
  | none=>akr l x=none
  | some (_,v)=>∃ d,akr l x=some d/\wt vt d/\fX c.w c.S d v
 | [],[],j,i,_=>rfl
 | [],_::_,j,i,h=>h.elim
 | _::_,[],j,i,h=>h.elim
 | y::l,e::es,j,i,h=>by
  simp only[jR] at h;obtain⟨⟨_,k,v,rfl,hk,b,g,m⟩,a⟩:=h;simp only[Et,akr];cases hb:D.beq x k
  ·simp only[zHa,if_false];exact Ha l es (j+1) (i+1) a
  ·simp_all
def Ja(hE:EnvOk P E)(h:Rp w0 S γ β s a w){dst T x i cok ty pos after guard}:jT P E w0 S γ β s a w ⟨dst,.lookup T x i cok,ty,pos,after,guard⟩:=by
 intro R K r hq;simp only[qv] at hq;replace hq:=ab hq;obtain⟨kv,O,hq⟩:=hq;obtain⟨ad,al⟩:=kv;have hx:=aW h x;generalize s.opA x=ax at *;cases ax<;>(try simp only at hq)<;>try(cases hq;done)
 rename_i kt vt id;split at hq<;>try(cases hq;done)
 rename_i J;simp only[X] at J;have F:=alb _ _ J.1;have G:=alb _ _ J.2;subst F;subst G;split at hq<;>try(cases hq;done)
 rename_i A c l Q;split at hq<;>try(cases hq;done)
 rename_i j;simp only[X] at j;have F:=alb _ _ j.1;have G:=alb _ _ j.2;subst F;subst G;replace hq:=ab hq;obtain⟨m,N,hq⟩:=hq;split at hq<;>try(cases hq;done)
 rename_i L;have hi:=aW h i;rw[eJ N,alb _ _ L] at hi;obtain⟨hc,KT,VT,hu,k,q,hh⟩:=hE.mapL T _ _ O;have t:=aK _ _ k;have f:=aK _ _ q;obtain⟨W,a0⟩:=B9 hi t;simp only[AR,AC] at hx;obtain⟨na,b,M,hγ,_,_,_⟩:=hx;have hv:=ap na M;have hO:=h.obs id _ b Q hγ;simp only[gF] at hO;obtain⟨_,_,_,es,o,Y⟩:=hO;have i1:ic A (a.eval i).cells.toList (a.eval i):=⟨rfl,rn W t a0.1⟩;have rc:=kI (S:=S) (w:=w) A KT m.2 _ _ 10000 es.isEmpty k hc u0 W a0.2 i1 w
 have D:=wO (P:=P) k hc hh W a0 w Y;have rg:=Ha (x:=m.2) l es.toList 0 0 Y;obtain⟨z,U,V,y⟩:=ks q;have g:wt c (az c)/\fX w S (az c) z:=by
  have wz:=cX c f;refine⟨wz,?_⟩;have H:AC ⟨w,S,γ,β,s.ob,s.dead⟩ (.d c (az c)) z.cells.toList:=by simp only[AC];exact⟨wz,f,cM V⟩
  have iv:ic c z.cells.toList z:=⟨rfl,λI=>(y.2 I),λI xs e=>by have:=y.1 ⟨xs,e⟩;rw[I] at this;cases this⟩
  exact(B9 (yB (cb _ _) H iv) f).2
 have run:∃ v d,(akr l m.2).getD (az c)=d/\wt c d/\fX w S d v/\(execOp a.eval ⟨dst,.lookup T x i cok,ty,pos,after,guard⟩).run P w=.ok (.value (if cok then .tuple #[v,.bool (akr l m.2).isSome] else v)) w:=by
  have hex:(execOp a.eval ⟨dst,.lookup T x i cok,ty,pos,after,guard⟩)=(Instr.lookup T (a.eval x) (a.eval i) cok >>= λv=>pure (.value v)):=rfl;rw[hex,hv];cases hf:Et l m.2 es.toList 0 with
  | none=>
   rw[hf] at rg D;simp only at rg;refine⟨z,az c,by rw[rg];rfl,g.1,g.2,?_⟩
   simp only[Instr.lookup,zma,run_underlying hu,zga,mw o,zta,rc,D,U,rg];rfl
  | some p=>
   obtain⟨n,v⟩:=p;rw[hf] at rg D;simp only at rg;obtain⟨d,g1,g2,g3⟩:=rg;refine⟨v,d,by rw[g1];rfl,g2,g3,?_⟩
   simp only[Instr.lookup,zma,run_underlying hu,zga,mw o,zta,rc,D,g1];rfl
 obtain⟨v,d,r1,Z,r3,C⟩:=run;rw[r1] at hq;cases cok with
 | false=> simp only at hq;simp only[zHa,if_false] at C;exact⟨_,hq,.value C (Qp.same h (dA f Z r3) _)⟩
 | true=>
  simp only at hq;simp only[if_true] at C;refine⟨_,hq,.value C (Qp.same h ?_ _)⟩;simp only[AR];refine .inr ⟨_,rfl,by simp[aR,f,ak],?_,?_⟩
  ·simp only[wt,fm];exact⟨_,rfl,d,_,rfl,Z,_,_,rfl,⟨_,rfl⟩,rfl⟩
  ·refine⟨[v,.bool (akr l m.2).isSome],rfl,rfl,λi dd u h1 B=>?_⟩;rcases i with _|_|i
   ·simp at h1 B;subst h1;subst B;exact r3
   ·simp at h1 B;subst h1;subst B;exact akA (.bool _)
   ·simp at h1
end
end
section
variable{l:List D}{f:FuncId}{y:D}{B C:Option Value}
section
variable{P:Program}{E:Env}{w0:Root}{S:Nat->Nat->Prop}{γ:Nat->Option Nat}{β:Nat->Option (Nat×Nat)}{s:St}{a:Act}{w:World}
def MR(D:EnvOk P E)(h:Rp w0 S γ β s a w){dst T ty pos after guard}(m:Fr E s γ β ⟨dst,.alloc T,ty,pos,after,guard⟩)(hT:∀ t,E.L T=some t->ak t=true):jT P E w0 S γ β s a w ⟨dst,.alloc T,ty,pos,after,guard⟩:=by
 intro R K r hq;simp only[qv] at hq;replace hq:=ab hq;obtain⟨t,ht,hq⟩:=hq;replace hq:=ab hq;obtain⟨d,F,hq⟩:=hq;obtain⟨G,x,I,j⟩:=m rfl d F;cases hfn:E.fnT T with
 | true=>
  have j:=j T (.fv .undef) rfl (by simp[Env.alOb,hfn])
  have e:t=.fn:=by simp only[Env.alTy,hfn,cond_true,zca] at ht;exact ht.symm
  subst e;obtain⟨i,z,hi,_,_,H,_,p⟩:=G9 (D.fnT T hfn);have A:∀ w,(zeroValue T).run P w=.ok z w:=by simp_all [zeroValue,typeInfo]
  obtain⟨h1,B⟩:=h.grow (os:=[.cells z.cells T]) (d:=w.drawn) (zja _) (S':=S) (λ_ _ g=>g) (λ_ _ g=>.inl g);have l:¬ w0.Old w.heap.size:=λc=>by have:=c.1;have:=h.ext.sz;omega
  obtain⟨y,C⟩:=h1.newOb (id:=s.base+d) (b:=w.heap.size) x l j2 (λid hid=>by have:=(h.γn id _ hid).2;omega) (λu f hu m=>by have:=(h.βn u _ _ hu m).2.1;omega) u0
   (λo c=>by rw[j] at c;cases c;simp only[gF];exact⟨λo c=>by have:=h.Sb _ _ c;omega,z,by rw[<-tu p];exact oJ,by simp only[gg],p⟩)
  refine⟨_,hq,.value (v:=.pointer (some ⟨w.heap.size,0,none⟩)) (w':=grown w [.cells z.cells T] w.drawn) (by rw[<-c6];simp only[execOp,Instr.alloc,newVar,newRow,zma,A,zga,run_newObj,zta];rfl) ⟨S,_,β,y,gr (bO _ _ _) (λo c=>?_),λ_ _ g=>g,⟨_,_,rfl⟩,λid b g=>fG x g,λid hid=>⟨cm _ _ λhh=>?_,rfl⟩⟩⟩
  ·have k:s.ob (s.base+d)=some o:=c;rw[j] at k;cases k;exact⟨rfl,rfl⟩
  ·subst hh;rcases hid with hid|hid
   ·simp_all
   ·omega
 | false=>
 simp only[Env.alTy,hfn,cond_false] at ht;have j:=j T (.one t (ma t)) rfl (by simp[Env.alOb,hfn,ht])
 have hn:=hT t ht;have hl:=jG D ht hn;obtain⟨z,A,q,_⟩:=ks hl;obtain⟨h1,B⟩:=h.grow (os:=[.cells z.cells T]) (d:=w.drawn) (zja _) (S':=S) (λ_ _ g=>g) (λ_ _ g=>.inl g);have l:¬ w0.Old w.heap.size:=λc=>by have:=c.1;have:=h.ext.sz;omega
 have hlen:z.cells.toList.length=t.size:=by rw[<-(cM (w:=w) (S:=S) q).1];exact cL _ _ (cX t hn) hn
 obtain⟨y,C⟩:=h1.newOb (id:=s.base+d) (b:=w.heap.size) x l j2 (λid hid=>by have:=(h.γn id _ hid).2;omega) (λu f hu m=>by have:=(h.βn u _ _ hu m).2.1;omega) u0
  (λo c=>by rw[j] at c;cases c;simp only[gF];exact⟨hn,xZ t hn,λo c=>by have:=h.Sb _ _ c;omega,z.cells.toList,by rw[z8b];exact oJ,Er t _ hn q,hlen⟩)
 refine⟨_,hq,.value (v:=.pointer (some ⟨w.heap.size,0,none⟩)) (w':=grown w [.cells z.cells T] w.drawn) (by rw[<-c6];simp only[execOp,Instr.alloc,newVar,newRow,zma,A,zga,run_newObj,zta];rfl) ⟨S,_,β,y,gr (bO _ _ _) (λo c=>?_),λ_ _ g=>g,⟨_,_,rfl⟩,λid b g=>fG x g,λid hid=>⟨cm _ _ λhh=>?_,rfl⟩⟩⟩
 ·have k:=c;have:o=.one t (ma t):=by simp_all
  subst this;exact⟨by cases t<;>rfl,by cases t<;>rfl⟩
 ·subst hh;rcases hid with hid|hid
  ·simp_all
  ·omega
def Ez{c:Cx}{e:Ty}{y:AV}{v:Value}{ob:Nat->Option Ob}(hn:ak e=true)(h:AR c y v)(hl:y.asList ob e=some l):∃ a cap,v=.slice a l.length cap:=by
 obtain⟨_,d⟩:=ln hn h hl;obtain⟨a,cap,b,off,f,_⟩:=d.elems
 simp_all
def BD{T:TypeId}{e:Ty}(hl:cg P (.sl e) T=true){A:Option Addr}{len cap lo hi:Nat}(h1:lo<=hi)(i:hi<=len)(j:len<=cap)
  (b:(B=none/\lo=0)\/∃ k,B=some (.int k lo)) (a:(C=none/\hi=len)\/∃ k,C=some (.int k hi)) (w:World) :
  (Instr.sliceAt T (.slice A len cap) B C none).run P w=.ok (.slice (if cap=lo then A else A.map (·.add (lo*e.size))) (hi-lo) (cap-lo)) w:=by
 obtain⟨u,d,f⟩:=jv hl;have g:(0:Int)<=(hi:Int)/\(hi:Int)<=(cap:Int):=u0
 have h:(0:Int)<=(lo:Int)/\(lo:Int)<=(hi:Int):=u0
 have c:(Instr.sliceBounds true len cap B C none).run P w=.ok (lo,hi,cap) w:=by
  rcases b with⟨rfl,rfl⟩|⟨k,rfl⟩<;>rcases a with⟨rfl,rfl⟩|⟨l,rfl⟩ <;>
   simp_all [Instr.sliceBounds,Instr.sliceBound,asIntOf,pure_bind,zma,zta]
 simp only[Instr.sliceAt,zma,run_underlying d,zga,Instr.slice,c,cr f,zta]
def vf{T:TypeId}{m:Nat}{e:Ty}(hl:cg P (.arr m e) T=true){b off lo hi:Nat}(h1:lo<=hi)(l:hi<=m)(n:lo<m)
  (c:(B=none/\lo=0)\/∃ k,B=some (.int k lo)) (a:(C=none/\hi=m)\/∃ k,C=some (.int k hi)) (w:World) :
  (Instr.sliceAt T (.pointer (some ⟨b,off,none⟩)) B C none).run P w=.ok (.slice (some ⟨b,off+lo*e.size,none⟩) (hi-lo) (m-lo)) w:=by
 obtain⟨u,g,h⟩:=fi hl;have i:(0:Int)<=(hi:Int)/\(hi:Int)<=(m:Int):=u0
 have j:(0:Int)<=(lo:Int)/\(lo:Int)<=(hi:Int):=u0
 have d:¬ m=lo:=u0
 have f:(Instr.sliceBounds false m m B C none).run P w=.ok (lo,hi,m) w:=by
  rcases c with⟨rfl,rfl⟩|⟨k,rfl⟩<;>rcases a with⟨rfl,rfl⟩|⟨o,rfl⟩ <;>
   simp_all [Instr.sliceBounds,Instr.sliceBound,asIntOf,pure_bind,zma,zta]
 simp only[Instr.sliceAt,zma,run_underlying g,zga,mL,f,cr h,zta,d,if_false,dN]
def TX{w:World}{S:Nat->Nat->Prop}{e:Ty}{v:Value}{lo hi:Nat}(hn:ak e=true)(hw:∀ x∈l,wt e x)(h:CR w S (.sl l) v)(h1:lo<=hi)(f:hi<=l.length) :
  ∃ A cap,v=.slice A l.length cap/\l.length<=cap/\CR w S (.sl ((l.take hi).drop lo)) (.slice (if cap=lo then A else A.map (·.add (lo*e.size))) (hi-lo) (cap-lo)):=by
 obtain⟨A,cap,b,off,i,j,k,a⟩:=h.elems;refine⟨A,cap,i,k,?_⟩;have hlen:((l.take hi).drop lo).length=hi-lo:=by simp;omega
 rw[<-hlen];have d:l=l.take lo++((l.take hi).drop lo++l.drop hi):=by rw[<-zMa,show l.take lo=(l.take hi).take lo by rw[List.take_take,zsb h1],zza,zza]
 rw[d,cz,cz] at a;have c:=a.part;rw[aN hn _ (λx hx=>hw x (zSa hx)),zjb,zsb u0] at c
 refine akg (b:=b) (off:=off+lo*e.size) ?_ (by rw[hlen];omega) c
 by_cases he:(l.take hi).drop lo=[]
 ·exact .inl he
 ·right;have g:0<hi-lo:=by rw[<-hlen];exact zYc.2 he
  rw[zia u0]
  rcases j with rfl|rfl
  ·simp at f;omega
  ·simp only[zUb,dN]
theorem MY(J:EnvOk P E)(h:Rp w0 S γ β s a w){dst T x lo hi mx ty pos after guard}:jT P E w0 S γ β s a w ⟨dst,.slice T x lo hi mx,ty,pos,after,guard⟩:=by
 intro R K r hq;simp only[qv] at hq;split at hq<;>try(cases hq;done)
 replace hq:=ab hq;obtain⟨t,ht,hq⟩:=hq;have num:∀ {i:Operand} {n:Nat},((isD (s.opA i)).bind λa=>a.2.natOf)=some n->∃ k,a.eval i=.int k n:=by intro i n hh;obtain⟨p,h1,L⟩:=ab hh;obtain⟨V,M⟩:=ue L;have I:=aW h i;rw[eJ h1,M] at I;exact⟨V,(eW I).1⟩
 cases t<;>(try simp only at hq)<;>try(cases hq;done)
 case arr m e=>
  rcases J.lay T _ ht with⟨H,u⟩|hl
  ·cases u
  have hn:=aK _ _ hl;simp only[ak] at hn;have hx:=aW h x;generalize s.opA x=y at *;cases y<;>(try simp only at hq)<;>try(cases hq;done)
  rename_i X id p;split at hq<;>try(cases hq;done)
  rename_i z;have:=alb _ _ z;subst this;replace hq:=ab hq;obtain⟨c,F,hq⟩:=hq;replace hq:=ab hq;obtain⟨d,C,hq⟩:=hq;split at hq<;>try(cases hq;done)
  rename_i o;obtain⟨b,off,G,W,N⟩:=kW hx;have g:((lo.map a.eval)=none/\c=0)\/∃ k,(lo.map a.eval)=some (.int k c):=by all_goals grind
  have f:((hi.map a.eval)=none/\d=m)\/∃ k,(hi.map a.eval)=some (.int k d):=by all_goals grind
  have j:=vf hl (b:=b) (off:=off) o.1 o.2.1 o.2.2 g f w;refine⟨_,hq,.value (v:=.slice (some ⟨b,off+c*e.size,none⟩) (d-c) (m-c)) (w':=w) (by simp only[execOp,Option.map_none,G,zma,j,zga,zta]) (Qp.same h ?_ _)⟩
  simp only[AR,AC,Value.cells];grind
 rename_i e;rcases J.lay T _ ht with⟨H,u⟩|hl
 ·cases u
 have hn:=aK _ _ hl;simp only[ak] at hn;replace hq:=ab hq;obtain⟨l,q,hq⟩:=hq;replace hq:=ab hq;obtain⟨c,F,hq⟩:=hq;replace hq:=ab hq;obtain⟨d,C,hq⟩:=hq;replace hq:=ab hq;obtain⟨l',hl',hq⟩:=hq;simp only[D.cut] at hl';split at hl'<;>try(cases hl';done)
 rename_i z;simp only[zca] at hl';subst hl';obtain⟨O,Q⟩:=ln hn (aW h x) q;obtain⟨A,cap,G,B,U⟩:=TX hn O Q z.1 z.2;have g:((lo.map a.eval)=none/\c=0)\/∃ k,(lo.map a.eval)=some (.int k c):=by all_goals grind
 have f:((hi.map a.eval)=none/\d=l.length)\/∃ k,(hi.map a.eval)=some (.int k d):=by all_goals grind
 have j:=BD hl (A:=A) (len:=l.length) (cap:=cap) z.1 z.2 B g f w;have hw:wt (.sl e) (.sl ((l.take d).drop c)):=by grind [wt]
 exact⟨_,hq,.value (w':=w) (by simp only[execOp,Option.map_none,G,zma,j,zga,zta]) (Qp.same h (dA (by simpa [ak] using hn) hw (akA U)) _)⟩
theorem RG(F:EnvOk P E)(h:Rp w0 S γ β s a w){dst T x ty pos after guard}:jT P E w0 S γ β s a w ⟨dst,.sliceToArrayPointer T x,ty,pos,after,guard⟩:=by
 intro R K r hq;simp only[qv] at hq;replace hq:=ab hq;obtain⟨t,ht,hq⟩:=hq;have hx:=aW h x;generalize s.opA x=y at *;cases t<;>(try simp only at hq)<;>try(cases hq;done)
 rename_i n e;have plain:(y.asList s.ob e).bind (λl=>if decide (1<=n)&&decide (n<=l.length) then K (.fptr (.arr n e) (.st (l.take n))) else none)=some r ->
   ∃ v,K v=some r/\eY P ⟨dst,.sliceToArrayPointer T x,ty,pos,after,guard⟩ a w (Qp w0 S γ β s a w dst v):=λhq=>by
  replace hq:=ab hq;obtain⟨l,o,hq⟩:=hq;split at hq<;>try(cases hq;done)
  rename_i g;simp only[X,zea] at g;rcases F.lay T _ ht with⟨C,d⟩|hl
  ·cases d
  obtain⟨u,hu,q⟩:=fi hl;have hn:=aK _ _ q;obtain⟨L,M⟩:=ln hn hx o;obtain⟨A,cap,b,off,B,G,_,f⟩:=M.elems;have i:=G.resolve_left λh0=>by subst h0;simp at g;omega
  subst i;have c:¬ l.length<n:=u0
  refine⟨_,hq,.value (v:=.pointer (some ⟨b,off,none⟩)) (w':=w) (by simp only[execOp,B,Instr.arrayAt,zma,run_underlying hu,zga,c,if_false,zta]) (Qp.same h ?_ _)⟩
  simp only[AR,AC,Value.cells];refine⟨j2,by simp only[wt];exact⟨_,rfl,by simp;omega,λx hx=>L x (zSa hx)⟩,by simpa only[ak] using hn,b,off,rfl,?_⟩
  have e:N l=[]++(N (l.take n)++N (l.drop n)):=by rw[z4b,<-cz,zza]
  rw[e] at f;simpa [D.flat] using f.part
 cases y<;>(try simp only at hq)<;>first|exact plain hq|skip
 rename_i sl O id p lo a0;split at hq<;>try(cases hq;done)
 rename_i g;simp only[X,zea] at g;obtain⟨⟨j,k⟩,H⟩:=g;subst j;have:=alb _ _ k;subst this;rcases F.lay T _ ht with⟨C,d⟩|hl
 ·cases d
 obtain⟨u,hu,_⟩:=fi hl;simp only[AR,AC,if_true] at hx;obtain⟨z,I,b,off,cap,m,Q,J⟩:=hx;have B:=ap z m;have c:¬ a0<n:=u0
 refine⟨_,hq,.value (v:=.pointer (some ⟨b,off,none⟩)) (w':=w) (by simp only[execOp,B,Instr.arrayAt,zma,run_underlying hu,zga,c,if_false,zta]) (Qp.same h ?_ _)⟩
 grind [AR,AC,Value.cells]
theorem ur(h:Rp w0 S γ β s a w):∀ (ts:List Ty) (l:List Operand) (xs:List D),aR ts=true->AV.toDl s.ob ts (l.map s.opA)=some xs ->
  fm ts xs/\(l.map a.eval).length=xs.length/\∀ (i:Nat) (x:D) (v:Value),xs[i]?=some x->(l.map a.eval)[i]?=some v->fX w S x v
 | ts,[],xs,_,hx=>by all_goals grind [AV.toDl,Option.some.injEq,fm]
 | ts,y::l,xs,hn,hx=>by
  cases ts<;>simp only[z4a,AV.toDl] at hx<;>try(cases hx;done)
  rename_i t ts;obtain⟨x,h1,f⟩:=ab hx;obtain⟨e,g,d⟩:=ab f;simp only[zca] at d;subst d;simp only[aR,X] at hn;obtain⟨j,k⟩:=pJ hn.1 (aW h y) h1;obtain⟨m,n,o⟩:=ur h ts l e hn.2 g;refine⟨by simp only[fm];exact⟨x,e,rfl,j,m⟩,by simpa using n,λi z v c b=>?_⟩
  cases i with
  | zero=>simp at c b;subst c;subst b;exact k
  | succ i=>simp only[znb,z4a] at c b;exact o i z v c b
theorem zJ:∀ {l:List Nat} {i j x:Nat},dw l=true->l[i]?=some x->l[j]?=some x->i=j
 | [],_,_,_,_,h,_=>by simp at h
 | a::l,i,j,x,h,hi,b=>by
  simp only[dw,X,zEa] at h;have hn:∀ k,l[k]?≠some a:=λk hk=>by
   have:l.contains a=true:=by rw[List.contains_iff_mem];exact zeb hk
   simp_all
  cases i with
  | zero=> all_goals grind
  | succ i=>
   cases j with
   | zero=>simp at hi b;subst b;exact zgb hi (hn i)
   | succ j=>simp at hi b;rw[zJ h.2 hi b]
theorem xY:∀ {ts us:List Ty} {xs a:List D},fm ts xs->fm us a->fm (ts++us) (xs++a)
 | [],us,xs,a,h,k=>by simp_all [fm]
 | t::ts,us,xs,a,h,k=>by simp only[fm] at h;obtain⟨d,l,rfl,h1,b⟩:=h;simp only[zrb,fm];exact⟨d,l++a,rfl,h1,xY b k⟩
theorem Cq(h:Rp w0 S γ β s a w):∀ (ts:List Ty) (l:List AV) (e:List D) (caps:List Value),rL s.ob ts l=some e->oZ ⟨w,S,γ,β,s.ob,s.dead⟩ l caps ->
  ∃ d:List Nat,caps=d.map I7/\fm ts e/\d.length=e.length/\l.length=d.length/\(∀ (i b:Nat),d[i]?=some b->∃ id:Nat,(wo l)[i]?=some id/\γ id=some b)/\∀ (i:Nat) (x:D) (b:Nat),e[i]?=some x->d[i]?=some b->TY w S x b
 | [],l,e,caps,c,hc=>by
  cases l with
  | nil=> simp only[rL,zca] at c;subst c;simp only[oZ] at hc;subst hc;exact⟨[],rfl,by simp only[fm],rfl,rfl,λi b h=>by simp at h,λi x b h=>by simp at h⟩
  | cons x l=>simp[rL] at c
 | t::ts,l,e,caps,c,hc=>by
  cases l with
  | nil=>simp[rL] at c
  | cons x l=>
   cases x<;>first|(simp[rL] at c;done)|skip
   rename_i u id p;cases p<;>first|(simp[rL] at c;done)|skip
   simp only[rL] at c;split at c<;>try(cases c;done)
   rename_i N v n;split at c<;>try(cases c;done)
   rename_i B;have:=alb _ _ B;subst this;obtain⟨z,h1,c⟩:=ab c;obtain⟨f,A,c⟩:=ab c;cases c;simp only[oZ] at hc;obtain⟨v',c2,rfl,o,F⟩:=hc;obtain⟨d,rfl,q1,J,K,L,M⟩:=Cq h ts l f c2 A F;simp only[AC] at o;obtain⟨b,off,k,m,q⟩:=o;obtain⟨_,r⟩:=q _ n;have y:=r;subst y;have hO:=h.obs id _ b n m;simp only[gF] at hO;obtain⟨_,_,G,cs,H,I,_⟩:=hO;obtain⟨t1,t2,_⟩:=uq _ _ _ _ h1 I;refine⟨b::d,by simp only[List.cons.injEq,and_true] at k;rw[k];rfl,by simp only[fm];exact⟨z,f,rfl,t1,q1⟩,by simp[J],by simp[K],λi g hi=>?_,λi x g hx hi=>?_⟩
   ·cases i with
    | zero=>simp at hi;subst hi;exact⟨id,rfl,m⟩
    | succ i=>simp only[znb] at hi;obtain⟨j,C,E⟩:=L i g hi;exact⟨j,by simpa [wo] using C,E⟩
   ·cases i with
    | zero=>simp at hx hi;subst hx;subst hi;exact⟨G,cs,H,t2⟩
    | succ i=>simp only[znb] at hx hi;exact M i x g hx hi
def yJ (h : Rp w0 S γ β s a w) {o : Oper} {f : FuncId} {rty : Ty} {y : D} (n2 : ak rty = true \/ ∃ ts, rty = .tup ts /\ aR ts = true) {fn : Func} (f1 : P.funcs[f]? = some fn) (f2 : (fn.name == "runtime.NumGoroutine") = false) (f3 : fn.body.isSome = true)
  (vs:List Value) (hx:(execOp a.eval o).run P w=.ok (.enter f vs.toArray) w)
  (hc:Calls P f vs.toArray w λe w'=>∃ v,e=.returned v/\(∃ os d,w.drawn<=d/\w'=grown w os d)/\wt rty y/\DR w' (λb o=>S b o\/(w.heap.size<=b/\b<w'.heap.size)) y v) :
  eY P o a w (Qp w0 S γ β s a w o.dst (.d rty y)):=by
 refine .enter (f:=f) (args:=vs.toArray) (w':=w) hx (hc.mono λe w' ⟨v,he,⟨os,d,hdr0,hw'⟩,hwt,hdr⟩=>⟨v,he,?_⟩);subst hw';obtain⟨h1,le1⟩:=h.grow (os:=os) (d:=d) hdr0 (S':=λb o=>S b o\/(w.heap.size<=b/\b<(grown w os d).heap.size)) (λ_ _ hb=>.inl hb) (λ_ _ hb=>hb);refine⟨_,γ,β,h1,?_,λ_ _ hb=>.inl hb,⟨os,d,rfl⟩,λ_ _ hb=>hb,λ_ _=>⟨rfl,rfl⟩⟩;simp only[AR];rcases n2 with n2|⟨ts,rfl,n2⟩
 ·refine .inl ⟨n2,hwt,?_⟩;cases rty<;>simp only[wt] at hwt<;>first
   | (obtain⟨m,rfl⟩:=hwt;exact hdr)
   | (obtain⟨m,rfl,_⟩:=hwt;exact hdr)
   | (exact hwt.elim)
   | (simp[ak] at n2)
 ·simp_all
def Ld(h:Rp w0 S γ β s a w){o:Oper}{t:Ty}{d:Nat}(O:o.dst=some d)(F:d<4096)(I:β (s.base+d)=none){fn:Func}(f1:P.funcs[f]?=some fn){c:List Ty}{xs:List D}
  (vs:List Value) (hx:(execOp a.eval o).run P w=.ok (.enter f vs.toArray) w) (hc:JY P c t f xs l) (J:fm c xs) (K:vs.length=xs.length) (L:∀ (i:Nat) (x:D) (v:Value),xs[i]?=some x->vs[i]?=some v->fX w S x v) :
  eY P o a w (Qp w0 S γ β s a w o.dst (.own t (s.base+d) l)):=by
 refine .enter (f:=f) (args:=vs.toArray) (w':=w) hx ((hc w S vs h.Sb J K L).mono λe w' ⟨A,cap,he,⟨os,dr,j,y⟩,m,p,S',s1,s2,g,C⟩=>⟨_,he,?_⟩);subst y;obtain⟨h1,M⟩:=h.grow (os:=os) (d:=dr) j (S':=S') s1 s2;rcases C with⟨rfl,rfl⟩|⟨b,off,rfl,⟨E,r⟩,hn,k⟩
 ·refine⟨S',γ,β,h1,?_,s1,⟨os,dr,rfl⟩,λ_ _ q=>q,λ_ _=>⟨rfl,rfl⟩⟩;simp only[AR,AC,Value.cells];exact⟨j2,m,p,none,0,rfl,g,λ_=>.inl ⟨rfl,rfl⟩⟩
 ·have z:¬ w0.Old b:=λH=>by have:=H.1;have:=h.ext.sz;omega
  obtain⟨B,N⟩:=h1.newTok (v:=s.base+d) (b:=b) (e:=off+l.length*t.size) I z r (λid hid=>by have:=(h.γn id _ hid).2;omega) (λu f hu G=>by have:=(h.βn u _ _ hu G).2.1;omega) u0 k
  refine⟨S',γ,pG β (s.base+d) (b,off+l.length*t.size),B,?_,s1,⟨os,dr,rfl⟩,λ_ _ q=>q,λid hid=>⟨rfl,cm β _ λhh=>?_⟩⟩
  ·simp only[AR,AC,Value.cells];exact⟨j2,m,p,_,cap,rfl,g,λ_=>.inr ⟨b,off,rfl,by simp[bO],hn⟩⟩
  ·subst hh;rcases hid with hid|hid
   ·simp_all
   ·omega
def DB(h:Rp w0 S γ β s a w){t:Ty}{d:Nat}(E:β (s.base+d)=none)(y:d<4096){S':Nat->Nat->Prop}{os:List Obj}{dr:Nat}(g:w.drawn<=dr)(s1:∀ b o,S b o->S' b o)(s2:∀ b o,S' b o->S b o\/(w.heap.size<=b/\b<(grown w os dr).heap.size))
  {v0:Value} (C:H6 w (grown w os dr) S' t l v0):∃ β',Rp w0 S' γ β' s a (grown w os dr)/\(∀ cs,v0≠.agg cs)/\v0.cells.toList=[v0]/\AC ⟨grown w os dr,S',γ,β',s.ob,s.dead⟩ (.own t (s.base+d) l) [v0]/\∀ u,u≠s.base+d->β' u=β u:=by
 obtain⟨A,cap,rfl,j,k,c,r⟩:=C;obtain⟨h1,F⟩:=h.grow (os:=os) (d:=dr) g (S':=S') s1 s2;rcases r with⟨rfl,rfl⟩|⟨b,off,rfl,⟨x,m⟩,hn,i⟩
 ·refine⟨β,h1,j2,rfl,?_,λ_ _=>rfl⟩
  simp only[AC];exact⟨j,k,none,0,rfl,c,λ_=>.inl ⟨rfl,rfl⟩⟩
 ·have p:¬ w0.Old b:=λB=>by have:=B.1;have:=h.ext.sz;omega
  obtain⟨q,G⟩:=h1.newTok (v:=s.base+d) (b:=b) (e:=off+l.length*t.size) E p m (λid hid=>by have:=(h.γn id _ hid).2;omega) (λu f hu z=>by have:=(h.βn u _ _ hu z).2.1;omega) u0 i
  refine⟨pG β (s.base+d) (b,off+l.length*t.size),q,j2,rfl,?_,λu hu=>cm β _ hu⟩
  simp only[AC];exact⟨j,k,_,cap,rfl,c,λ_=>.inr ⟨b,off,rfl,by simp[bO],hn⟩⟩
theorem lM{R:Type}:∀ (ts:List Ty) (i:Nat) (k:List AV->Option R),m8 y i ts k=(m8 y i ts some).bind k
 | [],i,k=>rfl
 | t::ts,i,k=>by
  simp only[m8];cases y.fld i with
  | none=>rfl
  | some z=> simp only[zba];rw[lM ts (i+1) (λl=>k (.d t z::l)),lM ts (i+1) (λl=>some (.d t z::l)),Option.bind_assoc];rfl
theorem DM{c:Cx}{y:D}:∀ (ts:List Ty) (b:List D) (i:Nat) (r:List AV) (cs:List Value),aR ts=true->fm ts b->(∀ j,(y.fld (i+j))=b[j]?)->m8 y i ts some=some r->cY c.w c.S (N b) cs->AV.fitss ts r=true/\jM c r cs
 | [],b,i,r,cs,_,hw,_,a,hc=>by simp only[fm] at hw;subst hw;simp only[m8,zca] at a;subst a;refine⟨rfl,?_⟩;simp only[jM];exact zcd (by rw[<-hc.1];rfl)
 | t::ts,b,i,r,cs,hn,hw,f,a,hc=>by
  simp only[fm] at hw;obtain⟨x,l,rfl,d,e⟩:=hw;simp only[aR,X] at hn;simp only[m8] at a;obtain⟨z,h1,a⟩:=ab a;rw[lM] at a;obtain⟨l',g,a⟩:=ab a;cases a;have h0:=f 0;rw[zTb,h1] at h0;simp at h0;subst h0;simp only[N] at hc;obtain⟨c1,c2⟩:=hc.split;obtain⟨q1,h⟩:=DM (c:=c) ts l (i+1) l' _ hn.2 e (λj=>by have:=f (j+1);rw[show i+1+j=i+(j+1) by omega,this];rfl) g c2
  refine⟨by simp only[AV.fitss,X];exact⟨cb t z,q1⟩,?_⟩
  simp only[jM];exact⟨_,_,(zza _ _).symm,by simp only[AC];exact⟨d,hn.1,c1⟩,h⟩
def yK(h:Rp w0 S γ β s a w){o:Oper}{k:Ty}{d:Nat}(Y:o.dst=some d)(m:d<4096)(N:β (s.base+d)=none){g:List Ty}{xs:List D}{x:AV}
  (hx:(∃ t ts,k=.tup (.sl t::ts)/\x=.tpo t (s.base+d) ts y)\/∃ t ts z l r,k=.st (.sl t::ts)/\y.fld 0=some z/\z.asSl=some l/\m8 y 1 ts some=some r/\x=.st (.sl t::ts) (.own t (s.base+d) l::r))
  (vs:List Value) (n:(execOp a.eval o).run P w=.ok (.enter f vs.toArray) w) (hc:JZ P g k f xs y) (U:fm g xs) (V:vs.length=xs.length) (W:∀ (i:Nat) (x:D) (v:Value),xs[i]?=some x->vs[i]?=some v->fX w S x v) :
  eY P o a w (Qp w0 S γ β s a w o.dst x):=by
 refine .enter (f:=f) (args:=vs.toArray) (w':=w) n ((hc w S vs h.Sb U V W).mono λe w' ⟨v,he,⟨os,dr,b,I⟩,S',s1,s2,A⟩=>⟨_,he,?_⟩);subst I;rcases hx with⟨t,ts,rfl,rfl⟩|⟨t,ts,z,l,r,rfl,M,hl,T,rfl⟩
 ·simp only[vW] at A;obtain⟨l,B,v0,L,C,p,q,u,E,F,R⟩:=A;obtain⟨β',q1,O,Q,J,K⟩:=DB h N m b s1 s2 q;refine⟨S',γ,β',q1,?_,s1,⟨os,dr,rfl⟩,λ_ _ a1=>a1,λid hid=>⟨rfl,K id λhh=>?_⟩⟩
  ·simp only[AR];exact⟨l,B,v0,L,C,p,O,by rw[Q];exact J,u,E,F,R⟩
  ·subst hh;rcases hid with hid|hid
   ·simp_all
   ·omega
 ·simp only[vW] at A;obtain⟨Z,B,v0,cs,C,p,q,u,E,F⟩:=A;subst C;simp only[D.fld,zAb,zca] at M;subst M;cases hl;obtain⟨β',q1,O,Q,J,K⟩:=DB h N m b s1 s2 q;obtain⟨m1,G⟩:=DM (c:=⟨grown w os dr,S',γ,β',s.ob,s.dead⟩) (y:=.st (.sl l::B)) ts B 1 r cs u E (λj=>by rw[zgc];rfl) T F
  refine⟨S',γ,β',q1,?_,s1,⟨os,dr,rfl⟩,λ_ _ a1=>a1,λid hid=>⟨rfl,K id λhh=>?_⟩⟩
  ·have H:ak t=true:=by
    obtain⟨_,_,_,a0,_⟩:=q;exact a0
   simp only[AR,AC];refine⟨⟨_,p⟩,by simp only[aR,ak,X];exact⟨H,u⟩,?_,?_⟩
   ·simp only[AV.fitss,AV.fits,X];exact⟨ala t,m1⟩
   ·rw[p];simp only[Value.cells,jM];exact⟨[v0],cs,rfl,J,G⟩
  ·subst hh;rcases hid with hid|hid
   ·simp_all
   ·omega
def RH(hE:EnvOk P E)(h:Rp w0 S γ β s a w){dst c ty pos after guard}(hf:Fr E s γ β ⟨dst,.call c,ty,pos,after,guard⟩):jT P E w0 S γ β s a w ⟨dst,.call c,ty,pos,after,guard⟩:=by
 intro R K r hq;obtain⟨callee,args,argTypes⟩:=c;simp only[qv] at hq;split at hq<;>try(cases hq;done)
 case h_1=>
  replace hq:=ab hq;obtain⟨T,hT,hq⟩:=hq;replace hq:=ab hq;obtain⟨t,ht,hq⟩:=hq;replace hq:=ab hq;obtain⟨x,hx,hq⟩:=hq;have hx':(args.map a.eval)[0]?=some (a.eval x):=by simp[hx]
  have hex:execOp a.eval ⟨dst,.call ⟨.builtin .len,args,argTypes⟩,ty,pos,after,guard⟩=(Builtin.len_ argTypes ty (args.map a.eval) >>= λv=>pure (.value v)):=rfl;cases t<;>(try simp only at hq)<;>try(cases hq;done)
  case sl e=>
   rcases hE.lay T _ ht with⟨ts',hts⟩|hl
   ·cases hts
   have hn:=aK _ _ hl;simp only[ak] at hn;obtain⟨u,k1,_⟩:=jv hl;have run:∀ {A:Option Addr} {n cap:Nat},a.eval x=.slice A n cap->(execOp a.eval ⟨dst,.call ⟨.builtin .len,args,argTypes⟩,ty,pos,after,guard⟩).run P w=.ok (.value (.int .i64 n)) w:=by simp_all [Builtin.len_,run_underlying,k1,goInt]
   by_cases hm:∃ t' id,s.opA x=.mem t' id
   ·obtain⟨t',id,hm⟩:=hm;have hx2:=aW h x;rw[hm] at hq hx2;simp only at hq;split at hq<;>try(cases hq;done)
    split at hq<;>try(cases hq;done)
    rename_i u' l hob;obtain⟨_,b,hγ,hob2⟩:=JT hx2;obtain⟨l',cap,e1,_,hv⟩:=hob2 _ hob;cases e1;exact⟨_,hq,.value (run hv) (Qp.same h (cP _ _) _)⟩
   ·by_cases hs:∃ sl t' id p lo n,s.opA x=.sub sl t' id p lo n
    ·obtain⟨sl,t',id,p,lo,n,hm⟩:=hs;have hx2:=aW h x;rw[hm] at hq hx2;simp only at hq;split at hq<;>try(cases hq;done)
     rename_i hb;simp only[X] at hb;obtain⟨rfl,hb⟩:=hb;obtain⟨b,off,cap,hv,_⟩:=JU hx2;exact⟨_,hq,.value (run hv) (Qp.same h (cP _ _) _)⟩
    have hq':((s.opA x).asList s.ob e).bind (λl=>K (.d (.int .i64) (.int .i64 l.length)))=some r:=by
     split at hq
     ·exact zgb ⟨_,_,by assumption⟩ hm
     ·exact zgb ⟨_,_,_,_,_,_,by assumption⟩ hs
     ·exact hq
    obtain⟨l,h1,hq⟩:=ab hq';obtain⟨A,cap,hv⟩:=Ez hn (aW h x) h1;exact⟨_,hq,.value (run hv) (Qp.same h (cP _ _) _)⟩
  case arr n e=>
   rcases hE.lay T _ ht with⟨ts',hts⟩|hl
   ·cases hts
   obtain⟨u,k1,_⟩:=fi hl;exact⟨_,hq,.value (v:=.int .i64 n) (w':=w) (by rw[hex];simp[Builtin.len_,hT,hx',run_underlying k1,goInt]) (Qp.same h (cP _ _) _)⟩
  case str=>
   rcases hE.lay T _ ht with⟨ts',hts⟩|hl
   ·cases hts
   replace hq:=ab hq;obtain⟨p,hp,hq⟩:=hq;split at hq<;>try(cases hq;done)
   rename_i hb;replace hq:=ab hq;obtain⟨z,hz,hq⟩:=hq;have hx2:=aW h x;rw[eJ hp] at hx2;obtain⟨t',x'⟩:=p;have e:=alb _ _ hb;simp only at e;subst e;obtain⟨k1,k2⟩:=B9 hx2 rfl;simp only[wt] at k1;obtain⟨sb,rfl⟩:=k1;simp only[D.slen,zca] at hz;subst hz;have hsv:a.eval x=.string sb:=by obtain⟨c1,c2⟩:=k2;obtain⟨c,e,h⟩:=cY.single' c2;have:=ap c1 e;rw[this];cases h;rfl
   have hu:P.underlying T=some .string:=by simp only[cg,X] at hl;all_goals grind
   exact⟨_,hq,.value (v:=.int .i64 sb.size) (w':=w) (by rw[hex];simp[Builtin.len_,hT,hx',run_underlying hu,hsv,goInt]) (Qp.same h (cP _ _) _)⟩
 case h_2=>
  split at hq<;>try(cases hq;done)
  rename_i x y he;have he':(args.map a.eval).toList=[a.eval x,a.eval y]:=by simp[he]
  replace hq:=ab hq;obtain⟨p,hp,hq⟩:=hq;replace hq:=ab hq;obtain⟨q,hqq,hq⟩:=hq;split at hq<;>try(cases hq;done)
  replace hq:=ab hq;obtain⟨z,hz,hq⟩:=hq;have h1:=aW h x;have h2:=aW h y;rw[eJ hp] at h1;rw[eJ hqq] at h2;cases hp2:p.2<;>rw[hp2] at hz h1<;>cases hq2:q.2<;>rw[hq2] at hz h2<;>simp only[D.min2] at hz<;>try(cases hz;done)
  rename_i k n k' m;simp only[zca] at hz;subst hz;obtain⟨v1,t1⟩:=eW h1;obtain⟨v2,_⟩:=eW h2;have hex:execOp a.eval ⟨dst,.call ⟨.builtin .min,args,argTypes⟩,ty,pos,after,guard⟩=(Builtin.min_ argTypes ty (args.map a.eval) >>= λv=>pure (.value v)):=rfl;refine⟨_,hq,.value (v:=.int k (if m<n then m else n)) (w':=w) ?_ (Qp.same h (by rw[t1];exact cP _ _) _)⟩
  simp_all [Builtin.min_,v1,v2,Builtin.min2]
 case h_3=>
  split at hq<;>try(cases hq;done)
  rename_i x y he;have he':(args.map a.eval).toList=[a.eval x,a.eval y]:=by simp[he]
  replace hq:=ab hq;obtain⟨p,hp,hq⟩:=hq;replace hq:=ab hq;obtain⟨q,hqq,hq⟩:=hq;split at hq<;>try(cases hq;done)
  replace hq:=ab hq;obtain⟨z,hz,hq⟩:=hq;have h1:=aW h x;have h2:=aW h y;rw[eJ hp] at h1;rw[eJ hqq] at h2;cases hp2:p.2<;>rw[hp2] at hz h1<;>cases hq2:q.2<;>rw[hq2] at hz h2<;>simp only[D.max2] at hz<;>try(cases hz;done)
  rename_i k n k' m;simp only[zca] at hz;subst hz;obtain⟨v1,t1⟩:=eW h1;obtain⟨v2,_⟩:=eW h2;have hex:execOp a.eval ⟨dst,.call ⟨.builtin .max,args,argTypes⟩,ty,pos,after,guard⟩=(Builtin.max_ argTypes ty (args.map a.eval) >>= λv=>pure (.value v)):=rfl;refine⟨_,hq,.value (v:=.int k (if m>n then m else n)) (w':=w) ?_ (Qp.same h (by rw[t1];exact cP _ _) _)⟩
  simp_all [Builtin.max_,v1,v2,Builtin.max2]
 case h_4 f=>
  replace hq:=ab hq;obtain⟨g,hg,hq⟩:=hq;cases hfr:Nat.beq (E.free f) 0 with
  | false=>rw[hfr] at hq;cases hq
  | true=>
  rw[hfr] at hq;replace hq:=ab hq;obtain⟨xs,hxs,hq⟩:=hq;replace hq:=ab hq;obtain⟨y,hy,hq⟩:=hq;obtain⟨ptys,rty⟩:=g;obtain⟨n1,n2,fn,f1,f2,f3⟩:=hE.sig f ptys rty hg;obtain⟨k1,k2,k3⟩:=ur h ptys args.toList xs n1 hxs;obtain⟨hc,hc2⟩:=hE.call f ptys rty xs y hg hy k1;rw[z1b hfr] at hc;have hrun:(execOp a.eval ⟨dst,.call ⟨.value (.func f),args,argTypes⟩,ty,pos,after,guard⟩).run P w=.ok (.enter f (args.toList.map a.eval).toArray) w:=by
   have hm:args.map a.eval=(args.toList.map a.eval).toArray:=zic j2
   have f2' : ¬ fn.name = "runtime.NumGoroutine" := by simpa using f2
   have hb':¬ fn.body=none:=s6
   simp[execOp,resolve,Act.eval,Deferred.ofValue,invoke,callFunc,f1,f2',hb',hm]
  cases how:E.ownF f with
  | true=>
   rw[how] at hq;simp only[cond_true] at hq;replace hq:=ab hq;obtain⟨d,hd,hq⟩:=hq;obtain⟨hd4,_,hβ,_⟩:=hf rfl d hd;rcases hc2 how with⟨t,l,rfl,rfl,hc3⟩|hc3
   ·replace hq:=ab hq;obtain⟨l',hl',hq⟩:=hq;cases hl';exact⟨_,hq,Ld h hd hd4 hβ f1 (args.toList.map a.eval) hrun hc3 k1 k2 k3⟩
   ·split at hq<;>try(cases hq;done)
    ·replace hq:=ab hq;obtain⟨l',hl',hq⟩:=hq;exact⟨_,hq,.enter (f:=f) (args:=(args.toList.map a.eval).toArray) (w':=w) hrun ((hc3 w S (args.toList.map a.eval) h.Sb k1 k2 k3).mono λe w' ⟨v,_,_,_,_,_,hh⟩=>by simp only[vW] at hh)⟩
    ·exact⟨_,hq,yK h hd hd4 hβ (.inl ⟨_,_,rfl,rfl⟩) (args.toList.map a.eval) hrun hc3 k1 k2 k3⟩
    ·replace hq:=ab hq;obtain⟨z,hz,hq⟩:=hq;replace hq:=ab hq;obtain⟨l',hl',hq⟩:=hq;rw[lM] at hq;replace hq:=ab hq;obtain⟨r',hr',hq⟩:=hq;exact⟨_,hq,yK h hd hd4 hβ (.inr ⟨_,_,z,l',r',rfl,hz,hl',hr',rfl⟩) (args.toList.map a.eval) hrun hc3 k1 k2 k3⟩
  | false=> rw[how] at hq;exact⟨_,hq,yJ h n2 f1 f2 f3 (args.toList.map a.eval) hrun (hc w S (args.toList.map a.eval) h.Sb k1 k2 k3)⟩
 case h_5 t=>
  split at hq<;>try(cases hq;done)
  rename_i f l ht;replace hq:=ab hq;obtain⟨g,hg,hq⟩:=hq;cases hfr:(Nat.beq (E.free f) l.length&&dw (wo l)) with
  | false=>rw[hfr] at hq;cases hq
  | true=>
  rw[hfr] at hq;simp only[X] at hfr;obtain⟨hfr,hnd⟩:=hfr;have hfr:=z1b hfr;replace hq:=ab hq;obtain⟨xs,hxs,hq⟩:=hq;replace hq:=ab hq;obtain⟨zs,hzs,hq⟩:=hq;replace hq:=ab hq;obtain⟨y,hy,hq⟩:=hq;obtain⟨ptys,rty⟩:=g;obtain⟨n1,n2,fn,f1,f2,f3⟩:=hE.sig f ptys rty hg;obtain⟨k1,k2,k3⟩:=ur h _ args.toList xs (jh _ n1) hxs;have hA:=aW h (.tmp t);have hA':AR ⟨w,S,γ,β,s.ob,s.dead⟩ (.clo f l) (a.eval (.tmp t)):=by rw[<-ht];exact hA
  simp only[AR,AC] at hA';obtain⟨na,caps,hcs,hcap⟩:=hA';have hv:=ap na hcs;obtain⟨bs,rfl,q1,q2,q3,q4,q5⟩:=Cq h _ l zs caps hzs hcap;have hwt:fm ptys (xs++zs):=by
   have:=xY k1 q1
   rwa [zza] at this
  have hc:=(hE.call f ptys rty (xs++zs) y hg hy hwt).1;have hx:(execOp a.eval ⟨dst,.call ⟨.value (.tmp t),args,argTypes⟩,ty,pos,after,guard⟩).run P w=.ok (.enter f (args.toList.map a.eval++bs.map I7).toArray) w:=by
   have hm:args.map a.eval=(args.toList.map a.eval).toArray:=zic j2
   have f2' : ¬ fn.name = "runtime.NumGoroutine" := by simpa using f2
   have hb':¬ fn.body=none:=s6
   simp only[execOp,resolve,hv];simp[Deferred.ofValue,invoke,callFunc,f1,f2',hb',hm]
  refine⟨_,hq,yJ h n2 f1 f2 f3 (args.toList.map a.eval++bs.map I7) hx ?_⟩;rw[hfr] at hc;cases l with
  | nil=>
   have hb0:=z5b.1 (by simpa using q3.symm)
   have hz0:=z5b.1 (by rw[<-q2,hb0];rfl)
   subst hb0;subst hz0;simp only[zVb,zld] at hc ⊢;exact hc w S (args.toList.map a.eval) h.Sb (by simpa using hwt) k2 k3
  | cons x l=>
   refine hc w S (args.toList.map a.eval) bs h.Sb hwt q3.symm (by rw[k2,zAa,<-q2,<-q3];rfl) (λi j b hi hj=>?_) (λi x v hx hv=>?_) λi x b hx hb=>?_
   ·obtain⟨id,e1,e2⟩:=q4 i b hi;obtain⟨id',e3,e4⟩:=q4 j b hj;have:=h.γi id id' b e2 e4;subst this;exact zJ hnd e1 e3
   ·grind
   ·grind
def Yc(b:EnvOk P E)(h:Rp w0 S γ β s a w){o:Oper}(d:Fr E s γ β o)(hT:∀ T t,o.op=.alloc T->E.L T=some t->ak t=true):jT P E w0 S γ β s a w o:=by
 obtain⟨dst,op,ty,pos,after,guard⟩:=o;cases op
 case move x=>exact RK h
 case assign x=>exact I9 h
 case pick c x y=>exact RL h
 case alloc T=>exact MR b h d (λt=>hT T t rfl)
 case load T x=>exact RJ b h
 case lookup T x i c=>exact Ja b h
 case fieldAddr T x f=>exact Bv b h
 case indexAddr T x i=>exact Bw b h
 case field T x f=>exact MW b h
 case index T x f=>exact MX b h
 case binOp op T x y T'=>exact MS b h
 case unOp op T x=>exact RM h
 case convert U T x=>exact FA b h
 case build T ps=>exact MT b h
 case buildSlice T n ps=>exact yu b h d
 case makeSlice T x y=>exact Bx b h d
 case extract x i=>exact FB h
 case nilCheck x=>exact DJ h
 case slice T x lo hi mx=>exact MY b h
 case sliceToArrayPointer T x=>exact RG b h
 case makeFunc fn x y=>exact DI h
 case call c=>exact RH b h d
 all_goals (intro R K r hq;simp only[qv] at hq;cases hq)
end
end
section
variable{c:Array Value}{f:Nat}{J K:Nat->Option Nat}
def pT{w0:Root}{w w':World}(h:oh w0 w)(ht:w'.tape=w.tape)(d:w'.os=w.os)(hu:w'.output=w.output)(e:w.heap.size<=w'.heap.size)(c:w.drawn<=w'.drawn)(hh:∀ b,w0.Old b->w'.heap[b]?=w.heap[b]?):oh w0 w':=
 ⟨ht.trans h.tape,d.trans h.os,hu.trans h.output,zva h.sz e,zva h.dr c,λb a=>(hh b a).trans (h.old b a)⟩
theorem cU{w:World}{b off:Nat}{cs:Array Value}(h:f≠b):(putAt w b off cs).heap[f]?=w.heap[f]?:=by simp only[putAt,zad];grind
def iJ{w:World}{b off:Nat}{cs:Array Value}(h:ck w b=some c):ck (putAt w b off cs) b=some (fh c off cs):=by
 unfold ck at h ⊢;split at h<;>try(cases h;done)
 rename_i a;simp only[zca] at h;subst h;simp only[putAt,zad,if_true,a,zUb]
def BA{w:World}{b off:Nat}{cs:Array Value}(h:f≠b):ck (putAt w b off cs) f=ck w f:=by simp only[ck,cU h]
def cw{w:World}{b off o:Nat}{cs:Array Value}(h:f≠b):(putAt w b off cs).cell? ⟨f,o,none⟩=w.cell? ⟨f,o,none⟩:=by simp only[World.cell?,cU h]
def lN{w:World}{b off:Nat}{cs:Array Value}(h:ck w b=some c)(a:off+cs.size<=c.size):rA (putAt w b off cs) f=rA w f:=by
 by_cases e:f=b
 ·simp_all [rA,iJ,zUb,splice_size]
 ·simp only[rA,BA e]
theorem akE{w w':World}(b0:Nat)(h:∀ b,b≠b0->b<w.heap.size->w'.heap[b]?=w.heap[b]?)(h0:∀ o,w.heap[b0]?=some o->o≠Obj.deferred (some [])/\∀ r,o≠Obj.loop r):dM w w':=by intro b;all_goals grind
def dM.old{w w':World}(h:∀ b,b<w.heap.size->w'.heap[b]?=w.heap[b]?):dM w w':=
 λb=>⟨λa=>(h b (zpa.1 a).1).trans a,λ⟨r,a⟩=>⟨r,(h b (zpa.1 a).1).trans a⟩⟩
def Ji{w:World}{b:Nat}(h:ck w b=some c):∀ o,w.heap[b]?=some o->o≠Obj.deferred (some [])/\∀ r,o≠Obj.loop r:=λo a=>by
 constructor
 ·rintro rfl;simp[ck,a] at h
 ·rintro r rfl;simp[ck,a] at h
def IJ{w:World}{b n:Nat}{es:Array MapEntry}(h:w.heap[b]?=some (.map es n)):∀ o,w.heap[b]?=some o->o≠Obj.deferred (some [])/\∀ r,o≠Obj.loop r:=λo a=>by simp_all
theorem dM.putAt{w:World}{b off:Nat}{cs:Array Value}(h:ck w b=some c):dM w (putAt w b off cs):=akE b (λd a _=>cU a) (Ji h)
theorem dM.grown{w:World}{os:List Obj}{d:Nat}:dM w (grown w os d):=dM.old λb a=>dn w os d a
theorem Fm.refl(s:St)(S:Nat->Nat->Prop)(γ:Nat->Option Nat)(a:Act)(w:World):Fm s S γ a w S γ a w:=
 ⟨λ_ _ h=>h,λ_ _ _=>rfl,λ_ _=>rfl,λ_ _ _ h=>⟨h,kw.refl _ _⟩,zja _,λ_ _ h=>h,me.same rfl (dM.refl _)⟩
theorem Fm.trans{s s1:St}{S S1 S2:Nat->Nat->Prop}{γ:Nat->Option Nat}{a a1 a2:Act}{w w1 e:World}(h:Fm s S γ a w S1 J a1 w1)(k:Fm s1 S1 J a1 w1 S2 K a2 e)(f:s1.lkS=s.lkS)(d:s1.lkO=s.lkO):Fm s S γ a w S2 K a2 e:=
 ⟨λb o c=>k.sub b o (h.sub b o c),λb o c=>(k.cell b o (h.sub b o c)).trans (h.cell b o c),λt ht=>(k.slots t (f ▸ ht)).trans (h.slots t ht),
  λid hid b c=>by obtain⟨h1,g⟩:=h.objs id hid b c;obtain⟨i,j⟩:=k.objs id (d ▸ hid) b h1;exact⟨i,g.trans j⟩,zva h.sz k.sz,λid b c=>k.gam id b (h.gam id b c),h.dfs.trans (d ▸ k.dfs) h.sz k.sz⟩
def ct{a:Act}{dst:Option Nat}{v:Value}{t:Nat}(h:dst≠some t):(a.put dst v).tmps.getD t undef=a.tmps.getD t undef:=by
 cases dst with
 | none=>rfl
 | some d=>
  have b:d≠t:=λe=>h (by rw[e])
  simp only[Act.put];all_goals simp_all
def J6(P:Program)(w0:Root)(S:Nat->Nat->Prop)(γ:Nat->Option Nat)(β:Nat->Option (Nat×Nat))(s:St)(a:Act)(w:World)(o:Oper)(s':St):Prop:=
 s'.lkS=s.lkS/\s'.lkO=s.lkO/\s'.fresh=s.fresh/\s'.nt=s.nt/\(∀ id,γ id=none->o.dst≠some (id-s.base)\/id<s.base->s'.ob id=s.ob id) ∧
 eY P o a w λval w'=>∃ S' γ' β',Rp w0 S' γ' β' s' (a.put o.dst val) w'/\Fm s S γ a w S' γ' (a.put o.dst val) w'/\(∀ id,o.dst≠some (id-s.base)\/id<s.base->γ' id=γ id/\β' id=β id)
section
variable{P:Program}{E:Env}{w0:Root}{S:Nat->Nat->Prop}{γ:Nat->Option Nat}{β:Nat->Option (Nat×Nat)}{s:St}{a:Act}{w:World}
def ak5(s:St)(d:Option Nat)(v:AV):(s.put d v).ob=s.ob/\(s.put d v).fresh=s.fresh/\(s.put d v).dead=s.dead/\(s.put d v).nt=s.nt/\(s.put d v).lkS=s.lkS/\(s.put d v).lkO=s.lkO/\(s.put d v).base=s.base:=by
 cases d with
 | none=>exact⟨rfl,rfl,rfl,rfl,rfl,rfl,rfl⟩
 | some d=>simp only[St.put];split<;>exact⟨rfl,rfl,rfl,rfl,rfl,rfl,rfl⟩
def dK{os:List Obj}{d b:Nat}(h:b<w.heap.size):(grown w os d).heap[b]?=w.heap[b]?:=dn w os d h
def y7(i:EnvOk P E)(h:Rp w0 S γ β s a w){o:Oper}(j:Fr E s γ β o)(hT:∀ T t,o.op=.alloc T->E.L T=some t->ak t=true)(e:∀ t∈s.lkS,o.dst≠some t){R:Type}{K:St->Option R}{r:R}(hq:qv E s o (λv=>K (s.put o.dst v))=some r) :
  ∃ s',K s'=some r/\J6 P w0 S γ β s a w o s':=by
 obtain⟨v,h1,g⟩:=Yc i h j hT R _ r hq;obtain⟨p1,u,A,x,y,z,B⟩:=ak5 s o.dst v;refine⟨_,h1,y,z,u,x,λid _ _=>by rw[p1],g.mono λval w' ⟨S',γ',β',k,l,m,⟨os,d,p⟩,f,q⟩=>?_⟩
 subst p;exact⟨S',γ',β',k.put l o.dst,⟨m,λb o c=>eH (h.Sb b o c),λt ht=>ct (e t ht),λid hid b c=>⟨f id b c,.inl (dK (h.γn id b c).2)⟩,j2,f,me.same ca dM.grown⟩,q⟩
def Rp.write(h:Rp w0 S γ β s a w){id b off:Nat}{o o':Ob}{cs:Array Value}(G:s.ob id=some o)(y:γ id=some b)(A:∀ o,¬ S b o)(C:ck w b=some c)(D:off+cs.size<=c.size)
  (E:∀ p,fo o' p=fo o p/\cD o' p=cD o p) (m:∀ t l,o=.many t l->∃ l',o'=.many t l'/\l'.length=l.length) (B:∀ F vt l,o≠.mp F vt l)
  (r:gF ⟨putAt w b off cs,S,γ,β,(s.setOb id (some o')).ob,s.dead⟩ b o') :
  Rp w0 S γ β (s.setOb id (some o')) a (putAt w b off cs)/\Cx.le ⟨w,S,γ,β,s.ob,s.dead⟩ ⟨putAt w b off cs,S,γ,β,(s.setOb id (some o')).ob,s.dead⟩:=by
 have k:∀ d o,S d o->d≠b:=λd o j e=>A o (e ▸ j);have hle:Cx.le ⟨w,S,γ,β,s.ob,s.dead⟩ ⟨putAt w b off cs,S,γ,β,(s.setOb id (some o')).ob,s.dead⟩:=by
  refine⟨λd o j=>cw (k d o j),λ_ _ j=>j,λ_ _ j=>j,λi x hx _=>?_,λv u=>⟨u,λd e he=>⟨he,λn hn=>by rw[lN C D];exact hn⟩⟩⟩
  simp only[St.setOb] at hx;by_cases e:i=id
  ·simp_all
  ·simp_all
 refine⟨⟨pT h.ext rfl rfl rfl j2 (zja _) (λd g=>cU (λe=>(h.γn id b y).1 (e ▸ g))),λt ht=>(h.tms t ht).mono hle,h.nt,h.tmu,λi x d hx g=>?_,λi d g=>by simpa using h.γn i d g,h.γi,h.γf,
  λv d e u he=>by simpa using h.βn v d e u he,h.βi,h.βγ,h.βf,λd o j=>by simpa using h.Sb d o j,h.So⟩,hle⟩
 simp only[St.setOb] at hx;by_cases e:i=id
 ·subst e;simp only[if_true,zca] at hx;subst hx;rw[y] at g;cases g;exact r
 ·rw[zia e] at hx;have q:d≠b:=λz=>e (h.γi i id d g (z ▸ y));exact(h.obs i x d hx g).mono hle (cU q) λ_ hh=>hh
theorem It(hE:EnvOk P E)(h:Rp w0 S γ β s a w){dst T x y ty pos after guard}(a2:∀ t∈s.lkS,dst≠some t){R:Type}{K:St->Option R}{r:R}(hd:dst=none)
  (hq:vr E s ⟨dst,.store T x y,ty,pos,after,guard⟩ K=some r):∃ s',K s'=some r/\J6 P w0 S γ β s a w ⟨dst,.store T x y,ty,pos,after,guard⟩ s':=by
 subst hd;simp only[vr] at hq;have hx:=aW h x;have V:=aW h y;cases hfn:E.fnT T with
 | true=>
  rw[hfn] at hq;simp only[cond_true] at hq;split at hq<;>try(cases hq;done)
  rename_i id e;split at hq<;>try(cases hq;done)
  rename_i d;simp only[X,zEa] at d;split at hq<;>try(cases hq;done)
  rename_i v f;rw[e] at hx;have L:id ∉ s.lkO:=by simp_all
  obtain⟨b,off,Q,J,M⟩:=kW hx;obtain⟨_,rfl⟩:=M _ f;obtain⟨D,z,m,_,_⟩:=h.obs id _ b f J;obtain⟨V,h1⟩:=HG (c:=⟨w,S,γ,β,s.ob,s.dead⟩) d.1 V;have hr:=BE (hE.fnT T hfn) (w:=w) (b:=b) m h1;have q:0+#[a.eval y].size<=#[z].size:=j2
  have I:gF ⟨putAt w b 0 #[a.eval y],S,γ,β,(s.setOb id (some (.fv (km s.ob (s.opA y))))).ob,s.dead⟩ b (.fv (km s.ob (s.opA y))):=by
   have H:∀ g o,S g o->g≠b:=λg o d e=>D o (e ▸ d);have hle:Cx.le ⟨w,S,γ,β,s.ob,s.dead⟩ ⟨putAt w b 0 #[a.eval y],S,γ,β,(s.setOb id (some (.fv (km s.ob (s.opA y))))).ob,s.dead⟩:=by
    refine⟨λg o d=>cw (H g o d),λ_ _ d=>d,λ_ _ d=>d,λi z F _=>?_,λv Q=>⟨Q,λg e he=>⟨he,λn hn=>by rw[lN m q];exact hn⟩⟩⟩
    simp only[St.setOb] at F;by_cases e:i=id
    ·subst e;simp only[if_true,zca] at F;subst F;exact⟨_,f,λp=>by cases p<;>exact⟨rfl,rfl⟩,(λt l e=>by cases e),λ_ _ l e=>by cases e⟩
    ·simp_all
   simp only[gF];refine⟨D,a.eval y,?_,V.mono hle.cell hle.S hle.γ,h1⟩;rw[iJ m];rfl
  obtain⟨Y,n2⟩:=h.write (o':=.fv (km s.ob (s.opA y))) f J D m q (λp=>by cases p<;>exact⟨rfl,rfl⟩) (λt l e=>by cases e) (λ_ _ _ e=>by cases e) I
  refine⟨_,hq,rfl,rfl,rfl,rfl,λi hi _=>?_,.skip (w':=putAt w b 0 #[a.eval y]) ?_ ⟨S,γ,β,Y,?_,λ_ _=>⟨rfl,rfl⟩⟩⟩
  ·grind [St.setOb]
  ·simp_all [execOp,zma,cD,zga,zta]
  ·exact⟨λ_ _ d=>d,λg o d=>cw (λe=>D o (e ▸ d)),λ_ _=>rfl,λi hi g k=>⟨k,.inl (cU λe=>L ((h.γi id i b J (e ▸ k)) ▸ hi))⟩,j2,λ_ _ d=>d,me.same rfl (dM.putAt m)⟩
 | false=>
 rw[hfn] at hq;simp only[cond_false] at hq;replace hq:=ab hq;obtain⟨t,ht,hq⟩:=hq;generalize s.opA x=ax at *;cases ax<;>(try simp only at hq)<;>try(cases hq;done)
 rename_i t' id p;split at hq<;>try(cases hq;done)
 rename_i d;simp only[X,zEa] at d;obtain⟨⟨al,a3⟩,a1⟩:=d;have:=alb _ _ al;subst this;have L:id ∉ s.lkO:=by simp_all
 obtain⟨b,off,Q,J,M⟩:=kW hx;split at hq<;>try(cases hq;done)
 ·
  rename_i u v f;obtain⟨O,rfl⟩:=M _ f;have hO:=h.obs id _ b f J;simp only[gF] at hO;obtain⟨a4,Z,D,cs,m,o5,o6⟩:=hO;simp only[fo] at O;have hn:=eK p a4 O;have hl:=jG hE ht hn;obtain⟨y1,y2⟩:=B8 a3 hn V;obtain⟨v',pre,mid,post,m1,rfl,G,m3,m4,m5⟩:=RZ p Z a4 O o5 y1 a3 hq;obtain⟨y3,y4⟩:=ii _ _ _ a3 y1;have hr:=sS hl (w:=w) (b:=b) (off:=bi u p) m y2 y3 y4 (by simp only[zQc,zAa];omega)
  have q:bi u p+(a.eval y).cells.toList.toArray.size<=(pre++(mid++post)).toArray.size:=s6
  have I:gF ⟨putAt w b (bi u p) (a.eval y).cells.toList.toArray,S,γ,β,(s.setOb id (some (.one u v'))).ob,s.dead⟩ b (.one u v'):=by
   have H:∀ g o,S g o->g≠b:=λg o d e=>D o (e ▸ d);have hle:Cx.le ⟨w,S,γ,β,s.ob,s.dead⟩ ⟨putAt w b (bi u p) (a.eval y).cells.toList.toArray,S,γ,β,(s.setOb id (some (.one u v'))).ob,s.dead⟩:=by
    refine⟨λg o d=>cw (H g o d),λ_ _ d=>d,λ_ _ d=>d,λi z F _=>?_,λv Q=>⟨Q,λg e he=>⟨he,λn hn=>by rw[lN m q];exact hn⟩⟩⟩
    simp only[St.setOb] at F;by_cases e:i=id
    ·subst e;simp only[if_true,zca] at F;subst F;exact⟨_,f,λp=>⟨rfl,rfl⟩,(λt l e=>by cases e),λ_ _ l e=>by cases e⟩
    ·simp_all
   simp only[gF];refine⟨a4,m5,D,pre++((a.eval y).cells.toList++post),?_,AC.mono hle _ _ m4,(ii _ _ _ m5 m4).1⟩;rw[iJ m,<-G,jo pre mid post _ m3]
  obtain⟨Y,n2⟩:=h.write (o':=.one u v') f J D m q (λp=>⟨rfl,rfl⟩) (λt l e=>by cases e) (λ_ _ _ e=>by cases e) I
  refine⟨_,m1,rfl,rfl,rfl,rfl,λi hi _=>?_,.skip (w':=putAt w b (bi u p) (a.eval y).cells.toList.toArray) ?_ ⟨S,γ,β,Y,?_,λ_ _=>⟨rfl,rfl⟩⟩⟩
  ·grind [St.setOb]
  ·simp_all [execOp,zma,cD,zga,zta]
  ·exact⟨λ_ _ d=>d,λg o d=>cw (λe=>D o (e ▸ d)),λ_ _=>rfl,λi hi g k=>⟨k,.inl (cU λe=>L ((h.γi id i b J (e ▸ k)) ▸ hi))⟩,j2,λ_ _ d=>d,me.same rfl (dM.putAt m)⟩
 ·
  rename_i u l f;cases p with
  | nil=>simp only at hq;cases hq
  | cons i p=>
   simp only at hq;replace hq:=ab hq;obtain⟨z,F,hq⟩:=hq;replace hq:=ab hq;obtain⟨y',an,hq⟩:=hq;replace hq:=ab hq;obtain⟨z',aI,hq⟩:=hq;obtain⟨O,rfl⟩:=M _ f;have hO:=h.obs id _ b f J;simp only[gF] at hO;obtain⟨a4,Z,D,cs,rs,m,o5⟩:=hO;simp only[fo] at O;have hn:=eK p a4 O;have hl:=jG hE ht hn;obtain⟨y1,y2⟩:=B8 a3 hn V;obtain⟨y3,y4⟩:=ii _ _ _ a3 y1;obtain⟨q1,q2,_⟩:=uq _ _ _ _ an y1;obtain⟨s1,A,C,B,s2,s3,s4,s5⟩:=sU p (Z z (zeb F)) a4 O aI q1;have hi:=(zra.1 F).1;have e0:(N (l.take i)).length=i*u.size:=by rw[aN a4 _ (λx hx=>Z x (zSa hx)),zjb,zsb (zIc hi)]
   rw[cE F,s2,show N (l.take i)++(A++(C++B)++N (l.drop (i+1)))=(N (l.take i)++A)++(C++(B++N (l.drop (i+1)))) by simp[zMa]] at o5
   obtain⟨c1,c2⟩:=o5.split;obtain⟨c3,c4⟩:=c2.split;generalize hpre:cs.take (N (l.take i)++A).length=pre at *;generalize hrest:cs.drop (N (l.take i)++A).length=rest at *;have ad:cs=pre++(rest.take C.length++rest.drop C.length):=by rw[<-hpre,zza,<-hrest,zza]
   have a0:pre.length=i*u.size+bi u p:=by rw[<-c1.1,zAa,e0,s4]
   have W:(rest.take C.length).length=(a.eval y).cells.toList.length:=by rw[<-c3.1,s5,y3]
   subst ad;rw[show pre++(rest.take C.length++rest.drop C.length)++rs=pre++(rest.take C.length++(rest.drop C.length++rs)) by simp only[zMa]] at m
   have hr:=sS hl (w:=w) (b:=b) (off:=i*u.size+bi u p) m y2 y3 y4 (by simp only[zQc,zAa];omega)
   have q:i*u.size+bi u p+(a.eval y).cells.toList.toArray.size<=(pre++(rest.take C.length++(rest.drop C.length++rs))).toArray.size:=by simp only[zQc,zAa,zEb] at *;omega
   have U:gF ⟨putAt w b (i*u.size+bi u p) (a.eval y).cells.toList.toArray,S,γ,β,(s.setOb id (some (.many u (l.set i z')))).ob,s.dead⟩ b (.many u (l.set i z')):=by
    have H:∀ g o,S g o->g≠b:=λg o d e=>D o (e ▸ d);simp only[gF];refine⟨a4,λx hx=>?_,D,pre++((a.eval y).cells.toList++rest.drop C.length),rs,?_,?_⟩
    ·rcases zVc hx with hx|hx
     ·exact Z x hx
     ·rw[hx];exact s1
    ·rw[iJ m,<-a0,jo pre _ _ _ W];simp only[zMa]
    ·rw[oC F,s3,show N (l.take i)++(A++(y'.flat++B)++N (l.drop (i+1)))=(N (l.take i)++A)++(y'.flat++(B++N (l.drop (i+1)))) by simp[zMa]]
     exact(c1.append (q2.append c4)).mono (λg o d=>cw (H g o d)) λ_ _ hh=>hh
   obtain⟨Y,n2⟩:=h.write (o':=.many u (l.set i z')) f J D m q (λp=>by cases p<;>exact⟨rfl,rfl⟩) (λt l' e=>by cases e;exact⟨_,rfl,j2⟩) (λ_ _ _ e=>by cases e) U
   refine⟨_,hq,rfl,rfl,rfl,rfl,λj hj _=>?_,.skip (w':=putAt w b (i*u.size+bi u p) (a.eval y).cells.toList.toArray) ?_ ⟨S,γ,β,Y,?_,λ_ _=>⟨rfl,rfl⟩⟩⟩
   ·simp only[St.setOb];rw[zia];intro e;subst e;have aO:γ j=some b:=J;rw[aO] at hj;cases hj
   ·simp only[execOp,Q,zma,cD,hr,zga,zta]
   ·exact⟨λ_ _ d=>d,λg o d=>cw (λe=>D o (e ▸ d)),λ_ _=>rfl,λj hj g k=>⟨k,.inl (cU λe=>L ((h.γi id j b J (e ▸ k)) ▸ hj))⟩,j2,λ_ _ d=>d,me.same rfl (dM.putAt m)⟩
end
end
section
variable{P:Program}{E:Env}{w0:Root}{S:Nat->Nat->Prop}{γ:Nat->Option Nat}{β:Nat->Option (Nat×Nat)}{s:St}{a:Act}{w:World}
def Rp.setFree(h:Rp w0 S γ β s a w){id:Nat}(hid:γ id=none)(o:Option Ob):Rp w0 S γ β (s.setOb id o) a w/\Cx.le ⟨w,S,γ,β,s.ob,s.dead⟩ ⟨w,S,γ,β,(s.setOb id o).ob,s.dead⟩:=by
 have hle:Cx.le ⟨w,S,γ,β,s.ob,s.dead⟩ ⟨w,S,γ,β,(s.setOb id o).ob,s.dead⟩:=by
  refine⟨λ_ _ _=>rfl,λ_ _ k=>k,λ_ _ k=>k,λi x hx ⟨b,c⟩=>?_,λv d=>⟨d,λb e he=>⟨he,λn hn=>hn⟩⟩⟩;simp only[St.setOb] at hx;by_cases e:i=id
  ·simp_all
  ·simp_all
 refine⟨⟨h.ext,λt ht=>(h.tms t ht).mono hle,h.nt,h.tmu,λi x b hx c=>?_,h.γn,h.γi,h.γf,h.βn,h.βi,h.βγ,h.βf,h.Sb,h.So⟩,hle⟩;simp only[St.setOb] at hx;by_cases e:i=id
 ·simp_all
 ·rw[zia e] at hx;exact(h.obs i x b hx c).mono hle rfl λ_ k=>k
theorem lT(s:St)(id:Nat)(o:Option Ob):(s.setOb id o).ob id=o:=by simp[St.setOb]
def n8(s:St){id i:Nat}(o:Option Ob)(h:i≠id):(s.setOb id o).ob i=s.ob i:=by simp[St.setOb,h]
def Rp.make(h:Rp w0 S γ β s a w){id:Nat}(hid:γ id=none)(hi:id<s.base+4096){c:Array Value}{T:TypeId}{o:Ob}(d:Nat)(k:w.drawn<=d)
  (l:gF ⟨grown w [.cells c T] d,S,pG γ id w.heap.size,β,(s.setOb id (some o)).ob,s.dead⟩ w.heap.size o) :
  Rp w0 S (pG γ id w.heap.size) β (s.setOb id (some o)) a (grown w [.cells c T] d)/\Cx.le ⟨w,S,γ,β,s.ob,s.dead⟩ ⟨grown w [.cells c T] d,S,pG γ id w.heap.size,β,(s.setOb id (some o)).ob,s.dead⟩:=by
 obtain⟨h1,j⟩:=h.grow (os:=[.cells c T]) (d:=d) k (S':=S) (λ_ _ g=>g) (λ_ _ g=>.inl g);obtain⟨r,p⟩:=h1.setFree hid (some o);have m:¬ w0.Old w.heap.size:=λl=>by have:=l.1;have:=h.ext.sz;omega
 obtain⟨t,z⟩:=r.newOb (id:=id) (b:=w.heap.size) hid m j2 (λi hi=>by have:=(h.γn i _ hi).2;omega) (λu f hu y=>by have:=(h.βn u _ _ hu y).2.1;omega) hi (λx hx=>by rw[lT] at hx;cases hx;exact l)
 refine⟨t,⟨λb o g=>j.cell b o g,λ_ _ g=>g,λi b g=>fG hid g,λi x hx g=>?_,λv q=>⟨q,λb e he=>⟨he,λn hn=>by have:=j.β v q;exact(this.2 b e he).2 n hn⟩⟩⟩⟩
 obtain⟨b,g⟩:=g;exact p.ob i x hx ⟨b,g⟩
def Tt(h:Rp w0 S γ β s a w){dst T x ty pos after guard}{d:Nat}(u:d<4096)(G:dst=some d)(k:γ (s.base+d)=none)(l:∀ t∈s.lkS,dst≠some t){R:Type}{K:St->Option R}{r:R}{t:Ty}{g:Ob}
  (hq:K ((s.setOb (s.base+d) (some g)).put dst (.ptr t (s.base+d) []))=some r)
  (m:Cx.le ⟨w,S,γ,β,s.ob,s.dead⟩ ⟨grown w [.cells (a.eval x).cells T] w.drawn,S,pG γ (s.base+d) w.heap.size,β,(s.setOb (s.base+d) (some g)).ob,s.dead⟩->gF ⟨grown w [.cells (a.eval x).cells T] w.drawn,S,pG γ (s.base+d) w.heap.size,β,(s.setOb (s.base+d) (some g)).ob,s.dead⟩ w.heap.size g)
  (p:fo g []=some t/\0=cD g []):∃ s',K s'=some r/\J6 P w0 S γ β s a w ⟨dst,.box T x,ty,pos,after,guard⟩ s':=by
 have hle:Cx.le ⟨w,S,γ,β,s.ob,s.dead⟩ ⟨grown w [.cells (a.eval x).cells T] w.drawn,S,pG γ (s.base+d) w.heap.size,β,(s.setOb (s.base+d) (some g)).ob,s.dead⟩:=by
  refine⟨λb o f=>eH (h.Sb b o f),λ_ _ f=>f,λi b f=>fG k f,λi z y ⟨b,f⟩=>?_,λv q=>⟨q,λb e he=>⟨he,λn hn=>by rw[zT (h.βn v b e q he).2.1];exact hn⟩⟩⟩
  by_cases e:i=s.base+d
  ·simp_all
  ·have A:s.ob i=some z:=by rw[<-y];exact(n8 s _ e).symm
   simp_all
 obtain⟨h1,B⟩:=h.make (id:=s.base+d) k u0 (c:=(a.eval x).cells) (T:=T) (o:=g) w.drawn (zja _) (m hle)
 obtain⟨p1,C,H,D,E,F,I⟩:=ak5 (s.setOb (s.base+d) (some g)) dst (.ptr t (s.base+d) []);refine⟨_,hq,E,F,C,D,λid hid hh=>?_,.value (v:=.pointer (some ⟨w.heap.size,0,none⟩)) (w':=grown w [.cells (a.eval x).cells T] w.drawn) ?_ ⟨S,_,β,h1.put (gr (bO _ _ _) λo m=>?_) dst,?_,λid hid=>⟨cm _ _ ?_,rfl⟩⟩⟩
 ·rw[p1];refine n8 s _ λe=>?_;subst e;rcases hh with hh|hh
  ·simp_all
  ·omega
 ·simp_all [c6,execOp,Instr.box,newVar,newRow,zma]
 ·have j:(s.setOb (s.base+d) (some g)).ob (s.base+d)=some o:=m;rw[lT] at j;cases j;exact p
 ·exact⟨λ_ _ f=>f,λb o f=>eH (h.Sb b o f),λt ht=>ct (l t ht),λid hid b f=>⟨fG k f,.inl (dK (h.γn id b f).2)⟩,j2,λ_ _ f=>fG k f,me.same ca dM.grown⟩
 ·intro e;subst e;rcases hid with hid|hid
  ·simp_all
  ·omega
def QX(q:EnvOk P E)(h:Rp w0 S γ β s a w){dst T x ty pos after guard}(l:Fr E s γ β ⟨dst,.box T x,ty,pos,after,guard⟩)(g:∀ t∈s.lkS,dst≠some t){R:Type}{K:St->Option R}{r:R}(hT:∀ t,E.L T=some t->ak t=true)
  (hq:vr E s ⟨dst,.box T x,ty,pos,after,guard⟩ K=some r):∃ s',K s'=some r/\J6 P w0 S γ β s a w ⟨dst,.box T x,ty,pos,after,guard⟩ s':=by
 simp only[vr] at hq;cases hfn:E.fnT T with
 | true=>
  rw[hfn] at hq;simp only[cond_true] at hq;replace hq:=ab hq;obtain⟨d,f,hq⟩:=hq;split at hq<;>try(cases hq;done)
  rename_i b;obtain⟨e,k,p,_⟩:=l rfl d f;obtain⟨n,i⟩:=HG (c:=⟨w,S,γ,β,s.ob,s.dead⟩) b (aW h x);exact Tt h e f k g hq (λhle=>by simp only[gF];exact⟨λo j=>by have:=h.Sb _ _ j;omega,a.eval x,by rw[<-tu i];exact oJ,n.mono hle.cell hle.S hle.γ,i⟩) ⟨rfl,rfl⟩
 | false=>
 rw[hfn] at hq;simp only[cond_false] at hq;replace hq:=ab hq;obtain⟨t,ht,hq⟩:=hq;replace hq:=ab hq;obtain⟨d,f,hq⟩:=hq;split at hq<;>try(cases hq;done)
 rename_i b;obtain⟨e,k,p,_⟩:=l rfl d f;have hn:=hT t ht;obtain⟨m,n⟩:=B8 b hn (aW h x);obtain⟨i,_⟩:=ii _ _ _ b m;exact Tt h e f k g hq (λhle=>by simp only[gF];exact⟨hn,b,λo j=>by have:=h.Sb _ _ j;omega,(a.eval x).cells.toList,by rw[z8b];exact oJ,AC.mono hle _ _ m,i⟩) ⟨by cases t<;>rfl,by cases t<;>rfl⟩
def Gf{n:Nat}(h:n<=1073741824):IntKind.i64.wrap (n:Int)=(n:Int):=by exact IntWalk.i64_in _ u0
def yl(U:EnvOk P E)(h:Rp w0 S γ β s a w){dst T i y ty pos after guard}(W:Fr E s γ β ⟨dst,.makeSlice T (.tmp i) y,ty,pos,after,guard⟩)(F:∀ t∈s.lkS,dst≠some t){R:Type}{K:St->Option R}{r:R}
  (hq:vr E s ⟨dst,.makeSlice T (.tmp i) y,ty,pos,after,guard⟩ K=some r):∃ s',K s'=some r/\J6 P w0 S γ β s a w ⟨dst,.makeSlice T (.tmp i) y,ty,pos,after,guard⟩ s':=by
 simp only[vr] at hq;replace hq:=ab hq;obtain⟨t,ht,hq⟩:=hq;replace hq:=ab hq;obtain⟨d,B,hq⟩:=hq;split at hq<;>try(cases hq;done)
 rename_i e j;split at hq<;>try(cases hq;done)
 rename_i D;subst D;replace hq:=ab hq;obtain⟨p,hp,hq⟩:=hq;replace hq:=ab hq;obtain⟨n,G,hq⟩:=hq;split at hq<;>try(cases hq;done)
 rename_i g;obtain⟨V,J,hβ,_⟩:=W rfl d B;rcases U.lay T _ ht with⟨al,H⟩|hl
 ·cases H
 have hn:=aK _ _ hl;simp only[ak] at hn;obtain⟨u,h1,L⟩:=jv hl;obtain⟨i0,z0,m,X,np,C,q,_⟩:=fC (gC L);have l:a.eval (.tmp i)=.int .i64 n\/∃ k,a.eval (.tmp i)=.int k n:=by obtain⟨Z,O⟩:=ue G;have M:=aW h (.tmp i);rw[show s.opA (.tmp i)=s.tm i from rfl,eJ hp,O] at M;exact .inr ⟨Z,(eW M).1⟩
 obtain⟨k,l⟩:∃ k,a.eval (.tmp i)=.int k n:=by
  rcases l with l|l
  ·exact⟨_,l⟩
  ·exact l
 have I:z0.cells.size=e.size:=by have:=(cM (w:=w) (S:=S) q).1;rw[<-zEb,<-this];exact cL _ _ (cX e hn) hn
 let cells:Array Value:=(Array.range (n*e.size)).map λi=>z0.cells[i%z0.cells.size]!
 have Y:∀ w',cY w' S (N (List.replicate n (az e))) cells.toList:=λw'=>Al q I n;obtain⟨r1,ad⟩:=h.make (id:=s.base+d) J u0 (c:=cells) (T:=u) (o:=.many e (List.replicate n (az e))) w.drawn (zja _) (by simp only[gF];exact⟨hn,λx hx=>by rw[(zkd.1 hx).2];exact cX e hn,λo A=>by have:=h.Sb _ _ A;omega,cells.toList,[],by rw[zVb,z8b];exact oJ,Y _⟩)
 have z:(Instr.makeSlice T (.int k n) (.int k n)).run P w=.ok (.slice (some ⟨w.heap.size,0,none⟩) n n) (grown w [.cells cells u] w.drawn):=by
  have f:((i0.bytes:Int)*(n:Int))<=2^48:=by have Q:i0.bytes*n<=16384*1073741824:=zFa np.1 g;have:((i0.bytes*n:Nat):Int)<=((16384*1073741824:Nat):Int):=Int.ofNat_le.2 Q;rw[z1a] at this;omega
  have hw:=Gf g;have c1:¬ ((n:Int)<0):=u0
  have c2:¬ ((i0.bytes:Int)*(n:Int)>2^48):=u0
  simp only[Instr.makeSlice,zma,run_underlying h1,zga,asInt,asIntOf,pure_bind,typeInfo,run_program,m,zta,hw];rw[zfa c1,zfa c2,zfa (show ¬ ((n:Int)>n) from zfd _)];simp only[Bool.or_self,zHa,if_false,zma,run_askRoom,zga,cr L,z7c];by_cases h0:n*e.size=0
  ·have a0:((Array.range (n*e.size)).map λi=>(#[]:Array Value)[i%(#[]:Array Value).size]!)=cells:=by
    show _=((Array.range (n*e.size)).map λi=>z0.cells[i%z0.cells.size]!);rw[h0];simp
   rw[zla h0];simp only[pure_bind,a0,newRow,zma,run_newObj,zga,zta];rw[<-c6];rfl
  ·rw[zia h0];simp only[zeroValue,typeInfo,zma,run_program,m,C,zga,zta,bind_pure_comp,Sem.run_map,newRow,run_newObj];rw[<-c6];rfl
 obtain⟨p1,p2,p3,p4,p5,p6,p7⟩:=ak5 (s.setOb (s.base+d) (some (.many e (List.replicate n (az e))))) dst (.mem e (s.base+d));refine⟨_,hq,p5,p6,p2,p4,λid hid hh=>?_,.value (v:=.slice (some ⟨w.heap.size,0,none⟩) n n) (w':=grown w [.cells cells u] w.drawn) (by simp only[execOp,l,zma,z,zga,zta]) ⟨S,_,β,r1.put ?_ dst,?_,λid hid=>⟨cm _ _ ?_,rfl⟩⟩⟩
 ·rw[p1];refine n8 s _ λe=>?_;subst e;rcases hh with hh|hh
  ·exact hh (by rw[B,zxb])
  ·omega
 ·simp only[AR,AC,Value.cells];refine⟨j2,hn,w.heap.size,bO _ _ _,λo A=>?_⟩
  rw[lT] at A;cases A;exact⟨_,n,rfl,j2,j2⟩
 ·exact⟨λ_ _ f=>f,λb o f=>eH (h.Sb b o f),λt ht=>ct (F t ht),λid hid b f=>⟨fG J f,.inl (dK (h.γn id b f).2)⟩,j2,λ_ _ f=>fG J f,me.same ca dM.grown⟩
 ·intro e;subst e;rcases hid with hid|hid
  ·exact hid (by rw[B,zxb])
  ·omega
theorem zg(m:Nat):∀ (r c:Nat),c<=2*m+200->Builtin.growBy m r c<=2*m+200
 | 0,c,h=>by simpa [Builtin.growBy] using h
 | r+1,c,h=>by
  simp only[Builtin.growBy];split
  ·exact h
  ·exact zg m r _ u0
def Fl{a cap:Nat}(h:cap<a):Builtin.nextslicecap a cap<=2*a+200:=by
 unfold Builtin.nextslicecap;split
 ·omega
 ·split
  ·omega
  ·exact zg a 4 cap u0
def kg{w:World}{S:Nat->Nat->Prop}{e:Ty}{l:List D}{v:Value}(hn:ak e=true)(hl:∀ x∈l,wt e x)(h:CR w S (.sl l) v):∃ cs:List Value,cY w S (N l) cs/\(Builtin.firstCells e.size l.length v).run P w=.ok cs.toArray w:=by
 obtain⟨A,cap,b,off,c,a,g,cs,d,f⟩:=h.elems;refine⟨cs,d,?_⟩;have hlen:cs.length=l.length*e.size:=by rw[<-d.1];exact aN hn l hl
 subst c;cases A with
 | none=>
  rcases a with rfl|a
  ·have:cs=[]:=by
    simp at hlen;exact hlen
   subst this;rfl
  ·cases a
 | some A=>
  rcases a with rfl|a
  ·have:cs=[]:=by
    simp at hlen;exact hlen
   subst this;simp[Builtin.firstCells,loadCells,loadCellsFrom]
  ·cases a;simp only[Builtin.firstCells];rw[<-hlen];exact run_loadCells_list (P:=P) w ⟨b,off,none⟩ cs (λj v c=>by rw[dN];exact(f j v c).2)
def vT{c:Cx}{e:Ty}{v:Nat}(hn:ak e=true):AR c (.own e v []) (.slice none 0 0):=by simp only[AR,AC,Value.cells];exact⟨j2,hn,λx hx=>by simp at hx,none,0,rfl,.sl [] none 0 0 0 (λ_=>undef) (.inl rfl) (zja 0) (λi d a=>by simp[N] at a) (λi d a=>by simp[N] at a),λ_=>.inl ⟨rfl,rfl⟩⟩
def Rp.bury(h:Rp w0 S γ β s a w)(v:Nat):Rp w0 S γ β { s with dead:=v::s.dead } a w/\Cx.le ⟨w,S,γ,β,s.ob,s.dead⟩ ⟨w,S,γ,β,s.ob,v::s.dead⟩:=by
 have hle:Cx.le ⟨w,S,γ,β,s.ob,s.dead⟩ ⟨w,S,γ,β,s.ob,v::s.dead⟩:=
  ⟨λ_ _ _=>rfl,λ_ _ k=>k,λ_ _ k=>k,λid o c _=>⟨o,c,λp=>⟨rfl,rfl⟩,λt l e=>⟨l,e,rfl⟩,λ_ _ l e=>⟨l,e⟩⟩,λu hu=>⟨λhh=>hu (zsa _ hh),λb e he=>⟨he,λn hn=>hn⟩⟩⟩
 have nd:∀ {u},u ∉ v::s.dead->u ∉ s.dead:=λhu hh=>hu (zsa _ hh);exact⟨⟨h.ext,λt ht=>(h.tms t ht).mono hle,h.nt,h.tmu,λid o b c j=>(h.obs id o b c j).mono hle rfl λ_ k=>k,h.γn,h.γi,h.γf,λu b e hu=>h.βn u b e (nd hu),λu m b e g hu d=>h.βi u m b e g (nd hu) (nd d),λu id b e hu=>h.βγ u id b e (nd hu),h.βf,h.Sb,h.So⟩,hle⟩
end
section
variable{c:Cx}{f:Nat}{q:Ty}
section
variable{P:Program}{E:Env}{w0:Root}{S:Nat->Nat->Prop}{γ:Nat->Option Nat}{β:Nat->Option (Nat×Nat)}{s:St}{a:Act}{w:World}
def Rp.makeG(h:Rp w0 S γ β s a w){id:Nat}(hid:γ id=none)(hi:id<s.base+4096){x:Obj}{o:Ob}(d:Nat)(j:w.drawn<=d)
  (k:gF ⟨grown w [x] d,S,pG γ id w.heap.size,β,(s.setOb id (some o)).ob,s.dead⟩ w.heap.size o) :
  Rp w0 S (pG γ id w.heap.size) β (s.setOb id (some o)) a (grown w [x] d)/\Cx.le ⟨w,S,γ,β,s.ob,s.dead⟩ ⟨grown w [x] d,S,pG γ id w.heap.size,β,(s.setOb id (some o)).ob,s.dead⟩:=by
 obtain⟨h1,g⟩:=h.grow (os:=[x]) (d:=d) j (S':=S) (λ_ _ c=>c) (λ_ _ c=>.inl c);obtain⟨q,m⟩:=h1.setFree hid (some o);have l:¬ w0.Old w.heap.size:=λk=>by have:=k.1;have:=h.ext.sz;omega
 obtain⟨r,y⟩:=q.newOb (id:=id) (b:=w.heap.size) hid l j2 (λi hi=>by have:=(h.γn i _ hi).2;omega) (λu f hu t=>by have:=(h.βn u _ _ hu t).2.1;omega) hi (λx hx=>by rw[lT] at hx;cases hx;exact k)
 refine⟨r,⟨λb o c=>g.cell b o c,λ_ _ c=>c,λi b c=>fG hid c,λi x hx c=>?_,λv p=>⟨p,λb e he=>⟨he,λn hn=>by have:=g.β v p;exact(this.2 b e he).2 n hn⟩⟩⟩⟩
 obtain⟨b,c⟩:=c;exact m.ob i x hx ⟨b,c⟩
theorem CI(y:EnvOk P E)(h:Rp w0 S γ β s a w){dst T rsv ty pos after guard}(B:Fr E s γ β ⟨dst,.makeMap T rsv,ty,pos,after,guard⟩)(l:∀ t∈s.lkS,dst≠some t){R:Type}{K:St->Option R}{r:R}
  (hq:vr E s ⟨dst,.makeMap T rsv,ty,pos,after,guard⟩ K=some r):∃ s',K s'=some r/\J6 P w0 S γ β s a w ⟨dst,.makeMap T rsv,ty,pos,after,guard⟩ s':=by
 simp only[vr] at hq;cases rsv with
 | some x=>cases hq
 | none=>
 simp only at hq;replace hq:=ab hq;obtain⟨C,k,hq⟩:=hq;replace hq:=ab hq;obtain⟨d,z,hq⟩:=hq;obtain⟨q,vt⟩:=C;simp only at hq;obtain⟨A,p,J,_⟩:=B rfl d z;obtain⟨hc,KT,VT,hu,g,m,hh⟩:=y.mapL T _ _ k;have i:=aK _ _ g;have j:=aK _ _ m;obtain⟨h1,D⟩:=h.makeG (id:=s.base+d) p u0 (x:=.map #[] 0) (o:=.mp q vt []) w.drawn (zja _) (by
  simp only[gF];refine⟨i,j,λo u=>by have:=h.Sb _ _ u;omega,#[],?_,by simp[jR]⟩
  show(w.heap++#[Obj.map #[] 0])[w.heap.size]?=some (.map #[] 0);rw[Array.getElem?_append_right (zja _),zyd];rfl)
 obtain⟨p1,F,L,G,H,I,M⟩:=ak5 (s.setOb (s.base+d) (some (.mp q vt []))) dst (.map q vt (s.base+d));refine⟨_,hq,H,I,F,G,λid hid f=>?_,.value (v:=.map (some w.heap.size)) (w':=grown w [.map #[] 0] w.drawn) ?_ ⟨S,_,β,h1.put ?_ dst,?_,λid hid=>⟨cm _ _ ?_,rfl⟩⟩⟩
 ·rw[p1];refine n8 s _ λe=>?_;subst e;rcases f with f|f
  ·simp_all
  ·omega
 ·simp_all [grown,execOp,Instr.makeMap,Option.map_none,zma,zga]
 ·simp only[AR,AC,Value.cells];refine⟨j2,w.heap.size,rfl,bO _ _ _,i,j,λo u=>?_⟩
  grind [lT]
 ·exact⟨λ_ _ c=>c,λb o c=>eH (h.Sb b o c),λt ht=>ct (l t ht),λid hid b c=>⟨fG p c,.inl (dK (h.γn id b c).2)⟩,j2,λ_ _ c=>fG p c,me.same ca dM.grown⟩
 ·intro e;subst e;rcases hid with hid|hid
  ·simp_all
  ·omega
def vg(w:World)(b:Nat)(o:Obj):World:={ w with heap:=w.heap.setIfInBounds b o }
theorem jN{w:World}{b:Nat}{o:Obj}(h:f≠b):(vg w b o).heap[f]?=w.heap[f]?:=by grind [vg]
def lU{w:World}{b:Nat}{o:Obj}:(vg w b o).heap.size=w.heap.size:=by simp[vg]
def yN{w:World}{b o':Nat}{o:Obj}(h:f≠b):(vg w b o).cell? ⟨f,o',none⟩=w.cell? ⟨f,o',none⟩:=by simp only[World.cell?,jN h]
def Rp.writeM(h:Rp w0 S γ β s a w){id b:Nat}{vt:Ty}{l l':List D}{es':Array MapEntry}(E:s.ob id=some (.mp q vt l))(m:γ id=some b)(F:jR ⟨w,S,γ,β,s.ob,s.dead⟩ q vt 0 l' es'.toList) :
  Rp w0 S γ β (s.setOb id (some (.mp q vt l'))) a (vg w b (.map es' l'.length))/\(∀ c o,S c o->(vg w b (.map es' l'.length)).cell? ⟨c,o,none⟩=w.cell? ⟨c,o,none⟩):=by
 have hO:=h.obs id _ b E m;simp only[gF] at hO;obtain⟨A,B,C,es,G,_⟩:=hO;have r:∀ c o,S c o->c≠b:=λc o g e=>C o (e ▸ g);have H:=(h.γn id b m).2;have hle:Cx.le ⟨w,S,γ,β,s.ob,s.dead⟩ ⟨vg w b (.map es' l'.length),S,γ,β,(s.setOb id (some (.mp q vt l'))).ob,s.dead⟩:=by
  refine⟨λc o g=>yN (r c o g),λ_ _ g=>g,λ_ _ g=>g,λi x hx _=>?_,λv y=>⟨y,λc e he=>⟨he,λn hn=>?_⟩⟩⟩
  ·simp only[St.setOb] at hx;by_cases e:i=id
   ·subst e;simp only[if_true,zca] at hx;subst hx;exact⟨_,E,λp=>⟨rfl,rfl⟩,(λt l e=>by cases e),(λk v l e=>by cases e;exact⟨_,rfl⟩)⟩
   ·simp_all
  ·have j:c≠b:=λz=>h.βγ v id c e y he (z ▸ m);have u:=hn;simp only[rA,ck,jN j] at u ⊢;exact u
 refine⟨⟨pT h.ext rfl rfl rfl (by simp[lU]) (zja _) (λc d=>jN λe=>(h.γn id b m).1 (e ▸ d)),λt ht=>(h.tms t ht).mono hle,h.nt,h.tmu,λi x c hx d=>?_,λi c d=>by rw[lU];exact h.γn i c d,h.γi,h.γf,
  λv c e y he=>by rw[lU];exact h.βn v c e y he,h.βi,h.βγ,h.βf,λc o g=>by rw[lU];exact h.Sb c o g,h.So⟩,λc o g=>yN (r c o g)⟩
 simp only[St.setOb] at hx;by_cases e:i=id
 ·subst e;simp only[if_true,zca] at hx;subst hx;rw[m] at d;cases d;simp only[gF];refine⟨A,B,C,es',?_,F.mono hle⟩
  simp_all [vg]
 ·rw[zia e] at hx;have j:c≠b:=λz=>e (h.γi i id c d (z ▸ m));exact(h.obs i x c hx d).mono hle (jN j) λ_ hh=>hh
theorem jR.push{vt:Ty}{k v:D}{ek ev:Value}(hk:wt q k)(a:wt vt v)(b:fX c.w c.S k ek)(d:fX c.w c.S v ev):∀ {l:List D} {es:List MapEntry} {j:Nat},jR c q vt j l es->jR c q vt j (l++[.st [k,v]]) (es++[{ key:=ek,val:=ev,born:=j+l.length }])
 | [],[],j,_=>by simp only[z4b,jR,zzb,zTb];exact⟨⟨trivial,k,v,rfl,hk,a,b,d⟩,trivial⟩
 | [],_::_,_,h=>h.elim
 | _::_,[],_,h=>h.elim
 | x::l,e::es,j,h=>by simp only[zrb,jR] at h ⊢;refine⟨h.1,?_⟩;have:=jR.push hk a b d h.2;grind
theorem Dl{vt:Ty}{x y:D}:∀ {l:List D} {es:List MapEntry} {j i:Nat},jR c q vt j l es->Et l x es i=none->aks l x y=l++[.st [x,y]]
 | [],[],_,_,_,_=>rfl
 | [],_::_,_,_,h,_=>h.elim
 | _::_,[],_,_,h,_=>h.elim
 | z::l,e::es,j,i,h,a=>by
  simp only[jR] at h;obtain⟨⟨_,k,v,rfl,_⟩,b⟩:=h;simp only[Et] at a;simp only[aks];cases hb:D.beq x k
  ·rw[hb] at a;simp only[zHa,if_false] at a ⊢;rw[Dl b a];rfl
  ·simp_all
theorem Dm{vt:Ty}{x y:D}{ek ev:Value}(p:wt vt y)(s:fX c.w c.S y ev)(r:fX c.w c.S x ek):∀ {l:List D} {es:List MapEntry} {j i n:Nat} {v0:Value},jR c q vt j l es->Et l x es i=some (n,v0) ->
  ∃ m b,n=i+m/\es[m]?=some b/\(aks l x y).length=l.length/\jR c q vt j (aks l x y) (es.modify m λe=>{ e with key:=b.key,val:=ev })/\jR c q vt j (aks l x y) (es.modify m λe=>{ e with key:=ek,val:=ev })
 | [],[],_,_,_,_,_,a=>by simp[Et] at a
 | [],_::_,_,_,_,_,h,_=>h.elim
 | _::_,[],_,_,_,_,h,_=>h.elim
 | z::l,e::es,j,i,n,v0,h,a=>by
  simp only[jR] at h;obtain⟨⟨o,k,v,rfl,q1,B,C,E⟩,g⟩:=h;simp only[Et] at a;simp only[aks];cases hb:D.beq x k
  ·rw[hb] at a;simp only[zHa,if_false] at a ⊢;obtain⟨m,b,t,d,f,u,A⟩:=Dm (y:=y) p s r g a;refine⟨m+1,b,u0,by simpa using d,by simp[f],?_,?_⟩
   ·grind [List.modify_succ_cons,jR]
   ·grind [List.modify_succ_cons,jR]
  ·rw[hb] at a;simp only[if_true,zca,Prod.mk.injEq] at a;have:=KH _ _ hb;subst this;simp only[if_true];refine⟨0,e,u0,rfl,rfl,?_,?_⟩
   ·grind [List.modify_zero_cons,jR]
   ·grind [List.modify_zero_cons,jR]
def ID(old new:Value)(w:World):∃ k d,w.drawn<=d/\(Instr.keyThatStays old new).run P w=.ok k { w with drawn:=d }/\(k=old\/k=new):=by
 unfold Instr.keyThatStays;split
 ·exact⟨new,w.drawn,zja _,rfl,.inr rfl⟩
 ·simp only[zma,run_choose];split
  ·simp only[zga,zta];exact⟨_,w.drawn,zja _,rfl,by split<;>simp⟩
  ·simp only[zga,zta];exact⟨_,w.drawn+1,zHc _,rfl,by split<;>simp⟩
theorem ym(hE:EnvOk P E)(h:Rp w0 S γ β s a w){dst T x k v ty pos after guard}{R:Type}{K:St->Option R}{r:R}
  (hq:vr E s ⟨dst,.mapUpdate T x k v,ty,pos,after,guard⟩ K=some r):∃ s',K s'=some r/\J6 P w0 S γ β s a w ⟨dst,.mapUpdate T x k v,ty,pos,after,guard⟩ s':=by
 simp only[vr] at hq;cases dst with
 | some d=>simp at hq
 | none=>
 simp only[Option.isSome_none,zHa,if_false] at hq;replace hq:=ab hq;obtain⟨kv,ad,hq⟩:=hq;obtain⟨a5,a6⟩:=kv;have hx:=aW h x;generalize s.opA x=ax at *;cases ax<;>(try simp only at hq)<;>try(cases hq;done)
 rename_i kt vt id;split at hq<;>try(cases hq;done)
 rename_i c;simp only[X,zEa] at c;obtain⟨⟨a0,f⟩,a2⟩:=c;have L:=alb _ _ a0;have A:=alb _ _ f;subst L;subst A;have al:id ∉ s.lkO:=by simp_all
 split at hq<;>try(cases hq;done)
 rename_i t a1 l H;split at hq<;>try(cases hq;done)
 rename_i f;simp only[X] at f;have L:=alb _ _ f.1;have A:=alb _ _ f.2;subst L;subst A;replace hq:=ab hq;obtain⟨u,Z,hq⟩:=hq;replace hq:=ab hq;obtain⟨J,aO,hq⟩:=hq;obtain⟨hc,KT,VT,hu,q,an,hh⟩:=hE.mapL T _ _ ad;have G:=aK _ _ q;have aI:=aK _ _ an;obtain⟨O,I⟩:=pJ G (aW h k) Z;obtain⟨v1,v2⟩:=pJ aI (aW h v) aO;simp only[AR,AC] at hx;obtain⟨na,b,Y,N,_,_,_⟩:=hx;have hv:=ap na Y;have hO:=h.obs id _ b H N;simp only[gF] at hO;obtain⟨_,_,a3,es,g,M⟩:=hO;have i1:ic t (a.eval k).cells.toList (a.eval k):=⟨rfl,rn O G I.1⟩;have rc:=kI (S:=S) (w:=w) t KT u _ _ 10000 false q hc u0 O I.2 i1 w
 have Q:=wO (P:=P) q hc hh O I w M;have hex:(execOp a.eval ⟨none,.mapUpdate T x k v,ty,pos,after,guard⟩)=(Instr.mapUpdate T (a.eval x) (a.eval k) (a.eval v) >>= λ_=>pure .skip):=rfl;have F:=(h.γn id b N).2;have run:∃ es' d,w.drawn<=d/\jR ⟨w,S,γ,β,s.ob,s.dead⟩ t a1 0 (aks l u J) es'.toList/\(execOp a.eval ⟨none,.mapUpdate T x k v,ty,pos,after,guard⟩).run P w=.ok .skip (vg { w with drawn:=d } b (.map es' (aks l u J).length)):=by
  rw[hex,hv];cases hf:Et l u es.toList 0 with
  | none=>
   rw[hf] at Q;have hm:=Dl (y:=J) M hf;refine⟨es.push { key:=a.eval k,val:=a.eval v,born:=l.length },w.drawn,zja _,?_,?_⟩
   ·rw[hm,zqd];have:=jR.push O v1 I v2 M
    rwa [zbb] at this
   ·have hl:(aks l u J).length=l.length+1:=by rw[hm];simp
    rw[hl];simp only[Instr.mapUpdate,zma,run_underlying hu,zga,mw g,rc,Q];simp[setObj,Sem.run,g,vg]
  | some p=>
   obtain⟨n,v0⟩:=p;rw[hf] at Q;obtain⟨m,e0,L,A,e3,e4,e5⟩:=Dm (ek:=a.eval k) v1 v2 I M hf;have U:n=m:=u0
   subst U;have V:es[n]?=some e0:=by simpa using A
   obtain⟨kk,d,C,r1,r2⟩:=ID (P:=P) e0.key (a.eval k) w;refine⟨es.modify n λe=>{ e with key:=kk,val:=a.eval v },d,C,?_,?_⟩
   ·rw[Array.toList_modify];all_goals grind
   ·rw[e3];simp only[Instr.mapUpdate,zma,run_underlying hu,zga,mw g,rc,Q,V,zUb,zYb,r1];simp[setObj,Sem.run,g,vg]
 obtain⟨es',d,D,W,j⟩:=run;have hg:({ w with drawn:=d }:World)=grown w [] d:=by simp[grown]
 rw[hg] at j;obtain⟨g1,g2⟩:=h.grow (os:=[]) (d:=d) D (S':=S) (λ_ _ c=>c) (λ_ _ c=>.inl c);obtain⟨w1,w2⟩:=g1.writeM (l':=aks l u J) (es':=es') H N (W.mono g2);refine⟨_,hq,rfl,rfl,rfl,rfl,λi hi _=>?_,.skip j ⟨S,γ,β,w1,?_,λ_ _=>⟨rfl,rfl⟩⟩⟩
 ·refine n8 s _ λe=>?_
  simp_all
 ·refine⟨λ_ _ c=>c,λz o c=>(w2 z o c).trans (g2.cell z o c),λ_ _=>rfl,λi hi z B=>⟨B,.inl ?_⟩,by rw[lU];simp,λ_ _ c=>c,me.same rfl (akE b (λz c F=>(jN c).trans (dK F)) (IJ g))⟩
  have a4:z≠b:=λe=>by subst e;exact al ((h.γi id i _ N B) ▸ hi)
  grind [jN]
end
end
section
variable{l:List D}{c:Array Value}
def CR.at_{w:World}{S:Nat->Nat->Prop}{b off n cap:Nat}(h:CR w S (.sl l) (.slice (some ⟨b,off,none⟩) n cap)):tg w S b off (N l):=by
 obtain⟨A,d,j,f,e,a,k,g⟩:=h.elems;simp only[Value.slice.injEq] at e;rcases a with rfl|a
 ·exact⟨[],cY.nil,λi c hc=>by simp at hc⟩
 ·rw[<-e.1] at a;cases a;exact g
def rd{w:World}{b n:Nat}(h:rA w b=some n):∃ c,ck w b=some c/\c.size=n:=by simp_all [rA]
def tt{w:World}{b off o:Nat}{cs:Array Value}(h:ck w b=some c)(d:off+cs.size<=c.size)(a:o<off):(putAt w b off cs).cell? ⟨b,o,none⟩=w.cell? ⟨b,o,none⟩:=by simp_all [cell_of_row,iJ,mM]
def yi{w:World}{b off o:Nat}{cs:Array Value}(h:ck w b=some c)(a:off+cs.size<=c.size)(d:o<cs.size):(putAt w b off cs).cell? ⟨b,off+o,none⟩=cs[o]?:=by rw[cell_of_row _ (iJ h),mM _ _ _ _ a,zia u0,zla u0,zxb]
section
variable{P:Program}{E:Env}{w0:Root}{S:Nat->Nat->Prop}{γ:Nat->Option Nat}{β:Nat->Option (Nat×Nat)}{s:St}{a:Act}{w:World}
def MH(h:Rp w0 S γ β s a w){v v' b off:Nat}{e:Ty}{l':List D}{cap n:Nat}{g:List Value}(hn:ak e=true)(hl:∀ x∈l,wt e x)(hl':∀ x∈l',wt e x)(J:v ∉ s.dead)(K:β v=some (b,off+l.length*e.size))(X:rA w b=some n)(a1:off+cap*e.size<=n/\off=0)
  (z:l.length+l'.length<=cap) (hc:tg w S b off (N l)) (M:cY w S (N l') g) (V:β v'=none) (hi:v'<s.base+4096) :
  ∃ S' β',Rp w0 S' γ β' { s with dead:=v::s.dead } a (putAt w b (off+l.length*e.size) g.toArray) ∧
   AR ⟨putAt w b (off+l.length*e.size) g.toArray,S',γ,β',s.ob,v::s.dead⟩ (.own e v' (l++l')) (.slice (some ⟨b,off,none⟩) (l.length+l'.length) cap) ∧
   (∀ b o,S b o->S' b o)/\(∀ j o,S j o->(putAt w b (off+l.length*e.size) g.toArray).cell? ⟨j,o,none⟩=w.cell? ⟨j,o,none⟩)/\(∀ u,u≠v'->β' u=β u):=by
 obtain⟨c,r,U⟩:=rd X;have E:g.length=l'.length*e.size:=by rw[<-M.1];exact aN hn l' hl'
 generalize he0:off+l.length*e.size=q at *;obtain⟨SP,Qz,KM⟩:=h.βn v b q J K;have C:q+g.toArray.size<=c.size:=by simp only[zQc,E,U];have:(l.length+l'.length)*e.size<=cap*e.size:=zJa _ z;rw[ztb] at this;omega
 let S':Nat->Nat->Prop:=λj o=>S j o\/(j=b/\q<=o/\o<q+g.length)
 have m:∀ j o,S j o->(putAt w b q g.toArray).cell? ⟨j,o,none⟩=w.cell? ⟨j,o,none⟩:=λj o L=>by
  by_cases e:j=b
  ·subst e;exact tt r C (Nat.lt_of_not_le λhh=>KM o hh L)
  ·exact cw e
 have nd:∀ {u},u ∉ v::s.dead->u ∉ s.dead/\u≠v:=λhu=>⟨λhh=>hu (zsa _ hh),λhh=>hu (hh ▸ zBa)⟩;have hle:Cx.le ⟨w,S,γ,β,s.ob,s.dead⟩ ⟨putAt w b q g.toArray,S',γ,pG β v' (b,q+g.length),s.ob,v::s.dead⟩:=
  ⟨m,λ_ _ L=>.inl L,λ_ _ k=>k,λid o I _=>⟨o,I,λp=>⟨rfl,rfl⟩,λt l e=>⟨l,e,rfl⟩,λ_ _ l e=>⟨l,e⟩⟩,λu hu=>⟨(nd hu).1,λj e he=>⟨fG V he,λn hn=>by rw[lN r C];exact hn⟩⟩⟩
 have T:Rp w0 S' γ (pG β v' (b,q+g.length)) { s with dead:=v::s.dead } a (putAt w b q g.toArray):=by
  refine⟨pT h.ext rfl rfl rfl j2 (zja _) (λj d=>cU (λe=>SP (e ▸ d))),λt ht=>(h.tms t ht).mono hle,h.nt,h.tmu,λid o j I d=>?_,λid j d=>by simpa using h.γn id j d,h.γi,h.γf,λu j e hu he=>?_,λu R j e Y hu a0 he y=>?_,λu id j e hu he=>?_,λu hu=>?_,λj o d=>?_,λj o d B=>?_⟩
  ·have O:j≠b:=λe=>h.βγ v id b q J K (e ▸ d);refine(h.obs id o j I d).mono hle (cU O) λo hh=>?_;rcases hh with hh|hh
   ·exact hh
   ·exact zgb hh.1 O
  ·obtain⟨A,H⟩:=nd hu;by_cases e1:u=v'
   ·subst e1;rw[bO] at he;cases he;refine⟨SP,by simpa using Qz,λo I hh=>?_⟩
    rcases hh with hh|hh
    ·exact KM o u0 hh
    ·omega
   ·rw[cm β _ e1] at he;obtain⟨Q,W,Z⟩:=h.βn u j e A he;refine⟨Q,by simpa using W,λo I hh=>?_⟩
    rcases hh with hh|hh
    ·exact Z o I hh
    ·obtain⟨hh,_⟩:=hh;subst hh;exact H (h.βi u v j _ _ A J he K)
  ·obtain⟨A,H⟩:=nd hu;obtain⟨F,P⟩:=nd a0;by_cases e1:u=v'
   ·by_cases e2:R=v'
    ·rw[e1,e2]
    ·subst e1;rw[bO] at he;cases he;rw[cm β _ e2] at y;exact zgb (h.βi R v b _ _ F J y K) P
   ·by_cases e2:R=v'
    ·subst e2;rw[bO] at y;cases y;rw[cm β _ e1] at he;exact zgb (h.βi u v b _ _ A J he K) H
    ·rw[cm β _ e1] at he;rw[cm β _ e2] at y;exact h.βi u R j e Y A F he y
  ·by_cases e1:u=v'
   ·subst e1;rw[bO] at he;cases he;exact h.βγ v id b q J K
   ·rw[cm β _ e1] at he;exact h.βγ u id j e (nd hu).1 he
  ·have a0:s.base+4096<=u:=hu;rw[cm β _ u0]
   exact h.βf u a0
  ·rcases d with d|d
   ·simpa using h.Sb j o d
   ·simpa [d.1] using Qz
  ·rcases d with d|d
   ·exact h.So j o d B
   ·exact zgb (d.1 ▸ B) SP
 refine⟨S',_,T,?_,λ_ _ L=>.inl L,m,λu hu=>cm β _ hu⟩;simp only[AR,AC,Value.cells];refine⟨j2,hn,λx hx=>(zKa.1 hx).elim (hl x) (hl' x),some ⟨b,off,none⟩,cap,by rw[zAa],?_,λ_=>.inr ⟨b,off,rfl,?_,n,by show rA (putAt w b q g.toArray) b=some n;rw[lN r C];exact X,a1⟩⟩
 ·obtain⟨cs,Q,W⟩:=hc;refine akg (.inr rfl) (by rw[zAa];exact z) ⟨cs++g,?_,λi x hx=>?_⟩
  ·rw[cz];exact(Q.append M).mono m λ_ _ hh=>.inl hh
  ·have len:cs.length=l.length*e.size:=by rw[<-Q.1];exact aN hn l hl
   rw[zCd] at hx;by_cases hi2:i<cs.length
   ·rw[zla hi2] at hx;obtain⟨m1,G⟩:=W i x hx;exact⟨.inl m1,(m _ _ m1).trans G⟩
   ·rw[zia hi2] at hx;have B:=(zra.1 hx).1;refine⟨.inr ⟨rfl,u0,u0⟩,?_⟩
    rw[show off+i=q+(i-cs.length) by omega,yi r C (by simpa using B)]
    simpa using hx
 ·show pG β v' (b,q+g.length) v'=_;rw[bO,zAa,E,ztb];congr 2;omega
def xy{T T' u':TypeId}{e:Ty}(W:cg P (.sl e) T=true)(o:P.underlying T'=some (.slice u')){A:Option Addr}{len cap:Nat}{l l':List D}{C:Value}(ty:TypeId)(hlen:len=l.length)(hl:∀ x∈l,wt e x)(hl':∀ x∈l',wt e x)
  (hx:CR w S (.sl l) (.slice A len cap)) (E:CR w S (.sl l') C) (hb:l.length+l'.length<=1073741824) :
  ∃ cs i:List Value,cY w S (N l) cs/\cY w S (N l') i/\∃ u,
   (l.length+l'.length<=cap->(A=none->(Builtin.append_ #[T,T'] ty #[.slice A len cap,C]).run P w=.ok (.slice none (l.length+l'.length) cap) w) ∧
    (∀ b off c,A=some ⟨b,off,none⟩->ck w b=some c->off+cap*e.size<=c.size->(Builtin.append_ #[T,T'] ty #[.slice A len cap,C]).run P w=.ok (.slice A (l.length+l'.length) cap) (putAt w b (off+l.length*e.size) i.toArray))) ∧
   (cap<l.length+l'.length->∃ a rest,l.length+l'.length<=a/\(cs++i).length+rest.length=a*e.size ∧
    (Builtin.append_ #[T,T'] ty #[.slice A len cap,C]).run P w=.ok (.slice (some ⟨w.heap.size,0,none⟩) (l.length+l'.length) a) (grown w [.cells ((cs++i)++rest).toArray u] (w.drawn+1))):=by
 subst hlen;obtain⟨u,U,B⟩:=jv W;have hn:=aK _ _ B;obtain⟨i0,z0,J,Y,np,K,L,_⟩:=fC (gC B);have O:=CR.mono (w:=w) (w':={ w with drawn:=w.drawn+1 }) (S:=S) (S':=S) (λ_ _ _=>rfl) (λ_ _ h=>h) hx;have Q:=CR.mono (w:=w) (w':={ w with drawn:=w.drawn+1 }) (S:=S) (S':=S) (λ_ _ _=>rfl) (λ_ _ h=>h) E;obtain⟨cs,c1,c2⟩:=kg (P:=P) hn hl O;obtain⟨i,d1,d2⟩:=kg (P:=P) hn hl' E;obtain⟨d,d3,d4⟩:=kg (P:=P) hn hl' Q;have len:cs.length=l.length*e.size:=by rw[<-c1.1];exact aN hn l hl
 have k:i.length=l'.length*e.size:=by rw[<-d1.1];exact aN hn l' hl'
 have m:d.length=l'.length*e.size:=by rw[<-d3.1];exact aN hn l' hl'
 have I:d=i:=by
  obtain⟨A',r,b,off,p,q1,q2,q3⟩:=E.elems;subst p;have n:=d2;have q:=d4;cases A' with
  | none=> simp only[Builtin.firstCells,zta,Result.ok.injEq] at n q;have:=n.1.symm.trans q.1;simpa using this.symm
  | some A'=>
   rcases q1 with rfl|q1
   ·simp at k m;rw[k,m]
   ·cases q1;obtain⟨F,r1,V⟩:=q3;have M:F.length=l'.length*e.size:=by rw[<-r1.1];exact aN hn l' hl'
    have f1:=run_loadCells_list (P:=P) w ⟨b,off,none⟩ F (λj v p=>by rw[dN];exact(V j v p).2)
    have f2:=run_loadCells_list (P:=P) { w with drawn:=w.drawn+1 } ⟨b,off,none⟩ F (λj v p=>by rw[dN];exact(V j v p).2)
    simp only[Builtin.firstCells] at n q;rw[M] at f1 f2;rw[f1] at n;rw[f2] at q;simp only[Result.ok.injEq] at n q;have:=n.1.symm.trans q.1;simpa using this.symm
 subst I;have f:(Builtin.lenOf C).run P w=.ok l'.length w:=by obtain⟨A',r,b,off,p,_⟩:=E.elems;subst p;rfl
 refine⟨cs,d,cY.mono (w:={ w with drawn:=w.drawn+1 }) (w':=w) (S:=S) (S':=S) (λ_ _ _=>rfl) (λ_ _ h=>h) c1,d1,u,λg=>⟨λG=>?_,λb off c G y Z=>?_⟩,λg=>?_⟩
 ·subst G;simp only[Builtin.append_,ztc,zAb,znb,zma,run_underlying U,run_underlying o,zga,cr B,zta,zHa,if_false,f,g,if_true,zXb,d2]
 ·subst G;have z:=cW (P:=P) b (off+l.length*e.size) d 0 w c y (by
   have:(l.length+l'.length)*e.size<=cap*e.size:=zJa _ g;rw[ztb] at this;omega) (by rw[zya];intro x hx;have:=d1.nag x hx;cases x<;>simp_all [Value.oneCell',mX])
  simp only[zTb] at z;simp only[Builtin.append_,ztc,zAb,znb,zma,run_underlying U,run_underlying o,zga,cr B,zta,zHa,if_false,f,g,if_true,zXb,d2,dN,z]
 ·have a1:¬ (l.length+l'.length<=cap):=u0
  have a0:¬ (Builtin.nextslicecap (l.length+l'.length) cap*i0.bytes>2^48):=by
   have h1:=Fl g;have h2:=zFa u0 np.1
   omega
  have s:¬ (((l.length+l'.length:Nat):Int)>IntKind.i64.max):=by
   have:IntKind.i64.max=9223372036854775807:=H
   omega
  let t:=w.tape w.drawn (.appendCap (l.length+l'.length) cap u)
  let a:=l.length+l'.length+t%(2^63-(l.length+l'.length))
  have R:z0.cells.size=e.size:=by have:=(cM (w:=w) (S:=S) L).1;rw[<-zEb,<-this];exact cL _ _ (cX e hn) hn
  refine⟨a,(Builtin.zeroCells z0.cells (a-(l.length+l'.length))).toList,u0,?_,?_⟩
  ·have:(Builtin.zeroCells z0.cells (a-(l.length+l'.length))).toList.length=(a-(l.length+l'.length))*e.size:=by simp[Builtin.zeroCells,R]
   rw[this,zAa,len,k,<-ztb,<-ztb];congr 1;omega
  ·have X:Question.forced (.appendCap (l.length+l'.length) cap u)=false:=rfl;simp only[Builtin.append_,ztc,zAb,znb,zma,run_underlying U,run_underlying o,zga,cr B,zta,zHa,if_false,f,a1,zXb,if_true,typeInfo,run_program,J,false_or,s,false_and,a0,run_choose,X,run_askRoom,c2,d4,zeroValue,K,newRow,run_newObj];have n:(cs++d++(Builtin.zeroCells z0.cells (a-(l.length+l'.length))).toList).toArray=cs.toArray++d.toArray++Builtin.zeroCells z0.cells (a-(l.length+l'.length)):=j2
   rw[n];simp only[grown];rw[Array.push_eq_append];rfl
def ER(hE:EnvOk P E)(h:Rp w0 S γ β s a w){dst args argTypes ty pos after guard}(hf:Fr E s γ β ⟨dst,.call ⟨.builtin .append,args,argTypes⟩,ty,pos,after,guard⟩)(k:∀ t∈s.lkS,dst≠some t){R:Type}{K:St->Option R}{r:R}
  (hq:vr E s ⟨dst,.call ⟨.builtin .append,args,argTypes⟩,ty,pos,after,guard⟩ K=some r):∃ s',K s'=some r/\J6 P w0 S γ β s a w ⟨dst,.call ⟨.builtin .append,args,argTypes⟩,ty,pos,after,guard⟩ s':=by
 simp only[vr] at hq;replace hq:=ab hq;obtain⟨T,hT,hq⟩:=hq;replace hq:=ab hq;obtain⟨t,ht,hq⟩:=hq;replace hq:=ab hq;obtain⟨d,L,hq⟩:=hq;split at hq<;>try(cases hq;done)
 rename_i e x y T0 T' D p;split at hq<;>try(cases hq;done)
 rename_i e2 ad;replace hq:=ab hq;obtain⟨l',hl',hq⟩:=hq;obtain⟨ax,hγ,hβ,_⟩:=hf rfl d L;rcases hE.lay T _ ht with⟨al,G⟩|hl
 ·cases G
 rcases hE.lay T' _ ad with⟨al,G⟩|M
 ·cases G
 obtain⟨u2,Q,_⟩:=jv M;have hn:=aK _ _ hl;simp only[ak] at hn;have Y:T0=T:=by
  have:argTypes=#[T0,T']:=zic (by simpa using p)
  simp_all
 subst Y;have eT:argTypes=#[T0,T']:=zic (by simpa using p)
 have eA:args.map a.eval=#[a.eval x,a.eval y]:=zic (by simp[D])
 have hex:execOp a.eval ⟨dst,.call ⟨.builtin .append,args,argTypes⟩,ty,pos,after,guard⟩=(Builtin.append_ #[T0,T'] ty #[a.eval x,a.eval y] >>= λv=>pure (.value v)):=by rw[<-eA,<-eT];rfl
 obtain⟨a0,y2⟩:=ln hn (aW h y) hl';have hx:=aW h x;have own:∀ id:Nat,(dst≠some (id-s.base)\/id<s.base)->id≠s.base+d:=λid hid e=>by
  subst e;rcases hid with hid|hid
  ·simp_all
  ·omega
 split at hq<;>try(cases hq;done)
 ·
  rename_i e' v l F;rw[F] at hx;split at hq<;>try(cases hq;done)
  rename_i f;split at hq<;>try(cases hq;done)
  rename_i hlen;simp only[X,zEa] at f;have:=alb _ _ f.1;subst this;have H:v ∉ s.dead:=λhh=>by simp_all
  simp only[AR,AC] at hx;obtain⟨x0,x1,x2,A,cap,B,x4,x5⟩:=hx;have B:=ap x0 B;obtain⟨cs,C,c1,c2,u,r1,r2⟩:=xy (P:=P) (w:=w) (S:=S) hl Q ty rfl x2 a0 x4 y2 hlen;obtain⟨p1,p2,p3,p4,p5,p6,p7⟩:=ak5 { s with dead:=v::s.dead } dst (.own e' (s.base+d) (l++l'));refine⟨_,hq,p5,p6,p2,p4,λid _ _=>by rw[p1],?_⟩
  rcases zua cap (l.length+l'.length) with g|g
  ·obtain⟨j,rest,n1,n2,n3⟩:=r2 g;obtain⟨b1,b2⟩:=h.bury v;obtain⟨S',β',U,q,V,W,k5,k6⟩:=vF b1 (v:=s.base+d) hβ (by show s.base+d<s.base+4096;omega) hn (l:=l++l') (λz hz=>(zKa.1 hz).elim (x2 z) (a0 z)) (cs:=cs++C) (by rw[cz];exact c1.append c2) (T:=u) (rest:=rest) (cap:=j) (w.drawn+1) (zHc _) (by rw[zAa];exact n1) n2
   rw[zAa] at q;refine .value (by rw[hex,B];simp only[zma,n3,zga,zta]) ⟨S',γ,β',U.put q dst,⟨V,λb o f=>eH (h.Sb b o f),λt ht=>ct (k t ht),λid hid b f=>⟨f,.inl (dK (h.γn id b f).2)⟩,j2,λ_ _ f=>f,me.same ca dM.grown⟩,λid hid=>⟨rfl,W id (own id hid)⟩⟩
  ·obtain⟨r3,r4⟩:=r1 g;rcases x5 H with⟨rfl,rfl⟩|⟨b,off,rfl,J,n,a1,Z⟩
   ·have z1:l=[]:=by apply zcd;omega
    have z2:l'=[]:=by simp_all
    obtain⟨b1,b2⟩:=h.bury v;subst z1;subst z2;refine .value (by rw[hex,B];simp only[zma,r3 rfl,zga,zta];rfl) ⟨S,γ,β,b1.put (vT hn) dst,⟨λ_ _ f=>f,λ_ _ _=>rfl,λt ht=>ct (k t ht),λid hid b f=>⟨f,kw.refl _ _⟩,zja _,λ_ _ f=>f,me.same ca (dM.refl _)⟩,λid hid=>⟨rfl,rfl⟩⟩
   ·obtain⟨c,m,an⟩:=rd a1;obtain⟨S',β',U,q,V,W,k5⟩:=MH h (v':=s.base+d) hn x2 a0 H J a1 Z g x4.at_ c2 hβ u0
    refine .value (by rw[hex,B];simp only[zma,r4 b off c rfl m u0,zga,zta]) ⟨S',γ,β',U.put q dst,⟨V,W,λt ht=>ct (k t ht),λid hid b' I=>⟨I,.inl (cU λe=>h.βγ v id b _ H J (e ▸ I))⟩,j2,λ_ _ f=>f,me.same ca (dM.putAt m)⟩,λid hid=>⟨rfl,k5 id (own id hid)⟩⟩
 ·
  rename_i F;rw[F] at hx;split at hq<;>try(cases hq;done)
  rename_i hlen;simp only[AR,AC] at hx;have B:=ap hx.1 hx.2;have O:CR w S (.sl []) (.slice none 0 0):=.sl [] none 0 0 0 (λ_=>undef) (.inl rfl) (zja 0) (λi d L=>by simp[N] at L) (λi d L=>by simp[N] at L)
  obtain⟨cs,C,c1,c2,u,r1,r2⟩:=xy (P:=P) (w:=w) (S:=S) hl Q (len:=0) ty (l:=[]) rfl (λx hx=>by simp at hx) a0 O y2 (by simpa using hlen)
  obtain⟨p1,p2,p3,p4,p5,p6,p7⟩:=ak5 s dst (.own e (s.base+d) l');refine⟨_,hq,p5,p6,p2,p4,λid _ _=>by rw[p1],?_⟩
  rcases zua 0 l'.length with g|g
  ·obtain⟨j,rest,n1,n2,n3⟩:=r2 (by simpa using g)
   obtain⟨S',β',U,q,V,W,k5,k6⟩:=vF h (v:=s.base+d) hβ u0 hn (l:=[]++l') (λz hz=>a0 z (by simpa using hz)) (cs:=cs++C) (by rw[cz];exact c1.append c2) (T:=u) (rest:=rest) (cap:=j) (w.drawn+1) (zHc _) (by rw[zAa];exact n1) n2
   rw[zAa] at q;rw[z4b] at q;refine .value (by rw[hex,B];simp only[zma,n3,zga,zta]) ⟨S',γ,β',U.put q dst,⟨V,λb o f=>eH (h.Sb b o f),λt ht=>ct (k t ht),λid hid b f=>⟨f,.inl (dK (h.γn id b f).2)⟩,j2,λ_ _ f=>f,me.same ca dM.grown⟩,λid hid=>⟨rfl,W id (own id hid)⟩⟩
  ·have z2:l'=[]:=by apply zcd;omega
   subst z2;obtain⟨r3,_⟩:=r1 j2
   refine .value (by rw[hex,B];simp only[zma,r3 rfl,zga,zta];rfl) ⟨S,γ,β,h.put (vT hn) dst,⟨λ_ _ f=>f,λ_ _ _=>rfl,λt ht=>ct (k t ht),λid hid b f=>⟨f,kw.refl _ _⟩,zja _,λ_ _ f=>f,me.same ca (dM.refl _)⟩,λid hid=>⟨rfl,rfl⟩⟩
def B0{k:IntKind}(h:∀ x∈l,wt (.int k) x):N l=l:=by
 induction l with
 | nil=>rfl
 | cons x l ih=>
  obtain⟨n,rfl⟩:∃ n,x=.int k n:=by have:=h x zBa;simpa only[wt] using this
  rw[N,ih λy a=>h y (zsa _ a)];rfl
def D9{x:D}(h:x.stl=some l):x=.st l:=by cases x<;>simp[D.stl] at h;rw[h]
def LD(hE:EnvOk P E)(h:Rp w0 S γ β s a w){dst args argTypes ty pos after guard}(a4:∀ t∈s.lkS,dst≠some t){R:Type}{K:St->Option R}{r:R}
  (hq:vr E s ⟨dst,.call ⟨.builtin .copy,args,argTypes⟩,ty,pos,after,guard⟩ K=some r):∃ s',K s'=some r/\J6 P w0 S γ β s a w ⟨dst,.call ⟨.builtin .copy,args,argTypes⟩,ty,pos,after,guard⟩ s':=by
 simp only[vr] at hq;split at hq<;>try(cases hq;done)
 rename_i x y T0 T' Q aI;split at hq<;>try(cases hq;done)
 rename_i k ht;split at hq<;>try(cases hq;done)
 rename_i e id lo n e' bh p' q n' a7 a8;split at hq<;>try(cases hq;done)
 rename_i m f g x1 o' W N;have hx:=aW h x;have hy:=aW h y;rw[a7] at hx;rw[a8] at hy;simp only[AR,AC,if_true] at hx hy;obtain⟨x0,_,b,off,cap,x3,x4,x5⟩:=hx;obtain⟨y0,_,F,bp,bl,y3,y4,y5⟩:=hy;have x3:=ap x0 x3;have y3:=ap y0 y3;obtain⟨bj,w1,w2,rfl⟩:=y5 _ N;have a1:=h.obs bh _ F N y4;replace hq:=lK a1 w1 hq;obtain⟨a2,C,hq,p5,pf,_,pc⟩:=hq;split at hq<;>try(cases hq;done)
 rename_i m' f' y1;cases pU pf;split at hq<;>try(cases hq;done)
 rename_i G;simp only[X,zEa] at G;obtain⟨⟨⟨⟨b1,b2⟩,b3⟩,b5⟩,b7⟩:=G;have:=alb _ _ b1;subst this;have:=alb _ _ b2;subst this;have:=alb _ _ b3;subst this;have:=alb _ _ b5;subst this;replace hq:=ab hq;obtain⟨l,hl,hq⟩:=hq;replace hq:=ab hq;obtain⟨l',hl',hq⟩:=hq;have:=D9 hl;subst this;have:=D9 hl';subst this;have a5:id ∉ s.lkO:=by simp_all
 obtain⟨mm,z1,z2,rfl⟩:=x5 _ W;simp only[fo,aV,zca,Ty.arr.injEq,and_true] at z1;subst z1;have hO:=h.obs id _ b W x4;simp only[gF] at hO;obtain⟨o1,o2,o3,cs,o4,o5,o6⟩:=hO;simp only[AC] at o5 p5;obtain⟨q1,q2,q3⟩:=o5;obtain⟨r1,r2,a0⟩:=p5;simp only[wt] at q1 r1;obtain⟨_,⟨rfl⟩,q4,q5⟩:=q1;obtain⟨_,⟨rfl⟩,r4,r5⟩:=r1;simp only[D.flat] at q3 a0;rw[B0 q5] at q3;rw[B0 r5] at a0;obtain⟨c,hc⟩:∃ c,c=min n' n:=⟨_,rfl⟩;rw[<-hc] at hq;have bs:cs.length=m:=by rw[<-q3.1,q4]
 have bm:C.length=bj:=by rw[<-a0.1,r4]
 have eo:cD (.one (.arr m (.int k)) (.d (.arr m (.int k)) (.st l))) []+lo*(Ty.int k).size=lo:=by simp[cD,bi,Ty.size]
 obtain⟨O,a3⟩:∃ O,O=cD o' p':=⟨_,rfl⟩;rw[<-a3] at pc y3;have aO:O+q*(Ty.int k).size=O+q:=by simp[Ty.size]
 rw[eo] at x3;rw[aO] at y3;have V:(loadCells ⟨F,O+q,none⟩ c).run P w=.ok ((C.drop q).take c).toArray w:=by
  have:=run_loadCells_list (P:=P) w ⟨F,O+q,none⟩ ((C.drop q).take c) (λj v hv=>by
   have hj:j<c:=by have:=(zra.1 hv).1;simp at this;omega
   rw[zNb hj,zDb] at hv;rw[dN,show O+q+j=O+(q+j) by omega]
   exact pc _ _ hv)
  rwa [show((C.drop q).take c).length=c by simp;omega] at this
 have ba:lo+((C.drop q).take c).toArray.size<=cs.toArray.size:=by simp;omega
 have an:((C.drop q).take c).all mX=true:=by
  rw[zya];intro v hv;obtain⟨j,hj,rfl⟩:=z3a (z7b (zSa hv));have ad:j<l'.length:=by rw[a0.1];exact hj
  have T:=a0.2 j l'[j] C[j] (zda ad) (zda hj);obtain⟨nn,hn⟩:∃ nn,l'[j]=.int k nn:=by have:=r5 l'[j] (zGa ad);simpa only[wt] using this
  rw[hn] at T;generalize C[j]=v at T;cases T;rfl
 have ax:=cW (P:=P) b lo ((C.drop q).take c) 0 w cs.toArray o4 (by simp;omega) an
 obtain⟨u,hu,a6⟩:=jv (jG hE ht (by rfl))
 have a9:=cr a6 w;have eT:argTypes=#[T0,T']:=zic (by simpa using aI)
 have eA:args.map a.eval=#[a.eval x,a.eval y]:=zic (by simp[Q])
 have hex:execOp a.eval ⟨dst,.call ⟨.builtin .copy,args,argTypes⟩,ty,pos,after,guard⟩=(Builtin.copy_ #[T0,T'] ty #[a.eval x,a.eval y] >>= λv=>pure (.value v)):=by rw[<-eA,<-eT];rfl
 have al:cY w S (l.take lo++((l'.drop q).take c++l.drop (lo+c))) (cs.take lo++((C.drop q).take c++cs.drop (lo+c))):=by
  have part:∀ {A:List D} {B:List Value} (i:Nat),cY w S A B->cY w S (A.take i) (B.take i)/\cY w S (A.drop i) (B.drop i):=λ{A B} i I=>by
   have e:=(zza i A).symm;have M:=I;rw[e] at M;obtain⟨k1,k2⟩:=M.split;rw[zjb,<-e] at *;rcases Nat.le_total i A.length with hi|hi
   ·rw[zsb hi] at k1 k2;exact⟨k1,k2⟩
   ·rw[zub hi,zub (by rw[<-I.1];exact hi),zqc hi,zqc (by rw[<-I.1];exact hi)]
    exact⟨I,cY.nil⟩
  exact(part lo q3).1.append ((part c (part q a0).2).1.append (part (lo+c) q3).2)
 have H:wt (.arr m (.int k)) (.st (l.take lo++((l'.drop q).take c++l.drop (lo+c)))):=by
  simp only[wt];refine⟨_,rfl,by simp;omega,λz L=>?_⟩
  rcases zKa.1 L with L|L
  ·exact q5 z (zSa L)
  rcases zKa.1 L with L|L
  ·exact r5 z (z7b (zSa L))
  ·exact q5 z (z7b L)
 have U:(D.st (l.take lo++((l'.drop q).take c++l.drop (lo+c)))).flat=l.take lo++((l'.drop q).take c++l.drop (lo+c)):=by simp only[D.flat];simp only[wt] at H;obtain⟨_,⟨rfl⟩,_,t3⟩:=H;exact B0 t3
 have Z:∀ F o,S F o->F≠b:=λF o G e=>o3 o (e ▸ G);have J:fh cs.toArray lo ((C.drop q).take c).toArray=(cs.take lo++((C.drop q).take c++cs.drop (lo+c))).toArray:=by
  have e:cs=cs.take lo++((cs.drop lo).take c++(cs.drop lo).drop c):=by rw[zza,zza]
  have e2:(cs.take lo).length=lo:=by rw[zjb];omega
  conv=>lhs;rw[e]
  rw[zFd];have:=jo (cs.take lo) ((cs.drop lo).take c) (cs.drop (lo+c)) ((C.drop q).take c) (by simp;omega)
  rw[e2] at this;exact this
 obtain⟨n1,n2⟩:=h.write (o':=.one (.arr m (.int k)) (.d (.arr m (.int k)) (.st (l.take lo++((l'.drop q).take c++l.drop (lo+c)))))) W x4 o3 o4 ba (λp=>⟨rfl,rfl⟩) (λt l e=>by cases e) (λ_ _ _ e=>by cases e) (by
  simp only[gF];refine⟨o1,o2,o3,cs.take lo++((C.drop q).take c++cs.drop (lo+c)),by rw[iJ o4,J],?_,by simp[Ty.size] at *;omega⟩
  simp only[AC];refine⟨H,q2,?_⟩;rw[U];exact al.mono (λF o G=>cw (Z F o G)) λ_ _ hh=>hh)
 obtain⟨f1,f2,f3,f4,f5,f6,f7⟩:=ak5 (s.setOb id (some (.one (.arr m (.int k)) (.d (.arr m (.int k)) (.st (l.take lo++((l'.drop q).take c++l.drop (lo+c)))))))) dst (.d (.int .i64) (.int .i64 (c:Nat)));refine⟨_,hq,f5,f6,f2,f4,λi hi _=>?_,.value (v:=.int .i64 (c:Nat)) (w':=putAt w b lo ((C.drop q).take c).toArray) ?_ ⟨S,γ,β,n1.put (cP _ _) dst,?_,λ_ _=>⟨rfl,rfl⟩⟩⟩
 ·rw[f1];simp only[St.setOb];rw[zia];intro e;subst e;rw[x4] at hi;cases hi
 ·rw[hex,x3,y3];simp only[zTb] at ax;have e1:=hc.symm;simp[Builtin.copy_,run_underlying hu,Builtin.lenOf,Builtin.firstCells,zma,a9,e1,Ty.size,V,ax,goInt]
 ·exact⟨λ_ _ G=>G,λF o G=>cw (Z F o G),λt ht=>ct (a4 t ht),λi hi F Y=>⟨Y,.inl (cU λe=>a5 ((h.γi id i b x4 (e ▸ Y)) ▸ hi))⟩,j2,λ_ _ G=>G,me.same ca (dM.putAt (by first|assumption))⟩
def ES(f:EnvOk P E)(h:Rp w0 S γ β s a w){o:Oper}(g:Fr E s γ β o)(hT:∀ T t,(o.op=.alloc T\/∃ x,o.op=.box T x)->E.L T=some t->ak t=true)(d:∀ t∈s.lkS,o.dst≠some t)(j:∀ T x y,o.op=.store T x y->o.dst=none){R:Type}{K:St->Option R}{r:R}
  (hq:vr E s o K=some r):∃ s',K s'=some r/\J6 P w0 S γ β s a w o s':=by
 have quiet:qv E s o (λv=>K (s.put o.dst v))=some r->∃ s',K s'=some r/\J6 P w0 S γ β s a w o s':=λhq=>y7 f h g (λT t e=>hT T t (.inl e)) d hq;obtain⟨dst,op,ty,pos,after,guard⟩:=o;cases op
 case store T x y=>exact It f h d (j T x y rfl) hq
 case box T x=>exact QX f h g d (λt=>hT T t (.inr ⟨x,rfl⟩)) hq
 case makeSlice T x y=>
  cases x
  case tmp i=>exact yl f h g d hq
  all_goals exact quiet hq
 case makeMap T x=>exact CI f h g d hq
 case mapUpdate T x y z=>exact ym f h hq
 case call c=>
  obtain⟨callee,args,argTypes⟩:=c;cases callee
  case builtin b=>
   cases b
   case append=>exact ER f h g d hq
   case copy=>exact LD f h d hq
   all_goals exact quiet hq
  all_goals exact quiet hq
 all_goals exact quiet hq
end
end
def nw{α β R:Type}{x:Option α}{f:α->Option R}{g:α->Option β}{K:β->Option R}(h:∀ a,f a=(g a).bind K):x.bind f=(x.bind g).bind K:=by
 cases x with
 | none=>rfl
 | some a=>exact h a
def CS{R:Type}:∀ (p:List Nat) (a:AV) (K:AV->Option R),AU a p K=(AU a p some).bind K:=by
 intro p
 induction p with
 | nil=>intro a K;cases a<;>rfl
 | cons i p ih=>
  intro a K;cases a<;>simp only[AU]<;>first
   | rfl
   | exact nw λt=>nw λy=>rfl
   | exact nw λb=>ih b K
def q8{R:Type}(o:Ob)(p:List Nat)(K:AV->Option R):gP o p K=(gP o p some).bind K:=by
 cases o with
 | one t v=>exact CS p v K
 | many t l=>
  cases p with
  | nil=>rfl
  | cons i p=>exact nw λx=>CS p _ K
 | mp a vt l=>rfl
 | lp i q=>rfl
 | fv v=>rfl
def DK{R β:Type}{o:Ob}{p:List Nat}{f:AV->Option R}{g:AV->Option β}{K:β->Option R}(h:∀ v,f v=(g v).bind K):gP o p f=(gP o p g).bind K:=by
 rw[q8,q8 _ _ g];cases gP o p some with
 | none=>rfl
 | some v=>exact h v
def Lo{α R:Type}{c:Bool}{A A':Option R}{B B':Option α}{K:α->Option R}(h:A=B.bind K)(a:A'=B'.bind K):(bif c then A else A')=(bif c then B else B').bind K:=by all_goals grind
def Jf{R:Type}{y:D}{i:Nat}{ts:List Ty}{L:List AV->AV}{K:AV->Option R}:(m8 y i ts λr=>K (L r))=(m8 y i ts λr=>some (L r)).bind K:=by rw[lM,lM ts i (λr=>some (L r))];cases m8 y i ts some<;>rfl
def MU{R:Type}(E:Env)(s:St)(o:Oper)(K:AV->Option R):qv E s o K=(qv E s o some).bind K:=by obtain⟨dst,op,ty,pos,after,guard⟩:=o;cases op<;>simp only[qv]<;>(repeat' first|rfl|exact q8 _ _ _|exact Jf|refine DK λ_=>?_|refine nw λ_=>?_|refine Lo ?_ ?_|split)
structure Wk(s s':St):Prop where
 tm:∀ t,s'.tm t=s.tm t\/s'.tm t=.undef
 ob:s'.ob=s.ob
 fresh:s'.fresh=s.fresh
 dead:s'.dead=s.dead
 nt:s'.nt=s.nt
 lkS:s'.lkS=s.lkS
 lkO:s'.lkO=s.lkO
def Wk.refl(s:St):Wk s s:=⟨λ_=>.inl rfl,rfl,rfl,rfl,rfl,rfl,rfl⟩
theorem Wk.trans{a b c:St}(h:Wk a b)(k:Wk b c):Wk a c:=
 ⟨λt=>by
  rcases k.tm t with e|e
  ·rw[e];exact h.tm t
  ·exact .inr e,k.ob.trans h.ob,k.fresh.trans h.fresh,k.dead.trans h.dead,k.nt.trans h.nt,k.lkS.trans h.lkS,k.lkO.trans h.lkO⟩
theorem Wk.put{s s':St}(h:Wk s s')(d:Option Nat){v v':AV}(a:v'=v\/v'=.undef):Wk (s.put d v) (s'.put d v'):=by
 cases d with
 | none=>exact h
 | some d=>
  simp only[St.put,h.nt];split
  ·refine⟨λt=>?_,h.ob,h.fresh,h.dead,by first|exact h.nt|rfl,h.lkS,h.lkO⟩
   by_cases e:t=d
   ·simp_all
   ·simp only[e,if_false];exact h.tm t
  ·exact h
def Wk.kill(s:St)(d:Option Nat):Wk s (s.put d .undef):=by
 cases d with
 | none=>exact Wk.refl s
 | some d=>
  simp only[St.put];split
  ·refine⟨λt=>?_,rfl,rfl,rfl,rfl,rfl,rfl⟩;all_goals grind
  ·exact Wk.refl s
theorem Wk.killD:∀ (l:List Oper) (s:St),Wk s (killD s l)
 | [],s=>Wk.refl s
 | o::l,s=>(Wk.kill s o.dst).trans (Wk.killD l _)
theorem Wk.opA{s s':St}(h:Wk s s')(x:Operand):s'.opA x=s.opA x\/s'.opA x=.undef:=by
 cases x with
 | tmp t=>exact h.tm t
 | const v=>exact .inl rfl
 | global g=>exact .inl rfl
 | func f=>exact .inl rfl
theorem jQ{ob:Nat->Option Ob}{t:Ty}:akf ob t .undef=none:=by cases t<;>rfl
def Rp.wk{w0:Root}{S:Nat->Nat->Prop}{γ:Nat->Option Nat}{β:Nat->Option (Nat×Nat)}{s s':St}{a:Act}{w:World}(h:Rp w0 S γ β s a w)(k:Wk s s'):Rp w0 S γ β s' a w:=by
 have c:=k.ob;have b:=k.dead;have d:s'.base=s.base:=by simp only[St.base,k.fresh]
 refine⟨h.ext,λt ht=>?_,h.nt.trans k.nt.symm,λt ht=>?_,?_,h.γn,h.γi,?_,?_,?_,?_,?_,h.Sb,h.So⟩
 ·rw[c,b];rcases k.tm t with e|e
  ·rw[e];exact h.tms t ht
  ·rw[e];simp[AR]
 ·rcases k.tm t with e|e
  ·rw[e];exact h.tmu t (k.nt ▸ ht)
  ·exact e
 ·rw[c,b];exact h.obs
 ·rw[d];exact h.γf
 ·rw[b];exact h.βn
 ·rw[b];exact h.βi
 ·rw[b];exact h.βγ
 ·rw[d];exact h.βf
section
variable{E:Env}{s s':St}
theorem Wk.toDl(h:Wk s s'):∀ (l:List Operand) (ts:List Ty) {xs:List D},AV.toDl s'.ob ts (l.map s'.opA)=some xs->AV.toDl s.ob ts (l.map s.opA)=some xs
 | [],ts,xs,hx=>by grind [AV.toDl]
 | y::l,ts,xs,hx=>by
  cases ts<;>simp only[z4a,AV.toDl] at hx ⊢<;>try(cases hx;done)
  obtain⟨x,h1,a⟩:=ab hx;obtain⟨d,b,c⟩:=ab a;rcases h.opA y with e|e
  ·rw[e,h.ob] at h1;rw[h1,zba,h.toDl l _ b];exact c
  ·simp_all [jQ]
theorem Wk.partsD(h:Wk s s')(ty:Nat->Option Ty):∀ (l:List (Nat×Operand)) {xs:List (Nat×D)},Sy.partsD s'.ob s' ty l=some xs->Sy.partsD s.ob s ty l=some xs
 | [],xs,hx=>hx
 | (i,y)::l,xs,hx=>by
  simp only[Sy.partsD] at hx ⊢;obtain⟨t,h0,hx⟩:=ab hx;obtain⟨x,h1,a⟩:=ab hx;obtain⟨d,b,c⟩:=ab a;rw[h0,zba];rcases h.opA y with e|e
  ·rw[e,h.ob] at h1;rw[h1,zba,h.partsD ty l b];exact c
  ·simp_all [jQ]
theorem Wk.asList(h:Wk s s'){e:Ty}{x:Operand}{l:List D}(hx:(s'.opA x).asList s'.ob e=some l):s'.opA x=s.opA x:=by
 rcases h.opA x with k|k
 ·exact k
 ·simp_all [AV.asList,jQ]
theorem Wk.isD(h:Wk s s'){x:Operand}{p:Ty×D}(hx:Sy.isD (s'.opA x)=some p):s'.opA x=s.opA x:=by
 rcases h.opA x with k|k
 ·exact k
 ·simp_all [Sy.isD]
theorem Wk.truth(h:Wk s s'){x:Operand}{b:Bool}(hx:(s'.opA x).truth=some b):s'.opA x=s.opA x:=by
 rcases h.opA x with k|k
 ·exact k
 ·simp_all [AV.truth]
end
section
variable{E:Env}{s s':St}
def Wk.base_eq(h:Wk s s'):s'.base=s.base:=by simp only[St.base,h.fresh]
theorem Wk.qv(h:Wk s s'){o:Oper}{v':AV}(hq:Sy.qv E s' o some=some v'):∃ v,Sy.qv E s o some=some v/\(v'=v\/v'=.undef):=by
 obtain⟨dst,op,ty,pos,after,guard⟩:=o;have z:=h.ob;have B:=h.base_eq;have same:∀ {x y:Option AV},x=some v'->y=x->∃ v,y=some v/\(v'=v\/v'=.undef):=λhx Q=>⟨v',Q.trans hx,.inl rfl⟩;cases op<;>simp only[Sy.qv] at hq ⊢<;>(try (cases hq;done))
 case move x=> simp only[zca] at hq;exact⟨_,rfl,by rcases h.opA x with e|e<;>simp[<-hq,e]⟩
 case assign x=> simp only[zca] at hq;exact⟨_,rfl,by rcases h.opA x with e|e<;>simp[<-hq,e]⟩
 case pick c x y=>
  obtain⟨b,h1,a⟩:=ab hq;rw[<-h.truth h1,h1,zba];cases b
  ·simp only[zHa,if_false,zca] at a ⊢;exact⟨_,rfl,by rcases h.opA y with e|e<;>simp[<-a,e]⟩
  ·simp only[if_true,zca] at a ⊢;exact⟨_,rfl,by rcases h.opA x with e|e<;>simp[<-a,e]⟩
 case alloc T=>rw[B] at hq;exact same hq rfl
 case load T x=>
  rcases h.opA x with e|e
  ·rw[e,z] at hq;exact same hq rfl
  ·rw[e] at hq;cases hfn:E.fnT T<;>rw[hfn] at hq
   ·simp only[cond_false] at hq;obtain⟨t,h1,a⟩:=ab hq;cases a
   ·cases hq
 case fieldAddr T x f=>
  obtain⟨t,h1,a⟩:=ab hq;rcases h.opA x with e|e
  ·simp_all
  ·simp_all
 case indexAddr T x i=>
  obtain⟨t,h1,a⟩:=ab hq;obtain⟨p,j,k⟩:=ab a;have J:=h.isD j;rcases h.opA x with e|e
  ·simp_all
  ·rw[e] at k;all_goals grind [AV.asList,jQ]
 case lookup T x i c=>
  obtain⟨t,h1,a⟩:=ab hq;rcases h.opA x with e|e
  ·rw[e,z] at a hq;have J:s'.opA i=s.opA i:=by
    split at a<;>try(cases a;done)
    split at a<;>try(cases a;done)
    split at a<;>try(cases a;done)
    split at a<;>try(cases a;done)
    obtain⟨p,j,_⟩:=ab a;exact h.isD j
   simp_all
  ·simp_all
 case field T x f=>
  obtain⟨t,h1,a⟩:=ab hq;rcases h.opA x with e|e
  ·simp_all
  ·simp_all
 case index T x i=>
  obtain⟨t,h1,a⟩:=ab hq;obtain⟨p,j,k⟩:=ab a;have J:=h.isD j;rcases h.opA x with e|e
  ·simp_all
  ·simp_all
 case binOp op T x y T'=> obtain⟨t,h1,a⟩:=ab hq;obtain⟨p,j,k⟩:=ab a;obtain⟨q,w,r⟩:=ab k;grind [h.isD]
 case unOp op T x=> obtain⟨p,j,k⟩:=ab hq;grind [h.isD]
 case convert U T x=> obtain⟨u,h1,a⟩:=ab hq;obtain⟨t,N,a⟩:=ab a;obtain⟨p,j,k⟩:=ab a;grind [h.isD]
 case nilCheck x=>
  rcases h.opA x with e|e
  ·simp_all
  ·simp_all
 case extract x i=>
  rcases h.opA x with e|e
  ·simp_all
  ·simp_all
 case build T ps=>
  obtain⟨t,h1,a⟩:=ab hq;rw[h1,zba];cases t<;>simp only at a ⊢<;>(try (cases a;done))
  case st ts=>
   split at a
   ·rename_i H;rw[zla H];split at a<;>try(cases a;done)
    rename_i K;have key:∀ (l:List (Nat×Operand)),l.all (gL s' ts)=true->l.all (gL s ts)=true/\(l.map λp=>(p.1,s'.opA p.2))=l.map λp=>(p.1,s.opA p.2):=by
     intro l
     induction l with
     | nil=>intro _;exact⟨rfl,rfl⟩
     | cons p l ih=>
      intro hh;simp only[zMb,X] at hh;obtain⟨R,S⟩:=ih hh.2;have j:=hh.1;have e:s'.opA p.2=s.opA p.2:=by
       rcases h.opA p.2 with e|e
       ·exact e
       ·unfold gL at j;rw[e] at j;all_goals grind [AV.fits]
      have O:gL s ts p=true:=by simp_all [gL]
      grind
    grind
   ·rename_i H;rw[zia H];obtain⟨l,j,k⟩:=ab a
    simp_all [h.partsD,zba]
  case arr n e=>
   obtain⟨l,j,k⟩:=ab a
   simp_all [h.partsD,zba]
 case buildSlice T n ps=>
  obtain⟨t,h1,a⟩:=ab hq;rw[h1,zba];cases t<;>simp only at a ⊢<;>(try (cases a;done))
  split at a<;>try(cases a;done)
  rename_i hn;rw[zla hn];obtain⟨d,j,k⟩:=ab a;obtain⟨l,w,r⟩:=ab k
  simp_all [zba,h.partsD]
 case makeSlice T x y=>
  obtain⟨p0,a1,a2⟩:=ab hq;obtain⟨W,a3,a4⟩:=ab a2;split at a4<;>try(cases a4;done)
  obtain⟨t,a5,a6⟩:=ab a4;cases t<;>simp only at a6<;>(try (cases a6;done))
  obtain⟨d,V,M⟩:=ab a6;obtain⟨p,a9,L⟩:=ab M;rw[h.isD a1,h.isD a9,B] at hq;exact⟨_,hq,.inl rfl⟩
 case slice T x lo hi mx=>
  cases mx with
  | some m=>cases hq
  | none=>
   obtain⟨t,h1,a⟩:=ab hq;cases t<;>simp only at a<;>(try (cases a;done))
   case arr m e=>
    rcases h.opA x with ex|ex
    ·rw[ex] at a hq;rw[z] at hq;have key:(∀ i,lo=some i->s'.opA i=s.opA i)/\(∀ i,hi=some i->s'.opA i=s.opA i):=by
      clear hq;split at a<;>try(cases a;done)
      split at a<;>try(cases a;done)
      obtain⟨I,w,r⟩:=ab a;obtain⟨G,F,P⟩:=ab r;refine⟨λi hi=>?_,λi hi=>?_⟩
      ·subst hi;obtain⟨p,A,_⟩:=ab w;exact h.isD A
      ·subst hi;obtain⟨p,A,_⟩:=ab F;exact h.isD A
     obtain⟨D,C⟩:=key;clear a;cases lo<;>cases hi<;>simp only at hq ⊢
     ·simp_all
     ·simp_all
     ·simp_all
     ·simp_all
    ·simp_all
   obtain⟨l,j,k⟩:=ab a;obtain⟨I,w,r⟩:=ab k;obtain⟨G,F,P⟩:=ab r;have ex:=h.asList j;have D:∀ i,lo=some i->s'.opA i=s.opA i:=λi hi=>by subst hi;obtain⟨p,A,_⟩:=ab w;exact h.isD A
   have C:∀ i,hi=some i->s'.opA i=s.opA i:=λi hi=>by subst hi;obtain⟨p,A,_⟩:=ab F;exact h.isD A
   all_goals grind
 case sliceToArrayPointer T x=>
  obtain⟨t,h1,a⟩:=ab hq;rcases h.opA x with e|e
  ·simp_all
  ·rw[e] at a;cases t<;>first|(cases a;done)|(simp[AV.asList,jQ] at a;done)
 case makeFunc fn first captured=>
  cases fn<;>simp only at hq ⊢<;>(try (cases hq;done))
  split at hq<;>try(cases hq;done)
  rename_i hh;have key:∀ (l:List Operand),(l.all λx=>gA (s'.opA x))=true->(l.all λx=>gA (s.opA x))=true/\l.map s'.opA=l.map s.opA:=by
   intro l
   induction l with
   | nil=>intro _;exact⟨rfl,rfl⟩
   | cons p l ih=>
    intro hh;simp only[zMb,X] at hh;obtain⟨R,S⟩:=ih hh.2;have j:=hh.1;have e:s'.opA p=s.opA p:=by
     rcases h.opA p with e|e
     ·exact e
     ·simp_all [gA]
    simp_all
  grind
 case call c=>
  obtain⟨callee,args,argTypes⟩:=c;cases callee<;>simp only at hq ⊢<;>(try (cases hq;done))
  case value f=>
   cases f<;>simp only at hq ⊢<;>(try (cases hq;done))
   case func f=>
    obtain⟨g,h1,a⟩:=ab hq;cases hfr:Nat.beq (E.free f) 0 with
    | false=>rw[hfr] at a;cases a
    | true=>
    rw[hfr] at a;simp only[cond_true] at a;obtain⟨xs,j,k⟩:=ab a;rw[h1,zba,cond_true,h.toDl _ _ j,zba];rw[B] at k;exact⟨v',k,.inl rfl⟩
   case tmp t=>
    split at hq<;>try(cases hq;done)
    rename_i f l ht;obtain⟨g,h1,a⟩:=ab hq;cases hfr:(Nat.beq (E.free f) l.length&&dw (wo l)) with
    | false=>rw[hfr] at a;cases a
    | true=>
    rw[hfr] at a;simp only[cond_true] at a;obtain⟨xs,j,k⟩:=ab a;have e:s.tm t=.clo f l:=by
     rcases h.opA (.tmp t) with e|e
     ·exact e.symm.trans ht
     ·have:s'.tm t=.undef:=e;rw[ht] at this;cases this
    rw[e];simp only;rw[h1,zba,hfr,cond_true,h.toDl _ _ j,zba];rw[z] at k;exact⟨v',k,.inl rfl⟩
  case builtin b=>
   cases b<;>simp only at hq ⊢<;>(try (cases hq;done))
   case len=>
    obtain⟨T,h1,a⟩:=ab hq;obtain⟨t,j,k⟩:=ab a;obtain⟨x,w,r⟩:=ab k;rcases h.opA x with e|e
    ·rw[h1,zba,j,zba,w,zba];cases t<;>simp only at r ⊢<;>first
      | (cases r;done)
      | (rw[e,z] at r;exact same r rfl)
      | (rw[e] at r;exact⟨v',r,.inl rfl⟩)
      | exact⟨v',r,.inl rfl⟩
    ·rw[h1,zba,j,zba,w,zba];cases t<;>simp only at r ⊢<;>first
      | (cases r;done)
      | (rw[e] at r;simp[AV.asList,jQ] at r;done)
      | (rw[e] at r;simp[Sy.isD] at r;done)
      | exact⟨v',r,.inl rfl⟩
   case min=>
    split at hq<;>try(cases hq;done)
    obtain⟨p,j,k⟩:=ab hq;obtain⟨q,w,r⟩:=ab k;rw[h.isD j,h.isD w] at hq;exact same hq rfl
   case max=>
    split at hq<;>try(cases hq;done)
    obtain⟨p,j,k⟩:=ab hq;obtain⟨q,w,r⟩:=ab k;rw[h.isD j,h.isD w] at hq;exact same hq rfl
end
def val(E:Env)(ops:Array Oper)(s:St)(o:Oper):Option AV:=
 if pA s o then none else
 match o.guard with
 | none=>qv E s o some
 | some (j,want)=>((ops[j]?).bind (·.dst)).bind λg=>A0 (s.tm g) (some .gone) ((s.tm g).truth.bind λc=>if c==want then qv E s o some else some .gone)
def seqV(E:Env)(ops:Array Oper):List Oper->St->Option St
 | [],s=>some s
 | o::l,s=>(val E ops s o).bind λv=>seqV E ops l (s.put o.dst v)
section
variable{E:Env}{ops:Array Oper}{s s':St}
def Wk.lkd_eq(h:Wk s s')(o:Oper):pA s' o=pA s o:=by simp only[pA,h.lkS]
theorem Wk.val(h:Wk s s'){o:Oper}{v':AV}(hq:Sy.val E ops s' o=some v'):∃ v,Sy.val E ops s o=some v/\(v'=v\/v'=.undef):=by
 unfold Sy.val at hq ⊢;rw[h.lkd_eq] at hq;split at hq<;>try(cases hq;done)
 rename_i b;rw[zia b];cases i:o.guard with
 | none=>rw[i] at hq;exact h.qv hq
 | some p=>
  obtain⟨j,want⟩:=p;rw[i] at hq;simp only at hq ⊢;obtain⟨g,h1,a⟩:=ab hq;rw[h1,zba];by_cases hgo:s'.tm g=.gone
  ·have e:s'.tm g=s.tm g:=by
    rcases h.tm g with e|e
    ·exact e
    ·simp_all
   rw[hgo,gw] at a;rw[<-e,hgo,gw];exact⟨v',a,.inl rfl⟩
  rw[gz hgo] at a;obtain⟨c,d,f⟩:=ab a;have e:s'.tm g=s.tm g:=h.truth (x:=.tmp g) d;rw[<-e,gz hgo,d,zba];split at f
  ·rename_i hc;rw[zla hc];exact h.qv f
  ·simp_all
theorem Wk.seqV:∀ (l:List Oper) {s s' a:St},Wk s s'->Sy.seqV E ops l s'=some a->∃ t,Sy.seqV E ops l s=some t/\Wk t a
 | [],s,s',a,h,hq=>by simp_all [Sy.seqV,zca]
 | o::l,s,s',a,h,hq=>by simp only[Sy.seqV] at hq ⊢;obtain⟨v',h1,b⟩:=ab hq;obtain⟨v,c,d⟩:=h.val h1;rw[c,zba];exact Wk.seqV l (h.put o.dst d) b
theorem n7:∀ (l l':List Oper) (s:St),Sy.seqV E ops (l++l') s=(Sy.seqV E ops l s).bind (Sy.seqV E ops l')
 | [],l',s=>rfl
 | o::l,l',s=>by
  simp only[zrb,Sy.seqV];cases val E ops s o with
  | none=>rfl
  | some v=>exact n7 l l' _
theorem alf:∀ (l:List Oper) {s s':St},Wk s s'->Wk (Sy.killD s l) (Sy.killD s' l)
 | [],_,_,h=>h
 | o::l,_,_,h=>alf l (h.put o.dst (.inl rfl))
theorem lS:∀ (l:List Oper) {s t:St},Sy.seqV E ops l s=some t->Wk t (killD s l)
 | [],s,t,h=>by simp only[Sy.seqV,zca] at h;subst h;exact Wk.refl s
 | o::l,s,t,h=>by simp only[Sy.seqV] at h;obtain⟨v,h1,a⟩:=ab h;have b:=lS l a;refine b.trans ?_;exact alf l ((Wk.refl s).put o.dst (.inr rfl))
end
section
variable{E:Env}
def iE(o:Oper):Bool:=gO o||(match o.op with|.alloc _=>true|_=>false)
def rV{R:Type}(E:Env)(s:St){o:Oper}(h:iE o=true)(K:St->Option R):vr E s o K=qv E s o λv=>K (s.put o.dst v):=by
 obtain⟨dst,op,ty,pos,after,guard⟩:=o;cases op<;>first|rfl|(simp[iE,gO] at h;done)|skip
 rename_i c;obtain⟨callee,args,argTypes⟩:=c;cases callee<;>first|rfl|skip
 rename_i b;cases b<;>first|rfl|(simp[iE,gO] at h)
def ji{R:Type}{s:St}{o:Oper}{K:AV->Option R}{r:R}(h:qv E s o K=some r):∃ v,qv E s o some=some v/\K v=some r:=by rw[MU] at h;exact ab h
theorem kj(d:Option Nat):∀ (l:List (Nat×Oper)),l=(eC d l).1++(eC d l).2/\∀ p q,(eC d l).2=p::q->sn d p.2=true
 | []=>⟨rfl,λp q h=>by simp[eC] at h⟩
 | p::l=>by
  simp only[eC];split
  ·simp_all
  ·obtain⟨h1,a⟩:=kj d l;grind
theorem xr{s:St}{d:Nat}{v:AV}(h:s.tm d=v):s.put (some d) v=s:=by
 simp only[St.put];split
 ·have:(λi=>if i=d then v else s.tm i)=s.tm:=by
   all_goals grind
  rw[this]
 ·rfl
def vJ{s:St}{d:Nat}{v:AV}(h:d<s.nt):(s.put (some d) v).tm d=v:=by simp[St.put,h]
theorem kp{v:AV}{b:Bool}(h:v.truth=some b):v=.d .bool (.bool b):=by
 cases v<;>simp only[AV.truth] at h<;>try(cases h;done)
 grind [alb,Ai]
theorem nH{R:Type}{s:St}{g:Nat}{c want:Bool}(hc:(s.tm g).truth=some c){A B:St->Option R}{r:R}
  (h:(if c then(if want then A (s.put (some g) (.d .bool (.bool true))) else B (s.put (some g) (.d .bool (.bool true)))) else(if want then B (s.put (some g) (.d .bool (.bool false))) else A (s.put (some g) (.d .bool (.bool false)))))=some r):(if c==want then A s else B s)=some r:=by
 have e:=xr (kp hc);all_goals grind
def uK{d:Option Nat}{o:Oper}(h:sn d o=true):∃ c x y,o.op=.pick c x y:=by cases hop:o.op<;>first|exact⟨_,_,_,rfl⟩|(simp[sn,hop] at h)
def mH{o:Oper}(h:gO o=true):iE o=true:=by simp[iE,h]
def I4{o:Oper}{c x y:Operand}(h:o.op=.pick c x y):iE o=true:=by simp[iE,gO,h]
theorem wK{ops:Array Oper}:∀ (N:Nat) (R:Type) (l:List (Nat×Oper)) (s:St) (k:St->Option R) (r:R) (m:Nat) (an:Ann),m<=l.length->(∀ p∈l.take m,iE p.2=true/\mW E p.2=false) ->
  ((∀ p∈l.drop m,∀ c x y,p.2.op≠.pick c x y)\/∀ p q,l.drop m=p::q->lq E p.2=false)->fV E N R ops an l s k=some r ->
  ∃ s' z N',seqV E ops ((l.take m).map Prod.snd) s=some s'/\Wk s' z/\fV E N' R ops an (l.drop m) z k=some r:=by
 intro N
 induction N with
 | zero=>intro R l s k r m an _ _ _ h;simp[fV] at h
 | succ N ih=>
  intro R l s k r m an hm hq ht h;cases m with
  | zero=>exact⟨s,s,N+1,rfl,Wk.refl s,by simpa using h⟩
  | succ m=>
   cases l with
   | nil=>simp at hm
   | cons p l=>
    obtain⟨i,o⟩:=p;simp only[zPa,Nat.add_le_add_iff_right] at hm;obtain⟨ho,J⟩:=hq (i,o) j2
    simp only at ho J;have a8:∀ p∈l.take m,iE p.2=true/\mW E p.2=false:=λp hp=>hq p (by simp[hp])
    have n:(∀ p∈l.drop m,∀ c x y,p.2.op≠.pick c x y)\/∀ p q,l.drop m=p::q->lq E p.2=false:=by simpa using ht
    have a5:vC E o an=an:=by simp[vC,J]
    have S:∀ (s:St) (K:St->Option R),ET E an l s o K=vr E s o K:=λs K=>by simp[ET,J]
    simp only[fV,a5,S] at h;have step:∀ {v:AV},val E ops s o=some v->fV E N R ops an l (s.put o.dst v) k=some r->∃ s' z N',seqV E ops (((i,o)::l).take (m+1) |>.map Prod.snd) s=some s'/\Wk s' z/\fV E N' R ops an (((i,o)::l).drop (m+1)) z k=some r:=by grind [seqV]
    cases hg:o.guard with
    | some jw=>
     obtain⟨j,want⟩:=jw;rw[hg] at h;simp only at h;split at h<;>try(cases h;done)
     rename_i g bm;split at h<;>try(cases h;done)
     rename_i C;by_cases a3:s.tm g=.gone
     ·simp_all [gw,val,zba]
     rw[gz a3] at h;obtain⟨c,h1,D⟩:=ab h;replace D:=nH (A:=λs=>vr E s o λs'=>fV E N R ops an l s' k) (B:=λs=>fV E N R ops an l (s.put o.dst .gone) k) h1 D;split at D
     ·rename_i hc;rw[rV E s ho] at D;obtain⟨v,h3,Q⟩:=ji D
      simp_all [val,zba,gz]
     ·simp_all [val,zba,gz]
    | none=>
     rw[hg] at h;simp only at h;split at h
     ·
      rename_i T;simp only[nY,X] at T;obtain⟨_,f⟩:=T;obtain⟨G,e2⟩:=kj o.dst l;generalize eC o.dst l=sp at *;obtain⟨a,rest⟩:=sp;simp only at h G e2 f;split at h<;>try(cases h;done)
      rename_i _ _ jj w t d hd;simp only[hd] at f;simp only[X,zea,zEa,zya] at f;obtain⟨⟨⟨⟨⟨c1,c2⟩,c3⟩,cI⟩,c4⟩,c5⟩:=f;have a7:=e2 _ _ rfl;obtain⟨pc,px,py,a6⟩:=uK a7;have bl:a.length<m:=by
       rcases zua a.length m with h0|h0
       ·exact h0
       ·exfalso;rcases n with n|n
        ·have:(jj,w)∈l.drop m:=by
          grind
         grind
        ·have Z:l.drop m=a.drop m++(jj,w)::t:=by rw[G,List.drop_append_of_le_length h0]
         cases hsd:a.drop m with
         | nil=> rw[hsd] at Z;have:=n _ _ Z;have V:w.op=.pick pc px py:=a6;simp[lq,mW,gO,V] at this
         | cons p q=>
          rw[hsd] at Z;have h1:=n _ _ Z;have D:=c4 p (z7b (i:=m) (by rw[hsd];simp))
          simp[lq,D.1.1,D.2] at h1
      unfold UO at h;split at h<;>try(cases h;done)
      rename_i C;rw[rV E s ho] at h;obtain⟨v,h3,Q⟩:=ji h;rw[hd] at Q;obtain⟨c,h5,h6⟩:=ab Q;rw[vJ c1] at h5;have hv:=kp h5;subst hv;obtain⟨x,F,h8⟩:=ab h6;have u:∀ b,b=c->(s.put (some d) (.d .bool (.bool c))).put (some d) (.d .bool (.bool b))=s.put (some d) (.d .bool (.bool c)):=λb hb=>xr (by rw[vJ c1,hb])
      have L:∃ Y:St->Option Bool,(∀ s2,Y s2=qv E s2 w AV.truth)/\fV E N Bool ops .leaf a (s.put (some d) (.d .bool (.bool c))) Y=some x:=by
       cases c
       ·simp only[zHa,if_false] at F;rw[u false rfl] at F;exact⟨_,λ_=>rfl,F⟩
       ·simp only[if_true] at F;rw[u true rfl] at F;exact⟨_,λ_=>rfl,F⟩
      obtain⟨Y,a4,F⟩:=L;obtain⟨s2,bh,N2,h9,ad,O⟩:=ih Bool a _ Y x a.length .leaf (zja _) (λp hp=>by rw[z8a] at hp;exact⟨mH (c4 p hp).1.1,(c4 p hp).2⟩) (.inl λp hp=>by simp at hp) F
      rw[zFc] at O;rw[z8a] at h9;have P:Y bh=some x:=by cases N2<;>simpa [fV] using O
      rw[a4] at P;obtain⟨v2,al,ax⟩:=ji P;have W:=kp ax;obtain⟨v3,aI,aO⟩:=ad.qv al;have a9:v3=.d .bool (.bool x):=by
       rcases aO with e|e
       ·rw[<-e];exact W
       ·rw[W] at e;cases e
      subst a9;have ba:Wk (s2.put w.dst (.d .bool (.bool x))) ((killD (s.put (some d) (.d .bool (.bool c))) (a.map Prod.snd)).put w.dst (.d .bool (.bool x))):=(lS _ h9).put w.dst (.inl rfl);have hlen:l.length=a.length+1+t.length:=by rw[G];simp;omega
      obtain⟨s4,bj,N4,a1,h18,h19⟩:=ih R t _ k r (m-a.length-1) an u0 (λp hp=>a8 p (by
       rw[G,List.take_append,zKa];right;rw[show m-a.length=(m-a.length-1)+1 by omega,zac]
       exact zsa _ hp)) (by
       have e4:l.drop m=t.drop (m-a.length-1):=by conv=>lhs;rw[G,List.drop_append,zqc u0,z4b,show m-a.length=(m-a.length-1)+1 by omega,zZc]
       rwa [e4] at n) h8
      obtain⟨s5,a2,h21⟩:=Wk.seqV _ ba a1;refine⟨s5,bj,N4,?_,h21.trans h18,?_⟩
      ·have I:l.take m=a++(jj,w)::t.take (m-a.length-1):=by
        conv=>lhs;rw[G,List.take_append,zub u0,show m-a.length=(m-a.length-1)+1 by omega,zac]
       have a0:val E ops s o=some (.d .bool (.bool c)):=by unfold val;rw[zia C,hg];exact h3
       have U:¬ pA s2 w=true:=by
        have:s2.lkS=s.lkS:=by
         have w1:=(lS _ h9).lkS;have w2:∀ (l:List Oper) (s:St),(killD s l).lkS=s.lkS:=by
          intro l
          induction l with
          | nil=>intro s;rfl
          | cons o l ih=>intro s;rw[killD,ih];exact(ak5 s o.dst .undef).2.2.2.2.1
         rw[<-w1,w2];exact(ak5 s (some d) _).2.2.2.2.1
        simp only[pA,this];have:=c5;simp only[pA] at this;rw[this];simp
       have M:val E ops s2 w=some (.d .bool (.bool x)):=by
        unfold val;rw[zia U];have:w.guard=none:=by simpa using c2
        rw[this];exact aI
       simp only[zac,z4a,seqV,a0,zba,I,zib,n7,hd,h9,M];exact a2
      ·have H:l.drop m=t.drop (m-a.length-1):=by
        conv=>lhs;rw[G,List.drop_append,zqc u0,z4b,show m-a.length=(m-a.length-1)+1 by omega,zZc]
       simp only[zZc,H];exact h19
     ·split at h<;>try(cases h;done)
      rename_i C;rw[rV E s ho] at h;obtain⟨v,h3,Q⟩:=ji h;exact step (by unfold val;rw[zia C,hg];exact h3) Q
end
end Sy
end
noncomputable section
namespace Sy
open Go
open Go.ChangeMaps (setBlock)
section
variable{c f:List Nat}
variable{ro:Option Nat}{nn:Nat}
def oc{c c':Cx}(hw:∀ b o,c.S b o->c'.w.cell? ⟨b,o,none⟩=c.w.cell? ⟨b,o,none⟩)(e:∀ b o,c.S b o->c'.S b o){x:AV}{v:Value}(h:AR c x v):AR c' x.still v:=by
 cases x<;>simp only[AV.still]<;>try (simp only[AR];done)
 case d t x=>
  simp only[AR] at h ⊢;rcases h with⟨i,j,k⟩|⟨ts,i,p,j,k⟩
  ·exact .inl ⟨i,j,k.mono hw e⟩
  ·exact .inr ⟨ts,i,p,j,k.mono hw e⟩
 case own t u l=>
  simp only[AR,AC] at h;obtain⟨h0,hn,h1,a,cap,f,g,_⟩:=h;refine dA (by simpa only[ak] using hn) (by simp only[wt];exact⟨l,rfl,h1⟩) ?_
  have n:v=.slice a l.length cap:=ap h0 f;subst n;exact akA (g.mono hw e)
 case fptr t x=> simp only[AR,AC] at h ⊢;obtain⟨h0,h1,f,b,off,g,m⟩:=h;exact⟨h0,h1,f,b,off,g,m.mono hw e⟩
section
variable{P:Program}{E:Env}{w0:Root}{S S':Nat->Nat->Prop}{γ γ':Nat->Option Nat}{β β' β'':Nat->Option (Nat×Nat)}{s sc:St}{a:Act}{w w':World}
def Da{o':Ob}{x:Option Ob}(h:mA x (some o')=true):∃ o,x=some o/\∀ p,fo o' p=fo o p/\cD o' p=cD o p:=by
 cases x with
 | none=>simp[mA] at h
 | some o=>
  refine⟨o,rfl,λp=>?_⟩;cases o<;>cases o'<;>simp only[mA] at h<;>try(cases h;done)
  ·have:=alb _ _ h;subst this;exact⟨rfl,rfl⟩
  ·have:=alb _ _ h;subst this;cases p<;>exact⟨rfl,rfl⟩
  ·exact⟨rfl,rfl⟩
  ·cases p<;>exact⟨rfl,rfl⟩
def BI{v:Nat}(h:v∈fF s):v ∉ s.dead/\∃ t ty l,t<s.nt/\s.tm t=.own ty v l:=by
 unfold fF at h;obtain⟨t,h1,a⟩:=z4c.1 h;split at a<;>try(cases a;done)
 rename_i ty u l ht;split at a<;>try(cases a;done)
 rename_i b;cases a;exact⟨by simpa using b,t,ty,l,zRa.1 h1,ht⟩
theorem Bf{v t:Nat}{ty:Ty}{l:List D}(h1:t<s.nt)(a:s.tm t=.own ty v l)(b:v ∉ s.dead):v∈fF s:=by grind [fF]
def DG{t:Ty}{id:Nat}{p:List Nat}{cs:List Value}{dead:List Nat}(a:∀ id b,γ id=some b->γ' id=some b)(hl:mA (s.ob id) (sc.ob id)=true)(h:AC ⟨w,S,γ,β,s.ob,dead⟩ (.ptr t id p) cs):AC ⟨w',S',γ',β'',sc.ob,c⟩ (.ptr t id p) cs:=by
 simp only[AC] at h ⊢;obtain⟨b,off,e,f,g⟩:=h;refine⟨b,off,e,a _ _ f,λo d=>?_⟩;rw[d] at hl;obtain⟨i,q1,j⟩:=Da (o':=o) hl
 simp_all
theorem zQ{dead:List Nat}(a:∀ id b,γ id=some b->γ' id=some b):∀ (l:List AV) (cs:List Value),l.all (MQ s.ob sc.ob)=true->oZ ⟨w,S,γ,β,s.ob,dead⟩ l cs->oZ ⟨w',S',γ',β'',sc.ob,c⟩ l cs
 | [],cs,_,h=>by simpa only[oZ] using h
 | x::l,cs,hp,h=>by
  simp only[zMb,X] at hp;simp only[oZ] at h ⊢;obtain⟨v,c2,rfl,d,e⟩:=h;refine⟨v,c2,rfl,?_,zQ a l c2 hp.2 e⟩;cases x<;>simp only[MQ] at hp<;>first|(cases hp.1;done)|skip
  exact DG a hp.1 d
theorem RO{n:Nat}{D F:List Nat}(a:∀ b o,S b o->w'.cell? ⟨b,o,none⟩=w.cell? ⟨b,o,none⟩)(g:∀ b o,S b o->S' b o)(z:∀ id b,γ id=some b->γ' id=some b)
  {x:AV} {v:Value} (j:∀ t u l,x=.own t u l->u ∉ s.dead->u ∉ F->u∈D/\β'' (n+D.idxOf u)=β u/\∀ b e,β u=some (b,e)->∀ m,rA w b=some m->rA w' b=some m)
  (h:AR ⟨w,S,γ,β,s.ob,s.dead⟩ x v):AR ⟨w',S',γ',β'',sc.ob,sc.dead⟩ (sM s sc n D F x) v:=by
 cases x with
 | d t y=>exact oc (c:=⟨w,S,γ,β,s.ob,s.dead⟩) (x:=.d t y) a g h
 | fptr t y=>exact oc (c:=⟨w,S,γ,β,s.ob,s.dead⟩) (x:=.fptr t y) a g h
 | own t u l=>
  simp only[sM];split
  ·exact oc (c:=⟨w,S,γ,β,s.ob,s.dead⟩) (x:=.own t u l) a g h
  ·rename_i r;simp only[zFb,not_or,List.contains_iff_mem] at r;have i:u ∉ s.dead:=r.1;obtain⟨R,B,C⟩:=j t u l rfl i r.2;simp only[AR,AC] at h ⊢;obtain⟨h0,h1,k,A,cap,H,I,J⟩:=h;refine⟨h0,h1,k,A,cap,H,I.mono a g,λ_=>?_⟩;rcases J i with q|⟨b,off,q,E,m,K,L⟩
   ·exact .inl q
   ·exact .inr ⟨b,off,q,B.trans E,m,C b _ E m K,L⟩
 | nils=>simpa only[sM,AR,AC] using h
 | ptr t id p=>
  simp only[sM];split
  ·rename_i hl;simp only[AR] at h ⊢;exact⟨h.1,DG z hl h.2⟩
  ·simp only[AR]
 | mem t id=>simp only[sM,AR]
 | tpo t v ts y=>simp only[sM,AR]
 | st ts l=>simp only[sM,AR]
 | clo f l=>
  simp only[sM];split
  ·rename_i hl;simp only[AR,AC] at h ⊢;obtain⟨h0,caps,h1,k⟩:=h;exact⟨h0,caps,h1,zQ z l caps hl k⟩
  ·simp only[AR]
 | map T vt id=>
  simp only[sM];split
  ·rename_i hl;simp only[AR,AC] at h ⊢;obtain⟨h0,b,e,B,C,M,N⟩:=h;refine⟨h0,b,e,z _ _ B,C,M,λo G=>?_⟩;cases hs:s.ob id with
   | none=>rw[hs,G] at hl;simp[mA] at hl
   | some O=>
    obtain⟨l,rfl⟩:=N O hs;rw[hs,G] at hl;cases o<;>simp only[mA] at hl<;>try(cases hl;done)
    simp only[X] at hl;have P:=alb _ _ hl.1;have Q:=alb _ _ hl.2
    simp_all
  ·simp only[AR]
 | yld id=> grind [sM,AR,AC]
 | sub sl t id p lo n=>simp only[sM,AR]
 | gone=>simp only[sM,AR]
 | undef=>simp only[sM,AR]
def Eh(s:St):yz s []=fF s:=by simp[yz]
def Eg{s:St}{v:Nat}:v∈yz s c↔v∈fF s/\v ∉ c:=by simp[yz]
def Hf(h:Rp w0 S γ β s a w){sh:Nat->Prop}(F:c=yz s f)(y:sh=λb=>(∃ id,γ id=some b)\/∃ v e,v ∉ c++s.dead/\β v=some (b,e)){m:St}{B:Act}
  (x:∀ j o,m.ob j=some o->s.ob j=some o) (C:m.fresh=s.fresh+1) (d:m.dead=c++s.dead) (D:B.tmps.size=m.nt) (A:∀ t,m.nt<=t->m.tm t=.undef)
  (z:∀ t,t<B.tmps.size->AR ⟨w,S,γ,β,m.ob,c++s.dead⟩ (m.tm t) (B.tmps.getD t undef)):Rp ⟨w,S,sh⟩ S γ β m B w:=by
 have k:∀ {u},u ∉ c++s.dead->u ∉ s.dead:=λhu hh=>hu (z9a _ hh);have g:m.base=(s.fresh+1)*4096:=by simp only[St.base,C]
 have H:s.base+4096=(s.fresh+1)*4096:=by simp only[St.base];omega
 have E:Cx.le ⟨w,S,γ,β,s.ob,s.dead⟩ ⟨w,S,γ,β,m.ob,c++s.dead⟩:=
  ⟨λ_ _ _=>rfl,λ_ _ g=>g,λ_ _ g=>g,λid o r _=>⟨o,x _ _ r,λp=>⟨rfl,rfl⟩,λt l e=>⟨l,e,rfl⟩,λ_ _ l e=>⟨l,e⟩⟩,λu hu=>⟨k hu,λb e he=>⟨he,λn hn=>hn⟩⟩⟩
 refine⟨⟨rfl,rfl,rfl,zja _,zja _,λ_ _=>rfl⟩,λt ht=>by rw[d];exact z t ht,D,A,λid o b r g=>?_,λid b g=>⟨λr=>r.2 (by show sh b;rw[y];exact .inl ⟨id,g⟩),(h.γn id b g).2⟩,h.γi,λid hid=>h.γf id ?_,λu b e hu he=>?_,λu K b e G hu q=>h.βi u K b e G (k (d ▸ hu)) (k (d ▸ q)),λu id b e hu=>h.βγ u id b e (k (d ▸ hu)),λu hu=>h.βf u ?_,h.Sb,λb o g _=>g⟩
 ·rw[d];exact(h.obs id o b (x _ _ r) g).mono E rfl λ_ hh=>hh
 ·omega
 ·have q:u ∉ c++s.dead:=d ▸ hu;obtain⟨L,I,J⟩:=h.βn u b e (k q) he;exact⟨λr=>r.2 (by show sh b;rw[y];exact .inr ⟨u,e,q,he⟩),I,J⟩
 ·omega
theorem Gx(h:Rp w0 S γ β s a w){sh:Nat->Prop}(C:c=yz s f)(J:sh=λb=>(∃ id,γ id=some b)\/∃ v e,v ∉ c++s.dead/\β v=some (b,e))(an:c.length<=4096){a':Act}
  (q:Rp ⟨w,S,sh⟩ S' γ' β' sc a' w') (P:∀ b o,S b o->S' b o) (H:∀ b o,S b o->w'.cell? ⟨b,o,none⟩=w.cell? ⟨b,o,none⟩) (O:∀ id b,γ id=some b->γ' id=some b) (U:w.heap.size<=w'.heap.size) :
  ∃ β'',Rp w0 S' γ' β'' (pL s sc f) a w'/\Cx.le ⟨w',S',γ',β',sc.ob,sc.dead⟩ ⟨w',S',γ',β'',sc.ob,sc.dead⟩:=by
 have y:∀ u,u∈c->u ∉ s.dead:=λu hu=>by rw[C] at hu;exact(BI (Eg.1 hu).1).1
 have N:∀ {u},u ∉ c++s.dead->u ∉ s.dead:=λhu hh=>hu (z9a _ hh);have K:∀ b,sh b->¬ w0.Old b:=λb d=>by
  rw[J] at d;rcases d with⟨id,d⟩|⟨u,e,hu,d⟩
  ·exact(h.γn id b d).1
  ·exact(h.βn u b e (N hu) d).1
 have E:∀ b,w0.Old b->(Root.mk w S sh).Old b:=λb d=>⟨zdb d.1 h.ext.sz,λhh=>K b hh d⟩;have k:∀ u∈c,∀ b e,β u=some (b,e)->(Root.mk w S sh).Old b:=λu hu b e d=>by
  refine⟨(h.βn u b e (y u hu) d).2.1,λhh=>?_⟩;have hh:sh b:=hh;rw[J] at hh;rcases hh with⟨id,hh⟩|⟨F,G,D,hh⟩
  ·exact h.βγ u id b e (y u hu) d hh
  ·have:=h.βi u F b e G (y u hu) (N D) d hh
   simp_all
 obtain⟨n,hn⟩:∃ n,n=(sc.fresh+1)*4096:=⟨_,rfl⟩;have W:sc.base+4096=n:=by rw[hn];simp only[St.base];omega
 obtain⟨β'',hβ⟩:∃ β'':Nat->Option (Nat×Nat),β''=λu=>if n<=u then(c[u-n]?).bind (λx=>if c.idxOf x=u-n then β x else none) else β' u:=⟨_,rfl⟩
 have z:∀ u b e,n<=u->β'' u=some (b,e)->∃ x∈c,u=n+c.idxOf x/\β x=some (b,e):=λu b e hu he=>by grind
 have blt:∀ u,u<n->β'' u=β' u:=λu hu=>s6
 have Q:∀ x∈c,β'' (n+c.idxOf x)=β x:=λx hx=>by
  have j:c.idxOf x<c.length:=List.idxOf_lt_length_of_mem hx
  simp_all
 have hle:Cx.le ⟨w',S',γ',β',sc.ob,sc.dead⟩ ⟨w',S',γ',β'',sc.ob,sc.dead⟩:=
  ⟨λ_ _ _=>rfl,λ_ _ d=>d,λ_ _ d=>d,λid o I _=>⟨o,I,λp=>⟨rfl,rfl⟩,λt l e=>⟨l,e,rfl⟩,λ_ _ l e=>⟨l,e⟩⟩,λu hu=>⟨hu,λb e he=>⟨(by
   have g:β' u=some (b,e):=he;show β'' u=some (b,e);rcases zua u n with j|r
   ·simp_all
   ·rw[q.βf u u0] at g;cases g),λm hm=>hm⟩⟩⟩
 have M:∀ b,¬ (Root.mk w S sh).Old b->¬ w0.Old b:=λb d hh=>d (E b hh);refine⟨β'',⟨⟨q.ext.tape.trans h.ext.tape,q.ext.os.trans h.ext.os,q.ext.output.trans h.ext.output,zva h.ext.sz q.ext.sz,zva h.ext.dr q.ext.dr,λb d=>(q.ext.old b (E b d)).trans (h.ext.old b d)⟩,λt ht=>?_,h.nt,λt ht=>?_,λid o b I d=>(q.obs id o b I d).mono hle rfl λ_ hh=>hh,λid b d=>⟨M b (q.γn id b d).1,(q.γn id b d).2⟩,q.γi,λid hid=>q.γf id ?_,λu b e hu he=>?_,λu F b e G hu D he g=>?_,λu id b e hu he=>?_,λu hu=>?_,q.Sb,λb o d j=>h.So b o (q.So b o d (E b j)) j⟩,hle⟩
 ·have L:t<s.nt:=by rw[<-h.nt];exact ht
  simp only[pL,zla L];rw[<-C,<-hn];refine RO H P O (λty u l hx hu hh=>?_) (h.tms t ht);have hm:u∈c:=by rw[C];exact Eg.2 ⟨Bf L hx hu,hh⟩
  refine⟨hm,Q u hm,λb e he m R=>?_⟩;have:=q.ext.old b (k u hm b e he);simp only[rA,ck] at R ⊢;grind
 ·have al:s.nt<=t:=ht;simp only[pL];grind
 ·have V:(sc.fresh+1)*4096+4096<=id:=hid;omega
 ·rcases zua u n with j|r
  ·rw[blt u j] at he;obtain⟨q1,X,Y⟩:=q.βn u b e hu he;grind
  ·obtain⟨x,hx,_,he⟩:=z u b e r he;obtain⟨q1,X,Y⟩:=h.βn x b e (y x hx) he;exact⟨q1,zdb X U,λo I hs=>Y o I (q.So b o hs (k x hx b e he))⟩
 ·rcases zua u n with j|r
  ·rcases zua F n with B|A
   ·rw[blt u j] at he;rw[blt F B] at g;exact q.βi u F b e G hu D he g
   ·rw[blt u j] at he;obtain⟨x,hx,_,g⟩:=z F b G A g;exact zgb (k x hx b G g) (q.βn u b e hu he).1
  ·obtain⟨x,hx,ex,he⟩:=z u b e r he;rcases zua F n with B|A
   ·rw[blt F B] at g;exact zgb (k x hx b e he) (q.βn F b G D g).1
   ·obtain⟨Z,T,ad,g⟩:=z F b G A g;have:=h.βi x Z b e G (y x hx) (y Z T) he g;grind
 ·rcases zua u n with j|r
  ·rw[blt u j] at he;exact q.βγ u id b e hu he
  ·obtain⟨x,hx,ex,he⟩:=z u b e r he;exact λhid=>(q.γn id b hid).1 (k x hx b e he)
 ·have D:(sc.fresh+1)*4096+4096<=u:=hu;all_goals grind
end
end
section
variable{c:Cx}
variable{ro:Option Nat}{nn:Nat}
section
variable{P:Program}{E:Env}{w0:Root}{S:Nat->Nat->Prop}{γ:Nat->Option Nat}{β:Nat->Option (Nat×Nat)}{s:St}{a:Act}{w:World}
mutual
theorem AC.anyOb{c:Cx}(ob':Nat->Option Ob):∀ (x:AV) (t:Ty) (cs:List Value),AV.fits t x=true->AC c x cs->AC ⟨c.w,c.S,c.γ,c.β,ob',c.dead⟩ x cs
 | .d t' x,t,cs,_,h=>by simpa only[AC] using h
 | .own t' v l,t,cs,_,h=>by simpa only[AC,tok] using h
 | .nils,t,cs,_,h=>by simpa only[AC] using h
 | .st ts' l,t,cs,hf,h=>by
  cases t<;>simp only[AV.fits] at hf<;>first|cases hf|skip
  rename_i ts;simp only[X] at hf;simp only[AC] at h ⊢;exact⟨h.1,h.2.1,jM.anyOb ob' l ts cs hf.2 h.2.2⟩
 | .ptr ..,t,cs,hf,_=>by cases t<;>simp[AV.fits] at hf
 | .fptr ..,t,cs,hf,_=>by cases t<;>simp[AV.fits] at hf
 | .mem ..,t,cs,hf,_=>by cases t<;>simp[AV.fits] at hf
 | .clo ..,t,cs,hf,_=>by cases t<;>simp[AV.fits] at hf
 | .map ..,t,cs,hf,_=>by cases t<;>simp[AV.fits] at hf
 | .sub ..,t,cs,hf,_=>by cases t<;>simp[AV.fits] at hf
 | .yld ..,t,cs,hf,_=>by cases t<;>simp[AV.fits] at hf
 | .gone,t,cs,hf,_=>by cases t<;>simp[AV.fits] at hf
 | .tpo ..,t,cs,hf,_=>by cases t<;>simp[AV.fits] at hf
 | .undef,t,cs,hf,_=>by cases t<;>simp[AV.fits] at hf
theorem jM.anyOb{c:Cx}(ob':Nat->Option Ob):∀ (l:List AV) (ts:List Ty) (cs:List Value),AV.fitss ts l=true->jM c l cs->jM ⟨c.w,c.S,c.γ,c.β,ob',c.dead⟩ l cs
 | [],ts,cs,_,h=>by simpa only[jM] using h
 | a::l,ts,cs,hf,h=>by
  cases ts<;>simp only[AV.fitss] at hf<;>first|cases hf|skip
  simp only[X] at hf;simp only[jM] at h ⊢;obtain⟨c1,c2,rfl,h1,h2⟩:=h;exact⟨c1,c2,rfl,AC.anyOb ob' a _ c1 hf.1 h1,jM.anyOb ob' l _ c2 hf.2 h2⟩
end
theorem jR.anyOb{a:Nat->Option Ob}{b vt:Ty}:∀ {j:Nat} {l:List D} {es:List MapEntry},jR c b vt j l es->jR ⟨c.w,c.S,c.γ,c.β,a,c.dead⟩ b vt j l es
 | _,[],[],_=>trivial
 | _,[],_::_,k=>k.elim
 | _,_::_,[],k=>k.elim
 | j,x::l,e::es,k=>by simp only[jR] at k ⊢;exact⟨k.1,jR.anyOb k.2⟩
def gg.anyOb{c:Cx}(a:Nat->Option Ob){x:AV}{v:Value}(h:gg c x v):gg ⟨c.w,c.S,c.γ,c.β,a,c.dead⟩ x v:=gg.mono (c:=c) (c':=⟨c.w,c.S,c.γ,c.β,a,c.dead⟩) (λ_ _ _=>rfl) (λ_ _ h=>h) (λ_ _ h=>h) h
theorem gF.anyOb(a:Nat->Option Ob){b:Nat}{o:Ob}(h:gF c b o):gF ⟨c.w,c.S,c.γ,c.β,a,c.dead⟩ b o:=by
 cases o<;>simp only[gF] at h ⊢
 case one t v=> obtain⟨h1,d,e,cs,f,g,j⟩:=h;exact⟨h1,d,e,cs,f,AC.anyOb a v t cs d g,j⟩
 case many t l=>exact h
 case mp kt vt l=> obtain⟨h1,d,e,es,f,g⟩:=h;exact⟨h1,d,e,es,f,g.anyOb⟩
 case lp i p=> obtain⟨r,h1,d,e,f⟩:=h;exact⟨r,h1,d,λt ht=>(e t ht).anyOb a,f⟩
 case fv v=> obtain⟨h1,x,d,e,f⟩:=h;exact⟨h1,x,d,e.anyOb a,f⟩
def zq{b o:Nat}{r:Loop}(h:w.heap[b]?=some (Obj.loop r)):w.cell? ⟨b,o,none⟩=none:=by simp[World.cell?,h]
def fj{b a:Nat}{x:Obj}(c:a≠b):(setBlock w b x).heap[a]?=w.heap[a]?:=by simp only[setBlock];rw[z8c (Ne.symm c)]
def iK{b:Nat}{x:Obj}(a:b<w.heap.size):(setBlock w b x).heap[b]?=some x:=World.putObj_heap_same a
def eV{b:Nat}{x:Obj}:(setBlock w b x).heap.size=w.heap.size:=by simp[setBlock]
def xB{L:Nat}{r r':Loop}(hl:w.heap[L]?=some (Obj.loop r))(b o:Nat):(setBlock w L (.loop r')).cell? ⟨b,o,none⟩=w.cell? ⟨b,o,none⟩:=by
 by_cases e:b=L
 ·subst e;rw[zq hl,zq (iK (zpa.1 hl).1)]
 ·simp only[World.cell?,fj e]
def Rp.setLp(h:Rp w0 S γ β s a w){id L:Nat}(x:γ id=some L){r:Loop}(hl:w.heap[L]?=some (Obj.loop r))(r':Loop):Rp w0 S γ β (s.setOb id none) a (setBlock w L (.loop r')):=by
 have hle:Cx.le ⟨w,S,γ,β,s.ob,s.dead⟩ ⟨setBlock w L (.loop r'),S,γ,β,(s.setOb id none).ob,s.dead⟩:=by
  refine⟨λb o _=>xB hl b o,λ_ _ j=>j,λ_ _ j=>j,λi y z _=>⟨y,?_,λp=>⟨rfl,rfl⟩,λt l e=>⟨l,e,rfl⟩,λ_ _ l e=>⟨l,e⟩⟩,λv q=>⟨q,λc e he=>⟨he,λn hn=>?_⟩⟩⟩
  ·simp_all [St.setOb]
  ·have g:c≠L:=λu=>h.βγ v id c e q he (u ▸ x);have k:=hn;simp only[rA,ck,fj g] at k ⊢;exact k
 refine⟨pT h.ext rfl rfl rfl (by rw[eV];exact zja _) (zja _) (λc d=>fj λe=>(h.γn id L x).1 (e ▸ d)),λt ht=>(h.tms t ht).mono hle,h.nt,h.tmu,λi y c z d=>?_,λi c d=>by rw[eV];exact h.γn i c d,h.γi,h.γf,
  λv c e q he=>by rw[eV];exact h.βn v c e q he,h.βi,h.βγ,h.βf,λc o j=>by rw[eV];exact h.Sb c o j,h.So⟩
 have m:i≠id/\s.ob i=some y:=by all_goals simp_all [St.setOb]
 have g:c≠L:=λu=>m.1 (h.γi i id c d (u ▸ x));exact(h.obs i y c m.2 d).mono hle (fj g) λ_ hh=>hh
def Fm.setLp(h:Rp w0 S γ β s a w){s1:St}{L:Nat}{r r':Loop}(hl:w.heap[L]?=some (Obj.loop r))(he:Ev r r'):Fm s1 S γ a w S γ a (setBlock w L (.loop r')):=by
 have d:=(zpa.1 hl).1;refine⟨λ_ _ c=>c,λb o _=>xB hl b o,λ_ _=>rfl,λi _ b c=>⟨c,?_⟩,by rw[eV];exact zja _,λ_ _ c=>c,me.same rfl λb=>?_⟩
 ·by_cases e:b=L
  ·subst e;exact .inr ⟨r,r',hl,iK d,he⟩
  ·exact .inl (fj e)
 ·by_cases e:b=L
  ·subst e;exact⟨λc=>(by rw[hl] at c;cases c),λ_=>⟨r',iK d⟩⟩
  ·simp_all [fj]
theorem Rp.leaveY(h:Rp w0 S γ β s a w){id L:Nat}{i:LpI}{p:Option Ex}(l:γ id=some L)(k:gF ⟨w,S,γ,β,s.ob,s.dead⟩ L (.lp i p)):Rp w0 S γ β (leaveY s id i p) a w:=by
 refine⟨h.ext,λt ht=>by simp only[Sy.leaveY,AR],h.nt,λt ht=>rfl,λj o b g d=>?_,h.γn,h.γi,h.γf,h.βn,h.βi,h.βγ,h.βf,h.Sb,h.So⟩
 have c:(if j=id then some (Ob.lp i p) else s.ob j)=some o:=g
 by_cases e:j=id
 ·subst e;rw[zla rfl] at c;cases c;rw[l] at d;cases d;exact k.anyOb _
 ·rw[zia e] at c;exact(h.obs j o b c d).anyOb _
def yo(s:St)(id:Nat)(i:LpI)(p:Option Ex):leaveY (s.setOb id none) id i p=leaveY s id i p:=by simp_all [St.setOb,leaveY]
theorem xq{c:Cx}:∀ (l:List (Nat×AV)) (l':List (Nat×Value)) (f:Nat->AV) (T:Array Value),l.length=l'.length->(∀ (i p:Nat) (x:AV) (q:Nat) (v:Value),l[i]?=some (p,x)->l'[i]?=some (q,v)->p=q/\AR c x v) ->
  (∀ t,t<T.size->AR c (f t) (T.getD t undef))->(l'.foldl (λtmps p=>tmps.setIfInBounds p.1 p.2) T).size=T.size/\∀ t,t<T.size->AR c (mG l f t) ((l'.foldl (λtmps p=>tmps.setIfInBounds p.1 p.2) T).getD t undef)
 | [],[],f,T,_,_,h=>⟨rfl,h⟩
 | [],_::_,f,T,hl,_,_=>by simp at hl
 | _::_,[],f,T,hl,_,_=>by simp at hl
 | (p,x)::l,(q,v)::l',f,T,hl,hx,h=>by
  obtain⟨e,b⟩:=hx 0 p x q v rfl rfl;subst e;simp only[zzc,mG];obtain⟨h1,d⟩:=xq l l' (λt=>if t=p then x else f t) (T.setIfInBounds p v) (by simpa using hl) (λi=>hx (i+1)) λt ht=>by
   have a:t<T.size:=by simpa using ht
   by_cases e:t=p
   ·simp_all
   ·simp_all [Array.getD,Array.getInternal_eq_getElem,Array.getElem_setIfInBounds_ne,Ne.symm]
  simp_all
theorem uP:∀ (l:List (Nat×AV)) (f:Nat->AV) (n t:Nat),(∀ p∈l,p.1<n)->n<=t->mG l f t=f t
 | [],f,n,t,_,_=>rfl
 | (p,x)::l,f,n,t,h,ht=>by
  simp only[mG];rw[uP l _ n t (λq hq=>h q (by simp[hq])) ht]
  have:=h (p,x) j2
  grind
theorem mc(h:Rp w0 S γ β s a w):∀ (l:List Operand) (i:Nat) (x:AV) (v:Value),(l.map s.opA)[i]?=some x->(l.map a.eval)[i]?=some v->AR ⟨w,S,γ,β,s.ob,s.dead⟩ x v
 | [],i,x,v,hx,_=>by simp at hx
 | y::l,0,x,v,hx,b=>by simp at hx b;subst hx;subst b;exact aW h y
 | y::l,i+1,x,v,hx,b=>by simp only[z4a,znb] at hx b;exact mc h l i x v hx b
theorem Fm.less{s s2:St}{S':Nat->Nat->Prop}{γ':Nat->Option Nat}{a':Act}{w':World}(h:Fm s S γ a w S' γ' a' w')(c:∀ t∈s2.lkS,t∈s.lkS)(b:∀ t∈s2.lkO,t∈s.lkO):Fm s2 S γ a w S' γ' a' w':=
 ⟨h.sub,h.cell,λt ht=>h.slots t (c t ht),λid hid=>h.objs id (b id hid),h.sz,h.gam,h.dfs.less b⟩
def vS(c:Cx)(b:Bool):AR c (.d .bool (.bool b)) (.bool b):=ij _
theorem NM(hE:EnvOk P E)(h:Rp w0 S γ β s a w){o:Oper}{c:Call}(a3:o.op=.call c){id:Nat}{i:LpI}{X:List AV}(H:Wj s c=some (id,i,X)){R:Type}{K:AV->St->Option R}{r:R}{an:Ann}(F:evY E an s id i X K=some r)
  {next:Act->World->Prop} {Q:Exit->Act->World->Prop}
  (hk:∀ y v s' S' γ' β' w',K y s'=some r->Rp w0 S' γ' β' s' a w'->AR ⟨w',S',γ',β',s'.ob,s'.dead⟩ y v->Fm s S γ a w S' γ' a w'->Sk s s'->next (a.put o.dst v) w'):o.wpIn (FW ro) nn P a w next Q:=by
 obtain⟨dst,op,ty,pos,after,guard⟩:=o;simp only at a3;subst a3;obtain⟨callee,args,argTypes⟩:=c;unfold Wj at H;split at H<;>try(cases H;done)
 rename_i t hc;simp only at hc;subst hc;split at H<;>try(cases H;done)
 rename_i g ht;split at H<;>try(cases H;done)
 rename_i z bh;simp only[zca,Prod.mk.injEq] at H;obtain⟨rfl,rfl,rfl⟩:=H;have hA:=aW h (.tmp t);have ad:AR ⟨w,S,γ,β,s.ob,s.dead⟩ (.yld g) (a.eval (.tmp t)):=by rw[<-ht];exact hA
 simp only[AR,AC] at ad;obtain⟨na,L,ba,hγ⟩:=ad;have hv:=ap na ba;have hO:=h.obs g _ L bh hγ;simp only[gF] at hO;obtain⟨rec,hl,⟨p1,p2,p3,p4⟩,I,bz,bx⟩:=hO;unfold evY at F;split at F<;>try(cases F;done)
 rename_i M;obtain⟨hlen,bj,bm⟩:=M;have N:args.size=rec.params.size:=by grind
 have bs:=run_yield (P:=P) (args:=(args.map a.eval)) hl (by simpa using N)
 refine⟨λ_ _=>trivial,?_⟩;have a4:((⟨dst,.call ⟨.value (.tmp t),args,argTypes⟩,ty,pos,after,guard⟩:Oper).semAt (FW ro).round a.eval).run P w=.ok (.round L rec.fn ((rec.params.zip (args.map a.eval)).foldl (λtmps (t,a)=>tmps.setIfInBounds t a) rec.tmps) rec.assign rec.body) w:=by
  rw[Oper.semAt_eq _ _ _ (λc=>j2)]
  simp only[execOp,resolve,hv];simpa [Deferred.ofValue,invoke,go_sem] using bs
 rw[a4];simp only[Oper.uponIn];refine⟨λh=>(by cases h),?_⟩
 obtain⟨T,hT⟩:∃ T,T=(rec.params.zip (args.map a.eval)).foldl (λtmps (t,a)=>tmps.setIfInBounds t a) rec.tmps:=⟨_,rfl⟩;rw[<-hT];refine RoundIn.mono (R:=λen a7=>∃ v,en=.returned v/\next (a.put dst v) a7) ?_ (λen a7 ⟨v,he,hn⟩=>by subst he;exact hn)
 refine roundIn_of_wpIn trivial ?_;rw[p3,p4];obtain⟨W,m⟩:∃ W,W=yz s []:=⟨_,rfl⟩;obtain⟨sh,a5⟩:∃ sh:Nat->Prop,sh=λb=>(∃ id,γ id=some b)\/∃ v e,v ∉ W++s.dead/\β v=some (b,e):=⟨_,rfl⟩;have J:T.size=rec.tmps.size/\∀ t,t<rec.tmps.size->AR ⟨w,S,γ,β,s.ob,W++s.dead⟩ ((L7 s z g (args.toList.map s.opA)).tm t) (T.getD t undef):=by
  have key:=xq (c:=⟨w,S,γ,β,s.ob,W++s.dead⟩) (z.ps.zip (args.toList.map s.opA)) (z.ps.zip (args.toList.map a.eval)) (λt=>if t<z.nt then pj s.ob (z.caps t) else .undef) rec.tmps j2 (λj p x q v hx hv=>by
   rw[List.getElem?_zip_eq_some] at hx hv;refine⟨by have:=hx.1.symm.trans hv.1;simpa using this,?_⟩
   refine AR.mono (c:=⟨w,S,γ,β,s.ob,s.dead⟩) (c':=⟨w,S,γ,β,s.ob,W++s.dead⟩) ⟨λ_ _ _=>rfl,λ_ _ hb=>hb,λ_ _ hb=>hb,λid o ho _=>⟨o,ho,λp=>⟨rfl,rfl⟩,λt l e=>⟨l,e,rfl⟩,λ_ _ l e=>⟨l,e⟩⟩,λu hu=>⟨λhh=>hu (z9a _ hh),λb e he=>⟨he,λn hn=>hn⟩⟩⟩ (mc h _ j x v hx.2 hv.2))
   (λt ht=>by
    rw[zla u0]
    exact Co (c:=⟨w,S,γ,β,s.ob,s.dead⟩) (I t u0))
  have e:T=(z.ps.zip (args.toList.map a.eval)).foldl (λtmps p=>tmps.setIfInBounds p.1 p.2) rec.tmps:=by rw[hT,<-p2,<-Array.foldl_toList,Array.toList_zip,Array.toList_map]
  rw[e];exact key
 have bl:=J.1.trans p1;have RI:Rp ⟨w,S,sh⟩ S γ β (L7 s z g (args.toList.map s.opA)) ⟨T,[]⟩ w:=by
  refine Hf h m a5 (λj o hj=>hj) rfl (by rw[m,Eh];rfl) bl (λu hu=>?_) (λu hu=>J.2 u (by rw[<-J.1];exact hu))
  have bp:z.nt<=u:=hu;show mG _ _ u=.undef;rw[uP _ _ z.nt u (λp hp=>by have h1:=(List.of_mem_zip (a:=p.1) (b:=p.2) hp).1;have:=zya.1 bj _ h1;simpa using this) bp,zia u0]
 refine hE.cod (some L) (nn-1) ⟨w,S,sh⟩ z.asg an.fst R _ S γ β _ _ w _ r (λl e=>by cases e;exact⟨rec,hl⟩) RI F λe s1 S1 γ1 β1 a1 w1 n1 n2 O V=>?_
 cases e with
 | exit j=>cases V
 | ret=>cases V
 | normal=>
 simp only at V;split at V<;>try(cases V;done)
 rename_i i1 aO;simp only[LH,Exit.then];obtain⟨g1,st1⟩:=n2.objs g zBa L hγ;have al:=n1.obs g _ L aO g1;simp only[gF] at al;obtain⟨f,B,_,_,a6,bv⟩:=al;have Y:Ev rec f:=by
  rcases st1 with k|⟨r,r',k1,k2,U⟩
  ·rw[B,hl] at k;cases k;exact⟨rfl,rfl,rfl,rfl⟩
  ·rw[hl] at k1;cases k1;rw[B] at k2;cases k2;exact U
 refine⟨_,run_beginRound B a6,?_⟩;have a8:=(zpa.1 B).1;have M1:=n1.setLp g1 B { f with state:=.busy };have F1:=Fm.setLp n1 (s1:=s1) B (r':={ f with state:=.busy }) ⟨rfl,rfl,rfl,rfl⟩;have a0:(setBlock w1 L (.loop { f with state:=.busy })).heap[L]?=some (.loop { f with state:=.busy }):=iK a8;show Code.wpIn (FW (some L)) (nn-1) P z.bdy _ a1 (setBlock w1 L (.loop { f with state:=.busy }));generalize setBlock w1 L (.loop { f with state:=.busy })=w2 at M1 F1 a0 ⊢;have aI:s1.lkO=g::s.lkO:=O.lkO;refine hE.cod (some L) (nn-1) ⟨w,S,sh⟩ z.bdy an.snd R _ S1 γ1 β1 _ a1 w2 _ r (λl e=>by cases e;exact⟨_,a0⟩) M1 V λe s2 S2 γ2 β2 a2 w3 m1 G m3 m4=>?_
 obtain⟨g2,st2⟩:=G.objs g (by rw[show(s1.setOb g none).lkO=s1.lkO from rfl,aI];exact zBa) L g1
 obtain⟨A,C,e3⟩:∃ A,w3.heap[L]?=some (Obj.loop A)/\Ev rec A:=by
  rcases st2 with k|⟨r,r',k1,k2,U⟩
  ·exact⟨_,k.trans a0,Y⟩
  ·rw[a0] at k1;cases k1;exact⟨r',k2,U.1.trans Y.1,U.2.1.trans Y.2.1,U.2.2.1.trans Y.2.2.1,U.2.2.2.trans Y.2.2.2⟩
 have a9:=(zpa.1 C).1;have F2:=(n2.trans (F1.less (s2:=s1) (λ_ h=>h) (λ_ h=>h)) O.lkS O.lkO).trans (s1:=s1) (G.less (λ_ h=>h) (λ_ h=>h)) O.lkS O.lkO;have fin:∀ (d:Loop) (p:Option Ex) (v:Value) (y:AV),Ev A d->LpD p d->(∀ c,AR c y v)->K y (pL s (leaveY s2 g z p) [])=some r->next (a.put dst v) (setBlock w3 L (.loop d)):=by
  intro d p v y Z hd bt hK;have D:Ev rec d:=⟨Z.1.trans e3.1,Z.2.1.trans e3.2.1,Z.2.2.1.trans e3.2.2.1,Z.2.2.2.trans e3.2.2.2⟩;have F3:=F2.trans (Fm.setLp m1 (s1:=s2) C Z) (m3.lkS.trans O.lkS) (m3.lkO.trans O.lkO);have M2:=m1.setLp g2 C d;have ax:(setBlock w3 L (.loop d)).heap[L]?=some (.loop d):=iK a9;generalize setBlock w3 L (.loop d)=w4 at F3 M2 ax ⊢;have M3:=M2.leaveY (i:=z) (p:=p) g2 (by
   simp only[gF];refine⟨d,ax,⟨by rw[D.1];exact p1,by rw[D.2.1];exact p2,by rw[D.2.2.1];exact p3,by rw[D.2.2.2];exact p4⟩,λu hu=>?_,hd⟩
   rw[D.1];exact gg.mono (c:=⟨w,S,γ,β,s.ob,s.dead⟩) F3.cell F3.sub F3.gam (I u hu))
  rw[yo] at M3;obtain⟨β'',B1,B2⟩:=Gx h m a5 (by rw[m,Eh];exact bm) M3 F3.sub F3.cell F3.gam F3.sz
  exact hk y v _ S2 γ2 β'' w4 hK B1 (bt _) ⟨F3.sub,F3.cell,λ_ _=>rfl,λj hj=>F3.objs j (zsa _ hj),F3.sz,F3.gam,me.same rfl F3.dfs.1⟩ ⟨rfl,rfl,rfl⟩
 cases e with
 | normal=>exact⟨_,_,run_endRound none C,_,rfl,fin _ none _ _ ⟨rfl,rfl,rfl,rfl⟩ ⟨rfl,rfl⟩ (λc=>vS c true) m4⟩
 | ret=>exact⟨_,_,run_endRound (some .ret) C,_,rfl,fin _ (some .ret) _ _ ⟨rfl,rfl,rfl,rfl⟩ ⟨rfl,rfl⟩ (λc=>vS c false) m4⟩
 | exit j=>exact⟨_,_,run_endRound (some (.exit j)) C,_,rfl,fin _ (some (.exit j)) _ _ ⟨rfl,rfl,rfl,rfl⟩ ⟨rfl,rfl⟩ (λc=>vS c false) m4⟩
def Rp.later(h:Rp w0 S γ β s a w):Rp w0 S γ β (yg s) a w:=by
 have q:∀ i,((yg s):St).base+4096<=i->s.base+4096<=i:=λi hi=>by exact zva (Nat.add_le_add_right (zJa 4096 (zHc s.fresh)) 4096) hi
 exact⟨h.ext,h.tms,h.nt,h.tmu,h.obs,h.γn,h.γi,λi hi=>h.γf i (q i hi),h.βn,h.βi,h.βγ,λv b=>h.βf v (q v b),h.Sb,h.So⟩
end
end
end Sy
end
noncomputable section
namespace Sy
open Go
section
variable{l:List (Nat×Oper)}{Q:Exit->Act->World->Prop}
variable{ro:Option Nat}{nn:Nat}
theorem QY{E:Env}{ops:Array Oper}{N:Nat}{R:Type}{i:Nat}{o:Oper}{s:St}{k:St->Option R}{r:R}(V:o.guard=none)(j:nY E s i o l=true){an:Ann}(h:fV E (N+1) R ops an ((i,o)::l) s k=some r) :
  ∃ e L f g Z Y,l=e++(L,f)::g/\iE o=true/\(∀ p∈e,iE p.2=true)/\iE f=true/\seqV E ops (o::(e.map Prod.snd++[f])) s=some Z/\Wk Z Y/\fV E N R ops an g Y k=some r:=by
 simp only[fV,V,j,if_true] at h;simp only[nY,X] at j;obtain⟨_,a⟩:=j;obtain⟨O,P⟩:=kj o.dst l;generalize eC o.dst l=sp at *;obtain⟨e,rest⟩:=sp;simp only at h O P a;split at h<;>try(cases h;done)
 rename_i _ _ L f g d U;simp only[U] at a;simp only[X,zea,zEa,zya] at a;obtain⟨⟨⟨⟨⟨c1,c2⟩,c3⟩,cI⟩,y⟩,c5⟩:=a;have a0:=mH c3;have H:=P _ _ rfl;obtain⟨pc,px,py,G⟩:=uK H;unfold UO at h;split at h<;>try(cases h;done)
 rename_i F;rw[rV E s a0] at h;obtain⟨v,h3,Q⟩:=ji h;rw[U] at Q;obtain⟨c,S,h6⟩:=ab Q;rw[vJ c1] at S;have hv:=kp S;subst hv;obtain⟨x,T,h8⟩:=ab h6;have I:∀ b,b=c->(s.put (some d) (.d .bool (.bool c))).put (some d) (.d .bool (.bool b))=s.put (some d) (.d .bool (.bool c)):=λb hb=>xr (by rw[vJ c1,hb])
 have m:∃ w:St->Option Bool,(∀ s2,w s2=qv E s2 f AV.truth)/\fV E N Bool ops .leaf e (s.put (some d) (.d .bool (.bool c))) w=some x:=by all_goals grind
 obtain⟨w,D,T⟩:=m;obtain⟨s2,M,N2,C,z,q⟩:=wK N Bool e _ w x e.length .leaf (zja _) (λp hp=>by rw[z8a] at hp;exact⟨mH (y p hp).1.1,(y p hp).2⟩) (.inl λp hp=>by simp at hp) T
 rw[zFc] at q;rw[z8a] at C;have t:w M=some x:=by cases N2<;>simpa [fV] using q
 rw[D] at t;obtain⟨v2,A,B⟩:=ji t;have ax:=kp B;obtain⟨v3,ad,al⟩:=z.qv A;have J:v3=.d .bool (.bool x):=by all_goals simp_all
 subst J;have K:Wk (s2.put f.dst (.d .bool (.bool x))) ((killD (s.put (some d) (.d .bool (.bool c))) (e.map Prod.snd)).put f.dst (.d .bool (.bool x))):=(lS _ C).put f.dst (.inl rfl);have u:val E ops s o=some (.d .bool (.bool c)):=by unfold val;rw[zia F,V];exact h3
 have W:¬ pA s2 f=true:=by
  have:s2.lkS=s.lkS:=by
   have w1:=(lS _ C).lkS;have w2:∀ (l:List Oper) (s:St),(killD s l).lkS=s.lkS:=by
    intro l
    induction l with
    | nil=>intro s;rfl
    | cons o l ih=>intro s;rw[killD,ih];exact(ak5 s o.dst .undef).2.2.2.2.1
   rw[<-w1,w2];exact(ak5 s (some d) _).2.2.2.2.1
  simp_all [pA]
 have n:val E ops s2 f=some (.d .bool (.bool x)):=by
  unfold val
  simp_all
 refine⟨e,L,f,g,_,_,O,a0,λp hp=>mH (y p hp).1.1,I4 G,?_,K,h8⟩
 simp_all [seqV,u,zba,n7,n]
section
variable{P:Program}{E:Env}{w0:Root}{S:Nat->Nat->Prop}{γ:Nat->Option Nat}{β:Nat->Option (Nat×Nat)}{s:St}{a:Act}{w:World}{ops:Array Oper}
def uv{o:Oper}(h:Rp w0 S γ β s a w):(o.guard=none->Region.wanted o (yielded ops a.tmps)=true) ∧
  (∀ j want g c,o.guard=some (j,want)->(ops[j]?).bind (·.dst)=some g->(s.tm g).truth=some c->Region.wanted o (yielded ops a.tmps)=(c==want)) ∧
  ∀ j want g,o.guard=some (j,want)->(ops[j]?).bind (·.dst)=some g->s.tm g=.gone->Region.wanted o (yielded ops a.tmps)=false:=by
 refine⟨λd=>by simp[Region.wanted,d],λj want g c d h1 e=>?_,λj want g d h1 e=>?_⟩
 rotate_left
 ·have b:AR ⟨w,S,γ,β,s.ob,s.dead⟩ (s.tm g) (a.eval (.tmp g)):=aW h (.tmp g);rw[e] at b;have f:a.eval (.tmp g)=undef:=b;simp only[Act.eval] at f;simp only[Region.wanted,d,yielded,h1,zba];by_cases hlt:g<a.tmps.size
  ·have i:a.tmps[g]?=some undef:=by
    simp_all
   rw[i];rfl
  ·simp_all
 obtain⟨b,_⟩:=rj e (aW h (.tmp g));have i:a.tmps[g]?=some (.bool c):=by
  simp only[Act.eval] at b;by_cases hlt:g<a.tmps.size
  ·simp_all
  ·exfalso;have:s.tm g=.undef:=h.tmu g (by rw[<-h.nt];exact Nat.le_of_not_lt hlt)
   simp_all
 simp_all [Region.wanted,yielded,zba]
theorem Gd(k:EnvOk P E)(h:Rp w0 S γ β s a w){o:Oper}(l:Fr E s γ β o){v:AV}(hq:val E ops s o=some v) :
  (Region.wanted o (yielded ops a.tmps)=true->eY P o a w λu w'=>∃ S' γ' β',Rp w0 S' γ' β' (s.put o.dst v) (a.put o.dst u) w'/\Fm s S γ a w S' γ' (a.put o.dst u) w'/\(∀ id,o.dst≠some (id-s.base)\/id<s.base->γ' id=γ id/\β' id=β id)) ∧
  (Region.wanted o (yielded ops a.tmps)=false->Rp w0 S γ β (s.put o.dst v) (a.put o.dst undef) w/\Fm s S γ a w S γ (a.put o.dst undef) w):=by
 unfold val at hq;split at hq<;>try(cases hq;done)
 rename_i i;have b:∀ t∈s.lkS,o.dst≠some t:=λt ht e=>i (by simp[pA,e];exact ht)
 have main:qv E s o some=some v->eY P o a w λu w'=>∃ S' γ' β',Rp w0 S' γ' β' (s.put o.dst v) (a.put o.dst u) w'/\Fm s S γ a w S' γ' (a.put o.dst u) w'/\(∀ id,o.dst≠some (id-s.base)\/id<s.base->γ' id=γ id/\β' id=β id):=by
  intro hq;obtain⟨s',h1,f⟩:=y7 k h l (λT t _ ht=>k.flat T t ht) b (K:=some) (r:=s.put o.dst v) (by rw[MU,hq];rfl)
  cases h1;exact f.2.2.2.2.2
 have skip:Rp w0 S γ β (s.put o.dst .gone) (a.put o.dst undef) w/\Fm s S γ a w S γ (a.put o.dst undef) w:=
  ⟨h.put (by simp[AR]) o.dst,λ_ _ d=>d,λ_ _ _=>rfl,λt ht=>ct (b t ht),λ_ _ _ d=>⟨d,kw.refl _ _⟩,zja _,λ_ _ d=>d,me.same ca (dM.refl _)⟩
 obtain⟨w1,q,x⟩:=uv (ops:=ops) (o:=o) h;cases hg:o.guard with
 | none=> simp_all
 | some p=>
  obtain⟨j,want⟩:=p;rw[hg] at hq;simp only at hq;obtain⟨g,h1,f⟩:=ab hq;by_cases hgo:s.tm g=.gone
  ·grind [gw]
  rw[gz hgo] at f;obtain⟨c,m,n⟩:=ab f;all_goals grind
def JM(E:Env)(s:St)(γ:Nat->Option Nat)(β:Nat->Option (Nat×Nat))(l:List Oper):Prop:=∀ o∈l,Fr E s γ β o
def Fr.keep{o o':Oper}{s':St}{γ':Nat->Option Nat}{β':Nat->Option (Nat×Nat)}(h:Fr E s γ β o')(i:∀ d,o'.dst=some d->o.dst≠some d)(b:s'.fresh=s.fresh)
  (c:∀ id,γ id=none->o.dst≠some (id-s.base)\/id<s.base->s'.ob id=s.ob id) (hk:∀ id,o.dst≠some (id-s.base)\/id<s.base->γ' id=γ id/\β' id=β id):Fr E s' γ' β' o':=by
 intro hc d a;obtain⟨h1,e,f,g⟩:=h hc d a
 simp_all [St.base,zxb]
structure Sm(s s':St):Prop where
 lkS:s'.lkS=s.lkS
 lkO:s'.lkO=s.lkO
 fresh:s'.fresh=s.fresh
 nt:s'.nt=s.nt
def Sm.sk{s s':St}(h:Sm s s'):Sk s s':=⟨h.lkS,h.lkO,h.nt⟩
def Sm.refl(s:St):Sm s s:=⟨rfl,rfl,rfl,rfl⟩
theorem Sm.trans{a b c:St}(h:Sm a b)(k:Sm b c):Sm a c:=⟨k.lkS.trans h.lkS,k.lkO.trans h.lkO,k.fresh.trans h.fresh,k.nt.trans h.nt⟩
theorem Sm.put(s:St)(d:Option Nat)(v:AV):Sm s (s.put d v):=by obtain⟨p1,a,f,b,c,e,g⟩:=ak5 s d v;exact⟨c,e,a,b⟩
def Sm.wk{s s':St}(h:Wk s s'):Sm s s':=⟨h.lkS,h.lkO,h.fresh,h.nt⟩
theorem xi:∀ {l:List Nat},dw l=true->∀ A B x y,l=A++x::B->y∈B->y≠x
 | [],_,A,B,x,y,e,_=>by simp at e
 | a::l,h,A,B,x,y,e,b=>by
  simp only[dw,X,zEa] at h;cases A with
  | nil=> grind
  | cons a' A=> simp only[zrb,List.cons.injEq] at e;exact xi h.2 A B x y e.2 b
def gm{l:List Oper}(h:dw (l.filterMap (·.dst))=true)(A B:List Oper)(o o':Oper)(e:l=A++o::B)(c:o'∈B)(d:Nat)(b:o'.dst=some d):o.dst≠some d:=by
 intro f;subst e;have a:(A++o::B).filterMap (·.dst)=A.filterMap (·.dst)++d::B.filterMap (·.dst):=by simp_all
 exact xi h _ _ d d a (z4c.2 ⟨o',c,b⟩) rfl
def uO(E:Env)(s:St)(o:Oper):St:=match o.op,o.dst with
  | .alloc T,some d=>match E.alOb T with
   | some x=>s.setOb (s.base+d) (some x)
   | none=>s
  | _,_=>s
def uh(E:Env)(o:Oper)(l:List Oper)(s:St):gX E (o::l) s=gX E l (uO E s o):=rfl
def Rp.freeOb(h:Rp w0 S γ β s a w){id:Nat}(g:γ id=none)(o:Option Ob):Rp w0 S γ β (s.setOb id o) a w:=by
 have hle:Cx.le ⟨w,S,γ,β,s.ob,s.dead⟩ ⟨w,S,γ,β,(s.setOb id o).ob,s.dead⟩:=by
  refine⟨λ_ _ _=>rfl,λ_ _ k=>k,λ_ _ k=>k,λi x hx c=>?_,λv d=>⟨d,λb e he=>⟨he,λn hn=>hn⟩⟩⟩;simp only[St.setOb] at hx;split at hx
  ·simp_all
  ·simp_all
 refine⟨h.ext,λi hi=>(h.tms i hi).mono hle,h.nt,h.tmu,λi x b hx c=>?_,h.γn,h.γi,h.γf,h.βn,h.βi,h.βγ,h.βf,h.Sb,h.So⟩;simp only[St.setOb] at hx;split at hx
 ·simp_all
 ·exact(h.obs i x b hx c).mono hle rfl λ_ k=>k
theorem nT(E:Env)(s:St)(o:Oper):uO E s o=s\/∃ T d t,o.op=.alloc T/\o.dst=some d/\E.alOb T=some t/\uO E s o=s.setOb (s.base+d) (some t):=by all_goals grind [uO]
def MO(h:Rp w0 S γ β s a w)(b:∀ d,γ (s.base+d)=none)(o:Oper):Rp w0 S γ β (uO E s o) a w/\Sm s (uO E s o):=by
 rcases nT E s o with e|⟨T,d,t,_,_,_,e⟩
 ·rw[e];exact⟨h,Sm.refl s⟩
 ·rw[e];exact⟨h.freeOb (b d) _,rfl,rfl,rfl,rfl⟩
def Sm.base_eq{s s':St}(h:Sm s s'):s'.base=s.base:=by simp only[St.base,h.fresh]
def Br(l:List Oper){s:St}(h:Rp w0 S γ β s a w)(c:∀ d,γ (s.base+d)=none):Rp w0 S γ β (gX E l s) a w/\Sm s (gX E l s):=by
 induction l generalizing s with
 | nil=>exact And.intro h (Sm.refl s)
 | cons o l ih=>
  rw[uh];obtain⟨h1,b⟩:=MO (E:=E) h c o;obtain⟨e,f⟩:=ih h1 (by rw[b.base_eq];exact c)
  exact⟨e,b.trans f⟩
theorem qR:∀ (l:List Oper) {s:St} {d:Nat},(∀ o∈l,o.dst≠some d)->(gX E l s).ob (s.base+d)=s.ob (s.base+d)
 | [],s,d,_=>rfl
 | o::l,s,d,h=>by
  rw[uh];rcases nT E s o with e|⟨T,d',t,_,b,_,e⟩
  ·rw[e];exact qR l λo a=>h o (by simp[a])
  ·rw[e];have:=qR l (s:=s.setOb (s.base+d') (some t)) (d:=d) λo a=>h o (by simp[a])
   have c:(s.setOb (s.base+d') (some t)).base=s.base:=rfl;rw[c] at this;rw[this];have f:d'≠d:=λe=>h o j2 (by rw[b,e])
   simp only[St.setOb];grind
theorem vH:∀ (l:List Oper) {s:St} {o:Oper} {T:TypeId} {d:Nat} {t:Ob},dw (l.filterMap (·.dst))=true->o∈l->o.op=.alloc T->o.dst=some d->E.alOb T=some t->(gX E l s).ob (s.base+d)=some t
 | [],_,_,_,_,_,_,h,_,_,_=>by cases h
 | x::l,s,o,T,d,t,hn,j,f,b,g=>by
  have c:dw (l.filterMap (·.dst))=true:=by
   rw[List.filterMap_cons] at hn;split at hn
   ·exact hn
   ·simp_all [dw,X]
  rw[uh];have i:(uO E s x).base=s.base:=by rcases nT E s x with e|⟨_,_,_,_,_,_,e⟩<;>rw[e]<;>rfl
  rcases zOa.1 j with rfl|a
  ·rw[<-i,qR l λo' a=>λe=>gm hn [] l o o' rfl a d e b]
   simp_all [uO,f,b,g,St.setOb]
  ·rw[<-i];exact vH l c a f b g
def GB{E:Env}{s0:St}{n:Nat->Option Nat}{m:Nat->Option (Nat×Nat)}(h:Rp w0 S γ β s a w)(hn:dw ((l.map Prod.snd).filterMap (·.dst))=true)(j:∀ o∈l.map Prod.snd,Fr E s0 n m o):Rp w0 S γ β (gX E (l.map Prod.snd) (yg s)) a w/\Sk s (gX E (l.map Prod.snd) (yg s))/\∀ o∈l.map Prod.snd,Fr E (gX E (l.map Prod.snd) (yg s)) γ β o:=by
 have p:(yg s).base=s.base+4096:=by simp only[yg,St.base];omega
 obtain⟨k,c⟩:=Br (E:=E) (l.map Prod.snd) h.later (λd=>h.γf _ u0)
 refine⟨k,⟨c.lkS,c.lkO,c.nt⟩,λo' b hc d e=>?_⟩;rw[c.base_eq];refine⟨(j o' b hc d e).1,h.γf _ u0,h.βf _ u0,λT t g i=>vH _ hn b g e i⟩
theorem BF(k:EnvOk P E):∀ (l b:List Oper) {S:Nat->Nat->Prop} {γ:Nat->Option Nat} {β:Nat->Option (Nat×Nat)} {s:St} {a:Act} {w:World} {s':St},Rp w0 S γ β s a w->JM E s γ β (l++b)->(∀ (A B:List Oper) o o',l++b=A++o::B->o'∈B->∀ d,o'.dst=some d->o.dst≠some d)->seqV E ops l s=some s' ->
  (∀ S' γ' β' a' w',Rp w0 S' γ' β' s' a' w'->Fm s S γ a w S' γ' a' w'->Sm s s'->JM E s' γ' β' b->wpListIn (FW ro) nn P ops Q b a' w')->wpListIn (FW ro) nn P ops Q (l++b) a w
 | [],b,S,γ,β,s,a,w,s',h,i,_,hq,hk=>by simp only[seqV,zca] at hq;subst hq;exact hk S γ β a w h (Fm.refl _ _ _ _ _) (Sm.refl s) (by simpa using i)
 | o::l,b,S,γ,β,s,a,w,s',h,i,K,hq,hk=>by
  simp only[seqV] at hq;obtain⟨v,h1,F⟩:=ab hq;have n:=i o j2
  obtain⟨H,I⟩:=Gd k h n h1;have m:∀ o'∈l++b,∀ d,o'.dst=some d->o.dst≠some d:=λo' c=>K [] (l++b) o o' rfl c;have g:∀ (A B:List Oper) x j,l++b=A++x::B->j∈B->∀ d,j.dst=some d->x.dst≠some d:=λA B x j e hx=>K (o::A) B x j (by simp[e]) hx
  have p:=ak5 s o.dst v;have f:∀ {γ':Nat->Option Nat} {β':Nat->Option (Nat×Nat)},(∀ id,o.dst≠some (id-s.base)\/id<s.base->γ' id=γ id/\β' id=β id)->JM E (s.put o.dst v) γ' β' (l++b):=λhk o' c=> (i o' (by simp only[zrb,zOa];exact .inr c)).keep (m o' c) p.2.1 (λid _ _=>by rw[p.1]) hk
  simp only[zrb,wpListIn];split
  ·rename_i hw;refine(bI (H hw) λu w' ⟨S',γ',β',m1,G,m3⟩=>?_);exact BF k l b m1 (f m3) g F λS2 D C a2 z q r t y=>hk S2 D C a2 z q (G.trans r p.2.2.2.2.1 p.2.2.2.2.2.1) ((Sm.put s o.dst v).trans t) y
  ·rename_i hw;obtain⟨m1,G⟩:=I (by simpa using hw)
   exact⟨λ_ _=>trivial,BF k l b m1 (f λid _=>⟨rfl,rfl⟩) g F λS2 D C a2 z q r t y=>hk S2 D C a2 z q (G.trans r p.2.2.2.2.1 p.2.2.2.2.2.1) ((Sm.put s o.dst v).trans t) y⟩
theorem nu{c:Cx}:∀ (l:List AV) (caps:List Value),l.all gA=true->oZ c l caps->l.length=caps.length/\∀ (i:Nat) (x:AV) (v:Value),l[i]?=some x->caps[i]?=some v->AR c x v
 | [],caps,_,h=>by simp_all [oZ]
 | y::l,caps,hp,h=>by
  simp only[oZ] at h;obtain⟨v0,c2,rfl,h1,d⟩:=h;simp only[zMb,X] at hp;obtain⟨f,g⟩:=nu l c2 hp.2 d;refine⟨by simp[f],λi x v hx a=>?_⟩
  cases i with
  | zero=>
   simp at hx a;subst hx;subst a;cases y<;>simp only[gA] at hp<;>first|(cases hp.1;done)|skip
   simp only[AC] at h1;obtain⟨b,off,e,j⟩:=h1;simp only[List.cons.injEq,and_true] at e;grind [AR,AC,Value.cells]
  | succ i=>simp only[znb] at hx a;exact g i x v hx a
def Vm(hE:EnvOk P E)(h:Rp w0 S γ β s a w){o:Oper}{c:Call}(hop:o.op=.call c)(hlk:∀ t∈s.lkS,o.dst≠some t){R:Type}{K:St->Option R}{r:R}{an:Ann}
  (hev:((tV s c).bind λq=>(E.inl q.1).bind λg=>g an R s q.2 λv s'=>K (s'.put o.dst v))=some r) :
  eY P o a w λu w'=>∃ s' S' γ' β',K s'=some r/\Rp w0 S' γ' β' s' (a.put o.dst u) w'/\Fm s S γ a w S' γ' (a.put o.dst u) w'/\Sk s s':=by
 obtain⟨⟨f,avs⟩,h1,hev1⟩:=ab hev;clear hev;obtain⟨g,h2,hev2⟩:=ab hev1;clear hev1;simp only at h2 hev2;obtain⟨⟨fn,f1,f2,f3⟩,hI⟩:=hE.inl f g h2;have key:∃ vs:List Value,avs.length=vs.length/\(∀ (i:Nat) (x:AV) (v:Value),avs[i]?=some x->vs[i]?=some v->AR ⟨w,S,γ,β,s.ob,s.dead⟩ x v)/\(execOp a.eval o).run P w=.ok (.enter f vs.toArray) w:=by
  clear hev2 hI h2;have hb:¬ fn.body=none:=s6
  have f2' : ¬ fn.name = "runtime.NumGoroutine" := by simpa using f2
  obtain⟨dst,op,ty,pos,after,guard⟩:=o;simp only at hop;subst hop;obtain⟨callee,args,argTypes⟩:=c;simp only[tV] at h1;split at h1<;>try(cases h1;done)
  ·rename_i f';simp only[zca,Prod.mk.injEq] at h1;obtain⟨rfl,rfl⟩:=h1;refine⟨args.toList.map a.eval,j2,mc h _,?_⟩
   have hm:args.map a.eval=(args.toList.map a.eval).toArray:=zic j2
   simp[execOp,resolve,Act.eval,Deferred.ofValue,invoke,callFunc,f1,f2',hb,hm]
  ·rename_i t;split at h1<;>try(cases h1;done)
   rename_i f' l ht;split at h1<;>try(cases h1;done)
   rename_i hp;simp only[zca,Prod.mk.injEq] at h1;obtain⟨rfl,rfl⟩:=h1;have hA:=aW h (.tmp t);have hA':AR ⟨w,S,γ,β,s.ob,s.dead⟩ (.clo f' l) (a.eval (.tmp t)):=by rw[<-ht];exact hA
   simp only[AR,AC] at hA';obtain⟨na,caps,hcs,hcap⟩:=hA';have hv:=ap na hcs;obtain⟨k1,k2⟩:=nu l caps hp hcap;refine⟨args.toList.map a.eval++caps,by simp[k1],λi x v hx hv'=>?_,?_⟩
   ·rcases zua i (args.toList.map s.opA).length with hi|hi
    ·rw[zab hi] at hx;rw[zab (by simpa using hi)] at hv'
     exact mc h _ i x v hx hv'
    ·grind
   ·have hm:args.map a.eval=(args.toList.map a.eval).toArray:=zic j2
    simp[execOp,resolve,hv,Deferred.ofValue,invoke,callFunc,f1,f2',hb,hm]
 obtain⟨vs,k1,k2,k3⟩:=key;have hc:=hI an R w0 S γ β s a w avs vs _ r h k1 k2 hev2;unfold eY;rw[k3];refine hc.mono λe w' ⟨v,y,s',S',γ',β',e1,e2,e3,e4,e5,e6⟩=>⟨v,e1,s'.put o.dst y,S',γ',β',e2,e3.put e4 o.dst,⟨e5.sub,e5.cell,λt ht=>ct (hlk t ht),e5.objs,e5.sz,e5.gam,me.same ca e5.dfs.1⟩,?_⟩;have p:=ak5 s' o.dst y;exact⟨p.2.2.2.2.1.trans e6.lkS,p.2.2.2.2.2.1.trans e6.lkO,p.2.2.2.1.trans e6.nt⟩
theorem AM(f:EnvOk P E)(h:Rp w0 S γ β s a w){o:Oper}(d:∀ t∈s.lkS,o.dst≠some t){R:Type}{K:St->Option R}{r:R}{an:Ann}
  (b:Zp E an s o (λv s'=>K (s'.put o.dst v))=some r) {next:Act->World->Prop} 
  (hk:∀ u s' S' γ' β' w',K s'=some r->Rp w0 S' γ' β' s' (a.put o.dst u) w'->Fm s S γ a w S' γ' (a.put o.dst u) w'->Sk s s'->next (a.put o.dst u) w'):o.wpIn (FW ro) nn P a w next Q:=by
 unfold Zp at b;split at b<;>try(cases b;done)
 rename_i c e;split at b
 ·rename_i q j;obtain⟨id,i,g⟩:=q;refine NM f h e j b λy v s' S' γ' β' w' m0 m1 G m3 m4=>?_;have p:=ak5 s' o.dst y;exact hk v _ S' γ' β' w' m0 (m1.put G o.dst) ⟨m3.sub,m3.cell,λt ht=>ct (d t ht),m3.objs,m3.sz,m3.gam,me.same ca m3.dfs.1⟩ ⟨p.2.2.2.2.1.trans m4.lkS,p.2.2.2.2.2.1.trans m4.lkO,p.2.2.2.1.trans m4.nt⟩
 ·refine bI (Vm f h e d b) λu w' ⟨s',S',γ',β',m0,m1,G,m3⟩=>?_;grind
theorem AN(Y:EnvOk P E){Q:Exit->Act->World->Prop}(ax:(ops.toList.all λo=>match o.op with|.store ..=>o.dst.isNone|_=>true)=true):∀ (N:Nat) (R:Type) (l:List (Nat×Oper)) {S:Nat->Nat->Prop} {γ:Nat->Option Nat} {β:Nat->Option (Nat×Nat)} {s:St} {a:Act} {w:World} (k:St->Option R) (r:R) (an:Ann),
  Rp w0 S γ β s a w->JM E s γ β (l.map Prod.snd)->(∀ (A B:List Oper) o o',l.map Prod.snd=A++o::B->o'∈B->∀ d,o'.dst=some d->o.dst≠some d)->(∀ p∈l,p.2∈ops.toList)->fV E N R ops an l s k=some r ->
  (∀ s' S' γ' β' a' w',Rp w0 S' γ' β' s' a' w'->Fm s S γ a w S' γ' a' w'->Sk s s'->k s'=some r->Q .normal a' w')->wpListIn (FW ro) nn P ops Q (l.map Prod.snd) a w:=by
 intro N
 induction N with
 | zero=>intro R l S γ β s a w k r an _ _ _ _ h;simp[fV] at h
 | succ N ih=>
  intro R l S γ β s a w k r an h V hd z b hQ;cases l with
  | nil=> simp only[fV] at b;exact hQ s S γ β a w h (Fm.refl _ _ _ _ _) (Sk.refl s) b
  | cons p l=>
   obtain⟨i,o⟩:=p;have a4:=V o j2
   have a6:∀ T x a8,o.op=.store T x a8->o.dst=none:=λT x a8 e=>by
    have:=zya.1 ax o (z (i,o) j2)
    rw[e] at this;simpa using this
   have ad:∀ o'∈l.map Prod.snd,∀ d,o'.dst=some d->o.dst≠some d:=λo' f=>hd [] (l.map Prod.snd) o o' rfl f;have D:∀ (A B:List Oper) x X,l.map Prod.snd=A++x::B->X∈B->∀ d,X.dst=some d->x.dst≠some d:=λA B x X e hx=>hd (o::A) B x X (by simp[e]) hx
   have m:∀ p∈l,p.2∈ops.toList:=λp hp=>z p (by simp[hp])
   have run:¬ pA s o=true->ET E an l s o (λs'=>fV E N R ops (vC E o an) l s' k)=some r->o.wpIn (FW ro) nn P a w (wpListIn (FW ro) nn P ops Q (l.map Prod.snd)) Q:=by
    intro q he;have n:∀ t∈s.lkS,o.dst≠some t:=λt ht e=>q (by simp[pA,e];exact ht)
    unfold ET at he;split at he
    ·split at he;rename_i aO;refine AM (K:=λs1=>fV E N R ops (vC E o an) l s1 k) Y h n he λu s' S' γ' β' w' m0 m1 G m3=>?_;have aI:JM E s' γ' β' (l.map Prod.snd):=λo' f=>by
      obtain⟨p,hp,rfl⟩:=zmb.1 f;have:=zya.1 aO p hp;exact Gk (by simpa using this)
     exact ih R l k r _ m1 aI D m m0 λs2 S2 M L a2 I F a0 C H=>hQ s2 S2 M L a2 I F (G.trans a0 m3.lkS m3.lkO) (m3.trans C) H;split at he<;>try(cases he;done)
     rename_i a5;refine AM (K:=λs1=>fV E N R ops (vC E o an) l (gX E (l.map Prod.snd) (yg s1)) k) Y h n he λu s' S' γ' β' w' m0 m1 G m3=>?_;obtain⟨q1,q2,q3⟩:=GB (E:=E) m1 a5 λo' f=>V o' (by simp only[z4a,zOa];exact .inr f)
     exact ih R l k r _ q1 q3 D m m0 λs2 S2 M L a2 I F a0 C H=>hQ s2 S2 M L a2 I F (G.trans a0 (q2.lkS.trans m3.lkS) (q2.lkO.trans m3.lkO)) (m3.trans (q2.trans C)) H
    obtain⟨s',h1,J⟩:=ES Y h a4 (λT t _ ht=>Y.flat T t ht) n a6 he;obtain⟨f1,f2,f3,f4,f5,f6⟩:=J;refine bI f6 λu w' ⟨S',γ',β',m1,G,m3⟩=>?_;exact ih R l k r _ m1 (λo' f=>(V o' (by simp only[z4a,zOa];exact .inr f)).keep (ad o' f) f3 f5 m3) D m h1 λs2 S2 M L a2 I F a0 C H=>hQ s2 S2 M L a2 I F (G.trans a0 f1 f2) (Sk.trans ⟨f1,f2,f4⟩ C) H
   obtain⟨w1,I,w3⟩:=uv (ops:=ops) (o:=o) h;cases hg:o.guard with
   | some jw=>
    obtain⟨j,want⟩:=jw;simp only[fV,hg] at b;split at b<;>try(cases b;done)
    rename_i g a7;split at b<;>try(cases b;done)
    rename_i q;have n:∀ t∈s.lkS,o.dst≠some t:=λt ht e=>q (by simp[pA,e];exact ht)
    have p:=ak5 s o.dst .gone;have alt:(Region.wanted o (yielded ops a.tmps)=true/\(ET E an l s o λs'=>fV E N R ops (vC E o an) l s' k)=some r)\/(Region.wanted o (yielded ops a.tmps)=false/\fV E N R ops (vC E o an) l (s.put o.dst .gone) k=some r):=by
     by_cases hgo:s.tm g=.gone
     ·grind [gw]
     rw[gz hgo] at b;obtain⟨c,h1,J⟩:=ab b;replace J:=nH (A:=λs=>ET E an l s o λs'=>fV E N R ops (vC E o an) l s' k) (B:=λs=>fV E N R ops (vC E o an) l (s.put o.dst .gone) k) h1 J;all_goals grind
    rcases alt with⟨hw,J⟩|⟨hw,J⟩
    ·simp only[z4a,wpListIn,hw,if_true];exact run q J
    ·simp only[z4a,wpListIn,hw,zHa,if_false];refine⟨λ_ _=>trivial,?_⟩;exact ih R l k r _ (h.put (v:=.gone) (val:=undef) (by simp[AR]) o.dst) (λo' f=>(V o' (by simp only[z4a,zOa];exact .inr f)).keep (ad o' f) p.2.1 (λid _ _=>by rw[p.1]) λid _=>⟨rfl,rfl⟩) D m J λs2 S2 M L a2 I F a0 C H=>hQ s2 S2 M L a2 I F (Fm.trans (s1:=s.put o.dst .gone) ⟨λ_ _ Z=>Z,λ_ _ _=>rfl,λt ht=>ct (n t ht),λ_ _ _ Z=>⟨Z,kw.refl _ _⟩,zja _,λ_ _ Z=>Z,me.same ca (dM.refl _)⟩ a0 p.2.2.2.2.1 p.2.2.2.2.2.1) ((Sm.put s o.dst .gone).sk.trans C) H
   | none=>
    by_cases hgu:nY E s i o l=true
    ·obtain⟨U,jj,pk,O,s5,s3,e1,q1,q2,q3,q4,W,q6⟩:=QY hg hgu b;subst e1;have el:((i,o)::(U++(jj,pk)::O)).map Prod.snd=(o::(U.map Prod.snd++[pk]))++O.map Prod.snd:=j2
     rw[el] at V hd ⊢;refine BF Y _ _ h V hd q4 λS2 M L a2 I F a0 C H=>?_;refine ih R O k r an (F.wk W) (λo' f=>?_) (λA B x X e hx=>hd ((o::(U.map Prod.snd++[pk]))++A) B x X (by rw[e];simp) hx) (λp hp=>z p (by simp[hp])) q6 λs2 y γ3 β3 a3 w3 m1 G m3 m4=>hQ s2 y γ3 β3 a3 w3 m1 (a0.trans G (W.lkS.trans C.lkS) (W.lkO.trans C.lkO)) ((C.trans (Sm.wk W)).sk.trans m3) m4
     have:=H o' f;intro hc d a1;obtain⟨r1,r2,r3,r4⟩:=this hc d a1;rw[W.base_eq,W.ob];exact⟨r1,r2,r3,r4⟩
    ·have al:nY E s i o l=false:=by simpa using hgu
     simp only[fV,hg,al,zHa,if_false] at b;split at b<;>try(cases b;done)
     rename_i q;simp only[z4a,wpListIn,w1 hg,if_true];exact run q b
end
end
def vD{s:St}{d:Option Nat}{v:AV}{x:Operand}(h:∀ t,d=some t->x≠.tmp t):(s.put d v).opA x=s.opA x:=by
 cases x with
 | tmp t=>
  cases d with
  | none=>rfl
  | some d=>
   have a:t≠d:=λe=>h d rfl (by rw[e])
   all_goals grind [St.opA,St.put]
 | const v=>rfl
 | global g=>rfl
 | func f=>rfl
section
variable{E:Env}{s s':St}
theorem mE(a:s'.ob=s.ob)(ty:Nat->Option Ty):∀ (l:List (Nat×Operand)),(∀ p∈l,s'.opA p.2=s.opA p.2)->partsD s'.ob s' ty l=partsD s.ob s ty l
 | [],_=>rfl
 | (i,x)::l,h=>by
  have ih:=mE a ty l (λp hp=>h p (by simp[hp]))
  simp_all [partsD,ih]
theorem rX(ts:List Ty):∀ (l:List (Nat×Operand)),(∀ p∈l,s'.opA p.2=s.opA p.2)->l.all (gL s' ts)=l.all (gL s ts)
 | [],_=>rfl
 | p::l,h=>by simp only[zMb,rX ts l (λq hq=>h q (by simp[hq])),gL,h p j2]
def Fa:∀ (l:List (Nat×Operand)),(∀ p∈l,s'.opA p.2=s.opA p.2)->(l.map λp=>(p.1,s'.opA p.2))=l.map λp=>(p.1,s.opA p.2):=λl h=> zpc λp hp=>by rw[h p hp]
def xt{o:Oper}(a:s'.ob=s.ob)(A:s'.fresh=s.fresh)(h:∀ x∈o.op.operands,s'.opA x=s.opA x):qv E s' o some=qv E s o some:=by
 have k:s'.base=s.base:=by simp only[St.base,A]
 obtain⟨dst,op,ty,pos,after,guard⟩:=o;have parts:∀ ps:Array (Nat×Operand),(∀ x∈(ps.toList.map Prod.snd).toArray,s'.opA x=s.opA x)->∀ p∈ps.toList,s'.opA p.2=s.opA p.2:=λps hp p hm=>hp p.2 (by rw[List.mem_toArray];exact zbc hm)
 cases op
 case move x=>simp only[qv,h x (by simp[Op.operands])]
 case assign x=>simp only[qv,h x (by simp[Op.operands])]
 case pick c x y=>simp only[qv,h c (by simp[Op.operands]),h x (by simp[Op.operands]),h y (by simp[Op.operands])]
 case alloc T=>simp only[qv,k]
 case build T ps=> have hp:=parts ps h;simp only[qv,mE a _ _ hp,rX _ _ hp,Fa _ hp]
 case buildSlice T n ps=> have hp:=parts ps h;simp only[qv,mE a _ _ hp,k]
 case makeSlice T x y=>simp only[qv,h x (by simp[Op.operands]),h y (by simp[Op.operands]),k]
 case load T x=>simp only[qv,h x (by simp[Op.operands]),a]
 case lookup T x i c=>simp only[qv,h x (by simp[Op.operands]),h i (by simp[Op.operands]),a]
 case nilCheck x=>simp only[qv,h x (by simp[Op.operands])]
 case binOp op T x y T'=>simp only[qv,h x (by simp[Op.operands]),h y (by simp[Op.operands])]
 case unOp op T x=>simp only[qv,h x (by simp[Op.operands])]
 case convert U T x=>simp only[qv,h x (by simp[Op.operands])]
 case makeFunc fn x y=>
  have B:∀ z∈y.toList,s'.opA z=s.opA z:=λz l=>h z (by simp only[Op.operands,Array.mem_append];exact .inr (by simpa using l))
  have u:(y.toList.all λz=>gA (s'.opA z))=y.toList.all λz=>gA (s.opA z):=by grind
  have e:y.toList.map s'.opA=y.toList.map s.opA:=zpc B;simp only[qv,u,e]
 case slice T x lo hi mx=>
  have d:=h x (by simp[Op.operands])
  cases mx with
  | some m=>simp only[qv]
  | none=>
   cases lo with
   | none=>
    cases hi with
    | none=>simp only[qv,d,a]
    | some j=>simp only[qv,d,a,h j (by simp[Op.operands])]
   | some i=>
    cases hi with
    | none=>simp only[qv,d,a,h i (by simp[Op.operands])]
    | some j=>simp only[qv,d,a,h i (by simp[Op.operands]),h j (by simp[Op.operands])]
 case sliceToArrayPointer T x=>simp only[qv,h x (by simp[Op.operands]),a]
 case fieldAddr T x f=>simp only[qv,h x (by simp[Op.operands])]
 case field T x f=>simp only[qv,h x (by simp[Op.operands])]
 case indexAddr T x i=>simp only[qv,h x (by simp[Op.operands]),h i (by simp[Op.operands]),a]
 case index T x i=>simp only[qv,h x (by simp[Op.operands]),h i (by simp[Op.operands])]
 case extract x i=>simp only[qv,h x (by simp[Op.operands])]
 case call c=>
  obtain⟨callee,args,argTypes⟩:=c;have q:∀ z∈args.toList,s'.opA z=s.opA z:=λz l=>h z (by simp only[Op.operands,Call.operands,Array.mem_append];exact .inr (by simpa using l))
  have e:args.toList.map s'.opA=args.toList.map s.opA:=zpc q;cases callee with
  | invoke r m=>rfl
  | value f=>
   cases f with
   | tmp t=>
    have w:s'.tm t=s.tm t:=h (.tmp t) (by simp[Op.operands,Call.operands])
    simp only[qv,e,w,a]
   | func f=>simp only[qv,e,a,k]
   | const v=>rfl
   | global g=>rfl
  | builtin b=>
   cases b<;>first|rfl|skip
   case len=>
    simp only[qv];cases hT:argTypes[0]? with
    | none=>rfl
    | some T=>
     cases hx:args[0]? with
     | none=>rfl
     | some x=> have:=q x (zyc.2 (zwc hx));simp only[zba,a];all_goals grind
   case min=> simp only[qv];all_goals grind
   case max=> simp only[qv];all_goals grind
 all_goals rfl
def Bu{s:St}{d:Option Nat}{v:AV}{t:Nat}(h:d≠some t):(s.put d v).tm t=s.tm t:=by
 have:=vD (s:=s) (d:=d) (v:=v) (x:=.tmp t) (λu hu e=>h (by cases e;exact hu))
 exact this
def HZ{ops:Array Oper}{o:Oper}{d:Option Nat}{v:AV}(h:∀ t,d=some t->t ∉ o.looksAt ops):val E ops (s.put d v) o=val E ops s o:=by
 obtain⟨p1,c,k,l,f,m,n⟩:=ak5 s d v;have a:pA (s.put d v) o=pA s o:=by simp only[pA,f]
 have b:qv E (s.put d v) o some=qv E s o some:=xt p1 c λx hx=>vD λt ht e=>h t ht (by subst e;exact List.mem_append_left _ (z4c.2 ⟨.tmp t,by simpa using hx,rfl⟩))
 unfold val;rw[a,b];cases hg:o.guard with
 | none=>rfl
 | some p=>
  obtain⟨j,want⟩:=p;simp only;cases hgd:(ops[j]?).bind (·.dst) with
  | none=>rfl
  | some g=>
   have i:(s.put d v).tm g=s.tm g:=Bu λe=>h g e (by unfold Oper.looksAt;rw[hg];exact z9a _ (by simp[hgd]))
   simp_all
def DH{s:St}{x y:Option Nat}(v u:AV)(h:∀ d,x=some d->y≠some d):(s.put x v).put y u=(s.put y u).put x v:=by
 cases x with
 | none=>rfl
 | some d=>
  cases y with
  | none=>rfl
  | some e=>
   have a:d≠e:=λhe=>h d rfl (he ▸ rfl);by_cases h1:d<s.nt
   ·by_cases h2:e<s.nt
    ·simp only[St.put,h1,h2,if_true];all_goals grind
    ·grind [St.put]
   ·grind [St.put]
end
section
variable{l:List Oper}
variable{ro:Option Nat}{nn:Nat}
section
variable{E:Env}{ops:Array Oper}{md:Region.Mode}
def D8(E:Env)(ops:Array Oper)(i:Nat)(K:St->Prop)(s:St):Prop:=
 match ops[i]? with
 | none=>K s
 | some o=>∃ v,val E ops s o=some v/\K (s.put o.dst v)
def Ix(E:Env)(md:Region.Mode)(ops:Array Oper)(n:Nat)(L:Array Bool->St->Prop):Nat->Array Bool->St->Prop
 | 0,a,s=>L a s
 | f+1,a,s=>Region.ready md ops a≠[]/\∀ i∈Region.ready md ops a,i<n/\D8 E ops i (Ix E md ops n L f (a.setIfInBounds i true)) s
def pg(md:Region.Mode)(ops:Array Oper)(n:Nat):Prop:=∀ a i,HeadInv md ops n a->i<n->a.getD i true=false->∀ t,n<=t->t ∉ Region.ready md ops a
theorem wV{n i:Nat}{x:Oper}{v:AV}{L:Array Bool->St->Prop}(hi:ops[i]?=some x)(B:pg md ops n)(q:i<n)
  (m:∀ a s,L a s->∀ j∈Region.ready md ops a,n<=j) :
  ∀ (f:Nat) (a:Array Bool) (s:St),HeadInv md ops n a ->
   (∀ j p,j<n->ops[j]?=some p->j≠i->a.getD j true=false->(∀ e∈p.after,Region.binds md e=true->e.on≠i)->x.apart ops p=true) ->
   i∈Region.ready md ops a->val E ops s x=some v ->
   Ix E md ops n L f (a.setIfInBounds i true) (s.put x.dst v)->Ix E md ops n L (f+1) a s:=by
 intro f
 induction f with
 | zero=>
  intro a s inv _ l D H;have g:=(mem_ready.1 l).1;refine⟨λh=>(by rw[h] at l;cases l),λj o=>?_⟩
  have c:j<n:=by
   rcases zua j n with h|h
   ·exact h
   ·exact zgb o (B _ _ inv q g j h)
  refine⟨c,?_⟩;by_cases hji:j=i
  ·simp_all [D8]
  ·have:=m _ _ H j (ready_mono o hji);omega
 | succ f ih=>
  intro a s inv b l D H;have g:=(mem_ready.1 l).1;refine⟨λh=>(by rw[h] at l;cases l),λj o=>?_⟩
  have c:j<n:=by
   rcases zua j n with h|h
   ·exact h
   ·exact zgb o (B _ _ inv q g j h)
  refine⟨c,?_⟩;by_cases hji:j=i
  ·simp_all [D8]
  ·have h1:=(H.2 j (ready_mono o hji)).2;obtain⟨r,p,w,C⟩:=mem_ready.1 o;have t:∀ e∈p.after,Region.binds md e=true->e.on≠i:=λe he J heq=>by
    grind
   obtain⟨a1,a2,a3⟩:=Oper.apart_spec (b j p c w hji r t);unfold D8 at h1 ⊢;rw[w] at h1 ⊢;obtain⟨u,F,I⟩:=h1;rw[HZ a1] at F;refine⟨u,F,ih (a.setIfInBounds j true) (s.put p.dst u) (inv.set o c) (λk ok z hk y g A=>?_) (ready_mono l (Ne.symm hji)) ?_ ?_⟩
   ·refine b k ok z hk y ?_ A;by_cases hjk:j=k
    ·simp_all
    ·simp_all
   ·rw[HZ a3];exact D
   ·rw[Array.setIfInBounds_comm _ _ hji,DH u v (λd G he=>a2 d he G)];exact I
theorem CW{n g:Nat}{Lq:St->Prop}(i:pg md ops n) :
  ∀ (l:List Oper) (k:Nat) (a:Array Bool) (s s':St),(∀ j,j<l.length->l[j]?=ops[k+j]?)->k+l.length=n->HeadInv md ops n a ->
  Region.lexHead md ops g l.length k a=true->seqV E ops l s=some s'->Lq s' ->
  Ix E md ops n (λb s'=>Region.seqB md ops g n b=true/\Lq s') l.length a s
 | [],k,a,s,s',_,hk,_,e,h,hL=>by
  have:k=n:=by simpa using hk
  subst this;simp only[seqV,zca] at h;subst h;exact⟨by simpa [Region.lexHead] using e,hL⟩
 | o::l,k,a,s,s',hl,hk,inv,e,h,hL=>by
  have h0:ops[k]?=some o:=by simpa using(hl 0 j2).symm
  simp only[zPa,Region.lexHead,X] at e;obtain⟨⟨q,p⟩,f⟩:=e;have c:k<n:=s6
  have d:k∈Region.ready md ops a:=by simpa using q
  simp only[seqV] at h;obtain⟨v,h1,m⟩:=ab h;exact wV h0 i c (λb s' hL=>seqB_ready hL.1) l.length a s inv (λj r _=>Region.free_spec h0 p j r) d h1
   (CW i l (k+1) _ _ s' (λj t=>by have:=hl (j+1) (by simp;omega);simpa [zLb,zgc 1 j] using this) (by simp only[zPa] at hk;omega) (inv.set d c) f m hL)
end
section
variable{P:Program}{E:Env}{w0:Root}{ops:Array Oper}
theorem iW(x:EnvOk P E){md:Region.Mode}{n g:Nat}{L:Array Bool->St->Prop}{Q:Exit->Act->World->Prop}{s0:St}{S0:Nat->Nat->Prop}{γ0:Nat->Option Nat}{a0:Act}{w1:World}
  (y:∀ (i j:Nat) (F c:Oper),i≠j->ops[i]?=some F->ops[j]?=some c->∀ d,c.dst=some d->F.dst≠some d)
  (hL:∀ b s S γ β a w,Rp w0 S γ β s a w->Fm s0 S0 γ0 a0 w1 S γ a w->Sm s0 s->(∀ j c,ops[j]?=some c->b.getD j true=false->Fr E s γ β c)->L b s->wpAnyIn (FW ro) nn P md ops Q g b a w) :
  ∀ (f:Nat) (b:Array Bool) (s:St) (S:Nat->Nat->Prop) (γ:Nat->Option Nat) (β:Nat->Option (Nat×Nat)) (a:Act) (w:World),Rp w0 S γ β s a w->Fm s0 S0 γ0 a0 w1 S γ a w->Sm s0 s ->
   (∀ j c,ops[j]?=some c->b.getD j true=false->Fr E s γ β c)->Ix E md ops n L f b s->wpAnyIn (FW ro) nn P md ops Q (f+g) b a w
 | 0,b,s,S,γ,β,a,w,h,t,l,e,hh=>by rw[zbb];exact hL _ _ _ _ _ _ _ h t l e hh
 | f+1,b,s,S,γ,β,a,w,h,t,l,e,hh=>by
  rw[show f+1+g=(f+g)+1 by omega]
  refine⟨λh0=>zgb h0 hh.1,λi hi=>?_⟩;obtain⟨_,k⟩:=hh.2 i hi;have B:=(mem_ready.1 hi).1;unfold D8 at k;unfold wpOpIn;cases ho:ops[i]? with
  | none=> obtain⟨_,o,r,_⟩:=mem_ready.1 hi;rw[ho] at r;cases r
  | some o=>
   rw[ho] at k;simp only at k ⊢;obtain⟨v,h1,C⟩:=k;obtain⟨K,H⟩:=Gd x h (e i o ho B) h1;have p:=ak5 s o.dst v;have m:∀ {γ':Nat->Option Nat} {β':Nat->Option (Nat×Nat)},(∀ id,o.dst≠some (id-s.base)\/id<s.base->γ' id=γ id/\β' id=β id)->∀ j c,ops[j]?=some c->(b.setIfInBounds i true).getD j true=false->Fr E (s.put o.dst v) γ' β' c:=λhk j c D hu=>by
    by_cases hij:i=j
    ·subst hij;exfalso;rcases zua i b.size with A|q
     ·simp[Array.getD,A] at hu
     ·simp[Array.getD,q,zPc.2 q] at hu
    ·rw[getD_set_ne true hij] at hu;exact(e j c D hu).keep (λd z=>y i j o c hij ho D d z) p.2.1 (λid _ _=>by rw[p.1]) hk
   split
   ·rename_i hw;refine(bI (K hw) λu w' ⟨S',γ',β',m1,G,m3⟩=>?_);exact iW x y hL f _ _ S' γ' β' _ _ m1 (t.trans G l.lkS l.lkO) (l.trans (Sm.put s o.dst v)) (m m3) C
   ·rename_i hw;obtain⟨m1,G⟩:=H (by simpa using hw)
    refine⟨λ_ _=>trivial,?_⟩;exact iW x y hL f _ _ S γ β _ _ m1 (t.trans G l.lkS l.lkO) (l.trans (Sm.put s o.dst v)) (m λid _=>⟨rfl,rfl⟩) C
theorem kK(h:dw (l.filterMap (·.dst))=true){i j:Nat}{a b:Oper}(m:i≠j)(hi:l[i]?=some a)(n:l[j]?=some b)(d:Nat)(e:b.dst=some d):a.dst≠some d:=by
 obtain⟨g,k⟩:=zra.1 hi;obtain⟨o,p⟩:=zra.1 n;rcases zua i j with q|f
 ·refine gm h (l.take i) (l.drop (i+1)) a b ?_ ?_ d e
  ·grind [List.drop_eq_getElem_cons,List.take_append_drop]
  ·refine zeb (i:=j-(i+1)) ?_;grind
 ·intro c;refine gm h (l.take j) (l.drop (j+1)) b a ?_ ?_ d c e
  ·grind [List.drop_eq_getElem_cons,List.take_append_drop]
  ·refine zeb (i:=i-(j+1)) ?_;grind
theorem bu:∀ (l:List Oper) (i:Nat),(be i l).map Prod.snd=l
 | [],_=>rfl
 | o::l,i=>by simp only[be,z4a,bu l (i+1)]
def mD{i:Nat}{p:Nat×Oper}(h:p∈be i l):p.2∈l:=by
 have:p.2∈(be i l).map Prod.snd:=zbc h
 rwa [bu] at this
theorem iU:∀ (l:List Oper) (i:Nat),(be i l).length=l.length
 | [],_=>rfl
 | o::l,i=>by simp only[be,zPa,iU l (i+1)]
def Jc(a6:EnvOk P E){id:Nat}{dr:Bool}{n:Nat}{Q:Exit->Act->World->Prop}{S:Nat->Nat->Prop}{γ:Nat->Option Nat}{β:Nat->Option (Nat×Nat)}{s:St}{a:Act}{w:World}{R:Type}{k:St->Option R}{r:R}{N:Nat}
  (h:Rp w0 S γ β s a w) (hf:JM E s γ β ops.toList) (hm:cV ops.toList=true) (q:(!dr||tJ E ops n)=true) {an:Ann} (K:fV E N R ops an (be 0 ops.toList) s k=some r)
  (hQ:∀ s' S' γ' β' a' w',Rp w0 S' γ' β' s' a' w'->Fm s S γ a w S' γ' a' w'->Sk s s'->k s'=some r->Q .normal a' w'):(Code.region id ops dr).wpIn (FW ro) nn P Q a w:=by
 simp only[cV,X] at hm;obtain⟨⟨C,a5⟩,ax⟩:=hm;have l:=ax;cases dr with
 | false=>
  refine wpIn_region_list ?_;have:=AN (ro:=ro) (nn:=nn) (ops:=ops) a6 l N R (be 0 ops.toList) k r an h (by rw[bu];exact hf) (by rw[bu];exact λA B o o' e D d z=>gm C A B o o' e D d z) (λp hp=>mD hp) K hQ
  rwa [bu] at this
 | true=>
  simp only[zlc,Bool.false_or,tJ,X] at q;obtain⟨⟨⟨⟨⟨d0,d1⟩,d2⟩,d3⟩,d4⟩,d5⟩:=q;have hn:n<=ops.size:=by
   simp only[zFb,zea,X] at d3;rcases d3 with d3|d3
   ·omega
   ·omega
  have hW:pg .any ops n:=by
   intro f i inv al aO t ht hr;simp only[zFb,zea,X] at d3;rcases d3 with d3|⟨⟨d3,d6⟩,d7⟩
   ·obtain⟨_,o,D,_⟩:=mem_ready.1 hr;have:=(zpa.1 D).1;omega
   ·exact tail_waits d6 d7 d3 inv _ i rfl al aO t ht hr
  obtain⟨s',a1,N',q1,I,q3⟩:=wK N R (be 0 ops.toList) s k r n an (by rw[iU,zEb];exact hn) (λp hp=>by
    have u:p.2∈ops.toList.take n:=by
     have:p.2∈((be 0 ops.toList).take n).map Prod.snd:=zbc hp
     rwa [zsd,bu] at this
    exact⟨zya.1 d4 _ u,by simpa using zya.1 d0 _ u⟩) (.inl λp hp c x a8 e=>by
    have u:p.2∈ops.toList.drop n:=by
     have:p.2∈((be 0 ops.toList).drop n).map Prod.snd:=zbc hp
     rwa [zRc,bu] at this
    have:=zya.1 d5 _ u;simp only[X] at this;have W:=this.2;rw[e] at W;cases W) K
  rw[zsd,bu] at q1;refine wpIn_region_any a6.mixed ?_;have Z:∃ os d,w.drawn<=d/\({ w with drawn:=w.drawn+1 }:World)=grown w os d:=⟨[],w.drawn+1,zHc _,by simp[grown]⟩
  obtain⟨os,d,q,Z⟩:=Z;obtain⟨g1,g2⟩:=h.grow (os:=os) (d:=d) q (S':=S) (λ_ _ m=>m) (λ_ _ m=>.inl m);rw[Z];have hlen:(ops.toList.take n).length=n:=by simp;omega
  have V:HeadInv .any ops n (Array.replicate ops.size false):=
   ⟨j2,λj a7 _ hl=>(by rw[getD_replicate_false] at hl;cases hl),λt _ ht=>getD_in (by simpa using ht) (getD_replicate_false _ _)⟩
  have H:=CW (E:=E) (md:=.any) (g:=ops.size-n) (Lq:=λs=>s=s') hW (ops.toList.take n) 0 (Array.replicate ops.size false) s s' (λj v=>by rw[hlen] at v;rw[zNb v,zbb,zQa]) (by rw[hlen,zbb]) V (by rw[hlen];exact d2) q1 rfl
  have J:(ops.toList.drop n).length=ops.size-n:=j2
  have:=iW (ro:=ro) (nn:=nn) (Q:=Q) (g:=ops.size-n) a6 (s0:=s) (S0:=S) (γ0:=γ) (a0:=a) (w1:=grown w os d) (λi j oi a7 ad hi v d z=>kK C ad (by rw[zQa];exact hi) (by rw[zQa];exact v) d z)
   (λf s2 S2 γ2 β2 a2 w2 m1 G m3 m4 m5=>by
    obtain⟨m5,m6⟩:=m5;subst m6;have O:=kr (F:=FW ro) (n:=nn) (P:=P) (md:=.any) (ops:=ops) (Q':=Q) (ops.toList.drop n) n f a2 w2 (λj=>by rw[zDb,zQa]) (by rw[J];exact m5) ?_
    ·rwa [J] at O
    have U:∀ j a7,ops[j]?=some a7->n<=j->f.getD j true=false:=by
     intro j a7 v aI;have key:∀ (g k:Nat) (f:Array Bool),Region.seqB .any ops g k f=true->∀ j,k<=j->j<k+g->f.getD j true=false:=by
      intro g
      induction g with
      | zero=>intro k f _ j h1 W;omega
      | succ g ih=>
       intro k f Y j h1 W;simp only[Region.seqB,X,zea] at Y;by_cases M:j=k
       ·subst M;have:j∈Region.ready .any ops f:=by rw[Y.1];simp
        exact(mem_ready.1 this).1
       ·have:=ih (k+1) _ Y.2 j u0 u0
        rwa [getD_set_ne true (Ne.symm M)] at this
     have a4:=(zpa.1 v).1;exact key _ _ _ m5 j aI u0
    have T:∀ o∈ops.toList.drop n,Fr E a1 γ2 β2 o:=λo D=>by
     obtain⟨i,hi,he⟩:=z3a D;have L:ops[n+i]?=some o:=by
      have:(ops.toList.drop n)[i]?=some o:=by rw[zda hi,he]
      rwa [zDb,zQa] at this
     have:=m4 (n+i) o L (U _ _ L u0)
     intro hc d z;obtain⟨r1,r2,r3,r4⟩:=this hc d z;rw[I.base_eq,I.ob];exact⟨r1,r2,r3,r4⟩
    have fin:=AN (ro:=ro) (nn:=nn) (ops:=ops) a6 (Q:=Q) l N' R ((be 0 ops.toList).drop n) k r an (m1.wk I) (by rw[zRc,bu];exact T)
     (by rw[zRc,bu];intro A B o o' e D d z;exact gm C (ops.toList.take n++A) B o o' (by rw[zMa,<-e,zza]) D d z)
     (λp hp=>mD (z7b hp)) q3 (λs3 y γ3 β3 a3 w3 n1 n2 n3 n4=>by
      refine hQ s3 y γ3 β3 a3 w3 n1 ?_ ((m3.trans (Sm.wk I)).sk.trans n3) n4;have f0:Fm s S γ a w S γ a (grown w os d):=⟨λ_ _ m=>m,g2.cell,λ_ _=>rfl,λid hid b m=>⟨m,.inl (dK (h.γn id b m).2)⟩,j2,λ_ _ m=>m,me.same rfl dM.grown⟩
      exact(f0.trans G rfl rfl).trans n2 (I.lkS.trans m3.lkS) (I.lkO.trans m3.lkO))
    rwa [zRc,bu] at fin)
   (ops.toList.take n).length (Array.replicate ops.size false) s S γ β a (grown w os d) g1 (Fm.refl _ _ _ _ _) (Sm.refl s) (λj a7 v _=>hf a7 (zyc.2 (zwc v))) H
  rw[hlen,show n+(ops.size-n)=ops.size by omega] at this
  exact this
end
end
section
variable{j:Nat}{y:List D}
mutual
theorem vN:∀ (a a':AV),AV.same a a'=true->a=a'
 | .ptr t id p,a',h=>by
  cases a'<;>simp only[AV.same,X,zea] at h<;>try(cases h;done)
  grind [alb]
 | .mem t id,a',h=>by
  cases a'<;>simp only[AV.same,X,zea] at h<;>try(cases h;done)
  grind [alb]
 | .clo f l,a',h=>by
  cases a'<;>simp only[AV.same,X,zea] at h<;>try(cases h;done)
  obtain⟨rfl,h1⟩:=h;rw[DX _ _ h1]
 | .map kt vt id,a',h=>by
  cases a'<;>simp only[AV.same,X,zea] at h<;>try(cases h;done)
  grind [alb]
 | .yld id,a',h=>by
  cases a'<;>simp only[AV.same,zea] at h<;>try(cases h;done)
  subst h;rfl
 | .sub sl t id p lo n,a',h=>by
  cases a'<;>simp only[AV.same,X,zea] at h<;>try(cases h;done)
  grind [alb]
 | .gone,a',h=>by simp[AV.same] at h
 | .tpo ..,a',h=>by simp[AV.same] at h
 | .d ..,a',h=>by simp[AV.same] at h
 | .own ..,a',h=>by simp[AV.same] at h
 | .nils,a',h=>by simp[AV.same] at h
 | .fptr ..,a',h=>by simp[AV.same] at h
 | .st ..,a',h=>by simp[AV.same] at h
 | .undef,a',h=>by simp[AV.same] at h
theorem DX:∀ (l l':List AV),ake l l'=true->l=l'
 | [],l',h=>by grind [ake]
 | a::l,l',h=>by
  cases l' with
  | nil=>simp[ake] at h
  | cons a' l'=> simp only[ake,X] at h;rw[vN _ _ h.1,DX _ _ h.2]
end
structure Two(n:Nat)(c c':Cx):Prop where
 w:c'.w=c.w
 S:c'.S=c.S
 γ:∀ id,id<n->c'.γ id=c.γ id
 ob:∀ id,id<n->∀ o',c'.ob id=some o'->∃ o,c.ob id=some o/\(∀ p,fo o' p=fo o p/\cD o' p=cD o p)/\(∀ t l,o=.many t l->∃ l',o'=.many t l'/\l'.length=l.length)/\∀ kt vt l,o=.mp kt vt l->∃ l',o'=.mp kt vt l'
mutual
theorem MC{n:Nat}{c c':Cx}(h:Two n c c'):∀ (a:AV) (cs:List Value),AV.old n a=true->AC c a cs->AC c' a cs
 | .ptr t id p,cs,ho,k=>by
  simp only[AV.old,zea] at ho;simp only[AC] at k ⊢;obtain⟨b,off,rfl,k1,k2⟩:=k;refine⟨b,off,rfl,by rw[h.γ id ho];exact k1,λo' ho'=>?_⟩
  obtain⟨o,h1,h2,_⟩:=h.ob id ho o' ho'
  simp_all
 | .mem t id,cs,ho,k=>by
  simp only[AV.old,zea] at ho;simp only[AC] at k ⊢;obtain⟨k0,b,k1,k2⟩:=k;refine⟨k0,b,by rw[h.γ id ho];exact k1,λo' ho'=>?_⟩
  obtain⟨o,h1,_,h3,_⟩:=h.ob id ho o' ho';grind
 | .map kt vt id,cs,ho,k=>by
  simp only[AV.old,zea] at ho;simp only[AC] at k ⊢;obtain⟨b,e,k1,k2,k3,k4⟩:=k;refine⟨b,e,by rw[h.γ id ho];exact k1,k2,k3,λo' ho'=>?_⟩
  obtain⟨o,h1,_,_,h3⟩:=h.ob id ho o' ho';grind
 | .yld id,cs,ho,k=>by simp only[AV.old,zea] at ho;simp only[AC] at k ⊢;obtain⟨L,rfl,k1⟩:=k;exact⟨L,rfl,by rw[h.γ id ho];exact k1⟩
 | .clo f l,cs,ho,k=>by simp only[AV.old] at ho;simp only[AC] at k ⊢;obtain⟨caps,rfl,k1⟩:=k;exact⟨caps,rfl,Hx h l caps ho k1⟩
 | .sub sl t id p lo m,cs,ho,k=>by
  simp only[AV.old,zea] at ho;simp only[AC] at k ⊢;obtain⟨k0,b,off,cap,rfl,k1,k2⟩:=k;refine⟨k0,b,off,cap,rfl,by rw[h.γ id ho];exact k1,λo' ho'=>?_⟩
  obtain⟨o,h1,h2,_⟩:=h.ob id ho o' ho'
  simp_all
 | .gone,_,ho,_=>by simp[AV.old] at ho
 | .tpo ..,_,ho,_=>by simp[AV.old] at ho
 | .d ..,_,ho,_=>by simp[AV.old] at ho
 | .own ..,_,ho,_=>by simp[AV.old] at ho
 | .nils,_,ho,_=>by simp[AV.old] at ho
 | .fptr ..,_,ho,_=>by simp[AV.old] at ho
 | .st ..,_,ho,_=>by simp[AV.old] at ho
 | .undef,_,ho,_=>by simp[AV.old] at ho
theorem Hx{n:Nat}{c c':Cx}(h:Two n c c'):∀ (l:List AV) (cs:List Value),akd n l=true->oZ c l cs->oZ c' l cs
 | [],cs,_,k=>by simpa only[oZ] using k
 | a::l,cs,ho,k=>by simp only[akd,X] at ho;simp only[oZ] at k ⊢;obtain⟨v,c2,rfl,k1,k2⟩:=k;exact⟨v,c2,rfl,MC h a _ ho.1 k1,Hx h l c2 ho.2 k2⟩
end
mutual
def akS:Sh->AV->Nat->List (Nat×Nat)
 | .ow _,.own _ v _,j=>[(j,v)]
 | .st _ l,.st _ l',j=>akT l l' j
 | _,_,_=>[]
def akT:List Sh->List AV->Nat->List (Nat×Nat)
 | h::l,a::l',j=>akS h a j++akT l l' (j+h.cnt)
 | _,_,_=>[]
end
mutual
theorem BQ:∀ (h:Sh) (a:AV) (j:Nat),(akS h a j).map Prod.snd=akU h a
 | .ow _,a,j=>by cases a<;>rfl
 | .st _ l,a,j=>by cases a<;>first|rfl|exact Ei l _ j
 | .dv _,a,j=>by cases a<;>rfl
 | .same _,a,j=>by cases a<;>rfl
theorem Ei:∀ (l:List Sh) (l':List AV) (j:Nat),(akT l l' j).map Prod.snd=akV l l'
 | [],l',j=>by cases l'<;>rfl
 | h::l,[],j=>rfl
 | h::l,a::l',j=>by simp only[akT,akV,zib,BQ h a j,Ei l l' _]
end
def Pl(l:List (Nat×Nat))(i j:Nat):Prop:=(∀ p∈l,i<=p.1/\p.1<j)/\∀ p∈l,∀ q∈l,p.1=q.1->p=q
def Pl.nil(i j:Nat):Pl [] i j:=⟨λp h=>(by cases h),λp h=>(by cases h)⟩
def Pl.append{l l':List (Nat×Nat)}{i k:Nat}(h:Pl l i j)(a:Pl l' j k)(h1:i<=j)(b:j<=k):Pl (l++l') i k:=by
 refine⟨λp hp=>?_,λp hp q hq e=>?_⟩
 ·rcases zKa.1 hp with hp|hp
  ·have:=h.1 p hp;omega
  ·have:=a.1 p hp;omega
 ·rcases zKa.1 hp with hp|hp<;>rcases zKa.1 hq with hq|hq
  ·exact h.2 p hp q hq e
  ·have:=h.1 p hp;have:=a.1 q hq;omega
  ·have:=a.1 p hp;have:=h.1 q hq;omega
  ·exact a.2 p hp q hq e
mutual
theorem FZ:∀ (h:Sh) (a:AV) (j:Nat),Pl (akS h a j) j (j+h.cnt)
 | .ow _,a,j=>by
  cases a<;>first
   | exact Pl.nil _ _
   | exact⟨λp hp=>by simp[akS] at hp;subst hp;simp[Sh.cnt],λp hp q hq _=>by simp[akS] at hp hq;rw[hp,hq]⟩
 | .st _ l,a,j=>by
  cases a<;>first
   | exact Pl.nil _ _
   | (simp only[akS,Sh.cnt];exact HW l _ j)
 | .dv _,a,j=>by cases a<;>exact Pl.nil _ _
 | .same _,a,j=>by cases a<;>exact Pl.nil _ _
theorem HW:∀ (l:List Sh) (l':List AV) (j:Nat),Pl (akT l l' j) j (j+akO l)
 | [],l',j=>by cases l'<;>exact Pl.nil _ _
 | h::l,[],j=>Pl.nil _ _
 | h::l,a::l',j=>by
  simp only[akT,akO];rw[show j+(h.cnt+akO l)=j+h.cnt+akO l by omega]
  exact(FZ h a j).append (HW l l' _) u0 u0
end
mutual
theorem oz{ob:Nat->Option Ob}{dead:List Nat}:∀ (h:Sh) (a:AV) (x:List D),Sh.dec ob dead h a=some x->x.length=h.cnt
 | .dv t,a,x,e=>by
  have e':((akf ob t a).bind λx=>some [x])=some x:=by cases a<;>exact e
  obtain⟨y,_,h2⟩:=ab e';simp only[zca] at h2;subst h2;rfl
 | .ow t,a,x,e=>by
  cases a<;>simp only[Sh.dec] at e<;>try(cases e;done)
  ·split at e<;>try(cases e;done)
   simp only[zca] at e;subst e;rfl
  ·simp only[zca] at e;subst e;rfl
 | .same b,a,x,e=>by
  have e':(if AV.same b a then some ([]:List D) else none)=some x:=by cases a<;>exact e
  split at e'<;>try(cases e';done)
  simp only[zca] at e';subst e';rfl
 | .st ts l,a,x,e=>by
  cases a<;>simp only[Sh.dec] at e<;>try(cases e;done)
  split at e<;>try(cases e;done)
  exact Cz l _ x e
theorem Cz{ob:Nat->Option Ob}{dead:List Nat}:∀ (l:List Sh) (l':List AV) (x:List D),akP ob dead l l'=some x->x.length=akO l
 | [],l',x,e=>by
  cases l'<;>simp only[akP] at e<;>try(cases e;done)
  simp only[zca] at e;subst e;rfl
 | h::l,[],x,e=>by simp[akP] at e
 | h::l,a::l',x,e=>by simp only[akP] at e;obtain⟨y,h1,e⟩:=ab e;obtain⟨z,h2,e⟩:=ab e;simp only[zca] at e;subst e;simp only[zAa,oz h a y h1,Cz l l' z h2,akO]
end
mutual
theorem tC{ob:Nat->Option Ob}{dead:List Nat}:∀ (h:Sh) (a:AV) (x:List D),Sh.dec ob dead h a=some x->∀ v∈akU h a,v ∉ dead
 | .dv t,a,x,e=>by simp_all [akU]
 | .ow t,a,x,e=>by
  intro v hv;cases a<;>simp only[akU,zkc,zUa] at hv;subst hv;simp only[Sh.dec] at e
  simp_all
 | .same b,a,x,e=>by simp_all [akU]
 | .st ts l,a,x,e=>by
  intro v hv;cases a<;>simp only[akU,zkc] at hv;simp only[Sh.dec] at e;split at e<;>try(cases e;done)
  exact wB l _ x e v hv
theorem wB{ob:Nat->Option Ob}{dead:List Nat}:∀ (l:List Sh) (l':List AV) (x:List D),akP ob dead l l'=some x->∀ v∈akV l l',v ∉ dead
 | [],l',x,e=>by simp_all [akV]
 | h::l,[],x,e=>by simp[akP] at e
 | h::l,a::l',x,e=>by
  intro v hv;simp only[akP] at e;obtain⟨y,h1,e⟩:=ab e;obtain⟨z,h2,e⟩:=ab e;simp only[akV] at hv;rcases zKa.1 hv with hv|hv
  ·exact tC h a y h1 v hv
  ·exact wB l l' z h2 v hv
end
mutual
theorem ud(b:Nat):∀ (h:Sh) (j:Nat) (s:List D),(Sh.mk b h j s).2=j+h.cnt
 | .dv t,j,s=>rfl
 | .ow t,j,s=>rfl
 | .same a,j,s=>rfl
 | .st ts l,j,s=>by simp only[Sh.mk,Sh.cnt];exact Hr b l j s
theorem Hr(b:Nat):∀ (l:List Sh) (j:Nat) (s:List D),(akR b l j s).2=j+akO l
 | [],j,s=>rfl
 | h::l,j,s=>by simp only[akR,akO,ud b h j s,Hr b l,zLb]
end
mutual
theorem Hq(b:Nat):∀ (h:Sh) (t:Ty) (j:Nat) (s:List D),Sh.fits t h=true->AV.fits t (Sh.mk b h j s).1=true
 | .dv t',t,j,s,h=>by
  have h':t.beq t'=true:=by cases t<;>exact h
  rw[alb _ _ h'];exact cb _ _
 | .ow e,t,j,s,h=>by
  have h':t.beq (.sl e)=true:=by cases t<;>exact h
  rw[alb _ _ h'];simp only[Sh.mk,AV.fits];exact ala _
 | .same a,t,j,s,h=>by cases t<;>simp[Sh.fits] at h
 | .st ts l,t,j,s,h=>by
  have h':(t.beq (.st ts)&&Sh.fitss ts l)=true:=by cases t<;>exact h
  simp only[X] at h';rw[alb _ _ h'.1];simp only[Sh.mk,AV.fits,X];have:=ala (.st ts);simp only[Ty.beq] at this;exact⟨this,xf b l ts j s h'.2⟩
theorem xf(b:Nat):∀ (l:List Sh) (ts:List Ty) (j:Nat) (s:List D),Sh.fitss ts l=true->AV.fitss ts (akR b l j s).1=true
 | [],ts,j,s,h=>by cases ts<;>simp only[Sh.fitss] at h<;>first|(cases h;done)|rfl
 | h::l,[],j,s,e=>by simp[Sh.fitss] at e
 | h::l,t::ts,j,s,e=>by simp only[Sh.fitss,X] at e;simp only[akR,AV.fitss,X];exact⟨Hq b h t j s e.1,xf b l ts _ s e.2⟩
end
def Gv(s x:List D)(j:Nat):Prop:=∀ i,i<x.length->s[j+i]?=x[i]?
def Gv.left{s x:List D}(h:Gv s (x++y) j):Gv s x j:=λi hi=>by rw[h i (by simp;omega),zab hi]
def Gv.right{s x:List D}(h:Gv s (x++y) j):Gv s y (j+x.length):=λi hi=>by rw[zLb,h (x.length+i) (by simp;omega),zRb u0,zxb]
mutual
theorem Dk{n b:Nat}{c c':Cx}(T:Two n c c'):∀ (h:Sh) (a:AV) (j:Nat) (s x:List D) (cs:List Value),Sh.dec c.ob c.dead h a=some x->Gv s x j->Sh.fine n h=true ->
  (∀ p∈akS h a j,c'.β (b+p.1)=c.β p.2)->AC c a cs->AC c' (Sh.mk b h j s).1 cs
 | .dv t,a,j,s,x,cs,e,hs,hf,hb,k=>by
  have e':((akf c.ob t a).bind λx=>some [x])=some x:=by cases a<;>exact e
  obtain⟨y,h1,h2⟩:=ab e';simp only[zca] at h2;subst h2;obtain⟨k1,k2,_⟩:=uq _ _ _ _ h1 k;have hj:s[j]?=some y:=by have:=hs 0 j2;simpa using this
  simp only[Sh.mk,AC,List.getD,hj,zYb,T.w,T.S];exact⟨k1,hf,k2⟩
 | .ow t,a,j,s,x,cs,e,hs,hf,hb,k=>by
  cases a<;>simp only[Sh.dec] at e<;>try(cases e;done)
  ·rename_i t' v l;split at e<;>try(cases e;done)
   rename_i hd;simp only[X,zEa] at hd;simp only[zca] at e;subst e;have hj:s[j]?=some (.sl l):=by have:=hs 0 j2;simpa using this
   have he:=alb _ _ hd.1;subst he;simp only[AC] at k;obtain⟨k0,k1,ad,cap,rfl,k2,k3⟩:=k;simp only[Sh.mk,AC,List.getD,hj,zYb,D.els,T.w,T.S];refine⟨k0,k1,ad,cap,rfl,k2,λ_=>?_⟩;rcases k3 (by simpa using hd.2) with h3|⟨bb,off,h3,h4,m,h5,h6⟩
   ·exact .inl h3
   ·refine .inr ⟨bb,off,h3,?_,m,by rw[T.w];exact h5,h6⟩
    have:=hb (j,v) (by simp[akS])
    rw[<-h4];exact this
  ·simp only[zca] at e;subst e;have hj:s[j]?=some (.sl []):=by have:=hs 0 j2;simpa using this
   simp only[AC] at k;subst k;simp only[Sh.mk,AC,List.getD,hj,zYb,D.els];refine⟨hf,λx hx=>(by cases hx),none,0,rfl,?_,λ_=>.inl ⟨rfl,rfl⟩⟩
   exact akg (b:=0) (off:=0) (.inl rfl) (zoa _) ⟨[],cY.nil,λi c hc=>by simp at hc⟩
 | .same a',a,j,s,x,cs,e,hs,hf,hb,k=>by
  have e':(if AV.same a' a then some ([]:List D) else none)=some x:=by cases a<;>exact e
  split at e'<;>try(cases e';done)
  rename_i hsm;have:=vN _ _ hsm;subst this;simp only[Sh.fine] at hf;exact MC T _ _ hf k
 | .st ts l,a,j,s,x,cs,e,hs,hf,hb,k=>by
  cases a<;>simp only[Sh.dec] at e<;>try(cases e;done)
  rename_i ts' l';split at e<;>try(cases e;done)
  simp only[Sh.fine,X] at hf;simp only[AC] at k;simp only[Sh.mk,AC];exact⟨hf.1.1,xf b l ts j s hf.1.2,Mq T l l' j s x cs e hs hf.2 hb k.2.2⟩
theorem Mq{n b:Nat}{c c':Cx}(T:Two n c c'):∀ (l:List Sh) (l':List AV) (j:Nat) (s x:List D) (cs:List Value),akP c.ob c.dead l l'=some x->Gv s x j->akQ n l=true ->
  (∀ p∈akT l l' j,c'.β (b+p.1)=c.β p.2)->jM c l' cs->jM c' (akR b l j s).1 cs
 | [],l',j,s,x,cs,e,_,_,_,k=>by all_goals grind [akP,akR,jM]
 | h::l,[],j,s,x,cs,e,_,_,_,k=>by simp[akP] at e
 | h::l,a::l',j,s,x,cs,e,hs,hf,hb,k=>by simp only[akP] at e;obtain⟨y,h1,e⟩:=ab e;obtain⟨z,h2,e⟩:=ab e;simp only[zca] at e;subst e;simp only[akQ,X] at hf;simp only[jM] at k;obtain⟨c1,c2,rfl,k1,k2⟩:=k;simp only[akR,jM,ud];simp only[akT,zKa] at hb;have hr:=hs.right;rw[oz h a y h1] at hr;exact⟨c1,c2,rfl,Dk T h a j s y c1 h1 hs.left hf.1 (λp hp=>hb p (.inl hp)) k1,Mq T l l' _ s z c2 h2 hr hf.2 (λp hp=>hb p (.inr hp)) k2⟩
end
def X0{n b:Nat}{c c':Cx}(T:Two n c c')(h:Sh)(a:AV)(j:Nat)(s x:List D)(v:Value)(e:Sh.dec c.ob c.dead h a=some x)(g:Gv s x j)(d:Sh.fine n h=true)
  (i:∀ p∈akS h a j,c'.β (b+p.1)=c.β p.2) (k:AR c a v):AR c' (Sh.mk b h j s).1 v:=by
 cases h with
 | dv t=>
  have f:((akf c.ob t a).bind λx=>some [x])=some x:=by cases a<;>exact e
  obtain⟨y,h1,o⟩:=ab f;simp only[zca] at o;subst o;have q:s[j]?=some y:=by have:=g 0 j2;simpa using this
  obtain⟨r,u⟩:=pJ d k h1;simp only[Sh.mk,List.getD,q,zYb];exact dA d r (by rw[T.w,T.S];exact u)
 | ow t=>
  have key:=λcs=>Dk T (.ow t) a j s x cs e g d i;cases a<;>simp only[Sh.dec] at e<;>try(cases e;done)
  all_goals
   simp only[AR] at k;exact⟨k.1,key _ k.2⟩
 | same a'=>
  have key:=λcs=>Dk T (.same a') a j s x cs e g d i;have f:(if AV.same a' a then some ([]:List D) else none)=some x:=by cases a<;>exact e
  split at f<;>try(cases f;done)
  rename_i m;have:=vN _ _ m;subst this;simp only[Sh.mk] at key ⊢;cases a'<;>simp only[Sh.fine,AV.old] at d<;>try(cases d;done)
  all_goals simp_all [AR]
 | st ts l=>
  have key:=λcs=>Dk T (.st ts l) a j s x cs e g d i;cases a<;>simp only[Sh.dec] at e<;>try(cases e;done)
  simp_all [Sh.mk,AR]
end
section
variable{l:List (Nat×ShO)}{c:Cx}{f:Nat}
def TI(s:St):List (Nat×Sh)->Nat->List (Nat×Nat)
 | [],_=>[]
 | (t,h)::l,j=>akS h (s.tm t) j++TI s l (j+h.cnt)
def Nt(h:Sh)(o:Option Ob)(j:Nat):List (Nat×Nat):=match o with|some (.one _ v)=>akS h v j|_=>[]
def xM(s:St):List (Nat×ShO)->Nat->List (Nat×Nat)
 | [],_=>[]
 | (id,.one _ h)::l,j=>Nt h (s.ob id) j++xM s l (j+h.cnt)
 | (_,.many _)::l,j=>xM s l (j+1)
 | (_,.mp ..)::l,j=>xM s l (j+1)
 | (_,.keep ..)::l,j=>xM s l j
 | (_,.lp ..)::l,j=>xM s l j
 | (_,.fv _)::l,j=>xM s l j
theorem BP(s:St):∀ (l:List (Nat×Sh)) (j:Nat),(TI s l j).map Prod.snd=ak3 s l
 | [],_=>rfl
 | (t,h)::l,j=>by simp only[TI,ak3,zib,BQ,BP s l]
theorem kT(s:St):∀ (l:List (Nat×ShO)) (j:Nat),(xM s l j).map Prod.snd=ak2 s l
 | [],_=>rfl
 | (id,.one t h)::l,j=>by
  simp only[xM,ak2,zib,kT s l];congr 1;unfold Nt;split
  ·rename_i e;simp only[BQ,e]
  ·simp_all
 | (_,.many _)::l,j=>by simp only[xM,ak2,kT s l]
 | (_,.mp ..)::l,j=>by simp only[xM,ak2,kT s l]
 | (_,.keep ..)::l,j=>by simp only[xM,ak2,kT s l]
 | (_,.lp ..)::l,j=>by simp only[xM,ak2,kT s l]
 | (_,.fv _)::l,j=>by simp only[xM,ak2,kT s l]
theorem Nu(s:St):∀ (l:List (Nat×Sh)) (j:Nat),Pl (TI s l j) j (j+akX l)
 | [],_=>Pl.nil _ _
 | (t,h)::l,j=>by
  simp only[TI,akX];rw[show j+(h.cnt+akX l)=j+h.cnt+akX l by omega]
  exact(FZ h _ j).append (Nu s l _) u0 u0
def Sx(h:Sh)(o:Option Ob)(j:Nat):Pl (Nt h o j) j (j+h.cnt):=by
 unfold Nt;split
 ·exact FZ h _ j
 ·exact Pl.nil _ _
theorem re(s:St):∀ (l:List (Nat×ShO)) (j:Nat),Pl (xM s l j) j (j+akW l)
 | [],_=>Pl.nil _ _
 | (id,.one t h)::l,j=>by
  simp only[xM,akW,ShO.cnt];rw[show j+(h.cnt+akW l)=j+h.cnt+akW l by omega]
  exact(Sx h _ j).append (re s l _) u0 u0
 | (_,.many _)::l,j=>by
  simp only[xM,akW,ShO.cnt];rw[show j+(1+akW l)=j+1+akW l by omega]
  exact(Pl.nil j (j+1)).append (re s l _) u0 u0
 | (_,.mp ..)::l,j=>by
  simp only[xM,akW,ShO.cnt];rw[show j+(1+akW l)=j+1+akW l by omega]
  exact(Pl.nil j (j+1)).append (re s l _) u0 u0
 | (_,.keep ..)::l,j=>by simp only[xM,akW,ShO.cnt,zbb];exact re s l j
 | (_,.fv _)::l,j=>by simp only[xM,akW,ShO.cnt,zbb];exact re s l j
 | (_,.lp ..)::l,j=>by simp only[xM,akW,ShO.cnt,zbb];exact re s l j
theorem Cy(s:St):∀ (l:List (Nat×Sh)) (x:List D),akZ s l=some x->x.length=akX l
 | [],x,e=>by simp only[akZ,zca] at e;subst e;rfl
 | (t,h)::l,x,e=>by simp only[akZ] at e;obtain⟨y,h1,e⟩:=ab e;obtain⟨z,a,e⟩:=ab e;simp only[zca] at e;subst e;simp only[zAa,oz h _ y h1,Cy s l z a,akX]
theorem wA(s:St):∀ (l:List (Nat×Sh)) (x:List D),akZ s l=some x->∀ v∈ak3 s l,v ∉ s.dead
 | [],x,_=>by simp_all [ak3]
 | (t,h)::l,x,e=>by
  intro v a;simp only[akZ] at e;obtain⟨y,h1,e⟩:=ab e;obtain⟨z,b,e⟩:=ab e;simp only[ak3] at a;rcases zKa.1 a with a|a
  ·exact tC h _ y h1 v a
  ·exact wA s l z b v a
theorem ww{s:St}{id:Nat}{t:Ty}{h:Sh}{x:List D}(e:akY s ((id,.one t h)::l)=some x):∃ v y z,s.ob id=some (.one t v)/\Sh.dec s.ob s.dead h v=some y/\akY s l=some z/\x=y++z:=by
 simp only[akY] at e;split at e<;>try(cases e;done)
 rename_i c v b;split at e<;>try(cases e;done)
 rename_i ht;obtain⟨y,h1,e⟩:=ab e;obtain⟨z,a,e⟩:=ab e;grind [Option.some.injEq,alb]
theorem tB{s:St}{id:Nat}{t:Ty}{x:List D}(e:akY s ((id,.many t)::l)=some x):∃ v z,s.ob id=some (.many t v)/\akY s l=some z/\x=[.sl v]++z:=by
 simp only[akY] at e;split at e<;>try(cases e;done)
 rename_i c v b;split at e<;>try(cases e;done)
 rename_i ht;obtain⟨z,a,e⟩:=ab e;grind [Option.some.injEq,alb]
def AI{s:St}{id:Nat}{b vt:Ty}{x:List D}(e:akY s ((id,.mp b vt)::l)=some x):∃ v z,s.ob id=some (.mp b vt v)/\akY s l=some z/\x=[.sl v]++z:=by
 simp only[akY] at e;split at e<;>try(cases e;done)
 rename_i d f v a;split at e<;>try(cases e;done)
 rename_i ht;obtain⟨z,c,e⟩:=ab e;simp only[zca] at e;simp only[X] at ht;rw[<-alb _ _ ht.1,<-alb _ _ ht.2] at a;exact⟨v,z,a,c,e.symm⟩
theorem tA{s:St}{id:Nat}{t:Ty}{x:List D}(e:akY s ((id,.keep t f)::l)=some x):∃ v,s.ob id=some (.one t v)/\akY s l=some x:=by grind [akY,alb]
theorem I3:∀ {p a:Option Ex},Fu p a=true->p=a
 | none,none,_=>rfl
 | none,some _,h=>by cases h
 | some _,none,h=>by cases h
 | some e,some b,h=>by simp only[Fu] at h;cases e<;>cases b<;>simp only[Ex.is,zea] at h<;>first|rfl|(cases h;done)|(subst h;rfl)
theorem AH{s:St}{id:Nat}{p:Option Ex}{x:List D}(e:akY s ((id,.lp p f)::l)=some x):∃ i,s.ob id=some (.lp i p)/\akY s l=some x:=by grind [akY,I3]
def AG{s:St}{id:Nat}{a:AV}{x:List D}(e:akY s ((id,.fv a)::l)=some x):s.ob id=some (.fv a)/\akY s l=some x:=by
 simp only[akY] at e;split at e<;>try(cases e;done)
 split at e<;>try(cases e;done)
 rename_i h1 b;rw[vN _ _ b];exact⟨h1,e⟩
theorem yM{n:Nat}{c':Cx}(T:Two n c c'):∀ {l:List AV} {vs:List Value},akd n l=true->o7 c l vs->o7 c' l vs
 | [],[],_,_=>trivial
 | [],_::_,_,k=>k.elim
 | _::_,[],_,k=>k.elim
 | a::l,v::vs,h,k=>by
  simp only[akd,X] at h;refine⟨?_,yM T h.2 k.2⟩;have d:=k.1;unfold vU at d ⊢;split at d
  ·obtain⟨b,e,f⟩:=d;simp only[AV.old,zea] at h;exact⟨b,e,(T.γ _ h.1).trans f⟩
  ·exact d.elim
theorem gg.old{n:Nat}{c':Cx}(T:Two n c c'){a:AV}{v:Value}(h:AV.old n a=true)(i:mZ a=true)(k:gg c a v):gg c' a v:=by
 cases a<;>simp only[mZ] at i<;>try(cases i;done)
 all_goals simp only[AV.old] at h
 case clo f l=> obtain⟨caps,e,k⟩:=k;exact⟨caps,e,yM T h k⟩
 case map kt vt id=> obtain⟨b,e,d,g⟩:=k;exact⟨b,e,(T.γ id (of_decide_eq_true h)).trans d,g⟩
 case yld id=> simp only[gg,AR,AC] at k ⊢;obtain⟨d,L,e,g⟩:=k;exact⟨d,L,e,(T.γ id (of_decide_eq_true h)).trans g⟩
def Rh{a b:AV}:(∀ p,fo (.fv a) p=fo (.fv b) p/\cD (.fv a) p=cD (.fv b) p):=λp=>by cases p<;>exact⟨rfl,rfl⟩
theorem zt{p:Option Ex}{o:Option Ob}{o':Ob}(h:akF p o=some o'):∃ i p0,o=some (.lp i p0)/\o'=.lp i p:=by unfold akF at h;grind
theorem gk(s:St):∀ (l:List (Nat×ShO)) (x:List D),akY s l=some x->∀ v∈ak2 s l,v ∉ s.dead
 | [],x,_=>by simp_all [ak2]
 | (id,.one t h)::l,x,e=>by
  intro v b;obtain⟨u,y,z,d,h1,a,_⟩:=ww e;simp only[ak2,d] at b;rcases zKa.1 b with b|b
  ·exact tC h _ y h1 v b
  ·exact gk s l z a v b
 | (id,.many t)::l,x,e=>by obtain⟨u,z,_,a,_⟩:=tB e;exact gk s l z a
 | (id,.mp f vt)::l,x,e=>by obtain⟨u,z,_,a,_⟩:=AI e;exact gk s l z a
 | (id,.keep t c)::l,x,e=>by obtain⟨u,_,a⟩:=tA e;exact gk s l x a
 | (id,.lp p c)::l,x,e=>by obtain⟨_,_,a⟩:=AH e;exact gk s l x a
 | (id,.fv v)::l,x,e=>by obtain⟨_,a⟩:=AG e;exact gk s l x a
theorem Hp(b:Nat):∀ (l:List (Nat×Sh)) (j:Nat) (s:List D) (f:Nat->AV),(ak1 b l j s f).2=j+akX l
 | [],j,s,f=>rfl
 | (t,h)::l,j,s,f=>by simp only[ak1,Hp b l,ud,akX,zLb]
theorem Mp{n b:Nat}{c':Cx}(T:Two n c c'){s':St}(k:c.ob=s'.ob)(m:c.dead=s'.dead):∀ (l:List (Nat×Sh)) (j:Nat) (s x:List D) (f:Nat->AV),akZ s' l=some x->Gv s x j->(∀ p∈l,Sh.fine n p.2=true) ->
  (∀ p∈TI s' l j,c'.β (b+p.1)=c.β p.2)->∀ i,(i∈l.map (·.1)/\∀ v,AR c (s'.tm i) v->AR c' ((ak1 b l j s f).1 i) v)\/(i ∉ l.map (·.1)/\(ak1 b l j s f).1 i=f i)
 | [],j,s,x,f,e,g,d,a,i=>.inr ⟨j2,rfl⟩
 | (t,h)::l,j,s,x,f,e,g,d,a,i=>by
  simp only[akZ] at e;obtain⟨y,h1,e⟩:=ab e;obtain⟨z,r,e⟩:=ab e;simp only[zca] at e;subst e;simp only[TI,zKa] at a;have o:=g.right;rw[oz h _ y h1] at o;simp only[ak1,ud];rcases Mp T k m l (j+h.cnt) s z (λi=>if i=t then(Sh.mk b h j s).1 else f i) r o (λp hp=>d p (by simp[hp])) (λp hp=>a p (.inr hp)) i with⟨w,q⟩|⟨w,q⟩
  ·simp_all
  ·by_cases hit:i=t
   ·subst hit;refine .inl ⟨j2,λv u=>?_⟩
    rw[q,zla rfl];exact X0 T h _ j s y v (by rw[k,m];exact h1) g.left (d (i,h) j2) (λp hp=>a p (.inl hp)) u
   ·simp_all
def T4(o' o:Ob):Prop:=(∀ p,fo o' p=fo o p/\cD o' p=cD o p)/\(∀ t l,o=.many t l->∃ l',o'=.many t l'/\l'.length=l.length)/\∀ a vt l,o=.mp a vt l->∃ l',o'=.mp a vt l'
def Db{t:Ty}{a b:AV}:T4 (.one t a) (.one t b):=⟨λp=>⟨rfl,rfl⟩,(λu l e=>by cases e),λ_ _ l e=>by cases e⟩
def Ri{i a:LpI}{p b:Option Ex}:T4 (.lp i p) (.lp a b):=⟨λp=>⟨rfl,rfl⟩,(λu l e=>by cases e),λ_ _ l e=>by cases e⟩
theorem xJ{t:Ty}{o:Option Ob}{o':Ob}(h:Ob.still t o=some o'):∃ u x,o=some (.one t (.d u x))/\o'=.one t (.d u x):=by
 unfold Ob.still at h;split at h<;>try(cases h;done)
 split at h<;>try(cases h;done)
 rename_i ht;simp only[zca] at h;have:=alb _ _ ht;grind
theorem qF{b:Nat}{base:Nat->Option Ob}{s':St}:∀ (l:List (Nat×ShO)) (j:Nat) (s x:List D) (f:Nat->Option Ob),akY s' l=some x->Gv s x j ->
  ∀ id o',ak0 b base l j s f id=some o'->f id=some o'\/(id∈l.map (·.1)/\∃ o,s'.ob id=some o/\T4 o' o)
 | [],j,s,x,f,e,d,id,o',c=>.inl c
 | (t,.one u h)::l,j,s,x,f,e,d,id,o',c=>by
  obtain⟨v,y,z,h0,h1,g,rfl⟩:=ww e;have m:=d.right;rw[oz h _ y h1] at m;simp only[ak0,ud] at c;rcases qF l _ s z _ g m id o' c with k|⟨n,q⟩
  ·split at k
   ·rename_i a;subst a;simp only[zca] at k;subst k;exact .inr ⟨j2,_,h0,Db⟩
   ·exact .inl k
  ·simp_all
 | (t,.many u)::l,j,s,x,f,e,d,id,o',c=>by
  obtain⟨v,z,h0,g,rfl⟩:=tB e;have r:s[j]?=some (.sl v):=by have:=d 0 j2;simpa using this
  have m:=d.right;simp only[ak0] at c;rcases qF l _ s z _ g m id o' c with k|⟨n,q⟩
  ·split at k
   ·rename_i a;subst a;simp only[zca,List.getD,r,zYb,D.els] at k;subst k;exact .inr ⟨j2,_,h0,λp=>⟨by cases p<;>rfl,by cases p<;>rfl⟩,(λu l e=>by cases e;exact⟨_,rfl,rfl⟩),λ_ _ l e=>by cases e⟩
   ·exact .inl k
  ·simp_all
 | (t,.mp u A)::l,j,s,x,f,e,d,id,o',c=>by
  obtain⟨v,z,h0,g,rfl⟩:=AI e;have r:s[j]?=some (.sl v):=by have:=d 0 j2;simpa using this
  have m:=d.right;simp only[ak0] at c;rcases qF l _ s z _ g m id o' c with k|⟨n,q⟩
  ·split at k
   ·rename_i a;subst a;simp only[zca,List.getD,r,zYb,D.els] at k;subst k;exact .inr ⟨j2,_,h0,λp=>⟨rfl,rfl⟩,(λu l e=>by cases e),λ_ _ l e=>by cases e;exact⟨_,rfl⟩⟩
   ·exact .inl k
  ·simp_all
 | (t,.keep u w)::l,j,s,x,f,e,d,id,o',c=>by
  obtain⟨v,h0,g⟩:=tA e;simp only[ak0] at c;rcases qF l _ s x _ g d id o' c with k|⟨n,q⟩
  ·split at k
   ·rename_i a;subst a;obtain⟨A,y,_,rfl⟩:=xJ k;exact .inr ⟨j2,_,h0,Db⟩
   ·exact .inl k
  ·simp_all
 | (t,.lp p w)::l,j,s,x,f,e,d,id,o',c=>by
  obtain⟨v,h0,g⟩:=AH e;simp only[ak0] at c;rcases qF l _ s x _ g d id o' c with k|⟨n,q⟩
  ·split at k
   ·rename_i a;subst a;obtain⟨i,p0,_,rfl⟩:=zt k;exact .inr ⟨j2,_,h0,Ri⟩
   ·exact .inl k
  ·simp_all
 | (t,.fv u)::l,j,s,x,f,e,d,id,o',c=>by
  obtain⟨h0,g⟩:=AG e;simp only[ak0] at c;rcases qF l _ s x _ g d id o' c with k|⟨n,q⟩
  ·split at k
   ·rename_i a;subst a;simp only[zca] at k;subst k;exact .inr ⟨j2,_,h0,Rh,(λu l e=>by cases e),λ_ _ l e=>by cases e⟩
   ·exact .inl k
  ·simp_all
theorem qE{n b:Nat}{c':Cx}(T:Two n c c'){s' base:St}(F:c.ob=s'.ob)(G:c.dead=s'.dead):∀ (l:List (Nat×ShO)) (j:Nat) (s x:List D) (f:Nat->Option Ob),akY s' l=some x->Gv s x j->(∀ p∈l,ShO.fine n base p.1 p.2=true) ->
  (∀ p∈xM s' l j,c'.β (b+p.1)=c.β p.2)->∀ id o',ak0 b base.ob l j s f id=some o'->f id=some o' ∨
   ∃ o,s'.ob id=some o/\((∀ I,gF c I o->gF c' I o')\/(∃ t B,(id,ShO.keep t B)∈l/\Ob.still t (base.ob id)=some o')\/∃ p B i,(id,ShO.lp p B)∈l/\o=.lp i p/\akF p (base.ob id)=some o')
 | [],j,s,x,f,e,m,r,q,id,o',a=>.inl a
 | (t,.one u h)::l,j,s,x,f,e,m,r,q,id,o',a=>by
  obtain⟨v,y,z,h0,h1,A,rfl⟩:=ww e;have H:=m.right;rw[oz h _ y h1] at H;simp only[ak0,ud] at a;simp only[xM,zKa] at q;rcases qE T F G l _ s z _ A H (λp hp=>r p (by simp[hp])) (λp hp=>q p (.inr hp)) id o' a with k|⟨o,C,E⟩
  ·split at k
   ·rename_i g;subst g;simp only[zca] at k;subst k;refine .inr ⟨_,h0,.inl λI k=>?_⟩;have d:=r (id,.one u h) j2
    simp only[ShO.fine,X] at d;simp only[gF] at k ⊢;obtain⟨C,E,K,cs,L,M,N⟩:=k;rw[T.w,T.S];refine⟨C,Hq b h u j s d.2,K,cs,L,Dk T h v j s y cs (by rw[F,G];exact h1) m.left d.1 (λp hp=>q p (.inl ?_)) M,N⟩
    simp_all [Nt]
   ·exact .inl k
  ·simp_all
 | (t,.many u)::l,j,s,x,f,e,m,r,q,id,o',a=>by
  obtain⟨v,z,h0,A,rfl⟩:=tB e;have J:s[j]?=some (.sl v):=by have:=m 0 j2;simpa using this
  have H:=m.right;simp only[ak0] at a;rcases qE T F G l _ s z _ A H (λp hp=>r p (by simp[hp])) (λp hp=>q p hp) id o' a with k|⟨o,C,E⟩
  ·split at k
   ·rename_i g;subst g;simp only[zca,List.getD,J,zYb,D.els] at k;subst k
    simp_all [gF,T.w,T.S]
   ·exact .inl k
  ·simp_all
 | (t,.mp u U)::l,j,s,x,f,e,m,r,q,id,o',a=>by
  obtain⟨v,z,h0,A,rfl⟩:=AI e;have J:s[j]?=some (.sl v):=by have:=m 0 j2;simpa using this
  have H:=m.right;simp only[ak0] at a;rcases qE T F G l _ s z _ A H (λp hp=>r p (by simp[hp])) (λp hp=>q p hp) id o' a with k|⟨o,C,E⟩
  ·split at k
   ·rename_i g;subst g;simp only[zca,List.getD,J,zYb,D.els] at k;subst k;refine .inr ⟨_,h0,.inl λI k=>?_⟩;simp only[gF] at k ⊢;obtain⟨q1,O,P,es,Q,R⟩:=k;rw[T.w,T.S];exact⟨q1,O,P,es,Q,jR.same T.w T.S R⟩
   ·exact .inl k
  ·simp_all
 | (t,.keep u B)::l,j,s,x,f,e,m,r,q,id,o',a=>by
  obtain⟨v,h0,A⟩:=tA e;simp only[ak0] at a;rcases qE T F G l _ s x _ A m (λp hp=>r p (by simp[hp])) (λp hp=>q p hp) id o' a with k|⟨o,C,E⟩
  ·grind
  ·grind
 | (t,.lp p B)::l,j,s,x,f,e,m,r,q,id,o',a=>by
  obtain⟨v,h0,A⟩:=AH e;simp only[ak0] at a;rcases qE T F G l _ s x _ A m (λp hp=>r p (by simp[hp])) (λp hp=>q p hp) id o' a with k|⟨o,C,E⟩
  ·grind
  ·grind
 | (t,.fv u)::l,j,s,x,f,e,m,r,q,id,o',a=>by
  obtain⟨h0,A⟩:=AG e;simp only[ak0] at a;rcases qE T F G l _ s x _ A m (λp hp=>r p (by simp[hp])) (λp hp=>q p hp) id o' a with k|⟨o,C,E⟩
  ·split at k
   ·rename_i g;subst g;simp only[zca] at k;subst k;have d:=r (id,.fv u) j2
    simp only[ShO.fine,X] at d;refine .inr ⟨_,h0,.inl λI k=>?_⟩;obtain⟨C,x,E,K,L⟩:=k;simp only[gF];rw[T.w,T.S];exact⟨C,x,E,K.old T d.1 d.2,L⟩
   ·exact .inl k
  ·grind
theorem zK:∀ {l:List (Nat×Nat)},dw (l.map Prod.snd)=true->∀ p∈l,∀ q∈l,p.2=q.2->p=q
 | [],_,p,hp,_,_,_=>by cases hp
 | x::l,h,p,hp,q,hq,e=>by
  simp only[z4a,dw,X,zEa] at h;have hx:∀ y∈l,y.2≠x.2:=λy d c=>by grind
  rcases zOa.1 hp with rfl|a
  ·simp_all
  ·rcases zOa.1 hq with rfl|b
   ·simp_all
   ·exact zK h.2 p a q b e
theorem uL:∀ {l:List (Nat×ShO)} {id:Nat} {t:Ty} {a:Nat},(id,ShO.keep t a)∈l->id∈cG l
 | [],_,_,_,h=>by cases h
 | (i,o)::l,id,t,a,h=>by
  rcases zOa.1 h with k|k
  ·grind [cG]
  ·have ih:=uL k;cases o<;>simp only[cG]<;>first
    | exact ih
    | exact zsa _ ih
theorem sr:∀ {l:List (Nat×ShO)} {id:Nat} {p:Option Ex} {a:Nat},(id,ShO.lp p a)∈l->id∈cG l
 | [],_,_,_,h=>by cases h
 | (i,o)::l,id,p,a,h=>by
  rcases zOa.1 h with k|k
  ·grind [cG]
  ·have ih:=sr k;cases o<;>simp only[cG]<;>first
    | exact ih
    | exact zsa _ ih
section
variable{w0:Root}{w w':World}{S S':Nat->Nat->Prop}{γ γ':Nat->Option Nat}{β β':Nat->Option (Nat×Nat)}{s s':St}{a a':Act}
def n9(h0:Rp w0 S γ β s a w)(h1:Rp w0 S' γ' β' s' a' w')(I:∀ b o,S b o->S' b o)(E:∀ b o,S b o->w'.cell? ⟨b,o,none⟩=w.cell? ⟨b,o,none⟩)(a2:s'.nt=s.nt){h:Shape}
  (hs:∀ t∈h.keepS,a'.tmps.getD t undef=a.tmps.getD t undef) (aI:∀ id b,γ id=some b->γ' id=some b) (ho:∀ id∈cG h.objs,∀ b,γ id=some b->γ' id=some b/\kw w w' b) {v:List D} (P:h.dec s s'=some v) (lkS lkO:List Nat) :
  ∃ A β'',Rp w0 S' A β'' (h.mk' s v lkS lkO) a' w'/\∀ id,id<s.base+4096->A id=γ' id:=by
 unfold Shape.dec at P;split at P<;>try(cases P;done)
 rename_i hg;simp only[X] at hg;obtain⟨hg,a7⟩:=hg;obtain⟨x,hx,P⟩:=ab P;obtain⟨y,hy,P⟩:=ab P;simp only[zca] at P;subst P;simp only[Shape.good,X,zya,zea] at hg;obtain⟨⟨⟨⟨bs,bt⟩,Q⟩,a0⟩,bx⟩:=hg;have bh:=Cy s' h.slots x hx;obtain⟨n,hn⟩:∃ n,n=(s.fresh+1)*4096:=⟨_,rfl⟩;have a9:s.base+4096=n:=by rw[hn];simp only[St.base];omega
 rw[<-hn] at Q a0;obtain⟨tl,J⟩:∃ tl,tl=TI s' h.slots 0++xM s' h.objs (akX h.slots):=⟨_,rfl⟩;have a4:Pl tl 0 (akX h.slots+akW h.objs):=by rw[J];have p1:=Nu s' h.slots 0;rw[zbb] at p1;exact p1.append (re s' h.objs _) u0 u0
 have a5:dw (tl.map Prod.snd)=true:=by rw[J,zib,BP,kT];exact a7
 have l:∀ p∈tl,p.2 ∉ s'.dead:=λp hp=>by
  rw[J] at hp;rcases zKa.1 hp with hp|hp
  ·exact wA s' _ x hx _ (by rw[<-BP s' _ 0];exact zbc hp)
  ·exact gk s' _ y hy _ (by rw[<-kT s' _ (akX h.slots)];exact zbc hp)
 obtain⟨A,hγ⟩:∃ A:Nat->Option Nat,A=λid=>if id<n then γ' id else none:=⟨_,rfl⟩
 obtain⟨β'',hβ⟩:∃ β'':Nat->Option (Nat×Nat),β''=λu=>if n<=u then(tl.find? λp=>p.1==u-n).bind λp=>β' p.2 else none:=⟨_,rfl⟩
 have al:∀ id,id<n->A id=γ' id:=λid hi=>by rw[hγ];simp[hi]
 have L:∀ id b,A id=some b->id<n/\γ' id=some b:=λid b m=>by
  rw[hγ] at m;simp only at m;split at m
  ·rename_i hi;exact⟨hi,m⟩
  ·cases m
 have a8:∀ p∈tl,β'' (n+p.1)=β' p.2:=λp hp=>by
  rw[hβ];simp only[zbd,if_true,zxb];cases hfd:tl.find? λq=>q.1==p.1 with
  | none=> have:=List.find?_eq_none.1 hfd p hp;simp at this
  | some q=>
   have h1:=List.find?_some hfd;have h2:=List.mem_of_find?_eq_some hfd;rw[a4.2 q h2 p hp (by simpa using h1)]
   rfl
 have K:∀ u b,β'' u=some b->∃ p∈tl,u=n+p.1/\β' p.2=some b:=λu b m=>by
  rw[hβ] at m;simp only at m;split at m<;>try(cases m;done)
  rename_i hu;obtain⟨p,h1,h2⟩:=ab m;refine⟨p,List.mem_of_find?_eq_some h1,?_,h2⟩;have:=List.find?_some h1;simp only[beq_iff_eq] at this;omega
 have ax:Gv (x++y) x 0:=λi hi=>by rw[zbb,zab hi]
 have R:Gv (x++y) y (akX h.slots):=λi hi=>by rw[<-bh,zRb u0,zxb]
 obtain⟨F,Y⟩:∃ F,F=(h.mk' s (x++y) lkS lkO).ob:=⟨_,rfl⟩;have V:F=ak0 n s.ob h.objs (akX h.slots) (x++y) (λ_=>none):=by rw[Y];simp only[Shape.mk',Hp,zbb,<-hn]
 have T:Two n ⟨w',S',γ',β',s'.ob,s'.dead⟩ ⟨w',S',A,β'',F,[]⟩:=by
  refine⟨rfl,rfl,al,λid hi o' a3=>?_⟩;rw[V] at a3;rcases qF h.objs _ _ y _ hy R id o' a3 with k|⟨_,o,N,C⟩
  ·cases k
  ·exact⟨o,N,C.1,C.2⟩
 have Z:a'.tmps.size=a.tmps.size:=by rw[h1.nt,a2,h0.nt]
 have a6:(h.mk' s (x++y) lkS lkO).tm=(ak1 n h.slots 0 (x++y) (λi=>if h.keepS.contains i then(s.tm i).still else .undef)).1:=by simp only[Shape.mk',<-hn]
 have G:=Mp (b:=n) T (s':=s') rfl rfl h.slots 0 (x++y) x (λi=>if h.keepS.contains i then(s.tm i).still else .undef) hx ax (λp hp=>(a0 p hp).2) (λp hp=>a8 p (by rw[J];exact List.mem_append_left _ hp))
 refine⟨A,β'',⟨h1.ext,λt ht=>?_,?_,λt ht=>?_,λid o b aO m=>?_,λid b m=>h1.γn id b (L id b m).2,λid M b m g=>h1.γi id M b (L id b m).2 (L M b g).2,λid hi=>?_,λu b e _ m=>?_,λu u' b e e' _ _ m g=>?_,λu id b e _ m hid=>?_,λu hu=>?_,h1.Sb,h1.So⟩,λid hi=>al id u0⟩
 ·rw[a6,<-Y];rcases G t with⟨N,C⟩|⟨N,C⟩
  ·exact C _ (h1.tms t ht)
  ·rw[C];by_cases hk:h.keepS.contains t=true
   ·have ba:t∈h.keepS:=by simpa using hk
    rw[zla hk,hs t ba];exact oc (c:=⟨w,S,γ,β,s.ob,s.dead⟩) E I (h0.tms t (by rw[<-Z];exact ht))
   ·rw[zia hk];simp only[AR]
 ·show a'.tmps.size=s.nt;rw[h1.nt,a2]
 ·have bm:s.nt<=t:=ht;rw[a6];rcases G t with⟨N,C⟩|⟨N,C⟩
  ·obtain⟨p,hp,rfl⟩:=zmb.1 N;have:=(a0 p hp).1;omega
  ·rw[C];split
   ·rw[h0.tmu t bm];rfl
   ·rfl
 ·have g:=(L id b m).2;rw[<-Y] at aO ⊢;have U:=aO;rw[V] at U;rcases qE (b:=n) (base:=s) T (s':=s') rfl rfl h.objs (akX h.slots) (x++y) y _ hy R (λp hp=>(Q p hp).2) (λp hp=>a8 p (by rw[J];exact z9a _ hp)) id o U with k|⟨o0,N,C|⟨t,an,C,k3⟩|⟨p,an,i1,C,rfl,k3⟩⟩
  ·cases k
  ·exact C b (h1.obs id o0 b N g)
  ·have d:=(Q _ C).2;simp only[ShO.fine] at d;split at d<;>try(cases d;done)
   rename_i u M p hw;simp only[X,zea] at d;obtain⟨rfl,ad⟩:=d;have O:=h0.tms an (by rw[h0.nt];exact ad)
   rw[hw] at O;simp only[AR,AC] at O;obtain⟨_,b0,off,_,z,_⟩:=O;obtain⟨q1,q2⟩:=ho id (uL C) b0 z;rw[g] at q1;simp only[zca] at q1;subst q1;obtain⟨u',x',H,rfl⟩:=xJ k3;have hO:=h0.obs id _ b H z;have B:=h1.obs id o0 b N g;simp only[gF,AC] at hO ⊢;obtain⟨r1,r2,_,cs,r3,⟨r4,r5,r6⟩,r7⟩:=hO;have q2:=q2.row r3;have bl:∀ o,¬ S' b o:=by
    cases o0
    case lp i p=> simp only[gF] at B;obtain⟨rr,z1,_⟩:=B;rw[q2] at z1;simp[ck,z1] at r3
    case fv v=>exact B.1
    all_goals (simp only[gF] at B;exact B.2.2.1)
   refine⟨r1,r2,bl,cs,?_,⟨r4,r5,r6.mono E I⟩,r7⟩;simp only[ck,q2];exact r3
  ·have d:=(Q _ C).2;simp only[ShO.fine,X,zea] at d;obtain⟨d,ad⟩:=d;have O:=h0.tms an (by rw[h0.nt];exact ad)
   obtain⟨b0,z⟩:∃ b0,γ id=some b0:=by
    split at d<;>try(cases d;done)
    ·rename_i M hw;have e:=of_decide_eq_true d;subst e;rw[hw] at O;simp only[AR,AC] at O;obtain⟨_,b0,_,z⟩:=O;exact⟨b0,z⟩
    ·rename_i v hw;rw[hw] at O;split at d<;>try(cases d;done)
     rename_i M hv;have e:=of_decide_eq_true d;subst e;obtain⟨bv,_,_,bp,_⟩:=kW O;obtain⟨_,x,_,k,_⟩:=h0.obs v _ bv hv bp;simp only[gg,AR,AC] at k;obtain⟨_,b0,_,z⟩:=k;exact⟨b0,z⟩
   obtain⟨q1,q2⟩:=ho id (sr C) b0 z;rw[g] at q1;simp only[zca] at q1;subst q1;obtain⟨i,p0,H,rfl⟩:=zt k3;have hO:=h0.obs id _ b H z;have B:=h1.obs id _ b N g;simp only[gF] at hO B ⊢;obtain⟨rec,r1,⟨r2,r3,r4,r5⟩,r6,_⟩:=hO;obtain⟨W,v1,_,_,v4⟩:=B;have e:Ev rec W:=by
    rcases q2 with k|⟨r,r',z1,z2,z3⟩
    ·rw[v1,r1] at k;cases k;exact⟨rfl,rfl,rfl,rfl⟩
    ·rw[r1] at z1;cases z1;rw[v1] at z2;cases z2;exact z3
   refine⟨W,v1,⟨by rw[e.1];exact r2,by rw[e.2.1];exact r3,by rw[e.2.2.1];exact r4,by rw[e.2.2.2];exact r5⟩,λt ht=>?_,v4⟩
   rw[e.1];refine gg.mono (c:=⟨w,S,γ,β,s.ob,s.dead⟩) E I (λj bj hj=>?_) (r6 t ht);rcases zua j n with k|k
   ·exact(al j k).trans (aI j bj hj)
   ·have a1:γ j=some bj:=hj;rw[h0.γf j u0] at a1;cases a1
 ·have bz:(s.fresh+1)*4096+4096<=id:=hi;rw[hγ];simp only;rw[zia u0]
 ·obtain⟨p,hp,_,g⟩:=K u _ m;exact h1.βn _ b e (l p hp) g
 ·obtain⟨p,hp,rfl,k⟩:=K u _ m;obtain⟨q,hq,rfl,k'⟩:=K u' _ g;have:=h1.βi _ _ b e e' (l p hp) (l q hq) k k';rw[zK a5 p hp q hq this]
 ·obtain⟨p,hp,_,g⟩:=K u _ m;exact h1.βγ _ id b e (l p hp) g (L id b hid).2
 ·have bY:(s.fresh+1)*4096+4096<=u:=hu;cases hc:β'' u with
  | none=>rfl
  | some b=> obtain⟨p,hp,e,_⟩:=K u b hc;have:=(a4.1 p hp).2;omega
end
end
end Sy
end
end Go.Proofs.YtdlipdnepadhjaaGreat
