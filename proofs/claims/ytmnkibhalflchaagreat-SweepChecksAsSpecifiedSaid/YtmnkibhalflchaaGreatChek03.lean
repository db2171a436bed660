/- Part 3 of the proof that SweepChecksAsSpecified answers true at every input -/
import Derived.Test.YtmnkibhalflchaaGreatChek02
import Derived.MapKept
import Derived.IntWalk
set_option linter.unusedVariables false
set_option linter.unusedSimpArgs false
set_option linter.unnecessarySimpa false
set_option linter.defProp false
set_option maxRecDepth 20000
namespace Go.Proofs.YtmnkibhalflchaaGreat
noncomputable section
namespace Sy
open Go
mutual
theorem Fx:∀ (x y:D),D.beq x y=true->x=y
 | .int k n,y,h=>by cases y<;>simp_all [D.beq]
 | .bool b,y,h=>by cases y<;>simp_all [D.beq]
 | .str b,y,h=>by cases y<;>simp_all [D.beq]
 | .st l,y,h=>by
  cases y<;>simp only[D.beq] at h<;>first|(cases h;done)|skip
  rw[Ci _ _ h]
 | .sl l,y,h=>by cases y<;>simp[D.beq] at h
 | .tup l,y,h=>by cases y<;>simp[D.beq] at h
theorem Ci:∀ (l l':List D),D.beqs l l'=true->l=l'
 | [],l',h=>by cases l'<;>simp_all [D.beqs]
 | x::l,l',h=>by
  cases l' with
  | nil=>simp[D.beqs] at h
  | cons y l'=> simp only[D.beqs,zaa] at h;rw[Fx _ _ h.1,Ci _ _ h.2]
end
section
variable{P:Program}{E:Env}{w0:Root}{S:Nat->Nat->Prop}{γ:Nat->Option Nat}{β:Nat->Option (Nat×Nat)}{s:St}{a:Act}{w:World}
theorem nw{α:Type}(g:α->PUnit->Sem (ForInStep PUnit)){w:World}:∀ (l:List α),(∀ x∈l,(g x ⟨⟩).run P w=.ok (.yield ⟨⟩) w)->(forIn l PUnit.unit g).run P w=.ok ⟨⟩ w
 | [],_=>rfl
 | x::l,h=>by simp only[List.forIn_cons,zla,h x zwa,zfa];exact nw g l λy a=>h y (zma _ a)
def kh{w:World}{b n:Nat}{es:Array MapEntry}(h:w.heap[b]?=some (.map es n)):(getObj b).run P w=.ok (.map es n) w:=by simp[getObj,Sem.run,h]
mutual
theorem jg:∀ (ty:Ty) (T:TypeId) (x:D) (cx:List Value) (vx:Value) (n:Nat) (e:Bool),bL P ty T=true->bE ty=true->ty.high<=n->wt ty x->cL w S x.flat cx->gj ty cx vx->∀ w',(Instr.checkKey e n T vx).run P w'=.ok () w'
 | .int k,T,x,cx,vx,n,e,hl,_,hd,hx,rx,ix,w'=>by
  simp only[wt] at hx;obtain⟨m,rfl⟩:=hx;obtain⟨c1,rfl,r1⟩:=rx.single';rw[eQ ix rfl,r1.int_inv];obtain⟨n,rfl⟩:∃ e,n=e+1:=⟨n-1,by simp only[Ty.high] at hd;omega⟩
  simp only[Instr.checkKey,zla,run_underlying (jk hl),zfa,zra]
 | .bool,T,x,cx,vx,n,e,hl,_,hd,hx,rx,ix,w'=>by
  simp only[wt] at hx;obtain⟨m,rfl⟩:=hx;obtain⟨c1,rfl,r1⟩:=rx.single';rw[eQ ix rfl,r1.bool_inv];obtain⟨n,rfl⟩:∃ e,n=e+1:=⟨n-1,by simp only[Ty.high] at hd;omega⟩
  have hu:P.underlying T=some .bool:=by simp only[bL,zaa] at hl;all_goals grind
  simp only[Instr.checkKey,zla,run_underlying hu,zfa,zra]
 | .st ts,T,x,cx,vx,n,e,hl,hc,hd,hx,rx,ix,w'=>by
  simp only[wt] at hx;obtain⟨l,rfl,hx⟩:=hx;rw[io ix rfl];obtain⟨fs,h1,h2⟩:=iI hl;simp only[Ty.high] at hd;obtain⟨n,rfl⟩:∃ e,n=e+1:=⟨n-1,j1⟩
  simp only[bE] at hc;simp only[D.flat] at rx;simp only[Instr.checkKey,zla,run_underlying h1,zfa];rw[<-Array.forIn_toList,nw (P:=P) (w:=w')]
  ·rfl
  ·intro f hf;have key:=lh ts fs.toList 0 l [] cx cx.toArray n e h2 hc j1 hx rx rfl rfl w' f hf
   by_cases hn : f.name ≠ "_"
   ·rw[zja hn] at key ⊢;simp only[zla] at key ⊢;cases hp:(part f.type cx.toArray f.offset).run P w' with
    | ok v w2=> rw[hp] at key;simp only[zfa] at key ⊢;rw[key];rfl
    | _=>rw[hp] at key;simp[Result.andThen] at key
   ·rw[zga hn];rfl
 | .arr m t,T,x,cx,vx,n,e,hl,hc,hd,hx,rx,ix,w'=>by
  simp only[wt] at hx;obtain⟨l,rfl,hxl,hx⟩:=hx;rw[io ix rfl];obtain⟨u,h1,h2⟩:=ef hl;simp only[Ty.high] at hd;obtain⟨n,rfl⟩:∃ e,n=e+1:=⟨n-1,j1⟩
  simp only[bE] at hc;simp only[D.flat] at rx;have hn:=aH _ _ h2;simp only[Instr.checkKey,zla,run_underlying h1,zfa];rw[Std.Legacy.Range.forIn_eq_forIn_range',nw (P:=P) (w:=w')]
  ·rfl
  ·intro j hj;have hjn:j<m:=by simp at hj;omega
   have e1:l[j]?=some (l.getD j (.bool false)):=by simp[List.getD,zea (hxl ▸ hjn)]
   generalize l.getD j (.bool false)=dx at *;have wx:=hx dx (zbb e1);have rx':=rx;rw[ck e1] at rx';obtain⟨p1,p2⟩:=rx'.split;obtain⟨p3,p4⟩:=p2.split;have o1:(cx.take (ad2 (l.take j)).length).length=j*t.size:=by rw[<-p1.1,aK hn _ (λx hx'=>hx x (zZa hx')),zjb,zkb j1]
   obtain⟨v1,r1,i1⟩:=gT h2 (cs:=cx.toArray) (pre:=cx.take (ad2 (l.take j)).length) (mid:=(cx.drop (ad2 (l.take j)).length).take dx.flat.length) (post:=(cx.drop (ad2 (l.take j)).length).drop dx.flat.length)
     (by simp only[zua]) (by rw[<-p3.1];exact ct _ _ wx hn) p3.nag w'
   rw[o1] at r1;have r3:=jg t u dx _ v1 n e h2 hc j1 wx p3 i1 w'
   simp only[zla,bY h2,zfa,r1,r3,zra]
 | .str,_,_,_,_,_,_,_,hc,_,_,_,_,_=>by simp[bE] at hc
 | .sl _,_,_,_,_,_,_,_,hc,_,_,_,_,_=>by simp[bE] at hc
 | .tup _,_,_,_,_,_,_,_,hc,_,_,_,_,_=>by simp[bE] at hc
 | .fn,_,_,_,_,_,_,_,hc,_,_,_,_,_=>by simp[bE] at hc
theorem lh:∀ (ts:List Ty) (fs:List Field) (off:Nat) (l:List D) (px cx:List Value) (xs:Array Value) (n:Nat) (e:Bool),fU P ts fs off=true->lj ts=true->aeM ts<=n->eu ts l->cL w S (ad2 l) cx ->
  xs.toList = px ++ cx -> px.length = off -> ∀ w', ∀ f ∈ fs, (if f.name ≠ "_" then (part f.type xs f.offset >>= λv => Instr.checkKey e n f.type v) else pure ()).run P w' = .ok () w'
 | [],fs,off,l,px,cx,xs,n,e,hf,_,_,_,_,_,_,w'=>by all_goals grind [fU]
 | t::ts,[],off,l,px,cx,xs,n,e,hf,_,_,_,_,_,_,w'=>by simp[fU] at hf
 | t::ts,f::fs,off,l,px,cx,xs,n,e,hf,hc,hd,hx,rx,ex,lx,w'=>by
  simp only[fU,zaa,zia] at hf;obtain⟨⟨⟨⟨h1,h2⟩,h3⟩,h4⟩,h5⟩:=hf;simp only[eu] at hx;obtain⟨dx,l,rfl,hx1,hx2⟩:=hx;simp only[ad2] at rx;obtain⟨p3,p4⟩:=rx.split;have hn:=aH _ _ h4;simp only[lj,zaa] at hc;simp only[aeM] at hd;obtain⟨v1,r1,i1⟩:=gT h4 (cs:=xs) (pre:=px) (mid:=cx.take dx.flat.length) (post:=cx.drop dx.flat.length) (by rw[ex,zua]) (by rw[<-p3.1];exact ct _ _ hx1 hn) p3.nag w'
  rw[lx,<-h1] at r1;have r3:=jg t f.type dx _ v1 n e h4 hc.1 j1 hx1 p3 i1 w'
  have hs1:(cx.take dx.flat.length).length=t.size:=by rw[<-p3.1];exact ct _ _ hx1 hn
  have ih:=lh ts fs (off+t.size) l (px++cx.take dx.flat.length) (cx.drop dx.flat.length) xs n e h5 hc.2 j1 hx2 p4
   (by rw[zXa,zua];exact ex) (by rw[zFa,lx,hs1]) w'
  intro g hg;rcases zGa.1 hg with rfl|hg
  ·rw[zja h2,zla,r1,zfa,r3]
  ·exact ih g hg
end
def Az:List D->D->List MapEntry->Nat->Option (Nat×Value)
 | .st [k,_]::l,x,e::es,i=>if D.beq x k then some (i,e.val) else Az l x es (i+1)
 | _,_,_,_=>none
theorem td{c:Cx}{g vt:Ty}{T:TypeId}{x:D}{o:Value}(hl:bL P g T=true)(hc:bE g=true)(hx:wt g x)(rx:fa c.w c.S x o){desc:TypeDesc}(hu:P.underlying T=some desc):∀ (l:List D) (es:List MapEntry) (j i:Nat) (r:Option (Nat×Value)),iA c g vt j l es->Instr.findNow desc o es i=some r->r=Az l x es i
 | [],[],j,i,r,_,h=>by simp only[Instr.findNow,zda] at h;rw[<-h];rfl
 | [],_::_,j,i,r,h,_=>h.elim
 | _::_,[],j,i,r,h,_=>h.elim
 | y::l,e::es,j,i,r,h,f=>by
  simp only[iA] at h;obtain⟨⟨_,k,v,rfl,hk,z,p,A⟩,q⟩:=h;simp only[Instr.findNow] at f;have key:∀ b,Instr.sameNow desc o e.key=some b->b=D.beq x k:=by
   intro b a;cases g<;>simp only[wt] at hx hk
   case int kk=> obtain⟨n,rfl⟩:=hx;obtain⟨m,rfl⟩:=hk;rw[rx.int_inv,p.int_inv] at a;rw[jk hl] at hu;cases hu;simp only[Instr.sameNow,if_true,zda] at a;rw[<-a];simp[D.beq];rfl
   case bool=> obtain⟨n,rfl⟩:=hx;obtain⟨m,rfl⟩:=hk;rw[rx.bool_inv,p.bool_inv] at a;simp only[bL,zaa] at hl;have d:=hl.2;rw[hu] at d;cases desc<;>simp at d;simp only[Instr.sameNow,zda] at a;rw[<-a];rfl
   case st ts=> obtain⟨s,d,_⟩:=iI hl;rw[hu] at d;cases d;simp[Instr.sameNow] at a
   case arr m t=> obtain⟨u,d,_⟩:=ef hl;rw[hu] at d;cases d;simp[Instr.sameNow] at a
   all_goals simp[bE] at hc
  cases hs:Instr.sameNow desc o e.key with
  | none=>rw[hs] at f;simp at f
  | some b=>
   rw[hs] at f;have:=key b hs;subst this;cases a:D.beq x k
   ·rw[a] at f;simp only at f;have:=td hl hc hx rx hu l es (j+1) (i+1) r q f;grind [Az,Bool.false_eq_true]
   ·grind [Option.some.injEq,Az]
theorem mT{c:Cx}{a vt:Ty}{T:TypeId}{x:D}{b:Value}(hl:bL P a T=true)(hc:bE a=true)(g:a.high<=1000)(hx:wt a x)(rx:fa c.w c.S x b)(w':World):∀ (l:List D) (es:List MapEntry) (j i:Nat),iA c a vt j l es->(Instr.findAsking T b es i).run P w'=.ok (Az l x es i) w'
 | [],[],j,i,_=>rfl
 | [],_::_,j,i,h=>h.elim
 | _::_,[],j,i,h=>h.elim
 | y::l,e::es,j,i,h=>by
  simp only[iA] at h;obtain⟨⟨_,k,v,rfl,hk,n,d,o⟩,f⟩:=h;have hn:=aH _ _ hl;have i1:gj a b.cells.toList b:=⟨rfl,nX hx hn rx.1⟩;have i2:gj a e.key.cells.toList e.key:=⟨rfl,nX hk hn d.1⟩;have m:=oH a T x k _ _ _ _ 10000 hl hc j1 hx hk rx.2 d.2 i1 i2 w'
  simp only[Instr.findAsking,Op.equal,Op.maxDepth,zla,m,zfa,Az];cases D.beq x k
  ·simp only[zLa,if_false];exact mT hl hc g hx rx w' l es (j+1) (i+1) f
  ·simp
def tc{c:Cx}{a vt:Ty}{T:TypeId}{x:D}{e:Value}(hl:bL P a T=true)(hc:bE a=true)(f:a.high<=1000)(hx:wt a x)(rx:fa c.w c.S x e)(w':World){l:List D}{es:List MapEntry}{j:Nat}(h:iA c a vt j l es) :
  (Instr.findKey T e es).run P w'=.ok (Az l x es 0) w':=by
 have hu:∃ d,P.underlying T=some d:=by
  cases a<;>simp only[bE] at hc<;>first|(cases hc;done)|skip
  ·exact⟨_,jk hl⟩
  ·simp only[bL,zaa] at hl;have b:=hl.2;split at b
   ·rename_i hu;exact⟨_,hu⟩
   ·cases b
  ·obtain⟨i,h1,_⟩:=iI hl;exact⟨_,h1⟩
  ·obtain⟨u,h1,_⟩:=ef hl;exact⟨_,h1⟩
 obtain⟨d,hu⟩:=hu;simp only[Instr.findKey,zla,run_underlying hu,zfa];split
 ·rename_i r g;rw[td hl hc hx rx hu l es j 0 r h g];rfl
 ·exact mT hl hc f hx rx w' l es j 0 h
theorem CL{c:Cx}{b vt:Ty}{x:D}:∀ (l:List D) (es:List MapEntry) (j i:Nat),iA c b vt j l es ->
  match Az l x es i with
  | none=>ad3 l x=none
  | some (_,v)=>∃ d,ad3 l x=some d/\wt vt d/\fa c.w c.S d v
 | [],[],j,i,_=>rfl
 | [],_::_,j,i,h=>h.elim
 | _::_,[],j,i,h=>h.elim
 | y::l,e::es,j,i,h=>by
  simp only[iA] at h;obtain⟨⟨_,k,v,rfl,hk,f,g,m⟩,a⟩:=h;simp only[Az,ad3];cases hb:D.beq x k
  ·simp only[zLa,if_false];exact CL l es (j+1) (i+1) a
  ·simp_all
def Er(hE:EnvOk P E)(h:Rp w0 S γ β s a w){dst T x i cok ty pos after guard}:iB P E w0 S γ β s a w ⟨dst,.lookup T x i cok,ty,pos,after,guard⟩:=by
 intro R K r hq;simp only[qv] at hq;replace hq:=ab hq;obtain⟨kv,O,hq⟩:=hq;obtain⟨ad,al⟩:=kv;have hx:=aS h x;generalize s.opA x=ax at *;cases ax<;>(try simp only at hq)<;>first|(cases hq;done)|skip
 rename_i kt vt id;split at hq<;>first|(cases hq;done)|skip
 rename_i J;simp only[zaa] at J;have F:=aeK _ _ J.1;have G:=aeK _ _ J.2;subst F;subst G;split at hq<;>first|(cases hq;done)|skip
 rename_i A c l Q;split at hq<;>first|(cases hq;done)|skip
 rename_i j;simp only[zaa] at j;have F:=aeK _ _ j.1;have G:=aeK _ _ j.2;subst F;subst G;replace hq:=ab hq;obtain⟨m,N,hq⟩:=hq;split at hq<;>first|(cases hq;done)|skip
 rename_i L;have Z:=aS h i;rw[dG N,aeK _ _ L] at Z;obtain⟨hc,KT,VT,hu,k,q,hh⟩:=hE.mapL T _ _ O;have t:=aH _ _ k;have f:=aH _ _ q;obtain⟨W,X⟩:=yo Z t;simp only[AR,AC] at hx;obtain⟨na,b,M,hγ,_,_,_⟩:=hx;have hv:=ar na M;have hO:=h.obs id _ b Q hγ;simp only[fN] at hO;obtain⟨_,_,_,es,o,Y⟩:=hO;have i1:gj A (a.eval i).cells.toList (a.eval i):=⟨rfl,nX W t X.1⟩;have rc:=jg (S:=S) (w:=w) A KT m.2 _ _ 10000 es.isEmpty k hc j1 W X.2 i1 w
 have D:=tc (P:=P) k hc hh W X w Y;have rg:=CL (x:=m.2) l es.toList 0 0 Y;obtain⟨z,U,V,y⟩:=jc q;have g:wt c (az c)/\fa w S (az c) z:=by
  have wz:=cK c f;refine⟨wz,?_⟩;have H:AC ⟨w,S,γ,β,s.ob,s.dead⟩ (.d c (az c)) z.cells.toList:=by simp only[AC];exact⟨wz,f,cu V⟩
  have iv:gj c z.cells.toList z:=⟨rfl,λI=>(y.2 I),λI xs e=>by have:=y.1 ⟨xs,e⟩;rw[I] at this;cases this⟩
  exact(yo (uX (bH _ _) H iv) f).2
 have run:∃ v d,(ad3 l m.2).getD (az c)=d/\wt c d/\fa w S d v/\(execOp a.eval ⟨dst,.lookup T x i cok,ty,pos,after,guard⟩).run P w=.ok (.value (if cok then .tuple #[v,.bool (ad3 l m.2).isSome] else v)) w:=by
  have hex:(execOp a.eval ⟨dst,.lookup T x i cok,ty,pos,after,guard⟩)=(Instr.lookup T (a.eval x) (a.eval i) cok >>= λv=>pure (.value v)):=rfl;rw[hex,hv];cases hf:Az l m.2 es.toList 0 with
  | none=>
   rw[hf] at rg D;simp only at rg;refine⟨z,az c,by rw[rg];rfl,g.1,g.2,?_⟩
   simp only[Instr.lookup,zla,run_underlying hu,zfa,kh o,zra,rc,D,U,rg];rfl
  | some p=>
   obtain⟨n,v⟩:=p;rw[hf] at rg D;simp only at rg;obtain⟨d,g1,g2,g3⟩:=rg;refine⟨v,d,by rw[g1];rfl,g2,g3,?_⟩
   simp only[Instr.lookup,zla,run_underlying hu,zfa,kh o,zra,rc,D,g1];rfl
 obtain⟨v,d,r1,r2,r3,C⟩:=run;rw[r1] at hq;cases cok with
 | false=> simp only at hq;simp only[zLa,if_false] at C;exact⟨_,hq,.value C (Qp.same h (c6 f r2 r3) _)⟩
 | true=>
  simp only at hq;simp only[if_true] at C;refine⟨_,hq,.value C (Qp.same h ?_ _)⟩;simp only[AR];refine .inr ⟨_,rfl,by simp[aO,f,ao],?_,?_⟩
  ·simp only[wt,eu];exact⟨_,rfl,d,_,rfl,r2,_,_,rfl,⟨_,rfl⟩,rfl⟩
  ·refine⟨[v,.bool (ad3 l m.2).isSome],rfl,rfl,λi dd u h1 B=>?_⟩;rcases i with _|_|i
   ·simp at h1 B;subst h1;subst B;exact r3
   ·simp at h1 B;subst h1;subst B;exact aec (.bool _)
   ·simp at h1
end
section
variable{P:Program}{E:Env}{w0:Root}{S:Nat->Nat->Prop}{γ:Nat->Option Nat}{β:Nat->Option (Nat×Nat)}{s:St}{a:Act}{w:World}
def G8(G:EnvOk P E)(h:Rp w0 S γ β s a w){dst T ty pos after guard}(p:Fr E s γ β ⟨dst,.alloc T,ty,pos,after,guard⟩)(hT:∀ t,E.L T=some t->ao t=true):iB P E w0 S γ β s a w ⟨dst,.alloc T,ty,pos,after,guard⟩:=by
 intro R K r hq;simp only[qv] at hq;replace hq:=ab hq;obtain⟨t,m,hq⟩:=hq;replace hq:=ab hq;obtain⟨d,H,hq⟩:=hq;obtain⟨I,y,N,j⟩:=p rfl d H;cases hfn:E.fnT T with
 | true=>
  have j:=j T (.fv .undef) rfl (by simp[Env.alOb,hfn])
  have e:t=.fn:=by simp only[Env.alTy,hfn,cond_true,zda] at m;exact m.symm
  subst e;obtain⟨i,z,M,_,_,J,_,q⟩:=CK (G.fnT T hfn);have C:∀ w,(zeroValue T).run P w=.ok z w:=by simp_all [zeroValue,typeInfo]
  obtain⟨h1,D⟩:=h.grow (os:=[.cells z.cells T]) (d:=w.drawn) (zka _) (S':=S) (λ_ _ g=>g) (λ_ _ g=>.inl g);have l:¬ w0.Old w.heap.size:=λc=>by have:=c.1;have:=h.ext.sz;omega
  obtain⟨A,F⟩:=h1.newOb (id:=s.base+d) (b:=w.heap.size) y l s6 (λid hid=>by have:=(h.γn id _ hid).2;omega) (λu f hu p=>by have:=(h.βn u _ _ hu p).2.1;omega) j1
   (λo c=>by rw[j] at c;cases c;simp only[fN];exact⟨λo c=>by have:=h.Sb _ _ c;omega,z,by rw[<-pI q];exact mw,by simp only[fi],q⟩)
  refine⟨_,hq,.value (v:=.pointer (some ⟨w.heap.size,0,none⟩)) (w':=grown w [.cells z.cells T] w.drawn) (by rw[<-cN];simp only[execOp,Instr.alloc,newVar,newRow,zla,C,zfa,run_newObj,zra];rfl) ⟨S,_,β,A,fB (bA _ _ _) (λo c=>?_),λ_ _ g=>g,⟨_,_,rfl⟩,λid b g=>eK y g,λid hid=>⟨bW _ _ λB=>?_,rfl⟩⟩⟩
  ·have k:s.ob (s.base+d)=some o:=c;rw[j] at k;cases k;exact⟨rfl,rfl⟩
  ·subst B;rcases hid with hid|hid
   ·simp_all
   ·omega
 | false=>
 simp only[Env.alTy,hfn,cond_false] at m;have j:=j T (.one t (j4 t)) rfl (by simp[Env.alOb,hfn,m])
 have hn:=hT t m;have hl:=ii G m hn;obtain⟨z,C,x,_⟩:=jc hl;obtain⟨h1,D⟩:=h.grow (os:=[.cells z.cells T]) (d:=w.drawn) (zka _) (S':=S) (λ_ _ g=>g) (λ_ _ g=>.inl g);have l:¬ w0.Old w.heap.size:=λc=>by have:=c.1;have:=h.ext.sz;omega
 have hlen:z.cells.toList.length=t.size:=by rw[<-(cu (w:=w) (S:=S) x).1];exact ct _ _ (cK t hn) hn
 obtain⟨A,F⟩:=h1.newOb (id:=s.base+d) (b:=w.heap.size) y l s6 (λid hid=>by have:=(h.γn id _ hid).2;omega) (λu f hu p=>by have:=(h.βn u _ _ hu p).2.1;omega) j1
  (λo c=>by rw[j] at c;cases c;simp only[fN];exact⟨hn,uE t hn,λo c=>by have:=h.Sb _ _ c;omega,z.cells.toList,by rw[z3b];exact mw,Ax t _ hn x,hlen⟩)
 refine⟨_,hq,.value (v:=.pointer (some ⟨w.heap.size,0,none⟩)) (w':=grown w [.cells z.cells T] w.drawn) (by rw[<-cN];simp only[execOp,Instr.alloc,newVar,newRow,zla,C,zfa,run_newObj,zra];rfl) ⟨S,_,β,A,fB (bA _ _ _) (λo c=>?_),λ_ _ g=>g,⟨_,_,rfl⟩,λid b g=>eK y g,λid hid=>⟨bW _ _ λB=>?_,rfl⟩⟩⟩
 ·have k:s.ob (s.base+d)=some o:=c;have:o=.one t (j4 t):=by simp_all
  subst this;exact⟨by cases t<;>rfl,by cases t<;>rfl⟩
 ·subst B;rcases hid with hid|hid
  ·simp_all
  ·omega
def AG{c:Cx}{e:Ty}{y:AV}{v:Value}{l:List D}{ob:Nat->Option Ob}(hn:ao e=true)(h:AR c y v)(hl:y.asList ob e=some l):∃ a cap,v=.slice a l.length cap:=by
 obtain⟨_,d⟩:=jA hn h hl;obtain⟨a,cap,b,off,f,_⟩:=d.elems
 simp_all
def xM{T:TypeId}{e:Ty}(hl:bL P (.sl e) T=true){A:Option Addr}{len cap lo a:Nat}{c b:Option Value}(h1:lo<=a)(m:a<=len)(n:len<=cap)
  (f:(c=none/\lo=0)\/∃ k,c=some (.int k lo)) (d:(b=none/\a=len)\/∃ k,b=some (.int k a)) (w:World) :
  (Instr.sliceAt T (.slice A len cap) c b none).run P w=.ok (.slice (if cap=lo then A else A.map (·.add (lo*e.size))) (a-lo) (cap-lo)) w:=by
 obtain⟨u,h,i⟩:=gZ hl;have j:(0:Int)<=(a:Int)/\(a:Int)<=(cap:Int):=j1
 have l:(0:Int)<=(lo:Int)/\(lo:Int)<=(a:Int):=j1
 have g:(Instr.sliceBounds true len cap c b none).run P w=.ok (lo,a,cap) w:=by
  rcases f with⟨rfl,rfl⟩|⟨k,rfl⟩<;>rcases d with⟨rfl,rfl⟩|⟨o,rfl⟩ <;>
   simp_all [Instr.sliceBounds,Instr.sliceBound,asIntOf,pure_bind,zla,zra]
 simp only[Instr.sliceAt,zla,run_underlying h,zfa,Instr.slice,g,bY i,zra]
def rA{T:TypeId}{m:Nat}{e:Ty}(hl:bL P (.arr m e) T=true){b off lo a:Nat}{d c:Option Value}(h1:lo<=a)(p:a<=m)(q:lo<m)
  (g:(d=none/\lo=0)\/∃ k,d=some (.int k lo)) (f:(c=none/\a=m)\/∃ k,c=some (.int k a)) (w:World) :
  (Instr.sliceAt T (.pointer (some ⟨b,off,none⟩)) d c none).run P w=.ok (.slice (some ⟨b,off+lo*e.size,none⟩) (a-lo) (m-lo)) w:=by
 obtain⟨u,j,l⟩:=ef hl;have n:(0:Int)<=(a:Int)/\(a:Int)<=(m:Int):=j1
 have o:(0:Int)<=(lo:Int)/\(lo:Int)<=(a:Int):=j1
 have h:¬ m=lo:=j1
 have i:(Instr.sliceBounds false m m d c none).run P w=.ok (lo,a,m) w:=by
  rcases g with⟨rfl,rfl⟩|⟨k,rfl⟩<;>rcases f with⟨rfl,rfl⟩|⟨r,rfl⟩ <;>
   simp_all [Instr.sliceBounds,Instr.sliceBound,asIntOf,pure_bind,zla,zra]
 simp only[Instr.sliceAt,zla,run_underlying j,zfa,ks,i,bY l,zra,h,if_false,db]
def ME{w:World}{S:Nat->Nat->Prop}{e:Ty}{l:List D}{v:Value}{lo a:Nat}(hn:ao e=true)(hw:∀ x∈l,wt e x)(h:CR w S (.sl l) v)(h1:lo<=a)(g:a<=l.length) :
  ∃ A cap,v=.slice A l.length cap/\l.length<=cap/\CR w S (.sl ((l.take a).drop lo)) (.slice (if cap=lo then A else A.map (·.add (lo*e.size))) (a-lo) (cap-lo)):=by
 obtain⟨A,cap,b,off,j,k,m,c⟩:=h.elems;refine⟨A,cap,j,m,?_⟩;have hlen:((l.take a).drop lo).length=a-lo:=by simp;omega
 rw[<-hlen];have f:l=l.take lo++((l.take a).drop lo++l.drop a):=by rw[<-zXa,show l.take lo=(l.take a).take lo by rw[List.take_take,zkb h1],zua,zua]
 rw[f,cg,cg] at c;have d:=c.part;rw[aK hn _ (λx hx=>hw x (zZa hx)),zjb,zkb j1] at d
 refine adS (b:=b) (off:=off+lo*e.size) ?_ (by rw[hlen];omega) d
 by_cases he:(l.take a).drop lo=[]
 ·exact .inl he
 ·right;have i:0<a-lo:=by rw[<-hlen];exact zzc.2 he
  rw[zga j1]
  rcases k with rfl|rfl
  ·simp at g;omega
  ·simp only[zSb,db]
def He(L:EnvOk P E)(h:Rp w0 S γ β s a w){dst T x lo C mx ty pos after guard}:iB P E w0 S γ β s a w ⟨dst,.slice T x lo C mx,ty,pos,after,guard⟩:=by
 intro R K r hq;simp only[qv] at hq;split at hq<;>first|(cases hq;done)|skip
 replace hq:=ab hq;obtain⟨t,M,hq⟩:=hq;have num:∀ {i:Operand} {n:Nat},((isD (s.opA i)).bind λa=>a.2.natOf)=some n->∃ k,a.eval i=.int k n:=by intro i n Q;obtain⟨p,h1,N⟩:=ab Q;obtain⟨Y,O⟩:=qa N;have J:=aS h i;rw[dG h1,O] at J;exact⟨Y,(dS J).1⟩
 cases t<;>(try simp only at hq)<;>first|(cases hq;done)|skip
 case arr m e=>
  rcases L.lay T _ M with⟨I,u⟩|hl
  ·cases u
  have hn:=aH _ _ hl;simp only[ao] at hn;have hx:=aS h x;generalize s.opA x=y at *;cases y<;>(try simp only at hq)<;>first|(cases hq;done)|skip
  rename_i t' id p;split at hq<;>first|(cases hq;done)|skip
  rename_i z;have:=aeK _ _ z;subst this;replace hq:=ab hq;obtain⟨c,G,hq⟩:=hq;replace hq:=ab hq;obtain⟨d,F,hq⟩:=hq;split at hq<;>first|(cases hq;done)|skip
  rename_i o;obtain⟨b,off,H,Z,U⟩:=jp hx;have g:((lo.map a.eval)=none/\c=0)\/∃ k,(lo.map a.eval)=some (.int k c):=by all_goals grind
  have f:((C.map a.eval)=none/\d=m)\/∃ k,(C.map a.eval)=some (.int k d):=by all_goals grind
  have j:=rA hl (b:=b) (off:=off) o.1 o.2.1 o.2.2 g f w;refine⟨_,hq,.value (v:=.slice (some ⟨b,off+c*e.size,none⟩) (d-c) (m-c)) (w':=w) (by simp only[execOp,Option.map_none,H,zla,j,zfa,zra]) (Qp.same h ?_ _)⟩
  simp only[AR,AC,Value.cells];grind
 rename_i e;rcases L.lay T _ M with⟨I,u⟩|hl
 ·cases u
 have hn:=aH _ _ hl;simp only[ao] at hn;replace hq:=ab hq;obtain⟨l,q,hq⟩:=hq;replace hq:=ab hq;obtain⟨c,G,hq⟩:=hq;replace hq:=ab hq;obtain⟨d,F,hq⟩:=hq;replace hq:=ab hq;obtain⟨l',hl',hq⟩:=hq;simp only[D.cut] at hl';split at hl'<;>first|(cases hl';done)|skip
 rename_i z;simp only[zda] at hl';subst hl';obtain⟨V,W⟩:=jA hn (aS h x) q;obtain⟨A,cap,H,B,X⟩:=ME hn V W z.1 z.2;have g:((lo.map a.eval)=none/\c=0)\/∃ k,(lo.map a.eval)=some (.int k c):=by all_goals grind
 have f:((C.map a.eval)=none/\d=l.length)\/∃ k,(C.map a.eval)=some (.int k d):=by all_goals grind
 have j:=xM hl (A:=A) (len:=l.length) (cap:=cap) z.1 z.2 B g f w;have hw:wt (.sl e) (.sl ((l.take d).drop c)):=by grind [wt]
 exact⟨_,hq,.value (w':=w) (by simp only[execOp,Option.map_none,H,zla,j,zfa,zra]) (Qp.same h (c6 (by simpa [ao] using hn) hw (aec X)) _)⟩
def Lh(F:EnvOk P E)(h:Rp w0 S γ β s a w){dst T x ty pos after guard}:iB P E w0 S γ β s a w ⟨dst,.sliceToArrayPointer T x,ty,pos,after,guard⟩:=by
 intro R K r hq;simp only[qv] at hq;replace hq:=ab hq;obtain⟨t,G,hq⟩:=hq;have hx:=aS h x;generalize s.opA x=y at *;cases t<;>(try simp only at hq)<;>first|(cases hq;done)|skip
 rename_i n e;have plain:(y.asList s.ob e).bind (λl=>if decide (1<=n)&&decide (n<=l.length) then K (.fptr (.arr n e) (.st (l.take n))) else none)=some r ->
   ∃ v,K v=some r/\dT P ⟨dst,.sliceToArrayPointer T x,ty,pos,after,guard⟩ a w (Qp w0 S γ β s a w dst v):=λhq=>by
  replace hq:=ab hq;obtain⟨l,o,hq⟩:=hq;split at hq<;>first|(cases hq;done)|skip
  rename_i g;simp only[zaa,zia] at g;rcases F.lay T _ G with⟨C,d⟩|hl
  ·cases d
  obtain⟨u,hu,q⟩:=ef hl;have hn:=aH _ _ q;obtain⟨M,N⟩:=jA hn hx o;obtain⟨A,cap,b,off,B,H,_,f⟩:=N.elems;have i:A=some ⟨b,off,none⟩:=H.resolve_left λh0=>by subst h0;simp at g;omega
  subst i;have c:¬ l.length<n:=j1
  refine⟨_,hq,.value (v:=.pointer (some ⟨b,off,none⟩)) (w':=w) (by simp only[execOp,B,Instr.arrayAt,zla,run_underlying hu,zfa,c,if_false,zra]) (Qp.same h ?_ _)⟩
  simp only[AR,AC,Value.cells];refine⟨s6,by simp only[wt];exact⟨_,rfl,by simp;omega,λx hx=>M x (zZa hx)⟩,by simpa only[ao] using hn,b,off,rfl,?_⟩
  have e:ad2 l=[]++(ad2 (l.take n)++ad2 (l.drop n)):=by rw[z0b,<-cg,zua]
  rw[e] at f;simpa [D.flat] using f.part
 cases y<;>(try simp only at hq)<;>first|exact plain hq|skip
 rename_i sl Q id p lo O;split at hq<;>first|(cases hq;done)|skip
 rename_i g;simp only[zaa,zia] at g;obtain⟨⟨j,k⟩,I⟩:=g;subst j;have:=aeK _ _ k;subst this;rcases F.lay T _ G with⟨C,d⟩|hl
 ·cases d
 obtain⟨u,hu,_⟩:=ef hl;simp only[AR,AC,if_true] at hx;obtain⟨z,J,b,off,cap,m,U,L⟩:=hx;have B:=ar z m;have c:¬ O<n:=j1
 refine⟨_,hq,.value (v:=.pointer (some ⟨b,off,none⟩)) (w':=w) (by simp only[execOp,B,Instr.arrayAt,zla,run_underlying hu,zfa,c,if_false,zra]) (Qp.same h ?_ _)⟩
 grind [AR,AC,Value.cells]
theorem qk(h:Rp w0 S γ β s a w):∀ (b:List Ty) (l:List Operand) (xs:List D),aO b=true->AV.toDl s.ob b (l.map s.opA)=some xs ->
  eu b xs/\(l.map a.eval).length=xs.length/\∀ (i:Nat) (x:D) (v:Value),xs[i]?=some x->(l.map a.eval)[i]?=some v->fa w S x v
 | b,[],xs,_,hx=>by all_goals grind [AV.toDl,Option.some.injEq,eu]
 | b,y::l,xs,hn,hx=>by
  cases b<;>simp only[znb,AV.toDl] at hx<;>first|(cases hx;done)|skip
  rename_i t b;obtain⟨x,h1,g⟩:=ab hx;obtain⟨f,j,e⟩:=ab g;simp only[zda] at e;subst e;simp only[aO,zaa] at hn;obtain⟨k,m⟩:=nc hn.1 (aS h y) h1;obtain⟨n,o,p⟩:=qk h b l f hn.2 j;refine⟨by simp only[eu];exact⟨x,f,rfl,k,n⟩,by simpa using o,λi z v d c=>?_⟩
  cases i with
  | zero=>simp at d c;subst d;subst c;exact m
  | succ i=>simp only[zhb,znb] at d c;exact p i z v d c
theorem vY:∀ {l:List Nat} {i j x:Nat},cZ l=true->l[i]?=some x->l[j]?=some x->i=j
 | [],_,_,_,_,h,_=>by simp at h
 | a::l,i,j,x,h,b,c=>by
  simp only[cZ,zaa,zCa] at h;have hn:∀ k,l[k]?≠some a:=λk hk=>by
   have:l.contains a=true:=by rw[List.contains_iff_mem];exact zbb hk
   simp_all
  cases i with
  | zero=> all_goals grind
  | succ i=>
   cases j with
   | zero=>simp at b c;subst c;exact z3a b (hn i)
   | succ j=>simp at b c;rw[vY h.2 b c]
theorem uD:∀ {b us:List Ty} {xs a:List D},eu b xs->eu us a->eu (b++us) (xs++a)
 | [],us,xs,a,h,k=>by simp_all [eu]
 | t::b,us,xs,a,h,k=>by simp only[eu] at h;obtain⟨d,l,rfl,h1,c⟩:=h;simp only[zub,eu];exact⟨d,l++a,rfl,h1,uD c k⟩
theorem yI(h:Rp w0 S γ β s a w):∀ (j:List Ty) (l:List AV) (f:List D) (caps:List Value),ox s.ob j l=some f->mN ⟨w,S,γ,β,s.ob,s.dead⟩ l caps ->
  ∃ e:List Nat,caps=e.map En/\eu j f/\e.length=f.length/\l.length=e.length/\(∀ (i b:Nat),e[i]?=some b->∃ id:Nat,(sK l)[i]?=some id/\γ id=some b)/\∀ (i:Nat) (x:D) (b:Nat),f[i]?=some x->e[i]?=some b->MF w S x b
 | [],l,f,caps,c,hc=>by
  cases l with
  | nil=> simp only[ox,zda] at c;subst c;simp only[mN] at hc;subst hc;exact⟨[],rfl,by simp only[eu],rfl,rfl,λi b h=>by simp at h,λi x b h=>by simp at h⟩
  | cons x l=>simp[ox] at c
 | t::j,l,f,caps,c,hc=>by
  cases l with
  | nil=>simp[ox] at c
  | cons x l=>
   cases x<;>first|(simp[ox] at c;done)|skip
   rename_i u id p;cases p<;>first|(simp[ox] at c;done)|skip
   simp only[ox] at c;split at c<;>first|(cases c;done)|skip
   rename_i P v q;split at c<;>first|(cases c;done)|skip
   rename_i E;have:=aeK _ _ E;subst this;obtain⟨z,h1,c⟩:=ab c;obtain⟨g,C,c⟩:=ab c;cases c;simp only[mN] at hc;obtain⟨v',c2,rfl,r,H⟩:=hc;obtain⟨e,rfl,q1,L,M,N,O⟩:=yI h j l g c2 C H;simp only[AC] at r;obtain⟨b,off,n,o,y⟩:=r;obtain⟨_,A⟩:=y _ q;have B:off=0:=A;subst B;have hO:=h.obs id _ b q o;simp only[fN] at hO;obtain⟨_,_,I,cs,J,K,_⟩:=hO;obtain⟨t1,t2,_⟩:=qj _ _ _ _ h1 K;refine⟨b::e,by simp only[zGd,and_true] at n;rw[n];rfl,by simp only[eu];exact⟨z,g,rfl,t1,q1⟩,by simp[L],by simp[M],λi k d=>?_,λi x k hx d=>?_⟩
   ·cases i with
    | zero=>simp at d;subst d;exact⟨id,rfl,o⟩
    | succ i=>simp only[zhb] at d;obtain⟨m,F,G⟩:=N i k d;exact⟨m,by simpa [sK] using F,G⟩
   ·cases i with
    | zero=>simp at hx d;subst hx;subst d;exact⟨I,cs,J,t2⟩
    | succ i=>simp only[zhb] at hx d;exact O i x k hx d
def u4 (h : Rp w0 S γ β s a w) {o : Oper} {f : FuncId} {rty : Ty} {y : D} (n2 : ao rty = true \/ ∃ ts, rty = .tup ts /\ aO ts = true) {fn : Func} (f1 : P.funcs[f]? = some fn) (f2 : (fn.name == "runtime.NumGoroutine") = false) (f3 : fn.body.isSome = true)
  (vs:List Value) (hx:(execOp a.eval o).run P w=.ok (.enter f vs.toArray) w)
  (hc:Calls P f vs.toArray w λe w'=>∃ v,e=.returned v/\(∃ os d,w.drawn<=d/\w'=grown w os d)/\wt rty y/\DR w' (λb o=>S b o\/(w.heap.size<=b/\b<w'.heap.size)) y v) :
  dT P o a w (Qp w0 S γ β s a w o.dst (.d rty y)):=by
 refine .enter (f:=f) (args:=vs.toArray) (w':=w) hx (hc.mono λe w' ⟨v,he,⟨os,d,hdr0,hw'⟩,hwt,hdr⟩=>⟨v,he,?_⟩);subst hw';obtain⟨h1,le1⟩:=h.grow (os:=os) (d:=d) hdr0 (S':=λb o=>S b o\/(w.heap.size<=b/\b<(grown w os d).heap.size)) (λ_ _ hb=>.inl hb) (λ_ _ hb=>hb);refine⟨_,γ,β,h1,?_,λ_ _ hb=>.inl hb,⟨os,d,rfl⟩,λ_ _ hb=>hb,λ_ _=>⟨rfl,rfl⟩⟩;simp only[AR];rcases n2 with n2|⟨ts,rfl,n2⟩
 ·refine .inl ⟨n2,hwt,?_⟩;cases rty<;>simp only[wt] at hwt<;>first
   | (obtain⟨m,rfl⟩:=hwt;exact hdr)
   | (obtain⟨m,rfl,_⟩:=hwt;exact hdr)
   | (exact hwt.elim)
   | (simp[ao] at n2)
 ·simp_all
def FO(h:Rp w0 S γ β s a w){o:Oper}{f:FuncId}{t:Ty}{l:List D}{d:Nat}(Q:o.dst=some d)(F:d<4096)(J:β (s.base+d)=none){fn:Func}(f1:P.funcs[f]?=some fn){c:List Ty}{xs:List D}
  (vs:List Value) (hx:(execOp a.eval o).run P w=.ok (.enter f vs.toArray) w) (hc:E3 P c t f xs l) (K:eu c xs) (L:vs.length=xs.length) (M:∀ (i:Nat) (x:D) (v:Value),xs[i]?=some x->vs[i]?=some v->fa w S x v) :
  dT P o a w (Qp w0 S γ β s a w o.dst (.own t (s.base+d) l)):=by
 refine .enter (f:=f) (args:=vs.toArray) (w':=w) hx ((hc w S vs h.Sb K L M).mono λe w' ⟨A,cap,he,⟨os,dr,j,y⟩,m,p,S',s1,s2,g,C⟩=>⟨_,he,?_⟩);subst y;obtain⟨h1,N⟩:=h.grow (os:=os) (d:=dr) j (S':=S') s1 s2;rcases C with⟨rfl,rfl⟩|⟨b,off,rfl,⟨E,r⟩,hn,k⟩
 ·refine⟨S',γ,β,h1,?_,s1,⟨os,dr,rfl⟩,λ_ _ q=>q,λ_ _=>⟨rfl,rfl⟩⟩;simp only[AR,AC,Value.cells];exact⟨s6,m,p,none,0,rfl,g,λ_=>.inl ⟨rfl,rfl⟩⟩
 ·have z:¬ w0.Old b:=λI=>by have:=I.1;have:=h.ext.sz;omega
  obtain⟨B,O⟩:=h1.newTok (v:=s.base+d) (b:=b) (e:=off+l.length*t.size) J z r (λid hid=>by have:=(h.γn id _ hid).2;omega) (λu f hu G=>by have:=(h.βn u _ _ hu G).2.1;omega) j1 k
  refine⟨S',γ,m8 β (s.base+d) (b,off+l.length*t.size),B,?_,s1,⟨os,dr,rfl⟩,λ_ _ q=>q,λid hid=>⟨rfl,bW β _ λH=>?_⟩⟩
  ·simp only[AR,AC,Value.cells];exact⟨s6,m,p,_,cap,rfl,g,λ_=>.inr ⟨b,off,rfl,by simp[bA],hn⟩⟩
  ·subst H;rcases hid with hid|hid
   ·simp_all
   ·omega
def zP(h:Rp w0 S γ β s a w){t:Ty}{l:List D}{d:Nat}(E:β (s.base+d)=none)(y:d<4096){S':Nat->Nat->Prop}{os:List Obj}{dr:Nat}(g:w.drawn<=dr)(s1:∀ b o,S b o->S' b o)(s2:∀ b o,S' b o->S b o\/(w.heap.size<=b/\b<(grown w os dr).heap.size))
  {v0:Value} (C:Dx w (grown w os dr) S' t l v0):∃ β',Rp w0 S' γ β' s a (grown w os dr)/\(∀ cs,v0≠.agg cs)/\v0.cells.toList=[v0]/\AC ⟨grown w os dr,S',γ,β',s.ob,s.dead⟩ (.own t (s.base+d) l) [v0]/\∀ u,u≠s.base+d->β' u=β u:=by
 obtain⟨A,cap,rfl,j,k,c,r⟩:=C;obtain⟨h1,F⟩:=h.grow (os:=os) (d:=dr) g (S':=S') s1 s2;rcases r with⟨rfl,rfl⟩|⟨b,off,rfl,⟨x,m⟩,hn,i⟩
 ·refine⟨β,h1,s6,rfl,?_,λ_ _=>rfl⟩
  simp only[AC];exact⟨j,k,none,0,rfl,c,λ_=>.inl ⟨rfl,rfl⟩⟩
 ·have p:¬ w0.Old b:=λB=>by have:=B.1;have:=h.ext.sz;omega
  obtain⟨q,G⟩:=h1.newTok (v:=s.base+d) (b:=b) (e:=off+l.length*t.size) E p m (λid hid=>by have:=(h.γn id _ hid).2;omega) (λu f hu z=>by have:=(h.βn u _ _ hu z).2.1;omega) j1 i
  refine⟨m8 β (s.base+d) (b,off+l.length*t.size),q,s6,rfl,?_,λu hu=>bW β _ hu⟩
  simp only[AC];exact⟨j,k,_,cap,rfl,c,λ_=>.inr ⟨b,off,rfl,by simp[bA],hn⟩⟩
theorem jQ{R:Type}{y:D}:∀ (a:List Ty) (i:Nat) (k:List AV->Option R),kJ y i a k=(kJ y i a some).bind k
 | [],i,k=>rfl
 | t::a,i,k=>by
  simp only[kJ];cases y.fld i with
  | none=>rfl
  | some z=> simp only[zba];rw[jQ a (i+1) (λl=>k (.d t z::l)),jQ a (i+1) (λl=>some (.d t z::l)),Option.bind_assoc];rfl
theorem zY{c:Cx}{y:D}:∀ (b:List Ty) (d:List D) (i:Nat) (r:List AV) (cs:List Value),aO b=true->eu b d->(∀ j,(y.fld (i+j))=d[j]?)->kJ y i b some=some r->cL c.w c.S (ad2 d) cs->AV.fitss b r=true/\il c r cs
 | [],d,i,r,cs,_,hw,_,a,hc=>by simp only[eu] at hw;subst hw;simp only[kJ,zda] at a;subst a;refine⟨rfl,?_⟩;simp only[il];exact zbd (by rw[<-hc.1];rfl)
 | t::b,d,i,r,cs,hn,hw,g,a,hc=>by
  simp only[eu] at hw;obtain⟨x,l,rfl,e,f⟩:=hw;simp only[aO,zaa] at hn;simp only[kJ] at a;obtain⟨z,h1,a⟩:=ab a;rw[jQ] at a;obtain⟨l',h,a⟩:=ab a;cases a;have h0:=g 0;rw[zWb,h1] at h0;simp at h0;subst h0;simp only[ad2] at hc;obtain⟨c1,c2⟩:=hc.split;obtain⟨q1,k⟩:=zY (c:=c) b l (i+1) l' _ hn.2 f (λj=>by have:=g (j+1);rw[show i+1+j=i+(j+1) by omega,this];rfl) h c2
  refine⟨by simp only[AV.fitss,zaa];exact⟨bH t z,q1⟩,?_⟩
  simp only[il];exact⟨_,_,(zua _ _).symm,by simp only[AC];exact⟨e,hn.1,c1⟩,k⟩
def u5(h:Rp w0 S γ β s a w){o:Oper}{f:FuncId}{m:Ty}{y:D}{d:Nat}(hd:o.dst=some d)(n:d<4096)(Q:β (s.base+d)=none){k:List Ty}{xs:List D}{x:AV}
  (hx:(∃ t b,m=.tup (.sl t::b)/\x=.tpo t (s.base+d) b y)\/∃ t b z l r,m=.st (.sl t::b)/\y.fld 0=some z/\z.asSl=some l/\kJ y 1 b some=some r/\x=.st (.sl t::b) (.own t (s.base+d) l::r))
  (vs:List Value) (p:(execOp a.eval o).run P w=.ok (.enter f vs.toArray) w) (hc:E4 P k m f xs y) (W:eu k xs) (X:vs.length=xs.length) (Y:∀ (i:Nat) (x:D) (v:Value),xs[i]?=some x->vs[i]?=some v->fa w S x v) :
  dT P o a w (Qp w0 S γ β s a w o.dst x):=by
 refine .enter (f:=f) (args:=vs.toArray) (w':=w) p ((hc w S vs h.Sb W X Y).mono λe w' ⟨v,he,⟨os,dr,g,K⟩,S',s1,s2,B⟩=>⟨_,he,?_⟩);subst K;rcases hx with⟨t,b,rfl,rfl⟩|⟨t,b,z,l,r,rfl,O,hl,V,rfl⟩
 ·simp only[sf] at B;obtain⟨l,C,v0,N,E,q,u,A,F,G,U⟩:=B;obtain⟨β',q1,R,T,L,M⟩:=zP h Q n g s1 s2 u;refine⟨S',γ,β',q1,?_,s1,⟨os,dr,rfl⟩,λ_ _ H=>H,λid hid=>⟨rfl,M id λI=>?_⟩⟩
  ·simp only[AR];exact⟨l,C,v0,N,E,q,R,by rw[T];exact L,A,F,G,U⟩
  ·subst I;rcases hid with hid|hid
   ·simp_all
   ·omega
 ·simp only[sf] at B;obtain⟨l2,C,v0,cs,E,q,u,A,F,G⟩:=B;subst E;simp only[D.fld,zMb,zda] at O;subst O;cases hl;obtain⟨β',q1,R,T,L,M⟩:=zP h Q n g s1 s2 u;obtain⟨m1,m2⟩:=zY (c:=⟨grown w os dr,S',γ,β',s.ob,s.dead⟩) (y:=.st (.sl l::C)) b C 1 r cs A F (λj=>by rw[zxc];rfl) V G
  refine⟨S',γ,β',q1,?_,s1,⟨os,dr,rfl⟩,λ_ _ H=>H,λid hid=>⟨rfl,M id λI=>?_⟩⟩
  ·have J:ao t=true:=by
    obtain⟨_,_,_,Z,_⟩:=u;exact Z
   simp only[AR,AC];refine⟨⟨_,q⟩,by simp only[aO,ao,zaa];exact⟨J,A⟩,?_,?_⟩
   ·simp only[AV.fitss,AV.fits,zaa];exact⟨aeJ t,m1⟩
   ·rw[q];simp only[Value.cells,il];exact⟨[v0],cs,rfl,L,m2⟩
  ·subst I;rcases hid with hid|hid
   ·simp_all
   ·omega
def Li(hE:EnvOk P E)(h:Rp w0 S γ β s a w){dst c ty pos after guard}(hf:Fr E s γ β ⟨dst,.call c,ty,pos,after,guard⟩):iB P E w0 S γ β s a w ⟨dst,.call c,ty,pos,after,guard⟩:=by
 intro R K r hq;obtain⟨callee,args,argTypes⟩:=c;simp only[qv] at hq;split at hq<;>first|(cases hq;done)|skip
 case h_1=>
  replace hq:=ab hq;obtain⟨T,hT,hq⟩:=hq;replace hq:=ab hq;obtain⟨t,ht,hq⟩:=hq;replace hq:=ab hq;obtain⟨x,hx,hq⟩:=hq;have hx':(args.map a.eval)[0]?=some (a.eval x):=by simp[hx]
  have hex:execOp a.eval ⟨dst,.call ⟨.builtin .len,args,argTypes⟩,ty,pos,after,guard⟩=(Builtin.len_ argTypes ty (args.map a.eval) >>= λv=>pure (.value v)):=rfl;cases t<;>(try simp only at hq)<;>first|(cases hq;done)|skip
  case sl e=>
   rcases hE.lay T _ ht with⟨ts',hts⟩|hl
   ·cases hts
   have hn:=aH _ _ hl;simp only[ao] at hn;obtain⟨u,k1,_⟩:=gZ hl;have run:∀ {A:Option Addr} {n cap:Nat},a.eval x=.slice A n cap->(execOp a.eval ⟨dst,.call ⟨.builtin .len,args,argTypes⟩,ty,pos,after,guard⟩).run P w=.ok (.value (.int .i64 n)) w:=by simp_all [Builtin.len_,run_underlying,k1,goInt]
   by_cases hm:∃ t' id,s.opA x=.mem t' id
   ·obtain⟨t',id,hm⟩:=hm;have hx2:=aS h x;rw[hm] at hq hx2;simp only at hq;split at hq<;>first|(cases hq;done)|skip
    split at hq<;>first|(cases hq;done)|skip
    rename_i u' l hob;obtain⟨_,b,hγ,hob2⟩:=EZ hx2;obtain⟨l',cap,e1,_,hv⟩:=hob2 _ hob;cases e1;exact⟨_,hq,.value (run hv) (Qp.same h (cz _ _) _)⟩
   ·by_cases hs:∃ sl t' id p lo n,s.opA x=.sub sl t' id p lo n
    ·obtain⟨sl,t',id,p,lo,n,hm⟩:=hs;have hx2:=aS h x;rw[hm] at hq hx2;simp only at hq;split at hq<;>first|(cases hq;done)|skip
     rename_i hb;simp only[zaa] at hb;obtain⟨rfl,hb⟩:=hb;obtain⟨b,off,cap,hv,_⟩:=E0 hx2;exact⟨_,hq,.value (run hv) (Qp.same h (cz _ _) _)⟩
    have hq':((s.opA x).asList s.ob e).bind (λl=>K (.d (.int .i64) (.int .i64 l.length)))=some r:=by
     split at hq
     ·exact z3a ⟨_,_,by assumption⟩ hm
     ·exact z3a ⟨_,_,_,_,_,_,by assumption⟩ hs
     ·exact hq
    obtain⟨l,h1,hq⟩:=ab hq';obtain⟨A,cap,hv⟩:=AG hn (aS h x) h1;exact⟨_,hq,.value (run hv) (Qp.same h (cz _ _) _)⟩
  case arr n e=>
   rcases hE.lay T _ ht with⟨ts',hts⟩|hl
   ·cases hts
   obtain⟨u,k1,_⟩:=ef hl;exact⟨_,hq,.value (v:=.int .i64 n) (w':=w) (by rw[hex];simp[Builtin.len_,hT,hx',run_underlying k1,goInt]) (Qp.same h (cz _ _) _)⟩
  case str=>
   rcases hE.lay T _ ht with⟨ts',hts⟩|hl
   ·cases hts
   replace hq:=ab hq;obtain⟨p,hp,hq⟩:=hq;split at hq<;>first|(cases hq;done)|skip
   rename_i hb;replace hq:=ab hq;obtain⟨z,hz,hq⟩:=hq;have hx2:=aS h x;rw[dG hp] at hx2;obtain⟨t',x'⟩:=p;have e:=aeK _ _ hb;simp only at e;subst e;obtain⟨k1,k2⟩:=yo hx2 rfl;simp only[wt] at k1;obtain⟨sb,rfl⟩:=k1;simp only[D.slen,zda] at hz;subst hz;have hsv:a.eval x=.string sb:=by obtain⟨c1,c2⟩:=k2;obtain⟨c,e,h⟩:=cL.single' c2;have:=ar c1 e;rw[this];cases h;rfl
   have hu:P.underlying T=some .string:=by simp only[bL,zaa] at hl;all_goals grind
   exact⟨_,hq,.value (v:=.int .i64 sb.size) (w':=w) (by rw[hex];simp[Builtin.len_,hT,hx',run_underlying hu,hsv,goInt]) (Qp.same h (cz _ _) _)⟩
 case h_2=>
  split at hq<;>first|(cases hq;done)|skip
  rename_i x y he;have he':(args.map a.eval).toList=[a.eval x,a.eval y]:=by simp[he]
  replace hq:=ab hq;obtain⟨p,hp,hq⟩:=hq;replace hq:=ab hq;obtain⟨q,hqq,hq⟩:=hq;split at hq<;>first|(cases hq;done)|skip
  replace hq:=ab hq;obtain⟨z,hz,hq⟩:=hq;have h1:=aS h x;have h2:=aS h y;rw[dG hp] at h1;rw[dG hqq] at h2;cases hp2:p.2<;>rw[hp2] at hz h1<;>cases hq2:q.2<;>rw[hq2] at hz h2<;>simp only[D.min2] at hz<;>first|(cases hz;done)|skip
  rename_i k n k' m;simp only[zda] at hz;subst hz;obtain⟨v1,t1⟩:=dS h1;obtain⟨v2,_⟩:=dS h2;have hex:execOp a.eval ⟨dst,.call ⟨.builtin .min,args,argTypes⟩,ty,pos,after,guard⟩=(Builtin.min_ argTypes ty (args.map a.eval) >>= λv=>pure (.value v)):=rfl;refine⟨_,hq,.value (v:=.int k (if m<n then m else n)) (w':=w) ?_ (Qp.same h (by rw[t1];exact cz _ _) _)⟩
  simp_all [Builtin.min_,v1,v2,Builtin.min2]
 case h_3=>
  split at hq<;>first|(cases hq;done)|skip
  rename_i x y he;have he':(args.map a.eval).toList=[a.eval x,a.eval y]:=by simp[he]
  replace hq:=ab hq;obtain⟨p,hp,hq⟩:=hq;replace hq:=ab hq;obtain⟨q,hqq,hq⟩:=hq;split at hq<;>first|(cases hq;done)|skip
  replace hq:=ab hq;obtain⟨z,hz,hq⟩:=hq;have h1:=aS h x;have h2:=aS h y;rw[dG hp] at h1;rw[dG hqq] at h2;cases hp2:p.2<;>rw[hp2] at hz h1<;>cases hq2:q.2<;>rw[hq2] at hz h2<;>simp only[D.max2] at hz<;>first|(cases hz;done)|skip
  rename_i k n k' m;simp only[zda] at hz;subst hz;obtain⟨v1,t1⟩:=dS h1;obtain⟨v2,_⟩:=dS h2;have hex:execOp a.eval ⟨dst,.call ⟨.builtin .max,args,argTypes⟩,ty,pos,after,guard⟩=(Builtin.max_ argTypes ty (args.map a.eval) >>= λv=>pure (.value v)):=rfl;refine⟨_,hq,.value (v:=.int k (if m>n then m else n)) (w':=w) ?_ (Qp.same h (by rw[t1];exact cz _ _) _)⟩
  simp_all [Builtin.max_,v1,v2,Builtin.max2]
 case h_4 f=>
  replace hq:=ab hq;obtain⟨g,hg,hq⟩:=hq;cases hfr:Nat.beq (E.free f) 0 with
  | false=>rw[hfr] at hq;cases hq
  | true=>
  rw[hfr] at hq;replace hq:=ab hq;obtain⟨xs,hxs,hq⟩:=hq;replace hq:=ab hq;obtain⟨y,hy,hq⟩:=hq;obtain⟨ptys,rty⟩:=g;obtain⟨n1,n2,fn,f1,f2,f3⟩:=hE.sig f ptys rty hg;obtain⟨k1,k2,k3⟩:=qk h ptys args.toList xs n1 hxs;obtain⟨hc,hc2⟩:=hE.call f ptys rty xs y hg hy k1;rw[zVb hfr] at hc;have hrun:(execOp a.eval ⟨dst,.call ⟨.value (.func f),args,argTypes⟩,ty,pos,after,guard⟩).run P w=.ok (.enter f (args.toList.map a.eval).toArray) w:=by
   have hm:args.map a.eval=(args.toList.map a.eval).toArray:=zdc s6
   have f2' : ¬ fn.name = "runtime.NumGoroutine" := by simpa using f2
   have hb':¬ fn.body=none:=k7
   simp[execOp,resolve,Act.eval,Deferred.ofValue,invoke,callFunc,f1,f2',hb',hm]
  cases how:E.ownF f with
  | true=>
   rw[how] at hq;simp only[cond_true] at hq;replace hq:=ab hq;obtain⟨d,hd,hq⟩:=hq;obtain⟨hd4,_,hβ,_⟩:=hf rfl d hd;rcases hc2 how with⟨t,l,rfl,rfl,hc3⟩|hc3
   ·replace hq:=ab hq;obtain⟨l',hl',hq⟩:=hq;cases hl';exact⟨_,hq,FO h hd hd4 hβ f1 (args.toList.map a.eval) hrun hc3 k1 k2 k3⟩
   ·split at hq<;>first|(cases hq;done)|skip
    ·replace hq:=ab hq;obtain⟨l',hl',hq⟩:=hq;exact⟨_,hq,.enter (f:=f) (args:=(args.toList.map a.eval).toArray) (w':=w) hrun ((hc3 w S (args.toList.map a.eval) h.Sb k1 k2 k3).mono λe w' ⟨v,_,_,_,_,_,hh⟩=>by simp only[sf] at hh)⟩
    ·exact⟨_,hq,u5 h hd hd4 hβ (.inl ⟨_,_,rfl,rfl⟩) (args.toList.map a.eval) hrun hc3 k1 k2 k3⟩
    ·replace hq:=ab hq;obtain⟨z,hz,hq⟩:=hq;replace hq:=ab hq;obtain⟨l',hl',hq⟩:=hq;rw[jQ] at hq;replace hq:=ab hq;obtain⟨r',hr',hq⟩:=hq;exact⟨_,hq,u5 h hd hd4 hβ (.inr ⟨_,_,z,l',r',rfl,hz,hl',hr',rfl⟩) (args.toList.map a.eval) hrun hc3 k1 k2 k3⟩
  | false=> rw[how] at hq;exact⟨_,hq,u4 h n2 f1 f2 f3 (args.toList.map a.eval) hrun (hc w S (args.toList.map a.eval) h.Sb k1 k2 k3)⟩
 case h_5 t=>
  split at hq<;>first|(cases hq;done)|skip
  rename_i f l ht;replace hq:=ab hq;obtain⟨g,hg,hq⟩:=hq;cases hfr:(Nat.beq (E.free f) l.length&&cZ (sK l)) with
  | false=>rw[hfr] at hq;cases hq
  | true=>
  rw[hfr] at hq;simp only[zaa] at hfr;obtain⟨hfr,hnd⟩:=hfr;have hfr:=zVb hfr;replace hq:=ab hq;obtain⟨xs,hxs,hq⟩:=hq;replace hq:=ab hq;obtain⟨zs,hzs,hq⟩:=hq;replace hq:=ab hq;obtain⟨y,hy,hq⟩:=hq;obtain⟨ptys,rty⟩:=g;obtain⟨n1,n2,fn,f1,f2,f3⟩:=hE.sig f ptys rty hg;obtain⟨k1,k2,k3⟩:=qk h _ args.toList xs (gQ _ n1) hxs;have hA:=aS h (.tmp t);have hA':AR ⟨w,S,γ,β,s.ob,s.dead⟩ (.clo f l) (a.eval (.tmp t)):=by rw[<-ht];exact hA
  simp only[AR,AC] at hA';obtain⟨na,caps,hcs,hcap⟩:=hA';have hv:=ar na hcs;obtain⟨bs,rfl,q1,q2,q3,q4,q5⟩:=yI h _ l zs caps hzs hcap;have hwt:eu ptys (xs++zs):=by
   have:=uD k1 q1
   rwa [zua] at this
  have hc:=(hE.call f ptys rty (xs++zs) y hg hy hwt).1;have hx:(execOp a.eval ⟨dst,.call ⟨.value (.tmp t),args,argTypes⟩,ty,pos,after,guard⟩).run P w=.ok (.enter f (args.toList.map a.eval++bs.map En).toArray) w:=by
   have hm:args.map a.eval=(args.toList.map a.eval).toArray:=zdc s6
   have f2' : ¬ fn.name = "runtime.NumGoroutine" := by simpa using f2
   have hb':¬ fn.body=none:=k7
   simp only[execOp,resolve,hv];simp[Deferred.ofValue,invoke,callFunc,f1,f2',hb',hm]
  refine⟨_,hq,u4 h n2 f1 f2 f3 (args.toList.map a.eval++bs.map En) hx ?_⟩;rw[hfr] at hc;cases l with
  | nil=>
   have hb0:bs=[]:=zec.1 (by simpa using q3.symm)
   have hz0:zs=[]:=zec.1 (by rw[<-q2,hb0];rfl)
   subst hb0;subst hz0;simp only[zZc,List.map_nil] at hc ⊢;exact hc w S (args.toList.map a.eval) h.Sb (by simpa using hwt) k2 k3
  | cons x l=>
   refine hc w S (args.toList.map a.eval) bs h.Sb hwt q3.symm (by rw[k2,zFa,<-q2,<-q3];rfl) (λi j b hi hj=>?_) (λi x v hx hv=>?_) λi x b hx hb=>?_
   ·obtain⟨id,e1,e2⟩:=q4 i b hi;obtain⟨id',e3,e4⟩:=q4 j b hj;have:=h.γi id id' b e2 e4;subst this;exact vY hnd e1 e3
   ·grind
   ·grind
def QN(b:EnvOk P E)(h:Rp w0 S γ β s a w){o:Oper}(d:Fr E s γ β o)(hT:∀ T t,o.op=.alloc T->E.L T=some t->ao t=true):iB P E w0 S γ β s a w o:=by
 obtain⟨dst,op,ty,pos,after,guard⟩:=o;cases op
 case move x=>exact Lk h
 case assign x=>exact Ep h
 case pick c x y=>exact Ll h
 case alloc T=>exact G8 b h d (λt=>hT T t rfl)
 case load T x=>exact Lj b h
 case lookup T x i c=>exact Er b h
 case fieldAddr T x f=>exact xF b h
 case indexAddr T x i=>exact xG b h
 case field T x f=>exact Hc b h
 case index T x f=>exact Hd b h
 case binOp op T x y T'=>exact G9 b h
 case unOp op T x=>exact Lm h
 case convert U T x=>exact Bw b h
 case build T ps=>exact Ha b h
 case buildSlice T n ps=>exact uS b h d
 case makeSlice T x y=>exact xH b h d
 case extract x i=>exact Bx h
 case nilCheck x=>exact zV h
 case slice T x lo hi mx=>exact He b h
 case sliceToArrayPointer T x=>exact Lh b h
 case makeFunc fn x y=>exact zU h
 case call c=>exact Li b h d
 all_goals (intro R K r hq;simp only[qv] at hq;cases hq)
end
def nu{w0:Root}{w w':World}(h:kU w0 w)(g:w'.tape=w.tape)(e:w'.os=w.os)(hu:w'.output=w.output)(f:w.heap.size<=w'.heap.size)(c:w.drawn<=w'.drawn)(d:∀ b,w0.Old b->w'.heap[b]?=w.heap[b]?):kU w0 w':=
 ⟨g.trans h.tape,e.trans h.os,hu.trans h.output,zNa h.sz f,zNa h.dr c,λb a=>(d b a).trans (h.old b a)⟩
def cE{w:World}{b a off:Nat}{cs:Array Value}(h:a≠b):(putAt w b off cs).heap[a]?=w.heap[a]?:=by simp only[putAt,z9c];grind
def gv{w:World}{b off:Nat}{c cs:Array Value}(h:bO w b=some c):bO (putAt w b off cs) b=some (dW c off cs):=by
 unfold bO at h ⊢;split at h<;>first|(cases h;done)|skip
 rename_i a;simp only[zda] at h;subst h;simp only[putAt,z9c,if_true,a,zSb]
def xJ{w:World}{b a off:Nat}{cs:Array Value}(h:a≠b):bO (putAt w b off cs) a=bO w a:=by simp only[bO,cE h]
def cd{w:World}{b a off o:Nat}{cs:Array Value}(h:a≠b):(putAt w b off cs).cell? ⟨a,o,none⟩=w.cell? ⟨a,o,none⟩:=by simp only[World.cell?,cE h]
def jR{w:World}{b a off:Nat}{c cs:Array Value}(h:bO w b=some c)(d:off+cs.size<=c.size):kW (putAt w b off cs) a=kW w a:=by
 by_cases e:a=b
 ·simp_all [kW,gv,zSb,splice_size]
 ·simp only[kW,xJ e]
def aee{w w':World}(b0:Nat)(h:∀ b,b≠b0->b<w.heap.size->w'.heap[b]?=w.heap[b]?)(h0:∀ o,w.heap[b0]?=some o->o≠Obj.deferred (some [])/\∀ r,o≠Obj.loop r):da w w':=by intro b;all_goals grind
def da.old{w w':World}(h:∀ b,b<w.heap.size->w'.heap[b]?=w.heap[b]?):da w w':=
 λb=>⟨λa=>(h b (zpa.1 a).1).trans a,λ⟨r,a⟩=>⟨r,(h b (zpa.1 a).1).trans a⟩⟩
def Ez{w:World}{b:Nat}{c:Array Value}(h:bO w b=some c):∀ o,w.heap[b]?=some o->o≠Obj.deferred (some [])/\∀ r,o≠Obj.loop r:=λo a=>by
 constructor
 ·rintro rfl;simp[bO,a] at h
 ·rintro r rfl;simp[bO,a] at h
def D4{w:World}{b n:Nat}{es:Array MapEntry}(h:w.heap[b]?=some (.map es n)):∀ o,w.heap[b]?=some o->o≠Obj.deferred (some [])/\∀ r,o≠Obj.loop r:=λo a=>by simp_all
theorem da.putAt{w:World}{b off:Nat}{c cs:Array Value}(h:bO w b=some c):da w (putAt w b off cs):=aee b (λd a _=>cE a) (Ez h)
theorem da.grown{w:World}{os:List Obj}{d:Nat}:da w (grown w os d):=da.old λb a=>cX w os d a
theorem Fm.refl(s:St)(S:Nat->Nat->Prop)(γ:Nat->Option Nat)(a:Act)(w:World):Fm s S γ a w S γ a w:=
 ⟨λ_ _ h=>h,λ_ _ _=>rfl,λ_ _=>rfl,λ_ _ _ h=>⟨h,jd.refl _ _⟩,zka _,λ_ _ h=>h,j6.same rfl (da.refl _)⟩
theorem Fm.trans{s s1:St}{S S1 S2:Nat->Nat->Prop}{γ γ1 γ2:Nat->Option Nat}{a a1 a2:Act}{w w1 f:World}(h:Fm s S γ a w S1 γ1 a1 w1)(k:Fm s1 S1 γ1 a1 w1 S2 γ2 a2 f)(g:s1.lkS=s.lkS)(d:s1.lkO=s.lkO):Fm s S γ a w S2 γ2 a2 f:=
 ⟨λb o c=>k.sub b o (h.sub b o c),λb o c=>(k.cell b o (h.sub b o c)).trans (h.cell b o c),λt e=>(k.slots t (g ▸ e)).trans (h.slots t e),
  λid hid b c=>by obtain⟨h1,i⟩:=h.objs id hid b c;obtain⟨j,l⟩:=k.objs id (d ▸ hid) b h1;exact⟨j,i.trans l⟩,zNa h.sz k.sz,λid b c=>k.gam id b (h.gam id b c),h.dfs.trans (d ▸ k.dfs) h.sz k.sz⟩
def bZ{a:Act}{dst:Option Nat}{v:Value}{t:Nat}(h:dst≠some t):(a.put dst v).tmps.getD t undef=a.tmps.getD t undef:=by
 cases dst with
 | none=>rfl
 | some d=>
  have b:d≠t:=λe=>h (by rw[e])
  simp only[Act.put];all_goals simp_all
def E6(P:Program)(w0:Root)(S:Nat->Nat->Prop)(γ:Nat->Option Nat)(β:Nat->Option (Nat×Nat))(s:St)(a:Act)(w:World)(o:Oper)(s':St):Prop:=
 s'.lkS=s.lkS/\s'.lkO=s.lkO/\s'.fresh=s.fresh/\s'.nt=s.nt/\(∀ id,γ id=none->o.dst≠some (id-s.base)\/id<s.base->s'.ob id=s.ob id) ∧
 dT P o a w λval w'=>∃ S' γ' β',Rp w0 S' γ' β' s' (a.put o.dst val) w'/\Fm s S γ a w S' γ' (a.put o.dst val) w'/\(∀ id,o.dst≠some (id-s.base)\/id<s.base->γ' id=γ id/\β' id=β id)
section
variable{P:Program}{E:Env}{w0:Root}{S:Nat->Nat->Prop}{γ:Nat->Option Nat}{β:Nat->Option (Nat×Nat)}{s:St}{a:Act}{w:World}
def aeE(s:St)(d:Option Nat)(v:AV):(s.put d v).ob=s.ob/\(s.put d v).fresh=s.fresh/\(s.put d v).dead=s.dead/\(s.put d v).nt=s.nt/\(s.put d v).lkS=s.lkS/\(s.put d v).lkO=s.lkO/\(s.put d v).base=s.base:=by
 cases d with
 | none=>exact⟨rfl,rfl,rfl,rfl,rfl,rfl,rfl⟩
 | some d=>simp only[St.put];split<;>exact⟨rfl,rfl,rfl,rfl,rfl,rfl,rfl⟩
def c9{os:List Obj}{d b:Nat}(h:b<w.heap.size):(grown w os d).heap[b]?=w.heap[b]?:=cX w os d h
def vo(i:EnvOk P E)(h:Rp w0 S γ β s a w){o:Oper}(j:Fr E s γ β o)(hT:∀ T t,o.op=.alloc T->E.L T=some t->ao t=true)(e:∀ t∈s.lkS,o.dst≠some t){R:Type}{K:St->Option R}{r:R}(hq:qv E s o (λv=>K (s.put o.dst v))=some r) :
  ∃ s',K s'=some r/\E6 P w0 S γ β s a w o s':=by
 obtain⟨v,h1,g⟩:=QN i h j hT R _ r hq;obtain⟨p1,x,B,y,z,A,C⟩:=aeE s o.dst v;refine⟨_,h1,z,A,x,y,λid _ _=>by rw[p1],g.mono λval w' ⟨S',γ',β',l,m,p,⟨os,d,q⟩,f,u⟩=>?_⟩
 subst q;exact⟨S',γ',β',l.put m o.dst,⟨p,λb o c=>dD (h.Sb b o c),λt k=>bZ (e t k),λid hid b c=>⟨f id b c,.inl (c9 (h.γn id b c).2)⟩,s6,f,j6.same bG da.grown⟩,u⟩
def Rp.write(h:Rp w0 S γ β s a w){id b off:Nat}{o o':Ob}{c cs:Array Value}(I:s.ob id=some o)(y:γ id=some b)(A:∀ o,¬ S b o)(D:bO w b=some c)(E:off+cs.size<=c.size)
  (G:∀ p,eC o' p=eC o p/\ci o' p=ci o p) (m:∀ t l,o=.many t l->∃ l',o'=.many t l'/\l'.length=l.length) (C:∀ H vt l,o≠.mp H vt l)
  (r:fN ⟨putAt w b off cs,S,γ,β,(s.setOb id (some o')).ob,s.dead⟩ b o') :
  Rp w0 S γ β (s.setOb id (some o')) a (putAt w b off cs)/\Cx.le ⟨w,S,γ,β,s.ob,s.dead⟩ ⟨putAt w b off cs,S,γ,β,(s.setOb id (some o')).ob,s.dead⟩:=by
 have k:∀ d o,S d o->d≠b:=λd o j e=>A o (e ▸ j);have hle:Cx.le ⟨w,S,γ,β,s.ob,s.dead⟩ ⟨putAt w b off cs,S,γ,β,(s.setOb id (some o')).ob,s.dead⟩:=by
  refine⟨λd o j=>cd (k d o j),λ_ _ j=>j,λ_ _ j=>j,λi x hx _=>?_,λv u=>⟨u,λd e he=>⟨he,λn hn=>by rw[jR D E];exact hn⟩⟩⟩
  simp only[St.setOb] at hx;by_cases e:i=id
  ·simp_all
  ·simp_all
 refine⟨⟨nu h.ext rfl rfl rfl s6 (zka _) (λd g=>cE (λe=>(h.γn id b y).1 (e ▸ g))),λt F=>(h.tms t F).mono hle,h.nt,h.tmu,λi x d hx g=>?_,λi d g=>by simpa using h.γn i d g,h.γi,h.γf,
  λv d e u he=>by simpa using h.βn v d e u he,h.βi,h.βγ,h.βf,λd o j=>by simpa using h.Sb d o j,h.So⟩,hle⟩
 simp only[St.setOb] at hx;by_cases e:i=id
 ·subst e;simp only[if_true,zda] at hx;subst hx;rw[y] at g;cases g;exact r
 ·rw[zga e] at hx;have q:d≠b:=λz=>e (h.γi i id d g (z ▸ y));exact(h.obs i x d hx g).mono hle (cE q) λ_ B=>B
def DS(hE:EnvOk P E)(h:Rp w0 S γ β s a w){dst T x y ty pos after guard}(a2:∀ t∈s.lkS,dst≠some t){R:Type}{K:St->Option R}{r:R}(hd:dst=none)
  (hq:rL E s ⟨dst,.store T x y,ty,pos,after,guard⟩ K=some r):∃ s',K s'=some r/\E6 P w0 S γ β s a w ⟨dst,.store T x y,ty,pos,after,guard⟩ s':=by
 subst hd;simp only[rL] at hq;have hx:=aS h x;have W:=aS h y;cases hfn:E.fnT T with
 | true=>
  rw[hfn] at hq;simp only[cond_true] at hq;split at hq<;>first|(cases hq;done)|skip
  rename_i id e;split at hq<;>first|(cases hq;done)|skip
  rename_i d;simp only[zaa,zCa] at d;split at hq<;>first|(cases hq;done)|skip
  rename_i v f;rw[e] at hx;have L:id ∉ s.lkO:=by simp_all
  obtain⟨b,off,U,J,M⟩:=jp hx;obtain⟨_,rfl⟩:=M _ f;obtain⟨D,z,m,_,_⟩:=h.obs id _ b f J;obtain⟨W,h1⟩:=Dd (c:=⟨w,S,γ,β,s.ob,s.dead⟩) d.1 W;have hr:=xN (hE.fnT T hfn) (w:=w) (b:=b) m h1;have q:0+#[a.eval y].size<=#[z].size:=s6
  have I:fN ⟨putAt w b 0 #[a.eval y],S,γ,β,(s.setOb id (some (.fv (iX s.ob (s.opA y))))).ob,s.dead⟩ b (.fv (iX s.ob (s.opA y))):=by
   have H:∀ g o,S g o->g≠b:=λg o d e=>D o (e ▸ d);have hle:Cx.le ⟨w,S,γ,β,s.ob,s.dead⟩ ⟨putAt w b 0 #[a.eval y],S,γ,β,(s.setOb id (some (.fv (iX s.ob (s.opA y))))).ob,s.dead⟩:=by
    refine⟨λg o d=>cd (H g o d),λ_ _ d=>d,λ_ _ d=>d,λi z F _=>?_,λv U=>⟨U,λg e he=>⟨he,λn hn=>by rw[jR m q];exact hn⟩⟩⟩
    simp only[St.setOb] at F;by_cases e:i=id
    ·subst e;simp only[if_true,zda] at F;subst F;exact⟨_,f,λp=>by cases p<;>exact⟨rfl,rfl⟩,(λt l e=>by cases e),λ_ _ l e=>by cases e⟩
    ·simp_all
   simp only[fN];refine⟨D,a.eval y,?_,W.mono hle.cell hle.S hle.γ,h1⟩;rw[gv m];rfl
  obtain⟨Z,n2⟩:=h.write (o':=.fv (iX s.ob (s.opA y))) f J D m q (λp=>by cases p<;>exact⟨rfl,rfl⟩) (λt l e=>by cases e) (λ_ _ _ e=>by cases e) I
  refine⟨_,hq,rfl,rfl,rfl,rfl,λi O _=>?_,.skip (w':=putAt w b 0 #[a.eval y]) ?_ ⟨S,γ,β,Z,?_,λ_ _=>⟨rfl,rfl⟩⟩⟩
  ·grind [St.setOb]
  ·simp_all [execOp,zla,ci,zfa,zra]
  ·exact⟨λ_ _ d=>d,λg o d=>cd (λe=>D o (e ▸ d)),λ_ _=>rfl,λi O g k=>⟨k,.inl (cE λe=>L ((h.γi id i b J (e ▸ k)) ▸ O))⟩,s6,λ_ _ d=>d,j6.same rfl (da.putAt m)⟩
 | false=>
 rw[hfn] at hq;simp only[cond_false] at hq;replace hq:=ab hq;obtain⟨t,ht,hq⟩:=hq;generalize s.opA x=ax at *;cases ax<;>(try simp only at hq)<;>first|(cases hq;done)|skip
 rename_i t' id p;split at hq<;>first|(cases hq;done)|skip
 rename_i d;simp only[zaa,zCa] at d;obtain⟨⟨al,G⟩,a1⟩:=d;have:=aeK _ _ al;subst this;have L:id ∉ s.lkO:=by simp_all
 obtain⟨b,off,U,J,M⟩:=jp hx;split at hq<;>first|(cases hq;done)|skip
 ·
  rename_i u v f;obtain⟨Q,rfl⟩:=M _ f;have hO:=h.obs id _ b f J;simp only[fN] at hO;obtain⟨N,o2,D,cs,m,o5,o6⟩:=hO;simp only[eC] at Q;have hn:=dH p N Q;have hl:=ii hE ht hn;obtain⟨y1,y2⟩:=yn G hn W;obtain⟨v',pre,mid,post,m1,rfl,m2,m3,m4,m5⟩:=Ly p o2 N Q o5 y1 G hq;obtain⟨y3,y4⟩:=gl _ _ _ G y1;have hr:=o9 hl (w:=w) (b:=b) (off:=aY u p) m y2 y3 y4 (by simp only[zKc,zFa];omega)
  have q:aY u p+(a.eval y).cells.toList.toArray.size<=(pre++(mid++post)).toArray.size:=k7
  have I:fN ⟨putAt w b (aY u p) (a.eval y).cells.toList.toArray,S,γ,β,(s.setOb id (some (.one u v'))).ob,s.dead⟩ b (.one u v'):=by
   have H:∀ g o,S g o->g≠b:=λg o d e=>D o (e ▸ d);have hle:Cx.le ⟨w,S,γ,β,s.ob,s.dead⟩ ⟨putAt w b (aY u p) (a.eval y).cells.toList.toArray,S,γ,β,(s.setOb id (some (.one u v'))).ob,s.dead⟩:=by
    refine⟨λg o d=>cd (H g o d),λ_ _ d=>d,λ_ _ d=>d,λi z F _=>?_,λv U=>⟨U,λg e he=>⟨he,λn hn=>by rw[jR m q];exact hn⟩⟩⟩
    simp only[St.setOb] at F;by_cases e:i=id
    ·subst e;simp only[if_true,zda] at F;subst F;exact⟨_,f,λp=>⟨rfl,rfl⟩,(λt l e=>by cases e),λ_ _ l e=>by cases e⟩
    ·simp_all
   simp only[fN];refine⟨N,m5,D,pre++((a.eval y).cells.toList++post),?_,AC.mono hle _ _ m4,(gl _ _ _ m5 m4).1⟩;rw[gv m,<-m2,gU pre mid post _ m3]
  obtain⟨Z,n2⟩:=h.write (o':=.one u v') f J D m q (λp=>⟨rfl,rfl⟩) (λt l e=>by cases e) (λ_ _ _ e=>by cases e) I
  refine⟨_,m1,rfl,rfl,rfl,rfl,λi O _=>?_,.skip (w':=putAt w b (aY u p) (a.eval y).cells.toList.toArray) ?_ ⟨S,γ,β,Z,?_,λ_ _=>⟨rfl,rfl⟩⟩⟩
  ·grind [St.setOb]
  ·simp_all [execOp,zla,ci,zfa,zra]
  ·exact⟨λ_ _ d=>d,λg o d=>cd (λe=>D o (e ▸ d)),λ_ _=>rfl,λi O g k=>⟨k,.inl (cE λe=>L ((h.γi id i b J (e ▸ k)) ▸ O))⟩,s6,λ_ _ d=>d,j6.same rfl (da.putAt m)⟩
 ·
  rename_i u l f;cases p with
  | nil=>simp only at hq;cases hq
  | cons i p=>
   simp only at hq;replace hq:=ab hq;obtain⟨z,F,hq⟩:=hq;replace hq:=ab hq;obtain⟨y',an,hq⟩:=hq;replace hq:=ab hq;obtain⟨z',aI,hq⟩:=hq;obtain⟨Q,rfl⟩:=M _ f;have hO:=h.obs id _ b f J;simp only[fN] at hO;obtain⟨N,o2,D,cs,rs,m,o5⟩:=hO;simp only[eC] at Q;have hn:=dH p N Q;have hl:=ii hE ht hn;obtain⟨y1,y2⟩:=yn G hn W;obtain⟨y3,y4⟩:=gl _ _ _ G y1;obtain⟨q1,q2,_⟩:=qj _ _ _ _ an y1;obtain⟨s1,A,C,B,s2,s3,s4,s5⟩:=pd p (o2 z (zbb F)) N Q aI q1;have O:=(zna.1 F).1;have e0:(ad2 (l.take i)).length=i*u.size:=by rw[aK N _ (λx hx=>o2 x (zZa hx)),zjb,zkb (zmc O)]
   rw[ck F,s2,show ad2 (l.take i)++(A++(C++B)++ad2 (l.drop (i+1)))=(ad2 (l.take i)++A)++(C++(B++ad2 (l.drop (i+1)))) by simp[zXa]] at o5
   obtain⟨c1,c2⟩:=o5.split;obtain⟨c3,c4⟩:=c2.split;generalize hpre:cs.take (ad2 (l.take i)++A).length=pre at *;generalize hrest:cs.drop (ad2 (l.take i)++A).length=rest at *;have ad:cs=pre++(rest.take C.length++rest.drop C.length):=by rw[<-hpre,zua,<-hrest,zua]
   have Y:pre.length=i*u.size+aY u p:=by rw[<-c1.1,zFa,e0,s4]
   have X:(rest.take C.length).length=(a.eval y).cells.toList.length:=by rw[<-c3.1,s5,y3]
   subst ad;rw[show pre++(rest.take C.length++rest.drop C.length)++rs=pre++(rest.take C.length++(rest.drop C.length++rs)) by simp only[zXa]] at m
   have hr:=o9 hl (w:=w) (b:=b) (off:=i*u.size+aY u p) m y2 y3 y4 (by simp only[zKc,zFa];omega)
   have q:i*u.size+aY u p+(a.eval y).cells.toList.toArray.size<=(pre++(rest.take C.length++(rest.drop C.length++rs))).toArray.size:=by simp only[zKc,zFa,zFb] at *;omega
   have V:fN ⟨putAt w b (i*u.size+aY u p) (a.eval y).cells.toList.toArray,S,γ,β,(s.setOb id (some (.many u (l.set i z')))).ob,s.dead⟩ b (.many u (l.set i z')):=by
    have H:∀ g o,S g o->g≠b:=λg o d e=>D o (e ▸ d);simp only[fN];refine⟨N,λx hx=>?_,D,pre++((a.eval y).cells.toList++rest.drop C.length),rs,?_,?_⟩
    ·rcases zPc hx with hx|hx
     ·exact o2 x hx
     ·rw[hx];exact s1
    ·rw[gv m,<-Y,gU pre _ _ _ X];simp only[zXa]
    ·rw[lY F,s3,show ad2 (l.take i)++(A++(y'.flat++B)++ad2 (l.drop (i+1)))=(ad2 (l.take i)++A)++(y'.flat++(B++ad2 (l.drop (i+1)))) by simp[zXa]]
     exact(c1.append (q2.append c4)).mono (λg o d=>cd (H g o d)) λ_ _ hh=>hh
   obtain⟨Z,n2⟩:=h.write (o':=.many u (l.set i z')) f J D m q (λp=>by cases p<;>exact⟨rfl,rfl⟩) (λt l' e=>by cases e;exact⟨_,rfl,s6⟩) (λ_ _ _ e=>by cases e) V
   refine⟨_,hq,rfl,rfl,rfl,rfl,λj hj _=>?_,.skip (w':=putAt w b (i*u.size+aY u p) (a.eval y).cells.toList.toArray) ?_ ⟨S,γ,β,Z,?_,λ_ _=>⟨rfl,rfl⟩⟩⟩
   ·simp only[St.setOb];rw[zga];intro e;subst e;have a0:γ j=some b:=J;rw[a0] at hj;cases hj
   ·simp only[execOp,U,zla,ci,hr,zfa,zra]
   ·exact⟨λ_ _ d=>d,λg o d=>cd (λe=>D o (e ▸ d)),λ_ _=>rfl,λj hj g k=>⟨k,.inl (cE λe=>L ((h.γi id j b J (e ▸ k)) ▸ hj))⟩,s6,λ_ _ d=>d,j6.same rfl (da.putAt m)⟩
end
section
variable{P:Program}{E:Env}{w0:Root}{S:Nat->Nat->Prop}{γ:Nat->Option Nat}{β:Nat->Option (Nat×Nat)}{s:St}{a:Act}{w:World}
def Rp.setFree(h:Rp w0 S γ β s a w){id:Nat}(hid:γ id=none)(o:Option Ob):Rp w0 S γ β (s.setOb id o) a w/\Cx.le ⟨w,S,γ,β,s.ob,s.dead⟩ ⟨w,S,γ,β,(s.setOb id o).ob,s.dead⟩:=by
 have hle:Cx.le ⟨w,S,γ,β,s.ob,s.dead⟩ ⟨w,S,γ,β,(s.setOb id o).ob,s.dead⟩:=by
  refine⟨λ_ _ _=>rfl,λ_ _ k=>k,λ_ _ k=>k,λi x hx ⟨b,c⟩=>?_,λv g=>⟨g,λb e he=>⟨he,λn hn=>hn⟩⟩⟩;simp only[St.setOb] at hx;by_cases e:i=id
  ·simp_all
  ·simp_all
 refine⟨⟨h.ext,λt d=>(h.tms t d).mono hle,h.nt,h.tmu,λi x b hx c=>?_,h.γn,h.γi,h.γf,h.βn,h.βi,h.βγ,h.βf,h.Sb,h.So⟩,hle⟩;simp only[St.setOb] at hx;by_cases e:i=id
 ·simp_all
 ·rw[zga e] at hx;exact(h.obs i x b hx c).mono hle rfl λ_ k=>k
theorem jV(s:St)(id:Nat)(o:Option Ob):(s.setOb id o).ob id=o:=by simp[St.setOb]
def lL(s:St){id i:Nat}(o:Option Ob)(h:i≠id):(s.setOb id o).ob i=s.ob i:=by simp[St.setOb,h]
def Rp.make(h:Rp w0 S γ β s a w){id:Nat}(hid:γ id=none)(l:id<s.base+4096){c:Array Value}{T:TypeId}{o:Ob}(d:Nat)(k:w.drawn<=d)
  (m:fN ⟨grown w [.cells c T] d,S,m8 γ id w.heap.size,β,(s.setOb id (some o)).ob,s.dead⟩ w.heap.size o) :
  Rp w0 S (m8 γ id w.heap.size) β (s.setOb id (some o)) a (grown w [.cells c T] d)/\Cx.le ⟨w,S,γ,β,s.ob,s.dead⟩ ⟨grown w [.cells c T] d,S,m8 γ id w.heap.size,β,(s.setOb id (some o)).ob,s.dead⟩:=by
 obtain⟨h1,j⟩:=h.grow (os:=[.cells c T]) (d:=d) k (S':=S) (λ_ _ g=>g) (λ_ _ g=>.inl g);obtain⟨t,q⟩:=h1.setFree hid (some o);have p:¬ w0.Old w.heap.size:=λm=>by have:=m.1;have:=h.ext.sz;omega
 obtain⟨y,A⟩:=t.newOb (id:=id) (b:=w.heap.size) hid p s6 (λi l=>by have:=(h.γn i _ l).2;omega) (λu f hu z=>by have:=(h.βn u _ _ hu z).2.1;omega) l (λx hx=>by rw[jV] at hx;cases hx;exact m)
 refine⟨y,⟨λb o g=>j.cell b o g,λ_ _ g=>g,λi b g=>eK hid g,λi x hx g=>?_,λv r=>⟨r,λb e he=>⟨he,λn hn=>by have:=j.β v r;exact(this.2 b e he).2 n hn⟩⟩⟩⟩
 obtain⟨b,g⟩:=g;exact q.ob i x hx ⟨b,g⟩
def Mp(h:Rp w0 S γ β s a w){dst T x ty pos after guard}{d:Nat}(y:d<4096)(I:dst=some d)(k:γ (s.base+d)=none)(m:∀ t∈s.lkS,dst≠some t){R:Type}{K:St->Option R}{r:R}{t:Ty}{g:Ob}
  (hq:K ((s.setOb (s.base+d) (some g)).put dst (.ptr t (s.base+d) []))=some r)
  (p:Cx.le ⟨w,S,γ,β,s.ob,s.dead⟩ ⟨grown w [.cells (a.eval x).cells T] w.drawn,S,m8 γ (s.base+d) w.heap.size,β,(s.setOb (s.base+d) (some g)).ob,s.dead⟩->fN ⟨grown w [.cells (a.eval x).cells T] w.drawn,S,m8 γ (s.base+d) w.heap.size,β,(s.setOb (s.base+d) (some g)).ob,s.dead⟩ w.heap.size g)
  (q:eC g []=some t/\0=ci g []):∃ s',K s'=some r/\E6 P w0 S γ β s a w ⟨dst,.box T x,ty,pos,after,guard⟩ s':=by
 have hle:Cx.le ⟨w,S,γ,β,s.ob,s.dead⟩ ⟨grown w [.cells (a.eval x).cells T] w.drawn,S,m8 γ (s.base+d) w.heap.size,β,(s.setOb (s.base+d) (some g)).ob,s.dead⟩:=by
  refine⟨λb o f=>dD (h.Sb b o f),λ_ _ f=>f,λi b f=>eK k f,λi z B ⟨b,f⟩=>?_,λv u=>⟨u,λb e he=>⟨he,λn hn=>by rw[wi (h.βn v b e u he).2.1];exact hn⟩⟩⟩
  by_cases e:i=s.base+d
  ·simp_all
  ·have C:s.ob i=some z:=by rw[<-B];exact(lL s _ e).symm
   simp_all
 obtain⟨h1,D⟩:=h.make (id:=s.base+d) k j1 (c:=(a.eval x).cells) (T:=T) (o:=g) w.drawn (zka _) (p hle)
 obtain⟨p1,E,J,F,G,H,L⟩:=aeE (s.setOb (s.base+d) (some g)) dst (.ptr t (s.base+d) []);refine⟨_,hq,G,H,E,F,λid hid l=>?_,.value (v:=.pointer (some ⟨w.heap.size,0,none⟩)) (w':=grown w [.cells (a.eval x).cells T] w.drawn) ?_ ⟨S,_,β,h1.put (fB (bA _ _ _) λo p=>?_) dst,?_,λid hid=>⟨bW _ _ ?_,rfl⟩⟩⟩
 ·rw[p1];refine lL s _ λe=>?_;subst e;rcases l with l|l
  ·simp_all
  ·omega
 ·simp_all [cN,execOp,Instr.box,newVar,newRow,zla]
 ·have j:(s.setOb (s.base+d) (some g)).ob (s.base+d)=some o:=p;rw[jV] at j;cases j;exact q
 ·exact⟨λ_ _ f=>f,λb o f=>dD (h.Sb b o f),λt A=>bZ (m t A),λid hid b f=>⟨eK k f,.inl (c9 (h.γn id b f).2)⟩,s6,λ_ _ f=>eK k f,j6.same bG da.grown⟩
 ·intro e;subst e;rcases hid with hid|hid
  ·simp_all
  ·omega
def KE(u:EnvOk P E)(h:Rp w0 S γ β s a w){dst T x ty pos after guard}(l:Fr E s γ β ⟨dst,.box T x,ty,pos,after,guard⟩)(g:∀ t∈s.lkS,dst≠some t){R:Type}{K:St->Option R}{r:R}(hT:∀ t,E.L T=some t->ao t=true)
  (hq:rL E s ⟨dst,.box T x,ty,pos,after,guard⟩ K=some r):∃ s',K s'=some r/\E6 P w0 S γ β s a w ⟨dst,.box T x,ty,pos,after,guard⟩ s':=by
 simp only[rL] at hq;cases hfn:E.fnT T with
 | true=>
  rw[hfn] at hq;simp only[cond_true] at hq;replace hq:=ab hq;obtain⟨d,f,hq⟩:=hq;split at hq<;>first|(cases hq;done)|skip
  rename_i b;obtain⟨e,k,q,_⟩:=l rfl d f;obtain⟨n,i⟩:=Dd (c:=⟨w,S,γ,β,s.ob,s.dead⟩) b (aS h x);exact Mp h e f k g hq (λhle=>by simp only[fN];exact⟨λo j=>by have:=h.Sb _ _ j;omega,a.eval x,by rw[<-pI i];exact mw,n.mono hle.cell hle.S hle.γ,i⟩) ⟨rfl,rfl⟩
 | false=>
 rw[hfn] at hq;simp only[cond_false] at hq;replace hq:=ab hq;obtain⟨t,p,hq⟩:=hq;replace hq:=ab hq;obtain⟨d,f,hq⟩:=hq;split at hq<;>first|(cases hq;done)|skip
 rename_i b;obtain⟨e,k,q,_⟩:=l rfl d f;have hn:=hT t p;obtain⟨m,n⟩:=yn b hn (aS h x);obtain⟨i,_⟩:=gl _ _ _ b m;exact Mp h e f k g hq (λhle=>by simp only[fN];exact⟨hn,b,λo j=>by have:=h.Sb _ _ j;omega,(a.eval x).cells.toList,by rw[z3b];exact mw,AC.mono hle _ _ m,i⟩) ⟨by cases t<;>rfl,by cases t<;>rfl⟩
def BY{n:Nat}(h:n<=1073741824):IntKind.i64.wrap (n:Int)=(n:Int):=by exact IntWalk.i64_in _ j1
def uL(W:EnvOk P E)(h:Rp w0 S γ β s a w){dst T i y ty pos after guard}(Y:Fr E s γ β ⟨dst,.makeSlice T (.tmp i) y,ty,pos,after,guard⟩)(G:∀ t∈s.lkS,dst≠some t){R:Type}{K:St->Option R}{r:R}
  (hq:rL E s ⟨dst,.makeSlice T (.tmp i) y,ty,pos,after,guard⟩ K=some r):∃ s',K s'=some r/\E6 P w0 S γ β s a w ⟨dst,.makeSlice T (.tmp i) y,ty,pos,after,guard⟩ s':=by
 simp only[rL] at hq;replace hq:=ab hq;obtain⟨t,I,hq⟩:=hq;replace hq:=ab hq;obtain⟨d,C,hq⟩:=hq;split at hq<;>first|(cases hq;done)|skip
 rename_i e j;split at hq<;>first|(cases hq;done)|skip
 rename_i F;subst F;replace hq:=ab hq;obtain⟨p,hp,hq⟩:=hq;replace hq:=ab hq;obtain⟨n,H,hq⟩:=hq;split at hq<;>first|(cases hq;done)|skip
 rename_i g;obtain⟨X,M,hβ,_⟩:=Y rfl d C;rcases W.lay T _ I with⟨al,J⟩|hl
 ·cases J
 have hn:=aH _ _ hl;simp only[ao] at hn;obtain⟨u,h1,N⟩:=gZ hl;obtain⟨i0,z0,m,Z,kN,D,q,_⟩:=eG (fI N);have l:a.eval (.tmp i)=.int .i64 n\/∃ k,a.eval (.tmp i)=.int k n:=by obtain⟨kk,U⟩:=qa H;have O:=aS h (.tmp i);rw[show s.opA (.tmp i)=s.tm i from rfl,dG hp,U] at O;exact .inr ⟨kk,(dS O).1⟩
 obtain⟨k,l⟩:∃ k,a.eval (.tmp i)=.int k n:=by
  rcases l with l|l
  ·exact⟨_,l⟩
  ·exact l
 have L:z0.cells.size=e.size:=by have:=(cu (w:=w) (S:=S) q).1;rw[<-zFb,<-this];exact ct _ _ (cK e hn) hn
 let cells:Array Value:=(Array.range (n*e.size)).map λi=>z0.cells[i%z0.cells.size]!
 have hz:∀ w',cL w' S (ad2 (List.replicate n (az e))) cells.toList:=λw'=>wI q L n;obtain⟨r1,ad⟩:=h.make (id:=s.base+d) M j1 (c:=cells) (T:=u) (o:=.many e (List.replicate n (az e))) w.drawn (zka _) (by simp only[fN];exact⟨hn,λx hx=>by rw[(zld.1 hx).2];exact cK e hn,λo B=>by have:=h.Sb _ _ B;omega,cells.toList,[],by rw[zZc,z3b];exact mw,hz _⟩)
 have z:(Instr.makeSlice T (.int k n) (.int k n)).run P w=.ok (.slice (some ⟨w.heap.size,0,none⟩) n n) (grown w [.cells cells u] w.drawn):=by
  have f:((i0.bytes:Int)*(n:Int))<=2^48:=by have V:i0.bytes*n<=16384*1073741824:=z5a kN.1 g;have:((i0.bytes*n:Nat):Int)<=((16384*1073741824:Nat):Int):=Int.ofNat_le.2 V;rw[z4a] at this;omega
  have hw:=BY g;have c1:¬ ((n:Int)<0):=j1
  have c2:¬ ((i0.bytes:Int)*(n:Int)>2^48):=j1
  simp only[Instr.makeSlice,zla,run_underlying h1,zfa,asInt,asIntOf,pure_bind,typeInfo,run_program,m,zra,hw];rw[zca c1,zca c2,zca (show ¬ ((n:Int)>n) from Int.lt_irrefl _)];simp only[Bool.or_self,zLa,if_false,zla,run_askRoom,zfa,bY N,zvc];by_cases h0:n*e.size=0
  ·have Q:((Array.range (n*e.size)).map λi=>(#[]:Array Value)[i%(#[]:Array Value).size]!)=cells:=by
    show _=((Array.range (n*e.size)).map λi=>z0.cells[i%z0.cells.size]!);rw[h0];simp
   rw[zja h0];simp only[pure_bind,Q,newRow,zla,run_newObj,zfa,zra];rw[<-cN];rfl
  ·rw[zga h0];simp only[zeroValue,typeInfo,zla,run_program,m,D,zfa,zra,bind_pure_comp,Sem.run_map,newRow,run_newObj];rw[<-cN];rfl
 obtain⟨p1,p2,p3,p4,p5,p6,p7⟩:=aeE (s.setOb (s.base+d) (some (.many e (List.replicate n (az e))))) dst (.mem e (s.base+d));refine⟨_,hq,p5,p6,p2,p4,λid hid A=>?_,.value (v:=.slice (some ⟨w.heap.size,0,none⟩) n n) (w':=grown w [.cells cells u] w.drawn) (by simp only[execOp,l,zla,z,zfa,zra]) ⟨S,_,β,r1.put ?_ dst,?_,λid hid=>⟨bW _ _ ?_,rfl⟩⟩⟩
 ·rw[p1];refine lL s _ λe=>?_;subst e;rcases A with A|A
  ·exact A (by rw[C,zvb])
  ·omega
 ·simp only[AR,AC,Value.cells];refine⟨s6,hn,w.heap.size,bA _ _ _,λo B=>?_⟩
  rw[jV] at B;cases B;exact⟨_,n,rfl,s6,s6⟩
 ·exact⟨λ_ _ f=>f,λb o f=>dD (h.Sb b o f),λt I=>bZ (G t I),λid hid b f=>⟨eK M f,.inl (c9 (h.γn id b f).2)⟩,s6,λ_ _ f=>eK M f,j6.same bG da.grown⟩
 ·intro e;subst e;rcases hid with hid|hid
  ·exact hid (by rw[C,zvb])
  ·omega
theorem vA(m:Nat):∀ (r c:Nat),c<=2*m+200->Builtin.growBy m r c<=2*m+200
 | 0,c,h=>by simpa [Builtin.growBy] using h
 | r+1,c,h=>by
  simp only[Builtin.growBy];split
  ·exact h
  ·exact vA m r _ j1
def Bl{a cap:Nat}(h:cap<a):Builtin.nextslicecap a cap<=2*a+200:=by
 unfold Builtin.nextslicecap;split
 ·omega
 ·split
  ·omega
  ·exact vA a 4 cap j1
def iS{w:World}{S:Nat->Nat->Prop}{e:Ty}{l:List D}{v:Value}(hn:ao e=true)(hl:∀ x∈l,wt e x)(h:CR w S (.sl l) v):∃ cs:List Value,cL w S (ad2 l) cs/\(Builtin.firstCells e.size l.length v).run P w=.ok cs.toArray w:=by
 obtain⟨A,cap,b,off,c,a,g,cs,d,f⟩:=h.elems;refine⟨cs,d,?_⟩;have hlen:cs.length=l.length*e.size:=by rw[<-d.1];exact aK hn l hl
 subst c;cases A with
 | none=>
  rcases a with rfl|a
  ·have:cs=[]:=by
    simp at hlen;exact hlen
   subst this;rfl
  ·cases a
 | some A=>
  rcases a with rfl|a
  ·have:cs=[]:=by
    simp at hlen;exact hlen
   subst this;simp[Builtin.firstCells,loadCells,loadCellsFrom]
  ·cases a;simp only[Builtin.firstCells];rw[<-hlen];exact run_loadCells_list (P:=P) w ⟨b,off,none⟩ cs (λj v c=>by rw[db];exact(f j v c).2)
def sd{c:Cx}{e:Ty}{v:Nat}(hn:ao e=true):AR c (.own e v []) (.slice none 0 0):=by simp only[AR,AC,Value.cells];exact⟨s6,hn,λx hx=>by simp at hx,none,0,rfl,.sl [] none 0 0 0 (λ_=>undef) (.inl rfl) (zka 0) (λi d a=>by simp[ad2] at a) (λi d a=>by simp[ad2] at a),λ_=>.inl ⟨rfl,rfl⟩⟩
def Rp.bury(h:Rp w0 S γ β s a w)(v:Nat):Rp w0 S γ β { s with dead:=v::s.dead } a w/\Cx.le ⟨w,S,γ,β,s.ob,s.dead⟩ ⟨w,S,γ,β,s.ob,v::s.dead⟩:=by
 have hle:Cx.le ⟨w,S,γ,β,s.ob,s.dead⟩ ⟨w,S,γ,β,s.ob,v::s.dead⟩:=
  ⟨λ_ _ _=>rfl,λ_ _ k=>k,λ_ _ k=>k,λid o d _=>⟨o,d,λp=>⟨rfl,rfl⟩,λt l e=>⟨l,e,rfl⟩,λ_ _ l e=>⟨l,e⟩⟩,λu hu=>⟨λc=>hu (zma _ c),λb e he=>⟨he,λn hn=>hn⟩⟩⟩
 have nd:∀ {u},u ∉ v::s.dead->u ∉ s.dead:=λhu c=>hu (zma _ c);exact⟨⟨h.ext,λt q=>(h.tms t q).mono hle,h.nt,h.tmu,λid o b d m=>(h.obs id o b d m).mono hle rfl λ_ k=>k,h.γn,h.γi,h.γf,λu b e hu=>h.βn u b e (nd hu),λu r b e j hu g=>h.βi u r b e j (nd hu) (nd g),λu id b e hu=>h.βγ u id b e (nd hu),h.βf,h.Sb,h.So⟩,hle⟩
end
section
variable{P:Program}{E:Env}{w0:Root}{S:Nat->Nat->Prop}{γ:Nat->Option Nat}{β:Nat->Option (Nat×Nat)}{s:St}{a:Act}{w:World}
def Rp.makeG(h:Rp w0 S γ β s a w){id:Nat}(hid:γ id=none)(k:id<s.base+4096){x:Obj}{o:Ob}(d:Nat)(j:w.drawn<=d)
  (l:fN ⟨grown w [x] d,S,m8 γ id w.heap.size,β,(s.setOb id (some o)).ob,s.dead⟩ w.heap.size o) :
  Rp w0 S (m8 γ id w.heap.size) β (s.setOb id (some o)) a (grown w [x] d)/\Cx.le ⟨w,S,γ,β,s.ob,s.dead⟩ ⟨grown w [x] d,S,m8 γ id w.heap.size,β,(s.setOb id (some o)).ob,s.dead⟩:=by
 obtain⟨h1,g⟩:=h.grow (os:=[x]) (d:=d) j (S':=S) (λ_ _ c=>c) (λ_ _ c=>.inl c);obtain⟨r,p⟩:=h1.setFree hid (some o);have m:¬ w0.Old w.heap.size:=λl=>by have:=l.1;have:=h.ext.sz;omega
 obtain⟨t,z⟩:=r.newOb (id:=id) (b:=w.heap.size) hid m s6 (λi k=>by have:=(h.γn i _ k).2;omega) (λu f hu y=>by have:=(h.βn u _ _ hu y).2.1;omega) k (λx hx=>by rw[jV] at hx;cases hx;exact l)
 refine⟨t,⟨λb o c=>g.cell b o c,λ_ _ c=>c,λi b c=>eK hid c,λi x hx c=>?_,λv q=>⟨q,λb e he=>⟨he,λn hn=>by have:=g.β v q;exact(this.2 b e he).2 n hn⟩⟩⟩⟩
 obtain⟨b,c⟩:=c;exact p.ob i x hx ⟨b,c⟩
def yV(y:EnvOk P E)(h:Rp w0 S γ β s a w){dst T rsv ty pos after guard}(B:Fr E s γ β ⟨dst,.makeMap T rsv,ty,pos,after,guard⟩)(l:∀ t∈s.lkS,dst≠some t){R:Type}{K:St->Option R}{r:R}
  (hq:rL E s ⟨dst,.makeMap T rsv,ty,pos,after,guard⟩ K=some r):∃ s',K s'=some r/\E6 P w0 S γ β s a w ⟨dst,.makeMap T rsv,ty,pos,after,guard⟩ s':=by
 simp only[rL] at hq;cases rsv with
 | some x=>cases hq
 | none=>
 simp only at hq;replace hq:=ab hq;obtain⟨D,k,hq⟩:=hq;replace hq:=ab hq;obtain⟨d,z,hq⟩:=hq;obtain⟨q,vt⟩:=D;simp only at hq;obtain⟨A,p,M,_⟩:=B rfl d z;obtain⟨hc,KT,VT,hu,g,m,L⟩:=y.mapL T _ _ k;have i:=aH _ _ g;have j:=aH _ _ m;obtain⟨h1,F⟩:=h.makeG (id:=s.base+d) p j1 (x:=.map #[] 0) (o:=.mp q vt []) w.drawn (zka _) (by
  simp only[fN];refine⟨i,j,λo u=>by have:=h.Sb _ _ u;omega,#[],?_,by simp[iA]⟩
  show(w.heap++#[Obj.map #[] 0])[w.heap.size]?=some (.map #[] 0);rw[Array.getElem?_append_right (zka _),z6c];rfl)
 obtain⟨p1,G,N,H,I,J,O⟩:=aeE (s.setOb (s.base+d) (some (.mp q vt []))) dst (.map q vt (s.base+d));refine⟨_,hq,I,J,G,H,λid hid f=>?_,.value (v:=.map (some w.heap.size)) (w':=grown w [.map #[] 0] w.drawn) ?_ ⟨S,_,β,h1.put ?_ dst,?_,λid hid=>⟨bW _ _ ?_,rfl⟩⟩⟩
 ·rw[p1];refine lL s _ λe=>?_;subst e;rcases f with f|f
  ·simp_all
  ·omega
 ·simp_all [grown,execOp,Instr.makeMap,Option.map_none,zla,zfa]
 ·simp only[AR,AC,Value.cells];refine⟨s6,w.heap.size,rfl,bA _ _ _,i,j,λo u=>?_⟩
  grind [jV]
 ·exact⟨λ_ _ c=>c,λb o c=>dD (h.Sb b o c),λt C=>bZ (l t C),λid hid b c=>⟨eK p c,.inl (c9 (h.γn id b c).2)⟩,s6,λ_ _ c=>eK p c,j6.same bG da.grown⟩
 ·intro e;subst e;rcases hid with hid|hid
  ·simp_all
  ·omega
def qg(w:World)(b:Nat)(o:Obj):World:={ w with heap:=w.heap.setIfInBounds b o }
theorem im{w:World}{b a:Nat}{o:Obj}(h:a≠b):(qg w b o).heap[a]?=w.heap[a]?:=by simp only[qg];grind
def jW{w:World}{b:Nat}{o:Obj}:(qg w b o).heap.size=w.heap.size:=by simp[qg]
def u9{w:World}{b a o':Nat}{o:Obj}(h:a≠b):(qg w b o).cell? ⟨a,o',none⟩=w.cell? ⟨a,o',none⟩:=by simp only[World.cell?,im h]
def Rp.writeM(h:Rp w0 S γ β s a w){id b:Nat}{y vt:Ty}{l l':List D}{es':Array MapEntry}(E:s.ob id=some (.mp y vt l))(m:γ id=some b)(F:iA ⟨w,S,γ,β,s.ob,s.dead⟩ y vt 0 l' es'.toList) :
  Rp w0 S γ β (s.setOb id (some (.mp y vt l'))) a (qg w b (.map es' l'.length))/\(∀ c o,S c o->(qg w b (.map es' l'.length)).cell? ⟨c,o,none⟩=w.cell? ⟨c,o,none⟩):=by
 have hO:=h.obs id _ b E m;simp only[fN] at hO;obtain⟨A,B,C,es,G,_⟩:=hO;have q:∀ c o,S c o->c≠b:=λc o g e=>C o (e ▸ g);have I:b<w.heap.size:=(h.γn id b m).2;have hle:Cx.le ⟨w,S,γ,β,s.ob,s.dead⟩ ⟨qg w b (.map es' l'.length),S,γ,β,(s.setOb id (some (.mp y vt l'))).ob,s.dead⟩:=by
  refine⟨λc o g=>u9 (q c o g),λ_ _ g=>g,λ_ _ g=>g,λi x hx _=>?_,λv u=>⟨u,λc e he=>⟨he,λn hn=>?_⟩⟩⟩
  ·simp only[St.setOb] at hx;by_cases e:i=id
   ·subst e;simp only[if_true,zda] at hx;subst hx;exact⟨_,E,λp=>⟨rfl,rfl⟩,(λt l e=>by cases e),(λk v l e=>by cases e;exact⟨_,rfl⟩)⟩
   ·simp_all
  ·have j:c≠b:=λz=>h.βγ v id c e u he (z ▸ m);have r:kW w c=some n:=hn;show kW (qg w b (.map es' l'.length)) c=some n;simp only[kW,bO,im j] at r ⊢;exact r
 refine⟨⟨nu h.ext rfl rfl rfl (by simp[jW]) (zka _) (λc d=>im λe=>(h.γn id b m).1 (e ▸ d)),λt J=>(h.tms t J).mono hle,h.nt,h.tmu,λi x c hx d=>?_,λi c d=>by rw[jW];exact h.γn i c d,h.γi,h.γf,
  λv c e u he=>by rw[jW];exact h.βn v c e u he,h.βi,h.βγ,h.βf,λc o g=>by rw[jW];exact h.Sb c o g,h.So⟩,λc o g=>u9 (q c o g)⟩
 simp only[St.setOb] at hx;by_cases e:i=id
 ·subst e;simp only[if_true,zda] at hx;subst hx;rw[m] at d;cases d;simp only[fN];refine⟨A,B,C,es',?_,F.mono hle⟩;simp only[qg]
  simp_all
 ·rw[zga e] at hx;have j:c≠b:=λz=>e (h.γi i id c d (z ▸ m));exact(h.obs i x c hx d).mono hle (im j) λ_ H=>H
theorem iA.push{c:Cx}{a vt:Ty}{k v:D}{ek ev:Value}(hk:wt a k)(b:wt vt v)(d:fa c.w c.S k ek)(f:fa c.w c.S v ev):∀ {l:List D} {es:List MapEntry} {j:Nat},iA c a vt j l es->iA c a vt j (l++[.st [k,v]]) (es++[{ key:=ek,val:=ev,born:=j+l.length }])
 | [],[],j,_=>by simp only[z0b,iA,z1b,zWb];exact⟨⟨trivial,k,v,rfl,hk,b,d,f⟩,trivial⟩
 | [],_::_,_,h=>h.elim
 | _::_,[],_,h=>h.elim
 | x::l,e::es,j,h=>by simp only[zub,iA] at h ⊢;refine⟨h.1,?_⟩;have:=iA.push hk b d f h.2;grind
theorem zE{c:Cx}{d vt:Ty}{x y:D}:∀ {l:List D} {es:List MapEntry} {j i:Nat},iA c d vt j l es->Az l x es i=none->ad4 l x y=l++[.st [x,y]]
 | [],[],_,_,_,_=>rfl
 | [],_::_,_,_,h,_=>h.elim
 | _::_,[],_,_,h,_=>h.elim
 | z::l,e::es,j,i,h,a=>by
  simp only[iA] at h;obtain⟨⟨_,k,v,rfl,_⟩,b⟩:=h;simp only[Az] at a;simp only[ad4];cases hb:D.beq x k
  ·rw[hb] at a;simp only[zLa,if_false] at a ⊢;rw[zE b a];rfl
  ·simp_all
theorem zF{c:Cx}{d vt:Ty}{x y:D}{ek ev:Value}(q:wt vt y)(s:fa c.w c.S y ev)(r:fa c.w c.S x ek):∀ {l:List D} {es:List MapEntry} {j i n:Nat} {v0:Value},iA c d vt j l es->Az l x es i=some (n,v0) ->
  ∃ m b,n=i+m/\es[m]?=some b/\(ad4 l x y).length=l.length/\iA c d vt j (ad4 l x y) (es.modify m λe=>{ e with key:=b.key,val:=ev })/\iA c d vt j (ad4 l x y) (es.modify m λe=>{ e with key:=ek,val:=ev })
 | [],[],_,_,_,_,_,a=>by simp[Az] at a
 | [],_::_,_,_,_,_,h,_=>h.elim
 | _::_,[],_,_,_,_,h,_=>h.elim
 | z::l,e::es,j,i,n,v0,h,a=>by
  simp only[iA] at h;obtain⟨⟨p,k,v,rfl,q1,B,C,E⟩,o⟩:=h;simp only[Az] at a;simp only[ad4];cases hb:D.beq x k
  ·rw[hb] at a;simp only[zLa,if_false] at a ⊢;obtain⟨m,b,t,f,g,u,A⟩:=zF (y:=y) q s r o a;refine⟨m+1,b,j1,by simpa using f,by simp[g],?_,?_⟩
   ·grind [List.modify_succ_cons,iA]
   ·grind [List.modify_succ_cons,iA]
  ·rw[hb] at a;simp only[if_true,zda,Prod.mk.injEq] at a;have:=Fx _ _ hb;subst this;simp only[if_true];refine⟨0,e,j1,rfl,rfl,?_,?_⟩
   ·grind [List.modify_zero_cons,iA]
   ·grind [List.modify_zero_cons,iA]
def DZ(old new:Value)(w:World):∃ k d,w.drawn<=d/\(Instr.keyThatStays old new).run P w=.ok k { w with drawn:=d }/\(k=old\/k=new):=by
 unfold Instr.keyThatStays;split
 ·exact⟨new,w.drawn,zka _,rfl,.inr rfl⟩
 ·simp only[zla,run_choose];split
  ·simp only[zfa,zra];exact⟨_,w.drawn,zka _,rfl,by split<;>simp⟩
  ·simp only[zfa,zra];exact⟨_,w.drawn+1,zCc _,rfl,by split<;>simp⟩
def uM(hE:EnvOk P E)(h:Rp w0 S γ β s a w){dst T x k v ty pos after guard}{R:Type}{K:St->Option R}{r:R}
  (hq:rL E s ⟨dst,.mapUpdate T x k v,ty,pos,after,guard⟩ K=some r):∃ s',K s'=some r/\E6 P w0 S γ β s a w ⟨dst,.mapUpdate T x k v,ty,pos,after,guard⟩ s':=by
 simp only[rL] at hq;cases dst with
 | some d=>simp at hq
 | none=>
 simp only[Option.isSome_none,zLa,if_false] at hq;replace hq:=ab hq;obtain⟨kv,ad,hq⟩:=hq;obtain⟨a5,a6⟩:=kv;have hx:=aS h x;generalize s.opA x=ax at *;cases ax<;>(try simp only at hq)<;>first|(cases hq;done)|skip
 rename_i kt vt id;split at hq<;>first|(cases hq;done)|skip
 rename_i c;simp only[zaa,zCa] at c;obtain⟨⟨X,f⟩,a2⟩:=c;have L:=aeK _ _ X;have A:=aeK _ _ f;subst L;subst A;have al:id ∉ s.lkO:=by simp_all
 split at hq<;>first|(cases hq;done)|skip
 rename_i t a1 l H;split at hq<;>first|(cases hq;done)|skip
 rename_i f;simp only[zaa] at f;have L:=aeK _ _ f.1;have A:=aeK _ _ f.2;subst L;subst A;replace hq:=ab hq;obtain⟨u,Z,hq⟩:=hq;replace hq:=ab hq;obtain⟨J,a0,hq⟩:=hq;obtain⟨hc,KT,VT,hu,q,an,hh⟩:=hE.mapL T _ _ ad;have G:=aH _ _ q;have aI:=aH _ _ an;obtain⟨O,I⟩:=nc G (aS h k) Z;obtain⟨v1,v2⟩:=nc aI (aS h v) a0;simp only[AR,AC] at hx;obtain⟨na,b,Y,N,_,_,_⟩:=hx;have hv:=ar na Y;have hO:=h.obs id _ b H N;simp only[fN] at hO;obtain⟨_,_,a3,es,g,M⟩:=hO;have i1:gj t (a.eval k).cells.toList (a.eval k):=⟨rfl,nX O G I.1⟩;have rc:=jg (S:=S) (w:=w) t KT u _ _ 10000 false q hc j1 O I.2 i1 w
 have Q:=tc (P:=P) q hc hh O I w M;have hex:(execOp a.eval ⟨none,.mapUpdate T x k v,ty,pos,after,guard⟩)=(Instr.mapUpdate T (a.eval x) (a.eval k) (a.eval v) >>= λ_=>pure .skip):=rfl;have F:b<w.heap.size:=(h.γn id b N).2;have run:∃ es' d,w.drawn<=d/\iA ⟨w,S,γ,β,s.ob,s.dead⟩ t a1 0 (ad4 l u J) es'.toList/\(execOp a.eval ⟨none,.mapUpdate T x k v,ty,pos,after,guard⟩).run P w=.ok .skip (qg { w with drawn:=d } b (.map es' (ad4 l u J).length)):=by
  rw[hex,hv];cases hf:Az l u es.toList 0 with
  | none=>
   rw[hf] at Q;have hm:=zE (y:=J) M hf;refine⟨es.push { key:=a.eval k,val:=a.eval v,born:=l.length },w.drawn,zka _,?_,?_⟩
   ·rw[hm,ztd];have:=iA.push O v1 I v2 M
    rwa [z8a] at this
   ·have hl:(ad4 l u J).length=l.length+1:=by rw[hm];simp
    rw[hl];simp only[Instr.mapUpdate,zla,run_underlying hu,zfa,kh g,rc,Q];simp[setObj,Sem.run,g,qg]
  | some p=>
   obtain⟨n,v0⟩:=p;rw[hf] at Q;obtain⟨m,e0,L,A,e3,e4,e5⟩:=zF (ek:=a.eval k) v1 v2 I M hf;have U:n=m:=j1
   subst U;have V:es[n]?=some e0:=by simpa using A
   obtain⟨kk,d,C,r1,r2⟩:=DZ (P:=P) e0.key (a.eval k) w;refine⟨es.modify n λe=>{ e with key:=kk,val:=a.eval v },d,C,?_,?_⟩
   ·rw[Array.toList_modify];all_goals grind
   ·rw[e3];simp only[Instr.mapUpdate,zla,run_underlying hu,zfa,kh g,rc,Q,V,zSb,z4b,r1];simp[setObj,Sem.run,g,qg]
 obtain⟨es',d,D,W,j⟩:=run;have hg:({ w with drawn:=d }:World)=grown w [] d:=by simp[grown]
 rw[hg] at j;obtain⟨g1,g2⟩:=h.grow (os:=[]) (d:=d) D (S':=S) (λ_ _ c=>c) (λ_ _ c=>.inl c);obtain⟨w1,w2⟩:=g1.writeM (l':=ad4 l u J) (es':=es') H N (W.mono g2);refine⟨_,hq,rfl,rfl,rfl,rfl,λi hi _=>?_,.skip j ⟨S,γ,β,w1,?_,λ_ _=>⟨rfl,rfl⟩⟩⟩
 ·refine lL s _ λe=>?_
  simp_all
 ·refine⟨λ_ _ c=>c,λz o c=>(w2 z o c).trans (g2.cell z o c),λ_ _=>rfl,λi hi z B=>⟨B,.inl ?_⟩,by rw[jW];simp,λ_ _ c=>c,j6.same rfl (aee b (λz c F=>(im c).trans (c9 F)) (D4 g))⟩
  have a4:z≠b:=λe=>by subst e;exact al ((h.γi id i _ N B) ▸ hi)
  grind [im]
end
def CR.at_{w:World}{S:Nat->Nat->Prop}{l:List D}{b off n cap:Nat}(h:CR w S (.sl l) (.slice (some ⟨b,off,none⟩) n cap)):pD w S b off (ad2 l):=by
 obtain⟨A,d,j,f,e,a,k,g⟩:=h.elems;simp only[Value.slice.injEq] at e;rcases a with rfl|a
 ·exact⟨[],cL.nil,λi c hc=>by simp at hc⟩
 ·rw[<-e.1] at a;cases a;exact g
def nP{w:World}{b n:Nat}(h:kW w b=some n):∃ c,bO w b=some c/\c.size=n:=by simp_all [kW]
def pH{w:World}{b off o:Nat}{c cs:Array Value}(h:bO w b=some c)(d:off+cs.size<=c.size)(a:o<off):(putAt w b off cs).cell? ⟨b,o,none⟩=w.cell? ⟨b,o,none⟩:=by simp_all [cell_of_row,gv,ku]
def uK{w:World}{b off o:Nat}{c cs:Array Value}(h:bO w b=some c)(a:off+cs.size<=c.size)(d:o<cs.size):(putAt w b off cs).cell? ⟨b,off+o,none⟩=cs[o]?:=by rw[cell_of_row _ (gv h),ku _ _ _ _ a,zga j1,zja j1,zvb]
section
variable{P:Program}{E:Env}{w0:Root}{S:Nat->Nat->Prop}{γ:Nat->Option Nat}{β:Nat->Option (Nat×Nat)}{s:St}{a:Act}{w:World}
def GZ(h:Rp w0 S γ β s a w){v v' b off:Nat}{e:Ty}{l l':List D}{cap n:Nat}{g:List Value}(hn:ao e=true)(hl:∀ x∈l,wt e x)(hl':∀ x∈l',wt e x)(L:v ∉ s.dead)(M:β v=some (b,off+l.length*e.size))(hr:kW w b=some n)(R:off+cap*e.size<=n/\off=0)
  (A:l.length+l'.length<=cap) (hc:pD w S b off (ad2 l)) (Q:cL w S (ad2 l') g) (Z:β v'=none) (hi:v'<s.base+4096) :
  ∃ S' β',Rp w0 S' γ β' { s with dead:=v::s.dead } a (putAt w b (off+l.length*e.size) g.toArray) ∧
   AR ⟨putAt w b (off+l.length*e.size) g.toArray,S',γ,β',s.ob,v::s.dead⟩ (.own e v' (l++l')) (.slice (some ⟨b,off,none⟩) (l.length+l'.length) cap) ∧
   (∀ b o,S b o->S' b o)/\(∀ j o,S j o->(putAt w b (off+l.length*e.size) g.toArray).cell? ⟨j,o,none⟩=w.cell? ⟨j,o,none⟩)/\(∀ u,u≠v'->β' u=β u):=by
 obtain⟨c,y,Y⟩:=nP hr;have F:g.length=l'.length*e.size:=by rw[<-Q.1];exact aK hn l' hl'
 generalize he0:off+l.length*e.size=r at *;obtain⟨H,N,O⟩:=h.βn v b r L M;have E:r+g.toArray.size<=c.size:=by simp only[zKc,F,Y];have:(l.length+l'.length)*e.size<=cap*e.size:=zEa _ A;rw[zdb] at this;omega
 let S':Nat->Nat->Prop:=λj o=>S j o\/(j=b/\r<=o/\o<r+g.length)
 have q:∀ j o,S j o->(putAt w b r g.toArray).cell? ⟨j,o,none⟩=w.cell? ⟨j,o,none⟩:=λj o P=>by
  by_cases e:j=b
  ·subst e;exact pH y E (Nat.lt_of_not_le λm=>O o m P)
  ·exact cd e
 have nd:∀ {u},u ∉ v::s.dead->u ∉ s.dead/\u≠v:=λhu=>⟨λm=>hu (zma _ m),λm=>hu (m ▸ zwa)⟩;have hle:Cx.le ⟨w,S,γ,β,s.ob,s.dead⟩ ⟨putAt w b r g.toArray,S',γ,m8 β v' (b,r+g.length),s.ob,v::s.dead⟩:=
  ⟨q,λ_ _ P=>.inl P,λ_ _ k=>k,λid o K _=>⟨o,K,λp=>⟨rfl,rfl⟩,λt l e=>⟨l,e,rfl⟩,λ_ _ l e=>⟨l,e⟩⟩,λu hu=>⟨(nd hu).1,λj e he=>⟨eK Z he,λn hn=>by rw[jR y E];exact hn⟩⟩⟩
 have X:Rp w0 S' γ (m8 β v' (b,r+g.length)) { s with dead:=v::s.dead } a (putAt w b r g.toArray):=by
  refine⟨nu h.ext rfl rfl rfl s6 (zka _) (λj d=>cE (λe=>H (e ▸ d))),λt ht=>(h.tms t ht).mono hle,h.nt,h.tmu,λid o j K d=>?_,λid j d=>by simpa using h.γn id j d,h.γi,h.γf,λu j e hu he=>?_,λu W j e e' hu I he z=>?_,λu id j e hu he=>?_,λu hu=>?_,λj o d=>?_,λj o d C=>?_⟩
  ·have T:j≠b:=λe=>h.βγ v id b r L M (e ▸ d);refine(h.obs id o j K d).mono hle (cE T) λo m=>?_;rcases m with m|m
   ·exact m
   ·exact z3a m.1 T
  ·obtain⟨B,J⟩:=nd hu;by_cases e1:u=v'
   ·subst e1;rw[bA] at he;cases he;refine⟨H,by simpa using N,λo K m=>?_⟩
    rcases m with m|m
    ·exact O o j1 m
    ·omega
   ·rw[bW β _ e1] at he;obtain⟨V,k2,k3⟩:=h.βn u j e B he;refine⟨V,by simpa using k2,λo K m=>?_⟩
    rcases m with m|m
    ·exact k3 o K m
    ·obtain⟨m,_⟩:=m;subst m;exact J (h.βi u v j _ _ B L he M)
  ·obtain⟨B,J⟩:=nd hu;obtain⟨G,U⟩:=nd I;by_cases e1:u=v'
   ·by_cases e2:W=v'
    ·rw[e1,e2]
    ·subst e1;rw[bA] at he;cases he;rw[bW β _ e2] at z;exact z3a (h.βi W v b _ _ G L z M) U
   ·by_cases e2:W=v'
    ·subst e2;rw[bA] at z;cases z;rw[bW β _ e1] at he;exact z3a (h.βi u v b _ _ B L he M) J
    ·rw[bW β _ e1] at he;rw[bW β _ e2] at z;exact h.βi u W j e e' B G he z
  ·by_cases e1:u=v'
   ·subst e1;rw[bA] at he;cases he;exact h.βγ v id b r L M
   ·rw[bW β _ e1] at he;exact h.βγ u id j e (nd hu).1 he
  ·have I:s.base+4096<=u:=hu;rw[bW β _ j1]
   exact h.βf u I
  ·rcases d with d|d
   ·simpa using h.Sb j o d
   ·simpa [d.1] using N
  ·rcases d with d|d
   ·exact h.So j o d C
   ·exact z3a (d.1 ▸ C) H
 refine⟨S',_,X,?_,λ_ _ P=>.inl P,q,λu hu=>bW β _ hu⟩;simp only[AR,AC,Value.cells];refine⟨s6,hn,λx hx=>(zIa.1 hx).elim (hl x) (hl' x),some ⟨b,off,none⟩,cap,by rw[zFa],?_,λ_=>.inr ⟨b,off,rfl,?_,n,by show kW (putAt w b r g.toArray) b=some n;rw[jR y E];exact hr,R⟩⟩
 ·obtain⟨cs,V,k2⟩:=hc;refine adS (.inr rfl) (by rw[zFa];exact A) ⟨cs++g,?_,λi x hx=>?_⟩
  ·rw[cg];exact(V.append Q).mono q λ_ _ m=>.inl m
  ·have len:cs.length=l.length*e.size:=by rw[<-V.1];exact aK hn l hl
   rw[zOc] at hx;by_cases hi2:i<cs.length
   ·rw[zja hi2] at hx;obtain⟨m1,m2⟩:=k2 i x hx;exact⟨.inl m1,(q _ _ m1).trans m2⟩
   ·rw[zga hi2] at hx;have C:=(zna.1 hx).1;refine⟨.inr ⟨rfl,j1,j1⟩,?_⟩
    rw[show off+i=r+(i-cs.length) by omega,uK y E (by simpa using C)]
    simpa using hx
 ·show m8 β v' (b,r+g.length) v'=_;rw[bA,zFa,F,zdb];congr 2;omega
def tY{T T' u':TypeId}{e:Ty}(W:bL P (.sl e) T=true)(o:P.underlying T'=some (.slice u')){A:Option Addr}{len cap:Nat}{l l':List D}{r:Value}(ty:TypeId)(hlen:len=l.length)(hl:∀ x∈l,wt e x)(hl':∀ x∈l',wt e x)
  (hx:CR w S (.sl l) (.slice A len cap)) (E:CR w S (.sl l') r) (hb:l.length+l'.length<=1073741824) :
  ∃ cs i:List Value,cL w S (ad2 l) cs/\cL w S (ad2 l') i/\∃ u,
   (l.length+l'.length<=cap->(A=none->(Builtin.append_ #[T,T'] ty #[.slice A len cap,r]).run P w=.ok (.slice none (l.length+l'.length) cap) w) ∧
    (∀ b off c,A=some ⟨b,off,none⟩->bO w b=some c->off+cap*e.size<=c.size->(Builtin.append_ #[T,T'] ty #[.slice A len cap,r]).run P w=.ok (.slice A (l.length+l'.length) cap) (putAt w b (off+l.length*e.size) i.toArray))) ∧
   (cap<l.length+l'.length->∃ a rest,l.length+l'.length<=a/\(cs++i).length+rest.length=a*e.size ∧
    (Builtin.append_ #[T,T'] ty #[.slice A len cap,r]).run P w=.ok (.slice (some ⟨w.heap.size,0,none⟩) (l.length+l'.length) a) (grown w [.cells ((cs++i)++rest).toArray u] (w.drawn+1))):=by
 subst hlen;obtain⟨u,U,C⟩:=gZ W;have hn:ao e=true:=aH _ _ C;obtain⟨i0,z0,J,Y,kN,K,L,_⟩:=eG (fI C);have O:CR { w with drawn:=w.drawn+1 } S (.sl l) (.slice A l.length cap):=CR.mono (w:=w) (w':={ w with drawn:=w.drawn+1 }) (S:=S) (S':=S) (λ_ _ _=>rfl) (λ_ _ h=>h) hx;have Q:CR { w with drawn:=w.drawn+1 } S (.sl l') r:=CR.mono (w:=w) (w':={ w with drawn:=w.drawn+1 }) (S:=S) (S':=S) (λ_ _ _=>rfl) (λ_ _ h=>h) E;obtain⟨cs,c1,c2⟩:=iS (P:=P) hn hl O;obtain⟨i,d1,d2⟩:=iS (P:=P) hn hl' E;obtain⟨d,d3,d4⟩:=iS (P:=P) hn hl' Q;have len:cs.length=l.length*e.size:=by rw[<-c1.1];exact aK hn l hl
 have k:i.length=l'.length*e.size:=by rw[<-d1.1];exact aK hn l' hl'
 have m:d.length=l'.length*e.size:=by rw[<-d3.1];exact aK hn l' hl'
 have I:d=i:=by
  obtain⟨A',s,b,off,p,q1,q2,q3⟩:=E.elems;subst p;have n:=d2;have q:=d4;cases A' with
  | none=> simp only[Builtin.firstCells,zra,Result.ok.injEq] at n q;have:=n.1.symm.trans q.1;simpa using this.symm
  | some A'=>
   rcases q1 with rfl|q1
   ·simp at k m;rw[k,m]
   ·cases q1;obtain⟨F,r1,V⟩:=q3;have M:F.length=l'.length*e.size:=by rw[<-r1.1];exact aK hn l' hl'
    have f1:=run_loadCells_list (P:=P) w ⟨b,off,none⟩ F (λj v p=>by rw[db];exact(V j v p).2)
    have f2:=run_loadCells_list (P:=P) { w with drawn:=w.drawn+1 } ⟨b,off,none⟩ F (λj v p=>by rw[db];exact(V j v p).2)
    simp only[Builtin.firstCells] at n q;rw[M] at f1 f2;rw[f1] at n;rw[f2] at q;simp only[Result.ok.injEq] at n q;have:=n.1.symm.trans q.1;simpa using this.symm
 subst I;have f:(Builtin.lenOf r).run P w=.ok l'.length w:=by obtain⟨A',s,b,off,p,_⟩:=E.elems;subst p;rfl
 refine⟨cs,d,cL.mono (w:={ w with drawn:=w.drawn+1 }) (w':=w) (S:=S) (S':=S) (λ_ _ _=>rfl) (λ_ _ h=>h) c1,d1,u,λg=>⟨λG=>?_,λb off c G z Z=>?_⟩,λg=>?_⟩
 ·subst G;simp only[Builtin.append_,zoc,zMb,zhb,zla,run_underlying U,run_underlying o,zfa,bY C,zra,zLa,if_false,f,g,if_true,zqc,d2]
 ·subst G;have B:=cJ (P:=P) b (off+l.length*e.size) d 0 w c z (by
   have:(l.length+l'.length)*e.size<=cap*e.size:=zEa _ g;rw[zdb] at this;omega) (by rw[zya];intro x hx;have:=d1.nag x hx;cases x<;>simp_all [Value.oneCell',kH])
  simp only[zWb] at B;simp only[Builtin.append_,zoc,zMb,zhb,zla,run_underlying U,run_underlying o,zfa,bY C,zra,zLa,if_false,f,g,if_true,zqc,d2,db,B]
 ·have N:¬ (l.length+l'.length<=cap):=j1
  have H:¬ (Builtin.nextslicecap (l.length+l'.length) cap*i0.bytes>2^48):=by
   have h1:=Bl g;have h2:Builtin.nextslicecap (l.length+l'.length) cap*i0.bytes<=(2*1073741824+200)*16384:=z5a j1 kN.1
   omega
  have y:¬ (((l.length+l'.length:Nat):Int)>IntKind.i64.max):=by
   have:IntKind.i64.max=9223372036854775807:=j2
   omega
  let t:=w.tape w.drawn (.appendCap (l.length+l'.length) cap u)
  let a:=l.length+l'.length+t%(2^63-(l.length+l'.length))
  have R:z0.cells.size=e.size:=by have:=(cu (w:=w) (S:=S) L).1;rw[<-zFb,<-this];exact ct _ _ (cK e hn) hn
  refine⟨a,(Builtin.zeroCells z0.cells (a-(l.length+l'.length))).toList,j1,?_,?_⟩
  ·have:(Builtin.zeroCells z0.cells (a-(l.length+l'.length))).toList.length=(a-(l.length+l'.length))*e.size:=by simp[Builtin.zeroCells,R]
   rw[this,zFa,len,k,<-zdb,<-zdb];congr 1;omega
  ·have X:Question.forced (.appendCap (l.length+l'.length) cap u)=false:=rfl;simp only[Builtin.append_,zoc,zMb,zhb,zla,run_underlying U,run_underlying o,zfa,bY C,zra,zLa,if_false,f,N,zqc,if_true,typeInfo,run_program,J,false_or,y,false_and,H,run_choose,X,run_askRoom,c2,d4,zeroValue,K,newRow,run_newObj];have n:(cs++d++(Builtin.zeroCells z0.cells (a-(l.length+l'.length))).toList).toArray=cs.toArray++d.toArray++Builtin.zeroCells z0.cells (a-(l.length+l'.length)):=s6
   rw[n];simp only[grown];rw[zJd];rfl
def A2(hE:EnvOk P E)(h:Rp w0 S γ β s a w){dst args argTypes ty pos after guard}(hf:Fr E s γ β ⟨dst,.call ⟨.builtin .append,args,argTypes⟩,ty,pos,after,guard⟩)(k:∀ t∈s.lkS,dst≠some t){R:Type}{K:St->Option R}{r:R}
  (hq:rL E s ⟨dst,.call ⟨.builtin .append,args,argTypes⟩,ty,pos,after,guard⟩ K=some r):∃ s',K s'=some r/\E6 P w0 S γ β s a w ⟨dst,.call ⟨.builtin .append,args,argTypes⟩,ty,pos,after,guard⟩ s':=by
 simp only[rL] at hq;replace hq:=ab hq;obtain⟨T,hT,hq⟩:=hq;replace hq:=ab hq;obtain⟨t,m,hq⟩:=hq;replace hq:=ab hq;obtain⟨d,M,hq⟩:=hq;split at hq<;>first|(cases hq;done)|skip
 rename_i e x y T0 T' F q;split at hq<;>first|(cases hq;done)|skip
 rename_i e2 al;replace hq:=ab hq;obtain⟨l',hl',hq⟩:=hq;obtain⟨aI,hγ,hβ,_⟩:=hf rfl d M;rcases hE.lay T _ m with⟨an,H⟩|hl
 ·cases H
 rcases hE.lay T' _ al with⟨an,H⟩|N
 ·cases H
 obtain⟨u2,U,_⟩:=gZ N;have hn:=aH _ _ hl;simp only[ao] at hn;have Z:T0=T:=by
  have:argTypes=#[T0,T']:=zdc (by simpa using q)
  simp_all
 subst Z;have eT:argTypes=#[T0,T']:=zdc (by simpa using q)
 have eA:args.map a.eval=#[a.eval x,a.eval y]:=zdc (by simp[F])
 have hex:execOp a.eval ⟨dst,.call ⟨.builtin .append,args,argTypes⟩,ty,pos,after,guard⟩=(Builtin.append_ #[T0,T'] ty #[a.eval x,a.eval y] >>= λv=>pure (.value v)):=by rw[<-eA,<-eT];rfl
 obtain⟨Y,y2⟩:=jA hn (aS h y) hl';have hx:=aS h x;have own:∀ id:Nat,(dst≠some (id-s.base)\/id<s.base)->id≠s.base+d:=λid hid e=>by
  subst e;rcases hid with hid|hid
  ·simp_all
  ·omega
 split at hq<;>first|(cases hq;done)|skip
 ·
  rename_i e' v l G;rw[G] at hx;split at hq<;>first|(cases hq;done)|skip
  rename_i f;split at hq<;>first|(cases hq;done)|skip
  rename_i hlen;simp only[zaa,zCa] at f;have:=aeK _ _ f.1;subst this;have I:v ∉ s.dead:=λhh=>by simp_all
  simp only[AR,AC] at hx;obtain⟨x0,x1,x2,A,cap,C,x4,x5⟩:=hx;have C:=ar x0 C;obtain⟨cs,D,c1,c2,u,r1,r2⟩:=tY (P:=P) (w:=w) (S:=S) hl U ty rfl x2 Y x4 y2 hlen;obtain⟨p1,p2,p3,p4,p5,p6,p7⟩:=aeE { s with dead:=v::s.dead } dst (.own e' (s.base+d) (l++l'));refine⟨_,hq,p5,p6,p2,p4,λid _ _=>by rw[p1],?_⟩
  rcases zta cap (l.length+l'.length) with g|g
  ·obtain⟨j,rest,n1,n2,n3⟩:=r2 g;obtain⟨b1,b2⟩:=h.bury v;obtain⟨S',β',V,B,W,X,k5,k6⟩:=rS b1 (v:=s.base+d) hβ (by show s.base+d<s.base+4096;omega) hn (l:=l++l') (λz hz=>(zIa.1 hz).elim (x2 z) (Y z)) (cs:=cs++D) (by rw[cg];exact c1.append c2) (T:=u) (rest:=rest) (cap:=j) (w.drawn+1) (zCc _) (by rw[zFa];exact n1) n2
   rw[zFa] at B;refine .value (by rw[hex,C];simp only[zla,n3,zfa,zra]) ⟨S',γ,β',V.put B dst,⟨W,λb o f=>dD (h.Sb b o f),λt m=>bZ (k t m),λid hid b f=>⟨f,.inl (c9 (h.γn id b f).2)⟩,s6,λ_ _ f=>f,j6.same bG da.grown⟩,λid hid=>⟨rfl,X id (own id hid)⟩⟩
  ·obtain⟨r3,r4⟩:=r1 g;rcases x5 I with⟨rfl,rfl⟩|⟨b,off,rfl,L,n,O,ad⟩
   ·have z1:l=[]:=by apply zbd;omega
    have z2:l'=[]:=by simp_all
    obtain⟨b1,b2⟩:=h.bury v;subst z1;subst z2;refine .value (by rw[hex,C];simp only[zla,r3 rfl,zfa,zra];rfl) ⟨S,γ,β,b1.put (sd hn) dst,⟨λ_ _ f=>f,λ_ _ _=>rfl,λt m=>bZ (k t m),λid hid b f=>⟨f,jd.refl _ _⟩,zka _,λ_ _ f=>f,j6.same bG (da.refl _)⟩,λid hid=>⟨rfl,rfl⟩⟩
   ·obtain⟨c,p,ax⟩:=nP O;obtain⟨S',β',V,B,W,X,k5⟩:=GZ h (v':=s.base+d) hn x2 Y I L O ad g x4.at_ c2 hβ j1
    refine .value (by rw[hex,C];simp only[zla,r4 b off c rfl p j1,zfa,zra]) ⟨S',γ,β',V.put B dst,⟨W,X,λt m=>bZ (k t m),λid hid b' J=>⟨J,.inl (cE λe=>h.βγ v id b _ I L (e ▸ J))⟩,s6,λ_ _ f=>f,j6.same bG (da.putAt p)⟩,λid hid=>⟨rfl,k5 id (own id hid)⟩⟩
 ·
  rename_i G;rw[G] at hx;split at hq<;>first|(cases hq;done)|skip
  rename_i hlen;simp only[AR,AC] at hx;have C:=ar hx.1 hx.2;have Q:CR w S (.sl []) (.slice none 0 0):=.sl [] none 0 0 0 (λ_=>undef) (.inl rfl) (zka 0) (λi d M=>by simp[ad2] at M) (λi d M=>by simp[ad2] at M)
  obtain⟨cs,D,c1,c2,u,r1,r2⟩:=tY (P:=P) (w:=w) (S:=S) hl U (len:=0) ty (l:=[]) rfl (λx hx=>by simp at hx) Y Q y2 (by simpa using hlen)
  obtain⟨p1,p2,p3,p4,p5,p6,p7⟩:=aeE s dst (.own e (s.base+d) l');refine⟨_,hq,p5,p6,p2,p4,λid _ _=>by rw[p1],?_⟩
  rcases zta 0 l'.length with g|g
  ·obtain⟨j,rest,n1,n2,n3⟩:=r2 (by simpa using g)
   obtain⟨S',β',V,B,W,X,k5,k6⟩:=rS h (v:=s.base+d) hβ j1 hn (l:=[]++l') (λz hz=>Y z (by simpa using hz)) (cs:=cs++D) (by rw[cg];exact c1.append c2) (T:=u) (rest:=rest) (cap:=j) (w.drawn+1) (zCc _) (by rw[zFa];exact n1) n2
   rw[zFa] at B;rw[z0b] at B;refine .value (by rw[hex,C];simp only[zla,n3,zfa,zra]) ⟨S',γ,β',V.put B dst,⟨W,λb o f=>dD (h.Sb b o f),λt m=>bZ (k t m),λid hid b f=>⟨f,.inl (c9 (h.γn id b f).2)⟩,s6,λ_ _ f=>f,j6.same bG da.grown⟩,λid hid=>⟨rfl,X id (own id hid)⟩⟩
  ·have z2:l'=[]:=by apply zbd;omega
   subst z2;obtain⟨r3,_⟩:=r1 s6
   refine .value (by rw[hex,C];simp only[zla,r3 rfl,zfa,zra];rfl) ⟨S,γ,β,h.put (sd hn) dst,⟨λ_ _ f=>f,λ_ _ _=>rfl,λt m=>bZ (k t m),λid hid b f=>⟨f,jd.refl _ _⟩,zka _,λ_ _ f=>f,j6.same bG (da.refl _)⟩,λid hid=>⟨rfl,rfl⟩⟩
def yg{k:IntKind}{l:List D}(h:∀ x∈l,wt (.int k) x):ad2 l=l:=by
 induction l with
 | nil=>rfl
 | cons x l ih=>
  obtain⟨n,rfl⟩:∃ n,x=.int k n:=by have:=h x zwa;simpa only[wt] using this
  rw[ad2,ih λy a=>h y (zma _ a)];rfl
def Aj{x:D}{l:List D}(h:x.stl=some l):x=.st l:=by cases x<;>simp[D.stl] at h;rw[h]
def Gd(hE:EnvOk P E)(h:Rp w0 S γ β s a w){dst args argTypes ty pos after guard}(a5:∀ t∈s.lkS,dst≠some t){R:Type}{K:St->Option R}{r:R}
  (hq:rL E s ⟨dst,.call ⟨.builtin .copy,args,argTypes⟩,ty,pos,after,guard⟩ K=some r):∃ s',K s'=some r/\E6 P w0 S γ β s a w ⟨dst,.call ⟨.builtin .copy,args,argTypes⟩,ty,pos,after,guard⟩ s':=by
 simp only[rL] at hq;split at hq<;>first|(cases hq;done)|skip
 rename_i x y T0 T' T a0;split at hq<;>first|(cases hq;done)|skip
 rename_i k ht;split at hq<;>first|(cases hq;done)|skip
 rename_i e id lo n e' bm p' q n' a8 a9;split at hq<;>first|(cases hq;done)|skip
 rename_i m f g x1 o' X Q;have hx:=aS h x;have hy:=aS h y;rw[a8] at hx;rw[a9] at hy;simp only[AR,AC,if_true] at hx hy;obtain⟨x0,_,b,off,cap,x3,x4,x5⟩:=hx;obtain⟨y0,_,F,bv,bs,y3,y4,y5⟩:=hy;have x3:=ar x0 x3;have y3:=ar y0 y3;obtain⟨bp,w1,w2,rfl⟩:=y5 _ Q;have a3:=h.obs bm _ F Q y4;replace hq:=jP a3 w1 hq;obtain⟨a2,C,hq,p5,pf,_,pc⟩:=hq;split at hq<;>first|(cases hq;done)|skip
 rename_i m' f' y1;cases nv pf;split at hq<;>first|(cases hq;done)|skip
 rename_i G;simp only[zaa,zCa] at G;obtain⟨⟨⟨⟨b1,b2⟩,b3⟩,b5⟩,b7⟩:=G;have:=aeK _ _ b1;subst this;have:=aeK _ _ b2;subst this;have:=aeK _ _ b3;subst this;have:=aeK _ _ b5;subst this;replace hq:=ab hq;obtain⟨l,hl,hq⟩:=hq;replace hq:=ab hq;obtain⟨l',hl',hq⟩:=hq;have:=Aj hl;subst this;have:=Aj hl';subst this;have a6:id ∉ s.lkO:=by simp_all
 obtain⟨mm,z1,z2,rfl⟩:=x5 _ X;simp only[eC,aP,zda,Ty.arr.injEq,and_true] at z1;subst z1;have hO:=h.obs id _ b X x4;simp only[fN] at hO;obtain⟨o1,o2,o3,cs,o4,o5,o6⟩:=hO;simp only[AC] at o5 p5;obtain⟨q1,q2,q3⟩:=o5;obtain⟨r1,r2,Y⟩:=p5;simp only[wt] at q1 r1;obtain⟨_,⟨rfl⟩,q4,q5⟩:=q1;obtain⟨_,⟨rfl⟩,r4,r5⟩:=r1;simp only[D.flat] at q3 Y;rw[yg q5] at q3;rw[yg r5] at Y;obtain⟨c,hc⟩:∃ c,c=min n' n:=⟨_,rfl⟩;rw[<-hc] at hq;have bz:cs.length=m:=by rw[<-q3.1,q4]
 have bt:C.length=bp:=by rw[<-Y.1,r4]
 have eo:ci (.one (.arr m (.int k)) (.d (.arr m (.int k)) (.st l))) []+lo*(Ty.int k).size=lo:=by simp[ci,aY,Ty.size]
 obtain⟨O,a4⟩:∃ O,O=ci o' p':=⟨_,rfl⟩;rw[<-a4] at pc y3;have a1:O+q*(Ty.int k).size=O+q:=by simp[Ty.size]
 rw[eo] at x3;rw[a1] at y3;have W:(loadCells ⟨F,O+q,none⟩ c).run P w=.ok ((C.drop q).take c).toArray w:=by
  have:=run_loadCells_list (P:=P) w ⟨F,O+q,none⟩ ((C.drop q).take c) (λj v hv=>by
   have hj:j<c:=by have:=(zna.1 hv).1;simp at this;omega
   rw[zsb hj,zBb] at hv;rw[db,show O+q+j=O+(q+j) by omega]
   exact pc _ _ hv)
  rwa [show((C.drop q).take c).length=c by simp;omega] at this
 have bl:lo+((C.drop q).take c).toArray.size<=cs.toArray.size:=by simp;omega
 have ax:((C.drop q).take c).all kH=true:=by
  rw[zya];intro v hv;obtain⟨j,hj,rfl⟩:=z2a (z2b (zZa hv));have al:j<l'.length:=by rw[Y.1];exact hj
  have U:=Y.2 j l'[j] C[j] (zea al) (zea hj);obtain⟨nn,hn⟩:∃ nn,l'[j]=.int k nn:=by have:=r5 l'[j] (zWa al);simpa only[wt] using this
  rw[hn] at U;generalize C[j]=v at U;cases U;rfl
 have aI:=cJ (P:=P) b lo ((C.drop q).take c) 0 w cs.toArray o4 (by simp;omega) ax
 obtain⟨u,hu,a7⟩:=gZ (ii hE ht (by rfl))
 have bj:=bY a7 w;have eT:argTypes=#[T0,T']:=zdc (by simpa using a0)
 have eA:args.map a.eval=#[a.eval x,a.eval y]:=zdc (by simp[T])
 have hex:execOp a.eval ⟨dst,.call ⟨.builtin .copy,args,argTypes⟩,ty,pos,after,guard⟩=(Builtin.copy_ #[T0,T'] ty #[a.eval x,a.eval y] >>= λv=>pure (.value v)):=by rw[<-eA,<-eT];rfl
 have an:cL w S (l.take lo++((l'.drop q).take c++l.drop (lo+c))) (cs.take lo++((C.drop q).take c++cs.drop (lo+c))):=by
  have part:∀ {A:List D} {B:List Value} (i:Nat),cL w S A B->cL w S (A.take i) (B.take i)/\cL w S (A.drop i) (B.drop i):=λ{A B} i J=>by
   have e:A=A.take i++A.drop i:=(zua i A).symm;have N:=J;rw[e] at N;obtain⟨k1,k2⟩:=N.split;rw[zjb,<-e] at *;rcases Nat.le_total i A.length with H|H
   ·rw[zkb H] at k1 k2;exact⟨k1,k2⟩
   ·rw[zhc H,zhc (by rw[<-J.1];exact H),zic H,zic (by rw[<-J.1];exact H)]
    exact⟨J,cL.nil⟩
  exact(part lo q3).1.append ((part c (part q Y).2).1.append (part (lo+c) q3).2)
 have I:wt (.arr m (.int k)) (.st (l.take lo++((l'.drop q).take c++l.drop (lo+c)))):=by
  simp only[wt];refine⟨_,rfl,by simp;omega,λz M=>?_⟩
  rcases zIa.1 M with M|M
  ·exact q5 z (zZa M)
  rcases zIa.1 M with M|M
  ·exact r5 z (z2b (zZa M))
  ·exact q5 z (z2b M)
 have V:(D.st (l.take lo++((l'.drop q).take c++l.drop (lo+c)))).flat=l.take lo++((l'.drop q).take c++l.drop (lo+c)):=by simp only[D.flat];simp only[wt] at I;obtain⟨_,⟨rfl⟩,_,t3⟩:=I;exact yg t3
 have ad:∀ F o,S F o->F≠b:=λF o G e=>o3 o (e ▸ G);have L:dW cs.toArray lo ((C.drop q).take c).toArray=(cs.take lo++((C.drop q).take c++cs.drop (lo+c))).toArray:=by
  have e:cs=cs.take lo++((cs.drop lo).take c++(cs.drop lo).drop c):=by rw[zua,zua]
  have e2:(cs.take lo).length=lo:=by rw[zjb];omega
  conv=>lhs;rw[e]
  rw[zLd];have:=gU (cs.take lo) ((cs.drop lo).take c) (cs.drop (lo+c)) ((C.drop q).take c) (by simp;omega)
  rw[e2] at this;exact this
 obtain⟨n1,n2⟩:=h.write (o':=.one (.arr m (.int k)) (.d (.arr m (.int k)) (.st (l.take lo++((l'.drop q).take c++l.drop (lo+c)))))) X x4 o3 o4 bl (λp=>⟨rfl,rfl⟩) (λt l e=>by cases e) (λ_ _ _ e=>by cases e) (by
  simp only[fN];refine⟨o1,o2,o3,cs.take lo++((C.drop q).take c++cs.drop (lo+c)),by rw[gv o4,L],?_,by simp[Ty.size] at *;omega⟩
  simp only[AC];refine⟨I,q2,?_⟩;rw[V];exact an.mono (λF o G=>cd (ad F o G)) λ_ _ hh=>hh)
 obtain⟨f1,f2,f3,f4,f5,f6,f7⟩:=aeE (s.setOb id (some (.one (.arr m (.int k)) (.d (.arr m (.int k)) (.st (l.take lo++((l'.drop q).take c++l.drop (lo+c)))))))) dst (.d (.int .i64) (.int .i64 (c:Nat)));refine⟨_,hq,f5,f6,f2,f4,λi H _=>?_,.value (v:=.int .i64 (c:Nat)) (w':=putAt w b lo ((C.drop q).take c).toArray) ?_ ⟨S,γ,β,n1.put (cz _ _) dst,?_,λ_ _=>⟨rfl,rfl⟩⟩⟩
 ·rw[f1];simp only[St.setOb];rw[zga];intro e;subst e;rw[x4] at H;cases H
 ·rw[hex,x3,y3];simp only[zWb] at aI;have e1:Nat.min n' n=c:=hc.symm;simp[Builtin.copy_,run_underlying hu,Builtin.lenOf,Builtin.firstCells,zla,bj,e1,Ty.size,W,aI,goInt]
 ·exact⟨λ_ _ G=>G,λF o G=>cd (ad F o G),λt ht=>bZ (a5 t ht),λi H F Z=>⟨Z,.inl (cE λe=>a6 ((h.γi id i b x4 (e ▸ Z)) ▸ H))⟩,s6,λ_ _ G=>G,j6.same bG (da.putAt (by first|assumption))⟩
def A3(f:EnvOk P E)(h:Rp w0 S γ β s a w){o:Oper}(g:Fr E s γ β o)(hT:∀ T t,(o.op=.alloc T\/∃ x,o.op=.box T x)->E.L T=some t->ao t=true)(d:∀ t∈s.lkS,o.dst≠some t)(j:∀ T x y,o.op=.store T x y->o.dst=none){R:Type}{K:St->Option R}{r:R}
  (hq:rL E s o K=some r):∃ s',K s'=some r/\E6 P w0 S γ β s a w o s':=by
 have quiet:qv E s o (λv=>K (s.put o.dst v))=some r->∃ s',K s'=some r/\E6 P w0 S γ β s a w o s':=λhq=>vo f h g (λT t e=>hT T t (.inl e)) d hq;obtain⟨dst,op,ty,pos,after,guard⟩:=o;cases op
 case store T x y=>exact DS f h d (j T x y rfl) hq
 case box T x=>exact KE f h g d (λt=>hT T t (.inr ⟨x,rfl⟩)) hq
 case makeSlice T x y=>
  cases x
  case tmp i=>exact uL f h g d hq
  all_goals exact quiet hq
 case makeMap T x=>exact yV f h g d hq
 case mapUpdate T x y z=>exact uM f h hq
 case call c=>
  obtain⟨callee,args,argTypes⟩:=c;cases callee
  case builtin b=>
   cases b
   case append=>exact A2 f h g d hq
   case copy=>exact Gd f h d hq
   all_goals exact quiet hq
  all_goals exact quiet hq
 all_goals exact quiet hq
end
def ld{α β R:Type}{x:Option α}{f:α->Option R}{g:α->Option β}{K:β->Option R}(h:∀ a,f a=(g a).bind K):x.bind f=(x.bind g).bind K:=by
 cases x with
 | none=>rfl
 | some a=>exact h a
def zd{R:Type}:∀ (p:List Nat) (a:AV) (K:AV->Option R),xh a p K=(xh a p some).bind K:=by
 intro p
 induction p with
 | nil=>intro a K;cases a<;>rfl
 | cons i p ih=>
  intro a K;cases a<;>simp only[xh]<;>first
   | rfl
   | exact ld λt=>ld λy=>rfl
   | exact ld λb=>ih b K
def nN{R:Type}(o:Ob)(p:List Nat)(K:AV->Option R):fZ o p K=(fZ o p some).bind K:=by
 cases o with
 | one t v=>exact zd p v K
 | many t l=>
  cases p with
  | nil=>rfl
  | cons i p=>exact ld λx=>zd p _ K
 | mp a vt l=>rfl
 | lp i q=>rfl
 | fv v=>rfl
def zW{R β:Type}{o:Ob}{p:List Nat}{f:AV->Option R}{g:AV->Option β}{K:β->Option R}(h:∀ v,f v=(g v).bind K):fZ o p f=(fZ o p g).bind K:=by
 rw[nN,nN _ _ g];cases fZ o p some with
 | none=>rfl
 | some v=>exact h v
def F8{α R:Type}{c:Bool}{A A':Option R}{B B':Option α}{K:α->Option R}(h:A=B.bind K)(a:A'=B'.bind K):(bif c then A else A')=(bif c then B else B').bind K:=by all_goals grind
def Ew{R:Type}{y:D}{i:Nat}{a:List Ty}{L:List AV->AV}{K:AV->Option R}:(kJ y i a λr=>K (L r))=(kJ y i a λr=>some (L r)).bind K:=by rw[jQ,jQ a i (λr=>some (L r))];cases kJ y i a some<;>rfl
def Hb{R:Type}(E:Env)(s:St)(o:Oper)(K:AV->Option R):qv E s o K=(qv E s o some).bind K:=by obtain⟨dst,op,ty,pos,after,guard⟩:=o;cases op<;>simp only[qv]<;>(repeat' first|rfl|exact nN _ _ _|exact Ew|refine zW λ_=>?_|refine ld λ_=>?_|refine F8 ?_ ?_|split)
structure Wk(s s':St):Prop where
 tm:∀ t,s'.tm t=s.tm t\/s'.tm t=.undef
 ob:s'.ob=s.ob
 fresh:s'.fresh=s.fresh
 dead:s'.dead=s.dead
 nt:s'.nt=s.nt
 lkS:s'.lkS=s.lkS
 lkO:s'.lkO=s.lkO
def Wk.refl(s:St):Wk s s:=⟨λ_=>.inl rfl,rfl,rfl,rfl,rfl,rfl,rfl⟩
theorem Wk.trans{a b c:St}(h:Wk a b)(k:Wk b c):Wk a c:=
 ⟨λt=>by
  rcases k.tm t with e|e
  ·rw[e];exact h.tm t
  ·exact .inr e,k.ob.trans h.ob,k.fresh.trans h.fresh,k.dead.trans h.dead,k.nt.trans h.nt,k.lkS.trans h.lkS,k.lkO.trans h.lkO⟩
theorem Wk.put{s s':St}(h:Wk s s')(d:Option Nat){v v':AV}(a:v'=v\/v'=.undef):Wk (s.put d v) (s'.put d v'):=by
 cases d with
 | none=>exact h
 | some d=>
  simp only[St.put,h.nt];split
  ·refine⟨λt=>?_,h.ob,h.fresh,h.dead,by first|exact h.nt|rfl,h.lkS,h.lkO⟩
   by_cases e:t=d
   ·simp_all
   ·simp only[e,if_false];exact h.tm t
  ·exact h
def Wk.kill(s:St)(d:Option Nat):Wk s (s.put d .undef):=by
 cases d with
 | none=>exact Wk.refl s
 | some d=>
  simp only[St.put];split
  ·refine⟨λt=>?_,rfl,rfl,rfl,rfl,rfl,rfl⟩;all_goals grind
  ·exact Wk.refl s
theorem Wk.killD:∀ (l:List Oper) (s:St),Wk s (killD s l)
 | [],s=>Wk.refl s
 | o::l,s=>(Wk.kill s o.dst).trans (Wk.killD l _)
theorem Wk.opA{s s':St}(h:Wk s s')(x:Operand):s'.opA x=s.opA x\/s'.opA x=.undef:=by
 cases x with
 | tmp t=>exact h.tm t
 | const v=>exact .inl rfl
 | global g=>exact .inl rfl
 | func f=>exact .inl rfl
theorem iw{ob:Nat->Option Ob}{t:Ty}:adR ob t .undef=none:=by cases t<;>rfl
def Rp.wk{w0:Root}{S:Nat->Nat->Prop}{γ:Nat->Option Nat}{β:Nat->Option (Nat×Nat)}{s s':St}{a:Act}{w:World}(h:Rp w0 S γ β s a w)(k:Wk s s'):Rp w0 S γ β s' a w:=by
 have d:=k.ob;have b:=k.dead;have g:s'.base=s.base:=by simp only[St.base,k.fresh]
 refine⟨h.ext,λt c=>?_,h.nt.trans k.nt.symm,λt c=>?_,?_,h.γn,h.γi,?_,?_,?_,?_,?_,h.Sb,h.So⟩
 ·rw[d,b];rcases k.tm t with e|e
  ·rw[e];exact h.tms t c
  ·rw[e];simp[AR]
 ·rcases k.tm t with e|e
  ·rw[e];exact h.tmu t (k.nt ▸ c)
  ·exact e
 ·rw[d,b];exact h.obs
 ·rw[g];exact h.γf
 ·rw[b];exact h.βn
 ·rw[b];exact h.βi
 ·rw[b];exact h.βγ
 ·rw[g];exact h.βf
section
variable{E:Env}{s s':St}
theorem Wk.toDl(h:Wk s s'):∀ (l:List Operand) (a:List Ty) {xs:List D},AV.toDl s'.ob a (l.map s'.opA)=some xs->AV.toDl s.ob a (l.map s.opA)=some xs
 | [],a,xs,hx=>by grind [AV.toDl]
 | y::l,a,xs,hx=>by
  cases a<;>simp only[znb,AV.toDl] at hx ⊢<;>first|(cases hx;done)|skip
  obtain⟨x,h1,b⟩:=ab hx;obtain⟨f,c,d⟩:=ab b;rcases h.opA y with e|e
  ·rw[e,h.ob] at h1;rw[h1,zba,h.toDl l _ c];exact d
  ·simp_all [iw]
theorem Wk.partsD(h:Wk s s')(ty:Nat->Option Ty):∀ (l:List (Nat×Operand)) {xs:List (Nat×D)},Sy.partsD s'.ob s' ty l=some xs->Sy.partsD s.ob s ty l=some xs
 | [],xs,hx=>hx
 | (i,y)::l,xs,hx=>by
  simp only[Sy.partsD] at hx ⊢;obtain⟨t,h0,hx⟩:=ab hx;obtain⟨x,h1,a⟩:=ab hx;obtain⟨d,b,c⟩:=ab a;rw[h0,zba];rcases h.opA y with e|e
  ·rw[e,h.ob] at h1;rw[h1,zba,h.partsD ty l b];exact c
  ·simp_all [iw]
theorem Wk.asList(h:Wk s s'){e:Ty}{x:Operand}{l:List D}(hx:(s'.opA x).asList s'.ob e=some l):s'.opA x=s.opA x:=by
 rcases h.opA x with k|k
 ·exact k
 ·simp_all [AV.asList,iw]
theorem Wk.isD(h:Wk s s'){x:Operand}{p:Ty×D}(hx:Sy.isD (s'.opA x)=some p):s'.opA x=s.opA x:=by
 rcases h.opA x with k|k
 ·exact k
 ·simp_all [Sy.isD]
theorem Wk.truth(h:Wk s s'){x:Operand}{b:Bool}(hx:(s'.opA x).truth=some b):s'.opA x=s.opA x:=by
 rcases h.opA x with k|k
 ·exact k
 ·simp_all [AV.truth]
end
end Sy
end
end Go.Proofs.YtmnkibhalflchaaGreat
