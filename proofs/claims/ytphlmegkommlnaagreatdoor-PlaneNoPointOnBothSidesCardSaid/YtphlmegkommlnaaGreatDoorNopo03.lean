/- Part 3 of the proof that PlaneNoPointOnBothSides answers true at every input -/
import Derived.Test.YtphlmegkommlnaaGreatDoorNopo02
import Derived.MapKept
import Derived.IntWalk
set_option linter.unusedVariables false
set_option linter.unusedSimpArgs false
set_option linter.unnecessarySimpa false
set_option linter.defProp false
set_option maxRecDepth 20000
namespace Go.Proofs.YtphlmegkommlnaaGreatDoor
noncomputable section
namespace Sy
open Go
mutual
theorem He:∀ (x y:D),D.beq x y=true->x=y
 | .int k n,y,h=>by cases y<;>simp_all [D.beq]
 | .bool b,y,h=>by cases y<;>simp_all [D.beq]
 | .str b,y,h=>by cases y<;>simp_all [D.beq]
 | .st l,y,h=>by
  cases y<;>simp only[D.beq] at h<;>first|(cases h;done)|skip
  rw[DL _ _ h]
 | .sl l,y,h=>by cases y<;>simp[D.beq] at h
 | .tup l,y,h=>by cases y<;>simp[D.beq] at h
theorem DL:∀ (l l':List D),D.beqs l l'=true->l=l'
 | [],l',h=>by cases l'<;>simp_all [D.beqs]
 | x::l,l',h=>by
  cases l' with
  | nil=>simp[D.beqs] at h
  | cons y l'=>
   simp only[D.beqs,zaa] at h;rw[He _ _ h.1,DL _ _ h.2]
end
section
variable{P:Program}{E:Env}{w0:Root}{S:Nat->Nat->Prop}{γ:Nat->Option Nat}{β:Nat->Option (Nat×Nat)}{s:St}{a:Act}{w:World}
theorem oR{α:Type}(g:α->PUnit->Sem (ForInStep PUnit)){w:World}:∀ (l:List α),(∀ x∈l,(g x ⟨⟩).run P w=.ok (.yield ⟨⟩) w)->(forIn l PUnit.unit g).run P w=.ok ⟨⟩ w
 | [],_=>rfl
 | x::l,h=>by
  simp only[List.forIn_cons,zha,h x zoa,zea];exact oR g l λy a=>h y (zia _ a)
def lz{w:World}{b n:Nat}{es:Array MapEntry}(h:w.heap[b]?=some (.map es n)):(getObj b).run P w=.ok (.map es n) w:=by simp[getObj,Sem.run,h]
mutual
theorem jR:∀ (ty:Ty) (T:TypeId) (x:D) (cx:List Value) (vx:Value) (n:Nat) (e:Bool),bK P ty T=true->bU ty=true->ty.high<=n->wt ty x->df w S x.flat cx->gG ty cx vx->∀ w',(Instr.checkKey e n T vx).run P w'=.ok () w'
 | .int k,T,x,cx,vx,n,e,hl,_,hd,hx,rx,ix,w'=>by
  simp only[wt] at hx;obtain⟨m,rfl⟩:=hx;obtain⟨c1,rfl,r1⟩:=rx.single';rw[fq ix rfl,r1.int_inv];obtain⟨n,rfl⟩:∃ e,n=e+1:=⟨n-1,by simp only[Ty.high] at hd;omega⟩
  simp only[Instr.checkKey,zha,run_underlying (jV hl),zea,zna]
 | .bool,T,x,cx,vx,n,e,hl,_,hd,hx,rx,ix,w'=>by
  simp only[wt] at hx;obtain⟨m,rfl⟩:=hx;obtain⟨c1,rfl,r1⟩:=rx.single';rw[fq ix rfl,r1.bool_inv];obtain⟨n,rfl⟩:∃ e,n=e+1:=⟨n-1,by simp only[Ty.high] at hd;omega⟩
  have hu:P.underlying T=some .bool:=by
   simp only[bK,zaa] at hl;all_goals grind
  simp only[Instr.checkKey,zha,run_underlying hu,zea,zna]
 | .st ts,T,x,cx,vx,n,e,hl,hc,hd,hx,rx,ix,w'=>by
  simp only[wt] at hx;obtain⟨l,rfl,hx⟩:=hx;rw[jc ix rfl];obtain⟨fs,h1,h2⟩:=jq hl;simp only[Ty.high] at hd;obtain⟨n,rfl⟩:∃ e,n=e+1:=⟨n-1,by omega⟩
  simp only[bU] at hc;simp only[D.flat] at rx;simp only[Instr.checkKey,zha,run_underlying h1,zea];rw[<-Array.forIn_toList,oR (P:=P) (w:=w')]
  ·rfl
  ·intro f hf;have key:=mA ts fs.toList 0 l [] cx cx.toArray n e h2 hc (by omega) hx rx rfl rfl w' f hf
   by_cases hn : f.name ≠ "_"
   ·rw[if_pos hn] at key ⊢;simp only[zha] at key ⊢;cases hp:(part f.type cx.toArray f.offset).run P w' with
    | ok v w2=>
     rw[hp] at key;simp only[zea] at key ⊢;rw[key];rfl
    | _=>rw[hp] at key;simp[Result.andThen] at key
   ·rw[if_neg hn];rfl
 | .arr m t,T,x,cx,vx,n,e,hl,hc,hd,hx,rx,ix,w'=>by
  simp only[wt] at hx;obtain⟨l,rfl,hxl,hx⟩:=hx;rw[jc ix rfl];obtain⟨u,h1,h2⟩:=eN hl;simp only[Ty.high] at hd;obtain⟨n,rfl⟩:∃ e,n=e+1:=⟨n-1,by omega⟩
  simp only[bU] at hc;simp only[D.flat] at rx;have hn:=aJ _ _ h2;simp only[Instr.checkKey,zha,run_underlying h1,zea];rw[Std.Legacy.Range.forIn_eq_forIn_range',oR (P:=P) (w:=w')]
  ·rfl
  ·intro j hj;have hjn:j<m:=by simp at hj;omega
   have e1:l[j]?=some (l.getD j (.bool false)):=by simp[List.getD,zca (hxl ▸ hjn)]
   generalize l.getD j (.bool false)=dx at *;have wx:=hx dx (z4a e1);have rx':=rx;rw[cr e1] at rx';obtain⟨p1,p2⟩:=rx'.split;obtain⟨p3,p4⟩:=p2.split;have o1:(cx.take (D.flats (l.take j)).length).length=j*t.size:=by
    rw[<-p1.1,aF hn _ (λx hx'=>hx x (zJa hx')),zgb,zwb (by omega)]
   obtain⟨v1,r1,i1⟩:=iu h2 (cs:=cx.toArray) (pre:=cx.take (D.flats (l.take j)).length) (mid:=(cx.drop (D.flats (l.take j)).length).take dx.flat.length) (post:=(cx.drop (D.flats (l.take j)).length).drop dx.flat.length)
     (by simp only[zqa]) (by rw[<-p3.1];exact cF _ _ wx hn) p3.nag w'
   rw[o1] at r1;have r3:=jR t u dx _ v1 n e h2 hc (by omega) wx p3 i1 w'
   simp only[zha,cm h2,zea,r1,r3,zna]
 | .str,_,_,_,_,_,_,_,hc,_,_,_,_,_=>by simp[bU] at hc
 | .sl _,_,_,_,_,_,_,_,hc,_,_,_,_,_=>by simp[bU] at hc
 | .tup _,_,_,_,_,_,_,_,hc,_,_,_,_,_=>by simp[bU] at hc
 | .fn,_,_,_,_,_,_,_,hc,_,_,_,_,_=>by simp[bU] at hc
theorem mA:∀ (ts:List Ty) (fs:List Field) (off:Nat) (l:List D) (px cx:List Value) (xs:Array Value) (n:Nat) (e:Bool),gq P ts fs off=true->mB ts=true->Ty.highs ts<=n->fI ts l->df w S (D.flats l) cx ->
  xs.toList = px ++ cx -> px.length = off -> ∀ w', ∀ f ∈ fs, (if f.name ≠ "_" then (part f.type xs f.offset >>= λv => Instr.checkKey e n f.type v) else pure ()).run P w' = .ok () w'
 | [],fs,off,l,px,cx,xs,n,e,hf,_,_,_,_,_,_,w'=>by
  all_goals grind [gq]
 | t::ts,[],off,l,px,cx,xs,n,e,hf,_,_,_,_,_,_,w'=>by simp[gq] at hf
 | t::ts,f::fs,off,l,px,cx,xs,n,e,hf,hc,hd,hx,rx,ex,lx,w'=>by
  simp only[gq,zaa,decide_eq_true_eq] at hf;obtain⟨⟨⟨⟨h1,h2⟩,h3⟩,h4⟩,h5⟩:=hf;simp only[fI] at hx;obtain⟨dx,l,rfl,hx1,hx2⟩:=hx;simp only[D.flats] at rx;obtain⟨p3,p4⟩:=rx.split;have hn:=aJ _ _ h4;simp only[mB,zaa] at hc;simp only[Ty.highs] at hd;obtain⟨v1,r1,i1⟩:=iu h4 (cs:=xs) (pre:=px) (mid:=cx.take dx.flat.length) (post:=cx.drop dx.flat.length) (by rw[ex,zqa]) (by rw[<-p3.1];exact cF _ _ hx1 hn) p3.nag w'
  rw[lx,<-h1] at r1;have r3:=jR t f.type dx _ v1 n e h4 hc.1 (by omega) hx1 p3 i1 w'
  have hs1:(cx.take dx.flat.length).length=t.size:=by rw[<-p3.1];exact cF _ _ hx1 hn
  have ih:=mA ts fs (off+t.size) l (px++cx.take dx.flat.length) (cx.drop dx.flat.length) xs n e h5 hc.2 (by omega) hx2 p4
   (by rw[zIa,zqa];exact ex) (by rw[zua,lx,hs1]) w'
  intro g hg;rcases zwa.1 hg with rfl|hg
  ·rw[if_pos h2,zha,r1,zea,r3]
  ·exact ih g hg
end
def Cb:List D->D->List MapEntry->Nat->Option (Nat×Value)
 | .st [k,_]::l,x,e::es,i=>if D.beq x k then some (i,e.val) else Cb l x es (i+1)
 | _,_,_,_=>none
theorem uM{c:Cx}{g vt:Ty}{T:TypeId}{x:D}{o:Value}(hl:bK P g T=true)(hc:bU g=true)(hx:wt g x)(rx:gD c.w c.S x o){desc:TypeDesc}(hu:P.underlying T=some desc):∀ (l:List D) (es:List MapEntry) (j i:Nat) (r:Option (Nat×Value)),jf c g vt j l es->Instr.findNow desc o es i=some r->r=Cb l x es i
 | [],[],j,i,r,_,h=>by simp only[Instr.findNow,zda] at h;rw[<-h];rfl
 | [],_::_,j,i,r,h,_=>h.elim
 | _::_,[],j,i,r,h,_=>h.elim
 | y::l,e::es,j,i,r,h,f=>by
  simp only[jf] at h;obtain⟨⟨_,k,v,rfl,hk,z,p,A⟩,q⟩:=h;simp only[Instr.findNow] at f;have key:∀ b,Instr.sameNow desc o e.key=some b->b=D.beq x k:=by
   intro b a;cases g<;>simp only[wt] at hx hk
   case int kk=>
    obtain⟨n,rfl⟩:=hx;obtain⟨m,rfl⟩:=hk;rw[rx.int_inv,p.int_inv] at a;rw[jV hl] at hu;cases hu;simp only[Instr.sameNow,if_true,zda] at a;rw[<-a];simp[D.beq];rfl
   case bool=>
    obtain⟨n,rfl⟩:=hx;obtain⟨m,rfl⟩:=hk;rw[rx.bool_inv,p.bool_inv] at a;simp only[bK,zaa] at hl;have d:=hl.2;rw[hu] at d;cases desc<;>simp at d;simp only[Instr.sameNow,zda] at a;rw[<-a];rfl
   case st ts=>
    obtain⟨s,d,_⟩:=jq hl;rw[hu] at d;cases d;simp[Instr.sameNow] at a
   case arr m t=>
    obtain⟨u,d,_⟩:=eN hl;rw[hu] at d;cases d;simp[Instr.sameNow] at a
   all_goals simp[bU] at hc
  cases hs:Instr.sameNow desc o e.key with
  | none=>rw[hs] at f;simp at f
  | some b=>
   rw[hs] at f;have:=key b hs;subst this;cases a:D.beq x k
   ·rw[a] at f;simp only at f;have:=uM hl hc hx rx hu l es (j+1) (i+1) r q f;grind [Cb,Bool.false_eq_true]
   ·grind [Option.some.injEq,Cb]
theorem oz{c:Cx}{a vt:Ty}{T:TypeId}{x:D}{b:Value}(hl:bK P a T=true)(hc:bU a=true)(g:a.high<=1000)(hx:wt a x)(rx:gD c.w c.S x b)(w':World):∀ (l:List D) (es:List MapEntry) (j i:Nat),jf c a vt j l es->(Instr.findAsking T b es i).run P w'=.ok (Cb l x es i) w'
 | [],[],j,i,_=>rfl
 | [],_::_,j,i,h=>h.elim
 | _::_,[],j,i,h=>h.elim
 | y::l,e::es,j,i,h=>by
  simp only[jf] at h;obtain⟨⟨_,k,v,rfl,hk,n,d,o⟩,f⟩:=h;have hn:=aJ _ _ hl;have i1:gG a b.cells.toList b:=⟨rfl,po hx hn rx.1⟩;have i2:gG a e.key.cells.toList e.key:=⟨rfl,po hk hn d.1⟩;have m:=pO a T x k _ _ _ _ 10000 hl hc (by omega) hx hk rx.2 d.2 i1 i2 w'
  simp only[Instr.findAsking,Op.equal,Op.maxDepth,zha,m,zea,Cb];cases D.beq x k
  ·simp only[zxa,if_false];exact oz hl hc g hx rx w' l es (j+1) (i+1) f
  ·simp
def uL{c:Cx}{a vt:Ty}{T:TypeId}{x:D}{e:Value}(hl:bK P a T=true)(hc:bU a=true)(f:a.high<=1000)(hx:wt a x)(rx:gD c.w c.S x e)(w':World){l:List D}{es:List MapEntry}{j:Nat}(h:jf c a vt j l es) :
  (Instr.findKey T e es).run P w'=.ok (Cb l x es 0) w':=by
 have hu:∃ d,P.underlying T=some d:=by
  cases a<;>simp only[bU] at hc<;>first|(cases hc;done)|skip
  ·exact⟨_,jV hl⟩
  ·simp only[bK,zaa] at hl;have b:=hl.2;split at b
   ·rename_i hu;exact⟨_,hu⟩
   ·cases b
  ·obtain⟨i,h1,_⟩:=jq hl;exact⟨_,h1⟩
  ·obtain⟨u,h1,_⟩:=eN hl;exact⟨_,h1⟩
 obtain⟨d,hu⟩:=hu;simp only[Instr.findKey,zha,run_underlying hu,zea];split
 ·rename_i r g;rw[uM hl hc hx rx hu l es j 0 r h g];rfl
 ·exact oz hl hc f hx rx w' l es j 0 h
theorem D6{c:Cx}{b vt:Ty}{x:D}:∀ (l:List D) (es:List MapEntry) (j i:Nat),jf c b vt j l es ->
  match Cb l x es i with
  | none=>D.mget l x=none
  | some (_,v)=>∃ d,D.mget l x=some d/\wt vt d/\gD c.w c.S d v
 | [],[],j,i,_=>rfl
 | [],_::_,j,i,h=>h.elim
 | _::_,[],j,i,h=>h.elim
 | y::l,e::es,j,i,h=>by
  simp only[jf] at h;obtain⟨⟨_,k,v,rfl,hk,f,g,m⟩,a⟩:=h;simp only[Cb,D.mget];cases hb:D.beq x k
  ·simp only[zxa,if_false];exact D6 l es (j+1) (i+1) a
  ·simp_all
def F6(hE:EnvOk P E)(h:Rp w0 S γ β s a w){dst T x i cok ty pos after guard}:jK P E w0 S γ β s a w ⟨dst,.lookup T x i cok,ty,pos,after,guard⟩:=by
 intro R K r hq;simp only[qv] at hq;replace hq:=bind_some_inv hq;obtain⟨kv,Q,hq⟩:=hq;obtain⟨ad,ai⟩:=kv;have hx:=aX h x;generalize s.opA x=ax at *;cases ax<;>(try simp only at hq)<;>first|(cases hq;done)|skip
 rename_i kt vt id;split at hq<;>first|(cases hq;done)|skip
 rename_i L;simp only[zaa] at L;have G:=Ty.eq_of_beq _ _ L.1;have H:=Ty.eq_of_beq _ _ L.2;subst G;subst H;split at hq<;>first|(cases hq;done)|skip
 rename_i A c l U;split at hq<;>first|(cases hq;done)|skip
 rename_i j;simp only[zaa] at j;have G:=Ty.eq_of_beq _ _ j.1;have H:=Ty.eq_of_beq _ _ j.2;subst G;subst H;replace hq:=bind_some_inv hq;obtain⟨m,O,hq⟩:=hq;split at hq<;>first|(cases hq;done)|skip
 rename_i M;have hi:=aX h i;rw[eM O,Ty.eq_of_beq _ _ M] at hi;obtain⟨hc,KT,VT,hu,k,q,hh⟩:=hE.mapL T _ _ Q;have t:=aJ _ _ k;have f:=aJ _ _ q;obtain⟨X,Y⟩:=Ai hi t;simp only[AR,AC] at hx;obtain⟨na,b,N,hγ,_,_,_⟩:=hx;have hv:=au na N;have hO:=h.obs id _ b U hγ;simp only[gl] at hO;obtain⟨_,_,_,es,o,Z⟩:=hO;have i1:gG A (a.eval i).cells.toList (a.eval i):=⟨rfl,po X t Y.1⟩;have rc:=jR (S:=S) (w:=w) A KT m.2 _ _ 10000 es.isEmpty k hc (by omega) X Y.2 i1 w
 have F:=uL (P:=P) k hc hh X Y w Z;have rg:=D6 (x:=m.2) l es.toList 0 0 Z;obtain⟨z,V,W,y⟩:=jJ q;have g:wt c (av c)/\gD w S (av c) z:=by
  have wz:=db c f;refine⟨wz,?_⟩;have I:AC ⟨w,S,γ,β,s.ob,s.dead⟩ (.d c (av c)) z.cells.toList:=by simp only[AC];exact⟨wz,f,cJ W⟩
  have iv:gG c z.cells.toList z:=⟨rfl,λJ=>(y.2 J),λJ xs e=>by have:=y.1 ⟨xs,e⟩;rw[J] at this;cases this⟩
  exact(Ai (wN (bT _ _) I iv) f).2
 have run:∃ v d,(D.mget l m.2).getD (av c)=d/\wt c d/\gD w S d v/\(execOp a.eval ⟨dst,.lookup T x i cok,ty,pos,after,guard⟩).run P w=.ok (.value (if cok then .tuple #[v,.bool (D.mget l m.2).isSome] else v)) w:=by
  have hex:(execOp a.eval ⟨dst,.lookup T x i cok,ty,pos,after,guard⟩)=(Instr.lookup T (a.eval x) (a.eval i) cok >>= λv=>pure (.value v)):=rfl;rw[hex,hv];cases hf:Cb l m.2 es.toList 0 with
  | none=>
   rw[hf] at rg F;simp only at rg;refine⟨z,av c,by rw[rg];rfl,g.1,g.2,?_⟩
   simp only[Instr.lookup,zha,run_underlying hu,zea,lz o,zna,rc,F,V,rg];rfl
  | some p=>
   obtain⟨n,v⟩:=p;rw[hf] at rg F;simp only at rg;obtain⟨d,g1,g2,g3⟩:=rg;refine⟨v,d,by rw[g1];rfl,g2,g3,?_⟩
   simp only[Instr.lookup,zha,run_underlying hu,zea,lz o,zna,rc,F,g1];rfl
 obtain⟨v,d,r1,r2,r3,C⟩:=run;rw[r1] at hq;cases cok with
 | false=>
  simp only at hq;simp only[zxa,if_false] at C;exact⟨_,hq,.value C (Qp.same h (dT f r2 r3) _)⟩
 | true=>
  simp only at hq;simp only[if_true] at C;refine⟨_,hq,.value C (Qp.same h ?_ _)⟩;simp only[AR];refine .inr ⟨_,rfl,by simp[bw,f,aq],?_,?_⟩
  ·simp only[wt,fI];exact⟨_,rfl,d,_,rfl,r2,_,_,rfl,⟨_,rfl⟩,rfl⟩
  ·refine⟨[v,.bool (D.mget l m.2).isSome],rfl,rfl,λi dd u h1 B=>?_⟩;rcases i with _|_|i
   ·simp at h1 B;subst h1;subst B;exact r3
   ·simp at h1 B;subst h1;subst B;exact gD.of_CR (.bool _)
   ·simp at h1
end
end Sy
end
noncomputable section
namespace Sy
open Go
section
variable{P:Program}{E:Env}{w0:Root}{S:Nat->Nat->Prop}{γ:Nat->Option Nat}{β:Nat->Option (Nat×Nat)}{s:St}{a:Act}{w:World}
def IM(G:EnvOk P E)(h:Rp w0 S γ β s a w){dst T ty pos after guard}(p:Fr E s γ β ⟨dst,.alloc T,ty,pos,after,guard⟩)(hT:∀ t,E.L T=some t->aq t=true):jK P E w0 S γ β s a w ⟨dst,.alloc T,ty,pos,after,guard⟩:=by
 intro R K r hq;simp only[qv] at hq;replace hq:=bind_some_inv hq;obtain⟨t,m,hq⟩:=hq;replace hq:=bind_some_inv hq;obtain⟨d,H,hq⟩:=hq;obtain⟨I,y,N,j⟩:=p rfl d H;cases hfn:E.fnT T with
 | true=>
  have j:=j T (.fv .undef) rfl (by simp[Env.alOb,hfn])
  have e:t=.fn:=by simp only[Env.alTy,hfn,cond_true,zda] at m;exact m.symm
  subst e;obtain⟨i,z,M,_,_,J,_,q⟩:=D5 (G.fnT T hfn);have C:∀ w,(zeroValue T).run P w=.ok z w:=by simp_all [zeroValue,typeInfo]
  obtain⟨h1,D⟩:=h.grow (os:=[.cells z.cells T]) (d:=w.drawn) (zfa _) (S':=S) (λ_ _ g=>g) (λ_ _ g=>.inl g);have l:¬ w0.Old w.heap.size:=λc=>by have:=c.1;have:=h.ext.sz;omega
  obtain⟨A,F⟩:=h1.newOb (id:=s.base+d) (b:=w.heap.size) y l (by simp) (λid hid=>by have:=(h.γn id _ hid).2;omega) (λu f hu p=>by have:=(h.βn u _ _ hu p).2.1;omega) (by omega)
   (λo c=>by
    rw[j] at c;cases c;simp only[gl];exact⟨λo c=>by have:=h.Sb _ _ c;omega,z,by rw[<-rj q];exact nM,by simp only[fQ],q⟩)
  refine⟨_,hq,.value (v:=.pointer (some ⟨w.heap.size,0,none⟩)) (w':=grown w [.cells z.cells T] w.drawn) (by
   rw[<-dS];simp only[execOp,Instr.alloc,newVar,newRow,zha,C,zea,run_newObj,zna];rfl) ⟨S,_,β,A,gI (bG _ _ _) (λo c=>?_),λ_ _ g=>g,⟨_,_,rfl⟩,λid b g=>fi y g,λid hid=>⟨ce _ _ λB=>?_,rfl⟩⟩⟩
  ·have k:s.ob (s.base+d)=some o:=c;rw[j] at k;cases k;exact⟨rfl,rfl⟩
  ·subst B;rcases hid with hid|hid
   ·simp_all
   ·omega
 | false=>
 simp only[Env.alTy,hfn,cond_false] at m;have j:=j T (.one t (kX t)) rfl (by simp[Env.alOb,hfn,m])
 have hn:=hT t m;have hl:=jU G m hn;obtain⟨z,C,x,_⟩:=jJ hl;obtain⟨h1,D⟩:=h.grow (os:=[.cells z.cells T]) (d:=w.drawn) (zfa _) (S':=S) (λ_ _ g=>g) (λ_ _ g=>.inl g);have l:¬ w0.Old w.heap.size:=λc=>by have:=c.1;have:=h.ext.sz;omega
 have hlen:z.cells.toList.length=t.size:=by
  rw[<-(cJ (w:=w) (S:=S) x).1];exact cF _ _ (db t hn) hn
 obtain⟨A,F⟩:=h1.newOb (id:=s.base+d) (b:=w.heap.size) y l (by simp) (λid hid=>by have:=(h.γn id _ hid).2;omega) (λu f hu p=>by have:=(h.βn u _ _ hu p).2.1;omega) (by omega)
  (λo c=>by
   rw[j] at c;cases c;simp only[gl];exact⟨hn,wh t hn,λo c=>by have:=h.Sb _ _ c;omega,z.cells.toList,by rw[zic];exact nM,B7 t _ hn x,hlen⟩)
 refine⟨_,hq,.value (v:=.pointer (some ⟨w.heap.size,0,none⟩)) (w':=grown w [.cells z.cells T] w.drawn) (by
  rw[<-dS];simp only[execOp,Instr.alloc,newVar,newRow,zha,C,zea,run_newObj,zna];rfl) ⟨S,_,β,A,gI (bG _ _ _) (λo c=>?_),λ_ _ g=>g,⟨_,_,rfl⟩,λid b g=>fi y g,λid hid=>⟨ce _ _ λB=>?_,rfl⟩⟩⟩
 ·have k:s.ob (s.base+d)=some o:=c;have:o=.one t (kX t):=by simp_all
  subst this;exact⟨by cases t<;>rfl,by cases t<;>rfl⟩
 ·subst B;rcases hid with hid|hid
  ·simp_all
  ·omega
def Ci{c:Cx}{e:Ty}{y:AV}{v:Value}{l:List D}{ob:Nat->Option Ob}(hn:aq e=true)(h:AR c y v)(hl:y.asList ob e=some l):∃ a cap,v=.slice a l.length cap:=by
 obtain⟨_,d⟩:=kl hn h hl;obtain⟨a,cap,b,off,f,_⟩:=d.elems
 simp_all
def zG{T:TypeId}{e:Ty}(hl:bK P (.sl e) T=true){A:Option Addr}{len cap lo a:Nat}{c b:Option Value}(h1:lo<=a)(m:a<=len)(n:len<=cap)
  (f:(c=none/\lo=0)\/∃ k,c=some (.int k lo)) (d:(b=none/\a=len)\/∃ k,b=some (.int k a)) (w:World) :
  (Instr.sliceAt T (.slice A len cap) c b none).run P w=.ok (.slice (if cap=lo then A else A.map (·.add (lo*e.size))) (a-lo) (cap-lo)) w:=by
 obtain⟨u,h,i⟩:=jp hl;have j:(0:Int)<=(a:Int)/\(a:Int)<=(cap:Int):=by omega
 have l:(0:Int)<=(lo:Int)/\(lo:Int)<=(a:Int):=by omega
 have g:(Instr.sliceBounds true len cap c b none).run P w=.ok (lo,a,cap) w:=by
  rcases f with⟨rfl,rfl⟩|⟨k,rfl⟩<;>rcases d with⟨rfl,rfl⟩|⟨o,rfl⟩ <;>
   simp_all [Instr.sliceBounds,Instr.sliceBound,asIntOf,pure_bind,zha,zna]
 simp only[Instr.sliceAt,zha,run_underlying h,zea,Instr.slice,g,cm i,zna]
def tD{T:TypeId}{m:Nat}{e:Ty}(hl:bK P (.arr m e) T=true){b off lo a:Nat}{d c:Option Value}(h1:lo<=a)(p:a<=m)(q:lo<m)
  (g:(d=none/\lo=0)\/∃ k,d=some (.int k lo)) (f:(c=none/\a=m)\/∃ k,c=some (.int k a)) (w:World) :
  (Instr.sliceAt T (.pointer (some ⟨b,off,none⟩)) d c none).run P w=.ok (.slice (some ⟨b,off+lo*e.size,none⟩) (a-lo) (m-lo)) w:=by
 obtain⟨u,j,l⟩:=eN hl;have n:(0:Int)<=(a:Int)/\(a:Int)<=(m:Int):=by omega
 have o:(0:Int)<=(lo:Int)/\(lo:Int)<=(a:Int):=by omega
 have h:¬ m=lo:=by omega
 have i:(Instr.sliceBounds false m m d c none).run P w=.ok (lo,a,m) w:=by
  rcases g with⟨rfl,rfl⟩|⟨k,rfl⟩<;>rcases f with⟨rfl,rfl⟩|⟨r,rfl⟩ <;>
   simp_all [Instr.sliceBounds,Instr.sliceBound,asIntOf,pure_bind,zha,zna]
 simp only[Instr.sliceAt,zha,run_underlying j,zea,lO,i,cm l,zna,h,if_false,dA]
def N5{w:World}{S:Nat->Nat->Prop}{e:Ty}{l:List D}{v:Value}{lo a:Nat}(hn:aq e=true)(hw:∀ x∈l,wt e x)(h:CR w S (.sl l) v)(h1:lo<=a)(g:a<=l.length) :
  ∃ A cap,v=.slice A l.length cap/\l.length<=cap/\CR w S (.sl ((l.take a).drop lo)) (.slice (if cap=lo then A else A.map (·.add (lo*e.size))) (a-lo) (cap-lo)):=by
 obtain⟨A,cap,b,off,j,k,m,c⟩:=h.elems;refine⟨A,cap,j,m,?_⟩;have hlen:((l.take a).drop lo).length=a-lo:=by simp;omega
 rw[<-hlen];have f:l=l.take lo++((l.take a).drop lo++l.drop a):=by
  rw[<-zIa,show l.take lo=(l.take a).take lo by rw[List.take_take,zwb h1],zqa,zqa]
 rw[f,cl,cl] at c;have d:=c.part;rw[aF hn _ (λx hx=>hw x (zJa hx)),zgb,zwb (by omega)] at d
 refine CR.of_elems (b:=b) (off:=off+lo*e.size) ?_ (by rw[hlen];omega) d
 by_cases he:(l.take a).drop lo=[]
 ·exact .inl he
 ·right;have i:0<a-lo:=by rw[<-hlen];exact List.length_pos_iff.2 he
  rw[if_neg (by omega)]
  rcases k with rfl|rfl
  ·simp at g;omega
  ·simp only[zvb,dA]
def IT(L:EnvOk P E)(h:Rp w0 S γ β s a w){dst T x lo C mx ty pos after guard}:jK P E w0 S γ β s a w ⟨dst,.slice T x lo C mx,ty,pos,after,guard⟩:=by
 intro R K r hq;simp only[qv] at hq;split at hq<;>first|(cases hq;done)|skip
 replace hq:=bind_some_inv hq;obtain⟨t,M,hq⟩:=hq;have num:∀ {i:Operand} {n:Nat},((isD (s.opA i)).bind λa=>a.2.natOf)=some n->∃ k,a.eval i=.int k n:=by
  intro i n Q;obtain⟨p,h1,N⟩:=bind_some_inv Q;obtain⟨Y,O⟩:=xU N;have J:=aX h i;rw[eM h1,O] at J;exact⟨Y,(fE J).1⟩
 cases t<;>(try simp only at hq)<;>first|(cases hq;done)|skip
 case arr m e=>
  rcases L.lay T _ M with⟨I,u⟩|hl
  ·cases u
  have hn:=aJ _ _ hl;simp only[aq] at hn;have hx:=aX h x;generalize s.opA x=y at *;cases y<;>(try simp only at hq)<;>first|(cases hq;done)|skip
  rename_i t' id p;split at hq<;>first|(cases hq;done)|skip
  rename_i z;have:=Ty.eq_of_beq _ _ z;subst this;replace hq:=bind_some_inv hq;obtain⟨c,G,hq⟩:=hq;replace hq:=bind_some_inv hq;obtain⟨d,F,hq⟩:=hq;split at hq<;>first|(cases hq;done)|skip
  rename_i o;obtain⟨b,off,H,Z,U⟩:=lc hx;have g:((lo.map a.eval)=none/\c=0)\/∃ k,(lo.map a.eval)=some (.int k c):=by
   all_goals grind
  have f:((C.map a.eval)=none/\d=m)\/∃ k,(C.map a.eval)=some (.int k d):=by
   all_goals grind
  have j:=tD hl (b:=b) (off:=off) o.1 o.2.1 o.2.2 g f w;refine⟨_,hq,.value (v:=.slice (some ⟨b,off+c*e.size,none⟩) (d-c) (m-c)) (w':=w) (by simp only[execOp,Option.map_none,H,zha,j,zea,zna]) (Qp.same h ?_ _)⟩
  simp only[AR,AC,Value.cells];grind
 rename_i e;rcases L.lay T _ M with⟨I,u⟩|hl
 ·cases u
 have hn:=aJ _ _ hl;simp only[aq] at hn;replace hq:=bind_some_inv hq;obtain⟨l,q,hq⟩:=hq;replace hq:=bind_some_inv hq;obtain⟨c,G,hq⟩:=hq;replace hq:=bind_some_inv hq;obtain⟨d,F,hq⟩:=hq;replace hq:=bind_some_inv hq;obtain⟨l',hl',hq⟩:=hq;simp only[D.cut] at hl';split at hl'<;>first|(cases hl';done)|skip
 rename_i z;simp only[zda] at hl';subst hl';obtain⟨V,W⟩:=kl hn (aX h x) q;obtain⟨A,cap,H,B,X⟩:=N5 hn V W z.1 z.2;have g:((lo.map a.eval)=none/\c=0)\/∃ k,(lo.map a.eval)=some (.int k c):=by
  all_goals grind
 have f:((C.map a.eval)=none/\d=l.length)\/∃ k,(C.map a.eval)=some (.int k d):=by
  all_goals grind
 have j:=zG hl (A:=A) (len:=l.length) (cap:=cap) z.1 z.2 B g f w;have hw:wt (.sl e) (.sl ((l.take d).drop c)):=by grind [wt]
 exact⟨_,hq,.value (w':=w) (by simp only[execOp,Option.map_none,H,zha,j,zea,zna]) (Qp.same h (dT (by simpa [aq] using hn) hw (gD.of_CR X)) _)⟩
def MC(F:EnvOk P E)(h:Rp w0 S γ β s a w){dst T x ty pos after guard}:jK P E w0 S γ β s a w ⟨dst,.sliceToArrayPointer T x,ty,pos,after,guard⟩:=by
 intro R K r hq;simp only[qv] at hq;replace hq:=bind_some_inv hq;obtain⟨t,G,hq⟩:=hq;have hx:=aX h x;generalize s.opA x=y at *;cases t<;>(try simp only at hq)<;>first|(cases hq;done)|skip
 rename_i n e;have plain:(y.asList s.ob e).bind (λl=>if decide (1<=n)&&decide (n<=l.length) then K (.fptr (.arr n e) (.st (l.take n))) else none)=some r ->
   ∃ v,K v=some r/\eP P ⟨dst,.sliceToArrayPointer T x,ty,pos,after,guard⟩ a w (Qp w0 S γ β s a w dst v):=λhq=>by
  replace hq:=bind_some_inv hq;obtain⟨l,o,hq⟩:=hq;split at hq<;>first|(cases hq;done)|skip
  rename_i g;simp only[zaa,decide_eq_true_eq] at g;rcases F.lay T _ G with⟨C,d⟩|hl
  ·cases d
  obtain⟨u,hu,q⟩:=eN hl;have hn:=aJ _ _ q;obtain⟨M,N⟩:=kl hn hx o;obtain⟨A,cap,b,off,B,H,_,f⟩:=N.elems;have i:A=some ⟨b,off,none⟩:=H.resolve_left λh0=>by subst h0;simp at g;omega
  subst i;have c:¬ l.length<n:=by omega
  refine⟨_,hq,.value (v:=.pointer (some ⟨b,off,none⟩)) (w':=w) (by simp only[execOp,B,Instr.arrayAt,zha,run_underlying hu,zea,c,if_false,zna]) (Qp.same h ?_ _)⟩
  simp only[AR,AC,Value.cells];refine⟨by simp,by simp only[wt];exact⟨_,rfl,by simp;omega,λx hx=>M x (zJa hx)⟩,by simpa only[aq] using hn,b,off,rfl,?_⟩
  have e:D.flats l=[]++(D.flats (l.take n)++D.flats (l.drop n)):=by rw[zcc,<-cl,zqa]
  rw[e] at f;simpa [D.flat] using f.part
 cases y<;>(try simp only at hq)<;>first|exact plain hq|skip
 rename_i sl Q id p lo O;split at hq<;>first|(cases hq;done)|skip
 rename_i g;simp only[zaa,decide_eq_true_eq] at g;obtain⟨⟨j,k⟩,I⟩:=g;subst j;have:=Ty.eq_of_beq _ _ k;subst this;rcases F.lay T _ G with⟨C,d⟩|hl
 ·cases d
 obtain⟨u,hu,_⟩:=eN hl;simp only[AR,AC,if_true] at hx;obtain⟨z,J,b,off,cap,m,U,L⟩:=hx;have B:=au z m;have c:¬ O<n:=by omega
 refine⟨_,hq,.value (v:=.pointer (some ⟨b,off,none⟩)) (w':=w) (by simp only[execOp,B,Instr.arrayAt,zha,run_underlying hu,zea,c,if_false,zna]) (Qp.same h ?_ _)⟩
 grind [AR,AC,Value.cells]
theorem sn(h:Rp w0 S γ β s a w):∀ (b:List Ty) (l:List Operand) (xs:List D),bw b=true->AV.toDl s.ob b (l.map s.opA)=some xs ->
  fI b xs/\(l.map a.eval).length=xs.length/\∀ (i:Nat) (x:D) (v:Value),xs[i]?=some x->(l.map a.eval)[i]?=some v->gD w S x v
 | b,[],xs,_,hx=>by
  all_goals grind [AV.toDl,Option.some.injEq,fI]
 | b,y::l,xs,hn,hx=>by
  cases b<;>simp only[z9a,AV.toDl] at hx<;>first|(cases hx;done)|skip
  rename_i t b;obtain⟨x,h1,g⟩:=bind_some_inv hx;obtain⟨f,j,e⟩:=bind_some_inv g;simp only[zda] at e;subst e;simp only[bw,zaa] at hn;obtain⟨k,m⟩:=oG hn.1 (aX h y) h1;obtain⟨n,o,p⟩:=sn h b l f hn.2 j;refine⟨by simp only[fI];exact⟨x,f,rfl,k,n⟩,by simpa using o,λi z v d c=>?_⟩
  cases i with
  | zero=>simp at d c;subst d;subst c;exact m
  | succ i=>simp only[zjb,z9a] at d c;exact p i z v d c
theorem xW:∀ {l:List Nat} {i j x:Nat},dI l=true->l[i]?=some x->l[j]?=some x->i=j
 | [],_,_,_,_,h,_=>by simp at h
 | a::l,i,j,x,h,b,c=>by
  simp only[dI,zaa,zCa] at h;have hn:∀ k,l[k]?≠some a:=λk hk=>by
   have:l.contains a=true:=by rw[List.contains_iff_mem];exact z4a hk
   simp_all
  cases i with
  | zero=>
   all_goals grind
  | succ i=>
   cases j with
   | zero=>simp at b c;subst c;exact absurd b (hn i)
   | succ j=>simp at b c;rw[xW h.2 b c]
theorem wg:∀ {b us:List Ty} {xs a:List D},fI b xs->fI us a->fI (b++us) (xs++a)
 | [],us,xs,a,h,k=>by simp_all [fI]
 | t::b,us,xs,a,h,k=>by
  simp only[fI] at h;obtain⟨d,l,rfl,h1,c⟩:=h;simp only[zqb,fI];exact⟨d,l++a,rfl,h1,wg c k⟩
theorem Az(h:Rp w0 S γ β s a w):∀ (j:List Ty) (l:List AV) (f:List D) (caps:List Value),pE s.ob j l=some f->og ⟨w,S,γ,β,s.ob,s.dead⟩ l caps ->
  ∃ e:List Nat,caps=e.map FY/\fI j f/\e.length=f.length/\l.length=e.length/\(∀ (i b:Nat),e[i]?=some b->∃ id:Nat,(uk l)[i]?=some id/\γ id=some b)/\∀ (i:Nat) (x:D) (b:Nat),f[i]?=some x->e[i]?=some b->N6 w S x b
 | [],l,f,caps,c,hc=>by
  cases l with
  | nil=>
   simp only[pE,zda] at c;subst c;simp only[og] at hc;subst hc;exact⟨[],rfl,by simp only[fI],rfl,rfl,λi b h=>by simp at h,λi x b h=>by simp at h⟩
  | cons x l=>simp[pE] at c
 | t::j,l,f,caps,c,hc=>by
  cases l with
  | nil=>simp[pE] at c
  | cons x l=>
   cases x<;>first|(simp[pE] at c;done)|skip
   rename_i u id p;cases p<;>first|(simp[pE] at c;done)|skip
   simp only[pE] at c;split at c<;>first|(cases c;done)|skip
   rename_i Q v q;split at c<;>first|(cases c;done)|skip
   rename_i E;have:=Ty.eq_of_beq _ _ E;subst this;obtain⟨z,h1,c⟩:=bind_some_inv c;obtain⟨g,C,c⟩:=bind_some_inv c;cases c;simp only[og] at hc;obtain⟨v',c2,rfl,r,H⟩:=hc;obtain⟨e,rfl,L,M,N,O,P⟩:=Az h j l g c2 C H;simp only[AC] at r;obtain⟨b,off,n,o,y⟩:=r;obtain⟨_,A⟩:=y _ q;have B:off=0:=A;subst B;have hO:=h.obs id _ b q o;simp only[gl] at hO;obtain⟨_,_,I,cs,J,K,_⟩:=hO;obtain⟨t1,t2,_⟩:=sj _ _ _ _ h1 K;refine⟨b::e,by simp only[List.cons.injEq,and_true] at n;rw[n];rfl,by simp only[fI];exact⟨z,g,rfl,t1,L⟩,by simp[M],by simp[N],λi k d=>?_,λi x k hx d=>?_⟩
   ·cases i with
    | zero=>simp at d;subst d;exact⟨id,rfl,o⟩
    | succ i=>simp only[zjb] at d;obtain⟨m,F,G⟩:=O i k d;exact⟨m,by simpa [uk] using F,G⟩
   ·cases i with
    | zero=>simp at hx d;subst hx;subst d;exact⟨I,cs,J,t2⟩
    | succ i=>simp only[zjb] at hx d;exact P i x k hx d
def wS (h : Rp w0 S γ β s a w) {o : Oper} {f : FuncId} {rty : Ty} {y : D} (n2 : aq rty = true \/ ∃ ts, rty = .tup ts /\ bw ts = true) {fn : Func} (f1 : P.funcs[f]? = some fn) (f2 : (fn.name == "runtime.NumGoroutine") = false) (f3 : fn.body.isSome = true)
  (vs:List Value) (hx:(execOp a.eval o).run P w=.ok (.enter f vs.toArray) w)
  (hc:Calls P f vs.toArray w λe w'=>∃ v,e=.returned v/\(∃ os d,w.drawn<=d/\w'=grown w os d)/\wt rty y/\DR w' (λb o=>S b o\/(w.heap.size<=b/\b<w'.heap.size)) y v) :
  eP P o a w (Qp w0 S γ β s a w o.dst (.d rty y)):=by
 refine .enter (f:=f) (args:=vs.toArray) (w':=w) hx (hc.mono λe w' ⟨v,he,⟨os,d,hdr0,hw'⟩,hwt,hdr⟩=>⟨v,he,?_⟩);subst hw';obtain⟨h1,le1⟩:=h.grow (os:=os) (d:=d) hdr0 (S':=λb o=>S b o\/(w.heap.size<=b/\b<(grown w os d).heap.size)) (λ_ _ hb=>.inl hb) (λ_ _ hb=>hb);refine⟨_,γ,β,h1,?_,λ_ _ hb=>.inl hb,⟨os,d,rfl⟩,λ_ _ hb=>hb,λ_ _=>⟨rfl,rfl⟩⟩;simp only[AR];rcases n2 with n2|⟨ts,rfl,n2⟩
 ·refine .inl ⟨n2,hwt,?_⟩;cases rty<;>simp only[wt] at hwt<;>first
   | (obtain⟨m,rfl⟩:=hwt;exact hdr)
   | (obtain⟨m,rfl,_⟩:=hwt;exact hdr)
   | (exact hwt.elim)
   | (simp[aq] at n2)
 ·simp_all
def Hw(h:Rp w0 S γ β s a w){o:Oper}{f:FuncId}{t:Ty}{l:List D}{d:Nat}(Q:o.dst=some d)(F:d<4096)(J:β (s.base+d)=none){fn:Func}(f1:P.funcs[f]?=some fn){c:List Ty}{xs:List D}
  (vs:List Value) (hx:(execOp a.eval o).run P w=.ok (.enter f vs.toArray) w) (hc:GK P c t f xs l) (K:fI c xs) (L:vs.length=xs.length) (M:∀ (i:Nat) (x:D) (v:Value),xs[i]?=some x->vs[i]?=some v->gD w S x v) :
  eP P o a w (Qp w0 S γ β s a w o.dst (.own t (s.base+d) l)):=by
 refine .enter (f:=f) (args:=vs.toArray) (w':=w) hx ((hc w S vs h.Sb K L M).mono λe w' ⟨A,cap,he,⟨os,dr,j,y⟩,m,p,S',s1,s2,g,C⟩=>⟨_,he,?_⟩);subst y;obtain⟨h1,N⟩:=h.grow (os:=os) (d:=dr) j (S':=S') s1 s2;rcases C with⟨rfl,rfl⟩|⟨b,off,rfl,⟨E,r⟩,hn,k⟩
 ·refine⟨S',γ,β,h1,?_,s1,⟨os,dr,rfl⟩,λ_ _ q=>q,λ_ _=>⟨rfl,rfl⟩⟩;simp only[AR,AC,Value.cells];exact⟨by simp,m,p,none,0,rfl,g,λ_=>.inl ⟨rfl,rfl⟩⟩
 ·have z:¬ w0.Old b:=λI=>by have:=I.1;have:=h.ext.sz;omega
  obtain⟨B,O⟩:=h1.newTok (v:=s.base+d) (b:=b) (e:=off+l.length*t.size) J z r (λid hid=>by have:=(h.γn id _ hid).2;omega) (λu f hu G=>by have:=(h.βn u _ _ hu G).2.1;omega) (by omega) k
  refine⟨S',γ,pn β (s.base+d) (b,off+l.length*t.size),B,?_,s1,⟨os,dr,rfl⟩,λ_ _ q=>q,λid hid=>⟨rfl,ce β _ λH=>?_⟩⟩
  ·simp only[AR,AC,Value.cells];exact⟨by simp,m,p,_,cap,rfl,g,λ_=>.inr ⟨b,off,rfl,by simp[bG],hn⟩⟩
  ·subst H;rcases hid with hid|hid
   ·simp_all
   ·omega
def MD(hE:EnvOk P E)(h:Rp w0 S γ β s a w){dst c ty pos after guard}(hf:Fr E s γ β ⟨dst,.call c,ty,pos,after,guard⟩):jK P E w0 S γ β s a w ⟨dst,.call c,ty,pos,after,guard⟩:=by
 intro R K r hq;obtain⟨callee,args,argTypes⟩:=c;simp only[qv] at hq;split at hq<;>first|(cases hq;done)|skip
 case h_1=>
  replace hq:=bind_some_inv hq;obtain⟨T,hT,hq⟩:=hq;replace hq:=bind_some_inv hq;obtain⟨t,ht,hq⟩:=hq;replace hq:=bind_some_inv hq;obtain⟨x,hx,hq⟩:=hq;have hx':(args.map a.eval)[0]?=some (a.eval x):=by simp[hx]
  have hex:execOp a.eval ⟨dst,.call ⟨.builtin .len,args,argTypes⟩,ty,pos,after,guard⟩=(Builtin.len_ argTypes ty (args.map a.eval) >>= λv=>pure (.value v)):=rfl;cases t<;>(try simp only at hq)<;>first|(cases hq;done)|skip
  case sl e=>
   rcases hE.lay T _ ht with⟨ts',hts⟩|hl
   ·cases hts
   have hn:=aJ _ _ hl;simp only[aq] at hn;obtain⟨u,k1,_⟩:=jp hl;have run:∀ {A:Option Addr} {n cap:Nat},a.eval x=.slice A n cap->(execOp a.eval ⟨dst,.call ⟨.builtin .len,args,argTypes⟩,ty,pos,after,guard⟩).run P w=.ok (.value (.int .i64 n)) w:=by
    simp_all [Builtin.len_,run_underlying,k1,goInt]
   by_cases hm:∃ t' id,s.opA x=.mem t' id
   ·obtain⟨t',id,hm⟩:=hm;have hx2:=aX h x;rw[hm] at hq hx2;simp only at hq;split at hq<;>first|(cases hq;done)|skip
    split at hq<;>first|(cases hq;done)|skip
    rename_i u' l hob;obtain⟨_,b,hγ,hob2⟩:=GH hx2;obtain⟨l',e1,hv⟩:=hob2 _ hob;cases e1;exact⟨_,hq,.value (run hv) (Qp.same h (cR _ _) _)⟩
   ·have hq':((s.opA x).asList s.ob e).bind (λl=>K (.d (.int .i64) (.int .i64 l.length)))=some r:=by
     simp_all
    obtain⟨l,h1,hq⟩:=bind_some_inv hq';obtain⟨A,cap,hv⟩:=Ci hn (aX h x) h1;exact⟨_,hq,.value (run hv) (Qp.same h (cR _ _) _)⟩
  case arr n e=>
   rcases hE.lay T _ ht with⟨ts',hts⟩|hl
   ·cases hts
   obtain⟨u,k1,_⟩:=eN hl;exact⟨_,hq,.value (v:=.int .i64 n) (w':=w) (by rw[hex];simp[Builtin.len_,hT,hx',run_underlying k1,goInt]) (Qp.same h (cR _ _) _)⟩
  case str=>
   rcases hE.lay T _ ht with⟨ts',hts⟩|hl
   ·cases hts
   replace hq:=bind_some_inv hq;obtain⟨p,hp,hq⟩:=hq;split at hq<;>first|(cases hq;done)|skip
   rename_i hb;replace hq:=bind_some_inv hq;obtain⟨z,hz,hq⟩:=hq;have hx2:=aX h x;rw[eM hp] at hx2;obtain⟨t',x'⟩:=p;have e:=Ty.eq_of_beq _ _ hb;simp only at e;subst e;obtain⟨k1,k2⟩:=Ai hx2 rfl;simp only[wt] at k1;obtain⟨sb,rfl⟩:=k1;simp only[D.slen,zda] at hz;subst hz;have hsv:a.eval x=.string sb:=by
    obtain⟨c1,c2⟩:=k2;obtain⟨c,e,h⟩:=df.single' c2;have:=au c1 e;rw[this];cases h;rfl
   have hu:P.underlying T=some .string:=by
    simp only[bK,zaa] at hl;all_goals grind
   exact⟨_,hq,.value (v:=.int .i64 sb.size) (w':=w) (by rw[hex];simp[Builtin.len_,hT,hx',run_underlying hu,hsv,goInt]) (Qp.same h (cR _ _) _)⟩
 case h_2=>
  split at hq<;>first|(cases hq;done)|skip
  rename_i x y he;have he':(args.map a.eval).toList=[a.eval x,a.eval y]:=by simp[he]
  replace hq:=bind_some_inv hq;obtain⟨p,hp,hq⟩:=hq;replace hq:=bind_some_inv hq;obtain⟨q,hqq,hq⟩:=hq;split at hq<;>first|(cases hq;done)|skip
  replace hq:=bind_some_inv hq;obtain⟨z,hz,hq⟩:=hq;have h1:=aX h x;have h2:=aX h y;rw[eM hp] at h1;rw[eM hqq] at h2;cases hp2:p.2<;>rw[hp2] at hz h1<;>cases hq2:q.2<;>rw[hq2] at hz h2<;>simp only[D.min2] at hz<;>first|(cases hz;done)|skip
  rename_i k n k' m;simp only[zda] at hz;subst hz;obtain⟨v1,t1⟩:=fE h1;obtain⟨v2,_⟩:=fE h2;have hex:execOp a.eval ⟨dst,.call ⟨.builtin .min,args,argTypes⟩,ty,pos,after,guard⟩=(Builtin.min_ argTypes ty (args.map a.eval) >>= λv=>pure (.value v)):=rfl;refine⟨_,hq,.value (v:=.int k (if m<n then m else n)) (w':=w) ?_ (Qp.same h (by rw[t1];exact cR _ _) _)⟩
  simp_all [Builtin.min_,v1,v2,Builtin.min2]
 case h_3=>
  split at hq<;>first|(cases hq;done)|skip
  rename_i x y he;have he':(args.map a.eval).toList=[a.eval x,a.eval y]:=by simp[he]
  replace hq:=bind_some_inv hq;obtain⟨p,hp,hq⟩:=hq;replace hq:=bind_some_inv hq;obtain⟨q,hqq,hq⟩:=hq;split at hq<;>first|(cases hq;done)|skip
  replace hq:=bind_some_inv hq;obtain⟨z,hz,hq⟩:=hq;have h1:=aX h x;have h2:=aX h y;rw[eM hp] at h1;rw[eM hqq] at h2;cases hp2:p.2<;>rw[hp2] at hz h1<;>cases hq2:q.2<;>rw[hq2] at hz h2<;>simp only[D.max2] at hz<;>first|(cases hz;done)|skip
  rename_i k n k' m;simp only[zda] at hz;subst hz;obtain⟨v1,t1⟩:=fE h1;obtain⟨v2,_⟩:=fE h2;have hex:execOp a.eval ⟨dst,.call ⟨.builtin .max,args,argTypes⟩,ty,pos,after,guard⟩=(Builtin.max_ argTypes ty (args.map a.eval) >>= λv=>pure (.value v)):=rfl;refine⟨_,hq,.value (v:=.int k (if m>n then m else n)) (w':=w) ?_ (Qp.same h (by rw[t1];exact cR _ _) _)⟩
  simp_all [Builtin.max_,v1,v2,Builtin.max2]
 case h_4 f=>
  replace hq:=bind_some_inv hq;obtain⟨g,hg,hq⟩:=hq;cases hfr:Nat.beq (E.free f) 0 with
  | false=>rw[hfr] at hq;cases hq
  | true=>
  rw[hfr] at hq;replace hq:=bind_some_inv hq;obtain⟨xs,hxs,hq⟩:=hq;replace hq:=bind_some_inv hq;obtain⟨y,hy,hq⟩:=hq;obtain⟨ptys,rty⟩:=g;obtain⟨n1,n2,fn,f1,f2,f3⟩:=hE.sig f ptys rty hg;obtain⟨k1,k2,k3⟩:=sn h ptys args.toList xs n1 hxs;obtain⟨hc,hc2⟩:=hE.call f ptys rty xs y hg hy k1;rw[zuc hfr] at hc;have hrun:(execOp a.eval ⟨dst,.call ⟨.value (.func f),args,argTypes⟩,ty,pos,after,guard⟩).run P w=.ok (.enter f (args.toList.map a.eval).toArray) w:=by
   have hm:args.map a.eval=(args.toList.map a.eval).toArray:=zpc (by simp)
   have f2' : ¬ fn.name = "runtime.NumGoroutine" := by simpa using f2
   have hb':¬ fn.body=none:=by grind
   simp[execOp,resolve,Act.eval,Deferred.ofValue,invoke,callFunc,f1,f2',hb',hm]
  cases how:E.ownF f with
  | true=>
   rw[how] at hq;simp only[cond_true] at hq;obtain⟨t,l,rfl,rfl,hc3⟩:=hc2 how;replace hq:=bind_some_inv hq;obtain⟨d,hd,hq⟩:=hq;replace hq:=bind_some_inv hq;obtain⟨l',hl',hq⟩:=hq;cases hl';obtain⟨hd4,_,hβ,_⟩:=hf rfl d hd;exact⟨_,hq,Hw h hd hd4 hβ f1 (args.toList.map a.eval) hrun hc3 k1 k2 k3⟩
  | false=>
   rw[how] at hq;exact⟨_,hq,wS h n2 f1 f2 f3 (args.toList.map a.eval) hrun (hc w S (args.toList.map a.eval) h.Sb k1 k2 k3)⟩
 case h_5 t=>
  split at hq<;>first|(cases hq;done)|skip
  rename_i f l ht;replace hq:=bind_some_inv hq;obtain⟨g,hg,hq⟩:=hq;cases hfr:(Nat.beq (E.free f) l.length&&dI (uk l)) with
  | false=>rw[hfr] at hq;cases hq
  | true=>
  rw[hfr] at hq;simp only[zaa] at hfr;obtain⟨hfr,hnd⟩:=hfr;have hfr:=zuc hfr;replace hq:=bind_some_inv hq;obtain⟨xs,hxs,hq⟩:=hq;replace hq:=bind_some_inv hq;obtain⟨zs,hzs,hq⟩:=hq;replace hq:=bind_some_inv hq;obtain⟨y,hy,hq⟩:=hq;obtain⟨ptys,rty⟩:=g;obtain⟨n1,n2,fn,f1,f2,f3⟩:=hE.sig f ptys rty hg;obtain⟨k1,k2,k3⟩:=sn h _ args.toList xs (io _ n1) hxs;have hA:=aX h (.tmp t);have hA':AR ⟨w,S,γ,β,s.ob,s.dead⟩ (.clo f l) (a.eval (.tmp t)):=by rw[<-ht];exact hA
  simp only[AR,AC] at hA';obtain⟨na,caps,hcs,hcap⟩:=hA';have hv:=au na hcs;obtain⟨bs,rfl,q1,q2,q3,q4,q5⟩:=Az h _ l zs caps hzs hcap;have hwt:fI ptys (xs++zs):=by
   have:=wg k1 q1
   rwa [zqa] at this
  have hc:=(hE.call f ptys rty (xs++zs) y hg hy hwt).1;have hx:(execOp a.eval ⟨dst,.call ⟨.value (.tmp t),args,argTypes⟩,ty,pos,after,guard⟩).run P w=.ok (.enter f (args.toList.map a.eval++bs.map FY).toArray) w:=by
   have hm:args.map a.eval=(args.toList.map a.eval).toArray:=zpc (by simp)
   have f2' : ¬ fn.name = "runtime.NumGoroutine" := by simpa using f2
   have hb':¬ fn.body=none:=by grind
   simp only[execOp,resolve,hv];simp[Deferred.ofValue,invoke,callFunc,f1,f2',hb',hm]
  refine⟨_,hq,wS h n2 f1 f2 f3 (args.toList.map a.eval++bs.map FY) hx ?_⟩;rw[hfr] at hc;cases l with
  | nil=>
   have hb0:bs=[]:=zBc.1 (by simpa using q3.symm)
   have hz0:zs=[]:=zBc.1 (by rw[<-q2,hb0];rfl)
   subst hb0;subst hz0;simp only[zYb,zld] at hc ⊢;exact hc w S (args.toList.map a.eval) h.Sb (by simpa using hwt) k2 k3
  | cons x l=>
   refine hc w S (args.toList.map a.eval) bs h.Sb hwt q3.symm (by rw[k2,zua,<-q2,<-q3];rfl) (λi j b hi hj=>?_) (λi x v hx hv=>?_) λi x b hx hb=>?_
   ·obtain⟨id,e1,e2⟩:=q4 i b hi;obtain⟨id',e3,e4⟩:=q4 j b hj;have:=h.γi id id' b e2 e4;subst this;exact xW hnd e1 e3
   ·grind
   ·grind
def Ri(b:EnvOk P E)(h:Rp w0 S γ β s a w){o:Oper}(d:Fr E s γ β o)(hT:∀ T t,o.op=.alloc T->E.L T=some t->aq t=true):jK P E w0 S γ β s a w o:=by
 obtain⟨dst,op,ty,pos,after,guard⟩:=o;cases op
 case move x=>exact MF h
 case assign x=>exact F5 h
 case pick c x y=>exact MG h
 case alloc T=>exact IM b h d (λt=>hT T t rfl)
 case load T x=>exact ME b h
 case lookup T x i c=>exact F6 b h
 case fieldAddr T x f=>exact zA b h
 case indexAddr T x i=>exact zC b h
 case field T x f=>exact IR b h
 case index T x f=>exact IS b h
 case binOp op T x y T'=>exact IN b h
 case unOp op T x=>exact MH h
 case convert U T x=>exact C8 b h
 case build T ps=>exact IP b h
 case buildSlice T n ps=>exact wE b h d
 case extract x i=>exact C9 h
 case nilCheck x=>exact BB h
 case slice T x lo hi mx=>exact IT b h
 case sliceToArrayPointer T x=>exact MC b h
 case makeFunc fn x y=>exact BA h
 case call c=>exact MD b h d
 all_goals (intro R K r hq;simp only[qv] at hq;cases hq)
end
end Sy
end
noncomputable section
namespace Sy
open Go
def oP{w0:Root}{w w':World}(h:ml w0 w)(g:w'.tape=w.tape)(e:w'.os=w.os)(hu:w'.output=w.output)(f:w.heap.size<=w'.heap.size)(c:w.drawn<=w'.drawn)(d:∀ b,w0.Old b->w'.heap[b]?=w.heap[b]?):ml w0 w':=
 ⟨g.trans h.tape,e.trans h.os,hu.trans h.output,zEa h.sz f,zEa h.dr c,λb a=>(d b a).trans (h.old b a)⟩
def cL{w:World}{b a off:Nat}{cs:Array Value}(h:a≠b):(putAt w b off cs).heap[a]?=w.heap[a]?:=by
 simp only[putAt,z9c];grind
def gS{w:World}{b off:Nat}{c cs:Array Value}(h:bO w b=some c):bO (putAt w b off cs) b=some (eK c off cs):=by
 unfold bO at h ⊢;split at h<;>first|(cases h;done)|skip
 rename_i a;simp only[zda] at h;subst h;simp only[putAt,z9c,if_true,a,zvb]
def zE{w:World}{b a off:Nat}{cs:Array Value}(h:a≠b):bO (putAt w b off cs) a=bO w a:=by
 simp only[bO,cL h]
def ck{w:World}{b a off o:Nat}{cs:Array Value}(h:a≠b):(putAt w b off cs).cell? ⟨a,o,none⟩=w.cell? ⟨a,o,none⟩:=by
 simp only[World.cell?,cL h]
def kK{w:World}{b a off:Nat}{c cs:Array Value}(h:bO w b=some c)(d:off+cs.size<=c.size):mX (putAt w b off cs) a=mX w a:=by
 by_cases e:a=b
 ·simp_all [mX,gS,zvb,splice_size]
 ·simp only[mX,zE e]
def dq.but{w w':World}(a:Nat)(h:∀ b,b≠a->b<w.heap.size->w'.heap[b]?=w.heap[b]?)(h0:∀ o,w.heap[a]?=some o->o≠Obj.deferred (some [])/\∀ r,o≠Obj.loop r):dq w w':=by
 intro b;all_goals grind
def dq.old{w w':World}(h:∀ b,b<w.heap.size->w'.heap[b]?=w.heap[b]?):dq w w':=
 λb=>⟨λa=>(h b (zga.1 a).1).trans a,λ⟨r,a⟩=>⟨r,(h b (zga.1 a).1).trans a⟩⟩
def Gd{w:World}{b:Nat}{c:Array Value}(h:bO w b=some c):∀ o,w.heap[b]?=some o->o≠Obj.deferred (some [])/\∀ r,o≠Obj.loop r:=λo a=>by
 constructor
 ·rintro rfl;simp[bO,a] at h
 ·rintro r rfl;simp[bO,a] at h
def FD{w:World}{b n:Nat}{es:Array MapEntry}(h:w.heap[b]?=some (.map es n)):∀ o,w.heap[b]?=some o->o≠Obj.deferred (some [])/\∀ r,o≠Obj.loop r:=λo a=>by
 simp_all
theorem dq.putAt{w:World}{b off:Nat}{c cs:Array Value}(h:bO w b=some c):dq w (putAt w b off cs):=dq.but b (λd a _=>cL a) (Gd h)
theorem dq.grown{w:World}{os:List Obj}{d:Nat}:dq w (grown w os d):=dq.old λb a=>c7 w os d a
theorem Fm.refl(s:St)(S:Nat->Nat->Prop)(γ:Nat->Option Nat)(a:Act)(w:World):Fm s S γ a w S γ a w:=
 ⟨λ_ _ h=>h,λ_ _ _=>rfl,λ_ _=>rfl,λ_ _ _ h=>⟨h,jL.refl _ _⟩,zfa _,λ_ _ h=>h,kY.same rfl (dq.refl _)⟩
theorem Fm.trans{s s1:St}{S S1 S2:Nat->Nat->Prop}{γ γ1 γ2:Nat->Option Nat}{a a1 a2:Act}{w w1 f:World}(h:Fm s S γ a w S1 γ1 a1 w1)(k:Fm s1 S1 γ1 a1 w1 S2 γ2 a2 f)(g:s1.lkS=s.lkS)(d:s1.lkO=s.lkO):Fm s S γ a w S2 γ2 a2 f:=
 ⟨λb o c=>k.sub b o (h.sub b o c),λb o c=>(k.cell b o (h.sub b o c)).trans (h.cell b o c),λt e=>(k.slots t (g ▸ e)).trans (h.slots t e),
  λid hid b c=>by
   obtain⟨h1,i⟩:=h.objs id hid b c;obtain⟨j,l⟩:=k.objs id (d ▸ hid) b h1;exact⟨j,i.trans l⟩,zEa h.sz k.sz,λid b c=>k.gam id b (h.gam id b c),h.dfs.trans (d ▸ k.dfs) h.sz k.sz⟩
def ci{a:Act}{dst:Option Nat}{v:Value}{t:Nat}(h:dst≠some t):(a.put dst v).tmps.getD t undef=a.tmps.getD t undef:=by
 cases dst with
 | none=>rfl
 | some d=>
  have b:d≠t:=λe=>h (by rw[e])
  simp only[Act.put];all_goals simp_all
def GM(P:Program)(w0:Root)(S:Nat->Nat->Prop)(γ:Nat->Option Nat)(β:Nat->Option (Nat×Nat))(s:St)(a:Act)(w:World)(o:Oper)(s':St):Prop:=
 s'.lkS=s.lkS/\s'.lkO=s.lkO/\s'.fresh=s.fresh/\s'.nt=s.nt/\(∀ id,γ id=none->o.dst≠some (id-s.base)\/id<s.base->s'.ob id=s.ob id) ∧
 eP P o a w λval w'=>∃ S' γ' β',Rp w0 S' γ' β' s' (a.put o.dst val) w'/\Fm s S γ a w S' γ' (a.put o.dst val) w'/\(∀ id,o.dst≠some (id-s.base)\/id<s.base->γ' id=γ id/\β' id=β id)
section
variable{P:Program}{E:Env}{w0:Root}{S:Nat->Nat->Prop}{γ:Nat->Option Nat}{β:Nat->Option (Nat×Nat)}{s:St}{a:Act}{w:World}
def St.put_fields(s:St)(d:Option Nat)(v:AV):(s.put d v).ob=s.ob/\(s.put d v).fresh=s.fresh/\(s.put d v).dead=s.dead/\(s.put d v).nt=s.nt/\(s.put d v).lkS=s.lkS/\(s.put d v).lkO=s.lkO/\(s.put d v).base=s.base:=by
 cases d with
 | none=>exact⟨rfl,rfl,rfl,rfl,rfl,rfl,rfl⟩
 | some d=>simp only[St.put];split<;>exact⟨rfl,rfl,rfl,rfl,rfl,rfl,rfl⟩
def cT{os:List Obj}{d b:Nat}(h:b<w.heap.size):(grown w os d).heap[b]?=w.heap[b]?:=c7 w os d h
def xh(i:EnvOk P E)(h:Rp w0 S γ β s a w){o:Oper}(j:Fr E s γ β o)(hT:∀ T t,o.op=.alloc T->E.L T=some t->aq t=true)(e:∀ t∈s.lkS,o.dst≠some t){R:Type}{K:St->Option R}{r:R}(hq:qv E s o (λv=>K (s.put o.dst v))=some r) :
  ∃ s',K s'=some r/\GM P w0 S γ β s a w o s':=by
 obtain⟨v,h1,g⟩:=Ri i h j hT R _ r hq;obtain⟨x,y,C,z,A,B,D⟩:=St.put_fields s o.dst v;refine⟨_,h1,A,B,y,z,λid _ _=>by rw[x],g.mono λval w' ⟨S',γ',β',l,m,p,⟨os,d,q⟩,f,u⟩=>?_⟩
 subst q;exact⟨S',γ',β',l.put m o.dst,⟨p,λb o c=>dV (h.Sb b o c),λt k=>ci (e t k),λid hid b c=>⟨f id b c,.inl (cT (h.γn id b c).2)⟩,by simp,f,kY.same bJ dq.grown⟩,u⟩
def Rp.write(h:Rp w0 S γ β s a w){id b off:Nat}{o o':Ob}{c cs:Array Value}(I:s.ob id=some o)(y:γ id=some b)(A:∀ o,¬ S b o)(D:bO w b=some c)(E:off+cs.size<=c.size)
  (G:∀ p,fg o' p=fg o p/\cC o' p=cC o p) (m:∀ t l,o=.many t l->∃ l',o'=.many t l'/\l'.length=l.length) (C:∀ H vt l,o≠.mp H vt l)
  (r:gl ⟨putAt w b off cs,S,γ,β,(s.setOb id (some o')).ob,s.dead⟩ b o') :
  Rp w0 S γ β (s.setOb id (some o')) a (putAt w b off cs)/\Cx.le ⟨w,S,γ,β,s.ob,s.dead⟩ ⟨putAt w b off cs,S,γ,β,(s.setOb id (some o')).ob,s.dead⟩:=by
 have k:∀ d o,S d o->d≠b:=λd o j e=>A o (e ▸ j);have hle:Cx.le ⟨w,S,γ,β,s.ob,s.dead⟩ ⟨putAt w b off cs,S,γ,β,(s.setOb id (some o')).ob,s.dead⟩:=by
  refine⟨λd o j=>ck (k d o j),λ_ _ j=>j,λ_ _ j=>j,λi x hx _=>?_,λv u=>⟨u,λd e he=>⟨he,λn hn=>by rw[kK D E];exact hn⟩⟩⟩
  simp only[St.setOb] at hx;by_cases e:i=id
  ·simp_all
  ·simp_all
 refine⟨⟨oP h.ext rfl rfl rfl (by simp) (zfa _) (λd g=>cL (λe=>(h.γn id b y).1 (e ▸ g))),λt F=>(h.tms t F).mono hle,h.nt,h.tmu,λi x d hx g=>?_,λi d g=>by simpa using h.γn i d g,h.γi,h.γf,
  λv d e u he=>by simpa using h.βn v d e u he,h.βi,h.βγ,h.βf,λd o j=>by simpa using h.Sb d o j,h.So⟩,hle⟩
 simp only[St.setOb] at hx;by_cases e:i=id
 ·subst e;simp only[if_true,zda] at hx;subst hx;rw[y] at g;cases g;exact r
 ·rw[if_neg e] at hx;have q:d≠b:=λz=>e (h.γi i id d g (z ▸ y));exact(h.obs i x d hx g).mono hle (cL q) λ_ B=>B
def Fn(hE:EnvOk P E)(h:Rp w0 S γ β s a w){dst T x y ty pos after guard}(aI:∀ t∈s.lkS,dst≠some t){R:Type}{K:St->Option R}{r:R}(hd:dst=none)
  (hq:sQ E s ⟨dst,.store T x y,ty,pos,after,guard⟩ K=some r):∃ s',K s'=some r/\GM P w0 S γ β s a w ⟨dst,.store T x y,ty,pos,after,guard⟩ s':=by
 subst hd;simp only[sQ] at hq;have hx:=aX h x;have X:=aX h y;cases hfn:E.fnT T with
 | true=>
  rw[hfn] at hq;simp only[cond_true] at hq;split at hq<;>first|(cases hq;done)|skip
  rename_i id e;split at hq<;>first|(cases hq;done)|skip
  rename_i d;simp only[zaa,zCa] at d;split at hq<;>first|(cases hq;done)|skip
  rename_i v f;rw[e] at hx;have M:id ∉ s.lkO:=by
   simp_all
  obtain⟨b,off,V,L,N⟩:=lc hx;obtain⟨_,rfl⟩:=N _ f;obtain⟨F,z,m,_,_⟩:=h.obs id _ b f L;obtain⟨X,h1⟩:=EE (c:=⟨w,S,γ,β,s.ob,s.dead⟩) d.1 X;have hr:=zH (hE.fnT T hfn) (w:=w) (b:=b) m h1;have q:0+#[a.eval y].size<=#[z].size:=by simp
  have J:gl ⟨putAt w b 0 #[a.eval y],S,γ,β,(s.setOb id (some (.fv (jE s.ob (s.opA y))))).ob,s.dead⟩ b (.fv (jE s.ob (s.opA y))):=by
   have I:∀ g o,S g o->g≠b:=λg o d e=>F o (e ▸ d);have hle:Cx.le ⟨w,S,γ,β,s.ob,s.dead⟩ ⟨putAt w b 0 #[a.eval y],S,γ,β,(s.setOb id (some (.fv (jE s.ob (s.opA y))))).ob,s.dead⟩:=by
    refine⟨λg o d=>ck (I g o d),λ_ _ d=>d,λ_ _ d=>d,λi z G _=>?_,λv V=>⟨V,λg e he=>⟨he,λn hn=>by rw[kK m q];exact hn⟩⟩⟩
    simp only[St.setOb] at G;by_cases e:i=id
    ·subst e;simp only[if_true,zda] at G;subst G;exact⟨_,f,λp=>by cases p<;>exact⟨rfl,rfl⟩,(λt l e=>by cases e),λ_ _ l e=>by cases e⟩
    ·simp_all
   simp only[gl];refine⟨F,a.eval y,?_,X.mono hle.cell hle.S hle.γ,h1⟩;rw[gS m];rfl
  obtain⟨n1,n2⟩:=h.write (o':=.fv (jE s.ob (s.opA y))) f L F m q (λp=>by cases p<;>exact⟨rfl,rfl⟩) (λt l e=>by cases e) (λ_ _ _ e=>by cases e) J
  refine⟨_,hq,rfl,rfl,rfl,rfl,λi Q _=>?_,.skip (w':=putAt w b 0 #[a.eval y]) ?_ ⟨S,γ,β,n1,?_,λ_ _=>⟨rfl,rfl⟩⟩⟩
  ·grind [St.setOb]
  ·simp_all [execOp,zha,cC,zea,zna]
  ·exact⟨λ_ _ d=>d,λg o d=>ck (λe=>F o (e ▸ d)),λ_ _=>rfl,λi Q g k=>⟨k,.inl (cL λe=>M ((h.γi id i b L (e ▸ k)) ▸ Q))⟩,by simp,λ_ _ d=>d,kY.same rfl (dq.putAt m)⟩
 | false=>
 rw[hfn] at hq;simp only[cond_false] at hq;replace hq:=bind_some_inv hq;obtain⟨t,ht,hq⟩:=hq;generalize s.opA x=ax at *;cases ax<;>(try simp only at hq)<;>first|(cases hq;done)|skip
 rename_i t' id p;split at hq<;>first|(cases hq;done)|skip
 rename_i d;simp only[zaa,zCa] at d;obtain⟨⟨ai,H⟩,an⟩:=d;have:=Ty.eq_of_beq _ _ ai;subst this;have M:id ∉ s.lkO:=by
  simp_all
 obtain⟨b,off,V,L,N⟩:=lc hx;split at hq<;>first|(cases hq;done)|skip
 ·
  rename_i u v f;obtain⟨U,rfl⟩:=N _ f;have hO:=h.obs id _ b f L;simp only[gl] at hO;obtain⟨O,o2,F,cs,m,o5,o6⟩:=hO;simp only[fg] at U;have hn:=eh p O U;have hl:=jU hE ht hn;obtain⟨y1,y2⟩:=Ah H hn X;obtain⟨v',pre,mid,post,m1,rfl,m2,m3,m4,m5⟩:=MO p o2 O U o5 y1 H hq;obtain⟨y3,y4⟩:=iB _ _ _ H y1;have hr:=qn hl (w:=w) (b:=b) (off:=be u p) m y2 y3 y4 (by simp only[zMc,zua];omega)
  have q:be u p+(a.eval y).cells.toList.toArray.size<=(pre++(mid++post)).toArray.size:=by grind
  have J:gl ⟨putAt w b (be u p) (a.eval y).cells.toList.toArray,S,γ,β,(s.setOb id (some (.one u v'))).ob,s.dead⟩ b (.one u v'):=by
   have I:∀ g o,S g o->g≠b:=λg o d e=>F o (e ▸ d);have hle:Cx.le ⟨w,S,γ,β,s.ob,s.dead⟩ ⟨putAt w b (be u p) (a.eval y).cells.toList.toArray,S,γ,β,(s.setOb id (some (.one u v'))).ob,s.dead⟩:=by
    refine⟨λg o d=>ck (I g o d),λ_ _ d=>d,λ_ _ d=>d,λi z G _=>?_,λv V=>⟨V,λg e he=>⟨he,λn hn=>by rw[kK m q];exact hn⟩⟩⟩
    simp only[St.setOb] at G;by_cases e:i=id
    ·subst e;simp only[if_true,zda] at G;subst G;exact⟨_,f,λp=>⟨rfl,rfl⟩,(λt l e=>by cases e),λ_ _ l e=>by cases e⟩
    ·simp_all
   simp only[gl];refine⟨O,m5,F,pre++((a.eval y).cells.toList++post),?_,AC.mono hle _ _ m4,(iB _ _ _ m5 m4).1⟩;rw[gS m,<-m2,iA pre mid post _ m3]
  obtain⟨n1,n2⟩:=h.write (o':=.one u v') f L F m q (λp=>⟨rfl,rfl⟩) (λt l e=>by cases e) (λ_ _ _ e=>by cases e) J
  refine⟨_,m1,rfl,rfl,rfl,rfl,λi Q _=>?_,.skip (w':=putAt w b (be u p) (a.eval y).cells.toList.toArray) ?_ ⟨S,γ,β,n1,?_,λ_ _=>⟨rfl,rfl⟩⟩⟩
  ·grind [St.setOb]
  ·simp_all [execOp,zha,cC,zea,zna]
  ·exact⟨λ_ _ d=>d,λg o d=>ck (λe=>F o (e ▸ d)),λ_ _=>rfl,λi Q g k=>⟨k,.inl (cL λe=>M ((h.γi id i b L (e ▸ k)) ▸ Q))⟩,by simp,λ_ _ d=>d,kY.same rfl (dq.putAt m)⟩
 ·
  rename_i u l f;cases p with
  | nil=>simp only at hq;cases hq
  | cons i p=>
   simp only at hq;replace hq:=bind_some_inv hq;obtain⟨z,G,hq⟩:=hq;replace hq:=bind_some_inv hq;obtain⟨y',aj,hq⟩:=hq;replace hq:=bind_some_inv hq;obtain⟨z',ak,hq⟩:=hq;obtain⟨U,rfl⟩:=N _ f;have hO:=h.obs id _ b f L;simp only[gl] at hO;obtain⟨O,o2,F,cs,m,o5⟩:=hO;simp only[fg] at U;have hn:=eh p O U;have hl:=jU hE ht hn;obtain⟨y1,y2⟩:=Ah H hn X;obtain⟨y3,y4⟩:=iB _ _ _ H y1;obtain⟨q1,q2,_⟩:=sj _ _ _ _ aj y1;obtain⟨s1,A,C,B,s2,s3,s4,s5⟩:=qo p (o2 z (z4a G)) O U ak q1;have Q:=(zka.1 G).1;have e0:(D.flats (l.take i)).length=i*u.size:=by
    rw[aF O _ (λx hx=>o2 x (zJa hx)),zgb,zwb (ztc Q)]
   rw[cr G,s2,show D.flats (l.take i)++(A++(C++B)++D.flats (l.drop (i+1)))=(D.flats (l.take i)++A)++(C++(B++D.flats (l.drop (i+1)))) by simp[zIa]] at o5
   obtain⟨c1,c2⟩:=o5.split;obtain⟨c3,c4⟩:=c2.split;generalize hpre:cs.take (D.flats (l.take i)++A).length=pre at *;generalize hrest:cs.drop (D.flats (l.take i)++A).length=rest at *;have ad:cs=pre++(rest.take C.length++rest.drop C.length):=by rw[<-hpre,zqa,<-hrest,zqa]
   have Z:pre.length=i*u.size+be u p:=by rw[<-c1.1,zua,e0,s4]
   have Y:(rest.take C.length).length=(a.eval y).cells.toList.length:=by rw[<-c3.1,s5,y3]
   subst ad;have hr:=qn hl (w:=w) (b:=b) (off:=i*u.size+be u p) m y2 y3 y4 (by simp only[zMc,zua];omega)
   have q:i*u.size+be u p+(a.eval y).cells.toList.toArray.size<=(pre++(rest.take C.length++rest.drop C.length)).toArray.size:=by simp only[zMc,zua,zNb] at *;omega
   have W:gl ⟨putAt w b (i*u.size+be u p) (a.eval y).cells.toList.toArray,S,γ,β,(s.setOb id (some (.many u (l.set i z')))).ob,s.dead⟩ b (.many u (l.set i z')):=by
    have I:∀ g o,S g o->g≠b:=λg o d e=>F o (e ▸ d);simp only[gl];refine⟨O,λx hx=>?_,F,pre++((a.eval y).cells.toList++rest.drop C.length),?_,?_⟩
    ·rcases zSc hx with hx|hx
     ·exact o2 x hx
     ·rw[hx];exact s1
    ·rw[gS m,<-Z,iA pre _ _ _ Y]
    ·rw[nC G,s3,show D.flats (l.take i)++(A++(y'.flat++B)++D.flats (l.drop (i+1)))=(D.flats (l.take i)++A)++(y'.flat++(B++D.flats (l.drop (i+1)))) by simp[zIa]]
     exact(c1.append (q2.append c4)).mono (λg o d=>ck (I g o d)) λ_ _ hh=>hh
   obtain⟨n1,n2⟩:=h.write (o':=.many u (l.set i z')) f L F m q (λp=>by cases p<;>exact⟨rfl,rfl⟩) (λt l' e=>by cases e;exact⟨_,rfl,by simp⟩) (λ_ _ _ e=>by cases e) W
   refine⟨_,hq,rfl,rfl,rfl,rfl,λj hj _=>?_,.skip (w':=putAt w b (i*u.size+be u p) (a.eval y).cells.toList.toArray) ?_ ⟨S,γ,β,n1,?_,λ_ _=>⟨rfl,rfl⟩⟩⟩
   ·simp only[St.setOb];rw[if_neg];intro e;subst e;have al:γ j=some b:=L;rw[al] at hj;cases hj
   ·simp only[execOp,V,zha,cC,hr,zea,zna]
   ·exact⟨λ_ _ d=>d,λg o d=>ck (λe=>F o (e ▸ d)),λ_ _=>rfl,λj hj g k=>⟨k,.inl (cL λe=>M ((h.γi id j b L (e ▸ k)) ▸ hj))⟩,by simp,λ_ _ d=>d,kY.same rfl (dq.putAt m)⟩
end
end Sy
end
noncomputable section
namespace Sy
open Go
section
variable{P:Program}{E:Env}{w0:Root}{S:Nat->Nat->Prop}{γ:Nat->Option Nat}{β:Nat->Option (Nat×Nat)}{s:St}{a:Act}{w:World}
def Rp.setFree(h:Rp w0 S γ β s a w){id:Nat}(hid:γ id=none)(o:Option Ob):Rp w0 S γ β (s.setOb id o) a w/\Cx.le ⟨w,S,γ,β,s.ob,s.dead⟩ ⟨w,S,γ,β,(s.setOb id o).ob,s.dead⟩:=by
 have hle:Cx.le ⟨w,S,γ,β,s.ob,s.dead⟩ ⟨w,S,γ,β,(s.setOb id o).ob,s.dead⟩:=by
  refine⟨λ_ _ _=>rfl,λ_ _ k=>k,λ_ _ k=>k,λi x hx ⟨b,c⟩=>?_,λv g=>⟨g,λb e he=>⟨he,λn hn=>hn⟩⟩⟩;simp only[St.setOb] at hx;by_cases e:i=id
  ·simp_all
  ·simp_all
 refine⟨⟨h.ext,λt d=>(h.tms t d).mono hle,h.nt,h.tmu,λi x b hx c=>?_,h.γn,h.γi,h.γf,h.βn,h.βi,h.βγ,h.βf,h.Sb,h.So⟩,hle⟩;simp only[St.setOb] at hx;by_cases e:i=id
 ·simp_all
 ·rw[if_neg e] at hx;exact(h.obs i x b hx c).mono hle rfl λ_ k=>k
theorem kP(s:St)(id:Nat)(o:Option Ob):(s.setOb id o).ob id=o:=by simp[St.setOb]
def nc(s:St){id i:Nat}(o:Option Ob)(h:i≠id):(s.setOb id o).ob i=s.ob i:=by simp[St.setOb,h]
def Rp.make(h:Rp w0 S γ β s a w){id:Nat}(hid:γ id=none)(l:id<s.base+4096){c:Array Value}{T:TypeId}{o:Ob}(d:Nat)(k:w.drawn<=d)
  (m:gl ⟨grown w [.cells c T] d,S,pn γ id w.heap.size,β,(s.setOb id (some o)).ob,s.dead⟩ w.heap.size o) :
  Rp w0 S (pn γ id w.heap.size) β (s.setOb id (some o)) a (grown w [.cells c T] d)/\Cx.le ⟨w,S,γ,β,s.ob,s.dead⟩ ⟨grown w [.cells c T] d,S,pn γ id w.heap.size,β,(s.setOb id (some o)).ob,s.dead⟩:=by
 obtain⟨h1,j⟩:=h.grow (os:=[.cells c T]) (d:=d) k (S':=S) (λ_ _ g=>g) (λ_ _ g=>.inl g);obtain⟨t,q⟩:=h1.setFree hid (some o);have p:¬ w0.Old w.heap.size:=λm=>by have:=m.1;have:=h.ext.sz;omega
 obtain⟨y,A⟩:=t.newOb (id:=id) (b:=w.heap.size) hid p (by simp) (λi l=>by have:=(h.γn i _ l).2;omega) (λu f hu z=>by have:=(h.βn u _ _ hu z).2.1;omega) l (λx hx=>by
  rw[kP] at hx;cases hx;exact m)
 refine⟨y,⟨λb o g=>j.cell b o g,λ_ _ g=>g,λi b g=>fi hid g,λi x hx g=>?_,λv r=>⟨r,λb e he=>⟨he,λn hn=>by
  have:=j.β v r;exact(this.2 b e he).2 n hn⟩⟩⟩⟩
 obtain⟨b,g⟩:=g;exact q.ob i x hx ⟨b,g⟩
def NR(h:Rp w0 S γ β s a w){dst T x ty pos after guard}{d:Nat}(y:d<4096)(J:dst=some d)(k:γ (s.base+d)=none)(m:∀ t∈s.lkS,dst≠some t){R:Type}{K:St->Option R}{r:R}{t:Ty}{g:Ob}
  (hq:K ((s.setOb (s.base+d) (some g)).put dst (.ptr t (s.base+d) []))=some r)
  (p:Cx.le ⟨w,S,γ,β,s.ob,s.dead⟩ ⟨grown w [.cells (a.eval x).cells T] w.drawn,S,pn γ (s.base+d) w.heap.size,β,(s.setOb (s.base+d) (some g)).ob,s.dead⟩->gl ⟨grown w [.cells (a.eval x).cells T] w.drawn,S,pn γ (s.base+d) w.heap.size,β,(s.setOb (s.base+d) (some g)).ob,s.dead⟩ w.heap.size g)
  (q:fg g []=some t/\0=cC g []):∃ s',K s'=some r/\GM P w0 S γ β s a w ⟨dst,.box T x,ty,pos,after,guard⟩ s':=by
 have hle:Cx.le ⟨w,S,γ,β,s.ob,s.dead⟩ ⟨grown w [.cells (a.eval x).cells T] w.drawn,S,pn γ (s.base+d) w.heap.size,β,(s.setOb (s.base+d) (some g)).ob,s.dead⟩:=by
  refine⟨λb o f=>dV (h.Sb b o f),λ_ _ f=>f,λi b f=>fi k f,λi z B ⟨b,f⟩=>?_,λv u=>⟨u,λb e he=>⟨he,λn hn=>by rw[yg (h.βn v b e u he).2.1];exact hn⟩⟩⟩
  by_cases e:i=s.base+d
  ·simp_all
  ·have C:s.ob i=some z:=by rw[<-B];exact(nc s _ e).symm
   simp_all
 obtain⟨h1,D⟩:=h.make (id:=s.base+d) k (by omega) (c:=(a.eval x).cells) (T:=T) (o:=g) w.drawn (zfa _) (p hle)
 obtain⟨E,F,L,G,H,I,M⟩:=St.put_fields (s.setOb (s.base+d) (some g)) dst (.ptr t (s.base+d) []);refine⟨_,hq,H,I,F,G,λid hid l=>?_,.value (v:=.pointer (some ⟨w.heap.size,0,none⟩)) (w':=grown w [.cells (a.eval x).cells T] w.drawn) ?_ ⟨S,_,β,h1.put (gI (bG _ _ _) λo p=>?_) dst,?_,λid hid=>⟨ce _ _ ?_,rfl⟩⟩⟩
 ·rw[E];refine nc s _ λe=>?_;subst e;rcases l with l|l
  ·simp_all
  ·omega
 ·simp_all [dS,execOp,Instr.box,newVar,newRow,zha]
 ·have j:(s.setOb (s.base+d) (some g)).ob (s.base+d)=some o:=p;rw[kP] at j;cases j;exact q
 ·exact⟨λ_ _ f=>f,λb o f=>dV (h.Sb b o f),λt A=>ci (m t A),λid hid b f=>⟨fi k f,.inl (cT (h.γn id b f).2)⟩,by simp,λ_ _ f=>fi k f,kY.same bJ dq.grown⟩
 ·intro e;subst e;rcases hid with hid|hid
  ·simp_all
  ·omega
def Ma(u:EnvOk P E)(h:Rp w0 S γ β s a w){dst T x ty pos after guard}(l:Fr E s γ β ⟨dst,.box T x,ty,pos,after,guard⟩)(g:∀ t∈s.lkS,dst≠some t){R:Type}{K:St->Option R}{r:R}(hT:∀ t,E.L T=some t->aq t=true)
  (hq:sQ E s ⟨dst,.box T x,ty,pos,after,guard⟩ K=some r):∃ s',K s'=some r/\GM P w0 S γ β s a w ⟨dst,.box T x,ty,pos,after,guard⟩ s':=by
 simp only[sQ] at hq;cases hfn:E.fnT T with
 | true=>
  rw[hfn] at hq;simp only[cond_true] at hq;replace hq:=bind_some_inv hq;obtain⟨d,f,hq⟩:=hq;split at hq<;>first|(cases hq;done)|skip
  rename_i b;obtain⟨e,k,q,_⟩:=l rfl d f;obtain⟨n,i⟩:=EE (c:=⟨w,S,γ,β,s.ob,s.dead⟩) b (aX h x);exact NR h e f k g hq (λhle=>by
   simp only[gl];exact⟨λo j=>by have:=h.Sb _ _ j;omega,a.eval x,by rw[<-rj i];exact nM,n.mono hle.cell hle.S hle.γ,i⟩) ⟨rfl,rfl⟩
 | false=>
 rw[hfn] at hq;simp only[cond_false] at hq;replace hq:=bind_some_inv hq;obtain⟨t,p,hq⟩:=hq;replace hq:=bind_some_inv hq;obtain⟨d,f,hq⟩:=hq;split at hq<;>first|(cases hq;done)|skip
 rename_i b;obtain⟨e,k,q,_⟩:=l rfl d f;have hn:=hT t p;obtain⟨m,n⟩:=Ah b hn (aX h x);obtain⟨i,_⟩:=iB _ _ _ b m;exact NR h e f k g hq (λhle=>by
  simp only[gl];exact⟨hn,b,λo j=>by have:=h.Sb _ _ j;omega,(a.eval x).cells.toList,by rw[zic];exact nM,AC.mono hle _ _ m,i⟩) ⟨by cases t<;>rfl,by cases t<;>rfl⟩
def Du{n:Nat}(h:n<=1073741824):IntKind.i64.wrap (n:Int)=(n:Int):=by
 exact IntWalk.i64_in _ (by omega)
def wq(X:EnvOk P E)(h:Rp w0 S γ β s a w){dst T x y ty pos after guard}(Z:Fr E s γ β ⟨dst,.makeSlice T x y,ty,pos,after,guard⟩)(H:∀ t∈s.lkS,dst≠some t){R:Type}{K:St->Option R}{r:R}
  (hq:sQ E s ⟨dst,.makeSlice T x y,ty,pos,after,guard⟩ K=some r):∃ s',K s'=some r/\GM P w0 S γ β s a w ⟨dst,.makeSlice T x y,ty,pos,after,guard⟩ s':=by
 simp only[sQ] at hq;replace hq:=bind_some_inv hq;obtain⟨t,J,hq⟩:=hq;replace hq:=bind_some_inv hq;obtain⟨d,C,hq⟩:=hq;split at hq<;>first|(cases hq;done)|skip
 rename_i e i j;split at hq<;>first|(cases hq;done)|skip
 rename_i G;subst G;replace hq:=bind_some_inv hq;obtain⟨p,hp,hq⟩:=hq;replace hq:=bind_some_inv hq;obtain⟨n,I,hq⟩:=hq;split at hq<;>first|(cases hq;done)|skip
 rename_i g;obtain⟨Y,N,hβ,_⟩:=Z rfl d C;rcases X.lay T _ J with⟨aj,L⟩|hl
 ·cases L
 have hn:=aJ _ _ hl;simp only[aq] at hn;obtain⟨u,h1,O⟩:=jp hl;obtain⟨i0,z0,m,ad,nX,F,q,_⟩:=fT (gO O);have l:a.eval (.tmp i)=.int .i64 n\/∃ k,a.eval (.tmp i)=.int k n:=by
  obtain⟨kk,V⟩:=xU I;have Q:=aX h (.tmp i);rw[show s.opA (.tmp i)=s.tm i from rfl,eM hp,V] at Q;exact .inr ⟨kk,(fE Q).1⟩
 obtain⟨k,l⟩:∃ k,a.eval (.tmp i)=.int k n:=by
  rcases l with l|l
  ·exact⟨_,l⟩
  ·exact l
 have M:z0.cells.size=e.size:=by
  have:=(cJ (w:=w) (S:=S) q).1;rw[<-zNb,<-this];exact cF _ _ (db e hn) hn
 let cells:Array Value:=(Array.range (n*e.size)).map λi=>z0.cells[i%z0.cells.size]!
 have hz:∀ w',df w' S (D.flats (List.replicate n (av e))) cells.toList:=λw'=>yA q M n;obtain⟨r1,ai⟩:=h.make (id:=s.base+d) N (by omega) (c:=cells) (T:=u) (o:=.many e (List.replicate n (av e))) w.drawn (zfa _) (by
  simp only[gl];exact⟨hn,λx hx=>by rw[(zkd.1 hx).2];exact db e hn,λo B=>by have:=h.Sb _ _ B;omega,cells.toList,by rw[zic];exact nM,hz _⟩)
 have z:(Instr.makeSlice T (.int k n) (.int k n)).run P w=.ok (.slice (some ⟨w.heap.size,0,none⟩) n n) (grown w [.cells cells u] w.drawn):=by
  have f:((i0.bytes:Int)*(n:Int))<=2^48:=by
   have W:i0.bytes*n<=16384*1073741824:=zUa nX.1 g;have:((i0.bytes*n:Nat):Int)<=((16384*1073741824:Nat):Int):=Int.ofNat_le.2 W;rw[zSa] at this;omega
  have hw:=Du g;have c1:¬ ((n:Int)<0):=by omega
  have c2:¬ ((i0.bytes:Int)*(n:Int)>2^48):=by omega
  simp only[Instr.makeSlice,zha,run_underlying h1,zea,asInt,asIntOf,pure_bind,typeInfo,run_program,m,zna,hw];rw[decide_eq_false c1,decide_eq_false c2,decide_eq_false (show ¬ ((n:Int)>n) from zNc _)];simp only[Bool.or_self,zxa,if_false,zha,run_askRoom,zea,cm O,z4c];by_cases h0:n*e.size=0
  ·have U:((Array.range (n*e.size)).map λi=>(#[]:Array Value)[i%(#[]:Array Value).size]!)=cells:=by
    show _=((Array.range (n*e.size)).map λi=>z0.cells[i%z0.cells.size]!);rw[h0];simp
   rw[if_pos h0];simp only[pure_bind,U,newRow,zha,run_newObj,zea,zna];rw[<-dS];rfl
  ·rw[if_neg h0];simp only[zeroValue,typeInfo,zha,run_program,m,F,zea,zna,bind_pure_comp,Sem.run_map,newRow,run_newObj];rw[<-dS];rfl
 obtain⟨p1,p2,p3,p4,p5,p6,p7⟩:=St.put_fields (s.setOb (s.base+d) (some (.many e (List.replicate n (av e))))) dst (.mem e (s.base+d));refine⟨_,hq,p5,p6,p2,p4,λid hid A=>?_,.value (v:=.slice (some ⟨w.heap.size,0,none⟩) n n) (w':=grown w [.cells cells u] w.drawn) (by simp only[execOp,l,zha,z,zea,zna]) ⟨S,_,β,r1.put ?_ dst,?_,λid hid=>⟨ce _ _ ?_,rfl⟩⟩⟩
 ·rw[p1];refine nc s _ λe=>?_;subst e;rcases A with A|A
  ·exact A (by rw[C,zFb])
  ·omega
 ·simp only[AR,AC,Value.cells];refine⟨by simp,hn,w.heap.size,bG _ _ _,λo B=>?_⟩
  rw[kP] at B;cases B;exact⟨_,rfl,by simp⟩
 ·exact⟨λ_ _ f=>f,λb o f=>dV (h.Sb b o f),λt J=>ci (H t J),λid hid b f=>⟨fi N f,.inl (cT (h.γn id b f).2)⟩,by simp,λ_ _ f=>fi N f,kY.same bJ dq.grown⟩
 ·intro e;subst e;rcases hid with hid|hid
  ·exact hid (by rw[C,zFb])
  ·omega
theorem xo(m:Nat):∀ (r c:Nat),c<=2*m+200->Builtin.growBy m r c<=2*m+200
 | 0,c,h=>by simpa [Builtin.growBy] using h
 | r+1,c,h=>by
  simp only[Builtin.growBy];split
  ·exact h
  ·exact xo m r _ (by omega)
def CX{a cap:Nat}(h:cap<a):Builtin.nextslicecap a cap<=2*a+200:=by
 unfold Builtin.nextslicecap;split
 ·omega
 ·split
  ·omega
  ·exact xo a 4 cap (by omega)
def jA{w:World}{S:Nat->Nat->Prop}{e:Ty}{l:List D}{v:Value}(hn:aq e=true)(hl:∀ x∈l,wt e x)(h:CR w S (.sl l) v):∃ cs:List Value,df w S (D.flats l) cs/\(Builtin.firstCells e.size l.length v).run P w=.ok cs.toArray w:=by
 obtain⟨A,cap,b,off,c,a,g,cs,d,f⟩:=h.elems;refine⟨cs,d,?_⟩;have hlen:cs.length=l.length*e.size:=by rw[<-d.1];exact aF hn l hl
 subst c;cases A with
 | none=>
  rcases a with rfl|a
  ·have:cs=[]:=by
    simp at hlen;exact hlen
   subst this;rfl
  ·cases a
 | some A=>
  rcases a with rfl|a
  ·have:cs=[]:=by
    simp at hlen;exact hlen
   subst this;simp[Builtin.firstCells,loadCells,loadCellsFrom]
  ·cases a;simp only[Builtin.firstCells];rw[<-hlen];exact run_loadCells_list (P:=P) w ⟨b,off,none⟩ cs (λj v c=>by rw[dA];exact(f j v c).2)
def t7{c:Cx}{e:Ty}{v:Nat}(hn:aq e=true):AR c (.own e v []) (.slice none 0 0):=by
 simp only[AR,AC,Value.cells];exact⟨by simp,hn,λx hx=>by simp at hx,none,0,rfl,.sl [] none 0 0 0 (λ_=>undef) (.inl rfl) (zfa 0) (λi d a=>by simp[D.flats] at a) (λi d a=>by simp[D.flats] at a),λ_=>.inl ⟨rfl,rfl⟩⟩
def Rp.bury(h:Rp w0 S γ β s a w)(v:Nat):Rp w0 S γ β { s with dead:=v::s.dead } a w/\Cx.le ⟨w,S,γ,β,s.ob,s.dead⟩ ⟨w,S,γ,β,s.ob,v::s.dead⟩:=by
 have hle:Cx.le ⟨w,S,γ,β,s.ob,s.dead⟩ ⟨w,S,γ,β,s.ob,v::s.dead⟩:=
  ⟨λ_ _ _=>rfl,λ_ _ k=>k,λ_ _ k=>k,λid o d _=>⟨o,d,λp=>⟨rfl,rfl⟩,λt l e=>⟨l,e,rfl⟩,λ_ _ l e=>⟨l,e⟩⟩,λu hu=>⟨λc=>hu (zia _ c),λb e he=>⟨he,λn hn=>hn⟩⟩⟩
 have nd:∀ {u},u ∉ v::s.dead->u ∉ s.dead:=λhu c=>hu (zia _ c);exact⟨⟨h.ext,λt q=>(h.tms t q).mono hle,h.nt,h.tmu,λid o b d m=>(h.obs id o b d m).mono hle rfl λ_ k=>k,h.γn,h.γi,h.γf,λu b e hu=>h.βn u b e (nd hu),λu r b e j hu g=>h.βi u r b e j (nd hu) (nd g),λu id b e hu=>h.βγ u id b e (nd hu),h.βf,h.Sb,h.So⟩,hle⟩
end
end Sy
end
noncomputable section
namespace Sy
open Go
section
variable{P:Program}{E:Env}{w0:Root}{S:Nat->Nat->Prop}{γ:Nat->Option Nat}{β:Nat->Option (Nat×Nat)}{s:St}{a:Act}{w:World}
def Rp.makeG(h:Rp w0 S γ β s a w){id:Nat}(hid:γ id=none)(k:id<s.base+4096){x:Obj}{o:Ob}(d:Nat)(j:w.drawn<=d)
  (l:gl ⟨grown w [x] d,S,pn γ id w.heap.size,β,(s.setOb id (some o)).ob,s.dead⟩ w.heap.size o) :
  Rp w0 S (pn γ id w.heap.size) β (s.setOb id (some o)) a (grown w [x] d)/\Cx.le ⟨w,S,γ,β,s.ob,s.dead⟩ ⟨grown w [x] d,S,pn γ id w.heap.size,β,(s.setOb id (some o)).ob,s.dead⟩:=by
 obtain⟨h1,g⟩:=h.grow (os:=[x]) (d:=d) j (S':=S) (λ_ _ c=>c) (λ_ _ c=>.inl c);obtain⟨r,p⟩:=h1.setFree hid (some o);have m:¬ w0.Old w.heap.size:=λl=>by have:=l.1;have:=h.ext.sz;omega
 obtain⟨t,z⟩:=r.newOb (id:=id) (b:=w.heap.size) hid m (by simp) (λi k=>by have:=(h.γn i _ k).2;omega) (λu f hu y=>by have:=(h.βn u _ _ hu y).2.1;omega) k (λx hx=>by
  rw[kP] at hx;cases hx;exact l)
 refine⟨t,⟨λb o c=>g.cell b o c,λ_ _ c=>c,λi b c=>fi hid c,λi x hx c=>?_,λv q=>⟨q,λb e he=>⟨he,λn hn=>by
  have:=g.β v q;exact(this.2 b e he).2 n hn⟩⟩⟩⟩
 obtain⟨b,c⟩:=c;exact p.ob i x hx ⟨b,c⟩
def AM(y:EnvOk P E)(h:Rp w0 S γ β s a w){dst T rsv ty pos after guard}(B:Fr E s γ β ⟨dst,.makeMap T rsv,ty,pos,after,guard⟩)(l:∀ t∈s.lkS,dst≠some t){R:Type}{K:St->Option R}{r:R}
  (hq:sQ E s ⟨dst,.makeMap T rsv,ty,pos,after,guard⟩ K=some r):∃ s',K s'=some r/\GM P w0 S γ β s a w ⟨dst,.makeMap T rsv,ty,pos,after,guard⟩ s':=by
 simp only[sQ] at hq;cases rsv with
 | some x=>cases hq
 | none=>
 simp only at hq;replace hq:=bind_some_inv hq;obtain⟨D,k,hq⟩:=hq;replace hq:=bind_some_inv hq;obtain⟨d,z,hq⟩:=hq;obtain⟨q,vt⟩:=D;simp only at hq;obtain⟨A,p,N,_⟩:=B rfl d z;obtain⟨hc,KT,VT,hu,g,m,M⟩:=y.mapL T _ _ k;have i:=aJ _ _ g;have j:=aJ _ _ m;obtain⟨h1,F⟩:=h.makeG (id:=s.base+d) p (by omega) (x:=.map #[] 0) (o:=.mp q vt []) w.drawn (zfa _) (by
  simp only[gl];refine⟨i,j,λo u=>by have:=h.Sb _ _ u;omega,#[],?_,by simp[jf]⟩
  show(w.heap++#[Obj.map #[] 0])[w.heap.size]?=some (.map #[] 0);rw[Array.getElem?_append_right (zfa _),zid];rfl)
 obtain⟨G,H,O,I,J,L,Q⟩:=St.put_fields (s.setOb (s.base+d) (some (.mp q vt []))) dst (.map q vt (s.base+d));refine⟨_,hq,J,L,H,I,λid hid f=>?_,.value (v:=.map (some w.heap.size)) (w':=grown w [.map #[] 0] w.drawn) ?_ ⟨S,_,β,h1.put ?_ dst,?_,λid hid=>⟨ce _ _ ?_,rfl⟩⟩⟩
 ·rw[G];refine nc s _ λe=>?_;subst e;rcases f with f|f
  ·simp_all
  ·omega
 ·simp_all [grown,execOp,Instr.makeMap,Option.map_none,zha,zea]
 ·simp only[AR,AC,Value.cells];refine⟨by simp,w.heap.size,rfl,bG _ _ _,i,j,λo u=>?_⟩
  grind [kP]
 ·exact⟨λ_ _ c=>c,λb o c=>dV (h.Sb b o c),λt C=>ci (l t C),λid hid b c=>⟨fi p c,.inl (cT (h.γn id b c).2)⟩,by simp,λ_ _ c=>fi p c,kY.same bJ dq.grown⟩
 ·intro e;subst e;rcases hid with hid|hid
  ·simp_all
  ·omega
def rZ(w:World)(b:Nat)(o:Obj):World:={ w with heap:=w.heap.setIfInBounds b o }
theorem jb{w:World}{b a:Nat}{o:Obj}(h:a≠b):(rZ w b o).heap[a]?=w.heap[a]?:=by
 simp only[rZ];grind
def kQ{w:World}{b:Nat}{o:Obj}:(rZ w b o).heap.size=w.heap.size:=by simp[rZ]
def wW{w:World}{b a o':Nat}{o:Obj}(h:a≠b):(rZ w b o).cell? ⟨a,o',none⟩=w.cell? ⟨a,o',none⟩:=by simp only[World.cell?,jb h]
def Rp.writeM(h:Rp w0 S γ β s a w){id b:Nat}{y vt:Ty}{l l':List D}{es':Array MapEntry}(E:s.ob id=some (.mp y vt l))(m:γ id=some b)(F:jf ⟨w,S,γ,β,s.ob,s.dead⟩ y vt 0 l' es'.toList) :
  Rp w0 S γ β (s.setOb id (some (.mp y vt l'))) a (rZ w b (.map es' l'.length))/\(∀ c o,S c o->(rZ w b (.map es' l'.length)).cell? ⟨c,o,none⟩=w.cell? ⟨c,o,none⟩):=by
 have hO:=h.obs id _ b E m;simp only[gl] at hO;obtain⟨A,B,C,es,G,_⟩:=hO;have q:∀ c o,S c o->c≠b:=λc o g e=>C o (e ▸ g);have I:b<w.heap.size:=(h.γn id b m).2;have hle:Cx.le ⟨w,S,γ,β,s.ob,s.dead⟩ ⟨rZ w b (.map es' l'.length),S,γ,β,(s.setOb id (some (.mp y vt l'))).ob,s.dead⟩:=by
  refine⟨λc o g=>wW (q c o g),λ_ _ g=>g,λ_ _ g=>g,λi x hx _=>?_,λv u=>⟨u,λc e he=>⟨he,λn hn=>?_⟩⟩⟩
  ·simp only[St.setOb] at hx;by_cases e:i=id
   ·subst e;simp only[if_true,zda] at hx;subst hx;exact⟨_,E,λp=>⟨rfl,rfl⟩,(λt l e=>by cases e),(λk v l e=>by cases e;exact⟨_,rfl⟩)⟩
   ·simp_all
  ·have j:c≠b:=λz=>h.βγ v id c e u he (z ▸ m);have r:mX w c=some n:=hn;show mX (rZ w b (.map es' l'.length)) c=some n;simp only[mX,bO,jb j] at r ⊢;exact r
 refine⟨⟨oP h.ext rfl rfl rfl (by simp[kQ]) (zfa _) (λc d=>jb λe=>(h.γn id b m).1 (e ▸ d)),λt J=>(h.tms t J).mono hle,h.nt,h.tmu,λi x c hx d=>?_,λi c d=>by rw[kQ];exact h.γn i c d,h.γi,h.γf,
  λv c e u he=>by rw[kQ];exact h.βn v c e u he,h.βi,h.βγ,h.βf,λc o g=>by rw[kQ];exact h.Sb c o g,h.So⟩,λc o g=>wW (q c o g)⟩
 simp only[St.setOb] at hx;by_cases e:i=id
 ·subst e;simp only[if_true,zda] at hx;subst hx;rw[m] at d;cases d;simp only[gl];refine⟨A,B,C,es',?_,F.mono hle⟩;simp only[rZ]
  simp_all
 ·rw[if_neg e] at hx;have j:c≠b:=λz=>e (h.γi i id c d (z ▸ m));exact(h.obs i x c hx d).mono hle (jb j) λ_ H=>H
theorem jf.push{c:Cx}{a vt:Ty}{k v:D}{ek ev:Value}(hk:wt a k)(b:wt vt v)(d:gD c.w c.S k ek)(f:gD c.w c.S v ev):∀ {l:List D} {es:List MapEntry} {j:Nat},jf c a vt j l es->jf c a vt j (l++[.st [k,v]]) (es++[{ key:=ek,val:=ev,born:=j+l.length }])
 | [],[],j,_=>by simp only[zcc,jf,zyb,z6b];exact⟨⟨trivial,k,v,rfl,hk,b,d,f⟩,trivial⟩
 | [],_::_,_,h=>h.elim
 | _::_,[],_,h=>h.elim
 | x::l,e::es,j,h=>by
  simp only[zqb,jf] at h ⊢;refine⟨h.1,?_⟩;have:=jf.push hk b d f h.2;grind
theorem Bi{c:Cx}{d vt:Ty}{x y:D}:∀ {l:List D} {es:List MapEntry} {j i:Nat},jf c d vt j l es->Cb l x es i=none->D.mput l x y=l++[.st [x,y]]
 | [],[],_,_,_,_=>rfl
 | [],_::_,_,_,h,_=>h.elim
 | _::_,[],_,_,h,_=>h.elim
 | z::l,e::es,j,i,h,a=>by
  simp only[jf] at h;obtain⟨⟨_,k,v,rfl,_⟩,b⟩:=h;simp only[Cb] at a;simp only[D.mput];cases hb:D.beq x k
  ·rw[hb] at a;simp only[zxa,if_false] at a ⊢;rw[Bi b a];rfl
  ·simp_all
theorem Bj{c:Cx}{d vt:Ty}{x y:D}{ek ev:Value}(q:wt vt y)(s:gD c.w c.S y ev)(r:gD c.w c.S x ek):∀ {l:List D} {es:List MapEntry} {j i n:Nat} {v0:Value},jf c d vt j l es->Cb l x es i=some (n,v0) ->
  ∃ m b,n=i+m/\es[m]?=some b/\(D.mput l x y).length=l.length/\jf c d vt j (D.mput l x y) (es.modify m λe=>{ e with key:=b.key,val:=ev })/\jf c d vt j (D.mput l x y) (es.modify m λe=>{ e with key:=ek,val:=ev })
 | [],[],_,_,_,_,_,a=>by simp[Cb] at a
 | [],_::_,_,_,_,_,h,_=>h.elim
 | _::_,[],_,_,_,_,h,_=>h.elim
 | z::l,e::es,j,i,n,v0,h,a=>by
  simp only[jf] at h;obtain⟨⟨p,k,v,rfl,B,C,E,F⟩,o⟩:=h;simp only[Cb] at a;simp only[D.mput];cases hb:D.beq x k
  ·rw[hb] at a;simp only[zxa,if_false] at a ⊢;obtain⟨m,b,t,f,g,u,A⟩:=Bj (y:=y) q s r o a;refine⟨m+1,b,by omega,by simpa using f,by simp[g],?_,?_⟩
   ·grind [List.modify_succ_cons,jf]
   ·grind [List.modify_succ_cons,jf]
  ·rw[hb] at a;simp only[if_true,zda,Prod.mk.injEq] at a;have:=He _ _ hb;subst this;simp only[if_true];refine⟨0,e,by omega,rfl,rfl,?_,?_⟩
   ·grind [List.modify_zero_cons,jf]
   ·grind [List.modify_zero_cons,jf]
def Fx(old new:Value)(w:World):∃ k d,w.drawn<=d/\(Instr.keyThatStays old new).run P w=.ok k { w with drawn:=d }/\(k=old\/k=new):=by
 unfold Instr.keyThatStays;split
 ·exact⟨new,w.drawn,zfa _,rfl,.inr rfl⟩
 ·simp only[zha,run_choose];split
  ·simp only[zea,zna];exact⟨_,w.drawn,zfa _,rfl,by split<;>simp⟩
  ·simp only[zea,zna];exact⟨_,w.drawn+1,zAc _,rfl,by split<;>simp⟩
def ws(hE:EnvOk P E)(h:Rp w0 S γ β s a w){dst T x k v ty pos after guard}{R:Type}{K:St->Option R}{r:R}
  (hq:sQ E s ⟨dst,.mapUpdate T x k v,ty,pos,after,guard⟩ K=some r):∃ s',K s'=some r/\GM P w0 S γ β s a w ⟨dst,.mapUpdate T x k v,ty,pos,after,guard⟩ s':=by
 simp only[sQ] at hq;cases dst with
 | some d=>simp at hq
 | none=>
 simp only[Option.isSome_none,zxa,if_false] at hq;replace hq:=bind_some_inv hq;obtain⟨kv,ai,hq⟩:=hq;obtain⟨a3,a4⟩:=kv;have hx:=aX h x;generalize s.opA x=ax at *;cases ax<;>(try simp only at hq)<;>first|(cases hq;done)|skip
 rename_i kt vt id;split at hq<;>first|(cases hq;done)|skip
 rename_i c;simp only[zaa,zCa] at c;obtain⟨⟨Y,f⟩,a0⟩:=c;have M:=Ty.eq_of_beq _ _ Y;have A:=Ty.eq_of_beq _ _ f;subst M;subst A;have aj:id ∉ s.lkO:=by
  simp_all
 split at hq<;>first|(cases hq;done)|skip
 rename_i t aI l I;split at hq<;>first|(cases hq;done)|skip
 rename_i f;simp only[zaa] at f;have M:=Ty.eq_of_beq _ _ f.1;have A:=Ty.eq_of_beq _ _ f.2;subst M;subst A;replace hq:=bind_some_inv hq;obtain⟨u,ad,hq⟩:=hq;replace hq:=bind_some_inv hq;obtain⟨L,an,hq⟩:=hq;obtain⟨hc,KT,VT,hu,q,ak,hh⟩:=hE.mapL T _ _ ai;have H:=aJ _ _ q;have al:=aJ _ _ ak;obtain⟨Q,J⟩:=oG H (aX h k) ad;obtain⟨v1,v2⟩:=oG al (aX h v) an;simp only[AR,AC] at hx;obtain⟨na,b,Z,O,_,_,_⟩:=hx;have hv:=au na Z;have hO:=h.obs id _ b I O;simp only[gl] at hO;obtain⟨_,_,a1,es,g,N⟩:=hO;have i1:gG t (a.eval k).cells.toList (a.eval k):=⟨rfl,po Q H J.1⟩;have rc:=jR (S:=S) (w:=w) t KT u _ _ 10000 false q hc (by omega) Q J.2 i1 w
 have U:=uL (P:=P) q hc hh Q J w N;have hex:(execOp a.eval ⟨none,.mapUpdate T x k v,ty,pos,after,guard⟩)=(Instr.mapUpdate T (a.eval x) (a.eval k) (a.eval v) >>= λ_=>pure .skip):=rfl;have G:b<w.heap.size:=(h.γn id b O).2;have run:∃ es' d,w.drawn<=d/\jf ⟨w,S,γ,β,s.ob,s.dead⟩ t aI 0 (D.mput l u L) es'.toList/\(execOp a.eval ⟨none,.mapUpdate T x k v,ty,pos,after,guard⟩).run P w=.ok .skip (rZ { w with drawn:=d } b (.map es' (D.mput l u L).length)):=by
  rw[hex,hv];cases hf:Cb l u es.toList 0 with
  | none=>
   rw[hf] at U;have hm:=Bi (y:=L) N hf;refine⟨es.push { key:=a.eval k,val:=a.eval v,born:=l.length },w.drawn,zfa _,?_,?_⟩
   ·rw[hm,zvd];have:=jf.push Q v1 J v2 N
    rwa [zWa] at this
   ·have hl:(D.mput l u L).length=l.length+1:=by rw[hm];simp
    rw[hl];simp only[Instr.mapUpdate,zha,run_underlying hu,zea,lz g,rc,U];simp[setObj,Sem.run,g,rZ]
  | some p=>
   obtain⟨n,v0⟩:=p;rw[hf] at U;obtain⟨m,e0,M,A,e3,e4,e5⟩:=Bj (ek:=a.eval k) v1 v2 J N hf;have V:n=m:=by omega
   subst V;have W:es[n]?=some e0:=by simpa using A
   obtain⟨kk,d,C,r1,r2⟩:=Fx (P:=P) e0.key (a.eval k) w;refine⟨es.modify n λe=>{ e with key:=kk,val:=a.eval v },d,C,?_,?_⟩
   ·rw[Array.toList_modify];all_goals grind
   ·rw[e3];simp only[Instr.mapUpdate,zha,run_underlying hu,zea,lz g,rc,U,W,zvb,zOb,r1];simp[setObj,Sem.run,g,rZ]
 obtain⟨es',d,F,X,j⟩:=run;have hg:({ w with drawn:=d }:World)=grown w [] d:=by simp[grown]
 rw[hg] at j;obtain⟨g1,g2⟩:=h.grow (os:=[]) (d:=d) F (S':=S) (λ_ _ c=>c) (λ_ _ c=>.inl c);obtain⟨w1,w2⟩:=g1.writeM (l':=D.mput l u L) (es':=es') I O (X.mono g2);refine⟨_,hq,rfl,rfl,rfl,rfl,λi hi _=>?_,.skip j ⟨S,γ,β,w1,?_,λ_ _=>⟨rfl,rfl⟩⟩⟩
 ·refine nc s _ λe=>?_
  simp_all
 ·refine⟨λ_ _ c=>c,λz o c=>(w2 z o c).trans (g2.cell z o c),λ_ _=>rfl,λi hi z B=>⟨B,.inl ?_⟩,by rw[kQ];simp,λ_ _ c=>c,kY.same rfl (dq.but b (λz c G=>(jb c).trans (cT G)) (FD g))⟩
  have a2:z≠b:=λe=>by
   subst e;exact aj ((h.γi id i _ O B) ▸ hi)
  grind [jb]
end
end Sy
end
noncomputable section
namespace Sy
open Go
def CR.at_{w:World}{S:Nat->Nat->Prop}{l:List D}{b off n cap:Nat}(h:CR w S (.sl l) (.slice (some ⟨b,off,none⟩) n cap)):qO w S b off (D.flats l):=by
 obtain⟨A,d,j,f,e,a,k,g⟩:=h.elems;simp only[Value.slice.injEq] at e;rcases a with rfl|a
 ·exact⟨[],df.nil,λi c hc=>by simp at hc⟩
 ·rw[<-e.1] at a;cases a;exact g
def vF{w:World}{b n:Nat}(h:mX w b=some n):∃ c,bO w b=some c/\c.size=n:=by
 simp_all [mX]
def ri{w:World}{b off o:Nat}{c cs:Array Value}(h:bO w b=some c)(d:off+cs.size<=c.size)(a:o<off):(putAt w b off cs).cell? ⟨b,o,none⟩=w.cell? ⟨b,o,none⟩:=by
 simp_all [cell_of_row,gS,lP]
def wl{w:World}{b off o:Nat}{c cs:Array Value}(h:bO w b=some c)(a:off+cs.size<=c.size)(d:o<cs.size):(putAt w b off cs).cell? ⟨b,off+o,none⟩=cs[o]?:=by
 rw[cell_of_row _ (gS h),lP _ _ _ _ a,if_neg (by omega),if_pos (by omega),zFb]
section
variable{P:Program}{E:Env}{w0:Root}{S:Nat->Nat->Prop}{γ:Nat->Option Nat}{β:Nat->Option (Nat×Nat)}{s:St}{a:Act}{w:World}
def IF(h:Rp w0 S γ β s a w){v v' b off:Nat}{e:Ty}{l l':List D}{cap n:Nat}{g:List Value}(hn:aq e=true)(hl:∀ x∈l,wt e x)(hl':∀ x∈l',wt e x)(L:v ∉ s.dead)(M:β v=some (b,off+l.length*e.size))(hr:mX w b=some n)(R:off+cap*e.size<=n)
  (A:l.length+l'.length<=cap) (hc:qO w S b off (D.flats l)) (Q:df w S (D.flats l') g) (Z:β v'=none) (hi:v'<s.base+4096) :
  ∃ S' β',Rp w0 S' γ β' { s with dead:=v::s.dead } a (putAt w b (off+l.length*e.size) g.toArray) ∧
   AR ⟨putAt w b (off+l.length*e.size) g.toArray,S',γ,β',s.ob,v::s.dead⟩ (.own e v' (l++l')) (.slice (some ⟨b,off,none⟩) (l.length+l'.length) cap) ∧
   (∀ b o,S b o->S' b o)/\(∀ j o,S j o->(putAt w b (off+l.length*e.size) g.toArray).cell? ⟨j,o,none⟩=w.cell? ⟨j,o,none⟩)/\(∀ u,u≠v'->β' u=β u):=by
 obtain⟨c,y,Y⟩:=vF hr;have F:g.length=l'.length*e.size:=by rw[<-Q.1];exact aF hn l' hl'
 generalize he0:off+l.length*e.size=r at *;obtain⟨H,N,O⟩:=h.βn v b r L M;have E:r+g.toArray.size<=c.size:=by
  simp only[zMc,F,Y];have:(l.length+l'.length)*e.size<=cap*e.size:=zya _ A;rw[z8a] at this;omega
 let S':Nat->Nat->Prop:=λj o=>S j o\/(j=b/\r<=o/\o<r+g.length)
 have q:∀ j o,S j o->(putAt w b r g.toArray).cell? ⟨j,o,none⟩=w.cell? ⟨j,o,none⟩:=λj o P=>by
  by_cases e:j=b
  ·subst e;exact ri y E (Nat.lt_of_not_le λm=>O o m P)
  ·exact ck e
 have nd:∀ {u},u ∉ v::s.dead->u ∉ s.dead/\u≠v:=λhu=>⟨λm=>hu (zia _ m),λm=>hu (m ▸ zoa)⟩;have hle:Cx.le ⟨w,S,γ,β,s.ob,s.dead⟩ ⟨putAt w b r g.toArray,S',γ,pn β v' (b,r+g.length),s.ob,v::s.dead⟩:=
  ⟨q,λ_ _ P=>.inl P,λ_ _ k=>k,λid o K _=>⟨o,K,λp=>⟨rfl,rfl⟩,λt l e=>⟨l,e,rfl⟩,λ_ _ l e=>⟨l,e⟩⟩,λu hu=>⟨(nd hu).1,λj e he=>⟨fi Z he,λn hn=>by rw[kK y E];exact hn⟩⟩⟩
 have X:Rp w0 S' γ (pn β v' (b,r+g.length)) { s with dead:=v::s.dead } a (putAt w b r g.toArray):=by
  refine⟨oP h.ext rfl rfl rfl (by simp) (zfa _) (λj d=>cL (λe=>H (e ▸ d))),λt ht=>(h.tms t ht).mono hle,h.nt,h.tmu,λid o j K d=>?_,λid j d=>by simpa using h.γn id j d,h.γi,h.γf,λu j e hu he=>?_,λu W j e e' hu I he z=>?_,λu id j e hu he=>?_,λu hu=>?_,λj o d=>?_,λj o d C=>?_⟩
  ·have T:j≠b:=λe=>h.βγ v id b r L M (e ▸ d);refine(h.obs id o j K d).mono hle (cL T) λo m=>?_;rcases m with m|m
   ·exact m
   ·exact absurd m.1 T
  ·obtain⟨B,J⟩:=nd hu;by_cases e1:u=v'
   ·subst e1;rw[bG] at he;cases he;refine⟨H,by simpa using N,λo K m=>?_⟩
    rcases m with m|m
    ·exact O o (by omega) m
    ·omega
   ·rw[ce β _ e1] at he;obtain⟨V,k2,k3⟩:=h.βn u j e B he;refine⟨V,by simpa using k2,λo K m=>?_⟩
    rcases m with m|m
    ·exact k3 o K m
    ·obtain⟨m,_⟩:=m;subst m;exact J (h.βi u v j _ _ B L he M)
  ·obtain⟨B,J⟩:=nd hu;obtain⟨G,U⟩:=nd I;by_cases e1:u=v'
   ·by_cases e2:W=v'
    ·rw[e1,e2]
    ·subst e1;rw[bG] at he;cases he;rw[ce β _ e2] at z;exact absurd (h.βi W v b _ _ G L z M) U
   ·by_cases e2:W=v'
    ·subst e2;rw[bG] at z;cases z;rw[ce β _ e1] at he;exact absurd (h.βi u v b _ _ B L he M) J
    ·rw[ce β _ e1] at he;rw[ce β _ e2] at z;exact h.βi u W j e e' B G he z
  ·by_cases e1:u=v'
   ·subst e1;rw[bG] at he;cases he;exact h.βγ v id b r L M
   ·rw[ce β _ e1] at he;exact h.βγ u id j e (nd hu).1 he
  ·have I:s.base+4096<=u:=hu;rw[ce β _ (by omega)]
   exact h.βf u I
  ·rcases d with d|d
   ·simpa using h.Sb j o d
   ·simpa [d.1] using N
  ·rcases d with d|d
   ·exact h.So j o d C
   ·exact absurd (d.1 ▸ C) H
 refine⟨S',_,X,?_,λ_ _ P=>.inl P,q,λu hu=>ce β _ hu⟩;simp only[AR,AC,Value.cells];refine⟨by simp,hn,λx hx=>(List.mem_append.1 hx).elim (hl x) (hl' x),some ⟨b,off,none⟩,cap,by rw[zua],?_,λ_=>.inr ⟨b,off,rfl,?_,n,by show mX (putAt w b r g.toArray) b=some n;rw[kK y E];exact hr,R⟩⟩
 ·obtain⟨cs,V,k2⟩:=hc;refine CR.of_elems (.inr rfl) (by rw[zua];exact A) ⟨cs++g,?_,λi x hx=>?_⟩
  ·rw[cl];exact(V.append Q).mono q λ_ _ m=>.inl m
  ·have len:cs.length=l.length*e.size:=by rw[<-V.1];exact aF hn l hl
   rw[zQc] at hx;by_cases hi2:i<cs.length
   ·rw[if_pos hi2] at hx;obtain⟨m1,m2⟩:=k2 i x hx;exact⟨.inl m1,(q _ _ m1).trans m2⟩
   ·rw[if_neg hi2] at hx;have C:=(zka.1 hx).1;refine⟨.inr ⟨rfl,by omega,by omega⟩,?_⟩
    rw[show off+i=r+(i-cs.length) by omega,wl y E (by simpa using C)]
    simpa using hx
 ·show pn β v' (b,r+g.length) v'=_;rw[bG,zua,F,z8a];congr 2;omega
def vH{T T' u':TypeId}{e:Ty}(X:bK P (.sl e) T=true)(o:P.underlying T'=some (.slice u')){A:Option Addr}{len cap:Nat}{l l':List D}{r:Value}(ty:TypeId)(hlen:len=l.length)(hl:∀ x∈l,wt e x)(hl':∀ x∈l',wt e x)
  (hx:CR w S (.sl l) (.slice A len cap)) (E:CR w S (.sl l') r) (hb:l.length+l'.length<=1073741824) :
  ∃ cs i:List Value,df w S (D.flats l) cs/\df w S (D.flats l') i/\∃ u,
   (l.length+l'.length<=cap->(A=none->(Builtin.append_ #[T,T'] ty #[.slice A len cap,r]).run P w=.ok (.slice none (l.length+l'.length) cap) w) ∧
    (∀ b off c,A=some ⟨b,off,none⟩->bO w b=some c->off+cap*e.size<=c.size->(Builtin.append_ #[T,T'] ty #[.slice A len cap,r]).run P w=.ok (.slice A (l.length+l'.length) cap) (putAt w b (off+l.length*e.size) i.toArray))) ∧
   (cap<l.length+l'.length->∃ a rest,l.length+l'.length<=a/\(cs++i).length+rest.length=a*e.size ∧
    (Builtin.append_ #[T,T'] ty #[.slice A len cap,r]).run P w=.ok (.slice (some ⟨w.heap.size,0,none⟩) (l.length+l'.length) a) (grown w [.cells ((cs++i)++rest).toArray u] (w.drawn+1))):=by
 subst hlen;obtain⟨u,U,C⟩:=jp X;have hn:aq e=true:=aJ _ _ C;obtain⟨i0,z0,J,Z,nX,K,L,_⟩:=fT (gO C);have O:CR { w with drawn:=w.drawn+1 } S (.sl l) (.slice A l.length cap):=CR.mono (w:=w) (w':={ w with drawn:=w.drawn+1 }) (S:=S) (S':=S) (λ_ _ _=>rfl) (λ_ _ h=>h) hx;have Q:CR { w with drawn:=w.drawn+1 } S (.sl l') r:=CR.mono (w:=w) (w':={ w with drawn:=w.drawn+1 }) (S:=S) (S':=S) (λ_ _ _=>rfl) (λ_ _ h=>h) E;obtain⟨cs,c1,c2⟩:=jA (P:=P) hn hl O;obtain⟨i,d1,d2⟩:=jA (P:=P) hn hl' E;obtain⟨d,d3,d4⟩:=jA (P:=P) hn hl' Q;have len:cs.length=l.length*e.size:=by rw[<-c1.1];exact aF hn l hl
 have k:i.length=l'.length*e.size:=by rw[<-d1.1];exact aF hn l' hl'
 have m:d.length=l'.length*e.size:=by rw[<-d3.1];exact aF hn l' hl'
 have I:d=i:=by
  obtain⟨A',s,b,off,p,V,q2,q3⟩:=E.elems;subst p;have n:=d2;have q:=d4;cases A' with
  | none=>
   simp only[Builtin.firstCells,zna,Result.ok.injEq] at n q;have:=n.1.symm.trans q.1;simpa using this.symm
  | some A'=>
   rcases V with rfl|V
   ·simp at k m;rw[k,m]
   ·cases V;obtain⟨F,r1,W⟩:=q3;have M:F.length=l'.length*e.size:=by rw[<-r1.1];exact aF hn l' hl'
    have f1:=run_loadCells_list (P:=P) w ⟨b,off,none⟩ F (λj v p=>by rw[dA];exact(W j v p).2)
    have f2:=run_loadCells_list (P:=P) { w with drawn:=w.drawn+1 } ⟨b,off,none⟩ F (λj v p=>by rw[dA];exact(W j v p).2)
    simp only[Builtin.firstCells] at n q;rw[M] at f1 f2;rw[f1] at n;rw[f2] at q;simp only[Result.ok.injEq] at n q;have:=n.1.symm.trans q.1;simpa using this.symm
 subst I;have f:(Builtin.lenOf r).run P w=.ok l'.length w:=by
  obtain⟨A',s,b,off,p,_⟩:=E.elems;subst p;rfl
 refine⟨cs,d,df.mono (w:={ w with drawn:=w.drawn+1 }) (w':=w) (S:=S) (S':=S) (λ_ _ _=>rfl) (λ_ _ h=>h) c1,d1,u,λg=>⟨λG=>?_,λb off c G z ad=>?_⟩,λg=>?_⟩
 ·subst G;simp only[Builtin.append_,zLc,zQb,zjb,zha,run_underlying U,run_underlying o,zea,cm C,zna,zxa,if_false,f,g,if_true,zPb,d2]
 ·subst G;have B:=cN (P:=P) b (off+l.length*e.size) d 0 w c z (by
   have:(l.length+l'.length)*e.size<=cap*e.size:=zya _ g;rw[z8a] at this;omega) (by rw[zma];intro x hx;have:=d1.nag x hx;cases x<;>simp_all [Value.oneCell',lY])
  simp only[z6b] at B;simp only[Builtin.append_,zLc,zQb,zjb,zha,run_underlying U,run_underlying o,zea,cm C,zna,zxa,if_false,f,g,if_true,zPb,d2,dA,B]
 ·have N:¬ (l.length+l'.length<=cap):=by omega
  have H:¬ (Builtin.nextslicecap (l.length+l'.length) cap*i0.bytes>2^48):=by
   have h1:=CX g;have h2:Builtin.nextslicecap (l.length+l'.length) cap*i0.bytes<=(2*1073741824+200)*16384:=zUa (by omega) nX.1
   omega
  have y:¬ (((l.length+l'.length:Nat):Int)>IntKind.i64.max):=by
   have:IntKind.i64.max=9223372036854775807:=by decide
   omega
  let t:=w.tape w.drawn (.appendCap (l.length+l'.length) cap u)
  let a:=l.length+l'.length+t%(2^63-(l.length+l'.length))
  have R:z0.cells.size=e.size:=by
   have:=(cJ (w:=w) (S:=S) L).1;rw[<-zNb,<-this];exact cF _ _ (db e hn) hn
  refine⟨a,(Builtin.zeroCells z0.cells (a-(l.length+l'.length))).toList,by omega,?_,?_⟩
  ·have:(Builtin.zeroCells z0.cells (a-(l.length+l'.length))).toList.length=(a-(l.length+l'.length))*e.size:=by simp[Builtin.zeroCells,R]
   rw[this,zua,len,k,<-z8a,<-z8a];congr 1;omega
  ·have Y:Question.forced (.appendCap (l.length+l'.length) cap u)=false:=rfl;simp only[Builtin.append_,zLc,zQb,zjb,zha,run_underlying U,run_underlying o,zea,cm C,zna,zxa,if_false,f,N,zPb,if_true,typeInfo,run_program,J,false_or,y,false_and,H,run_choose,Y,run_askRoom,c2,d4,zeroValue,K,newRow,run_newObj];have n:(cs++d++(Builtin.zeroCells z0.cells (a-(l.length+l'.length))).toList).toArray=cs.toArray++d.toArray++Builtin.zeroCells z0.cells (a-(l.length+l'.length)):=by simp
   rw[n];simp only[grown];rw[zEd];rfl
def Cy(hE:EnvOk P E)(h:Rp w0 S γ β s a w){dst args argTypes ty pos after guard}(hf:Fr E s γ β ⟨dst,.call ⟨.builtin .append,args,argTypes⟩,ty,pos,after,guard⟩)(k:∀ t∈s.lkS,dst≠some t){R:Type}{K:St->Option R}{r:R}
  (hq:sQ E s ⟨dst,.call ⟨.builtin .append,args,argTypes⟩,ty,pos,after,guard⟩ K=some r):∃ s',K s'=some r/\GM P w0 S γ β s a w ⟨dst,.call ⟨.builtin .append,args,argTypes⟩,ty,pos,after,guard⟩ s':=by
 simp only[sQ] at hq;replace hq:=bind_some_inv hq;obtain⟨T,hT,hq⟩:=hq;replace hq:=bind_some_inv hq;obtain⟨t,m,hq⟩:=hq;replace hq:=bind_some_inv hq;obtain⟨d,N,hq⟩:=hq;split at hq<;>first|(cases hq;done)|skip
 rename_i e x y T0 T' G q;split at hq<;>first|(cases hq;done)|skip
 rename_i e2 aj;replace hq:=bind_some_inv hq;obtain⟨l',hl',hq⟩:=hq;obtain⟨an,hγ,hβ,_⟩:=hf rfl d N;rcases hE.lay T _ m with⟨ak,I⟩|hl
 ·cases I
 rcases hE.lay T' _ aj with⟨ak,I⟩|O
 ·cases I
 obtain⟨u2,V,_⟩:=jp O;have hn:=aJ _ _ hl;simp only[aq] at hn;have ad:T0=T:=by
  have:argTypes=#[T0,T']:=zpc (by simpa using q)
  simp_all
 subst ad;have eT:argTypes=#[T0,T']:=zpc (by simpa using q)
 have eA:args.map a.eval=#[a.eval x,a.eval y]:=zpc (by simp[G])
 have hex:execOp a.eval ⟨dst,.call ⟨.builtin .append,args,argTypes⟩,ty,pos,after,guard⟩=(Builtin.append_ #[T0,T'] ty #[a.eval x,a.eval y] >>= λv=>pure (.value v)):=by
  rw[<-eA,<-eT];rfl
 obtain⟨Z,y2⟩:=kl hn (aX h y) hl';have hx:=aX h x;have own:∀ id:Nat,(dst≠some (id-s.base)\/id<s.base)->id≠s.base+d:=λid hid e=>by
  subst e;rcases hid with hid|hid
  ·simp_all
  ·omega
 split at hq<;>first|(cases hq;done)|skip
 ·
  rename_i e' v l H;rw[H] at hx;split at hq<;>first|(cases hq;done)|skip
  rename_i f;split at hq<;>first|(cases hq;done)|skip
  rename_i hlen;simp only[zaa,zCa] at f;have:=Ty.eq_of_beq _ _ f.1;subst this;have J:v ∉ s.dead:=λhh=>by
   simp_all
  simp only[AR,AC] at hx;obtain⟨x0,x1,x2,A,cap,C,x4,x5⟩:=hx;have C:=au x0 C;obtain⟨cs,F,c1,c2,u,r1,r2⟩:=vH (P:=P) (w:=w) (S:=S) hl V ty rfl x2 Z x4 y2 hlen;obtain⟨p1,p2,p3,p4,p5,p6,p7⟩:=St.put_fields { s with dead:=v::s.dead } dst (.own e' (s.base+d) (l++l'));refine⟨_,hq,p5,p6,p2,p4,λid _ _=>by rw[p1],?_⟩
  rcases zla cap (l.length+l'.length) with g|g
  ·obtain⟨j,rest,n1,n2,n3⟩:=r2 g;obtain⟨b1,b2⟩:=h.bury v;obtain⟨S',β',W,B,X,Y,k5,k6⟩:=zr b1 (v:=s.base+d) hβ (by show s.base+d<s.base+4096;omega) hn (l:=l++l') (λz hz=>(List.mem_append.1 hz).elim (x2 z) (Z z)) (cs:=cs++F) (by rw[cl];exact c1.append c2) (T:=u) (rest:=rest) (cap:=j) (w.drawn+1) (zAc _) (by rw[zua];exact n1) n2
   rw[zua] at B;refine .value (by rw[hex,C];simp only[zha,n3,zea,zna]) ⟨S',γ,β',W.put B dst,⟨X,λb o f=>dV (h.Sb b o f),λt m=>ci (k t m),λid hid b f=>⟨f,.inl (cT (h.γn id b f).2)⟩,by simp,λ_ _ f=>f,kY.same bJ dq.grown⟩,λid hid=>⟨rfl,Y id (own id hid)⟩⟩
  ·obtain⟨r3,r4⟩:=r1 g;rcases x5 J with⟨rfl,rfl⟩|⟨b,off,rfl,M,n,Q,ai⟩
   ·have z1:l=[]:=by apply List.eq_nil_of_length_eq_zero;omega
    have z2:l'=[]:=by simp_all
    obtain⟨b1,b2⟩:=h.bury v;subst z1;subst z2;refine .value (by rw[hex,C];simp only[zha,r3 rfl,zea,zna];rfl) ⟨S,γ,β,b1.put (t7 hn) dst,⟨λ_ _ f=>f,λ_ _ _=>rfl,λt m=>ci (k t m),λid hid b f=>⟨f,jL.refl _ _⟩,zfa _,λ_ _ f=>f,kY.same bJ (dq.refl _)⟩,λid hid=>⟨rfl,rfl⟩⟩
   ·obtain⟨c,p,al⟩:=vF Q;obtain⟨S',β',W,B,X,Y,k5⟩:=IF h (v':=s.base+d) hn x2 Z J M Q ai g x4.at_ c2 hβ (by omega)
    refine .value (by rw[hex,C];simp only[zha,r4 b off c rfl p (by omega),zea,zna]) ⟨S',γ,β',W.put B dst,⟨X,Y,λt m=>ci (k t m),λid hid b' L=>⟨L,.inl (cL λe=>h.βγ v id b _ J M (e ▸ L))⟩,by simp,λ_ _ f=>f,kY.same bJ (dq.putAt p)⟩,λid hid=>⟨rfl,k5 id (own id hid)⟩⟩
 ·
  rename_i H;rw[H] at hx;split at hq<;>first|(cases hq;done)|skip
  rename_i hlen;simp only[AR,AC] at hx;have C:=au hx.1 hx.2;have U:CR w S (.sl []) (.slice none 0 0):=.sl [] none 0 0 0 (λ_=>undef) (.inl rfl) (zfa 0) (λi d N=>by simp[D.flats] at N) (λi d N=>by simp[D.flats] at N)
  obtain⟨cs,F,c1,c2,u,r1,r2⟩:=vH (P:=P) (w:=w) (S:=S) hl V (len:=0) ty (l:=[]) rfl (λx hx=>by simp at hx) Z U y2 (by simpa using hlen)
  obtain⟨p1,p2,p3,p4,p5,p6,p7⟩:=St.put_fields s dst (.own e (s.base+d) l');refine⟨_,hq,p5,p6,p2,p4,λid _ _=>by rw[p1],?_⟩
  rcases zla 0 l'.length with g|g
  ·obtain⟨j,rest,n1,n2,n3⟩:=r2 (by simpa using g)
   obtain⟨S',β',W,B,X,Y,k5,k6⟩:=zr h (v:=s.base+d) hβ (by omega) hn (l:=[]++l') (λz hz=>Z z (by simpa using hz)) (cs:=cs++F) (by rw[cl];exact c1.append c2) (T:=u) (rest:=rest) (cap:=j) (w.drawn+1) (zAc _) (by rw[zua];exact n1) n2
   rw[zua] at B;rw[zcc] at B;refine .value (by rw[hex,C];simp only[zha,n3,zea,zna]) ⟨S',γ,β',W.put B dst,⟨X,λb o f=>dV (h.Sb b o f),λt m=>ci (k t m),λid hid b f=>⟨f,.inl (cT (h.γn id b f).2)⟩,by simp,λ_ _ f=>f,kY.same bJ dq.grown⟩,λid hid=>⟨rfl,Y id (own id hid)⟩⟩
  ·have z2:l'=[]:=by apply List.eq_nil_of_length_eq_zero;omega
   subst z2;obtain⟨r3,_⟩:=r1 (by simp)
   refine .value (by rw[hex,C];simp only[zha,r3 rfl,zea,zna];rfl) ⟨S,γ,β,h.put (t7 hn) dst,⟨λ_ _ f=>f,λ_ _ _=>rfl,λt m=>ci (k t m),λid hid b f=>⟨f,jL.refl _ _⟩,zfa _,λ_ _ f=>f,kY.same bJ (dq.refl _)⟩,λid hid=>⟨rfl,rfl⟩⟩
def Ac{k:IntKind}{l:List D}(h:∀ x∈l,wt (.int k) x):D.flats l=l:=by
 induction l with
 | nil=>rfl
 | cons x l ih=>
  obtain⟨n,rfl⟩:∃ n,x=.int k n:=by have:=h x zoa;simpa only[wt] using this
  rw[D.flats,ih λy a=>h y (zia _ a)];rfl
def BT{x:D}{l:List D}(h:x.stl=some l):x=.st l:=by
 cases x<;>simp[D.stl] at h;rw[h]
def HN(hE:EnvOk P E)(h:Rp w0 S γ β s a w){dst args argTypes ty pos after guard}(a1:∀ t∈s.lkS,dst≠some t){R:Type}{K:St->Option R}{r:R}
  (hq:sQ E s ⟨dst,.call ⟨.builtin .copy,args,argTypes⟩,ty,pos,after,guard⟩ K=some r):∃ s',K s'=some r/\GM P w0 S γ β s a w ⟨dst,.call ⟨.builtin .copy,args,argTypes⟩,ty,pos,after,guard⟩ s':=by
 simp only[sQ] at hq;split at hq<;>first|(cases hq;done)|skip
 rename_i x y T0 T' T an;split at hq<;>first|(cases hq;done)|skip
 rename_i k ht;split at hq<;>first|(cases hq;done)|skip
 rename_i e id lo n e' bj p' q n' a5 a6;split at hq<;>first|(cases hq;done)|skip
 rename_i m f g x1 o' X Q;have hx:=aX h x;have hy:=aX h y;rw[a5] at hx;rw[a6] at hy;simp only[AR,AC,if_true] at hx hy;obtain⟨x0,_,b,off,cap,x3,x4,x5⟩:=hx;obtain⟨y0,_,F,bp,bl,y3,y4,y5⟩:=hy;have x3:=au x0 x3;have y3:=au y0 y3;obtain⟨bk,w1,w2,rfl⟩:=y5 _ Q;have aI:=h.obs bj _ F Q y4;replace hq:=nK aI w1 hq;obtain⟨a2,C,hq,p5,pf,_,pc⟩:=hq;split at hq<;>first|(cases hq;done)|skip
 rename_i m' f' y1;cases oQ pf;split at hq<;>first|(cases hq;done)|skip
 rename_i G;simp only[zaa,zCa] at G;obtain⟨⟨⟨⟨b1,b2⟩,b3⟩,b5⟩,b7⟩:=G;have:=Ty.eq_of_beq _ _ b1;subst this;have:=Ty.eq_of_beq _ _ b2;subst this;have:=Ty.eq_of_beq _ _ b3;subst this;have:=Ty.eq_of_beq _ _ b5;subst this;replace hq:=bind_some_inv hq;obtain⟨l,hl,hq⟩:=hq;replace hq:=bind_some_inv hq;obtain⟨l',hl',hq⟩:=hq;have:=BT hl;subst this;have:=BT hl';subst this;have a3:id ∉ s.lkO:=by
  simp_all
 obtain⟨mm,z1,z2,rfl⟩:=x5 _ X;simp only[fg,aQ,zda,Ty.arr.injEq,and_true] at z1;subst z1;have hO:=h.obs id _ b X x4;simp only[gl] at hO;obtain⟨o1,o2,o3,cs,o4,o5,o6⟩:=hO;simp only[AC] at o5 p5;obtain⟨q1,q2,q3⟩:=o5;obtain⟨r1,r2,Y⟩:=p5;simp only[wt] at q1 r1;obtain⟨_,⟨rfl⟩,q4,q5⟩:=q1;obtain⟨_,⟨rfl⟩,r4,r5⟩:=r1;simp only[D.flat] at q3 Y;rw[Ac q5] at q3;rw[Ac r5] at Y;obtain⟨c,hc⟩:∃ c,c=min n' n:=⟨_,rfl⟩;rw[<-hc] at hq;have bs:cs.length=m:=by rw[<-q3.1,q4]
 have bm:C.length=bk:=by rw[<-Y.1,r4]
 have eo:cC (.one (.arr m (.int k)) (.d (.arr m (.int k)) (.st l))) []+lo*(Ty.int k).size=lo:=by simp[cC,be,Ty.size]
 obtain⟨O,a0⟩:∃ O,O=cC o' p':=⟨_,rfl⟩;rw[<-a0] at pc y3;have ax:O+q*(Ty.int k).size=O+q:=by simp[Ty.size]
 rw[eo] at x3;rw[ax] at y3;have W:(loadCells ⟨F,O+q,none⟩ c).run P w=.ok ((C.drop q).take c).toArray w:=by
  have:=run_loadCells_list (P:=P) w ⟨F,O+q,none⟩ ((C.drop q).take c) (λj v hv=>by
   have hj:j<c:=by have:=(zka.1 hv).1;simp at this;omega
   rw[zBb hj,zmb] at hv;rw[dA,show O+q+j=O+(q+j) by omega]
   exact pc _ _ hv)
  rwa [show((C.drop q).take c).length=c by simp;omega] at this
 have bi:lo+((C.drop q).take c).toArray.size<=cs.toArray.size:=by simp;omega
 have ak:((C.drop q).take c).all lY=true:=by
  rw[zma];intro v hv;obtain⟨j,hj,rfl⟩:=zQa (zUb (zJa hv));have ai:j<l'.length:=by rw[Y.1];exact hj
  have U:=Y.2 j l'[j] C[j] (zca ai) (zca hj);obtain⟨nn,hn⟩:∃ nn,l'[j]=.int k nn:=by have:=r5 l'[j] (zza ai);simpa only[wt] using this
  rw[hn] at U;generalize C[j]=v at U;cases U;rfl
 have al:=cN (P:=P) b lo ((C.drop q).take c) 0 w cs.toArray o4 (by simp;omega) ak
 obtain⟨u,hu,a4⟩:=jp (jU hE ht (by rfl))
 have a9:=cm a4 w;have eT:argTypes=#[T0,T']:=zpc (by simpa using an)
 have eA:args.map a.eval=#[a.eval x,a.eval y]:=zpc (by simp[T])
 have hex:execOp a.eval ⟨dst,.call ⟨.builtin .copy,args,argTypes⟩,ty,pos,after,guard⟩=(Builtin.copy_ #[T0,T'] ty #[a.eval x,a.eval y] >>= λv=>pure (.value v)):=by
  rw[<-eA,<-eT];rfl
 have aj:df w S (l.take lo++((l'.drop q).take c++l.drop (lo+c))) (cs.take lo++((C.drop q).take c++cs.drop (lo+c))):=by
  have part:∀ {A:List D} {B:List Value} (i:Nat),df w S A B->df w S (A.take i) (B.take i)/\df w S (A.drop i) (B.drop i):=λ{A B} i J=>by
   have e:A=A.take i++A.drop i:=(zqa i A).symm;have N:=J;rw[e] at N;obtain⟨k1,k2⟩:=N.split;rw[zgb,<-e] at *;rcases Nat.le_total i A.length with H|H
   ·rw[zwb H] at k1 k2;exact⟨k1,k2⟩
   ·rw[znb H,znb (by rw[<-J.1];exact H),zsc H,zsc (by rw[<-J.1];exact H)]
    exact⟨J,df.nil⟩
  exact(part lo q3).1.append ((part c (part q Y).2).1.append (part (lo+c) q3).2)
 have I:wt (.arr m (.int k)) (.st (l.take lo++((l'.drop q).take c++l.drop (lo+c)))):=by
  simp only[wt];refine⟨_,rfl,by simp;omega,λz M=>?_⟩
  rcases List.mem_append.1 M with M|M
  ·exact q5 z (zJa M)
  rcases List.mem_append.1 M with M|M
  ·exact r5 z (zUb (zJa M))
  ·exact q5 z (zUb M)
 have V:(D.st (l.take lo++((l'.drop q).take c++l.drop (lo+c)))).flat=l.take lo++((l'.drop q).take c++l.drop (lo+c)):=by
  simp only[D.flat];simp only[wt] at I;obtain⟨_,⟨rfl⟩,_,t3⟩:=I;exact Ac t3
 have ad:∀ F o,S F o->F≠b:=λF o G e=>o3 o (e ▸ G);have L:eK cs.toArray lo ((C.drop q).take c).toArray=(cs.take lo++((C.drop q).take c++cs.drop (lo+c))).toArray:=by
  have e:cs=cs.take lo++((cs.drop lo).take c++(cs.drop lo).drop c):=by rw[zqa,zqa]
  have e2:(cs.take lo).length=lo:=by rw[zgb];omega
  conv=>lhs;rw[e]
  rw[zGd];have:=iA (cs.take lo) ((cs.drop lo).take c) (cs.drop (lo+c)) ((C.drop q).take c) (by simp;omega)
  rw[e2] at this;exact this
 obtain⟨n1,n2⟩:=h.write (o':=.one (.arr m (.int k)) (.d (.arr m (.int k)) (.st (l.take lo++((l'.drop q).take c++l.drop (lo+c)))))) X x4 o3 o4 bi (λp=>⟨rfl,rfl⟩) (λt l e=>by cases e) (λ_ _ _ e=>by cases e) (by
  simp only[gl];refine⟨o1,o2,o3,cs.take lo++((C.drop q).take c++cs.drop (lo+c)),by rw[gS o4,L],?_,by simp[Ty.size] at *;omega⟩
  simp only[AC];refine⟨I,q2,?_⟩;rw[V];exact aj.mono (λF o G=>ck (ad F o G)) λ_ _ hh=>hh)
 obtain⟨f1,f2,f3,f4,f5,f6,f7⟩:=St.put_fields (s.setOb id (some (.one (.arr m (.int k)) (.d (.arr m (.int k)) (.st (l.take lo++((l'.drop q).take c++l.drop (lo+c)))))))) dst (.d (.int .i64) (.int .i64 (c:Nat)));refine⟨_,hq,f5,f6,f2,f4,λi H _=>?_,.value (v:=.int .i64 (c:Nat)) (w':=putAt w b lo ((C.drop q).take c).toArray) ?_ ⟨S,γ,β,n1.put (cR _ _) dst,?_,λ_ _=>⟨rfl,rfl⟩⟩⟩
 ·rw[f1];simp only[St.setOb];rw[if_neg];intro e;subst e;rw[x4] at H;cases H
 ·rw[hex,x3,y3];simp only[z6b] at al;have e1:Nat.min n' n=c:=hc.symm;simp[Builtin.copy_,run_underlying hu,Builtin.lenOf,Builtin.firstCells,zha,a9,e1,Ty.size,W,al,goInt]
 ·exact⟨λ_ _ G=>G,λF o G=>ck (ad F o G),λt ht=>ci (a1 t ht),λi H F Z=>⟨Z,.inl (cL λe=>a3 ((h.γi id i b x4 (e ▸ Z)) ▸ H))⟩,by simp,λ_ _ G=>G,kY.same bJ (dq.putAt (by first|assumption))⟩
def yW(f:EnvOk P E)(h:Rp w0 S γ β s a w){o:Oper}(g:Fr E s γ β o)(hT:∀ T t,(o.op=.alloc T\/∃ x,o.op=.box T x)->E.L T=some t->aq t=true)(d:∀ t∈s.lkS,o.dst≠some t)(i:∀ T x y,o.op=.store T x y->o.dst=none){R:Type}{K:St->Option R}{r:R}
  (hq:sQ E s o K=some r):∃ s',K s'=some r/\GM P w0 S γ β s a w o s':=by
 have quiet:qv E s o (λv=>K (s.put o.dst v))=some r->∃ s',K s'=some r/\GM P w0 S γ β s a w o s':=λhq=>xh f h g (λT t e=>hT T t (.inl e)) d hq;obtain⟨dst,op,ty,pos,after,guard⟩:=o;cases op
 case store T x y=>exact Fn f h d (i T x y rfl) hq
 case box T x=>exact Ma f h g d (λt=>hT T t (.inr ⟨x,rfl⟩)) hq
 case makeSlice T x y=>exact wq f h g d hq
 case makeMap T x=>exact AM f h g d hq
 case mapUpdate T x y z=>exact ws f h hq
 case call c=>
  obtain⟨callee,args,argTypes⟩:=c;cases callee
  case builtin b=>
   cases b
   case append=>exact Cy f h g d hq
   case copy=>exact HN f h d hq
   all_goals exact quiet hq
  all_goals exact quiet hq
 all_goals exact quiet hq
end
end Sy
end
noncomputable section
namespace Sy
open Go
def my{α β R:Type}{x:Option α}{f:α->Option R}{g:α->Option β}{K:β->Option R}(h:∀ a,f a=(g a).bind K):x.bind f=(x.bind g).bind K:=by
 cases x with
 | none=>rfl
 | some a=>exact h a
def AS{R:Type}:∀ (p:List Nat) (a:AV) (K:AV->Option R),y6 a p K=(y6 a p some).bind K:=by
 intro p
 induction p with
 | nil=>intro a K;cases a<;>rfl
 | cons i p ih=>
  intro a K;cases a<;>simp only[y6]<;>first
   | rfl
   | exact my λt=>my λy=>rfl
   | exact my λb=>ih b K
def o9{R:Type}(o:Ob)(p:List Nat)(K:AV->Option R):gR o p K=(gR o p some).bind K:=by
 cases o with
 | one t v=>exact AS p v K
 | many t l=>
  cases p with
  | nil=>rfl
  | cons i p=>exact my λx=>AS p _ K
 | mp a vt l=>rfl
 | lp i q=>rfl
 | fv v=>rfl
def BC{R β:Type}{o:Ob}{p:List Nat}{f:AV->Option R}{g:AV->Option β}{K:β->Option R}(h:∀ v,f v=(g v).bind K):gR o p f=(gR o p g).bind K:=by
 rw[o9,o9 _ _ g];cases gR o p some with
 | none=>rfl
 | some v=>exact h v
def HF{α R:Type}{c:Bool}{A A':Option R}{B B':Option α}{K:α->Option R}(h:A=B.bind K)(a:A'=B'.bind K):(bif c then A else A')=(bif c then B else B').bind K:=by
 all_goals grind
def IQ{R:Type}(E:Env)(s:St)(o:Oper)(K:AV->Option R):qv E s o K=(qv E s o some).bind K:=by
 obtain⟨dst,op,ty,pos,after,guard⟩:=o;cases op<;>simp only[qv]<;>(repeat' first|rfl|exact o9 _ _ _|refine BC λ_=>?_|refine my λ_=>?_|refine HF ?_ ?_|split)
structure Wk(s s':St):Prop where
 tm:∀ t,s'.tm t=s.tm t\/s'.tm t=.undef
 ob:s'.ob=s.ob
 fresh:s'.fresh=s.fresh
 dead:s'.dead=s.dead
 nt:s'.nt=s.nt
 lkS:s'.lkS=s.lkS
 lkO:s'.lkO=s.lkO
def Wk.refl(s:St):Wk s s:=⟨λ_=>.inl rfl,rfl,rfl,rfl,rfl,rfl,rfl⟩
theorem Wk.trans{a b c:St}(h:Wk a b)(k:Wk b c):Wk a c:=
 ⟨λt=>by
  rcases k.tm t with e|e
  ·rw[e];exact h.tm t
  ·exact .inr e,k.ob.trans h.ob,k.fresh.trans h.fresh,k.dead.trans h.dead,k.nt.trans h.nt,k.lkS.trans h.lkS,k.lkO.trans h.lkO⟩
theorem Wk.put{s s':St}(h:Wk s s')(d:Option Nat){v v':AV}(a:v'=v\/v'=.undef):Wk (s.put d v) (s'.put d v'):=by
 cases d with
 | none=>exact h
 | some d=>
  simp only[St.put,h.nt];split
  ·refine⟨λt=>?_,h.ob,h.fresh,h.dead,by first|exact h.nt|rfl,h.lkS,h.lkO⟩
   by_cases e:t=d
   ·simp_all
   ·simp only[e,if_false];exact h.tm t
  ·exact h
def Wk.kill(s:St)(d:Option Nat):Wk s (s.put d .undef):=by
 cases d with
 | none=>exact Wk.refl s
 | some d=>
  simp only[St.put];split
  ·refine⟨λt=>?_,rfl,rfl,rfl,rfl,rfl,rfl⟩;all_goals grind
  ·exact Wk.refl s
theorem Wk.killD:∀ (l:List Oper) (s:St),Wk s (killD s l)
 | [],s=>Wk.refl s
 | o::l,s=>(Wk.kill s o.dst).trans (Wk.killD l _)
theorem Wk.opA{s s':St}(h:Wk s s')(x:Operand):s'.opA x=s.opA x\/s'.opA x=.undef:=by
 cases x with
 | tmp t=>exact h.tm t
 | const v=>exact .inl rfl
 | global g=>exact .inl rfl
 | func f=>exact .inl rfl
theorem je{ob:Nat->Option Ob}{t:Ty}:AV.toD ob t .undef=none:=by cases t<;>rfl
def Rp.wk{w0:Root}{S:Nat->Nat->Prop}{γ:Nat->Option Nat}{β:Nat->Option (Nat×Nat)}{s s':St}{a:Act}{w:World}(h:Rp w0 S γ β s a w)(k:Wk s s'):Rp w0 S γ β s' a w:=by
 have d:=k.ob;have b:=k.dead;have g:s'.base=s.base:=by simp only[St.base,k.fresh]
 refine⟨h.ext,λt c=>?_,h.nt.trans k.nt.symm,λt c=>?_,?_,h.γn,h.γi,?_,?_,?_,?_,?_,h.Sb,h.So⟩
 ·rw[d,b];rcases k.tm t with e|e
  ·rw[e];exact h.tms t c
  ·rw[e];simp[AR]
 ·rcases k.tm t with e|e
  ·rw[e];exact h.tmu t (k.nt ▸ c)
  ·exact e
 ·rw[d,b];exact h.obs
 ·rw[g];exact h.γf
 ·rw[b];exact h.βn
 ·rw[b];exact h.βi
 ·rw[b];exact h.βγ
 ·rw[g];exact h.βf
section
variable{E:Env}{s s':St}
theorem Wk.toDl(h:Wk s s'):∀ (l:List Operand) (a:List Ty) {xs:List D},AV.toDl s'.ob a (l.map s'.opA)=some xs->AV.toDl s.ob a (l.map s.opA)=some xs
 | [],a,xs,hx=>by grind [AV.toDl]
 | y::l,a,xs,hx=>by
  cases a<;>simp only[z9a,AV.toDl] at hx ⊢<;>first|(cases hx;done)|skip
  obtain⟨x,h1,b⟩:=bind_some_inv hx;obtain⟨f,c,d⟩:=bind_some_inv b;rcases h.opA y with e|e
  ·rw[e,h.ob] at h1;rw[h1,zba,h.toDl l _ c];exact d
  ·simp_all [je]
theorem Wk.partsD(h:Wk s s')(ty:Nat->Option Ty):∀ (l:List (Nat×Operand)) {xs:List (Nat×D)},Sy.partsD s'.ob s' ty l=some xs->Sy.partsD s.ob s ty l=some xs
 | [],xs,hx=>hx
 | (i,y)::l,xs,hx=>by
  simp only[Sy.partsD] at hx ⊢;obtain⟨t,h0,hx⟩:=bind_some_inv hx;obtain⟨x,h1,a⟩:=bind_some_inv hx;obtain⟨d,b,c⟩:=bind_some_inv a;rw[h0,zba];rcases h.opA y with e|e
  ·rw[e,h.ob] at h1;rw[h1,zba,h.partsD ty l b];exact c
  ·simp_all [je]
theorem Wk.asList(h:Wk s s'){e:Ty}{x:Operand}{l:List D}(hx:(s'.opA x).asList s'.ob e=some l):s'.opA x=s.opA x:=by
 rcases h.opA x with k|k
 ·exact k
 ·simp_all [AV.asList,je]
theorem Wk.isD(h:Wk s s'){x:Operand}{p:Ty×D}(hx:Sy.isD (s'.opA x)=some p):s'.opA x=s.opA x:=by
 rcases h.opA x with k|k
 ·exact k
 ·simp_all [Sy.isD]
theorem Wk.truth(h:Wk s s'){x:Operand}{b:Bool}(hx:(s'.opA x).truth=some b):s'.opA x=s.opA x:=by
 rcases h.opA x with k|k
 ·exact k
 ·simp_all [AV.truth]
end
end Sy
end
noncomputable section
namespace Sy
open Go
section
variable{E:Env}{s s':St}
def Wk.base_eq(h:Wk s s'):s'.base=s.base:=by simp only[St.base,h.fresh]
theorem Wk.qv(h:Wk s s'){o:Oper}{v':AV}(hq:Sy.qv E s' o some=some v'):∃ v,Sy.qv E s o some=some v/\(v'=v\/v'=.undef):=by
 obtain⟨dst,op,ty,pos,after,guard⟩:=o;have A:=h.ob;have D:=h.base_eq;have same:∀ {x y:Option AV},x=some v'->y=x->∃ v,y=some v/\(v'=v\/v'=.undef):=λhx R=>⟨v',R.trans hx,.inl rfl⟩;cases op<;>simp only[Sy.qv] at hq ⊢<;>(try (cases hq;done))
 case move x=>
  simp only[zda] at hq;exact⟨_,rfl,by rcases h.opA x with e|e<;>simp[<-hq,e]⟩
 case assign x=>
  simp only[zda] at hq;exact⟨_,rfl,by rcases h.opA x with e|e<;>simp[<-hq,e]⟩
 case pick c x y=>
  obtain⟨b,h1,a⟩:=bind_some_inv hq;rw[<-h.truth h1,h1,zba];cases b
  ·simp only[zxa,if_false,zda] at a ⊢;exact⟨_,rfl,by rcases h.opA y with e|e<;>simp[<-a,e]⟩
  ·simp only[if_true,zda] at a ⊢;exact⟨_,rfl,by rcases h.opA x with e|e<;>simp[<-a,e]⟩
 case alloc T=>rw[D] at hq;exact same hq rfl
 case load T x=>
  rcases h.opA x with e|e
  ·rw[e,A] at hq;exact same hq rfl
  ·rw[e] at hq;cases hfn:E.fnT T<;>rw[hfn] at hq
   ·simp only[cond_false] at hq;obtain⟨t,h1,a⟩:=bind_some_inv hq;cases a
   ·cases hq
 case fieldAddr T x f=>
  obtain⟨t,h1,a⟩:=bind_some_inv hq;rcases h.opA x with e|e
  ·simp_all
  ·simp_all
 case indexAddr T x i=>
  obtain⟨t,h1,a⟩:=bind_some_inv hq;obtain⟨p,j,k⟩:=bind_some_inv a;have L:=h.isD j;rcases h.opA x with e|e
  ·simp_all
  ·rw[e] at k;all_goals grind [AV.asList,je]
 case lookup T x i c=>
  obtain⟨t,h1,a⟩:=bind_some_inv hq;rcases h.opA x with e|e
  ·rw[e,A] at a hq;have L:s'.opA i=s.opA i:=by
    split at a<;>first|(cases a;done)|skip
    split at a<;>first|(cases a;done)|skip
    split at a<;>first|(cases a;done)|skip
    split at a<;>first|(cases a;done)|skip
    obtain⟨p,j,_⟩:=bind_some_inv a;exact h.isD j
   simp_all
  ·simp_all
 case field T x f=>
  obtain⟨t,h1,a⟩:=bind_some_inv hq;rcases h.opA x with e|e
  ·simp_all
  ·simp_all
 case index T x i=>
  obtain⟨t,h1,a⟩:=bind_some_inv hq;obtain⟨p,j,k⟩:=bind_some_inv a;have L:=h.isD j;rcases h.opA x with e|e
  ·simp_all
  ·simp_all
 case binOp op T x y T'=>
  obtain⟨t,h1,a⟩:=bind_some_inv hq;obtain⟨p,j,k⟩:=bind_some_inv a;obtain⟨q,w,r⟩:=bind_some_inv k;grind [h.isD]
 case unOp op T x=>
  obtain⟨p,j,k⟩:=bind_some_inv hq;grind [h.isD]
 case convert U T x=>
  obtain⟨u,h1,a⟩:=bind_some_inv hq;obtain⟨t,O,a⟩:=bind_some_inv a;obtain⟨p,j,k⟩:=bind_some_inv a;grind [h.isD]
 case nilCheck x=>
  rcases h.opA x with e|e
  ·simp_all
  ·simp_all
 case extract x i=>
  rcases h.opA x with e|e
  ·simp_all
  ·simp_all
 case build T ps=>
  obtain⟨t,h1,a⟩:=bind_some_inv hq;rw[h1,zba];cases t<;>simp only at a ⊢<;>(try (cases a;done))
  case st ts=>
   split at a
   ·rename_i J;rw[if_pos J];split at a<;>first|(cases a;done)|skip
    rename_i M;have key:∀ (l:List (Nat×Operand)),l.all (gn s' ts)=true->l.all (gn s ts)=true/\(l.map λp=>(p.1,s'.opA p.2))=l.map λp=>(p.1,s.opA p.2):=by
     intro l
     induction l with
     | nil=>intro _;exact⟨rfl,rfl⟩
     | cons p l ih=>
      intro B;simp only[zRb,zaa] at B;obtain⟨S,V⟩:=ih B.2;have j:=B.1;have e:s'.opA p.2=s.opA p.2:=by
       rcases h.opA p.2 with e|e
       ·exact e
       ·unfold gn at j;rw[e] at j;all_goals grind [AV.fits]
      have P:gn s ts p=true:=by simp_all [gn]
      grind
    grind
   ·rename_i J;rw[if_neg J];obtain⟨l,j,k⟩:=bind_some_inv a
    simp_all [h.partsD,zba]
  case arr n e=>
   obtain⟨l,j,k⟩:=bind_some_inv a
   simp_all [h.partsD,zba]
 case buildSlice T n ps=>
  obtain⟨t,h1,a⟩:=bind_some_inv hq;rw[h1,zba];cases t<;>simp only at a ⊢<;>(try (cases a;done))
  split at a<;>first|(cases a;done)|skip
  rename_i hn;rw[if_pos hn];obtain⟨d,j,k⟩:=bind_some_inv a;obtain⟨l,w,r⟩:=bind_some_inv k
  simp_all [zba,h.partsD]
 case slice T x lo z mx=>
  cases mx with
  | some m=>cases hq
  | none=>
   obtain⟨t,h1,a⟩:=bind_some_inv hq;cases t<;>simp only at a<;>(try (cases a;done))
   case arr m e=>
    rcases h.opA x with ex|ex
    ·rw[ex] at a hq;rw[A] at hq;have key:(∀ i,lo=some i->s'.opA i=s.opA i)/\(∀ i,z=some i->s'.opA i=s.opA i):=by
      clear hq;split at a<;>first|(cases a;done)|skip
      split at a<;>first|(cases a;done)|skip
      obtain⟨K,w,r⟩:=bind_some_inv a;obtain⟨I,H,Q⟩:=bind_some_inv r;refine⟨λi z=>?_,λi z=>?_⟩
      ·subst z;obtain⟨p,C,_⟩:=bind_some_inv w;exact h.isD C
      ·subst z;obtain⟨p,C,_⟩:=bind_some_inv H;exact h.isD C
     obtain⟨G,F⟩:=key;clear a;cases lo<;>cases z<;>simp only at hq ⊢
     ·simp_all
     ·simp_all
     ·simp_all
     ·simp_all
    ·simp_all
   obtain⟨l,j,k⟩:=bind_some_inv a;obtain⟨K,w,r⟩:=bind_some_inv k;obtain⟨I,H,Q⟩:=bind_some_inv r;have ex:=h.asList j;have G:∀ i,lo=some i->s'.opA i=s.opA i:=λi z=>by
    subst z;obtain⟨p,C,_⟩:=bind_some_inv w;exact h.isD C
   have F:∀ i,z=some i->s'.opA i=s.opA i:=λi z=>by
    subst z;obtain⟨p,C,_⟩:=bind_some_inv H;exact h.isD C
   all_goals grind
 case sliceToArrayPointer T x=>
  obtain⟨t,h1,a⟩:=bind_some_inv hq;rcases h.opA x with e|e
  ·simp_all
  ·rw[e] at a;cases t<;>first|(cases a;done)|(simp[AV.asList,je] at a;done)
 case makeFunc fn first captured=>
  cases fn<;>simp only at hq ⊢<;>(try (cases hq;done))
  split at hq<;>first|(cases hq;done)|skip
  rename_i B;have key:∀ (l:List Operand),(l.all λx=>f8 (s'.opA x))=true->(l.all λx=>f8 (s.opA x))=true/\l.map s'.opA=l.map s.opA:=by
   intro l
   induction l with
   | nil=>intro _;exact⟨rfl,rfl⟩
   | cons p l ih=>
    intro B;simp only[zRb,zaa] at B;obtain⟨S,V⟩:=ih B.2;have j:=B.1;have e:s'.opA p=s.opA p:=by
     rcases h.opA p with e|e
     ·exact e
     ·simp_all [f8]
    simp_all
  grind
 case call c=>
  obtain⟨callee,args,argTypes⟩:=c;cases callee<;>simp only at hq ⊢<;>(try (cases hq;done))
  case value f=>
   cases f<;>simp only at hq ⊢<;>(try (cases hq;done))
   case func f=>
    obtain⟨g,h1,a⟩:=bind_some_inv hq;cases hfr:Nat.beq (E.free f) 0 with
    | false=>rw[hfr] at a;cases a
    | true=>
    rw[hfr] at a;simp only[cond_true] at a;obtain⟨xs,j,k⟩:=bind_some_inv a;rw[h1,zba,cond_true,h.toDl _ _ j,zba];rw[D] at k;exact⟨v',k,.inl rfl⟩
   case tmp t=>
    split at hq<;>first|(cases hq;done)|skip
    rename_i f l N;obtain⟨g,h1,a⟩:=bind_some_inv hq;cases hfr:(Nat.beq (E.free f) l.length&&dI (uk l)) with
    | false=>rw[hfr] at a;cases a
    | true=>
    rw[hfr] at a;simp only[cond_true] at a;obtain⟨xs,j,k⟩:=bind_some_inv a;have e:s.tm t=.clo f l:=by
     rcases h.opA (.tmp t) with e|e
     ·exact e.symm.trans N
     ·have:s'.tm t=.undef:=e;rw[N] at this;cases this
    rw[e];simp only;rw[h1,zba,hfr,cond_true,h.toDl _ _ j,zba];rw[A] at k;exact⟨v',k,.inl rfl⟩
  case builtin b=>
   cases b<;>simp only at hq ⊢<;>(try (cases hq;done))
   case len=>
    obtain⟨T,h1,a⟩:=bind_some_inv hq;obtain⟨t,j,k⟩:=bind_some_inv a;obtain⟨x,w,r⟩:=bind_some_inv k;rcases h.opA x with e|e
    ·rw[h1,zba,j,zba,w,zba];cases t<;>simp only at r ⊢<;>first
      | (cases r;done)
      | (rw[e,A] at r;exact same r rfl)
      | (rw[e] at r;exact⟨v',r,.inl rfl⟩)
      | exact⟨v',r,.inl rfl⟩
    ·rw[h1,zba,j,zba,w,zba];cases t<;>simp only at r ⊢<;>first
      | (cases r;done)
      | (rw[e] at r;simp[AV.asList,je] at r;done)
      | (rw[e] at r;simp[Sy.isD] at r;done)
      | exact⟨v',r,.inl rfl⟩
   case min=>
    split at hq<;>first|(cases hq;done)|skip
    obtain⟨p,j,k⟩:=bind_some_inv hq;obtain⟨q,w,r⟩:=bind_some_inv k;rw[h.isD j,h.isD w] at hq;exact same hq rfl
   case max=>
    split at hq<;>first|(cases hq;done)|skip
    obtain⟨p,j,k⟩:=bind_some_inv hq;obtain⟨q,w,r⟩:=bind_some_inv k;rw[h.isD j,h.isD w] at hq;exact same hq rfl
end
def val(E:Env)(ops:Array Oper)(s:St)(o:Oper):Option AV:=
 if kF s o then none else
 match o.guard with
 | none=>qv E s o some
 | some (j,want)=>((ops[j]?).bind (·.dst)).bind λg=>y9 (s.tm g) (some .gone) ((s.tm g).truth.bind λc=>if c==want then qv E s o some else some .gone)
def seqV(E:Env)(ops:Array Oper):List Oper->St->Option St
 | [],s=>some s
 | o::l,s=>(val E ops s o).bind λv=>seqV E ops l (s.put o.dst v)
section
variable{E:Env}{ops:Array Oper}{s s':St}
def Wk.lkd_eq(h:Wk s s')(o:Oper):kF s' o=kF s o:=by simp only[kF,h.lkS]
theorem Wk.val(h:Wk s s'){o:Oper}{v':AV}(hq:Sy.val E ops s' o=some v'):∃ v,Sy.val E ops s o=some v/\(v'=v\/v'=.undef):=by
 unfold Sy.val at hq ⊢;rw[h.lkd_eq] at hq;split at hq<;>first|(cases hq;done)|skip
 rename_i b;rw[if_neg b];cases i:o.guard with
 | none=>rw[i] at hq;exact h.qv hq
 | some p=>
  obtain⟨j,want⟩:=p;rw[i] at hq;simp only at hq ⊢;obtain⟨g,h1,a⟩:=bind_some_inv hq;rw[h1,zba];by_cases hgo:s'.tm g=.gone
  ·have e:s'.tm g=s.tm g:=by
    rcases h.tm g with e|e
    ·exact e
    ·simp_all
   rw[hgo,fY] at a;rw[<-e,hgo,fY];exact⟨v',a,.inl rfl⟩
  rw[fZ hgo] at a;obtain⟨c,d,f⟩:=bind_some_inv a;have e:s'.tm g=s.tm g:=h.truth (x:=.tmp g) d;rw[<-e,fZ hgo,d,zba];split at f
  ·rename_i hc;rw[if_pos hc];exact h.qv f
  ·simp_all
theorem Wk.seqV:∀ (l:List Oper) {s s' a:St},Wk s s'->Sy.seqV E ops l s'=some a->∃ t,Sy.seqV E ops l s=some t/\Wk t a
 | [],s,s',a,h,hq=>by simp_all [Sy.seqV,zda]
 | o::l,s,s',a,h,hq=>by
  simp only[Sy.seqV] at hq ⊢;obtain⟨v',h1,b⟩:=bind_some_inv hq;obtain⟨v,c,d⟩:=h.val h1;rw[c,zba];exact Wk.seqV l (h.put o.dst d) b
theorem m9:∀ (l l':List Oper) (s:St),Sy.seqV E ops (l++l') s=(Sy.seqV E ops l s).bind (Sy.seqV E ops l')
 | [],l',s=>rfl
 | o::l,l',s=>by
  simp only[zqb,Sy.seqV];cases val E ops s o with
  | none=>rfl
  | some v=>exact m9 l l' _
theorem Wk.killD_mono:∀ (l:List Oper) {s s':St},Wk s s'->Wk (Sy.killD s l) (Sy.killD s' l)
 | [],_,_,h=>h
 | o::l,_,_,h=>Wk.killD_mono l (h.put o.dst (.inl rfl))
theorem kN:∀ (l:List Oper) {s t:St},Sy.seqV E ops l s=some t->Wk t (killD s l)
 | [],s,t,h=>by simp only[Sy.seqV,zda] at h;subst h;exact Wk.refl s
 | o::l,s,t,h=>by
  simp only[Sy.seqV] at h;obtain⟨v,h1,a⟩:=bind_some_inv h;have b:=kN l a;refine b.trans ?_;show Wk (killD (s.put o.dst v) l) (killD (s.put o.dst .undef) l);exact Wk.killD_mono l ((Wk.refl s).put o.dst (.inr rfl))
end
end Sy
end
end Go.Proofs.YtphlmegkommlnaaGreatDoor
