/- Part 3 of the proof that EnergyOfPaths answers true at every input -/
import Derived.Test.YtpahompifldeeaaGreatPaths02
import Derived.MapKept
import Derived.IntWalk
set_option linter.unusedVariables false
set_option linter.unusedSimpArgs false
set_option linter.unnecessarySimpa false
set_option maxRecDepth 20000
namespace Go.Proofs.YtpahompifldeeaaGreat
noncomputable section
namespace Sy
open Go
mutual
theorem A1:∀ (x y:D),D.beq x y=true->x=y
 | .int k n,y,h=>by cases y<;>simp_all [D.beq]
 | .bool b,y,h=>by cases y<;>simp_all [D.beq]
 | .str b,y,h=>by cases y<;>simp_all [D.beq]
 | .st l,y,h=>by
  cases y<;>simp only[D.beq] at h<;>first|(cases h;done)|skip
  rw[ym _ _ h]
 | .sl l,y,h=>by cases y<;>simp[D.beq] at h
 | .tup l,y,h=>by cases y<;>simp[D.beq] at h
theorem ym:∀ (l l':List D),D.beqs l l'=true->l=l'
 | [],l',h=>by cases l'<;>simp_all [D.beqs]
 | x::l,l',h=>by
  cases l' with
  | nil=>simp[D.beqs] at h
  | cons y l'=>
   simp only[D.beqs,Bool.and_eq_true] at h
   rw[A1 _ _ h.1,ym _ _ h.2]
end
section
variable{P:Program}{E:Env}{w0:Root}{S:Nat->Nat->Prop}{γ:Nat->Option Nat}{β:Nat->Option (Nat×Nat)}{s:St}{a:Act}{w:World}
theorem ld{α:Type}(g:α->PUnit->Sem (ForInStep PUnit)){w:World}:∀ (l:List α),(∀ x∈l,(g x ⟨⟩).run P w=.ok (.yield ⟨⟩) w)->(forIn l PUnit.unit g).run P w=.ok ⟨⟩ w
 | [],_=>rfl
 | x::l,h=>by
  simp only[List.forIn_cons,Sem.run_bind,h x List.mem_cons_self,Result.andThen_ok]
  exact ld g l fun y hy=>h y (List.mem_cons_of_mem _ hy)
theorem iX{w:World}{b n:Nat}{es:Array MapEntry}(h:w.heap[b]?=some (.map es n)):(getObj b).run P w=.ok (.map es n) w:=by simp[getObj,Sem.run,h]
mutual
theorem gU:∀ (ty:Ty) (T:TypeId) (x:D) (cx:List Value) (vx:Value) (n:Nat) (e:Bool),bh P ty T=true->bu ty=true->ty.high<=n->wt ty x->cw w S x.flat cx->fg ty cx vx->∀ w',(Instr.checkKey e n T vx).run P w'=.ok () w'
 | .int k,T,x,cx,vx,n,e,hl,_,hd,hx,rx,ix,w'=>by
  simp only[wt] at hx
  obtain⟨m,rfl⟩:=hx
  obtain⟨c1,rfl,r1⟩:=rx.single'
  rw[dI ix rfl,r1.int_inv]
  obtain⟨n,rfl⟩:∃ e,n=e+1:=⟨n-1,by simp only[Ty.high] at hd;omega⟩
  simp only[Instr.checkKey,Sem.run_bind,run_underlying (gY hl),Result.andThen_ok,Sem.run_pure]
 | .bool,T,x,cx,vx,n,e,hl,_,hd,hx,rx,ix,w'=>by
  simp only[wt] at hx
  obtain⟨m,rfl⟩:=hx
  obtain⟨c1,rfl,r1⟩:=rx.single'
  rw[dI ix rfl,r1.bool_inv]
  obtain⟨n,rfl⟩:∃ e,n=e+1:=⟨n-1,by simp only[Ty.high] at hd;omega⟩
  have hu:P.underlying T=some .bool:=by
   simp only[bh,Bool.and_eq_true] at hl
   have h2:=hl.2
   split at h2
   ·rename_i hu;exact hu
   ·cases h2
  simp only[Instr.checkKey,Sem.run_bind,run_underlying hu,Result.andThen_ok,Sem.run_pure]
 | .st ts,T,x,cx,vx,n,e,hl,hc,hd,hx,rx,ix,w'=>by
  simp only[wt] at hx
  obtain⟨l,rfl,hx⟩:=hx
  rw[ge ix rfl]
  obtain⟨fs,h1,h2⟩:=gu hl
  simp only[Ty.high] at hd
  obtain⟨n,rfl⟩:∃ e,n=e+1:=⟨n-1,by omega⟩
  simp only[bu] at hc
  simp only[D.flat] at rx
  simp only[Instr.checkKey,Sem.run_bind,run_underlying h1,Result.andThen_ok]
  rw[<-Array.forIn_toList,ld (P:=P) (w:=w')]
  ·rfl
  ·intro f hf
   have key:=jE ts fs.toList 0 l [] cx cx.toArray n e h2 hc (by omega) hx rx rfl rfl w' f hf
   by_cases hn : f.name ≠ "_"
   ·rw[if_pos hn] at key ⊢
    simp only[Sem.run_bind] at key ⊢
    cases hp:(part f.type cx.toArray f.offset).run P w' with
    | ok v w2=>
     rw[hp] at key
     simp only[Result.andThen_ok] at key ⊢
     rw[key]
     rfl
    | _=>rw[hp] at key;simp[Result.andThen] at key
   ·rw[if_neg hn]
    rfl
 | .arr m t,T,x,cx,vx,n,e,hl,hc,hd,hx,rx,ix,w'=>by
  simp only[wt] at hx
  obtain⟨l,rfl,hxl,hx⟩:=hx
  rw[ge ix rfl]
  obtain⟨u,h1,h2⟩:=dj hl
  simp only[Ty.high] at hd
  obtain⟨n,rfl⟩:∃ e,n=e+1:=⟨n-1,by omega⟩
  simp only[bu] at hc
  simp only[D.flat] at rx
  have hn:=aB _ _ h2
  simp only[Instr.checkKey,Sem.run_bind,run_underlying h1,Result.andThen_ok]
  rw[Std.Legacy.Range.forIn_eq_forIn_range',ld (P:=P) (w:=w')]
  ·rfl
  ·intro j hj
   have hjn:j<m:=by simp at hj;omega
   have e1:l[j]?=some (l.getD j (.bool false)):=by simp[List.getD,List.getElem?_eq_getElem (hxl ▸ hjn)]
   generalize l.getD j (.bool false)=dx at *
   have wx:=hx dx (List.mem_of_getElem? e1)
   have rx':=rx
   rw[bK e1] at rx'
   obtain⟨p1,p2⟩:=rx'.split
   obtain⟨p3,p4⟩:=p2.split
   have o1:(cx.take (D.flats (l.take j)).length).length=j*t.size:=by
    rw[<-p1.1,aA hn _ (fun x hx'=>hx x (List.mem_of_mem_take hx')),List.length_take,Nat.min_eq_left (by omega)]
   obtain⟨v1,r1,i1⟩:=fP h2 (cs:=cx.toArray) (pre:=cx.take (D.flats (l.take j)).length) (mid:=(cx.drop (D.flats (l.take j)).length).take dx.flat.length) (post:=(cx.drop (D.flats (l.take j)).length).drop dx.flat.length)
     (by simp only[List.take_append_drop]) (by rw[<-p3.1];exact bT _ _ wx hn) p3.nag w'
   rw[o1] at r1
   have r3:=gU t u dx _ v1 n e h2 hc (by omega) wx p3 i1 w'
   simp only[Sem.run_bind,bG h2,Result.andThen_ok,r1,r3,Sem.run_pure]
 | .str,_,_,_,_,_,_,_,hc,_,_,_,_,_=>by simp[bu] at hc
 | .sl _,_,_,_,_,_,_,_,hc,_,_,_,_,_=>by simp[bu] at hc
 | .tup _,_,_,_,_,_,_,_,hc,_,_,_,_,_=>by simp[bu] at hc
 | .fn,_,_,_,_,_,_,_,hc,_,_,_,_,_=>by simp[bu] at hc
theorem jE:∀ (ts:List Ty) (fs:List Field) (off:Nat) (l:List D) (px cx:List Value) (xs:Array Value) (n:Nat) (e:Bool),eN P ts fs off=true->jF ts=true->Ty.highs ts<=n->dU ts l->cw w S (D.flats l) cx ->
  xs.toList = px ++ cx -> px.length = off -> ∀ w', ∀ f ∈ fs, (if f.name ≠ "_" then (part f.type xs f.offset >>= fun v => Instr.checkKey e n f.type v) else pure ()).run P w' = .ok () w'
 | [],fs,off,l,px,cx,xs,n,e,hf,_,_,_,_,_,_,w'=>by
  cases fs with
  | nil=>intro f hf;cases hf
  | cons f fs=>simp[eN] at hf
 | t::ts,[],off,l,px,cx,xs,n,e,hf,_,_,_,_,_,_,w'=>by simp[eN] at hf
 | t::ts,f::fs,off,l,px,cx,xs,n,e,hf,hc,hd,hx,rx,ex,lx,w'=>by
  simp only[eN,Bool.and_eq_true,decide_eq_true_eq] at hf
  obtain⟨⟨⟨⟨h1,h2⟩,h3⟩,h4⟩,h5⟩:=hf
  simp only[dU] at hx
  obtain⟨dx,l,rfl,hx1,hx2⟩:=hx
  simp only[D.flats] at rx
  obtain⟨p3,p4⟩:=rx.split
  have hn:=aB _ _ h4
  simp only[jF,Bool.and_eq_true] at hc
  simp only[Ty.highs] at hd
  obtain⟨v1,r1,i1⟩:=fP h4 (cs:=xs) (pre:=px) (mid:=cx.take dx.flat.length) (post:=cx.drop dx.flat.length) (by rw[ex,List.take_append_drop]) (by rw[<-p3.1];exact bT _ _ hx1 hn) p3.nag w'
  rw[lx,<-h1] at r1
  have r3:=gU t f.type dx _ v1 n e h4 hc.1 (by omega) hx1 p3 i1 w'
  have hs1:(cx.take dx.flat.length).length=t.size:=by rw[<-p3.1];exact bT _ _ hx1 hn
  have ih:=jE ts fs (off+t.size) l (px++cx.take dx.flat.length) (cx.drop dx.flat.length) xs n e h5 hc.2 (by omega) hx2 p4
   (by rw[List.append_assoc,List.take_append_drop];exact ex) (by rw[List.length_append,lx,hs1]) w'
  intro g hg
  rcases List.mem_cons.1 hg with rfl|hg
  ·rw[if_pos h2,Sem.run_bind,r1,Result.andThen_ok,r3]
  ·exact ih g hg
end
def wO:List D->D->List MapEntry->Nat->Option (Nat×Value)
 | .st [k,_]::l,x,e::es,i=>if D.beq x k then some (i,e.val) else wO l x es (i+1)
 | _,_,_,_=>none
theorem pT{c:Cx}{kt vt:Ty}{T:TypeId}{x:D}{vx:Value}(hl:bh P kt T=true)(hc:bu kt=true)(hx:wt kt x)(rx:eZ c.w c.S x vx){desc:TypeDesc}(hu:P.underlying T=some desc):∀ (l:List D) (es:List MapEntry) (j i:Nat) (r:Option (Nat×Value)),gk c kt vt j l es->Instr.findNow desc vx es i=some r->r=wO l x es i
 | [],[],j,i,r,_,h=>by simp only[Instr.findNow,Option.some.injEq] at h;rw[<-h];rfl
 | [],_::_,j,i,r,h,_=>h.elim
 | _::_,[],j,i,r,h,_=>h.elim
 | y::l,e::es,j,i,r,h,hr=>by
  simp only[gk] at h
  obtain⟨⟨_,k,v,rfl,hk,hv,rk,rv⟩,h2⟩:=h
  simp only[Instr.findNow] at hr
  have key:∀ b,Instr.sameNow desc vx e.key=some b->b=D.beq x k:=by
   intro b hb
   cases kt<;>simp only[wt] at hx hk
   case int kk=>
    obtain⟨n,rfl⟩:=hx
    obtain⟨m,rfl⟩:=hk
    rw[rx.int_inv,rk.int_inv] at hb
    rw[gY hl] at hu
    cases hu
    simp only[Instr.sameNow,if_true,Option.some.injEq] at hb
    rw[<-hb]
    simp[D.beq]
    rfl
   case bool=>
    obtain⟨n,rfl⟩:=hx
    obtain⟨m,rfl⟩:=hk
    rw[rx.bool_inv,rk.bool_inv] at hb
    simp only[bh,Bool.and_eq_true] at hl
    have h3:=hl.2
    rw[hu] at h3
    cases desc<;>simp at h3
    simp only[Instr.sameNow,Option.some.injEq] at hb
    rw[<-hb]
    rfl
   case st ts=>
    obtain⟨fs,h3,_⟩:=gu hl
    rw[hu] at h3;cases h3
    simp[Instr.sameNow] at hb
   case arr m t=>
    obtain⟨u,h3,_⟩:=dj hl
    rw[hu] at h3;cases h3
    simp[Instr.sameNow] at hb
   all_goals simp[bu] at hc
  cases hs:Instr.sameNow desc vx e.key with
  | none=>rw[hs] at hr;simp at hr
  | some b=>
   rw[hs] at hr
   have:=key b hs
   subst this
   cases hb:D.beq x k
   ·rw[hb] at hr
    simp only at hr
    have:=pT hl hc hx rx hu l es (j+1) (i+1) r h2 hr
    simp only[wO,hb,Bool.false_eq_true,if_false]
    exact this
   ·rw[hb] at hr
    simp only[Option.some.injEq] at hr
    simp only[wO,hb,if_true]
    exact hr.symm
theorem kJ{c:Cx}{kt vt:Ty}{T:TypeId}{x:D}{vx:Value}(hl:bh P kt T=true)(hc:bu kt=true)(hh:kt.high<=1000)(hx:wt kt x)(rx:eZ c.w c.S x vx)(w':World):∀ (l:List D) (es:List MapEntry) (j i:Nat),gk c kt vt j l es->(Instr.findAsking T vx es i).run P w'=.ok (wO l x es i) w'
 | [],[],j,i,_=>rfl
 | [],_::_,j,i,h=>h.elim
 | _::_,[],j,i,h=>h.elim
 | y::l,e::es,j,i,h=>by
  simp only[gk] at h
  obtain⟨⟨_,k,v,rfl,hk,hv,rk,rv⟩,h2⟩:=h
  have hn:=aB _ _ hl
  have i1:fg kt vx.cells.toList vx:=⟨rfl,lz hx hn rx.1⟩
  have i2:fg kt e.key.cells.toList e.key:=⟨rfl,lz hk hn rk.1⟩
  have r3:=lV kt T x k _ _ _ _ 10000 hl hc (by omega) hx hk rx.2 rk.2 i1 i2 w'
  simp only[Instr.findAsking,Op.equal,Op.maxDepth,Sem.run_bind,r3,Result.andThen_ok,wO]
  cases D.beq x k
  ·simp only[Bool.false_eq_true,if_false]
   exact kJ hl hc hh hx rx w' l es (j+1) (i+1) h2
  ·simp
theorem pS{c:Cx}{kt vt:Ty}{T:TypeId}{x:D}{vx:Value}(hl:bh P kt T=true)(hc:bu kt=true)(hh:kt.high<=1000)(hx:wt kt x)(rx:eZ c.w c.S x vx)(w':World){l:List D}{es:List MapEntry}{j:Nat}(h:gk c kt vt j l es) :
  (Instr.findKey T vx es).run P w'=.ok (wO l x es 0) w':=by
 have hu:∃ d,P.underlying T=some d:=by
  cases kt<;>simp only[bu] at hc<;>first|(cases hc;done)|skip
  ·exact⟨_,gY hl⟩
  ·simp only[bh,Bool.and_eq_true] at hl
   have h2:=hl.2
   split at h2
   ·rename_i hu;exact⟨_,hu⟩
   ·cases h2
  ·obtain⟨fs,h1,_⟩:=gu hl;exact⟨_,h1⟩
  ·obtain⟨u,h1,_⟩:=dj hl;exact⟨_,h1⟩
 obtain⟨d,hu⟩:=hu
 simp only[Instr.findKey,Sem.run_bind,run_underlying hu,Result.andThen_ok]
 split
 ·rename_i r hr
  rw[pT hl hc hx rx hu l es j 0 r h hr]
  rfl
 ·exact kJ hl hc hh hx rx w' l es j 0 h
theorem yD{c:Cx}{kt vt:Ty}{x:D}:∀ (l:List D) (es:List MapEntry) (j i:Nat),gk c kt vt j l es ->
  match wO l x es i with
  | none=>D.mget l x=none
  | some (_,v)=>∃ d,D.mget l x=some d/\wt vt d/\eZ c.w c.S d v
 | [],[],j,i,_=>rfl
 | [],_::_,j,i,h=>h.elim
 | _::_,[],j,i,h=>h.elim
 | y::l,e::es,j,i,h=>by
  simp only[gk] at h
  obtain⟨⟨_,k,v,rfl,hk,hv,rk,rv⟩,h2⟩:=h
  simp only[wO,D.mget]
  cases hb:D.beq x k
  ·simp only[Bool.false_eq_true,if_false]
   exact yD l es (j+1) (i+1) h2
  ·simp only[if_true]
   exact⟨v,rfl,hv,rv⟩
theorem Ah(hE:EnvOk P E)(h:Rp w0 S γ β s a w){dst T x i cok ty pos after guard}:gM P E w0 S γ β s a w ⟨dst,.lookup T x i cok,ty,pos,after,guard⟩:=by
 intro R K r hq
 simp only[qv] at hq
 replace hq:=bind_some_inv hq;obtain⟨kv,hkv,hq⟩:=hq
 obtain⟨kt0,vt0⟩:=kv
 have hx:=aM h x
 generalize s.opA x=ax at *
 cases ax<;>(try simp only at hq)<;>first|(cases hq;done)|skip
 rename_i kt vt id
 split at hq<;>first|(cases hq;done)|skip
 rename_i hb
 simp only[Bool.and_eq_true] at hb
 have e1:=Ty.eq_of_beq _ _ hb.1
 have e2:=Ty.eq_of_beq _ _ hb.2
 subst e1;subst e2
 split at hq<;>first|(cases hq;done)|skip
 rename_i kt' vt' l hob
 split at hq<;>first|(cases hq;done)|skip
 rename_i hb2
 simp only[Bool.and_eq_true] at hb2
 have e1:=Ty.eq_of_beq _ _ hb2.1
 have e2:=Ty.eq_of_beq _ _ hb2.2
 subst e1;subst e2
 replace hq:=bind_some_inv hq;obtain⟨ix,hix,hq⟩:=hq
 split at hq<;>first|(cases hq;done)|skip
 rename_i hb3
 have hi:=aM h i
 rw[dh hix,Ty.eq_of_beq _ _ hb3] at hi
 obtain⟨hc,KT,VT,hu,hlk,hlv,hh⟩:=hE.mapL T _ _ hkv
 have hnk:=aB _ _ hlk
 have hnv:=aB _ _ hlv
 obtain⟨k1,k2⟩:=uI hi hnk
 simp only[AR,AC] at hx
 obtain⟨na,b,hcs,hγ,_,_,_⟩:=hx
 have hv:=au na hcs
 have hO:=h.obs id _ b hob hγ
 simp only[fK] at hO
 obtain⟨_,_,_,es,hes,hM⟩:=hO
 have i1:fg kt' (a.eval i).cells.toList (a.eval i):=⟨rfl,lz k1 hnk k2.1⟩
 have rc:=gU (S:=S) (w:=w) kt' KT ix.2 _ _ 10000 es.isEmpty hlk hc (by omega) k1 k2.2 i1 w
 have rf:=pS (P:=P) hlk hc hh k1 k2 w hM
 have rg:=yD (x:=ix.2) l es.toList 0 0 hM
 obtain⟨z,hz1,hz2,hz3⟩:=gL hlv
 have hzAR:wt vt' (aF vt')/\eZ w S (aF vt') z:=by
  have wz:=cu vt' hnv
  refine⟨wz,?_⟩
  have hAC:AC ⟨w,S,γ,β,s.ob,s.dead⟩ (.d vt' (aF vt')) z.cells.toList:=by simp only[AC];exact⟨wz,hnv,bX hz2⟩
  have iv:fg vt' z.cells.toList z:=⟨rfl,fun ha=>(hz3.2 ha),fun ha xs e=>by have:=hz3.1 ⟨xs,e⟩;rw[ha] at this;cases this⟩
  exact(uI (rB (bo _ _) hAC iv) hnv).2
 have run:∃ v d,(D.mget l ix.2).getD (aF vt')=d/\wt vt' d/\eZ w S d v/\(execOp a.eval ⟨dst,.lookup T x i cok,ty,pos,after,guard⟩).run P w=.ok (.value (if cok then .tuple #[v,.bool (D.mget l ix.2).isSome] else v)) w:=by
  have hex:(execOp a.eval ⟨dst,.lookup T x i cok,ty,pos,after,guard⟩)=(Instr.lookup T (a.eval x) (a.eval i) cok >>= fun v=>pure (.value v)):=rfl
  rw[hex,hv]
  cases hf:wO l ix.2 es.toList 0 with
  | none=>
   rw[hf] at rg rf
   simp only at rg
   refine⟨z,aF vt',by rw[rg];rfl,hzAR.1,hzAR.2,?_⟩
   simp only[Instr.lookup,Sem.run_bind,run_underlying hu,Result.andThen_ok,iX hes,Sem.run_pure,rc,rf,hz1,rg]
   rfl
  | some p=>
   obtain⟨n,v⟩:=p
   rw[hf] at rg rf
   simp only at rg
   obtain⟨d,g1,g2,g3⟩:=rg
   refine⟨v,d,by rw[g1];rfl,g2,g3,?_⟩
   simp only[Instr.lookup,Sem.run_bind,run_underlying hu,Result.andThen_ok,iX hes,Sem.run_pure,rc,rf,g1]
   rfl
 obtain⟨v,d,r1,r2,r3,r4⟩:=run
 rw[r1] at hq
 cases cok with
 | false=>
  simp only at hq
  simp only[Bool.false_eq_true,if_false] at r4
  exact⟨_,hq,.value r4 (Qp.same h (df hnv r2 r3) _)⟩
 | true=>
  simp only at hq
  simp only[if_true] at r4
  refine⟨_,hq,.value r4 (Qp.same h ?_ _)⟩
  simp only[AR]
  refine .inr ⟨_,rfl,by simp[aY,hnv,am],?_,?_⟩
  ·simp only[wt,dU]
   exact⟨_,rfl,d,_,rfl,r2,_,_,rfl,⟨_,rfl⟩,rfl⟩
  ·refine⟨[v,.bool (D.mget l ix.2).isSome],rfl,rfl,fun i dd u h1 h2=>?_⟩
   rcases i with _|_|i
   ·simp at h1 h2;subst h1;subst h2;exact r3
   ·simp at h1 h2;subst h1;subst h2;exact eZ.of_CR (.bool _)
   ·simp at h1
end
end Sy
end
noncomputable section
namespace Sy
open Go
section
variable{P:Program}{E:Env}{w0:Root}{S:Nat->Nat->Prop}{γ:Nat->Option Nat}{β:Nat->Option (Nat×Nat)}{s:St}{a:Act}{w:World}
theorem B0(hE:EnvOk P E)(h:Rp w0 S γ β s a w){dst T ty pos after guard}(hf:Fr E s γ β ⟨dst,.alloc T,ty,pos,after,guard⟩)(hT:∀ t,E.L T=some t->am t=true):gM P E w0 S γ β s a w ⟨dst,.alloc T,ty,pos,after,guard⟩:=by
 intro R K r hq
 simp only[qv] at hq
 replace hq:=bind_some_inv hq;obtain⟨t,ht,hq⟩:=hq
 replace hq:=bind_some_inv hq;obtain⟨d,hd,hq⟩:=hq
 obtain⟨hd4,hγ,hβ,hob⟩:=hf rfl d hd
 have hob:=hob T t rfl ht
 have hn:=hT t ht
 have hl:=gX hE ht hn
 obtain⟨z,hz,hz2,_⟩:=gL hl
 obtain⟨h1,le1⟩:=h.grow (os:=[.cells z.cells T]) (d:=w.drawn) (Nat.le_refl _) (S':=S) (fun _ _ hb=>hb) (fun _ _ hb=>.inl hb)
 have hw0:¬ w0.Old w.heap.size:=fun ho=>by have:=ho.1;have:=h.ext.sz;omega
 have hlen:z.cells.toList.length=t.size:=by
  rw[<-(bX (w:=w) (S:=S) hz2).1];exact bT _ _ (cu t hn) hn
 obtain⟨h2,le2⟩:=h1.newOb (id:=s.base+d) (b:=w.heap.size) hγ hw0 (by simp) (fun id hid=>by have:=(h.γn id _ hid).2;omega) (fun u f hu hf=>by have:=(h.βn u _ _ hu hf).2.1;omega) (by omega)
  (fun o ho=>by
   rw[hob] at ho;cases ho
   simp only[fK]
   exact⟨hn,qX t hn,fun o ho=>by have:=h.Sb _ _ ho;omega,z.cells.toList,by rw[Array.toArray_toList];exact pd,wN t _ hn hz2,hlen⟩)
 refine⟨_,hq,.value (v:=.pointer (some ⟨w.heap.size,0,none⟩)) (w':=grown w [.cells z.cells T] w.drawn) (by
  rw[<-dt]
  simp only[execOp,Instr.alloc,newVar,newRow,Sem.run_bind,hz,Result.andThen_ok,run_newObj,Sem.run_pure]
  rfl) ⟨S,_,β,h2,gb (bn _ _ _) (fun o ho=>?_),fun _ _ hb=>hb,⟨_,_,rfl⟩,fun id b hb=>dN hγ hb,fun id hid=>⟨bI _ _ fun hh=>?_,rfl⟩⟩⟩
 ·have ho':s.ob (s.base+d)=some o:=ho
  have:o=.one t (fh t):=by rw[hob] at ho';cases ho';rfl
  subst this
  exact⟨by cases t<;>rfl,by cases t<;>rfl⟩
 ·subst hh
  rcases hid with hid|hid
  ·rw[hd] at hid;exact hid (by rw[Nat.add_sub_cancel_left])
  ·omega
theorem wU{c:Cx}{e:Ty}{y:AV}{v:Value}{l:List D}{ob:Nat->Option Ob}(hn:am e=true)(h:AR c y v)(hl:y.asList ob e=some l):∃ a cap,v=.slice a l.length cap:=by
 obtain⟨_,h2⟩:=il hn h hl
 obtain⟨a,cap,b,off,hv,_⟩:=h2.elems
 exact⟨a,cap,hv⟩
theorem ug{T:TypeId}{e:Ty}(hl:bh P (.sl e) T=true){A:Option Addr}{len cap lo hi:Nat}{vlo vhi:Option Value}(h1:lo<=hi)(h2:hi<=len)(h3:len<=cap)
  (hlo:(vlo=none/\lo=0)\/∃ k,vlo=some (.int k lo)) (hhi:(vhi=none/\hi=len)\/∃ k,vhi=some (.int k hi)) (w:World) :
  (Instr.sliceAt T (.slice A len cap) vlo vhi none).run P w=.ok (.slice (if cap=lo then A else A.map (·.add (lo*e.size))) (hi-lo) (cap-lo)) w:=by
 obtain⟨u,k1,k2⟩:=gt hl
 have e1:(0:Int)<=(hi:Int)/\(hi:Int)<=(cap:Int):=by omega
 have e2:(0:Int)<=(lo:Int)/\(lo:Int)<=(hi:Int):=by omega
 have hb:(Instr.sliceBounds true len cap vlo vhi none).run P w=.ok (lo,hi,cap) w:=by
  rcases hlo with⟨rfl,rfl⟩|⟨k,rfl⟩<;>rcases hhi with⟨rfl,rfl⟩|⟨k',rfl⟩ <;>
   simp only[Instr.sliceBounds,Instr.sliceBound,asIntOf,pure_bind,Sem.run_bind,Sem.run_pure,Sem.run_ite,Result.andThen_ok,e1,e2,and_self,if_true,Int.toNat_natCast]
 simp only[Instr.sliceAt,Sem.run_bind,run_underlying k1,Result.andThen_ok,Instr.slice,hb,bG k2,Sem.run_pure]
theorem oQ{T:TypeId}{m:Nat}{e:Ty}(hl:bh P (.arr m e) T=true){b off lo hi:Nat}{vlo vhi:Option Value}(h1:lo<=hi)(h2:hi<=m)(h3:lo<m)
  (hlo:(vlo=none/\lo=0)\/∃ k,vlo=some (.int k lo)) (hhi:(vhi=none/\hi=m)\/∃ k,vhi=some (.int k hi)) (w:World) :
  (Instr.sliceAt T (.pointer (some ⟨b,off,none⟩)) vlo vhi none).run P w=.ok (.slice (some ⟨b,off+lo*e.size,none⟩) (hi-lo) (m-lo)) w:=by
 obtain⟨u,k1,k2⟩:=dj hl
 have e1:(0:Int)<=(hi:Int)/\(hi:Int)<=(m:Int):=by omega
 have e2:(0:Int)<=(lo:Int)/\(lo:Int)<=(hi:Int):=by omega
 have e3:¬ m=lo:=by omega
 have hb:(Instr.sliceBounds false m m vlo vhi none).run P w=.ok (lo,hi,m) w:=by
  rcases hlo with⟨rfl,rfl⟩|⟨k,rfl⟩<;>rcases hhi with⟨rfl,rfl⟩|⟨k',rfl⟩ <;>
   simp only[Instr.sliceBounds,Instr.sliceBound,asIntOf,pure_bind,Sem.run_bind,Sem.run_pure,Sem.run_ite,Result.andThen_ok,e1,e2,and_self,if_true,Int.toNat_natCast]
 simp only[Instr.sliceAt,Sem.run_bind,run_underlying k1,Result.andThen_ok,jg,hb,bG k2,Sem.run_pure,e3,if_false,cD]
theorem Gn{w:World}{S:Nat->Nat->Prop}{e:Ty}{l:List D}{v:Value}{lo hi:Nat}(hn:am e=true)(hw:∀ x∈l,wt e x)(h:CR w S (.sl l) v)(h1:lo<=hi)(h2:hi<=l.length) :
  ∃ A cap,v=.slice A l.length cap/\l.length<=cap/\CR w S (.sl ((l.take hi).drop lo)) (.slice (if cap=lo then A else A.map (·.add (lo*e.size))) (hi-lo) (cap-lo)):=by
 obtain⟨A,cap,b,off,hv,k1,k2,k3⟩:=h.elems
 refine⟨A,cap,hv,k2,?_⟩
 have hlen:((l.take hi).drop lo).length=hi-lo:=by simp;omega
 rw[<-hlen]
 have e1:l=l.take lo++((l.take hi).drop lo++l.drop hi):=by
  rw[<-List.append_assoc,show l.take lo=(l.take hi).take lo by rw[List.take_take,Nat.min_eq_left h1],List.take_append_drop,List.take_append_drop]
 rw[e1,bF,bF] at k3
 have k4:=k3.part
 rw[aA hn _ (fun x hx=>hw x (List.mem_of_mem_take hx)),List.length_take,Nat.min_eq_left (by omega)] at k4
 refine CR.of_elems (b:=b) (off:=off+lo*e.size) ?_ (by rw[hlen];omega) k4
 by_cases he:(l.take hi).drop lo=[]
 ·exact .inl he
 ·right
  have hne:0<hi-lo:=by rw[<-hlen];exact List.length_pos_iff.2 he
  rw[if_neg (by omega)]
  rcases k1 with rfl|rfl
  ·simp at h2;omega
  ·simp only[Option.map_some,cD]
theorem B8(hE:EnvOk P E)(h:Rp w0 S γ β s a w){dst T x lo hi mx ty pos after guard}:gM P E w0 S γ β s a w ⟨dst,.slice T x lo hi mx,ty,pos,after,guard⟩:=by
 intro R K r hq
 simp only[qv] at hq
 split at hq<;>first|(cases hq;done)|skip
 replace hq:=bind_some_inv hq;obtain⟨t,ht,hq⟩:=hq
 have num:∀ {i:Operand} {n:Nat},((isD (s.opA i)).bind fun a=>a.2.natOf)=some n->∃ k,a.eval i=.int k n:=by
  intro i n hh
  obtain⟨p,h1,h2⟩:=bind_some_inv hh
  obtain⟨kk,h3⟩:=sA h2
  have h4:=aM h i
  rw[dh h1,h3] at h4
  exact⟨kk,(dL h4).1⟩
 cases t<;>(try simp only at hq)<;>first|(cases hq;done)|skip
 case arr m e=>
  rcases hE.lay T _ ht with⟨ts',dZ⟩|hl
  ·cases dZ
  have hn:=aB _ _ hl
  simp only[am] at hn
  have hx:=aM h x
  generalize s.opA x=y at *
  cases y<;>(try simp only at hq)<;>first|(cases hq;done)|skip
  rename_i t' id p
  split at hq<;>first|(cases hq;done)|skip
  rename_i hb
  have:=Ty.eq_of_beq _ _ hb;subst this
  replace hq:=bind_some_inv hq;obtain⟨lo',hlo,hq⟩:=hq
  replace hq:=bind_some_inv hq;obtain⟨hi',hhi,hq⟩:=hq
  split at hq<;>first|(cases hq;done)|skip
  rename_i hbd
  obtain⟨b,off,hv,hγ,hob⟩:=mR hx
  have hlo2:((lo.map a.eval)=none/\lo'=0)\/∃ k,(lo.map a.eval)=some (.int k lo'):=by
   cases lo with
   | none=>simp at hlo;exact .inl ⟨rfl,hlo.symm⟩
   | some i=>obtain⟨k,hk⟩:=num hlo;exact .inr ⟨k,by simp[hk]⟩
  have hhi2:((hi.map a.eval)=none/\hi'=m)\/∃ k,(hi.map a.eval)=some (.int k hi'):=by
   cases hi with
   | none=>simp at hhi;exact .inl ⟨rfl,hhi.symm⟩
   | some i=>obtain⟨k,hk⟩:=num hhi;exact .inr ⟨k,by simp[hk]⟩
  have hrun:=oQ hl (b:=b) (off:=off) hbd.1 hbd.2.1 hbd.2.2 hlo2 hhi2 w
  refine⟨_,hq,.value (v:=.slice (some ⟨b,off+lo'*e.size,none⟩) (hi'-lo') (m-lo')) (w':=w) (by simp only[execOp,Option.map_none,hv,Sem.run_bind,hrun,Result.andThen_ok,Sem.run_pure]) (Qp.same h ?_ _)⟩
  simp only[AR,AC,Value.cells]
  refine⟨by simp,hn,b,off+lo'*e.size,m-lo',rfl,hγ,fun o ho=>?_⟩
  obtain⟨k1,k2⟩:=hob o ho
  exact⟨m,k1,by omega,by rw[k2]⟩
 rename_i e
 rcases hE.lay T _ ht with⟨ts',dZ⟩|hl
 ·cases dZ
 have hn:=aB _ _ hl
 simp only[am] at hn
 replace hq:=bind_some_inv hq;obtain⟨l,hlist,hq⟩:=hq
 replace hq:=bind_some_inv hq;obtain⟨lo',hlo,hq⟩:=hq
 replace hq:=bind_some_inv hq;obtain⟨hi',hhi,hq⟩:=hq
 replace hq:=bind_some_inv hq;obtain⟨l',hl',hq⟩:=hq
 simp only[D.cut] at hl'
 split at hl'<;>first|(cases hl';done)|skip
 rename_i hb
 simp only[Option.some.injEq] at hl'
 subst hl'
 obtain⟨k1,k2⟩:=il hn (aM h x) hlist
 obtain⟨A,cap,hv,hcap,k3⟩:=Gn hn k1 k2 hb.1 hb.2
 have hlo2:((lo.map a.eval)=none/\lo'=0)\/∃ k,(lo.map a.eval)=some (.int k lo'):=by
  cases lo with
  | none=>simp at hlo;exact .inl ⟨rfl,hlo.symm⟩
  | some i=>obtain⟨k,hk⟩:=num hlo;exact .inr ⟨k,by simp[hk]⟩
 have hhi2:((hi.map a.eval)=none/\hi'=l.length)\/∃ k,(hi.map a.eval)=some (.int k hi'):=by
  cases hi with
  | none=>simp at hhi;exact .inl ⟨rfl,hhi.symm⟩
  | some i=>obtain⟨k,hk⟩:=num hhi;exact .inr ⟨k,by simp[hk]⟩
 have hrun:=ug hl (A:=A) (len:=l.length) (cap:=cap) hb.1 hb.2 hcap hlo2 hhi2 w
 have hw:wt (.sl e) (.sl ((l.take hi').drop lo')):=by simp only[wt];exact⟨_,rfl,fun x hx=>k1 x (List.mem_of_mem_take (List.mem_of_mem_drop hx))⟩
 exact⟨_,hq,.value (w':=w) (by simp only[execOp,Option.map_none,hv,Sem.run_bind,hrun,Result.andThen_ok,Sem.run_pure]) (Qp.same h (df (by simpa [am] using hn) hw (eZ.of_CR k3)) _)⟩
theorem Fk(hE:EnvOk P E)(h:Rp w0 S γ β s a w){dst T x ty pos after guard}:gM P E w0 S γ β s a w ⟨dst,.sliceToArrayPointer T x,ty,pos,after,guard⟩:=by
 intro R K r hq
 simp only[qv] at hq
 replace hq:=bind_some_inv hq;obtain⟨t,ht,hq⟩:=hq
 have hx:=aM h x
 generalize s.opA x=y at *
 cases t<;>(try simp only at hq)<;>first|(cases hq;done)|skip
 rename_i n e
 have plain:(y.asList s.ob e).bind (fun l=>if decide (1<=n)&&decide (n<=l.length) then K (.fptr (.arr n e) (.st (l.take n))) else none)=some r ->
   ∃ v,K v=some r/\dq P ⟨dst,.sliceToArrayPointer T x,ty,pos,after,guard⟩ a w (Qp w0 S γ β s a w dst v):=fun hq=>by
  replace hq:=bind_some_inv hq;obtain⟨l,hl1,hq⟩:=hq
  split at hq<;>first|(cases hq;done)|skip
  rename_i hb
  simp only[Bool.and_eq_true,decide_eq_true_eq] at hb
  rcases hE.lay T _ ht with⟨ts',dZ⟩|hl
  ·cases dZ
  obtain⟨u,hu,hlu⟩:=dj hl
  have hn:=aB _ _ hlu
  obtain⟨k1,k2⟩:=il hn hx hl1
  obtain⟨A,cap,b,off,hv,hA,_,hat⟩:=k2.elems
  have hA':A=some ⟨b,off,none⟩:=hA.resolve_left fun h0=>by subst h0;simp at hb;omega
  subst hA'
  have hlt:¬ l.length<n:=by omega
  refine⟨_,hq,.value (v:=.pointer (some ⟨b,off,none⟩)) (w':=w) (by simp only[execOp,hv,Instr.arrayAt,Sem.run_bind,run_underlying hu,Result.andThen_ok,hlt,if_false,Sem.run_pure]) (Qp.same h ?_ _)⟩
  simp only[AR,AC,Value.cells]
  refine⟨by simp,by simp only[wt];exact⟨_,rfl,by simp;omega,fun x hx=>k1 x (List.mem_of_mem_take hx)⟩,by simpa only[am] using hn,b,off,rfl,?_⟩
  have e:D.flats l=[]++(D.flats (l.take n)++D.flats (l.drop n)):=by rw[List.nil_append,<-bF,List.take_append_drop]
  rw[e] at hat
  simpa [D.flat] using hat.part
 cases y<;>(try simp only at hq)<;>first|exact plain hq|skip
 rename_i sl e' id p lo n'
 split at hq<;>first|(cases hq;done)|skip
 rename_i hb
 simp only[Bool.and_eq_true,decide_eq_true_eq] at hb
 obtain⟨⟨hb1,hb2⟩,hb3⟩:=hb
 subst hb1
 have:=Ty.eq_of_beq _ _ hb2;subst this
 rcases hE.lay T _ ht with⟨ts',dZ⟩|hl
 ·cases dZ
 obtain⟨u,hu,_⟩:=dj hl
 simp only[AR,AC,if_true] at hx
 obtain⟨hna,hne,b,off,cap,hcs,hγ,hob⟩:=hx
 have hv:=au hna hcs
 have hlt:¬ n'<n:=by omega
 refine⟨_,hq,.value (v:=.pointer (some ⟨b,off,none⟩)) (w':=w) (by simp only[execOp,hv,Instr.arrayAt,Sem.run_bind,run_underlying hu,Result.andThen_ok,hlt,if_false,Sem.run_pure]) (Qp.same h ?_ _)⟩
 simp only[AR,AC,Value.cells]
 refine⟨by simp,hne,b,off,0,rfl,hγ,fun o ho=>?_⟩
 obtain⟨m,k1,k2,k3⟩:=hob o ho
 exact⟨m,k1,by omega,k3⟩
theorem nU(h:Rp w0 S γ β s a w):∀ (ts:List Ty) (l:List Operand) (xs:List D),aY ts=true->AV.toDl s.ob ts (l.map s.opA)=some xs ->
  dU ts xs/\(l.map a.eval).length=xs.length/\∀ (i:Nat) (x:D) (v:Value),xs[i]?=some x->(l.map a.eval)[i]?=some v->eZ w S x v
 | ts,[],xs,_,hx=>by
  cases ts<;>simp only[List.map_nil,AV.toDl] at hx<;>first|(cases hx;done)|skip
  simp only[Option.some.injEq] at hx
  subst hx
  exact⟨by simp[dU],rfl,fun i x v hx=>by simp at hx⟩
 | ts,y::l,xs,hn,hx=>by
  cases ts<;>simp only[List.map_cons,AV.toDl] at hx<;>first|(cases hx;done)|skip
  rename_i t ts
  obtain⟨x,h1,h2⟩:=bind_some_inv hx
  obtain⟨ys,h3,h4⟩:=bind_some_inv h2
  simp only[Option.some.injEq] at h4
  subst h4
  simp only[aY,Bool.and_eq_true] at hn
  obtain⟨k1,k2⟩:=kQ hn.1 (aM h y) h1
  obtain⟨k3,k4,k5⟩:=nU h ts l ys hn.2 h3
  refine⟨by simp only[dU];exact⟨x,ys,rfl,k1,k3⟩,by simpa using k4,fun i z v hz hv=>?_⟩
  cases i with
  | zero=>simp at hz hv;subst hz;subst hv;exact k2
  | succ i=>simp only[List.getElem?_cons_succ,List.map_cons] at hz hv;exact k5 i z v hz hv
theorem sD:∀ {l:List Nat} {i j x:Nat},cK l=true->l[i]?=some x->l[j]?=some x->i=j
 | [],_,_,_,_,h,_=>by simp at h
 | a::l,i,j,x,h,hi,hj=>by
  simp only[cK,Bool.and_eq_true,Bool.not_eq_true'] at h
  have hn:∀ k,l[k]?≠some a:=fun k hk=>by
   have:l.contains a=true:=by rw[List.contains_iff_mem];exact List.mem_of_getElem? hk
   rw[this] at h;cases h.1
  cases i with
  | zero=>
   cases j with
   | zero=>rfl
   | succ j=>simp at hi hj;subst hi;exact absurd hj (hn j)
  | succ i=>
   cases j with
   | zero=>simp at hi hj;subst hj;exact absurd hi (hn i)
   | succ j=>simp at hi hj;rw[sD h.2 hi hj]
theorem qW:∀ {ts us:List Ty} {xs zs:List D},dU ts xs->dU us zs->dU (ts++us) (xs++zs)
 | [],us,xs,zs,h,k=>by simp only[dU] at h;subst h;simpa using k
 | t::ts,us,xs,zs,h,k=>by
  simp only[dU] at h
  obtain⟨d,l,rfl,h1,h2⟩:=h
  simp only[List.cons_append,dU]
  exact⟨d,l++zs,rfl,h1,qW h2 k⟩
theorem uW(h:Rp w0 S γ β s a w):∀ (ts:List Ty) (l:List AV) (zs:List D) (caps:List Value),lO s.ob ts l=some zs->kI ⟨w,S,γ,β,s.ob,s.dead⟩ l caps ->
  ∃ bs:List Nat,caps=bs.map Ad/\dU ts zs/\bs.length=zs.length/\l.length=bs.length/\(∀ (i b:Nat),bs[i]?=some b->∃ id:Nat,(pA l)[i]?=some id/\γ id=some b)/\∀ (i:Nat) (x:D) (b:Nat),zs[i]?=some x->bs[i]?=some b->Gp w S x b
 | [],l,zs,caps,hz,hc=>by
  cases l with
  | nil=>
   simp only[lO,Option.some.injEq] at hz
   subst hz
   simp only[kI] at hc
   subst hc
   exact⟨[],rfl,by simp only[dU],rfl,rfl,fun i b h=>by simp at h,fun i x b h=>by simp at h⟩
  | cons x l=>simp[lO] at hz
 | t::ts,l,zs,caps,hz,hc=>by
  cases l with
  | nil=>simp[lO] at hz
  | cons x l=>
   cases x<;>first|(simp[lO] at hz;done)|skip
   rename_i u id p
   cases p<;>first|(simp[lO] at hz;done)|skip
   simp only[lO] at hz
   split at hz<;>first|(cases hz;done)|skip
   rename_i u' v ho
   split at hz<;>first|(cases hz;done)|skip
   rename_i hb
   have:=Ty.eq_of_beq _ _ hb;subst this
   obtain⟨z,h1,hz⟩:=bind_some_inv hz
   obtain⟨zs',h2,hz⟩:=bind_some_inv hz
   cases hz
   simp only[kI] at hc
   obtain⟨v',c2,rfl,k1,k2⟩:=hc
   obtain⟨bs,rfl,q1,q2,q3,q4,q5⟩:=uW h ts l zs' c2 h2 k2
   simp only[AC] at k1
   obtain⟨b,off,e1,e2,e3⟩:=k1
   obtain⟨_,e4⟩:=e3 _ ho
   have e5:off=0:=e4
   subst e5
   have hO:=h.obs id _ b ho e2
   simp only[fK] at hO
   obtain⟨_,_,o1,cs,o2,o3,_⟩:=hO
   obtain⟨t1,t2,_⟩:=nT _ _ _ _ h1 o3
   refine⟨b::bs,by simp only[List.cons.injEq,and_true] at e1;rw[e1];rfl,by simp only[dU];exact⟨z,zs',rfl,t1,q1⟩,by simp[q2],by simp[q3],fun i b' hi=>?_,fun i x b' hx hi=>?_⟩
   ·cases i with
    | zero=>simp at hi;subst hi;exact⟨id,rfl,e2⟩
    | succ i=>simp only[List.getElem?_cons_succ] at hi;obtain⟨id',j1,j2⟩:=q4 i b' hi;exact⟨id',by simpa [pA] using j1,j2⟩
   ·cases i with
    | zero=>simp at hx hi;subst hx;subst hi;exact⟨o1,cs,o2,t2⟩
    | succ i=>simp only[List.getElem?_cons_succ] at hx hi;exact q5 i x b' hx hi
theorem rE (h : Rp w0 S γ β s a w) {o : Oper} {f : FuncId} {rty : Ty} {y : D} (n2 : am rty = true \/ ∃ ts, rty = .tup ts /\ aY ts = true) {fn : Func} (f1 : P.funcs[f]? = some fn) (f2 : (fn.name == "runtime.NumGoroutine") = false) (f3 : fn.body.isSome = true)
  (vs:List Value) (hx:(execOp a.eval o).run P w=.ok (.enter f vs.toArray) w)
  (hc:Calls P f vs.toArray w fun e w'=>∃ v,e=.returned v/\(∃ os d,w.drawn<=d/\w'=grown w os d)/\wt rty y/\DR w' (fun b o=>S b o\/(w.heap.size<=b/\b<w'.heap.size)) y v) :
  dq P o a w (Qp w0 S γ β s a w o.dst (.d rty y)):=by
 refine .enter (f:=f) (args:=vs.toArray) (w':=w) hx (hc.mono fun e w' ⟨v,he,⟨os,d,hdr0,hw'⟩,hwt,hdr⟩=>⟨v,he,?_⟩)
 subst hw'
 obtain⟨h1,le1⟩:=h.grow (os:=os) (d:=d) hdr0 (S':=fun b o=>S b o\/(w.heap.size<=b/\b<(grown w os d).heap.size)) (fun _ _ hb=>.inl hb) (fun _ _ hb=>hb)
 refine⟨_,γ,β,h1,?_,fun _ _ hb=>.inl hb,⟨os,d,rfl⟩,fun _ _ hb=>hb,fun _ _=>⟨rfl,rfl⟩⟩
 simp only[AR]
 rcases n2 with n2|⟨ts,rfl,n2⟩
 ·refine .inl ⟨n2,hwt,?_⟩
  cases rty<;>simp only[wt] at hwt<;>first
   | (obtain⟨m,rfl⟩:=hwt;exact hdr)
   | (obtain⟨m,rfl,_⟩:=hwt;exact hdr)
   | (exact hwt.elim)
   | (simp[am] at n2)
 ·exact .inr ⟨ts,rfl,n2,hwt,hdr⟩
theorem Fl(hE:EnvOk P E)(h:Rp w0 S γ β s a w){dst c ty pos after guard}:gM P E w0 S γ β s a w ⟨dst,.call c,ty,pos,after,guard⟩:=by
 intro R K r hq
 obtain⟨callee,args,argTypes⟩:=c
 simp only[qv] at hq
 split at hq<;>first|(cases hq;done)|skip
 case h_1=>
  replace hq:=bind_some_inv hq;obtain⟨T,hT,hq⟩:=hq
  replace hq:=bind_some_inv hq;obtain⟨t,ht,hq⟩:=hq
  replace hq:=bind_some_inv hq;obtain⟨x,hx,hq⟩:=hq
  have hx':(args.map a.eval)[0]?=some (a.eval x):=by simp[hx]
  have hex:execOp a.eval ⟨dst,.call ⟨.builtin .len,args,argTypes⟩,ty,pos,after,guard⟩=(Builtin.len_ argTypes ty (args.map a.eval) >>= fun v=>pure (.value v)):=rfl
  cases t<;>(try simp only at hq)<;>first|(cases hq;done)|skip
  case sl e=>
   rcases hE.lay T _ ht with⟨ts',dZ⟩|hl
   ·cases dZ
   have hn:=aB _ _ hl
   simp only[am] at hn
   obtain⟨u,k1,_⟩:=gt hl
   have run:∀ {A:Option Addr} {n cap:Nat},a.eval x=.slice A n cap->(execOp a.eval ⟨dst,.call ⟨.builtin .len,args,argTypes⟩,ty,pos,after,guard⟩).run P w=.ok (.value (.int .i64 n)) w:=by
    intro A n cap hv
    rw[hex]
    simp[Builtin.len_,hT,hx',run_underlying k1,hv,goInt]
   by_cases hm:∃ t' id,s.opA x=.mem t' id
   ·obtain⟨t',id,hm⟩:=hm
    have hx2:=aM h x
    rw[hm] at hq hx2
    simp only at hq
    split at hq<;>first|(cases hq;done)|skip
    split at hq<;>first|(cases hq;done)|skip
    rename_i u' l hob
    obtain⟨_,b,hγ,hob2⟩:=AL hx2
    obtain⟨l',e1,hv⟩:=hob2 _ hob
    cases e1
    exact⟨_,hq,.value (run hv) (Qp.same h (ck _ _) _)⟩
   ·have hq':((s.opA x).asList s.ob e).bind (fun l=>K (.d (.int .i64) (.int .i64 l.length)))=some r:=by
     revert hq hm
     generalize s.opA x=y
     intro hq hm
     cases y<;>first|exact hq|exact absurd ⟨_,_,rfl⟩ hm
    obtain⟨l,h1,hq⟩:=bind_some_inv hq'
    obtain⟨A,cap,hv⟩:=wU hn (aM h x) h1
    exact⟨_,hq,.value (run hv) (Qp.same h (ck _ _) _)⟩
  case arr n e=>
   rcases hE.lay T _ ht with⟨ts',dZ⟩|hl
   ·cases dZ
   obtain⟨u,k1,_⟩:=dj hl
   exact⟨_,hq,.value (v:=.int .i64 n) (w':=w) (by rw[hex];simp[Builtin.len_,hT,hx',run_underlying k1,goInt]) (Qp.same h (ck _ _) _)⟩
  case str=>
   rcases hE.lay T _ ht with⟨ts',dZ⟩|hl
   ·cases dZ
   replace hq:=bind_some_inv hq;obtain⟨p,hp,hq⟩:=hq
   split at hq<;>first|(cases hq;done)|skip
   rename_i hb
   replace hq:=bind_some_inv hq;obtain⟨z,hz,hq⟩:=hq
   have hx2:=aM h x
   rw[dh hp] at hx2
   obtain⟨t',x'⟩:=p
   have e:=Ty.eq_of_beq _ _ hb
   simp only at e
   subst e
   obtain⟨k1,k2⟩:=uI hx2 rfl
   simp only[wt] at k1
   obtain⟨sb,rfl⟩:=k1
   simp only[D.slen,Option.some.injEq] at hz
   subst hz
   have hsv:a.eval x=.string sb:=by
    obtain⟨c1,c2⟩:=k2
    obtain⟨c,e,h⟩:=cw.single' c2
    have:=au c1 e
    rw[this];cases h;rfl
   have hu:P.underlying T=some .string:=by
    simp only[bh,Bool.and_eq_true] at hl
    have h2:=hl.2
    split at h2
    ·assumption
    ·cases h2
   exact⟨_,hq,.value (v:=.int .i64 sb.size) (w':=w) (by rw[hex];simp[Builtin.len_,hT,hx',run_underlying hu,hsv,goInt]) (Qp.same h (ck _ _) _)⟩
 case h_2=>
  split at hq<;>first|(cases hq;done)|skip
  rename_i x y he
  have he':(args.map a.eval).toList=[a.eval x,a.eval y]:=by simp[he]
  replace hq:=bind_some_inv hq;obtain⟨p,hp,hq⟩:=hq
  replace hq:=bind_some_inv hq;obtain⟨q,hqq,hq⟩:=hq
  split at hq<;>first|(cases hq;done)|skip
  replace hq:=bind_some_inv hq;obtain⟨z,hz,hq⟩:=hq
  have h1:=aM h x
  have h2:=aM h y
  rw[dh hp] at h1
  rw[dh hqq] at h2
  cases hp2:p.2<;>rw[hp2] at hz h1<;>cases hq2:q.2<;>rw[hq2] at hz h2<;>simp only[D.min2] at hz<;>first|(cases hz;done)|skip
  rename_i k n k' m
  simp only[Option.some.injEq] at hz
  subst hz
  obtain⟨v1,t1⟩:=dL h1
  obtain⟨v2,_⟩:=dL h2
  have hex:execOp a.eval ⟨dst,.call ⟨.builtin .min,args,argTypes⟩,ty,pos,after,guard⟩=(Builtin.min_ argTypes ty (args.map a.eval) >>= fun v=>pure (.value v)):=rfl
  refine⟨_,hq,.value (v:=.int k (if m<n then m else n)) (w':=w) ?_ (Qp.same h (by rw[t1];exact ck _ _) _)⟩
  rw[hex]
  simp[Builtin.min_,he,v1,v2,Builtin.min2]
 case h_3=>
  split at hq<;>first|(cases hq;done)|skip
  rename_i x y he
  have he':(args.map a.eval).toList=[a.eval x,a.eval y]:=by simp[he]
  replace hq:=bind_some_inv hq;obtain⟨p,hp,hq⟩:=hq
  replace hq:=bind_some_inv hq;obtain⟨q,hqq,hq⟩:=hq
  split at hq<;>first|(cases hq;done)|skip
  replace hq:=bind_some_inv hq;obtain⟨z,hz,hq⟩:=hq
  have h1:=aM h x
  have h2:=aM h y
  rw[dh hp] at h1
  rw[dh hqq] at h2
  cases hp2:p.2<;>rw[hp2] at hz h1<;>cases hq2:q.2<;>rw[hq2] at hz h2<;>simp only[D.max2] at hz<;>first|(cases hz;done)|skip
  rename_i k n k' m
  simp only[Option.some.injEq] at hz
  subst hz
  obtain⟨v1,t1⟩:=dL h1
  obtain⟨v2,_⟩:=dL h2
  have hex:execOp a.eval ⟨dst,.call ⟨.builtin .max,args,argTypes⟩,ty,pos,after,guard⟩=(Builtin.max_ argTypes ty (args.map a.eval) >>= fun v=>pure (.value v)):=rfl
  refine⟨_,hq,.value (v:=.int k (if m>n then m else n)) (w':=w) ?_ (Qp.same h (by rw[t1];exact ck _ _) _)⟩
  rw[hex]
  simp[Builtin.max_,he,v1,v2,Builtin.max2]
 case h_4 f=>
  replace hq:=bind_some_inv hq;obtain⟨g,hg,hq⟩:=hq
  cases hfr:Nat.beq (E.free f) 0 with
  | false=>rw[hfr] at hq;cases hq
  | true=>
  rw[hfr] at hq
  replace hq:=bind_some_inv hq;obtain⟨xs,hxs,hq⟩:=hq
  replace hq:=bind_some_inv hq;obtain⟨y,hy,hq⟩:=hq
  obtain⟨ptys,rty⟩:=g
  obtain⟨n1,n2,fn,f1,f2,f3⟩:=hE.sig f ptys rty hg
  obtain⟨k1,k2,k3⟩:=nU h ptys args.toList xs n1 hxs
  have hc:=hE.call f ptys rty xs y hg hy k1
  rw[Nat.eq_of_beq_eq_true hfr] at hc
  exact⟨_,hq,rE h n2 f1 f2 f3 (args.toList.map a.eval) (by
   have hm:args.map a.eval=(args.toList.map a.eval).toArray:=Array.ext' (by simp)
   have f2' : ¬ fn.name = "runtime.NumGoroutine" := by simpa using f2
   have hb':¬ fn.body=none:=by intro hh;rw[hh] at f3;cases f3
   simp[execOp,resolve,Act.eval,Deferred.ofValue,invoke,callFunc,f1,f2',hb',hm]) (hc w S (args.toList.map a.eval) h.Sb k1 k2 k3)⟩
 case h_5 t=>
  split at hq<;>first|(cases hq;done)|skip
  rename_i f l ht
  replace hq:=bind_some_inv hq;obtain⟨g,hg,hq⟩:=hq
  cases hfr:(Nat.beq (E.free f) l.length&&cK (pA l)) with
  | false=>rw[hfr] at hq;cases hq
  | true=>
  rw[hfr] at hq
  simp only[Bool.and_eq_true] at hfr
  obtain⟨hfr,hnd⟩:=hfr
  have hfr:=Nat.eq_of_beq_eq_true hfr
  replace hq:=bind_some_inv hq;obtain⟨xs,hxs,hq⟩:=hq
  replace hq:=bind_some_inv hq;obtain⟨zs,hzs,hq⟩:=hq
  replace hq:=bind_some_inv hq;obtain⟨y,hy,hq⟩:=hq
  obtain⟨ptys,rty⟩:=g
  obtain⟨n1,n2,fn,f1,f2,f3⟩:=hE.sig f ptys rty hg
  obtain⟨k1,k2,k3⟩:=nU h _ args.toList xs (fO _ n1) hxs
  have hA:=aM h (.tmp t)
  have hA':AR ⟨w,S,γ,β,s.ob,s.dead⟩ (.clo f l) (a.eval (.tmp t)):=by rw[<-ht];exact hA
  simp only[AR,AC] at hA'
  obtain⟨na,caps,hcs,hcap⟩:=hA'
  have hv:=au na hcs
  obtain⟨bs,rfl,q1,q2,q3,q4,q5⟩:=uW h _ l zs caps hzs hcap
  have hwt:dU ptys (xs++zs):=by
   have:=qW k1 q1
   rwa [List.take_append_drop] at this
  have hc:=hE.call f ptys rty (xs++zs) y hg hy hwt
  have hx:(execOp a.eval ⟨dst,.call ⟨.value (.tmp t),args,argTypes⟩,ty,pos,after,guard⟩).run P w=.ok (.enter f (args.toList.map a.eval++bs.map Ad).toArray) w:=by
   have hm:args.map a.eval=(args.toList.map a.eval).toArray:=Array.ext' (by simp)
   have f2' : ¬ fn.name = "runtime.NumGoroutine" := by simpa using f2
   have hb':¬ fn.body=none:=by intro hh;rw[hh] at f3;cases f3
   simp only[execOp,resolve,hv]
   simp[Deferred.ofValue,invoke,callFunc,f1,f2',hb',hm]
  refine⟨_,hq,rE h n2 f1 f2 f3 (args.toList.map a.eval++bs.map Ad) hx ?_⟩
  rw[hfr] at hc
  cases l with
  | nil=>
   have hb0:bs=[]:=List.length_eq_zero_iff.1 (by simpa using q3.symm)
   have hz0:zs=[]:=List.length_eq_zero_iff.1 (by rw[<-q2,hb0];rfl)
   subst hb0;subst hz0
   simp only[List.append_nil,List.map_nil] at hc ⊢
   exact hc w S (args.toList.map a.eval) h.Sb (by simpa using hwt) k2 k3
  | cons x l=>
   refine hc w S (args.toList.map a.eval) bs h.Sb hwt q3.symm (by rw[k2,List.length_append,<-q2,<-q3];rfl) (fun i j b hi hj=>?_) (fun i x v hx hv=>?_) fun i x b hx hb=>?_
   ·obtain⟨id,e1,e2⟩:=q4 i b hi
    obtain⟨id',e3,e4⟩:=q4 j b hj
    have:=h.γi id id' b e2 e4
    subst this
    exact sD hnd e1 e3
   ·have hlt:i<xs.length:=by rw[<-k2];exact(List.getElem?_eq_some_iff.1 hv).1
    rw[List.getElem?_append_left hlt] at hx
    exact k3 i x v hx hv
   ·rw[k2,List.getElem?_append_right (Nat.le_add_right _ _),Nat.add_sub_cancel_left] at hx
    exact q5 i x b hx hb
theorem I4(hE:EnvOk P E)(h:Rp w0 S γ β s a w){o:Oper}(hf:Fr E s γ β o)(hT:∀ T t,o.op=.alloc T->E.L T=some t->am t=true):gM P E w0 S γ β s a w o:=by
 obtain⟨dst,op,ty,pos,after,guard⟩:=o
 cases op
 case move x=>exact Fo h
 case assign x=>exact Ag h
 case pick c x y=>exact Fp h
 case alloc T=>exact B0 hE h hf (fun t=>hT T t rfl)
 case load T x=>exact Fn hE h
 case lookup T x i c=>exact Ah hE h
 case fieldAddr T x f=>exact ub hE h
 case indexAddr T x i=>exact uc hE h
 case field T x f=>exact B6 hE h
 case index T x f=>exact B7 hE h
 case binOp op T x y T'=>exact B3 hE h
 case unOp op T x=>exact Fq h
 case convert U T x=>exact xC hE h
 case build T ps=>exact B4 hE h
 case buildSlice T n ps=>exact rt hE h hf
 case extract x i=>exact xD h
 case nilCheck x=>exact wm h
 case slice T x lo hi mx=>exact B8 hE h
 case sliceToArrayPointer T x=>exact Fk hE h
 case makeFunc fn x y=>exact wl h
 case call c=>exact Fl hE h
 all_goals (intro R K r hq;simp only[qv] at hq;cases hq)
end
end Sy
end
noncomputable section
namespace Sy
open Go
theorem lc{w0:Root}{w w':World}(h:jz w0 w)(ht:w'.tape=w.tape)(ho:w'.os=w.os)(hu:w'.output=w.output)(hs:w.heap.size<=w'.heap.size)(hd:w.drawn<=w'.drawn)(hh:∀ b,w0.Old b->w'.heap[b]?=w.heap[b]?):jz w0 w':=
 ⟨ht.trans h.tape,ho.trans h.os,hu.trans h.output,Nat.le_trans h.sz hs,Nat.le_trans h.dr hd,fun b hb=>(hh b hb).trans (h.old b hb)⟩
theorem cq{w:World}{b b' off:Nat}{cs:Array Value}(h:b'≠b):(putAt w b off cs).heap[b']?=w.heap[b']?:=by
 simp only[putAt,Array.getElem?_modify]
 rw[if_neg (Ne.symm h)]
theorem gg{w:World}{b off:Nat}{c cs:Array Value}(h:bw w b=some c):bw (putAt w b off cs) b=some (de c off cs):=by
 unfold bw at h ⊢
 split at h<;>first|(cases h;done)|skip
 rename_i hb
 simp only[Option.some.injEq] at h
 subst h
 simp only[putAt,Array.getElem?_modify,if_true,hb,Option.map_some]
theorem ue{w:World}{b b' off:Nat}{cs:Array Value}(h:b'≠b):bw (putAt w b off cs) b'=bw w b':=by
 simp only[bw,cq h]
theorem ce{w:World}{b b' off o:Nat}{cs:Array Value}(h:b'≠b):(putAt w b off cs).cell? ⟨b',o,none⟩=w.cell? ⟨b',o,none⟩:=by
 simp only[World.cell?,cq h]
theorem kr{w:World}{b b' off:Nat}{c cs:Array Value}(h:bw w b=some c)(hs:off+cs.size<=c.size):kF (putAt w b off cs) b'=kF w b':=by
 by_cases e:b'=b
 ·subst e
  simp only[kF,gg h,h,Option.map_some,splice_size _ _ _ hs]
 ·simp only[kF,ue e]
theorem cC.but{w w':World}(b0:Nat)(h:∀ b,b≠b0->b<w.heap.size->w'.heap[b]?=w.heap[b]?)(h0:∀ o,w.heap[b0]?=some o->o≠Obj.deferred (some [])/\∀ r,o≠Obj.loop r):cC w w':=by
 intro b
 by_cases e:b=b0
 ·subst e
  exact⟨fun hb=>absurd rfl (h0 _ hb).1,fun⟨r,hb⟩=>absurd rfl ((h0 _ hb).2 r)⟩
 ·have key:∀ o,w.heap[b]?=some o->w'.heap[b]?=some o:=fun o ho=>(h b e (Array.getElem?_eq_some_iff.1 ho).1).trans ho
  exact⟨key _,fun⟨r,hb⟩=>⟨r,key _ hb⟩⟩
theorem cC.old{w w':World}(h:∀ b,b<w.heap.size->w'.heap[b]?=w.heap[b]?):cC w w':=
 fun b=>⟨fun hb=>(h b (Array.getElem?_eq_some_iff.1 hb).1).trans hb,fun⟨r,hb⟩=>⟨r,(h b (Array.getElem?_eq_some_iff.1 hb).1).trans hb⟩⟩
theorem Ao{w:World}{b:Nat}{c:Array Value}(h:bw w b=some c):∀ o,w.heap[b]?=some o->o≠Obj.deferred (some [])/\∀ r,o≠Obj.loop r:=fun o ho=>by
 constructor
 ·rintro rfl;simp[bw,ho] at h
 ·rintro r rfl;simp[bw,ho] at h
theorem zL{w:World}{b n:Nat}{es:Array MapEntry}(h:w.heap[b]?=some (.map es n)):∀ o,w.heap[b]?=some o->o≠Obj.deferred (some [])/\∀ r,o≠Obj.loop r:=fun o ho=>by
 rw[h] at ho
 simp only[Option.some.injEq] at ho
 subst ho
 exact⟨fun e=>(by cases e),fun r e=>(by cases e)⟩
theorem cC.putAt{w:World}{b off:Nat}{c cs:Array Value}(h:bw w b=some c):cC w (putAt w b off cs):=cC.but b (fun b' hb _=>cq hb) (Ao h)
theorem cC.grown{w:World}{os:List Obj}{d:Nat}:cC w (grown w os d):=cC.old fun b hb=>cp w os d hb
theorem Fm.refl(s:St)(S:Nat->Nat->Prop)(γ:Nat->Option Nat)(a:Act)(w:World):Fm s S γ a w S γ a w:=
 ⟨fun _ _ h=>h,fun _ _ _=>rfl,fun _ _=>rfl,fun _ _ _ h=>⟨h,gN.refl _ _⟩,Nat.le_refl _,fun _ _ h=>h,iR.same rfl (cC.refl _)⟩
theorem Fm.trans{s s1:St}{S S1 S2:Nat->Nat->Prop}{γ γ1 γ2:Nat->Option Nat}{a a1 a2:Act}{w w1 w2:World}(h:Fm s S γ a w S1 γ1 a1 w1)(k:Fm s1 S1 γ1 a1 w1 S2 γ2 a2 w2)(e1:s1.lkS=s.lkS)(e2:s1.lkO=s.lkO):Fm s S γ a w S2 γ2 a2 w2:=
 ⟨fun b o hb=>k.sub b o (h.sub b o hb),fun b o hb=>(k.cell b o (h.sub b o hb)).trans (h.cell b o hb),fun t ht=>(k.slots t (e1 ▸ ht)).trans (h.slots t ht),
  fun id hid b hb=>by
   obtain⟨h1,h2⟩:=h.objs id hid b hb
   obtain⟨k1,k2⟩:=k.objs id (e2 ▸ hid) b h1
   exact⟨k1,h2.trans k2⟩,Nat.le_trans h.sz k.sz,fun id b hb=>k.gam id b (h.gam id b hb),h.dfs.trans (e2 ▸ k.dfs) h.sz k.sz⟩
theorem bB{a:Act}{dst:Option Nat}{v:Value}{t:Nat}(h:dst≠some t):(a.put dst v).tmps.getD t undef=a.tmps.getD t undef:=by
 cases dst with
 | none=>rfl
 | some d=>
  have hd:d≠t:=fun e=>h (by rw[e])
  simp only[Act.put]
  by_cases ht:t<a.tmps.size
  ·simp[Array.getD,ht,Array.getElem_setIfInBounds_ne ht hd]
  ·simp[Array.getD,ht]
def CH(P:Program)(w0:Root)(S:Nat->Nat->Prop)(γ:Nat->Option Nat)(β:Nat->Option (Nat×Nat))(s:St)(a:Act)(w:World)(o:Oper)(s':St):Prop:=
 s'.lkS=s.lkS/\s'.lkO=s.lkO/\s'.fresh=s.fresh/\s'.nt=s.nt/\(∀ id,γ id=none->o.dst≠some (id-s.base)\/id<s.base->s'.ob id=s.ob id) ∧
 dq P o a w fun val w'=>∃ S' γ' β',Rp w0 S' γ' β' s' (a.put o.dst val) w'/\Fm s S γ a w S' γ' (a.put o.dst val) w'/\(∀ id,o.dst≠some (id-s.base)\/id<s.base->γ' id=γ id/\β' id=β id)
section
variable{P:Program}{E:Env}{w0:Root}{S:Nat->Nat->Prop}{γ:Nat->Option Nat}{β:Nat->Option (Nat×Nat)}{s:St}{a:Act}{w:World}
theorem St.put_fields(s:St)(d:Option Nat)(v:AV):(s.put d v).ob=s.ob/\(s.put d v).fresh=s.fresh/\(s.put d v).dead=s.dead/\(s.put d v).nt=s.nt/\(s.put d v).lkS=s.lkS/\(s.put d v).lkO=s.lkO/\(s.put d v).base=s.base:=by
 cases d with
 | none=>exact⟨rfl,rfl,rfl,rfl,rfl,rfl,rfl⟩
 | some d=>simp only[St.put];split<;>exact⟨rfl,rfl,rfl,rfl,rfl,rfl,rfl⟩
theorem bW{os:List Obj}{d b:Nat}(h:b<w.heap.size):(grown w os d).heap[b]?=w.heap[b]?:=cp w os d h
theorem rQ(hE:EnvOk P E)(h:Rp w0 S γ β s a w){o:Oper}(hf:Fr E s γ β o)(hT:∀ T t,o.op=.alloc T->E.L T=some t->am t=true)(hlk:∀ t∈s.lkS,o.dst≠some t){R:Type}{K:St->Option R}{r:R}(hq:qv E s o (fun v=>K (s.put o.dst v))=some r) :
  ∃ s',K s'=some r/\CH P w0 S γ β s a w o s':=by
 obtain⟨v,h1,h2⟩:=I4 hE h hf hT R _ r hq
 obtain⟨p1,p2,p3,p4,p5,p6,p7⟩:=St.put_fields s o.dst v
 refine⟨_,h1,p5,p6,p2,p4,fun id _ _=>by rw[p1],h2.mono fun val w' ⟨S',γ',β',k1,k2,k3,⟨os,d,k4⟩,k5,k6⟩=>?_⟩
 subst k4
 exact⟨S',γ',β',k1.put k2 o.dst,⟨k3,fun b o hb=>cZ (h.Sb b o hb),fun t ht=>bB (hlk t ht),fun id hid b hb=>⟨k5 id b hb,.inl (bW (h.γn id b hb).2)⟩,by simp,k5,iR.same bf cC.grown⟩,k6⟩
theorem Rp.write(h:Rp w0 S γ β s a w){id b off:Nat}{o o':Ob}{c cs:Array Value}(ho:s.ob id=some o)(hγ:γ id=some b)(hS:∀ o,¬ S b o)(hr:bw w b=some c)(hs:off+cs.size<=c.size)
  (hty:∀ p,eh o' p=eh o p/\ci o' p=ci o p) (hmany:∀ t l,o=.many t l->∃ l',o'=.many t l'/\l'.length=l.length) (hmp:∀ kt vt l,o≠.mp kt vt l)
  (hob:fK ⟨putAt w b off cs,S,γ,β,(s.setOb id (some o')).ob,s.dead⟩ b o') :
  Rp w0 S γ β (s.setOb id (some o')) a (putAt w b off cs)/\Cx.le ⟨w,S,γ,β,s.ob,s.dead⟩ ⟨putAt w b off cs,S,γ,β,(s.setOb id (some o')).ob,s.dead⟩:=by
 have hbS:∀ b' o,S b' o->b'≠b:=fun b' o hb e=>hS o (e ▸ hb)
 have hle:Cx.le ⟨w,S,γ,β,s.ob,s.dead⟩ ⟨putAt w b off cs,S,γ,β,(s.setOb id (some o')).ob,s.dead⟩:=by
  refine⟨fun b' o hb=>ce (hbS b' o hb),fun _ _ hb=>hb,fun _ _ hb=>hb,fun i x hx _=>?_,fun v hv=>⟨hv,fun b' e he=>⟨he,fun n hn=>by rw[kr hr hs];exact hn⟩⟩⟩
  simp only[St.setOb] at hx
  by_cases e:i=id
  ·subst e
   simp only[if_true,Option.some.injEq] at hx
   subst hx
   exact⟨o,ho,hty,hmany,fun kt vt l e=>absurd e (hmp kt vt l)⟩
  ·rw[if_neg e] at hx
   exact⟨x,hx,fun p=>⟨rfl,rfl⟩,fun t l e=>⟨l,e,rfl⟩,fun _ _ l e=>⟨l,e⟩⟩
 refine⟨⟨lc h.ext rfl rfl rfl (by simp) (Nat.le_refl _) (fun b' hb'=>cq (fun e=>(h.γn id b hγ).1 (e ▸ hb'))),fun t ht=>(h.tms t ht).mono hle,h.nt,h.tmu,fun i x b' hx hb'=>?_,fun i b' hb'=>by simpa using h.γn i b' hb',h.γi,h.γf,
  fun v b' e hv he=>by simpa using h.βn v b' e hv he,h.βi,h.βγ,h.βf,fun b' o hb=>by simpa using h.Sb b' o hb,h.So⟩,hle⟩
 simp only[St.setOb] at hx
 by_cases e:i=id
 ·subst e
  simp only[if_true,Option.some.injEq] at hx
  subst hx
  rw[hγ] at hb';cases hb'
  exact hob
 ·rw[if_neg e] at hx
  have hne:b'≠b:=fun e'=>e (h.γi i id b' hb' (e' ▸ hγ))
  exact(h.obs i x b' hx hb').mono hle (cq hne) fun _ hh=>hh
theorem zw(hE:EnvOk P E)(h:Rp w0 S γ β s a w){dst T x y ty pos after guard}(hlk:∀ t∈s.lkS,dst≠some t){R:Type}{K:St->Option R}{r:R}(hd:dst=none)
  (hq:og E s ⟨dst,.store T x y,ty,pos,after,guard⟩ K=some r):∃ s',K s'=some r/\CH P w0 S γ β s a w ⟨dst,.store T x y,ty,pos,after,guard⟩ s':=by
 subst hd
 simp only[og] at hq
 replace hq:=bind_some_inv hq;obtain⟨t,ht,hq⟩:=hq
 have hx:=aM h x
 have hy:=aM h y
 generalize s.opA x=ax at *
 cases ax<;>(try simp only at hq)<;>first|(cases hq;done)|skip
 rename_i t' id p
 split at hq<;>first|(cases hq;done)|skip
 rename_i hb
 simp only[Bool.and_eq_true,Bool.not_eq_true'] at hb
 obtain⟨⟨hb1,hb2⟩,hb3⟩:=hb
 have:=Ty.eq_of_beq _ _ hb1;subst this
 have hlo:id ∉ s.lkO:=by
  intro hh
  have:s.lkO.contains id=true:=by simpa using hh
  rw[this] at hb3;cases hb3
 obtain⟨b,off,hv,hγ,hob⟩:=mR hx
 split at hq<;>first|(cases hq;done)|skip
 ·
  rename_i u v hov
  obtain⟨k1,rfl⟩:=hob _ hov
  have hO:=h.obs id _ b hov hγ
  simp only[fK] at hO
  obtain⟨o1,o2,o3,cs,o4,o5,o6⟩:=hO
  simp only[eh] at k1
  have hn:=c7 p o1 k1
  have hl:=gX hE ht hn
  obtain⟨y1,y2⟩:=uH hb2 hn hy
  obtain⟨v',pre,mid,post,m1,rfl,m2,m3,m4,m5⟩:=Fv p o2 o1 k1 o5 y1 hb2 hq
  obtain⟨y3,y4⟩:=fS _ _ _ hb2 y1
  have hr:=mB hl (w:=w) (b:=b) (off:=aQ u p) o4 y2 y3 y4 (by simp only[List.size_toArray,List.length_append];omega)
  have hsz:aQ u p+(a.eval y).cells.toList.toArray.size<=(pre++(mid++post)).toArray.size:=by simp only[List.size_toArray,List.length_append,Array.length_toList] at *;omega
  have hle0:fK ⟨putAt w b (aQ u p) (a.eval y).cells.toList.toArray,S,γ,β,(s.setOb id (some (.one u v'))).ob,s.dead⟩ b (.one u v'):=by
   have hbS:∀ b' o,S b' o->b'≠b:=fun b' o hb e=>o3 o (e ▸ hb)
   have hle:Cx.le ⟨w,S,γ,β,s.ob,s.dead⟩ ⟨putAt w b (aQ u p) (a.eval y).cells.toList.toArray,S,γ,β,(s.setOb id (some (.one u v'))).ob,s.dead⟩:=by
    refine⟨fun b' o hb=>ce (hbS b' o hb),fun _ _ hb=>hb,fun _ _ hb=>hb,fun i z hz _=>?_,fun v hv=>⟨hv,fun b' e he=>⟨he,fun n hn=>by rw[kr o4 hsz];exact hn⟩⟩⟩
    simp only[St.setOb] at hz
    by_cases e:i=id
    ·subst e
     simp only[if_true,Option.some.injEq] at hz
     subst hz
     exact⟨_,hov,fun p=>⟨rfl,rfl⟩,(fun t l e=>by cases e),fun _ _ l e=>by cases e⟩
    ·rw[if_neg e] at hz
     exact⟨z,hz,fun p=>⟨rfl,rfl⟩,fun t l e=>⟨l,e,rfl⟩,fun _ _ l e=>⟨l,e⟩⟩
   simp only[fK]
   refine⟨o1,m5,o3,pre++((a.eval y).cells.toList++post),?_,AC.mono hle _ _ m4,(fS _ _ _ m5 m4).1⟩
   rw[gg o4,<-m2,fQ pre mid post _ m3]
  obtain⟨n1,n2⟩:=h.write (o':=.one u v') hov hγ o3 o4 hsz (fun p=>⟨rfl,rfl⟩) (fun t l e=>by cases e) (fun _ _ _ e=>by cases e) hle0
  refine⟨_,m1,rfl,rfl,rfl,rfl,fun i hi _=>?_,.skip (w':=putAt w b (aQ u p) (a.eval y).cells.toList.toArray) ?_ ⟨S,γ,β,n1,?_,fun _ _=>⟨rfl,rfl⟩⟩⟩
  ·simp only[St.setOb];rw[if_neg];intro e;subst e;have hγ':γ i=some b:=hγ;rw[hγ'] at hi;cases hi
  ·simp only[execOp,hv,Sem.run_bind,ci,hr,Result.andThen_ok,Sem.run_pure]
  ·exact⟨fun _ _ hb=>hb,fun b' o hb=>ce (fun e=>o3 o (e ▸ hb)),fun _ _=>rfl,fun i hi b' hb'=>⟨hb',.inl (cq fun e=>hlo ((h.γi id i b hγ (e ▸ hb')) ▸ hi))⟩,by simp,fun _ _ hb=>hb,iR.same rfl (cC.putAt o4)⟩
 ·
  rename_i u l hov
  cases p with
  | nil=>simp only at hq;cases hq
  | cons i p=>
   simp only at hq
   replace hq:=bind_some_inv hq;obtain⟨z,hz,hq⟩:=hq
   replace hq:=bind_some_inv hq;obtain⟨y',hy',hq⟩:=hq
   replace hq:=bind_some_inv hq;obtain⟨z',hz',hq⟩:=hq
   obtain⟨k1,rfl⟩:=hob _ hov
   have hO:=h.obs id _ b hov hγ
   simp only[fK] at hO
   obtain⟨o1,o2,o3,cs,o4,o5⟩:=hO
   simp only[eh] at k1
   have hn:=c7 p o1 k1
   have hl:=gX hE ht hn
   obtain⟨y1,y2⟩:=uH hb2 hn hy
   obtain⟨y3,y4⟩:=fS _ _ _ hb2 y1
   obtain⟨q1,q2,_⟩:=nT _ _ _ _ hy' y1
   obtain⟨s1,A,C,B,s2,s3,s4,s5⟩:=mC p (o2 z (List.mem_of_getElem? hz)) o1 k1 hz' q1
   have hi:=(List.getElem?_eq_some_iff.1 hz).1
   have e0:(D.flats (l.take i)).length=i*u.size:=by
    rw[aA o1 _ (fun x hx=>o2 x (List.mem_of_mem_take hx)),List.length_take,Nat.min_eq_left (Nat.le_of_lt hi)]
   rw[bK hz,s2,show D.flats (l.take i)++(A++(C++B)++D.flats (l.drop (i+1)))=(D.flats (l.take i)++A)++(C++(B++D.flats (l.drop (i+1)))) by simp[List.append_assoc]] at o5
   obtain⟨c1,c2⟩:=o5.split
   obtain⟨c3,c4⟩:=c2.split
   generalize hpre:cs.take (D.flats (l.take i)++A).length=pre at *
   generalize hrest:cs.drop (D.flats (l.take i)++A).length=rest at *
   have ecs:cs=pre++(rest.take C.length++rest.drop C.length):=by rw[<-hpre,List.take_append_drop,<-hrest,List.take_append_drop]
   have lpre:pre.length=i*u.size+aQ u p:=by rw[<-c1.1,List.length_append,e0,s4]
   have lmid:(rest.take C.length).length=(a.eval y).cells.toList.length:=by rw[<-c3.1,s5,y3]
   subst ecs
   have hr:=mB hl (w:=w) (b:=b) (off:=i*u.size+aQ u p) o4 y2 y3 y4 (by simp only[List.size_toArray,List.length_append];omega)
   have hsz:i*u.size+aQ u p+(a.eval y).cells.toList.toArray.size<=(pre++(rest.take C.length++rest.drop C.length)).toArray.size:=by simp only[List.size_toArray,List.length_append,Array.length_toList] at *;omega
   have hnew:fK ⟨putAt w b (i*u.size+aQ u p) (a.eval y).cells.toList.toArray,S,γ,β,(s.setOb id (some (.many u (l.set i z')))).ob,s.dead⟩ b (.many u (l.set i z')):=by
    have hbS:∀ b' o,S b' o->b'≠b:=fun b' o hb e=>o3 o (e ▸ hb)
    simp only[fK]
    refine⟨o1,fun x hx=>?_,o3,pre++((a.eval y).cells.toList++rest.drop C.length),?_,?_⟩
    ·rcases List.mem_or_eq_of_mem_set hx with hx|hx
     ·exact o2 x hx
     ·rw[hx];exact s1
    ·rw[gg o4,<-lpre,fQ pre _ _ _ lmid]
    ·rw[kj hz,s3,show D.flats (l.take i)++(A++(y'.flat++B)++D.flats (l.drop (i+1)))=(D.flats (l.take i)++A)++(y'.flat++(B++D.flats (l.drop (i+1)))) by simp[List.append_assoc]]
     exact(c1.append (q2.append c4)).mono (fun b' o hb=>ce (hbS b' o hb)) fun _ _ hh=>hh
   obtain⟨n1,n2⟩:=h.write (o':=.many u (l.set i z')) hov hγ o3 o4 hsz (fun p=>by cases p<;>exact⟨rfl,rfl⟩) (fun t l' e=>by cases e;exact⟨_,rfl,by simp⟩) (fun _ _ _ e=>by cases e) hnew
   refine⟨_,hq,rfl,rfl,rfl,rfl,fun j hj _=>?_,.skip (w':=putAt w b (i*u.size+aQ u p) (a.eval y).cells.toList.toArray) ?_ ⟨S,γ,β,n1,?_,fun _ _=>⟨rfl,rfl⟩⟩⟩
   ·simp only[St.setOb];rw[if_neg];intro e;subst e;have hγ':γ j=some b:=hγ;rw[hγ'] at hj;cases hj
   ·simp only[execOp,hv,Sem.run_bind,ci,hr,Result.andThen_ok,Sem.run_pure]
   ·exact⟨fun _ _ hb=>hb,fun b' o hb=>ce (fun e=>o3 o (e ▸ hb)),fun _ _=>rfl,fun j hj b' hb'=>⟨hb',.inl (cq fun e=>hlo ((h.γi id j b hγ (e ▸ hb')) ▸ hj))⟩,by simp,fun _ _ hb=>hb,iR.same rfl (cC.putAt o4)⟩
end
end Sy
end
noncomputable section
namespace Sy
open Go
section
variable{P:Program}{E:Env}{w0:Root}{S:Nat->Nat->Prop}{γ:Nat->Option Nat}{β:Nat->Option (Nat×Nat)}{s:St}{a:Act}{w:World}
theorem Rp.setFree(h:Rp w0 S γ β s a w){id:Nat}(hid:γ id=none)(o:Option Ob):Rp w0 S γ β (s.setOb id o) a w/\Cx.le ⟨w,S,γ,β,s.ob,s.dead⟩ ⟨w,S,γ,β,(s.setOb id o).ob,s.dead⟩:=by
 have hle:Cx.le ⟨w,S,γ,β,s.ob,s.dead⟩ ⟨w,S,γ,β,(s.setOb id o).ob,s.dead⟩:=by
  refine⟨fun _ _ _=>rfl,fun _ _ k=>k,fun _ _ k=>k,fun i x hx ⟨b,hb⟩=>?_,fun v hv=>⟨hv,fun b e he=>⟨he,fun n hn=>hn⟩⟩⟩
  simp only[St.setOb] at hx
  by_cases e:i=id
  ·subst e
   have hb':γ i=some b:=hb
   rw[hid] at hb';cases hb'
  ·rw[if_neg e] at hx
   exact⟨x,hx,fun p=>⟨rfl,rfl⟩,fun t l e=>⟨l,e,rfl⟩,fun _ _ l e=>⟨l,e⟩⟩
 refine⟨⟨h.ext,fun t ht=>(h.tms t ht).mono hle,h.nt,h.tmu,fun i x b hx hb=>?_,h.γn,h.γi,h.γf,h.βn,h.βi,h.βγ,h.βf,h.Sb,h.So⟩,hle⟩
 simp only[St.setOb] at hx
 by_cases e:i=id
 ·subst e;rw[hid] at hb;cases hb
 ·rw[if_neg e] at hx
  exact(h.obs i x b hx hb).mono hle rfl fun _ k=>k
theorem iI(s:St)(id:Nat)(o:Option Ob):(s.setOb id o).ob id=o:=by simp[St.setOb]
theorem j6(s:St){id i:Nat}(o:Option Ob)(h:i≠id):(s.setOb id o).ob i=s.ob i:=by simp[St.setOb,h]
theorem Rp.make(h:Rp w0 S γ β s a w){id:Nat}(hid:γ id=none)(hi:id<s.base+4096){c:Array Value}{T:TypeId}{o:Ob}(d:Nat)(hdr:w.drawn<=d)
  (ho:fK ⟨grown w [.cells c T] d,S,mQ γ id w.heap.size,β,(s.setOb id (some o)).ob,s.dead⟩ w.heap.size o) :
  Rp w0 S (mQ γ id w.heap.size) β (s.setOb id (some o)) a (grown w [.cells c T] d)/\Cx.le ⟨w,S,γ,β,s.ob,s.dead⟩ ⟨grown w [.cells c T] d,S,mQ γ id w.heap.size,β,(s.setOb id (some o)).ob,s.dead⟩:=by
 obtain⟨h1,le1⟩:=h.grow (os:=[.cells c T]) (d:=d) hdr (S':=S) (fun _ _ hb=>hb) (fun _ _ hb=>.inl hb)
 obtain⟨h2,le2⟩:=h1.setFree hid (some o)
 have hw0:¬ w0.Old w.heap.size:=fun ho=>by have:=ho.1;have:=h.ext.sz;omega
 obtain⟨h3,le3⟩:=h2.newOb (id:=id) (b:=w.heap.size) hid hw0 (by simp) (fun i hi=>by have:=(h.γn i _ hi).2;omega) (fun u f hu hf=>by have:=(h.βn u _ _ hu hf).2.1;omega) hi (fun x hx=>by
  rw[iI] at hx;cases hx;exact ho)
 refine⟨h3,⟨fun b o hb=>le1.cell b o hb,fun _ _ hb=>hb,fun i b hb=>dN hid hb,fun i x hx hb=>?_,fun v hv=>⟨hv,fun b e he=>⟨he,fun n hn=>by
  have:=le1.β v hv;exact(this.2 b e he).2 n hn⟩⟩⟩⟩
 obtain⟨b,hb⟩:=hb
 exact le2.ob i x hx ⟨b,hb⟩
theorem ES(hE:EnvOk P E)(h:Rp w0 S γ β s a w){dst T x ty pos after guard}(hf:Fr E s γ β ⟨dst,.box T x,ty,pos,after,guard⟩)(hlk:∀ t∈s.lkS,dst≠some t){R:Type}{K:St->Option R}{r:R}(hT:∀ t,E.L T=some t->am t=true)
  (hq:og E s ⟨dst,.box T x,ty,pos,after,guard⟩ K=some r):∃ s',K s'=some r/\CH P w0 S γ β s a w ⟨dst,.box T x,ty,pos,after,guard⟩ s':=by
 simp only[og] at hq
 replace hq:=bind_some_inv hq;obtain⟨t,ht,hq⟩:=hq
 replace hq:=bind_some_inv hq;obtain⟨d,hd,hq⟩:=hq
 split at hq<;>first|(cases hq;done)|skip
 rename_i hfit
 obtain⟨hd4,hγ,hβ,_⟩:=hf rfl d hd
 have hn:=hT t ht
 obtain⟨k1,k2⟩:=uH hfit hn (aM h x)
 obtain⟨k3,_⟩:=fS _ _ _ hfit k1
 have hle:Cx.le ⟨w,S,γ,β,s.ob,s.dead⟩ ⟨grown w [.cells (a.eval x).cells T] w.drawn,S,mQ γ (s.base+d) w.heap.size,β,(s.setOb (s.base+d) (some (.one t (s.opA x)))).ob,s.dead⟩:=by
  refine⟨fun b o hb=>cZ (h.Sb b o hb),fun _ _ hb=>hb,fun i b hb=>dN hγ hb,fun i z hz ⟨b,hb⟩=>?_,fun v hv=>⟨hv,fun b e he=>⟨he,fun n hn=>by rw[sN (h.βn v b e hv he).2.1];exact hn⟩⟩⟩
  by_cases e:i=s.base+d
  ·subst e;have hb':γ (s.base+d)=some b:=hb;rw[hγ] at hb';cases hb'
  ·have hz':s.ob i=some z:=by rw[<-hz];exact(j6 s _ e).symm
   exact⟨z,hz',fun p=>⟨rfl,rfl⟩,fun t l e=>⟨l,e,rfl⟩,fun _ _ l e=>⟨l,e⟩⟩
 obtain⟨h1,le1⟩:=h.make (id:=s.base+d) hγ (by omega) (c:=(a.eval x).cells) (T:=T) (o:=.one t (s.opA x)) w.drawn (Nat.le_refl _) (by
  simp only[fK]
  exact⟨hn,hfit,fun o ho=>by have:=h.Sb _ _ ho;omega,(a.eval x).cells.toList,by rw[Array.toArray_toList];exact pd,AC.mono hle _ _ k1,k3⟩)
 obtain⟨p1,p2,p3,p4,p5,p6,p7⟩:=St.put_fields (s.setOb (s.base+d) (some (.one t (s.opA x)))) dst (.ptr t (s.base+d) [])
 refine⟨_,hq,p5,p6,p2,p4,fun id hid hh=>?_,.value (v:=.pointer (some ⟨w.heap.size,0,none⟩)) (w':=grown w [.cells (a.eval x).cells T] w.drawn) ?_ ⟨S,_,β,h1.put (gb (bn _ _ _) fun o ho=>?_) dst,?_,fun id hid=>⟨bI _ _ ?_,rfl⟩⟩⟩
 ·rw[p1]
  refine j6 s _ fun e=>?_
  subst e
  rcases hh with hh|hh
  ·exact hh (by rw[hd,Nat.add_sub_cancel_left])
  ·omega
 ·rw[<-dt]
  simp only[execOp,Instr.box,newVar,newRow,Sem.run_bind,Result.andThen_ok,run_newObj,Sem.run_pure]
  rfl
 ·have ho':(s.setOb (s.base+d) (some (.one t (s.opA x)))).ob (s.base+d)=some o:=ho
  rw[iI] at ho'
  cases ho'
  exact⟨by cases t<;>rfl,by cases t<;>rfl⟩
 ·exact⟨fun _ _ hb=>hb,fun b o hb=>cZ (h.Sb b o hb),fun t ht=>bB (hlk t ht),fun id hid b hb=>⟨dN hγ hb,.inl (bW (h.γn id b hb).2)⟩,by simp,fun _ _ hb=>dN hγ hb,iR.same bf cC.grown⟩
 ·intro e
  subst e
  rcases hid with hid|hid
  ·exact hid (by rw[hd,Nat.add_sub_cancel_left])
  ·omega
theorem xX{n:Nat}(h:n<=1073741824):IntKind.i64.wrap (n:Int)=(n:Int):=by
 exact IntWalk.i64_in _ (by omega)
theorem rh(hE:EnvOk P E)(h:Rp w0 S γ β s a w){dst T x y ty pos after guard}(hf:Fr E s γ β ⟨dst,.makeSlice T x y,ty,pos,after,guard⟩)(hlk:∀ t∈s.lkS,dst≠some t){R:Type}{K:St->Option R}{r:R}
  (hq:og E s ⟨dst,.makeSlice T x y,ty,pos,after,guard⟩ K=some r):∃ s',K s'=some r/\CH P w0 S γ β s a w ⟨dst,.makeSlice T x y,ty,pos,after,guard⟩ s':=by
 simp only[og] at hq
 replace hq:=bind_some_inv hq;obtain⟨t,ht,hq⟩:=hq
 replace hq:=bind_some_inv hq;obtain⟨d,hd,hq⟩:=hq
 split at hq<;>first|(cases hq;done)|skip
 rename_i e i j
 split at hq<;>first|(cases hq;done)|skip
 rename_i hij
 subst hij
 replace hq:=bind_some_inv hq;obtain⟨p,hp,hq⟩:=hq
 replace hq:=bind_some_inv hq;obtain⟨n,hn1,hq⟩:=hq
 split at hq<;>first|(cases hq;done)|skip
 rename_i hn30
 obtain⟨hd4,hγ,hβ,_⟩:=hf rfl d hd
 rcases hE.lay T _ ht with⟨ts',dZ⟩|hl
 ·cases dZ
 have hn:=aB _ _ hl
 simp only[am] at hn
 obtain⟨u,h1,h2⟩:=gt hl
 obtain⟨i0,z0,hi1,hi2,kD,hi4,hi5,_⟩:=ed (fq h2)
 have hv:a.eval (.tmp i)=.int .i64 n\/∃ k,a.eval (.tmp i)=.int k n:=by
  obtain⟨kk,h3⟩:=sA hn1
  have h4:=aM h (.tmp i)
  rw[show s.opA (.tmp i)=s.tm i from rfl,dh hp,h3] at h4
  exact .inr ⟨kk,(dL h4).1⟩
 obtain⟨k,hv⟩:∃ k,a.eval (.tmp i)=.int k n:=by
  rcases hv with hv|hv
  ·exact⟨_,hv⟩
  ·exact hv
 have hzs:z0.cells.size=e.size:=by
  have:=(bX (w:=w) (S:=S) hi5).1
  rw[<-Array.length_toList,<-this];exact bT _ _ (cu e hn) hn
 let cells:Array Value:=(Array.range (n*e.size)).map fun i=>z0.cells[i%z0.cells.size]!
 have hz:∀ w',cw w' S (D.flats (List.replicate n (aF e))) cells.toList:=fun w'=>tf hi5 hzs n
 obtain⟨r1,le1⟩:=h.make (id:=s.base+d) hγ (by omega) (c:=cells) (T:=u) (o:=.many e (List.replicate n (aF e))) w.drawn (Nat.le_refl _) (by
  simp only[fK]
  exact⟨hn,fun x hx=>by rw[(List.mem_replicate.1 hx).2];exact cu e hn,fun o ho=>by have:=h.Sb _ _ ho;omega,cells.toList,by rw[Array.toArray_toList];exact pd,hz _⟩)
 have hrun:(Instr.makeSlice T (.int k n) (.int k n)).run P w=.ok (.slice (some ⟨w.heap.size,0,none⟩) n n) (grown w [.cells cells u] w.drawn):=by
  have hb:((i0.bytes:Int)*(n:Int))<=2^48:=by
   have h5:i0.bytes*n<=16384*1073741824:=Nat.mul_le_mul kD.1 hn30
   have:((i0.bytes*n:Nat):Int)<=((16384*1073741824:Nat):Int):=Int.ofNat_le.2 h5
   rw[Int.natCast_mul] at this
   omega
  have hw:=xX hn30
  have c1:¬ ((n:Int)<0):=by omega
  have c2:¬ ((i0.bytes:Int)*(n:Int)>2^48):=by omega
  simp only[Instr.makeSlice,Sem.run_bind,run_underlying h1,Result.andThen_ok,asInt,asIntOf,pure_bind,typeInfo,run_program,hi1,Sem.run_pure,hw]
  rw[decide_eq_false c1,decide_eq_false c2,decide_eq_false (show ¬ ((n:Int)>n) from Int.lt_irrefl _)]
  simp only[Bool.or_self,Bool.false_eq_true,if_false,Sem.run_bind,run_askRoom,Result.andThen_ok,bG h2,Int.toNat_natCast]
  by_cases h0:n*e.size=0
  ·have e0:((Array.range (n*e.size)).map fun i=>(#[]:Array Value)[i%(#[]:Array Value).size]!)=cells:=by
    show _=((Array.range (n*e.size)).map fun i=>z0.cells[i%z0.cells.size]!)
    rw[h0];simp
   rw[if_pos h0]
   simp only[pure_bind,e0,newRow,Sem.run_bind,run_newObj,Result.andThen_ok,Sem.run_pure]
   rw[<-dt]
   rfl
  ·rw[if_neg h0]
   simp only[zeroValue,typeInfo,Sem.run_bind,run_program,hi1,hi4,Result.andThen_ok,Sem.run_pure,bind_pure_comp,Sem.run_map,newRow,run_newObj]
   rw[<-dt]
   rfl
 obtain⟨p1,p2,p3,p4,p5,p6,p7⟩:=St.put_fields (s.setOb (s.base+d) (some (.many e (List.replicate n (aF e))))) dst (.mem e (s.base+d))
 refine⟨_,hq,p5,p6,p2,p4,fun id hid hh=>?_,.value (v:=.slice (some ⟨w.heap.size,0,none⟩) n n) (w':=grown w [.cells cells u] w.drawn) (by simp only[execOp,hv,Sem.run_bind,hrun,Result.andThen_ok,Sem.run_pure]) ⟨S,_,β,r1.put ?_ dst,?_,fun id hid=>⟨bI _ _ ?_,rfl⟩⟩⟩
 ·rw[p1]
  refine j6 s _ fun e=>?_
  subst e
  rcases hh with hh|hh
  ·exact hh (by rw[hd,Nat.add_sub_cancel_left])
  ·omega
 ·simp only[AR,AC,Value.cells]
  refine⟨by simp,hn,w.heap.size,bn _ _ _,fun o ho=>?_⟩
  rw[iI] at ho
  cases ho
  exact⟨_,rfl,by simp⟩
 ·exact⟨fun _ _ hb=>hb,fun b o hb=>cZ (h.Sb b o hb),fun t ht=>bB (hlk t ht),fun id hid b hb=>⟨dN hγ hb,.inl (bW (h.γn id b hb).2)⟩,by simp,fun _ _ hb=>dN hγ hb,iR.same bf cC.grown⟩
 ·intro e
  subst e
  rcases hid with hid|hid
  ·exact hid (by rw[hd,Nat.add_sub_cancel_left])
  ·omega
theorem rW(m:Nat):∀ (r c:Nat),c<=2*m+200->Builtin.growBy m r c<=2*m+200
 | 0,c,h=>by simpa [Builtin.growBy] using h
 | r+1,c,h=>by
  simp only[Builtin.growBy]
  split
  ·exact h
  ·exact rW m r _ (by omega)
theorem xr{need cap:Nat}(h:cap<need):Builtin.nextslicecap need cap<=2*need+200:=by
 unfold Builtin.nextslicecap
 split
 ·omega
 ·split
  ·omega
  ·exact rW need 4 cap (by omega)
theorem gG{w:World}{S:Nat->Nat->Prop}{e:Ty}{l:List D}{v:Value}(hn:am e=true)(hl:∀ x∈l,wt e x)(h:CR w S (.sl l) v):∃ cs:List Value,cw w S (D.flats l) cs/\(Builtin.firstCells e.size l.length v).run P w=.ok cs.toArray w:=by
 obtain⟨A,cap,b,off,hv,k1,k2,cs,k3,k4⟩:=h.elems
 refine⟨cs,k3,?_⟩
 have hlen:cs.length=l.length*e.size:=by rw[<-k3.1];exact aA hn l hl
 subst hv
 cases A with
 | none=>
  rcases k1 with rfl|k1
  ·have:cs=[]:=by
    simp at hlen;exact hlen
   subst this;rfl
  ·cases k1
 | some A=>
  rcases k1 with rfl|k1
  ·have:cs=[]:=by
    simp at hlen;exact hlen
   subst this
   simp[Builtin.firstCells,loadCells,loadCellsFrom]
  ·cases k1
   simp only[Builtin.firstCells]
   rw[<-hlen]
   exact run_loadCells_list (P:=P) w ⟨b,off,none⟩ cs (fun j v hv=>by rw[cD];exact(k4 j v hv).2)
theorem ph{c:Cx}{e:Ty}{v:Nat}(hn:am e=true):AR c (.own e v []) (.slice none 0 0):=by
 simp only[AR,AC,Value.cells]
 exact⟨by simp,hn,fun x hx=>by simp at hx,none,0,rfl,.sl [] none 0 0 0 (fun _=>undef) (.inl rfl) (Nat.le_refl 0) (fun i d hd=>by simp[D.flats] at hd) (fun i d hd=>by simp[D.flats] at hd),fun _=>.inl ⟨rfl,rfl⟩⟩
theorem Rp.bury(h:Rp w0 S γ β s a w)(v:Nat):Rp w0 S γ β { s with dead:=v::s.dead } a w/\Cx.le ⟨w,S,γ,β,s.ob,s.dead⟩ ⟨w,S,γ,β,s.ob,v::s.dead⟩:=by
 have hle:Cx.le ⟨w,S,γ,β,s.ob,s.dead⟩ ⟨w,S,γ,β,s.ob,v::s.dead⟩:=
  ⟨fun _ _ _=>rfl,fun _ _ k=>k,fun _ _ k=>k,fun id o ho _=>⟨o,ho,fun p=>⟨rfl,rfl⟩,fun t l e=>⟨l,e,rfl⟩,fun _ _ l e=>⟨l,e⟩⟩,fun u hu=>⟨fun hh=>hu (List.mem_cons_of_mem _ hh),fun b e he=>⟨he,fun n hn=>hn⟩⟩⟩
 have nd:∀ {u},u ∉ v::s.dead->u ∉ s.dead:=fun hu hh=>hu (List.mem_cons_of_mem _ hh)
 exact⟨⟨h.ext,fun t ht=>(h.tms t ht).mono hle,h.nt,h.tmu,fun id o b ho hb=>(h.obs id o b ho hb).mono hle rfl fun _ k=>k,h.γn,h.γi,h.γf,fun u b e hu=>h.βn u b e (nd hu),fun u u' b e e' hu hu'=>h.βi u u' b e e' (nd hu) (nd hu'),fun u id b e hu=>h.βγ u id b e (nd hu),h.βf,h.Sb,h.So⟩,hle⟩
end
end Sy
end
noncomputable section
namespace Sy
open Go
section
variable{P:Program}{E:Env}{w0:Root}{S:Nat->Nat->Prop}{γ:Nat->Option Nat}{β:Nat->Option (Nat×Nat)}{s:St}{a:Act}{w:World}
theorem Rp.makeG(h:Rp w0 S γ β s a w){id:Nat}(hid:γ id=none)(hi:id<s.base+4096){x:Obj}{o:Ob}(d:Nat)(hdr:w.drawn<=d)
  (ho:fK ⟨grown w [x] d,S,mQ γ id w.heap.size,β,(s.setOb id (some o)).ob,s.dead⟩ w.heap.size o) :
  Rp w0 S (mQ γ id w.heap.size) β (s.setOb id (some o)) a (grown w [x] d)/\Cx.le ⟨w,S,γ,β,s.ob,s.dead⟩ ⟨grown w [x] d,S,mQ γ id w.heap.size,β,(s.setOb id (some o)).ob,s.dead⟩:=by
 obtain⟨h1,le1⟩:=h.grow (os:=[x]) (d:=d) hdr (S':=S) (fun _ _ hb=>hb) (fun _ _ hb=>.inl hb)
 obtain⟨h2,le2⟩:=h1.setFree hid (some o)
 have hw0:¬ w0.Old w.heap.size:=fun ho=>by have:=ho.1;have:=h.ext.sz;omega
 obtain⟨h3,le3⟩:=h2.newOb (id:=id) (b:=w.heap.size) hid hw0 (by simp) (fun i hi=>by have:=(h.γn i _ hi).2;omega) (fun u f hu hf=>by have:=(h.βn u _ _ hu hf).2.1;omega) hi (fun x hx=>by
  rw[iI] at hx;cases hx;exact ho)
 refine⟨h3,⟨fun b o hb=>le1.cell b o hb,fun _ _ hb=>hb,fun i b hb=>dN hid hb,fun i x hx hb=>?_,fun v hv=>⟨hv,fun b e he=>⟨he,fun n hn=>by
  have:=le1.β v hv;exact(this.2 b e he).2 n hn⟩⟩⟩⟩
 obtain⟨b,hb⟩:=hb
 exact le2.ob i x hx ⟨b,hb⟩
theorem vi(hE:EnvOk P E)(h:Rp w0 S γ β s a w){dst T rsv ty pos after guard}(hf:Fr E s γ β ⟨dst,.makeMap T rsv,ty,pos,after,guard⟩)(hlk:∀ t∈s.lkS,dst≠some t){R:Type}{K:St->Option R}{r:R}
  (hq:og E s ⟨dst,.makeMap T rsv,ty,pos,after,guard⟩ K=some r):∃ s',K s'=some r/\CH P w0 S γ β s a w ⟨dst,.makeMap T rsv,ty,pos,after,guard⟩ s':=by
 simp only[og] at hq
 cases rsv with
 | some x=>cases hq
 | none=>
 simp only at hq
 replace hq:=bind_some_inv hq;obtain⟨kv,hkv,hq⟩:=hq
 replace hq:=bind_some_inv hq;obtain⟨d,hd,hq⟩:=hq
 obtain⟨kt,vt⟩:=kv
 simp only at hq
 obtain⟨hd4,hγ,hβ,_⟩:=hf rfl d hd
 obtain⟨hc,KT,VT,hu,hlk1,hlv,hh⟩:=hE.mapL T _ _ hkv
 have hnk:=aB _ _ hlk1
 have hnv:=aB _ _ hlv
 obtain⟨h1,le1⟩:=h.makeG (id:=s.base+d) hγ (by omega) (x:=.map #[] 0) (o:=.mp kt vt []) w.drawn (Nat.le_refl _) (by
  simp only[fK]
  refine⟨hnk,hnv,fun o ho=>by have:=h.Sb _ _ ho;omega,#[],?_,by simp[gk]⟩
  show(w.heap++#[Obj.map #[] 0])[w.heap.size]?=some (.map #[] 0)
  rw[Array.getElem?_append_right (Nat.le_refl _),Nat.sub_self]
  rfl)
 obtain⟨p1,p2,p3,p4,p5,p6,p7⟩:=St.put_fields (s.setOb (s.base+d) (some (.mp kt vt []))) dst (.map kt vt (s.base+d))
 refine⟨_,hq,p5,p6,p2,p4,fun id hid hhh=>?_,.value (v:=.map (some w.heap.size)) (w':=grown w [.map #[] 0] w.drawn) ?_ ⟨S,_,β,h1.put ?_ dst,?_,fun id hid=>⟨bI _ _ ?_,rfl⟩⟩⟩
 ·rw[p1]
  refine j6 s _ fun e=>?_
  subst e
  rcases hhh with hhh|hhh
  ·exact hhh (by rw[hd,Nat.add_sub_cancel_left])
  ·omega
 ·have:(grown w [.map #[] 0] w.drawn)={ w with heap:=w.heap.push (.map #[] 0) }:=by simp[grown]
  rw[this]
  simp only[execOp,Instr.makeMap,Option.map_none,Sem.run_bind,Result.andThen_ok,run_newObj,Sem.run_pure]
 ·simp only[AR,AC,Value.cells]
  refine⟨by simp,w.heap.size,rfl,bn _ _ _,hnk,hnv,fun o ho=>?_⟩
  have ho':(s.setOb (s.base+d) (some (.mp kt vt []))).ob (s.base+d)=some o:=ho
  rw[iI] at ho'
  cases ho'
  exact⟨_,rfl⟩
 ·exact⟨fun _ _ hb=>hb,fun b o hb=>cZ (h.Sb b o hb),fun t ht=>bB (hlk t ht),fun id hid b hb=>⟨dN hγ hb,.inl (bW (h.γn id b hb).2)⟩,by simp,fun _ _ hb=>dN hγ hb,iR.same bf cC.grown⟩
 ·intro e
  subst e
  rcases hid with hid|hid
  ·exact hid (by rw[hd,Nat.add_sub_cancel_left])
  ·omega
def nN(w:World)(b:Nat)(o:Obj):World:={ w with heap:=w.heap.setIfInBounds b o }
theorem gd{w:World}{b b':Nat}{o:Obj}(h:b'≠b):(nN w b o).heap[b']?=w.heap[b']?:=by
 simp only[nN]
 rw[Array.getElem?_setIfInBounds_ne (Ne.symm h)]
theorem iJ{w:World}{b:Nat}{o:Obj}:(nN w b o).heap.size=w.heap.size:=by simp[nN]
theorem rG{w:World}{b b' o':Nat}{o:Obj}(h:b'≠b):(nN w b o).cell? ⟨b',o',none⟩=w.cell? ⟨b',o',none⟩:=by simp only[World.cell?,gd h]
theorem Rp.writeM(h:Rp w0 S γ β s a w){id b:Nat}{kt vt:Ty}{l l':List D}{es':Array MapEntry}(ho:s.ob id=some (.mp kt vt l))(hγ:γ id=some b)(hM:gk ⟨w,S,γ,β,s.ob,s.dead⟩ kt vt 0 l' es'.toList) :
  Rp w0 S γ β (s.setOb id (some (.mp kt vt l'))) a (nN w b (.map es' l'.length))/\(∀ b' o,S b' o->(nN w b (.map es' l'.length)).cell? ⟨b',o,none⟩=w.cell? ⟨b',o,none⟩):=by
 have hO:=h.obs id _ b ho hγ
 simp only[fK] at hO
 obtain⟨hnk,hnv,hS,es,hes,_⟩:=hO
 have hbS:∀ b' o,S b' o->b'≠b:=fun b' o hb e=>hS o (e ▸ hb)
 have hlt:b<w.heap.size:=(h.γn id b hγ).2
 have hle:Cx.le ⟨w,S,γ,β,s.ob,s.dead⟩ ⟨nN w b (.map es' l'.length),S,γ,β,(s.setOb id (some (.mp kt vt l'))).ob,s.dead⟩:=by
  refine⟨fun b' o hb=>rG (hbS b' o hb),fun _ _ hb=>hb,fun _ _ hb=>hb,fun i x hx _=>?_,fun v hv=>⟨hv,fun b' e he=>⟨he,fun n hn=>?_⟩⟩⟩
  ·simp only[St.setOb] at hx
   by_cases e:i=id
   ·subst e
    simp only[if_true,Option.some.injEq] at hx
    subst hx
    exact⟨_,ho,fun p=>⟨rfl,rfl⟩,(fun t l e=>by cases e),(fun k v l e=>by cases e;exact⟨_,rfl⟩)⟩
   ·rw[if_neg e] at hx
    exact⟨x,hx,fun p=>⟨rfl,rfl⟩,fun t l e=>⟨l,e,rfl⟩,fun _ _ l e=>⟨l,e⟩⟩
  ·have hne:b'≠b:=fun e'=>h.βγ v id b' e hv he (e' ▸ hγ)
   have hn':kF w b'=some n:=hn
   show kF (nN w b (.map es' l'.length)) b'=some n
   simp only[kF,bw,gd hne] at hn' ⊢
   exact hn'
 refine⟨⟨lc h.ext rfl rfl rfl (by simp[iJ]) (Nat.le_refl _) (fun b' hb'=>gd fun e=>(h.γn id b hγ).1 (e ▸ hb')),fun t ht=>(h.tms t ht).mono hle,h.nt,h.tmu,fun i x b' hx hb'=>?_,fun i b' hb'=>by rw[iJ];exact h.γn i b' hb',h.γi,h.γf,
  fun v b' e hv he=>by rw[iJ];exact h.βn v b' e hv he,h.βi,h.βγ,h.βf,fun b' o hb=>by rw[iJ];exact h.Sb b' o hb,h.So⟩,fun b' o hb=>rG (hbS b' o hb)⟩
 simp only[St.setOb] at hx
 by_cases e:i=id
 ·subst e
  simp only[if_true,Option.some.injEq] at hx
  subst hx
  rw[hγ] at hb';cases hb'
  simp only[fK]
  refine⟨hnk,hnv,hS,es',?_,hM.mono hle⟩
  simp only[nN]
  rw[Array.getElem?_setIfInBounds_self_of_lt hlt]
 ·rw[if_neg e] at hx
  have hne:b'≠b:=fun e'=>e (h.γi i id b' hb' (e' ▸ hγ))
  exact(h.obs i x b' hx hb').mono hle (gd hne) fun _ hh=>hh
theorem gk.push{c:Cx}{kt vt:Ty}{k v:D}{ek ev:Value}(hk:wt kt k)(hv:wt vt v)(rk:eZ c.w c.S k ek)(rv:eZ c.w c.S v ev):∀ {l:List D} {es:List MapEntry} {j:Nat},gk c kt vt j l es->gk c kt vt j (l++[.st [k,v]]) (es++[{ key:=ek,val:=ev,born:=j+l.length }])
 | [],[],j,_=>by simp only[List.nil_append,gk,List.length_nil,Nat.add_zero];exact⟨⟨trivial,k,v,rfl,hk,hv,rk,rv⟩,trivial⟩
 | [],_::_,_,h=>h.elim
 | _::_,[],_,h=>h.elim
 | x::l,e::es,j,h=>by
  simp only[List.cons_append,gk] at h ⊢
  refine⟨h.1,?_⟩
  have:=gk.push hk hv rk rv h.2
  rw[List.length_cons,show j+(l.length+1)=j+1+l.length by omega]
  exact this
theorem vU{c:Cx}{kt vt:Ty}{x y:D}:∀ {l:List D} {es:List MapEntry} {j i:Nat},gk c kt vt j l es->wO l x es i=none->D.mput l x y=l++[.st [x,y]]
 | [],[],_,_,_,_=>rfl
 | [],_::_,_,_,h,_=>h.elim
 | _::_,[],_,_,h,_=>h.elim
 | z::l,e::es,j,i,h,hf=>by
  simp only[gk] at h
  obtain⟨⟨_,k,v,rfl,_⟩,h2⟩:=h
  simp only[wO] at hf
  simp only[D.mput]
  cases hb:D.beq x k
  ·rw[hb] at hf
   simp only[Bool.false_eq_true,if_false] at hf ⊢
   rw[vU h2 hf]
   rfl
  ·rw[hb] at hf;simp at hf
theorem vV{c:Cx}{kt vt:Ty}{x y:D}{ek ev:Value}(hv:wt vt y)(rv:eZ c.w c.S y ev)(rk:eZ c.w c.S x ek):∀ {l:List D} {es:List MapEntry} {j i n:Nat} {v0:Value},gk c kt vt j l es->wO l x es i=some (n,v0) ->
  ∃ m e0,n=i+m/\es[m]?=some e0/\(D.mput l x y).length=l.length/\gk c kt vt j (D.mput l x y) (es.modify m fun e=>{ e with key:=e0.key,val:=ev })/\gk c kt vt j (D.mput l x y) (es.modify m fun e=>{ e with key:=ek,val:=ev })
 | [],[],_,_,_,_,_,hf=>by simp[wO] at hf
 | [],_::_,_,_,_,_,h,_=>h.elim
 | _::_,[],_,_,_,_,h,_=>h.elim
 | z::l,e::es,j,i,n,v0,h,hf=>by
  simp only[gk] at h
  obtain⟨⟨hb0,k,v,rfl,q1,q2,q3,q4⟩,h2⟩:=h
  simp only[wO] at hf
  simp only[D.mput]
  cases hb:D.beq x k
  ·rw[hb] at hf
   simp only[Bool.false_eq_true,if_false] at hf ⊢
   obtain⟨m,e0,e1,e2,e3,e4,e5⟩:=vV (y:=y) hv rv rk h2 hf
   refine⟨m+1,e0,by omega,by simpa using e2,by simp[e3],?_,?_⟩
   ·simp only[List.modify_succ_cons,gk];exact⟨⟨hb0,k,v,rfl,q1,q2,q3,q4⟩,e4⟩
   ·simp only[List.modify_succ_cons,gk];exact⟨⟨hb0,k,v,rfl,q1,q2,q3,q4⟩,e5⟩
  ·rw[hb] at hf
   simp only[if_true,Option.some.injEq,Prod.mk.injEq] at hf
   have:=A1 _ _ hb
   subst this
   simp only[if_true]
   refine⟨0,e,by omega,rfl,rfl,?_,?_⟩
   ·simp only[List.modify_zero_cons,gk];exact⟨⟨hb0,x,y,rfl,q1,hv,q3,rv⟩,h2⟩
   ·simp only[List.modify_zero_cons,gk];exact⟨⟨hb0,x,y,rfl,q1,hv,rk,rv⟩,h2⟩
theorem zF(old new:Value)(w:World):∃ k d,w.drawn<=d/\(Instr.keyThatStays old new).run P w=.ok k { w with drawn:=d }/\(k=old\/k=new):=by
 unfold Instr.keyThatStays
 split
 ·exact⟨new,w.drawn,Nat.le_refl _,rfl,.inr rfl⟩
 ·simp only[Sem.run_bind,run_choose]
  split
  ·simp only[Result.andThen_ok,Sem.run_pure]
   exact⟨_,w.drawn,Nat.le_refl _,rfl,by split<;>simp⟩
  ·simp only[Result.andThen_ok,Sem.run_pure]
   exact⟨_,w.drawn+1,Nat.le_succ _,rfl,by split<;>simp⟩
theorem ri(hE:EnvOk P E)(h:Rp w0 S γ β s a w){dst T x k v ty pos after guard}{R:Type}{K:St->Option R}{r:R}
  (hq:og E s ⟨dst,.mapUpdate T x k v,ty,pos,after,guard⟩ K=some r):∃ s',K s'=some r/\CH P w0 S γ β s a w ⟨dst,.mapUpdate T x k v,ty,pos,after,guard⟩ s':=by
 simp only[og] at hq
 cases dst with
 | some d=>simp at hq
 | none=>
 simp only[Option.isSome_none,Bool.false_eq_true,if_false] at hq
 replace hq:=bind_some_inv hq;obtain⟨kv,hkv,hq⟩:=hq
 obtain⟨kt0,vt0⟩:=kv
 have hx:=aM h x
 generalize s.opA x=ax at *
 cases ax<;>(try simp only at hq)<;>first|(cases hq;done)|skip
 rename_i kt vt id
 split at hq<;>first|(cases hq;done)|skip
 rename_i hb
 simp only[Bool.and_eq_true,Bool.not_eq_true'] at hb
 obtain⟨⟨hb1,hb2⟩,hb3⟩:=hb
 have e1:=Ty.eq_of_beq _ _ hb1
 have e2:=Ty.eq_of_beq _ _ hb2
 subst e1;subst e2
 have hlo:id ∉ s.lkO:=by
  intro hh
  have:s.lkO.contains id=true:=by simpa using hh
  rw[this] at hb3;cases hb3
 split at hq<;>first|(cases hq;done)|skip
 rename_i kt' vt' l hob
 split at hq<;>first|(cases hq;done)|skip
 rename_i hb2
 simp only[Bool.and_eq_true] at hb2
 have e1:=Ty.eq_of_beq _ _ hb2.1
 have e2:=Ty.eq_of_beq _ _ hb2.2
 subst e1;subst e2
 replace hq:=bind_some_inv hq;obtain⟨kd,hkd,hq⟩:=hq
 replace hq:=bind_some_inv hq;obtain⟨vd,hvd,hq⟩:=hq
 obtain⟨hc,KT,VT,hu,hlk,hlv,hh⟩:=hE.mapL T _ _ hkv
 have hnk:=aB _ _ hlk
 have hnv:=aB _ _ hlv
 obtain⟨k1,k2⟩:=kQ hnk (aM h k) hkd
 obtain⟨v1,v2⟩:=kQ hnv (aM h v) hvd
 simp only[AR,AC] at hx
 obtain⟨na,b,hcs,hγ,_,_,_⟩:=hx
 have hv:=au na hcs
 have hO:=h.obs id _ b hob hγ
 simp only[fK] at hO
 obtain⟨_,_,hnS,es,hes,hM⟩:=hO
 have i1:fg kt' (a.eval k).cells.toList (a.eval k):=⟨rfl,lz k1 hnk k2.1⟩
 have rc:=gU (S:=S) (w:=w) kt' KT kd _ _ 10000 false hlk hc (by omega) k1 k2.2 i1 w
 have rf:=pS (P:=P) hlk hc hh k1 k2 w hM
 have hex:(execOp a.eval ⟨none,.mapUpdate T x k v,ty,pos,after,guard⟩)=(Instr.mapUpdate T (a.eval x) (a.eval k) (a.eval v) >>= fun _=>pure .skip):=rfl
 have hlt:b<w.heap.size:=(h.γn id b hγ).2
 have run:∃ es' d,w.drawn<=d/\gk ⟨w,S,γ,β,s.ob,s.dead⟩ kt' vt' 0 (D.mput l kd vd) es'.toList/\(execOp a.eval ⟨none,.mapUpdate T x k v,ty,pos,after,guard⟩).run P w=.ok .skip (nN { w with drawn:=d } b (.map es' (D.mput l kd vd).length)):=by
  rw[hex,hv]
  cases hf:wO l kd es.toList 0 with
  | none=>
   rw[hf] at rf
   have hm:=vU (y:=vd) hM hf
   refine⟨es.push { key:=a.eval k,val:=a.eval v,born:=l.length },w.drawn,Nat.le_refl _,?_,?_⟩
   ·rw[hm,Array.toList_push]
    have:=gk.push k1 v1 k2 v2 hM
    rwa [Nat.zero_add] at this
   ·have hl:(D.mput l kd vd).length=l.length+1:=by rw[hm];simp
    rw[hl]
    simp only[Instr.mapUpdate,Sem.run_bind,run_underlying hu,Result.andThen_ok,iX hes,rc,rf]
    simp[setObj,Sem.run,hes,nN]
  | some p=>
   obtain⟨n,v0⟩:=p
   rw[hf] at rf
   obtain⟨m,e0,e1,e2,e3,e4,e5⟩:=vV (ek:=a.eval k) v1 v2 k2 hM hf
   have e1':n=m:=by omega
   subst e1'
   have e2':es[n]?=some e0:=by simpa using e2
   obtain⟨kk,d,hdr1,r1,r2⟩:=zF (P:=P) e0.key (a.eval k) w
   refine⟨es.modify n fun e=>{ e with key:=kk,val:=a.eval v },d,hdr1,?_,?_⟩
   ·rw[Array.toList_modify]
    rcases r2 with rfl|rfl
    ·exact e4
    ·exact e5
   ·rw[e3]
    simp only[Instr.mapUpdate,Sem.run_bind,run_underlying hu,Result.andThen_ok,iX hes,rc,rf,e2',Option.map_some,Option.getD_some,r1]
    simp[setObj,Sem.run,hes,nN]
 obtain⟨es',d,hdr2,hM',hrun⟩:=run
 have hg:({ w with drawn:=d }:World)=grown w [] d:=by simp[grown]
 rw[hg] at hrun
 obtain⟨g1,g2⟩:=h.grow (os:=[]) (d:=d) hdr2 (S':=S) (fun _ _ hb=>hb) (fun _ _ hb=>.inl hb)
 obtain⟨w1,w2⟩:=g1.writeM (l':=D.mput l kd vd) (es':=es') hob hγ (hM'.mono g2)
 refine⟨_,hq,rfl,rfl,rfl,rfl,fun i hi _=>?_,.skip hrun ⟨S,γ,β,w1,?_,fun _ _=>⟨rfl,rfl⟩⟩⟩
 ·refine j6 s _ fun e=>?_
  subst e
  rw[hγ] at hi;cases hi
 ·refine⟨fun _ _ hb=>hb,fun b' o hb=>(w2 b' o hb).trans (g2.cell b' o hb),fun _ _=>rfl,fun i hi b' hb'=>⟨hb',.inl ?_⟩,by rw[iJ];simp,fun _ _ hb=>hb,iR.same rfl (cC.but b (fun b' hb hlt=>(gd hb).trans (bW hlt)) (zL hes))⟩
  have hne:b'≠b:=fun e=>by
   subst e
   exact hlo ((h.γi id i _ hγ hb') ▸ hi)
  rw[gd hne]
  exact bW (h.γn i b' hb').2
end
end Sy
end
noncomputable section
namespace Sy
open Go
theorem CR.at_{w:World}{S:Nat->Nat->Prop}{l:List D}{b off n cap:Nat}(h:CR w S (.sl l) (.slice (some ⟨b,off,none⟩) n cap)):mS w S b off (D.flats l):=by
 obtain⟨A,cap',b',off',hv,k1,k2,k3⟩:=h.elems
 simp only[Value.slice.injEq] at hv
 rcases k1 with rfl|k1
 ·exact⟨[],cw.nil,fun i c hc=>by simp at hc⟩
 ·rw[<-hv.1] at k1
  cases k1
  exact k3
theorem qF{w:World}{b n:Nat}(h:kF w b=some n):∃ c,bw w b=some c/\c.size=n:=by
 unfold kF at h
 cases hr:bw w b with
 | none=>rw[hr] at h;cases h
 | some c=>rw[hr] at h;simp at h;exact⟨c,rfl,h⟩
theorem mW{w:World}{b off o:Nat}{c cs:Array Value}(h:bw w b=some c)(hs:off+cs.size<=c.size)(ho:o<off):(putAt w b off cs).cell? ⟨b,o,none⟩=w.cell? ⟨b,o,none⟩:=by
 rw[cF _ (gg h),cF _ h,ji _ _ _ _ hs,if_pos ho]
theorem ra{w:World}{b off o:Nat}{c cs:Array Value}(h:bw w b=some c)(hs:off+cs.size<=c.size)(ho:o<cs.size):(putAt w b off cs).cell? ⟨b,off+o,none⟩=cs[o]?:=by
 rw[cF _ (gg h),ji _ _ _ _ hs,if_neg (by omega),if_pos (by omega),Nat.add_sub_cancel_left]
section
variable{P:Program}{E:Env}{w0:Root}{S:Nat->Nat->Prop}{γ:Nat->Option Nat}{β:Nat->Option (Nat×Nat)}{s:St}{a:Act}{w:World}
theorem BV(h:Rp w0 S γ β s a w){v v' b off:Nat}{e:Ty}{l l':List D}{cap n:Nat}{cs':List Value}(hn:am e=true)(hl:∀ x∈l,wt e x)(hl':∀ x∈l',wt e x)(hv:v ∉ s.dead)(hβ:β v=some (b,off+l.length*e.size))(hr:kF w b=some n)(hcap:off+cap*e.size<=n)
  (hneed:l.length+l'.length<=cap) (hc:mS w S b off (D.flats l)) (hc':cw w S (D.flats l') cs') (hv':β v'=none) (hi:v'<s.base+4096) :
  ∃ S' β',Rp w0 S' γ β' { s with dead:=v::s.dead } a (putAt w b (off+l.length*e.size) cs'.toArray) ∧
   AR ⟨putAt w b (off+l.length*e.size) cs'.toArray,S',γ,β',s.ob,v::s.dead⟩ (.own e v' (l++l')) (.slice (some ⟨b,off,none⟩) (l.length+l'.length) cap) ∧
   (∀ b o,S b o->S' b o)/\(∀ b' o,S b' o->(putAt w b (off+l.length*e.size) cs'.toArray).cell? ⟨b',o,none⟩=w.cell? ⟨b',o,none⟩)/\(∀ u,u≠v'->β' u=β u):=by
 obtain⟨c,hrow,hcn⟩:=qF hr
 have len':cs'.length=l'.length*e.size:=by rw[<-hc'.1];exact aA hn l' hl'
 generalize he0:off+l.length*e.size=e0 at *
 obtain⟨bn1,bn2,bn3⟩:=h.βn v b e0 hv hβ
 have hsz:e0+cs'.toArray.size<=c.size:=by
  simp only[List.size_toArray,len',hcn]
  have:(l.length+l'.length)*e.size<=cap*e.size:=Nat.mul_le_mul_right _ hneed
  rw[Nat.add_mul] at this
  omega
 let S':Nat->Nat->Prop:=fun b' o=>S b' o\/(b'=b/\e0<=o/\o<e0+cs'.length)
 have hcell:∀ b' o,S b' o->(putAt w b e0 cs'.toArray).cell? ⟨b',o,none⟩=w.cell? ⟨b',o,none⟩:=fun b' o hb=>by
  by_cases e:b'=b
  ·subst e
   exact mW hrow hsz (Nat.lt_of_not_le fun hh=>bn3 o hh hb)
  ·exact ce e
 have nd:∀ {u},u ∉ v::s.dead->u ∉ s.dead/\u≠v:=fun hu=>⟨fun hh=>hu (List.mem_cons_of_mem _ hh),fun hh=>hu (hh ▸ List.mem_cons_self)⟩
 have hle:Cx.le ⟨w,S,γ,β,s.ob,s.dead⟩ ⟨putAt w b e0 cs'.toArray,S',γ,mQ β v' (b,e0+cs'.length),s.ob,v::s.dead⟩:=
  ⟨hcell,fun _ _ hb=>.inl hb,fun _ _ k=>k,fun id o ho _=>⟨o,ho,fun p=>⟨rfl,rfl⟩,fun t l e=>⟨l,e,rfl⟩,fun _ _ l e=>⟨l,e⟩⟩,fun u hu=>⟨(nd hu).1,fun b' e he=>⟨dN hv' he,fun n hn=>by rw[kr hrow hsz];exact hn⟩⟩⟩
 have hRp:Rp w0 S' γ (mQ β v' (b,e0+cs'.length)) { s with dead:=v::s.dead } a (putAt w b e0 cs'.toArray):=by
  refine⟨lc h.ext rfl rfl rfl (by simp) (Nat.le_refl _) (fun b' hb'=>cq (fun e=>bn1 (e ▸ hb'))),fun t ht=>(h.tms t ht).mono hle,h.nt,h.tmu,fun id o b' ho hb'=>?_,fun id b' hb'=>by simpa using h.γn id b' hb',h.γi,h.γf,fun u b' e hu he=>?_,fun u u' b' e e' hu hu' he he'=>?_,fun u id b' e hu he=>?_,fun u hu=>?_,fun b' o hb'=>?_,fun b' o hb' hlt=>?_⟩
  ·have hne:b'≠b:=fun e=>h.βγ v id b e0 hv hβ (e ▸ hb')
   refine(h.obs id o b' ho hb').mono hle (cq hne) fun o hh=>?_
   rcases hh with hh|hh
   ·exact hh
   ·exact absurd hh.1 hne
  ·obtain⟨nu1,nu2⟩:=nd hu
   by_cases e1:u=v'
   ·subst e1
    rw[bn] at he
    cases he
    refine⟨bn1,by simpa using bn2,fun o ho hh=>?_⟩
    rcases hh with hh|hh
    ·exact bn3 o (by omega) hh
    ·omega
   ·rw[bI β _ e1] at he
    obtain⟨k1,k2,k3⟩:=h.βn u b' e nu1 he
    refine⟨k1,by simpa using k2,fun o ho hh=>?_⟩
    rcases hh with hh|hh
    ·exact k3 o ho hh
    ·obtain⟨hh,_⟩:=hh
     subst hh
     exact nu2 (h.βi u v b' _ _ nu1 hv he hβ)
  ·obtain⟨nu1,nu2⟩:=nd hu
   obtain⟨nu1',nu2'⟩:=nd hu'
   by_cases e1:u=v'
   ·by_cases e2:u'=v'
    ·rw[e1,e2]
    ·subst e1
     rw[bn] at he;cases he
     rw[bI β _ e2] at he'
     exact absurd (h.βi u' v b _ _ nu1' hv he' hβ) nu2'
   ·by_cases e2:u'=v'
    ·subst e2
     rw[bn] at he';cases he'
     rw[bI β _ e1] at he
     exact absurd (h.βi u v b _ _ nu1 hv he hβ) nu2
    ·rw[bI β _ e1] at he;rw[bI β _ e2] at he'
     exact h.βi u u' b' e e' nu1 nu1' he he'
  ·by_cases e1:u=v'
   ·subst e1
    rw[bn] at he;cases he
    exact h.βγ v id b e0 hv hβ
   ·rw[bI β _ e1] at he
    exact h.βγ u id b' e (nd hu).1 he
  ·have hu':s.base+4096<=u:=hu
   rw[bI β _ (by omega)]
   exact h.βf u hu'
  ·rcases hb' with hb'|hb'
   ·simpa using h.Sb b' o hb'
   ·simpa [hb'.1] using bn2
  ·rcases hb' with hb'|hb'
   ·exact h.So b' o hb' hlt
   ·exact absurd (hb'.1 ▸ hlt) bn1
 refine⟨S',_,hRp,?_,fun _ _ hb=>.inl hb,hcell,fun u hu=>bI β _ hu⟩
 simp only[AR,AC,Value.cells]
 refine⟨by simp,hn,fun x hx=>(List.mem_append.1 hx).elim (hl x) (hl' x),some ⟨b,off,none⟩,cap,by rw[List.length_append],?_,fun _=>.inr ⟨b,off,rfl,?_,n,by show kF (putAt w b e0 cs'.toArray) b=some n;rw[kr hrow hsz];exact hr,hcap⟩⟩
 ·obtain⟨cs,k1,k2⟩:=hc
  refine CR.of_elems (.inr rfl) (by rw[List.length_append];exact hneed) ⟨cs++cs',?_,fun i x hx=>?_⟩
  ·rw[bF]
   exact(k1.append hc').mono hcell fun _ _ hh=>.inl hh
  ·have len:cs.length=l.length*e.size:=by rw[<-k1.1];exact aA hn l hl
   rw[List.getElem?_append] at hx
   by_cases hi2:i<cs.length
   ·rw[if_pos hi2] at hx
    obtain⟨m1,m2⟩:=k2 i x hx
    exact⟨.inl m1,(hcell _ _ m1).trans m2⟩
   ·rw[if_neg hi2] at hx
    have hlt:=(List.getElem?_eq_some_iff.1 hx).1
    refine⟨.inr ⟨rfl,by omega,by omega⟩,?_⟩
    rw[show off+i=e0+(i-cs.length) by omega,ra hrow hsz (by simpa using hlt)]
    simpa using hx
 ·show mQ β v' (b,e0+cs'.length) v'=_
  rw[bn,List.length_append,len',Nat.add_mul]
  congr 2;omega
theorem qG{T T' u':TypeId}{e:Ty}(hE:bh P (.sl e) T=true)(hT':P.underlying T'=some (.slice u')){A:Option Addr}{len cap:Nat}{l l':List D}{vy:Value}(ty:TypeId)(hlen:len=l.length)(hl:∀ x∈l,wt e x)(hl':∀ x∈l',wt e x)
  (hx:CR w S (.sl l) (.slice A len cap)) (hy:CR w S (.sl l') vy) (hb:l.length+l'.length<=1073741824) :
  ∃ cs cs':List Value,cw w S (D.flats l) cs/\cw w S (D.flats l') cs'/\∃ u,
   (l.length+l'.length<=cap->(A=none->(Builtin.append_ #[T,T'] ty #[.slice A len cap,vy]).run P w=.ok (.slice none (l.length+l'.length) cap) w) ∧
    (∀ b off c,A=some ⟨b,off,none⟩->bw w b=some c->off+cap*e.size<=c.size->(Builtin.append_ #[T,T'] ty #[.slice A len cap,vy]).run P w=.ok (.slice A (l.length+l'.length) cap) (putAt w b (off+l.length*e.size) cs'.toArray))) ∧
   (cap<l.length+l'.length->∃ newCap rest,l.length+l'.length<=newCap/\(cs++cs').length+rest.length=newCap*e.size ∧
    (Builtin.append_ #[T,T'] ty #[.slice A len cap,vy]).run P w=.ok (.slice (some ⟨w.heap.size,0,none⟩) (l.length+l'.length) newCap) (grown w [.cells ((cs++cs')++rest).toArray u] (w.drawn+1))):=by
 subst hlen
 obtain⟨u,k1,k2⟩:=gt hE
 have hn:am e=true:=aB _ _ k2
 obtain⟨i0,z0,hi1,hi2,kD,hi4,hi5,_⟩:=ed (fq k2)
 have hx1:CR { w with drawn:=w.drawn+1 } S (.sl l) (.slice A l.length cap):=CR.mono (w:=w) (w':={ w with drawn:=w.drawn+1 }) (S:=S) (S':=S) (fun _ _ _=>rfl) (fun _ _ h=>h) hx
 have hy1:CR { w with drawn:=w.drawn+1 } S (.sl l') vy:=CR.mono (w:=w) (w':={ w with drawn:=w.drawn+1 }) (S:=S) (S':=S) (fun _ _ _=>rfl) (fun _ _ h=>h) hy
 obtain⟨cs,c1,c2⟩:=gG (P:=P) hn hl hx1
 obtain⟨cs',d1,d2⟩:=gG (P:=P) hn hl' hy
 obtain⟨cs'',d3,d4⟩:=gG (P:=P) hn hl' hy1
 have len:cs.length=l.length*e.size:=by rw[<-c1.1];exact aA hn l hl
 have len':cs'.length=l'.length*e.size:=by rw[<-d1.1];exact aA hn l' hl'
 have len'':cs''.length=l'.length*e.size:=by rw[<-d3.1];exact aA hn l' hl'
 have hcs:cs''=cs':=by
  obtain⟨A',cap',b,off,hv,q1,q2,q3⟩:=hy.elems
  subst hv
  have e1:=d2
  have e2:=d4
  cases A' with
  | none=>
   simp only[Builtin.firstCells,Sem.run_pure,Result.ok.injEq] at e1 e2
   have:=e1.1.symm.trans e2.1
   simpa using this.symm
  | some A'=>
   rcases q1 with rfl|q1
   ·simp at len' len''
    rw[len',len'']
   ·cases q1
    obtain⟨ds,r1,r2⟩:=q3
    have hld:ds.length=l'.length*e.size:=by rw[<-r1.1];exact aA hn l' hl'
    have f1:=run_loadCells_list (P:=P) w ⟨b,off,none⟩ ds (fun j v hv=>by rw[cD];exact(r2 j v hv).2)
    have f2:=run_loadCells_list (P:=P) { w with drawn:=w.drawn+1 } ⟨b,off,none⟩ ds (fun j v hv=>by rw[cD];exact(r2 j v hv).2)
    simp only[Builtin.firstCells] at e1 e2
    rw[hld] at f1 f2
    rw[f1] at e1
    rw[f2] at e2
    simp only[Result.ok.injEq] at e1 e2
    have:=e1.1.symm.trans e2.1
    simpa using this.symm
 subst hcs
 have hlenOf:(Builtin.lenOf vy).run P w=.ok l'.length w:=by
  obtain⟨A',cap',b,off,hv,_⟩:=hy.elems;subst hv;rfl
 refine⟨cs,cs'',cw.mono (w:={ w with drawn:=w.drawn+1 }) (w':=w) (S:=S) (S':=S) (fun _ _ _=>rfl) (fun _ _ h=>h) c1,d1,u,fun hcap=>⟨fun hA=>?_,fun b off c hA hrow hsz=>?_⟩,fun hcap=>?_⟩
 ·subst hA
  simp only[Builtin.append_,List.getElem?_toArray,List.getElem?_cons_zero,List.getElem?_cons_succ,Sem.run_bind,run_underlying k1,run_underlying hT',Result.andThen_ok,bG k2,Sem.run_pure,Bool.false_eq_true,if_false,hlenOf,hcap,if_true,Bool.not_false,d2]
 ·subst hA
  have hst:=cO (P:=P) b (off+l.length*e.size) cs'' 0 w c hrow (by
   have:(l.length+l'.length)*e.size<=cap*e.size:=Nat.mul_le_mul_right _ hcap
   rw[Nat.add_mul] at this
   omega) (by rw[List.all_eq_true];intro x hx;have:=d1.nag x hx;cases x<;>simp_all [Value.oneCell',jN])
  simp only[Nat.add_zero] at hst
  simp only[Builtin.append_,List.getElem?_toArray,List.getElem?_cons_zero,List.getElem?_cons_succ,Sem.run_bind,run_underlying k1,run_underlying hT',Result.andThen_ok,bG k2,Sem.run_pure,Bool.false_eq_true,if_false,hlenOf,hcap,if_true,Bool.not_false,d2,cD,hst]
 ·have hnc:¬ (l.length+l'.length<=cap):=by omega
  have hb1:¬ (Builtin.nextslicecap (l.length+l'.length) cap*i0.bytes>2^48):=by
   have h1:=xr hcap
   have h2:Builtin.nextslicecap (l.length+l'.length) cap*i0.bytes<=(2*1073741824+200)*16384:=Nat.mul_le_mul (by omega) kD.1
   omega
  have hmax:¬ (((l.length+l'.length:Nat):Int)>IntKind.i64.max):=by
   have:IntKind.i64.max=9223372036854775807:=by decide
   omega
  let t:=w.tape w.drawn (.appendCap (l.length+l'.length) cap u)
  let newCap:=l.length+l'.length+t%(2^63-(l.length+l'.length))
  have hzs:z0.cells.size=e.size:=by
   have:=(bX (w:=w) (S:=S) hi5).1
   rw[<-Array.length_toList,<-this];exact bT _ _ (cu e hn) hn
  refine⟨newCap,(Builtin.zeroCells z0.cells (newCap-(l.length+l'.length))).toList,by omega,?_,?_⟩
  ·have:(Builtin.zeroCells z0.cells (newCap-(l.length+l'.length))).toList.length=(newCap-(l.length+l'.length))*e.size:=by simp[Builtin.zeroCells,hzs]
   rw[this,List.length_append,len,len',<-Nat.add_mul,<-Nat.add_mul]
   congr 1;omega
  ·have hf:Question.forced (.appendCap (l.length+l'.length) cap u)=false:=rfl
   simp only[Builtin.append_,List.getElem?_toArray,List.getElem?_cons_zero,List.getElem?_cons_succ,Sem.run_bind,run_underlying k1,run_underlying hT',Result.andThen_ok,bG k2,Sem.run_pure,Bool.false_eq_true,if_false,hlenOf,hnc,Bool.not_false,if_true,typeInfo,run_program,hi1,false_or,hmax,false_and,hb1,run_choose,hf,run_askRoom,c2,d4,zeroValue,hi4,newRow,run_newObj]
   have e1:(cs++cs''++(Builtin.zeroCells z0.cells (newCap-(l.length+l'.length))).toList).toArray=cs.toArray++cs''.toArray++Builtin.zeroCells z0.cells (newCap-(l.length+l'.length)):=by simp
   rw[e1]
   simp only[grown]
   rw[Array.push_eq_append]
   rfl
theorem xa(hE:EnvOk P E)(h:Rp w0 S γ β s a w){dst args argTypes ty pos after guard}(hf:Fr E s γ β ⟨dst,.call ⟨.builtin .append,args,argTypes⟩,ty,pos,after,guard⟩)(hlk:∀ t∈s.lkS,dst≠some t){R:Type}{K:St->Option R}{r:R}
  (hq:og E s ⟨dst,.call ⟨.builtin .append,args,argTypes⟩,ty,pos,after,guard⟩ K=some r):∃ s',K s'=some r/\CH P w0 S γ β s a w ⟨dst,.call ⟨.builtin .append,args,argTypes⟩,ty,pos,after,guard⟩ s':=by
 simp only[og] at hq
 replace hq:=bind_some_inv hq;obtain⟨T,hT,hq⟩:=hq
 replace hq:=bind_some_inv hq;obtain⟨t,ht,hq⟩:=hq
 replace hq:=bind_some_inv hq;obtain⟨d,hd,hq⟩:=hq
 split at hq<;>first|(cases hq;done)|skip
 rename_i e x y T0 T' hargs htys
 split at hq<;>first|(cases hq;done)|skip
 rename_i e2 ht2
 replace hq:=bind_some_inv hq;obtain⟨l',hl',hq⟩:=hq
 obtain⟨hd4,hγ,hβ,_⟩:=hf rfl d hd
 rcases hE.lay T _ ht with⟨ts',dZ⟩|hl
 ·cases dZ
 rcases hE.lay T' _ ht2 with⟨ts',dZ⟩|hlT'
 ·cases dZ
 obtain⟨u2,hu2,_⟩:=gt hlT'
 have hn:=aB _ _ hl
 simp only[am] at hn
 have hT0:T0=T:=by
  have:argTypes=#[T0,T']:=Array.ext' (by simpa using htys)
  subst this;simpa using hT
 subst hT0
 have eT:argTypes=#[T0,T']:=Array.ext' (by simpa using htys)
 have eA:args.map a.eval=#[a.eval x,a.eval y]:=Array.ext' (by simp[hargs])
 have hex:execOp a.eval ⟨dst,.call ⟨.builtin .append,args,argTypes⟩,ty,pos,after,guard⟩=(Builtin.append_ #[T0,T'] ty #[a.eval x,a.eval y] >>= fun v=>pure (.value v)):=by
  rw[<-eA,<-eT];rfl
 obtain⟨y1,y2⟩:=il hn (aM h y) hl'
 have hx:=aM h x
 have own:∀ id:Nat,(dst≠some (id-s.base)\/id<s.base)->id≠s.base+d:=fun id hid e=>by
  subst e
  rcases hid with hid|hid
  ·exact hid (by rw[hd,Nat.add_sub_cancel_left])
  ·omega
 split at hq<;>first|(cases hq;done)|skip
 ·
  rename_i e' v l hox
  rw[hox] at hx
  split at hq<;>first|(cases hq;done)|skip
  rename_i hb
  split at hq<;>first|(cases hq;done)|skip
  rename_i hlen
  simp only[Bool.and_eq_true,Bool.not_eq_true'] at hb
  have:=Ty.eq_of_beq _ _ hb.1;subst this
  have hvd:v ∉ s.dead:=fun hh=>by
   have:s.dead.contains v=true:=by simpa using hh
   rw[this] at hb;cases hb.2
  simp only[AR,AC] at hx
  obtain⟨x0,x1,x2,A,cap,x3,x4,x5⟩:=hx
  have x3:=au x0 x3
  obtain⟨cs,cs',c1,c2,u,r1,r2⟩:=qG (P:=P) (w:=w) (S:=S) hl hu2 ty rfl x2 y1 x4 y2 hlen
  obtain⟨p1,p2,p3,p4,p5,p6,p7⟩:=St.put_fields { s with dead:=v::s.dead } dst (.own e' (s.base+d) (l++l'))
  refine⟨_,hq,p5,p6,p2,p4,fun id _ _=>by rw[p1],?_⟩
  rcases Nat.lt_or_ge cap (l.length+l'.length) with hcap|hcap
  ·obtain⟨newCap,rest,n1,n2,n3⟩:=r2 hcap
   obtain⟨b1,b2⟩:=h.bury v
   obtain⟨S',β',k1,k2,k3,k4,k5,k6⟩:=t7 b1 (v:=s.base+d) hβ (by show s.base+d<s.base+4096;omega) hn (l:=l++l') (fun z hz=>(List.mem_append.1 hz).elim (x2 z) (y1 z)) (cs:=cs++cs') (by rw[bF];exact c1.append c2) (T:=u) (rest:=rest) (cap:=newCap) (w.drawn+1) (Nat.le_succ _) (by rw[List.length_append];exact n1) n2
   rw[List.length_append] at k2
   refine .value (by rw[hex,x3];simp only[Sem.run_bind,n3,Result.andThen_ok,Sem.run_pure]) ⟨S',γ,β',k1.put k2 dst,⟨k3,fun b o hb=>cZ (h.Sb b o hb),fun t ht=>bB (hlk t ht),fun id hid b hb=>⟨hb,.inl (bW (h.γn id b hb).2)⟩,by simp,fun _ _ hb=>hb,iR.same bf cC.grown⟩,fun id hid=>⟨rfl,k4 id (own id hid)⟩⟩
  ·obtain⟨r3,r4⟩:=r1 hcap
   rcases x5 hvd with⟨rfl,rfl⟩|⟨b,off,rfl,hbv,n,hn1,hn2⟩
   ·have z1:l=[]:=by apply List.eq_nil_of_length_eq_zero;omega
    have z2:l'=[]:=by apply List.eq_nil_of_length_eq_zero;omega
    obtain⟨b1,b2⟩:=h.bury v
    subst z1;subst z2
    refine .value (by rw[hex,x3];simp only[Sem.run_bind,r3 rfl,Result.andThen_ok,Sem.run_pure];rfl) ⟨S,γ,β,b1.put (ph hn) dst,⟨fun _ _ hb=>hb,fun _ _ _=>rfl,fun t ht=>bB (hlk t ht),fun id hid b hb=>⟨hb,gN.refl _ _⟩,Nat.le_refl _,fun _ _ hb=>hb,iR.same bf (cC.refl _)⟩,fun id hid=>⟨rfl,rfl⟩⟩
   ·obtain⟨c,hrow,hcn⟩:=qF hn1
    obtain⟨S',β',k1,k2,k3,k4,k5⟩:=BV h (v':=s.base+d) hn x2 y1 hvd hbv hn1 hn2 hcap x4.at_ c2 hβ (by omega)
    refine .value (by rw[hex,x3];simp only[Sem.run_bind,r4 b off c rfl hrow (by omega),Result.andThen_ok,Sem.run_pure]) ⟨S',γ,β',k1.put k2 dst,⟨k3,k4,fun t ht=>bB (hlk t ht),fun id hid b' hb'=>⟨hb',.inl (cq fun e=>h.βγ v id b _ hvd hbv (e ▸ hb'))⟩,by simp,fun _ _ hb=>hb,iR.same bf (cC.putAt hrow)⟩,fun id hid=>⟨rfl,k5 id (own id hid)⟩⟩
 ·
  rename_i hox
  rw[hox] at hx
  split at hq<;>first|(cases hq;done)|skip
  rename_i hlen
  simp only[AR,AC] at hx
  have x3:=au hx.1 hx.2
  have hnil:CR w S (.sl []) (.slice none 0 0):=.sl [] none 0 0 0 (fun _=>undef) (.inl rfl) (Nat.le_refl 0) (fun i d hd=>by simp[D.flats] at hd) (fun i d hd=>by simp[D.flats] at hd)
  obtain⟨cs,cs',c1,c2,u,r1,r2⟩:=qG (P:=P) (w:=w) (S:=S) hl hu2 (len:=0) ty (l:=[]) rfl (fun x hx=>by simp at hx) y1 hnil y2 (by simpa using hlen)
  obtain⟨p1,p2,p3,p4,p5,p6,p7⟩:=St.put_fields s dst (.own e (s.base+d) l')
  refine⟨_,hq,p5,p6,p2,p4,fun id _ _=>by rw[p1],?_⟩
  rcases Nat.lt_or_ge 0 l'.length with hcap|hcap
  ·obtain⟨newCap,rest,n1,n2,n3⟩:=r2 (by simpa using hcap)
   obtain⟨S',β',k1,k2,k3,k4,k5,k6⟩:=t7 h (v:=s.base+d) hβ (by omega) hn (l:=[]++l') (fun z hz=>y1 z (by simpa using hz)) (cs:=cs++cs') (by rw[bF];exact c1.append c2) (T:=u) (rest:=rest) (cap:=newCap) (w.drawn+1) (Nat.le_succ _) (by rw[List.length_append];exact n1) n2
   rw[List.length_append] at k2
   rw[List.nil_append] at k2
   refine .value (by rw[hex,x3];simp only[Sem.run_bind,n3,Result.andThen_ok,Sem.run_pure]) ⟨S',γ,β',k1.put k2 dst,⟨k3,fun b o hb=>cZ (h.Sb b o hb),fun t ht=>bB (hlk t ht),fun id hid b hb=>⟨hb,.inl (bW (h.γn id b hb).2)⟩,by simp,fun _ _ hb=>hb,iR.same bf cC.grown⟩,fun id hid=>⟨rfl,k4 id (own id hid)⟩⟩
  ·have z2:l'=[]:=by apply List.eq_nil_of_length_eq_zero;omega
   subst z2
   obtain⟨r3,_⟩:=r1 (by simp)
   refine .value (by rw[hex,x3];simp only[Sem.run_bind,r3 rfl,Result.andThen_ok,Sem.run_pure];rfl) ⟨S,γ,β,h.put (ph hn) dst,⟨fun _ _ hb=>hb,fun _ _ _=>rfl,fun t ht=>bB (hlk t ht),fun id hid b hb=>⟨hb,gN.refl _ _⟩,Nat.le_refl _,fun _ _ hb=>hb,iR.same bf (cC.refl _)⟩,fun id hid=>⟨rfl,rfl⟩⟩
theorem uD{k:IntKind}{l:List D}(h:∀ x∈l,wt (.int k) x):D.flats l=l:=by
 induction l with
 | nil=>rfl
 | cons x l ih=>
  obtain⟨n,rfl⟩:∃ n,x=.int k n:=by have:=h x List.mem_cons_self;simpa only[wt] using this
  rw[D.flats,ih fun y hy=>h y (List.mem_cons_of_mem _ hy)];rfl
theorem wG{x:D}{l:List D}(h:x.stl=some l):x=.st l:=by
 cases x<;>simp[D.stl] at h;rw[h]
theorem Bm(hE:EnvOk P E)(h:Rp w0 S γ β s a w){dst args argTypes ty pos after guard}(hlk:∀ t∈s.lkS,dst≠some t){R:Type}{K:St->Option R}{r:R}
  (hq:og E s ⟨dst,.call ⟨.builtin .copy,args,argTypes⟩,ty,pos,after,guard⟩ K=some r):∃ s',K s'=some r/\CH P w0 S γ β s a w ⟨dst,.call ⟨.builtin .copy,args,argTypes⟩,ty,pos,after,guard⟩ s':=by
 simp only[og] at hq
 split at hq<;>first|(cases hq;done)|skip
 rename_i x y T0 T' hargs htys
 split at hq<;>first|(cases hq;done)|skip
 rename_i k ht
 split at hq<;>first|(cases hq;done)|skip
 rename_i e id lo n e' id' lo' n' hox hoy
 split at hq<;>first|(cases hq;done)|skip
 rename_i m f g x1 m' f' g' y1 hov hov'
 split at hq<;>first|(cases hq;done)|skip
 rename_i hb
 simp only[Bool.and_eq_true,Bool.not_eq_true'] at hb
 obtain⟨⟨⟨⟨⟨⟨b1,b2⟩,b3⟩,b4⟩,b5⟩,b6⟩,b7⟩:=hb
 have:=Ty.eq_of_beq _ _ b1;subst this
 have:=Ty.eq_of_beq _ _ b2;subst this
 have:=Ty.eq_of_beq _ _ b3;subst this
 have:=Ty.eq_of_beq _ _ b4;subst this
 have:=Ty.eq_of_beq _ _ b5;subst this
 have:=Ty.eq_of_beq _ _ b6;subst this
 replace hq:=bind_some_inv hq;obtain⟨l,hl,hq⟩:=hq
 replace hq:=bind_some_inv hq;obtain⟨l',hl',hq⟩:=hq
 have:=wG hl;subst this
 have:=wG hl';subst this
 have hlo:id ∉ s.lkO:=by
  intro hh
  have:s.lkO.contains id=true:=by simpa using hh
  rw[this] at b7;cases b7
 have hx:=aM h x
 have hy:=aM h y
 rw[hox] at hx
 rw[hoy] at hy
 simp only[AR,AC,if_true] at hx hy
 obtain⟨x0,_,b,off,cap,x3,x4,x5⟩:=hx
 obtain⟨y0,_,b',off',cap',y3,y4,y5⟩:=hy
 have x3:=au x0 x3
 have y3:=au y0 y3
 obtain⟨mm,z1,z2,rfl⟩:=x5 _ hov
 obtain⟨mm',w1,w2,rfl⟩:=y5 _ hov'
 simp only[eh,aK,Option.some.injEq,Ty.arr.injEq,and_true] at z1 w1
 subst z1;subst w1
 have hO:=h.obs id _ b hov x4
 have hO':=h.obs id' _ b' hov' y4
 simp only[fK] at hO hO'
 obtain⟨o1,o2,o3,cs,o4,o5,o6⟩:=hO
 obtain⟨p1,p2,p3,cs',p4,p5,p6⟩:=hO'
 simp only[AC] at o5 p5
 obtain⟨q1,q2,q3⟩:=o5
 obtain⟨r1,r2,r3⟩:=p5
 simp only[wt] at q1 r1
 obtain⟨_,⟨rfl⟩,q4,q5⟩:=q1
 obtain⟨_,⟨rfl⟩,r4,r5⟩:=r1
 simp only[D.flat] at q3 r3
 rw[uD q5] at q3
 rw[uD r5] at r3
 obtain⟨c,hc⟩:∃ c,c=min n' n:=⟨_,rfl⟩
 rw[<-hc] at hq
 have hcl:cs.length=m:=by rw[<-q3.1,q4]
 have hcl':cs'.length=m':=by rw[<-r3.1,r4]
 have eo:ci (.one (.arr m (.int k)) (.d (.arr m (.int k)) (.st l))) []+lo*(Ty.int k).size=lo:=by simp[ci,aQ,Ty.size]
 have eo':ci (.one (.arr m' (.int k)) (.d (.arr m' (.int k)) (.st l'))) []+lo'*(Ty.int k).size=lo':=by simp[ci,aQ,Ty.size]
 rw[eo] at x3
 rw[eo'] at y3
 have hload:(loadCells ⟨b',lo',none⟩ c).run P w=.ok ((cs'.drop lo').take c).toArray w:=by
  have:=run_loadCells_list (P:=P) w ⟨b',lo',none⟩ ((cs'.drop lo').take c) (fun j v hv=>by
   have hj:j<c:=by have:=(List.getElem?_eq_some_iff.1 hv).1;simp at this;omega
   rw[List.getElem?_take_of_lt hj,List.getElem?_drop] at hv
   rw[cD,cF w p4]
   simpa using hv)
  rwa [show((cs'.drop lo').take c).length=c by simp;omega] at this
 have hsz:lo+((cs'.drop lo').take c).toArray.size<=cs.toArray.size:=by simp;omega
 have hone:((cs'.drop lo').take c).all jN=true:=by
  rw[List.all_eq_true]
  intro v hv
  obtain⟨j,hj,rfl⟩:=List.getElem_of_mem (List.mem_of_mem_drop (List.mem_of_mem_take hv))
  have hj':j<l'.length:=by rw[r3.1];exact hj
  have hcr:=r3.2 j l'[j] cs'[j] (List.getElem?_eq_getElem hj') (List.getElem?_eq_getElem hj)
  obtain⟨nn,hn⟩:∃ nn,l'[j]=.int k nn:=by have:=r5 l'[j] (List.getElem_mem hj');simpa only[wt] using this
  rw[hn] at hcr
  generalize cs'[j]=v at hcr
  cases hcr
  rfl
 have hst:=cO (P:=P) b lo ((cs'.drop lo').take c) 0 w cs.toArray o4 (by simp;omega) hone
 obtain⟨u,hu,hlu⟩:=gt (gX hE ht (by rfl))
 have hsu:=bG hlu w
 have eT:argTypes=#[T0,T']:=Array.ext' (by simpa using htys)
 have eA:args.map a.eval=#[a.eval x,a.eval y]:=Array.ext' (by simp[hargs])
 have hex:execOp a.eval ⟨dst,.call ⟨.builtin .copy,args,argTypes⟩,ty,pos,after,guard⟩=(Builtin.copy_ #[T0,T'] ty #[a.eval x,a.eval y] >>= fun v=>pure (.value v)):=by
  rw[<-eA,<-eT];rfl
 have hnew:cw w S (l.take lo++((l'.drop lo').take c++l.drop (lo+c))) (cs.take lo++((cs'.drop lo').take c++cs.drop (lo+c))):=by
  have part:∀ {A:List D} {B:List Value} (i:Nat),cw w S A B->cw w S (A.take i) (B.take i)/\cw w S (A.drop i) (B.drop i):=fun{A B} i hAB=>by
   have e:A=A.take i++A.drop i:=(List.take_append_drop i A).symm
   have hAB':=hAB
   rw[e] at hAB'
   obtain⟨k1,k2⟩:=hAB'.split
   rw[List.length_take,<-e] at *
   rcases Nat.le_total i A.length with hi|hi
   ·rw[Nat.min_eq_left hi] at k1 k2;exact⟨k1,k2⟩
   ·rw[List.take_of_length_le hi,List.take_of_length_le (by rw[<-hAB.1];exact hi),List.drop_of_length_le hi,List.drop_of_length_le (by rw[<-hAB.1];exact hi)]
    exact⟨hAB,cw.nil⟩
  exact(part lo q3).1.append ((part c (part lo' r3).2).1.append (part (lo+c) q3).2)
 have hwtn:wt (.arr m (.int k)) (.st (l.take lo++((l'.drop lo').take c++l.drop (lo+c)))):=by
  simp only[wt]
  refine⟨_,rfl,by simp;omega,fun z hz=>?_⟩
  rcases List.mem_append.1 hz with hz|hz
  ·exact q5 z (List.mem_of_mem_take hz)
  rcases List.mem_append.1 hz with hz|hz
  ·exact r5 z (List.mem_of_mem_drop (List.mem_of_mem_take hz))
  ·exact q5 z (List.mem_of_mem_drop hz)
 have hflat:(D.st (l.take lo++((l'.drop lo').take c++l.drop (lo+c)))).flat=l.take lo++((l'.drop lo').take c++l.drop (lo+c)):=by
  simp only[D.flat]
  simp only[wt] at hwtn
  obtain⟨_,⟨rfl⟩,_,t3⟩:=hwtn
  exact uD t3
 have hbS:∀ b' o,S b' o->b'≠b:=fun b' o hb e=>o3 o (e ▸ hb)
 have hcells:de cs.toArray lo ((cs'.drop lo').take c).toArray=(cs.take lo++((cs'.drop lo').take c++cs.drop (lo+c))).toArray:=by
  have e:cs=cs.take lo++((cs.drop lo).take c++(cs.drop lo).drop c):=by rw[List.take_append_drop,List.take_append_drop]
  have e2:(cs.take lo).length=lo:=by rw[List.length_take];omega
  conv=>lhs;rw[e]
  rw[List.drop_drop]
  have:=fQ (cs.take lo) ((cs.drop lo).take c) (cs.drop (lo+c)) ((cs'.drop lo').take c) (by simp;omega)
  rw[e2] at this
  exact this
 obtain⟨n1,n2⟩:=h.write (o':=.one (.arr m (.int k)) (.d (.arr m (.int k)) (.st (l.take lo++((l'.drop lo').take c++l.drop (lo+c)))))) hov x4 o3 o4 hsz (fun p=>⟨rfl,rfl⟩) (fun t l e=>by cases e) (fun _ _ _ e=>by cases e) (by
  simp only[fK]
  refine⟨o1,o2,o3,cs.take lo++((cs'.drop lo').take c++cs.drop (lo+c)),by rw[gg o4,hcells],?_,by simp[Ty.size] at *;omega⟩
  simp only[AC]
  refine⟨hwtn,q2,?_⟩
  rw[hflat]
  exact hnew.mono (fun b' o hb=>ce (hbS b' o hb)) fun _ _ hh=>hh)
 obtain⟨f1,f2,f3,f4,f5,f6,f7⟩:=St.put_fields (s.setOb id (some (.one (.arr m (.int k)) (.d (.arr m (.int k)) (.st (l.take lo++((l'.drop lo').take c++l.drop (lo+c)))))))) dst (.d (.int .i64) (.int .i64 (c:Nat)))
 refine⟨_,hq,f5,f6,f2,f4,fun i hi _=>?_,.value (v:=.int .i64 (c:Nat)) (w':=putAt w b lo ((cs'.drop lo').take c).toArray) ?_ ⟨S,γ,β,n1.put (ck _ _) dst,?_,fun _ _=>⟨rfl,rfl⟩⟩⟩
 ·rw[f1]
  simp only[St.setOb];rw[if_neg];intro e;subst e;rw[x4] at hi;cases hi
 ·rw[hex,x3,y3]
  simp only[Nat.add_zero] at hst
  have e1:Nat.min n' n=c:=hc.symm
  simp[Builtin.copy_,run_underlying hu,Builtin.lenOf,Builtin.firstCells,Sem.run_bind,hsu,e1,Ty.size,hload,hst,goInt]
 ·exact⟨fun _ _ hb=>hb,fun b' o hb=>ce (hbS b' o hb),fun t ht=>bB (hlk t ht),fun i hi b' hb'=>⟨hb',.inl (cq fun e=>hlo ((h.γi id i b x4 (e ▸ hb')) ▸ hi))⟩,by simp,fun _ _ hb=>hb,iR.same bf (cC.putAt (by first|assumption))⟩
theorem tD(hE:EnvOk P E)(h:Rp w0 S γ β s a w){o:Oper}(hf:Fr E s γ β o)(hT:∀ T t,(o.op=.alloc T\/∃ x,o.op=.box T x)->E.L T=some t->am t=true)(hlk:∀ t∈s.lkS,o.dst≠some t)(hst:∀ T x y,o.op=.store T x y->o.dst=none){R:Type}{K:St->Option R}{r:R}
  (hq:og E s o K=some r):∃ s',K s'=some r/\CH P w0 S γ β s a w o s':=by
 have quiet:qv E s o (fun v=>K (s.put o.dst v))=some r->∃ s',K s'=some r/\CH P w0 S γ β s a w o s':=fun hq=>rQ hE h hf (fun T t e=>hT T t (.inl e)) hlk hq
 obtain⟨dst,op,ty,pos,after,guard⟩:=o
 cases op
 case store T x y=>exact zw hE h hlk (hst T x y rfl) hq
 case box T x=>exact ES hE h hf hlk (fun t=>hT T t (.inr ⟨x,rfl⟩)) hq
 case makeSlice T x y=>exact rh hE h hf hlk hq
 case makeMap T x=>exact vi hE h hf hlk hq
 case mapUpdate T x y z=>exact ri hE h hq
 case call c=>
  obtain⟨callee,args,argTypes⟩:=c
  cases callee
  case builtin b=>
   cases b
   case append=>exact xa hE h hf hlk hq
   case copy=>exact Bm hE h hlk hq
   all_goals exact quiet hq
  all_goals exact quiet hq
 all_goals exact quiet hq
end
end Sy
end
noncomputable section
namespace Sy
open Go
theorem jC{α β R:Type}{x:Option α}{f:α->Option R}{g:α->Option β}{K:β->Option R}(h:∀ a,f a=(g a).bind K):x.bind f=(x.bind g).bind K:=by
 cases x with
 | none=>rfl
 | some a=>exact h a
theorem vr{R:Type}:∀ (p:List Nat) (a:AV) (K:AV->Option R),tI a p K=(tI a p some).bind K:=by
 intro p
 induction p with
 | nil=>intro a K;cases a<;>rfl
 | cons i p ih=>
  intro a K
  cases a<;>simp only[tI]<;>first
   | rfl
   | exact jC fun t=>jC fun y=>rfl
   | exact jC fun b=>ih b K
theorem ls{R:Type}(o:Ob)(p:List Nat)(K:AV->Option R):gC o p K=(gC o p some).bind K:=by
 cases o with
 | one t v=>exact vr p v K
 | many t l=>
  cases p with
  | nil=>rfl
  | cons i p=>exact jC fun x=>vr p _ K
 | mp kt vt l=>rfl
 | lp i q=>rfl
theorem wn{R:Type}{o:Ob}{p:List Nat}{f:AV->Option R}{g:AV->Option AV}{K:AV->Option R}(h:∀ v,f v=(g v).bind K):gC o p f=(gC o p g).bind K:=by
 rw[ls,ls _ _ g]
 cases gC o p some with
 | none=>rfl
 | some v=>exact h v
theorem Bh{α R:Type}{c:Bool}{A:Option R}{B:Option α}{K:α->Option R}(h:A=B.bind K):(bif c then A else none)=(bif c then B else none).bind K:=by
 cases c
 ·rfl
 ·exact h
theorem B5{R:Type}(E:Env)(s:St)(o:Oper)(K:AV->Option R):qv E s o K=(qv E s o some).bind K:=by
 obtain⟨dst,op,ty,pos,after,guard⟩:=o
 cases op<;>simp only[qv]<;>(repeat' first|rfl|exact ls _ _ _|refine wn fun _=>?_|refine jC fun _=>?_|refine Bh ?_|split)
structure Wk(s s':St):Prop where
 tm:∀ t,s'.tm t=s.tm t\/s'.tm t=.undef
 ob:s'.ob=s.ob
 fresh:s'.fresh=s.fresh
 dead:s'.dead=s.dead
 nt:s'.nt=s.nt
 lkS:s'.lkS=s.lkS
 lkO:s'.lkO=s.lkO
theorem Wk.refl(s:St):Wk s s:=⟨fun _=>.inl rfl,rfl,rfl,rfl,rfl,rfl,rfl⟩
theorem Wk.trans{a b c:St}(h:Wk a b)(k:Wk b c):Wk a c:=
 ⟨fun t=>by
  rcases k.tm t with e|e
  ·rw[e];exact h.tm t
  ·exact .inr e,k.ob.trans h.ob,k.fresh.trans h.fresh,k.dead.trans h.dead,k.nt.trans h.nt,k.lkS.trans h.lkS,k.lkO.trans h.lkO⟩
theorem Wk.put{s s':St}(h:Wk s s')(d:Option Nat){v v':AV}(hv:v'=v\/v'=.undef):Wk (s.put d v) (s'.put d v'):=by
 cases d with
 | none=>exact h
 | some d=>
  simp only[St.put,h.nt]
  split
  ·refine⟨fun t=>?_,h.ob,h.fresh,h.dead,by first|exact h.nt|rfl,h.lkS,h.lkO⟩
   by_cases e:t=d
   ·simp only[e,if_true];exact hv
   ·simp only[e,if_false];exact h.tm t
  ·exact h
theorem Wk.kill(s:St)(d:Option Nat):Wk s (s.put d .undef):=by
 cases d with
 | none=>exact Wk.refl s
 | some d=>
  simp only[St.put]
  split
  ·refine⟨fun t=>?_,rfl,rfl,rfl,rfl,rfl,rfl⟩
   by_cases e:t=d
   ·simp[e]
   ·simp[e]
  ·exact Wk.refl s
theorem Wk.killD:∀ (l:List Oper) (s:St),Wk s (killD s l)
 | [],s=>Wk.refl s
 | o::l,s=>(Wk.kill s o.dst).trans (Wk.killD l _)
theorem Wk.opA{s s':St}(h:Wk s s')(x:Operand):s'.opA x=s.opA x\/s'.opA x=.undef:=by
 cases x with
 | tmp t=>exact h.tm t
 | const v=>exact .inl rfl
 | global g=>exact .inl rfl
 | func f=>exact .inl rfl
theorem gh{ob:Nat->Option Ob}{t:Ty}:AV.toD ob t .undef=none:=by cases t<;>rfl
theorem Rp.wk{w0:Root}{S:Nat->Nat->Prop}{γ:Nat->Option Nat}{β:Nat->Option (Nat×Nat)}{s s':St}{a:Act}{w:World}(h:Rp w0 S γ β s a w)(k:Wk s s'):Rp w0 S γ β s' a w:=by
 have e1:=k.ob
 have e2:=k.dead
 have e3:s'.base=s.base:=by simp only[St.base,k.fresh]
 refine⟨h.ext,fun t ht=>?_,h.nt.trans k.nt.symm,fun t ht=>?_,?_,h.γn,h.γi,?_,?_,?_,?_,?_,h.Sb,h.So⟩
 ·rw[e1,e2]
  rcases k.tm t with e|e
  ·rw[e];exact h.tms t ht
  ·rw[e];simp[AR]
 ·rcases k.tm t with e|e
  ·rw[e];exact h.tmu t (k.nt ▸ ht)
  ·exact e
 ·rw[e1,e2];exact h.obs
 ·rw[e3];exact h.γf
 ·rw[e2];exact h.βn
 ·rw[e2];exact h.βi
 ·rw[e2];exact h.βγ
 ·rw[e3];exact h.βf
section
variable{E:Env}{s s':St}
theorem Wk.toDl(h:Wk s s'):∀ (l:List Operand) (ts:List Ty) {xs:List D},AV.toDl s'.ob ts (l.map s'.opA)=some xs->AV.toDl s.ob ts (l.map s.opA)=some xs
 | [],ts,xs,hx=>by cases ts<;>simpa [AV.toDl] using hx
 | y::l,ts,xs,hx=>by
  cases ts<;>simp only[List.map_cons,AV.toDl] at hx ⊢<;>first|(cases hx;done)|skip
  obtain⟨x,h1,h2⟩:=bind_some_inv hx
  obtain⟨ys,h3,h4⟩:=bind_some_inv h2
  rcases h.opA y with e|e
  ·rw[e,h.ob] at h1
   rw[h1,Option.bind_some,h.toDl l _ h3]
   exact h4
  ·rw[e,gh] at h1;cases h1
theorem Wk.partsD(h:Wk s s')(ty:Nat->Option Ty):∀ (l:List (Nat×Operand)) {xs:List (Nat×D)},Sy.partsD s'.ob s' ty l=some xs->Sy.partsD s.ob s ty l=some xs
 | [],xs,hx=>hx
 | (i,y)::l,xs,hx=>by
  simp only[Sy.partsD] at hx ⊢
  obtain⟨t,h0,hx⟩:=bind_some_inv hx
  obtain⟨x,h1,h2⟩:=bind_some_inv hx
  obtain⟨ys,h3,h4⟩:=bind_some_inv h2
  rw[h0,Option.bind_some]
  rcases h.opA y with e|e
  ·rw[e,h.ob] at h1
   rw[h1,Option.bind_some,h.partsD ty l h3]
   exact h4
  ·rw[e,gh] at h1;cases h1
theorem Wk.asList(h:Wk s s'){e:Ty}{x:Operand}{l:List D}(hx:(s'.opA x).asList s'.ob e=some l):s'.opA x=s.opA x:=by
 rcases h.opA x with k|k
 ·exact k
 ·rw[k] at hx;simp[AV.asList,gh] at hx
theorem Wk.isD(h:Wk s s'){x:Operand}{p:Ty×D}(hx:Sy.isD (s'.opA x)=some p):s'.opA x=s.opA x:=by
 rcases h.opA x with k|k
 ·exact k
 ·rw[k] at hx;simp[Sy.isD] at hx
theorem Wk.truth(h:Wk s s'){x:Operand}{b:Bool}(hx:(s'.opA x).truth=some b):s'.opA x=s.opA x:=by
 rcases h.opA x with k|k
 ·exact k
 ·rw[k] at hx;simp[AV.truth] at hx
end
end Sy
end
end Go.Proofs.YtpahompifldeeaaGreat
