/- Part 2 -/
import Derived.Test.YtdlipdnepadhjaaGreatAcce01
import Derived.RangeFuncSeq
import Derived.RangeFuncRecord
import Derived.RangeFuncNested
import Derived.RangeFuncLeaves
import Derived.Shelf.SlSortCmp.InsertionK
import Derived.Carry
import Derived.Test.YtdlipdnepadhjaaGreatProg
set_option linter.all false
set_option maxRecDepth 20000
namespace Go.Proofs.YtdlipdnepadhjaaGreat
noncomputable section
namespace Sy
open Go
section
variable{c:Cx}
section
variable{P:Program}{E:Env}{w0:Root}{S:Nat->Nat->Prop}{γ:Nat->Option Nat}{β:Nat->Option (Nat×Nat)}{s:St}{a:Act}{w:World}
def Rp.makeG(h:Rp w0 S γ β s a w){id:Nat}(hid:γ id=none)(hi:id<s.base+4096){x:Obj}{o:Ob}(d:Nat)(j:w.drawn<=d)
  (k:gM ⟨grown w [x] d,S,pQ γ id w.heap.size,β,(s.setOb id<|some o).ob,s.dead⟩ w.heap.size o) :
  Rp w0 S (pQ γ id w.heap.size) β (s.setOb id<|some o) a (grown w [x] d)/\Cx.le ⟨w,S,γ,β,s.ob,s.dead⟩ ⟨grown w [x] d,S,pQ γ id w.heap.size,β,(s.setOb id<|some o).ob,s.dead⟩:=by
 obtain⟨r,g⟩:=h.grow (os:=[x]) (d:=d) j (S':=S) (λ_ _ c=>c)<|λ_ _ c=>.inl c;obtain⟨t,m⟩:=r.setFree hid<|some o;have l:¬ w0.Old w.heap.size:=λk=>by have:=k.1;have:=h.ext.sz;omega
 obtain⟨y,C⟩:=t.newOb (id:=id) (b:=w.heap.size) hid l j2 (λi hi=>by have:=(h.γn i _ hi).2;omega) (λu f B z=>by have:=(h.βn u _ _ B z).2.1;omega) hi<|λx hx=>by rw[me] at hx;cases hx;exact k
 refine⟨y,⟨λb o c=>g.cell b o c,λ_ _ c=>c,λi b c=>fM hid c,λi x hx c=>?_,λv q=>⟨q,λb e p=>⟨p,λn A=>by have:=g.β v q;exact(this.2 b e p).2 n A⟩⟩⟩⟩
 obtain⟨b,c⟩:=c;exact m.ob i x hx ⟨b,c⟩
theorem C8(z:EnvOk P E)(h:Rp w0 S γ β s a w){c T rsv ty pos after guard}(C:Fr E s γ β ⟨c,.makeMap T rsv,ty,pos,after,guard⟩)(m:∀ t∈s.lkS,c≠some t){R:Type}{K:St->Option R}{r:R}
  (hq:vN E s ⟨c,.makeMap T rsv,ty,pos,after,guard⟩ K=some r):∃ s',K s'=some r/\Ku P w0 S γ β s a w ⟨c,.makeMap T rsv,ty,pos,after,guard⟩ s':=by
 simp[vN] at hq;cases rsv with
 | some x=>cases hq
 | none=>
 simp only at hq;replace hq:=ab hq;obtain⟨F,l,hq⟩:=hq;replace hq:=ab hq;obtain⟨d,A,hq⟩:=hq;obtain⟨kt,vt⟩:=F;simp only at hq;obtain⟨B,q,Q,_⟩:=C rfl d A;obtain⟨M,KT,VT,O,i,p,N⟩:=z.mapL T _ _ l;have j:=aJ _ _ i;have k:=aJ _ _ p;obtain⟨y,a0⟩:=h.makeG (id:=s.base+d) q u0 (x:=.map #[] 0) (o:=.mp kt vt []) w.drawn (zja _) (by
  simp only[gM];refine⟨j,k,λo u=>by have:=h.Sb _ _ u;omega,#[],?_,by simp[j6]⟩
  show(w.heap++#[Obj.map #[] 0])[w.heap.size]?=some (.map #[] 0);rw[Array.getElem?_append_right<|zja _,Nat.sub_self];rfl)
 obtain⟨p1,H,U,I,J,L,V⟩:=agm (s.setOb (s.base+d)<|some<|.mp kt vt []) c<|.map kt vt<|s.base+d;refine⟨_,hq,J,L,H,I,λid hid g=>?_,.value (v:=.map<|some w.heap.size) (w':=grown w [.map #[] 0] w.drawn) ?_ ⟨S,_,β,y.put ?_ c,?_,λid hid=>⟨ci _ _ ?_,rfl⟩⟩⟩
 ·rw[p1];refine ou s _ λe=>?_;subst e;rcases g with g|g
  ·simp_all
  ·omega
 ·simp_all [grown,execOp,Instr.makeMap,Option.map_none,G,zga]
 ·simp only[AR,AC,Value.cells];refine⟨j2,w.heap.size,rfl,bN _ _ _,j,k,λo u=>?_⟩
  grind [me]
 ·exact⟨λ_ _ f=>f,λb o f=>eP<|h.Sb b o f,λt D=>cq<|m t D,λid hid b f=>⟨fM q f,.inl<|dL (h.γn id b f).2⟩,j2,λ_ _ f=>fM q f,mz.same bV dN.grown⟩
 ·intro e;subst e;rcases hid with hid|hid
  ·simp_all
  ·omega
def vE(w:World)(b:Nat)(o:Obj):World:={ w with heap:=w.heap.setIfInBounds b o }
theorem jY{w:World}{b b':Nat}{o:Obj}(h:b'≠b):(vE w b o).heap[b']?=w.heap[b']?:=by grind [vE]
def mf{w:World}{b:Nat}{o:Obj}:(vE w b o).heap.size=w.heap.size:=by simp[vE]
def zg{w:World}{b b' o':Nat}{o:Obj}(h:b'≠b):(vE w b o).cell? ⟨b',o',none⟩=w.cell? ⟨b',o',none⟩:=by simp[World.cell?,jY h]
def Rp.writeM(h:Rp w0 S γ β s a w){id b:Nat}{kt vt:Ty}{l l':List D}{es':Array MapEntry}(F:s.ob id=some (.mp kt vt l))(m:γ id=some b)(G:j6 ⟨w,S,γ,β,s.ob,s.dead⟩ kt vt 0 l' es'.toList) :
  Rp w0 S γ β (s.setOb id<|some<|.mp kt vt l') a (vE w b<|.map es' l'.length)/\(∀ b' o,S b' o->(vE w b<|.map es' l'.length).cell? ⟨b',o,none⟩=w.cell? ⟨b',o,none⟩):=by
 have C:=h.obs id _ b F m;simp[gM] at C;obtain⟨A,B,E,M,H,_⟩:=C;have q:∀ b' o,S b' o->b'≠b:=λb' o d e=>E o<|e ▸ d;have J:=(h.γn id b m).2;have g:Cx.le ⟨w,S,γ,β,s.ob,s.dead⟩ ⟨vE w b<|.map es' l'.length,S,γ,β,(s.setOb id<|some<|.mp kt vt l').ob,s.dead⟩:=by
  refine⟨λb' o d=>zg<|q b' o d,λ_ _ d=>d,λ_ _ d=>d,λi x hx _=>?_,λv y=>⟨y,λb' e u=>⟨u,λn K=>?_⟩⟩⟩
  ·simp[St.setOb] at hx;by_cases e:i=id
   ·subst e;simp[if_true,zda] at hx;subst hx;exact⟨_,F,λp=>⟨rfl,rfl⟩,(λt l e=>by cases e),(λk v l e=>by cases e;exact⟨_,rfl⟩)⟩
   ·simp_all
  ·have j:b'≠b:=λz=>h.βγ v id b' e y u<|z ▸ m;have r:=K;simp[rL,ce,jY j] at r ⊢;exact r
 refine⟨⟨qg h.ext rfl rfl rfl (by simp[mf]) (zja _) (λb' c=>jY λe=>(h.γn id b m).1<|e ▸ c),λt L=>(h.tms t L).mono g,h.nt,h.tmu,λi x b' hx c=>?_,λi b' c=>by rw[mf];exact h.γn i b' c,h.γi,h.γf,
  λv b' e y u=>by rw[mf];exact h.βn v b' e y u,h.βi,h.βγ,h.βf,λb' o d=>by rw[mf];exact h.Sb b' o d,h.So⟩,λb' o d=>zg<|q b' o d⟩
 simp[St.setOb] at hx;by_cases e:i=id
 ·subst e;simp[if_true,zda] at hx;subst hx;rw[m] at c;cases c;simp[gM];refine⟨A,B,E,es',?_,G.mono g⟩
  simp_all [vE]
 ·rw[zha e] at hx;have j:b'≠b:=λz=>e<|h.γi i id b' c<|z ▸ m;exact(h.obs i x b' hx c).mono g (jY j) λ_ I=>I
theorem j6.push{kt vt:Ty}{k v:D}{ek ev:Value}(b:wt kt k)(d:wt vt v)(f:ge c.w c.S k ek)(g:ge c.w c.S v ev):∀ {l:List D} {a:List MapEntry} {j:Nat},j6 c kt vt j l a->j6 c kt vt j (l++[.st [k,v]]) (a++[{ key:=ek,val:=ev,born:=j+l.length }])
 | [],[],j,_=>by simp only[z7b,j6,zzb,zXb];exact⟨⟨trivial,k,v,rfl,b,d,f,g⟩,trivial⟩
 | [],_::_,_,h=>h.elim
 | _::_,[],_,h=>h.elim
 | x::l,e::a,j,h=>by simp[zrb,j6] at h ⊢;refine⟨h.1,?_⟩;have:=j6.push b d f g h.2;grind
theorem DG{kt vt:Ty}{x y:D}:∀ {l:List D} {b:List MapEntry} {j i:Nat},j6 c kt vt j l b->ER l x b i=none->afI l x y=l++[.st [x,y]]
 | [],[],_,_,_,_=>rfl
 | [],_::_,_,_,h,_=>h.elim
 | _::_,[],_,_,h,_=>h.elim
 | z::l,e::b,j,i,h,a=>by
  simp[j6] at h;obtain⟨⟨_,k,v,rfl,_⟩,d⟩:=h;simp[ER] at a;simp only[afI];cases hb:D.beq x k
  ·rw[hb] at a;simp only[zIa,if_false] at a ⊢;rw[DG d a];rfl
  ·simp_all
theorem DH{kt vt:Ty}{x y:D}{ek ev:Value}(g:wt vt y)(p:ge c.w c.S y ev)(o:ge c.w c.S x ek):∀ {l:List D} {b:List MapEntry} {j i n:Nat} {v0:Value},j6 c kt vt j l b->ER l x b i=some (n,v0) ->
  ∃ m e0,n=i+m/\b[m]?=some e0/\(afI l x y).length=l.length/\j6 c kt vt j (afI l x y) (b.modify m λe=>{ e with key:=e0.key,val:=ev })/\j6 c kt vt j (afI l x y) (b.modify m λe=>{ e with key:=ek,val:=ev })
 | [],[],_,_,_,_,_,a=>by simp[ER] at a
 | [],_::_,_,_,_,_,h,_=>h.elim
 | _::_,[],_,_,_,_,h,_=>h.elim
 | z::l,e::b,j,i,n,v0,h,a=>by
  simp[j6] at h;obtain⟨⟨f,k,v,rfl,q1,q,r,s⟩,d⟩:=h;simp[ER] at a;simp only[afI];cases hb:D.beq x k
  ·rw[hb] at a;simp only[zIa,if_false] at a ⊢;obtain⟨m,e0,e1,e2,e3,e4,e5⟩:=DH (y:=y) g p o d a;refine⟨m+1,e0,u0,by simpa using e2,by simp[e3],?_,?_⟩
   ·grind [List.modify_succ_cons,j6]
   ·grind [List.modify_succ_cons,j6]
  ·rw[hb] at a;simp[if_true,zda,Prod.mk.injEq] at a;have:=Lf _ _ hb;subst this;simp only[if_true];refine⟨0,e,u0,rfl,rfl,?_,?_⟩
   ·grind [List.modify_zero_cons,j6]
   ·grind [List.modify_zero_cons,j6]
def I7(old new:Value)(w:World):∃ k d,w.drawn<=d/\(Instr.keyThatStays old new).run P w=.ok k { w with drawn:=d }/\(k=old\/k=new):=by
 unfold Instr.keyThatStays;split
 ·exact⟨new,w.drawn,zja _,rfl,.inr rfl⟩
 ·simp only[G,run_choose];split
  ·simp only[zga,zta];exact⟨_,w.drawn,zja _,rfl,by split<;>simp⟩
  ·simp only[zga,zta];exact⟨_,w.drawn+1,zIc _,rfl,by split<;>simp⟩
theorem yI(hE:EnvOk P E)(h:Rp w0 S γ β s a w){dst T x k v ty pos after guard}{R:Type}{K:St->Option R}{r:R}
  (hq:vN E s ⟨dst,.mapUpdate T x k v,ty,pos,after,guard⟩ K=some r):∃ s',K s'=some r/\Ku P w0 S γ β s a w ⟨dst,.mapUpdate T x k v,ty,pos,after,guard⟩ s':=by
 simp only[vN] at hq;cases dst with
 | some d=>simp at hq
 | none=>
 simp only[Option.isSome_none,zIa,if_false] at hq;replace hq:=ab hq;obtain⟨kv,Z,hq⟩:=hq;obtain⟨a3,a4⟩:=kv;have hx:=aT h x;generalize s.opA x=ax at *;cases ax<;>(try simp only at hq)<;>try(cases hq;done)
 rename_i kt vt id;split at hq<;>try(cases hq;done)
 rename_i c;simp only[Y,zCa] at c;obtain⟨⟨V,f⟩,aO⟩:=c;have e1:=ags _ _ V;have e2:=ags _ _ f;subst e1;subst e2;have ad:id ∉ s.lkO:=by simp_all
 split at hq<;>try(cases hq;done)
 rename_i t aI l F;split at hq<;>try(cases hq;done)
 rename_i f;simp[Y] at f;have e1:=ags _ _ f.1;have e2:=ags _ _ f.2;subst e1;subst e2;replace hq:=ab hq;obtain⟨u,a0,hq⟩:=hq;replace hq:=ab hq;obtain⟨H,ap,hq⟩:=hq;obtain⟨hc,KT,VT,hu,q,al,hh⟩:=hE.mapL T _ _ Z;have D:=aJ _ _ q;have an:=aJ _ _ al;obtain⟨M,a5⟩:=pS D (aT h k) a0;obtain⟨v1,v2⟩:=pS an (aT h v) ap;simp[AR,AC] at hx;obtain⟨na,b,W,L,_,_,_⟩:=hx;have hv:=ak na W;have hO:=h.obs id _ b F L;simp[gM] at hO;obtain⟨_,_,a1,I,g,J⟩:=hO;have i1:iF t (a.eval k).cells.toList (a.eval k):=⟨rfl,rF M D a5.1⟩;have rc:=kW (S:=S) (w:=w) t KT u _ _ 10000 false q hc u0 M a5.2 i1 w
 have N:=xe (P:=P) q hc hh M a5 w J;have X:(execOp a.eval ⟨none,.mapUpdate T x k v,ty,pos,after,guard⟩)=(Instr.mapUpdate T (a.eval x) (a.eval k) (a.eval v) >>= λ_=>pure .skip):=rfl;have C:=(h.γn id b L).2;have run:∃ es' d,w.drawn<=d/\j6 ⟨w,S,γ,β,s.ob,s.dead⟩ t aI 0 (afI l u H) es'.toList/\(execOp a.eval ⟨none,.mapUpdate T x k v,ty,pos,after,guard⟩).run P w=.ok .skip (vE { w with drawn:=d } b<|.map es' (afI l u H).length):=by
  rw[X,hv];cases hf:ER l u I.toList 0 with
  | none=>
   rw[hf] at N;have hm:=DG (y:=H) J hf;refine⟨I.push { key:=a.eval k,val:=a.eval v,born:=l.length },w.drawn,zja _,?_,?_⟩
   ·rw[hm,zrd];have:=j6.push M v1 a5 v2 J
    rwa [zbb] at this
   ·have hl:(afI l u H).length=l.length+1:=by rw[hm];simp
    rw[hl];simp[Instr.mapUpdate,G,run_underlying hu,zga,mL g,rc,N];simp[setObj,Sem.run,g,vE]
  | some p=>
   obtain⟨n,v0⟩:=p;rw[hf] at N;obtain⟨m,e0,e1,e2,e3,e4,e5⟩:=DH (ek:=a.eval k) v1 v2 a5 J hf;have O:n=m:=u0
   subst O;have Q:I[n]?=some e0:=by simpa using e2
   obtain⟨kk,d,A,r1,r2⟩:=I7 (P:=P) e0.key (a.eval k) w;refine⟨I.modify n λe=>{ e with key:=kk,val:=a.eval v },d,A,?_,?_⟩
   ·rw[Array.toList_modify];all_goals grind
   ·rw[e3];simp[Instr.mapUpdate,G,run_underlying hu,zga,mL g,rc,N,Q,zYb,z0b,r1];simp[setObj,Sem.run,g,vE]
 obtain⟨es',d,B,U,j⟩:=run;have hg:({ w with drawn:=d }:World)=grown w [] d:=by simp[grown]
 rw[hg] at j;obtain⟨g1,g2⟩:=h.grow (os:=[]) (d:=d) B (S':=S) (λ_ _ c=>c)<|λ_ _ c=>.inl c;obtain⟨w1,w2⟩:=g1.writeM (l':=afI l u H) (es':=es') F L<|U.mono g2;refine⟨_,hq,rfl,rfl,rfl,rfl,λi hi _=>?_,.skip j ⟨S,γ,β,w1,?_,λ_ _=>⟨rfl,rfl⟩⟩⟩
 ·refine ou s _ λe=>?_
  simp_all
 ·refine⟨λ_ _ c=>c,λb' o c=>(w2 b' o c).trans<|g2.cell b' o c,λ_ _=>rfl,λi hi b' z=>⟨z,.inl ?_⟩,by rw[mf];simp,λ_ _ c=>c,mz.same rfl (afT b (λb' c C=>(jY c).trans<|dL C)<|Jd g)⟩
  have a2:b'≠b:=λe=>by subst e;exact ad<|(h.γi id i _ L z) ▸ hi
  grind [jY]
end
end
section
variable{l:List D}{c:Array Value}
def CR.at_{w:World}{S:Nat->Nat->Prop}{b off n cap:Nat}(h:CR w S (.sl l)<|.slice (some ⟨b,off,none⟩) n cap):tC w S b off (N l):=by
 obtain⟨A,d,b',f,e,a,k,j⟩:=h.elems;simp[Value.slice.injEq] at e;rcases a with rfl|a
 ·exact⟨[],c7.nil,λi c g=>by simp at g⟩
 ·rw[<-e.1] at a;cases a;exact j
def rt{w:World}{b n:Nat}(h:rL w b=some n):∃ c,ce w b=some c/\c.size=n:=by simp_all [rL]
def tN{w:World}{b off o:Nat}{cs:Array Value}(h:ce w b=some c)(d:off+cs.size<=c.size)(a:o<off):(putAt w b off cs).cell? ⟨b,o,none⟩=w.cell? ⟨b,o,none⟩:=by simp_all [cell_of_row,iU,mX]
def yF{w:World}{b off o:Nat}{cs:Array Value}(h:ce w b=some c)(a:off+cs.size<=c.size)(d:o<cs.size):(putAt w b off cs).cell? ⟨b,off+o,none⟩=cs[o]?:=by rw[cell_of_row _<|iU h,mX _ _ _ _ a,zha u0,zma u0,zyb]
section
variable{P:Program}{E:Env}{w0:Root}{S:Nat->Nat->Prop}{γ:Nat->Option Nat}{β:Nat->Option (Nat×Nat)}{s:St}{a:Act}{w:World}
def Nh(h:Rp w0 S γ β s a w){v v' b off:Nat}{e:Ty}{l':List D}{cap n:Nat}{g:List Value}(R:aj e=true)(hl:∀ x∈l,wt e x)(P:∀ x∈l',wt e x)(K:v ∉ s.dead)(L:β v=some (b,off+l.length*e.size))(hr:rL w b=some n)(O:off+cap*e.size<=n/\off=0)
  (A:l.length+l'.length<=cap) (hc:tC w S b off<|N l) (a0:c7 w S (N l') g) (Z:β v'=none) (hi:v'<s.base+4096) :
  ∃ S' β',Rp w0 S' γ β' { s with dead:=v::s.dead } a (putAt w b (off+l.length*e.size) g.toArray) ∧
   AR ⟨putAt w b (off+l.length*e.size) g.toArray,S',γ,β',s.ob,v::s.dead⟩ (.own e v'<|l++l') (.slice (some ⟨b,off,none⟩) (l.length+l'.length) cap) ∧
   (∀ b o,S b o->S' b o)/\(∀ b' o,S b' o->(putAt w b (off+l.length*e.size) g.toArray).cell? ⟨b',o,none⟩=w.cell? ⟨b',o,none⟩)/\(∀ u,u≠v'->β' u=β u):=by
 obtain⟨c,r,Y⟩:=rt hr;have F:g.length=l'.length*e.size:=by rw[<-a0.1];exact aL R l' P
 generalize he0:off+l.length*e.size=e0 at *;obtain⟨WO,WP,UJ⟩:=h.βn v b e0 K L;have E:e0+g.toArray.size<=c.size:=by simp[zPc,F,Y];have:(l.length+l'.length)*e.size<=cap*e.size:=zKa _ A;rw[ztb] at this;omega
 let S':Nat->Nat->Prop:=λb' o=>S b' o\/(b'=b/\e0<=o/\o<e0+g.length)
 have m:∀ b' o,S b' o->(putAt w b e0 g.toArray).cell? ⟨b',o,none⟩=w.cell? ⟨b',o,none⟩:=λb' o M=>by
  by_cases e:b'=b
  ·subst e;exact tN r E<|Nat.lt_of_not_le λj=>UJ o j M
  ·exact cu e
 have nd:∀ {u},u ∉ v::s.dead->u ∉ s.dead/\u≠v:=λy=>⟨λj=>y<|zsa _ j,λj=>y<|j ▸ zBa⟩;have Q:Cx.le ⟨w,S,γ,β,s.ob,s.dead⟩ ⟨putAt w b e0 g.toArray,S',γ,pQ β v' (b,e0+g.length),s.ob,v::s.dead⟩:=
  ⟨m,λ_ _ M=>.inl M,λ_ _ k=>k,λid o J _=>⟨o,J,λp=>⟨rfl,rfl⟩,λt l e=>⟨l,e,rfl⟩,λ_ _ l e=>⟨l,e⟩⟩,λu y=>⟨(nd y).1,λb' e q=>⟨fM Z q,λn R=>by rw[lW r E];exact R⟩⟩⟩
 have X:Rp w0 S' γ (pQ β v' (b,e0+g.length)) { s with dead:=v::s.dead } a (putAt w b e0 g.toArray):=by
  refine⟨qg h.ext rfl rfl rfl j2 (zja _) (λb' d=>cW<|λe=>WO<|e ▸ d),λt ht=>(h.tms t ht).mono Q,h.nt,h.tmu,λid o b' J d=>?_,λid b' d=>by simpa using h.γn id b' d,h.γi,h.γf,λu b' e y q=>?_,λu W b' e e' y H q z=>?_,λu id b' e y q=>?_,λu y=>?_,λb' o d=>?_,λb' o d C=>?_⟩
  ·have T:b'≠b:=λe=>h.βγ v id b e0 K L<|e ▸ d;refine(h.obs id o b' J d).mono Q (cW T) λo j=>?_;rcases j with j|j
   ·exact j
   ·exact z8a j.1 T
  ·obtain⟨B,I⟩:=nd y;by_cases e1:u=v'
   ·subst e1;rw[bN] at q;cases q;refine⟨WO,by simpa using WP,λo J j=>?_⟩
    rcases j with j|j
    ·exact UJ o u0 j
    ·omega
   ·rw[ci β _ e1] at q;obtain⟨V,k2,k3⟩:=h.βn u b' e B q;refine⟨V,by simpa using k2,λo J j=>?_⟩
    rcases j with j|j
    ·exact k3 o J j
    ·obtain⟨j,_⟩:=j;subst j;exact I<|h.βi u v b' _ _ B K q L
  ·obtain⟨B,I⟩:=nd y;obtain⟨G,U⟩:=nd H;by_cases e1:u=v'
   ·by_cases e2:W=v'
    ·rw[e1,e2]
    ·subst e1;rw[bN] at q;cases q;rw[ci β _ e2] at z;exact z8a (h.βi W v b _ _ G K z L) U
   ·by_cases e2:W=v'
    ·subst e2;rw[bN] at z;cases z;rw[ci β _ e1] at q;exact z8a (h.βi u v b _ _ B K q L) I
    ·rw[ci β _ e1] at q;rw[ci β _ e2] at z;exact h.βi u W b' e e' B G q z
  ·by_cases e1:u=v'
   ·subst e1;rw[bN] at q;cases q;exact h.βγ v id b e0 K L
   ·rw[ci β _ e1] at q;exact h.βγ u id b' e (nd y).1 q
  ·have H:s.base+4096<=u:=y;rw[ci β _ u0]
   exact h.βf u H
  ·rcases d with d|d
   ·simpa using h.Sb b' o d
   ·simpa [d.1] using WP
  ·rcases d with d|d
   ·exact h.So b' o d C
   ·exact z8a (d.1 ▸ C) WO
 refine⟨S',_,X,?_,λ_ _ M=>.inl M,m,λu y=>ci β _ y⟩;simp only[AR,AC,Value.cells];refine⟨j2,R,λx hx=>(zJa.1 hx).elim (hl x)<|P x,some ⟨b,off,none⟩,cap,by rw[zFa],?_,λ_=>.inr ⟨b,off,rfl,?_,n,by show rL (putAt w b e0 g.toArray) b=some n;rw[lW r E];exact hr,O⟩⟩
 ·obtain⟨cs,V,k2⟩:=hc;refine afw (.inr rfl) (by rw[zFa];exact A) ⟨cs++g,?_,λi x hx=>?_⟩
  ·rw[cw];exact(V.append a0).mono m λ_ _ j=>.inl j
  ·have len:cs.length=l.length*e.size:=by rw[<-V.1];exact aL R l hl
   rw[zEd] at hx;by_cases hi2:i<cs.length
   ·rw[zma hi2] at hx;obtain⟨m1,m2⟩:=k2 i x hx;exact⟨.inl m1,(m _ _ m1).trans m2⟩
   ·rw[zha hi2] at hx;have C:=(zra.1 hx).1;refine⟨.inr ⟨rfl,u0,u0⟩,?_⟩
    rw[show off+i=e0+(i-cs.length) by omega,yF r E (by simpa using C)]
    simpa using hx
 ·show pQ β v' (b,e0+g.length) v'=_;rw[bN,zFa,F,ztb];congr 2;omega
def xW{T T' u':TypeId}{e:Ty}(hE:cb P (.sl e) T=true)(p:P.underlying T'=some (.slice u')){A:Option Addr}{len cap:Nat}{l l':List D}{E:Value}(ty:TypeId)(s:len=l.length)(hl:∀ x∈l,wt e x)(k:∀ x∈l',wt e x)
  (hx:CR w S (.sl l)<|.slice A len cap) (a2:CR w S (.sl l') E) (hb:l.length+l'.length<=1073741824) :
  ∃ cs i:List Value,c7 w S (N l) cs/\c7 w S (N l') i/\∃ u,
   (l.length+l'.length<=cap->(A=none->(Builtin.append_ #[T,T'] ty #[.slice A len cap,E]).run P w=.ok (.slice none (l.length+l'.length) cap) w) ∧
    (∀ b off c,A=some ⟨b,off,none⟩->ce w b=some c->off+cap*e.size<=c.size->(Builtin.append_ #[T,T'] ty #[.slice A len cap,E]).run P w=.ok (.slice A (l.length+l'.length) cap) (putAt w b (off+l.length*e.size) i.toArray))) ∧
   (cap<l.length+l'.length->∃ a rest,l.length+l'.length<=a/\(cs++i).length+rest.length=a*e.size ∧
    (Builtin.append_ #[T,T'] ty #[.slice A len cap,E]).run P w=.ok (.slice (some ⟨w.heap.size,0,none⟩) (l.length+l'.length) a) (grown w [.cells ((cs++i)++rest).toArray u]<|w.drawn+1)):=by
 subst s;obtain⟨u,X,C⟩:=jF hE;have o:=aJ _ _ C;obtain⟨i0,F,M,ad,nA,a1,O,_⟩:=fH<|gJ C;have U:=CR.mono (w:=w) (w':={ w with drawn:=w.drawn+1 }) (S:=S) (S':=S) (λ_ _ _=>rfl) (λ_ _ h=>h) hx;have V:=CR.mono (w:=w) (w':={ w with drawn:=w.drawn+1 }) (S:=S) (S':=S) (λ_ _ _=>rfl) (λ_ _ h=>h) a2;obtain⟨cs,Y,c2⟩:=kw (P:=P) o hl U;obtain⟨i,a0,d2⟩:=kw (P:=P) o k a2;obtain⟨d,d3,Z⟩:=kw (P:=P) o k V;have len:cs.length=l.length*e.size:=by rw[<-Y.1];exact aL o l hl
 have m:i.length=l'.length*e.size:=by rw[<-a0.1];exact aL o l' k
 have n:d.length=l'.length*e.size:=by rw[<-d3.1];exact aL o l' k
 have L:d=i:=by
  obtain⟨A',r,b,off,q,q1,q2,q3⟩:=a2.elems;subst q;have e1:=d2;have e2:=Z;cases A' with
  | none=> simp only[Builtin.firstCells,zta,Result.ok.injEq] at e1 e2;have:=e1.1.symm.trans e2.1;simpa using this.symm
  | some A'=>
   rcases q1 with rfl|q1
   ·simp at m n;rw[m,n]
   ·cases q1;obtain⟨I,r1,r2⟩:=q3;have Q:I.length=l'.length*e.size:=by rw[<-r1.1];exact aL o l' k
    have f1:=run_loadCells_list (P:=P) w ⟨b,off,none⟩ I<|λj v q=>by rw[dO];exact(r2 j v q).2
    have f2:=run_loadCells_list (P:=P) { w with drawn:=w.drawn+1 } ⟨b,off,none⟩ I<|λj v q=>by rw[dO];exact(r2 j v q).2
    simp only[Builtin.firstCells] at e1 e2;rw[Q] at f1 f2;rw[f1] at e1;rw[f2] at e2;simp only[Result.ok.injEq] at e1 e2;have:=e1.1.symm.trans e2.1;simpa using this.symm
 subst L;have f:(Builtin.lenOf E).run P w=.ok l'.length w:=by obtain⟨A',r,b,off,q,_⟩:=a2.elems;subst q;rfl
 refine⟨cs,d,c7.mono (w:={ w with drawn:=w.drawn+1 }) (w':=w) (S:=S) (S':=S) (λ_ _ _=>rfl) (λ_ _ h=>h) Y,a0,u,λg=>⟨λJ=>?_,λb off c J z al=>?_⟩,λg=>?_⟩
 ·subst J;simp[Builtin.append_,zuc,zAb,zlb,G,run_underlying X,run_underlying p,zga,cp C,zta,zIa,if_false,f,g,if_true,zSb,d2]
 ·subst J;have B:=cZ (P:=P) b (off+l.length*e.size) d 0 w c z (by
   have:(l.length+l'.length)*e.size<=cap*e.size:=zKa _ g;rw[ztb] at this;omega) (by rw[zxa];intro x hx;have:=a0.nag x hx;cases x<;>simp_all [Value.oneCell',nl])
  simp[zXb] at B;simp[Builtin.append_,zuc,zAb,zlb,G,run_underlying X,run_underlying p,zga,cp C,zta,zIa,if_false,f,g,if_true,zSb,d2,dO,B]
 ·have R:¬ (l.length+l'.length<=cap):=u0
  have K:¬ (Builtin.nextslicecap (l.length+l'.length) cap*i0.bytes>2^48):=by
   have h1:=FQ g;have h2:=zHa u0 nA.1
   omega
  have y:¬ (((l.length+l'.length:Nat):Int)>IntKind.i64.max):=by
   have:IntKind.i64.max=9223372036854775807:=H
   omega
  let t:=w.tape w.drawn (.appendCap (l.length+l'.length) cap u)
  let a:=l.length+l'.length+t%(2^63-(l.length+l'.length))
  have W:F.cells.size=e.size:=by have:=(cK (w:=w) (S:=S) O).1;rw[<-zFb,<-this];exact cJ _ _ (c6 e o) o
  refine⟨a,(Builtin.zeroCells F.cells<|a-(l.length+l'.length)).toList,u0,?_,?_⟩
  ·have:(Builtin.zeroCells F.cells<|a-(l.length+l'.length)).toList.length=(a-(l.length+l'.length))*e.size:=by simp[Builtin.zeroCells,W]
   rw[this,zFa,len,m,<-ztb,<-ztb];congr 1;omega
  ·have hf:Question.forced (.appendCap (l.length+l'.length) cap u)=false:=rfl;simp only[Builtin.append_,zuc,zAb,zlb,G,run_underlying X,run_underlying p,zga,cp C,zta,zIa,if_false,f,R,zSb,if_true,typeInfo,run_program,M,false_or,y,false_and,K,run_choose,hf,run_askRoom,c2,Z,zeroValue,a1,newRow,run_newObj];have e1:(cs++d++(Builtin.zeroCells F.cells<|a-(l.length+l'.length)).toList).toArray=cs.toArray++d.toArray++Builtin.zeroCells F.cells (a-(l.length+l'.length)):=j2
   rw[e1];simp only[grown];rw[Array.push_eq_append];rfl
def Fi(hE:EnvOk P E)(h:Rp w0 S γ β s a w){g args argTypes ty pos after guard}(hf:Fr E s γ β ⟨g,.call ⟨.builtin .append,args,argTypes⟩,ty,pos,after,guard⟩)(q:∀ t∈s.lkS,g≠some t){R:Type}{K:St->Option R}{r:R}
  (hq:vN E s ⟨g,.call ⟨.builtin .append,args,argTypes⟩,ty,pos,after,guard⟩ K=some r):∃ s',K s'=some r/\Ku P w0 S γ β s a w ⟨g,.call ⟨.builtin .append,args,argTypes⟩,ty,pos,after,guard⟩ s':=by
 simp only[vN] at hq;replace hq:=ab hq;obtain⟨T,hT,hq⟩:=hq;replace hq:=ab hq;obtain⟨t,B,hq⟩:=hq;replace hq:=ab hq;obtain⟨d,U,hq⟩:=hq;split at hq<;>try(cases hq;done)
 rename_i e x y T0 T' I D;split at hq<;>try(cases hq;done)
 rename_i e2 ap;replace hq:=ab hq;obtain⟨l',al,hq⟩:=hq;obtain⟨aI,hγ,hβ,_⟩:=hf rfl d U;rcases hE.lay T _ B with⟨ts',M⟩|hl
 ·cases M
 rcases hE.lay T' _ ap with⟨ts',M⟩|V
 ·cases M
 obtain⟨u2,a0,_⟩:=jF V;have J:=aJ _ _ hl;simp only[aj] at J;have ad:T0=T:=by
  have:argTypes=#[T0,T']:=zkc (by simpa using D)
  simp_all
 subst ad;have eT:argTypes=#[T0,T']:=zkc (by simpa using D)
 have eA:args.map a.eval=#[a.eval x,a.eval y]:=zkc (by simp[I])
 have m:execOp a.eval ⟨g,.call ⟨.builtin .append,args,argTypes⟩,ty,pos,after,guard⟩=(Builtin.append_ #[T0,T'] ty #[a.eval x,a.eval y] >>= λv=>pure<|.value v):=by rw[<-eA,<-eT];rfl
 obtain⟨y1,y2⟩:=lD J (aT h y) al;have hx:=aT h x;have own:∀ id:Nat,(g≠some (id-s.base)\/id<s.base)->id≠s.base+d:=λid hid e=>by
  subst e;rcases hid with hid|hid
  ·simp_all
  ·omega
 split at hq<;>try(cases hq;done)
 ·
  rename_i e' v l L;rw[L] at hx;split at hq<;>try(cases hq;done)
  rename_i f;split at hq<;>try(cases hq;done)
  rename_i p;simp only[Y,zCa] at f;have:=ags _ _ f.1;subst this;have a1:v ∉ s.dead:=λhh=>by simp_all
  simp[AR,AC] at hx;obtain⟨x0,x1,x2,A,cap,a2,x4,x5⟩:=hx;have a2:=ak x0 a2;obtain⟨cs,H,c1,c2,u,r1,r2⟩:=xW (P:=P) (w:=w) (S:=S) hl a0 ty rfl x2 y1 x4 y2 p;obtain⟨p1,p2,p3,p4,p5,p6,p7⟩:=agm { s with dead:=v::s.dead } g<|.own e' (s.base+d)<|l++l';refine⟨_,hq,p5,p6,p2,p4,λid _ _=>by rw[p1],?_⟩
  rcases zua cap (l.length+l'.length) with j|j
  ·obtain⟨k,rest,n1,n2,n3⟩:=r2 j;obtain⟨b1,b2⟩:=h.bury v;obtain⟨S',β',Z,F,k3,k4,k5,k6⟩:=vV b1 (v:=s.base+d) hβ (by show s.base+d<s.base+4096;omega) J (l:=l++l') (λz hz=>(zJa.1 hz).elim (x2 z)<|y1 z) (cs:=cs++H) (by rw[cw];exact c1.append c2) (T:=u) (rest:=rest) (cap:=k) (w.drawn+1) (zIc _) (by rw[zFa];exact n1) n2
   rw[zFa] at F;refine .value (by rw[m,a2];simp[G,n3,zga,zta]) ⟨S',γ,β',Z.put F g,⟨k3,λb o f=>eP<|h.Sb b o f,λt B=>cq<|q t B,λid hid b f=>⟨f,.inl<|dL (h.γn id b f).2⟩,j2,λ_ _ f=>f,mz.same bV dN.grown⟩,λid hid=>⟨rfl,k4 id<|own id hid⟩⟩
  ·obtain⟨r3,r4⟩:=r1 j;rcases x5 a1 with⟨rfl,rfl⟩|⟨b,off,rfl,Q,n,W,an⟩
   ·have z1:l=[]:=by apply zcd;omega
    have z2:l'=[]:=by simp_all
    obtain⟨b1,b2⟩:=h.bury v;subst z1;subst z2;refine .value (by rw[m,a2];simp only[G,r3 rfl,zga,zta];rfl) ⟨S,γ,β,b1.put (wq J) g,⟨λ_ _ f=>f,λ_ _ _=>rfl,λt B=>cq<|q t B,λid hid b f=>⟨f,kL.refl _ _⟩,zja _,λ_ _ f=>f,mz.same bV<|dN.refl _⟩,λid hid=>⟨rfl,rfl⟩⟩
   ·obtain⟨c,C,ax⟩:=rt W;obtain⟨S',β',Z,F,k3,k4,k5⟩:=Nh h (v':=s.base+d) J x2 y1 a1 Q W an j x4.at_ c2 hβ u0
    refine .value (by rw[m,a2];simp[G,r4 b off c rfl C u0,zga,zta]) ⟨S',γ,β',Z.put F g,⟨k3,k4,λt B=>cq<|q t B,λid hid b' O=>⟨O,.inl<|cW λe=>h.βγ v id b _ a1 Q<|e ▸ O⟩,j2,λ_ _ f=>f,mz.same bV<|dN.putAt C⟩,λid hid=>⟨rfl,k5 id<|own id hid⟩⟩
 ·
  rename_i L;rw[L] at hx;split at hq<;>try(cases hq;done)
  rename_i p;simp[AR,AC] at hx;have a2:=ak hx.1 hx.2;have X:CR w S (.sl []) (.slice none 0 0):=.sl [] none 0 0 0 (λ_=>undef) (.inl rfl) (zja 0) (λi d U=>by simp[N] at U)<|λi d U=>by simp[N] at U
  obtain⟨cs,H,c1,c2,u,r1,r2⟩:=xW (P:=P) (w:=w) (S:=S) hl a0 (len:=0) ty (l:=[]) rfl (λx hx=>by simp at hx) y1 X y2 (by simpa using p)
  obtain⟨p1,p2,p3,p4,p5,p6,p7⟩:=agm s g<|.own e (s.base+d) l';refine⟨_,hq,p5,p6,p2,p4,λid _ _=>by rw[p1],?_⟩
  rcases zua 0 l'.length with j|j
  ·obtain⟨k,rest,n1,n2,n3⟩:=r2 (by simpa using j)
   obtain⟨S',β',Z,F,k3,k4,k5,k6⟩:=vV h (v:=s.base+d) hβ u0 J (l:=[]++l') (λz hz=>y1 z (by simpa using hz)) (cs:=cs++H) (by rw[cw];exact c1.append c2) (T:=u) (rest:=rest) (cap:=k) (w.drawn+1) (zIc _) (by rw[zFa];exact n1) n2
   rw[zFa] at F;rw[z7b] at F;refine .value (by rw[m,a2];simp[G,n3,zga,zta]) ⟨S',γ,β',Z.put F g,⟨k3,λb o f=>eP<|h.Sb b o f,λt B=>cq<|q t B,λid hid b f=>⟨f,.inl<|dL (h.γn id b f).2⟩,j2,λ_ _ f=>f,mz.same bV dN.grown⟩,λid hid=>⟨rfl,k4 id<|own id hid⟩⟩
  ·have z2:l'=[]:=by apply zcd;omega
   subst z2;obtain⟨r3,_⟩:=r1 j2
   refine .value (by rw[m,a2];simp only[G,r3 rfl,zga,zta];rfl) ⟨S,γ,β,h.put (wq J) g,⟨λ_ _ f=>f,λ_ _ _=>rfl,λt B=>cq<|q t B,λid hid b f=>⟨f,kL.refl _ _⟩,zja _,λ_ _ f=>f,mz.same bV<|dN.refl _⟩,λid hid=>⟨rfl,rfl⟩⟩
def Cm{k:IntKind}(h:∀ x∈l,wt (.int k) x):N l=l:=by
 induction l with
 | nil=>rfl
 | cons x l ih=>
  obtain⟨n,rfl⟩:∃ n,x=.int k n:=by have:=h x zBa;simpa only[wt] using this
  rw[N,ih λy a=>h y<|zsa _ a];rfl
def Ez{x:D}(h:x.stl=some l):x=.st l:=by cases x<;>simp[D.stl] at h;rw[h]
def L6(hE:EnvOk P E)(h:Rp w0 S γ β s a w){F args argTypes ty pos after guard}(a5:∀ t∈s.lkS,F≠some t){R:Type}{K:St->Option R}{r:R}
  (hq:vN E s ⟨F,.call ⟨.builtin .copy,args,argTypes⟩,ty,pos,after,guard⟩ K=some r):∃ s',K s'=some r/\Ku P w0 S γ β s a w ⟨F,.call ⟨.builtin .copy,args,argTypes⟩,ty,pos,after,guard⟩ s':=by
 simp only[vN] at hq;split at hq<;>try(cases hq;done)
 rename_i x y T0 T' Q ax;split at hq<;>try(cases hq;done)
 rename_i k ht;split at hq<;>try(cases hq;done)
 rename_i e id lo n e' bj p' q n' a8 a9;split at hq<;>try(cases hq;done)
 rename_i m f g x1 o' W N;have hx:=aT h x;have hy:=aT h y;rw[a8] at hx;rw[a9] at hy;simp only[AR,AC,if_true] at hx hy;obtain⟨x0,_,b,off,cap,x3,x4,x5⟩:=hx;obtain⟨y0,_,b',bs,bm,y3,y4,y5⟩:=hy;have x3:=ak x0 x3;have y3:=ak y0 y3;obtain⟨bl,w1,w2,rfl⟩:=y5 _ N;have aO:=h.obs bj _ b' N y4;replace hq:=lT aO w1 hq;obtain⟨a2,C,hq,p5,pf,_,pc⟩:=hq;split at hq<;>try(cases hq;done)
 rename_i m' f' y1;cases qx pf;split at hq<;>try(cases hq;done)
 rename_i b0;simp only[Y,zCa] at b0;obtain⟨⟨⟨⟨b1,b2⟩,b3⟩,b5⟩,b7⟩:=b0;have:=ags _ _ b1;subst this;have:=ags _ _ b2;subst this;have:=ags _ _ b3;subst this;have:=ags _ _ b5;subst this;replace hq:=ab hq;obtain⟨l,hl,hq⟩:=hq;replace hq:=ab hq;obtain⟨l',a4,hq⟩:=hq;have:=Ez hl;subst this;have:=Ez a4;subst this;have a6:id ∉ s.lkO:=by simp_all
 obtain⟨mm,z1,z2,rfl⟩:=x5 _ W;simp[fA,aS,zda,Ty.arr.injEq,and_true] at z1;subst z1;have hO:=h.obs id _ b W x4;simp[gM] at hO;obtain⟨o1,o2,o3,cs,o4,o5,o6⟩:=hO;simp[AC] at o5 p5;obtain⟨q1,q2,q3⟩:=o5;obtain⟨r1,r2,X⟩:=p5;simp only[wt] at q1 r1;obtain⟨_,⟨rfl⟩,q4,q5⟩:=q1;obtain⟨_,⟨rfl⟩,r4,r5⟩:=r1;simp[D.flat] at q3 X;rw[Cm q5] at q3;rw[Cm r5] at X;obtain⟨c,hc⟩:∃ c,c=min n' n:=⟨_,rfl⟩;rw[<-hc] at hq;have bt:cs.length=m:=by rw[<-q3.1,q4]
 have bp:C.length=bl:=by rw[<-X.1,r4]
 have eo:cC (.one (.arr m<|.int k)<|.d (.arr m<|.int k)<|.st l) []+lo*(Ty.int k).size=lo:=by simp[cC,aZ,Ty.size]
 obtain⟨O,a1⟩:∃ O,O=cC o' p':=⟨_,rfl⟩;rw[<-a1] at pc y3;have aI:O+q*(Ty.int k).size=O+q:=by simp[Ty.size]
 rw[eo] at x3;rw[aI] at y3;have V:(loadCells ⟨b',O+q,none⟩ c).run P w=.ok ((C.drop q).take c).toArray w:=by
  have:=run_loadCells_list (P:=P) w ⟨b',O+q,none⟩ ((C.drop q).take c) (λj v hv=>by
   have hj:j<c:=by have:=(zra.1 hv).1;simp at this;omega
   rw[zQb hj,zDb] at hv;rw[dO,show O+q+j=O+(q+j) by omega]
   exact pc _ _ hv)
  rwa [show((C.drop q).take c).length=c by simp;omega] at this
 have bh:lo+((C.drop q).take c).toArray.size<=cs.toArray.size:=by simp;omega
 have an:((C.drop q).take c).all nl=true:=by
  rw[zxa];intro v hv;obtain⟨j,hj,rfl⟩:=z3a<|z9b<|zUa hv;have ad:j<l'.length:=by rw[X.1];exact hj
  have T:=X.2 j l'[j] C[j] (zca ad)<|zca hj;obtain⟨nn,hn⟩:∃ nn,l'[j]=.int k nn:=by have:=r5 l'[j]<|zya ad;simpa only[wt] using this
  rw[hn] at T;generalize C[j]=v at T;cases T;rfl
 have ap:=cZ (P:=P) b lo ((C.drop q).take c) 0 w cs.toArray o4 (by simp;omega) an
 obtain⟨u,hu,a7⟩:=jF<|jQ hE ht (by rfl)
 have ba:=cp a7 w;have eT:argTypes=#[T0,T']:=zkc (by simpa using ax)
 have eA:args.map a.eval=#[a.eval x,a.eval y]:=zkc (by simp[Q])
 have a3:execOp a.eval ⟨F,.call ⟨.builtin .copy,args,argTypes⟩,ty,pos,after,guard⟩=(Builtin.copy_ #[T0,T'] ty #[a.eval x,a.eval y] >>= λv=>pure<|.value v):=by rw[<-eA,<-eT];rfl
 have al:c7 w S (l.take lo++((l'.drop q).take c++l.drop (lo+c))) (cs.take lo++((C.drop q).take c++cs.drop (lo+c))):=by
  have part:∀ {A:List D} {B:List Value} (i:Nat),c7 w S A B->c7 w S (A.take i) (B.take i)/\c7 w S (A.drop i) (B.drop i):=λ{A B} i I=>by
   have e:=(zza i A).symm;have M:=I;rw[e] at M;obtain⟨k1,k2⟩:=M.split;rw[zkb,<-e] at *;rcases Nat.le_total i A.length with hi|hi
   ·rw[zsb hi] at k1 k2;exact⟨k1,k2⟩
   ·rw[zvb hi,zvb (by rw[<-I.1];exact hi),zrc hi,zrc (by rw[<-I.1];exact hi)]
    exact⟨I,c7.nil⟩
  exact(part lo q3).1.append<|(part c (part q X).2).1.append (part (lo+c) q3).2
 have H:wt (.arr m<|.int k) (.st<|l.take lo++((l'.drop q).take c++l.drop (lo+c))):=by
  simp only[wt];refine⟨_,rfl,by simp;omega,λz L=>?_⟩
  rcases zJa.1 L with L|L
  ·exact q5 z<|zUa L
  rcases zJa.1 L with L|L
  ·exact r5 z<|z9b<|zUa L
  ·exact q5 z<|z9b L
 have U:(D.st<|l.take lo++((l'.drop q).take c++l.drop (lo+c))).flat=l.take lo++((l'.drop q).take c++l.drop (lo+c)):=by simp[D.flat];simp only[wt] at H;obtain⟨_,⟨rfl⟩,_,t3⟩:=H;exact Cm t3
 have Z:∀ b' o,S b' o->b'≠b:=λb' o b0 e=>o3 o<|e ▸ b0;have J:fk cs.toArray lo ((C.drop q).take c).toArray=(cs.take lo++((C.drop q).take c++cs.drop (lo+c))).toArray:=by
  have e:cs=cs.take lo++((cs.drop lo).take c++(cs.drop lo).drop c):=by rw[zza,zza]
  have e2:(cs.take lo).length=lo:=by rw[zkb];omega
  conv=>lhs;rw[e]
  rw[zHd];have:=jA (cs.take lo) ((cs.drop lo).take c) (cs.drop<|lo+c) ((C.drop q).take c) (by simp;omega)
  rw[e2] at this;exact this
 obtain⟨n1,n2⟩:=h.write (o':=.one (.arr m<|.int k)<|.d (.arr m<|.int k)<|.st<|l.take lo++((l'.drop q).take c++l.drop (lo+c))) W x4 o3 o4 bh (λp=>⟨rfl,rfl⟩) (λt l e=>by cases e) (λ_ _ _ e=>by cases e) (by
  simp[gM];refine⟨o1,o2,o3,cs.take lo++((C.drop q).take c++cs.drop (lo+c)),by rw[iU o4,J],?_,by simp[Ty.size] at *;omega⟩
  simp[AC];refine⟨H,q2,?_⟩;rw[U];exact al.mono (λb' o b0=>cu<|Z b' o b0) λ_ _ hh=>hh)
 obtain⟨f1,f2,f3,f4,f5,f6,f7⟩:=agm (s.setOb id<|some<|.one (.arr m<|.int k)<|.d (.arr m<|.int k)<|.st<|l.take lo++((l'.drop q).take c++l.drop (lo+c))) F<|.d (.int .i64)<|.int .i64 (c:Nat);refine⟨_,hq,f5,f6,f2,f4,λi hi _=>?_,.value (v:=.int .i64 (c:Nat)) (w':=putAt w b lo ((C.drop q).take c).toArray) ?_ ⟨S,γ,β,n1.put (cP _ _) F,?_,λ_ _=>⟨rfl,rfl⟩⟩⟩
 ·rw[f1];simp only[St.setOb];rw[zha];intro e;subst e;rw[x4] at hi;cases hi
 ·rw[a3,x3,y3];simp[zXb] at ap;have e1:=hc.symm;simp[Builtin.copy_,run_underlying hu,Builtin.lenOf,Builtin.firstCells,G,ba,e1,Ty.size,V,ap,goInt]
 ·exact⟨λ_ _ b0=>b0,λb' o b0=>cu<|Z b' o b0,λt ht=>cq<|a5 t ht,λi hi b' a0=>⟨a0,.inl<|cW λe=>a6<|(h.γi id i b x4<|e ▸ a0) ▸ hi⟩,j2,λ_ _ b0=>b0,mz.same bV<|dN.putAt (by first|assumption)⟩
def Fj(f:EnvOk P E)(h:Rp w0 S γ β s a w){o:Oper}(g:Fr E s γ β o)(k:∀ T t,(o.op=.alloc T\/∃ x,o.op=.box T x)->E.L T=some t->aj t=true)(d:∀ t∈s.lkS,o.dst≠some t)(j:∀ T x y,o.op=.store T x y->o.dst=none){R:Type}{K:St->Option R}{r:R}
  (hq:vN E s o K=some r):∃ s',K s'=some r/\Ku P w0 S γ β s a w o s':=by
 have quiet:qv E s o (λv=>K<|s.put o.dst v)=some r->∃ s',K s'=some r/\Ku P w0 S γ β s a w o s':=λhq=>zw f h g (λT t e=>k T t<|.inl e) d hq;obtain⟨l,op,ty,pos,after,guard⟩:=o;cases op
 case store T x y=>exact IW f h d (j T x y rfl) hq
 case box T x=>exact Pp f h g d (λt=>k T t<|.inr ⟨x,rfl⟩) hq
 case makeSlice T x y=>
  cases x
  case tmp i=>exact yH f h g d hq
  all_goals exact quiet hq
 case makeMap T x=>exact C8 f h g d hq
 case mapUpdate T x y z=>exact yI f h hq
 case call c=>
  obtain⟨callee,args,argTypes⟩:=c;cases callee
  case builtin b=>
   cases b
   case append=>exact Fi f h g d hq
   case copy=>exact L6 f h d hq
   all_goals exact quiet hq
  all_goals exact quiet hq
 all_goals exact quiet hq
end
end
def nG{α β R:Type}{x:Option α}{f:α->Option R}{g:α->Option β}{K:β->Option R}(h:∀ a,f a=(g a).bind K):x.bind f=(x.bind g).bind K:=by
 cases x with
 | none=>rfl
 | some a=>exact h a
def Dh{R:Type}:∀ (p:List Nat) (a:AV) (K:AV->Option R),Bj a p K=(Bj a p some).bind K:=by
 intro p
 induction p with
 | nil=>intro a K;cases a<;>rfl
 | cons i p ih=>
  intro a K;cases a<;>simp[Bj]<;>first
   | rfl
   | exact nG λt=>nG λy=>rfl
   | exact nG λb=>ih b K
def rp{R:Type}(o:Ob)(p:List Nat)(K:AV->Option R):gV o p K=(gV o p some).bind K:=by
 cases o with
 | one t v=>exact Dh p v K
 | many t l=>
  cases p with
  | nil=>rfl
  | cons i p=>exact nG λx=>Dh p _ K
 | mp kt vt l=>rfl
 | lp i q=>rfl
 | fv v=>rfl
def Eb{R β:Type}{o:Ob}{p:List Nat}{f:AV->Option R}{g:AV->Option β}{K:β->Option R}(h:∀ v,f v=(g v).bind K):gV o p f=(gV o p g).bind K:=by
 rw[rp,rp _ _ g];cases gV o p some with
 | none=>rfl
 | some v=>exact h v
def LR{α R:Type}{c:Bool}{A A':Option R}{B B':Option α}{K:α->Option R}(h:A=B.bind K)(a:A'=B'.bind K):(bif c then A else A')=(bif c then B else B').bind K:=by all_goals grind
def JI{R:Type}{y:D}{i:Nat}{ts:List Ty}{L:List AV->AV}{K:AV->Option R}:(nr y i ts λr=>K<|L r)=(nr y i ts λr=>some<|L r).bind K:=by rw[lV,lV ts i<|λr=>some<|L r];cases nr y i ts some<;>rfl
def Nt{R:Type}(E:Env)(s:St)(o:Oper)(K:AV->Option R):qv E s o K=(qv E s o some).bind K:=by obtain⟨a,op,ty,pos,after,guard⟩:=o;cases op<;>simp[qv]<;>(repeat' first|rfl|exact rp _ _ _|exact JI|refine Eb λ_=>?_|refine nG λ_=>?_|refine LR ?_ ?_|split)
structure Wk(s s':St):Prop where
 tm:∀ t,s'.tm t=s.tm t\/s'.tm t=.undef
 ob:s'.ob=s.ob
 fresh:s'.fresh=s.fresh
 dead:s'.dead=s.dead
 nt:s'.nt=s.nt
 lkS:s'.lkS=s.lkS
 lkO:s'.lkO=s.lkO
def Wk.refl(s:St):Wk s s:=⟨λ_=>.inl rfl,rfl,rfl,rfl,rfl,rfl,rfl⟩
theorem Wk.trans{a b c:St}(h:Wk a b)(k:Wk b c):Wk a c:=
 ⟨λt=>by
  rcases k.tm t with e|e
  ·rw[e];exact h.tm t
  ·exact .inr e,k.ob.trans h.ob,k.fresh.trans h.fresh,k.dead.trans h.dead,k.nt.trans h.nt,k.lkS.trans h.lkS,k.lkO.trans h.lkO⟩
theorem Wk.put{s s':St}(h:Wk s s')(d:Option Nat){v v':AV}(a:v'=v\/v'=.undef):Wk (s.put d v) (s'.put d v'):=by
 cases d with
 | none=>exact h
 | some d=>
  simp[St.put,h.nt];split
  ·refine⟨λt=>?_,h.ob,h.fresh,h.dead,by first|exact h.nt|rfl,h.lkS,h.lkO⟩
   by_cases e:t=d
   ·simp_all
   ·simp[e,if_false];exact h.tm t
  ·exact h
def Wk.kill(s:St)(d:Option Nat):Wk s (s.put d .undef):=by
 cases d with
 | none=>exact Wk.refl s
 | some d=>
  simp[St.put];split
  ·refine⟨λt=>?_,rfl,rfl,rfl,rfl,rfl,rfl⟩;all_goals grind
  ·exact Wk.refl s
theorem Wk.killD:∀ (l:List Oper) (s:St),Wk s (killD s l)
 | [],s=>Wk.refl s
 | o::l,s=>(Wk.kill s o.dst).trans<|Wk.killD l _
theorem Wk.opA{s s':St}(h:Wk s s')(x:Operand):s'.opA x=s.opA x\/s'.opA x=.undef:=by
 cases x with
 | tmp t=>exact h.tm t
 | const v=>exact .inl rfl
 | global g=>exact .inl rfl
 | func f=>exact .inl rfl
theorem j5{ob:Nat->Option Ob}{t:Ty}:afv ob t .undef=none:=by cases t<;>rfl
def Rp.wk{w0:Root}{S:Nat->Nat->Prop}{γ:Nat->Option Nat}{β:Nat->Option (Nat×Nat)}{s s':St}{a:Act}{w:World}(h:Rp w0 S γ β s a w)(k:Wk s s'):Rp w0 S γ β s' a w:=by
 have e1:=k.ob;have e2:=k.dead;have e3:s'.base=s.base:=by simp[St.base,k.fresh]
 refine⟨h.ext,λt b=>?_,h.nt.trans k.nt.symm,λt b=>?_,?_,h.γn,h.γi,?_,?_,?_,?_,?_,h.Sb,h.So⟩
 ·rw[e1,e2];rcases k.tm t with e|e
  ·rw[e];exact h.tms t b
  ·rw[e];simp[AR]
 ·rcases k.tm t with e|e
  ·rw[e];exact h.tmu t<|k.nt ▸ b
  ·exact e
 ·rw[e1,e2];exact h.obs
 ·rw[e3];exact h.γf
 ·rw[e2];exact h.βn
 ·rw[e2];exact h.βi
 ·rw[e2];exact h.βγ
 ·rw[e3];exact h.βf
section
variable{E:Env}{s s':St}
theorem Wk.toDl(h:Wk s s'):∀ (l:List Operand) (ts:List Ty) {xs:List D},AV.toDl s'.ob ts (l.map s'.opA)=some xs->AV.toDl s.ob ts (l.map s.opA)=some xs
 | [],ts,xs,hx=>by grind [AV.toDl]
 | y::l,ts,xs,hx=>by
  cases ts<;>simp[z4a,AV.toDl] at hx ⊢<;>try(cases hx;done)
  obtain⟨x,a,b⟩:=ab hx;obtain⟨f,c,d⟩:=ab b;rcases h.opA y with e|e
  ·rw[e,h.ob] at a;rw[a,zba,h.toDl l _ c];exact d
  ·simp_all [j5]
theorem Wk.partsD(h:Wk s s')(ty:Nat->Option Ty):∀ (l:List<|Nat×Operand) {xs:List<|Nat×D},Sy.partsD s'.ob s' ty l=some xs->Sy.partsD s.ob s ty l=some xs
 | [],xs,hx=>hx
 | (i,y)::l,xs,hx=>by
  simp[Sy.partsD] at hx ⊢;obtain⟨t,h0,hx⟩:=ab hx;obtain⟨x,a,b⟩:=ab hx;obtain⟨f,c,d⟩:=ab b;rw[h0,zba];rcases h.opA y with e|e
  ·rw[e,h.ob] at a;rw[a,zba,h.partsD ty l c];exact d
  ·simp_all [j5]
theorem Wk.asList(h:Wk s s'){e:Ty}{x:Operand}{l:List D}(hx:(s'.opA x).asList s'.ob e=some l):s'.opA x=s.opA x:=by
 rcases h.opA x with k|k
 ·exact k
 ·simp_all [AV.asList,j5]
theorem Wk.isD(h:Wk s s'){x:Operand}{p:Ty×D}(hx:Sy.isD (s'.opA x)=some p):s'.opA x=s.opA x:=by
 rcases h.opA x with k|k
 ·exact k
 ·simp_all [Sy.isD]
theorem Wk.truth(h:Wk s s'){x:Operand}{b:Bool}(hx:(s'.opA x).truth=some b):s'.opA x=s.opA x:=by
 rcases h.opA x with k|k
 ·exact k
 ·simp_all [AV.truth]
end
section
variable{E:Env}{s s':St}
def Wk.base_eq(h:Wk s s'):s'.base=s.base:=by simp[St.base,h.fresh]
theorem Wk.qv(h:Wk s s'){o:Oper}{v':AV}(hq:Sy.qv E s' o some=some v'):∃ v,Sy.qv E s o some=some v/\(v'=v\/v'=.undef):=by
 obtain⟨V,op,ty,pos,after,guard⟩:=o;have A:=h.ob;have D:=h.base_eq;have same:∀ {x y:Option AV},x=some v'->y=x->∃ v,y=some v/\(v'=v\/v'=.undef):=λhx hy=>⟨v',hy.trans hx,.inl rfl⟩;cases op<;>simp only[Sy.qv] at hq ⊢<;>(try (cases hq;done))
 case move x=> simp only[zda] at hq;exact⟨_,rfl,by rcases h.opA x with e|e<;>simp[<-hq,e]⟩
 case assign x=> simp[zda] at hq;exact⟨_,rfl,by rcases h.opA x with e|e<;>simp[<-hq,e]⟩
 case pick c x y=>
  obtain⟨b,r,a⟩:=ab hq;rw[<-h.truth r,r,zba];cases b
  ·simp only[zIa,if_false,zda] at a ⊢;exact⟨_,rfl,by rcases h.opA y with e|e<;>simp[<-a,e]⟩
  ·simp only[if_true,zda] at a ⊢;exact⟨_,rfl,by rcases h.opA x with e|e<;>simp[<-a,e]⟩
 case alloc T=>rw[D] at hq;exact same hq rfl
 case load T x=>
  rcases h.opA x with e|e
  ·rw[e,A] at hq;exact same hq rfl
  ·rw[e] at hq;cases hfn:E.fnT T<;>rw[hfn] at hq
   ·simp only[cond_false] at hq;obtain⟨t,r,a⟩:=ab hq;cases a
   ·cases hq
 case fieldAddr T x f=>
  obtain⟨t,r,a⟩:=ab hq;rcases h.opA x with e|e
  ·simp_all
  ·simp_all
 case indexAddr T x i=>
  obtain⟨t,r,a⟩:=ab hq;obtain⟨p,j,k⟩:=ab a;have N:=h.isD j;rcases h.opA x with e|e
  ·simp_all
  ·rw[e] at k;all_goals grind [AV.asList,j5]
 case lookup T x i c=>
  obtain⟨t,r,a⟩:=ab hq;rcases h.opA x with e|e
  ·rw[e,A] at a hq;have N:s'.opA i=s.opA i:=by
    split at a<;>try(cases a;done)
    split at a<;>try(cases a;done)
    split at a<;>try(cases a;done)
    split at a<;>try(cases a;done)
    obtain⟨p,j,_⟩:=ab a;exact h.isD j
   simp_all
  ·simp_all
 case field T x f=>
  obtain⟨t,r,a⟩:=ab hq;rcases h.opA x with e|e
  ·simp_all
  ·simp_all
 case index T x i=>
  obtain⟨t,r,a⟩:=ab hq;obtain⟨p,j,k⟩:=ab a;have N:=h.isD j;rcases h.opA x with e|e
  ·simp_all
  ·simp_all
 case binOp op T x y T'=> obtain⟨t,r,a⟩:=ab hq;obtain⟨p,j,k⟩:=ab a;obtain⟨q,z,w⟩:=ab k;grind [h.isD]
 case unOp op T x=> obtain⟨p,j,k⟩:=ab hq;grind [h.isD]
 case convert U T x=> obtain⟨u,r,a⟩:=ab hq;obtain⟨t,W,a⟩:=ab a;obtain⟨p,j,k⟩:=ab a;grind [h.isD]
 case nilCheck x=>
  rcases h.opA x with e|e
  ·simp_all
  ·simp_all
 case extract x i=>
  rcases h.opA x with e|e
  ·simp_all
  ·simp_all
 case build T ps=>
  obtain⟨t,r,a⟩:=ab hq;rw[r,zba];cases t<;>simp only at a ⊢<;>(try (cases a;done))
  case st ts=>
   split at a
   ·rename_i L;rw[zma L];split at a<;>try(cases a;done)
    rename_i O;have key:∀ (l:List<|Nat×Operand),l.all (gR s' ts)=true->l.all (gR s ts)=true/\(l.map λp=>(p.1,s'.opA p.2))=l.map λp=>(p.1,s.opA p.2):=by
     intro l
     induction l with
     | nil=>intro _;exact⟨rfl,rfl⟩
     | cons p l ih=>
      intro B;simp only[zOb,Y] at B;obtain⟨k1,k2⟩:=ih B.2;have j:=B.1;have e:s'.opA p.2=s.opA p.2:=by
       rcases h.opA p.2 with e|e
       ·exact e
       ·unfold gR at j;rw[e] at j;all_goals grind [AV.fits]
      have X:gR s ts p=true:=by simp_all [gR]
      grind
    grind
   ·rename_i L;rw[zha L];obtain⟨l,j,k⟩:=ab a
    simp_all [h.partsD,zba]
  case arr n e=>
   obtain⟨l,j,k⟩:=ab a
   simp_all [h.partsD,zba]
 case buildSlice T n ps=>
  obtain⟨t,r,a⟩:=ab hq;rw[r,zba];cases t<;>simp only at a ⊢<;>(try (cases a;done))
  split at a<;>try(cases a;done)
  rename_i Z;rw[zma Z];obtain⟨d,j,k⟩:=ab a;obtain⟨l,z,w⟩:=ab k
  simp_all [zba,h.partsD]
 case makeSlice T x y=>
  obtain⟨p0,a1,a2⟩:=ab hq;obtain⟨n0,a3,F⟩:=ab a2;split at F<;>try(cases F;done)
  obtain⟨t,a5,G⟩:=ab F;cases t<;>simp only at G<;>(try (cases G;done))
  obtain⟨d,a7,R⟩:=ab G;obtain⟨p,S,Q⟩:=ab R;rw[h.isD a1,h.isD S,D] at hq;exact⟨_,hq,.inl rfl⟩
 case slice T x lo hi mx=>
  cases mx with
  | some m=>cases hq
  | none=>
   obtain⟨t,r,a⟩:=ab hq;cases t<;>simp only at a<;>(try (cases a;done))
   case arr m e=>
    rcases h.opA x with ex|ex
    ·rw[ex] at a hq;rw[A] at hq;have key:(∀ i,lo=some i->s'.opA i=s.opA i)/\(∀ i,hi=some i->s'.opA i=s.opA i):=by
      clear hq;split at a<;>try(cases a;done)
      split at a<;>try(cases a;done)
      obtain⟨M,z,w⟩:=ab a;obtain⟨K,J,a0⟩:=ab w;refine⟨λi hi=>?_,λi hi=>?_⟩
      ·subst hi;obtain⟨p,C,_⟩:=ab z;exact h.isD C
      ·subst hi;obtain⟨p,C,_⟩:=ab J;exact h.isD C
     obtain⟨I,H⟩:=key;clear a;cases lo<;>cases hi<;>simp only at hq ⊢
     ·simp_all
     ·simp_all
     ·simp_all
     ·simp_all
    ·simp_all
   obtain⟨l,j,k⟩:=ab a;obtain⟨M,z,w⟩:=ab k;obtain⟨K,J,a0⟩:=ab w;have ex:=h.asList j;have I:∀ i,lo=some i->s'.opA i=s.opA i:=λi hi=>by subst hi;obtain⟨p,C,_⟩:=ab z;exact h.isD C
   have H:∀ i,hi=some i->s'.opA i=s.opA i:=λi hi=>by subst hi;obtain⟨p,C,_⟩:=ab J;exact h.isD C
   all_goals grind
 case sliceToArrayPointer T x=>
  obtain⟨t,r,a⟩:=ab hq;rcases h.opA x with e|e
  ·simp_all
  ·rw[e] at a;cases t<;>first|(cases a;done)|(simp[AV.asList,j5] at a;done)
 case makeFunc fn first captured=>
  cases fn<;>simp only at hq ⊢<;>(try (cases hq;done))
  split at hq<;>try(cases hq;done)
  rename_i B;have key:∀ (l:List Operand),(l.all λx=>gH<|s'.opA x)=true->(l.all λx=>gH<|s.opA x)=true/\l.map s'.opA=l.map s.opA:=by
   intro l
   induction l with
   | nil=>intro _;exact⟨rfl,rfl⟩
   | cons p l ih=>
    intro B;simp only[zOb,Y] at B;obtain⟨k1,k2⟩:=ih B.2;have j:=B.1;have e:s'.opA p=s.opA p:=by
     rcases h.opA p with e|e
     ·exact e
     ·simp_all [gH]
    simp_all
  grind
 case call c=>
  obtain⟨callee,args,argTypes⟩:=c;cases callee<;>simp only at hq ⊢<;>(try (cases hq;done))
  case value f=>
   cases f<;>simp only at hq ⊢<;>(try (cases hq;done))
   case func f=>
    obtain⟨g,r,a⟩:=ab hq;cases hfr:Nat.beq (E.free f) 0 with
    | false=>rw[hfr] at a;cases a
    | true=>
    rw[hfr] at a;simp[cond_true] at a;obtain⟨xs,j,k⟩:=ab a;rw[r,zba,cond_true,h.toDl _ _ j,zba];rw[D] at k;exact⟨v',k,.inl rfl⟩
   case tmp t=>
    split at hq<;>try(cases hq;done)
    rename_i f l P;obtain⟨g,r,a⟩:=ab hq;cases hfr:(Nat.beq (E.free f) l.length&&dA (wM l)) with
    | false=>rw[hfr] at a;cases a
    | true=>
    rw[hfr] at a;simp[cond_true] at a;obtain⟨xs,j,k⟩:=ab a;have e:s.tm t=.clo f l:=by
     rcases h.opA (.tmp t) with e|e
     ·exact e.symm.trans P
     ·have:s'.tm t=.undef:=e;rw[P] at this;cases this
    rw[e];simp only;rw[r,zba,hfr,cond_true,h.toDl _ _ j,zba];rw[A] at k;exact⟨v',k,.inl rfl⟩
  case builtin b=>
   cases b<;>simp only at hq ⊢<;>(try (cases hq;done))
   case len=>
    obtain⟨T,r,a⟩:=ab hq;obtain⟨t,j,k⟩:=ab a;obtain⟨x,z,w⟩:=ab k;rcases h.opA x with e|e
    ·rw[r,zba,j,zba,z,zba];cases t<;>simp only at w ⊢<;>first
      | (cases w;done)
      | (rw[e,A] at w;exact same w rfl)
      | (rw[e] at w;exact⟨v',w,.inl rfl⟩)
      | exact⟨v',w,.inl rfl⟩
    ·rw[r,zba,j,zba,z,zba];cases t<;>simp only at w ⊢<;>first
      | (cases w;done)
      | (rw[e] at w;simp[AV.asList,j5] at w;done)
      | (rw[e] at w;simp[Sy.isD] at w;done)
      | exact⟨v',w,.inl rfl⟩
   case min=>
    split at hq<;>try(cases hq;done)
    obtain⟨p,j,k⟩:=ab hq;obtain⟨q,z,w⟩:=ab k;rw[h.isD j,h.isD z] at hq;exact same hq rfl
   case max=>
    split at hq<;>try(cases hq;done)
    obtain⟨p,j,k⟩:=ab hq;obtain⟨q,z,w⟩:=ab k;rw[h.isD j,h.isD z] at hq;exact same hq rfl
end
def val(E:Env)(ops:Array Oper)(s:St)(o:Oper):Option AV:=
 if pK s o then none else
 match o.guard with
 | none=>qv E s o some
 | some (j,want)=>((ops[j]?).bind (·.dst)).bind λg=>Bo (s.tm g) (some .gone)<|(s.tm g).truth.bind λc=>if c==want then qv E s o some else some .gone
def seqV(E:Env)(ops:Array Oper):List Oper->St->Option St
 | [],s=>some s
 | o::l,s=>(val E ops s o).bind λv=>seqV E ops l<|s.put o.dst v
section
variable{E:Env}{ops:Array Oper}{s s':St}
def Wk.lkd_eq(h:Wk s s')(o:Oper):pK s' o=pK s o:=by simp[pK,h.lkS]
theorem Wk.val(h:Wk s s'){o:Oper}{v':AV}(hq:Sy.val E ops s' o=some v'):∃ v,Sy.val E ops s o=some v/\(v'=v\/v'=.undef):=by
 unfold Sy.val at hq ⊢;rw[h.lkd_eq] at hq;split at hq<;>try(cases hq;done)
 rename_i b;rw[zha b];cases i:o.guard with
 | none=>rw[i] at hq;exact h.qv hq
 | some p=>
  obtain⟨j,want⟩:=p;rw[i] at hq;simp only at hq ⊢;obtain⟨g,k,a⟩:=ab hq;rw[k,zba];by_cases hgo:s'.tm g=.gone
  ·have e:s'.tm g=s.tm g:=by
    rcases h.tm g with e|e
    ·exact e
    ·simp_all
   rw[hgo,gF] at a;rw[<-e,hgo,gF];exact⟨v',a,.inl rfl⟩
  rw[gG hgo] at a;obtain⟨c,d,f⟩:=ab a;have e:s'.tm g=s.tm g:=h.truth (x:=.tmp g) d;rw[<-e,gG hgo,d,zba];split at f
  ·rename_i l;rw[zma l];exact h.qv f
  ·simp_all
theorem Wk.seqV:∀ (l:List Oper) {s s' t':St},Wk s s'->Sy.seqV E ops l s'=some t'->∃ t,Sy.seqV E ops l s=some t/\Wk t t'
 | [],s,s',t',h,hq=>by simp_all [Sy.seqV,zda]
 | o::l,s,s',t',h,hq=>by simp[Sy.seqV] at hq ⊢;obtain⟨v',a,b⟩:=ab hq;obtain⟨v,c,d⟩:=h.val a;rw[c,zba];exact Wk.seqV l (h.put o.dst d) b
theorem oo:∀ (l l':List Oper) (s:St),Sy.seqV E ops (l++l') s=(Sy.seqV E ops l s).bind (Sy.seqV E ops l')
 | [],l',s=>rfl
 | o::l,l',s=>by
  simp[zrb,Sy.seqV];cases val E ops s o with
  | none=>rfl
  | some v=>exact oo l l' _
theorem agw:∀ (l:List Oper) {s s':St},Wk s s'->Wk (Sy.killD s l) (Sy.killD s' l)
 | [],_,_,h=>h
 | o::l,_,_,h=>agw l<|h.put o.dst<|.inl rfl
theorem mc:∀ (l:List Oper) {s t:St},Sy.seqV E ops l s=some t->Wk t (killD s l)
 | [],s,t,h=>by simp[Sy.seqV,zda] at h;subst h;exact Wk.refl s
 | o::l,s,t,h=>by simp[Sy.seqV] at h;obtain⟨v,c,a⟩:=ab h;have b:=mc l a;refine b.trans ?_;exact agw l<|(Wk.refl s).put o.dst<|.inr rfl
end
section
variable{E:Env}
def iO(o:Oper):Bool:=gU o||(match o.op with|.alloc _=>true|_=>false)
def sn{R:Type}(E:Env)(s:St){o:Oper}(h:iO o=true)(K:St->Option R):vN E s o K=qv E s o λv=>K (s.put o.dst v):=by
 obtain⟨a,op,ty,pos,after,guard⟩:=o;cases op<;>first|rfl|(simp[iO,gU] at h;done)|skip
 rename_i c;obtain⟨callee,args,argTypes⟩:=c;cases callee<;>first|rfl|skip
 rename_i b;cases b<;>first|rfl|(simp[iO,gU] at h)
def ju{R:Type}{s:St}{o:Oper}{K:AV->Option R}{r:R}(h:qv E s o K=some r):∃ v,qv E s o some=some v/\K v=some r:=by rw[Nt] at h;exact ab h
theorem kC(d:Option Nat):∀ (l:List<|Nat×Oper),l=(eI d l).1++(eI d l).2/\∀ p q,(eI d l).2=p::q->sE d p.2=true
 | []=>⟨rfl,λp q h=>by simp[eI] at h⟩
 | p::l=>by
  simp only[eI];split
  ·simp_all
  ·obtain⟨a,b⟩:=kC d l;grind
theorem xR{s:St}{d:Nat}{v:AV}(h:s.tm d=v):s.put (some d) v=s:=by
 simp only[St.put];split
 ·have:(λi=>if i=d then v else s.tm i)=s.tm:=by
   all_goals grind
  rw[this]
 ·rfl
def wc{s:St}{d:Nat}{v:AV}(h:d<s.nt):(s.put (some d) v).tm d=v:=by simp[St.put,h]
theorem kG{v:AV}{b:Bool}(h:v.truth=some b):v=.d .bool (.bool b):=by
 cases v<;>simp[AV.truth] at h<;>try(cases h;done)
 grind [ags,AE]
theorem nR{R:Type}{s:St}{g:Nat}{c want:Bool}(a:(s.tm g).truth=some c){A B:St->Option R}{r:R}
  (h:(if c then(if want then A (s.put (some g)<|.d .bool<|.bool true) else B<|s.put (some g)<|.d .bool<|.bool true) else(if want then B (s.put (some g)<|.d .bool<|.bool false) else A<|s.put (some g)<|.d .bool<|.bool false))=some r):(if c==want then A s else B s)=some r:=by
 have e:=xR<|kG a;all_goals grind
def uZ{d:Option Nat}{o:Oper}(h:sE d o=true):∃ c x y,o.op=.pick c x y:=by cases hop:o.op<;>first|exact⟨_,_,_,rfl⟩|(simp[sE,hop] at h)
def mV{o:Oper}(h:gU o=true):iO o=true:=by simp[iO,h]
def Jx{o:Oper}{c x y:Operand}(h:o.op=.pick c x y):iO o=true:=by simp[iO,gU,h]
theorem xa{ops:Array Oper}:∀ (N:Nat) (R:Type) (l:List<|Nat×Oper) (s:St) (k:St->Option R) (r:R) (m:Nat) (an:Ann),m<=l.length->(∀ p∈l.take m,iO p.2=true/\nk E p.2=false) ->
  ((∀ p∈l.drop m,∀ c x y,p.2.op≠.pick c x y)\/∀ p q,l.drop m=p::q->lE E p.2=false)->ga E N R ops an l s k=some r ->
  ∃ s' z N',seqV E ops ((l.take m).map Prod.snd) s=some s'/\Wk s' z/\ga E N' R ops an (l.drop m) z k=some r:=by
 intro N
 induction N with
 | zero=>intro R l s k r m an _ _ _ h;simp[ga] at h
 | succ N ih=>
  intro R l s k r m an hm hq ht h;cases m with
  | zero=>exact⟨s,s,N+1,rfl,Wk.refl s,by simpa using h⟩
  | succ m=>
   cases l with
   | nil=>simp at hm
   | cons p l=>
    obtain⟨i,o⟩:=p;simp[zOa,Nat.add_le_add_iff_right] at hm;obtain⟨ho,I⟩:=hq (i,o) j2
    simp only at ho I;have a7:∀ p∈l.take m,iO p.2=true/\nk E p.2=false:=λp hp=>hq p (by simp[hp])
    have n:(∀ p∈l.drop m,∀ c x y,p.2.op≠.pick c x y)\/∀ p q,l.drop m=p::q->lE E p.2=false:=by simpa using ht
    have a4:vT E o an=an:=by simp[vT,I]
    have Q:∀ (s:St) (K:St->Option R),Fl E an l s o K=vN E s o K:=λs K=>by simp[Fl,I]
    simp[ga,a4,Q] at h;have step:∀ {v:AV},val E ops s o=some v->ga E N R ops an l (s.put o.dst v) k=some r->∃ s' z N',seqV E ops (((i,o)::l).take (m+1) |>.map Prod.snd) s=some s'/\Wk s' z/\ga E N' R ops an (((i,o)::l).drop<|m+1) z k=some r:=by grind [seqV]
    cases hg:o.guard with
    | some jw=>
     obtain⟨j,want⟩:=jw;rw[hg] at h;simp only at h;split at h<;>try(cases h;done)
     rename_i g bm;split at h<;>try(cases h;done)
     rename_i C;by_cases a2:s.tm g=.gone
     ·simp_all [gF,val,zba]
     rw[gG a2] at h;obtain⟨c,h1,D⟩:=ab h;replace D:=nR (A:=λs=>vN E s o λs'=>ga E N R ops an l s' k) (B:=λs=>ga E N R ops an l (s.put o.dst .gone) k) h1 D;split at D
     ·rename_i hc;rw[sn E s ho] at D;obtain⟨v,a0,P⟩:=ju D
      simp_all [val,zba,gG]
     ·simp_all [val,zba,gG]
    | none=>
     rw[hg] at h;simp only at h;split at h
     ·
      rename_i S;simp[oh,Y] at S;obtain⟨_,f⟩:=S;obtain⟨e1,e2⟩:=kC o.dst l;generalize eI o.dst l=sp at *;obtain⟨a,rest⟩:=sp;simp only at h e1 e2 f;split at h<;>try(cases h;done)
      rename_i _ _ jj w t d hd;simp only[hd] at f;simp only[Y,zea,zCa,zxa] at f;obtain⟨⟨⟨⟨⟨c1,c2⟩,c3⟩,cI⟩,c4⟩,c5⟩:=f;have a6:=e2 _ _ rfl;obtain⟨pc,px,py,a5⟩:=uZ a6;have bl:a.length<m:=by
       rcases zua a.length m with h0|h0
       ·exact h0
       ·exfalso;rcases n with n|n
        ·have:(jj,w)∈l.drop m:=by
          grind
         grind
        ·have e3:l.drop m=a.drop m++(jj,w)::t:=by rw[e1,List.drop_append_of_le_length h0]
         cases hsd:a.drop m with
         | nil=> rw[hsd] at e3;have:=n _ _ e3;have U:w.op=.pick pc px py:=a5;simp[lE,nk,gU,U] at this
         | cons p q=>
          rw[hsd] at e3;have h1:=n _ _ e3;have D:=c4 p<|z9b (i:=m) (by rw[hsd];simp)
          simp[lE,D.1.1,D.2] at h1
      unfold Vi at h;split at h<;>try(cases h;done)
      rename_i C;rw[sn E s ho] at h;obtain⟨v,a0,P⟩:=ju h;rw[hd] at P;obtain⟨c,h5,h6⟩:=ab P;rw[wc c1] at h5;have hv:=kG h5;subst hv;obtain⟨x,F,h8⟩:=ab h6;have u:∀ b,b=c->(s.put (some d)<|.d .bool<|.bool c).put (some d) (.d .bool<|.bool b)=s.put (some d) (.d .bool<|.bool c):=λb hb=>xR (by rw[wc c1,hb])
      have J:∃ X:St->Option Bool,(∀ s2,X s2=qv E s2 w AV.truth)/\ga E N Bool ops .leaf a (s.put (some d)<|.d .bool<|.bool c) X=some x:=by
       cases c
       ·simp[zIa,if_false] at F;rw[u false rfl] at F;exact⟨_,λ_=>rfl,F⟩
       ·simp[if_true] at F;rw[u true rfl] at F;exact⟨_,λ_=>rfl,F⟩
      obtain⟨X,a3,F⟩:=J;obtain⟨s2,ba,N2,Z,ad,M⟩:=ih Bool a _ X x a.length .leaf (zja _) (λp hp=>by rw[zdb] at hp;exact⟨mV (c4 p hp).1.1,(c4 p hp).2⟩) (.inl λp hp=>by simp at hp) F
      rw[zXc] at M;rw[zdb] at Z;have O:X ba=some x:=by cases N2<;>simpa [ga] using M
      rw[a3] at O;obtain⟨v2,al,ap⟩:=ju O;have V:=kG ap;obtain⟨v3,ax,aI⟩:=ad.qv al;have a8:v3=.d .bool (.bool x):=by
       rcases aI with e|e
       ·rw[<-e];exact V
       ·rw[V] at e;cases e
      subst a8;have a9:Wk (s2.put w.dst<|.d .bool<|.bool x) ((killD (s.put (some d)<|.d .bool<|.bool c)<|a.map Prod.snd).put w.dst<|.d .bool<|.bool x):=(mc _ Z).put w.dst<|.inl rfl;have bj:l.length=a.length+1+t.length:=by rw[e1];simp;omega
      obtain⟨s4,bh,N4,aO,h18,h19⟩:=ih R t _ k r (m-a.length-1) an u0 (λp hp=>a7 p (by
       rw[e1,List.take_append,zJa];right;rw[show m-a.length=(m-a.length-1)+1 by omega,zdc]
       exact zsa _ hp)) (by
       have e4:l.drop m=t.drop (m-a.length-1):=by conv=>lhs;rw[e1,List.drop_append,zrc u0,z7b,show m-a.length=(m-a.length-1)+1 by omega,zZc]
       rwa [e4] at n) h8
      obtain⟨s5,a1,h21⟩:=Wk.seqV _ a9 aO;refine⟨s5,bh,N4,?_,h21.trans h18,?_⟩
      ·have H:l.take m=a++(jj,w)::t.take (m-a.length-1):=by
        conv=>lhs;rw[e1,List.take_append,zvb u0,show m-a.length=(m-a.length-1)+1 by omega,zdc]
       have W:val E ops s o=some (.d .bool<|.bool c):=by unfold val;rw[zha C,hg];exact a0
       have T:¬ pK s2 w=true:=by
        have:s2.lkS=s.lkS:=by
         have w1:=(mc _ Z).lkS;have w2:∀ (l:List Oper) (s:St),(killD s l).lkS=s.lkS:=by
          intro l
          induction l with
          | nil=>intro s;rfl
          | cons o l ih=>intro s;rw[killD,ih];exact(agm s o.dst .undef).2.2.2.2.1
         rw[<-w1,w2];exact(agm s (some d) _).2.2.2.2.1
        simp only[pK,this];have:=c5;simp only[pK] at this;rw[this];simp
       have L:val E ops s2 w=some (.d .bool<|.bool x):=by
        unfold val;rw[zha T];have:w.guard=none:=by simpa using c2
        rw[this];exact ax
       simp only[zdc,z4a,seqV,W,zba,H,zob,oo,hd,Z,L];exact a1
      ·have G:l.drop m=t.drop (m-a.length-1):=by
        conv=>lhs;rw[e1,List.drop_append,zrc u0,z7b,show m-a.length=(m-a.length-1)+1 by omega,zZc]
       simp[zZc,G];exact h19
     ·split at h<;>try(cases h;done)
      rename_i C;rw[sn E s ho] at h;obtain⟨v,a0,P⟩:=ju h;exact step (by unfold val;rw[zha C,hg];exact a0) P
end
end Sy
end
noncomputable section
namespace Sy
open Go
open Go.ChangeMaps (setBlock)
section
variable{c f:List Nat}
variable{ro:Option Nat}{nn:Nat}
def oz{c c':Cx}(f:∀ b o,c.S b o->c'.w.cell? ⟨b,o,none⟩=c.w.cell? ⟨b,o,none⟩)(e:∀ b o,c.S b o->c'.S b o){x:AV}{v:Value}(h:AR c x v):AR c' x.still v:=by
 cases x<;>simp only[AV.still]<;>try (simp only[AR];done)
 case d t x=>
  simp only[AR] at h ⊢;rcases h with⟨k,m,n⟩|⟨ts,k,s,m,n⟩
  ·exact .inl ⟨k,m,n.mono f e⟩
  ·exact .inr ⟨ts,k,s,m,n.mono f e⟩
 case own t u l=>
  simp only[AR,AC] at h;obtain⟨h0,q,g,a,cap,i,j,_⟩:=h;refine dC (by simpa only[aj] using q) (by simp only[wt];exact⟨l,rfl,g⟩) ?_
  have r:v=.slice a l.length cap:=ak h0 i;subst r;exact afQ (j.mono f e)
 case fptr t x=> simp only[AR,AC] at h ⊢;obtain⟨h0,g,i,b,off,j,p⟩:=h;exact⟨h0,g,i,b,off,j,p.mono f e⟩
section
variable{P:Program}{E:Env}{w0:Root}{S S':Nat->Nat->Prop}{γ γ':Nat->Option Nat}{β β' β'':Nat->Option (Nat×Nat)}{s sc:St}{a:Act}{w w':World}
def Dv{o':Ob}{x:Option Ob}(h:mP x (some o')=true):∃ o,x=some o/\∀ p,fA o' p=fA o p/\cC o' p=cC o p:=by
 cases x with
 | none=>simp[mP] at h
 | some o=>
  refine⟨o,rfl,λp=>?_⟩;cases o<;>cases o'<;>simp only[mP] at h<;>try(cases h;done)
  ·have:=ags _ _ h;subst this;exact⟨rfl,rfl⟩
  ·have:=ags _ _ h;subst this;cases p<;>exact⟨rfl,rfl⟩
  ·exact⟨rfl,rfl⟩
  ·cases p<;>exact⟨rfl,rfl⟩
def B5{v:Nat}(h:v∈fL s):v ∉ s.dead/\∃ t ty l,t<s.nt/\s.tm t=.own ty v l:=by
 unfold fL at h;obtain⟨t,b,a⟩:=z4c.1 h;split at a<;>try(cases a;done)
 rename_i ty u l d;split at a<;>try(cases a;done)
 rename_i c;cases a;exact⟨by simpa using c,t,ty,l,zRa.1 b,d⟩
theorem BA{v t:Nat}{ty:Ty}{l:List D}(a:t<s.nt)(b:s.tm t=.own ty v l)(c:v ∉ s.dead):v∈fL s:=by grind [fL]
def D5{t:Ty}{id:Nat}{p:List Nat}{cs:List Value}{dead:List Nat}(a:∀ id b,γ id=some b->γ' id=some b)(hl:mP (s.ob id) (sc.ob id)=true)(h:AC ⟨w,S,γ,β,s.ob,dead⟩ (.ptr t id p) cs):AC ⟨w',S',γ',β'',sc.ob,c⟩ (.ptr t id p) cs:=by
 simp only[AC] at h ⊢;obtain⟨b,off,e,f,g⟩:=h;refine⟨b,off,e,a _ _ f,λo d=>?_⟩;rw[d] at hl;obtain⟨i,q1,j⟩:=Dv (o':=o) hl
 simp_all
theorem Aj{dead:List Nat}(d:∀ id b,γ id=some b->γ' id=some b):∀ (l:List AV) (cs:List Value),l.all (Np s.ob sc.ob)=true->pi ⟨w,S,γ,β,s.ob,dead⟩ l cs->pi ⟨w',S',γ',β'',sc.ob,c⟩ l cs
 | [],cs,_,h=>by simpa only[pi] using h
 | x::l,cs,hp,h=>by
  simp only[zOb,Y] at hp;simp only[pi] at h ⊢;obtain⟨v,a,rfl,e,f⟩:=h;refine⟨v,a,rfl,?_,Aj d l a hp.2 f⟩;cases x<;>simp only[Np] at hp<;>first|(cases hp.1;done)|skip
  exact D5 d hp.1 e
theorem Qd{n:Nat}{E G:List Nat}(a:∀ b o,S b o->w'.cell? ⟨b,o,none⟩=w.cell? ⟨b,o,none⟩)(g:∀ b o,S b o->S' b o)(B:∀ id b,γ id=some b->γ' id=some b)
  {x:AV} {v:Value} (j:∀ t u l,x=.own t u l->u ∉ s.dead->u ∉ G->u∈E/\β'' (n+E.idxOf u)=β u/\∀ b e,β u=some (b,e)->∀ m,rL w b=some m->rL w' b=some m)
  (h:AR ⟨w,S,γ,β,s.ob,s.dead⟩ x v):AR ⟨w',S',γ',β'',sc.ob,sc.dead⟩ (sY s sc n E G x) v:=by
 cases x with
 | d t y=>exact oz (c:=⟨w,S,γ,β,s.ob,s.dead⟩) (x:=.d t y) a g h
 | fptr t y=>exact oz (c:=⟨w,S,γ,β,s.ob,s.dead⟩) (x:=.fptr t y) a g h
 | own t u l=>
  simp only[sY];split
  ·exact oz (c:=⟨w,S,γ,β,s.ob,s.dead⟩) (x:=.own t u l) a g h
  ·rename_i z;simp only[zHb,not_or,List.contains_iff_mem] at z;have i:u ∉ s.dead:=z.1;obtain⟨Q,C,D⟩:=j t u l rfl i z.2;simp only[AR,AC] at h ⊢;obtain⟨h0,k,q,A,cap,I,J,K⟩:=h;refine⟨h0,k,q,A,cap,I,J.mono a g,λ_=>?_⟩;rcases K i with r|⟨b,off,r,F,m,L,M⟩
   ·exact .inl r
   ·exact .inr ⟨b,off,r,C.trans F,m,D b _ F m L,M⟩
 | nils=>simpa only[sY,AR,AC] using h
 | ptr t id p=>
  simp only[sY];split
  ·rename_i hl;simp only[AR] at h ⊢;exact⟨h.1,D5 B hl h.2⟩
  ·simp only[AR]
 | mem t id=>simp only[sY,AR]
 | tpo t v ts y=>simp only[sY,AR]
 | st ts l=>simp only[sY,AR]
 | clo f l=>
  simp only[sY];split
  ·rename_i hl;simp only[AR,AC] at h ⊢;obtain⟨h0,caps,k,q⟩:=h;exact⟨h0,caps,k,Aj B l caps hl q⟩
  ·simp only[AR]
 | map kt vt id=>
  simp only[sY];split
  ·rename_i hl;simp only[AR,AC] at h ⊢;obtain⟨h0,b,e,C,D,N,O⟩:=h;refine⟨h0,b,e,B _ _ C,D,N,λo H=>?_⟩;cases hs:s.ob id with
   | none=>rw[hs,H] at hl;simp[mP] at hl
   | some P=>
    obtain⟨l,rfl⟩:=O P hs;rw[hs,H] at hl;cases o<;>simp only[mP] at hl<;>try(cases hl;done)
    simp only[Y] at hl;have e1:=ags _ _ hl.1;have e2:=ags _ _ hl.2
    simp_all
  ·simp only[AR]
 | yld id=> grind [sY,AR,AC]
 | sub sl t id p lo n=>simp only[sY,AR]
 | gone=>simp only[sY,AR]
 | undef=>simp only[sY,AR]
def EH(s:St):yS s []=fL s:=by simp[yS]
def EG{s:St}{v:Nat}:v∈yS s c↔v∈fL s/\v ∉ c:=by simp[yS]
def HI(h:Rp w0 S γ β s a w){sh:Nat->Prop}(I:c=yS s f)(z:sh=λb=>(∃ id,γ id=some b)\/∃ v e,v ∉ c++s.dead/\β v=some (b,e)){m:St}{C:Act}
  (y:∀ j o,m.ob j=some o->s.ob j=some o) (E:m.fresh=s.fresh+1) (d:m.dead=c++s.dead) (G:C.tmps.size=m.nt) (B:∀ t,m.nt<=t->m.tm t=.undef)
  (A:∀ t,t<C.tmps.size->AR ⟨w,S,γ,β,m.ob,c++s.dead⟩ (m.tm t) (C.tmps.getD t undef)):Rp ⟨w,S,sh⟩ S γ β m C w:=by
 have k:∀ {u},u ∉ c++s.dead->u ∉ s.dead:=λq F=>q<|z9a _ F;have g:m.base=(s.fresh+1)*4096:=by simp only[St.base,E]
 have K:s.base+4096=(s.fresh+1)*4096:=by simp only[St.base];omega
 have H:Cx.le ⟨w,S,γ,β,s.ob,s.dead⟩ ⟨w,S,γ,β,m.ob,c++s.dead⟩:=
  ⟨λ_ _ _=>rfl,λ_ _ g=>g,λ_ _ g=>g,λid o x _=>⟨o,y _ _ x,λp=>⟨rfl,rfl⟩,λt l e=>⟨l,e,rfl⟩,λ_ _ l e=>⟨l,e⟩⟩,λu q=>⟨k q,λb e D=>⟨D,λn L=>L⟩⟩⟩
 refine⟨⟨rfl,rfl,rfl,zja _,zja _,λ_ _=>rfl⟩,λt M=>by rw[d];exact A t M,G,B,λid o b x g=>?_,λid b g=>⟨λx=>x.2 (by show sh b;rw[z];exact .inl ⟨id,g⟩),(h.γn id b g).2⟩,h.γi,λid hid=>h.γf id ?_,λu b e q D=>?_,λu P b e J q r=>h.βi u P b e J (k<|d ▸ q)<|k<|d ▸ r,λu id b e q=>h.βγ u id b e<|k<|d ▸ q,λu q=>h.βf u ?_,h.Sb,λb o g _=>g⟩
 ·rw[d];exact(h.obs id o b (y _ _ x) g).mono H rfl λ_ F=>F
 ·omega
 ·have r:u ∉ c++s.dead:=d ▸ q;obtain⟨Q,N,O⟩:=h.βn u b e (k r) D;exact⟨λx=>x.2 (by show sh b;rw[z];exact .inr ⟨u,e,r,D⟩),N,O⟩
 ·omega
theorem G3(h:Rp w0 S γ β s a w){sh:Nat->Prop}(G:c=yS s f)(O:sh=λb=>(∃ id,γ id=some b)\/∃ v e,v ∉ c++s.dead/\β v=some (b,e))(aI:c.length<=4096){a':Act}
  (y:Rp ⟨w,S,sh⟩ S' γ' β' sc a' w') (V:∀ b o,S b o->S' b o) (L:∀ b o,S b o->w'.cell? ⟨b,o,none⟩=w.cell? ⟨b,o,none⟩) (U:∀ id b,γ id=some b->γ' id=some b) (ad:w.heap.size<=w'.heap.size) :
  ∃ β'',Rp w0 S' γ' β'' (pU s sc f) a w'/\Cx.le ⟨w',S',γ',β',sc.ob,sc.dead⟩ ⟨w',S',γ',β'',sc.ob,sc.dead⟩:=by
 have C:∀ u,u∈c->u ∉ s.dead:=λu k=>by rw[G] at k;exact(B5 (EG.1 k).1).1
 have T:∀ {u},u ∉ c++s.dead->u ∉ s.dead:=λk z=>k<|z9a _ z;have P:∀ b,sh b->¬ w0.Old b:=λb d=>by
  rw[O] at d;rcases d with⟨id,d⟩|⟨u,e,k,d⟩
  ·exact(h.γn id b d).1
  ·exact(h.βn u b e (T k) d).1
 have I:∀ b,w0.Old b->(Root.mk w S sh).Old b:=λb d=>⟨zeb d.1 h.ext.sz,λz=>P b z d⟩;have r:∀ u∈c,∀ b e,β u=some (b,e)->(Root.mk w S sh).Old b:=λu k b e d=>by
  refine⟨(h.βn u b e (C u k) d).2.1,λz=>?_⟩;have z:sh b:=z;rw[O] at z;rcases z with⟨id,z⟩|⟨J,K,H,z⟩
  ·exact h.βγ u id b e (C u k) d z
  ·have:=h.βi u J b e K (C u k) (T H) d z
   simp_all
 obtain⟨n,hn⟩:∃ n,n=(sc.fresh+1)*4096:=⟨_,rfl⟩;have an:sc.base+4096=n:=by rw[hn];simp only[St.base];omega
 obtain⟨β'',hβ⟩:∃ β'':Nat->Option (Nat×Nat),β''=λu=>if n<=u then(c[u-n]?).bind (λx=>if c.idxOf x=u-n then β x else none) else β' u:=⟨_,rfl⟩
 have D:∀ u b e,n<=u->β'' u=some (b,e)->∃ x∈c,u=n+c.idxOf x/\β x=some (b,e):=λu b e k j=>by grind
 have A:∀ u,u<n->β'' u=β' u:=λu k=>i4
 have X:∀ x∈c,β'' (n+c.idxOf x)=β x:=λx hx=>by
  have q:c.idxOf x<c.length:=List.idxOf_lt_length_of_mem hx
  simp_all
 have M:Cx.le ⟨w',S',γ',β',sc.ob,sc.dead⟩ ⟨w',S',γ',β'',sc.ob,sc.dead⟩:=
  ⟨λ_ _ _=>rfl,λ_ _ d=>d,λ_ _ d=>d,λid o N _=>⟨o,N,λp=>⟨rfl,rfl⟩,λt l e=>⟨l,e,rfl⟩,λ_ _ l e=>⟨l,e⟩⟩,λu k=>⟨k,λb e j=>⟨(by
   have g:β' u=some (b,e):=j;show β'' u=some (b,e);rcases zua u n with q|B
   ·simp_all
   ·rw[y.βf u u0] at g;cases g),λm hm=>hm⟩⟩⟩
 have R:∀ b,¬ (Root.mk w S sh).Old b->¬ w0.Old b:=λb d z=>d<|I b z;refine⟨β'',⟨⟨y.ext.tape.trans h.ext.tape,y.ext.os.trans h.ext.os,y.ext.output.trans h.ext.output,zva h.ext.sz y.ext.sz,zva h.ext.dr y.ext.dr,λb d=>(y.ext.old b<|I b d).trans<|h.ext.old b d⟩,λt W=>?_,h.nt,λt W=>?_,λid o b N d=>(y.obs id o b N d).mono M rfl λ_ z=>z,λid b d=>⟨R b (y.γn id b d).1,(y.γn id b d).2⟩,y.γi,λid hid=>y.γf id ?_,λu b e k j=>?_,λu J b e K k H j g=>?_,λu id b e k j=>?_,λu k=>?_,y.Sb,λb o d q=>h.So b o (y.So b o d<|I b q) q⟩,M⟩
 ·have Q:t<s.nt:=by rw[<-h.nt];exact W
  simp only[pU,zma Q];rw[<-G,<-hn];refine Qd L V U (λty u l hx k z=>?_)<|h.tms t W;have hm:u∈c:=by rw[G];exact EG.2 ⟨BA Q hx k,z⟩
  refine⟨hm,X u hm,λb e j m Y=>?_⟩;have:=y.ext.old b<|r u hm b e j;simp only[rL,ce] at Y ⊢;grind
 ·have ax:s.nt<=t:=W;simp only[pU];grind
 ·have al:(sc.fresh+1)*4096+4096<=id:=hid;omega
 ·rcases zua u n with q|B
  ·rw[A u q] at j;obtain⟨q1,q2,q3⟩:=y.βn u b e k j;grind
  ·obtain⟨x,hx,_,j⟩:=D u b e B j;obtain⟨q1,q2,q3⟩:=h.βn x b e (C x hx) j;exact⟨q1,zeb q2 ad,λo N hs=>q3 o N<|y.So b o hs<|r x hx b e j⟩
 ·rcases zua u n with q|B
  ·rcases zua J n with F|E
   ·rw[A u q] at j;rw[A J F] at g;exact y.βi u J b e K k H j g
   ·rw[A u q] at j;obtain⟨x,hx,_,g⟩:=D J b K E g;exact z8a (r x hx b K g) (y.βn u b e k j).1
  ·obtain⟨x,hx,ex,j⟩:=D u b e B j;rcases zua J n with F|E
   ·rw[A J F] at g;exact z8a (r x hx b e j) (y.βn J b K H g).1
   ·obtain⟨x',Z,ap,g⟩:=D J b K E g;have:=h.βi x x' b e K (C x hx) (C x' Z) j g;grind
 ·rcases zua u n with q|B
  ·rw[A u q] at j;exact y.βγ u id b e k j
  ·obtain⟨x,hx,ex,j⟩:=D u b e B j;exact λhid=>(y.γn id b hid).1<|r x hx b e j
 ·have H:(sc.fresh+1)*4096+4096<=u:=k;all_goals grind
end
end
section
variable{c:Cx}
variable{ro:Option Nat}{nn:Nat}
section
variable{P:Program}{E:Env}{w0:Root}{S:Nat->Nat->Prop}{γ:Nat->Option Nat}{β:Nat->Option (Nat×Nat)}{s:St}{a:Act}{w:World}
mutual
theorem AC.anyOb{c:Cx}(ob':Nat->Option Ob):∀ (x:AV) (t:Ty) (cs:List Value),AV.fits t x=true->AC c x cs->AC ⟨c.w,c.S,c.γ,c.β,ob',c.dead⟩ x cs
 | .d t' x,t,cs,_,h=>by simpa only[AC] using h
 | .own t' v l,t,cs,_,h=>by simpa only[AC,tok] using h
 | .nils,t,cs,_,h=>by simpa only[AC] using h
 | .st ts' l,t,cs,hf,h=>by
  cases t<;>simp only[AV.fits] at hf<;>first|cases hf|skip
  rename_i ts;simp only[Y] at hf;simp[AC] at h ⊢;exact⟨h.1,h.2.1,jW.anyOb ob' l ts cs hf.2 h.2.2⟩
 | .ptr ..,t,cs,hf,_=>by cases t<;>simp[AV.fits] at hf
 | .fptr ..,t,cs,hf,_=>by cases t<;>simp[AV.fits] at hf
 | .mem ..,t,cs,hf,_=>by cases t<;>simp[AV.fits] at hf
 | .clo ..,t,cs,hf,_=>by cases t<;>simp[AV.fits] at hf
 | .map ..,t,cs,hf,_=>by cases t<;>simp[AV.fits] at hf
 | .sub ..,t,cs,hf,_=>by cases t<;>simp[AV.fits] at hf
 | .yld ..,t,cs,hf,_=>by cases t<;>simp[AV.fits] at hf
 | .gone,t,cs,hf,_=>by cases t<;>simp[AV.fits] at hf
 | .tpo ..,t,cs,hf,_=>by cases t<;>simp[AV.fits] at hf
 | .undef,t,cs,hf,_=>by cases t<;>simp[AV.fits] at hf
theorem jW.anyOb{c:Cx}(ob':Nat->Option Ob):∀ (l:List AV) (ts:List Ty) (cs:List Value),AV.fitss ts l=true->jW c l cs->jW ⟨c.w,c.S,c.γ,c.β,ob',c.dead⟩ l cs
 | [],ts,cs,_,h=>by simpa only[jW] using h
 | a::l,ts,cs,hf,h=>by
  cases ts<;>simp only[AV.fitss] at hf<;>first|cases hf|skip
  simp only[Y] at hf;simp[jW] at h ⊢;obtain⟨c1,c2,rfl,h1,h2⟩:=h;exact⟨c1,c2,rfl,AC.anyOb ob' a _ c1 hf.1 h1,jW.anyOb ob' l _ c2 hf.2 h2⟩
end
theorem j6.anyOb{b:Nat->Option Ob}{kt vt:Ty}:∀ {j:Nat} {l:List D} {a:List MapEntry},j6 c kt vt j l a->j6 ⟨c.w,c.S,c.γ,c.β,b,c.dead⟩ kt vt j l a
 | _,[],[],_=>trivial
 | _,[],_::_,k=>k.elim
 | _,_::_,[],k=>k.elim
 | j,x::l,e::a,k=>by simp[j6] at k ⊢;exact⟨k.1,j6.anyOb k.2⟩
def gn.anyOb{c:Cx}(a:Nat->Option Ob){x:AV}{v:Value}(h:gn c x v):gn ⟨c.w,c.S,c.γ,c.β,a,c.dead⟩ x v:=gn.mono (c:=c) (c':=⟨c.w,c.S,c.γ,c.β,a,c.dead⟩) (λ_ _ _=>rfl) (λ_ _ h=>h) (λ_ _ h=>h) h
theorem gM.anyOb(a:Nat->Option Ob){b:Nat}{o:Ob}(h:gM c b o):gM ⟨c.w,c.S,c.γ,c.β,a,c.dead⟩ b o:=by
 cases o<;>simp[gM] at h ⊢
 case one t v=> obtain⟨e,d,f,cs,g,j,m⟩:=h;exact⟨e,d,f,cs,g,AC.anyOb a v t cs d j,m⟩
 case many t l=>exact h
 case mp kt vt l=> obtain⟨e,d,f,k,g,j⟩:=h;exact⟨e,d,f,k,g,j.anyOb⟩
 case lp i p=> obtain⟨r,e,d,f,g⟩:=h;exact⟨r,e,d,λt n=>(f t n).anyOb a,g⟩
 case fv v=> obtain⟨e,x,d,f,g⟩:=h;exact⟨e,x,d,f.anyOb a,g⟩
def zN{b o:Nat}{r:Loop}(h:w.heap[b]?=some (Obj.loop r)):w.cell? ⟨b,o,none⟩=none:=by simp[World.cell?,h]
def fo{b b':Nat}{x:Obj}(a:b'≠b):(setBlock w b x).heap[b']?=w.heap[b']?:=by simp[setBlock];rw[z8c<|Ne.symm a]
def iW{b:Nat}{x:Obj}(a:b<w.heap.size):(setBlock w b x).heap[b]?=some x:=World.putObj_heap_same a
def ff{b:Nat}{x:Obj}:(setBlock w b x).heap.size=w.heap.size:=by simp[setBlock]
def xZ{L:Nat}{r r':Loop}(hl:w.heap[L]?=some (Obj.loop r))(b o:Nat):(setBlock w L<|.loop r').cell? ⟨b,o,none⟩=w.cell? ⟨b,o,none⟩:=by
 by_cases e:b=L
 ·subst e;rw[zN hl,zN<|iW (zqa.1 hl).1]
 ·simp[World.cell?,fo e]
def Rp.setLp(h:Rp w0 S γ β s a w){id L:Nat}(z:γ id=some L){r:Loop}(hl:w.heap[L]?=some (Obj.loop r))(r':Loop):Rp w0 S γ β (s.setOb id none) a (setBlock w L<|.loop r'):=by
 have j:Cx.le ⟨w,S,γ,β,s.ob,s.dead⟩ ⟨setBlock w L<|.loop r',S,γ,β,(s.setOb id none).ob,s.dead⟩:=by
  refine⟨λb o _=>xZ hl b o,λ_ _ g=>g,λ_ _ g=>g,λi y D _=>⟨y,?_,λp=>⟨rfl,rfl⟩,λt l e=>⟨l,e,rfl⟩,λ_ _ l e=>⟨l,e⟩⟩,λv u=>⟨u,λb' e q=>⟨q,λn B=>?_⟩⟩⟩
  ·simp_all [St.setOb]
  ·have d:b'≠L:=λx=>h.βγ v id b' e u q<|x ▸ z;have k:=B;simp[rL,ce,fo d] at k ⊢;exact k
 refine⟨qg h.ext rfl rfl rfl (by rw[ff];exact zja _) (zja _) (λb' c=>fo λe=>(h.γn id L z).1<|e ▸ c),λt C=>(h.tms t C).mono j,h.nt,h.tmu,λi y b' D c=>?_,λi b' c=>by rw[ff];exact h.γn i b' c,h.γi,h.γf,
  λv b' e u q=>by rw[ff];exact h.βn v b' e u q,h.βi,h.βγ,h.βf,λb' o g=>by rw[ff];exact h.Sb b' o g,h.So⟩
 have m:i≠id/\s.ob i=some y:=by all_goals simp_all [St.setOb]
 have d:b'≠L:=λx=>m.1<|h.γi i id b' c<|x ▸ z;exact(h.obs i y b' m.2 c).mono j (fo d) λ_ A=>A
def Fm.setLp(h:Rp w0 S γ β s a w){s1:St}{L:Nat}{r r':Loop}(hl:w.heap[L]?=some (Obj.loop r))(f:EY r r'):Fm s1 S γ a w S γ a (setBlock w L<|.loop r'):=by
 have d:=(zqa.1 hl).1;refine⟨λ_ _ c=>c,λb o _=>xZ hl b o,λ_ _=>rfl,λi _ b c=>⟨c,?_⟩,by rw[ff];exact zja _,λ_ _ c=>c,mz.same rfl λb=>?_⟩
 ·by_cases e:b=L
  ·subst e;exact .inr ⟨r,r',hl,iW d,f⟩
  ·exact .inl<|fo e
 ·by_cases e:b=L
  ·subst e;exact⟨λc=>(by rw[hl] at c;cases c),λ_=>⟨r',iW d⟩⟩
  ·simp_all [fo]
theorem Rp.leaveY(h:Rp w0 S γ β s a w){id L:Nat}{i:LpI}{p:Option Ex}(m:γ id=some L)(k:gM ⟨w,S,γ,β,s.ob,s.dead⟩ L<|.lp i p):Rp w0 S γ β (leaveY s id i p) a w:=by
 refine⟨h.ext,λt l=>by simp[Sy.leaveY,AR],h.nt,λt l=>rfl,λj o b g d=>?_,h.γn,h.γi,h.γf,h.βn,h.βi,h.βγ,h.βf,h.Sb,h.So⟩
 have c:(if j=id then some (Ob.lp i p) else s.ob j)=some o:=g
 by_cases e:j=id
 ·subst e;rw[zma rfl] at c;cases c;rw[m] at d;cases d;exact k.anyOb _
 ·rw[zha e] at c;exact(h.obs j o b c d).anyOb _
def yL(s:St)(id:Nat)(i:LpI)(p:Option Ex):leaveY (s.setOb id none) id i p=leaveY s id i p:=by simp_all [St.setOb,leaveY]
theorem xQ{c:Cx}:∀ (l:List<|Nat×AV) (l':List<|Nat×Value) (f:Nat->AV) (T:Array Value),l.length=l'.length->(∀ (i p:Nat) (x:AV) (q:Nat) (v:Value),l[i]?=some (p,x)->l'[i]?=some (q,v)->p=q/\AR c x v) ->
  (∀ t,t<T.size->AR c (f t) (T.getD t undef))->(l'.foldl (λtmps p=>tmps.setIfInBounds p.1 p.2) T).size=T.size/\∀ t,t<T.size->AR c (mU l f t) ((l'.foldl (λtmps p=>tmps.setIfInBounds p.1 p.2) T).getD t undef)
 | [],[],f,T,_,_,h=>⟨rfl,h⟩
 | [],_::_,f,T,hl,_,_=>by simp at hl
 | _::_,[],f,T,hl,_,_=>by simp at hl
 | (p,x)::l,(q,v)::l',f,T,hl,hx,h=>by
  obtain⟨e,d⟩:=hx 0 p x q v rfl rfl;subst e;simp[zzc,mU];obtain⟨g,j⟩:=xQ l l' (λt=>if t=p then x else f t) (T.setIfInBounds p v) (by simpa using hl) (λi=>hx<|i+1) λt a=>by
   have b:t<T.size:=by simpa using a
   by_cases e:t=p
   ·simp_all
   ·simp_all [Array.getD,Array.getInternal_eq_getElem,Array.getElem_setIfInBounds_ne,Ne.symm]
  simp_all
theorem vc:∀ (l:List<|Nat×AV) (f:Nat->AV) (n t:Nat),(∀ p∈l,p.1<n)->n<=t->mU l f t=f t
 | [],f,n,t,_,_=>rfl
 | (p,x)::l,f,n,t,h,a=>by
  simp[mU];rw[vc l _ n t (λq hq=>h q (by simp[hq])) a]
  have:=h (p,x) j2
  grind
theorem my(h:Rp w0 S γ β s a w):∀ (l:List Operand) (i:Nat) (x:AV) (v:Value),(l.map s.opA)[i]?=some x->(l.map a.eval)[i]?=some v->AR ⟨w,S,γ,β,s.ob,s.dead⟩ x v
 | [],i,x,v,hx,_=>by simp at hx
 | y::l,0,x,v,hx,b=>by simp at hx b;subst hx;subst b;exact aT h y
 | y::l,i+1,x,v,hx,b=>by simp only[z4a,zlb] at hx b;exact my h l i x v hx b
theorem Fm.less{s s2:St}{S':Nat->Nat->Prop}{γ':Nat->Option Nat}{a':Act}{w':World}(h:Fm s S γ a w S' γ' a' w')(e1:∀ t∈s2.lkS,t∈s.lkS)(e2:∀ t∈s2.lkO,t∈s.lkO):Fm s2 S γ a w S' γ' a' w':=
 ⟨h.sub,h.cell,λt b=>h.slots t<|e1 t b,λid hid=>h.objs id<|e2 id hid,h.sz,h.gam,h.dfs.less e2⟩
def wp(c:Cx)(b:Bool):AR c (.d .bool<|.bool b) (.bool b):=iH _
theorem Oq(hE:EnvOk P E)(h:Rp w0 S γ β s a w){o:Oper}{c:Call}(aO:o.op=.call c){id:Nat}{i:LpI}{Z:List AV}(H:WL s c=some (id,i,Z)){R:Type}{K:AV->St->Option R}{r:R}{an:Ann}(F:evY E an s id i Z K=some r)
  {next:Act->World->Prop} {Q:Exit->Act->World->Prop}
  (hk:∀ y v s' S' γ' β' w',K y s'=some r->Rp w0 S' γ' β' s' a w'->AR ⟨w',S',γ',β',s'.ob,s'.dead⟩ y v->Fm s S γ a w S' γ' a w'->Sk s s'->next (a.put o.dst v) w'):o.wpIn (FW ro) nn P a w next Q:=by
 obtain⟨J,op,ty,pos,after,guard⟩:=o;simp only at aO;subst aO;obtain⟨callee,args,argTypes⟩:=c;unfold WL at H;split at H<;>try(cases H;done)
 rename_i t hc;simp only at hc;subst hc;split at H<;>try(cases H;done)
 rename_i g ht;split at H<;>try(cases H;done)
 rename_i z ba;simp[zda,Prod.mk.injEq] at H;obtain⟨rfl,rfl,rfl⟩:=H;have hA:=aT h<|.tmp t;have ad:AR ⟨w,S,γ,β,s.ob,s.dead⟩ (.yld g) (a.eval<|.tmp t):=by rw[<-ht];exact hA
 simp[AR,AC] at ad;obtain⟨na,L,a9,hγ⟩:=ad;have hv:=ak na a9;have hO:=h.obs g _ L ba hγ;simp only[gM] at hO;obtain⟨rec,hl,⟨p1,p2,p3,p4⟩,I,b2,b1⟩:=hO;unfold evY at F;split at F<;>try(cases F;done)
 rename_i N;obtain⟨bz,bh,bl⟩:=N;have O:args.size=rec.params.size:=by grind
 have bp:=run_yield (P:=P) (args:=(args.map a.eval)) hl (by simpa using O)
 refine⟨λ_ _=>trivial,?_⟩;have a3:((⟨J,.call ⟨.value<|.tmp t,args,argTypes⟩,ty,pos,after,guard⟩:Oper).semAt (FW ro).round a.eval).run P w=.ok (.round L rec.fn ((rec.params.zip<|args.map a.eval).foldl (λtmps (t,a)=>tmps.setIfInBounds t a) rec.tmps) rec.assign rec.body) w:=by
  rw[Oper.semAt_eq _ _ _<|λc=>j2]
  simp only[execOp,resolve,hv];simpa [Deferred.ofValue,invoke,go_sem] using bp
 rw[a3];simp only[Oper.uponIn];refine⟨λh=>(by cases h),?_⟩
 obtain⟨T,hT⟩:∃ T,T=(rec.params.zip<|args.map a.eval).foldl (λtmps (t,a)=>tmps.setIfInBounds t a) rec.tmps:=⟨_,rfl⟩;rw[<-hT];refine RoundIn.mono (R:=λen a6=>∃ v,en=.returned v/\next (a.put J v) a6) ?_<|λen a6 ⟨v,he,hn⟩=>by subst he;exact hn
 refine roundIn_of_wpIn trivial ?_;rw[p3,p4];obtain⟨Y,m⟩:∃ Y,Y=yS s []:=⟨_,rfl⟩;obtain⟨sh,a4⟩:∃ sh:Nat->Prop,sh=λb=>(∃ id,γ id=some b)\/∃ v e,v ∉ Y++s.dead/\β v=some (b,e):=⟨_,rfl⟩;have M:T.size=rec.tmps.size/\∀ t,t<rec.tmps.size->AR ⟨w,S,γ,β,s.ob,Y++s.dead⟩ ((Mz s z g<|args.toList.map s.opA).tm t) (T.getD t undef):=by
  have key:=xQ (c:=⟨w,S,γ,β,s.ob,Y++s.dead⟩) (z.ps.zip<|args.toList.map s.opA) (z.ps.zip<|args.toList.map a.eval) (λt=>if t<z.nt then pz s.ob (z.caps t) else .undef) rec.tmps j2 (λj p x q v hx hv=>by
   rw[List.getElem?_zip_eq_some] at hx hv;refine⟨by have:=hx.1.symm.trans hv.1;simpa using this,?_⟩
   refine AR.mono (c:=⟨w,S,γ,β,s.ob,s.dead⟩) (c':=⟨w,S,γ,β,s.ob,Y++s.dead⟩) ⟨λ_ _ _=>rfl,λ_ _ hb=>hb,λ_ _ hb=>hb,λid o ho _=>⟨o,ho,λp=>⟨rfl,rfl⟩,λt l e=>⟨l,e,rfl⟩,λ_ _ l e=>⟨l,e⟩⟩,λu U=>⟨λhh=>U<|z9a _ hh,λb e he=>⟨he,λn hn=>hn⟩⟩⟩<|my h _ j x v hx.2 hv.2)
   (λt ht=>by
    rw[zma u0]
    exact CK (c:=⟨w,S,γ,β,s.ob,s.dead⟩)<|I t u0)
  have e:T=(z.ps.zip<|args.toList.map a.eval).foldl (λtmps p=>tmps.setIfInBounds p.1 p.2) rec.tmps:=by rw[hT,<-p2,<-Array.foldl_toList,Array.toList_zip,Array.toList_map]
  rw[e];exact key
 have bj:=M.1.trans p1;have RI:Rp ⟨w,S,sh⟩ S γ β (Mz s z g<|args.toList.map s.opA) ⟨T,[]⟩ w:=by
  refine HI h m a4 (λj o hj=>hj) rfl (by rw[m,EH];rfl) bj (λu U=>?_) (λu U=>M.2 u (by rw[<-M.1];exact U))
  have bm:z.nt<=u:=U;show mU _ _ u=.undef;rw[vc _ _ z.nt u (λp hp=>by have h1:=(List.of_mem_zip (a:=p.1) (b:=p.2) hp).1;have:=zxa.1 bh _ h1;simpa using this) bm,zha u0]
 refine hE.cod (some L) (nn-1) ⟨w,S,sh⟩ z.asg an.fst R _ S γ β _ _ w _ r (λl e=>by cases e;exact⟨rec,hl⟩) RI F λe s1 S1 γ1 β1 a1 w1 n1 n2 V X=>?_
 cases e with
 | exit j=>cases X
 | ret=>cases X
 | normal=>
 simp only at X;split at X<;>try(cases X;done)
 rename_i i1 aI;simp[Mb,Exit.then];obtain⟨g1,bt⟩:=n2.objs g zBa L hγ;have al:=n1.obs g _ L aI g1;simp[gM] at al;obtain⟨f,B,_,_,a5,bY⟩:=al;have e1:EY rec f:=by
  rcases bt with k|⟨r,r',k1,k2,W⟩
  ·rw[B,hl] at k;cases k;exact⟨rfl,rfl,rfl,rfl⟩
  ·rw[hl] at k1;cases k1;rw[B] at k2;cases k2;exact W
 refine⟨_,run_beginRound B a5,?_⟩;have a7:=(zqa.1 B).1;have M1:=n1.setLp g1 B { f with state:=.busy };have F1:=Fm.setLp n1 (s1:=s1) B (r':={ f with state:=.busy }) ⟨rfl,rfl,rfl,rfl⟩;have G:(setBlock w1 L<|.loop { f with state:=.busy }).heap[L]?=some (.loop { f with state:=.busy }):=iW a7;show Code.wpIn (FW<|some L) (nn-1) P z.bdy _ a1 (setBlock w1 L<|.loop { f with state:=.busy });generalize setBlock w1 L (.loop { f with state:=.busy })=w2 at M1 F1 G ⊢;have ax:s1.lkO=g::s.lkO:=V.lkO;refine hE.cod (some L) (nn-1) ⟨w,S,sh⟩ z.bdy an.snd R _ S1 γ1 β1 _ a1 w2 _ r (λl e=>by cases e;exact⟨_,G⟩) M1 X λe s2 S2 γ2 β2 a2 w3 m1 m2 m3 m4=>?_
 obtain⟨g2,bv⟩:=m2.objs g (by rw[show(s1.setOb g none).lkO=s1.lkO from rfl,ax];exact zBa) L g1
 obtain⟨A,C,e3⟩:∃ A,w3.heap[L]?=some (Obj.loop A)/\EY rec A:=by
  rcases bv with k|⟨r,r',k1,k2,W⟩
  ·exact⟨_,k.trans G,e1⟩
  ·rw[G] at k1;cases k1;exact⟨r',k2,W.1.trans e1.1,W.2.1.trans e1.2.1,W.2.2.1.trans e1.2.2.1,W.2.2.2.trans e1.2.2.2⟩
 have a8:=(zqa.1 C).1;have F2:=(n2.trans (F1.less (s2:=s1) (λ_ h=>h)<|λ_ h=>h) V.lkS V.lkO).trans (s1:=s1) (m2.less (λ_ h=>h)<|λ_ h=>h) V.lkS V.lkO;have fin:∀ (d:Loop) (p:Option Ex) (v:Value) (y:AV),EY A d->LpD p d->(∀ c,AR c y v)->K y (pU s (leaveY s2 g z p) [])=some r->next (a.put J v) (setBlock w3 L<|.loop d):=by
  intro d p v y e4 hd bs hK;have D:EY rec d:=⟨e4.1.trans e3.1,e4.2.1.trans e3.2.1,e4.2.2.1.trans e3.2.2.1,e4.2.2.2.trans e3.2.2.2⟩;have F3:=F2.trans (Fm.setLp m1 (s1:=s2) C e4) (m3.lkS.trans V.lkS)<|m3.lkO.trans V.lkO;have M2:=m1.setLp g2 C d;have ap:(setBlock w3 L<|.loop d).heap[L]?=some (.loop d):=iW a8;generalize setBlock w3 L (.loop d)=w4 at F3 M2 ap ⊢;have M3:=M2.leaveY (i:=z) (p:=p) g2 (by
   simp only[gM];refine⟨d,ap,⟨by rw[D.1];exact p1,by rw[D.2.1];exact p2,by rw[D.2.2.1];exact p3,by rw[D.2.2.2];exact p4⟩,λu U=>?_,hd⟩
   rw[D.1];exact gn.mono (c:=⟨w,S,γ,β,s.ob,s.dead⟩) F3.cell F3.sub F3.gam<|I u U)
  rw[yL] at M3;obtain⟨bx,B1,B2⟩:=G3 h m a4 (by rw[m,EH];exact bl) M3 F3.sub F3.cell F3.gam F3.sz
  exact hk y v _ S2 γ2 bx w4 hK B1 (bs _) ⟨F3.sub,F3.cell,λ_ _=>rfl,λj hj=>F3.objs j<|zsa _ hj,F3.sz,F3.gam,mz.same rfl F3.dfs.1⟩ ⟨rfl,rfl,rfl⟩
 cases e with
 | normal=>exact⟨_,_,run_endRound none C,_,rfl,fin _ none _ _ ⟨rfl,rfl,rfl,rfl⟩ ⟨rfl,rfl⟩ (λc=>wp c true) m4⟩
 | ret=>exact⟨_,_,run_endRound (some .ret) C,_,rfl,fin _ (some .ret) _ _ ⟨rfl,rfl,rfl,rfl⟩ ⟨rfl,rfl⟩ (λc=>wp c false) m4⟩
 | exit j=>exact⟨_,_,run_endRound (some<|.exit j) C,_,rfl,fin _ (some<|.exit j) _ _ ⟨rfl,rfl,rfl,rfl⟩ ⟨rfl,rfl⟩ (λc=>wp c false) m4⟩
def Rp.later(h:Rp w0 S γ β s a w):Rp w0 S γ β (yE s) a w:=by
 have q:∀ i,((yE s):St).base+4096<=i->s.base+4096<=i:=λi hi=>by exact zva (Nat.add_le_add_right (zKa 4096<|zIc s.fresh) 4096) hi
 exact⟨h.ext,h.tms,h.nt,h.tmu,h.obs,h.γn,h.γi,λi hi=>h.γf i<|q i hi,h.βn,h.βi,h.βγ,λv b=>h.βf v<|q v b,h.Sb,h.So⟩
end
end
end Sy
end
noncomputable section
namespace Sy
open Go
section
variable{l:List<|Nat×Oper}{Q:Exit->Act->World->Prop}
variable{ro:Option Nat}{nn:Nat}
theorem Pq{E:Env}{ops:Array Oper}{N:Nat}{R:Type}{i:Nat}{o:Oper}{s:St}{k:St->Option R}{r:R}(U:o.guard=none)(j:oh E s i o l=true){an:Ann}(h:ga E (N+1) R ops an ((i,o)::l) s k=some r) :
  ∃ e L f g a0 X,l=e++(L,f)::g/\iO o=true/\(∀ p∈e,iO p.2=true)/\iO f=true/\seqV E ops (o::(e.map Prod.snd++[f])) s=some a0/\Wk a0 X/\ga E N R ops an g X k=some r:=by
 simp[ga,U,j,if_true] at h;simp[oh,Y] at j;obtain⟨_,a⟩:=j;obtain⟨e1,e2⟩:=kC o.dst l;generalize eI o.dst l=sp at *;obtain⟨e,rest⟩:=sp;simp only at h e1 e2 a;split at h<;>try(cases h;done)
 rename_i _ _ L f g d T;simp only[T] at a;simp only[Y,zea,zCa,zxa] at a;obtain⟨⟨⟨⟨⟨O,c2⟩,Z⟩,cI⟩,y⟩,c5⟩:=a;have W:=mV Z;have H:=e2 _ _ rfl;obtain⟨pc,px,py,G⟩:=uZ H;unfold Vi at h;split at h<;>try(cases h;done)
 rename_i F;rw[sn E s W] at h;obtain⟨v,h3,P⟩:=ju h;rw[T] at P;obtain⟨c,Q,h6⟩:=ab P;rw[wc O] at Q;have hv:=kG Q;subst hv;obtain⟨x,S,h8⟩:=ab h6;have I:∀ b,b=c->(s.put (some d)<|.d .bool<|.bool c).put (some d) (.d .bool<|.bool b)=s.put (some d) (.d .bool<|.bool c):=λb hb=>xR (by rw[wc O,hb])
 have m:∃ w:St->Option Bool,(∀ s2,w s2=qv E s2 f AV.truth)/\ga E N Bool ops .leaf e (s.put (some d)<|.d .bool<|.bool c) w=some x:=by all_goals grind
 obtain⟨w,D,S⟩:=m;obtain⟨s2,M,N2,C,z,q⟩:=xa N Bool e _ w x e.length .leaf (zja _) (λp hp=>by rw[zdb] at hp;exact⟨mV (y p hp).1.1,(y p hp).2⟩) (.inl λp hp=>by simp at hp) S
 rw[zXc] at q;rw[zdb] at C;have t:w M=some x:=by cases N2<;>simpa [ga] using q
 rw[D] at t;obtain⟨v2,A,B⟩:=ju t;have ap:=kG B;obtain⟨v3,ad,al⟩:=z.qv A;have J:v3=.d .bool (.bool x):=by all_goals simp_all
 subst J;have K:Wk (s2.put f.dst<|.d .bool<|.bool x) ((killD (s.put (some d)<|.d .bool<|.bool c)<|e.map Prod.snd).put f.dst<|.d .bool<|.bool x):=(mc _ C).put f.dst<|.inl rfl;have u:val E ops s o=some (.d .bool<|.bool c):=by unfold val;rw[zha F,U];exact h3
 have V:¬ pK s2 f=true:=by
  have:s2.lkS=s.lkS:=by
   have w1:=(mc _ C).lkS;have w2:∀ (l:List Oper) (s:St),(killD s l).lkS=s.lkS:=by
    intro l
    induction l with
    | nil=>intro s;rfl
    | cons o l ih=>intro s;rw[killD,ih];exact(agm s o.dst .undef).2.2.2.2.1
   rw[<-w1,w2];exact(agm s (some d) _).2.2.2.2.1
  simp_all [pK]
 have n:val E ops s2 f=some (.d .bool<|.bool x):=by
  unfold val
  simp_all
 refine⟨e,L,f,g,_,_,e1,W,λp hp=>mV (y p hp).1.1,Jx G,?_,K,h8⟩
 simp_all [seqV,u,zba,oo,n]
section
variable{P:Program}{E:Env}{w0:Root}{S:Nat->Nat->Prop}{γ:Nat->Option Nat}{β:Nat->Option (Nat×Nat)}{s:St}{a:Act}{w:World}{ops:Array Oper}
def uM{o:Oper}(h:Rp w0 S γ β s a w):(o.guard=none->Region.wanted o (yielded ops a.tmps)=true) ∧
  (∀ j want g c,o.guard=some (j,want)->(ops[j]?).bind (·.dst)=some g->(s.tm g).truth=some c->Region.wanted o (yielded ops a.tmps)=(c==want)) ∧
  ∀ j want g,o.guard=some (j,want)->(ops[j]?).bind (·.dst)=some g->s.tm g=.gone->Region.wanted o (yielded ops a.tmps)=false:=by
 refine⟨λd=>by simp[Region.wanted,d],λj want g c d i e=>?_,λj want g d i e=>?_⟩
 rotate_left
 ·have b:AR ⟨w,S,γ,β,s.ob,s.dead⟩ (s.tm g) (a.eval<|.tmp g):=aT h<|.tmp g;rw[e] at b;have f:a.eval (.tmp g)=undef:=b;simp[Act.eval] at f;simp only[Region.wanted,d,yielded,i,zba];by_cases hlt:g<a.tmps.size
  ·have k:a.tmps[g]?=some undef:=by
    simp_all
   rw[k];rfl
  ·simp_all
 obtain⟨b,_⟩:=rC e<|aT h<|.tmp g;have k:a.tmps[g]?=some (.bool c):=by
  simp[Act.eval] at b;by_cases hlt:g<a.tmps.size
  ·simp_all
  ·exfalso;have:s.tm g=.undef:=h.tmu g (by rw[<-h.nt];exact Nat.le_of_not_lt hlt)
   simp_all
 simp_all [Region.wanted,yielded,zba]
theorem GJ(q:EnvOk P E)(h:Rp w0 S γ β s a w){o:Oper}(x:Fr E s γ β o){v:AV}(hq:val E ops s o=some v) :
  (Region.wanted o (yielded ops a.tmps)=true->fh P o a w λu w'=>∃ S' d k,Rp w0 S' d k (s.put o.dst v) (a.put o.dst u) w'/\Fm s S γ a w S' d (a.put o.dst u) w'/\(∀ id,o.dst≠some (id-s.base)\/id<s.base->d id=γ id/\k id=β id)) ∧
  (Region.wanted o (yielded ops a.tmps)=false->Rp w0 S γ β (s.put o.dst v) (a.put o.dst undef) w/\Fm s S γ a w S γ (a.put o.dst undef) w):=by
 unfold val at hq;split at hq<;>try(cases hq;done)
 rename_i m;have b:∀ t∈s.lkS,o.dst≠some t:=λt i e=>m (by simp[pK,e];exact i)
 have main:qv E s o some=some v->fh P o a w λu w'=>∃ S' d k,Rp w0 S' d k (s.put o.dst v) (a.put o.dst u) w'/\Fm s S γ a w S' d (a.put o.dst u) w'/\(∀ id,o.dst≠some (id-s.base)\/id<s.base->d id=γ id/\k id=β id):=by
  intro hq;obtain⟨s',n,l⟩:=zw q h x (λT t _ i=>q.flat T t i) b (K:=some) (r:=s.put o.dst v) (by rw[Nt,hq];rfl)
  cases n;exact l.2.2.2.2.2
 have skip:Rp w0 S γ β (s.put o.dst .gone) (a.put o.dst undef) w/\Fm s S γ a w S γ (a.put o.dst undef) w:=
  ⟨h.put (by simp[AR]) o.dst,λ_ _ f=>f,λ_ _ _=>rfl,λt i=>cq<|b t i,λ_ _ _ f=>⟨f,kL.refl _ _⟩,zja _,λ_ _ f=>f,mz.same bV<|dN.refl _⟩
 obtain⟨w1,A,B⟩:=uM (ops:=ops) (o:=o) h;cases hg:o.guard with
 | none=> simp_all
 | some p=>
  obtain⟨j,want⟩:=p;rw[hg] at hq;simp only at hq;obtain⟨g,n,l⟩:=ab hq;by_cases hgo:s.tm g=.gone
  ·grind [gF]
  rw[gG hgo] at l;obtain⟨c,y,z⟩:=ab l;all_goals grind
def Ke(E:Env)(s:St)(γ:Nat->Option Nat)(β:Nat->Option (Nat×Nat))(l:List Oper):Prop:=∀ o∈l,Fr E s γ β o
def Fr.keep{o o':Oper}{s':St}{γ':Nat->Option Nat}{β':Nat->Option (Nat×Nat)}(h:Fr E s γ β o')(k:∀ d,o'.dst=some d->o.dst≠some d)(c:s'.fresh=s.fresh)
  (e:∀ id,γ id=none->o.dst≠some (id-s.base)\/id<s.base->s'.ob id=s.ob id) (l:∀ id,o.dst≠some (id-s.base)\/id<s.base->γ' id=γ id/\β' id=β id):Fr E s' γ' β' o':=by
 intro b d a;obtain⟨f,g,i,j⟩:=h b d a
 simp_all [St.base,zyb]
structure Sm(s s':St):Prop where
 lkS:s'.lkS=s.lkS
 lkO:s'.lkO=s.lkO
 fresh:s'.fresh=s.fresh
 nt:s'.nt=s.nt
def Sm.sk{s s':St}(h:Sm s s'):Sk s s':=⟨h.lkS,h.lkO,h.nt⟩
def Sm.refl(s:St):Sm s s:=⟨rfl,rfl,rfl,rfl⟩
theorem Sm.trans{a b c:St}(h:Sm a b)(k:Sm b c):Sm a c:=⟨k.lkS.trans h.lkS,k.lkO.trans h.lkO,k.fresh.trans h.fresh,k.nt.trans h.nt⟩
theorem Sm.put(s:St)(d:Option Nat)(v:AV):Sm s (s.put d v):=by obtain⟨p1,a,f,b,c,e,g⟩:=agm s d v;exact⟨c,e,a,b⟩
def Sm.wk{s s':St}(h:Wk s s'):Sm s s':=⟨h.lkS,h.lkO,h.fresh,h.nt⟩
theorem xI:∀ {l:List Nat},dA l=true->∀ A B x y,l=A++x::B->y∈B->y≠x
 | [],_,A,B,x,y,e,_=>by simp at e
 | a::l,h,A,B,x,y,e,b=>by
  simp[dA,Y,zCa] at h;cases A with
  | nil=> grind
  | cons a' A=> simp[zrb,zDd] at e;exact xI h.2 A B x y e.2 b
def gv{l:List Oper}(h:dA (l.filterMap (·.dst))=true)(A B:List Oper)(o o':Oper)(e:l=A++o::B)(b:o'∈B)(d:Nat)(a:o'.dst=some d):o.dst≠some d:=by
 intro c;subst e;have e2:(A++o::B).filterMap (·.dst)=A.filterMap (·.dst)++d::B.filterMap (·.dst):=by simp_all
 exact xI h _ _ d d e2 (z4c.2 ⟨o',b,a⟩) rfl
def u7(E:Env)(s:St)(o:Oper):St:=match o.op,o.dst with
  | .alloc T,some d=>match E.alOb T with
   | some x=>s.setOb (s.base+d) (some x)
   | none=>s
  | _,_=>s
def uA(E:Env)(o:Oper)(l:List Oper)(s:St):ik E (o::l) s=ik E l (u7 E s o):=rfl
def Rp.freeOb(h:Rp w0 S γ β s a w){id:Nat}(m:γ id=none)(o:Option Ob):Rp w0 S γ β (s.setOb id o) a w:=by
 have c:Cx.le ⟨w,S,γ,β,s.ob,s.dead⟩ ⟨w,S,γ,β,(s.setOb id o).ob,s.dead⟩:=by
  refine⟨λ_ _ _=>rfl,λ_ _ k=>k,λ_ _ k=>k,λi x hx d=>?_,λv l=>⟨l,λb e g=>⟨g,λn j=>j⟩⟩⟩;simp[St.setOb] at hx;split at hx
  ·simp_all
  ·simp_all
 refine⟨h.ext,λi hi=>(h.tms i hi).mono c,h.nt,h.tmu,λi x b hx d=>?_,h.γn,h.γi,h.γf,h.βn,h.βi,h.βγ,h.βf,h.Sb,h.So⟩;simp[St.setOb] at hx;split at hx
 ·simp_all
 ·exact(h.obs i x b hx d).mono c rfl λ_ k=>k
theorem n9(E:Env)(s:St)(o:Oper):u7 E s o=s\/∃ T d t,o.op=.alloc T/\o.dst=some d/\E.alOb T=some t/\u7 E s o=s.setOb (s.base+d) (some t):=by all_goals grind [u7]
def No(h:Rp w0 S γ β s a w)(b:∀ d,γ (s.base+d)=none)(o:Oper):Rp w0 S γ β (u7 E s o) a w/\Sm s (u7 E s o):=by
 rcases n9 E s o with e|⟨T,d,t,_,_,_,e⟩
 ·rw[e];exact⟨h,Sm.refl s⟩
 ·rw[e];exact⟨h.freeOb (b d) _,rfl,rfl,rfl,rfl⟩
def Sm.base_eq{s s':St}(h:Sm s s'):s'.base=s.base:=by simp[St.base,h.fresh]
def BL(l:List Oper){s:St}(h:Rp w0 S γ β s a w)(c:∀ d,γ (s.base+d)=none):Rp w0 S γ β (ik E l s) a w/\Sm s (ik E l s):=by
 induction l generalizing s with
 | nil=>exact And.intro h (Sm.refl s)
 | cons o l ih=>
  rw[uA];obtain⟨e,b⟩:=No (E:=E) h c o;obtain⟨f,g⟩:=ih e (by rw[b.base_eq];exact c)
  exact⟨f,b.trans g⟩
theorem rm:∀ (l:List Oper) {s:St} {d:Nat},(∀ o∈l,o.dst≠some d)->(ik E l s).ob (s.base+d)=s.ob (s.base+d)
 | [],s,d,_=>rfl
 | o::l,s,d,h=>by
  rw[uA];rcases n9 E s o with e|⟨T,a,t,_,e2,_,e⟩
  ·rw[e];exact rm l λo b=>h o (by simp[b])
  ·rw[e];have:=rm l (s:=s.setOb (s.base+a)<|some t) (d:=d) λo b=>h o (by simp[b])
   have c:(s.setOb (s.base+a)<|some t).base=s.base:=rfl;rw[c] at this;rw[this];have f:a≠d:=λe=>h o j2 (by rw[e2,e])
   simp[St.setOb];grind
theorem vZ:∀ (l:List Oper) {s:St} {o:Oper} {T:TypeId} {d:Nat} {t:Ob},dA (l.filterMap (·.dst))=true->o∈l->o.op=.alloc T->o.dst=some d->E.alOb T=some t->(ik E l s).ob (s.base+d)=some t
 | [],_,_,_,_,_,_,h,_,_,_=>by cases h
 | x::l,s,o,T,d,t,b,g,e1,e2,e3=>by
  have c:dA (l.filterMap (·.dst))=true:=by
   rw[List.filterMap_cons] at b;split at b
   ·exact b
   ·simp_all [dA,Y]
  rw[uA];have f:(u7 E s x).base=s.base:=by rcases n9 E s x with e|⟨_,_,_,_,_,_,e⟩<;>rw[e]<;>rfl
  rcases zMa.1 g with rfl|a
  ·rw[<-f,rm l λo' a=>λe=>gv b [] l o o' rfl a d e e2]
   simp_all [u7,e1,e2,e3,St.setOb]
  ·rw[<-f];exact vZ l c a e1 e2 e3
def G8{E:Env}{s0:St}{n:Nat->Option Nat}{m:Nat->Option (Nat×Nat)}(h:Rp w0 S γ β s a w)(j:dA ((l.map Prod.snd).filterMap (·.dst))=true)(i:∀ o∈l.map Prod.snd,Fr E s0 n m o):Rp w0 S γ β (ik E (l.map Prod.snd)<|yE s) a w/\Sk s (ik E (l.map Prod.snd)<|yE s)/\∀ o∈l.map Prod.snd,Fr E (ik E (l.map Prod.snd)<|yE s) γ β o:=by
 have p:(yE s).base=s.base+4096:=by simp[yE,St.base];omega
 obtain⟨k,c⟩:=BL (E:=E) (l.map Prod.snd) h.later<|λd=>h.γf _ u0
 refine⟨k,⟨c.lkS,c.lkO,c.nt⟩,λo' b g d e=>?_⟩;rw[c.base_eq];refine⟨(i o' b g d e).1,h.γf _ u0,h.βf _ u0,λT t e1 e2=>vZ _ j b e1 e e2⟩
theorem B0(q:EnvOk P E):∀ (l b:List Oper) {S:Nat->Nat->Prop} {γ:Nat->Option Nat} {β:Nat->Option (Nat×Nat)} {s:St} {a:Act} {w:World} {s':St},Rp w0 S γ β s a w->Ke E s γ β (l++b)->(∀ (A B:List Oper) o o',l++b=A++o::B->o'∈B->∀ d,o'.dst=some d->o.dst≠some d)->seqV E ops l s=some s' ->
  (∀ S' f i a' w',Rp w0 S' f i s' a' w'->Fm s S γ a w S' f a' w'->Sm s s'->Ke E s' f i b->wpListIn (FW ro) nn P ops Q b a' w')->wpListIn (FW ro) nn P ops Q (l++b) a w
 | [],b,S,γ,β,s,a,w,s',h,m,_,hq,g=>by simp[seqV,zda] at hq;subst hq;exact g S γ β a w h (Fm.refl _ _ _ _ _) (Sm.refl s) (by simpa using m)
 | o::l,b,S,γ,β,s,a,w,s',h,m,K,hq,g=>by
  simp[seqV] at hq;obtain⟨v,L,J⟩:=ab hq;have t:=m o j2
  obtain⟨M,N⟩:=GJ q h t L;have r:∀ o'∈l++b,∀ d,o'.dst=some d->o.dst≠some d:=λo' c=>K [] (l++b) o o' rfl c;have k:∀ (A B:List Oper) x n,l++b=A++x::B->n∈B->∀ d,n.dst=some d->x.dst≠some d:=λA B x n e hx=>K (o::A) B x n (by simp[e]) hx
  have p:=agm s o.dst v;have j:∀ {f:Nat->Option Nat} {i:Nat->Option (Nat×Nat)},(∀ id,o.dst≠some (id-s.base)\/id<s.base->f id=γ id/\i id=β id)->Ke E (s.put o.dst v) f i (l++b):=λg o' c=> (m o' (by simp only[zrb,zMa];exact .inr c)).keep (r o' c) p.2.1 (λid _ _=>by rw[p.1]) g
  simp[zrb,wpListIn];split
  ·rename_i y;refine(bC (M y) λu w' ⟨S',f,i,m1,m2,O⟩=>?_);exact B0 q l b m1 (j O) k J λS2 I H a2 G z C D F=>g S2 I H a2 G z (m2.trans C p.2.2.2.2.1 p.2.2.2.2.2.1) ((Sm.put s o.dst v).trans D) F
  ·rename_i y;obtain⟨m1,m2⟩:=N (by simpa using y)
   exact⟨λ_ _=>trivial,B0 q l b m1 (j λid _=>⟨rfl,rfl⟩) k J λS2 I H a2 G z C D F=>g S2 I H a2 G z (m2.trans C p.2.2.2.2.1 p.2.2.2.2.2.1) ((Sm.put s o.dst v).trans D) F⟩
theorem nE{c:Cx}:∀ (l:List AV) (caps:List Value),l.all gH=true->pi c l caps->l.length=caps.length/\∀ (i:Nat) (x:AV) (v:Value),l[i]?=some x->caps[i]?=some v->AR c x v
 | [],caps,_,h=>by simp_all [pi]
 | y::l,caps,hp,h=>by
  simp[pi] at h;obtain⟨v0,f,rfl,d,g⟩:=h;simp only[zOb,Y] at hp;obtain⟨j,k⟩:=nE l f hp.2 g;refine⟨by simp[j],λi x v hx a=>?_⟩
  cases i with
  | zero=>
   simp at hx a;subst hx;subst a;cases y<;>simp[gH] at hp<;>first|(cases hp.1;done)|skip
   simp only[AC] at d;obtain⟨b,off,e,m⟩:=d;simp only[zDd,and_true] at e;grind [AR,AC,Value.cells]
  | succ i=>simp[zlb] at hx a;exact k i x v hx a
def VP(hE:EnvOk P E)(h:Rp w0 S γ β s a w){o:Oper}{c:Call}(hop:o.op=.call c)(hlk:∀ t∈s.lkS,o.dst≠some t){R:Type}{K:St->Option R}{r:R}{an:Ann}
  (hev:((uk s c).bind λq=>(E.inl q.1).bind λg=>g an R s q.2 λv s'=>K<|s'.put o.dst v)=some r) :
  fh P o a w λu w'=>∃ s' S' γ' β',K s'=some r/\Rp w0 S' γ' β' s' (a.put o.dst u) w'/\Fm s S γ a w S' γ' (a.put o.dst u) w'/\Sk s s':=by
 obtain⟨⟨f,avs⟩,h1,hev1⟩:=ab hev;clear hev;obtain⟨g,h2,hev2⟩:=ab hev1;clear hev1;simp only at h2 hev2;obtain⟨⟨fn,f1,f2,f3⟩,hI⟩:=hE.inl f g h2;have key:∃ vs:List Value,avs.length=vs.length/\(∀ (i:Nat) (x:AV) (v:Value),avs[i]?=some x->vs[i]?=some v->AR ⟨w,S,γ,β,s.ob,s.dead⟩ x v)/\(execOp a.eval o).run P w=.ok (.enter f vs.toArray) w:=by
  clear hev2 hI h2;have hb:¬ fn.body=none:=i4
  have f2' : ¬ fn.name = "runtime.NumGoroutine" := by simpa using f2
  obtain⟨dst,op,ty,pos,after,guard⟩:=o;simp only at hop;subst hop;obtain⟨callee,args,argTypes⟩:=c;simp only[uk] at h1;split at h1<;>try(cases h1;done)
  ·rename_i f';simp only[zda,Prod.mk.injEq] at h1;obtain⟨rfl,rfl⟩:=h1;refine⟨args.toList.map a.eval,j2,my h _,?_⟩
   have hm:args.map a.eval=(args.toList.map a.eval).toArray:=zkc j2
   simp[execOp,resolve,Act.eval,Deferred.ofValue,invoke,callFunc,f1,f2',hb,hm]
  ·rename_i t;split at h1<;>try(cases h1;done)
   rename_i f' l ht;split at h1<;>try(cases h1;done)
   rename_i hp;simp only[zda,Prod.mk.injEq] at h1;obtain⟨rfl,rfl⟩:=h1;have hA:=aT h<|.tmp t;have hA':AR ⟨w,S,γ,β,s.ob,s.dead⟩ (.clo f' l) (a.eval<|.tmp t):=by rw[<-ht];exact hA
   simp only[AR,AC] at hA';obtain⟨na,caps,hcs,hcap⟩:=hA';have hv:=ak na hcs;obtain⟨k1,k2⟩:=nE l caps hp hcap;refine⟨args.toList.map a.eval++caps,by simp[k1],λi x v hx hv'=>?_,?_⟩
   ·rcases zua i (args.toList.map s.opA).length with hi|hi
    ·rw[zab hi] at hx;rw[zab (by simpa using hi)] at hv'
     exact my h _ i x v hx hv'
    ·grind
   ·have hm:args.map a.eval=(args.toList.map a.eval).toArray:=zkc j2
    simp[execOp,resolve,hv,Deferred.ofValue,invoke,callFunc,f1,f2',hb,hm]
 obtain⟨vs,k1,k2,k3⟩:=key;have hc:=hI an R w0 S γ β s a w avs vs _ r h k1 k2 hev2;unfold fh;rw[k3];refine hc.mono λe w' ⟨v,y,s',S',γ',β',e1,e2,e3,e4,e5,e6⟩=>⟨v,e1,s'.put o.dst y,S',γ',β',e2,e3.put e4 o.dst,⟨e5.sub,e5.cell,λt ht=>cq<|hlk t ht,e5.objs,e5.sz,e5.gam,mz.same bV e5.dfs.1⟩,?_⟩;have p:=agm s' o.dst y;exact⟨p.2.2.2.2.1.trans e6.lkS,p.2.2.2.2.2.1.trans e6.lkO,p.2.2.2.1.trans e6.nt⟩
theorem Bb(l:EnvOk P E)(h:Rp w0 S γ β s a w){o:Oper}(e:∀ t∈s.lkS,o.dst≠some t){R:Type}{K:St->Option R}{r:R}{an:Ann}
  (b:Za E an s o (λv s'=>K<|s'.put o.dst v)=some r) {next:Act->World->Prop} 
  (n:∀ u s' S' g j w',K s'=some r->Rp w0 S' g j s' (a.put o.dst u) w'->Fm s S γ a w S' g (a.put o.dst u) w'->Sk s s'->next (a.put o.dst u) w'):o.wpIn (FW ro) nn P a w next Q:=by
 unfold Za at b;split at b<;>try(cases b;done)
 rename_i c f;split at b
 ·rename_i q z;obtain⟨id,i,m⟩:=q;refine Oq l h f z b λy v s' S' g j w' m0 m1 m2 d k=>?_;have p:=agm s' o.dst y;exact n v _ S' g j w' m0 (m1.put m2 o.dst) ⟨d.sub,d.cell,λt x=>cq<|e t x,d.objs,d.sz,d.gam,mz.same bV d.dfs.1⟩ ⟨p.2.2.2.2.1.trans k.lkS,p.2.2.2.2.2.1.trans k.lkO,p.2.2.2.1.trans k.nt⟩
 ·refine bC (VP l h f e b) λu w' ⟨s',S',g,j,m0,m1,m2,d⟩=>?_;grind
theorem Bc(hE:EnvOk P E){Q:Exit->Act->World->Prop}(ap:(ops.toList.all λo=>match o.op with|.store ..=>o.dst.isNone|_=>true)=true):∀ (N:Nat) (R:Type) (l:List<|Nat×Oper) {S:Nat->Nat->Prop} {γ:Nat->Option Nat} {β:Nat->Option (Nat×Nat)} {s:St} {a:Act} {w:World} (k:St->Option R) (r:R) (an:Ann),
  Rp w0 S γ β s a w->Ke E s γ β (l.map Prod.snd)->(∀ (A B:List Oper) o o',l.map Prod.snd=A++o::B->o'∈B->∀ d,o'.dst=some d->o.dst≠some d)->(∀ p∈l,p.2∈ops.toList)->ga E N R ops an l s k=some r ->
  (∀ s' S' γ' β' a' w',Rp w0 S' γ' β' s' a' w'->Fm s S γ a w S' γ' a' w'->Sk s s'->k s'=some r->Q .normal a' w')->wpListIn (FW ro) nn P ops Q (l.map Prod.snd) a w:=by
 intro N
 induction N with
 | zero=>intro R l S γ β s a w k r an _ _ _ _ h;simp[ga] at h
 | succ N ih=>
  intro R l S γ β s a w k r an h Y hd z b hQ;cases l with
  | nil=> simp[ga] at b;exact hQ s S γ β a w h (Fm.refl _ _ _ _ _) (Sk.refl s) b
  | cons p l=>
   obtain⟨i,o⟩:=p;have a1:=Y o j2
   have a5:∀ T x y,o.op=.store T x y->o.dst=none:=λT x y e=>by
    have:=zxa.1 ap o<|z (i,o) j2
    rw[e] at this;simpa using this
   have ad:∀ o'∈l.map Prod.snd,∀ d,o'.dst=some d->o.dst≠some d:=λo' f=>hd [] (l.map Prod.snd) o o' rfl f;have F:∀ (A B:List Oper) x x',l.map Prod.snd=A++x::B->x'∈B->∀ d,x'.dst=some d->x.dst≠some d:=λA B x x' e hx=>hd (o::A) B x x' (by simp[e]) hx
   have m:∀ p∈l,p.2∈ops.toList:=λp hp=>z p (by simp[hp])
   have run:¬ pK s o=true->Fl E an l s o (λs'=>ga E N R ops (vT E o an) l s' k)=some r->o.wpIn (FW ro) nn P a w (wpListIn (FW ro) nn P ops Q<|l.map Prod.snd) Q:=by
    intro q M;have n:∀ t∈s.lkS,o.dst≠some t:=λt V e=>q (by simp[pK,e];exact V)
    unfold Fl at M;split at M
    ·split at M;rename_i aI;refine Bb (K:=λs1=>ga E N R ops (vT E o an) l s1 k) hE h n M λa0 s' S' γ' β' w' m0 m1 m2 C=>?_;have ax:Ke E s' γ' β' (l.map Prod.snd):=λo' f=>by
      obtain⟨p,hp,rfl⟩:=zmb.1 f;have:=zxa.1 aI p hp;exact GR (by simpa using this)
     exact ih R l k r _ m1 ax F m m0 λs2 S2 U O a2 J G H D I=>hQ s2 S2 U O a2 J G (m2.trans H C.lkS C.lkO) (C.trans D) I;split at M<;>try(cases M;done)
     rename_i a4;refine Bb (K:=λs1=>ga E N R ops (vT E o an) l (ik E (l.map Prod.snd)<|yE s1) k) hE h n M λa0 s' S' γ' β' w' m0 m1 m2 C=>?_;obtain⟨q1,q2,q3⟩:=G8 (E:=E) m1 a4 λo' f=>Y o' (by simp only[z4a,zMa];exact .inr f)
     exact ih R l k r _ q1 q3 F m m0 λs2 S2 U O a2 J G H D I=>hQ s2 S2 U O a2 J G (m2.trans H (q2.lkS.trans C.lkS)<|q2.lkO.trans C.lkO) (C.trans<|q2.trans D) I
    obtain⟨s',h1,L⟩:=Fj hE h a1 (λT t _ V=>hE.flat T t V) n a5 M;obtain⟨f1,f2,f3,f4,f5,f6⟩:=L;refine bC f6 λa0 w' ⟨S',γ',β',m1,m2,C⟩=>?_;exact ih R l k r _ m1 (λo' f=>(Y o' (by simp only[z4a,zMa];exact .inr f)).keep (ad o' f) f3 f5 C) F m h1 λs2 S2 U O a2 J G H D I=>hQ s2 S2 U O a2 J G (m2.trans H f1 f2) (Sk.trans ⟨f1,f2,f4⟩ D) I
   obtain⟨w1,J,w3⟩:=uM (ops:=ops) (o:=o) h;cases hg:o.guard with
   | some jw=>
    obtain⟨j,want⟩:=jw;simp[ga,hg] at b;split at b<;>try(cases b;done)
    rename_i g a6;split at b<;>try(cases b;done)
    rename_i q;have n:∀ t∈s.lkS,o.dst≠some t:=λt V e=>q (by simp[pK,e];exact V)
    have p:=agm s o.dst .gone;have alt:(Region.wanted o (yielded ops a.tmps)=true/\(Fl E an l s o λs'=>ga E N R ops (vT E o an) l s' k)=some r)\/(Region.wanted o (yielded ops a.tmps)=false/\ga E N R ops (vT E o an) l (s.put o.dst .gone) k=some r):=by
     by_cases hgo:s.tm g=.gone
     ·grind [gF]
     rw[gG hgo] at b;obtain⟨c,h1,L⟩:=ab b;replace L:=nR (A:=λs=>Fl E an l s o λs'=>ga E N R ops (vT E o an) l s' k) (B:=λs=>ga E N R ops (vT E o an) l (s.put o.dst .gone) k) h1 L;all_goals grind
    rcases alt with⟨hw,L⟩|⟨hw,L⟩
    ·simp[z4a,wpListIn,hw,if_true];exact run q L
    ·simp[z4a,wpListIn,hw,zIa,if_false];refine⟨λ_ _=>trivial,?_⟩;exact ih R l k r _ (h.put (v:=.gone) (val:=undef) (by simp[AR]) o.dst) (λo' f=>(Y o' (by simp only[z4a,zMa];exact .inr f)).keep (ad o' f) p.2.1 (λid _ _=>by rw[p.1]) λid _=>⟨rfl,rfl⟩) F m L λs2 S2 U O a2 J G H D I=>hQ s2 S2 U O a2 J G (Fm.trans (s1:=s.put o.dst .gone) ⟨λ_ _ hb=>hb,λ_ _ _=>rfl,λt V=>cq<|n t V,λ_ _ _ hb=>⟨hb,kL.refl _ _⟩,zja _,λ_ _ hb=>hb,mz.same bV<|dN.refl _⟩ H p.2.2.2.2.1 p.2.2.2.2.2.1) ((Sm.put s o.dst .gone).sk.trans D) I
   | none=>
    by_cases hgu:oh E s i o l=true
    ·obtain⟨X,jj,pk,W,s5,s3,e1,q1,q2,q3,q4,Z,q6⟩:=Pq hg hgu b;subst e1;have el:((i,o)::(X++(jj,pk)::W)).map Prod.snd=(o::(X.map Prod.snd++[pk]))++W.map Prod.snd:=j2
     rw[el] at Y hd ⊢;refine B0 hE _ _ h Y hd q4 λS2 U O a2 J G H D I=>?_;refine ih R W k r an (G.wk Z) (λo' f=>?_) (λA B x x' e hx=>hd ((o::(X.map Prod.snd++[pk]))++A) B x x' (by rw[e];simp) hx) (λp hp=>z p (by simp[hp])) q6 λs2 u γ3 β3 a3 w3 m1 m2 C m4=>hQ s2 u γ3 β3 a3 w3 m1 (H.trans m2 (Z.lkS.trans D.lkS)<|Z.lkO.trans D.lkO) ((D.trans<|Sm.wk Z).sk.trans C) m4
     have:=I o' f;intro hc d aO;obtain⟨r1,r2,r3,r4⟩:=this hc d aO;rw[Z.base_eq,Z.ob];exact⟨r1,r2,r3,r4⟩
    ·have al:oh E s i o l=false:=by simpa using hgu
     simp only[ga,hg,al,zIa,if_false] at b;split at b<;>try(cases b;done)
     rename_i q;simp[z4a,wpListIn,w1 hg,if_true];exact run q b
end
end
def vU{s:St}{d:Option Nat}{v:AV}{x:Operand}(h:∀ t,d=some t->x≠.tmp t):(s.put d v).opA x=s.opA x:=by
 cases x with
 | tmp t=>
  cases d with
  | none=>rfl
  | some d=>
   have a:t≠d:=λe=>h d rfl (by rw[e])
   all_goals grind [St.opA,St.put]
 | const v=>rfl
 | global g=>rfl
 | func f=>rfl
section
variable{E:Env}{s s':St}
theorem mS(a:s'.ob=s.ob)(ty:Nat->Option Ty):∀ (l:List<|Nat×Operand),(∀ p∈l,s'.opA p.2=s.opA p.2)->partsD s'.ob s' ty l=partsD s.ob s ty l
 | [],_=>rfl
 | (i,x)::l,h=>by
  have ih:=mS a ty l<|λp hp=>h p (by simp[hp])
  simp_all [partsD,ih]
theorem sr(ts:List Ty):∀ (l:List<|Nat×Operand),(∀ p∈l,s'.opA p.2=s.opA p.2)->l.all (gR s' ts)=l.all (gR s ts)
 | [],_=>rfl
 | p::l,h=>by simp[zOb,sr ts l (λq hq=>h q (by simp[hq])),gR,h p j2]
def FF:∀ (l:List<|Nat×Operand),(∀ p∈l,s'.opA p.2=s.opA p.2)->(l.map λp=>(p.1,s'.opA p.2))=l.map λp=>(p.1,s.opA p.2):=λl h=> zqc λp hp=>by rw[h p hp]
def xS{o:Oper}(a:s'.ob=s.ob)(q:s'.fresh=s.fresh)(h:∀ x∈o.op.operands,s'.opA x=s.opA x):qv E s' o some=qv E s o some:=by
 have d:s'.base=s.base:=by simp[St.base,q]
 obtain⟨l,op,ty,pos,after,guard⟩:=o;have parts:∀ ps:Array<|Nat×Operand,(∀ x∈(ps.toList.map Prod.snd).toArray,s'.opA x=s.opA x)->∀ p∈ps.toList,s'.opA p.2=s.opA p.2:=λps hp p hm=>hp p.2 (by rw[List.mem_toArray];exact zEb hm)
 cases op
 case move x=>simp[qv,h x (by simp[Op.operands])]
 case assign x=>simp[qv,h x (by simp[Op.operands])]
 case pick c x y=>simp[qv,h c (by simp[Op.operands]),h x (by simp[Op.operands]),h y (by simp[Op.operands])]
 case alloc T=>simp[qv,d]
 case build T ps=> have hp:=parts ps h;simp[qv,mS a _ _ hp,sr _ _ hp,FF _ hp]
 case buildSlice T n ps=> have hp:=parts ps h;simp[qv,mS a _ _ hp,d]
 case makeSlice T x y=>simp[qv,h x (by simp[Op.operands]),h y (by simp[Op.operands]),d]
 case load T x=>simp[qv,h x (by simp[Op.operands]),a]
 case lookup T x i c=>simp[qv,h x (by simp[Op.operands]),h i (by simp[Op.operands]),a]
 case nilCheck x=>simp[qv,h x (by simp[Op.operands])]
 case binOp op T x y T'=>simp[qv,h x (by simp[Op.operands]),h y (by simp[Op.operands])]
 case unOp op T x=>simp[qv,h x (by simp[Op.operands])]
 case convert U T x=>simp[qv,h x (by simp[Op.operands])]
 case makeFunc fn x y=>
  have u:∀ z∈y.toList,s'.opA z=s.opA z:=λz e=>h z (by simp[Op.operands,Array.mem_append];exact .inr (by simpa using e))
  have e1:(y.toList.all λz=>gH<|s'.opA z)=y.toList.all λz=>gH (s.opA z):=by grind
  have e2:y.toList.map s'.opA=y.toList.map s.opA:=zqc u;simp[qv,e1,e2]
 case slice T x lo hi mx=>
  have e0:=h x (by simp[Op.operands])
  cases mx with
  | some m=>simp[qv]
  | none=>
   cases lo with
   | none=>
    cases hi with
    | none=>simp[qv,e0,a]
    | some j=>simp[qv,e0,a,h j (by simp[Op.operands])]
   | some i=>
    cases hi with
    | none=>simp[qv,e0,a,h i (by simp[Op.operands])]
    | some j=>simp[qv,e0,a,h i (by simp[Op.operands]),h j (by simp[Op.operands])]
 case sliceToArrayPointer T x=>simp[qv,h x (by simp[Op.operands]),a]
 case fieldAddr T x f=>simp[qv,h x (by simp[Op.operands])]
 case field T x f=>simp[qv,h x (by simp[Op.operands])]
 case indexAddr T x i=>simp[qv,h x (by simp[Op.operands]),h i (by simp[Op.operands]),a]
 case index T x i=>simp[qv,h x (by simp[Op.operands]),h i (by simp[Op.operands])]
 case extract x i=>simp[qv,h x (by simp[Op.operands])]
 case call c=>
  obtain⟨callee,args,argTypes⟩:=c;have k:∀ z∈args.toList,s'.opA z=s.opA z:=λz e=>h z (by simp[Op.operands,Call.operands,Array.mem_append];exact .inr (by simpa using e))
  have e2:args.toList.map s'.opA=args.toList.map s.opA:=zqc k;cases callee with
  | invoke r m=>rfl
  | value f=>
   cases f with
   | tmp t=>
    have e3:s'.tm t=s.tm t:=h (.tmp t) (by simp[Op.operands,Call.operands])
    simp[qv,e2,e3,a]
   | func f=>simp[qv,e2,a,d]
   | const v=>rfl
   | global g=>rfl
  | builtin b=>
   cases b<;>first|rfl|skip
   case len=>
    simp[qv];cases hT:argTypes[0]? with
    | none=>rfl
    | some T=>
     cases hx:args[0]? with
     | none=>rfl
     | some x=> have:=k x<|zyc.2<|zwc hx;simp[zba,a];all_goals grind
   case min=> simp[qv];all_goals grind
   case max=> simp[qv];all_goals grind
 all_goals rfl
def BO{s:St}{d:Option Nat}{v:AV}{t:Nat}(h:d≠some t):(s.put d v).tm t=s.tm t:=by
 have:=vU (s:=s) (d:=d) (v:=v) (x:=.tmp t)<|λu a e=>h (by cases e;exact a)
 exact this
def Iy{ops:Array Oper}{o:Oper}{d:Option Nat}{v:AV}(h:∀ t,d=some t->t ∉ o.looksAt ops):val E ops (s.put d v) o=val E ops s o:=by
 obtain⟨p1,b,f,i,c,k,l⟩:=agm s d v;have e1:pK (s.put d v) o=pK s o:=by simp[pK,c]
 have e2:qv E (s.put d v) o some=qv E s o some:=xS p1 b λx hx=>vU λt a e=>h t a (by subst e;exact List.mem_append_left _<|z4c.2 ⟨.tmp t,by simpa using hx,rfl⟩)
 unfold val;rw[e1,e2];cases hg:o.guard with
 | none=>rfl
 | some p=>
  obtain⟨j,want⟩:=p;simp only;cases hgd:(ops[j]?).bind (·.dst) with
  | none=>rfl
  | some g=>
   have e3:(s.put d v).tm g=s.tm g:=BO λe=>h g e (by unfold Oper.looksAt;rw[hg];exact z9a _ (by simp[hgd]))
   simp_all
def D6{s:St}{x y:Option Nat}(v u:AV)(h:∀ d,x=some d->y≠some d):(s.put x v).put y u=(s.put y u).put x v:=by
 cases x with
 | none=>rfl
 | some d=>
  cases y with
  | none=>rfl
  | some e=>
   have b:d≠e:=λa=>h d rfl (a ▸ rfl);by_cases h1:d<s.nt
   ·by_cases h2:e<s.nt
    ·simp[St.put,h1,h2,if_true];all_goals grind
    ·grind [St.put]
   ·grind [St.put]
end
section
variable{l:List Oper}
variable{ro:Option Nat}{nn:Nat}
section
variable{E:Env}{ops:Array Oper}{md:Region.Mode}
def Ey(E:Env)(ops:Array Oper)(i:Nat)(K:St->Prop)(s:St):Prop:=
 match ops[i]? with
 | none=>K s
 | some o=>∃ v,val E ops s o=some v/\K (s.put o.dst v)
def I0(E:Env)(md:Region.Mode)(ops:Array Oper)(n:Nat)(L:Array Bool->St->Prop):Nat->Array Bool->St->Prop
 | 0,a,s=>L a s
 | f+1,a,s=>Region.ready md ops a≠[]/\∀ i∈Region.ready md ops a,i<n/\Ey E ops i (I0 E md ops n L f<|a.setIfInBounds i true) s
def pu(md:Region.Mode)(ops:Array Oper)(n:Nat):Prop:=∀ a i,HeadInv md ops n a->i<n->a.getD i true=false->∀ t,n<=t->t ∉ Region.ready md ops a
theorem xn{n i:Nat}{x:Oper}{v:AV}{L:Array Bool->St->Prop}(hi:ops[i]?=some x)(C:pu md ops n)(q:i<n)
  (m:∀ a s,L a s->∀ j∈Region.ready md ops a,n<=j) :
  ∀ (f:Nat) (a:Array Bool) (s:St),HeadInv md ops n a ->
   (∀ j p,j<n->ops[j]?=some p->j≠i->a.getD j true=false->(∀ e∈p.after,Region.binds md e=true->e.on≠i)->x.apart ops p=true) ->
   i∈Region.ready md ops a->val E ops s x=some v ->
   I0 E md ops n L f (a.setIfInBounds i true) (s.put x.dst v)->I0 E md ops n L (f+1) a s:=by
 intro f
 induction f with
 | zero=>
  intro a s inv _ l G H;have g:=(mem_ready.1 l).1;refine⟨λh=>(by rw[h] at l;cases l),λj o=>?_⟩
  have c:j<n:=by
   rcases zua j n with h|h
   ·exact h
   ·exact z8a o<|C _ _ inv q g j h
  refine⟨c,?_⟩;by_cases hji:j=i
  ·simp_all [Ey]
  ·have:=m _ _ H j<|ready_mono o hji;omega
 | succ f ih=>
  intro a s inv b l G H;have g:=(mem_ready.1 l).1;refine⟨λh=>(by rw[h] at l;cases l),λj o=>?_⟩
  have c:j<n:=by
   rcases zua j n with h|h
   ·exact h
   ·exact z8a o<|C _ _ inv q g j h
  refine⟨c,?_⟩;by_cases hji:j=i
  ·simp_all [Ey]
  ·have y:=(H.2 j<|ready_mono o hji).2;obtain⟨r,p,w,D⟩:=mem_ready.1 o;have t:∀ e∈p.after,Region.binds md e=true->e.on≠i:=λe F O heq=>by
    grind
   obtain⟨a1,a2,J⟩:=Oper.apart_spec<|b j p c w hji r t;unfold Ey at y ⊢;rw[w] at y ⊢;obtain⟨u,I,N⟩:=y;rw[Iy a1] at I;refine⟨u,I,ih (a.setIfInBounds j true) (s.put p.dst u) (inv.set o c) (λk ok A M z g B=>?_) (ready_mono l<|Ne.symm hji) ?_ ?_⟩
   ·refine b k ok A M z ?_ B;by_cases hjk:j=k
    ·simp_all
    ·simp_all
   ·rw[Iy J];exact G
   ·rw[Array.setIfInBounds_comm _ _ hji,D6 u v<|λd K F=>a2 d F K];exact N
theorem Dk{n g:Nat}{Lq:St->Prop}(m:pu md ops n) :
  ∀ (l:List Oper) (k:Nat) (a:Array Bool) (s s':St),(∀ j,j<l.length->l[j]?=ops[k+j]?)->k+l.length=n->HeadInv md ops n a ->
  Region.lexHead md ops g l.length k a=true->seqV E ops l s=some s'->Lq s' ->
  I0 E md ops n (λb s'=>Region.seqB md ops g n b=true/\Lq s') l.length a s
 | [],k,a,s,s',_,i,_,e,h,hL=>by
  have:k=n:=by simpa using i
  subst this;simp[seqV,zda] at h;subst h;exact⟨by simpa [Region.lexHead] using e,hL⟩
 | o::l,k,a,s,s',hl,i,inv,e,h,hL=>by
  have h0:ops[k]?=some o:=by simpa using(hl 0 j2).symm
  simp[zOa,Region.lexHead,Y] at e;obtain⟨⟨t,r⟩,f⟩:=e;have c:k<n:=i4
  have d:k∈Region.ready md ops a:=by simpa using t
  simp[seqV] at h;obtain⟨v,p,q⟩:=ab h;exact xn h0 m c (λb s' hL=>seqB_ready hL.1) l.length a s inv (λj u _=>Region.free_spec h0 r j u) d p
   (Dk m l (k+1) _ _ s' (λj w=>by have:=hl (j+1) (by simp;omega);simpa [zNb,zhc 1 j] using this) (by simp[zOa] at i;omega) (inv.set d c) f q hL)
end
section
variable{P:Program}{E:Env}{w0:Root}{ops:Array Oper}
theorem jf(B:EnvOk P E){md:Region.Mode}{n g:Nat}{L:Array Bool->St->Prop}{Q:Exit->Act->World->Prop}{s0:St}{S0:Nat->Nat->Prop}{γ0:Nat->Option Nat}{a0:Act}{w1:World}
  (C:∀ (i j:Nat) (K c:Oper),i≠j->ops[i]?=some K->ops[j]?=some c->∀ d,c.dst=some d->K.dst≠some d)
  (hL:∀ b s S γ β a w,Rp w0 S γ β s a w->Fm s0 S0 γ0 a0 w1 S γ a w->Sm s0 s->(∀ j c,ops[j]?=some c->b.getD j true=false->Fr E s γ β c)->L b s->wpAnyIn (FW ro) nn P md ops Q g b a w) :
  ∀ (f:Nat) (b:Array Bool) (s:St) (S:Nat->Nat->Prop) (γ:Nat->Option Nat) (β:Nat->Option (Nat×Nat)) (a:Act) (w:World),Rp w0 S γ β s a w->Fm s0 S0 γ0 a0 w1 S γ a w->Sm s0 s ->
   (∀ j c,ops[j]?=some c->b.getD j true=false->Fr E s γ β c)->I0 E md ops n L f b s->wpAnyIn (FW ro) nn P md ops Q (f+g) b a w
 | 0,b,s,S,γ,β,a,w,h,t,l,e,x=>by rw[zbb];exact hL _ _ _ _ _ _ _ h t l e x
 | f+1,b,s,S,γ,β,a,w,h,t,l,e,x=>by
  rw[show f+1+g=(f+g)+1 by omega]
  refine⟨λh0=>z8a h0 x.1,λi hi=>?_⟩;obtain⟨_,k⟩:=x.2 i hi;have G:=(mem_ready.1 hi).1;unfold Ey at k;unfold wpOpIn;cases ho:ops[i]? with
  | none=> obtain⟨_,o,r,_⟩:=mem_ready.1 hi;rw[ho] at r;cases r
  | some o=>
   rw[ho] at k;simp only at k ⊢;obtain⟨v,M,I⟩:=k;obtain⟨O,R⟩:=GJ B h (e i o ho G) M;have p:=agm s o.dst v;have m:∀ {A:Nat->Option Nat} {z:Nat->Option (Nat×Nat)},(∀ id,o.dst≠some (id-s.base)\/id<s.base->A id=γ id/\z id=β id)->∀ j c,ops[j]?=some c->(b.setIfInBounds i true).getD j true=false->Fr E (s.put o.dst v) A z c:=λN j c J y=>by
    by_cases hij:i=j
    ·subst hij;exfalso;rcases zua i b.size with F|q
     ·simp[Array.getD,F] at y
     ·simp[Array.getD,q,zOc.2 q] at y
    ·rw[getD_set_ne true hij] at y;exact(e j c J y).keep (λd D=>C i j o c hij ho J d D) p.2.1 (λid _ _=>by rw[p.1]) N
   split
   ·rename_i H;refine(bC (O H) λu w' ⟨S',A,z,m1,m2,T⟩=>?_);exact jf B C hL f _ _ S' A z _ _ m1 (t.trans m2 l.lkS l.lkO) (l.trans<|Sm.put s o.dst v) (m T) I
   ·rename_i H;obtain⟨m1,m2⟩:=R (by simpa using H)
    refine⟨λ_ _=>trivial,?_⟩;exact jf B C hL f _ _ S γ β _ _ m1 (t.trans m2 l.lkS l.lkO) (l.trans<|Sm.put s o.dst v) (m λid _=>⟨rfl,rfl⟩) I
theorem kY(h:dA (l.filterMap (·.dst))=true){i j:Nat}{a b:Oper}(m:i≠j)(hi:l[i]?=some a)(n:l[j]?=some b)(d:Nat)(e:b.dst=some d):a.dst≠some d:=by
 obtain⟨g,k⟩:=zra.1 hi;obtain⟨o,p⟩:=zra.1 n;rcases zua i j with q|f
 ·refine gv h (l.take i) (l.drop<|i+1) a b ?_ ?_ d e
  ·grind [List.drop_eq_getElem_cons,List.take_append_drop]
  ·refine zfb (i:=j-(i+1)) ?_;grind
 ·intro c;refine gv h (l.take j) (l.drop<|j+1) b a ?_ ?_ d c e
  ·grind [List.drop_eq_getElem_cons,List.take_append_drop]
  ·refine zfb (i:=i-(j+1)) ?_;grind
theorem bn:∀ (l:List Oper) (i:Nat),(aX i l).map Prod.snd=l
 | [],_=>rfl
 | o::l,i=>by simp[aX,z4a,bn l<|i+1]
def mR{i:Nat}{p:Nat×Oper}(h:p∈aX i l):p.2∈l:=by
 have:p.2∈(aX i l).map Prod.snd:=zEb h
 rwa [bn] at this
theorem jd:∀ (l:List Oper) (i:Nat),(aX i l).length=l.length
 | [],_=>rfl
 | o::l,i=>by simp[aX,zOa,jd l<|i+1]
def JF(Z:EnvOk P E){id:Nat}{dr:Bool}{n:Nat}{Q:Exit->Act->World->Prop}{S:Nat->Nat->Prop}{γ:Nat->Option Nat}{β:Nat->Option (Nat×Nat)}{s:St}{a:Act}{w:World}{R:Type}{k:St->Option R}{r:R}{N:Nat}
  (h:Rp w0 S γ β s a w) (hf:Ke E s γ β ops.toList) (hm:cY ops.toList=true) (v:(!dr||tZ E ops n)=true) {an:Ann} (M:ga E N R ops an (aX 0 ops.toList) s k=some r)
  (hQ:∀ s' S' γ' β' a' w',Rp w0 S' γ' β' s' a' w'->Fm s S γ a w S' γ' a' w'->Sk s s'->k s'=some r->Q .normal a' w'):(Code.region id ops dr).wpIn (FW ro) nn P Q a w:=by
 simp only[cY,Y] at hm;obtain⟨⟨G,a4⟩,ap⟩:=hm;have l:=ap;cases dr with
 | false=>
  refine wpIn_region_list ?_;have:=Bc (ro:=ro) (nn:=nn) (ops:=ops) Z l N R (aX 0 ops.toList) k r an h (by rw[bn];exact hf) (by rw[bn];exact λA B o o' e I d D=>gv G A B o o' e I d D) (λp hp=>mR hp) M hQ
  rwa [bn] at this
 | true=>
  simp only[zmc,Bool.false_or,tZ,Y] at v;obtain⟨⟨⟨⟨⟨d0,d1⟩,d2⟩,a6⟩,d4⟩,d5⟩:=v;have hn:n<=ops.size:=by
   simp only[zHb,zea,Y] at a6;rcases a6 with a6|a6
   ·omega
   ·omega
  have hW:pu .any ops n:=by
   intro f i inv al aI t ht hr;simp[zHb,zea,Y] at a6;rcases a6 with a6|⟨⟨a6,d6⟩,d7⟩
   ·obtain⟨_,o,I,_⟩:=mem_ready.1 hr;have:=(zqa.1 I).1;omega
   ·exact tail_waits d6 d7 a6 inv _ i rfl al aI t ht hr
  obtain⟨s',aO,N',q1,K,q3⟩:=xa N R (aX 0 ops.toList) s k r n an (by rw[jd,zFb];exact hn) (λp hp=>by
    have z:p.2∈ops.toList.take n:=by
     have:p.2∈((aX 0 ops.toList).take n).map Prod.snd:=zEb hp
     rwa [ztd,bn] at this
    exact⟨zxa.1 d4 _ z,by simpa using zxa.1 d0 _ z⟩) (.inl λp hp c x y e=>by
    have z:p.2∈ops.toList.drop n:=by
     have:p.2∈((aX 0 ops.toList).drop n).map Prod.snd:=zEb hp
     rwa [zQc,bn] at this
    have:=zxa.1 d5 _ z;simp[Y] at this;have a5:=this.2;rw[e] at a5;cases a5) M
  rw[ztd,bn] at q1;refine wpIn_region_any Z.mixed ?_;have hg:∃ os d,w.drawn<=d/\({ w with drawn:=w.drawn+1 }:World)=grown w os d:=⟨[],w.drawn+1,zIc _,by simp[grown]⟩
  obtain⟨os,d,v,hg⟩:=hg;obtain⟨g1,g2⟩:=h.grow (os:=os) (d:=d) v (S':=S) (λ_ _ q=>q)<|λ_ _ q=>.inl q;rw[hg];have m:(ops.toList.take n).length=n:=by simp;omega
  have X:HeadInv .any ops n (Array.replicate ops.size false):=
   ⟨j2,λj J _ hl=>(by rw[getD_replicate_false] at hl;cases hl),λt _ ht=>getD_in (by simpa using ht)<|getD_replicate_false _ _⟩
  have H:=Dk (E:=E) (md:=.any) (g:=ops.size-n) (Lq:=λs=>s=s') hW (ops.toList.take n) 0 (Array.replicate ops.size false) s s' (λj C=>by rw[m] at C;rw[zQb C,zbb,zQa]) (by rw[m,zbb]) X (by rw[m];exact d2) q1 rfl
  have L:(ops.toList.drop n).length=ops.size-n:=j2
  have:=jf (ro:=ro) (nn:=nn) (Q:=Q) (g:=ops.size-n) Z (s0:=s) (S0:=S) (γ0:=γ) (a0:=a) (w1:=grown w os d) (λi j oi J ad hi C d D=>kY G ad (by rw[zQa];exact hi) (by rw[zQa];exact C) d D)
   (λf s2 S2 γ2 β2 a2 w2 m1 m2 m3 m4 m5=>by
    obtain⟨m5,m6⟩:=m5;subst m6;have U:=kI (F:=FW ro) (n:=nn) (P:=P) (md:=.any) (ops:=ops) (Q':=Q) (ops.toList.drop n) n f a2 w2 (λj=>by rw[zDb,zQa]) (by rw[L];exact m5) ?_
    ·rwa [L] at U
    have W:∀ j J,ops[j]?=some J->n<=j->f.getD j true=false:=by
     intro j J C ax;have key:∀ (g k:Nat) (f:Array Bool),Region.seqB .any ops g k f=true->∀ j,k<=j->j<k+g->f.getD j true=false:=by
      intro g
      induction g with
      | zero=>intro k f _ j h1 a5;omega
      | succ g ih=>
       intro k f hB j h1 a5;simp[Region.seqB,Y,zea] at hB;by_cases T:j=k
       ·subst T;have:j∈Region.ready .any ops f:=by rw[hB.1];simp
        exact(mem_ready.1 this).1
       ·have:=ih (k+1) _ hB.2 j u0 u0
        rwa [getD_set_ne true<|Ne.symm T] at this
     have a1:=(zqa.1 C).1;exact key _ _ _ m5 j ax u0
    have V:∀ o∈ops.toList.drop n,Fr E aO γ2 β2 o:=λo I=>by
     obtain⟨i,hi,he⟩:=z3a I;have O:ops[n+i]?=some o:=by
      have:(ops.toList.drop n)[i]?=some o:=by rw[zca hi,he]
      rwa [zDb,zQa] at this
     have:=m4 (n+i) o O<|W _ _ O u0
     intro hc d D;obtain⟨r1,r2,r3,r4⟩:=this hc d D;rw[K.base_eq,K.ob];exact⟨r1,r2,r3,r4⟩
    have fin:=Bc (ro:=ro) (nn:=nn) (ops:=ops) Z (Q:=Q) l N' R ((aX 0 ops.toList).drop n) k r an (m1.wk K) (by rw[zQc,bn];exact V)
     (by rw[zQc,bn];intro A B o o' e I d D;exact gv G (ops.toList.take n++A) B o o' (by rw[zPa,<-e,zza]) I d D)
     (λp hp=>mR<|z9b hp) q3 (λs3 u γ3 β3 a3 w3 n1 n2 n3 n4=>by
      refine hQ s3 u γ3 β3 a3 w3 n1 ?_ ((m3.trans<|Sm.wk K).sk.trans n3) n4;have f0:Fm s S γ a w S γ a (grown w os d):=⟨λ_ _ q=>q,g2.cell,λ_ _=>rfl,λid hid b q=>⟨q,.inl<|dL (h.γn id b q).2⟩,j2,λ_ _ q=>q,mz.same rfl dN.grown⟩
      exact(f0.trans m2 rfl rfl).trans n2 (K.lkS.trans m3.lkS)<|K.lkO.trans m3.lkO)
    rwa [zQc,bn] at fin)
   (ops.toList.take n).length (Array.replicate ops.size false) s S γ β a (grown w os d) g1 (Fm.refl _ _ _ _ _) (Sm.refl s) (λj J C _=>hf J<|zyc.2<|zwc C) H
  rw[m,show n+(ops.size-n)=ops.size by omega] at this
  exact this
end
end
section
variable{j:Nat}{y:List D}
mutual
theorem wg:∀ (a a':AV),AV.same a a'=true->a=a'
 | .ptr t id p,a',h=>by
  cases a'<;>simp[AV.same,Y,zea] at h<;>try(cases h;done)
  grind [ags]
 | .mem t id,a',h=>by
  cases a'<;>simp[AV.same,Y,zea] at h<;>try(cases h;done)
  grind [ags]
 | .clo f l,a',h=>by
  cases a'<;>simp[AV.same,Y,zea] at h<;>try(cases h;done)
  obtain⟨rfl,h1⟩:=h;rw[Em _ _ h1]
 | .map kt vt id,a',h=>by
  cases a'<;>simp[AV.same,Y,zea] at h<;>try(cases h;done)
  grind [ags]
 | .yld id,a',h=>by
  cases a'<;>simp[AV.same,zea] at h<;>try(cases h;done)
  subst h;rfl
 | .sub sl t id p lo n,a',h=>by
  cases a'<;>simp[AV.same,Y,zea] at h<;>try(cases h;done)
  grind [ags]
 | .gone,a',h=>by simp[AV.same] at h
 | .tpo ..,a',h=>by simp[AV.same] at h
 | .d ..,a',h=>by simp[AV.same] at h
 | .own ..,a',h=>by simp[AV.same] at h
 | .nils,a',h=>by simp[AV.same] at h
 | .fptr ..,a',h=>by simp[AV.same] at h
 | .st ..,a',h=>by simp[AV.same] at h
 | .undef,a',h=>by simp[AV.same] at h
theorem Em:∀ (l l':List AV),afu l l'=true->l=l'
 | [],l',h=>by grind [afu]
 | a::l,l',h=>by
  cases l' with
  | nil=>simp[afu] at h
  | cons a' l'=> simp[afu,Y] at h;rw[wg _ _ h.1,Em _ _ h.2]
end
structure Two(n:Nat)(c c':Cx):Prop where
 w:c'.w=c.w
 S:c'.S=c.S
 γ:∀ id,id<n->c'.γ id=c.γ id
 ob:∀ id,id<n->∀ o',c'.ob id=some o'->∃ o,c.ob id=some o/\(∀ p,fA o' p=fA o p/\cC o' p=cC o p)/\(∀ t l,o=.many t l->∃ l',o'=.many t l'/\l'.length=l.length)/\∀ kt vt l,o=.mp kt vt l->∃ l',o'=.mp kt vt l'
mutual
theorem Nb{n:Nat}{c c':Cx}(h:Two n c c'):∀ (a:AV) (cs:List Value),AV.old n a=true->AC c a cs->AC c' a cs
 | .ptr t id p,cs,ho,k=>by
  simp[AV.old,zea] at ho;simp[AC] at k ⊢;obtain⟨b,off,rfl,k1,k2⟩:=k;refine⟨b,off,rfl,by rw[h.γ id ho];exact k1,λo' ho'=>?_⟩
  obtain⟨o,h1,h2,_⟩:=h.ob id ho o' ho'
  simp_all
 | .mem t id,cs,ho,k=>by
  simp[AV.old,zea] at ho;simp[AC] at k ⊢;obtain⟨k0,b,k1,k2⟩:=k;refine⟨k0,b,by rw[h.γ id ho];exact k1,λo' ho'=>?_⟩
  obtain⟨o,h1,_,h3,_⟩:=h.ob id ho o' ho';grind
 | .map kt vt id,cs,ho,k=>by
  simp[AV.old,zea] at ho;simp[AC] at k ⊢;obtain⟨b,e,k1,k2,k3,k4⟩:=k;refine⟨b,e,by rw[h.γ id ho];exact k1,k2,k3,λo' ho'=>?_⟩
  obtain⟨o,h1,_,_,h3⟩:=h.ob id ho o' ho';grind
 | .yld id,cs,ho,k=>by simp[AV.old,zea] at ho;simp[AC] at k ⊢;obtain⟨L,rfl,k1⟩:=k;exact⟨L,rfl,by rw[h.γ id ho];exact k1⟩
 | .clo f l,cs,ho,k=>by simp[AV.old] at ho;simp[AC] at k ⊢;obtain⟨caps,rfl,k1⟩:=k;exact⟨caps,rfl,H3 h l caps ho k1⟩
 | .sub sl t id p lo m,cs,ho,k=>by
  simp[AV.old,zea] at ho;simp only[AC] at k ⊢;obtain⟨k0,b,off,cap,rfl,k1,k2⟩:=k;refine⟨k0,b,off,cap,rfl,by rw[h.γ id ho];exact k1,λo' ho'=>?_⟩
  obtain⟨o,h1,h2,_⟩:=h.ob id ho o' ho'
  simp_all
 | .gone,_,ho,_=>by simp[AV.old] at ho
 | .tpo ..,_,ho,_=>by simp[AV.old] at ho
 | .d ..,_,ho,_=>by simp[AV.old] at ho
 | .own ..,_,ho,_=>by simp[AV.old] at ho
 | .nils,_,ho,_=>by simp[AV.old] at ho
 | .fptr ..,_,ho,_=>by simp[AV.old] at ho
 | .st ..,_,ho,_=>by simp[AV.old] at ho
 | .undef,_,ho,_=>by simp[AV.old] at ho
theorem H3{n:Nat}{c c':Cx}(h:Two n c c'):∀ (l:List AV) (cs:List Value),aft n l=true->pi c l cs->pi c' l cs
 | [],cs,_,k=>by simpa only[pi] using k
 | a::l,cs,ho,k=>by simp[aft,Y] at ho;simp[pi] at k ⊢;obtain⟨v,c2,rfl,k1,k2⟩:=k;exact⟨v,c2,rfl,Nb h a _ ho.1 k1,H3 h l c2 ho.2 k2⟩
end
mutual
def af8:Sh->AV->Nat->List (Nat×Nat)
 | .ow _,.own _ v _,j=>[(j,v)]
 | .st _ l,.st _ l',j=>af9 l l' j
 | _,_,_=>[]
def af9:List Sh->List AV->Nat->List (Nat×Nat)
 | h::l,a::l',j=>af8 h a j++af9 l l' (j+h.cnt)
 | _,_,_=>[]
end
mutual
theorem Cc:∀ (h:Sh) (a:AV) (j:Nat),(af8 h a j).map Prod.snd=aga h a
 | .ow _,a,j=>by cases a<;>rfl
 | .st _ l,a,j=>by cases a<;>first|rfl|exact EI l _ j
 | .dv _,a,j=>by cases a<;>rfl
 | .same _,a,j=>by cases a<;>rfl
theorem EI:∀ (l:List Sh) (l':List AV) (j:Nat),(af9 l l' j).map Prod.snd=agb l l'
 | [],l',j=>by cases l'<;>rfl
 | h::l,[],j=>rfl
 | h::l,a::l',j=>by simp[af9,agb,zob,Cc h a j,EI l l' _]
end
def Pl(l:List<|Nat×Nat)(i j:Nat):Prop:=(∀ p∈l,i<=p.1/\p.1<j)/\∀ p∈l,∀ q∈l,p.1=q.1->p=q
def Pl.nil(i j:Nat):Pl [] i j:=⟨λp h=>(by cases h),λp h=>(by cases h)⟩
def Pl.append{l l':List<|Nat×Nat}{i k:Nat}(h:Pl l i j)(a:Pl l' j k)(b:i<=j)(c:j<=k):Pl (l++l') i k:=by
 refine⟨λp hp=>?_,λp hp q hq e=>?_⟩
 ·rcases zJa.1 hp with hp|hp
  ·have:=h.1 p hp;omega
  ·have:=a.1 p hp;omega
 ·rcases zJa.1 hp with hp|hp<;>rcases zJa.1 hq with hq|hq
  ·exact h.2 p hp q hq e
  ·have:=h.1 p hp;have:=a.1 q hq;omega
  ·have:=a.1 p hp;have:=h.1 q hq;omega
  ·exact a.2 p hp q hq e
mutual
theorem GC:∀ (h:Sh) (a:AV) (j:Nat),Pl (af8 h a j) j (j+h.cnt)
 | .ow _,a,j=>by
  cases a<;>first
   | exact Pl.nil _ _
   | exact⟨λp hp=>by simp[af8] at hp;subst hp;simp[Sh.cnt],λp hp q hq _=>by simp[af8] at hp hq;rw[hp,hq]⟩
 | .st _ l,a,j=>by
  cases a<;>first
   | exact Pl.nil _ _
   | (simp[af8,Sh.cnt];exact Iv l _ j)
 | .dv _,a,j=>by cases a<;>exact Pl.nil _ _
 | .same _,a,j=>by cases a<;>exact Pl.nil _ _
theorem Iv:∀ (l:List Sh) (l':List AV) (j:Nat),Pl (af9 l l' j) j (j+af4 l)
 | [],l',j=>by cases l'<;>exact Pl.nil _ _
 | h::l,[],j=>Pl.nil _ _
 | h::l,a::l',j=>by
  simp[af9,af4];rw[show j+(h.cnt+af4 l)=j+h.cnt+af4 l by omega]
  exact(GC h a j).append (Iv l l' _) u0 u0
end
mutual
theorem oH{ob:Nat->Option Ob}{dead:List Nat}:∀ (h:Sh) (a:AV) (x:List D),Sh.dec ob dead h a=some x->x.length=h.cnt
 | .dv t,a,x,e=>by
  have e':((afv ob t a).bind λx=>some [x])=some x:=by cases a<;>exact e
  obtain⟨y,_,h2⟩:=ab e';simp[zda] at h2;subst h2;rfl
 | .ow t,a,x,e=>by
  cases a<;>simp only[Sh.dec] at e<;>try(cases e;done)
  ·split at e<;>try(cases e;done)
   simp[zda] at e;subst e;rfl
  ·simp[zda] at e;subst e;rfl
 | .same b,a,x,e=>by
  have e':(if AV.same b a then some ([]:List D) else none)=some x:=by cases a<;>exact e
  split at e'<;>try(cases e';done)
  simp[zda] at e';subst e';rfl
 | .st ts l,a,x,e=>by
  cases a<;>simp only[Sh.dec] at e<;>try(cases e;done)
  split at e<;>try(cases e;done)
  exact CX l _ x e
theorem CX{ob:Nat->Option Ob}{dead:List Nat}:∀ (l:List Sh) (l':List AV) (x:List D),af5 ob dead l l'=some x->x.length=af4 l
 | [],l',x,e=>by
  cases l'<;>simp only[af5] at e<;>try(cases e;done)
  simp only[zda] at e;subst e;rfl
 | h::l,[],x,e=>by simp[af5] at e
 | h::l,a::l',x,e=>by simp[af5] at e;obtain⟨y,h1,e⟩:=ab e;obtain⟨z,h2,e⟩:=ab e;simp[zda] at e;subst e;simp[zFa,oH h a y h1,CX l l' z h2,af4]
end
mutual
theorem tV{ob:Nat->Option Ob}{dead:List Nat}:∀ (h:Sh) (a:AV) (x:List D),Sh.dec ob dead h a=some x->∀ v∈aga h a,v ∉ dead
 | .dv t,a,x,e=>by simp_all [aga]
 | .ow t,a,x,e=>by
  intro v hv;cases a<;>simp[aga,zbc,zSa] at hv;subst hv;simp[Sh.dec] at e
  simp_all
 | .same b,a,x,e=>by simp_all [aga]
 | .st ts l,a,x,e=>by
  intro v hv;cases a<;>simp[aga,zbc] at hv;simp only[Sh.dec] at e;split at e<;>try(cases e;done)
  exact wT l _ x e v hv
theorem wT{ob:Nat->Option Ob}{dead:List Nat}:∀ (l:List Sh) (l':List AV) (x:List D),af5 ob dead l l'=some x->∀ v∈agb l l',v ∉ dead
 | [],l',x,e=>by simp_all [agb]
 | h::l,[],x,e=>by simp[af5] at e
 | h::l,a::l',x,e=>by
  intro v hv;simp[af5] at e;obtain⟨y,h1,e⟩:=ab e;obtain⟨z,h2,e⟩:=ab e;simp only[agb] at hv;rcases zJa.1 hv with hv|hv
  ·exact tV h a y h1 v hv
  ·exact wT l l' z h2 v hv
end
mutual
theorem uw(b:Nat):∀ (h:Sh) (j:Nat) (s:List D),(Sh.mk b h j s).2=j+h.cnt
 | .dv t,j,s=>rfl
 | .ow t,j,s=>rfl
 | .same a,j,s=>rfl
 | .st ts l,j,s=>by simp[Sh.mk,Sh.cnt];exact HV b l j s
theorem HV(b:Nat):∀ (l:List Sh) (j:Nat) (s:List D),(af7 b l j s).2=j+af4 l
 | [],j,s=>rfl
 | h::l,j,s=>by simp[af7,af4,uw b h j s,HV b l,zNb]
end
mutual
theorem HU(b:Nat):∀ (h:Sh) (t:Ty) (j:Nat) (s:List D),Sh.fits t h=true->AV.fits t (Sh.mk b h j s).1=true
 | .dv t',t,j,s,h=>by
  have h':t.beq t'=true:=by cases t<;>exact h
  rw[ags _ _ h'];exact bW _ _
 | .ow e,t,j,s,h=>by
  have h':t.beq (.sl e)=true:=by cases t<;>exact h
  rw[ags _ _ h'];simp[Sh.mk,AV.fits];exact agr _
 | .same a,t,j,s,h=>by cases t<;>simp[Sh.fits] at h
 | .st ts l,t,j,s,h=>by
  have h':(t.beq (.st ts)&&Sh.fitss ts l)=true:=by cases t<;>exact h
  simp[Y] at h';rw[ags _ _ h'.1];simp[Sh.mk,AV.fits,Y];have:=agr<|.st ts;simp[Ty.beq] at this;exact⟨this,xF b l ts j s h'.2⟩
theorem xF(b:Nat):∀ (l:List Sh) (ts:List Ty) (j:Nat) (s:List D),Sh.fitss ts l=true->AV.fitss ts (af7 b l j s).1=true
 | [],ts,j,s,h=>by cases ts<;>simp[Sh.fitss] at h<;>first|(cases h;done)|rfl
 | h::l,[],j,s,e=>by simp[Sh.fitss] at e
 | h::l,t::ts,j,s,e=>by simp[Sh.fitss,Y] at e;simp[af7,AV.fitss,Y];exact⟨HU b h t j s e.1,xF b l ts _ s e.2⟩
end
def GZ(s x:List D)(j:Nat):Prop:=∀ i,i<x.length->s[j+i]?=x[i]?
def GZ.left{s x:List D}(h:GZ s (x++y) j):GZ s x j:=λi hi=>by rw[h i (by simp;omega),zab hi]
def GZ.right{s x:List D}(h:GZ s (x++y) j):GZ s y (j+x.length):=λi hi=>by rw[zNb,h (x.length+i) (by simp;omega),zVb u0,zyb]
mutual
theorem DF{n b:Nat}{c c':Cx}(T:Two n c c'):∀ (h:Sh) (a:AV) (j:Nat) (s x:List D) (cs:List Value),Sh.dec c.ob c.dead h a=some x->GZ s x j->Sh.fine n h=true ->
  (∀ p∈af8 h a j,c'.β (b+p.1)=c.β p.2)->AC c a cs->AC c' (Sh.mk b h j s).1 cs
 | .dv t,a,j,s,x,cs,e,hs,hf,hb,k=>by
  have e':((afv c.ob t a).bind λx=>some [x])=some x:=by cases a<;>exact e
  obtain⟨y,h1,h2⟩:=ab e';simp[zda] at h2;subst h2;obtain⟨k1,k2,_⟩:=uI _ _ _ _ h1 k;have hj:s[j]?=some y:=by have:=hs 0 j2;simpa using this
  simp[Sh.mk,AC,List.getD,hj,z0b,T.w,T.S];exact⟨k1,hf,k2⟩
 | .ow t,a,j,s,x,cs,e,hs,hf,hb,k=>by
  cases a<;>simp only[Sh.dec] at e<;>try(cases e;done)
  ·rename_i t' v l;split at e<;>try(cases e;done)
   rename_i hd;simp[Y,zCa] at hd;simp[zda] at e;subst e;have hj:s[j]?=some (.sl l):=by have:=hs 0 j2;simpa using this
   have he:=ags _ _ hd.1;subst he;simp[AC] at k;obtain⟨k0,k1,ad,cap,rfl,k2,k3⟩:=k;simp only[Sh.mk,AC,List.getD,hj,z0b,D.els,T.w,T.S];refine⟨k0,k1,ad,cap,rfl,k2,λ_=>?_⟩;rcases k3 (by simpa using hd.2) with h3|⟨bb,off,h3,h4,m,h5,h6⟩
   ·exact .inl h3
   ·refine .inr ⟨bb,off,h3,?_,m,by rw[T.w];exact h5,h6⟩
    have:=hb (j,v) (by simp[af8])
    rw[<-h4];exact this
  ·simp[zda] at e;subst e;have hj:s[j]?=some (.sl []):=by have:=hs 0 j2;simpa using this
   simp[AC] at k;subst k;simp only[Sh.mk,AC,List.getD,hj,z0b,D.els];refine⟨hf,λx hx=>(by cases hx),none,0,rfl,?_,λ_=>.inl ⟨rfl,rfl⟩⟩
   exact afw (b:=0) (off:=0) (.inl rfl) (zoa _) ⟨[],c7.nil,λi c hc=>by simp at hc⟩
 | .same a',a,j,s,x,cs,e,hs,hf,hb,k=>by
  have e':(if AV.same a' a then some ([]:List D) else none)=some x:=by cases a<;>exact e
  split at e'<;>try(cases e';done)
  rename_i hsm;have:=wg _ _ hsm;subst this;simp[Sh.fine] at hf;exact Nb T _ _ hf k
 | .st ts l,a,j,s,x,cs,e,hs,hf,hb,k=>by
  cases a<;>simp only[Sh.dec] at e<;>try(cases e;done)
  rename_i ts' l';split at e<;>try(cases e;done)
  simp[Sh.fine,Y] at hf;simp[AC] at k;simp[Sh.mk,AC];exact⟨hf.1.1,xF b l ts j s hf.1.2,MR T l l' j s x cs e hs hf.2 hb k.2.2⟩
theorem MR{n b:Nat}{c c':Cx}(T:Two n c c'):∀ (l:List Sh) (l':List AV) (j:Nat) (s x:List D) (cs:List Value),af5 c.ob c.dead l l'=some x->GZ s x j->af6 n l=true ->
  (∀ p∈af9 l l' j,c'.β (b+p.1)=c.β p.2)->jW c l' cs->jW c' (af7 b l j s).1 cs
 | [],l',j,s,x,cs,e,_,_,_,k=>by all_goals grind [af5,af7,jW]
 | h::l,[],j,s,x,cs,e,_,_,_,k=>by simp[af5] at e
 | h::l,a::l',j,s,x,cs,e,hs,hf,hb,k=>by simp[af5] at e;obtain⟨y,h1,e⟩:=ab e;obtain⟨z,h2,e⟩:=ab e;simp[zda] at e;subst e;simp[af6,Y] at hf;simp[jW] at k;obtain⟨c1,c2,rfl,k1,k2⟩:=k;simp[af7,jW,uw];simp only[af9,zJa] at hb;have hr:=hs.right;rw[oH h a y h1] at hr;exact⟨c1,c2,rfl,DF T h a j s y c1 h1 hs.left hf.1 (λp hp=>hb p<|.inl hp) k1,MR T l l' _ s z c2 h2 hr hf.2 (λp hp=>hb p<|.inr hp) k2⟩
end
def Yu{n b:Nat}{c c':Cx}(T:Two n c c')(h:Sh)(a:AV)(j:Nat)(s x:List D)(v:Value)(e:Sh.dec c.ob c.dead h a=some x)(g:GZ s x j)(d:Sh.fine n h=true)
  (i:∀ p∈af8 h a j,c'.β (b+p.1)=c.β p.2) (k:AR c a v):AR c' (Sh.mk b h j s).1 v:=by
 cases h with
 | dv t=>
  have f:((afv c.ob t a).bind λx=>some [x])=some x:=by cases a<;>exact e
  obtain⟨y,q,o⟩:=ab f;simp[zda] at o;subst o;have r:s[j]?=some y:=by have:=g 0 j2;simpa using this
  obtain⟨u,z⟩:=pS d k q;simp[Sh.mk,List.getD,r,z0b];exact dC d u (by rw[T.w,T.S];exact z)
 | ow t=>
  have key:=λcs=>DF T (.ow t) a j s x cs e g d i;cases a<;>simp[Sh.dec] at e<;>try(cases e;done)
  all_goals
   simp[AR] at k;exact⟨k.1,key _ k.2⟩
 | same a'=>
  have key:=λcs=>DF T (.same a') a j s x cs e g d i;have f:(if AV.same a' a then some ([]:List D) else none)=some x:=by cases a<;>exact e
  split at f<;>try(cases f;done)
  rename_i m;have:=wg _ _ m;subst this;simp[Sh.mk] at key ⊢;cases a'<;>simp[Sh.fine,AV.old] at d<;>try(cases d;done)
  all_goals simp_all [AR]
 | st ts l=>
  have key:=λcs=>DF T (.st ts l) a j s x cs e g d i;cases a<;>simp[Sh.dec] at e<;>try(cases e;done)
  simp_all [Sh.mk,AR]
end
section
variable{l:List<|Nat×ShO}{c:Cx}{f:Nat}
def RO(s:St):List (Nat×Sh)->Nat->List (Nat×Nat)
 | [],_=>[]
 | (t,h)::l,j=>af8 h (s.tm t) j++RO s l (j+h.cnt)
def NY(h:Sh)(o:Option Ob)(j:Nat):List (Nat×Nat):=match o with|some (.one _ v)=>af8 h v j|_=>[]
def yk(s:St):List (Nat×ShO)->Nat->List (Nat×Nat)
 | [],_=>[]
 | (id,.one _ h)::l,j=>NY h (s.ob id) j++yk s l (j+h.cnt)
 | (_,.many _)::l,j=>yk s l (j+1)
 | (_,.mp ..)::l,j=>yk s l (j+1)
 | (_,.keep ..)::l,j=>yk s l j
 | (_,.lp ..)::l,j=>yk s l j
 | (_,.fv _)::l,j=>yk s l j
theorem Cb(s:St):∀ (l:List<|Nat×Sh) (j:Nat),(RO s l j).map Prod.snd=agk s l
 | [],_=>rfl
 | (t,h)::l,j=>by simp[RO,agk,zob,Cc,Cb s l]
theorem lg(s:St):∀ (l:List<|Nat×ShO) (j:Nat),(yk s l j).map Prod.snd=agj s l
 | [],_=>rfl
 | (id,.one t h)::l,j=>by
  simp[yk,agj,zob,lg s l];congr 1;unfold NY;split
  ·rename_i e;simp[Cc,e]
  ·simp_all
 | (_,.many _)::l,j=>by simp[yk,agj,lg s l]
 | (_,.mp ..)::l,j=>by simp[yk,agj,lg s l]
 | (_,.keep ..)::l,j=>by simp[yk,agj,lg s l]
 | (_,.lp ..)::l,j=>by simp[yk,agj,lg s l]
 | (_,.fv _)::l,j=>by simp[yk,agj,lg s l]
theorem NZ(s:St):∀ (l:List<|Nat×Sh) (j:Nat),Pl (RO s l j) j (j+agd l)
 | [],_=>Pl.nil _ _
 | (t,h)::l,j=>by
  simp[RO,agd];rw[show j+(h.cnt+agd l)=j+h.cnt+agd l by omega]
  exact(GC h _ j).append (NZ s l _) u0 u0
def QH(h:Sh)(o:Option Ob)(j:Nat):Pl (NY h o j) j (j+h.cnt):=by
 unfold NY;split
 ·exact GC h _ j
 ·exact Pl.nil _ _
theorem rA(s:St):∀ (l:List<|Nat×ShO) (j:Nat),Pl (yk s l j) j (j+agc l)
 | [],_=>Pl.nil _ _
 | (id,.one t h)::l,j=>by
  simp[yk,agc,ShO.cnt];rw[show j+(h.cnt+agc l)=j+h.cnt+agc l by omega]
  exact(QH h _ j).append (rA s l _) u0 u0
 | (_,.many _)::l,j=>by
  simp[yk,agc,ShO.cnt];rw[show j+(1+agc l)=j+1+agc l by omega]
  exact(Pl.nil j<|j+1).append (rA s l _) u0 u0
 | (_,.mp ..)::l,j=>by
  simp[yk,agc,ShO.cnt];rw[show j+(1+agc l)=j+1+agc l by omega]
  exact(Pl.nil j<|j+1).append (rA s l _) u0 u0
 | (_,.keep ..)::l,j=>by simp[yk,agc,ShO.cnt,zbb];exact rA s l j
 | (_,.fv _)::l,j=>by simp[yk,agc,ShO.cnt,zbb];exact rA s l j
 | (_,.lp ..)::l,j=>by simp[yk,agc,ShO.cnt,zbb];exact rA s l j
theorem CW(s:St):∀ (l:List<|Nat×Sh) (x:List D),agf s l=some x->x.length=agd l
 | [],x,e=>by simp[agf,zda] at e;subst e;rfl
 | (t,h)::l,x,e=>by simp[agf] at e;obtain⟨y,a,e⟩:=ab e;obtain⟨z,b,e⟩:=ab e;simp[zda] at e;subst e;simp[zFa,oH h _ y a,CW s l z b,agd]
theorem wS(s:St):∀ (l:List<|Nat×Sh) (x:List D),agf s l=some x->∀ v∈agk s l,v ∉ s.dead
 | [],x,_=>by simp_all [agk]
 | (t,h)::l,x,e=>by
  intro v a;simp[agf] at e;obtain⟨y,b,e⟩:=ab e;obtain⟨z,c,e⟩:=ab e;simp only[agk] at a;rcases zJa.1 a with a|a
  ·exact tV h _ y b v a
  ·exact wS s l z c v a
theorem wR{s:St}{id:Nat}{t:Ty}{h:Sh}{x:List D}(e:age s ((id,.one t h)::l)=some x):∃ v y z,s.ob id=some (.one t v)/\Sh.dec s.ob s.dead h v=some y/\age s l=some z/\x=y++z:=by
 simp[age] at e;split at e<;>try(cases e;done)
 rename_i t' v c;split at e<;>try(cases e;done)
 rename_i d;obtain⟨y,a,e⟩:=ab e;obtain⟨z,b,e⟩:=ab e;grind [Option.some.injEq,ags]
theorem tU{s:St}{id:Nat}{t:Ty}{x:List D}(e:age s ((id,.many t)::l)=some x):∃ v z,s.ob id=some (.many t v)/\age s l=some z/\x=[.sl v]++z:=by
 simp[age] at e;split at e<;>try(cases e;done)
 rename_i t' v b;split at e<;>try(cases e;done)
 rename_i c;obtain⟨z,a,e⟩:=ab e;grind [Option.some.injEq,ags]
def A7{s:St}{id:Nat}{kt vt:Ty}{x:List D}(e:age s ((id,.mp kt vt)::l)=some x):∃ v z,s.ob id=some (.mp kt vt v)/\age s l=some z/\x=[.sl v]++z:=by
 simp only[age] at e;split at e<;>try(cases e;done)
 rename_i t' d v b;split at e<;>try(cases e;done)
 rename_i a;obtain⟨z,c,e⟩:=ab e;simp only[zda] at e;simp only[Y] at a;rw[<-ags _ _ a.1,<-ags _ _ a.2] at b;exact⟨v,z,b,c,e.symm⟩
theorem tT{s:St}{id:Nat}{t:Ty}{x:List D}(e:age s ((id,.keep t f)::l)=some x):∃ v,s.ob id=some (.one t v)/\age s l=some x:=by grind [age,ags]
theorem Jw:∀ {p a:Option Ex},F5 p a=true->p=a
 | none,none,_=>rfl
 | none,some _,h=>by cases h
 | some _,none,h=>by cases h
 | some e,some b,h=>by simp[F5] at h;cases e<;>cases b<;>simp[Ex.is,zea] at h<;>first|rfl|(cases h;done)|(subst h;rfl)
theorem A6{s:St}{id:Nat}{p:Option Ex}{x:List D}(e:age s ((id,.lp p f)::l)=some x):∃ i,s.ob id=some (.lp i p)/\age s l=some x:=by grind [age,Jw]
def A5{s:St}{id:Nat}{a:AV}{x:List D}(e:age s ((id,.fv a)::l)=some x):s.ob id=some (.fv a)/\age s l=some x:=by
 simp[age] at e;split at e<;>try(cases e;done)
 split at e<;>try(cases e;done)
 rename_i b c;rw[wg _ _ c];exact⟨b,e⟩
theorem zf{n:Nat}{c':Cx}(T:Two n c c'):∀ {l:List AV} {vs:List Value},aft n l=true->pj c l vs->pj c' l vs
 | [],[],_,_=>trivial
 | [],_::_,_,k=>k.elim
 | _::_,[],_,k=>k.elim
 | a::l,v::vs,h,k=>by
  simp[aft,Y] at h;refine⟨?_,zf T h.2 k.2⟩;have d:=k.1;unfold ws at d ⊢;split at d
  ·obtain⟨b,e,f⟩:=d;simp[AV.old,zea] at h;exact⟨b,e,(T.γ _ h.1).trans f⟩
  ·exact d.elim
theorem gn.old{n:Nat}{c':Cx}(T:Two n c c'){a:AV}{v:Value}(h:AV.old n a=true)(i:np a=true)(k:gn c a v):gn c' a v:=by
 cases a<;>simp[np] at i<;>try(cases i;done)
 all_goals simp only[AV.old] at h
 case clo f l=> obtain⟨caps,e,k⟩:=k;exact⟨caps,e,zf T h k⟩
 case map kt vt id=> obtain⟨b,e,d,g⟩:=k;exact⟨b,e,(T.γ id<|of_decide_eq_true h).trans d,g⟩
 case yld id=> simp[gn,AR,AC] at k ⊢;obtain⟨d,L,e,g⟩:=k;exact⟨d,L,e,(T.γ id<|of_decide_eq_true h).trans g⟩
def PJ{a b:AV}:(∀ p,fA (.fv a) p=fA (.fv b) p/\cC (.fv a) p=cC (.fv b) p):=λp=>by cases p<;>exact⟨rfl,rfl⟩
theorem zP{p:Option Ex}{o:Option Ob}{o':Ob}(h:afU p o=some o'):∃ i p0,o=some (.lp i p0)/\o'=.lp i p:=by unfold afU at h;grind
theorem gt(s:St):∀ (l:List<|Nat×ShO) (x:List D),age s l=some x->∀ v∈agj s l,v ∉ s.dead
 | [],x,_=>by simp_all [agj]
 | (id,.one t h)::l,x,e=>by
  intro v b;obtain⟨u,y,z,f,d,a,_⟩:=wR e;simp only[agj,f] at b;rcases zJa.1 b with b|b
  ·exact tV h _ y d v b
  ·exact gt s l z a v b
 | (id,.many t)::l,x,e=>by obtain⟨u,z,_,a,_⟩:=tU e;exact gt s l z a
 | (id,.mp kt vt)::l,x,e=>by obtain⟨u,z,_,a,_⟩:=A7 e;exact gt s l z a
 | (id,.keep t c)::l,x,e=>by obtain⟨u,_,a⟩:=tT e;exact gt s l x a
 | (id,.lp p c)::l,x,e=>by obtain⟨_,_,a⟩:=A6 e;exact gt s l x a
 | (id,.fv v)::l,x,e=>by obtain⟨_,a⟩:=A5 e;exact gt s l x a
theorem HT(b:Nat):∀ (l:List<|Nat×Sh) (j:Nat) (s:List D) (f:Nat->AV),(agi b l j s f).2=j+agd l
 | [],j,s,f=>rfl
 | (t,h)::l,j,s,f=>by simp[agi,HT b l,uw,agd,zNb]
theorem MQ{n b:Nat}{c':Cx}(T:Two n c c'){s':St}(e1:c.ob=s'.ob)(e2:c.dead=s'.dead):∀ (l:List<|Nat×Sh) (j:Nat) (s x:List D) (f:Nat->AV),agf s' l=some x->GZ s x j->(∀ p∈l,Sh.fine n p.2=true) ->
  (∀ p∈RO s' l j,c'.β (b+p.1)=c.β p.2)->∀ i,(i∈l.map (·.1)/\∀ v,AR c (s'.tm i) v->AR c' ((agi b l j s f).1 i) v)\/(i ∉ l.map (·.1)/\(agi b l j s f).1 i=f i)
 | [],j,s,x,f,e,g,d,a,i=>.inr ⟨j2,rfl⟩
 | (t,h)::l,j,s,x,f,e,g,d,a,i=>by
  simp[agf] at e;obtain⟨y,k,e⟩:=ab e;obtain⟨z,q,e⟩:=ab e;simp[zda] at e;subst e;simp only[RO,zJa] at a;have m:=g.right;rw[oH h _ y k] at m;simp only[agi,uw];rcases MQ T e1 e2 l (j+h.cnt) s z (λi=>if i=t then(Sh.mk b h j s).1 else f i) q m (λp hp=>d p (by simp[hp])) (λp hp=>a p<|.inr hp) i with⟨u,o⟩|⟨u,o⟩
  ·simp_all
  ·by_cases hit:i=t
   ·subst hit;refine .inl ⟨j2,λv r=>?_⟩
    rw[o,zma rfl];exact Yu T h _ j s y v (by rw[e1,e2];exact k) g.left (d (i,h) j2) (λp hp=>a p<|.inl hp) r
   ·simp_all
def UA(o' o:Ob):Prop:=(∀ p,fA o' p=fA o p/\cC o' p=cC o p)/\(∀ t l,o=.many t l->∃ l',o'=.many t l'/\l'.length=l.length)/\∀ kt vt l,o=.mp kt vt l->∃ l',o'=.mp kt vt l'
def Dw{t:Ty}{a b:AV}:UA (.one t a) (.one t b):=⟨λp=>⟨rfl,rfl⟩,(λu l e=>by cases e),λ_ _ l e=>by cases e⟩
def PK{i a:LpI}{p b:Option Ex}:UA (.lp i p) (.lp a b):=⟨λp=>⟨rfl,rfl⟩,(λu l e=>by cases e),λ_ _ l e=>by cases e⟩
theorem yg{t:Ty}{o:Option Ob}{o':Ob}(h:Ob.still t o=some o'):∃ u x,o=some (.one t<|.d u x)/\o'=.one t (.d u x):=by
 unfold Ob.still at h;split at h<;>try(cases h;done)
 split at h<;>try(cases h;done)
 rename_i a;simp[zda] at h;have:=ags _ _ a;grind
theorem re{b:Nat}{base:Nat->Option Ob}{s':St}:∀ (l:List<|Nat×ShO) (j:Nat) (s x:List D) (f:Nat->Option Ob),age s' l=some x->GZ s x j ->
  ∀ id o',agh b base l j s f id=some o'->f id=some o'\/(id∈l.map (·.1)/\∃ o,s'.ob id=some o/\UA o' o)
 | [],j,s,x,f,e,d,id,o',c=>.inl c
 | (t,.one u h)::l,j,s,x,f,e,d,id,o',c=>by
  obtain⟨v,y,z,h0,A,g,rfl⟩:=wR e;have m:=d.right;rw[oH h _ y A] at m;simp[agh,uw] at c;rcases re l _ s z _ g m id o' c with k|⟨n,q⟩
  ·split at k
   ·rename_i a;subst a;simp[zda] at k;subst k;exact .inr ⟨j2,_,h0,Dw⟩
   ·exact .inl k
  ·simp_all
 | (t,.many u)::l,j,s,x,f,e,d,id,o',c=>by
  obtain⟨v,z,h0,g,rfl⟩:=tU e;have r:s[j]?=some (.sl v):=by have:=d 0 j2;simpa using this
  have m:=d.right;simp[agh] at c;rcases re l _ s z _ g m id o' c with k|⟨n,q⟩
  ·split at k
   ·rename_i a;subst a;simp[zda,List.getD,r,z0b,D.els] at k;subst k;exact .inr ⟨j2,_,h0,λp=>⟨by cases p<;>rfl,by cases p<;>rfl⟩,(λu l e=>by cases e;exact⟨_,rfl,rfl⟩),λ_ _ l e=>by cases e⟩
   ·exact .inl k
  ·simp_all
 | (t,.mp u B)::l,j,s,x,f,e,d,id,o',c=>by
  obtain⟨v,z,h0,g,rfl⟩:=A7 e;have r:s[j]?=some (.sl v):=by have:=d 0 j2;simpa using this
  have m:=d.right;simp[agh] at c;rcases re l _ s z _ g m id o' c with k|⟨n,q⟩
  ·split at k
   ·rename_i a;subst a;simp[zda,List.getD,r,z0b,D.els] at k;subst k;exact .inr ⟨j2,_,h0,λp=>⟨rfl,rfl⟩,(λu l e=>by cases e),λ_ _ l e=>by cases e;exact⟨_,rfl⟩⟩
   ·exact .inl k
  ·simp_all
 | (t,.keep u w)::l,j,s,x,f,e,d,id,o',c=>by
  obtain⟨v,h0,g⟩:=tT e;simp[agh] at c;rcases re l _ s x _ g d id o' c with k|⟨n,q⟩
  ·split at k
   ·rename_i a;subst a;obtain⟨B,y,_,rfl⟩:=yg k;exact .inr ⟨j2,_,h0,Dw⟩
   ·exact .inl k
  ·simp_all
 | (t,.lp p w)::l,j,s,x,f,e,d,id,o',c=>by
  obtain⟨v,h0,g⟩:=A6 e;simp[agh] at c;rcases re l _ s x _ g d id o' c with k|⟨n,q⟩
  ·split at k
   ·rename_i a;subst a;obtain⟨i,p0,_,rfl⟩:=zP k;exact .inr ⟨j2,_,h0,PK⟩
   ·exact .inl k
  ·simp_all
 | (t,.fv u)::l,j,s,x,f,e,d,id,o',c=>by
  obtain⟨h0,g⟩:=A5 e;simp[agh] at c;rcases re l _ s x _ g d id o' c with k|⟨n,q⟩
  ·split at k
   ·rename_i a;subst a;simp[zda] at k;subst k;exact .inr ⟨j2,_,h0,PJ,(λu l e=>by cases e),λ_ _ l e=>by cases e⟩
   ·exact .inl k
  ·simp_all
theorem rd{n b:Nat}{c':Cx}(T:Two n c c'){s' base:St}(e1:c.ob=s'.ob)(e2:c.dead=s'.dead):∀ (l:List<|Nat×ShO) (j:Nat) (s x:List D) (f:Nat->Option Ob),age s' l=some x->GZ s x j->(∀ p∈l,ShO.fine n base p.1 p.2=true) ->
  (∀ p∈yk s' l j,c'.β (b+p.1)=c.β p.2)->∀ id o',agh b base.ob l j s f id=some o'->f id=some o' ∨
   ∃ o,s'.ob id=some o/\((∀ G,gM c G o->gM c' G o')\/(∃ t B,(id,ShO.keep t B)∈l/\Ob.still t (base.ob id)=some o')\/∃ p B i,(id,ShO.lp p B)∈l/\o=.lp i p/\afU p (base.ob id)=some o')
 | [],j,s,x,f,e,m,r,q,id,o',a=>.inl a
 | (t,.one u h)::l,j,s,x,f,e,m,r,q,id,o',a=>by
  obtain⟨v,y,z,h0,K,A,rfl⟩:=wR e;have F:=m.right;rw[oH h _ y K] at F;simp[agh,uw] at a;simp only[yk,zJa] at q;rcases rd T e1 e2 l _ s z _ A F (λp hp=>r p (by simp[hp])) (λp hp=>q p<|.inr hp) id o' a with k|⟨o,C,E⟩
  ·split at k
   ·rename_i g;subst g;simp[zda] at k;subst k;refine .inr ⟨_,h0,.inl λG k=>?_⟩;have d:=r (id,.one u h) j2
    simp[ShO.fine,Y] at d;simp[gM] at k ⊢;obtain⟨C,E,I,cs,J,M,N⟩:=k;rw[T.w,T.S];refine⟨C,HU b h u j s d.2,I,cs,J,DF T h v j s y cs (by rw[e1,e2];exact K) m.left d.1 (λp hp=>q p<|.inl ?_) M,N⟩
    simp_all [NY]
   ·exact .inl k
  ·simp_all
 | (t,.many u)::l,j,s,x,f,e,m,r,q,id,o',a=>by
  obtain⟨v,z,h0,A,rfl⟩:=tU e;have H:s[j]?=some (.sl v):=by have:=m 0 j2;simpa using this
  have F:=m.right;simp[agh] at a;rcases rd T e1 e2 l _ s z _ A F (λp hp=>r p (by simp[hp])) (λp hp=>q p hp) id o' a with k|⟨o,C,E⟩
  ·split at k
   ·rename_i g;subst g;simp[zda,List.getD,H,z0b,D.els] at k;subst k
    simp_all [gM,T.w,T.S]
   ·exact .inl k
  ·simp_all
 | (t,.mp u U)::l,j,s,x,f,e,m,r,q,id,o',a=>by
  obtain⟨v,z,h0,A,rfl⟩:=A7 e;have H:s[j]?=some (.sl v):=by have:=m 0 j2;simpa using this
  have F:=m.right;simp[agh] at a;rcases rd T e1 e2 l _ s z _ A F (λp hp=>r p (by simp[hp])) (λp hp=>q p hp) id o' a with k|⟨o,C,E⟩
  ·split at k
   ·rename_i g;subst g;simp[zda,List.getD,H,z0b,D.els] at k;subst k;refine .inr ⟨_,h0,.inl λG k=>?_⟩;simp[gM] at k ⊢;obtain⟨q1,O,P,L,Q,R⟩:=k;rw[T.w,T.S];exact⟨q1,O,P,L,Q,j6.same T.w T.S R⟩
   ·exact .inl k
  ·simp_all
 | (t,.keep u B)::l,j,s,x,f,e,m,r,q,id,o',a=>by
  obtain⟨v,h0,A⟩:=tT e;simp[agh] at a;rcases rd T e1 e2 l _ s x _ A m (λp hp=>r p (by simp[hp])) (λp hp=>q p hp) id o' a with k|⟨o,C,E⟩
  ·grind
  ·grind
 | (t,.lp p B)::l,j,s,x,f,e,m,r,q,id,o',a=>by
  obtain⟨v,h0,A⟩:=A6 e;simp[agh] at a;rcases rd T e1 e2 l _ s x _ A m (λp hp=>r p (by simp[hp])) (λp hp=>q p hp) id o' a with k|⟨o,C,E⟩
  ·grind
  ·grind
 | (t,.fv u)::l,j,s,x,f,e,m,r,q,id,o',a=>by
  obtain⟨h0,A⟩:=A5 e;simp[agh] at a;rcases rd T e1 e2 l _ s x _ A m (λp hp=>r p (by simp[hp])) (λp hp=>q p hp) id o' a with k|⟨o,C,E⟩
  ·split at k
   ·rename_i g;subst g;simp[zda] at k;subst k;have d:=r (id,.fv u) j2
    simp[ShO.fine,Y] at d;refine .inr ⟨_,h0,.inl λG k=>?_⟩;obtain⟨C,x,E,I,J⟩:=k;simp[gM];rw[T.w,T.S];exact⟨C,x,E,I.old T d.1 d.2,J⟩
   ·exact .inl k
  ·grind
theorem Ad:∀ {l:List<|Nat×Nat},dA (l.map Prod.snd)=true->∀ p∈l,∀ q∈l,p.2=q.2->p=q
 | [],_,p,hp,_,_,_=>by cases hp
 | x::l,h,p,hp,q,hq,e=>by
  simp[z4a,dA,Y,zCa] at h;have hx:∀ y∈l,y.2≠x.2:=λy d c=>by grind
  rcases zMa.1 hp with rfl|a
  ·simp_all
  ·rcases zMa.1 hq with rfl|b
   ·simp_all
   ·exact Ad h.2 p a q b e
theorem u4:∀ {l:List<|Nat×ShO} {id:Nat} {t:Ty} {a:Nat},(id,ShO.keep t a)∈l->id∈cG l
 | [],_,_,_,h=>by cases h
 | (i,o)::l,id,t,a,h=>by
  rcases zMa.1 h with k|k
  ·grind [cG]
  ·have ih:=u4 k;cases o<;>simp only[cG]<;>first
    | exact ih
    | exact zsa _ ih
theorem sH:∀ {l:List<|Nat×ShO} {id:Nat} {p:Option Ex} {a:Nat},(id,ShO.lp p a)∈l->id∈cG l
 | [],_,_,_,h=>by cases h
 | (i,o)::l,id,p,a,h=>by
  rcases zMa.1 h with k|k
  ·grind [cG]
  ·have ih:=sH k;cases o<;>simp only[cG]<;>first
    | exact ih
    | exact zsa _ ih
section
variable{w0:Root}{w w':World}{S S':Nat->Nat->Prop}{γ γ':Nat->Option Nat}{β β':Nat->Option (Nat×Nat)}{s s':St}{a a':Act}
def ox(h0:Rp w0 S γ β s a w)(z:Rp w0 S' γ' β' s' a' w')(K:∀ b o,S b o->S' b o)(G:∀ b o,S b o->w'.cell? ⟨b,o,none⟩=w.cell? ⟨b,o,none⟩)(a3:s'.nt=s.nt){h:Shape}
  (hs:∀ t∈h.keepS,a'.tmps.getD t undef=a.tmps.getD t undef) (aO:∀ id b,γ id=some b->γ' id=some b) (ho:∀ id∈cG h.objs,∀ b,γ id=some b->γ' id=some b/\kL w w' b) {v:List D} (R:h.dec s s'=some v) (lkS lkO:List Nat) :
  ∃ C B,Rp w0 S' C B (h.mk' s v lkS lkO) a' w'/\∀ id,id<s.base+4096->C id=γ' id:=by
 unfold Shape.dec at R;split at R<;>try(cases R;done)
 rename_i hg;simp[Y] at hg;obtain⟨hg,a8⟩:=hg;obtain⟨x,hx,R⟩:=ab R;obtain⟨y,hy,R⟩:=ab R;simp[zda] at R;subst R;simp only[Shape.good,Y,zxa,zea] at hg;obtain⟨⟨⟨⟨bt,bx⟩,U⟩,Z⟩,bz⟩:=hg;have bl:=CW s' h.slots x hx;obtain⟨n,hn⟩:∃ n,n=(s.fresh+1)*4096:=⟨_,rfl⟩;have ba:s.base+4096=n:=by rw[hn];simp only[St.base];omega
 rw[<-hn] at U Z;obtain⟨tl,L⟩:∃ tl,tl=RO s' h.slots 0++yk s' h.objs (agd h.slots):=⟨_,rfl⟩;have a5:Pl tl 0 (agd h.slots+agc h.objs):=by rw[L];have p1:=NZ s' h.slots 0;rw[zbb] at p1;exact p1.append (rA s' h.objs _) u0 u0
 have a6:dA (tl.map Prod.snd)=true:=by rw[L,zob,Cb,lg];exact a8
 have l:∀ p∈tl,p.2 ∉ s'.dead:=λp hp=>by
  rw[L] at hp;rcases zJa.1 hp with hp|hp
  ·exact wS s' _ x hx _ (by rw[<-Cb s' _ 0];exact zEb hp)
  ·exact gt s' _ y hy _ (by rw[<-lg s' _ (agd h.slots)];exact zEb hp)
 obtain⟨C,hγ⟩:∃ C:Nat->Option Nat,C=λid=>if id<n then γ' id else none:=⟨_,rfl⟩
 obtain⟨B,hβ⟩:∃ B:Nat->Option (Nat×Nat),B=λu=>if n<=u then(tl.find? λp=>p.1==u-n).bind λp=>β' p.2 else none:=⟨_,rfl⟩
 have ap:∀ id,id<n->C id=γ' id:=λid hi=>by rw[hγ];simp[hi]
 have N:∀ id b,C id=some b->id<n/\γ' id=some b:=λid b m=>by
  rw[hγ] at m;simp only at m;split at m
  ·rename_i hi;exact⟨hi,m⟩
  ·cases m
 have a9:∀ p∈tl,B (n+p.1)=β' p.2:=λp hp=>by
  rw[hβ];simp only[zbd,if_true,zyb];cases hfd:tl.find? λq=>q.1==p.1 with
  | none=> have:=List.find?_eq_none.1 hfd p hp;simp at this
  | some q=>
   have z:=List.find?_some hfd;have h2:=List.mem_of_find?_eq_some hfd;rw[a5.2 q h2 p hp (by simpa using z)]
   rfl
 have M:∀ u b,B u=some b->∃ p∈tl,u=n+p.1/\β' p.2=some b:=λu b m=>by
  rw[hβ] at m;simp only at m;split at m<;>try(cases m;done)
  rename_i hu;obtain⟨p,z,h2⟩:=ab m;refine⟨p,List.mem_of_find?_eq_some z,?_,h2⟩;have:=List.find?_some z;simp only[beq_iff_eq] at this;omega
 have aI:GZ (x++y) x 0:=λi hi=>by rw[zbb,zab hi]
 have V:GZ (x++y) y (agd h.slots):=λi hi=>by rw[<-bl,zVb u0,zyb]
 obtain⟨H,ad⟩:∃ H,H=(h.mk' s (x++y) lkS lkO).ob:=⟨_,rfl⟩;have X:H=agh n s.ob h.objs (agd h.slots) (x++y) (λ_=>none):=by rw[ad];simp only[Shape.mk',HT,zbb,<-hn]
 have T:Two n ⟨w',S',γ',β',s'.ob,s'.dead⟩ ⟨w',S',C,B,H,[]⟩:=by
  refine⟨rfl,rfl,ap,λid hi o' a4=>?_⟩;rw[X] at a4;rcases re h.objs _ _ y _ hy V id o' a4 with k|⟨_,o,P,F⟩
  ·cases k
  ·exact⟨o,P,F.1,F.2⟩
 have al:a'.tmps.size=a.tmps.size:=by rw[z.nt,a3,h0.nt]
 have a7:(h.mk' s (x++y) lkS lkO).tm=(agi n h.slots 0 (x++y)<|λi=>if h.keepS.contains i then(s.tm i).still else .undef).1:=by simp only[Shape.mk',<-hn]
 have I:=MQ (b:=n) T (s':=s') rfl rfl h.slots 0 (x++y) x (λi=>if h.keepS.contains i then(s.tm i).still else .undef) hx aI (λp hp=>(Z p hp).2) (λp hp=>a9 p (by rw[L];exact List.mem_append_left _ hp))
 refine⟨C,B,⟨z.ext,λt ht=>?_,?_,λt ht=>?_,λid o b a1 m=>?_,λid b m=>z.γn id b (N id b m).2,λid O b m g=>z.γi id O b (N id b m).2 (N O b g).2,λid hi=>?_,λu b e _ m=>?_,λu u' b e e' _ _ m g=>?_,λu id b e _ m hid=>?_,λu hu=>?_,z.Sb,z.So⟩,λid hi=>ap id u0⟩
 ·rw[a7,<-ad];rcases I t with⟨P,F⟩|⟨P,F⟩
  ·exact F _<|z.tms t ht
  ·rw[F];by_cases hk:h.keepS.contains t=true
   ·have bh:t∈h.keepS:=by simpa using hk
    rw[zma hk,hs t bh];exact oz (c:=⟨w,S,γ,β,s.ob,s.dead⟩) G K<|h0.tms t (by rw[<-al];exact ht)
   ·rw[zha hk];simp[AR]
 ·show a'.tmps.size=s.nt;rw[z.nt,a3]
 ·have bp:s.nt<=t:=ht;rw[a7];rcases I t with⟨P,F⟩|⟨P,F⟩
  ·obtain⟨p,hp,rfl⟩:=zmb.1 P;have:=(Z p hp).1;omega
  ·rw[F];split
   ·rw[h0.tmu t bp];rfl
   ·rfl
 ·have g:=(N id b m).2;rw[<-ad] at a1 ⊢;have W:=a1;rw[X] at W;rcases rd (b:=n) (base:=s) T (s':=s') rfl rfl h.objs (agd h.slots) (x++y) y _ hy V (λp hp=>(U p hp).2) (λp hp=>a9 p (by rw[L];exact z9a _ hp)) id o W with k|⟨o0,P,F|⟨t,ax,F,k3⟩|⟨p,ax,i1,F,rfl,k3⟩⟩
  ·cases k
  ·exact F b<|z.obs id o0 b P g
  ·have d:=(U _ F).2;simp[ShO.fine] at d;split at d<;>try(cases d;done)
   rename_i u O p hw;simp[Y,zea] at d;obtain⟨rfl,an⟩:=d;have Q:=h0.tms ax (by rw[h0.nt];exact an)
   rw[hw] at Q;simp[AR,AC] at Q;obtain⟨_,b0,off,_,A,_⟩:=Q;obtain⟨q1,q2⟩:=ho id (u4 F) b0 A;rw[g] at q1;simp[zda] at q1;subst q1;obtain⟨u',x',J,rfl⟩:=yg k3;have hO:=h0.obs id _ b J A;have E:=z.obs id o0 b P g;simp[gM,AC] at hO ⊢;obtain⟨r1,r2,_,cs,r3,⟨r4,r5,r6⟩,r7⟩:=hO;have q2:=q2.row r3;have bm:∀ o,¬ S' b o:=by
    cases o0
    case lp i p=> simp[gM] at E;obtain⟨rr,z1,_⟩:=E;rw[q2] at z1;simp[ce,z1] at r3
    case fv v=>exact E.1
    all_goals (simp[gM] at E;exact E.2.2.1)
   refine⟨r1,r2,bm,cs,?_,⟨r4,r5,r6.mono G K⟩,r7⟩;simp[ce,q2];exact r3
  ·have d:=(U _ F).2;simp[ShO.fine,Y,zea] at d;obtain⟨d,an⟩:=d;have Q:=h0.tms ax (by rw[h0.nt];exact an)
   obtain⟨b0,A⟩:∃ b0,γ id=some b0:=by
    split at d<;>try(cases d;done)
    ·rename_i O hw;have e:=of_decide_eq_true d;subst e;rw[hw] at Q;simp[AR,AC] at Q;obtain⟨_,b0,_,A⟩:=Q;exact⟨b0,A⟩
    ·rename_i v hw;rw[hw] at Q;split at d<;>try(cases d;done)
     rename_i O hv;have e:=of_decide_eq_true d;subst e;obtain⟨bv,_,_,bs,_⟩:=lj Q;obtain⟨_,x,_,k,_⟩:=h0.obs v _ bv hv bs;simp[gn,AR,AC] at k;obtain⟨_,b0,_,A⟩:=k;exact⟨b0,A⟩
   obtain⟨q1,q2⟩:=ho id (sH F) b0 A;rw[g] at q1;simp[zda] at q1;subst q1;obtain⟨i,p0,J,rfl⟩:=zP k3;have hO:=h0.obs id _ b J A;have E:=z.obs id _ b P g;simp[gM] at hO E ⊢;obtain⟨rec,r1,⟨r2,r3,r4,r5⟩,r6,_⟩:=hO;obtain⟨a0,v1,_,_,v4⟩:=E;have e:EY rec a0:=by
    rcases q2 with k|⟨r,r',z1,z2,z3⟩
    ·rw[v1,r1] at k;cases k;exact⟨rfl,rfl,rfl,rfl⟩
    ·rw[r1] at z1;cases z1;rw[v1] at z2;cases z2;exact z3
   refine⟨a0,v1,⟨by rw[e.1];exact r2,by rw[e.2.1];exact r3,by rw[e.2.2.1];exact r4,by rw[e.2.2.2];exact r5⟩,λt ht=>?_,v4⟩
   rw[e.1];refine gn.mono (c:=⟨w,S,γ,β,s.ob,s.dead⟩) G K (λj bj hj=>?_)<|r6 t ht;rcases zua j n with k|k
   ·exact(ap j k).trans<|aO j bj hj
   ·have a2:γ j=some bj:=hj;rw[h0.γf j u0] at a2;cases a2
 ·have bY:(s.fresh+1)*4096+4096<=id:=hi;rw[hγ];simp only;rw[zha u0]
 ·obtain⟨p,hp,_,g⟩:=M u _ m;exact z.βn _ b e (l p hp) g
 ·obtain⟨p,hp,rfl,k⟩:=M u _ m;obtain⟨q,hq,rfl,k'⟩:=M u' _ g;have:=z.βi _ _ b e e' (l p hp) (l q hq) k k';rw[Ad a6 p hp q hq this]
 ·obtain⟨p,hp,_,g⟩:=M u _ m;exact z.βγ _ id b e (l p hp) g (N id b hid).2
 ·have b1:(s.fresh+1)*4096+4096<=u:=hu;cases hc:B u with
  | none=>rfl
  | some b=> obtain⟨p,hp,e,_⟩:=M u b hc;have:=(a5.1 p hp).2;omega
end
end
section
variable{N l:List Nat}{j q:Nat->Option Nat}
variable{ro:Option Nat}{nn:Nat}
section
variable{P:Program}{E:Env}{w0:Root}{S:Nat->Nat->Prop}{γ:Nat->Option Nat}{β:Nat->Option (Nat×Nat)}{s:St}{a:Act}{w:World}
def Fm.tr{s s1:St}{S S1 S2:Nat->Nat->Prop}{γ:Nat->Option Nat}{a a1 a2:Act}{w w1 b:World}(h:Fm s S γ a w S1 j a1 w1)(k:Fm s1 S1 j a1 w1 S2 q a2 b)(e:Sk s s1):Fm s S γ a w S2 q a2 b:=h.trans k e.lkS e.lkO
def vR(s:St)(t:Nat):St:=
 match s.tm t with
  | .mem t' id=>match s.ob id with
   | some (.many u l)=>if t'.beq u&&!(s.lkO.contains id) then{ s.setOb id none with tm:=λi=>if i=t then .d (.sl u) (.sl l) else s.tm i } else s
   | _=>s
  | _=>s
def Dc(s:St)(t:Nat)(l:List Nat):iK s (t::l)=iK (vR s t) l:=rfl
def Fs(h:Rp w0 S γ β s a w)(t:Nat):∃ S',Rp w0 S' γ β (vR s t) a w/\Fm s S γ a w S' γ a w/\Sm s (vR s t):=by
 have p:∃ S',Rp w0 S' γ β s a w/\Fm s S γ a w S' γ a w/\Sm s s:=⟨S,h,Fm.refl _ _ _ _ _,Sm.refl s⟩;unfold vR;split
 ·rename_i t' id hm;split
  ·rename_i u l R;split
   ·rename_i y;simp[Y,zCa] at y;obtain⟨I,V⟩:=y;have a0:=ags _ _ I;subst a0;have U:t<a.tmps.size:=by
     rcases zua t a.tmps.size with k|k
     ·exact k
     ·have:=h.tmu t (by rw[<-h.nt];exact k)
      simp_all
    have r:=h.tms t U;rw[hm] at r;simp only[AR,AC] at r;obtain⟨L,N,b,G,r⟩:=r;obtain⟨l',cap,e1,z,O⟩:=r _ R;simp only[Ob.many.injEq,true_and] at e1;subst e1;have Q:=h.obs id _ b R G;simp only[gM] at Q;obtain⟨_,P,X,cs,rs,D,J⟩:=Q;obtain⟨S',d⟩:∃ S':Nat->Nat->Prop,S'=λb' o=>S b' o\/b'=b:=⟨_,rfl⟩;have j:∀ b' o,S b' o->S' b' o:=λb' o g=>by rw[d];exact .inl g
    have A:Cx.le ⟨w,S,γ,β,s.ob,s.dead⟩ ⟨w,S',γ,β,(s.setOb id none).ob,s.dead⟩:=by
     refine⟨λ_ _ _=>rfl,j,λ_ _ k=>k,λi o hi _=>?_,λv O=>⟨O,λb e H=>⟨H,λn W=>W⟩⟩⟩
     simp_all [St.setOb]
    refine⟨S',⟨h.ext,λi hi=>?_,h.nt,λi hi=>?_,λi o b' hi x=>?_,h.γn,h.γi,h.γf,λv b' e F H=>?_,h.βi,h.βγ,h.βf,λb' o g=>?_,λb' o g B=>?_⟩,⟨j,λ_ _ _=>rfl,λ_ _=>rfl,λ_ _ _ g=>⟨g,kL.refl _ _⟩,zja _,λ_ _ g=>g,mz.same rfl (dN.refl _)⟩,⟨rfl,rfl,rfl,rfl⟩⟩
    ·by_cases m:i=t
     ·subst m;simp only[if_true];have E:=ak L O;rw[E];refine dC (by simpa only[aj] using N) (by simp only[wt];exact⟨l,rfl,P⟩)<|afQ ?_
      refine afw (b:=b) (off:=0) (.inr rfl) z ⟨cs,J.mono (λ_ _ _=>rfl) j,λi c y=>⟨by rw[d];exact .inr rfl,?_⟩⟩
      rw[zbb,cell_of_row w D];have:=(zra.1 y).1;rw[<-y,zuc,zab this]
     ·simp only[zha m];exact(h.tms i hi).mono A
    ·have K:s.nt<=i:=hi;have m:i≠t:=λe=>by rw[h.nt] at U;omega
     simp[zha m];exact h.tmu i K
    ·simp only[St.setOb] at hi;split at hi<;>try(cases hi;done)
     rename_i M;refine(h.obs i o b' hi x).mono A rfl λo q=>?_;have C:=q;rw[d] at C;rcases C with k|k
     ·exact k
     ·subst k;exact z8a (h.γi i id b' x G) M
    ·obtain⟨Z,k2,k3⟩:=h.βn v b' e F H;refine⟨Z,k2,λo q T=>?_⟩;rw[d] at T;rcases T with k|k
     ·exact k3 o q k
     ·subst k;exact h.βγ v id b' e F H G
    ·rw[d] at g;rcases g with k|k
     ·exact h.Sb b' o k
     ·subst k;exact(h.γn id b' G).2
    ·rw[d] at g;rcases g with k|k
     ·exact h.So b' o k B
     ·subst k;exact z8a B (h.γn id b' G).1
   ·exact p
  ·exact p
 ·omega
theorem ue:∀ (l:List Nat) {S:Nat->Nat->Prop} {s:St},Rp w0 S γ β s a w->∃ S',Rp w0 S' γ β (iK s l) a w/\Fm s S γ a w S' γ a w/\Sm s (iK s l)
 | [],S,s,h=>⟨S,h,Fm.refl _ _ _ _ _,Sm.refl s⟩
 | t::l,S,s,h=>by obtain⟨S1,d,b,m1⟩:=Fs h t;obtain⟨S2,e,c,m2⟩:=ue l d;rw[Dc];exact⟨S2,e,b.trans c m1.lkS m1.lkO,m1.trans m2⟩
theorem Yl{e a:Ex}(h:e.is a=true):e=a:=by cases e<;>cases a<;>simp[Ex.is,zea] at h<;>first|rfl|(cases h;done)|(rw[h])
theorem uU{e:Ex}:∀ {l:List<|Ex×Shape} {i j:Nat} {h:Shape},xd e l i=some (j,h)->i<=j/\l[j-i]?=some (e,h)
 | [],_,_,_,k=>by simp[xd] at k
 | (a,b)::l,i,j,h,k=>by
  simp[xd] at k;split at k
  ·grind [Option.some.injEq,Prod.mk.injEq,Yl]
  ·obtain⟨c,d⟩:=uU k;grind
theorem kX{R:Type}{base:St}{k:Ex->St->Option R}{c:List Nat}{r:R}{e:Ex}{h:Shape}{v:List D}:∀ {l:List<|Ex×Shape} {i j:Nat},i<=j->l[j-i]?=some (e,h)->nN base k N c l i (j,v)=some r ->
  k e (h.mk' base v base.lkS base.lkO)=some r/\subset h.keepS N=true/\subset (cG h.objs) c=true
 | [],_,_,_,hl,_=>by simp at hl
 | [(d,f)],i,j,b,hl,a=>by
  have:j-i=0:=by grind
  rw[this] at hl;simp[zAb,zda,Prod.mk.injEq] at hl
  simp_all [nN,Y]
 | (d,f)::x::l,i,j,b,hl,a=>by
  simp only[nN] at a;split at a<;>try(cases a;done)
  rename_i m;simp only[Y] at m;split at a
  ·simp_all
  ·rename_i g;refine kX (i:=i+1) u0 ?_ a
   grind
def gL{l':List Nat}(h:subset l l'=true):∀ x∈l,x∈l':=λx hx=>by
 have:=zxa.1 h x hx
 simp_all
def Rp.lk(h:Rp w0 S γ β s a w)(lkS lkO:List Nat):Rp w0 S γ β { s with lkS:=lkS,lkO:=lkO } a w:=
 ⟨h.ext,h.tms,h.nt,h.tmu,h.obs,h.γn,h.γi,h.γf,h.βn,h.βi,h.βγ,h.βf,h.Sb,h.So⟩
def Fm.shape{s2:St}{S':Nat->Nat->Prop}{a':Act}{w':World}(h0:Rp w0 S γ β s a w)(h:Fm s2 S γ a w S' j a' w')(d:∀ id,id<s.base+4096->q id=j id):Fm s2 S γ a w S' q a' w':=
 ⟨h.sub,h.cell,h.slots,λid hid b c=>by
  obtain⟨e,g⟩:=h.objs id hid b c;refine⟨?_,g⟩;rw[d id ?_]
  ·exact e
  ·rcases zua id (s.base+4096) with k|k
   ·exact k
   ·rw[h0.γf id k] at c;exact z8a c j2,h.sz,λid b c=>by
  rw[d id ?_]
  ·exact h.gam id b c
  ·rcases zua id (s.base+4096) with k|k
   ·exact k
   ·rw[h0.γf id k] at c;exact z8a c j2,h.dfs⟩
def uK{base:St}{a:List<|Ex×Shape}{e:Ex}{s':St}{r:Nat×List D}(h:GD base a e s'=some r):∃ sh,a[r.1]?=some (e,sh)/\sh.dec base s'=some r.2:=by
 unfold GD at h;obtain⟨q,b,h⟩:=ab h;obtain⟨v,c,h⟩:=ab h;simp[zda] at h;subst h;obtain⟨_,d⟩:=uU b
 simp_all
end
end
end Sy
end
noncomputable section
namespace Sy
open Go
open Go.ChangeMaps (setBlock)
open Go.RowKit
variable{ro:Option Nat}{nn:Nat}
section
variable{P:Program}{E:Env}{w0:Root}{S:Nat->Nat->Prop}{γ:Nat->Option Nat}{β:Nat->Option (Nat×Nat)}{s:St}{a:Act}{w:World}
def Kp(Q:Exit->Act->World->Prop)(w0:Root)(s:St)(S:Nat->Nat->Prop)(γ:Nat->Option Nat)(a:Act)(w:World){R:Type}(k:Ex->St->Option R)(r:R):Prop:=
 ∀ e s' S' b c a' w',Rp w0 S' b c s' a' w'->Fm s S γ a w S' b a' w'->Sk s s'->k e s'=some r->Q (Mb e) a' w'
def N3{c:Cx}{x:AV}{v:Value}(h:AR c x v):gn c (kE c.ob x) v:=by
 cases x<;>simp only[kE]<;>first|(simp only[gn];done)|skip
 case d t y=>exact h
 case own t u l=>exact oz (c:=c) (c':=c) (λ_ _ _=>rfl) (λ_ _ h=>h) h
 case fptr t y=>exact h
 case ptr t id p=>
  cases p with
  | cons i p=>simp only[gn]
  | nil=>
   simp only;split
   ·rename_i a;simp only[AR] at h;simp only[gn,ws];exact Ai a h.1 h.2
   ·simp only[gn]
 case clo f l=>exact Id h
 case yld id=>exact h
 case map kt vt id=>exact Ie h
def Rp.act(h:Rp w0 S γ β s a w){a':Act}(b:a'.tmps=a.tmps):Rp w0 S γ β s a' w:=
 ⟨h.ext,by rw[b];exact h.tms,by rw[b];exact h.nt,h.tmu,h.obs,h.γn,h.γi,h.γf,h.βn,h.βi,h.βγ,h.βf,h.Sb,h.So⟩
def L5(d:∀ l,ro=some l->∃ r0,w.heap[l]?=some (Obj.loop r0))(a:FuncId)(tmps:Array Value)(ps:Array Tmp)(asg bdy:Code) :
  ∃ L mark os rec,(Instr.enterLoop a tmps ps asg bdy ro).run P w=.ok (L,mark) (grown w os w.drawn)/\(grown w os w.drawn).heap[L]?=some (Obj.loop rec)/\rec.tmps=tmps/\rec.params=ps/\rec.assign=asg/\rec.body=bdy/\rec.state=.ready/\rec.pending=none ∧
   w.heap.size<=L/\cQ w.heap.size (grown w os w.drawn) (grown w os w.drawn).heap.size mark:=by
 cases ro with
 | none=>
  obtain⟨W1,b⟩:∃ W1,W1=(w.alloc<|.deferred<|some []).alloc (.loop { state:=.ready,pending:=none,fn:=a,tmps,params:=ps,assign:=asg,body:=bdy,defers:=w.heap.size }):=⟨_,rfl⟩;have c:W1=grown w [.deferred<|some [],.loop { state:=.ready,pending:=none,fn:=a,tmps,params:=ps,assign:=asg,body:=bdy,defers:=w.heap.size }] w.drawn:=by rw[b];unfold grown;congr 1<;>(apply zkc;simp)
  have f:W1.heap[w.heap.size+1]?=some (.loop { state:=.ready,pending:=none,fn:=a,tmps,params:=ps,assign:=asg,body:=bdy,defers:=w.heap.size }):=by rw[b];have:=World.alloc_heap_new (w.alloc<|.deferred<|some [])<|.loop { state:=.ready,pending:=none,fn:=a,tmps,params:=ps,assign:=asg,body:=bdy,defers:=w.heap.size };rwa [World.size_alloc] at this
  have e:W1.heap[w.heap.size]?=some (.deferred<|some []):=by rw[b];exact(Below.heap_alloc _ _ _ j2).trans<|World.alloc_heap_new w _
  refine⟨w.heap.size+1,[{ target:=.collected w.heap.size,args:=#[] }],[.deferred<|some [],.loop { state:=.ready,pending:=none,fn:=a,tmps,params:=ps,assign:=asg,body:=bdy,defers:=w.heap.size }],{ state:=.ready,pending:=none,fn:=a,tmps,params:=ps,assign:=asg,body:=bdy,defers:=w.heap.size },(run_enterLoop_outer a tmps ps asg bdy).trans ?_,?_,rfl,rfl,rfl,rfl,rfl,rfl,zIc _,w.heap.size,rfl,zja _,?_,?_,trivial⟩
  rotate_left 1
  ·simp_all
  rotate_left 1
  ·simp_all
  ·simp_all
  ·grind
 | some l0=>
  obtain⟨r0,h0⟩:=d l0 rfl;obtain⟨W1,b⟩:∃ W1,W1=w.alloc (.loop { state:=.ready,pending:=none,fn:=a,tmps,params:=ps,assign:=asg,body:=bdy,defers:=r0.defers }):=⟨_,rfl⟩;have c:W1=grown w [.loop { state:=.ready,pending:=none,fn:=a,tmps,params:=ps,assign:=asg,body:=bdy,defers:=r0.defers }] w.drawn:=by simp_all [grown]
  refine⟨w.heap.size,[],[.loop { state:=.ready,pending:=none,fn:=a,tmps,params:=ps,assign:=asg,body:=bdy,defers:=r0.defers }],{ state:=.ready,pending:=none,fn:=a,tmps,params:=ps,assign:=asg,body:=bdy,defers:=r0.defers },(run_enterLoop_inner h0 a tmps ps asg bdy).trans ?_,?_,rfl,rfl,rfl,rfl,rfl,rfl,zja _,trivial⟩
  rotate_left 1
  ·rw[<-c,b];exact World.alloc_heap_new w _
  ·simp_all
def Vp(hE:EnvOk P E){Q:Exit->Act->World->Prop}(hro:∀ l,ro=some l->∃ r0,w.heap[l]?=some (Obj.loop r0))(h:Rp w0 S γ β s a w){f:Operand}{ps:Array Tmp}{asg bdy:Code}{an:Ann}{R:Type}{k:Ex->St->Option R}{r:R}
  (hev:evN E f ps asg bdy an s k=some r) (hQ:Kp Q w0 s S γ a w k r):(Code.rangeFunc f ps asg bdy).wpIn (FW ro) nn P Q a w:=by
 unfold evN at hev;split at hev<;>try(cases hev;done)
 rename_i t;split at hev<;>try(cases hev;done)
 rename_i g l htm;split at hev<;>try(cases hev;done)
 rename_i hcond;simp only[Y,zCa] at hcond;obtain⟨hp,h4095⟩:=hcond;obtain⟨G,hG,hev⟩:=ab hev;obtain⟨id,hid⟩:∃ id,id=(s.fresh+1)*4096:=⟨_,rfl⟩;rw[<-hid] at hev;obtain⟨info,hinfo⟩:∃ info:LpI,info={ nt:=s.nt,ps:=ps.toList,asg:=asg,bdy:=bdy,caps:=λj=>kE s.ob (s.tm j) }:=⟨_,rfl⟩;rw[<-hinfo] at hev;obtain⟨⟨fn,f1,f2,f3⟩,hI⟩:=hE.inl g G hG;have hb:¬ fn.body=none:=i4
 have f2' : ¬ fn.name = "runtime.NumGoroutine" := by simpa using f2
 refine wpIn_rangeFunc λfid _=>?_;obtain⟨L,mark,os,rec,e1,e2,e3,e4,e5,e6,e7,e8,e9,e10⟩:=L5 (P:=P) hro fid a.tmps ps asg bdy;obtain⟨w1,hw1⟩:∃ w1,w1=grown w os w.drawn:=⟨_,rfl⟩;obtain⟨g1,le1⟩:=h.grow (os:=os) (d:=w.drawn) (zja _) (S':=S) (λ_ _ hb=>hb)<|λ_ _ hb=>.inl hb;have kept1:dN w (grown w os w.drawn):=dN.grown;have hsz1:w.heap.size<=(grown w os w.drawn).heap.size:=j2
 have hcell1:∀ b o,S b o->(grown w os w.drawn).cell? ⟨b,o,none⟩=w.cell? ⟨b,o,none⟩:=λb o hb=>eP<|h.Sb b o hb;have hold1:∀ b,b<w.heap.size->(grown w os w.drawn).heap[b]?=w.heap[b]?:=λb hb=>dL hb;rw[<-hw1] at e1 e2 e10 g1 kept1 hsz1 hcell1 hold1;clear le1 hw1;have hLlt:=(zqa.1 e2).1;have hγid:=h.γf id (by rw[hid];simp only[St.base];omega)
 obtain⟨sX,hsX⟩:∃ sX,sX=({ s with fresh:=s.fresh+1 }:St).setOb id (some<|.lp info none):=⟨_,rfl⟩;rw[<-hsX] at hev;have q1:Rp w0 S γ β sX a w1:=by rw[hsX];exact(g1.later.setFree (id:=id) hγid _).1
 have RX:Rp w0 S (pQ γ id L) β sX a w1:=by
  refine(q1.newOb (id:=id) (b:=L) hγid (λho=>?_) hLlt (λi hi=>?_) (λu f hu hf=>?_) ?_ λo ho=>?_).1
  ·have:=ho.1;have:=h.ext.sz;omega
  ·have:=(h.γn i _ hi).2;omega
  ·have hu':u ∉ s.dead:=by rw[hsX] at hu;exact hu
   have:=(h.βn u _ _ hu' hf).2.1;omega
  ·rw[hsX];show id<(s.fresh+1)*4096+4096;omega
  ·have ho':some (Ob.lp info none)=some o:=by rw[<-ho,hsX];simp[St.setOb]
   cases ho';simp only[gM];refine⟨rec,e2,⟨by rw[e3,hinfo];exact h.nt,by rw[e4,hinfo],by rw[e5,hinfo],by rw[e6,hinfo]⟩,λu hu=>?_,e7,e8⟩
   rw[e3,hinfo];have hu':u<s.nt:=by rw[hinfo] at hu;exact hu
   exact gn.mono (c:=⟨w,S,γ,β,s.ob,s.dead⟩) (c':=⟨w1,S,pQ γ id L,β,sX.ob,sX.dead⟩) hcell1 (λ_ _ hb=>hb) (λi b hb=>fM hγid hb)<|N3<|h.tms u (by rw[h.nt];exact hu')
 have hA:=aT RX<|.tmp t;have htX:sX.tm t=.clo g l:=by rw[hsX];exact htm
 have hA':AR ⟨w1,S,pQ γ id L,β,sX.ob,sX.dead⟩ (.clo g l) (a.eval<|.tmp t):=by rw[<-htX];exact hA
 simp only[AR,AC] at hA';obtain⟨na,caps,hcs,hcap⟩:=hA';have hv:=ak na hcs;obtain⟨k1,k2⟩:=nE l caps hp hcap;refine⟨L,mark,w1,{ target:=.fn (.func g) caps.toArray,args:=#[.func (.yield L) #[] #[]] },w1,g,(Value.func (.yield L) #[] #[]::caps).toArray,w1,e1,?_,λ_ _=>trivial,?_,λh=>(by cases h),?_⟩
 ·simp_all [resolve,go_sem,Deferred.ofValue,Act.eval]
 ·simp[invoke,callFunc,f1,f2',hb]
 have hc:=hI an R w0 S (pQ γ id L) β sX a w1 (.yld id::l) (Value.func (.yield L) #[] #[]::caps) _ r RX (by simp[k1]) (λi x v hx hv=>by
  cases i with
  | zero=> simp[zAb,zda] at hx hv;subst hx;subst hv;simp only[AR,AC];exact⟨λ_ h=>(by cases h),L,rfl,bN _ _ _⟩
  | succ i=>exact k2 i x v (by simpa using hx) (by simpa using hv)) hev
 refine CI<|hc.mono λe w' ⟨v,y,s',S',γ',β',z1,z2,z3,_,z5,z6⟩=>?_;subst z1;have hγ':=z5.gam id L<|bN _ _ _;have fin:∀ (p:Option Ex) (i:LpI),s'.ob id=some (.lp i p)->∃ w4,(Instr.endLoop L).run P w'=.ok (p.map Fa) w4/\Rp w0 S' γ' β' (s'.setOb id none) { a with defers:=mark++a.defers } w4/\Fm s S γ a w S' γ' { a with defers:=mark++a.defers } w4/\Sk s (s'.setOb id none):=by
  intro p i hob;have hO:=z3.obs id _ L hob hγ';simp[gM] at hO;obtain⟨rec',v1,_,_,v4⟩:=hO;have hst:rec'.state≠.busy/\rec'.pending=p.map Fa:=by
   cases p with
   | none=>exact⟨by rw[v4.1];simp,v4.2⟩
   | some e=>exact⟨by rw[v4.1];simp,v4.2⟩
  have F4:=Fm.setLp z3 (s1:=s) v1 (r':={ rec' with state:=.exhausted }) ⟨rfl,rfl,rfl,rfl⟩;have hlkO:sX.lkO=s.lkO:=by rw[hsX];rfl
  have hlkS:sX.lkS=s.lkS:=by rw[hsX];rfl
  have hnt:sX.nt=s.nt:=by rw[hsX];rfl
  refine⟨_,by rw[<-hst.2];exact run_endLoop v1 hst.1,(z3.setLp hγ' v1 _).act rfl,⟨z5.sub,λb o hb=>(F4.cell b o<|z5.sub b o hb).trans<|(z5.cell b o hb).trans<|hcell1 b o hb,λ_ _=>rfl,λj hj b hb=>?_,zva hsz1<|zva z5.sz F4.sz,λj b hb=>z5.gam j b<|fM hγid hb,?_,mark,rfl,?_,?_⟩,⟨z6.lkS.trans hlkS,z6.lkO.trans hlkO,z6.nt.trans hnt⟩⟩
  ·obtain⟨y1,y2⟩:=z5.objs j (by rw[hlkO];exact hj) b<|fM hγid hb
   obtain⟨_,y3⟩:=F4.objs j hj b y1;exact⟨y1,(kL.trans (.inl<|hold1 b (h.γn j b hb).2) y2).trans y3⟩
  ·exact(kept1.trans z5.dfs.1).trans F4.dfs.1
  ·exact e10.mono (zja _) (z5.dfs.1.trans F4.dfs.1)<|zva z5.sz F4.sz
  ·intro hh;have:s.lkO.contains 4095=true:=by simpa using hh
   rw[this] at h4095;cases h4095
 simp[rangePost];split at z2<;>try(cases z2;done)
 ·rename_i i hob;obtain⟨w4,y1,y2,y3,y4⟩:=fin none i hob;exact⟨_,w4,y1,hQ .normal _ S' γ' β' _ w4 y2 y3 y4 z2⟩
 ·rename_i i e hob;obtain⟨w4,y1,y2,y3,y4⟩:=fin (some e) i hob;refine⟨_,w4,y1,?_⟩;have hq:=hQ e _ S' γ' β' _ w4 y2 y3 y4 z2;cases e with
  | normal=>exact wpIn_skip hq
  | exit j=>exact wpIn_exit hq
  | ret=>exact wpIn_ret hq
end
end Sy
end
noncomputable section
namespace Sy
open Go
section
variable{z:Nat->Option Ob}{B:Oper}
variable{ro:Option Nat}{nn:Nat}
section
variable{V:Nat->St->Option AV}{ops:Array Oper}{md:Region.Mode}
def yf(V:Nat->St->Option AV)(ops:Array Oper)(i:Nat)(K:St->Prop)(s:St):Prop:=
 match ops[i]? with
 | none=>K s
 | some o=>∃ v,V i s=some v/\K (s.put o.dst v)
def xm(V:Nat->St->Option AV)(md:Region.Mode)(ops:Array Oper)(n:Nat)(L:Array Bool->St->Prop):Nat->Array Bool->St->Prop
 | 0,a,s=>L a s
 | f+1,a,s=>Region.ready md ops a≠[]/\∀ i∈Region.ready md ops a,i<n/\yf V ops i (xm V md ops n L f<|a.setIfInBounds i true) s
def o9(V:Nat->St->Option AV)(ops:Array Oper):Nat->Nat->St->Option St
 | 0,_,s=>some s
 | c+1,k,s=>(V k s).bind λv=>o9 V ops c (k+1)<|s.put ((ops[k]?).bind (·.dst)) v
theorem Eo:∀ (c d k:Nat) (s:St),o9 V ops (c+d) k s=(o9 V ops c k s).bind λs'=>o9 V ops d (k+c) s'
 | 0,d,k,s=>by simp[o9]
 | c+1,d,k,s=>by
  rw[show c+1+d=(c+d)+1 by omega]
  simp[o9];cases V k s with
  | none=>rfl
  | some v=> simp[zba];rw[Eo c d<|k+1,show k+1+c=k+(c+1) by omega]
def VOk(V:Nat->St->Option AV)(ops:Array Oper):Prop:=∀ i a,ops[i]?=some a->∀ (s:St) (d:Option Nat) (v:AV),(∀ t,d=some t->t ∉ a.looksAt ops)->V i (s.put d v)=V i s
theorem Dj{n i:Nat}{v:AV}{L:Array Bool->St->Prop}(A:VOk V ops)(hi:ops[i]?=some B)(C:pu md ops n)(r:i<n)
  (o:∀ a s,L a s->∀ j∈Region.ready md ops a,n<=j) :
  ∀ (f:Nat) (a:Array Bool) (s:St),HeadInv md ops n a ->
   (∀ j m,ops[j]?=some m->j≠i->a.getD j true=false->(∀ e∈m.after,Region.binds md e=true->e.on≠i)->B.apart ops m=true) ->
   i∈Region.ready md ops a->V i s=some v ->
   xm V md ops n L f (a.setIfInBounds i true) (s.put B.dst v)->xm V md ops n L (f+1) a s:=by
 intro f
 induction f with
 | zero=>
  intro a s inv _ l F H;have g:=(mem_ready.1 l).1;refine⟨λh=>(by rw[h] at l;cases l),λj p=>?_⟩
  have c:j<n:=by
   rcases zua j n with h|h
   ·exact h
   ·exact z8a p<|C _ _ inv r g j h
  refine⟨c,?_⟩;by_cases hji:j=i
  ·simp_all [yf]
  ·have:=o _ _ H j<|ready_mono p hji;omega
 | succ f ih=>
  intro a s inv b l F H;have g:=(mem_ready.1 l).1;refine⟨λh=>(by rw[h] at l;cases l),λj p=>?_⟩
  have c:j<n:=by
   rcases zua j n with h|h
   ·exact h
   ·exact z8a p<|C _ _ inv r g j h
  refine⟨c,?_⟩;by_cases hji:j=i
  ·simp_all [yf]
  ·have x:=(H.2 j<|ready_mono p hji).2;obtain⟨t,m,q,D⟩:=mem_ready.1 p;have w:∀ e∈m.after,Region.binds md e=true->e.on≠i:=λe E N heq=>by
    grind
   obtain⟨a1,a2,I⟩:=Oper.apart_spec<|b j m q hji t w;unfold yf at x ⊢;rw[q] at x ⊢;obtain⟨u,G,M⟩:=x;rw[A j m q _ _ _ a1] at G;refine⟨u,G,ih (a.setIfInBounds j true) (s.put m.dst u) (inv.set p c) (λk ok K y g z=>?_) (ready_mono l<|Ne.symm hji) ?_ ?_⟩
   ·refine b k ok K y ?_ z;by_cases hjk:j=k
    ·simp_all
    ·simp_all
   ·rw[A i B hi _ _ _ I];exact F
   ·rw[Array.setIfInBounds_comm _ _ hji,D6 u v<|λd J E=>a2 d E J];exact M
theorem zG{n g:Nat}{sF:St}(p:VOk V ops)(w:n<=ops.size)(q:pu md ops n) :
  ∀ (c k:Nat) (a:Array Bool) (s:St),k+c=n->HeadInv md ops n a->(∀ i,i<k->a.getD i false=true) ->
  Region.lexHead md ops g c k a=true->o9 V ops c k s=some sF ->
  xm V md ops n (λb s'=>Region.seqB md ops g n b=true/\(∀ i,i<n->b.getD i false=true)/\s'=sF) c a s
 | 0,k,a,s,r,_,hl,j,h=>by
  have:k=n:=by simpa using r
  subst this;simp[o9,zda] at h;exact⟨by simpa [Region.lexHead] using j,hl,h⟩
 | c+1,k,a,s,r,inv,hl,j,h=>by
  have d:k<n:=u0
  have m:k<ops.size:=u0
  have h0:=zLb m;simp[Region.lexHead,Y] at j;obtain⟨⟨x,u⟩,l⟩:=j;have f:k∈Region.ready md ops a:=by simpa using x
  simp[o9] at h;obtain⟨v,t,o⟩:=ab h;rw[h0,zba] at o;refine Dj p h0 q d (λb s' hL=>seqB_ready hL.1) c a s inv (Region.free_spec h0 u) f t
   (zG p w q c (k+1) _ _ u0 (inv.set f d) (λi hi=>?_) l o)
  by_cases e:i=k
  ·simp_all [inv.size]
  ·exact getD_set_true<|hl i u0
theorem zF{n:Nat}{L:Array Bool->St->Prop}{T:List Nat}:∀ (f:Nat) (a:Array Bool) (s:St),xm V md ops n L f a s ->
  (∀ t∈T,∀ j k,ops[j]?=some k->a.getD j true=false->k.dst≠some t)->∃ b s',L b s'/\(∀ t∈T,s'.tm t=s.tm t)/\s'.ob=s.ob/\Sm s s'
 | 0,a,s,h,_=>⟨a,s,h,λ_ _=>rfl,rfl,Sm.refl s⟩
 | f+1,a,s,h,r=>by
  obtain⟨w,x⟩:=h;obtain⟨i,hi⟩:=zod _ w;obtain⟨y,c⟩:=x i hi;obtain⟨q,o,u,_⟩:=mem_ready.1 hi;unfold yf at c;rw[u] at c;obtain⟨v,_,A⟩:=c;obtain⟨l',s',m1,m2,B,C⟩:=zF f _ _ A (λt d j k z g=>by
   by_cases e:i=j
   ·subst e;exfalso;rcases zua i a.size with m|l
    ·simp[Array.getD,m] at g
    ·simp[Array.getD,zOc.2 l] at g
   ·rw[getD_set_ne true e] at g;exact r t d j k z g)
  have p:=agm s o.dst v;exact⟨l',s',m1,λt d=>(m2 t d).trans<|BO<|r t d i o u q,B.trans p.1,(Sm.put s o.dst v).trans C⟩
end
section
variable{E:Env}{ops:Array Oper}
def pJ(E:Env)(ops:Array Oper)(n id i:Nat)(s:St):Option AV:=if i=n then some .undef else xt E ops n id i s some
theorem Am(s:St)(d:Option Nat)(v:AV)(id:Nat)(o:Option Ob):(s.put d v).setOb id o=(s.setOb id o).put d v:=by
 cases d with
 | none=>rfl
 | some d=>
  by_cases h:d<s.nt
  ·simp_all [St.put,St.setOb]
  ·grind [St.put,St.setOb]
def ME(n id:Nat):VOk (pJ E ops n id) ops:=by
 intro i a hi s d v h;unfold pJ;split
 ·rfl
 ·obtain⟨p1,c,j,k,f,l,m⟩:=agm s d v;obtain⟨q1,g,o,p,q,r,u⟩:=agm (s.setOb id none) d v;have e1:pK (s.put d v) a=pK s a:=by simp[pK,f]
  have hx:∀ x∈a.op.operands,∀ t,d=some t->x≠.tmp t:=λx hx t b e=>h t b (by subst e;exact List.mem_append_left _<|z4c.2 ⟨.tmp t,by simpa using hx,rfl⟩)
  have e2:qv E (s.put d v) a some=qv E s a some:=xS p1 c λx hm=>vU<|hx x hm;have e3:qv E ((s.put d v).setOb id none) a some=qv E (s.setOb id none) a some:=by rw[Am];exact xS q1 g λx hm=>vU<|hx x hm
  simp_all [xt]
def Ds{R:Type}{n id i:Nat}{s:St}{K:AV->Option R}{r:R}(h:xt E ops n id i s K=some r):∃ v,xt E ops n id i s some=some v/\K v=some r:=by
 unfold xt at h ⊢;split at h<;>try(cases h;done)
 split at h<;>try(cases h;done)
 rename_i a;rw[zha a];split at h
 ·rename_i b;rw[zma b];exact ju h
 ·rename_i b;rw[zha b];split at h<;>try(cases h;done)
  rename_i c;rw[zma c];exact ju h
theorem Hx{R:Type}{n id:Nat}{K:St->Option R}{r:R}:∀ (c k:Nat) (s:St),k+c<=n->Vo E ops n id c k s K=some r->∃ s',o9 (pJ E ops n id) ops c k s=some s'/\K s'=some r
 | 0,k,s,_,h=>⟨s,rfl,h⟩
 | c+1,k,s,f,h=>by
  simp[Vo] at h;obtain⟨v,a,b⟩:=Ds h;obtain⟨s',d,e⟩:=Hx c (k+1) _ u0 b
  refine⟨s',?_,e⟩;simp[o9,pJ,zha (show ¬ k=n by omega),a,zba]
  exact d
mutual
theorem Ce(ob ob':Nat->Option Ob):∀ (t:Ty) (a:AV),afv ob t a=afv ob' t a
 | t,.st ts l=>by simp[afv,Iw ob ob' ts l]
 | t,.d _ _=>by simp_all [afv]
 | t,.own _ _ _=>by cases t<;>simp[afv]
 | t,.nils=>by simp_all [afv]
 | t,.ptr _ _ _=>by cases t<;>simp[afv]
 | t,.yld _=>by simp_all [afv]
 | t,.fptr _ _=>by cases t<;>simp[afv]
 | t,.mem _ _=>by cases t<;>simp[afv]
 | t,.clo _ _=>by cases t<;>simp[afv]
 | t,.map _ _ _=>by cases t<;>simp[afv]
 | t,.sub _ _ _ _ _ _=>by cases t<;>simp[afv]
 | t,.gone=>by simp_all [afv]
 | t,.tpo _ _ _ _=>by cases t<;>simp[afv]
 | t,.undef=>by simp_all [afv]
theorem Iw(ob ob':Nat->Option Ob):∀ (ts:List Ty) (l:List AV),AV.toDl ob ts l=AV.toDl ob' ts l
 | [],[]=>rfl
 | [],_::_=>rfl
 | _::_,[]=>rfl
 | t::ts,a::l=>by simp[AV.toDl,Ce ob ob' t a,Iw ob ob' ts l]
end
theorem Ah{s s':St}(a:s'.tm=s.tm)(ty:Nat->Option Ty):∀ l:List<|Nat×Operand,partsD s'.ob s' ty l=partsD s.ob s ty l
 | []=>rfl
 | (i,x)::l=>by
  have e:s'.opA x=s.opA x:=by cases x<;>simp[St.opA,a]
  simp[partsD,e,Ah a ty l];cases ty i with
  | none=>rfl
  | some t=>simp[zba,Ce s'.ob s.ob t]
def ze{ob:Nat->Option Ob}(h:∀ j o,ob j=some o->z j=some o){x:AV}(hp:gH (nJ ob x)=true):nJ z x=nJ ob x:=by
 unfold nJ at hp ⊢;split
 ·rename_i t id;simp only at hp;cases a:ob id with
  | none=>rw[a] at hp;cases hp
  | some o=>rw[h _ _ a]
 ·rfl
def E7{ob:Nat->Option Ob}(h:∀ j o,ob j=some o->z j=some o){x:AV}(a:np (pz ob x)=true):pz z x=pz ob x:=by
 cases x<;>simp only[pz] at a ⊢
 case ptr t id p=>
  refine ze h ?_;unfold nJ at a ⊢;split at a<;>try(cases a;done)
  split at a<;>try(cases a;done)
 case clo f l=>
  split at a<;>try(cases a;done)
  rename_i hl;rw[zma hl];have e:=zqc λx hx=>ze h<|zxa.1 hl _<|zEb hx
  simp_all
 case map kt vt id=>
  cases ho:ob id with
  | none=>rw[ho] at a;cases a
  | some o=>rw[h _ _ ho]
theorem I9{s s':St}{id:Nat}(m:s'.tm=s.tm)(A:s'.fresh=s.fresh)(C:∀ j,j≠id->s'.ob j=s.ob j)(hid:s.ob id=none){o:Oper}(l:xq o=true){v:AV}(h:qv E s o some=some v):qv E s' o some=some v:=by
 have op:∀ x,s'.opA x=s.opA x:=λx=>by cases x<;>simp[St.opA,m]
 have n:∀ {j:Nat} {ob:Ob},s.ob j=some ob->s'.ob j=some ob:=λ{j ob} D=>by all_goals grind
 obtain⟨w,q,ty,pos,after,guard⟩:=o;cases q<;>simp[xq] at l<;>try(cases l;done)
 case build T ps=>
  simp only[qv] at h ⊢;obtain⟨t,d,g⟩:=ab h;rw[d,zba];have e2:∀ ts,ps.toList.all (gR s' ts)=ps.toList.all (gR s ts):=λts=>by congr 1;funext p;simp only[gR,op]
  have e3:(ps.toList.map λp=>(p.1,s'.opA p.2))=ps.toList.map λp=>(p.1,s.opA p.2):=by simp only[op]
  cases t<;>simp only[Ah m,e2,e3]<;>exact g
 case load T a=>
  simp[qv] at h ⊢;cases hfn:E.fnT T with
  | true=>
   rw[hfn] at h;simp[cond_true] at h ⊢;split at h<;>try(cases h;done)
   rename_i j e;split at h<;>try(cases h;done)
   rename_i y B;split at h<;>try(cases h;done)
   rename_i r;rw[op,e];simp only;rw[n B];simp only;rw[E7 (λj o=>n) r,zma r];exact h
  | false=>
  rw[hfn] at h;simp[cond_false] at h ⊢;obtain⟨t,d,g⟩:=ab h;rw[d,zba,op];all_goals grind
 case fieldAddr T x f=> simp_all [qv,op]
 case extract x i=> simp_all [qv,op]
 case move x=> simp_all [qv,op]
 case alloc T=> simp_all [qv,St.base]
 case binOp=> simp_all [qv,op]
 case indexAddr T x i=>
  simp[qv,op] at h ⊢;obtain⟨t,d,g⟩:=ab h;rw[d,zba];obtain⟨F,hi,b⟩:=ab g;rw[hi,zba];cases t<;>first|(simp only at b;cases b;done)|skip
  ·exact b
  ·cases hx:s.opA x<;>rw[hx] at b<;>simp[AV.asList,Ce s'.ob s.ob] at b ⊢<;>first|exact b|skip
   all_goals grind
 case call c=>
  obtain⟨callee,args,u⟩:=c;simp only at l;split at l<;>try(cases l;done)
  ·simp[qv,op] at h ⊢;obtain⟨T,z,g⟩:=ab h;rw[z,zba];obtain⟨t,d,b⟩:=ab g;rw[d,zba];obtain⟨x,hx,k⟩:=ab b;rw[hx,zba];have e:=op x;cases t<;>simp[e] at k ⊢<;>first|(cases k;done)|exact k|skip
   cases hy:s.opA x<;>rw[hy] at k<;>simp[AV.asList,Ce s'.ob s.ob] at k ⊢<;>first|exact k|skip
   all_goals grind
  ·simp_all [qv,op]
  ·simp_all [qv,op]
end
section
variable{P:Program}{E:Env}{w0:Root}{ops:Array Oper}
def uq(n id:Nat)(b:Ob)(a:Array Bool)(s:St):St:=if a.getD n false then s.setOb id (some b) else s
theorem Sm.setOb(s:St)(id:Nat)(o:Option Ob):Sm s (s.setOb id o):=⟨rfl,rfl,rfl,rfl⟩
theorem m8(hE:EnvOk P E){n g id T p x:Nat}{u t t':Ty}{v0 v1:AV}{L:Array Bool->St->Prop}{Q:Exit->Act->World->Prop}{s0:St}{S0:Nat->Nat->Prop}{γ0:Nat->Option Nat}{a0:Act}{w1:World}
  (Y:ops[n]?=some B) (Z:B.op=.store T (.tmp p) (.tmp x)) (m:B.dst=none) (V:B.guard=none)
  (hp:∀ (j:Nat) (k:Oper),ops[j]?=some k->k.dst=some p->Region.waitsFor .any ops n j=true) (hx:∀ (j:Nat) (k:Oper),ops[j]?=some k->k.dst=some x->Region.waitsFor .any ops n j=true)
  (l:∀ (j:Nat) (k:Oper),j<n->ops[j]?=some k->k.guard=none)
  (hT:E.L T=some t) (U:E.fnT T=false) (ad:t.beq t'=true) (R:AV.fits t v1=true) (X:s0.lkO.contains id=false) (r:s0.ob id=some (.one u v0))
  (hd:∀ (i j:Nat) (oi k:Oper),i≠j->ops[i]?=some oi->ops[j]?=some k->∀ d,k.dst=some d->oi.dst≠some d)
  (M:∀ b s,L b s->s.tm p=.ptr t' id []/\s.tm x=v1/\b.getD n false=true)
  (hL:∀ b s S γ β a w,Rp w0 S γ β (s.setOb id<|some<|.one u v1) a w->Fm s0 S0 γ0 a0 w1 S γ a w->Sm s0 s->(∀ j k,ops[j]?=some k->b.getD j true=false->Fr E (s.setOb id<|some<|.one u v1) γ β k)->L b s->wpAnyIn (FW ro) nn P .any ops Q g b a w) :
  ∀ (f:Nat) (b:Array Bool) (s:St) (S:Nat->Nat->Prop) (γ:Nat->Option Nat) (β:Nat->Option (Nat×Nat)) (a:Act) (w:World),Rp w0 S γ β (uq n id (.one u v1) b s) a w->Fm s0 S0 γ0 a0 w1 S γ a w->Sm s0 s->s.ob=s0.ob ->
   (b.getD n false=true->∀ j,Region.waitsFor .any ops n j=true->b.getD j false=true) ->
   (∀ j k,ops[j]?=some k->b.getD j true=false->Fr E (uq n id (.one u v1) b s) γ β k)->xm (pJ E ops n id) .any ops (n+1) L f b s->wpAnyIn (FW ro) nn P .any ops Q (f+g) b a w
 | 0,b,s,S,γ,β,a,w,h,hF,N,F,ap,C,hh=>by rw[zbb];have bm:L b s:=hh;grind [uq]
 | f+1,b,s,S,γ,β,a,w,h,hF,N,F,ap,C,hh=>by
  rw[show f+1+g=(f+g)+1 by omega]
  refine⟨λh0=>z8a h0 hh.1,λi hi=>?_⟩;obtain⟨bp,c⟩:=hh.2 i hi;have I:=(mem_ready.1 hi).1;have a1:∀ j,(b.setIfInBounds i true).getD j true=false->i≠j/\b.getD j true=false:=λj K=>by
   by_cases D:i=j
   ·subst D;exfalso;rcases zua i b.size with aI|ax
    ·simp[Array.getD,aI] at K
    ·simp[Array.getD,zOc.2 ax] at K
   ·rw[getD_set_ne true D] at K;exact⟨D,K⟩
  by_cases hni:i=n
  ·
   subst hni;have bh:=getD_both I;have bl:i<b.size:=by
    rcases zua i b.size with aI|ax
    ·exact aI
    ·simp[Array.getD,zOc.2 ax] at I
   have e0:uq i id (.one u v1) b s=s:=by unfold uq;rw[bh];rfl
   rw[e0] at h;unfold yf at c;rw[Y] at c;simp only at c;obtain⟨v,y,c⟩:=c;rw[m] at c;have c:xm (pJ E ops i id) .any ops (i+1) L f (b.setIfInBounds i true) s:=c;obtain⟨_,o',a7,A⟩:=mem_ready.1 hi;rw[Y] at a7;cases a7;obtain⟨l',s',m1,m2,m3,m4⟩:=zF (T:=[p,x]) f _ _ c (λt ht j k W K=>by
    simp only[zMa,zbc,or_false] at ht;intro O;have J:Region.waitsFor .any ops i j=true:=by
     rcases ht with rfl|rfl
     ·exact hp j k W O
     ·exact hx j k W O
    obtain⟨ow,G,e,he,hb,aO⟩:=Region.waitsFor_spec J;rw[Y] at G;cases G;have z:=A e he hb;rw[aO] at z;obtain⟨_,H⟩:=a1 j K;rw[getD_both H] at z;cases z)
   obtain⟨z1,z2,z3⟩:=M _ _ m1;rw[m2 p j2] at z1
   rw[m2 x j2] at z2
   have a8:s.ob id=some (.one u v0):=by rw[F];exact r
   have a6:s.lkO.contains id=false:=by rw[N.lkO];exact X
   have ba:vN E s B some=some (s.setOb id<|some<|.one u v1):=by unfold vN;rw[Z];simp only[hT,U,cond_false,zba,St.opA,z1,z2,ad,R,a6,a8,zSb,Bool.and_true,if_true,Gr]
   obtain⟨s1,k1,k2⟩:=Fj hE h (e0 ▸ C i B Y I) (λT t _ ht=>hE.flat T t ht) (λt _=>by rw[m];simp) (λ_ _ _ _=>m) ba
   cases k1;obtain⟨r1,r2,r3,r4,r5,r6⟩:=k2;unfold wpOpIn;rw[Y];simp only;rw[zma (by simp[Region.wanted,V])]
   refine(bC r6 λval w' ⟨S',γ',β',m1,m2,m3⟩=>?_);have el:uq i id (.one u v1) (b.setIfInBounds i true) s=s.setOb id (some<|.one u v1):=by unfold uq;rw[zma (by simp[bl])]
   refine m8 hE Y Z m V hp hx l hT U ad R X r hd M hL f _ s S' γ' β' _ _ (by rw[el];exact m1) (hF.trans m2 N.lkS N.lkO) N F (λ_ j J=>?_) (λj k W K=>?_) c
   ·obtain⟨ow,G,e,he,hb,aO⟩:=Region.waitsFor_spec J;rw[Y] at G;cases G;have z:=A e he hb;rw[aO] at z;exact getD_set_true z
   ·rw[el];obtain⟨_,H⟩:=a1 j K;exact(e0 ▸ C j k W H:Fr E s γ β k).keep (λd _=>by rw[m];simp) rfl (λq z h2=>r5 q z h2) m3
  ·
   have a3:i<n:=u0
   obtain⟨_,o,ho,A⟩:=mem_ready.1 hi;unfold yf at c;rw[ho] at c;simp only at c;obtain⟨v,y,c⟩:=c;unfold pJ at y;rw[zha hni] at y;unfold xt at y;rw[ho] at y;simp only at y;split at y<;>try(cases y;done)
   rename_i a5;have bj:=l i o a3 ho;have a4:pK (uq n id (.one u v1) b s) o=pK s o:=by unfold uq;split<;>rfl
   have a9:val E ops (uq n id (.one u v1) b s) o=some v:=by
    unfold val;rw[a4,zha a5,bj];simp only;split at y
    ·rename_i J;have:b.getD n false=false:=by
      cases hln:b.getD n false with
      | false=>rfl
      | true=> have:=ap hln i J;rw[getD_both I] at this;cases this
     have e:uq n id (.one u v1) b s=s:=by unfold uq;rw[this];rfl
     rw[e];exact y
    ·split at y<;>try(cases y;done)
     rename_i hk;refine I9 (s:=s.setOb id none) (id:=id) ?_ ?_ (λj W=>?_) ?_ hk y
     ·unfold uq;split<;>rfl
     ·unfold uq;split<;>rfl
     ·unfold uq;split<;>simp[St.setOb,W]
     ·simp[St.setOb]
   have el:(uq n id (.one u v1) b s).put o.dst v=uq n id (.one u v1) (b.setIfInBounds i true) (s.put o.dst v):=by
    unfold uq;rw[getD_set_ne false hni];split
    ·rw[Am]
    ·rfl
   obtain⟨k1,k2⟩:=GJ hE h (C i o ho I) a9;have pf:=agm s o.dst v;have al:Sm s0 (uq n id (.one u v1) b s):=by
    unfold uq;split
    ·exact N.trans<|Sm.setOb s id _
    ·exact N
   have pl:=agm (uq n id (.one u v1) b s) o.dst v;have a2:∀ {γ':Nat->Option Nat} {β':Nat->Option (Nat×Nat)},(∀ q:Nat,o.dst≠some (q-(uq n id (.one u v1) b s).base)\/q<(uq n id (.one u v1) b s).base->γ' q=γ q/\β' q=β q)->∀ j k,ops[j]?=some k->(b.setIfInBounds i true).getD j true=false->Fr E (uq n id (.one u v1) (b.setIfInBounds i true)<|s.put o.dst v) γ' β' k:=λhk j k W K=>by obtain⟨D,H⟩:=a1 j K;rw[<-el];exact(C j k W H).keep (λd O=>hd i j o k D ho W d O) pl.2.1 (λq _ _=>by rw[pl.1]) hk
   have an:(b.setIfInBounds i true).getD n false=true->∀ j,Region.waitsFor .any ops n j=true->(b.setIfInBounds i true).getD j false=true:=λz j J=>by rw[getD_set_ne false hni] at z;exact getD_set_true<|ap z j J
   unfold wpOpIn;rw[ho];simp only;split
   ·rename_i J;refine(bC (k1 J) λu' w' ⟨S',γ',β',m1,m2,m3⟩=>?_);exact m8 hE Y Z m V hp hx l hT U ad R X r hd M hL f _ _ S' γ' β' _ _ (el ▸ m1) (hF.trans m2 al.lkS al.lkO) (N.trans<|Sm.put s o.dst v) (pf.1.trans F) an (a2 m3) c
   ·rename_i J;obtain⟨m1,m2⟩:=k2 (by simpa using J)
    refine⟨λ_ _=>trivial,?_⟩;exact m8 hE Y Z m V hp hx l hT U ad R X r hd M hL f _ _ S γ β _ _ (el ▸ m1) (hF.trans m2 al.lkS al.lkO) (N.trans<|Sm.put s o.dst v) (pf.1.trans F) an (a2 λid _=>⟨rfl,rfl⟩) c
theorem xT(hE:EnvOk P E){id:Nat}{n:Nat}{Q:Exit->Act->World->Prop}{S:Nat->Nat->Prop}{γ:Nat->Option Nat}{β:Nat->Option (Nat×Nat)}{s:St}{a:Act}{w:World}{R:Type}{k:St->Option R}{r:R}{N:Nat}
  (h:Rp w0 S γ β s a w) (hf:Ke E s γ β ops.toList) (hm:cY ops.toList=true) (I:xr ops n=true) {an:Ann}
  (aO:Vo E ops n (mO ops n s) n 0 s (λs2=>if xp ops n s2=some (mO ops n s) then ga E N R ops an ((aX 0 ops.toList).drop n) s2 k else none)=some r)
  (hQ:∀ s' S' γ' β' a' w',Rp w0 S' γ' β' s' a' w'->Fm s S γ a w S' γ' a' w'->Sk s s'->k s'=some r->Q .normal a' w'):(Code.region id ops true).wpIn (FW ro) nn P Q a w:=by
 simp only[cY,Y] at hm;obtain⟨⟨a8,b9⟩,b1⟩:=hm;have W:=b1;unfold xr at I;split at I<;>try(cases I;done)
 rename_i f hn;split at I<;>try(cases I;done)
 rename_i T p x Z;obtain⟨z,hid⟩:∃ z,mO ops n s=z:=⟨_,rfl⟩;rw[hid] at aO;simp only[Y] at I;obtain⟨⟨⟨⟨⟨l2,l3⟩,l4⟩,l5⟩,l6⟩,l7⟩:=I;have ba:=(zqa.1 hn).1;have cd:=zyc.2<|zwc hn;have O:f.dst=none:=by grind
 have bj:∀ (j:Nat) (q:Oper),ops[j]?=some q->(q.dst=some p\/q.dst=some x)->Region.waitsFor .any ops n j=true:=λj q C e=>by grind
 have hp:∀ (j:Nat) (q:Oper),ops[j]?=some q->q.dst=some p->Region.waitsFor .any ops n j=true:=λj q C e=>bj j q C<|.inl e;have hx:∀ (j:Nat) (q:Oper),ops[j]?=some q->q.dst=some x->Region.waitsFor .any ops n j=true:=λj q C e=>bj j q C<|.inr e;have b0:∀ (j:Nat) (q:Oper),j<n->ops[j]?=some q->q.guard=none:=λj q bz C=>by
  have bY:q∈ops.toList.take n:=by refine zfb (i:=j) ?_;rw[zQb bz,zQa];exact C
  have:=zxa.1 l3 q bY;simp only[Y] at this;simpa using this.2
 have J:∀ o∈ops.toList.drop n,o.guard=none:=λo ho=>by have:=zxa.1 l4 o ho;simp only[Y] at this;simpa using this.1
 have ap:ops.toList.drop n=f::ops.toList.drop (n+1):=by
  have X:n<ops.toList.length:=by simpa using ba
  rw[zpb X];have:ops.toList[n]=f:=by have:=(zqa.1 hn).2;simpa using this
  rw[this]
 have a4:=J f (by rw[ap];simp)
 obtain⟨s',q1,D⟩:=Hx n 0 s u0 aO
 split at D<;>try(cases D;done)
 rename_i G;obtain⟨t0,U,b6⟩:∃ t0,s'.tm p=.ptr t0 z []/\¬ t0.beq .fn=true:=by
  unfold xp at G;simp only[hn,Z] at G;split at G<;>try(cases G;done)
  rename_i t0 cf b4;split at G<;>try(cases G;done)
  rename_i L;cases G;exact⟨t0,b4,L⟩
 have al:(aX 0 ops.toList).drop n=(n,f)::(aX 0 ops.toList).drop (n+1):=by
  have X:n<(aX 0 ops.toList).length:=by rw[jd];simpa using ba
  rw[zpb X];have key:∀ (l:List Oper) (i j:Nat) (o:Oper),l[j]?=some o->(aX i l)[j]?=some (i+j,o):=by
   intro l
   induction l with
   | nil=>intro i j o C;simp at C
   | cons y l ih=>
    intro i j o C;cases j with
    | zero=>simp at C;subst C;simp[aX]
    | succ j=>simp only[zlb] at C;simp only[aX,zlb];rw[ih (i+1) j o C];congr 2;omega
  have:=key ops.toList 0 n f (by rw[zQa];exact hn)
  rw[zca X,zbb] at this;rw[Option.some.inj this]
 rw[al] at D;obtain⟨N',hN⟩:∃ N',N=N'+1:=by
  cases N with
  | zero=>simp[ga] at D
  | succ N'=>exact⟨N',rfl⟩
 subst hN;have bl:uG n ((aX 0 ops.toList).drop<|n+1)=false:=by
  unfold uG;split
  ·rename_i p' l' hl;have a9:p'.2∈ops.toList.drop n:=by
    have X:p'∈(aX 0 ops.toList).drop n:=by rw[al,hl];simp
    have:p'.2∈((aX 0 ops.toList).drop n).map Prod.snd:=zEb X
    rwa [zQc,bn] at this
   unfold zH;rw[J _ a9]
  ·rfl
 have ad:nk E f=false:=by unfold nk;rw[Z]
 have b3:vT E f an=an:=by simp[vT,ad]
 have a1:∀ (l:List<|Nat×Oper) (s:St) (K:St->Option R),Fl E an l s f K=vN E s f K:=λl s K=>by simp[Fl,ad]
 have b5:∀ s,oh E s n f ((aX 0 ops.toList).drop<|n+1)=false:=λs=>by simp[oh,bl]
 simp only[ga,a4,b5,b3,a1,zIa,if_false] at D;have a7:pK s' f=false:=by unfold pK;rw[O]
 rw[zha (by rw[a7];simp)] at D
 unfold vN at D;rw[Z] at D;simp only at D;have keep:∀ (c kk:Nat) (s s':St),o9 (pJ E ops n z) ops c kk s=some s'->s'.ob=s.ob/\Sm s s':=by
  intro c
  induction c with
  | zero=>intro kk s s' hs;simp only[o9,zda] at hs;subst hs;exact⟨rfl,Sm.refl s⟩
  | succ c ih=> intro kk s s' hs;simp only[o9] at hs;obtain⟨v,X,h2⟩:=ab hs;obtain⟨m2,m3⟩:=ih _ _ _ h2;have pf:=agm s ((ops[kk]?).bind (·.dst)) v;exact⟨m2.trans pf.1,(Sm.put s _ v).trans m3⟩
 obtain⟨c2,c3⟩:=keep n 0 s s' q1;cases hfn:E.fnT T with
 | true=>
  rw[hfn,show s'.opA (.tmp p)=.ptr t0 z [] from U] at D;simp only[cond_true] at D;split at D<;>try(cases D;done)
  rename_i e;cases e;exact z8a rfl b6
 | false=>
 rw[hfn] at D;simp only[cond_false] at D;obtain⟨t,hT,q3⟩:=ab D;rw[show s'.opA (.tmp p)=.ptr t0 z [] from U] at q3;simp only at q3;split at q3<;>try(cases q3;done)
 rename_i M;simp only[Y,zCa] at M;obtain⟨⟨d1,d2⟩,d3⟩:=M;split at q3<;>try(cases q3;done)
 ·rename_i c0 v0 bh;obtain⟨v1,bp⟩:∃ v1,s'.opA (.tmp x)=v1:=⟨_,rfl⟩;rw[bp] at q3 d2;have q4:ga E N' R ops an ((aX 0 ops.toList).drop<|n+1) (s'.setOb z<|some<|.one c0 v1) k=some r:=by
   cases v0<;>simpa only[Gr] using q3
  clear q3 D;have hW:pu .any ops (n+1):=by
   intro m i inv bx b7 t ht hr;simp only[zHb,zea,Y] at l7;rcases l7 with l7|⟨⟨l7,l8⟩,l9⟩
   ·obtain⟨_,o,ho,_⟩:=mem_ready.1 hr;have:=(zqa.1 ho).1;omega
   ·exact tail_waits l8 l9 l7 inv _ i rfl bx b7 t ht hr
  refine wpIn_region_any hE.mixed ?_;have hg:∃ os d,w.drawn<=d/\({ w with drawn:=w.drawn+1 }:World)=grown w os d:=⟨[],w.drawn+1,zIc _,by simp[grown]⟩
  obtain⟨os,d,bt,hg⟩:=hg;obtain⟨g1,g2⟩:=h.grow (os:=os) (d:=d) bt (S':=S) (λ_ _ L=>L)<|λ_ _ L=>.inl L;rw[hg];have bs:HeadInv .any ops (n+1) (Array.replicate ops.size false):=
   ⟨j2,λj q _ hl=>(by rw[getD_replicate_false] at hl;cases hl),λt _ ht=>getD_in (by simpa using ht)<|getD_replicate_false _ _⟩
  have V:o9 (pJ E ops n z) ops (n+1) 0 s=some s':=by rw[Eo n 1 0,q1,zba];simp only[o9,pJ,zbb,if_true,zba,hn,O];rfl
  have H:=zG (sF:=s') (ME (E:=E) (ops:=ops) n z) u0 hW (n+1) 0 (Array.replicate ops.size false) s u0 bs (λi hi=>u0) l6 V
  have e0:uq n z (.one c0 v1) (Array.replicate ops.size false) s=s:=by unfold uq;rw[getD_replicate_false];rfl
  have aI:(ops.toList.drop<|n+1).length=ops.size-(n+1):=j2
  have ax:∀ j q,ops[j]?=some q->(Array.replicate ops.size false).getD j true=false->Fr E (uq n z (.one c0 v1) (Array.replicate ops.size false) s) γ β q:=λj q C _=>by rw[e0];exact hf q<|zyc.2<|zwc C
  have:=m8 (ro:=ro) (nn:=nn) (w0:=w0) (Q:=Q) (g:=ops.size-(n+1)) (s0:=s) (S0:=S) (γ0:=γ) (a0:=a) (w1:=grown w os d) hE hn Z O a4 hp hx b0 hT hfn d1 d2 (by rw[<-c3.lkO];exact d3) (by rw[<-c2];exact bh) (λi j oi q bv hi C d hd=>kY a8 bv (by rw[zQa];exact hi) (by rw[zQa];exact C) d hd)
   (λm s2 hL=>by obtain⟨_,hl,rfl⟩:=hL;exact⟨U,bp,hl n u0⟩)
   (λm s2 S2 γ2 β2 a2 w2 m1 m2 m3 m4 m5=>by
    obtain⟨m5,m6,m7⟩:=m5;subst m7;have V:=kI (F:=FW ro) (n:=nn) (P:=P) (md:=.any) (ops:=ops) (Q':=Q) (ops.toList.drop<|n+1) (n+1) m a2 w2 (λj=>by rw[zDb,zQa]) (by rw[aI];exact m5) ?_
    ·rwa [aI] at V
    have bm:∀ j q,ops[j]?=some q->n+1<=j->m.getD j true=false:=by
     intro j q C b2;have key:∀ (g k:Nat) (m:Array Bool),Region.seqB .any ops g k m=true->∀ j,k<=j->j<k+g->m.getD j true=false:=by
      intro g
      induction g with
      | zero=>intro k m _ j X h2;omega
      | succ g ih=>
       intro k m hB j X h2;simp only[Region.seqB,Y,zea] at hB;by_cases a6:j=k
       ·subst a6;have:j∈Region.ready .any ops m:=by rw[hB.1];simp
        exact(mem_ready.1 this).1
       ·have:=ih (k+1) _ hB.2 j u0 u0
        rwa [getD_set_ne true<|Ne.symm a6] at this
     have b8:=(zqa.1 C).1;exact key _ _ _ m5 j b2 u0
    have fin:=Bc (ro:=ro) (nn:=nn) (ops:=ops) hE (Q:=Q) W N' R ((aX 0 ops.toList).drop<|n+1) k r an m1 (by
      rw[zQc,bn];intro o ho;obtain⟨i,hi,he⟩:=z3a ho;have a5:ops[n+1+i]?=some o:=by
       have:(ops.toList.drop<|n+1)[i]?=some o:=by rw[zca hi,he]
       rwa [zDb,zQa] at this
      exact m4 (n+1+i) o a5<|bm _ _ a5 u0)
     (by rw[zQc,bn];intro A B o o' e ho d hd;exact gv a8 (ops.toList.take (n+1)++A) B o o' (by rw[zPa,<-e,zza]) ho d hd)
     (λp hp=>mR<|z9b hp) q4 (λs3 u γ3 β3 a3 w3 n1 n2 n3 n4=>by
      refine hQ s3 u γ3 β3 a3 w3 n1 ?_ (Sk.trans (m3.trans<|Sm.setOb _ z<|some<|.one c0 v1).sk n3) n4;have f0:Fm s S γ a w S γ a (grown w os d):=⟨λ_ _ L=>L,g2.cell,λ_ _=>rfl,λid hid b L=>⟨L,.inl<|dL (h.γn id b L).2⟩,j2,λ_ _ L=>L,mz.same rfl dN.grown⟩
      exact(f0.trans m2 rfl rfl).trans n2 (show _=_ from m3.lkS)<|show _=_ from m3.lkO)
    rwa [zQc,bn] at fin)
   (n+1) (Array.replicate ops.size false) s S γ β a (grown w os d) (by rw[e0];exact g1) (Fm.refl _ _ _ _ _) (Sm.refl s) rfl (λhl=>by rw[getD_replicate_false] at hl;cases hl) ax H
  rw[show n+1+(ops.size-(n+1))=ops.size by omega] at this
  exact this
end
end
section
variable{Q:Exit->Act->World->Prop}{N:Nat}{S:Nat->Nat->Prop}{γ:Nat->Option Nat}{β:Nat->Option (Nat×Nat)}{a:Act}{f:Array Bool}
variable{ro:Option Nat}{nn:Nat}
section
variable{ops:Array Oper}
theorem o7:∀ n,(yv ops n).length=n
 | 0=>rfl
 | n+1=>by simp[yv,o7 n]
def uL(ops:Array Oper)(t:Nat):Nat:=match ops[t]? with
 | some o=>o.after.toList.foldl (λm e=>if Region.binds .any e&&decide (e.on<t) then(m ||| 2^e.on) ||| (yv ops t).getD e.on 0 else m) 0
 | none=>0
theorem oZ{t:Nat}:∀ {n:Nat},t<n->(yv ops n).getD t 0=uL ops t
 | 0,h=>u0
 | n+1,h=>by
  show(yv ops n++[uL ops n]).getD t 0=_;by_cases e:t=n
  ·subst e;rw[zGa,zVb (by rw[o7];exact zja _),o7,Nat.sub_self]
   rfl
  ·rw[zGa,zab (by rw[o7];omega),<-zGa]
   exact oZ u0
theorem zA{t i:Nat}{l:List Nat}:∀ (a:List Edge) (m:Nat),Nat.testBit (a.foldl (λm e=>if Region.binds .any e&&decide (e.on<t) then(m ||| 2^e.on) ||| l.getD e.on 0 else m) m) i=true ->
  Nat.testBit m i=true\/∃ e∈a,Region.binds .any e=true/\e.on<t/\(e.on=i\/Nat.testBit (l.getD e.on 0) i=true)
 | [],m,h=>.inl h
 | e::a,m,h=>by
  simp only[zzc] at h;rcases zA a _ h with k|⟨b,c,d⟩
  ·grind
  ·grind
theorem mZ(b:∀ j a,ops[j]?=some a->f.getD j false=true->∀ e∈a.after,Region.binds .any e=true->f.getD e.on false=true) :
  ∀ (t:Nat) (o:Oper),ops[t]?=some o->(∀ e∈o.after,Region.binds .any e=true->f.getD e.on false=true)->∀ i,Nat.testBit (uL ops t) i=true->f.getD i false=true:=by
 intro t
 induction t using Nat.strongRecOn with
 | _ t ih=>
  intro o c m i hi;unfold uL at hi;rw[c] at hi;simp only at hi;rcases zA _ _ hi with k|⟨e,d,g,h,l⟩
  ·simp at k
  ·grind [oZ]
end
section
variable{E:Env}{ops:Array Oper}
theorem pN{i:Nat}{o:Oper}:∀ (f a:Nat),oe E ops i o f a=true->∀ j b,a<=j->j<a+f->(∀ q c,a<=q->q<=j->ops[q]?=some c->lE E c=true)->ops[j]?=some b->(∀ e∈b.after,Region.binds .any e=true->e.on≠i)->o.apart ops b=true
 | 0,a,_,j,b,g,l,_,_,_=>u0
 | f+1,a,h,j,b,g,l,k,m,n=>by
  have d:a<ops.size:=i4
  have h0:=zLb d;simp only[oe,h0] at h;rw[zma<|k a _ (zja _) g h0] at h;simp[Y,zHb] at h;by_cases e:j=a
  ·grind
  ·exact pN f (a+1) h.2 j b u0 u0 (λq c q1 p=>k q c u0 p) m n
def lY(h:jI E ops=true){i:Nat}{o:Oper}(g:ops[i]?=some o) :
  (∀ e∈o.after,Region.binds .any e=true->e.on<i)/\(lE E o=true->oe E ops i o ops.size (i+1)=true) ∧
  (lE E o=false->(∀ j,j<i->Nat.testBit (uL ops i) j=true)/\∀ j,i<j->j<ops.size->Nat.testBit (uL ops j) i=true):=by
 have hi:=(zqa.1 g).1;simp only[jI,zxa,zRa] at h;have b:=h i hi;rw[g] at b;simp only[Y,zxa,zHb,zCa,zea] at b;refine⟨λe m l=>?_,λd=>?_,λd=>⟨λj f=>?_,λj f c=>?_⟩⟩
 ·rcases b.1 e (by simpa using m) with k|k
  ·rw[l] at k;cases k
  ·exact k
 ·have:=b.2;rw[zma d] at this;exact this
 ·have:=b.2;rw[zha (by simp[d])] at this
  simp only[zxa,zRa] at this;have a:=this j u0
  rw[zma f,oZ hi] at a;exact a
 ·have:=b.2;rw[zha (by simp[d])] at this
  simp only[zxa,zRa] at this;have a:=this j c;rw[zha u0,oZ c] at a
  simp[zHb,zea] at a;rcases a with a|a
  ·omega
  ·exact a
structure Full(ops:Array Oper)(k:Nat)(listed:Array Bool):Prop where
 size:listed.size=ops.size
 done:∀ j,j<k->j<ops.size->listed.getD j false=true
 rest:∀ j,k<=j->j<ops.size->listed.getD j true=false
def Full.set{k:Nat}(h:Full ops k f)(c:k<ops.size):Full ops (k+1) (f.setIfInBounds k true):=by
 refine⟨by simp[h.size],λj b a=>?_,λj b a=>?_⟩
 ·by_cases e:j=k
  ·simp_all [h.size]
  ·exact getD_set_true<|h.done j u0 a
 ·rw[getD_set_ne true u0];exact h.rest j u0 a
def Full.inv{k n:Nat}(l:jI E ops=true)(h:Full ops k f)(i:k<=n):HeadInv .any ops n f:=by
 refine⟨h.size,λj p b hl e g d=>?_,λt o a=>h.rest t u0 a⟩
 have a:=(zqa.1 b).1;have m:=(lY l b).1 e g d;rcases zua j k with c|c
 ·exact h.done e.on u0 u0
 ·have:=getD_both<|h.rest j c a
  simp_all
theorem Full.ready{k:Nat}(d:jI E ops=true)(h:Full ops k f)(a:k<ops.size):k∈Region.ready .any ops f:=
 mem_ready.2 ⟨h.rest k (zja _) a,_,zLb a,λe c b=>by have:=(lY d<|zLb a).1 e c b;exact h.done e.on this u0⟩
theorem Full.later{k:Nat}(h:Full ops k f):∀ j∈Region.ready .any ops f,k<=j:=by
 intro j c;obtain⟨e,o,d,_⟩:=mem_ready.1 c;have b:=(zqa.1 d).1;rcases zua j k with a|a
 ·have:=h.done j a b;grind
 ·exact a
theorem J8(r:jI E ops=true){n:Nat}{o:Oper}(k:ops[n]?=some o)(p:lE E o=false):pu .any ops n:=by
 intro d i inv f s t v g;have q:=(zqa.1 k).1;obtain⟨_,l,b,a⟩:=mem_ready.1 g;have c:=(zqa.1 b).1;have j:=(lY r k).2.2 p;rcases zua n t with h|h
 ·have m:=mZ inv.closed t l b a n<|j.2 t h c;have u:=inv.tail n (zja _) q;grind
 ·have e:t=n:=u0
  subst e;have m:=mZ inv.closed t l b a i<|j.1 i f;grind
def J9:pu .any ops ops.size:=λa i _ _ _ t d b=>by
 obtain⟨_,e,c,_⟩:=mem_ready.1 b
 simp_all
theorem Nf(g:jI E ops=true){k:Nat}{o:Oper}(h:Full ops k f)(l:ops[k]?=some o)(i:lE E o=false):∀ j∈Region.ready .any ops f,j=k:=by
 intro j e;have n:=h.later j e;obtain⟨_,m,b,a⟩:=mem_ready.1 e;have c:=(zqa.1 b).1;rcases zua k j with d|d
 ·exfalso;have p:=mZ (h.inv g<|zja _).closed j m b a k<|((lY g l).2.2 i).2 j d c;have q:=h.rest k (zja _) u0
  grind
 ·omega
def ku(E:Env)(ops:Array Oper):Nat->Nat->Nat
 | 0,k=>k
 | f+1,k=>match ops[k]? with
  | some o=>if lE E o then ku E ops f (k+1) else k
  | none=>k
theorem vf:∀ (f k:Nat),k+f=ops.size->k<=ku E ops f k/\ku E ops f k<=ops.size/\(∀ j a,k<=j->j<ku E ops f k->ops[j]?=some a->lE E a=true)/\(ku E ops f k=ops.size\/∃ o,ops[ku E ops f k]?=some o/\lE E o=false)
 | 0,k,h=>⟨zja _,by simp[ku];omega,λj a d b=>by simp[ku] at b;omega,.inl (by simpa [ku] using h)⟩
 | f+1,k,h=>by
  have c:k<ops.size:=u0
  have h0:=zLb c;simp[ku,h0];split
  ·rename_i e;obtain⟨q1,g,i,l⟩:=vf f (k+1) u0
   all_goals grind
  ·grind
theorem Dl(p:jI E ops=true){n:Nat}{L:Array Bool->St->Prop}(y:pu .any ops n)(c:∀ a s,L a s->∀ j∈Region.ready .any ops a,n<=j)(C:n<=ops.size) :
  ∀ (l:List Oper) (k:Nat) (a:Array Bool) (s s':St),(∀ j,j<l.length->l[j]?=ops[k+j]?)->k+l.length=n->Full ops k a->(∀ j g,k<=j->j<n->ops[j]?=some g->lE E g=true) ->
  seqV E ops l s=some s'->(∀ b,Full ops n b->L b s')->I0 E .any ops n L l.length a s
 | [],k,a,s,s',_,t,f,_,h,hL=>by
  have:k=n:=by simpa using t
  subst this;simp[seqV,zda] at h;subst h;exact hL a f
 | o::l,k,a,s,s',hl,t,f,d,h,hL=>by
  have h0:ops[k]?=some o:=by simpa using(hl 0 j2).symm
  have e:k<n:=i4
  have m:k<ops.size:=u0
  simp[seqV] at h;obtain⟨v,w,z⟩:=ab h;refine xn h0 y e c l.length a s (f.inv p<|zJc e) (λj g A r D F u=>?_) (f.ready p m) w
   (Dl p y c C l (k+1) _ _ s' (λj r=>by have:=hl (j+1) (by simp;omega);simpa [zNb,zhc 1 j] using this) (by simp[zOa] at t;omega) (f.set m) (λj g w=>d j g u0) z hL)
  have i:=(zqa.1 r).1;have B:k<j:=by
   rcases zua j k with x|x
   ·have:=f.done j x i;grind
   ·omega
  exact pN ops.size (k+1) ((lY p h0).2.1<|d k o (zja _) e h0) j g u0 u0 (λq G q1 H=>d q G u0 u0) r u
end
section
variable{P:Program}{E:Env}{w0:Root}{ops:Array Oper}
def L9(U:EnvOk P E){R:Type}{i:Nat}{o:Oper}{l:List<|Nat×Oper}{s:St}{w:World}{k:St->Option R}{r:R}{an:Ann}
  (h:Rp w0 S γ β s a w) (al:∀ T x y,o.op=.store T x y->o.dst=none) (hf:Fr E s γ β o) (G:Ke E s γ β<|l.map Prod.snd) (hd:∀ o'∈l.map Prod.snd,∀ d,o'.dst=some d->o.dst≠some d) (ad:o.guard=none->oh E s i o l=false)
  (b:ga E (N+1) R ops an ((i,o)::l) s k=some r) {next:Act->World->Prop} 
  (V:∀ u W s' S' C F w',ga E N R ops W l s' k=some r->Rp w0 S' C F s' (a.put o.dst u) w'->Fm s S γ a w S' C (a.put o.dst u) w'->Sk s s'->Ke E s' C F (l.map Prod.snd)->next (a.put o.dst u) w') :
  if Region.wanted o (yielded ops a.tmps) then o.wpIn (FW ro) nn P a w next Q else(∀ f,o.about P w a.eval=some f->(FW ro).fn f)/\next (a.put o.dst undef) w:=by
 have run:¬ pK s o=true->Fl E an l s o (λs'=>ga E N R ops (vT E o an) l s' k)=some r->o.wpIn (FW ro) nn P a w next Q:=by
  intro q D;have m:∀ t∈s.lkS,o.dst≠some t:=λt H e=>q (by simp[pK,e];exact H)
  unfold Fl at D;split at D
  ·split at D;rename_i Y;refine Bb (K:=λs1=>ga E N R ops (vT E o an) l s1 k) U h m D λu s' S' C F w' m0 m1 m2 M=>?_;exact V u _ s' S' C F w' m0 m1 m2 M λo' n=>by
    obtain⟨p,hp,rfl⟩:=zmb.1 n;have:=zxa.1 Y p hp;exact GR (by simpa using this)
   split at D<;>try(cases D;done)
   rename_i Z;refine Bb (K:=λs1=>ga E N R ops (vT E o an) l (ik E (l.map Prod.snd)<|yE s1) k) U h m D λu s' S' C F w' m0 m1 m2 M=>?_;obtain⟨q1,q2,q3⟩:=G8 (E:=E) m1 Z G;exact V u _ _ S' C F w' m0 q1 m2 (M.trans q2) q3
  obtain⟨s',O,z⟩:=Fj U h hf (λT t _ H=>U.flat T t H) m al D;obtain⟨f1,f2,f3,f4,f5,f6⟩:=z;refine bC f6 λu w' ⟨S',C,F,m1,m2,M⟩=>?_;exact V u _ s' S' C F w' O m1 m2 ⟨f1,f2,f4⟩ λo' n=>(G o' n).keep (hd o' n) f3 f5 M
 obtain⟨w1,w2,w3⟩:=uM (ops:=ops) (o:=o) h;cases hg:o.guard with
 | some jw=>
  obtain⟨j,want⟩:=jw;simp[ga,hg] at b;split at b<;>try(cases b;done)
  rename_i g L;split at b<;>try(cases b;done)
  rename_i q;have m:∀ t∈s.lkS,o.dst≠some t:=λt H e=>q (by simp[pK,e];exact H)
  have p:=agm s o.dst .gone;have alt:(Region.wanted o (yielded ops a.tmps)=true/\(Fl E an l s o λs'=>ga E N R ops (vT E o an) l s' k)=some r)\/(Region.wanted o (yielded ops a.tmps)=false/\ga E N R ops (vT E o an) l (s.put o.dst .gone) k=some r):=by
   by_cases hgo:s.tm g=.gone
   ·rw[hgo,gF] at b;exact .inr ⟨w3 j want g hg L hgo,b⟩
   rw[gG hgo] at b;obtain⟨c,O,z⟩:=ab b;replace z:=nR (A:=λs=>Fl E an l s o λs'=>ga E N R ops (vT E o an) l s' k) (B:=λs=>ga E N R ops (vT E o an) l (s.put o.dst .gone) k) O z;have I:=w2 j want g c hg L O;split at z
   ·rename_i X;exact .inl ⟨by rw[I];exact X,z⟩
   ·rename_i X;exact .inr ⟨by rw[I];simpa using X,z⟩
  rcases alt with⟨I,z⟩|⟨I,z⟩
  ·rw[zma I];exact run q z
  ·rw[zha (by simp[I])]
   refine⟨λ_ _=>trivial,?_⟩;exact V undef _ _ S γ β w z (h.put (v:=.gone) (val:=undef) (by simp[AR]) o.dst) ⟨λ_ _ J=>J,λ_ _ _=>rfl,λt H=>cq<|m t H,λ_ _ _ J=>⟨J,kL.refl _ _⟩,zja _,λ_ _ J=>J,mz.same bV<|dN.refl _⟩ (Sm.put s o.dst .gone).sk
    λo' n=>(G o' n).keep (hd o' n) p.2.1 (λid _ _=>by rw[p.1]) λid _=>⟨rfl,rfl⟩
 | none=>
  rw[zma<|w1 hg];simp only[ga,hg,ad hg,zIa,if_false] at b;split at b<;>try(cases b;done)
  rename_i q;exact run q b
theorem n7:∀ (l:List Oper) (i m:Nat),(aX i l).drop m=aX (i+m) (l.drop m)
 | l,i,0=>j2
 | [],i,m+1=>by simp[aX]
 | o::l,i,m+1=>by simp[aX,zZc];rw[n7 l (i+1) m,show i+1+m=i+(m+1) by omega]
theorem vB{l:List Oper}{i m:Nat}{p:Nat×Oper}(h:p∈(aX i l).take m):∃ j,j<m/\l[j]?=some p.2:=by
 obtain⟨j,e,d⟩:=z3a h;have b:((aX i l).take m)[j]?=some p:=i4
 have a:j<m:=i4
 rw[zQb a] at b;have c:((aX i l).map Prod.snd)[j]?=some p.2:=by rw[z4b,b];rfl
 grind [bn]
theorem JL(hE:EnvOk P E)(hr:jI E ops=true)(ap:dA (ops.toList.filterMap (·.dst))=true)(a7:∀ o∈ops.toList,∀ T x y,o.op=.store T x y->o.dst=none){R:Type}{k:St->Option R}{r:R} :
  ∀ (g:Nat) (c:Nat) (b:Array Bool) (N:Nat) (an:Ann) {S:Nat->Nat->Prop} {γ:Nat->Option Nat} {β:Nat->Option (Nat×Nat)} {s:St} {a:Act} {w:World},c+g=ops.size->Full ops c b->Rp w0 S γ β s a w ->
   (∀ j F,ops[j]?=some F->c<=j->Fr E s γ β F)->ga E N R ops an (aX c<|ops.toList.drop c) s k=some r ->
   (∀ s' S' γ' β' a' w',Rp w0 S' γ' β' s' a' w'->Fm s S γ a w S' γ' a' w'->Sk s s'->k s'=some r->Q .normal a' w')->wpAnyIn (FW ro) nn P .any ops Q g b a w:=by
 intro g
 induction g using Nat.strongRecOn with
 | _ g ih=>
 intro c b N an S γ β s a w a5 U h b0 f hQ;cases g with
 | zero=>
  have hk:c=ops.size:=u0
  subst hk;rw[zrc j2] at f
  cases N with
  | zero=>simp[ga] at f
  | succ N=>
   simp[aX,ga] at f;refine⟨?_,hQ s S γ β a w h (Fm.refl _ _ _ _ _) (Sk.refl s) f⟩;cases hrd:Region.ready .any ops b with
   | nil=>rfl
   | cons j l=>
    exfalso;have t:j∈Region.ready .any ops b:=by rw[hrd];simp
    have h1:=U.later j t;obtain⟨_,o,J,_⟩:=mem_ready.1 t
    simp_all
 | succ g=>
 have K:c<ops.size:=u0
 have J:=zLb K;obtain⟨o,ax⟩:∃ o,o=ops[c]:=⟨_,rfl⟩;rw[<-ax] at J;clear ax;have a1:ops.toList.drop c=o::ops.toList.drop (c+1):=by simp_all [zpb]
 cases V:lE E o with
 | false=>
  refine⟨λh0=>(by have:=U.ready hr K;rw[h0] at this;cases this),λi hi=>?_⟩
  have a4:=Nf hr U J V i hi;subst a4;unfold wpOpIn;rw[J];simp only;rw[a1] at f;simp[aX] at f;cases N with
  | zero=>simp[ga] at f
  | succ N=>
  have I:(aX (i+1)<|ops.toList.drop<|i+1).map Prod.snd=ops.toList.drop (i+1):=bn _ _;have Z:∀ o'∈ops.toList.drop (i+1),∃ j,i<j/\ops[j]?=some o':=λo' z=>by
   obtain⟨j,t,he⟩:=z3a z;refine⟨i+1+j,u0,?_⟩
   grind
  refine L9 hE h (a7 o<|zyc.2<|zwc J) (b0 i o J<|zja _) (λo' z=>?_) (λo' z d X=>?_) (λ_=>?_) f λb1 aI s' S' γ' β' w' m0 m1 m2 O m4=>?_
  ·grind
  ·rw[I] at z;obtain⟨j,t,C⟩:=Z o' z;exact kY ap (show i≠j by omega) (by rw[zQa];exact J) (by rw[zQa];exact C) d X
  ·cases hsg:oh E s i o (aX (i+1)<|ops.toList.drop<|i+1) with
   | false=>rfl
   | true=>
    exfalso;simp[oh,Y] at hsg;have G:=hsg.2;split at G<;>try(cases G;done)
    simp[Y,zCa] at G;have h3:lE E o=true:=by simp[lE,G.1.1.1.2,G.1.1.2]
    rw[h3] at V;cases V
  ·refine ih g (zWc _) (i+1) _ N aI u0 (U.set K) m1 (λj F t ad=>m4 F ?_) m0 λs2 S2 γ2 β2 a2 w2 n1 n2 n3 n4=>hQ s2 S2 γ2 β2 a2 w2 n1 (m2.trans n2 O.lkS O.lkO) (O.trans n3) n4
   rw[I];refine zfb (i:=j-(i+1)) ?_;rw[zDb,zQa,show i+1+(j-(i+1))=j by omega]
   exact t
 | true=>
  obtain⟨m,hm⟩:∃ m,m=ku E ops (g+1) c:=⟨_,rfl⟩;obtain⟨e1,e2,e3,e4⟩:=vf (E:=E) (ops:=ops) (g+1) c a5;rw[<-hm] at e1 e2 e3 e4;have ba:c<m:=by
   rcases zua c m with q|q
   ·exact q
   ·exfalso;have:m=c:=u0
    rw[this] at e4;rcases e4 with e4|⟨o',q1,A⟩
    ·omega
    ·rw[J] at q1;cases q1;rw[V] at A;cases A
  have hW:pu .any ops m:=by
   rcases e4 with e4|⟨o',q1,A⟩
   ·rw[e4];exact J9
   ·exact J8 hr q1 A
  have al:(aX c<|ops.toList.drop c).length=ops.size-c:=by rw[jd];simp
  have B:∀ o',lE E o'=true->iO o'=true/\nk E o'=false:=λo' W=>by simp only[lE,Y,zCa] at W;exact W
  obtain⟨s',bh,N',q1,A,q3⟩:=xa N R (aX c<|ops.toList.drop c) s k r (m-c) an (by rw[al];omega) (λp hp=>by
    obtain⟨j,t,C⟩:=vB hp;rw[zDb,zQa] at C;exact B _<|e3 (c+j) p.2 u0 u0 C) (.inr λp q D=>by
    rw[n7,zHd,show c+(m-c)=m by omega] at D
    rcases e4 with e4|⟨o',z1,z2⟩
    ·rw[e4,zrc j2] at D
     simp[aX] at D
    ·have a9:=(zqa.1 z1).1;have:p.2=o':=by
      have h1:(aX m<|ops.toList.drop m).map Prod.snd=ops.toList.drop m:=bn _ _;rw[D] at h1;have G:(ops.toList.drop m)[0]?=some p.2:=by rw[<-h1];rfl
      rw[zDb,zQa,zXb,z1] at G;exact(Option.some.inj G).symm
     rw[this];exact z2) f
  rw[n7,zHd,show c+(m-c)=m by omega] at q3
  rw[ztd,bn] at q1;have M:((ops.toList.drop c).take<|m-c).length=m-c:=by simp;omega
  have H:=Dl (E:=E) hr (n:=m) (L:=λe s2=>Full ops m e/\s2=s') hW (λe s2 hL=>hL.1.later) e2 ((ops.toList.drop c).take<|m-c) c b s s' (λj t=>by rw[M] at t;rw[zQb t,zDb,zQa]) (by rw[M];omega) U e3 q1<|λe aO=>⟨aO,rfl⟩
  have:=jf (ro:=ro) (nn:=nn) (Q:=Q) (g:=ops.size-m) hE (s0:=s) (S0:=S) (γ0:=γ) (a0:=a) (w1:=w) (λi j oi F ad hi t d X=>kY ap ad (by rw[zQa];exact hi) (by rw[zQa];exact t) d X)
   (λe s2 S2 γ2 β2 a2 w2 m1 m2 O m4 m5=>by
    obtain⟨m5,m6⟩:=m5;subst m6;refine ih (ops.size-m) u0 m e N' an u0 m5 (m1.wk A) (λj F t a6=>?_) q3 λs3 u γ3 β3 a3 w3 n1 n2 n3 n4=>hQ s3 u γ3 β3 a3 w3 n1 (m2.trans n2 (A.lkS.trans O.lkS)<|A.lkO.trans O.lkO) ((O.trans<|Sm.wk A).sk.trans n3) n4
    have v:=(zqa.1 t).1;have:=m4 j F t<|m5.rest j a6 v;intro V d X;obtain⟨r1,r2,r3,r4⟩:=this V d X;rw[A.base_eq,A.ob];exact⟨r1,r2,r3,r4⟩)
   ((ops.toList.drop c).take<|m-c).length b s S γ β a w h (Fm.refl _ _ _ _ _) (Sm.refl s) (λj F t a8=>by
    have v:=(zqa.1 t).1;refine b0 j F t ?_;rcases zua j c with q|q
    ·have:=U.done j q v;rw[getD_both a8] at this;cases this
    ·exact q) H
  rw[M,show m-c+(ops.size-m)=g+1 by omega] at this
  exact this
def xU(t:EnvOk P E){id:Nat}{s:St}{w:World}{R:Type}{k:St->Option R}{r:R}
  (h:Rp w0 S γ β s a w) (v:Ke E s γ β ops.toList) (hm:cY ops.toList=true) (B:jI E ops=true) {an:Ann} (l:ga E N R ops an (aX 0 ops.toList) s k=some r)
  (hQ:∀ s' S' i q a' w',Rp w0 S' i q s' a' w'->Fm s S γ a w S' i a' w'->Sk s s'->k s'=some r->Q .normal a' w'):(Code.region id ops true).wpIn (FW ro) nn P Q a w:=by
 simp only[cY,Y] at hm;obtain⟨⟨m,_⟩,p⟩:=hm;have c:∀ o∈ops.toList,∀ T x y,o.op=.store T x y->o.dst=none:=λo A T x y e=>by have:=zxa.1 p o A;rw[e] at this;simpa using this
 refine wpIn_region_any t.mixed ?_;have z:({ w with drawn:=w.drawn+1 }:World)=grown w [] (w.drawn+1):=by simp[grown]
 obtain⟨g1,g2⟩:=h.grow (os:=[]) (d:=w.drawn+1) (zIc _) (S':=S) (λ_ _ f=>f)<|λ_ _ f=>.inl f;rw[z];have u:Fm s S γ a w S γ a (grown w []<|w.drawn+1):=⟨λ_ _ f=>f,g2.cell,λ_ _=>rfl,λid hid b f=>⟨f,.inl<|dL (h.γn id b f).2⟩,j2,λ_ _ f=>f,mz.same rfl dN.grown⟩
 refine JL (ro:=ro) (nn:=nn) t B m c ops.size 0 _ N an u0 ⟨j2,λj g=>u0,λj _ g=>getD_in (by simpa using g)<|getD_replicate_false _ _⟩ g1 (λj H g _=>v H<|zyc.2<|zwc g) (by simpa using l) λs' S' i q a' w' C D F G=>hQ s' S' i q a' w' C (u.trans D rfl rfl) F G
end
end
section
variable{S:Nat->Nat->Prop}{γ:Nat->Option Nat}{a:Act}{β:Nat->Option (Nat×Nat)}{Q:Exit->Act->World->Prop}
variable{ro:Option Nat}{nn:Nat}
section
variable{P:Program}{E:Env}{w0:Root}
def zx{id:Nat}{ops:Array Oper}{dr:Bool}{ann:Ann}{R:Type}{s s1:St}(b:s1={ iK s ann.fz with fresh:=s.fresh+1 }){k:Ex->St->Option R}{r:R}(h:ev E (.region id ops dr) ann R s k=some r) :
  cY ops.toList=true/\(((!dr||tZ E ops (ann.heads ops.size))=true/\ga E (ops.size+1) R ops ann.inner (aX 0 ops.toList) (ik E ops.toList s1) (λs'=>k .normal s')=some r) ∨
   (dr=true/\xr ops (ann.heads ops.size)=true/\Vo E ops (ann.heads ops.size) (mO ops (ann.heads ops.size)<|ik E ops.toList s1) (ann.heads ops.size) 0 (ik E ops.toList s1) (λs2=>if xp ops (ann.heads ops.size) s2=some (mO ops (ann.heads ops.size)<|ik E ops.toList s1) then ga E (ops.size+1) R ops ann.inner ((aX 0 ops.toList).drop<|ann.heads ops.size) s2 (λs'=>k .normal s') else none)=some r) ∨
   (dr=true/\jI E ops=true/\ga E (ops.size+1) R ops ann.inner (aX 0 ops.toList) (ik E ops.toList s1) (λs'=>k .normal s')=some r)):=by
 have key:(if cY ops.toList&&(!dr||tZ E ops (ann.heads ops.size)) then ga E (ops.size+1) R ops ann.inner (aX 0 ops.toList) (ik E ops.toList s1) (λs'=>k .normal s')
  else if cY ops.toList&&xr ops (ann.heads ops.size) then Vo E ops (ann.heads ops.size) (mO ops (ann.heads ops.size)<|ik E ops.toList s1) (ann.heads ops.size) 0 (ik E ops.toList s1) (λs2=>if xp ops (ann.heads ops.size) s2=some (mO ops (ann.heads ops.size)<|ik E ops.toList s1) then ga E (ops.size+1) R ops ann.inner ((aX 0 ops.toList).drop<|ann.heads ops.size) s2 (λs'=>k .normal s') else none)
  else if cY ops.toList&&(dr&&jI E ops) then ga E (ops.size+1) R ops ann.inner (aX 0 ops.toList) (ik E ops.toList s1) (λs'=>k .normal s')
  else none)=some r:=by
  subst b;cases ann<;>exact h
 split at key
 ·rename_i a;simp only[Y] at a;exact⟨a.1,.inl ⟨a.2,key⟩⟩
 ·rename_i c;split at key
  ·rename_i a;simp only[Y] at a;refine⟨a.1,.inr<|.inl ⟨?_,a.2,key⟩⟩;cases dr
   ·exfalso;exact c (by simp[a.1])
   ·rfl
  ·split at key
   ·rename_i a;simp only[Y] at a;exact⟨a.1,.inr<|.inr ⟨a.2.1,a.2.2,key⟩⟩
   ·cases key
theorem JE(I:EnvOk P E){id:Nat}{ops:Array Oper}{dr:Bool}{ann:Ann}{R:Type}{s:St}{w:World}{k:Ex->St->Option R}{r:R}
  (h:Rp w0 S γ β s a w) (J:ev E (.region id ops dr) ann R s k=some r) (hQ:Kp Q w0 s S γ a w k r):(Code.region id ops dr).wpIn (FW ro) nn P Q a w:=by
 obtain⟨S1,c,G,D⟩:=ue ann.fz h;obtain⟨s1,e⟩:∃ s1,s1={ iK s ann.fz with fresh:=s.fresh+1 }:=⟨_,rfl⟩;obtain⟨F,H⟩:=zx e J;have W:s1.base=s.base+4096:=by rw[e];simp only[St.base];omega
 have X:(iK s ann.fz).base=s.base:=D.base_eq;have r1:Rp w0 S1 γ β s1 a w:=by
  rw[e];have q1:∀ id,({ iK s ann.fz with fresh:=s.fresh+1 }:St).base+4096<=id->s.base+4096<=id:=λid hid=>by grind
  exact⟨c.ext,c.tms,c.nt,c.tmu,c.obs,c.γn,c.γi,λid hid=>h.γf id<|q1 id hid,c.βn,c.βi,c.βγ,λv a0=>h.βf v<|q1 v a0,c.Sb,c.So⟩
 have g:∀ d,s.base+4096<=s1.base+d:=λd=>u0
 have U:∀ d,γ (s1.base+d)=none:=λd=>h.γf (s1.base+d)<|g d;have K:∀ d,β (s1.base+d)=none:=λd=>h.βf (s1.base+d)<|g d;obtain⟨N,m2⟩:=BL (E:=E) ops.toList r1 U;have u:=F;simp only[cY,Y,zxa] at u;obtain⟨⟨L,M⟩,_⟩:=u;have m:Ke E (ik E ops.toList s1) γ β ops.toList:=by intro o V Z d O;rw[m2.base_eq];have j:=M o V;rw[O] at j;simp only[zea] at j;exact⟨j,U d,K d,λT t e1 e2=>vZ ops.toList L V e1 O e2⟩
 have b:Sk s (ik E ops.toList s1):=by
  refine⟨m2.lkS.trans ?_,m2.lkO.trans ?_,m2.nt.trans ?_⟩<;>rw[e]
  ·exact D.lkS
  ·exact D.lkO
  ·exact D.nt
 rcases H with⟨p,q⟩|⟨l,p,q⟩|⟨l,p,q⟩
 rotate_right
 ·subst l;exact xU I N m F p q λs' S' C B a' w' x y z A=>hQ .normal s' S' C B a' w' x (G.tr y b) (b.trans z) A
 rotate_left
 ·subst l;exact xT I N m F p q λs' S' C B a' w' x y z A=>hQ .normal s' S' C B a' w' x (G.tr y b) (b.trans z) A
 refine JF I N m F p q λs' S' C B a' w' x y z A=>?_;exact hQ .normal s' S' C B a' w' x (G.tr y b) (b.trans z) A
def N7{s:St}{w:World}(h:Rp w0 S γ β s a w){c:Operand}{t:Bool}(b:(s.opA c).truth=some t):a.eval c=.bool t:=
 (rC b<|aT h c).1
def hrk{S':Nat->Nat->Prop}{γ':Nat->Option Nat}{s:St}{a':Act}{w w':World}(b:∀ l,ro=some l->∃ r0,w.heap[l]?=some (Obj.loop r0))(F:Fm s S γ a w S' γ' a' w'):∀ l,ro=some l->∃ r0,w'.heap[l]?=some (Obj.loop r0):=λl hl=>(F.dfs.1 l).2<|b l hl
def xA(E:Env)(c:Code)(h:Shape)(b:List<|Ex×Shape)(a:Ann)(s:St)(v:List D):Option (Sum (List D)<|Nat×List D):=
 ev E c a (Sum (List D)<|Nat×List D) (h.mk' s v (h.keepS++s.lkS)<|cG h.objs++s.lkO) λe s'=>match e with
    | .normal=>(h.dec s s').bind λv'=>some (.inl v')
    | e=>(GD s b e s').bind λr=>some<|.inr r
theorem jE(K:EnvOk P E):∀ (c:Code) (ann:Ann) (R:Type) {Q:Exit->Act->World->Prop} {S:Nat->Nat->Prop} {γ:Nat->Option Nat} {β:Nat->Option (Nat×Nat)} {s:St} {a:Act} {w:World} (k:Ex->St->Option R) (r:R),
  (∀ l,ro=some l->∃ r0,w.heap[l]?=some (Obj.loop r0))->Rp w0 S γ β s a w->ev E c ann R s k=some r->Kp Q w0 s S γ a w k r->c.wpIn (FW ro) nn P Q a w
 | .skip,ann,R,Q,S,γ,β,s,a,w,k,r,o,h,g,hQ=>by simp only[ev] at g;exact wpIn_skip (hQ .normal s S γ β a w h (Fm.refl _ _ _ _ _) (Sk.refl s) g)
 | .label l,ann,R,Q,S,γ,β,s,a,w,k,r,o,h,g,hQ=>by simp only[ev] at g;exact wpIn_label (hQ .normal s S γ β a w h (Fm.refl _ _ _ _ _) (Sk.refl s) g)
 | .exit id,ann,R,Q,S,γ,β,s,a,w,k,r,o,h,g,hQ=>by simp only[ev] at g;exact wpIn_exit (hQ (.exit id) s S γ β a w h (Fm.refl _ _ _ _ _) (Sk.refl s) g)
 | .ret,ann,R,Q,S,γ,β,s,a,w,k,r,o,h,g,hQ=>by simp only[ev] at g;exact wpIn_ret (hQ .ret s S γ β a w h (Fm.refl _ _ _ _ _) (Sk.refl s) g)
 | .region id ops dr,ann,R,Q,S,γ,β,s,a,w,k,r,o,h,g,hQ=>JE K h g hQ
 | .cond c x y,ann,R,Q,S,γ,β,s,a,w,k,r,o,h,g,hQ=>by
  simp only[ev] at g;obtain⟨t,B,g⟩:=ab g;refine wpIn_cond (N7 h B) ?_;cases t
  ·exact jE K y _ R k r o h (by simpa using g) hQ
  ·exact jE K x _ R k r o h (by simpa using g) hQ
 | .block id c,ann,R,Q,S,γ,β,s,a,w,k,r,o,h,g,hQ=>by
  simp only[ev] at g;refine wpIn_block<|jE K c _ R _ r o h g λe s' S' J N a' w' C A D q=>?_;cases e with
  | normal=>exact hQ .normal s' S' J N a' w' C A D q
  | ret=>exact hQ .ret s' S' J N a' w' C A D q
  | exit j=>
   simp only[Mb,Exit.inBlock];simp only at q;split at q
   ·rename_i hj;rw[zma hj];exact hQ .normal s' S' J N a' w' C A D q
   ·rename_i hj;rw[zha hj];exact hQ (.exit j) s' S' J N a' w' C A D q
 | .seq c d,ann,R,Q,S,γ,β,s,a,w,k,r,o,h,g,hQ=>by
  have plain:(ev E c ann.fst R s λe s'=>match e with|.normal=>ev E d ann.snd R s' k|e=>k e s')=some r->(Code.seq c d).wpIn (FW ro) nn P Q a w:=λg=>by
   refine wpIn_seq<|jE K c _ R _ r o h g λe s' S' J N a' w' C A D q=>?_;cases e with
   | normal=> exact jE K d _ R k r (hrk o A) C q λe2 s2 S2 γ2 β2 a2 w2 m1 m2 m3 m4=>hQ e2 s2 S2 γ2 β2 a2 w2 m1 (A.tr m2 D) (D.trans m3) m4
   | ret=>exact hQ .ret s' S' J N a' w' C A D q
   | exit j=>exact hQ (.exit j) s' S' J N a' w' C A D q
  cases ann with
  | leaf=>simp only[ev] at g;exact plain g
  | reg fz n=>simp only[ev] at g;exact plain g
  | regI fz n x=>simp only[ev] at g;exact plain g
  | two x y=>simp only[ev] at g;exact plain g
  | loop x y z=>simp only[ev] at g;exact plain g
  | all x y z u=>simp only[ev] at g;exact plain g
  | cut p kS kO x y=>
   clear plain;simp only[ev] at g;obtain⟨⟨j,v⟩,Y,Z⟩:=ab g;refine wpIn_seq<|jE K c x _ _ (j,v) o (h.lk (kS++s.lkS)<|kO++s.lkO) Y λe s' S' J N a' w' C A D q=>?_;obtain⟨sh,q1,H⟩:=uK q;simp only at q1 H;obtain⟨U,W,X⟩:=kX (zoa j) (by simpa using q1) Z
   obtain⟨G,I,p1,p2⟩:=ox h C A.sub A.cell D.nt (h:=sh) (λt B=>A.slots t<|List.mem_append_left _<|gL W t B) A.gam (λid hid=>A.objs id<|List.mem_append_left _<|gL X id hid) H s.lkS s.lkO;have F:Fm s S γ a w S' G a' w':=(A.less (s2:=s) (λt B=>z9a _ B)<|λt B=>z9a _ B).shape h p2;cases e with
   | normal=> exact jE K d y R k r (hrk o F) p1 U λe2 s2 S2 γ2 β2 a2 w2 m1 m2 m3 m4=>hQ e2 s2 S2 γ2 β2 a2 w2 m1 (F.tr m2 ⟨rfl,rfl,rfl⟩) (Sk.trans (b:=sh.mk' s v s.lkS s.lkO) ⟨rfl,rfl,rfl⟩ m3) m4
   | ret=>exact hQ .ret _ S' G I a' w' p1 F ⟨rfl,rfl,rfl⟩ U
   | exit i=>exact hQ (.exit i) _ S' G I a' w' p1 F ⟨rfl,rfl,rfl⟩ U
 | .loop c,ann,R,Q,S,γ,β,s,a,w,k,r,o,h,g,hQ=>by
  cases ann with
  | loop sh p x=>
   have L:(sh.dec s s).bind (λv0=>(E.lp (xA E c sh p x s) v0).bind λr=>nN s k sh.keepS (cG sh.objs) p 0 r)=some r:=g;obtain⟨v0,Y,L⟩:=ab L;obtain⟨⟨j,vj⟩,Z,h3⟩:=ab L;obtain⟨n,hn⟩:=K.lp _ _ _ _ _ Z;obtain⟨T,M⟩:∃ T:St,T={ s with lkS:=sh.keepS++s.lkS,lkO:=cG sh.objs++s.lkO }:=⟨_,rfl⟩;obtain⟨γ0,β0,p1,p2⟩:=ox h h (λ_ _ O=>O) (λ_ _ _=>rfl) rfl (h:=sh) (λ_ _=>rfl) (λ_ _ O=>O) (λ_ _ _ O=>⟨O,kL.refl _ _⟩) Y (sh.keepS++s.lkS) (cG sh.objs++s.lkO);have F0:Fm T S γ a w S γ0 a w:=(Fm.refl T S γ a w).shape h p2;refine AG (λn a1 w1=>∃ v S1 γ1 β1,Rp w0 S1 γ1 β1 (sh.mk' s v (sh.keepS++s.lkS)<|cG sh.objs++s.lkO) a1 w1/\Fm T S γ a w S1 γ1 a1 w1/\sG (xA E c sh p x s) n v=some (j,vj)) (m:=n) ⟨v0,S,γ0,β0,p1,F0,hn⟩ ?_;rintro n a1 w1 ⟨v,S1,γ1,β1,g1,g2,g3⟩;cases n with
   | zero=>simp[uo] at g3
   | succ m=>
    simp only[lM] at g3;cases O:xA E c sh p x s v with
    | none=>rw[O] at g3;cases g3
    | some ad=>
     rw[O] at g3;refine jE K c x _ _ ad (hrk o g2) g1 O λe s' S' J N a' w' C A D q=>?_;have F:Fm T S γ a w S' J a' w':=g2.tr A (by rw[M];exact⟨rfl,rfl,rfl⟩)
     have V:s'.nt=s.nt:=D.nt;have sl:∀ t∈sh.keepS,a'.tmps.getD t undef=a.tmps.getD t undef:=λt B=>F.slots t (by rw[M];exact List.mem_append_left _ B)
     have ob:∀ id∈cG sh.objs,∀ b,γ id=some b->J id=some b/\kL w w' b:=λid hid=>F.objs id (by rw[M];exact List.mem_append_left _ hid)
     have fin:∀ e,GD s p e s'=some (j,vj)->Q (Mb e) a' w':=λe he=>by
      obtain⟨al,q1,H⟩:=uK he;simp only at q1 H;obtain⟨U,W,X⟩:=kX (zoa j) (by simpa using q1) h3
      obtain⟨G,I,o1,o2⟩:=ox h C F.sub F.cell V (h:=al) (λt B=>sl t<|gL W t B) F.gam (λid hid=>ob id<|gL X id hid) H s.lkS s.lkO;exact hQ e _ S' G I a' w' o1 ((F.less (s2:=s) (λt B=>by rw[M];exact z9a _ B)<|λt B=>by rw[M];exact z9a _ B).shape h o2) ⟨rfl,rfl,rfl⟩ U
     cases e with
     | normal=> simp only at q;obtain⟨v',q1,H⟩:=ab q;simp only[zda] at H;subst H;obtain⟨G,I,o1,o2⟩:=ox h C F.sub F.cell V (h:=sh) sl F.gam ob q1 (sh.keepS++s.lkS)<|cG sh.objs++s.lkO;exact⟨m,zWc m,v',S',G,I,o1,F.shape h o2,g3⟩
     | ret=> simp only at q;obtain⟨v',q1,H⟩:=ab q;simp only[zda] at H;subst H;simp only[zda] at g3;subst g3;exact fin .ret q1
     | exit i=> simp only at q;obtain⟨v',q1,H⟩:=ab q;simp only[zda] at H;subst H;simp only[zda] at g3;subst g3;exact fin (.exit i) q1
  | leaf=>simp[ev] at g
  | reg fz n=>simp[ev] at g
  | regI fz n x=>simp[ev] at g
  | two x y=>simp[ev] at g
  | cut p kS kO x y=>simp[ev] at g
  | all p kS kO x=>simp[ev] at g
 | .goto l,ann,R,Q,S,γ,β,s,a,w,k,r,o,h,g,hQ=>by
  have:(none:Option R)=some r:=by cases ann<;>exact g
  cases this
 | .scope c,ann,R,Q,S,γ,β,s,a,w,k,r,o,h,g,hQ=>by simp only[ev] at g;refine ph<|jE K c _ R k r o h g λe s' S' J N a' w' C A D q=>?_;cases e<;>exact hQ _ s' S' J N a' w' C A D q
 | .rangeFunc f ps x y,ann,R,Q,S,γ,β,s,a,w,k,r,o,h,g,hQ=>Vp K (an:=ann) o h (by cases ann<;>exact g) hQ
def Hw(o:EnvOk P E)(c:Code)(ann:Ann)(R:Type){s:St}{w:World}(k:Ex->St->Option R)(r:R)
  (f:∀ l,ro=some l->∃ r0,w.heap[l]?=some (Obj.loop r0)) (h:Rp w0 S γ β s a w) (b:Ow E c ann R s k=some r) (hQ:Kp Q w0 s S γ a w k r):c.wpIn (FW ro) nn P Q a w:=by
 cases ann with
 | all i C B x=>
  simp only[Ow] at b;obtain⟨⟨j,v⟩,z,A⟩:=ab b;refine jE o c x _ _ (j,v) f (h.lk (C++s.lkS)<|B++s.lkO) z λe s' S' J I a' w' D d F G=>?_;obtain⟨sh,q1,p⟩:=uK G;simp only at q1 p;obtain⟨q,u,y⟩:=kX (zoa j) (by simpa using q1) A
  obtain⟨n,m,p1,H⟩:=ox h D d.sub d.cell F.nt (h:=sh) (λt g=>d.slots t<|List.mem_append_left _<|gL u t g) d.gam (λid hid=>d.objs id<|List.mem_append_left _<|gL y id hid) p s.lkS s.lkO;exact hQ e _ S' n m a' w' p1 ((d.less (s2:=s) (λt g=>z9a _ g)<|λt g=>z9a _ g).shape h H) ⟨rfl,rfl,rfl⟩ q
 | _=>exact jE o c _ R k r f h b hQ
def Da(d:EnvOk P E)(c:Code)(ann:Ann)(R:Type){s:St}{w:World}(k:Ex->St->Option R)(r:R)
  (h:Rp w0 S γ β s a w) (b:ev E c ann R s k=some r) (hQ:Kp Q w0 s S γ a w k r):c.wpIn (FW none) nn P Q a w:=
 jE d c ann R k r (λ_ h=>by cases h) h b hQ
end
def Vc{P:Program}{E:Env}(d:EnvOk P E):Ko P (Ow E):=λ_ _ _ c ann R _ _ _ _ _ _ _ k r b h a hQ=>Hw d c ann R k r b h a hQ
end
end Sy
end
noncomputable section
namespace Sy
open Go
open Go.ChangeMaps (setBlock)
open Go.RowKit
section
variable{y:D}{K:Nat}{f:FuncId}{j:Ty}{q:Option<|List Deferred}
variable{ro:Option Nat}{nn:Nat}
section
variable{P:Program}{E:Env}{w0:Root}{S:Nat->Nat->Prop}{γ:Nat->Option Nat}{β:Nat->Option (Nat×Nat)}{s:St}{a:Act}{w:World}
def lU(tmps:Array Value):ResultVar->Sem Value
 | .tmp t=>pure (tmps.getD t undef)
 | .cell a t=>do loadVar t (<-asAddr (tmps.getD a undef))
def kr(fn:Func)(tmps:Array Value):Go.results fn tmps=(do
  let vs <-fn.results.mapM (lU tmps)
  pure (if h:vs.size=1 then vs[0] else .tuple vs)):=by
 unfold Go.results;congr 1
def Me{t t':Ty}{a:AV}(h:AV.fits t a=true)(b:AV.fits t' a=true):dn t=dn t':=by
 cases a
 case d u x=>rw[qx h,qx b]
 all_goals (cases t<;>cases t'<;>simp_all [AV.fits,dn])
def If(C:EnvOk P E)(h:Rp w0 S γ β s a w){R:Type}{t:Ty}(z:aj t=true){k:D->Option R}{r:ResultVar}{y:R}(hq:NA E s t k r=some y) :
  ∃ x v,k x=some y/\(lU a.tmps r).run P w=.ok v w/\wt t x/\ge w S x v:=by
 cases r with
 | tmp i=>
  simp[NA] at hq;obtain⟨x,f,m⟩:=ab hq;have hi:i<a.tmps.size:=by
   rcases zua i a.tmps.size with e|d
   ·exact e
   ·rw[h.tmu i (by rw[<-h.nt];exact d)] at f
    simp[afv] at f
  obtain⟨q,J⟩:=pS z (h.tms i hi) f;exact⟨x,a.tmps.getD i undef,m,rfl,q,J⟩
 | cell i T=>
  simp[NA] at hq;obtain⟨u,G,hq⟩:=ab hq;split at hq<;>try(cases hq;done)
  rename_i t' id p l;split at hq<;>try(cases hq;done)
  rename_i F;have:=ags _ _ F;subst this;obtain⟨o,A,hq⟩:=ab hq;have hi:i<a.tmps.size:=by
   rcases zua i a.tmps.size with e|d
   ·exact e
   ·have:=h.tmu i (by rw[<-h.nt];exact d)
    rw[l] at this;cases this
  have hx:=h.tms i hi;rw[l] at hx;obtain⟨b,off,H,I,n⟩:=lj hx;obtain⟨q,rfl⟩:=n o A;obtain⟨a',cs,m1,m2,B,K,L⟩:=lT (h.obs id o b A I) q hq;obtain⟨M,N⟩:=iG _ _ _ B m2;obtain⟨v,j,c⟩:=jx (jQ C G K) (w:=w) (b:=b) (off:=cC o p) M N L;obtain⟨x,f,m⟩:=ab m1;obtain⟨q1,Q,O⟩:=uI _ _ _ _ f m2;have g:=Me (yl _ _ _ f) B;refine⟨x,v,m,?_,q1,O v ⟨c.1,by rw[g];exact c.2.1,by rw[g];exact c.2.2⟩ z⟩
  rw[<-j];simp only[lU,Instr.loadAt,Instr.sureAddr,pure_bind];rw[show a.tmps.getD i undef=.pointer (some ⟨b,cC o p,none⟩) from H];rfl
theorem s7(g:EnvOk P E)(h:Rp w0 S γ β s a w){R:Type}:∀ (ts:List Ty) (b:List ResultVar) (k:List D->Option R) (y:R),aP ts=true->ve E s ts b k=some y ->
  ∃ xs vs,k xs=some y/\(b.mapM<|lU a.tmps).run P w=.ok vs w/\fq ts xs/\vs.length=b.length/\xs.length=vs.length/\∀ (i:Nat) (d:D) (u:Value),xs[i]?=some d->vs[i]?=some u->ge w S d u
 | [],[],k,y,_,hq=>by simp[ve] at hq;exact⟨[],[],hq,rfl,rfl,rfl,rfl,λi d u h=>by simp at h⟩
 | [],_::_,k,y,_,hq=>by simp[ve] at hq
 | _::_,[],k,y,_,hq=>by simp[ve] at hq
 | t::ts,r::b,k,y,f,hq=>by
  simp[ve] at hq;simp[aP,Y] at f;obtain⟨x,v,j,l,m,n⟩:=If g h f.1 hq;obtain⟨xs,vs,o,p,q,z,A,B⟩:=s7 g h ts b _ y f.2 j;refine⟨x::xs,v::vs,o,?_,⟨x,xs,rfl,m,q⟩,by simp[z],by simp[A],λi d u c e=>?_⟩
  ·simp[zVc,G,l,zga,p,zta]
  ·cases i with
   | zero=>simp at c e;subst c;subst e;exact n
   | succ i=>simp at c e;exact B i d u c e
def gg(n:Nat)(a:Ty):Bool:=if n=1 then aj a else match a with|.tup ts=>aP ts|_=>false
def ks(d:EnvOk P E)(h:Rp w0 S γ β s a w){fn:Func}(b:gg fn.results.size j=true)(hq:results E s j fn.results.toList=some y) :
  ∃ v,(Go.results fn a.tmps).run P w=.ok v w/\wt j y/\DR w S y v:=by
 rw[kr];have hm:fn.results.mapM (lU a.tmps)=Functor.map List.toArray (fn.results.toList.mapM<|lU a.tmps):=by rw[zxc]
 rw[hm];have f:fn.results.size=fn.results.toList.length:=j2
 rw[f] at b;generalize fn.results.toList=n at *
 match n,b,hq with
 | [r],b,hq=>
  have e:aj j=true:=by simpa [gg] using b
  simp[results] at hq;obtain⟨x,v,o,q,t,u⟩:=If d h e hq;simp[zda] at o;subst o;refine⟨v,?_,t,DR.of0 u⟩;simp[zVc,q]
 | [],b,hq=>
  simp[gg,zzb] at b;obtain⟨ts,rfl⟩:∃ ts,j=.tup ts:=by cases j<;>first|exact⟨_,rfl⟩|(simp[results] at hq;done)
  simp[results] at hq;obtain⟨xs,vs,c,p,i,k,l,m⟩:=s7 d h ts [] _ y (by simpa using b) hq
  simp[zda] at c;subst c;refine⟨.tuple vs.toArray,?_,by simp only[wt];exact⟨xs,rfl,i⟩,vs,rfl,l,m⟩
  have:vs=[]:=z8b.1 k;subst this;simp
 | r::r'::n,b,hq=>
  simp only[gg,zOa] at b;rw[zha u0] at b
  obtain⟨ts,rfl⟩:∃ ts,j=.tup ts:=by cases j<;>first|exact⟨_,rfl⟩|(simp[results] at hq;done)
  simp[results] at hq;obtain⟨xs,vs,c,p,i,k,l,m⟩:=s7 d h ts (r::r'::n) _ y b hq;simp[zda] at c;subst c;refine⟨.tuple vs.toArray,?_,by simp only[wt];exact⟨xs,rfl,i⟩,vs,rfl,l,m⟩
  have:vs.length≠1:=by rw[k];simp
  have g:=p;simp only[G,map_eq_pure_bind,g,zga,zta];simp[this]
def fV{r:Root}{w:World}(h:nD r w)(k:∀ b,¬ r.sh b):∃ os d,r.w.drawn<=d/\w=grown r.w os d:=by
 obtain⟨w0,S0,sh⟩:=r;obtain⟨c,f,g,l,a,j⟩:=h;simp only[Root.heap,Root.Old] at *;refine⟨(w.heap.toList.drop w0.heap.size),w.drawn,a,?_⟩;have e:w.heap=w0.heap++(w.heap.toList.drop w0.heap.size).toArray:=by
  apply zkc;rw[Array.toList_append]
  conv=>lhs;rw[<-zza w0.heap.size w.heap.toList]
  congr 1;apply zTb;intro i;by_cases hi:i<w0.heap.size
  ·rw[zQb hi,zQa,j i ⟨hi,k i⟩,zQa]
  ·rw[zXa (by simp;omega),zXa (by simpa using hi)]
 cases w;simp only[grown] at *;subst c;subst f;subst g;congr 1
theorem shut_row{x:Option<|List Deferred}(a:w.heap[K]?=some (.deferred q))(b:Nat):ce (setBlock w K<|.deferred x) b=ce w b:=by
 by_cases e:b=K
 ·subst e;simp[ce,a,iW (zqa.1 a).1]
 ·simp[ce,fo e]
def Ao{x:Option<|List Deferred}(a:w.heap[K]?=some (.deferred q))(b o:Nat):(setBlock w K<|.deferred x).cell? ⟨b,o,none⟩=w.cell? ⟨b,o,none⟩:=by
 by_cases e:b=K
 ·subst e;simp[World.cell?,a,iW (zqa.1 a).1]
 ·simp[World.cell?,fo e]
def Rp.shut(h:Rp w0 S γ β s a w)(g:w.heap[K]?=some (.deferred q))(C:¬ w0.Old K)(x:Option<|List Deferred):Rp w0 S γ β s a (setBlock w K<|.deferred x):=by
 have m:Cx.le ⟨w,S,γ,β,s.ob,s.dead⟩ ⟨setBlock w K<|.deferred x,S,γ,β,s.ob,s.dead⟩:=
  ⟨λb o _=>Ao g b o,λ_ _ j=>j,λ_ _ j=>j,λi y B _=>⟨y,B,λp=>⟨rfl,rfl⟩,λt l e=>⟨l,e,rfl⟩,λ_ _ l e=>⟨l,e⟩⟩,λv A=>⟨A,λb' e z=>⟨z,λn E=>by have u:=E;simp[rL,shut_row g] at u ⊢;exact u⟩⟩⟩
 refine⟨qg h.ext rfl rfl rfl (by rw[ff];exact zja _) (zja _) (λb' c=>fo λe=>C<|e ▸ c),λt F=>(h.tms t F).mono m,h.nt,h.tmu,λi y b' B c=>?_,λi b' c=>by rw[ff];exact h.γn i b' c,h.γi,h.γf,
  λv b' e A z=>by rw[ff];exact h.βn v b' e A z,h.βi,h.βγ,h.βf,λb' o j=>by rw[ff];exact h.Sb b' o j,h.So⟩
 have d:=h.obs i y b' B c;refine d.mono m (fo λe=>?_) λ_ D=>D;subst e;cases y<;>simp only[gM] at d
 case one=>obtain⟨_,_,_,cs,k,_⟩:=d;simp[ce,g] at k
 case many=>obtain⟨_,_,_,cs,H,k,_⟩:=d;simp[ce,g] at k
 case mp=>obtain⟨_,_,_,G,k,_⟩:=d;rw[g] at k;cases k
 case lp=>obtain⟨r,k,_⟩:=d;rw[g] at k;cases k
 case fv=>obtain⟨_,x,k,_⟩:=d;simp[ce,g] at k
theorem cQ.set{lo:Nat}:∀ {l:List Deferred} {hi K:Nat} {x:Option<|List Deferred},hi<=K->cQ lo w hi l->cQ lo (setBlock w K<|.deferred x) hi l
 | [],_,_,_,_,_=>trivial
 | d::l,hi,K,x,g,⟨J,a,b,c,e,f⟩=>⟨J,a,b,c,by rw[fo u0];exact e,cQ.set u0 f⟩
theorem zK{fn:Func}{tmps:Array Value}{Rn:Ending->World->Prop}{J:World->Prop}{lo:Nat}(c:∀ w K,J w->lo<=K->w.heap[K]?=some (.deferred<|some [])->J (setBlock w K<|.deferred none))
  (e:∀ w,J w->∃ v,(Go.results fn tmps).run P w=.ok v w/\Rn (.returned v) w):∀ (m:List Deferred) (hi:Nat) (w:World),cQ lo w hi m->J w->LeavesInM (FW none) 0 P fn tmps Rn m .returning w
 | [],_,w,_,a=>e w a
 | d::m,hi,w,⟨K,f,g,_,b,h⟩,a=>by refine⟨j2,.inl ⟨K,_,by rw[f],run_takeDeferred b,zK c e m K _ (cQ.set (zja _) h)<|c w K a g b⟩⟩
def jm(I:EnvOk P E){fn:Func}{c:Code}(M:P.funcs[f]?=some fn)(d:fn.body=some c){args:Array Value}{ann:Ann}{R:Type}{k:Ex->St->Option R}{r:R}{Rn:Ending->World->Prop}
  (D:a={ tmps:=args++Array.replicate (fn.ntmps-args.size) undef,defers:=[] }) (h:Rp w0 S γ β s a w) (y:Ow E c ann R s k=some r) (N:∀ i s',k (.exit i) s'≠some r)
  (fin:∀ e s' S' l u a' w',Rp w0 S' l u s' a' w'->Fm s S γ a w S' l a' w'->Sk s s'->k e s'=some r->∃ v,(Go.results fn a'.tmps).run P w'=.ok v w'/\Rn (.returned v) w'):Calls P f args w Rn:=by
 refine callsIn_wide.1<|callsIn_of_wp_marks (F:=FW none) (n:=0) M d trivial ?_;rw[<-D];refine Hw I c ann R k r (λ_ h=>by cases h) h y λe s' S' l u a' w' U j V G=>?_
 have L:a.defers=[]:=by rw[D]
 have key:LeavesInM (FW none) 0 P fn a'.tmps Rn a'.defers .returning w':=by
  obtain⟨q1,m,H,W,_⟩:=j.dfs;rw[L,zic] at H;rw[H];refine zK (J:=λt=>Rp w0 S' l u s' { a' with defers:=a.defers } t/\Fm s S γ a w S' l { a' with defers:=a.defers } t) (lo:=w.heap.size) (λt K ⟨z,g⟩ O C=>?_) (λt ⟨z,g⟩=>fin e s' S' l u _ t z g V G) m _ w' W ⟨U.act rfl,⟨j.sub,j.cell,j.slots,j.objs,j.sz,j.gam,mz.same rfl q1⟩⟩;have q:¬ w0.Old K:=λT=>by have:=T.1;have:=h.ext.sz;omega
  refine⟨z.shut C q none,g.sub,λb o x=>(Ao C b o).trans<|g.cell b o x,g.slots,λi hi b d=>?_,by rw[ff];exact g.sz,g.gam,mz.same rfl λb=>?_⟩
  ·obtain⟨A,B⟩:=g.objs i hi b d;have Q:=(h.γn i b d).2;exact⟨A,B.trans<|.inl<|fo u0⟩
  ·obtain⟨A,B⟩:=g.dfs.1 b;have p:b<w.heap.size->b≠K:=λ_=>u0
   refine⟨λd=>?_,λ⟨r,d⟩=>?_⟩
   ·rw[fo<|p (zqa.1 d).1];exact A d
   ·rw[fo<|p (zqa.1 d).1];exact B ⟨r,d⟩
 cases e with
 | normal=>exact key
 | ret=>exact key
 | exit i=>exact z8a G<|N i s'
def IT(C:EnvOk P E){fn:Func}{ann:Ann}{g:List Ty}{xs:List D}(m:P.funcs[f]?=some fn)(M:g.length<=fn.ntmps)(J:aP g=true)(L:gg fn.results.size j=true)
  (h:evF E fn ann g j xs=some y):OC P g j f xs y:=by
 intro w S vs H q F z;unfold evF at h;split at h<;>try(cases h;done)
 rename_i c a;have Q:=iZ q;have p:(vs.toArray++Array.replicate (fn.ntmps-vs.toArray.size) undef).size=fn.ntmps:=by simp;omega
 refine jm (w0:=⟨w,S,λ_=>False⟩) (S:=S) (γ:=λ_=>none) (β:=λ_=>none) C m a rfl ?_ h (λ_ _ I=>by cases I) λe s' S' γ' β' a' w' s X Y B=>?_
 ·refine⟨⟨rfl,rfl,rfl,zja _,zja _,λ_ _=>rfl⟩,λt G=>?_,p,λt G=>?_,λid o b K=>(by cases K),λid b a=>(by cases a),λid R b a=>(by cases a),λ_ _=>rfl,λv b e _ a=>(by cases a),λv v' b e W _ _ a=>(by cases a),λv id b e _ a=>(by cases a),λ_ _=>rfl,H,λb o a _=>a⟩
  ·simp only[gT];split
   ·rename_i ty x e1 e2;have n:=(zra.1 e2).1;have k:t<vs.length:=u0
    have O:(vs.toArray++Array.replicate (fn.ntmps-vs.toArray.size) undef).getD t undef=vs[t]:=by simp[Array.getD,zGd,k];omega
    rw[O];obtain⟨Z,r,A⟩:=gk q e1;rw[e2] at r;cases r;exact dC (bZ J e1) A<|z t x _ e2<|zca k
   ·simp[AR]
  ·have N:fn.ntmps<=t:=G;simp[gT];rw[zXa u0]
 ·have l:results E s' j fn.results.toList=some y->(∃ v,(Go.results fn a'.tmps).run P w'=.ok v w'/\∃ v',Ending.returned v=.returned v'/\(∃ os d,w.drawn<=d/\w'=grown w os d)/\wt j y/\DR w' (λb o=>S b o\/(w.heap.size<=b/\b<w'.heap.size)) y v'):=λhq=>by
   obtain⟨v,T,U,V⟩:=ks C s L hq;refine⟨v,T,v,rfl,fV s.ext<|λ_ m=>m,U,V.mono (λ_ _ _=>rfl) λb o a=>?_⟩;rcases zua b w.heap.size with n|u
   ·exact .inl<|s.So b o a ⟨n,λm=>m⟩
   ·exact .inr ⟨u,s.Sb b o a⟩
  cases e with
  | normal=>exact l B
  | ret=>exact l B
  | exit i=>cases B
def Do(a:List Ty)(k:Nat)(args:List D)(i:Nat):AV:=
 if i+k<a.length then gT a args i else match a[i]? with
  | some t=>.ptr t (i+k-a.length) []
  | none=>.undef
def WU(a:List Ty)(k:Nat)(args:List D)(j:Nat):Option Ob:=
 if j<k then match a[a.length-k+j]?,args[a.length-k+j]? with
  | some t,some x=>some (.one t<|.d t x)
  | _,_=>none
 else none
def nl:Option Ob->Bool
 | some (.one _ _)=>true
 | _=>false
def Vk(E:Env)(fn:Func)(ann:Ann)(a:List Ty)(k:Nat)(b:Ty)(args:List D):Option D:=
 match fn.body with
 | none=>none
 | some c=>Ow E c ann D { tm:=Do a k args,ob:=WU a k args,fresh:=0,dead:=[],nt:=fn.ntmps,lkS:=[],lkO:=List.range k } λe s=>match e with
  | .exit _=>none
  | _=>if(List.range k).all (λj=>nl<|s.ob j) then results E s b fn.results.toList else none
def Fb(hE:EnvOk P E){fn:Func}{ann:Ann}{a:List Ty}{k:Nat}{A:Ty}{xs:List D}(V:P.funcs[f]?=some fn)(a1:a.length<=fn.ntmps)(hn:aP a=true)(hk:k<=a.length)(aI:k<=4095)(hr:gg fn.results.size A=true)
  (h:Vk E fn ann a k A xs=some y):WX P a A f xs y k:=by
 intro w S vs p hS J T ax X ad U;unfold Vk at h;split at h<;>try(cases h;done)
 rename_i c g;have a2:=iZ J;have Z:vs.length=a.length-k:=u0
 obtain⟨l,hl⟩:∃ l,l=vs++p.map JA:=⟨_,rfl⟩;have aO:l.length=a.length:=by rw[hl];simp;omega
 rw[<-hl];have M:(l.toArray++Array.replicate (fn.ntmps-l.toArray.size) undef).size=fn.ntmps:=by simp;omega
 have G:∀ t,t<l.length->(l.toArray++Array.replicate (fn.ntmps-l.toArray.size) undef).getD t undef=l.getD t undef:=λt Q=>by simp[Array.getD,zGd,Q];omega
 have cap:∀ j b,p[j]?=some b->j<k/\∃ t x,a[a.length-k+j]?=some t/\xs[a.length-k+j]?=some x/\wt t x/\R9 w S x b:=λj b C=>by
  have n:j<k:=by rw[<-T];exact(zra.1 C).1
  have h1:a.length-k+j<a.length:=u0
  obtain⟨x,hx,hw⟩:=gk J<|zca h1;exact⟨n,_,x,zca h1,hx,hw,U j x b (by rw[Z];exact hx) C⟩
 have K:∀ j b,p[j]?=some b->b<w.heap.size:=λj b C=>by
  obtain⟨_,t,x,_,_,_,_,cs,q,_⟩:=cap j b C;simp[ce] at q;split at q<;>try(cases q;done)
  rename_i W;exact(zqa.1 W).1
 have key:∀ t,AR ⟨w,S,λid=>p[id]?,λ_=>none,WU a k xs,[]⟩ (Do a k xs t) ((l.toArray++Array.replicate (fn.ntmps-l.toArray.size) undef).getD t undef):=λt=>by
  simp only[Do];split
  ·rename_i I;rw[G t u0]
   simp only[gT];split
   ·rename_i ty x e1 e2;have z:t<vs.length:=u0
    have Y:l.getD t undef=vs[t]:=by rw[hl,zGa,zab z,zca z];rfl
    rw[Y];obtain⟨x',O,al⟩:=gk J e1;rw[e2] at O;cases O;exact dC (bZ hn e1) al<|ad t x _ e2<|zca z
   ·simp[AR]
  ·rename_i L;split
   ·rename_i ty e1;have I:=(zra.1 e1).1;obtain⟨j,C⟩:∃ j,j=t+k-a.length:=⟨_,rfl⟩;have n:j<p.length:=u0
    have N:t=a.length-k+j:=u0
    rw[G t u0,<-C]
    have Y:l.getD t undef=JA p[j]:=by rw[hl,zGa,zVb u0,show t-vs.length=j by omega,z4b,zca n];rfl
    rw[Y];refine gA (zca n) λo F=>?_;have m:WU a k xs j=some o:=F;unfold WU at m;split at m<;>try(cases m;done)
    split at m<;>try(cases m;done)
    rename_i u x q1 q2;cases m;rw[<-N,e1] at q1;cases q1;exact⟨rfl,rfl⟩
   ·simp[AR]
 refine jm (w0:=⟨w,S,λb=>b∈p⟩) (S:=S) (γ:=λid=>p[id]?) (β:=λ_=>none) hE V g rfl ?_ h (λ_ _ W=>by cases W) λe s' S' γ' β' a' w' B n2 n3 n4=>?_
 ·refine⟨⟨rfl,rfl,rfl,zja _,zja _,λ_ _=>rfl⟩,λt Q=>?_,M,λt Q=>?_,λid o b F g=>?_,λid b g=>⟨λF=>F.2<|zfb g,K id b g⟩,λid an b g R=>X id an b g R,λid hid=>zXa ?_,λv b e _ g=>(by cases g),λv v' b e e' _ _ g=>(by cases g),λv id b e _ g=>(by cases g),λ_ _=>rfl,hS,λb o g _=>g⟩
  ·exact key t
  ·have N:fn.ntmps<=t:=Q;show Do a k xs t=.undef;unfold Do;rw[zha u0,zXa u0]
  ·have m:WU a k xs id=some o:=F;obtain⟨n,t,x,q1,q2,q3,q4,cs,q5,q6⟩:=cap id b g;unfold WU at m;rw[zma n,q1,q2] at m;cases m;have q0:=bZ hn q1;simp[gM,AV.fits,AC];exact⟨q0,agr t,q4,cs,q5,⟨q3,q0,q6⟩,by rw[<-q6.1];exact cJ _ _ q3 q0⟩
  ·have ap:=hid;omega
 ·have stay:∀ b∈p,w'.heap[b]?=w.heap[b]?/\((List.range k).all (λj=>nl<|s'.ob j)=true->∀ o,¬ S' b o):=λb g=>by
   obtain⟨j,C⟩:=List.getElem?_of_mem g;obtain⟨n,t,x,q1,q2,q3,q4,cs,q5,q6⟩:=cap j b C;obtain⟨z1,z2⟩:=n2.objs j (zRa.2 n) b C;refine⟨z2.row q5,λs=>?_⟩;have:=zxa.1 s j<|zRa.2 n;cases F:s'.ob j with
   | none=>rw[F] at this;cases this
   | some o=>
    rw[F] at this;have hO:=B.obs j o b F z1;cases o<;>simp[nl] at this<;>try(cases this;done)
    simp[gM] at hO;exact hO.2.2.1
  have H:(if(List.range k).all (λj=>nl<|s'.ob j) then results E s' A fn.results.toList else none)=some y->(∃ v,(Go.results fn a'.tmps).run P w'=.ok v w'/\∃ v',Ending.returned v=.returned v'/\(∃ os d,w.drawn<=d/\w'=grown w os d)/\wt A y/\DR w' (λb o=>S b o\/(w.heap.size<=b/\b<w'.heap.size)) y v'):=λhq=>by
   split at hq<;>try(cases hq;done)
   rename_i s;obtain⟨v,k1,k2,k3⟩:=ks hE B hr hq;refine⟨v,k1,v,rfl,fV (r:=⟨w,S,λ_=>False⟩) ⟨B.ext.tape,B.ext.os,B.ext.output,B.ext.sz,B.ext.dr,λb g=>?_⟩<|λ_ V=>V,k2,k3.mono (λ_ _ _=>rfl) λb o g=>?_⟩
   ·by_cases hm:b∈p
    ·exact(stay b hm).1
    ·exact B.ext.old b ⟨g.1,hm⟩
   ·rcases zua b w.heap.size with I|L
    ·by_cases hm:b∈p
     ·exact z8a g<|(stay b hm).2 s o
     ·exact .inl<|B.So b o g ⟨I,hm⟩
    ·exact .inr ⟨L,B.Sb b o g⟩
  cases e with
  | normal=>exact H n4
  | ret=>exact H n4
  | exit i=>cases n4
end
end
end Sy
end
noncomputable section
namespace Sy
open Go Go.Proofs Go.Sort Go.Lib
section
variable{y:D}
def wO(E:Env)(g:Nat)(x y:D):Option Int:=(E.call g [x,y]).bind λr=>match r with|.int .i64 n=>some n|_=>none
def uu(E:Env)(g:Nat)(x y:D):Bool:=match wO E g x y with|some n=>decide (n<0)|none=>false
def Ki(E:Env)(g:Nat)(x y:D):Bool:=match wO E g x y with|some n=>decide (0<=n)|none=>false
def FC(lt:D->D->Bool)(x:D):List D->List D
 | []=>[x]
 | y::l=>if lt x y then x::y::l else y::FC lt x l
def nu(lt:D->D->Bool):List D->List D
 | []=>[]
 | x::l=>FC lt x<|nu lt l
def vz(E:Env)(g:Nat):List D->Bool
 | []=>true
 | x::l=>Ki E g x x&&l.all (λy=>uu E g x y&&Ki E g y x)&&vz E g l
def ld(E:Env)(g:Nat)(l:List D):Option (List D):=if vz E g (nu (uu E g) l) then some (nu (uu E g) l) else none
theorem ul(lt:D->D->Bool)(x:D):∀ l:List D,(FC lt x l).Perm (x::l)
 | []=>.refl _
 | y::l=>by
  simp[FC];split
  ·exact .refl _
  ·exact((ul lt x l).cons y).trans<|.swap x y l
theorem iX(lt:D->D->Bool):∀ l:List D,(nu lt l).Perm l
 | []=>.refl _
 | x::l=>(ul lt x _).trans<|(iX lt l).cons x
section
variable{E:Env}{g:Nat}
theorem lF:∀ {l:List D},vz E g l=true->l.Pairwise (λx y=>uu E g x y=true/\Ki E g y x=true)/\∀ x∈l,Ki E g x x=true
 | [],_=>⟨.nil,j2⟩
 | x::l,h=>by
  simp[vz,Y,zxa] at h;obtain⟨⟨b,c⟩,d⟩:=h;obtain⟨e,f⟩:=lF d;exact⟨zNa.2 ⟨c,e⟩,λy a=>by
   rcases zMa.1 a with rfl|a
   ·exact b
   ·exact f y a⟩
def Ml{x:D}(h:Ki E g x y=true):uu E g x y=false:=by
 unfold Ki at h;unfold uu;split at h
 ·rename_i n a;simp[zea] at h;simp[decide_eq_false_iff_not];omega
 ·cases h
def We{x:D}(h:uu E g x y=true\/Ki E g x y=true):∃ n,wO E g x y=some n:=by
 rcases h with h|h
 ·unfold uu at h;split at h
  ·exact⟨_,by assumption⟩
  ·cases h
 ·unfold Ki at h;split at h
  ·exact⟨_,by assumption⟩
  ·cases h
variable{l:List D}(hc:vz E g l=true)
include hc
def fR{i j:Nat}{x y:D}(hi:l[i]?=some x)(e:l[j]?=some y):(uu E g x y=true↔i<j)/\∃ n,wO E g x y=some n:=by
 obtain⟨c,d⟩:=lF hc;obtain⟨a,rfl⟩:=zra.1 hi;obtain⟨b,rfl⟩:=zra.1 e;rcases zpd i j with k|k|k
 ·have:=zIb.1 c i j a b k;exact⟨⟨λ_=>k,λ_=>this.1⟩,We<|.inl this.1⟩
 ·subst k;have:=d _<|zya a;exact⟨⟨λh=>(by rw[Ml this] at h;cases h),λh=>z8a h<|Nat.lt_irrefl _⟩,We<|.inr this⟩
 ·have:=zIb.1 c j i b a k;exact⟨⟨λh=>(by rw[Ml this.2] at h;cases h),λh=>u0⟩,We<|.inr this.2⟩
def zh:l.Nodup:=by obtain⟨a,b⟩:=lF hc;refine a.imp λ{x y} h e=>?_;subst e;rw[Ml h.2] at h;cases h.1
def LF(E:Env)(g:Nat)(l:List D)(x y:{d:D // d∈l}):Int:=(wO E g x.1 y.1).getD 0
omit hc in
def Dz{x y:{d:D // d∈l}}:ltOf (LF E g l) x y=uu E g x.1 y.1:=by unfold ltOf LF uu;cases wO E g x.1 y.1<;>simp
def QA:SWO (ltOf<|LF E g l):=by
 have e:∀ x:{d:D // d∈l},∃ i,l[i]?=some x.1:=λx=>by obtain⟨i,f,m⟩:=z3a x.2;exact⟨i,by rw[zca f,m]⟩
 have key:∀ (x y:{d:D // d∈l}) (i j:Nat),l[i]?=some x.1->l[j]?=some y.1->(ltOf (LF E g l) x y=true↔i<j):=λx y i j hi c=>by rw[Dz];exact(fR hc hi c).1
 refine⟨λx=>?_,λx y z f m=>?_,λx y z f m=>?_⟩
 ·obtain⟨i,hi⟩:=e x;cases h:ltOf (LF E g l) x x with
  | false=>rfl
  | true=>exact z8a ((key x x i i hi hi).1 h)<|Nat.lt_irrefl _
 ·obtain⟨i,hi⟩:=e x;obtain⟨j,c⟩:=e y;obtain⟨k,n⟩:=e z;have a:=(key x y i j hi c).1 f;have b:=(key y z j k c n).1 m;exact(key x z i k hi n).2 u0
 ·obtain⟨i,hi⟩:=e x;obtain⟨j,c⟩:=e y;obtain⟨k,n⟩:=e z;have a:¬ i<j:=λh=>by rw[(key x y i j hi c).2 h] at f;cases f
  have b:¬ j<k:=λh=>by rw[(key y z j k c n).2 h] at m;cases m
  cases h:ltOf (LF E g l) x z with
  | false=>rfl
  | true=>have:=(key x z i k hi n).1 h;omega
def JT[Inhabited {d:D // d∈l}]{d c:Array {d:D // d∈l}}(K:(d.toList.map (·.1)).Perm l)(hp:PermIn 0 d.size d c)(L:SortedIn (ltOf<|LF E g l) 0 d.size c):c.toList.map (·.1)=l:=by
 obtain⟨p1,_,G⟩:=hp;have q:c.toList.Perm d.toList:=by
  have e1:c.extract 0 d.size=c:=by rw[<-p1];simp
  rw[e1] at G;simpa using G
 have qp:=(q.map _).trans K;have F:=qp.length_eq;have nd:=qp.symm.nodup<|zh hc;have asc:(c.toList.map (·.1)).Pairwise (λx y=>uu E g x y=true):=by
  rw[zIb];intro i j hi t n;simp[zla,zFb] at hi t;have f:=L i j (zoa _) n u0
  rw[getElem!_pos c j t,getElem!_pos c i hi,Dz] at f;simp[List.getElem_map,zFd];obtain⟨a,o,k⟩:=z3a (c[i]).2;obtain⟨b,p,m⟩:=z3a (c[j]).2;have w:l[a]?=some (c[i]).1:=by rw[zca o,k]
  have A:l[b]?=some (c[j]).1:=by rw[zca p,m]
  have N:¬ b<a:=λh=>by rw[(fR hc A w).1.2 h] at f;cases f
  have O:a≠b:=λe=>by
   subst e;have:(c[i]).1=(c[j]).1:=by rw[<-k,<-m]
   have:=zIb.1 nd i j (by simpa using hi) (by simpa using t) n
   simp[List.getElem_map,zFd] at this;contradiction
  exact(fR hc w A).1.2 u0
 have key:∀ {a b:List D},a.Pairwise (λx y=>uu E g x y=true)->b.Pairwise (λx y=>uu E g x y=true)->a.Perm b->(∀ x∈a,x∈l)->a=b:=by
  intro a
  induction a with
  | nil=>intro b _ _ hp _;exact hp.symm.eq_nil.symm ▸ rfl
  | cons x a ih=>
   intro b I J hp hm;cases b with
   | nil=>exact z8a hp.eq_nil j2
   | cons y b=>
    obtain⟨a1,a2⟩:=zNa.1 I;obtain⟨b1,b2⟩:=zNa.1 J;have e:x=y:=by
     rcases zMa.1 (hp.subset zBa) with e|m1
     ·exact e
     ·rcases zMa.1 (hp.symm.subset (zBa (a:=y))) with e|m2
      ·exact e.symm
      ·exfalso;have f:=b1 x m1;have H:=a1 y m2;obtain⟨i,r,s⟩:=z3a<|hm x zBa;obtain⟨j,u,v⟩:=z3a<|hm y<|zsa _ m2;have B:l[i]?=some x:=by rw[zca r,s]
       have C:l[j]?=some y:=by rw[zca u,v]
       have:=(fR hc B C).1.1 H;have:=(fR hc C B).1.1 f;omega
    subst e;rw[ih a2 b2 ((List.perm_cons x).1 hp)<|λz M=>hm z<|zsa _ M]
 exact key asc ((lF hc).1.imp λh=>h.1) qp λx hx=>qp.subset hx
end
end
section
variable{S:Nat->Nat->Prop}{l:List D}
def u5:D->Bool
 | .int ..=>true
 | .bool _=>true
 | _=>false
def g9:D->Value
 | .int k n=>.int k n
 | .bool b=>.bool b
 | _=>undef
mutual
theorem iP:∀ (t:Ty) (x:D),bS t=true->wt t x->∀ d∈x.flat,u5 d=true
 | .int k,x,_,h=>by simp only[wt] at h;obtain⟨n,rfl⟩:=h;intro d hd;simp only[D.flat,zSa] at hd;subst hd;rfl
 | .bool,x,_,h=>by simp only[wt] at h;obtain⟨n,rfl⟩:=h;intro d hd;simp[D.flat,zSa] at hd;subst hd;rfl
 | .str,x,hc,h=>by simp[bS] at hc
 | .st ts,x,hc,h=>by simp[wt] at h;obtain⟨l,rfl,hl⟩:=h;simp[bS] at hc;simp[D.flat];exact xw ts l hc hl
 | .arr n t,x,hc,h=>by
  simp[wt] at h;obtain⟨l,rfl,hn,hl⟩:=h;clear hn;simp[bS] at hc;simp[D.flat]
  induction l with
  | nil=>intro d hd;simp[N] at hd
  | cons y l ih=>
   intro d hd;simp[N,zJa] at hd;rcases hd with hd|hd
   ·exact iP t y hc (hl y zBa) d hd
   ·exact ih (λz hz=>hl z<|zsa _ hz) d hd
 | .sl t,x,hc,h=>by simp[bS] at hc
 | .tup l,x,hc,h=>by simp[bS] at hc
 | .fn,x,hc,h=>by simp[bS] at hc
theorem xw:∀ (ts:List Ty) (l:List D),nL ts=true->fq ts l->∀ d∈N l,u5 d=true
 | [],l,_,h=>by simp[fq] at h;subst h;intro d hd;simp[N] at hd
 | t::ts,l,hc,h=>by
  simp[fq] at h;obtain⟨y,l',rfl,h1,h2⟩:=h;simp[nL,Y] at hc;intro d hd;simp[N,zJa] at hd;rcases hd with hd|hd
  ·exact iP t y hc.1 h1 d hd
  ·exact xw ts l' hc.2 h2 d hd
end
def GQ{w:World}{d:D}{c:Value}(hl:u5 d=true):CR w S d c↔c=g9 d:=by
 cases d<;>simp[u5] at hl<;>try(cases hl;done)
 ·exact⟨λh=>h.int_inv,λh=>by subst h;exact .int _ _⟩
 ·exact⟨λh=>h.bool_inv,λh=>by subst h;exact .bool _⟩
def dm{w:World}{cs:List Value}(hl:∀ d∈l,u5 d=true):c7 w S l cs↔cs=l.map g9:=by
 constructor
 ·rintro⟨g,h⟩;apply zTb;intro i;rw[z4b];rcases zua i l.length with k|k
  ·have a:=zca k;have b:=zca<|g ▸ k;rw[a,b];simp[zYb,zda];exact(GQ<|hl _<|zya k).1<|h i _ _ a b
  ·rw[zXa k,zXa u0];rfl
 ·rintro rfl;refine⟨j2,λi d c f e=>?_⟩
  rw[z4b,f] at e;simp[zYb,zda] at e;exact(GQ<|hl d<|zfb f).2 e.symm
theorem zz{k:Nat}(a:0<k):∀ (l:List D),(∀ x∈l,x.flat.length=k)->∀ t,(N l)[t]?=(l[t/k]?).bind λx=>x.flat[t%k]?
 | [],_,t=>by simp[N]
 | x::l,h,t=>by
  have hx:=h x zBa;simp[N];rcases zua t k with c|c
  ·rw[zab u0,zcb c,z0a c];rfl
  ·rw[zVb u0,hx,zz a l (λy b=>h y<|zsa _ b)<|t-k]
   have e1:t/k=(t-k)/k+1:=by rw[Nat.div_eq_sub_div a c]
   have e2:=Nat.mod_eq_sub_mod c;rw[e1,e2];rfl
structure SortOk(P:Program)(f:Nat)(e:Ty):Prop where
 cmp:bS e=true
 agg:dn e=true
 pos:0<e.size
 nt:aj e=true
 fn : ∃ fn, P.funcs[f]? = some fn /\ (fn.name == "runtime.NumGoroutine") = false /\ fn.body.isSome = true
 empty:∀ (p:Option Addr) (cap:Nat) (fv:Value) (w:World),Calls P f #[.slice p 0 cap,fv] w λen w'=>en=.returned (.tuple #[])/\w'=w
 whole:∀ (α:Type) [Inhabited α] (enc:α->List Value) (_:∀ x,(enc x).length=e.size) (_:∀ x,∀ v∈enc x,v.oneCell'=true) (cf:α->α->Int) (_:SWO<|ltOf cf) (g:Nat) (blk off cap:Nat) (d:Array α) (w:World)
  (_:∀ args w,(callFunc g args).run P w=.ok (.enter g args) w) (_:CmpLays P g #[] enc e.size cf blk off d.size w) (_:HoldsK enc e.size w blk off d) (_:blk<w.heap.size) (_:d.size<4611686018427387904),
  Calls P f #[.slice (some ⟨blk,off,none⟩) d.size cap,.func (.func g) #[] #[]] w λen w'=>en=.returned (.tuple #[])/\∃ d' n os,PermIn 0 d.size d d'/\SortedIn (ltOf cf) 0 d.size d'/\w'=sortWorldK enc e.size w blk off n d' os
section
variable{P:Program}{E:Env}
def Fg(hE:EnvOk P E){g:Nat}{ptys:List Ty}{rty:Ty}(h:E.sig g=some (ptys,rty))(args:Array Value)(w:World):(callFunc g args).run P w=.ok (.enter g args) w:=by
 obtain⟨_,_,fn,f1,f2,f3⟩:=hE.sig g ptys rty h;have f2' : ¬ fn.name = "runtime.NumGoroutine" := by simpa using f2
 have hb':¬ fn.body=none:=by intro hh;rw[hh] at f3;cases f3
 simp[callFunc,f1,f2',hb']
def JS(hE:EnvOk P E){f:Nat}{e:Ty}(I:SortOk P f e){g:Nat}(C:E.sig g=some ([e,e],.int .i64)/\E.free g=0){l':List D}(a7:∀ x∈l,wt e x)(hs:ld E g l=some l')(a4:l≠[]){w:World}{b off cap:Nat}{row:Array Value}
  (T:ce w b=some row) (hc:∀ (i:Nat) (d:D),(N l)[i]?=some d->w.cell? ⟨b,off+i,none⟩=some (g9 d)) (bh:l.length<4611686018427387904) :
  Calls P f #[.slice (some ⟨b,off,none⟩) l.length cap,.func (.func g) #[] #[]] w λen w'=>en=.returned (.tuple #[])/\l'.Perm l/\w.drawn<=w'.drawn/\w'.tape=w.tape/\w'.os=w.os/\w'.output=w.output/\w.heap.size<=w'.heap.size ∧
   (∀ b',b'≠b->b'<w.heap.size->w'.heap[b']?=w.heap[b']?)/\∀ (i:Nat) (d:D),(N l')[i]?=some d->w'.cell? ⟨b,off+i,none⟩=some (g9 d):=by
 have a5:vz E g l'=true/\l'=nu (uu E g) l:=by
  unfold ld at hs;split at hs
  ·rename_i h;cases hs;exact⟨h,rfl⟩
  ·cases hs
 obtain⟨u,a3⟩:=a5;have k:l'.Perm l:=a3 ▸ iX _ l;have J:∀ x∈l,x∈l':=λx hx=>k.symm.subset hx;have p:∀ x∈l',wt e x:=λx hx=>a7 x<|k.subset hx;obtain⟨x0,a8⟩:∃ x0,x0∈l':=by
  cases l with
  | nil=>exact z8a rfl a4
  | cons x l=>exact⟨x,J x zBa⟩
 have ba:Inhabited {d:D // d∈l'}:=⟨⟨x0,a8⟩⟩;have O:∀ x:{d:D // d∈l'},x.1.flat.length=e.size:=λx=>cJ e x.1 (p x.1 x.2) I.nt;have B:∀ x:{d:D // d∈l'},∀ d∈x.1.flat,u5 d=true:=λx=>iP e x.1 I.cmp<|p x.1 x.2;obtain⟨d,R⟩:∃ d:Array {d:D // d∈l'},d.toList.map (·.1)=l:=⟨(l.pmap Subtype.mk J).toArray,by simp[List.map_pmap]⟩
 have a0:d.size=l.length:=by rw[<-R];simp
 have U:b<w.heap.size:=by
  unfold ce at T;cases Q:w.heap[b]? with
  | none=>rw[Q] at T;cases T
  | some o=>exact(zqa.1 Q).1
 have Y:∀ o,w.frozen? ⟨b,o,none⟩=false:=λo=>by
  unfold ce at T;split at T
  ·rename_i c t Q;unfold World.frozen?;simp[Q]
  ·cases T
 have at_:∀ (dd:Array {d:D // d∈l'}) (t:Nat),t<dd.size*e.size->(N<|dd.toList.map (·.1))[t]?.map g9=some ((flatK (λx:{d:D // d∈l'}=>x.1.flat.map g9) e.size dd)[t]!):=λdd t ht=>by
  rw[get_flatK _ _ _ _ ht,zz I.pos _ (λx hx=>by obtain⟨y,_,rfl⟩:=zmb.1 hx;exact O y)]
  have s:t/e.size<dd.size:=(z2a I.pos).2 ht;have G:t%e.size<e.size:=zWa _ I.pos;rw[z4b,zQa,zLb s,getElem!_pos dd _ s];simp only[zYb,zba];have h3:t%e.size<(dd[t/e.size]).1.flat.length:=by rw[O];exact G
  rw[zca h3,getElem!_pos _ _ (by simpa using h3)]
  simp
 have hH:HoldsK (λx:{d:D // d∈l'}=>x.1.flat.map g9) e.size w b off d:=by
  intro j hj;rw[size_flatK] at hj;refine⟨?_,Y _⟩;have:=at_ d j hj;rw[R] at this;cases hq:(N l)[j]? with
  | none=>rw[hq] at this;cases this
  | some q=> rw[hq] at this;simp[zYb,zda] at this;rw[hc j q hq,this];rfl
 have V:CmpLays P g #[] (λx:{d:D // d∈l'}=>x.1.flat.map g9) e.size (LF E g l') b off d.size w:=by
  intro m os dk _ x y;obtain⟨i,aI,aO⟩:=z3a x.2;obtain⟨j,a1,a2⟩:=z3a y.2;obtain⟨_,n,hn⟩:=fR u (i:=i) (j:=j) (x:=x.1) (y:=y.1) (by rw[zca aI,aO]) (by rw[zca a1,a2])
  have M:E.call g [x.1,y.1]=some (.int .i64 n):=by
   unfold wO at hn;obtain⟨r,s,G⟩:=ab hn;rw[s];split at G
   ·cases G;rfl
   ·cases G
  have ap:LF E g l' x y=n:=by simp[LF,hn]
  rw[ap];have L:∀ z:{d:D // d∈l'},∀ (w:World) (S:Nat->Nat->Prop),ge w S z.1 (.agg (z.1.flat.map g9).toArray):=λz w S=>by
   refine⟨?_,?_⟩
   ·have F:=p z.1 z.2;have ha:=I.agg;cases e<;>simp[dn] at ha<;>try(cases ha;done)
    ·simp[wt] at F;obtain⟨ll,s,_⟩:=F;rw[s];exact⟨_,rfl⟩
    ·simp[wt] at F;obtain⟨ll,s,_⟩:=F;rw[s];exact⟨_,rfl⟩
   ·exact(dm<|B z).2 (by simp[Value.cells])
  have ad:fq [e,e] [x.1,y.1]:=⟨x.1,[y.1],rfl,p _ x.2,⟨y.1,[],rfl,p _ y.2,rfl⟩⟩;have A:=(hE.call g [e,e] (.int .i64) [x.1,y.1] (.int .i64 n) C.1 M ad).1;rw[C.2] at A;have W:=A
   (sortWorldK (λx:{d:D // d∈l'}=>x.1.flat.map g9) e.size w b off m dk os) (λ_ _=>False) [.agg (x.1.flat.map g9).toArray,.agg (y.1.flat.map g9).toArray] (λ_ _ h=>h.elim) ad rfl
   (λi z v F K=>by
    cases i with
    | zero=>simp at F K;subst F;subst K;exact L x _ _
    | succ i=>cases i with
     | zero=>simp at F K;subst F;subst K;exact L y _ _
     | succ i=>simp at F)
  refine W.mono ?_;rintro en w' ⟨v,rfl,⟨a9,dr,ax,rfl⟩,_,K⟩;have a6:v=.int .i64 n:=by
   obtain⟨c1,c2⟩:=(K:ge _ _ _ _);have:=(dm (by intro d R;simp[D.flat,zSa] at R;subst R;rfl)).1 c2
   exact ak c1 (by simpa [D.flat,g9] using this)
  refine⟨by rw[a6],dr-(sortWorldK (λx:{d:D // d∈l'}=>x.1.flat.map g9) e.size w b off m dk os).drawn,a9.toArray,?_⟩
  unfold grown grow World.drewN;simp[show ∀ a b:Nat,a<=b->a+(b-a)=b from λa b h=>u0,ax]
 have hO:=QA u;have key:=I.whole {d:D // d∈l'} (λx=>x.1.flat.map g9) (λx=>by simp[O x]) (λx v K=>by obtain⟨q,hq,rfl⟩:=zmb.1 K;have:=B x q hq;cases q<;>simp[u5] at this<;>first|(cases this;done)|rfl) (LF E g l') hO g b off cap d w (Fg hE C.1) V hH U u0
 rw[a0] at key;refine key.mono ?_;rintro en w' ⟨rfl,d',n,os,hp,Z,rfl⟩;rw[<-a0] at hp Z;have X:=JT u (d:=d) (by rw[R];exact k.symm) hp Z
 have H:=hp.1;have al:=holdsK_sortWorldK_c (λx:{d:D // d∈l'}=>x.1.flat.map g9) e.size w b off d d' n os hH U H;refine⟨rfl,k,?_,rfl,rfl,rfl,?_,λb' Q an=>?_,λi q hq=>?_⟩
 ·show w.drawn<=w.drawn+n;omega
 ·simp only[sortWorldK,grow,putRowK,putRow,mapBlock,Go.Sort.ahead,Array.size_append,Array.size_modify];omega
 ·simp[sortWorldK,grow,putRowK,putRow,mapBlock,Go.Sort.ahead];rw[Array.getElem?_append_left (by simpa using an),zad,zha<|Ne.symm Q]
 ·have hi:i<d'.size*e.size:=by
   have s:=(zra.1 hq).1;rw[aL I.nt l' p] at s;rw[H,a0,<-k.length_eq];exact s
  have G:=at_ d' i hi;rw[X,hq] at G;simp[zYb,zda] at G;have h3:=(al i (by rw[size_flatK];exact hi)).1
  rw[h3,<-G];rfl
end
end
end Sy
end
noncomputable section
namespace Sy
open Go Go.ChangeShapes Go.WideShapes Go.ChangeAt Go.RowKit
def bool_of{W:World}{S:Nat->Nat->Prop}{b:Bool}{v:Value}(h:DR W S (.bool b) v):v=.bool b:=by
 obtain⟨c,e⟩:=(h:ge W S (.bool b) v);have f:=(dm (by intro d a;simp[D.flat,zSa] at a;subst a;rfl)).1 e
 exact ak c (by simpa [D.flat,g9] using f)
section
variable{H:Type}{enc:TypeId×Value->H}{P:Program}{W:World}
def UC{ty:Ty}{T:TypeId}(hl:cb P ty T=true)(hp:sU ty=true){base:Nat}{v:Value}(g:Value.okWide P W .any base T v){i:DataW H}{p0:List MemPlace}{spare:Nat->Bool}{held:Bool}(h:DataW.Trod enc P W 0 spare held T v i p0) :
  ∃ d,wt ty d/\FY d/\ge W (tu W) d v:=by
 obtain⟨fuel,m⟩:=h;obtain⟨d,c,f,j⟩:=wn (W:=W) ty T fuel _ _ hl hp m;refine⟨d,c,f,?_,j⟩;have na:∀ {u:TypeDesc},P.underlying T=some u->(match u with|.struct _=>False|.array _ _=>False|_=>True)->∀ cs,v≠.agg cs:=λ{u} a o cs e=>by subst e;simp[Value.okWide,a] at g;cases u<;>simp[Cell.okWide,Cell.ok,a] at g<;>first|exact o|(cases g;done)|exact g
 cases ty with
 | int k=>obtain⟨n,rfl⟩:=c;exact na (k9 hl) trivial
 | bool=>obtain⟨b,rfl⟩:=c;exact na (u:=.bool) (by simp[cb,Y] at hl;have f:=hl.2;split at f<;>first|assumption|cases f) trivial
 | str=>obtain⟨s,rfl⟩:=c;exact na (u:=.string) (by simp[cb,Y] at hl;have f:=hl.2;split at f<;>first|assumption|cases f) trivial
 | st ts=> obtain⟨l,rfl,_⟩:=c;obtain⟨p,a,_⟩:=kl hl;obtain⟨cs,h,_⟩:=okWide_struct a g;exact⟨cs,h⟩
 | arr n e=> obtain⟨l,rfl,_⟩:=c;obtain⟨u,a,_⟩:=fm hl;simp[Value.okWide,a] at g;obtain⟨cs,h,_⟩:=g;exact⟨cs,h⟩
 | sl e=> obtain⟨l,rfl,_⟩:=c;obtain⟨u,a,_⟩:=jF hl;exact na a trivial
 | tup l=>simp[cb] at hl
 | fn=>simp[cb] at hl
def Du(P:Program):List Ty->List TypeId->Bool
 | [],[]=>true
 | ty::a,T::Ts=>cb P ty T&&sU ty&&Du P a Ts
 | _,_=>false
theorem OP:∀ {c:List Ty} {Ts:List TypeId},Du P c Ts=true->∀ {vs:List Value} {e:List<|DataW H} {ps:List MemPlace} {base:Nat} {spare:Nat->Bool} {held:Bool},DataW.TrodAll enc P W 0 spare held Ts vs e ps ->
  (∀ (j:Nat) t v,Ts[j]?=some t->vs[j]?=some v->Value.okWide P W .any base t v)->∃ xs,fq c xs/\xL xs/\vs.length=xs.length/\∀ (i:Nat) (x:D) (v:Value),xs[i]?=some x->vs[i]?=some v->ge W (tu W) x v
 | [],[],_,vs,e,ps,base,spare,held,h,f=>by obtain⟨rfl,rfl,rfl⟩:=trodAll_nil h;exact⟨[],rfl,trivial,rfl,j2⟩
 | ty::c,T::Ts,hl,vs,e,ps,base,spare,held,h,f=>by
  simp[Du,Y] at hl;obtain⟨v,l,d,g,p,q,rfl,rfl,rfl,h0,k⟩:=trodAll_cons h;obtain⟨x,x1,m,y⟩:=UC hl.1.1 hl.1.2 (f 0 T v rfl rfl) h0;obtain⟨xs,n,o,r,A⟩:=OP hl.2 k<|λj t u a b=>f (j+1) t u (by simpa using a) (by simpa using b)
  refine⟨x::xs,⟨x,xs,rfl,x1,n⟩,⟨m,o⟩,by simp[r],λi z u w s=>?_⟩
  all_goals grind
 | [],_::_,h,_,_,_,_,_,_,_,_=>by simp[Du] at h
 | _::_,[],h,_,_,_,_,_,_,_,_=>by simp[Du] at h
theorem Vg:∀ {Ts:List TypeId} {vs:List Value} {a:List<|DataW H} {ps:List MemPlace} {base:Nat} {spare:Nat->Bool} {held:Bool},DataW.TrodAll enc P W base spare held Ts vs a ps->a.length=Ts.length
 | [],vs,a,ps,_,_,_,h=>by obtain⟨rfl,rfl,rfl⟩:=trodAll_nil h;rfl
 | T::Ts,vs,a,ps,_,_,_,h=>by obtain⟨v,e,d,b,p,q,rfl,rfl,rfl,h0,c⟩:=trodAll_cons h;simp[Vg c]
theorem ID{W':World}(hl:laidOutB P=true):∀ {Ts:List TypeId},Ts.all (λt=>P.readableRec t&&decide (t<P.types.size))=true->∀ {vs:List Value} {c:List<|DataW H} {ps:List MemPlace},
  DataW.TrodAll enc P W 0 (λ_=>true) true Ts vs c ps->Below W.heap.size W W'->(∀ x∈ps,x.block<W.heap.size)->DataW.TrodAll enc P W' 0 (λb=>decide (b<W.heap.size)) true Ts vs c ps
 | [],_,vs,c,ps,h,_,_=>by obtain⟨rfl,rfl,rfl⟩:=trodAll_nil h;exact trodAll_mk0
 | T::Ts,e,vs,c,ps,h,f,a=>by simp only[zOb,Y,zea] at e;obtain⟨v,j,d,g,p,q,rfl,rfl,rfl,h0,i⟩:=trodAll_cons h;exact⟨p,q,Below.trod hl e.1.1 e.1.2 h0 f (λx hx=>a x (by simp[hx])),ID hl e.2 i f (λx hx=>a x (by simp[hx])),rfl⟩
end
end Sy
end
noncomputable section
namespace Sy
open Go
section
variable{f:FuncId}{l:List D}
variable{ro:Option Nat}{nn:Nat}
def E9(s:St):List ResultVar->Option (Nat×List AV)
 | [.tmp i]=>match s.tm i with
  | .clo f l=>some (f,l)
  | _=>none
 | _=>none
def uz(s:St)(t:Ty):List ResultVar->Option (Nat×List D)
 | [.tmp i]=>match s.tm i with
  | .own t' v l=>if t'.beq t&&!(s.dead.contains v) then some (v,l) else none
  | _=>none
 | _=>none
def FR(s:St):List ResultVar->Bool
 | [.tmp i]=>match s.tm i with
  | .nils=>true
  | _=>false
 | _=>false
def PE{R:Type}(E:Env)(s sc:St)(a:List Nat)(b:List ResultVar)(K:AV->St->Option R):Ty->Option R
 | .fn=>(E9 sc b).bind λq=>K (.clo q.1 q.2) (pU s sc a)
 | .sl t=>match uz sc t b with
  | some q=>K (.own t q.1 q.2) (pU s sc a)
  | none=>if FR sc b then K .nils (pU s sc a) else(results E sc (.sl t) b).bind λy=>K (.d (.sl t) y) (pU s sc a)
 | c=>(results E sc c b).bind λy=>K (.d c y)<|pU s sc a
def VO(E:Env)(fn:Func)(b:Ty)(ann:Ann)(R:Type)(s:St)(a:List AV)(K:AV->St->Option R):Option R:=
 match fn.body with
 | none=>none
 | some c=>if a.length<=fn.ntmps/\(fL s).length<=4096 then Ow E c ann R (PI s fn.ntmps a<|Fx s a b) λe sc=>match e with
   | .exit _=>none
   | _=>PE E s sc (Fx s a b) fn.results.toList K b
  else none
def Gk(n:Nat)(a:Ty):Bool:=match a with|.fn=>decide (n=1)|a=>gg n a
section
variable{P:Program}{E:Env}{w0:Root}{S S':Nat->Nat->Prop}{γ γ':Nat->Option Nat}{β β' β'':Nat->Option (Nat×Nat)}{s sc:St}{a:Act}{w w':World}
theorem R7{c:Cx}{a:Ty}{n:Nat}{y:D}{v:Value}(f:gg n a=true)(b:wt a y)(h:DR c.w c.S y v):AR c (.d a y) v:=by
 simp only[AR];have key:aj a=true\/∃ ts,a=.tup ts/\aP ts=true:=by unfold gg at f;all_goals grind
 rcases key with e|⟨ts,rfl,e⟩
 ·refine .inl ⟨e,b,?_⟩;cases a<;>simp only[wt] at b<;>first
   | (obtain⟨m,rfl⟩:=b;exact h)
   | (obtain⟨m,rfl,_⟩:=b;exact h)
   | (exact b.elim)
   | (simp[aj] at e)
 ·simp_all
def IR(h:Rp w0 S γ β s a w){fn:Func}{q:Nat×List AV}(hq:E9 s fn.results.toList=some q):∃ v,(Go.results fn a.tmps).run P w=.ok v w/\AR ⟨w,S,γ,β,s.ob,s.dead⟩ (.clo q.1 q.2) v:=by
 rw[kr];have hm:fn.results.mapM (lU a.tmps)=Functor.map List.toArray (fn.results.toList.mapM<|lU a.tmps):=by rw[zxc]
 rw[hm];generalize fn.results.toList=e at *;unfold E9 at hq;split at hq<;>try(cases hq;done)
 rename_i i;split at hq<;>try(cases hq;done)
 rename_i f l d;cases hq;have hi:i<a.tmps.size:=by
  rcases zua i a.tmps.size with c|b
  ·exact c
  ·have:=h.tmu i (by rw[<-h.nt];exact b)
   simp_all
 have:=h.tms i hi
 simp_all [zVc,lU]
def Ag(h:Rp w0 S γ β s a w){fn:Func}{t:Ty}{q:Nat×List D}(hq:uz s t fn.results.toList=some q):∃ v,(Go.results fn a.tmps).run P w=.ok v w/\AR ⟨w,S,γ,β,s.ob,s.dead⟩ (.own t q.1 q.2) v:=by
 rw[kr];have hm:fn.results.mapM (lU a.tmps)=Functor.map List.toArray (fn.results.toList.mapM<|lU a.tmps):=by rw[zxc]
 rw[hm];generalize fn.results.toList=f at *;unfold uz at hq;split at hq<;>try(cases hq;done)
 rename_i i;split at hq<;>try(cases hq;done)
 rename_i t' v l e;split at hq<;>try(cases hq;done)
 rename_i d;simp[Y] at d;have:=ags _ _ d.1;subst this;cases hq;have hi:i<a.tmps.size:=by
  rcases zua i a.tmps.size with c|b
  ·exact c
  ·have:=h.tmu i (by rw[<-h.nt];exact b)
   simp_all
 have:=h.tms i hi
 simp_all [zVc,lU]
def Jp(h:Rp w0 S γ β s a w){fn:Func}(hq:FR s fn.results.toList=true):∃ v,(Go.results fn a.tmps).run P w=.ok v w/\AR ⟨w,S,γ,β,s.ob,s.dead⟩ .nils v:=by
 rw[kr];have hm:fn.results.mapM (lU a.tmps)=Functor.map List.toArray (fn.results.toList.mapM<|lU a.tmps):=by rw[zxc]
 rw[hm];generalize fn.results.toList=e at *;unfold FR at hq;split at hq<;>try(cases hq;done)
 rename_i i;split at hq<;>try(cases hq;done)
 rename_i d;have hi:i<a.tmps.size:=by
  rcases zua i a.tmps.size with c|b
  ·exact c
  ·have:=h.tmu i (by rw[<-h.nt];exact b)
   simp_all
 have:=h.tms i hi
 simp_all [zVc,lU]
theorem PF(j:EnvOk P E){a':Act}(h:Rp w0 S γ β sc a' w'){fn:Func}{a:Ty}{e:List Nat}(c:Gk fn.results.size a=true){R:Type}{K:AV->St->Option R}{r:R}(hq:PE E s sc e fn.results.toList K a=some r) :
  ∃ v x,(Go.results fn a'.tmps).run P w'=.ok v w'/\AR ⟨w',S,γ,β,sc.ob,sc.dead⟩ x v/\K x (pU s sc e)=some r:=by
 have plain:gg fn.results.size a=true->(results E sc a fn.results.toList).bind (λy=>K (.d a y)<|pU s sc e)=some r->∃ v x,(Go.results fn a'.tmps).run P w'=.ok v w'/\AR ⟨w',S,γ,β,sc.ob,sc.dead⟩ x v/\K x (pU s sc e)=some r:=λc hq=>by obtain⟨y,b,i⟩:=ab hq;obtain⟨v,f,g,k⟩:=ks j h c b;exact⟨v,_,f,R7 c g k,i⟩
 cases a
 case fn=> obtain⟨q,b,i⟩:=ab hq;obtain⟨v,f,g⟩:=IR (P:=P) h b;grind
 case sl t=>
  simp[PE] at hq;split at hq
  ·rename_i q b;obtain⟨v,f,g⟩:=Ag (P:=P) h b;grind
  ·split at hq
   ·rename_i b;obtain⟨v,f,g⟩:=Jp (P:=P) h b;grind
   ·exact plain c hq
 all_goals exact plain c hq
theorem PD(L:EnvOk P E){fn:Func}{j:Ty}(V:P.funcs[f]?=some fn)(Z:Gk fn.results.size j=true):KP P f (VO E fn j):=by
 intro ann R w0 S γ β s a w m vs K r h M H d;unfold VO at d;split at d<;>try(cases d;done)
 rename_i c B;split at d<;>try(cases d;done)
 rename_i q;obtain⟨X,A⟩:=q;obtain⟨z,I⟩:∃ z,z=Fx s m j:=⟨_,rfl⟩;rw[<-I] at d;have A:=zva (List.length_filter_le (λv=>!(z.contains v))<|fL s) A;obtain⟨G,g⟩:∃ G,G=yS s z:=⟨_,rfl⟩;obtain⟨sh,F⟩:∃ sh:Nat->Prop,sh=λb=>(∃ id,γ id=some b)\/∃ v e,v ∉ G++s.dead/\β v=some (b,e):=⟨_,rfl⟩;have al:vs.length<=fn.ntmps:=u0
 have D:(vs.toArray++Array.replicate (fn.ntmps-vs.toArray.size) undef).size=fn.ntmps:=by simp;omega
 have J:Cx.le ⟨w,S,γ,β,s.ob,s.dead⟩ ⟨w,S,γ,β,s.ob,G++s.dead⟩:=
  ⟨λ_ _ _=>rfl,λ_ _ B=>B,λ_ _ B=>B,λid o Y _=>⟨o,Y,λp=>⟨rfl,rfl⟩,λt l e=>⟨l,e,rfl⟩,λ_ _ l e=>⟨l,e⟩⟩,λu hu=>⟨λC=>hu<|z9a _ C,λb e U=>⟨U,λn W=>W⟩⟩⟩
 have T:Rp ⟨w,S,sh⟩ S γ β (PI s fn.ntmps m z) { tmps:=vs.toArray++Array.replicate (fn.ntmps-vs.toArray.size) undef,defers:=[] } w:=by
  refine HI h g F (λ_ _ C=>C) rfl (by rw[g];rfl) D (λt O=>?_) λt O=>?_
  ·have ad:fn.ntmps<=t:=O;simp[PI];grind
  ·simp only[PI];by_cases hlt:t<vs.length
   ·have k:t<m.length:=u0
    have hv:(vs.toArray++Array.replicate (fn.ntmps-vs.toArray.size) undef).getD t undef=vs[t]:=by simp_all
    rw[hv,zGa,zca k];exact(H t _ _ (zca k)<|zca hlt).mono J
   ·rw[zGa,zXa u0]
    simp[Option.getD_none,AR]
 refine jm L V B rfl T d (λ_ _ C=>by cases C) λe sc S' γ' β' a' w' Q i n3 n4=>?_
 have N:PE E s sc z fn.results.toList K j=some r->(∃ v,(Go.results fn a'.tmps).run P w'=.ok v w'/\∃ v' y s' S' γ' β',Ending.returned v=.returned v'/\K y s'=some r/\Rp w0 S' γ' β' s' a w'/\AR ⟨w',S',γ',β',s'.ob,s'.dead⟩ y v'/\Fm s S γ a w S' γ' a w'/\Sk s s'):=λhq=>by
  obtain⟨v,x,k1,k2,k3⟩:=PF L Q Z hq;obtain⟨β'',q1,q2⟩:=G3 h g F (by rw[g];exact A) Q i.sub i.cell i.gam i.sz
  exact⟨v,k1,v,x,pU s sc z,S',γ',β'',rfl,k3,q1,k2.mono q2,⟨i.sub,i.cell,λ_ _=>rfl,i.objs,i.sz,i.gam,mz.same rfl i.dfs.1⟩,⟨rfl,rfl,rfl⟩⟩
 all_goals grind
def Vj(E:Env)(fn:Func)(ann:Ann)(a:List Ty)(t:Ty)(args:List D):Option (List D):=
 match fn.body with
 | none=>none
 | some c=>Ow E c ann (List D) { tm:=gT a args,ob:=λ_=>none,fresh:=0,dead:=[],nt:=fn.ntmps,lkS:=[],lkO:=[] } λe s=>match e with
  | .exit _=>none
  | _=>(uz s t fn.results.toList).bind λq=>some q.2
def Kq.ctr{a:List Ty}{t:Ty}{xs:List D}(h:Kq P a t f xs l):OC P a (.sl t) f xs (.sl l):=by intro w S vs i g b d;refine(h w S vs i g b d).mono λe w' ⟨A,cap,j,k,n,hl,S',s1,s2,c,_⟩=>⟨_,j,k,⟨l,rfl,hl⟩,?_⟩;exact⟨λcs m=>(by cases m),c7.single.2<|c.mono (λ_ _ _=>rfl) s2⟩
theorem CU(O:EnvOk P E){fn:Func}{ann:Ann}{k:List Ty}{t:Ty}{xs:List D}(r:P.funcs[f]?=some fn)(V:k.length<=fn.ntmps)(T:aP k=true)
  (h:Vj E fn ann k t xs=some l):Kq P k t f xs l:=by
 intro w S vs Q B L H;unfold Vj at h;split at h<;>try(cases h;done)
 rename_i c g;have a0:=iZ B;have z:(vs.toArray++Array.replicate (fn.ntmps-vs.toArray.size) undef).size=fn.ntmps:=by simp;omega
 refine jm (w0:=⟨w,S,λ_=>False⟩) (S:=S) (γ:=λ_=>none) (β:=λ_=>none) O r g rfl ?_ h (λ_ _ R=>by cases R) λe s' S' γ' β' a' w' F n2 n3 K=>?_
 ·refine⟨⟨rfl,rfl,rfl,zja _,zja _,λ_ _=>rfl⟩,λt M=>?_,z,λt M=>?_,λid o b U=>(by cases U),λid b g=>(by cases g),λid Z b g=>(by cases g),λ_ _=>rfl,λv b e _ g=>(by cases g),λv v' b e e' _ _ g=>(by cases g),λv id b e _ g=>(by cases g),λ_ _=>rfl,Q,λb o g _=>g⟩
  ·simp only[gT];split
   ·rename_i ty x e1 e2;have m:=(zra.1 e2).1;have y:t<vs.length:=u0
    have X:(vs.toArray++Array.replicate (fn.ntmps-vs.toArray.size) undef).getD t undef=vs[t]:=by simp_all
    rw[X];obtain⟨x',C,I⟩:=gk B e1;rw[e2] at C;cases C;exact dC (bZ T e1) I<|H t x _ e2<|zca y
   ·simp[AR]
  ·have W:=M;simp[gT];grind
 ·have p:(uz s' t fn.results.toList).bind (λq=>some q.2)=some l->(∃ v,(Go.results fn a'.tmps).run P w'=.ok v w'/\∃ a cap,Ending.returned v=.returned (.slice a l.length cap)/\(∃ os d,w.drawn<=d/\w'=grown w os d)/\aj t=true/\(∀ x∈l,wt t x)/\∃ S':Nat->Nat->Prop,(∀ b o,S b o->S' b o)/\(∀ b o,S' b o->S b o\/(w.heap.size<=b/\b<w'.heap.size)) ∧
    CR w' S' (.sl l) (.slice a l.length cap)/\((a=none/\cap=0)\/∃ b off,a=some ⟨b,off,none⟩/\(w.heap.size<=b/\b<w'.heap.size)/\(∃ n,rL w' b=some n/\off+cap*t.size<=n/\off=0)/\∀ o,off+l.length*t.size<=o->¬ S' b o)):=λhq=>by
   obtain⟨q,j,G⟩:=ab hq;cases G;have u:q.1 ∉ s'.dead:=by
    unfold uz at j;split at j<;>try(cases j;done)
    split at j<;>try(cases j;done)
    split at j<;>try(cases j;done)
    rename_i g;cases j;simp[Y,zCa] at g;simpa using g.2
   obtain⟨v,k1,N⟩:=Ag (P:=P) F j;simp[AR,AC] at N;obtain⟨na,m1,m2,A,cap,m3,m4,J⟩:=N;refine⟨v,k1,A,cap,by rw[ak na m3],fV F.ext<|λ_ r=>r,m1,m2,S',n2.sub,λb o g=>?_,m4,?_⟩
   ·rcases zua b w.heap.size with m|s
    ·exact .inl<|F.So b o g ⟨m,λr=>r⟩
    ·exact .inr ⟨s,F.Sb b o g⟩
   ·rcases J u with J|⟨b,off,rfl,m6,m7⟩
    ·exact .inl J
    ·obtain⟨z1,z2,z3⟩:=F.βn _ _ _ u m6;refine .inr ⟨b,off,rfl,⟨?_,z2⟩,m7,z3⟩;rcases zua b w.heap.size with m|s
     ·exact z8a ⟨m,λr=>r⟩ z1
     ·exact s
  cases e with
  | normal=>exact p K
  | ret=>exact p K
  | exit i=>cases K
end
end
end Sy
end
noncomputable section
namespace Sy
abbrev K0:Ty:=Ty.st [Ty.int .i64,Ty.int .i64,Ty.bool,Ty.int .u8]
abbrev h:Ty:=Ty.arr 3<|Ty.int .i64
abbrev K2:Ty:=Ty.sl<|h
abbrev K3:Ty:=Ty.st [K2]
abbrev K4:Ty:=Ty.st [K3,Ty.int .i64]
abbrev K5:Ty:=Ty.sl<|Ty.int .i64
abbrev K6:Ty:=Ty.st [h,Ty.int .i64,K5]
abbrev K7:Ty:=Ty.sl<|K6
abbrev K8:Ty:=Ty.arr 2<|Ty.int .i64
abbrev K9:Ty:=Ty.sl<|K8
abbrev aY:Ty:=Ty.arr 16<|Ty.int .u32
abbrev z:Ty:=Ty.st [Ty.bool,Ty.bool,aY]
abbrev be:Ty:=Ty.st [z,z]
abbrev oD:Ty:=Ty.arr 3<|be
abbrev K14:Ty:=Ty.sl<|be
abbrev fe:Ty:=Ty.st [h,Ty.int .i64]
abbrev WN:Ty:=Ty.sl<|fe
abbrev kK:Ty:=Ty.arr 3<|z
abbrev OI:Ty:=Ty.arr 32<|Ty.int .u32
abbrev K26:Ty:=Ty.sl<|Ty.int .u32
abbrev cn:Ty:=Ty.sl<|z
abbrev vG:Ty:=Ty.arr 17<|Ty.int .u32
abbrev K31:Ty:=Ty.tup [aY,Ty.bool]
abbrev K32:Ty:=Ty.tup [Ty.int .i64,Ty.bool]
abbrev K33:Ty:=Ty.tup [K5,K5]
abbrev K34:Ty:=Ty.tup [aY,aY]
abbrev K35:Ty:=Ty.tup [z,z]
abbrev K36:Ty:=Ty.tup [aY,Ty.int .u32]
abbrev Y2:Ty:=Ty.tup []
abbrev fY:Ty:=Ty.arr 4<|Ty.int .i64
abbrev gP:Ty:=Ty.st [h,fY]
abbrev K42:Ty:=Ty.sl<|gP
abbrev K52:Ty:=Ty.arr 2<|z
abbrev Y3:Ty:=Ty.arr 9<|Ty.int .i64
abbrev K56:Ty:=Ty.tup [fY,Ty.bool]
abbrev dH:Ty:=Ty.st [h,be]
abbrev K59:Ty:=Ty.st [dH,Ty.bool]
abbrev cF:Ty:=Ty.st [gP,K3,Ty.int .i64,K2]
abbrev K62:Ty:=Ty.sl<|cF
abbrev K64:Ty:=Ty.tup [dH,Ty.bool]
abbrev K67:Ty:=Ty.tup [h,Ty.int .i64]
abbrev cX:Ty:=Ty.st [gP,gP]
abbrev Y4:Ty:=Ty.st [be,dH]
abbrev EX:Ty:=Ty.sl<|Y4
abbrev K71:Ty:=Ty.st [EX,Ty.int .i64]
abbrev K72:Ty:=Ty.st [EX,Ty.bool]
abbrev K73:Ty:=Ty.st [h,be,be]
abbrev AL:Ty:=Ty.arr 3<|cn
abbrev Kf:Ty:=Ty.arr 4<|z
abbrev K76:Ty:=Ty.st [fY,Ty.int .i64]
abbrev K77:Ty:=Ty.st [AL,cn]
abbrev K78:Ty:=Ty.st [cn,Ty.bool]
abbrev GS:Ty:=Ty.arr 4<|cn
abbrev W6:Ty:=Ty.arr 9<|cn
abbrev K81:Ty:=Ty.sl<|cn
abbrev K82:Ty:=Ty.tup [EX,Ty.int .i64]
abbrev K83:Ty:=Ty.tup [EX,Ty.bool]
abbrev K84:Ty:=Ty.tup [AL,cn]
abbrev K85:Ty:=Ty.tup [cn,Ty.bool]
abbrev K86:Ty:=Ty.tup [fY,Ty.int .i64]
abbrev K87:Ty:=Ty.tup [Kf,Ty.bool]
def Oz:Nat:=343
def JQ:Nat:=365
abbrev bb{α:Type}(t n:Nat)(a b:α):α:=bif Nat.blt t n then a else b
abbrev Ti:Ty:=.int .i64
abbrev Tb:Ty:=.bool
abbrev A:Ty:=.tup [.tup []]
abbrev So:Nat×List Ty×Ty:=(0,[],Ti)
def tyL:List (List Ty):=[[A,A,Ti,Ti,Tb,Ty.int .u8,Ty.int .u8,K0,K0,Ty.str,Ty.str,Ty.str,Ty.int .u64,A,A,A],[A,A,A,A,A,Ty.int .i32,h,h,fY,fY,gP,gP,cX,cX,K2,K3],[K3,Ty.int .u32,aY,z,z,be,be,A,A,A,EX,Ti,A,A,K71,K71],[A,dH,dH,A,A,K59,K59,A,A,A,A,K72,K72,A,A,Y4],[Y4,A,A,A,A,A,A,A,A,A,A,A,A,oD,oD,A],[A,A,K42,A,A,A,A,A,A,A,K59,A,A,A,A,K73],[K73,A,A,A,A,A,A,A,A,A,A,A,A,cn,cn,A],[A,A,A,A,A,A,A,A,A,AL,A,A,A,cF,cF,A],[A,A,A,K5,A,A,A,K52,A,A,A,A,A,A,A,A],[A,A,A,A,A,A,A,Kf,K76,K76,A,Ty.int .u64,A,Ty.int .u64,A,A],[A,A,A,A,A,A,A,A,A,K77,K77,A,K78,K78,A,A],[A,A,A,GS,A,A,A,A,W6,A,A,A,A,A,A,K4],[K4,A,A,A,A,A,A,A,A,A,A,kK,A,A,A,K62],[K7,A,K6,K6,A,A,A,A,A,K9,A,K8,A,A,A,A],[A,A,A,A,A,A,A,A,A,OI,K26,A,A,A,A,A],[A,A,A,vG,A,A,A,A,A,K81,A,A,A,A,A,A],[Y3,A,A,A,A,WN,A,fe,fe,A,A,fe,fe,A,A,A],[A,A,A,K14,A,A,A,A,A,A,A,A,A,A,A,A],[A,A,A,A,A,A,A,A,A,A,A,A,A,A,A,Ti],[A,A,A,A,A,A,A,A,A,A,A,Ty.int .u64,A,A,A,A],[A,A,A,A,A,A,A,A,A,A,A,A,A,A,Ty.int .u8,Ty.int .u8],[A,A,Ty.int .i32,Ty.int .i32,A,A,A]]
def tyX(t:Nat):Ty:=(tyL.getD (t/16) []).getD (t%16) A
def YP(t:Nat):Option Ty:=bif Nat.blt t Oz then(bif (tyX t).beq A then none else some<|tyX t) else none
def adj:List (List<|Nat×List Ty×Ty):=[[So,So,So,So,So,So,(470,[cX,K3,cX,K3,EX,Ty.int .u8,be],Tb),(471,[cX,K3,cX,K3,Ti],Tb),So,(473,[],Tb),(474,[cX,K3,cX,K3,Ti],K82),So,(476,[cX,K3,cX,K3,be,be],K64),So,(478,[EX,EX],Tb),(479,[cX,K3,cX,K3,be,be,Ti],K83)],[So,(217,[z],Ti),(481,[cX,K3,cX,K3,EX],Tb),So,(74,[Ti],be),(483,[dH,cX,K3,cX,K3,be,be],Tb),So,(97,[h],h),(357,[be],be),(485,[be,be],be),(136,[be],Tb),(342,[be],Ti),(73,[be,be],Ti),(72,[h,oD],be),(486,[cX,h,be],oD),(421,[dH,gP,K3,gP,K3],Tb)],[(427,[gP],Tb),(431,[K3,Ti],Tb),(88,[be],Tb),So,So,So,So,(487,[],K3),(488,[h,h],cX),So,(333,[Ti,Ti],be),(416,[gP,K3,gP,K3],K64),So,So,(490,[be,be],be),So],[So,So,So,(112,[h,h],h),So,So,(127,[aY],Ti),(118,[cn],Tb),(165,[Ty.int .u32],Ti),(90,[z,z],Ti),(54,[Ti],z),(32,[z,z],Ti),(34,[Ti],z),(138,[z],be),(496,[dH],Tb),(497,[cX,K3,Ti,dH,be,be],Tb)],[(498,[cn,be,be],Tb),(499,[cn,z],cn),(500,[cX,h,dH],cn),So,So,So,So,(130,[],be),(68,[z],z),(174,[be,be],be),(173,[be,be],be),(128,[z],Tb),(129,[z],Ti),(131,[z,z],z),(169,[],z),(132,[z,z],z)],[(137,[z,z],z),(134,[oD,oD],be),(135,[h],oD),(505,[cX,h],K84),(352,[be,be],be),(506,[cn,be],be),(433,[gP,K3],cF),(435,[cF,h],be),(331,[fY],Tb),(15,[K3],Ti),(76,[z],Tb),(83,[z],Ti),(85,[z,z],z),(133,[],z),(77,[z],K5),So],[So,(87,[z,z],z),So,So,(62,[z,z],be),So,(434,[h,cF,cF],be),(91,[h,h],z),So,So,So,So,So,So,So,So],[(507,[h,cX,K3,oD],be),(337,[be,be],be),So,(508,[cX,be],gP),(509,[be],z),(510,[be],z),(336,[be,be],be),So,So,So,So,So,So,So,So,So],[So,So,So,(167,[z],Tb),(121,[aY,aY],Ti),(116,[Tb,aY],z),(78,[K5,K5],Tb),(81,[Tb,K5],z),(82,[K5,K5],K5),(516,[cn,be,be],K85),(517,[z],Tb),(518,[],cn),So,(519,[z,z,z],z),(61,[z,z],z),(520,[cn,cn],cn)],[(521,[cn,cn],cn),So,So,So,So,So,So,So,So,(119,[],z),(57,[z,z],z),(170,[aY,aY],K34),(171,[z],z),(172,[z,z],K35),(530,[cX],GS),(531,[cX],cn)],[So,(533,[Ti,K81],cn),(534,[cn,cn],cn),(535,[K5],cn),(536,[cn,be],K35),(385,[fY],Ti),(386,[fY,h],h),(348,[fY],Tb),(349,[fY],K56),(12,[K2],K4),(13,[K2,K2],Tb),(139,[z],Tb),(124,[z],K32),(142,[z],z),(125,[],z),(143,[K5,K5],K33)],[(140,[K5],K5),(141,[K5,Ti],Ti),(144,[Ti,Ti],Ti),(126,[K5,K5],K5),So,So,(447,[kK],K67),(18,[K3],K7),(448,[h],kK),(449,[cF],K2),(450,[h,h],kK),(147,[kK,kK],z),(148,[h],kK),(19,[K3],K7),So,(80,[h],kK)],[So,So,So,So,So,So,So,So,So,(202,[z],K32),(537,[be],z),(538,[Kf],K86),(186,[z],K32),So,So,(146,[K5,K5],K5)],[So,So,So,So,So,So,So,So,(168,[Ty.int .u32,Ty.int .u32],Ti),(546,[cn],Tb),(547,[K14],Tb),(548,[cn,be,be],cn),(549,[Ti,Ti],cn),(550,[cn,Ti],z),(551,[cn],z),So],[So,(552,[z],z),(203,[z,z],z),So,So,So,So,So,So,So,So,So,So,(120,[aY,aY],K31),(122,[aY,aY],aY),(195,[aY,Ty.int .u32],K36)],[(196,[Ty.int .u32],Ti),(197,[aY,Ti],K36),So,So,So,(201,[aY,Ti],aY),(392,[fY,fY],Ti),(563,[Ti,cn,cn],z),So,(564,[Ti,K5],Ti),(565,[z,Ti],cn),So,(393,[fY],Y3),(394,[K5],Ti),(364,[Ti,Ti],Ti),(365,[Ti],Ti)],[(47,[K2],K2),(48,[K2],K7),(175,[K5,Ti],Ti),(45,[K2],WN),(46,[K2,fe],K5),(21,[K3],K9),(103,[h,h],h),(456,[kK,kK],kK),(155,[kK],fe),So,So,So,(566,[z,z],z),(567,[fY],K56),So,So],[(194,[Ty.int .u32],Tb),So,So,So,So,(572,[cn],cn),(573,[cn,be,be],cn),So,So,So,So,So,So,(105,[h,h],Tb),(106,[h,h,h],h),(107,[h,h],Ti)],[(108,[K7,h],Tb),(109,[K2,h,Ti],Tb),(110,[K7,K6],K7),(111,[K2,h,Ti],K5),(96,[h,h,h],fe),(98,[K2,fe],Tb),So,(100,[fe,fe],Ti),(52,[K5],Ti),(53,[Ti,Ti],Ti),(101,[h,h],Ti),So,(104,[h,h,h],Ti),So,(51,[K8,K8],Ti),(154,[h,h],h)],[(187,[h],Tb),So,So,So,So,(580,[z,z,z],z),(581,[cn],cn),(123,[h,h],h),(156,[K2,h,Ti,h,h],Tb),(117,[h,h],h),(152,[Ti,Ti],Ti),So,So,(115,[Ti],Tb),So,(582,[Ti,cn],z)],[(188,[h,h],Ti),So,So,So,So,So,So,So,So,So,So,So,So,So,So,So],[So,So,(215,[Ti],Ti),So,So,So,So,So,So,So,So,So,So,So,So,So],[So,So,So,So,So,So,So,So,So,So,So,So,So]]
def YH(t:Nat):Nat×List Ty×Ty:=(adj.getD (t/16) []).getD (t%16) So
def Qu(t:Nat):Option (Nat×List Ty×Ty):=bif Nat.blt t JQ then(bif Nat.beq (YH t).1 0 then none else some<|YH t) else none
def pe(t:Nat):Option (List Ty×Ty):=match Qu t with|some p=>some p.2|none=>none
def rV(t:Nat):Nat:=match Qu t with|some p=>p.1|none=>0
def kg(t:Nat):Nat:=(bb t 182 (bb t 91 (bb t 45 (bb t 22 0<|bb t 33 0<|bb t 39 0<|bb t 42 (bb t 40 0<|bb t 41 0 2) 0)<|bb t 68 (bb t 56 0<|bb t 62 0<|bb t 65 (bb t 63 0<|bb t 64 3 0) 0) 0)<|bb t 136 (bb t 113 (bb t 102 0<|bb t 107 0<|bb t 110 0<|bb t 111 0<|bb t 112 0 1) 0)<|bb t 159 (bb t 147 (bb t 141 0<|bb t 144 (bb t 142 1 0) 0) 0) 0)<|bb t 273 (bb t 227 0<|bb t 250 (bb t 238 0<|bb t 244 0<|bb t 247 0<|bb t 248 2<|bb t 249 0 1) 0)<|bb t 319 (bb t 296 0<|bb t 307 (bb t 301 (bb t 298 0<|bb t 299 0<|bb t 300 3 0) 0)<|bb t 313 (bb t 310 (bb t 308 0<|bb t 309 0 1) 0) 0)<|bb t 342 (bb t 330 (bb t 324 (bb t 321 (bb t 320 1 0) 0) 0) 0) 0)
def MM(t:Nat):Option (Ty×Ty):=bif Nat.blt t Oz then(bb t 171 none<|bb t 257 (bb t 214 (bb t 192 none<|bb t 203 (bb t 197 none<|bb t 200 none<|bb t 201 none<|bb t 202 none<|some (h,Ty.bool)) none) none)<|bb t 300 (bb t 278 none<|bb t 289 (bb t 283 none<|bb t 286 none<|bb t 287 none<|bb t 288 (some (fe,Ty.bool)) none) none) none) else none
def abD:List Nat:=[0,1,2,0,0,0,0,0,0,0,0,0,169,170,0,89,0,0,183,189,0,261,0,0,0,0,0,0,0,0,0,0,59,0,60,0,0,0,0,0,0,0,0,0,0,259,260,256,257,0,301,302,296,297,58,0,0,154,0,0,0,142,100,0,0,0,0,0,72,0,0,0,29,28,20,0,90,94,134,0,191,135,136,91,0,92,0,97,34,0,57,103,0,0,0,0,292,23,293,294,295,298,0,262,300,285,286,287,288,289,290,291,51,318,0,317,133,313,55,153,237,132,238,311,172,174,179,54,75,76,71,77,79,93,81,82,26,80,61,171,176,177,173,175,178,0,207,187,188,0,0,0,314,315,303,264,312,330,331,332,333,334,335,336,337,56,0,131,216,78,155,156,157,74,73,258,0,0,321,322,323,324,325,326,327,328,204,304,320,344,0,341,345,346,272,239,240,241,242,243,244,245,201,226,0,0,0,0,0,0,0,0,339,342,343,338,348,17,0,0,0,347,0,349,350,351,352,353,354,355,356,357,358,359,360,361,362,363,364,0,0,0,0,0,0,0,0,0,0,0,0,0,0,0,0,0,0,0,0,0,0,0,0,0,0,0,0,0,0,0,0,0,0,0,0,0,0,0,0,0,0,0,0,0,0,0,0,0,0,0,0,0,0,0,0,0,0,0,0,0,0,0,0,0,0,0,0,0,0,0,0,0,0,0,0,0,0,0,0,0,0,0,0,0,0,0,0,0,0,0,0,88,0,42,0,0,118,113,0,0,0,0,27,0,0,0,0,0,167,168,0,0,84,0,0,0,0,24,0,0,0,0,0,0,254,255,0,0,0,0,0,0,0,0,0,0,0,0,0,0,0,0,0,0,0,165,166,0,0,0,0,0,246,252,253,0,0,275,0,0,0,0,0,0,308,0,0,0,0,0,0,0,0,0,0,0,43,0,0,0,0,31,0,0,0,0,0,32,0,0,0,33,0,86,102,87,0,0,0,0,0,0,0,0,0,0,0,182,184,185,186,0,0,0,0,0,263,0,0,0,0,0,0,0,101,181,180,0,0,0,6,7,0,9,10,0,12,0,14,15,0,18,0,21,0,25,30,39,40,0,46,0,0,0,0,0,62,63,64,65,66,0,0,0,0,83,85,112,115,116,117,0,0,0,0,0,137,138,139,141,143,144,0,0,0,0,0,0,0,0,158,159,0,161,162,163,164,202,203,0,0,0,0,0,0,0,217,218,219,220,221,222,225,0,0,0,0,0,0,0,0,0,0,247,249,250,268,269,0,0,0,0,277,278,0,0,0,0,0,0,309,310,319,140,223,251,114,273,307,284,248,224,45]
def cj(k:Nat):Nat:=abD.getD k 0
def YC:List Nat:=[15,16]
def pM(f:Nat):Bool:=YC.any<|Nat.beq f
def pvL:List (List Nat):=[[33,39],[6,18]]
def fnL:List Nat:=[117,146,201,202]
def fnF(t:Nat):Bool:=fnL.any<|Nat.beq t
def da(lp:{α β:Type}->(α->Option (Sum α β))->α->Option β)(call:Nat->List D->Option D)(inl:Inl):Env:={ L:=YP,sig:=pe,call:=λf=>call<|rV f,mapL:=MM,fnT:=fnF,ownF:=pM,lp:=lp,inl:=inl.f,cod:=inl.cod,free:=kg,pv:=inl.pv }
def HN:List (Nat×(Func×Ty))->Nat->Option (Func×Ty)
 | [],_=>none
 | p::l,f=>bif Nat.beq f p.1 then some p.2 else HN l f
theorem ut:∀ {l:List<|Nat×(Func×Ty)} {f:Nat} {p:Func×Ty},HN l f=some p->(f,p)∈l
 | [],_,_,h=>by cases h
 | q::l,f,p,h=>by
  simp only[HN] at h;cases hb:Nat.beq f q.1
  ·rw[hb] at h;exact zsa _<|ut h
  ·rw[hb] at h;cases h;rw[z3b hb];exact zBa
open Go.Proofs in
noncomputable def Wt:List (Nat×(Func×Ty)):=[(41,(Tryz.f41,K82)),(45,(Tryz.f45,Ty.fn)),(63,(Tryz.f63,Ty.bool)),(101,(Tryz.f101,Ty.fn)),(112,(Tryz.f112,be)),(114,(Tryz.f114,Y2)),(140,(Tryz.f140,cn)),(141,(Tryz.f141,z)),(160,(Tryz.f160,cn)),(180,(Tryz.f180,Y2)),(181,(Tryz.f181,Ty.bool)),(223,(Tryz.f223,cn)),(224,(Tryz.f224,z)),(242,(Tryz.f242,Ty.int .u64)),(243,(Tryz.f243,Ty.bool)),(244,(Tryz.f244,Y2)),(247,(Tryz.f247,z)),(248,(Tryz.f248,cn)),(249,(Tryz.f249,Ty.int .i64)),(251,(Tryz.f251,Ty.fn)),(273,(Tryz.f273,Ty.bool)),(274,(Tryz.f274,Ty.bool)),(275,(Tryz.f275,Ty.bool)),(276,(Tryz.f276,Ty.bool)),(284,(Tryz.f284,Y2)),(295,(Tryz.f295,Ty.int .i64)),(299,(Tryz.f299,Ty.int .i64)),(302,(Tryz.f302,Ty.int .i64)),(307,(Tryz.f307,Ty.int .i64)),(308,(Tryz.f308,Ty.int .i64)),(309,(Tryz.f309,z)),(319,(Tryz.f319,z))]
open Go.Proofs in
noncomputable def QF:List (Nat×(Func×Ty)):=Wt++[(190,(Tryz.f190,K2)),(306,(Tryz.f306,Ty.int .i64))]
noncomputable def QD(v f:Nat):Option (Func×Ty):=HN (bif Nat.beq v 2 then QF else Wt) f
def NT{v f:Nat}{p:Func×Ty}(h:QD v f=some p):(f,p)∈QF:=by
 unfold QD at h;cases hb:Nat.beq v 2
 ·rw[hb] at h;exact List.mem_append_left _<|ut h
 ·rw[hb] at h;exact ut h
end Sy
end
end Go.Proofs.YtdlipdnepadhjaaGreat
