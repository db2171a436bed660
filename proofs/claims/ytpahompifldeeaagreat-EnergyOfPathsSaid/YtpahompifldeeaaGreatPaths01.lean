/- Part 1 of the proof that EnergyOfPaths answers true at every input -/
import Derived.WalkKit
import Derived.WalkSpells
import Derived.WalkLawsBesides
import Derived.Deep.QuietTactic
import Derived.BigQuiet
import Derived.Deep.Draws
import Derived.Lib.Hide
import Derived.StillTail
import Derived.Laws.StructEq
set_option linter.unusedVariables false
set_option linter.unusedSimpArgs false
set_option linter.unnecessarySimpa false
set_option maxRecDepth 20000
namespace Go.Proofs.YtpahompifldeeaaGreat
noncomputable section
open Go.RowKit
def grown(w:World)(os:List Obj)(d:Nat):World:={ w with heap:=w.heap++os.toArray,drawn:=d }
def bw(w:World)(b:Nat):Option (Array Value):=
 match w.heap[b]? with
 | some (.cells c _ (0,0))=>some c
 | _=>none
def gr(b:Nat)(w:World):Prop:=b<w.heap.size
def IL(b:Nat)(w:World)(os:List Obj):Prop:=b<os.length+w.heap.size
section
variable(w:World)(os os':List Obj)(d d':Nat)(o:Obj)(a:Addr)(v:Value)(b:Nat)
@[simp,go_sem] theorem size_grown:(grown w os d).heap.size=os.length+w.heap.size:=by simp[grown];omega
@[simp,go_sem] theorem tape_grown:(grown w os d).tape=w.tape:=rfl
@[simp,go_sem] theorem drew_grown:(grown w os d).drew=grown w os (d+1):=rfl
@[simp,go_sem] theorem drewN_grown (n:Nat):(grown w os d).drewN n=grown w os (d+n):=rfl
theorem cp{b:Nat}(h:b<w.heap.size):(grown w os d).heap[b]?=w.heap[b]?:=by
 simp[grown,Array.getElem?_append,h]
theorem zz:grown w [] w.drawn=w:=by simp[grown]
theorem dt:w.alloc o=grown w [o] w.drawn:=by
 show({ w with heap:=w.heap.push o }:World)=_
 simp only[grown,Array.push_eq_append]
@[simp,go_sem] theorem row?_drew:bw w.drew b=bw w b:=rfl
@[simp,go_sem] theorem row?_drewN (n:Nat):bw (w.drewN n) b=bw w b:=rfl
theorem qE{c:Array Value}{t:TypeId}(h:b=w.heap.size):bw (w.alloc (.cells c t)) b=some c:=by
 subst h
 show(match (w.heap.push (.cells c t))[w.heap.size]? with|some (.cells c _ (0,0))=>some c|_=>none)=_
 simp
@[simp,go_sem] theorem inHeap_setCell:gr b (w.setCell a v)=gr b w:=by simp[gr]
@[simp,go_sem] theorem inHeap_drew:gr b w.drew=gr b w:=rfl
@[simp,go_sem] theorem inHeap_drewN (n:Nat):gr b (w.drewN n)=gr b w:=rfl
theorem cF{b:Nat}{c:Array Value}(h:bw w b=some c)(j:Nat):w.cell? ⟨b,j,none⟩=c[j]?:=by
 unfold bw at h
 split at h<;>simp at h
 rename_i hb
 subst h
 simp[World.cell?,hb]
theorem rj{b:Nat}{c:Array Value}(h:bw w b=some c)(j:Nat):w.frozen? ⟨b,j,none⟩=false:=by
 unfold bw at h
 split at h<;>simp at h
 rename_i hb
 simp[World.frozen?,hb]
def de(c:Array Value)(off:Nat)(cs:Array Value):Array Value:=c.extract 0 off++cs++c.extract (off+cs.size) c.size
theorem ji(c cs:Array Value)(off j:Nat)(h:off+cs.size<=c.size):(de c off cs)[j]?=if j<off then c[j]? else if j<off+cs.size then cs[j-off]? else c[j]?:=by
 simp only[de,Array.getElem?_append,Array.getElem?_extract,Array.size_append,Array.size_extract]
 rw[show min off c.size-0=off from by omega,show min c.size c.size=c.size from by omega]
 by_cases h1:j<off
 ·rw[if_pos (by omega),if_pos h1,if_pos h1,if_pos (by omega)];simp
 ·rw[if_neg h1]
  by_cases h2:j<off+cs.size
  ·rw[if_pos (by omega),if_neg h1,if_pos h2]
  ·rw[if_neg (by omega),if_neg h2]
   by_cases h3:j<c.size
   ·rw[if_pos (by omega),show off+cs.size+(j-(off+cs.size))=j from by omega,if_neg h1]
   ·rw[if_neg (by omega),Array.getElem?_eq_none (by omega),if_neg h1]
@[simp,go_sem] theorem splice_size (c cs:Array Value) (off:Nat) (h:off+cs.size<=c.size):(de c off cs).size=c.size:=by
 simp[de];omega
theorem oH(c:Array Value)(k:Nat)(v:Value)(l:List Value)(h:k+(l.length+1)<=c.size) :
  de (c.setIfInBounds k v) (k+1) l.toArray=de c k (v::l).toArray:=by
 apply Array.ext_getElem?
 intro j
 rw[ji _ _ _ _ (by simp;omega),ji _ _ _ _ (by simpa using h)]
 simp only[Array.getElem?_setIfInBounds,List.size_toArray,List.length_cons,List.getElem?_toArray]
 by_cases h1:j<k
 ·rw[if_pos (by omega),if_neg (by omega),if_pos h1]
 ·by_cases h2:j=k
  ·subst h2
   rw[if_pos (by omega),if_pos rfl,if_pos (by omega),if_neg (by omega),if_pos (by omega)]
   simp
  ·rw[if_neg (by omega),if_neg h1]
   by_cases h3:j<k+(l.length+1)
   ·rw[if_pos (by omega),if_pos h3,show j-k=(j-(k+1))+1 from by omega]
    simp
   ·rw[if_neg (by omega),if_neg h3,if_neg (by omega)]
def putAt(w:World)(b off:Nat)(cs:Array Value):World:=
 { w with heap:=w.heap.modify b fun
   | .cells c e f=>.cells (de c off cs) e f
   | o=>o }
@[simp,go_sem] theorem inHeap_putAt (b' off:Nat) (cs:Array Value):gr b' (putAt w b off cs)=gr b' w:=by simp[gr,putAt]
@[simp,go_sem] theorem size_putAt (off:Nat) (cs:Array Value):(putAt w b off cs).heap.size=w.heap.size:=by simp[putAt]
@[simp,go_sem] theorem tape_putAt (off:Nat) (cs:Array Value):(putAt w b off cs).tape=w.tape:=rfl
end
attribute [irreducible] gr IL
def xj(P:Program)(T:TypeId)(a:Addr)(w:World):Result Value:=(loadVar T a).run P w
def xR(P:Program)(T:TypeId)(a:Addr)(v:Value)(w:World):Result Unit:=(storeVar T a v).run P w
def IV(P:Program)(T:TypeId)(b off n:Nat)(w:World):Option (Array Value)->Result Value
 | some c=>if off+n<=c.size then .ok (.agg (c.extract off (off+n))) w else xj P T ⟨b,off,none⟩ w
 | none=>xj P T ⟨b,off,none⟩ w
@[simp,go_sem] theorem ldRow_some (P:Program) (T:TypeId) (b off n:Nat) (w:World) (c:Array Value) :
  IV P T b off n w (some c)=if off+n<=c.size then .ok (.agg (c.extract off (off+n))) w else xj P T ⟨b,off,none⟩ w:=rfl
def jN:Value->Bool
 | .agg _|.tuple _=>false
 | _=>true
def I0(cs:Array Value):Bool:=cs.all jN
def I8(P:Program)(T:TypeId)(b off:Nat)(cs:Array Value)(w:World):Option (Array Value)->Result Unit
 | some c=>if off+cs.size<=c.size/\I0 cs=true then .ok () (putAt w b off cs) else xR P T ⟨b,off,none⟩ (.agg cs) w
 | none=>xR P T ⟨b,off,none⟩ (.agg cs) w
@[simp,go_sem] theorem stRow_some (P:Program) (T:TypeId) (b off:Nat) (cs:Array Value) (w:World) (c:Array Value) :
  I8 P T b off cs w (some c)=if off+cs.size<=c.size/\I0 cs=true then .ok () (putAt w b off cs) else xR P T ⟨b,off,none⟩ (.agg cs) w:=rfl
theorem xK{P:Program}{T:TypeId}{n:Nat}(h:(P.info? T).map (·.size)=some n)(w:World):(sizeOf T).run P w=.ok n w:=by
 cases hq:P.info? T with
 | none=>simp[hq] at h
 | some i=>
  have hs:i.size=n:=by simpa [hq] using h
  simp[sizeOf,typeInfo,hq,hs]
theorem cD(b off j:Nat):(⟨b,off,none⟩:Addr).add j=⟨b,off+j,none⟩:=by unfold Addr.add;split<;>simp_all
theorem cO{P:Program}(b off:Nat):∀ (l:List Value) (i:Nat) (w:World) (c:Array Value),bw w b=some c->off+i+l.length<=c.size->l.all jN=true ->
  (storeCells ⟨b,off,none⟩ l i).run P w=.ok () (putAt w b (off+i) l.toArray)
 | [],i,w,c,hr,_,_=>by
  simp only[storeCells,Sem.run_pure]
  congr 1
  unfold bw at hr
  split at hr<;>simp at hr
  rename_i hb
  subst hr
  have hlt:=(Array.getElem?_eq_some_iff.1 hb)
  obtain⟨hlt,hb'⟩:=hlt
  simp only[putAt]
  have:w.heap.modify b (fun|.cells c e f=>.cells (de c (off+i) #[]) e f|o=>o)=w.heap:=by
   apply Array.ext
   ·simp
   ·intro j h1 h2
    simp only[Array.getElem_modify]
    split
    ·rename_i h3;subst h3;simp[hb',de];right;omega
    ·rfl
  simp only[this]
 | v::l,i,w,c,hr,hlen,hone=>by
  simp only[List.all_cons,Bool.and_eq_true] at hone
  simp only[List.length_cons] at hlen
  have hc:w.cell? ⟨b,off+i,none⟩=some c[off+i]:=by
   rw[cF w hr,Array.getElem?_eq_getElem (by omega)]
  have hf:w.frozen? ⟨b,off+i,none⟩=false:=rj w hr _
  simp only[storeCells,Sem.run_bind]
  have hst:(store ((⟨b,off,none⟩:Addr).add i) v).run P w=.ok () (w.setCell ⟨b,off+i,none⟩ v):=by
   rw[cD]
   unfold store
   cases v<;>simp_all [Sem.run,jN]
  rw[hst]
  simp only[Result.andThen_ok]
  have hr':bw (w.setCell ⟨b,off+i,none⟩ v) b=some (c.setIfInBounds (off+i) v):=by
   unfold bw at hr ⊢
   split at hr<;>simp at hr
   rename_i hb
   subst hr
   simp only[World.setCell,Array.getElem?_modify,if_true,hb,Option.map_some,Option.isSome_none,Bool.false_eq_true,if_false]
  rw[cO b off l (i+1) _ _ hr' (by simp;omega) hone.2]
  congr 1
  unfold bw at hr
  split at hr<;>simp at hr
  rename_i hb
  subst hr
  obtain⟨hlt,hb'⟩:=(Array.getElem?_eq_some_iff.1 hb)
  simp only[putAt,World.setCell]
  congr 1
  apply Array.ext
  ·simp
  ·intro j h1 h2
   simp only[Array.getElem_modify]
   split
   ·rename_i h3;subst h3
    simp only[hb',Option.isSome_none,Bool.false_eq_true,if_false]
    rw[<-oH _ _ _ _ (by omega)]
    rfl
   ·rfl
def jq(place:Nat->Option (Nat×Nat))(cells:Array Value):List (Nat×Value)->Option (Array Value)
 | []=>some cells
 | (i,v)::rest=>
  match place i with
  | none=>none
  | some (off,size)=>if v.cells.size≠size\/off+v.cells.size>cells.size then none else jq place (de cells off v.cells) rest
theorem lZ(off:Nat):∀ (l:List Value) (k:Nat) (cells:Array Value),off+k+l.length<=cells.size ->
  (l.zipIdx k).foldl (fun cs (c,j)=>cs.setIfInBounds (off+j) c) cells=de cells (off+k) l.toArray
 | [],k,cells,_=>by
  simp only[List.zipIdx_nil,List.foldl_nil,de]
  apply Array.ext_getElem?
  intro j
  simp only[Array.getElem?_append,Array.getElem?_extract,Array.size_append,Array.size_extract,List.size_toArray,List.length_nil]
  by_cases h:j<off+k
  ·by_cases h2:j<cells.size
   ·rw[if_pos (by omega),if_pos (by omega),if_pos (by omega)];simp
   ·rw[Array.getElem?_eq_none (by omega)];repeat' split
    all_goals first|rfl|omega|(rw[Array.getElem?_eq_none (by omega)])
  ·by_cases h2:j<cells.size
   ·rw[if_neg (by omega),if_pos (by omega)];congr 1;omega
   ·rw[Array.getElem?_eq_none (by omega),if_neg (by omega),if_neg (by omega)]
 | v::l,k,cells,h=>by
  simp only[List.length_cons] at h
  simp only[List.zipIdx_cons,List.foldl_cons]
  rw[lZ off l (k+1) _ (by simp;omega),show off+(k+1)=(off+k)+1 from by omega,oH _ _ _ _ (by omega)]
theorem lX(place:Nat->Option (Nat×Nat)):∀ (l:List (Nat×Value)) (cells:Array Value),Instr.fill place cells l=jq place cells l
 | [],cells=>rfl
 | (i,v)::rest,cells=>by
  simp only[Instr.fill,jq]
  cases place i with
  | none=>rfl
  | some q=>
   obtain⟨off,size⟩:=q
   by_cases h:v.cells.size≠size\/off+v.cells.size>cells.size
   ·simp[h]
   ·simp only[h,if_false]
    have h':¬ (v.cells.size≠size||decide (off+v.cells.size>cells.size))=true:=by simpa using h
    have hle:off+0+v.cells.toList.length<=cells.size:=by simp;omega
    have e:=lZ off v.cells.toList 0 cells hle
    simp only[Nat.add_zero,Array.toArray_toList] at e
    have e2:v.cells.zipIdx.foldl (fun cs (c,j)=>cs.setIfInBounds (off+j) c) cells=de cells off v.cells:=by
     rw[<-e,<-Array.foldl_toList];simp
    simp only[h',if_false,Bool.false_eq_true,e2]
    exact lX place rest _
theorem pQ{place:Nat->Option (Nat×Nat)}{cells:Array Value}{i off size:Nat}{v:Value}{rest:List (Nat×Value)}(hp:place i=some (off,size))(h1:v.cells.size=size)(h2:off+size<=cells.size) :
  jq place cells ((i,v)::rest)=jq place (de cells off v.cells) rest:=by
 simp only[jq,hp]
 rw[if_neg (by omega)]
section
variable{α:Type}{enc:α->Array Value}{c:Nat}(hc:∀ x,(enc x).size=c)
include hc
def mQ(f:Nat->α)(k:Nat)(y:α):Nat->α:=fun i=>if i=k then y else f i
end
end
noncomputable section
namespace Sy
open Go
inductive Ty where
 | int (k:IntKind)|bool|str|st (l:List Ty)|arr (n:Nat) (t:Ty)|sl (t:Ty)|tup (l:List Ty)|fn
mutual
def Ty.beq:Ty->Ty->Bool
 | .int k,.int k'=>decide (k=k')
 | .bool,.bool=>true
 | .str,.str=>true
 | .st l,.st l'=>Ty.beqs l l'
 | .arr n t,.arr n' t'=>decide (n=n')&&Ty.beq t t'
 | .sl t,.sl t'=>Ty.beq t t'
 | .tup l,.tup l'=>Ty.beqs l l'
 | .fn,.fn=>true
 | _,_=>false
def Ty.beqs:List Ty->List Ty->Bool
 | [],[]=>true
 | t::l,t'::l'=>Ty.beq t t'&&Ty.beqs l l'
 | _,_=>false
end
mutual
theorem Ty.eq_of_beq:∀ (t t':Ty),t.beq t'=true->t=t'
 | .int k,t',h=>by cases t'<;>simp[Ty.beq] at h;rw[h]
 | .bool,t',h=>by cases t'<;>simp[Ty.beq] at h;rfl
 | .str,t',h=>by cases t'<;>simp[Ty.beq] at h;rfl
 | .st l,t',h=>by cases t'<;>simp[Ty.beq] at h;rw[Ty.eqs_of_beqs _ _ h]
 | .arr n t,t',h=>by cases t'<;>simp[Ty.beq] at h;rw[h.1,Ty.eq_of_beq _ _ h.2]
 | .sl t,t',h=>by cases t'<;>simp[Ty.beq] at h;rw[Ty.eq_of_beq _ _ h]
 | .tup l,t',h=>by cases t'<;>simp[Ty.beq] at h;rw[Ty.eqs_of_beqs _ _ h]
 | .fn,t',h=>by cases t'<;>simp[Ty.beq] at h;rfl
theorem Ty.eqs_of_beqs:∀ (l l':List Ty),Ty.beqs l l'=true->l=l'
 | [],l',h=>by cases l'<;>simp[Ty.beqs] at h;rfl
 | t::l,l',h=>by
  cases l' with
  | nil=>simp[Ty.beqs] at h
  | cons t' l'=>simp[Ty.beqs] at h;rw[Ty.eq_of_beq _ _ h.1,Ty.eqs_of_beqs _ _ h.2]
end
mutual
def Ty.size:Ty->Nat
 | .st l=>Ty.sizes l
 | .arr n t=>n*t.size
 | .tup _=>0
 | _=>1
def Ty.sizes:List Ty->Nat
 | []=>0
 | t::l=>t.size+Ty.sizes l
end
inductive D where
 | int (k:IntKind) (n:Int)|bool (b:Bool)|str (s:ByteArray)|st (l:List D)|sl (l:List D)|tup (l:List D)
instance:Inhabited D:=⟨.bool false⟩
mutual
def D.flat:D->List D
 | .st l=>D.flats l
 | .int k n=>[.int k n]
 | .bool b=>[.bool b]
 | .str s=>[.str s]
 | .sl l=>[.sl l]
 | .tup l=>[.tup l]
def D.flats:List D->List D
 | []=>[]
 | d::l=>D.flat d++D.flats l
end
mutual
def wt:Ty->D->Prop
 | .int k,d=>∃ n,d=.int k n
 | .bool,d=>∃ b,d=.bool b
 | .str,d=>∃ s,d=.str s
 | .st ts,d=>∃ l,d=.st l/\dU ts l
 | .arr n t,d=>∃ l,d=.st l/\l.length=n/\∀ x∈l,wt t x
 | .sl t,d=>∃ l,d=.sl l/\∀ x∈l,wt t x
 | .tup ts,d=>∃ l,d=.tup l/\dU ts l
 | .fn,_=>False
def dU:List Ty->List D->Prop
 | [],l=>l=[]
 | t::ts,l=>∃ d l',l=d::l'/\wt t d/\dU ts l'
end
mutual
def D.beq:D->D->Bool
 | .int k n,.int k' n'=>decide (k=k')&&decide (n=n')
 | .bool b,.bool b'=>b==b'
 | .str s,.str s'=>decide (s=s')
 | .st l,.st l'=>D.beqs l l'
 | _,_=>false
def D.beqs:List D->List D->Bool
 | [],[]=>true
 | t::l,t'::l'=>D.beq t t'&&D.beqs l l'
 | _,_=>false
end
mutual
def aF:Ty->D
 | .int k=>.int k 0
 | .bool=>.bool false
 | .str=>.str ByteArray.empty
 | .st l=>.st (eW l)
 | .arr n t=>.st (List.replicate n (aF t))
 | .sl _=>.sl []
 | .tup l=>.tup (eW l)
 | .fn=>.bool false
def eW:List Ty->List D
 | []=>[]
 | t::l=>aF t::eW l
end
mutual
def FX:Ty->Bool
 | .st l=>tJ l
 | .arr _ t=>FX t
 | .sl _=>true
 | .tup _=>true
 | .fn=>true
 | _=>false
def tJ:List Ty->Bool
 | []=>false
 | t::l=>FX t||tJ l
end
mutual
def am:Ty->Bool
 | .st l=>aY l
 | .arr _ t=>am t
 | .sl t=>am t
 | .tup _=>false
 | .fn=>false
 | _=>true
def aY:List Ty->Bool
 | []=>true
 | t::l=>am t&&aY l
end
inductive Ex where
 | normal|exit (id:Nat)|ret
def Ex.is:Ex->Ex->Bool
 | .normal,.normal=>true
 | .exit i,.exit j=>decide (i=j)
 | .ret,.ret=>true
 | _,_=>false
def xx:Option Ex->Option Ex->Bool
 | none,none=>true
 | some e,some e'=>e.is e'
 | _,_=>false
inductive AV where
 | d (t:Ty) (x:D)
 | own (t:Ty) (v:Nat) (l:List D)
 | nils
 | ptr (t:Ty) (id:Nat) (p:List Nat)
 | fptr (t:Ty) (x:D)
 | mem (t:Ty) (id:Nat)
 | st (ts:List Ty) (l:List AV)
 | clo (f:Nat) (l:List AV)
 | map (kt vt:Ty) (id:Nat)
 | sub (sl:Bool) (t:Ty) (id:Nat) (p:List Nat) (lo n:Nat)
 | yld (id:Nat)
 | gone
 | undef
instance:Inhabited AV:=⟨.undef⟩
structure LpI where
 nt:Nat
 ps:List Nat
 asg:Code
 bdy:Code
 caps:Nat->AV
inductive Ob where
 | one (t:Ty) (v:AV)
 | many (t:Ty) (l:List D)
 | mp (kt vt:Ty) (l:List D)
 | lp (i:LpI) (pend:Option Ex)
def D.fld:D->Nat->Option D
 | .st l,i=>l[i]?
 | _,_=>none
def D.tupAt:D->Nat->Option D
 | .tup l,i=>l[i]?
 | _,_=>none
def D.get:D->List Nat->Option D
 | x,[]=>some x
 | x,i::p=>(x.fld i).bind fun y=>y.get p
def D.set:D->List Nat->D->Option D
 | _,[],y=>some y
 | .st l,i::p,y=>(l[i]?).bind fun z=>(D.set z p y).bind fun z'=>some (.st (l.set i z'))
 | _,_::_,_=>none
def D.asSl:D->Option (List D)
 | .sl l=>some l
 | _=>none
def D.stl:D->Option (List D)
 | .st l=>some l
 | _=>none
def D.asInt:D->Option (IntKind×Int)
 | .int k n=>some (k,n)
 | _=>none
def D.truth:D->Option Bool
 | .bool b=>some b
 | _=>none
def D.idx:D->Nat->Option Nat
 | .int _ i,n=>if 0<=i/\i<(n:Int) then some i.toNat else none
 | _,_=>none
def D.strAt:D->D->Option D
 | .str s,.int _ i=>(if 0<=i then s[i.toNat]? else none).bind fun b=>some (.int .u8 b.toNat)
 | _,_=>none
def D.slen:D->Option D
 | .str s=>some (.int .i64 s.size)
 | _=>none
def D.conv(k:IntKind):D->Option D
 | .int _ n=>some (.int k (k.wrap n))
 | _=>none
def D.bitOp(op:BinOp)(k:IntKind)(x y:Int):Option D:=
 match op with
 | .and=>some (.int k (k.wrap (BitVec.ofInt k.bits x &&& BitVec.ofInt k.bits y).toNat))
 | .or=>some (.int k (k.wrap (BitVec.ofInt k.bits x ||| BitVec.ofInt k.bits y).toNat))
 | .xor=>some (.int k (k.wrap (BitVec.ofInt k.bits x ^^^ BitVec.ofInt k.bits y).toNat))
 | .andNot=>some (.int k (k.wrap (BitVec.ofInt k.bits x &&& ~~~ BitVec.ofInt k.bits y).toNat))
 | _=>none
def D.bin(op:BinOp):D->D->Option D
 | .int k a,.int k' b=>
  match op with
  | .shl=>if b<0 then none else some (.int k (k.wrap (a*2^(min b.toNat k.bits))))
  | .shr=>if b<0 then none else some (.int k (a.fdiv (2^(min b.toNat k.bits))))
  | _=>if k=k' then
   match op with
   | .add=>some (.int k (k.wrap (a+b)))
   | .sub=>some (.int k (k.wrap (a-b)))
   | .mul=>some (.int k (k.wrap (a*b)))
   | .quo=>if b=0 then none else some (.int k (k.wrap (a.tdiv b)))
   | .rem=>if b=0 then none else some (.int k (a.tmod b))
   | .eql=>some (.bool (a==b))
   | .neq=>some (.bool (a != b))
   | .lss=>some (.bool (decide (a<b)))
   | .leq=>some (.bool (decide (a<=b)))
   | .gtr=>some (.bool (decide (a>b)))
   | .geq=>some (.bool (decide (a ≥ b)))
   | .and=>D.bitOp .and k a b
   | .or=>D.bitOp .or k a b
   | .xor=>D.bitOp .xor k a b
   | .andNot=>D.bitOp .andNot k a b
   | _=>none
   else none
 | _,_=>none
def D.un(op:UnOp):D->Option D
 | .int k n=>match op with
  | .neg=>some (.int k (k.wrap (0-n)))
  | .xor=>D.bitOp .xor k (if k.signed then -1 else k.max) n
  | _=>none
 | .bool b=>match op with
  | .not=>some (.bool (!b))
  | _=>none
 | _=>none
def D.min2:D->D->Option D
 | .int k x,.int _ y=>some (.int k (if y<x then y else x))
 | _,_=>none
def D.max2:D->D->Option D
 | .int k x,.int _ y=>some (.int k (if y>x then y else x))
 | _,_=>none
def D.cut(l:List D)(lo hi:Nat):Option (List D):=if lo<=hi/\hi<=l.length then some ((l.take hi).drop lo) else none
def D.natOf:D->Option Nat
 | .int _ i=>if 0<=i then some i.toNat else none
 | _=>none
def D.putParts:List D->List (Nat×D)->List D
 | l,[]=>l
 | l,(i,x)::r=>D.putParts (l.set i x) r
def aK:Ty->List Nat->Option Ty
 | t,[]=>some t
 | .st ts,i::p=>(ts[i]?).bind fun t=>aK t p
 | .arr _ t,_::p=>aK t p
 | _,_=>none
def aQ:Ty->List Nat->Nat
 | _,[]=>0
 | .st ts,i::p=>Ty.sizes (ts.take i)+aQ (ts.getD i .bool) p
 | .arr _ t,i::p=>i*t.size+aQ t p
 | _,_=>0
def tI{R:Type}:AV->List Nat->(AV->Option R)->Option R
 | .d t x,p,k=>match p with
  | []=>k (.d t x)
  | i::p=>(aK t (i::p)).bind fun t'=>(x.get (i::p)).bind fun y=>k (.d t' y)
 | a,[],k=>k a
 | .st _ l,i::p,k=>(l[i]?).bind fun a=>tI a p k
 | _,_,_=>none
mutual
def AV.fits:Ty->AV->Bool
 | t,.d t' _=>t.beq t'
 | .sl t,.own t' _ _=>t.beq t'
 | .sl _,.nils=>true
 | .st ts,.st ts' l=>Ty.beqs ts ts'&&AV.fitss ts l
 | _,_=>false
def AV.fitss:List Ty->List AV->Bool
 | [],[]=>true
 | t::ts,a::l=>AV.fits t a&&AV.fitss ts l
 | _,_=>false
end
def xM{R:Type}:AV->List Nat->AV->(AV->Option R)->Option R
 | _,[],b,k=>k b
 | .d t x,i::p,b,k=>match b with
  | .d _ y=>(x.set (i::p) y).bind fun x'=>k (.d t x')
  | _=>none
 | .st ts l,i::p,b,k=>(l[i]?).bind fun a=>xM a p b fun a'=>k (.st ts (l.set i a'))
 | _,_::_,_,_=>none
mutual
def fh:Ty->AV
 | .sl _=>.nils
 | .st ts=>if tJ ts then .st ts (ii ts) else .d (.st ts) (aF (.st ts))
 | t=>.d t (aF t)
def ii:List Ty->List AV
 | []=>[]
 | t::l=>fh t::ii l
end
def gC{R:Type}:Ob->List Nat->(AV->Option R)->Option R
 | .one _ v,p,k=>tI v p k
 | .many t l,i::p,k=>(l[i]?).bind fun x=>tI (.d t x) p k
 | .many ..,[],_=>none
 | .mp ..,_,_=>none
 | .lp ..,_,_=>none
def eh:Ob->List Nat->Option Ty
 | .one t _,p=>aK t p
 | .many t _,_::p=>aK t p
 | .many ..,[]=>none
 | .mp ..,_=>none
 | .lp ..,_=>none
structure St where
 tm:Nat->AV
 ob:Nat->Option Ob
 fresh:Nat
 dead:List Nat
 nt:Nat
 lkS:List Nat
 lkO:List Nat
def St.put(s:St)(dst:Option Nat)(v:AV):St:=
 match dst with
 | some t=>if t<s.nt then{ s with tm:=fun i=>if i=t then v else s.tm i } else s
 | none=>s
def St.base(s:St):Nat:=s.fresh*4096
def St.setOb(s:St)(id:Nat)(o:Option Ob):St:={ s with ob:=fun i=>if i=id then o else s.ob i }
mutual
def AV.toD(ob:Nat->Option Ob):Ty->AV->Option D
 | t,.d t' x=>if t.beq t' then some x else none
 | t,.own t' _ l=>if t.beq (.sl t') then some (.sl l) else none
 | t,.nils=>match t with
  | .sl _=>some (.sl [])
  | _=>none
 | t,.st ts' l=>if t.beq (.st ts') then(AV.toDl ob ts' l).bind fun xs=>some (.st xs) else none
 | _,_=>none
def AV.toDl(ob:Nat->Option Ob):List Ty->List AV->Option (List D)
 | [],[]=>some []
 | t::ts,a::l=>(AV.toD ob t a).bind fun x=>(AV.toDl ob ts l).bind fun xs=>some (x::xs)
 | _,_=>none
end
def AV.asList(ob:Nat->Option Ob)(t:Ty)(a:AV):Option (List D):=(AV.toD ob (.sl t) a).bind D.asSl
def AV.truth:AV->Option Bool
 | .d t x=>if t.beq .bool then x.truth else none
 | _=>none
inductive Sh where
 | dv (t:Ty)
 | ow (t:Ty)
 | same (a:AV)
 | st (ts:List Ty) (l:List Sh)
inductive ShO where
 | one (t:Ty) (h:Sh)
 | many (t:Ty)
 | mp (kt vt:Ty)
 | keep (t:Ty) (wit:Nat)
 | lp (pend:Option Ex) (wit:Nat)
structure Shape where
 slots:List (Nat×Sh)
 objs:List (Nat×ShO)
 keepS:List Nat
inductive Ann where
 | leaf
 | reg (fz:List Nat) (n:Nat)
 | regI (fz:List Nat) (n:Nat) (a:Ann)
 | two (a b:Ann)
 | cut (exits:List (Ex×Shape)) (keepS keepO:List Nat) (a b:Ann)
 | loop (h:Shape) (exits:List (Ex×Shape)) (a:Ann)
def Ann.fz:Ann->List Nat|.reg fz _=>fz|.regI fz _ _=>fz|_=>[]
def Ann.heads(m:Nat):Ann->Nat|.reg _ n=>n|.regI _ n _=>n|_=>m
def Ann.inner:Ann->Ann|.regI _ _ a=>a|_=>.leaf
def Ann.fst:Ann->Ann|.two a _=>a|.cut _ _ _ a _=>a|.loop _ _ a=>a|_=>.leaf
def Ann.snd:Ann->Ann|.two _ b=>b|.cut _ _ _ _ b=>b|_=>.leaf
structure Env where
 L:Nat->Option Ty
 sig:Nat->Option (List Ty×Ty)
 call:Nat->List D->Option D
 mapL:Nat->Option (Ty×Ty)
 lp:{α β:Type}->(α->Option (Sum α β))->α->Option β
 inl:Nat->Option (Ann->(R:Type)->St->List AV->(AV->St->Option R)->Option R)
 cod:Code->Ann->(R:Type)->St->(Ex->St->Option R)->Option R
 free:Nat->Nat
 pv:Bool
structure Inl where
 pv:Bool
 f:Nat->Option (Ann->(R:Type)->St->List AV->(AV->St->Option R)->Option R)
 cod:Code->Ann->(R:Type)->St->(Ex->St->Option R)->Option R
def Bi:Value->AV
 | .int k n=>.d (.int k) (.int k n)
 | .bool b=>.d .bool (.bool b)
 | .string s=>.d .str (.str s)
 | .slice none 0 0=>.nils
 | _=>.undef
def St.opA(s:St):Operand->AV
 | .tmp t=>s.tm t
 | .const v=>Bi v
 | .func f=>.clo f []
 | _=>.undef
def isD:AV->Option (Ty×D)
 | .d t x=>some (t,x)
 | _=>none
mutual
def bu:Ty->Bool
 | .int _=>true
 | .bool=>true
 | .st ts=>jF ts
 | .arr _ t=>bu t
 | _=>false
def jF:List Ty->Bool
 | []=>true
 | t::l=>bu t&&jF l
end
def partsD(ob:Nat->Option Ob)(s:St)(ty:Nat->Option Ty):List (Nat×Operand)->Option (List (Nat×D))
 | []=>some []
 | (i,x)::r=>(ty i).bind fun t=>(AV.toD ob t (s.opA x)).bind fun y=>(partsD ob s ty r).bind fun ys=>some ((i,y)::ys)
def eM(s:St)(ts:List Ty)(p:Nat×Operand):Bool:=match ts[p.1]? with|some u=>AV.fits u (s.opA p.2)|none=>false
def eP:AV->Bool
 | .ptr ..=>true
 | _=>false
def kq:List AV->List (Nat×AV)->List AV
 | l,[]=>l
 | l,(i,x)::r=>kq (l.set i x) r
def D.mget:List D->D->Option D
 | [],_=>none
 | .st [k,v]::l,x=>if D.beq x k then some v else D.mget l x
 | _::l,x=>D.mget l x
def D.mput:List D->D->D->List D
 | [],x,y=>[.st [x,y]]
 | .st [k,v]::l,x,y=>if D.beq x k then .st [k,y]::l else .st [k,v]::D.mput l x y
 | e::l,x,y=>e::D.mput l x y
def cK:List Nat->Bool
 | []=>true
 | a::l=>!(l.contains a)&&cK l
def pA(l:List AV):List Nat:=l.map fun x=>match x with|.ptr _ id _=>id|_=>0
def lO(ob:Nat->Option Ob):List Ty->List AV->Option (List D)
 | [],[]=>some []
 | t::ts,.ptr _ id []::l=>match ob id with
  | some (.one u v)=>if t.beq u then(AV.toD ob t v).bind fun z=>(lO ob ts l).bind fun zs=>some (z::zs) else none
  | _=>none
 | _,_=>none
def qv{R:Type}(E:Env)(s:St)(o:Oper)(K:AV->Option R):Option R:=
 match o.op with
 | .move x=>K (s.opA x)
 | .assign x=>K (s.opA x)
 | .pick c a b=>(s.opA c).truth.bind fun c=>if c then K (s.opA a) else K (s.opA b)
 | .alloc T=>(E.L T).bind fun t=>o.dst.bind fun d=>K (.ptr t (s.base+d) [])
 | .load T a=>(E.L T).bind fun t=>match s.opA a with
  | .ptr t' id p=>if t.beq t' then(s.ob id).bind fun o=>gC o p K else none
  | .fptr t' x=>if t.beq t' then K (.d t' x) else none
  | .sub sl e id p lo n=>if !sl&&t.beq (.arr n e) then(s.ob id).bind fun o=>gC o p fun v=>match v with
    | .d (.arr _ e') (.st l)=>if e'.beq e&&decide (lo+n<=l.length) then K (.d (.arr n e) (.st ((l.drop lo).take n))) else none
    | _=>none
   else none
  | _=>none
 | .fieldAddr T x f=>(E.L T).bind fun t=>match t,s.opA x with
  | .st ts,.ptr t' id p=>if t'.beq (.st ts) then(ts[f]?).bind fun u=>K (.ptr u id (p++[f])) else none
  | .st ts,.fptr t' y=>if t'.beq (.st ts) then(ts[f]?).bind fun u=>(y.fld f).bind fun z=>K (.fptr u z) else none
  | _,_=>none
 | .indexAddr T x i=>(E.L T).bind fun t=>(isD (s.opA i)).bind fun ix=>match t with
  | .arr n e=>match s.opA x with
   | .ptr t' id p=>if t'.beq (.arr n e) then(ix.2.idx n).bind fun k=>K (.ptr e id (p++[k])) else none
   | .fptr t' y=>if t'.beq (.arr n e) then(ix.2.idx n).bind fun k=>(y.fld k).bind fun z=>K (.fptr e z) else none
   | _=>none
  | .sl e=>match s.opA x with
   | .mem t' id=>if t'.beq e then match s.ob id with
     | some (.many _ l)=>(ix.2.idx l.length).bind fun k=>K (.ptr e id [k])
     | _=>none
    else none
   | a=>(a.asList s.ob e).bind fun l=>(ix.2.idx l.length).bind fun k=>(l[k]?).bind fun y=>K (.fptr e y)
  | _=>none
 | .field T x f=>(E.L T).bind fun t=>match t,s.opA x with
  | .st ts,.d t' y=>if t'.beq (.st ts) then(ts[f]?).bind fun u=>(y.fld f).bind fun z=>K (.d u z) else none
  | _,_=>none
 | .index T x i=>(E.L T).bind fun t=>(isD (s.opA i)).bind fun ix=>match t,s.opA x with
  | .arr n e,.d t' y=>if t'.beq (.arr n e) then(ix.2.idx n).bind fun k=>(y.fld k).bind fun z=>K (.d e z) else none
  | .str,.d t' y=>if t'.beq .str then(D.strAt y ix.2).bind fun z=>K (.d (.int .u8) z) else none
  | _,_=>none
 | .binOp op T x y _=>(E.L T).bind fun t=>(isD (s.opA x)).bind fun a=>(isD (s.opA y)).bind fun b=>
  match op with
  | .eql=>if a.1.beq t&&b.1.beq t&&bu t then K (.d .bool (.bool (D.beq a.2 b.2))) else none
  | .neq=>if a.1.beq t&&b.1.beq t&&bu t then K (.d .bool (.bool (!(D.beq a.2 b.2)))) else none
  | .lss=>(D.bin .lss a.2 b.2).bind fun z=>K (.d .bool z)
  | .leq=>(D.bin .leq a.2 b.2).bind fun z=>K (.d .bool z)
  | .gtr=>(D.bin .gtr a.2 b.2).bind fun z=>K (.d .bool z)
  | .geq=>(D.bin .geq a.2 b.2).bind fun z=>K (.d .bool z)
  | op=>(D.bin op a.2 b.2).bind fun z=>K (.d a.1 z)
 | .unOp op _ x=>(isD (s.opA x)).bind fun a=>(D.un op a.2).bind fun z=>K (.d a.1 z)
 | .convert S T x=>(E.L S).bind fun u=>(E.L T).bind fun t=>(isD (s.opA x)).bind fun a=>
  match t with
  | .int k=>if a.1.beq u then(D.conv k a.2).bind fun z=>K (.d t z) else none
  | _=>none
 | .build T ps=>(E.L T).bind fun t=>match t with
  | .st ts=>if tJ ts then(if ps.toList.all (eM s ts) then K (.st ts (kq (ii ts) (ps.toList.map fun p=>(p.1,s.opA p.2)))) else none)
   else(partsD s.ob s (fun i=>ts[i]?) ps.toList).bind fun l=>K (.d t (.st (D.putParts (eW ts) l)))
  | .arr n e=>(partsD s.ob s (fun i=>if i<n then some e else none) ps.toList).bind fun l=>K (.d t (.st (D.putParts (List.replicate n (aF e)) l)))
  | _=>none
 | .buildSlice T n ps=>(E.L T).bind fun t=>match t with
  | .sl e=>if n<=4096 then o.dst.bind fun d=>(partsD s.ob s (fun i=>if i<n then some e else none) ps.toList).bind fun l=>K (.own e (s.base+d) (D.putParts (List.replicate n (aF e)) l)) else none
  | _=>none
 | .extract x i=>match s.opA x with
  | .d (.tup ts) y=>(ts[i]?).bind fun u=>(y.tupAt i).bind fun z=>K (.d u z)
  | _=>none
 | .nilCheck x=>match s.opA x with
  | .ptr t id p=>K (.ptr t id p)
  | _=>none
 | .slice T x lo hi mx=>match mx with
  | some _=>none
  | none=>(E.L T).bind fun t=>match t with
   | .sl e=>((s.opA x).asList s.ob e).bind fun l=>
    (match lo with|none=>some 0|some i=>(isD (s.opA i)).bind fun a=>a.2.natOf).bind fun lo=>
    (match hi with|none=>some l.length|some i=>(isD (s.opA i)).bind fun a=>a.2.natOf).bind fun hi=>
    (D.cut l lo hi).bind fun l'=>K (.d t (.sl l'))
   | .arr m e=>match s.opA x with
    | .ptr t' id p=>if t'.beq (.arr m e) then
     (match lo with|none=>some 0|some i=>(isD (s.opA i)).bind fun a=>a.2.natOf).bind fun lo=>
     (match hi with|none=>some m|some i=>(isD (s.opA i)).bind fun a=>a.2.natOf).bind fun hi=>
     if lo<=hi/\hi<=m/\lo<m then K (.sub true e id p lo (hi-lo)) else none
     else none
    | _=>none
   | _=>none
 | .sliceToArrayPointer T x=>(E.L T).bind fun t=>match t,s.opA x with
  | .arr n e,.sub sl e' id p lo n'=>if sl&&e'.beq e&&decide (n<=n') then K (.sub false e id p lo n) else none
  | .arr n e,a=>(a.asList s.ob e).bind fun l=>if decide (1<=n)&&decide (n<=l.length) then K (.fptr (.arr n e) (.st (l.take n))) else none
  | _,_=>none
 | .lookup T x i cok=>(E.mapL T).bind fun kv=>match s.opA x with
  | .map kt vt id=>if kt.beq kv.1&&vt.beq kv.2 then match s.ob id with
    | some (.mp kt' vt' l)=>if kt'.beq kt&&vt'.beq vt then(isD (s.opA i)).bind fun ix=>if ix.1.beq kt then
      match cok with
      | false=>K (.d vt ((D.mget l ix.2).getD (aF vt)))
      | true=>K (.d (.tup [vt,.bool]) (.tup [(D.mget l ix.2).getD (aF vt),.bool (D.mget l ix.2).isSome]))
      else none
     else none
    | _=>none
   else none
  | _=>none
 | .makeFunc fn first captured=>match fn with
  | .func f=>if first.size=0/\(captured.toList.all fun x=>eP (s.opA x))=true then K (.clo f (captured.toList.map s.opA)) else none
  | _=>none
 | .call c=>match c.callee with
  | .builtin .len=>(c.argTypes[0]?).bind fun T=>(E.L T).bind fun t=>(c.args[0]?).bind fun x=>match t with
   | .sl e=>match s.opA x with
    | .mem t' id=>if t'.beq e then match s.ob id with
      | some (.many _ l)=>K (.d (.int .i64) (.int .i64 l.length))
      | _=>none
     else none
    | a=>(a.asList s.ob e).bind fun l=>K (.d (.int .i64) (.int .i64 l.length))
   | .arr n _=>K (.d (.int .i64) (.int .i64 n))
   | .str=>(isD (s.opA x)).bind fun a=>if a.1.beq .str then(D.slen a.2).bind fun z=>K (.d (.int .i64) z) else none
   | _=>none
  | .builtin .min=>match c.args.toList with
   | [x,y]=>(isD (s.opA x)).bind fun a=>(isD (s.opA y)).bind fun b=>if a.1.beq b.1 then(D.min2 a.2 b.2).bind fun z=>K (.d a.1 z) else none
   | _=>none
  | .builtin .max=>match c.args.toList with
   | [x,y]=>(isD (s.opA x)).bind fun a=>(isD (s.opA y)).bind fun b=>if a.1.beq b.1 then(D.max2 a.2 b.2).bind fun z=>K (.d a.1 z) else none
   | _=>none
  | .value (.func f)=>(E.sig f).bind fun g=>bif Nat.beq (E.free f) 0 then(AV.toDl s.ob g.1 (c.args.toList.map s.opA)).bind fun xs=>(E.call f xs).bind fun y=>K (.d g.2 y) else none
  | .value (.tmp t)=>match s.tm t with
   | .clo f l=>(E.sig f).bind fun g=>bif Nat.beq (E.free f) l.length&&cK (pA l) then(AV.toDl s.ob (g.1.take (g.1.length-l.length)) (c.args.toList.map s.opA)).bind fun xs=>(lO s.ob (g.1.drop (g.1.length-l.length)) l).bind fun zs=>(E.call f (xs++zs)).bind fun y=>K (.d g.2 y) else none
   | _=>none
  | _=>none
 | _=>none
def og{R:Type}(E:Env)(s:St)(o:Oper)(K:St->Option R):Option R:=
 match o.op with
 | .store T a x=>(E.L T).bind fun t=>match s.opA a with
  | .ptr t' id p=>if t.beq t'&&AV.fits t (s.opA x)&&!(s.lkO.contains id) then match s.ob id with
    | some (.one u v)=>xM v p (s.opA x) fun v'=>K (s.setOb id (some (.one u v')))
    | some (.many u l)=>match p with
     | i::p'=>(l[i]?).bind fun z=>(AV.toD s.ob t (s.opA x)).bind fun y=>(D.set z p' y).bind fun z'=>K (s.setOb id (some (.many u (l.set i z'))))
     | []=>none
    | _=>none
   else none
  | _=>none
 | .makeMap T rsv=>match rsv with
  | some _=>none
  | none=>(E.mapL T).bind fun kv=>o.dst.bind fun d=>K ((s.setOb (s.base+d) (some (.mp kv.1 kv.2 []))).put o.dst (.map kv.1 kv.2 (s.base+d)))
 | .mapUpdate T m k v=>if o.dst.isSome then none else(E.mapL T).bind fun kv=>match s.opA m with
  | .map kt vt id=>if kt.beq kv.1&&vt.beq kv.2&&!(s.lkO.contains id) then match s.ob id with
    | some (.mp kt' vt' l)=>if kt'.beq kt&&vt'.beq vt then(AV.toD s.ob kt (s.opA k)).bind fun kd=>(AV.toD s.ob vt (s.opA v)).bind fun vd=>K (s.setOb id (some (.mp kt vt (D.mput l kd vd)))) else none
    | _=>none
   else none
  | _=>none
 | .box T x=>(E.L T).bind fun t=>o.dst.bind fun d=>if AV.fits t (s.opA x) then K ((s.setOb (s.base+d) (some (.one t (s.opA x)))).put o.dst (.ptr t (s.base+d) [])) else none
 | .makeSlice T l c=>(E.L T).bind fun t=>o.dst.bind fun d=>match t,l,c with
  | .sl e,.tmp i,.tmp j=>if i=j then(isD (s.tm i)).bind fun a=>(a.2.natOf).bind fun n=>if n<=1073741824 then K ((s.setOb (s.base+d) (some (.many e (List.replicate n (aF e))))).put o.dst (.mem e (s.base+d))) else none else none
  | _,_,_=>none
 | .call c=>match c.callee with
  | .builtin .append=>(c.argTypes[0]?).bind fun T=>(E.L T).bind fun t=>o.dst.bind fun d=>match t,c.args.toList,c.argTypes.toList with
   | .sl e,[x,y],[_,T']=>match E.L T' with
    | some (.sl _)=>((s.opA y).asList s.ob e).bind fun l'=>match s.opA x with
     | .own e' v l=>if e'.beq e&&!(s.dead.contains v) then(if l.length+l'.length<=1073741824 then K ({ s with dead:=v::s.dead }.put o.dst (.own e (s.base+d) (l++l'))) else none) else none
     | .nils=>if l'.length<=1073741824 then K (s.put o.dst (.own e (s.base+d) l')) else none
     | _=>none
    | _=>none
   | _,_,_=>none
  | .builtin .copy=>match c.args.toList,c.argTypes.toList with
   | [x,y],[T,_]=>match E.L T with
    | some (.sl (.int k))=>match s.opA x,s.opA y with
     | .sub true e id [] lo n,.sub true e' id' [] lo' n'=>match s.ob id,s.ob id' with
      | some (.one (.arr m f) (.d g x)),some (.one (.arr m' f') (.d g' y))=>
       if e.beq (.int k)&&e'.beq (.int k)&&f.beq (.int k)&&f'.beq (.int k)&&g.beq (.arr m f)&&g'.beq (.arr m' f')&&!(s.lkO.contains id) then
        x.stl.bind fun l=>y.stl.bind fun l'=>K ((s.setOb id (some (.one (.arr m f) (.d g (.st (l.take lo++((l'.drop lo').take (min n' n)++l.drop (lo+min n' n)))))))).put o.dst (.d (.int .i64) (.int .i64 (min n' n:Nat))))
       else none
      | _,_=>none
     | _,_=>none
    | _=>none
   | _,_=>none
  | _=>qv E s o fun v=>K (s.put o.dst v)
 | _=>qv E s o fun v=>K (s.put o.dst v)
def ij(s:St)(o:Oper):Bool:=match o.dst with|some d=>s.lkS.contains d|none=>false
def GS{R:Type}(E:Env)(s:St)(o:Oper)(K:St->Option R):Option R:=if ij s o then none else og E s o K
def fZ(E:Env):List Oper->St->St
 | [],s=>s
 | o::l,s=>fZ E l (match o.op,o.dst with
  | .alloc T,some d=>match E.L T with
   | some t=>s.setOb (s.base+d) (some (.one t (fh t)))
   | none=>s
  | _,_=>s)
def killD(s:St):List Oper->St
 | []=>s
 | o::l=>killD (s.put o.dst .undef) l
def rX(i:Nat)(o:Oper):Bool:=match o.guard with|some (j,_)=>decide (j=i)|none=>false
def ml(d:Option Nat)(o:Oper):Bool:=match o.op,d with|.pick (.tmp c) _ _,some d=>decide (c=d)|_,_=>false
def cS(d:Option Nat):List (Nat×Oper)->List (Nat×Oper)×List (Nat×Oper)
 | []=>([],[])
 | p::l=>if ml d p.2 then([],p::l) else let r:=cS d l;(p::r.1,r.2)
def dV(o:Oper):Bool:=match o.op with
 | .store ..|.box ..|.makeSlice ..|.makeMap ..|.mapUpdate ..|.alloc _=>false
 | .call c=>match c.callee with|.builtin .append=>false|.builtin .copy=>false|_=>true
 | _=>true
def tz(o:Oper):Bool:=match o.op with
 | .alloc _=>true|.box ..=>true|.makeSlice ..=>true|.makeMap ..=>true|.buildSlice ..=>true
 | .call c=>match c.callee with|.builtin .append=>true|_=>false
 | _=>false
def iu(E:Env)(o:Oper):Bool:=match o.op with
 | .call c=>match c.callee with|.value (.func f)=>(E.inl f).isSome|.value (.tmp _)=>!E.pv|_=>false
 | _=>false
def nw(s:St)(c:Call):Option (Nat×List AV):=match c.callee with
 | .value (.func f)=>some (f,c.args.toList.map s.opA)
 | .value (.tmp t)=>match s.tm t with|.clo f l=>if l.all eP then some (f,c.args.toList.map s.opA++l) else none|_=>none
 | _=>none
def nQ(i:Nat)(l:List (Nat×Oper)):Bool:=match l with|p::_=>rX i p.2|[]=>false
def tL{α:Type}(x:AV)(A B:Option α):Option α:=match x with|.gone=>A|_=>B
theorem dw{α:Type}{A B:Option α}:tL .gone A B=A:=rfl
theorem eu{α:Type}{x:AV}{A B:Option α}(h:x≠.gone):tL x A B=B:=by
 cases x<;>first|rfl|exact absurd rfl h
def cR(s:St):List Nat:=(List.range s.nt).filterMap fun t=>match s.tm t with|.own _ v _=>if s.dead.contains v then none else some v|_=>none
def ja:Option Ob->Option Ob->Bool
 | some (.one t _),some (.one t' _)=>t.beq t'
 | some (.many t _),some (.many t' _)=>t.beq t'
 | some (.mp kt vt _),some (.mp kt' vt' _)=>kt.beq kt'&&vt.beq vt'
 | _,none=>true
 | _,_=>false
def BZ(ob ob':Nat->Option Ob):AV->Bool
 | .ptr _ id _=>ja (ob id) (ob' id)
 | _=>false
def nJ(s sc:St)(n:Nat)(tk:List Nat):AV->AV
 | .d t x=>.d t x
 | .own t v l=>if s.dead.contains v then .d (.sl t) (.sl l) else .own t (n+tk.idxOf v) l
 | .nils=>.nils
 | .ptr t id p=>if ja (s.ob id) (sc.ob id) then .ptr t id p else .undef
 | .fptr t x=>.fptr t x
 | .clo f l=>if l.all (BZ s.ob sc.ob) then .clo f l else .undef
 | .map kt vt id=>if ja (s.ob id) (sc.ob id) then .map kt vt id else .undef
 | .yld id=>.yld id
 | _=>.undef
def E6(s:St)(nt:Nat)(avs:List AV):St:={ tm:=fun i=>avs.getD i .undef,ob:=s.ob,fresh:=s.fresh+1,dead:=cR s++s.dead,nt:=nt,lkS:=[],lkO:=s.lkO }
def lL(s sc:St):St:={ tm:=fun i=>if i<s.nt then nJ s sc ((sc.fresh+1)*4096) (cR s) (s.tm i) else .undef,ob:=sc.ob,fresh:=sc.fresh+1,dead:=sc.dead,nt:=s.nt,lkS:=s.lkS,lkO:=s.lkO }
def uA:List AV->Bool
 | []=>true
 | .ptr _ _ []::l=>uA l
 | _::_=>false
def zb(ob:Nat->Option Ob):AV->AV
 | .d t x=>.d t x
 | .own t _ l=>.d (.sl t) (.sl l)
 | .fptr t x=>.fptr t x
 | .ptr t id []=>match ob id with
  | some (.one _ _)=>.ptr t id []
  | _=>.undef
 | .clo f l=>if uA l&&l.all (fun a=>match a with|.ptr _ id _=>(match ob id with|some (.one _ _)=>true|_=>false)|_=>false) then .clo f l else .undef
 | _=>.undef
def oO(ob:Nat->Option Ob):AV->AV
 | .ptr _ id []=>match ob id with
  | some (.one t _)=>.ptr t id []
  | _=>.undef
 | _=>.undef
def yq(ob:Nat->Option Ob):AV->AV
 | .d t x=>.d t x
 | .fptr t x=>.fptr t x
 | .ptr t id p=>oO ob (.ptr t id p)
 | .clo f l=>if(l.map (oO ob)).all eP then .clo f (l.map (oO ob)) else .undef
 | _=>.undef
def jd:List (Nat×AV)->(Nat->AV)->Nat->AV
 | [],f=>f
 | (p,a)::l,f=>jd l fun t=>if t=p then a else f t
def yI(s:St)(i:LpI)(id:Nat)(avs:List AV):St:=
 { tm:=jd (i.ps.zip avs) fun t=>if t<i.nt then yq s.ob (i.caps t) else .undef,ob:=s.ob,fresh:=s.fresh+1,dead:=cR s++s.dead,nt:=i.nt,lkS:=[],lkO:=id::s.lkO }
def Hq(s:St)(c:Call):Option (Nat×LpI×List AV):=match c.callee with
 | .value (.tmp t)=>match s.tm t with
  | .yld id=>match s.ob id with
   | some (.lp i none)=>some (id,i,c.args.toList.map s.opA)
   | _=>none
  | _=>none
 | _=>none
def leaveY(s:St)(id:Nat)(i:LpI)(p:Option Ex):St:={ s with tm:=fun _=>.undef,ob:=fun j=>if j=id then some (.lp i p) else s.ob j }
def OQ{R:Type}(E:Env)(an:Ann)(s:St)(id:Nat)(i:LpI)(avs:List AV)(K:AV->St->Option R):Option R:=
 if avs.length=i.ps.length/\(i.ps.all fun p=>decide (p<i.nt))=true/\(cR s).length<=4096 then
  E.cod i.asg an.fst R (yI s i id avs) fun e s1=>match e with
   | .normal=>match s1.ob id with
    | some (.lp _ none)=>E.cod i.bdy an.snd R (s1.setOb id none) fun e s2=>match e with
     | .normal=>K (.d .bool (.bool true)) (lL s (leaveY s2 id i none))
     | e=>K (.d .bool (.bool false)) (lL s (leaveY s2 id i (some e)))
    | _=>none
   | _=>none
 else none
def OP{R:Type}(E:Env)(f:Operand)(ps:Array Tmp)(asg bdy:Code)(an:Ann)(s:St)(k:Ex->St->Option R):Option R:=
 match f with
 | .tmp t=>match s.tm t with
  | .clo g l=>if l.all eP&&!(s.lkO.contains 4095) then(E.inl g).bind fun G=>
    G an R ({ s with fresh:=s.fresh+1 }.setOb ((s.fresh+1)*4096) (some (.lp { nt:=s.nt,ps:=ps.toList,asg:=asg,bdy:=bdy,caps:=fun j=>zb s.ob (s.tm j) } none))) (.yld ((s.fresh+1)*4096)::l) fun _ s2=>
     match s2.ob ((s.fresh+1)*4096) with
     | some (.lp _ none)=>k .normal (s2.setOb ((s.fresh+1)*4096) none)
     | some (.lp _ (some e))=>k e (s2.setOb ((s.fresh+1)*4096) none)
     | _=>none
   else none
  | _=>none
 | _=>none
def J4{R:Type}(E:Env)(an:Ann)(s:St)(o:Oper)(K:AV->St->Option R):Option R:=match o.op with
 | .call c=>match Hq s c with
  | some q=>OQ E an s q.1 q.2.1 q.2.2 K
  | none=>(nw s c).bind fun q=>(E.inl q.1).bind fun g=>g an R s q.2 K
 | _=>none
def o9(E:Env)(o:Oper)(an:Ann):Ann:=if iu E o then an.snd else an
def tY(o:Oper):Bool:=match o.op with|.alloc _=>false|_=>true
def tj(s:St):St:={ s with fresh:=s.fresh+1 }
def xb{R:Type}(E:Env)(an:Ann)(l:List (Nat×Oper))(s:St)(o:Oper)(K:St->Option R):Option R:=
 if iu E o then(if l.all fun p=>!(tz p.2) then J4 E an.fst s o fun v s'=>K (s'.put o.dst v) else if l.all fun p=>tY p.2 then J4 E an.fst s o fun v s'=>K (tj (s'.put o.dst v)) else none) else og E s o K
def j4(E:Env)(s:St)(i:Nat)(o:Oper)(l:List (Nat×Oper)):Bool:=
 nQ i l&&(match (cS o.dst l).2,o.dst with
  | (_,pk)::_,some d=>decide (d<s.nt)&&pk.guard.isNone&&dV o&&!(iu E o)&&(cS o.dst l).1.all (fun(p:Nat×Oper)=>(dV p.2&&!(ij s p.2)&&!(iu E p.2)))&&!(ij s pk)
  | _,_=>false)
def dD(E:Env):Nat->(R:Type)->(ops:Array Oper)->Ann->List (Nat×Oper)->St->(St->Option R)->Option R
 | 0,_,_,_,_,_,_=>none
 | _+1,_,_,_,[],s,k=>k s
 | n+1,R,ops,an,(i,o)::l,s,k=>
  match o.guard with
  | some (j,want)=>match (ops[j]?).bind (·.dst) with
   | some g=>if ij s o then none else tL (s.tm g) (dD E n R ops (o9 E o an) l (s.put o.dst .gone) k)
    ((s.tm g).truth.bind fun c=>
    if c then(if want then xb E an l (s.put (some g) (.d .bool (.bool true))) o fun s'=>dD E n R ops (o9 E o an) l s' k else dD E n R ops (o9 E o an) l ((s.put (some g) (.d .bool (.bool true))).put o.dst .gone) k)
    else(if want then dD E n R ops (o9 E o an) l ((s.put (some g) (.d .bool (.bool false))).put o.dst .gone) k else xb E an l (s.put (some g) (.d .bool (.bool false))) o fun s'=>dD E n R ops (o9 E o an) l s' k))
   | none=>none
  | none=>
   if j4 E s i o l then
    let sp:=cS o.dst l
    match sp.2,o.dst with
    | (_,pk)::l',some d=>
      GS E s o fun s1=>(s1.tm d).truth.bind fun c=>
      (if c then dD E n Bool ops .leaf sp.1 (s1.put (some d) (.d .bool (.bool true))) fun s2=>qv E s2 pk AV.truth
       else dD E n Bool ops .leaf sp.1 (s1.put (some d) (.d .bool (.bool false))) fun s2=>qv E s2 pk AV.truth).bind fun x=>
      dD E n R ops an l' ((killD s1 (sp.1.map Prod.snd)).put pk.dst (.d .bool (.bool x))) k
    | _,_=>none
   else if ij s o then none else xb E an l s o fun s'=>dD E n R ops (o9 E o an) l s' k
def aJ:Nat->List Oper->List (Nat×Oper)
 | _,[]=>[]
 | i,o::l=>(i,o)::aJ (i+1) l
def eO(s:St):List Nat->St
 | []=>s
 | t::l=>eO (match s.tm t with
  | .mem t' id=>match s.ob id with
   | some (.many u l)=>if t'.beq u&&!(s.lkO.contains id) then{ s.setOb id none with tm:=fun i=>if i=t then .d (.sl u) (.sl l) else s.tm i } else s
   | _=>s
  | _=>s) l
def bM:List (Nat×ShO)->List Nat
 | []=>[]
 | (id,.keep ..)::l=>id::bM l
 | (id,.lp ..)::l=>id::bM l
 | _::l=>bM l
mutual
def AV.same:AV->AV->Bool
 | .ptr t id p,.ptr t' id' p'=>t.beq t'&&decide (id=id')&&decide (p=p')
 | .mem t id,.mem t' id'=>t.beq t'&&decide (id=id')
 | .map kt vt id,.map kt' vt' id'=>kt.beq kt'&&vt.beq vt'&&decide (id=id')
 | .clo f l,.clo f' l'=>decide (f=f')&&AV.sames l l'
 | .yld id,.yld id'=>decide (id=id')
 | _,_=>false
def AV.sames:List AV->List AV->Bool
 | [],[]=>true
 | a::l,a'::l'=>AV.same a a'&&AV.sames l l'
 | _,_=>false
end
def D.els:D->List D|.sl l=>l|_=>[]
mutual
def Sh.mk(b:Nat):Sh->Nat->List D->AV×Nat
 | .dv t,j,s=>(.d t (s.getD j (.bool false)),j+1)
 | .ow t,j,s=>(.own t (b+j) (s.getD j (.bool false)).els,j+1)
 | .same a,j,_=>(a,j)
 | .st ts l,j,s=>let r:=Sh.mks b l j s;(.st ts r.1,r.2)
def Sh.mks(b:Nat):List Sh->Nat->List D->List AV×Nat
 | [],j,_=>([],j)
 | h::l,j,s=>let r:=Sh.mk b h j s;let q:=Sh.mks b l r.2 s;(r.1::q.1,q.2)
end
mutual
def Sh.dec(ob:Nat->Option Ob)(dead:List Nat):Sh->AV->Option (List D)
 | .dv t,a=>(AV.toD ob t a).bind fun x=>some [x]
 | .ow t,.own t' v l=>if t.beq t'&&!(dead.contains v) then some [.sl l] else none
 | .ow _,.nils=>some [.sl []]
 | .same a,a'=>if AV.same a a' then some [] else none
 | .st ts l,.st ts' l'=>if Ty.beqs ts ts' then Sh.decs ob dead l l' else none
 | _,_=>none
def Sh.decs(ob:Nat->Option Ob)(dead:List Nat):List Sh->List AV->Option (List D)
 | [],[]=>some []
 | h::l,a::l'=>(Sh.dec ob dead h a).bind fun x=>(Sh.decs ob dead l l').bind fun y=>some (x++y)
 | _,_=>none
end
def AV.still:AV->AV
 | .d t x=>.d t x
 | .own t _ l=>.d (.sl t) (.sl l)
 | .fptr t x=>.fptr t x
 | _=>.undef
def Ob.still(t:Ty):Option Ob->Option Ob
 | some (.one t' (.d u x))=>if t.beq t' then some (.one t' (.d u x)) else none
 | _=>none
def Ob.lpOf(p:Option Ex):Option Ob->Option Ob
 | some (.lp i _)=>some (.lp i p)
 | _=>none
mutual
def Sh.toks:Sh->AV->List Nat
 | .ow _,.own _ v _=>[v]
 | .st _ l,.st _ l'=>Sh.tokss l l'
 | _,_=>[]
def Sh.tokss:List Sh->List AV->List Nat
 | h::l,a::l'=>Sh.toks h a++Sh.tokss l l'
 | _,_=>[]
end
def Shape.mkS(b:Nat):List (Nat×Sh)->Nat->List D->(Nat->AV)->(Nat->AV)×Nat
 | [],j,_,f=>(f,j)
 | (t,h)::l,j,s,f=>let r:=Sh.mk b h j s;Shape.mkS b l r.2 s (fun i=>if i=t then r.1 else f i)
def Shape.mkO(b:Nat)(base:Nat->Option Ob):List (Nat×ShO)->Nat->List D->(Nat->Option Ob)->(Nat->Option Ob)
 | [],_,_,f=>f
 | (id,.one t h)::l,j,s,f=>let r:=Sh.mk b h j s;Shape.mkO b base l r.2 s (fun i=>if i=id then some (.one t r.1) else f i)
 | (id,.many t)::l,j,s,f=>Shape.mkO b base l (j+1) s (fun i=>if i=id then some (.many t (s.getD j (.bool false)).els) else f i)
 | (id,.mp kt vt)::l,j,s,f=>Shape.mkO b base l (j+1) s (fun i=>if i=id then some (.mp kt vt (s.getD j (.bool false)).els) else f i)
 | (id,.keep t _)::l,j,s,f=>Shape.mkO b base l j s (fun i=>if i=id then Ob.still t (base id) else f i)
 | (id,.lp p _)::l,j,s,f=>Shape.mkO b base l j s (fun i=>if i=id then Ob.lpOf p (base id) else f i)
def Shape.mk'(h:Shape)(base:St)(s:List D)(lkS lkO:List Nat):St:=
 let b:=(base.fresh+1)*4096
 let r:=Shape.mkS b h.slots 0 s (fun i=>if h.keepS.contains i then(base.tm i).still else .undef)
 { tm:=r.1,ob:=Shape.mkO b base.ob h.objs r.2 s (fun _=>none),fresh:=base.fresh+1,dead:=[],nt:=base.nt,lkS,lkO }
def Shape.decS(s:St):List (Nat×Sh)->Option (List D)
 | []=>some []
 | (t,h)::l=>(Sh.dec s.ob s.dead h (s.tm t)).bind fun x=>(Shape.decS s l).bind fun y=>some (x++y)
def Shape.decO(s:St):List (Nat×ShO)->Option (List D)
 | []=>some []
 | (id,.one t h)::l=>match s.ob id with
  | some (.one t' v)=>if t.beq t' then(Sh.dec s.ob s.dead h v).bind fun x=>(Shape.decO s l).bind fun y=>some (x++y) else none
  | _=>none
 | (id,.many t)::l=>match s.ob id with
  | some (.many t' v)=>if t.beq t' then(Shape.decO s l).bind fun y=>some (.sl v::y) else none
  | _=>none
 | (id,.mp kt vt)::l=>match s.ob id with
  | some (.mp kt' vt' v)=>if kt.beq kt'&&vt.beq vt' then(Shape.decO s l).bind fun y=>some (.sl v::y) else none
  | _=>none
 | (id,.keep t _)::l=>match s.ob id with
  | some (.one t' _)=>if t.beq t' then Shape.decO s l else none
  | _=>none
 | (id,.lp p _)::l=>match s.ob id with
  | some (.lp _ p')=>if xx p p' then Shape.decO s l else none
  | _=>none
def Shape.toksS(s:St):List (Nat×Sh)->List Nat
 | []=>[]
 | (t,h)::l=>Sh.toks h (s.tm t)++Shape.toksS s l
def Shape.toksO(s:St):List (Nat×ShO)->List Nat
 | []=>[]
 | (id,.one _ h)::l=>(match s.ob id with|some (.one _ v)=>Sh.toks h v|_=>[])++Shape.toksO s l
 | _::l=>Shape.toksO s l
mutual
def AV.old(n:Nat):AV->Bool
 | .ptr _ id _=>decide (id<n)
 | .mem _ id=>decide (id<n)
 | .map _ _ id=>decide (id<n)
 | .clo _ l=>AV.olds n l
 | .yld id=>decide (id<n)
 | _=>false
def AV.olds(n:Nat):List AV->Bool
 | []=>true
 | a::l=>AV.old n a&&AV.olds n l
end
mutual
def Sh.cnt:Sh->Nat
 | .dv _=>1
 | .ow _=>1
 | .same _=>0
 | .st _ l=>Sh.cnts l
def Sh.cnts:List Sh->Nat
 | []=>0
 | h::l=>Sh.cnt h+Sh.cnts l
end
mutual
def Sh.fits:Ty->Sh->Bool
 | t,.dv t'=>t.beq t'
 | t,.ow e=>t.beq (.sl e)
 | _,.same _=>false
 | t,.st ts l=>t.beq (.st ts)&&Sh.fitss ts l
def Sh.fitss:List Ty->List Sh->Bool
 | [],[]=>true
 | t::ts,h::l=>Sh.fits t h&&Sh.fitss ts l
 | _,_=>false
end
mutual
def Sh.fine(n:Nat):Sh->Bool
 | .dv t=>am t
 | .ow t=>am t
 | .same a=>AV.old n a
 | .st ts l=>aY ts&&Sh.fitss ts l&&Sh.fines n l
def Sh.fines(n:Nat):List Sh->Bool
 | []=>true
 | h::l=>Sh.fine n h&&Sh.fines n l
end
def ShO.cnt:ShO->Nat
 | .one _ h=>h.cnt
 | .many _=>1
 | .mp ..=>1
 | .keep ..=>0
 | .lp ..=>0
def ShO.fine(n:Nat)(base:St)(id:Nat):ShO->Bool
 | .one t h=>Sh.fine n h&&Sh.fits t h
 | .many _=>true
 | .mp ..=>true
 | .keep _ wit=>match base.tm wit with|.ptr _ id' _=>decide (id=id')&&decide (wit<base.nt)|_=>false
 | .lp _ wit=>match base.tm wit with|.yld id'=>decide (id=id')&&decide (wit<base.nt)|_=>false
def Shape.cntS:List (Nat×Sh)->Nat
 | []=>0
 | p::l=>p.2.cnt+Shape.cntS l
def Shape.cntO:List (Nat×ShO)->Nat
 | []=>0
 | p::l=>p.2.cnt+Shape.cntO l
def Shape.good(h:Shape)(base:St):Bool:=
 cK (h.slots.map (·.1))&&cK (h.objs.map (·.1))&&(h.objs.all fun p=>decide (p.1<(base.fresh+1)*4096)&&ShO.fine ((base.fresh+1)*4096) base p.1 p.2)&&h.slots.all (fun p=>decide (p.1<base.nt)&&Sh.fine ((base.fresh+1)*4096) p.2)&&decide (Shape.cntS h.slots+Shape.cntO h.objs<=4096)
def Shape.dec(h:Shape)(base s:St):Option (List D):=
 if h.good base&&cK (Shape.toksS s h.slots++Shape.toksO s h.objs) then(Shape.decS s h.slots).bind fun x=>(Shape.decO s h.objs).bind fun y=>some (x++y) else none
def mo{α β:Type}(body:α->Option (Sum α β))(n:Nat):α->Option β:=
 Nat.rec (motive:=fun _=>α->Option β) (fun _=>none) (fun _ ih a=>match body a with
  | none=>none
  | some (.inl a')=>ih a'
  | some (.inr b)=>some b) n
theorem nB{α β:Type}(body:α->Option (Sum α β))(a:α):mo body 0 a=none:=rfl
theorem iw{α β:Type}(body:α->Option (Sum α β))(n:Nat)(a:α):mo body (n+1) a=match body a with
  | none=>none
  | some (.inl a')=>mo body n a'
  | some (.inr b)=>some b:=rfl
theorem nA{α β:Type}{body:α->Option (Sum α β)}:∀ {n:Nat} {a:α} {b:β} (m:Nat),mo body n a=some b->mo body (n+m) a=some b
 | 0,_,_,_,h=>by simp[nB] at h
 | n+1,a,b,m,h=>by
  rw[show n+1+m=(n+m)+1 by omega]
  simp only[iw] at h ⊢
  cases hb:body a with
  | none=>rw[hb] at h;simp at h
  | some x=>cases x with
   | inl a'=>rw[hb] at h;exact nA m h
   | inr b'=>rw[hb] at h;exact h
open Classical in
def jQ{α β:Type}(body:α->Option (Sum α β))(a:α):Option β:=
 if h:∃ n b,mo body n a=some b then some (Classical.choose (Classical.choose_spec h)) else none
theorem li{α β:Type}{body:α->Option (Sum α β)}{a:α}{b:β}(h:jQ body a=some b):∃ n,mo body n a=some b:=by
 unfold jQ at h
 split at h
 ·rename_i hh
  exact⟨_,by rw[<-Option.some.inj h];exact Classical.choose_spec (Classical.choose_spec hh)⟩
 ·cases h
theorem ig{α β:Type}{body:α->Option (Sum α β)}{a:α}{b:β}{n:Nat}(h:mo body n a=some b):jQ body a=some b:=by
 have hh:∃ n b,mo body n a=some b:=⟨n,b,h⟩
 unfold jQ
 rw[dif_pos hh]
 have h2:=Classical.choose_spec (Classical.choose_spec hh)
 have h3:=nA (Classical.choose hh) h
 have h4:=nA n h2
 rw[Nat.add_comm] at h4
 rw[h3] at h4
 exact h4.symm
theorem cJ{α β:Type}{body:α->Option (Sum α β)}{a a':α}(h:body a=some (.inl a')):jQ body a=jQ body a':=by
 cases h2:jQ body a' with
 | some b=>
  obtain⟨n,hn⟩:=li h2
  exact ig (n:=n+1) (by simp only[iw,h];exact hn)
 | none=>
  cases h3:jQ body a with
  | none=>rfl
  | some b=>
   obtain⟨n,hn⟩:=li h3
   cases n with
   | zero=>simp[nB] at hn
   | succ n=>
    simp only[iw,h] at hn
    rw[ig hn] at h2
    cases h2
theorem cl{α β:Type}{body:α->Option (Sum α β)}{a:α}{b:β}(h:body a=some (.inr b)):jQ body a=some b:=
 ig (n:=1) (by simp only[iw,h])
def pR(e:Ex):List (Ex×Shape)->Nat->Option (Nat×Shape)
 | [],_=>none
 | (e',h)::l,j=>if e.is e' then some (j,h) else pR e l (j+1)
def subset(l l':List Nat):Bool:=l.all fun x=>l'.contains x
def kY{R:Type}(base:St)(k:Ex->St->Option R)(keepS keepO:List Nat):List (Ex×Shape)->Nat->Nat×List D->Option R
 | [],_,_=>none
 | [(e,h)],_,r=>if subset h.keepS keepS&&subset (bM h.objs) keepO then k e (h.mk' base r.2 base.lkS base.lkO) else none
 | (e,h)::l,j,r=>if subset h.keepS keepS&&subset (bM h.objs) keepO then(if r.1=j then k e (h.mk' base r.2 base.lkS base.lkO) else kY base k keepS keepO l (j+1) r) else none
def Ax(base:St)(exits:List (Ex×Shape))(e:Ex)(s:St):Option (Nat×List D):=(pR e exits 0).bind fun q=>(q.2.dec base s).bind fun v=>some (q.1,v)
def bz(ops:List Oper):Bool:=cK (ops.filterMap (·.dst))&&(ops.all fun o=>match o.dst with|some d=>decide (d<4096)|none=>true)&&ops.all fun o=>match o.op with|.store ..=>o.dst.isNone|_=>true
def ni(E:Env)(ops:Array Oper)(n:Nat):Bool:=
 ((ops.toList.take n).all fun o=>!(iu E o))&&Region.noSelect ops&&Region.lexHead .any ops (ops.size-n) n 0 (Array.replicate ops.size false)&&(decide (n=ops.size)||(decide (n<ops.size)&&Region.sinkB .any ops n&&Region.chainB .any ops n)) &&
 ((ops.toList.take n).all fun o=>dV o||(match o.op with|.alloc _=>true|_=>false))&&(ops.toList.drop n).all fun o=>o.guard.isNone&&(match o.op with|.pick ..=>false|_=>true)
def p9(o:Oper):Bool:=match o.op with|.fieldAddr ..=>true|.load ..=>true|.build ..=>true|.alloc _=>true|.extract ..=>true|.move _=>true|_=>false
def qb{R:Type}(E:Env)(ops:Array Oper)(n id i:Nat)(s:St)(K:AV->Option R):Option R:=
 match ops[i]? with
 | none=>none
 | some o=>if ij s o then none else if Region.waitsFor .any ops n i then qv E s o K else if p9 o then qv E (s.setOb id none) o K else none
def GV{R:Type}(E:Env)(ops:Array Oper)(n id:Nat):Nat->Nat->St->(St->Option R)->Option R
 | 0,_,s,K=>K s
 | c+1,k,s,K=>qb E ops n id k s fun v=>GV E ops n id c (k+1) (s.put ((ops[k]?).bind (·.dst)) v) K
def qa(ops:Array Oper)(n:Nat):Bool:=
 match ops[n]? with
 | some o=>match o.op with
  | .store _ (.tmp p) (.tmp x)=>((List.range ops.size).all fun j=>match (ops[j]?).bind (·.dst) with|some d=>!(decide (d=p)||decide (d=x))||Region.waitsFor .any ops n j|none=>true) &&
    ((ops.toList.take n).all fun o=>(dV o||(match o.op with|.alloc _=>true|_=>false))&&o.guard.isNone)&&((ops.toList.drop n).all fun o=>o.guard.isNone&&(match o.op with|.pick ..=>false|_=>true)) &&
    Region.noSelect ops&&Region.lexHead .any ops (ops.size-(n+1)) (n+1) 0 (Array.replicate ops.size false)&&(decide (n+1=ops.size)||(decide (n+1<ops.size)&&Region.sinkB .any ops (n+1)&&Region.chainB .any ops (n+1)))
  | _=>false
 | none=>false
def iZ(ops:Array Oper)(n:Nat)(s:St):Nat:=match ops[n]? with
 | some o=>match o.op with
  | .store _ (.tmp p) _=>if ops.toList.any (fun q=>match q.op,q.dst with|.alloc _,some d=>decide (d=p)|_,_=>false) then s.base+p else match s.tm p with
   | .ptr _ id _=>id
   | _=>0
  | _=>0
 | none=>0
def p8(ops:Array Oper)(n:Nat)(s:St):Option Nat:=match ops[n]? with
 | some o=>match o.op with
  | .store _ (.tmp p) _=>match s.tm p with
   | .ptr _ id []=>some id
   | _=>none
  | _=>none
 | none=>none
def uN{R:Type}(E:Env)(s:St)(o:Oper)(K:AV×List Nat->Option R):Option R:=match o.op with
 | .call c=>match c.callee with
  | .builtin .append=>(c.argTypes[0]?).bind fun T=>(E.L T).bind fun t=>o.dst.bind fun d=>match t,c.args.toList,c.argTypes.toList with
   | .sl e,[x,y],[_,T']=>match E.L T' with
    | some (.sl _)=>((s.opA y).asList s.ob e).bind fun l'=>match s.opA x with
     | .own e' v l=>if e'.beq e&&!(s.dead.contains v) then(if l.length+l'.length<=1073741824 then K (.own e (s.base+d) (l++l'),v::s.dead) else none) else none
     | .nils=>if l'.length<=1073741824 then K (.own e (s.base+d) l',s.dead) else none
     | _=>none
    | _=>none
   | _,_,_=>none
  | _=>none
 | _=>none
def lK(E:Env)(s:St)(o:Oper):Option (AV×List Nat):=uN E s o some
def jS(s:St)(p:Nat):List Nat:=match s.tm p with
 | .own _ v _=>v::s.dead
 | _=>s.dead
def FV{R:Type}(E:Env)(ops:Array Oper)(m:Nat):Nat->Nat->St->(St->Option R)->Option R
 | 0,_,s,K=>K s
 | c+1,k,s,K=>match ops[k]? with
  | none=>none
  | some o=>if ij s o then none else if k=m then uN E s o fun v=>FV E ops m c (k+1) (s.put o.dst v.1) K else qv E s o fun v=>FV E ops m c (k+1) (s.put o.dst v) K
def E7(o:Oper):Bool:=match o.op with
 | .call c=>match c.callee with|.builtin .append=>true|_=>false
 | _=>false
def lJ(ops:Array Oper):Nat:=ops.toList.findIdx E7
def zk(ops:Array Oper)(m:Nat):Nat:=match ops[m]? with
 | some o=>match o.op with
  | .call c=>match c.args.toList with|[.tmp p,_]=>p|_=>0
  | _=>0
 | none=>0
def uO(E:Env)(ops:Array Oper)(n m:Nat):Bool:=
 match ops[m]? with
 | some o=>match o.op with
  | .call c=>match c.callee,c.args.toList with
   | .builtin .append,[.tmp p,_]=>decide (m<n)&&((List.range ops.size).all fun j=>match (ops[j]?).bind (·.dst) with|some d=>!(decide (d=p))||Region.waitsFor .any ops m j|none=>true) &&
     ((List.range n).all fun j=>match ops[j]? with|some o=>(decide (j=m)||(dV o||(match o.op with|.alloc _=>true|_=>false)))&&o.guard.isNone&&!(iu E o)|none=>false) &&
     ((ops.toList.drop n).all fun o=>o.guard.isNone&&(match o.op with|.pick ..=>false|_=>true)) &&
     Region.noSelect ops&&Region.lexHead .any ops (ops.size-n) n 0 (Array.replicate ops.size false)&&(decide (n=ops.size)||(decide (n<ops.size)&&Region.sinkB .any ops n&&Region.chainB .any ops n))
   | _,_=>false
  | _=>false
 | none=>false
def io(E:Env)(o:Oper):Bool:=(dV o||(match o.op with|.alloc _=>true|_=>false))&&!(iu E o)
def qU(ops:Array Oper):Nat->List Nat
 | 0=>[]
 | n+1=>let l:=qU ops n;l++[match ops[n]? with
  | some o=>o.after.toList.foldl (fun m e=>if Region.binds .any e&&decide (e.on<n) then(m ||| 2^e.on) ||| l.getD e.on 0 else m) 0
  | none=>0]
def jZ(E:Env)(ops:Array Oper)(i:Nat)(o:Oper):Nat->Nat->Bool
 | 0,_=>true
 | f+1,j=>match ops[j]? with
  | none=>true
  | some oj=>if io E oj then(oj.after.any (fun e=>Region.binds .any e&&e.on==i)||o.apart ops oj)&&jZ E ops i o f (j+1) else true
def fT(E:Env)(ops:Array Oper):Bool:=
 let l:=qU ops ops.size
 (List.range ops.size).all fun i=>match ops[i]? with
  | none=>true
  | some o=>(o.after.toList.all fun e=>!(Region.binds .any e)||decide (e.on<i)) &&
   (if io E o then jZ E ops i o ops.size (i+1) else(List.range ops.size).all fun j=>if j<i then Nat.testBit (l.getD i 0) j else decide (j=i)||Nat.testBit (l.getD j 0) i)
def ev(E:Env):Code->Ann->(R:Type)->St->(Ex->St->Option R)->Option R
 | .skip,_,_,s,k=>k .normal s
 | .label _,_,_,s,k=>k .normal s
 | .exit id,_,_,s,k=>k (.exit id) s
 | .ret,_,_,s,k=>k .ret s
 | .region _ ops dr,a,R,s,k=>
  let s1:=fZ E ops.toList { eO s a.fz with fresh:=s.fresh+1 }
  if bz ops.toList&&(!dr||ni E ops (a.heads ops.size)) then dD E (ops.size+1) R ops a.inner (aJ 0 ops.toList) s1 (fun s'=>k .normal s')
  else if bz ops.toList&&qa ops (a.heads ops.size) then GV E ops (a.heads ops.size) (iZ ops (a.heads ops.size) s1) (a.heads ops.size) 0 s1 fun s2=>if p8 ops (a.heads ops.size) s2=some (iZ ops (a.heads ops.size) s1) then dD E (ops.size+1) R ops a.inner ((aJ 0 ops.toList).drop (a.heads ops.size)) s2 (fun s'=>k .normal s') else none
  else if bz ops.toList&&(dr&&uO E ops (a.heads ops.size) (lJ ops)) then FV E ops (lJ ops) (a.heads ops.size) 0 s1 fun s2=>dD E (ops.size+1) R ops a.inner ((aJ 0 ops.toList).drop (a.heads ops.size)) { s2 with dead:=jS s2 (zk ops (lJ ops)) } (fun s'=>k .normal s')
  else if bz ops.toList&&(dr&&fT E ops) then dD E (ops.size+1) R ops a.inner (aJ 0 ops.toList) s1 (fun s'=>k .normal s')
  else none
 | .seq c d,.cut exits kS kO a b,R,s,k=>
  (ev E c a (Nat×List D) { s with lkS:=kS++s.lkS,lkO:=kO++s.lkO } (Ax s exits)).bind fun r=>
   kY s (fun e s'=>match e with|.normal=>ev E d b R s' k|e=>k e s') kS kO exits 0 r
 | .seq c d,a,R,s,k=>ev E c a.fst R s fun e s'=>match e with
  | .normal=>ev E d a.snd R s' k
  | e=>k e s'
 | .cond c x y,a,R,s,k=>(s.opA c).truth.bind fun t=>if t then ev E x a.fst R s k else ev E y a.snd R s k
 | .block id c,a,R,s,k=>ev E c a.fst R s fun e s'=>match e with
  | .exit j=>if j=id then k .normal s' else k (.exit j) s'
  | e=>k e s'
 | .scope c,a,R,s,k=>ev E c a R s k
 | .rangeFunc f ps asg bdy,a,_,s,k=>OP E f ps asg bdy a s k
 | .loop c,.loop h exits a,R,s,k=>
  (h.dec s s).bind fun v0=>(E.lp (fun v=>ev E c a (Sum (List D) (Nat×List D)) (h.mk' s v (h.keepS++s.lkS) (bM h.objs++s.lkO)) fun e s'=>match e with
    | .normal=>(h.dec s s').bind fun v'=>some (.inl v')
    | e=>(Ax s exits e s').bind fun r=>some (.inr r)) v0).bind fun r=>
   kY s k h.keepS (bM h.objs) exits 0 r
 | _,_,_,_,_=>none
def jM(tys:List Ty)(args:List D)(i:Nat):AV:=
 match tys[i]?,args[i]? with
 | some t,some x=>.d t x
 | _,_=>.undef
def Cc{R:Type}(E:Env)(s:St)(t:Ty)(k:D->Option R):ResultVar->Option R
 | .tmp i=>(AV.toD s.ob t (s.tm i)).bind k
 | .cell i T=>(E.L T).bind fun u=>match s.tm i with
  | .ptr t' id p=>if u.beq t' then(s.ob id).bind fun o=>gC o p fun a=>(AV.toD s.ob t a).bind k else none
  | _=>none
def qB{R:Type}(E:Env)(s:St):List Ty->List ResultVar->(List D->Option R)->Option R
 | [],[],k=>k []
 | t::ts,r::rs,k=>Cc E s t (fun x=>qB E s ts rs fun xs=>k (x::xs)) r
 | _,_,_=>none
def results(E:Env)(s:St)(rty:Ty)(rs:List ResultVar):Option D:=
 match rs with
 | [r]=>Cc E s rty some r
 | rs=>match rty with
  | .tup ts=>qB E s ts rs fun xs=>some (.tup xs)
  | _=>none
def OO(E:Env)(fn:Func)(ann:Ann)(tys:List Ty)(rty:Ty)(args:List D):Option D:=
 match fn.body with
 | none=>none
 | some c=>ev E c ann D { tm:=jM tys args,ob:=fun _=>none,fresh:=0,dead:=[],nt:=fn.ntmps,lkS:=[],lkO:=[] } fun e s=>match e with
  | .exit _=>none
  | _=>results E s rty fn.results.toList
end Sy
end
noncomputable section
namespace Sy
open Go
mutual
theorem bT:∀ (t:Ty) (x:D),wt t x->am t=true->x.flat.length=t.size
 | .int k,x,h,_=>by simp only[wt] at h;obtain⟨n,rfl⟩:=h;rfl
 | .bool,x,h,_=>by simp only[wt] at h;obtain⟨n,rfl⟩:=h;rfl
 | .str,x,h,_=>by simp only[wt] at h;obtain⟨n,rfl⟩:=h;rfl
 | .st ts,x,h,hn=>by
  simp only[wt] at h
  obtain⟨l,rfl,h⟩:=h
  simp only[D.flat,Ty.size]
  exact mM ts l h (by simpa [am] using hn)
 | .arr n t,x,h,hn=>by
  simp only[wt] at h
  obtain⟨l,rfl,rfl,h⟩:=h
  simp only[D.flat,Ty.size]
  simp only[am] at hn
  induction l with
  | nil=>simp[D.flats]
  | cons y l ih=>
   simp only[D.flats,List.length_append,List.length_cons]
   rw[bT t y (h y (by simp)) hn,ih (fun x hx=>h x (by simp[hx]))]
   rw[Nat.add_mul,Nat.one_mul,Nat.add_comm]
 | .sl t,x,h,_=>by simp only[wt] at h;obtain⟨l,rfl,_⟩:=h;rfl
 | .tup ts,_,_,h=>by simp[am] at h
 | .fn,x,h,_=>by simp[wt] at h
theorem mM:∀ (ts:List Ty) (l:List D),dU ts l->aY ts=true->(D.flats l).length=Ty.sizes ts
 | [],l,h,_=>by simp only[dU] at h;subst h;rfl
 | t::ts,l,h,hn=>by
  simp only[dU] at h
  obtain⟨d,l',rfl,h1,h2⟩:=h
  simp only[aY,Bool.and_eq_true] at hn
  simp only[D.flats,Ty.sizes,List.length_append]
  rw[bT t d h1 hn.1,mM ts l' h2 hn.2]
end
theorem bF(a b:List D):D.flats (a++b)=D.flats a++D.flats b:=by
 induction a with
 | nil=>rfl
 | cons x a ih=>simp only[List.cons_append,D.flats,ih,List.append_assoc]
theorem aA{t:Ty}(hn:am t=true):∀ (l:List D),(∀ x∈l,wt t x)->(D.flats l).length=l.length*t.size
 | [],_=>by simp[D.flats]
 | y::l,h=>by
  simp only[D.flats,List.length_append,List.length_cons]
  rw[bT t y (h y (by simp)) hn,aA hn l (fun x hx=>h x (by simp[hx])),Nat.add_mul,Nat.one_mul,Nat.add_comm]
theorem bK{l:List D}{i:Nat}{y:D}(h:l[i]?=some y):D.flats l=D.flats (l.take i)++(y.flat++D.flats (l.drop (i+1))):=by
 obtain⟨hi,hy⟩:=List.getElem?_eq_some_iff.1 h
 conv=>lhs;rw[<-List.take_append_drop i l,bF]
 rw[List.drop_eq_getElem_cons hi,hy]
 rfl
theorem kj{l:List D}{i:Nat}{y z:D}(h:l[i]?=some y):D.flats (l.set i z)=D.flats (l.take i)++(z.flat++D.flats (l.drop (i+1))):=by
 obtain⟨hi,hy⟩:=List.getElem?_eq_some_iff.1 h
 have h2:(l.set i z)[i]?=some z:=by simp[hi]
 rw[bK h2,List.take_set_of_le (Nat.le_refl i),List.drop_set_of_lt (Nat.lt_succ_self i)]
theorem ga:∀ {ts:List Ty} {l:List D} {i:Nat} {t:Ty},dU ts l->ts[i]?=some t->∃ y,l[i]?=some y/\wt t y
 | [],_,_,_,_,h=>by simp at h
 | u::ts,l,i,t,h,hi=>by
  simp only[dU] at h
  obtain⟨d,l',rfl,h1,h2⟩:=h
  cases i with
  | zero=>simp at hi;subst hi;exact⟨d,rfl,h1⟩
  | succ i=>simp at hi;obtain⟨y,h3,h4⟩:=ga h2 hi;exact⟨y,by simpa using h3,h4⟩
theorem jn:∀ {ts:List Ty} {l:List D},dU ts l->l.length=ts.length
 | [],l,h=>by simp only[dU] at h;subst h;rfl
 | t::ts,l,h=>by
  simp only[dU] at h
  obtain⟨d,l',rfl,h1,h2⟩:=h
  simp[jn h2]
theorem uF:∀ {ts:List Ty} {l:List D} {i:Nat} {t:Ty} {z:D},dU ts l->ts[i]?=some t->wt t z->dU ts (l.set i z)
 | [],_,_,_,_,_,h,_=>by simp at h
 | u::ts,l,i,t,z,h,hi,hz=>by
  simp only[dU] at h
  obtain⟨d,l',rfl,h1,h2⟩:=h
  cases i with
  | zero=>simp at hi;subst hi;simp only[List.set_cons_zero,dU];exact⟨z,l',rfl,hz,h2⟩
  | succ i=>simp at hi;simp only[List.set_cons_succ,dU];exact⟨d,_,rfl,h1,uF h2 hi hz⟩
theorem mN:∀ {ts:List Ty} {l:List D} (i:Nat),dU ts l->dU (ts.take i) (l.take i)
 | ts,l,0,_=>by simp[dU]
 | [],l,i+1,h=>by simp only[dU] at h;subst h;simp[dU]
 | t::ts,l,i+1,h=>by
  simp only[dU] at h
  obtain⟨d,l',rfl,h1,h2⟩:=h
  simp only[List.take_succ_cons,dU]
  exact⟨d,_,rfl,h1,mN i h2⟩
theorem bH:∀ {ts:List Ty} {i:Nat} {t:Ty},aY ts=true->ts[i]?=some t->am t=true
 | [],_,_,_,h=>by simp at h
 | u::ts,i,t,h,hi=>by
  simp only[aY,Bool.and_eq_true] at h
  cases i with
  | zero=>simp at hi;subst hi;exact h.1
  | succ i=>simp at hi;exact bH h.2 hi
theorem fO:∀ {ts:List Ty} (i:Nat),aY ts=true->aY (ts.take i)=true
 | ts,0,_=>by simp[aY]
 | [],i+1,_=>by simp[aY]
 | u::ts,i+1,h=>by
  simp only[aY,Bool.and_eq_true] at h
  simp only[List.take_succ_cons,aY,Bool.and_eq_true]
  exact⟨h.1,fO i h.2⟩
theorem c7:∀ (p:List Nat) {t u:Ty},am t=true->aK t p=some u->am u=true
 | [],t,u,h,hp=>by cases t<;>simp only[aK,Option.some.injEq] at hp<;>subst hp<;>exact h
 | i::p,t,u,h,hp=>by
  cases t<;>simp only[aK] at hp
  case st ts=>
   cases hi:ts[i]? with
   | none=>rw[hi] at hp;cases hp
   | some v=>rw[hi] at hp;exact c7 p (bH (by simpa [am] using h) hi) hp
  case arr n v=>exact c7 p (by simpa [am] using h) hp
  all_goals cases hp
theorem gq:∀ (p:List Nat) {t u:Ty} {x y:D},wt t x->am t=true->aK t p=some u->x.get p=some y ->
  wt u y/\∃ a b,x.flat=a++(y.flat++b)/\a.length=aQ t p
 | [],t,u,x,y,h,hn,hp,hg=>by
  have hp':t=u:=by cases t<;>simpa [aK] using hp
  simp only[D.get,Option.some.injEq] at hg
  subst hp';subst hg
  exact⟨h,[],[],by simp,by cases t<;>rfl⟩
 | i::p,t,u,x,y,h,hn,hp,hg=>by
  simp only[D.get] at hg
  cases hf:x.fld i with
  | none=>rw[hf] at hg;cases hg
  | some z=>
   rw[hf] at hg
   have hg':z.get p=some y:=hg
   cases t<;>simp only[aK] at hp
   case st ts=>
    cases hi:ts[i]? with
    | none=>rw[hi] at hp;cases hp
    | some v=>
     rw[hi] at hp
     have hp':aK v p=some u:=hp
     simp only[wt] at h
     obtain⟨l,rfl,hl⟩:=h
     simp only[D.fld] at hf
     obtain⟨z',hz,hv⟩:=ga hl hi
     rw[hf] at hz;cases hz
     simp only[am] at hn
     obtain⟨h1,a,b,h2,h3⟩:=gq p hv (bH hn hi) hp' hg'
     refine⟨h1,D.flats (l.take i)++a,b++D.flats (l.drop (i+1)),?_,?_⟩
     ·simp only[D.flat]
      rw[bK hf,h2]
      simp[List.append_assoc]
     ·simp only[aQ,List.length_append,h3]
      rw[mM _ _ (mN i hl) (fO i hn)]
      simp[List.getD,hi]
   case arr n v=>
    simp only[wt] at h
    obtain⟨l,rfl,hl,hv⟩:=h
    simp only[D.fld] at hf
    simp only[am] at hn
    obtain⟨h1,a,b,h2,h3⟩:=gq p (hv z (List.mem_of_getElem? hf)) hn hp hg'
    refine⟨h1,D.flats (l.take i)++a,b++D.flats (l.drop (i+1)),?_,?_⟩
    ·simp only[D.flat]
     rw[bK hf,h2]
     simp[List.append_assoc]
    ·simp only[aQ,List.length_append,h3]
     rw[aA hn _ (fun x hx=>hv x (List.mem_of_mem_take hx))]
     have:=(List.getElem?_eq_some_iff.1 hf).1
     simp[Nat.min_eq_left (Nat.le_of_lt this)]
   all_goals cases hp
theorem mC:∀ (p:List Nat) {t u:Ty} {x y x':D},wt t x->am t=true->aK t p=some u->x.set p y=some x'->wt u y ->
  wt t x'/\∃ a c b,x.flat=a++(c++b)/\x'.flat=a++(y.flat++b)/\a.length=aQ t p/\c.length=u.size
 | [],t,u,x,y,x',h,hn,hp,hg,hy=>by
  have hp':t=u:=by cases t<;>simpa [aK] using hp
  simp only[D.set,Option.some.injEq] at hg
  subst hp';subst hg
  exact⟨hy,[],x.flat,[],by simp,by simp,by cases t<;>rfl,bT _ _ h hn⟩
 | i::p,t,u,x,y,x',h,hn,hp,hg,hy=>by
  cases t<;>simp only[aK] at hp
  case st ts=>
   cases hi:ts[i]? with
   | none=>rw[hi] at hp;cases hp
   | some v=>
    rw[hi] at hp
    have hp':aK v p=some u:=hp
    simp only[wt] at h
    obtain⟨l,rfl,hl⟩:=h
    simp only[D.set] at hg
    obtain⟨z,hz,hv⟩:=ga hl hi
    rw[hz] at hg
    cases hs:D.set z p y with
    | none=>rw[show((some z).bind fun z=>(D.set z p y).bind fun z'=>some (D.st (l.set i z')))=(D.set z p y).bind fun z'=>some (D.st (l.set i z')) from rfl,hs] at hg;cases hg
    | some z'=>
     rw[show((some z).bind fun z=>(D.set z p y).bind fun z'=>some (D.st (l.set i z')))=(D.set z p y).bind fun z'=>some (D.st (l.set i z')) from rfl,hs] at hg
     simp only[Option.bind_some,Option.some.injEq] at hg
     subst hg
     simp only[am] at hn
     obtain⟨h1,a,c,b,h2,h3,h4,h5⟩:=mC p hv (bH hn hi) hp' hs hy
     refine⟨by simp only[wt];exact⟨_,rfl,uF hl hi h1⟩,D.flats (l.take i)++a,c,b++D.flats (l.drop (i+1)),?_,?_,?_,h5⟩
     ·simp only[D.flat]
      rw[bK hz,h2]
      simp[List.append_assoc]
     ·simp only[D.flat]
      rw[kj hz,h3]
      simp[List.append_assoc]
     ·simp only[aQ,List.length_append,h4]
      rw[mM _ _ (mN i hl) (fO i hn)]
      simp[List.getD,hi]
  case arr n v=>
   simp only[wt] at h
   obtain⟨l,rfl,hl,hv⟩:=h
   simp only[D.set] at hg
   cases hz:l[i]? with
   | none=>rw[hz] at hg;cases hg
   | some z=>
    rw[hz] at hg
    cases hs:D.set z p y with
    | none=>rw[show((some z).bind fun z=>(D.set z p y).bind fun z'=>some (D.st (l.set i z')))=(D.set z p y).bind fun z'=>some (D.st (l.set i z')) from rfl,hs] at hg;cases hg
    | some z'=>
     rw[show((some z).bind fun z=>(D.set z p y).bind fun z'=>some (D.st (l.set i z')))=(D.set z p y).bind fun z'=>some (D.st (l.set i z')) from rfl,hs] at hg
     simp only[Option.bind_some,Option.some.injEq] at hg
     subst hg
     simp only[am] at hn
     obtain⟨h1,a,c,b,h2,h3,h4,h5⟩:=mC p (hv z (List.mem_of_getElem? hz)) hn hp hs hy
     refine⟨?_,D.flats (l.take i)++a,c,b++D.flats (l.drop (i+1)),?_,?_,?_,h5⟩
     ·simp only[wt]
      refine⟨_,rfl,by simpa using hl,fun x hx=>?_⟩
      rcases List.mem_or_eq_of_mem_set hx with h|h
      ·exact hv x h
      ·rw[h];exact h1
     ·simp only[D.flat]
      rw[bK hz,h2]
      simp[List.append_assoc]
     ·simp only[D.flat]
      rw[kj hz,h3]
      simp[List.append_assoc]
     ·simp only[aQ,List.length_append,h4]
      rw[aA hn _ (fun x hx=>hv x (List.mem_of_mem_take hx))]
      have:=(List.getElem?_eq_some_iff.1 hz).1
      simp[Nat.min_eq_left (Nat.le_of_lt this)]
  all_goals cases hp
inductive CR(w:World)(S:Nat->Nat->Prop):D->Value->Prop
 | int (k:IntKind) (n:Int):CR w S (.int k n) (.int k n)
 | bool (b:Bool):CR w S (.bool b) (.bool b)
 | str (s:ByteArray):CR w S (.str s) (.string s)
 | sl (l:List D) (a:Option Addr) (cap b off:Nat) (c:Nat->Value) (ha:l=[]\/a=some ⟨b,off,none⟩) (hc:l.length<=cap)
   (h1:∀ i d,(D.flats l)[i]?=some d->S b (off+i)/\w.cell? ⟨b,off+i,none⟩=some (c i))
   (h2:∀ i d,(D.flats l)[i]?=some d->CR w S d (c i)):CR w S (.sl l) (.slice a l.length cap)
theorem CR.mono{w w':World}{S S':Nat->Nat->Prop}(hw:∀ b o,S b o->w'.cell? ⟨b,o,none⟩=w.cell? ⟨b,o,none⟩)(hS:∀ b o,S b o->S' b o){d:D}{v:Value}(h:CR w S d v):CR w' S' d v:=by
 induction h with
 | int k n=>exact .int k n
 | bool b=>exact .bool b
 | str s=>exact .str s
 | sl l a cap b off c ha hc h1 h2 ih=>
  exact .sl l a cap b off c ha hc (fun i d hd=>⟨hS _ _ (h1 i d hd).1,by rw[hw _ _ (h1 i d hd).1];exact(h1 i d hd).2⟩) ih
def cw(w:World)(S:Nat->Nat->Prop)(ds:List D)(cs:List Value):Prop:=ds.length=cs.length/\∀ (i:Nat) (d:D) (c:Value),ds[i]?=some d->cs[i]?=some c->CR w S d c
theorem cw.mono{w w':World}{S S':Nat->Nat->Prop}(hw:∀ b o,S b o->w'.cell? ⟨b,o,none⟩=w.cell? ⟨b,o,none⟩)(hS:∀ b o,S b o->S' b o){d:List D}{v:List Value}(h:cw w S d v):cw w' S' d v:=
 ⟨h.1,fun i d c h1 h2=>(h.2 i d c h1 h2).mono hw hS⟩
theorem cw.nil{w:World}{S:Nat->Nat->Prop}:cw w S [] []:=⟨rfl,fun i d c h=>by simp at h⟩
theorem cw.append{w:World}{S:Nat->Nat->Prop}{a b:List D}{c d:List Value}(h:cw w S a c)(k:cw w S b d):cw w S (a++b) (c++d):=by
 refine⟨by simp[h.1,k.1],fun i x y hx hy=>?_⟩
 rw[List.getElem?_append] at hx hy
 by_cases hi:i<a.length
 ·rw[if_pos hi] at hx;rw[if_pos (h.1 ▸ hi)] at hy;exact h.2 i x y hx hy
 ·rw[if_neg hi] at hx;rw[if_neg (h.1 ▸ hi)] at hy;rw[h.1] at hx;exact k.2 _ x y hx hy
theorem cw.split{w:World}{S:Nat->Nat->Prop}{a b:List D}{cs:List Value}(h:cw w S (a++b) cs):cw w S a (cs.take a.length)/\cw w S b (cs.drop a.length):=by
 obtain⟨h1,h2⟩:=h
 rw[List.length_append] at h1
 refine⟨⟨by simp;omega,fun i x y hx hy=>?_⟩,⟨by simp;omega,fun i x y hx hy=>?_⟩⟩
 ·have hi:=(List.getElem?_eq_some_iff.1 hx).1
  rw[List.getElem?_take_of_lt hi] at hy
  exact h2 i x y (by rw[List.getElem?_append_left hi];exact hx) hy
 ·rw[List.getElem?_drop] at hy
  exact h2 (a.length+i) x y (by rw[List.getElem?_append_right (by omega)];simpa using hx) hy
theorem cw.single{w:World}{S:Nat->Nat->Prop}{d:D}{v:Value}:cw w S [d] [v]↔CR w S d v:=by
 constructor
 ·intro h;exact h.2 0 d v rfl rfl
 ·intro h
  refine⟨rfl,fun i x y hx hy=>?_⟩
  cases i with
  | zero=>simp at hx hy;subst hx;subst hy;exact h
  | succ i=>simp at hx
theorem cw.single'{w:World}{S:Nat->Nat->Prop}{d:D}{cs:List Value}(h:cw w S [d] cs):∃ v,cs=[v]/\CR w S d v:=by
 match cs,h with
 | [v],h=>exact⟨v,rfl,cw.single.1 h⟩
 | [],h=>simp[cw] at h
 | _::_::_,h=>simp[cw] at h
def mS(w:World)(S:Nat->Nat->Prop)(b off:Nat)(ds:List D):Prop:=∃ cs,cw w S ds cs/\∀ (i:Nat) (c:Value),cs[i]?=some c->S b (off+i)/\w.cell? ⟨b,off+i,none⟩=some c
theorem mS.mono{w w':World}{S S':Nat->Nat->Prop}(hw:∀ b o,S b o->w'.cell? ⟨b,o,none⟩=w.cell? ⟨b,o,none⟩)(hS:∀ b o,S b o->S' b o){b off:Nat}{d:List D}(h:mS w S b off d):mS w' S' b off d:=by
 obtain⟨cs,h1,h2⟩:=h
 exact⟨cs,h1.mono hw hS,fun i c hc=>⟨hS _ _ (h2 i c hc).1,by rw[hw _ _ (h2 i c hc).1];exact(h2 i c hc).2⟩⟩
theorem mS.part{w:World}{S:Nat->Nat->Prop}{b off:Nat}{x y z:List D}(h:mS w S b off (x++(y++z))):mS w S b (off+x.length) y:=by
 obtain⟨cs,h1,h2⟩:=h
 obtain⟨_,h3⟩:=h1.split
 obtain⟨h4,_⟩:=h3.split
 refine⟨_,h4,fun i c hc=>?_⟩
 have hi:i<y.length:=by have:=(List.getElem?_eq_some_iff.1 hc).1;simp at this;omega
 rw[List.getElem?_take_of_lt hi,List.getElem?_drop] at hc
 rw[Nat.add_assoc]
 exact h2 _ _ hc
theorem CR.elems{w:World}{S:Nat->Nat->Prop}{l:List D}{v:Value}(h:CR w S (.sl l) v):∃ a cap b off,v=.slice a l.length cap/\(l=[]\/a=some ⟨b,off,none⟩)/\l.length<=cap/\mS w S b off (D.flats l):=by
 cases h with
 | sl _ a cap b off c ha hc h1 h2=>
  refine⟨a,cap,b,off,rfl,ha,hc,(List.range (D.flats l).length).map c,⟨by simp,fun i d c' hd hc'=>?_⟩,fun i c' hc'=>?_⟩
  ·have hi:=(List.getElem?_eq_some_iff.1 hd).1
   simp[hi] at hc'
   subst hc';exact h2 i d hd
  ·have hi:=(List.getElem?_eq_some_iff.1 hc').1
   simp only[List.length_map,List.length_range] at hi
   simp[hi] at hc'
   subst hc'
   exact h1 i _ (List.getElem?_eq_getElem hi)
theorem CR.of_elems{w:World}{S:Nat->Nat->Prop}{l:List D}{a:Option Addr}{cap b off:Nat}(ha:l=[]\/a=some ⟨b,off,none⟩)(hc:l.length<=cap)(h:mS w S b off (D.flats l)):CR w S (.sl l) (.slice a l.length cap):=by
 obtain⟨cs,h1,h2⟩:=h
 refine .sl l a cap b off (fun i=>cs.getD i undef) ha hc (fun i d hd=>?_) (fun i d hd=>?_)
 ·have hi:i<cs.length:=by rw[<-h1.1];exact(List.getElem?_eq_some_iff.1 hd).1
  have:=h2 i _ (List.getElem?_eq_getElem hi)
  simpa [List.getD,List.getElem?_eq_getElem hi] using this
 ·have hi:i<cs.length:=by rw[<-h1.1];exact(List.getElem?_eq_some_iff.1 hd).1
  have:=h1.2 i d _ hd (List.getElem?_eq_getElem hi)
  simpa [List.getD,List.getElem?_eq_getElem hi] using this
def J6:D->Value->Prop
 | .st _,v=>∃ cs,v=.agg cs
 | _,v=>∀ cs,v≠.agg cs
def eZ(w:World)(S:Nat->Nat->Prop)(d:D)(v:Value):Prop:=J6 d v/\cw w S d.flat v.cells.toList
def DR(w:World)(S:Nat->Nat->Prop):D->Value->Prop
 | .tup l,v=>∃ vs:List Value,v=.tuple vs.toArray/\l.length=vs.length/\∀ (i:Nat) (d:D) (u:Value),l[i]?=some d->vs[i]?=some u->eZ w S d u
 | d,v=>eZ w S d v
theorem eZ.mono{w w':World}{S S':Nat->Nat->Prop}(hw:∀ b o,S b o->w'.cell? ⟨b,o,none⟩=w.cell? ⟨b,o,none⟩)(hS:∀ b o,S b o->S' b o){d:D}{v:Value}(h:eZ w S d v):eZ w' S' d v:=⟨h.1,h.2.mono hw hS⟩
theorem DR.mono{w w':World}{S S':Nat->Nat->Prop}(hw:∀ b o,S b o->w'.cell? ⟨b,o,none⟩=w.cell? ⟨b,o,none⟩)(hS:∀ b o,S b o->S' b o){d:D}{v:Value}(h:DR w S d v):DR w' S' d v:=by
 cases d<;>simp only[DR] at h ⊢<;>first
  | exact h.mono hw hS
  | (obtain⟨vs,h1,h2,h3⟩:=h;exact⟨vs,h1,h2,fun i d u hd hu=>(h3 i d u hd hu).mono hw hS⟩)
theorem DR.of0{w:World}{S:Nat->Nat->Prop}{d:D}{v:Value}(h:eZ w S d v):DR w S d v:=by
 cases d<;>simp only[DR]<;>first
  | exact h
  | (exfalso;obtain⟨c,e,h⟩:=cw.single' h.2;cases h)
theorem CR.int_inv{w:World}{S:Nat->Nat->Prop}{k:IntKind}{n:Int}{v:Value}(h:CR w S (.int k n) v):v=.int k n:=by cases h;rfl
theorem CR.bool_inv{w:World}{S:Nat->Nat->Prop}{n:Bool}{v:Value}(h:CR w S (.bool n) v):v=.bool n:=by cases h;rfl
theorem au{v u:Value}(hv:∀ cs,v≠.agg cs)(h:v.cells.toList=[u]):v=u:=by
 cases v<;>simp[Value.cells] at h<;>first|exact h|exact absurd rfl (hv _)
theorem eZ.int_inv{w:World}{S:Nat->Nat->Prop}{k:IntKind}{n:Int}{v:Value}(h:eZ w S (.int k n) v):v=.int k n:=by
 obtain⟨u,h1,h2⟩:=cw.single' (d:=.int k n) h.2
 rw[au h.1 h1];exact h2.int_inv
theorem eZ.bool_inv{w:World}{S:Nat->Nat->Prop}{n:Bool}{v:Value}(h:eZ w S (.bool n) v):v=.bool n:=by
 obtain⟨u,h1,h2⟩:=cw.single' (d:=.bool n) h.2
 rw[au h.1 h1];exact h2.bool_inv
theorem eZ.sl_inv{w:World}{S:Nat->Nat->Prop}{l:List D}{v:Value}(h:eZ w S (.sl l) v):CR w S (.sl l) v:=by
 obtain⟨u,h1,h2⟩:=cw.single' (d:=.sl l) h.2
 rw[au h.1 h1];exact h2
theorem CR.no_agg{w:World}{S:Nat->Nat->Prop}{d:D}{v:Value}(h:CR w S d v):(∀ cs,v≠.agg cs)/\(∀ vs,v≠.tuple vs)/\d.flat=[d]/\v.cells=#[v]:=by cases h<;>simp[D.flat,Value.cells]
theorem eZ.of_CR{w:World}{S:Nat->Nat->Prop}{d:D}{v:Value}(h:CR w S d v):eZ w S d v:=by
 obtain⟨h1,_,h3,h4⟩:=h.no_agg
 refine⟨?_,?_⟩
 ·cases h<;>simp[J6]
 ·rw[h3,h4];exact cw.single.2 h
end Sy
end
noncomputable section
namespace Sy
open Go
structure Cx where
 w:World
 S:Nat->Nat->Prop
 γ:Nat->Option Nat
 β:Nat->Option (Nat×Nat)
 ob:Nat->Option Ob
 dead:List Nat
def kF(w:World)(b:Nat):Option Nat:=(bw w b).map (·.size)
def ci:Ob->List Nat->Nat
 | .one t _,p=>aQ t p
 | .many t _,i::p=>i*t.size+aQ t p
 | .many ..,[]=>0
 | .mp ..,_=>0
 | .lp ..,_=>0
def QX(c:Cx)(t:Ty)(v:Nat)(l:List D)(a:Option Addr)(cap:Nat):Prop:=
 v ∉ c.dead->(a=none/\cap=0)\/∃ b off,a=some ⟨b,off,none⟩/\c.β v=some (b,off+l.length*t.size)/\∃ n,kF c.w b=some n/\off+cap*t.size<=n
mutual
def AC(c:Cx):AV->List Value->Prop
 | .d t x,cs=>wt t x/\am t=true/\cw c.w c.S x.flat cs
 | .own t v l,cs=>am t=true/\(∀ x∈l,wt t x)/\∃ a cap,cs=[.slice a l.length cap]/\CR c.w c.S (.sl l) (.slice a l.length cap)/\QX c t v l a cap
 | .nils,cs=>cs=[.slice none 0 0]
 | .ptr t id p,cs=>∃ b off,cs=[.pointer (some ⟨b,off,none⟩)]/\c.γ id=some b/\∀ o,c.ob id=some o->eh o p=some t/\off=ci o p
 | .fptr t x,cs=>wt t x/\am t=true/\∃ b off,cs=[.pointer (some ⟨b,off,none⟩)]/\mS c.w c.S b off x.flat
 | .mem t id,cs=>am t=true/\∃ b,c.γ id=some b/\∀ o,c.ob id=some o->∃ l,o=.many t l/\cs=[.slice (some ⟨b,0,none⟩) l.length l.length]
 | .st ts l,cs=>aY ts=true/\AV.fitss ts l=true/\iP c l cs
 | .clo f l,cs=>∃ caps:List Value,cs=[.func (.func f) #[] caps.toArray]/\kI c l caps
 | .map kt vt id,cs=>∃ b,cs=[.map (some b)]/\c.γ id=some b/\am kt=true/\am vt=true/\∀ o,c.ob id=some o->∃ l,o=.mp kt vt l
 | .sub sl t id p lo n,cs=>am t=true/\∃ b off cap,cs=[if sl then .slice (some ⟨b,off,none⟩) n cap else .pointer (some ⟨b,off,none⟩)]/\c.γ id=some b/\∀ o,c.ob id=some o->∃ m,eh o p=some (.arr m t)/\lo+n<=m/\off=ci o p+lo*t.size
 | .yld id,cs=>∃ L,cs=[.func (.yield L) #[] #[]]/\c.γ id=some L
 | .gone,_=>True
 | .undef,_=>True
def iP(c:Cx):List AV->List Value->Prop
 | [],cs=>cs=[]
 | a::l,cs=>∃ c1 c2,cs=c1++c2/\AC c a c1/\iP c l c2
def kI(c:Cx):List AV->List Value->Prop
 | [],cs=>cs=[]
 | a::l,cs=>∃ v c2,cs=v::c2/\AC c a [v]/\kI c l c2
end
def AR(c:Cx):AV->Value->Prop
 | .gone,v=>v=undef
 | .d t x,v=>(am t=true/\wt t x/\eZ c.w c.S x v)\/∃ ts,t=.tup ts/\aY ts=true/\wt t x/\DR c.w c.S x v
 | .undef,_=>True
 | .st ts l,v=>(∃ cs,v=.agg cs)/\AC c (.st ts l) v.cells.toList
 | a,v=>(∀ cs,v≠.agg cs)/\AC c a v.cells.toList
structure Cx.le(c c':Cx):Prop where
 cell:∀ b o,c.S b o->c'.w.cell? ⟨b,o,none⟩=c.w.cell? ⟨b,o,none⟩
 S:∀ b o,c.S b o->c'.S b o
 γ:∀ id b,c.γ id=some b->c'.γ id=some b
 ob:∀ id o,c'.ob id=some o->(∃ b,c.γ id=some b)->∃ o',c.ob id=some o'/\(∀ p,eh o p=eh o' p/\ci o p=ci o' p)/\(∀ t l,o'=.many t l->∃ l',o=.many t l'/\l'.length=l.length)/\(∀ kt vt l,o'=.mp kt vt l->∃ l',o=.mp kt vt l')
 β:∀ v,v ∉ c'.dead->v ∉ c.dead/\∀ b e,c.β v=some (b,e)->c'.β v=some (b,e)/\∀ n,kF c.w b=some n->kF c'.w b=some n
mutual
theorem AC.mono{c c':Cx}(h:c.le c'):∀ (a:AV) (cs:List Value),AC c a cs->AC c' a cs
 | .d t x,cs,k=>by simp only[AC] at k ⊢;exact⟨k.1,k.2.1,k.2.2.mono h.cell h.S⟩
 | .own t v l,cs,k=>by
  simp only[AC] at k ⊢
  obtain⟨k0,k1,a,cap,rfl,k2,k3⟩:=k
  refine⟨k0,k1,a,cap,rfl,k2.mono h.cell h.S,fun hd=>?_⟩
  obtain⟨h1,h2⟩:=h.β v hd
  rcases k3 h1 with h3|⟨b,off,h3,h4,n,h5,h6⟩
  ·exact .inl h3
  ·exact .inr ⟨b,off,h3,(h2 _ _ h4).1,n,(h2 _ _ h4).2 n h5,h6⟩
 | .nils,cs,k=>by simpa only[AC] using k
 | .ptr t id p,cs,k=>by
  simp only[AC] at k ⊢
  obtain⟨b,off,rfl,k1,k2⟩:=k
  refine⟨b,off,rfl,h.γ _ _ k1,fun o ho=>?_⟩
  obtain⟨o',h1,h2,_⟩:=h.ob id o ho ⟨b,k1⟩
  rw[(h2 p).1,(h2 p).2];exact k2 o' h1
 | .fptr t x,cs,k=>by
  simp only[AC] at k ⊢
  obtain⟨k1,k0,b,off,rfl,k2⟩:=k
  exact⟨k1,k0,b,off,rfl,k2.mono h.cell h.S⟩
 | .mem t id,cs,k=>by
  simp only[AC] at k ⊢
  obtain⟨k0,b,k1,k2⟩:=k
  refine⟨k0,b,h.γ _ _ k1,fun o ho=>?_⟩
  obtain⟨o',h1,_,h3,_⟩:=h.ob id o ho ⟨b,k1⟩
  obtain⟨l,rfl,h4⟩:=k2 o' h1
  obtain⟨l',rfl,h5⟩:=h3 _ _ rfl
  exact⟨l',rfl,by rw[h5];exact h4⟩
 | .st ts l,cs,k=>by
  simp only[AC] at k ⊢
  exact⟨k.1,k.2.1,iP.mono h l cs k.2.2⟩
 | .clo f l,cs,k=>by
  simp only[AC] at k ⊢
  obtain⟨caps,rfl,k1⟩:=k
  exact⟨caps,rfl,kI.mono h l caps k1⟩
 | .map kt vt id,cs,k=>by
  simp only[AC] at k ⊢
  obtain⟨b,e,k1,k2,k3,k4⟩:=k
  refine⟨b,e,h.γ _ _ k1,k2,k3,fun o ho=>?_⟩
  obtain⟨o',h1,_,_,h3⟩:=h.ob id o ho ⟨b,k1⟩
  obtain⟨l,rfl⟩:=k4 o' h1
  exact h3 kt vt l rfl
 | .sub sl t id p lo n,cs,k=>by
  simp only[AC] at k ⊢
  obtain⟨k0,b,off,cap,rfl,k1,k2⟩:=k
  refine⟨k0,b,off,cap,rfl,h.γ _ _ k1,fun o ho=>?_⟩
  obtain⟨o',h1,h2,_⟩:=h.ob id o ho ⟨b,k1⟩
  obtain⟨m,q1,q2,q3⟩:=k2 o' h1
  exact⟨m,by rw[(h2 p).1];exact q1,q2,by rw[(h2 p).2];exact q3⟩
 | .yld id,cs,k=>by
  simp only[AC] at k ⊢
  obtain⟨L,rfl,k1⟩:=k
  exact⟨L,rfl,h.γ _ _ k1⟩
 | .gone,cs,k=>by simp[AC]
 | .undef,cs,k=>by simp[AC]
theorem iP.mono{c c':Cx}(h:c.le c'):∀ (l:List AV) (cs:List Value),iP c l cs->iP c' l cs
 | [],cs,k=>by simpa only[iP] using k
 | a::l,cs,k=>by
  simp only[iP] at k ⊢
  obtain⟨c1,c2,rfl,k1,k2⟩:=k
  exact⟨c1,c2,rfl,AC.mono h a c1 k1,iP.mono h l c2 k2⟩
theorem kI.mono{c c':Cx}(h:c.le c'):∀ (l:List AV) (cs:List Value),kI c l cs->kI c' l cs
 | [],cs,k=>by simpa only[kI] using k
 | a::l,cs,k=>by
  simp only[kI] at k ⊢
  obtain⟨c1,c2,rfl,k1,k2⟩:=k
  exact⟨c1,c2,rfl,AC.mono h a _ k1,kI.mono h l c2 k2⟩
end
theorem AR.mono{c c':Cx}(h:c.le c'){a:AV}{v:Value}(k:AR c a v):AR c' a v:=by
 cases a<;>simp only[AR] at k ⊢
 case d t x=>
  rcases k with⟨k1,k2,k3⟩|⟨ts,k1,k0,k2,k3⟩
  ·exact .inl ⟨k1,k2,k3.mono h.cell h.S⟩
  ·exact .inr ⟨ts,k1,k0,k2,k3.mono h.cell h.S⟩
 all_goals first|exact⟨k.1,AC.mono h _ _ k.2⟩|exact k
def gk(c:Cx)(kt vt:Ty):Nat->List D->List MapEntry->Prop
 | _,[],[]=>True
 | j,x::l,e::es=>(e.born=j/\∃ k v,x=.st [k,v]/\wt kt k/\wt vt v/\eZ c.w c.S k e.key/\eZ c.w c.S v e.val)/\gk c kt vt (j+1) l es
 | _,_,_=>False
def qY(c:Cx):AV->Value->Prop
 | .ptr _ id [],v=>∃ b,v=.pointer (some ⟨b,0,none⟩)/\c.γ id=some b
 | _,_=>False
def nX(c:Cx):List AV->List Value->Prop
 | [],[]=>True
 | a::l,v::vs=>qY c a v/\nX c l vs
 | _,_=>False
def g9(c:Cx):AV->Value->Prop
 | .d t x,v=>AR c (.d t x) v
 | .fptr t x,v=>AR c (.fptr t x) v
 | .ptr t id p,v=>qY c (.ptr t id p) v
 | .clo f l,v=>∃ caps:List Value,v=.func (.func f) #[] caps.toArray/\nX c l caps
 | _,_=>True
theorem qY.mono{c c':Cx}(hγ:∀ id b,c.γ id=some b->c'.γ id=some b){a:AV}{v:Value}(k:qY c a v):qY c' a v:=by
 unfold qY at k ⊢
 split at k
 ·obtain⟨b,e,k1⟩:=k;exact⟨b,e,hγ _ _ k1⟩
 ·exact k.elim
theorem nX.mono{c c':Cx}(hγ:∀ id b,c.γ id=some b->c'.γ id=some b):∀ {l:List AV} {vs:List Value},nX c l vs->nX c' l vs
 | [],[],_=>trivial
 | [],_::_,k=>k.elim
 | _::_,[],k=>k.elim
 | a::l,v::vs,k=>⟨k.1.mono hγ,nX.mono hγ k.2⟩
theorem g9.mono{c c':Cx}(hcell:∀ b o,c.S b o->c'.w.cell? ⟨b,o,none⟩=c.w.cell? ⟨b,o,none⟩)(hS:∀ b o,c.S b o->c'.S b o)(hγ:∀ id b,c.γ id=some b->c'.γ id=some b){a:AV}{v:Value}(k:g9 c a v):g9 c' a v:=by
 cases a<;>simp only[g9] at k ⊢
 case d t x=>
  simp only[AR] at k ⊢
  rcases k with⟨k1,k2,k3⟩|⟨ts,k1,k0,k2,k3⟩
  ·exact .inl ⟨k1,k2,k3.mono hcell hS⟩
  ·exact .inr ⟨ts,k1,k0,k2,k3.mono hcell hS⟩
 case fptr t x=>
  simp only[AR,AC] at k ⊢
  obtain⟨k4,k1,k0,b,off,e,k2⟩:=k
  exact⟨k4,k1,k0,b,off,e,k2.mono hcell hS⟩
 case ptr t id p=>exact k.mono hγ
 case clo f l=>
  obtain⟨caps,e,k1⟩:=k
  exact⟨caps,e,k1.mono hγ⟩
def wY:Ex->Code
 | .normal=>.skip
 | .exit id=>.exit id
 | .ret=>.ret
def SP(i:LpI)(r:Loop):Prop:=r.tmps.size=i.nt/\r.params.toList=i.ps/\r.assign=i.asg/\r.body=i.bdy
def QP:Option Ex->Loop->Prop
 | none,r=>r.state=.ready/\r.pending=none
 | some e,r=>r.state=.done/\r.pending=some (wY e)
def wR(r r':Loop):Prop:=r'.tmps=r.tmps/\r'.params=r.params/\r'.assign=r.assign/\r'.body=r.body
def gN(w w':World)(b:Nat):Prop:=w'.heap[b]?=w.heap[b]?\/∃ r r',w.heap[b]?=some (Obj.loop r)/\w'.heap[b]?=some (Obj.loop r')/\wR r r'
theorem gN.refl(w:World)(b:Nat):gN w w b:=.inl rfl
theorem gN.trans{w w1 w2:World}{b:Nat}(h:gN w w1 b)(k:gN w1 w2 b):gN w w2 b:=by
 rcases h with h|⟨r,r1,h1,h2,h3⟩<;>rcases k with k|⟨r',r2,k1,k2,k3⟩
 ·exact .inl (k.trans h)
 ·exact .inr ⟨r',r2,h.symm.trans k1,k2,k3⟩
 ·exact .inr ⟨r,r1,h1,k.trans h2,h3⟩
 ·rw[h2] at k1;cases k1
  exact .inr ⟨r,r2,h1,k2,k3.1.trans h3.1,k3.2.1.trans h3.2.1,k3.2.2.1.trans h3.2.2.1,k3.2.2.2.trans h3.2.2.2⟩
theorem gN.row{w w':World}{b:Nat}(h:gN w w' b){cs:Array Value}(hr:bw w b=some cs):w'.heap[b]?=w.heap[b]?:=by
 rcases h with h|⟨r,r',h1,_,_⟩
 ·exact h
 ·simp[bw,h1] at hr
def cC(w w':World):Prop:=∀ b:Nat,(w.heap[b]?=some (Obj.deferred (some []))->w'.heap[b]?=some (Obj.deferred (some [])))/\((∃ r,w.heap[b]?=some (Obj.loop r))->∃ r,w'.heap[b]?=some (Obj.loop r))
theorem cC.refl(w:World):cC w w:=fun _=>⟨id,id⟩
theorem cC.trans{w w1 w2:World}(h:cC w w1)(k:cC w1 w2):cC w w2:=fun b=>⟨fun hb=>(k b).1 ((h b).1 hb),fun hb=>(k b).2 ((h b).2 hb)⟩
def bV(lo:Nat)(w:World):Nat->List Deferred->Prop
 | _,[]=>True
 | hi,d::l=>∃ K,d={ target:=.collected K,args:=#[] }/\lo<=K/\K<hi/\w.heap[K]?=some (Obj.deferred (some []))/\bV lo w K l
theorem bV.mono{lo lo':Nat}{w w':World}(hlo:lo'<=lo)(h:cC w w'):∀ {l:List Deferred} {hi hi':Nat},hi<=hi'->bV lo w hi l->bV lo' w' hi' l
 | [],_,_,_,_=>trivial
 | d::l,hi,hi',hh,⟨K,h1,h2,h3,h4,h5⟩=>⟨K,h1,Nat.le_trans hlo h2,Nat.lt_of_lt_of_le h3 hh,(h K).1 h4,bV.mono hlo h (Nat.le_refl K) h5⟩
theorem bV.append{lo mid:Nat}{w:World}(hm:lo<=mid):∀ {l l':List Deferred} {hi:Nat},mid<=hi->bV mid w hi l->bV lo w mid l'->bV lo w hi (l++l')
 | [],l',hi,hh,_,h=>bV.mono (Nat.le_refl _) (cC.refl w) hh h
 | d::l,l',hi,hh,⟨K,h1,h2,h3,h4,h5⟩,h=>⟨K,h1,Nat.le_trans hm h2,h3,h4,bV.append hm h2 h5 h⟩
def iR(l:List Nat)(a:Act)(w:World)(a':Act)(w':World):Prop:=cC w w'/\∃ m,a'.defers=m++a.defers/\bV w.heap.size w' w'.heap.size m/\(4095∈l->m=[])
theorem iR.same{l:List Nat}{a a':Act}{w w':World}(hd:a'.defers=a.defers)(h:cC w w'):iR l a w a' w':=⟨h,[],by simpa using hd,trivial,fun _=>rfl⟩
theorem iR.less{l l':List Nat}{a a':Act}{w w':World}(hl:∀ i∈l',i∈l)(h:iR l a w a' w'):iR l' a w a' w':=by
 obtain⟨q1,m1,e1,p1,z1⟩:=h
 exact⟨q1,m1,e1,p1,fun hh=>z1 (hl _ hh)⟩
theorem iR.trans{l:List Nat}{a a1 a2:Act}{w w1 w2:World}(h:iR l a w a1 w1)(k:iR l a1 w1 a2 w2)(h1:w.heap.size<=w1.heap.size)(h2:w1.heap.size<=w2.heap.size):iR l a w a2 w2:=by
 obtain⟨q1,m1,e1,p1,z1⟩:=h
 obtain⟨q2,m2,e2,p2,z2⟩:=k
 refine⟨q1.trans q2,m2++m1,by rw[e2,e1,List.append_assoc],?_,fun hh=>by rw[z1 hh,z2 hh];rfl⟩
 exact bV.append h1 h2 p2 (p1.mono (Nat.le_refl _) q2 (Nat.le_refl _))
theorem bf{a:Act}{d:Option Nat}{v:Value}:(a.put d v).defers=a.defers:=by cases d<;>rfl
def fK(c:Cx)(b:Nat):Ob->Prop
 | .one t v=>am t=true/\AV.fits t v=true/\(∀ o,¬ c.S b o)/\∃ cs:List Value,bw c.w b=some cs.toArray/\AC c v cs/\cs.length=t.size
 | .many t l=>am t=true/\(∀ x∈l,wt t x)/\(∀ o,¬ c.S b o)/\∃ cs:List Value,bw c.w b=some cs.toArray/\cw c.w c.S (D.flats l) cs
 | .mp kt vt l=>am kt=true/\am vt=true/\(∀ o,¬ c.S b o)/\∃ es:Array MapEntry,c.w.heap[b]?=some (.map es l.length)/\gk c kt vt 0 l es.toList
 | .lp i p=>∃ r:Loop,c.w.heap[b]?=some (Obj.loop r)/\SP i r/\(∀ t,t<i.nt->g9 c (i.caps t) (r.tmps.getD t undef))/\QP p r
structure Root where
 w:World
 S0:Nat->Nat->Prop
 sh:Nat->Prop
abbrev Root.heap(r:Root):Array Obj:=r.w.heap
def Root.Old(r:Root)(b:Nat):Prop:=b<r.heap.size/\¬ r.sh b
structure jz(r:Root)(w:World):Prop where
 tape:w.tape=r.w.tape
 os:w.os=r.w.os
 output:w.output=r.w.output
 sz:r.heap.size<=w.heap.size
 dr:r.w.drawn<=w.drawn
 old:∀ b,r.Old b->w.heap[b]?=r.w.heap[b]?
structure Rp(w0:Root)(S:Nat->Nat->Prop)(γ:Nat->Option Nat)(β:Nat->Option (Nat×Nat))(s:St)(a:Act)(w:World):Prop where
 ext:jz w0 w
 tms:∀ t,t<a.tmps.size->AR ⟨w,S,γ,β,s.ob,s.dead⟩ (s.tm t) (a.tmps.getD t undef)
 nt:a.tmps.size=s.nt
 tmu:∀ t,s.nt<=t->s.tm t=.undef
 obs:∀ id o b,s.ob id=some o->γ id=some b->fK ⟨w,S,γ,β,s.ob,s.dead⟩ b o
 γn:∀ id b,γ id=some b->¬ w0.Old b/\b<w.heap.size
 γi:∀ id id' b,γ id=some b->γ id'=some b->id=id'
 γf:∀ id,s.base+4096<=id->γ id=none
 βn:∀ v b e,v ∉ s.dead->β v=some (b,e)->¬ w0.Old b/\b<w.heap.size/\∀ o,e<=o->¬ S b o
 βi:∀ v v' b e e',v ∉ s.dead->v' ∉ s.dead->β v=some (b,e)->β v'=some (b,e')->v=v'
 βγ:∀ v id b e,v ∉ s.dead->β v=some (b,e)->γ id≠some b
 βf:∀ v,s.base+4096<=v->β v=none
 Sb:∀ b o,S b o->b<w.heap.size
 So:∀ b o,S b o->w0.Old b->w0.S0 b o
structure Fm(s:St)(S:Nat->Nat->Prop)(γ:Nat->Option Nat)(a:Act)(w:World)(S':Nat->Nat->Prop)(γ':Nat->Option Nat)(a':Act)(w':World):Prop where
 sub:∀ b o,S b o->S' b o
 cell:∀ b o,S b o->w'.cell? ⟨b,o,none⟩=w.cell? ⟨b,o,none⟩
 slots:∀ t∈s.lkS,a'.tmps.getD t undef=a.tmps.getD t undef
 objs:∀ id∈s.lkO,∀ b,γ id=some b->γ' id=some b/\gN w w' b
 sz:w.heap.size<=w'.heap.size
 gam:∀ id b,γ id=some b->γ' id=some b
 dfs:iR s.lkO a w a' w'
structure Sk(s s':St):Prop where
 lkS:s'.lkS=s.lkS
 lkO:s'.lkO=s.lkO
 nt:s'.nt=s.nt
theorem Sk.refl(s:St):Sk s s:=⟨rfl,rfl,rfl⟩
theorem Sk.trans{a b c:St}(h:Sk a b)(k:Sk b c):Sk a c:=⟨k.lkS.trans h.lkS,k.lkO.trans h.lkO,k.nt.trans h.nt⟩
end Sy
end
noncomputable section
namespace Sy
open Go
def cn:Ty->Bool
 | .st _=>true
 | .arr _ _=>true
 | _=>false
mutual
def Ty.high:Ty->Nat
 | .st l=>Ty.highs l+1
 | .arr _ t=>t.high+1
 | .sl t=>t.high+1
 | .tup l=>Ty.highs l+1
 | _=>1
def Ty.highs:List Ty->Nat
 | []=>0
 | t::l=>max t.high (Ty.highs l)
end
def zv:D->Value->Bool
 | .int k n,.int k' n'=>decide (k=k')&&decide (n=n')
 | .bool b,.bool b'=>b==b'
 | .str s,.string s'=>decide (s=s')
 | .sl l,.slice a len cap=>l.isEmpty&&a.isNone&&decide (len=0)&&decide (cap=0)
 | _,_=>false
def cj:List D->List Value->Bool
 | [],[]=>true
 | d::l,v::l'=>zv d v&&cj l l'
 | _,_=>false
def mg(P:Program)(t:TypeId)(ty:Ty):Bool:=
 match P.info? t with
 | some i=>decide (i.size=ty.size)&&decide (i.bytes<=16384)&&decide (i.size<=4096)&&(match i.zero with|some z=>cj (aF ty).flat z.cells.toList&&(match z with|.agg _=>cn ty|_=>!cn ty)|none=>false)
 | none=>false
mutual
def bh(P:Program):Ty->TypeId->Bool
 | .int k,t=>mg P t (.int k)&&(match P.underlying t with|some (.int k')=>decide (k=k')|_=>false)
 | .bool,t=>mg P t .bool&&(match P.underlying t with|some .bool=>true|_=>false)
 | .str,t=>mg P t .str&&(match P.underlying t with|some .string=>true|_=>false)
 | .st ts,t=>mg P t (.st ts)&&!P.stoodInHeld t&&!P.eqGuardType P.depth t&&(match P.underlying t with|some (.struct fs)=>eN P ts fs.toList 0|_=>false)
 | .arr n e,t=>mg P t (.arr n e)&&!P.eqGuardType P.depth t&&(match P.underlying t with|some (.array m u)=>decide (m=n)&&bh P e u|_=>false)
 | .sl e,t=>mg P t (.sl e)&&(match P.underlying t with|some (.slice u)=>bh P e u|_=>false)
 | _,_=>false
def eN(P:Program):List Ty->List Field->Nat->Bool
 | [],[],_=>true
 | t :: ts, f :: fs, off => decide (f.offset = off) && decide (f.name ≠ "_") && decide (0 < t.size) && bh P t f.type && eN P ts fs (off + t.size)
 | _,_,_=>false
end
def HY(P:Program)(ptys:List Ty)(rty:Ty)(f:FuncId)(xs:List D)(y:D):Prop:=
 ∀ (w:World) (S:Nat->Nat->Prop) (vs:List Value),(∀ b o,S b o->b<w.heap.size)->dU ptys xs->vs.length=xs.length->(∀ (i:Nat) (x:D) (v:Value),xs[i]?=some x->vs[i]?=some v->eZ w S x v) ->
  Calls P f vs.toArray w fun e w'=>∃ v,e=.returned v/\(∃ os d,w.drawn<=d/\w'=grown w os d)/\wt rty y/\DR w' (fun b o=>S b o\/(w.heap.size<=b/\b<w'.heap.size)) y v
def Gp(w:World)(S:Nat->Nat->Prop)(x:D)(b:Nat):Prop:=(∀ o,¬ S b o)/\∃ cs:List Value,bw w b=some cs.toArray/\cw w S x.flat cs
def Ad(b:Nat):Value:=.pointer (some ⟨b,0,none⟩)
def HZ(P:Program)(ptys:List Ty)(rty:Ty)(f:FuncId)(xs:List D)(y:D)(k:Nat):Prop:=
 ∀ (w:World) (S:Nat->Nat->Prop) (vs:List Value) (bs:List Nat),(∀ b o,S b o->b<w.heap.size)->dU ptys xs->bs.length=k->vs.length+k=xs.length->(∀ (i j b:Nat),bs[i]?=some b->bs[j]?=some b->i=j) ->
  (∀ (i:Nat) (x:D) (v:Value),xs[i]?=some x->vs[i]?=some v->eZ w S x v)->(∀ (i:Nat) (x:D) (b:Nat),xs[vs.length+i]?=some x->bs[i]?=some b->Gp w S x b) ->
  Calls P f (vs++bs.map Ad).toArray w fun e w'=>∃ v,e=.returned v/\(∃ os d,w.drawn<=d/\w'=grown w os d)/\wt rty y/\DR w' (fun b o=>S b o\/(w.heap.size<=b/\b<w'.heap.size)) y v
def CM(P:Program):Nat->List Ty->Ty->FuncId->List D->D->Prop
 | 0,ptys,rty,f,xs,y=>HY P ptys rty f xs y
 | k+1,ptys,rty,f,xs,y=>HZ P ptys rty f xs y (k+1)
def AU(P:Program)(f:FuncId)(g:Ann->(R:Type)->St->List AV->(AV->St->Option R)->Option R):Prop:=
 ∀ (ann:Ann) (R:Type) (w0:Root) (S:Nat->Nat->Prop) (γ:Nat->Option Nat) (β:Nat->Option (Nat×Nat)) (s:St) (a:Act) (w:World) (avs:List AV) (vs:List Value) (K:AV->St->Option R) (r:R),
  Rp w0 S γ β s a w->avs.length=vs.length->(∀ (i:Nat) (x:AV) (v:Value),avs[i]?=some x->vs[i]?=some v->AR ⟨w,S,γ,β,s.ob,s.dead⟩ x v)->g ann R s avs K=some r ->
  Calls P f vs.toArray w fun e w'=>∃ v y s' S' γ' β',e=.returned v/\K y s'=some r/\Rp w0 S' γ' β' s' a w'/\AR ⟨w',S',γ',β',s'.ob,s'.dead⟩ y v/\Fm s S γ a w S' γ' a w'/\Sk s s'
abbrev FW(ro:Option Nat):Fence:={ Fence.wide with round:=ro }
def Bo:Ex->Exit
 | .normal=>.normal
 | .exit i=>.exit i
 | .ret=>.ret
def AN(P:Program)(f:Code->Ann->(R:Type)->St->(Ex->St->Option R)->Option R):Prop:=
 ∀ (ro:Option Nat) (nn:Nat) (w0:Root) (c:Code) (ann:Ann) (R:Type) (Q:Exit->Act->World->Prop) (S:Nat->Nat->Prop) (γ:Nat->Option Nat) (β:Nat->Option (Nat×Nat)) (s:St) (a:Act) (w:World) (k:Ex->St->Option R) (r:R),
  (∀ l,ro=some l->∃ r0,w.heap[l]?=some (Obj.loop r0))->Rp w0 S γ β s a w->f c ann R s k=some r ->
  (∀ e s' S' γ' β' a' w',Rp w0 S' γ' β' s' a' w'->Fm s S γ a w S' γ' a' w'->Sk s s'->k e s'=some r->Q (Bo e) a' w')->c.wpIn (FW ro) nn P Q a w
structure EnvOk(P:Program)(E:Env):Prop where
 lay:∀ t ty,E.L t=some ty->(∃ ts,ty=.tup ts)\/bh P ty t=true
 high:∀ t ty,E.L t=some ty->ty.high<=1000
 flat:∀ t ty,E.L t=some ty->am ty=true
 sig : ∀ f ptys rty, E.sig f = some (ptys, rty) -> aY ptys = true /\ (am rty = true \/ ∃ ts, rty = .tup ts /\ aY ts = true) /\ ∃ fn, P.funcs[f]? = some fn /\ (fn.name == "runtime.NumGoroutine") = false /\ fn.body.isSome = true
 call:∀ f ptys rty xs y,E.sig f=some (ptys,rty)->E.call f xs=some y->dU ptys xs->CM P (E.free f) ptys rty f xs y
 mixed:P.follows .mixedOrders=true
 lp:∀ (α β:Type) (body:α->Option (Sum α β)) (x:α) (y:β),E.lp body x=some y->∃ n,mo body n x=some y
 mapL:∀ t kt vt,E.mapL t=some (kt,vt)->bu kt=true/\∃ K V,P.underlying t=some (.map K V)/\bh P kt K=true/\bh P vt V=true/\kt.high<=1000
 inl : ∀ f g, E.inl f = some g -> (∃ fn, P.funcs[f]? = some fn /\ (fn.name == "runtime.NumGoroutine") = false /\ fn.body.isSome = true) /\ AU P f g
 cod:AN P E.cod
theorem ed{P:Program}{t:TypeId}{ty:Ty}(h:mg P t ty=true):∃ i z,P.info? t=some i/\i.size=ty.size/\(i.bytes<=16384/\ty.size<=4096)/\i.zero=some z/\cj (aF ty).flat z.cells.toList=true/\((∃ cs,z=.agg cs)↔cn ty=true):=by
 unfold mg at h
 split at h
 ·rename_i i hi
  simp only[Bool.and_eq_true,decide_eq_true_eq] at h
  obtain⟨⟨⟨h1,h2⟩,h2'⟩,h3⟩:=h
  split at h3
  ·rename_i z hz
   simp only[Bool.and_eq_true] at h3
   refine⟨i,z,hi,h1,⟨h2,h1 ▸ h2'⟩,hz,h3.1,?_⟩
   have h4:=h3.2
   split at h4
   ·rename_i cs;exact⟨fun _=>h4,fun _=>⟨cs,rfl⟩⟩
   ·rename_i hne
    simp only[Bool.not_eq_true'] at h4
    exact⟨fun⟨cs,hcs⟩=>absurd hcs (hne cs),fun hh=>by rw[h4] at hh;cases hh⟩
  ·cases h3
 ·cases h
theorem fq{P:Program}{t:TypeId}{ty:Ty}(h:bh P ty t=true):mg P t ty=true:=by
 cases ty<;>simp only[bh,Bool.and_eq_true] at h<;>first
  | exact h.1
  | exact h.1.1
  | exact h.1.1.1
  | cases h
theorem rY{P:Program}{t:TypeId}:∀ {ty:Ty},bh P ty t=true->(∃ ts,ty=.tup ts)\/ty=.fn->False:=by
 intro ty h hh
 rcases hh with⟨ts,rfl⟩|rfl<;>simp[bh] at h
theorem bG{P:Program}{t:TypeId}{ty:Ty}(h:bh P ty t=true)(w:World):(sizeOf t).run P w=.ok ty.size w:=by
 obtain⟨i,z,h1,h2,_⟩:=ed (fq h)
 exact xK (by rw[h1];simp[h2]) w
theorem yK{P:Program}{t:TypeId}{ty:Ty}(h:bh P ty t=true)(w:World):(isAgg t).run P w=.ok (cn ty) w:=by
 have key:∀ d,P.underlying t=some d->(isAgg t).run P w=.ok (match d with|.struct _|.array _ _=>true|_=>false) w:=fun d hd=>by
  unfold isAgg
  rw[Sem.run_bind,run_underlying hd w]
  cases d<;>rfl
 cases ty<;>simp only[bh,Bool.and_eq_true] at h
 case int k=>obtain⟨_,h⟩:=h;split at h<;>first|(rename_i hu;rw[key _ hu];rfl)|cases h
 case bool=>obtain⟨_,h⟩:=h;split at h<;>first|(rename_i hu;rw[key _ hu];rfl)|cases h
 case str=>obtain⟨_,h⟩:=h;split at h<;>first|(rename_i hu;rw[key _ hu];rfl)|cases h
 case st ts=>obtain⟨_,h⟩:=h;split at h<;>first|(rename_i hu;rw[key _ hu];rfl)|cases h
 case arr n e=>obtain⟨_,h⟩:=h;split at h<;>first|(rename_i hu;rw[key _ hu];rfl)|cases h
 case sl e=>obtain⟨_,h⟩:=h;split at h<;>first|(rename_i hu;rw[key _ hu];rfl)|cases h
 all_goals cases h
theorem gu{P:Program}{t:TypeId}{ts:List Ty}(h:bh P (.st ts) t=true):∃ fs,P.underlying t=some (.struct fs)/\eN P ts fs.toList 0=true:=by
 simp only[bh,Bool.and_eq_true] at h
 have h2:=h.2
 split at h2
 ·rename_i fs hu;exact⟨fs,hu,h2⟩
 ·cases h2
theorem dj{P:Program}{t:TypeId}{n:Nat}{e:Ty}(h:bh P (.arr n e) t=true):∃ u,P.underlying t=some (.array n u)/\bh P e u=true:=by
 simp only[bh,Bool.and_eq_true] at h
 have h2:=h.2
 split at h2
 ·rename_i m u hu
  simp only[Bool.and_eq_true,decide_eq_true_eq] at h2
  obtain⟨rfl,h3⟩:=h2
  exact⟨u,hu,h3⟩
 ·cases h2
theorem gt{P:Program}{t:TypeId}{e:Ty}(h:bh P (.sl e) t=true):∃ u,P.underlying t=some (.slice u)/\bh P e u=true:=by
 simp only[bh,Bool.and_eq_true] at h
 have h2:=h.2
 split at h2
 ·rename_i u hu
  exact⟨u,hu,h2⟩
 ·cases h2
theorem gY{P:Program}{t:TypeId}{k:IntKind}(h:bh P (.int k) t=true):P.underlying t=some (.int k):=by
 simp only[bh,Bool.and_eq_true] at h
 have h2:=h.2
 split at h2
 ·rename_i k' hu
  simp only[decide_eq_true_eq] at h2
  rw[hu,h2]
 ·cases h2
theorem oY{P:Program}:∀ {ts:List Ty} {fs:List Field} {off i:Nat} {t:Ty},eN P ts fs off=true->ts[i]?=some t->∃ f,fs[i]?=some f/\f.offset=off+Ty.sizes (ts.take i)/\0<t.size/\bh P t f.type=true
 | [],_,_,_,_,_,h=>by simp at h
 | u::ts,[],_,_,_,h,_=>by simp[eN] at h
 | u::ts,f::fs,off,i,t,h,hi=>by
  simp only[eN,Bool.and_eq_true,decide_eq_true_eq] at h
  obtain⟨⟨⟨⟨h1,_⟩,h2⟩,h3⟩,h4⟩:=h
  cases i with
  | zero=>simp at hi;subst hi;exact⟨f,rfl,by simp[Ty.sizes,h1],h2,h3⟩
  | succ i=>
   simp at hi
   obtain⟨g,k1,k2,k3⟩:=oY h4 hi
   exact⟨g,by simpa using k1,by rw[k2];simp[Ty.sizes,Nat.add_assoc],k3⟩
def nag(cs:List Value):Prop:=∀ v∈cs,v.oneCell'=true
theorem cw.nag{w:World}{S:Nat->Nat->Prop}{ds:List D}{cs:List Value}(h:cw w S ds cs):nag cs:=by
 intro v hv
 obtain⟨i,hi,he⟩:=List.getElem_of_mem hv
 have h1:cs[i]?=some v:=by rw[List.getElem?_eq_getElem hi,he]
 have h2:i<ds.length:=by rw[h.1];exact hi
 have h3:=h.2 i _ v (List.getElem?_eq_getElem h2) h1
 revert h3
 generalize ds[i]=d
 intro h3
 cases h3<;>rfl
theorem xq{a b:List Value}(h:nag a)(k:nag b):nag (a++b):=fun v hv=>by
 rcases List.mem_append.1 hv with h1|h1
 ·exact h v h1
 ·exact k v h1
mutual
theorem fS{c:Cx}:∀ (a:AV) (t:Ty) (cs:List Value),AV.fits t a=true->AC c a cs->cs.length=t.size/\nag cs
 | .d t' x,t,cs,hf,h=>by
  have hf':t.beq t'=true:=by cases t<;>simpa only[AV.fits] using hf
  rw[Ty.eq_of_beq _ _ hf']
  simp only[AC] at h
  exact⟨by rw[<-h.2.2.1];exact bT _ _ h.1 h.2.1,h.2.2.nag⟩
 | .own t' v l,t,cs,hf,h=>by
  cases t<;>simp only[AV.fits] at hf<;>first|cases hf|skip
  simp only[AC] at h
  obtain⟨_,_,a,cap,rfl,_⟩:=h
  exact⟨rfl,fun v hv=>by simp at hv;subst hv;rfl⟩
 | .nils,t,cs,hf,h=>by
  cases t<;>simp only[AV.fits] at hf<;>first|cases hf|skip
  simp only[AC] at h
  subst h
  exact⟨rfl,fun v hv=>by simp at hv;subst hv;rfl⟩
 | .st ts' l,t,cs,hf,h=>by
  cases t<;>simp only[AV.fits] at hf<;>first|cases hf|skip
  rename_i ts
  simp only[Bool.and_eq_true] at hf
  simp only[AC] at h
  simp only[Ty.size]
  exact xY l ts cs hf.2 h.2.2
 | .ptr ..,t,cs,hf,_=>by cases t<;>simp[AV.fits] at hf
 | .fptr ..,t,cs,hf,_=>by cases t<;>simp[AV.fits] at hf
 | .mem ..,t,cs,hf,_=>by cases t<;>simp[AV.fits] at hf
 | .clo ..,t,cs,hf,_=>by cases t<;>simp[AV.fits] at hf
 | .map ..,t,cs,hf,_=>by cases t<;>simp[AV.fits] at hf
 | .sub ..,t,cs,hf,_=>by cases t<;>simp[AV.fits] at hf
 | .yld ..,t,cs,hf,_=>by cases t<;>simp[AV.fits] at hf
 | .gone,t,cs,hf,_=>by cases t<;>simp[AV.fits] at hf
 | .undef,t,cs,hf,_=>by cases t<;>simp[AV.fits] at hf
theorem xY{c:Cx}:∀ (l:List AV) (ts:List Ty) (cs:List Value),AV.fitss ts l=true->iP c l cs->cs.length=Ty.sizes ts/\nag cs
 | [],ts,cs,hf,h=>by
  cases ts<;>simp only[AV.fitss] at hf<;>first|cases hf|skip
  simp only[iP] at h
  subst h
  exact⟨rfl,fun v hv=>by simp at hv⟩
 | a::l,ts,cs,hf,h=>by
  cases ts<;>simp only[AV.fitss] at hf<;>first|cases hf|skip
  simp only[Bool.and_eq_true] at hf
  simp only[iP] at h
  obtain⟨c1,c2,rfl,h1,h2⟩:=h
  obtain⟨k1,k2⟩:=fS a _ c1 hf.1 h1
  obtain⟨k3,k4⟩:=xY l _ c2 hf.2 h2
  exact⟨by simp[Ty.sizes,k1,k3],xq k2 k4⟩
end
def fg(t:Ty)(cs:List Value)(v:Value):Prop:=v.cells.toList=cs/\(cn t=true->∃ xs,v=.agg xs)/\(cn t=false->∀ xs,v≠.agg xs)
mutual
theorem aB{P:Program}:∀ (ty:Ty) (t:TypeId),bh P ty t=true->am ty=true
 | .int _,_,_=>rfl
 | .bool,_,_=>rfl
 | .str,_,_=>rfl
 | .st ts,t,h=>by obtain⟨fs,_,h2⟩:=gu h;simp only[am];exact om ts _ _ h2
 | .arr n e,t,h=>by obtain⟨u,_,h2⟩:=dj h;simp only[am];exact aB e u h2
 | .sl e,t,h=>by obtain⟨u,_,h2⟩:=gt h;simp only[am];exact aB e u h2
 | .tup _,t,h=>by simp[bh] at h
 | .fn,t,h=>by simp[bh] at h
theorem om{P:Program}:∀ (ts:List Ty) (fs:List Field) (off:Nat),eN P ts fs off=true->aY ts=true
 | [],_,_,_=>rfl
 | t::ts,[],_,h=>by simp[eN] at h
 | t::ts,f::fs,off,h=>by
  simp only[eN,Bool.and_eq_true] at h
  simp only[aY,Bool.and_eq_true]
  exact⟨aB t _ h.1.2,om ts fs _ h.2⟩
end
theorem lz{t:Ty}{x:D}{v:Value}(h:wt t x)(hn:am t=true)(hs:J6 x v):(cn t=true->∃ xs,v=.agg xs)/\(cn t=false->∀ xs,v≠.agg xs):=by
 cases t<;>simp only[wt] at h
 case int k=>obtain⟨n,rfl⟩:=h;exact⟨fun h=>by simp[cn] at h,fun _=>hs⟩
 case bool=>obtain⟨n,rfl⟩:=h;exact⟨fun h=>by simp[cn] at h,fun _=>hs⟩
 case str=>obtain⟨n,rfl⟩:=h;exact⟨fun h=>by simp[cn] at h,fun _=>hs⟩
 case st ts=>obtain⟨n,rfl,_⟩:=h;exact⟨fun _=>hs,fun h=>by simp[cn] at h⟩
 case arr m ts=>obtain⟨n,rfl,_⟩:=h;exact⟨fun _=>hs,fun h=>by simp[cn] at h⟩
 case sl ts=>obtain⟨n,rfl,_⟩:=h;exact⟨fun h=>by simp[cn] at h,fun _=>hs⟩
 case tup ts=>simp[am] at hn
theorem pj{t:Ty}{x:D}{v:Value}(h:wt t x)(hn:am t=true)(hs:(cn t=true->∃ xs,v=.agg xs)/\(cn t=false->∀ xs,v≠.agg xs)):J6 x v:=by
 cases t<;>simp only[wt] at h
 case int k=>obtain⟨n,rfl⟩:=h;exact hs.2 rfl
 case bool=>obtain⟨n,rfl⟩:=h;exact hs.2 rfl
 case str=>obtain⟨n,rfl⟩:=h;exact hs.2 rfl
 case st ts=>obtain⟨n,rfl,_⟩:=h;exact hs.1 rfl
 case arr m ts=>obtain⟨n,rfl,_⟩:=h;exact hs.1 rfl
 case sl ts=>obtain⟨n,rfl,_⟩:=h;exact hs.2 rfl
 case tup ts=>simp[am] at hn
theorem uH{c:Cx}{t:Ty}{a:AV}{v:Value}(hf:AV.fits t a=true)(hn:am t=true)(h:AR c a v):AC c a v.cells.toList/\fg t v.cells.toList v:=by
 cases a
 case d t' x=>
  have hf':t.beq t'=true:=by cases t<;>simpa only[AV.fits] using hf
  have he:=Ty.eq_of_beq _ _ hf'
  subst he
  simp only[AR] at h
  rcases h with⟨h1,h2,h3⟩|⟨ts,rfl,_⟩
  ·refine⟨by simp only[AC];exact⟨h2,h1,h3.2⟩,rfl,lz h2 h1 h3.1⟩
  ·simp[am] at hn
 case own t' v' l=>
  cases t<;>simp only[AV.fits] at hf<;>first|cases hf|skip
  simp only[AR] at h
  exact⟨h.2,rfl,by simp[cn],fun _=>h.1⟩
 case nils=>
  cases t<;>simp only[AV.fits] at hf<;>first|cases hf|skip
  simp only[AR] at h
  exact⟨h.2,rfl,by simp[cn],fun _=>h.1⟩
 case st ts l=>
  cases t<;>simp only[AV.fits] at hf<;>first|cases hf|skip
  simp only[AR] at h
  exact⟨h.2,rfl,fun _=>h.1,by simp[cn]⟩
 all_goals (cases t<;>simp[AV.fits] at hf)
theorem rB{c:Cx}{t:Ty}{a:AV}{v:Value}{cs:List Value}(hf:AV.fits t a=true)(h:AC c a cs)(hv:fg t cs v):AR c a v:=by
 obtain⟨hv1,hv2⟩:=hv
 cases a
 case d t' x=>
  have hf':t.beq t'=true:=by cases t<;>simpa only[AV.fits] using hf
  have he:=Ty.eq_of_beq _ _ hf'
  subst he
  simp only[AC] at h
  simp only[AR]
  exact .inl ⟨h.2.1,h.1,pj h.1 h.2.1 hv2,by rw[hv1];exact h.2.2⟩
 case own t' v' l=>
  cases t<;>simp only[AV.fits] at hf<;>first|cases hf|skip
  simp only[AR]
  exact⟨hv2.2 rfl,by rw[hv1];exact h⟩
 case nils=>
  cases t<;>simp only[AV.fits] at hf<;>first|cases hf|skip
  simp only[AR]
  exact⟨hv2.2 rfl,by rw[hv1];exact h⟩
 case st ts l=>
  cases t<;>simp only[AV.fits] at hf<;>first|cases hf|skip
  simp only[AR]
  exact⟨hv2.1 rfl,by rw[hv1];exact h⟩
 all_goals (cases t<;>simp[AV.fits] at hf)
theorem g6{P:Program}{t:Ty}{T:TypeId}(hl:bh P t T=true){w:World}{b off:Nat}{cs:List Value}(hlen:cs.length=t.size)(hn:nag cs)
  (hc:∀ (i:Nat) (c:Value),cs[i]?=some c->w.cell? ⟨b,off+i,none⟩=some c):∃ v,(Instr.loadAt T (.pointer (some ⟨b,off,none⟩))).run P w=.ok v w/\fg t cs v:=by
 unfold Instr.loadAt Instr.sureAddr
 simp only[pure_bind]
 unfold loadVar
 rw[Sem.run_bind,yK hl,Result.andThen_ok]
 cases ha:cn t
 ·have h1:cs.length=1:=by
   rw[hlen]
   cases t<;>simp[cn] at ha<;>first|rfl|(exfalso;exact rY hl (.inl ⟨_,rfl⟩))
  match cs,h1 with
  | [c],_=>
   refine⟨c,?_,?_⟩
   ·have:=hc 0 c rfl
    simp only[Nat.add_zero] at this
    simp[this]
   ·have h2:=hn c (by simp)
    refine⟨?_,?_,?_⟩
    ·cases c<;>simp_all [Value.cells,Value.oneCell']
    ·rw[ha];intro h;cases h
    ·intro _ xs h;subst h;simp[Value.oneCell'] at h2
 ·have h2:=run_loadCells_list (P:=P) w ⟨b,off,none⟩ cs (fun j v hv=>by rw[cD];exact hc j v hv)
  rw[hlen] at h2
  refine⟨.agg cs.toArray,?_,rfl,fun _=>⟨_,rfl⟩,by rw[ha];intro h;cases h⟩
  simp only[if_true,Sem.run_bind,bG hl,Result.andThen_ok,h2,Sem.run_pure]
theorem mB{P:Program}{t:Ty}{T:TypeId}(hl:bh P t T=true){w:World}{b off:Nat}{c:Array Value}{v:Value}{cs:List Value}(hr:bw w b=some c)(hv:fg t cs v)(hlen:cs.length=t.size)(hn:nag cs)(hb:off+cs.length<=c.size) :
  (Instr.storeAt T (.pointer (some ⟨b,off,none⟩)) v).run P w=.ok () (putAt w b off cs.toArray):=by
 unfold Instr.storeAt Instr.sureAddr
 simp only[pure_bind]
 unfold storeVar
 have h1:v.cells.size=t.size:=by rw[<-Array.length_toList,hv.1,hlen]
 have h2:=cO (P:=P) b off cs 0 w c hr (by omega) (by
  rw[List.all_eq_true];intro x hx;have:=hn x hx;cases x<;>simp_all [Value.oneCell',jN])
 simp only[Nat.add_zero] at h2
 simp only[Sem.run_bind,bG hl,Result.andThen_ok,h1,ne_eq,not_true_eq_false,if_false,hv.1,h2]
end Sy
end
end Go.Proofs.YtpahompifldeeaaGreat
