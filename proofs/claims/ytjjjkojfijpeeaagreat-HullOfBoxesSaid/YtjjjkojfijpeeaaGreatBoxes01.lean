/- Part 1 of the proof that HullOfBoxes answers true at every input -/
import Derived.WalkKit
import Derived.WalkSpells
import Derived.WalkLawsBesides
import Derived.Deep.QuietTactic
import Derived.BigQuiet
import Derived.Deep.Draws
import Derived.Lib.Hide
import Derived.StillTail
import Derived.Laws.StructEq
import Derived.ProofKit
import Derived.Deep.Slices
import Derived.OpenShut
set_option linter.unusedVariables false
set_option linter.unusedSimpArgs false
set_option linter.unnecessarySimpa false
section
namespace Go.Proofs.YtjjjkojfijpeeaaGreat
open Go.RowKit
def aw(w:World)(os:List Obj)(d:Nat):World:={ w with heap:=w.heap++os.toArray,drawn:=d }
def bp(w:World)(b:Nat):Option (Array Value):=
 match w.heap[b]? with
 | some (.cells c _ (0,0))=>some c
 | _=>none
def iu(b:Nat)(w:World):Prop:=b<w.heap.size
def Ib(b:Nat)(w:World)(os:List Obj):Prop:=b<os.length+w.heap.size
section
variable(w:World)(os os':List Obj)(d d':Nat)(o:Obj)(a:Addr)(v:Value)(b:Nat)
@[simp,go_sem] theorem size_grown:(aw w os d).heap.size=os.length+w.heap.size:=by simp[aw];omega
@[simp,go_sem] theorem tape_grown:(aw w os d).tape=w.tape:=rfl
@[simp,go_sem] theorem drew_grown:(aw w os d).drew=aw w os (d+1):=rfl
@[simp,go_sem] theorem drewN_grown (n:Nat):(aw w os d).drewN n=aw w os (d+n):=rfl
theorem cG{b:Nat}(h:b<w.heap.size):(aw w os d).heap[b]?=w.heap[b]?:=by
 simp[aw,Array.getElem?_append,h]
theorem A0:aw w [] w.drawn=w:=by simp[aw]
theorem dH:w.alloc o=aw w [o] w.drawn:=by
 show({ w with heap:=w.heap.push o }:World)=_
 simp only[aw,Array.push_eq_append]
@[simp,go_sem] theorem row?_drew:bp w.drew b=bp w b:=rfl
@[simp,go_sem] theorem row?_drewN (n:Nat):bp (w.drewN n) b=bp w b:=rfl
theorem qU{c:Array Value}{t:TypeId}(h:b=w.heap.size):bp (w.alloc (.cells c t)) b=some c:=by
 subst h
 show(match (w.heap.push (.cells c t))[w.heap.size]? with|some (.cells c _ (0,0))=>some c|_=>none)=_
 simp
@[simp,go_sem] theorem inHeap_setCell:iu b (w.setCell a v)=iu b w:=by simp[iu]
@[simp,go_sem] theorem inHeap_drew:iu b w.drew=iu b w:=rfl
@[simp,go_sem] theorem inHeap_drewN (n:Nat):iu b (w.drewN n)=iu b w:=rfl
theorem bE{b:Nat}{c:Array Value}(h:bp w b=some c)(j:Nat):w.cell? ⟨b,j,none⟩=c[j]?:=by
 unfold bp at h
 split at h<;>simp at h
 rename_i hb
 subst h
 simp[World.cell?,hb]
theorem r0{b:Nat}{c:Array Value}(h:bp w b=some c)(j:Nat):w.frozen? ⟨b,j,none⟩=false:=by
 unfold bp at h
 split at h<;>simp at h
 rename_i hb
 simp[World.frozen?,hb]
def cL(c:Array Value)(off:Nat)(cs:Array Value):Array Value:=c.extract 0 off++cs++c.extract (off+cs.size) c.size
theorem gS(c cs:Array Value)(off j:Nat)(h:off+cs.size<=c.size):(cL c off cs)[j]?=if j<off then c[j]? else if j<off+cs.size then cs[j-off]? else c[j]?:=by
 simp only[cL,Array.getElem?_append,Array.getElem?_extract,Array.size_append,Array.size_extract]
 rw[show min off c.size-0=off from by omega,show min c.size c.size=c.size from by omega]
 by_cases h1:j<off
 ·rw[if_pos (by omega),if_pos h1,if_pos h1,if_pos (by omega)];simp
 ·rw[if_neg h1]
  by_cases h2:j<off+cs.size
  ·rw[if_pos (by omega),if_neg h1,if_pos h2]
  ·rw[if_neg (by omega),if_neg h2]
   by_cases h3:j<c.size
   ·rw[if_pos (by omega),show off+cs.size+(j-(off+cs.size))=j from by omega,if_neg h1]
   ·rw[if_neg (by omega),Array.getElem?_eq_none (by omega),if_neg h1]
@[simp,go_sem] theorem splice_size (c cs:Array Value) (off:Nat) (h:off+cs.size<=c.size):(cL c off cs).size=c.size:=by
 simp[cL];omega
theorem o9(c:Array Value)(k:Nat)(v:Value)(l:List Value)(h:k+(l.length+1)<=c.size) :
  cL (c.setIfInBounds k v) (k+1) l.toArray=cL c k (v::l).toArray:=by
 apply Array.ext_getElem?
 intro j
 rw[gS _ _ _ _ (by simp;omega),gS _ _ _ _ (by simpa using h)]
 simp only[Array.getElem?_setIfInBounds,List.size_toArray,List.length_cons,List.getElem?_toArray]
 by_cases h1:j<k
 ·rw[if_pos (by omega),if_neg (by omega),if_pos h1]
 ·by_cases h2:j=k
  ·subst h2
   rw[if_pos (by omega),if_pos rfl,if_pos (by omega),if_neg (by omega),if_pos (by omega)]
   simp
  ·rw[if_neg (by omega),if_neg h1]
   by_cases h3:j<k+(l.length+1)
   ·rw[if_pos (by omega),if_pos h3,show j-k=(j-(k+1))+1 from by omega]
    simp
   ·rw[if_neg (by omega),if_neg h3,if_neg (by omega)]
def bg(w:World)(b off:Nat)(cs:Array Value):World:=
 { w with heap:=w.heap.modify b fun
   | .cells c e f=>.cells (cL c off cs) e f
   | o=>o }
@[simp,go_sem] theorem inHeap_putAt (b' off:Nat) (cs:Array Value):iu b' (bg w b off cs)=iu b' w:=by simp[iu,bg]
@[simp,go_sem] theorem size_putAt (off:Nat) (cs:Array Value):(bg w b off cs).heap.size=w.heap.size:=by simp[bg]
@[simp,go_sem] theorem tape_putAt (off:Nat) (cs:Array Value):(bg w b off cs).tape=w.tape:=rfl
end
attribute [irreducible] iu Ib
def yu(P:Program)(T:TypeId)(a:Addr)(w:World):Result Value:=(loadVar T a).run P w
def yv(P:Program)(T:TypeId)(a:Addr)(v:Value)(w:World):Result Unit:=(storeVar T a v).run P w
def H6(P:Program)(T:TypeId)(b off n:Nat)(w:World):Option (Array Value)->Result Value
 | some c=>if off+n<=c.size then .ok (.agg (c.extract off (off+n))) w else yu P T ⟨b,off,none⟩ w
 | none=>yu P T ⟨b,off,none⟩ w
@[simp,go_sem] theorem ldRow_some (P:Program) (T:TypeId) (b off n:Nat) (w:World) (c:Array Value) :
  H6 P T b off n w (some c)=if off+n<=c.size then .ok (.agg (c.extract off (off+n))) w else yu P T ⟨b,off,none⟩ w:=rfl
def rR:Value->Bool
 | .agg _|.tuple _=>false
 | _=>true
def Ig(cs:Array Value):Bool:=cs.all rR
def Iw(P:Program)(T:TypeId)(b off:Nat)(cs:Array Value)(w:World):Option (Array Value)->Result Unit
 | some c=>if off+cs.size<=c.size/\Ig cs=true then .ok () (bg w b off cs) else yv P T ⟨b,off,none⟩ (.agg cs) w
 | none=>yv P T ⟨b,off,none⟩ (.agg cs) w
@[simp,go_sem] theorem stRow_some (P:Program) (T:TypeId) (b off:Nat) (cs:Array Value) (w:World) (c:Array Value) :
  Iw P T b off cs w (some c)=if off+cs.size<=c.size/\Ig cs=true then .ok () (bg w b off cs) else yv P T ⟨b,off,none⟩ (.agg cs) w:=rfl
theorem yj{P:Program}{T:TypeId}{n:Nat}(h:(P.info? T).map (·.size)=some n)(w:World):(sizeOf T).run P w=.ok n w:=by
 cases hq:P.info? T with
 | none=>simp[hq] at h
 | some i=>
  have hs:i.size=n:=by simpa [hq] using h
  simp[sizeOf,typeInfo,hq,hs]
theorem bR(b off j:Nat):(⟨b,off,none⟩:Addr).add j=⟨b,off+j,none⟩:=by unfold Addr.add;split<;>simp_all
theorem ce{P:Program}(b off:Nat):∀ (l:List Value) (i:Nat) (w:World) (c:Array Value),bp w b=some c->off+i+l.length<=c.size->l.all rR=true ->
  (storeCells ⟨b,off,none⟩ l i).run P w=.ok () (bg w b (off+i) l.toArray)
 | [],i,w,c,hr,_,_=>by
  simp only[storeCells,Sem.run_pure]
  congr 1
  unfold bp at hr
  split at hr<;>simp at hr
  rename_i hb
  subst hr
  have hlt:=(Array.getElem?_eq_some_iff.1 hb)
  obtain⟨hlt,hb'⟩:=hlt
  simp only[bg]
  have:w.heap.modify b (fun|.cells c e f=>.cells (cL c (off+i) #[]) e f|o=>o)=w.heap:=by
   apply Array.ext
   ·simp
   ·intro j h1 h2
    simp only[Array.getElem_modify]
    split
    ·rename_i h3;subst h3;simp[hb',cL];right;omega
    ·rfl
  simp only[this]
 | v::l,i,w,c,hr,hlen,hone=>by
  simp only[List.all_cons,Bool.and_eq_true] at hone
  simp only[List.length_cons] at hlen
  have hc:w.cell? ⟨b,off+i,none⟩=some c[off+i]:=by
   rw[bE w hr,Array.getElem?_eq_getElem (by omega)]
  have hf:w.frozen? ⟨b,off+i,none⟩=false:=r0 w hr _
  simp only[storeCells,Sem.run_bind]
  have hst:(store ((⟨b,off,none⟩:Addr).add i) v).run P w=.ok () (w.setCell ⟨b,off+i,none⟩ v):=by
   rw[bR]
   unfold store
   cases v<;>simp_all [Sem.run,rR]
  rw[hst]
  simp only[Result.andThen_ok]
  have hr':bp (w.setCell ⟨b,off+i,none⟩ v) b=some (c.setIfInBounds (off+i) v):=by
   unfold bp at hr ⊢
   split at hr<;>simp at hr
   rename_i hb
   subst hr
   simp only[World.setCell,Array.getElem?_modify,if_true,hb,Option.map_some,Option.isSome_none,Bool.false_eq_true,if_false]
  rw[ce b off l (i+1) _ _ hr' (by simp;omega) hone.2]
  congr 1
  unfold bp at hr
  split at hr<;>simp at hr
  rename_i hb
  subst hr
  obtain⟨hlt,hb'⟩:=(Array.getElem?_eq_some_iff.1 hb)
  simp only[bg,World.setCell]
  congr 1
  apply Array.ext
  ·simp
  ·intro j h1 h2
   simp only[Array.getElem_modify]
   split
   ·rename_i h3;subst h3
    simp only[hb',Option.isSome_none,Bool.false_eq_true,if_false]
    rw[<-o9 _ _ _ _ (by omega)]
    rfl
   ·rfl
def jS(place:Nat->Option (Nat×Nat))(cells:Array Value):List (Nat×Value)->Option (Array Value)
 | []=>some cells
 | (i,v)::rest=>
  match place i with
  | none=>none
  | some (off,size)=>if v.cells.size≠size\/off+v.cells.size>cells.size then none else jS place (cL cells off v.cells) rest
theorem mX(off:Nat):∀ (l:List Value) (k:Nat) (cells:Array Value),off+k+l.length<=cells.size ->
  (l.zipIdx k).foldl (fun cs (c,j)=>cs.setIfInBounds (off+j) c) cells=cL cells (off+k) l.toArray
 | [],k,cells,_=>by
  simp only[List.zipIdx_nil,List.foldl_nil,cL]
  apply Array.ext_getElem?
  intro j
  simp only[Array.getElem?_append,Array.getElem?_extract,Array.size_append,Array.size_extract,List.size_toArray,List.length_nil]
  by_cases h:j<off+k
  ·by_cases h2:j<cells.size
   ·rw[if_pos (by omega),if_pos (by omega),if_pos (by omega)];simp
   ·rw[Array.getElem?_eq_none (by omega)];repeat' split
    all_goals first|rfl|omega|(rw[Array.getElem?_eq_none (by omega)])
  ·by_cases h2:j<cells.size
   ·rw[if_neg (by omega),if_pos (by omega)];congr 1;omega
   ·rw[Array.getElem?_eq_none (by omega),if_neg (by omega),if_neg (by omega)]
 | v::l,k,cells,h=>by
  simp only[List.length_cons] at h
  simp only[List.zipIdx_cons,List.foldl_cons]
  rw[mX off l (k+1) _ (by simp;omega),show off+(k+1)=(off+k)+1 from by omega,o9 _ _ _ _ (by omega)]
theorem nc(place:Nat->Option (Nat×Nat)):∀ (l:List (Nat×Value)) (cells:Array Value),Instr.fill place cells l=jS place cells l
 | [],cells=>rfl
 | (i,v)::rest,cells=>by
  simp only[Instr.fill,jS]
  cases place i with
  | none=>rfl
  | some q=>
   obtain⟨off,size⟩:=q
   by_cases h:v.cells.size≠size\/off+v.cells.size>cells.size
   ·simp[h]
   ·simp only[h,if_false]
    have h':¬ (v.cells.size≠size||decide (off+v.cells.size>cells.size))=true:=by simpa using h
    have hle:off+0+v.cells.toList.length<=cells.size:=by simp;omega
    have e:=mX off v.cells.toList 0 cells hle
    simp only[Nat.add_zero,Array.toArray_toList] at e
    have e2:v.cells.zipIdx.foldl (fun cs (c,j)=>cs.setIfInBounds (off+j) c) cells=cL cells off v.cells:=by
     rw[<-e,<-Array.foldl_toList];simp
    simp only[h',if_false,Bool.false_eq_true,e2]
    exact nc place rest _
theorem rS{place:Nat->Option (Nat×Nat)}{cells:Array Value}{i off size:Nat}{v:Value}{rest:List (Nat×Value)}(hp:place i=some (off,size))(h1:v.cells.size=size)(h2:off+size<=cells.size) :
  jS place cells ((i,v)::rest)=jS place (cL cells off v.cells) rest:=by
 simp only[jS,hp]
 rw[if_neg (by omega)]
section
variable{α:Type}{enc:α->Array Value}{c:Nat}(hc:∀ x,(enc x).size=c)
include hc
def pB(f:Nat->α)(k:Nat)(y:α):Nat->α:=fun i=>if i=k then y else f i
end
end Go.Proofs.YtjjjkojfijpeeaaGreat
end
section
namespace Go.Proofs.YtjjjkojfijpeeaaGreat.Sy
open Go
inductive Ty where
 | int (k:IntKind)|bool|str|st (l:List Ty)|arr (n:Nat) (t:Ty)|sl (t:Ty)|tup (l:List Ty)|fn
mutual
def Ty.beq:Ty->Ty->Bool
 | .int k,.int k'=>decide (k=k')
 | .bool,.bool=>true
 | .str,.str=>true
 | .st l,.st l'=>Ty.beqs l l'
 | .arr n t,.arr n' t'=>decide (n=n')&&Ty.beq t t'
 | .sl t,.sl t'=>Ty.beq t t'
 | .tup l,.tup l'=>Ty.beqs l l'
 | .fn,.fn=>true
 | _,_=>false
def Ty.beqs:List Ty->List Ty->Bool
 | [],[]=>true
 | t::l,t'::l'=>Ty.beq t t'&&Ty.beqs l l'
 | _,_=>false
end
mutual
theorem Ty.eq_of_beq:∀ (t t':Ty),t.beq t'=true->t=t'
 | .int k,t',h=>by cases t'<;>simp[Ty.beq] at h;rw[h]
 | .bool,t',h=>by cases t'<;>simp[Ty.beq] at h;rfl
 | .str,t',h=>by cases t'<;>simp[Ty.beq] at h;rfl
 | .st l,t',h=>by cases t'<;>simp[Ty.beq] at h;rw[Ty.eqs_of_beqs _ _ h]
 | .arr n t,t',h=>by cases t'<;>simp[Ty.beq] at h;rw[h.1,Ty.eq_of_beq _ _ h.2]
 | .sl t,t',h=>by cases t'<;>simp[Ty.beq] at h;rw[Ty.eq_of_beq _ _ h]
 | .tup l,t',h=>by cases t'<;>simp[Ty.beq] at h;rw[Ty.eqs_of_beqs _ _ h]
 | .fn,t',h=>by cases t'<;>simp[Ty.beq] at h;rfl
theorem Ty.eqs_of_beqs:∀ (l l':List Ty),Ty.beqs l l'=true->l=l'
 | [],l',h=>by cases l'<;>simp[Ty.beqs] at h;rfl
 | t::l,l',h=>by
  cases l' with
  | nil=>simp[Ty.beqs] at h
  | cons t' l'=>simp[Ty.beqs] at h;rw[Ty.eq_of_beq _ _ h.1,Ty.eqs_of_beqs _ _ h.2]
end
mutual
def Ty.size:Ty->Nat
 | .st l=>Ty.sizes l
 | .arr n t=>n*t.size
 | .tup _=>0
 | _=>1
def Ty.sizes:List Ty->Nat
 | []=>0
 | t::l=>t.size+Ty.sizes l
end
inductive D where
 | int (k:IntKind) (n:Int)|bool (b:Bool)|str (s:ByteArray)|st (l:List D)|sl (l:List D)|tup (l:List D)
instance:Inhabited D:=⟨.bool false⟩
mutual
def D.flat:D->List D
 | .st l=>D.flats l
 | .int k n=>[.int k n]
 | .bool b=>[.bool b]
 | .str s=>[.str s]
 | .sl l=>[.sl l]
 | .tup l=>[.tup l]
def D.flats:List D->List D
 | []=>[]
 | d::l=>D.flat d++D.flats l
end
mutual
def wt:Ty->D->Prop
 | .int k,d=>∃ n,d=.int k n
 | .bool,d=>∃ b,d=.bool b
 | .str,d=>∃ s,d=.str s
 | .st ts,d=>∃ l,d=.st l/\gn ts l
 | .arr n t,d=>∃ l,d=.st l/\l.length=n/\∀ x∈l,wt t x
 | .sl t,d=>∃ l,d=.sl l/\∀ x∈l,wt t x
 | .tup ts,d=>∃ l,d=.tup l/\gn ts l
 | .fn,_=>False
def gn:List Ty->List D->Prop
 | [],l=>l=[]
 | t::ts,l=>∃ d l',l=d::l'/\wt t d/\gn ts l'
end
mutual
def D.beq:D->D->Bool
 | .int k n,.int k' n'=>decide (k=k')&&decide (n=n')
 | .bool b,.bool b'=>b==b'
 | .str s,.str s'=>decide (s=s')
 | .st l,.st l'=>D.beqs l l'
 | _,_=>false
def D.beqs:List D->List D->Bool
 | [],[]=>true
 | t::l,t'::l'=>D.beq t t'&&D.beqs l l'
 | _,_=>false
end
mutual
def aA:Ty->D
 | .int k=>.int k 0
 | .bool=>.bool false
 | .str=>.str ByteArray.empty
 | .st l=>.st (fD l)
 | .arr n t=>.st (List.replicate n (aA t))
 | .sl _=>.sl []
 | .tup l=>.tup (fD l)
 | .fn=>.bool false
def fD:List Ty->List D
 | []=>[]
 | t::l=>aA t::fD l
end
mutual
def GI:Ty->Bool
 | .st l=>vm l
 | .arr _ t=>GI t
 | .sl _=>true
 | .tup _=>true
 | .fn=>true
 | _=>false
def vm:List Ty->Bool
 | []=>false
 | t::l=>GI t||vm l
end
mutual
def af:Ty->Bool
 | .st l=>aY l
 | .arr _ t=>af t
 | .sl t=>af t
 | .tup _=>false
 | .fn=>false
 | _=>true
def aY:List Ty->Bool
 | []=>true
 | t::l=>af t&&aY l
end
inductive AV where
 | d (t:Ty) (x:D)
 | own (t:Ty) (v:Nat) (l:List D)
 | nils
 | ptr (t:Ty) (id:Nat) (p:List Nat)
 | fptr (t:Ty) (x:D)
 | mem (t:Ty) (id:Nat)
 | st (ts:List Ty) (l:List AV)
 | clo (f:Nat) (l:List AV)
 | map (kt vt:Ty) (id:Nat)
 | sub (sl:Bool) (t:Ty) (id:Nat) (p:List Nat) (lo n:Nat)
 | gone
 | undef
instance:Inhabited AV:=⟨.undef⟩
inductive Ob where
 | one (t:Ty) (v:AV)
 | many (t:Ty) (l:List D)
 | mp (kt vt:Ty) (l:List D)
def D.fld:D->Nat->Option D
 | .st l,i=>l[i]?
 | _,_=>none
def D.tupAt:D->Nat->Option D
 | .tup l,i=>l[i]?
 | _,_=>none
def D.get:D->List Nat->Option D
 | x,[]=>some x
 | x,i::p=>(x.fld i).bind fun y=>y.get p
def D.set:D->List Nat->D->Option D
 | _,[],y=>some y
 | .st l,i::p,y=>(l[i]?).bind fun z=>(D.set z p y).bind fun z'=>some (.st (l.set i z'))
 | _,_::_,_=>none
def D.asSl:D->Option (List D)
 | .sl l=>some l
 | _=>none
def D.stl:D->Option (List D)
 | .st l=>some l
 | _=>none
def D.asInt:D->Option (IntKind×Int)
 | .int k n=>some (k,n)
 | _=>none
def D.truth:D->Option Bool
 | .bool b=>some b
 | _=>none
def D.idx:D->Nat->Option Nat
 | .int _ i,n=>if 0<=i/\i<(n:Int) then some i.toNat else none
 | _,_=>none
def D.strAt:D->D->Option D
 | .str s,.int _ i=>(if 0<=i then s[i.toNat]? else none).bind fun b=>some (.int .u8 b.toNat)
 | _,_=>none
def D.conv(k:IntKind):D->Option D
 | .int _ n=>some (.int k (k.wrap n))
 | _=>none
def D.bitOp(op:BinOp)(k:IntKind)(x y:Int):Option D:=
 match op with
 | .and=>some (.int k (k.wrap (BitVec.ofInt k.bits x &&& BitVec.ofInt k.bits y).toNat))
 | .or=>some (.int k (k.wrap (BitVec.ofInt k.bits x ||| BitVec.ofInt k.bits y).toNat))
 | .xor=>some (.int k (k.wrap (BitVec.ofInt k.bits x ^^^ BitVec.ofInt k.bits y).toNat))
 | .andNot=>some (.int k (k.wrap (BitVec.ofInt k.bits x &&& ~~~ BitVec.ofInt k.bits y).toNat))
 | _=>none
def D.bin(op:BinOp):D->D->Option D
 | .int k a,.int k' b=>
  match op with
  | .shl=>if b<0 then none else some (.int k (k.wrap (a*2^(min b.toNat k.bits))))
  | .shr=>if b<0 then none else some (.int k (a.fdiv (2^(min b.toNat k.bits))))
  | _=>if k=k' then
   match op with
   | .add=>some (.int k (k.wrap (a+b)))
   | .sub=>some (.int k (k.wrap (a-b)))
   | .mul=>some (.int k (k.wrap (a*b)))
   | .quo=>if b=0 then none else some (.int k (k.wrap (a.tdiv b)))
   | .rem=>if b=0 then none else some (.int k (a.tmod b))
   | .eql=>some (.bool (a==b))
   | .neq=>some (.bool (a != b))
   | .lss=>some (.bool (decide (a<b)))
   | .leq=>some (.bool (decide (a<=b)))
   | .gtr=>some (.bool (decide (a>b)))
   | .geq=>some (.bool (decide (a ≥ b)))
   | .and=>D.bitOp .and k a b
   | .or=>D.bitOp .or k a b
   | .xor=>D.bitOp .xor k a b
   | .andNot=>D.bitOp .andNot k a b
   | _=>none
   else none
 | _,_=>none
def D.un(op:UnOp):D->Option D
 | .int k n=>match op with
  | .neg=>some (.int k (k.wrap (0-n)))
  | .xor=>D.bitOp .xor k (if k.signed then -1 else k.max) n
  | _=>none
 | .bool b=>match op with
  | .not=>some (.bool (!b))
  | _=>none
 | _=>none
def D.min2:D->D->Option D
 | .int k x,.int _ y=>some (.int k (if y<x then y else x))
 | _,_=>none
def D.max2:D->D->Option D
 | .int k x,.int _ y=>some (.int k (if y>x then y else x))
 | _,_=>none
def D.cut(l:List D)(lo hi:Nat):Option (List D):=if lo<=hi/\hi<=l.length then some ((l.take hi).drop lo) else none
def D.natOf:D->Option Nat
 | .int _ i=>if 0<=i then some i.toNat else none
 | _=>none
def D.putParts:List D->List (Nat×D)->List D
 | l,[]=>l
 | l,(i,x)::r=>D.putParts (l.set i x) r
def aI:Ty->List Nat->Option Ty
 | t,[]=>some t
 | .st ts,i::p=>(ts[i]?).bind fun t=>aI t p
 | .arr _ t,_::p=>aI t p
 | _,_=>none
def aL:Ty->List Nat->Nat
 | _,[]=>0
 | .st ts,i::p=>Ty.sizes (ts.take i)+aL (ts.getD i .bool) p
 | .arr _ t,i::p=>i*t.size+aL t p
 | _,_=>0
def ss{R:Type}:AV->List Nat->(AV->Option R)->Option R
 | .d t x,p,k=>match p with
  | []=>k (.d t x)
  | i::p=>(aI t (i::p)).bind fun t'=>(x.get (i::p)).bind fun y=>k (.d t' y)
 | a,[],k=>k a
 | .st _ l,i::p,k=>(l[i]?).bind fun a=>ss a p k
 | _,_,_=>none
mutual
def AV.fits:Ty->AV->Bool
 | t,.d t' _=>t.beq t'
 | .sl t,.own t' _ _=>t.beq t'
 | .sl _,.nils=>true
 | .st ts,.st ts' l=>Ty.beqs ts ts'&&AV.fitss ts l
 | _,_=>false
def AV.fitss:List Ty->List AV->Bool
 | [],[]=>true
 | t::ts,a::l=>AV.fits t a&&AV.fitss ts l
 | _,_=>false
end
def zf{R:Type}:AV->List Nat->AV->(AV->Option R)->Option R
 | _,[],b,k=>k b
 | .d t x,i::p,b,k=>match b with
  | .d _ y=>(x.set (i::p) y).bind fun x'=>k (.d t x')
  | _=>none
 | .st ts l,i::p,b,k=>(l[i]?).bind fun a=>zf a p b fun a'=>k (.st ts (l.set i a'))
 | _,_::_,_,_=>none
mutual
def fI:Ty->AV
 | .sl _=>.nils
 | .st ts=>if vm ts then .st ts (iX ts) else .d (.st ts) (aA (.st ts))
 | t=>.d t (aA t)
def iX:List Ty->List AV
 | []=>[]
 | t::l=>fI t::iX l
end
def gt{R:Type}:Ob->List Nat->(AV->Option R)->Option R
 | .one _ v,p,k=>ss v p k
 | .many t l,i::p,k=>(l[i]?).bind fun x=>ss (.d t x) p k
 | .many ..,[],_=>none
 | .mp ..,_,_=>none
def fo:Ob->List Nat->Option Ty
 | .one t _,p=>aI t p
 | .many t _,_::p=>aI t p
 | .many ..,[]=>none
 | .mp ..,_=>none
structure St where
 tm:Nat->AV
 ob:Nat->Option Ob
 fresh:Nat
 dead:List Nat
 nt:Nat
 lkS:List Nat
 lkO:List Nat
def St.put(s:St)(dst:Option Nat)(v:AV):St:=
 match dst with
 | some t=>if t<s.nt then{ s with tm:=fun i=>if i=t then v else s.tm i } else s
 | none=>s
def St.base(s:St):Nat:=s.fresh*4096
def St.setOb(s:St)(id:Nat)(o:Option Ob):St:={ s with ob:=fun i=>if i=id then o else s.ob i }
mutual
def AV.toD(ob:Nat->Option Ob):Ty->AV->Option D
 | t,.d t' x=>if t.beq t' then some x else none
 | t,.own t' _ l=>if t.beq (.sl t') then some (.sl l) else none
 | t,.nils=>match t with
  | .sl _=>some (.sl [])
  | _=>none
 | t,.st ts' l=>if t.beq (.st ts') then(AV.toDl ob ts' l).bind fun xs=>some (.st xs) else none
 | _,_=>none
def AV.toDl(ob:Nat->Option Ob):List Ty->List AV->Option (List D)
 | [],[]=>some []
 | t::ts,a::l=>(AV.toD ob t a).bind fun x=>(AV.toDl ob ts l).bind fun xs=>some (x::xs)
 | _,_=>none
end
def AV.asList(ob:Nat->Option Ob)(t:Ty)(a:AV):Option (List D):=(AV.toD ob (.sl t) a).bind D.asSl
def AV.truth:AV->Option Bool
 | .d t x=>if t.beq .bool then x.truth else none
 | _=>none
inductive Sh where
 | dv (t:Ty)
 | ow (t:Ty)
 | same (a:AV)
 | st (ts:List Ty) (l:List Sh)
inductive ShO where
 | one (t:Ty) (h:Sh)
 | many (t:Ty)
 | mp (kt vt:Ty)
 | keep (t:Ty) (wit:Nat)
structure Shape where
 slots:List (Nat×Sh)
 objs:List (Nat×ShO)
 keepS:List Nat
inductive Ex where
 | normal|exit (id:Nat)|ret
def Ex.is:Ex->Ex->Bool
 | .normal,.normal=>true
 | .exit i,.exit j=>decide (i=j)
 | .ret,.ret=>true
 | _,_=>false
inductive Ann where
 | leaf
 | reg (fz:List Nat) (n:Nat)
 | regI (fz:List Nat) (n:Nat) (a:Ann)
 | two (a b:Ann)
 | cut (exits:List (Ex×Shape)) (keepS keepO:List Nat) (a b:Ann)
 | loop (h:Shape) (exits:List (Ex×Shape)) (a:Ann)
def Ann.fz:Ann->List Nat|.reg fz _=>fz|.regI fz _ _=>fz|_=>[]
def Ann.heads(m:Nat):Ann->Nat|.reg _ n=>n|.regI _ n _=>n|_=>m
def Ann.inner:Ann->Ann|.regI _ _ a=>a|_=>.leaf
def Ann.fst:Ann->Ann|.two a _=>a|.cut _ _ _ a _=>a|.loop _ _ a=>a|_=>.leaf
def Ann.snd:Ann->Ann|.two _ b=>b|.cut _ _ _ _ b=>b|_=>.leaf
structure Env where
 L:Nat->Option Ty
 sig:Nat->Option (List Ty×Ty)
 call:Nat->List D->Option D
 mapL:Nat->Option (Ty×Ty)
 lp:{α β:Type}->(α->Option (Sum α β))->α->Option β
 inl:Nat->Option (Ann->(R:Type)->St->List AV->(AV->St->Option R)->Option R)
def Cw:Value->AV
 | .int k n=>.d (.int k) (.int k n)
 | .bool b=>.d .bool (.bool b)
 | .string s=>.d .str (.str s)
 | .slice none 0 0=>.nils
 | _=>.undef
def St.opA(s:St):Operand->AV
 | .tmp t=>s.tm t
 | .const v=>Cw v
 | _=>.undef
def isD:AV->Option (Ty×D)
 | .d t x=>some (t,x)
 | _=>none
mutual
def aW:Ty->Bool
 | .int _=>true
 | .bool=>true
 | .st ts=>kz ts
 | .arr _ t=>aW t
 | _=>false
def kz:List Ty->Bool
 | []=>true
 | t::l=>aW t&&kz l
end
def partsD(ob:Nat->Option Ob)(s:St)(ty:Nat->Option Ty):List (Nat×Operand)->Option (List (Nat×D))
 | []=>some []
 | (i,x)::r=>(ty i).bind fun t=>(AV.toD ob t (s.opA x)).bind fun y=>(partsD ob s ty r).bind fun ys=>some ((i,y)::ys)
def ft(s:St)(ts:List Ty)(p:Nat×Operand):Bool:=match ts[p.1]? with|some u=>AV.fits u (s.opA p.2)|none=>false
def lE:AV->Bool
 | .ptr ..=>true
 | _=>false
def kL:List AV->List (Nat×AV)->List AV
 | l,[]=>l
 | l,(i,x)::r=>kL (l.set i x) r
def D.mget:List D->D->Option D
 | [],_=>none
 | .st [k,v]::l,x=>if D.beq x k then some v else D.mget l x
 | _::l,x=>D.mget l x
def D.mput:List D->D->D->List D
 | [],x,y=>[.st [x,y]]
 | .st [k,v]::l,x,y=>if D.beq x k then .st [k,y]::l else .st [k,v]::D.mput l x y
 | e::l,x,y=>e::D.mput l x y
def qv{R:Type}(E:Env)(s:St)(o:Oper)(K:AV->Option R):Option R:=
 match o.op with
 | .move x=>K (s.opA x)
 | .assign x=>K (s.opA x)
 | .pick c a b=>(s.opA c).truth.bind fun c=>if c then K (s.opA a) else K (s.opA b)
 | .alloc T=>(E.L T).bind fun t=>o.dst.bind fun d=>K (.ptr t (s.base+d) [])
 | .load T a=>(E.L T).bind fun t=>match s.opA a with
  | .ptr t' id p=>if t.beq t' then(s.ob id).bind fun o=>gt o p K else none
  | .fptr t' x=>if t.beq t' then K (.d t' x) else none
  | .sub sl e id p lo n=>if !sl&&t.beq (.arr n e) then(s.ob id).bind fun o=>gt o p fun v=>match v with
    | .d (.arr _ e') (.st l)=>if e'.beq e&&decide (lo+n<=l.length) then K (.d (.arr n e) (.st ((l.drop lo).take n))) else none
    | _=>none
   else none
  | _=>none
 | .fieldAddr T x f=>(E.L T).bind fun t=>match t,s.opA x with
  | .st ts,.ptr t' id p=>if t'.beq (.st ts) then(ts[f]?).bind fun u=>K (.ptr u id (p++[f])) else none
  | .st ts,.fptr t' y=>if t'.beq (.st ts) then(ts[f]?).bind fun u=>(y.fld f).bind fun z=>K (.fptr u z) else none
  | _,_=>none
 | .indexAddr T x i=>(E.L T).bind fun t=>(isD (s.opA i)).bind fun ix=>match t with
  | .arr n e=>match s.opA x with
   | .ptr t' id p=>if t'.beq (.arr n e) then(ix.2.idx n).bind fun k=>K (.ptr e id (p++[k])) else none
   | .fptr t' y=>if t'.beq (.arr n e) then(ix.2.idx n).bind fun k=>(y.fld k).bind fun z=>K (.fptr e z) else none
   | _=>none
  | .sl e=>match s.opA x with
   | .mem t' id=>if t'.beq e then match s.ob id with
     | some (.many _ l)=>(ix.2.idx l.length).bind fun k=>K (.ptr e id [k])
     | _=>none
    else none
   | a=>(a.asList s.ob e).bind fun l=>(ix.2.idx l.length).bind fun k=>(l[k]?).bind fun y=>K (.fptr e y)
  | _=>none
 | .field T x f=>(E.L T).bind fun t=>match t,s.opA x with
  | .st ts,.d t' y=>if t'.beq (.st ts) then(ts[f]?).bind fun u=>(y.fld f).bind fun z=>K (.d u z) else none
  | _,_=>none
 | .index T x i=>(E.L T).bind fun t=>(isD (s.opA i)).bind fun ix=>match t,s.opA x with
  | .arr n e,.d t' y=>if t'.beq (.arr n e) then(ix.2.idx n).bind fun k=>(y.fld k).bind fun z=>K (.d e z) else none
  | .str,.d t' y=>if t'.beq .str then(D.strAt y ix.2).bind fun z=>K (.d (.int .u8) z) else none
  | _,_=>none
 | .binOp op T x y _=>(E.L T).bind fun t=>(isD (s.opA x)).bind fun a=>(isD (s.opA y)).bind fun b=>
  match op with
  | .eql=>if a.1.beq t&&b.1.beq t&&aW t then K (.d .bool (.bool (D.beq a.2 b.2))) else none
  | .neq=>if a.1.beq t&&b.1.beq t&&aW t then K (.d .bool (.bool (!(D.beq a.2 b.2)))) else none
  | .lss=>(D.bin .lss a.2 b.2).bind fun z=>K (.d .bool z)
  | .leq=>(D.bin .leq a.2 b.2).bind fun z=>K (.d .bool z)
  | .gtr=>(D.bin .gtr a.2 b.2).bind fun z=>K (.d .bool z)
  | .geq=>(D.bin .geq a.2 b.2).bind fun z=>K (.d .bool z)
  | op=>(D.bin op a.2 b.2).bind fun z=>K (.d a.1 z)
 | .unOp op _ x=>(isD (s.opA x)).bind fun a=>(D.un op a.2).bind fun z=>K (.d a.1 z)
 | .convert S T x=>(E.L S).bind fun u=>(E.L T).bind fun t=>(isD (s.opA x)).bind fun a=>
  match t with
  | .int k=>if a.1.beq u then(D.conv k a.2).bind fun z=>K (.d t z) else none
  | _=>none
 | .build T ps=>(E.L T).bind fun t=>match t with
  | .st ts=>if vm ts then(if ps.toList.all (ft s ts) then K (.st ts (kL (iX ts) (ps.toList.map fun p=>(p.1,s.opA p.2)))) else none)
   else(partsD s.ob s (fun i=>ts[i]?) ps.toList).bind fun l=>K (.d t (.st (D.putParts (fD ts) l)))
  | .arr n e=>(partsD s.ob s (fun i=>if i<n then some e else none) ps.toList).bind fun l=>K (.d t (.st (D.putParts (List.replicate n (aA e)) l)))
  | _=>none
 | .buildSlice T n ps=>(E.L T).bind fun t=>match t with
  | .sl e=>if n<=4096 then o.dst.bind fun d=>(partsD s.ob s (fun i=>if i<n then some e else none) ps.toList).bind fun l=>K (.own e (s.base+d) (D.putParts (List.replicate n (aA e)) l)) else none
  | _=>none
 | .extract x i=>match s.opA x with
  | .d (.tup ts) y=>(ts[i]?).bind fun u=>(y.tupAt i).bind fun z=>K (.d u z)
  | _=>none
 | .nilCheck x=>match s.opA x with
  | .ptr t id p=>K (.ptr t id p)
  | _=>none
 | .slice T x lo hi mx=>match mx with
  | some _=>none
  | none=>(E.L T).bind fun t=>match t with
   | .sl e=>((s.opA x).asList s.ob e).bind fun l=>
    (match lo with|none=>some 0|some i=>(isD (s.opA i)).bind fun a=>a.2.natOf).bind fun lo=>
    (match hi with|none=>some l.length|some i=>(isD (s.opA i)).bind fun a=>a.2.natOf).bind fun hi=>
    (D.cut l lo hi).bind fun l'=>K (.d t (.sl l'))
   | .arr m e=>match s.opA x with
    | .ptr t' id p=>if t'.beq (.arr m e) then
     (match lo with|none=>some 0|some i=>(isD (s.opA i)).bind fun a=>a.2.natOf).bind fun lo=>
     (match hi with|none=>some m|some i=>(isD (s.opA i)).bind fun a=>a.2.natOf).bind fun hi=>
     if lo<=hi/\hi<=m/\lo<m then K (.sub true e id p lo (hi-lo)) else none
     else none
    | _=>none
   | _=>none
 | .sliceToArrayPointer T x=>(E.L T).bind fun t=>match t,s.opA x with
  | .arr n e,.sub sl e' id p lo n'=>if sl&&e'.beq e&&decide (n<=n') then K (.sub false e id p lo n) else none
  | _,_=>none
 | .lookup T x i cok=>(E.mapL T).bind fun kv=>match s.opA x with
  | .map kt vt id=>if kt.beq kv.1&&vt.beq kv.2 then match s.ob id with
    | some (.mp kt' vt' l)=>if kt'.beq kt&&vt'.beq vt then(isD (s.opA i)).bind fun ix=>if ix.1.beq kt then
      match cok with
      | false=>K (.d vt ((D.mget l ix.2).getD (aA vt)))
      | true=>K (.d (.tup [vt,.bool]) (.tup [(D.mget l ix.2).getD (aA vt),.bool (D.mget l ix.2).isSome]))
      else none
     else none
    | _=>none
   else none
  | _=>none
 | .makeFunc fn first captured=>match fn with
  | .func f=>if first.size=0/\(captured.toList.all fun x=>lE (s.opA x))=true then K (.clo f (captured.toList.map s.opA)) else none
  | _=>none
 | .call c=>match c.callee with
  | .builtin .len=>(c.argTypes[0]?).bind fun T=>(E.L T).bind fun t=>(c.args[0]?).bind fun x=>match t with
   | .sl e=>match s.opA x with
    | .mem t' id=>if t'.beq e then match s.ob id with
      | some (.many _ l)=>K (.d (.int .i64) (.int .i64 l.length))
      | _=>none
     else none
    | a=>(a.asList s.ob e).bind fun l=>K (.d (.int .i64) (.int .i64 l.length))
   | .arr n _=>K (.d (.int .i64) (.int .i64 n))
   | _=>none
  | .builtin .min=>match c.args.toList with
   | [x,y]=>(isD (s.opA x)).bind fun a=>(isD (s.opA y)).bind fun b=>if a.1.beq b.1 then(D.min2 a.2 b.2).bind fun z=>K (.d a.1 z) else none
   | _=>none
  | .builtin .max=>match c.args.toList with
   | [x,y]=>(isD (s.opA x)).bind fun a=>(isD (s.opA y)).bind fun b=>if a.1.beq b.1 then(D.max2 a.2 b.2).bind fun z=>K (.d a.1 z) else none
   | _=>none
  | .value (.func f)=>(E.sig f).bind fun g=>(AV.toDl s.ob g.1 (c.args.toList.map s.opA)).bind fun xs=>(E.call f xs).bind fun y=>K (.d g.2 y)
  | _=>none
 | _=>none
def nP{R:Type}(E:Env)(s:St)(o:Oper)(K:St->Option R):Option R:=
 match o.op with
 | .store T a x=>(E.L T).bind fun t=>match s.opA a with
  | .ptr t' id p=>if t.beq t'&&AV.fits t (s.opA x)&&!(s.lkO.contains id) then match s.ob id with
    | some (.one u v)=>zf v p (s.opA x) fun v'=>K (s.setOb id (some (.one u v')))
    | some (.many u l)=>match p with
     | i::p'=>(l[i]?).bind fun z=>(AV.toD s.ob t (s.opA x)).bind fun y=>(D.set z p' y).bind fun z'=>K (s.setOb id (some (.many u (l.set i z'))))
     | []=>none
    | _=>none
   else none
  | _=>none
 | .makeMap T rsv=>match rsv with
  | some _=>none
  | none=>(E.mapL T).bind fun kv=>o.dst.bind fun d=>K ((s.setOb (s.base+d) (some (.mp kv.1 kv.2 []))).put o.dst (.map kv.1 kv.2 (s.base+d)))
 | .mapUpdate T m k v=>if o.dst.isSome then none else(E.mapL T).bind fun kv=>match s.opA m with
  | .map kt vt id=>if kt.beq kv.1&&vt.beq kv.2&&!(s.lkO.contains id) then match s.ob id with
    | some (.mp kt' vt' l)=>if kt'.beq kt&&vt'.beq vt then(AV.toD s.ob kt (s.opA k)).bind fun kd=>(AV.toD s.ob vt (s.opA v)).bind fun vd=>K (s.setOb id (some (.mp kt vt (D.mput l kd vd)))) else none
    | _=>none
   else none
  | _=>none
 | .box T x=>(E.L T).bind fun t=>o.dst.bind fun d=>if AV.fits t (s.opA x) then K ((s.setOb (s.base+d) (some (.one t (s.opA x)))).put o.dst (.ptr t (s.base+d) [])) else none
 | .makeSlice T l c=>(E.L T).bind fun t=>o.dst.bind fun d=>match t,l,c with
  | .sl e,.tmp i,.tmp j=>if i=j then(isD (s.tm i)).bind fun a=>(a.2.natOf).bind fun n=>if n<=1073741824 then K ((s.setOb (s.base+d) (some (.many e (List.replicate n (aA e))))).put o.dst (.mem e (s.base+d))) else none else none
  | _,_,_=>none
 | .call c=>match c.callee with
  | .builtin .append=>(c.argTypes[0]?).bind fun T=>(E.L T).bind fun t=>o.dst.bind fun d=>match t,c.args.toList,c.argTypes.toList with
   | .sl e,[x,y],[_,T']=>match E.L T' with
    | some (.sl _)=>((s.opA y).asList s.ob e).bind fun l'=>match s.opA x with
     | .own e' v l=>if e'.beq e&&!(s.dead.contains v) then(if l.length+l'.length<=1073741824 then K ({ s with dead:=v::s.dead }.put o.dst (.own e (s.base+d) (l++l'))) else none) else none
     | .nils=>if l'.length<=1073741824 then K (s.put o.dst (.own e (s.base+d) l')) else none
     | _=>none
    | _=>none
   | _,_,_=>none
  | .builtin .copy=>match c.args.toList,c.argTypes.toList with
   | [x,y],[T,_]=>match E.L T with
    | some (.sl (.int k))=>match s.opA x,s.opA y with
     | .sub true e id [] lo n,.sub true e' id' [] lo' n'=>match s.ob id,s.ob id' with
      | some (.one (.arr m f) (.d g x)),some (.one (.arr m' f') (.d g' y))=>
       if e.beq (.int k)&&e'.beq (.int k)&&f.beq (.int k)&&f'.beq (.int k)&&g.beq (.arr m f)&&g'.beq (.arr m' f')&&!(s.lkO.contains id) then
        x.stl.bind fun l=>y.stl.bind fun l'=>K ((s.setOb id (some (.one (.arr m f) (.d g (.st (l.take lo++((l'.drop lo').take (min n' n)++l.drop (lo+min n' n)))))))).put o.dst (.d (.int .i64) (.int .i64 (min n' n:Nat))))
       else none
      | _,_=>none
     | _,_=>none
    | _=>none
   | _,_=>none
  | _=>qv E s o fun v=>K (s.put o.dst v)
 | _=>qv E s o fun v=>K (s.put o.dst v)
def mg(s:St)(o:Oper):Bool:=match o.dst with|some d=>s.lkS.contains d|none=>false
def yY{R:Type}(E:Env)(s:St)(o:Oper)(K:St->Option R):Option R:=if mg s o then none else nP E s o K
def jx(E:Env):List Oper->St->St
 | [],s=>s
 | o::l,s=>jx E l (match o.op,o.dst with
  | .alloc T,some d=>match E.L T with
   | some t=>s.setOb (s.base+d) (some (.one t (fI t)))
   | none=>s
  | _,_=>s)
def killD(s:St):List Oper->St
 | []=>s
 | o::l=>killD (s.put o.dst .undef) l
def tp(i:Nat)(o:Oper):Bool:=match o.guard with|some (j,_)=>decide (j=i)|none=>false
def mR(d:Option Nat)(o:Oper):Bool:=match o.op,d with|.pick (.tmp c) _ _,some d=>decide (c=d)|_,_=>false
def dU(d:Option Nat):List (Nat×Oper)->List (Nat×Oper)×List (Nat×Oper)
 | []=>([],[])
 | p::l=>if mR d p.2 then([],p::l) else let r:=dU d l;(p::r.1,r.2)
def gJ(o:Oper):Bool:=match o.op with
 | .store ..|.box ..|.makeSlice ..|.makeMap ..|.mapUpdate ..|.alloc _=>false
 | .call c=>match c.callee with|.builtin .append=>false|.builtin .copy=>false|_=>true
 | _=>true
def ve(o:Oper):Bool:=match o.op with
 | .alloc _=>true|.box ..=>true|.makeSlice ..=>true|.makeMap ..=>true|.buildSlice ..=>true
 | .call c=>match c.callee with|.builtin .append=>true|_=>false
 | _=>false
def pi(E:Env)(o:Oper):Bool:=match o.op with
 | .call c=>match c.callee with|.value (.func f)=>(E.inl f).isSome|.value (.tmp _)=>true|_=>false
 | _=>false
def oE(s:St)(c:Call):Option (Nat×List AV):=match c.callee with
 | .value (.func f)=>some (f,c.args.toList.map s.opA)
 | .value (.tmp t)=>match s.tm t with|.clo f l=>if l.all lE then some (f,c.args.toList.map s.opA++l) else none|_=>none
 | _=>none
def gQ(i:Nat)(l:List (Nat×Oper)):Bool:=match l with|p::_=>tp i p.2|[]=>false
def vu{α:Type}(x:AV)(A B:Option α):Option α:=match x with|.gone=>A|_=>B
theorem fc{α:Type}{A B:Option α}:vu .gone A B=A:=rfl
theorem fR{α:Type}{x:AV}{A B:Option α}(h:x≠.gone):vu x A B=B:=by
 cases x<;>first|rfl|exact absurd rfl h
def ij(E:Env):Nat->(R:Type)->(ops:Array Oper)->Ann->List (Nat×Oper)->St->(St->Option R)->Option R
 | 0,_,_,_,_,_,_=>none
 | _+1,_,_,_,[],s,k=>k s
 | n+1,R,ops,an,(i,o)::l,s,k=>
  match o.guard with
  | some (j,want)=>match (ops[j]?).bind (·.dst) with
   | some g=>if mg s o then none else vu (s.tm g) (ij E n R ops an l (s.put o.dst .gone) k)
    ((s.tm g).truth.bind fun c=>
    if c then(if want then nP E (s.put (some g) (.d .bool (.bool true))) o fun s'=>ij E n R ops an l s' k else ij E n R ops an l ((s.put (some g) (.d .bool (.bool true))).put o.dst .gone) k)
    else(if want then ij E n R ops an l ((s.put (some g) (.d .bool (.bool false))).put o.dst .gone) k else nP E (s.put (some g) (.d .bool (.bool false))) o fun s'=>ij E n R ops an l s' k))
   | none=>none
  | none=>
   if gQ i l then
    let sp:=dU o.dst l
    match sp.2,o.dst with
    | (_,pk)::l',some d=>if d<s.nt&&pk.guard.isNone&&gJ o&&!(pi E o)&&sp.1.all (fun(p:Nat×Oper)=>(gJ p.2&&!(mg s p.2)&&!(pi E p.2)))&&!(mg s pk) then
      yY E s o fun s1=>(s1.tm d).truth.bind fun c=>
      (if c then ij E n Bool ops .leaf sp.1 (s1.put (some d) (.d .bool (.bool true))) fun s2=>qv E s2 pk AV.truth
       else ij E n Bool ops .leaf sp.1 (s1.put (some d) (.d .bool (.bool false))) fun s2=>qv E s2 pk AV.truth).bind fun x=>
      ij E n R ops an l' ((killD s1 (sp.1.map Prod.snd)).put pk.dst (.d .bool (.bool x))) k
     else none
    | _,_=>none
   else if pi E o then
    if mg s o||!(l.all fun p=>!(ve p.2)) then none else match o.op with
     | .call c=>(oE s c).bind fun q=>(E.inl q.1).bind fun g=>g an.fst R s q.2 fun v s'=>ij E n R ops an.snd l (s'.put o.dst v) k
     | _=>none
   else yY E s o fun s'=>ij E n R ops an l s' k
def bz:Nat->List Oper->List (Nat×Oper)
 | _,[]=>[]
 | i,o::l=>(i,o)::bz (i+1) l
def fA(s:St):List Nat->St
 | []=>s
 | t::l=>fA (match s.tm t with
  | .mem t' id=>match s.ob id with
   | some (.many u l)=>if t'.beq u&&!(s.lkO.contains id) then{ s.setOb id none with tm:=fun i=>if i=t then .d (.sl u) (.sl l) else s.tm i } else s
   | _=>s
  | _=>s) l
def cJ:List (Nat×ShO)->List Nat
 | []=>[]
 | (id,.keep ..)::l=>id::cJ l
 | _::l=>cJ l
mutual
def AV.same:AV->AV->Bool
 | .ptr t id p,.ptr t' id' p'=>t.beq t'&&decide (id=id')&&decide (p=p')
 | .mem t id,.mem t' id'=>t.beq t'&&decide (id=id')
 | .map kt vt id,.map kt' vt' id'=>kt.beq kt'&&vt.beq vt'&&decide (id=id')
 | .clo f l,.clo f' l'=>decide (f=f')&&AV.sames l l'
 | _,_=>false
def AV.sames:List AV->List AV->Bool
 | [],[]=>true
 | a::l,a'::l'=>AV.same a a'&&AV.sames l l'
 | _,_=>false
end
def D.els:D->List D|.sl l=>l|_=>[]
mutual
def Sh.mk(b:Nat):Sh->Nat->List D->AV×Nat
 | .dv t,j,s=>(.d t (s.getD j (.bool false)),j+1)
 | .ow t,j,s=>(.own t (b+j) (s.getD j (.bool false)).els,j+1)
 | .same a,j,_=>(a,j)
 | .st ts l,j,s=>let r:=Sh.mks b l j s;(.st ts r.1,r.2)
def Sh.mks(b:Nat):List Sh->Nat->List D->List AV×Nat
 | [],j,_=>([],j)
 | h::l,j,s=>let r:=Sh.mk b h j s;let q:=Sh.mks b l r.2 s;(r.1::q.1,q.2)
end
mutual
def Sh.dec(ob:Nat->Option Ob)(dead:List Nat):Sh->AV->Option (List D)
 | .dv t,a=>(AV.toD ob t a).bind fun x=>some [x]
 | .ow t,.own t' v l=>if t.beq t'&&!(dead.contains v) then some [.sl l] else none
 | .ow _,.nils=>some [.sl []]
 | .same a,a'=>if AV.same a a' then some [] else none
 | .st ts l,.st ts' l'=>if Ty.beqs ts ts' then Sh.decs ob dead l l' else none
 | _,_=>none
def Sh.decs(ob:Nat->Option Ob)(dead:List Nat):List Sh->List AV->Option (List D)
 | [],[]=>some []
 | h::l,a::l'=>(Sh.dec ob dead h a).bind fun x=>(Sh.decs ob dead l l').bind fun y=>some (x++y)
 | _,_=>none
end
def AV.still:AV->AV
 | .d t x=>.d t x
 | .own t _ l=>.d (.sl t) (.sl l)
 | .fptr t x=>.fptr t x
 | _=>.undef
def Ob.still(t:Ty):Option Ob->Option Ob
 | some (.one t' (.d u x))=>if t.beq t' then some (.one t' (.d u x)) else none
 | _=>none
mutual
def Sh.toks:Sh->AV->List Nat
 | .ow _,.own _ v _=>[v]
 | .st _ l,.st _ l'=>Sh.tokss l l'
 | _,_=>[]
def Sh.tokss:List Sh->List AV->List Nat
 | h::l,a::l'=>Sh.toks h a++Sh.tokss l l'
 | _,_=>[]
end
def eX:List Nat->Bool
 | []=>true
 | a::l=>!(l.contains a)&&eX l
def Shape.mkS(b:Nat):List (Nat×Sh)->Nat->List D->(Nat->AV)->(Nat->AV)×Nat
 | [],j,_,f=>(f,j)
 | (t,h)::l,j,s,f=>let r:=Sh.mk b h j s;Shape.mkS b l r.2 s (fun i=>if i=t then r.1 else f i)
def Shape.mkO(b:Nat)(base:Nat->Option Ob):List (Nat×ShO)->Nat->List D->(Nat->Option Ob)->(Nat->Option Ob)
 | [],_,_,f=>f
 | (id,.one t h)::l,j,s,f=>let r:=Sh.mk b h j s;Shape.mkO b base l r.2 s (fun i=>if i=id then some (.one t r.1) else f i)
 | (id,.many t)::l,j,s,f=>Shape.mkO b base l (j+1) s (fun i=>if i=id then some (.many t (s.getD j (.bool false)).els) else f i)
 | (id,.mp kt vt)::l,j,s,f=>Shape.mkO b base l (j+1) s (fun i=>if i=id then some (.mp kt vt (s.getD j (.bool false)).els) else f i)
 | (id,.keep t _)::l,j,s,f=>Shape.mkO b base l j s (fun i=>if i=id then Ob.still t (base id) else f i)
def Shape.mk'(h:Shape)(base:St)(s:List D)(lkS lkO:List Nat):St:=
 let b:=(base.fresh+1)*4096
 let r:=Shape.mkS b h.slots 0 s (fun i=>if h.keepS.contains i then(base.tm i).still else .undef)
 { tm:=r.1,ob:=Shape.mkO b base.ob h.objs r.2 s (fun _=>none),fresh:=base.fresh+1,dead:=[],nt:=base.nt,lkS,lkO }
def Shape.decS(s:St):List (Nat×Sh)->Option (List D)
 | []=>some []
 | (t,h)::l=>(Sh.dec s.ob s.dead h (s.tm t)).bind fun x=>(Shape.decS s l).bind fun y=>some (x++y)
def Shape.decO(s:St):List (Nat×ShO)->Option (List D)
 | []=>some []
 | (id,.one t h)::l=>match s.ob id with
  | some (.one t' v)=>if t.beq t' then(Sh.dec s.ob s.dead h v).bind fun x=>(Shape.decO s l).bind fun y=>some (x++y) else none
  | _=>none
 | (id,.many t)::l=>match s.ob id with
  | some (.many t' v)=>if t.beq t' then(Shape.decO s l).bind fun y=>some (.sl v::y) else none
  | _=>none
 | (id,.mp kt vt)::l=>match s.ob id with
  | some (.mp kt' vt' v)=>if kt.beq kt'&&vt.beq vt' then(Shape.decO s l).bind fun y=>some (.sl v::y) else none
  | _=>none
 | (id,.keep t _)::l=>match s.ob id with
  | some (.one t' _)=>if t.beq t' then Shape.decO s l else none
  | _=>none
def Shape.toksS(s:St):List (Nat×Sh)->List Nat
 | []=>[]
 | (t,h)::l=>Sh.toks h (s.tm t)++Shape.toksS s l
def Shape.toksO(s:St):List (Nat×ShO)->List Nat
 | []=>[]
 | (id,.one _ h)::l=>(match s.ob id with|some (.one _ v)=>Sh.toks h v|_=>[])++Shape.toksO s l
 | _::l=>Shape.toksO s l
mutual
def AV.old(n:Nat):AV->Bool
 | .ptr _ id _=>decide (id<n)
 | .mem _ id=>decide (id<n)
 | .map _ _ id=>decide (id<n)
 | .clo _ l=>AV.olds n l
 | _=>false
def AV.olds(n:Nat):List AV->Bool
 | []=>true
 | a::l=>AV.old n a&&AV.olds n l
end
mutual
def Sh.cnt:Sh->Nat
 | .dv _=>1
 | .ow _=>1
 | .same _=>0
 | .st _ l=>Sh.cnts l
def Sh.cnts:List Sh->Nat
 | []=>0
 | h::l=>Sh.cnt h+Sh.cnts l
end
mutual
def Sh.fits:Ty->Sh->Bool
 | t,.dv t'=>t.beq t'
 | t,.ow e=>t.beq (.sl e)
 | _,.same _=>false
 | t,.st ts l=>t.beq (.st ts)&&Sh.fitss ts l
def Sh.fitss:List Ty->List Sh->Bool
 | [],[]=>true
 | t::ts,h::l=>Sh.fits t h&&Sh.fitss ts l
 | _,_=>false
end
mutual
def Sh.fine(n:Nat):Sh->Bool
 | .dv t=>af t
 | .ow t=>af t
 | .same a=>AV.old n a
 | .st ts l=>aY ts&&Sh.fitss ts l&&Sh.fines n l
def Sh.fines(n:Nat):List Sh->Bool
 | []=>true
 | h::l=>Sh.fine n h&&Sh.fines n l
end
def ShO.cnt:ShO->Nat
 | .one _ h=>h.cnt
 | .many _=>1
 | .mp ..=>1
 | .keep ..=>0
def ShO.fine(n:Nat)(base:St)(id:Nat):ShO->Bool
 | .one t h=>Sh.fine n h&&Sh.fits t h
 | .many _=>true
 | .mp ..=>true
 | .keep _ wit=>match base.tm wit with|.ptr _ id' _=>decide (id=id')&&decide (wit<base.nt)|_=>false
def Shape.cntS:List (Nat×Sh)->Nat
 | []=>0
 | p::l=>p.2.cnt+Shape.cntS l
def Shape.cntO:List (Nat×ShO)->Nat
 | []=>0
 | p::l=>p.2.cnt+Shape.cntO l
def Shape.good(h:Shape)(base:St):Bool:=
 eX (h.slots.map (·.1))&&eX (h.objs.map (·.1))&&(h.objs.all fun p=>decide (p.1<(base.fresh+1)*4096)&&ShO.fine ((base.fresh+1)*4096) base p.1 p.2)&&h.slots.all (fun p=>decide (p.1<base.nt)&&Sh.fine ((base.fresh+1)*4096) p.2)&&decide (Shape.cntS h.slots+Shape.cntO h.objs<=4096)
def Shape.dec(h:Shape)(base s:St):Option (List D):=
 if h.good base&&eX (Shape.toksS s h.slots++Shape.toksO s h.objs) then(Shape.decS s h.slots).bind fun x=>(Shape.decO s h.objs).bind fun y=>some (x++y) else none
def nh{α β:Type}(body:α->Option (Sum α β))(n:Nat):α->Option β:=
 Nat.rec (motive:=fun _=>α->Option β) (fun _=>none) (fun _ ih a=>match body a with
  | none=>none
  | some (.inl a')=>ih a'
  | some (.inr b)=>some b) n
theorem ox{α β:Type}(body:α->Option (Sum α β))(a:α):nh body 0 a=none:=rfl
theorem jn{α β:Type}(body:α->Option (Sum α β))(n:Nat)(a:α):nh body (n+1) a=match body a with
  | none=>none
  | some (.inl a')=>nh body n a'
  | some (.inr b)=>some b:=rfl
theorem nV{α β:Type}{body:α->Option (Sum α β)}:∀ {n:Nat} {a:α} {b:β} (m:Nat),nh body n a=some b->nh body (n+m) a=some b
 | 0,_,_,_,h=>by simp[ox] at h
 | n+1,a,b,m,h=>by
  rw[show n+1+m=(n+m)+1 by omega]
  simp only[jn] at h ⊢
  cases hb:body a with
  | none=>rw[hb] at h;simp at h
  | some x=>cases x with
   | inl a'=>rw[hb] at h;exact nV m h
   | inr b'=>rw[hb] at h;exact h
open Classical in
noncomputable def j8{α β:Type}(body:α->Option (Sum α β))(a:α):Option β:=
 if h:∃ n b,nh body n a=some b then some (Classical.choose (Classical.choose_spec h)) else none
theorem mu{α β:Type}{body:α->Option (Sum α β)}{a:α}{b:β}(h:j8 body a=some b):∃ n,nh body n a=some b:=by
 unfold j8 at h
 split at h
 ·rename_i hh
  exact⟨_,by rw[<-Option.some.inj h];exact Classical.choose_spec (Classical.choose_spec hh)⟩
 ·cases h
theorem iP{α β:Type}{body:α->Option (Sum α β)}{a:α}{b:β}{n:Nat}(h:nh body n a=some b):j8 body a=some b:=by
 have hh:∃ n b,nh body n a=some b:=⟨n,b,h⟩
 unfold j8
 rw[dif_pos hh]
 have h2:=Classical.choose_spec (Classical.choose_spec hh)
 have h3:=nV (Classical.choose hh) h
 have h4:=nV n h2
 rw[Nat.add_comm] at h4
 rw[h3] at h4
 exact h4.symm
theorem eO{α β:Type}{body:α->Option (Sum α β)}{a a':α}(h:body a=some (.inl a')):j8 body a=j8 body a':=by
 cases h2:j8 body a' with
 | some b=>
  obtain⟨n,hn⟩:=mu h2
  exact iP (n:=n+1) (by simp only[jn,h];exact hn)
 | none=>
  cases h3:j8 body a with
  | none=>rfl
  | some b=>
   obtain⟨n,hn⟩:=mu h3
   cases n with
   | zero=>simp[ox] at hn
   | succ n=>
    simp only[jn,h] at hn
    rw[iP hn] at h2
    cases h2
theorem fg{α β:Type}{body:α->Option (Sum α β)}{a:α}{b:β}(h:body a=some (.inr b)):j8 body a=some b:=
 iP (n:=1) (by simp only[jn,h])
def rQ(e:Ex):List (Ex×Shape)->Nat->Option (Nat×Shape)
 | [],_=>none
 | (e',h)::l,j=>if e.is e' then some (j,h) else rQ e l (j+1)
def subset(l l':List Nat):Bool:=l.all fun x=>l'.contains x
def lZ{R:Type}(base:St)(k:Ex->St->Option R)(keepS keepO:List Nat):List (Ex×Shape)->Nat->Nat×List D->Option R
 | [],_,_=>none
 | [(e,h)],_,r=>if subset h.keepS keepS&&subset (cJ h.objs) keepO then k e (h.mk' base r.2 base.lkS base.lkO) else none
 | (e,h)::l,j,r=>if subset h.keepS keepS&&subset (cJ h.objs) keepO then(if r.1=j then k e (h.mk' base r.2 base.lkS base.lkO) else lZ base k keepS keepO l (j+1) r) else none
def AQ(base:St)(exits:List (Ex×Shape))(e:Ex)(s:St):Option (Nat×List D):=(rQ e exits 0).bind fun q=>(q.2.dec base s).bind fun v=>some (q.1,v)
def dt(ops:List Oper):Bool:=eX (ops.filterMap (·.dst))&&(ops.all fun o=>match o.dst with|some d=>decide (d<4096)|none=>true)&&ops.all fun o=>match o.op with|.store ..=>o.dst.isNone|_=>true
def oq(E:Env)(ops:Array Oper)(n:Nat):Bool:=
 ((ops.toList.take n).all fun o=>!(pi E o))&&Region.noSelect ops&&Region.lexHead .any ops (ops.size-n) n 0 (Array.replicate ops.size false)&&(decide (n=ops.size)||(decide (n<ops.size)&&Region.sinkB .any ops n&&Region.chainB .any ops n)) &&
 ((ops.toList.take n).all fun o=>gJ o||(match o.op with|.alloc _=>true|_=>false))&&(ops.toList.drop n).all fun o=>o.guard.isNone&&(match o.op with|.pick ..=>false|_=>true)
def qD(o:Oper):Bool:=match o.op with|.fieldAddr ..=>true|.load ..=>true|.build ..=>true|.alloc _=>true|_=>false
def rd{R:Type}(E:Env)(ops:Array Oper)(n id i:Nat)(s:St)(K:AV->Option R):Option R:=
 match ops[i]? with
 | none=>none
 | some o=>if mg s o then none else if Region.waitsFor .any ops n i then qv E s o K else if qD o then qv E (s.setOb id none) o K else none
def GX{R:Type}(E:Env)(ops:Array Oper)(n id:Nat):Nat->Nat->St->(St->Option R)->Option R
 | 0,_,s,K=>K s
 | c+1,k,s,K=>rd E ops n id k s fun v=>GX E ops n id c (k+1) (s.put ((ops[k]?).bind (·.dst)) v) K
def qe(ops:Array Oper)(n:Nat):Bool:=
 match ops[n]? with
 | some o=>match o.op with
  | .store _ (.tmp p) (.tmp x)=>((List.range ops.size).all fun j=>match (ops[j]?).bind (·.dst) with|some d=>!(decide (d=p)||decide (d=x))||Region.waitsFor .any ops n j|none=>true) &&
    ((ops.toList.take n).all fun o=>(gJ o||(match o.op with|.alloc _=>true|_=>false))&&o.guard.isNone)&&((ops.toList.drop n).all fun o=>o.guard.isNone&&(match o.op with|.pick ..=>false|_=>true)) &&
    Region.noSelect ops&&Region.lexHead .any ops (ops.size-(n+1)) (n+1) 0 (Array.replicate ops.size false)&&(decide (n+1=ops.size)||(decide (n+1<ops.size)&&Region.sinkB .any ops (n+1)&&Region.chainB .any ops (n+1)))
  | _=>false
 | none=>false
def jK(ops:Array Oper)(n:Nat)(s:St):Nat:=match ops[n]? with
 | some o=>match o.op with
  | .store _ (.tmp p) _=>if ops.toList.any (fun q=>match q.op,q.dst with|.alloc _,some d=>decide (d=p)|_,_=>false) then s.base+p else match s.tm p with
   | .ptr _ id _=>id
   | _=>0
  | _=>0
 | none=>0
def rK(ops:Array Oper)(n:Nat)(s:St):Option Nat:=match ops[n]? with
 | some o=>match o.op with
  | .store _ (.tmp p) _=>match s.tm p with
   | .ptr _ id []=>some id
   | _=>none
  | _=>none
 | none=>none
def ev(E:Env):Code->Ann->(R:Type)->St->(Ex->St->Option R)->Option R
 | .skip,_,_,s,k=>k .normal s
 | .label _,_,_,s,k=>k .normal s
 | .exit id,_,_,s,k=>k (.exit id) s
 | .ret,_,_,s,k=>k .ret s
 | .region _ ops dr,a,R,s,k=>
  let s1:=jx E ops.toList { fA s a.fz with fresh:=s.fresh+1 }
  if dt ops.toList&&(!dr||oq E ops (a.heads ops.size)) then ij E (ops.size+1) R ops a.inner (bz 0 ops.toList) s1 (fun s'=>k .normal s')
  else if dt ops.toList&&qe ops (a.heads ops.size) then GX E ops (a.heads ops.size) (jK ops (a.heads ops.size) s1) (a.heads ops.size) 0 s1 fun s2=>if rK ops (a.heads ops.size) s2=some (jK ops (a.heads ops.size) s1) then ij E (ops.size+1) R ops a.inner ((bz 0 ops.toList).drop (a.heads ops.size)) s2 (fun s'=>k .normal s') else none
  else none
 | .seq c d,.cut exits kS kO a b,R,s,k=>
  (ev E c a (Nat×List D) { s with lkS:=kS++s.lkS,lkO:=kO++s.lkO } (AQ s exits)).bind fun r=>
   lZ s (fun e s'=>match e with|.normal=>ev E d b R s' k|e=>k e s') kS kO exits 0 r
 | .seq c d,a,R,s,k=>ev E c a.fst R s fun e s'=>match e with
  | .normal=>ev E d a.snd R s' k
  | e=>k e s'
 | .cond c x y,a,R,s,k=>(s.opA c).truth.bind fun t=>if t then ev E x a.fst R s k else ev E y a.snd R s k
 | .block id c,a,R,s,k=>ev E c a.fst R s fun e s'=>match e with
  | .exit j=>if j=id then k .normal s' else k (.exit j) s'
  | e=>k e s'
 | .scope c,a,R,s,k=>ev E c a R s k
 | .loop c,.loop h exits a,R,s,k=>
  (h.dec s s).bind fun v0=>(E.lp (fun v=>ev E c a (Sum (List D) (Nat×List D)) (h.mk' s v (h.keepS++s.lkS) (cJ h.objs++s.lkO)) fun e s'=>match e with
    | .normal=>(h.dec s s').bind fun v'=>some (.inl v')
    | e=>(AQ s exits e s').bind fun r=>some (.inr r)) v0).bind fun r=>
   lZ s k h.keepS (cJ h.objs) exits 0 r
 | _,_,_,_,_=>none
def om(tys:List Ty)(args:List D)(i:Nat):AV:=
 match tys[i]?,args[i]? with
 | some t,some x=>.d t x
 | _,_=>.undef
def CC{R:Type}(E:Env)(s:St)(t:Ty)(k:D->Option R):ResultVar->Option R
 | .tmp i=>(AV.toD s.ob t (s.tm i)).bind k
 | .cell i T=>(E.L T).bind fun u=>match s.tm i with
  | .ptr t' id p=>if u.beq t' then(s.ob id).bind fun o=>gt o p fun a=>(AV.toD s.ob t a).bind k else none
  | _=>none
def re{R:Type}(E:Env)(s:St):List Ty->List ResultVar->(List D->Option R)->Option R
 | [],[],k=>k []
 | t::ts,r::rs,k=>CC E s t (fun x=>re E s ts rs fun xs=>k (x::xs)) r
 | _,_,_=>none
def results(E:Env)(s:St)(rty:Ty)(rs:List ResultVar):Option D:=
 match rs with
 | [r]=>CC E s rty some r
 | rs=>match rty with
  | .tup ts=>re E s ts rs fun xs=>some (.tup xs)
  | _=>none
def Jg(E:Env)(fn:Func)(ann:Ann)(tys:List Ty)(rty:Ty)(args:List D):Option D:=
 match fn.body with
 | none=>none
 | some c=>ev E c ann D { tm:=om tys args,ob:=fun _=>none,fresh:=0,dead:=[],nt:=fn.ntmps,lkS:=[],lkO:=[] } fun e s=>match e with
  | .exit _=>none
  | _=>results E s rty fn.results.toList
end Go.Proofs.YtjjjkojfijpeeaaGreat.Sy
end
section
namespace Go.Proofs.YtjjjkojfijpeeaaGreat.Sy
open Go
mutual
theorem bu:∀ (t:Ty) (x:D),wt t x->af t=true->x.flat.length=t.size
 | .int k,x,h,_=>by simp only[wt] at h;obtain⟨n,rfl⟩:=h;rfl
 | .bool,x,h,_=>by simp only[wt] at h;obtain⟨n,rfl⟩:=h;rfl
 | .str,x,h,_=>by simp only[wt] at h;obtain⟨n,rfl⟩:=h;rfl
 | .st ts,x,h,hn=>by
  simp only[wt] at h
  obtain⟨l,rfl,h⟩:=h
  simp only[D.flat,Ty.size]
  exact mP ts l h (by simpa [af] using hn)
 | .arr n t,x,h,hn=>by
  simp only[wt] at h
  obtain⟨l,rfl,rfl,h⟩:=h
  simp only[D.flat,Ty.size]
  simp only[af] at hn
  induction l with
  | nil=>simp[D.flats]
  | cons y l ih=>
   simp only[D.flats,List.length_append,List.length_cons]
   rw[bu t y (h y (by simp)) hn,ih (fun x hx=>h x (by simp[hx]))]
   rw[Nat.add_mul,Nat.one_mul,Nat.add_comm]
 | .sl t,x,h,_=>by simp only[wt] at h;obtain⟨l,rfl,_⟩:=h;rfl
 | .tup ts,_,_,h=>by simp[af] at h
 | .fn,x,h,_=>by simp[wt] at h
theorem mP:∀ (ts:List Ty) (l:List D),gn ts l->aY ts=true->(D.flats l).length=Ty.sizes ts
 | [],l,h,_=>by simp only[gn] at h;subst h;rfl
 | t::ts,l,h,hn=>by
  simp only[gn] at h
  obtain⟨d,l',rfl,h1,h2⟩:=h
  simp only[aY,Bool.and_eq_true] at hn
  simp only[D.flats,Ty.sizes,List.length_append]
  rw[bu t d h1 hn.1,mP ts l' h2 hn.2]
end
theorem bA(a b:List D):D.flats (a++b)=D.flats a++D.flats b:=by
 induction a with
 | nil=>rfl
 | cons x a ih=>simp only[List.cons_append,D.flats,ih,List.append_assoc]
theorem au{t:Ty}(hn:af t=true):∀ (l:List D),(∀ x∈l,wt t x)->(D.flats l).length=l.length*t.size
 | [],_=>by simp[D.flats]
 | y::l,h=>by
  simp only[D.flats,List.length_append,List.length_cons]
  rw[bu t y (h y (by simp)) hn,au hn l (fun x hx=>h x (by simp[hx])),Nat.add_mul,Nat.one_mul,Nat.add_comm]
theorem bO{l:List D}{i:Nat}{y:D}(h:l[i]?=some y):D.flats l=D.flats (l.take i)++(y.flat++D.flats (l.drop (i+1))):=by
 obtain⟨hi,hy⟩:=List.getElem?_eq_some_iff.1 h
 conv=>lhs;rw[<-List.take_append_drop i l,bA]
 rw[List.drop_eq_getElem_cons hi,hy]
 rfl
theorem kN{l:List D}{i:Nat}{y z:D}(h:l[i]?=some y):D.flats (l.set i z)=D.flats (l.take i)++(z.flat++D.flats (l.drop (i+1))):=by
 obtain⟨hi,hy⟩:=List.getElem?_eq_some_iff.1 h
 have h2:(l.set i z)[i]?=some z:=by simp[hi]
 rw[bO h2,List.take_set_of_le (Nat.le_refl i),List.drop_set_of_lt (Nat.lt_succ_self i)]
theorem jB:∀ {ts:List Ty} {l:List D} {i:Nat} {t:Ty},gn ts l->ts[i]?=some t->∃ y,l[i]?=some y/\wt t y
 | [],_,_,_,_,h=>by simp at h
 | u::ts,l,i,t,h,hi=>by
  simp only[gn] at h
  obtain⟨d,l',rfl,h1,h2⟩:=h
  cases i with
  | zero=>simp at hi;subst hi;exact⟨d,rfl,h1⟩
  | succ i=>simp at hi;obtain⟨y,h3,h4⟩:=jB h2 hi;exact⟨y,by simpa using h3,h4⟩
theorem lP:∀ {ts:List Ty} {l:List D},gn ts l->l.length=ts.length
 | [],l,h=>by simp only[gn] at h;subst h;rfl
 | t::ts,l,h=>by
  simp only[gn] at h
  obtain⟨d,l',rfl,h1,h2⟩:=h
  simp[lP h2]
theorem uA:∀ {ts:List Ty} {l:List D} {i:Nat} {t:Ty} {z:D},gn ts l->ts[i]?=some t->wt t z->gn ts (l.set i z)
 | [],_,_,_,_,_,h,_=>by simp at h
 | u::ts,l,i,t,z,h,hi,hz=>by
  simp only[gn] at h
  obtain⟨d,l',rfl,h1,h2⟩:=h
  cases i with
  | zero=>simp at hi;subst hi;simp only[List.set_cons_zero,gn];exact⟨z,l',rfl,hz,h2⟩
  | succ i=>simp at hi;simp only[List.set_cons_succ,gn];exact⟨d,_,rfl,h1,uA h2 hi hz⟩
theorem nK:∀ {ts:List Ty} {l:List D} (i:Nat),gn ts l->gn (ts.take i) (l.take i)
 | ts,l,0,_=>by simp[gn]
 | [],l,i+1,h=>by simp only[gn] at h;subst h;simp[gn]
 | t::ts,l,i+1,h=>by
  simp only[gn] at h
  obtain⟨d,l',rfl,h1,h2⟩:=h
  simp only[List.take_succ_cons,gn]
  exact⟨d,_,rfl,h1,nK i h2⟩
theorem cc:∀ {ts:List Ty} {i:Nat} {t:Ty},aY ts=true->ts[i]?=some t->af t=true
 | [],_,_,_,h=>by simp at h
 | u::ts,i,t,h,hi=>by
  simp only[aY,Bool.and_eq_true] at h
  cases i with
  | zero=>simp at hi;subst hi;exact h.1
  | succ i=>simp at hi;exact cc h.2 hi
theorem iC:∀ {ts:List Ty} (i:Nat),aY ts=true->aY (ts.take i)=true
 | ts,0,_=>by simp[aY]
 | [],i+1,_=>by simp[aY]
 | u::ts,i+1,h=>by
  simp only[aY,Bool.and_eq_true] at h
  simp only[List.take_succ_cons,aY,Bool.and_eq_true]
  exact⟨h.1,iC i h.2⟩
theorem dp:∀ (p:List Nat) {t u:Ty},af t=true->aI t p=some u->af u=true
 | [],t,u,h,hp=>by cases t<;>simp only[aI,Option.some.injEq] at hp<;>subst hp<;>exact h
 | i::p,t,u,h,hp=>by
  cases t<;>simp only[aI] at hp
  case st ts=>
   cases hi:ts[i]? with
   | none=>rw[hi] at hp;cases hp
   | some v=>rw[hi] at hp;exact dp p (cc (by simpa [af] using h) hi) hp
  case arr n v=>exact dp p (by simpa [af] using h) hp
  all_goals cases hp
theorem ig:∀ (p:List Nat) {t u:Ty} {x y:D},wt t x->af t=true->aI t p=some u->x.get p=some y ->
  wt u y/\∃ a b,x.flat=a++(y.flat++b)/\a.length=aL t p
 | [],t,u,x,y,h,hn,hp,hg=>by
  have hp':t=u:=by cases t<;>simpa [aI] using hp
  simp only[D.get,Option.some.injEq] at hg
  subst hp';subst hg
  exact⟨h,[],[],by simp,by cases t<;>rfl⟩
 | i::p,t,u,x,y,h,hn,hp,hg=>by
  simp only[D.get] at hg
  cases hf:x.fld i with
  | none=>rw[hf] at hg;cases hg
  | some z=>
   rw[hf] at hg
   have hg':z.get p=some y:=hg
   cases t<;>simp only[aI] at hp
   case st ts=>
    cases hi:ts[i]? with
    | none=>rw[hi] at hp;cases hp
    | some v=>
     rw[hi] at hp
     have hp':aI v p=some u:=hp
     simp only[wt] at h
     obtain⟨l,rfl,hl⟩:=h
     simp only[D.fld] at hf
     obtain⟨z',hz,hv⟩:=jB hl hi
     rw[hf] at hz;cases hz
     simp only[af] at hn
     obtain⟨h1,a,b,h2,h3⟩:=ig p hv (cc hn hi) hp' hg'
     refine⟨h1,D.flats (l.take i)++a,b++D.flats (l.drop (i+1)),?_,?_⟩
     ·simp only[D.flat]
      rw[bO hf,h2]
      simp[List.append_assoc]
     ·simp only[aL,List.length_append,h3]
      rw[mP _ _ (nK i hl) (iC i hn)]
      simp[List.getD,hi]
   case arr n v=>
    simp only[wt] at h
    obtain⟨l,rfl,hl,hv⟩:=h
    simp only[D.fld] at hf
    simp only[af] at hn
    obtain⟨h1,a,b,h2,h3⟩:=ig p (hv z (List.mem_of_getElem? hf)) hn hp hg'
    refine⟨h1,D.flats (l.take i)++a,b++D.flats (l.drop (i+1)),?_,?_⟩
    ·simp only[D.flat]
     rw[bO hf,h2]
     simp[List.append_assoc]
    ·simp only[aL,List.length_append,h3]
     rw[au hn _ (fun x hx=>hv x (List.mem_of_mem_take hx))]
     have:=(List.getElem?_eq_some_iff.1 hf).1
     simp[Nat.min_eq_left (Nat.le_of_lt this)]
   all_goals cases hp
theorem nv:∀ (p:List Nat) {t u:Ty} {x y x':D},wt t x->af t=true->aI t p=some u->x.set p y=some x'->wt u y ->
  wt t x'/\∃ a c b,x.flat=a++(c++b)/\x'.flat=a++(y.flat++b)/\a.length=aL t p/\c.length=u.size
 | [],t,u,x,y,x',h,hn,hp,hg,hy=>by
  have hp':t=u:=by cases t<;>simpa [aI] using hp
  simp only[D.set,Option.some.injEq] at hg
  subst hp';subst hg
  exact⟨hy,[],x.flat,[],by simp,by simp,by cases t<;>rfl,bu _ _ h hn⟩
 | i::p,t,u,x,y,x',h,hn,hp,hg,hy=>by
  cases t<;>simp only[aI] at hp
  case st ts=>
   cases hi:ts[i]? with
   | none=>rw[hi] at hp;cases hp
   | some v=>
    rw[hi] at hp
    have hp':aI v p=some u:=hp
    simp only[wt] at h
    obtain⟨l,rfl,hl⟩:=h
    simp only[D.set] at hg
    obtain⟨z,hz,hv⟩:=jB hl hi
    rw[hz] at hg
    cases hs:D.set z p y with
    | none=>rw[show((some z).bind fun z=>(D.set z p y).bind fun z'=>some (D.st (l.set i z')))=(D.set z p y).bind fun z'=>some (D.st (l.set i z')) from rfl,hs] at hg;cases hg
    | some z'=>
     rw[show((some z).bind fun z=>(D.set z p y).bind fun z'=>some (D.st (l.set i z')))=(D.set z p y).bind fun z'=>some (D.st (l.set i z')) from rfl,hs] at hg
     simp only[Option.bind_some,Option.some.injEq] at hg
     subst hg
     simp only[af] at hn
     obtain⟨h1,a,c,b,h2,h3,h4,h5⟩:=nv p hv (cc hn hi) hp' hs hy
     refine⟨by simp only[wt];exact⟨_,rfl,uA hl hi h1⟩,D.flats (l.take i)++a,c,b++D.flats (l.drop (i+1)),?_,?_,?_,h5⟩
     ·simp only[D.flat]
      rw[bO hz,h2]
      simp[List.append_assoc]
     ·simp only[D.flat]
      rw[kN hz,h3]
      simp[List.append_assoc]
     ·simp only[aL,List.length_append,h4]
      rw[mP _ _ (nK i hl) (iC i hn)]
      simp[List.getD,hi]
  case arr n v=>
   simp only[wt] at h
   obtain⟨l,rfl,hl,hv⟩:=h
   simp only[D.set] at hg
   cases hz:l[i]? with
   | none=>rw[hz] at hg;cases hg
   | some z=>
    rw[hz] at hg
    cases hs:D.set z p y with
    | none=>rw[show((some z).bind fun z=>(D.set z p y).bind fun z'=>some (D.st (l.set i z')))=(D.set z p y).bind fun z'=>some (D.st (l.set i z')) from rfl,hs] at hg;cases hg
    | some z'=>
     rw[show((some z).bind fun z=>(D.set z p y).bind fun z'=>some (D.st (l.set i z')))=(D.set z p y).bind fun z'=>some (D.st (l.set i z')) from rfl,hs] at hg
     simp only[Option.bind_some,Option.some.injEq] at hg
     subst hg
     simp only[af] at hn
     obtain⟨h1,a,c,b,h2,h3,h4,h5⟩:=nv p (hv z (List.mem_of_getElem? hz)) hn hp hs hy
     refine⟨?_,D.flats (l.take i)++a,c,b++D.flats (l.drop (i+1)),?_,?_,?_,h5⟩
     ·simp only[wt]
      refine⟨_,rfl,by simpa using hl,fun x hx=>?_⟩
      rcases List.mem_or_eq_of_mem_set hx with h|h
      ·exact hv x h
      ·rw[h];exact h1
     ·simp only[D.flat]
      rw[bO hz,h2]
      simp[List.append_assoc]
     ·simp only[D.flat]
      rw[kN hz,h3]
      simp[List.append_assoc]
     ·simp only[aL,List.length_append,h4]
      rw[au hn _ (fun x hx=>hv x (List.mem_of_mem_take hx))]
      have:=(List.getElem?_eq_some_iff.1 hz).1
      simp[Nat.min_eq_left (Nat.le_of_lt this)]
  all_goals cases hp
inductive CR(w:World)(S:Nat->Nat->Prop):D->Value->Prop
 | int (k:IntKind) (n:Int):CR w S (.int k n) (.int k n)
 | bool (b:Bool):CR w S (.bool b) (.bool b)
 | str (s:ByteArray):CR w S (.str s) (.string s)
 | sl (l:List D) (a:Option Addr) (cap b off:Nat) (c:Nat->Value) (ha:l=[]\/a=some ⟨b,off,none⟩) (hc:l.length<=cap)
   (h1:∀ i d,(D.flats l)[i]?=some d->S b (off+i)/\w.cell? ⟨b,off+i,none⟩=some (c i))
   (h2:∀ i d,(D.flats l)[i]?=some d->CR w S d (c i)):CR w S (.sl l) (.slice a l.length cap)
theorem CR.mono{w w':World}{S S':Nat->Nat->Prop}(hw:∀ b o,S b o->w'.cell? ⟨b,o,none⟩=w.cell? ⟨b,o,none⟩)(hS:∀ b o,S b o->S' b o){d:D}{v:Value}(h:CR w S d v):CR w' S' d v:=by
 induction h with
 | int k n=>exact .int k n
 | bool b=>exact .bool b
 | str s=>exact .str s
 | sl l a cap b off c ha hc h1 h2 ih=>
  exact .sl l a cap b off c ha hc (fun i d hd=>⟨hS _ _ (h1 i d hd).1,by rw[hw _ _ (h1 i d hd).1];exact(h1 i d hd).2⟩) ih
def cH(w:World)(S:Nat->Nat->Prop)(ds:List D)(cs:List Value):Prop:=ds.length=cs.length/\∀ (i:Nat) (d:D) (c:Value),ds[i]?=some d->cs[i]?=some c->CR w S d c
theorem cH.mono{w w':World}{S S':Nat->Nat->Prop}(hw:∀ b o,S b o->w'.cell? ⟨b,o,none⟩=w.cell? ⟨b,o,none⟩)(hS:∀ b o,S b o->S' b o){d:List D}{v:List Value}(h:cH w S d v):cH w' S' d v:=
 ⟨h.1,fun i d c h1 h2=>(h.2 i d c h1 h2).mono hw hS⟩
theorem cH.nil{w:World}{S:Nat->Nat->Prop}:cH w S [] []:=⟨rfl,fun i d c h=>by simp at h⟩
theorem cH.append{w:World}{S:Nat->Nat->Prop}{a b:List D}{c d:List Value}(h:cH w S a c)(k:cH w S b d):cH w S (a++b) (c++d):=by
 refine⟨by simp[h.1,k.1],fun i x y hx hy=>?_⟩
 rw[List.getElem?_append] at hx hy
 by_cases hi:i<a.length
 ·rw[if_pos hi] at hx;rw[if_pos (h.1 ▸ hi)] at hy;exact h.2 i x y hx hy
 ·rw[if_neg hi] at hx;rw[if_neg (h.1 ▸ hi)] at hy;rw[h.1] at hx;exact k.2 _ x y hx hy
theorem cH.split{w:World}{S:Nat->Nat->Prop}{a b:List D}{cs:List Value}(h:cH w S (a++b) cs):cH w S a (cs.take a.length)/\cH w S b (cs.drop a.length):=by
 obtain⟨h1,h2⟩:=h
 rw[List.length_append] at h1
 refine⟨⟨by simp;omega,fun i x y hx hy=>?_⟩,⟨by simp;omega,fun i x y hx hy=>?_⟩⟩
 ·have hi:=(List.getElem?_eq_some_iff.1 hx).1
  rw[List.getElem?_take_of_lt hi] at hy
  exact h2 i x y (by rw[List.getElem?_append_left hi];exact hx) hy
 ·rw[List.getElem?_drop] at hy
  exact h2 (a.length+i) x y (by rw[List.getElem?_append_right (by omega)];simpa using hx) hy
theorem cH.single{w:World}{S:Nat->Nat->Prop}{d:D}{v:Value}:cH w S [d] [v]↔CR w S d v:=by
 constructor
 ·intro h;exact h.2 0 d v rfl rfl
 ·intro h
  refine⟨rfl,fun i x y hx hy=>?_⟩
  cases i with
  | zero=>simp at hx hy;subst hx;subst hy;exact h
  | succ i=>simp at hx
theorem cH.single'{w:World}{S:Nat->Nat->Prop}{d:D}{cs:List Value}(h:cH w S [d] cs):∃ v,cs=[v]/\CR w S d v:=by
 match cs,h with
 | [v],h=>exact⟨v,rfl,cH.single.1 h⟩
 | [],h=>simp[cH] at h
 | _::_::_,h=>simp[cH] at h
def oK(w:World)(S:Nat->Nat->Prop)(b off:Nat)(ds:List D):Prop:=∃ cs,cH w S ds cs/\∀ (i:Nat) (c:Value),cs[i]?=some c->S b (off+i)/\w.cell? ⟨b,off+i,none⟩=some c
theorem oK.mono{w w':World}{S S':Nat->Nat->Prop}(hw:∀ b o,S b o->w'.cell? ⟨b,o,none⟩=w.cell? ⟨b,o,none⟩)(hS:∀ b o,S b o->S' b o){b off:Nat}{d:List D}(h:oK w S b off d):oK w' S' b off d:=by
 obtain⟨cs,h1,h2⟩:=h
 exact⟨cs,h1.mono hw hS,fun i c hc=>⟨hS _ _ (h2 i c hc).1,by rw[hw _ _ (h2 i c hc).1];exact(h2 i c hc).2⟩⟩
theorem oK.part{w:World}{S:Nat->Nat->Prop}{b off:Nat}{x y z:List D}(h:oK w S b off (x++(y++z))):oK w S b (off+x.length) y:=by
 obtain⟨cs,h1,h2⟩:=h
 obtain⟨_,h3⟩:=h1.split
 obtain⟨h4,_⟩:=h3.split
 refine⟨_,h4,fun i c hc=>?_⟩
 have hi:i<y.length:=by have:=(List.getElem?_eq_some_iff.1 hc).1;simp at this;omega
 rw[List.getElem?_take_of_lt hi,List.getElem?_drop] at hc
 rw[Nat.add_assoc]
 exact h2 _ _ hc
theorem CR.elems{w:World}{S:Nat->Nat->Prop}{l:List D}{v:Value}(h:CR w S (.sl l) v):∃ a cap b off,v=.slice a l.length cap/\(l=[]\/a=some ⟨b,off,none⟩)/\l.length<=cap/\oK w S b off (D.flats l):=by
 cases h with
 | sl _ a cap b off c ha hc h1 h2=>
  refine⟨a,cap,b,off,rfl,ha,hc,(List.range (D.flats l).length).map c,⟨by simp,fun i d c' hd hc'=>?_⟩,fun i c' hc'=>?_⟩
  ·have hi:=(List.getElem?_eq_some_iff.1 hd).1
   simp[hi] at hc'
   subst hc';exact h2 i d hd
  ·have hi:=(List.getElem?_eq_some_iff.1 hc').1
   simp only[List.length_map,List.length_range] at hi
   simp[hi] at hc'
   subst hc'
   exact h1 i _ (List.getElem?_eq_getElem hi)
theorem CR.of_elems{w:World}{S:Nat->Nat->Prop}{l:List D}{a:Option Addr}{cap b off:Nat}(ha:l=[]\/a=some ⟨b,off,none⟩)(hc:l.length<=cap)(h:oK w S b off (D.flats l)):CR w S (.sl l) (.slice a l.length cap):=by
 obtain⟨cs,h1,h2⟩:=h
 refine .sl l a cap b off (fun i=>cs.getD i undef) ha hc (fun i d hd=>?_) (fun i d hd=>?_)
 ·have hi:i<cs.length:=by rw[<-h1.1];exact(List.getElem?_eq_some_iff.1 hd).1
  have:=h2 i _ (List.getElem?_eq_getElem hi)
  simpa [List.getD,List.getElem?_eq_getElem hi] using this
 ·have hi:i<cs.length:=by rw[<-h1.1];exact(List.getElem?_eq_some_iff.1 hd).1
  have:=h1.2 i d _ hd (List.getElem?_eq_getElem hi)
  simpa [List.getD,List.getElem?_eq_getElem hi] using this
def Jv:D->Value->Prop
 | .st _,v=>∃ cs,v=.agg cs
 | _,v=>∀ cs,v≠.agg cs
def eN(w:World)(S:Nat->Nat->Prop)(d:D)(v:Value):Prop:=Jv d v/\cH w S d.flat v.cells.toList
def DR(w:World)(S:Nat->Nat->Prop):D->Value->Prop
 | .tup l,v=>∃ vs:List Value,v=.tuple vs.toArray/\l.length=vs.length/\∀ (i:Nat) (d:D) (u:Value),l[i]?=some d->vs[i]?=some u->eN w S d u
 | d,v=>eN w S d v
theorem eN.mono{w w':World}{S S':Nat->Nat->Prop}(hw:∀ b o,S b o->w'.cell? ⟨b,o,none⟩=w.cell? ⟨b,o,none⟩)(hS:∀ b o,S b o->S' b o){d:D}{v:Value}(h:eN w S d v):eN w' S' d v:=⟨h.1,h.2.mono hw hS⟩
theorem DR.mono{w w':World}{S S':Nat->Nat->Prop}(hw:∀ b o,S b o->w'.cell? ⟨b,o,none⟩=w.cell? ⟨b,o,none⟩)(hS:∀ b o,S b o->S' b o){d:D}{v:Value}(h:DR w S d v):DR w' S' d v:=by
 cases d<;>simp only[DR] at h ⊢<;>first
  | exact h.mono hw hS
  | (obtain⟨vs,h1,h2,h3⟩:=h;exact⟨vs,h1,h2,fun i d u hd hu=>(h3 i d u hd hu).mono hw hS⟩)
theorem DR.of0{w:World}{S:Nat->Nat->Prop}{d:D}{v:Value}(h:eN w S d v):DR w S d v:=by
 cases d<;>simp only[DR]<;>first
  | exact h
  | (exfalso;obtain⟨c,e,h⟩:=cH.single' h.2;cases h)
theorem CR.int_inv{w:World}{S:Nat->Nat->Prop}{k:IntKind}{n:Int}{v:Value}(h:CR w S (.int k n) v):v=.int k n:=by cases h;rfl
theorem CR.bool_inv{w:World}{S:Nat->Nat->Prop}{n:Bool}{v:Value}(h:CR w S (.bool n) v):v=.bool n:=by cases h;rfl
theorem ao{v u:Value}(hv:∀ cs,v≠.agg cs)(h:v.cells.toList=[u]):v=u:=by
 cases v<;>simp[Value.cells] at h<;>first|exact h|exact absurd rfl (hv _)
theorem eN.int_inv{w:World}{S:Nat->Nat->Prop}{k:IntKind}{n:Int}{v:Value}(h:eN w S (.int k n) v):v=.int k n:=by
 obtain⟨u,h1,h2⟩:=cH.single' (d:=.int k n) h.2
 rw[ao h.1 h1];exact h2.int_inv
theorem eN.bool_inv{w:World}{S:Nat->Nat->Prop}{n:Bool}{v:Value}(h:eN w S (.bool n) v):v=.bool n:=by
 obtain⟨u,h1,h2⟩:=cH.single' (d:=.bool n) h.2
 rw[ao h.1 h1];exact h2.bool_inv
theorem eN.sl_inv{w:World}{S:Nat->Nat->Prop}{l:List D}{v:Value}(h:eN w S (.sl l) v):CR w S (.sl l) v:=by
 obtain⟨u,h1,h2⟩:=cH.single' (d:=.sl l) h.2
 rw[ao h.1 h1];exact h2
theorem CR.no_agg{w:World}{S:Nat->Nat->Prop}{d:D}{v:Value}(h:CR w S d v):(∀ cs,v≠.agg cs)/\(∀ vs,v≠.tuple vs)/\d.flat=[d]/\v.cells=#[v]:=by cases h<;>simp[D.flat,Value.cells]
theorem eN.of_CR{w:World}{S:Nat->Nat->Prop}{d:D}{v:Value}(h:CR w S d v):eN w S d v:=by
 obtain⟨h1,_,h3,h4⟩:=h.no_agg
 refine⟨?_,?_⟩
 ·cases h<;>simp[Jv]
 ·rw[h3,h4];exact cH.single.2 h
end Go.Proofs.YtjjjkojfijpeeaaGreat.Sy
end
section
namespace Go.Proofs.YtjjjkojfijpeeaaGreat.Sy
open Go
structure Cx where
 w:World
 S:Nat->Nat->Prop
 γ:Nat->Option Nat
 β:Nat->Option (Nat×Nat)
 ob:Nat->Option Ob
 dead:List Nat
def nR(w:World)(b:Nat):Option Nat:=(bp w b).map (·.size)
def cB:Ob->List Nat->Nat
 | .one t _,p=>aL t p
 | .many t _,i::p=>i*t.size+aL t p
 | .many ..,[]=>0
 | .mp ..,_=>0
def Py(c:Cx)(t:Ty)(v:Nat)(l:List D)(a:Option Addr)(cap:Nat):Prop:=
 v ∉ c.dead->(a=none/\cap=0)\/∃ b off,a=some ⟨b,off,none⟩/\c.β v=some (b,off+l.length*t.size)/\∃ n,nR c.w b=some n/\off+cap*t.size<=n
mutual
def AC(c:Cx):AV->List Value->Prop
 | .d t x,cs=>wt t x/\af t=true/\cH c.w c.S x.flat cs
 | .own t v l,cs=>af t=true/\(∀ x∈l,wt t x)/\∃ a cap,cs=[.slice a l.length cap]/\CR c.w c.S (.sl l) (.slice a l.length cap)/\Py c t v l a cap
 | .nils,cs=>cs=[.slice none 0 0]
 | .ptr t id p,cs=>∃ b off,cs=[.pointer (some ⟨b,off,none⟩)]/\c.γ id=some b/\∀ o,c.ob id=some o->fo o p=some t/\off=cB o p
 | .fptr t x,cs=>wt t x/\af t=true/\∃ b off,cs=[.pointer (some ⟨b,off,none⟩)]/\oK c.w c.S b off x.flat
 | .mem t id,cs=>af t=true/\∃ b,c.γ id=some b/\∀ o,c.ob id=some o->∃ l,o=.many t l/\cs=[.slice (some ⟨b,0,none⟩) l.length l.length]
 | .st ts l,cs=>aY ts=true/\AV.fitss ts l=true/\lI c l cs
 | .clo f l,cs=>∃ caps:List Value,cs=[.func (.func f) #[] caps.toArray]/\rY c l caps
 | .map kt vt id,cs=>∃ b,cs=[.map (some b)]/\c.γ id=some b/\af kt=true/\af vt=true/\∀ o,c.ob id=some o->∃ l,o=.mp kt vt l
 | .sub sl t id p lo n,cs=>af t=true/\∃ b off cap,cs=[if sl then .slice (some ⟨b,off,none⟩) n cap else .pointer (some ⟨b,off,none⟩)]/\c.γ id=some b/\∀ o,c.ob id=some o->∃ m,fo o p=some (.arr m t)/\lo+n<=m/\off=cB o p+lo*t.size
 | .gone,_=>True
 | .undef,_=>True
def lI(c:Cx):List AV->List Value->Prop
 | [],cs=>cs=[]
 | a::l,cs=>∃ c1 c2,cs=c1++c2/\AC c a c1/\lI c l c2
def rY(c:Cx):List AV->List Value->Prop
 | [],cs=>cs=[]
 | a::l,cs=>∃ v c2,cs=v::c2/\AC c a [v]/\rY c l c2
end
def AR(c:Cx):AV->Value->Prop
 | .gone,v=>v=undef
 | .d t x,v=>(af t=true/\wt t x/\eN c.w c.S x v)\/∃ ts,t=.tup ts/\aY ts=true/\wt t x/\DR c.w c.S x v
 | .undef,_=>True
 | .st ts l,v=>(∃ cs,v=.agg cs)/\AC c (.st ts l) v.cells.toList
 | a,v=>(∀ cs,v≠.agg cs)/\AC c a v.cells.toList
structure Cx.le(c c':Cx):Prop where
 cell:∀ b o,c.S b o->c'.w.cell? ⟨b,o,none⟩=c.w.cell? ⟨b,o,none⟩
 S:∀ b o,c.S b o->c'.S b o
 γ:∀ id b,c.γ id=some b->c'.γ id=some b
 ob:∀ id o,c'.ob id=some o->(∃ b,c.γ id=some b)->∃ o',c.ob id=some o'/\(∀ p,fo o p=fo o' p/\cB o p=cB o' p)/\(∀ t l,o'=.many t l->∃ l',o=.many t l'/\l'.length=l.length)/\(∀ kt vt l,o'=.mp kt vt l->∃ l',o=.mp kt vt l')
 β:∀ v,v ∉ c'.dead->v ∉ c.dead/\∀ b e,c.β v=some (b,e)->c'.β v=some (b,e)/\∀ n,nR c.w b=some n->nR c'.w b=some n
mutual
theorem AC.mono{c c':Cx}(h:c.le c'):∀ (a:AV) (cs:List Value),AC c a cs->AC c' a cs
 | .d t x,cs,k=>by simp only[AC] at k ⊢;exact⟨k.1,k.2.1,k.2.2.mono h.cell h.S⟩
 | .own t v l,cs,k=>by
  simp only[AC] at k ⊢
  obtain⟨k0,k1,a,cap,rfl,k2,k3⟩:=k
  refine⟨k0,k1,a,cap,rfl,k2.mono h.cell h.S,fun hd=>?_⟩
  obtain⟨h1,h2⟩:=h.β v hd
  rcases k3 h1 with h3|⟨b,off,h3,h4,n,h5,h6⟩
  ·exact .inl h3
  ·exact .inr ⟨b,off,h3,(h2 _ _ h4).1,n,(h2 _ _ h4).2 n h5,h6⟩
 | .nils,cs,k=>by simpa only[AC] using k
 | .ptr t id p,cs,k=>by
  simp only[AC] at k ⊢
  obtain⟨b,off,rfl,k1,k2⟩:=k
  refine⟨b,off,rfl,h.γ _ _ k1,fun o ho=>?_⟩
  obtain⟨o',h1,h2,_⟩:=h.ob id o ho ⟨b,k1⟩
  rw[(h2 p).1,(h2 p).2];exact k2 o' h1
 | .fptr t x,cs,k=>by
  simp only[AC] at k ⊢
  obtain⟨k1,k0,b,off,rfl,k2⟩:=k
  exact⟨k1,k0,b,off,rfl,k2.mono h.cell h.S⟩
 | .mem t id,cs,k=>by
  simp only[AC] at k ⊢
  obtain⟨k0,b,k1,k2⟩:=k
  refine⟨k0,b,h.γ _ _ k1,fun o ho=>?_⟩
  obtain⟨o',h1,_,h3,_⟩:=h.ob id o ho ⟨b,k1⟩
  obtain⟨l,rfl,h4⟩:=k2 o' h1
  obtain⟨l',rfl,h5⟩:=h3 _ _ rfl
  exact⟨l',rfl,by rw[h5];exact h4⟩
 | .st ts l,cs,k=>by
  simp only[AC] at k ⊢
  exact⟨k.1,k.2.1,lI.mono h l cs k.2.2⟩
 | .clo f l,cs,k=>by
  simp only[AC] at k ⊢
  obtain⟨caps,rfl,k1⟩:=k
  exact⟨caps,rfl,rY.mono h l caps k1⟩
 | .map kt vt id,cs,k=>by
  simp only[AC] at k ⊢
  obtain⟨b,e,k1,k2,k3,k4⟩:=k
  refine⟨b,e,h.γ _ _ k1,k2,k3,fun o ho=>?_⟩
  obtain⟨o',h1,_,_,h3⟩:=h.ob id o ho ⟨b,k1⟩
  obtain⟨l,rfl⟩:=k4 o' h1
  exact h3 kt vt l rfl
 | .sub sl t id p lo n,cs,k=>by
  simp only[AC] at k ⊢
  obtain⟨k0,b,off,cap,rfl,k1,k2⟩:=k
  refine⟨k0,b,off,cap,rfl,h.γ _ _ k1,fun o ho=>?_⟩
  obtain⟨o',h1,h2,_⟩:=h.ob id o ho ⟨b,k1⟩
  obtain⟨m,q1,q2,q3⟩:=k2 o' h1
  exact⟨m,by rw[(h2 p).1];exact q1,q2,by rw[(h2 p).2];exact q3⟩
 | .gone,cs,k=>by simp[AC]
 | .undef,cs,k=>by simp[AC]
theorem lI.mono{c c':Cx}(h:c.le c'):∀ (l:List AV) (cs:List Value),lI c l cs->lI c' l cs
 | [],cs,k=>by simpa only[lI] using k
 | a::l,cs,k=>by
  simp only[lI] at k ⊢
  obtain⟨c1,c2,rfl,k1,k2⟩:=k
  exact⟨c1,c2,rfl,AC.mono h a c1 k1,lI.mono h l c2 k2⟩
theorem rY.mono{c c':Cx}(h:c.le c'):∀ (l:List AV) (cs:List Value),rY c l cs->rY c' l cs
 | [],cs,k=>by simpa only[rY] using k
 | a::l,cs,k=>by
  simp only[rY] at k ⊢
  obtain⟨c1,c2,rfl,k1,k2⟩:=k
  exact⟨c1,c2,rfl,AC.mono h a _ k1,rY.mono h l c2 k2⟩
end
theorem AR.mono{c c':Cx}(h:c.le c'){a:AV}{v:Value}(k:AR c a v):AR c' a v:=by
 cases a<;>simp only[AR] at k ⊢
 case d t x=>
  rcases k with⟨k1,k2,k3⟩|⟨ts,k1,k0,k2,k3⟩
  ·exact .inl ⟨k1,k2,k3.mono h.cell h.S⟩
  ·exact .inr ⟨ts,k1,k0,k2,k3.mono h.cell h.S⟩
 all_goals first|exact⟨k.1,AC.mono h _ _ k.2⟩|exact k
def ja(c:Cx)(kt vt:Ty):Nat->List D->List MapEntry->Prop
 | _,[],[]=>True
 | j,x::l,e::es=>(e.born=j/\∃ k v,x=.st [k,v]/\wt kt k/\wt vt v/\eN c.w c.S k e.key/\eN c.w c.S v e.val)/\ja c kt vt (j+1) l es
 | _,_,_=>False
def ii(c:Cx)(b:Nat):Ob->Prop
 | .one t v=>af t=true/\AV.fits t v=true/\(∀ o,¬ c.S b o)/\∃ cs:List Value,bp c.w b=some cs.toArray/\AC c v cs/\cs.length=t.size
 | .many t l=>af t=true/\(∀ x∈l,wt t x)/\(∀ o,¬ c.S b o)/\∃ cs:List Value,bp c.w b=some cs.toArray/\cH c.w c.S (D.flats l) cs
 | .mp kt vt l=>af kt=true/\af vt=true/\(∀ o,¬ c.S b o)/\∃ es:Array MapEntry,c.w.heap[b]?=some (.map es l.length)/\ja c kt vt 0 l es.toList
structure Root where
 w:World
 S0:Nat->Nat->Prop
 sh:Nat->Prop
abbrev Root.heap(r:Root):Array Obj:=r.w.heap
def Root.Old(r:Root)(b:Nat):Prop:=b<r.heap.size/\¬ r.sh b
structure dF(r:Root)(w:World):Prop where
 tape:w.tape=r.w.tape
 os:w.os=r.w.os
 output:w.output=r.w.output
 sz:r.heap.size<=w.heap.size
 dr:r.w.drawn<=w.drawn
 old:∀ b,r.Old b->w.heap[b]?=r.w.heap[b]?
structure Rp(w0:Root)(S:Nat->Nat->Prop)(γ:Nat->Option Nat)(β:Nat->Option (Nat×Nat))(s:St)(a:Act)(w:World):Prop where
 ext:dF w0 w
 tms:∀ t,t<a.tmps.size->AR ⟨w,S,γ,β,s.ob,s.dead⟩ (s.tm t) (a.tmps.getD t undef)
 nt:a.tmps.size=s.nt
 tmu:∀ t,s.nt<=t->s.tm t=.undef
 obs:∀ id o b,s.ob id=some o->γ id=some b->ii ⟨w,S,γ,β,s.ob,s.dead⟩ b o
 γn:∀ id b,γ id=some b->¬ w0.Old b/\b<w.heap.size
 γi:∀ id id' b,γ id=some b->γ id'=some b->id=id'
 γf:∀ id,s.base+4096<=id->γ id=none
 βn:∀ v b e,v ∉ s.dead->β v=some (b,e)->¬ w0.Old b/\b<w.heap.size/\∀ o,e<=o->¬ S b o
 βi:∀ v v' b e e',v ∉ s.dead->v' ∉ s.dead->β v=some (b,e)->β v'=some (b,e')->v=v'
 βγ:∀ v id b e,v ∉ s.dead->β v=some (b,e)->γ id≠some b
 βf:∀ v,s.base+4096<=v->β v=none
 Sb:∀ b o,S b o->b<w.heap.size
 So:∀ b o,S b o->w0.Old b->w0.S0 b o
 df:a.defers=[]
structure Fm(s:St)(S:Nat->Nat->Prop)(γ:Nat->Option Nat)(a:Act)(w:World)(S':Nat->Nat->Prop)(γ':Nat->Option Nat)(a':Act)(w':World):Prop where
 sub:∀ b o,S b o->S' b o
 cell:∀ b o,S b o->w'.cell? ⟨b,o,none⟩=w.cell? ⟨b,o,none⟩
 slots:∀ t∈s.lkS,a'.tmps.getD t undef=a.tmps.getD t undef
 objs:∀ id∈s.lkO,∀ b,γ id=some b->γ' id=some b/\w'.heap[b]?=w.heap[b]?
 sz:w.heap.size<=w'.heap.size
 gam:∀ id b,γ id=some b->γ' id=some b
structure Sk(s s':St):Prop where
 lkS:s'.lkS=s.lkS
 lkO:s'.lkO=s.lkO
 nt:s'.nt=s.nt
theorem Sk.refl(s:St):Sk s s:=⟨rfl,rfl,rfl⟩
theorem Sk.trans{a b c:St}(h:Sk a b)(k:Sk b c):Sk a c:=⟨k.lkS.trans h.lkS,k.lkO.trans h.lkO,k.nt.trans h.nt⟩
end Go.Proofs.YtjjjkojfijpeeaaGreat.Sy
end
section
namespace Go.Proofs.YtjjjkojfijpeeaaGreat.Sy
open Go
def cz:Ty->Bool
 | .st _=>true
 | .arr _ _=>true
 | _=>false
mutual
def Ty.high:Ty->Nat
 | .st l=>Ty.highs l+1
 | .arr _ t=>t.high+1
 | .sl t=>t.high+1
 | .tup l=>Ty.highs l+1
 | _=>1
def Ty.highs:List Ty->Nat
 | []=>0
 | t::l=>max t.high (Ty.highs l)
end
def yB:D->Value->Bool
 | .int k n,.int k' n'=>decide (k=k')&&decide (n=n')
 | .bool b,.bool b'=>b==b'
 | .str s,.string s'=>decide (s=s')
 | .sl l,.slice a len cap=>l.isEmpty&&a.isNone&&decide (len=0)&&decide (cap=0)
 | _,_=>false
def bP:List D->List Value->Bool
 | [],[]=>true
 | d::l,v::l'=>yB d v&&bP l l'
 | _,_=>false
def mT(P:Program)(t:TypeId)(ty:Ty):Bool:=
 match P.info? t with
 | some i=>decide (i.size=ty.size)&&decide (i.bytes<=16384)&&decide (i.size<=4096)&&(match i.zero with|some z=>bP (aA ty).flat z.cells.toList&&(match z with|.agg _=>cz ty|_=>!cz ty)|none=>false)
 | none=>false
mutual
def bh(P:Program):Ty->TypeId->Bool
 | .int k,t=>mT P t (.int k)&&(match P.underlying t with|some (.int k')=>decide (k=k')|_=>false)
 | .bool,t=>mT P t .bool&&(match P.underlying t with|some .bool=>true|_=>false)
 | .str,t=>mT P t .str&&(match P.underlying t with|some .string=>true|_=>false)
 | .st ts,t=>mT P t (.st ts)&&!P.stoodInHeld t&&!P.eqGuardType P.depth t&&(match P.underlying t with|some (.struct fs)=>fq P ts fs.toList 0|_=>false)
 | .arr n e,t=>mT P t (.arr n e)&&!P.eqGuardType P.depth t&&(match P.underlying t with|some (.array m u)=>decide (m=n)&&bh P e u|_=>false)
 | .sl e,t=>mT P t (.sl e)&&(match P.underlying t with|some (.slice u)=>bh P e u|_=>false)
 | _,_=>false
def fq(P:Program):List Ty->List Field->Nat->Bool
 | [],[],_=>true
 | t :: ts, f :: fs, off => decide (f.offset = off) && decide (f.name ≠ "_") && decide (0 < t.size) && bh P t f.type && fq P ts fs (off + t.size)
 | _,_,_=>false
end
def Ei(P:Program)(ptys:List Ty)(rty:Ty)(f:FuncId)(xs:List D)(y:D):Prop:=
 ∀ (w:World) (S:Nat->Nat->Prop) (vs:List Value),(∀ b o,S b o->b<w.heap.size)->gn ptys xs->vs.length=xs.length->(∀ (i:Nat) (x:D) (v:Value),xs[i]?=some x->vs[i]?=some v->eN w S x v) ->
  Calls P f vs.toArray w fun e w'=>∃ v,e=.returned v/\(∃ os d,w.drawn<=d/\w'=aw w os d)/\wt rty y/\DR w' (fun b o=>S b o\/(w.heap.size<=b/\b<w'.heap.size)) y v
def Cf(P:Program)(f:FuncId)(g:Ann->(R:Type)->St->List AV->(AV->St->Option R)->Option R):Prop:=
 ∀ (ann:Ann) (R:Type) (w0:Root) (S:Nat->Nat->Prop) (γ:Nat->Option Nat) (β:Nat->Option (Nat×Nat)) (s:St) (a:Act) (w:World) (avs:List AV) (vs:List Value) (K:AV->St->Option R) (r:R),
  Rp w0 S γ β s a w->avs.length=vs.length->(∀ (i:Nat) (x:AV) (v:Value),avs[i]?=some x->vs[i]?=some v->AR ⟨w,S,γ,β,s.ob,s.dead⟩ x v)->g ann R s avs K=some r ->
  Calls P f vs.toArray w fun e w'=>∃ v y s' S' γ' β',e=.returned v/\K y s'=some r/\Rp w0 S' γ' β' s' a w'/\AR ⟨w',S',γ',β',s'.ob,s'.dead⟩ y v/\Fm s S γ a w S' γ' a w'/\Sk s s'
structure EnvOk(P:Program)(E:Env):Prop where
 lay:∀ t ty,E.L t=some ty->(∃ ts,ty=.tup ts)\/bh P ty t=true
 high:∀ t ty,E.L t=some ty->ty.high<=1000
 flat:∀ t ty,E.L t=some ty->af ty=true
 sig : ∀ f ptys rty, E.sig f = some (ptys, rty) -> aY ptys = true /\ (af rty = true \/ ∃ ts, rty = .tup ts /\ aY ts = true) /\ ∃ fn, P.funcs[f]? = some fn /\ (fn.name == "runtime.NumGoroutine") = false /\ fn.body.isSome = true
 call:∀ f ptys rty xs y,E.sig f=some (ptys,rty)->E.call f xs=some y->gn ptys xs->Ei P ptys rty f xs y
 mixed:P.follows .mixedOrders=true
 lp:∀ (α β:Type) (body:α->Option (Sum α β)) (x:α) (y:β),E.lp body x=some y->∃ n,nh body n x=some y
 mapL:∀ t kt vt,E.mapL t=some (kt,vt)->aW kt=true/\∃ K V,P.underlying t=some (.map K V)/\bh P kt K=true/\bh P vt V=true/\kt.high<=1000
 inl : ∀ f g, E.inl f = some g -> (∃ fn, P.funcs[f]? = some fn /\ (fn.name == "runtime.NumGoroutine") = false /\ fn.body.isSome = true) /\ Cf P f g
theorem eR{P:Program}{t:TypeId}{ty:Ty}(h:mT P t ty=true):∃ i z,P.info? t=some i/\i.size=ty.size/\(i.bytes<=16384/\ty.size<=4096)/\i.zero=some z/\bP (aA ty).flat z.cells.toList=true/\((∃ cs,z=.agg cs)↔cz ty=true):=by
 unfold mT at h
 split at h
 ·rename_i i hi
  simp only[Bool.and_eq_true,decide_eq_true_eq] at h
  obtain⟨⟨⟨h1,h2⟩,h2'⟩,h3⟩:=h
  split at h3
  ·rename_i z hz
   simp only[Bool.and_eq_true] at h3
   refine⟨i,z,hi,h1,⟨h2,h1 ▸ h2'⟩,hz,h3.1,?_⟩
   have h4:=h3.2
   split at h4
   ·rename_i cs;exact⟨fun _=>h4,fun _=>⟨cs,rfl⟩⟩
   ·rename_i hne
    simp only[Bool.not_eq_true'] at h4
    exact⟨fun⟨cs,hcs⟩=>absurd hcs (hne cs),fun hh=>by rw[h4] at hh;cases hh⟩
  ·cases h3
 ·cases h
theorem fM{P:Program}{t:TypeId}{ty:Ty}(h:bh P ty t=true):mT P t ty=true:=by
 cases ty<;>simp only[bh,Bool.and_eq_true] at h<;>first
  | exact h.1
  | exact h.1.1
  | exact h.1.1.1
  | cases h
theorem tY{P:Program}{t:TypeId}:∀ {ty:Ty},bh P ty t=true->(∃ ts,ty=.tup ts)\/ty=.fn->False:=by
 intro ty h hh
 rcases hh with⟨ts,rfl⟩|rfl<;>simp[bh] at h
theorem bJ{P:Program}{t:TypeId}{ty:Ty}(h:bh P ty t=true)(w:World):(sizeOf t).run P w=.ok ty.size w:=by
 obtain⟨i,z,h1,h2,_⟩:=eR (fM h)
 exact yj (by rw[h1];simp[h2]) w
theorem Ac{P:Program}{t:TypeId}{ty:Ty}(h:bh P ty t=true)(w:World):(isAgg t).run P w=.ok (cz ty) w:=by
 have key:∀ d,P.underlying t=some d->(isAgg t).run P w=.ok (match d with|.struct _|.array _ _=>true|_=>false) w:=fun d hd=>by
  unfold isAgg
  rw[Sem.run_bind,run_underlying hd w]
  cases d<;>rfl
 cases ty<;>simp only[bh,Bool.and_eq_true] at h
 case int k=>obtain⟨_,h⟩:=h;split at h<;>first|(rename_i hu;rw[key _ hu];rfl)|cases h
 case bool=>obtain⟨_,h⟩:=h;split at h<;>first|(rename_i hu;rw[key _ hu];rfl)|cases h
 case str=>obtain⟨_,h⟩:=h;split at h<;>first|(rename_i hu;rw[key _ hu];rfl)|cases h
 case st ts=>obtain⟨_,h⟩:=h;split at h<;>first|(rename_i hu;rw[key _ hu];rfl)|cases h
 case arr n e=>obtain⟨_,h⟩:=h;split at h<;>first|(rename_i hu;rw[key _ hu];rfl)|cases h
 case sl e=>obtain⟨_,h⟩:=h;split at h<;>first|(rename_i hu;rw[key _ hu];rfl)|cases h
 all_goals cases h
theorem iT{P:Program}{t:TypeId}{ts:List Ty}(h:bh P (.st ts) t=true):∃ fs,P.underlying t=some (.struct fs)/\fq P ts fs.toList 0=true:=by
 simp only[bh,Bool.and_eq_true] at h
 have h2:=h.2
 split at h2
 ·rename_i fs hu;exact⟨fs,hu,h2⟩
 ·cases h2
theorem dT{P:Program}{t:TypeId}{n:Nat}{e:Ty}(h:bh P (.arr n e) t=true):∃ u,P.underlying t=some (.array n u)/\bh P e u=true:=by
 simp only[bh,Bool.and_eq_true] at h
 have h2:=h.2
 split at h2
 ·rename_i m u hu
  simp only[Bool.and_eq_true,decide_eq_true_eq] at h2
  obtain⟨rfl,h3⟩:=h2
  exact⟨u,hu,h3⟩
 ·cases h2
theorem im{P:Program}{t:TypeId}{e:Ty}(h:bh P (.sl e) t=true):∃ u,P.underlying t=some (.slice u)/\bh P e u=true:=by
 simp only[bh,Bool.and_eq_true] at h
 have h2:=h.2
 split at h2
 ·rename_i u hu
  exact⟨u,hu,h2⟩
 ·cases h2
theorem jG{P:Program}{t:TypeId}{k:IntKind}(h:bh P (.int k) t=true):P.underlying t=some (.int k):=by
 simp only[bh,Bool.and_eq_true] at h
 have h2:=h.2
 split at h2
 ·rename_i k' hu
  simp only[decide_eq_true_eq] at h2
  rw[hu,h2]
 ·cases h2
theorem pL{P:Program}:∀ {ts:List Ty} {fs:List Field} {off i:Nat} {t:Ty},fq P ts fs off=true->ts[i]?=some t->∃ f,fs[i]?=some f/\f.offset=off+Ty.sizes (ts.take i)/\0<t.size/\bh P t f.type=true
 | [],_,_,_,_,_,h=>by simp at h
 | u::ts,[],_,_,_,h,_=>by simp[fq] at h
 | u::ts,f::fs,off,i,t,h,hi=>by
  simp only[fq,Bool.and_eq_true,decide_eq_true_eq] at h
  obtain⟨⟨⟨⟨h1,_⟩,h2⟩,h3⟩,h4⟩:=h
  cases i with
  | zero=>simp at hi;subst hi;exact⟨f,rfl,by simp[Ty.sizes,h1],h2,h3⟩
  | succ i=>
   simp at hi
   obtain⟨g,k1,k2,k3⟩:=pL h4 hi
   exact⟨g,by simpa using k1,by rw[k2];simp[Ty.sizes,Nat.add_assoc],k3⟩
def nag(cs:List Value):Prop:=∀ v∈cs,v.oneCell'=true
theorem cH.nag{w:World}{S:Nat->Nat->Prop}{ds:List D}{cs:List Value}(h:cH w S ds cs):nag cs:=by
 intro v hv
 obtain⟨i,hi,he⟩:=List.getElem_of_mem hv
 have h1:cs[i]?=some v:=by rw[List.getElem?_eq_getElem hi,he]
 have h2:i<ds.length:=by rw[h.1];exact hi
 have h3:=h.2 i _ v (List.getElem?_eq_getElem h2) h1
 revert h3
 generalize ds[i]=d
 intro h3
 cases h3<;>rfl
theorem zt{a b:List Value}(h:nag a)(k:nag b):nag (a++b):=fun v hv=>by
 rcases List.mem_append.1 hv with h1|h1
 ·exact h v h1
 ·exact k v h1
mutual
theorem gq{c:Cx}:∀ (a:AV) (t:Ty) (cs:List Value),AV.fits t a=true->AC c a cs->cs.length=t.size/\nag cs
 | .d t' x,t,cs,hf,h=>by
  have hf':t.beq t'=true:=by cases t<;>simpa only[AV.fits] using hf
  rw[Ty.eq_of_beq _ _ hf']
  simp only[AC] at h
  exact⟨by rw[<-h.2.2.1];exact bu _ _ h.1 h.2.1,h.2.2.nag⟩
 | .own t' v l,t,cs,hf,h=>by
  cases t<;>simp only[AV.fits] at hf<;>first|cases hf|skip
  simp only[AC] at h
  obtain⟨_,_,a,cap,rfl,_⟩:=h
  exact⟨rfl,fun v hv=>by simp at hv;subst hv;rfl⟩
 | .nils,t,cs,hf,h=>by
  cases t<;>simp only[AV.fits] at hf<;>first|cases hf|skip
  simp only[AC] at h
  subst h
  exact⟨rfl,fun v hv=>by simp at hv;subst hv;rfl⟩
 | .st ts' l,t,cs,hf,h=>by
  cases t<;>simp only[AV.fits] at hf<;>first|cases hf|skip
  rename_i ts
  simp only[Bool.and_eq_true] at hf
  simp only[AC] at h
  simp only[Ty.size]
  exact AO l ts cs hf.2 h.2.2
 | .ptr ..,t,cs,hf,_=>by cases t<;>simp[AV.fits] at hf
 | .fptr ..,t,cs,hf,_=>by cases t<;>simp[AV.fits] at hf
 | .mem ..,t,cs,hf,_=>by cases t<;>simp[AV.fits] at hf
 | .clo ..,t,cs,hf,_=>by cases t<;>simp[AV.fits] at hf
 | .map ..,t,cs,hf,_=>by cases t<;>simp[AV.fits] at hf
 | .sub ..,t,cs,hf,_=>by cases t<;>simp[AV.fits] at hf
 | .gone,t,cs,hf,_=>by cases t<;>simp[AV.fits] at hf
 | .undef,t,cs,hf,_=>by cases t<;>simp[AV.fits] at hf
theorem AO{c:Cx}:∀ (l:List AV) (ts:List Ty) (cs:List Value),AV.fitss ts l=true->lI c l cs->cs.length=Ty.sizes ts/\nag cs
 | [],ts,cs,hf,h=>by
  cases ts<;>simp only[AV.fitss] at hf<;>first|cases hf|skip
  simp only[lI] at h
  subst h
  exact⟨rfl,fun v hv=>by simp at hv⟩
 | a::l,ts,cs,hf,h=>by
  cases ts<;>simp only[AV.fitss] at hf<;>first|cases hf|skip
  simp only[Bool.and_eq_true] at hf
  simp only[lI] at h
  obtain⟨c1,c2,rfl,h1,h2⟩:=h
  obtain⟨k1,k2⟩:=gq a _ c1 hf.1 h1
  obtain⟨k3,k4⟩:=AO l _ c2 hf.2 h2
  exact⟨by simp[Ty.sizes,k1,k3],zt k2 k4⟩
end
def fa(t:Ty)(cs:List Value)(v:Value):Prop:=v.cells.toList=cs/\(cz t=true->∃ xs,v=.agg xs)/\(cz t=false->∀ xs,v≠.agg xs)
mutual
theorem aD{P:Program}:∀ (ty:Ty) (t:TypeId),bh P ty t=true->af ty=true
 | .int _,_,_=>rfl
 | .bool,_,_=>rfl
 | .str,_,_=>rfl
 | .st ts,t,h=>by obtain⟨fs,_,h2⟩:=iT h;simp only[af];exact oV ts _ _ h2
 | .arr n e,t,h=>by obtain⟨u,_,h2⟩:=dT h;simp only[af];exact aD e u h2
 | .sl e,t,h=>by obtain⟨u,_,h2⟩:=im h;simp only[af];exact aD e u h2
 | .tup _,t,h=>by simp[bh] at h
 | .fn,t,h=>by simp[bh] at h
theorem oV{P:Program}:∀ (ts:List Ty) (fs:List Field) (off:Nat),fq P ts fs off=true->aY ts=true
 | [],_,_,_=>rfl
 | t::ts,[],_,h=>by simp[fq] at h
 | t::ts,f::fs,off,h=>by
  simp only[fq,Bool.and_eq_true] at h
  simp only[aY,Bool.and_eq_true]
  exact⟨aD t _ h.1.2,oV ts fs _ h.2⟩
end
theorem mF{t:Ty}{x:D}{v:Value}(h:wt t x)(hn:af t=true)(hs:Jv x v):(cz t=true->∃ xs,v=.agg xs)/\(cz t=false->∀ xs,v≠.agg xs):=by
 cases t<;>simp only[wt] at h
 case int k=>obtain⟨n,rfl⟩:=h;exact⟨fun h=>by simp[cz] at h,fun _=>hs⟩
 case bool=>obtain⟨n,rfl⟩:=h;exact⟨fun h=>by simp[cz] at h,fun _=>hs⟩
 case str=>obtain⟨n,rfl⟩:=h;exact⟨fun h=>by simp[cz] at h,fun _=>hs⟩
 case st ts=>obtain⟨n,rfl,_⟩:=h;exact⟨fun _=>hs,fun h=>by simp[cz] at h⟩
 case arr m ts=>obtain⟨n,rfl,_⟩:=h;exact⟨fun _=>hs,fun h=>by simp[cz] at h⟩
 case sl ts=>obtain⟨n,rfl,_⟩:=h;exact⟨fun h=>by simp[cz] at h,fun _=>hs⟩
 case tup ts=>simp[af] at hn
theorem qf{t:Ty}{x:D}{v:Value}(h:wt t x)(hn:af t=true)(hs:(cz t=true->∃ xs,v=.agg xs)/\(cz t=false->∀ xs,v≠.agg xs)):Jv x v:=by
 cases t<;>simp only[wt] at h
 case int k=>obtain⟨n,rfl⟩:=h;exact hs.2 rfl
 case bool=>obtain⟨n,rfl⟩:=h;exact hs.2 rfl
 case str=>obtain⟨n,rfl⟩:=h;exact hs.2 rfl
 case st ts=>obtain⟨n,rfl,_⟩:=h;exact hs.1 rfl
 case arr m ts=>obtain⟨n,rfl,_⟩:=h;exact hs.1 rfl
 case sl ts=>obtain⟨n,rfl,_⟩:=h;exact hs.2 rfl
 case tup ts=>simp[af] at hn
theorem vZ{c:Cx}{t:Ty}{a:AV}{v:Value}(hf:AV.fits t a=true)(hn:af t=true)(h:AR c a v):AC c a v.cells.toList/\fa t v.cells.toList v:=by
 cases a
 case d t' x=>
  have hf':t.beq t'=true:=by cases t<;>simpa only[AV.fits] using hf
  have he:=Ty.eq_of_beq _ _ hf'
  subst he
  simp only[AR] at h
  rcases h with⟨h1,h2,h3⟩|⟨ts,rfl,_⟩
  ·refine⟨by simp only[AC];exact⟨h2,h1,h3.2⟩,rfl,mF h2 h1 h3.1⟩
  ·simp[af] at hn
 case own t' v' l=>
  cases t<;>simp only[AV.fits] at hf<;>first|cases hf|skip
  simp only[AR] at h
  exact⟨h.2,rfl,by simp[cz],fun _=>h.1⟩
 case nils=>
  cases t<;>simp only[AV.fits] at hf<;>first|cases hf|skip
  simp only[AR] at h
  exact⟨h.2,rfl,by simp[cz],fun _=>h.1⟩
 case st ts l=>
  cases t<;>simp only[AV.fits] at hf<;>first|cases hf|skip
  simp only[AR] at h
  exact⟨h.2,rfl,fun _=>h.1,by simp[cz]⟩
 all_goals (cases t<;>simp[AV.fits] at hf)
theorem te{c:Cx}{t:Ty}{a:AV}{v:Value}{cs:List Value}(hf:AV.fits t a=true)(h:AC c a cs)(hv:fa t cs v):AR c a v:=by
 obtain⟨hv1,hv2⟩:=hv
 cases a
 case d t' x=>
  have hf':t.beq t'=true:=by cases t<;>simpa only[AV.fits] using hf
  have he:=Ty.eq_of_beq _ _ hf'
  subst he
  simp only[AC] at h
  simp only[AR]
  exact .inl ⟨h.2.1,h.1,qf h.1 h.2.1 hv2,by rw[hv1];exact h.2.2⟩
 case own t' v' l=>
  cases t<;>simp only[AV.fits] at hf<;>first|cases hf|skip
  simp only[AR]
  exact⟨hv2.2 rfl,by rw[hv1];exact h⟩
 case nils=>
  cases t<;>simp only[AV.fits] at hf<;>first|cases hf|skip
  simp only[AR]
  exact⟨hv2.2 rfl,by rw[hv1];exact h⟩
 case st ts l=>
  cases t<;>simp only[AV.fits] at hf<;>first|cases hf|skip
  simp only[AR]
  exact⟨hv2.1 rfl,by rw[hv1];exact h⟩
 all_goals (cases t<;>simp[AV.fits] at hf)
theorem dO{P:Program}{t:Ty}{T:TypeId}(hl:bh P t T=true){w:World}{b off:Nat}{cs:List Value}(hlen:cs.length=t.size)(hn:nag cs)
  (hc:∀ (i:Nat) (c:Value),cs[i]?=some c->w.cell? ⟨b,off+i,none⟩=some c):∃ v,(Instr.loadAt T (.pointer (some ⟨b,off,none⟩))).run P w=.ok v w/\fa t cs v:=by
 unfold Instr.loadAt Instr.sureAddr
 simp only[pure_bind]
 unfold loadVar
 rw[Sem.run_bind,Ac hl,Result.andThen_ok]
 cases ha:cz t
 ·have h1:cs.length=1:=by
   rw[hlen]
   cases t<;>simp[cz] at ha<;>first|rfl|(exfalso;exact tY hl (.inl ⟨_,rfl⟩))
  match cs,h1 with
  | [c],_=>
   refine⟨c,?_,?_⟩
   ·have:=hc 0 c rfl
    simp only[Nat.add_zero] at this
    simp[this]
   ·have h2:=hn c (by simp)
    refine⟨?_,?_,?_⟩
    ·cases c<;>simp_all [Value.cells,Value.oneCell']
    ·rw[ha];intro h;cases h
    ·intro _ xs h;subst h;simp[Value.oneCell'] at h2
 ·have h2:=run_loadCells_list (P:=P) w ⟨b,off,none⟩ cs (fun j v hv=>by rw[bR];exact hc j v hv)
  rw[hlen] at h2
  refine⟨.agg cs.toArray,?_,rfl,fun _=>⟨_,rfl⟩,by rw[ha];intro h;cases h⟩
  simp only[if_true,Sem.run_bind,bJ hl,Result.andThen_ok,h2,Sem.run_pure]
theorem jE{P:Program}{t:Ty}{T:TypeId}(hl:bh P t T=true){w:World}{b off:Nat}{c:Array Value}{v:Value}{cs:List Value}(hr:bp w b=some c)(hv:fa t cs v)(hlen:cs.length=t.size)(hn:nag cs)(hb:off+cs.length<=c.size) :
  (Instr.storeAt T (.pointer (some ⟨b,off,none⟩)) v).run P w=.ok () (bg w b off cs.toArray):=by
 unfold Instr.storeAt Instr.sureAddr
 simp only[pure_bind]
 unfold storeVar
 have h1:v.cells.size=t.size:=by rw[<-Array.length_toList,hv.1,hlen]
 have h2:=ce (P:=P) b off cs 0 w c hr (by omega) (by
  rw[List.all_eq_true];intro x hx;have:=hn x hx;cases x<;>simp_all [Value.oneCell',rR])
 simp only[Nat.add_zero] at h2
 simp only[Sem.run_bind,bJ hl,Result.andThen_ok,h1,ne_eq,not_true_eq_false,if_false,hv.1,h2]
end Go.Proofs.YtjjjkojfijpeeaaGreat.Sy
end
section
namespace Go.Proofs.YtjjjkojfijpeeaaGreat.Sy
open Go
section
variable{H:Type}{enc:TypeId×Value->H}{P:Program}{W:World}{base:Nat}{spare:Nat->Bool}{held:Bool}
def qd(W:World)(b o:Nat):Prop:=(W.cell? ⟨b,o,none⟩).isSome=true
theorem valid_lt{b o:Nat}(h:qd W b o):b<W.heap.size:=by
 unfold qd World.cell? at h
 rcases Nat.lt_or_ge b W.heap.size with k|k
 ·exact k
 ·simp only[Array.getElem?_eq_none k] at h;cases h
mutual
def rH:Ty->Bool
 | .st ts=>uV ts
 | .arr _ t=>rH t
 | .sl t=>decide (0<t.size)&&rH t
 | .tup _=>false
 | .fn=>false
 | _=>true
def uV:List Ty->Bool
 | []=>true
 | t::ts=>rH t&&uV ts
end
theorem jg{T:TypeId}{ty:Ty}(h:bh P ty T=true):P.cellsOf T=ty.size:=by
 obtain⟨i,z,h1,h2,_⟩:=eR (fM h)
 simp[Program.cellsOf,h1,h2]
theorem cH.one'{S:Nat->Nat->Prop}{d:D}{c:Value}(h:CR W S d c):cH W S [d] [c]:=⟨rfl,fun i d' c' hd hc=>by
 cases i with
 | zero=>simp at hd hc;subst hd;subst hc;exact h
 | succ i=>simp at hd⟩
mutual
theorem vL:∀ (ty:Ty) (T:TypeId) (fuel:Nat) (cs:List Value) (x:DataW H×List MemPlace),bh P ty T=true->rH ty=true->DataW.trod enc P W base spare held fuel T cs=some x->∃ d,wt ty d/\cH W (qd W) d.flat cs
 | .int k,T,fuel,cs,x,hl,_,h=>by
  obtain⟨n,rfl,_,_⟩:=DataW.trod_int (jG hl) h
  exact⟨.int k n,⟨n,rfl⟩,cH.one' (.int k n)⟩
 | .bool,T,fuel,cs,x,hl,_,h=>by
  have hu:P.underlying T=some .bool:=by
   simp only[bh,Bool.and_eq_true] at hl
   have h2:=hl.2
   split at h2
   ·assumption
   ·cases h2
  obtain⟨b,rfl,_⟩:=DataW.trod_bool hu h
  exact⟨.bool b,⟨b,rfl⟩,cH.one' (.bool b)⟩
 | .str,T,fuel,cs,x,hl,_,h=>by
  have hu:P.underlying T=some .string:=by
   simp only[bh,Bool.and_eq_true] at hl
   have h2:=hl.2
   split at h2
   ·assumption
   ·cases h2
  obtain⟨s,rfl,_,_⟩:=DataW.trod_string hu h
  exact⟨.str s,⟨s,rfl⟩,cH.one' (.str s)⟩
 | .st ts,T,fuel,cs,x,hl,hp,h=>by
  obtain⟨fs,hu,hf⟩:=iT hl
  obtain⟨xs,n,_,_,hlen,hxl,hx⟩:=DataW.trod_struct hu h
  rw[jg hl] at hlen
  obtain⟨l,h1,h2⟩:=xN ts fs.toList 0 cs n hf (by simpa only[rH] using hp) (fun i f hi=>by
   have hi':fs[i]?=some f:=by simpa using hi
   have hlt:i<xs.length:=by rw[hxl];exact(Array.getElem?_eq_some_iff.1 hi').1
   exact⟨xs[i],(hx i f hi').trans (List.getElem?_eq_getElem hlt)⟩) (by rw[hlen];simp[Ty.size])
  refine⟨.st l,⟨l,rfl,h1⟩,?_⟩
  have:(cs.drop 0).take (Ty.sizes ts)=cs:=by
   rw[List.drop_zero,List.take_of_length_le (by rw[hlen];simp[Ty.size])]
  rw[this] at h2
  exact h2
 | .arr n e,T,fuel,cs,x,hl,hp,h=>by
  obtain⟨u,hu,hl'⟩:=dT hl
  obtain⟨xs,m,_,_,hlen,hxl,hx⟩:=DataW.trod_array hu h
  rw[jg hl] at hlen
  rw[jg hl'] at hx
  simp only[rH] at hp
  have key:∀ k,k<=n->∃ l:List D,l.length=k/\(∀ y∈l,wt e y)/\cH W (qd W) (D.flats l) (cs.take (k*e.size)):=by
   intro k
   induction k with
   | zero=>intro _;exact⟨[],rfl,by simp,by simp[D.flats,cH.nil]⟩
   | succ k ih=>
    intro hk
    obtain⟨l,h1,h2,h3⟩:=ih (by omega)
    have hxk:=hx k (by omega)
    rw[List.getElem?_eq_getElem (show k<xs.length by omega)] at hxk
    obtain⟨d,h4,h5⟩:=vL e u m _ _ hl' hp hxk
    refine⟨l++[d],by simp[h1],fun y hy=>?_,?_⟩
    ·rcases List.mem_append.1 hy with hy|hy
     ·exact h2 y hy
     ·rw[List.mem_singleton.1 hy];exact h4
    ·have e1:cs.take ((k+1)*e.size)=cs.take (k*e.size)++(cs.drop (k*e.size)).take e.size:=by
      rw[Nat.add_mul,Nat.one_mul,List.take_add]
     rw[e1,bA]
     refine h3.append ?_
     simpa [D.flats] using h5
  obtain⟨l,h1,h2,h3⟩:=key n (Nat.le_refl n)
  refine⟨.st l,⟨l,rfl,h1,h2⟩,?_⟩
  rw[List.take_of_length_le (by rw[hlen];simp[Ty.size])] at h3
  exact h3
 | .sl e,T,fuel,cs,x,hl,hp,h=>by
  obtain⟨u,hu,hl'⟩:=im hl
  simp only[rH,Bool.and_eq_true,decide_eq_true_eq] at hp
  rcases DataW.trod_slice hu h with⟨rfl,_⟩|⟨a,len,cap,elems,rest,m,_,rfl,_,hb,hlc,_,hel,hx,_,_⟩
  ·exact⟨.sl [],⟨[],rfl,by simp⟩,cH.one' (CR.of_elems (l:=[]) (b:=0) (off:=0) (.inl rfl) (Nat.le_refl _) ⟨[],cH.nil,by simp⟩)⟩
  ·rw[jg hl'] at hx
   by_cases h0:len=0
   ·subst h0
    exact⟨.sl [],⟨[],rfl,by simp⟩,cH.one' (CR.of_elems (l:=[]) (b:=0) (off:=0) (.inl rfl) (Nat.zero_le _) ⟨[],cH.nil,by simp⟩)⟩
   ·have hsp:∃ b off,a=⟨b,off,none⟩:=by
     have:=hx 0 (by omega)
     rw[List.getElem?_eq_getElem (show 0<elems.length by omega)] at this
     obtain⟨cs',h1,_⟩:=Option.bind_eq_some_iff.1 this
     obtain⟨_,h2,h3⟩:=World.cells?_some h1
     have h4:=h3 0 hp.1
     rw[List.getElem?_eq_getElem (show 0<cs'.length by omega)] at h4
     have e0:(a.add (0*e.size)).add 0=a:=by simp[Addr.add]
     rw[e0] at h4
     obtain⟨b,off,sp⟩:=a
     cases sp with
     | none=>exact⟨b,off,rfl⟩
     | some s=>
      exfalso
      unfold World.cell? at h4
      split at h4
      ·simp at h4
      ·cases h4
    obtain⟨b,off,rfl⟩:=hsp
    have key:∀ k,k<=len->∃ (l:List D) (cs:List Value),l.length=k/\(∀ y∈l,wt e y)/\cH W (qd W) (D.flats l) cs/\∀ j c,cs[j]?=some c->W.cell? ⟨b,off+j,none⟩=some c:=by
     intro k
     induction k with
     | zero=>intro _;exact⟨[],[],rfl,by simp,cH.nil,by simp⟩
     | succ k ih=>
      intro hk
      obtain⟨l,cs,h1,h2,h3,h4⟩:=ih (by omega)
      have hxk:=hx k (by omega)
      rw[List.getElem?_eq_getElem (show k<elems.length by omega)] at hxk
      obtain⟨cs',q1,q2⟩:=Option.bind_eq_some_iff.1 hxk
      obtain⟨_,q3,q4⟩:=World.cells?_some q1
      obtain⟨d,h5,h6⟩:=vL e u m _ _ hl' hp.2 q2
      have hn:af e=true:=aD e u hl'
      have hcl:cs.length=k*e.size:=by rw[<-h3.1,au hn l h2,h1]
      refine⟨l++[d],cs++cs',by simp[h1],fun y hy=>?_,?_,fun j c hc=>?_⟩
      ·rcases List.mem_append.1 hy with hy|hy
       ·exact h2 y hy
       ·rw[List.mem_singleton.1 hy];exact h5
      ·rw[bA]
       refine h3.append ?_
       simpa [D.flats] using h6
      ·rcases Nat.lt_or_ge j cs.length with hj|hj
       ·rw[List.getElem?_append_left hj] at hc;exact h4 j c hc
       ·rw[List.getElem?_append_right hj] at hc
        have hlt:j-cs.length<e.size:=by
         have:=(List.getElem?_eq_some_iff.1 hc).1
         omega
        have:=q4 (j-cs.length) hlt
        rw[hc] at this
        rw[bR,bR] at this
        rw[show off+k*e.size+(j-cs.length)=off+j by omega] at this
        exact this
    obtain⟨l,cs,h1,h2,h3,h4⟩:=key len (Nat.le_refl _)
    refine⟨.sl l,⟨l,rfl,h2⟩,cH.one' ?_⟩
    rw[<-h1]
    exact CR.of_elems (b:=b) (off:=off) (.inr rfl) (by omega) ⟨cs,h3,fun i c hc=>⟨by unfold qd;rw[h4 i c hc];rfl,h4 i c hc⟩⟩
 | .tup _,_,_,_,_,hl,_,_=>by simp[bh] at hl
 | .fn,_,_,_,_,hl,_,_=>by simp[bh] at hl
theorem xN:∀ (ts:List Ty) (fs:List Field) (off:Nat) (cs:List Value) (n:Nat),fq P ts fs off=true->uV ts=true ->
  (∀ (i:Nat) (f:Field),fs[i]?=some f->∃ x:DataW H×List MemPlace,DataW.trod enc P W base spare held n f.type ((cs.drop f.offset).take (P.cellsOf f.type))=some x)->off+Ty.sizes ts<=cs.length ->
  ∃ l,gn ts l/\cH W (qd W) (D.flats l) ((cs.drop off).take (Ty.sizes ts))
 | [],_,off,cs,n,_,_,_,_=>⟨[],rfl,by simp[D.flats,Ty.sizes,cH.nil]⟩
 | t::ts,[],off,cs,n,h,_,_,_=>by simp[fq] at h
 | t::ts,f::fs,off,cs,n,h,hp,hx,hle=>by
  simp only[fq,Bool.and_eq_true,decide_eq_true_eq] at h
  obtain⟨⟨⟨⟨h1,_⟩,h2⟩,h3⟩,h4⟩:=h
  simp only[uV,Bool.and_eq_true] at hp
  simp only[Ty.sizes] at hle ⊢
  obtain⟨x,hx0⟩:=hx 0 f rfl
  rw[jg h3,h1] at hx0
  obtain⟨d,q1,q2⟩:=vL t f.type n _ _ h3 hp.1 hx0
  obtain⟨l,q3,q4⟩:=xN ts fs (off+t.size) cs n h4 hp.2 (fun i g hi=>hx (i+1) g (by simpa using hi)) (by omega)
  refine⟨d::l,⟨d,l,rfl,q1,q3⟩,?_⟩
  rw[List.take_add,List.drop_drop]
  simp only[D.flats]
  exact q2.append q4
end
end
end Go.Proofs.YtjjjkojfijpeeaaGreat.Sy
end
section
namespace Go.Proofs.YtjjjkojfijpeeaaGreat.Sy
open Go
theorem bind_some_inv.{u,v}{α:Type u}{β:Type v}{x:Option α}{f:α->Option β}{r:β}(h:x.bind f=some r):∃ a,x=some a/\f a=some r:=by
 cases x with
 | none=>cases h
 | some a=>exact⟨a,rfl,h⟩
theorem oB{t t':Ty}{x:D}(h:AV.fits t (.d t' x)=true):t=t':=by
 have hf':t.beq t'=true:=by cases t<;>simpa only[AV.fits] using h
 exact Ty.eq_of_beq _ _ hf'
theorem Ty.beq_refl':∀ (t:Ty),t.beq t=true:=by
 intro t
 exact(Ty.rec (motive_1:=fun t=>t.beq t=true) (motive_2:=fun l=>Ty.beqs l l=true)
  (fun k=>by simp[Ty.beq]) rfl rfl (fun l h=>by simpa [Ty.beq] using h) (fun n t h=>by simp[Ty.beq,h]) (fun t h=>by simpa [Ty.beq] using h) (fun l h=>by simpa [Ty.beq] using h) rfl rfl
  (fun t l h1 h2=>by simp[Ty.beqs,h1,h2]) t)
theorem bv(t:Ty)(x:D):AV.fits t (.d t x)=true:=by
 have:=Ty.beq_refl' t
 cases t<;>simpa only[AV.fits] using this
theorem od:∀ {ts:List Ty} {l:List AV} {i:Nat} {a:AV},AV.fitss ts l=true->l[i]?=some a->∃ t,ts[i]?=some t/\AV.fits t a=true
 | _,[],_,_,_,h=>by simp at h
 | [],b::l,_,_,h,_=>by simp[AV.fitss] at h
 | u::ts,b::l,i,a,h,hi=>by
  simp only[AV.fitss,Bool.and_eq_true] at h
  cases i with
  | zero=>simp at hi;subst hi;exact⟨u,rfl,h.1⟩
  | succ i=>simp at hi;obtain⟨t,h1,h2⟩:=od h.2 hi;exact⟨t,by simpa using h1,h2⟩
theorem pT:∀ {ts:List Ty} {l:List AV} {i:Nat} {t:Ty},AV.fitss ts l=true->ts[i]?=some t->∃ a,l[i]?=some a/\AV.fits t a=true
 | [],_,_,_,_,h=>by simp at h
 | u::ts,[],_,_,h,_=>by simp[AV.fitss] at h
 | u::ts,b::l,i,a,h,hi=>by
  simp only[AV.fitss,Bool.and_eq_true] at h
  cases i with
  | zero=>simp at hi;subst hi;exact⟨b,rfl,h.1⟩
  | succ i=>simp at hi;obtain⟨t,h1,h2⟩:=pT h.2 hi;exact⟨t,by simpa using h1,h2⟩
theorem kT:∀ {ts:List Ty} {l:List AV} {i:Nat} {t:Ty} {b:AV},AV.fitss ts l=true->ts[i]?=some t->AV.fits t b=true->AV.fitss ts (l.set i b)=true
 | [],_,_,_,_,_,h,_=>by simp at h
 | u::ts,[],_,_,_,h,_,_=>by simp[AV.fitss] at h
 | u::ts,a::l,i,t,b,h,hi,hb=>by
  simp only[AV.fitss,Bool.and_eq_true] at h
  cases i with
  | zero=>simp at hi;subst hi;simp[AV.fitss,hb,h.2]
  | succ i=>simp at hi;simp only[List.set_cons_succ,AV.fitss,Bool.and_eq_true];exact⟨h.1,kT h.2 hi hb⟩
theorem pv{c:Cx}:∀ {ts:List Ty} {l:List AV} {cs:List Value} {i:Nat} {a:AV},AV.fitss ts l=true->aY ts=true->lI c l cs->l[i]?=some a ->
  ∃ pre mid post,cs=pre++(mid++post)/\pre.length=Ty.sizes (ts.take i)/\AC c a mid/\∀ b bs,AC c b bs->lI c (l.set i b) (pre++(bs++post))
 | _,[],_,_,_,_,_,_,h=>by simp at h
 | [],b::l,_,_,_,h,_,_,_=>by simp[AV.fitss] at h
 | u::ts,b::l,cs,i,a,hf,hn,h,hi=>by
  simp only[AV.fitss,Bool.and_eq_true] at hf
  simp only[aY,Bool.and_eq_true] at hn
  simp only[lI] at h
  obtain⟨c1,c2,rfl,h1,h2⟩:=h
  cases i with
  | zero=>
   simp at hi;subst hi
   exact⟨[],c1,c2,by simp,by simp[Ty.sizes],h1,fun b bs hb=>by simp only[List.set_cons_zero,lI,List.nil_append];exact⟨bs,c2,rfl,hb,h2⟩⟩
  | succ i=>
   simp at hi
   obtain⟨pre,mid,post,rfl,k1,k2,k3⟩:=pv hf.2 hn.2 h2 hi
   refine⟨c1++pre,mid,post,by simp[List.append_assoc],?_,k2,fun b bs hb=>?_⟩
   ·simp only[List.length_append,List.take_succ_cons,Ty.sizes,k1,(gq b u c1 hf.1 h1).1]
   ·simp only[List.set_cons_succ,lI,List.append_assoc]
    exact⟨c1,pre++(bs++post),rfl,h1,k3 b bs hb⟩
theorem km{ts:List Ty}{i:Nat}{p:List Nat}{u:Ty}(h:aI (.st ts) (i::p)=some u):∃ v,ts[i]?=some v/\aI v p=some u:=by
 simp only[aI] at h
 exact bind_some_inv h
theorem AE{R:Type}{c:Cx}:∀ (p:List Nat) {T t:Ty} {a:AV} {cs:List Value} {K:AV->Option R} {r:R},AV.fits T a=true->af T=true->aI T p=some t->AC c a cs->ss a p K=some r ->
  ∃ a' pre mid post,K a'=some r/\cs=pre++(mid++post)/\pre.length=aL T p/\AC c a' mid/\AV.fits t a'=true:=by
 intro p
 induction p with
 | nil=>
  intro T t a cs K r hf hn hp hc hg
  have hT:T=t:=by cases T<;>simpa [aI] using hp
  subst hT
  refine⟨a,[],cs,[],?_,by simp,by cases T<;>rfl,hc,hf⟩
  cases a<;>simpa [ss] using hg
 | cons i p ih=>
  intro T t a cs K r hf hn hp hc hg
  cases a<;>simp only[ss] at hg
  case d t' x=>
   have:=oB hf;subst this
   obtain⟨t2,h1,h2⟩:=bind_some_inv hg
   obtain⟨y,h3,h4⟩:=bind_some_inv h2
   rw[hp] at h1;cases h1
   simp only[AC] at hc
   obtain⟨k1,A,B,k2,k3⟩:=ig (i::p) hc.1 hn hp h3
   have h5:=hc.2.2
   rw[k2] at h5
   obtain⟨h6,h7⟩:=h5.split
   obtain⟨h8,h9⟩:=h7.split
   refine⟨_,cs.take A.length,(cs.drop A.length).take y.flat.length,(cs.drop A.length).drop y.flat.length,h4,by simp only[List.take_append_drop],?_,?_,bv _ _⟩
   ·rw[<-h6.1];exact k3
   ·simp only[AC];exact⟨k1,dp _ hn hp,h8⟩
  case st ts' l=>
   cases T<;>simp only[AV.fits] at hf<;>first|cases hf|skip
   rename_i ts
   simp only[Bool.and_eq_true] at hf
   obtain⟨a1,h1,h2⟩:=bind_some_inv hg
   obtain⟨v,h3,h4⟩:=km hp
   simp only[AC] at hc
   simp only[af] at hn
   obtain⟨v',h5,h6⟩:=od hf.2 h1
   rw[h3] at h5;cases h5
   obtain⟨pre,mid,post,rfl,k1,k2,_⟩:=pv hf.2 hn hc.2.2 h1
   obtain⟨a',pre',mid',post',m1,rfl,m2,m3,m4⟩:=ih h6 (cc hn h3) h4 k2 h2
   refine⟨a',pre++pre',mid',post'++post,m1,by simp[List.append_assoc],?_,m3,m4⟩
   simp only[List.length_append,aL,k1,m2]
   simp[List.getD,h3]
  all_goals cases hg
theorem El{R:Type}{c:Cx}:∀ (p:List Nat) {T t:Ty} {a b:AV} {cs bs:List Value} {K:AV->Option R} {r:R},AV.fits T a=true->af T=true->aI T p=some t->AC c a cs->AC c b bs->AV.fits t b=true->zf a p b K=some r ->
  ∃ a' pre mid post,K a'=some r/\cs=pre++(mid++post)/\pre.length=aL T p/\mid.length=bs.length/\AC c a' (pre++(bs++post))/\AV.fits T a'=true:=by
 intro p
 induction p with
 | nil=>
  intro T t a b cs bs K r hf hn hp hc hb hfb hg
  have hT:T=t:=by cases T<;>simpa [aI] using hp
  subst hT
  refine⟨b,[],cs,[],?_,by simp,by cases T<;>rfl,?_,by simpa using hb,hfb⟩
  ·cases a<;>simpa [zf] using hg
  ·rw[(gq _ _ _ hf hc).1,(gq _ _ _ hfb hb).1]
 | cons i p ih=>
  intro T t a b cs bs K r hf hn hp hc hb hfb hg
  cases a<;>simp only[zf] at hg
  case d t' x=>
   have:=oB hf;subst this
   cases b<;>simp only at hg<;>first|cases hg|skip
   rename_i u y
   have:=oB hfb;subst this
   obtain⟨x',h3,h4⟩:=bind_some_inv hg
   simp only[AC] at hc hb
   obtain⟨k1,A,C,B,k2,k3,k4,k5⟩:=nv (i::p) hc.1 hn hp h3 hb.1
   have h5:=hc.2.2
   rw[k2] at h5
   obtain⟨h6,h7⟩:=h5.split
   obtain⟨h8,h9⟩:=h7.split
   refine⟨_,cs.take A.length,(cs.drop A.length).take C.length,(cs.drop A.length).drop C.length,h4,by simp only[List.take_append_drop],?_,?_,?_,bv _ _⟩
   ·rw[<-h6.1];exact k4
   ·rw[<-h8.1,k5,<-hb.2.2.1,bu _ _ hb.1 hb.2.1]
   ·simp only[AC]
    refine⟨k1,hn,?_⟩
    rw[k3]
    exact h6.append (hb.2.2.append h9)
  case st ts' l=>
   cases T<;>simp only[AV.fits] at hf<;>first|cases hf|skip
   rename_i ts
   simp only[Bool.and_eq_true] at hf
   obtain⟨a1,h1,h2⟩:=bind_some_inv hg
   obtain⟨v,h3,h4⟩:=km hp
   simp only[AC] at hc
   simp only[af] at hn
   obtain⟨v',h5,h6⟩:=od hf.2 h1
   rw[h3] at h5;cases h5
   obtain⟨pre,mid,post,rfl,k1,k2,k3⟩:=pv hf.2 hn hc.2.2 h1
   obtain⟨a',pre',mid',post',m1,rfl,m2,m2',m3,m4⟩:=ih h6 (cc hn h3) h4 k2 hb hfb h2
   have hts:=Ty.eqs_of_beqs _ _ hf.1
   subst hts
   refine⟨_,pre++pre',mid',post'++post,m1,by simp[List.append_assoc],?_,m2',?_,?_⟩
   ·simp only[List.length_append,aL,k1,m2]
    simp[List.getD,h3]
   ·simp only[AC]
    refine⟨hn,kT hf.2 h3 m4,?_⟩
    have:=k3 _ _ m3
    simpa [List.append_assoc] using this
   ·simp only[AV.fits,Bool.and_eq_true]
    exact⟨hf.1,kT hf.2 h3 m4⟩
  all_goals cases hg
mutual
theorem pS{c:Cx}{ob:Nat->Option Ob}:∀ (a:AV) (t:Ty) (cs:List Value) (x:D),AV.toD ob t a=some x->AC c a cs->wt t x/\cH c.w c.S x.flat cs/\(∀ v,fa t cs v->af t=true->eN c.w c.S x v)
 | .d t' x',t,cs,x,h,hc=>by
  have h':t.beq t'=true/\x'=x:=by cases t<;>simpa [AV.toD] using h
  obtain⟨h1,rfl⟩:=h'
  have:=Ty.eq_of_beq _ _ h1;subst this
  simp only[AC] at hc
  exact⟨hc.1,hc.2.2,fun v hv hn=>⟨qf hc.1 hc.2.1 hv.2,by rw[hv.1];exact hc.2.2⟩⟩
 | .own t' v l,t,cs,x,h,hc=>by
  have h':t.beq (.sl t')=true/\D.sl l=x:=by cases t<;>simpa [AV.toD] using h
  obtain⟨h1,rfl⟩:=h'
  have:=Ty.eq_of_beq _ _ h1;subst this
  simp only[AC] at hc
  obtain⟨k1,k2,a,cap,rfl,k3,_⟩:=hc
  have hw:wt (.sl t') (.sl l):=by simp only[wt];exact⟨l,rfl,k2⟩
  exact⟨hw,cH.single.2 k3,fun v hv hn=>⟨qf hw hn hv.2,by rw[hv.1];exact cH.single.2 k3⟩⟩
 | .nils,t,cs,x,h,hc=>by
  cases t<;>simp only[AV.toD] at h<;>first|cases h|skip
  simp only[AC] at hc
  subst hc
  have hw:∀ t,wt (.sl t) (.sl []):=fun t=>by simp only[wt];exact⟨[],rfl,fun x hx=>by simp at hx⟩
  have hr:cH c.w c.S [D.sl []] [.slice none 0 0]:=cH.single.2 (.sl [] none 0 0 0 (fun _=>undef) (.inl rfl) (Nat.le_refl 0) (fun i d hd=>by simp[D.flats] at hd) (fun i d hd=>by simp[D.flats] at hd))
  exact⟨hw _,hr,fun v hv hn=>⟨qf (hw _) hn hv.2,by rw[hv.1];exact hr⟩⟩
 | .st ts' l,t,cs,x,h,hc=>by
  simp only[AV.toD] at h
  split at h
  ·rename_i hb
   have:=Ty.eq_of_beq _ _ hb;subst this
   obtain⟨xs,h1,h2⟩:=bind_some_inv h
   simp only[Option.some.injEq] at h2
   subst h2
   simp only[AC] at hc
   obtain⟨k1,k2⟩:=Av l ts' cs xs h1 hc.2.2
   have hw:wt (.st ts') (.st xs):=by simp only[wt];exact⟨xs,rfl,k1⟩
   exact⟨hw,k2,fun v hv hn=>⟨qf hw hn hv.2,by rw[hv.1];exact k2⟩⟩
  ·cases h
 | .ptr ..,t,_,_,h,_=>by cases t<;>simp[AV.toD] at h
 | .fptr ..,t,_,_,h,_=>by cases t<;>simp[AV.toD] at h
 | .mem ..,t,_,_,h,_=>by cases t<;>simp[AV.toD] at h
 | .clo ..,t,_,_,h,_=>by cases t<;>simp[AV.toD] at h
 | .sub ..,t,_,_,h,_=>by cases t<;>simp[AV.toD] at h
 | .gone,t,_,_,h,_=>by cases t<;>simp[AV.toD] at h
 | .undef,t,_,_,h,_=>by cases t<;>simp[AV.toD] at h
theorem Av{c:Cx}{ob:Nat->Option Ob}:∀ (l:List AV) (ts:List Ty) (cs:List Value) (xs:List D),AV.toDl ob ts l=some xs->lI c l cs->gn ts xs/\cH c.w c.S (D.flats xs) cs
 | [],ts,cs,xs,h,hc=>by
  cases ts<;>simp only[AV.toDl] at h<;>first|cases h|skip
  simp only[lI] at hc
  subst hc
  exact⟨by simp[gn],cH.nil⟩
 | a::l,ts,cs,xs,h,hc=>by
  cases ts<;>simp only[AV.toDl] at h<;>first|cases h|skip
  rename_i t ts
  obtain⟨x,h1,h2⟩:=bind_some_inv h
  obtain⟨ys,h3,h4⟩:=bind_some_inv h2
  simp only[Option.some.injEq] at h4
  subst h4
  simp only[lI] at hc
  obtain⟨c1,c2,rfl,k1,k2⟩:=hc
  obtain⟨m1,m2,_⟩:=pS a t c1 x h1 k1
  obtain⟨m3,m4⟩:=Av l ts c2 ys h3 k2
  exact⟨by simp only[gn];exact⟨x,ys,rfl,m1,m3⟩,by simp only[D.flats];exact m2.append m4⟩
end
mutual
theorem qu{ob:Nat->Option Ob}:∀ (a:AV) (t:Ty) (x:D),AV.toD ob t a=some x->AV.fits t a=true
 | .d t' x',t,x,h=>by
  have h':t.beq t'=true/\x'=x:=by cases t<;>simpa [AV.toD] using h
  have h1:=h'.1
  cases t<;>simpa only[AV.fits] using h1
 | .own t' v l,t,x,h=>by
  have h':t.beq (.sl t')=true/\D.sl l=x:=by cases t<;>simpa [AV.toD] using h
  have:=Ty.eq_of_beq _ _ h'.1;subst this
  simp[AV.fits,Ty.beq_refl']
 | .nils,t,x,h=>by
  cases t<;>first|rfl|(simp only[AV.toD] at h;cases h)
 | .st ts' l,t,x,h=>by
  simp only[AV.toD] at h
  split at h
  ·rename_i hb
   have:=Ty.eq_of_beq _ _ hb;subst this
   obtain⟨xs,h1,h2⟩:=bind_some_inv h
   simp only[AV.fits,Bool.and_eq_true]
   exact⟨by have:=Ty.beq_refl' (.st ts');simpa [Ty.beq] using this,tJ l ts' xs h1⟩
  ·cases h
 | .ptr ..,t,_,h=>by cases t<;>simp[AV.toD] at h
 | .fptr ..,t,_,h=>by cases t<;>simp[AV.toD] at h
 | .mem ..,t,_,h=>by cases t<;>simp[AV.toD] at h
 | .clo ..,t,_,h=>by cases t<;>simp[AV.toD] at h
 | .sub ..,t,_,h=>by cases t<;>simp[AV.toD] at h
 | .gone,t,_,h=>by cases t<;>simp[AV.toD] at h
 | .undef,t,_,h=>by cases t<;>simp[AV.toD] at h
theorem tJ{ob:Nat->Option Ob}:∀ (l:List AV) (ts:List Ty) (xs:List D),AV.toDl ob ts l=some xs->AV.fitss ts l=true
 | [],ts,xs,h=>by cases ts<;>first|rfl|(simp only[AV.toDl] at h;cases h)
 | a::l,ts,xs,h=>by
  cases ts<;>simp only[AV.toDl] at h<;>first|cases h|skip
  rename_i t ts
  obtain⟨x,h1,h2⟩:=bind_some_inv h
  obtain⟨ys,h3,h4⟩:=bind_some_inv h2
  simp only[AV.fitss,Bool.and_eq_true]
  exact⟨qu a t x h1,tJ l ts ys h3⟩
end
theorem mn{c:Cx}{ob:Nat->Option Ob}{t:Ty}{a:AV}{v:Value}{x:D}(hn:af t=true)(h:AR c a v)(hx:AV.toD ob t a=some x):wt t x/\eN c.w c.S x v:=by
 obtain⟨h1,h2⟩:=vZ (qu a t x hx) hn h
 obtain⟨h3,_,h5⟩:=pS a t _ x hx h1
 exact⟨h3,h5 v h2 hn⟩
theorem dW{c:Cx}{t:Ty}{x:D}{v:Value}(hn:af t=true)(hw:wt t x)(h:eN c.w c.S x v):AR c (.d t x) v:=by
 simp only[AR];exact .inl ⟨hn,hw,h⟩
theorem yV{c:Cx}{t:Ty}{x:D}{v:Value}(h:AR c (.d t x) v)(hn:af t=true):wt t x/\eN c.w c.S x v:=by
 simp only[AR] at h
 rcases h with h|⟨ts,rfl,_⟩
 ·exact h.2
 ·simp[af] at hn
theorem eu{c:Cx}{t:Ty}{k:IntKind}{n:Int}{v:Value}(h:AR c (.d t (.int k n)) v):v=.int k n/\t=.int k:=by
 simp only[AR] at h
 rcases h with⟨h1,h2,h3⟩|⟨ts,rfl,_,h2,_⟩
 ·refine⟨h3.int_inv,?_⟩
  cases t<;>simp only[wt] at h2<;>first
   | (obtain⟨m,h4⟩:=h2;cases h4;rfl)
   | (obtain⟨m,h4,_⟩:=h2;cases h4)
   | (obtain⟨m,h4⟩:=h2;cases h4)
 ·simp only[wt] at h2;obtain⟨l,h4,_⟩:=h2;cases h4
theorem zQ{c:Cx}{t:Ty}{n:Bool}{v:Value}(h:AR c (.d t (.bool n)) v):v=.bool n:=by
 simp only[AR] at h
 rcases h with⟨h1,h2,h3⟩|⟨ts,rfl,_,h2,_⟩
 ·exact h3.bool_inv
 ·simp only[wt] at h2;obtain⟨l,h4,_⟩:=h2;cases h4
theorem cN{c:Cx}(k:IntKind)(n:Int):AR c (.d (.int k) (.int k n)) (.int k n):=
 dW rfl (by simp only[wt];exact⟨n,rfl⟩) (eN.of_CR (.int k n))
theorem g9{c:Cx}(b:Bool):AR c (.d .bool (.bool b)) (.bool b):=
 dW rfl (by simp only[wt];exact⟨b,rfl⟩) (eN.of_CR (.bool b))
end Go.Proofs.YtjjjkojfijpeeaaGreat.Sy
end
