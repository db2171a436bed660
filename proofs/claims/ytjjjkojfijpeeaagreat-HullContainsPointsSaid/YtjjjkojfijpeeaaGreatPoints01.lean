/- Part 1 of the proof that HullContainsPoints answers true at every input -/
import Derived.WalkKit
import Derived.WalkSpells
import Derived.WalkLawsBesides
import Derived.Deep.QuietTactic
import Derived.BigQuiet
import Derived.Deep.Draws
import Derived.Lib.Hide
import Derived.StillTail
import Derived.Laws.StructEq
import Derived.ProofKit
import Derived.Deep.Slices
import Derived.OpenShut
set_option linter.unusedVariables false
set_option linter.unusedSimpArgs false
set_option linter.unnecessarySimpa false
section
namespace Go.Proofs.YtjjjkojfijpeeaaGreat
open Go.RowKit
def ao(w:World)(os:List Obj)(d:Nat):World:={ w with heap:=w.heap++os.toArray,drawn:=d }
def bk(w:World)(b:Nat):Option (Array Value):=
 match w.heap[b]? with
 | some (.cells c _ (0,0))=>some c
 | _=>none
def gF(b:Nat)(w:World):Prop:=b<w.heap.size
def G2(b:Nat)(w:World)(os:List Obj):Prop:=b<os.length+w.heap.size
section
variable(w:World)(os os':List Obj)(d d':Nat)(o:Obj)(a:Addr)(v:Value)(b:Nat)
@[simp,go_sem] theorem size_grown:(ao w os d).heap.size=os.length+w.heap.size:=by simp[ao];omega
@[simp,go_sem] theorem tape_grown:(ao w os d).tape=w.tape:=rfl
@[simp,go_sem] theorem drew_grown:(ao w os d).drew=ao w os (d+1):=rfl
@[simp,go_sem] theorem drewN_grown (n:Nat):(ao w os d).drewN n=ao w os (d+n):=rfl
theorem co{b:Nat}(h:b<w.heap.size):(ao w os d).heap[b]?=w.heap[b]?:=by
 simp[ao,Array.getElem?_append,h]
theorem Al:ao w [] w.drawn=w:=by simp[ao]
theorem du:w.alloc o=ao w [o] w.drawn:=by
 show({ w with heap:=w.heap.push o }:World)=_
 simp only[ao,Array.push_eq_append]
@[simp,go_sem] theorem row?_drew:bk w.drew b=bk w b:=rfl
@[simp,go_sem] theorem row?_drewN (n:Nat):bk (w.drewN n) b=bk w b:=rfl
theorem qU{c:Array Value}{t:TypeId}(h:b=w.heap.size):bk (w.alloc (.cells c t)) b=some c:=by
 subst h
 show(match (w.heap.push (.cells c t))[w.heap.size]? with|some (.cells c _ (0,0))=>some c|_=>none)=_
 simp
@[simp,go_sem] theorem inHeap_setCell:gF b (w.setCell a v)=gF b w:=by simp[gF]
@[simp,go_sem] theorem inHeap_drew:gF b w.drew=gF b w:=rfl
@[simp,go_sem] theorem inHeap_drewN (n:Nat):gF b (w.drewN n)=gF b w:=rfl
theorem bv{b:Nat}{c:Array Value}(h:bk w b=some c)(j:Nat):w.cell? ⟨b,j,none⟩=c[j]?:=by
 unfold bk at h
 split at h<;>simp at h
 rename_i hb
 subst h
 simp[World.cell?,hb]
theorem rm{b:Nat}{c:Array Value}(h:bk w b=some c)(j:Nat):w.frozen? ⟨b,j,none⟩=false:=by
 unfold bk at h
 split at h<;>simp at h
 rename_i hb
 simp[World.frozen?,hb]
def cC(c:Array Value)(off:Nat)(cs:Array Value):Array Value:=c.extract 0 off++cs++c.extract (off+cs.size) c.size
theorem gB(c cs:Array Value)(off j:Nat)(h:off+cs.size<=c.size):(cC c off cs)[j]?=if j<off then c[j]? else if j<off+cs.size then cs[j-off]? else c[j]?:=by
 simp only[cC,Array.getElem?_append,Array.getElem?_extract,Array.size_append,Array.size_extract]
 rw[show min off c.size-0=off from by omega,show min c.size c.size=c.size from by omega]
 by_cases h1:j<off
 ·rw[if_pos (by omega),if_pos h1,if_pos h1,if_pos (by omega)];simp
 ·rw[if_neg h1]
  by_cases h2:j<off+cs.size
  ·rw[if_pos (by omega),if_neg h1,if_pos h2]
  ·rw[if_neg (by omega),if_neg h2]
   by_cases h3:j<c.size
   ·rw[if_pos (by omega),show off+cs.size+(j-(off+cs.size))=j from by omega,if_neg h1]
   ·rw[if_neg (by omega),Array.getElem?_eq_none (by omega),if_neg h1]
@[simp,go_sem] theorem splice_size (c cs:Array Value) (off:Nat) (h:off+cs.size<=c.size):(cC c off cs).size=c.size:=by
 simp[cC];omega
theorem oI(c:Array Value)(k:Nat)(v:Value)(l:List Value)(h:k+(l.length+1)<=c.size) :
  cC (c.setIfInBounds k v) (k+1) l.toArray=cC c k (v::l).toArray:=by
 apply Array.ext_getElem?
 intro j
 rw[gB _ _ _ _ (by simp;omega),gB _ _ _ _ (by simpa using h)]
 simp only[Array.getElem?_setIfInBounds,List.size_toArray,List.length_cons,List.getElem?_toArray]
 by_cases h1:j<k
 ·rw[if_pos (by omega),if_neg (by omega),if_pos h1]
 ·by_cases h2:j=k
  ·subst h2
   rw[if_pos (by omega),if_pos rfl,if_pos (by omega),if_neg (by omega),if_pos (by omega)]
   simp
  ·rw[if_neg (by omega),if_neg h1]
   by_cases h3:j<k+(l.length+1)
   ·rw[if_pos (by omega),if_pos h3,show j-k=(j-(k+1))+1 from by omega]
    simp
   ·rw[if_neg (by omega),if_neg h3,if_neg (by omega)]
def aX(w:World)(b off:Nat)(cs:Array Value):World:=
 { w with heap:=w.heap.modify b fun
   | .cells c e f=>.cells (cC c off cs) e f
   | o=>o }
@[simp,go_sem] theorem inHeap_putAt (b' off:Nat) (cs:Array Value):gF b' (aX w b off cs)=gF b' w:=by simp[gF,aX]
@[simp,go_sem] theorem size_putAt (off:Nat) (cs:Array Value):(aX w b off cs).heap.size=w.heap.size:=by simp[aX]
@[simp,go_sem] theorem tape_putAt (off:Nat) (cs:Array Value):(aX w b off cs).tape=w.tape:=rfl
end
attribute [irreducible] gF G2
def wZ(P:Program)(T:TypeId)(a:Addr)(w:World):Result Value:=(loadVar T a).run P w
def xZ(P:Program)(T:TypeId)(a:Addr)(v:Value)(w:World):Result Unit:=(storeVar T a v).run P w
def Hg(P:Program)(T:TypeId)(b off n:Nat)(w:World):Option (Array Value)->Result Value
 | some c=>if off+n<=c.size then .ok (.agg (c.extract off (off+n))) w else wZ P T ⟨b,off,none⟩ w
 | none=>wZ P T ⟨b,off,none⟩ w
@[simp,go_sem] theorem ldRow_some (P:Program) (T:TypeId) (b off n:Nat) (w:World) (c:Array Value) :
  Hg P T b off n w (some c)=if off+n<=c.size then .ok (.agg (c.extract off (off+n))) w else wZ P T ⟨b,off,none⟩ w:=rfl
def pj:Value->Bool
 | .agg _|.tuple _=>false
 | _=>true
def HM(cs:Array Value):Bool:=cs.all pj
def Hc(P:Program)(T:TypeId)(b off:Nat)(cs:Array Value)(w:World):Option (Array Value)->Result Unit
 | some c=>if off+cs.size<=c.size/\HM cs=true then .ok () (aX w b off cs) else xZ P T ⟨b,off,none⟩ (.agg cs) w
 | none=>xZ P T ⟨b,off,none⟩ (.agg cs) w
@[simp,go_sem] theorem stRow_some (P:Program) (T:TypeId) (b off:Nat) (cs:Array Value) (w:World) (c:Array Value) :
  Hc P T b off cs w (some c)=if off+cs.size<=c.size/\HM cs=true then .ok () (aX w b off cs) else xZ P T ⟨b,off,none⟩ (.agg cs) w:=rfl
theorem xM{P:Program}{T:TypeId}{n:Nat}(h:(P.info? T).map (·.size)=some n)(w:World):(sizeOf T).run P w=.ok n w:=by
 cases hq:P.info? T with
 | none=>simp[hq] at h
 | some i=>
  have hs:i.size=n:=by simpa [hq] using h
  simp[sizeOf,typeInfo,hq,hs]
theorem bN(b off j:Nat):(⟨b,off,none⟩:Addr).add j=⟨b,off+j,none⟩:=by unfold Addr.add;split<;>simp_all
theorem bY{P:Program}(b off:Nat):∀ (l:List Value) (i:Nat) (w:World) (c:Array Value),bk w b=some c->off+i+l.length<=c.size->l.all pj=true ->
  (storeCells ⟨b,off,none⟩ l i).run P w=.ok () (aX w b (off+i) l.toArray)
 | [],i,w,c,hr,_,_=>by
  simp only[storeCells,Sem.run_pure]
  congr 1
  unfold bk at hr
  split at hr<;>simp at hr
  rename_i hb
  subst hr
  have hlt:=(Array.getElem?_eq_some_iff.1 hb)
  obtain⟨hlt,hb'⟩:=hlt
  simp only[aX]
  have:w.heap.modify b (fun|.cells c e f=>.cells (cC c (off+i) #[]) e f|o=>o)=w.heap:=by
   apply Array.ext
   ·simp
   ·intro j h1 h2
    simp only[Array.getElem_modify]
    split
    ·rename_i h3;subst h3;simp[hb',cC];right;omega
    ·rfl
  simp only[this]
 | v::l,i,w,c,hr,hlen,hone=>by
  simp only[List.all_cons,Bool.and_eq_true] at hone
  simp only[List.length_cons] at hlen
  have hc:w.cell? ⟨b,off+i,none⟩=some c[off+i]:=by
   rw[bv w hr,Array.getElem?_eq_getElem (by omega)]
  have hf:w.frozen? ⟨b,off+i,none⟩=false:=rm w hr _
  simp only[storeCells,Sem.run_bind]
  have hst:(store ((⟨b,off,none⟩:Addr).add i) v).run P w=.ok () (w.setCell ⟨b,off+i,none⟩ v):=by
   rw[bN]
   unfold store
   cases v<;>simp_all [Sem.run,pj]
  rw[hst]
  simp only[Result.andThen_ok]
  have hr':bk (w.setCell ⟨b,off+i,none⟩ v) b=some (c.setIfInBounds (off+i) v):=by
   unfold bk at hr ⊢
   split at hr<;>simp at hr
   rename_i hb
   subst hr
   simp only[World.setCell,Array.getElem?_modify,if_true,hb,Option.map_some,Option.isSome_none,Bool.false_eq_true,if_false]
  rw[bY b off l (i+1) _ _ hr' (by simp;omega) hone.2]
  congr 1
  unfold bk at hr
  split at hr<;>simp at hr
  rename_i hb
  subst hr
  obtain⟨hlt,hb'⟩:=(Array.getElem?_eq_some_iff.1 hb)
  simp only[aX,World.setCell]
  congr 1
  apply Array.ext
  ·simp
  ·intro j h1 h2
   simp only[Array.getElem_modify]
   split
   ·rename_i h3;subst h3
    simp only[hb',Option.isSome_none,Bool.false_eq_true,if_false]
    rw[<-oI _ _ _ _ (by omega)]
    rfl
   ·rfl
def jv(place:Nat->Option (Nat×Nat))(cells:Array Value):List (Nat×Value)->Option (Array Value)
 | []=>some cells
 | (i,v)::rest=>
  match place i with
  | none=>none
  | some (off,size)=>if v.cells.size≠size\/off+v.cells.size>cells.size then none else jv place (cC cells off v.cells) rest
theorem mv(off:Nat):∀ (l:List Value) (k:Nat) (cells:Array Value),off+k+l.length<=cells.size ->
  (l.zipIdx k).foldl (fun cs (c,j)=>cs.setIfInBounds (off+j) c) cells=cC cells (off+k) l.toArray
 | [],k,cells,_=>by
  simp only[List.zipIdx_nil,List.foldl_nil,cC]
  apply Array.ext_getElem?
  intro j
  simp only[Array.getElem?_append,Array.getElem?_extract,Array.size_append,Array.size_extract,List.size_toArray,List.length_nil]
  by_cases h:j<off+k
  ·by_cases h2:j<cells.size
   ·rw[if_pos (by omega),if_pos (by omega),if_pos (by omega)];simp
   ·rw[Array.getElem?_eq_none (by omega)];repeat' split
    all_goals first|rfl|omega|(rw[Array.getElem?_eq_none (by omega)])
  ·by_cases h2:j<cells.size
   ·rw[if_neg (by omega),if_pos (by omega)];congr 1;omega
   ·rw[Array.getElem?_eq_none (by omega),if_neg (by omega),if_neg (by omega)]
 | v::l,k,cells,h=>by
  simp only[List.length_cons] at h
  simp only[List.zipIdx_cons,List.foldl_cons]
  rw[mv off l (k+1) _ (by simp;omega),show off+(k+1)=(off+k)+1 from by omega,oI _ _ _ _ (by omega)]
theorem mw(place:Nat->Option (Nat×Nat)):∀ (l:List (Nat×Value)) (cells:Array Value),Instr.fill place cells l=jv place cells l
 | [],cells=>rfl
 | (i,v)::rest,cells=>by
  simp only[Instr.fill,jv]
  cases place i with
  | none=>rfl
  | some q=>
   obtain⟨off,size⟩:=q
   by_cases h:v.cells.size≠size\/off+v.cells.size>cells.size
   ·simp[h]
   ·simp only[h,if_false]
    have h':¬ (v.cells.size≠size||decide (off+v.cells.size>cells.size))=true:=by simpa using h
    have hle:off+0+v.cells.toList.length<=cells.size:=by simp;omega
    have e:=mv off v.cells.toList 0 cells hle
    simp only[Nat.add_zero,Array.toArray_toList] at e
    have e2:v.cells.zipIdx.foldl (fun cs (c,j)=>cs.setIfInBounds (off+j) c) cells=cC cells off v.cells:=by
     rw[<-e,<-Array.foldl_toList];simp
    simp only[h',if_false,Bool.false_eq_true,e2]
    exact mw place rest _
theorem q8{place:Nat->Option (Nat×Nat)}{cells:Array Value}{i off size:Nat}{v:Value}{rest:List (Nat×Value)}(hp:place i=some (off,size))(h1:v.cells.size=size)(h2:off+size<=cells.size) :
  jv place cells ((i,v)::rest)=jv place (cC cells off v.cells) rest:=by
 simp only[jv,hp]
 rw[if_neg (by omega)]
section
variable{α:Type}{enc:α->Array Value}{c:Nat}(hc:∀ x,(enc x).size=c)
include hc
def oU(f:Nat->α)(k:Nat)(y:α):Nat->α:=fun i=>if i=k then y else f i
end
end Go.Proofs.YtjjjkojfijpeeaaGreat
end
section
namespace Go.Proofs.YtjjjkojfijpeeaaGreat.Sy
open Go
inductive Ty where
 | int (k:IntKind)|bool|str|st (l:List Ty)|arr (n:Nat) (t:Ty)|sl (t:Ty)|tup (l:List Ty)|fn
mutual
def Ty.beq:Ty->Ty->Bool
 | .int k,.int k'=>decide (k=k')
 | .bool,.bool=>true
 | .str,.str=>true
 | .st l,.st l'=>Ty.beqs l l'
 | .arr n t,.arr n' t'=>decide (n=n')&&Ty.beq t t'
 | .sl t,.sl t'=>Ty.beq t t'
 | .tup l,.tup l'=>Ty.beqs l l'
 | .fn,.fn=>true
 | _,_=>false
def Ty.beqs:List Ty->List Ty->Bool
 | [],[]=>true
 | t::l,t'::l'=>Ty.beq t t'&&Ty.beqs l l'
 | _,_=>false
end
mutual
theorem Ty.eq_of_beq:∀ (t t':Ty),t.beq t'=true->t=t'
 | .int k,t',h=>by cases t'<;>simp[Ty.beq] at h;rw[h]
 | .bool,t',h=>by cases t'<;>simp[Ty.beq] at h;rfl
 | .str,t',h=>by cases t'<;>simp[Ty.beq] at h;rfl
 | .st l,t',h=>by cases t'<;>simp[Ty.beq] at h;rw[Ty.eqs_of_beqs _ _ h]
 | .arr n t,t',h=>by cases t'<;>simp[Ty.beq] at h;rw[h.1,Ty.eq_of_beq _ _ h.2]
 | .sl t,t',h=>by cases t'<;>simp[Ty.beq] at h;rw[Ty.eq_of_beq _ _ h]
 | .tup l,t',h=>by cases t'<;>simp[Ty.beq] at h;rw[Ty.eqs_of_beqs _ _ h]
 | .fn,t',h=>by cases t'<;>simp[Ty.beq] at h;rfl
theorem Ty.eqs_of_beqs:∀ (l l':List Ty),Ty.beqs l l'=true->l=l'
 | [],l',h=>by cases l'<;>simp[Ty.beqs] at h;rfl
 | t::l,l',h=>by
  cases l' with
  | nil=>simp[Ty.beqs] at h
  | cons t' l'=>simp[Ty.beqs] at h;rw[Ty.eq_of_beq _ _ h.1,Ty.eqs_of_beqs _ _ h.2]
end
mutual
def Ty.size:Ty->Nat
 | .st l=>Ty.sizes l
 | .arr n t=>n*t.size
 | .tup _=>0
 | _=>1
def Ty.sizes:List Ty->Nat
 | []=>0
 | t::l=>t.size+Ty.sizes l
end
inductive D where
 | int (k:IntKind) (n:Int)|bool (b:Bool)|str (s:ByteArray)|st (l:List D)|sl (l:List D)|tup (l:List D)
instance:Inhabited D:=⟨.bool false⟩
mutual
def D.flat:D->List D
 | .st l=>D.flats l
 | .int k n=>[.int k n]
 | .bool b=>[.bool b]
 | .str s=>[.str s]
 | .sl l=>[.sl l]
 | .tup l=>[.tup l]
def D.flats:List D->List D
 | []=>[]
 | d::l=>D.flat d++D.flats l
end
mutual
def wt:Ty->D->Prop
 | .int k,d=>∃ n,d=.int k n
 | .bool,d=>∃ b,d=.bool b
 | .str,d=>∃ s,d=.str s
 | .st ts,d=>∃ l,d=.st l/\fN ts l
 | .arr n t,d=>∃ l,d=.st l/\l.length=n/\∀ x∈l,wt t x
 | .sl t,d=>∃ l,d=.sl l/\∀ x∈l,wt t x
 | .tup ts,d=>∃ l,d=.tup l/\fN ts l
 | .fn,_=>False
def fN:List Ty->List D->Prop
 | [],l=>l=[]
 | t::ts,l=>∃ d l',l=d::l'/\wt t d/\fN ts l'
end
mutual
def D.beq:D->D->Bool
 | .int k n,.int k' n'=>decide (k=k')&&decide (n=n')
 | .bool b,.bool b'=>b==b'
 | .str s,.str s'=>decide (s=s')
 | .st l,.st l'=>D.beqs l l'
 | _,_=>false
def D.beqs:List D->List D->Bool
 | [],[]=>true
 | t::l,t'::l'=>D.beq t t'&&D.beqs l l'
 | _,_=>false
end
mutual
def aC:Ty->D
 | .int k=>.int k 0
 | .bool=>.bool false
 | .str=>.str ByteArray.empty
 | .st l=>.st (fc l)
 | .arr n t=>.st (List.replicate n (aC t))
 | .sl _=>.sl []
 | .tup l=>.tup (fc l)
 | .fn=>.bool false
def fc:List Ty->List D
 | []=>[]
 | t::l=>aC t::fc l
end
mutual
def FB:Ty->Bool
 | .st l=>tT l
 | .arr _ t=>FB t
 | .sl _=>true
 | .tup _=>true
 | .fn=>true
 | _=>false
def tT:List Ty->Bool
 | []=>false
 | t::l=>FB t||tT l
end
mutual
def af:Ty->Bool
 | .st l=>aT l
 | .arr _ t=>af t
 | .sl t=>af t
 | .tup _=>false
 | .fn=>false
 | _=>true
def aT:List Ty->Bool
 | []=>true
 | t::l=>af t&&aT l
end
inductive AV where
 | d (t:Ty) (x:D)
 | own (t:Ty) (v:Nat) (l:List D)
 | nils
 | ptr (t:Ty) (id:Nat) (p:List Nat)
 | fptr (t:Ty) (x:D)
 | mem (t:Ty) (id:Nat)
 | st (ts:List Ty) (l:List AV)
 | clo (f:Nat) (l:List AV)
 | map (kt vt:Ty) (id:Nat)
 | sub (sl:Bool) (t:Ty) (id:Nat) (p:List Nat) (lo n:Nat)
 | gone
 | undef
instance:Inhabited AV:=⟨.undef⟩
inductive Ob where
 | one (t:Ty) (v:AV)
 | many (t:Ty) (l:List D)
 | mp (kt vt:Ty) (l:List D)
def D.fld:D->Nat->Option D
 | .st l,i=>l[i]?
 | _,_=>none
def D.tupAt:D->Nat->Option D
 | .tup l,i=>l[i]?
 | _,_=>none
def D.get:D->List Nat->Option D
 | x,[]=>some x
 | x,i::p=>(x.fld i).bind fun y=>y.get p
def D.set:D->List Nat->D->Option D
 | _,[],y=>some y
 | .st l,i::p,y=>(l[i]?).bind fun z=>(D.set z p y).bind fun z'=>some (.st (l.set i z'))
 | _,_::_,_=>none
def D.asSl:D->Option (List D)
 | .sl l=>some l
 | _=>none
def D.stl:D->Option (List D)
 | .st l=>some l
 | _=>none
def D.asInt:D->Option (IntKind×Int)
 | .int k n=>some (k,n)
 | _=>none
def D.truth:D->Option Bool
 | .bool b=>some b
 | _=>none
def D.idx:D->Nat->Option Nat
 | .int _ i,n=>if 0<=i/\i<(n:Int) then some i.toNat else none
 | _,_=>none
def D.strAt:D->D->Option D
 | .str s,.int _ i=>(if 0<=i then s[i.toNat]? else none).bind fun b=>some (.int .u8 b.toNat)
 | _,_=>none
def D.conv(k:IntKind):D->Option D
 | .int _ n=>some (.int k (k.wrap n))
 | _=>none
def D.bitOp(op:BinOp)(k:IntKind)(x y:Int):Option D:=
 match op with
 | .and=>some (.int k (k.wrap (BitVec.ofInt k.bits x &&& BitVec.ofInt k.bits y).toNat))
 | .or=>some (.int k (k.wrap (BitVec.ofInt k.bits x ||| BitVec.ofInt k.bits y).toNat))
 | .xor=>some (.int k (k.wrap (BitVec.ofInt k.bits x ^^^ BitVec.ofInt k.bits y).toNat))
 | .andNot=>some (.int k (k.wrap (BitVec.ofInt k.bits x &&& ~~~ BitVec.ofInt k.bits y).toNat))
 | _=>none
def D.bin(op:BinOp):D->D->Option D
 | .int k a,.int k' b=>
  match op with
  | .shl=>if b<0 then none else some (.int k (k.wrap (a*2^(min b.toNat k.bits))))
  | .shr=>if b<0 then none else some (.int k (a.fdiv (2^(min b.toNat k.bits))))
  | _=>if k=k' then
   match op with
   | .add=>some (.int k (k.wrap (a+b)))
   | .sub=>some (.int k (k.wrap (a-b)))
   | .mul=>some (.int k (k.wrap (a*b)))
   | .quo=>if b=0 then none else some (.int k (k.wrap (a.tdiv b)))
   | .rem=>if b=0 then none else some (.int k (a.tmod b))
   | .eql=>some (.bool (a==b))
   | .neq=>some (.bool (a != b))
   | .lss=>some (.bool (decide (a<b)))
   | .leq=>some (.bool (decide (a<=b)))
   | .gtr=>some (.bool (decide (a>b)))
   | .geq=>some (.bool (decide (a ≥ b)))
   | .and=>D.bitOp .and k a b
   | .or=>D.bitOp .or k a b
   | .xor=>D.bitOp .xor k a b
   | .andNot=>D.bitOp .andNot k a b
   | _=>none
   else none
 | _,_=>none
def D.un(op:UnOp):D->Option D
 | .int k n=>match op with
  | .neg=>some (.int k (k.wrap (0-n)))
  | .xor=>D.bitOp .xor k (if k.signed then -1 else k.max) n
  | _=>none
 | .bool b=>match op with
  | .not=>some (.bool (!b))
  | _=>none
 | _=>none
def D.min2:D->D->Option D
 | .int k x,.int _ y=>some (.int k (if y<x then y else x))
 | _,_=>none
def D.max2:D->D->Option D
 | .int k x,.int _ y=>some (.int k (if y>x then y else x))
 | _,_=>none
def D.cut(l:List D)(lo hi:Nat):Option (List D):=if lo<=hi/\hi<=l.length then some ((l.take hi).drop lo) else none
def D.natOf:D->Option Nat
 | .int _ i=>if 0<=i then some i.toNat else none
 | _=>none
def D.putParts:List D->List (Nat×D)->List D
 | l,[]=>l
 | l,(i,x)::r=>D.putParts (l.set i x) r
def aA:Ty->List Nat->Option Ty
 | t,[]=>some t
 | .st ts,i::p=>(ts[i]?).bind fun t=>aA t p
 | .arr _ t,_::p=>aA t p
 | _,_=>none
def aD:Ty->List Nat->Nat
 | _,[]=>0
 | .st ts,i::p=>Ty.sizes (ts.take i)+aD (ts.getD i .bool) p
 | .arr _ t,i::p=>i*t.size+aD t p
 | _,_=>0
def ru{R:Type}:AV->List Nat->(AV->Option R)->Option R
 | .d t x,p,k=>match p with
  | []=>k (.d t x)
  | i::p=>(aA t (i::p)).bind fun t'=>(x.get (i::p)).bind fun y=>k (.d t' y)
 | a,[],k=>k a
 | .st _ l,i::p,k=>(l[i]?).bind fun a=>ru a p k
 | _,_,_=>none
mutual
def AV.fits:Ty->AV->Bool
 | t,.d t' _=>t.beq t'
 | .sl t,.own t' _ _=>t.beq t'
 | .sl _,.nils=>true
 | .st ts,.st ts' l=>Ty.beqs ts ts'&&AV.fitss ts l
 | _,_=>false
def AV.fitss:List Ty->List AV->Bool
 | [],[]=>true
 | t::ts,a::l=>AV.fits t a&&AV.fitss ts l
 | _,_=>false
end
def xF{R:Type}:AV->List Nat->AV->(AV->Option R)->Option R
 | _,[],b,k=>k b
 | .d t x,i::p,b,k=>match b with
  | .d _ y=>(x.set (i::p) y).bind fun x'=>k (.d t x')
  | _=>none
 | .st ts l,i::p,b,k=>(l[i]?).bind fun a=>xF a p b fun a'=>k (.st ts (l.set i a'))
 | _,_::_,_,_=>none
mutual
def fq:Ty->AV
 | .sl _=>.nils
 | .st ts=>if tT ts then .st ts (iw ts) else .d (.st ts) (aC (.st ts))
 | t=>.d t (aC t)
def iw:List Ty->List AV
 | []=>[]
 | t::l=>fq t::iw l
end
def fW{R:Type}:Ob->List Nat->(AV->Option R)->Option R
 | .one _ v,p,k=>ru v p k
 | .many t l,i::p,k=>(l[i]?).bind fun x=>ru (.d t x) p k
 | .many ..,[],_=>none
 | .mp ..,_,_=>none
def eS:Ob->List Nat->Option Ty
 | .one t _,p=>aA t p
 | .many t _,_::p=>aA t p
 | .many ..,[]=>none
 | .mp ..,_=>none
structure St where
 tm:Nat->AV
 ob:Nat->Option Ob
 fresh:Nat
 dead:List Nat
 nt:Nat
 lkS:List Nat
 lkO:List Nat
def St.put(s:St)(dst:Option Nat)(v:AV):St:=
 match dst with
 | some t=>if t<s.nt then{ s with tm:=fun i=>if i=t then v else s.tm i } else s
 | none=>s
def St.base(s:St):Nat:=s.fresh*4096
def St.setOb(s:St)(id:Nat)(o:Option Ob):St:={ s with ob:=fun i=>if i=id then o else s.ob i }
mutual
def AV.toD(ob:Nat->Option Ob):Ty->AV->Option D
 | t,.d t' x=>if t.beq t' then some x else none
 | t,.own t' _ l=>if t.beq (.sl t') then some (.sl l) else none
 | t,.nils=>match t with
  | .sl _=>some (.sl [])
  | _=>none
 | t,.st ts' l=>if t.beq (.st ts') then(AV.toDl ob ts' l).bind fun xs=>some (.st xs) else none
 | _,_=>none
def AV.toDl(ob:Nat->Option Ob):List Ty->List AV->Option (List D)
 | [],[]=>some []
 | t::ts,a::l=>(AV.toD ob t a).bind fun x=>(AV.toDl ob ts l).bind fun xs=>some (x::xs)
 | _,_=>none
end
def AV.asList(ob:Nat->Option Ob)(t:Ty)(a:AV):Option (List D):=(AV.toD ob (.sl t) a).bind D.asSl
def AV.truth:AV->Option Bool
 | .d t x=>if t.beq .bool then x.truth else none
 | _=>none
inductive Sh where
 | dv (t:Ty)
 | ow (t:Ty)
 | same (a:AV)
 | st (ts:List Ty) (l:List Sh)
inductive ShO where
 | one (t:Ty) (h:Sh)
 | many (t:Ty)
 | mp (kt vt:Ty)
 | keep (t:Ty) (wit:Nat)
structure Shape where
 slots:List (Nat×Sh)
 objs:List (Nat×ShO)
 keepS:List Nat
inductive Ex where
 | normal|exit (id:Nat)|ret
def Ex.is:Ex->Ex->Bool
 | .normal,.normal=>true
 | .exit i,.exit j=>decide (i=j)
 | .ret,.ret=>true
 | _,_=>false
inductive Ann where
 | leaf
 | reg (fz:List Nat) (n:Nat)
 | regI (fz:List Nat) (n:Nat) (a:Ann)
 | two (a b:Ann)
 | cut (exits:List (Ex×Shape)) (keepS keepO:List Nat) (a b:Ann)
 | loop (h:Shape) (exits:List (Ex×Shape)) (a:Ann)
def Ann.fz:Ann->List Nat|.reg fz _=>fz|.regI fz _ _=>fz|_=>[]
def Ann.heads(m:Nat):Ann->Nat|.reg _ n=>n|.regI _ n _=>n|_=>m
def Ann.inner:Ann->Ann|.regI _ _ a=>a|_=>.leaf
def Ann.fst:Ann->Ann|.two a _=>a|.cut _ _ _ a _=>a|.loop _ _ a=>a|_=>.leaf
def Ann.snd:Ann->Ann|.two _ b=>b|.cut _ _ _ _ b=>b|_=>.leaf
structure Env where
 L:Nat->Option Ty
 sig:Nat->Option (List Ty×Ty)
 call:Nat->List D->Option D
 mapL:Nat->Option (Ty×Ty)
 lp:{α β:Type}->(α->Option (Sum α β))->α->Option β
 inl:Nat->Option (Ann->(R:Type)->St->List AV->(AV->St->Option R)->Option R)
def BR:Value->AV
 | .int k n=>.d (.int k) (.int k n)
 | .bool b=>.d .bool (.bool b)
 | .string s=>.d .str (.str s)
 | .slice none 0 0=>.nils
 | _=>.undef
def St.opA(s:St):Operand->AV
 | .tmp t=>s.tm t
 | .const v=>BR v
 | _=>.undef
def isD:AV->Option (Ty×D)
 | .d t x=>some (t,x)
 | _=>none
mutual
def aO:Ty->Bool
 | .int _=>true
 | .bool=>true
 | .st ts=>jU ts
 | .arr _ t=>aO t
 | _=>false
def jU:List Ty->Bool
 | []=>true
 | t::l=>aO t&&jU l
end
def partsD(ob:Nat->Option Ob)(s:St)(ty:Nat->Option Ty):List (Nat×Operand)->Option (List (Nat×D))
 | []=>some []
 | (i,x)::r=>(ty i).bind fun t=>(AV.toD ob t (s.opA x)).bind fun y=>(partsD ob s ty r).bind fun ys=>some ((i,y)::ys)
def eV(s:St)(ts:List Ty)(p:Nat×Operand):Bool:=match ts[p.1]? with|some u=>AV.fits u (s.opA p.2)|none=>false
def kT:AV->Bool
 | .ptr ..=>true
 | _=>false
def kc:List AV->List (Nat×AV)->List AV
 | l,[]=>l
 | l,(i,x)::r=>kc (l.set i x) r
def D.mget:List D->D->Option D
 | [],_=>none
 | .st [k,v]::l,x=>if D.beq x k then some v else D.mget l x
 | _::l,x=>D.mget l x
def D.mput:List D->D->D->List D
 | [],x,y=>[.st [x,y]]
 | .st [k,v]::l,x,y=>if D.beq x k then .st [k,y]::l else .st [k,v]::D.mput l x y
 | e::l,x,y=>e::D.mput l x y
def qv{R:Type}(E:Env)(s:St)(o:Oper)(K:AV->Option R):Option R:=
 match o.op with
 | .move x=>K (s.opA x)
 | .assign x=>K (s.opA x)
 | .pick c a b=>(s.opA c).truth.bind fun c=>if c then K (s.opA a) else K (s.opA b)
 | .alloc T=>(E.L T).bind fun t=>o.dst.bind fun d=>K (.ptr t (s.base+d) [])
 | .load T a=>(E.L T).bind fun t=>match s.opA a with
  | .ptr t' id p=>if t.beq t' then(s.ob id).bind fun o=>fW o p K else none
  | .fptr t' x=>if t.beq t' then K (.d t' x) else none
  | .sub sl e id p lo n=>if !sl&&t.beq (.arr n e) then(s.ob id).bind fun o=>fW o p fun v=>match v with
    | .d (.arr _ e') (.st l)=>if e'.beq e&&decide (lo+n<=l.length) then K (.d (.arr n e) (.st ((l.drop lo).take n))) else none
    | _=>none
   else none
  | _=>none
 | .fieldAddr T x f=>(E.L T).bind fun t=>match t,s.opA x with
  | .st ts,.ptr t' id p=>if t'.beq (.st ts) then(ts[f]?).bind fun u=>K (.ptr u id (p++[f])) else none
  | .st ts,.fptr t' y=>if t'.beq (.st ts) then(ts[f]?).bind fun u=>(y.fld f).bind fun z=>K (.fptr u z) else none
  | _,_=>none
 | .indexAddr T x i=>(E.L T).bind fun t=>(isD (s.opA i)).bind fun ix=>match t with
  | .arr n e=>match s.opA x with
   | .ptr t' id p=>if t'.beq (.arr n e) then(ix.2.idx n).bind fun k=>K (.ptr e id (p++[k])) else none
   | .fptr t' y=>if t'.beq (.arr n e) then(ix.2.idx n).bind fun k=>(y.fld k).bind fun z=>K (.fptr e z) else none
   | _=>none
  | .sl e=>match s.opA x with
   | .mem t' id=>if t'.beq e then match s.ob id with
     | some (.many _ l)=>(ix.2.idx l.length).bind fun k=>K (.ptr e id [k])
     | _=>none
    else none
   | a=>(a.asList s.ob e).bind fun l=>(ix.2.idx l.length).bind fun k=>(l[k]?).bind fun y=>K (.fptr e y)
  | _=>none
 | .field T x f=>(E.L T).bind fun t=>match t,s.opA x with
  | .st ts,.d t' y=>if t'.beq (.st ts) then(ts[f]?).bind fun u=>(y.fld f).bind fun z=>K (.d u z) else none
  | _,_=>none
 | .index T x i=>(E.L T).bind fun t=>(isD (s.opA i)).bind fun ix=>match t,s.opA x with
  | .arr n e,.d t' y=>if t'.beq (.arr n e) then(ix.2.idx n).bind fun k=>(y.fld k).bind fun z=>K (.d e z) else none
  | .str,.d t' y=>if t'.beq .str then(D.strAt y ix.2).bind fun z=>K (.d (.int .u8) z) else none
  | _,_=>none
 | .binOp op T x y _=>(E.L T).bind fun t=>(isD (s.opA x)).bind fun a=>(isD (s.opA y)).bind fun b=>
  match op with
  | .eql=>if a.1.beq t&&b.1.beq t&&aO t then K (.d .bool (.bool (D.beq a.2 b.2))) else none
  | .neq=>if a.1.beq t&&b.1.beq t&&aO t then K (.d .bool (.bool (!(D.beq a.2 b.2)))) else none
  | .lss=>(D.bin .lss a.2 b.2).bind fun z=>K (.d .bool z)
  | .leq=>(D.bin .leq a.2 b.2).bind fun z=>K (.d .bool z)
  | .gtr=>(D.bin .gtr a.2 b.2).bind fun z=>K (.d .bool z)
  | .geq=>(D.bin .geq a.2 b.2).bind fun z=>K (.d .bool z)
  | op=>(D.bin op a.2 b.2).bind fun z=>K (.d a.1 z)
 | .unOp op _ x=>(isD (s.opA x)).bind fun a=>(D.un op a.2).bind fun z=>K (.d a.1 z)
 | .convert S T x=>(E.L S).bind fun u=>(E.L T).bind fun t=>(isD (s.opA x)).bind fun a=>
  match t with
  | .int k=>if a.1.beq u then(D.conv k a.2).bind fun z=>K (.d t z) else none
  | _=>none
 | .build T ps=>(E.L T).bind fun t=>match t with
  | .st ts=>if tT ts then(if ps.toList.all (eV s ts) then K (.st ts (kc (iw ts) (ps.toList.map fun p=>(p.1,s.opA p.2)))) else none)
   else(partsD s.ob s (fun i=>ts[i]?) ps.toList).bind fun l=>K (.d t (.st (D.putParts (fc ts) l)))
  | .arr n e=>(partsD s.ob s (fun i=>if i<n then some e else none) ps.toList).bind fun l=>K (.d t (.st (D.putParts (List.replicate n (aC e)) l)))
  | _=>none
 | .buildSlice T n ps=>(E.L T).bind fun t=>match t with
  | .sl e=>if n<=4096 then o.dst.bind fun d=>(partsD s.ob s (fun i=>if i<n then some e else none) ps.toList).bind fun l=>K (.own e (s.base+d) (D.putParts (List.replicate n (aC e)) l)) else none
  | _=>none
 | .extract x i=>match s.opA x with
  | .d (.tup ts) y=>(ts[i]?).bind fun u=>(y.tupAt i).bind fun z=>K (.d u z)
  | _=>none
 | .nilCheck x=>match s.opA x with
  | .ptr t id p=>K (.ptr t id p)
  | _=>none
 | .slice T x lo hi mx=>match mx with
  | some _=>none
  | none=>(E.L T).bind fun t=>match t with
   | .sl e=>((s.opA x).asList s.ob e).bind fun l=>
    (match lo with|none=>some 0|some i=>(isD (s.opA i)).bind fun a=>a.2.natOf).bind fun lo=>
    (match hi with|none=>some l.length|some i=>(isD (s.opA i)).bind fun a=>a.2.natOf).bind fun hi=>
    (D.cut l lo hi).bind fun l'=>K (.d t (.sl l'))
   | .arr m e=>match s.opA x with
    | .ptr t' id p=>if t'.beq (.arr m e) then
     (match lo with|none=>some 0|some i=>(isD (s.opA i)).bind fun a=>a.2.natOf).bind fun lo=>
     (match hi with|none=>some m|some i=>(isD (s.opA i)).bind fun a=>a.2.natOf).bind fun hi=>
     if lo<=hi/\hi<=m/\lo<m then K (.sub true e id p lo (hi-lo)) else none
     else none
    | _=>none
   | _=>none
 | .sliceToArrayPointer T x=>(E.L T).bind fun t=>match t,s.opA x with
  | .arr n e,.sub sl e' id p lo n'=>if sl&&e'.beq e&&decide (n<=n') then K (.sub false e id p lo n) else none
  | _,_=>none
 | .lookup T x i cok=>(E.mapL T).bind fun kv=>match s.opA x with
  | .map kt vt id=>if kt.beq kv.1&&vt.beq kv.2 then match s.ob id with
    | some (.mp kt' vt' l)=>if kt'.beq kt&&vt'.beq vt then(isD (s.opA i)).bind fun ix=>if ix.1.beq kt then
      match cok with
      | false=>K (.d vt ((D.mget l ix.2).getD (aC vt)))
      | true=>K (.d (.tup [vt,.bool]) (.tup [(D.mget l ix.2).getD (aC vt),.bool (D.mget l ix.2).isSome]))
      else none
     else none
    | _=>none
   else none
  | _=>none
 | .makeFunc fn first captured=>match fn with
  | .func f=>if first.size=0/\(captured.toList.all fun x=>kT (s.opA x))=true then K (.clo f (captured.toList.map s.opA)) else none
  | _=>none
 | .call c=>match c.callee with
  | .builtin .len=>(c.argTypes[0]?).bind fun T=>(E.L T).bind fun t=>(c.args[0]?).bind fun x=>match t with
   | .sl e=>match s.opA x with
    | .mem t' id=>if t'.beq e then match s.ob id with
      | some (.many _ l)=>K (.d (.int .i64) (.int .i64 l.length))
      | _=>none
     else none
    | a=>(a.asList s.ob e).bind fun l=>K (.d (.int .i64) (.int .i64 l.length))
   | .arr n _=>K (.d (.int .i64) (.int .i64 n))
   | _=>none
  | .builtin .min=>match c.args.toList with
   | [x,y]=>(isD (s.opA x)).bind fun a=>(isD (s.opA y)).bind fun b=>if a.1.beq b.1 then(D.min2 a.2 b.2).bind fun z=>K (.d a.1 z) else none
   | _=>none
  | .builtin .max=>match c.args.toList with
   | [x,y]=>(isD (s.opA x)).bind fun a=>(isD (s.opA y)).bind fun b=>if a.1.beq b.1 then(D.max2 a.2 b.2).bind fun z=>K (.d a.1 z) else none
   | _=>none
  | .value (.func f)=>(E.sig f).bind fun g=>(AV.toDl s.ob g.1 (c.args.toList.map s.opA)).bind fun xs=>(E.call f xs).bind fun y=>K (.d g.2 y)
  | _=>none
 | _=>none
def lV{R:Type}(E:Env)(s:St)(o:Oper)(K:St->Option R):Option R:=
 match o.op with
 | .store T a x=>(E.L T).bind fun t=>match s.opA a with
  | .ptr t' id p=>if t.beq t'&&AV.fits t (s.opA x)&&!(s.lkO.contains id) then match s.ob id with
    | some (.one u v)=>xF v p (s.opA x) fun v'=>K (s.setOb id (some (.one u v')))
    | some (.many u l)=>match p with
     | i::p'=>(l[i]?).bind fun z=>(AV.toD s.ob t (s.opA x)).bind fun y=>(D.set z p' y).bind fun z'=>K (s.setOb id (some (.many u (l.set i z'))))
     | []=>none
    | _=>none
   else none
  | _=>none
 | .makeMap T rsv=>match rsv with
  | some _=>none
  | none=>(E.mapL T).bind fun kv=>o.dst.bind fun d=>K ((s.setOb (s.base+d) (some (.mp kv.1 kv.2 []))).put o.dst (.map kv.1 kv.2 (s.base+d)))
 | .mapUpdate T m k v=>if o.dst.isSome then none else(E.mapL T).bind fun kv=>match s.opA m with
  | .map kt vt id=>if kt.beq kv.1&&vt.beq kv.2&&!(s.lkO.contains id) then match s.ob id with
    | some (.mp kt' vt' l)=>if kt'.beq kt&&vt'.beq vt then(AV.toD s.ob kt (s.opA k)).bind fun kd=>(AV.toD s.ob vt (s.opA v)).bind fun vd=>K (s.setOb id (some (.mp kt vt (D.mput l kd vd)))) else none
    | _=>none
   else none
  | _=>none
 | .box T x=>(E.L T).bind fun t=>o.dst.bind fun d=>if AV.fits t (s.opA x) then K ((s.setOb (s.base+d) (some (.one t (s.opA x)))).put o.dst (.ptr t (s.base+d) [])) else none
 | .makeSlice T l c=>(E.L T).bind fun t=>o.dst.bind fun d=>match t,l,c with
  | .sl e,.tmp i,.tmp j=>if i=j then(isD (s.tm i)).bind fun a=>(a.2.natOf).bind fun n=>if n<=1073741824 then K ((s.setOb (s.base+d) (some (.many e (List.replicate n (aC e))))).put o.dst (.mem e (s.base+d))) else none else none
  | _,_,_=>none
 | .call c=>match c.callee with
  | .builtin .append=>(c.argTypes[0]?).bind fun T=>(E.L T).bind fun t=>o.dst.bind fun d=>match t,c.args.toList,c.argTypes.toList with
   | .sl e,[x,y],[_,T']=>match E.L T' with
    | some (.sl _)=>((s.opA y).asList s.ob e).bind fun l'=>match s.opA x with
     | .own e' v l=>if e'.beq e&&!(s.dead.contains v) then(if l.length+l'.length<=1073741824 then K ({ s with dead:=v::s.dead }.put o.dst (.own e (s.base+d) (l++l'))) else none) else none
     | .nils=>if l'.length<=1073741824 then K (s.put o.dst (.own e (s.base+d) l')) else none
     | _=>none
    | _=>none
   | _,_,_=>none
  | .builtin .copy=>match c.args.toList,c.argTypes.toList with
   | [x,y],[T,_]=>match E.L T with
    | some (.sl (.int k))=>match s.opA x,s.opA y with
     | .sub true e id [] lo n,.sub true e' id' [] lo' n'=>match s.ob id,s.ob id' with
      | some (.one (.arr m f) (.d g x)),some (.one (.arr m' f') (.d g' y))=>
       if e.beq (.int k)&&e'.beq (.int k)&&f.beq (.int k)&&f'.beq (.int k)&&g.beq (.arr m f)&&g'.beq (.arr m' f')&&!(s.lkO.contains id) then
        x.stl.bind fun l=>y.stl.bind fun l'=>K ((s.setOb id (some (.one (.arr m f) (.d g (.st (l.take lo++((l'.drop lo').take (min n' n)++l.drop (lo+min n' n)))))))).put o.dst (.d (.int .i64) (.int .i64 (min n' n:Nat))))
       else none
      | _,_=>none
     | _,_=>none
    | _=>none
   | _,_=>none
  | _=>qv E s o fun v=>K (s.put o.dst v)
 | _=>qv E s o fun v=>K (s.put o.dst v)
def iX(s:St)(o:Oper):Bool:=match o.dst with|some d=>s.lkS.contains d|none=>false
def yn{R:Type}(E:Env)(s:St)(o:Oper)(K:St->Option R):Option R:=if iX s o then none else lV E s o K
def gY(E:Env):List Oper->St->St
 | [],s=>s
 | o::l,s=>gY E l (match o.op,o.dst with
  | .alloc T,some d=>match E.L T with
   | some t=>s.setOb (s.base+d) (some (.one t (fq t)))
   | none=>s
  | _,_=>s)
def killD(s:St):List Oper->St
 | []=>s
 | o::l=>killD (s.put o.dst .undef) l
def rN(i:Nat)(o:Oper):Bool:=match o.guard with|some (j,_)=>decide (j=i)|none=>false
def lW(d:Option Nat)(o:Oper):Bool:=match o.op,d with|.pick (.tmp c) _ _,some d=>decide (c=d)|_,_=>false
def dF(d:Option Nat):List (Nat×Oper)->List (Nat×Oper)×List (Nat×Oper)
 | []=>([],[])
 | p::l=>if lW d p.2 then([],p::l) else let r:=dF d l;(p::r.1,r.2)
def fL(o:Oper):Bool:=match o.op with
 | .store ..|.box ..|.makeSlice ..|.makeMap ..|.mapUpdate ..|.alloc _=>false
 | .call c=>match c.callee with|.builtin .append=>false|.builtin .copy=>false|_=>true
 | _=>true
def ug(o:Oper):Bool:=match o.op with
 | .alloc _=>true|.box ..=>true|.makeSlice ..=>true|.makeMap ..=>true|.buildSlice ..=>true
 | .call c=>match c.callee with|.builtin .append=>true|_=>false
 | _=>false
def mY(E:Env)(o:Oper):Bool:=match o.op with
 | .call c=>match c.callee with|.value (.func f)=>(E.inl f).isSome|.value (.tmp _)=>true|_=>false
 | _=>false
def ny(s:St)(c:Call):Option (Nat×List AV):=match c.callee with
 | .value (.func f)=>some (f,c.args.toList.map s.opA)
 | .value (.tmp t)=>match s.tm t with|.clo f l=>if l.all kT then some (f,c.args.toList.map s.opA++l) else none|_=>none
 | _=>none
def gv(i:Nat)(l:List (Nat×Oper)):Bool:=match l with|p::_=>rN i p.2|[]=>false
def ti{α:Type}(x:AV)(A B:Option α):Option α:=match x with|.gone=>A|_=>B
theorem eN{α:Type}{A B:Option α}:ti .gone A B=A:=rfl
theorem fB{α:Type}{x:AV}{A B:Option α}(h:x≠.gone):ti x A B=B:=by
 cases x<;>first|rfl|exact absurd rfl h
def fV(E:Env):Nat->(R:Type)->(ops:Array Oper)->Ann->List (Nat×Oper)->St->(St->Option R)->Option R
 | 0,_,_,_,_,_,_=>none
 | _+1,_,_,_,[],s,k=>k s
 | n+1,R,ops,an,(i,o)::l,s,k=>
  match o.guard with
  | some (j,want)=>match (ops[j]?).bind (·.dst) with
   | some g=>if iX s o then none else ti (s.tm g) (fV E n R ops an l (s.put o.dst .gone) k)
    ((s.tm g).truth.bind fun c=>
    if c then(if want then lV E (s.put (some g) (.d .bool (.bool true))) o fun s'=>fV E n R ops an l s' k else fV E n R ops an l ((s.put (some g) (.d .bool (.bool true))).put o.dst .gone) k)
    else(if want then fV E n R ops an l ((s.put (some g) (.d .bool (.bool false))).put o.dst .gone) k else lV E (s.put (some g) (.d .bool (.bool false))) o fun s'=>fV E n R ops an l s' k))
   | none=>none
  | none=>
   if gv i l then
    let sp:=dF o.dst l
    match sp.2,o.dst with
    | (_,pk)::l',some d=>if d<s.nt&&pk.guard.isNone&&fL o&&!(mY E o)&&sp.1.all (fun(p:Nat×Oper)=>(fL p.2&&!(iX s p.2)&&!(mY E p.2)))&&!(iX s pk) then
      yn E s o fun s1=>(s1.tm d).truth.bind fun c=>
      (if c then fV E n Bool ops .leaf sp.1 (s1.put (some d) (.d .bool (.bool true))) fun s2=>qv E s2 pk AV.truth
       else fV E n Bool ops .leaf sp.1 (s1.put (some d) (.d .bool (.bool false))) fun s2=>qv E s2 pk AV.truth).bind fun x=>
      fV E n R ops an l' ((killD s1 (sp.1.map Prod.snd)).put pk.dst (.d .bool (.bool x))) k
     else none
    | _,_=>none
   else if mY E o then
    if iX s o||!(l.all fun p=>!(ug p.2)) then none else match o.op with
     | .call c=>(ny s c).bind fun q=>(E.inl q.1).bind fun g=>g an.fst R s q.2 fun v s'=>fV E n R ops an.snd l (s'.put o.dst v) k
     | _=>none
   else yn E s o fun s'=>fV E n R ops an l s' k
def bf:Nat->List Oper->List (Nat×Oper)
 | _,[]=>[]
 | i,o::l=>(i,o)::bf (i+1) l
def fg(s:St):List Nat->St
 | []=>s
 | t::l=>fg (match s.tm t with
  | .mem t' id=>match s.ob id with
   | some (.many u l)=>if t'.beq u&&!(s.lkO.contains id) then{ s.setOb id none with tm:=fun i=>if i=t then .d (.sl u) (.sl l) else s.tm i } else s
   | _=>s
  | _=>s) l
def cu:List (Nat×ShO)->List Nat
 | []=>[]
 | (id,.keep ..)::l=>id::cu l
 | _::l=>cu l
mutual
def AV.same:AV->AV->Bool
 | .ptr t id p,.ptr t' id' p'=>t.beq t'&&decide (id=id')&&decide (p=p')
 | .mem t id,.mem t' id'=>t.beq t'&&decide (id=id')
 | .map kt vt id,.map kt' vt' id'=>kt.beq kt'&&vt.beq vt'&&decide (id=id')
 | .clo f l,.clo f' l'=>decide (f=f')&&AV.sames l l'
 | _,_=>false
def AV.sames:List AV->List AV->Bool
 | [],[]=>true
 | a::l,a'::l'=>AV.same a a'&&AV.sames l l'
 | _,_=>false
end
def D.els:D->List D|.sl l=>l|_=>[]
mutual
def Sh.mk(b:Nat):Sh->Nat->List D->AV×Nat
 | .dv t,j,s=>(.d t (s.getD j (.bool false)),j+1)
 | .ow t,j,s=>(.own t (b+j) (s.getD j (.bool false)).els,j+1)
 | .same a,j,_=>(a,j)
 | .st ts l,j,s=>let r:=Sh.mks b l j s;(.st ts r.1,r.2)
def Sh.mks(b:Nat):List Sh->Nat->List D->List AV×Nat
 | [],j,_=>([],j)
 | h::l,j,s=>let r:=Sh.mk b h j s;let q:=Sh.mks b l r.2 s;(r.1::q.1,q.2)
end
mutual
def Sh.dec(ob:Nat->Option Ob)(dead:List Nat):Sh->AV->Option (List D)
 | .dv t,a=>(AV.toD ob t a).bind fun x=>some [x]
 | .ow t,.own t' v l=>if t.beq t'&&!(dead.contains v) then some [.sl l] else none
 | .ow _,.nils=>some [.sl []]
 | .same a,a'=>if AV.same a a' then some [] else none
 | .st ts l,.st ts' l'=>if Ty.beqs ts ts' then Sh.decs ob dead l l' else none
 | _,_=>none
def Sh.decs(ob:Nat->Option Ob)(dead:List Nat):List Sh->List AV->Option (List D)
 | [],[]=>some []
 | h::l,a::l'=>(Sh.dec ob dead h a).bind fun x=>(Sh.decs ob dead l l').bind fun y=>some (x++y)
 | _,_=>none
end
def AV.still:AV->AV
 | .d t x=>.d t x
 | .own t _ l=>.d (.sl t) (.sl l)
 | .fptr t x=>.fptr t x
 | _=>.undef
def Ob.still(t:Ty):Option Ob->Option Ob
 | some (.one t' (.d u x))=>if t.beq t' then some (.one t' (.d u x)) else none
 | _=>none
mutual
def Sh.toks:Sh->AV->List Nat
 | .ow _,.own _ v _=>[v]
 | .st _ l,.st _ l'=>Sh.tokss l l'
 | _,_=>[]
def Sh.tokss:List Sh->List AV->List Nat
 | h::l,a::l'=>Sh.toks h a++Sh.tokss l l'
 | _,_=>[]
end
def ed:List Nat->Bool
 | []=>true
 | a::l=>!(l.contains a)&&ed l
def Shape.mkS(b:Nat):List (Nat×Sh)->Nat->List D->(Nat->AV)->(Nat->AV)×Nat
 | [],j,_,f=>(f,j)
 | (t,h)::l,j,s,f=>let r:=Sh.mk b h j s;Shape.mkS b l r.2 s (fun i=>if i=t then r.1 else f i)
def Shape.mkO(b:Nat)(base:Nat->Option Ob):List (Nat×ShO)->Nat->List D->(Nat->Option Ob)->(Nat->Option Ob)
 | [],_,_,f=>f
 | (id,.one t h)::l,j,s,f=>let r:=Sh.mk b h j s;Shape.mkO b base l r.2 s (fun i=>if i=id then some (.one t r.1) else f i)
 | (id,.many t)::l,j,s,f=>Shape.mkO b base l (j+1) s (fun i=>if i=id then some (.many t (s.getD j (.bool false)).els) else f i)
 | (id,.mp kt vt)::l,j,s,f=>Shape.mkO b base l (j+1) s (fun i=>if i=id then some (.mp kt vt (s.getD j (.bool false)).els) else f i)
 | (id,.keep t _)::l,j,s,f=>Shape.mkO b base l j s (fun i=>if i=id then Ob.still t (base id) else f i)
def Shape.mk'(h:Shape)(base:St)(s:List D)(lkS lkO:List Nat):St:=
 let b:=(base.fresh+1)*4096
 let r:=Shape.mkS b h.slots 0 s (fun i=>if h.keepS.contains i then(base.tm i).still else .undef)
 { tm:=r.1,ob:=Shape.mkO b base.ob h.objs r.2 s (fun _=>none),fresh:=base.fresh+1,dead:=[],nt:=base.nt,lkS,lkO }
def Shape.decS(s:St):List (Nat×Sh)->Option (List D)
 | []=>some []
 | (t,h)::l=>(Sh.dec s.ob s.dead h (s.tm t)).bind fun x=>(Shape.decS s l).bind fun y=>some (x++y)
def Shape.decO(s:St):List (Nat×ShO)->Option (List D)
 | []=>some []
 | (id,.one t h)::l=>match s.ob id with
  | some (.one t' v)=>if t.beq t' then(Sh.dec s.ob s.dead h v).bind fun x=>(Shape.decO s l).bind fun y=>some (x++y) else none
  | _=>none
 | (id,.many t)::l=>match s.ob id with
  | some (.many t' v)=>if t.beq t' then(Shape.decO s l).bind fun y=>some (.sl v::y) else none
  | _=>none
 | (id,.mp kt vt)::l=>match s.ob id with
  | some (.mp kt' vt' v)=>if kt.beq kt'&&vt.beq vt' then(Shape.decO s l).bind fun y=>some (.sl v::y) else none
  | _=>none
 | (id,.keep t _)::l=>match s.ob id with
  | some (.one t' _)=>if t.beq t' then Shape.decO s l else none
  | _=>none
def Shape.toksS(s:St):List (Nat×Sh)->List Nat
 | []=>[]
 | (t,h)::l=>Sh.toks h (s.tm t)++Shape.toksS s l
def Shape.toksO(s:St):List (Nat×ShO)->List Nat
 | []=>[]
 | (id,.one _ h)::l=>(match s.ob id with|some (.one _ v)=>Sh.toks h v|_=>[])++Shape.toksO s l
 | _::l=>Shape.toksO s l
mutual
def AV.old(n:Nat):AV->Bool
 | .ptr _ id _=>decide (id<n)
 | .mem _ id=>decide (id<n)
 | .map _ _ id=>decide (id<n)
 | .clo _ l=>AV.olds n l
 | _=>false
def AV.olds(n:Nat):List AV->Bool
 | []=>true
 | a::l=>AV.old n a&&AV.olds n l
end
mutual
def Sh.cnt:Sh->Nat
 | .dv _=>1
 | .ow _=>1
 | .same _=>0
 | .st _ l=>Sh.cnts l
def Sh.cnts:List Sh->Nat
 | []=>0
 | h::l=>Sh.cnt h+Sh.cnts l
end
mutual
def Sh.fits:Ty->Sh->Bool
 | t,.dv t'=>t.beq t'
 | t,.ow e=>t.beq (.sl e)
 | _,.same _=>false
 | t,.st ts l=>t.beq (.st ts)&&Sh.fitss ts l
def Sh.fitss:List Ty->List Sh->Bool
 | [],[]=>true
 | t::ts,h::l=>Sh.fits t h&&Sh.fitss ts l
 | _,_=>false
end
mutual
def Sh.fine(n:Nat):Sh->Bool
 | .dv t=>af t
 | .ow t=>af t
 | .same a=>AV.old n a
 | .st ts l=>aT ts&&Sh.fitss ts l&&Sh.fines n l
def Sh.fines(n:Nat):List Sh->Bool
 | []=>true
 | h::l=>Sh.fine n h&&Sh.fines n l
end
def ShO.cnt:ShO->Nat
 | .one _ h=>h.cnt
 | .many _=>1
 | .mp ..=>1
 | .keep ..=>0
def ShO.fine(n:Nat)(base:St)(id:Nat):ShO->Bool
 | .one t h=>Sh.fine n h&&Sh.fits t h
 | .many _=>true
 | .mp ..=>true
 | .keep _ wit=>match base.tm wit with|.ptr _ id' _=>decide (id=id')&&decide (wit<base.nt)|_=>false
def Shape.cntS:List (Nat×Sh)->Nat
 | []=>0
 | p::l=>p.2.cnt+Shape.cntS l
def Shape.cntO:List (Nat×ShO)->Nat
 | []=>0
 | p::l=>p.2.cnt+Shape.cntO l
def Shape.good(h:Shape)(base:St):Bool:=
 ed (h.slots.map (·.1))&&ed (h.objs.map (·.1))&&(h.objs.all fun p=>decide (p.1<(base.fresh+1)*4096)&&ShO.fine ((base.fresh+1)*4096) base p.1 p.2)&&h.slots.all (fun p=>decide (p.1<base.nt)&&Sh.fine ((base.fresh+1)*4096) p.2)&&decide (Shape.cntS h.slots+Shape.cntO h.objs<=4096)
def Shape.dec(h:Shape)(base s:St):Option (List D):=
 if h.good base&&ed (Shape.toksS s h.slots++Shape.toksO s h.objs) then(Shape.decS s h.slots).bind fun x=>(Shape.decO s h.objs).bind fun y=>some (x++y) else none
def mR{α β:Type}(body:α->Option (Sum α β))(n:Nat):α->Option β:=
 Nat.rec (motive:=fun _=>α->Option β) (fun _=>none) (fun _ ih a=>match body a with
  | none=>none
  | some (.inl a')=>ih a'
  | some (.inr b)=>some b) n
theorem nj{α β:Type}(body:α->Option (Sum α β))(a:α):mR body 0 a=none:=rfl
theorem iI{α β:Type}(body:α->Option (Sum α β))(n:Nat)(a:α):mR body (n+1) a=match body a with
  | none=>none
  | some (.inl a')=>mR body n a'
  | some (.inr b)=>some b:=rfl
theorem nJ{α β:Type}{body:α->Option (Sum α β)}:∀ {n:Nat} {a:α} {b:β} (m:Nat),mR body n a=some b->mR body (n+m) a=some b
 | 0,_,_,_,h=>by simp[nj] at h
 | n+1,a,b,m,h=>by
  rw[show n+1+m=(n+m)+1 by omega]
  simp only[iI] at h ⊢
  cases hb:body a with
  | none=>rw[hb] at h;simp at h
  | some x=>cases x with
   | inl a'=>rw[hb] at h;exact nJ m h
   | inr b'=>rw[hb] at h;exact h
open Classical in
noncomputable def j7{α β:Type}(body:α->Option (Sum α β))(a:α):Option β:=
 if h:∃ n b,mR body n a=some b then some (Classical.choose (Classical.choose_spec h)) else none
theorem lc{α β:Type}{body:α->Option (Sum α β)}{a:α}{b:β}(h:j7 body a=some b):∃ n,mR body n a=some b:=by
 unfold j7 at h
 split at h
 ·rename_i hh
  exact⟨_,by rw[<-Option.some.inj h];exact Classical.choose_spec (Classical.choose_spec hh)⟩
 ·cases h
theorem iq{α β:Type}{body:α->Option (Sum α β)}{a:α}{b:β}{n:Nat}(h:mR body n a=some b):j7 body a=some b:=by
 have hh:∃ n b,mR body n a=some b:=⟨n,b,h⟩
 unfold j7
 rw[dif_pos hh]
 have h2:=Classical.choose_spec (Classical.choose_spec hh)
 have h3:=nJ (Classical.choose hh) h
 have h4:=nJ n h2
 rw[Nat.add_comm] at h4
 rw[h3] at h4
 exact h4.symm
theorem ef{α β:Type}{body:α->Option (Sum α β)}{a a':α}(h:body a=some (.inl a')):j7 body a=j7 body a':=by
 cases h2:j7 body a' with
 | some b=>
  obtain⟨n,hn⟩:=lc h2
  exact iq (n:=n+1) (by simp only[iI,h];exact hn)
 | none=>
  cases h3:j7 body a with
  | none=>rfl
  | some b=>
   obtain⟨n,hn⟩:=lc h3
   cases n with
   | zero=>simp[nj] at hn
   | succ n=>
    simp only[iI,h] at hn
    rw[iq hn] at h2
    cases h2
theorem eI{α β:Type}{body:α->Option (Sum α β)}{a:α}{b:β}(h:body a=some (.inr b)):j7 body a=some b:=
 iq (n:=1) (by simp only[iI,h])
def qI(e:Ex):List (Ex×Shape)->Nat->Option (Nat×Shape)
 | [],_=>none
 | (e',h)::l,j=>if e.is e' then some (j,h) else qI e l (j+1)
def subset(l l':List Nat):Bool:=l.all fun x=>l'.contains x
def lO{R:Type}(base:St)(k:Ex->St->Option R)(keepS keepO:List Nat):List (Ex×Shape)->Nat->Nat×List D->Option R
 | [],_,_=>none
 | [(e,h)],_,r=>if subset h.keepS keepS&&subset (cu h.objs) keepO then k e (h.mk' base r.2 base.lkS base.lkO) else none
 | (e,h)::l,j,r=>if subset h.keepS keepS&&subset (cu h.objs) keepO then(if r.1=j then k e (h.mk' base r.2 base.lkS base.lkO) else lO base k keepS keepO l (j+1) r) else none
def Ai(base:St)(exits:List (Ex×Shape))(e:Ex)(s:St):Option (Nat×List D):=(qI e exits 0).bind fun q=>(q.2.dec base s).bind fun v=>some (q.1,v)
def bW(ops:List Oper):Bool:=ed (ops.filterMap (·.dst))&&(ops.all fun o=>match o.dst with|some d=>decide (d<4096)|none=>true)&&ops.all fun o=>match o.op with|.store ..=>o.dst.isNone|_=>true
def nI(E:Env)(ops:Array Oper)(n:Nat):Bool:=
 ((ops.toList.take n).all fun o=>!(mY E o))&&Region.noSelect ops&&Region.lexHead .any ops (ops.size-n) n 0 (Array.replicate ops.size false)&&(decide (n=ops.size)||(decide (n<ops.size)&&Region.sinkB .any ops n&&Region.chainB .any ops n)) &&
 ((ops.toList.take n).all fun o=>fL o||(match o.op with|.alloc _=>true|_=>false))&&(ops.toList.drop n).all fun o=>o.guard.isNone&&(match o.op with|.pick ..=>false|_=>true)
def qC(o:Oper):Bool:=match o.op with|.fieldAddr ..=>true|.load ..=>true|.build ..=>true|.alloc _=>true|_=>false
def pi{R:Type}(E:Env)(ops:Array Oper)(n id i:Nat)(s:St)(K:AV->Option R):Option R:=
 match ops[i]? with
 | none=>none
 | some o=>if iX s o then none else if Region.waitsFor .any ops n i then qv E s o K else if qC o then qv E (s.setOb id none) o K else none
def Gv{R:Type}(E:Env)(ops:Array Oper)(n id:Nat):Nat->Nat->St->(St->Option R)->Option R
 | 0,_,s,K=>K s
 | c+1,k,s,K=>pi E ops n id k s fun v=>Gv E ops n id c (k+1) (s.put ((ops[k]?).bind (·.dst)) v) K
def qA(ops:Array Oper)(n:Nat):Bool:=
 match ops[n]? with
 | some o=>match o.op with
  | .store _ (.tmp p) (.tmp x)=>((List.range ops.size).all fun j=>match (ops[j]?).bind (·.dst) with|some d=>!(decide (d=p)||decide (d=x))||Region.waitsFor .any ops n j|none=>true) &&
    ((ops.toList.take n).all fun o=>(fL o||(match o.op with|.alloc _=>true|_=>false))&&o.guard.isNone)&&((ops.toList.drop n).all fun o=>o.guard.isNone&&(match o.op with|.pick ..=>false|_=>true)) &&
    Region.noSelect ops&&Region.lexHead .any ops (ops.size-(n+1)) (n+1) 0 (Array.replicate ops.size false)&&(decide (n+1=ops.size)||(decide (n+1<ops.size)&&Region.sinkB .any ops (n+1)&&Region.chainB .any ops (n+1)))
  | _=>false
 | none=>false
def ja(ops:Array Oper)(n:Nat)(s:St):Nat:=match ops[n]? with
 | some o=>match o.op with
  | .store _ (.tmp p) _=>if ops.toList.any (fun q=>match q.op,q.dst with|.alloc _,some d=>decide (d=p)|_,_=>false) then s.base+p else match s.tm p with
   | .ptr _ id _=>id
   | _=>0
  | _=>0
 | none=>0
def qM(ops:Array Oper)(n:Nat)(s:St):Option Nat:=match ops[n]? with
 | some o=>match o.op with
  | .store _ (.tmp p) _=>match s.tm p with
   | .ptr _ id []=>some id
   | _=>none
  | _=>none
 | none=>none
def uV{R:Type}(E:Env)(s:St)(o:Oper)(K:AV×List Nat->Option R):Option R:=match o.op with
 | .call c=>match c.callee with
  | .builtin .append=>(c.argTypes[0]?).bind fun T=>(E.L T).bind fun t=>o.dst.bind fun d=>match t,c.args.toList,c.argTypes.toList with
   | .sl e,[x,y],[_,T']=>match E.L T' with
    | some (.sl _)=>((s.opA y).asList s.ob e).bind fun l'=>match s.opA x with
     | .own e' v l=>if e'.beq e&&!(s.dead.contains v) then(if l.length+l'.length<=1073741824 then K (.own e (s.base+d) (l++l'),v::s.dead) else none) else none
     | .nils=>if l'.length<=1073741824 then K (.own e (s.base+d) l',s.dead) else none
     | _=>none
    | _=>none
   | _,_,_=>none
  | _=>none
 | _=>none
def mH(E:Env)(s:St)(o:Oper):Option (AV×List Nat):=uV E s o some
def jI(s:St)(p:Nat):List Nat:=match s.tm p with
 | .own _ v _=>v::s.dead
 | _=>s.dead
def FP{R:Type}(E:Env)(ops:Array Oper)(m:Nat):Nat->Nat->St->(St->Option R)->Option R
 | 0,_,s,K=>K s
 | c+1,k,s,K=>match ops[k]? with
  | none=>none
  | some o=>if iX s o then none else if k=m then uV E s o fun v=>FP E ops m c (k+1) (s.put o.dst v.1) K else qv E s o fun v=>FP E ops m c (k+1) (s.put o.dst v) K
def EO(o:Oper):Bool:=match o.op with
 | .call c=>match c.callee with|.builtin .append=>true|_=>false
 | _=>false
def nb(ops:Array Oper):Nat:=ops.toList.findIdx EO
def Ab(ops:Array Oper)(m:Nat):Nat:=match ops[m]? with
 | some o=>match o.op with
  | .call c=>match c.args.toList with|[.tmp p,_]=>p|_=>0
  | _=>0
 | none=>0
def wJ(E:Env)(ops:Array Oper)(n m:Nat):Bool:=
 match ops[m]? with
 | some o=>match o.op with
  | .call c=>match c.callee,c.args.toList with
   | .builtin .append,[.tmp p,_]=>decide (m<n)&&((List.range ops.size).all fun j=>match (ops[j]?).bind (·.dst) with|some d=>!(decide (d=p))||Region.waitsFor .any ops m j|none=>true) &&
     ((List.range n).all fun j=>match ops[j]? with|some o=>(decide (j=m)||(fL o||(match o.op with|.alloc _=>true|_=>false)))&&o.guard.isNone&&!(mY E o)|none=>false) &&
     ((ops.toList.drop n).all fun o=>o.guard.isNone&&(match o.op with|.pick ..=>false|_=>true)) &&
     Region.noSelect ops&&Region.lexHead .any ops (ops.size-n) n 0 (Array.replicate ops.size false)&&(decide (n=ops.size)||(decide (n<ops.size)&&Region.sinkB .any ops n&&Region.chainB .any ops n))
   | _,_=>false
  | _=>false
 | none=>false
def ev(E:Env):Code->Ann->(R:Type)->St->(Ex->St->Option R)->Option R
 | .skip,_,_,s,k=>k .normal s
 | .label _,_,_,s,k=>k .normal s
 | .exit id,_,_,s,k=>k (.exit id) s
 | .ret,_,_,s,k=>k .ret s
 | .region _ ops dr,a,R,s,k=>
  let s1:=gY E ops.toList { fg s a.fz with fresh:=s.fresh+1 }
  if bW ops.toList&&(!dr||nI E ops (a.heads ops.size)) then fV E (ops.size+1) R ops a.inner (bf 0 ops.toList) s1 (fun s'=>k .normal s')
  else if bW ops.toList&&qA ops (a.heads ops.size) then Gv E ops (a.heads ops.size) (ja ops (a.heads ops.size) s1) (a.heads ops.size) 0 s1 fun s2=>if qM ops (a.heads ops.size) s2=some (ja ops (a.heads ops.size) s1) then fV E (ops.size+1) R ops a.inner ((bf 0 ops.toList).drop (a.heads ops.size)) s2 (fun s'=>k .normal s') else none
  else if bW ops.toList&&(dr&&wJ E ops (a.heads ops.size) (nb ops)) then FP E ops (nb ops) (a.heads ops.size) 0 s1 fun s2=>fV E (ops.size+1) R ops a.inner ((bf 0 ops.toList).drop (a.heads ops.size)) { s2 with dead:=jI s2 (Ab ops (nb ops)) } (fun s'=>k .normal s')
  else none
 | .seq c d,.cut exits kS kO a b,R,s,k=>
  (ev E c a (Nat×List D) { s with lkS:=kS++s.lkS,lkO:=kO++s.lkO } (Ai s exits)).bind fun r=>
   lO s (fun e s'=>match e with|.normal=>ev E d b R s' k|e=>k e s') kS kO exits 0 r
 | .seq c d,a,R,s,k=>ev E c a.fst R s fun e s'=>match e with
  | .normal=>ev E d a.snd R s' k
  | e=>k e s'
 | .cond c x y,a,R,s,k=>(s.opA c).truth.bind fun t=>if t then ev E x a.fst R s k else ev E y a.snd R s k
 | .block id c,a,R,s,k=>ev E c a.fst R s fun e s'=>match e with
  | .exit j=>if j=id then k .normal s' else k (.exit j) s'
  | e=>k e s'
 | .scope c,a,R,s,k=>ev E c a R s k
 | .loop c,.loop h exits a,R,s,k=>
  (h.dec s s).bind fun v0=>(E.lp (fun v=>ev E c a (Sum (List D) (Nat×List D)) (h.mk' s v (h.keepS++s.lkS) (cu h.objs++s.lkO)) fun e s'=>match e with
    | .normal=>(h.dec s s').bind fun v'=>some (.inl v')
    | e=>(Ai s exits e s').bind fun r=>some (.inr r)) v0).bind fun r=>
   lO s k h.keepS (cu h.objs) exits 0 r
 | _,_,_,_,_=>none
def nF(tys:List Ty)(args:List D)(i:Nat):AV:=
 match tys[i]?,args[i]? with
 | some t,some x=>.d t x
 | _,_=>.undef
def Be{R:Type}(E:Env)(s:St)(t:Ty)(k:D->Option R):ResultVar->Option R
 | .tmp i=>(AV.toD s.ob t (s.tm i)).bind k
 | .cell i T=>(E.L T).bind fun u=>match s.tm i with
  | .ptr t' id p=>if u.beq t' then(s.ob id).bind fun o=>fW o p fun a=>(AV.toD s.ob t a).bind k else none
  | _=>none
def ql{R:Type}(E:Env)(s:St):List Ty->List ResultVar->(List D->Option R)->Option R
 | [],[],k=>k []
 | t::ts,r::rs,k=>Be E s t (fun x=>ql E s ts rs fun xs=>k (x::xs)) r
 | _,_,_=>none
def results(E:Env)(s:St)(rty:Ty)(rs:List ResultVar):Option D:=
 match rs with
 | [r]=>Be E s rty some r
 | rs=>match rty with
  | .tup ts=>ql E s ts rs fun xs=>some (.tup xs)
  | _=>none
def Iy(E:Env)(fn:Func)(ann:Ann)(tys:List Ty)(rty:Ty)(args:List D):Option D:=
 match fn.body with
 | none=>none
 | some c=>ev E c ann D { tm:=nF tys args,ob:=fun _=>none,fresh:=0,dead:=[],nt:=fn.ntmps,lkS:=[],lkO:=[] } fun e s=>match e with
  | .exit _=>none
  | _=>results E s rty fn.results.toList
end Go.Proofs.YtjjjkojfijpeeaaGreat.Sy
end
section
namespace Go.Proofs.YtjjjkojfijpeeaaGreat.Sy
open Go
mutual
theorem bo:∀ (t:Ty) (x:D),wt t x->af t=true->x.flat.length=t.size
 | .int k,x,h,_=>by simp only[wt] at h;obtain⟨n,rfl⟩:=h;rfl
 | .bool,x,h,_=>by simp only[wt] at h;obtain⟨n,rfl⟩:=h;rfl
 | .str,x,h,_=>by simp only[wt] at h;obtain⟨n,rfl⟩:=h;rfl
 | .st ts,x,h,hn=>by
  simp only[wt] at h
  obtain⟨l,rfl,h⟩:=h
  simp only[D.flat,Ty.size]
  exact mS ts l h (by simpa [af] using hn)
 | .arr n t,x,h,hn=>by
  simp only[wt] at h
  obtain⟨l,rfl,rfl,h⟩:=h
  simp only[D.flat,Ty.size]
  simp only[af] at hn
  induction l with
  | nil=>simp[D.flats]
  | cons y l ih=>
   simp only[D.flats,List.length_append,List.length_cons]
   rw[bo t y (h y (by simp)) hn,ih (fun x hx=>h x (by simp[hx]))]
   rw[Nat.add_mul,Nat.one_mul,Nat.add_comm]
 | .sl t,x,h,_=>by simp only[wt] at h;obtain⟨l,rfl,_⟩:=h;rfl
 | .tup ts,_,_,h=>by simp[af] at h
 | .fn,x,h,_=>by simp[wt] at h
theorem mS:∀ (ts:List Ty) (l:List D),fN ts l->aT ts=true->(D.flats l).length=Ty.sizes ts
 | [],l,h,_=>by simp only[fN] at h;subst h;rfl
 | t::ts,l,h,hn=>by
  simp only[fN] at h
  obtain⟨d,l',rfl,h1,h2⟩:=h
  simp only[aT,Bool.and_eq_true] at hn
  simp only[D.flats,Ty.sizes,List.length_append]
  rw[bo t d h1 hn.1,mS ts l' h2 hn.2]
end
theorem br(a b:List D):D.flats (a++b)=D.flats a++D.flats b:=by
 induction a with
 | nil=>rfl
 | cons x a ih=>simp only[List.cons_append,D.flats,ih,List.append_assoc]
theorem ap{t:Ty}(hn:af t=true):∀ (l:List D),(∀ x∈l,wt t x)->(D.flats l).length=l.length*t.size
 | [],_=>by simp[D.flats]
 | y::l,h=>by
  simp only[D.flats,List.length_append,List.length_cons]
  rw[bo t y (h y (by simp)) hn,ap hn l (fun x hx=>h x (by simp[hx])),Nat.add_mul,Nat.one_mul,Nat.add_comm]
theorem bG{l:List D}{i:Nat}{y:D}(h:l[i]?=some y):D.flats l=D.flats (l.take i)++(y.flat++D.flats (l.drop (i+1))):=by
 obtain⟨hi,hy⟩:=List.getElem?_eq_some_iff.1 h
 conv=>lhs;rw[<-List.take_append_drop i l,br]
 rw[List.drop_eq_getElem_cons hi,hy]
 rfl
theorem kh{l:List D}{i:Nat}{y z:D}(h:l[i]?=some y):D.flats (l.set i z)=D.flats (l.take i)++(z.flat++D.flats (l.drop (i+1))):=by
 obtain⟨hi,hy⟩:=List.getElem?_eq_some_iff.1 h
 have h2:(l.set i z)[i]?=some z:=by simp[hi]
 rw[bG h2,List.take_set_of_le (Nat.le_refl i),List.drop_set_of_lt (Nat.lt_succ_self i)]
theorem jt:∀ {ts:List Ty} {l:List D} {i:Nat} {t:Ty},fN ts l->ts[i]?=some t->∃ y,l[i]?=some y/\wt t y
 | [],_,_,_,_,h=>by simp at h
 | u::ts,l,i,t,h,hi=>by
  simp only[fN] at h
  obtain⟨d,l',rfl,h1,h2⟩:=h
  cases i with
  | zero=>simp at hi;subst hi;exact⟨d,rfl,h1⟩
  | succ i=>simp at hi;obtain⟨y,h3,h4⟩:=jt h2 hi;exact⟨y,by simpa using h3,h4⟩
theorem lC:∀ {ts:List Ty} {l:List D},fN ts l->l.length=ts.length
 | [],l,h=>by simp only[fN] at h;subst h;rfl
 | t::ts,l,h=>by
  simp only[fN] at h
  obtain⟨d,l',rfl,h1,h2⟩:=h
  simp[lC h2]
theorem tM:∀ {ts:List Ty} {l:List D} {i:Nat} {t:Ty} {z:D},fN ts l->ts[i]?=some t->wt t z->fN ts (l.set i z)
 | [],_,_,_,_,_,h,_=>by simp at h
 | u::ts,l,i,t,z,h,hi,hz=>by
  simp only[fN] at h
  obtain⟨d,l',rfl,h1,h2⟩:=h
  cases i with
  | zero=>simp at hi;subst hi;simp only[List.set_cons_zero,fN];exact⟨z,l',rfl,hz,h2⟩
  | succ i=>simp at hi;simp only[List.set_cons_succ,fN];exact⟨d,_,rfl,h1,tM h2 hi hz⟩
theorem mB:∀ {ts:List Ty} {l:List D} (i:Nat),fN ts l->fN (ts.take i) (l.take i)
 | ts,l,0,_=>by simp[fN]
 | [],l,i+1,h=>by simp only[fN] at h;subst h;simp[fN]
 | t::ts,l,i+1,h=>by
  simp only[fN] at h
  obtain⟨d,l',rfl,h1,h2⟩:=h
  simp only[List.take_succ_cons,fN]
  exact⟨d,_,rfl,h1,mB i h2⟩
theorem bT:∀ {ts:List Ty} {i:Nat} {t:Ty},aT ts=true->ts[i]?=some t->af t=true
 | [],_,_,_,h=>by simp at h
 | u::ts,i,t,h,hi=>by
  simp only[aT,Bool.and_eq_true] at h
  cases i with
  | zero=>simp at hi;subst hi;exact h.1
  | succ i=>simp at hi;exact bT h.2 hi
theorem g7:∀ {ts:List Ty} (i:Nat),aT ts=true->aT (ts.take i)=true
 | ts,0,_=>by simp[aT]
 | [],i+1,_=>by simp[aT]
 | u::ts,i+1,h=>by
  simp only[aT,Bool.and_eq_true] at h
  simp only[List.take_succ_cons,aT,Bool.and_eq_true]
  exact⟨h.1,g7 i h.2⟩
theorem cQ:∀ (p:List Nat) {t u:Ty},af t=true->aA t p=some u->af u=true
 | [],t,u,h,hp=>by cases t<;>simp only[aA,Option.some.injEq] at hp<;>subst hp<;>exact h
 | i::p,t,u,h,hp=>by
  cases t<;>simp only[aA] at hp
  case st ts=>
   cases hi:ts[i]? with
   | none=>rw[hi] at hp;cases hp
   | some v=>rw[hi] at hp;exact cQ p (bT (by simpa [af] using h) hi) hp
  case arr n v=>exact cQ p (by simpa [af] using h) hp
  all_goals cases hp
theorem gN:∀ (p:List Nat) {t u:Ty} {x y:D},wt t x->af t=true->aA t p=some u->x.get p=some y ->
  wt u y/\∃ a b,x.flat=a++(y.flat++b)/\a.length=aD t p
 | [],t,u,x,y,h,hn,hp,hg=>by
  have hp':t=u:=by cases t<;>simpa [aA] using hp
  simp only[D.get,Option.some.injEq] at hg
  subst hp';subst hg
  exact⟨h,[],[],by simp,by cases t<;>rfl⟩
 | i::p,t,u,x,y,h,hn,hp,hg=>by
  simp only[D.get] at hg
  cases hf:x.fld i with
  | none=>rw[hf] at hg;cases hg
  | some z=>
   rw[hf] at hg
   have hg':z.get p=some y:=hg
   cases t<;>simp only[aA] at hp
   case st ts=>
    cases hi:ts[i]? with
    | none=>rw[hi] at hp;cases hp
    | some v=>
     rw[hi] at hp
     have hp':aA v p=some u:=hp
     simp only[wt] at h
     obtain⟨l,rfl,hl⟩:=h
     simp only[D.fld] at hf
     obtain⟨z',hz,hv⟩:=jt hl hi
     rw[hf] at hz;cases hz
     simp only[af] at hn
     obtain⟨h1,a,b,h2,h3⟩:=gN p hv (bT hn hi) hp' hg'
     refine⟨h1,D.flats (l.take i)++a,b++D.flats (l.drop (i+1)),?_,?_⟩
     ·simp only[D.flat]
      rw[bG hf,h2]
      simp[List.append_assoc]
     ·simp only[aD,List.length_append,h3]
      rw[mS _ _ (mB i hl) (g7 i hn)]
      simp[List.getD,hi]
   case arr n v=>
    simp only[wt] at h
    obtain⟨l,rfl,hl,hv⟩:=h
    simp only[D.fld] at hf
    simp only[af] at hn
    obtain⟨h1,a,b,h2,h3⟩:=gN p (hv z (List.mem_of_getElem? hf)) hn hp hg'
    refine⟨h1,D.flats (l.take i)++a,b++D.flats (l.drop (i+1)),?_,?_⟩
    ·simp only[D.flat]
     rw[bG hf,h2]
     simp[List.append_assoc]
    ·simp only[aD,List.length_append,h3]
     rw[ap hn _ (fun x hx=>hv x (List.mem_of_mem_take hx))]
     have:=(List.getElem?_eq_some_iff.1 hf).1
     simp[Nat.min_eq_left (Nat.le_of_lt this)]
   all_goals cases hp
theorem lY:∀ (p:List Nat) {t u:Ty} {x y x':D},wt t x->af t=true->aA t p=some u->x.set p y=some x'->wt u y ->
  wt t x'/\∃ a c b,x.flat=a++(c++b)/\x'.flat=a++(y.flat++b)/\a.length=aD t p/\c.length=u.size
 | [],t,u,x,y,x',h,hn,hp,hg,hy=>by
  have hp':t=u:=by cases t<;>simpa [aA] using hp
  simp only[D.set,Option.some.injEq] at hg
  subst hp';subst hg
  exact⟨hy,[],x.flat,[],by simp,by simp,by cases t<;>rfl,bo _ _ h hn⟩
 | i::p,t,u,x,y,x',h,hn,hp,hg,hy=>by
  cases t<;>simp only[aA] at hp
  case st ts=>
   cases hi:ts[i]? with
   | none=>rw[hi] at hp;cases hp
   | some v=>
    rw[hi] at hp
    have hp':aA v p=some u:=hp
    simp only[wt] at h
    obtain⟨l,rfl,hl⟩:=h
    simp only[D.set] at hg
    obtain⟨z,hz,hv⟩:=jt hl hi
    rw[hz] at hg
    cases hs:D.set z p y with
    | none=>rw[show((some z).bind fun z=>(D.set z p y).bind fun z'=>some (D.st (l.set i z')))=(D.set z p y).bind fun z'=>some (D.st (l.set i z')) from rfl,hs] at hg;cases hg
    | some z'=>
     rw[show((some z).bind fun z=>(D.set z p y).bind fun z'=>some (D.st (l.set i z')))=(D.set z p y).bind fun z'=>some (D.st (l.set i z')) from rfl,hs] at hg
     simp only[Option.bind_some,Option.some.injEq] at hg
     subst hg
     simp only[af] at hn
     obtain⟨h1,a,c,b,h2,h3,h4,h5⟩:=lY p hv (bT hn hi) hp' hs hy
     refine⟨by simp only[wt];exact⟨_,rfl,tM hl hi h1⟩,D.flats (l.take i)++a,c,b++D.flats (l.drop (i+1)),?_,?_,?_,h5⟩
     ·simp only[D.flat]
      rw[bG hz,h2]
      simp[List.append_assoc]
     ·simp only[D.flat]
      rw[kh hz,h3]
      simp[List.append_assoc]
     ·simp only[aD,List.length_append,h4]
      rw[mS _ _ (mB i hl) (g7 i hn)]
      simp[List.getD,hi]
  case arr n v=>
   simp only[wt] at h
   obtain⟨l,rfl,hl,hv⟩:=h
   simp only[D.set] at hg
   cases hz:l[i]? with
   | none=>rw[hz] at hg;cases hg
   | some z=>
    rw[hz] at hg
    cases hs:D.set z p y with
    | none=>rw[show((some z).bind fun z=>(D.set z p y).bind fun z'=>some (D.st (l.set i z')))=(D.set z p y).bind fun z'=>some (D.st (l.set i z')) from rfl,hs] at hg;cases hg
    | some z'=>
     rw[show((some z).bind fun z=>(D.set z p y).bind fun z'=>some (D.st (l.set i z')))=(D.set z p y).bind fun z'=>some (D.st (l.set i z')) from rfl,hs] at hg
     simp only[Option.bind_some,Option.some.injEq] at hg
     subst hg
     simp only[af] at hn
     obtain⟨h1,a,c,b,h2,h3,h4,h5⟩:=lY p (hv z (List.mem_of_getElem? hz)) hn hp hs hy
     refine⟨?_,D.flats (l.take i)++a,c,b++D.flats (l.drop (i+1)),?_,?_,?_,h5⟩
     ·simp only[wt]
      refine⟨_,rfl,by simpa using hl,fun x hx=>?_⟩
      rcases List.mem_or_eq_of_mem_set hx with h|h
      ·exact hv x h
      ·rw[h];exact h1
     ·simp only[D.flat]
      rw[bG hz,h2]
      simp[List.append_assoc]
     ·simp only[D.flat]
      rw[kh hz,h3]
      simp[List.append_assoc]
     ·simp only[aD,List.length_append,h4]
      rw[ap hn _ (fun x hx=>hv x (List.mem_of_mem_take hx))]
      have:=(List.getElem?_eq_some_iff.1 hz).1
      simp[Nat.min_eq_left (Nat.le_of_lt this)]
  all_goals cases hp
inductive CR(w:World)(S:Nat->Nat->Prop):D->Value->Prop
 | int (k:IntKind) (n:Int):CR w S (.int k n) (.int k n)
 | bool (b:Bool):CR w S (.bool b) (.bool b)
 | str (s:ByteArray):CR w S (.str s) (.string s)
 | sl (l:List D) (a:Option Addr) (cap b off:Nat) (c:Nat->Value) (ha:l=[]\/a=some ⟨b,off,none⟩) (hc:l.length<=cap)
   (h1:∀ i d,(D.flats l)[i]?=some d->S b (off+i)/\w.cell? ⟨b,off+i,none⟩=some (c i))
   (h2:∀ i d,(D.flats l)[i]?=some d->CR w S d (c i)):CR w S (.sl l) (.slice a l.length cap)
theorem CR.mono{w w':World}{S S':Nat->Nat->Prop}(hw:∀ b o,S b o->w'.cell? ⟨b,o,none⟩=w.cell? ⟨b,o,none⟩)(hS:∀ b o,S b o->S' b o){d:D}{v:Value}(h:CR w S d v):CR w' S' d v:=by
 induction h with
 | int k n=>exact .int k n
 | bool b=>exact .bool b
 | str s=>exact .str s
 | sl l a cap b off c ha hc h1 h2 ih=>
  exact .sl l a cap b off c ha hc (fun i d hd=>⟨hS _ _ (h1 i d hd).1,by rw[hw _ _ (h1 i d hd).1];exact(h1 i d hd).2⟩) ih
def cw(w:World)(S:Nat->Nat->Prop)(ds:List D)(cs:List Value):Prop:=ds.length=cs.length/\∀ (i:Nat) (d:D) (c:Value),ds[i]?=some d->cs[i]?=some c->CR w S d c
theorem cw.mono{w w':World}{S S':Nat->Nat->Prop}(hw:∀ b o,S b o->w'.cell? ⟨b,o,none⟩=w.cell? ⟨b,o,none⟩)(hS:∀ b o,S b o->S' b o){d:List D}{v:List Value}(h:cw w S d v):cw w' S' d v:=
 ⟨h.1,fun i d c h1 h2=>(h.2 i d c h1 h2).mono hw hS⟩
theorem cw.nil{w:World}{S:Nat->Nat->Prop}:cw w S [] []:=⟨rfl,fun i d c h=>by simp at h⟩
theorem cw.append{w:World}{S:Nat->Nat->Prop}{a b:List D}{c d:List Value}(h:cw w S a c)(k:cw w S b d):cw w S (a++b) (c++d):=by
 refine⟨by simp[h.1,k.1],fun i x y hx hy=>?_⟩
 rw[List.getElem?_append] at hx hy
 by_cases hi:i<a.length
 ·rw[if_pos hi] at hx;rw[if_pos (h.1 ▸ hi)] at hy;exact h.2 i x y hx hy
 ·rw[if_neg hi] at hx;rw[if_neg (h.1 ▸ hi)] at hy;rw[h.1] at hx;exact k.2 _ x y hx hy
theorem cw.split{w:World}{S:Nat->Nat->Prop}{a b:List D}{cs:List Value}(h:cw w S (a++b) cs):cw w S a (cs.take a.length)/\cw w S b (cs.drop a.length):=by
 obtain⟨h1,h2⟩:=h
 rw[List.length_append] at h1
 refine⟨⟨by simp;omega,fun i x y hx hy=>?_⟩,⟨by simp;omega,fun i x y hx hy=>?_⟩⟩
 ·have hi:=(List.getElem?_eq_some_iff.1 hx).1
  rw[List.getElem?_take_of_lt hi] at hy
  exact h2 i x y (by rw[List.getElem?_append_left hi];exact hx) hy
 ·rw[List.getElem?_drop] at hy
  exact h2 (a.length+i) x y (by rw[List.getElem?_append_right (by omega)];simpa using hx) hy
theorem cw.single{w:World}{S:Nat->Nat->Prop}{d:D}{v:Value}:cw w S [d] [v]↔CR w S d v:=by
 constructor
 ·intro h;exact h.2 0 d v rfl rfl
 ·intro h
  refine⟨rfl,fun i x y hx hy=>?_⟩
  cases i with
  | zero=>simp at hx hy;subst hx;subst hy;exact h
  | succ i=>simp at hx
theorem cw.single'{w:World}{S:Nat->Nat->Prop}{d:D}{cs:List Value}(h:cw w S [d] cs):∃ v,cs=[v]/\CR w S d v:=by
 match cs,h with
 | [v],h=>exact⟨v,rfl,cw.single.1 h⟩
 | [],h=>simp[cw] at h
 | _::_::_,h=>simp[cw] at h
def nT(w:World)(S:Nat->Nat->Prop)(b off:Nat)(ds:List D):Prop:=∃ cs,cw w S ds cs/\∀ (i:Nat) (c:Value),cs[i]?=some c->S b (off+i)/\w.cell? ⟨b,off+i,none⟩=some c
theorem nT.mono{w w':World}{S S':Nat->Nat->Prop}(hw:∀ b o,S b o->w'.cell? ⟨b,o,none⟩=w.cell? ⟨b,o,none⟩)(hS:∀ b o,S b o->S' b o){b off:Nat}{d:List D}(h:nT w S b off d):nT w' S' b off d:=by
 obtain⟨cs,h1,h2⟩:=h
 exact⟨cs,h1.mono hw hS,fun i c hc=>⟨hS _ _ (h2 i c hc).1,by rw[hw _ _ (h2 i c hc).1];exact(h2 i c hc).2⟩⟩
theorem nT.part{w:World}{S:Nat->Nat->Prop}{b off:Nat}{x y z:List D}(h:nT w S b off (x++(y++z))):nT w S b (off+x.length) y:=by
 obtain⟨cs,h1,h2⟩:=h
 obtain⟨_,h3⟩:=h1.split
 obtain⟨h4,_⟩:=h3.split
 refine⟨_,h4,fun i c hc=>?_⟩
 have hi:i<y.length:=by have:=(List.getElem?_eq_some_iff.1 hc).1;simp at this;omega
 rw[List.getElem?_take_of_lt hi,List.getElem?_drop] at hc
 rw[Nat.add_assoc]
 exact h2 _ _ hc
theorem CR.elems{w:World}{S:Nat->Nat->Prop}{l:List D}{v:Value}(h:CR w S (.sl l) v):∃ a cap b off,v=.slice a l.length cap/\(l=[]\/a=some ⟨b,off,none⟩)/\l.length<=cap/\nT w S b off (D.flats l):=by
 cases h with
 | sl _ a cap b off c ha hc h1 h2=>
  refine⟨a,cap,b,off,rfl,ha,hc,(List.range (D.flats l).length).map c,⟨by simp,fun i d c' hd hc'=>?_⟩,fun i c' hc'=>?_⟩
  ·have hi:=(List.getElem?_eq_some_iff.1 hd).1
   simp[hi] at hc'
   subst hc';exact h2 i d hd
  ·have hi:=(List.getElem?_eq_some_iff.1 hc').1
   simp only[List.length_map,List.length_range] at hi
   simp[hi] at hc'
   subst hc'
   exact h1 i _ (List.getElem?_eq_getElem hi)
theorem CR.of_elems{w:World}{S:Nat->Nat->Prop}{l:List D}{a:Option Addr}{cap b off:Nat}(ha:l=[]\/a=some ⟨b,off,none⟩)(hc:l.length<=cap)(h:nT w S b off (D.flats l)):CR w S (.sl l) (.slice a l.length cap):=by
 obtain⟨cs,h1,h2⟩:=h
 refine .sl l a cap b off (fun i=>cs.getD i undef) ha hc (fun i d hd=>?_) (fun i d hd=>?_)
 ·have hi:i<cs.length:=by rw[<-h1.1];exact(List.getElem?_eq_some_iff.1 hd).1
  have:=h2 i _ (List.getElem?_eq_getElem hi)
  simpa [List.getD,List.getElem?_eq_getElem hi] using this
 ·have hi:i<cs.length:=by rw[<-h1.1];exact(List.getElem?_eq_some_iff.1 hd).1
  have:=h1.2 i d _ hd (List.getElem?_eq_getElem hi)
  simpa [List.getD,List.getElem?_eq_getElem hi] using this
def H2:D->Value->Prop
 | .st _,v=>∃ cs,v=.agg cs
 | _,v=>∀ cs,v≠.agg cs
def dY(w:World)(S:Nat->Nat->Prop)(d:D)(v:Value):Prop:=H2 d v/\cw w S d.flat v.cells.toList
def DR(w:World)(S:Nat->Nat->Prop):D->Value->Prop
 | .tup l,v=>∃ vs:List Value,v=.tuple vs.toArray/\l.length=vs.length/\∀ (i:Nat) (d:D) (u:Value),l[i]?=some d->vs[i]?=some u->dY w S d u
 | d,v=>dY w S d v
theorem dY.mono{w w':World}{S S':Nat->Nat->Prop}(hw:∀ b o,S b o->w'.cell? ⟨b,o,none⟩=w.cell? ⟨b,o,none⟩)(hS:∀ b o,S b o->S' b o){d:D}{v:Value}(h:dY w S d v):dY w' S' d v:=⟨h.1,h.2.mono hw hS⟩
theorem DR.mono{w w':World}{S S':Nat->Nat->Prop}(hw:∀ b o,S b o->w'.cell? ⟨b,o,none⟩=w.cell? ⟨b,o,none⟩)(hS:∀ b o,S b o->S' b o){d:D}{v:Value}(h:DR w S d v):DR w' S' d v:=by
 cases d<;>simp only[DR] at h ⊢<;>first
  | exact h.mono hw hS
  | (obtain⟨vs,h1,h2,h3⟩:=h;exact⟨vs,h1,h2,fun i d u hd hu=>(h3 i d u hd hu).mono hw hS⟩)
theorem DR.of0{w:World}{S:Nat->Nat->Prop}{d:D}{v:Value}(h:dY w S d v):DR w S d v:=by
 cases d<;>simp only[DR]<;>first
  | exact h
  | (exfalso;obtain⟨c,e,h⟩:=cw.single' h.2;cases h)
theorem CR.int_inv{w:World}{S:Nat->Nat->Prop}{k:IntKind}{n:Int}{v:Value}(h:CR w S (.int k n) v):v=.int k n:=by cases h;rfl
theorem CR.bool_inv{w:World}{S:Nat->Nat->Prop}{n:Bool}{v:Value}(h:CR w S (.bool n) v):v=.bool n:=by cases h;rfl
theorem al{v u:Value}(hv:∀ cs,v≠.agg cs)(h:v.cells.toList=[u]):v=u:=by
 cases v<;>simp[Value.cells] at h<;>first|exact h|exact absurd rfl (hv _)
theorem dY.int_inv{w:World}{S:Nat->Nat->Prop}{k:IntKind}{n:Int}{v:Value}(h:dY w S (.int k n) v):v=.int k n:=by
 obtain⟨u,h1,h2⟩:=cw.single' (d:=.int k n) h.2
 rw[al h.1 h1];exact h2.int_inv
theorem dY.bool_inv{w:World}{S:Nat->Nat->Prop}{n:Bool}{v:Value}(h:dY w S (.bool n) v):v=.bool n:=by
 obtain⟨u,h1,h2⟩:=cw.single' (d:=.bool n) h.2
 rw[al h.1 h1];exact h2.bool_inv
theorem dY.sl_inv{w:World}{S:Nat->Nat->Prop}{l:List D}{v:Value}(h:dY w S (.sl l) v):CR w S (.sl l) v:=by
 obtain⟨u,h1,h2⟩:=cw.single' (d:=.sl l) h.2
 rw[al h.1 h1];exact h2
theorem CR.no_agg{w:World}{S:Nat->Nat->Prop}{d:D}{v:Value}(h:CR w S d v):(∀ cs,v≠.agg cs)/\(∀ vs,v≠.tuple vs)/\d.flat=[d]/\v.cells=#[v]:=by cases h<;>simp[D.flat,Value.cells]
theorem dY.of_CR{w:World}{S:Nat->Nat->Prop}{d:D}{v:Value}(h:CR w S d v):dY w S d v:=by
 obtain⟨h1,_,h3,h4⟩:=h.no_agg
 refine⟨?_,?_⟩
 ·cases h<;>simp[H2]
 ·rw[h3,h4];exact cw.single.2 h
end Go.Proofs.YtjjjkojfijpeeaaGreat.Sy
end
section
namespace Go.Proofs.YtjjjkojfijpeeaaGreat.Sy
open Go
structure Cx where
 w:World
 S:Nat->Nat->Prop
 γ:Nat->Option Nat
 β:Nat->Option (Nat×Nat)
 ob:Nat->Option Ob
 dead:List Nat
def nc(w:World)(b:Nat):Option Nat:=(bk w b).map (·.size)
def ce:Ob->List Nat->Nat
 | .one t _,p=>aD t p
 | .many t _,i::p=>i*t.size+aD t p
 | .many ..,[]=>0
 | .mp ..,_=>0
def Ms(c:Cx)(t:Ty)(v:Nat)(l:List D)(a:Option Addr)(cap:Nat):Prop:=
 v ∉ c.dead->(a=none/\cap=0)\/∃ b off,a=some ⟨b,off,none⟩/\c.β v=some (b,off+l.length*t.size)/\∃ n,nc c.w b=some n/\off+cap*t.size<=n
mutual
def AC(c:Cx):AV->List Value->Prop
 | .d t x,cs=>wt t x/\af t=true/\cw c.w c.S x.flat cs
 | .own t v l,cs=>af t=true/\(∀ x∈l,wt t x)/\∃ a cap,cs=[.slice a l.length cap]/\CR c.w c.S (.sl l) (.slice a l.length cap)/\Ms c t v l a cap
 | .nils,cs=>cs=[.slice none 0 0]
 | .ptr t id p,cs=>∃ b off,cs=[.pointer (some ⟨b,off,none⟩)]/\c.γ id=some b/\∀ o,c.ob id=some o->eS o p=some t/\off=ce o p
 | .fptr t x,cs=>wt t x/\af t=true/\∃ b off,cs=[.pointer (some ⟨b,off,none⟩)]/\nT c.w c.S b off x.flat
 | .mem t id,cs=>af t=true/\∃ b,c.γ id=some b/\∀ o,c.ob id=some o->∃ l,o=.many t l/\cs=[.slice (some ⟨b,0,none⟩) l.length l.length]
 | .st ts l,cs=>aT ts=true/\AV.fitss ts l=true/\kQ c l cs
 | .clo f l,cs=>∃ caps:List Value,cs=[.func (.func f) #[] caps.toArray]/\ra c l caps
 | .map kt vt id,cs=>∃ b,cs=[.map (some b)]/\c.γ id=some b/\af kt=true/\af vt=true/\∀ o,c.ob id=some o->∃ l,o=.mp kt vt l
 | .sub sl t id p lo n,cs=>af t=true/\∃ b off cap,cs=[if sl then .slice (some ⟨b,off,none⟩) n cap else .pointer (some ⟨b,off,none⟩)]/\c.γ id=some b/\∀ o,c.ob id=some o->∃ m,eS o p=some (.arr m t)/\lo+n<=m/\off=ce o p+lo*t.size
 | .gone,_=>True
 | .undef,_=>True
def kQ(c:Cx):List AV->List Value->Prop
 | [],cs=>cs=[]
 | a::l,cs=>∃ c1 c2,cs=c1++c2/\AC c a c1/\kQ c l c2
def ra(c:Cx):List AV->List Value->Prop
 | [],cs=>cs=[]
 | a::l,cs=>∃ v c2,cs=v::c2/\AC c a [v]/\ra c l c2
end
def AR(c:Cx):AV->Value->Prop
 | .gone,v=>v=undef
 | .d t x,v=>(af t=true/\wt t x/\dY c.w c.S x v)\/∃ ts,t=.tup ts/\aT ts=true/\wt t x/\DR c.w c.S x v
 | .undef,_=>True
 | .st ts l,v=>(∃ cs,v=.agg cs)/\AC c (.st ts l) v.cells.toList
 | a,v=>(∀ cs,v≠.agg cs)/\AC c a v.cells.toList
structure Cx.le(c c':Cx):Prop where
 cell:∀ b o,c.S b o->c'.w.cell? ⟨b,o,none⟩=c.w.cell? ⟨b,o,none⟩
 S:∀ b o,c.S b o->c'.S b o
 γ:∀ id b,c.γ id=some b->c'.γ id=some b
 ob:∀ id o,c'.ob id=some o->(∃ b,c.γ id=some b)->∃ o',c.ob id=some o'/\(∀ p,eS o p=eS o' p/\ce o p=ce o' p)/\(∀ t l,o'=.many t l->∃ l',o=.many t l'/\l'.length=l.length)/\(∀ kt vt l,o'=.mp kt vt l->∃ l',o=.mp kt vt l')
 β:∀ v,v ∉ c'.dead->v ∉ c.dead/\∀ b e,c.β v=some (b,e)->c'.β v=some (b,e)/\∀ n,nc c.w b=some n->nc c'.w b=some n
mutual
theorem AC.mono{c c':Cx}(h:c.le c'):∀ (a:AV) (cs:List Value),AC c a cs->AC c' a cs
 | .d t x,cs,k=>by simp only[AC] at k ⊢;exact⟨k.1,k.2.1,k.2.2.mono h.cell h.S⟩
 | .own t v l,cs,k=>by
  simp only[AC] at k ⊢
  obtain⟨k0,k1,a,cap,rfl,k2,k3⟩:=k
  refine⟨k0,k1,a,cap,rfl,k2.mono h.cell h.S,fun hd=>?_⟩
  obtain⟨h1,h2⟩:=h.β v hd
  rcases k3 h1 with h3|⟨b,off,h3,h4,n,h5,h6⟩
  ·exact .inl h3
  ·exact .inr ⟨b,off,h3,(h2 _ _ h4).1,n,(h2 _ _ h4).2 n h5,h6⟩
 | .nils,cs,k=>by simpa only[AC] using k
 | .ptr t id p,cs,k=>by
  simp only[AC] at k ⊢
  obtain⟨b,off,rfl,k1,k2⟩:=k
  refine⟨b,off,rfl,h.γ _ _ k1,fun o ho=>?_⟩
  obtain⟨o',h1,h2,_⟩:=h.ob id o ho ⟨b,k1⟩
  rw[(h2 p).1,(h2 p).2];exact k2 o' h1
 | .fptr t x,cs,k=>by
  simp only[AC] at k ⊢
  obtain⟨k1,k0,b,off,rfl,k2⟩:=k
  exact⟨k1,k0,b,off,rfl,k2.mono h.cell h.S⟩
 | .mem t id,cs,k=>by
  simp only[AC] at k ⊢
  obtain⟨k0,b,k1,k2⟩:=k
  refine⟨k0,b,h.γ _ _ k1,fun o ho=>?_⟩
  obtain⟨o',h1,_,h3,_⟩:=h.ob id o ho ⟨b,k1⟩
  obtain⟨l,rfl,h4⟩:=k2 o' h1
  obtain⟨l',rfl,h5⟩:=h3 _ _ rfl
  exact⟨l',rfl,by rw[h5];exact h4⟩
 | .st ts l,cs,k=>by
  simp only[AC] at k ⊢
  exact⟨k.1,k.2.1,kQ.mono h l cs k.2.2⟩
 | .clo f l,cs,k=>by
  simp only[AC] at k ⊢
  obtain⟨caps,rfl,k1⟩:=k
  exact⟨caps,rfl,ra.mono h l caps k1⟩
 | .map kt vt id,cs,k=>by
  simp only[AC] at k ⊢
  obtain⟨b,e,k1,k2,k3,k4⟩:=k
  refine⟨b,e,h.γ _ _ k1,k2,k3,fun o ho=>?_⟩
  obtain⟨o',h1,_,_,h3⟩:=h.ob id o ho ⟨b,k1⟩
  obtain⟨l,rfl⟩:=k4 o' h1
  exact h3 kt vt l rfl
 | .sub sl t id p lo n,cs,k=>by
  simp only[AC] at k ⊢
  obtain⟨k0,b,off,cap,rfl,k1,k2⟩:=k
  refine⟨k0,b,off,cap,rfl,h.γ _ _ k1,fun o ho=>?_⟩
  obtain⟨o',h1,h2,_⟩:=h.ob id o ho ⟨b,k1⟩
  obtain⟨m,q1,q2,q3⟩:=k2 o' h1
  exact⟨m,by rw[(h2 p).1];exact q1,q2,by rw[(h2 p).2];exact q3⟩
 | .gone,cs,k=>by simp[AC]
 | .undef,cs,k=>by simp[AC]
theorem kQ.mono{c c':Cx}(h:c.le c'):∀ (l:List AV) (cs:List Value),kQ c l cs->kQ c' l cs
 | [],cs,k=>by simpa only[kQ] using k
 | a::l,cs,k=>by
  simp only[kQ] at k ⊢
  obtain⟨c1,c2,rfl,k1,k2⟩:=k
  exact⟨c1,c2,rfl,AC.mono h a c1 k1,kQ.mono h l c2 k2⟩
theorem ra.mono{c c':Cx}(h:c.le c'):∀ (l:List AV) (cs:List Value),ra c l cs->ra c' l cs
 | [],cs,k=>by simpa only[ra] using k
 | a::l,cs,k=>by
  simp only[ra] at k ⊢
  obtain⟨c1,c2,rfl,k1,k2⟩:=k
  exact⟨c1,c2,rfl,AC.mono h a _ k1,ra.mono h l c2 k2⟩
end
theorem AR.mono{c c':Cx}(h:c.le c'){a:AV}{v:Value}(k:AR c a v):AR c' a v:=by
 cases a<;>simp only[AR] at k ⊢
 case d t x=>
  rcases k with⟨k1,k2,k3⟩|⟨ts,k1,k0,k2,k3⟩
  ·exact .inl ⟨k1,k2,k3.mono h.cell h.S⟩
  ·exact .inr ⟨ts,k1,k0,k2,k3.mono h.cell h.S⟩
 all_goals first|exact⟨k.1,AC.mono h _ _ k.2⟩|exact k
def iB(c:Cx)(kt vt:Ty):Nat->List D->List MapEntry->Prop
 | _,[],[]=>True
 | j,x::l,e::es=>(e.born=j/\∃ k v,x=.st [k,v]/\wt kt k/\wt vt v/\dY c.w c.S k e.key/\dY c.w c.S v e.val)/\iB c kt vt (j+1) l es
 | _,_,_=>False
def gT(c:Cx)(b:Nat):Ob->Prop
 | .one t v=>af t=true/\AV.fits t v=true/\(∀ o,¬ c.S b o)/\∃ cs:List Value,bk c.w b=some cs.toArray/\AC c v cs/\cs.length=t.size
 | .many t l=>af t=true/\(∀ x∈l,wt t x)/\(∀ o,¬ c.S b o)/\∃ cs:List Value,bk c.w b=some cs.toArray/\cw c.w c.S (D.flats l) cs
 | .mp kt vt l=>af kt=true/\af vt=true/\(∀ o,¬ c.S b o)/\∃ es:Array MapEntry,c.w.heap[b]?=some (.map es l.length)/\iB c kt vt 0 l es.toList
structure Root where
 w:World
 S0:Nat->Nat->Prop
 sh:Nat->Prop
abbrev Root.heap(r:Root):Array Obj:=r.w.heap
def Root.Old(r:Root)(b:Nat):Prop:=b<r.heap.size/\¬ r.sh b
structure cY(r:Root)(w:World):Prop where
 tape:w.tape=r.w.tape
 os:w.os=r.w.os
 output:w.output=r.w.output
 sz:r.heap.size<=w.heap.size
 dr:r.w.drawn<=w.drawn
 old:∀ b,r.Old b->w.heap[b]?=r.w.heap[b]?
structure Rp(w0:Root)(S:Nat->Nat->Prop)(γ:Nat->Option Nat)(β:Nat->Option (Nat×Nat))(s:St)(a:Act)(w:World):Prop where
 ext:cY w0 w
 tms:∀ t,t<a.tmps.size->AR ⟨w,S,γ,β,s.ob,s.dead⟩ (s.tm t) (a.tmps.getD t undef)
 nt:a.tmps.size=s.nt
 tmu:∀ t,s.nt<=t->s.tm t=.undef
 obs:∀ id o b,s.ob id=some o->γ id=some b->gT ⟨w,S,γ,β,s.ob,s.dead⟩ b o
 γn:∀ id b,γ id=some b->¬ w0.Old b/\b<w.heap.size
 γi:∀ id id' b,γ id=some b->γ id'=some b->id=id'
 γf:∀ id,s.base+4096<=id->γ id=none
 βn:∀ v b e,v ∉ s.dead->β v=some (b,e)->¬ w0.Old b/\b<w.heap.size/\∀ o,e<=o->¬ S b o
 βi:∀ v v' b e e',v ∉ s.dead->v' ∉ s.dead->β v=some (b,e)->β v'=some (b,e')->v=v'
 βγ:∀ v id b e,v ∉ s.dead->β v=some (b,e)->γ id≠some b
 βf:∀ v,s.base+4096<=v->β v=none
 Sb:∀ b o,S b o->b<w.heap.size
 So:∀ b o,S b o->w0.Old b->w0.S0 b o
 df:a.defers=[]
structure Fm(s:St)(S:Nat->Nat->Prop)(γ:Nat->Option Nat)(a:Act)(w:World)(S':Nat->Nat->Prop)(γ':Nat->Option Nat)(a':Act)(w':World):Prop where
 sub:∀ b o,S b o->S' b o
 cell:∀ b o,S b o->w'.cell? ⟨b,o,none⟩=w.cell? ⟨b,o,none⟩
 slots:∀ t∈s.lkS,a'.tmps.getD t undef=a.tmps.getD t undef
 objs:∀ id∈s.lkO,∀ b,γ id=some b->γ' id=some b/\w'.heap[b]?=w.heap[b]?
 sz:w.heap.size<=w'.heap.size
 gam:∀ id b,γ id=some b->γ' id=some b
structure Sk(s s':St):Prop where
 lkS:s'.lkS=s.lkS
 lkO:s'.lkO=s.lkO
 nt:s'.nt=s.nt
theorem Sk.refl(s:St):Sk s s:=⟨rfl,rfl,rfl⟩
theorem Sk.trans{a b c:St}(h:Sk a b)(k:Sk b c):Sk a c:=⟨k.lkS.trans h.lkS,k.lkO.trans h.lkO,k.nt.trans h.nt⟩
end Go.Proofs.YtjjjkojfijpeeaaGreat.Sy
end
section
namespace Go.Proofs.YtjjjkojfijpeeaaGreat.Sy
open Go
def cd:Ty->Bool
 | .st _=>true
 | .arr _ _=>true
 | _=>false
mutual
def Ty.high:Ty->Nat
 | .st l=>Ty.highs l+1
 | .arr _ t=>t.high+1
 | .sl t=>t.high+1
 | .tup l=>Ty.highs l+1
 | _=>1
def Ty.highs:List Ty->Nat
 | []=>0
 | t::l=>max t.high (Ty.highs l)
end
def xy:D->Value->Bool
 | .int k n,.int k' n'=>decide (k=k')&&decide (n=n')
 | .bool b,.bool b'=>b==b'
 | .str s,.string s'=>decide (s=s')
 | .sl l,.slice a len cap=>l.isEmpty&&a.isNone&&decide (len=0)&&decide (cap=0)
 | _,_=>false
def bL:List D->List Value->Bool
 | [],[]=>true
 | d::l,v::l'=>xy d v&&bL l l'
 | _,_=>false
def mD(P:Program)(t:TypeId)(ty:Ty):Bool:=
 match P.info? t with
 | some i=>decide (i.size=ty.size)&&decide (i.bytes<=16384)&&decide (i.size<=4096)&&(match i.zero with|some z=>bL (aC ty).flat z.cells.toList&&(match z with|.agg _=>cd ty|_=>!cd ty)|none=>false)
 | none=>false
mutual
def be(P:Program):Ty->TypeId->Bool
 | .int k,t=>mD P t (.int k)&&(match P.underlying t with|some (.int k')=>decide (k=k')|_=>false)
 | .bool,t=>mD P t .bool&&(match P.underlying t with|some .bool=>true|_=>false)
 | .str,t=>mD P t .str&&(match P.underlying t with|some .string=>true|_=>false)
 | .st ts,t=>mD P t (.st ts)&&!P.stoodInHeld t&&!P.eqGuardType P.depth t&&(match P.underlying t with|some (.struct fs)=>eQ P ts fs.toList 0|_=>false)
 | .arr n e,t=>mD P t (.arr n e)&&!P.eqGuardType P.depth t&&(match P.underlying t with|some (.array m u)=>decide (m=n)&&be P e u|_=>false)
 | .sl e,t=>mD P t (.sl e)&&(match P.underlying t with|some (.slice u)=>be P e u|_=>false)
 | _,_=>false
def eQ(P:Program):List Ty->List Field->Nat->Bool
 | [],[],_=>true
 | t :: ts, f :: fs, off => decide (f.offset = off) && decide (f.name ≠ "_") && decide (0 < t.size) && be P t f.type && eQ P ts fs (off + t.size)
 | _,_,_=>false
end
def C8(P:Program)(ptys:List Ty)(rty:Ty)(f:FuncId)(xs:List D)(y:D):Prop:=
 ∀ (w:World) (S:Nat->Nat->Prop) (vs:List Value),(∀ b o,S b o->b<w.heap.size)->fN ptys xs->vs.length=xs.length->(∀ (i:Nat) (x:D) (v:Value),xs[i]?=some x->vs[i]?=some v->dY w S x v) ->
  Calls P f vs.toArray w fun e w'=>∃ v,e=.returned v/\(∃ os d,w.drawn<=d/\w'=ao w os d)/\wt rty y/\DR w' (fun b o=>S b o\/(w.heap.size<=b/\b<w'.heap.size)) y v
def BB(P:Program)(f:FuncId)(g:Ann->(R:Type)->St->List AV->(AV->St->Option R)->Option R):Prop:=
 ∀ (ann:Ann) (R:Type) (w0:Root) (S:Nat->Nat->Prop) (γ:Nat->Option Nat) (β:Nat->Option (Nat×Nat)) (s:St) (a:Act) (w:World) (avs:List AV) (vs:List Value) (K:AV->St->Option R) (r:R),
  Rp w0 S γ β s a w->avs.length=vs.length->(∀ (i:Nat) (x:AV) (v:Value),avs[i]?=some x->vs[i]?=some v->AR ⟨w,S,γ,β,s.ob,s.dead⟩ x v)->g ann R s avs K=some r ->
  Calls P f vs.toArray w fun e w'=>∃ v y s' S' γ' β',e=.returned v/\K y s'=some r/\Rp w0 S' γ' β' s' a w'/\AR ⟨w',S',γ',β',s'.ob,s'.dead⟩ y v/\Fm s S γ a w S' γ' a w'/\Sk s s'
structure EnvOk(P:Program)(E:Env):Prop where
 lay:∀ t ty,E.L t=some ty->(∃ ts,ty=.tup ts)\/be P ty t=true
 high:∀ t ty,E.L t=some ty->ty.high<=1000
 flat:∀ t ty,E.L t=some ty->af ty=true
 sig : ∀ f ptys rty, E.sig f = some (ptys, rty) -> aT ptys = true /\ (af rty = true \/ ∃ ts, rty = .tup ts /\ aT ts = true) /\ ∃ fn, P.funcs[f]? = some fn /\ (fn.name == "runtime.NumGoroutine") = false /\ fn.body.isSome = true
 call:∀ f ptys rty xs y,E.sig f=some (ptys,rty)->E.call f xs=some y->fN ptys xs->C8 P ptys rty f xs y
 mixed:P.follows .mixedOrders=true
 lp:∀ (α β:Type) (body:α->Option (Sum α β)) (x:α) (y:β),E.lp body x=some y->∃ n,mR body n x=some y
 mapL:∀ t kt vt,E.mapL t=some (kt,vt)->aO kt=true/\∃ K V,P.underlying t=some (.map K V)/\be P kt K=true/\be P vt V=true/\kt.high<=1000
 inl : ∀ f g, E.inl f = some g -> (∃ fn, P.funcs[f]? = some fn /\ (fn.name == "runtime.NumGoroutine") = false /\ fn.body.isSome = true) /\ BB P f g
theorem eh{P:Program}{t:TypeId}{ty:Ty}(h:mD P t ty=true):∃ i z,P.info? t=some i/\i.size=ty.size/\(i.bytes<=16384/\ty.size<=4096)/\i.zero=some z/\bL (aC ty).flat z.cells.toList=true/\((∃ cs,z=.agg cs)↔cd ty=true):=by
 unfold mD at h
 split at h
 ·rename_i i hi
  simp only[Bool.and_eq_true,decide_eq_true_eq] at h
  obtain⟨⟨⟨h1,h2⟩,h2'⟩,h3⟩:=h
  split at h3
  ·rename_i z hz
   simp only[Bool.and_eq_true] at h3
   refine⟨i,z,hi,h1,⟨h2,h1 ▸ h2'⟩,hz,h3.1,?_⟩
   have h4:=h3.2
   split at h4
   ·rename_i cs;exact⟨fun _=>h4,fun _=>⟨cs,rfl⟩⟩
   ·rename_i hne
    simp only[Bool.not_eq_true'] at h4
    exact⟨fun⟨cs,hcs⟩=>absurd hcs (hne cs),fun hh=>by rw[h4] at hh;cases hh⟩
  ·cases h3
 ·cases h
theorem fI{P:Program}{t:TypeId}{ty:Ty}(h:be P ty t=true):mD P t ty=true:=by
 cases ty<;>simp only[be,Bool.and_eq_true] at h<;>first
  | exact h.1
  | exact h.1.1
  | exact h.1.1.1
  | cases h
theorem sY{P:Program}{t:TypeId}:∀ {ty:Ty},be P ty t=true->(∃ ts,ty=.tup ts)\/ty=.fn->False:=by
 intro ty h hh
 rcases hh with⟨ts,rfl⟩|rfl<;>simp[be] at h
theorem bC{P:Program}{t:TypeId}{ty:Ty}(h:be P ty t=true)(w:World):(sizeOf t).run P w=.ok ty.size w:=by
 obtain⟨i,z,h1,h2,_⟩:=eh (fI h)
 exact xM (by rw[h1];simp[h2]) w
theorem zb{P:Program}{t:TypeId}{ty:Ty}(h:be P ty t=true)(w:World):(isAgg t).run P w=.ok (cd ty) w:=by
 have key:∀ d,P.underlying t=some d->(isAgg t).run P w=.ok (match d with|.struct _|.array _ _=>true|_=>false) w:=fun d hd=>by
  unfold isAgg
  rw[Sem.run_bind,run_underlying hd w]
  cases d<;>rfl
 cases ty<;>simp only[be,Bool.and_eq_true] at h
 case int k=>obtain⟨_,h⟩:=h;split at h<;>first|(rename_i hu;rw[key _ hu];rfl)|cases h
 case bool=>obtain⟨_,h⟩:=h;split at h<;>first|(rename_i hu;rw[key _ hu];rfl)|cases h
 case str=>obtain⟨_,h⟩:=h;split at h<;>first|(rename_i hu;rw[key _ hu];rfl)|cases h
 case st ts=>obtain⟨_,h⟩:=h;split at h<;>first|(rename_i hu;rw[key _ hu];rfl)|cases h
 case arr n e=>obtain⟨_,h⟩:=h;split at h<;>first|(rename_i hu;rw[key _ hu];rfl)|cases h
 case sl e=>obtain⟨_,h⟩:=h;split at h<;>first|(rename_i hu;rw[key _ hu];rfl)|cases h
 all_goals cases h
theorem iz{P:Program}{t:TypeId}{ts:List Ty}(h:be P (.st ts) t=true):∃ fs,P.underlying t=some (.struct fs)/\eQ P ts fs.toList 0=true:=by
 simp only[be,Bool.and_eq_true] at h
 have h2:=h.2
 split at h2
 ·rename_i fs hu;exact⟨fs,hu,h2⟩
 ·cases h2
theorem dX{P:Program}{t:TypeId}{n:Nat}{e:Ty}(h:be P (.arr n e) t=true):∃ u,P.underlying t=some (.array n u)/\be P e u=true:=by
 simp only[be,Bool.and_eq_true] at h
 have h2:=h.2
 split at h2
 ·rename_i m u hu
  simp only[Bool.and_eq_true,decide_eq_true_eq] at h2
  obtain⟨rfl,h3⟩:=h2
  exact⟨u,hu,h3⟩
 ·cases h2
theorem fU{P:Program}{t:TypeId}{e:Ty}(h:be P (.sl e) t=true):∃ u,P.underlying t=some (.slice u)/\be P e u=true:=by
 simp only[be,Bool.and_eq_true] at h
 have h2:=h.2
 split at h2
 ·rename_i u hu
  exact⟨u,hu,h2⟩
 ·cases h2
theorem jg{P:Program}{t:TypeId}{k:IntKind}(h:be P (.int k) t=true):P.underlying t=some (.int k):=by
 simp only[be,Bool.and_eq_true] at h
 have h2:=h.2
 split at h2
 ·rename_i k' hu
  simp only[decide_eq_true_eq] at h2
  rw[hu,h2]
 ·cases h2
theorem oS{P:Program}:∀ {ts:List Ty} {fs:List Field} {off i:Nat} {t:Ty},eQ P ts fs off=true->ts[i]?=some t->∃ f,fs[i]?=some f/\f.offset=off+Ty.sizes (ts.take i)/\0<t.size/\be P t f.type=true
 | [],_,_,_,_,_,h=>by simp at h
 | u::ts,[],_,_,_,h,_=>by simp[eQ] at h
 | u::ts,f::fs,off,i,t,h,hi=>by
  simp only[eQ,Bool.and_eq_true,decide_eq_true_eq] at h
  obtain⟨⟨⟨⟨h1,_⟩,h2⟩,h3⟩,h4⟩:=h
  cases i with
  | zero=>simp at hi;subst hi;exact⟨f,rfl,by simp[Ty.sizes,h1],h2,h3⟩
  | succ i=>
   simp at hi
   obtain⟨g,k1,k2,k3⟩:=oS h4 hi
   exact⟨g,by simpa using k1,by rw[k2];simp[Ty.sizes,Nat.add_assoc],k3⟩
def nag(cs:List Value):Prop:=∀ v∈cs,v.oneCell'=true
theorem cw.nag{w:World}{S:Nat->Nat->Prop}{ds:List D}{cs:List Value}(h:cw w S ds cs):nag cs:=by
 intro v hv
 obtain⟨i,hi,he⟩:=List.getElem_of_mem hv
 have h1:cs[i]?=some v:=by rw[List.getElem?_eq_getElem hi,he]
 have h2:i<ds.length:=by rw[h.1];exact hi
 have h3:=h.2 i _ v (List.getElem?_eq_getElem h2) h1
 revert h3
 generalize ds[i]=d
 intro h3
 cases h3<;>rfl
theorem xx{a b:List Value}(h:nag a)(k:nag b):nag (a++b):=fun v hv=>by
 rcases List.mem_append.1 hv with h1|h1
 ·exact h v h1
 ·exact k v h1
mutual
theorem ga{c:Cx}:∀ (a:AV) (t:Ty) (cs:List Value),AV.fits t a=true->AC c a cs->cs.length=t.size/\nag cs
 | .d t' x,t,cs,hf,h=>by
  have hf':t.beq t'=true:=by cases t<;>simpa only[AV.fits] using hf
  rw[Ty.eq_of_beq _ _ hf']
  simp only[AC] at h
  exact⟨by rw[<-h.2.2.1];exact bo _ _ h.1 h.2.1,h.2.2.nag⟩
 | .own t' v l,t,cs,hf,h=>by
  cases t<;>simp only[AV.fits] at hf<;>first|cases hf|skip
  simp only[AC] at h
  obtain⟨_,_,a,cap,rfl,_⟩:=h
  exact⟨rfl,fun v hv=>by simp at hv;subst hv;rfl⟩
 | .nils,t,cs,hf,h=>by
  cases t<;>simp only[AV.fits] at hf<;>first|cases hf|skip
  simp only[AC] at h
  subst h
  exact⟨rfl,fun v hv=>by simp at hv;subst hv;rfl⟩
 | .st ts' l,t,cs,hf,h=>by
  cases t<;>simp only[AV.fits] at hf<;>first|cases hf|skip
  rename_i ts
  simp only[Bool.and_eq_true] at hf
  simp only[AC] at h
  simp only[Ty.size]
  exact zG l ts cs hf.2 h.2.2
 | .ptr ..,t,cs,hf,_=>by cases t<;>simp[AV.fits] at hf
 | .fptr ..,t,cs,hf,_=>by cases t<;>simp[AV.fits] at hf
 | .mem ..,t,cs,hf,_=>by cases t<;>simp[AV.fits] at hf
 | .clo ..,t,cs,hf,_=>by cases t<;>simp[AV.fits] at hf
 | .map ..,t,cs,hf,_=>by cases t<;>simp[AV.fits] at hf
 | .sub ..,t,cs,hf,_=>by cases t<;>simp[AV.fits] at hf
 | .gone,t,cs,hf,_=>by cases t<;>simp[AV.fits] at hf
 | .undef,t,cs,hf,_=>by cases t<;>simp[AV.fits] at hf
theorem zG{c:Cx}:∀ (l:List AV) (ts:List Ty) (cs:List Value),AV.fitss ts l=true->kQ c l cs->cs.length=Ty.sizes ts/\nag cs
 | [],ts,cs,hf,h=>by
  cases ts<;>simp only[AV.fitss] at hf<;>first|cases hf|skip
  simp only[kQ] at h
  subst h
  exact⟨rfl,fun v hv=>by simp at hv⟩
 | a::l,ts,cs,hf,h=>by
  cases ts<;>simp only[AV.fitss] at hf<;>first|cases hf|skip
  simp only[Bool.and_eq_true] at hf
  simp only[kQ] at h
  obtain⟨c1,c2,rfl,h1,h2⟩:=h
  obtain⟨k1,k2⟩:=ga a _ c1 hf.1 h1
  obtain⟨k3,k4⟩:=zG l _ c2 hf.2 h2
  exact⟨by simp[Ty.sizes,k1,k3],xx k2 k4⟩
end
def eG(t:Ty)(cs:List Value)(v:Value):Prop:=v.cells.toList=cs/\(cd t=true->∃ xs,v=.agg xs)/\(cd t=false->∀ xs,v≠.agg xs)
mutual
theorem au{P:Program}:∀ (ty:Ty) (t:TypeId),be P ty t=true->af ty=true
 | .int _,_,_=>rfl
 | .bool,_,_=>rfl
 | .str,_,_=>rfl
 | .st ts,t,h=>by obtain⟨fs,_,h2⟩:=iz h;simp only[af];exact ov ts _ _ h2
 | .arr n e,t,h=>by obtain⟨u,_,h2⟩:=dX h;simp only[af];exact au e u h2
 | .sl e,t,h=>by obtain⟨u,_,h2⟩:=fU h;simp only[af];exact au e u h2
 | .tup _,t,h=>by simp[be] at h
 | .fn,t,h=>by simp[be] at h
theorem ov{P:Program}:∀ (ts:List Ty) (fs:List Field) (off:Nat),eQ P ts fs off=true->aT ts=true
 | [],_,_,_=>rfl
 | t::ts,[],_,h=>by simp[eQ] at h
 | t::ts,f::fs,off,h=>by
  simp only[eQ,Bool.and_eq_true] at h
  simp only[aT,Bool.and_eq_true]
  exact⟨au t _ h.1.2,ov ts fs _ h.2⟩
end
theorem kY{t:Ty}{x:D}{v:Value}(h:wt t x)(hn:af t=true)(hs:H2 x v):(cd t=true->∃ xs,v=.agg xs)/\(cd t=false->∀ xs,v≠.agg xs):=by
 cases t<;>simp only[wt] at h
 case int k=>obtain⟨n,rfl⟩:=h;exact⟨fun h=>by simp[cd] at h,fun _=>hs⟩
 case bool=>obtain⟨n,rfl⟩:=h;exact⟨fun h=>by simp[cd] at h,fun _=>hs⟩
 case str=>obtain⟨n,rfl⟩:=h;exact⟨fun h=>by simp[cd] at h,fun _=>hs⟩
 case st ts=>obtain⟨n,rfl,_⟩:=h;exact⟨fun _=>hs,fun h=>by simp[cd] at h⟩
 case arr m ts=>obtain⟨n,rfl,_⟩:=h;exact⟨fun _=>hs,fun h=>by simp[cd] at h⟩
 case sl ts=>obtain⟨n,rfl,_⟩:=h;exact⟨fun h=>by simp[cd] at h,fun _=>hs⟩
 case tup ts=>simp[af] at hn
theorem pM{t:Ty}{x:D}{v:Value}(h:wt t x)(hn:af t=true)(hs:(cd t=true->∃ xs,v=.agg xs)/\(cd t=false->∀ xs,v≠.agg xs)):H2 x v:=by
 cases t<;>simp only[wt] at h
 case int k=>obtain⟨n,rfl⟩:=h;exact hs.2 rfl
 case bool=>obtain⟨n,rfl⟩:=h;exact hs.2 rfl
 case str=>obtain⟨n,rfl⟩:=h;exact hs.2 rfl
 case st ts=>obtain⟨n,rfl,_⟩:=h;exact hs.1 rfl
 case arr m ts=>obtain⟨n,rfl,_⟩:=h;exact hs.1 rfl
 case sl ts=>obtain⟨n,rfl,_⟩:=h;exact hs.2 rfl
 case tup ts=>simp[af] at hn
theorem uW{c:Cx}{t:Ty}{a:AV}{v:Value}(hf:AV.fits t a=true)(hn:af t=true)(h:AR c a v):AC c a v.cells.toList/\eG t v.cells.toList v:=by
 cases a
 case d t' x=>
  have hf':t.beq t'=true:=by cases t<;>simpa only[AV.fits] using hf
  have he:=Ty.eq_of_beq _ _ hf'
  subst he
  simp only[AR] at h
  rcases h with⟨h1,h2,h3⟩|⟨ts,rfl,_⟩
  ·refine⟨by simp only[AC];exact⟨h2,h1,h3.2⟩,rfl,kY h2 h1 h3.1⟩
  ·simp[af] at hn
 case own t' v' l=>
  cases t<;>simp only[AV.fits] at hf<;>first|cases hf|skip
  simp only[AR] at h
  exact⟨h.2,rfl,by simp[cd],fun _=>h.1⟩
 case nils=>
  cases t<;>simp only[AV.fits] at hf<;>first|cases hf|skip
  simp only[AR] at h
  exact⟨h.2,rfl,by simp[cd],fun _=>h.1⟩
 case st ts l=>
  cases t<;>simp only[AV.fits] at hf<;>first|cases hf|skip
  simp only[AR] at h
  exact⟨h.2,rfl,fun _=>h.1,by simp[cd]⟩
 all_goals (cases t<;>simp[AV.fits] at hf)
theorem rW{c:Cx}{t:Ty}{a:AV}{v:Value}{cs:List Value}(hf:AV.fits t a=true)(h:AC c a cs)(hv:eG t cs v):AR c a v:=by
 obtain⟨hv1,hv2⟩:=hv
 cases a
 case d t' x=>
  have hf':t.beq t'=true:=by cases t<;>simpa only[AV.fits] using hf
  have he:=Ty.eq_of_beq _ _ hf'
  subst he
  simp only[AC] at h
  simp only[AR]
  exact .inl ⟨h.2.1,h.1,pM h.1 h.2.1 hv2,by rw[hv1];exact h.2.2⟩
 case own t' v' l=>
  cases t<;>simp only[AV.fits] at hf<;>first|cases hf|skip
  simp only[AR]
  exact⟨hv2.2 rfl,by rw[hv1];exact h⟩
 case nils=>
  cases t<;>simp only[AV.fits] at hf<;>first|cases hf|skip
  simp only[AR]
  exact⟨hv2.2 rfl,by rw[hv1];exact h⟩
 case st ts l=>
  cases t<;>simp only[AV.fits] at hf<;>first|cases hf|skip
  simp only[AR]
  exact⟨hv2.1 rfl,by rw[hv1];exact h⟩
 all_goals (cases t<;>simp[AV.fits] at hf)
theorem dp{P:Program}{t:Ty}{T:TypeId}(hl:be P t T=true){w:World}{b off:Nat}{cs:List Value}(hlen:cs.length=t.size)(hn:nag cs)
  (hc:∀ (i:Nat) (c:Value),cs[i]?=some c->w.cell? ⟨b,off+i,none⟩=some c):∃ v,(Instr.loadAt T (.pointer (some ⟨b,off,none⟩))).run P w=.ok v w/\eG t cs v:=by
 unfold Instr.loadAt Instr.sureAddr
 simp only[pure_bind]
 unfold loadVar
 rw[Sem.run_bind,zb hl,Result.andThen_ok]
 cases ha:cd t
 ·have h1:cs.length=1:=by
   rw[hlen]
   cases t<;>simp[cd] at ha<;>first|rfl|(exfalso;exact sY hl (.inl ⟨_,rfl⟩))
  match cs,h1 with
  | [c],_=>
   refine⟨c,?_,?_⟩
   ·have:=hc 0 c rfl
    simp only[Nat.add_zero] at this
    simp[this]
   ·have h2:=hn c (by simp)
    refine⟨?_,?_,?_⟩
    ·cases c<;>simp_all [Value.cells,Value.oneCell']
    ·rw[ha];intro h;cases h
    ·intro _ xs h;subst h;simp[Value.oneCell'] at h2
 ·have h2:=run_loadCells_list (P:=P) w ⟨b,off,none⟩ cs (fun j v hv=>by rw[bN];exact hc j v hv)
  rw[hlen] at h2
  refine⟨.agg cs.toArray,?_,rfl,fun _=>⟨_,rfl⟩,by rw[ha];intro h;cases h⟩
  simp only[if_true,Sem.run_bind,bC hl,Result.andThen_ok,h2,Sem.run_pure]
theorem jb{P:Program}{t:Ty}{T:TypeId}(hl:be P t T=true){w:World}{b off:Nat}{c:Array Value}{v:Value}{cs:List Value}(hr:bk w b=some c)(hv:eG t cs v)(hlen:cs.length=t.size)(hn:nag cs)(hb:off+cs.length<=c.size) :
  (Instr.storeAt T (.pointer (some ⟨b,off,none⟩)) v).run P w=.ok () (aX w b off cs.toArray):=by
 unfold Instr.storeAt Instr.sureAddr
 simp only[pure_bind]
 unfold storeVar
 have h1:v.cells.size=t.size:=by rw[<-Array.length_toList,hv.1,hlen]
 have h2:=bY (P:=P) b off cs 0 w c hr (by omega) (by
  rw[List.all_eq_true];intro x hx;have:=hn x hx;cases x<;>simp_all [Value.oneCell',pj])
 simp only[Nat.add_zero] at h2
 simp only[Sem.run_bind,bC hl,Result.andThen_ok,h1,ne_eq,not_true_eq_false,if_false,hv.1,h2]
end Go.Proofs.YtjjjkojfijpeeaaGreat.Sy
end
section
namespace Go.Proofs.YtjjjkojfijpeeaaGreat.Sy
open Go
section
variable{H:Type}{enc:TypeId×Value->H}{P:Program}{W:World}{base:Nat}{spare:Nat->Bool}{held:Bool}
def pP(W:World)(b o:Nat):Prop:=(W.cell? ⟨b,o,none⟩).isSome=true
theorem valid_lt{b o:Nat}(h:pP W b o):b<W.heap.size:=by
 unfold pP World.cell? at h
 rcases Nat.lt_or_ge b W.heap.size with k|k
 ·exact k
 ·simp only[Array.getElem?_eq_none k] at h;cases h
mutual
def pZ:Ty->Bool
 | .st ts=>tA ts
 | .arr _ t=>pZ t
 | .sl t=>decide (0<t.size)&&pZ t
 | .tup _=>false
 | .fn=>false
 | _=>true
def tA:List Ty->Bool
 | []=>true
 | t::ts=>pZ t&&tA ts
end
theorem iM{T:TypeId}{ty:Ty}(h:be P ty T=true):P.cellsOf T=ty.size:=by
 obtain⟨i,z,h1,h2,_⟩:=eh (fI h)
 simp[Program.cellsOf,h1,h2]
theorem cw.one'{S:Nat->Nat->Prop}{d:D}{c:Value}(h:CR W S d c):cw W S [d] [c]:=⟨rfl,fun i d' c' hd hc=>by
 cases i with
 | zero=>simp at hd hc;subst hd;subst hc;exact h
 | succ i=>simp at hd⟩
mutual
theorem to:∀ (ty:Ty) (T:TypeId) (fuel:Nat) (cs:List Value) (x:DataW H×List MemPlace),be P ty T=true->pZ ty=true->DataW.trod enc P W base spare held fuel T cs=some x->∃ d,wt ty d/\cw W (pP W) d.flat cs
 | .int k,T,fuel,cs,x,hl,_,h=>by
  obtain⟨n,rfl,_,_⟩:=DataW.trod_int (jg hl) h
  exact⟨.int k n,⟨n,rfl⟩,cw.one' (.int k n)⟩
 | .bool,T,fuel,cs,x,hl,_,h=>by
  have hu:P.underlying T=some .bool:=by
   simp only[be,Bool.and_eq_true] at hl
   have h2:=hl.2
   split at h2
   ·assumption
   ·cases h2
  obtain⟨b,rfl,_⟩:=DataW.trod_bool hu h
  exact⟨.bool b,⟨b,rfl⟩,cw.one' (.bool b)⟩
 | .str,T,fuel,cs,x,hl,_,h=>by
  have hu:P.underlying T=some .string:=by
   simp only[be,Bool.and_eq_true] at hl
   have h2:=hl.2
   split at h2
   ·assumption
   ·cases h2
  obtain⟨s,rfl,_,_⟩:=DataW.trod_string hu h
  exact⟨.str s,⟨s,rfl⟩,cw.one' (.str s)⟩
 | .st ts,T,fuel,cs,x,hl,hp,h=>by
  obtain⟨fs,hu,hf⟩:=iz hl
  obtain⟨xs,n,_,_,hlen,hxl,hx⟩:=DataW.trod_struct hu h
  rw[iM hl] at hlen
  obtain⟨l,h1,h2⟩:=wP ts fs.toList 0 cs n hf (by simpa only[pZ] using hp) (fun i f hi=>by
   have hi':fs[i]?=some f:=by simpa using hi
   have hlt:i<xs.length:=by rw[hxl];exact(Array.getElem?_eq_some_iff.1 hi').1
   exact⟨xs[i],(hx i f hi').trans (List.getElem?_eq_getElem hlt)⟩) (by rw[hlen];simp[Ty.size])
  refine⟨.st l,⟨l,rfl,h1⟩,?_⟩
  have:(cs.drop 0).take (Ty.sizes ts)=cs:=by
   rw[List.drop_zero,List.take_of_length_le (by rw[hlen];simp[Ty.size])]
  rw[this] at h2
  exact h2
 | .arr n e,T,fuel,cs,x,hl,hp,h=>by
  obtain⟨u,hu,hl'⟩:=dX hl
  obtain⟨xs,m,_,_,hlen,hxl,hx⟩:=DataW.trod_array hu h
  rw[iM hl] at hlen
  rw[iM hl'] at hx
  simp only[pZ] at hp
  have key:∀ k,k<=n->∃ l:List D,l.length=k/\(∀ y∈l,wt e y)/\cw W (pP W) (D.flats l) (cs.take (k*e.size)):=by
   intro k
   induction k with
   | zero=>intro _;exact⟨[],rfl,by simp,by simp[D.flats,cw.nil]⟩
   | succ k ih=>
    intro hk
    obtain⟨l,h1,h2,h3⟩:=ih (by omega)
    have hxk:=hx k (by omega)
    rw[List.getElem?_eq_getElem (show k<xs.length by omega)] at hxk
    obtain⟨d,h4,h5⟩:=to e u m _ _ hl' hp hxk
    refine⟨l++[d],by simp[h1],fun y hy=>?_,?_⟩
    ·rcases List.mem_append.1 hy with hy|hy
     ·exact h2 y hy
     ·rw[List.mem_singleton.1 hy];exact h4
    ·have e1:cs.take ((k+1)*e.size)=cs.take (k*e.size)++(cs.drop (k*e.size)).take e.size:=by
      rw[Nat.add_mul,Nat.one_mul,List.take_add]
     rw[e1,br]
     refine h3.append ?_
     simpa [D.flats] using h5
  obtain⟨l,h1,h2,h3⟩:=key n (Nat.le_refl n)
  refine⟨.st l,⟨l,rfl,h1,h2⟩,?_⟩
  rw[List.take_of_length_le (by rw[hlen];simp[Ty.size])] at h3
  exact h3
 | .sl e,T,fuel,cs,x,hl,hp,h=>by
  obtain⟨u,hu,hl'⟩:=fU hl
  simp only[pZ,Bool.and_eq_true,decide_eq_true_eq] at hp
  rcases DataW.trod_slice hu h with⟨rfl,_⟩|⟨a,len,cap,elems,rest,m,_,rfl,_,hb,hlc,_,hel,hx,_,_⟩
  ·exact⟨.sl [],⟨[],rfl,by simp⟩,cw.one' (CR.of_elems (l:=[]) (b:=0) (off:=0) (.inl rfl) (Nat.le_refl _) ⟨[],cw.nil,by simp⟩)⟩
  ·rw[iM hl'] at hx
   by_cases h0:len=0
   ·subst h0
    exact⟨.sl [],⟨[],rfl,by simp⟩,cw.one' (CR.of_elems (l:=[]) (b:=0) (off:=0) (.inl rfl) (Nat.zero_le _) ⟨[],cw.nil,by simp⟩)⟩
   ·have hsp:∃ b off,a=⟨b,off,none⟩:=by
     have:=hx 0 (by omega)
     rw[List.getElem?_eq_getElem (show 0<elems.length by omega)] at this
     obtain⟨cs',h1,_⟩:=Option.bind_eq_some_iff.1 this
     obtain⟨_,h2,h3⟩:=World.cells?_some h1
     have h4:=h3 0 hp.1
     rw[List.getElem?_eq_getElem (show 0<cs'.length by omega)] at h4
     have e0:(a.add (0*e.size)).add 0=a:=by simp[Addr.add]
     rw[e0] at h4
     obtain⟨b,off,sp⟩:=a
     cases sp with
     | none=>exact⟨b,off,rfl⟩
     | some s=>
      exfalso
      unfold World.cell? at h4
      split at h4
      ·simp at h4
      ·cases h4
    obtain⟨b,off,rfl⟩:=hsp
    have key:∀ k,k<=len->∃ (l:List D) (cs:List Value),l.length=k/\(∀ y∈l,wt e y)/\cw W (pP W) (D.flats l) cs/\∀ j c,cs[j]?=some c->W.cell? ⟨b,off+j,none⟩=some c:=by
     intro k
     induction k with
     | zero=>intro _;exact⟨[],[],rfl,by simp,cw.nil,by simp⟩
     | succ k ih=>
      intro hk
      obtain⟨l,cs,h1,h2,h3,h4⟩:=ih (by omega)
      have hxk:=hx k (by omega)
      rw[List.getElem?_eq_getElem (show k<elems.length by omega)] at hxk
      obtain⟨cs',q1,q2⟩:=Option.bind_eq_some_iff.1 hxk
      obtain⟨_,q3,q4⟩:=World.cells?_some q1
      obtain⟨d,h5,h6⟩:=to e u m _ _ hl' hp.2 q2
      have hn:af e=true:=au e u hl'
      have hcl:cs.length=k*e.size:=by rw[<-h3.1,ap hn l h2,h1]
      refine⟨l++[d],cs++cs',by simp[h1],fun y hy=>?_,?_,fun j c hc=>?_⟩
      ·rcases List.mem_append.1 hy with hy|hy
       ·exact h2 y hy
       ·rw[List.mem_singleton.1 hy];exact h5
      ·rw[br]
       refine h3.append ?_
       simpa [D.flats] using h6
      ·rcases Nat.lt_or_ge j cs.length with hj|hj
       ·rw[List.getElem?_append_left hj] at hc;exact h4 j c hc
       ·rw[List.getElem?_append_right hj] at hc
        have hlt:j-cs.length<e.size:=by
         have:=(List.getElem?_eq_some_iff.1 hc).1
         omega
        have:=q4 (j-cs.length) hlt
        rw[hc] at this
        rw[bN,bN] at this
        rw[show off+k*e.size+(j-cs.length)=off+j by omega] at this
        exact this
    obtain⟨l,cs,h1,h2,h3,h4⟩:=key len (Nat.le_refl _)
    refine⟨.sl l,⟨l,rfl,h2⟩,cw.one' ?_⟩
    rw[<-h1]
    exact CR.of_elems (b:=b) (off:=off) (.inr rfl) (by omega) ⟨cs,h3,fun i c hc=>⟨by unfold pP;rw[h4 i c hc];rfl,h4 i c hc⟩⟩
 | .tup _,_,_,_,_,hl,_,_=>by simp[be] at hl
 | .fn,_,_,_,_,hl,_,_=>by simp[be] at hl
theorem wP:∀ (ts:List Ty) (fs:List Field) (off:Nat) (cs:List Value) (n:Nat),eQ P ts fs off=true->tA ts=true ->
  (∀ (i:Nat) (f:Field),fs[i]?=some f->∃ x:DataW H×List MemPlace,DataW.trod enc P W base spare held n f.type ((cs.drop f.offset).take (P.cellsOf f.type))=some x)->off+Ty.sizes ts<=cs.length ->
  ∃ l,fN ts l/\cw W (pP W) (D.flats l) ((cs.drop off).take (Ty.sizes ts))
 | [],_,off,cs,n,_,_,_,_=>⟨[],rfl,by simp[D.flats,Ty.sizes,cw.nil]⟩
 | t::ts,[],off,cs,n,h,_,_,_=>by simp[eQ] at h
 | t::ts,f::fs,off,cs,n,h,hp,hx,hle=>by
  simp only[eQ,Bool.and_eq_true,decide_eq_true_eq] at h
  obtain⟨⟨⟨⟨h1,_⟩,h2⟩,h3⟩,h4⟩:=h
  simp only[tA,Bool.and_eq_true] at hp
  simp only[Ty.sizes] at hle ⊢
  obtain⟨x,hx0⟩:=hx 0 f rfl
  rw[iM h3,h1] at hx0
  obtain⟨d,q1,q2⟩:=to t f.type n _ _ h3 hp.1 hx0
  obtain⟨l,q3,q4⟩:=wP ts fs (off+t.size) cs n h4 hp.2 (fun i g hi=>hx (i+1) g (by simpa using hi)) (by omega)
  refine⟨d::l,⟨d,l,rfl,q1,q3⟩,?_⟩
  rw[List.take_add,List.drop_drop]
  simp only[D.flats]
  exact q2.append q4
end
end
end Go.Proofs.YtjjjkojfijpeeaaGreat.Sy
end
