/- Part 1 of the proof that SweepFoundIsAccepted answers true at every input -/
import Derived.WalkKit
import Derived.WalkSpells
import Derived.WalkLawsBesides
import Derived.Deep.QuietTactic
import Derived.BigQuiet
import Derived.Deep.Draws
import Derived.Lib.Hide
import Derived.KernelRfl
import Derived.StillTail
import Derived.Laws.StructEq
import Derived.ProofKit
import Derived.Deep.Slices
import Derived.OpenShut
import Derived.OrdersIn
import Derived.TacticsIn
import Derived.RangeFuncIn
import Derived.RangeFuncCalls
import Derived.Scope
import Derived.ChangeKeysEq
set_option linter.all false
set_option maxRecDepth 20000
namespace Go.Proofs.YtdlipdnepadhjaaGreat
noncomputable section
open Go.RowKit
theorem u0{p:Prop}(h:p:=by omega):p:=h
theorem H{p:Prop}(h:p:=by decide):p:=h
theorem j2{p:Prop}(h:p:=by simp):p:=h
theorem B{p:Prop}(h:p:=by kernel_rfl):p:=h
theorem s6{p:Prop}(h:p:=by grind):p:=h
abbrev X:=@Bool.and_eq_true
abbrev zba:=@Option.bind_some
abbrev zca:=@Option.some.injEq
abbrev zda:=@List.getElem?_eq_getElem
abbrev zea:=@decide_eq_true_eq
abbrev zfa:=@decide_eq_false
abbrev zga:=@Result.andThen_ok
abbrev zha:=@Int.natAbs_natCast
abbrev zia:=@if_neg
abbrev zja:=@Nat.le_refl
abbrev zka:=@List.length_map
abbrev zla:=@if_pos
abbrev zma:=@Sem.run_bind
abbrev zna:=@decide_eq_true
abbrev zoa:=@Nat.zero_le
abbrev zpa:=@Array.getElem?_eq_some_iff
abbrev zqa:=@Nat.pow_le_pow_right
abbrev zra:=@List.getElem?_eq_some_iff
abbrev zsa:=@List.mem_cons_of_mem
abbrev zta:=@Sem.run_pure
abbrev zua:=@Nat.lt_or_ge
abbrev zva:=@Nat.le_trans
abbrev zwa:=@Int.natAbs_mul
abbrev zxa:=@List.take_succ_eq_append_getElem
abbrev zya:=@List.all_eq_true
abbrev zza:=@List.take_append_drop
abbrev zAa:=@List.length_append
abbrev zBa:=@List.mem_cons_self
abbrev zCa:=@Nat.two_pow_pos
abbrev zDa:=@List.getD_eq_getElem?_getD
abbrev zEa:=@Bool.not_eq_true'
abbrev zFa:=@Nat.mul_le_mul
abbrev zGa:=@List.getElem_mem
abbrev zHa:=@Bool.false_eq_true
abbrev zIa:=@congrArg
abbrev zJa:=@Nat.mul_le_mul_right
abbrev zKa:=@List.mem_append
abbrev zLa:=@Nat.lt_of_le_of_lt
abbrev zMa:=@List.append_assoc
abbrev zNa:=@List.pairwise_cons
abbrev zOa:=@List.mem_cons
abbrev zPa:=@List.length_cons
abbrev zQa:=@Array.getElem?_toList
abbrev zRa:=@List.mem_range
abbrev zSa:=@List.mem_of_mem_take
abbrev zTa:=@Nat.mul_comm
abbrev zUa:=@List.mem_singleton
abbrev zVa:=@Nat.mod_lt
abbrev zWa:=@Int.le_of_lt
abbrev zXa:=@List.getElem?_eq_none
abbrev zYa:=@Nat.div_div_eq_div_mul
abbrev zZa:=@Int.mul_ediv_cancel_left
abbrev z0a:=@Nat.mod_eq_of_lt
abbrev z1a:=@Int.natCast_mul
abbrev z2a:=@Nat.div_lt_iff_lt_mul
abbrev z3a:=@List.getElem_of_mem
abbrev z4a:=@List.map_cons
abbrev z5a:=@Nat.pow_add
abbrev z6a:=@Nat.mul_le_mul_left
abbrev z7a:=@Rat.num_divInt_den
abbrev z8a:=@List.take_length
abbrev z9a:=@List.mem_append_right
abbrev zab:=@List.getElem?_append_left
abbrev zbb:=@Nat.zero_add
abbrev zcb:=@Nat.div_eq_of_lt
abbrev zdb:=@Nat.lt_of_lt_of_le
abbrev zeb:=@List.mem_of_getElem?
abbrev zfb:=@Int.ofNat_dvd_left
abbrev zgb:=@absurd
abbrev zhb:=@Nat.gcd_dvd_left
abbrev zib:=@List.map_append
abbrev zjb:=@List.length_take
abbrev zkb:=@Nat.mul_assoc
abbrev zlb:=@Nat.le_mul_of_pos_left
abbrev zmb:=@List.mem_map
abbrev znb:=@List.getElem?_cons_succ
abbrev zob:=@List.drop_eq_getElem_cons
abbrev zpb:=@Nat.gcd_dvd_right
abbrev zqb:=@List.mem_flatMap
abbrev zrb:=@List.cons_append
abbrev zsb:=@Nat.min_eq_left
abbrev ztb:=@Nat.add_mul
abbrev zub:=@List.take_of_length_le
abbrev zvb:=@Int.mul_le_mul_of_nonneg_left
abbrev zwb:=@Nat.div_add_mod
abbrev zxb:=@Nat.add_sub_cancel_left
abbrev zyb:=@List.range_succ
abbrev zzb:=@List.length_nil
abbrev zAb:=@List.getElem?_cons_zero
abbrev zBb:=@Int.lt_or_eq_of_le
abbrev zCb:=@Int.mul_pos
abbrev zDb:=@List.getElem?_drop
abbrev zEb:=@Array.length_toList
abbrev zFb:=@Bool.or_eq_true
abbrev zGb:=@List.pairwise_iff_getElem
abbrev zHb:=@Int.natAbs_neg
abbrev zIb:=@Int.mul_neg_of_pos_of_neg
abbrev zJb:=@Array.getElem?_eq_getElem
abbrev zKb:=@Nat.eq_zero_or_pos
abbrev zLb:=@Nat.add_assoc
abbrev zMb:=@List.all_cons
abbrev zNb:=@List.getElem?_take_of_lt
abbrev zOb:=@List.ext_getElem?
abbrev zPb:=@Int.natAbs_add_le
abbrev zQb:=@Int.lt_trichotomy
abbrev zRb:=@List.getElem?_append_right
abbrev zSb:=@Nat.add_mul_div_left
abbrev zTb:=@Nat.add_zero
abbrev zUb:=@Option.map_some
abbrev zVb:=@List.append_nil
abbrev zWb:=@Int.mul_nonneg
abbrev zXb:=@Bool.not_false
abbrev zYb:=@Option.getD_some
abbrev zZb:=@Rat.divInt_mul_divInt
abbrev z0b:=@Nat.pow_succ
abbrev z1b:=@Nat.eq_of_beq_eq_true
abbrev z2b:=@List.getElem?_map
abbrev z3b:=@Nat.mul_lt_mul_of_pos_right
abbrev z4b:=@List.nil_append
abbrev z5b:=@List.length_eq_zero_iff
abbrev z6b:=@Bool.true_and
abbrev z7b:=@List.mem_of_mem_drop
abbrev z8b:=@Array.toArray_toList
abbrev z9b:=@Nat.div_mul_le_self
abbrev zac:=@List.take_succ_cons
abbrev zbc:=@List.mem_map_of_mem
abbrev zcc:=@List.length_range
abbrev zdc:=@Int.mul_pos_of_neg_of_neg
abbrev zec:=@Nat.le_div_iff_mul_le
abbrev zfc:=@Nat.div_le_self
abbrev zgc:=@Nat.add_comm
abbrev zhc:=@List.Nodup.length_le_of_subset
abbrev zic:=@Array.ext'
abbrev zjc:=@Nat.mul_add
abbrev zkc:=@List.not_mem_nil
abbrev zlc:=@Bool.not_true
abbrev zmc:=@Nat.lt_trans
abbrev znc:=@Nat.gcd_comm
abbrev zoc:=@Bool.eq_false_iff
abbrev zpc:=@List.map_congr_left
abbrev zqc:=@List.drop_of_length_le
abbrev zrc:=@List.any_eq_true
abbrev zsc:=@Nat.add_mul_div_right
abbrev ztc:=@List.getElem?_toArray
abbrev zuc:=@Int.zero_add
abbrev zvc:=@Int.lt_or_le
abbrev zwc:=@Array.mem_of_getElem?
abbrev zxc:=@Array.mapM_eq_mapM_toList
abbrev zyc:=@Array.mem_toList_iff
abbrev zzc:=@List.foldl_cons
abbrev zAc:=@Int.not_lt
abbrev zBc:=@Nat.le_mul_of_pos_right
abbrev zCc:=@Nat.dvd_trans
abbrev zDc:=@Int.eq_ofNat_of_zero_le
abbrev zEc:=@Nat.Coprime.coprime_dvd_right
abbrev zFc:=@List.drop_length
abbrev zGc:=@Nat.Coprime.coprime_dvd_left
abbrev zHc:=@Nat.le_succ
abbrev zIc:=@Nat.le_of_lt
abbrev zJc:=@List.mem_filter
abbrev zKc:=@Int.zero_mul
abbrev zLc:=@Int.mul_ne_zero
abbrev zMc:=@Int.mul_eq_zero
abbrev zNc:=@Int.mul_comm
abbrev zOc:=@Bool.eq_iff_iff
abbrev zPc:=@Nat.not_lt
abbrev zQc:=@List.size_toArray
abbrev zRc:=@List.map_drop
abbrev zSc:=@Int.mul_lt_mul_of_pos_left
abbrev zTc:=@Int.fdiv_eq_ediv_of_nonneg
abbrev zUc:=@Int.mul_ediv_cancel'
abbrev zVc:=@List.mem_or_eq_of_mem_set
abbrev zWc:=@List.mapM_cons
abbrev zXc:=@Nat.lt_succ_self
abbrev zYc:=@List.length_pos_iff
abbrev zZc:=@List.drop_succ_cons
abbrev z0c:=@Int.neg_ediv_of_dvd
abbrev z1c:=@Nat.pow_zero
abbrev z2c:=@Nat.gcd_pos_of_pos_right
abbrev z3c:=@List.Pairwise.imp_of_mem
abbrev z4c:=@List.mem_filterMap
abbrev z5c:=@List.all_append
abbrev z6c:=@Nat.one_mul
abbrev z7c:=@Int.toNat_natCast
abbrev z8c:=@Array.getElem?_setIfInBounds_ne
abbrev z9c:=@Nat.Coprime.mul_right
abbrev zad:=@Array.getElem?_modify
abbrev zbd:=@Nat.le_add_right
abbrev zcd:=@List.eq_nil_of_length_eq_zero
abbrev zdd:=@Nat.div_lt_of_lt_mul
abbrev zed:=@Nat.le_of_dvd
abbrev zfd:=@Int.lt_irrefl
abbrev zgd:=@Nat.mod_one
abbrev zhd:=@Nat.div_one
abbrev zid:=@Int.natCast_add
abbrev zjd:=@Nat.add_mul_mod_self_right
abbrev zkd:=@List.mem_replicate
abbrev zld:=@List.map_nil
abbrev zmd:=@List.map_map
abbrev znd:=@Int.mul_zero
abbrev zod:=@Nat.lt_trichotomy
abbrev zpd:=@List.eq_of_mem_replicate
abbrev zqd:=@Array.toList_push
abbrev zrd:=@Nat.mul_sub
abbrev zsd:=@List.map_take
abbrev ztd:=@Int.natCast_zero
abbrev zud:=@List.range_succ_eq_map
abbrev zvd:=@Rat.divInt_add_divInt
abbrev zwd:=@Nat.zero_mul
abbrev zxd:=@Nat.zero_mod
abbrev zyd:=@Nat.sub_self
abbrev zzd:=@Nat.mul_zero
abbrev zAd:=@Nat.mul_succ
abbrev zBd:=@List.any_append
abbrev zCd:=@List.getElem?_append
abbrev zDd:=@Array.getElem_toList
abbrev zEd:=@Array.getElem_append
abbrev zFd:=@List.drop_drop
abbrev zGd:=@Int.ofNat_tdiv
abbrev zHd:=@Bool.false_xor
def grown(w:World)(os:List Obj)(d:Nat):World:={ w with heap:=w.heap++os.toArray,drawn:=d }
def ck(w:World)(b:Nat):Option (Array Value):=
 match w.heap[b]? with
 | some (.cells c _ (0,0))=>some c
 | _=>none
def j5(b:Nat)(w:World):Prop:=b<w.heap.size
def XH(b:Nat)(w:World)(os:List Obj):Prop:=b<os.length+w.heap.size
section
variable(w:World)(os os':List Obj)(d d':Nat)(o:Obj)(a:Addr)(v:Value)(b:Nat)
@[simp,go_sem] theorem size_grown:(grown w os d).heap.size=os.length+w.heap.size:=by simp[grown];omega
@[simp,go_sem] theorem tape_grown:(grown w os d).tape=w.tape:=rfl
@[simp,go_sem] theorem drew_grown:(grown w os d).drew=grown w os (d+1):=rfl
@[simp,go_sem] theorem drewN_grown (n:Nat):(grown w os d).drewN n=grown w os (d+n):=rfl
def dn{b:Nat}(h:b<w.heap.size):(grown w os d).heap[b]?=w.heap[b]?:=by simp[grown,Array.getElem?_append,h]
def Iw:grown w [] w.drawn=w:=by simp[grown]
def c6:w.alloc o=grown w [o] w.drawn:=by show({ w with heap:=w.heap.push o }:World)=_;grind [grown,Array.push_eq_append]
@[simp,go_sem] theorem row?_drew:ck w.drew b=ck w b:=rfl
@[simp,go_sem] theorem row?_drewN (n:Nat):ck (w.drewN n) b=ck w b:=rfl
def xx{c:Array Value}{t:TypeId}(h:b=w.heap.size):ck (w.alloc (.cells c t)) b=some c:=by
 subst h;show(match (w.heap.push (.cells c t))[w.heap.size]? with|some (.cells c _ (0,0))=>some c|_=>none)=_
 simp
@[simp,go_sem] theorem inHeap_setCell:j5 b (w.setCell a v)=j5 b w:=by simp[j5]
@[simp,go_sem] theorem inHeap_drew:j5 b w.drew=j5 b w:=rfl
@[simp,go_sem] theorem inHeap_drewN (n:Nat):j5 b (w.drewN n)=j5 b w:=rfl
theorem cell_of_row{b:Nat}{c:Array Value}(h:ck w b=some c)(j:Nat):w.cell? ⟨b,j,none⟩=c[j]?:=by unfold ck at h;split at h<;>simp at h;rename_i a;subst h;simp[World.cell?,a]
theorem frozen_of_row{b:Nat}{c:Array Value}(h:ck w b=some c)(j:Nat):w.frozen? ⟨b,j,none⟩=false:=by unfold ck at h;split at h<;>simp at h;rename_i a;simp[World.frozen?,a]
def fh(c:Array Value)(off:Nat)(cs:Array Value):Array Value:=c.extract 0 off++cs++c.extract (off+cs.size) c.size
def mM(c cs:Array Value)(off j:Nat)(h:off+cs.size<=c.size):(fh c off cs)[j]?=if j<off then c[j]? else if j<off+cs.size then cs[j-off]? else c[j]?:=by simp only[fh,Array.getElem?_append,Array.getElem?_extract,Array.size_append,Array.size_extract];all_goals grind
@[simp,go_sem] theorem splice_size (c cs:Array Value) (off:Nat) (h:off+cs.size<=c.size):(fh c off cs).size=c.size:=by simp[fh];omega
def uU(c:Array Value)(k:Nat)(v:Value)(l:List Value)(h:k+(l.length+1)<=c.size) :
  fh (c.setIfInBounds k v) (k+1) l.toArray=fh c k (v::l).toArray:=by
 apply Array.ext_getElem?;intro j;rw[mM _ _ _ _ (by simp;omega),mM _ _ _ _ (by simpa using h)]
 all_goals grind
def putAt(w:World)(b off:Nat)(cs:Array Value):World:=
 { w with heap:=w.heap.modify b λ
   | .cells c e f=>.cells (fh c off cs) e f
   | o=>o }
@[simp,go_sem] theorem inHeap_putAt (b' off:Nat) (cs:Array Value):j5 b' (putAt w b off cs)=j5 b' w:=by simp[j5,putAt]
@[simp,go_sem] theorem size_putAt (off:Nat) (cs:Array Value):(putAt w b off cs).heap.size=w.heap.size:=by simp[putAt]
@[simp,go_sem] theorem tape_putAt (off:Nat) (cs:Array Value):(putAt w b off cs).tape=w.tape:=rfl
end
attribute [irreducible] j5 XH
def E8(P:Program)(T:TypeId)(a:Addr)(w:World):Result Value:=(loadVar T a).run P w
def FV(P:Program)(T:TypeId)(a:Addr)(v:Value)(w:World):Result Unit:=(storeVar T a v).run P w
def XV(P:Program)(T:TypeId)(b off n:Nat)(w:World):Option (Array Value)->Result Value
 | some c=>if off+n<=c.size then .ok (.agg (c.extract off (off+n))) w else E8 P T ⟨b,off,none⟩ w
 | none=>E8 P T ⟨b,off,none⟩ w
@[simp,go_sem] theorem ldRow_some (P:Program) (T:TypeId) (b off n:Nat) (w:World) (c:Array Value) :
  XV P T b off n w (some c)=if off+n<=c.size then .ok (.agg (c.extract off (off+n))) w else E8 P T ⟨b,off,none⟩ w:=rfl
def mX:Value->Bool
 | .agg _|.tuple _=>false
 | _=>true
def X8(cs:Array Value):Bool:=cs.all mX
def Yj(P:Program)(T:TypeId)(b off:Nat)(cs:Array Value)(w:World):Option (Array Value)->Result Unit
 | some c=>if off+cs.size<=c.size/\X8 cs=true then .ok () (putAt w b off cs) else FV P T ⟨b,off,none⟩ (.agg cs) w
 | none=>FV P T ⟨b,off,none⟩ (.agg cs) w
@[simp,go_sem] theorem stRow_some (P:Program) (T:TypeId) (b off:Nat) (cs:Array Value) (w:World) (c:Array Value) :
  Yj P T b off cs w (some c)=if off+cs.size<=c.size/\X8 cs=true then .ok () (putAt w b off cs) else FV P T ⟨b,off,none⟩ (.agg cs) w:=rfl
def xA{P:Program}{T:TypeId}{n:Nat}(h:(P.info? T).map (·.size)=some n)(w:World):(sizeOf T).run P w=.ok n w:=by
 cases hq:P.info? T with
 | none=>simp[hq] at h
 | some i=> simp_all [sizeOf,typeInfo]
def dN(b off j:Nat):(⟨b,off,none⟩:Addr).add j=⟨b,off+j,none⟩:=by unfold Addr.add;split<;>simp_all
theorem cW{P:Program}(b off:Nat):∀ (l:List Value) (i:Nat) (w:World) (c:Array Value),ck w b=some c->off+i+l.length<=c.size->l.all mX=true ->
  (storeCells ⟨b,off,none⟩ l i).run P w=.ok () (putAt w b (off+i) l.toArray)
 | [],i,w,c,a,_,_=>by
  simp only[storeCells,zta];congr 1;unfold ck at a;split at a<;>simp at a;rename_i h;subst a;have g:=(zpa.1 h);obtain⟨g,k⟩:=g;simp only[putAt];have:w.heap.modify b (λ|.cells c e f=>.cells (fh c (off+i) #[]) e f|o=>o)=w.heap:=by
   apply Array.ext
   ·simp
   ·intro j h1 p;simp only[Array.getElem_modify];split
    ·simp_all [fh]
    ·rfl
  simp_all
 | v::l,i,w,c,a,hlen,d=>by
  simp only[zMb,X] at d;simp only[zPa] at hlen;have hc:w.cell? ⟨b,off+i,none⟩=some c[off+i]:=by rw[cell_of_row w a,zJb u0]
  have r:w.frozen? ⟨b,off+i,none⟩=false:=frozen_of_row w a _;simp only[storeCells,zma];have n:(store ((⟨b,off,none⟩:Addr).add i) v).run P w=.ok () (w.setCell ⟨b,off+i,none⟩ v):=by rw[dN];unfold store;cases v<;>simp_all [Sem.run,mX]
  rw[n];simp only[zga];have m:ck (w.setCell ⟨b,off+i,none⟩ v) b=some (c.setIfInBounds (off+i) v):=by unfold ck at a ⊢;split at a<;>simp at a;rename_i h;subst a;simp only[World.setCell,zad,if_true,h,zUb,Option.isSome_none,zHa,if_false]
  rw[cW b off l (i+1) _ _ m (by simp;omega) d.2]
  congr 1;unfold ck at a;split at a<;>simp at a;rename_i h;subst a;obtain⟨g,k⟩:=(zpa.1 h);simp only[putAt,World.setCell];congr 1;apply Array.ext
  ·simp
  ·intro j h1 p;simp only[Array.getElem_modify];split
   ·rename_i q;subst q;simp only[k,Option.isSome_none,zHa,if_false];rw[<-uU _ _ _ _ u0]
    rfl
   ·rfl
def mT(place:Nat->Option (Nat×Nat))(cells:Array Value):List (Nat×Value)->Option (Array Value)
 | []=>some cells
 | (i,v)::rest=>
  match place i with
  | none=>none
  | some (off,size)=>if v.cells.size≠size\/off+v.cells.size>cells.size then none else mT place (fh cells off v.cells) rest
theorem rY(off:Nat):∀ (l:List Value) (k:Nat) (cells:Array Value),off+k+l.length<=cells.size ->
  (l.zipIdx k).foldl (λcs (c,j)=>cs.setIfInBounds (off+j) c) cells=fh cells (off+k) l.toArray
 | [],k,cells,_=>by simp only[List.zipIdx_nil,List.foldl_nil,fh];all_goals simp_all
 | v::l,k,cells,h=>by simp only[zPa] at h;simp only[List.zipIdx_cons,zzc];rw[rY off l (k+1) _ (by simp;omega),show off+(k+1)=(off+k)+1 from by omega,uU _ _ _ _ u0]
theorem rW(place:Nat->Option (Nat×Nat)):∀ (l:List (Nat×Value)) (cells:Array Value),Instr.fill place cells l=mT place cells l
 | [],cells=>rfl
 | (i,v)::rest,cells=>by
  simp only[Instr.fill,mT];cases place i with
  | none=>rfl
  | some q=>
   obtain⟨off,size⟩:=q;by_cases h:v.cells.size≠size\/off+v.cells.size>cells.size
   ·simp[h]
   ·simp only[h,if_false];have b:¬ (v.cells.size≠size||decide (off+v.cells.size>cells.size))=true:=by simpa using h
    have hle:off+0+v.cells.toList.length<=cells.size:=by simp;omega
    have e:=rY off v.cells.toList 0 cells hle;simp only[zTb,z8b] at e;have a:v.cells.zipIdx.foldl (λcs (c,j)=>cs.setIfInBounds (off+j) c) cells=fh cells off v.cells:=by rw[<-e,<-Array.foldl_toList];simp
    simp only[b,if_false,zHa,a];exact rW place rest _
def wM{place:Nat->Option (Nat×Nat)}{cells:Array Value}{i off size:Nat}{v:Value}{rest:List (Nat×Value)}(hp:place i=some (off,size))(h1:v.cells.size=size)(a:off+size<=cells.size) :
  mT place cells ((i,v)::rest)=mT place (fh cells off v.cells) rest:=by
 simp only[mT,hp];grind
section
variable{α:Type}{enc:α->Array Value}{c:Nat}(hc:∀ x,(enc x).size=c)
include hc
def pG(f:Nat->α)(k:Nat)(y:α):Nat->α:=λi=>if i=k then y else f i
end
end
noncomputable section
namespace Sy
open Go
inductive Ty where
 | int (k:IntKind)|bool|str|st (l:List Ty)|arr (n:Nat) (t:Ty)|sl (t:Ty)|tup (l:List Ty)|fn
mutual
def Ty.beq:Ty->Ty->Bool
 | .int k,.int k'=>decide (k=k')
 | .bool,.bool=>true
 | .str,.str=>true
 | .st l,.st l'=>Ty.beqs l l'
 | .arr n t,.arr n' t'=>decide (n=n')&&Ty.beq t t'
 | .sl t,.sl t'=>Ty.beq t t'
 | .tup l,.tup l'=>Ty.beqs l l'
 | .fn,.fn=>true
 | _,_=>false
def Ty.beqs:List Ty->List Ty->Bool
 | [],[]=>true
 | t::l,t'::l'=>Ty.beq t t'&&Ty.beqs l l'
 | _,_=>false
end
mutual
theorem alb:∀ (t t':Ty),t.beq t'=true->t=t'
 | .int k,t',h=>by cases t'<;>simp[Ty.beq] at h;rw[h]
 | .bool,t',h=>by grind [Ty.beq]
 | .str,t',h=>by grind [Ty.beq]
 | .st l,t',h=>by cases t'<;>simp[Ty.beq] at h;rw[alc _ _ h]
 | .arr n t,t',h=>by cases t'<;>simp[Ty.beq] at h;rw[h.1,alb _ _ h.2]
 | .sl t,t',h=>by cases t'<;>simp[Ty.beq] at h;rw[alb _ _ h]
 | .tup l,t',h=>by cases t'<;>simp[Ty.beq] at h;rw[alc _ _ h]
 | .fn,t',h=>by grind [Ty.beq]
theorem alc:∀ (l l':List Ty),Ty.beqs l l'=true->l=l'
 | [],l',h=>by grind [Ty.beqs]
 | t::l,l',h=>by
  cases l' with
  | nil=>simp[Ty.beqs] at h
  | cons t' l'=>simp[Ty.beqs] at h;rw[alb _ _ h.1,alc _ _ h.2]
end
mutual
def Ty.size:Ty->Nat
 | .st l=>ale l
 | .arr n t=>n*t.size
 | .tup _=>0
 | _=>1
def ale:List Ty->Nat
 | []=>0
 | t::l=>t.size+ale l
end
inductive D where
 | int (k:IntKind) (n:Int)|bool (b:Bool)|str (s:ByteArray)|st (l:List D)|sl (l:List D)|tup (l:List D)
instance:Inhabited D:=⟨.bool false⟩
mutual
def D.flat:D->List D
 | .st l=>N l
 | .int k n=>[.int k n]
 | .bool b=>[.bool b]
 | .str s=>[.str s]
 | .sl l=>[.sl l]
 | .tup l=>[.tup l]
def N:List D->List D
 | []=>[]
 | d::l=>D.flat d++N l
end
mutual
def wt:Ty->D->Prop
 | .int k,d=>∃ n,d=.int k n
 | .bool,d=>∃ b,d=.bool b
 | .str,d=>∃ s,d=.str s
 | .st ts,d=>∃ l,d=.st l/\fm ts l
 | .arr n t,d=>∃ l,d=.st l/\l.length=n/\∀ x∈l,wt t x
 | .sl t,d=>∃ l,d=.sl l/\∀ x∈l,wt t x
 | .tup ts,d=>∃ l,d=.tup l/\fm ts l
 | .fn,_=>False
def fm:List Ty->List D->Prop
 | [],l=>l=[]
 | t::ts,l=>∃ d l',l=d::l'/\wt t d/\fm ts l'
end
mutual
def D.beq:D->D->Bool
 | .int k n,.int k' n'=>decide (k=k')&&decide (n=n')
 | .bool b,.bool b'=>b==b'
 | .str s,.str s'=>decide (s=s')
 | .st l,.st l'=>D.beqs l l'
 | _,_=>false
def D.beqs:List D->List D->Bool
 | [],[]=>true
 | t::l,t'::l'=>D.beq t t'&&D.beqs l l'
 | _,_=>false
end
mutual
def az:Ty->D
 | .int k=>.int k 0
 | .bool=>.bool false
 | .str=>.str ByteArray.empty
 | .st l=>.st (gW l)
 | .arr n t=>.st (List.replicate n (az t))
 | .sl _=>.sl []
 | .tup l=>.tup (gW l)
 | .fn=>.bool false
def gW:List Ty->List D
 | []=>[]
 | t::l=>az t::gW l
end
mutual
def Td:Ty->Bool
 | .st l=>AY l
 | .arr _ t=>Td t
 | .sl _=>true
 | .tup _=>true
 | .fn=>true
 | _=>false
def AY:List Ty->Bool
 | []=>false
 | t::l=>Td t||AY l
end
mutual
def ak:Ty->Bool
 | .st l=>aR l
 | .arr _ t=>ak t
 | .sl t=>ak t
 | .tup _=>false
 | .fn=>false
 | _=>true
def aR:List Ty->Bool
 | []=>true
 | t::l=>ak t&&aR l
end
inductive Ex where
 | normal|exit (id:Nat)|ret
def Ex.is:Ex->Ex->Bool
 | .normal,.normal=>true
 | .exit i,.exit j=>decide (i=j)
 | .ret,.ret=>true
 | _,_=>false
def Fu:Option Ex->Option Ex->Bool
 | none,none=>true
 | some e,some a=>e.is a
 | _,_=>false
inductive AV where
 | d (t:Ty) (x:D)
 | own (t:Ty) (v:Nat) (l:List D)
 | nils
 | ptr (t:Ty) (id:Nat) (p:List Nat)
 | fptr (t:Ty) (x:D)
 | mem (t:Ty) (id:Nat)
 | st (ts:List Ty) (l:List AV)
 | clo (f:Nat) (l:List AV)
 | map (kt vt:Ty) (id:Nat)
 | sub (sl:Bool) (t:Ty) (id:Nat) (p:List Nat) (lo n:Nat)
 | tpo (t:Ty) (v:Nat) (ts:List Ty) (y:D)
 | yld (id:Nat)
 | gone
 | undef
instance:Inhabited AV:=⟨.undef⟩
structure LpI where
 nt:Nat
 ps:List Nat
 asg:Code
 bdy:Code
 caps:Nat->AV
inductive Ob where
 | one (t:Ty) (v:AV)
 | many (t:Ty) (l:List D)
 | mp (kt vt:Ty) (l:List D)
 | lp (i:LpI) (pend:Option Ex)
 | fv (v:AV)
def D.fld:D->Nat->Option D
 | .st l,i=>l[i]?
 | _,_=>none
def D.tupAt:D->Nat->Option D
 | .tup l,i=>l[i]?
 | _,_=>none
def m8{R:Type}(y:D):Nat->List Ty->(List AV->Option R)->Option R
 | _,[],k=>k []
 | i,t::ts,k=>(y.fld i).bind λz=>m8 y (i+1) ts λl=>k (.d t z::l)
def D.get:D->List Nat->Option D
 | x,[]=>some x
 | x,i::p=>(x.fld i).bind λy=>y.get p
def D.set:D->List Nat->D->Option D
 | _,[],y=>some y
 | .st l,i::p,y=>(l[i]?).bind λz=>(D.set z p y).bind λa=>some (.st (l.set i a))
 | _,_::_,_=>none
def D.asSl:D->Option (List D)
 | .sl l=>some l
 | _=>none
def D.stl:D->Option (List D)
 | .st l=>some l
 | _=>none
def D.asInt:D->Option (IntKind×Int)
 | .int k n=>some (k,n)
 | _=>none
def D.truth:D->Option Bool
 | .bool b=>some b
 | _=>none
def D.idx:D->Nat->Option Nat
 | .int _ i,n=>if 0<=i/\i<(n:Int) then some i.toNat else none
 | _,_=>none
def aky:D->D->Option D
 | .str s,.int _ i=>(if 0<=i then s[i.toNat]? else none).bind λb=>some (.int .u8 b.toNat)
 | _,_=>none
def D.slen:D->Option D
 | .str s=>some (.int .i64 s.size)
 | _=>none
def D.conv(k:IntKind):D->Option D
 | .int _ n=>some (.int k (k.wrap n))
 | _=>none
def akl(op:BinOp)(k:IntKind)(x y:Int):Option D:=
 match op with
 | .and=>some (.int k (k.wrap (BitVec.ofInt k.bits x &&& BitVec.ofInt k.bits y).toNat))
 | .or=>some (.int k (k.wrap (BitVec.ofInt k.bits x ||| BitVec.ofInt k.bits y).toNat))
 | .xor=>some (.int k (k.wrap (BitVec.ofInt k.bits x ^^^ BitVec.ofInt k.bits y).toNat))
 | .andNot=>some (.int k (k.wrap (BitVec.ofInt k.bits x &&& ~~~ BitVec.ofInt k.bits y).toNat))
 | _=>none
def akk(op:BinOp):D->D->Option D
 | .int k a,.int c b=>
  match op with
  | .shl=>if b<0 then none else some (.int k (k.wrap (a*2^(min b.toNat k.bits))))
  | .shr=>if b<0 then none else some (.int k (a.fdiv (2^(min b.toNat k.bits))))
  | _=>if k=c then
   match op with
   | .add=>some (.int k (k.wrap (a+b)))
   | .sub=>some (.int k (k.wrap (a-b)))
   | .mul=>some (.int k (k.wrap (a*b)))
   | .quo=>if b=0 then none else some (.int k (k.wrap (a.tdiv b)))
   | .rem=>if b=0 then none else some (.int k (a.tmod b))
   | .eql=>some (.bool (a==b))
   | .neq=>some (.bool (a != b))
   | .lss=>some (.bool (decide (a<b)))
   | .leq=>some (.bool (decide (a<=b)))
   | .gtr=>some (.bool (decide (a>b)))
   | .geq=>some (.bool (decide (a ≥ b)))
   | .and=>akl .and k a b
   | .or=>akl .or k a b
   | .xor=>akl .xor k a b
   | .andNot=>akl .andNot k a b
   | _=>none
   else none
 | _,_=>none
def akz(op:UnOp):D->Option D
 | .int k n=>match op with
  | .neg=>some (.int k (k.wrap (0-n)))
  | .xor=>akl .xor k (if k.signed then -1 else k.max) n
  | _=>none
 | .bool b=>match op with
  | .not=>some (.bool (!b))
  | _=>none
 | _=>none
def D.min2:D->D->Option D
 | .int k x,.int _ y=>some (.int k (if y<x then y else x))
 | _,_=>none
def D.max2:D->D->Option D
 | .int k x,.int _ y=>some (.int k (if y>x then y else x))
 | _,_=>none
def D.cut(l:List D)(lo hi:Nat):Option (List D):=if lo<=hi/\hi<=l.length then some ((l.take hi).drop lo) else none
def D.natOf:D->Option Nat
 | .int _ i=>if 0<=i then some i.toNat else none
 | _=>none
def akx:List D->List (Nat×D)->List D
 | l,[]=>l
 | l,(i,x)::r=>akx (l.set i x) r
def aV:Ty->List Nat->Option Ty
 | t,[]=>some t
 | .st ts,i::p=>(ts[i]?).bind λt=>aV t p
 | .arr _ t,_::p=>aV t p
 | _,_=>none
def bi:Ty->List Nat->Nat
 | _,[]=>0
 | .st ts,i::p=>ale (ts.take i)+bi (ts.getD i .bool) p
 | .arr _ t,i::p=>i*t.size+bi t p
 | _,_=>0
def AU{R:Type}:AV->List Nat->(AV->Option R)->Option R
 | .d t x,p,k=>match p with
  | []=>k (.d t x)
  | i::p=>(aV t (i::p)).bind λb=>(x.get (i::p)).bind λy=>k (.d b y)
 | a,[],k=>k a
 | .st _ l,i::p,k=>(l[i]?).bind λa=>AU a p k
 | _,_,_=>none
mutual
def AV.fits:Ty->AV->Bool
 | t,.d t' _=>t.beq t'
 | .sl t,.own t' _ _=>t.beq t'
 | .sl _,.nils=>true
 | .st ts,.st ts' l=>Ty.beqs ts ts'&&AV.fitss ts l
 | _,_=>false
def AV.fitss:List Ty->List AV->Bool
 | [],[]=>true
 | t::ts,a::l=>AV.fits t a&&AV.fitss ts l
 | _,_=>false
end
def FN{R:Type}:AV->List Nat->AV->(AV->Option R)->Option R
 | _,[],b,k=>k b
 | .d t x,i::p,b,k=>match b with
  | .d _ y=>(x.set (i::p) y).bind λc=>k (.d t c)
  | _=>none
 | .st ts l,i::p,b,k=>(l[i]?).bind λa=>FN a p b λa'=>k (.st ts (l.set i a'))
 | _,_::_,_,_=>none
mutual
def ma:Ty->AV
 | .sl _=>.nils
 | .st ts=>if AY ts then .st ts (lj ts) else .d (.st ts) (az (.st ts))
 | t=>.d t (az t)
def lj:List Ty->List AV
 | []=>[]
 | t::l=>ma t::lj l
end
def gP{R:Type}:Ob->List Nat->(AV->Option R)->Option R
 | .one _ v,p,k=>AU v p k
 | .many t l,i::p,k=>(l[i]?).bind λx=>AU (.d t x) p k
 | _,_,_=>none
def fo:Ob->List Nat->Option Ty
 | .one t _,p=>aV t p
 | .many t _,_::p=>aV t p
 | .fv _,[]=>some .fn
 | _,_=>none
structure St where
 tm:Nat->AV
 ob:Nat->Option Ob
 fresh:Nat
 dead:List Nat
 nt:Nat
 lkS:List Nat
 lkO:List Nat
def St.put(s:St)(dst:Option Nat)(v:AV):St:=
 match dst with
 | some t=>if t<s.nt then{ s with tm:=λi=>if i=t then v else s.tm i } else s
 | none=>s
def St.base(s:St):Nat:=s.fresh*4096
def St.setOb(s:St)(id:Nat)(o:Option Ob):St:={ s with ob:=λi=>if i=id then o else s.ob i }
mutual
def akf(ob:Nat->Option Ob):Ty->AV->Option D
 | t,.d t' x=>if t.beq t' then some x else none
 | t,.own t' _ l=>if t.beq (.sl t') then some (.sl l) else none
 | t,.nils=>match t with
  | .sl _=>some (.sl [])
  | _=>none
 | t,.st ts' l=>if t.beq (.st ts') then(AV.toDl ob ts' l).bind λxs=>some (.st xs) else none
 | _,_=>none
def AV.toDl(ob:Nat->Option Ob):List Ty->List AV->Option (List D)
 | [],[]=>some []
 | t::ts,a::l=>(akf ob t a).bind λx=>(AV.toDl ob ts l).bind λxs=>some (x::xs)
 | _,_=>none
end
def AV.asList(ob:Nat->Option Ob)(t:Ty)(a:AV):Option (List D):=(akf ob (.sl t) a).bind D.asSl
def AV.truth:AV->Option Bool
 | .d t x=>if t.beq .bool then x.truth else none
 | _=>none
inductive Sh where
 | dv (t:Ty)
 | ow (t:Ty)
 | same (a:AV)
 | st (ts:List Ty) (l:List Sh)
inductive ShO where
 | one (t:Ty) (h:Sh)
 | many (t:Ty)
 | mp (kt vt:Ty)
 | keep (t:Ty) (wit:Nat)
 | lp (pend:Option Ex) (wit:Nat)
 | fv (a:AV)
structure Shape where
 slots:List (Nat×Sh)
 objs:List (Nat×ShO)
 keepS:List Nat
inductive Ann where
 | leaf
 | reg (fz:List Nat) (n:Nat)
 | regI (fz:List Nat) (n:Nat) (a:Ann)
 | two (a b:Ann)
 | cut (exits:List (Ex×Shape)) (keepS keepO:List Nat) (a b:Ann)
 | loop (h:Shape) (exits:List (Ex×Shape)) (a:Ann)
 | all (exits:List (Ex×Shape)) (keepS keepO:List Nat) (a:Ann)
def Ann.fz:Ann->List Nat|.reg fz _=>fz|.regI fz _ _=>fz|_=>[]
def Ann.heads(m:Nat):Ann->Nat|.reg _ n=>n|.regI _ n _=>n|_=>m
def Ann.inner:Ann->Ann|.regI _ _ a=>a|_=>.leaf
def Ann.fst:Ann->Ann|.two a _=>a|.cut _ _ _ a _=>a|.loop _ _ a=>a|_=>.leaf
def Ann.snd:Ann->Ann|.two _ b=>b|.cut _ _ _ _ b=>b|_=>.leaf
structure Env where
 L:Nat->Option Ty
 sig:Nat->Option (List Ty×Ty)
 call:Nat->List D->Option D
 mapL:Nat->Option (Ty×Ty)
 lp:{α β:Type}->(α->Option (Sum α β))->α->Option β
 inl:Nat->Option (Ann->(R:Type)->St->List AV->(AV->St->Option R)->Option R)
 cod:Code->Ann->(R:Type)->St->(Ex->St->Option R)->Option R
 free:Nat->Nat
 pv:Nat->Bool
 fnT:Nat->Bool
 ownF:Nat->Bool
def Env.alTy(E:Env)(T:Nat):Option Ty:=bif E.fnT T then some .fn else E.L T
def Env.alOb(E:Env)(T:Nat):Option Ob:=bif E.fnT T then some (.fv .undef) else(E.L T).map λt=>.one t (ma t)
def mZ:AV->Bool
 | .clo ..=>true
 | .yld _=>true
 | .map ..=>true
 | _=>false
structure Inl where
 pv:Nat->Bool
 f:Nat->Option (Ann->(R:Type)->St->List AV->(AV->St->Option R)->Option R)
 cod:Code->Ann->(R:Type)->St->(Ex->St->Option R)->Option R
def Lr:Value->AV
 | .int k n=>.d (.int k) (.int k n)
 | .bool b=>.d .bool (.bool b)
 | .string s=>.d .str (.str s)
 | .slice none 0 0=>.nils
 | _=>.undef
def St.opA(s:St):Operand->AV
 | .tmp t=>s.tm t
 | .const v=>Lr v
 | .func f=>.clo f []
 | _=>.undef
def isD:AV->Option (Ty×D)
 | .d t x=>some (t,x)
 | _=>none
mutual
def bX:Ty->Bool
 | .int _=>true
 | .bool=>true
 | .st ts=>nC ts
 | .arr _ t=>bX t
 | _=>false
def nC:List Ty->Bool
 | []=>true
 | t::l=>bX t&&nC l
end
def partsD(ob:Nat->Option Ob)(s:St)(ty:Nat->Option Ty):List (Nat×Operand)->Option (List (Nat×D))
 | []=>some []
 | (i,x)::r=>(ty i).bind λt=>(akf ob t (s.opA x)).bind λy=>(partsD ob s ty r).bind λa=>some ((i,y)::a)
def gL(s:St)(ts:List Ty)(p:Nat×Operand):Bool:=match ts[p.1]? with|some u=>AV.fits u (s.opA p.2)|none=>false
def gA:AV->Bool
 | .ptr ..=>true
 | _=>false
def oI:List AV->List (Nat×AV)->List AV
 | l,[]=>l
 | l,(i,x)::r=>oI (l.set i x) r
def akr:List D->D->Option D
 | [],_=>none
 | .st [k,v]::l,x=>if D.beq x k then some v else akr l x
 | _::l,x=>akr l x
def aks:List D->D->D->List D
 | [],x,y=>[.st [x,y]]
 | .st [k,v]::l,x,y=>if D.beq x k then .st [k,y]::l else .st [k,v]::aks l x y
 | e::l,x,y=>e::aks l x y
def dw:List Nat->Bool
 | []=>true
 | a::l=>!(l.contains a)&&dw l
def wo(l:List AV):List Nat:=l.map λx=>match x with|.ptr _ id _=>id|_=>0
def rL(ob:Nat->Option Ob):List Ty->List AV->Option (List D)
 | [],[]=>some []
 | t::ts,.ptr _ id []::l=>match ob id with
  | some (.one u v)=>if t.beq u then(akf ob t v).bind λz=>(rL ob ts l).bind λa=>some (z::a) else none
  | _=>none
 | _,_=>none
def xW:List AV->Bool
 | []=>true
 | .ptr _ _ []::l=>xW l
 | _::_=>false
def zk:Option Ob->Bool
 | some (.one _ _)=>true
 | some (.fv _)=>true
 | _=>false
def km(ob:Nat->Option Ob):AV->AV
 | .d t x=>.d t x
 | .own t _ l=>.d (.sl t) (.sl l)
 | .fptr t x=>.fptr t x
 | .ptr t id []=>if zk (ob id) then .ptr t id [] else .undef
 | .clo f l=>if xW l&&l.all (λa=>match a with|.ptr _ id _=>zk (ob id)|_=>false) then .clo f l else .undef
 | .yld id=>.yld id
 | .map b vt id=>.map b vt id
 | _=>.undef
def nA(ob:Nat->Option Ob):AV->AV
 | .ptr _ id []=>match ob id with
  | some (.one t _)=>.ptr t id []
  | some (.fv _)=>.ptr .fn id []
  | _=>.undef
 | _=>.undef
def pj(ob:Nat->Option Ob):AV->AV
 | .d t x=>.d t x
 | .fptr t x=>.fptr t x
 | .ptr t id p=>nA ob (.ptr t id p)
 | .clo f l=>if(l.map (nA ob)).all gA then .clo f (l.map (nA ob)) else .undef
 | .yld id=>.yld id
 | .map c vt id=>match ob id with
  | some (.mp a b _)=>if c.beq a&&vt.beq b then .map c vt id else .undef
  | _=>.undef
 | _=>.undef
def qv{R:Type}(E:Env)(s:St)(o:Oper)(K:AV->Option R):Option R:=
 match o.op with
 | .move x=>K (s.opA x)
 | .assign x=>K (s.opA x)
 | .pick c a b=>(s.opA c).truth.bind λc=>if c then K (s.opA a) else K (s.opA b)
 | .alloc T=>(E.alTy T).bind λt=>o.dst.bind λd=>K (.ptr t (s.base+d) [])
 | .load T a=>bif E.fnT T then(match s.opA a with|.ptr .fn id []=>(match s.ob id with|some (.fv v)=>if mZ (pj s.ob v) then K (pj s.ob v) else none|_=>none)|_=>none) else(E.L T).bind λt=>match s.opA a with
  | .ptr h id p=>if t.beq h then(s.ob id).bind λo=>gP o p K else none
  | .fptr h x=>if t.beq h then K (.d h x) else none
  | .sub sl e id p lo n=>if !sl&&t.beq (.arr n e) then(s.ob id).bind λo=>gP o p λv=>match v with
    | .d (.arr _ q) (.st l)=>if q.beq e&&decide (lo+n<=l.length) then K (.d (.arr n e) (.st ((l.drop lo).take n))) else none
    | _=>none
   else none
  | _=>none
 | .fieldAddr T x f=>(E.L T).bind λt=>match t,s.opA x with
  | .st ts,.ptr h id p=>if h.beq (.st ts) then(ts[f]?).bind λu=>K (.ptr u id (p++[f])) else none
  | .st ts,.fptr h y=>if h.beq (.st ts) then(ts[f]?).bind λu=>(y.fld f).bind λz=>K (.fptr u z) else none
  | _,_=>none
 | .indexAddr T x i=>(E.L T).bind λt=>(isD (s.opA i)).bind λj=>match t with
  | .arr n e=>match s.opA x with
   | .ptr h id p=>if h.beq (.arr n e) then(j.2.idx n).bind λk=>K (.ptr e id (p++[k])) else none
   | .fptr h y=>if h.beq (.arr n e) then(j.2.idx n).bind λk=>(y.fld k).bind λz=>K (.fptr e z) else none
   | _=>none
  | .sl e=>match s.opA x with
   | .mem h id=>if h.beq e then match s.ob id with
     | some (.many _ l)=>(j.2.idx l.length).bind λk=>K (.ptr e id [k])
     | _=>none
    else none
   | .sub sl q id p lo n=>if sl&&q.beq e then(j.2.idx n).bind λk=>K (.ptr e id (p++[lo+k])) else none
   | a=>(a.asList s.ob e).bind λl=>(j.2.idx l.length).bind λk=>(l[k]?).bind λy=>K (.fptr e y)
  | _=>none
 | .field T x f=>(E.L T).bind λt=>match t,s.opA x with
  | .st ts,.d h y=>if h.beq (.st ts) then(ts[f]?).bind λu=>(y.fld f).bind λz=>K (.d u z) else none
  | _,_=>none
 | .index T x i=>(E.L T).bind λt=>(isD (s.opA i)).bind λj=>match t,s.opA x with
  | .arr n e,.d h y=>if h.beq (.arr n e) then(j.2.idx n).bind λk=>(y.fld k).bind λz=>K (.d e z) else none
  | .str,.d h y=>if h.beq .str then(aky y j.2).bind λz=>K (.d (.int .u8) z) else none
  | _,_=>none
 | .binOp op T x y _=>(E.L T).bind λt=>(isD (s.opA x)).bind λa=>(isD (s.opA y)).bind λb=>
  match op with
  | .eql=>if a.1.beq t&&b.1.beq t&&bX t then K (.d .bool (.bool (D.beq a.2 b.2))) else none
  | .neq=>if a.1.beq t&&b.1.beq t&&bX t then K (.d .bool (.bool (!(D.beq a.2 b.2)))) else none
  | .lss=>(akk .lss a.2 b.2).bind λz=>K (.d .bool z)
  | .leq=>(akk .leq a.2 b.2).bind λz=>K (.d .bool z)
  | .gtr=>(akk .gtr a.2 b.2).bind λz=>K (.d .bool z)
  | .geq=>(akk .geq a.2 b.2).bind λz=>K (.d .bool z)
  | op=>(akk op a.2 b.2).bind λz=>K (.d a.1 z)
 | .unOp op _ x=>(isD (s.opA x)).bind λa=>(akz op a.2).bind λz=>K (.d a.1 z)
 | .convert S T x=>(E.L S).bind λu=>(E.L T).bind λt=>(isD (s.opA x)).bind λa=>
  match t with
  | .int k=>if a.1.beq u then(D.conv k a.2).bind λz=>K (.d t z) else none
  | _=>none
 | .build T ps=>(E.L T).bind λt=>match t with
  | .st ts=>if AY ts then(if ps.toList.all (gL s ts) then K (.st ts (oI (lj ts) (ps.toList.map λp=>(p.1,s.opA p.2)))) else none)
   else(partsD s.ob s (λi=>ts[i]?) ps.toList).bind λl=>K (.d t (.st (akx (gW ts) l)))
  | .arr n e=>(partsD s.ob s (λi=>if i<n then some e else none) ps.toList).bind λl=>K (.d t (.st (akx (List.replicate n (az e)) l)))
  | _=>none
 | .buildSlice T n ps=>(E.L T).bind λt=>match t with
  | .sl e=>if n<=4096 then o.dst.bind λd=>(partsD s.ob s (λi=>if i<n then some e else none) ps.toList).bind λl=>K (.own e (s.base+d) (akx (List.replicate n (az e)) l)) else none
  | _=>none
 | .extract x i=>match s.opA x with
  | .d (.tup ts) y=>(ts[i]?).bind λu=>(y.tupAt i).bind λz=>K (.d u z)
  | .tpo t v ts y=>match i with
   | 0=>(y.tupAt 0).bind λz=>z.asSl.bind λl=>K (.own t v l)
   | i+1=>(ts[i]?).bind λu=>(y.tupAt (i+1)).bind λz=>K (.d u z)
  | _=>none
 | .nilCheck x=>match s.opA x with
  | .ptr t id p=>K (.ptr t id p)
  | _=>none
 | .slice T x lo hi G=>match G with
  | some _=>none
  | none=>(E.L T).bind λt=>match t with
   | .sl e=>((s.opA x).asList s.ob e).bind λl=>
    (match lo with|none=>some 0|some i=>(isD (s.opA i)).bind λa=>a.2.natOf).bind λlo=>
    (match hi with|none=>some l.length|some i=>(isD (s.opA i)).bind λa=>a.2.natOf).bind λhi=>
    (D.cut l lo hi).bind λl'=>K (.d t (.sl l'))
   | .arr m e=>match s.opA x with
    | .ptr h id p=>if h.beq (.arr m e) then
     (match lo with|none=>some 0|some i=>(isD (s.opA i)).bind λa=>a.2.natOf).bind λlo=>
     (match hi with|none=>some m|some i=>(isD (s.opA i)).bind λa=>a.2.natOf).bind λhi=>
     if lo<=hi/\hi<=m/\lo<m then K (.sub true e id p lo (hi-lo)) else none
     else none
    | _=>none
   | _=>none
 | .sliceToArrayPointer T x=>(E.L T).bind λt=>match t,s.opA x with
  | .arr n e,.sub sl q id p lo H=>if sl&&q.beq e&&decide (n<=H) then K (.sub false e id p lo n) else none
  | .arr n e,a=>(a.asList s.ob e).bind λl=>if decide (1<=n)&&decide (n<=l.length) then K (.fptr (.arr n e) (.st (l.take n))) else none
  | _,_=>none
 | .lookup T x i w=>(E.mapL T).bind λF=>match s.opA x with
  | .map A vt id=>if A.beq F.1&&vt.beq F.2 then match s.ob id with
    | some (.mp B C l)=>if B.beq A&&C.beq vt then(isD (s.opA i)).bind λj=>if j.1.beq A then
      match w with
      | false=>K (.d vt ((akr l j.2).getD (az vt)))
      | true=>K (.d (.tup [vt,.bool]) (.tup [(akr l j.2).getD (az vt),.bool (akr l j.2).isSome]))
      else none
     else none
    | _=>none
   else none
  | _=>none
 | .makeSlice T x y=>(isD (s.opA x)).bind λa=>(a.2.natOf).bind λz=>if z=0 then(E.L T).bind λt=>match t with
  | .sl e=>o.dst.bind λd=>(isD (s.opA y)).bind λb=>(b.2.natOf).bind λn=>if n<=1073741824 then K (.own e (s.base+d) []) else none
  | _=>none
  else none
 | .makeFunc fn first captured=>match fn with
  | .func f=>if first.size=0/\(captured.toList.all λx=>gA (s.opA x))=true then K (.clo f (captured.toList.map s.opA)) else none
  | _=>none
 | .call c=>match c.callee with
  | .builtin .len=>(c.argTypes[0]?).bind λT=>(E.L T).bind λt=>(c.args[0]?).bind λx=>match t with
   | .sl e=>match s.opA x with
    | .mem h id=>if h.beq e then match s.ob id with
      | some (.many _ l)=>K (.d (.int .i64) (.int .i64 l.length))
      | _=>none
     else none
    | .sub sl q _ _ _ n=>if sl&&q.beq e then K (.d (.int .i64) (.int .i64 n)) else none
    | a=>(a.asList s.ob e).bind λl=>K (.d (.int .i64) (.int .i64 l.length))
   | .arr n _=>K (.d (.int .i64) (.int .i64 n))
   | .str=>(isD (s.opA x)).bind λa=>if a.1.beq .str then(D.slen a.2).bind λz=>K (.d (.int .i64) z) else none
   | _=>none
  | .builtin .min=>match c.args.toList with
   | [x,y]=>(isD (s.opA x)).bind λa=>(isD (s.opA y)).bind λb=>if a.1.beq b.1 then(D.min2 a.2 b.2).bind λz=>K (.d a.1 z) else none
   | _=>none
  | .builtin .max=>match c.args.toList with
   | [x,y]=>(isD (s.opA x)).bind λa=>(isD (s.opA y)).bind λb=>if a.1.beq b.1 then(D.max2 a.2 b.2).bind λz=>K (.d a.1 z) else none
   | _=>none
  | .value (.func f)=>(E.sig f).bind λg=>bif Nat.beq (E.free f) 0 then(AV.toDl s.ob g.1 (c.args.toList.map s.opA)).bind λxs=>(E.call f xs).bind λy=>bif E.ownF f then(o.dst.bind λd=>match g.2 with|.sl t=>y.asSl.bind λl=>K (.own t (s.base+d) l)|.tup (.sl t::ts)=>K (.tpo t (s.base+d) ts y)|.st (.sl t::ts)=>(y.fld 0).bind λz=>z.asSl.bind λl=>m8 y 1 ts λr=>K (.st (.sl t::ts) (.own t (s.base+d) l::r))|_=>none) else K (.d g.2 y) else none
  | .value (.tmp t)=>match s.tm t with
   | .clo f l=>(E.sig f).bind λg=>bif Nat.beq (E.free f) l.length&&dw (wo l) then(AV.toDl s.ob (g.1.take (g.1.length-l.length)) (c.args.toList.map s.opA)).bind λxs=>(rL s.ob (g.1.drop (g.1.length-l.length)) l).bind λI=>(E.call f (xs++I)).bind λy=>K (.d g.2 y) else none
   | _=>none
  | _=>none
 | _=>none
def vr{R:Type}(E:Env)(s:St)(o:Oper)(K:St->Option R):Option R:=
 match o.op with
 | .store T a x=>bif E.fnT T then(match s.opA a with|.ptr .fn id []=>if mZ (km s.ob (s.opA x))&&!(s.lkO.contains id) then(match s.ob id with|some (.fv _)=>K (s.setOb id (some (.fv (km s.ob (s.opA x)))))|_=>none) else none|_=>none) else(E.L T).bind λt=>match s.opA a with
  | .ptr I id p=>if t.beq I&&AV.fits t (s.opA x)&&!(s.lkO.contains id) then match s.ob id with
    | some (.one u v)=>FN v p (s.opA x) λv'=>K (s.setOb id (some (.one u v')))
    | some (.many u l)=>match p with
     | i::C=>(l[i]?).bind λz=>(akf s.ob t (s.opA x)).bind λy=>(D.set z C y).bind λM=>K (s.setOb id (some (.many u (l.set i M))))
     | []=>none
    | _=>none
   else none
  | _=>none
 | .makeMap T F=>match F with
  | some _=>none
  | none=>(E.mapL T).bind λb=>o.dst.bind λd=>K ((s.setOb (s.base+d) (some (.mp b.1 b.2 []))).put o.dst (.map b.1 b.2 (s.base+d)))
 | .mapUpdate T m k v=>if o.dst.isSome then none else(E.mapL T).bind λb=>match s.opA m with
  | .map h vt id=>if h.beq b.1&&vt.beq b.2&&!(s.lkO.contains id) then match s.ob id with
    | some (.mp w G l)=>if w.beq h&&G.beq vt then(akf s.ob h (s.opA k)).bind λH=>(akf s.ob vt (s.opA v)).bind λJ=>K (s.setOb id (some (.mp h vt (aks l H J)))) else none
    | _=>none
   else none
  | _=>none
 | .box T x=>bif E.fnT T then(o.dst.bind λd=>if mZ (km s.ob (s.opA x)) then K ((s.setOb (s.base+d) (some (.fv (km s.ob (s.opA x))))).put o.dst (.ptr .fn (s.base+d) [])) else none) else(E.L T).bind λt=>o.dst.bind λd=>if AV.fits t (s.opA x) then K ((s.setOb (s.base+d) (some (.one t (s.opA x)))).put o.dst (.ptr t (s.base+d) [])) else none
 | .makeSlice T l c=>match l with
  | .tmp i=>(E.L T).bind λt=>o.dst.bind λd=>match t,c with
   | .sl e,.tmp j=>if i=j then(isD (s.tm i)).bind λa=>(a.2.natOf).bind λn=>if n<=1073741824 then K ((s.setOb (s.base+d) (some (.many e (List.replicate n (az e))))).put o.dst (.mem e (s.base+d))) else none else none
   | _,_=>none
  | _=>qv E s o λv=>K (s.put o.dst v)
 | .call c=>match c.callee with
  | .builtin .append=>(c.argTypes[0]?).bind λT=>(E.L T).bind λt=>o.dst.bind λd=>match t,c.args.toList,c.argTypes.toList with
   | .sl e,[x,y],[_,T']=>match E.L T' with
    | some (.sl _)=>((s.opA y).asList s.ob e).bind λl'=>match s.opA x with
     | .own q v l=>if q.beq e&&!(s.dead.contains v) then(if l.length+l'.length<=1073741824 then K ({ s with dead:=v::s.dead }.put o.dst (.own e (s.base+d) (l++l'))) else none) else none
     | .nils=>if l'.length<=1073741824 then K (s.put o.dst (.own e (s.base+d) l')) else none
     | _=>none
    | _=>none
   | _,_,_=>none
  | .builtin .copy=>match c.args.toList,c.argTypes.toList with
   | [x,y],[T,_]=>match E.L T with
    | some (.sl (.int k))=>match s.opA x,s.opA y with
     | .sub true e id [] lo n,.sub true q r C A B=>match s.ob id,s.ob r with
      | some (.one (.arr m f) (.d g x)),some o'=>gP o' C λv=>match v with
       | .d (.arr O N) y=>
       if e.beq (.int k)&&q.beq (.int k)&&f.beq (.int k)&&g.beq (.arr m f)&&!(s.lkO.contains id) then
        x.stl.bind λl=>y.stl.bind λl'=>K ((s.setOb id (some (.one (.arr m f) (.d g (.st (l.take lo++((l'.drop A).take (min B n)++l.drop (lo+min B n)))))))).put o.dst (.d (.int .i64) (.int .i64 (min B n:Nat))))
       else none
       | _=>none
      | _,_=>none
     | _,_=>none
    | _=>none
   | _,_=>none
  | _=>qv E s o λv=>K (s.put o.dst v)
 | _=>qv E s o λv=>K (s.put o.dst v)
def pA(s:St)(o:Oper):Bool:=match o.dst with|some d=>s.lkS.contains d|none=>false
def UO{R:Type}(E:Env)(s:St)(o:Oper)(K:St->Option R):Option R:=if pA s o then none else vr E s o K
def gX(E:Env):List Oper->St->St
 | [],s=>s
 | o::l,s=>gX E l (match o.op,o.dst with
  | .alloc T,some d=>match E.alOb T with
   | some x=>s.setOb (s.base+d) (some x)
   | none=>s
  | _,_=>s)
def killD(s:St):List Oper->St
 | []=>s
 | o::l=>killD (s.put o.dst .undef) l
def zj(i:Nat)(o:Oper):Bool:=match o.guard with|some (j,_)=>decide (j=i)|none=>false
def sn(d:Option Nat)(o:Oper):Bool:=match o.op,d with|.pick (.tmp c) _ _,some d=>decide (c=d)|_,_=>false
def eC(d:Option Nat):List (Nat×Oper)->List (Nat×Oper)×List (Nat×Oper)
 | []=>([],[])
 | p::l=>if sn d p.2 then([],p::l) else let r:=eC d l;(p::r.1,r.2)
def gO(o:Oper):Bool:=match o.op with
 | .store ..|.box ..|.makeSlice ..|.makeMap ..|.mapUpdate ..|.alloc _=>false
 | .call c=>match c.callee with|.builtin .append=>false|.builtin .copy=>false|_=>true
 | _=>true
def AF(o:Oper):Bool:=match o.op with
 | .alloc _=>true|.box ..=>true|.makeSlice ..=>true|.makeMap ..=>true|.buildSlice ..=>true
 | .call c=>match c.callee with|.builtin .append=>true|.value (.func _)=>true|_=>false
 | _=>false
def mW(E:Env)(o:Oper):Bool:=match o.op with
 | .call c=>match c.callee with|.value (.func f)=>(E.inl f).isSome|.value (.tmp t)=>!E.pv t|_=>false
 | _=>false
def tV(s:St)(c:Call):Option (Nat×List AV):=match c.callee with
 | .value (.func f)=>some (f,c.args.toList.map s.opA)
 | .value (.tmp t)=>match s.tm t with|.clo f l=>if l.all gA then some (f,c.args.toList.map s.opA++l) else none|_=>none
 | _=>none
def um(i:Nat)(l:List (Nat×Oper)):Bool:=match l with|p::_=>zj i p.2|[]=>false
def A0{α:Type}(x:AV)(A B:Option α):Option α:=match x with|.gone=>A|_=>B
theorem gw{α:Type}{A B:Option α}:A0 .gone A B=A:=rfl
def gz{α:Type}{x:AV}{A B:Option α}(h:x≠.gone):A0 x A B=B:=by cases x<;>first|rfl|exact zgb rfl h
def fF(s:St):List Nat:=(List.range s.nt).filterMap λt=>match s.tm t with|.own _ v _=>if s.dead.contains v then none else some v|_=>none
def yz(s:St)(a:List Nat):List Nat:=(fF s).filter λv=>!(a.contains v)
def E2(s:St)(a:List AV):Ty->List Nat
 | .sl t=>a.filterMap λx=>match x with|.own b v _=>if b.beq t&&!(s.dead.contains v) then some v else none|_=>none
 | _=>[]
def mA:Option Ob->Option Ob->Bool
 | some (.one t _),some (.one b _)=>t.beq b
 | some (.many t _),some (.many b _)=>t.beq b
 | some (.mp d vt _),some (.mp a c _)=>d.beq a&&vt.beq c
 | some (.fv _),some (.fv _)=>true
 | _,none=>true
 | _,_=>false
def MQ(ob a:Nat->Option Ob):AV->Bool
 | .ptr _ id _=>mA (ob id) (a id)
 | _=>false
def sM(s sc:St)(n:Nat)(c a:List Nat):AV->AV
 | .d t x=>.d t x
 | .own t v l=>if s.dead.contains v||a.contains v then .d (.sl t) (.sl l) else .own t (n+c.idxOf v) l
 | .nils=>.nils
 | .ptr t id p=>if mA (s.ob id) (sc.ob id) then .ptr t id p else .undef
 | .fptr t x=>.fptr t x
 | .clo f l=>if l.all (MQ s.ob sc.ob) then .clo f l else .undef
 | .map b vt id=>if mA (s.ob id) (sc.ob id) then .map b vt id else .undef
 | .yld id=>.yld id
 | _=>.undef
def Rg(s:St)(nt:Nat)(a:List AV)(b:List Nat):St:={ tm:=λi=>a.getD i .undef,ob:=s.ob,fresh:=s.fresh+1,dead:=yz s b++s.dead,nt:=nt,lkS:=[],lkO:=s.lkO }
def pL(s sc:St)(a:List Nat):St:={ tm:=λi=>if i<s.nt then sM s sc ((sc.fresh+1)*4096) (yz s a) a (s.tm i) else .undef,ob:=sc.ob,fresh:=sc.fresh+1,dead:=sc.dead,nt:=s.nt,lkS:=s.lkS,lkO:=s.lkO }
def mG:List (Nat×AV)->(Nat->AV)->Nat->AV
 | [],f=>f
 | (p,a)::l,f=>mG l λt=>if t=p then a else f t
def L7(s:St)(i:LpI)(id:Nat)(a:List AV):St:=
 { tm:=mG (i.ps.zip a) λt=>if t<i.nt then pj s.ob (i.caps t) else .undef,ob:=s.ob,fresh:=s.fresh+1,dead:=fF s++s.dead,nt:=i.nt,lkS:=[],lkO:=id::s.lkO }
def Wj(s:St)(c:Call):Option (Nat×LpI×List AV):=match c.callee with
 | .value (.tmp t)=>match s.tm t with
  | .yld id=>match s.ob id with
   | some (.lp i none)=>some (id,i,c.args.toList.map s.opA)
   | _=>none
  | _=>none
 | _=>none
def leaveY(s:St)(id:Nat)(i:LpI)(p:Option Ex):St:={ s with tm:=λ_=>.undef,ob:=λj=>if j=id then some (.lp i p) else s.ob j }
def evY{R:Type}(E:Env)(an:Ann)(s:St)(id:Nat)(i:LpI)(a:List AV)(K:AV->St->Option R):Option R:=
 if a.length=i.ps.length/\(i.ps.all λp=>decide (p<i.nt))=true/\(fF s).length<=4096 then
  E.cod i.asg an.fst R (L7 s i id a) λe s1=>match e with
   | .normal=>match s1.ob id with
    | some (.lp _ none)=>E.cod i.bdy an.snd R (s1.setOb id none) λe s2=>match e with
     | .normal=>K (.d .bool (.bool true)) (pL s (leaveY s2 id i none) [])
     | e=>K (.d .bool (.bool false)) (pL s (leaveY s2 id i (some e)) [])
    | _=>none
   | _=>none
 else none
def evN{R:Type}(E:Env)(f:Operand)(ps:Array Tmp)(asg bdy:Code)(an:Ann)(s:St)(k:Ex->St->Option R):Option R:=
 match f with
 | .tmp t=>match s.tm t with
  | .clo g l=>if l.all gA&&!(s.lkO.contains 4095) then(E.inl g).bind λG=>
    G an R ({ s with fresh:=s.fresh+1 }.setOb ((s.fresh+1)*4096) (some (.lp { nt:=s.nt,ps:=ps.toList,asg:=asg,bdy:=bdy,caps:=λj=>km s.ob (s.tm j) } none))) (.yld ((s.fresh+1)*4096)::l) λ_ s2=>
     match s2.ob ((s.fresh+1)*4096) with
     | some (.lp _ none)=>k .normal (s2.setOb ((s.fresh+1)*4096) none)
     | some (.lp _ (some e))=>k e (s2.setOb ((s.fresh+1)*4096) none)
     | _=>none
   else none
  | _=>none
 | _=>none
def Zp{R:Type}(E:Env)(an:Ann)(s:St)(o:Oper)(K:AV->St->Option R):Option R:=match o.op with
 | .call c=>match Wj s c with
  | some q=>evY E an s q.1 q.2.1 q.2.2 K
  | none=>(tV s c).bind λq=>(E.inl q.1).bind λg=>g an R s q.2 K
 | _=>none
def vC(E:Env)(o:Oper)(an:Ann):Ann:=if mW E o then an.snd else an
def yg(s:St):St:={ s with fresh:=s.fresh+1 }
def ET{R:Type}(E:Env)(an:Ann)(l:List (Nat×Oper))(s:St)(o:Oper)(K:St->Option R):Option R:=
 if mW E o then(if l.all λp=>!(AF p.2) then Zp E an.fst s o λv s'=>K (s'.put o.dst v) else if dw ((l.map Prod.snd).filterMap (·.dst)) then Zp E an.fst s o λv s'=>K (gX E (l.map Prod.snd) (yg (s'.put o.dst v))) else none) else vr E s o K
def nY(E:Env)(s:St)(i:Nat)(o:Oper)(l:List (Nat×Oper)):Bool:=
 um i l&&(match (eC o.dst l).2,o.dst with
  | (_,a)::_,some d=>decide (d<s.nt)&&a.guard.isNone&&gO o&&!(mW E o)&&(eC o.dst l).1.all (λ(p:Nat×Oper)=>(gO p.2&&!(pA s p.2)&&!(mW E p.2)))&&!(pA s a)
  | _,_=>false)
def fV(E:Env):Nat->(R:Type)->(ops:Array Oper)->Ann->List (Nat×Oper)->St->(St->Option R)->Option R
 | 0,_,_,_,_,_,_=>none
 | _+1,_,_,_,[],s,k=>k s
 | n+1,R,ops,an,(i,o)::l,s,k=>
  match o.guard with
  | some (j,want)=>match (ops[j]?).bind (·.dst) with
   | some g=>if pA s o then none else A0 (s.tm g) (fV E n R ops (vC E o an) l (s.put o.dst .gone) k)
    ((s.tm g).truth.bind λc=>
    if c then(if want then ET E an l (s.put (some g) (.d .bool (.bool true))) o λs'=>fV E n R ops (vC E o an) l s' k else fV E n R ops (vC E o an) l ((s.put (some g) (.d .bool (.bool true))).put o.dst .gone) k)
    else(if want then fV E n R ops (vC E o an) l ((s.put (some g) (.d .bool (.bool false))).put o.dst .gone) k else ET E an l (s.put (some g) (.d .bool (.bool false))) o λs'=>fV E n R ops (vC E o an) l s' k))
   | none=>none
  | none=>
   if nY E s i o l then
    let sp:=eC o.dst l
    match sp.2,o.dst with
    | (_,a)::l',some d=>
      UO E s o λs1=>(s1.tm d).truth.bind λc=>
      (if c then fV E n Bool ops .leaf sp.1 (s1.put (some d) (.d .bool (.bool true))) λs2=>qv E s2 a AV.truth
       else fV E n Bool ops .leaf sp.1 (s1.put (some d) (.d .bool (.bool false))) λs2=>qv E s2 a AV.truth).bind λx=>
      fV E n R ops an l' ((killD s1 (sp.1.map Prod.snd)).put a.dst (.d .bool (.bool x))) k
    | _,_=>none
   else if pA s o then none else ET E an l s o λs'=>fV E n R ops (vC E o an) l s' k
def be:Nat->List Oper->List (Nat×Oper)
 | _,[]=>[]
 | i,o::l=>(i,o)::be (i+1) l
def iC(s:St):List Nat->St
 | []=>s
 | t::l=>iC (match s.tm t with
  | .mem a id=>match s.ob id with
   | some (.many u l)=>if a.beq u&&!(s.lkO.contains id) then{ s.setOb id none with tm:=λi=>if i=t then .d (.sl u) (.sl l) else s.tm i } else s
   | _=>s
  | _=>s) l
def cG:List (Nat×ShO)->List Nat
 | []=>[]
 | (id,.keep ..)::l=>id::cG l
 | (id,.lp ..)::l=>id::cG l
 | _::l=>cG l
mutual
def AV.same:AV->AV->Bool
 | .ptr t id p,.ptr t' id' p'=>t.beq t'&&decide (id=id')&&decide (p=p')
 | .mem t id,.mem t' id'=>t.beq t'&&decide (id=id')
 | .map kt vt id,.map kt' vt' id'=>kt.beq kt'&&vt.beq vt'&&decide (id=id')
 | .clo f l,.clo f' l'=>decide (f=f')&&ake l l'
 | .yld id,.yld id'=>decide (id=id')
 | .sub sl t id p lo n,.sub sl' t' id' p' lo' n'=>decide (sl=sl')&&t.beq t'&&decide (id=id')&&decide (p=p')&&decide (lo=lo')&&decide (n=n')
 | _,_=>false
def ake:List AV->List AV->Bool
 | [],[]=>true
 | a::l,a'::l'=>AV.same a a'&&ake l l'
 | _,_=>false
end
def D.els:D->List D|.sl l=>l|_=>[]
mutual
def Sh.mk(b:Nat):Sh->Nat->List D->AV×Nat
 | .dv t,j,s=>(.d t (s.getD j (.bool false)),j+1)
 | .ow t,j,s=>(.own t (b+j) (s.getD j (.bool false)).els,j+1)
 | .same a,j,_=>(a,j)
 | .st ts l,j,s=>let r:=akR b l j s;(.st ts r.1,r.2)
def akR(b:Nat):List Sh->Nat->List D->List AV×Nat
 | [],j,_=>([],j)
 | h::l,j,s=>let r:=Sh.mk b h j s;let q:=akR b l r.2 s;(r.1::q.1,q.2)
end
mutual
def Sh.dec(ob:Nat->Option Ob)(dead:List Nat):Sh->AV->Option (List D)
 | .dv t,a=>(akf ob t a).bind λx=>some [x]
 | .ow t,.own t' v l=>if t.beq t'&&!(dead.contains v) then some [.sl l] else none
 | .ow _,.nils=>some [.sl []]
 | .same a,a'=>if AV.same a a' then some [] else none
 | .st ts l,.st ts' l'=>if Ty.beqs ts ts' then akP ob dead l l' else none
 | _,_=>none
def akP(ob:Nat->Option Ob)(dead:List Nat):List Sh->List AV->Option (List D)
 | [],[]=>some []
 | h::l,a::l'=>(Sh.dec ob dead h a).bind λx=>(akP ob dead l l').bind λy=>some (x++y)
 | _,_=>none
end
def AV.still:AV->AV
 | .d t x=>.d t x
 | .own t _ l=>.d (.sl t) (.sl l)
 | .fptr t x=>.fptr t x
 | _=>.undef
def Ob.still(t:Ty):Option Ob->Option Ob
 | some (.one a (.d u x))=>if t.beq a then some (.one a (.d u x)) else none
 | _=>none
def akF(p:Option Ex):Option Ob->Option Ob
 | some (.lp i _)=>some (.lp i p)
 | _=>none
mutual
def akU:Sh->AV->List Nat
 | .ow _,.own _ v _=>[v]
 | .st _ l,.st _ l'=>akV l l'
 | _,_=>[]
def akV:List Sh->List AV->List Nat
 | h::l,a::l'=>akU h a++akV l l'
 | _,_=>[]
end
def ak1(b:Nat):List (Nat×Sh)->Nat->List D->(Nat->AV)->(Nat->AV)×Nat
 | [],j,_,f=>(f,j)
 | (t,h)::l,j,s,f=>let r:=Sh.mk b h j s;ak1 b l r.2 s (λi=>if i=t then r.1 else f i)
def ak0(b:Nat)(base:Nat->Option Ob):List (Nat×ShO)->Nat->List D->(Nat->Option Ob)->(Nat->Option Ob)
 | [],_,_,f=>f
 | (id,.one t h)::l,j,s,f=>let r:=Sh.mk b h j s;ak0 b base l r.2 s (λi=>if i=id then some (.one t r.1) else f i)
 | (id,.many t)::l,j,s,f=>ak0 b base l (j+1) s (λi=>if i=id then some (.many t (s.getD j (.bool false)).els) else f i)
 | (id,.mp c vt)::l,j,s,f=>ak0 b base l (j+1) s (λi=>if i=id then some (.mp c vt (s.getD j (.bool false)).els) else f i)
 | (id,.keep t _)::l,j,s,f=>ak0 b base l j s (λi=>if i=id then Ob.still t (base id) else f i)
 | (id,.lp p _)::l,j,s,f=>ak0 b base l j s (λi=>if i=id then akF p (base id) else f i)
 | (id,.fv a)::l,j,s,f=>ak0 b base l j s (λi=>if i=id then some (.fv a) else f i)
def Shape.mk'(h:Shape)(base:St)(s:List D)(lkS lkO:List Nat):St:=
 let b:=(base.fresh+1)*4096
 let r:=ak1 b h.slots 0 s (λi=>if h.keepS.contains i then(base.tm i).still else .undef)
 { tm:=r.1,ob:=ak0 b base.ob h.objs r.2 s (λ_=>none),fresh:=base.fresh+1,dead:=[],nt:=base.nt,lkS,lkO }
def akZ(s:St):List (Nat×Sh)->Option (List D)
 | []=>some []
 | (t,h)::l=>(Sh.dec s.ob s.dead h (s.tm t)).bind λx=>(akZ s l).bind λy=>some (x++y)
def akY(s:St):List (Nat×ShO)->Option (List D)
 | []=>some []
 | (id,.one t h)::l=>match s.ob id with
  | some (.one b v)=>if t.beq b then(Sh.dec s.ob s.dead h v).bind λx=>(akY s l).bind λy=>some (x++y) else none
  | _=>none
 | (id,.many t)::l=>match s.ob id with
  | some (.many b v)=>if t.beq b then(akY s l).bind λy=>some (.sl v::y) else none
  | _=>none
 | (id,.mp e vt)::l=>match s.ob id with
  | some (.mp c d v)=>if e.beq c&&vt.beq d then(akY s l).bind λy=>some (.sl v::y) else none
  | _=>none
 | (id,.keep t _)::l=>match s.ob id with
  | some (.one b _)=>if t.beq b then akY s l else none
  | _=>none
 | (id,.lp p _)::l=>match s.ob id with
  | some (.lp _ f)=>if Fu p f then akY s l else none
  | _=>none
 | (id,.fv a)::l=>match s.ob id with
  | some (.fv v)=>if AV.same a v then akY s l else none
  | _=>none
def ak3(s:St):List (Nat×Sh)->List Nat
 | []=>[]
 | (t,h)::l=>akU h (s.tm t)++ak3 s l
def ak2(s:St):List (Nat×ShO)->List Nat
 | []=>[]
 | (id,.one _ h)::l=>(match s.ob id with|some (.one _ v)=>akU h v|_=>[])++ak2 s l
 | _::l=>ak2 s l
mutual
def AV.old(n:Nat):AV->Bool
 | .ptr _ id _=>decide (id<n)
 | .mem _ id=>decide (id<n)
 | .map _ _ id=>decide (id<n)
 | .clo _ l=>akd n l
 | .yld id=>decide (id<n)
 | .sub _ _ id _ _ _=>decide (id<n)
 | _=>false
def akd(n:Nat):List AV->Bool
 | []=>true
 | a::l=>AV.old n a&&akd n l
end
mutual
def Sh.cnt:Sh->Nat
 | .dv _=>1
 | .ow _=>1
 | .same _=>0
 | .st _ l=>akO l
def akO:List Sh->Nat
 | []=>0
 | h::l=>Sh.cnt h+akO l
end
mutual
def Sh.fits:Ty->Sh->Bool
 | t,.dv t'=>t.beq t'
 | t,.ow e=>t.beq (.sl e)
 | _,.same _=>false
 | t,.st ts l=>t.beq (.st ts)&&Sh.fitss ts l
def Sh.fitss:List Ty->List Sh->Bool
 | [],[]=>true
 | t::ts,h::l=>Sh.fits t h&&Sh.fitss ts l
 | _,_=>false
end
mutual
def Sh.fine(n:Nat):Sh->Bool
 | .dv t=>ak t
 | .ow t=>ak t
 | .same a=>AV.old n a
 | .st ts l=>aR ts&&Sh.fitss ts l&&akQ n l
def akQ(n:Nat):List Sh->Bool
 | []=>true
 | h::l=>Sh.fine n h&&akQ n l
end
def ShO.cnt:ShO->Nat
 | .one _ h=>h.cnt
 | .many _=>1
 | .mp ..=>1
 | .keep ..=>0
 | .lp ..=>0
 | .fv _=>0
def ShO.fine(n:Nat)(base:St)(id:Nat):ShO->Bool
 | .one t h=>Sh.fine n h&&Sh.fits t h
 | .many _=>true
 | .mp ..=>true
 | .keep _ c=>match base.tm c with|.ptr _ b _=>decide (id=b)&&decide (c<base.nt)|_=>false
 | .fv a=>AV.old n a&&mZ a
 | .lp _ c=>(match base.tm c with|.yld b=>decide (id=b)|.ptr _ v []=>(match base.ob v with|some (.fv (.yld b))=>decide (id=b)|_=>false)|_=>false)&&decide (c<base.nt)
def akX:List (Nat×Sh)->Nat
 | []=>0
 | p::l=>p.2.cnt+akX l
def akW:List (Nat×ShO)->Nat
 | []=>0
 | p::l=>p.2.cnt+akW l
def Shape.good(h:Shape)(base:St):Bool:=
 dw (h.slots.map (·.1))&&dw (h.objs.map (·.1))&&(h.objs.all λp=>decide (p.1<(base.fresh+1)*4096)&&ShO.fine ((base.fresh+1)*4096) base p.1 p.2)&&h.slots.all (λp=>decide (p.1<base.nt)&&Sh.fine ((base.fresh+1)*4096) p.2)&&decide (akX h.slots+akW h.objs<=4096)
def Shape.dec(h:Shape)(base s:St):Option (List D):=
 if h.good base&&dw (ak3 s h.slots++ak2 s h.objs) then(akZ s h.slots).bind λx=>(akY s h.objs).bind λy=>some (x++y) else none
def so{α β:Type}(body:α->Option (Sum α β))(n:Nat):α->Option β:=
 Nat.rec (motive:=λ_=>α->Option β) (λ_=>none) (λ_ ih a=>match body a with
  | none=>none
  | some (.inl a')=>ih a'
  | some (.inr b)=>some b) n
def tY{α β:Type}(body:α->Option (Sum α β))(a:α):so body 0 a=none:=rfl
theorem lF{α β:Type}(body:α->Option (Sum α β))(n:Nat)(a:α):so body (n+1) a=match body a with
  | none=>none
  | some (.inl a')=>so body n a'
  | some (.inr b)=>some b:=rfl
theorem tX{α β:Type}{body:α->Option (Sum α β)}:∀ {n:Nat} {a:α} {b:β} (m:Nat),so body n a=some b->so body (n+m) a=some b
 | 0,_,_,_,h=>by simp[tY] at h
 | n+1,a,b,m,h=>by
  rw[show n+1+m=(n+m)+1 by omega]
  simp only[lF] at h ⊢;cases hb:body a with
  | none=>rw[hb] at h;simp at h
  | some x=>cases x with
   | inl a'=>rw[hb] at h;exact tX m h
   | inr c=>rw[hb] at h;exact h
open Classical in
def nJ{α β:Type}(body:α->Option (Sum α β))(a:α):Option β:=
 if h:∃ n b,so body n a=some b then some (Classical.choose (Classical.choose_spec h)) else none
def qx{α β:Type}{body:α->Option (Sum α β)}{a:α}{b:β}(h:nJ body a=some b):∃ n,so body n a=some b:=by
 unfold nJ at h;split at h
 ·grind
 ·cases h
theorem lg{α β:Type}{body:α->Option (Sum α β)}{a:α}{b:β}{n:Nat}(h:so body n a=some b):nJ body a=some b:=by have hh:∃ n b,so body n a=some b:=⟨n,b,h⟩;unfold nJ;rw[dif_pos hh];have c:=Classical.choose_spec (Classical.choose_spec hh);have d:=tX (Classical.choose hh) h;have e:=tX n c;grind
def cB{α β:Type}{body:α->Option (Sum α β)}{a a':α}(h:body a=some (.inl a')):nJ body a=nJ body a':=by
 cases h2:nJ body a' with
 | some b=> obtain⟨n,hn⟩:=qx h2;exact lg (n:=n+1) (by simp only[lF,h];exact hn)
 | none=>
  cases h3:nJ body a with
  | none=>rfl
  | some b=>
   obtain⟨n,hn⟩:=qx h3;cases n with
   | zero=>simp[tY] at hn
   | succ n=> grind [lF,lg]
def cT{α β:Type}{body:α->Option (Sum α β)}{a:α}{b:β}(h:body a=some (.inr b)):nJ body a=some b:=
 lg (n:=1) (by simp only[lF,h])
def wN(e:Ex):List (Ex×Shape)->Nat->Option (Nat×Shape)
 | [],_=>none
 | (a,h)::l,j=>if e.is a then some (j,h) else wN e l (j+1)
def subset(l l':List Nat):Bool:=l.all λx=>l'.contains x
def nE{R:Type}(base:St)(k:Ex->St->Option R)(keepS a:List Nat):List (Ex×Shape)->Nat->Nat×List D->Option R
 | [],_,_=>none
 | [(e,h)],_,r=>if subset h.keepS keepS&&subset (cG h.objs) a then k e (h.mk' base r.2 base.lkS base.lkO) else none
 | (e,h)::l,j,r=>if subset h.keepS keepS&&subset (cG h.objs) a then(if r.1=j then k e (h.mk' base r.2 base.lkS base.lkO) else nE base k keepS a l (j+1) r) else none
def F6(base:St)(a:List (Ex×Shape))(e:Ex)(s:St):Option (Nat×List D):=(wN e a 0).bind λq=>(q.2.dec base s).bind λv=>some (q.1,v)
def cV(ops:List Oper):Bool:=dw (ops.filterMap (·.dst))&&(ops.all λo=>match o.dst with|some d=>decide (d<4096)|none=>true)&&ops.all λo=>match o.op with|.store ..=>o.dst.isNone|_=>true
def tJ(E:Env)(ops:Array Oper)(n:Nat):Bool:=
 ((ops.toList.take n).all λo=>!(mW E o))&&Region.noSelect ops&&Region.lexHead .any ops (ops.size-n) n 0 (Array.replicate ops.size false)&&(decide (n=ops.size)||(decide (n<ops.size)&&Region.sinkB .any ops n&&Region.chainB .any ops n)) &&
 ((ops.toList.take n).all λo=>gO o||(match o.op with|.alloc _=>true|_=>false))&&(ops.toList.drop n).all λo=>o.guard.isNone&&(match o.op with|.pick ..=>false|_=>true)
def wY(o:Oper):Bool:=match o.op with|.fieldAddr ..=>true|.load ..=>true|.build ..=>true|.alloc _=>true|.extract ..=>true|.move _=>true|.binOp ..=>true|.indexAddr ..=>true|.call c=>(match c.callee with|.builtin .len=>true|.builtin .max=>true|.builtin .min=>true|_=>false)|_=>false
def w6{R:Type}(E:Env)(ops:Array Oper)(n id i:Nat)(s:St)(K:AV->Option R):Option R:=
 match ops[i]? with
 | none=>none
 | some o=>if pA s o then none else if Region.waitsFor .any ops n i then qv E s o K else if wY o then qv E (s.setOb id none) o K else none
def UU{R:Type}(E:Env)(ops:Array Oper)(n id:Nat):Nat->Nat->St->(St->Option R)->Option R
 | 0,_,s,K=>K s
 | c+1,k,s,K=>w6 E ops n id k s λv=>UU E ops n id c (k+1) (s.put ((ops[k]?).bind (·.dst)) v) K
def wZ(ops:Array Oper)(n:Nat):Bool:=
 match ops[n]? with
 | some o=>match o.op with
  | .store _ (.tmp p) (.tmp x)=>((List.range ops.size).all λj=>match (ops[j]?).bind (·.dst) with|some d=>!(decide (d=p)||decide (d=x))||Region.waitsFor .any ops n j|none=>true) &&
    ((ops.toList.take n).all λo=>(gO o||(match o.op with|.alloc _=>true|_=>false))&&o.guard.isNone)&&((ops.toList.drop n).all λo=>o.guard.isNone&&(match o.op with|.pick ..=>false|_=>true)) &&
    Region.noSelect ops&&Region.lexHead .any ops (ops.size-(n+1)) (n+1) 0 (Array.replicate ops.size false)&&(decide (n+1=ops.size)||(decide (n+1<ops.size)&&Region.sinkB .any ops (n+1)&&Region.chainB .any ops (n+1)))
  | _=>false
 | none=>false
def mz(ops:Array Oper)(n:Nat)(s:St):Nat:=match ops[n]? with
 | some o=>match o.op with
  | .store _ (.tmp p) _=>if ops.toList.any (λq=>match q.op,q.dst with|.alloc _,some d=>decide (d=p)|_,_=>false) then s.base+p else match s.tm p with
   | .ptr _ id _=>id
   | _=>0
  | _=>0
 | none=>0
def wX(ops:Array Oper)(n:Nat)(s:St):Option Nat:=match ops[n]? with
 | some o=>match o.op with
  | .store _ (.tmp p) _=>match s.tm p with
   | .ptr t id []=>if t.beq .fn then none else some id
   | _=>none
  | _=>none
 | none=>none
def lq(E:Env)(o:Oper):Bool:=(gO o||(match o.op with|.alloc _=>true|_=>false))&&!(mW E o)
def xV(ops:Array Oper):Nat->List Nat
 | 0=>[]
 | n+1=>let l:=xV ops n;l++[match ops[n]? with
  | some o=>o.after.toList.foldl (λm e=>if Region.binds .any e&&decide (e.on<n) then(m ||| 2^e.on) ||| l.getD e.on 0 else m) 0
  | none=>0]
def nV(E:Env)(ops:Array Oper)(i:Nat)(o:Oper):Nat->Nat->Bool
 | 0,_=>true
 | f+1,j=>match ops[j]? with
  | none=>true
  | some a=>if lq E a then(a.after.any (λe=>Region.binds .any e&&e.on==i)||o.apart ops a)&&nV E ops i o f (j+1) else true
def jz(E:Env)(ops:Array Oper):Bool:=
 let l:=xV ops ops.size
 (List.range ops.size).all λi=>match ops[i]? with
  | none=>true
  | some o=>(o.after.toList.all λe=>!(Region.binds .any e)||decide (e.on<i)) &&
   (if lq E o then nV E ops i o ops.size (i+1) else(List.range ops.size).all λj=>if j<i then Nat.testBit (l.getD i 0) j else decide (j=i)||Nat.testBit (l.getD j 0) i)
def ev(E:Env):Code->Ann->(R:Type)->St->(Ex->St->Option R)->Option R
 | .skip,_,_,s,k=>k .normal s
 | .label _,_,_,s,k=>k .normal s
 | .exit id,_,_,s,k=>k (.exit id) s
 | .ret,_,_,s,k=>k .ret s
 | .region _ ops dr,a,R,s,k=>
  let s1:=gX E ops.toList { iC s a.fz with fresh:=s.fresh+1 }
  if cV ops.toList&&(!dr||tJ E ops (a.heads ops.size)) then fV E (ops.size+1) R ops a.inner (be 0 ops.toList) s1 (λs'=>k .normal s')
  else if cV ops.toList&&wZ ops (a.heads ops.size) then UU E ops (a.heads ops.size) (mz ops (a.heads ops.size) s1) (a.heads ops.size) 0 s1 λs2=>if wX ops (a.heads ops.size) s2=some (mz ops (a.heads ops.size) s1) then fV E (ops.size+1) R ops a.inner ((be 0 ops.toList).drop (a.heads ops.size)) s2 (λs'=>k .normal s') else none
  else if cV ops.toList&&(dr&&jz E ops) then fV E (ops.size+1) R ops a.inner (be 0 ops.toList) s1 (λs'=>k .normal s')
  else none
 | .seq c d,.cut g l i a b,R,s,k=>
  (ev E c a (Nat×List D) { s with lkS:=l++s.lkS,lkO:=i++s.lkO } (F6 s g)).bind λr=> nE s (λe s'=>match e with|.normal=>ev E d b R s' k|e=>k e s') l i g 0 r
 | .seq c d,a,R,s,k=>ev E c a.fst R s λe s'=>match e with
  | .normal=>ev E d a.snd R s' k
  | e=>k e s'
 | .cond c x y,a,R,s,k=>(s.opA c).truth.bind λt=>if t then ev E x a.fst R s k else ev E y a.snd R s k
 | .block id c,a,R,s,k=>ev E c a.fst R s λe s'=>match e with
  | .exit j=>if j=id then k .normal s' else k (.exit j) s'
  | e=>k e s'
 | .scope c,a,R,s,k=>ev E c a R s k
 | .rangeFunc f ps asg bdy,a,_,s,k=>evN E f ps asg bdy a s k
 | .loop c,.loop h g a,R,s,k=>
  (h.dec s s).bind λv0=>(E.lp (λv=>ev E c a (Sum (List D) (Nat×List D)) (h.mk' s v (h.keepS++s.lkS) (cG h.objs++s.lkO)) λe s'=>match e with
    | .normal=>(h.dec s s').bind λv'=>some (.inl v')
    | e=>(F6 s g e s').bind λr=>some (.inr r)) v0).bind λr=>
   nE s k h.keepS (cG h.objs) g 0 r
 | _,_,_,_,_=>none
def NP(E:Env)(c:Code)(ann:Ann)(R:Type)(s:St)(k:Ex->St->Option R):Option R:=match ann with
 | .all b e d a=>(ev E c a (Nat×List D) { s with lkS:=e++s.lkS,lkO:=d++s.lkO } (F6 s b)).bind λr=>nE s k e d b 0 r
 | ann=>ev E c ann R s k
def gN(a:List Ty)(args:List D)(i:Nat):AV:=
 match a[i]?,args[i]? with
 | some t,some x=>.d t x
 | _,_=>.undef
def M5{R:Type}(E:Env)(s:St)(t:Ty)(k:D->Option R):ResultVar->Option R
 | .tmp i=>(akf s.ob t (s.tm i)).bind k
 | .cell i T=>(E.L T).bind λu=>match s.tm i with
  | .ptr b id p=>if u.beq b then(s.ob id).bind λo=>gP o p λa=>(akf s.ob t a).bind k else none
  | _=>none
def uQ{R:Type}(E:Env)(s:St):List Ty->List ResultVar->(List D->Option R)->Option R
 | [],[],k=>k []
 | t::ts,r::a,k=>M5 E s t (λx=>uQ E s ts a λxs=>k (x::xs)) r
 | _,_,_=>none
def results(E:Env)(s:St)(a:Ty)(b:List ResultVar):Option D:=
 match b with
 | [r]=>M5 E s a some r
 | b=>match a with
  | .tup ts=>uQ E s ts b λxs=>some (.tup xs)
  | _=>none
def evF(E:Env)(fn:Func)(ann:Ann)(b:List Ty)(a:Ty)(args:List D):Option D:=
 match fn.body with
 | none=>none
 | some c=>NP E c ann D { tm:=gN b args,ob:=λ_=>none,fresh:=0,dead:=[],nt:=fn.ntmps,lkS:=[],lkO:=[] } λe s=>match e with
  | .exit _=>none
  | _=>results E s a fn.results.toList
section
variable{S:Nat->Nat->Prop}{a l:List D}{y z:D}
mutual
theorem cL:∀ (t:Ty) (x:D),wt t x->ak t=true->x.flat.length=t.size
 | .int k,x,h,_=>by simp only[wt] at h;obtain⟨n,rfl⟩:=h;rfl
 | .bool,x,h,_=>by simp only[wt] at h;obtain⟨n,rfl⟩:=h;rfl
 | .str,x,h,_=>by simp only[wt] at h;obtain⟨n,rfl⟩:=h;rfl
 | .st ts,x,h,hn=>by simp only[wt] at h;obtain⟨l,rfl,h⟩:=h;simp only[D.flat,Ty.size];exact td ts l h (by simpa [ak] using hn)
 | .arr n t,x,h,hn=>by
  simp only[wt] at h;obtain⟨l,rfl,rfl,h⟩:=h;simp only[D.flat,Ty.size];simp only[ak] at hn
  induction l with
  | nil=>simp[N]
  | cons y l ih=>
   simp only[N,zAa,zPa];rw[cL t y (h y j2) hn,ih (λx hx=>h x (by simp[hx]))]
   rw[ztb,z6c,zgc]
 | .sl t,x,h,_=>by simp only[wt] at h;obtain⟨l,rfl,_⟩:=h;rfl
 | .tup ts,_,_,h=>by simp[ak] at h
 | .fn,x,h,_=>by simp[wt] at h
theorem td:∀ (ts:List Ty) (l:List D),fm ts l->aR ts=true->(N l).length=ale ts
 | [],l,h,_=>by simp only[fm] at h;subst h;rfl
 | t::ts,l,h,hn=>by simp only[fm] at h;obtain⟨d,l',rfl,h1,h2⟩:=h;simp only[aR,X] at hn;simp only[N,ale,zAa];rw[cL t d h1 hn.1,td ts l' h2 hn.2]
end
def cz(a b:List D):N (a++b)=N a++N b:=by
 induction a with
 | nil=>rfl
 | cons x a ih=>simp only[zrb,N,ih,zMa]
theorem aN{t:Ty}(hn:ak t=true):∀ (l:List D),(∀ x∈l,wt t x)->(N l).length=l.length*t.size
 | [],_=>by simp[N]
 | y::l,h=>by simp only[N,zAa,zPa];rw[cL t y (h y j2) hn,aN hn l (λx hx=>h x (by simp[hx])),ztb,z6c,zgc]
theorem cE{i:Nat}(h:l[i]?=some y):N l=N (l.take i)++(y.flat++N (l.drop (i+1))):=by
 obtain⟨hi,a⟩:=zra.1 h
 conv=>lhs;rw[<-zza i l,cz]
 rw[zob hi,a];rfl
def oC{i:Nat}(h:l[i]?=some y):N (l.set i z)=N (l.take i)++(z.flat++N (l.drop (i+1))):=by
 obtain⟨hi,b⟩:=zra.1 h;have a:(l.set i z)[i]?=some z:=by simp[hi]
 rw[cE a,List.take_set_of_le (zja i),List.drop_set_of_lt (zXc i)]
theorem ge:∀ {ts:List Ty} {l:List D} {i:Nat} {t:Ty},fm ts l->ts[i]?=some t->∃ y,l[i]?=some y/\wt t y
 | [],_,_,_,_,h=>by simp at h
 | u::ts,l,i,t,h,hi=>by
  simp only[fm] at h;obtain⟨d,l',rfl,h1,a⟩:=h;cases i with
  | zero=>simp at hi;subst hi;exact⟨d,rfl,h1⟩
  | succ i=>simp at hi;obtain⟨y,b,c⟩:=ge a hi;exact⟨y,by simpa using b,c⟩
theorem iP:∀ {ts:List Ty} {l:List D},fm ts l->l.length=ts.length
 | [],l,h=>by simp_all [fm]
 | t::ts,l,h=>by simp only[fm] at h;obtain⟨d,l',rfl,h1,a⟩:=h;simp[iP a]
theorem B3:∀ {ts:List Ty} {l:List D} {i:Nat} {t:Ty} {z:D},fm ts l->ts[i]?=some t->wt t z->fm ts (l.set i z)
 | [],_,_,_,_,_,h,_=>by simp at h
 | u::ts,l,i,t,z,h,hi,b=>by
  simp only[fm] at h;obtain⟨d,l',rfl,h1,a⟩:=h;cases i with
  | zero=>simp at hi;subst hi;simp only[List.set_cons_zero,fm];exact⟨z,l',rfl,b,a⟩
  | succ i=>simp at hi;simp only[List.set_cons_succ,fm];exact⟨d,_,rfl,h1,B3 a hi b⟩
theorem te:∀ {ts:List Ty} {l:List D} (i:Nat),fm ts l->fm (ts.take i) (l.take i)
 | ts,l,0,_=>by simp[fm]
 | [],l,i+1,h=>by simp_all [fm]
 | t::ts,l,i+1,h=>by simp only[fm] at h;obtain⟨d,l',rfl,h1,a⟩:=h;simp only[zac,fm];exact⟨d,_,rfl,h1,te i a⟩
theorem cc:∀ {ts:List Ty} {i:Nat} {t:Ty},aR ts=true->ts[i]?=some t->ak t=true
 | [],_,_,_,h=>by simp at h
 | u::ts,i,t,h,hi=>by
  simp only[aR,X] at h;cases i with
  | zero=>simp at hi;subst hi;exact h.1
  | succ i=>simp at hi;exact cc h.2 hi
theorem jh:∀ {ts:List Ty} (i:Nat),aR ts=true->aR (ts.take i)=true
 | ts,0,_=>by simp[aR]
 | [],i+1,_=>by simp[aR]
 | u::ts,i+1,h=>by simp only[aR,X] at h;simp only[zac,aR,X];exact⟨h.1,jh i h.2⟩
theorem eK:∀ (p:List Nat) {t u:Ty},ak t=true->aV t p=some u->ak u=true
 | [],t,u,h,hp=>by simp_all [aV,zca]
 | i::p,t,u,h,hp=>by
  cases t<;>simp only[aV] at hp
  case st ts=>
   cases hi:ts[i]? with
   | none=>rw[hi] at hp;cases hp
   | some v=>rw[hi] at hp;exact eK p (cc (by simpa [ak] using h) hi) hp
  case arr n v=>exact eK p (by simpa [ak] using h) hp
  all_goals cases hp
theorem j4:∀ (p:List Nat) {t u:Ty} {x y:D},wt t x->ak t=true->aV t p=some u->x.get p=some y ->
  wt u y/\∃ a b,x.flat=a++(y.flat++b)/\a.length=bi t p
 | [],t,u,x,y,h,hn,hp,c=>by
  have d:t=u:=by simp_all [aV]
  simp only[D.get,zca] at c;subst d;subst c;exact⟨h,[],[],j2,by cases t<;>rfl⟩
 | i::p,t,u,x,y,h,hn,hp,c=>by
  simp only[D.get] at c;cases hf:x.fld i with
  | none=>rw[hf] at c;cases c
  | some z=>
   rw[hf] at c;have e:=c;cases t<;>simp only[aV] at hp
   case st ts=>
    cases hi:ts[i]? with
    | none=>rw[hi] at hp;cases hp
    | some v=>
     rw[hi] at hp;have d:=hp;simp only[wt] at h;obtain⟨l,rfl,hl⟩:=h;simp only[D.fld] at hf;obtain⟨m,j,f⟩:=ge hl hi;rw[hf] at j;cases j;simp only[ak] at hn;obtain⟨h1,a,b,k,g⟩:=j4 p f (cc hn hi) d e;refine⟨h1,N (l.take i)++a,b++N (l.drop (i+1)),?_,?_⟩
     ·grind [D.flat,cE,List.append_assoc]
     ·simp only[bi,zAa,g];rw[td _ _ (te i hl) (jh i hn)]
      simp_all
   case arr n v=>
    simp only[wt] at h;obtain⟨l,rfl,hl,f⟩:=h;simp only[D.fld] at hf;simp only[ak] at hn;obtain⟨h1,a,b,k,g⟩:=j4 p (f z (zeb hf)) hn hp e;refine⟨h1,N (l.take i)++a,b++N (l.drop (i+1)),?_,?_⟩
    ·grind [D.flat,cE,List.append_assoc]
    ·grind [bi,List.length_append,aN,List.mem_of_mem_take,Nat.min_eq_left,Nat.le_of_lt]
   all_goals cases hp
theorem sU:∀ (p:List Nat) {t u:Ty} {x y k:D},wt t x->ak t=true->aV t p=some u->x.set p y=some k->wt u y ->
  wt t k/\∃ a c b,x.flat=a++(c++b)/\k.flat=a++(y.flat++b)/\a.length=bi t p/\c.length=u.size
 | [],t,u,x,y,k,h,hn,hp,d,m=>by
  have g:t=u:=by simp_all [aV]
  simp only[D.set,zca] at d;subst g;subst d;exact⟨m,[],x.flat,[],j2,j2,by cases t<;>rfl,cL _ _ h hn⟩
 | i::p,t,u,x,y,k,h,hn,hp,d,m=>by
  cases t<;>simp only[aV] at hp
  case st ts=>
   cases hi:ts[i]? with
   | none=>rw[hi] at hp;cases hp
   | some v=>
    rw[hi] at hp;have g:=hp;simp only[wt] at h;obtain⟨l,rfl,hl⟩:=h;simp only[D.set] at d;obtain⟨z,f,j⟩:=ge hl hi;rw[f] at d;cases hs:D.set z p y with
    | none=>rw[show((some z).bind λz=>(D.set z p y).bind λe=>some (D.st (l.set i e)))=(D.set z p y).bind λe=>some (D.st (l.set i e)) from rfl,hs] at d;cases d
    | some e=>
     rw[show((some z).bind λz=>(D.set z p y).bind λe=>some (D.st (l.set i e)))=(D.set z p y).bind λe=>some (D.st (l.set i e)) from rfl,hs] at d;simp only[zba,zca] at d;subst d;simp only[ak] at hn;obtain⟨h1,a,c,b,o,q,r,s⟩:=sU p j (cc hn hi) g hs m;refine⟨by simp only[wt];exact⟨_,rfl,B3 hl hi h1⟩,N (l.take i)++a,c,b++N (l.drop (i+1)),?_,?_,?_,s⟩
     ·simp only[D.flat];rw[cE f,o];simp[zMa]
     ·simp only[D.flat];rw[oC f,q];simp[zMa]
     ·simp only[bi,zAa,r];rw[td _ _ (te i hl) (jh i hn)];simp[List.getD,hi]
  case arr n v=>
   simp only[wt] at h;obtain⟨l,rfl,hl,j⟩:=h;simp only[D.set] at d;cases f:l[i]? with
   | none=>rw[f] at d;cases d
   | some z=>
    rw[f] at d;cases hs:D.set z p y with
    | none=>rw[show((some z).bind λz=>(D.set z p y).bind λe=>some (D.st (l.set i e)))=(D.set z p y).bind λe=>some (D.st (l.set i e)) from rfl,hs] at d;cases d
    | some e=>
     rw[show((some z).bind λz=>(D.set z p y).bind λe=>some (D.st (l.set i e)))=(D.set z p y).bind λe=>some (D.st (l.set i e)) from rfl,hs] at d;simp only[zba,zca] at d;subst d;simp only[ak] at hn;obtain⟨h1,a,c,b,o,q,r,s⟩:=sU p (j z (zeb f)) hn hp hs m;refine⟨?_,N (l.take i)++a,c,b++N (l.drop (i+1)),?_,?_,?_,s⟩
     ·simp only[wt];refine⟨_,rfl,by simpa using hl,λx hx=>?_⟩
      rcases zVc hx with h|h
      ·exact j x h
      ·rw[h];exact h1
     ·simp only[D.flat];rw[cE f,o];simp[zMa]
     ·simp only[D.flat];rw[oC f,q];simp[zMa]
     ·simp only[bi,zAa,r];rw[aN hn _ (λx hx=>j x (zSa hx))];have:=(zra.1 f).1;simp[zsb (zIc this)]
  all_goals cases hp
inductive CR(w:World)(S:Nat->Nat->Prop):D->Value->Prop
 | int (k:IntKind) (n:Int):CR w S (.int k n) (.int k n)
 | bool (b:Bool):CR w S (.bool b) (.bool b)
 | str (s:ByteArray):CR w S (.str s) (.string s)
 | sl (l:List D) (a:Option Addr) (cap b off:Nat) (c:Nat->Value) (ha:l=[]\/a=some ⟨b,off,none⟩) (hc:l.length<=cap)
   (h1:∀ i d,(N l)[i]?=some d->S b (off+i)/\w.cell? ⟨b,off+i,none⟩=some (c i))
   (h2:∀ i d,(N l)[i]?=some d->CR w S d (c i)):CR w S (.sl l) (.slice a l.length cap)
def CR.mono{w w':World}{S S':Nat->Nat->Prop}(hw:∀ b o,S b o->w'.cell? ⟨b,o,none⟩=w.cell? ⟨b,o,none⟩)(f:∀ b o,S b o->S' b o){d:D}{v:Value}(h:CR w S d v):CR w' S' d v:=by
 induction h with
 | int k n=>exact .int k n
 | bool b=>exact .bool b
 | str s=>exact .str s
 | sl l a cap b off c g hc h1 j ih=> exact .sl l a cap b off c g hc (λi d e=>⟨f _ _ (h1 i d e).1,by rw[hw _ _ (h1 i d e).1];exact(h1 i d e).2⟩) ih
def cY(w:World)(S:Nat->Nat->Prop)(a:List D)(cs:List Value):Prop:=a.length=cs.length/\∀ (i:Nat) (d:D) (c:Value),a[i]?=some d->cs[i]?=some c->CR w S d c
theorem cY.mono{w w':World}{S S':Nat->Nat->Prop}(hw:∀ b o,S b o->w'.cell? ⟨b,o,none⟩=w.cell? ⟨b,o,none⟩)(e:∀ b o,S b o->S' b o){d:List D}{v:List Value}(h:cY w S d v):cY w' S' d v:=
 ⟨h.1,λi d c h1 a=>(h.2 i d c h1 a).mono hw e⟩
def cY.nil{w:World}:cY w S [] []:=⟨rfl,λi d c h=>by simp at h⟩
def cY.append{w:World}{b:List D}{c d:List Value}(h:cY w S a c)(k:cY w S b d):cY w S (a++b) (c++d):=by
 refine⟨by simp[h.1,k.1],λi x y hx e=>?_⟩
 rw[zCd] at hx e;by_cases hi:i<a.length
 ·rw[zla hi] at hx;rw[zla (h.1 ▸ hi)] at e;exact h.2 i x y hx e
 ·rw[zia hi] at hx;rw[zia (h.1 ▸ hi)] at e;rw[h.1] at hx;exact k.2 _ x y hx e
theorem cY.split{w:World}{b:List D}{cs:List Value}(h:cY w S (a++b) cs):cY w S a (cs.take a.length)/\cY w S b (cs.drop a.length):=by
 obtain⟨h1,d⟩:=h;rw[zAa] at h1;refine⟨⟨by simp;omega,λi x y hx c=>?_⟩,⟨by simp;omega,λi x y hx c=>?_⟩⟩
 ·grind
 ·grind
theorem cY.single{w:World}{d:D}{v:Value}:cY w S [d] [v]↔CR w S d v:=by
 constructor
 ·intro h;exact h.2 0 d v rfl rfl
 ·intro h;refine⟨rfl,λi x y hx a=>?_⟩;all_goals grind
def cY.single'{w:World}{d:D}{cs:List Value}(h:cY w S [d] cs):∃ v,cs=[v]/\CR w S d v:=by
 match cs,h with
 | [v],h=>exact⟨v,rfl,cY.single.1 h⟩
 | [],h=>simp[cY] at h
 | _::_::_,h=>simp[cY] at h
def tg(w:World)(S:Nat->Nat->Prop)(b off:Nat)(a:List D):Prop:=∃ cs,cY w S a cs/\∀ (i:Nat) (c:Value),cs[i]?=some c->S b (off+i)/\w.cell? ⟨b,off+i,none⟩=some c
theorem tg.mono{w w':World}{S':Nat->Nat->Prop}(hw:∀ b o,S b o->w'.cell? ⟨b,o,none⟩=w.cell? ⟨b,o,none⟩)(e:∀ b o,S b o->S' b o){b off:Nat}{d:List D}(h:tg w S b off d):tg w' S' b off d:=by obtain⟨cs,h1,a⟩:=h;exact⟨cs,h1.mono hw e,λi c hc=>⟨e _ _ (a i c hc).1,by rw[hw _ _ (a i c hc).1];exact(a i c hc).2⟩⟩
theorem tg.part{w:World}{b off:Nat}{x y z:List D}(h:tg w S b off (x++(y++z))):tg w S b (off+x.length) y:=by obtain⟨cs,h1,e⟩:=h;obtain⟨_,a⟩:=h1.split;obtain⟨d,_⟩:=a.split;refine⟨_,d,λi c hc=>?_⟩;grind
theorem CR.elems{w:World}{v:Value}(h:CR w S (.sl l) v):∃ a cap b off,v=.slice a l.length cap/\(l=[]\/a=some ⟨b,off,none⟩)/\l.length<=cap/\tg w S b off (N l):=by
 cases h with
 | sl _ a cap b off c f hc h1 g=>
  refine⟨a,cap,b,off,rfl,f,hc,(List.range (N l).length).map c,⟨j2,λi d c' j e=>?_⟩,λi c' e=>?_⟩
  ·grind
  ·have hi:=(zra.1 e).1
   simp_all
def akg{w:World}{l:List D}{a:Option Addr}{cap b off:Nat}(f:l=[]\/a=some ⟨b,off,none⟩)(hc:l.length<=cap)(h:tg w S b off (N l)):CR w S (.sl l) (.slice a l.length cap):=by
 obtain⟨cs,h1,e⟩:=h;refine .sl l a cap b off (λi=>cs.getD i undef) f hc (λi d c=>?_) (λi d c=>?_)
 ·have hi:i<cs.length:=by rw[<-h1.1];exact(zra.1 c).1
  have:=e i _ (zda hi);simpa [List.getD,zda hi] using this
 ·have hi:i<cs.length:=by rw[<-h1.1];exact(zra.1 c).1
  have:=h1.2 i d _ c (zda hi);simpa [List.getD,zda hi] using this
def Zs:D->Value->Prop
 | .st _,v=>∃ cs,v=.agg cs
 | _,v=>∀ cs,v≠.agg cs
def fX(w:World)(S:Nat->Nat->Prop)(d:D)(v:Value):Prop:=Zs d v/\cY w S d.flat v.cells.toList
def DR(w:World)(S:Nat->Nat->Prop):D->Value->Prop
 | .tup l,v=>∃ vs:List Value,v=.tuple vs.toArray/\l.length=vs.length/\∀ (i:Nat) (d:D) (u:Value),l[i]?=some d->vs[i]?=some u->fX w S d u
 | d,v=>fX w S d v
theorem fX.mono{w w':World}{S':Nat->Nat->Prop}(hw:∀ b o,S b o->w'.cell? ⟨b,o,none⟩=w.cell? ⟨b,o,none⟩)(a:∀ b o,S b o->S' b o){d:D}{v:Value}(h:fX w S d v):fX w' S' d v:=⟨h.1,h.2.mono hw a⟩
theorem DR.mono{w w':World}{S':Nat->Nat->Prop}(hw:∀ b o,S b o->w'.cell? ⟨b,o,none⟩=w.cell? ⟨b,o,none⟩)(a:∀ b o,S b o->S' b o){d:D}{v:Value}(h:DR w S d v):DR w' S' d v:=by
 cases d<;>simp only[DR] at h ⊢<;>first
  | exact h.mono hw a
  | (obtain⟨vs,h1,c,e⟩:=h;exact⟨vs,h1,c,λi d u f hu=>(e i d u f hu).mono hw a⟩)
def DR.of0{w:World}{d:D}{v:Value}(h:fX w S d v):DR w S d v:=by
 cases d<;>simp only[DR]<;>first
  | exact h
  | (exfalso;obtain⟨c,e,h⟩:=cY.single' h.2;cases h)
def CR.int_inv{w:World}{k:IntKind}{n:Int}{v:Value}(h:CR w S (.int k n) v):v=.int k n:=by cases h;rfl
def CR.bool_inv{w:World}{n:Bool}{v:Value}(h:CR w S (.bool n) v):v=.bool n:=by cases h;rfl
def ap{v u:Value}(a:∀ cs,v≠.agg cs)(h:v.cells.toList=[u]):v=u:=by all_goals simp_all [Value.cells]
theorem fX.int_inv{w:World}{k:IntKind}{n:Int}{v:Value}(h:fX w S (.int k n) v):v=.int k n:=by obtain⟨u,h1,a⟩:=cY.single' (d:=.int k n) h.2;rw[ap h.1 h1];exact a.int_inv
theorem fX.bool_inv{w:World}{n:Bool}{v:Value}(h:fX w S (.bool n) v):v=.bool n:=by obtain⟨u,h1,a⟩:=cY.single' (d:=.bool n) h.2;rw[ap h.1 h1];exact a.bool_inv
def fX.sl_inv{w:World}{v:Value}(h:fX w S (.sl l) v):CR w S (.sl l) v:=by obtain⟨u,h1,a⟩:=cY.single' (d:=.sl l) h.2;rw[ap h.1 h1];exact a
def CR.no_agg{w:World}{d:D}{v:Value}(h:CR w S d v):(∀ cs,v≠.agg cs)/\(∀ vs,v≠.tuple vs)/\d.flat=[d]/\v.cells=#[v]:=by cases h<;>simp[D.flat,Value.cells]
def akA{w:World}{d:D}{v:Value}(h:CR w S d v):fX w S d v:=by
 obtain⟨h1,_,a,b⟩:=h.no_agg;refine⟨?_,?_⟩
 ·cases h<;>simp[Zs]
 ·rw[a,b];exact cY.single.2 h
end
section
variable{a:Act}{l:List Nat}{f:World}
structure Cx where
 w:World
 S:Nat->Nat->Prop
 γ:Nat->Option Nat
 β:Nat->Option (Nat×Nat)
 ob:Nat->Option Ob
 dead:List Nat
def rA(w:World)(b:Nat):Option Nat:=(ck w b).map (·.size)
def cD:Ob->List Nat->Nat
 | .one t _,p=>bi t p
 | .many t _,i::p=>i*t.size+bi t p
 | .many ..,[]=>0
 | .mp ..,_=>0
 | .lp ..,_=>0
 | .fv _,_=>0
def tok(c:Cx)(t:Ty)(v:Nat)(l:List D)(a:Option Addr)(cap:Nat):Prop:=
 v ∉ c.dead->(a=none/\cap=0)\/∃ b off,a=some ⟨b,off,none⟩/\c.β v=some (b,off+l.length*t.size)/\∃ n,rA c.w b=some n/\off+cap*t.size<=n/\off=0
mutual
def AC(c:Cx):AV->List Value->Prop
 | .d t x,cs=>wt t x/\ak t=true/\cY c.w c.S x.flat cs
 | .own t v l,cs=>ak t=true/\(∀ x∈l,wt t x)/\∃ a cap,cs=[.slice a l.length cap]/\CR c.w c.S (.sl l) (.slice a l.length cap)/\tok c t v l a cap
 | .nils,cs=>cs=[.slice none 0 0]
 | .ptr t id p,cs=>∃ b off,cs=[.pointer (some ⟨b,off,none⟩)]/\c.γ id=some b/\∀ o,c.ob id=some o->fo o p=some t/\off=cD o p
 | .fptr t x,cs=>wt t x/\ak t=true/\∃ b off,cs=[.pointer (some ⟨b,off,none⟩)]/\tg c.w c.S b off x.flat
 | .mem t id,cs=>ak t=true/\∃ b,c.γ id=some b/\∀ o,c.ob id=some o->∃ l cap,o=.many t l/\l.length<=cap/\cs=[.slice (some ⟨b,0,none⟩) l.length cap]
 | .st ts l,cs=>aR ts=true/\AV.fitss ts l=true/\jM c l cs
 | .clo f l,cs=>∃ caps:List Value,cs=[.func (.func f) #[] caps.toArray]/\oZ c l caps
 | .map kt vt id,cs=>∃ b,cs=[.map (some b)]/\c.γ id=some b/\ak kt=true/\ak vt=true/\∀ o,c.ob id=some o->∃ l,o=.mp kt vt l
 | .sub sl t id p lo n,cs=>ak t=true/\∃ b off cap,cs=[if sl then .slice (some ⟨b,off,none⟩) n cap else .pointer (some ⟨b,off,none⟩)]/\c.γ id=some b/\∀ o,c.ob id=some o->∃ m,fo o p=some (.arr m t)/\lo+n<=m/\off=cD o p+lo*t.size
 | .yld id,cs=>∃ L,cs=[.func (.yield L) #[] #[]]/\c.γ id=some L
 | .gone,_=>True
 | .undef,_=>True
 | .tpo ..,_=>False
def jM(c:Cx):List AV->List Value->Prop
 | [],cs=>cs=[]
 | a::l,cs=>∃ c1 c2,cs=c1++c2/\AC c a c1/\jM c l c2
def oZ(c:Cx):List AV->List Value->Prop
 | [],cs=>cs=[]
 | a::l,cs=>∃ v c2,cs=v::c2/\AC c a [v]/\oZ c l c2
end
def AR(c:Cx):AV->Value->Prop
 | .gone,v=>v=undef
 | .d t x,v=>(ak t=true/\wt t x/\fX c.w c.S x v)\/∃ ts,t=.tup ts/\aR ts=true/\wt t x/\DR c.w c.S x v
 | .undef,_=>True
 | .tpo t v ts y,x=>∃ l b v0 vs,y=.tup (.sl l::b)/\x=.tuple (v0::vs).toArray/\(∀ cs,v0≠.agg cs)/\AC c (.own t v l) v0.cells.toList/\aR ts=true/\fm ts b/\vs.length=b.length/\∀ (i:Nat) (d:D) (u:Value),b[i]?=some d->vs[i]?=some u->fX c.w c.S d u
 | .st ts l,v=>(∃ cs,v=.agg cs)/\AC c (.st ts l) v.cells.toList
 | a,v=>(∀ cs,v≠.agg cs)/\AC c a v.cells.toList
structure Cx.le(c c':Cx):Prop where
 cell:∀ b o,c.S b o->c'.w.cell? ⟨b,o,none⟩=c.w.cell? ⟨b,o,none⟩
 S:∀ b o,c.S b o->c'.S b o
 γ:∀ id b,c.γ id=some b->c'.γ id=some b
 ob:∀ id o,c'.ob id=some o->(∃ b,c.γ id=some b)->∃ o',c.ob id=some o'/\(∀ p,fo o p=fo o' p/\cD o p=cD o' p)/\(∀ t l,o'=.many t l->∃ l',o=.many t l'/\l'.length=l.length)/\(∀ kt vt l,o'=.mp kt vt l->∃ l',o=.mp kt vt l')
 β:∀ v,v ∉ c'.dead->v ∉ c.dead/\∀ b e,c.β v=some (b,e)->c'.β v=some (b,e)/\∀ n,rA c.w b=some n->rA c'.w b=some n
mutual
theorem AC.mono{c c':Cx}(h:c.le c'):∀ (a:AV) (cs:List Value),AC c a cs->AC c' a cs
 | .d t x,cs,k=>by simp only[AC] at k ⊢;exact⟨k.1,k.2.1,k.2.2.mono h.cell h.S⟩
 | .own t v l,cs,k=>by
  simp only[AC] at k ⊢;obtain⟨k0,k1,a,cap,rfl,k2,k3⟩:=k;refine⟨k0,k1,a,cap,rfl,k2.mono h.cell h.S,λhd=>?_⟩;obtain⟨h1,h2⟩:=h.β v hd;rcases k3 h1 with h3|⟨b,off,h3,h4,n,h5,h6⟩
  ·exact .inl h3
  ·exact .inr ⟨b,off,h3,(h2 _ _ h4).1,n,(h2 _ _ h4).2 n h5,h6⟩
 | .nils,cs,k=>by simpa only[AC] using k
 | .ptr t id p,cs,k=>by
  simp only[AC] at k ⊢;obtain⟨b,off,rfl,k1,k2⟩:=k;refine⟨b,off,rfl,h.γ _ _ k1,λo ho=>?_⟩;obtain⟨o',h1,h2,_⟩:=h.ob id o ho ⟨b,k1⟩
  simp_all
 | .fptr t x,cs,k=>by simp only[AC] at k ⊢;obtain⟨k1,k0,b,off,rfl,k2⟩:=k;exact⟨k1,k0,b,off,rfl,k2.mono h.cell h.S⟩
 | .mem t id,cs,k=>by simp only[AC] at k ⊢;obtain⟨k0,b,k1,k2⟩:=k;refine⟨k0,b,h.γ _ _ k1,λo ho=>?_⟩;obtain⟨o',h1,_,h3,_⟩:=h.ob id o ho ⟨b,k1⟩;grind
 | .st ts l,cs,k=>by simp only[AC] at k ⊢;exact⟨k.1,k.2.1,jM.mono h l cs k.2.2⟩
 | .clo f l,cs,k=>by simp only[AC] at k ⊢;obtain⟨caps,rfl,k1⟩:=k;exact⟨caps,rfl,oZ.mono h l caps k1⟩
 | .map kt vt id,cs,k=>by simp only[AC] at k ⊢;obtain⟨b,e,k1,k2,k3,k4⟩:=k;refine⟨b,e,h.γ _ _ k1,k2,k3,λo ho=>?_⟩;obtain⟨o',h1,_,_,h3⟩:=h.ob id o ho ⟨b,k1⟩;grind
 | .sub sl t id p lo n,cs,k=>by
  simp only[AC] at k ⊢;obtain⟨k0,b,off,cap,rfl,k1,k2⟩:=k;refine⟨k0,b,off,cap,rfl,h.γ _ _ k1,λo ho=>?_⟩;obtain⟨o',h1,h2,_⟩:=h.ob id o ho ⟨b,k1⟩
  simp_all
 | .yld id,cs,k=>by simp only[AC] at k ⊢;obtain⟨L,rfl,k1⟩:=k;exact⟨L,rfl,h.γ _ _ k1⟩
 | .gone,cs,k=>by simp[AC]
 | .undef,cs,k=>by simp[AC]
 | .tpo ..,cs,k=>by simp only[AC] at k
theorem jM.mono{c c':Cx}(h:c.le c'):∀ (l:List AV) (cs:List Value),jM c l cs->jM c' l cs
 | [],cs,k=>by simpa only[jM] using k
 | a::l,cs,k=>by simp only[jM] at k ⊢;obtain⟨c1,c2,rfl,k1,k2⟩:=k;exact⟨c1,c2,rfl,AC.mono h a c1 k1,jM.mono h l c2 k2⟩
theorem oZ.mono{c c':Cx}(h:c.le c'):∀ (l:List AV) (cs:List Value),oZ c l cs->oZ c' l cs
 | [],cs,k=>by simpa only[oZ] using k
 | a::l,cs,k=>by simp only[oZ] at k ⊢;obtain⟨c1,c2,rfl,k1,k2⟩:=k;exact⟨c1,c2,rfl,AC.mono h a _ k1,oZ.mono h l c2 k2⟩
end
theorem AR.mono{c c':Cx}(h:c.le c'){a:AV}{v:Value}(k:AR c a v):AR c' a v:=by
 cases a<;>simp only[AR] at k ⊢
 case d t x=>
  rcases k with⟨b,e,f⟩|⟨ts,b,w,e,f⟩
  ·exact .inl ⟨b,e,f.mono h.cell h.S⟩
  ·exact .inr ⟨ts,b,w,e,f.mono h.cell h.S⟩
 case tpo t v ts y=> obtain⟨l,z,v0,vs,g,j,m,n,o,p,q,r⟩:=k;exact⟨l,z,v0,vs,g,j,m,AC.mono h _ _ n,o,p,q,λi d u h1 s=>(r i d u h1 s).mono h.cell h.S⟩
 all_goals first|exact⟨k.1,AC.mono h _ _ k.2⟩|exact k
def jR(c:Cx)(a vt:Ty):Nat->List D->List MapEntry->Prop
 | _,[],[]=>True
 | j,x::l,e::es=>(e.born=j/\∃ k v,x=.st [k,v]/\wt a k/\wt vt v/\fX c.w c.S k e.key/\fX c.w c.S v e.val)/\jR c a vt (j+1) l es
 | _,_,_=>False
def vU(c:Cx):AV->Value->Prop
 | .ptr _ id [],v=>∃ b,v=.pointer (some ⟨b,0,none⟩)/\c.γ id=some b
 | _,_=>False
def o7(c:Cx):List AV->List Value->Prop
 | [],[]=>True
 | a::l,v::vs=>vU c a v/\o7 c l vs
 | _,_=>False
def gg(c:Cx):AV->Value->Prop
 | .d t x,v=>AR c (.d t x) v
 | .fptr t x,v=>AR c (.fptr t x) v
 | .ptr t id p,v=>vU c (.ptr t id p) v
 | .clo f l,v=>∃ caps:List Value,v=.func (.func f) #[] caps.toArray/\o7 c l caps
 | .yld id,v=>AR c (.yld id) v
 | .map a vt id,v=>∃ b,v=.map (some b)/\c.γ id=some b/\ak a=true/\ak vt=true
 | _,_=>True
theorem vU.mono{c c':Cx}(d:∀ id b,c.γ id=some b->c'.γ id=some b){a:AV}{v:Value}(k:vU c a v):vU c' a v:=by unfold vU at k ⊢;all_goals grind
theorem o7.mono{c c':Cx}(d:∀ id b,c.γ id=some b->c'.γ id=some b):∀ {l:List AV} {vs:List Value},o7 c l vs->o7 c' l vs
 | [],[],_=>trivial
 | [],_::_,k=>k.elim
 | _::_,[],k=>k.elim
 | a::l,v::vs,k=>⟨k.1.mono d,o7.mono d k.2⟩
theorem gg.mono{c c':Cx}(g:∀ b o,c.S b o->c'.w.cell? ⟨b,o,none⟩=c.w.cell? ⟨b,o,none⟩)(m:∀ b o,c.S b o->c'.S b o)(j:∀ id b,c.γ id=some b->c'.γ id=some b){a:AV}{v:Value}(k:gg c a v):gg c' a v:=by
 cases a<;>simp only[gg] at k ⊢
 case d t x=>
  simp only[AR] at k ⊢;rcases k with⟨h,i,q⟩|⟨ts,h,n,i,q⟩
  ·exact .inl ⟨h,i,q.mono g m⟩
  ·exact .inr ⟨ts,h,n,i,q.mono g m⟩
 case fptr t x=> simp only[AR,AC] at k ⊢;obtain⟨r,h,n,b,off,e,i⟩:=k;exact⟨r,h,n,b,off,e,i.mono g m⟩
 case ptr t id p=>exact k.mono j
 case clo f l=> obtain⟨caps,e,h⟩:=k;exact⟨caps,e,h.mono j⟩
 case yld id=> simp only[AR,AC] at k ⊢;obtain⟨h,L,e,i⟩:=k;exact⟨h,L,e,j _ _ i⟩
 case map kt vt id=> obtain⟨b,e,h,i⟩:=k;exact⟨b,e,j _ _ h,i⟩
def EI:Ex->Code
 | .normal=>.skip
 | .exit id=>.exit id
 | .ret=>.ret
def LpS(i:LpI)(r:Loop):Prop:=r.tmps.size=i.nt/\r.params.toList=i.ps/\r.assign=i.asg/\r.body=i.bdy
def LpD:Option Ex->Loop->Prop
 | none,r=>r.state=.ready/\r.pending=none
 | some e,r=>r.state=.done/\r.pending=some (EI e)
def Ev(r r':Loop):Prop:=r'.tmps=r.tmps/\r'.params=r.params/\r'.assign=r.assign/\r'.body=r.body
def kw(w w':World)(b:Nat):Prop:=w'.heap[b]?=w.heap[b]?\/∃ r r',w.heap[b]?=some (Obj.loop r)/\w'.heap[b]?=some (Obj.loop r')/\Ev r r'
def kw.refl(w:World)(b:Nat):kw w w b:=.inl rfl
theorem kw.trans{w w1:World}{b:Nat}(h:kw w w1 b)(k:kw w1 f b):kw w f b:=by
 rcases h with h|⟨r,r1,h1,e,a⟩<;>rcases k with k|⟨r',i,d,g,c⟩
 ·exact .inl (k.trans h)
 ·exact .inr ⟨r',i,h.symm.trans d,g,c⟩
 ·exact .inr ⟨r,r1,h1,k.trans e,a⟩
 ·rw[e] at d;cases d;exact .inr ⟨r,i,h1,g,c.1.trans a.1,c.2.1.trans a.2.1,c.2.2.1.trans a.2.2.1,c.2.2.2.trans a.2.2.2⟩
def kw.row{w w':World}{b:Nat}(h:kw w w' b){cs:Array Value}(a:ck w b=some cs):w'.heap[b]?=w.heap[b]?:=by
 rcases h with h|⟨r,r',h1,_,_⟩
 ·exact h
 ·simp[ck,h1] at a
def dM(w w':World):Prop:=∀ b:Nat,(w.heap[b]?=some (Obj.deferred (some []))->w'.heap[b]?=some (Obj.deferred (some [])))/\((∃ r,w.heap[b]?=some (Obj.loop r))->∃ r,w'.heap[b]?=some (Obj.loop r))
def dM.refl(w:World):dM w w:=λ_=>⟨id,id⟩
def dM.trans{w w1:World}(h:dM w w1)(k:dM w1 f):dM w f:=λb=>⟨λa=>(k b).1 ((h b).1 a),λa=>(k b).2 ((h b).2 a)⟩
def cQ(lo:Nat)(w:World):Nat->List Deferred->Prop
 | _,[]=>True
 | hi,d::l=>∃ K,d={ target:=.collected K,args:=#[] }/\lo<=K/\K<hi/\w.heap[K]?=some (Obj.deferred (some []))/\cQ lo w K l
theorem cQ.mono{lo c:Nat}{w w':World}(b:c<=lo)(h:dM w w'):∀ {l:List Deferred} {hi a:Nat},hi<=a->cQ lo w hi l->cQ c w' a l
 | [],_,_,_,_=>trivial
 | d::l,hi,a,hh,⟨K,h1,e,f,g,i⟩=>⟨K,h1,zva b e,zdb f hh,(h K).1 g,cQ.mono b h (zja K) i⟩
theorem cQ.append{lo mid:Nat}{w:World}(hm:lo<=mid):∀ {l l':List Deferred} {hi:Nat},mid<=hi->cQ mid w hi l->cQ lo w mid l'->cQ lo w hi (l++l')
 | [],l',hi,hh,_,h=>cQ.mono (zja _) (dM.refl w) hh h
 | d::l,l',hi,hh,⟨K,h1,a,b,c,e⟩,h=>⟨K,h1,zva hm a,b,c,cQ.append hm a e h⟩
def me(l:List Nat)(a:Act)(w:World)(a':Act)(w':World):Prop:=dM w w'/\∃ m,a'.defers=m++a.defers/\cQ w.heap.size w' w'.heap.size m/\(4095∈l->m=[])
def me.same{a':Act}{w w':World}(b:a'.defers=a.defers)(h:dM w w'):me l a w a' w':=⟨h,[],by simpa using b,trivial,λ_=>rfl⟩
def me.less{l':List Nat}{a':Act}{w w':World}(hl:∀ i∈l',i∈l)(h:me l a w a' w'):me l' a w a' w':=by obtain⟨q1,m1,b,p1,c⟩:=h;exact⟨q1,m1,b,p1,λhh=>c (hl _ hh)⟩
theorem me.trans{a1 a2:Act}{w w1:World}(h:me l a w a1 w1)(k:me l a1 w1 a2 f)(h1:w.heap.size<=w1.heap.size)(e:w1.heap.size<=f.heap.size):me l a w a2 f:=by
 obtain⟨q1,m1,c,p1,i⟩:=h;obtain⟨b,G,d,g,z2⟩:=k;refine⟨q1.trans b,G++m1,by rw[d,c,zMa],?_,λhh=>by rw[i hh,z2 hh];rfl⟩
 exact cQ.append h1 e g (p1.mono (zja _) b (zja _))
def ca{d:Option Nat}{v:Value}:(a.put d v).defers=a.defers:=by cases d<;>rfl
def gF(c:Cx)(b:Nat):Ob->Prop
 | .one t v=>ak t=true/\AV.fits t v=true/\(∀ o,¬ c.S b o)/\∃ cs:List Value,ck c.w b=some cs.toArray/\AC c v cs/\cs.length=t.size
 | .many t l=>ak t=true/\(∀ x∈l,wt t x)/\(∀ o,¬ c.S b o)/\∃ cs d:List Value,ck c.w b=some (cs++d).toArray/\cY c.w c.S (N l) cs
 | .mp a vt l=>ak a=true/\ak vt=true/\(∀ o,¬ c.S b o)/\∃ es:Array MapEntry,c.w.heap[b]?=some (.map es l.length)/\jR c a vt 0 l es.toList
 | .fv v=>(∀ o,¬ c.S b o)/\∃ x:Value,ck c.w b=some #[x]/\gg c v x/\Value.oneCell' x=true
 | .lp i p=>∃ r:Loop,c.w.heap[b]?=some (Obj.loop r)/\LpS i r/\(∀ t,t<i.nt->gg c (i.caps t) (r.tmps.getD t undef))/\LpD p r
structure Root where
 w:World
 S0:Nat->Nat->Prop
 sh:Nat->Prop
abbrev Root.heap(r:Root):Array Obj:=r.w.heap
def Root.Old(r:Root)(b:Nat):Prop:=b<r.heap.size/\¬ r.sh b
structure oh(r:Root)(w:World):Prop where
 tape:w.tape=r.w.tape
 os:w.os=r.w.os
 output:w.output=r.w.output
 sz:r.heap.size<=w.heap.size
 dr:r.w.drawn<=w.drawn
 old:∀ b,r.Old b->w.heap[b]?=r.w.heap[b]?
structure Rp(w0:Root)(S:Nat->Nat->Prop)(γ:Nat->Option Nat)(β:Nat->Option (Nat×Nat))(s:St)(a:Act)(w:World):Prop where
 ext:oh w0 w
 tms:∀ t,t<a.tmps.size->AR ⟨w,S,γ,β,s.ob,s.dead⟩ (s.tm t) (a.tmps.getD t undef)
 nt:a.tmps.size=s.nt
 tmu:∀ t,s.nt<=t->s.tm t=.undef
 obs:∀ id o b,s.ob id=some o->γ id=some b->gF ⟨w,S,γ,β,s.ob,s.dead⟩ b o
 γn:∀ id b,γ id=some b->¬ w0.Old b/\b<w.heap.size
 γi:∀ id id' b,γ id=some b->γ id'=some b->id=id'
 γf:∀ id,s.base+4096<=id->γ id=none
 βn:∀ v b e,v ∉ s.dead->β v=some (b,e)->¬ w0.Old b/\b<w.heap.size/\∀ o,e<=o->¬ S b o
 βi:∀ v v' b e e',v ∉ s.dead->v' ∉ s.dead->β v=some (b,e)->β v'=some (b,e')->v=v'
 βγ:∀ v id b e,v ∉ s.dead->β v=some (b,e)->γ id≠some b
 βf:∀ v,s.base+4096<=v->β v=none
 Sb:∀ b o,S b o->b<w.heap.size
 So:∀ b o,S b o->w0.Old b->w0.S0 b o
structure Fm(s:St)(S:Nat->Nat->Prop)(γ:Nat->Option Nat)(a:Act)(w:World)(S':Nat->Nat->Prop)(γ':Nat->Option Nat)(a':Act)(w':World):Prop where
 sub:∀ b o,S b o->S' b o
 cell:∀ b o,S b o->w'.cell? ⟨b,o,none⟩=w.cell? ⟨b,o,none⟩
 slots:∀ t∈s.lkS,a'.tmps.getD t undef=a.tmps.getD t undef
 objs:∀ id∈s.lkO,∀ b,γ id=some b->γ' id=some b/\kw w w' b
 sz:w.heap.size<=w'.heap.size
 gam:∀ id b,γ id=some b->γ' id=some b
 dfs:me s.lkO a w a' w'
structure Sk(s s':St):Prop where
 lkS:s'.lkS=s.lkS
 lkO:s'.lkO=s.lkO
 nt:s'.nt=s.nt
def Sk.refl(s:St):Sk s s:=⟨rfl,rfl,rfl⟩
theorem Sk.trans{a b c:St}(h:Sk a b)(k:Sk b c):Sk a c:=⟨k.lkS.trans h.lkS,k.lkO.trans h.lkO,k.nt.trans h.nt⟩
end
section
variable{P:Program}{c:Cx}{a:AV}
def dh:Ty->Bool
 | .st _=>true
 | .arr _ _=>true
 | _=>false
mutual
def Ty.high:Ty->Nat
 | .st l=>ald l+1
 | .arr _ t=>t.high+1
 | .sl t=>t.high+1
 | .tup l=>ald l+1
 | _=>1
def ald:List Ty->Nat
 | []=>0
 | t::l=>max t.high (ald l)
end
def Ir:D->Value->Bool
 | .int k n,.int d e=>decide (k=d)&&decide (n=e)
 | .bool b,.bool c=>b==c
 | .str s,.string s'=>decide (s=s')
 | .sl l,.slice a len cap=>l.isEmpty&&a.isNone&&decide (len=0)&&decide (cap=0)
 | _,_=>false
def c9:List D->List Value->Bool
 | [],[]=>true
 | d::l,v::l'=>Ir d v&&c9 l l'
 | _,_=>false
def sj(P:Program)(t:TypeId)(ty:Ty):Bool:=
 match P.info? t with
 | some i=>decide (i.size=ty.size)&&decide (i.bytes<=16384)&&decide (i.size<=4096)&&(match i.zero with|some z=>c9 (az ty).flat z.cells.toList&&(match z with|.agg _=>dh ty|_=>!dh ty)|none=>false)
 | none=>false
mutual
def cg(P:Program):Ty->TypeId->Bool
 | .int k,t=>sj P t (.int k)&&(match P.underlying t with|some (.int k')=>decide (k=k')|_=>false)
 | .bool,t=>sj P t .bool&&(match P.underlying t with|some .bool=>true|_=>false)
 | .str,t=>sj P t .str&&(match P.underlying t with|some .string=>true|_=>false)
 | .st ts,t=>sj P t (.st ts)&&!P.stoodInHeld t&&!P.eqGuardType P.depth t&&(match P.underlying t with|some (.struct fs)=>gM P ts fs.toList 0|_=>false)
 | .arr n e,t=>sj P t (.arr n e)&&!P.eqGuardType P.depth t&&(match P.underlying t with|some (.array m u)=>decide (m=n)&&cg P e u|_=>false)
 | .sl e,t=>sj P t (.sl e)&&(match P.underlying t with|some (.slice u)=>cg P e u|_=>false)
 | _,_=>false
def gM(P:Program):List Ty->List Field->Nat->Bool
 | [],[],_=>true
 | t :: ts, f :: fs, off => decide (f.offset = off) && decide (f.name ≠ "_") && decide (0 < t.size) && cg P t f.type && gM P ts fs (off + t.size)
 | _,_,_=>false
end
def Q0(P:Program)(t:TypeId):Bool:=
 (match P.info? t with
 | some i=>decide (i.size=1)&&decide (i.bytes<=16384)&&(match i.zero with|some z=>decide (z.cells.toList.length=1)&&z.oneCell'|none=>false)
 | none=>false)&&(match P.underlying t with|some (.struct _)=>false|some (.array _ _)=>false|some _=>true|none=>false)
def NY(P:Program)(a:List Ty)(c:Ty)(f:FuncId)(xs:List D)(y:D):Prop:=
 ∀ (w:World) (S:Nat->Nat->Prop) (vs:List Value),(∀ b o,S b o->b<w.heap.size)->fm a xs->vs.length=xs.length->(∀ (i:Nat) (x:D) (v:Value),xs[i]?=some x->vs[i]?=some v->fX w S x v) ->
  Calls P f vs.toArray w λe w'=>∃ v,e=.returned v/\(∃ os d,w.drawn<=d/\w'=grown w os d)/\wt c y/\DR w' (λb o=>S b o\/(w.heap.size<=b/\b<w'.heap.size)) y v
def TY(w:World)(S:Nat->Nat->Prop)(x:D)(b:Nat):Prop:=(∀ o,¬ S b o)/\∃ cs:List Value,ck w b=some cs.toArray/\cY w S x.flat cs
def I7(b:Nat):Value:=.pointer (some ⟨b,0,none⟩)
def WB(P:Program)(c:List Ty)(g:Ty)(f:FuncId)(xs:List D)(y:D)(k:Nat):Prop:=
 ∀ (w:World) (S:Nat->Nat->Prop) (vs:List Value) (a:List Nat),(∀ b o,S b o->b<w.heap.size)->fm c xs->a.length=k->vs.length+k=xs.length->(∀ (i j b:Nat),a[i]?=some b->a[j]?=some b->i=j) ->
  (∀ (i:Nat) (x:D) (v:Value),xs[i]?=some x->vs[i]?=some v->fX w S x v)->(∀ (i:Nat) (x:D) (b:Nat),xs[vs.length+i]?=some x->a[i]?=some b->TY w S x b) ->
  Calls P f (vs++a.map I7).toArray w λe w'=>∃ v,e=.returned v/\(∃ os d,w.drawn<=d/\w'=grown w os d)/\wt g y/\DR w' (λb o=>S b o\/(w.heap.size<=b/\b<w'.heap.size)) y v
def aa9(P:Program):Nat->List Ty->Ty->FuncId->List D->D->Prop
 | 0,a,b,f,xs,y=>NY P a b f xs y
 | k+1,a,b,f,xs,y=>WB P a b f xs y (k+1)
def JY(P:Program)(c:List Ty)(t:Ty)(f:FuncId)(xs:List D)(l:List D):Prop:=
 ∀ (w:World) (S:Nat->Nat->Prop) (vs:List Value),(∀ b o,S b o->b<w.heap.size)->fm c xs->vs.length=xs.length->(∀ (i:Nat) (x:D) (v:Value),xs[i]?=some x->vs[i]?=some v->fX w S x v) ->
  Calls P f vs.toArray w λe w'=>∃ a cap,e=.returned (.slice a l.length cap)/\(∃ os d,w.drawn<=d/\w'=grown w os d)/\ak t=true/\(∀ x∈l,wt t x)/\∃ S':Nat->Nat->Prop,(∀ b o,S b o->S' b o)/\(∀ b o,S' b o->S b o\/(w.heap.size<=b/\b<w'.heap.size)) ∧
   CR w' S' (.sl l) (.slice a l.length cap)/\((a=none/\cap=0)\/∃ b off,a=some ⟨b,off,none⟩/\(w.heap.size<=b/\b<w'.heap.size)/\(∃ n,rA w' b=some n/\off+cap*t.size<=n/\off=0)/\∀ o,off+l.length*t.size<=o->¬ S' b o)
def H6(w w':World)(S':Nat->Nat->Prop)(t:Ty)(l:List D)(v:Value):Prop:=
 ∃ a cap,v=.slice a l.length cap/\ak t=true/\(∀ x∈l,wt t x)/\CR w' S' (.sl l) v/\((a=none/\cap=0)\/∃ b off,a=some ⟨b,off,none⟩/\(w.heap.size<=b/\b<w'.heap.size)/\(∃ n,rA w' b=some n/\off+cap*t.size<=n/\off=0)/\∀ o,off+l.length*t.size<=o->¬ S' b o)
def vW(w w':World)(S':Nat->Nat->Prop):Ty->D->Value->Prop
 | .tup (.sl t::ts),y,v=>∃ l a v0 vs,y=.tup (.sl l::a)/\v=.tuple (v0::vs).toArray/\H6 w w' S' t l v0/\aR ts=true/\fm ts a/\vs.length=a.length/\∀ (i:Nat) (d:D) (u:Value),a[i]?=some d->vs[i]?=some u->fX w' S' d u
 | .st (.sl t::ts),y,v=>∃ l a v0 cs,y=.st (.sl l::a)/\v=.agg (v0::cs).toArray/\H6 w w' S' t l v0/\aR ts=true/\fm ts a/\cY w' S' (N a) cs
 | _,_,_=>False
def JZ(P:Program)(a:List Ty)(c:Ty)(f:FuncId)(xs:List D)(y:D):Prop:=
 ∀ (w:World) (S:Nat->Nat->Prop) (vs:List Value),(∀ b o,S b o->b<w.heap.size)->fm a xs->vs.length=xs.length->(∀ (i:Nat) (x:D) (v:Value),xs[i]?=some x->vs[i]?=some v->fX w S x v) ->
  Calls P f vs.toArray w λe w'=>∃ v,e=.returned v/\(∃ os d,w.drawn<=d/\w'=grown w os d)/\∃ S':Nat->Nat->Prop,(∀ b o,S b o->S' b o)/\(∀ b o,S' b o->S b o\/(w.heap.size<=b/\b<w'.heap.size))/\vW w w' S' c y v
def NZ(P:Program)(own:Bool)(k:Nat)(a:List Ty)(b:Ty)(f:FuncId)(xs:List D)(y:D):Prop:=
 aa9 P k a b f xs y/\(own=true->(∃ t l,b=.sl t/\y=.sl l/\JY P a t f xs l)\/JZ P a b f xs y)
def Kr(P:Program)(f:FuncId)(g:Ann->(R:Type)->St->List AV->(AV->St->Option R)->Option R):Prop:=
 ∀ (ann:Ann) (R:Type) (w0:Root) (S:Nat->Nat->Prop) (γ:Nat->Option Nat) (β:Nat->Option (Nat×Nat)) (s:St) (a:Act) (w:World) (b:List AV) (vs:List Value) (K:AV->St->Option R) (r:R),
  Rp w0 S γ β s a w->b.length=vs.length->(∀ (i:Nat) (x:AV) (v:Value),b[i]?=some x->vs[i]?=some v->AR ⟨w,S,γ,β,s.ob,s.dead⟩ x v)->g ann R s b K=some r ->
  Calls P f vs.toArray w λe w'=>∃ v y s' S' γ' β',e=.returned v/\K y s'=some r/\Rp w0 S' γ' β' s' a w'/\AR ⟨w',S',γ',β',s'.ob,s'.dead⟩ y v/\Fm s S γ a w S' γ' a w'/\Sk s s'
abbrev FW(ro:Option Nat):Fence:={ Fence.wide with round:=ro }
def LH:Ex->Exit
 | .normal=>.normal
 | .exit i=>.exit i
 | .ret=>.ret
def JX(P:Program)(f:Code->Ann->(R:Type)->St->(Ex->St->Option R)->Option R):Prop:=
 ∀ (ro:Option Nat) (nn:Nat) (w0:Root) (c:Code) (ann:Ann) (R:Type) (Q:Exit->Act->World->Prop) (S:Nat->Nat->Prop) (γ:Nat->Option Nat) (β:Nat->Option (Nat×Nat)) (s:St) (a:Act) (w:World) (k:Ex->St->Option R) (r:R),
  (∀ l,ro=some l->∃ r0,w.heap[l]?=some (Obj.loop r0))->Rp w0 S γ β s a w->f c ann R s k=some r ->
  (∀ e s' S' γ' β' a' w',Rp w0 S' γ' β' s' a' w'->Fm s S γ a w S' γ' a' w'->Sk s s'->k e s'=some r->Q (LH e) a' w')->c.wpIn (FW ro) nn P Q a w
structure EnvOk(P:Program)(E:Env):Prop where
 lay:∀ t ty,E.L t=some ty->(∃ ts,ty=.tup ts)\/cg P ty t=true
 high:∀ t ty,E.L t=some ty->ty.high<=1000
 flat:∀ t ty,E.L t=some ty->ak ty=true
 sig : ∀ f ptys rty, E.sig f = some (ptys, rty) -> aR ptys = true /\ (ak rty = true \/ ∃ ts, rty = .tup ts /\ aR ts = true) /\ ∃ fn, P.funcs[f]? = some fn /\ (fn.name == "runtime.NumGoroutine") = false /\ fn.body.isSome = true
 call:∀ f ptys rty xs y,E.sig f=some (ptys,rty)->E.call f xs=some y->fm ptys xs->NZ P (E.ownF f) (E.free f) ptys rty f xs y
 mixed:P.follows .mixedOrders=true
 lp:∀ (α β:Type) (body:α->Option (Sum α β)) (x:α) (y:β),E.lp body x=some y->∃ n,so body n x=some y
 mapL:∀ t kt vt,E.mapL t=some (kt,vt)->bX kt=true/\∃ K V,P.underlying t=some (.map K V)/\cg P kt K=true/\cg P vt V=true/\kt.high<=1000
 inl : ∀ f g, E.inl f = some g -> (∃ fn, P.funcs[f]? = some fn /\ (fn.name == "runtime.NumGoroutine") = false /\ fn.body.isSome = true) /\ Kr P f g
 cod:JX P E.cod
 fnT:∀ t,E.fnT t=true->Q0 P t=true
theorem fC{P:Program}{t:TypeId}{ty:Ty}(h:sj P t ty=true):∃ i z,P.info? t=some i/\i.size=ty.size/\(i.bytes<=16384/\ty.size<=4096)/\i.zero=some z/\c9 (az ty).flat z.cells.toList=true/\((∃ cs,z=.agg cs)↔dh ty=true):=by unfold sj at h;all_goals grind
def gC{P:Program}{t:TypeId}{ty:Ty}(h:cg P ty t=true):sj P t ty=true:=by
 cases ty<;>simp only[cg,X] at h<;>first
  | exact h.1
  | exact h.1.1
  | exact h.1.1.1
  | cases h
theorem zl{t:TypeId}:∀ {ty:Ty},cg P ty t=true->(∃ ts,ty=.tup ts)\/ty=.fn->False:=by grind [cg]
def cr{t:TypeId}{ty:Ty}(h:cg P ty t=true)(w:World):(sizeOf t).run P w=.ok ty.size w:=by obtain⟨i,z,h1,a,_⟩:=fC (gC h);exact xA (by rw[h1];simp[a]) w
def Hg{t:TypeId}{ty:Ty}(h:cg P ty t=true)(w:World):(isAgg t).run P w=.ok (dh ty) w:=by
 have key:∀ d,P.underlying t=some d->(isAgg t).run P w=.ok (match d with|.struct _|.array _ _=>true|_=>false) w:=λd a=>by unfold isAgg;rw[zma,run_underlying a w];cases d<;>rfl
 cases ty<;>simp only[cg,X] at h
 case int k=>obtain⟨_,h⟩:=h;split at h<;>first|(rename_i hu;rw[key _ hu];rfl)|cases h
 case bool=>obtain⟨_,h⟩:=h;split at h<;>first|(rename_i hu;rw[key _ hu];rfl)|cases h
 case str=>obtain⟨_,h⟩:=h;split at h<;>first|(rename_i hu;rw[key _ hu];rfl)|cases h
 case st ts=>obtain⟨_,h⟩:=h;split at h<;>first|(rename_i hu;rw[key _ hu];rfl)|cases h
 case arr n e=>obtain⟨_,h⟩:=h;split at h<;>first|(rename_i hu;rw[key _ hu];rfl)|cases h
 case sl e=>obtain⟨_,h⟩:=h;split at h<;>first|(rename_i hu;rw[key _ hu];rfl)|cases h
 all_goals cases h
theorem j6{t:TypeId}{ts:List Ty}(h:cg P (.st ts) t=true):∃ a,P.underlying t=some (.struct a)/\gM P ts a.toList 0=true:=by simp only[cg,X] at h;all_goals grind
theorem fi{t:TypeId}{n:Nat}{e:Ty}(h:cg P (.arr n e) t=true):∃ u,P.underlying t=some (.array n u)/\cg P e u=true:=by simp only[cg,X] at h;all_goals grind
theorem jv{P:Program}{t:TypeId}{e:Ty}(h:cg P (.sl e) t=true):∃ u,P.underlying t=some (.slice u)/\cg P e u=true:=by simp only[cg,X] at h;all_goals grind
theorem kM{t:TypeId}{k:IntKind}(h:cg P (.int k) t=true):P.underlying t=some (.int k):=by simp only[cg,X] at h;all_goals grind
theorem vz:∀ {ts:List Ty} {a:List Field} {off i:Nat} {t:Ty},gM P ts a off=true->ts[i]?=some t->∃ f,a[i]?=some f/\f.offset=off+ale (ts.take i)/\0<t.size/\cg P t f.type=true
 | [],_,_,_,_,_,h=>by simp at h
 | u::ts,[],_,_,_,h,_=>by simp[gM] at h
 | u::ts,f::a,off,i,t,h,hi=>by
  simp only[gM,X,zea] at h;obtain⟨⟨⟨⟨h1,_⟩,b⟩,c⟩,d⟩:=h;cases i with
  | zero=>simp at hi;subst hi;exact⟨f,rfl,by simp[ale,h1],b,c⟩
  | succ i=>
   simp at hi;obtain⟨g,e,j,k⟩:=vz d hi
   simp_all [e,j,ale,zLb]
def nag(cs:List Value):Prop:=∀ v∈cs,v.oneCell'=true
theorem cY.nag{w:World}{S:Nat->Nat->Prop}{a:List D}{cs:List Value}(h:cY w S a cs):nag cs:=by
 intro v e;obtain⟨i,hi,he⟩:=z3a e;have h1:cs[i]?=some v:=by simp_all
 have c:i<a.length:=by rw[h.1];exact hi
 have b:=h.2 i _ v (zda c) h1;revert b;generalize a[i]=d;intro b;cases b<;>rfl
def Fi{a b:List Value}(h:nag a)(k:nag b):nag (a++b):=λv c=>by
 rcases zKa.1 c with h1|h1
 ·exact h v h1
 ·exact k v h1
mutual
theorem ii{c:Cx}:∀ (a:AV) (t:Ty) (cs:List Value),AV.fits t a=true->AC c a cs->cs.length=t.size/\nag cs
 | .d t' x,t,cs,hf,h=>by
  have hf':t.beq t'=true:=by cases t<;>simpa only[AV.fits] using hf
  rw[alb _ _ hf'];simp only[AC] at h;exact⟨by rw[<-h.2.2.1];exact cL _ _ h.1 h.2.1,h.2.2.nag⟩
 | .own t' v l,t,cs,hf,h=>by
  cases t<;>simp only[AV.fits] at hf<;>first|cases hf|skip
  simp only[AC] at h;obtain⟨_,_,a,cap,rfl,_⟩:=h;exact⟨rfl,λv hv=>by simp at hv;subst hv;rfl⟩
 | .nils,t,cs,hf,h=>by
  cases t<;>simp only[AV.fits] at hf<;>first|cases hf|skip
  simp only[AC] at h;subst h;exact⟨rfl,λv hv=>by simp at hv;subst hv;rfl⟩
 | .st ts' l,t,cs,hf,h=>by
  cases t<;>simp only[AV.fits] at hf<;>first|cases hf|skip
  rename_i ts;simp only[X] at hf;simp only[AC] at h;simp only[Ty.size];exact Gh l ts cs hf.2 h.2.2
 | .ptr ..,t,cs,hf,_=>by cases t<;>simp[AV.fits] at hf
 | .fptr ..,t,cs,hf,_=>by cases t<;>simp[AV.fits] at hf
 | .mem ..,t,cs,hf,_=>by cases t<;>simp[AV.fits] at hf
 | .clo ..,t,cs,hf,_=>by cases t<;>simp[AV.fits] at hf
 | .map ..,t,cs,hf,_=>by cases t<;>simp[AV.fits] at hf
 | .sub ..,t,cs,hf,_=>by cases t<;>simp[AV.fits] at hf
 | .yld ..,t,cs,hf,_=>by cases t<;>simp[AV.fits] at hf
 | .gone,t,cs,hf,_=>by cases t<;>simp[AV.fits] at hf
 | .tpo ..,t,cs,hf,_=>by cases t<;>simp[AV.fits] at hf
 | .undef,t,cs,hf,_=>by cases t<;>simp[AV.fits] at hf
theorem Gh{c:Cx}:∀ (l:List AV) (ts:List Ty) (cs:List Value),AV.fitss ts l=true->jM c l cs->cs.length=ale ts/\nag cs
 | [],ts,cs,hf,h=>by
  cases ts<;>simp only[AV.fitss] at hf<;>first|cases hf|skip
  simp only[jM] at h;subst h;exact⟨rfl,λv hv=>by simp at hv⟩
 | a::l,ts,cs,hf,h=>by
  cases ts<;>simp only[AV.fitss] at hf<;>first|cases hf|skip
  simp only[X] at hf;simp only[jM] at h;obtain⟨c1,c2,rfl,h1,h2⟩:=h;obtain⟨k1,k2⟩:=ii a _ c1 hf.1 h1;obtain⟨k3,k4⟩:=Gh l _ c2 hf.2 h2;exact⟨by simp[ale,k1,k3],Fi k2 k4⟩
end
def ic(t:Ty)(cs:List Value)(v:Value):Prop:=v.cells.toList=cs/\(dh t=true->∃ xs,v=.agg xs)/\(dh t=false->∀ xs,v≠.agg xs)
mutual
theorem aK{P:Program}:∀ (ty:Ty) (t:TypeId),cg P ty t=true->ak ty=true
 | .int _,_,_=>rfl
 | .bool,_,_=>rfl
 | .str,_,_=>rfl
 | .st ts,t,h=>by obtain⟨fs,_,h2⟩:=j6 h;simp only[ak];exact uG ts _ _ h2
 | .arr n e,t,h=>by obtain⟨u,_,h2⟩:=fi h;simp only[ak];exact aK e u h2
 | .sl e,t,h=>by obtain⟨u,_,h2⟩:=jv h;simp only[ak];exact aK e u h2
 | .tup _,t,h=>by simp[cg] at h
 | .fn,t,h=>by simp[cg] at h
theorem uG{P:Program}:∀ (ts:List Ty) (fs:List Field) (off:Nat),gM P ts fs off=true->aR ts=true
 | [],_,_,_=>rfl
 | t::ts,[],_,h=>by simp[gM] at h
 | t::ts,f::fs,off,h=>by simp only[gM,X] at h;simp only[aR,X];exact⟨aK t _ h.1.2,uG ts fs _ h.2⟩
end
def rn{t:Ty}{x:D}{v:Value}(h:wt t x)(hn:ak t=true)(a:Zs x v):(dh t=true->∃ xs,v=.agg xs)/\(dh t=false->∀ xs,v≠.agg xs):=by
 cases t<;>simp only[wt] at h
 case int k=>obtain⟨n,rfl⟩:=h;exact⟨λh=>by simp[dh] at h,λ_=>a⟩
 case bool=>obtain⟨n,rfl⟩:=h;exact⟨λh=>by simp[dh] at h,λ_=>a⟩
 case str=>obtain⟨n,rfl⟩:=h;exact⟨λh=>by simp[dh] at h,λ_=>a⟩
 case st ts=>obtain⟨n,rfl,_⟩:=h;exact⟨λ_=>a,λh=>by simp[dh] at h⟩
 case arr m ts=>obtain⟨n,rfl,_⟩:=h;exact⟨λ_=>a,λh=>by simp[dh] at h⟩
 case sl ts=>obtain⟨n,rfl,_⟩:=h;exact⟨λh=>by simp[dh] at h,λ_=>a⟩
 case tup ts=>simp[ak] at hn
def vY{t:Ty}{x:D}{v:Value}(h:wt t x)(hn:ak t=true)(a:(dh t=true->∃ xs,v=.agg xs)/\(dh t=false->∀ xs,v≠.agg xs)):Zs x v:=by
 cases t<;>simp only[wt] at h
 case int k=>obtain⟨n,rfl⟩:=h;exact a.2 rfl
 case bool=>obtain⟨n,rfl⟩:=h;exact a.2 rfl
 case str=>obtain⟨n,rfl⟩:=h;exact a.2 rfl
 case st ts=>obtain⟨n,rfl,_⟩:=h;exact a.1 rfl
 case arr m ts=>obtain⟨n,rfl,_⟩:=h;exact a.1 rfl
 case sl ts=>obtain⟨n,rfl,_⟩:=h;exact a.2 rfl
 case tup ts=>simp[ak] at hn
def B8{t:Ty}{v:Value}(b:AV.fits t a=true)(hn:ak t=true)(h:AR c a v):AC c a v.cells.toList/\ic t v.cells.toList v:=by
 cases a
 case d t' x=>
  have e:t.beq t'=true:=by simp_all [AV.fits]
  have he:=alb _ _ e;subst he;simp only[AR] at h;rcases h with⟨h1,f,g⟩|⟨ts,rfl,_⟩
  ·refine⟨by simp only[AC];exact⟨f,h1,g.2⟩,rfl,rn f h1 g.1⟩
  ·simp[ak] at hn
 case own t' v' l=>
  cases t<;>simp only[AV.fits] at b<;>first|cases b|skip
  simp only[AR] at h;exact⟨h.2,rfl,by simp[dh],λ_=>h.1⟩
 case nils=>
  cases t<;>simp only[AV.fits] at b<;>first|cases b|skip
  simp only[AR] at h;exact⟨h.2,rfl,by simp[dh],λ_=>h.1⟩
 case st ts l=>
  cases t<;>simp only[AV.fits] at b<;>first|cases b|skip
  simp only[AR] at h;exact⟨h.2,rfl,λ_=>h.1,by simp[dh]⟩
 all_goals simp_all [AV.fits]
def yB{t:Ty}{v:Value}{cs:List Value}(f:AV.fits t a=true)(h:AC c a cs)(i:ic t cs v):AR c a v:=by
 obtain⟨b,e⟩:=i;cases a
 case d t' x=>
  have g:t.beq t'=true:=by simp_all [AV.fits]
  have he:=alb _ _ g;subst he;simp only[AC] at h;simp only[AR];exact .inl ⟨h.2.1,h.1,vY h.1 h.2.1 e,by rw[b];exact h.2.2⟩
 case own t' v' l=>
  cases t<;>simp only[AV.fits] at f<;>first|cases f|skip
  simp only[AR];exact⟨e.2 rfl,by rw[b];exact h⟩
 case nils=>
  cases t<;>simp only[AV.fits] at f<;>first|cases f|skip
  simp only[AR];exact⟨e.2 rfl,by rw[b];exact h⟩
 case st ts l=>
  cases t<;>simp only[AV.fits] at f<;>first|cases f|skip
  simp only[AR];exact⟨e.1 rfl,by rw[b];exact h⟩
 all_goals simp_all [AV.fits]
theorem jm{t:Ty}{T:TypeId}(hl:cg P t T=true){w:World}{b off:Nat}{cs:List Value}(hlen:cs.length=t.size)(hn:nag cs)
  (hc:∀ (i:Nat) (c:Value),cs[i]?=some c->w.cell? ⟨b,off+i,none⟩=some c):∃ v,(Instr.loadAt T (.pointer (some ⟨b,off,none⟩))).run P w=.ok v w/\ic t cs v:=by
 unfold Instr.loadAt Instr.sureAddr;simp only[pure_bind];unfold loadVar;rw[zma,Hg hl,zga];cases ha:dh t
 ·have h1:cs.length=1:=by
   rw[hlen];cases t<;>simp[dh] at ha<;>first|rfl|(exfalso;exact zl hl (.inl ⟨_,rfl⟩))
  match cs,h1 with
  | [c],_=>
   refine⟨c,?_,?_⟩
   ·have:=hc 0 c rfl
    simp_all
   ·have a:=hn c j2
    refine⟨?_,?_,?_⟩
    ·cases c<;>simp_all [Value.cells,Value.oneCell']
    ·simp_all
    ·grind [Value.oneCell']
 ·have a:=run_loadCells_list (P:=P) w ⟨b,off,none⟩ cs (λj v d=>by rw[dN];exact hc j v d)
  rw[hlen] at a;refine⟨.agg cs.toArray,?_,rfl,λ_=>⟨_,rfl⟩,by rw[ha];intro h;cases h⟩
  simp only[if_true,zma,cr hl,zga,a,zta]
def U0{T:TypeId}(hl:Q0 P T=true)(w:World):(isAgg T).run P w=.ok false w:=by
 simp only[Q0,X] at hl;have a:=hl.2;split at a<;>try(cases a;done)
 rename_i d b c e;unfold isAgg;rw[zma,run_underlying e w];cases d<;>first|rfl|exact zgb rfl (b _)|exact zgb rfl (c _ _)
def G9{P:Program}{T:TypeId}(hl:Q0 P T=true):∃ i z,P.info? T=some i/\i.size=1/\i.bytes<=16384/\i.zero=some z/\z.cells.toList.length=1/\z.oneCell'=true:=by
 simp only[Q0,X] at hl;have h1:=hl.1;split at h1<;>try(cases h1;done)
 rename_i i hi;simp only[X,zea] at h1;obtain⟨⟨h1,b⟩,a⟩:=h1;split at a<;>try(cases a;done)
 rename_i z c;simp only[X,zea] at a;exact⟨i,z,hi,h1,b,c,a.1,a.2⟩
def DW{T:TypeId}(hl:Q0 P T=true){w:World}{b:Nat}{x:Value}(a:ck w b=some #[x]):(Instr.loadAt T (.pointer (some ⟨b,0,none⟩))).run P w=.ok x w:=by unfold Instr.loadAt Instr.sureAddr;simp only[pure_bind];unfold loadVar;rw[zma,U0 hl,zga];have:=cell_of_row _ a 0;simp at this;simp[this]
def sS{t:Ty}{T:TypeId}(hl:cg P t T=true){w:World}{b off:Nat}{c:Array Value}{v:Value}{cs:List Value}(e:ck w b=some c)(d:ic t cs v)(hlen:cs.length=t.size)(hn:nag cs)(f:off+cs.length<=c.size) :
  (Instr.storeAt T (.pointer (some ⟨b,off,none⟩)) v).run P w=.ok () (putAt w b off cs.toArray):=by
 unfold Instr.storeAt Instr.sureAddr;simp only[pure_bind];unfold storeVar;have h1:v.cells.size=t.size:=by rw[<-zEb,d.1,hlen]
 have a:=cW (P:=P) b off cs 0 w c e u0 (by rw[zya];intro x hx;have:=hn x hx;cases x<;>simp_all [Value.oneCell',mX])
 simp only[zTb] at a;simp only[zma,cr hl,zga,h1,ne_eq,not_true_eq_false,if_false,d.1,a]
def tu{v:Value}(h:v.oneCell'=true):v.cells=#[v]:=by cases v<;>simp_all [Value.cells,Value.oneCell']
def BE{T:TypeId}(hl:Q0 P T=true){w:World}{b:Nat}{x v:Value}(c:ck w b=some #[x])(d:v.oneCell'=true) :
  (Instr.storeAt T (.pointer (some ⟨b,0,none⟩)) v).run P w=.ok () (putAt w b 0 #[v]):=by
 unfold Instr.storeAt Instr.sureAddr;simp only[pure_bind];unfold storeVar;obtain⟨i,z,hi,h1,_⟩:=G9 hl;have a:=cW (P:=P) b 0 [v] 0 w _ c j2 (by simp;cases v<;>simp_all [Value.oneCell',mX])
 simp only[zTb] at a;simp only[zma,xA (n:=1) (by rw[hi];simp[h1]) w,zga,tu d,zQc,List.length_singleton,ne_eq,not_true_eq_false,if_false,a]
def RP{v:Value}(h:mZ a=true)(k:AR c a v):v.oneCell'=true:=by
 cases a<;>simp only[mZ] at h<;>try(cases h;done)
 all_goals simp only[AR,AC] at k
 ·obtain⟨b,_,d,_⟩:=k;rw[ap b d];rfl
 ·obtain⟨b,_,d,_⟩:=k;rw[ap b d];rfl
 ·obtain⟨b,_,d,_⟩:=k;rw[ap b d];rfl
end
section
variable{H:Type}{enc:TypeId×Value->H}{P:Program}{W:World}{base:Nat}{spare:Nat->Bool}{held:Bool}
def s9(W:World)(b o:Nat):Prop:=(W.cell? ⟨b,o,none⟩).isSome=true
def valid_lt{b o:Nat}(h:s9 W b o):b<W.heap.size:=by
 unfold s9 World.cell? at h;rcases zua b W.heap.size with k|k
 ·exact k
 ·simp only[Array.getElem?_eq_none k] at h;cases h
mutual
def Ry:D->Prop
 | .int k n=>(Lit.int k n).wf=true
 | .bool _=>True
 | .str s=>s.size<=maxLen
 | .st l=>Bp l
 | .sl l=>l.length<=maxLen/\Bp l
 | .tup l=>Bp l
def Bp:List D->Prop
 | []=>True
 | d::l=>Ry d/\Bp l
end
theorem xm:∀ {l:List D},Bp l↔∀ d∈l,Ry d
 | []=>by simp[Bp]
 | d::l=>by simp[Bp,xm (l:=l)]
mutual
def sJ:Ty->Bool
 | .st ts=>Bq ts
 | .arr _ t=>sJ t
 | .sl t=>decide (0<t.size)&&sJ t
 | .tup _=>false
 | .fn=>false
 | _=>true
def Bq:List Ty->Bool
 | []=>true
 | t::ts=>sJ t&&Bq ts
end
def lG{T:TypeId}{ty:Ty}(h:cg P ty T=true):P.cellsOf T=ty.size:=by obtain⟨i,z,h1,a,_⟩:=fC (gC h);simp[Program.cellsOf,h1,a]
def akh{S:Nat->Nat->Prop}{d:D}{c:Value}(h:CR W S d c):cY W S [d] [c]:=⟨rfl,λi d' c' a hc=>by
 cases i with
 | zero=>simp at a hc;subst a;subst hc;exact h
 | succ i=>simp at a⟩
mutual
theorem vQ:∀ (ty:Ty) (T:TypeId) (fuel:Nat) (cs:List Value) (x:DataW H×List MemPlace),cg P ty T=true->sJ ty=true->DataW.trod enc P W base spare held fuel T cs=some x->∃ d,wt ty d/\Ry d/\cY W (s9 W) d.flat cs
 | .int k,T,fuel,cs,x,hl,_,h=>by obtain⟨n,rfl,_,hw⟩:=DataW.trod_int (kM hl) h;exact⟨.int k n,⟨n,rfl⟩,hw,akh (.int k n)⟩
 | .bool,T,fuel,cs,x,hl,_,h=>by
  have hu:P.underlying T=some .bool:=by
   simp only[cg,X] at hl;have h2:=hl.2;split at h2
   ·assumption
   ·cases h2
  obtain⟨b,rfl,_⟩:=DataW.trod_bool hu h;exact⟨.bool b,⟨b,rfl⟩,trivial,akh (.bool b)⟩
 | .str,T,fuel,cs,x,hl,_,h=>by
  have hu:P.underlying T=some .string:=by
   simp only[cg,X] at hl;have h2:=hl.2;split at h2
   ·assumption
   ·cases h2
  obtain⟨s,rfl,_,hw⟩:=DataW.trod_string hu h;exact⟨.str s,⟨s,rfl⟩,hw,akh (.str s)⟩
 | .st ts,T,fuel,cs,x,hl,hp,h=>by
  obtain⟨fs,hu,hf⟩:=j6 hl;obtain⟨xs,n,_,_,hlen,hxl,hx⟩:=DataW.trod_struct hu h;rw[lG hl] at hlen;obtain⟨l,h1,hok,h2⟩:=Ej ts fs.toList 0 cs n hf (by simpa only[sJ] using hp) (λi f hi=>by
   have hi':fs[i]?=some f:=by simpa using hi
   have hlt:i<xs.length:=by rw[hxl];exact(zpa.1 hi').1
   exact⟨xs[i],(hx i f hi').trans (zda hlt)⟩) (by rw[hlen];simp[Ty.size])
  refine⟨.st l,⟨l,rfl,h1⟩,hok,?_⟩;have:(cs.drop 0).take (ale ts)=cs:=by rw[List.drop_zero,zub (by rw[hlen];simp[Ty.size])]
  rw[this] at h2;exact h2
 | .arr n e,T,fuel,cs,x,hl,hp,h=>by
  obtain⟨u,hu,hl'⟩:=fi hl;obtain⟨xs,m,_,_,hlen,hxl,hx⟩:=DataW.trod_array hu h;rw[lG hl] at hlen;rw[lG hl'] at hx;simp only[sJ] at hp;have key:∀ k,k<=n->∃ l:List D,l.length=k/\(∀ y∈l,wt e y/\Ry y)/\cY W (s9 W) (N l) (cs.take (k*e.size)):=by
   intro k
   induction k with
   | zero=>intro _;exact⟨[],rfl,j2,by simp[N,cY.nil]⟩
   | succ k ih=>
    intro hk;obtain⟨l,h1,h2,h3⟩:=ih u0
    have hxk:=hx k u0
    rw[zda (show k<xs.length by omega)] at hxk
    obtain⟨d,h4,h4',h5⟩:=vQ e u m _ _ hl' hp hxk;refine⟨l++[d],by simp[h1],λy hy=>?_,?_⟩
    ·rcases zKa.1 hy with hy|hy
     ·exact h2 y hy
     ·rw[zUa.1 hy];exact⟨h4,h4'⟩
    ·have e1:cs.take ((k+1)*e.size)=cs.take (k*e.size)++(cs.drop (k*e.size)).take e.size:=by
      rw[ztb,z6c,List.take_add]
     rw[e1,cz];refine h3.append ?_;simpa [N] using h5
  obtain⟨l,h1,h2,h3⟩:=key n (zja n);refine⟨.st l,⟨l,rfl,h1,λy hy=>(h2 y hy).1⟩,xm.2 λy hy=>(h2 y hy).2,?_⟩;rw[zub (by rw[hlen];simp[Ty.size])] at h3
  exact h3
 | .sl e,T,fuel,cs,x,hl,hp,h=>by
  obtain⟨u,hu,hl'⟩:=jv hl;simp only[sJ,X,zea] at hp;rcases DataW.trod_slice hu h with⟨rfl,_⟩|⟨a,len,cap,elems,rest,m,_,rfl,_,hb,hlc,hcm,hel,hx,_,_⟩
  ·exact⟨.sl [],⟨[],rfl,j2⟩,⟨zoa _,trivial⟩,akh (akg (l:=[]) (b:=0) (off:=0) (.inl rfl) (zja _) ⟨[],cY.nil,j2⟩)⟩
  ·rw[lG hl'] at hx;by_cases h0:len=0
   ·subst h0;exact⟨.sl [],⟨[],rfl,j2⟩,⟨zoa _,trivial⟩,akh (akg (l:=[]) (b:=0) (off:=0) (.inl rfl) (zoa _) ⟨[],cY.nil,j2⟩)⟩
   ·have hsp:∃ b off,a=⟨b,off,none⟩:=by
     have:=hx 0 u0
     rw[zda (show 0<elems.length by omega)] at this
     obtain⟨cs',h1,_⟩:=Option.bind_eq_some_iff.1 this;obtain⟨_,h2,h3⟩:=World.cells?_some h1;have h4:=h3 0 hp.1;rw[zda (show 0<cs'.length by omega)] at h4
     have e0:(a.add (0*e.size)).add 0=a:=by simp[Addr.add]
     rw[e0] at h4;obtain⟨b,off,sp⟩:=a;cases sp with
     | none=>exact⟨b,off,rfl⟩
     | some s=>
      exfalso;unfold World.cell? at h4;split at h4
      ·simp at h4
      ·cases h4
    obtain⟨b,off,rfl⟩:=hsp;have key:∀ k,k<=len->∃ (l:List D) (cs:List Value),l.length=k/\(∀ y∈l,wt e y/\Ry y)/\cY W (s9 W) (N l) cs/\∀ j c,cs[j]?=some c->W.cell? ⟨b,off+j,none⟩=some c:=by
     intro k
     induction k with
     | zero=>intro _;exact⟨[],[],rfl,j2,cY.nil,j2⟩
     | succ k ih=>
      intro hk;obtain⟨l,cs,h1,h2,h3,h4⟩:=ih u0
      have hxk:=hx k u0
      rw[zda (show k<elems.length by omega)] at hxk
      obtain⟨cs',q1,q2⟩:=Option.bind_eq_some_iff.1 hxk;obtain⟨_,q3,q4⟩:=World.cells?_some q1;obtain⟨d,h5,h5',h6⟩:=vQ e u m _ _ hl' hp.2 q2;have hn:=aK e u hl';have hcl:cs.length=k*e.size:=by rw[<-h3.1,aN hn l (λy hy=>(h2 y hy).1),h1]
      refine⟨l++[d],cs++cs',by simp[h1],λy hy=>?_,?_,λj c hc=>?_⟩
      ·rcases zKa.1 hy with hy|hy
       ·exact h2 y hy
       ·rw[zUa.1 hy];exact⟨h5,h5'⟩
      ·rw[cz];refine h3.append ?_;simpa [N] using h6
      ·rcases zua j cs.length with hj|hj
       ·rw[zab hj] at hc;exact h4 j c hc
       ·rw[zRb hj] at hc;have hlt:j-cs.length<e.size:=by
         have:=(zra.1 hc).1;omega
        have:=q4 (j-cs.length) hlt;rw[hc] at this;rw[dN,dN] at this;rw[show off+k*e.size+(j-cs.length)=off+j by omega] at this
        exact this
    obtain⟨l,cs,h1,h2,h3,h4⟩:=key len (zja _);refine⟨.sl l,⟨l,rfl,λy hy=>(h2 y hy).1⟩,⟨u0,xm.2 λy hy=>(h2 y hy).2⟩,akh ?_⟩
    rw[<-h1];exact akg (b:=b) (off:=off) (.inr rfl) u0 ⟨cs,h3,λi c hc=>⟨by unfold s9;rw[h4 i c hc];rfl,h4 i c hc⟩⟩
 | .tup _,_,_,_,_,hl,_,_=>by simp[cg] at hl
 | .fn,_,_,_,_,hl,_,_=>by simp[cg] at hl
theorem Ej:∀ (ts:List Ty) (fs:List Field) (off:Nat) (cs:List Value) (n:Nat),gM P ts fs off=true->Bq ts=true ->
  (∀ (i:Nat) (f:Field),fs[i]?=some f->∃ x:DataW H×List MemPlace,DataW.trod enc P W base spare held n f.type ((cs.drop f.offset).take (P.cellsOf f.type))=some x)->off+ale ts<=cs.length ->
  ∃ l,fm ts l/\Bp l/\cY W (s9 W) (N l) ((cs.drop off).take (ale ts))
 | [],_,off,cs,n,_,_,_,_=>⟨[],rfl,trivial,by simp[N,ale,cY.nil]⟩
 | t::ts,[],off,cs,n,h,_,_,_=>by simp[gM] at h
 | t::ts,f::fs,off,cs,n,h,hp,hx,hle=>by
  simp only[gM,X,zea] at h;obtain⟨⟨⟨⟨h1,_⟩,h2⟩,h3⟩,h4⟩:=h;simp only[Bq,X] at hp;simp only[ale] at hle ⊢;obtain⟨x,hx0⟩:=hx 0 f rfl;rw[lG h3,h1] at hx0;obtain⟨d,q1,q1',q2⟩:=vQ t f.type n _ _ h3 hp.1 hx0;obtain⟨l,q3,q3',q4⟩:=Ej ts fs (off+t.size) cs n h4 hp.2 (λi g hi=>hx (i+1) g (by simpa using hi)) u0
  refine⟨d::l,⟨d,l,rfl,q1,q3⟩,⟨q1',q3'⟩,?_⟩;rw[List.take_add,zFd];simp only[N];exact q2.append q4
end
end
section
variable{c:Cx}{u:Ty}
theorem ab.{u,v}{α:Type u}{β:Type v}{x:Option α}{f:α->Option β}{r:β}(h:x.bind f=some r):∃ a,x=some a/\f a=some r:=by
 cases x with
 | none=>cases h
 | some a=>exact⟨a,rfl,h⟩
def pU{t:Ty}{x:D}(h:AV.fits t (.d u x)=true):t=u:=by
 have a:t.beq u=true:=by simp_all [AV.fits]
 exact alb _ _ a
def ala:∀ (t:Ty),t.beq t=true:=by
 intro t;exact(Ty.rec (motive_1:=λt=>t.beq t=true) (motive_2:=λl=>Ty.beqs l l=true)
  (λk=>by simp[Ty.beq]) rfl rfl (λl h=>by simpa [Ty.beq] using h) (λn t h=>by simp[Ty.beq,h]) (λt h=>by simpa [Ty.beq] using h) (λl h=>by simpa [Ty.beq] using h) rfl rfl
  (λt l h1 a=>by simp[Ty.beqs,h1,a]) t)
def cb(t:Ty)(x:D):AV.fits t (.d t x)=true:=by have:=ala t;all_goals simp_all [AV.fits]
theorem tO:∀ {ts:List Ty} {l:List AV} {i:Nat} {a:AV},AV.fitss ts l=true->l[i]?=some a->∃ t,ts[i]?=some t/\AV.fits t a=true
 | _,[],_,_,_,h=>by simp at h
 | [],b::l,_,_,h,_=>by simp[AV.fitss] at h
 | u::ts,b::l,i,a,h,hi=>by
  simp only[AV.fitss,X] at h;cases i with
  | zero=>simp at hi;subst hi;exact⟨u,rfl,h.1⟩
  | succ i=>simp at hi;obtain⟨t,h1,c⟩:=tO h.2 hi;exact⟨t,by simpa using h1,c⟩
theorem wQ:∀ {ts:List Ty} {l:List AV} {i:Nat} {t:Ty},AV.fitss ts l=true->ts[i]?=some t->∃ a,l[i]?=some a/\AV.fits t a=true
 | [],_,_,_,_,h=>by simp at h
 | u::ts,[],_,_,h,_=>by simp[AV.fitss] at h
 | u::ts,b::l,i,a,h,hi=>by
  simp only[AV.fitss,X] at h;cases i with
  | zero=>simp at hi;subst hi;exact⟨b,rfl,h.1⟩
  | succ i=>simp at hi;obtain⟨t,h1,c⟩:=wQ h.2 hi;exact⟨t,by simpa using h1,c⟩
theorem oB:∀ {ts:List Ty} {l:List AV} {i:Nat} {t:Ty} {b:AV},AV.fitss ts l=true->ts[i]?=some t->AV.fits t b=true->AV.fitss ts (l.set i b)=true
 | [],_,_,_,_,_,h,_=>by simp at h
 | u::ts,[],_,_,_,h,_,_=>by simp[AV.fitss] at h
 | u::ts,a::l,i,t,b,h,hi,c=>by
  simp only[AV.fitss,X] at h;cases i with
  | zero=>simp at hi;subst hi;simp[AV.fitss,c,h.2]
  | succ i=>simp at hi;simp only[List.set_cons_succ,AV.fitss,X];exact⟨h.1,oB h.2 hi c⟩
theorem vh:∀ {ts:List Ty} {l:List AV} {cs:List Value} {i:Nat} {a:AV},AV.fitss ts l=true->aR ts=true->jM c l cs->l[i]?=some a ->
  ∃ pre mid post,cs=pre++(mid++post)/\pre.length=ale (ts.take i)/\AC c a mid/\∀ b d,AC c b d->jM c (l.set i b) (pre++(d++post))
 | _,[],_,_,_,_,_,_,h=>by simp at h
 | [],b::l,_,_,_,h,_,_,_=>by simp[AV.fitss] at h
 | u::ts,b::l,cs,i,a,e,hn,h,hi=>by
  simp only[AV.fitss,X] at e;simp only[aR,X] at hn;simp only[jM] at h;obtain⟨c1,c2,rfl,h1,f⟩:=h;cases i with
  | zero=> simp at hi;subst hi;exact⟨[],c1,c2,j2,by simp[ale],h1,λb d g=>by simp only[List.set_cons_zero,jM,z4b];exact⟨d,c2,rfl,g,f⟩⟩
  | succ i=>
   simp at hi;obtain⟨pre,mid,post,rfl,j,k,m⟩:=vh e.2 hn.2 f hi;refine⟨c1++pre,mid,post,by simp[zMa],?_,k,λb d g=>?_⟩
   ·simp only[zAa,zac,ale,j,(ii b u c1 e.1 h1).1]
   ·grind [jM,List.append_assoc]
theorem nS{ts:List Ty}{i:Nat}{p:List Nat}(h:aV (.st ts) (i::p)=some u):∃ v,ts[i]?=some v/\aV v p=some u:=by grind [aV]
def Hb{R:Type}{c:Cx}:∀ (p:List Nat) {T t:Ty} {a:AV} {cs:List Value} {K:AV->Option R} {r:R},AV.fits T a=true->ak T=true->aV T p=some t->AC c a cs->AU a p K=some r ->
  ∃ a' pre mid post,K a'=some r/\cs=pre++(mid++post)/\pre.length=bi T p/\AC c a' mid/\AV.fits t a'=true:=by
 intro p
 induction p with
 | nil=>
  intro T t a cs K r b hn hp hc f;have hT:T=t:=by cases T<;>simpa [aV] using hp
  subst hT;refine⟨a,[],cs,[],?_,j2,by cases T<;>rfl,hc,b⟩
  cases a<;>simpa [AU] using f
 | cons i p ih=>
  intro T t a cs K r b hn hp hc f;cases a<;>simp only[AU] at f
  case d t' x=>
   have:=pU b;subst this;obtain⟨t2,h1,m⟩:=ab f;obtain⟨y,g,n⟩:=ab m;rw[hp] at h1;cases h1;simp only[AC] at hc;obtain⟨q,A,B,s,z⟩:=j4 (i::p) hc.1 hn hp g;have h:=hc.2.2;rw[s] at h;obtain⟨o,u⟩:=h.split;obtain⟨w,C⟩:=u.split;refine⟨_,cs.take A.length,(cs.drop A.length).take y.flat.length,(cs.drop A.length).drop y.flat.length,n,by simp only[zza],?_,?_,cb _ _⟩
   ·rw[<-o.1];exact z
   ·simp only[AC];exact⟨q,eK _ hn hp,w⟩
  case st ts' l=>
   cases T<;>simp only[AV.fits] at b<;>first|cases b|skip
   rename_i ts;simp only[X] at b;obtain⟨a1,h1,m⟩:=ab f;obtain⟨v,g,n⟩:=nS hp;simp only[AC] at hc;simp only[ak] at hn;obtain⟨v',h,o⟩:=tO b.2 h1;rw[g] at h;cases h;obtain⟨pre,mid,post,rfl,q,s,_⟩:=vh b.2 hn hc.2.2 h1;obtain⟨a',k,j,e,m1,rfl,G,m3,m4⟩:=ih o (cc hn g) n s m;refine⟨a',pre++k,j,e++post,m1,by simp[zMa],?_,m3,m4⟩
   simp only[zAa,bi,q,G];simp[List.getD,g]
  all_goals cases f
def RZ{R:Type}:∀ (p:List Nat) {T t:Ty} {a b:AV} {cs m:List Value} {K:AV->Option R} {r:R},AV.fits T a=true->ak T=true->aV T p=some t->AC c a cs->AC c b m->AV.fits t b=true->FN a p b K=some r ->
  ∃ a' pre mid post,K a'=some r/\cs=pre++(mid++post)/\pre.length=bi T p/\mid.length=m.length/\AC c a' (pre++(m++post))/\AV.fits T a'=true:=by
 intro p
 induction p with
 | nil=>
  intro T t a b cs m K r e hn hp hc g f j;have hT:T=t:=by simp_all [aV]
  subst hT;refine⟨b,[],cs,[],?_,j2,by cases T<;>rfl,?_,by simpa using g,f⟩
  ·simp_all [FN]
  ·rw[(ii _ _ _ e hc).1,(ii _ _ _ f g).1]
 | cons i p ih=>
  intro T t a b cs m K r e hn hp hc g f j;cases a<;>simp only[FN] at j
  case d t' x=>
   have:=pU e;subst this;cases b<;>simp only at j<;>first|cases j|skip
   rename_i u y;have:=pU f;subst this;obtain⟨O,h,w⟩:=ab j;simp only[AC] at hc g;obtain⟨D,A,C,B,E,F,M,N⟩:=sU (i::p) hc.1 hn hp h g.1;have n:=hc.2.2;rw[E] at n;obtain⟨s,I⟩:=n.split;obtain⟨J,L⟩:=I.split;refine⟨_,cs.take A.length,(cs.drop A.length).take C.length,(cs.drop A.length).drop C.length,w,by simp only[zza],?_,?_,?_,cb _ _⟩
   ·rw[<-s.1];exact M
   ·rw[<-J.1,N,<-g.2.2.1,cL _ _ g.1 g.2.1]
   ·simp only[AC];refine⟨D,hn,?_⟩;rw[F];exact s.append (g.2.2.append L)
  case st ts' l=>
   cases T<;>simp only[AV.fits] at e<;>first|cases e|skip
   rename_i ts;simp only[X] at e;obtain⟨a1,h1,H⟩:=ab j;obtain⟨v,h,w⟩:=nS hp;simp only[AC] at hc;simp only[ak] at hn;obtain⟨v',n,s⟩:=tO e.2 h1;rw[h] at n;cases n;obtain⟨pre,mid,post,rfl,D,E,F⟩:=vh e.2 hn hc.2.2 h1;obtain⟨a',q,o,k,m1,rfl,G,S,m3,m4⟩:=ih s (cc hn h) w E g f H;have z:=alc _ _ e.1;subst z;refine⟨_,pre++q,o,k++post,m1,by simp[zMa],?_,S,?_,?_⟩
   ·simp only[zAa,bi,D,G];simp[List.getD,h]
   ·simp only[AC];refine⟨hn,oB e.2 h m4,?_⟩;have:=F _ _ m3;simpa [zMa] using this
   ·simp only[AV.fits,X];exact⟨e.1,oB e.2 h m4⟩
  all_goals cases j
mutual
theorem uq{c:Cx}{ob:Nat->Option Ob}:∀ (a:AV) (t:Ty) (cs:List Value) (x:D),akf ob t a=some x->AC c a cs->wt t x/\cY c.w c.S x.flat cs/\(∀ v,ic t cs v->ak t=true->fX c.w c.S x v)
 | .d t' x',t,cs,x,h,hc=>by
  have h':t.beq t'=true/\x'=x:=by cases t<;>simpa [akf] using h
  obtain⟨h1,rfl⟩:=h';have:=alb _ _ h1;subst this;simp only[AC] at hc;exact⟨hc.1,hc.2.2,λv hv hn=>⟨vY hc.1 hc.2.1 hv.2,by rw[hv.1];exact hc.2.2⟩⟩
 | .own t' v l,t,cs,x,h,hc=>by
  have h':t.beq (.sl t')=true/\D.sl l=x:=by cases t<;>simpa [akf] using h
  obtain⟨h1,rfl⟩:=h';have:=alb _ _ h1;subst this;simp only[AC] at hc;obtain⟨k1,k2,a,cap,rfl,k3,_⟩:=hc;have hw:wt (.sl t') (.sl l):=by simp only[wt];exact⟨l,rfl,k2⟩
  exact⟨hw,cY.single.2 k3,λv hv hn=>⟨vY hw hn hv.2,by rw[hv.1];exact cY.single.2 k3⟩⟩
 | .nils,t,cs,x,h,hc=>by
  cases t<;>simp only[akf] at h<;>first|cases h|skip
  simp only[AC] at hc;subst hc;have hw:∀ t,wt (.sl t) (.sl []):=λt=>by simp only[wt];exact⟨[],rfl,λx hx=>by simp at hx⟩
  have hr:cY c.w c.S [D.sl []] [.slice none 0 0]:=cY.single.2 (.sl [] none 0 0 0 (λ_=>undef) (.inl rfl) (zja 0) (λi d hd=>by simp[N] at hd) (λi d hd=>by simp[N] at hd))
  exact⟨hw _,hr,λv hv hn=>⟨vY (hw _) hn hv.2,by rw[hv.1];exact hr⟩⟩
 | .st ts' l,t,cs,x,h,hc=>by
  simp only[akf] at h;split at h
  ·rename_i hb;have:=alb _ _ hb;subst this;obtain⟨xs,h1,h2⟩:=ab h;simp only[zca] at h2;subst h2;simp only[AC] at hc;obtain⟨k1,k2⟩:=BS l ts' cs xs h1 hc.2.2;have hw:wt (.st ts') (.st xs):=by simp only[wt];exact⟨xs,rfl,k1⟩
   exact⟨hw,k2,λv hv hn=>⟨vY hw hn hv.2,by rw[hv.1];exact k2⟩⟩
  ·cases h
 | .ptr ..,t,_,_,h,_=>by cases t<;>simp[akf] at h
 | .fptr ..,t,_,_,h,_=>by cases t<;>simp[akf] at h
 | .mem ..,t,_,_,h,_=>by cases t<;>simp[akf] at h
 | .clo ..,t,_,_,h,_=>by cases t<;>simp[akf] at h
 | .sub ..,t,_,_,h,_=>by cases t<;>simp[akf] at h
 | .gone,t,_,_,h,_=>by cases t<;>simp[akf] at h
 | .tpo ..,t,_,_,h,_=>by cases t<;>simp[akf] at h
 | .undef,t,_,_,h,_=>by cases t<;>simp[akf] at h
theorem BS{c:Cx}{ob:Nat->Option Ob}:∀ (l:List AV) (ts:List Ty) (cs:List Value) (xs:List D),AV.toDl ob ts l=some xs->jM c l cs->fm ts xs/\cY c.w c.S (N xs) cs
 | [],ts,cs,xs,h,hc=>by
  cases ts<;>simp only[AV.toDl] at h<;>first|cases h|skip
  simp only[jM] at hc;subst hc;exact⟨by simp[fm],cY.nil⟩
 | a::l,ts,cs,xs,h,hc=>by
  cases ts<;>simp only[AV.toDl] at h<;>first|cases h|skip
  rename_i t ts;obtain⟨x,h1,h2⟩:=ab h;obtain⟨ys,h3,h4⟩:=ab h2;simp only[zca] at h4;subst h4;simp only[jM] at hc;obtain⟨c1,c2,rfl,k1,k2⟩:=hc;obtain⟨m1,G,_⟩:=uq a t c1 x h1 k1;obtain⟨m3,m4⟩:=BS l ts c2 ys h3 k2;exact⟨by simp only[fm];exact⟨x,ys,rfl,m1,m3⟩,by simp only[N];exact G.append m4⟩
end
mutual
theorem xN{ob:Nat->Option Ob}:∀ (a:AV) (t:Ty) (x:D),akf ob t a=some x->AV.fits t a=true
 | .d t' x',t,x,h=>by simp_all [akf,AV.fits]
 | .own t' v l,t,x,h=>by
  have h':t.beq (.sl t')=true/\D.sl l=x:=by cases t<;>simpa [akf] using h
  have:=alb _ _ h'.1;subst this;simp[AV.fits,ala]
 | .nils,t,x,h=>by cases t<;>first|rfl|(simp only[akf] at h;cases h)
 | .st ts' l,t,x,h=>by
  simp only[akf] at h;split at h
  ·rename_i hb;have:=alb _ _ hb;subst this;obtain⟨xs,h1,h2⟩:=ab h;simp only[AV.fits,X];exact⟨by have:=ala (.st ts');simpa [Ty.beq] using this,Af l ts' xs h1⟩
  ·cases h
 | .ptr ..,t,_,h=>by cases t<;>simp[akf] at h
 | .fptr ..,t,_,h=>by cases t<;>simp[akf] at h
 | .mem ..,t,_,h=>by cases t<;>simp[akf] at h
 | .clo ..,t,_,h=>by cases t<;>simp[akf] at h
 | .sub ..,t,_,h=>by cases t<;>simp[akf] at h
 | .gone,t,_,h=>by cases t<;>simp[akf] at h
 | .tpo ..,t,_,h=>by cases t<;>simp[akf] at h
 | .undef,t,_,h=>by cases t<;>simp[akf] at h
theorem Af{ob:Nat->Option Ob}:∀ (l:List AV) (ts:List Ty) (xs:List D),AV.toDl ob ts l=some xs->AV.fitss ts l=true
 | [],ts,xs,h=>by cases ts<;>first|rfl|(simp only[AV.toDl] at h;cases h)
 | a::l,ts,xs,h=>by
  cases ts<;>simp only[AV.toDl] at h<;>first|cases h|skip
  rename_i t ts;obtain⟨x,h1,h2⟩:=ab h;obtain⟨ys,h3,h4⟩:=ab h2;simp only[AV.fitss,X];exact⟨xN a t x h1,Af l ts ys h3⟩
end
def pJ{ob:Nat->Option Ob}{t:Ty}{a:AV}{v:Value}{x:D}(hn:ak t=true)(h:AR c a v)(hx:akf ob t a=some x):wt t x/\fX c.w c.S x v:=by
 obtain⟨h1,b⟩:=B8 (xN a t x hx) hn h;obtain⟨d,_,e⟩:=uq a t _ x hx h1
 simp_all
def dA{t:Ty}{x:D}{v:Value}(hn:ak t=true)(hw:wt t x)(h:fX c.w c.S x v):AR c (.d t x) v:=by simp_all [AR]
theorem B9{t:Ty}{x:D}{v:Value}(h:AR c (.d t x) v)(hn:ak t=true):wt t x/\fX c.w c.S x v:=by all_goals grind [AR,ak]
def eW{t:Ty}{k:IntKind}{n:Int}{v:Value}(h:AR c (.d t (.int k n)) v):v=.int k n/\t=.int k:=by
 simp only[AR] at h;rcases h with⟨h1,a,e⟩|⟨ts,rfl,_,a,_⟩
 ·refine⟨e.int_inv,?_⟩;cases t<;>simp only[wt] at a<;>first
   | (obtain⟨m,b⟩:=a;cases b;rfl)
   | (obtain⟨m,b,_⟩:=a;cases b)
   | (obtain⟨m,b⟩:=a;cases b)
 ·simp_all [wt]
def Gi{t:Ty}{n:Bool}{v:Value}(h:AR c (.d t (.bool n)) v):v=.bool n:=by
 simp only[AR] at h;rcases h with⟨h1,a,b⟩|⟨ts,rfl,_,a,_⟩
 ·exact b.bool_inv
 ·simp_all [wt]
def cP(k:IntKind)(n:Int):AR c (.d (.int k) (.int k n)) (.int k n):=
 dA rfl (by simp only[wt];exact⟨n,rfl⟩) (akA (.int k n))
def ij(b:Bool):AR c (.d .bool (.bool b)) (.bool b):=
 dA rfl (by simp only[wt];exact⟨b,rfl⟩) (akA (.bool b))
end
section
variable{K z:Value->World->Prop}{c:Code}{f:FuncId}{R:Ending->World->Prop}{j:Nat}{G:Ty}
def eY(P:Program)(o:Oper)(a:Act)(w:World)(K:Value->World->Prop):Prop:=
 match (execOp a.eval o).run P w with
 | .ok (.value v) w'=>K v w'
 | .ok .skip w'=>K undef w'
 | .ok (.enter f args) w'=>Calls P f args w' λe b=>∃ v,e=.returned v/\K v b
 | _=>False
variable{ro:Option Nat}{nn:Nat}
def eY.plain{P:Program}{o:Oper}{a:Act}{w:World}(h:eY P o a w K)(c:Call):o.op≠.defer c:=by
 intro hc;unfold eY at h;obtain⟨dst,op,ty,pos,after,guard⟩:=o;simp only at hc;subst hc;have e:execOp a.eval ⟨dst,.defer c,ty,pos,after,guard⟩=(resolve a.eval c ty >>= λd=>pure (Next.defer d)):=rfl;rw[e,zma] at h;cases hr:(resolve a.eval c ty).run P w with
 | ok d w'=>rw[hr] at h;exact h
 | halt x w'=>rw[hr] at h;exact h
def Cn{P:Program}{args:Array Value}{w:World}{m:Nat}(h:Calls P f args w R):CallsIn (FW ro) m P f args w R:=by
 have h1:CallsIn Fence.wide m P f args w R:=callsIn_wide.2 h;cases ro with
 | none=>exact h1
 | some l=>exact CallsIn.inRound l h1
def bI{P:Program}{o:Oper}{a:Act}{w:World}{K:Value->World->Prop}{next:Act->World->Prop}{Q:Exit->Act->World->Prop}(h:eY P o a w K)(hk:∀ v w',K v w'->next (a.put o.dst v) w'):o.wpIn (FW ro) nn P a w next Q:=by
 refine⟨λ_ _=>trivial,?_⟩;rw[Oper.semAt_eq _ _ _ h.plain];unfold eY at h;generalize (execOp a.eval o).run P w=r at *;cases r with
 | ok n w'=>
  cases n<;>simp only at h<;>simp only[Oper.uponIn]
  case value v=>exact hk _ _ h
  case skip=>exact hk _ _ h
  case enter f args=>exact⟨λb=>(by cases b),Cn (h.mono λe d ⟨v,he,c⟩=>by subst he;exact hk _ _ c)⟩
 | halt x w'=>simp only at h
def AA{P:Program}{fn:Func}{args:Array Value}{w:World}(b:P.funcs[f]?=some fn)(a:fn.body=some c)
  (h:c.wpIn (FW none) 0 P (bodyPost P fn R) { tmps:=args++Array.replicate (fn.ntmps-args.size) undef,defers:=[] } w):Calls P f args w R:=
 calls_of_wp b a (wpIn_wide.1 h)
section
variable{P:Program}{Q:Exit->Act->World->Prop}{a:Act}{w:World}{F:Fence}{n:Nat}
theorem kr{md:Region.Mode}{ops:Array Oper}{Q':Exit->Act->World->Prop}:∀ (l:List Oper) (k:Nat) (b:Array Bool) (a:Act) (w:World),(∀ j,l[j]?=ops[k+j]?) ->
  Region.seqB md ops l.length k b=true->wpListIn F n P ops Q' l a w->wpAnyIn F n P md ops Q' l.length b a w
 | [],_,_,_,_,_,c,h=>⟨by simpa [Region.seqB] using c,h⟩
 | o::l,k,b,a,w,hl,c,h=>by
  have h0:ops[k]?=some o:=by simpa using(hl 0).symm
  simp only[zPa,Region.seqB,X,zea] at c;refine⟨λh1=>(by rw[c.1] at h1;cases h1),λi hi=>?_⟩
  rw[c.1] at hi;have d:i=k:=by simpa using hi
  subst d;have hw:wpOpIn F n P ops Q' i (wpListIn F n P ops Q' l) a w:=by unfold wpOpIn;simp only[h0];exact h
  exact wpOpIn_mono (λa' w' e=>kr l (i+1) _ a' w' (λj=>by have:=hl (j+1);simpa [zLb,zgc 1 j] using this) c.2 e) hw
def gD{b:Frame}{k:List Item}{cs:List Frame}:step P (lone (b.atR a (.code (.scope c)::k)) cs w)=.next (lone (b.atR a (.code c::.inScope c::k)) cs w):=
 step_lone_go (by simp[stepG,stepG.exec,Frame.atR])
def yx{b:Frame}{k:List Item}{cs:List Frame}:step P (lone (b.atR a (.inScope c::k)) cs w)=.next (lone (b.atR a k) cs w):=
 step_lone_go (by simp[stepG,stepG.exec,Frame.atR])
def oY(h:c.wpIn F n P (Exit.noGoto Q) a w):(Code.scope c).wpIn F n P Q a w:=by
 intro b k cs p j m;have h0:(lone (b.atR a (.code (.scope c)::k)) cs w).fenced P F:=fenced_calm j m rfl;obtain⟨e,g,i,hq,d⟩:=h b (.inScope c::k) cs p j m;cases e with
 | normal=>exact⟨.normal,g,i,hq,.head h0 gD (StepsIn.trans d (.one (fenced_calm j m rfl) yx))⟩
 | exit f=>
  have hx:exitTo f (.inScope c::k)=exitTo f k:=by simp[exitTo]
  exact⟨.exit f,g,i,hq,λr hk=>.head h0 gD (d.1 r (by rw[hx];exact hk)),
   λo hk=>let ⟨k₁,h1,q⟩:=d.2 o (by rw[hx];exact hk);⟨k₁,h1,.head h0 gD q⟩⟩
 | goto l=>exact hq.elim
 | ret=>exact⟨_,g,i,hq,.of_steps (.one h0 gD) d⟩
 | panic s=>exact⟨_,g,i,hq,.of_steps (.one h0 gD) d⟩
 | outgrown=>exact⟨_,g,i,hq,.of_steps (.one h0 gD) d⟩
def Ak(J:Nat->Act->World->Prop){m:Nat}(y:J m a w)
  (round:∀ m a w,J m a w->c.wpIn F n P (Exit.then (λa' w'=>∃ i,i<m/\J i a' w') Q) a w):(Code.loop c).wpIn F n P Q a w:=by
 intro b k cs s o r;have key:∀ m a w,J m a w->∃ e a' w',Q e a' w'/\ArrivesIn (Machine.fenced P F) P (lone (b.atR a (.code c::.inLoop c::k)) cs w) b k cs e a' w':=by
  intro m
  induction m using Nat.strongRecOn with
  | _ m ih=>
   intro a w v;obtain⟨e,g,h,hq,d⟩:=round m a w v b (.inLoop c::k) cs s o r;cases e with
   | normal=> obtain⟨i,p,j⟩:=hq;obtain⟨u,t,z,q,f⟩:=ih i p g h j;exact⟨u,t,z,q,.of_steps (StepsIn.trans d (.one (fenced_calm o r rfl) stepR_inLoop)) f⟩
   | exit id=>exact⟨_,g,h,hq,.pass (x:=.inLoop c) rfl (λ_ _=>.inl j2) d⟩
   | goto l=>exact⟨_,g,h,hq,.pass (x:=.inLoop c) rfl (λ_ _=>.inl j2) d⟩
   | ret=>exact⟨_,g,h,hq,.pass (x:=.inLoop c) rfl (λ_ _=>.inl j2) d⟩
   | panic A=>exact⟨_,g,h,hq,.pass (x:=.inLoop c) rfl (λ_ _=>.inl j2) d⟩
   | outgrown=>exact⟨_,g,h,hq,.pass (x:=.inLoop c) rfl (λ_ _=>.inl j2) d⟩
 obtain⟨e,a',w',hq,d⟩:=key m a w y;exact⟨e,a',w',hq,.of_steps (.one (fenced_calm o r rfl) stepR_loop) d⟩
end
theorem eY.value{P:Program}{o:Oper}{a:Act}{w w':World}{v:Value}(h:(execOp a.eval o).run P w=.ok (.value v) w')(hk:K v w'):eY P o a w K:=by simp_all [eY]
theorem eY.skip{P:Program}{o:Oper}{a:Act}{w w':World}(h:(execOp a.eval o).run P w=.ok .skip w')(hk:K undef w'):eY P o a w K:=by simp_all [eY]
theorem eY.enter{P:Program}{o:Oper}{a:Act}{w w':World}{f:FuncId}{args:Array Value}(h:(execOp a.eval o).run P w=.ok (.enter f args) w')(hk:Calls P f args w' λe b=>∃ v,e=.returned v/\K v b):eY P o a w K:=by simp_all [eY]
theorem eY.mono{P:Program}{o:Oper}{a:Act}{w:World}(h:eY P o a w K)(hk:∀ v w',K v w'->z v w'):eY P o a w z:=by
 unfold eY at *;generalize (execOp a.eval o).run P w=r at *;cases r with
 | ok n w'=>
  cases n<;>simp only at h ⊢
  case value v=>exact hk _ _ h
  case skip=>exact hk _ _ h
  case enter f args=>exact h.mono λe c ⟨v,he,b⟩=>⟨v,he,hk _ _ b⟩
 | halt x w'=>simp only at h
section
variable{w0:Root}{S:Nat->Nat->Prop}{γ:Nat->Option Nat}{β:Nat->Option (Nat×Nat)}{s:St}{a:Act}{w:World}
def aW(h:Rp w0 S γ β s a w):∀ x:Operand,AR ⟨w,S,γ,β,s.ob,s.dead⟩ (s.opA x) (a.eval x)
 | .tmp t=>by
  simp only[St.opA,Act.eval];by_cases ht:t<a.tmps.size
  ·exact h.tms t ht
  ·rw[h.tmu t (h.nt ▸ Nat.le_of_not_lt ht)];simp[AR]
 | .const v=>by
  simp only[St.opA,Act.eval];cases v<;>simp only[Lr]<;>first
   | exact cP _ _
   | exact ij _
   | exact dA rfl (by simp only[wt];exact⟨_,rfl⟩) (akA (.str _))
   | (simp only[AR];done)
   | skip
  case slice a len cap=>
   match a,len,cap with
   | none,0,0=>simp[AR,AC,Value.cells]
   | some _,_,_=>simp only[AR]
   | none,_+1,_=>simp only[AR]
   | none,0,_+1=>simp only[AR]
 | .global g=>by simp[St.opA,AR]
 | .func f=>by simp only[St.opA,AR,AC];exact⟨λ_ h=>(by cases h),[],rfl,by simp only[oZ]⟩
theorem Rp.put(h:Rp w0 S γ β s a w){v:AV}{val:Value}(c:AR ⟨w,S,γ,β,s.ob,s.dead⟩ v val)(dst:Option Nat):Rp w0 S γ β (s.put dst v) (a.put dst val) w:=by
 cases dst with
 | none=>simpa [St.put,Act.put] using h
 | some t=>
  simp only[St.put,Act.put];by_cases ht:t<s.nt
  ·rw[zla ht];refine⟨h.ext,λi hi=>?_,by simpa using h.nt,λi hi=>?_,h.obs,h.γn,h.γi,h.γf,h.βn,h.βi,h.βγ,h.βf,h.Sb,h.So⟩
   ·simp only[Array.size_setIfInBounds] at hi;by_cases hit:i=t
    ·subst hit;simp only[if_true];rw[show(a.tmps.setIfInBounds i val).getD i undef=val by simp[Array.getD,hi]]
     exact c
    ·simp only[zia hit];have:=h.tms i hi
     rwa [show(a.tmps.setIfInBounds t val).getD i undef=a.tmps.getD i undef by simp[Array.getD,hi,Array.getElem_setIfInBounds_ne hi (Ne.symm hit)]]
   ·have b:s.nt<=i:=hi;show(if i=t then v else s.tm i)=_
    rw[zia u0];exact h.tmu i b
  ·rw[zia ht];have:a.tmps.setIfInBounds t val=a.tmps:=by
    apply Array.setIfInBounds_eq_of_size_le;rw[h.nt];omega
   rw[this];exact h
def A5{w':World}{S':Nat->Nat->Prop}{γ':Nat->Option Nat}{β':Nat->Option (Nat×Nat)}{ob:Nat->Option Ob}{dead:List Nat}
  (hc:∀ b o,S b o->w'.cell? ⟨b,o,none⟩=w.cell? ⟨b,o,none⟩) (c:∀ b o,S b o->S' b o) (g:∀ id b,γ id=some b->γ' id=some b)
  (f:∀ v b e,v ∉ dead->β v=some (b,e)->β' v=some (b,e)/\∀ n,rA w b=some n->rA w' b=some n):Cx.le ⟨w,S,γ,β,ob,dead⟩ ⟨w',S',γ',β',ob,dead⟩:=
 ⟨hc,c,g,λid o d _=>⟨o,d,λp=>⟨rfl,rfl⟩,λt l e=>⟨l,e,rfl⟩,λ_ _ l e=>⟨l,e⟩⟩,λv a=>⟨a,λb e he=>f v b e a he⟩⟩
def eH{os:List Obj}{d:Nat}{b o:Nat}(h:b<w.heap.size):(grown w os d).cell? ⟨b,o,none⟩=w.cell? ⟨b,o,none⟩:=by simp only[World.cell?,dn w os d h]
def zT{os:List Obj}{d:Nat}{b:Nat}(h:b<w.heap.size):rA (grown w os d) b=rA w b:=by simp only[rA,ck,dn w os d h]
theorem jR.mono{c c':Cx}(h:c.le c'){vt:Ty}:∀ {j:Nat} {l:List D} {es:List MapEntry},jR c G vt j l es->jR c' G vt j l es
 | _,[],[],_=>trivial
 | _,[],_::_,k=>k.elim
 | _,_::_,[],k=>k.elim
 | j,x::l,e::es,k=>by simp only[jR] at k ⊢;obtain⟨⟨q1,b,n,d,f,g,i,m⟩,a⟩:=k;exact⟨⟨q1,b,n,d,f,g,i.mono h.cell h.S,m.mono h.cell h.S⟩,jR.mono h a⟩
theorem jR.same{c c':Cx}(hw:c'.w=c.w)(a:c'.S=c.S){vt:Ty}:∀ {j:Nat} {l:List D} {es:List MapEntry},jR c G vt j l es->jR c' G vt j l es
 | _,[],[],_=>trivial
 | _,[],_::_,k=>k.elim
 | _,_::_,[],k=>k.elim
 | j,x::l,e::es,k=>by simp only[jR] at k ⊢;rw[hw,a];exact⟨k.1,jR.same hw a k.2⟩
theorem gF.mono{c c':Cx}(h:c.le c'){b:Nat}{o:Ob}(q:c'.w.heap[b]?=c.w.heap[b]?)(n:∀ o,c'.S b o->c.S b o)(k:gF c b o):gF c' b o:=by
 have e:ck c'.w b=ck c.w b:=by simp only[ck,q]
 cases o<;>simp only[gF] at k ⊢
 case one t v=> obtain⟨f,g,j,cs,a,m,s⟩:=k;exact⟨f,g,λo d=>j o (n o d),cs,by rw[e];exact a,AC.mono h _ _ m,s⟩
 case many t l=> obtain⟨f,g,j,cs,y,a,m⟩:=k;exact⟨f,g,λo d=>j o (n o d),cs,y,by rw[e];exact a,m.mono h.cell h.S⟩
 case mp kt vt l=> obtain⟨f,g,j,es,a,m⟩:=k;exact⟨f,g,λo d=>j o (n o d),es,by rw[q];exact a,m.mono h⟩
 case lp i p=> obtain⟨r,a,m,s,u⟩:=k;exact⟨r,by rw[q];exact a,m,λt ht=>(s t ht).mono h.cell h.S h.γ,u⟩
 case fv v=> obtain⟨f,x,g,j,a⟩:=k;exact⟨λo d=>f o (n o d),x,by rw[e];exact g,j.mono h.cell h.S h.γ,a⟩
theorem Rp.grow(h:Rp w0 S γ β s a w){os:List Obj}{d:Nat}(r:w.drawn<=d){S':Nat->Nat->Prop}(q:∀ b o,S b o->S' b o)(g:∀ b o,S' b o->S b o\/(w.heap.size<=b/\b<(grown w os d).heap.size)) :
  Rp w0 S' γ β s a (grown w os d)/\Cx.le ⟨w,S,γ,β,s.ob,s.dead⟩ ⟨grown w os d,S',γ,β,s.ob,s.dead⟩:=by
 have m:w.heap.size<=(grown w os d).heap.size:=j2
 have hle:Cx.le ⟨w,S,γ,β,s.ob,s.dead⟩ ⟨grown w os d,S',γ,β,s.ob,s.dead⟩:=
  A5 (λb o c=>eH (h.Sb b o c)) q (λ_ _ k=>k) (λv b e p he=>⟨he,λn hn=>by rw[zT (h.βn v b e p he).2.1];exact hn⟩)
 refine⟨⟨?_,λt ht=>(h.tms t ht).mono hle,h.nt,h.tmu,λid o b u c=>?_,λid b c=>⟨(h.γn id b c).1,by have:=(h.γn id b c).2;omega⟩,h.γi,h.γf,λv b e p he=>?_,h.βi,h.βγ,h.βf,λb o c=>?_,λb o c j=>?_⟩,hle⟩
 ·exact⟨h.ext.tape,h.ext.os,h.ext.output,zva h.ext.sz m,zva h.ext.dr r,λb c=>(dn w os d (zdb c.1 h.ext.sz)).trans (h.ext.old b c)⟩
 ·have l:=(h.γn id b c).2;refine(h.obs id o b u c).mono hle (dn w os d l) λi hi=>?_;all_goals grind
 ·obtain⟨y,z,A⟩:=h.βn v b e p he;all_goals grind
 ·rcases g b o c with k|k
  ·have:=h.Sb b o k;omega
  ·exact k.2
 ·rcases g b o c with k|k
  ·exact h.So b o k j
  ·exfalso;have:=h.ext.sz;have x:=j.1;omega
def pG{α:Type}(f:Nat->Option α)(i:Nat)(x:α):Nat->Option α:=λj=>if j=i then some x else f j
def bO{α:Type}(f:Nat->Option α)(i:Nat)(x:α):pG f i x i=some x:=by simp[pG]
def cm{α:Type}(f:Nat->Option α){i:Nat}(x:α)(h:j≠i):pG f i x j=f j:=by simp[pG,h]
def fG{α:Type}{f:Nat->Option α}{i:Nat}{x:α}(h:f i=none){y:α}(a:f j=some y):pG f i x j=some y:=by
 by_cases e:j=i
 ·simp_all
 ·rw[cm f x e,a]
def Rp.newOb(h:Rp w0 S γ β s a w){id b:Nat}(hid:γ id=none)(p:¬ w0.Old b)(q:b<w.heap.size)(m:∀ id,γ id≠some b)(x:∀ v e,v ∉ s.dead->β v≠some (b,e))(hi:id<s.base+4096)
  (u:∀ o,s.ob id=some o->gF ⟨w,S,pG γ id b,β,s.ob,s.dead⟩ b o):Rp w0 S (pG γ id b) β s a w/\Cx.le ⟨w,S,γ,β,s.ob,s.dead⟩ ⟨w,S,pG γ id b,β,s.ob,s.dead⟩:=by
 have hle:Cx.le ⟨w,S,γ,β,s.ob,s.dead⟩ ⟨w,S,pG γ id b,β,s.ob,s.dead⟩:=
  A5 (λ_ _ _=>rfl) (λ_ _ k=>k) (λ_ _ k=>fG hid k) (λv b e l he=>⟨he,λn hn=>hn⟩)
 refine⟨⟨h.ext,λt ht=>(h.tms t ht).mono hle,h.nt,h.tmu,λi o c r hc=>?_,λi c hc=>?_,λi j c hc d=>?_,λi g=>?_,h.βn,h.βi,λv i c e l he hc=>?_,h.βf,h.Sb,h.So⟩,hle⟩
 ·by_cases e:i=id
  ·simp_all [bO]
  ·rw[cm γ b e] at hc;exact(h.obs i o c r hc).mono hle rfl λ_ k=>k
 ·by_cases e:i=id
  ·simp_all [bO]
  ·rw[cm γ b e] at hc;exact h.γn i c hc
 ·by_cases e:i=id
  ·by_cases e':j=id
   ·rw[e,e']
   ·subst e;rw[bO] at hc;cases hc;rw[cm γ b e'] at d;exact zgb d (m j)
  ·by_cases e':j=id
   ·subst e';rw[bO] at d;cases d;rw[cm γ b e] at hc;exact zgb hc (m i)
   ·rw[cm γ b e] at hc;rw[cm γ b e'] at d;exact h.γi i j c hc d
 ·rw[cm γ b u0];exact h.γf i g
 ·by_cases e':i=id
  ·simp_all [bO]
  ·rw[cm γ b e'] at hc;exact h.βγ v i c e l he hc
def Rp.newTok(h:Rp w0 S γ β s a w){v b e:Nat}(r:β v=none)(m:¬ w0.Old b)(p:b<w.heap.size)(A:∀ id,γ id≠some b)(z:∀ v e,v ∉ s.dead->β v≠some (b,e))(hi:v<s.base+4096)(y:∀ o,e<=o->¬ S b o) :
  Rp w0 S γ (pG β v (b,e)) s a w/\Cx.le ⟨w,S,γ,β,s.ob,s.dead⟩ ⟨w,S,γ,pG β v (b,e),s.ob,s.dead⟩:=by
 have hle:Cx.le ⟨w,S,γ,β,s.ob,s.dead⟩ ⟨w,S,γ,pG β v (b,e),s.ob,s.dead⟩:=
  A5 (λ_ _ _=>rfl) (λ_ _ k=>k) (λ_ _ k=>k) (λv b e x he=>⟨fG r he,λn hn=>hn⟩)
 refine⟨⟨h.ext,λt ht=>(h.tms t ht).mono hle,h.nt,h.tmu,λi o c q hc=>(h.obs i o c q hc).mono hle rfl λ_ k=>k,h.γn,h.γi,h.γf,λu c f hu hc=>?_,λu j c f l hu g hc d=>?_,λu i c f hu hc hi=>?_,λu hu=>?_,h.Sb,h.So⟩,hle⟩
 ·by_cases e':u=v
  ·simp_all [bO]
  ·rw[cm β _ e'] at hc;exact h.βn u c f hu hc
 ·by_cases e1:u=v
  ·by_cases e2:j=v
   ·rw[e1,e2]
   ·simp_all [bO,cm,e2]
  ·by_cases e2:j=v
   ·simp_all [bO,cm,e1]
   ·rw[cm β _ e1] at hc;rw[cm β _ e2] at d;exact h.βi u j c f l hu g hc d
 ·by_cases e':u=v
  ·simp_all [bO]
  ·rw[cm β _ e'] at hc;exact h.βγ u i c f hu hc hi
 ·rw[cm β _ u0];exact h.βf u hu
end
def Qp(w0:Root)(S:Nat->Nat->Prop)(γ:Nat->Option Nat)(β:Nat->Option (Nat×Nat))(s:St)(a:Act)(w:World)(dst:Option Nat)(v:AV)(val:Value)(w':World):Prop:=
 ∃ S' γ' β',Rp w0 S' γ' β' s a w'/\AR ⟨w',S',γ',β',s.ob,s.dead⟩ v val/\(∀ b o,S b o->S' b o)/\(∃ os d,w'=grown w os d) ∧
  (∀ id b,γ id=some b->γ' id=some b)/\(∀ id,dst≠some (id-s.base)\/id<s.base->γ' id=γ id/\β' id=β id)
section
variable{w0:Root}{S:Nat->Nat->Prop}{γ:Nat->Option Nat}{β:Nat->Option (Nat×Nat)}{s:St}{a:Act}{w:World}
def Qp.same(h:Rp w0 S γ β s a w){v:AV}{val:Value}(b:AR ⟨w,S,γ,β,s.ob,s.dead⟩ v val)(dst:Option Nat):Qp w0 S γ β s a w dst v val w:=
 ⟨S,γ,β,h,b,λ_ _ k=>k,⟨[],_,(Iw w).symm⟩,λ_ _ k=>k,λ_ _=>⟨rfl,rfl⟩⟩
end
end
section
variable{c:Cx}
def Fr(E:Env)(s:St)(γ:Nat->Option Nat)(β:Nat->Option (Nat×Nat))(o:Oper):Prop:=
 AF o=true->∀ d:Nat,o.dst=some d->d<4096/\γ (s.base+d)=none/\β (s.base+d)=none/\∀ T x,o.op=.alloc T->E.alOb T=some x->s.ob (s.base+d)=some x
def Gk{E:Env}{s:St}{γ:Nat->Option Nat}{β:Nat->Option (Nat×Nat)}{o:Oper}(h:AF o=false):Fr E s γ β o:=λhc=>by rw[h] at hc;cases hc
theorem eJ{x:AV}{p:Ty×D}(h:isD x=some p):x=.d p.1 p.2:=by cases x<;>simp[isD] at h;grind
theorem Ai{x:D}{b:Bool}(h:x.truth=some b):x=.bool b:=by
 cases x<;>simp[D.truth] at h
 simp_all
def rj{x:AV}{b:Bool}{v:Value}(h:x.truth=some b)(k:AR c x v):v=.bool b/\∃ t,x=.d t (.bool b):=by
 cases x<;>simp only[AV.truth] at h<;>first|cases h|skip
 split at h<;>try(cases h;done)
 have:=Ai h;subst this;exact⟨Gi k,_,rfl⟩
theorem oE{x:D}{n k:Nat}(h:x.idx n=some k):∃ a,x=.int a k/\k<n:=by
 cases x<;>simp only[D.idx] at h<;>first|cases h|skip
 rename_i a i;split at h
 ·rename_i hh;simp only[zca] at h;refine⟨a,?_,u0⟩
  grind
 ·cases h
theorem ue{x:D}{k:Nat}(h:x.natOf=some k):∃ a,x=.int a k:=by
 cases x<;>simp only[D.natOf] at h<;>first|cases h|skip
 rename_i a i;split at h
 ·simp only[zca] at h;refine⟨a,?_⟩;grind
 ·cases h
def KA{x:D}{l:List D}(h:x.asSl=some l):x=.sl l:=by
 cases x<;>simp[D.asSl] at h
 simp_all
def zP{t:Ty}{id:Nat}{v:Value}(a:zk (c.ob id)=true)(na:∀ cs,v≠.agg cs)(h:AC c (.ptr t id []) v.cells.toList):∃ b,v=.pointer (some ⟨b,0,none⟩)/\c.γ id=some b:=by
 simp only[AC] at h;obtain⟨b,off,h1,e,f⟩:=h;unfold zk at a;split at a<;>try(cases a;done)
 all_goals
  rename_i d;obtain⟨_,g⟩:=f _ d;have:off=0:=g;subst this;exact⟨b,ap na h1,e⟩
theorem uX:∀ (l:List AV) (caps:List Value),xW l=true->(l.all (λa=>match a with|.ptr _ id _=>zk (c.ob id)|_=>false))=true->oZ c l caps->o7 c l caps
 | [],caps,_,_,h=>by simp only[oZ] at h;subst h;trivial
 | x::l,caps,hw,d,h=>by
  simp only[oZ] at h;obtain⟨v,c2,rfl,h1,f⟩:=h;simp only[zMb,X] at d;unfold xW at hw;split at hw<;>try(cases hw;done)
  ·simp_all
  ·rename_i t id l' e;cases e;refine⟨?_,uX l c2 hw d.2 f⟩;have na:∀ cs,v≠.agg cs:=λcs e=>by
    simp only[AC] at h1;obtain⟨b,off,q,_⟩:=h1;subst e;simp at q
   have g:=zP d.1 na (v:=v) (by
    have q:=h1;simp only[AC] at q;obtain⟨b,off,q,_⟩:=q;have:v=.pointer (some ⟨b,off,none⟩):=by simpa using q
    subst this;exact h1)
   exact g
def HH{f:Nat}{l:List AV}{v:Value}(h:AR c (.clo f l) v):gg c (if xW l&&l.all (λa=>match a with|.ptr _ id _=>zk (c.ob id)|_=>false) then .clo f l else .undef) v:=by
 split
 ·rename_i hc;simp only[X] at hc;simp only[AR,AC] at h;obtain⟨na,caps,h1,b⟩:=h;simp only[gg];exact⟨caps,ap na h1,uX l caps hc.1 hc.2 b⟩
 ·simp only[gg]
def HI{a vt:Ty}{id:Nat}{v:Value}(h:AR c (.map a vt id) v):gg c (.map a vt id) v:=by simp only[AR,AC] at h;obtain⟨na,b,h1,d,e,f,_⟩:=h;exact⟨b,ap na h1,d,e,f⟩
def HG{c:Cx}{a:AV}{v:Value}(h:mZ (km c.ob a)=true)(k:AR c a v):gg c (km c.ob a) v/\v.oneCell'=true:=by
 have key:mZ a=true:=by
  cases a<;>simp only[km] at h<;>first|rfl|(cases h;done)|skip
  rename_i t id p;cases p<;>simp only at h
  ·split at h<;>cases h
  ·cases h
 refine⟨?_,RP key k⟩;cases a<;>simp only[mZ] at key<;>try(cases key;done)
 ·exact HH k
 ·exact HI k
 ·exact k
def GH{x:AV}{v:Value}{dd:List Nat}(h:vU c x v)(hp:gA (nA c.ob x)=true):AC ⟨c.w,c.S,c.γ,c.β,c.ob,dd⟩ (nA c.ob x) [v]/\∀ cs,v≠.agg cs:=by
 unfold vU at h;split at h
 ·rename_i t id;obtain⟨b,rfl,d⟩:=h;refine⟨?_,λcs hh=>by cases hh⟩
  simp only[nA] at hp ⊢;cases ho:c.ob id with
  | none=>rw[ho] at hp;simp[gA] at hp
  | some o=>
   rw[ho] at hp;cases o<;>simp only[gA] at hp<;>try(cases hp;done)
   all_goals
    simp only[AC];refine⟨b,0,rfl,d,λo' a=>?_⟩;have:some o'=some _:=a.symm.trans ho;cases this;exact⟨rfl,rfl⟩
 ·exact h.elim
theorem Cp{dd:List Nat}:∀ {l:List AV} {vs:List Value},o7 c l vs->(l.map (nA c.ob)).all gA=true->oZ ⟨c.w,c.S,c.γ,c.β,c.ob,dd⟩ (l.map (nA c.ob)) vs
 | [],[],_,_=>by simp[oZ]
 | [],_::_,h,_=>h.elim
 | _::_,[],h,_=>h.elim
 | x::l,v::vs,h,hp=>by simp only[z4a,zMb,X] at hp;simp only[z4a,oZ];exact⟨v,vs,rfl,(GH h.1 hp.1).1,Cp h.2 hp.2⟩
theorem Co{c:Cx}{x:AV}{v:Value}{dd:List Nat}(h:gg c x v):AR ⟨c.w,c.S,c.γ,c.β,c.ob,dd⟩ (pj c.ob x) v:=by
 cases x<;>simp only[gg] at h<;>simp only[pj]<;>first|(simp only[AR];done)|skip
 case d t y=>simpa only[AR] using h
 case fptr t y=>simpa only[AR,AC] using h
 case ptr t id p=>
  cases hp:gA (nA c.ob (.ptr t id p)) with
  | true=>
   obtain⟨n,u⟩:=GH (dd:=dd) h hp;have q:v.cells.toList=[v]:=by
    unfold vU at h;split at h
    ·obtain⟨b,rfl,_⟩:=h;rfl
    ·exact h.elim
   cases hx:nA c.ob (.ptr t id p)<;>rw[hx] at hp n<;>simp only[gA] at hp<;>try(cases hp;done)
   simp_all [AR,q]
  | false=>
   have:nA c.ob (.ptr t id p)=.undef:=by unfold nA at hp ⊢;all_goals grind [gA]
   simp_all [AR]
 case clo f l=>
  obtain⟨caps,rfl,hc⟩:=h;split
  ·rename_i hp;simp only[AR,AC];exact⟨λcs hh=>(by cases hh),caps,rfl,Cp hc hp⟩
  ·simp only[AR]
 case yld id=>simpa only[AR,AC] using h
 case map kt vt id=>
  obtain⟨b,rfl,h1,j,k⟩:=h;split
  ·rename_i r s l m;split
   ·rename_i a;simp only[X] at a;have g:=alb _ _ a.1;have i:=alb _ _ a.2;subst g;subst i;simp only[AR,AC];refine⟨λcs hh=>(by cases hh),b,rfl,h1,j,k,λo e=>?_⟩
    have:some o=some _:=e.symm.trans m;cases this;exact⟨l,rfl⟩
   ·simp only[AR]
  ·simp only[AR]
section
variable{P:Program}{E:Env}{w0:Root}{S:Nat->Nat->Prop}{γ:Nat->Option Nat}{β:Nat->Option (Nat×Nat)}{s:St}{a:Act}{w:World}
def jT(P:Program)(E:Env)(w0:Root)(S:Nat->Nat->Prop)(γ:Nat->Option Nat)(β:Nat->Option (Nat×Nat))(s:St)(a:Act)(w:World)(o:Oper):Prop:=
 ∀ (R:Type) (K:AV->Option R) (r:R),qv E s o K=some r->∃ v,K v=some r/\eY P o a w (Qp w0 S γ β s a w o.dst v)
def mL(a:Addr):(Instr.sureAddr (.pointer (some a))).run P w=.ok a w:=rfl
def RK(h:Rp w0 S γ β s a w){dst x ty pos after guard}:jT P E w0 S γ β s a w ⟨dst,.move x,ty,pos,after,guard⟩:=by intro R K r hq;exact⟨_,hq,.value (v:=a.eval x) (w':=w) (by simp[execOp]) (Qp.same h (aW h x) _)⟩
def I9(h:Rp w0 S γ β s a w){dst x ty pos after guard}:jT P E w0 S γ β s a w ⟨dst,.assign x,ty,pos,after,guard⟩:=by intro R K r hq;exact⟨_,hq,.value (v:=a.eval x) (w':=w) (by simp[execOp]) (Qp.same h (aW h x) _)⟩
def RL(h:Rp w0 S γ β s a w){dst c x y ty pos after guard}:jT P E w0 S γ β s a w ⟨dst,.pick c x y,ty,pos,after,guard⟩:=by
 intro R K r hq;simp only[qv] at hq;obtain⟨b,h1,d⟩:=ab hq;obtain⟨e,_⟩:=rj h1 (aW h c);cases b
 ·exact⟨_,by simpa using d,.value (v:=a.eval y) (w':=w) (by simp[execOp,e,asBool]) (Qp.same h (aW h y) _)⟩
 ·exact⟨_,by simpa using d,.value (v:=a.eval x) (w':=w) (by simp[execOp,e,asBool]) (Qp.same h (aW h x) _)⟩
def DJ(h:Rp w0 S γ β s a w){dst x ty pos after guard}:jT P E w0 S γ β s a w ⟨dst,.nilCheck x,ty,pos,after,guard⟩:=by
 intro R K r hq;simp only[qv] at hq;have hx:=aW h x;generalize s.opA x=y at *;cases y<;>(try simp only at hq)<;>first|cases hq|skip
 rename_i t id p;refine⟨_,hq,?_⟩;have c:=hx;simp only[AR,AC] at hx;obtain⟨h1,b,off,d,f⟩:=hx;have e:=ap h1 d;exact .value (v:=a.eval x) (w':=w) (by simp[execOp,e]) (Qp.same h c _)
mutual
theorem xZ:∀ (t:Ty),ak t=true->AV.fits t (ma t)=true
 | .int k,_=>cb _ _
 | .bool,_=>cb _ _
 | .str,_=>cb _ _
 | .st ts,hn=>by
  simp only[ma];split
  ·simp only[AV.fits,X];exact⟨by have:=ala (.st ts);simpa [Ty.beq] using this,kV ts (by simpa [ak] using hn)⟩
  ·exact cb _ _
 | .arr n t,_=>cb _ _
 | .sl t,_=>rfl
 | .tup _,h=>by simp[ak] at h
 | .fn,h=>by simp[ak] at h
theorem kV:∀ (ts:List Ty),aR ts=true->AV.fitss ts (lj ts)=true
 | [],_=>rfl
 | t::ts,h=>by simp only[aR,X] at h;simp only[lj,AV.fitss,X];exact⟨xZ t h.1,kV ts h.2⟩
end
mutual
theorem cX:∀ (t:Ty),ak t=true->wt t (az t)
 | .int k,_=>by simp_all [wt,az]
 | .bool,_=>by simp_all [wt,az]
 | .str,_=>by simp_all [wt,az]
 | .st ts,hn=>by simp only[wt,az];exact⟨_,rfl,rq ts (by simpa [ak] using hn)⟩
 | .arr n t,hn=>by
  simp only[wt,az];refine⟨_,rfl,j2,λx hx=>?_⟩
  rw[(zkd.1 hx).2];exact cX t (by simpa [ak] using hn)
 | .sl t,_=>by simp only[wt,az];exact⟨[],rfl,λx hx=>by simp at hx⟩
 | .tup _,h=>by simp[ak] at h
 | .fn,h=>by simp[ak] at h
theorem rq:∀ (ts:List Ty),aR ts=true->fm ts (gW ts)
 | [],_=>by simp[fm,gW]
 | t::ts,h=>by simp only[aR,X] at h;simp only[gW,fm];exact⟨_,_,rfl,cX t h.1,rq ts h.2⟩
end
def QW{w:World}{S:Nat->Nat->Prop}{d:D}{v:Value}(h:Ir d v=true):CR w S d v:=by
 cases d<;>cases v<;>simp only[Ir] at h<;>first|cases h|skip
 case int.int k n k' n'=>simp at h;rw[h.1,h.2];exact .int _ _
 case bool.bool b b'=>simp at h;rw[h];exact .bool _
 case str.string x y=>
  have:x=y:=by simpa using h
  rw[this];exact .str _
 case sl.slice l a len cap=> simp only[X,List.isEmpty_iff,Option.isNone_iff_eq_none,zea] at h;obtain⟨⟨⟨rfl,rfl⟩,rfl⟩,rfl⟩:=h;exact .sl [] none 0 0 0 (λ_=>undef) (.inl rfl) (zja 0) (λi d c=>by simp[N] at c) (λi d c=>by simp[N] at c)
theorem cM{w:World}{S:Nat->Nat->Prop}:∀ {a:List D} {cs:List Value},c9 a cs=true->cY w S a cs
 | [],[],_=>cY.nil
 | [],_::_,h=>by simp[c9] at h
 | _::_,[],h=>by simp[c9] at h
 | d::a,v::cs,h=>by simp only[c9,X] at h;exact cY.append (cY.single.2 (QW h.1)) (cM h.2)
theorem u4:∀ {a b:List D} {cs:List Value},c9 (a++b) cs=true->c9 a (cs.take a.length)=true/\c9 b (cs.drop a.length)=true
 | [],b,cs,h=>by simpa [c9] using h
 | d::a,b,[],h=>by simp[c9] at h
 | d::a,b,v::cs,h=>by
  simp only[zrb,c9,X] at h;obtain⟨h1,c⟩:=u4 h.2
  simp_all [zPa,zac,zZc,c9,X]
mutual
theorem Er{c:Cx}:∀ (t:Ty) (cs:List Value),ak t=true->c9 (az t).flat cs=true->AC c (ma t) cs
 | .int k,cs,hn,h=>by simp only[ma,AC];exact⟨cX _ hn,hn,cM h⟩
 | .bool,cs,hn,h=>by simp only[ma,AC];exact⟨cX _ hn,hn,cM h⟩
 | .str,cs,hn,h=>by simp only[ma,AC];exact⟨cX _ hn,hn,cM h⟩
 | .st ts,cs,hn,h=>by
  simp only[ma];split
  ·simp only[ak] at hn;simp only[AC];exact⟨hn,kV ts hn,mQ ts cs hn (by simpa [az,D.flat] using h)⟩
  ·simp only[AC];exact⟨cX _ hn,hn,cM h⟩
 | .arr n t,cs,hn,h=>by simp only[ma,AC];exact⟨cX _ hn,hn,cM h⟩
 | .sl t,cs,hn,h=>by
  simp only[ma,AC];simp only[az,D.flat] at h
  match cs,h with
  | [],h=>simp[c9] at h
  | [v],h=>
   simp only[c9,X] at h;have h1:=h.1;cases v<;>simp only[Ir] at h1<;>first|cases h1|skip
   simp_all
  | v::u::cs,h=>simp[c9] at h
 | .tup _,_,h,_=>by simp[ak] at h
 | .fn,_,h,_=>by simp[ak] at h
theorem mQ{c:Cx}:∀ (ts:List Ty) (cs:List Value),aR ts=true->c9 (N (gW ts)) cs=true->jM c (lj ts) cs
 | [],cs,_,h=>by grind [gW,N,lj,jM,c9]
 | t::ts,cs,hn,h=>by simp only[aR,X] at hn;simp only[gW,N] at h;obtain⟨h1,h2⟩:=u4 h;simp only[lj,jM];exact⟨_,_,(zza _ _).symm,Er t _ hn.1 h1,mQ ts _ hn.2 h2⟩
end
end
end
section
variable{c:Cx}
theorem lK{R:Type}{b:Nat}{o:Ob}{p:List Nat}{t:Ty}{K:AV->Option R}{r:R}(g:gF c b o)(ht:fo o p=some t)(h:gP o p K=some r) :
  ∃ a' cs,K a'=some r/\AC c a' cs/\AV.fits t a'=true/\ak t=true/\∀ (i:Nat) (v:Value),cs[i]?=some v->c.w.cell? ⟨b,cD o p+i,none⟩=some v:=by
 cases o
 case mp=>simp[fo] at ht
 case lp=>simp[fo] at ht
 case fv=>simp[gP] at h
 case one T v=> simp only[gF] at g;obtain⟨h1,e,_,cs,m,f,s⟩:=g;simp only[fo] at ht;simp only[gP] at h;obtain⟨a',pre,mid,post,d,rfl,q,A,B⟩:=Hb p e h1 ht f h;refine⟨a',mid,d,A,B,eK p h1 ht,λi v n=>?_⟩;rw[cell_of_row _ m];simp only[cD,<-q];grind
 case many T l=>
  simp only[gF] at g;obtain⟨h1,e,_,cs,D,m,f⟩:=g;cases p with
  | nil=>simp[fo] at ht
  | cons i p=>
   simp only[fo] at ht;simp only[gP] at h;obtain⟨x,d,q⟩:=ab h;rw[cE d] at f;obtain⟨s,u⟩:=f.split;obtain⟨y,C⟩:=u.split;have hx:=e x (zeb d);obtain⟨a',pre,mid,post,m1,G,m3,m4,m5⟩:=Hb (c:=c) (cs:=(cs.drop (N (l.take i)).length).take x.flat.length) p (cb T x) h1 ht (by simp only[AC];exact⟨hx,h1,y⟩) q
   refine⟨a',mid,m1,m4,m5,eK p h1 ht,λj v n=>?_⟩;rw[cell_of_row _ m];have hlen:(N (l.take i)).length=i*T.size:=by rw[aN h1 _ (λx hx=>e x (zSa hx))];have:=(zra.1 d).1;simp[zsb (zIc this)]
   simp only[cD,<-m3,ztc];have z:=(zra.1 n).1;have a:((cs.drop (N (l.take i)).length).take x.flat.length)[pre.length+j]?=some v:=by rw[G,zRb u0,zxb,zab z];exact n
   have k:=(zra.1 a).1;rw[zjb] at k;rw[zNb u0,zDb,hlen] at a
   rw[show i*T.size+pre.length+j=i*T.size+(pre.length+j) by omega,zab (zra.1 a).1]
   exact a
section
variable{P:Program}{E:Env}{w0:Root}{S:Nat->Nat->Prop}{γ:Nat->Option Nat}{β:Nat->Option (Nat×Nat)}{s:St}{a:Act}{w:World}
def jG(a:EnvOk P E){T:TypeId}{t:Ty}(h:E.L T=some t)(hn:ak t=true):cg P t T=true:=by
 rcases a.lay T t h with⟨ts,rfl⟩|h
 ·simp[ak] at hn
 ·exact h
def kW{c:Cx}{t:Ty}{id:Nat}{p:List Nat}{v:Value}(h:AR c (.ptr t id p) v):∃ b off,v=.pointer (some ⟨b,off,none⟩)/\c.γ id=some b/\∀ o,c.ob id=some o->fo o p=some t/\off=cD o p:=by simp only[AR,AC] at h;obtain⟨h1,b,off,a,d⟩:=h;exact⟨b,off,ap h1 a,d⟩
def gr{t:Ty}{id:Nat}{p:List Nat}{b off:Nat}(h:c.γ id=some b)(a:∀ o,c.ob id=some o->fo o p=some t/\off=cD o p):AR c (.ptr t id p) (.pointer (some ⟨b,off,none⟩)):=by simp only[AR,AC];exact⟨j2,b,off,rfl,h,a⟩
def An{t:Ty}{x:D}{v:Value}(h:AR c (.fptr t x) v):wt t x/\ak t=true/\∃ b off,v=.pointer (some ⟨b,off,none⟩)/\tg c.w c.S b off x.flat:=by simp only[AR,AC] at h;obtain⟨h1,a,h0,b,off,d,e⟩:=h;exact⟨a,h0,b,off,ap h1 d,e⟩
def pH{t:Ty}{x:D}{b off:Nat}(h:wt t x)(hn:ak t=true)(a:tg c.w c.S b off x.flat):AR c (.fptr t x) (.pointer (some ⟨b,off,none⟩)):=by simp only[AR,AC];exact⟨j2,h,hn,b,off,rfl,a⟩
def RJ(M:EnvOk P E)(h:Rp w0 S γ β s a w){dst T x ty pos after guard}:jT P E w0 S γ β s a w ⟨dst,.load T x,ty,pos,after,guard⟩:=by
 intro R K r hq;simp only[qv] at hq;have hx:=aW h x;cases hfn:E.fnT T with
 | true=>
  rw[hfn] at hq;simp only[cond_true] at hq;split at hq<;>first|cases hq|skip
  rename_i id e;split at hq<;>first|cases hq|skip
  rename_i y k;split at hq<;>first|cases hq|skip
  rw[e] at hx;obtain⟨b,off,B,I,g⟩:=kW hx;obtain⟨_,rfl⟩:=g _ k;obtain⟨_,c,q,u,k3⟩:=h.obs id _ b k I;replace u:=Co (dd:=s.dead) u;exact⟨_,hq,.value (v:=c) (w':=w) (by simp[execOp,B,DW (M.fnT T hfn) q,cD]) (Qp.same h u _)⟩
 | false=>
 rw[hfn] at hq;simp only[cond_false] at hq;replace hq:=ab hq;obtain⟨t,ht,hq⟩:=hq;generalize s.opA x=y at *;cases y<;>(try simp only at hq)<;>first|cases hq|skip
 case ptr t' id p=>
  split at hq<;>first|cases hq|skip
  rename_i j;have:=alb _ _ j;subst this;replace hq:=ab hq;obtain⟨o,k,hq⟩:=hq;obtain⟨b,off,B,I,g⟩:=kW hx;obtain⟨q,rfl⟩:=g o k;obtain⟨a',cs,m1,G,m3,m4,m5⟩:=lK (h.obs id o b k I) q hq;obtain⟨m6,m7⟩:=ii _ _ _ m3 G;obtain⟨v,d,f⟩:=jm (jG M ht m4) (w:=w) (b:=b) (off:=cD o p) m6 m7 m5;exact⟨a',m1,.value (v:=v) (w':=w) (by simp[execOp,B,d]) (Qp.same h (yB m3 G f) _)⟩
 case fptr t' z=>
  split at hq<;>first|cases hq|skip
  rename_i j;have:=alb _ _ j;subst this;obtain⟨q,W,b,off,B,cs,u,k3⟩:=An hx;obtain⟨v,d,f⟩:=jm (jG M ht W) (w:=w) (b:=b) (off:=off) (cs:=cs) (by rw[<-u.1];exact cL _ _ q W) u.nag (λi c hc=>(k3 i c hc).2)
  exact⟨_,hq,.value (v:=v) (w':=w) (by simp[execOp,B,d]) (Qp.same h (yB (cb _ _) (by simp only[AC];exact⟨q,W,u⟩) f) _)⟩
 case sub sl e id p lo n=>
  split at hq<;>first|cases hq|skip
  rename_i j;simp only[X,zEa] at j;obtain⟨U,j⟩:=j;subst U;have:=alb _ _ j;subst this;replace hq:=ab hq;obtain⟨o,k,hq⟩:=hq;simp only[AR,AC] at hx;obtain⟨Q,A,b,off,cap,a1,I,g⟩:=hx;simp only[zHa,if_false] at a1;have B:=ap Q a1;obtain⟨m,q,u,rfl⟩:=g o k;obtain⟨a',cs,m1,G,m3,m4,m5⟩:=lK (h.obs id o b k I) q hq;split at m1<;>try(cases m1;done)
  rename_i m' C l;split at m1<;>try(cases m1;done)
  rename_i F;simp only[X,zea] at F;have he:=alb _ _ F.1;subst he;have hm:=pU m3;simp only[Ty.arr.injEq] at hm;simp only[AC] at G;obtain⟨q1,q2,a0⟩:=G;simp only[wt] at q1;obtain⟨l0,e0,q4,Y⟩:=q1;cases e0;have O:l=l.take lo++((l.drop lo).take n++(l.drop lo).drop n):=by rw[zza,zza]
  have a2:N l=N (l.take lo)++(N ((l.drop lo).take n)++N ((l.drop lo).drop n)):=by
   conv=>lhs;rw[O]
   rw[cz,cz]
  simp only[D.flat] at a0;rw[a2] at a0;obtain⟨_,r2⟩:=a0.split;obtain⟨Z,_⟩:=r2.split;have J:(N (l.take lo)).length=lo*C.size:=by rw[aN A _ (λx hx=>Y x (zSa hx)),zjb,zsb u0]
  have L:(N ((l.drop lo).take n)).length=n*C.size:=by rw[aN A _ (λx hx=>Y x (z7b (zSa hx))),zjb,List.length_drop,zsb u0]
  have V:wt (.arr n C) (.st ((l.drop lo).take n)):=by simp only[wt];exact⟨_,rfl,by rw[zjb,List.length_drop,zsb u0],λx hx=>Y x (z7b (zSa hx))⟩
  have H:ak (.arr n C)=true:=by simp only[ak];exact A
  obtain⟨v,d,f⟩:=jm (jG M ht H) (w:=w) (b:=b) (off:=cD o p+lo*C.size) (cs:=(cs.drop (N (l.take lo)).length).take (N ((l.drop lo).take n)).length) (by rw[<-Z.1,L];rfl) Z.nag (λi c hc=>by
   have hi:i<(N ((l.drop lo).take n)).length:=by have:=(zra.1 hc).1;rw[zjb] at this;omega
   rw[zNb hi,zDb] at hc;have:=m5 _ c hc;rw[J,<-zLb] at this;exact this)
  exact⟨_,m1,.value (v:=v) (w':=w) (by simp[execOp,B,d]) (Qp.same h (yB (cb _ _) (by simp only[AC];exact⟨V,H,by simp only[D.flat];exact Z⟩) f) _)⟩
def uS{T:TypeId}{ts:List Ty}{f:Nat}{u:Ty}(hl:cg P (.st ts) T=true)(k:ts[f]?=some u)(b off:Nat)(w:World) :
  (Instr.fieldAt T (.pointer (some ⟨b,off,none⟩)) f).run P w=.ok (.pointer (some ⟨b,off+ale (ts.take f),none⟩)) w:=by
 obtain⟨d,h1,e⟩:=j6 hl;obtain⟨g,h,i,l,j⟩:=vz e k;have a:d[f]?=some g:=by simpa using h
 have c:u.size≠0:=u0
 simp only[Instr.fieldAt,zma,run_underlying h1,zga,a,mL,fieldPlace,cr j,c,if_false,zta,i,dN,zbb]
theorem kP:∀ (p:List Nat) {t u v:Ty} {i:Nat},aV t p=some u->aV u [i]=some v->aV t (p++[i])=some v
 | [],t,u,v,i,h,k=>by simp_all [aV]
 | j::p,.st ts,u,v,i,h,k=>by simp only[aV,zrb] at h ⊢;obtain⟨z,h1,a⟩:=ab h;rw[h1];exact kP p a k
 | j::p,.arr n t,u,v,i,h,k=>by simp only[aV,zrb] at h ⊢;exact kP p h k
 | j::p,.int _,u,v,i,h,k=>by simp[aV] at h
 | j::p,.bool,u,v,i,h,k=>by simp[aV] at h
 | j::p,.str,u,v,i,h,k=>by simp[aV] at h
 | j::p,.sl _,u,v,i,h,k=>by simp[aV] at h
 | j::p,.tup _,u,v,i,h,k=>by simp[aV] at h
 | j::p,.fn,u,v,i,h,k=>by simp[aV] at h
theorem jJ:∀ (p:List Nat) {t u:Ty} {i:Nat},aV t p=some u->bi t (p++[i])=bi t p+bi u [i]
 | [],t,u,i,h=>by simp_all [aV,bi]
 | j::p,.st ts,u,i,h=>by simp only[aV,zrb] at h ⊢;obtain⟨z,h1,a⟩:=ab h;simp only[bi];rw[show ts.getD j .bool=z by simp[List.getD,h1],jJ p a,zLb]
 | j::p,.arr n t,u,i,h=>by simp only[aV,zrb] at h ⊢;simp only[bi];rw[jJ p h,zLb]
 | j::p,.int _,u,i,h=>by simp[aV] at h
 | j::p,.bool,u,i,h=>by simp[aV] at h
 | j::p,.str,u,i,h=>by simp[aV] at h
 | j::p,.sl _,u,i,h=>by simp[aV] at h
 | j::p,.tup _,u,i,h=>by simp[aV] at h
 | j::p,.fn,u,i,h=>by simp[aV] at h
def uf{o:Ob}{p:List Nat}{t u:Ty}{i:Nat}(h:fo o p=some t)(k:aV t [i]=some u):fo o (p++[i])=some u/\cD o (p++[i])=cD o p+bi t [i]:=by
 cases o with
 | one T v=>simp only[fo,cD] at h ⊢;exact⟨kP p h k,jJ p h⟩
 | many T l=>
  cases p with
  | nil=>simp[fo] at h
  | cons j p=>simp only[fo,cD,zrb] at h ⊢;exact⟨kP p h k,by rw[jJ p h,zLb]⟩
 | mp a vt l=>simp[fo] at h
 | lp i q=>simp[fo] at h
 | fv v=>cases p<;>simp[fo] at h;subst h;simp[aV] at k
def Bv(l:EnvOk P E)(h:Rp w0 S γ β s a w){dst T x f ty pos after guard}:jT P E w0 S γ β s a w ⟨dst,.fieldAddr T x f,ty,pos,after,guard⟩:=by
 intro R K r hq;simp only[qv] at hq;replace hq:=ab hq;obtain⟨t,ht,hq⟩:=hq;have hx:=aW h x;generalize s.opA x=y at *;cases t<;>(try simp only at hq)<;>first|cases hq|skip
 rename_i ts;cases y<;>(try simp only at hq)<;>first|cases hq|skip
 case ptr t' id p=>
  split at hq<;>first|cases hq|skip
  rename_i d;have:=alb _ _ d;subst this;replace hq:=ab hq;obtain⟨u,hu,hq⟩:=hq;obtain⟨b,off,g,H,e⟩:=kW hx;rcases l.lay T _ ht with⟨k,c⟩|hl
  ·cases c
  refine⟨_,hq,.value (v:=.pointer (some ⟨b,off+ale (ts.take f),none⟩)) (w':=w) (by simp only[execOp,g,zma,uS hl hu,zga,zta]) (Qp.same h (gr H λo F=>?_) _)⟩
  obtain⟨j,rfl⟩:=e o F;have:=uf (i:=f) (u:=u) j (by simp[aV,hu])
  exact⟨this.1,by rw[this.2];simp[bi]⟩
 case fptr t' z=>
  split at hq<;>first|cases hq|skip
  rename_i d;have:=alb _ _ d;subst this;replace hq:=ab hq;obtain⟨u,hu,hq⟩:=hq;replace hq:=ab hq;obtain⟨I,N,hq⟩:=hq;obtain⟨j,m,b,off,g,n⟩:=An hx;rcases l.lay T _ ht with⟨k,c⟩|hl
  ·cases c
  have C:z.get [f]=some I:=by simp[D.get,N]
  obtain⟨m1,A,B,G,m3⟩:=j4 [f] j m (show aV (.st ts) [f]=some u by simp[aV,hu]) C
  rw[G] at n;have q:=n.part;rw[m3] at q;refine⟨_,hq,.value (v:=.pointer (some ⟨b,off+ale (ts.take f),none⟩)) (w':=w) (by simp only[execOp,g,zma,uS hl hu,zga,zta]) (Qp.same h (pH m1 (cc (by simpa [ak] using m) hu) ?_) _)⟩
  simpa [bi] using q
def m9{T:TypeId}{n:Nat}{e:Ty}(hl:cg P (.arr n e) T=true){d:IntKind}{k:Nat}(hk:k<n)(b off:Nat)(w:World) :
  (Instr.indexAt T (.pointer (some ⟨b,off,none⟩)) (.int d k)).run P w=.ok (.pointer (some ⟨b,off+k*e.size,none⟩)) w:=by
 obtain⟨u,h1,c⟩:=fi hl;have a:(0:Int)<=(k:Int)/\(k:Int)<(n:Int):=u0
 simp only[Instr.indexAt,asIntOf,pure_bind,zma,run_underlying h1,zga,mL,zta,a,and_self,if_true,cr c,dN,z7c]
def kh{T:TypeId}{e:Ty}(hl:cg P (.sl e) T=true){d:IntKind}{k len cap:Nat}(hk:k<len)(b off:Nat)(w:World) :
  (Instr.indexAt T (.slice (some ⟨b,off,none⟩) len cap) (.int d k)).run P w=.ok (.pointer (some ⟨b,off+k*e.size,none⟩)) w:=by
 obtain⟨u,h1,c⟩:=jv hl;have a:(0:Int)<=(k:Int)/\(k:Int)<(len:Int):=u0
 simp only[Instr.indexAt,asIntOf,pure_bind,zma,run_underlying h1,zga,zta,a,and_self,if_true,cr c,dN,z7c]
def JT{t:Ty}{id:Nat}{v:Value}(h:AR c (.mem t id) v):ak t=true/\∃ b,c.γ id=some b/\∀ o,c.ob id=some o->∃ l cap,o=.many t l/\l.length<=cap/\v=.slice (some ⟨b,0,none⟩) l.length cap:=by simp only[AR,AC] at h;obtain⟨h1,a,b,d,e⟩:=h;refine⟨a,b,d,λo f=>?_⟩;obtain⟨l,cap,g,j,i⟩:=e o f;exact⟨l,cap,g,j,ap h1 i⟩
def ln{ob:Nat->Option Ob}{e:Ty}{y:AV}{v:Value}{l:List D}(hn:ak e=true)(h:AR c y v)(hl:y.asList ob e=some l):(∀ x∈l,wt e x)/\CR c.w c.S (.sl l) v:=by
 unfold AV.asList at hl;obtain⟨x,h1,d⟩:=ab hl;have:=KA d;subst this;obtain⟨a,f⟩:=pJ (t:=.sl e) (by simpa [ak] using hn) h h1
 simp only[wt] at a;obtain⟨l',b,g⟩:=a;cases b;exact⟨g,f.sl_inv⟩
def JU{t:Ty}{id lo n:Nat}{p:List Nat}{v:Value}(h:AR c (.sub true t id p lo n) v):∃ b off cap,v=.slice (some ⟨b,off,none⟩) n cap/\c.γ id=some b/\∀ o,c.ob id=some o->∃ m,fo o p=some (.arr m t)/\lo+n<=m/\off=cD o p+lo*t.size:=by simp only[AR,AC] at h;obtain⟨h1,_,b,off,cap,a,d,e⟩:=h;exact⟨b,off,cap,ap h1 (by simpa using a),d,e⟩
theorem Bw(a0:EnvOk P E)(h:Rp w0 S γ β s a w){dst T x i ty pos after guard}:jT P E w0 S γ β s a w ⟨dst,.indexAddr T x i,ty,pos,after,guard⟩:=by
 intro R K r hq;simp only[qv] at hq;replace hq:=ab hq;obtain⟨t,ht,hq⟩:=hq;replace hq:=ab hq;obtain⟨ix,U,hq⟩:=hq;have hi:=eJ U;have c:=aW h i;rw[hi] at c;have hx:=aW h x;generalize s.opA x=y at *;cases t<;>(try simp only at hq)<;>first|cases hq|skip
 case arr n e=>
  rcases a0.lay T _ ht with⟨W,H⟩|hl
  ·cases H
  cases y<;>(try simp only at hq)<;>first|cases hq|skip
  case ptr g id p=>
   split at hq<;>first|cases hq|skip
   rename_i q;have:=alb _ _ q;subst this;replace hq:=ab hq;obtain⟨k,hk,hq⟩:=hq;obtain⟨Q,f,d⟩:=oE hk;rw[f] at c;obtain⟨np,_⟩:=eW c;obtain⟨b,off,C,N,j⟩:=kW hx;refine⟨_,hq,.value (v:=.pointer (some ⟨b,off+k*e.size,none⟩)) (w':=w) (by simp only[execOp,C,np,zma,m9 hl d,zga,zta]) (Qp.same h (gr N λo J=>?_) _)⟩
   obtain⟨F,rfl⟩:=j o J;have:=uf (i:=k) (u:=e) F (by cases e<;>simp[aV])
   exact⟨this.1,by rw[this.2];cases e<;>simp[bi]⟩
  case fptr g z=>
   split at hq<;>first|cases hq|skip
   rename_i q;have:=alb _ _ q;subst this;replace hq:=ab hq;obtain⟨k,hk,hq⟩:=hq;replace hq:=ab hq;obtain⟨z',M,hq⟩:=hq;obtain⟨Q,f,d⟩:=oE hk;rw[f] at c;obtain⟨np,_⟩:=eW c;obtain⟨F,Y,b,off,C,O⟩:=An hx;have hg:z.get [k]=some z':=by simp[D.get,M]
   obtain⟨m1,A,B,G,m3⟩:=j4 [k] F Y (show aV (.arr n e) [k]=some e by cases e<;>simp[aV]) hg
   rw[G] at O;have I:=O.part;rw[m3] at I;refine⟨_,hq,.value (v:=.pointer (some ⟨b,off+k*e.size,none⟩)) (w':=w) (by simp only[execOp,C,np,zma,m9 hl d,zga,zta]) (Qp.same h (pH m1 (by simpa [ak] using Y) ?_) _)⟩
   have:bi (.arr n e) [k]=k*e.size:=by cases e<;>simp[bi]
   rwa [this] at I
 case sl e=>
  rcases a0.lay T _ ht with⟨W,H⟩|hl
  ·cases H
  have a1:ak e=true:=by have:=aK _ _ hl;simpa [ak] using this
  by_cases hm:∃ g id,y=.mem g id
  ·obtain⟨g,id,rfl⟩:=hm;simp only at hq;split at hq<;>first|cases hq|skip
   rename_i q;have:=alb _ _ q;subst this;split at hq<;>first|cases hq|skip
   rename_i u l j;replace hq:=ab hq;obtain⟨k,hk,hq⟩:=hq;obtain⟨Q,f,d⟩:=oE hk;rw[f] at c;obtain⟨np,_⟩:=eW c;obtain⟨_,b,N,L⟩:=JT hx;obtain⟨l',cap,e1,_,C⟩:=L _ j;cases e1;refine⟨_,hq,.value (v:=.pointer (some ⟨b,0+k*g.size,none⟩)) (w':=w) (by simp only[execOp,C,np,zma,kh hl d,zga,zta]) (Qp.same h (gr N λo J=>?_) _)⟩
   have:o=.many g l:=by have:=j.symm.trans J;cases this;rfl
   subst this;exact⟨by cases g<;>simp[fo,aV],by cases g<;>simp[cD,bi]⟩
  ·by_cases hs:∃ sl g id p lo n,y=.sub sl g id p lo n
   ·obtain⟨sl,g,id,p,lo,n,rfl⟩:=hs;simp only at hq;split at hq<;>first|cases hq|skip
    rename_i q;simp only[X] at q;obtain⟨rfl,q⟩:=q;have:=alb _ _ q;subst this;replace hq:=ab hq;obtain⟨k,hk,hq⟩:=hq;obtain⟨Q,f,d⟩:=oE hk;rw[f] at c;obtain⟨np,_⟩:=eW c;obtain⟨b,off,cap,C,N,j⟩:=JU hx;refine⟨_,hq,.value (v:=.pointer (some ⟨b,off+k*g.size,none⟩)) (w':=w) (by simp only[execOp,C,np,zma,kh hl d,zga,zta]) (Qp.same h (gr N λo J=>?_) _)⟩
    obtain⟨m,F,O,rfl⟩:=j o J;have:=uf (i:=lo+k) (u:=g) F (by cases g<;>simp[aV]<;>omega)
    exact⟨this.1,by rw[this.2];cases g<;>simp[bi]<;>grind⟩
   have V:(y.asList s.ob e).bind (λl=>(ix.2.idx l.length).bind λk=>(l[k]?).bind λy=>K (.fptr e y))=some r:=by cases y<;>first|exact hq|exact zgb ⟨_,_,rfl⟩ hm|exact zgb ⟨_,_,_,_,_,_,rfl⟩ hs
   obtain⟨l,h1,hq⟩:=ab V;replace hq:=ab hq;obtain⟨k,hk,hq⟩:=hq;replace hq:=ab hq;obtain⟨z,M,hq⟩:=hq;obtain⟨Q,f,d⟩:=oE hk;rw[f] at c;obtain⟨np,_⟩:=eW c;obtain⟨F,O⟩:=ln a1 hx h1;obtain⟨A,cap,b,off,C,I,k4,Z⟩:=O.elems;have hA:A=some ⟨b,off,none⟩:=by
    rcases I with rfl|I
    ·simp at M
    ·exact I
   rw[cE M] at Z;have k6:=Z.part;rw[aN a1 _ (λx hx=>F x (zSa hx)),zjb,zsb (zIc d)] at k6;exact⟨_,hq,.value (v:=.pointer (some ⟨b,off+k*e.size,none⟩)) (w':=w) (by simp only[execOp,C,hA,np,zma,kh hl d,zga,zta]) (Qp.same h (pH (F z (zeb M)) a1 k6) _)⟩
theorem jn{T:TypeId}{t:Ty}(hl:cg P t T=true){cs:Array Value}{pre mid post:List Value}(a:cs.toList=pre++(mid++post))(hm:mid.length=t.size)(hn:nag mid)(w:World) :
  ∃ v,(part T cs pre.length).run P w=.ok v w/\ic t mid v:=by
 have e:cs=(pre++(mid++post)).toArray:=by rw[<-a]
 subst e;unfold part;rw[zma,Hg hl,zga];cases ha:dh t
 ·have h1:mid.length=1:=by
   rw[hm];cases t<;>simp[dh] at ha<;>first|rfl|(exfalso;exact zl hl (.inl ⟨_,rfl⟩))
  match mid,h1 with
  | [c],_=>
   have b:=hn c j2
   refine⟨c,?_,?_,?_,?_⟩
   ·simp
   ·cases c<;>simp_all [Value.cells,Value.oneCell']
   ·simp_all
   ·grind [Value.oneCell']
 ·refine⟨.agg mid.toArray,?_,rfl,λ_=>⟨_,rfl⟩,by rw[ha];intro h;cases h⟩
  simp only[if_true,zma,cr hl,zga,zta]
  simp_all
def MW(M:EnvOk P E)(h:Rp w0 S γ β s a w){dst T x f ty pos after guard}:jT P E w0 S γ β s a w ⟨dst,.field T x f,ty,pos,after,guard⟩:=by
 intro R K r hq;simp only[qv] at hq;replace hq:=ab hq;obtain⟨t,ht,hq⟩:=hq;have hx:=aW h x;generalize s.opA x=y at *;cases t<;>(try simp only at hq)<;>first|cases hq|skip
 rename_i ts;cases y<;>(try simp only at hq)<;>first|cases hq|skip
 rename_i X z;split at hq<;>first|cases hq|skip
 rename_i N;have:=alb _ _ N;subst this;replace hq:=ab hq;obtain⟨u,hu,hq⟩:=hq;replace hq:=ab hq;obtain⟨q,Q,hq⟩:=hq;rcases M.lay T _ ht with⟨W,m⟩|hl
 ·cases m
 have hn:=aK _ _ hl;obtain⟨n,U⟩:=B9 hx hn;have O:z.get [f]=some q:=by simp[D.get,Q]
 obtain⟨m1,A,B,G,m3⟩:=j4 [f] n hn (show aV (.st ts) [f]=some u by simp[aV,hu]) O
 obtain⟨V,F⟩:=U;rw[G] at F;obtain⟨o,p⟩:=F.split;obtain⟨j,a0⟩:=p.split;obtain⟨H,h1,I⟩:=j6 hl;obtain⟨g,J,L,_,C⟩:=vz I hu;have c:=aK _ _ C;obtain⟨cs,b⟩:∃ cs,a.eval x=.agg cs:=by simp only[wt] at n;obtain⟨l,rfl,_⟩:=n;exact V
 rw[b] at o p j a0;simp only[Value.cells] at o p j a0;obtain⟨v,e,i⟩:=jn C (cs:=cs) (pre:=cs.toList.take A.length) (mid:=(cs.toList.drop A.length).take q.flat.length) (post:=(cs.toList.drop A.length).drop q.flat.length)
  (by simp only[zza]) (by rw[<-j.1];exact cL _ _ m1 c) j.nag w
 have d:g.offset=(cs.toList.take A.length).length:=by rw[<-o.1,m3,L];simp[bi]
 have k:H[f]?=some g:=by simpa using J
 exact⟨_,hq,.value (v:=v) (w':=w) (by simp only[execOp,b,Instr.field,zma,run_underlying h1,zga,k,asAgg,zta,d,e]) (Qp.same h (yB (cb _ _) (by simp only[AC];exact⟨m1,c,j⟩) i) _)⟩
theorem MX(a0:EnvOk P E)(h:Rp w0 S γ β s a w){dst T x i ty pos after guard}:jT P E w0 S γ β s a w ⟨dst,.index T x i,ty,pos,after,guard⟩:=by
 intro R K r hq;simp only[qv] at hq;replace hq:=ab hq;obtain⟨t,ht,hq⟩:=hq;replace hq:=ab hq;obtain⟨ix,L,hq⟩:=hq;have hi:=eJ L;have b:=aW h i;rw[hi] at b;have hx:=aW h x;generalize s.opA x=y at *;cases t<;>(try simp only at hq)<;>first|cases hq|skip
 case str=>
  cases y<;>(try simp only at hq)<;>first|cases hq|skip
  rename_i t' z;split at hq<;>first|cases hq|skip
  rename_i I;have:=alb _ _ I;subst this;replace hq:=ab hq;obtain⟨a1,C,hq⟩:=hq;rcases a0.lay T _ ht with⟨W,d⟩|hl
  ·cases d
  obtain⟨f,Q⟩:=B9 hx rfl;simp only[wt] at f;obtain⟨sb,rfl⟩:=f;obtain⟨kt,kx⟩:=ix;cases kx<;>(try simp only[aky] at C)<;>first|cases C|skip
  rename_i k n;obtain⟨bb,J,g⟩:=ab C;simp only[zca] at g;subst g;obtain⟨np,_⟩:=eW b;have O:a.eval x=.string sb:=by obtain⟨c1,c2⟩:=Q;obtain⟨c,e,h⟩:=cY.single' c2;have:=ap c1 e;rw[this];cases h;rfl
  have hu:P.underlying T=some .string:=by simp only[cg,X] at hl;all_goals grind
  exact⟨_,hq,.value (v:=.int .u8 bb.toNat) (w':=w) (by simp only[execOp,O,np,Instr.index,asIntOf,pure_bind,zma,run_underlying hu,zga,J,zta]) (Qp.same h (cP _ _) _)⟩
 rename_i n e;cases y<;>(try simp only at hq)<;>first|cases hq|skip
 rename_i t' z;split at hq<;>first|cases hq|skip
 rename_i I;have:=alb _ _ I;subst this;replace hq:=ab hq;obtain⟨k,hk,hq⟩:=hq;replace hq:=ab hq;obtain⟨a1,C,hq⟩:=hq;obtain⟨kk,N,ad⟩:=oE hk;rw[N] at b;obtain⟨np,_⟩:=eW b;rcases a0.lay T _ ht with⟨W,d⟩|hl
 ·cases d
 have hn:=aK _ _ hl;obtain⟨f,Q⟩:=B9 hx hn;have hg:z.get [k]=some a1:=by simp[D.get,C]
 obtain⟨m1,A,B,G,m3⟩:=j4 [k] f hn (show aV (.arr n e) [k]=some e by cases e<;>simp[aV]) hg
 obtain⟨k3,Y⟩:=Q;rw[G] at Y;obtain⟨U,V⟩:=Y.split;obtain⟨F,Z⟩:=V.split;obtain⟨u,h1,H⟩:=fi hl;have m:=aK _ _ H;obtain⟨cs,j⟩:∃ cs,a.eval x=.agg cs:=by simp only[wt] at f;obtain⟨l,rfl,_⟩:=f;exact k3
 rw[j] at U V F Z;simp only[Value.cells] at U V F Z;obtain⟨v,p,q⟩:=jn H (cs:=cs) (pre:=cs.toList.take A.length) (mid:=(cs.toList.drop A.length).take a1.flat.length) (post:=(cs.toList.drop A.length).drop a1.flat.length)
  (by simp only[zza]) (by rw[<-F.1];exact cL _ _ m1 m) F.nag w
 have o:k*e.size=(cs.toList.take A.length).length:=by rw[<-U.1,m3];cases e<;>simp[bi]
 have M:(0:Int)<=(k:Int)/\(k:Int)<(n:Int):=u0
 exact⟨_,hq,.value (v:=v) (w':=w) (by simp only[execOp,j,np,Instr.index,asIntOf,pure_bind,zma,run_underlying h1,zga,M,and_self,if_true,cr H,z7c,o,p,zta]) (Qp.same h (yB (cb _ _) (by simp only[AC];exact⟨m1,m,F⟩) q) _)⟩
end
end
def GL:BinOp->Bool
 | .eql|.neq|.lss|.leq|.gtr|.geq=>true
 | _=>false
section
variable{P:Program}{E:Env}{w0:Root}{S:Nat->Nat->Prop}{γ:Nat->Option Nat}{β:Nat->Option (Nat×Nat)}{s:St}{a:Act}{w:World}
def Qw{op:BinOp}{k b:IntKind}{x y:Int}{z:D}(T:TypeId)(w:World)(h:akk op (.int k x) (.int b y)=some z) :
  (GL op=true/\∃ c,z=.bool c/\(binOp op T (.int k x) (.int b y)).run P w=.ok (.bool c) w)\/(GL op=false/\∃ n,z=.int k n/\(binOp op T (.int k x) (.int b y)).run P w=.ok (.int k n) w):=by
 cases op<;>simp only[akk,akl] at h
 case shl=>
     split at h<;>try(cases h;done)
     rename_i a;simp only[zca] at h;exact .inr ⟨rfl,_,h.symm,by simp[binOp,Op.shift,a]⟩
 case shr=>
     split at h<;>try(cases h;done)
     rename_i a;simp only[zca] at h;exact .inr ⟨rfl,_,h.symm,by simp[binOp,Op.shift,a]⟩
 case quo=>
  split at h<;>try(cases h;done)
  rename_i hk;subst hk;split at h<;>try(cases h;done)
  rename_i a;simp only[zca] at h;exact .inr ⟨rfl,_,h.symm,by simp[binOp,Op.intDiv,a]⟩
 case rem=>
  split at h<;>try(cases h;done)
  rename_i hk;subst hk;split at h<;>try(cases h;done)
  rename_i a;simp only[zca] at h;exact .inr ⟨rfl,_,h.symm,by simp[binOp,Op.intDiv,a]⟩
 all_goals (split at h<;>try(cases h;done))
 all_goals (rename_i hk;subst hk)
 all_goals (simp only[zca] at h)
 all_goals first
  | (refine .inl ⟨rfl,_,h.symm,?_⟩;simp[binOp,Op.intCmp];done)
  | (refine .inr ⟨rfl,_,h.symm,?_⟩;simp[binOp,Op.intArith];done)
  | (refine .inr ⟨rfl,_,h.symm,?_⟩;simp only[binOp,ne_eq,not_true_eq_false,if_false];rfl)
def ga(op:BinOp)(T:TypeId)(x y:Operand)(k a:IntKind)(u v:Int)(w:World):(eqGuard op T x y (.int k u) (.int a v)).run P w=.ok () w:=by cases op<;>simp[eqGuard]
def lO(op:BinOp)(T:TypeId)(x y:Operand)(u v:Bool)(w:World):(eqGuard op T x y (.bool u) (.bool v)).run P w=.ok () w:=by cases op<;>simp[eqGuard]
def fO{t:Ty}{c v:Value}(h:ic t [c] v)(a:dh t=false):v=c:=ap (h.2.2 a) h.1
def jO{t:Ty}{cs:List Value}{v:Value}(h:ic t cs v)(a:dh t=true):v=.agg cs.toArray:=by obtain⟨xs,rfl⟩:=h.2.1 a;have:=h.1;simp only[Value.cells] at this;rw[<-this]
theorem Ch:∀ (n:Nat) {l l':List D},l.length=n->l'.length=n->D.beqs l l'=(List.range n).all λj=>D.beq (l.getD j (.bool false)) (l'.getD j (.bool false))
 | 0,[],[],_,_=>rfl
 | n+1,x::l,y::l',h,a=>by
  simp only[D.beqs,zud,zMb,List.all_map];rw[Ch n (by simpa using h) (by simpa using a)]
  rfl
mutual
theorem rU:∀ (ty:Ty) (T:TypeId) (x y:D) (cx cy:List Value) (vx vy:Value) (d:Nat),cg P ty T=true->bX ty=true->ty.high<=d->wt ty x->wt ty y->cY w S x.flat cx->cY w S y.flat cy->ic ty cx vx->ic ty cy vy ->
  ∀ w',(Op.equalIn d T vx vy).run P w'=.ok (D.beq x y) w'
 | .int k,T,x,y,cx,cy,vx,vy,d,hl,_,hd,hx,hy,rx,ry,ix,iy,w'=>by
  simp only[wt] at hx hy;obtain⟨n,rfl⟩:=hx;obtain⟨m,rfl⟩:=hy;obtain⟨c1,rfl,r1⟩:=rx.single';obtain⟨c2,rfl,r2⟩:=ry.single';rw[fO ix rfl,fO iy rfl,r1.int_inv,r2.int_inv];obtain⟨d,rfl⟩:∃ e,d=e+1:=⟨d-1,by simp only[Ty.high] at hd;omega⟩
  rw[run_equalIn_int w' d T k k n m (kM hl)];simp only[D.beq,decide_true,z6b];rfl
 | .bool,T,x,y,cx,cy,vx,vy,d,hl,_,hd,hx,hy,rx,ry,ix,iy,w'=>by
  simp only[wt] at hx hy;obtain⟨n,rfl⟩:=hx;obtain⟨m,rfl⟩:=hy;obtain⟨c1,rfl,r1⟩:=rx.single';obtain⟨c2,rfl,r2⟩:=ry.single';rw[fO ix rfl,fO iy rfl,r1.bool_inv,r2.bool_inv];obtain⟨d,rfl⟩:∃ e,d=e+1:=⟨d-1,by simp only[Ty.high] at hd;omega⟩
  have hu:P.underlying T=some .bool:=by simp only[cg,X] at hl;all_goals grind
  rw[run_equalIn_bool' w' d T n m hu];rfl
 | .st ts,T,x,y,cx,cy,vx,vy,d,hl,hc,hd,hx,hy,rx,ry,ix,iy,w'=>by
  simp only[wt] at hx hy;obtain⟨l,rfl,hx⟩:=hx;obtain⟨l',rfl,hy⟩:=hy;rw[jO ix rfl,jO iy rfl];obtain⟨fs,h1,h2⟩:=j6 hl;have h3:P.fieldsOf T=fs:=by simp[Program.fieldsOf,h1]
  have h4:P.stoodInHeld T=false:=by simp_all [cg,X,zEa]
  simp only[Ty.high] at hd;obtain⟨d,rfl⟩:∃ e,d=e+1:=⟨d-1,u0⟩
  rw[run_equalIn_struct w' d T _ _ (by rw[h3];exact h1) h4,h3]
  simp only[bX] at hc;simp only[D.beq];simp only[D.flat] at rx ry;exact uD ts fs.toList 0 l l' [] cx [] cy _ _ d h2 hc u0 hx hy rx ry rfl rfl rfl rfl w'
 | .arr n t,T,x,y,cx,cy,vx,vy,d,hl,hc,hd,hx,hy,rx,ry,ix,iy,w'=>by
  simp only[wt] at hx hy;obtain⟨l,rfl,hxl,hx⟩:=hx;obtain⟨l',rfl,hyl,hy⟩:=hy;rw[jO ix rfl,jO iy rfl];obtain⟨u,h1,h2⟩:=fi hl;obtain⟨i,z,h3,h4,_⟩:=fC (gC h2);simp only[Ty.high] at hd;obtain⟨d,rfl⟩:∃ e,d=e+1:=⟨d-1,u0⟩
  rw[run_equalIn_array w' d _ _ h1 h3];simp only[bX] at hc;simp only[D.beq];simp only[D.flat] at rx ry;have hcell:P.cellsOf u=t.size:=by simp[Program.cellsOf,h3,h4]
  have hn:=aK _ _ h2;rw[Ch n hxl hyl];have key:∀ (is:List Nat) (w':World),(∀ j∈is,j<n)->(Op.eqItems d u (P.cellsOf u) cx.toArray cy.toArray is).run P w'=.ok (is.all λj=>D.beq (l.getD j (.bool false)) (l'.getD j (.bool false))) w':=by
   intro is
   induction is with
   | nil=>intro w' _;simp[Op.eqItems]
   | cons j is ih=>
    intro w' hj;have hjn:=hj j j2
    have e1:l[j]?=some (l.getD j (.bool false)):=by simp_all
    have e2:l'[j]?=some (l'.getD j (.bool false)):=by simp_all
    generalize l.getD j (.bool false)=dx at *;generalize l'.getD j (.bool false)=dy at *;have wx:=hx dx (zeb e1);have M:=hy dy (zeb e2);have rx':=rx;have ry':=ry;rw[cE e1] at rx';rw[cE e2] at ry';obtain⟨p1,p2⟩:=rx'.split;obtain⟨p3,p4⟩:=p2.split;obtain⟨q1,q2⟩:=ry'.split;obtain⟨q3,q4⟩:=q2.split;have o1:(cx.take (N (l.take j)).length).length=j*t.size:=by rw[<-p1.1,aN hn _ (λx hx'=>hx x (zSa hx')),zjb,zsb u0]
    have o2:(cy.take (N (l'.take j)).length).length=j*t.size:=by rw[<-q1.1,aN hn _ (λx hx'=>hy x (zSa hx')),zjb,zsb u0]
    obtain⟨v1,r1,i1⟩:=jn h2 (cs:=cx.toArray) (pre:=cx.take (N (l.take j)).length) (mid:=(cx.drop (N (l.take j)).length).take dx.flat.length) (post:=(cx.drop (N (l.take j)).length).drop dx.flat.length)
     (by simp only[zza]) (by rw[<-p3.1];exact cL _ _ wx hn) p3.nag w'
    obtain⟨v2,r2,i2⟩:=jn h2 (cs:=cy.toArray) (pre:=cy.take (N (l'.take j)).length) (mid:=(cy.drop (N (l'.take j)).length).take dy.flat.length) (post:=(cy.drop (N (l'.take j)).length).drop dy.flat.length)
     (by simp only[zza]) (by rw[<-q3.1];exact cL _ _ M hn) q3.nag w'
    rw[o1,<-hcell] at r1;rw[o2,<-hcell] at r2;have r3:=rU t u dx dy _ _ v1 v2 d h2 hc u0 wx M p3 q3 i1 i2 w'
    simp only[Op.eqItems,zma,r1,r2,r3,zga,zMb];have e1':l[j]?.getD (.bool false)=dx:=by rw[e1];rfl
    have e2':l'[j]?.getD (.bool false)=dy:=by rw[e2];rfl
    have ih':=ih w' (λk hk=>hj k (by simp[hk]))
    simp only[List.getD,e1',e2'];cases D.beq dx dy
    ·simp
    ·simpa [List.getD] using ih'
  exact key _ w' (λj hj=>by simpa using hj)
 | .str,_,_,_,_,_,_,_,_,_,hc,_,_,_,_,_,_,_,_=>by simp[bX] at hc
 | .sl _,_,_,_,_,_,_,_,_,_,hc,_,_,_,_,_,_,_,_=>by simp[bX] at hc
 | .tup _,_,_,_,_,_,_,_,_,_,hc,_,_,_,_,_,_,_,_=>by simp[bX] at hc
 | .fn,_,_,_,_,_,_,_,_,_,hc,_,_,_,_,_,_,_,_=>by simp[bX] at hc
theorem uD:∀ (ts:List Ty) (fs:List Field) (off:Nat) (l l':List D) (px cx py cy:List Value) (xs ys:Array Value) (d:Nat),gM P ts fs off=true->nC ts=true->ald ts<=d->fm ts l->fm ts l'->cY w S (N l) cx->cY w S (N l') cy ->
  xs.toList=px++cx->px.length=off->ys.toList=py++cy->py.length=off->∀ w',(Op.eqFields d xs ys fs).run P w'=.ok (D.beqs l l') w'
 | [],fs,off,l,l',px,cx,py,cy,xs,ys,d,hf,_,_,hx,hy,_,_,_,_,_,_,w'=>by
  simp only[fm] at hx hy;subst hx;subst hy;cases fs with
  | nil=>simp[Op.eqFields,D.beqs]
  | cons f fs=>simp[gM] at hf
 | t::ts,[],off,l,l',px,cx,py,cy,xs,ys,d,hf,_,_,hx,hy,_,_,_,_,_,_,w'=>by simp[gM] at hf
 | t::ts,f::fs,off,l,l',px,cx,py,cy,xs,ys,d,hf,hc,hd,hx,hy,rx,ry,ex,lx,ey,ly,w'=>by
  simp only[gM,X,zea] at hf;obtain⟨⟨⟨⟨h1,h2⟩,h3⟩,h4⟩,h5⟩:=hf;simp only[fm] at hx hy;obtain⟨dx,l,rfl,hx1,hx2⟩:=hx;obtain⟨dy,l',rfl,hy1,hy2⟩:=hy;simp only[N] at rx ry;obtain⟨p3,p4⟩:=rx.split;obtain⟨q3,q4⟩:=ry.split;have hn:=aK _ _ h4;simp only[nC,X] at hc;simp only[ald] at hd;obtain⟨v1,r1,i1⟩:=jn h4 (cs:=xs) (pre:=px) (mid:=cx.take dx.flat.length) (post:=cx.drop dx.flat.length) (by rw[ex,zza]) (by rw[<-p3.1];exact cL _ _ hx1 hn) p3.nag w'
  obtain⟨v2,r2,i2⟩:=jn h4 (cs:=ys) (pre:=py) (mid:=cy.take dy.flat.length) (post:=cy.drop dy.flat.length) (by rw[ey,zza]) (by rw[<-q3.1];exact cL _ _ hy1 hn) q3.nag w'
  rw[lx,<-h1] at r1;rw[ly,<-h1] at r2;have r3:=rU t f.type dx dy _ _ v1 v2 d h4 hc.1 u0 hx1 hy1 p3 q3 i1 i2 w'
  have hs1:(cx.take dx.flat.length).length=t.size:=by rw[<-p3.1];exact cL _ _ hx1 hn
  have hs2:(cy.take dy.flat.length).length=t.size:=by rw[<-q3.1];exact cL _ _ hy1 hn
  have ih:=uD ts fs (off+t.size) l l' (px++cx.take dx.flat.length) (cx.drop dx.flat.length) (py++cy.take dy.flat.length) (cy.drop dy.flat.length) xs ys d h5 hc.2 u0 hx2 hy2 p4 q4
   (by rw[zMa,zza];exact ex) (by rw[zAa,lx,hs1]) (by rw[zMa,zza];exact ey) (by rw[zAa,ly,hs2]) w'
  simp only[Op.eqFields,h2,ne_eq,not_false_eq_true,if_true,zma,r1,r2,r3,zga,D.beqs];cases D.beq dx dy
  ·simp
  ·simpa using ih
end
def MS(O:EnvOk P E)(h:Rp w0 S γ β s a w){dst op T x y T' ty pos after guard}:jT P E w0 S γ β s a w ⟨dst,.binOp op T x y T',ty,pos,after,guard⟩:=by
 intro R K r hq;simp only[qv] at hq;replace hq:=ab hq;obtain⟨t,ht,hq⟩:=hq;replace hq:=ab hq;obtain⟨u,hu,hq⟩:=hq;replace hq:=ab hq;obtain⟨v,U,hq⟩:=hq;have hx:=aW h x;have l:=aW h y;rw[eJ hu] at hx;rw[eJ U] at l;have C:∀ (L:Bool),(u.1.beq t&&v.1.beq t&&bX t)=true->∀ (o:BinOp),(o=.eql/\L=false)\/(o=.neq/\L=true) ->
   (execOp a.eval ⟨dst,.binOp o T x y T',ty,pos,after,guard⟩).run P w=.ok (.value (.bool (xor L (D.beq u.2 v.2)))) w:=by
  intro L q o J;simp only[X] at q;obtain⟨⟨h1,j⟩,p⟩:=q;have H:=alb _ _ h1;have I:=alb _ _ j;rw[H] at hx;rw[I] at l;have hl:cg P t T=true:=by
   rcases O.lay T _ ht with⟨V,rfl⟩|hl
   ·simp[bX] at p
   ·exact hl
  have hn:=aK _ _ hl;obtain⟨A,B⟩:=B9 hx hn;obtain⟨m1,G⟩:=B9 l hn;have hh:=O.high T _ ht;have i1:ic t (a.eval x).cells.toList (a.eval x):=⟨rfl,rn A hn B.1⟩;have i2:ic t (a.eval y).cells.toList (a.eval y):=⟨rfl,rn m1 hn G.1⟩;have g:=rU t T u.2 v.2 _ _ _ _ 10000 hl p u0 A m1 B.2 G.2 i1 i2 w
  cases t<;>simp only[bX] at p<;>first|cases p|skip
  case int k=>
   simp only[wt] at A m1;obtain⟨n,b⟩:=A;obtain⟨m,f⟩:=m1;rw[b] at B hx ⊢;rw[f] at G l ⊢;have v1:=B.int_inv;have v2:=G.int_inv;rcases J with⟨rfl,rfl⟩|⟨rfl,rfl⟩
   ·simp only[execOp,v1,v2,zma,ga,zga];simp[binOp,Op.intCmp,D.beq];rfl
   ·simp only[execOp,v1,v2,zma,ga,zga];simp[binOp,Op.intCmp,D.beq];rfl
  case bool=>
   simp only[wt] at A m1;obtain⟨n,b⟩:=A;obtain⟨m,f⟩:=m1;rw[b] at B hx g ⊢;rw[f] at G l g ⊢;have v1:=B.bool_inv;have v2:=G.bool_inv;rw[v1,v2] at g;rcases J with⟨rfl,rfl⟩|⟨rfl,rfl⟩
   ·simp only[execOp,v1,v2,zma,lO,zga,binOp,Op.equal,Op.maxDepth,g,zta,zHd]
   ·simp only[execOp,v1,v2,zma,lO,zga,binOp,Op.equal,Op.maxDepth,g,zta,Bool.true_xor]
  case st ts=>
   obtain⟨xs,b⟩:=i1.2.1 rfl;obtain⟨a0,f⟩:=i2.2.1 rfl;have F:P.eqGuardType P.depth T=false:=by simp only[cg,X,zEa] at hl;exact hl.1.2
   rw[b,f] at g;rcases J with⟨rfl,rfl⟩|⟨rfl,rfl⟩
   ·simp only[execOp,b,f,zma,run_eqGuard_agg w _ T x y xs a0 F,zga,binOp,Op.equal,Op.maxDepth,g,zta,zHd]
   ·simp only[execOp,b,f,zma,run_eqGuard_agg w _ T x y xs a0 F,zga,binOp,Op.equal,Op.maxDepth,g,zta,Bool.true_xor]
  case arr n e=>
   obtain⟨xs,b⟩:=i1.2.1 rfl;obtain⟨a0,f⟩:=i2.2.1 rfl;have F:P.eqGuardType P.depth T=false:=by simp only[cg,X,zEa] at hl;exact hl.1.2
   rw[b,f] at g;rcases J with⟨rfl,rfl⟩|⟨rfl,rfl⟩
   ·simp only[execOp,b,f,zma,run_eqGuard_agg w _ T x y xs a0 F,zga,binOp,Op.equal,Op.maxDepth,g,zta,zHd]
   ·simp only[execOp,b,f,zma,run_eqGuard_agg w _ T x y xs a0 F,zga,binOp,Op.equal,Op.maxDepth,g,zta,Bool.true_xor]
 have ints:∀ {z:D} {o:BinOp},akk o u.2 v.2=some z->∃ k Q n m,u.2=.int k n/\v.2=.int Q m:=by
  intro z o i;cases N:u.2<;>rw[N] at i<;>cases hv2:v.2<;>rw[hv2] at i<;>simp only[akk] at i<;>first|cases i|skip
  exact⟨_,_,_,_,rfl,rfl⟩
 have main:∀ (o:BinOp) {z:D},akk o u.2 v.2=some z->∃ M,(execOp a.eval ⟨dst,.binOp o T x y T',ty,pos,after,guard⟩).run P w=.ok (.value M) w ∧
   ((GL o=true->AR ⟨w,S,γ,β,s.ob,s.dead⟩ (.d .bool z) M)/\(GL o=false->AR ⟨w,S,γ,β,s.ob,s.dead⟩ (.d u.1 z) M)):=by
  intro o z i;obtain⟨k,Q,n,m,H,I⟩:=ints i;rw[H,I] at i;rw[H] at hx;rw[I] at l;obtain⟨v1,t1⟩:=eW hx;obtain⟨v2,_⟩:=eW l;rcases Qw (P:=P) T w i with⟨h1,c,rfl,j⟩|⟨h1,c,rfl,j⟩
  ·refine⟨.bool c,by simp only[execOp,v1,v2,zma,ga,zga,j,zta],λ_=>ij c,λh=>by rw[h1] at h;cases h⟩
  ·refine⟨.int k c,by simp only[execOp,v1,v2,zma,ga,zga,j,zta],(λh=>by rw[h1] at h;cases h),λ_=>by rw[t1];exact cP k c⟩
 cases op<;>simp only at hq
 case eql=>
  split at hq<;>first|cases hq|skip
  rename_i q;exact⟨_,hq,.value (C false q .eql (.inl ⟨rfl,rfl⟩)) (Qp.same h (by simp only[zHd];exact ij _) _)⟩
 case neq=>
  split at hq<;>first|cases hq|skip
  rename_i q;exact⟨_,hq,.value (C true q .neq (.inr ⟨rfl,rfl⟩)) (Qp.same h (by simp only[Bool.true_xor];exact ij _) _)⟩
 all_goals
  replace hq:=ab hq;obtain⟨z,i,hq⟩:=hq;obtain⟨M,h1,j,p⟩:=main _ i;first
   | exact⟨_,hq,.value h1 (Qp.same h (j rfl) _)⟩
   | exact⟨_,hq,.value h1 (Qp.same h (p rfl) _)⟩
def RM(h:Rp w0 S γ β s a w){dst op T x ty pos after guard}:jT P E w0 S γ β s a w ⟨dst,.unOp op T x,ty,pos,after,guard⟩:=by
 intro R K r hq;simp only[qv] at hq;replace hq:=ab hq;obtain⟨u,hu,hq⟩:=hq;replace hq:=ab hq;obtain⟨z,d,hq⟩:=hq;have hx:=aW h x;rw[eJ hu] at hx;cases hu2:u.2<;>rw[hu2] at d hx<;>simp only[akz] at d<;>first|cases d|skip
 case int k n=>
  obtain⟨v1,t1⟩:=eW hx;cases op<;>simp only[akl] at d<;>first|cases d|skip
  ·exact⟨_,hq,.value (v:=.int k (k.wrap (0-n))) (w':=w) (by simp[execOp,v1,Op.unary,Op.intArith]) (Qp.same h (by rw[t1];exact cP _ _) _)⟩
  ·exact⟨_,hq,.value (v:=.int k (k.wrap (BitVec.ofInt k.bits (if k.signed then -1 else k.max) ^^^ BitVec.ofInt k.bits n).toNat)) (w':=w) (by simp[execOp,v1,Op.unary,Op.intBits]) (Qp.same h (by rw[t1];exact cP _ _) _)⟩
 case bool b=>
  have v1:=Gi hx;cases op<;>simp only at d<;>first|cases d|skip
  have ht:u.1=.bool:=by
   simp only[AR] at hx;rcases hx with⟨_,c,_⟩|⟨ts,h1,_,c,_⟩
   ·cases hu1:u.1<;>rw[hu1] at c<;>simp only[wt] at c<;>first
     | rfl
     | (obtain⟨m,e⟩:=c;cases e;done)
     | (obtain⟨m,e,_⟩:=c;cases e;done)
     | (exfalso;exact c)
   ·rw[h1] at c;simp only[wt] at c;obtain⟨l,e,_⟩:=c;cases e
  exact⟨_,hq,.value (v:=.bool (!b)) (w':=w) (by simp[execOp,v1,Op.unary]) (Qp.same h (by rw[ht];exact ij _) _)⟩
def FA(i:EnvOk P E)(h:Rp w0 S γ β s a w){dst U T x ty pos after guard}:jT P E w0 S γ β s a w ⟨dst,.convert U T x,ty,pos,after,guard⟩:=by
 intro R K r hq;simp only[qv] at hq;replace hq:=ab hq;obtain⟨u,hu,hq⟩:=hq;replace hq:=ab hq;obtain⟨t,ht,hq⟩:=hq;replace hq:=ab hq;obtain⟨b,j,hq⟩:=hq;have hx:=aW h x;rw[eJ j] at hx;cases t<;>(try simp only at hq)<;>first|cases hq|skip
 rename_i k;split at hq<;>first|cases hq|skip
 rename_i d;replace hq:=ab hq;obtain⟨z,e,hq⟩:=hq;cases hb2:b.2<;>rw[hb2] at e hx<;>simp only[D.conv] at e<;>first|cases e|skip
 rename_i l n;obtain⟨v1,t1⟩:=eW hx;have g:=alb _ _ d;rw[t1] at g;rw[<-g] at hu;rcases i.lay T _ ht with⟨f,c⟩|hl
 ·cases c
 rcases i.lay U _ hu with⟨f,c⟩|hl'
 ·cases c
 exact⟨_,hq,.value (v:=.int k (k.wrap n)) (w':=w) (by simp[execOp,convert,v1,run_underlying (kM hl),run_underlying (kM hl'),Conv.intToInt]) (Qp.same h (cP _ _) _)⟩
end
def jo(pre mid post cs:List Value)(h:mid.length=cs.length):fh (pre++(mid++post)).toArray pre.length cs.toArray=(pre++(cs++post)).toArray:=by unfold fh;apply zic;simp[h];rw[zub u0]
theorem rp:∀ {a:List D} {c1 c2:List Value},c9 a c1=true->c9 a c2=true->c1=c2
 | [],[],[],_,_=>rfl
 | [],_::_,_,h,_=>by simp[c9] at h
 | [],[],_::_,_,h=>by simp[c9] at h
 | _::_,[],_,h,_=>by simp[c9] at h
 | _::_,_::_,[],_,h=>by simp[c9] at h
 | d::a,v1::c1,v2::c2,q1,b=>by
  simp only[c9,X] at q1 b;rw[rp q1.2 b.2];congr 1;have a1:=q1.1;have a2:=b.1;cases d<;>cases v1<;>simp only[Ir] at a1<;>try(cases a1;done)
  all_goals (cases v2<;>simp only[Ir] at a2<;>try(cases a2;done))
  all_goals simp_all
section
variable{w:World}{S:Nat->Nat->Prop}
def PV(w:World)(S:Nat->Nat->Prop)(ty:Nat->Option Ty):List (Nat×D)->List (Nat×Value)->Prop
 | [],[]=>True
 | (i,x)::ps,(j,v)::vs=>i=j/\(∃ t,ty i=some t/\wt t x/\ak t=true/\fX w S x v)/\PV w S ty ps vs
 | _,_=>False
theorem vu{place:Nat->Option (Nat×Nat)}{ty:Nat->Option Ty}{off:Nat->Nat}{Good:List D->Prop}
  (d:∀ l i t z,Good l->ty i=some t->wt t z->Good (l.set i z))
  (c:∀ l i t,Good l->ty i=some t->∃ y,l[i]?=some y/\wt t y/\(N (l.take i)).length=off i)
  (a:∀ i t,ty i=some t->place i=some (off i,t.size)) :
  ∀ (ps:List (Nat×D)) (vs:List (Nat×Value)) (l:List D) (cs:List Value),Good l->cY w S (N l) cs->PV w S ty ps vs ->
   ∃ b:List Value,mT place cs.toArray vs=some b.toArray/\Good (akx l ps)/\cY w S (N (akx l ps)) b
 | [],[],l,cs,f,hc,_=>⟨cs,rfl,f,hc⟩
 | [],_::_,_,_,_,_,h=>by simp[PV] at h
 | _::_,[],_,_,_,_,h=>by simp[PV] at h
 | (i,x)::ps,(j,v)::vs,l,cs,f,hc,h=>by
  simp only[PV] at h;obtain⟨rfl,⟨t,h1,k,m,n⟩,s⟩:=h;obtain⟨y,o,u,A⟩:=c l i t f h1;rw[cE o] at hc;obtain⟨c1,c2⟩:=hc.split;obtain⟨q,r⟩:=c2.split;have e:cs=cs.take (N (l.take i)).length++((cs.drop (N (l.take i)).length).take y.flat.length++(cs.drop (N (l.take i)).length).drop y.flat.length):=by simp only[zza]
  have l1:(cs.take (N (l.take i)).length).length=off i:=by rw[<-c1.1,A]
  have B:((cs.drop (N (l.take i)).length).take y.flat.length).length=t.size:=by rw[<-q.1];exact cL _ _ u m
  have p:v.cells.toList.length=t.size:=by rw[<-n.2.1];exact cL _ _ k m
  have g:cY w S (N (l.set i x)) (cs.take (N (l.take i)).length++(v.cells.toList++(cs.drop (N (l.take i)).length).drop y.flat.length)):=by rw[oC o];exact c1.append (n.2.append r)
  obtain⟨b,m1,G,m3⟩:=vu d c a ps vs (l.set i x) _ (d l i t x f h1 k) g s;refine⟨b,?_,G,m3⟩;rw[wM (a i t h1) (by rw[<-zEb];exact p) (by rw[<-l1];have:=zIa List.length e;simp only[zAa] at this;simp only[zQc];omega),<-m1]
  congr 1
  conv=>lhs;rw[e]
  have:=jo (cs.take (N (l.take i)).length) ((cs.drop (N (l.take i)).length).take y.flat.length) ((cs.drop (N (l.take i)).length).drop y.flat.length) v.cells.toList (by rw[B,p])
  rw[l1] at this;simpa using this
end
section
variable{P:Program}{E:Env}{w0:Root}{S:Nat->Nat->Prop}{γ:Nat->Option Nat}{β:Nat->Option (Nat×Nat)}{s:St}{a:Act}{w:World}
theorem oH(h:Rp w0 S γ β s a w){ty:Nat->Option Ty}(hn:∀ i t,ty i=some t->ak t=true):∀ (ps:List (Nat×Operand)) (l:List (Nat×D)),partsD s.ob s ty ps=some l->PV w S ty l (ps.map λp=>(p.1,a.eval p.2))
 | [],l,hp=>by simp_all [partsD,zca,PV]
 | (i,x)::ps,l,hp=>by simp only[partsD] at hp;replace hp:=ab hp;obtain⟨t,ht,hp⟩:=hp;replace hp:=ab hp;obtain⟨y,c,hp⟩:=hp;replace hp:=ab hp;obtain⟨f,b,hp⟩:=hp;simp only[zca] at hp;subst hp;obtain⟨d,e⟩:=pJ (hn i t ht) (aW h x) c;simp only[z4a,PV];exact⟨trivial,⟨t,ht,d,hn i t ht,e⟩,oH h hn ps f b⟩
def ks{t:Ty}{T:TypeId}(hl:cg P t T=true):∃ z,(∀ w,(zeroValue T).run P w=.ok z w)/\c9 (az t).flat z.cells.toList=true/\((∃ cs,z=.agg cs)↔dh t=true):=by
 obtain⟨i,z,h1,a,b,c,d,e⟩:=fC (gC hl)
 simp_all [zeroValue,typeInfo]
theorem xz:∀ {ts:List Ty} {a:List Field} {off:Nat} (w:World),gM P ts a off=true ->
  ((a.mapM λf=>do pure (f.offset,<-sizeOf f.type):Sem (List (Nat×Nat))).run P w=.ok (a.zipWith (λf t=>(f.offset,Ty.size t)) ts) w)
 | [],[],_,w,_=>rfl
 | [],_::_,_,_,h=>by simp[gM] at h
 | _::_,[],_,_,h=>by simp[gM] at h
 | t::ts,f::a,off,w,h=>by simp only[gM,X,zea] at h;obtain⟨⟨⟨⟨h1,d⟩,e⟩,b⟩,c⟩:=h;simp only[zWc,zma,cr b,zga,zta,xz w c,List.zipWith_cons_cons]
def I5:∀ {ts:List Ty} {a:List Field} {off i:Nat} {t:Ty},gM P ts a off=true->ts[i]?=some t->(a.zipWith (λf t=>(f.offset,Ty.size t)) ts)[i]?=some (off+ale (ts.take i),t.size)
 | ts,a,off,i,t,h,hi=>by obtain⟨f,h1,b,_⟩:=vz h hi;grind
def sR{T:TypeId}{ts:List Ty}(hl:cg P (.st ts) T=true)(vs:Array (Nat×Value))(w:World){r:List Value}
  (d:∀ z:Value,c9 (az (.st ts)).flat z.cells.toList=true->mT (λi=>if i<ts.length then some (ale (ts.take i),(ts.getD i .bool).size) else none) z.cells vs.toList=some r.toArray) :
  (Instr.build T vs).run P w=.ok (.agg r.toArray) w:=by
 obtain⟨a,h1,c⟩:=j6 hl;obtain⟨z,e,b,_⟩:=ks hl;have hlen:(a.toList.zipWith (λf t=>(f.offset,Ty.size t)) ts).length=ts.length:=by
  have:∀ {ts:List Ty} {a:List Field} {off:Nat},gM P ts a off=true->a.length=ts.length:=by
   intro ts
   induction ts with
   | nil=>intro a off h;cases a<;>simp[gM] at h ⊢
   | cons t ts ih=>intro a off h;cases a with
    | nil=>simp[gM] at h
    | cons f a=>simp only[gM,X] at h;simp[ih h.2]
  grind
 have hp:(λi=>(a.toList.zipWith (λf t=>(f.offset,Ty.size t)) ts).toArray[i]?)=λi=>if i<ts.length then some (ale (ts.take i),(ts.getD i .bool).size) else none:=by
  funext i;by_cases hi:i<ts.length
  ·have:=I5 (i:=i) c (zda hi)
   simp_all
  ·simp_all
 have hm:(a.mapM λf=>(do pure (f.offset,<-sizeOf f.type):Sem (Nat×Nat))).run P w=.ok (a.toList.zipWith (λf t=>(f.offset,Ty.size t)) ts).toArray w:=by rw[<-z8b (xs:=a),List.mapM_toArray];simp only[Sem.run_map,xz w c,zga]
 simp only[Instr.build,zma,e,zga,run_underlying h1,hm,hp,rW,d z b,zta]
def mU(n:Nat)(x:D):N (List.replicate n x)=(List.replicate n x.flat).flatten:=by
 induction n with
 | zero=>rfl
 | succ n ih=>simp only[List.replicate_succ,N,ih,List.flatten_cons]
def SL(c:Cx)(ts:List Ty):List (Nat×AV)->List (Nat×Value)->Prop
 | [],[]=>True
 | (i,x)::ps,(j,v)::vs=>i=j/\(∃ t,ts[i]?=some t/\AV.fits t x=true/\AC c x v.cells.toList)/\SL c ts ps vs
 | _,_=>False
theorem CM{c:Cx}{ts:List Ty}(hn:aR ts=true) :
  ∀ (ps:List (Nat×AV)) (vs:List (Nat×Value)) (l:List AV) (cs:List Value),AV.fitss ts l=true->jM c l cs->SL c ts ps vs ->
   ∃ a:List Value,mT (λi=>if i<ts.length then some (ale (ts.take i),(ts.getD i .bool).size) else none) cs.toArray vs=some a.toArray/\AV.fitss ts (oI l ps)=true/\jM c (oI l ps) a
 | [],[],l,cs,b,hc,_=>⟨cs,rfl,b,hc⟩
 | [],_::_,_,_,_,_,h=>by simp[SL] at h
 | _::_,[],_,_,_,_,h=>by simp[SL] at h
 | (i,x)::ps,(j,v)::vs,l,cs,b,hc,h=>by
  simp only[SL] at h;obtain⟨rfl,⟨t,h1,d,e⟩,g⟩:=h;obtain⟨y,k,m⟩:=wQ b h1;obtain⟨pre,mid,post,rfl,m1,G,m3⟩:=vh b hn hc k;have n:=(ii _ _ _ m G).1;have f:=(ii _ _ _ d e).1;obtain⟨a,o,p,q⟩:=CM hn ps vs (l.set i x) _ (oB b h1 d) (m3 x _ e) g;refine⟨a,?_,p,q⟩;have hi:=(zra.1 h1).1;rw[wM (off:=ale (ts.take i)) (size:=t.size) (by rw[zla hi];simp[List.getD,h1]) (by rw[<-zEb];exact f) (by simp;omega),<-o]
  congr 1;have:=jo pre mid post v.cells.toList (by rw[n,f])
  simp_all
def MT(I:EnvOk P E)(h:Rp w0 S γ β s a w){dst T ps ty pos after guard}:jT P E w0 S γ β s a w ⟨dst,.build T ps,ty,pos,after,guard⟩:=by
 intro R K r hq;simp only[qv] at hq;replace hq:=ab hq;obtain⟨t,ht,hq⟩:=hq;have hex:execOp a.eval ⟨dst,.build T ps,ty,pos,after,guard⟩=(Instr.build T (ps.map λp=>(p.1,a.eval p.2)) >>= λv=>pure (.value v)):=rfl;have m:(ps.map λp=>(p.1,a.eval p.2)).toList=ps.toList.map λp=>(p.1,a.eval p.2):=j2
 cases t<;>(try simp only at hq)<;>first|cases hq|skip
 case st ts=>
  rcases I.lay T _ ht with⟨H,o⟩|hl
  ·cases o
  have hn:=aK _ _ hl;simp only[ak] at hn;split at hq
  ·rename_i J;split at hq<;>first|cases hq|skip
   rename_i q;have g:∀ (l:List (Nat×Operand)),l.all (gL s ts)=true->SL ⟨w,S,γ,β,s.ob,s.dead⟩ ts (l.map λp=>(p.1,s.opA p.2)) (l.map λp=>(p.1,a.eval p.2)):=by
    intro l
    induction l with
    | nil=>intro _;simp[SL]
    | cons p l ih=>
     intro hh;simp only[zMb,X] at hh;simp only[z4a,SL];refine⟨trivial,?_,ih hh.2⟩;have h1:=hh.1;unfold gL at h1;split at h1<;>first|cases h1|skip
     rename_i u hu;exact⟨u,hu,h1,(B8 h1 (cc hn hu) (aW h p.2)).1⟩
   obtain⟨z,j,d,_⟩:=ks hl;have a0:jM ⟨w,S,γ,β,s.ob,s.dead⟩ (lj ts) z.cells.toList:=mQ ts _ hn (by simpa [az,D.flat] using d)
   obtain⟨b,m1,G,m3⟩:=CM hn _ _ _ _ (kV ts hn) a0 (g ps.toList q);have c:(Instr.build T (ps.map λp=>(p.1,a.eval p.2))).run P w=.ok (.agg b.toArray) w:=by
    obtain⟨M,h1,B⟩:=j6 hl;refine sR hl _ w (r:=b) λC k=>?_;have L:jM ⟨w,S,γ,β,s.ob,s.dead⟩ (lj ts) C.cells.toList:=mQ ts _ hn (by simpa [az,D.flat] using k)
    have:C.cells=z.cells:=zic (rp k d)
    simp_all
   exact⟨_,hq,.value (v:=.agg b.toArray) (w':=w) (by rw[hex];simp only[zma,c,zga,zta]) (Qp.same h (by simp only[AR];exact⟨⟨_,rfl⟩,by simp only[AC];exact⟨hn,G,by simpa [Value.cells] using m3⟩⟩) _)⟩
  ·replace hq:=ab hq;obtain⟨l,hp,hq⟩:=hq;have g:=oH h (ty:=λi=>ts[i]?) (λi t hi=>cc hn hi) _ _ hp;have main:∀ z:Value,c9 (az (.st ts)).flat z.cells.toList=true->∃ b:List Value,mT (λi=>if i<ts.length then some (ale (ts.take i),(ts.getD i .bool).size) else none) z.cells (ps.toList.map λp=>(p.1,a.eval p.2))=some b.toArray/\fm ts (akx (gW ts) l)/\cY w S (N (akx (gW ts) l)) b:=by
    intro z j;refine vu (ty:=λi=>ts[i]?) (off:=λi=>ale (ts.take i)) (Good:=λl=>fm ts l) (λl i t z f hi j=>B3 f hi j) (λl i t f hi=>?_) (λi t hi=>?_) l _ (gW ts) z.cells.toList (rq ts hn) (cM (by simpa [az,D.flat] using j)) g
    ·obtain⟨y,h1,B⟩:=ge f hi;exact⟨y,h1,B,td _ _ (te i f) (jh i hn)⟩
    ·rw[zla (zra.1 hi).1];simp only[List.getD,hi,zYb]
   obtain⟨z,j,d,_⟩:=ks hl;obtain⟨b,m1,G,m3⟩:=main z d;have c:(Instr.build T (ps.map λp=>(p.1,a.eval p.2))).run P w=.ok (.agg b.toArray) w:=by refine sR hl _ w (r:=b) λC k=>?_;have:C.cells=z.cells:=zic (rp k d);rw[this,m,<-m1]
   have hw:wt (.st ts) (.st (akx (gW ts) l)):=by simp only[wt];exact⟨_,rfl,G⟩
   exact⟨_,hq,.value (v:=.agg b.toArray) (w':=w) (by rw[hex];simp only[zma,c,zga,zta]) (Qp.same h (dA (by simpa [ak] using hn) hw ⟨⟨_,rfl⟩,by simpa [Value.cells,D.flat] using m3⟩) _)⟩
 case arr n e=>
  rcases I.lay T _ ht with⟨H,o⟩|hl
  ·cases o
  have hn:=aK _ _ hl;simp only[ak] at hn;replace hq:=ab hq;obtain⟨l,hp,hq⟩:=hq;have g:=oH h (ty:=λi=>if i<n then some e else none) (λi t hi=>by split at hi<;>first|(cases hi;exact hn)|cases hi) _ _ hp
  have main:∀ z:Value,c9 (az (.arr n e)).flat z.cells.toList=true->∃ b:List Value,mT (λi=>some (i*e.size,e.size)) z.cells (ps.toList.map λp=>(p.1,a.eval p.2))=some b.toArray/\((akx (List.replicate n (az e)) l).length=n/\∀ x∈akx (List.replicate n (az e)) l,wt e x)/\cY w S (N (akx (List.replicate n (az e)) l)) b:=by
   intro z j;refine vu (ty:=λi=>if i<n then some e else none) (off:=λi=>i*e.size) (Good:=λl=>l.length=n/\∀ x∈l,wt e x) (λl i t z f hi j=>?_) (λl i t f hi=>?_) (λi t hi=>?_) l _ (List.replicate n (az e)) z.cells.toList ⟨j2,λx hx=>by rw[(zkd.1 hx).2];exact cX e hn⟩ (cM (by simpa [az,D.flat] using j)) g
   ·split at hi<;>first|cases hi|skip
    refine⟨by simpa using f.1,λx hx=>?_⟩
    rcases zVc hx with h|h
    ·exact f.2 x h
    ·rw[h];exact j
   ·split at hi<;>first|cases hi|skip
    rename_i F;have A:i<l.length:=by rw[f.1];exact F
    refine⟨l[i],zda A,f.2 _ (zGa A),?_⟩;rw[aN hn _ (λx hx=>f.2 x (zSa hx)),zjb,zsb u0]
   ·split at hi<;>first|cases hi|skip
    rfl
  obtain⟨z,j,d,_⟩:=ks hl;obtain⟨b,m1,G,m3⟩:=main z d;have c:(Instr.build T (ps.map λp=>(p.1,a.eval p.2))).run P w=.ok (.agg b.toArray) w:=by obtain⟨u,h1,B⟩:=fi hl;simp only[Instr.build,zma,j,zga,run_underlying h1,cr B,rW,m,m1,zta]
  have hw:wt (.arr n e) (.st (akx (List.replicate n (az e)) l)):=by simp only[wt];exact⟨_,rfl,G⟩
  exact⟨_,hq,.value (v:=.agg b.toArray) (w':=w) (by rw[hex];simp only[zma,c,zga,zta]) (Qp.same h (dA (by simpa [ak] using hn) hw ⟨⟨_,rfl⟩,by simpa [Value.cells,D.flat] using m3⟩) _)⟩
def FB(h:Rp w0 S γ β s a w){dst x i ty pos after guard}:jT P E w0 S γ β s a w ⟨dst,.extract x i,ty,pos,after,guard⟩:=by
 intro R K r hq;simp only[qv] at hq;have hx:=aW h x;generalize s.opA x=y at *;split at hq<;>first|cases hq|skip
 ·rename_i ts z;replace hq:=ab hq;obtain⟨u,hu,hq⟩:=hq;replace hq:=ab hq;obtain⟨g,b,hq⟩:=hq;simp only[AR] at hx;rcases hx with⟨h1,_⟩|⟨p,e,hn,n,o⟩
  ·simp[ak] at h1
  ·cases e;simp only[wt] at n;obtain⟨l,rfl,hw⟩:=n;simp only[D.tupAt] at b;simp only[DR] at o;obtain⟨vs,f,hlen,c⟩:=o;have hi:i<vs.length:=s6
   obtain⟨z2,d,m⟩:=ge hw hu;rw[b] at d;cases d;have k:=c i g vs[i] b (zda hi);exact⟨_,hq,.value (v:=vs[i]) (w':=w) (by simp[execOp,Instr.extract,f,hi]) (Qp.same h (dA (cc hn hu) m k) _)⟩
 ·rename_i t u ts z;simp only[AR] at hx;obtain⟨l,q,v0,vs,rfl,f,na,j,hn,hw,hlen,c⟩:=hx;cases i with
  | zero=> simp only at hq;replace hq:=ab hq;obtain⟨g,b,hq⟩:=hq;replace hq:=ab hq;obtain⟨l',hl,hq⟩:=hq;simp only[D.tupAt,zAb,zca] at b;subst b;cases hl;exact⟨_,hq,.value (v:=v0) (w':=w) (by simp[execOp,Instr.extract,f]) (Qp.same h (by simp only[AR];exact⟨na,j⟩) _)⟩
  | succ i=>
   simp only at hq;replace hq:=ab hq;obtain⟨u,hu,hq⟩:=hq;replace hq:=ab hq;obtain⟨g,b,hq⟩:=hq;simp only[D.tupAt,znb] at b;obtain⟨z2,d,m⟩:=ge hw hu;rw[b] at d;cases d;have hi:i<vs.length:=by rw[hlen];exact(zra.1 b).1
   exact⟨_,hq,.value (v:=vs[i]) (w':=w) (by simp[execOp,Instr.extract,f,hi]) (Qp.same h (dA (cc hn hu) m (c i g vs[i] b (zda hi))) _)⟩
def DI(h:Rp w0 S γ β s a w){dst fn first captured ty pos after guard}:jT P E w0 S γ β s a w ⟨dst,.makeFunc fn first captured,ty,pos,after,guard⟩:=by
 intro R K r hq;simp only[qv] at hq;split at hq<;>first|cases hq|skip
 rename_i f;split at hq<;>first|cases hq|skip
 rename_i g;have e:=Array.eq_empty_of_size_eq_zero g.1;refine⟨_,hq,.value (v:=.func (.func f) #[] (captured.map a.eval)) (w':=w) (by simp[execOp,Instr.makeFunc,e]) (Qp.same h ?_ _)⟩
 simp only[AR,AC];refine⟨j2,(captured.toList.map a.eval),by rw[show captured.map a.eval=(captured.toList.map a.eval).toArray from zic j2];simp[Value.cells],?_⟩
 have b:=g.2;clear g hq;generalize captured.toList=l at *
 induction l with
 | nil=>simp[oZ]
 | cons x l ih=>
  simp only[zMb,X] at b;simp only[z4a,oZ];refine⟨_,_,rfl,?_,ih b.2⟩;have c:=b.1;have d:=aW h x;cases hx:s.opA x<;>rw[hx] at c d<;>simp only[gA] at c<;>try(cases c;done)
  simp only[AR] at d;obtain⟨i,j⟩:=d
  simp_all [Value.cells]
end
section
variable{c:Array Value}
theorem g9{α:Type}(l:List α):∀ (n i:Nat),i<n*l.length->((List.replicate n l).flatten)[i]?=l[i%l.length]?
 | 0,i,h=>u0
 | n+1,i,h=>by
  rw[List.replicate_succ,List.flatten_cons,zCd];by_cases hi:i<l.length
  ·simp_all [z0a]
  ·rw[zia hi,g9 l n (i-l.length) (by rw[ztb] at h;omega)]
   rw[<-Nat.mod_eq_sub_mod u0]
def Al{w:World}{S:Nat->Nat->Prop}{e:Ty}{a:Array Value}{m:Nat}(j:c9 (az e).flat a.toList=true)(g:a.size=m)(n:Nat) :
  cY w S (N (List.replicate n (az e))) ((Array.range (n*m)).map λi=>a[i%a.size]!).toList:=by
 have h0:=cM (w:=w) (S:=S) j;have hl:(az e).flat.length=m:=by rw[h0.1];simpa using g
 refine⟨by rw[mU];simp[hl],λi d c b hc=>?_⟩
 rw[mU] at b;have hi:i<n*m:=by have:=(zra.1 hc).1;simpa using this
 rw[g9 _ _ _ (by rw[hl];exact hi),hl] at b
 have hm:0<m:=by
  rcases zKb m with h|h
  ·subst h;omega
  ·exact h
 have f:i%m<a.size:=by rw[g];exact zVa _ hm
 refine h0.2 (i%m) d c b ?_;simp only[Array.toList_map,z2b,Array.toList_range,List.getElem?_range hi,zUb,zca] at hc;rw[<-hc,g];simp[f]
section
variable{P:Program}{E:Env}{w0:Root}{S:Nat->Nat->Prop}{γ:Nat->Option Nat}{β:Nat->Option (Nat×Nat)}{s:St}{a:Act}{w:World}
def oJ{c:Array Value}{t:TypeId}:ck (grown w [.cells c t] w.drawn) w.heap.size=some c:=by rw[<-c6];exact xx w _ rfl
def DT{t:TypeId}{d:Nat}:ck (grown w [.cells c t] d) w.heap.size=some c:=by have:=oJ (w:=w) (c:=c) (t:=t);rw[show ck (grown w [.cells c t] d) w.heap.size=ck (grown w [.cells c t] w.drawn) w.heap.size from rfl];exact this
def Ik{t:TypeId}{d:Nat}(j:Nat):(grown w [.cells c t] d).cell? ⟨w.heap.size,j,none⟩=c[j]?:=cell_of_row _ DT j
def vF(h:Rp w0 S γ β s a w){v:Nat}(C:β v=none)(hi:v<s.base+4096){e:Ty}(hn:ak e=true){l:List D}(hl:∀ x∈l,wt e x){cs:List Value}(hc:cY w S (N l) cs){T:TypeId}{rest:List Value}{cap:Nat}(d:Nat)(r:w.drawn<=d)(j:l.length<=cap)(t:cs.length+rest.length=cap*e.size) :
  ∃ S' β',Rp w0 S' γ β' s a (grown w [.cells (cs++rest).toArray T] d)/\AR ⟨grown w [.cells (cs++rest).toArray T] d,S',γ,β',s.ob,s.dead⟩ (.own e v l) (.slice (some ⟨w.heap.size,0,none⟩) l.length cap) ∧
   (∀ b o,S b o->S' b o)/\(∀ u,u≠v->β' u=β u)/\β' v=some (w.heap.size,l.length*e.size)/\(∀ b o,S' b o->S b o\/b=w.heap.size):=by
 let S':Nat->Nat->Prop:=λb o=>S b o\/(b=w.heap.size/\o<l.length*e.size)
 have q:∀ b o,S' b o->S b o\/(w.heap.size<=b/\b<(grown w [.cells (cs++rest).toArray T] d).heap.size):=λb o g=>by
  rcases g with g|⟨rfl,_⟩
  ·exact .inl g
  ·exact .inr ⟨zja _,j2⟩
 obtain⟨h1,m⟩:=h.grow (os:=[.cells (cs++rest).toArray T]) (d:=d) r (S':=S') (λb o g=>.inl g) q;have y:¬ w0.Old w.heap.size:=λz=>by have:=z.1;have:=h.ext.sz;omega
 obtain⟨A,E⟩:=h1.newTok (v:=v) (b:=w.heap.size) (e:=l.length*e.size) C y j2 (λid hid=>by have:=(h.γn id _ hid).2;omega) (λu f hu B=>by have:=(h.βn u _ _ hu B).2.1;omega) hi
  (λo z p=>p.elim (λp=>by have:=h.Sb _ _ p;omega) λp=>u0)
 refine⟨S',pG β v (w.heap.size,l.length*e.size),A,?_,λb o g=>.inl g,λu hu=>cm β _ hu,bO β _ _,λb o g=>g.imp id λhh=>hh.1⟩;have hlen:cs.length=l.length*e.size:=by rw[<-hc.1];exact aN hn l hl
 simp only[AR,AC,Value.cells];refine⟨j2,hn,hl,_,cap,rfl,?_,λ_=>.inr ⟨w.heap.size,0,rfl,by simp[bO],(cs++rest).length,?_,?_⟩⟩
 ·refine akg (b:=w.heap.size) (off:=0) (.inr rfl) j ⟨cs,hc.mono m.cell m.S,λi c k=>?_⟩;have hi:=(zra.1 k).1;refine⟨.inr ⟨rfl,u0⟩,?_⟩
  rw[Ik];simp only[ztc,zbb];rw[zab hi];exact k
 ·simp[rA,DT]
 ·simp;omega
def yu(J:EnvOk P E)(h:Rp w0 S γ β s a w){dst T n ps ty pos after guard}(M:Fr E s γ β ⟨dst,.buildSlice T n ps,ty,pos,after,guard⟩):jT P E w0 S γ β s a w ⟨dst,.buildSlice T n ps,ty,pos,after,guard⟩:=by
 intro R K r hq;simp only[qv] at hq;replace hq:=ab hq;obtain⟨t,ht,hq⟩:=hq;cases t<;>(try simp only at hq)<;>try(cases hq;done)
 rename_i e;rcases J.lay T _ ht with⟨Y,C⟩|hl
 ·cases C
 have hn:=aK _ _ hl;simp only[ak] at hn;split at hq<;>try(cases hq;done)
 rename_i A;replace hq:=ab hq;obtain⟨d,I,hq⟩:=hq;replace hq:=ab hq;obtain⟨l,hp,hq⟩:=hq;obtain⟨L,Z,Q,_⟩:=M rfl d I;have B:=oH h (ty:=λi=>if i<n then some e else none) (λi t hi=>by split at hi<;>first|(cases hi;exact hn)|cases hi) _ _ hp
 obtain⟨u,h1,q⟩:=jv hl;obtain⟨z,D,m,_⟩:=ks q;obtain⟨i0,z0,a1,O,np,_⟩:=fC (gC q);have a0:z.cells.size=e.size:=by have:=(cM (w:=w) (S:=S) m).1;rw[<-zEb,<-this];exact cL _ _ (cX e hn) hn
 have hzero:cY w S (N (List.replicate n (az e))) ((Array.range (n*e.size)).map λi=>z.cells[i%z.cells.size]!).toList:=Al m a0 n;obtain⟨c,m1,G,m3⟩:=vu (place:=λi=>some (i*e.size,e.size)) (ty:=λi=>if i<n then some e else none) (off:=λi=>i*e.size) (Good:=λl=>l.length=n/\∀ x∈l,wt e x) (λl i t z b hi D=>by
   split at hi<;>try(cases hi;done)
   have:e=t:=by injection hi
   subst this;refine⟨by simpa using b.1,λx hx=>?_⟩
   rcases zVc hx with h|h
   ·exact b.2 x h
   ·rw[h];exact D) (λl i t b hi=>by
   split at hi<;>try(cases hi;done)
   rename_i y;have:e=t:=by injection hi
   subst this;have f:i<l.length:=by rw[b.1];exact y
   refine⟨l[i],zda f,b.2 _ (zGa f),?_⟩;rw[aN hn _ (λx hx=>b.2 x (zSa hx)),zjb,zsb u0]) (λi t hi=>by
   split at hi<;>try(cases hi;done)
   have:e=t:=by injection hi
   subst this;rfl) l _ (List.replicate n (az e)) _ ⟨j2,λx hx=>by rw[(zkd.1 hx).2];exact cX e hn⟩ hzero B
 obtain⟨S',β',U,V,W,X,k5,_⟩:=vF h (v:=s.base+d) Q u0 hn G.2 m3 (T:=u) (rest:=[]) (cap:=n) w.drawn (zja _) (by rw[G.1];exact zja _) (by rw[zzb,zTb,<-m3.1,aN hn _ G.2,G.1])
 have k:¬ n*e.size>2^24:=by have:n*e.size<=4096*4096:=zFa A np.2;omega
 have g:(ps.map λp=>(p.1,a.eval p.2)).toList=ps.toList.map λp=>(p.1,a.eval p.2):=j2
 have j:(Instr.buildSlice T n (ps.map λp=>(p.1,a.eval p.2))).run P w=.ok (.slice (some ⟨w.heap.size,0,none⟩) n n) (grown w [.cells c.toArray u] w.drawn):=by
  have key:∀ o:Array Value,((Array.range (n*e.size)).map λi=>o[i%o.size]!)=((Array.range (n*e.size)).map λi=>z.cells[i%z.cells.size]!) ->
    mT (λi=>some (i*e.size,e.size)) ((Array.range (n*e.size)).map λi=>o[i%o.size]!) (ps.map λp=>(p.1,a.eval p.2)).toList=some c.toArray:=λo F=>by
   rw[F,g];rw[z8b] at m1;exact m1
  by_cases h0:n*e.size=0
  ·have H:=key #[] (by simp[h0])
   simp only[Instr.buildSlice,zma,run_underlying h1,zga,cr q,k,if_false,zla h0,pure_bind,rW,H,newRow,run_newObj,zta];rw[<-c6];rfl
  ·have H:=key z.cells rfl;simp only[Instr.buildSlice,zma,run_underlying h1,zga,cr q,k,if_false,zia h0,bind_pure_comp,Sem.run_map,D,pure_bind,rW,H,newRow,run_newObj,zta];rw[<-c6];rfl
 have hex:execOp a.eval ⟨dst,.buildSlice T n ps,ty,pos,after,guard⟩=(Instr.buildSlice T n (ps.map λp=>(p.1,a.eval p.2)) >>= λv=>pure (.value v)):=rfl;rw[zVb,G.1] at *;refine⟨_,hq,.value (by rw[hex];simp only[zma,j,zga,zta]) ⟨S',γ,β',U,V,W,⟨_,_,rfl⟩,λ_ _ hh=>hh,λid hid=>⟨rfl,X id λhh=>?_⟩⟩⟩
 subst hh;rcases hid with hid|hid
 ·rw[I] at hid;exact hid (by rw[zxb])
 ·omega
def Bx(U:EnvOk P E)(h:Rp w0 S γ β s a w){dst T x y ty pos after guard}(W:Fr E s γ β ⟨dst,.makeSlice T x y,ty,pos,after,guard⟩):jT P E w0 S γ β s a w ⟨dst,.makeSlice T x y,ty,pos,after,guard⟩:=by
 intro R K r hq;simp only[qv] at hq;replace hq:=ab hq;obtain⟨p0,C,hq⟩:=hq;replace hq:=ab hq;obtain⟨n0,A,hq⟩:=hq;split at hq<;>try(cases hq;done)
 rename_i I;subst I;replace hq:=ab hq;obtain⟨t,ht,hq⟩:=hq;cases t<;>(try simp only at hq)<;>try(cases hq;done)
 rename_i e;replace hq:=ab hq;obtain⟨d,M,hq⟩:=hq;replace hq:=ab hq;obtain⟨p,hp,hq⟩:=hq;replace hq:=ab hq;obtain⟨n,B,hq⟩:=hq;split at hq<;>try(cases hq;done)
 rename_i c;obtain⟨V,hγ,hβ,_⟩:=W rfl d M;rcases U.lay T _ ht with⟨ad,F⟩|hl
 ·cases F
 have hn:=aK _ _ hl;simp only[ak] at hn;obtain⟨u,h1,J⟩:=jv hl;obtain⟨i0,z0,b,X,np,j,o,_⟩:=fC (gC J);have val:∀ {z:Operand} {q:Ty×D} {m:Nat},isD (s.opA z)=some q->q.2.natOf=some m->∃ k,a.eval z=.int k m:=λ{z q m} g Q=>by obtain⟨kk,O⟩:=ue Q;have L:=aW h z;rw[eJ g,O] at L;exact⟨kk,(eW L).1⟩
 obtain⟨k0,G⟩:=val C A;obtain⟨k,Y⟩:=val hp B;have Z:z0.cells.size=e.size:=by have:=(cM (w:=w) (S:=S) o).1;rw[<-zEb,<-this];exact cL _ _ (cX e hn) hn
 let cells:Array Value:=(Array.range (n*e.size)).map λi=>z0.cells[i%z0.cells.size]!
 obtain⟨S',β',k1,k2,k3,k4,k5,_⟩:=vF h (v:=s.base+d) hβ u0 hn (l:=[]) (λx hx=>by cases hx) (cs:=[]) cY.nil (T:=u) (rest:=cells.toList) (cap:=n) w.drawn (zja _) (zoa _) (by simp[cells])
 have f:(Instr.makeSlice T (.int k0 (0:Nat)) (.int k n)).run P w=.ok (.slice (some ⟨w.heap.size,0,none⟩) 0 n) (grown w [.cells cells u] w.drawn):=by
  have hb:((i0.bytes:Int)*(n:Int))<=2^48:=by have g:i0.bytes*n<=16384*1073741824:=zFa np.1 c;have:((i0.bytes*n:Nat):Int)<=((16384*1073741824:Nat):Int):=Int.ofNat_le.2 g;rw[z1a] at this;omega
  have hw:IntKind.i64.wrap (n:Int)=(n:Int):=IntWalk.i64_in _ u0
  have H:IntKind.i64.wrap ((0:Nat):Int)=((0:Nat):Int):=IntWalk.i64_in _ u0
  have c1:¬ ((n:Int)<0):=u0
  have c2:¬ ((i0.bytes:Int)*(n:Int)>2^48):=u0
  simp only[Instr.makeSlice,zma,run_underlying h1,zga,asInt,asIntOf,pure_bind,typeInfo,run_program,b,zta,hw,H];rw[zfa c1,zfa c2,zfa (show ¬ (((0:Nat):Int)>n) by omega),zfa (show ¬ (((0:Nat):Int)<0) by omega)]
  simp only[Bool.or_self,zHa,if_false,zma,run_askRoom,zga,cr J,z7c];by_cases h0:n*e.size=0
  ·have N:((Array.range (n*e.size)).map λi=>(#[]:Array Value)[i%(#[]:Array Value).size]!)=cells:=by
    show _=((Array.range (n*e.size)).map λi=>z0.cells[i%z0.cells.size]!);rw[h0];simp
   rw[zla h0];simp only[pure_bind,N,newRow,zma,run_newObj,zga,zta];rw[<-c6];rfl
  ·rw[zia h0];simp only[zeroValue,typeInfo,zma,run_program,b,j,zga,zta,bind_pure_comp,Sem.run_map,newRow,run_newObj];rw[<-c6];rfl
 rw[z4b,z8b] at *;refine⟨_,hq,.value (by simp only[execOp,G,Y,zma,f,zga,zta,zzb]) ⟨S',γ,β',k1,k2,k3,⟨_,_,rfl⟩,λ_ _ hh=>hh,λid hid=>⟨rfl,k4 id λhh=>?_⟩⟩⟩
 subst hh;rcases hid with hid|hid
 ·rw[M] at hid;exact hid (by rw[zxb])
 ·omega
end
end
end Sy
end
end Go.Proofs.YtdlipdnepadhjaaGreat
