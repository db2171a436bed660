/- Part 1 of the proof that SweepChecksAsSpecified answers true at every input -/
import Derived.WalkKit
import Derived.WalkSpells
import Derived.WalkLawsBesides
import Derived.Deep.QuietTactic
import Derived.BigQuiet
import Derived.Deep.Draws
import Derived.Lib.Hide
import Derived.KernelRfl
import Derived.StillTail
import Derived.Laws.StructEq
set_option linter.unusedVariables false
set_option linter.unusedSimpArgs false
set_option linter.unnecessarySimpa false
set_option linter.defProp false
set_option maxRecDepth 20000
namespace Go.Proofs.YtmnkibhalflchaaGreat
noncomputable section
open Go.RowKit
theorem j1{p:Prop}(h:p:=by omega):p:=h
theorem j2{p:Prop}(h:p:=by decide):p:=h
theorem s6{p:Prop}(h:p:=by simp):p:=h
theorem x6{p:Prop}(h:p:=by kernel_rfl):p:=h
theorem k7{p:Prop}(h:p:=by grind):p:=h
abbrev zaa:=@Bool.and_eq_true
abbrev zba:=@Option.bind_some
abbrev zca:=@decide_eq_false
abbrev zda:=@Option.some.injEq
abbrev zea:=@List.getElem?_eq_getElem
abbrev zfa:=@Result.andThen_ok
abbrev zga:=@if_neg
abbrev zha:=@decide_eq_true
abbrev zia:=@decide_eq_true_eq
abbrev zja:=@if_pos
abbrev zka:=@Nat.le_refl
abbrev zla:=@Sem.run_bind
abbrev zma:=@List.mem_cons_of_mem
abbrev zna:=@List.getElem?_eq_some_iff
abbrev zoa:=@Nat.zero_le
abbrev zpa:=@Array.getElem?_eq_some_iff
abbrev zqa:=@Nat.pow_le_pow_right
abbrev zra:=@Sem.run_pure
abbrev zsa:=@List.getD_eq_getElem?_getD
abbrev zta:=@Nat.lt_or_ge
abbrev zua:=@List.take_append_drop
abbrev zva:=@List.length_map
abbrev zwa:=@List.mem_cons_self
abbrev zxa:=@congrArg
abbrev zya:=@List.all_eq_true
abbrev zza:=@Int.natAbs_natCast
abbrev zAa:=@List.take_succ_eq_append_getElem
abbrev zBa:=@List.getElem?_eq_none
abbrev zCa:=@Bool.not_eq_true'
abbrev zDa:=@Nat.two_pow_pos
abbrev zEa:=@Nat.mul_le_mul_right
abbrev zFa:=@List.length_append
abbrev zGa:=@List.mem_cons
abbrev zHa:=@List.mem_range
abbrev zIa:=@List.mem_append
abbrev zJa:=@Array.getElem?_toList
abbrev zKa:=@List.mem_singleton
abbrev zLa:=@Bool.false_eq_true
abbrev zMa:=@Nat.mul_comm
abbrev zNa:=@Nat.le_trans
abbrev zOa:=@List.length_cons
abbrev zPa:=@Nat.div_div_eq_div_mul
abbrev zQa:=@Nat.lt_of_lt_of_le
abbrev zRa:=@Nat.lt_of_le_of_lt
abbrev zSa:=@Int.natAbs_mul
abbrev zTa:=@Nat.mod_eq_of_lt
abbrev zUa:=@Int.le_of_lt
abbrev zVa:=@Nat.mod_lt
abbrev zWa:=@List.getElem_mem
abbrev zXa:=@List.append_assoc
abbrev zYa:=@Nat.div_lt_iff_lt_mul
abbrev zZa:=@List.mem_of_mem_take
abbrev z0a:=@Nat.mul_assoc
abbrev z1a:=@Nat.pow_add
abbrev z2a:=@List.getElem_of_mem
abbrev z3a:=@absurd
abbrev z4a:=@Int.natCast_mul
abbrev z5a:=@Nat.mul_le_mul
abbrev z6a:=@Nat.div_eq_of_lt
abbrev z7a:=@List.take_length
abbrev z8a:=@Nat.zero_add
abbrev z9a:=@List.pairwise_cons
abbrev zab:=@Nat.mul_le_mul_left
abbrev zbb:=@List.mem_of_getElem?
abbrev zcb:=@Int.ofNat_dvd_left
abbrev zdb:=@Nat.add_mul
abbrev zeb:=@List.getElem?_append_left
abbrev zfb:=@List.mem_append_right
abbrev zgb:=@List.getElem?_map
abbrev zhb:=@List.getElem?_cons_succ
abbrev zib:=@Int.mul_ediv_cancel_left
abbrev zjb:=@List.length_take
abbrev zkb:=@Nat.min_eq_left
abbrev zlb:=@List.mem_append_left
abbrev zmb:=@List.map_append
abbrev znb:=@List.map_cons
abbrev zob:=@Nat.pow_succ
abbrev zpb:=@List.drop_eq_getElem_cons
abbrev zqb:=@Nat.gcd_dvd_left
abbrev zrb:=@Bool.true_and
abbrev zsb:=@List.getElem?_take_of_lt
abbrev ztb:=@Nat.gcd_dvd_right
abbrev zub:=@List.cons_append
abbrev zvb:=@Nat.add_sub_cancel_left
abbrev zwb:=@List.mem_map_of_mem
abbrev zxb:=@Int.mul_neg_of_pos_of_neg
abbrev zyb:=@List.all_cons
abbrev zzb:=@Nat.mul_lt_mul_of_pos_right
abbrev zAb:=@Nat.eq_zero_or_pos
abbrev zBb:=@List.getElem?_drop
abbrev zCb:=@Int.lt_or_eq_of_le
abbrev zDb:=@List.mem_map
abbrev zEb:=@Nat.add_assoc
abbrev zFb:=@Array.length_toList
abbrev zGb:=@List.range_succ
abbrev zHb:=@Int.mul_le_mul_of_nonneg_left
abbrev zIb:=@Array.getElem?_eq_getElem
abbrev zJb:=@Int.mul_pos
abbrev zKb:=@Bool.or_eq_true
abbrev zLb:=@Int.mul_nonneg
abbrev zMb:=@List.getElem?_cons_zero
abbrev zNb:=@List.ext_getElem?
abbrev zOb:=@List.getElem?_append_right
abbrev zPb:=@Nat.mul_add
abbrev zQb:=@Nat.add_mul_div_left
abbrev zRb:=@Nat.le_mul_of_pos_left
abbrev zSb:=@Option.map_some
abbrev zTb:=@List.not_mem_nil
abbrev zUb:=@List.take_succ_cons
abbrev zVb:=@Nat.eq_of_beq_eq_true
abbrev zWb:=@Nat.add_zero
abbrev zXb:=@Int.lt_trichotomy
abbrev zYb:=@Int.lt_or_le
abbrev zZb:=@Nat.div_add_mod
abbrev z0b:=@List.nil_append
abbrev z1b:=@List.length_nil
abbrev z2b:=@List.mem_of_mem_drop
abbrev z3b:=@Array.toArray_toList
abbrev z4b:=@Option.getD_some
abbrev z5b:=@List.map_congr_left
abbrev z6b:=@List.length_range
abbrev z7b:=@List.pairwise_iff_getElem
abbrev z8b:=@Int.natAbs_neg
abbrev z9b:=@Int.mul_pos_of_neg_of_neg
abbrev zac:=@Nat.lt_trans
abbrev zbc:=@Nat.le_div_iff_mul_le
abbrev zcc:=@Rat.num_divInt_den
abbrev zdc:=@Array.ext'
abbrev zec:=@List.length_eq_zero_iff
abbrev zfc:=@Nat.div_mul_le_self
abbrev zgc:=@Nat.div_le_self
abbrev zhc:=@List.take_of_length_le
abbrev zic:=@List.drop_of_length_le
abbrev zjc:=@Int.fdiv_eq_ediv_of_nonneg
abbrev zkc:=@List.drop_length
abbrev zlc:=@Nat.pow_zero
abbrev zmc:=@Nat.le_of_lt
abbrev znc:=@Nat.add_mul_div_right
abbrev zoc:=@List.getElem?_toArray
abbrev zpc:=@Array.mem_of_getElem?
abbrev zqc:=@Bool.not_false
abbrev zrc:=@Array.mapM_eq_mapM_toList
abbrev zsc:=@Nat.div_lt_of_lt_mul
abbrev ztc:=@Array.mem_toList_iff
abbrev zuc:=@Array.getElem_append
abbrev zvc:=@Int.toNat_natCast
abbrev zwc:=@Bool.eq_false_iff
abbrev zxc:=@Nat.add_comm
abbrev zyc:=@List.Nodup.length_le_of_subset
abbrev zzc:=@List.length_pos_iff
abbrev zAc:=@Int.eq_ofNat_of_zero_le
abbrev zBc:=@List.mapM_cons
abbrev zCc:=@Nat.le_succ
abbrev zDc:=@Nat.gcd_comm
abbrev zEc:=@List.all_append
abbrev zFc:=@Int.zero_mul
abbrev zGc:=@Int.natCast_add
abbrev zHc:=@Bool.eq_iff_iff
abbrev zIc:=@Nat.not_lt
abbrev zJc:=@Nat.dvd_trans
abbrev zKc:=@List.size_toArray
abbrev zLc:=@List.map_drop
abbrev zMc:=@Int.not_lt
abbrev zNc:=@Int.mul_lt_mul_of_pos_left
abbrev zOc:=@List.getElem?_append
abbrev zPc:=@List.mem_or_eq_of_mem_set
abbrev zQc:=@Nat.mul_lt_mul''
abbrev zRc:=@List.mem_flatMap
abbrev zSc:=@Nat.div_one
abbrev zTc:=@List.getElem?_range
abbrev zUc:=@List.drop_succ_cons
abbrev zVc:=@Int.neg_ediv_of_dvd
abbrev zWc:=@Nat.gcd_pos_of_pos_right
abbrev zXc:=@Int.mul_zero
abbrev zYc:=@List.mem_filter
abbrev zZc:=@List.append_nil
abbrev z0c:=@Int.natCast_nonneg
abbrev z1c:=@Bool.not_true
abbrev z2c:=@Nat.one_mul
abbrev z3c:=@Int.natAbs_add_le
abbrev z4c:=@Array.getElem?_setIfInBounds_ne
abbrev z5c:=@Nat.zero_mul
abbrev z6c:=@Nat.sub_self
abbrev z7c:=@Int.mul_le_mul_of_nonneg_right
abbrev z8c:=@Int.mul_comm
abbrev z9c:=@Array.getElem?_modify
abbrev zad:=@Nat.le_add_right
abbrev zbd:=@List.eq_nil_of_length_eq_zero
abbrev zcd:=@List.any_eq_true
abbrev zdd:=@Int.natCast_ediv
abbrev zed:=@Bool.false_or
abbrev zfd:=@Nat.pow_mul
abbrev zgd:=@Nat.mod_one
abbrev zhd:=@List.foldl_cons
abbrev zid:=@Int.mul_eq_zero
abbrev zjd:=@Nat.add_mul_mod_self_right
abbrev zkd:=@Nat.mul_zero
abbrev zld:=@List.mem_replicate
abbrev zmd:=@List.mem_filterMap
abbrev znd:=@Int.sub_eq_add_neg
abbrev zod:=@Nat.add_mul_mod_self_left
abbrev zpd:=@List.exists_mem_of_ne_nil
abbrev zqd:=@Bool.false_and
abbrev zrd:=@Nat.lt_trichotomy
abbrev zsd:=@List.eq_of_mem_replicate
abbrev ztd:=@Array.toList_push
abbrev zud:=@Nat.pow_pos
abbrev zvd:=@Nat.mul_one
abbrev zwd:=@Nat.le_mul_of_pos_right
abbrev zxd:=@List.map_take
abbrev zyd:=@Int.le_refl
abbrev zzd:=@Bool.and_true
abbrev zAd:=@Nat.lt_succ_self
abbrev zBd:=@List.getElem_map
abbrev zCd:=@Int.natCast_zero
abbrev zDd:=@List.range_succ_eq_map
abbrev zEd:=@Nat.zero_mod
abbrev zFd:=@Nat.mul_succ
abbrev zGd:=@List.cons.injEq
abbrev zHd:=@Int.mul_ediv_cancel'
abbrev zId:=@Bool.or_eq_false_iff
abbrev zJd:=@Array.push_eq_append
abbrev zKd:=@Array.getElem_toList
abbrev zLd:=@List.drop_drop
abbrev zMd:=@Int.ofNat_tmod
abbrev zNd:=@Int.ofNat_tdiv
abbrev zOd:=@Bool.false_xor
def grown(w:World)(os:List Obj)(d:Nat):World:={ w with heap:=w.heap++os.toArray,drawn:=d }
def bO(w:World)(b:Nat):Option (Array Value):=
 match w.heap[b]? with
 | some (.cells c _ (0,0))=>some c
 | _=>none
def iH(b:Nat)(w:World):Prop:=b<w.heap.size
def Qs(b:Nat)(w:World)(os:List Obj):Prop:=b<os.length+w.heap.size
section
variable(w:World)(os os':List Obj)(d d':Nat)(o:Obj)(a:Addr)(v:Value)(b:Nat)
@[simp,go_sem] theorem size_grown:(grown w os d).heap.size=os.length+w.heap.size:=by simp[grown];omega
@[simp,go_sem] theorem tape_grown:(grown w os d).tape=w.tape:=rfl
@[simp,go_sem] theorem drew_grown:(grown w os d).drew=grown w os (d+1):=rfl
@[simp,go_sem] theorem drewN_grown (n:Nat):(grown w os d).drewN n=grown w os (d+n):=rfl
def cX{b:Nat}(h:b<w.heap.size):(grown w os d).heap[b]?=w.heap[b]?:=by simp[grown,Array.getElem?_append,h]
def DV:grown w [] w.drawn=w:=by simp[grown]
def cN:w.alloc o=grown w [o] w.drawn:=by show({ w with heap:=w.heap.push o }:World)=_;grind [grown,Array.push_eq_append]
@[simp,go_sem] theorem row?_drew:bO w.drew b=bO w b:=rfl
@[simp,go_sem] theorem row?_drewN (n:Nat):bO (w.drewN n) b=bO w b:=rfl
def tX{c:Array Value}{t:TypeId}(h:b=w.heap.size):bO (w.alloc (.cells c t)) b=some c:=by
 subst h;show(match (w.heap.push (.cells c t))[w.heap.size]? with|some (.cells c _ (0,0))=>some c|_=>none)=_
 simp
@[simp,go_sem] theorem inHeap_setCell:iH b (w.setCell a v)=iH b w:=by simp[iH]
@[simp,go_sem] theorem inHeap_drew:iH b w.drew=iH b w:=rfl
@[simp,go_sem] theorem inHeap_drewN (n:Nat):iH b (w.drewN n)=iH b w:=rfl
theorem cell_of_row{b:Nat}{c:Array Value}(h:bO w b=some c)(j:Nat):w.cell? ⟨b,j,none⟩=c[j]?:=by unfold bO at h;split at h<;>simp at h;rename_i a;subst h;simp[World.cell?,a]
theorem frozen_of_row{b:Nat}{c:Array Value}(h:bO w b=some c)(j:Nat):w.frozen? ⟨b,j,none⟩=false:=by unfold bO at h;split at h<;>simp at h;rename_i a;simp[World.frozen?,a]
def dW(c:Array Value)(off:Nat)(cs:Array Value):Array Value:=c.extract 0 off++cs++c.extract (off+cs.size) c.size
def ku(c cs:Array Value)(off j:Nat)(h:off+cs.size<=c.size):(dW c off cs)[j]?=if j<off then c[j]? else if j<off+cs.size then cs[j-off]? else c[j]?:=by simp only[dW,Array.getElem?_append,Array.getElem?_extract,Array.size_append,Array.size_extract];all_goals grind
@[simp,go_sem] theorem splice_size (c cs:Array Value) (off:Nat) (h:off+cs.size<=c.size):(dW c off cs).size=c.size:=by simp[dW];omega
def re(c:Array Value)(k:Nat)(v:Value)(l:List Value)(h:k+(l.length+1)<=c.size) :
  dW (c.setIfInBounds k v) (k+1) l.toArray=dW c k (v::l).toArray:=by
 apply Array.ext_getElem?;intro j;rw[ku _ _ _ _ (by simp;omega),ku _ _ _ _ (by simpa using h)]
 all_goals grind
def putAt(w:World)(b off:Nat)(cs:Array Value):World:=
 { w with heap:=w.heap.modify b λ
   | .cells c e f=>.cells (dW c off cs) e f
   | o=>o }
@[simp,go_sem] theorem inHeap_putAt (b' off:Nat) (cs:Array Value):iH b' (putAt w b off cs)=iH b' w:=by simp[iH,putAt]
@[simp,go_sem] theorem size_putAt (off:Nat) (cs:Array Value):(putAt w b off cs).heap.size=w.heap.size:=by simp[putAt]
@[simp,go_sem] theorem tape_putAt (off:Nat) (cs:Array Value):(putAt w b off cs).tape=w.tape:=rfl
end
attribute [irreducible] iH Qs
def Be(P:Program)(T:TypeId)(a:Addr)(w:World):Result Value:=(loadVar T a).run P w
def BK(P:Program)(T:TypeId)(a:Addr)(v:Value)(w:World):Result Unit:=(storeVar T a v).run P w
def QF(P:Program)(T:TypeId)(b off n:Nat)(w:World):Option (Array Value)->Result Value
 | some c=>if off+n<=c.size then .ok (.agg (c.extract off (off+n))) w else Be P T ⟨b,off,none⟩ w
 | none=>Be P T ⟨b,off,none⟩ w
@[simp,go_sem] theorem ldRow_some (P:Program) (T:TypeId) (b off n:Nat) (w:World) (c:Array Value) :
  QF P T b off n w (some c)=if off+n<=c.size then .ok (.agg (c.extract off (off+n))) w else Be P T ⟨b,off,none⟩ w:=rfl
def kH:Value->Bool
 | .agg _|.tuple _=>false
 | _=>true
def QJ(cs:Array Value):Bool:=cs.all kH
def QR(P:Program)(T:TypeId)(b off:Nat)(cs:Array Value)(w:World):Option (Array Value)->Result Unit
 | some c=>if off+cs.size<=c.size/\QJ cs=true then .ok () (putAt w b off cs) else BK P T ⟨b,off,none⟩ (.agg cs) w
 | none=>BK P T ⟨b,off,none⟩ (.agg cs) w
@[simp,go_sem] theorem stRow_some (P:Program) (T:TypeId) (b off:Nat) (cs:Array Value) (w:World) (c:Array Value) :
  QR P T b off cs w (some c)=if off+cs.size<=c.size/\QJ cs=true then .ok () (putAt w b off cs) else BK P T ⟨b,off,none⟩ (.agg cs) w:=rfl
def t6{P:Program}{T:TypeId}{n:Nat}(h:(P.info? T).map (·.size)=some n)(w:World):(sizeOf T).run P w=.ok n w:=by
 cases hq:P.info? T with
 | none=>simp[hq] at h
 | some i=> simp_all [sizeOf,typeInfo]
def db(b off j:Nat):(⟨b,off,none⟩:Addr).add j=⟨b,off+j,none⟩:=by unfold Addr.add;split<;>simp_all
theorem cJ{P:Program}(b off:Nat):∀ (l:List Value) (i:Nat) (w:World) (c:Array Value),bO w b=some c->off+i+l.length<=c.size->l.all kH=true ->
  (storeCells ⟨b,off,none⟩ l i).run P w=.ok () (putAt w b (off+i) l.toArray)
 | [],i,w,c,a,_,_=>by
  simp only[storeCells,zra];congr 1;unfold bO at a;split at a<;>simp at a;rename_i h;subst a;have g:=(zpa.1 h);obtain⟨g,k⟩:=g;simp only[putAt];have:w.heap.modify b (λ|.cells c e f=>.cells (dW c (off+i) #[]) e f|o=>o)=w.heap:=by
   apply Array.ext
   ·simp
   ·intro j h1 p;simp only[Array.getElem_modify];split
    ·simp_all [dW]
    ·rfl
  simp_all
 | v::l,i,w,c,a,hlen,d=>by
  simp only[zyb,zaa] at d;simp only[zOa] at hlen;have hc:w.cell? ⟨b,off+i,none⟩=some c[off+i]:=by rw[cell_of_row w a,zIb j1]
  have r:w.frozen? ⟨b,off+i,none⟩=false:=frozen_of_row w a _;simp only[storeCells,zla];have n:(store ((⟨b,off,none⟩:Addr).add i) v).run P w=.ok () (w.setCell ⟨b,off+i,none⟩ v):=by rw[db];unfold store;cases v<;>simp_all [Sem.run,kH]
  rw[n];simp only[zfa];have m:bO (w.setCell ⟨b,off+i,none⟩ v) b=some (c.setIfInBounds (off+i) v):=by unfold bO at a ⊢;split at a<;>simp at a;rename_i h;subst a;simp only[World.setCell,z9c,if_true,h,zSb,Option.isSome_none,zLa,if_false]
  rw[cJ b off l (i+1) _ _ m (by simp;omega) d.2]
  congr 1;unfold bO at a;split at a<;>simp at a;rename_i h;subst a;obtain⟨g,k⟩:=(zpa.1 h);simp only[putAt,World.setCell];congr 1;apply Array.ext
  ·simp
  ·intro j h1 p;simp only[Array.getElem_modify];split
   ·rename_i q;subst q;simp only[k,Option.isSome_none,zLa,if_false];rw[<-re _ _ _ _ j1]
    rfl
   ·rfl
def kE(place:Nat->Option (Nat×Nat))(cells:Array Value):List (Nat×Value)->Option (Array Value)
 | []=>some cells
 | (i,v)::rest=>
  match place i with
  | none=>none
  | some (off,size)=>if v.cells.size≠size\/off+v.cells.size>cells.size then none else kE place (dW cells off v.cells) rest
theorem oL(off:Nat):∀ (l:List Value) (k:Nat) (cells:Array Value),off+k+l.length<=cells.size ->
  (l.zipIdx k).foldl (λcs (c,j)=>cs.setIfInBounds (off+j) c) cells=dW cells (off+k) l.toArray
 | [],k,cells,_=>by simp only[List.zipIdx_nil,List.foldl_nil,dW];all_goals simp_all
 | v::l,k,cells,h=>by simp only[zOa] at h;simp only[List.zipIdx_cons,zhd];rw[oL off l (k+1) _ (by simp;omega),show off+(k+1)=(off+k)+1 from by omega,re _ _ _ _ j1]
theorem oJ(place:Nat->Option (Nat×Nat)):∀ (l:List (Nat×Value)) (cells:Array Value),Instr.fill place cells l=kE place cells l
 | [],cells=>rfl
 | (i,v)::rest,cells=>by
  simp only[Instr.fill,kE];cases place i with
  | none=>rfl
  | some q=>
   obtain⟨off,size⟩:=q;by_cases h:v.cells.size≠size\/off+v.cells.size>cells.size
   ·simp[h]
   ·simp only[h,if_false];have b:¬ (v.cells.size≠size||decide (off+v.cells.size>cells.size))=true:=by simpa using h
    have hle:off+0+v.cells.toList.length<=cells.size:=by simp;omega
    have e:=oL off v.cells.toList 0 cells hle;simp only[zWb,z3b] at e;have a:v.cells.zipIdx.foldl (λcs (c,j)=>cs.setIfInBounds (off+j) c) cells=dW cells off v.cells:=by rw[<-e,<-Array.foldl_toList];simp
    simp only[b,if_false,zLa,a];exact oJ place rest _
def s8{place:Nat->Option (Nat×Nat)}{cells:Array Value}{i off size:Nat}{v:Value}{rest:List (Nat×Value)}(hp:place i=some (off,size))(h1:v.cells.size=size)(a:off+size<=cells.size) :
  kE place cells ((i,v)::rest)=kE place (dW cells off v.cells) rest:=by
 simp only[kE,hp];grind
section
variable{α:Type}{enc:α->Array Value}{c:Nat}(hc:∀ x,(enc x).size=c)
include hc
def m8(f:Nat->α)(k:Nat)(y:α):Nat->α:=λi=>if i=k then y else f i
end
end
noncomputable section
namespace Sy
open Go
inductive Ty where
 | int (k:IntKind)|bool|str|st (l:List Ty)|arr (n:Nat) (t:Ty)|sl (t:Ty)|tup (l:List Ty)|fn
mutual
def Ty.beq:Ty->Ty->Bool
 | .int k,.int k'=>decide (k=k')
 | .bool,.bool=>true
 | .str,.str=>true
 | .st l,.st l'=>Ty.beqs l l'
 | .arr n t,.arr n' t'=>decide (n=n')&&Ty.beq t t'
 | .sl t,.sl t'=>Ty.beq t t'
 | .tup l,.tup l'=>Ty.beqs l l'
 | .fn,.fn=>true
 | _,_=>false
def Ty.beqs:List Ty->List Ty->Bool
 | [],[]=>true
 | t::l,t'::l'=>Ty.beq t t'&&Ty.beqs l l'
 | _,_=>false
end
mutual
theorem aeK:∀ (t t':Ty),t.beq t'=true->t=t'
 | .int k,t',h=>by cases t'<;>simp[Ty.beq] at h;rw[h]
 | .bool,t',h=>by grind [Ty.beq]
 | .str,t',h=>by grind [Ty.beq]
 | .st l,t',h=>by cases t'<;>simp[Ty.beq] at h;rw[aeL _ _ h]
 | .arr n t,t',h=>by cases t'<;>simp[Ty.beq] at h;rw[h.1,aeK _ _ h.2]
 | .sl t,t',h=>by cases t'<;>simp[Ty.beq] at h;rw[aeK _ _ h]
 | .tup l,t',h=>by cases t'<;>simp[Ty.beq] at h;rw[aeL _ _ h]
 | .fn,t',h=>by grind [Ty.beq]
theorem aeL:∀ (l l':List Ty),Ty.beqs l l'=true->l=l'
 | [],l',h=>by grind [Ty.beqs]
 | t::l,l',h=>by
  cases l' with
  | nil=>simp[Ty.beqs] at h
  | cons t' l'=>simp[Ty.beqs] at h;rw[aeK _ _ h.1,aeL _ _ h.2]
end
mutual
def Ty.size:Ty->Nat
 | .st l=>aeN l
 | .arr n t=>n*t.size
 | .tup _=>0
 | _=>1
def aeN:List Ty->Nat
 | []=>0
 | t::l=>t.size+aeN l
end
inductive D where
 | int (k:IntKind) (n:Int)|bool (b:Bool)|str (s:ByteArray)|st (l:List D)|sl (l:List D)|tup (l:List D)
instance:Inhabited D:=⟨.bool false⟩
mutual
def D.flat:D->List D
 | .st l=>ad2 l
 | .int k n=>[.int k n]
 | .bool b=>[.bool b]
 | .str s=>[.str s]
 | .sl l=>[.sl l]
 | .tup l=>[.tup l]
def ad2:List D->List D
 | []=>[]
 | d::l=>D.flat d++ad2 l
end
mutual
def wt:Ty->D->Prop
 | .int k,d=>∃ n,d=.int k n
 | .bool,d=>∃ b,d=.bool b
 | .str,d=>∃ s,d=.str s
 | .st ts,d=>∃ l,d=.st l/\eu ts l
 | .arr n t,d=>∃ l,d=.st l/\l.length=n/\∀ x∈l,wt t x
 | .sl t,d=>∃ l,d=.sl l/\∀ x∈l,wt t x
 | .tup ts,d=>∃ l,d=.tup l/\eu ts l
 | .fn,_=>False
def eu:List Ty->List D->Prop
 | [],l=>l=[]
 | t::ts,l=>∃ d l',l=d::l'/\wt t d/\eu ts l'
end
mutual
def D.beq:D->D->Bool
 | .int k n,.int k' n'=>decide (k=k')&&decide (n=n')
 | .bool b,.bool b'=>b==b'
 | .str s,.str s'=>decide (s=s')
 | .st l,.st l'=>D.beqs l l'
 | _,_=>false
def D.beqs:List D->List D->Bool
 | [],[]=>true
 | t::l,t'::l'=>D.beq t t'&&D.beqs l l'
 | _,_=>false
end
mutual
def az:Ty->D
 | .int k=>.int k 0
 | .bool=>.bool false
 | .str=>.str ByteArray.empty
 | .st l=>.st (gc l)
 | .arr n t=>.st (List.replicate n (az t))
 | .sl _=>.sl []
 | .tup l=>.tup (gc l)
 | .fn=>.bool false
def gc:List Ty->List D
 | []=>[]
 | t::l=>az t::gc l
end
mutual
def Me:Ty->Bool
 | .st l=>xj l
 | .arr _ t=>Me t
 | .sl _=>true
 | .tup _=>true
 | .fn=>true
 | _=>false
def xj:List Ty->Bool
 | []=>false
 | t::l=>Me t||xj l
end
mutual
def ao:Ty->Bool
 | .st l=>aO l
 | .arr _ t=>ao t
 | .sl t=>ao t
 | .tup _=>false
 | .fn=>false
 | _=>true
def aO:List Ty->Bool
 | []=>true
 | t::l=>ao t&&aO l
end
inductive Ex where
 | normal|exit (id:Nat)|ret
def Ex.is:Ex->Ex->Bool
 | .normal,.normal=>true
 | .exit i,.exit j=>decide (i=j)
 | .ret,.ret=>true
 | _,_=>false
def Bq:Option Ex->Option Ex->Bool
 | none,none=>true
 | some e,some a=>e.is a
 | _,_=>false
inductive AV where
 | d (t:Ty) (x:D)
 | own (t:Ty) (v:Nat) (l:List D)
 | nils
 | ptr (t:Ty) (id:Nat) (p:List Nat)
 | fptr (t:Ty) (x:D)
 | mem (t:Ty) (id:Nat)
 | st (ts:List Ty) (l:List AV)
 | clo (f:Nat) (l:List AV)
 | map (kt vt:Ty) (id:Nat)
 | sub (sl:Bool) (t:Ty) (id:Nat) (p:List Nat) (lo n:Nat)
 | tpo (t:Ty) (v:Nat) (ts:List Ty) (y:D)
 | yld (id:Nat)
 | gone
 | undef
instance:Inhabited AV:=⟨.undef⟩
structure LpI where
 nt:Nat
 ps:List Nat
 asg:Code
 bdy:Code
 caps:Nat->AV
inductive Ob where
 | one (t:Ty) (v:AV)
 | many (t:Ty) (l:List D)
 | mp (kt vt:Ty) (l:List D)
 | lp (i:LpI) (pend:Option Ex)
 | fv (v:AV)
def D.fld:D->Nat->Option D
 | .st l,i=>l[i]?
 | _,_=>none
def D.tupAt:D->Nat->Option D
 | .tup l,i=>l[i]?
 | _,_=>none
def kJ{R:Type}(y:D):Nat->List Ty->(List AV->Option R)->Option R
 | _,[],k=>k []
 | i,t::a,k=>(y.fld i).bind λz=>kJ y (i+1) a λl=>k (.d t z::l)
def D.get:D->List Nat->Option D
 | x,[]=>some x
 | x,i::p=>(x.fld i).bind λy=>y.get p
def D.set:D->List Nat->D->Option D
 | _,[],y=>some y
 | .st l,i::p,y=>(l[i]?).bind λz=>(D.set z p y).bind λa=>some (.st (l.set i a))
 | _,_::_,_=>none
def D.asSl:D->Option (List D)
 | .sl l=>some l
 | _=>none
def D.stl:D->Option (List D)
 | .st l=>some l
 | _=>none
def D.asInt:D->Option (IntKind×Int)
 | .int k n=>some (k,n)
 | _=>none
def D.truth:D->Option Bool
 | .bool b=>some b
 | _=>none
def D.idx:D->Nat->Option Nat
 | .int _ i,n=>if 0<=i/\i<(n:Int) then some i.toNat else none
 | _,_=>none
def aea:D->D->Option D
 | .str s,.int _ i=>(if 0<=i then s[i.toNat]? else none).bind λb=>some (.int .u8 b.toNat)
 | _,_=>none
def D.slen:D->Option D
 | .str s=>some (.int .i64 s.size)
 | _=>none
def D.conv(k:IntKind):D->Option D
 | .int _ n=>some (.int k (k.wrap n))
 | _=>none
def adX(op:BinOp)(k:IntKind)(x y:Int):Option D:=
 match op with
 | .and=>some (.int k (k.wrap (BitVec.ofInt k.bits x &&& BitVec.ofInt k.bits y).toNat))
 | .or=>some (.int k (k.wrap (BitVec.ofInt k.bits x ||| BitVec.ofInt k.bits y).toNat))
 | .xor=>some (.int k (k.wrap (BitVec.ofInt k.bits x ^^^ BitVec.ofInt k.bits y).toNat))
 | .andNot=>some (.int k (k.wrap (BitVec.ofInt k.bits x &&& ~~~ BitVec.ofInt k.bits y).toNat))
 | _=>none
def adW(op:BinOp):D->D->Option D
 | .int k a,.int c b=>
  match op with
  | .shl=>if b<0 then none else some (.int k (k.wrap (a*2^(min b.toNat k.bits))))
  | .shr=>if b<0 then none else some (.int k (a.fdiv (2^(min b.toNat k.bits))))
  | _=>if k=c then
   match op with
   | .add=>some (.int k (k.wrap (a+b)))
   | .sub=>some (.int k (k.wrap (a-b)))
   | .mul=>some (.int k (k.wrap (a*b)))
   | .quo=>if b=0 then none else some (.int k (k.wrap (a.tdiv b)))
   | .rem=>if b=0 then none else some (.int k (a.tmod b))
   | .eql=>some (.bool (a==b))
   | .neq=>some (.bool (a != b))
   | .lss=>some (.bool (decide (a<b)))
   | .leq=>some (.bool (decide (a<=b)))
   | .gtr=>some (.bool (decide (a>b)))
   | .geq=>some (.bool (decide (a ≥ b)))
   | .and=>adX .and k a b
   | .or=>adX .or k a b
   | .xor=>adX .xor k a b
   | .andNot=>adX .andNot k a b
   | _=>none
   else none
 | _,_=>none
def aeb(op:UnOp):D->Option D
 | .int k n=>match op with
  | .neg=>some (.int k (k.wrap (0-n)))
  | .xor=>adX .xor k (if k.signed then -1 else k.max) n
  | _=>none
 | .bool b=>match op with
  | .not=>some (.bool (!b))
  | _=>none
 | _=>none
def D.min2:D->D->Option D
 | .int k x,.int _ y=>some (.int k (if y<x then y else x))
 | _,_=>none
def D.max2:D->D->Option D
 | .int k x,.int _ y=>some (.int k (if y>x then y else x))
 | _,_=>none
def D.cut(l:List D)(lo a:Nat):Option (List D):=if lo<=a/\a<=l.length then some ((l.take a).drop lo) else none
def D.natOf:D->Option Nat
 | .int _ i=>if 0<=i then some i.toNat else none
 | _=>none
def ad9:List D->List (Nat×D)->List D
 | l,[]=>l
 | l,(i,x)::r=>ad9 (l.set i x) r
def aP:Ty->List Nat->Option Ty
 | t,[]=>some t
 | .st a,i::p=>(a[i]?).bind λt=>aP t p
 | .arr _ t,_::p=>aP t p
 | _,_=>none
def aY:Ty->List Nat->Nat
 | _,[]=>0
 | .st a,i::p=>aeN (a.take i)+aY (a.getD i .bool) p
 | .arr _ t,i::p=>i*t.size+aY t p
 | _,_=>0
def xh{R:Type}:AV->List Nat->(AV->Option R)->Option R
 | .d t x,p,k=>match p with
  | []=>k (.d t x)
  | i::p=>(aP t (i::p)).bind λb=>(x.get (i::p)).bind λy=>k (.d b y)
 | a,[],k=>k a
 | .st _ l,i::p,k=>(l[i]?).bind λa=>xh a p k
 | _,_,_=>none
mutual
def AV.fits:Ty->AV->Bool
 | t,.d t' _=>t.beq t'
 | .sl t,.own t' _ _=>t.beq t'
 | .sl _,.nils=>true
 | .st ts,.st ts' l=>Ty.beqs ts ts'&&AV.fitss ts l
 | _,_=>false
def AV.fitss:List Ty->List AV->Bool
 | [],[]=>true
 | t::ts,a::l=>AV.fits t a&&AV.fitss ts l
 | _,_=>false
end
def BF{R:Type}:AV->List Nat->AV->(AV->Option R)->Option R
 | _,[],b,k=>k b
 | .d t x,i::p,b,k=>match b with
  | .d _ y=>(x.set (i::p) y).bind λe=>k (.d t e)
  | _=>none
 | .st c l,i::p,b,k=>(l[i]?).bind λa=>BF a p b λa'=>k (.st c (l.set i a'))
 | _,_::_,_,_=>none
mutual
def j4:Ty->AV
 | .sl _=>.nils
 | .st ts=>if xj ts then .st ts (jx ts) else .d (.st ts) (az (.st ts))
 | t=>.d t (az t)
def jx:List Ty->List AV
 | []=>[]
 | t::l=>j4 t::jx l
end
def fZ{R:Type}:Ob->List Nat->(AV->Option R)->Option R
 | .one _ v,p,k=>xh v p k
 | .many t l,i::p,k=>(l[i]?).bind λx=>xh (.d t x) p k
 | _,_,_=>none
def eC:Ob->List Nat->Option Ty
 | .one t _,p=>aP t p
 | .many t _,_::p=>aP t p
 | .fv _,[]=>some .fn
 | _,_=>none
structure St where
 tm:Nat->AV
 ob:Nat->Option Ob
 fresh:Nat
 dead:List Nat
 nt:Nat
 lkS:List Nat
 lkO:List Nat
def St.put(s:St)(dst:Option Nat)(v:AV):St:=
 match dst with
 | some t=>if t<s.nt then{ s with tm:=λi=>if i=t then v else s.tm i } else s
 | none=>s
def St.base(s:St):Nat:=s.fresh*4096
def St.setOb(s:St)(id:Nat)(o:Option Ob):St:={ s with ob:=λi=>if i=id then o else s.ob i }
mutual
def adR(ob:Nat->Option Ob):Ty->AV->Option D
 | t,.d t' x=>if t.beq t' then some x else none
 | t,.own t' _ l=>if t.beq (.sl t') then some (.sl l) else none
 | t,.nils=>match t with
  | .sl _=>some (.sl [])
  | _=>none
 | t,.st ts' l=>if t.beq (.st ts') then(AV.toDl ob ts' l).bind λxs=>some (.st xs) else none
 | _,_=>none
def AV.toDl(ob:Nat->Option Ob):List Ty->List AV->Option (List D)
 | [],[]=>some []
 | t::ts,a::l=>(adR ob t a).bind λx=>(AV.toDl ob ts l).bind λxs=>some (x::xs)
 | _,_=>none
end
def AV.asList(ob:Nat->Option Ob)(t:Ty)(a:AV):Option (List D):=(adR ob (.sl t) a).bind D.asSl
def AV.truth:AV->Option Bool
 | .d t x=>if t.beq .bool then x.truth else none
 | _=>none
inductive Sh where
 | dv (t:Ty)
 | ow (t:Ty)
 | same (a:AV)
 | st (ts:List Ty) (l:List Sh)
inductive ShO where
 | one (t:Ty) (h:Sh)
 | many (t:Ty)
 | mp (kt vt:Ty)
 | keep (t:Ty) (wit:Nat)
 | lp (pend:Option Ex) (wit:Nat)
 | fv (a:AV)
structure Shape where
 slots:List (Nat×Sh)
 objs:List (Nat×ShO)
 keepS:List Nat
inductive Ann where
 | leaf
 | reg (fz:List Nat) (n:Nat)
 | regI (fz:List Nat) (n:Nat) (a:Ann)
 | two (a b:Ann)
 | cut (exits:List (Ex×Shape)) (keepS keepO:List Nat) (a b:Ann)
 | loop (h:Shape) (exits:List (Ex×Shape)) (a:Ann)
 | all (exits:List (Ex×Shape)) (keepS keepO:List Nat) (a:Ann)
def Ann.fz:Ann->List Nat|.reg fz _=>fz|.regI fz _ _=>fz|_=>[]
def Ann.heads(m:Nat):Ann->Nat|.reg _ n=>n|.regI _ n _=>n|_=>m
def Ann.inner:Ann->Ann|.regI _ _ a=>a|_=>.leaf
def Ann.fst:Ann->Ann|.two a _=>a|.cut _ _ _ a _=>a|.loop _ _ a=>a|_=>.leaf
def Ann.snd:Ann->Ann|.two _ b=>b|.cut _ _ _ _ b=>b|_=>.leaf
structure Env where
 L:Nat->Option Ty
 sig:Nat->Option (List Ty×Ty)
 call:Nat->List D->Option D
 mapL:Nat->Option (Ty×Ty)
 lp:{α β:Type}->(α->Option (Sum α β))->α->Option β
 inl:Nat->Option (Ann->(R:Type)->St->List AV->(AV->St->Option R)->Option R)
 cod:Code->Ann->(R:Type)->St->(Ex->St->Option R)->Option R
 free:Nat->Nat
 pv:Nat->Bool
 fnT:Nat->Bool
 ownF:Nat->Bool
def Env.alTy(E:Env)(T:Nat):Option Ty:=bif E.fnT T then some .fn else E.L T
def Env.alOb(E:Env)(T:Nat):Option Ob:=bif E.fnT T then some (.fv .undef) else(E.L T).map λt=>.one t (j4 t)
def kI:AV->Bool
 | .clo ..=>true
 | .yld _=>true
 | .map ..=>true
 | _=>false
structure Inl where
 pv:Nat->Bool
 f:Nat->Option (Ann->(R:Type)->St->List AV->(AV->St->Option R)->Option R)
 cod:Code->Ann->(R:Type)->St->(Ex->St->Option R)->Option R
def F9:Value->AV
 | .int k n=>.d (.int k) (.int k n)
 | .bool b=>.d .bool (.bool b)
 | .string s=>.d .str (.str s)
 | .slice none 0 0=>.nils
 | _=>.undef
def St.opA(s:St):Operand->AV
 | .tmp t=>s.tm t
 | .const v=>F9 v
 | .func f=>.clo f []
 | _=>.undef
def isD:AV->Option (Ty×D)
 | .d t x=>some (t,x)
 | _=>none
mutual
def bE:Ty->Bool
 | .int _=>true
 | .bool=>true
 | .st ts=>lj ts
 | .arr _ t=>bE t
 | _=>false
def lj:List Ty->Bool
 | []=>true
 | t::l=>bE t&&lj l
end
def partsD(ob:Nat->Option Ob)(s:St)(ty:Nat->Option Ty):List (Nat×Operand)->Option (List (Nat×D))
 | []=>some []
 | (i,x)::r=>(ty i).bind λt=>(adR ob t (s.opA x)).bind λy=>(partsD ob s ty r).bind λa=>some ((i,y)::a)
def fT(s:St)(a:List Ty)(p:Nat×Operand):Bool:=match a[p.1]? with|some u=>AV.fits u (s.opA p.2)|none=>false
def fH:AV->Bool
 | .ptr ..=>true
 | _=>false
def mv:List AV->List (Nat×AV)->List AV
 | l,[]=>l
 | l,(i,x)::r=>mv (l.set i x) r
def ad3:List D->D->Option D
 | [],_=>none
 | .st [k,v]::l,x=>if D.beq x k then some v else ad3 l x
 | _::l,x=>ad3 l x
def ad4:List D->D->D->List D
 | [],x,y=>[.st [x,y]]
 | .st [k,v]::l,x,y=>if D.beq x k then .st [k,y]::l else .st [k,v]::ad4 l x y
 | e::l,x,y=>e::ad4 l x y
def cZ:List Nat->Bool
 | []=>true
 | a::l=>!(l.contains a)&&cZ l
def sK(l:List AV):List Nat:=l.map λx=>match x with|.ptr _ id _=>id|_=>0
def ox(ob:Nat->Option Ob):List Ty->List AV->Option (List D)
 | [],[]=>some []
 | t::a,.ptr _ id []::l=>match ob id with
  | some (.one u v)=>if t.beq u then(adR ob t v).bind λz=>(ox ob a l).bind λb=>some (z::b) else none
  | _=>none
 | _,_=>none
def uB:List AV->Bool
 | []=>true
 | .ptr _ _ []::l=>uB l
 | _::_=>false
def vF:Option Ob->Bool
 | some (.one _ _)=>true
 | some (.fv _)=>true
 | _=>false
def iX(ob:Nat->Option Ob):AV->AV
 | .d t x=>.d t x
 | .own t _ l=>.d (.sl t) (.sl l)
 | .fptr t x=>.fptr t x
 | .ptr t id []=>if vF (ob id) then .ptr t id [] else .undef
 | .clo f l=>if uB l&&l.all (λa=>match a with|.ptr _ id _=>vF (ob id)|_=>false) then .clo f l else .undef
 | .yld id=>.yld id
 | .map b vt id=>.map b vt id
 | _=>.undef
def j7(ob:Nat->Option Ob):AV->AV
 | .ptr _ id []=>match ob id with
  | some (.one t _)=>.ptr t id []
  | some (.fv _)=>.ptr .fn id []
  | _=>.undef
 | _=>.undef
def mR(ob:Nat->Option Ob):AV->AV
 | .d t x=>.d t x
 | .fptr t x=>.fptr t x
 | .ptr t id p=>j7 ob (.ptr t id p)
 | .clo f l=>if(l.map (j7 ob)).all fH then .clo f (l.map (j7 ob)) else .undef
 | .yld id=>.yld id
 | .map c vt id=>match ob id with
  | some (.mp a b _)=>if c.beq a&&vt.beq b then .map c vt id else .undef
  | _=>.undef
 | _=>.undef
def qv{R:Type}(E:Env)(s:St)(o:Oper)(K:AV->Option R):Option R:=
 match o.op with
 | .move x=>K (s.opA x)
 | .assign x=>K (s.opA x)
 | .pick c a b=>(s.opA c).truth.bind λc=>if c then K (s.opA a) else K (s.opA b)
 | .alloc T=>(E.alTy T).bind λt=>o.dst.bind λd=>K (.ptr t (s.base+d) [])
 | .load T a=>bif E.fnT T then(match s.opA a with|.ptr .fn id []=>(match s.ob id with|some (.fv v)=>if kI (mR s.ob v) then K (mR s.ob v) else none|_=>none)|_=>none) else(E.L T).bind λt=>match s.opA a with
  | .ptr h id p=>if t.beq h then(s.ob id).bind λo=>fZ o p K else none
  | .fptr h x=>if t.beq h then K (.d h x) else none
  | .sub sl e id p lo n=>if !sl&&t.beq (.arr n e) then(s.ob id).bind λo=>fZ o p λv=>match v with
    | .d (.arr _ A) (.st l)=>if A.beq e&&decide (lo+n<=l.length) then K (.d (.arr n e) (.st ((l.drop lo).take n))) else none
    | _=>none
   else none
  | _=>none
 | .fieldAddr T x f=>(E.L T).bind λt=>match t,s.opA x with
  | .st j,.ptr h id p=>if h.beq (.st j) then(j[f]?).bind λu=>K (.ptr u id (p++[f])) else none
  | .st j,.fptr h y=>if h.beq (.st j) then(j[f]?).bind λu=>(y.fld f).bind λz=>K (.fptr u z) else none
  | _,_=>none
 | .indexAddr T x i=>(E.L T).bind λt=>(isD (s.opA i)).bind λq=>match t with
  | .arr n e=>match s.opA x with
   | .ptr h id p=>if h.beq (.arr n e) then(q.2.idx n).bind λk=>K (.ptr e id (p++[k])) else none
   | .fptr h y=>if h.beq (.arr n e) then(q.2.idx n).bind λk=>(y.fld k).bind λz=>K (.fptr e z) else none
   | _=>none
  | .sl e=>match s.opA x with
   | .mem h id=>if h.beq e then match s.ob id with
     | some (.many _ l)=>(q.2.idx l.length).bind λk=>K (.ptr e id [k])
     | _=>none
    else none
   | .sub sl A id p lo n=>if sl&&A.beq e then(q.2.idx n).bind λk=>K (.ptr e id (p++[lo+k])) else none
   | a=>(a.asList s.ob e).bind λl=>(q.2.idx l.length).bind λk=>(l[k]?).bind λy=>K (.fptr e y)
  | _=>none
 | .field T x f=>(E.L T).bind λt=>match t,s.opA x with
  | .st j,.d h y=>if h.beq (.st j) then(j[f]?).bind λu=>(y.fld f).bind λz=>K (.d u z) else none
  | _,_=>none
 | .index T x i=>(E.L T).bind λt=>(isD (s.opA i)).bind λq=>match t,s.opA x with
  | .arr n e,.d h y=>if h.beq (.arr n e) then(q.2.idx n).bind λk=>(y.fld k).bind λz=>K (.d e z) else none
  | .str,.d h y=>if h.beq .str then(aea y q.2).bind λz=>K (.d (.int .u8) z) else none
  | _,_=>none
 | .binOp op T x y _=>(E.L T).bind λt=>(isD (s.opA x)).bind λa=>(isD (s.opA y)).bind λb=>
  match op with
  | .eql=>if a.1.beq t&&b.1.beq t&&bE t then K (.d .bool (.bool (D.beq a.2 b.2))) else none
  | .neq=>if a.1.beq t&&b.1.beq t&&bE t then K (.d .bool (.bool (!(D.beq a.2 b.2)))) else none
  | .lss=>(adW .lss a.2 b.2).bind λz=>K (.d .bool z)
  | .leq=>(adW .leq a.2 b.2).bind λz=>K (.d .bool z)
  | .gtr=>(adW .gtr a.2 b.2).bind λz=>K (.d .bool z)
  | .geq=>(adW .geq a.2 b.2).bind λz=>K (.d .bool z)
  | op=>(adW op a.2 b.2).bind λz=>K (.d a.1 z)
 | .unOp op _ x=>(isD (s.opA x)).bind λa=>(aeb op a.2).bind λz=>K (.d a.1 z)
 | .convert S T x=>(E.L S).bind λu=>(E.L T).bind λt=>(isD (s.opA x)).bind λa=>
  match t with
  | .int k=>if a.1.beq u then(D.conv k a.2).bind λz=>K (.d t z) else none
  | _=>none
 | .build T ps=>(E.L T).bind λt=>match t with
  | .st j=>if xj j then(if ps.toList.all (fT s j) then K (.st j (mv (jx j) (ps.toList.map λp=>(p.1,s.opA p.2)))) else none)
   else(partsD s.ob s (λi=>j[i]?) ps.toList).bind λl=>K (.d t (.st (ad9 (gc j) l)))
  | .arr n e=>(partsD s.ob s (λi=>if i<n then some e else none) ps.toList).bind λl=>K (.d t (.st (ad9 (List.replicate n (az e)) l)))
  | _=>none
 | .buildSlice T n ps=>(E.L T).bind λt=>match t with
  | .sl e=>if n<=4096 then o.dst.bind λd=>(partsD s.ob s (λi=>if i<n then some e else none) ps.toList).bind λl=>K (.own e (s.base+d) (ad9 (List.replicate n (az e)) l)) else none
  | _=>none
 | .extract x i=>match s.opA x with
  | .d (.tup j) y=>(j[i]?).bind λu=>(y.tupAt i).bind λz=>K (.d u z)
  | .tpo t v j y=>match i with
   | 0=>(y.tupAt 0).bind λz=>z.asSl.bind λl=>K (.own t v l)
   | i+1=>(j[i]?).bind λu=>(y.tupAt (i+1)).bind λz=>K (.d u z)
  | _=>none
 | .nilCheck x=>match s.opA x with
  | .ptr t id p=>K (.ptr t id p)
  | _=>none
 | .slice T x lo w I=>match I with
  | some _=>none
  | none=>(E.L T).bind λt=>match t with
   | .sl e=>((s.opA x).asList s.ob e).bind λl=>
    (match lo with|none=>some 0|some i=>(isD (s.opA i)).bind λa=>a.2.natOf).bind λlo=>
    (match w with|none=>some l.length|some i=>(isD (s.opA i)).bind λa=>a.2.natOf).bind λw=>
    (D.cut l lo w).bind λl'=>K (.d t (.sl l'))
   | .arr m e=>match s.opA x with
    | .ptr h id p=>if h.beq (.arr m e) then
     (match lo with|none=>some 0|some i=>(isD (s.opA i)).bind λa=>a.2.natOf).bind λlo=>
     (match w with|none=>some m|some i=>(isD (s.opA i)).bind λa=>a.2.natOf).bind λw=>
     if lo<=w/\w<=m/\lo<m then K (.sub true e id p lo (w-lo)) else none
     else none
    | _=>none
   | _=>none
 | .sliceToArrayPointer T x=>(E.L T).bind λt=>match t,s.opA x with
  | .arr n e,.sub sl A id p lo J=>if sl&&A.beq e&&decide (n<=J) then K (.sub false e id p lo n) else none
  | .arr n e,a=>(a.asList s.ob e).bind λl=>if decide (1<=n)&&decide (n<=l.length) then K (.fptr (.arr n e) (.st (l.take n))) else none
  | _,_=>none
 | .lookup T x i B=>(E.mapL T).bind λH=>match s.opA x with
  | .map C vt id=>if C.beq H.1&&vt.beq H.2 then match s.ob id with
    | some (.mp F G l)=>if F.beq C&&G.beq vt then(isD (s.opA i)).bind λq=>if q.1.beq C then
      match B with
      | false=>K (.d vt ((ad3 l q.2).getD (az vt)))
      | true=>K (.d (.tup [vt,.bool]) (.tup [(ad3 l q.2).getD (az vt),.bool (ad3 l q.2).isSome]))
      else none
     else none
    | _=>none
   else none
  | _=>none
 | .makeSlice T x y=>(isD (s.opA x)).bind λa=>(a.2.natOf).bind λz=>if z=0 then(E.L T).bind λt=>match t with
  | .sl e=>o.dst.bind λd=>(isD (s.opA y)).bind λb=>(b.2.natOf).bind λn=>if n<=1073741824 then K (.own e (s.base+d) []) else none
  | _=>none
  else none
 | .makeFunc fn first captured=>match fn with
  | .func f=>if first.size=0/\(captured.toList.all λx=>fH (s.opA x))=true then K (.clo f (captured.toList.map s.opA)) else none
  | _=>none
 | .call c=>match c.callee with
  | .builtin .len=>(c.argTypes[0]?).bind λT=>(E.L T).bind λt=>(c.args[0]?).bind λx=>match t with
   | .sl e=>match s.opA x with
    | .mem h id=>if h.beq e then match s.ob id with
      | some (.many _ l)=>K (.d (.int .i64) (.int .i64 l.length))
      | _=>none
     else none
    | .sub sl A _ _ _ n=>if sl&&A.beq e then K (.d (.int .i64) (.int .i64 n)) else none
    | a=>(a.asList s.ob e).bind λl=>K (.d (.int .i64) (.int .i64 l.length))
   | .arr n _=>K (.d (.int .i64) (.int .i64 n))
   | .str=>(isD (s.opA x)).bind λa=>if a.1.beq .str then(D.slen a.2).bind λz=>K (.d (.int .i64) z) else none
   | _=>none
  | .builtin .min=>match c.args.toList with
   | [x,y]=>(isD (s.opA x)).bind λa=>(isD (s.opA y)).bind λb=>if a.1.beq b.1 then(D.min2 a.2 b.2).bind λz=>K (.d a.1 z) else none
   | _=>none
  | .builtin .max=>match c.args.toList with
   | [x,y]=>(isD (s.opA x)).bind λa=>(isD (s.opA y)).bind λb=>if a.1.beq b.1 then(D.max2 a.2 b.2).bind λz=>K (.d a.1 z) else none
   | _=>none
  | .value (.func f)=>(E.sig f).bind λg=>bif Nat.beq (E.free f) 0 then(AV.toDl s.ob g.1 (c.args.toList.map s.opA)).bind λxs=>(E.call f xs).bind λy=>bif E.ownF f then(o.dst.bind λd=>match g.2 with|.sl t=>y.asSl.bind λl=>K (.own t (s.base+d) l)|.tup (.sl t::j)=>K (.tpo t (s.base+d) j y)|.st (.sl t::j)=>(y.fld 0).bind λz=>z.asSl.bind λl=>kJ y 1 j λr=>K (.st (.sl t::j) (.own t (s.base+d) l::r))|_=>none) else K (.d g.2 y) else none
  | .value (.tmp t)=>match s.tm t with
   | .clo f l=>(E.sig f).bind λg=>bif Nat.beq (E.free f) l.length&&cZ (sK l) then(AV.toDl s.ob (g.1.take (g.1.length-l.length)) (c.args.toList.map s.opA)).bind λxs=>(ox s.ob (g.1.drop (g.1.length-l.length)) l).bind λM=>(E.call f (xs++M)).bind λy=>K (.d g.2 y) else none
   | _=>none
  | _=>none
 | _=>none
def rL{R:Type}(E:Env)(s:St)(o:Oper)(K:St->Option R):Option R:=
 match o.op with
 | .store T a x=>bif E.fnT T then(match s.opA a with|.ptr .fn id []=>if kI (iX s.ob (s.opA x))&&!(s.lkO.contains id) then(match s.ob id with|some (.fv _)=>K (s.setOb id (some (.fv (iX s.ob (s.opA x)))))|_=>none) else none|_=>none) else(E.L T).bind λt=>match s.opA a with
  | .ptr I id p=>if t.beq I&&AV.fits t (s.opA x)&&!(s.lkO.contains id) then match s.ob id with
    | some (.one u v)=>BF v p (s.opA x) λv'=>K (s.setOb id (some (.one u v')))
    | some (.many u l)=>match p with
     | i::C=>(l[i]?).bind λz=>(adR s.ob t (s.opA x)).bind λy=>(D.set z C y).bind λM=>K (s.setOb id (some (.many u (l.set i M))))
     | []=>none
    | _=>none
   else none
  | _=>none
 | .makeMap T F=>match F with
  | some _=>none
  | none=>(E.mapL T).bind λb=>o.dst.bind λd=>K ((s.setOb (s.base+d) (some (.mp b.1 b.2 []))).put o.dst (.map b.1 b.2 (s.base+d)))
 | .mapUpdate T m k v=>if o.dst.isSome then none else(E.mapL T).bind λb=>match s.opA m with
  | .map h vt id=>if h.beq b.1&&vt.beq b.2&&!(s.lkO.contains id) then match s.ob id with
    | some (.mp w G l)=>if w.beq h&&G.beq vt then(adR s.ob h (s.opA k)).bind λH=>(adR s.ob vt (s.opA v)).bind λJ=>K (s.setOb id (some (.mp h vt (ad4 l H J)))) else none
    | _=>none
   else none
  | _=>none
 | .box T x=>bif E.fnT T then(o.dst.bind λd=>if kI (iX s.ob (s.opA x)) then K ((s.setOb (s.base+d) (some (.fv (iX s.ob (s.opA x))))).put o.dst (.ptr .fn (s.base+d) [])) else none) else(E.L T).bind λt=>o.dst.bind λd=>if AV.fits t (s.opA x) then K ((s.setOb (s.base+d) (some (.one t (s.opA x)))).put o.dst (.ptr t (s.base+d) [])) else none
 | .makeSlice T l c=>match l with
  | .tmp i=>(E.L T).bind λt=>o.dst.bind λd=>match t,c with
   | .sl e,.tmp j=>if i=j then(isD (s.tm i)).bind λa=>(a.2.natOf).bind λn=>if n<=1073741824 then K ((s.setOb (s.base+d) (some (.many e (List.replicate n (az e))))).put o.dst (.mem e (s.base+d))) else none else none
   | _,_=>none
  | _=>qv E s o λv=>K (s.put o.dst v)
 | .call c=>match c.callee with
  | .builtin .append=>(c.argTypes[0]?).bind λT=>(E.L T).bind λt=>o.dst.bind λd=>match t,c.args.toList,c.argTypes.toList with
   | .sl e,[x,y],[_,T']=>match E.L T' with
    | some (.sl _)=>((s.opA y).asList s.ob e).bind λl'=>match s.opA x with
     | .own q v l=>if q.beq e&&!(s.dead.contains v) then(if l.length+l'.length<=1073741824 then K ({ s with dead:=v::s.dead }.put o.dst (.own e (s.base+d) (l++l'))) else none) else none
     | .nils=>if l'.length<=1073741824 then K (s.put o.dst (.own e (s.base+d) l')) else none
     | _=>none
    | _=>none
   | _,_,_=>none
  | .builtin .copy=>match c.args.toList,c.argTypes.toList with
   | [x,y],[T,_]=>match E.L T with
    | some (.sl (.int k))=>match s.opA x,s.opA y with
     | .sub true e id [] lo n,.sub true q r C A B=>match s.ob id,s.ob r with
      | some (.one (.arr m f) (.d g x)),some o'=>fZ o' C λv=>match v with
       | .d (.arr O N) y=>
       if e.beq (.int k)&&q.beq (.int k)&&f.beq (.int k)&&g.beq (.arr m f)&&!(s.lkO.contains id) then
        x.stl.bind λl=>y.stl.bind λl'=>K ((s.setOb id (some (.one (.arr m f) (.d g (.st (l.take lo++((l'.drop A).take (min B n)++l.drop (lo+min B n)))))))).put o.dst (.d (.int .i64) (.int .i64 (min B n:Nat))))
       else none
       | _=>none
      | _,_=>none
     | _,_=>none
    | _=>none
   | _,_=>none
  | _=>qv E s o λv=>K (s.put o.dst v)
 | _=>qv E s o λv=>K (s.put o.dst v)
def mW(s:St)(o:Oper):Bool:=match o.dst with|some d=>s.lkS.contains d|none=>false
def Ng{R:Type}(E:Env)(s:St)(o:Oper)(K:St->Option R):Option R:=if mW s o then none else rL E s o K
def gf(E:Env):List Oper->St->St
 | [],s=>s
 | o::l,s=>gf E l (match o.op,o.dst with
  | .alloc T,some d=>match E.alOb T with
   | some x=>s.setOb (s.base+d) (some x)
   | none=>s
  | _,_=>s)
def killD(s:St):List Oper->St
 | []=>s
 | o::l=>killD (s.put o.dst .undef) l
def vE(i:Nat)(o:Oper):Bool:=match o.guard with|some (j,_)=>decide (j=i)|none=>false
def oP(d:Option Nat)(o:Oper):Bool:=match o.op,d with|.pick (.tmp c) _ _,some d=>decide (c=d)|_,_=>false
def dt(d:Option Nat):List (Nat×Oper)->List (Nat×Oper)×List (Nat×Oper)
 | []=>([],[])
 | p::l=>if oP d p.2 then([],p::l) else let r:=dt d l;(p::r.1,r.2)
def fY(o:Oper):Bool:=match o.op with
 | .store ..|.box ..|.makeSlice ..|.makeMap ..|.mapUpdate ..|.alloc _=>false
 | .call c=>match c.callee with|.builtin .append=>false|.builtin .copy=>false|_=>true
 | _=>true
def w8(o:Oper):Bool:=match o.op with
 | .alloc _=>true|.box ..=>true|.makeSlice ..=>true|.makeMap ..=>true|.buildSlice ..=>true
 | .call c=>match c.callee with|.builtin .append=>true|.value (.func _)=>true|_=>false
 | _=>false
def kG(E:Env)(o:Oper):Bool:=match o.op with
 | .call c=>match c.callee with|.value (.func f)=>(E.inl f).isSome|.value (.tmp t)=>!E.pv t|_=>false
 | _=>false
def pU(s:St)(c:Call):Option (Nat×List AV):=match c.callee with
 | .value (.func f)=>some (f,c.args.toList.map s.opA)
 | .value (.tmp t)=>match s.tm t with|.clo f l=>if l.all fH then some (f,c.args.toList.map s.opA++l) else none|_=>none
 | _=>none
def qi(i:Nat)(l:List (Nat×Oper)):Bool:=match l with|p::_=>vE i p.2|[]=>false
def xl{α:Type}(x:AV)(A B:Option α):Option α:=match x with|.gone=>A|_=>B
theorem fF{α:Type}{A B:Option α}:xl .gone A B=A:=rfl
def fG{α:Type}{x:AV}{A B:Option α}(h:x≠.gone):xl x A B=B:=by cases x<;>first|rfl|exact z3a rfl h
def eJ(s:St):List Nat:=(List.range s.nt).filterMap λt=>match s.tm t with|.own _ v _=>if s.dead.contains v then none else some v|_=>none
def uW(s:St)(a:List Nat):List Nat:=(eJ s).filter λv=>!(a.contains v)
def A8(s:St)(a:List AV):Ty->List Nat
 | .sl t=>a.filterMap λx=>match x with|.own b v _=>if b.beq t&&!(s.dead.contains v) then some v else none|_=>none
 | _=>[]
def kl:Option Ob->Option Ob->Bool
 | some (.one t _),some (.one b _)=>t.beq b
 | some (.many t _),some (.many b _)=>t.beq b
 | some (.mp d vt _),some (.mp a c _)=>d.beq a&&vt.beq c
 | some (.fv _),some (.fv _)=>true
 | _,none=>true
 | _,_=>false
def G7(ob a:Nat->Option Ob):AV->Bool
 | .ptr _ id _=>kl (ob id) (a id)
 | _=>false
def oY(s sc:St)(n:Nat)(c a:List Nat):AV->AV
 | .d t x=>.d t x
 | .own t v l=>if s.dead.contains v||a.contains v then .d (.sl t) (.sl l) else .own t (n+c.idxOf v) l
 | .nils=>.nils
 | .ptr t id p=>if kl (s.ob id) (sc.ob id) then .ptr t id p else .undef
 | .fptr t x=>.fptr t x
 | .clo f l=>if l.all (G7 s.ob sc.ob) then .clo f l else .undef
 | .map b vt id=>if kl (s.ob id) (sc.ob id) then .map b vt id else .undef
 | .yld id=>.yld id
 | _=>.undef
def KQ(s:St)(nt:Nat)(a:List AV)(b:List Nat):St:={ tm:=λi=>a.getD i .undef,ob:=s.ob,fresh:=s.fresh+1,dead:=uW s b++s.dead,nt:=nt,lkS:=[],lkO:=s.lkO }
def nh(s sc:St)(a:List Nat):St:={ tm:=λi=>if i<s.nt then oY s sc ((sc.fresh+1)*4096) (uW s a) a (s.tm i) else .undef,ob:=sc.ob,fresh:=sc.fresh+1,dead:=sc.dead,nt:=s.nt,lkS:=s.lkS,lkO:=s.lkO }
def kp:List (Nat×AV)->(Nat->AV)->Nat->AV
 | [],f=>f
 | (p,a)::l,f=>kp l λt=>if t=p then a else f t
def CO(s:St)(i:LpI)(id:Nat)(a:List AV):St:=
 { tm:=kp (i.ps.zip a) λt=>if t<i.nt then mR s.ob (i.caps t) else .undef,ob:=s.ob,fresh:=s.fresh+1,dead:=eJ s++s.dead,nt:=i.nt,lkS:=[],lkO:=id::s.lkO }
def Oh(s:St)(c:Call):Option (Nat×LpI×List AV):=match c.callee with
 | .value (.tmp t)=>match s.tm t with
  | .yld id=>match s.ob id with
   | some (.lp i none)=>some (id,i,c.args.toList.map s.opA)
   | _=>none
  | _=>none
 | _=>none
def leaveY(s:St)(id:Nat)(i:LpI)(p:Option Ex):St:={ s with tm:=λ_=>.undef,ob:=λj=>if j=id then some (.lp i p) else s.ob j }
def YS{R:Type}(E:Env)(an:Ann)(s:St)(id:Nat)(i:LpI)(a:List AV)(K:AV->St->Option R):Option R:=
 if a.length=i.ps.length/\(i.ps.all λp=>decide (p<i.nt))=true/\(eJ s).length<=4096 then
  E.cod i.asg an.fst R (CO s i id a) λe s1=>match e with
   | .normal=>match s1.ob id with
    | some (.lp _ none)=>E.cod i.bdy an.snd R (s1.setOb id none) λe s2=>match e with
     | .normal=>K (.d .bool (.bool true)) (nh s (leaveY s2 id i none) [])
     | e=>K (.d .bool (.bool false)) (nh s (leaveY s2 id i (some e)) [])
    | _=>none
   | _=>none
 else none
def YR{R:Type}(E:Env)(f:Operand)(ps:Array Tmp)(asg bdy:Code)(an:Ann)(s:St)(k:Ex->St->Option R):Option R:=
 match f with
 | .tmp t=>match s.tm t with
  | .clo g l=>if l.all fH&&!(s.lkO.contains 4095) then(E.inl g).bind λG=>
    G an R ({ s with fresh:=s.fresh+1 }.setOb ((s.fresh+1)*4096) (some (.lp { nt:=s.nt,ps:=ps.toList,asg:=asg,bdy:=bdy,caps:=λj=>iX s.ob (s.tm j) } none))) (.yld ((s.fresh+1)*4096)::l) λ_ s2=>
     match s2.ob ((s.fresh+1)*4096) with
     | some (.lp _ none)=>k .normal (s2.setOb ((s.fresh+1)*4096) none)
     | some (.lp _ (some e))=>k e (s2.setOb ((s.fresh+1)*4096) none)
     | _=>none
   else none
  | _=>none
 | _=>none
def RQ{R:Type}(E:Env)(an:Ann)(s:St)(o:Oper)(K:AV->St->Option R):Option R:=match o.op with
 | .call c=>match Oh s c with
  | some q=>YS E an s q.1 q.2.1 q.2.2 K
  | none=>(pU s c).bind λq=>(E.inl q.1).bind λg=>g an R s q.2 K
 | _=>none
def rQ(E:Env)(o:Oper)(an:Ann):Ann:=if kG E o then an.snd else an
def uI(s:St):St:={ s with fresh:=s.fresh+1 }
def A4{R:Type}(E:Env)(an:Ann)(l:List (Nat×Oper))(s:St)(o:Oper)(K:St->Option R):Option R:=
 if kG E o then(if l.all λp=>!(w8 p.2) then RQ E an.fst s o λv s'=>K (s'.put o.dst v) else if cZ ((l.map Prod.snd).filterMap (·.dst)) then RQ E an.fst s o λv s'=>K (gf E (l.map Prod.snd) (uI (s'.put o.dst v))) else none) else rL E s o K
def lJ(E:Env)(s:St)(i:Nat)(o:Oper)(l:List (Nat×Oper)):Bool:=
 qi i l&&(match (dt o.dst l).2,o.dst with
  | (_,a)::_,some d=>decide (d<s.nt)&&a.guard.isNone&&fY o&&!(kG E o)&&(dt o.dst l).1.all (λ(p:Nat×Oper)=>(fY p.2&&!(mW s p.2)&&!(kG E p.2)))&&!(mW s a)
  | _,_=>false)
def eZ(E:Env):Nat->(R:Type)->(ops:Array Oper)->Ann->List (Nat×Oper)->St->(St->Option R)->Option R
 | 0,_,_,_,_,_,_=>none
 | _+1,_,_,_,[],s,k=>k s
 | n+1,R,ops,an,(i,o)::l,s,k=>
  match o.guard with
  | some (j,want)=>match (ops[j]?).bind (·.dst) with
   | some g=>if mW s o then none else xl (s.tm g) (eZ E n R ops (rQ E o an) l (s.put o.dst .gone) k)
    ((s.tm g).truth.bind λc=>
    if c then(if want then A4 E an l (s.put (some g) (.d .bool (.bool true))) o λs'=>eZ E n R ops (rQ E o an) l s' k else eZ E n R ops (rQ E o an) l ((s.put (some g) (.d .bool (.bool true))).put o.dst .gone) k)
    else(if want then eZ E n R ops (rQ E o an) l ((s.put (some g) (.d .bool (.bool false))).put o.dst .gone) k else A4 E an l (s.put (some g) (.d .bool (.bool false))) o λs'=>eZ E n R ops (rQ E o an) l s' k))
   | none=>none
  | none=>
   if lJ E s i o l then
    let sp:=dt o.dst l
    match sp.2,o.dst with
    | (_,a)::l',some d=>
      Ng E s o λs1=>(s1.tm d).truth.bind λc=>
      (if c then eZ E n Bool ops .leaf sp.1 (s1.put (some d) (.d .bool (.bool true))) λs2=>qv E s2 a AV.truth
       else eZ E n Bool ops .leaf sp.1 (s1.put (some d) (.d .bool (.bool false))) λs2=>qv E s2 a AV.truth).bind λx=>
      eZ E n R ops an l' ((killD s1 (sp.1.map Prod.snd)).put a.dst (.d .bool (.bool x))) k
    | _,_=>none
   else if mW s o then none else A4 E an l s o λs'=>eZ E n R ops (rQ E o an) l s' k
def aW:Nat->List Oper->List (Nat×Oper)
 | _,[]=>[]
 | i,o::l=>(i,o)::aW (i+1) l
def gn(s:St):List Nat->St
 | []=>s
 | t::l=>gn (match s.tm t with
  | .mem a id=>match s.ob id with
   | some (.many u l)=>if a.beq u&&!(s.lkO.contains id) then{ s.setOb id none with tm:=λi=>if i=t then .d (.sl u) (.sl l) else s.tm i } else s
   | _=>s
  | _=>s) l
def cn:List (Nat×ShO)->List Nat
 | []=>[]
 | (id,.keep ..)::l=>id::cn l
 | (id,.lp ..)::l=>id::cn l
 | _::l=>cn l
mutual
def AV.same:AV->AV->Bool
 | .ptr t id p,.ptr t' id' p'=>t.beq t'&&decide (id=id')&&decide (p=p')
 | .mem t id,.mem t' id'=>t.beq t'&&decide (id=id')
 | .map kt vt id,.map kt' vt' id'=>kt.beq kt'&&vt.beq vt'&&decide (id=id')
 | .clo f l,.clo f' l'=>decide (f=f')&&adQ l l'
 | .yld id,.yld id'=>decide (id=id')
 | .sub sl t id p lo n,.sub sl' t' id' p' lo' n'=>decide (sl=sl')&&t.beq t'&&decide (id=id')&&decide (p=p')&&decide (lo=lo')&&decide (n=n')
 | _,_=>false
def adQ:List AV->List AV->Bool
 | [],[]=>true
 | a::l,a'::l'=>AV.same a a'&&adQ l l'
 | _,_=>false
end
def D.els:D->List D|.sl l=>l|_=>[]
mutual
def Sh.mk(b:Nat):Sh->Nat->List D->AV×Nat
 | .dv t,j,s=>(.d t (s.getD j (.bool false)),j+1)
 | .ow t,j,s=>(.own t (b+j) (s.getD j (.bool false)).els,j+1)
 | .same a,j,_=>(a,j)
 | .st ts l,j,s=>let r:=aeq b l j s;(.st ts r.1,r.2)
def aeq(b:Nat):List Sh->Nat->List D->List AV×Nat
 | [],j,_=>([],j)
 | h::l,j,s=>let r:=Sh.mk b h j s;let q:=aeq b l r.2 s;(r.1::q.1,q.2)
end
mutual
def Sh.dec(ob:Nat->Option Ob)(dead:List Nat):Sh->AV->Option (List D)
 | .dv t,a=>(adR ob t a).bind λx=>some [x]
 | .ow t,.own t' v l=>if t.beq t'&&!(dead.contains v) then some [.sl l] else none
 | .ow _,.nils=>some [.sl []]
 | .same a,a'=>if AV.same a a' then some [] else none
 | .st ts l,.st ts' l'=>if Ty.beqs ts ts' then aeo ob dead l l' else none
 | _,_=>none
def aeo(ob:Nat->Option Ob)(dead:List Nat):List Sh->List AV->Option (List D)
 | [],[]=>some []
 | h::l,a::l'=>(Sh.dec ob dead h a).bind λx=>(aeo ob dead l l').bind λy=>some (x++y)
 | _,_=>none
end
def AV.still:AV->AV
 | .d t x=>.d t x
 | .own t _ l=>.d (.sl t) (.sl l)
 | .fptr t x=>.fptr t x
 | _=>.undef
def Ob.still(t:Ty):Option Ob->Option Ob
 | some (.one a (.d u x))=>if t.beq a then some (.one a (.d u x)) else none
 | _=>none
def aef(p:Option Ex):Option Ob->Option Ob
 | some (.lp i _)=>some (.lp i p)
 | _=>none
mutual
def aet:Sh->AV->List Nat
 | .ow _,.own _ v _=>[v]
 | .st _ l,.st _ l'=>aeu l l'
 | _,_=>[]
def aeu:List Sh->List AV->List Nat
 | h::l,a::l'=>aet h a++aeu l l'
 | _,_=>[]
end
def aeA(b:Nat):List (Nat×Sh)->Nat->List D->(Nat->AV)->(Nat->AV)×Nat
 | [],j,_,f=>(f,j)
 | (t,h)::l,j,s,f=>let r:=Sh.mk b h j s;aeA b l r.2 s (λi=>if i=t then r.1 else f i)
def aez(b:Nat)(base:Nat->Option Ob):List (Nat×ShO)->Nat->List D->(Nat->Option Ob)->(Nat->Option Ob)
 | [],_,_,f=>f
 | (id,.one t h)::l,j,s,f=>let r:=Sh.mk b h j s;aez b base l r.2 s (λi=>if i=id then some (.one t r.1) else f i)
 | (id,.many t)::l,j,s,f=>aez b base l (j+1) s (λi=>if i=id then some (.many t (s.getD j (.bool false)).els) else f i)
 | (id,.mp c vt)::l,j,s,f=>aez b base l (j+1) s (λi=>if i=id then some (.mp c vt (s.getD j (.bool false)).els) else f i)
 | (id,.keep t _)::l,j,s,f=>aez b base l j s (λi=>if i=id then Ob.still t (base id) else f i)
 | (id,.lp p _)::l,j,s,f=>aez b base l j s (λi=>if i=id then aef p (base id) else f i)
 | (id,.fv a)::l,j,s,f=>aez b base l j s (λi=>if i=id then some (.fv a) else f i)
def Shape.mk'(h:Shape)(base:St)(s:List D)(lkS lkO:List Nat):St:=
 let b:=(base.fresh+1)*4096
 let r:=aeA b h.slots 0 s (λi=>if h.keepS.contains i then(base.tm i).still else .undef)
 { tm:=r.1,ob:=aez b base.ob h.objs r.2 s (λ_=>none),fresh:=base.fresh+1,dead:=[],nt:=base.nt,lkS,lkO }
def aey(s:St):List (Nat×Sh)->Option (List D)
 | []=>some []
 | (t,h)::l=>(Sh.dec s.ob s.dead h (s.tm t)).bind λx=>(aey s l).bind λy=>some (x++y)
def aex(s:St):List (Nat×ShO)->Option (List D)
 | []=>some []
 | (id,.one t h)::l=>match s.ob id with
  | some (.one b v)=>if t.beq b then(Sh.dec s.ob s.dead h v).bind λx=>(aex s l).bind λy=>some (x++y) else none
  | _=>none
 | (id,.many t)::l=>match s.ob id with
  | some (.many b v)=>if t.beq b then(aex s l).bind λy=>some (.sl v::y) else none
  | _=>none
 | (id,.mp e vt)::l=>match s.ob id with
  | some (.mp c d v)=>if e.beq c&&vt.beq d then(aex s l).bind λy=>some (.sl v::y) else none
  | _=>none
 | (id,.keep t _)::l=>match s.ob id with
  | some (.one b _)=>if t.beq b then aex s l else none
  | _=>none
 | (id,.lp p _)::l=>match s.ob id with
  | some (.lp _ f)=>if Bq p f then aex s l else none
  | _=>none
 | (id,.fv a)::l=>match s.ob id with
  | some (.fv v)=>if AV.same a v then aex s l else none
  | _=>none
def aeC(s:St):List (Nat×Sh)->List Nat
 | []=>[]
 | (t,h)::l=>aet h (s.tm t)++aeC s l
def aeB(s:St):List (Nat×ShO)->List Nat
 | []=>[]
 | (id,.one _ h)::l=>(match s.ob id with|some (.one _ v)=>aet h v|_=>[])++aeB s l
 | _::l=>aeB s l
mutual
def AV.old(n:Nat):AV->Bool
 | .ptr _ id _=>decide (id<n)
 | .mem _ id=>decide (id<n)
 | .map _ _ id=>decide (id<n)
 | .clo _ l=>adP n l
 | .yld id=>decide (id<n)
 | .sub _ _ id _ _ _=>decide (id<n)
 | _=>false
def adP(n:Nat):List AV->Bool
 | []=>true
 | a::l=>AV.old n a&&adP n l
end
mutual
def Sh.cnt:Sh->Nat
 | .dv _=>1
 | .ow _=>1
 | .same _=>0
 | .st _ l=>aen l
def aen:List Sh->Nat
 | []=>0
 | h::l=>Sh.cnt h+aen l
end
mutual
def Sh.fits:Ty->Sh->Bool
 | t,.dv t'=>t.beq t'
 | t,.ow e=>t.beq (.sl e)
 | _,.same _=>false
 | t,.st ts l=>t.beq (.st ts)&&Sh.fitss ts l
def Sh.fitss:List Ty->List Sh->Bool
 | [],[]=>true
 | t::ts,h::l=>Sh.fits t h&&Sh.fitss ts l
 | _,_=>false
end
mutual
def Sh.fine(n:Nat):Sh->Bool
 | .dv t=>ao t
 | .ow t=>ao t
 | .same a=>AV.old n a
 | .st ts l=>aO ts&&Sh.fitss ts l&&aep n l
def aep(n:Nat):List Sh->Bool
 | []=>true
 | h::l=>Sh.fine n h&&aep n l
end
def ShO.cnt:ShO->Nat
 | .one _ h=>h.cnt
 | .many _=>1
 | .mp ..=>1
 | .keep ..=>0
 | .lp ..=>0
 | .fv _=>0
def ShO.fine(n:Nat)(base:St)(id:Nat):ShO->Bool
 | .one t h=>Sh.fine n h&&Sh.fits t h
 | .many _=>true
 | .mp ..=>true
 | .keep _ c=>match base.tm c with|.ptr _ b _=>decide (id=b)&&decide (c<base.nt)|_=>false
 | .fv a=>AV.old n a&&kI a
 | .lp _ c=>(match base.tm c with|.yld b=>decide (id=b)|.ptr _ v []=>(match base.ob v with|some (.fv (.yld b))=>decide (id=b)|_=>false)|_=>false)&&decide (c<base.nt)
def aew:List (Nat×Sh)->Nat
 | []=>0
 | p::l=>p.2.cnt+aew l
def aev:List (Nat×ShO)->Nat
 | []=>0
 | p::l=>p.2.cnt+aev l
def Shape.good(h:Shape)(base:St):Bool:=
 cZ (h.slots.map (·.1))&&cZ (h.objs.map (·.1))&&(h.objs.all λp=>decide (p.1<(base.fresh+1)*4096)&&ShO.fine ((base.fresh+1)*4096) base p.1 p.2)&&h.slots.all (λp=>decide (p.1<base.nt)&&Sh.fine ((base.fresh+1)*4096) p.2)&&decide (aew h.slots+aev h.objs<=4096)
def Shape.dec(h:Shape)(base s:St):Option (List D):=
 if h.good base&&cZ (aeC s h.slots++aeB s h.objs) then(aey s h.slots).bind λx=>(aex s h.objs).bind λy=>some (x++y) else none
def oQ{α β:Type}(body:α->Option (Sum α β))(n:Nat):α->Option β:=
 Nat.rec (motive:=λ_=>α->Option β) (λ_=>none) (λ_ ih a=>match body a with
  | none=>none
  | some (.inl a')=>ih a'
  | some (.inr b)=>some b) n
def pX{α β:Type}(body:α->Option (Sum α β))(a:α):oQ body 0 a=none:=rfl
theorem jL{α β:Type}(body:α->Option (Sum α β))(n:Nat)(a:α):oQ body (n+1) a=match body a with
  | none=>none
  | some (.inl a')=>oQ body n a'
  | some (.inr b)=>some b:=rfl
theorem pW{α β:Type}{body:α->Option (Sum α β)}:∀ {n:Nat} {a:α} {b:β} (m:Nat),oQ body n a=some b->oQ body (n+m) a=some b
 | 0,_,_,_,h=>by simp[pX] at h
 | n+1,a,b,m,h=>by
  rw[show n+1+m=(n+m)+1 by omega]
  simp only[jL] at h ⊢;cases hb:body a with
  | none=>rw[hb] at h;simp at h
  | some x=>cases x with
   | inl a'=>rw[hb] at h;exact pW m h
   | inr c=>rw[hb] at h;exact h
open Classical in
def lw{α β:Type}(body:α->Option (Sum α β))(a:α):Option β:=
 if h:∃ n b,oQ body n a=some b then some (Classical.choose (Classical.choose_spec h)) else none
def nE{α β:Type}{body:α->Option (Sum α β)}{a:α}{b:β}(h:lw body a=some b):∃ n,oQ body n a=some b:=by
 unfold lw at h;split at h
 ·grind
 ·cases h
theorem jv{α β:Type}{body:α->Option (Sum α β)}{a:α}{b:β}{n:Nat}(h:oQ body n a=some b):lw body a=some b:=by have c:∃ n b,oQ body n a=some b:=⟨n,b,h⟩;unfold lw;rw[dif_pos c];have d:=Classical.choose_spec (Classical.choose_spec c);have e:=pW (Classical.choose c) h;have f:=pW n d;grind
def cF{α β:Type}{body:α->Option (Sum α β)}{a a':α}(h:body a=some (.inl a')):lw body a=lw body a':=by
 cases h2:lw body a' with
 | some b=> obtain⟨n,hn⟩:=nE h2;exact jv (n:=n+1) (by simp only[jL,h];exact hn)
 | none=>
  cases h3:lw body a with
  | none=>rfl
  | some b=>
   obtain⟨n,hn⟩:=nE h3;cases n with
   | zero=>simp[pX] at hn
   | succ n=> grind [jL,jv]
def cC{α β:Type}{body:α->Option (Sum α β)}{a:α}{b:β}(h:body a=some (.inr b)):lw body a=some b:=
 jv (n:=1) (by simp only[jL,h])
def s9(e:Ex):List (Ex×Shape)->Nat->Option (Nat×Shape)
 | [],_=>none
 | (a,h)::l,j=>if e.is a then some (j,h) else s9 e l (j+1)
def subset(l l':List Nat):Bool:=l.all λx=>l'.contains x
def lr{R:Type}(base:St)(k:Ex->St->Option R)(keepS a:List Nat):List (Ex×Shape)->Nat->Nat×List D->Option R
 | [],_,_=>none
 | [(e,h)],_,r=>if subset h.keepS keepS&&subset (cn h.objs) a then k e (h.mk' base r.2 base.lkS base.lkO) else none
 | (e,h)::l,j,r=>if subset h.keepS keepS&&subset (cn h.objs) a then(if r.1=j then k e (h.mk' base r.2 base.lkS base.lkO) else lr base k keepS a l (j+1) r) else none
def BR(base:St)(a:List (Ex×Shape))(e:Ex)(s:St):Option (Nat×List D):=(s9 e a 0).bind λq=>(q.2.dec base s).bind λv=>some (q.1,v)
def cH(ops:List Oper):Bool:=cZ (ops.filterMap (·.dst))&&(ops.all λo=>match o.dst with|some d=>decide (d<4096)|none=>true)&&ops.all λo=>match o.op with|.store ..=>o.dst.isNone|_=>true
def pN(E:Env)(ops:Array Oper)(n:Nat):Bool:=
 ((ops.toList.take n).all λo=>!(kG E o))&&Region.noSelect ops&&Region.lexHead .any ops (ops.size-n) n 0 (Array.replicate ops.size false)&&(decide (n=ops.size)||(decide (n<ops.size)&&Region.sinkB .any ops n&&Region.chainB .any ops n)) &&
 ((ops.toList.take n).all λo=>fY o||(match o.op with|.alloc _=>true|_=>false))&&(ops.toList.drop n).all λo=>o.guard.isNone&&(match o.op with|.pick ..=>false|_=>true)
def to(o:Oper):Bool:=match o.op with|.fieldAddr ..=>true|.load ..=>true|.build ..=>true|.alloc _=>true|.extract ..=>true|.move _=>true|.binOp ..=>true|.indexAddr ..=>true|.call c=>(match c.callee with|.builtin .len=>true|.builtin .max=>true|.builtin .min=>true|_=>false)|_=>false
def tq{R:Type}(E:Env)(ops:Array Oper)(n id i:Nat)(s:St)(K:AV->Option R):Option R:=
 match ops[i]? with
 | none=>none
 | some o=>if mW s o then none else if Region.waitsFor .any ops n i then qv E s o K else if to o then qv E (s.setOb id none) o K else none
def Nm{R:Type}(E:Env)(ops:Array Oper)(n id:Nat):Nat->Nat->St->(St->Option R)->Option R
 | 0,_,s,K=>K s
 | c+1,k,s,K=>tq E ops n id k s λv=>Nm E ops n id c (k+1) (s.put ((ops[k]?).bind (·.dst)) v) K
def tp(ops:Array Oper)(n:Nat):Bool:=
 match ops[n]? with
 | some o=>match o.op with
  | .store _ (.tmp p) (.tmp x)=>((List.range ops.size).all λj=>match (ops[j]?).bind (·.dst) with|some d=>!(decide (d=p)||decide (d=x))||Region.waitsFor .any ops n j|none=>true) &&
    ((ops.toList.take n).all λo=>(fY o||(match o.op with|.alloc _=>true|_=>false))&&o.guard.isNone)&&((ops.toList.drop n).all λo=>o.guard.isNone&&(match o.op with|.pick ..=>false|_=>true)) &&
    Region.noSelect ops&&Region.lexHead .any ops (ops.size-(n+1)) (n+1) 0 (Array.replicate ops.size false)&&(decide (n+1=ops.size)||(decide (n+1<ops.size)&&Region.sinkB .any ops (n+1)&&Region.chainB .any ops (n+1)))
  | _=>false
 | none=>false
def kj(ops:Array Oper)(n:Nat)(s:St):Nat:=match ops[n]? with
 | some o=>match o.op with
  | .store _ (.tmp p) _=>if ops.toList.any (λq=>match q.op,q.dst with|.alloc _,some d=>decide (d=p)|_,_=>false) then s.base+p else match s.tm p with
   | .ptr _ id _=>id
   | _=>0
  | _=>0
 | none=>0
def tn(ops:Array Oper)(n:Nat)(s:St):Option Nat:=match ops[n]? with
 | some o=>match o.op with
  | .store _ (.tmp p) _=>match s.tm p with
   | .ptr t id []=>if t.beq .fn then none else some id
   | _=>none
  | _=>none
 | none=>none
def jB(E:Env)(o:Oper):Bool:=(fY o||(match o.op with|.alloc _=>true|_=>false))&&!(kG E o)
def uz(ops:Array Oper):Nat->List Nat
 | 0=>[]
 | n+1=>let l:=uz ops n;l++[match ops[n]? with
  | some o=>o.after.toList.foldl (λm e=>if Region.binds .any e&&decide (e.on<n) then(m ||| 2^e.on) ||| l.getD e.on 0 else m) 0
  | none=>0]
def lH(E:Env)(ops:Array Oper)(i:Nat)(o:Oper):Nat->Nat->Bool
 | 0,_=>true
 | f+1,j=>match ops[j]? with
  | none=>true
  | some a=>if jB E a then(a.after.any (λe=>Region.binds .any e&&e.on==i)||o.apart ops a)&&lH E ops i o f (j+1) else true
def g8(E:Env)(ops:Array Oper):Bool:=
 let l:=uz ops ops.size
 (List.range ops.size).all λi=>match ops[i]? with
  | none=>true
  | some o=>(o.after.toList.all λe=>!(Region.binds .any e)||decide (e.on<i)) &&
   (if jB E o then lH E ops i o ops.size (i+1) else(List.range ops.size).all λj=>if j<i then Nat.testBit (l.getD i 0) j else decide (j=i)||Nat.testBit (l.getD j 0) i)
def ev(E:Env):Code->Ann->(R:Type)->St->(Ex->St->Option R)->Option R
 | .skip,_,_,s,k=>k .normal s
 | .label _,_,_,s,k=>k .normal s
 | .exit id,_,_,s,k=>k (.exit id) s
 | .ret,_,_,s,k=>k .ret s
 | .region _ ops dr,a,R,s,k=>
  let s1:=gf E ops.toList { gn s a.fz with fresh:=s.fresh+1 }
  if cH ops.toList&&(!dr||pN E ops (a.heads ops.size)) then eZ E (ops.size+1) R ops a.inner (aW 0 ops.toList) s1 (λs'=>k .normal s')
  else if cH ops.toList&&tp ops (a.heads ops.size) then Nm E ops (a.heads ops.size) (kj ops (a.heads ops.size) s1) (a.heads ops.size) 0 s1 λs2=>if tn ops (a.heads ops.size) s2=some (kj ops (a.heads ops.size) s1) then eZ E (ops.size+1) R ops a.inner ((aW 0 ops.toList).drop (a.heads ops.size)) s2 (λs'=>k .normal s') else none
  else if cH ops.toList&&(dr&&g8 E ops) then eZ E (ops.size+1) R ops a.inner (aW 0 ops.toList) s1 (λs'=>k .normal s')
  else none
 | .seq c d,.cut g l i a b,R,s,k=>
  (ev E c a (Nat×List D) { s with lkS:=l++s.lkS,lkO:=i++s.lkO } (BR s g)).bind λr=> lr s (λe s'=>match e with|.normal=>ev E d b R s' k|e=>k e s') l i g 0 r
 | .seq c d,a,R,s,k=>ev E c a.fst R s λe s'=>match e with
  | .normal=>ev E d a.snd R s' k
  | e=>k e s'
 | .cond c x y,a,R,s,k=>(s.opA c).truth.bind λt=>if t then ev E x a.fst R s k else ev E y a.snd R s k
 | .block id c,a,R,s,k=>ev E c a.fst R s λe s'=>match e with
  | .exit j=>if j=id then k .normal s' else k (.exit j) s'
  | e=>k e s'
 | .scope c,a,R,s,k=>ev E c a R s k
 | .rangeFunc f ps asg bdy,a,_,s,k=>YR E f ps asg bdy a s k
 | .loop c,.loop h g a,R,s,k=>
  (h.dec s s).bind λv0=>(E.lp (λv=>ev E c a (Sum (List D) (Nat×List D)) (h.mk' s v (h.keepS++s.lkS) (cn h.objs++s.lkO)) λe s'=>match e with
    | .normal=>(h.dec s s').bind λv'=>some (.inl v')
    | e=>(BR s g e s').bind λr=>some (.inr r)) v0).bind λr=>
   lr s k h.keepS (cn h.objs) g 0 r
 | _,_,_,_,_=>none
def HV(E:Env)(c:Code)(ann:Ann)(R:Type)(s:St)(k:Ex->St->Option R):Option R:=match ann with
 | .all b e d a=>(ev E c a (Nat×List D) { s with lkS:=e++s.lkS,lkO:=d++s.lkO } (BR s b)).bind λr=>lr s k e d b 0 r
 | ann=>ev E c ann R s k
def fX(a:List Ty)(args:List D)(i:Nat):AV:=
 match a[i]?,args[i]? with
 | some t,some x=>.d t x
 | _,_=>.undef
def Hj{R:Type}(E:Env)(s:St)(t:Ty)(k:D->Option R):ResultVar->Option R
 | .tmp i=>(adR s.ob t (s.tm i)).bind k
 | .cell i T=>(E.L T).bind λu=>match s.tm i with
  | .ptr b id p=>if u.beq b then(s.ob id).bind λo=>fZ o p λa=>(adR s.ob t a).bind k else none
  | _=>none
def qU{R:Type}(E:Env)(s:St):List Ty->List ResultVar->(List D->Option R)->Option R
 | [],[],k=>k []
 | t::b,r::a,k=>Hj E s t (λx=>qU E s b a λxs=>k (x::xs)) r
 | _,_,_=>none
def results(E:Env)(s:St)(a:Ty)(b:List ResultVar):Option D:=
 match b with
 | [r]=>Hj E s a some r
 | b=>match a with
  | .tup c=>qU E s c b λxs=>some (.tup xs)
  | _=>none
def YQ(E:Env)(fn:Func)(ann:Ann)(b:List Ty)(a:Ty)(args:List D):Option D:=
 match fn.body with
 | none=>none
 | some c=>HV E c ann D { tm:=fX b args,ob:=λ_=>none,fresh:=0,dead:=[],nt:=fn.ntmps,lkS:=[],lkO:=[] } λe s=>match e with
  | .exit _=>none
  | _=>results E s a fn.results.toList
mutual
theorem ct:∀ (t:Ty) (x:D),wt t x->ao t=true->x.flat.length=t.size
 | .int k,x,h,_=>by simp only[wt] at h;obtain⟨n,rfl⟩:=h;rfl
 | .bool,x,h,_=>by simp only[wt] at h;obtain⟨n,rfl⟩:=h;rfl
 | .str,x,h,_=>by simp only[wt] at h;obtain⟨n,rfl⟩:=h;rfl
 | .st ts,x,h,hn=>by simp only[wt] at h;obtain⟨l,rfl,h⟩:=h;simp only[D.flat,Ty.size];exact pz ts l h (by simpa [ao] using hn)
 | .arr n t,x,h,hn=>by
  simp only[wt] at h;obtain⟨l,rfl,rfl,h⟩:=h;simp only[D.flat,Ty.size];simp only[ao] at hn
  induction l with
  | nil=>simp[ad2]
  | cons y l ih=>
   simp only[ad2,zFa,zOa];rw[ct t y (h y s6) hn,ih (λx hx=>h x (by simp[hx]))]
   rw[zdb,z2c,zxc]
 | .sl t,x,h,_=>by simp only[wt] at h;obtain⟨l,rfl,_⟩:=h;rfl
 | .tup ts,_,_,h=>by simp[ao] at h
 | .fn,x,h,_=>by simp[wt] at h
theorem pz:∀ (ts:List Ty) (l:List D),eu ts l->aO ts=true->(ad2 l).length=aeN ts
 | [],l,h,_=>by simp only[eu] at h;subst h;rfl
 | t::ts,l,h,hn=>by simp only[eu] at h;obtain⟨d,l',rfl,h1,h2⟩:=h;simp only[aO,zaa] at hn;simp only[ad2,aeN,zFa];rw[ct t d h1 hn.1,pz ts l' h2 hn.2]
end
def cg(a b:List D):ad2 (a++b)=ad2 a++ad2 b:=by
 induction a with
 | nil=>rfl
 | cons x a ih=>simp only[zub,ad2,ih,zXa]
theorem aK{t:Ty}(hn:ao t=true):∀ (l:List D),(∀ x∈l,wt t x)->(ad2 l).length=l.length*t.size
 | [],_=>by simp[ad2]
 | y::l,h=>by simp only[ad2,zFa,zOa];rw[ct t y (h y s6) hn,aK hn l (λx hx=>h x (by simp[hx])),zdb,z2c,zxc]
theorem ck{l:List D}{i:Nat}{y:D}(h:l[i]?=some y):ad2 l=ad2 (l.take i)++(y.flat++ad2 (l.drop (i+1))):=by
 obtain⟨a,b⟩:=zna.1 h
 conv=>lhs;rw[<-zua i l,cg]
 rw[zpb a,b];rfl
def lY{l:List D}{i:Nat}{y z:D}(h:l[i]?=some y):ad2 (l.set i z)=ad2 (l.take i)++(z.flat++ad2 (l.drop (i+1))):=by
 obtain⟨b,c⟩:=zna.1 h;have a:(l.set i z)[i]?=some z:=by simp[b]
 rw[ck a,List.take_set_of_le (zka i),List.drop_set_of_lt (zAd i)]
theorem fg:∀ {b:List Ty} {l:List D} {i:Nat} {t:Ty},eu b l->b[i]?=some t->∃ y,l[i]?=some y/\wt t y
 | [],_,_,_,_,h=>by simp at h
 | u::b,l,i,t,h,a=>by
  simp only[eu] at h;obtain⟨d,l',rfl,h1,c⟩:=h;cases i with
  | zero=>simp at a;subst a;exact⟨d,rfl,h1⟩
  | succ i=>simp at a;obtain⟨y,e,f⟩:=fg c a;exact⟨y,by simpa using e,f⟩
theorem gA:∀ {a:List Ty} {l:List D},eu a l->l.length=a.length
 | [],l,h=>by simp_all [eu]
 | t::a,l,h=>by simp only[eu] at h;obtain⟨d,l',rfl,h1,b⟩:=h;simp[gA b]
theorem yh:∀ {b:List Ty} {l:List D} {i:Nat} {t:Ty} {z:D},eu b l->b[i]?=some t->wt t z->eu b (l.set i z)
 | [],_,_,_,_,_,h,_=>by simp at h
 | u::b,l,i,t,z,h,a,e=>by
  simp only[eu] at h;obtain⟨d,l',rfl,h1,c⟩:=h;cases i with
  | zero=>simp at a;subst a;simp only[List.set_cons_zero,eu];exact⟨z,l',rfl,e,c⟩
  | succ i=>simp at a;simp only[List.set_cons_succ,eu];exact⟨d,_,rfl,h1,yh c a e⟩
theorem pA:∀ {a:List Ty} {l:List D} (i:Nat),eu a l->eu (a.take i) (l.take i)
 | a,l,0,_=>by simp[eu]
 | [],l,i+1,h=>by simp_all [eu]
 | t::a,l,i+1,h=>by simp only[eu] at h;obtain⟨d,l',rfl,h1,b⟩:=h;simp only[zUb,eu];exact⟨d,_,rfl,h1,pA i b⟩
theorem bJ:∀ {b:List Ty} {i:Nat} {t:Ty},aO b=true->b[i]?=some t->ao t=true
 | [],_,_,_,h=>by simp at h
 | u::b,i,t,h,a=>by
  simp only[aO,zaa] at h;cases i with
  | zero=>simp at a;subst a;exact h.1
  | succ i=>simp at a;exact bJ h.2 a
theorem gQ:∀ {a:List Ty} (i:Nat),aO a=true->aO (a.take i)=true
 | a,0,_=>by simp[aO]
 | [],i+1,_=>by simp[aO]
 | u::a,i+1,h=>by simp only[aO,zaa] at h;simp only[zUb,aO,zaa];exact⟨h.1,gQ i h.2⟩
theorem dH:∀ (p:List Nat) {t u:Ty},ao t=true->aP t p=some u->ao u=true
 | [],t,u,h,hp=>by simp_all [aP,zda]
 | i::p,t,u,h,hp=>by
  cases t<;>simp only[aP] at hp
  case st ts=>
   cases hi:ts[i]? with
   | none=>rw[hi] at hp;cases hp
   | some v=>rw[hi] at hp;exact dH p (bJ (by simpa [ao] using h) hi) hp
  case arr n v=>exact dH p (by simpa [ao] using h) hp
  all_goals cases hp
theorem iG:∀ (p:List Nat) {t u:Ty} {x y:D},wt t x->ao t=true->aP t p=some u->x.get p=some y ->
  wt u y/\∃ a b,x.flat=a++(y.flat++b)/\a.length=aY t p
 | [],t,u,x,y,h,hn,hp,c=>by
  have d:t=u:=by simp_all [aP]
  simp only[D.get,zda] at c;subst d;subst c;exact⟨h,[],[],s6,by cases t<;>rfl⟩
 | i::p,t,u,x,y,h,hn,hp,c=>by
  simp only[D.get] at c;cases hf:x.fld i with
  | none=>rw[hf] at c;cases c
  | some z=>
   rw[hf] at c;have e:z.get p=some y:=c;cases t<;>simp only[aP] at hp
   case st ts=>
    cases hi:ts[i]? with
    | none=>rw[hi] at hp;cases hp
    | some v=>
     rw[hi] at hp;have d:aP v p=some u:=hp;simp only[wt] at h;obtain⟨l,rfl,hl⟩:=h;simp only[D.fld] at hf;obtain⟨m,j,f⟩:=fg hl hi;rw[hf] at j;cases j;simp only[ao] at hn;obtain⟨h1,a,b,k,g⟩:=iG p f (bJ hn hi) d e;refine⟨h1,ad2 (l.take i)++a,b++ad2 (l.drop (i+1)),?_,?_⟩
     ·grind [D.flat,ck,List.append_assoc]
     ·simp only[aY,zFa,g];rw[pz _ _ (pA i hl) (gQ i hn)]
      simp_all
   case arr n v=>
    simp only[wt] at h;obtain⟨l,rfl,hl,f⟩:=h;simp only[D.fld] at hf;simp only[ao] at hn;obtain⟨h1,a,b,k,g⟩:=iG p (f z (zbb hf)) hn hp e;refine⟨h1,ad2 (l.take i)++a,b++ad2 (l.drop (i+1)),?_,?_⟩
    ·grind [D.flat,ck,List.append_assoc]
    ·grind [aY,List.length_append,aK,List.mem_of_mem_take,Nat.min_eq_left,Nat.le_of_lt]
   all_goals cases hp
theorem pd:∀ (p:List Nat) {t u:Ty} {x y k:D},wt t x->ao t=true->aP t p=some u->x.set p y=some k->wt u y ->
  wt t k/\∃ a c b,x.flat=a++(c++b)/\k.flat=a++(y.flat++b)/\a.length=aY t p/\c.length=u.size
 | [],t,u,x,y,k,h,hn,hp,d,m=>by
  have g:t=u:=by simp_all [aP]
  simp only[D.set,zda] at d;subst g;subst d;exact⟨m,[],x.flat,[],s6,s6,by cases t<;>rfl,ct _ _ h hn⟩
 | i::p,t,u,x,y,k,h,hn,hp,d,m=>by
  cases t<;>simp only[aP] at hp
  case st ts=>
   cases hi:ts[i]? with
   | none=>rw[hi] at hp;cases hp
   | some v=>
    rw[hi] at hp;have g:aP v p=some u:=hp;simp only[wt] at h;obtain⟨l,rfl,hl⟩:=h;simp only[D.set] at d;obtain⟨z,f,j⟩:=fg hl hi;rw[f] at d;cases hs:D.set z p y with
    | none=>rw[show((some z).bind λz=>(D.set z p y).bind λe=>some (D.st (l.set i e)))=(D.set z p y).bind λe=>some (D.st (l.set i e)) from rfl,hs] at d;cases d
    | some e=>
     rw[show((some z).bind λz=>(D.set z p y).bind λe=>some (D.st (l.set i e)))=(D.set z p y).bind λe=>some (D.st (l.set i e)) from rfl,hs] at d;simp only[zba,zda] at d;subst d;simp only[ao] at hn;obtain⟨h1,a,c,b,o,q,r,s⟩:=pd p j (bJ hn hi) g hs m;refine⟨by simp only[wt];exact⟨_,rfl,yh hl hi h1⟩,ad2 (l.take i)++a,c,b++ad2 (l.drop (i+1)),?_,?_,?_,s⟩
     ·simp only[D.flat];rw[ck f,o];simp[zXa]
     ·simp only[D.flat];rw[lY f,q];simp[zXa]
     ·simp only[aY,zFa,r];rw[pz _ _ (pA i hl) (gQ i hn)];simp[List.getD,hi]
  case arr n v=>
   simp only[wt] at h;obtain⟨l,rfl,hl,j⟩:=h;simp only[D.set] at d;cases f:l[i]? with
   | none=>rw[f] at d;cases d
   | some z=>
    rw[f] at d;cases hs:D.set z p y with
    | none=>rw[show((some z).bind λz=>(D.set z p y).bind λe=>some (D.st (l.set i e)))=(D.set z p y).bind λe=>some (D.st (l.set i e)) from rfl,hs] at d;cases d
    | some e=>
     rw[show((some z).bind λz=>(D.set z p y).bind λe=>some (D.st (l.set i e)))=(D.set z p y).bind λe=>some (D.st (l.set i e)) from rfl,hs] at d;simp only[zba,zda] at d;subst d;simp only[ao] at hn;obtain⟨h1,a,c,b,o,q,r,s⟩:=pd p (j z (zbb f)) hn hp hs m;refine⟨?_,ad2 (l.take i)++a,c,b++ad2 (l.drop (i+1)),?_,?_,?_,s⟩
     ·simp only[wt];refine⟨_,rfl,by simpa using hl,λx hx=>?_⟩
      rcases zPc hx with h|h
      ·exact j x h
      ·rw[h];exact h1
     ·simp only[D.flat];rw[ck f,o];simp[zXa]
     ·simp only[D.flat];rw[lY f,q];simp[zXa]
     ·simp only[aY,zFa,r];rw[aK hn _ (λx hx=>j x (zZa hx))];have:=(zna.1 f).1;simp[zkb (zmc this)]
  all_goals cases hp
inductive CR(w:World)(S:Nat->Nat->Prop):D->Value->Prop
 | int (k:IntKind) (n:Int):CR w S (.int k n) (.int k n)
 | bool (b:Bool):CR w S (.bool b) (.bool b)
 | str (s:ByteArray):CR w S (.str s) (.string s)
 | sl (l:List D) (a:Option Addr) (cap b off:Nat) (c:Nat->Value) (ha:l=[]\/a=some ⟨b,off,none⟩) (hc:l.length<=cap)
   (h1:∀ i d,(ad2 l)[i]?=some d->S b (off+i)/\w.cell? ⟨b,off+i,none⟩=some (c i))
   (h2:∀ i d,(ad2 l)[i]?=some d->CR w S d (c i)):CR w S (.sl l) (.slice a l.length cap)
def CR.mono{w w':World}{S S':Nat->Nat->Prop}(hw:∀ b o,S b o->w'.cell? ⟨b,o,none⟩=w.cell? ⟨b,o,none⟩)(f:∀ b o,S b o->S' b o){d:D}{v:Value}(h:CR w S d v):CR w' S' d v:=by
 induction h with
 | int k n=>exact .int k n
 | bool b=>exact .bool b
 | str s=>exact .str s
 | sl l a cap b off c g hc h1 j ih=> exact .sl l a cap b off c g hc (λi d e=>⟨f _ _ (h1 i d e).1,by rw[hw _ _ (h1 i d e).1];exact(h1 i d e).2⟩) ih
def cL(w:World)(S:Nat->Nat->Prop)(a:List D)(cs:List Value):Prop:=a.length=cs.length/\∀ (i:Nat) (d:D) (c:Value),a[i]?=some d->cs[i]?=some c->CR w S d c
theorem cL.mono{w w':World}{S S':Nat->Nat->Prop}(hw:∀ b o,S b o->w'.cell? ⟨b,o,none⟩=w.cell? ⟨b,o,none⟩)(e:∀ b o,S b o->S' b o){d:List D}{v:List Value}(h:cL w S d v):cL w' S' d v:=
 ⟨h.1,λi d c h1 a=>(h.2 i d c h1 a).mono hw e⟩
def cL.nil{w:World}{S:Nat->Nat->Prop}:cL w S [] []:=⟨rfl,λi d c h=>by simp at h⟩
def cL.append{w:World}{S:Nat->Nat->Prop}{a b:List D}{c d:List Value}(h:cL w S a c)(k:cL w S b d):cL w S (a++b) (c++d):=by
 refine⟨by simp[h.1,k.1],λi x y hx e=>?_⟩
 rw[zOc] at hx e;by_cases hi:i<a.length
 ·rw[zja hi] at hx;rw[zja (h.1 ▸ hi)] at e;exact h.2 i x y hx e
 ·rw[zga hi] at hx;rw[zga (h.1 ▸ hi)] at e;rw[h.1] at hx;exact k.2 _ x y hx e
def cL.split{w:World}{S:Nat->Nat->Prop}{a b:List D}{cs:List Value}(h:cL w S (a++b) cs):cL w S a (cs.take a.length)/\cL w S b (cs.drop a.length):=by
 obtain⟨h1,d⟩:=h;rw[zFa] at h1;refine⟨⟨by simp;omega,λi x y hx c=>?_⟩,⟨by simp;omega,λi x y hx c=>?_⟩⟩
 ·grind
 ·grind
def cL.single{w:World}{S:Nat->Nat->Prop}{d:D}{v:Value}:cL w S [d] [v]↔CR w S d v:=by
 constructor
 ·intro h;exact h.2 0 d v rfl rfl
 ·intro h;refine⟨rfl,λi x y hx a=>?_⟩;all_goals grind
def cL.single'{w:World}{S:Nat->Nat->Prop}{d:D}{cs:List Value}(h:cL w S [d] cs):∃ v,cs=[v]/\CR w S d v:=by
 match cs,h with
 | [v],h=>exact⟨v,rfl,cL.single.1 h⟩
 | [],h=>simp[cL] at h
 | _::_::_,h=>simp[cL] at h
def pD(w:World)(S:Nat->Nat->Prop)(b off:Nat)(a:List D):Prop:=∃ cs,cL w S a cs/\∀ (i:Nat) (c:Value),cs[i]?=some c->S b (off+i)/\w.cell? ⟨b,off+i,none⟩=some c
theorem pD.mono{w w':World}{S S':Nat->Nat->Prop}(hw:∀ b o,S b o->w'.cell? ⟨b,o,none⟩=w.cell? ⟨b,o,none⟩)(e:∀ b o,S b o->S' b o){b off:Nat}{d:List D}(h:pD w S b off d):pD w' S' b off d:=by obtain⟨cs,h1,a⟩:=h;exact⟨cs,h1.mono hw e,λi c hc=>⟨e _ _ (a i c hc).1,by rw[hw _ _ (a i c hc).1];exact(a i c hc).2⟩⟩
def pD.part{w:World}{S:Nat->Nat->Prop}{b off:Nat}{x y z:List D}(h:pD w S b off (x++(y++z))):pD w S b (off+x.length) y:=by obtain⟨cs,h1,e⟩:=h;obtain⟨_,a⟩:=h1.split;obtain⟨d,_⟩:=a.split;refine⟨_,d,λi c hc=>?_⟩;grind
def CR.elems{w:World}{S:Nat->Nat->Prop}{l:List D}{v:Value}(h:CR w S (.sl l) v):∃ a cap b off,v=.slice a l.length cap/\(l=[]\/a=some ⟨b,off,none⟩)/\l.length<=cap/\pD w S b off (ad2 l):=by
 cases h with
 | sl _ a cap b off c f hc h1 g=>
  refine⟨a,cap,b,off,rfl,f,hc,(List.range (ad2 l).length).map c,⟨s6,λi d c' j e=>?_⟩,λi c' e=>?_⟩
  ·grind
  ·have k:=(zna.1 e).1
   simp_all
def adS{w:World}{S:Nat->Nat->Prop}{l:List D}{a:Option Addr}{cap b off:Nat}(g:l=[]\/a=some ⟨b,off,none⟩)(hc:l.length<=cap)(h:pD w S b off (ad2 l)):CR w S (.sl l) (.slice a l.length cap):=by
 obtain⟨cs,h1,f⟩:=h;refine .sl l a cap b off (λi=>cs.getD i undef) g hc (λi d e=>?_) (λi d e=>?_)
 ·have c:i<cs.length:=by rw[<-h1.1];exact(zna.1 e).1
  have:=f i _ (zea c);simpa [List.getD,zea c] using this
 ·have c:i<cs.length:=by rw[<-h1.1];exact(zna.1 e).1
  have:=h1.2 i d _ e (zea c);simpa [List.getD,zea c] using this
def RT:D->Value->Prop
 | .st _,v=>∃ cs,v=.agg cs
 | _,v=>∀ cs,v≠.agg cs
def fa(w:World)(S:Nat->Nat->Prop)(d:D)(v:Value):Prop:=RT d v/\cL w S d.flat v.cells.toList
def DR(w:World)(S:Nat->Nat->Prop):D->Value->Prop
 | .tup l,v=>∃ vs:List Value,v=.tuple vs.toArray/\l.length=vs.length/\∀ (i:Nat) (d:D) (u:Value),l[i]?=some d->vs[i]?=some u->fa w S d u
 | d,v=>fa w S d v
theorem fa.mono{w w':World}{S S':Nat->Nat->Prop}(hw:∀ b o,S b o->w'.cell? ⟨b,o,none⟩=w.cell? ⟨b,o,none⟩)(a:∀ b o,S b o->S' b o){d:D}{v:Value}(h:fa w S d v):fa w' S' d v:=⟨h.1,h.2.mono hw a⟩
theorem DR.mono{w w':World}{S S':Nat->Nat->Prop}(hw:∀ b o,S b o->w'.cell? ⟨b,o,none⟩=w.cell? ⟨b,o,none⟩)(a:∀ b o,S b o->S' b o){d:D}{v:Value}(h:DR w S d v):DR w' S' d v:=by
 cases d<;>simp only[DR] at h ⊢<;>first
  | exact h.mono hw a
  | (obtain⟨vs,h1,c,e⟩:=h;exact⟨vs,h1,c,λi d u f hu=>(e i d u f hu).mono hw a⟩)
def DR.of0{w:World}{S:Nat->Nat->Prop}{d:D}{v:Value}(h:fa w S d v):DR w S d v:=by
 cases d<;>simp only[DR]<;>first
  | exact h
  | (exfalso;obtain⟨c,e,h⟩:=cL.single' h.2;cases h)
def CR.int_inv{w:World}{S:Nat->Nat->Prop}{k:IntKind}{n:Int}{v:Value}(h:CR w S (.int k n) v):v=.int k n:=by cases h;rfl
def CR.bool_inv{w:World}{S:Nat->Nat->Prop}{n:Bool}{v:Value}(h:CR w S (.bool n) v):v=.bool n:=by cases h;rfl
def ar{v u:Value}(a:∀ cs,v≠.agg cs)(h:v.cells.toList=[u]):v=u:=by all_goals simp_all [Value.cells]
theorem fa.int_inv{w:World}{S:Nat->Nat->Prop}{k:IntKind}{n:Int}{v:Value}(h:fa w S (.int k n) v):v=.int k n:=by obtain⟨u,h1,a⟩:=cL.single' (d:=.int k n) h.2;rw[ar h.1 h1];exact a.int_inv
theorem fa.bool_inv{w:World}{S:Nat->Nat->Prop}{n:Bool}{v:Value}(h:fa w S (.bool n) v):v=.bool n:=by obtain⟨u,h1,a⟩:=cL.single' (d:=.bool n) h.2;rw[ar h.1 h1];exact a.bool_inv
def fa.sl_inv{w:World}{S:Nat->Nat->Prop}{l:List D}{v:Value}(h:fa w S (.sl l) v):CR w S (.sl l) v:=by obtain⟨u,h1,a⟩:=cL.single' (d:=.sl l) h.2;rw[ar h.1 h1];exact a
def CR.no_agg{w:World}{S:Nat->Nat->Prop}{d:D}{v:Value}(h:CR w S d v):(∀ cs,v≠.agg cs)/\(∀ vs,v≠.tuple vs)/\d.flat=[d]/\v.cells=#[v]:=by cases h<;>simp[D.flat,Value.cells]
def aec{w:World}{S:Nat->Nat->Prop}{d:D}{v:Value}(h:CR w S d v):fa w S d v:=by
 obtain⟨h1,_,a,b⟩:=h.no_agg;refine⟨?_,?_⟩
 ·cases h<;>simp[RT]
 ·rw[a,b];exact cL.single.2 h
structure Cx where
 w:World
 S:Nat->Nat->Prop
 γ:Nat->Option Nat
 β:Nat->Option (Nat×Nat)
 ob:Nat->Option Ob
 dead:List Nat
def kW(w:World)(b:Nat):Option Nat:=(bO w b).map (·.size)
def ci:Ob->List Nat->Nat
 | .one t _,p=>aY t p
 | .many t _,i::p=>i*t.size+aY t p
 | .many ..,[]=>0
 | .mp ..,_=>0
 | .lp ..,_=>0
 | .fv _,_=>0
def tok(c:Cx)(t:Ty)(v:Nat)(l:List D)(a:Option Addr)(cap:Nat):Prop:=
 v ∉ c.dead->(a=none/\cap=0)\/∃ b off,a=some ⟨b,off,none⟩/\c.β v=some (b,off+l.length*t.size)/\∃ n,kW c.w b=some n/\off+cap*t.size<=n/\off=0
mutual
def AC(c:Cx):AV->List Value->Prop
 | .d t x,cs=>wt t x/\ao t=true/\cL c.w c.S x.flat cs
 | .own t v l,cs=>ao t=true/\(∀ x∈l,wt t x)/\∃ a cap,cs=[.slice a l.length cap]/\CR c.w c.S (.sl l) (.slice a l.length cap)/\tok c t v l a cap
 | .nils,cs=>cs=[.slice none 0 0]
 | .ptr t id p,cs=>∃ b off,cs=[.pointer (some ⟨b,off,none⟩)]/\c.γ id=some b/\∀ o,c.ob id=some o->eC o p=some t/\off=ci o p
 | .fptr t x,cs=>wt t x/\ao t=true/\∃ b off,cs=[.pointer (some ⟨b,off,none⟩)]/\pD c.w c.S b off x.flat
 | .mem t id,cs=>ao t=true/\∃ b,c.γ id=some b/\∀ o,c.ob id=some o->∃ l cap,o=.many t l/\l.length<=cap/\cs=[.slice (some ⟨b,0,none⟩) l.length cap]
 | .st ts l,cs=>aO ts=true/\AV.fitss ts l=true/\il c l cs
 | .clo f l,cs=>∃ caps:List Value,cs=[.func (.func f) #[] caps.toArray]/\mN c l caps
 | .map kt vt id,cs=>∃ b,cs=[.map (some b)]/\c.γ id=some b/\ao kt=true/\ao vt=true/\∀ o,c.ob id=some o->∃ l,o=.mp kt vt l
 | .sub sl t id p lo n,cs=>ao t=true/\∃ b off cap,cs=[if sl then .slice (some ⟨b,off,none⟩) n cap else .pointer (some ⟨b,off,none⟩)]/\c.γ id=some b/\∀ o,c.ob id=some o->∃ m,eC o p=some (.arr m t)/\lo+n<=m/\off=ci o p+lo*t.size
 | .yld id,cs=>∃ L,cs=[.func (.yield L) #[] #[]]/\c.γ id=some L
 | .gone,_=>True
 | .undef,_=>True
 | .tpo ..,_=>False
def il(c:Cx):List AV->List Value->Prop
 | [],cs=>cs=[]
 | a::l,cs=>∃ c1 c2,cs=c1++c2/\AC c a c1/\il c l c2
def mN(c:Cx):List AV->List Value->Prop
 | [],cs=>cs=[]
 | a::l,cs=>∃ v c2,cs=v::c2/\AC c a [v]/\mN c l c2
end
def AR(c:Cx):AV->Value->Prop
 | .gone,v=>v=undef
 | .d t x,v=>(ao t=true/\wt t x/\fa c.w c.S x v)\/∃ b,t=.tup b/\aO b=true/\wt t x/\DR c.w c.S x v
 | .undef,_=>True
 | .tpo t v b y,x=>∃ l e v0 vs,y=.tup (.sl l::e)/\x=.tuple (v0::vs).toArray/\(∀ cs,v0≠.agg cs)/\AC c (.own t v l) v0.cells.toList/\aO b=true/\eu b e/\vs.length=e.length/\∀ (i:Nat) (d:D) (u:Value),e[i]?=some d->vs[i]?=some u->fa c.w c.S d u
 | .st b l,v=>(∃ cs,v=.agg cs)/\AC c (.st b l) v.cells.toList
 | a,v=>(∀ cs,v≠.agg cs)/\AC c a v.cells.toList
structure Cx.le(c c':Cx):Prop where
 cell:∀ b o,c.S b o->c'.w.cell? ⟨b,o,none⟩=c.w.cell? ⟨b,o,none⟩
 S:∀ b o,c.S b o->c'.S b o
 γ:∀ id b,c.γ id=some b->c'.γ id=some b
 ob:∀ id o,c'.ob id=some o->(∃ b,c.γ id=some b)->∃ o',c.ob id=some o'/\(∀ p,eC o p=eC o' p/\ci o p=ci o' p)/\(∀ t l,o'=.many t l->∃ l',o=.many t l'/\l'.length=l.length)/\(∀ kt vt l,o'=.mp kt vt l->∃ l',o=.mp kt vt l')
 β:∀ v,v ∉ c'.dead->v ∉ c.dead/\∀ b e,c.β v=some (b,e)->c'.β v=some (b,e)/\∀ n,kW c.w b=some n->kW c'.w b=some n
mutual
theorem AC.mono{c c':Cx}(h:c.le c'):∀ (a:AV) (cs:List Value),AC c a cs->AC c' a cs
 | .d t x,cs,k=>by simp only[AC] at k ⊢;exact⟨k.1,k.2.1,k.2.2.mono h.cell h.S⟩
 | .own t v l,cs,k=>by
  simp only[AC] at k ⊢;obtain⟨k0,k1,a,cap,rfl,k2,k3⟩:=k;refine⟨k0,k1,a,cap,rfl,k2.mono h.cell h.S,λhd=>?_⟩;obtain⟨h1,h2⟩:=h.β v hd;rcases k3 h1 with h3|⟨b,off,h3,h4,n,h5,h6⟩
  ·exact .inl h3
  ·exact .inr ⟨b,off,h3,(h2 _ _ h4).1,n,(h2 _ _ h4).2 n h5,h6⟩
 | .nils,cs,k=>by simpa only[AC] using k
 | .ptr t id p,cs,k=>by
  simp only[AC] at k ⊢;obtain⟨b,off,rfl,k1,k2⟩:=k;refine⟨b,off,rfl,h.γ _ _ k1,λo ho=>?_⟩;obtain⟨o',h1,h2,_⟩:=h.ob id o ho ⟨b,k1⟩
  simp_all
 | .fptr t x,cs,k=>by simp only[AC] at k ⊢;obtain⟨k1,k0,b,off,rfl,k2⟩:=k;exact⟨k1,k0,b,off,rfl,k2.mono h.cell h.S⟩
 | .mem t id,cs,k=>by simp only[AC] at k ⊢;obtain⟨k0,b,k1,k2⟩:=k;refine⟨k0,b,h.γ _ _ k1,λo ho=>?_⟩;obtain⟨o',h1,_,h3,_⟩:=h.ob id o ho ⟨b,k1⟩;grind
 | .st ts l,cs,k=>by simp only[AC] at k ⊢;exact⟨k.1,k.2.1,il.mono h l cs k.2.2⟩
 | .clo f l,cs,k=>by simp only[AC] at k ⊢;obtain⟨caps,rfl,k1⟩:=k;exact⟨caps,rfl,mN.mono h l caps k1⟩
 | .map kt vt id,cs,k=>by simp only[AC] at k ⊢;obtain⟨b,e,k1,k2,k3,k4⟩:=k;refine⟨b,e,h.γ _ _ k1,k2,k3,λo ho=>?_⟩;obtain⟨o',h1,_,_,h3⟩:=h.ob id o ho ⟨b,k1⟩;grind
 | .sub sl t id p lo n,cs,k=>by
  simp only[AC] at k ⊢;obtain⟨k0,b,off,cap,rfl,k1,k2⟩:=k;refine⟨k0,b,off,cap,rfl,h.γ _ _ k1,λo ho=>?_⟩;obtain⟨o',h1,h2,_⟩:=h.ob id o ho ⟨b,k1⟩
  simp_all
 | .yld id,cs,k=>by simp only[AC] at k ⊢;obtain⟨L,rfl,k1⟩:=k;exact⟨L,rfl,h.γ _ _ k1⟩
 | .gone,cs,k=>by simp[AC]
 | .undef,cs,k=>by simp[AC]
 | .tpo ..,cs,k=>by simp only[AC] at k
theorem il.mono{c c':Cx}(h:c.le c'):∀ (l:List AV) (cs:List Value),il c l cs->il c' l cs
 | [],cs,k=>by simpa only[il] using k
 | a::l,cs,k=>by simp only[il] at k ⊢;obtain⟨c1,c2,rfl,k1,k2⟩:=k;exact⟨c1,c2,rfl,AC.mono h a c1 k1,il.mono h l c2 k2⟩
theorem mN.mono{c c':Cx}(h:c.le c'):∀ (l:List AV) (cs:List Value),mN c l cs->mN c' l cs
 | [],cs,k=>by simpa only[mN] using k
 | a::l,cs,k=>by simp only[mN] at k ⊢;obtain⟨c1,c2,rfl,k1,k2⟩:=k;exact⟨c1,c2,rfl,AC.mono h a _ k1,mN.mono h l c2 k2⟩
end
theorem AR.mono{c c':Cx}(h:c.le c'){a:AV}{v:Value}(k:AR c a v):AR c' a v:=by
 cases a<;>simp only[AR] at k ⊢
 case d t x=>
  rcases k with⟨b,e,f⟩|⟨g,b,z,e,f⟩
  ·exact .inl ⟨b,e,f.mono h.cell h.S⟩
  ·exact .inr ⟨g,b,z,e,f.mono h.cell h.S⟩
 case tpo t v g y=> obtain⟨l,A,v0,vs,j,m,n,o,p,q,r,s⟩:=k;exact⟨l,A,v0,vs,j,m,n,AC.mono h _ _ o,p,q,r,λi d u h1 w=>(s i d u h1 w).mono h.cell h.S⟩
 all_goals first|exact⟨k.1,AC.mono h _ _ k.2⟩|exact k
def iA(c:Cx)(a vt:Ty):Nat->List D->List MapEntry->Prop
 | _,[],[]=>True
 | j,x::l,e::es=>(e.born=j/\∃ k v,x=.st [k,v]/\wt a k/\wt vt v/\fa c.w c.S k e.key/\fa c.w c.S v e.val)/\iA c a vt (j+1) l es
 | _,_,_=>False
def se(c:Cx):AV->Value->Prop
 | .ptr _ id [],v=>∃ b,v=.pointer (some ⟨b,0,none⟩)/\c.γ id=some b
 | _,_=>False
def mO(c:Cx):List AV->List Value->Prop
 | [],[]=>True
 | a::l,v::vs=>se c a v/\mO c l vs
 | _,_=>False
def fi(c:Cx):AV->Value->Prop
 | .d t x,v=>AR c (.d t x) v
 | .fptr t x,v=>AR c (.fptr t x) v
 | .ptr t id p,v=>se c (.ptr t id p) v
 | .clo f l,v=>∃ caps:List Value,v=.func (.func f) #[] caps.toArray/\mO c l caps
 | .yld id,v=>AR c (.yld id) v
 | .map a vt id,v=>∃ b,v=.map (some b)/\c.γ id=some b/\ao a=true/\ao vt=true
 | _,_=>True
def se.mono{c c':Cx}(d:∀ id b,c.γ id=some b->c'.γ id=some b){a:AV}{v:Value}(k:se c a v):se c' a v:=by unfold se at k ⊢;all_goals grind
theorem mO.mono{c c':Cx}(d:∀ id b,c.γ id=some b->c'.γ id=some b):∀ {l:List AV} {vs:List Value},mO c l vs->mO c' l vs
 | [],[],_=>trivial
 | [],_::_,k=>k.elim
 | _::_,[],k=>k.elim
 | a::l,v::vs,k=>⟨k.1.mono d,mO.mono d k.2⟩
theorem fi.mono{c c':Cx}(g:∀ b o,c.S b o->c'.w.cell? ⟨b,o,none⟩=c.w.cell? ⟨b,o,none⟩)(m:∀ b o,c.S b o->c'.S b o)(j:∀ id b,c.γ id=some b->c'.γ id=some b){a:AV}{v:Value}(k:fi c a v):fi c' a v:=by
 cases a<;>simp only[fi] at k ⊢
 case d t x=>
  simp only[AR] at k ⊢;rcases k with⟨h,i,q⟩|⟨s,h,n,i,q⟩
  ·exact .inl ⟨h,i,q.mono g m⟩
  ·exact .inr ⟨s,h,n,i,q.mono g m⟩
 case fptr t x=> simp only[AR,AC] at k ⊢;obtain⟨r,h,n,b,off,e,i⟩:=k;exact⟨r,h,n,b,off,e,i.mono g m⟩
 case ptr t id p=>exact k.mono j
 case clo f l=> obtain⟨caps,e,h⟩:=k;exact⟨caps,e,h.mono j⟩
 case yld id=> simp only[AR,AC] at k ⊢;obtain⟨h,L,e,i⟩:=k;exact⟨h,L,e,j _ _ i⟩
 case map kt vt id=> obtain⟨b,e,h,i⟩:=k;exact⟨b,e,j _ _ h,i⟩
def AQ:Ex->Code
 | .normal=>.skip
 | .exit id=>.exit id
 | .ret=>.ret
def LpS(i:LpI)(r:Loop):Prop:=r.tmps.size=i.nt/\r.params.toList=i.ps/\r.assign=i.asg/\r.body=i.bdy
def LpD:Option Ex->Loop->Prop
 | none,r=>r.state=.ready/\r.pending=none
 | some e,r=>r.state=.done/\r.pending=some (AQ e)
def AE(r r':Loop):Prop:=r'.tmps=r.tmps/\r'.params=r.params/\r'.assign=r.assign/\r'.body=r.body
def jd(w w':World)(b:Nat):Prop:=w'.heap[b]?=w.heap[b]?\/∃ r r',w.heap[b]?=some (Obj.loop r)/\w'.heap[b]?=some (Obj.loop r')/\AE r r'
def jd.refl(w:World)(b:Nat):jd w w b:=.inl rfl
theorem jd.trans{w w1 i:World}{b:Nat}(h:jd w w1 b)(k:jd w1 i b):jd w i b:=by
 rcases h with h|⟨r,r1,h1,e,a⟩<;>rcases k with k|⟨r',g,d,f,c⟩
 ·exact .inl (k.trans h)
 ·exact .inr ⟨r',g,h.symm.trans d,f,c⟩
 ·exact .inr ⟨r,r1,h1,k.trans e,a⟩
 ·rw[e] at d;cases d;exact .inr ⟨r,g,h1,f,c.1.trans a.1,c.2.1.trans a.2.1,c.2.2.1.trans a.2.2.1,c.2.2.2.trans a.2.2.2⟩
def jd.row{w w':World}{b:Nat}(h:jd w w' b){cs:Array Value}(a:bO w b=some cs):w'.heap[b]?=w.heap[b]?:=by
 rcases h with h|⟨r,r',h1,_,_⟩
 ·exact h
 ·simp[bO,h1] at a
def da(w w':World):Prop:=∀ b:Nat,(w.heap[b]?=some (Obj.deferred (some []))->w'.heap[b]?=some (Obj.deferred (some [])))/\((∃ r,w.heap[b]?=some (Obj.loop r))->∃ r,w'.heap[b]?=some (Obj.loop r))
def da.refl(w:World):da w w:=λ_=>⟨id,id⟩
def da.trans{w w1 c:World}(h:da w w1)(k:da w1 c):da w c:=λb=>⟨λa=>(k b).1 ((h b).1 a),λa=>(k b).2 ((h b).2 a)⟩
def cB(lo:Nat)(w:World):Nat->List Deferred->Prop
 | _,[]=>True
 | a,d::l=>∃ K,d={ target:=.collected K,args:=#[] }/\lo<=K/\K<a/\w.heap[K]?=some (Obj.deferred (some []))/\cB lo w K l
theorem cB.mono{lo c:Nat}{w w':World}(b:c<=lo)(h:da w w'):∀ {l:List Deferred} {e a:Nat},e<=a->cB lo w e l->cB c w' a l
 | [],_,_,_,_=>trivial
 | d::l,e,a,k,⟨K,h1,f,g,i,j⟩=>⟨K,h1,zNa b f,zQa g k,(h K).1 i,cB.mono b h (zka K) j⟩
theorem cB.append{lo mid:Nat}{w:World}(hm:lo<=mid):∀ {l l':List Deferred} {a:Nat},mid<=a->cB mid w a l->cB lo w mid l'->cB lo w a (l++l')
 | [],l',a,c,_,h=>cB.mono (zka _) (da.refl w) c h
 | d::l,l',a,c,⟨K,h1,b,e,f,g⟩,h=>⟨K,h1,zNa hm b,e,f,cB.append hm b g h⟩
def j6(l:List Nat)(a:Act)(w:World)(a':Act)(w':World):Prop:=da w w'/\∃ m,a'.defers=m++a.defers/\cB w.heap.size w' w'.heap.size m/\(4095∈l->m=[])
def j6.same{l:List Nat}{a a':Act}{w w':World}(b:a'.defers=a.defers)(h:da w w'):j6 l a w a' w':=⟨h,[],by simpa using b,trivial,λ_=>rfl⟩
def j6.less{l l':List Nat}{a a':Act}{w w':World}(hl:∀ i∈l',i∈l)(h:j6 l a w a' w'):j6 l' a w a' w':=by obtain⟨q1,m1,b,p1,d⟩:=h;exact⟨q1,m1,b,p1,λc=>d (hl _ c)⟩
theorem j6.trans{l:List Nat}{a a1 a2:Act}{w w1 b:World}(h:j6 l a w a1 w1)(k:j6 l a1 w1 a2 b)(h1:w.heap.size<=w1.heap.size)(g:w1.heap.size<=b.heap.size):j6 l a w a2 b:=by
 obtain⟨q1,m1,e,p1,j⟩:=h;obtain⟨d,m2,f,i,z2⟩:=k;refine⟨q1.trans d,m2++m1,by rw[f,e,zXa],?_,λc=>by rw[j c,z2 c];rfl⟩
 exact cB.append h1 g i (p1.mono (zka _) d (zka _))
def bG{a:Act}{d:Option Nat}{v:Value}:(a.put d v).defers=a.defers:=by cases d<;>rfl
def fN(c:Cx)(b:Nat):Ob->Prop
 | .one t v=>ao t=true/\AV.fits t v=true/\(∀ o,¬ c.S b o)/\∃ cs:List Value,bO c.w b=some cs.toArray/\AC c v cs/\cs.length=t.size
 | .many t l=>ao t=true/\(∀ x∈l,wt t x)/\(∀ o,¬ c.S b o)/\∃ cs d:List Value,bO c.w b=some (cs++d).toArray/\cL c.w c.S (ad2 l) cs
 | .mp a vt l=>ao a=true/\ao vt=true/\(∀ o,¬ c.S b o)/\∃ es:Array MapEntry,c.w.heap[b]?=some (.map es l.length)/\iA c a vt 0 l es.toList
 | .fv v=>(∀ o,¬ c.S b o)/\∃ x:Value,bO c.w b=some #[x]/\fi c v x/\Value.oneCell' x=true
 | .lp i p=>∃ r:Loop,c.w.heap[b]?=some (Obj.loop r)/\LpS i r/\(∀ t,t<i.nt->fi c (i.caps t) (r.tmps.getD t undef))/\LpD p r
structure Root where
 w:World
 S0:Nat->Nat->Prop
 sh:Nat->Prop
abbrev Root.heap(r:Root):Array Obj:=r.w.heap
def Root.Old(r:Root)(b:Nat):Prop:=b<r.heap.size/\¬ r.sh b
structure kU(r:Root)(w:World):Prop where
 tape:w.tape=r.w.tape
 os:w.os=r.w.os
 output:w.output=r.w.output
 sz:r.heap.size<=w.heap.size
 dr:r.w.drawn<=w.drawn
 old:∀ b,r.Old b->w.heap[b]?=r.w.heap[b]?
structure Rp(w0:Root)(S:Nat->Nat->Prop)(γ:Nat->Option Nat)(β:Nat->Option (Nat×Nat))(s:St)(a:Act)(w:World):Prop where
 ext:kU w0 w
 tms:∀ t,t<a.tmps.size->AR ⟨w,S,γ,β,s.ob,s.dead⟩ (s.tm t) (a.tmps.getD t undef)
 nt:a.tmps.size=s.nt
 tmu:∀ t,s.nt<=t->s.tm t=.undef
 obs:∀ id o b,s.ob id=some o->γ id=some b->fN ⟨w,S,γ,β,s.ob,s.dead⟩ b o
 γn:∀ id b,γ id=some b->¬ w0.Old b/\b<w.heap.size
 γi:∀ id id' b,γ id=some b->γ id'=some b->id=id'
 γf:∀ id,s.base+4096<=id->γ id=none
 βn:∀ v b e,v ∉ s.dead->β v=some (b,e)->¬ w0.Old b/\b<w.heap.size/\∀ o,e<=o->¬ S b o
 βi:∀ v v' b e e',v ∉ s.dead->v' ∉ s.dead->β v=some (b,e)->β v'=some (b,e')->v=v'
 βγ:∀ v id b e,v ∉ s.dead->β v=some (b,e)->γ id≠some b
 βf:∀ v,s.base+4096<=v->β v=none
 Sb:∀ b o,S b o->b<w.heap.size
 So:∀ b o,S b o->w0.Old b->w0.S0 b o
structure Fm(s:St)(S:Nat->Nat->Prop)(γ:Nat->Option Nat)(a:Act)(w:World)(S':Nat->Nat->Prop)(γ':Nat->Option Nat)(a':Act)(w':World):Prop where
 sub:∀ b o,S b o->S' b o
 cell:∀ b o,S b o->w'.cell? ⟨b,o,none⟩=w.cell? ⟨b,o,none⟩
 slots:∀ t∈s.lkS,a'.tmps.getD t undef=a.tmps.getD t undef
 objs:∀ id∈s.lkO,∀ b,γ id=some b->γ' id=some b/\jd w w' b
 sz:w.heap.size<=w'.heap.size
 gam:∀ id b,γ id=some b->γ' id=some b
 dfs:j6 s.lkO a w a' w'
structure Sk(s s':St):Prop where
 lkS:s'.lkS=s.lkS
 lkO:s'.lkO=s.lkO
 nt:s'.nt=s.nt
def Sk.refl(s:St):Sk s s:=⟨rfl,rfl,rfl⟩
theorem Sk.trans{a b c:St}(h:Sk a b)(k:Sk b c):Sk a c:=⟨k.lkS.trans h.lkS,k.lkO.trans h.lkO,k.nt.trans h.nt⟩
def cW:Ty->Bool
 | .st _=>true
 | .arr _ _=>true
 | _=>false
mutual
def Ty.high:Ty->Nat
 | .st l=>aeM l+1
 | .arr _ t=>t.high+1
 | .sl t=>t.high+1
 | .tup l=>aeM l+1
 | _=>1
def aeM:List Ty->Nat
 | []=>0
 | t::l=>max t.high (aeM l)
end
def DQ:D->Value->Bool
 | .int k n,.int d e=>decide (k=d)&&decide (n=e)
 | .bool b,.bool c=>b==c
 | .str s,.string s'=>decide (s=s')
 | .sl l,.slice a len cap=>l.isEmpty&&a.isNone&&decide (len=0)&&decide (cap=0)
 | _,_=>false
def cQ:List D->List Value->Bool
 | [],[]=>true
 | d::l,v::l'=>DQ d v&&cQ l l'
 | _,_=>false
def oO(P:Program)(t:TypeId)(ty:Ty):Bool:=
 match P.info? t with
 | some i=>decide (i.size=ty.size)&&decide (i.bytes<=16384)&&decide (i.size<=4096)&&(match i.zero with|some z=>cQ (az ty).flat z.cells.toList&&(match z with|.agg _=>cW ty|_=>!cW ty)|none=>false)
 | none=>false
mutual
def bL(P:Program):Ty->TypeId->Bool
 | .int k,t=>oO P t (.int k)&&(match P.underlying t with|some (.int k')=>decide (k=k')|_=>false)
 | .bool,t=>oO P t .bool&&(match P.underlying t with|some .bool=>true|_=>false)
 | .str,t=>oO P t .str&&(match P.underlying t with|some .string=>true|_=>false)
 | .st ts,t=>oO P t (.st ts)&&!P.stoodInHeld t&&!P.eqGuardType P.depth t&&(match P.underlying t with|some (.struct fs)=>fU P ts fs.toList 0|_=>false)
 | .arr n e,t=>oO P t (.arr n e)&&!P.eqGuardType P.depth t&&(match P.underlying t with|some (.array m u)=>decide (m=n)&&bL P e u|_=>false)
 | .sl e,t=>oO P t (.sl e)&&(match P.underlying t with|some (.slice u)=>bL P e u|_=>false)
 | _,_=>false
def fU(P:Program):List Ty->List Field->Nat->Bool
 | [],[],_=>true
 | t :: ts, f :: fs, off => decide (f.offset = off) && decide (f.name ≠ "_") && decide (0 < t.size) && bL P t f.type && fU P ts fs (off + t.size)
 | _,_,_=>false
end
def KH(P:Program)(t:TypeId):Bool:=
 (match P.info? t with
 | some i=>decide (i.size=1)&&decide (i.bytes<=16384)&&(match i.zero with|some z=>decide (z.cells.toList.length=1)&&z.oneCell'|none=>false)
 | none=>false)&&(match P.underlying t with|some (.struct _)=>false|some (.array _ _)=>false|some _=>true|none=>false)
def HZ(P:Program)(a:List Ty)(c:Ty)(f:FuncId)(xs:List D)(y:D):Prop:=
 ∀ (w:World) (S:Nat->Nat->Prop) (vs:List Value),(∀ b o,S b o->b<w.heap.size)->eu a xs->vs.length=xs.length->(∀ (i:Nat) (x:D) (v:Value),xs[i]?=some x->vs[i]?=some v->fa w S x v) ->
  Calls P f vs.toArray w λe w'=>∃ v,e=.returned v/\(∃ os d,w.drawn<=d/\w'=grown w os d)/\wt c y/\DR w' (λb o=>S b o\/(w.heap.size<=b/\b<w'.heap.size)) y v
def MF(w:World)(S:Nat->Nat->Prop)(x:D)(b:Nat):Prop:=(∀ o,¬ S b o)/\∃ cs:List Value,bO w b=some cs.toArray/\cL w S x.flat cs
def En(b:Nat):Value:=.pointer (some ⟨b,0,none⟩)
def OE(P:Program)(c:List Ty)(g:Ty)(f:FuncId)(xs:List D)(y:D)(k:Nat):Prop:=
 ∀ (w:World) (S:Nat->Nat->Prop) (vs:List Value) (a:List Nat),(∀ b o,S b o->b<w.heap.size)->eu c xs->a.length=k->vs.length+k=xs.length->(∀ (i j b:Nat),a[i]?=some b->a[j]?=some b->i=j) ->
  (∀ (i:Nat) (x:D) (v:Value),xs[i]?=some x->vs[i]?=some v->fa w S x v)->(∀ (i:Nat) (x:D) (b:Nat),xs[vs.length+i]?=some x->a[i]?=some b->MF w S x b) ->
  Calls P f (vs++a.map En).toArray w λe w'=>∃ v,e=.returned v/\(∃ os d,w.drawn<=d/\w'=grown w os d)/\wt g y/\DR w' (λb o=>S b o\/(w.heap.size<=b/\b<w'.heap.size)) y v
def Uo(P:Program):Nat->List Ty->Ty->FuncId->List D->D->Prop
 | 0,a,b,f,xs,y=>HZ P a b f xs y
 | k+1,a,b,f,xs,y=>OE P a b f xs y (k+1)
def E3(P:Program)(c:List Ty)(t:Ty)(f:FuncId)(xs:List D)(l:List D):Prop:=
 ∀ (w:World) (S:Nat->Nat->Prop) (vs:List Value),(∀ b o,S b o->b<w.heap.size)->eu c xs->vs.length=xs.length->(∀ (i:Nat) (x:D) (v:Value),xs[i]?=some x->vs[i]?=some v->fa w S x v) ->
  Calls P f vs.toArray w λe w'=>∃ a cap,e=.returned (.slice a l.length cap)/\(∃ os d,w.drawn<=d/\w'=grown w os d)/\ao t=true/\(∀ x∈l,wt t x)/\∃ S':Nat->Nat->Prop,(∀ b o,S b o->S' b o)/\(∀ b o,S' b o->S b o\/(w.heap.size<=b/\b<w'.heap.size)) ∧
   CR w' S' (.sl l) (.slice a l.length cap)/\((a=none/\cap=0)\/∃ b off,a=some ⟨b,off,none⟩/\(w.heap.size<=b/\b<w'.heap.size)/\(∃ n,kW w' b=some n/\off+cap*t.size<=n/\off=0)/\∀ o,off+l.length*t.size<=o->¬ S' b o)
def Dx(w w':World)(S':Nat->Nat->Prop)(t:Ty)(l:List D)(v:Value):Prop:=
 ∃ a cap,v=.slice a l.length cap/\ao t=true/\(∀ x∈l,wt t x)/\CR w' S' (.sl l) v/\((a=none/\cap=0)\/∃ b off,a=some ⟨b,off,none⟩/\(w.heap.size<=b/\b<w'.heap.size)/\(∃ n,kW w' b=some n/\off+cap*t.size<=n/\off=0)/\∀ o,off+l.length*t.size<=o->¬ S' b o)
def sf(w w':World)(S':Nat->Nat->Prop):Ty->D->Value->Prop
 | .tup (.sl t::b),y,v=>∃ l a v0 vs,y=.tup (.sl l::a)/\v=.tuple (v0::vs).toArray/\Dx w w' S' t l v0/\aO b=true/\eu b a/\vs.length=a.length/\∀ (i:Nat) (d:D) (u:Value),a[i]?=some d->vs[i]?=some u->fa w' S' d u
 | .st (.sl t::b),y,v=>∃ l a v0 cs,y=.st (.sl l::a)/\v=.agg (v0::cs).toArray/\Dx w w' S' t l v0/\aO b=true/\eu b a/\cL w' S' (ad2 a) cs
 | _,_,_=>False
def E4(P:Program)(a:List Ty)(c:Ty)(f:FuncId)(xs:List D)(y:D):Prop:=
 ∀ (w:World) (S:Nat->Nat->Prop) (vs:List Value),(∀ b o,S b o->b<w.heap.size)->eu a xs->vs.length=xs.length->(∀ (i:Nat) (x:D) (v:Value),xs[i]?=some x->vs[i]?=some v->fa w S x v) ->
  Calls P f vs.toArray w λe w'=>∃ v,e=.returned v/\(∃ os d,w.drawn<=d/\w'=grown w os d)/\∃ S':Nat->Nat->Prop,(∀ b o,S b o->S' b o)/\(∀ b o,S' b o->S b o\/(w.heap.size<=b/\b<w'.heap.size))/\sf w w' S' c y v
def H0(P:Program)(own:Bool)(k:Nat)(a:List Ty)(b:Ty)(f:FuncId)(xs:List D)(y:D):Prop:=
 Uo P k a b f xs y/\(own=true->(∃ t l,b=.sl t/\y=.sl l/\E3 P a t f xs l)\/E4 P a b f xs y)
def Fl(P:Program)(f:FuncId)(g:Ann->(R:Type)->St->List AV->(AV->St->Option R)->Option R):Prop:=
 ∀ (ann:Ann) (R:Type) (w0:Root) (S:Nat->Nat->Prop) (γ:Nat->Option Nat) (β:Nat->Option (Nat×Nat)) (s:St) (a:Act) (w:World) (b:List AV) (vs:List Value) (K:AV->St->Option R) (r:R),
  Rp w0 S γ β s a w->b.length=vs.length->(∀ (i:Nat) (x:AV) (v:Value),b[i]?=some x->vs[i]?=some v->AR ⟨w,S,γ,β,s.ob,s.dead⟩ x v)->g ann R s b K=some r ->
  Calls P f vs.toArray w λe w'=>∃ v y s' S' γ' β',e=.returned v/\K y s'=some r/\Rp w0 S' γ' β' s' a w'/\AR ⟨w',S',γ',β',s'.ob,s'.dead⟩ y v/\Fm s S γ a w S' γ' a w'/\Sk s s'
abbrev FW(ro:Option Nat):Fence:={ Fence.wide with round:=ro }
def Gg:Ex->Exit
 | .normal=>.normal
 | .exit i=>.exit i
 | .ret=>.ret
def E2(P:Program)(f:Code->Ann->(R:Type)->St->(Ex->St->Option R)->Option R):Prop:=
 ∀ (ro:Option Nat) (nn:Nat) (w0:Root) (c:Code) (ann:Ann) (R:Type) (Q:Exit->Act->World->Prop) (S:Nat->Nat->Prop) (γ:Nat->Option Nat) (β:Nat->Option (Nat×Nat)) (s:St) (a:Act) (w:World) (k:Ex->St->Option R) (r:R),
  (∀ l,ro=some l->∃ r0,w.heap[l]?=some (Obj.loop r0))->Rp w0 S γ β s a w->f c ann R s k=some r ->
  (∀ e s' S' γ' β' a' w',Rp w0 S' γ' β' s' a' w'->Fm s S γ a w S' γ' a' w'->Sk s s'->k e s'=some r->Q (Gg e) a' w')->c.wpIn (FW ro) nn P Q a w
structure EnvOk(P:Program)(E:Env):Prop where
 lay:∀ t ty,E.L t=some ty->(∃ ts,ty=.tup ts)\/bL P ty t=true
 high:∀ t ty,E.L t=some ty->ty.high<=1000
 flat:∀ t ty,E.L t=some ty->ao ty=true
 sig : ∀ f ptys rty, E.sig f = some (ptys, rty) -> aO ptys = true /\ (ao rty = true \/ ∃ ts, rty = .tup ts /\ aO ts = true) /\ ∃ fn, P.funcs[f]? = some fn /\ (fn.name == "runtime.NumGoroutine") = false /\ fn.body.isSome = true
 call:∀ f ptys rty xs y,E.sig f=some (ptys,rty)->E.call f xs=some y->eu ptys xs->H0 P (E.ownF f) (E.free f) ptys rty f xs y
 mixed:P.follows .mixedOrders=true
 lp:∀ (α β:Type) (body:α->Option (Sum α β)) (x:α) (y:β),E.lp body x=some y->∃ n,oQ body n x=some y
 mapL:∀ t kt vt,E.mapL t=some (kt,vt)->bE kt=true/\∃ K V,P.underlying t=some (.map K V)/\bL P kt K=true/\bL P vt V=true/\kt.high<=1000
 inl : ∀ f g, E.inl f = some g -> (∃ fn, P.funcs[f]? = some fn /\ (fn.name == "runtime.NumGoroutine") = false /\ fn.body.isSome = true) /\ Fl P f g
 cod:E2 P E.cod
 fnT:∀ t,E.fnT t=true->KH P t=true
def eG{P:Program}{t:TypeId}{ty:Ty}(h:oO P t ty=true):∃ i z,P.info? t=some i/\i.size=ty.size/\(i.bytes<=16384/\ty.size<=4096)/\i.zero=some z/\cQ (az ty).flat z.cells.toList=true/\((∃ cs,z=.agg cs)↔cW ty=true):=by unfold oO at h;all_goals grind
def fI{P:Program}{t:TypeId}{ty:Ty}(h:bL P ty t=true):oO P t ty=true:=by
 cases ty<;>simp only[bL,zaa] at h<;>first
  | exact h.1
  | exact h.1.1
  | exact h.1.1.1
  | cases h
def vG{P:Program}{t:TypeId}:∀ {ty:Ty},bL P ty t=true->(∃ a,ty=.tup a)\/ty=.fn->False:=by grind [bL]
def bY{P:Program}{t:TypeId}{ty:Ty}(h:bL P ty t=true)(w:World):(sizeOf t).run P w=.ok ty.size w:=by obtain⟨i,z,h1,a,_⟩:=eG (fI h);exact t6 (by rw[h1];simp[a]) w
def CQ{P:Program}{t:TypeId}{ty:Ty}(h:bL P ty t=true)(w:World):(isAgg t).run P w=.ok (cW ty) w:=by
 have key:∀ d,P.underlying t=some d->(isAgg t).run P w=.ok (match d with|.struct _|.array _ _=>true|_=>false) w:=λd a=>by unfold isAgg;rw[zla,run_underlying a w];cases d<;>rfl
 cases ty<;>simp only[bL,zaa] at h
 case int k=>obtain⟨_,h⟩:=h;split at h<;>first|(rename_i hu;rw[key _ hu];rfl)|cases h
 case bool=>obtain⟨_,h⟩:=h;split at h<;>first|(rename_i hu;rw[key _ hu];rfl)|cases h
 case str=>obtain⟨_,h⟩:=h;split at h<;>first|(rename_i hu;rw[key _ hu];rfl)|cases h
 case st ts=>obtain⟨_,h⟩:=h;split at h<;>first|(rename_i hu;rw[key _ hu];rfl)|cases h
 case arr n e=>obtain⟨_,h⟩:=h;split at h<;>first|(rename_i hu;rw[key _ hu];rfl)|cases h
 case sl e=>obtain⟨_,h⟩:=h;split at h<;>first|(rename_i hu;rw[key _ hu];rfl)|cases h
 all_goals cases h
def iI{P:Program}{t:TypeId}{b:List Ty}(h:bL P (.st b) t=true):∃ a,P.underlying t=some (.struct a)/\fU P b a.toList 0=true:=by simp only[bL,zaa] at h;all_goals grind
def ef{P:Program}{t:TypeId}{n:Nat}{e:Ty}(h:bL P (.arr n e) t=true):∃ u,P.underlying t=some (.array n u)/\bL P e u=true:=by simp only[bL,zaa] at h;all_goals grind
def gZ{P:Program}{t:TypeId}{e:Ty}(h:bL P (.sl e) t=true):∃ u,P.underlying t=some (.slice u)/\bL P e u=true:=by simp only[bL,zaa] at h;all_goals grind
def jk{P:Program}{t:TypeId}{k:IntKind}(h:bL P (.int k) t=true):P.underlying t=some (.int k):=by simp only[bL,zaa] at h;all_goals grind
theorem rN{P:Program}:∀ {a:List Ty} {c:List Field} {off i:Nat} {t:Ty},fU P a c off=true->a[i]?=some t->∃ f,c[i]?=some f/\f.offset=off+aeN (a.take i)/\0<t.size/\bL P t f.type=true
 | [],_,_,_,_,_,h=>by simp at h
 | u::a,[],_,_,_,h,_=>by simp[fU] at h
 | u::a,f::c,off,i,t,h,b=>by
  simp only[fU,zaa,zia] at h;obtain⟨⟨⟨⟨h1,_⟩,d⟩,e⟩,j⟩:=h;cases i with
  | zero=>simp at b;subst b;exact⟨f,rfl,by simp[aeN,h1],d,e⟩
  | succ i=>
   simp at b;obtain⟨g,k,l,m⟩:=rN j b
   simp_all [k,l,aeN,zEb]
def nag(cs:List Value):Prop:=∀ v∈cs,v.oneCell'=true
theorem cL.nag{w:World}{S:Nat->Nat->Prop}{a:List D}{cs:List Value}(h:cL w S a cs):nag cs:=by
 intro v f;obtain⟨i,e,he⟩:=z2a f;have h1:cs[i]?=some v:=by simp_all
 have c:i<a.length:=by rw[h.1];exact e
 have b:=h.2 i _ v (zea c) h1;revert b;generalize a[i]=d;intro b;cases b<;>rfl
def Bk{a b:List Value}(h:nag a)(k:nag b):nag (a++b):=λv c=>by
 rcases zIa.1 c with h1|h1
 ·exact h v h1
 ·exact k v h1
mutual
theorem gl{c:Cx}:∀ (a:AV) (t:Ty) (cs:List Value),AV.fits t a=true->AC c a cs->cs.length=t.size/\nag cs
 | .d t' x,t,cs,hf,h=>by
  have hf':t.beq t'=true:=by cases t<;>simpa only[AV.fits] using hf
  rw[aeK _ _ hf'];simp only[AC] at h;exact⟨by rw[<-h.2.2.1];exact ct _ _ h.1 h.2.1,h.2.2.nag⟩
 | .own t' v l,t,cs,hf,h=>by
  cases t<;>simp only[AV.fits] at hf<;>first|cases hf|skip
  simp only[AC] at h;obtain⟨_,_,a,cap,rfl,_⟩:=h;exact⟨rfl,λv hv=>by simp at hv;subst hv;rfl⟩
 | .nils,t,cs,hf,h=>by
  cases t<;>simp only[AV.fits] at hf<;>first|cases hf|skip
  simp only[AC] at h;subst h;exact⟨rfl,λv hv=>by simp at hv;subst hv;rfl⟩
 | .st ts' l,t,cs,hf,h=>by
  cases t<;>simp only[AV.fits] at hf<;>first|cases hf|skip
  rename_i ts;simp only[zaa] at hf;simp only[AC] at h;simp only[Ty.size];exact B0 l ts cs hf.2 h.2.2
 | .ptr ..,t,cs,hf,_=>by cases t<;>simp[AV.fits] at hf
 | .fptr ..,t,cs,hf,_=>by cases t<;>simp[AV.fits] at hf
 | .mem ..,t,cs,hf,_=>by cases t<;>simp[AV.fits] at hf
 | .clo ..,t,cs,hf,_=>by cases t<;>simp[AV.fits] at hf
 | .map ..,t,cs,hf,_=>by cases t<;>simp[AV.fits] at hf
 | .sub ..,t,cs,hf,_=>by cases t<;>simp[AV.fits] at hf
 | .yld ..,t,cs,hf,_=>by cases t<;>simp[AV.fits] at hf
 | .gone,t,cs,hf,_=>by cases t<;>simp[AV.fits] at hf
 | .tpo ..,t,cs,hf,_=>by cases t<;>simp[AV.fits] at hf
 | .undef,t,cs,hf,_=>by cases t<;>simp[AV.fits] at hf
theorem B0{c:Cx}:∀ (l:List AV) (ts:List Ty) (cs:List Value),AV.fitss ts l=true->il c l cs->cs.length=aeN ts/\nag cs
 | [],ts,cs,hf,h=>by
  cases ts<;>simp only[AV.fitss] at hf<;>first|cases hf|skip
  simp only[il] at h;subst h;exact⟨rfl,λv hv=>by simp at hv⟩
 | a::l,ts,cs,hf,h=>by
  cases ts<;>simp only[AV.fitss] at hf<;>first|cases hf|skip
  simp only[zaa] at hf;simp only[il] at h;obtain⟨c1,c2,rfl,h1,h2⟩:=h;obtain⟨k1,k2⟩:=gl a _ c1 hf.1 h1;obtain⟨k3,k4⟩:=B0 l _ c2 hf.2 h2;exact⟨by simp[aeN,k1,k3],Bk k2 k4⟩
end
def gj(t:Ty)(cs:List Value)(v:Value):Prop:=v.cells.toList=cs/\(cW t=true->∃ xs,v=.agg xs)/\(cW t=false->∀ xs,v≠.agg xs)
mutual
theorem aH{P:Program}:∀ (ty:Ty) (t:TypeId),bL P ty t=true->ao ty=true
 | .int _,_,_=>rfl
 | .bool,_,_=>rfl
 | .str,_,_=>rfl
 | .st ts,t,h=>by obtain⟨fs,_,h2⟩:=iI h;simp only[ao];exact qy ts _ _ h2
 | .arr n e,t,h=>by obtain⟨u,_,h2⟩:=ef h;simp only[ao];exact aH e u h2
 | .sl e,t,h=>by obtain⟨u,_,h2⟩:=gZ h;simp only[ao];exact aH e u h2
 | .tup _,t,h=>by simp[bL] at h
 | .fn,t,h=>by simp[bL] at h
theorem qy{P:Program}:∀ (ts:List Ty) (fs:List Field) (off:Nat),fU P ts fs off=true->aO ts=true
 | [],_,_,_=>rfl
 | t::ts,[],_,h=>by simp[fU] at h
 | t::ts,f::fs,off,h=>by simp only[fU,zaa] at h;simp only[aO,zaa];exact⟨aH t _ h.1.2,qy ts fs _ h.2⟩
end
def nX{t:Ty}{x:D}{v:Value}(h:wt t x)(hn:ao t=true)(a:RT x v):(cW t=true->∃ xs,v=.agg xs)/\(cW t=false->∀ xs,v≠.agg xs):=by
 cases t<;>simp only[wt] at h
 case int k=>obtain⟨n,rfl⟩:=h;exact⟨λh=>by simp[cW] at h,λ_=>a⟩
 case bool=>obtain⟨n,rfl⟩:=h;exact⟨λh=>by simp[cW] at h,λ_=>a⟩
 case str=>obtain⟨n,rfl⟩:=h;exact⟨λh=>by simp[cW] at h,λ_=>a⟩
 case st ts=>obtain⟨n,rfl,_⟩:=h;exact⟨λ_=>a,λh=>by simp[cW] at h⟩
 case arr m ts=>obtain⟨n,rfl,_⟩:=h;exact⟨λ_=>a,λh=>by simp[cW] at h⟩
 case sl ts=>obtain⟨n,rfl,_⟩:=h;exact⟨λh=>by simp[cW] at h,λ_=>a⟩
 case tup ts=>simp[ao] at hn
def sj{t:Ty}{x:D}{v:Value}(h:wt t x)(hn:ao t=true)(a:(cW t=true->∃ xs,v=.agg xs)/\(cW t=false->∀ xs,v≠.agg xs)):RT x v:=by
 cases t<;>simp only[wt] at h
 case int k=>obtain⟨n,rfl⟩:=h;exact a.2 rfl
 case bool=>obtain⟨n,rfl⟩:=h;exact a.2 rfl
 case str=>obtain⟨n,rfl⟩:=h;exact a.2 rfl
 case st ts=>obtain⟨n,rfl,_⟩:=h;exact a.1 rfl
 case arr m ts=>obtain⟨n,rfl,_⟩:=h;exact a.1 rfl
 case sl ts=>obtain⟨n,rfl,_⟩:=h;exact a.2 rfl
 case tup ts=>simp[ao] at hn
def yn{c:Cx}{t:Ty}{a:AV}{v:Value}(b:AV.fits t a=true)(hn:ao t=true)(h:AR c a v):AC c a v.cells.toList/\gj t v.cells.toList v:=by
 cases a
 case d t' x=>
  have e:t.beq t'=true:=by simp_all [AV.fits]
  have he:=aeK _ _ e;subst he;simp only[AR] at h;rcases h with⟨h1,f,g⟩|⟨i,rfl,_⟩
  ·refine⟨by simp only[AC];exact⟨f,h1,g.2⟩,rfl,nX f h1 g.1⟩
  ·simp[ao] at hn
 case own t' v' l=>
  cases t<;>simp only[AV.fits] at b<;>first|cases b|skip
  simp only[AR] at h;exact⟨h.2,rfl,by simp[cW],λ_=>h.1⟩
 case nils=>
  cases t<;>simp only[AV.fits] at b<;>first|cases b|skip
  simp only[AR] at h;exact⟨h.2,rfl,by simp[cW],λ_=>h.1⟩
 case st i l=>
  cases t<;>simp only[AV.fits] at b<;>first|cases b|skip
  simp only[AR] at h;exact⟨h.2,rfl,λ_=>h.1,by simp[cW]⟩
 all_goals simp_all [AV.fits]
def uX{c:Cx}{t:Ty}{a:AV}{v:Value}{cs:List Value}(f:AV.fits t a=true)(h:AC c a cs)(i:gj t cs v):AR c a v:=by
 obtain⟨b,e⟩:=i;cases a
 case d t' x=>
  have g:t.beq t'=true:=by simp_all [AV.fits]
  have he:=aeK _ _ g;subst he;simp only[AC] at h;simp only[AR];exact .inl ⟨h.2.1,h.1,sj h.1 h.2.1 e,by rw[b];exact h.2.2⟩
 case own t' v' l=>
  cases t<;>simp only[AV.fits] at f<;>first|cases f|skip
  simp only[AR];exact⟨e.2 rfl,by rw[b];exact h⟩
 case nils=>
  cases t<;>simp only[AV.fits] at f<;>first|cases f|skip
  simp only[AR];exact⟨e.2 rfl,by rw[b];exact h⟩
 case st ts l=>
  cases t<;>simp only[AV.fits] at f<;>first|cases f|skip
  simp only[AR];exact⟨e.1 rfl,by rw[b];exact h⟩
 all_goals simp_all [AV.fits]
def gS{P:Program}{t:Ty}{T:TypeId}(hl:bL P t T=true){w:World}{b off:Nat}{cs:List Value}(hlen:cs.length=t.size)(hn:nag cs)
  (hc:∀ (i:Nat) (c:Value),cs[i]?=some c->w.cell? ⟨b,off+i,none⟩=some c):∃ v,(Instr.loadAt T (.pointer (some ⟨b,off,none⟩))).run P w=.ok v w/\gj t cs v:=by
 unfold Instr.loadAt Instr.sureAddr;simp only[pure_bind];unfold loadVar;rw[zla,CQ hl,zfa];cases ha:cW t
 ·have h1:cs.length=1:=by
   rw[hlen];cases t<;>simp[cW] at ha<;>first|rfl|(exfalso;exact vG hl (.inl ⟨_,rfl⟩))
  match cs,h1 with
  | [c],_=>
   refine⟨c,?_,?_⟩
   ·have:=hc 0 c rfl
    simp_all
   ·have a:=hn c s6
    refine⟨?_,?_,?_⟩
    ·cases c<;>simp_all [Value.cells,Value.oneCell']
    ·simp_all
    ·grind [Value.oneCell']
 ·have a:=run_loadCells_list (P:=P) w ⟨b,off,none⟩ cs (λj v d=>by rw[db];exact hc j v d)
  rw[hlen] at a;refine⟨.agg cs.toArray,?_,rfl,λ_=>⟨_,rfl⟩,by rw[ha];intro h;cases h⟩
  simp only[if_true,zla,bY hl,zfa,a,zra]
def Nr{P:Program}{T:TypeId}(hl:KH P T=true)(w:World):(isAgg T).run P w=.ok false w:=by
 simp only[KH,zaa] at hl;have a:=hl.2;split at a<;>first|(cases a;done)|skip
 rename_i d b c e;unfold isAgg;rw[zla,run_underlying e w];cases d<;>first|rfl|exact z3a rfl (b _)|exact z3a rfl (c _ _)
def CK{P:Program}{T:TypeId}(hl:KH P T=true):∃ i z,P.info? T=some i/\i.size=1/\i.bytes<=16384/\i.zero=some z/\z.cells.toList.length=1/\z.oneCell'=true:=by
 simp only[KH,zaa] at hl;have h1:=hl.1;split at h1<;>first|(cases h1;done)|skip
 rename_i i c;simp only[zaa,zia] at h1;obtain⟨⟨h1,b⟩,a⟩:=h1;split at a<;>first|(cases a;done)|skip
 rename_i z d;simp only[zaa,zia] at a;exact⟨i,z,c,h1,b,d,a.1,a.2⟩
def Ac{P:Program}{T:TypeId}(hl:KH P T=true){w:World}{b:Nat}{x:Value}(a:bO w b=some #[x]):(Instr.loadAt T (.pointer (some ⟨b,0,none⟩))).run P w=.ok x w:=by unfold Instr.loadAt Instr.sureAddr;simp only[pure_bind];unfold loadVar;rw[zla,Nr hl,zfa];have:=cell_of_row _ a 0;simp at this;simp[this]
def o9{P:Program}{t:Ty}{T:TypeId}(hl:bL P t T=true){w:World}{b off:Nat}{c:Array Value}{v:Value}{cs:List Value}(e:bO w b=some c)(d:gj t cs v)(hlen:cs.length=t.size)(hn:nag cs)(f:off+cs.length<=c.size) :
  (Instr.storeAt T (.pointer (some ⟨b,off,none⟩)) v).run P w=.ok () (putAt w b off cs.toArray):=by
 unfold Instr.storeAt Instr.sureAddr;simp only[pure_bind];unfold storeVar;have h1:v.cells.size=t.size:=by rw[<-zFb,d.1,hlen]
 have a:=cJ (P:=P) b off cs 0 w c e j1 (by rw[zya];intro x hx;have:=hn x hx;cases x<;>simp_all [Value.oneCell',kH])
 simp only[zWb] at a;simp only[zla,bY hl,zfa,h1,ne_eq,not_true_eq_false,if_false,d.1,a]
def pI{v:Value}(h:v.oneCell'=true):v.cells=#[v]:=by cases v<;>simp_all [Value.cells,Value.oneCell']
def xN{P:Program}{T:TypeId}(hl:KH P T=true){w:World}{b:Nat}{x v:Value}(d:bO w b=some #[x])(e:v.oneCell'=true) :
  (Instr.storeAt T (.pointer (some ⟨b,0,none⟩)) v).run P w=.ok () (putAt w b 0 #[v]):=by
 unfold Instr.storeAt Instr.sureAddr;simp only[pure_bind];unfold storeVar;obtain⟨i,z,c,h1,_⟩:=CK hl;have a:=cJ (P:=P) b 0 [v] 0 w _ d s6 (by simp;cases v<;>simp_all [Value.oneCell',kH])
 simp only[zWb] at a;simp only[zla,t6 (n:=1) (by rw[c];simp[h1]) w,zfa,pI e,zKc,List.length_singleton,ne_eq,not_true_eq_false,if_false,a]
def Lo{c:Cx}{a:AV}{v:Value}(h:kI a=true)(k:AR c a v):v.oneCell'=true:=by
 cases a<;>simp only[kI] at h<;>first|(cases h;done)|skip
 all_goals simp only[AR,AC] at k
 ·obtain⟨b,_,d,_⟩:=k;rw[ar b d];rfl
 ·obtain⟨b,_,d,_⟩:=k;rw[ar b d];rfl
 ·obtain⟨b,_,d,_⟩:=k;rw[ar b d];rfl
end Sy
end
end Go.Proofs.YtmnkibhalflchaaGreat
