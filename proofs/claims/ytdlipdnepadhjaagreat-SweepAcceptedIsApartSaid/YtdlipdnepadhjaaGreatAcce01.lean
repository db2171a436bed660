/- Part 1 -/
import Derived.WalkKit
import Derived.WalkSpells
import Derived.WalkLawsBesides
import Derived.Deep.QuietTactic
import Derived.BigQuiet
import Derived.Deep.Draws
import Derived.Lib.Hide
import Derived.KernelRfl
import Derived.StillTail
import Derived.Laws.StructEq
import Derived.ProofKit
import Derived.Deep.Slices
import Derived.OpenShut
import Derived.OrdersIn
import Derived.TacticsIn
import Derived.RangeFuncIn
import Derived.RangeFuncCalls
import Derived.Scope
import Derived.ChangeKeysEq
import Derived.MapKept
import Derived.IntWalk
set_option linter.all false
set_option maxRecDepth 20000
namespace Go.Proofs.YtdlipdnepadhjaaGreat
noncomputable section
open Go.RowKit
theorem u0{p:Prop}(h:p:=by omega):p:=h
theorem H{p:Prop}(h:p:=by decide):p:=h
theorem j2{p:Prop}(h:p:=by simp):p:=h
theorem j3{p:Prop}(h:p:=by kernel_rfl):p:=h
theorem i4{p:Prop}(h:p:=by grind):p:=h
abbrev Y:=@Bool.and_eq_true
abbrev zba:=@Option.bind_some
abbrev zca:=@List.getElem?_eq_getElem
abbrev zda:=@Option.some.injEq
abbrev zea:=@decide_eq_true_eq
abbrev zfa:=@decide_eq_false
abbrev zga:=@Result.andThen_ok
abbrev zha:=@if_neg
abbrev zia:=@Int.natAbs_natCast
abbrev zja:=@Nat.le_refl
abbrev zka:=@decide_eq_true
abbrev zla:=@List.length_map
abbrev zma:=@if_pos
abbrev G:=@Sem.run_bind
abbrev zoa:=@Nat.zero_le
abbrev zpa:=@Nat.pow_le_pow_right
abbrev zqa:=@Array.getElem?_eq_some_iff
abbrev zra:=@List.getElem?_eq_some_iff
abbrev zsa:=@List.mem_cons_of_mem
abbrev zta:=@Sem.run_pure
abbrev zua:=@Nat.lt_or_ge
abbrev zva:=@Nat.le_trans
abbrev zwa:=@Int.natAbs_mul
abbrev zxa:=@List.all_eq_true
abbrev zya:=@List.getElem_mem
abbrev zza:=@List.take_append_drop
abbrev zAa:=@List.take_succ_eq_append_getElem
abbrev zBa:=@List.mem_cons_self
abbrev zCa:=@Bool.not_eq_true'
abbrev zDa:=@Nat.two_pow_pos
abbrev zEa:=@congrArg
abbrev zFa:=@List.length_append
abbrev zGa:=@List.getD_eq_getElem?_getD
abbrev zHa:=@Nat.mul_le_mul
abbrev zIa:=@Bool.false_eq_true
abbrev zJa:=@List.mem_append
abbrev zKa:=@Nat.mul_le_mul_right
abbrev zLa:=@Nat.lt_of_le_of_lt
abbrev zMa:=@List.mem_cons
abbrev zNa:=@List.pairwise_cons
abbrev zOa:=@List.length_cons
abbrev zPa:=@List.append_assoc
abbrev zQa:=@Array.getElem?_toList
abbrev zRa:=@List.mem_range
abbrev zSa:=@List.mem_singleton
abbrev zTa:=@Int.le_of_lt
abbrev zUa:=@List.mem_of_mem_take
abbrev zVa:=@Nat.mul_comm
abbrev zWa:=@Nat.mod_lt
abbrev zXa:=@List.getElem?_eq_none
abbrev zYa:=@Nat.div_div_eq_div_mul
abbrev zZa:=@Int.mul_ediv_cancel_left
abbrev z0a:=@Nat.mod_eq_of_lt
abbrev z1a:=@Int.natCast_mul
abbrev z2a:=@Nat.div_lt_iff_lt_mul
abbrev z3a:=@List.getElem_of_mem
abbrev z4a:=@List.map_cons
abbrev z5a:=@Nat.pow_add
abbrev z6a:=@Nat.mul_le_mul_left
abbrev z7a:=@Rat.num_divInt_den
abbrev z8a:=@absurd
abbrev z9a:=@List.mem_append_right
abbrev zab:=@List.getElem?_append_left
abbrev zbb:=@Nat.zero_add
abbrev zcb:=@Nat.div_eq_of_lt
abbrev zdb:=@List.take_length
abbrev zeb:=@Nat.lt_of_lt_of_le
abbrev zfb:=@List.mem_of_getElem?
abbrev zgb:=@Int.ofNat_dvd_left
abbrev zhb:=@Nat.gcd_dvd_left
abbrev zib:=@Nat.mul_assoc
abbrev zjb:=@Nat.le_mul_of_pos_left
abbrev zkb:=@List.length_take
abbrev zlb:=@List.getElem?_cons_succ
abbrev zmb:=@List.mem_map
abbrev znb:=@Nat.gcd_dvd_right
abbrev zob:=@List.map_append
abbrev zpb:=@List.drop_eq_getElem_cons
abbrev zqb:=@List.mem_flatMap
abbrev zrb:=@List.cons_append
abbrev zsb:=@Nat.min_eq_left
abbrev ztb:=@Nat.add_mul
abbrev zub:=@Int.mul_pos
abbrev zvb:=@List.take_of_length_le
abbrev zwb:=@Int.mul_le_mul_of_nonneg_left
abbrev zxb:=@Nat.div_add_mod
abbrev zyb:=@Nat.add_sub_cancel_left
abbrev zzb:=@List.length_nil
abbrev zAb:=@List.getElem?_cons_zero
abbrev zBb:=@Int.lt_or_eq_of_le
abbrev zCb:=@Int.mul_neg_of_pos_of_neg
abbrev zDb:=@List.getElem?_drop
abbrev zEb:=@List.mem_map_of_mem
abbrev zFb:=@Array.length_toList
abbrev zGb:=@List.range_succ
abbrev zHb:=@Bool.or_eq_true
abbrev zIb:=@List.pairwise_iff_getElem
abbrev zJb:=@Int.natAbs_neg
abbrev zKb:=@Int.lt_trichotomy
abbrev zLb:=@Array.getElem?_eq_getElem
abbrev zMb:=@Nat.eq_zero_or_pos
abbrev zNb:=@Nat.add_assoc
abbrev zOb:=@List.all_cons
abbrev zPb:=@Bool.true_and
abbrev zQb:=@List.getElem?_take_of_lt
abbrev zRb:=@Int.mul_nonneg
abbrev zSb:=@Bool.not_false
abbrev zTb:=@List.ext_getElem?
abbrev zUb:=@Int.natAbs_add_le
abbrev zVb:=@List.getElem?_append_right
abbrev zWb:=@Nat.add_mul_div_left
abbrev zXb:=@Nat.add_zero
abbrev zYb:=@Option.map_some
abbrev zZb:=@Int.mul_pos_of_neg_of_neg
abbrev z0b:=@Option.getD_some
abbrev z1b:=@Rat.divInt_mul_divInt
abbrev z2b:=@Nat.pow_succ
abbrev z3b:=@Nat.eq_of_beq_eq_true
abbrev z4b:=@List.getElem?_map
abbrev z5b:=@Int.lt_or_le
abbrev z6b:=@Nat.mul_lt_mul_of_pos_right
abbrev z7b:=@List.nil_append
abbrev z8b:=@List.length_eq_zero_iff
abbrev z9b:=@List.mem_of_mem_drop
abbrev zac:=@Array.toArray_toList
abbrev zbc:=@List.not_mem_nil
abbrev zcc:=@Nat.div_mul_le_self
abbrev zdc:=@List.take_succ_cons
abbrev zec:=@List.length_range
abbrev zfc:=@Nat.le_div_iff_mul_le
abbrev zgc:=@Nat.div_le_self
abbrev zhc:=@Nat.add_comm
abbrev zic:=@List.append_nil
abbrev zjc:=@List.Nodup.length_le_of_subset
abbrev zkc:=@Array.ext'
abbrev zlc:=@Nat.mul_add
abbrev zmc:=@Bool.not_true
abbrev znc:=@Nat.lt_trans
abbrev zoc:=@Nat.gcd_comm
abbrev zpc:=@Bool.eq_false_iff
abbrev zqc:=@List.map_congr_left
abbrev zrc:=@List.drop_of_length_le
abbrev zsc:=@List.any_eq_true
abbrev ztc:=@Nat.add_mul_div_right
abbrev zuc:=@List.getElem?_toArray
abbrev zvc:=@Int.zero_add
abbrev zwc:=@Array.mem_of_getElem?
abbrev zxc:=@Array.mapM_eq_mapM_toList
abbrev zyc:=@Array.mem_toList_iff
abbrev zzc:=@List.foldl_cons
abbrev zAc:=@Int.not_lt
abbrev zBc:=@Bool.eq_iff_iff
abbrev zCc:=@Int.zero_mul
abbrev zDc:=@Nat.le_mul_of_pos_right
abbrev zEc:=@Nat.dvd_trans
abbrev zFc:=@Int.eq_ofNat_of_zero_le
abbrev zGc:=@Nat.Coprime.coprime_dvd_right
abbrev zHc:=@Nat.Coprime.coprime_dvd_left
abbrev zIc:=@Nat.le_succ
abbrev zJc:=@Nat.le_of_lt
abbrev zKc:=@List.mem_filter
abbrev zLc:=@Int.mul_ne_zero
abbrev zMc:=@Int.mul_eq_zero
abbrev zNc:=@Int.mul_comm
abbrev zOc:=@Nat.not_lt
abbrev zPc:=@List.size_toArray
abbrev zQc:=@List.map_drop
abbrev zRc:=@Int.mul_lt_mul_of_pos_left
abbrev zSc:=@Int.fdiv_eq_ediv_of_nonneg
abbrev zTc:=@Int.mul_ediv_cancel'
abbrev zUc:=@List.mem_or_eq_of_mem_set
abbrev zVc:=@List.mapM_cons
abbrev zWc:=@Nat.lt_succ_self
abbrev zXc:=@List.drop_length
abbrev zYc:=@List.length_pos_iff
abbrev zZc:=@List.drop_succ_cons
abbrev z0c:=@Int.neg_ediv_of_dvd
abbrev z1c:=@Nat.pow_zero
abbrev z2c:=@Nat.gcd_pos_of_pos_right
abbrev z3c:=@List.Pairwise.imp_of_mem
abbrev z4c:=@List.mem_filterMap
abbrev z5c:=@List.all_append
abbrev z6c:=@Nat.one_mul
abbrev z7c:=@Int.toNat_natCast
abbrev z8c:=@Array.getElem?_setIfInBounds_ne
abbrev z9c:=@Nat.Coprime.mul_right
abbrev zad:=@Array.getElem?_modify
abbrev zbd:=@Nat.le_add_right
abbrev zcd:=@List.eq_nil_of_length_eq_zero
abbrev zdd:=@Nat.div_lt_of_lt_mul
abbrev zed:=@Bool.or_eq_false_iff
abbrev zfd:=@Nat.le_of_dvd
abbrev zgd:=@Int.lt_irrefl
abbrev zhd:=@Nat.mod_one
abbrev zid:=@Nat.div_one
abbrev zjd:=@Int.natCast_add
abbrev zkd:=@Nat.add_mul_mod_self_right
abbrev zld:=@List.mem_replicate
abbrev zmd:=@List.map_nil
abbrev znd:=@Int.mul_zero
abbrev zod:=@List.exists_mem_of_ne_nil
abbrev zpd:=@Nat.lt_trichotomy
abbrev zqd:=@List.eq_of_mem_replicate
abbrev zrd:=@Array.toList_push
abbrev zsd:=@Nat.mul_sub
abbrev ztd:=@List.map_take
abbrev zud:=@Int.natCast_zero
abbrev zvd:=@List.range_succ_eq_map
abbrev zwd:=@Rat.divInt_add_divInt
abbrev zxd:=@Nat.zero_mul
abbrev zyd:=@Nat.zero_mod
abbrev zzd:=@Nat.mul_zero
abbrev zAd:=@Nat.mul_succ
abbrev zBd:=@List.nodup_cons
abbrev zCd:=@List.map_map
abbrev zDd:=@List.cons.injEq
abbrev zEd:=@List.getElem?_append
abbrev zFd:=@Array.getElem_toList
abbrev zGd:=@Array.getElem_append
abbrev zHd:=@List.drop_drop
abbrev zId:=@Int.ofNat_tdiv
abbrev zJd:=@Bool.false_xor
def grown(w:World)(os:List Obj)(d:Nat):World:={ w with heap:=w.heap++os.toArray,drawn:=d }
def ce(w:World)(b:Nat):Option (Array Value):=
 match w.heap[b]? with
 | some (.cells c _ (0,0))=>some c
 | _=>none
def kj(b:Nat)(w:World):Prop:=b<w.heap.size
def X7(b:Nat)(w:World)(os:List Obj):Prop:=b<os.length+w.heap.size
section
variable(w:World)(os os':List Obj)(d d':Nat)(o:Obj)(a:Addr)(v:Value)(b:Nat)
@[simp,go_sem] theorem size_grown:(grown w os d).heap.size=os.length+w.heap.size:=by simp[grown];omega
@[simp,go_sem] theorem tape_grown:(grown w os d).tape=w.tape:=rfl
@[simp,go_sem] theorem drew_grown:(grown w os d).drew=grown w os (d+1):=rfl
@[simp,go_sem] theorem drewN_grown (n:Nat):(grown w os d).drewN n=grown w os (d+n):=rfl
def du{b:Nat}(h:b<w.heap.size):(grown w os d).heap[b]?=w.heap[b]?:=by simp[grown,Array.getElem?_append,h]
def IZ:grown w [] w.drawn=w:=by simp[grown]
def c9:w.alloc o=grown w [o] w.drawn:=by show({ w with heap:=w.heap.push o }:World)=_;grind [grown,Array.push_eq_append]
@[simp,go_sem] theorem row?_drew:ce w.drew b=ce w b:=rfl
@[simp,go_sem] theorem row?_drewN (n:Nat):ce (w.drewN n) b=ce w b:=rfl
def xV{c:Array Value}{t:TypeId}(h:b=w.heap.size):ce (w.alloc<|.cells c t) b=some c:=by
 subst h;show(match (w.heap.push<|.cells c t)[w.heap.size]? with|some (.cells c _ (0,0))=>some c|_=>none)=_
 simp
@[simp,go_sem] theorem inHeap_setCell:kj b (w.setCell a v)=kj b w:=by simp[kj]
@[simp,go_sem] theorem inHeap_drew:kj b w.drew=kj b w:=rfl
@[simp,go_sem] theorem inHeap_drewN (n:Nat):kj b (w.drewN n)=kj b w:=rfl
theorem cell_of_row{b:Nat}{c:Array Value}(h:ce w b=some c)(j:Nat):w.cell? ⟨b,j,none⟩=c[j]?:=by unfold ce at h;split at h<;>simp at h;rename_i a;subst h;simp[World.cell?,a]
theorem frozen_of_row{b:Nat}{c:Array Value}(h:ce w b=some c)(j:Nat):w.frozen? ⟨b,j,none⟩=false:=by unfold ce at h;split at h<;>simp at h;rename_i a;simp[World.frozen?,a]
def fk(c:Array Value)(off:Nat)(cs:Array Value):Array Value:=c.extract 0 off++cs++c.extract (off+cs.size) c.size
def mX(c cs:Array Value)(off j:Nat)(h:off+cs.size<=c.size):(fk c off cs)[j]?=if j<off then c[j]? else if j<off+cs.size then cs[j-off]? else c[j]?:=by simp[fk,Array.getElem?_append,Array.getElem?_extract,Array.size_append,Array.size_extract];all_goals grind
@[simp,go_sem] theorem splice_size (c cs:Array Value) (off:Nat) (h:off+cs.size<=c.size):(fk c off cs).size=c.size:=by simp[fk];omega
def vk(c:Array Value)(k:Nat)(v:Value)(l:List Value)(h:k+(l.length+1)<=c.size) :
  fk (c.setIfInBounds k v) (k+1) l.toArray=fk c k (v::l).toArray:=by
 apply Array.ext_getElem?;intro j;rw[mX _ _ _ _ (by simp;omega),mX _ _ _ _ (by simpa using h)]
 all_goals grind
def putAt(w:World)(b off:Nat)(cs:Array Value):World:=
 { w with heap:=w.heap.modify b λ
   | .cells c e f=>.cells (fk c off cs) e f
   | o=>o }
@[simp,go_sem] theorem inHeap_putAt (b' off:Nat) (cs:Array Value):kj b' (putAt w b off cs)=kj b' w:=by simp[kj,putAt]
@[simp,go_sem] theorem size_putAt (off:Nat) (cs:Array Value):(putAt w b off cs).heap.size=w.heap.size:=by simp[putAt]
@[simp,go_sem] theorem tape_putAt (off:Nat) (cs:Array Value):(putAt w b off cs).tape=w.tape:=rfl
end
attribute [irreducible] kj X7
def FD(P:Program)(T:TypeId)(a:Addr)(w:World):Result Value:=(loadVar T a).run P w
def Gz(P:Program)(T:TypeId)(a:Addr)(v:Value)(w:World):Result Unit:=(storeVar T a v).run P w
def Yp(P:Program)(T:TypeId)(b off n:Nat)(w:World):Option (Array Value)->Result Value
 | some c=>if off+n<=c.size then .ok (.agg<|c.extract off<|off+n) w else FD P T ⟨b,off,none⟩ w
 | none=>FD P T ⟨b,off,none⟩ w
@[simp,go_sem] theorem ldRow_some (P:Program) (T:TypeId) (b off n:Nat) (w:World) (c:Array Value) :
  Yp P T b off n w (some c)=if off+n<=c.size then .ok (.agg<|c.extract off<|off+n) w else FD P T ⟨b,off,none⟩ w:=rfl
def nl:Value->Bool
 | .agg _|.tuple _=>false
 | _=>true
def Yz(cs:Array Value):Bool:=cs.all nl
def YI(P:Program)(T:TypeId)(b off:Nat)(cs:Array Value)(w:World):Option (Array Value)->Result Unit
 | some c=>if off+cs.size<=c.size/\Yz cs=true then .ok () (putAt w b off cs) else Gz P T ⟨b,off,none⟩ (.agg cs) w
 | none=>Gz P T ⟨b,off,none⟩ (.agg cs) w
@[simp,go_sem] theorem stRow_some (P:Program) (T:TypeId) (b off:Nat) (cs:Array Value) (w:World) (c:Array Value) :
  YI P T b off cs w (some c)=if off+cs.size<=c.size/\Yz cs=true then .ok () (putAt w b off cs) else Gz P T ⟨b,off,none⟩ (.agg cs) w:=rfl
def xY{P:Program}{T:TypeId}{n:Nat}(h:(P.info? T).map (·.size)=some n)(w:World):(sizeOf T).run P w=.ok n w:=by
 cases hq:P.info? T with
 | none=>simp[hq] at h
 | some i=> simp_all [sizeOf,typeInfo]
def dO(b off j:Nat):(⟨b,off,none⟩:Addr).add j=⟨b,off+j,none⟩:=by unfold Addr.add;split<;>simp_all
theorem cZ{P:Program}(b off:Nat):∀ (l:List Value) (i:Nat) (w:World) (c:Array Value),ce w b=some c->off+i+l.length<=c.size->l.all nl=true ->
  (storeCells ⟨b,off,none⟩ l i).run P w=.ok () (putAt w b (off+i) l.toArray)
 | [],i,w,c,a,_,_=>by
  simp only[storeCells,zta];congr 1;unfold ce at a;split at a<;>simp at a;rename_i h;subst a;have g:=(zqa.1 h);obtain⟨g,k⟩:=g;simp only[putAt];have:w.heap.modify b (λ|.cells c e f=>.cells (fk c (off+i) #[]) e f|o=>o)=w.heap:=by
   apply Array.ext
   ·simp
   ·intro j q r;simp only[Array.getElem_modify];split
    ·simp_all [fk]
    ·rfl
  simp_all
 | v::l,i,w,c,a,m,d=>by
  simp only[zOb,Y] at d;simp only[zOa] at m;have hc:w.cell? ⟨b,off+i,none⟩=some c[off+i]:=by rw[cell_of_row w a,zLb u0]
  have t:w.frozen? ⟨b,off+i,none⟩=false:=frozen_of_row w a _;simp only[storeCells,G];have p:(store ((⟨b,off,none⟩:Addr).add i) v).run P w=.ok () (w.setCell ⟨b,off+i,none⟩ v):=by rw[dO];unfold store;cases v<;>simp_all [Sem.run,nl]
  rw[p];simp only[zga];have n:ce (w.setCell ⟨b,off+i,none⟩ v) b=some (c.setIfInBounds (off+i) v):=by unfold ce at a ⊢;split at a<;>simp at a;rename_i h;subst a;simp only[World.setCell,zad,if_true,h,zYb,Option.isSome_none,zIa,if_false]
  rw[cZ b off l (i+1) _ _ n (by simp;omega) d.2]
  congr 1;unfold ce at a;split at a<;>simp at a;rename_i h;subst a;obtain⟨g,k⟩:=(zqa.1 h);simp only[putAt,World.setCell];congr 1;apply Array.ext
  ·simp
  ·intro j q r;simp[Array.getElem_modify];split
   ·rename_i s;subst s;simp[k,Option.isSome_none,zIa,if_false];rw[<-vk _ _ _ _ u0]
    rfl
   ·rfl
def nh(place:Nat->Option (Nat×Nat))(cells:Array Value):List (Nat×Value)->Option (Array Value)
 | []=>some cells
 | (i,v)::rest=>
  match place i with
  | none=>none
  | some (off,size)=>if v.cells.size≠size\/off+v.cells.size>cells.size then none else nh place (fk cells off v.cells) rest
theorem ss(off:Nat):∀ (l:List Value) (k:Nat) (cells:Array Value),off+k+l.length<=cells.size ->
  (l.zipIdx k).foldl (λcs (c,j)=>cs.setIfInBounds (off+j) c) cells=fk cells (off+k) l.toArray
 | [],k,cells,_=>by simp[List.zipIdx_nil,List.foldl_nil,fk];all_goals simp_all
 | v::l,k,cells,h=>by simp[zOa] at h;simp[List.zipIdx_cons,zzc];rw[ss off l (k+1) _ (by simp;omega),show off+(k+1)=(off+k)+1 from by omega,vk _ _ _ _ u0]
theorem so(place:Nat->Option (Nat×Nat)):∀ (l:List<|Nat×Value) (cells:Array Value),Instr.fill place cells l=nh place cells l
 | [],cells=>rfl
 | (i,v)::rest,cells=>by
  simp only[Instr.fill,nh];cases place i with
  | none=>rfl
  | some q=>
   obtain⟨off,size⟩:=q;by_cases h:v.cells.size≠size\/off+v.cells.size>cells.size
   ·simp[h]
   ·simp only[h,if_false];have b:¬ (v.cells.size≠size||decide (off+v.cells.size>cells.size))=true:=by simpa using h
    have a:off+0+v.cells.toList.length<=cells.size:=by simp;omega
    have e:=ss off v.cells.toList 0 cells a;simp only[zXb,zac] at e;have e2:v.cells.zipIdx.foldl (λcs (c,j)=>cs.setIfInBounds (off+j) c) cells=fk cells off v.cells:=by rw[<-e,<-Array.foldl_toList];simp
    simp only[b,if_false,zIa,e2];exact so place rest _
def xc{place:Nat->Option (Nat×Nat)}{cells:Array Value}{i off size:Nat}{v:Value}{rest:List<|Nat×Value}(hp:place i=some (off,size))(a:v.cells.size=size)(b:off+size<=cells.size) :
  nh place cells ((i,v)::rest)=nh place (fk cells off v.cells) rest:=by
 simp[nh,hp];grind
section
variable{α:Type}{enc:α->Array Value}{c:Nat}(hc:∀ x,(enc x).size=c)
include hc
def pQ(f:Nat->α)(k:Nat)(y:α):Nat->α:=λi=>if i=k then y else f i
end
end
noncomputable section
namespace Sy
open Go
inductive Ty where
 | int (k:IntKind)|bool|str|st (l:List Ty)|arr (n:Nat) (t:Ty)|sl (t:Ty)|tup (l:List Ty)|fn
mutual
def Ty.beq:Ty->Ty->Bool
 | .int k,.int k'=>decide (k=k')
 | .bool,.bool=>true
 | .str,.str=>true
 | .st l,.st l'=>Ty.beqs l l'
 | .arr n t,.arr n' t'=>decide (n=n')&&Ty.beq t t'
 | .sl t,.sl t'=>Ty.beq t t'
 | .tup l,.tup l'=>Ty.beqs l l'
 | .fn,.fn=>true
 | _,_=>false
def Ty.beqs:List Ty->List Ty->Bool
 | [],[]=>true
 | t::l,t'::l'=>Ty.beq t t'&&Ty.beqs l l'
 | _,_=>false
end
mutual
theorem ags:∀ (t t':Ty),t.beq t'=true->t=t'
 | .int k,t',h=>by cases t'<;>simp[Ty.beq] at h;rw[h]
 | .bool,t',h=>by grind [Ty.beq]
 | .str,t',h=>by grind [Ty.beq]
 | .st l,t',h=>by cases t'<;>simp[Ty.beq] at h;rw[agt _ _ h]
 | .arr n t,t',h=>by cases t'<;>simp[Ty.beq] at h;rw[h.1,ags _ _ h.2]
 | .sl t,t',h=>by cases t'<;>simp[Ty.beq] at h;rw[ags _ _ h]
 | .tup l,t',h=>by cases t'<;>simp[Ty.beq] at h;rw[agt _ _ h]
 | .fn,t',h=>by grind [Ty.beq]
theorem agt:∀ (l l':List Ty),Ty.beqs l l'=true->l=l'
 | [],l',h=>by grind [Ty.beqs]
 | t::l,l',h=>by
  cases l' with
  | nil=>simp[Ty.beqs] at h
  | cons t' l'=>simp[Ty.beqs] at h;rw[ags _ _ h.1,agt _ _ h.2]
end
mutual
def Ty.size:Ty->Nat
 | .st l=>agv l
 | .arr n t=>n*t.size
 | .tup _=>0
 | _=>1
def agv:List Ty->Nat
 | []=>0
 | t::l=>t.size+agv l
end
inductive D where
 | int (k:IntKind) (n:Int)|bool (b:Bool)|str (s:ByteArray)|st (l:List D)|sl (l:List D)|tup (l:List D)
instance:Inhabited D:=⟨.bool false⟩
mutual
def D.flat:D->List D
 | .st l=>N l
 | .int k n=>[.int k n]
 | .bool b=>[.bool b]
 | .str s=>[.str s]
 | .sl l=>[.sl l]
 | .tup l=>[.tup l]
def N:List D->List D
 | []=>[]
 | d::l=>D.flat d++N l
end
mutual
def wt:Ty->D->Prop
 | .int k,d=>∃ n,d=.int k n
 | .bool,d=>∃ b,d=.bool b
 | .str,d=>∃ s,d=.str s
 | .st ts,d=>∃ l,d=.st l/\fq ts l
 | .arr n t,d=>∃ l,d=.st l/\l.length=n/\∀ x∈l,wt t x
 | .sl t,d=>∃ l,d=.sl l/\∀ x∈l,wt t x
 | .tup ts,d=>∃ l,d=.tup l/\fq ts l
 | .fn,_=>False
def fq:List Ty->List D->Prop
 | [],l=>l=[]
 | t::ts,l=>∃ d l',l=d::l'/\wt t d/\fq ts l'
end
mutual
def D.beq:D->D->Bool
 | .int k n,.int k' n'=>decide (k=k')&&decide (n=n')
 | .bool b,.bool b'=>b==b'
 | .str s,.str s'=>decide (s=s')
 | .st l,.st l'=>D.beqs l l'
 | _,_=>false
def D.beqs:List D->List D->Bool
 | [],[]=>true
 | t::l,t'::l'=>D.beq t t'&&D.beqs l l'
 | _,_=>false
end
mutual
def aw:Ty->D
 | .int k=>.int k 0
 | .bool=>.bool false
 | .str=>.str ByteArray.empty
 | .st l=>.st (ii l)
 | .arr n t=>.st (List.replicate n<|aw t)
 | .sl _=>.sl []
 | .tup l=>.tup (ii l)
 | .fn=>.bool false
def ii:List Ty->List D
 | []=>[]
 | t::l=>aw t::ii l
end
mutual
def Ro:Ty->Bool
 | .st l=>Bm l
 | .arr _ t=>Ro t
 | .sl _=>true
 | .tup _=>true
 | .fn=>true
 | _=>false
def Bm:List Ty->Bool
 | []=>false
 | t::l=>Ro t||Bm l
end
mutual
def aj:Ty->Bool
 | .st l=>aP l
 | .arr _ t=>aj t
 | .sl t=>aj t
 | .tup _=>false
 | .fn=>false
 | _=>true
def aP:List Ty->Bool
 | []=>true
 | t::l=>aj t&&aP l
end
inductive Ex where
 | normal|exit (id:Nat)|ret
def Ex.is:Ex->Ex->Bool
 | .normal,.normal=>true
 | .exit i,.exit j=>decide (i=j)
 | .ret,.ret=>true
 | _,_=>false
def F5:Option Ex->Option Ex->Bool
 | none,none=>true
 | some e,some a=>e.is a
 | _,_=>false
inductive AV where
 | d (t:Ty) (x:D)
 | own (t:Ty) (v:Nat) (l:List D)
 | nils
 | ptr (t:Ty) (id:Nat) (p:List Nat)
 | fptr (t:Ty) (x:D)
 | mem (t:Ty) (id:Nat)
 | st (ts:List Ty) (l:List AV)
 | clo (f:Nat) (l:List AV)
 | map (kt vt:Ty) (id:Nat)
 | sub (sl:Bool) (t:Ty) (id:Nat) (p:List Nat) (lo n:Nat)
 | tpo (t:Ty) (v:Nat) (ts:List Ty) (y:D)
 | yld (id:Nat)
 | gone
 | undef
instance:Inhabited AV:=⟨.undef⟩
structure LpI where
 nt:Nat
 ps:List Nat
 asg:Code
 bdy:Code
 caps:Nat->AV
inductive Ob where
 | one (t:Ty) (v:AV)
 | many (t:Ty) (l:List D)
 | mp (kt vt:Ty) (l:List D)
 | lp (i:LpI) (pend:Option Ex)
 | fv (v:AV)
def D.fld:D->Nat->Option D
 | .st l,i=>l[i]?
 | _,_=>none
def D.tupAt:D->Nat->Option D
 | .tup l,i=>l[i]?
 | _,_=>none
def nr{R:Type}(y:D):Nat->List Ty->(List AV->Option R)->Option R
 | _,[],k=>k []
 | i,t::ts,k=>(y.fld i).bind λz=>nr y (i+1) ts λl=>k<|.d t z::l
def D.get:D->List Nat->Option D
 | x,[]=>some x
 | x,i::p=>(x.fld i).bind λy=>y.get p
def D.set:D->List Nat->D->Option D
 | _,[],y=>some y
 | .st l,i::p,y=>(l[i]?).bind λz=>(D.set z p y).bind λa=>some (.st<|l.set i a)
 | _,_::_,_=>none
def D.asSl:D->Option (List D)
 | .sl l=>some l
 | _=>none
def D.stl:D->Option (List D)
 | .st l=>some l
 | _=>none
def D.asInt:D->Option (IntKind×Int)
 | .int k n=>some (k,n)
 | _=>none
def D.truth:D->Option Bool
 | .bool b=>some b
 | _=>none
def D.idx:D->Nat->Option Nat
 | .int _ i,n=>if 0<=i/\i<(n:Int) then some i.toNat else none
 | _,_=>none
def afO:D->D->Option D
 | .str s,.int _ i=>(if 0<=i then s[i.toNat]? else none).bind λb=>some (.int .u8 b.toNat)
 | _,_=>none
def D.slen:D->Option D
 | .str s=>some (.int .i64 s.size)
 | _=>none
def D.conv(k:IntKind):D->Option D
 | .int _ n=>some (.int k<|k.wrap n)
 | _=>none
def afB(op:BinOp)(k:IntKind)(x y:Int):Option D:=
 match op with
 | .and=>some (.int k<|k.wrap (BitVec.ofInt k.bits x &&& BitVec.ofInt k.bits y).toNat)
 | .or=>some (.int k<|k.wrap (BitVec.ofInt k.bits x ||| BitVec.ofInt k.bits y).toNat)
 | .xor=>some (.int k<|k.wrap (BitVec.ofInt k.bits x ^^^ BitVec.ofInt k.bits y).toNat)
 | .andNot=>some (.int k<|k.wrap (BitVec.ofInt k.bits x &&& ~~~ BitVec.ofInt k.bits y).toNat)
 | _=>none
def afA(op:BinOp):D->D->Option D
 | .int k a,.int k' b=>
  match op with
  | .shl=>if b<0 then none else some (.int k<|k.wrap<|a*2^(min b.toNat k.bits))
  | .shr=>if b<0 then none else some (.int k<|a.fdiv<|2^(min b.toNat k.bits))
  | _=>if k=k' then
   match op with
   | .add=>some (.int k<|k.wrap<|a+b)
   | .sub=>some (.int k<|k.wrap<|a-b)
   | .mul=>some (.int k<|k.wrap<|a*b)
   | .quo=>if b=0 then none else some (.int k<|k.wrap<|a.tdiv b)
   | .rem=>if b=0 then none else some (.int k<|a.tmod b)
   | .eql=>some (.bool<|a==b)
   | .neq=>some (.bool<|a != b)
   | .lss=>some (.bool<|decide (a<b))
   | .leq=>some (.bool<|decide (a<=b))
   | .gtr=>some (.bool<|decide (a>b))
   | .geq=>some (.bool<|decide (a ≥ b))
   | .and=>afB .and k a b
   | .or=>afB .or k a b
   | .xor=>afB .xor k a b
   | .andNot=>afB .andNot k a b
   | _=>none
   else none
 | _,_=>none
def afP(op:UnOp):D->Option D
 | .int k n=>match op with
  | .neg=>some (.int k<|k.wrap<|0-n)
  | .xor=>afB .xor k (if k.signed then -1 else k.max) n
  | _=>none
 | .bool b=>match op with
  | .not=>some (.bool<|!b)
  | _=>none
 | _=>none
def D.min2:D->D->Option D
 | .int k x,.int _ y=>some (.int k<|if y<x then y else x)
 | _,_=>none
def D.max2:D->D->Option D
 | .int k x,.int _ y=>some (.int k<|if y>x then y else x)
 | _,_=>none
def D.cut(l:List D)(lo hi:Nat):Option (List D):=if lo<=hi/\hi<=l.length then some ((l.take hi).drop lo) else none
def D.natOf:D->Option Nat
 | .int _ i=>if 0<=i then some i.toNat else none
 | _=>none
def afN:List D->List (Nat×D)->List D
 | l,[]=>l
 | l,(i,x)::r=>afN (l.set i x) r
def aS:Ty->List Nat->Option Ty
 | t,[]=>some t
 | .st ts,i::p=>(ts[i]?).bind λt=>aS t p
 | .arr _ t,_::p=>aS t p
 | _,_=>none
def aZ:Ty->List Nat->Nat
 | _,[]=>0
 | .st ts,i::p=>agv (ts.take i)+aZ (ts.getD i .bool) p
 | .arr _ t,i::p=>i*t.size+aZ t p
 | _,_=>0
def Bj{R:Type}:AV->List Nat->(AV->Option R)->Option R
 | .d t x,p,k=>match p with
  | []=>k (.d t x)
  | i::p=>(aS t<|i::p).bind λt'=>(x.get<|i::p).bind λy=>k (.d t' y)
 | a,[],k=>k a
 | .st _ l,i::p,k=>(l[i]?).bind λa=>Bj a p k
 | _,_,_=>none
mutual
def AV.fits:Ty->AV->Bool
 | t,.d t' _=>t.beq t'
 | .sl t,.own t' _ _=>t.beq t'
 | .sl _,.nils=>true
 | .st ts,.st ts' l=>Ty.beqs ts ts'&&AV.fitss ts l
 | _,_=>false
def AV.fitss:List Ty->List AV->Bool
 | [],[]=>true
 | t::ts,a::l=>AV.fits t a&&AV.fitss ts l
 | _,_=>false
end
def Gr{R:Type}:AV->List Nat->AV->(AV->Option R)->Option R
 | _,[],b,k=>k b
 | .d t x,i::p,b,k=>match b with
  | .d _ y=>(x.set (i::p) y).bind λc=>k (.d t c)
  | _=>none
 | .st ts l,i::p,b,k=>(l[i]?).bind λa=>Gr a p b λa'=>k (.st ts<|l.set i a')
 | _,_::_,_,_=>none
mutual
def mw:Ty->AV
 | .sl _=>.nils
 | .st ts=>if Bm ts then .st ts (lC ts) else .d (.st ts) (aw<|.st ts)
 | t=>.d t<|aw t
def lC:List Ty->List AV
 | []=>[]
 | t::l=>mw t::lC l
end
def gV{R:Type}:Ob->List Nat->(AV->Option R)->Option R
 | .one _ v,p,k=>Bj v p k
 | .many t l,i::p,k=>(l[i]?).bind λx=>Bj (.d t x) p k
 | _,_,_=>none
def fA:Ob->List Nat->Option Ty
 | .one t _,p=>aS t p
 | .many t _,_::p=>aS t p
 | .fv _,[]=>some .fn
 | _,_=>none
structure St where
 tm:Nat->AV
 ob:Nat->Option Ob
 fresh:Nat
 dead:List Nat
 nt:Nat
 lkS:List Nat
 lkO:List Nat
def St.put(s:St)(a:Option Nat)(v:AV):St:=
 match a with
 | some t=>if t<s.nt then{ s with tm:=λi=>if i=t then v else s.tm i } else s
 | none=>s
def St.base(s:St):Nat:=s.fresh*4096
def St.setOb(s:St)(id:Nat)(o:Option Ob):St:={ s with ob:=λi=>if i=id then o else s.ob i }
mutual
def afv(ob:Nat->Option Ob):Ty->AV->Option D
 | t,.d t' x=>if t.beq t' then some x else none
 | t,.own t' _ l=>if t.beq (.sl t') then some (.sl l) else none
 | t,.nils=>match t with
  | .sl _=>some (.sl [])
  | _=>none
 | t,.st ts' l=>if t.beq (.st ts') then(AV.toDl ob ts' l).bind λxs=>some (.st xs) else none
 | _,_=>none
def AV.toDl(ob:Nat->Option Ob):List Ty->List AV->Option (List D)
 | [],[]=>some []
 | t::ts,a::l=>(afv ob t a).bind λx=>(AV.toDl ob ts l).bind λxs=>some (x::xs)
 | _,_=>none
end
def AV.asList(ob:Nat->Option Ob)(t:Ty)(a:AV):Option (List D):=(afv ob (.sl t) a).bind D.asSl
def AV.truth:AV->Option Bool
 | .d t x=>if t.beq .bool then x.truth else none
 | _=>none
inductive Sh where
 | dv (t:Ty)
 | ow (t:Ty)
 | same (a:AV)
 | st (ts:List Ty) (l:List Sh)
inductive ShO where
 | one (t:Ty) (h:Sh)
 | many (t:Ty)
 | mp (kt vt:Ty)
 | keep (t:Ty) (wit:Nat)
 | lp (pend:Option Ex) (wit:Nat)
 | fv (a:AV)
structure Shape where
 slots:List (Nat×Sh)
 objs:List (Nat×ShO)
 keepS:List Nat
inductive Ann where
 | leaf
 | reg (fz:List Nat) (n:Nat)
 | regI (fz:List Nat) (n:Nat) (a:Ann)
 | two (a b:Ann)
 | cut (exits:List (Ex×Shape)) (keepS keepO:List Nat) (a b:Ann)
 | loop (h:Shape) (exits:List (Ex×Shape)) (a:Ann)
 | all (exits:List (Ex×Shape)) (keepS keepO:List Nat) (a:Ann)
def Ann.fz:Ann->List Nat|.reg fz _=>fz|.regI fz _ _=>fz|_=>[]
def Ann.heads(m:Nat):Ann->Nat|.reg _ n=>n|.regI _ n _=>n|_=>m
def Ann.inner:Ann->Ann|.regI _ _ a=>a|_=>.leaf
def Ann.fst:Ann->Ann|.two a _=>a|.cut _ _ _ a _=>a|.loop _ _ a=>a|_=>.leaf
def Ann.snd:Ann->Ann|.two _ b=>b|.cut _ _ _ _ b=>b|_=>.leaf
structure Env where
 L:Nat->Option Ty
 sig:Nat->Option (List Ty×Ty)
 call:Nat->List D->Option D
 mapL:Nat->Option (Ty×Ty)
 lp:{α β:Type}->(α->Option (Sum α β))->α->Option β
 inl:Nat->Option (Ann->(R:Type)->St->List AV->(AV->St->Option R)->Option R)
 cod:Code->Ann->(R:Type)->St->(Ex->St->Option R)->Option R
 free:Nat->Nat
 pv:Nat->Bool
 fnT:Nat->Bool
 ownF:Nat->Bool
def Env.alTy(E:Env)(T:Nat):Option Ty:=bif E.fnT T then some .fn else E.L T
def Env.alOb(E:Env)(T:Nat):Option Ob:=bif E.fnT T then some (.fv .undef) else(E.L T).map λt=>.one t<|mw t
def np:AV->Bool
 | .clo ..=>true
 | .yld _=>true
 | .map ..=>true
 | _=>false
structure Inl where
 pv:Nat->Bool
 f:Nat->Option (Ann->(R:Type)->St->List AV->(AV->St->Option R)->Option R)
 cod:Code->Ann->(R:Type)->St->(Ex->St->Option R)->Option R
def LT:Value->AV
 | .int k n=>.d (.int k) (.int k n)
 | .bool b=>.d .bool (.bool b)
 | .string s=>.d .str (.str s)
 | .slice none 0 0=>.nils
 | _=>.undef
def St.opA(s:St):Operand->AV
 | .tmp t=>s.tm t
 | .const v=>LT v
 | .func f=>.clo f []
 | _=>.undef
def isD:AV->Option (Ty×D)
 | .d t x=>some (t,x)
 | _=>none
mutual
def bS:Ty->Bool
 | .int _=>true
 | .bool=>true
 | .st ts=>nL ts
 | .arr _ t=>bS t
 | _=>false
def nL:List Ty->Bool
 | []=>true
 | t::l=>bS t&&nL l
end
def partsD(ob:Nat->Option Ob)(s:St)(ty:Nat->Option Ty):List (Nat×Operand)->Option (List<|Nat×D)
 | []=>some []
 | (i,x)::r=>(ty i).bind λt=>(afv ob t<|s.opA x).bind λy=>(partsD ob s ty r).bind λa=>some<|(i,y)::a
def gR(s:St)(ts:List Ty)(p:Nat×Operand):Bool:=match ts[p.1]? with|some u=>AV.fits u (s.opA p.2)|none=>false
def gH:AV->Bool
 | .ptr ..=>true
 | _=>false
def oR:List AV->List (Nat×AV)->List AV
 | l,[]=>l
 | l,(i,x)::r=>oR (l.set i x) r
def afH:List D->D->Option D
 | [],_=>none
 | .st [k,v]::l,x=>if D.beq x k then some v else afH l x
 | _::l,x=>afH l x
def afI:List D->D->D->List D
 | [],x,y=>[.st [x,y]]
 | .st [k,v]::l,x,y=>if D.beq x k then .st [k,y]::l else .st [k,v]::afI l x y
 | e::l,x,y=>e::afI l x y
def dA:List Nat->Bool
 | []=>true
 | a::l=>!(l.contains a)&&dA l
def wM(l:List AV):List Nat:=l.map λx=>match x with|.ptr _ id _=>id|_=>0
def rW(ob:Nat->Option Ob):List Ty->List AV->Option (List D)
 | [],[]=>some []
 | t::ts,.ptr _ id []::l=>match ob id with
  | some (.one u v)=>if t.beq u then(afv ob t v).bind λz=>(rW ob ts l).bind λa=>some (z::a) else none
  | _=>none
 | _,_=>none
def yw:List AV->Bool
 | []=>true
 | .ptr _ _ []::l=>yw l
 | _::_=>false
def zI:Option Ob->Bool
 | some (.one _ _)=>true
 | some (.fv _)=>true
 | _=>false
def kE(ob:Nat->Option Ob):AV->AV
 | .d t x=>.d t x
 | .own t _ l=>.d (.sl t) (.sl l)
 | .fptr t x=>.fptr t x
 | .ptr t id []=>if zI (ob id) then .ptr t id [] else .undef
 | .clo f l=>if yw l&&l.all (λa=>match a with|.ptr _ id _=>zI (ob id)|_=>false) then .clo f l else .undef
 | .yld id=>.yld id
 | .map kt vt id=>.map kt vt id
 | _=>.undef
def nJ(ob:Nat->Option Ob):AV->AV
 | .ptr _ id []=>match ob id with
  | some (.one t _)=>.ptr t id []
  | some (.fv _)=>.ptr .fn id []
  | _=>.undef
 | _=>.undef
def pz(ob:Nat->Option Ob):AV->AV
 | .d t x=>.d t x
 | .fptr t x=>.fptr t x
 | .ptr t id p=>nJ ob (.ptr t id p)
 | .clo f l=>if(l.map<|nJ ob).all gH then .clo f (l.map<|nJ ob) else .undef
 | .yld id=>.yld id
 | .map kt vt id=>match ob id with
  | some (.mp a b _)=>if kt.beq a&&vt.beq b then .map kt vt id else .undef
  | _=>.undef
 | _=>.undef
def qv{R:Type}(E:Env)(s:St)(o:Oper)(K:AV->Option R):Option R:=
 match o.op with
 | .move x=>K (s.opA x)
 | .assign x=>K (s.opA x)
 | .pick c a b=>(s.opA c).truth.bind λc=>if c then K (s.opA a) else K (s.opA b)
 | .alloc T=>(E.alTy T).bind λt=>o.dst.bind λd=>K (.ptr t (s.base+d) [])
 | .load T a=>bif E.fnT T then(match s.opA a with|.ptr .fn id []=>(match s.ob id with|some (.fv v)=>if np (pz s.ob v) then K (pz s.ob v) else none|_=>none)|_=>none) else(E.L T).bind λt=>match s.opA a with
  | .ptr t' id p=>if t.beq t' then(s.ob id).bind λo=>gV o p K else none
  | .fptr t' x=>if t.beq t' then K (.d t' x) else none
  | .sub sl e id p lo n=>if !sl&&t.beq (.arr n e) then(s.ob id).bind λo=>gV o p λv=>match v with
    | .d (.arr _ j) (.st l)=>if j.beq e&&decide (lo+n<=l.length) then K (.d (.arr n e)<|.st<|(l.drop lo).take n) else none
    | _=>none
   else none
  | _=>none
 | .fieldAddr T x f=>(E.L T).bind λt=>match t,s.opA x with
  | .st ts,.ptr t' id p=>if t'.beq (.st ts) then(ts[f]?).bind λu=>K (.ptr u id<|p++[f]) else none
  | .st ts,.fptr t' y=>if t'.beq (.st ts) then(ts[f]?).bind λu=>(y.fld f).bind λz=>K (.fptr u z) else none
  | _,_=>none
 | .indexAddr T x i=>(E.L T).bind λt=>(isD<|s.opA i).bind λh=>match t with
  | .arr n e=>match s.opA x with
   | .ptr t' id p=>if t'.beq (.arr n e) then(h.2.idx n).bind λk=>K (.ptr e id<|p++[k]) else none
   | .fptr t' y=>if t'.beq (.arr n e) then(h.2.idx n).bind λk=>(y.fld k).bind λz=>K (.fptr e z) else none
   | _=>none
  | .sl e=>match s.opA x with
   | .mem t' id=>if t'.beq e then match s.ob id with
     | some (.many _ l)=>(h.2.idx l.length).bind λk=>K (.ptr e id [k])
     | _=>none
    else none
   | .sub sl j id p lo n=>if sl&&j.beq e then(h.2.idx n).bind λk=>K (.ptr e id<|p++[lo+k]) else none
   | a=>(a.asList s.ob e).bind λl=>(h.2.idx l.length).bind λk=>(l[k]?).bind λy=>K (.fptr e y)
  | _=>none
 | .field T x f=>(E.L T).bind λt=>match t,s.opA x with
  | .st ts,.d t' y=>if t'.beq (.st ts) then(ts[f]?).bind λu=>(y.fld f).bind λz=>K (.d u z) else none
  | _,_=>none
 | .index T x i=>(E.L T).bind λt=>(isD<|s.opA i).bind λh=>match t,s.opA x with
  | .arr n e,.d t' y=>if t'.beq (.arr n e) then(h.2.idx n).bind λk=>(y.fld k).bind λz=>K (.d e z) else none
  | .str,.d t' y=>if t'.beq .str then(afO y h.2).bind λz=>K (.d (.int .u8) z) else none
  | _,_=>none
 | .binOp op T x y _=>(E.L T).bind λt=>(isD<|s.opA x).bind λa=>(isD<|s.opA y).bind λb=>
  match op with
  | .eql=>if a.1.beq t&&b.1.beq t&&bS t then K (.d .bool<|.bool<|D.beq a.2 b.2) else none
  | .neq=>if a.1.beq t&&b.1.beq t&&bS t then K (.d .bool<|.bool<|!(D.beq a.2 b.2)) else none
  | .lss=>(afA .lss a.2 b.2).bind λz=>K (.d .bool z)
  | .leq=>(afA .leq a.2 b.2).bind λz=>K (.d .bool z)
  | .gtr=>(afA .gtr a.2 b.2).bind λz=>K (.d .bool z)
  | .geq=>(afA .geq a.2 b.2).bind λz=>K (.d .bool z)
  | op=>(afA op a.2 b.2).bind λz=>K (.d a.1 z)
 | .unOp op _ x=>(isD<|s.opA x).bind λa=>(afP op a.2).bind λz=>K (.d a.1 z)
 | .convert S T x=>(E.L S).bind λu=>(E.L T).bind λt=>(isD<|s.opA x).bind λa=>
  match t with
  | .int k=>if a.1.beq u then(D.conv k a.2).bind λz=>K (.d t z) else none
  | _=>none
 | .build T ps=>(E.L T).bind λt=>match t with
  | .st ts=>if Bm ts then(if ps.toList.all (gR s ts) then K (.st ts<|oR (lC ts)<|ps.toList.map λp=>(p.1,s.opA p.2)) else none)
   else(partsD s.ob s (λi=>ts[i]?) ps.toList).bind λl=>K (.d t<|.st<|afN (ii ts) l)
  | .arr n e=>(partsD s.ob s (λi=>if i<n then some e else none) ps.toList).bind λl=>K (.d t<|.st<|afN (List.replicate n<|aw e) l)
  | _=>none
 | .buildSlice T n ps=>(E.L T).bind λt=>match t with
  | .sl e=>if n<=4096 then o.dst.bind λd=>(partsD s.ob s (λi=>if i<n then some e else none) ps.toList).bind λl=>K (.own e (s.base+d)<|afN (List.replicate n<|aw e) l) else none
  | _=>none
 | .extract x i=>match s.opA x with
  | .d (.tup ts) y=>(ts[i]?).bind λu=>(y.tupAt i).bind λz=>K (.d u z)
  | .tpo t v ts y=>match i with
   | 0=>(y.tupAt 0).bind λz=>z.asSl.bind λl=>K (.own t v l)
   | i+1=>(ts[i]?).bind λu=>(y.tupAt<|i+1).bind λz=>K (.d u z)
  | _=>none
 | .nilCheck x=>match s.opA x with
  | .ptr t id p=>K (.ptr t id p)
  | _=>none
 | .slice T x lo hi mx=>match mx with
  | some _=>none
  | none=>(E.L T).bind λt=>match t with
   | .sl e=>((s.opA x).asList s.ob e).bind λl=>
    (match lo with|none=>some 0|some i=>(isD<|s.opA i).bind λa=>a.2.natOf).bind λlo=>
    (match hi with|none=>some l.length|some i=>(isD<|s.opA i).bind λa=>a.2.natOf).bind λhi=>
    (D.cut l lo hi).bind λl'=>K (.d t<|.sl l')
   | .arr m e=>match s.opA x with
    | .ptr t' id p=>if t'.beq (.arr m e) then
     (match lo with|none=>some 0|some i=>(isD<|s.opA i).bind λa=>a.2.natOf).bind λlo=>
     (match hi with|none=>some m|some i=>(isD<|s.opA i).bind λa=>a.2.natOf).bind λhi=>
     if lo<=hi/\hi<=m/\lo<m then K (.sub true e id p lo<|hi-lo) else none
     else none
    | _=>none
   | _=>none
 | .sliceToArrayPointer T x=>(E.L T).bind λt=>match t,s.opA x with
  | .arr n e,.sub sl j id p lo n'=>if sl&&j.beq e&&decide (n<=n') then K (.sub false e id p lo n) else none
  | .arr n e,a=>(a.asList s.ob e).bind λl=>if decide (1<=n)&&decide (n<=l.length) then K (.fptr (.arr n e)<|.st<|l.take n) else none
  | _,_=>none
 | .lookup T x i q=>(E.mapL T).bind λB=>match s.opA x with
  | .map kt vt id=>if kt.beq B.1&&vt.beq B.2 then match s.ob id with
    | some (.mp w A l)=>if w.beq kt&&A.beq vt then(isD<|s.opA i).bind λh=>if h.1.beq kt then
      match q with
      | false=>K (.d vt<|(afH l h.2).getD<|aw vt)
      | true=>K (.d (.tup [vt,.bool])<|.tup [(afH l h.2).getD<|aw vt,.bool (afH l h.2).isSome])
      else none
     else none
    | _=>none
   else none
  | _=>none
 | .makeSlice T x y=>(isD<|s.opA x).bind λa=>(a.2.natOf).bind λz=>if z=0 then(E.L T).bind λt=>match t with
  | .sl e=>o.dst.bind λd=>(isD<|s.opA y).bind λb=>(b.2.natOf).bind λn=>if n<=1073741824 then K (.own e (s.base+d) []) else none
  | _=>none
  else none
 | .makeFunc fn first captured=>match fn with
  | .func f=>if first.size=0/\(captured.toList.all λx=>gH<|s.opA x)=true then K (.clo f<|captured.toList.map s.opA) else none
  | _=>none
 | .call c=>match c.callee with
  | .builtin .len=>(c.argTypes[0]?).bind λT=>(E.L T).bind λt=>(c.args[0]?).bind λx=>match t with
   | .sl e=>match s.opA x with
    | .mem t' id=>if t'.beq e then match s.ob id with
      | some (.many _ l)=>K (.d (.int .i64)<|.int .i64 l.length)
      | _=>none
     else none
    | .sub sl j _ _ _ n=>if sl&&j.beq e then K (.d (.int .i64)<|.int .i64 n) else none
    | a=>(a.asList s.ob e).bind λl=>K (.d (.int .i64)<|.int .i64 l.length)
   | .arr n _=>K (.d (.int .i64)<|.int .i64 n)
   | .str=>(isD<|s.opA x).bind λa=>if a.1.beq .str then(D.slen a.2).bind λz=>K (.d (.int .i64) z) else none
   | _=>none
  | .builtin .min=>match c.args.toList with
   | [x,y]=>(isD<|s.opA x).bind λa=>(isD<|s.opA y).bind λb=>if a.1.beq b.1 then(D.min2 a.2 b.2).bind λz=>K (.d a.1 z) else none
   | _=>none
  | .builtin .max=>match c.args.toList with
   | [x,y]=>(isD<|s.opA x).bind λa=>(isD<|s.opA y).bind λb=>if a.1.beq b.1 then(D.max2 a.2 b.2).bind λz=>K (.d a.1 z) else none
   | _=>none
  | .value (.func f)=>(E.sig f).bind λg=>bif Nat.beq (E.free f) 0 then(AV.toDl s.ob g.1<|c.args.toList.map s.opA).bind λxs=>(E.call f xs).bind λy=>bif E.ownF f then(o.dst.bind λd=>match g.2 with|.sl t=>y.asSl.bind λl=>K (.own t (s.base+d) l)|.tup (.sl t::ts)=>K (.tpo t (s.base+d) ts y)|.st (.sl t::ts)=>(y.fld 0).bind λz=>z.asSl.bind λl=>nr y 1 ts λr=>K (.st (.sl t::ts)<|.own t (s.base+d) l::r)|_=>none) else K (.d g.2 y) else none
  | .value (.tmp t)=>match s.tm t with
   | .clo f l=>(E.sig f).bind λg=>bif Nat.beq (E.free f) l.length&&dA (wM l) then(AV.toDl s.ob (g.1.take<|g.1.length-l.length)<|c.args.toList.map s.opA).bind λxs=>(rW s.ob (g.1.drop<|g.1.length-l.length) l).bind λC=>(E.call f<|xs++C).bind λy=>K (.d g.2 y) else none
   | _=>none
  | _=>none
 | _=>none
def vN{R:Type}(E:Env)(s:St)(o:Oper)(K:St->Option R):Option R:=
 match o.op with
 | .store T a x=>bif E.fnT T then(match s.opA a with|.ptr .fn id []=>if np (kE s.ob<|s.opA x)&&!(s.lkO.contains id) then(match s.ob id with|some (.fv _)=>K (s.setOb id<|some<|.fv<|kE s.ob<|s.opA x)|_=>none) else none|_=>none) else(E.L T).bind λt=>match s.opA a with
  | .ptr t' id p=>if t.beq t'&&AV.fits t (s.opA x)&&!(s.lkO.contains id) then match s.ob id with
    | some (.one u v)=>Gr v p (s.opA x) λv'=>K (s.setOb id<|some<|.one u v')
    | some (.many u l)=>match p with
     | i::A=>(l[i]?).bind λz=>(afv s.ob t<|s.opA x).bind λy=>(D.set z A y).bind λH=>K (s.setOb id<|some<|.many u<|l.set i H)
     | []=>none
    | _=>none
   else none
  | _=>none
 | .makeMap T B=>match B with
  | some _=>none
  | none=>(E.mapL T).bind λb=>o.dst.bind λd=>K ((s.setOb (s.base+d)<|some<|.mp b.1 b.2 []).put o.dst<|.map b.1 b.2<|s.base+d)
 | .mapUpdate T m k v=>if o.dst.isSome then none else(E.mapL T).bind λb=>match s.opA m with
  | .map kt vt id=>if kt.beq b.1&&vt.beq b.2&&!(s.lkO.contains id) then match s.ob id with
    | some (.mp r C l)=>if r.beq kt&&C.beq vt then(afv s.ob kt<|s.opA k).bind λF=>(afv s.ob vt<|s.opA v).bind λG=>K (s.setOb id<|some<|.mp kt vt<|afI l F G) else none
    | _=>none
   else none
  | _=>none
 | .box T x=>bif E.fnT T then(o.dst.bind λd=>if np (kE s.ob<|s.opA x) then K ((s.setOb (s.base+d)<|some<|.fv<|kE s.ob<|s.opA x).put o.dst<|.ptr .fn (s.base+d) []) else none) else(E.L T).bind λt=>o.dst.bind λd=>if AV.fits t (s.opA x) then K ((s.setOb (s.base+d)<|some<|.one t<|s.opA x).put o.dst<|.ptr t (s.base+d) []) else none
 | .makeSlice T l c=>match l with
  | .tmp i=>(E.L T).bind λt=>o.dst.bind λd=>match t,c with
   | .sl e,.tmp j=>if i=j then(isD<|s.tm i).bind λa=>(a.2.natOf).bind λn=>if n<=1073741824 then K ((s.setOb (s.base+d)<|some<|.many e<|List.replicate n<|aw e).put o.dst<|.mem e<|s.base+d) else none else none
   | _,_=>none
  | _=>qv E s o λv=>K (s.put o.dst v)
 | .call c=>match c.callee with
  | .builtin .append=>(c.argTypes[0]?).bind λT=>(E.L T).bind λt=>o.dst.bind λd=>match t,c.args.toList,c.argTypes.toList with
   | .sl e,[x,y],[_,T']=>match E.L T' with
    | some (.sl _)=>((s.opA y).asList s.ob e).bind λl'=>match s.opA x with
     | .own h v l=>if h.beq e&&!(s.dead.contains v) then(if l.length+l'.length<=1073741824 then K ({ s with dead:=v::s.dead }.put o.dst (.own e (s.base+d)<|l++l')) else none) else none
     | .nils=>if l'.length<=1073741824 then K (s.put o.dst<|.own e (s.base+d) l') else none
     | _=>none
    | _=>none
   | _,_,_=>none
  | .builtin .copy=>match c.args.toList,c.argTypes.toList with
   | [x,y],[T,_]=>match E.L T with
    | some (.sl (.int k))=>match s.opA x,s.opA y with
     | .sub true e id [] lo n,.sub true h q A w n'=>match s.ob id,s.ob q with
      | some (.one (.arr m f) (.d g x)),some o'=>gV o' A λv=>match v with
       | .d (.arr J I) y=>
       if e.beq (.int k)&&h.beq (.int k)&&f.beq (.int k)&&g.beq (.arr m f)&&!(s.lkO.contains id) then
        x.stl.bind λl=>y.stl.bind λl'=>K ((s.setOb id<|some<|.one (.arr m f)<|.d g<|.st<|l.take lo++((l'.drop w).take (min n' n)++l.drop (lo+min n' n))).put o.dst<|.d (.int .i64)<|.int .i64 (min n' n:Nat))
       else none
       | _=>none
      | _,_=>none
     | _,_=>none
    | _=>none
   | _,_=>none
  | _=>qv E s o λv=>K (s.put o.dst v)
 | _=>qv E s o λv=>K<|s.put o.dst v
def pK(s:St)(o:Oper):Bool:=match o.dst with|some d=>s.lkS.contains d|none=>false
def Vi{R:Type}(E:Env)(s:St)(o:Oper)(K:St->Option R):Option R:=if pK s o then none else vN E s o K
def ik(E:Env):List Oper->St->St
 | [],s=>s
 | o::l,s=>ik E l (match o.op,o.dst with
  | .alloc T,some d=>match E.alOb T with
   | some x=>s.setOb (s.base+d) (some x)
   | none=>s
  | _,_=>s)
def killD(s:St):List Oper->St
 | []=>s
 | o::l=>killD (s.put o.dst .undef) l
def zH(i:Nat)(o:Oper):Bool:=match o.guard with|some (j,_)=>decide (j=i)|none=>false
def sE(d:Option Nat)(o:Oper):Bool:=match o.op,d with|.pick (.tmp c) _ _,some d=>decide (c=d)|_,_=>false
def eI(d:Option Nat):List (Nat×Oper)->List (Nat×Oper)×List (Nat×Oper)
 | []=>([],[])
 | p::l=>if sE d p.2 then([],p::l) else let r:=eI d l;(p::r.1,r.2)
def gU(o:Oper):Bool:=match o.op with
 | .store ..|.box ..|.makeSlice ..|.makeMap ..|.mapUpdate ..|.alloc _=>false
 | .call c=>match c.callee with|.builtin .append=>false|.builtin .copy=>false|_=>true
 | _=>true
def A4(o:Oper):Bool:=match o.op with
 | .alloc _=>true|.box ..=>true|.makeSlice ..=>true|.makeMap ..=>true|.buildSlice ..=>true
 | .call c=>match c.callee with|.builtin .append=>true|.value (.func _)=>true|_=>false
 | _=>false
def nk(E:Env)(o:Oper):Bool:=match o.op with
 | .call c=>match c.callee with|.value (.func f)=>(E.inl f).isSome|.value (.tmp t)=>!E.pv t|_=>false
 | _=>false
def uk(s:St)(c:Call):Option (Nat×List AV):=match c.callee with
 | .value (.func f)=>some (f,c.args.toList.map s.opA)
 | .value (.tmp t)=>match s.tm t with|.clo f l=>if l.all gH then some (f,c.args.toList.map s.opA++l) else none|_=>none
 | _=>none
def uG(i:Nat)(l:List<|Nat×Oper):Bool:=match l with|p::_=>zH i p.2|[]=>false
def Bo{α:Type}(x:AV)(A B:Option α):Option α:=match x with|.gone=>A|_=>B
theorem gF{α:Type}{A B:Option α}:Bo .gone A B=A:=rfl
def gG{α:Type}{x:AV}{A B:Option α}(h:x≠.gone):Bo x A B=B:=by cases x<;>first|rfl|exact z8a rfl h
def fL(s:St):List Nat:=(List.range s.nt).filterMap λt=>match s.tm t with|.own _ v _=>if s.dead.contains v then none else some v|_=>none
def yS(s:St)(a:List Nat):List Nat:=(fL s).filter λv=>!(a.contains v)
def Fx(s:St)(a:List AV):Ty->List Nat
 | .sl t=>a.filterMap λx=>match x with|.own t' v _=>if t'.beq t&&!(s.dead.contains v) then some v else none|_=>none
 | _=>[]
def mP:Option Ob->Option Ob->Bool
 | some (.one t _),some (.one t' _)=>t.beq t'
 | some (.many t _),some (.many t' _)=>t.beq t'
 | some (.mp kt vt _),some (.mp a b _)=>kt.beq a&&vt.beq b
 | some (.fv _),some (.fv _)=>true
 | _,none=>true
 | _,_=>false
def Np(ob a:Nat->Option Ob):AV->Bool
 | .ptr _ id _=>mP (ob id) (a id)
 | _=>false
def sY(s a:St)(n:Nat)(c b:List Nat):AV->AV
 | .d t x=>.d t x
 | .own t v l=>if s.dead.contains v||b.contains v then .d (.sl t) (.sl l) else .own t (n+c.idxOf v) l
 | .nils=>.nils
 | .ptr t id p=>if mP (s.ob id) (a.ob id) then .ptr t id p else .undef
 | .fptr t x=>.fptr t x
 | .clo f l=>if l.all (Np s.ob a.ob) then .clo f l else .undef
 | .map kt vt id=>if mP (s.ob id) (a.ob id) then .map kt vt id else .undef
 | .yld id=>.yld id
 | _=>.undef
def PI(s:St)(nt:Nat)(a:List AV)(b:List Nat):St:={ tm:=λi=>a.getD i .undef,ob:=s.ob,fresh:=s.fresh+1,dead:=yS s b++s.dead,nt:=nt,lkS:=[],lkO:=s.lkO }
def pU(s a:St)(b:List Nat):St:={ tm:=λi=>if i<s.nt then sY s a ((a.fresh+1)*4096) (yS s b) b (s.tm i) else .undef,ob:=a.ob,fresh:=a.fresh+1,dead:=a.dead,nt:=s.nt,lkS:=s.lkS,lkO:=s.lkO }
def mU:List (Nat×AV)->(Nat->AV)->Nat->AV
 | [],f=>f
 | (p,a)::l,f=>mU l λt=>if t=p then a else f t
def Mz(s:St)(i:LpI)(id:Nat)(a:List AV):St:=
 { tm:=mU (i.ps.zip a) λt=>if t<i.nt then pz s.ob (i.caps t) else .undef,ob:=s.ob,fresh:=s.fresh+1,dead:=fL s++s.dead,nt:=i.nt,lkS:=[],lkO:=id::s.lkO }
def WL(s:St)(c:Call):Option (Nat×LpI×List AV):=match c.callee with
 | .value (.tmp t)=>match s.tm t with
  | .yld id=>match s.ob id with
   | some (.lp i none)=>some (id,i,c.args.toList.map s.opA)
   | _=>none
  | _=>none
 | _=>none
def leaveY(s:St)(id:Nat)(i:LpI)(p:Option Ex):St:={ s with tm:=λ_=>.undef,ob:=λj=>if j=id then some (.lp i p) else s.ob j }
def evY{R:Type}(E:Env)(an:Ann)(s:St)(id:Nat)(i:LpI)(a:List AV)(K:AV->St->Option R):Option R:=
 if a.length=i.ps.length/\(i.ps.all λp=>decide (p<i.nt))=true/\(fL s).length<=4096 then
  E.cod i.asg an.fst R (Mz s i id a) λe s1=>match e with
   | .normal=>match s1.ob id with
    | some (.lp _ none)=>E.cod i.bdy an.snd R (s1.setOb id none) λe s2=>match e with
     | .normal=>K (.d .bool<|.bool true) (pU s (leaveY s2 id i none) [])
     | e=>K (.d .bool<|.bool false) (pU s (leaveY s2 id i<|some e) [])
    | _=>none
   | _=>none
 else none
def evN{R:Type}(E:Env)(f:Operand)(ps:Array Tmp)(asg bdy:Code)(an:Ann)(s:St)(k:Ex->St->Option R):Option R:=
 match f with
 | .tmp t=>match s.tm t with
  | .clo g l=>if l.all gH&&!(s.lkO.contains 4095) then(E.inl g).bind λG=>
    G an R ({ s with fresh:=s.fresh+1 }.setOb ((s.fresh+1)*4096) (some<|.lp { nt:=s.nt,ps:=ps.toList,asg:=asg,bdy:=bdy,caps:=λj=>kE s.ob (s.tm j) } none)) (.yld ((s.fresh+1)*4096)::l) λ_ s2=>
     match s2.ob ((s.fresh+1)*4096) with
     | some (.lp _ none)=>k .normal (s2.setOb ((s.fresh+1)*4096) none)
     | some (.lp _ (some e))=>k e (s2.setOb ((s.fresh+1)*4096) none)
     | _=>none
   else none
  | _=>none
 | _=>none
def Za{R:Type}(E:Env)(an:Ann)(s:St)(o:Oper)(K:AV->St->Option R):Option R:=match o.op with
 | .call c=>match WL s c with
  | some q=>evY E an s q.1 q.2.1 q.2.2 K
  | none=>(uk s c).bind λq=>(E.inl q.1).bind λg=>g an R s q.2 K
 | _=>none
def vT(E:Env)(o:Oper)(an:Ann):Ann:=if nk E o then an.snd else an
def yE(s:St):St:={ s with fresh:=s.fresh+1 }
def Fl{R:Type}(E:Env)(an:Ann)(l:List<|Nat×Oper)(s:St)(o:Oper)(K:St->Option R):Option R:=
 if nk E o then(if l.all λp=>!(A4 p.2) then Za E an.fst s o λv s'=>K (s'.put o.dst v) else if dA ((l.map Prod.snd).filterMap (·.dst)) then Za E an.fst s o λv s'=>K (ik E (l.map Prod.snd)<|yE<|s'.put o.dst v) else none) else vN E s o K
def oh(E:Env)(s:St)(i:Nat)(o:Oper)(l:List<|Nat×Oper):Bool:=
 uG i l&&(match (eI o.dst l).2,o.dst with
  | (_,a)::_,some d=>decide (d<s.nt)&&a.guard.isNone&&gU o&&!(nk E o)&&(eI o.dst l).1.all (λ(p:Nat×Oper)=>(gU p.2&&!(pK s p.2)&&!(nk E p.2)))&&!(pK s a)
  | _,_=>false)
def ga(E:Env):Nat->(R:Type)->(ops:Array Oper)->Ann->List (Nat×Oper)->St->(St->Option R)->Option R
 | 0,_,_,_,_,_,_=>none
 | _+1,_,_,_,[],s,k=>k s
 | n+1,R,ops,an,(i,o)::l,s,k=>
  match o.guard with
  | some (j,want)=>match (ops[j]?).bind (·.dst) with
   | some g=>if pK s o then none else Bo (s.tm g) (ga E n R ops (vT E o an) l (s.put o.dst .gone) k)
    ((s.tm g).truth.bind λc=>
    if c then(if want then Fl E an l (s.put (some g)<|.d .bool<|.bool true) o λs'=>ga E n R ops (vT E o an) l s' k else ga E n R ops (vT E o an) l ((s.put (some g)<|.d .bool<|.bool true).put o.dst .gone) k)
    else(if want then ga E n R ops (vT E o an) l ((s.put (some g)<|.d .bool<|.bool false).put o.dst .gone) k else Fl E an l (s.put (some g)<|.d .bool<|.bool false) o λs'=>ga E n R ops (vT E o an) l s' k))
   | none=>none
  | none=>
   if oh E s i o l then
    let sp:=eI o.dst l
    match sp.2,o.dst with
    | (_,a)::l',some d=>
      Vi E s o λs1=>(s1.tm d).truth.bind λc=>
      (if c then ga E n Bool ops .leaf sp.1 (s1.put (some d)<|.d .bool<|.bool true) λs2=>qv E s2 a AV.truth
       else ga E n Bool ops .leaf sp.1 (s1.put (some d)<|.d .bool<|.bool false) λs2=>qv E s2 a AV.truth).bind λx=>
      ga E n R ops an l' ((killD s1<|sp.1.map Prod.snd).put a.dst<|.d .bool<|.bool x) k
    | _,_=>none
   else if pK s o then none else Fl E an l s o λs'=>ga E n R ops (vT E o an) l s' k
def aX:Nat->List Oper->List (Nat×Oper)
 | _,[]=>[]
 | i,o::l=>(i,o)::aX (i+1) l
def iK(s:St):List Nat->St
 | []=>s
 | t::l=>iK (match s.tm t with
  | .mem t' id=>match s.ob id with
   | some (.many u l)=>if t'.beq u&&!(s.lkO.contains id) then{ s.setOb id none with tm:=λi=>if i=t then .d (.sl u) (.sl l) else s.tm i } else s
   | _=>s
  | _=>s) l
def cG:List (Nat×ShO)->List Nat
 | []=>[]
 | (id,.keep ..)::l=>id::cG l
 | (id,.lp ..)::l=>id::cG l
 | _::l=>cG l
mutual
def AV.same:AV->AV->Bool
 | .ptr t id p,.ptr t' id' p'=>t.beq t'&&decide (id=id')&&decide (p=p')
 | .mem t id,.mem t' id'=>t.beq t'&&decide (id=id')
 | .map kt vt id,.map kt' vt' id'=>kt.beq kt'&&vt.beq vt'&&decide (id=id')
 | .clo f l,.clo f' l'=>decide (f=f')&&afu l l'
 | .yld id,.yld id'=>decide (id=id')
 | .sub sl t id p lo n,.sub sl' t' id' p' lo' n'=>decide (sl=sl')&&t.beq t'&&decide (id=id')&&decide (p=p')&&decide (lo=lo')&&decide (n=n')
 | _,_=>false
def afu:List AV->List AV->Bool
 | [],[]=>true
 | a::l,a'::l'=>AV.same a a'&&afu l l'
 | _,_=>false
end
def D.els:D->List D|.sl l=>l|_=>[]
mutual
def Sh.mk(b:Nat):Sh->Nat->List D->AV×Nat
 | .dv t,j,s=>(.d t<|s.getD j<|.bool false,j+1)
 | .ow t,j,s=>(.own t (b+j) (s.getD j<|.bool false).els,j+1)
 | .same a,j,_=>(a,j)
 | .st ts l,j,s=>let r:=af7 b l j s;(.st ts r.1,r.2)
def af7(b:Nat):List Sh->Nat->List D->List AV×Nat
 | [],j,_=>([],j)
 | h::l,j,s=>let r:=Sh.mk b h j s;let q:=af7 b l r.2 s;(r.1::q.1,q.2)
end
mutual
def Sh.dec(ob:Nat->Option Ob)(dead:List Nat):Sh->AV->Option (List D)
 | .dv t,a=>(afv ob t a).bind λx=>some [x]
 | .ow t,.own t' v l=>if t.beq t'&&!(dead.contains v) then some [.sl l] else none
 | .ow _,.nils=>some [.sl []]
 | .same a,a'=>if AV.same a a' then some [] else none
 | .st ts l,.st ts' l'=>if Ty.beqs ts ts' then af5 ob dead l l' else none
 | _,_=>none
def af5(ob:Nat->Option Ob)(dead:List Nat):List Sh->List AV->Option (List D)
 | [],[]=>some []
 | h::l,a::l'=>(Sh.dec ob dead h a).bind λx=>(af5 ob dead l l').bind λy=>some (x++y)
 | _,_=>none
end
def AV.still:AV->AV
 | .d t x=>.d t x
 | .own t _ l=>.d (.sl t) (.sl l)
 | .fptr t x=>.fptr t x
 | _=>.undef
def Ob.still(t:Ty):Option Ob->Option Ob
 | some (.one t' (.d u x))=>if t.beq t' then some (.one t'<|.d u x) else none
 | _=>none
def afU(p:Option Ex):Option Ob->Option Ob
 | some (.lp i _)=>some (.lp i p)
 | _=>none
mutual
def aga:Sh->AV->List Nat
 | .ow _,.own _ v _=>[v]
 | .st _ l,.st _ l'=>agb l l'
 | _,_=>[]
def agb:List Sh->List AV->List Nat
 | h::l,a::l'=>aga h a++agb l l'
 | _,_=>[]
end
def agi(b:Nat):List (Nat×Sh)->Nat->List D->(Nat->AV)->(Nat->AV)×Nat
 | [],j,_,f=>(f,j)
 | (t,h)::l,j,s,f=>let r:=Sh.mk b h j s;agi b l r.2 s<|λi=>if i=t then r.1 else f i
def agh(b:Nat)(base:Nat->Option Ob):List (Nat×ShO)->Nat->List D->(Nat->Option Ob)->(Nat->Option Ob)
 | [],_,_,f=>f
 | (id,.one t h)::l,j,s,f=>let r:=Sh.mk b h j s;agh b base l r.2 s (λi=>if i=id then some (.one t r.1) else f i)
 | (id,.many t)::l,j,s,f=>agh b base l (j+1) s (λi=>if i=id then some (.many t (s.getD j<|.bool false).els) else f i)
 | (id,.mp kt vt)::l,j,s,f=>agh b base l (j+1) s (λi=>if i=id then some (.mp kt vt (s.getD j<|.bool false).els) else f i)
 | (id,.keep t _)::l,j,s,f=>agh b base l j s (λi=>if i=id then Ob.still t (base id) else f i)
 | (id,.lp p _)::l,j,s,f=>agh b base l j s (λi=>if i=id then afU p (base id) else f i)
 | (id,.fv a)::l,j,s,f=>agh b base l j s<|λi=>if i=id then some (.fv a) else f i
def Shape.mk'(h:Shape)(base:St)(s:List D)(lkS lkO:List Nat):St:=
 let b:=(base.fresh+1)*4096
 let r:=agi b h.slots 0 s (λi=>if h.keepS.contains i then(base.tm i).still else .undef)
 { tm:=r.1,ob:=agh b base.ob h.objs r.2 s<|λ_=>none,fresh:=base.fresh+1,dead:=[],nt:=base.nt,lkS,lkO }
def agf(s:St):List (Nat×Sh)->Option (List D)
 | []=>some []
 | (t,h)::l=>(Sh.dec s.ob s.dead h<|s.tm t).bind λx=>(agf s l).bind λy=>some<|x++y
def age(s:St):List (Nat×ShO)->Option (List D)
 | []=>some []
 | (id,.one t h)::l=>match s.ob id with
  | some (.one t' v)=>if t.beq t' then(Sh.dec s.ob s.dead h v).bind λx=>(age s l).bind λy=>some (x++y) else none
  | _=>none
 | (id,.many t)::l=>match s.ob id with
  | some (.many t' v)=>if t.beq t' then(age s l).bind λy=>some (.sl v::y) else none
  | _=>none
 | (id,.mp kt vt)::l=>match s.ob id with
  | some (.mp b c v)=>if kt.beq b&&vt.beq c then(age s l).bind λy=>some (.sl v::y) else none
  | _=>none
 | (id,.keep t _)::l=>match s.ob id with
  | some (.one t' _)=>if t.beq t' then age s l else none
  | _=>none
 | (id,.lp p _)::l=>match s.ob id with
  | some (.lp _ d)=>if F5 p d then age s l else none
  | _=>none
 | (id,.fv a)::l=>match s.ob id with
  | some (.fv v)=>if AV.same a v then age s l else none
  | _=>none
def agk(s:St):List (Nat×Sh)->List Nat
 | []=>[]
 | (t,h)::l=>aga h (s.tm t)++agk s l
def agj(s:St):List (Nat×ShO)->List Nat
 | []=>[]
 | (id,.one _ h)::l=>(match s.ob id with|some (.one _ v)=>aga h v|_=>[])++agj s l
 | _::l=>agj s l
mutual
def AV.old(n:Nat):AV->Bool
 | .ptr _ id _=>decide (id<n)
 | .mem _ id=>decide (id<n)
 | .map _ _ id=>decide (id<n)
 | .clo _ l=>aft n l
 | .yld id=>decide (id<n)
 | .sub _ _ id _ _ _=>decide (id<n)
 | _=>false
def aft(n:Nat):List AV->Bool
 | []=>true
 | a::l=>AV.old n a&&aft n l
end
mutual
def Sh.cnt:Sh->Nat
 | .dv _=>1
 | .ow _=>1
 | .same _=>0
 | .st _ l=>af4 l
def af4:List Sh->Nat
 | []=>0
 | h::l=>Sh.cnt h+af4 l
end
mutual
def Sh.fits:Ty->Sh->Bool
 | t,.dv t'=>t.beq t'
 | t,.ow e=>t.beq (.sl e)
 | _,.same _=>false
 | t,.st ts l=>t.beq (.st ts)&&Sh.fitss ts l
def Sh.fitss:List Ty->List Sh->Bool
 | [],[]=>true
 | t::ts,h::l=>Sh.fits t h&&Sh.fitss ts l
 | _,_=>false
end
mutual
def Sh.fine(n:Nat):Sh->Bool
 | .dv t=>aj t
 | .ow t=>aj t
 | .same a=>AV.old n a
 | .st ts l=>aP ts&&Sh.fitss ts l&&af6 n l
def af6(n:Nat):List Sh->Bool
 | []=>true
 | h::l=>Sh.fine n h&&af6 n l
end
def ShO.cnt:ShO->Nat
 | .one _ h=>h.cnt
 | .many _=>1
 | .mp ..=>1
 | .keep ..=>0
 | .lp ..=>0
 | .fv _=>0
def ShO.fine(n:Nat)(base:St)(id:Nat):ShO->Bool
 | .one t h=>Sh.fine n h&&Sh.fits t h
 | .many _=>true
 | .mp ..=>true
 | .keep _ c=>match base.tm c with|.ptr _ b _=>decide (id=b)&&decide (c<base.nt)|_=>false
 | .fv a=>AV.old n a&&np a
 | .lp _ c=>(match base.tm c with|.yld b=>decide (id=b)|.ptr _ v []=>(match base.ob v with|some (.fv (.yld b))=>decide (id=b)|_=>false)|_=>false)&&decide (c<base.nt)
def agd:List (Nat×Sh)->Nat
 | []=>0
 | p::l=>p.2.cnt+agd l
def agc:List (Nat×ShO)->Nat
 | []=>0
 | p::l=>p.2.cnt+agc l
def Shape.good(h:Shape)(base:St):Bool:=
 dA (h.slots.map (·.1))&&dA (h.objs.map (·.1))&&(h.objs.all λp=>decide (p.1<(base.fresh+1)*4096)&&ShO.fine ((base.fresh+1)*4096) base p.1 p.2)&&h.slots.all (λp=>decide (p.1<base.nt)&&Sh.fine ((base.fresh+1)*4096) p.2)&&decide (agd h.slots+agc h.objs<=4096)
def Shape.dec(h:Shape)(base s:St):Option (List D):=
 if h.good base&&dA (agk s h.slots++agj s h.objs) then(agf s h.slots).bind λx=>(age s h.objs).bind λy=>some (x++y) else none
def sG{α β:Type}(body:α->Option (Sum α β))(n:Nat):α->Option β:=
 Nat.rec (motive:=λ_=>α->Option β) (λ_=>none) (λ_ ih a=>match body a with
  | none=>none
  | some (.inl a')=>ih a'
  | some (.inr b)=>some b) n
def uo{α β:Type}(body:α->Option (Sum α β))(a:α):sG body 0 a=none:=rfl
theorem lM{α β:Type}(body:α->Option (Sum α β))(n:Nat)(a:α):sG body (n+1) a=match body a with
  | none=>none
  | some (.inl a')=>sG body n a'
  | some (.inr b)=>some b:=rfl
theorem um{α β:Type}{body:α->Option (Sum α β)}:∀ {n:Nat} {a:α} {b:β} (m:Nat),sG body n a=some b->sG body (n+m) a=some b
 | 0,_,_,_,h=>by simp[uo] at h
 | n+1,a,b,m,h=>by
  rw[show n+1+m=(n+m)+1 by omega]
  simp only[lM] at h ⊢;cases hb:body a with
  | none=>rw[hb] at h;simp at h
  | some x=>cases x with
   | inl a'=>rw[hb] at h;exact um m h
   | inr b'=>rw[hb] at h;exact h
open Classical in
def nT{α β:Type}(body:α->Option (Sum α β))(a:α):Option β:=
 if h:∃ n b,sG body n a=some b then some (Classical.choose<|Classical.choose_spec h) else none
def qU{α β:Type}{body:α->Option (Sum α β)}{a:α}{b:β}(h:nT body a=some b):∃ n,sG body n a=some b:=by
 unfold nT at h;split at h
 ·grind
 ·cases h
theorem lv{α β:Type}{body:α->Option (Sum α β)}{a:α}{b:β}{n:Nat}(h:sG body n a=some b):nT body a=some b:=by have c:∃ n b,sG body n a=some b:=⟨n,b,h⟩;unfold nT;rw[dif_pos c];have d:=Classical.choose_spec<|Classical.choose_spec c;have e:=um (Classical.choose c) h;have f:=um n d;grind
def cz{α β:Type}{body:α->Option (Sum α β)}{a a':α}(h:body a=some (.inl a')):nT body a=nT body a':=by
 cases h2:nT body a' with
 | some b=> obtain⟨n,c⟩:=qU h2;exact lv (n:=n+1) (by simp only[lM,h];exact c)
 | none=>
  cases h3:nT body a with
  | none=>rfl
  | some b=>
   obtain⟨n,c⟩:=qU h3;cases n with
   | zero=>simp[uo] at c
   | succ n=> grind [lM,lv]
def cT{α β:Type}{body:α->Option (Sum α β)}{a:α}{b:β}(h:body a=some (.inr b)):nT body a=some b:=
 lv (n:=1) (by simp only[lM,h])
def xd(e:Ex):List (Ex×Shape)->Nat->Option (Nat×Shape)
 | [],_=>none
 | (a,h)::l,j=>if e.is a then some (j,h) else xd e l<|j+1
def subset(l l':List Nat):Bool:=l.all λx=>l'.contains x
def nN{R:Type}(base:St)(k:Ex->St->Option R)(keepS a:List Nat):List (Ex×Shape)->Nat->Nat×List D->Option R
 | [],_,_=>none
 | [(e,h)],_,r=>if subset h.keepS keepS&&subset (cG h.objs) a then k e (h.mk' base r.2 base.lkS base.lkO) else none
 | (e,h)::l,j,r=>if subset h.keepS keepS&&subset (cG h.objs) a then(if r.1=j then k e (h.mk' base r.2 base.lkS base.lkO) else nN base k keepS a l (j+1) r) else none
def GD(base:St)(a:List<|Ex×Shape)(e:Ex)(s:St):Option (Nat×List D):=(xd e a 0).bind λq=>(q.2.dec base s).bind λv=>some (q.1,v)
def cY(ops:List Oper):Bool:=dA (ops.filterMap (·.dst))&&(ops.all λo=>match o.dst with|some d=>decide (d<4096)|none=>true)&&ops.all λo=>match o.op with|.store ..=>o.dst.isNone|_=>true
def tZ(E:Env)(ops:Array Oper)(n:Nat):Bool:=
 ((ops.toList.take n).all λo=>!(nk E o))&&Region.noSelect ops&&Region.lexHead .any ops (ops.size-n) n 0 (Array.replicate ops.size false)&&(decide (n=ops.size)||(decide (n<ops.size)&&Region.sinkB .any ops n&&Region.chainB .any ops n)) &&
 ((ops.toList.take n).all λo=>gU o||(match o.op with|.alloc _=>true|_=>false))&&(ops.toList.drop n).all λo=>o.guard.isNone&&(match o.op with|.pick ..=>false|_=>true)
def xq(o:Oper):Bool:=match o.op with|.fieldAddr ..=>true|.load ..=>true|.build ..=>true|.alloc _=>true|.extract ..=>true|.move _=>true|.binOp ..=>true|.indexAddr ..=>true|.call c=>(match c.callee with|.builtin .len=>true|.builtin .max=>true|.builtin .min=>true|_=>false)|_=>false
def xt{R:Type}(E:Env)(ops:Array Oper)(n id i:Nat)(s:St)(K:AV->Option R):Option R:=
 match ops[i]? with
 | none=>none
 | some o=>if pK s o then none else if Region.waitsFor .any ops n i then qv E s o K else if xq o then qv E (s.setOb id none) o K else none
def Vo{R:Type}(E:Env)(ops:Array Oper)(n id:Nat):Nat->Nat->St->(St->Option R)->Option R
 | 0,_,s,K=>K s
 | c+1,k,s,K=>xt E ops n id k s λv=>Vo E ops n id c (k+1) (s.put ((ops[k]?).bind (·.dst)) v) K
def xr(ops:Array Oper)(n:Nat):Bool:=
 match ops[n]? with
 | some o=>match o.op with
  | .store _ (.tmp p) (.tmp x)=>((List.range ops.size).all λj=>match (ops[j]?).bind (·.dst) with|some d=>!(decide (d=p)||decide (d=x))||Region.waitsFor .any ops n j|none=>true) &&
    ((ops.toList.take n).all λo=>(gU o||(match o.op with|.alloc _=>true|_=>false))&&o.guard.isNone)&&((ops.toList.drop n).all λo=>o.guard.isNone&&(match o.op with|.pick ..=>false|_=>true)) &&
    Region.noSelect ops&&Region.lexHead .any ops (ops.size-(n+1)) (n+1) 0 (Array.replicate ops.size false)&&(decide (n+1=ops.size)||(decide (n+1<ops.size)&&Region.sinkB .any ops (n+1)&&Region.chainB .any ops (n+1)))
  | _=>false
 | none=>false
def mO(ops:Array Oper)(n:Nat)(s:St):Nat:=match ops[n]? with
 | some o=>match o.op with
  | .store _ (.tmp p) _=>if ops.toList.any (λq=>match q.op,q.dst with|.alloc _,some d=>decide (d=p)|_,_=>false) then s.base+p else match s.tm p with
   | .ptr _ id _=>id
   | _=>0
  | _=>0
 | none=>0
def xp(ops:Array Oper)(n:Nat)(s:St):Option Nat:=match ops[n]? with
 | some o=>match o.op with
  | .store _ (.tmp p) _=>match s.tm p with
   | .ptr t id []=>if t.beq .fn then none else some id
   | _=>none
  | _=>none
 | none=>none
def lE(E:Env)(o:Oper):Bool:=(gU o||(match o.op with|.alloc _=>true|_=>false))&&!(nk E o)
def yv(ops:Array Oper):Nat->List Nat
 | 0=>[]
 | n+1=>let l:=yv ops n;l++[match ops[n]? with
  | some o=>o.after.toList.foldl (λm e=>if Region.binds .any e&&decide (e.on<n) then(m ||| 2^e.on) ||| l.getD e.on 0 else m) 0
  | none=>0]
def oe(E:Env)(ops:Array Oper)(i:Nat)(o:Oper):Nat->Nat->Bool
 | 0,_=>true
 | f+1,j=>match ops[j]? with
  | none=>true
  | some a=>if lE E a then(a.after.any (λe=>Region.binds .any e&&e.on==i)||o.apart ops a)&&oe E ops i o f (j+1) else true
def jI(E:Env)(ops:Array Oper):Bool:=
 let l:=yv ops ops.size
 (List.range ops.size).all λi=>match ops[i]? with
  | none=>true
  | some o=>(o.after.toList.all λe=>!(Region.binds .any e)||decide (e.on<i)) &&
   (if lE E o then oe E ops i o ops.size (i+1) else(List.range ops.size).all λj=>if j<i then Nat.testBit (l.getD i 0) j else decide (j=i)||Nat.testBit (l.getD j 0) i)
def ev(E:Env):Code->Ann->(R:Type)->St->(Ex->St->Option R)->Option R
 | .skip,_,_,s,k=>k .normal s
 | .label _,_,_,s,k=>k .normal s
 | .exit id,_,_,s,k=>k (.exit id) s
 | .ret,_,_,s,k=>k .ret s
 | .region _ ops dr,a,R,s,k=>
  let s1:=ik E ops.toList { iK s a.fz with fresh:=s.fresh+1 }
  if cY ops.toList&&(!dr||tZ E ops (a.heads ops.size)) then ga E (ops.size+1) R ops a.inner (aX 0 ops.toList) s1 (λs'=>k .normal s')
  else if cY ops.toList&&xr ops (a.heads ops.size) then Vo E ops (a.heads ops.size) (mO ops (a.heads ops.size) s1) (a.heads ops.size) 0 s1 λs2=>if xp ops (a.heads ops.size) s2=some (mO ops (a.heads ops.size) s1) then ga E (ops.size+1) R ops a.inner ((aX 0 ops.toList).drop<|a.heads ops.size) s2 (λs'=>k .normal s') else none
  else if cY ops.toList&&(dr&&jI E ops) then ga E (ops.size+1) R ops a.inner (aX 0 ops.toList) s1 (λs'=>k .normal s')
  else none
 | .seq c d,.cut g l i a b,R,s,k=>
  (ev E c a (Nat×List D) { s with lkS:=l++s.lkS,lkO:=i++s.lkO }<|GD s g).bind λr=> nN s (λe s'=>match e with|.normal=>ev E d b R s' k|e=>k e s') l i g 0 r
 | .seq c d,a,R,s,k=>ev E c a.fst R s λe s'=>match e with
  | .normal=>ev E d a.snd R s' k
  | e=>k e s'
 | .cond c x y,a,R,s,k=>(s.opA c).truth.bind λt=>if t then ev E x a.fst R s k else ev E y a.snd R s k
 | .block id c,a,R,s,k=>ev E c a.fst R s λe s'=>match e with
  | .exit j=>if j=id then k .normal s' else k (.exit j) s'
  | e=>k e s'
 | .scope c,a,R,s,k=>ev E c a R s k
 | .rangeFunc f ps asg bdy,a,_,s,k=>evN E f ps asg bdy a s k
 | .loop c,.loop h g a,R,s,k=>
  (h.dec s s).bind λv0=>(E.lp (λv=>ev E c a (Sum (List D)<|Nat×List D) (h.mk' s v (h.keepS++s.lkS)<|cG h.objs++s.lkO) λe s'=>match e with
    | .normal=>(h.dec s s').bind λv'=>some (.inl v')
    | e=>(GD s g e s').bind λr=>some<|.inr r) v0).bind λr=>
   nN s k h.keepS (cG h.objs) g 0 r
 | _,_,_,_,_=>none
def Ow(E:Env)(c:Code)(ann:Ann)(R:Type)(s:St)(k:Ex->St->Option R):Option R:=match ann with
 | .all b e d a=>(ev E c a (Nat×List D) { s with lkS:=e++s.lkS,lkO:=d++s.lkO }<|GD s b).bind λr=>nN s k e d b 0 r
 | ann=>ev E c ann R s k
def gT(a:List Ty)(args:List D)(i:Nat):AV:=
 match a[i]?,args[i]? with
 | some t,some x=>.d t x
 | _,_=>.undef
def NA{R:Type}(E:Env)(s:St)(t:Ty)(k:D->Option R):ResultVar->Option R
 | .tmp i=>(afv s.ob t<|s.tm i).bind k
 | .cell i T=>(E.L T).bind λu=>match s.tm i with
  | .ptr t' id p=>if u.beq t' then(s.ob id).bind λo=>gV o p λa=>(afv s.ob t a).bind k else none
  | _=>none
def ve{R:Type}(E:Env)(s:St):List Ty->List ResultVar->(List D->Option R)->Option R
 | [],[],k=>k []
 | t::ts,r::a,k=>NA E s t (λx=>ve E s ts a λxs=>k<|x::xs) r
 | _,_,_=>none
def results(E:Env)(s:St)(a:Ty)(b:List ResultVar):Option D:=
 match b with
 | [r]=>NA E s a some r
 | b=>match a with
  | .tup ts=>ve E s ts b λxs=>some (.tup xs)
  | _=>none
def evF(E:Env)(fn:Func)(ann:Ann)(b:List Ty)(a:Ty)(args:List D):Option D:=
 match fn.body with
 | none=>none
 | some c=>Ow E c ann D { tm:=gT b args,ob:=λ_=>none,fresh:=0,dead:=[],nt:=fn.ntmps,lkS:=[],lkO:=[] } λe s=>match e with
  | .exit _=>none
  | _=>results E s a fn.results.toList
section
variable{S:Nat->Nat->Prop}{a l:List D}{y z:D}
mutual
theorem cJ:∀ (t:Ty) (x:D),wt t x->aj t=true->x.flat.length=t.size
 | .int k,x,h,_=>by simp only[wt] at h;obtain⟨n,rfl⟩:=h;rfl
 | .bool,x,h,_=>by simp only[wt] at h;obtain⟨n,rfl⟩:=h;rfl
 | .str,x,h,_=>by simp[wt] at h;obtain⟨n,rfl⟩:=h;rfl
 | .st ts,x,h,hn=>by simp[wt] at h;obtain⟨l,rfl,h⟩:=h;simp[D.flat,Ty.size];exact tx ts l h (by simpa [aj] using hn)
 | .arr n t,x,h,hn=>by
  simp[wt] at h;obtain⟨l,rfl,rfl,h⟩:=h;simp[D.flat,Ty.size];simp[aj] at hn
  induction l with
  | nil=>simp[N]
  | cons y l ih=>
   simp[N,zFa,zOa];rw[cJ t y (h y j2) hn,ih<|λx hx=>h x (by simp[hx])]
   rw[ztb,z6c,zhc]
 | .sl t,x,h,_=>by simp[wt] at h;obtain⟨l,rfl,_⟩:=h;rfl
 | .tup ts,_,_,h=>by simp[aj] at h
 | .fn,x,h,_=>by simp[wt] at h
theorem tx:∀ (ts:List Ty) (l:List D),fq ts l->aP ts=true->(N l).length=agv ts
 | [],l,h,_=>by simp[fq] at h;subst h;rfl
 | t::ts,l,h,hn=>by simp[fq] at h;obtain⟨d,l',rfl,h1,h2⟩:=h;simp[aP,Y] at hn;simp[N,agv,zFa];rw[cJ t d h1 hn.1,tx ts l' h2 hn.2]
end
def cw(a b:List D):N (a++b)=N a++N b:=by
 induction a with
 | nil=>rfl
 | cons x a ih=>simp[zrb,N,ih,zPa]
theorem aL{t:Ty}(a:aj t=true):∀ (l:List D),(∀ x∈l,wt t x)->(N l).length=l.length*t.size
 | [],_=>by simp[N]
 | y::l,h=>by simp[N,zFa,zOa];rw[cJ t y (h y j2) a,aL a l (λx hx=>h x (by simp[hx])),ztb,z6c,zhc]
theorem cE{i:Nat}(h:l[i]?=some y):N l=N (l.take i)++(y.flat++N (l.drop<|i+1)):=by
 obtain⟨hi,a⟩:=zra.1 h
 conv=>lhs;rw[<-zza i l,cw]
 rw[zpb hi,a];rfl
def oK{i:Nat}(h:l[i]?=some y):N (l.set i z)=N (l.take i)++(z.flat++N (l.drop<|i+1)):=by
 obtain⟨hi,b⟩:=zra.1 h;have a:(l.set i z)[i]?=some z:=by simp[hi]
 rw[cE a,List.take_set_of_le<|zja i,List.drop_set_of_lt<|zWc i]
theorem gk:∀ {ts:List Ty} {l:List D} {i:Nat} {t:Ty},fq ts l->ts[i]?=some t->∃ y,l[i]?=some y/\wt t y
 | [],_,_,_,_,h=>by simp at h
 | u::ts,l,i,t,h,hi=>by
  simp[fq] at h;obtain⟨d,l',rfl,a,b⟩:=h;cases i with
  | zero=>simp at hi;subst hi;exact⟨d,rfl,a⟩
  | succ i=>simp at hi;obtain⟨y,c,e⟩:=gk b hi;exact⟨y,by simpa using c,e⟩
theorem iZ:∀ {ts:List Ty} {l:List D},fq ts l->l.length=ts.length
 | [],l,h=>by simp_all [fq]
 | t::ts,l,h=>by simp[fq] at h;obtain⟨d,l',rfl,b,a⟩:=h;simp[iZ a]
theorem Cn:∀ {ts:List Ty} {l:List D} {i:Nat} {t:Ty} {z:D},fq ts l->ts[i]?=some t->wt t z->fq ts (l.set i z)
 | [],_,_,_,_,_,h,_=>by simp at h
 | u::ts,l,i,t,z,h,hi,b=>by
  simp[fq] at h;obtain⟨d,l',rfl,c,a⟩:=h;cases i with
  | zero=>simp at hi;subst hi;simp only[List.set_cons_zero,fq];exact⟨z,l',rfl,b,a⟩
  | succ i=>simp at hi;simp only[List.set_cons_succ,fq];exact⟨d,_,rfl,c,Cn a hi b⟩
theorem tz:∀ {ts:List Ty} {l:List D} (i:Nat),fq ts l->fq (ts.take i) (l.take i)
 | ts,l,0,_=>by simp[fq]
 | [],l,i+1,h=>by simp_all [fq]
 | t::ts,l,i+1,h=>by simp[fq] at h;obtain⟨d,l',rfl,a,b⟩:=h;simp only[zdc,fq];exact⟨d,_,rfl,a,tz i b⟩
theorem bZ:∀ {ts:List Ty} {i:Nat} {t:Ty},aP ts=true->ts[i]?=some t->aj t=true
 | [],_,_,_,h=>by simp at h
 | u::ts,i,t,h,hi=>by
  simp[aP,Y] at h;cases i with
  | zero=>simp at hi;subst hi;exact h.1
  | succ i=>simp at hi;exact bZ h.2 hi
theorem jt:∀ {ts:List Ty} (i:Nat),aP ts=true->aP (ts.take i)=true
 | ts,0,_=>by simp[aP]
 | [],i+1,_=>by simp[aP]
 | u::ts,i+1,h=>by simp[aP,Y] at h;simp[zdc,aP,Y];exact⟨h.1,jt i h.2⟩
theorem eV:∀ (p:List Nat) {t u:Ty},aj t=true->aS t p=some u->aj u=true
 | [],t,u,h,hp=>by simp_all [aS,zda]
 | i::p,t,u,h,hp=>by
  cases t<;>simp[aS] at hp
  case st ts=>
   cases hi:ts[i]? with
   | none=>rw[hi] at hp;cases hp
   | some v=>rw[hi] at hp;exact eV p (bZ (by simpa [aj] using h) hi) hp
  case arr n v=>exact eV p (by simpa [aj] using h) hp
  all_goals cases hp
theorem ki:∀ (p:List Nat) {t u:Ty} {x y:D},wt t x->aj t=true->aS t p=some u->x.get p=some y ->
  wt u y/\∃ a b,x.flat=a++(y.flat++b)/\a.length=aZ t p
 | [],t,u,x,y,h,e,hp,c=>by
  have d:t=u:=by simp_all [aS]
  simp[D.get,zda] at c;subst d;subst c;exact⟨h,[],[],j2,by cases t<;>rfl⟩
 | i::p,t,u,x,y,h,e,hp,c=>by
  simp[D.get] at c;cases hf:x.fld i with
  | none=>rw[hf] at c;cases c
  | some z=>
   rw[hf] at c;have f:=c;cases t<;>simp[aS] at hp
   case st ts=>
    cases hi:ts[i]? with
    | none=>rw[hi] at hp;cases hp
    | some v=>
     rw[hi] at hp;have d:=hp;simp[wt] at h;obtain⟨l,rfl,hl⟩:=h;simp[D.fld] at hf;obtain⟨q,m,j⟩:=gk hl hi;rw[hf] at m;cases m;simp[aj] at e;obtain⟨g,a,b,o,k⟩:=ki p j (bZ e hi) d f;refine⟨g,N (l.take i)++a,b++N (l.drop<|i+1),?_,?_⟩
     ·grind [D.flat,cE,List.append_assoc]
     ·simp[aZ,zFa,k];rw[tx _ _ (tz i hl)<|jt i e]
      simp_all
   case arr n v=>
    simp[wt] at h;obtain⟨l,rfl,hl,j⟩:=h;simp[D.fld] at hf;simp[aj] at e;obtain⟨g,a,b,o,k⟩:=ki p (j z<|zfb hf) e hp f;refine⟨g,N (l.take i)++a,b++N (l.drop<|i+1),?_,?_⟩
    ·grind [D.flat,cE,List.append_assoc]
    ·grind [aZ,List.length_append,aL,List.mem_of_mem_take,Nat.min_eq_left,Nat.le_of_lt]
   all_goals cases hp
theorem tg:∀ (p:List Nat) {t u:Ty} {x y m:D},wt t x->aj t=true->aS t p=some u->x.set p y=some m->wt u y ->
  wt t m/\∃ a c b,x.flat=a++(c++b)/\m.flat=a++(y.flat++b)/\a.length=aZ t p/\c.length=u.size
 | [],t,u,x,y,m,h,g,hp,d,o=>by
  have j:t=u:=by simp_all [aS]
  simp[D.set,zda] at d;subst j;subst d;exact⟨o,[],x.flat,[],j2,j2,by cases t<;>rfl,cJ _ _ h g⟩
 | i::p,t,u,x,y,m,h,g,hp,d,o=>by
  cases t<;>simp[aS] at hp
  case st ts=>
   cases hi:ts[i]? with
   | none=>rw[hi] at hp;cases hp
   | some v=>
    rw[hi] at hp;have j:=hp;simp[wt] at h;obtain⟨l,rfl,hl⟩:=h;simp[D.set] at d;obtain⟨z,f,k⟩:=gk hl hi;rw[f] at d;cases hs:D.set z p y with
    | none=>rw[show((some z).bind λz=>(D.set z p y).bind λe=>some<|D.st<|l.set i e)=(D.set z p y).bind λe=>some (D.st<|l.set i e) from rfl,hs] at d;cases d
    | some e=>
     rw[show((some z).bind λz=>(D.set z p y).bind λe=>some<|D.st<|l.set i e)=(D.set z p y).bind λe=>some (D.st<|l.set i e) from rfl,hs] at d;simp[zba,zda] at d;subst d;simp[aj] at g;obtain⟨q,a,c,b,r,s,w,A⟩:=tg p k (bZ g hi) j hs o;refine⟨by simp only[wt];exact⟨_,rfl,Cn hl hi q⟩,N (l.take i)++a,c,b++N (l.drop<|i+1),?_,?_,?_,A⟩
     ·simp[D.flat];rw[cE f,r];simp[zPa]
     ·simp[D.flat];rw[oK f,s];simp[zPa]
     ·simp[aZ,zFa,w];rw[tx _ _ (tz i hl)<|jt i g];simp[List.getD,hi]
  case arr n v=>
   simp[wt] at h;obtain⟨l,rfl,hl,k⟩:=h;simp[D.set] at d;cases f:l[i]? with
   | none=>rw[f] at d;cases d
   | some z=>
    rw[f] at d;cases hs:D.set z p y with
    | none=>rw[show((some z).bind λz=>(D.set z p y).bind λe=>some<|D.st<|l.set i e)=(D.set z p y).bind λe=>some (D.st<|l.set i e) from rfl,hs] at d;cases d
    | some e=>
     rw[show((some z).bind λz=>(D.set z p y).bind λe=>some<|D.st<|l.set i e)=(D.set z p y).bind λe=>some (D.st<|l.set i e) from rfl,hs] at d;simp[zba,zda] at d;subst d;simp[aj] at g;obtain⟨q,a,c,b,r,s,w,A⟩:=tg p (k z<|zfb f) g hp hs o;refine⟨?_,N (l.take i)++a,c,b++N (l.drop<|i+1),?_,?_,?_,A⟩
     ·simp only[wt];refine⟨_,rfl,by simpa using hl,λx hx=>?_⟩
      rcases zUc hx with h|h
      ·exact k x h
      ·rw[h];exact q
     ·simp[D.flat];rw[cE f,r];simp[zPa]
     ·simp[D.flat];rw[oK f,s];simp[zPa]
     ·simp[aZ,zFa,w];rw[aL g _<|λx hx=>k x<|zUa hx];have:=(zra.1 f).1;simp[zsb<|zJc this]
  all_goals cases hp
inductive CR(w:World)(S:Nat->Nat->Prop):D->Value->Prop
 | int (k:IntKind) (n:Int):CR w S (.int k n) (.int k n)
 | bool (b:Bool):CR w S (.bool b) (.bool b)
 | str (s:ByteArray):CR w S (.str s) (.string s)
 | sl (l:List D) (a:Option Addr) (cap b off:Nat) (c:Nat->Value) (ha:l=[]\/a=some ⟨b,off,none⟩) (hc:l.length<=cap)
   (h1:∀ i d,(N l)[i]?=some d->S b (off+i)/\w.cell? ⟨b,off+i,none⟩=some (c i))
   (h2:∀ i d,(N l)[i]?=some d->CR w S d (c i)):CR w S (.sl l)<|.slice a l.length cap
def CR.mono{w w':World}{S S':Nat->Nat->Prop}(p:∀ b o,S b o->w'.cell? ⟨b,o,none⟩=w.cell? ⟨b,o,none⟩)(g:∀ b o,S b o->S' b o){d:D}{v:Value}(h:CR w S d v):CR w' S' d v:=by
 induction h with
 | int k n=>exact .int k n
 | bool b=>exact .bool b
 | str s=>exact .str s
 | sl l a cap b off c j m e q ih=> exact .sl l a cap b off c j m (λi d f=>⟨g _ _ (e i d f).1,by rw[p _ _ (e i d f).1];exact(e i d f).2⟩) ih
def c7(w:World)(S:Nat->Nat->Prop)(a:List D)(cs:List Value):Prop:=a.length=cs.length/\∀ (i:Nat) (d:D) (c:Value),a[i]?=some d->cs[i]?=some c->CR w S d c
theorem c7.mono{w w':World}{S S':Nat->Nat->Prop}(g:∀ b o,S b o->w'.cell? ⟨b,o,none⟩=w.cell? ⟨b,o,none⟩)(f:∀ b o,S b o->S' b o){d:List D}{v:List Value}(h:c7 w S d v):c7 w' S' d v:=
 ⟨h.1,λi d c a e=>(h.2 i d c a e).mono g f⟩
def c7.nil{w:World}:c7 w S [] []:=⟨rfl,λi d c h=>by simp at h⟩
def c7.append{w:World}{b:List D}{c d:List Value}(h:c7 w S a c)(k:c7 w S b d):c7 w S (a++b) (c++d):=by
 refine⟨by simp[h.1,k.1],λi x y hx e=>?_⟩
 rw[zEd] at hx e;by_cases hi:i<a.length
 ·rw[zma hi] at hx;rw[zma<|h.1 ▸ hi] at e;exact h.2 i x y hx e
 ·rw[zha hi] at hx;rw[zha<|h.1 ▸ hi] at e;rw[h.1] at hx;exact k.2 _ x y hx e
theorem c7.split{w:World}{b:List D}{cs:List Value}(h:c7 w S (a++b) cs):c7 w S a (cs.take a.length)/\c7 w S b (cs.drop a.length):=by
 obtain⟨c,e⟩:=h;rw[zFa] at c;refine⟨⟨by simp;omega,λi x y hx d=>?_⟩,⟨by simp;omega,λi x y hx d=>?_⟩⟩
 ·grind
 ·grind
theorem c7.single{w:World}{d:D}{v:Value}:c7 w S [d] [v]↔CR w S d v:=by
 constructor
 ·intro h;exact h.2 0 d v rfl rfl
 ·intro h;refine⟨rfl,λi x y hx a=>?_⟩;all_goals grind
def c7.single'{w:World}{d:D}{cs:List Value}(h:c7 w S [d] cs):∃ v,cs=[v]/\CR w S d v:=by
 match cs,h with
 | [v],h=>exact⟨v,rfl,c7.single.1 h⟩
 | [],h=>simp[c7] at h
 | _::_::_,h=>simp[c7] at h
def tC(w:World)(S:Nat->Nat->Prop)(b off:Nat)(a:List D):Prop:=∃ cs,c7 w S a cs/\∀ (i:Nat) (c:Value),cs[i]?=some c->S b (off+i)/\w.cell? ⟨b,off+i,none⟩=some c
theorem tC.mono{w w':World}{S':Nat->Nat->Prop}(g:∀ b o,S b o->w'.cell? ⟨b,o,none⟩=w.cell? ⟨b,o,none⟩)(f:∀ b o,S b o->S' b o){b off:Nat}{d:List D}(h:tC w S b off d):tC w' S' b off d:=by obtain⟨cs,j,a⟩:=h;exact⟨cs,j.mono g f,λi c e=>⟨f _ _ (a i c e).1,by rw[g _ _ (a i c e).1];exact(a i c e).2⟩⟩
theorem tC.part{w:World}{b off:Nat}{x y z:List D}(h:tC w S b off<|x++(y++z)):tC w S b (off+x.length) y:=by obtain⟨cs,a,f⟩:=h;obtain⟨_,d⟩:=a.split;obtain⟨e,_⟩:=d.split;refine⟨_,e,λi c g=>?_⟩;grind
theorem CR.elems{w:World}{v:Value}(h:CR w S (.sl l) v):∃ a cap b off,v=.slice a l.length cap/\(l=[]\/a=some ⟨b,off,none⟩)/\l.length<=cap/\tC w S b off (N l):=by
 cases h with
 | sl _ a cap b off c f g j k=>
  refine⟨a,cap,b,off,rfl,f,g,(List.range (N l).length).map c,⟨j2,λi d c' m e=>?_⟩,λi c' e=>?_⟩
  ·grind
  ·have hi:=(zra.1 e).1
   simp_all
def afw{w:World}{l:List D}{a:Option Addr}{cap b off:Nat}(g:l=[]\/a=some ⟨b,off,none⟩)(j:l.length<=cap)(h:tC w S b off<|N l):CR w S (.sl l) (.slice a l.length cap):=by
 obtain⟨cs,e,f⟩:=h;refine .sl l a cap b off (λi=>cs.getD i undef) g j (λi d c=>?_)<|λi d c=>?_
 ·have hi:i<cs.length:=by rw[<-e.1];exact(zra.1 c).1
  have:=f i _<|zca hi;simpa [List.getD,zca hi] using this
 ·have hi:i<cs.length:=by rw[<-e.1];exact(zra.1 c).1
  have:=e.2 i d _ c<|zca hi;simpa [List.getD,zca hi] using this
def Ze:D->Value->Prop
 | .st _,v=>∃ cs,v=.agg cs
 | _,v=>∀ cs,v≠.agg cs
def ge(w:World)(S:Nat->Nat->Prop)(d:D)(v:Value):Prop:=Ze d v/\c7 w S d.flat v.cells.toList
def DR(w:World)(S:Nat->Nat->Prop):D->Value->Prop
 | .tup l,v=>∃ vs:List Value,v=.tuple vs.toArray/\l.length=vs.length/\∀ (i:Nat) (d:D) (u:Value),l[i]?=some d->vs[i]?=some u->ge w S d u
 | d,v=>ge w S d v
theorem ge.mono{w w':World}{S':Nat->Nat->Prop}(c:∀ b o,S b o->w'.cell? ⟨b,o,none⟩=w.cell? ⟨b,o,none⟩)(a:∀ b o,S b o->S' b o){d:D}{v:Value}(h:ge w S d v):ge w' S' d v:=⟨h.1,h.2.mono c a⟩
theorem DR.mono{w w':World}{S':Nat->Nat->Prop}(c:∀ b o,S b o->w'.cell? ⟨b,o,none⟩=w.cell? ⟨b,o,none⟩)(a:∀ b o,S b o->S' b o){d:D}{v:Value}(h:DR w S d v):DR w' S' d v:=by
 cases d<;>simp[DR] at h ⊢<;>first
  | exact h.mono c a
  | (obtain⟨vs,e,f,g⟩:=h;exact⟨vs,e,f,λi d u j k=>(g i d u j k).mono c a⟩)
def DR.of0{w:World}{d:D}{v:Value}(h:ge w S d v):DR w S d v:=by
 cases d<;>simp[DR]<;>first
  | exact h
  | (exfalso;obtain⟨c,e,h⟩:=c7.single' h.2;cases h)
def CR.int_inv{w:World}{k:IntKind}{n:Int}{v:Value}(h:CR w S (.int k n) v):v=.int k n:=by cases h;rfl
def CR.bool_inv{w:World}{n:Bool}{v:Value}(h:CR w S (.bool n) v):v=.bool n:=by cases h;rfl
def ak{v u:Value}(a:∀ cs,v≠.agg cs)(h:v.cells.toList=[u]):v=u:=by all_goals simp_all [Value.cells]
theorem ge.int_inv{w:World}{k:IntKind}{n:Int}{v:Value}(h:ge w S (.int k n) v):v=.int k n:=by obtain⟨u,a,b⟩:=c7.single' (d:=.int k n) h.2;rw[ak h.1 a];exact b.int_inv
theorem ge.bool_inv{w:World}{n:Bool}{v:Value}(h:ge w S (.bool n) v):v=.bool n:=by obtain⟨u,a,b⟩:=c7.single' (d:=.bool n) h.2;rw[ak h.1 a];exact b.bool_inv
def ge.sl_inv{w:World}{v:Value}(h:ge w S (.sl l) v):CR w S (.sl l) v:=by obtain⟨u,a,b⟩:=c7.single' (d:=.sl l) h.2;rw[ak h.1 a];exact b
def CR.no_agg{w:World}{d:D}{v:Value}(h:CR w S d v):(∀ cs,v≠.agg cs)/\(∀ vs,v≠.tuple vs)/\d.flat=[d]/\v.cells=#[v]:=by cases h<;>simp[D.flat,Value.cells]
def afQ{w:World}{d:D}{v:Value}(h:CR w S d v):ge w S d v:=by
 obtain⟨c,_,a,b⟩:=h.no_agg;refine⟨?_,?_⟩
 ·cases h<;>simp[Ze]
 ·rw[a,b];exact c7.single.2 h
end
section
variable{a:Act}{l:List Nat}{f:World}
structure Cx where
 w:World
 S:Nat->Nat->Prop
 γ:Nat->Option Nat
 β:Nat->Option (Nat×Nat)
 ob:Nat->Option Ob
 dead:List Nat
def rL(w:World)(b:Nat):Option Nat:=(ce w b).map (·.size)
def cC:Ob->List Nat->Nat
 | .one t _,p=>aZ t p
 | .many t _,i::p=>i*t.size+aZ t p
 | .many ..,[]=>0
 | .mp ..,_=>0
 | .lp ..,_=>0
 | .fv _,_=>0
def tok(c:Cx)(t:Ty)(v:Nat)(l:List D)(a:Option Addr)(cap:Nat):Prop:=
 v ∉ c.dead->(a=none/\cap=0)\/∃ b off,a=some ⟨b,off,none⟩/\c.β v=some (b,off+l.length*t.size)/\∃ n,rL c.w b=some n/\off+cap*t.size<=n/\off=0
mutual
def AC(c:Cx):AV->List Value->Prop
 | .d t x,cs=>wt t x/\aj t=true/\c7 c.w c.S x.flat cs
 | .own t v l,cs=>aj t=true/\(∀ x∈l,wt t x)/\∃ a cap,cs=[.slice a l.length cap]/\CR c.w c.S (.sl l) (.slice a l.length cap)/\tok c t v l a cap
 | .nils,cs=>cs=[.slice none 0 0]
 | .ptr t id p,cs=>∃ b off,cs=[.pointer<|some ⟨b,off,none⟩]/\c.γ id=some b/\∀ o,c.ob id=some o->fA o p=some t/\off=cC o p
 | .fptr t x,cs=>wt t x/\aj t=true/\∃ b off,cs=[.pointer<|some ⟨b,off,none⟩]/\tC c.w c.S b off x.flat
 | .mem t id,cs=>aj t=true/\∃ b,c.γ id=some b/\∀ o,c.ob id=some o->∃ l cap,o=.many t l/\l.length<=cap/\cs=[.slice (some ⟨b,0,none⟩) l.length cap]
 | .st ts l,cs=>aP ts=true/\AV.fitss ts l=true/\jW c l cs
 | .clo f l,cs=>∃ caps:List Value,cs=[.func (.func f) #[] caps.toArray]/\pi c l caps
 | .map kt vt id,cs=>∃ b,cs=[.map<|some b]/\c.γ id=some b/\aj kt=true/\aj vt=true/\∀ o,c.ob id=some o->∃ l,o=.mp kt vt l
 | .sub sl t id p lo n,cs=>aj t=true/\∃ b off cap,cs=[if sl then .slice (some ⟨b,off,none⟩) n cap else .pointer<|some ⟨b,off,none⟩]/\c.γ id=some b/\∀ o,c.ob id=some o->∃ m,fA o p=some (.arr m t)/\lo+n<=m/\off=cC o p+lo*t.size
 | .yld id,cs=>∃ L,cs=[.func (.yield L) #[] #[]]/\c.γ id=some L
 | .gone,_=>True
 | .undef,_=>True
 | .tpo ..,_=>False
def jW(c:Cx):List AV->List Value->Prop
 | [],cs=>cs=[]
 | a::l,cs=>∃ c1 c2,cs=c1++c2/\AC c a c1/\jW c l c2
def pi(c:Cx):List AV->List Value->Prop
 | [],cs=>cs=[]
 | a::l,cs=>∃ v c2,cs=v::c2/\AC c a [v]/\pi c l c2
end
def AR(c:Cx):AV->Value->Prop
 | .gone,v=>v=undef
 | .d t x,v=>(aj t=true/\wt t x/\ge c.w c.S x v)\/∃ ts,t=.tup ts/\aP ts=true/\wt t x/\DR c.w c.S x v
 | .undef,_=>True
 | .tpo t v ts y,x=>∃ l b v0 vs,y=.tup (.sl l::b)/\x=.tuple (v0::vs).toArray/\(∀ cs,v0≠.agg cs)/\AC c (.own t v l) v0.cells.toList/\aP ts=true/\fq ts b/\vs.length=b.length/\∀ (i:Nat) (d:D) (u:Value),b[i]?=some d->vs[i]?=some u->ge c.w c.S d u
 | .st ts l,v=>(∃ cs,v=.agg cs)/\AC c (.st ts l) v.cells.toList
 | a,v=>(∀ cs,v≠.agg cs)/\AC c a v.cells.toList
structure Cx.le(c c':Cx):Prop where
 cell:∀ b o,c.S b o->c'.w.cell? ⟨b,o,none⟩=c.w.cell? ⟨b,o,none⟩
 S:∀ b o,c.S b o->c'.S b o
 γ:∀ id b,c.γ id=some b->c'.γ id=some b
 ob:∀ id o,c'.ob id=some o->(∃ b,c.γ id=some b)->∃ o',c.ob id=some o'/\(∀ p,fA o p=fA o' p/\cC o p=cC o' p)/\(∀ t l,o'=.many t l->∃ l',o=.many t l'/\l'.length=l.length)/\(∀ kt vt l,o'=.mp kt vt l->∃ l',o=.mp kt vt l')
 β:∀ v,v ∉ c'.dead->v ∉ c.dead/\∀ b e,c.β v=some (b,e)->c'.β v=some (b,e)/\∀ n,rL c.w b=some n->rL c'.w b=some n
mutual
theorem AC.mono{c c':Cx}(h:c.le c'):∀ (a:AV) (cs:List Value),AC c a cs->AC c' a cs
 | .d t x,cs,k=>by simp[AC] at k ⊢;exact⟨k.1,k.2.1,k.2.2.mono h.cell h.S⟩
 | .own t v l,cs,k=>by
  simp[AC] at k ⊢;obtain⟨k0,k1,a,cap,rfl,k2,k3⟩:=k;refine⟨k0,k1,a,cap,rfl,k2.mono h.cell h.S,λhd=>?_⟩;obtain⟨h1,h2⟩:=h.β v hd;rcases k3 h1 with h3|⟨b,off,h3,h4,n,h5,h6⟩
  ·exact .inl h3
  ·exact .inr ⟨b,off,h3,(h2 _ _ h4).1,n,(h2 _ _ h4).2 n h5,h6⟩
 | .nils,cs,k=>by simpa only[AC] using k
 | .ptr t id p,cs,k=>by
  simp[AC] at k ⊢;obtain⟨b,off,rfl,k1,k2⟩:=k;refine⟨b,off,rfl,h.γ _ _ k1,λo ho=>?_⟩;obtain⟨o',h1,h2,_⟩:=h.ob id o ho ⟨b,k1⟩
  simp_all
 | .fptr t x,cs,k=>by simp[AC] at k ⊢;obtain⟨k1,k0,b,off,rfl,k2⟩:=k;exact⟨k1,k0,b,off,rfl,k2.mono h.cell h.S⟩
 | .mem t id,cs,k=>by simp[AC] at k ⊢;obtain⟨k0,b,k1,k2⟩:=k;refine⟨k0,b,h.γ _ _ k1,λo ho=>?_⟩;obtain⟨o',h1,_,h3,_⟩:=h.ob id o ho ⟨b,k1⟩;grind
 | .st ts l,cs,k=>by simp[AC] at k ⊢;exact⟨k.1,k.2.1,jW.mono h l cs k.2.2⟩
 | .clo f l,cs,k=>by simp[AC] at k ⊢;obtain⟨caps,rfl,k1⟩:=k;exact⟨caps,rfl,pi.mono h l caps k1⟩
 | .map kt vt id,cs,k=>by simp[AC] at k ⊢;obtain⟨b,e,k1,k2,k3,k4⟩:=k;refine⟨b,e,h.γ _ _ k1,k2,k3,λo ho=>?_⟩;obtain⟨o',h1,_,_,h3⟩:=h.ob id o ho ⟨b,k1⟩;grind
 | .sub sl t id p lo n,cs,k=>by
  simp only[AC] at k ⊢;obtain⟨k0,b,off,cap,rfl,k1,k2⟩:=k;refine⟨k0,b,off,cap,rfl,h.γ _ _ k1,λo ho=>?_⟩;obtain⟨o',h1,h2,_⟩:=h.ob id o ho ⟨b,k1⟩
  simp_all
 | .yld id,cs,k=>by simp[AC] at k ⊢;obtain⟨L,rfl,k1⟩:=k;exact⟨L,rfl,h.γ _ _ k1⟩
 | .gone,cs,k=>by simp[AC]
 | .undef,cs,k=>by simp[AC]
 | .tpo ..,cs,k=>by simp[AC] at k
theorem jW.mono{c c':Cx}(h:c.le c'):∀ (l:List AV) (cs:List Value),jW c l cs->jW c' l cs
 | [],cs,k=>by simpa only[jW] using k
 | a::l,cs,k=>by simp[jW] at k ⊢;obtain⟨c1,c2,rfl,k1,k2⟩:=k;exact⟨c1,c2,rfl,AC.mono h a c1 k1,jW.mono h l c2 k2⟩
theorem pi.mono{c c':Cx}(h:c.le c'):∀ (l:List AV) (cs:List Value),pi c l cs->pi c' l cs
 | [],cs,k=>by simpa only[pi] using k
 | a::l,cs,k=>by simp[pi] at k ⊢;obtain⟨c1,c2,rfl,k1,k2⟩:=k;exact⟨c1,c2,rfl,AC.mono h a _ k1,pi.mono h l c2 k2⟩
end
theorem AR.mono{c c':Cx}(h:c.le c'){a:AV}{v:Value}(k:AR c a v):AR c' a v:=by
 cases a<;>simp[AR] at k ⊢
 case d t x=>
  rcases k with⟨b,e,f⟩|⟨ts,b,n,e,f⟩
  ·exact .inl ⟨b,e,f.mono h.cell h.S⟩
  ·exact .inr ⟨ts,b,n,e,f.mono h.cell h.S⟩
 case tpo t v ts y=> obtain⟨l,o,v0,vs,e1,e2,e3,e4,e5,e6,e7,g⟩:=k;exact⟨l,o,v0,vs,e1,e2,e3,AC.mono h _ _ e4,e5,e6,e7,λi d u j m=>(g i d u j m).mono h.cell h.S⟩
 all_goals first|exact⟨k.1,AC.mono h _ _ k.2⟩|exact k
def j6(c:Cx)(kt vt:Ty):Nat->List D->List MapEntry->Prop
 | _,[],[]=>True
 | j,x::l,e::a=>(e.born=j/\∃ k v,x=.st [k,v]/\wt kt k/\wt vt v/\ge c.w c.S k e.key/\ge c.w c.S v e.val)/\j6 c kt vt (j+1) l a
 | _,_,_=>False
def ws(c:Cx):AV->Value->Prop
 | .ptr _ id [],v=>∃ b,v=.pointer (some ⟨b,0,none⟩)/\c.γ id=some b
 | _,_=>False
def pj(c:Cx):List AV->List Value->Prop
 | [],[]=>True
 | a::l,v::vs=>ws c a v/\pj c l vs
 | _,_=>False
def gn(c:Cx):AV->Value->Prop
 | .d t x,v=>AR c (.d t x) v
 | .fptr t x,v=>AR c (.fptr t x) v
 | .ptr t id p,v=>ws c (.ptr t id p) v
 | .clo f l,v=>∃ caps:List Value,v=.func (.func f) #[] caps.toArray/\pj c l caps
 | .yld id,v=>AR c (.yld id) v
 | .map kt vt id,v=>∃ b,v=.map (some b)/\c.γ id=some b/\aj kt=true/\aj vt=true
 | _,_=>True
theorem ws.mono{c c':Cx}(d:∀ id b,c.γ id=some b->c'.γ id=some b){a:AV}{v:Value}(k:ws c a v):ws c' a v:=by unfold ws at k ⊢;all_goals grind
theorem pj.mono{c c':Cx}(d:∀ id b,c.γ id=some b->c'.γ id=some b):∀ {l:List AV} {vs:List Value},pj c l vs->pj c' l vs
 | [],[],_=>trivial
 | [],_::_,k=>k.elim
 | _::_,[],k=>k.elim
 | a::l,v::vs,k=>⟨k.1.mono d,pj.mono d k.2⟩
theorem gn.mono{c c':Cx}(g:∀ b o,c.S b o->c'.w.cell? ⟨b,o,none⟩=c.w.cell? ⟨b,o,none⟩)(m:∀ b o,c.S b o->c'.S b o)(j:∀ id b,c.γ id=some b->c'.γ id=some b){a:AV}{v:Value}(k:gn c a v):gn c' a v:=by
 cases a<;>simp[gn] at k ⊢
 case d t x=>
  simp[AR] at k ⊢;rcases k with⟨h,i,q⟩|⟨ts,h,n,i,q⟩
  ·exact .inl ⟨h,i,q.mono g m⟩
  ·exact .inr ⟨ts,h,n,i,q.mono g m⟩
 case fptr t x=> simp[AR,AC] at k ⊢;obtain⟨r,h,n,b,off,e,i⟩:=k;exact⟨r,h,n,b,off,e,i.mono g m⟩
 case ptr t id p=>exact k.mono j
 case clo f l=> obtain⟨caps,e,h⟩:=k;exact⟨caps,e,h.mono j⟩
 case yld id=> simp[AR,AC] at k ⊢;obtain⟨h,L,e,i⟩:=k;exact⟨h,L,e,j _ _ i⟩
 case map kt vt id=> obtain⟨b,e,h,i⟩:=k;exact⟨b,e,j _ _ h,i⟩
def Fa:Ex->Code
 | .normal=>.skip
 | .exit id=>.exit id
 | .ret=>.ret
def LpS(i:LpI)(r:Loop):Prop:=r.tmps.size=i.nt/\r.params.toList=i.ps/\r.assign=i.asg/\r.body=i.bdy
def LpD:Option Ex->Loop->Prop
 | none,r=>r.state=.ready/\r.pending=none
 | some e,r=>r.state=.done/\r.pending=some (Fa e)
def EY(r r':Loop):Prop:=r'.tmps=r.tmps/\r'.params=r.params/\r'.assign=r.assign/\r'.body=r.body
def kL(w w':World)(b:Nat):Prop:=w'.heap[b]?=w.heap[b]?\/∃ r r',w.heap[b]?=some (Obj.loop r)/\w'.heap[b]?=some (Obj.loop r')/\EY r r'
def kL.refl(w:World)(b:Nat):kL w w b:=.inl rfl
theorem kL.trans{w w1:World}{b:Nat}(h:kL w w1 b)(k:kL w1 f b):kL w f b:=by
 rcases h with h|⟨r,r1,e,g,a⟩<;>rcases k with k|⟨r',j,d,i,c⟩
 ·exact .inl<|k.trans h
 ·exact .inr ⟨r',j,h.symm.trans d,i,c⟩
 ·exact .inr ⟨r,r1,e,k.trans g,a⟩
 ·rw[g] at d;cases d;exact .inr ⟨r,j,e,i,c.1.trans a.1,c.2.1.trans a.2.1,c.2.2.1.trans a.2.2.1,c.2.2.2.trans a.2.2.2⟩
def kL.row{w w':World}{b:Nat}(h:kL w w' b){cs:Array Value}(c:ce w b=some cs):w'.heap[b]?=w.heap[b]?:=by
 rcases h with h|⟨r,r',a,_,_⟩
 ·exact h
 ·simp[ce,a] at c
def dN(w w':World):Prop:=∀ b:Nat,(w.heap[b]?=some (Obj.deferred<|some [])->w'.heap[b]?=some (Obj.deferred<|some []))/\((∃ r,w.heap[b]?=some (Obj.loop r))->∃ r,w'.heap[b]?=some (Obj.loop r))
def dN.refl(w:World):dN w w:=λ_=>⟨id,id⟩
def dN.trans{w w1:World}(h:dN w w1)(k:dN w1 f):dN w f:=λb=>⟨λa=>(k b).1<|(h b).1 a,λa=>(k b).2<|(h b).2 a⟩
def cQ(lo:Nat)(w:World):Nat->List Deferred->Prop
 | _,[]=>True
 | hi,d::l=>∃ K,d={ target:=.collected K,args:=#[] }/\lo<=K/\K<hi/\w.heap[K]?=some (Obj.deferred<|some [])/\cQ lo w K l
theorem cQ.mono{lo c:Nat}{w w':World}(b:c<=lo)(h:dN w w'):∀ {l:List Deferred} {hi a:Nat},hi<=a->cQ lo w hi l->cQ c w' a l
 | [],_,_,_,_=>trivial
 | d::l,hi,a,k,⟨K,e,f,g,i,j⟩=>⟨K,e,zva b f,zeb g k,(h K).1 i,cQ.mono b h (zja K) j⟩
theorem cQ.append{lo mid:Nat}{w:World}(hm:lo<=mid):∀ {l l':List Deferred} {hi:Nat},mid<=hi->cQ mid w hi l->cQ lo w mid l'->cQ lo w hi (l++l')
 | [],l',hi,b,_,h=>cQ.mono (zja _) (dN.refl w) b h
 | d::l,l',hi,b,⟨K,c,a,e,f,g⟩,h=>⟨K,c,zva hm a,e,f,cQ.append hm a g h⟩
def mz(l:List Nat)(a:Act)(w:World)(a':Act)(w':World):Prop:=dN w w'/\∃ m,a'.defers=m++a.defers/\cQ w.heap.size w' w'.heap.size m/\(4095∈l->m=[])
def mz.same{a':Act}{w w':World}(b:a'.defers=a.defers)(h:dN w w'):mz l a w a' w':=⟨h,[],by simpa using b,trivial,λ_=>rfl⟩
def mz.less{l':List Nat}{a':Act}{w w':World}(hl:∀ i∈l',i∈l)(h:mz l a w a' w'):mz l' a w a' w':=by obtain⟨q1,m1,e1,p1,c⟩:=h;exact⟨q1,m1,e1,p1,λb=>c<|hl _ b⟩
theorem mz.trans{a1 a2:Act}{w w1:World}(h:mz l a w a1 w1)(k:mz l a1 w1 a2 f)(d:w.heap.size<=w1.heap.size)(e:w1.heap.size<=f.heap.size):mz l a w a2 f:=by
 obtain⟨q1,m1,e1,p1,i⟩:=h;obtain⟨c,m2,e2,g,j⟩:=k;refine⟨q1.trans c,m2++m1,by rw[e2,e1,zPa],?_,λb=>by rw[i b,j b];rfl⟩
 exact cQ.append d e g<|p1.mono (zja _) c<|zja _
def bV{d:Option Nat}{v:Value}:(a.put d v).defers=a.defers:=by cases d<;>rfl
def gM(c:Cx)(b:Nat):Ob->Prop
 | .one t v=>aj t=true/\AV.fits t v=true/\(∀ o,¬ c.S b o)/\∃ cs:List Value,ce c.w b=some cs.toArray/\AC c v cs/\cs.length=t.size
 | .many t l=>aj t=true/\(∀ x∈l,wt t x)/\(∀ o,¬ c.S b o)/\∃ cs d:List Value,ce c.w b=some (cs++d).toArray/\c7 c.w c.S (N l) cs
 | .mp kt vt l=>aj kt=true/\aj vt=true/\(∀ o,¬ c.S b o)/\∃ a:Array MapEntry,c.w.heap[b]?=some (.map a l.length)/\j6 c kt vt 0 l a.toList
 | .fv v=>(∀ o,¬ c.S b o)/\∃ x:Value,ce c.w b=some #[x]/\gn c v x/\Value.oneCell' x=true
 | .lp i p=>∃ r:Loop,c.w.heap[b]?=some (Obj.loop r)/\LpS i r/\(∀ t,t<i.nt->gn c (i.caps t) (r.tmps.getD t undef))/\LpD p r
structure Root where
 w:World
 S0:Nat->Nat->Prop
 sh:Nat->Prop
abbrev Root.heap(r:Root):Array Obj:=r.w.heap
def Root.Old(r:Root)(b:Nat):Prop:=b<r.heap.size/\¬ r.sh b
structure nD(r:Root)(w:World):Prop where
 tape:w.tape=r.w.tape
 os:w.os=r.w.os
 output:w.output=r.w.output
 sz:r.heap.size<=w.heap.size
 dr:r.w.drawn<=w.drawn
 old:∀ b,r.Old b->w.heap[b]?=r.w.heap[b]?
structure Rp(w0:Root)(S:Nat->Nat->Prop)(γ:Nat->Option Nat)(β:Nat->Option (Nat×Nat))(s:St)(a:Act)(w:World):Prop where
 ext:nD w0 w
 tms:∀ t,t<a.tmps.size->AR ⟨w,S,γ,β,s.ob,s.dead⟩ (s.tm t) (a.tmps.getD t undef)
 nt:a.tmps.size=s.nt
 tmu:∀ t,s.nt<=t->s.tm t=.undef
 obs:∀ id o b,s.ob id=some o->γ id=some b->gM ⟨w,S,γ,β,s.ob,s.dead⟩ b o
 γn:∀ id b,γ id=some b->¬ w0.Old b/\b<w.heap.size
 γi:∀ id id' b,γ id=some b->γ id'=some b->id=id'
 γf:∀ id,s.base+4096<=id->γ id=none
 βn:∀ v b e,v ∉ s.dead->β v=some (b,e)->¬ w0.Old b/\b<w.heap.size/\∀ o,e<=o->¬ S b o
 βi:∀ v v' b e e',v ∉ s.dead->v' ∉ s.dead->β v=some (b,e)->β v'=some (b,e')->v=v'
 βγ:∀ v id b e,v ∉ s.dead->β v=some (b,e)->γ id≠some b
 βf:∀ v,s.base+4096<=v->β v=none
 Sb:∀ b o,S b o->b<w.heap.size
 So:∀ b o,S b o->w0.Old b->w0.S0 b o
structure Fm(s:St)(S:Nat->Nat->Prop)(γ:Nat->Option Nat)(a:Act)(w:World)(S':Nat->Nat->Prop)(γ':Nat->Option Nat)(a':Act)(w':World):Prop where
 sub:∀ b o,S b o->S' b o
 cell:∀ b o,S b o->w'.cell? ⟨b,o,none⟩=w.cell? ⟨b,o,none⟩
 slots:∀ t∈s.lkS,a'.tmps.getD t undef=a.tmps.getD t undef
 objs:∀ id∈s.lkO,∀ b,γ id=some b->γ' id=some b/\kL w w' b
 sz:w.heap.size<=w'.heap.size
 gam:∀ id b,γ id=some b->γ' id=some b
 dfs:mz s.lkO a w a' w'
structure Sk(s s':St):Prop where
 lkS:s'.lkS=s.lkS
 lkO:s'.lkO=s.lkO
 nt:s'.nt=s.nt
def Sk.refl(s:St):Sk s s:=⟨rfl,rfl,rfl⟩
theorem Sk.trans{a b c:St}(h:Sk a b)(k:Sk b c):Sk a c:=⟨k.lkS.trans h.lkS,k.lkO.trans h.lkO,k.nt.trans h.nt⟩
end
section
variable{P:Program}{c:Cx}{a:AV}
def dn:Ty->Bool
 | .st _=>true
 | .arr _ _=>true
 | _=>false
mutual
def Ty.high:Ty->Nat
 | .st l=>agu l+1
 | .arr _ t=>t.high+1
 | .sl t=>t.high+1
 | .tup l=>agu l+1
 | _=>1
def agu:List Ty->Nat
 | []=>0
 | t::l=>max t.high<|agu l
end
def IV:D->Value->Bool
 | .int k n,.int k' n'=>decide (k=k')&&decide (n=n')
 | .bool b,.bool b'=>b==b'
 | .str s,.string s'=>decide (s=s')
 | .sl l,.slice a len cap=>l.isEmpty&&a.isNone&&decide (len=0)&&decide (cap=0)
 | _,_=>false
def de:List D->List Value->Bool
 | [],[]=>true
 | d::l,v::l'=>IV d v&&de l l'
 | _,_=>false
def sD(P:Program)(t:TypeId)(ty:Ty):Bool:=
 match P.info? t with
 | some i=>decide (i.size=ty.size)&&decide (i.bytes<=16384)&&decide (i.size<=4096)&&(match i.zero with|some z=>de (aw ty).flat z.cells.toList&&(match z with|.agg _=>dn ty|_=>!dn ty)|none=>false)
 | none=>false
mutual
def cb(P:Program):Ty->TypeId->Bool
 | .int k,t=>sD P t (.int k)&&(match P.underlying t with|some (.int k')=>decide (k=k')|_=>false)
 | .bool,t=>sD P t .bool&&(match P.underlying t with|some .bool=>true|_=>false)
 | .str,t=>sD P t .str&&(match P.underlying t with|some .string=>true|_=>false)
 | .st ts,t=>sD P t (.st ts)&&!P.stoodInHeld t&&!P.eqGuardType P.depth t&&(match P.underlying t with|some (.struct fs)=>gS P ts fs.toList 0|_=>false)
 | .arr n e,t=>sD P t (.arr n e)&&!P.eqGuardType P.depth t&&(match P.underlying t with|some (.array m u)=>decide (m=n)&&cb P e u|_=>false)
 | .sl e,t=>sD P t (.sl e)&&(match P.underlying t with|some (.slice u)=>cb P e u|_=>false)
 | _,_=>false
def gS(P:Program):List Ty->List Field->Nat->Bool
 | [],[],_=>true
 | t :: ts, f :: fs, off => decide (f.offset = off) && decide (f.name ≠ "_") && decide (0 < t.size) && cb P t f.type && gS P ts fs (off + t.size)
 | _,_,_=>false
end
def Ps(P:Program)(t:TypeId):Bool:=
 (match P.info? t with
 | some i=>decide (i.size=1)&&decide (i.bytes<=16384)&&(match i.zero with|some z=>decide (z.cells.toList.length=1)&&z.oneCell'|none=>false)
 | none=>false)&&(match P.underlying t with|some (.struct _)=>false|some (.array _ _)=>false|some _=>true|none=>false)
def OC(P:Program)(a:List Ty)(c:Ty)(f:FuncId)(xs:List D)(y:D):Prop:=
 ∀ (w:World) (S:Nat->Nat->Prop) (vs:List Value),(∀ b o,S b o->b<w.heap.size)->fq a xs->vs.length=xs.length->(∀ (i:Nat) (x:D) (v:Value),xs[i]?=some x->vs[i]?=some v->ge w S x v) ->
  Calls P f vs.toArray w λe w'=>∃ v,e=.returned v/\(∃ os d,w.drawn<=d/\w'=grown w os d)/\wt c y/\DR w' (λb o=>S b o\/(w.heap.size<=b/\b<w'.heap.size)) y v
def R9(w:World)(S:Nat->Nat->Prop)(x:D)(b:Nat):Prop:=(∀ o,¬ S b o)/\∃ cs:List Value,ce w b=some cs.toArray/\c7 w S x.flat cs
def JA(b:Nat):Value:=.pointer<|some ⟨b,0,none⟩
def WX(P:Program)(c:List Ty)(g:Ty)(f:FuncId)(xs:List D)(y:D)(k:Nat):Prop:=
 ∀ (w:World) (S:Nat->Nat->Prop) (vs:List Value) (a:List Nat),(∀ b o,S b o->b<w.heap.size)->fq c xs->a.length=k->vs.length+k=xs.length->(∀ (i j b:Nat),a[i]?=some b->a[j]?=some b->i=j) ->
  (∀ (i:Nat) (x:D) (v:Value),xs[i]?=some x->vs[i]?=some v->ge w S x v)->(∀ (i:Nat) (x:D) (b:Nat),xs[vs.length+i]?=some x->a[i]?=some b->R9 w S x b) ->
  Calls P f (vs++a.map JA).toArray w λe w'=>∃ v,e=.returned v/\(∃ os d,w.drawn<=d/\w'=grown w os d)/\wt g y/\DR w' (λb o=>S b o\/(w.heap.size<=b/\b<w'.heap.size)) y v
def aa0(P:Program):Nat->List Ty->Ty->FuncId->List D->D->Prop
 | 0,a,b,f,xs,y=>OC P a b f xs y
 | k+1,a,b,f,xs,y=>WX P a b f xs y<|k+1
def Kq(P:Program)(c:List Ty)(t:Ty)(f:FuncId)(xs:List D)(l:List D):Prop:=
 ∀ (w:World) (S:Nat->Nat->Prop) (vs:List Value),(∀ b o,S b o->b<w.heap.size)->fq c xs->vs.length=xs.length->(∀ (i:Nat) (x:D) (v:Value),xs[i]?=some x->vs[i]?=some v->ge w S x v) ->
  Calls P f vs.toArray w λe w'=>∃ a cap,e=.returned (.slice a l.length cap)/\(∃ os d,w.drawn<=d/\w'=grown w os d)/\aj t=true/\(∀ x∈l,wt t x)/\∃ S':Nat->Nat->Prop,(∀ b o,S b o->S' b o)/\(∀ b o,S' b o->S b o\/(w.heap.size<=b/\b<w'.heap.size)) ∧
   CR w' S' (.sl l) (.slice a l.length cap)/\((a=none/\cap=0)\/∃ b off,a=some ⟨b,off,none⟩/\(w.heap.size<=b/\b<w'.heap.size)/\(∃ n,rL w' b=some n/\off+cap*t.size<=n/\off=0)/\∀ o,off+l.length*t.size<=o->¬ S' b o)
def IA(w w':World)(S':Nat->Nat->Prop)(t:Ty)(l:List D)(v:Value):Prop:=
 ∃ a cap,v=.slice a l.length cap/\aj t=true/\(∀ x∈l,wt t x)/\CR w' S' (.sl l) v/\((a=none/\cap=0)\/∃ b off,a=some ⟨b,off,none⟩/\(w.heap.size<=b/\b<w'.heap.size)/\(∃ n,rL w' b=some n/\off+cap*t.size<=n/\off=0)/\∀ o,off+l.length*t.size<=o->¬ S' b o)
def wv(w w':World)(S':Nat->Nat->Prop):Ty->D->Value->Prop
 | .tup (.sl t::ts),y,v=>∃ l a v0 vs,y=.tup (.sl l::a)/\v=.tuple (v0::vs).toArray/\IA w w' S' t l v0/\aP ts=true/\fq ts a/\vs.length=a.length/\∀ (i:Nat) (d:D) (u:Value),a[i]?=some d->vs[i]?=some u->ge w' S' d u
 | .st (.sl t::ts),y,v=>∃ l a v0 cs,y=.st (.sl l::a)/\v=.agg (v0::cs).toArray/\IA w w' S' t l v0/\aP ts=true/\fq ts a/\c7 w' S' (N a) cs
 | _,_,_=>False
def Kr(P:Program)(a:List Ty)(c:Ty)(f:FuncId)(xs:List D)(y:D):Prop:=
 ∀ (w:World) (S:Nat->Nat->Prop) (vs:List Value),(∀ b o,S b o->b<w.heap.size)->fq a xs->vs.length=xs.length->(∀ (i:Nat) (x:D) (v:Value),xs[i]?=some x->vs[i]?=some v->ge w S x v) ->
  Calls P f vs.toArray w λe w'=>∃ v,e=.returned v/\(∃ os d,w.drawn<=d/\w'=grown w os d)/\∃ S':Nat->Nat->Prop,(∀ b o,S b o->S' b o)/\(∀ b o,S' b o->S b o\/(w.heap.size<=b/\b<w'.heap.size))/\wv w w' S' c y v
def OD(P:Program)(own:Bool)(k:Nat)(a:List Ty)(b:Ty)(f:FuncId)(xs:List D)(y:D):Prop:=
 aa0 P k a b f xs y/\(own=true->(∃ t l,b=.sl t/\y=.sl l/\Kq P a t f xs l)\/Kr P a b f xs y)
def KP(P:Program)(f:FuncId)(g:Ann->(R:Type)->St->List AV->(AV->St->Option R)->Option R):Prop:=
 ∀ (ann:Ann) (R:Type) (w0:Root) (S:Nat->Nat->Prop) (γ:Nat->Option Nat) (β:Nat->Option (Nat×Nat)) (s:St) (a:Act) (w:World) (b:List AV) (vs:List Value) (K:AV->St->Option R) (r:R),
  Rp w0 S γ β s a w->b.length=vs.length->(∀ (i:Nat) (x:AV) (v:Value),b[i]?=some x->vs[i]?=some v->AR ⟨w,S,γ,β,s.ob,s.dead⟩ x v)->g ann R s b K=some r ->
  Calls P f vs.toArray w λe w'=>∃ v y s' S' c d,e=.returned v/\K y s'=some r/\Rp w0 S' c d s' a w'/\AR ⟨w',S',c,d,s'.ob,s'.dead⟩ y v/\Fm s S γ a w S' c a w'/\Sk s s'
abbrev FW(ro:Option Nat):Fence:={ Fence.wide with round:=ro }
def Mb:Ex->Exit
 | .normal=>.normal
 | .exit i=>.exit i
 | .ret=>.ret
def Ko(P:Program)(f:Code->Ann->(R:Type)->St->(Ex->St->Option R)->Option R):Prop:=
 ∀ (ro:Option Nat) (nn:Nat) (w0:Root) (c:Code) (ann:Ann) (R:Type) (Q:Exit->Act->World->Prop) (S:Nat->Nat->Prop) (γ:Nat->Option Nat) (β:Nat->Option (Nat×Nat)) (s:St) (a:Act) (w:World) (k:Ex->St->Option R) (r:R),
  (∀ l,ro=some l->∃ r0,w.heap[l]?=some (Obj.loop r0))->Rp w0 S γ β s a w->f c ann R s k=some r ->
  (∀ e s' S' b d a' w',Rp w0 S' b d s' a' w'->Fm s S γ a w S' b a' w'->Sk s s'->k e s'=some r->Q (Mb e) a' w')->c.wpIn (FW ro) nn P Q a w
structure EnvOk(P:Program)(E:Env):Prop where
 lay:∀ t ty,E.L t=some ty->(∃ ts,ty=.tup ts)\/cb P ty t=true
 high:∀ t ty,E.L t=some ty->ty.high<=1000
 flat:∀ t ty,E.L t=some ty->aj ty=true
 sig : ∀ f ptys rty, E.sig f = some (ptys, rty) -> aP ptys = true /\ (aj rty = true \/ ∃ ts, rty = .tup ts /\ aP ts = true) /\ ∃ fn, P.funcs[f]? = some fn /\ (fn.name == "runtime.NumGoroutine") = false /\ fn.body.isSome = true
 call:∀ f ptys rty xs y,E.sig f=some (ptys,rty)->E.call f xs=some y->fq ptys xs->OD P (E.ownF f) (E.free f) ptys rty f xs y
 mixed:P.follows .mixedOrders=true
 lp:∀ (α β:Type) (body:α->Option (Sum α β)) (x:α) (y:β),E.lp body x=some y->∃ n,sG body n x=some y
 mapL:∀ t kt vt,E.mapL t=some (kt,vt)->bS kt=true/\∃ K V,P.underlying t=some (.map K V)/\cb P kt K=true/\cb P vt V=true/\kt.high<=1000
 inl : ∀ f g, E.inl f = some g -> (∃ fn, P.funcs[f]? = some fn /\ (fn.name == "runtime.NumGoroutine") = false /\ fn.body.isSome = true) /\ KP P f g
 cod:Ko P E.cod
 fnT:∀ t,E.fnT t=true->Ps P t=true
theorem fH{P:Program}{t:TypeId}{ty:Ty}(h:sD P t ty=true):∃ i z,P.info? t=some i/\i.size=ty.size/\(i.bytes<=16384/\ty.size<=4096)/\i.zero=some z/\de (aw ty).flat z.cells.toList=true/\((∃ cs,z=.agg cs)↔dn ty=true):=by unfold sD at h;all_goals grind
def gJ{P:Program}{t:TypeId}{ty:Ty}(h:cb P ty t=true):sD P t ty=true:=by
 cases ty<;>simp[cb,Y] at h<;>first
  | exact h.1
  | exact h.1.1
  | exact h.1.1.1
  | cases h
theorem zJ{t:TypeId}:∀ {ty:Ty},cb P ty t=true->(∃ ts,ty=.tup ts)\/ty=.fn->False:=by grind [cb]
def cp{t:TypeId}{ty:Ty}(h:cb P ty t=true)(w:World):(sizeOf t).run P w=.ok ty.size w:=by obtain⟨i,z,a,b,_⟩:=fH<|gJ h;exact xY (by rw[a];simp[b]) w
def HJ{t:TypeId}{ty:Ty}(h:cb P ty t=true)(w:World):(isAgg t).run P w=.ok (dn ty) w:=by
 have key:∀ d,P.underlying t=some d->(isAgg t).run P w=.ok (match d with|.struct _|.array _ _=>true|_=>false) w:=λd b=>by unfold isAgg;rw[G,run_underlying b w];cases d<;>rfl
 cases ty<;>simp[cb,Y] at h
 case int k=>obtain⟨_,h⟩:=h;split at h<;>first|(rename_i a;rw[key _ a];rfl)|cases h
 case bool=>obtain⟨_,h⟩:=h;split at h<;>first|(rename_i a;rw[key _ a];rfl)|cases h
 case str=>obtain⟨_,h⟩:=h;split at h<;>first|(rename_i a;rw[key _ a];rfl)|cases h
 case st ts=>obtain⟨_,h⟩:=h;split at h<;>first|(rename_i a;rw[key _ a];rfl)|cases h
 case arr n e=>obtain⟨_,h⟩:=h;split at h<;>first|(rename_i a;rw[key _ a];rfl)|cases h
 case sl e=>obtain⟨_,h⟩:=h;split at h<;>first|(rename_i a;rw[key _ a];rfl)|cases h
 all_goals cases h
theorem kl{t:TypeId}{ts:List Ty}(h:cb P (.st ts) t=true):∃ a,P.underlying t=some (.struct a)/\gS P ts a.toList 0=true:=by simp[cb,Y] at h;all_goals grind
theorem fm{t:TypeId}{n:Nat}{e:Ty}(h:cb P (.arr n e) t=true):∃ u,P.underlying t=some (.array n u)/\cb P e u=true:=by simp[cb,Y] at h;all_goals grind
theorem jF{P:Program}{t:TypeId}{e:Ty}(h:cb P (.sl e) t=true):∃ u,P.underlying t=some (.slice u)/\cb P e u=true:=by simp[cb,Y] at h;all_goals grind
theorem k9{t:TypeId}{k:IntKind}(h:cb P (.int k) t=true):P.underlying t=some (.int k):=by simp[cb,Y] at h;all_goals grind
theorem vQ:∀ {ts:List Ty} {a:List Field} {off i:Nat} {t:Ty},gS P ts a off=true->ts[i]?=some t->∃ f,a[i]?=some f/\f.offset=off+agv (ts.take i)/\0<t.size/\cb P t f.type=true
 | [],_,_,_,_,_,h=>by simp at h
 | u::ts,[],_,_,_,h,_=>by simp[gS] at h
 | u::ts,f::a,off,i,t,h,hi=>by
  simp[gS,Y,zea] at h;obtain⟨⟨⟨⟨b,_⟩,c⟩,d⟩,e⟩:=h;cases i with
  | zero=>simp at hi;subst hi;exact⟨f,rfl,by simp[agv,b],c,d⟩
  | succ i=>
   simp at hi;obtain⟨g,j,k,l⟩:=vQ e hi
   simp_all [j,k,agv,zNb]
def nag(cs:List Value):Prop:=∀ v∈cs,v.oneCell'=true
theorem c7.nag{w:World}{S:Nat->Nat->Prop}{a:List D}{cs:List Value}(h:c7 w S a cs):nag cs:=by
 intro v f;obtain⟨i,hi,g⟩:=z3a f;have c:cs[i]?=some v:=by simp_all
 have e:i<a.length:=by rw[h.1];exact hi
 have b:=h.2 i _ v (zca e) c;revert b;generalize a[i]=d;intro b;cases b<;>rfl
def FP{a b:List Value}(h:nag a)(k:nag b):nag (a++b):=λv d=>by
 rcases zJa.1 d with c|c
 ·exact h v c
 ·exact k v c
mutual
theorem iG{c:Cx}:∀ (a:AV) (t:Ty) (cs:List Value),AV.fits t a=true->AC c a cs->cs.length=t.size/\nag cs
 | .d t' x,t,cs,hf,h=>by
  have hf':t.beq t'=true:=by cases t<;>simpa only[AV.fits] using hf
  rw[ags _ _ hf'];simp[AC] at h;exact⟨by rw[<-h.2.2.1];exact cJ _ _ h.1 h.2.1,h.2.2.nag⟩
 | .own t' v l,t,cs,hf,h=>by
  cases t<;>simp[AV.fits] at hf<;>first|cases hf|skip
  simp[AC] at h;obtain⟨_,_,a,cap,rfl,_⟩:=h;exact⟨rfl,λv hv=>by simp at hv;subst hv;rfl⟩
 | .nils,t,cs,hf,h=>by
  cases t<;>simp[AV.fits] at hf<;>first|cases hf|skip
  simp[AC] at h;subst h;exact⟨rfl,λv hv=>by simp at hv;subst hv;rfl⟩
 | .st ts' l,t,cs,hf,h=>by
  cases t<;>simp only[AV.fits] at hf<;>first|cases hf|skip
  rename_i ts;simp only[Y] at hf;simp[AC] at h;simp[Ty.size];exact GO l ts cs hf.2 h.2.2
 | .ptr ..,t,cs,hf,_=>by cases t<;>simp[AV.fits] at hf
 | .fptr ..,t,cs,hf,_=>by cases t<;>simp[AV.fits] at hf
 | .mem ..,t,cs,hf,_=>by cases t<;>simp[AV.fits] at hf
 | .clo ..,t,cs,hf,_=>by cases t<;>simp[AV.fits] at hf
 | .map ..,t,cs,hf,_=>by cases t<;>simp[AV.fits] at hf
 | .sub ..,t,cs,hf,_=>by cases t<;>simp[AV.fits] at hf
 | .yld ..,t,cs,hf,_=>by cases t<;>simp[AV.fits] at hf
 | .gone,t,cs,hf,_=>by cases t<;>simp[AV.fits] at hf
 | .tpo ..,t,cs,hf,_=>by cases t<;>simp[AV.fits] at hf
 | .undef,t,cs,hf,_=>by cases t<;>simp[AV.fits] at hf
theorem GO{c:Cx}:∀ (l:List AV) (ts:List Ty) (cs:List Value),AV.fitss ts l=true->jW c l cs->cs.length=agv ts/\nag cs
 | [],ts,cs,hf,h=>by
  cases ts<;>simp[AV.fitss] at hf<;>first|cases hf|skip
  simp[jW] at h;subst h;exact⟨rfl,λv hv=>by simp at hv⟩
 | a::l,ts,cs,hf,h=>by
  cases ts<;>simp only[AV.fitss] at hf<;>first|cases hf|skip
  simp only[Y] at hf;simp[jW] at h;obtain⟨c1,c2,rfl,h1,h2⟩:=h;obtain⟨k1,k2⟩:=iG a _ c1 hf.1 h1;obtain⟨k3,k4⟩:=GO l _ c2 hf.2 h2;exact⟨by simp[agv,k1,k3],FP k2 k4⟩
end
def iF(t:Ty)(cs:List Value)(v:Value):Prop:=v.cells.toList=cs/\(dn t=true->∃ xs,v=.agg xs)/\(dn t=false->∀ xs,v≠.agg xs)
mutual
theorem aJ{P:Program}:∀ (ty:Ty) (t:TypeId),cb P ty t=true->aj ty=true
 | .int _,_,_=>rfl
 | .bool,_,_=>rfl
 | .str,_,_=>rfl
 | .st ts,t,h=>by obtain⟨fs,_,h2⟩:=kl h;simp[aj];exact uV ts _ _ h2
 | .arr n e,t,h=>by obtain⟨u,_,h2⟩:=fm h;simp[aj];exact aJ e u h2
 | .sl e,t,h=>by obtain⟨u,_,h2⟩:=jF h;simp[aj];exact aJ e u h2
 | .tup _,t,h=>by simp[cb] at h
 | .fn,t,h=>by simp[cb] at h
theorem uV{P:Program}:∀ (ts:List Ty) (fs:List Field) (off:Nat),gS P ts fs off=true->aP ts=true
 | [],_,_,_=>rfl
 | t::ts,[],_,h=>by simp[gS] at h
 | t::ts,f::fs,off,h=>by simp[gS,Y] at h;simp[aP,Y];exact⟨aJ t _ h.1.2,uV ts fs _ h.2⟩
end
def rF{t:Ty}{x:D}{v:Value}(h:wt t x)(b:aj t=true)(a:Ze x v):(dn t=true->∃ xs,v=.agg xs)/\(dn t=false->∀ xs,v≠.agg xs):=by
 cases t<;>simp only[wt] at h
 case int k=>obtain⟨n,rfl⟩:=h;exact⟨λh=>by simp[dn] at h,λ_=>a⟩
 case bool=>obtain⟨n,rfl⟩:=h;exact⟨λh=>by simp[dn] at h,λ_=>a⟩
 case str=>obtain⟨n,rfl⟩:=h;exact⟨λh=>by simp[dn] at h,λ_=>a⟩
 case st ts=>obtain⟨n,rfl,_⟩:=h;exact⟨λ_=>a,λh=>by simp[dn] at h⟩
 case arr m ts=>obtain⟨n,rfl,_⟩:=h;exact⟨λ_=>a,λh=>by simp[dn] at h⟩
 case sl ts=>obtain⟨n,rfl,_⟩:=h;exact⟨λh=>by simp[dn] at h,λ_=>a⟩
 case tup ts=>simp[aj] at b
def wA{t:Ty}{x:D}{v:Value}(h:wt t x)(b:aj t=true)(a:(dn t=true->∃ xs,v=.agg xs)/\(dn t=false->∀ xs,v≠.agg xs)):Ze x v:=by
 cases t<;>simp only[wt] at h
 case int k=>obtain⟨n,rfl⟩:=h;exact a.2 rfl
 case bool=>obtain⟨n,rfl⟩:=h;exact a.2 rfl
 case str=>obtain⟨n,rfl⟩:=h;exact a.2 rfl
 case st ts=>obtain⟨n,rfl,_⟩:=h;exact a.1 rfl
 case arr m ts=>obtain⟨n,rfl,_⟩:=h;exact a.1 rfl
 case sl ts=>obtain⟨n,rfl,_⟩:=h;exact a.2 rfl
 case tup ts=>simp[aj] at b
def Cr{t:Ty}{v:Value}(b:AV.fits t a=true)(k:aj t=true)(h:AR c a v):AC c a v.cells.toList/\iF t v.cells.toList v:=by
 cases a
 case d t' x=>
  have e:t.beq t'=true:=by simp_all [AV.fits]
  have j:=ags _ _ e;subst j;simp[AR] at h;rcases h with⟨f,g,i⟩|⟨ts,rfl,_⟩
  ·refine⟨by simp[AC];exact⟨g,f,i.2⟩,rfl,rF g f i.1⟩
  ·simp[aj] at k
 case own t' v' l=>
  cases t<;>simp[AV.fits] at b<;>first|cases b|skip
  simp[AR] at h;exact⟨h.2,rfl,by simp[dn],λ_=>h.1⟩
 case nils=>
  cases t<;>simp[AV.fits] at b<;>first|cases b|skip
  simp[AR] at h;exact⟨h.2,rfl,by simp[dn],λ_=>h.1⟩
 case st ts l=>
  cases t<;>simp[AV.fits] at b<;>first|cases b|skip
  simp[AR] at h;exact⟨h.2,rfl,λ_=>h.1,by simp[dn]⟩
 all_goals simp_all [AV.fits]
def yV{t:Ty}{v:Value}{cs:List Value}(f:AV.fits t a=true)(h:AC c a cs)(j:iF t cs v):AR c a v:=by
 obtain⟨b,e⟩:=j;cases a
 case d t' x=>
  have g:t.beq t'=true:=by simp_all [AV.fits]
  have i:=ags _ _ g;subst i;simp[AC] at h;simp[AR];exact .inl ⟨h.2.1,h.1,wA h.1 h.2.1 e,by rw[b];exact h.2.2⟩
 case own t' v' l=>
  cases t<;>simp[AV.fits] at f<;>first|cases f|skip
  simp[AR];exact⟨e.2 rfl,by rw[b];exact h⟩
 case nils=>
  cases t<;>simp[AV.fits] at f<;>first|cases f|skip
  simp[AR];exact⟨e.2 rfl,by rw[b];exact h⟩
 case st ts l=>
  cases t<;>simp[AV.fits] at f<;>first|cases f|skip
  simp[AR];exact⟨e.1 rfl,by rw[b];exact h⟩
 all_goals simp_all [AV.fits]
theorem jx{t:Ty}{T:TypeId}(hl:cb P t T=true){w:World}{b off:Nat}{cs:List Value}(a:cs.length=t.size)(g:nag cs)
  (e:∀ (i:Nat) (c:Value),cs[i]?=some c->w.cell? ⟨b,off+i,none⟩=some c):∃ v,(Instr.loadAt T<|.pointer<|some ⟨b,off,none⟩).run P w=.ok v w/\iF t cs v:=by
 unfold Instr.loadAt Instr.sureAddr;simp[pure_bind];unfold loadVar;rw[G,HJ hl,zga];cases ha:dn t
 ·have f:cs.length=1:=by
   rw[a];cases t<;>simp[dn] at ha<;>first|rfl|(exfalso;exact zJ hl<|.inl ⟨_,rfl⟩)
  match cs,f with
  | [c],_=>
   refine⟨c,?_,?_⟩
   ·have:=e 0 c rfl
    simp_all
   ·have d:=g c j2
    refine⟨?_,?_,?_⟩
    ·cases c<;>simp_all [Value.cells,Value.oneCell']
    ·simp_all
    ·grind [Value.oneCell']
 ·have d:=run_loadCells_list (P:=P) w ⟨b,off,none⟩ cs<|λj v k=>by rw[dO];exact e j v k
  rw[a] at d;refine⟨.agg cs.toArray,?_,rfl,λ_=>⟨_,rfl⟩,by rw[ha];intro h;cases h⟩
  simp[if_true,G,cp hl,zga,d,zta]
def Vv{T:TypeId}(hl:Ps P T=true)(w:World):(isAgg T).run P w=.ok false w:=by
 simp[Ps,Y] at hl;have a:=hl.2;split at a<;>try(cases a;done)
 rename_i d b c e;unfold isAgg;rw[G,run_underlying e w];cases d<;>first|rfl|exact z8a rfl (b _)|exact z8a rfl (c _ _)
def HC{P:Program}{T:TypeId}(hl:Ps P T=true):∃ i z,P.info? T=some i/\i.size=1/\i.bytes<=16384/\i.zero=some z/\z.cells.toList.length=1/\z.oneCell'=true:=by
 simp[Ps,Y] at hl;have a:=hl.1;split at a<;>try(cases a;done)
 rename_i i hi;simp[Y,zea] at a;obtain⟨⟨a,c⟩,b⟩:=a;split at b<;>try(cases b;done)
 rename_i z d;simp[Y,zea] at b;exact⟨i,z,hi,a,c,d,b.1,b.2⟩
def El{T:TypeId}(hl:Ps P T=true){w:World}{b:Nat}{x:Value}(a:ce w b=some #[x]):(Instr.loadAt T<|.pointer<|some ⟨b,0,none⟩).run P w=.ok x w:=by unfold Instr.loadAt Instr.sureAddr;simp[pure_bind];unfold loadVar;rw[G,Vv hl,zga];have:=cell_of_row _ a 0;simp at this;simp[this]
def tc{t:Ty}{T:TypeId}(hl:cb P t T=true){w:World}{b off:Nat}{c:Array Value}{v:Value}{cs:List Value}(h:ce w b=some c)(e:iF t cs v)(a:cs.length=t.size)(g:nag cs)(i:off+cs.length<=c.size) :
  (Instr.storeAt T (.pointer<|some ⟨b,off,none⟩) v).run P w=.ok () (putAt w b off cs.toArray):=by
 unfold Instr.storeAt Instr.sureAddr;simp[pure_bind];unfold storeVar;have f:v.cells.size=t.size:=by rw[<-zFb,e.1,a]
 have d:=cZ (P:=P) b off cs 0 w c h u0 (by rw[zxa];intro x hx;have:=g x hx;cases x<;>simp_all [Value.oneCell',nl])
 simp[zXb] at d;simp[G,cp hl,zga,f,ne_eq,not_true_eq_false,if_false,e.1,d]
def tO{v:Value}(h:v.oneCell'=true):v.cells=#[v]:=by cases v<;>simp_all [Value.cells,Value.oneCell']
def BY{T:TypeId}(hl:Ps P T=true){w:World}{b:Nat}{x v:Value}(d:ce w b=some #[x])(e:v.oneCell'=true) :
  (Instr.storeAt T (.pointer<|some ⟨b,0,none⟩) v).run P w=.ok () (putAt w b 0 #[v]):=by
 unfold Instr.storeAt Instr.sureAddr;simp[pure_bind];unfold storeVar;obtain⟨i,z,hi,c,_⟩:=HC hl;have a:=cZ (P:=P) b 0 [v] 0 w _ d j2 (by simp;cases v<;>simp_all [Value.oneCell',nl])
 simp[zXb] at a;simp[G,xY (n:=1) (by rw[hi];simp[c]) w,zga,tO e,zPc,List.length_singleton,ne_eq,not_true_eq_false,if_false,a]
def Qe{v:Value}(h:np a=true)(k:AR c a v):v.oneCell'=true:=by
 cases a<;>simp[np] at h<;>try(cases h;done)
 all_goals simp[AR,AC] at k
 ·obtain⟨b,_,d,_⟩:=k;rw[ak b d];rfl
 ·obtain⟨b,_,d,_⟩:=k;rw[ak b d];rfl
 ·obtain⟨b,_,d,_⟩:=k;rw[ak b d];rfl
end
section
variable{H:Type}{enc:TypeId×Value->H}{P:Program}{W:World}{base:Nat}{spare:Nat->Bool}{held:Bool}
def tu(W:World)(b o:Nat):Prop:=(W.cell? ⟨b,o,none⟩).isSome=true
def valid_lt{b o:Nat}(h:tu W b o):b<W.heap.size:=by
 unfold tu World.cell? at h;rcases zua b W.heap.size with k|k
 ·exact k
 ·simp only[Array.getElem?_eq_none k] at h;cases h
mutual
def FY:D->Prop
 | .int k n=>(Lit.int k n).wf=true
 | .bool _=>True
 | .str s=>s.size<=maxLen
 | .st l=>xL l
 | .sl l=>l.length<=maxLen/\xL l
 | .tup l=>xL l
def xL:List D->Prop
 | []=>True
 | d::l=>FY d/\xL l
end
theorem sS:∀ {l:List D},xL l↔∀ d∈l,FY d
 | []=>by simp[xL]
 | d::l=>by simp[xL,sS (l:=l)]
mutual
def sU:Ty->Bool
 | .st ts=>BK ts
 | .arr _ t=>sU t
 | .sl t=>decide (0<t.size)&&sU t
 | .tup _=>false
 | .fn=>false
 | _=>true
def BK:List Ty->Bool
 | []=>true
 | t::ts=>sU t&&BK ts
end
def lN{T:TypeId}{ty:Ty}(h:cb P ty T=true):P.cellsOf T=ty.size:=by obtain⟨i,z,a,b,_⟩:=fH<|gJ h;simp[Program.cellsOf,a,b]
def afx{S:Nat->Nat->Prop}{d:D}{c:Value}(h:CR W S d c):c7 W S [d] [c]:=⟨rfl,λi e c' a b=>by
 cases i with
 | zero=>simp at a b;subst a;subst b;exact h
 | succ i=>simp at a⟩
mutual
theorem wn:∀ (ty:Ty) (T:TypeId) (fuel:Nat) (cs:List Value) (x:DataW H×List MemPlace),cb P ty T=true->sU ty=true->DataW.trod enc P W base spare held fuel T cs=some x->∃ d,wt ty d/\FY d/\c7 W (tu W) d.flat cs
 | .int k,T,fuel,cs,x,hl,_,h=>by obtain⟨n,rfl,_,hw⟩:=DataW.trod_int (k9 hl) h;exact⟨.int k n,⟨n,rfl⟩,hw,afx<|.int k n⟩
 | .bool,T,fuel,cs,x,hl,_,h=>by
  have hu:P.underlying T=some .bool:=by
   simp[cb,Y] at hl;have h2:=hl.2;split at h2
   ·assumption
   ·cases h2
  obtain⟨b,rfl,_⟩:=DataW.trod_bool hu h;exact⟨.bool b,⟨b,rfl⟩,trivial,afx<|.bool b⟩
 | .str,T,fuel,cs,x,hl,_,h=>by
  have hu:P.underlying T=some .string:=by
   simp[cb,Y] at hl;have h2:=hl.2;split at h2
   ·assumption
   ·cases h2
  obtain⟨s,rfl,_,hw⟩:=DataW.trod_string hu h;exact⟨.str s,⟨s,rfl⟩,hw,afx<|.str s⟩
 | .st ts,T,fuel,cs,x,hl,hp,h=>by
  obtain⟨fs,hu,hf⟩:=kl hl;obtain⟨xs,n,_,_,hlen,hxl,hx⟩:=DataW.trod_struct hu h;rw[lN hl] at hlen;obtain⟨l,h1,hok,h2⟩:=EJ ts fs.toList 0 cs n hf (by simpa only[sU] using hp) (λi f hi=>by
   have hi':fs[i]?=some f:=by simpa using hi
   have hlt:i<xs.length:=by rw[hxl];exact(zqa.1 hi').1
   exact⟨xs[i],(hx i f hi').trans<|zca hlt⟩) (by rw[hlen];simp[Ty.size])
  refine⟨.st l,⟨l,rfl,h1⟩,hok,?_⟩;have:(cs.drop 0).take (agv ts)=cs:=by rw[List.drop_zero,zvb (by rw[hlen];simp[Ty.size])]
  rw[this] at h2;exact h2
 | .arr n e,T,fuel,cs,x,hl,hp,h=>by
  obtain⟨u,hu,hl'⟩:=fm hl;obtain⟨xs,m,_,_,hlen,hxl,hx⟩:=DataW.trod_array hu h;rw[lN hl] at hlen;rw[lN hl'] at hx;simp[sU] at hp;have key:∀ k,k<=n->∃ l:List D,l.length=k/\(∀ y∈l,wt e y/\FY y)/\c7 W (tu W) (N l) (cs.take<|k*e.size):=by
   intro k
   induction k with
   | zero=>intro _;exact⟨[],rfl,j2,by simp[N,c7.nil]⟩
   | succ k ih=>
    intro hk;obtain⟨l,h1,h2,h3⟩:=ih u0
    have hxk:=hx k u0
    rw[zca<|show k<xs.length by omega] at hxk
    obtain⟨d,h4,h4',h5⟩:=wn e u m _ _ hl' hp hxk;refine⟨l++[d],by simp[h1],λy hy=>?_,?_⟩
    ·rcases zJa.1 hy with hy|hy
     ·exact h2 y hy
     ·rw[zSa.1 hy];exact⟨h4,h4'⟩
    ·have e1:cs.take ((k+1)*e.size)=cs.take (k*e.size)++(cs.drop<|k*e.size).take e.size:=by
      rw[ztb,z6c,List.take_add]
     rw[e1,cw];refine h3.append ?_;simpa [N] using h5
  obtain⟨l,h1,h2,h3⟩:=key n<|zja n;refine⟨.st l,⟨l,rfl,h1,λy hy=>(h2 y hy).1⟩,sS.2 λy hy=>(h2 y hy).2,?_⟩;rw[zvb (by rw[hlen];simp[Ty.size])] at h3
  exact h3
 | .sl e,T,fuel,cs,x,hl,hp,h=>by
  obtain⟨u,hu,hl'⟩:=jF hl;simp[sU,Y,zea] at hp;rcases DataW.trod_slice hu h with⟨rfl,_⟩|⟨a,len,cap,elems,rest,m,_,rfl,_,hb,hlc,hcm,hel,hx,_,_⟩
  ·exact⟨.sl [],⟨[],rfl,j2⟩,⟨zoa _,trivial⟩,afx<|afw (l:=[]) (b:=0) (off:=0) (.inl rfl) (zja _) ⟨[],c7.nil,j2⟩⟩
  ·rw[lN hl'] at hx;by_cases h0:len=0
   ·subst h0;exact⟨.sl [],⟨[],rfl,j2⟩,⟨zoa _,trivial⟩,afx<|afw (l:=[]) (b:=0) (off:=0) (.inl rfl) (zoa _) ⟨[],c7.nil,j2⟩⟩
   ·have hsp:∃ b off,a=⟨b,off,none⟩:=by
     have:=hx 0 u0
     rw[zca<|show 0<elems.length by omega] at this
     obtain⟨cs',h1,_⟩:=Option.bind_eq_some_iff.1 this;obtain⟨_,h2,h3⟩:=World.cells?_some h1;have h4:=h3 0 hp.1;rw[zca<|show 0<cs'.length by omega] at h4
     have e0:(a.add<|0*e.size).add 0=a:=by simp[Addr.add]
     rw[e0] at h4;obtain⟨b,off,sp⟩:=a;cases sp with
     | none=>exact⟨b,off,rfl⟩
     | some s=>
      exfalso;unfold World.cell? at h4;split at h4
      ·simp at h4
      ·cases h4
    obtain⟨b,off,rfl⟩:=hsp;have key:∀ k,k<=len->∃ (l:List D) (cs:List Value),l.length=k/\(∀ y∈l,wt e y/\FY y)/\c7 W (tu W) (N l) cs/\∀ j c,cs[j]?=some c->W.cell? ⟨b,off+j,none⟩=some c:=by
     intro k
     induction k with
     | zero=>intro _;exact⟨[],[],rfl,j2,c7.nil,j2⟩
     | succ k ih=>
      intro hk;obtain⟨l,cs,h1,h2,h3,h4⟩:=ih u0
      have hxk:=hx k u0
      rw[zca<|show k<elems.length by omega] at hxk
      obtain⟨cs',q1,q2⟩:=Option.bind_eq_some_iff.1 hxk;obtain⟨_,q3,q4⟩:=World.cells?_some q1;obtain⟨d,h5,h5',h6⟩:=wn e u m _ _ hl' hp.2 q2;have hn:=aJ e u hl';have hcl:cs.length=k*e.size:=by rw[<-h3.1,aL hn l<|λy hy=>(h2 y hy).1,h1]
      refine⟨l++[d],cs++cs',by simp[h1],λy hy=>?_,?_,λj c hc=>?_⟩
      ·rcases zJa.1 hy with hy|hy
       ·exact h2 y hy
       ·rw[zSa.1 hy];exact⟨h5,h5'⟩
      ·rw[cw];refine h3.append ?_;simpa [N] using h6
      ·rcases zua j cs.length with hj|hj
       ·rw[zab hj] at hc;exact h4 j c hc
       ·rw[zVb hj] at hc;have hlt:j-cs.length<e.size:=by
         have:=(zra.1 hc).1;omega
        have:=q4 (j-cs.length) hlt;rw[hc] at this;rw[dO,dO] at this;rw[show off+k*e.size+(j-cs.length)=off+j by omega] at this
        exact this
    obtain⟨l,cs,h1,h2,h3,h4⟩:=key len<|zja _;refine⟨.sl l,⟨l,rfl,λy hy=>(h2 y hy).1⟩,⟨u0,sS.2 λy hy=>(h2 y hy).2⟩,afx ?_⟩
    rw[<-h1];exact afw (b:=b) (off:=off) (.inr rfl) u0 ⟨cs,h3,λi c hc=>⟨by unfold tu;rw[h4 i c hc];rfl,h4 i c hc⟩⟩
 | .tup _,_,_,_,_,hl,_,_=>by simp[cb] at hl
 | .fn,_,_,_,_,hl,_,_=>by simp[cb] at hl
theorem EJ:∀ (ts:List Ty) (fs:List Field) (off:Nat) (cs:List Value) (n:Nat),gS P ts fs off=true->BK ts=true ->
  (∀ (i:Nat) (f:Field),fs[i]?=some f->∃ x:DataW H×List MemPlace,DataW.trod enc P W base spare held n f.type ((cs.drop f.offset).take<|P.cellsOf f.type)=some x)->off+agv ts<=cs.length ->
  ∃ l,fq ts l/\xL l/\c7 W (tu W) (N l) ((cs.drop off).take<|agv ts)
 | [],_,off,cs,n,_,_,_,_=>⟨[],rfl,trivial,by simp[N,agv,c7.nil]⟩
 | t::ts,[],off,cs,n,h,_,_,_=>by simp[gS] at h
 | t::ts,f::fs,off,cs,n,h,hp,hx,hle=>by
  simp[gS,Y,zea] at h;obtain⟨⟨⟨⟨h1,_⟩,h2⟩,h3⟩,h4⟩:=h;simp[BK,Y] at hp;simp[agv] at hle ⊢;obtain⟨x,hx0⟩:=hx 0 f rfl;rw[lN h3,h1] at hx0;obtain⟨d,q1,q1',q2⟩:=wn t f.type n _ _ h3 hp.1 hx0;obtain⟨l,q3,q3',q4⟩:=EJ ts fs (off+t.size) cs n h4 hp.2 (λi g hi=>hx (i+1) g (by simpa using hi)) u0
  refine⟨d::l,⟨d,l,rfl,q1,q3⟩,⟨q1',q3'⟩,?_⟩;rw[List.take_add,zHd];simp[N];exact q2.append q4
end
end
section
variable{c:Cx}
theorem ab.{u,v}{α:Type u}{β:Type v}{x:Option α}{f:α->Option β}{r:β}(h:x.bind f=some r):∃ a,x=some a/\f a=some r:=by
 cases x with
 | none=>cases h
 | some a=>exact⟨a,rfl,h⟩
def qx{t t':Ty}{x:D}(h:AV.fits t (.d t' x)=true):t=t':=by
 have a:t.beq t'=true:=by simp_all [AV.fits]
 exact ags _ _ a
def agr:∀ (t:Ty),t.beq t=true:=by
 intro t;exact(Ty.rec (motive_1:=λt=>t.beq t=true) (motive_2:=λl=>Ty.beqs l l=true)
  (λk=>by simp[Ty.beq]) rfl rfl (λl h=>by simpa [Ty.beq] using h) (λn t h=>by simp[Ty.beq,h]) (λt h=>by simpa [Ty.beq] using h) (λl h=>by simpa [Ty.beq] using h) rfl rfl
  (λt l a b=>by simp[Ty.beqs,a,b]) t)
def bW(t:Ty)(x:D):AV.fits t (.d t x)=true:=by have:=agr t;all_goals simp_all [AV.fits]
theorem ud:∀ {ts:List Ty} {l:List AV} {i:Nat} {a:AV},AV.fitss ts l=true->l[i]?=some a->∃ t,ts[i]?=some t/\AV.fits t a=true
 | _,[],_,_,_,h=>by simp at h
 | [],b::l,_,_,h,_=>by simp[AV.fitss] at h
 | u::ts,b::l,i,a,h,hi=>by
  simp[AV.fitss,Y] at h;cases i with
  | zero=>simp at hi;subst hi;exact⟨u,rfl,h.1⟩
  | succ i=>simp at hi;obtain⟨t,c,d⟩:=ud h.2 hi;exact⟨t,by simpa using c,d⟩
theorem xh:∀ {ts:List Ty} {l:List AV} {i:Nat} {t:Ty},AV.fitss ts l=true->ts[i]?=some t->∃ a,l[i]?=some a/\AV.fits t a=true
 | [],_,_,_,_,h=>by simp at h
 | u::ts,[],_,_,h,_=>by simp[AV.fitss] at h
 | u::ts,b::l,i,a,h,hi=>by
  simp[AV.fitss,Y] at h;cases i with
  | zero=>simp at hi;subst hi;exact⟨b,rfl,h.1⟩
  | succ i=>simp at hi;obtain⟨t,c,d⟩:=xh h.2 hi;exact⟨t,by simpa using c,d⟩
theorem oJ:∀ {ts:List Ty} {l:List AV} {i:Nat} {t:Ty} {b:AV},AV.fitss ts l=true->ts[i]?=some t->AV.fits t b=true->AV.fitss ts (l.set i b)=true
 | [],_,_,_,_,_,h,_=>by simp at h
 | u::ts,[],_,_,_,h,_,_=>by simp[AV.fitss] at h
 | u::ts,a::l,i,t,b,h,hi,c=>by
  simp[AV.fitss,Y] at h;cases i with
  | zero=>simp at hi;subst hi;simp[AV.fitss,c,h.2]
  | succ i=>simp at hi;simp[List.set_cons_succ,AV.fitss,Y];exact⟨h.1,oJ h.2 hi c⟩
theorem vF:∀ {ts:List Ty} {l:List AV} {cs:List Value} {i:Nat} {a:AV},AV.fitss ts l=true->aP ts=true->jW c l cs->l[i]?=some a ->
  ∃ pre mid post,cs=pre++(mid++post)/\pre.length=agv (ts.take i)/\AC c a mid/\∀ b d,AC c b d->jW c (l.set i b) (pre++(d++post))
 | _,[],_,_,_,_,_,_,h=>by simp at h
 | [],b::l,_,_,_,h,_,_,_=>by simp[AV.fitss] at h
 | u::ts,b::l,cs,i,a,f,n,h,hi=>by
  simp[AV.fitss,Y] at f;simp[aP,Y] at n;simp[jW] at h;obtain⟨e,g,rfl,j,k⟩:=h;cases i with
  | zero=> simp at hi;subst hi;exact⟨[],e,g,j2,by simp[agv],j,λb d m=>by simp[List.set_cons_zero,jW,z7b];exact⟨d,g,rfl,m,k⟩⟩
  | succ i=>
   simp at hi;obtain⟨pre,mid,post,rfl,o,p,q⟩:=vF f.2 n.2 k hi;refine⟨e++pre,mid,post,by simp[zPa],?_,p,λb d m=>?_⟩
   ·simp[zFa,zdc,agv,o,(iG b u e f.1 j).1]
   ·grind [jW,List.append_assoc]
theorem n8{ts:List Ty}{i:Nat}{p:List Nat}{u:Ty}(h:aS (.st ts) (i::p)=some u):∃ v,ts[i]?=some v/\aS v p=some u:=by grind [aS]
def HE{R:Type}{c:Cx}:∀ (p:List Nat) {T t:Ty} {a:AV} {cs:List Value} {K:AV->Option R} {r:R},AV.fits T a=true->aj T=true->aS T p=some t->AC c a cs->Bj a p K=some r ->
  ∃ a' pre mid post,K a'=some r/\cs=pre++(mid++post)/\pre.length=aZ T p/\AC c a' mid/\AV.fits t a'=true:=by
 intro p
 induction p with
 | nil=>
  intro T t a cs K r b h hp e g;have E:T=t:=by cases T<;>simpa [aS] using hp
  subst E;refine⟨a,[],cs,[],?_,j2,by cases T<;>rfl,e,b⟩
  cases a<;>simpa [Bj] using g
 | cons i p ih=>
  intro T t a cs K r b h hp e g;cases a<;>simp only[Bj] at g
  case d t' x=>
   have:=qx b;subst this;obtain⟨J,j,q⟩:=ab g;obtain⟨y,k,s⟩:=ab q;rw[hp] at j;cases j;simp only[AC] at e;obtain⟨w,A,B,z,F⟩:=ki (i::p) e.1 h hp k;have m:=e.2.2;rw[z] at m;obtain⟨u,C⟩:=m.split;obtain⟨D,I⟩:=C.split;refine⟨_,cs.take A.length,(cs.drop A.length).take y.flat.length,(cs.drop A.length).drop y.flat.length,s,by simp only[zza],?_,?_,bW _ _⟩
   ·rw[<-u.1];exact F
   ·simp[AC];exact⟨w,eV _ h hp,D⟩
  case st ts' l=>
   cases T<;>simp only[AV.fits] at b<;>first|cases b|skip
   rename_i ts;simp only[Y] at b;obtain⟨a1,j,q⟩:=ab g;obtain⟨v,k,s⟩:=n8 hp;simp[AC] at e;simp[aj] at h;obtain⟨v',m,u⟩:=ud b.2 j;rw[k] at m;cases m;obtain⟨pre,mid,post,rfl,w,z,_⟩:=vF b.2 h e.2.2 j;obtain⟨a',o,n,f,m1,rfl,m2,G,H⟩:=ih u (bZ h k) s z q;refine⟨a',pre++o,n,f++post,m1,by simp[zPa],?_,G,H⟩
   simp[zFa,aZ,w,m2];simp[List.getD,k]
  all_goals cases g
def Qn{R:Type}:∀ (p:List Nat) {T t:Ty} {a b:AV} {cs o:List Value} {K:AV->Option R} {r:R},AV.fits T a=true->aj T=true->aS T p=some t->AC c a cs->AC c b o->AV.fits t b=true->Gr a p b K=some r ->
  ∃ a' pre mid post,K a'=some r/\cs=pre++(mid++post)/\pre.length=aZ T p/\mid.length=o.length/\AC c a' (pre++(o++post))/\AV.fits T a'=true:=by
 intro p
 induction p with
 | nil=>
  intro T t a b cs o K r e m hp j g f k;have Q:T=t:=by simp_all [aS]
  subst Q;refine⟨b,[],cs,[],?_,j2,by cases T<;>rfl,?_,by simpa using g,f⟩
  ·simp_all [Gr]
  ·rw[(iG _ _ _ e j).1,(iG _ _ _ f g).1]
 | cons i p ih=>
  intro T t a b cs o K r e m hp j g f k;cases a<;>simp only[Gr] at k
  case d t' x=>
   have:=qx e;subst this;cases b<;>simp only at k<;>first|cases k|skip
   rename_i u y;have:=qx f;subst this;obtain⟨W,h,D⟩:=ab k;simp only[AC] at j g;obtain⟨F,A,C,B,G,H,S,U⟩:=tg (i::p) j.1 m hp h g.1;have q:=j.2.2;rw[G] at q;obtain⟨z,N⟩:=q.split;obtain⟨O,P⟩:=N.split;refine⟨_,cs.take A.length,(cs.drop A.length).take C.length,(cs.drop A.length).drop C.length,D,by simp only[zza],?_,?_,?_,bW _ _⟩
   ·rw[<-z.1];exact S
   ·rw[<-O.1,U,<-g.2.2.1,cJ _ _ g.1 g.2.1]
   ·simp only[AC];refine⟨F,m,?_⟩;rw[H];exact z.append (g.2.2.append P)
  case st ts' l=>
   cases T<;>simp only[AV.fits] at e<;>first|cases e|skip
   rename_i ts;simp only[Y] at e;obtain⟨a1,J,M⟩:=ab k;obtain⟨v,h,D⟩:=n8 hp;simp[AC] at j;simp[aj] at m;obtain⟨v',q,z⟩:=ud e.2 J;rw[h] at q;cases q;obtain⟨pre,mid,post,rfl,F,G,H⟩:=vF e.2 m j.2.2 J;obtain⟨a',w,s,n,m1,rfl,m2,I,V,L⟩:=ih z (bZ m h) D G g f M;have E:=agt _ _ e.1;subst E;refine⟨_,pre++w,s,n++post,m1,by simp[zPa],?_,I,?_,?_⟩
   ·simp[zFa,aZ,F,m2];simp[List.getD,h]
   ·simp[AC];refine⟨m,oJ e.2 h L,?_⟩;have:=H _ _ V;simpa [zPa] using this
   ·simp[AV.fits,Y];exact⟨e.1,oJ e.2 h L⟩
  all_goals cases k
mutual
theorem uI{c:Cx}{ob:Nat->Option Ob}:∀ (a:AV) (t:Ty) (cs:List Value) (x:D),afv ob t a=some x->AC c a cs->wt t x/\c7 c.w c.S x.flat cs/\(∀ v,iF t cs v->aj t=true->ge c.w c.S x v)
 | .d t' x',t,cs,x,h,hc=>by
  have h':t.beq t'=true/\x'=x:=by cases t<;>simpa [afv] using h
  obtain⟨h1,rfl⟩:=h';have:=ags _ _ h1;subst this;simp[AC] at hc;exact⟨hc.1,hc.2.2,λv hv hn=>⟨wA hc.1 hc.2.1 hv.2,by rw[hv.1];exact hc.2.2⟩⟩
 | .own t' v l,t,cs,x,h,hc=>by
  have h':t.beq (.sl t')=true/\D.sl l=x:=by cases t<;>simpa [afv] using h
  obtain⟨h1,rfl⟩:=h';have:=ags _ _ h1;subst this;simp[AC] at hc;obtain⟨k1,k2,a,cap,rfl,k3,_⟩:=hc;have hw:wt (.sl t') (.sl l):=by simp only[wt];exact⟨l,rfl,k2⟩
  exact⟨hw,c7.single.2 k3,λv hv hn=>⟨wA hw hn hv.2,by rw[hv.1];exact c7.single.2 k3⟩⟩
 | .nils,t,cs,x,h,hc=>by
  cases t<;>simp[afv] at h<;>first|cases h|skip
  simp[AC] at hc;subst hc;have hw:∀ t,wt (.sl t) (.sl []):=λt=>by simp only[wt];exact⟨[],rfl,λx hx=>by simp at hx⟩
  have hr:c7 c.w c.S [D.sl []] [.slice none 0 0]:=c7.single.2<|.sl [] none 0 0 0 (λ_=>undef) (.inl rfl) (zja 0) (λi d hd=>by simp[N] at hd)<|λi d hd=>by simp[N] at hd
  exact⟨hw _,hr,λv hv hn=>⟨wA (hw _) hn hv.2,by rw[hv.1];exact hr⟩⟩
 | .st ts' l,t,cs,x,h,hc=>by
  simp only[afv] at h;split at h
  ·rename_i hb;have:=ags _ _ hb;subst this;obtain⟨xs,h1,h2⟩:=ab h;simp[zda] at h2;subst h2;simp[AC] at hc;obtain⟨k1,k2⟩:=Cf l ts' cs xs h1 hc.2.2;have hw:wt (.st ts') (.st xs):=by simp only[wt];exact⟨xs,rfl,k1⟩
   exact⟨hw,k2,λv hv hn=>⟨wA hw hn hv.2,by rw[hv.1];exact k2⟩⟩
  ·cases h
 | .ptr ..,t,_,_,h,_=>by cases t<;>simp[afv] at h
 | .fptr ..,t,_,_,h,_=>by cases t<;>simp[afv] at h
 | .mem ..,t,_,_,h,_=>by cases t<;>simp[afv] at h
 | .clo ..,t,_,_,h,_=>by cases t<;>simp[afv] at h
 | .sub ..,t,_,_,h,_=>by cases t<;>simp[afv] at h
 | .gone,t,_,_,h,_=>by cases t<;>simp[afv] at h
 | .tpo ..,t,_,_,h,_=>by cases t<;>simp[afv] at h
 | .undef,t,_,_,h,_=>by cases t<;>simp[afv] at h
theorem Cf{c:Cx}{ob:Nat->Option Ob}:∀ (l:List AV) (ts:List Ty) (cs:List Value) (xs:List D),AV.toDl ob ts l=some xs->jW c l cs->fq ts xs/\c7 c.w c.S (N xs) cs
 | [],ts,cs,xs,h,hc=>by
  cases ts<;>simp[AV.toDl] at h<;>first|cases h|skip
  simp[jW] at hc;subst hc;exact⟨by simp[fq],c7.nil⟩
 | a::l,ts,cs,xs,h,hc=>by
  cases ts<;>simp[AV.toDl] at h<;>first|cases h|skip
  rename_i t ts;obtain⟨x,h1,h2⟩:=ab h;obtain⟨ys,h3,h4⟩:=ab h2;simp[zda] at h4;subst h4;simp[jW] at hc;obtain⟨c1,c2,rfl,k1,k2⟩:=hc;obtain⟨m1,m2,_⟩:=uI a t c1 x h1 k1;obtain⟨m3,m4⟩:=Cf l ts c2 ys h3 k2;exact⟨by simp only[fq];exact⟨x,ys,rfl,m1,m3⟩,by simp[N];exact m2.append m4⟩
end
mutual
theorem yl{ob:Nat->Option Ob}:∀ (a:AV) (t:Ty) (x:D),afv ob t a=some x->AV.fits t a=true
 | .d t' x',t,x,h=>by simp_all [afv,AV.fits]
 | .own t' v l,t,x,h=>by
  have h':t.beq (.sl t')=true/\D.sl l=x:=by cases t<;>simpa [afv] using h
  have:=ags _ _ h'.1;subst this;simp[AV.fits,agr]
 | .nils,t,x,h=>by cases t<;>first|rfl|(simp only[afv] at h;cases h)
 | .st ts' l,t,x,h=>by
  simp only[afv] at h;split at h
  ·rename_i hb;have:=ags _ _ hb;subst this;obtain⟨xs,h1,h2⟩:=ab h;simp[AV.fits,Y];exact⟨by have:=agr<|.st ts';simpa [Ty.beq] using this,AA l ts' xs h1⟩
  ·cases h
 | .ptr ..,t,_,h=>by cases t<;>simp[afv] at h
 | .fptr ..,t,_,h=>by cases t<;>simp[afv] at h
 | .mem ..,t,_,h=>by cases t<;>simp[afv] at h
 | .clo ..,t,_,h=>by cases t<;>simp[afv] at h
 | .sub ..,t,_,h=>by cases t<;>simp[afv] at h
 | .gone,t,_,h=>by cases t<;>simp[afv] at h
 | .tpo ..,t,_,h=>by cases t<;>simp[afv] at h
 | .undef,t,_,h=>by cases t<;>simp[afv] at h
theorem AA{ob:Nat->Option Ob}:∀ (l:List AV) (ts:List Ty) (xs:List D),AV.toDl ob ts l=some xs->AV.fitss ts l=true
 | [],ts,xs,h=>by cases ts<;>first|rfl|(simp only[AV.toDl] at h;cases h)
 | a::l,ts,xs,h=>by
  cases ts<;>simp[AV.toDl] at h<;>first|cases h|skip
  rename_i t ts;obtain⟨x,h1,h2⟩:=ab h;obtain⟨ys,h3,h4⟩:=ab h2;simp[AV.fitss,Y];exact⟨yl a t x h1,AA l ts ys h3⟩
end
def pS{ob:Nat->Option Ob}{t:Ty}{a:AV}{v:Value}{x:D}(d:aj t=true)(h:AR c a v)(hx:afv ob t a=some x):wt t x/\ge c.w c.S x v:=by
 obtain⟨b,e⟩:=Cr (yl a t x hx) d h;obtain⟨f,_,g⟩:=uI a t _ x hx b
 simp_all
def dC{t:Ty}{x:D}{v:Value}(a:aj t=true)(b:wt t x)(h:ge c.w c.S x v):AR c (.d t x) v:=by simp_all [AR]
theorem Cs{t:Ty}{x:D}{v:Value}(h:AR c (.d t x) v)(a:aj t=true):wt t x/\ge c.w c.S x v:=by all_goals grind [AR,aj]
def fg{t:Ty}{k:IntKind}{n:Int}{v:Value}(h:AR c (.d t<|.int k n) v):v=.int k n/\t=.int k:=by
 simp[AR] at h;rcases h with⟨f,a,e⟩|⟨ts,rfl,_,a,_⟩
 ·refine⟨e.int_inv,?_⟩;cases t<;>simp only[wt] at a<;>first
   | (obtain⟨m,b⟩:=a;cases b;rfl)
   | (obtain⟨m,b,_⟩:=a;cases b)
   | (obtain⟨m,b⟩:=a;cases b)
 ·simp_all [wt]
def GP{t:Ty}{n:Bool}{v:Value}(h:AR c (.d t<|.bool n) v):v=.bool n:=by
 simp[AR] at h;rcases h with⟨e,a,b⟩|⟨ts,rfl,_,a,_⟩
 ·exact b.bool_inv
 ·simp_all [wt]
def cP(k:IntKind)(n:Int):AR c (.d (.int k)<|.int k n) (.int k n):=
 dC rfl (by simp only[wt];exact⟨n,rfl⟩) (afQ<|.int k n)
def iH(b:Bool):AR c (.d .bool<|.bool b) (.bool b):=
 dC rfl (by simp only[wt];exact⟨b,rfl⟩) (afQ<|.bool b)
end
section
variable{K z:Value->World->Prop}{c:Code}{f:FuncId}{R:Ending->World->Prop}{j:Nat}
def fh(P:Program)(o:Oper)(a:Act)(w:World)(K:Value->World->Prop):Prop:=
 match (execOp a.eval o).run P w with
 | .ok (.value v) w'=>K v w'
 | .ok .skip w'=>K undef w'
 | .ok (.enter f args) w'=>Calls P f args w' λe b=>∃ v,e=.returned v/\K v b
 | _=>False
variable{ro:Option Nat}{nn:Nat}
def fh.plain{P:Program}{o:Oper}{a:Act}{w:World}(h:fh P o a w K)(c:Call):o.op≠.defer c:=by
 intro f;unfold fh at h;obtain⟨b,op,ty,pos,after,guard⟩:=o;simp only at f;subst f;have e:execOp a.eval ⟨b,.defer c,ty,pos,after,guard⟩=(resolve a.eval c ty >>= λd=>pure<|Next.defer d):=rfl;rw[e,G] at h;cases hr:(resolve a.eval c ty).run P w with
 | ok d w'=>rw[hr] at h;exact h
 | halt x w'=>rw[hr] at h;exact h
def CI{P:Program}{args:Array Value}{w:World}{m:Nat}(h:Calls P f args w R):CallsIn (FW ro) m P f args w R:=by
 have a:CallsIn Fence.wide m P f args w R:=callsIn_wide.2 h;cases ro with
 | none=>exact a
 | some l=>exact CallsIn.inRound l a
def bC{P:Program}{o:Oper}{a:Act}{w:World}{K:Value->World->Prop}{next:Act->World->Prop}{Q:Exit->Act->World->Prop}(h:fh P o a w K)(b:∀ v w',K v w'->next (a.put o.dst v) w'):o.wpIn (FW ro) nn P a w next Q:=by
 refine⟨λ_ _=>trivial,?_⟩;rw[Oper.semAt_eq _ _ _ h.plain];unfold fh at h;generalize (execOp a.eval o).run P w=r at *;cases r with
 | ok n w'=>
  cases n<;>simp only at h<;>simp[Oper.uponIn]
  case value v=>exact b _ _ h
  case skip=>exact b _ _ h
  case enter f args=>exact⟨λc=>(by cases c),CI<|h.mono λe i ⟨v,d,g⟩=>by subst d;exact b _ _ g⟩
 | halt x w'=>simp only at h
def AY{P:Program}{fn:Func}{args:Array Value}{w:World}(b:P.funcs[f]?=some fn)(a:fn.body=some c)
  (h:c.wpIn (FW none) 0 P (bodyPost P fn R) { tmps:=args++Array.replicate (fn.ntmps-args.size) undef,defers:=[] } w):Calls P f args w R:=
 calls_of_wp b a (wpIn_wide.1 h)
section
variable{P:Program}{Q:Exit->Act->World->Prop}{a:Act}{w:World}{F:Fence}{n:Nat}
theorem kI{md:Region.Mode}{ops:Array Oper}{Q':Exit->Act->World->Prop}:∀ (l:List Oper) (k:Nat) (b:Array Bool) (a:Act) (w:World),(∀ j,l[j]?=ops[k+j]?) ->
  Region.seqB md ops l.length k b=true->wpListIn F n P ops Q' l a w->wpAnyIn F n P md ops Q' l.length b a w
 | [],_,_,_,_,_,c,h=>⟨by simpa [Region.seqB] using c,h⟩
 | o::l,k,b,a,w,hl,c,h=>by
  have h0:ops[k]?=some o:=by simpa using(hl 0).symm
  simp[zOa,Region.seqB,Y,zea] at c;refine⟨λe=>(by rw[c.1] at e;cases e),λi hi=>?_⟩
  rw[c.1] at hi;have d:i=k:=by simpa using hi
  subst d;have g:wpOpIn F n P ops Q' i (wpListIn F n P ops Q' l) a w:=by unfold wpOpIn;simp[h0];exact h
  exact wpOpIn_mono (λa' w' f=>kI l (i+1) _ a' w' (λj=>by have:=hl<|j+1;simpa [zNb,zhc 1 j] using this) c.2 f) g
def gK{b:Frame}{k:List Item}{cs:List Frame}:step P (lone (b.atR a<|.code (.scope c)::k) cs w)=.next (lone (b.atR a<|.code c::.inScope c::k) cs w):=
 step_lone_go (by simp[stepG,stepG.exec,Frame.atR])
def yQ{b:Frame}{k:List Item}{cs:List Frame}:step P (lone (b.atR a<|.inScope c::k) cs w)=.next (lone (b.atR a k) cs w):=
 step_lone_go (by simp[stepG,stepG.exec,Frame.atR])
def ph(h:c.wpIn F n P (Exit.noGoto Q) a w):(Code.scope c).wpIn F n P Q a w:=by
 intro b k cs q j o;have h0:(lone (b.atR a<|.code (.scope c)::k) cs w).fenced P F:=fenced_calm j o rfl;obtain⟨e,g,i,hq,d⟩:=h b (.inScope c::k) cs q j o;cases e with
 | normal=>exact⟨.normal,g,i,hq,.head h0 gK<|StepsIn.trans d<|.one (fenced_calm j o rfl) yQ⟩
 | exit f=>
  have hx:exitTo f (.inScope c::k)=exitTo f k:=by simp[exitTo]
  exact⟨.exit f,g,i,hq,λk' m=>.head h0 gK (d.1 k' (by rw[hx];exact m)),
   λp m=>let ⟨t,r,s⟩:=d.2 p (by rw[hx];exact m);⟨t,r,.head h0 gK s⟩⟩
 | goto l=>exact hq.elim
 | ret=>exact⟨_,g,i,hq,.of_steps (.one h0 gK) d⟩
 | panic u=>exact⟨_,g,i,hq,.of_steps (.one h0 gK) d⟩
 | outgrown=>exact⟨_,g,i,hq,.of_steps (.one h0 gK) d⟩
def AG(J:Nat->Act->World->Prop){m:Nat}(y:J m a w)
  (round:∀ m a w,J m a w->c.wpIn F n P (Exit.then (λa' w'=>∃ i,i<m/\J i a' w') Q) a w):(Code.loop c).wpIn F n P Q a w:=by
 intro b k cs s o r;have key:∀ m a w,J m a w->∃ e a' w',Q e a' w'/\ArrivesIn (Machine.fenced P F) P (lone (b.atR a<|.code c::.inLoop c::k) cs w) b k cs e a' w':=by
  intro m
  induction m using Nat.strongRecOn with
  | _ m ih=>
   intro a w v;obtain⟨e,g,h,hq,d⟩:=round m a w v b (.inLoop c::k) cs s o r;cases e with
   | normal=> obtain⟨i,p,j⟩:=hq;obtain⟨u,t,z,q,f⟩:=ih i p g h j;exact⟨u,t,z,q,.of_steps (StepsIn.trans d<|.one (fenced_calm o r rfl) stepR_inLoop) f⟩
   | exit id=>exact⟨_,g,h,hq,.pass (x:=.inLoop c) rfl (λ_ _=>.inl j2) d⟩
   | goto l=>exact⟨_,g,h,hq,.pass (x:=.inLoop c) rfl (λ_ _=>.inl j2) d⟩
   | ret=>exact⟨_,g,h,hq,.pass (x:=.inLoop c) rfl (λ_ _=>.inl j2) d⟩
   | panic A=>exact⟨_,g,h,hq,.pass (x:=.inLoop c) rfl (λ_ _=>.inl j2) d⟩
   | outgrown=>exact⟨_,g,h,hq,.pass (x:=.inLoop c) rfl (λ_ _=>.inl j2) d⟩
 obtain⟨e,a',w',hq,d⟩:=key m a w y;exact⟨e,a',w',hq,.of_steps (.one (fenced_calm o r rfl) stepR_loop) d⟩
end
theorem fh.value{P:Program}{o:Oper}{a:Act}{w w':World}{v:Value}(h:(execOp a.eval o).run P w=.ok (.value v) w')(b:K v w'):fh P o a w K:=by simp_all [fh]
theorem fh.skip{P:Program}{o:Oper}{a:Act}{w w':World}(h:(execOp a.eval o).run P w=.ok .skip w')(b:K undef w'):fh P o a w K:=by simp_all [fh]
theorem fh.enter{P:Program}{o:Oper}{a:Act}{w w':World}{f:FuncId}{args:Array Value}(h:(execOp a.eval o).run P w=.ok (.enter f args) w')(c:Calls P f args w' λe b=>∃ v,e=.returned v/\K v b):fh P o a w K:=by simp_all [fh]
theorem fh.mono{P:Program}{o:Oper}{a:Act}{w:World}(h:fh P o a w K)(b:∀ v w',K v w'->z v w'):fh P o a w z:=by
 unfold fh at *;generalize (execOp a.eval o).run P w=r at *;cases r with
 | ok n w'=>
  cases n<;>simp only at h ⊢
  case value v=>exact b _ _ h
  case skip=>exact b _ _ h
  case enter f args=>exact h.mono λe g ⟨v,c,d⟩=>⟨v,c,b _ _ d⟩
 | halt x w'=>simp only at h
section
variable{w0:Root}{S:Nat->Nat->Prop}{γ:Nat->Option Nat}{β:Nat->Option (Nat×Nat)}{s:St}{a:Act}{w:World}
def aT(h:Rp w0 S γ β s a w):∀ x:Operand,AR ⟨w,S,γ,β,s.ob,s.dead⟩ (s.opA x) (a.eval x)
 | .tmp t=>by
  simp only[St.opA,Act.eval];by_cases ht:t<a.tmps.size
  ·exact h.tms t ht
  ·rw[h.tmu t<|h.nt ▸ Nat.le_of_not_lt ht];simp[AR]
 | .const v=>by
  simp only[St.opA,Act.eval];cases v<;>simp only[LT]<;>first
   | exact cP _ _
   | exact iH _
   | exact dC rfl (by simp only[wt];exact⟨_,rfl⟩) (afQ (.str _))
   | (simp[AR];done)
   | skip
  case slice a len cap=>
   match a,len,cap with
   | none,0,0=>simp[AR,AC,Value.cells]
   | some _,_,_=>simp[AR]
   | none,_+1,_=>simp[AR]
   | none,0,_+1=>simp[AR]
 | .global g=>by simp[St.opA,AR]
 | .func f=>by simp[St.opA,AR,AC];exact⟨λ_ h=>(by cases h),[],rfl,by simp[pi]⟩
theorem Rp.put(h:Rp w0 S γ β s a w){v:AV}{val:Value}(d:AR ⟨w,S,γ,β,s.ob,s.dead⟩ v val)(b:Option Nat):Rp w0 S γ β (s.put b v) (a.put b val) w:=by
 cases b with
 | none=>simpa [St.put,Act.put] using h
 | some t=>
  simp[St.put,Act.put];by_cases ht:t<s.nt
  ·rw[zma ht];refine⟨h.ext,λi hi=>?_,by simpa using h.nt,λi hi=>?_,h.obs,h.γn,h.γi,h.γf,h.βn,h.βi,h.βγ,h.βf,h.Sb,h.So⟩
   ·simp[Array.size_setIfInBounds] at hi;by_cases hit:i=t
    ·subst hit;simp only[if_true];rw[show(a.tmps.setIfInBounds i val).getD i undef=val by simp[Array.getD,hi]]
     exact d
    ·simp only[zha hit];have:=h.tms i hi
     rwa [show(a.tmps.setIfInBounds t val).getD i undef=a.tmps.getD i undef by simp[Array.getD,hi,Array.getElem_setIfInBounds_ne hi<|Ne.symm hit]]
   ·have c:s.nt<=i:=hi;show(if i=t then v else s.tm i)=_
    rw[zha u0];exact h.tmu i c
  ·rw[zha ht];have:a.tmps.setIfInBounds t val=a.tmps:=by
    apply Array.setIfInBounds_eq_of_size_le;rw[h.nt];omega
   rw[this];exact h
def Bs{w':World}{S':Nat->Nat->Prop}{γ':Nat->Option Nat}{β':Nat->Option (Nat×Nat)}{ob:Nat->Option Ob}{dead:List Nat}
  (d:∀ b o,S b o->w'.cell? ⟨b,o,none⟩=w.cell? ⟨b,o,none⟩) (c:∀ b o,S b o->S' b o) (i:∀ id b,γ id=some b->γ' id=some b)
  (h:∀ v b e,v ∉ dead->β v=some (b,e)->β' v=some (b,e)/\∀ n,rL w b=some n->rL w' b=some n):Cx.le ⟨w,S,γ,β,ob,dead⟩ ⟨w',S',γ',β',ob,dead⟩:=
 ⟨d,c,i,λid o g _=>⟨o,g,λp=>⟨rfl,rfl⟩,λt l e=>⟨l,e,rfl⟩,λ_ _ l e=>⟨l,e⟩⟩,λv a=>⟨a,λb e f=>h v b e a f⟩⟩
def eP{os:List Obj}{d:Nat}{b o:Nat}(h:b<w.heap.size):(grown w os d).cell? ⟨b,o,none⟩=w.cell? ⟨b,o,none⟩:=by simp[World.cell?,du w os d h]
def Al{os:List Obj}{d:Nat}{b:Nat}(h:b<w.heap.size):rL (grown w os d) b=rL w b:=by simp[rL,ce,du w os d h]
theorem j6.mono{c c':Cx}(h:c.le c'){kt vt:Ty}:∀ {j:Nat} {l:List D} {a:List MapEntry},j6 c kt vt j l a->j6 c' kt vt j l a
 | _,[],[],_=>trivial
 | _,[],_::_,k=>k.elim
 | _,_::_,[],k=>k.elim
 | j,x::l,e::a,k=>by simp[j6] at k ⊢;obtain⟨⟨q1,d,o,f,g,i,m,n⟩,b⟩:=k;exact⟨⟨q1,d,o,f,g,i,m.mono h.cell h.S,n.mono h.cell h.S⟩,j6.mono h b⟩
theorem j6.same{c c':Cx}(d:c'.w=c.w)(b:c'.S=c.S){kt vt:Ty}:∀ {j:Nat} {l:List D} {a:List MapEntry},j6 c kt vt j l a->j6 c' kt vt j l a
 | _,[],[],_=>trivial
 | _,[],_::_,k=>k.elim
 | _,_::_,[],k=>k.elim
 | j,x::l,e::a,k=>by simp[j6] at k ⊢;rw[d,b];exact⟨k.1,j6.same d b k.2⟩
theorem gM.mono{c c':Cx}(h:c.le c'){b:Nat}{o:Ob}(q:c'.w.heap[b]?=c.w.heap[b]?)(n:∀ o,c'.S b o->c.S b o)(k:gM c b o):gM c' b o:=by
 have e:ce c'.w b=ce c.w b:=by simp[ce,q]
 cases o<;>simp only[gM] at k ⊢
 case one t v=> obtain⟨f,g,j,cs,a,m,s⟩:=k;exact⟨f,g,λo d=>j o<|n o d,cs,by rw[e];exact a,AC.mono h _ _ m,s⟩
 case many t l=> obtain⟨f,g,j,cs,A,a,m⟩:=k;exact⟨f,g,λo d=>j o<|n o d,cs,A,by rw[e];exact a,m.mono h.cell h.S⟩
 case mp kt vt l=> obtain⟨f,g,j,u,a,m⟩:=k;exact⟨f,g,λo d=>j o<|n o d,u,by rw[q];exact a,m.mono h⟩
 case lp i p=> obtain⟨r,a,m,s,z⟩:=k;exact⟨r,by rw[q];exact a,m,λt y=>(s t y).mono h.cell h.S h.γ,z⟩
 case fv v=> obtain⟨f,x,g,j,a⟩:=k;exact⟨λo d=>f o<|n o d,x,by rw[e];exact g,j.mono h.cell h.S h.γ,a⟩
theorem Rp.grow(h:Rp w0 S γ β s a w){os:List Obj}{d:Nat}(x:w.drawn<=d){S':Nat->Nat->Prop}(u:∀ b o,S b o->S' b o)(j:∀ b o,S' b o->S b o\/(w.heap.size<=b/\b<(grown w os d).heap.size)) :
  Rp w0 S' γ β s a (grown w os d)/\Cx.le ⟨w,S,γ,β,s.ob,s.dead⟩ ⟨grown w os d,S',γ,β,s.ob,s.dead⟩:=by
 have q:w.heap.size<=(grown w os d).heap.size:=j2
 have g:Cx.le ⟨w,S,γ,β,s.ob,s.dead⟩ ⟨grown w os d,S',γ,β,s.ob,s.dead⟩:=
  Bs (λb o c=>eP<|h.Sb b o c) u (λ_ _ k=>k) (λv b e r m=>⟨m,λn y=>by rw[Al (h.βn v b e r m).2.1];exact y⟩)
 refine⟨⟨?_,λt A=>(h.tms t A).mono g,h.nt,h.tmu,λid o b z c=>?_,λid b c=>⟨(h.γn id b c).1,by have:=(h.γn id b c).2;omega⟩,h.γi,h.γf,λv b e r m=>?_,h.βi,h.βγ,h.βf,λb o c=>?_,λb o c l=>?_⟩,g⟩
 ·exact⟨h.ext.tape,h.ext.os,h.ext.output,zva h.ext.sz q,zva h.ext.dr x,λb c=>(du w os d<|zeb c.1 h.ext.sz).trans<|h.ext.old b c⟩
 ·have p:=(h.γn id b c).2;refine(h.obs id o b z c).mono g (du w os d p) λi hi=>?_;all_goals grind
 ·obtain⟨C,D,E⟩:=h.βn v b e r m;all_goals grind
 ·rcases j b o c with k|k
  ·have:=h.Sb b o k;omega
  ·exact k.2
 ·rcases j b o c with k|k
  ·exact h.So b o k l
  ·exfalso;have:=h.ext.sz;have B:=l.1;omega
def pQ{α:Type}(f:Nat->Option α)(i:Nat)(x:α):Nat->Option α:=λj=>if j=i then some x else f j
def bN{α:Type}(f:Nat->Option α)(i:Nat)(x:α):pQ f i x i=some x:=by simp[pQ]
def ci{α:Type}(f:Nat->Option α){i:Nat}(x:α)(h:j≠i):pQ f i x j=f j:=by simp[pQ,h]
def fM{α:Type}{f:Nat->Option α}{i:Nat}{x:α}(h:f i=none){y:α}(a:f j=some y):pQ f i x j=some y:=by
 by_cases e:j=i
 ·simp_all
 ·rw[ci f x e,a]
def Rp.newOb(h:Rp w0 S γ β s a w){id b:Nat}(hid:γ id=none)(u:¬ w0.Old b)(x:b<w.heap.size)(r:∀ id,γ id≠some b)(C:∀ v e,v ∉ s.dead->β v≠some (b,e))(hi:id<s.base+4096)
  (A:∀ o,s.ob id=some o->gM ⟨w,S,pQ γ id b,β,s.ob,s.dead⟩ b o):Rp w0 S (pQ γ id b) β s a w/\Cx.le ⟨w,S,γ,β,s.ob,s.dead⟩ ⟨w,S,pQ γ id b,β,s.ob,s.dead⟩:=by
 have l:Cx.le ⟨w,S,γ,β,s.ob,s.dead⟩ ⟨w,S,pQ γ id b,β,s.ob,s.dead⟩:=
  Bs (λ_ _ _=>rfl) (λ_ _ k=>k) (λ_ _ k=>fM hid k) (λv b e q m=>⟨m,λn y=>y⟩)
 refine⟨⟨h.ext,λt B=>(h.tms t B).mono l,h.nt,h.tmu,λi o c z d=>?_,λi c d=>?_,λi j c d g=>?_,λi p=>?_,h.βn,h.βi,λv i c e q m d=>?_,h.βf,h.Sb,h.So⟩,l⟩
 ·by_cases e:i=id
  ·simp_all [bN]
  ·rw[ci γ b e] at d;exact(h.obs i o c z d).mono l rfl λ_ k=>k
 ·by_cases e:i=id
  ·simp_all [bN]
  ·rw[ci γ b e] at d;exact h.γn i c d
 ·by_cases e:i=id
  ·by_cases e':j=id
   ·rw[e,e']
   ·subst e;rw[bN] at d;cases d;rw[ci γ b e'] at g;exact z8a g<|r j
  ·by_cases e':j=id
   ·subst e';rw[bN] at g;cases g;rw[ci γ b e] at d;exact z8a d<|r i
   ·rw[ci γ b e] at d;rw[ci γ b e'] at g;exact h.γi i j c d g
 ·rw[ci γ b u0];exact h.γf i p
 ·by_cases e':i=id
  ·simp_all [bN]
  ·rw[ci γ b e'] at d;exact h.βγ v i c e q m d
def Rp.newTok(h:Rp w0 S γ β s a w){v b e:Nat}(C:β v=none)(r:¬ w0.Old b)(x:b<w.heap.size)(G:∀ id,γ id≠some b)(F:∀ v e,v ∉ s.dead->β v≠some (b,e))(hi:v<s.base+4096)(E:∀ o,e<=o->¬ S b o) :
  Rp w0 S γ (pQ β v (b,e)) s a w/\Cx.le ⟨w,S,γ,β,s.ob,s.dead⟩ ⟨w,S,γ,pQ β v (b,e),s.ob,s.dead⟩:=by
 have g:Cx.le ⟨w,S,γ,β,s.ob,s.dead⟩ ⟨w,S,γ,pQ β v (b,e),s.ob,s.dead⟩:=
  Bs (λ_ _ _=>rfl) (λ_ _ k=>k) (λ_ _ k=>k) (λv b e D y=>⟨fM C y,λn z=>z⟩)
 refine⟨⟨h.ext,λt B=>(h.tms t B).mono g,h.nt,h.tmu,λi o c A d=>(h.obs i o c A d).mono g rfl λ_ k=>k,h.γn,h.γi,h.γf,λu c f j d=>?_,λu p c f q j m d l=>?_,λu i c f j d hi=>?_,λu j=>?_,h.Sb,h.So⟩,g⟩
 ·by_cases e':u=v
  ·simp_all [bN]
  ·rw[ci β _ e'] at d;exact h.βn u c f j d
 ·by_cases e1:u=v
  ·by_cases e2:p=v
   ·rw[e1,e2]
   ·simp_all [bN,ci,e2]
  ·by_cases e2:p=v
   ·simp_all [bN,ci,e1]
   ·rw[ci β _ e1] at d;rw[ci β _ e2] at l;exact h.βi u p c f q j m d l
 ·by_cases e':u=v
  ·simp_all [bN]
  ·rw[ci β _ e'] at d;exact h.βγ u i c f j d hi
 ·rw[ci β _ u0];exact h.βf u j
end
def Qp(w0:Root)(S:Nat->Nat->Prop)(γ:Nat->Option Nat)(β:Nat->Option (Nat×Nat))(s:St)(a:Act)(w:World)(e:Option Nat)(v:AV)(val:Value)(w':World):Prop:=
 ∃ S' c f,Rp w0 S' c f s a w'/\AR ⟨w',S',c,f,s.ob,s.dead⟩ v val/\(∀ b o,S b o->S' b o)/\(∃ os d,w'=grown w os d) ∧
  (∀ id b,γ id=some b->c id=some b)/\(∀ id,e≠some (id-s.base)\/id<s.base->c id=γ id/\f id=β id)
section
variable{w0:Root}{S:Nat->Nat->Prop}{γ:Nat->Option Nat}{β:Nat->Option (Nat×Nat)}{s:St}{a:Act}{w:World}
def Qp.same(h:Rp w0 S γ β s a w){v:AV}{val:Value}(c:AR ⟨w,S,γ,β,s.ob,s.dead⟩ v val)(b:Option Nat):Qp w0 S γ β s a w b v val w:=
 ⟨S,γ,β,h,c,λ_ _ k=>k,⟨[],_,(IZ w).symm⟩,λ_ _ k=>k,λ_ _=>⟨rfl,rfl⟩⟩
end
end
section
variable{c:Cx}
def Fr(E:Env)(s:St)(γ:Nat->Option Nat)(β:Nat->Option (Nat×Nat))(o:Oper):Prop:=
 A4 o=true->∀ d:Nat,o.dst=some d->d<4096/\γ (s.base+d)=none/\β (s.base+d)=none/\∀ T x,o.op=.alloc T->E.alOb T=some x->s.ob (s.base+d)=some x
def GR{E:Env}{s:St}{γ:Nat->Option Nat}{β:Nat->Option (Nat×Nat)}{o:Oper}(h:A4 o=false):Fr E s γ β o:=λa=>by rw[h] at a;cases a
theorem eS{x:AV}{p:Ty×D}(h:isD x=some p):x=.d p.1 p.2:=by cases x<;>simp[isD] at h;grind
theorem AE{x:D}{b:Bool}(h:x.truth=some b):x=.bool b:=by
 cases x<;>simp[D.truth] at h
 simp_all
def rC{x:AV}{b:Bool}{v:Value}(h:x.truth=some b)(k:AR c x v):v=.bool b/\∃ t,x=.d t (.bool b):=by
 cases x<;>simp only[AV.truth] at h<;>first|cases h|skip
 split at h<;>try(cases h;done)
 have:=AE h;subst this;exact⟨GP k,_,rfl⟩
theorem oM{x:D}{n k:Nat}(h:x.idx n=some k):∃ kk,x=.int kk k/\k<n:=by
 cases x<;>simp only[D.idx] at h<;>first|cases h|skip
 rename_i kk i;split at h
 ·rename_i a;simp[zda] at h;refine⟨kk,?_,u0⟩
  grind
 ·cases h
theorem ux{x:D}{k:Nat}(h:x.natOf=some k):∃ kk,x=.int kk k:=by
 cases x<;>simp only[D.natOf] at h<;>first|cases h|skip
 rename_i kk i;split at h
 ·simp[zda] at h;refine⟨kk,?_⟩;grind
 ·cases h
def KY{x:D}{l:List D}(h:x.asSl=some l):x=.sl l:=by
 cases x<;>simp[D.asSl] at h
 simp_all
def Ai{t:Ty}{id:Nat}{v:Value}(a:zI (c.ob id)=true)(na:∀ cs,v≠.agg cs)(h:AC c (.ptr t id []) v.cells.toList):∃ b,v=.pointer (some ⟨b,0,none⟩)/\c.γ id=some b:=by
 simp[AC] at h;obtain⟨b,off,e,f,g⟩:=h;unfold zI at a;split at a<;>try(cases a;done)
 all_goals
  rename_i d;obtain⟨_,i⟩:=g _ d;have:off=0:=i;subst this;exact⟨b,ak na e,f⟩
theorem vo:∀ (l:List AV) (caps:List Value),yw l=true->(l.all<|λa=>match a with|.ptr _ id _=>zI (c.ob id)|_=>false)=true->pi c l caps->pj c l caps
 | [],caps,_,_,h=>by simp[pi] at h;subst h;trivial
 | x::l,caps,f,g,h=>by
  simp[pi] at h;obtain⟨v,i,rfl,d,j⟩:=h;simp only[zOb,Y] at g;unfold yw at f;split at f<;>try(cases f;done)
  ·simp_all
  ·rename_i t id l' e;cases e;refine⟨?_,vo l i f g.2 j⟩;have na:∀ cs,v≠.agg cs:=λcs e=>by
    simp[AC] at d;obtain⟨b,off,q,_⟩:=d;subst e;simp at q
   have k:=Ai g.1 na (v:=v) (by
    have q:=d;simp[AC] at q;obtain⟨b,off,q,_⟩:=q;have:v=.pointer (some ⟨b,off,none⟩):=by simpa using q
    subst this;exact d)
   exact k
def Id{f:Nat}{l:List AV}{v:Value}(h:AR c (.clo f l) v):gn c (if yw l&&l.all (λa=>match a with|.ptr _ id _=>zI (c.ob id)|_=>false) then .clo f l else .undef) v:=by
 split
 ·rename_i b;simp only[Y] at b;simp only[AR,AC] at h;obtain⟨na,caps,d,e⟩:=h;simp only[gn];exact⟨caps,ak na d,vo l caps b.1 b.2 e⟩
 ·simp[gn]
def Ie{kt vt:Ty}{id:Nat}{v:Value}(h:AR c (.map kt vt id) v):gn c (.map kt vt id) v:=by simp[AR,AC] at h;obtain⟨na,b,a,d,e,f,_⟩:=h;exact⟨b,ak na a,d,e,f⟩
def Ic{c:Cx}{a:AV}{v:Value}(h:np (kE c.ob a)=true)(k:AR c a v):gn c (kE c.ob a) v/\v.oneCell'=true:=by
 have key:np a=true:=by
  cases a<;>simp[kE] at h<;>first|rfl|(cases h;done)|skip
  rename_i t id p;cases p<;>simp only at h
  ·split at h<;>cases h
  ·cases h
 refine⟨?_,Qe key k⟩;cases a<;>simp[np] at key<;>try(cases key;done)
 ·exact Id k
 ·exact Ie k
 ·exact k
def Hd{x:AV}{v:Value}{dd:List Nat}(h:ws c x v)(hp:gH (nJ c.ob x)=true):AC ⟨c.w,c.S,c.γ,c.β,c.ob,dd⟩ (nJ c.ob x) [v]/\∀ cs,v≠.agg cs:=by
 unfold ws at h;split at h
 ·rename_i t id;obtain⟨b,rfl,d⟩:=h;refine⟨?_,λcs e=>by cases e⟩
  simp[nJ] at hp ⊢;cases ho:c.ob id with
  | none=>rw[ho] at hp;simp[gH] at hp
  | some o=>
   rw[ho] at hp;cases o<;>simp[gH] at hp<;>try(cases hp;done)
   all_goals
    simp only[AC];refine⟨b,0,rfl,d,λo' a=>?_⟩;have:some o'=some _:=a.symm.trans ho;cases this;exact⟨rfl,rfl⟩
 ·exact h.elim
theorem CL{dd:List Nat}:∀ {l:List AV} {vs:List Value},pj c l vs->(l.map<|nJ c.ob).all gH=true->pi ⟨c.w,c.S,c.γ,c.β,c.ob,dd⟩ (l.map<|nJ c.ob) vs
 | [],[],_,_=>by simp[pi]
 | [],_::_,h,_=>h.elim
 | _::_,[],h,_=>h.elim
 | x::l,v::vs,h,hp=>by simp only[z4a,zOb,Y] at hp;simp only[z4a,pi];exact⟨v,vs,rfl,(Hd h.1 hp.1).1,CL h.2 hp.2⟩
theorem CK{c:Cx}{x:AV}{v:Value}{dd:List Nat}(h:gn c x v):AR ⟨c.w,c.S,c.γ,c.β,c.ob,dd⟩ (pz c.ob x) v:=by
 cases x<;>simp[gn] at h<;>simp only[pz]<;>first|(simp only[AR];done)|skip
 case d t y=>simpa only[AR] using h
 case fptr t y=>simpa only[AR,AC] using h
 case ptr t id p=>
  cases hp:gH (nJ c.ob<|.ptr t id p) with
  | true=>
   obtain⟨q,z⟩:=Hd (dd:=dd) h hp;have r:v.cells.toList=[v]:=by
    unfold ws at h;split at h
    ·obtain⟨b,rfl,_⟩:=h;rfl
    ·exact h.elim
   cases hx:nJ c.ob (.ptr t id p)<;>rw[hx] at hp q<;>simp only[gH] at hp<;>try(cases hp;done)
   simp_all [AR,r]
  | false=>
   have:nJ c.ob (.ptr t id p)=.undef:=by unfold nJ at hp ⊢;all_goals grind [gH]
   simp_all [AR]
 case clo f l=>
  obtain⟨caps,rfl,m⟩:=h;split
  ·rename_i hp;simp only[AR,AC];exact⟨λcs e=>(by cases e),caps,rfl,CL m hp⟩
  ·simp[AR]
 case yld id=>simpa only[AR,AC] using h
 case map kt vt id=>
  obtain⟨b,rfl,i,j,k⟩:=h;split
  ·rename_i s u l n;split
   ·rename_i a;simp[Y] at a;have e1:=ags _ _ a.1;have e2:=ags _ _ a.2;subst e1;subst e2;simp only[AR,AC];refine⟨λcs e=>(by cases e),b,rfl,i,j,k,λo g=>?_⟩
    have:some o=some _:=g.symm.trans n;cases this;exact⟨l,rfl⟩
   ·simp[AR]
  ·simp[AR]
section
variable{P:Program}{E:Env}{w0:Root}{S:Nat->Nat->Prop}{γ:Nat->Option Nat}{β:Nat->Option (Nat×Nat)}{s:St}{a:Act}{w:World}
def j8(P:Program)(E:Env)(w0:Root)(S:Nat->Nat->Prop)(γ:Nat->Option Nat)(β:Nat->Option (Nat×Nat))(s:St)(a:Act)(w:World)(o:Oper):Prop:=
 ∀ (R:Type) (K:AV->Option R) (r:R),qv E s o K=some r->∃ v,K v=some r/\fh P o a w (Qp w0 S γ β s a w o.dst v)
def mW(a:Addr):(Instr.sureAddr<|.pointer<|some a).run P w=.ok a w:=rfl
def P9(h:Rp w0 S γ β s a w){dst x ty pos after guard}:j8 P E w0 S γ β s a w ⟨dst,.move x,ty,pos,after,guard⟩:=by intro R K r hq;exact⟨_,hq,.value (v:=a.eval x) (w':=w) (by simp[execOp])<|Qp.same h (aT h x) _⟩
def JC(h:Rp w0 S γ β s a w){dst x ty pos after guard}:j8 P E w0 S γ β s a w ⟨dst,.assign x,ty,pos,after,guard⟩:=by intro R K r hq;exact⟨_,hq,.value (v:=a.eval x) (w':=w) (by simp[execOp])<|Qp.same h (aT h x) _⟩
def Qa(h:Rp w0 S γ β s a w){dst c x y ty pos after guard}:j8 P E w0 S γ β s a w ⟨dst,.pick c x y,ty,pos,after,guard⟩:=by
 intro R K r hq;simp[qv] at hq;obtain⟨b,f,d⟩:=ab hq;obtain⟨e,_⟩:=rC f<|aT h c;cases b
 ·exact⟨_,by simpa using d,.value (v:=a.eval y) (w':=w) (by simp[execOp,e,asBool])<|Qp.same h (aT h y) _⟩
 ·exact⟨_,by simpa using d,.value (v:=a.eval x) (w':=w) (by simp[execOp,e,asBool])<|Qp.same h (aT h x) _⟩
def D8(h:Rp w0 S γ β s a w){dst x ty pos after guard}:j8 P E w0 S γ β s a w ⟨dst,.nilCheck x,ty,pos,after,guard⟩:=by
 intro R K r hq;simp[qv] at hq;have hx:=aT h x;generalize s.opA x=y at *;cases y<;>(try simp only at hq)<;>first|cases hq|skip
 rename_i t id p;refine⟨_,hq,?_⟩;have c:=hx;simp[AR,AC] at hx;obtain⟨d,b,off,e,g⟩:=hx;have f:=ak d e;exact .value (v:=a.eval x) (w':=w) (by simp[execOp,f])<|Qp.same h c _
mutual
theorem yz:∀ (t:Ty),aj t=true->AV.fits t (mw t)=true
 | .int k,_=>bW _ _
 | .bool,_=>bW _ _
 | .str,_=>bW _ _
 | .st ts,hn=>by
  simp[mw];split
  ·simp[AV.fits,Y];exact⟨by have:=agr<|.st ts;simpa [Ty.beq] using this,li ts (by simpa [aj] using hn)⟩
  ·exact bW _ _
 | .arr n t,_=>bW _ _
 | .sl t,_=>rfl
 | .tup _,h=>by simp[aj] at h
 | .fn,h=>by simp[aj] at h
theorem li:∀ (ts:List Ty),aP ts=true->AV.fitss ts (lC ts)=true
 | [],_=>rfl
 | t::ts,h=>by simp[aP,Y] at h;simp[lC,AV.fitss,Y];exact⟨yz t h.1,li ts h.2⟩
end
mutual
theorem c6:∀ (t:Ty),aj t=true->wt t (aw t)
 | .int k,_=>by simp_all [wt,aw]
 | .bool,_=>by simp_all [wt,aw]
 | .str,_=>by simp_all [wt,aw]
 | .st ts,hn=>by simp only[wt,aw];exact⟨_,rfl,rH ts (by simpa [aj] using hn)⟩
 | .arr n t,hn=>by
  simp only[wt,aw];refine⟨_,rfl,j2,λx hx=>?_⟩
  rw[(zld.1 hx).2];exact c6 t (by simpa [aj] using hn)
 | .sl t,_=>by simp only[wt,aw];exact⟨[],rfl,λx hx=>by simp at hx⟩
 | .tup _,h=>by simp[aj] at h
 | .fn,h=>by simp[aj] at h
theorem rH:∀ (ts:List Ty),aP ts=true->fq ts (ii ts)
 | [],_=>by simp[fq,ii]
 | t::ts,h=>by simp[aP,Y] at h;simp only[ii,fq];exact⟨_,_,rfl,c6 t h.1,rH ts h.2⟩
end
def Po{w:World}{S:Nat->Nat->Prop}{d:D}{v:Value}(h:IV d v=true):CR w S d v:=by
 cases d<;>cases v<;>simp only[IV] at h<;>first|cases h|skip
 case int.int k n k' n'=>simp at h;rw[h.1,h.2];exact .int _ _
 case bool.bool b b'=>simp at h;rw[h];exact .bool _
 case str.string x y=>
  have:x=y:=by simpa using h
  rw[this];exact .str _
 case sl.slice l a len cap=> simp[Y,List.isEmpty_iff,Option.isNone_iff_eq_none,zea] at h;obtain⟨⟨⟨rfl,rfl⟩,rfl⟩,rfl⟩:=h;exact .sl [] none 0 0 0 (λ_=>undef) (.inl rfl) (zja 0) (λi d c=>by simp[N] at c)<|λi d c=>by simp[N] at c
theorem cK{w:World}{S:Nat->Nat->Prop}:∀ {a:List D} {cs:List Value},de a cs=true->c7 w S a cs
 | [],[],_=>c7.nil
 | [],_::_,h=>by simp[de] at h
 | _::_,[],h=>by simp[de] at h
 | d::a,v::cs,h=>by simp[de,Y] at h;exact c7.append (c7.single.2<|Po h.1)<|cK h.2
theorem vr:∀ {a b:List D} {cs:List Value},de (a++b) cs=true->de a (cs.take a.length)=true/\de b (cs.drop a.length)=true
 | [],b,cs,h=>by simpa [de] using h
 | d::a,b,[],h=>by simp[de] at h
 | d::a,b,v::cs,h=>by
  simp[zrb,de,Y] at h;obtain⟨c,e⟩:=vr h.2
  simp_all [zOa,zdc,zZc,de,Y]
mutual
theorem EP{c:Cx}:∀ (t:Ty) (cs:List Value),aj t=true->de (aw t).flat cs=true->AC c (mw t) cs
 | .int k,cs,hn,h=>by simp[mw,AC];exact⟨c6 _ hn,hn,cK h⟩
 | .bool,cs,hn,h=>by simp[mw,AC];exact⟨c6 _ hn,hn,cK h⟩
 | .str,cs,hn,h=>by simp[mw,AC];exact⟨c6 _ hn,hn,cK h⟩
 | .st ts,cs,hn,h=>by
  simp[mw];split
  ·simp[aj] at hn;simp[AC];exact⟨hn,li ts hn,m9 ts cs hn (by simpa [aw,D.flat] using h)⟩
  ·simp[AC];exact⟨c6 _ hn,hn,cK h⟩
 | .arr n t,cs,hn,h=>by simp[mw,AC];exact⟨c6 _ hn,hn,cK h⟩
 | .sl t,cs,hn,h=>by
  simp[mw,AC];simp[aw,D.flat] at h
  match cs,h with
  | [],h=>simp[de] at h
  | [v],h=>
   simp only[de,Y] at h;have h1:=h.1;cases v<;>simp[IV] at h1<;>first|cases h1|skip
   simp_all
  | v::u::cs,h=>simp[de] at h
 | .tup _,_,h,_=>by simp[aj] at h
 | .fn,_,h,_=>by simp[aj] at h
theorem m9{c:Cx}:∀ (ts:List Ty) (cs:List Value),aP ts=true->de (N<|ii ts) cs=true->jW c (lC ts) cs
 | [],cs,_,h=>by grind [ii,N,lC,jW,de]
 | t::ts,cs,hn,h=>by simp[aP,Y] at hn;simp[ii,N] at h;obtain⟨h1,h2⟩:=vr h;simp[lC,jW];exact⟨_,_,(zza _ _).symm,EP t _ hn.1 h1,m9 ts _ hn.2 h2⟩
end
end
end
section
variable{c:Cx}
theorem lT{R:Type}{b:Nat}{o:Ob}{p:List Nat}{t:Ty}{K:AV->Option R}{r:R}(n:gM c b o)(d:fA o p=some t)(h:gV o p K=some r) :
  ∃ a' cs,K a'=some r/\AC c a' cs/\AV.fits t a'=true/\aj t=true/\∀ (i:Nat) (v:Value),cs[i]?=some v->c.w.cell? ⟨b,cC o p+i,none⟩=some v:=by
 cases o
 case mp=>simp[fA] at d
 case lp=>simp[fA] at d
 case fv=>simp[gV] at h
 case one T v=> simp[gM] at n;obtain⟨e,k,_,cs,s,m,z⟩:=n;simp[fA] at d;simp[gV] at h;obtain⟨a',pre,mid,post,g,rfl,y,D,E⟩:=HE p k e d m h;refine⟨a',mid,g,D,E,eV p e d,λi v u=>?_⟩;rw[cell_of_row _ s];simp[cC,<-y];grind
 case many T l=>
  simp only[gM] at n;obtain⟨e,k,_,cs,J,s,m⟩:=n;cases p with
  | nil=>simp[fA] at d
  | cons i p=>
   simp only[fA] at d;simp only[gV] at h;obtain⟨x,g,y⟩:=ab h;rw[cE g] at m;obtain⟨z,A⟩:=m.split;obtain⟨B,I⟩:=A.split;have hx:=k x<|zfb g;obtain⟨a',pre,mid,post,m1,m2,F,G,H⟩:=HE (c:=c) (cs:=(cs.drop (N<|l.take i).length).take x.flat.length) p (bW T x) e d (by simp[AC];exact⟨hx,e,B⟩) y
   refine⟨a',mid,m1,G,H,eV p e d,λj v u=>?_⟩;rw[cell_of_row _ s];have f:(N<|l.take i).length=i*T.size:=by rw[aL e _<|λx hx=>k x<|zUa hx];have:=(zra.1 g).1;simp[zsb<|zJc this]
   simp[cC,<-F,zuc];have C:=(zra.1 u).1;have a:((cs.drop (N<|l.take i).length).take x.flat.length)[pre.length+j]?=some v:=by rw[m2,zVb u0,zyb,zab C];exact u
   have q:=(zra.1 a).1;rw[zkb] at q;rw[zQb u0,zDb,f] at a
   rw[show i*T.size+pre.length+j=i*T.size+(pre.length+j) by omega,zab (zra.1 a).1]
   exact a
section
variable{P:Program}{E:Env}{w0:Root}{S:Nat->Nat->Prop}{γ:Nat->Option Nat}{β:Nat->Option (Nat×Nat)}{s:St}{a:Act}{w:World}
def jQ(a:EnvOk P E){T:TypeId}{t:Ty}(h:E.L T=some t)(b:aj t=true):cb P t T=true:=by
 rcases a.lay T t h with⟨ts,rfl⟩|h
 ·simp[aj] at b
 ·exact h
def lj{c:Cx}{t:Ty}{id:Nat}{p:List Nat}{v:Value}(h:AR c (.ptr t id p) v):∃ b off,v=.pointer (some ⟨b,off,none⟩)/\c.γ id=some b/\∀ o,c.ob id=some o->fA o p=some t/\off=cC o p:=by simp[AR,AC] at h;obtain⟨a,b,off,d,e⟩:=h;exact⟨b,off,ak a d,e⟩
def gA{t:Ty}{id:Nat}{p:List Nat}{b off:Nat}(h:c.γ id=some b)(a:∀ o,c.ob id=some o->fA o p=some t/\off=cC o p):AR c (.ptr t id p) (.pointer<|some ⟨b,off,none⟩):=by simp only[AR,AC];exact⟨j2,b,off,rfl,h,a⟩
def AJ{t:Ty}{x:D}{v:Value}(h:AR c (.fptr t x) v):wt t x/\aj t=true/\∃ b off,v=.pointer (some ⟨b,off,none⟩)/\tC c.w c.S b off x.flat:=by simp[AR,AC] at h;obtain⟨a,d,h0,b,off,e,f⟩:=h;exact⟨d,h0,b,off,ak a e,f⟩
def pR{t:Ty}{x:D}{b off:Nat}(h:wt t x)(d:aj t=true)(a:tC c.w c.S b off x.flat):AR c (.fptr t x) (.pointer<|some ⟨b,off,none⟩):=by simp only[AR,AC];exact⟨j2,h,d,b,off,rfl,a⟩
def P8(a1:EnvOk P E)(h:Rp w0 S γ β s a w){dst T x ty pos after guard}:j8 P E w0 S γ β s a w ⟨dst,.load T x,ty,pos,after,guard⟩:=by
 intro R K r hq;simp only[qv] at hq;have hx:=aT h x;cases hfn:E.fnT T with
 | true=>
  rw[hfn] at hq;simp only[cond_true] at hq;split at hq<;>first|cases hq|skip
  rename_i id e;split at hq<;>first|cases hq|skip
  rename_i y k;split at hq<;>first|cases hq|skip
  rw[e] at hx;obtain⟨b,off,B,J,g⟩:=lj hx;obtain⟨_,rfl⟩:=g _ k;obtain⟨_,c,q,u,k3⟩:=h.obs id _ b k J;replace u:=CK (dd:=s.dead) u;exact⟨_,hq,.value (v:=c) (w':=w) (by simp[execOp,B,El (a1.fnT T hfn) q,cC])<|Qp.same h u _⟩
 | false=>
 rw[hfn] at hq;simp only[cond_false] at hq;replace hq:=ab hq;obtain⟨t,X,hq⟩:=hq;generalize s.opA x=y at *;cases y<;>(try simp only at hq)<;>first|cases hq|skip
 case ptr t' id p=>
  split at hq<;>first|cases hq|skip
  rename_i j;have:=ags _ _ j;subst this;replace hq:=ab hq;obtain⟨o,k,hq⟩:=hq;obtain⟨b,off,B,J,g⟩:=lj hx;obtain⟨q,rfl⟩:=g o k;obtain⟨a',cs,m1,m2,O,m4,m5⟩:=lT (h.obs id o b k J) q hq;obtain⟨m6,m7⟩:=iG _ _ _ O m2;obtain⟨v,d,f⟩:=jx (jQ a1 X m4) (w:=w) (b:=b) (off:=cC o p) m6 m7 m5;exact⟨a',m1,.value (v:=v) (w':=w) (by simp[execOp,B,d])<|Qp.same h (yV O m2 f) _⟩
 case fptr t' z=>
  split at hq<;>first|cases hq|skip
  rename_i j;have:=ags _ _ j;subst this;obtain⟨q,Z,b,off,B,cs,u,k3⟩:=AJ hx;obtain⟨v,d,f⟩:=jx (jQ a1 X Z) (w:=w) (b:=b) (off:=off) (cs:=cs) (by rw[<-u.1];exact cJ _ _ q Z) u.nag<|λi c G=>(k3 i c G).2
  exact⟨_,hq,.value (v:=v) (w':=w) (by simp[execOp,B,d])<|Qp.same h (yV (bW _ _) (by simp only[AC];exact⟨q,Z,u⟩) f) _⟩
 case sub sl e id p lo n=>
  split at hq<;>first|cases hq|skip
  rename_i j;simp only[Y,zCa] at j;obtain⟨W,j⟩:=j;subst W;have:=ags _ _ j;subst this;replace hq:=ab hq;obtain⟨o,k,hq⟩:=hq;simp only[AR,AC] at hx;obtain⟨V,A,b,off,cap,H,J,g⟩:=hx;simp[zIa,if_false] at H;have B:=ak V H;obtain⟨m,q,u,rfl⟩:=g o k;obtain⟨a',cs,m1,m2,O,m4,m5⟩:=lT (h.obs id o b k J) q hq;split at m1<;>try(cases m1;done)
  rename_i m' C l;split at m1<;>try(cases m1;done)
  rename_i F;simp[Y,zea] at F;have he:=ags _ _ F.1;subst he;have hm:=qx O;simp[Ty.arr.injEq] at hm;simp[AC] at m2;obtain⟨q1,q2,q3⟩:=m2;simp only[wt] at q1;obtain⟨l0,e0,q4,q5⟩:=q1;cases e0;have U:l=l.take lo++((l.drop lo).take n++(l.drop lo).drop n):=by rw[zza,zza]
  have Q:N l=N (l.take lo)++(N ((l.drop lo).take n)++N ((l.drop lo).drop n)):=by
   conv=>lhs;rw[U]
   rw[cw,cw]
  simp[D.flat] at q3;rw[Q] at q3;obtain⟨_,r2⟩:=q3.split;obtain⟨r3,_⟩:=r2.split;have L:(N<|l.take lo).length=lo*C.size:=by rw[aL A _<|λx hx=>q5 x<|zUa hx,zkb,zsb u0]
  have M:(N<|(l.drop lo).take n).length=n*C.size:=by rw[aL A _<|λx hx=>q5 x<|z9b<|zUa hx,zkb,List.length_drop,zsb u0]
  have a0:wt (.arr n C) (.st<|(l.drop lo).take n):=by simp only[wt];exact⟨_,rfl,by rw[zkb,List.length_drop,zsb u0],λx hx=>q5 x<|z9b<|zUa hx⟩
  have I:aj (.arr n C)=true:=by simp[aj];exact A
  obtain⟨v,d,f⟩:=jx (jQ a1 X I) (w:=w) (b:=b) (off:=cC o p+lo*C.size) (cs:=(cs.drop (N<|l.take lo).length).take (N<|(l.drop lo).take n).length) (by rw[<-r3.1,M];rfl) r3.nag (λi c G=>by
   have hi:i<(N<|(l.drop lo).take n).length:=by have:=(zra.1 G).1;rw[zkb] at this;omega
   rw[zQb hi,zDb] at G;have:=m5 _ c G;rw[L,<-zNb] at this;exact this)
  exact⟨_,m1,.value (v:=v) (w':=w) (by simp[execOp,B,d])<|Qp.same h (yV (bW _ _) (by simp[AC];exact⟨a0,I,by simp[D.flat];exact r3⟩) f) _⟩
def vg{T:TypeId}{ts:List Ty}{f:Nat}{u:Ty}(hl:cb P (.st ts) T=true)(l:ts[f]?=some u)(b off:Nat)(w:World) :
  (Instr.fieldAt T (.pointer<|some ⟨b,off,none⟩) f).run P w=.ok (.pointer<|some ⟨b,off+agv (ts.take f),none⟩) w:=by
 obtain⟨d,e,h⟩:=kl hl;obtain⟨g,i,j,m,k⟩:=vQ h l;have a:d[f]?=some g:=by simpa using i
 have c:u.size≠0:=u0
 simp[Instr.fieldAt,G,run_underlying e,zga,a,mW,fieldPlace,cp k,c,if_false,zta,j,dO,zbb]
theorem lc:∀ (p:List Nat) {t u v:Ty} {i:Nat},aS t p=some u->aS u [i]=some v->aS t (p++[i])=some v
 | [],t,u,v,i,h,k=>by simp_all [aS]
 | j::p,.st ts,u,v,i,h,k=>by simp[aS,zrb] at h ⊢;obtain⟨z,a,b⟩:=ab h;rw[a];exact lc p b k
 | j::p,.arr n t,u,v,i,h,k=>by simp[aS,zrb] at h ⊢;exact lc p h k
 | j::p,.int _,u,v,i,h,k=>by simp[aS] at h
 | j::p,.bool,u,v,i,h,k=>by simp[aS] at h
 | j::p,.str,u,v,i,h,k=>by simp[aS] at h
 | j::p,.sl _,u,v,i,h,k=>by simp[aS] at h
 | j::p,.tup _,u,v,i,h,k=>by simp[aS] at h
 | j::p,.fn,u,v,i,h,k=>by simp[aS] at h
theorem jT:∀ (p:List Nat) {t u:Ty} {i:Nat},aS t p=some u->aZ t (p++[i])=aZ t p+aZ u [i]
 | [],t,u,i,h=>by simp_all [aS,aZ]
 | j::p,.st ts,u,i,h=>by simp[aS,zrb] at h ⊢;obtain⟨z,a,b⟩:=ab h;simp only[aZ];rw[show ts.getD j .bool=z by simp[List.getD,a],jT p b,zNb]
 | j::p,.arr n t,u,i,h=>by simp[aS,zrb] at h ⊢;simp[aZ];rw[jT p h,zNb]
 | j::p,.int _,u,i,h=>by simp[aS] at h
 | j::p,.bool,u,i,h=>by simp[aS] at h
 | j::p,.str,u,i,h=>by simp[aS] at h
 | j::p,.sl _,u,i,h=>by simp[aS] at h
 | j::p,.tup _,u,i,h=>by simp[aS] at h
 | j::p,.fn,u,i,h=>by simp[aS] at h
def uy{o:Ob}{p:List Nat}{t u:Ty}{i:Nat}(h:fA o p=some t)(k:aS t [i]=some u):fA o (p++[i])=some u/\cC o (p++[i])=cC o p+aZ t [i]:=by
 cases o with
 | one T v=>simp[fA,cC] at h ⊢;exact⟨lc p h k,jT p h⟩
 | many T l=>
  cases p with
  | nil=>simp[fA] at h
  | cons j p=>simp[fA,cC,zrb] at h ⊢;exact⟨lc p h k,by rw[jT p h,zNb]⟩
 | mp kt vt l=>simp[fA] at h
 | lp i q=>simp[fA] at h
 | fv v=>cases p<;>simp[fA] at h;subst h;simp[aS] at k
def BP(l:EnvOk P E)(h:Rp w0 S γ β s a w){dst T x f ty pos after guard}:j8 P E w0 S γ β s a w ⟨dst,.fieldAddr T x f,ty,pos,after,guard⟩:=by
 intro R K r hq;simp[qv] at hq;replace hq:=ab hq;obtain⟨t,m,hq⟩:=hq;have hx:=aT h x;generalize s.opA x=y at *;cases t<;>(try simp only at hq)<;>first|cases hq|skip
 rename_i ts;cases y<;>(try simp only at hq)<;>first|cases hq|skip
 case ptr t' id p=>
  split at hq<;>first|cases hq|skip
  rename_i e;have:=ags _ _ e;subst this;replace hq:=ab hq;obtain⟨u,d,hq⟩:=hq;obtain⟨b,off,j,I,g⟩:=lj hx;rcases l.lay T _ m with⟨ts',c⟩|hl
  ·cases c
  refine⟨_,hq,.value (v:=.pointer<|some ⟨b,off+agv (ts.take f),none⟩) (w':=w) (by simp[execOp,j,G,vg hl d,zga,zta])<|Qp.same h (gA I λo a0=>?_) _⟩
  obtain⟨k,rfl⟩:=g o a0;have:=uy (i:=f) (u:=u) k (by simp[aS,d])
  exact⟨this.1,by rw[this.2];simp[aZ]⟩
 case fptr t' z=>
  split at hq<;>first|cases hq|skip
  rename_i e;have:=ags _ _ e;subst this;replace hq:=ab hq;obtain⟨u,d,hq⟩:=hq;replace hq:=ab hq;obtain⟨L,H,hq⟩:=hq;obtain⟨k,n,b,off,j,q⟩:=AJ hx;rcases l.lay T _ m with⟨ts',c⟩|hl
  ·cases c
  have F:z.get [f]=some L:=by simp[D.get,H]
  obtain⟨m1,A,B,m2,J⟩:=ki [f] k n (show aS (.st ts) [f]=some u by simp[aS,d]) F
  rw[m2] at q;have C:=q.part;rw[J] at C;refine⟨_,hq,.value (v:=.pointer<|some ⟨b,off+agv (ts.take f),none⟩) (w':=w) (by simp[execOp,j,G,vg hl d,zga,zta])<|Qp.same h (pR m1 (bZ (by simpa [aj] using n) d) ?_) _⟩
  simpa [aZ] using C
def ns{T:TypeId}{n:Nat}{e:Ty}(hl:cb P (.arr n e) T=true){kk:IntKind}{k:Nat}(f:k<n)(b off:Nat)(w:World) :
  (Instr.indexAt T (.pointer<|some ⟨b,off,none⟩)<|.int kk k).run P w=.ok (.pointer<|some ⟨b,off+k*e.size,none⟩) w:=by
 obtain⟨u,c,d⟩:=fm hl;have a:(0:Int)<=(k:Int)/\(k:Int)<(n:Int):=u0
 simp only[Instr.indexAt,asIntOf,pure_bind,G,run_underlying c,zga,mW,zta,a,and_self,if_true,cp d,dO,z7c]
def kz{T:TypeId}{e:Ty}(hl:cb P (.sl e) T=true){kk:IntKind}{k len cap:Nat}(f:k<len)(b off:Nat)(w:World) :
  (Instr.indexAt T (.slice (some ⟨b,off,none⟩) len cap)<|.int kk k).run P w=.ok (.pointer<|some ⟨b,off+k*e.size,none⟩) w:=by
 obtain⟨u,c,d⟩:=jF hl;have a:(0:Int)<=(k:Int)/\(k:Int)<(len:Int):=u0
 simp only[Instr.indexAt,asIntOf,pure_bind,G,run_underlying c,zga,zta,a,and_self,if_true,cp d,dO,z7c]
def Kk{t:Ty}{id:Nat}{v:Value}(h:AR c (.mem t id) v):aj t=true/\∃ b,c.γ id=some b/\∀ o,c.ob id=some o->∃ l cap,o=.many t l/\l.length<=cap/\v=.slice (some ⟨b,0,none⟩) l.length cap:=by simp only[AR,AC] at h;obtain⟨a,d,b,e,f⟩:=h;refine⟨d,b,e,λo g=>?_⟩;obtain⟨l,cap,i,k,j⟩:=f o g;exact⟨l,cap,i,k,ak a j⟩
def lD{ob:Nat->Option Ob}{e:Ty}{y:AV}{v:Value}{l:List D}(f:aj e=true)(h:AR c y v)(hl:y.asList ob e=some l):(∀ x∈l,wt e x)/\CR c.w c.S (.sl l) v:=by
 unfold AV.asList at hl;obtain⟨x,b,d⟩:=ab hl;have:=KY d;subst this;obtain⟨a,g⟩:=pS (t:=.sl e) (by simpa [aj] using f) h b
 simp only[wt] at a;obtain⟨l',e1,i⟩:=a;cases e1;exact⟨i,g.sl_inv⟩
def Kl{t:Ty}{id lo n:Nat}{p:List Nat}{v:Value}(h:AR c (.sub true t id p lo n) v):∃ b off cap,v=.slice (some ⟨b,off,none⟩) n cap/\c.γ id=some b/\∀ o,c.ob id=some o->∃ m,fA o p=some (.arr m t)/\lo+n<=m/\off=cC o p+lo*t.size:=by simp only[AR,AC] at h;obtain⟨a,_,b,off,cap,d,e,f⟩:=h;exact⟨b,off,cap,ak a (by simpa using d),e,f⟩
theorem BQ(V:EnvOk P E)(h:Rp w0 S γ β s a w){dst T x i ty pos after guard}:j8 P E w0 S γ β s a w ⟨dst,.indexAddr T x i,ty,pos,after,guard⟩:=by
 intro R K r hq;simp only[qv] at hq;replace hq:=ab hq;obtain⟨t,W,hq⟩:=hq;replace hq:=ab hq;obtain⟨ix,Q,hq⟩:=hq;have hi:=eS Q;have c:=aT h i;rw[hi] at c;have hx:=aT h x;generalize s.opA x=y at *;cases t<;>(try simp only at hq)<;>first|cases hq|skip
 case arr n e=>
  rcases V.lay T _ W with⟨ts',H⟩|hl
  ·cases H
  cases y<;>(try simp only at hq)<;>first|cases hq|skip
  case ptr t' id p=>
   split at hq<;>first|cases hq|skip
   rename_i j;have:=ags _ _ j;subst this;replace hq:=ab hq;obtain⟨k,q,hq⟩:=hq;obtain⟨kk,f,d⟩:=oM q;rw[f] at c;obtain⟨nA,_⟩:=fg c;obtain⟨b,off,C,N,g⟩:=lj hx;refine⟨_,hq,.value (v:=.pointer<|some ⟨b,off+k*e.size,none⟩) (w':=w) (by simp only[execOp,C,nA,G,ns hl d,zga,zta])<|Qp.same h (gA N λo J=>?_) _⟩
   obtain⟨F,rfl⟩:=g o J;have:=uy (i:=k) (u:=e) F (by cases e<;>simp[aS])
   exact⟨this.1,by rw[this.2];cases e<;>simp[aZ]⟩
  case fptr t' z=>
   split at hq<;>first|cases hq|skip
   rename_i j;have:=ags _ _ j;subst this;replace hq:=ab hq;obtain⟨k,q,hq⟩:=hq;replace hq:=ab hq;obtain⟨z',M,hq⟩:=hq;obtain⟨kk,f,d⟩:=oM q;rw[f] at c;obtain⟨nA,_⟩:=fg c;obtain⟨F,X,b,off,C,O⟩:=AJ hx;have hg:z.get [k]=some z':=by simp[D.get,M]
   obtain⟨m1,A,B,m2,m3⟩:=ki [k] F X (show aS (.arr n e) [k]=some e by cases e<;>simp[aS]) hg
   rw[m2] at O;have I:=O.part;rw[m3] at I;refine⟨_,hq,.value (v:=.pointer<|some ⟨b,off+k*e.size,none⟩) (w':=w) (by simp only[execOp,C,nA,G,ns hl d,zga,zta])<|Qp.same h (pR m1 (by simpa [aj] using X) ?_) _⟩
   have:aZ (.arr n e) [k]=k*e.size:=by cases e<;>simp[aZ]
   rwa [this] at I
 case sl e=>
  rcases V.lay T _ W with⟨ts',H⟩|hl
  ·cases H
  have a1:aj e=true:=by have:=aJ _ _ hl;simpa [aj] using this
  by_cases hm:∃ t' id,y=.mem t' id
  ·obtain⟨t',id,rfl⟩:=hm;simp only at hq;split at hq<;>first|cases hq|skip
   rename_i j;have:=ags _ _ j;subst this;split at hq<;>first|cases hq|skip
   rename_i u l g;replace hq:=ab hq;obtain⟨k,q,hq⟩:=hq;obtain⟨kk,f,d⟩:=oM q;rw[f] at c;obtain⟨nA,_⟩:=fg c;obtain⟨_,b,N,L⟩:=Kk hx;obtain⟨l',cap,e1,_,C⟩:=L _ g;cases e1;refine⟨_,hq,.value (v:=.pointer<|some ⟨b,0+k*t'.size,none⟩) (w':=w) (by simp only[execOp,C,nA,G,kz hl d,zga,zta])<|Qp.same h (gA N λo J=>?_) _⟩
   have:o=.many t' l:=by have:=g.symm.trans J;cases this;rfl
   subst this;exact⟨by cases t'<;>simp[fA,aS],by cases t'<;>simp[cC,aZ]⟩
  ·by_cases hs:∃ sl t' id p lo n,y=.sub sl t' id p lo n
   ·obtain⟨sl,t',id,p,lo,n,rfl⟩:=hs;simp only at hq;split at hq<;>first|cases hq|skip
    rename_i j;simp only[Y] at j;obtain⟨rfl,j⟩:=j;have:=ags _ _ j;subst this;replace hq:=ab hq;obtain⟨k,q,hq⟩:=hq;obtain⟨kk,f,d⟩:=oM q;rw[f] at c;obtain⟨nA,_⟩:=fg c;obtain⟨b,off,cap,C,N,g⟩:=Kl hx;refine⟨_,hq,.value (v:=.pointer<|some ⟨b,off+k*t'.size,none⟩) (w':=w) (by simp[execOp,C,nA,G,kz hl d,zga,zta])<|Qp.same h (gA N λo J=>?_) _⟩
    obtain⟨m,F,O,rfl⟩:=g o J;have:=uy (i:=lo+k) (u:=t') F (by cases t'<;>simp[aS]<;>omega)
    exact⟨this.1,by rw[this.2];cases t'<;>simp[aZ]<;>grind⟩
   have U:(y.asList s.ob e).bind (λl=>(ix.2.idx l.length).bind λk=>(l[k]?).bind λy=>K<|.fptr e y)=some r:=by cases y<;>first|exact hq|exact z8a ⟨_,_,rfl⟩ hm|exact z8a ⟨_,_,_,_,_,_,rfl⟩ hs
   obtain⟨l,h1,hq⟩:=ab U;replace hq:=ab hq;obtain⟨k,q,hq⟩:=hq;replace hq:=ab hq;obtain⟨z,M,hq⟩:=hq;obtain⟨kk,f,d⟩:=oM q;rw[f] at c;obtain⟨nA,_⟩:=fg c;obtain⟨F,O⟩:=lD a1 hx h1;obtain⟨A,cap,b,off,C,I,k4,a0⟩:=O.elems;have hA:A=some ⟨b,off,none⟩:=by
    rcases I with rfl|I
    ·simp at M
    ·exact I
   rw[cE M] at a0;have Z:=a0.part;rw[aL a1 _<|λx hx=>F x<|zUa hx,zkb,zsb<|zJc d] at Z;exact⟨_,hq,.value (v:=.pointer<|some ⟨b,off+k*e.size,none⟩) (w':=w) (by simp[execOp,C,hA,nA,G,kz hl d,zga,zta])<|Qp.same h (pR (F z<|zfb M) a1 Z) _⟩
theorem jy{T:TypeId}{t:Ty}(hl:cb P t T=true){cs:Array Value}{pre mid post:List Value}(a:cs.toList=pre++(mid++post))(hm:mid.length=t.size)(d:nag mid)(w:World) :
  ∃ v,(part T cs pre.length).run P w=.ok v w/\iF t mid v:=by
 have e:cs=(pre++(mid++post)).toArray:=by rw[<-a]
 subst e;unfold part;rw[G,HJ hl,zga];cases ha:dn t
 ·have b:mid.length=1:=by
   rw[hm];cases t<;>simp[dn] at ha<;>first|rfl|(exfalso;exact zJ hl<|.inl ⟨_,rfl⟩)
  match mid,b with
  | [c],_=>
   have f:=d c j2
   refine⟨c,?_,?_,?_,?_⟩
   ·simp
   ·cases c<;>simp_all [Value.cells,Value.oneCell']
   ·simp_all
   ·grind [Value.oneCell']
 ·refine⟨.agg mid.toArray,?_,rfl,λ_=>⟨_,rfl⟩,by rw[ha];intro h;cases h⟩
  simp[if_true,G,cp hl,zga,zta]
  simp_all
def Nu(Q:EnvOk P E)(h:Rp w0 S γ β s a w){dst T x f ty pos after guard}:j8 P E w0 S γ β s a w ⟨dst,.field T x f,ty,pos,after,guard⟩:=by
 intro R K r hq;simp only[qv] at hq;replace hq:=ab hq;obtain⟨t,W,hq⟩:=hq;have hx:=aT h x;generalize s.opA x=y at *;cases t<;>(try simp only at hq)<;>first|cases hq|skip
 rename_i ts;cases y<;>(try simp only at hq)<;>first|cases hq|skip
 rename_i t' z;split at hq<;>first|cases hq|skip
 rename_i U;have:=ags _ _ U;subst this;replace hq:=ab hq;obtain⟨u,a0,hq⟩:=hq;replace hq:=ab hq;obtain⟨q,X,hq⟩:=hq;rcases Q.lay T _ W with⟨ts',m⟩|hl
 ·cases m
 have F:=aJ _ _ hl;obtain⟨n,Y⟩:=Cs hx F;have V:z.get [f]=some q:=by simp[D.get,X]
 obtain⟨m1,A,B,m2,m3⟩:=ki [f] n F (show aS (.st ts) [f]=some u by simp[aS,a0]) V
 obtain⟨Z,H⟩:=Y;rw[m2] at H;obtain⟨o,p⟩:=H.split;obtain⟨j,I⟩:=p.split;obtain⟨J,L,M⟩:=kl hl;obtain⟨g,N,O,_,C⟩:=vQ M a0;have c:=aJ _ _ C;obtain⟨cs,b⟩:∃ cs,a.eval x=.agg cs:=by simp only[wt] at n;obtain⟨l,rfl,_⟩:=n;exact Z
 rw[b] at o p j I;simp only[Value.cells] at o p j I;obtain⟨v,e,i⟩:=jy C (cs:=cs) (pre:=cs.toList.take A.length) (mid:=(cs.toList.drop A.length).take q.flat.length) (post:=(cs.toList.drop A.length).drop q.flat.length)
  (by simp only[zza]) (by rw[<-j.1];exact cJ _ _ m1 c) j.nag w
 have d:g.offset=(cs.toList.take A.length).length:=by rw[<-o.1,m3,O];simp[aZ]
 have k:J[f]?=some g:=by simpa using N
 exact⟨_,hq,.value (v:=v) (w':=w) (by simp only[execOp,b,Instr.field,G,run_underlying L,zga,k,asAgg,zta,d,e])<|Qp.same h (yV (bW _ _) (by simp[AC];exact⟨m1,c,j⟩) i) _⟩
theorem Nv(W:EnvOk P E)(h:Rp w0 S γ β s a w){dst T x i ty pos after guard}:j8 P E w0 S γ β s a w ⟨dst,.index T x i,ty,pos,after,guard⟩:=by
 intro R K r hq;simp only[qv] at hq;replace hq:=ab hq;obtain⟨t,a0,hq⟩:=hq;replace hq:=ab hq;obtain⟨ix,L,hq⟩:=hq;have hi:=eS L;have b:=aT h i;rw[hi] at b;have hx:=aT h x;generalize s.opA x=y at *;cases t<;>(try simp only at hq)<;>first|cases hq|skip
 case str=>
  cases y<;>(try simp only at hq)<;>first|cases hq|skip
  rename_i t' z;split at hq<;>first|cases hq|skip
  rename_i I;have:=ags _ _ I;subst this;replace hq:=ab hq;obtain⟨a1,C,hq⟩:=hq;rcases W.lay T _ a0 with⟨ts',d⟩|hl
  ·cases d
  obtain⟨f,Q⟩:=Cs hx rfl;simp only[wt] at f;obtain⟨sb,rfl⟩:=f;obtain⟨kt,kx⟩:=ix;cases kx<;>(try simp only[afO] at C)<;>first|cases C|skip
  rename_i k n;obtain⟨bb,J,g⟩:=ab C;simp only[zda] at g;subst g;obtain⟨nA,_⟩:=fg b;have O:a.eval x=.string sb:=by obtain⟨c1,c2⟩:=Q;obtain⟨c,e,h⟩:=c7.single' c2;have:=ak c1 e;rw[this];cases h;rfl
  have hu:P.underlying T=some .string:=by simp only[cb,Y] at hl;all_goals grind
  exact⟨_,hq,.value (v:=.int .u8 bb.toNat) (w':=w) (by simp only[execOp,O,nA,Instr.index,asIntOf,pure_bind,G,run_underlying hu,zga,J,zta])<|Qp.same h (cP _ _) _⟩
 rename_i n e;cases y<;>(try simp only at hq)<;>first|cases hq|skip
 rename_i t' z;split at hq<;>first|cases hq|skip
 rename_i I;have:=ags _ _ I;subst this;replace hq:=ab hq;obtain⟨k,hk,hq⟩:=hq;replace hq:=ab hq;obtain⟨a1,C,hq⟩:=hq;obtain⟨kk,N,ad⟩:=oM hk;rw[N] at b;obtain⟨nA,_⟩:=fg b;rcases W.lay T _ a0 with⟨ts',d⟩|hl
 ·cases d
 have X:=aJ _ _ hl;obtain⟨f,Q⟩:=Cs hx X;have hg:z.get [k]=some a1:=by simp[D.get,C]
 obtain⟨m1,A,B,m2,m3⟩:=ki [k] f X (show aS (.arr n e) [k]=some e by cases e<;>simp[aS]) hg
 obtain⟨k3,Z⟩:=Q;rw[m2] at Z;obtain⟨U,V⟩:=Z.split;obtain⟨F,k8⟩:=V.split;obtain⟨u,h1,H⟩:=fm hl;have m:=aJ _ _ H;obtain⟨cs,j⟩:∃ cs,a.eval x=.agg cs:=by simp only[wt] at f;obtain⟨l,rfl,_⟩:=f;exact k3
 rw[j] at U V F k8;simp only[Value.cells] at U V F k8;obtain⟨v,p,q⟩:=jy H (cs:=cs) (pre:=cs.toList.take A.length) (mid:=(cs.toList.drop A.length).take a1.flat.length) (post:=(cs.toList.drop A.length).drop a1.flat.length)
  (by simp only[zza]) (by rw[<-F.1];exact cJ _ _ m1 m) F.nag w
 have o:k*e.size=(cs.toList.take A.length).length:=by rw[<-U.1,m3];cases e<;>simp[aZ]
 have M:(0:Int)<=(k:Int)/\(k:Int)<(n:Int):=u0
 exact⟨_,hq,.value (v:=v) (w':=w) (by simp only[execOp,j,nA,Instr.index,asIntOf,pure_bind,G,run_underlying h1,zga,M,and_self,if_true,cp H,z7c,o,p,zta])<|Qp.same h (yV (bW _ _) (by simp[AC];exact⟨m1,m,F⟩) q) _⟩
end
end
def Hh:BinOp->Bool
 | .eql|.neq|.lss|.leq|.gtr|.geq=>true
 | _=>false
section
variable{P:Program}{E:Env}{w0:Root}{S:Nat->Nat->Prop}{γ:Nat->Option Nat}{β:Nat->Option (Nat×Nat)}{s:St}{a:Act}{w:World}
def OU{op:BinOp}{k k':IntKind}{x y:Int}{z:D}(T:TypeId)(w:World)(h:afA op (.int k x) (.int k' y)=some z) :
  (Hh op=true/\∃ c,z=.bool c/\(binOp op T (.int k x)<|.int k' y).run P w=.ok (.bool c) w)\/(Hh op=false/\∃ n,z=.int k n/\(binOp op T (.int k x)<|.int k' y).run P w=.ok (.int k n) w):=by
 cases op<;>simp only[afA,afB] at h
 case shl=>
     split at h<;>try(cases h;done)
     rename_i a;simp[zda] at h;exact .inr ⟨rfl,_,h.symm,by simp[binOp,Op.shift,a]⟩
 case shr=>
     split at h<;>try(cases h;done)
     rename_i a;simp[zda] at h;exact .inr ⟨rfl,_,h.symm,by simp[binOp,Op.shift,a]⟩
 case quo=>
  split at h<;>try(cases h;done)
  rename_i b;subst b;split at h<;>try(cases h;done)
  rename_i a;simp[zda] at h;exact .inr ⟨rfl,_,h.symm,by simp[binOp,Op.intDiv,a]⟩
 case rem=>
  split at h<;>try(cases h;done)
  rename_i b;subst b;split at h<;>try(cases h;done)
  rename_i a;simp[zda] at h;exact .inr ⟨rfl,_,h.symm,by simp[binOp,Op.intDiv,a]⟩
 all_goals (split at h<;>try(cases h;done))
 all_goals (rename_i b;subst b)
 all_goals (simp only[zda] at h)
 all_goals first
  | (refine .inl ⟨rfl,_,h.symm,?_⟩;simp[binOp,Op.intCmp];done)
  | (refine .inr ⟨rfl,_,h.symm,?_⟩;simp[binOp,Op.intArith];done)
  | (refine .inr ⟨rfl,_,h.symm,?_⟩;simp only[binOp,ne_eq,not_true_eq_false,if_false];rfl)
def gj(op:BinOp)(T:TypeId)(x y:Operand)(k k':IntKind)(u v:Int)(w:World):(eqGuard op T x y (.int k u)<|.int k' v).run P w=.ok () w:=by cases op<;>simp[eqGuard]
def lX(op:BinOp)(T:TypeId)(x y:Operand)(u v:Bool)(w:World):(eqGuard op T x y (.bool u)<|.bool v).run P w=.ok () w:=by cases op<;>simp[eqGuard]
def fW{t:Ty}{c v:Value}(h:iF t [c] v)(a:dn t=false):v=c:=ak (h.2.2 a) h.1
def jZ{t:Ty}{cs:List Value}{v:Value}(h:iF t cs v)(a:dn t=true):v=.agg cs.toArray:=by obtain⟨xs,rfl⟩:=h.2.1 a;have:=h.1;simp[Value.cells] at this;rw[<-this]
theorem CB:∀ (n:Nat) {l l':List D},l.length=n->l'.length=n->D.beqs l l'=(List.range n).all λj=>D.beq (l.getD j<|.bool false) (l'.getD j<|.bool false)
 | 0,[],[],_,_=>rfl
 | n+1,x::l,y::l',h,a=>by
  simp[D.beqs,zvd,zOb,List.all_map];rw[CB n (by simpa using h) (by simpa using a)]
  rfl
mutual
theorem sj:∀ (ty:Ty) (T:TypeId) (x y:D) (cx cy:List Value) (vx vy:Value) (d:Nat),cb P ty T=true->bS ty=true->ty.high<=d->wt ty x->wt ty y->c7 w S x.flat cx->c7 w S y.flat cy->iF ty cx vx->iF ty cy vy ->
  ∀ w',(Op.equalIn d T vx vy).run P w'=.ok (D.beq x y) w'
 | .int k,T,x,y,cx,cy,vx,vy,d,hl,_,hd,hx,hy,rx,ry,ix,iy,w'=>by
  simp only[wt] at hx hy;obtain⟨n,rfl⟩:=hx;obtain⟨m,rfl⟩:=hy;obtain⟨c1,rfl,r1⟩:=rx.single';obtain⟨c2,rfl,r2⟩:=ry.single';rw[fW ix rfl,fW iy rfl,r1.int_inv,r2.int_inv];obtain⟨d,rfl⟩:∃ e,d=e+1:=⟨d-1,by simp only[Ty.high] at hd;omega⟩
  rw[run_equalIn_int w' d T k k n m<|k9 hl];simp only[D.beq,decide_true,zPb];rfl
 | .bool,T,x,y,cx,cy,vx,vy,d,hl,_,hd,hx,hy,rx,ry,ix,iy,w'=>by
  simp only[wt] at hx hy;obtain⟨n,rfl⟩:=hx;obtain⟨m,rfl⟩:=hy;obtain⟨c1,rfl,r1⟩:=rx.single';obtain⟨c2,rfl,r2⟩:=ry.single';rw[fW ix rfl,fW iy rfl,r1.bool_inv,r2.bool_inv];obtain⟨d,rfl⟩:∃ e,d=e+1:=⟨d-1,by simp only[Ty.high] at hd;omega⟩
  have hu:P.underlying T=some .bool:=by simp only[cb,Y] at hl;all_goals grind
  rw[run_equalIn_bool' w' d T n m hu];rfl
 | .st ts,T,x,y,cx,cy,vx,vy,d,hl,hc,hd,hx,hy,rx,ry,ix,iy,w'=>by
  simp only[wt] at hx hy;obtain⟨l,rfl,hx⟩:=hx;obtain⟨l',rfl,hy⟩:=hy;rw[jZ ix rfl,jZ iy rfl];obtain⟨fs,h1,h2⟩:=kl hl;have h3:P.fieldsOf T=fs:=by simp[Program.fieldsOf,h1]
  have h4:P.stoodInHeld T=false:=by simp_all [cb,Y,zCa]
  simp only[Ty.high] at hd;obtain⟨d,rfl⟩:∃ e,d=e+1:=⟨d-1,u0⟩
  rw[run_equalIn_struct w' d T _ _ (by rw[h3];exact h1) h4,h3]
  simp only[bS] at hc;simp only[D.beq];simp only[D.flat] at rx ry;exact uT ts fs.toList 0 l l' [] cx [] cy _ _ d h2 hc u0 hx hy rx ry rfl rfl rfl rfl w'
 | .arr n t,T,x,y,cx,cy,vx,vy,d,hl,hc,hd,hx,hy,rx,ry,ix,iy,w'=>by
  simp only[wt] at hx hy;obtain⟨l,rfl,hxl,hx⟩:=hx;obtain⟨l',rfl,hyl,hy⟩:=hy;rw[jZ ix rfl,jZ iy rfl];obtain⟨u,h1,h2⟩:=fm hl;obtain⟨i,z,h3,h4,_⟩:=fH<|gJ h2;simp only[Ty.high] at hd;obtain⟨d,rfl⟩:∃ e,d=e+1:=⟨d-1,u0⟩
  rw[run_equalIn_array w' d _ _ h1 h3];simp only[bS] at hc;simp only[D.beq];simp only[D.flat] at rx ry;have hcell:P.cellsOf u=t.size:=by simp[Program.cellsOf,h3,h4]
  have hn:=aJ _ _ h2;rw[CB n hxl hyl];have key:∀ (is:List Nat) (w':World),(∀ j∈is,j<n)->(Op.eqItems d u (P.cellsOf u) cx.toArray cy.toArray is).run P w'=.ok (is.all λj=>D.beq (l.getD j<|.bool false)<|l'.getD j<|.bool false) w':=by
   intro is
   induction is with
   | nil=>intro w' _;simp[Op.eqItems]
   | cons j is ih=>
    intro w' hj;have hjn:=hj j j2
    have e1:l[j]?=some (l.getD j<|.bool false):=by simp_all
    have e2:l'[j]?=some (l'.getD j<|.bool false):=by simp_all
    generalize l.getD j (.bool false)=dx at *;generalize l'.getD j (.bool false)=dy at *;have wx:=hx dx<|zfb e1;have R:=hy dy<|zfb e2;have rx':=rx;have ry':=ry;rw[cE e1] at rx';rw[cE e2] at ry';obtain⟨p1,p2⟩:=rx'.split;obtain⟨p3,p4⟩:=p2.split;obtain⟨q1,q2⟩:=ry'.split;obtain⟨q3,q4⟩:=q2.split;have o1:(cx.take (N<|l.take j).length).length=j*t.size:=by rw[<-p1.1,aL hn _<|λx hx'=>hx x<|zUa hx',zkb,zsb u0]
    have o2:(cy.take (N<|l'.take j).length).length=j*t.size:=by rw[<-q1.1,aL hn _<|λx hx'=>hy x<|zUa hx',zkb,zsb u0]
    obtain⟨v1,r1,i1⟩:=jy h2 (cs:=cx.toArray) (pre:=cx.take (N<|l.take j).length) (mid:=(cx.drop (N<|l.take j).length).take dx.flat.length) (post:=(cx.drop (N<|l.take j).length).drop dx.flat.length)
     (by simp only[zza]) (by rw[<-p3.1];exact cJ _ _ wx hn) p3.nag w'
    obtain⟨v2,r2,i2⟩:=jy h2 (cs:=cy.toArray) (pre:=cy.take (N<|l'.take j).length) (mid:=(cy.drop (N<|l'.take j).length).take dy.flat.length) (post:=(cy.drop (N<|l'.take j).length).drop dy.flat.length)
     (by simp only[zza]) (by rw[<-q3.1];exact cJ _ _ R hn) q3.nag w'
    rw[o1,<-hcell] at r1;rw[o2,<-hcell] at r2;have r3:=sj t u dx dy _ _ v1 v2 d h2 hc u0 wx R p3 q3 i1 i2 w'
    simp only[Op.eqItems,G,r1,r2,r3,zga,zOb];have e1':l[j]?.getD (.bool false)=dx:=by rw[e1];rfl
    have e2':l'[j]?.getD (.bool false)=dy:=by rw[e2];rfl
    have ih':=ih w'<|λk hk=>hj k (by simp[hk])
    simp only[List.getD,e1',e2'];cases D.beq dx dy
    ·simp
    ·simpa [List.getD] using ih'
  exact key _ w' (λj hj=>by simpa using hj)
 | .str,_,_,_,_,_,_,_,_,_,hc,_,_,_,_,_,_,_,_=>by simp[bS] at hc
 | .sl _,_,_,_,_,_,_,_,_,_,hc,_,_,_,_,_,_,_,_=>by simp[bS] at hc
 | .tup _,_,_,_,_,_,_,_,_,_,hc,_,_,_,_,_,_,_,_=>by simp[bS] at hc
 | .fn,_,_,_,_,_,_,_,_,_,hc,_,_,_,_,_,_,_,_=>by simp[bS] at hc
theorem uT:∀ (ts:List Ty) (fs:List Field) (off:Nat) (l l':List D) (px cx py cy:List Value) (xs ys:Array Value) (d:Nat),gS P ts fs off=true->nL ts=true->agu ts<=d->fq ts l->fq ts l'->c7 w S (N l) cx->c7 w S (N l') cy ->
  xs.toList=px++cx->px.length=off->ys.toList=py++cy->py.length=off->∀ w',(Op.eqFields d xs ys fs).run P w'=.ok (D.beqs l l') w'
 | [],fs,off,l,l',px,cx,py,cy,xs,ys,d,hf,_,_,hx,hy,_,_,_,_,_,_,w'=>by
  simp[fq] at hx hy;subst hx;subst hy;cases fs with
  | nil=>simp[Op.eqFields,D.beqs]
  | cons f fs=>simp[gS] at hf
 | t::ts,[],off,l,l',px,cx,py,cy,xs,ys,d,hf,_,_,hx,hy,_,_,_,_,_,_,w'=>by simp[gS] at hf
 | t::ts,f::fs,off,l,l',px,cx,py,cy,xs,ys,d,hf,hc,hd,hx,hy,rx,ry,ex,lx,ey,ly,w'=>by
  simp[gS,Y,zea] at hf;obtain⟨⟨⟨⟨h1,h2⟩,h3⟩,h4⟩,h5⟩:=hf;simp[fq] at hx hy;obtain⟨dx,l,rfl,hx1,hx2⟩:=hx;obtain⟨dy,l',rfl,hy1,hy2⟩:=hy;simp[N] at rx ry;obtain⟨p3,p4⟩:=rx.split;obtain⟨q3,q4⟩:=ry.split;have hn:=aJ _ _ h4;simp[nL,Y] at hc;simp[agu] at hd;obtain⟨v1,r1,i1⟩:=jy h4 (cs:=xs) (pre:=px) (mid:=cx.take dx.flat.length) (post:=cx.drop dx.flat.length) (by rw[ex,zza]) (by rw[<-p3.1];exact cJ _ _ hx1 hn) p3.nag w'
  obtain⟨v2,r2,i2⟩:=jy h4 (cs:=ys) (pre:=py) (mid:=cy.take dy.flat.length) (post:=cy.drop dy.flat.length) (by rw[ey,zza]) (by rw[<-q3.1];exact cJ _ _ hy1 hn) q3.nag w'
  rw[lx,<-h1] at r1;rw[ly,<-h1] at r2;have r3:=sj t f.type dx dy _ _ v1 v2 d h4 hc.1 u0 hx1 hy1 p3 q3 i1 i2 w'
  have hs1:(cx.take dx.flat.length).length=t.size:=by rw[<-p3.1];exact cJ _ _ hx1 hn
  have hs2:(cy.take dy.flat.length).length=t.size:=by rw[<-q3.1];exact cJ _ _ hy1 hn
  have ih:=uT ts fs (off+t.size) l l' (px++cx.take dx.flat.length) (cx.drop dx.flat.length) (py++cy.take dy.flat.length) (cy.drop dy.flat.length) xs ys d h5 hc.2 u0 hx2 hy2 p4 q4
   (by rw[zPa,zza];exact ex) (by rw[zFa,lx,hs1]) (by rw[zPa,zza];exact ey) (by rw[zFa,ly,hs2]) w'
  simp[Op.eqFields,h2,ne_eq,not_false_eq_true,if_true,G,r1,r2,r3,zga,D.beqs];cases D.beq dx dy
  ·simp
  ·simpa using ih
end
def Nr(Q:EnvOk P E)(h:Rp w0 S γ β s a w){j op T x y T' ty pos after guard}:j8 P E w0 S γ β s a w ⟨j,.binOp op T x y T',ty,pos,after,guard⟩:=by
 intro R K r hq;simp only[qv] at hq;replace hq:=ab hq;obtain⟨t,U,hq⟩:=hq;replace hq:=ab hq;obtain⟨u,V,hq⟩:=hq;replace hq:=ab hq;obtain⟨v,W,hq⟩:=hq;have hx:=aT h x;have p:=aT h y;rw[eS V] at hx;rw[eS W] at p;have F:∀ (L:Bool),(u.1.beq t&&v.1.beq t&&bS t)=true->∀ (o:BinOp),(o=.eql/\L=false)\/(o=.neq/\L=true) ->
   (execOp a.eval ⟨j,.binOp o T x y T',ty,pos,after,guard⟩).run P w=.ok (.value<|.bool<|xor L<|D.beq u.2 v.2) w:=by
  intro L A o J;simp only[Y] at A;obtain⟨⟨i,l⟩,q⟩:=A;have e1:=ags _ _ i;have e2:=ags _ _ l;rw[e1] at hx;rw[e2] at p;have hl:cb P t T=true:=by
   rcases Q.lay T _ U with⟨ts',rfl⟩|hl
   ·simp[bS] at q
   ·exact hl
  have I:=aJ _ _ hl;obtain⟨B,C⟩:=Cs hx I;obtain⟨m1,m2⟩:=Cs p I;have a0:=Q.high T _ U;have i1:iF t (a.eval x).cells.toList (a.eval x):=⟨rfl,rF B I C.1⟩;have O:iF t (a.eval y).cells.toList (a.eval y):=⟨rfl,rF m1 I m2.1⟩;have b:=sj t T u.2 v.2 _ _ _ _ 10000 hl q u0 B m1 C.2 m2.2 i1 O w
  cases t<;>simp only[bS] at q<;>first|cases q|skip
  case int k=>
   simp only[wt] at B m1;obtain⟨n,e3⟩:=B;obtain⟨m,e4⟩:=m1;rw[e3] at C hx ⊢;rw[e4] at m2 p ⊢;have v1:=C.int_inv;have g:=m2.int_inv;rcases J with⟨rfl,rfl⟩|⟨rfl,rfl⟩
   ·simp only[execOp,v1,g,G,gj,zga];simp[binOp,Op.intCmp,D.beq];rfl
   ·simp only[execOp,v1,g,G,gj,zga];simp[binOp,Op.intCmp,D.beq];rfl
  case bool=>
   simp only[wt] at B m1;obtain⟨n,e3⟩:=B;obtain⟨m,e4⟩:=m1;rw[e3] at C hx b ⊢;rw[e4] at m2 p b ⊢;have v1:=C.bool_inv;have g:=m2.bool_inv;rw[v1,g] at b;rcases J with⟨rfl,rfl⟩|⟨rfl,rfl⟩
   ·simp only[execOp,v1,g,G,lX,zga,binOp,Op.equal,Op.maxDepth,b,zta,zJd]
   ·simp only[execOp,v1,g,G,lX,zga,binOp,Op.equal,Op.maxDepth,b,zta,Bool.true_xor]
  case st ts=>
   obtain⟨xs,e3⟩:=i1.2.1 rfl;obtain⟨H,e4⟩:=O.2.1 rfl;have a1:P.eqGuardType P.depth T=false:=by simp only[cb,Y,zCa] at hl;exact hl.1.2
   rw[e3,e4] at b;rcases J with⟨rfl,rfl⟩|⟨rfl,rfl⟩
   ·simp only[execOp,e3,e4,G,run_eqGuard_agg w _ T x y xs H a1,zga,binOp,Op.equal,Op.maxDepth,b,zta,zJd]
   ·simp only[execOp,e3,e4,G,run_eqGuard_agg w _ T x y xs H a1,zga,binOp,Op.equal,Op.maxDepth,b,zta,Bool.true_xor]
  case arr n e=>
   obtain⟨xs,e3⟩:=i1.2.1 rfl;obtain⟨H,e4⟩:=O.2.1 rfl;have a1:P.eqGuardType P.depth T=false:=by simp only[cb,Y,zCa] at hl;exact hl.1.2
   rw[e3,e4] at b;rcases J with⟨rfl,rfl⟩|⟨rfl,rfl⟩
   ·simp only[execOp,e3,e4,G,run_eqGuard_agg w _ T x y xs H a1,zga,binOp,Op.equal,Op.maxDepth,b,zta,zJd]
   ·simp only[execOp,e3,e4,G,run_eqGuard_agg w _ T x y xs H a1,zga,binOp,Op.equal,Op.maxDepth,b,zta,Bool.true_xor]
 have ints:∀ {z:D} {o:BinOp},afA o u.2 v.2=some z->∃ k k' n m,u.2=.int k n/\v.2=.int k' m:=by
  intro z o f;cases N:u.2<;>rw[N] at f<;>cases hv2:v.2<;>rw[hv2] at f<;>simp only[afA] at f<;>first|cases f|skip
  exact⟨_,_,_,_,rfl,rfl⟩
 have main:∀ (o:BinOp) {z:D},afA o u.2 v.2=some z->∃ M,(execOp a.eval ⟨j,.binOp o T x y T',ty,pos,after,guard⟩).run P w=.ok (.value M) w ∧
   ((Hh o=true->AR ⟨w,S,γ,β,s.ob,s.dead⟩ (.d .bool z) M)/\(Hh o=false->AR ⟨w,S,γ,β,s.ob,s.dead⟩ (.d u.1 z) M)):=by
  intro o z f;obtain⟨k,k',n,m,e1,e2⟩:=ints f;rw[e1,e2] at f;rw[e1] at hx;rw[e2] at p;obtain⟨v1,X⟩:=fg hx;obtain⟨g,_⟩:=fg p;rcases OU (P:=P) T w f with⟨i,c,rfl,l⟩|⟨i,c,rfl,l⟩
  ·refine⟨.bool c,by simp only[execOp,v1,g,G,gj,zga,l,zta],λ_=>iH c,λh=>by rw[i] at h;cases h⟩
  ·refine⟨.int k c,by simp only[execOp,v1,g,G,gj,zga,l,zta],(λh=>by rw[i] at h;cases h),λ_=>by rw[X];exact cP k c⟩
 cases op<;>simp only at hq
 case eql=>
  split at hq<;>first|cases hq|skip
  rename_i A;exact⟨_,hq,.value (F false A .eql<|.inl ⟨rfl,rfl⟩)<|Qp.same h (by simp only[zJd];exact iH _) _⟩
 case neq=>
  split at hq<;>first|cases hq|skip
  rename_i A;exact⟨_,hq,.value (F true A .neq<|.inr ⟨rfl,rfl⟩)<|Qp.same h (by simp only[Bool.true_xor];exact iH _) _⟩
 all_goals
  replace hq:=ab hq;obtain⟨z,f,hq⟩:=hq;obtain⟨M,i,l,q⟩:=main _ f;first
   | exact⟨_,hq,.value i (Qp.same h (l rfl) _)⟩
   | exact⟨_,hq,.value i (Qp.same h (q rfl) _)⟩
def Qb(h:Rp w0 S γ β s a w){dst op T x ty pos after guard}:j8 P E w0 S γ β s a w ⟨dst,.unOp op T x,ty,pos,after,guard⟩:=by
 intro R K r hq;simp[qv] at hq;replace hq:=ab hq;obtain⟨u,j,hq⟩:=hq;replace hq:=ab hq;obtain⟨z,d,hq⟩:=hq;have hx:=aT h x;rw[eS j] at hx;cases hu2:u.2<;>rw[hu2] at d hx<;>simp only[afP] at d<;>first|cases d|skip
 case int k n=>
  obtain⟨v1,f⟩:=fg hx;cases op<;>simp only[afB] at d<;>first|cases d|skip
  ·exact⟨_,hq,.value (v:=.int k<|k.wrap<|0-n) (w':=w) (by simp[execOp,v1,Op.unary,Op.intArith])<|Qp.same h (by rw[f];exact cP _ _) _⟩
  ·exact⟨_,hq,.value (v:=.int k<|k.wrap (BitVec.ofInt k.bits (if k.signed then -1 else k.max) ^^^ BitVec.ofInt k.bits n).toNat) (w':=w) (by simp[execOp,v1,Op.unary,Op.intBits])<|Qp.same h (by rw[f];exact cP _ _) _⟩
 case bool b=>
  have v1:=GP hx;cases op<;>simp only at d<;>first|cases d|skip
  have i:u.1=.bool:=by
   simp[AR] at hx;rcases hx with⟨_,c,_⟩|⟨ts,g,_,c,_⟩
   ·cases hu1:u.1<;>rw[hu1] at c<;>simp[wt] at c<;>first
     | rfl
     | (obtain⟨m,e⟩:=c;cases e;done)
     | (obtain⟨m,e,_⟩:=c;cases e;done)
     | (exfalso;exact c)
   ·rw[g] at c;simp only[wt] at c;obtain⟨l,e,_⟩:=c;cases e
  exact⟨_,hq,.value (v:=.bool<|!b) (w':=w) (by simp[execOp,v1,Op.unary])<|Qp.same h (by rw[i];exact iH _) _⟩
def Gb(g:EnvOk P E)(h:Rp w0 S γ β s a w){dst U T x ty pos after guard}:j8 P E w0 S γ β s a w ⟨dst,.convert U T x,ty,pos,after,guard⟩:=by
 intro R K r hq;simp[qv] at hq;replace hq:=ab hq;obtain⟨u,i,hq⟩:=hq;replace hq:=ab hq;obtain⟨t,l,hq⟩:=hq;replace hq:=ab hq;obtain⟨b,j,hq⟩:=hq;have hx:=aT h x;rw[eS j] at hx;cases t<;>(try simp only at hq)<;>first|cases hq|skip
 rename_i k;split at hq<;>first|cases hq|skip
 rename_i d;replace hq:=ab hq;obtain⟨z,f,hq⟩:=hq;cases hb2:b.2<;>rw[hb2] at f hx<;>simp[D.conv] at f<;>first|cases f|skip
 rename_i k' n;obtain⟨v1,m⟩:=fg hx;have e1:=ags _ _ d;rw[m] at e1;rw[<-e1] at i;rcases g.lay T _ l with⟨ts',c⟩|hl
 ·cases c
 rcases g.lay U _ i with⟨ts',c⟩|e
 ·cases c
 exact⟨_,hq,.value (v:=.int k<|k.wrap n) (w':=w) (by simp[execOp,convert,v1,run_underlying<|k9 hl,run_underlying<|k9 e,Conv.intToInt])<|Qp.same h (cP _ _) _⟩
end
def jA(pre mid post cs:List Value)(h:mid.length=cs.length):fk (pre++(mid++post)).toArray pre.length cs.toArray=(pre++(cs++post)).toArray:=by unfold fk;apply zkc;simp[h];rw[zvb u0]
theorem rG:∀ {c:List D} {a b:List Value},de c a=true->de c b=true->a=b
 | [],[],[],_,_=>rfl
 | [],_::_,_,h,_=>by simp[de] at h
 | [],[],_::_,_,h=>by simp[de] at h
 | _::_,[],_,h,_=>by simp[de] at h
 | _::_,_::_,[],_,h=>by simp[de] at h
 | d::c,v1::a,f::b,q1,e=>by
  simp[de,Y] at q1 e;rw[rG q1.2 e.2];congr 1;have a1:=q1.1;have a2:=e.1;cases d<;>cases v1<;>simp[IV] at a1<;>try(cases a1;done)
  all_goals (cases f<;>simp[IV] at a2<;>try(cases a2;done))
  all_goals simp_all
section
variable{w:World}{S:Nat->Nat->Prop}
def PV(w:World)(S:Nat->Nat->Prop)(ty:Nat->Option Ty):List (Nat×D)->List (Nat×Value)->Prop
 | [],[]=>True
 | (i,x)::ps,(j,v)::vs=>i=j/\(∃ t,ty i=some t/\wt t x/\aj t=true/\ge w S x v)/\PV w S ty ps vs
 | _,_=>False
theorem vO{place:Nat->Option (Nat×Nat)}{ty:Nat->Option Ty}{off:Nat->Nat}{Good:List D->Prop}
  (d:∀ l i t z,Good l->ty i=some t->wt t z->Good (l.set i z))
  (c:∀ l i t,Good l->ty i=some t->∃ y,l[i]?=some y/\wt t y/\(N<|l.take i).length=off i)
  (a:∀ i t,ty i=some t->place i=some (off i,t.size)) :
  ∀ (ps:List<|Nat×D) (vs:List<|Nat×Value) (l:List D) (cs:List Value),Good l->c7 w S (N l) cs->PV w S ty ps vs ->
   ∃ b:List Value,nh place cs.toArray vs=some b.toArray/\Good (afN l ps)/\c7 w S (N<|afN l ps) b
 | [],[],l,cs,g,f,_=>⟨cs,rfl,g,f⟩
 | [],_::_,_,_,_,_,h=>by simp[PV] at h
 | _::_,[],_,_,_,_,h=>by simp[PV] at h
 | (i,x)::ps,(j,v)::vs,l,cs,g,f,h=>by
  simp only[PV] at h;obtain⟨rfl,⟨t,k,o,p,q⟩,C⟩:=h;obtain⟨y,r,E,F⟩:=c l i t g k;rw[cE r] at f;obtain⟨n,u⟩:=f.split;obtain⟨A,B⟩:=u.split;have e:cs=cs.take (N<|l.take i).length++((cs.drop (N<|l.take i).length).take y.flat.length++(cs.drop (N<|l.take i).length).drop y.flat.length):=by simp only[zza]
  have l1:(cs.take (N<|l.take i).length).length=off i:=by rw[<-n.1,F]
  have G:((cs.drop (N<|l.take i).length).take y.flat.length).length=t.size:=by rw[<-A.1];exact cJ _ _ E p
  have s:v.cells.toList.length=t.size:=by rw[<-q.2.1];exact cJ _ _ o p
  have m:c7 w S (N<|l.set i x) (cs.take (N<|l.take i).length++(v.cells.toList++(cs.drop (N<|l.take i).length).drop y.flat.length)):=by rw[oK r];exact n.append<|q.2.append B
  obtain⟨b,m1,m2,H⟩:=vO d c a ps vs (l.set i x) _ (d l i t x g k o) m C;refine⟨b,?_,m2,H⟩;rw[xc (a i t k) (by rw[<-zFb];exact s) (by rw[<-l1];have:=zEa List.length e;simp only[zFa] at this;simp only[zPc];omega),<-m1]
  congr 1
  conv=>lhs;rw[e]
  have:=jA (cs.take (N<|l.take i).length) ((cs.drop (N<|l.take i).length).take y.flat.length) ((cs.drop (N<|l.take i).length).drop y.flat.length) v.cells.toList (by rw[G,s])
  rw[l1] at this;simpa using this
end
section
variable{P:Program}{E:Env}{w0:Root}{S:Nat->Nat->Prop}{γ:Nat->Option Nat}{β:Nat->Option (Nat×Nat)}{s:St}{a:Act}{w:World}
theorem oQ(h:Rp w0 S γ β s a w){ty:Nat->Option Ty}(b:∀ i t,ty i=some t->aj t=true):∀ (ps:List<|Nat×Operand) (l:List<|Nat×D),partsD s.ob s ty ps=some l->PV w S ty l (ps.map λp=>(p.1,a.eval p.2))
 | [],l,hp=>by simp_all [partsD,zda,PV]
 | (i,x)::ps,l,hp=>by simp[partsD] at hp;replace hp:=ab hp;obtain⟨t,c,hp⟩:=hp;replace hp:=ab hp;obtain⟨y,e,hp⟩:=hp;replace hp:=ab hp;obtain⟨j,d,hp⟩:=hp;simp[zda] at hp;subst hp;obtain⟨f,g⟩:=pS (b i t c) (aT h x) e;simp only[z4a,PV];exact⟨trivial,⟨t,c,f,b i t c,g⟩,oQ h b ps j d⟩
def kJ{t:Ty}{T:TypeId}(hl:cb P t T=true):∃ z,(∀ w,(zeroValue T).run P w=.ok z w)/\de (aw t).flat z.cells.toList=true/\((∃ cs,z=.agg cs)↔dn t=true):=by
 obtain⟨i,z,a,b,c,d,e,f⟩:=fH<|gJ hl
 simp_all [zeroValue,typeInfo]
theorem xX:∀ {ts:List Ty} {a:List Field} {off:Nat} (w:World),gS P ts a off=true ->
  ((a.mapM λf=>do pure (f.offset,<-sizeOf f.type):Sem<|List<|Nat×Nat).run P w=.ok (a.zipWith (λf t=>(f.offset,Ty.size t)) ts) w)
 | [],[],_,w,_=>rfl
 | [],_::_,_,_,h=>by simp[gS] at h
 | _::_,[],_,_,h=>by simp[gS] at h
 | t::ts,f::a,off,w,h=>by simp only[gS,Y,zea] at h;obtain⟨⟨⟨⟨d,e⟩,g⟩,b⟩,c⟩:=h;simp only[zVc,G,cp b,zga,zta,xX w c,List.zipWith_cons_cons]
def Jy:∀ {ts:List Ty} {a:List Field} {off i:Nat} {t:Ty},gS P ts a off=true->ts[i]?=some t->(a.zipWith (λf t=>(f.offset,Ty.size t)) ts)[i]?=some (off+agv (ts.take i),t.size)
 | ts,a,off,i,t,h,hi=>by obtain⟨f,b,c,_⟩:=vQ h hi;grind
def s9{T:TypeId}{ts:List Ty}(hl:cb P (.st ts) T=true)(vs:Array<|Nat×Value)(w:World){r:List Value}
  (g:∀ z:Value,de (aw<|.st ts).flat z.cells.toList=true->nh (λi=>if i<ts.length then some (agv<|ts.take i,(ts.getD i .bool).size) else none) z.cells vs.toList=some r.toArray) :
  (Instr.build T vs).run P w=.ok (.agg r.toArray) w:=by
 obtain⟨a,e,c⟩:=kl hl;obtain⟨z,j,b,_⟩:=kJ hl;have d:(a.toList.zipWith (λf t=>(f.offset,Ty.size t)) ts).length=ts.length:=by
  have:∀ {ts:List Ty} {a:List Field} {off:Nat},gS P ts a off=true->a.length=ts.length:=by
   intro ts
   induction ts with
   | nil=>intro a off h;cases a<;>simp[gS] at h ⊢
   | cons t ts ih=>intro a off h;cases a with
    | nil=>simp[gS] at h
    | cons f a=>simp only[gS,Y] at h;simp[ih h.2]
  grind
 have hp:(λi=>(a.toList.zipWith (λf t=>(f.offset,Ty.size t)) ts).toArray[i]?)=λi=>if i<ts.length then some (agv<|ts.take i,(ts.getD i .bool).size) else none:=by
  funext i;by_cases hi:i<ts.length
  ·have:=Jy (i:=i) c<|zca hi
   simp_all
  ·simp_all
 have hm:(a.mapM λf=>(do pure (f.offset,<-sizeOf f.type):Sem<|Nat×Nat)).run P w=.ok (a.toList.zipWith (λf t=>(f.offset,Ty.size t)) ts).toArray w:=by rw[<-zac (xs:=a),List.mapM_toArray];simp only[Sem.run_map,xX w c,zga]
 simp only[Instr.build,G,j,zga,run_underlying e,hm,hp,so,g z b,zta]
def ni(n:Nat)(x:D):N (List.replicate n x)=(List.replicate n x.flat).flatten:=by
 induction n with
 | zero=>rfl
 | succ n ih=>simp[List.replicate_succ,N,ih,List.flatten_cons]
def QT(c:Cx)(ts:List Ty):List (Nat×AV)->List (Nat×Value)->Prop
 | [],[]=>True
 | (i,x)::ps,(j,v)::vs=>i=j/\(∃ t,ts[i]?=some t/\AV.fits t x=true/\AC c x v.cells.toList)/\QT c ts ps vs
 | _,_=>False
theorem Db{c:Cx}{ts:List Ty}(k:aP ts=true) :
  ∀ (ps:List<|Nat×AV) (vs:List<|Nat×Value) (l:List AV) (cs:List Value),AV.fitss ts l=true->jW c l cs->QT c ts ps vs ->
   ∃ a:List Value,nh (λi=>if i<ts.length then some (agv<|ts.take i,(ts.getD i .bool).size) else none) cs.toArray vs=some a.toArray/\AV.fitss ts (oR l ps)=true/\jW c (oR l ps) a
 | [],[],l,cs,b,e,_=>⟨cs,rfl,b,e⟩
 | [],_::_,_,_,_,_,h=>by simp[QT] at h
 | _::_,[],_,_,_,_,h=>by simp[QT] at h
 | (i,x)::ps,(j,v)::vs,l,cs,b,e,h=>by
  simp[QT] at h;obtain⟨rfl,⟨t,d,f,g⟩,n⟩:=h;obtain⟨y,o,p⟩:=xh b d;obtain⟨pre,mid,post,rfl,m1,m2,r⟩:=vF b k e o;have q:=(iG _ _ _ p m2).1;have m:=(iG _ _ _ f g).1;obtain⟨a,s,u,w⟩:=Db k ps vs (l.set i x) _ (oJ b d f) (r x _ g) n;refine⟨a,?_,u,w⟩;have hi:=(zra.1 d).1;rw[xc (off:=agv<|ts.take i) (size:=t.size) (by rw[zma hi];simp[List.getD,d]) (by rw[<-zFb];exact m) (by simp;omega),<-s]
  congr 1;have:=jA pre mid post v.cells.toList (by rw[q,m])
  simp_all
def Ns(O:EnvOk P E)(h:Rp w0 S γ β s a w){dst T ps ty pos after guard}:j8 P E w0 S γ β s a w ⟨dst,.build T ps,ty,pos,after,guard⟩:=by
 intro R K r hq;simp only[qv] at hq;replace hq:=ab hq;obtain⟨t,Q,hq⟩:=hq;have A:execOp a.eval ⟨dst,.build T ps,ty,pos,after,guard⟩=(Instr.build T (ps.map λp=>(p.1,a.eval p.2)) >>= λv=>pure<|.value v):=rfl;have q:(ps.map λp=>(p.1,a.eval p.2)).toList=ps.toList.map λp=>(p.1,a.eval p.2):=j2
 cases t<;>(try simp only at hq)<;>first|cases hq|skip
 case st ts=>
  rcases O.lay T _ Q with⟨ts',B⟩|hl
  ·cases B
  have c:=aJ _ _ hl;simp only[aj] at c;split at hq
  ·rename_i V;split at hq<;>first|cases hq|skip
   rename_i C;have j:∀ (l:List<|Nat×Operand),l.all (gR s ts)=true->QT ⟨w,S,γ,β,s.ob,s.dead⟩ ts (l.map λp=>(p.1,s.opA p.2)) (l.map λp=>(p.1,a.eval p.2)):=by
    intro l
    induction l with
    | nil=>intro _;simp[QT]
    | cons p l ih=>
     intro J;simp only[zOb,Y] at J;simp only[z4a,QT];refine⟨trivial,?_,ih J.2⟩;have m:=J.1;unfold gR at m;split at m<;>first|cases m|skip
     rename_i u U;exact⟨u,U,m,(Cr m (bZ c U)<|aT h p.2).1⟩
   obtain⟨z,k,f,_⟩:=kJ hl;have a0:jW ⟨w,S,γ,β,s.ob,s.dead⟩ (lC ts) z.cells.toList:=m9 ts _ c (by simpa [aw,D.flat] using f)
   obtain⟨b,m1,m2,a1⟩:=Db c _ _ _ _ (li ts c) a0<|j ps.toList C;have d:(Instr.build T<|ps.map λp=>(p.1,a.eval p.2)).run P w=.ok (.agg b.toArray) w:=by
    obtain⟨X,m,H⟩:=kl hl;refine s9 hl _ w (r:=b) λI o=>?_;have W:jW ⟨w,S,γ,β,s.ob,s.dead⟩ (lC ts) I.cells.toList:=m9 ts _ c (by simpa [aw,D.flat] using o)
    have:I.cells=z.cells:=zkc<|rG o f
    simp_all
   exact⟨_,hq,.value (v:=.agg b.toArray) (w':=w) (by rw[A];simp[G,d,zga,zta])<|Qp.same h (by simp only[AR];exact⟨⟨_,rfl⟩,by simp[AC];exact⟨c,m2,by simpa [Value.cells] using a1⟩⟩) _⟩
  ·replace hq:=ab hq;obtain⟨l,hp,hq⟩:=hq;have j:=oQ h (ty:=λi=>ts[i]?) (λi t hi=>bZ c hi) _ _ hp;have main:∀ z:Value,de (aw<|.st ts).flat z.cells.toList=true->∃ b:List Value,nh (λi=>if i<ts.length then some (agv<|ts.take i,(ts.getD i .bool).size) else none) z.cells (ps.toList.map λp=>(p.1,a.eval p.2))=some b.toArray/\fq ts (afN (ii ts) l)/\c7 w S (N<|afN (ii ts) l) b:=by
    intro z k;refine vO (ty:=λi=>ts[i]?) (off:=λi=>agv<|ts.take i) (Good:=λl=>fq ts l) (λl i t z g hi k=>Cn g hi k) (λl i t g hi=>?_) (λi t hi=>?_) l _ (ii ts) z.cells.toList (rH ts c) (cK (by simpa [aw,D.flat] using k)) j
    ·obtain⟨y,m,H⟩:=gk g hi;exact⟨y,m,H,tx _ _ (tz i g)<|jt i c⟩
    ·rw[zma (zra.1 hi).1];simp[List.getD,hi,z0b]
   obtain⟨z,k,f,_⟩:=kJ hl;obtain⟨b,m1,m2,a1⟩:=main z f;have d:(Instr.build T<|ps.map λp=>(p.1,a.eval p.2)).run P w=.ok (.agg b.toArray) w:=by refine s9 hl _ w (r:=b) λI o=>?_;have:I.cells=z.cells:=zkc<|rG o f;rw[this,q,<-m1]
   have M:wt (.st ts) (.st<|afN (ii ts) l):=by simp only[wt];exact⟨_,rfl,m2⟩
   exact⟨_,hq,.value (v:=.agg b.toArray) (w':=w) (by rw[A];simp[G,d,zga,zta])<|Qp.same h (dC (by simpa [aj] using c) M ⟨⟨_,rfl⟩,by simpa [Value.cells,D.flat] using a1⟩) _⟩
 case arr n e=>
  rcases O.lay T _ Q with⟨ts',B⟩|hl
  ·cases B
  have c:=aJ _ _ hl;simp[aj] at c;replace hq:=ab hq;obtain⟨l,hp,hq⟩:=hq;have j:=oQ h (ty:=λi=>if i<n then some e else none) (λi t hi=>by split at hi<;>first|(cases hi;exact c)|cases hi) _ _ hp
  have main:∀ z:Value,de (aw<|.arr n e).flat z.cells.toList=true->∃ b:List Value,nh (λi=>some (i*e.size,e.size)) z.cells (ps.toList.map λp=>(p.1,a.eval p.2))=some b.toArray/\((afN (List.replicate n<|aw e) l).length=n/\∀ x∈afN (List.replicate n<|aw e) l,wt e x)/\c7 w S (N<|afN (List.replicate n<|aw e) l) b:=by
   intro z k;refine vO (ty:=λi=>if i<n then some e else none) (off:=λi=>i*e.size) (Good:=λl=>l.length=n/\∀ x∈l,wt e x) (λl i t z g hi k=>?_) (λl i t g hi=>?_) (λi t hi=>?_) l _ (List.replicate n<|aw e) z.cells.toList ⟨j2,λx hx=>by rw[(zld.1 hx).2];exact c6 e c⟩ (cK (by simpa [aw,D.flat] using k)) j
   ·split at hi<;>first|cases hi|skip
    refine⟨by simpa using g.1,λx hx=>?_⟩
    rcases zUc hx with h|h
    ·exact g.2 x h
    ·rw[h];exact k
   ·split at hi<;>first|cases hi|skip
    rename_i L;have F:i<l.length:=by rw[g.1];exact L
    refine⟨l[i],zca F,g.2 _<|zya F,?_⟩;rw[aL c _<|λx hx=>g.2 x<|zUa hx,zkb,zsb u0]
   ·split at hi<;>first|cases hi|skip
    rfl
  obtain⟨z,k,f,_⟩:=kJ hl;obtain⟨b,m1,m2,a1⟩:=main z f;have d:(Instr.build T<|ps.map λp=>(p.1,a.eval p.2)).run P w=.ok (.agg b.toArray) w:=by obtain⟨u,m,H⟩:=fm hl;simp[Instr.build,G,k,zga,run_underlying m,cp H,so,q,m1,zta]
  have M:wt (.arr n e) (.st<|afN (List.replicate n<|aw e) l):=by simp only[wt];exact⟨_,rfl,m2⟩
  exact⟨_,hq,.value (v:=.agg b.toArray) (w':=w) (by rw[A];simp[G,d,zga,zta])<|Qp.same h (dC (by simpa [aj] using c) M ⟨⟨_,rfl⟩,by simpa [Value.cells,D.flat] using a1⟩) _⟩
def Gc(h:Rp w0 S γ β s a w){dst x i ty pos after guard}:j8 P E w0 S γ β s a w ⟨dst,.extract x i,ty,pos,after,guard⟩:=by
 intro R K r hq;simp[qv] at hq;have hx:=aT h x;generalize s.opA x=y at *;split at hq<;>first|cases hq|skip
 ·rename_i ts z;replace hq:=ab hq;obtain⟨u,f,hq⟩:=hq;replace hq:=ab hq;obtain⟨k,b,hq⟩:=hq;simp only[AR] at hx;rcases hx with⟨C,_⟩|⟨ts',e,n,A,B⟩
  ·simp[aj] at C
  ·cases e;simp[wt] at A;obtain⟨l,rfl,p⟩:=A;simp[D.tupAt] at b;simp[DR] at B;obtain⟨vs,j,c,d⟩:=B;have hi:i<vs.length:=i4
   obtain⟨F,g,q⟩:=gk p f;rw[b] at g;cases g;have o:=d i k vs[i] b<|zca hi;exact⟨_,hq,.value (v:=vs[i]) (w':=w) (by simp[execOp,Instr.extract,j,hi])<|Qp.same h (dC (bZ n f) q o) _⟩
 ·rename_i t u ts z;simp only[AR] at hx;obtain⟨l,G,v0,vs,rfl,j,na,m,n,p,c,d⟩:=hx;cases i with
  | zero=> simp only at hq;replace hq:=ab hq;obtain⟨k,b,hq⟩:=hq;replace hq:=ab hq;obtain⟨l',hl,hq⟩:=hq;simp[D.tupAt,zAb,zda] at b;subst b;cases hl;exact⟨_,hq,.value (v:=v0) (w':=w) (by simp[execOp,Instr.extract,j])<|Qp.same h (by simp[AR];exact⟨na,m⟩) _⟩
  | succ i=>
   simp only at hq;replace hq:=ab hq;obtain⟨u,f,hq⟩:=hq;replace hq:=ab hq;obtain⟨k,b,hq⟩:=hq;simp[D.tupAt,zlb] at b;obtain⟨F,g,q⟩:=gk p f;rw[b] at g;cases g;have hi:i<vs.length:=by rw[c];exact(zra.1 b).1
   exact⟨_,hq,.value (v:=vs[i]) (w':=w) (by simp[execOp,Instr.extract,j,hi])<|Qp.same h (dC (bZ n f) q<|d i k vs[i] b<|zca hi) _⟩
def D7(h:Rp w0 S γ β s a w){dst fn first captured ty pos after guard}:j8 P E w0 S γ β s a w ⟨dst,.makeFunc fn first captured,ty,pos,after,guard⟩:=by
 intro R K r hq;simp only[qv] at hq;split at hq<;>first|cases hq|skip
 rename_i f;split at hq<;>first|cases hq|skip
 rename_i g;have e:=Array.eq_empty_of_size_eq_zero g.1;refine⟨_,hq,.value (v:=.func (.func f) #[] (captured.map a.eval)) (w':=w) (by simp[execOp,Instr.makeFunc,e])<|Qp.same h ?_ _⟩
 simp only[AR,AC];refine⟨j2,(captured.toList.map a.eval),by rw[show captured.map a.eval=(captured.toList.map a.eval).toArray from zkc j2];simp[Value.cells],?_⟩
 have b:=g.2;clear g hq;generalize captured.toList=l at *
 induction l with
 | nil=>simp[pi]
 | cons x l ih=>
  simp only[zOb,Y] at b;simp only[z4a,pi];refine⟨_,_,rfl,?_,ih b.2⟩;have c:=b.1;have d:=aT h x;cases hx:s.opA x<;>rw[hx] at c d<;>simp[gH] at c<;>try(cases c;done)
  simp[AR] at d;obtain⟨i,j⟩:=d
  simp_all [Value.cells]
end
section
variable{c:Array Value}
theorem iE{α:Type}(l:List α):∀ (n i:Nat),i<n*l.length->((List.replicate n l).flatten)[i]?=l[i%l.length]?
 | 0,i,h=>u0
 | n+1,i,h=>by
  rw[List.replicate_succ,List.flatten_cons,zEd];by_cases hi:i<l.length
  ·simp_all [z0a]
  ·rw[zha hi,iE l n (i-l.length) (by rw[ztb] at h;omega)]
   rw[<-Nat.mod_eq_sub_mod u0]
def AH{w:World}{S:Nat->Nat->Prop}{e:Ty}{a:Array Value}{m:Nat}(k:de (aw e).flat a.toList=true)(j:a.size=m)(n:Nat) :
  c7 w S (N<|List.replicate n<|aw e) ((Array.range<|n*m).map λi=>a[i%a.size]!).toList:=by
 have h0:=cK (w:=w) (S:=S) k;have hl:(aw e).flat.length=m:=by rw[h0.1];simpa using j
 refine⟨by rw[ni];simp[hl],λi d c f b=>?_⟩
 rw[ni] at f;have hi:i<n*m:=by have:=(zra.1 b).1;simpa using this
 rw[iE _ _ _ (by rw[hl];exact hi),hl] at f
 have hm:0<m:=by
  rcases zMb m with h|h
  ·subst h;omega
  ·exact h
 have g:i%m<a.size:=by rw[j];exact zWa _ hm
 refine h0.2 (i%m) d c f ?_;simp[Array.toList_map,z4b,Array.toList_range,List.getElem?_range hi,zYb,zda] at b;rw[<-b,j];simp[g]
section
variable{P:Program}{E:Env}{w0:Root}{S:Nat->Nat->Prop}{γ:Nat->Option Nat}{β:Nat->Option (Nat×Nat)}{s:St}{a:Act}{w:World}
def oS{c:Array Value}{t:TypeId}:ce (grown w [.cells c t] w.drawn) w.heap.size=some c:=by rw[<-c9];exact xV w _ rfl
def Ei{t:TypeId}{d:Nat}:ce (grown w [.cells c t] d) w.heap.size=some c:=by have:=oS (w:=w) (c:=c) (t:=t);rw[show ce (grown w [.cells c t] d) w.heap.size=ce (grown w [.cells c t] w.drawn) w.heap.size from rfl];exact this
def IQ{t:TypeId}{d:Nat}(j:Nat):(grown w [.cells c t] d).cell? ⟨w.heap.size,j,none⟩=c[j]?:=cell_of_row _ Ei j
def vV(h:Rp w0 S γ β s a w){v:Nat}(K:β v=none)(hi:v<s.base+4096){e:Ty}(E:aj e=true){l:List D}(hl:∀ x∈l,wt e x){cs:List Value}(B:c7 w S (N l) cs){T:TypeId}{rest:List Value}{cap:Nat}(d:Nat)(t:w.drawn<=d)(j:l.length<=cap)(y:cs.length+rest.length=cap*e.size) :
  ∃ S' q,Rp w0 S' γ q s a (grown w [.cells (cs++rest).toArray T] d)/\AR ⟨grown w [.cells (cs++rest).toArray T] d,S',γ,q,s.ob,s.dead⟩ (.own e v l) (.slice (some ⟨w.heap.size,0,none⟩) l.length cap) ∧
   (∀ b o,S b o->S' b o)/\(∀ u,u≠v->q u=β u)/\q v=some (w.heap.size,l.length*e.size)/\(∀ b o,S' b o->S b o\/b=w.heap.size):=by
 let S':Nat->Nat->Prop:=λb o=>S b o\/(b=w.heap.size/\o<l.length*e.size)
 have r:∀ b o,S' b o->S b o\/(w.heap.size<=b/\b<(grown w [.cells (cs++rest).toArray T] d).heap.size):=λb o g=>by
  rcases g with g|⟨rfl,_⟩
  ·exact .inl g
  ·exact .inr ⟨zja _,j2⟩
 obtain⟨G,m⟩:=h.grow (os:=[.cells (cs++rest).toArray T]) (d:=d) t (S':=S') (λb o g=>.inl g) r;have A:¬ w0.Old w.heap.size:=λF=>by have:=F.1;have:=h.ext.sz;omega
 obtain⟨H,L⟩:=G.newTok (v:=v) (b:=w.heap.size) (e:=l.length*e.size) K A j2 (λid hid=>by have:=(h.γn id _ hid).2;omega) (λu f z I=>by have:=(h.βn u _ _ z I).2.1;omega) hi
  (λo F p=>p.elim (λp=>by have:=h.Sb _ _ p;omega) λp=>u0)
 refine⟨S',pQ β v (w.heap.size,l.length*e.size),H,?_,λb o g=>.inl g,λu z=>ci β _ z,bN β _ _,λb o g=>g.imp id λJ=>J.1⟩;have C:cs.length=l.length*e.size:=by rw[<-B.1];exact aL E l hl
 simp only[AR,AC,Value.cells];refine⟨j2,E,hl,_,cap,rfl,?_,λ_=>.inr ⟨w.heap.size,0,rfl,by simp[bN],(cs++rest).length,?_,?_⟩⟩
 ·refine afw (b:=w.heap.size) (off:=0) (.inr rfl) j ⟨cs,B.mono m.cell m.S,λi c k=>?_⟩;have hi:=(zra.1 k).1;refine⟨.inr ⟨rfl,u0⟩,?_⟩
  rw[IQ];simp[zuc,zbb];rw[zab hi];exact k
 ·simp[rL,Ei]
 ·simp;omega
def yO(U:EnvOk P E)(h:Rp w0 S γ β s a w){dst T n ps ty pos after guard}(W:Fr E s γ β ⟨dst,.buildSlice T n ps,ty,pos,after,guard⟩):j8 P E w0 S γ β s a w ⟨dst,.buildSlice T n ps,ty,pos,after,guard⟩:=by
 intro R K r hq;simp[qv] at hq;replace hq:=ab hq;obtain⟨t,Z,hq⟩:=hq;cases t<;>(try simp only at hq)<;>try(cases hq;done)
 rename_i e;rcases U.lay T _ Z with⟨ts',H⟩|hl
 ·cases H
 have b:=aJ _ _ hl;simp[aj] at b;split at hq<;>try(cases hq;done)
 rename_i F;replace hq:=ab hq;obtain⟨d,O,hq⟩:=hq;replace hq:=ab hq;obtain⟨l,hp,hq⟩:=hq;obtain⟨V,hγ,hβ,_⟩:=W rfl d O;have a1:=oQ h (ty:=λi=>if i<n then some e else none) (λi t hi=>by split at hi<;>first|(cases hi;exact b)|cases hi) _ _ hp
 obtain⟨u,a0,A⟩:=jF hl;obtain⟨z,I,q,_⟩:=kJ A;obtain⟨i0,z0,X,Y,nA,_⟩:=fH<|gJ A;have L:z.cells.size=e.size:=by have:=(cK (w:=w) (S:=S) q).1;rw[<-zFb,<-this];exact cJ _ _ (c6 e b) b
 have c:c7 w S (N<|List.replicate n<|aw e) ((Array.range<|n*e.size).map λi=>z.cells[i%z.cells.size]!).toList:=AH q L n;obtain⟨g,m1,m2,Q⟩:=vO (place:=λi=>some (i*e.size,e.size)) (ty:=λi=>if i<n then some e else none) (off:=λi=>i*e.size) (Good:=λl=>l.length=n/\∀ x∈l,wt e x) (λl i t z f hi I=>by
   split at hi<;>try(cases hi;done)
   have:e=t:=by injection hi
   subst this;refine⟨by simpa using f.1,λx hx=>?_⟩
   rcases zUc hx with h|h
   ·exact f.2 x h
   ·rw[h];exact I) (λl i t f hi=>by
   split at hi<;>try(cases hi;done)
   rename_i D;have:e=t:=by injection hi
   subst this;have j:i<l.length:=by rw[f.1];exact D
   refine⟨l[i],zca j,f.2 _<|zya j,?_⟩;rw[aL b _<|λx hx=>f.2 x<|zUa hx,zkb,zsb u0]) (λi t hi=>by
   split at hi<;>try(cases hi;done)
   have:e=t:=by injection hi
   subst this;rfl) l _ (List.replicate n<|aw e) _ ⟨j2,λx hx=>by rw[(zld.1 hx).2];exact c6 e b⟩ c a1
 obtain⟨S',β',k1,k2,k3,k4,k5,_⟩:=vV h (v:=s.base+d) hβ u0 b m2.2 Q (T:=u) (rest:=[]) (cap:=n) w.drawn (zja _) (by rw[m2.1];exact zja _) (by rw[zzb,zXb,<-Q.1,aL b _ m2.2,m2.1])
 have o:¬ n*e.size>2^24:=by have:n*e.size<=4096*4096:=zHa F nA.2;omega
 have k:(ps.map λp=>(p.1,a.eval p.2)).toList=ps.toList.map λp=>(p.1,a.eval p.2):=j2
 have m:(Instr.buildSlice T n<|ps.map λp=>(p.1,a.eval p.2)).run P w=.ok (.slice (some ⟨w.heap.size,0,none⟩) n n) (grown w [.cells g.toArray u] w.drawn):=by
  have key:∀ y:Array Value,((Array.range<|n*e.size).map λi=>y[i%y.size]!)=((Array.range<|n*e.size).map λi=>z.cells[i%z.cells.size]!) ->
    nh (λi=>some (i*e.size,e.size)) ((Array.range<|n*e.size).map λi=>y[i%y.size]!) (ps.map λp=>(p.1,a.eval p.2)).toList=some g.toArray:=λy J=>by
   rw[J,k];rw[zac] at m1;exact m1
  by_cases h0:n*e.size=0
  ·have M:=key #[] (by simp[h0])
   simp only[Instr.buildSlice,G,run_underlying a0,zga,cp A,o,if_false,zma h0,pure_bind,so,M,newRow,run_newObj,zta];rw[<-c9];rfl
  ·have M:=key z.cells rfl;simp only[Instr.buildSlice,G,run_underlying a0,zga,cp A,o,if_false,zha h0,bind_pure_comp,Sem.run_map,I,pure_bind,so,M,newRow,run_newObj,zta];rw[<-c9];rfl
 have B:execOp a.eval ⟨dst,.buildSlice T n ps,ty,pos,after,guard⟩=(Instr.buildSlice T n (ps.map λp=>(p.1,a.eval p.2)) >>= λv=>pure<|.value v):=rfl;rw[zic,m2.1] at *;refine⟨_,hq,.value (by rw[B];simp[G,m,zga,zta]) ⟨S',γ,β',k1,k2,k3,⟨_,_,rfl⟩,λ_ _ C=>C,λid hid=>⟨rfl,k4 id λC=>?_⟩⟩⟩
 subst C;rcases hid with hid|hid
 ·rw[O] at hid;exact hid (by rw[zyb])
 ·omega
def BR(Z:EnvOk P E)(h:Rp w0 S γ β s a w){dst T x y ty pos after guard}(hf:Fr E s γ β ⟨dst,.makeSlice T x y,ty,pos,after,guard⟩):j8 P E w0 S γ β s a w ⟨dst,.makeSlice T x y,ty,pos,after,guard⟩:=by
 intro R K r hq;simp only[qv] at hq;replace hq:=ab hq;obtain⟨p0,H,hq⟩:=hq;replace hq:=ab hq;obtain⟨n0,F,hq⟩:=hq;split at hq<;>try(cases hq;done)
 rename_i M;subst M;replace hq:=ab hq;obtain⟨t,ht,hq⟩:=hq;cases t<;>(try simp only at hq)<;>try(cases hq;done)
 rename_i e;replace hq:=ab hq;obtain⟨d,Q,hq⟩:=hq;replace hq:=ab hq;obtain⟨p,hp,hq⟩:=hq;replace hq:=ab hq;obtain⟨n,a0,hq⟩:=hq;split at hq<;>try(cases hq;done)
 rename_i c;obtain⟨ad,hγ,hβ,_⟩:=hf rfl d Q;rcases Z.lay T _ ht with⟨ts',I⟩|hl
 ·cases I
 have j:=aJ _ _ hl;simp only[aj] at j;obtain⟨u,W,N⟩:=jF hl;obtain⟨i0,g,b,al,nA,B,C,_⟩:=fH<|gJ N;have val:∀ {z:Operand} {q:Ty×D} {m:Nat},isD (s.opA z)=some q->q.2.natOf=some m->∃ k,a.eval z=.int k m:=λ{z q m} o Y=>by obtain⟨kk,X⟩:=ux Y;have O:=aT h z;rw[eS o,X] at O;exact⟨kk,(fg O).1⟩
 obtain⟨k0,J⟩:=val H F;obtain⟨k,hv⟩:=val hp a0;have an:g.cells.size=e.size:=by have:=(cK (w:=w) (S:=S) C).1;rw[<-zFb,<-this];exact cJ _ _ (c6 e j) j
 let cells:Array Value:=(Array.range<|n*e.size).map λi=>g.cells[i%g.cells.size]!
 obtain⟨S',β',k1,k2,k3,k4,k5,_⟩:=vV h (v:=s.base+d) hβ u0 j (l:=[]) (λx hx=>by cases hx) (cs:=[]) c7.nil (T:=u) (rest:=cells.toList) (cap:=n) w.drawn (zja _) (zoa _) (by simp[cells])
 have f:(Instr.makeSlice T (.int k0 (0:Nat))<|.int k n).run P w=.ok (.slice (some ⟨w.heap.size,0,none⟩) 0 n) (grown w [.cells cells u] w.drawn):=by
  have hb:((i0.bytes:Int)*(n:Int))<=2^48:=by have o:i0.bytes*n<=16384*1073741824:=zHa nA.1 c;have:((i0.bytes*n:Nat):Int)<=((16384*1073741824:Nat):Int):=Int.ofNat_le.2 o;rw[z1a] at this;omega
  have hw:IntKind.i64.wrap (n:Int)=(n:Int):=IntWalk.i64_in _ u0
  have L:IntKind.i64.wrap ((0:Nat):Int)=((0:Nat):Int):=IntWalk.i64_in _ u0
  have U:¬ ((n:Int)<0):=u0
  have V:¬ ((i0.bytes:Int)*(n:Int)>2^48):=u0
  simp only[Instr.makeSlice,G,run_underlying W,zga,asInt,asIntOf,pure_bind,typeInfo,run_program,b,zta,hw,L];rw[zfa U,zfa V,zfa (show ¬ (((0:Nat):Int)>n) by omega),zfa<|show ¬ (((0:Nat):Int)<0) by omega]
  simp only[Bool.or_self,zIa,if_false,G,run_askRoom,zga,cp N,z7c];by_cases h0:n*e.size=0
  ·have e0:((Array.range<|n*e.size).map λi=>(#[]:Array Value)[i%(#[]:Array Value).size]!)=cells:=by
    show _=((Array.range<|n*e.size).map λi=>g.cells[i%g.cells.size]!);rw[h0];simp
   rw[zma h0];simp only[pure_bind,e0,newRow,G,run_newObj,zga,zta];rw[<-c9];rfl
  ·rw[zha h0];simp only[zeroValue,typeInfo,G,run_program,b,B,zga,zta,bind_pure_comp,Sem.run_map,newRow,run_newObj];rw[<-c9];rfl
 rw[z7b,zac] at *;refine⟨_,hq,.value (by simp only[execOp,J,hv,G,f,zga,zta,zzb]) ⟨S',γ,β',k1,k2,k3,⟨_,_,rfl⟩,λ_ _ A=>A,λid hid=>⟨rfl,k4 id λA=>?_⟩⟩⟩
 subst A;rcases hid with hid|hid
 ·rw[Q] at hid;exact hid (by rw[zyb])
 ·omega
end
end
section
variable{c:Cx}{z:Value}
mutual
theorem Lf:∀ (x y:D),D.beq x y=true->x=y
 | .int k n,y,h=>by cases y<;>simp_all [D.beq]
 | .bool b,y,h=>by cases y<;>simp_all [D.beq]
 | .str b,y,h=>by cases y<;>simp_all [D.beq]
 | .st l,y,h=>by
  cases y<;>simp[D.beq] at h<;>try(cases h;done)
  rw[G6 _ _ h]
 | .sl l,y,h=>by cases y<;>simp[D.beq] at h
 | .tup l,y,h=>by cases y<;>simp[D.beq] at h
theorem G6:∀ (l l':List D),D.beqs l l'=true->l=l'
 | [],l',h=>by cases l'<;>simp_all [D.beqs]
 | x::l,l',h=>by
  cases l' with
  | nil=>simp[D.beqs] at h
  | cons y l'=> simp[D.beqs,Y] at h;rw[Lf _ _ h.1,G6 _ _ h.2]
end
section
variable{P:Program}{E:Env}{w0:Root}{S:Nat->Nat->Prop}{γ:Nat->Option Nat}{β:Nat->Option (Nat×Nat)}{s:St}{a:Act}{w:World}
theorem qE{α:Type}(g:α->PUnit->Sem (ForInStep PUnit)){w:World}:∀ (l:List α),(∀ x∈l,(g x ⟨⟩).run P w=.ok (.yield ⟨⟩) w)->(forIn l PUnit.unit g).run P w=.ok ⟨⟩ w
 | [],_=>rfl
 | x::l,h=>by simp[List.forIn_cons,G,h x zBa,zga];exact qE g l λy a=>h y<|zsa _ a
def mL{w:World}{b n:Nat}{a:Array MapEntry}(h:w.heap[b]?=some (.map a n)):(getObj b).run P w=.ok (.map a n) w:=by simp[getObj,Sem.run,h]
mutual
theorem kW:∀ (ty:Ty) (T:TypeId) (x:D) (cx:List Value) (vx:Value) (n:Nat) (e:Bool),cb P ty T=true->bS ty=true->ty.high<=n->wt ty x->c7 w S x.flat cx->iF ty cx vx->∀ w',(Instr.checkKey e n T vx).run P w'=.ok () w'
 | .int k,T,x,cx,vx,n,e,hl,_,hd,hx,rx,ix,w'=>by
  simp only[wt] at hx;obtain⟨m,rfl⟩:=hx;obtain⟨c1,rfl,r1⟩:=rx.single';rw[fW ix rfl,r1.int_inv];obtain⟨n,rfl⟩:∃ e,n=e+1:=⟨n-1,by simp only[Ty.high] at hd;omega⟩
  simp only[Instr.checkKey,G,run_underlying<|k9 hl,zga,zta]
 | .bool,T,x,cx,vx,n,e,hl,_,hd,hx,rx,ix,w'=>by
  simp only[wt] at hx;obtain⟨m,rfl⟩:=hx;obtain⟨c1,rfl,r1⟩:=rx.single';rw[fW ix rfl,r1.bool_inv];obtain⟨n,rfl⟩:∃ e,n=e+1:=⟨n-1,by simp only[Ty.high] at hd;omega⟩
  have hu:P.underlying T=some .bool:=by simp only[cb,Y] at hl;all_goals grind
  simp only[Instr.checkKey,G,run_underlying hu,zga,zta]
 | .st ts,T,x,cx,vx,n,e,hl,hc,hd,hx,rx,ix,w'=>by
  simp only[wt] at hx;obtain⟨l,rfl,hx⟩:=hx;rw[jZ ix rfl];obtain⟨fs,h1,h2⟩:=kl hl;simp only[Ty.high] at hd;obtain⟨n,rfl⟩:∃ e,n=e+1:=⟨n-1,u0⟩
  simp only[bS] at hc;simp only[D.flat] at rx;simp only[Instr.checkKey,G,run_underlying h1,zga];rw[<-Array.forIn_toList,qE (P:=P) (w:=w')]
  ·rfl
  ·intro f hf;have key:=nK ts fs.toList 0 l [] cx cx.toArray n e h2 hc u0 hx rx rfl rfl w' f hf
   by_cases hn : f.name ≠ "_"
   ·rw[zma hn] at key ⊢;simp only[G] at key ⊢;cases hp:(part f.type cx.toArray f.offset).run P w' with
    | ok v w2=> rw[hp] at key;simp only[zga] at key ⊢;rw[key];rfl
    | _=>rw[hp] at key;simp[Result.andThen] at key
   ·rw[zha hn];rfl
 | .arr m t,T,x,cx,vx,n,e,hl,hc,hd,hx,rx,ix,w'=>by
  simp only[wt] at hx;obtain⟨l,rfl,hxl,hx⟩:=hx;rw[jZ ix rfl];obtain⟨u,h1,h2⟩:=fm hl;simp only[Ty.high] at hd;obtain⟨n,rfl⟩:∃ e,n=e+1:=⟨n-1,u0⟩
  simp only[bS] at hc;simp only[D.flat] at rx;have hn:=aJ _ _ h2;simp only[Instr.checkKey,G,run_underlying h1,zga];rw[Std.Legacy.Range.forIn_eq_forIn_range',qE (P:=P) (w:=w')]
  ·rfl
  ·intro j hj;have hjn:j<m:=by simp at hj;omega
   have e1:l[j]?=some (l.getD j<|.bool false):=by simp[List.getD,zca<|hxl ▸ hjn]
   generalize l.getD j (.bool false)=dx at *;have wx:=hx dx<|zfb e1;have rx':=rx;rw[cE e1] at rx';obtain⟨p1,p2⟩:=rx'.split;obtain⟨p3,p4⟩:=p2.split;have o1:(cx.take (N<|l.take j).length).length=j*t.size:=by rw[<-p1.1,aL hn _<|λx hx'=>hx x<|zUa hx',zkb,zsb u0]
   obtain⟨v1,r1,i1⟩:=jy h2 (cs:=cx.toArray) (pre:=cx.take (N<|l.take j).length) (mid:=(cx.drop (N<|l.take j).length).take dx.flat.length) (post:=(cx.drop (N<|l.take j).length).drop dx.flat.length)
     (by simp only[zza]) (by rw[<-p3.1];exact cJ _ _ wx hn) p3.nag w'
   rw[o1] at r1;have r3:=kW t u dx _ v1 n e h2 hc u0 wx p3 i1 w'
   simp only[G,cp h2,zga,r1,r3,zta]
 | .str,_,_,_,_,_,_,_,hc,_,_,_,_,_=>by simp[bS] at hc
 | .sl _,_,_,_,_,_,_,_,hc,_,_,_,_,_=>by simp[bS] at hc
 | .tup _,_,_,_,_,_,_,_,hc,_,_,_,_,_=>by simp[bS] at hc
 | .fn,_,_,_,_,_,_,_,hc,_,_,_,_,_=>by simp[bS] at hc
theorem nK:∀ (ts:List Ty) (fs:List Field) (off:Nat) (l:List D) (px cx:List Value) (xs:Array Value) (n:Nat) (e:Bool),gS P ts fs off=true->nL ts=true->agu ts<=n->fq ts l->c7 w S (N l) cx ->
  xs.toList = px ++ cx -> px.length = off -> ∀ w', ∀ f ∈ fs, (if f.name ≠ "_" then (part f.type xs f.offset >>= λv => Instr.checkKey e n f.type v) else pure ()).run P w' = .ok () w'
 | [],fs,off,l,px,cx,xs,n,e,hf,_,_,_,_,_,_,w'=>by all_goals grind [gS]
 | t::ts,[],off,l,px,cx,xs,n,e,hf,_,_,_,_,_,_,w'=>by simp[gS] at hf
 | t::ts,f::fs,off,l,px,cx,xs,n,e,hf,hc,hd,hx,rx,ex,lx,w'=>by
  simp[gS,Y,zea] at hf;obtain⟨⟨⟨⟨h1,h2⟩,h3⟩,h4⟩,h5⟩:=hf;simp[fq] at hx;obtain⟨dx,l,rfl,hx1,hx2⟩:=hx;simp[N] at rx;obtain⟨p3,p4⟩:=rx.split;have hn:=aJ _ _ h4;simp[nL,Y] at hc;simp[agu] at hd;obtain⟨v1,r1,i1⟩:=jy h4 (cs:=xs) (pre:=px) (mid:=cx.take dx.flat.length) (post:=cx.drop dx.flat.length) (by rw[ex,zza]) (by rw[<-p3.1];exact cJ _ _ hx1 hn) p3.nag w'
  rw[lx,<-h1] at r1;have r3:=kW t f.type dx _ v1 n e h4 hc.1 u0 hx1 p3 i1 w'
  have hs1:(cx.take dx.flat.length).length=t.size:=by rw[<-p3.1];exact cJ _ _ hx1 hn
  have ih:=nK ts fs (off+t.size) l (px++cx.take dx.flat.length) (cx.drop dx.flat.length) xs n e h5 hc.2 u0 hx2 p4
   (by rw[zPa,zza];exact ex) (by rw[zFa,lx,hs1]) w'
  intro g hg;rcases zMa.1 hg with rfl|hg
  ·rw[zma h2,G,r1,zga,r3]
  ·exact ih g hg
end
def ER:List D->D->List MapEntry->Nat->Option (Nat×Value)
 | .st [k,_]::l,x,e::a,i=>if D.beq x k then some (i,e.val) else ER l x a (i+1)
 | _,_,_,_=>none
theorem xf{kt vt:Ty}{T:TypeId}{x:D}(hl:cb P kt T=true)(s:bS kt=true)(hx:wt kt x)(q:ge c.w c.S x z){desc:TypeDesc}(g:P.underlying T=some desc):∀ (l:List D) (o:List MapEntry) (j i:Nat) (r:Option<|Nat×Value),j6 c kt vt j l o->Instr.findNow desc z o i=some r->r=ER l x o i
 | [],[],j,i,r,_,h=>by simp[Instr.findNow,zda] at h;rw[<-h];rfl
 | [],_::_,j,i,r,h,_=>h.elim
 | _::_,[],j,i,r,h,_=>h.elim
 | y::l,e::o,j,i,r,h,f=>by
  simp[j6] at h;obtain⟨⟨_,k,v,rfl,p,E,A,F⟩,B⟩:=h;simp[Instr.findNow] at f;have key:∀ b,Instr.sameNow desc z e.key=some b->b=D.beq x k:=by
   intro b a;cases kt<;>simp only[wt] at hx p
   case int kk=> obtain⟨n,rfl⟩:=hx;obtain⟨m,rfl⟩:=p;rw[q.int_inv,A.int_inv] at a;rw[k9 hl] at g;cases g;simp only[Instr.sameNow,if_true,zda] at a;rw[<-a];simp[D.beq];rfl
   case bool=> obtain⟨n,rfl⟩:=hx;obtain⟨m,rfl⟩:=p;rw[q.bool_inv,A.bool_inv] at a;simp[cb,Y] at hl;have d:=hl.2;rw[g] at d;cases desc<;>simp at d;simp only[Instr.sameNow,zda] at a;rw[<-a];rfl
   case st ts=> obtain⟨C,d,_⟩:=kl hl;rw[g] at d;cases d;simp[Instr.sameNow] at a
   case arr m t=> obtain⟨u,d,_⟩:=fm hl;rw[g] at d;cases d;simp[Instr.sameNow] at a
   all_goals simp[bS] at s
  cases hs:Instr.sameNow desc z e.key with
  | none=>rw[hs] at f;simp at f
  | some b=>
   rw[hs] at f;have:=key b hs;subst this;cases a:D.beq x k
   ·rw[a] at f;simp only at f;have:=xf hl s hx q g l o (j+1) (i+1) r B f;grind [ER,Bool.false_eq_true]
   ·grind [Option.some.injEq,ER]
theorem pF{kt vt:Ty}{T:TypeId}{x:D}(hl:cb P kt T=true)(d:bS kt=true)(o:kt.high<=1000)(hx:wt kt x)(b:ge c.w c.S x z)(w':World):∀ (l:List D) (a:List MapEntry) (j i:Nat),j6 c kt vt j l a->(Instr.findAsking T z a i).run P w'=.ok (ER l x a i) w'
 | [],[],j,i,_=>rfl
 | [],_::_,j,i,h=>h.elim
 | _::_,[],j,i,h=>h.elim
 | y::l,e::a,j,i,h=>by
  simp[j6] at h;obtain⟨⟨_,k,v,rfl,f,r,m,s⟩,n⟩:=h;have g:=aJ _ _ hl;have i1:iF kt z.cells.toList z:=⟨rfl,rF hx g b.1⟩;have p:iF kt e.key.cells.toList e.key:=⟨rfl,rF f g m.1⟩;have q:=sj kt T x k _ _ _ _ 10000 hl d u0 hx f b.2 m.2 i1 p w'
  simp[Instr.findAsking,Op.equal,Op.maxDepth,G,q,zga,ER];cases D.beq x k
  ·simp[zIa,if_false];exact pF hl d o hx b w' l a (j+1) (i+1) n
  ·simp
def xe{kt vt:Ty}{T:TypeId}{x:D}(hl:cb P kt T=true)(e:bS kt=true)(k:kt.high<=1000)(hx:wt kt x)(i:ge c.w c.S x z)(w':World){l:List D}{b:List MapEntry}{j:Nat}(h:j6 c kt vt j l b) :
  (Instr.findKey T z b).run P w'=.ok (ER l x b 0) w':=by
 have a:∃ d,P.underlying T=some d:=by
  cases kt<;>simp[bS] at e<;>try(cases e;done)
  ·exact⟨_,k9 hl⟩
  ·simp[cb,Y] at hl;have g:=hl.2;split at g
   ·rename_i a;exact⟨_,a⟩
   ·cases g
  ·obtain⟨n,f,_⟩:=kl hl;exact⟨_,f⟩
  ·obtain⟨u,f,_⟩:=fm hl;exact⟨_,f⟩
 obtain⟨d,a⟩:=a;simp[Instr.findKey,G,run_underlying a,zga];split
 ·rename_i r m;rw[xf hl e hx i a l b j 0 r h m];rfl
 ·exact pF hl e k hx i w' l b j 0 h
theorem HD{kt vt:Ty}{x:D}:∀ (l:List D) (a:List MapEntry) (j i:Nat),j6 c kt vt j l a ->
  match ER l x a i with
  | none=>afH l x=none
  | some (_,v)=>∃ d,afH l x=some d/\wt vt d/\ge c.w c.S d v
 | [],[],j,i,_=>rfl
 | [],_::_,j,i,h=>h.elim
 | _::_,[],j,i,h=>h.elim
 | y::l,e::a,j,i,h=>by
  simp[j6] at h;obtain⟨⟨_,k,v,rfl,f,g,m,n⟩,b⟩:=h;simp[ER,afH];cases hb:D.beq x k
  ·simp[zIa,if_false];exact HD l a (j+1) (i+1) b
  ·simp_all
def JD(hE:EnvOk P E)(h:Rp w0 S γ β s a w){dst T x i cok ty pos after guard}:j8 P E w0 S γ β s a w ⟨dst,.lookup T x i cok,ty,pos,after,guard⟩:=by
 intro R K r hq;simp only[qv] at hq;replace hq:=ab hq;obtain⟨kv,Q,hq⟩:=hq;obtain⟨ad,al⟩:=kv;have hx:=aT h x;generalize s.opA x=ax at *;cases ax<;>(try simp only at hq)<;>try(cases hq;done)
 rename_i kt vt id;split at hq<;>try(cases hq;done)
 rename_i J;simp only[Y] at J;have e1:=ags _ _ J.1;have e2:=ags _ _ J.2;subst e1;subst e2;split at hq<;>try(cases hq;done)
 rename_i B c l U;split at hq<;>try(cases hq;done)
 rename_i j;simp[Y] at j;have e1:=ags _ _ j.1;have e2:=ags _ _ j.2;subst e1;subst e2;replace hq:=ab hq;obtain⟨m,O,hq⟩:=hq;split at hq<;>try(cases hq;done)
 rename_i L;have hi:=aT h i;rw[eS O,ags _ _ L] at hi;obtain⟨hc,KT,VT,hu,k,t,hh⟩:=hE.mapL T _ _ Q;have y:=aJ _ _ k;have f:=aJ _ _ t;obtain⟨X,a0⟩:=Cs hi y;simp[AR,AC] at hx;obtain⟨na,b,M,hγ,_,_,_⟩:=hx;have hv:=ak na M;have hO:=h.obs id _ b U hγ;simp[gM] at hO;obtain⟨_,_,_,a1,q,Z⟩:=hO;have i1:iF B (a.eval i).cells.toList (a.eval i):=⟨rfl,rF X y a0.1⟩;have rc:=kW (S:=S) (w:=w) B KT m.2 _ _ 10000 a1.isEmpty k hc u0 X a0.2 i1 w
 have F:=xe (P:=P) k hc hh X a0 w Z;have rg:=HD (x:=m.2) l a1.toList 0 0 Z;obtain⟨z,V,W,A⟩:=kJ t;have g:wt c (aw c)/\ge w S (aw c) z:=by
  have wz:=c6 c f;refine⟨wz,?_⟩;have H:AC ⟨w,S,γ,β,s.ob,s.dead⟩ (.d c<|aw c) z.cells.toList:=by simp[AC];exact⟨wz,f,cK W⟩
  have iv:iF c z.cells.toList z:=⟨rfl,λI=>(A.2 I),λI xs e=>by have:=A.1 ⟨xs,e⟩;rw[I] at this;cases this⟩
  exact(Cs (yV (bW _ _) H iv) f).2
 have run:∃ v d,(afH l m.2).getD (aw c)=d/\wt c d/\ge w S d v/\(execOp a.eval ⟨dst,.lookup T x i cok,ty,pos,after,guard⟩).run P w=.ok (.value<|if cok then .tuple #[v,.bool (afH l m.2).isSome] else v) w:=by
  have N:(execOp a.eval ⟨dst,.lookup T x i cok,ty,pos,after,guard⟩)=(Instr.lookup T (a.eval x) (a.eval i) cok >>= λv=>pure<|.value v):=rfl;rw[N,hv];cases hf:ER l m.2 a1.toList 0 with
  | none=>
   rw[hf] at rg F;simp only at rg;refine⟨z,aw c,by rw[rg];rfl,g.1,g.2,?_⟩
   simp only[Instr.lookup,G,run_underlying hu,zga,mL q,zta,rc,F,V,rg];rfl
  | some p=>
   obtain⟨n,v⟩:=p;rw[hf] at rg F;simp only at rg;obtain⟨d,g1,g2,g3⟩:=rg;refine⟨v,d,by rw[g1];rfl,g2,g3,?_⟩
   simp only[Instr.lookup,G,run_underlying hu,zga,mL q,zta,rc,F,g1];rfl
 obtain⟨v,d,r1,r2,r3,D⟩:=run;rw[r1] at hq;cases cok with
 | false=> simp only at hq;simp[zIa,if_false] at D;exact⟨_,hq,.value D<|Qp.same h (dC f r2 r3) _⟩
 | true=>
  simp only at hq;simp[if_true] at D;refine⟨_,hq,.value D<|Qp.same h ?_ _⟩;simp only[AR];refine .inr ⟨_,rfl,by simp[aP,f,aj],?_,?_⟩
  ·simp only[wt,fq];exact⟨_,rfl,d,_,rfl,r2,_,_,rfl,⟨_,rfl⟩,rfl⟩
  ·refine⟨[v,.bool (afH l m.2).isSome],rfl,rfl,λi dd u o C=>?_⟩;rcases i with _|_|i
   ·simp at o C;subst o;subst C;exact r3
   ·simp at o C;subst o;subst C;exact afQ<|.bool _
   ·simp at o
end
end
section
variable{l:List D}{f:FuncId}{y:D}{B C:Option Value}
section
variable{P:Program}{E:Env}{w0:Root}{S:Nat->Nat->Prop}{γ:Nat->Option Nat}{β:Nat->Option (Nat×Nat)}{s:St}{a:Act}{w:World}
def Nq(M:EnvOk P E)(h:Rp w0 S γ β s a w){dst T ty pos after guard}(q:Fr E s γ β ⟨dst,.alloc T,ty,pos,after,guard⟩)(N:∀ t,E.L T=some t->aj t=true):j8 P E w0 S γ β s a w ⟨dst,.alloc T,ty,pos,after,guard⟩:=by
 intro R K r hq;simp[qv] at hq;replace hq:=ab hq;obtain⟨t,p,hq⟩:=hq;replace hq:=ab hq;obtain⟨d,O,hq⟩:=hq;obtain⟨Q,B,V,j⟩:=q rfl d O;cases hfn:E.fnT T with
 | true=>
  have j:=j T (.fv .undef) rfl (by simp[Env.alOb,hfn])
  have e:t=.fn:=by simp[Env.alTy,hfn,cond_true,zda] at p;exact p.symm
  subst e;obtain⟨i,z,hi,_,_,U,_,y⟩:=HC<|M.fnT T hfn;have H:∀ w,(zeroValue T).run P w=.ok z w:=by simp_all [zeroValue,typeInfo]
  obtain⟨C,I⟩:=h.grow (os:=[.cells z.cells T]) (d:=w.drawn) (zja _) (S':=S) (λ_ _ g=>g)<|λ_ _ g=>.inl g;have l:¬ w0.Old w.heap.size:=λc=>by have:=c.1;have:=h.ext.sz;omega
  obtain⟨D,J⟩:=C.newOb (id:=s.base+d) (b:=w.heap.size) B l j2 (λid hid=>by have:=(h.γn id _ hid).2;omega) (λu f a0 q=>by have:=(h.βn u _ _ a0 q).2.1;omega) u0
   (λo c=>by rw[j] at c;cases c;simp[gM];exact⟨λo c=>by have:=h.Sb _ _ c;omega,z,by rw[<-tO y];exact oS,by simp[gn],y⟩)
  refine⟨_,hq,.value (v:=.pointer<|some ⟨w.heap.size,0,none⟩) (w':=grown w [.cells z.cells T] w.drawn) (by rw[<-c9];simp only[execOp,Instr.alloc,newVar,newRow,G,H,zga,run_newObj,zta];rfl) ⟨S,_,β,D,gA (bN _ _ _)<|λo c=>?_,λ_ _ g=>g,⟨_,_,rfl⟩,λid b g=>fM B g,λid hid=>⟨ci _ _ λF=>?_,rfl⟩⟩⟩
  ·have k:s.ob (s.base+d)=some o:=c;rw[j] at k;cases k;exact⟨rfl,rfl⟩
  ·subst F;rcases hid with hid|hid
   ·simp_all
   ·omega
 | false=>
 simp[Env.alTy,hfn,cond_false] at p;have j:=j T (.one t<|mw t) rfl (by simp[Env.alOb,hfn,p])
 have m:=N t p;have hl:=jQ M p m;obtain⟨z,H,A,_⟩:=kJ hl;obtain⟨C,I⟩:=h.grow (os:=[.cells z.cells T]) (d:=w.drawn) (zja _) (S':=S) (λ_ _ g=>g)<|λ_ _ g=>.inl g;have l:¬ w0.Old w.heap.size:=λc=>by have:=c.1;have:=h.ext.sz;omega
 have x:z.cells.toList.length=t.size:=by rw[<-(cK (w:=w) (S:=S) A).1];exact cJ _ _ (c6 t m) m
 obtain⟨D,J⟩:=C.newOb (id:=s.base+d) (b:=w.heap.size) B l j2 (λid hid=>by have:=(h.γn id _ hid).2;omega) (λu f a0 q=>by have:=(h.βn u _ _ a0 q).2.1;omega) u0
  (λo c=>by rw[j] at c;cases c;simp[gM];exact⟨m,yz t m,λo c=>by have:=h.Sb _ _ c;omega,z.cells.toList,by rw[zac];exact oS,EP t _ m A,x⟩)
 refine⟨_,hq,.value (v:=.pointer<|some ⟨w.heap.size,0,none⟩) (w':=grown w [.cells z.cells T] w.drawn) (by rw[<-c9];simp only[execOp,Instr.alloc,newVar,newRow,G,H,zga,run_newObj,zta];rfl) ⟨S,_,β,D,gA (bN _ _ _)<|λo c=>?_,λ_ _ g=>g,⟨_,_,rfl⟩,λid b g=>fM B g,λid hid=>⟨ci _ _ λF=>?_,rfl⟩⟩⟩
 ·have k:=c;have:o=.one t (mw t):=by simp_all
  subst this;exact⟨by cases t<;>rfl,by cases t<;>rfl⟩
 ·subst F;rcases hid with hid|hid
  ·simp_all
  ·omega
def E2{c:Cx}{e:Ty}{y:AV}{v:Value}{ob:Nat->Option Ob}(f:aj e=true)(h:AR c y v)(hl:y.asList ob e=some l):∃ a cap,v=.slice a l.length cap:=by
 obtain⟨_,d⟩:=lD f h hl;obtain⟨a,cap,b,off,g,_⟩:=d.elems
 simp_all
def BX{T:TypeId}{e:Ty}(hl:cb P (.sl e) T=true){A:Option Addr}{len cap lo hi:Nat}(g:lo<=hi)(h:hi<=len)(i:len<=cap)
  (b:(B=none/\lo=0)\/∃ k,B=some (.int k lo)) (a:(C=none/\hi=len)\/∃ k,C=some (.int k hi)) (w:World) :
  (Instr.sliceAt T (.slice A len cap) B C none).run P w=.ok (.slice (if cap=lo then A else A.map (·.add (lo*e.size))) (hi-lo)<|cap-lo) w:=by
 obtain⟨u,d,f⟩:=jF hl;have e1:(0:Int)<=(hi:Int)/\(hi:Int)<=(cap:Int):=u0
 have e2:(0:Int)<=(lo:Int)/\(lo:Int)<=(hi:Int):=u0
 have c:(Instr.sliceBounds true len cap B C none).run P w=.ok (lo,hi,cap) w:=by
  rcases b with⟨rfl,rfl⟩|⟨k,rfl⟩<;>rcases a with⟨rfl,rfl⟩|⟨k',rfl⟩ <;>
   simp_all [Instr.sliceBounds,Instr.sliceBound,asIntOf,pure_bind,G,zta]
 simp[Instr.sliceAt,G,run_underlying d,zga,Instr.slice,c,cp f,zta]
def vD{T:TypeId}{m:Nat}{e:Ty}(hl:cb P (.arr m e) T=true){b off lo hi:Nat}(h:lo<=hi)(i:hi<=m)(j:lo<m)
  (c:(B=none/\lo=0)\/∃ k,B=some (.int k lo)) (a:(C=none/\hi=m)\/∃ k,C=some (.int k hi)) (w:World) :
  (Instr.sliceAt T (.pointer<|some ⟨b,off,none⟩) B C none).run P w=.ok (.slice (some ⟨b,off+lo*e.size,none⟩) (hi-lo)<|m-lo) w:=by
 obtain⟨u,f,g⟩:=fm hl;have e1:(0:Int)<=(hi:Int)/\(hi:Int)<=(m:Int):=u0
 have e2:(0:Int)<=(lo:Int)/\(lo:Int)<=(hi:Int):=u0
 have e3:¬ m=lo:=u0
 have d:(Instr.sliceBounds false m m B C none).run P w=.ok (lo,hi,m) w:=by
  rcases c with⟨rfl,rfl⟩|⟨k,rfl⟩<;>rcases a with⟨rfl,rfl⟩|⟨k',rfl⟩ <;>
   simp_all [Instr.sliceBounds,Instr.sliceBound,asIntOf,pure_bind,G,zta]
 simp[Instr.sliceAt,G,run_underlying f,zga,mW,d,cp g,zta,e3,if_false,dO]
def R8{w:World}{S:Nat->Nat->Prop}{e:Ty}{v:Value}{lo hi:Nat}(i:aj e=true)(m:∀ x∈l,wt e x)(h:CR w S (.sl l) v)(f:lo<=hi)(g:hi<=l.length) :
  ∃ A cap,v=.slice A l.length cap/\l.length<=cap/\CR w S (.sl<|(l.take hi).drop lo) (.slice (if cap=lo then A else A.map (·.add (lo*e.size))) (hi-lo)<|cap-lo):=by
 obtain⟨A,cap,b,off,k,n,o,c⟩:=h.elems;refine⟨A,cap,k,o,?_⟩;have a:((l.take hi).drop lo).length=hi-lo:=by simp;omega
 rw[<-a];have e1:l=l.take lo++((l.take hi).drop lo++l.drop hi):=by rw[<-zPa,show l.take lo=(l.take hi).take lo by rw[List.take_take,zsb f],zza,zza]
 rw[e1,cw,cw] at c;have d:=c.part;rw[aL i _<|λx hx=>m x<|zUa hx,zkb,zsb u0] at d
 refine afw (b:=b) (off:=off+lo*e.size) ?_ (by rw[a];omega) d
 by_cases he:(l.take hi).drop lo=[]
 ·exact .inl he
 ·right;have j:0<hi-lo:=by rw[<-a];exact zYc.2 he
  rw[zha u0]
  rcases n with rfl|rfl
  ·simp at g;omega
  ·simp[zYb,dO]
theorem Nw(L:EnvOk P E)(h:Rp w0 S γ β s a w){dst T x lo hi mx ty pos after guard}:j8 P E w0 S γ β s a w ⟨dst,.slice T x lo hi mx,ty,pos,after,guard⟩:=by
 intro R K r hq;simp[qv] at hq;split at hq<;>try(cases hq;done)
 replace hq:=ab hq;obtain⟨t,M,hq⟩:=hq;have num:∀ {i:Operand} {n:Nat},((isD<|s.opA i).bind λa=>a.2.natOf)=some n->∃ k,a.eval i=.int k n:=by intro i n U;obtain⟨p,N,O⟩:=ab U;obtain⟨kk,Q⟩:=ux O;have J:=aT h i;rw[eS N,Q] at J;exact⟨kk,(fg J).1⟩
 cases t<;>(try simp only at hq)<;>try(cases hq;done)
 case arr m e=>
  rcases L.lay T _ M with⟨ts',z⟩|hl
  ·cases z
  have C:=aJ _ _ hl;simp[aj] at C;have hx:=aT h x;generalize s.opA x=y at *;cases y<;>(try simp only at hq)<;>try(cases hq;done)
  rename_i t' id p;split at hq<;>try(cases hq;done)
  rename_i B;have:=ags _ _ B;subst this;replace hq:=ab hq;obtain⟨c,H,hq⟩:=hq;replace hq:=ab hq;obtain⟨d,a0,hq⟩:=hq;split at hq<;>try(cases hq;done)
  rename_i q;obtain⟨b,off,I,hγ,V⟩:=lj hx;have j:((lo.map a.eval)=none/\c=0)\/∃ k,(lo.map a.eval)=some (.int k c):=by all_goals grind
  have f:((hi.map a.eval)=none/\d=m)\/∃ k,(hi.map a.eval)=some (.int k d):=by all_goals grind
  have o:=vD hl (b:=b) (off:=off) q.1 q.2.1 q.2.2 j f w;refine⟨_,hq,.value (v:=.slice (some ⟨b,off+c*e.size,none⟩) (d-c)<|m-c) (w':=w) (by simp[execOp,Option.map_none,I,G,o,zga,zta])<|Qp.same h ?_ _⟩
  simp[AR,AC,Value.cells];grind
 rename_i e;rcases L.lay T _ M with⟨ts',z⟩|hl
 ·cases z
 have C:=aJ _ _ hl;simp[aj] at C;replace hq:=ab hq;obtain⟨l,u,hq⟩:=hq;replace hq:=ab hq;obtain⟨c,H,hq⟩:=hq;replace hq:=ab hq;obtain⟨d,a0,hq⟩:=hq;replace hq:=ab hq;obtain⟨l',g,hq⟩:=hq;simp only[D.cut] at g;split at g<;>try(cases g;done)
 rename_i B;simp[zda] at g;subst g;obtain⟨X,Y⟩:=lD C (aT h x) u;obtain⟨A,cap,I,F,Z⟩:=R8 C X Y B.1 B.2;have j:((lo.map a.eval)=none/\c=0)\/∃ k,(lo.map a.eval)=some (.int k c):=by all_goals grind
 have f:((hi.map a.eval)=none/\d=l.length)\/∃ k,(hi.map a.eval)=some (.int k d):=by all_goals grind
 have o:=BX hl (A:=A) (len:=l.length) (cap:=cap) B.1 B.2 F j f w;have W:wt (.sl e) (.sl<|(l.take d).drop c):=by grind [wt]
 exact⟨_,hq,.value (w':=w) (by simp[execOp,Option.map_none,I,G,o,zga,zta])<|Qp.same h (dC (by simpa [aj] using C) W<|afQ Z) _⟩
theorem P6(F:EnvOk P E)(h:Rp w0 S γ β s a w){dst T x ty pos after guard}:j8 P E w0 S γ β s a w ⟨dst,.sliceToArrayPointer T x,ty,pos,after,guard⟩:=by
 intro R K r hq;simp only[qv] at hq;replace hq:=ab hq;obtain⟨t,H,hq⟩:=hq;have hx:=aT h x;generalize s.opA x=y at *;cases t<;>(try simp only at hq)<;>try(cases hq;done)
 rename_i n e;have plain:(y.asList s.ob e).bind (λl=>if decide (1<=n)&&decide (n<=l.length) then K (.fptr (.arr n e)<|.st<|l.take n) else none)=some r ->
   ∃ v,K v=some r/\fh P ⟨dst,.sliceToArrayPointer T x,ty,pos,after,guard⟩ a w (Qp w0 S γ β s a w dst v):=λhq=>by
  replace hq:=ab hq;obtain⟨l,o,hq⟩:=hq;split at hq<;>try(cases hq;done)
  rename_i g;simp only[Y,zea] at g;rcases F.lay T _ H with⟨ts',d⟩|hl
  ·cases d
  obtain⟨u,B,q⟩:=fm hl;have a1:=aJ _ _ q;obtain⟨a0,O⟩:=lD a1 hx o;obtain⟨A,cap,b,off,C,I,_,f⟩:=O.elems;have i:=I.resolve_left λh0=>by subst h0;simp at g;omega
  subst i;have c:¬ l.length<n:=u0
  refine⟨_,hq,.value (v:=.pointer<|some ⟨b,off,none⟩) (w':=w) (by simp only[execOp,C,Instr.arrayAt,G,run_underlying B,zga,c,if_false,zta])<|Qp.same h ?_ _⟩
  simp only[AR,AC,Value.cells];refine⟨j2,by simp only[wt];exact⟨_,rfl,by simp;omega,λx hx=>a0 x<|zUa hx⟩,by simpa only[aj] using a1,b,off,rfl,?_⟩
  have e:N l=[]++(N (l.take n)++N (l.drop n)):=by rw[z7b,<-cw,zza]
  rw[e] at f;simpa [D.flat] using f.part
 cases y<;>(try simp only at hq)<;>first|exact plain hq|skip
 rename_i sl Q id p lo n';split at hq<;>try(cases hq;done)
 rename_i g;simp[Y,zea] at g;obtain⟨⟨j,k⟩,J⟩:=g;subst j;have:=ags _ _ k;subst this;rcases F.lay T _ H with⟨ts',d⟩|hl
 ·cases d
 obtain⟨u,B,_⟩:=fm hl;simp only[AR,AC,if_true] at hx;obtain⟨z,L,b,off,cap,m,U,M⟩:=hx;have C:=ak z m;have c:¬ n'<n:=u0
 refine⟨_,hq,.value (v:=.pointer<|some ⟨b,off,none⟩) (w':=w) (by simp[execOp,C,Instr.arrayAt,G,run_underlying B,zga,c,if_false,zta])<|Qp.same h ?_ _⟩
 grind [AR,AC,Value.cells]
theorem uJ(h:Rp w0 S γ β s a w):∀ (ts:List Ty) (l:List Operand) (xs:List D),aP ts=true->AV.toDl s.ob ts (l.map s.opA)=some xs ->
  fq ts xs/\(l.map a.eval).length=xs.length/\∀ (i:Nat) (x:D) (v:Value),xs[i]?=some x->(l.map a.eval)[i]?=some v->ge w S x v
 | ts,[],xs,_,hx=>by all_goals grind [AV.toDl,Option.some.injEq,fq]
 | ts,y::l,xs,d,hx=>by
  cases ts<;>simp[z4a,AV.toDl] at hx<;>try(cases hx;done)
  rename_i t ts;obtain⟨x,g,j⟩:=ab hx;obtain⟨f,k,e⟩:=ab j;simp[zda] at e;subst e;simp[aP,Y] at d;obtain⟨m,n⟩:=pS d.1 (aT h y) g;obtain⟨o,p,q⟩:=uJ h ts l f d.2 k;refine⟨by simp only[fq];exact⟨x,f,rfl,m,o⟩,by simpa using p,λi z v c b=>?_⟩
  cases i with
  | zero=>simp at c b;subst c;subst b;exact n
  | succ i=>simp only[zlb,z4a] at c b;exact q i z v c b
theorem Ac:∀ {l:List Nat} {i j x:Nat},dA l=true->l[i]?=some x->l[j]?=some x->i=j
 | [],_,_,_,_,h,_=>by simp at h
 | a::l,i,j,x,h,hi,b=>by
  simp[dA,Y,zCa] at h;have d:∀ k,l[k]?≠some a:=λk c=>by
   have:l.contains a=true:=by rw[List.contains_iff_mem];exact zfb c
   simp_all
  cases i with
  | zero=> all_goals grind
  | succ i=>
   cases j with
   | zero=>simp at hi b;subst b;exact z8a hi (d i)
   | succ j=>simp at hi b;rw[Ac h.2 hi b]
theorem yy:∀ {ts b:List Ty} {xs a:List D},fq ts xs->fq b a->fq (ts++b) (xs++a)
 | [],b,xs,a,h,k=>by simp_all [fq]
 | t::ts,b,xs,a,h,k=>by simp[fq] at h;obtain⟨d,l,rfl,c,e⟩:=h;simp only[zrb,fq];exact⟨d,l++a,rfl,c,yy e k⟩
theorem CM(h:Rp w0 S γ β s a w):∀ (ts:List Ty) (l:List AV) (e:List D) (caps:List Value),rW s.ob ts l=some e->pi ⟨w,S,γ,β,s.ob,s.dead⟩ l caps ->
  ∃ d:List Nat,caps=d.map JA/\fq ts e/\d.length=e.length/\l.length=d.length/\(∀ (i b:Nat),d[i]?=some b->∃ id:Nat,(wM l)[i]?=some id/\γ id=some b)/\∀ (i:Nat) (x:D) (b:Nat),e[i]?=some x->d[i]?=some b->R9 w S x b
 | [],l,e,caps,c,f=>by
  cases l with
  | nil=> simp[rW,zda] at c;subst c;simp[pi] at f;subst f;exact⟨[],rfl,by simp[fq],rfl,rfl,λi b h=>by simp at h,λi x b h=>by simp at h⟩
  | cons x l=>simp[rW] at c
 | t::ts,l,e,caps,c,f=>by
  cases l with
  | nil=>simp[rW] at c
  | cons x l=>
   cases x<;>first|(simp[rW] at c;done)|skip
   rename_i u id p;cases p<;>first|(simp[rW] at c;done)|skip
   simp[rW] at c;split at c<;>try(cases c;done)
   rename_i N v m;split at c<;>try(cases c;done)
   rename_i y;have:=ags _ _ y;subst this;obtain⟨z,q,c⟩:=ab c;obtain⟨g,r,c⟩:=ab c;cases c;simp[pi] at f;obtain⟨v',o,rfl,n,C⟩:=f;obtain⟨d,rfl,q1,H,I,J,K⟩:=CM h ts l g o r C;simp only[AC] at n;obtain⟨b,off,e1,e2,e3⟩:=n;obtain⟨_,e4⟩:=e3 _ m;have e5:=e4;subst e5;have k:=h.obs id _ b m e2;simp only[gM] at k;obtain⟨_,_,E,cs,F,G,_⟩:=k;obtain⟨L,M,_⟩:=uI _ _ _ _ q G;refine⟨b::d,by simp only[zDd,and_true] at e1;rw[e1];rfl,by simp only[fq];exact⟨z,g,rfl,L,q1⟩,by simp[H],by simp[I],λi b' hi=>?_,λi x b' hx hi=>?_⟩
   ·cases i with
    | zero=>simp at hi;subst hi;exact⟨id,rfl,e2⟩
    | succ i=>simp[zlb] at hi;obtain⟨j,A,B⟩:=J i b' hi;exact⟨j,by simpa [wM] using A,B⟩
   ·cases i with
    | zero=>simp at hx hi;subst hx;subst hi;exact⟨E,cs,F,M⟩
    | succ i=>simp[zlb] at hx hi;exact K i x b' hx hi
def za (h : Rp w0 S γ β s a w) {o : Oper} {f : FuncId} {rty : Ty} {y : D} (n2 : aj rty = true \/ ∃ ts, rty = .tup ts /\ aP ts = true) {fn : Func} (f1 : P.funcs[f]? = some fn) (f2 : (fn.name == "runtime.NumGoroutine") = false) (f3 : fn.body.isSome = true)
  (vs:List Value) (hx:(execOp a.eval o).run P w=.ok (.enter f vs.toArray) w)
  (hc:Calls P f vs.toArray w λe w'=>∃ v,e=.returned v/\(∃ os d,w.drawn<=d/\w'=grown w os d)/\wt rty y/\DR w' (λb o=>S b o\/(w.heap.size<=b/\b<w'.heap.size)) y v) :
  fh P o a w (Qp w0 S γ β s a w o.dst<|.d rty y):=by
 refine .enter (f:=f) (args:=vs.toArray) (w':=w) hx<|hc.mono λe w' ⟨v,he,⟨os,d,hdr0,hw'⟩,hwt,hdr⟩=>⟨v,he,?_⟩;subst hw';obtain⟨h1,le1⟩:=h.grow (os:=os) (d:=d) hdr0 (S':=λb o=>S b o\/(w.heap.size<=b/\b<(grown w os d).heap.size)) (λ_ _ hb=>.inl hb)<|λ_ _ hb=>hb;refine⟨_,γ,β,h1,?_,λ_ _ hb=>.inl hb,⟨os,d,rfl⟩,λ_ _ hb=>hb,λ_ _=>⟨rfl,rfl⟩⟩;simp only[AR];rcases n2 with n2|⟨ts,rfl,n2⟩
 ·refine .inl ⟨n2,hwt,?_⟩;cases rty<;>simp only[wt] at hwt<;>first
   | (obtain⟨m,rfl⟩:=hwt;exact hdr)
   | (obtain⟨m,rfl,_⟩:=hwt;exact hdr)
   | (exact hwt.elim)
   | (simp[aj] at n2)
 ·simp_all
def LE(h:Rp w0 S γ β s a w){o:Oper}{t:Ty}{d:Nat}(X:o.dst=some d)(H:d<4096)(O:β (s.base+d)=none){fn:Func}(W:P.funcs[f]?=some fn){c:List Ty}{xs:List D}
  (vs:List Value) (hx:(execOp a.eval o).run P w=.ok (.enter f vs.toArray) w) (G:Kq P c t f xs l) (Q:fq c xs) (R:vs.length=xs.length) (T:∀ (i:Nat) (x:D) (v:Value),xs[i]?=some x->vs[i]?=some v->ge w S x v) :
  fh P o a w (Qp w0 S γ β s a w o.dst<|.own t (s.base+d) l):=by
 refine .enter (f:=f) (args:=vs.toArray) (w':=w) hx<|(G w S vs h.Sb Q R T).mono λe w' ⟨A,cap,I,⟨os,dr,j,y⟩,m,p,S',s1,s2,g,E⟩=>⟨_,I,?_⟩;subst y;obtain⟨B,U⟩:=h.grow (os:=os) (d:=dr) j (S':=S') s1 s2;rcases E with⟨rfl,rfl⟩|⟨b,off,rfl,⟨F,r⟩,L,k⟩
 ·refine⟨S',γ,β,B,?_,s1,⟨os,dr,rfl⟩,λ_ _ q=>q,λ_ _=>⟨rfl,rfl⟩⟩;simp only[AR,AC,Value.cells];exact⟨j2,m,p,none,0,rfl,g,λ_=>.inl ⟨rfl,rfl⟩⟩
 ·have z:¬ w0.Old b:=λM=>by have:=M.1;have:=h.ext.sz;omega
  obtain⟨C,V⟩:=B.newTok (v:=s.base+d) (b:=b) (e:=off+l.length*t.size) O z r (λid hid=>by have:=(h.γn id _ hid).2;omega) (λu f N J=>by have:=(h.βn u _ _ N J).2.1;omega) u0 k
  refine⟨S',γ,pQ β (s.base+d) (b,off+l.length*t.size),C,?_,s1,⟨os,dr,rfl⟩,λ_ _ q=>q,λid hid=>⟨rfl,ci β _ λK=>?_⟩⟩
  ·simp only[AR,AC,Value.cells];exact⟨j2,m,p,_,cap,rfl,g,λ_=>.inr ⟨b,off,rfl,by simp[bN],L⟩⟩
  ·subst K;rcases hid with hid|hid
   ·simp_all
   ·omega
def DX(h:Rp w0 S γ β s a w){t:Ty}{d:Nat}(I:β (s.base+d)=none)(C:d<4096){S':Nat->Nat->Prop}{os:List Obj}{dr:Nat}(g:w.drawn<=dr)(s1:∀ b o,S b o->S' b o)(s2:∀ b o,S' b o->S b o\/(w.heap.size<=b/\b<(grown w os dr).heap.size))
  {v0:Value} (H:IA w (grown w os dr) S' t l v0):∃ r,Rp w0 S' γ r s a (grown w os dr)/\(∀ cs,v0≠.agg cs)/\v0.cells.toList=[v0]/\AC ⟨grown w os dr,S',γ,r,s.ob,s.dead⟩ (.own t (s.base+d) l) [v0]/\∀ u,u≠s.base+d->r u=β u:=by
 obtain⟨A,cap,rfl,j,k,c,z⟩:=H;obtain⟨x,J⟩:=h.grow (os:=os) (d:=dr) g (S':=S') s1 s2;rcases z with⟨rfl,rfl⟩|⟨b,off,rfl,⟨B,m⟩,F,i⟩
 ·refine⟨β,x,j2,rfl,?_,λ_ _=>rfl⟩
  simp only[AC];exact⟨j,k,none,0,rfl,c,λ_=>.inl ⟨rfl,rfl⟩⟩
 ·have q:¬ w0.Old b:=λG=>by have:=G.1;have:=h.ext.sz;omega
  obtain⟨y,K⟩:=x.newTok (v:=s.base+d) (b:=b) (e:=off+l.length*t.size) I q m (λid hid=>by have:=(h.γn id _ hid).2;omega) (λu f p E=>by have:=(h.βn u _ _ p E).2.1;omega) u0 i
  refine⟨pQ β (s.base+d) (b,off+l.length*t.size),y,j2,rfl,?_,λu p=>ci β _ p⟩
  simp only[AC];exact⟨j,k,_,cap,rfl,c,λ_=>.inr ⟨b,off,rfl,by simp[bN],F⟩⟩
theorem lV{R:Type}:∀ (ts:List Ty) (i:Nat) (k:List AV->Option R),nr y i ts k=(nr y i ts some).bind k
 | [],i,k=>rfl
 | t::ts,i,k=>by
  simp[nr];cases y.fld i with
  | none=>rfl
  | some z=> simp[zba];rw[lV ts (i+1)<|λl=>k<|.d t z::l,lV ts (i+1)<|λl=>some<|.d t z::l,Option.bind_assoc];rfl
theorem Ed{c:Cx}{y:D}:∀ (ts:List Ty) (d:List D) (i:Nat) (r:List AV) (cs:List Value),aP ts=true->fq ts d->(∀ j,(y.fld<|i+j)=d[j]?)->nr y i ts some=some r->c7 c.w c.S (N d) cs->AV.fitss ts r=true/\jW c r cs
 | [],d,i,r,cs,_,b,_,a,e=>by simp[fq] at b;subst b;simp[nr,zda] at a;subst a;refine⟨rfl,?_⟩;simp[jW];exact zcd (by rw[<-e.1];rfl)
 | t::ts,d,i,r,cs,f,b,k,a,e=>by
  simp[fq] at b;obtain⟨x,l,rfl,g,h⟩:=b;simp[aP,Y] at f;simp[nr] at a;obtain⟨z,o,a⟩:=ab a;rw[lV] at a;obtain⟨l',p,a⟩:=ab a;cases a;have h0:=k 0;rw[zXb,o] at h0;simp at h0;subst h0;simp[N] at e;obtain⟨m,n⟩:=e.split;obtain⟨q1,q⟩:=Ed (c:=c) ts l (i+1) l' _ f.2 h (λj=>by have:=k<|j+1;rw[show i+1+j=i+(j+1) by omega,this];rfl) p n
  refine⟨by simp[AV.fitss,Y];exact⟨bW t z,q1⟩,?_⟩
  simp[jW];exact⟨_,_,(zza _ _).symm,by simp[AC];exact⟨g,f.1,m⟩,q⟩
def zd(h:Rp w0 S γ β s a w){o:Oper}{k:Ty}{d:Nat}(V:o.dst=some d)(m:d<4096)(J:β (s.base+d)=none){g:List Ty}{xs:List D}{x:AV}
  (hx:(∃ t ts,k=.tup (.sl t::ts)/\x=.tpo t (s.base+d) ts y)\/∃ t ts z l r,k=.st (.sl t::ts)/\y.fld 0=some z/\z.asSl=some l/\nr y 1 ts some=some r/\x=.st (.sl t::ts) (.own t (s.base+d) l::r))
  (vs:List Value) (n:(execOp a.eval o).run P w=.ok (.enter f vs.toArray) w) (M:Kr P g k f xs y) (Q:fq g xs) (R:vs.length=xs.length) (T:∀ (i:Nat) (x:D) (v:Value),xs[i]?=some x->vs[i]?=some v->ge w S x v) :
  fh P o a w (Qp w0 S γ β s a w o.dst x):=by
 refine .enter (f:=f) (args:=vs.toArray) (w':=w) n<|(M w S vs h.Sb Q R T).mono λe w' ⟨v,N,⟨os,dr,b,E⟩,S',s1,s2,p⟩=>⟨_,N,?_⟩;subst E;rcases hx with⟨t,ts,rfl,rfl⟩|⟨t,ts,z,l,r,rfl,I,hl,O,rfl⟩
 ·simp[wv] at p;obtain⟨l,q,v0,H,e1,e2,e3,e4,e5,e6,e7⟩:=p;obtain⟨u,q1,K,L,F,G⟩:=DX h J m b s1 s2 e3;refine⟨S',γ,u,q1,?_,s1,⟨os,dr,rfl⟩,λ_ _ A=>A,λid hid=>⟨rfl,G id λB=>?_⟩⟩
  ·simp[AR];exact⟨l,q,v0,H,e1,e2,K,by rw[L];exact F,e4,e5,e6,e7⟩
  ·subst B;rcases hid with hid|hid
   ·simp_all
   ·omega
 ·simp only[wv] at p;obtain⟨W,q,v0,cs,e1,e2,e3,e4,e5,e6⟩:=p;subst e1;simp[D.fld,zAb,zda] at I;subst I;cases hl;obtain⟨u,q1,K,L,F,G⟩:=DX h J m b s1 s2 e3;obtain⟨m1,m2⟩:=Ed (c:=⟨grown w os dr,S',γ,u,s.ob,s.dead⟩) (y:=.st<|.sl l::q) ts q 1 r cs e4 e5 (λj=>by rw[zhc];rfl) O e6
  refine⟨S',γ,u,q1,?_,s1,⟨os,dr,rfl⟩,λ_ _ A=>A,λid hid=>⟨rfl,G id λB=>?_⟩⟩
  ·have C:aj t=true:=by
    obtain⟨_,_,_,U,_⟩:=e3;exact U
   simp[AR,AC];refine⟨⟨_,e2⟩,by simp[aP,aj,Y];exact⟨C,e4⟩,?_,?_⟩
   ·simp[AV.fitss,AV.fits,Y];exact⟨agr t,m1⟩
   ·rw[e2];simp[Value.cells,jW];exact⟨[v0],cs,rfl,F,m2⟩
  ·subst B;rcases hid with hid|hid
   ·simp_all
   ·omega
def P7(hE:EnvOk P E)(h:Rp w0 S γ β s a w){dst c ty pos after guard}(hf:Fr E s γ β ⟨dst,.call c,ty,pos,after,guard⟩):j8 P E w0 S γ β s a w ⟨dst,.call c,ty,pos,after,guard⟩:=by
 intro R K r hq;obtain⟨callee,args,argTypes⟩:=c;simp only[qv] at hq;split at hq<;>try(cases hq;done)
 case h_1=>
  replace hq:=ab hq;obtain⟨T,hT,hq⟩:=hq;replace hq:=ab hq;obtain⟨t,ht,hq⟩:=hq;replace hq:=ab hq;obtain⟨x,hx,hq⟩:=hq;have hx':(args.map a.eval)[0]?=some (a.eval x):=by simp[hx]
  have hex:execOp a.eval ⟨dst,.call ⟨.builtin .len,args,argTypes⟩,ty,pos,after,guard⟩=(Builtin.len_ argTypes ty (args.map a.eval) >>= λv=>pure<|.value v):=rfl;cases t<;>(try simp only at hq)<;>try(cases hq;done)
  case sl e=>
   rcases hE.lay T _ ht with⟨ts',hts⟩|hl
   ·cases hts
   have hn:=aJ _ _ hl;simp only[aj] at hn;obtain⟨u,k1,_⟩:=jF hl;have run:∀ {A:Option Addr} {n cap:Nat},a.eval x=.slice A n cap->(execOp a.eval ⟨dst,.call ⟨.builtin .len,args,argTypes⟩,ty,pos,after,guard⟩).run P w=.ok (.value<|.int .i64 n) w:=by simp_all [Builtin.len_,run_underlying,k1,goInt]
   by_cases hm:∃ t' id,s.opA x=.mem t' id
   ·obtain⟨t',id,hm⟩:=hm;have hx2:=aT h x;rw[hm] at hq hx2;simp only at hq;split at hq<;>try(cases hq;done)
    split at hq<;>try(cases hq;done)
    rename_i u' l hob;obtain⟨_,b,hγ,hob2⟩:=Kk hx2;obtain⟨l',cap,e1,_,hv⟩:=hob2 _ hob;cases e1;exact⟨_,hq,.value (run hv)<|Qp.same h (cP _ _) _⟩
   ·by_cases hs:∃ sl t' id p lo n,s.opA x=.sub sl t' id p lo n
    ·obtain⟨sl,t',id,p,lo,n,hm⟩:=hs;have hx2:=aT h x;rw[hm] at hq hx2;simp only at hq;split at hq<;>try(cases hq;done)
     rename_i hb;simp only[Y] at hb;obtain⟨rfl,hb⟩:=hb;obtain⟨b,off,cap,hv,_⟩:=Kl hx2;exact⟨_,hq,.value (run hv)<|Qp.same h (cP _ _) _⟩
    have hq':((s.opA x).asList s.ob e).bind (λl=>K<|.d (.int .i64)<|.int .i64 l.length)=some r:=by
     split at hq
     ·exact z8a ⟨_,_,by assumption⟩ hm
     ·exact z8a ⟨_,_,_,_,_,_,by assumption⟩ hs
     ·exact hq
    obtain⟨l,h1,hq⟩:=ab hq';obtain⟨A,cap,hv⟩:=E2 hn (aT h x) h1;exact⟨_,hq,.value (run hv)<|Qp.same h (cP _ _) _⟩
  case arr n e=>
   rcases hE.lay T _ ht with⟨ts',hts⟩|hl
   ·cases hts
   obtain⟨u,k1,_⟩:=fm hl;exact⟨_,hq,.value (v:=.int .i64 n) (w':=w) (by rw[hex];simp[Builtin.len_,hT,hx',run_underlying k1,goInt])<|Qp.same h (cP _ _) _⟩
  case str=>
   rcases hE.lay T _ ht with⟨ts',hts⟩|hl
   ·cases hts
   replace hq:=ab hq;obtain⟨p,hp,hq⟩:=hq;split at hq<;>try(cases hq;done)
   rename_i hb;replace hq:=ab hq;obtain⟨z,hz,hq⟩:=hq;have hx2:=aT h x;rw[eS hp] at hx2;obtain⟨t',x'⟩:=p;have e:=ags _ _ hb;simp only at e;subst e;obtain⟨k1,k2⟩:=Cs hx2 rfl;simp[wt] at k1;obtain⟨sb,rfl⟩:=k1;simp[D.slen,zda] at hz;subst hz;have hsv:a.eval x=.string sb:=by obtain⟨c1,c2⟩:=k2;obtain⟨c,e,h⟩:=c7.single' c2;have:=ak c1 e;rw[this];cases h;rfl
   have hu:P.underlying T=some .string:=by simp[cb,Y] at hl;all_goals grind
   exact⟨_,hq,.value (v:=.int .i64 sb.size) (w':=w) (by rw[hex];simp[Builtin.len_,hT,hx',run_underlying hu,hsv,goInt])<|Qp.same h (cP _ _) _⟩
 case h_2=>
  split at hq<;>try(cases hq;done)
  rename_i x y he;have he':(args.map a.eval).toList=[a.eval x,a.eval y]:=by simp[he]
  replace hq:=ab hq;obtain⟨p,hp,hq⟩:=hq;replace hq:=ab hq;obtain⟨q,hqq,hq⟩:=hq;split at hq<;>try(cases hq;done)
  replace hq:=ab hq;obtain⟨z,hz,hq⟩:=hq;have h1:=aT h x;have h2:=aT h y;rw[eS hp] at h1;rw[eS hqq] at h2;cases hp2:p.2<;>rw[hp2] at hz h1<;>cases hq2:q.2<;>rw[hq2] at hz h2<;>simp only[D.min2] at hz<;>try(cases hz;done)
  rename_i k n k' m;simp only[zda] at hz;subst hz;obtain⟨v1,t1⟩:=fg h1;obtain⟨v2,_⟩:=fg h2;have hex:execOp a.eval ⟨dst,.call ⟨.builtin .min,args,argTypes⟩,ty,pos,after,guard⟩=(Builtin.min_ argTypes ty (args.map a.eval) >>= λv=>pure<|.value v):=rfl;refine⟨_,hq,.value (v:=.int k<|if m<n then m else n) (w':=w) ?_<|Qp.same h (by rw[t1];exact cP _ _) _⟩
  simp_all [Builtin.min_,v1,v2,Builtin.min2]
 case h_3=>
  split at hq<;>try(cases hq;done)
  rename_i x y he;have he':(args.map a.eval).toList=[a.eval x,a.eval y]:=by simp[he]
  replace hq:=ab hq;obtain⟨p,hp,hq⟩:=hq;replace hq:=ab hq;obtain⟨q,hqq,hq⟩:=hq;split at hq<;>try(cases hq;done)
  replace hq:=ab hq;obtain⟨z,hz,hq⟩:=hq;have h1:=aT h x;have h2:=aT h y;rw[eS hp] at h1;rw[eS hqq] at h2;cases hp2:p.2<;>rw[hp2] at hz h1<;>cases hq2:q.2<;>rw[hq2] at hz h2<;>simp only[D.max2] at hz<;>try(cases hz;done)
  rename_i k n k' m;simp only[zda] at hz;subst hz;obtain⟨v1,t1⟩:=fg h1;obtain⟨v2,_⟩:=fg h2;have hex:execOp a.eval ⟨dst,.call ⟨.builtin .max,args,argTypes⟩,ty,pos,after,guard⟩=(Builtin.max_ argTypes ty (args.map a.eval) >>= λv=>pure<|.value v):=rfl;refine⟨_,hq,.value (v:=.int k<|if m>n then m else n) (w':=w) ?_<|Qp.same h (by rw[t1];exact cP _ _) _⟩
  simp_all [Builtin.max_,v1,v2,Builtin.max2]
 case h_4 f=>
  replace hq:=ab hq;obtain⟨g,hg,hq⟩:=hq;cases hfr:Nat.beq (E.free f) 0 with
  | false=>rw[hfr] at hq;cases hq
  | true=>
  rw[hfr] at hq;replace hq:=ab hq;obtain⟨xs,hxs,hq⟩:=hq;replace hq:=ab hq;obtain⟨y,hy,hq⟩:=hq;obtain⟨ptys,rty⟩:=g;obtain⟨n1,n2,fn,f1,f2,f3⟩:=hE.sig f ptys rty hg;obtain⟨k1,k2,k3⟩:=uJ h ptys args.toList xs n1 hxs;obtain⟨hc,hc2⟩:=hE.call f ptys rty xs y hg hy k1;rw[z3b hfr] at hc;have hrun:(execOp a.eval ⟨dst,.call ⟨.value<|.func f,args,argTypes⟩,ty,pos,after,guard⟩).run P w=.ok (.enter f (args.toList.map a.eval).toArray) w:=by
   have hm:args.map a.eval=(args.toList.map a.eval).toArray:=zkc j2
   have f2' : ¬ fn.name = "runtime.NumGoroutine" := by simpa using f2
   have hb':¬ fn.body=none:=i4
   simp[execOp,resolve,Act.eval,Deferred.ofValue,invoke,callFunc,f1,f2',hb',hm]
  cases how:E.ownF f with
  | true=>
   rw[how] at hq;simp[cond_true] at hq;replace hq:=ab hq;obtain⟨d,hd,hq⟩:=hq;obtain⟨hd4,_,hβ,_⟩:=hf rfl d hd;rcases hc2 how with⟨t,l,rfl,rfl,hc3⟩|hc3
   ·replace hq:=ab hq;obtain⟨l',hl',hq⟩:=hq;cases hl';exact⟨_,hq,LE h hd hd4 hβ f1 (args.toList.map a.eval) hrun hc3 k1 k2 k3⟩
   ·split at hq<;>try(cases hq;done)
    ·replace hq:=ab hq;obtain⟨l',hl',hq⟩:=hq;exact⟨_,hq,.enter (f:=f) (args:=(args.toList.map a.eval).toArray) (w':=w) hrun<|(hc3 w S (args.toList.map a.eval) h.Sb k1 k2 k3).mono λe w' ⟨v,_,_,_,_,_,hh⟩=>by simp[wv] at hh⟩
    ·exact⟨_,hq,zd h hd hd4 hβ (.inl ⟨_,_,rfl,rfl⟩) (args.toList.map a.eval) hrun hc3 k1 k2 k3⟩
    ·replace hq:=ab hq;obtain⟨z,hz,hq⟩:=hq;replace hq:=ab hq;obtain⟨l',hl',hq⟩:=hq;rw[lV] at hq;replace hq:=ab hq;obtain⟨r',hr',hq⟩:=hq;exact⟨_,hq,zd h hd hd4 hβ (.inr ⟨_,_,z,l',r',rfl,hz,hl',hr',rfl⟩) (args.toList.map a.eval) hrun hc3 k1 k2 k3⟩
  | false=> rw[how] at hq;exact⟨_,hq,za h n2 f1 f2 f3 (args.toList.map a.eval) hrun<|hc w S (args.toList.map a.eval) h.Sb k1 k2 k3⟩
 case h_5 t=>
  split at hq<;>try(cases hq;done)
  rename_i f l ht;replace hq:=ab hq;obtain⟨g,hg,hq⟩:=hq;cases hfr:(Nat.beq (E.free f) l.length&&dA (wM l)) with
  | false=>rw[hfr] at hq;cases hq
  | true=>
  rw[hfr] at hq;simp only[Y] at hfr;obtain⟨hfr,hnd⟩:=hfr;have hfr:=z3b hfr;replace hq:=ab hq;obtain⟨xs,hxs,hq⟩:=hq;replace hq:=ab hq;obtain⟨zs,hzs,hq⟩:=hq;replace hq:=ab hq;obtain⟨y,hy,hq⟩:=hq;obtain⟨ptys,rty⟩:=g;obtain⟨n1,n2,fn,f1,f2,f3⟩:=hE.sig f ptys rty hg;obtain⟨k1,k2,k3⟩:=uJ h _ args.toList xs (jt _ n1) hxs;have hA:=aT h<|.tmp t;have hA':AR ⟨w,S,γ,β,s.ob,s.dead⟩ (.clo f l) (a.eval<|.tmp t):=by rw[<-ht];exact hA
  simp[AR,AC] at hA';obtain⟨na,caps,hcs,hcap⟩:=hA';have hv:=ak na hcs;obtain⟨bs,rfl,q1,q2,q3,q4,q5⟩:=CM h _ l zs caps hzs hcap;have hwt:fq ptys (xs++zs):=by
   have:=yy k1 q1
   rwa [zza] at this
  have hc:=(hE.call f ptys rty (xs++zs) y hg hy hwt).1;have hx:(execOp a.eval ⟨dst,.call ⟨.value<|.tmp t,args,argTypes⟩,ty,pos,after,guard⟩).run P w=.ok (.enter f (args.toList.map a.eval++bs.map JA).toArray) w:=by
   have hm:args.map a.eval=(args.toList.map a.eval).toArray:=zkc j2
   have f2' : ¬ fn.name = "runtime.NumGoroutine" := by simpa using f2
   have hb':¬ fn.body=none:=i4
   simp[execOp,resolve,hv];simp[Deferred.ofValue,invoke,callFunc,f1,f2',hb',hm]
  refine⟨_,hq,za h n2 f1 f2 f3 (args.toList.map a.eval++bs.map JA) hx ?_⟩;rw[hfr] at hc;cases l with
  | nil=>
   have hb0:=z8b.1 (by simpa using q3.symm)
   have hz0:=z8b.1 (by rw[<-q2,hb0];rfl)
   subst hb0;subst hz0;simp[zic,zmd] at hc ⊢;exact hc w S (args.toList.map a.eval) h.Sb (by simpa using hwt) k2 k3
  | cons x l=>
   refine hc w S (args.toList.map a.eval) bs h.Sb hwt q3.symm (by rw[k2,zFa,<-q2,<-q3];rfl) (λi j b hi hj=>?_) (λi x v hx hv=>?_) λi x b hx hb=>?_
   ·obtain⟨id,e1,e2⟩:=q4 i b hi;obtain⟨id',e3,e4⟩:=q4 j b hj;have:=h.γi id id' b e2 e4;subst this;exact Ac hnd e1 e3
   ·grind
   ·grind
def YD(b:EnvOk P E)(h:Rp w0 S γ β s a w){o:Oper}(d:Fr E s γ β o)(g:∀ T t,o.op=.alloc T->E.L T=some t->aj t=true):j8 P E w0 S γ β s a w o:=by
 obtain⟨e,op,ty,pos,after,guard⟩:=o;cases op
 case move x=>exact P9 h
 case assign x=>exact JC h
 case pick c x y=>exact Qa h
 case alloc T=>exact Nq b h d (λt=>g T t rfl)
 case load T x=>exact P8 b h
 case lookup T x i c=>exact JD b h
 case fieldAddr T x f=>exact BP b h
 case indexAddr T x i=>exact BQ b h
 case field T x f=>exact Nu b h
 case index T x f=>exact Nv b h
 case binOp op T x y T'=>exact Nr b h
 case unOp op T x=>exact Qb h
 case convert U T x=>exact Gb b h
 case build T ps=>exact Ns b h
 case buildSlice T n ps=>exact yO b h d
 case makeSlice T x y=>exact BR b h d
 case extract x i=>exact Gc h
 case nilCheck x=>exact D8 h
 case slice T x lo hi mx=>exact Nw b h
 case sliceToArrayPointer T x=>exact P6 b h
 case makeFunc fn x y=>exact D7 h
 case call c=>exact P7 b h d
 all_goals (intro R K r hq;simp only[qv] at hq;cases hq)
end
end
section
variable{c:Array Value}{J K:Nat->Option Nat}
def qg{w0:Root}{w w':World}(h:nD w0 w)(g:w'.tape=w.tape)(e:w'.os=w.os)(i:w'.output=w.output)(f:w.heap.size<=w'.heap.size)(c:w.drawn<=w'.drawn)(d:∀ b,w0.Old b->w'.heap[b]?=w.heap[b]?):nD w0 w':=
 ⟨g.trans h.tape,e.trans h.os,i.trans h.output,zva h.sz f,zva h.dr c,λb a=>(d b a).trans<|h.old b a⟩
theorem cW{w:World}{b b' off:Nat}{cs:Array Value}(h:b'≠b):(putAt w b off cs).heap[b']?=w.heap[b']?:=by simp[putAt,zad];grind
def iU{w:World}{b off:Nat}{cs:Array Value}(h:ce w b=some c):ce (putAt w b off cs) b=some (fk c off cs):=by
 unfold ce at h ⊢;split at h<;>try(cases h;done)
 rename_i a;simp[zda] at h;subst h;simp[putAt,zad,if_true,a,zYb]
def BU{w:World}{b b' off:Nat}{cs:Array Value}(h:b'≠b):ce (putAt w b off cs) b'=ce w b':=by simp[ce,cW h]
def cu{w:World}{b b' off o:Nat}{cs:Array Value}(h:b'≠b):(putAt w b off cs).cell? ⟨b',o,none⟩=w.cell? ⟨b',o,none⟩:=by simp[World.cell?,cW h]
def lW{w:World}{b b' off:Nat}{cs:Array Value}(h:ce w b=some c)(a:off+cs.size<=c.size):rL (putAt w b off cs) b'=rL w b':=by
 by_cases e:b'=b
 ·simp_all [rL,iU,zYb,splice_size]
 ·simp[rL,BU e]
theorem afT{w w':World}(b0:Nat)(h:∀ b,b≠b0->b<w.heap.size->w'.heap[b]?=w.heap[b]?)(h0:∀ o,w.heap[b0]?=some o->o≠Obj.deferred (some [])/\∀ r,o≠Obj.loop r):dN w w':=by intro b;all_goals grind
def dN.old{w w':World}(h:∀ b,b<w.heap.size->w'.heap[b]?=w.heap[b]?):dN w w':=
 λb=>⟨λa=>(h b (zqa.1 a).1).trans a,λ⟨r,a⟩=>⟨r,(h b (zqa.1 a).1).trans a⟩⟩
def JK{w:World}{b:Nat}(h:ce w b=some c):∀ o,w.heap[b]?=some o->o≠Obj.deferred (some [])/\∀ r,o≠Obj.loop r:=λo a=>by
 constructor
 ·rintro rfl;simp[ce,a] at h
 ·rintro r rfl;simp[ce,a] at h
def Jd{w:World}{b n:Nat}{a:Array MapEntry}(h:w.heap[b]?=some (.map a n)):∀ o,w.heap[b]?=some o->o≠Obj.deferred (some [])/\∀ r,o≠Obj.loop r:=λo c=>by simp_all
theorem dN.putAt{w:World}{b off:Nat}{cs:Array Value}(h:ce w b=some c):dN w (putAt w b off cs):=afT b (λb' a _=>cW a)<|JK h
theorem dN.grown{w:World}{os:List Obj}{d:Nat}:dN w (grown w os d):=dN.old λb a=>du w os d a
theorem Fm.refl(s:St)(S:Nat->Nat->Prop)(γ:Nat->Option Nat)(a:Act)(w:World):Fm s S γ a w S γ a w:=
 ⟨λ_ _ h=>h,λ_ _ _=>rfl,λ_ _=>rfl,λ_ _ _ h=>⟨h,kL.refl _ _⟩,zja _,λ_ _ h=>h,mz.same rfl (dN.refl _)⟩
theorem Fm.trans{s s1:St}{S S1 S2:Nat->Nat->Prop}{γ:Nat->Option Nat}{a a1 a2:Act}{w w1 e:World}(h:Fm s S γ a w S1 J a1 w1)(k:Fm s1 S1 J a1 w1 S2 K a2 e)(e1:s1.lkS=s.lkS)(e2:s1.lkO=s.lkO):Fm s S γ a w S2 K a2 e:=
 ⟨λb o c=>k.sub b o<|h.sub b o c,λb o c=>(k.cell b o<|h.sub b o c).trans<|h.cell b o c,λt d=>(k.slots t<|e1 ▸ d).trans<|h.slots t d,
  λid hid b c=>by obtain⟨f,g⟩:=h.objs id hid b c;obtain⟨i,j⟩:=k.objs id (e2 ▸ hid) b f;exact⟨i,g.trans j⟩,zva h.sz k.sz,λid b c=>k.gam id b<|h.gam id b c,h.dfs.trans (e2 ▸ k.dfs) h.sz k.sz⟩
def cq{a:Act}{b:Option Nat}{v:Value}{t:Nat}(h:b≠some t):(a.put b v).tmps.getD t undef=a.tmps.getD t undef:=by
 cases b with
 | none=>rfl
 | some d=>
  have c:d≠t:=λe=>h (by rw[e])
  simp[Act.put];all_goals simp_all
def Ku(P:Program)(w0:Root)(S:Nat->Nat->Prop)(γ:Nat->Option Nat)(β:Nat->Option (Nat×Nat))(s:St)(a:Act)(w:World)(o:Oper)(s':St):Prop:=
 s'.lkS=s.lkS/\s'.lkO=s.lkO/\s'.fresh=s.fresh/\s'.nt=s.nt/\(∀ id,γ id=none->o.dst≠some (id-s.base)\/id<s.base->s'.ob id=s.ob id) ∧
 fh P o a w λval w'=>∃ S' b c,Rp w0 S' b c s' (a.put o.dst val) w'/\Fm s S γ a w S' b (a.put o.dst val) w'/\(∀ id,o.dst≠some (id-s.base)\/id<s.base->b id=γ id/\c id=β id)
section
variable{P:Program}{E:Env}{w0:Root}{S:Nat->Nat->Prop}{γ:Nat->Option Nat}{β:Nat->Option (Nat×Nat)}{s:St}{a:Act}{w:World}
def agm(s:St)(d:Option Nat)(v:AV):(s.put d v).ob=s.ob/\(s.put d v).fresh=s.fresh/\(s.put d v).dead=s.dead/\(s.put d v).nt=s.nt/\(s.put d v).lkS=s.lkS/\(s.put d v).lkO=s.lkO/\(s.put d v).base=s.base:=by
 cases d with
 | none=>exact⟨rfl,rfl,rfl,rfl,rfl,rfl,rfl⟩
 | some d=>simp[St.put];split<;>exact⟨rfl,rfl,rfl,rfl,rfl,rfl,rfl⟩
def dL{os:List Obj}{d b:Nat}(h:b<w.heap.size):(grown w os d).heap[b]?=w.heap[b]?:=du w os d h
def zw(j:EnvOk P E)(h:Rp w0 S γ β s a w){o:Oper}(l:Fr E s γ β o)(k:∀ T t,o.op=.alloc T->E.L T=some t->aj t=true)(e:∀ t∈s.lkS,o.dst≠some t){R:Type}{K:St->Option R}{r:R}(hq:qv E s o (λv=>K<|s.put o.dst v)=some r) :
  ∃ s',K s'=some r/\Ku P w0 S γ β s a w o s':=by
 obtain⟨v,g,i⟩:=YD j h l k R _ r hq;obtain⟨p1,z,G,A,B,C,H⟩:=agm s o.dst v;refine⟨_,g,B,C,z,A,λid _ _=>by rw[p1],i.mono λval w' ⟨S',F,D,p,q,u,⟨os,d,x⟩,f,y⟩=>?_⟩
 subst x;exact⟨S',F,D,p.put q o.dst,⟨u,λb o c=>eP<|h.Sb b o c,λt m=>cq<|e t m,λid hid b c=>⟨f id b c,.inl<|dL (h.γn id b c).2⟩,j2,f,mz.same bV dN.grown⟩,y⟩
def Rp.write(h:Rp w0 S γ β s a w){id b off:Nat}{o o':Ob}{cs:Array Value}(J:s.ob id=some o)(z:γ id=some b)(B:∀ o,¬ S b o)(F:ce w b=some c)(G:off+cs.size<=c.size)
  (I:∀ p,fA o' p=fA o p/\cC o' p=cC o p) (q:∀ t l,o=.many t l->∃ l',o'=.many t l'/\l'.length=l.length) (D:∀ kt vt l,o≠.mp kt vt l)
  (u:gM ⟨putAt w b off cs,S,γ,β,(s.setOb id<|some o').ob,s.dead⟩ b o') :
  Rp w0 S γ β (s.setOb id<|some o') a (putAt w b off cs)/\Cx.le ⟨w,S,γ,β,s.ob,s.dead⟩ ⟨putAt w b off cs,S,γ,β,(s.setOb id<|some o').ob,s.dead⟩:=by
 have k:∀ b' o,S b' o->b'≠b:=λb' o g e=>B o<|e ▸ g;have j:Cx.le ⟨w,S,γ,β,s.ob,s.dead⟩ ⟨putAt w b off cs,S,γ,β,(s.setOb id<|some o').ob,s.dead⟩:=by
  refine⟨λb' o g=>cu<|k b' o g,λ_ _ g=>g,λ_ _ g=>g,λi x hx _=>?_,λv y=>⟨y,λb' e m=>⟨m,λn E=>by rw[lW F G];exact E⟩⟩⟩
  simp[St.setOb] at hx;by_cases e:i=id
  ·simp_all
  ·simp_all
 refine⟨⟨qg h.ext rfl rfl rfl j2 (zja _) (λb' d=>cW<|λe=>(h.γn id b z).1<|e ▸ d),λt H=>(h.tms t H).mono j,h.nt,h.tmu,λi x b' hx d=>?_,λi b' d=>by simpa using h.γn i b' d,h.γi,h.γf,
  λv b' e y m=>by simpa using h.βn v b' e y m,h.βi,h.βγ,h.βf,λb' o g=>by simpa using h.Sb b' o g,h.So⟩,j⟩
 simp[St.setOb] at hx;by_cases e:i=id
 ·subst e;simp[if_true,zda] at hx;subst hx;rw[z] at d;cases d;exact u
 ·rw[zha e] at hx;have r:b'≠b:=λA=>e<|h.γi i id b' d<|A ▸ z;exact(h.obs i x b' hx d).mono j (cW r) λ_ C=>C
theorem IW(hE:EnvOk P E)(h:Rp w0 S γ β s a w){L T x y ty pos after guard}(a2:∀ t∈s.lkS,L≠some t){R:Type}{K:St->Option R}{r:R}(hd:L=none)
  (hq:vN E s ⟨L,.store T x y,ty,pos,after,guard⟩ K=some r):∃ s',K s'=some r/\Ku P w0 S γ β s a w ⟨L,.store T x y,ty,pos,after,guard⟩ s':=by
 subst hd;simp only[vN] at hq;have hx:=aT h x;have a0:=aT h y;cases hfn:E.fnT T with
 | true=>
  rw[hfn] at hq;simp only[cond_true] at hq;split at hq<;>try(cases hq;done)
  rename_i id e;split at hq<;>try(cases hq;done)
  rename_i d;simp only[Y,zCa] at d;split at hq<;>try(cases hq;done)
  rename_i v f;rw[e] at hx;have M:id ∉ s.lkO:=by simp_all
  obtain⟨b,off,V,J,O⟩:=lj hx;obtain⟨_,rfl⟩:=O _ f;obtain⟨q,z,k,_,_⟩:=h.obs id _ b f J;obtain⟨a0,h1⟩:=Ic (c:=⟨w,S,γ,β,s.ob,s.dead⟩) d.1 a0;have hr:=BY (hE.fnT T hfn) (w:=w) (b:=b) k h1;have m:0+#[a.eval y].size<=#[z].size:=j2
  have I:gM ⟨putAt w b 0 #[a.eval y],S,γ,β,(s.setOb id<|some<|.fv<|kE s.ob<|s.opA y).ob,s.dead⟩ b (.fv<|kE s.ob<|s.opA y):=by
   have a4:∀ b' o,S b' o->b'≠b:=λb' o d e=>q o<|e ▸ d;have H:Cx.le ⟨w,S,γ,β,s.ob,s.dead⟩ ⟨putAt w b 0 #[a.eval y],S,γ,β,(s.setOb id<|some<|.fv<|kE s.ob<|s.opA y).ob,s.dead⟩:=by
    refine⟨λb' o d=>cu<|a4 b' o d,λ_ _ d=>d,λ_ _ d=>d,λi z D _=>?_,λv V=>⟨V,λb' e he=>⟨he,λn a3=>by rw[lW k m];exact a3⟩⟩⟩
    simp only[St.setOb] at D;by_cases e:i=id
    ·subst e;simp only[if_true,zda] at D;subst D;exact⟨_,f,λp=>by cases p<;>exact⟨rfl,rfl⟩,(λt l e=>by cases e),λ_ _ l e=>by cases e⟩
    ·simp_all
   simp only[gM];refine⟨q,a.eval y,?_,a0.mono H.cell H.S H.γ,h1⟩;rw[iU k];rfl
  obtain⟨n1,n2⟩:=h.write (o':=.fv<|kE s.ob<|s.opA y) f J q k m (λp=>by cases p<;>exact⟨rfl,rfl⟩) (λt l e=>by cases e) (λ_ _ _ e=>by cases e) I
  refine⟨_,hq,rfl,rfl,rfl,rfl,λi hi _=>?_,.skip (w':=putAt w b 0 #[a.eval y]) ?_ ⟨S,γ,β,n1,?_,λ_ _=>⟨rfl,rfl⟩⟩⟩
  ·grind [St.setOb]
  ·simp_all [execOp,G,cC,zga,zta]
  ·exact⟨λ_ _ d=>d,λb' o d=>cu<|λe=>q o<|e ▸ d,λ_ _=>rfl,λi hi b' g=>⟨g,.inl<|cW λe=>M<|(h.γi id i b J<|e ▸ g) ▸ hi⟩,j2,λ_ _ d=>d,mz.same rfl (dN.putAt k)⟩
 | false=>
 rw[hfn] at hq;simp only[cond_false] at hq;replace hq:=ab hq;obtain⟨t,ht,hq⟩:=hq;generalize s.opA x=ax at *;cases ax<;>(try simp only at hq)<;>try(cases hq;done)
 rename_i t' id p;split at hq<;>try(cases hq;done)
 rename_i d;simp only[Y,zCa] at d;obtain⟨⟨an,F⟩,a1⟩:=d;have:=ags _ _ an;subst this;have M:id ∉ s.lkO:=by simp_all
 obtain⟨b,off,V,J,O⟩:=lj hx;split at hq<;>try(cases hq;done)
 ·
  rename_i u v f;obtain⟨U,rfl⟩:=O _ f;have W:=h.obs id _ b f J;simp only[gM] at W;obtain⟨Q,o2,q,cs,k,o5,o6⟩:=W;simp only[fA] at U;have a3:=eV p Q U;have hl:=jQ hE ht a3;obtain⟨y1,y2⟩:=Cr F a3 a0;obtain⟨v',pre,mid,post,m1,rfl,m2,m3,m4,m5⟩:=Qn p o2 Q U o5 y1 F hq;obtain⟨y3,y4⟩:=iG _ _ _ F y1;have hr:=tc hl (w:=w) (b:=b) (off:=aZ u p) k y2 y3 y4 (by simp only[zPc,zFa];omega)
  have m:aZ u p+(a.eval y).cells.toList.toArray.size<=(pre++(mid++post)).toArray.size:=i4
  have I:gM ⟨putAt w b (aZ u p) (a.eval y).cells.toList.toArray,S,γ,β,(s.setOb id<|some<|.one u v').ob,s.dead⟩ b (.one u v'):=by
   have a4:∀ b' o,S b' o->b'≠b:=λb' o d e=>q o<|e ▸ d;have H:Cx.le ⟨w,S,γ,β,s.ob,s.dead⟩ ⟨putAt w b (aZ u p) (a.eval y).cells.toList.toArray,S,γ,β,(s.setOb id<|some<|.one u v').ob,s.dead⟩:=by
    refine⟨λb' o d=>cu<|a4 b' o d,λ_ _ d=>d,λ_ _ d=>d,λi z D _=>?_,λv V=>⟨V,λb' e he=>⟨he,λn a3=>by rw[lW k m];exact a3⟩⟩⟩
    simp only[St.setOb] at D;by_cases e:i=id
    ·subst e;simp only[if_true,zda] at D;subst D;exact⟨_,f,λp=>⟨rfl,rfl⟩,(λt l e=>by cases e),λ_ _ l e=>by cases e⟩
    ·simp_all
   simp only[gM];refine⟨Q,m5,q,pre++((a.eval y).cells.toList++post),?_,AC.mono H _ _ m4,(iG _ _ _ m5 m4).1⟩;rw[iU k,<-m2,jA pre mid post _ m3]
  obtain⟨n1,n2⟩:=h.write (o':=.one u v') f J q k m (λp=>⟨rfl,rfl⟩) (λt l e=>by cases e) (λ_ _ _ e=>by cases e) I
  refine⟨_,m1,rfl,rfl,rfl,rfl,λi hi _=>?_,.skip (w':=putAt w b (aZ u p) (a.eval y).cells.toList.toArray) ?_ ⟨S,γ,β,n1,?_,λ_ _=>⟨rfl,rfl⟩⟩⟩
  ·grind [St.setOb]
  ·simp_all [execOp,G,cC,zga,zta]
  ·exact⟨λ_ _ d=>d,λb' o d=>cu<|λe=>q o<|e ▸ d,λ_ _=>rfl,λi hi b' g=>⟨g,.inl<|cW λe=>M<|(h.γi id i b J<|e ▸ g) ▸ hi⟩,j2,λ_ _ d=>d,mz.same rfl (dN.putAt k)⟩
 ·
  rename_i u l f;cases p with
  | nil=>simp only at hq;cases hq
  | cons i p=>
   simp only at hq;replace hq:=ab hq;obtain⟨z,D,hq⟩:=hq;replace hq:=ab hq;obtain⟨y',ap,hq⟩:=hq;replace hq:=ab hq;obtain⟨z',aI,hq⟩:=hq;obtain⟨U,rfl⟩:=O _ f;have W:=h.obs id _ b f J;simp only[gM] at W;obtain⟨Q,o2,q,cs,rs,k,o5⟩:=W;simp only[fA] at U;have a3:=eV p Q U;have hl:=jQ hE ht a3;obtain⟨y1,y2⟩:=Cr F a3 a0;obtain⟨y3,y4⟩:=iG _ _ _ F y1;obtain⟨q1,q2,_⟩:=uI _ _ _ _ ap y1;obtain⟨s1,A,C,B,s2,s3,s4,s5⟩:=tg p (o2 z<|zfb D) Q U aI q1;have hi:=(zra.1 D).1;have e0:(N<|l.take i).length=i*u.size:=by rw[aL Q _<|λx hx=>o2 x<|zUa hx,zkb,zsb<|zJc hi]
   rw[cE D,s2,show N (l.take i)++(A++(C++B)++N (l.drop<|i+1))=(N (l.take i)++A)++(C++(B++N (l.drop<|i+1))) by simp[zPa]] at o5
   obtain⟨c1,c2⟩:=o5.split;obtain⟨c3,c4⟩:=c2.split;generalize hpre:cs.take (N (l.take i)++A).length=pre at *;generalize hrest:cs.drop (N (l.take i)++A).length=rest at *;have al:cs=pre++(rest.take C.length++rest.drop C.length):=by rw[<-hpre,zza,<-hrest,zza]
   have ad:pre.length=i*u.size+aZ u p:=by rw[<-c1.1,zFa,e0,s4]
   have Z:(rest.take C.length).length=(a.eval y).cells.toList.length:=by rw[<-c3.1,s5,y3]
   subst al;rw[show pre++(rest.take C.length++rest.drop C.length)++rs=pre++(rest.take C.length++(rest.drop C.length++rs)) by simp only[zPa]] at k
   have hr:=tc hl (w:=w) (b:=b) (off:=i*u.size+aZ u p) k y2 y3 y4 (by simp only[zPc,zFa];omega)
   have m:i*u.size+aZ u p+(a.eval y).cells.toList.toArray.size<=(pre++(rest.take C.length++(rest.drop C.length++rs))).toArray.size:=by simp only[zPc,zFa,zFb] at *;omega
   have X:gM ⟨putAt w b (i*u.size+aZ u p) (a.eval y).cells.toList.toArray,S,γ,β,(s.setOb id<|some<|.many u<|l.set i z').ob,s.dead⟩ b (.many u<|l.set i z'):=by
    have a4:∀ b' o,S b' o->b'≠b:=λb' o d e=>q o<|e ▸ d;simp only[gM];refine⟨Q,λx hx=>?_,q,pre++((a.eval y).cells.toList++rest.drop C.length),rs,?_,?_⟩
    ·rcases zUc hx with hx|hx
     ·exact o2 x hx
     ·rw[hx];exact s1
    ·rw[iU k,<-ad,jA pre _ _ _ Z];simp only[zPa]
    ·rw[oK D,s3,show N (l.take i)++(A++(y'.flat++B)++N (l.drop<|i+1))=(N (l.take i)++A)++(y'.flat++(B++N (l.drop<|i+1))) by simp[zPa]]
     exact(c1.append<|q2.append c4).mono (λb' o d=>cu<|a4 b' o d) λ_ _ hh=>hh
   obtain⟨n1,n2⟩:=h.write (o':=.many u<|l.set i z') f J q k m (λp=>by cases p<;>exact⟨rfl,rfl⟩) (λt l' e=>by cases e;exact⟨_,rfl,j2⟩) (λ_ _ _ e=>by cases e) X
   refine⟨_,hq,rfl,rfl,rfl,rfl,λj hj _=>?_,.skip (w':=putAt w b (i*u.size+aZ u p) (a.eval y).cells.toList.toArray) ?_ ⟨S,γ,β,n1,?_,λ_ _=>⟨rfl,rfl⟩⟩⟩
   ·simp only[St.setOb];rw[zha];intro e;subst e;have aO:γ j=some b:=J;rw[aO] at hj;cases hj
   ·simp only[execOp,V,G,cC,hr,zga,zta]
   ·exact⟨λ_ _ d=>d,λb' o d=>cu<|λe=>q o<|e ▸ d,λ_ _=>rfl,λj hj b' g=>⟨g,.inl<|cW λe=>M<|(h.γi id j b J<|e ▸ g) ▸ hj⟩,j2,λ_ _ d=>d,mz.same rfl (dN.putAt k)⟩
end
end
section
variable{P:Program}{E:Env}{w0:Root}{S:Nat->Nat->Prop}{γ:Nat->Option Nat}{β:Nat->Option (Nat×Nat)}{s:St}{a:Act}{w:World}
def Rp.setFree(h:Rp w0 S γ β s a w){id:Nat}(hid:γ id=none)(o:Option Ob):Rp w0 S γ β (s.setOb id o) a w/\Cx.le ⟨w,S,γ,β,s.ob,s.dead⟩ ⟨w,S,γ,β,(s.setOb id o).ob,s.dead⟩:=by
 have c:Cx.le ⟨w,S,γ,β,s.ob,s.dead⟩ ⟨w,S,γ,β,(s.setOb id o).ob,s.dead⟩:=by
  refine⟨λ_ _ _=>rfl,λ_ _ k=>k,λ_ _ k=>k,λi x hx ⟨b,d⟩=>?_,λv m=>⟨m,λb e g=>⟨g,λn j=>j⟩⟩⟩;simp[St.setOb] at hx;by_cases e:i=id
  ·simp_all
  ·simp_all
 refine⟨⟨h.ext,λt l=>(h.tms t l).mono c,h.nt,h.tmu,λi x b hx d=>?_,h.γn,h.γi,h.γf,h.βn,h.βi,h.βγ,h.βf,h.Sb,h.So⟩,c⟩;simp[St.setOb] at hx;by_cases e:i=id
 ·simp_all
 ·rw[zha e] at hx;exact(h.obs i x b hx d).mono c rfl λ_ k=>k
theorem me(s:St)(id:Nat)(o:Option Ob):(s.setOb id o).ob id=o:=by simp[St.setOb]
def ou(s:St){id i:Nat}(o:Option Ob)(h:i≠id):(s.setOb id o).ob i=s.ob i:=by simp[St.setOb,h]
def Rp.make(h:Rp w0 S γ β s a w){id:Nat}(hid:γ id=none)(hi:id<s.base+4096){c:Array Value}{T:TypeId}{o:Ob}(d:Nat)(k:w.drawn<=d)
  (l:gM ⟨grown w [.cells c T] d,S,pQ γ id w.heap.size,β,(s.setOb id<|some o).ob,s.dead⟩ w.heap.size o) :
  Rp w0 S (pQ γ id w.heap.size) β (s.setOb id<|some o) a (grown w [.cells c T] d)/\Cx.le ⟨w,S,γ,β,s.ob,s.dead⟩ ⟨grown w [.cells c T] d,S,pQ γ id w.heap.size,β,(s.setOb id<|some o).ob,s.dead⟩:=by
 obtain⟨t,j⟩:=h.grow (os:=[.cells c T]) (d:=d) k (S':=S) (λ_ _ g=>g)<|λ_ _ g=>.inl g;obtain⟨y,p⟩:=t.setFree hid<|some o;have m:¬ w0.Old w.heap.size:=λl=>by have:=l.1;have:=h.ext.sz;omega
 obtain⟨z,D⟩:=y.newOb (id:=id) (b:=w.heap.size) hid m j2 (λi hi=>by have:=(h.γn i _ hi).2;omega) (λu f C A=>by have:=(h.βn u _ _ C A).2.1;omega) hi<|λx hx=>by rw[me] at hx;cases hx;exact l
 refine⟨z,⟨λb o g=>j.cell b o g,λ_ _ g=>g,λi b g=>fM hid g,λi x hx g=>?_,λv r=>⟨r,λb e q=>⟨q,λn B=>by have:=j.β v r;exact(this.2 b e q).2 n B⟩⟩⟩⟩
 obtain⟨b,g⟩:=g;exact p.ob i x hx ⟨b,g⟩
def RA(h:Rp w0 S γ β s a w){g T x ty pos after guard}{d:Nat}(D:d<4096)(O:g=some d)(l:γ (s.base+d)=none)(q:∀ t∈s.lkS,g≠some t){R:Type}{K:St->Option R}{r:R}{t:Ty}{j:Ob}
  (hq:K ((s.setOb (s.base+d)<|some j).put g<|.ptr t (s.base+d) [])=some r)
  (u:Cx.le ⟨w,S,γ,β,s.ob,s.dead⟩ ⟨grown w [.cells (a.eval x).cells T] w.drawn,S,pQ γ (s.base+d) w.heap.size,β,(s.setOb (s.base+d)<|some j).ob,s.dead⟩->gM ⟨grown w [.cells (a.eval x).cells T] w.drawn,S,pQ γ (s.base+d) w.heap.size,β,(s.setOb (s.base+d)<|some j).ob,s.dead⟩ w.heap.size j)
  (y:fA j []=some t/\0=cC j []):∃ s',K s'=some r/\Ku P w0 S γ β s a w ⟨g,.box T x,ty,pos,after,guard⟩ s':=by
 have p:Cx.le ⟨w,S,γ,β,s.ob,s.dead⟩ ⟨grown w [.cells (a.eval x).cells T] w.drawn,S,pQ γ (s.base+d) w.heap.size,β,(s.setOb (s.base+d)<|some j).ob,s.dead⟩:=by
  refine⟨λb o f=>eP<|h.Sb b o f,λ_ _ f=>f,λi b f=>fM l f,λi z a0 ⟨b,f⟩=>?_,λv B=>⟨B,λb e A=>⟨A,λn E=>by rw[Al (h.βn v b e B A).2.1];exact E⟩⟩⟩
  by_cases e:i=s.base+d
  ·simp_all
  ·have H:s.ob i=some z:=by rw[<-a0];exact(ou s _ e).symm
   simp_all
 obtain⟨C,I⟩:=h.make (id:=s.base+d) l u0 (c:=(a.eval x).cells) (T:=T) (o:=j) w.drawn (zja _)<|u p
 obtain⟨p1,J,Q,L,M,N,U⟩:=agm (s.setOb (s.base+d)<|some j) g<|.ptr t (s.base+d) [];refine⟨_,hq,M,N,J,L,λid hid m=>?_,.value (v:=.pointer<|some ⟨w.heap.size,0,none⟩) (w':=grown w [.cells (a.eval x).cells T] w.drawn) ?_ ⟨S,_,β,C.put (gA (bN _ _ _) λo u=>?_) g,?_,λid hid=>⟨ci _ _ ?_,rfl⟩⟩⟩
 ·rw[p1];refine ou s _ λe=>?_;subst e;rcases m with m|m
  ·simp_all
  ·omega
 ·simp_all [c9,execOp,Instr.box,newVar,newRow,G]
 ·have k:(s.setOb (s.base+d)<|some j).ob (s.base+d)=some o:=u;rw[me] at k;cases k;exact y
 ·exact⟨λ_ _ f=>f,λb o f=>eP<|h.Sb b o f,λt F=>cq<|q t F,λid hid b f=>⟨fM l f,.inl<|dL (h.γn id b f).2⟩,j2,λ_ _ f=>fM l f,mz.same bV dN.grown⟩
 ·intro e;subst e;rcases hid with hid|hid
  ·simp_all
  ·omega
def Pp(A:EnvOk P E)(h:Rp w0 S γ β s a w){f T x ty pos after guard}(n:Fr E s γ β ⟨f,.box T x,ty,pos,after,guard⟩)(j:∀ t∈s.lkS,f≠some t){R:Type}{K:St->Option R}{r:R}(v:∀ t,E.L T=some t->aj t=true)
  (hq:vN E s ⟨f,.box T x,ty,pos,after,guard⟩ K=some r):∃ s',K s'=some r/\Ku P w0 S γ β s a w ⟨f,.box T x,ty,pos,after,guard⟩ s':=by
 simp[vN] at hq;cases hfn:E.fnT T with
 | true=>
  rw[hfn] at hq;simp[cond_true] at hq;replace hq:=ab hq;obtain⟨d,i,hq⟩:=hq;split at hq<;>try(cases hq;done)
  rename_i b;obtain⟨g,m,z,_⟩:=n rfl d i;obtain⟨u,k⟩:=Ic (c:=⟨w,S,γ,β,s.ob,s.dead⟩) b<|aT h x;exact RA h g i m j hq (λe=>by simp[gM];exact⟨λo l=>by have:=h.Sb _ _ l;omega,a.eval x,by rw[<-tO k];exact oS,u.mono e.cell e.S e.γ,k⟩) ⟨rfl,rfl⟩
 | false=>
 rw[hfn] at hq;simp[cond_false] at hq;replace hq:=ab hq;obtain⟨t,y,hq⟩:=hq;replace hq:=ab hq;obtain⟨d,i,hq⟩:=hq;split at hq<;>try(cases hq;done)
 rename_i b;obtain⟨g,m,z,_⟩:=n rfl d i;have p:=v t y;obtain⟨q,u⟩:=Cr b p<|aT h x;obtain⟨k,_⟩:=iG _ _ _ b q;exact RA h g i m j hq (λe=>by simp[gM];exact⟨p,b,λo l=>by have:=h.Sb _ _ l;omega,(a.eval x).cells.toList,by rw[zac];exact oS,AC.mono e _ _ q,k⟩) ⟨by cases t<;>rfl,by cases t<;>rfl⟩
def GL{n:Nat}(h:n<=1073741824):IntKind.i64.wrap (n:Int)=(n:Int):=by exact IntWalk.i64_in _ u0
def yH(hE:EnvOk P E)(h:Rp w0 S γ β s a w){f T i y ty pos after guard}(hf:Fr E s γ β ⟨f,.makeSlice T (.tmp i) y,ty,pos,after,guard⟩)(J:∀ t∈s.lkS,f≠some t){R:Type}{K:St->Option R}{r:R}
  (hq:vN E s ⟨f,.makeSlice T (.tmp i) y,ty,pos,after,guard⟩ K=some r):∃ s',K s'=some r/\Ku P w0 S γ β s a w ⟨f,.makeSlice T (.tmp i) y,ty,pos,after,guard⟩ s':=by
 simp[vN] at hq;replace hq:=ab hq;obtain⟨t,M,hq⟩:=hq;replace hq:=ab hq;obtain⟨d,a1,hq⟩:=hq;split at hq<;>try(cases hq;done)
 rename_i e j;split at hq<;>try(cases hq;done)
 rename_i I;subst I;replace hq:=ab hq;obtain⟨p,hp,hq⟩:=hq;replace hq:=ab hq;obtain⟨n,L,hq⟩:=hq;split at hq<;>try(cases hq;done)
 rename_i l;obtain⟨ad,Q,hβ,_⟩:=hf rfl d a1;rcases hE.lay T _ M with⟨ts',a0⟩|hl
 ·cases a0
 have q:=aJ _ _ hl;simp[aj] at q;obtain⟨u,Y,U⟩:=jF hl;obtain⟨i0,C,z,al,nA,H,A,_⟩:=fH<|gJ U;have m:a.eval (.tmp i)=.int .i64 n\/∃ k,a.eval (.tmp i)=.int k n:=by obtain⟨kk,Z⟩:=ux L;have V:=aT h<|.tmp i;rw[show s.opA (.tmp i)=s.tm i from rfl,eS hp,Z] at V;exact .inr ⟨kk,(fg V).1⟩
 obtain⟨k,m⟩:∃ k,a.eval (.tmp i)=.int k n:=by
  rcases m with m|m
  ·exact⟨_,m⟩
  ·exact m
 have O:C.cells.size=e.size:=by have:=(cK (w:=w) (S:=S) A).1;rw[<-zFb,<-this];exact cJ _ _ (c6 e q) q
 let cells:Array Value:=(Array.range<|n*e.size).map λi=>C.cells[i%C.cells.size]!
 have hz:∀ w',c7 w' S (N<|List.replicate n<|aw e) cells.toList:=λw'=>AH A O n;obtain⟨r1,an⟩:=h.make (id:=s.base+d) Q u0 (c:=cells) (T:=u) (o:=.many e<|List.replicate n<|aw e) w.drawn (zja _) (by simp only[gM];exact⟨q,λx hx=>by rw[(zld.1 hx).2];exact c6 e q,λo F=>by have:=h.Sb _ _ F;omega,cells.toList,[],by rw[zic,zac];exact oS,hz _⟩)
 have B:(Instr.makeSlice T (.int k n)<|.int k n).run P w=.ok (.slice (some ⟨w.heap.size,0,none⟩) n n) (grown w [.cells cells u] w.drawn):=by
  have g:((i0.bytes:Int)*(n:Int))<=2^48:=by have h5:i0.bytes*n<=16384*1073741824:=zHa nA.1 l;have:((i0.bytes*n:Nat):Int)<=((16384*1073741824:Nat):Int):=Int.ofNat_le.2 h5;rw[z1a] at this;omega
  have hw:=GL l;have W:¬ ((n:Int)<0):=u0
  have X:¬ ((i0.bytes:Int)*(n:Int)>2^48):=u0
  simp only[Instr.makeSlice,G,run_underlying Y,zga,asInt,asIntOf,pure_bind,typeInfo,run_program,z,zta,hw];rw[zfa W,zfa X,zfa<|show ¬ ((n:Int)>n) from zgd _];simp only[Bool.or_self,zIa,if_false,G,run_askRoom,zga,cp U,z7c];by_cases h0:n*e.size=0
  ·have e0:((Array.range<|n*e.size).map λi=>(#[]:Array Value)[i%(#[]:Array Value).size]!)=cells:=by
    show _=((Array.range<|n*e.size).map λi=>C.cells[i%C.cells.size]!);rw[h0];simp
   rw[zma h0];simp only[pure_bind,e0,newRow,G,run_newObj,zga,zta];rw[<-c9];rfl
  ·rw[zha h0];simp only[zeroValue,typeInfo,G,run_program,z,H,zga,zta,bind_pure_comp,Sem.run_map,newRow,run_newObj];rw[<-c9];rfl
 obtain⟨p1,p2,p3,p4,p5,p6,p7⟩:=agm (s.setOb (s.base+d)<|some<|.many e<|List.replicate n<|aw e) f<|.mem e<|s.base+d;refine⟨_,hq,p5,p6,p2,p4,λid hid D=>?_,.value (v:=.slice (some ⟨w.heap.size,0,none⟩) n n) (w':=grown w [.cells cells u] w.drawn) (by simp[execOp,m,G,B,zga,zta]) ⟨S,_,β,r1.put ?_ f,?_,λid hid=>⟨ci _ _ ?_,rfl⟩⟩⟩
 ·rw[p1];refine ou s _ λe=>?_;subst e;rcases D with D|D
  ·exact D (by rw[a1,zyb])
  ·omega
 ·simp only[AR,AC,Value.cells];refine⟨j2,q,w.heap.size,bN _ _ _,λo F=>?_⟩
  rw[me] at F;cases F;exact⟨_,n,rfl,j2,j2⟩
 ·exact⟨λ_ _ g=>g,λb o g=>eP<|h.Sb b o g,λt M=>cq<|J t M,λid hid b g=>⟨fM Q g,.inl<|dL (h.γn id b g).2⟩,j2,λ_ _ g=>fM Q g,mz.same bV dN.grown⟩
 ·intro e;subst e;rcases hid with hid|hid
  ·exact hid (by rw[a1,zyb])
  ·omega
theorem zE(m:Nat):∀ (r c:Nat),c<=2*m+200->Builtin.growBy m r c<=2*m+200
 | 0,c,h=>by simpa [Builtin.growBy] using h
 | r+1,c,h=>by
  simp[Builtin.growBy];split
  ·exact h
  ·exact zE m r _ u0
def FQ{a cap:Nat}(h:cap<a):Builtin.nextslicecap a cap<=2*a+200:=by
 unfold Builtin.nextslicecap;split
 ·omega
 ·split
  ·omega
  ·exact zE a 4 cap u0
def kw{w:World}{S:Nat->Nat->Prop}{e:Ty}{l:List D}{v:Value}(g:aj e=true)(hl:∀ x∈l,wt e x)(h:CR w S (.sl l) v):∃ cs:List Value,c7 w S (N l) cs/\(Builtin.firstCells e.size l.length v).run P w=.ok cs.toArray w:=by
 obtain⟨A,cap,b,off,d,c,k,cs,f,i⟩:=h.elems;refine⟨cs,f,?_⟩;have a:cs.length=l.length*e.size:=by rw[<-f.1];exact aL g l hl
 subst d;cases A with
 | none=>
  rcases c with rfl|c
  ·have:cs=[]:=by
    simp at a;exact a
   subst this;rfl
  ·cases c
 | some A=>
  rcases c with rfl|c
  ·have:cs=[]:=by
    simp at a;exact a
   subst this;simp[Builtin.firstCells,loadCells,loadCellsFrom]
  ·cases c;simp[Builtin.firstCells];rw[<-a];exact run_loadCells_list (P:=P) w ⟨b,off,none⟩ cs<|λj v d=>by rw[dO];exact(i j v d).2
def wq{c:Cx}{e:Ty}{v:Nat}(b:aj e=true):AR c (.own e v []) (.slice none 0 0):=by simp only[AR,AC,Value.cells];exact⟨j2,b,λx hx=>by simp at hx,none,0,rfl,.sl [] none 0 0 0 (λ_=>undef) (.inl rfl) (zja 0) (λi d a=>by simp[N] at a) (λi d a=>by simp[N] at a),λ_=>.inl ⟨rfl,rfl⟩⟩
def Rp.bury(h:Rp w0 S γ β s a w)(v:Nat):Rp w0 S γ β { s with dead:=v::s.dead } a w/\Cx.le ⟨w,S,γ,β,s.ob,s.dead⟩ ⟨w,S,γ,β,s.ob,v::s.dead⟩:=by
 have d:Cx.le ⟨w,S,γ,β,s.ob,s.dead⟩ ⟨w,S,γ,β,s.ob,v::s.dead⟩:=
  ⟨λ_ _ _=>rfl,λ_ _ k=>k,λ_ _ k=>k,λid o j _=>⟨o,j,λp=>⟨rfl,rfl⟩,λt l e=>⟨l,e,rfl⟩,λ_ _ l e=>⟨l,e⟩⟩,λu c=>⟨λg=>c<|zsa _ g,λb e x=>⟨x,λn y=>y⟩⟩⟩
 have nd:∀ {u},u ∉ v::s.dead->u ∉ s.dead:=λc g=>c<|zsa _ g;exact⟨⟨h.ext,λt z=>(h.tms t z).mono d,h.nt,h.tmu,λid o b j r=>(h.obs id o b j r).mono d rfl λ_ k=>k,h.γn,h.γi,h.γf,λu b e c=>h.βn u b e<|nd c,λu A b e q c m=>h.βi u A b e q (nd c)<|nd m,λu id b e c=>h.βγ u id b e<|nd c,h.βf,h.Sb,h.So⟩,d⟩
end
end Sy
end
end Go.Proofs.YtdlipdnepadhjaaGreat
