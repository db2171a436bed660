/- Part 1 of the proof that PlaneOrPoint answers true at every input -/
import Derived.WalkKit
import Derived.WalkSpells
import Derived.WalkLawsBesides
import Derived.Deep.QuietTactic
import Derived.BigQuiet
import Derived.Deep.Draws
import Derived.Lib.Hide
import Derived.KernelRfl
import Derived.StillTail
import Derived.Laws.StructEq
set_option linter.unusedVariables false
set_option linter.unusedSimpArgs false
set_option linter.unnecessarySimpa false
set_option linter.defProp false
set_option maxRecDepth 20000
namespace Go.Proofs.YtphlmegkommlnaaGreatDoor
noncomputable section
open Go.RowKit
theorem j1{p:Prop}(h:p:=by omega):p:=h
theorem j2{p:Prop}(h:p:=by decide):p:=h
theorem j3{p:Prop}(h:p:=by simp):p:=h
theorem u3{p:Prop}(h:p:=by kernel_rfl):p:=h
theorem x6{p:Prop}(h:p:=by grind):p:=h
abbrev zaa:=@Bool.and_eq_true
abbrev zba:=@Option.bind_some
abbrev zca:=@decide_eq_false
abbrev zda:=@List.getElem?_eq_getElem
abbrev zea:=@Option.some.injEq
abbrev zfa:=@decide_eq_true_eq
abbrev zga:=@Result.andThen_ok
abbrev zha:=@decide_eq_true
abbrev zia:=@if_neg
abbrev zja:=@if_pos
abbrev zka:=@Nat.le_refl
abbrev zla:=@Int.mul_le_mul_of_nonneg_left
abbrev zma:=@Sem.run_bind
abbrev zna:=@congrArg
abbrev zoa:=@List.mem_cons_of_mem
abbrev zpa:=@Int.le_of_lt
abbrev zqa:=@Nat.zero_le
abbrev zra:=@List.getElem?_eq_some_iff
abbrev zsa:=@Int.natAbs_natCast
abbrev zta:=@Nat.pow_le_pow_right
abbrev zua:=@Sem.run_pure
abbrev zva:=@List.mem_cons_self
abbrev zwa:=@List.length_append
abbrev zxa:=@List.length_map
abbrev zya:=@List.take_append_drop
abbrev zza:=@Nat.two_pow_pos
abbrev zAa:=@Nat.lt_or_ge
abbrev zBa:=@List.getElem_mem
abbrev zCa:=@Array.getElem?_eq_some_iff
abbrev zDa:=@List.all_eq_true
abbrev zEa:=@List.mem_cons
abbrev zFa:=@Bool.false_eq_true
abbrev zGa:=@Int.mul_pos
abbrev zHa:=@Nat.le_trans
abbrev zIa:=@Nat.mul_le_mul_right
abbrev zJa:=@List.take_succ_eq_append_getElem
abbrev zKa:=@List.mem_singleton
abbrev zLa:=@Int.natAbs_mul
abbrev zMa:=@Int.mul_comm
abbrev zNa:=@Nat.lt_of_le_of_lt
abbrev zOa:=@List.pairwise_cons
abbrev zPa:=@List.mem_append_right
abbrev zQa:=@List.length_cons
abbrev zRa:=@Nat.mul_comm
abbrev zSa:=@List.mem_map
abbrev zTa:=@List.append_assoc
abbrev zUa:=@List.mem_flatMap
abbrev zVa:=@List.mem_of_mem_take
abbrev zWa:=@Bool.not_eq_true'
abbrev zXa:=@Nat.mod_eq_of_lt
abbrev zYa:=@Int.natCast_mul
abbrev zZa:=@Nat.lt_of_lt_of_le
abbrev z0a:=@List.mem_range
abbrev z1a:=@Nat.div_lt_iff_lt_mul
abbrev z2a:=@Nat.div_div_eq_div_mul
abbrev z3a:=@List.getElem_of_mem
abbrev z4a:=@absurd
abbrev z5a:=@Nat.mod_lt
abbrev z6a:=@Int.ofNat_dvd_left
abbrev z7a:=@Int.lt_or_eq_of_le
abbrev z8a:=@Nat.mul_assoc
abbrev z9a:=@Nat.mul_le_mul
abbrev zab:=@List.getD_eq_getElem?_getD
abbrev zbb:=@Int.mul_neg_of_pos_of_neg
abbrev zcb:=@Int.mul_eq_zero
abbrev zdb:=@Int.mul_nonneg
abbrev zeb:=@Nat.mul_le_mul_left
abbrev zfb:=@Nat.zero_add
abbrev zgb:=@List.take_of_length_le
abbrev zhb:=@Nat.add_mul
abbrev zib:=@Nat.div_eq_of_lt
abbrev zjb:=@List.map_cons
abbrev zkb:=@List.length_take
abbrev zlb:=@List.mem_of_getElem?
abbrev zmb:=@List.getElem?_map
abbrev znb:=@List.getElem?_eq_none
abbrev zob:=@Int.mul_ediv_cancel_left
abbrev zpb:=@Array.getElem?_toList
abbrev zqb:=@Bool.true_and
abbrev zrb:=@List.mem_filter
abbrev zsb:=@Nat.pow_add
abbrev ztb:=@Nat.gcd_dvd_left
abbrev zub:=@List.take_length
abbrev zvb:=@List.getElem?_cons_succ
abbrev zwb:=@Int.mul_zero
abbrev zxb:=@List.length_range
abbrev zyb:=@Int.mul_lt_mul_of_pos_left
abbrev zzb:=@List.append_nil
abbrev zAb:=@Nat.pow_succ
abbrev zBb:=@List.getElem?_append_left
abbrev zCb:=@Int.natAbs_neg
abbrev zDb:=@Int.lt_or_le
abbrev zEb:=@Rat.num_divInt_den
abbrev zFb:=@List.cons_append
abbrev zGb:=@Nat.mul_lt_mul_of_pos_right
abbrev zHb:=@Int.lt_trichotomy
abbrev zIb:=@Nat.min_eq_left
abbrev zJb:=@List.length_nil
abbrev zKb:=@Int.mul_neg
abbrev zLb:=@Rat.divInt_eq_divInt_iff
abbrev zMb:=@Option.map_some
abbrev zNb:=@Nat.eq_zero_or_pos
abbrev zOb:=@Rat.divInt_mul_divInt
abbrev zPb:=@Nat.add_sub_cancel_left
abbrev zQb:=@Nat.gcd_dvd_right
abbrev zRb:=@List.pairwise_iff_getElem
abbrev zSb:=@List.drop_eq_getElem_cons
abbrev zTb:=@Int.mul_pos_of_neg_of_neg
abbrev zUb:=@Bool.not_false
abbrev zVb:=@Nat.add_assoc
abbrev zWb:=@Int.not_lt
abbrev zXb:=@List.map_append
abbrev zYb:=@Array.length_toList
abbrev zZb:=@Option.getD_some
abbrev z0b:=@List.getElem?_cons_zero
abbrev z1b:=@List.all_cons
abbrev z2b:=@List.getElem?_append_right
abbrev z3b:=@Nat.add_mul_div_left
abbrev z4b:=@List.Nodup.length_le_of_subset
abbrev z5b:=@Int.zero_mul
abbrev z6b:=@Int.mul_le_mul_of_nonneg_right
abbrev z7b:=@Nat.le_mul_of_pos_left
abbrev z8b:=@Int.mul_ne_zero
abbrev z9b:=@List.any_eq_true
abbrev zac:=@Nat.mul_add
abbrev zbc:=@List.getElem?_take_of_lt
abbrev zcc:=@Nat.div_add_mod
abbrev zdc:=@List.getElem?_drop
abbrev zec:=@List.mem_of_mem_drop
abbrev zfc:=@List.take_succ_cons
abbrev zgc:=@List.mem_map_of_mem
abbrev zhc:=@Nat.lt_trans
abbrev zic:=@Nat.le_div_iff_mul_le
abbrev zjc:=@Nat.add_zero
abbrev zkc:=@List.range_succ
abbrev zlc:=@List.nil_append
abbrev zmc:=@Bool.or_eq_true
abbrev znc:=@Int.one_mul
abbrev zoc:=@Int.le_refl
abbrev zpc:=@Array.toArray_toList
abbrev zqc:=@Bool.not_true
abbrev zrc:=@List.ext_getElem?
abbrev zsc:=@Int.natAbs_add_le
abbrev ztc:=@Bool.eq_false_iff
abbrev zuc:=@Array.ext'
abbrev zvc:=@Nat.div_mul_le_self
abbrev zwc:=@Nat.div_le_self
abbrev zxc:=@List.not_mem_nil
abbrev zyc:=@Nat.eq_of_beq_eq_true
abbrev zzc:=@Nat.gcd_pos_of_pos_right
abbrev zAc:=@Nat.pow_zero
abbrev zBc:=@Nat.le_of_lt
abbrev zCc:=@Int.zero_add
abbrev zDc:=@List.length_eq_zero_iff
abbrev zEc:=@Int.eq_ofNat_of_zero_le
abbrev zFc:=@Rat.divInt_add_divInt
abbrev zGc:=@Nat.one_mul
abbrev zHc:=@Nat.mul_zero
abbrev zIc:=@Nat.gcd_comm
abbrev zJc:=@List.length_filter_le
abbrev zKc:=@List.getElem?_toArray
abbrev zLc:=@List.foldl_cons
abbrev zMc:=@Nat.not_lt
abbrev zNc:=@List.size_toArray
abbrev zOc:=@List.map_drop
abbrev zPc:=@Int.lt_irrefl
abbrev zQc:=@Int.fdiv_eq_ediv_of_nonneg
abbrev zRc:=@Nat.div_lt_of_lt_mul
abbrev zSc:=@List.getElem?_append
abbrev zTc:=@Array.getElem_append
abbrev zUc:=@List.mem_or_eq_of_mem_set
abbrev zVc:=@Int.mul_neg_of_neg_of_pos
abbrev zWc:=@Array.mapM_eq_mapM_toList
abbrev zXc:=@Nat.mul_lt_mul''
abbrev zYc:=@List.getElem_map
abbrev zZc:=@Nat.mul_one
abbrev z0c:=@Nat.le_succ
abbrev z1c:=@Nat.div_one
abbrev z2c:=@List.map_congr_left
abbrev z3c:=@Int.neg_ediv_of_dvd
abbrev z4c:=@Nat.add_comm
abbrev z5c:=@List.Pairwise.imp_of_mem
abbrev z6c:=@Nat.le_mul_of_pos_right
abbrev z7c:=@List.mem_filterMap
abbrev z8c:=@Int.natCast_add
abbrev z9c:=@List.drop_of_length_le
abbrev zad:=@Int.toNat_natCast
abbrev zbd:=@Int.pow_pos
abbrev zcd:=@Array.getElem?_setIfInBounds_ne
abbrev zdd:=@List.mapM_cons
abbrev zed:=@Nat.add_mul_div_right
abbrev zfd:=@Array.mem_of_getElem?
abbrev zgd:=@Array.getElem?_modify
abbrev zhd:=@Nat.le_add_right
abbrev zid:=@List.drop_length
abbrev zjd:=@Array.mem_toList_iff
abbrev zkd:=@Nat.dvd_trans
abbrev zld:=@Nat.mod_one
abbrev zmd:=@List.getElem?_range
abbrev znd:=@List.drop_succ_cons
abbrev zod:=@List.all_append
abbrev zpd:=@Nat.mul_div_cancel
abbrev zqd:=@List.mem_replicate
abbrev zrd:=@List.map_nil
abbrev zsd:=@Int.sub_eq_add_neg
abbrev ztd:=@Int.lt_or_gt_of_ne
abbrev zud:=@Nat.add_mul_mod_self_left
abbrev zvd:=@Int.ofNat_tmod
abbrev zwd:=@Array.getElem?_eq_getElem
abbrev zxd:=@Nat.lt_trichotomy
abbrev zyd:=@List.pairwise_map
abbrev zzd:=@List.eq_of_mem_replicate
abbrev zAd:=@Int.mul_tdiv_cancel_left
abbrev zBd:=@Array.toList_push
abbrev zCd:=@Int.natCast_ediv
abbrev zDd:=@Option.some.inj
abbrev zEd:=@Nat.zero_mul
abbrev zFd:=@Nat.sub_self
abbrev zGd:=@Nat.mul_succ
abbrev zHd:=@List.any_append
abbrev zId:=@Int.mul_ediv_cancel'
abbrev zJd:=@Array.push_eq_append
abbrev zKd:=@Array.getElem_toList
abbrev zLd:=@Int.ofNat_tdiv
abbrev zMd:=@Bool.false_xor
abbrev zNd:=@Bool.false_and
def grown(w:World)(os:List Obj)(d:Nat):World:={ w with heap:=w.heap++os.toArray,drawn:=d }
def cg(w:World)(b:Nat):Option (Array Value):=
 match w.heap[b]? with
 | some (.cells c _ (0,0))=>some c
 | _=>none
def jS(b:Nat)(w:World):Prop:=b<w.heap.size
def Tw(b:Nat)(w:World)(os:List Obj):Prop:=b<os.length+w.heap.size
section
variable(w:World)(os os':List Obj)(d d':Nat)(o:Obj)(a:Addr)(v:Value)(b:Nat)
@[simp,go_sem] theorem size_grown:(grown w os d).heap.size=os.length+w.heap.size:=by simp[grown];omega
@[simp,go_sem] theorem tape_grown:(grown w os d).tape=w.tape:=rfl
@[simp,go_sem] theorem drew_grown:(grown w os d).drew=grown w os (d+1):=rfl
@[simp,go_sem] theorem drewN_grown (n:Nat):(grown w os d).drewN n=grown w os (d+n):=rfl
def dm{b:Nat}(h:b<w.heap.size):(grown w os d).heap[b]?=w.heap[b]?:=by simp[grown,Array.getElem?_append,h]
def GU:grown w [] w.drawn=w:=by simp[grown]
def eB:w.alloc o=grown w [o] w.drawn:=by show({ w with heap:=w.heap.push o }:World)=_;grind [grown,Array.push_eq_append]
@[simp,go_sem] theorem row?_drew:cg w.drew b=cg w b:=rfl
@[simp,go_sem] theorem row?_drewN (n:Nat):cg (w.drewN n) b=cg w b:=rfl
def w6{c:Array Value}{t:TypeId}(h:b=w.heap.size):cg (w.alloc (.cells c t)) b=some c:=by
 subst h;show(match (w.heap.push (.cells c t))[w.heap.size]? with|some (.cells c _ (0,0))=>some c|_=>none)=_
 simp
@[simp,go_sem] theorem inHeap_setCell:jS b (w.setCell a v)=jS b w:=by simp[jS]
@[simp,go_sem] theorem inHeap_drew:jS b w.drew=jS b w:=rfl
@[simp,go_sem] theorem inHeap_drewN (n:Nat):jS b (w.drewN n)=jS b w:=rfl
theorem cell_of_row{b:Nat}{c:Array Value}(h:cg w b=some c)(j:Nat):w.cell? ⟨b,j,none⟩=c[j]?:=by unfold cg at h;split at h<;>simp at h;rename_i a;subst h;simp[World.cell?,a]
theorem frozen_of_row{b:Nat}{c:Array Value}(h:cg w b=some c)(j:Nat):w.frozen? ⟨b,j,none⟩=false:=by unfold cg at h;split at h<;>simp at h;rename_i a;simp[World.frozen?,a]
def fm(c:Array Value)(off:Nat)(cs:Array Value):Array Value:=c.extract 0 off++cs++c.extract (off+cs.size) c.size
def mV(c cs:Array Value)(off j:Nat)(h:off+cs.size<=c.size):(fm c off cs)[j]?=if j<off then c[j]? else if j<off+cs.size then cs[j-off]? else c[j]?:=by simp only[fm,Array.getElem?_append,Array.getElem?_extract,Array.size_append,Array.size_extract];all_goals grind
@[simp,go_sem] theorem splice_size (c cs:Array Value) (off:Nat) (h:off+cs.size<=c.size):(fm c off cs).size=c.size:=by simp[fm];omega
def ur(c:Array Value)(k:Nat)(v:Value)(l:List Value)(h:k+(l.length+1)<=c.size) :
  fm (c.setIfInBounds k v) (k+1) l.toArray=fm c k (v::l).toArray:=by
 apply Array.ext_getElem?;intro j;rw[mV _ _ _ _ (by simp;omega),mV _ _ _ _ (by simpa using h)]
 all_goals grind
def putAt(w:World)(b off:Nat)(cs:Array Value):World:=
 { w with heap:=w.heap.modify b λ
   | .cells c e f=>.cells (fm c off cs) e f
   | o=>o }
@[simp,go_sem] theorem inHeap_putAt (b' off:Nat) (cs:Array Value):jS b' (putAt w b off cs)=jS b' w:=by simp[jS,putAt]
@[simp,go_sem] theorem size_putAt (off:Nat) (cs:Array Value):(putAt w b off cs).heap.size=w.heap.size:=by simp[putAt]
@[simp,go_sem] theorem tape_putAt (off:Nat) (cs:Array Value):(putAt w b off cs).tape=w.tape:=rfl
end
attribute [irreducible] jS Tw
def DV(P:Program)(T:TypeId)(a:Addr)(w:World):Result Value:=(loadVar T a).run P w
def EA(P:Program)(T:TypeId)(a:Addr)(v:Value)(w:World):Result Unit:=(storeVar T a v).run P w
def TI(P:Program)(T:TypeId)(b off n:Nat)(w:World):Option (Array Value)->Result Value
 | some c=>if off+n<=c.size then .ok (.agg (c.extract off (off+n))) w else DV P T ⟨b,off,none⟩ w
 | none=>DV P T ⟨b,off,none⟩ w
@[simp,go_sem] theorem ldRow_some (P:Program) (T:TypeId) (b off n:Nat) (w:World) (c:Array Value) :
  TI P T b off n w (some c)=if off+n<=c.size then .ok (.agg (c.extract off (off+n))) w else DV P T ⟨b,off,none⟩ w:=rfl
def nc:Value->Bool
 | .agg _|.tuple _=>false
 | _=>true
def TN(cs:Array Value):Bool:=cs.all nc
def T2(P:Program)(T:TypeId)(b off:Nat)(cs:Array Value)(w:World):Option (Array Value)->Result Unit
 | some c=>if off+cs.size<=c.size/\TN cs=true then .ok () (putAt w b off cs) else EA P T ⟨b,off,none⟩ (.agg cs) w
 | none=>EA P T ⟨b,off,none⟩ (.agg cs) w
@[simp,go_sem] theorem stRow_some (P:Program) (T:TypeId) (b off:Nat) (cs:Array Value) (w:World) (c:Array Value) :
  T2 P T b off cs w (some c)=if off+cs.size<=c.size/\TN cs=true then .ok () (putAt w b off cs) else EA P T ⟨b,off,none⟩ (.agg cs) w:=rfl
def xb{P:Program}{T:TypeId}{n:Nat}(h:(P.info? T).map (·.size)=some n)(w:World):(sizeOf T).run P w=.ok n w:=by
 cases hq:P.info? T with
 | none=>simp[hq] at h
 | some i=> simp_all [sizeOf,typeInfo]
def dI(b off j:Nat):(⟨b,off,none⟩:Addr).add j=⟨b,off+j,none⟩:=by unfold Addr.add;split<;>simp_all
theorem c7{P:Program}(b off:Nat):∀ (l:List Value) (i:Nat) (w:World) (c:Array Value),cg w b=some c->off+i+l.length<=c.size->l.all nc=true ->
  (storeCells ⟨b,off,none⟩ l i).run P w=.ok () (putAt w b (off+i) l.toArray)
 | [],i,w,c,a,_,_=>by
  simp only[storeCells,zua];congr 1;unfold cg at a;split at a<;>simp at a;rename_i h;subst a;have g:=(zCa.1 h);obtain⟨g,k⟩:=g;simp only[putAt];have:w.heap.modify b (λ|.cells c e f=>.cells (fm c (off+i) #[]) e f|o=>o)=w.heap:=by
   apply Array.ext
   ·simp
   ·intro j h1 h2;simp only[Array.getElem_modify];split
    ·simp_all [fm]
    ·rfl
  simp_all
 | v::l,i,w,c,a,hlen,d=>by
  simp only[z1b,zaa] at d;simp only[zQa] at hlen;have hc:w.cell? ⟨b,off+i,none⟩=some c[off+i]:=by rw[cell_of_row w a,zwd j1]
  have hf:w.frozen? ⟨b,off+i,none⟩=false:=frozen_of_row w a _;simp only[storeCells,zma];have n:(store ((⟨b,off,none⟩:Addr).add i) v).run P w=.ok () (w.setCell ⟨b,off+i,none⟩ v):=by rw[dI];unfold store;cases v<;>simp_all [Sem.run,nc]
  rw[n];simp only[zga];have m:cg (w.setCell ⟨b,off+i,none⟩ v) b=some (c.setIfInBounds (off+i) v):=by unfold cg at a ⊢;split at a<;>simp at a;rename_i h;subst a;simp only[World.setCell,zgd,if_true,h,zMb,Option.isSome_none,zFa,if_false]
  rw[c7 b off l (i+1) _ _ m (by simp;omega) d.2]
  congr 1;unfold cg at a;split at a<;>simp at a;rename_i h;subst a;obtain⟨g,k⟩:=(zCa.1 h);simp only[putAt,World.setCell];congr 1;apply Array.ext
  ·simp
  ·intro j h1 h2;simp only[Array.getElem_modify];split
   ·rename_i h3;subst h3;simp only[k,Option.isSome_none,zFa,if_false];rw[<-ur _ _ _ _ j1]
    rfl
   ·rfl
def m8(place:Nat->Option (Nat×Nat))(cells:Array Value):List (Nat×Value)->Option (Array Value)
 | []=>some cells
 | (i,v)::rest=>
  match place i with
  | none=>none
  | some (off,size)=>if v.cells.size≠size\/off+v.cells.size>cells.size then none else m8 place (fm cells off v.cells) rest
theorem qU(off:Nat):∀ (l:List Value) (k:Nat) (cells:Array Value),off+k+l.length<=cells.size ->
  (l.zipIdx k).foldl (λcs (c,j)=>cs.setIfInBounds (off+j) c) cells=fm cells (off+k) l.toArray
 | [],k,cells,_=>by simp only[List.zipIdx_nil,List.foldl_nil,fm];all_goals simp_all
 | v::l,k,cells,h=>by simp only[zQa] at h;simp only[List.zipIdx_cons,zLc];rw[qU off l (k+1) _ (by simp;omega),show off+(k+1)=(off+k)+1 from by omega,ur _ _ _ _ j1]
theorem qO(place:Nat->Option (Nat×Nat)):∀ (l:List (Nat×Value)) (cells:Array Value),Instr.fill place cells l=m8 place cells l
 | [],cells=>rfl
 | (i,v)::rest,cells=>by
  simp only[Instr.fill,m8];cases place i with
  | none=>rfl
  | some q=>
   obtain⟨off,size⟩:=q;by_cases h:v.cells.size≠size\/off+v.cells.size>cells.size
   ·simp[h]
   ·simp only[h,if_false];have b:¬ (v.cells.size≠size||decide (off+v.cells.size>cells.size))=true:=by simpa using h
    have hle:off+0+v.cells.toList.length<=cells.size:=by simp;omega
    have e:=qU off v.cells.toList 0 cells hle;simp only[zjc,zpc] at e;have a:v.cells.zipIdx.foldl (λcs (c,j)=>cs.setIfInBounds (off+j) c) cells=fm cells off v.cells:=by rw[<-e,<-Array.foldl_toList];simp
    simp only[b,if_false,zFa,a];exact qO place rest _
def vV{place:Nat->Option (Nat×Nat)}{cells:Array Value}{i off size:Nat}{v:Value}{rest:List (Nat×Value)}(hp:place i=some (off,size))(h1:v.cells.size=size)(h2:off+size<=cells.size) :
  m8 place cells ((i,v)::rest)=m8 place (fm cells off v.cells) rest:=by
 simp only[m8,hp];grind
section
variable{α:Type}{enc:α->Array Value}{c:Nat}(hc:∀ x,(enc x).size=c)
include hc
def qg(f:Nat->α)(k:Nat)(y:α):Nat->α:=λi=>if i=k then y else f i
end
end
noncomputable section
namespace Sy
open Go
inductive Ty where
 | int (k:IntKind)|bool|str|st (l:List Ty)|arr (n:Nat) (t:Ty)|sl (t:Ty)|tup (l:List Ty)|fn
mutual
def Ty.beq:Ty->Ty->Bool
 | .int k,.int k'=>decide (k=k')
 | .bool,.bool=>true
 | .str,.str=>true
 | .st l,.st l'=>Ty.beqs l l'
 | .arr n t,.arr n' t'=>decide (n=n')&&Ty.beq t t'
 | .sl t,.sl t'=>Ty.beq t t'
 | .tup l,.tup l'=>Ty.beqs l l'
 | .fn,.fn=>true
 | _,_=>false
def Ty.beqs:List Ty->List Ty->Bool
 | [],[]=>true
 | t::l,t'::l'=>Ty.beq t t'&&Ty.beqs l l'
 | _,_=>false
end
mutual
theorem af7:∀ (t t':Ty),t.beq t'=true->t=t'
 | .int k,t',h=>by cases t'<;>simp[Ty.beq] at h;rw[h]
 | .bool,t',h=>by grind [Ty.beq]
 | .str,t',h=>by grind [Ty.beq]
 | .st l,t',h=>by cases t'<;>simp[Ty.beq] at h;rw[af8 _ _ h]
 | .arr n t,t',h=>by cases t'<;>simp[Ty.beq] at h;rw[h.1,af7 _ _ h.2]
 | .sl t,t',h=>by cases t'<;>simp[Ty.beq] at h;rw[af7 _ _ h]
 | .tup l,t',h=>by cases t'<;>simp[Ty.beq] at h;rw[af8 _ _ h]
 | .fn,t',h=>by grind [Ty.beq]
theorem af8:∀ (l l':List Ty),Ty.beqs l l'=true->l=l'
 | [],l',h=>by grind [Ty.beqs]
 | t::l,l',h=>by
  cases l' with
  | nil=>simp[Ty.beqs] at h
  | cons t' l'=>simp[Ty.beqs] at h;rw[af7 _ _ h.1,af8 _ _ h.2]
end
mutual
def Ty.size:Ty->Nat
 | .st l=>aga l
 | .arr n t=>n*t.size
 | .tup _=>0
 | _=>1
def aga:List Ty->Nat
 | []=>0
 | t::l=>t.size+aga l
end
inductive D where
 | int (k:IntKind) (n:Int)|bool (b:Bool)|str (s:ByteArray)|st (l:List D)|sl (l:List D)|tup (l:List D)
instance:Inhabited D:=⟨.bool false⟩
mutual
def D.flat:D->List D
 | .st l=>aft l
 | .int k n=>[.int k n]
 | .bool b=>[.bool b]
 | .str s=>[.str s]
 | .sl l=>[.sl l]
 | .tup l=>[.tup l]
def aft:List D->List D
 | []=>[]
 | d::l=>D.flat d++aft l
end
mutual
def wt:Ty->D->Prop
 | .int k,d=>∃ n,d=.int k n
 | .bool,d=>∃ b,d=.bool b
 | .str,d=>∃ s,d=.str s
 | .st ts,d=>∃ l,d=.st l/\fY ts l
 | .arr n t,d=>∃ l,d=.st l/\l.length=n/\∀ x∈l,wt t x
 | .sl t,d=>∃ l,d=.sl l/\∀ x∈l,wt t x
 | .tup ts,d=>∃ l,d=.tup l/\fY ts l
 | .fn,_=>False
def fY:List Ty->List D->Prop
 | [],l=>l=[]
 | t::ts,l=>∃ d l',l=d::l'/\wt t d/\fY ts l'
end
mutual
def D.beq:D->D->Bool
 | .int k n,.int k' n'=>decide (k=k')&&decide (n=n')
 | .bool b,.bool b'=>b==b'
 | .str s,.str s'=>decide (s=s')
 | .st l,.st l'=>D.beqs l l'
 | _,_=>false
def D.beqs:List D->List D->Bool
 | [],[]=>true
 | t::l,t'::l'=>D.beq t t'&&D.beqs l l'
 | _,_=>false
end
mutual
def aw:Ty->D
 | .int k=>.int k 0
 | .bool=>.bool false
 | .str=>.str ByteArray.empty
 | .st l=>.st (gX l)
 | .arr n t=>.st (List.replicate n (aw t))
 | .sl _=>.sl []
 | .tup l=>.tup (gX l)
 | .fn=>.bool false
def gX:List Ty->List D
 | []=>[]
 | t::l=>aw t::gX l
end
mutual
def PE:Ty->Bool
 | .st l=>Ah l
 | .arr _ t=>PE t
 | .sl _=>true
 | .tup _=>true
 | .fn=>true
 | _=>false
def Ah:List Ty->Bool
 | []=>false
 | t::l=>PE t||Ah l
end
mutual
def av:Ty->Bool
 | .st l=>bG l
 | .arr _ t=>av t
 | .sl t=>av t
 | .tup _=>false
 | .fn=>false
 | _=>true
def bG:List Ty->Bool
 | []=>true
 | t::l=>av t&&bG l
end
inductive Ex where
 | normal|exit (id:Nat)|ret
def Ex.is:Ex->Ex->Bool
 | .normal,.normal=>true
 | .exit i,.exit j=>decide (i=j)
 | .ret,.ret=>true
 | _,_=>false
def Ee:Option Ex->Option Ex->Bool
 | none,none=>true
 | some e,some a=>e.is a
 | _,_=>false
inductive AV where
 | d (t:Ty) (x:D)
 | own (t:Ty) (v:Nat) (l:List D)
 | nils
 | ptr (t:Ty) (id:Nat) (p:List Nat)
 | fptr (t:Ty) (x:D)
 | mem (t:Ty) (id:Nat)
 | st (ts:List Ty) (l:List AV)
 | clo (f:Nat) (l:List AV)
 | map (kt vt:Ty) (id:Nat)
 | sub (sl:Bool) (t:Ty) (id:Nat) (p:List Nat) (lo n:Nat)
 | yld (id:Nat)
 | gone
 | undef
instance:Inhabited AV:=⟨.undef⟩
structure LpI where
 nt:Nat
 ps:List Nat
 asg:Code
 bdy:Code
 caps:Nat->AV
inductive Ob where
 | one (t:Ty) (v:AV)
 | many (t:Ty) (l:List D)
 | mp (kt vt:Ty) (l:List D)
 | lp (i:LpI) (pend:Option Ex)
 | fv (v:AV)
def D.fld:D->Nat->Option D
 | .st l,i=>l[i]?
 | _,_=>none
def D.tupAt:D->Nat->Option D
 | .tup l,i=>l[i]?
 | _,_=>none
def D.get:D->List Nat->Option D
 | x,[]=>some x
 | x,i::p=>(x.fld i).bind λy=>y.get p
def D.set:D->List Nat->D->Option D
 | _,[],y=>some y
 | .st l,i::p,y=>(l[i]?).bind λz=>(D.set z p y).bind λa=>some (.st (l.set i a))
 | _,_::_,_=>none
def D.asSl:D->Option (List D)
 | .sl l=>some l
 | _=>none
def D.stl:D->Option (List D)
 | .st l=>some l
 | _=>none
def D.asInt:D->Option (IntKind×Int)
 | .int k n=>some (k,n)
 | _=>none
def D.truth:D->Option Bool
 | .bool b=>some b
 | _=>none
def D.idx:D->Nat->Option Nat
 | .int _ i,n=>if 0<=i/\i<(n:Int) then some i.toNat else none
 | _,_=>none
def afA:D->D->Option D
 | .str s,.int _ i=>(if 0<=i then s[i.toNat]? else none).bind λb=>some (.int .u8 b.toNat)
 | _,_=>none
def D.slen:D->Option D
 | .str s=>some (.int .i64 s.size)
 | _=>none
def D.conv(k:IntKind):D->Option D
 | .int _ n=>some (.int k (k.wrap n))
 | _=>none
def afo(op:BinOp)(k:IntKind)(x y:Int):Option D:=
 match op with
 | .and=>some (.int k (k.wrap (BitVec.ofInt k.bits x &&& BitVec.ofInt k.bits y).toNat))
 | .or=>some (.int k (k.wrap (BitVec.ofInt k.bits x ||| BitVec.ofInt k.bits y).toNat))
 | .xor=>some (.int k (k.wrap (BitVec.ofInt k.bits x ^^^ BitVec.ofInt k.bits y).toNat))
 | .andNot=>some (.int k (k.wrap (BitVec.ofInt k.bits x &&& ~~~ BitVec.ofInt k.bits y).toNat))
 | _=>none
def afn(op:BinOp):D->D->Option D
 | .int k a,.int c b=>
  match op with
  | .shl=>if b<0 then none else some (.int k (k.wrap (a*2^(min b.toNat k.bits))))
  | .shr=>if b<0 then none else some (.int k (a.fdiv (2^(min b.toNat k.bits))))
  | _=>if k=c then
   match op with
   | .add=>some (.int k (k.wrap (a+b)))
   | .sub=>some (.int k (k.wrap (a-b)))
   | .mul=>some (.int k (k.wrap (a*b)))
   | .quo=>if b=0 then none else some (.int k (k.wrap (a.tdiv b)))
   | .rem=>if b=0 then none else some (.int k (a.tmod b))
   | .eql=>some (.bool (a==b))
   | .neq=>some (.bool (a != b))
   | .lss=>some (.bool (decide (a<b)))
   | .leq=>some (.bool (decide (a<=b)))
   | .gtr=>some (.bool (decide (a>b)))
   | .geq=>some (.bool (decide (a ≥ b)))
   | .and=>afo .and k a b
   | .or=>afo .or k a b
   | .xor=>afo .xor k a b
   | .andNot=>afo .andNot k a b
   | _=>none
   else none
 | _,_=>none
def afB(op:UnOp):D->Option D
 | .int k n=>match op with
  | .neg=>some (.int k (k.wrap (0-n)))
  | .xor=>afo .xor k (if k.signed then -1 else k.max) n
  | _=>none
 | .bool b=>match op with
  | .not=>some (.bool (!b))
  | _=>none
 | _=>none
def D.min2:D->D->Option D
 | .int k x,.int _ y=>some (.int k (if y<x then y else x))
 | _,_=>none
def D.max2:D->D->Option D
 | .int k x,.int _ y=>some (.int k (if y>x then y else x))
 | _,_=>none
def D.cut(l:List D)(lo a:Nat):Option (List D):=if lo<=a/\a<=l.length then some ((l.take a).drop lo) else none
def D.natOf:D->Option Nat
 | .int _ i=>if 0<=i then some i.toNat else none
 | _=>none
def afz:List D->List (Nat×D)->List D
 | l,[]=>l
 | l,(i,x)::r=>afz (l.set i x) r
def ba:Ty->List Nat->Option Ty
 | t,[]=>some t
 | .st a,i::p=>(a[i]?).bind λt=>ba t p
 | .arr _ t,_::p=>ba t p
 | _,_=>none
def bz:Ty->List Nat->Nat
 | _,[]=>0
 | .st a,i::p=>aga (a.take i)+bz (a.getD i .bool) p
 | .arr _ t,i::p=>i*t.size+bz t p
 | _,_=>0
def Ag{R:Type}:AV->List Nat->(AV->Option R)->Option R
 | .d t x,p,k=>match p with
  | []=>k (.d t x)
  | i::p=>(ba t (i::p)).bind λb=>(x.get (i::p)).bind λy=>k (.d b y)
 | a,[],k=>k a
 | .st _ l,i::p,k=>(l[i]?).bind λa=>Ag a p k
 | _,_,_=>none
mutual
def AV.fits:Ty->AV->Bool
 | t,.d t' _=>t.beq t'
 | .sl t,.own t' _ _=>t.beq t'
 | .sl _,.nils=>true
 | .st ts,.st ts' l=>Ty.beqs ts ts'&&AV.fitss ts l
 | _,_=>false
def AV.fitss:List Ty->List AV->Bool
 | [],[]=>true
 | t::ts,a::l=>AV.fits t a&&AV.fitss ts l
 | _,_=>false
end
def Ev{R:Type}:AV->List Nat->AV->(AV->Option R)->Option R
 | _,[],b,k=>k b
 | .d t x,i::p,b,k=>match b with
  | .d _ y=>(x.set (i::p) y).bind λe=>k (.d t e)
  | _=>none
 | .st c l,i::p,b,k=>(l[i]?).bind λa=>Ev a p b λa'=>k (.st c (l.set i a'))
 | _,_::_,_,_=>none
mutual
def mo:Ty->AV
 | .sl _=>.nils
 | .st ts=>if Ah ts then .st ts (li ts) else .d (.st ts) (aw (.st ts))
 | t=>.d t (aw t)
def li:List Ty->List AV
 | []=>[]
 | t::l=>mo t::li l
end
def iD{R:Type}:Ob->List Nat->(AV->Option R)->Option R
 | .one _ v,p,k=>Ag v p k
 | .many t l,i::p,k=>(l[i]?).bind λx=>Ag (.d t x) p k
 | _,_,_=>none
def fG:Ob->List Nat->Option Ty
 | .one t _,p=>ba t p
 | .many t _,_::p=>ba t p
 | .fv _,[]=>some .fn
 | _,_=>none
structure St where
 tm:Nat->AV
 ob:Nat->Option Ob
 fresh:Nat
 dead:List Nat
 nt:Nat
 lkS:List Nat
 lkO:List Nat
def St.put(s:St)(dst:Option Nat)(v:AV):St:=
 match dst with
 | some t=>if t<s.nt then{ s with tm:=λi=>if i=t then v else s.tm i } else s
 | none=>s
def St.base(s:St):Nat:=s.fresh*4096
def St.setOb(s:St)(id:Nat)(o:Option Ob):St:={ s with ob:=λi=>if i=id then o else s.ob i }
mutual
def afi(ob:Nat->Option Ob):Ty->AV->Option D
 | t,.d t' x=>if t.beq t' then some x else none
 | t,.own t' _ l=>if t.beq (.sl t') then some (.sl l) else none
 | t,.nils=>match t with
  | .sl _=>some (.sl [])
  | _=>none
 | t,.st ts' l=>if t.beq (.st ts') then(AV.toDl ob ts' l).bind λxs=>some (.st xs) else none
 | _,_=>none
def AV.toDl(ob:Nat->Option Ob):List Ty->List AV->Option (List D)
 | [],[]=>some []
 | t::ts,a::l=>(afi ob t a).bind λx=>(AV.toDl ob ts l).bind λxs=>some (x::xs)
 | _,_=>none
end
def AV.asList(ob:Nat->Option Ob)(t:Ty)(a:AV):Option (List D):=(afi ob (.sl t) a).bind D.asSl
def AV.truth:AV->Option Bool
 | .d t x=>if t.beq .bool then x.truth else none
 | _=>none
inductive Sh where
 | dv (t:Ty)
 | ow (t:Ty)
 | same (a:AV)
 | st (ts:List Ty) (l:List Sh)
inductive ShO where
 | one (t:Ty) (h:Sh)
 | many (t:Ty)
 | mp (kt vt:Ty)
 | keep (t:Ty) (wit:Nat)
 | lp (pend:Option Ex) (wit:Nat)
 | fv (a:AV)
structure Shape where
 slots:List (Nat×Sh)
 objs:List (Nat×ShO)
 keepS:List Nat
inductive Ann where
 | leaf
 | reg (fz:List Nat) (n:Nat)
 | regI (fz:List Nat) (n:Nat) (a:Ann)
 | two (a b:Ann)
 | cut (exits:List (Ex×Shape)) (keepS keepO:List Nat) (a b:Ann)
 | loop (h:Shape) (exits:List (Ex×Shape)) (a:Ann)
 | all (exits:List (Ex×Shape)) (keepS keepO:List Nat) (a:Ann)
def Ann.fz:Ann->List Nat|.reg fz _=>fz|.regI fz _ _=>fz|_=>[]
def Ann.heads(m:Nat):Ann->Nat|.reg _ n=>n|.regI _ n _=>n|_=>m
def Ann.inner:Ann->Ann|.regI _ _ a=>a|_=>.leaf
def Ann.fst:Ann->Ann|.two a _=>a|.cut _ _ _ a _=>a|.loop _ _ a=>a|_=>.leaf
def Ann.snd:Ann->Ann|.two _ b=>b|.cut _ _ _ _ b=>b|_=>.leaf
structure Env where
 L:Nat->Option Ty
 sig:Nat->Option (List Ty×Ty)
 call:Nat->List D->Option D
 mapL:Nat->Option (Ty×Ty)
 lp:{α β:Type}->(α->Option (Sum α β))->α->Option β
 inl:Nat->Option (Ann->(R:Type)->St->List AV->(AV->St->Option R)->Option R)
 cod:Code->Ann->(R:Type)->St->(Ex->St->Option R)->Option R
 free:Nat->Nat
 pv:Bool
 fnT:Nat->Bool
 ownF:Nat->Bool
def Env.alTy(E:Env)(T:Nat):Option Ty:=bif E.fnT T then some .fn else E.L T
def Env.alOb(E:Env)(T:Nat):Option Ob:=bif E.fnT T then some (.fv .undef) else(E.L T).map λt=>.one t (mo t)
def ni:AV->Bool
 | .clo ..=>true
 | .yld _=>true
 | .map ..=>true
 | _=>false
structure Inl where
 pv:Bool
 f:Nat->Option (Ann->(R:Type)->St->List AV->(AV->St->Option R)->Option R)
 cod:Code->Ann->(R:Type)->St->(Ex->St->Option R)->Option R
def I1:Value->AV
 | .int k n=>.d (.int k) (.int k n)
 | .bool b=>.d .bool (.bool b)
 | .string s=>.d .str (.str s)
 | .slice none 0 0=>.nils
 | _=>.undef
def St.opA(s:St):Operand->AV
 | .tmp t=>s.tm t
 | .const v=>I1 v
 | .func f=>.clo f []
 | _=>.undef
def isD:AV->Option (Ty×D)
 | .d t x=>some (t,x)
 | _=>none
mutual
def cn:Ty->Bool
 | .int _=>true
 | .bool=>true
 | .st ts=>nJ ts
 | .arr _ t=>cn t
 | _=>false
def nJ:List Ty->Bool
 | []=>true
 | t::l=>cn t&&nJ l
end
def partsD(ob:Nat->Option Ob)(s:St)(ty:Nat->Option Ty):List (Nat×Operand)->Option (List (Nat×D))
 | []=>some []
 | (i,x)::r=>(ty i).bind λt=>(afi ob t (s.opA x)).bind λy=>(partsD ob s ty r).bind λa=>some ((i,y)::a)
def gP(s:St)(a:List Ty)(p:Nat×Operand):Bool:=match a[p.1]? with|some u=>AV.fits u (s.opA p.2)|none=>false
def gE:AV->Bool
 | .ptr ..=>true
 | _=>false
def oP:List AV->List (Nat×AV)->List AV
 | l,[]=>l
 | l,(i,x)::r=>oP (l.set i x) r
def afu:List D->D->Option D
 | [],_=>none
 | .st [k,v]::l,x=>if D.beq x k then some v else afu l x
 | _::l,x=>afu l x
def afv:List D->D->D->List D
 | [],x,y=>[.st [x,y]]
 | .st [k,v]::l,x,y=>if D.beq x k then .st [k,y]::l else .st [k,v]::afv l x y
 | e::l,x,y=>e::afv l x y
def dZ:List Nat->Bool
 | []=>true
 | a::l=>!(l.contains a)&&dZ l
def vB(l:List AV):List Nat:=l.map λx=>match x with|.ptr _ id _=>id|_=>0
def qs(ob:Nat->Option Ob):List Ty->List AV->Option (List D)
 | [],[]=>some []
 | t::a,.ptr _ id []::l=>match ob id with
  | some (.one u v)=>if t.beq u then(afi ob t v).bind λz=>(qs ob a l).bind λb=>some (z::b) else none
  | _=>none
 | _,_=>none
def xx:List AV->Bool
 | []=>true
 | .ptr _ _ []::l=>xx l
 | _::_=>false
def yE:Option Ob->Bool
 | some (.one _ _)=>true
 | some (.fv _)=>true
 | _=>false
def j8(ob:Nat->Option Ob):AV->AV
 | .d t x=>.d t x
 | .own t _ l=>.d (.sl t) (.sl l)
 | .fptr t x=>.fptr t x
 | .ptr t id []=>if yE (ob id) then .ptr t id [] else .undef
 | .clo f l=>if xx l&&l.all (λa=>match a with|.ptr _ id _=>yE (ob id)|_=>false) then .clo f l else .undef
 | .yld id=>.yld id
 | .map b vt id=>.map b vt id
 | _=>.undef
def mw(ob:Nat->Option Ob):AV->AV
 | .ptr _ id []=>match ob id with
  | some (.one t _)=>.ptr t id []
  | some (.fv _)=>.ptr .fn id []
  | _=>.undef
 | _=>.undef
def pq(ob:Nat->Option Ob):AV->AV
 | .d t x=>.d t x
 | .fptr t x=>.fptr t x
 | .ptr t id p=>mw ob (.ptr t id p)
 | .clo f l=>if(l.map (mw ob)).all gE then .clo f (l.map (mw ob)) else .undef
 | .yld id=>.yld id
 | .map c vt id=>match ob id with
  | some (.mp a b _)=>if c.beq a&&vt.beq b then .map c vt id else .undef
  | _=>.undef
 | _=>.undef
def qv{R:Type}(E:Env)(s:St)(o:Oper)(K:AV->Option R):Option R:=
 match o.op with
 | .move x=>K (s.opA x)
 | .assign x=>K (s.opA x)
 | .pick c a b=>(s.opA c).truth.bind λc=>if c then K (s.opA a) else K (s.opA b)
 | .alloc T=>(E.alTy T).bind λt=>o.dst.bind λd=>K (.ptr t (s.base+d) [])
 | .load T a=>bif E.fnT T then(match s.opA a with|.ptr .fn id []=>(match s.ob id with|some (.fv v)=>if ni (pq s.ob v) then K (pq s.ob v) else none|_=>none)|_=>none) else(E.L T).bind λt=>match s.opA a with
  | .ptr h id p=>if t.beq h then(s.ob id).bind λo=>iD o p K else none
  | .fptr h x=>if t.beq h then K (.d h x) else none
  | .sub sl e id p lo n=>if !sl&&t.beq (.arr n e) then(s.ob id).bind λo=>iD o p λv=>match v with
    | .d (.arr _ A) (.st l)=>if A.beq e&&decide (lo+n<=l.length) then K (.d (.arr n e) (.st ((l.drop lo).take n))) else none
    | _=>none
   else none
  | _=>none
 | .fieldAddr T x f=>(E.L T).bind λt=>match t,s.opA x with
  | .st j,.ptr h id p=>if h.beq (.st j) then(j[f]?).bind λu=>K (.ptr u id (p++[f])) else none
  | .st j,.fptr h y=>if h.beq (.st j) then(j[f]?).bind λu=>(y.fld f).bind λz=>K (.fptr u z) else none
  | _,_=>none
 | .indexAddr T x i=>(E.L T).bind λt=>(isD (s.opA i)).bind λq=>match t with
  | .arr n e=>match s.opA x with
   | .ptr h id p=>if h.beq (.arr n e) then(q.2.idx n).bind λk=>K (.ptr e id (p++[k])) else none
   | .fptr h y=>if h.beq (.arr n e) then(q.2.idx n).bind λk=>(y.fld k).bind λz=>K (.fptr e z) else none
   | _=>none
  | .sl e=>match s.opA x with
   | .mem h id=>if h.beq e then match s.ob id with
     | some (.many _ l)=>(q.2.idx l.length).bind λk=>K (.ptr e id [k])
     | _=>none
    else none
   | a=>(a.asList s.ob e).bind λl=>(q.2.idx l.length).bind λk=>(l[k]?).bind λy=>K (.fptr e y)
  | _=>none
 | .field T x f=>(E.L T).bind λt=>match t,s.opA x with
  | .st j,.d h y=>if h.beq (.st j) then(j[f]?).bind λu=>(y.fld f).bind λz=>K (.d u z) else none
  | _,_=>none
 | .index T x i=>(E.L T).bind λt=>(isD (s.opA i)).bind λq=>match t,s.opA x with
  | .arr n e,.d h y=>if h.beq (.arr n e) then(q.2.idx n).bind λk=>(y.fld k).bind λz=>K (.d e z) else none
  | .str,.d h y=>if h.beq .str then(afA y q.2).bind λz=>K (.d (.int .u8) z) else none
  | _,_=>none
 | .binOp op T x y _=>(E.L T).bind λt=>(isD (s.opA x)).bind λa=>(isD (s.opA y)).bind λb=>
  match op with
  | .eql=>if a.1.beq t&&b.1.beq t&&cn t then K (.d .bool (.bool (D.beq a.2 b.2))) else none
  | .neq=>if a.1.beq t&&b.1.beq t&&cn t then K (.d .bool (.bool (!(D.beq a.2 b.2)))) else none
  | .lss=>(afn .lss a.2 b.2).bind λz=>K (.d .bool z)
  | .leq=>(afn .leq a.2 b.2).bind λz=>K (.d .bool z)
  | .gtr=>(afn .gtr a.2 b.2).bind λz=>K (.d .bool z)
  | .geq=>(afn .geq a.2 b.2).bind λz=>K (.d .bool z)
  | op=>(afn op a.2 b.2).bind λz=>K (.d a.1 z)
 | .unOp op _ x=>(isD (s.opA x)).bind λa=>(afB op a.2).bind λz=>K (.d a.1 z)
 | .convert S T x=>(E.L S).bind λu=>(E.L T).bind λt=>(isD (s.opA x)).bind λa=>
  match t with
  | .int k=>if a.1.beq u then(D.conv k a.2).bind λz=>K (.d t z) else none
  | _=>none
 | .build T ps=>(E.L T).bind λt=>match t with
  | .st j=>if Ah j then(if ps.toList.all (gP s j) then K (.st j (oP (li j) (ps.toList.map λp=>(p.1,s.opA p.2)))) else none)
   else(partsD s.ob s (λi=>j[i]?) ps.toList).bind λl=>K (.d t (.st (afz (gX j) l)))
  | .arr n e=>(partsD s.ob s (λi=>if i<n then some e else none) ps.toList).bind λl=>K (.d t (.st (afz (List.replicate n (aw e)) l)))
  | _=>none
 | .buildSlice T n ps=>(E.L T).bind λt=>match t with
  | .sl e=>if n<=4096 then o.dst.bind λd=>(partsD s.ob s (λi=>if i<n then some e else none) ps.toList).bind λl=>K (.own e (s.base+d) (afz (List.replicate n (aw e)) l)) else none
  | _=>none
 | .extract x i=>match s.opA x with
  | .d (.tup j) y=>(j[i]?).bind λu=>(y.tupAt i).bind λz=>K (.d u z)
  | _=>none
 | .nilCheck x=>match s.opA x with
  | .ptr t id p=>K (.ptr t id p)
  | _=>none
 | .slice T x lo r H=>match H with
  | some _=>none
  | none=>(E.L T).bind λt=>match t with
   | .sl e=>((s.opA x).asList s.ob e).bind λl=>
    (match lo with|none=>some 0|some i=>(isD (s.opA i)).bind λa=>a.2.natOf).bind λlo=>
    (match r with|none=>some l.length|some i=>(isD (s.opA i)).bind λa=>a.2.natOf).bind λr=>
    (D.cut l lo r).bind λl'=>K (.d t (.sl l'))
   | .arr m e=>match s.opA x with
    | .ptr h id p=>if h.beq (.arr m e) then
     (match lo with|none=>some 0|some i=>(isD (s.opA i)).bind λa=>a.2.natOf).bind λlo=>
     (match r with|none=>some m|some i=>(isD (s.opA i)).bind λa=>a.2.natOf).bind λr=>
     if lo<=r/\r<=m/\lo<m then K (.sub true e id p lo (r-lo)) else none
     else none
    | _=>none
   | _=>none
 | .sliceToArrayPointer T x=>(E.L T).bind λt=>match t,s.opA x with
  | .arr n e,.sub sl A id p lo I=>if sl&&A.beq e&&decide (n<=I) then K (.sub false e id p lo n) else none
  | .arr n e,a=>(a.asList s.ob e).bind λl=>if decide (1<=n)&&decide (n<=l.length) then K (.fptr (.arr n e) (.st (l.take n))) else none
  | _,_=>none
 | .lookup T x i w=>(E.mapL T).bind λG=>match s.opA x with
  | .map B vt id=>if B.beq G.1&&vt.beq G.2 then match s.ob id with
    | some (.mp C F l)=>if C.beq B&&F.beq vt then(isD (s.opA i)).bind λq=>if q.1.beq B then
      match w with
      | false=>K (.d vt ((afu l q.2).getD (aw vt)))
      | true=>K (.d (.tup [vt,.bool]) (.tup [(afu l q.2).getD (aw vt),.bool (afu l q.2).isSome]))
      else none
     else none
    | _=>none
   else none
  | _=>none
 | .makeFunc fn first captured=>match fn with
  | .func f=>if first.size=0/\(captured.toList.all λx=>gE (s.opA x))=true then K (.clo f (captured.toList.map s.opA)) else none
  | _=>none
 | .call c=>match c.callee with
  | .builtin .len=>(c.argTypes[0]?).bind λT=>(E.L T).bind λt=>(c.args[0]?).bind λx=>match t with
   | .sl e=>match s.opA x with
    | .mem h id=>if h.beq e then match s.ob id with
      | some (.many _ l)=>K (.d (.int .i64) (.int .i64 l.length))
      | _=>none
     else none
    | a=>(a.asList s.ob e).bind λl=>K (.d (.int .i64) (.int .i64 l.length))
   | .arr n _=>K (.d (.int .i64) (.int .i64 n))
   | .str=>(isD (s.opA x)).bind λa=>if a.1.beq .str then(D.slen a.2).bind λz=>K (.d (.int .i64) z) else none
   | _=>none
  | .builtin .min=>match c.args.toList with
   | [x,y]=>(isD (s.opA x)).bind λa=>(isD (s.opA y)).bind λb=>if a.1.beq b.1 then(D.min2 a.2 b.2).bind λz=>K (.d a.1 z) else none
   | _=>none
  | .builtin .max=>match c.args.toList with
   | [x,y]=>(isD (s.opA x)).bind λa=>(isD (s.opA y)).bind λb=>if a.1.beq b.1 then(D.max2 a.2 b.2).bind λz=>K (.d a.1 z) else none
   | _=>none
  | .value (.func f)=>(E.sig f).bind λg=>bif Nat.beq (E.free f) 0 then(AV.toDl s.ob g.1 (c.args.toList.map s.opA)).bind λxs=>(E.call f xs).bind λy=>bif E.ownF f then(o.dst.bind λd=>y.asSl.bind λl=>match g.2 with|.sl t=>K (.own t (s.base+d) l)|_=>none) else K (.d g.2 y) else none
  | .value (.tmp t)=>match s.tm t with
   | .clo f l=>(E.sig f).bind λg=>bif Nat.beq (E.free f) l.length&&dZ (vB l) then(AV.toDl s.ob (g.1.take (g.1.length-l.length)) (c.args.toList.map s.opA)).bind λxs=>(qs s.ob (g.1.drop (g.1.length-l.length)) l).bind λJ=>(E.call f (xs++J)).bind λy=>K (.d g.2 y) else none
   | _=>none
  | _=>none
 | _=>none
def uT{R:Type}(E:Env)(s:St)(o:Oper)(K:St->Option R):Option R:=
 match o.op with
 | .store T a x=>bif E.fnT T then(match s.opA a with|.ptr .fn id []=>if ni (j8 s.ob (s.opA x))&&!(s.lkO.contains id) then(match s.ob id with|some (.fv _)=>K (s.setOb id (some (.fv (j8 s.ob (s.opA x)))))|_=>none) else none|_=>none) else(E.L T).bind λt=>match s.opA a with
  | .ptr I id p=>if t.beq I&&AV.fits t (s.opA x)&&!(s.lkO.contains id) then match s.ob id with
    | some (.one u v)=>Ev v p (s.opA x) λv'=>K (s.setOb id (some (.one u v')))
    | some (.many u l)=>match p with
     | i::C=>(l[i]?).bind λz=>(afi s.ob t (s.opA x)).bind λy=>(D.set z C y).bind λM=>K (s.setOb id (some (.many u (l.set i M))))
     | []=>none
    | _=>none
   else none
  | _=>none
 | .makeMap T F=>match F with
  | some _=>none
  | none=>(E.mapL T).bind λb=>o.dst.bind λd=>K ((s.setOb (s.base+d) (some (.mp b.1 b.2 []))).put o.dst (.map b.1 b.2 (s.base+d)))
 | .mapUpdate T m k v=>if o.dst.isSome then none else(E.mapL T).bind λb=>match s.opA m with
  | .map h vt id=>if h.beq b.1&&vt.beq b.2&&!(s.lkO.contains id) then match s.ob id with
    | some (.mp w G l)=>if w.beq h&&G.beq vt then(afi s.ob h (s.opA k)).bind λH=>(afi s.ob vt (s.opA v)).bind λJ=>K (s.setOb id (some (.mp h vt (afv l H J)))) else none
    | _=>none
   else none
  | _=>none
 | .box T x=>bif E.fnT T then(o.dst.bind λd=>if ni (j8 s.ob (s.opA x)) then K ((s.setOb (s.base+d) (some (.fv (j8 s.ob (s.opA x))))).put o.dst (.ptr .fn (s.base+d) [])) else none) else(E.L T).bind λt=>o.dst.bind λd=>if AV.fits t (s.opA x) then K ((s.setOb (s.base+d) (some (.one t (s.opA x)))).put o.dst (.ptr t (s.base+d) [])) else none
 | .makeSlice T l c=>(E.L T).bind λt=>o.dst.bind λd=>match t,l,c with
  | .sl e,.tmp i,.tmp j=>if i=j then(isD (s.tm i)).bind λa=>(a.2.natOf).bind λn=>if n<=1073741824 then K ((s.setOb (s.base+d) (some (.many e (List.replicate n (aw e))))).put o.dst (.mem e (s.base+d))) else none else none
  | _,_,_=>none
 | .call c=>match c.callee with
  | .builtin .append=>(c.argTypes[0]?).bind λT=>(E.L T).bind λt=>o.dst.bind λd=>match t,c.args.toList,c.argTypes.toList with
   | .sl e,[x,y],[_,T']=>match E.L T' with
    | some (.sl _)=>((s.opA y).asList s.ob e).bind λl'=>match s.opA x with
     | .own q v l=>if q.beq e&&!(s.dead.contains v) then(if l.length+l'.length<=1073741824 then K ({ s with dead:=v::s.dead }.put o.dst (.own e (s.base+d) (l++l'))) else none) else none
     | .nils=>if l'.length<=1073741824 then K (s.put o.dst (.own e (s.base+d) l')) else none
     | _=>none
    | _=>none
   | _,_,_=>none
  | .builtin .copy=>match c.args.toList,c.argTypes.toList with
   | [x,y],[T,_]=>match E.L T with
    | some (.sl (.int k))=>match s.opA x,s.opA y with
     | .sub true e id [] lo n,.sub true q r C A B=>match s.ob id,s.ob r with
      | some (.one (.arr m f) (.d g x)),some o'=>iD o' C λv=>match v with
       | .d (.arr O N) y=>
       if e.beq (.int k)&&q.beq (.int k)&&f.beq (.int k)&&g.beq (.arr m f)&&!(s.lkO.contains id) then
        x.stl.bind λl=>y.stl.bind λl'=>K ((s.setOb id (some (.one (.arr m f) (.d g (.st (l.take lo++((l'.drop A).take (min B n)++l.drop (lo+min B n)))))))).put o.dst (.d (.int .i64) (.int .i64 (min B n:Nat))))
       else none
       | _=>none
      | _,_=>none
     | _,_=>none
    | _=>none
   | _,_=>none
  | _=>qv E s o λv=>K (s.put o.dst v)
 | _=>qv E s o λv=>K (s.put o.dst v)
def rq(s:St)(o:Oper):Bool:=match o.dst with|some d=>s.lkS.contains d|none=>false
def QN{R:Type}(E:Env)(s:St)(o:Oper)(K:St->Option R):Option R:=if rq s o then none else uT E s o K
def lT(E:Env):List Oper->St->St
 | [],s=>s
 | o::l,s=>lT E l (match o.op,o.dst with
  | .alloc T,some d=>match E.alOb T with
   | some x=>s.setOb (s.base+d) (some x)
   | none=>s
  | _,_=>s)
def killD(s:St):List Oper->St
 | []=>s
 | o::l=>killD (s.put o.dst .undef) l
def yD(i:Nat)(o:Oper):Bool:=match o.guard with|some (j,_)=>decide (j=i)|none=>false
def rl(d:Option Nat)(o:Oper):Bool:=match o.op,d with|.pick (.tmp c) _ _,some d=>decide (c=d)|_,_=>false
def ed(d:Option Nat):List (Nat×Oper)->List (Nat×Oper)×List (Nat×Oper)
 | []=>([],[])
 | p::l=>if rl d p.2 then([],p::l) else let r:=ed d l;(p::r.1,r.2)
def gS(o:Oper):Bool:=match o.op with
 | .store ..|.box ..|.makeSlice ..|.makeMap ..|.mapUpdate ..|.alloc _=>false
 | .call c=>match c.callee with|.builtin .append=>false|.builtin .copy=>false|_=>true
 | _=>true
def zV(o:Oper):Bool:=match o.op with
 | .alloc _=>true|.box ..=>true|.makeSlice ..=>true|.makeMap ..=>true|.buildSlice ..=>true
 | .call c=>match c.callee with|.builtin .append=>true|.value (.func _)=>true|_=>false
 | _=>false
def nR(E:Env)(o:Oper):Bool:=match o.op with
 | .call c=>match c.callee with|.value (.func f)=>(E.inl f).isSome|.value (.tmp _)=>!E.pv|_=>false
 | _=>false
def te(s:St)(c:Call):Option (Nat×List AV):=match c.callee with
 | .value (.func f)=>some (f,c.args.toList.map s.opA)
 | .value (.tmp t)=>match s.tm t with|.clo f l=>if l.all gE then some (f,c.args.toList.map s.opA++l) else none|_=>none
 | _=>none
def tI(i:Nat)(l:List (Nat×Oper)):Bool:=match l with|p::_=>yD i p.2|[]=>false
def Ai{α:Type}(x:AV)(A B:Option α):Option α:=match x with|.gone=>A|_=>B
theorem iS{α:Type}{A B:Option α}:Ai .gone A B=A:=rfl
def il{α:Type}{x:AV}{A B:Option α}(h:x≠.gone):Ai x A B=B:=by cases x<;>first|rfl|exact z4a rfl h
def fH(s:St):List Nat:=(List.range s.nt).filterMap λt=>match s.tm t with|.own _ v _=>if s.dead.contains v then none else some v|_=>none
def xV(s:St)(a:List Nat):List Nat:=(fH s).filter λv=>!(a.contains v)
def DS(s:St)(a:List AV):Ty->List Nat
 | .sl t=>a.filterMap λx=>match x with|.own b v _=>if b.beq t&&!(s.dead.contains v) then some v else none|_=>none
 | _=>[]
def mH:Option Ob->Option Ob->Bool
 | some (.one t _),some (.one b _)=>t.beq b
 | some (.many t _),some (.many b _)=>t.beq b
 | some (.mp d vt _),some (.mp a c _)=>d.beq a&&vt.beq c
 | some (.fv _),some (.fv _)=>true
 | _,none=>true
 | _,_=>false
def Kg(ob a:Nat->Option Ob):AV->Bool
 | .ptr _ id _=>mH (ob id) (a id)
 | _=>false
def tF(s sc:St)(n:Nat)(c a:List Nat):AV->AV
 | .d t x=>.d t x
 | .own t v l=>if s.dead.contains v||a.contains v then .d (.sl t) (.sl l) else .own t (n+c.idxOf v) l
 | .nils=>.nils
 | .ptr t id p=>if mH (s.ob id) (sc.ob id) then .ptr t id p else .undef
 | .fptr t x=>.fptr t x
 | .clo f l=>if l.all (Kg s.ob sc.ob) then .clo f l else .undef
 | .map b vt id=>if mH (s.ob id) (sc.ob id) then .map b vt id else .undef
 | .yld id=>.yld id
 | _=>.undef
def Of(s:St)(nt:Nat)(a:List AV)(b:List Nat):St:={ tm:=λi=>a.getD i .undef,ob:=s.ob,fresh:=s.fresh+1,dead:=xV s b++s.dead,nt:=nt,lkS:=[],lkO:=s.lkO }
def pG(s sc:St)(a:List Nat):St:={ tm:=λi=>if i<s.nt then tF s sc ((sc.fresh+1)*4096) (xV s a) a (s.tm i) else .undef,ob:=sc.ob,fresh:=sc.fresh+1,dead:=sc.dead,nt:=s.nt,lkS:=s.lkS,lkO:=s.lkO }
def mO:List (Nat×AV)->(Nat->AV)->Nat->AV
 | [],f=>f
 | (p,a)::l,f=>mO l λt=>if t=p then a else f t
def Fx(s:St)(i:LpI)(id:Nat)(a:List AV):St:=
 { tm:=mO (i.ps.zip a) λt=>if t<i.nt then pq s.ob (i.caps t) else .undef,ob:=s.ob,fresh:=s.fresh+1,dead:=fH s++s.dead,nt:=i.nt,lkS:=[],lkO:=id::s.lkO }
def RK(s:St)(c:Call):Option (Nat×LpI×List AV):=match c.callee with
 | .value (.tmp t)=>match s.tm t with
  | .yld id=>match s.ob id with
   | some (.lp i none)=>some (id,i,c.args.toList.map s.opA)
   | _=>none
  | _=>none
 | _=>none
def leaveY(s:St)(id:Nat)(i:LpI)(p:Option Ex):St:={ s with tm:=λ_=>.undef,ob:=λj=>if j=id then some (.lp i p) else s.ob j }
def evY{R:Type}(E:Env)(an:Ann)(s:St)(id:Nat)(i:LpI)(a:List AV)(K:AV->St->Option R):Option R:=
 if a.length=i.ps.length/\(i.ps.all λp=>decide (p<i.nt))=true/\(fH s).length<=4096 then
  E.cod i.asg an.fst R (Fx s i id a) λe s1=>match e with
   | .normal=>match s1.ob id with
    | some (.lp _ none)=>E.cod i.bdy an.snd R (s1.setOb id none) λe s2=>match e with
     | .normal=>K (.d .bool (.bool true)) (pG s (leaveY s2 id i none) [])
     | e=>K (.d .bool (.bool false)) (pG s (leaveY s2 id i (some e)) [])
    | _=>none
   | _=>none
 else none
def evN{R:Type}(E:Env)(f:Operand)(ps:Array Tmp)(asg bdy:Code)(an:Ann)(s:St)(k:Ex->St->Option R):Option R:=
 match f with
 | .tmp t=>match s.tm t with
  | .clo g l=>if l.all gE&&!(s.lkO.contains 4095) then(E.inl g).bind λG=>
    G an R ({ s with fresh:=s.fresh+1 }.setOb ((s.fresh+1)*4096) (some (.lp { nt:=s.nt,ps:=ps.toList,asg:=asg,bdy:=bdy,caps:=λj=>j8 s.ob (s.tm j) } none))) (.yld ((s.fresh+1)*4096)::l) λ_ s2=>
     match s2.ob ((s.fresh+1)*4096) with
     | some (.lp _ none)=>k .normal (s2.setOb ((s.fresh+1)*4096) none)
     | some (.lp _ (some e))=>k e (s2.setOb ((s.fresh+1)*4096) none)
     | _=>none
   else none
  | _=>none
 | _=>none
def Vd{R:Type}(E:Env)(an:Ann)(s:St)(o:Oper)(K:AV->St->Option R):Option R:=match o.op with
 | .call c=>match RK s c with
  | some q=>evY E an s q.1 q.2.1 q.2.2 K
  | none=>(te s c).bind λq=>(E.inl q.1).bind λg=>g an R s q.2 K
 | _=>none
def CH(E:Env)(o:Oper)(an:Ann):Ann:=if nR E o then an.snd else an
def AD(o:Oper):Bool:=match o.op with|.alloc _=>false|_=>true
def Dw(s:St):St:={ s with fresh:=s.fresh+1 }
def Jd{R:Type}(E:Env)(an:Ann)(l:List (Nat×Oper))(s:St)(o:Oper)(K:St->Option R):Option R:=
 if nR E o then(if l.all λp=>!(zV p.2) then Vd E an.fst s o λv s'=>K (s'.put o.dst v) else if l.all λp=>AD p.2 then Vd E an.fst s o λv s'=>K (Dw (s'.put o.dst v)) else none) else uT E s o K
def uo(E:Env)(s:St)(i:Nat)(o:Oper)(l:List (Nat×Oper)):Bool:=
 tI i l&&(match (ed o.dst l).2,o.dst with
  | (_,a)::_,some d=>decide (d<s.nt)&&a.guard.isNone&&gS o&&!(nR E o)&&(ed o.dst l).1.all (λ(p:Nat×Oper)=>(gS p.2&&!(rq s p.2)&&!(nR E p.2)))&&!(rq s a)
  | _,_=>false)
def jP(E:Env):Nat->(R:Type)->(ops:Array Oper)->Ann->List (Nat×Oper)->St->(St->Option R)->Option R
 | 0,_,_,_,_,_,_=>none
 | _+1,_,_,_,[],s,k=>k s
 | n+1,R,ops,an,(i,o)::l,s,k=>
  match o.guard with
  | some (j,want)=>match (ops[j]?).bind (·.dst) with
   | some g=>if rq s o then none else Ai (s.tm g) (jP E n R ops (CH E o an) l (s.put o.dst .gone) k)
    ((s.tm g).truth.bind λc=>
    if c then(if want then Jd E an l (s.put (some g) (.d .bool (.bool true))) o λs'=>jP E n R ops (CH E o an) l s' k else jP E n R ops (CH E o an) l ((s.put (some g) (.d .bool (.bool true))).put o.dst .gone) k)
    else(if want then jP E n R ops (CH E o an) l ((s.put (some g) (.d .bool (.bool false))).put o.dst .gone) k else Jd E an l (s.put (some g) (.d .bool (.bool false))) o λs'=>jP E n R ops (CH E o an) l s' k))
   | none=>none
  | none=>
   if uo E s i o l then
    let sp:=ed o.dst l
    match sp.2,o.dst with
    | (_,a)::l',some d=>
      QN E s o λs1=>(s1.tm d).truth.bind λc=>
      (if c then jP E n Bool ops .leaf sp.1 (s1.put (some d) (.d .bool (.bool true))) λs2=>qv E s2 a AV.truth
       else jP E n Bool ops .leaf sp.1 (s1.put (some d) (.d .bool (.bool false))) λs2=>qv E s2 a AV.truth).bind λx=>
      jP E n R ops an l' ((killD s1 (sp.1.map Prod.snd)).put a.dst (.d .bool (.bool x))) k
    | _,_=>none
   else if rq s o then none else Jd E an l s o λs'=>jP E n R ops (CH E o an) l s' k
def ce:Nat->List Oper->List (Nat×Oper)
 | _,[]=>[]
 | i,o::l=>(i,o)::ce (i+1) l
def ij(s:St):List Nat->St
 | []=>s
 | t::l=>ij (match s.tm t with
  | .mem a id=>match s.ob id with
   | some (.many u l)=>if a.beq u&&!(s.lkO.contains id) then{ s.setOb id none with tm:=λi=>if i=t then .d (.sl u) (.sl l) else s.tm i } else s
   | _=>s
  | _=>s) l
def cN:List (Nat×ShO)->List Nat
 | []=>[]
 | (id,.keep ..)::l=>id::cN l
 | (id,.lp ..)::l=>id::cN l
 | _::l=>cN l
mutual
def AV.same:AV->AV->Bool
 | .ptr t id p,.ptr t' id' p'=>t.beq t'&&decide (id=id')&&decide (p=p')
 | .mem t id,.mem t' id'=>t.beq t'&&decide (id=id')
 | .map kt vt id,.map kt' vt' id'=>kt.beq kt'&&vt.beq vt'&&decide (id=id')
 | .clo f l,.clo f' l'=>decide (f=f')&&afh l l'
 | .yld id,.yld id'=>decide (id=id')
 | _,_=>false
def afh:List AV->List AV->Bool
 | [],[]=>true
 | a::l,a'::l'=>AV.same a a'&&afh l l'
 | _,_=>false
end
def D.els:D->List D|.sl l=>l|_=>[]
mutual
def Sh.mk(b:Nat):Sh->Nat->List D->AV×Nat
 | .dv t,j,s=>(.d t (s.getD j (.bool false)),j+1)
 | .ow t,j,s=>(.own t (b+j) (s.getD j (.bool false)).els,j+1)
 | .same a,j,_=>(a,j)
 | .st ts l,j,s=>let r:=afL b l j s;(.st ts r.1,r.2)
def afL(b:Nat):List Sh->Nat->List D->List AV×Nat
 | [],j,_=>([],j)
 | h::l,j,s=>let r:=Sh.mk b h j s;let q:=afL b l r.2 s;(r.1::q.1,q.2)
end
mutual
def Sh.dec(ob:Nat->Option Ob)(dead:List Nat):Sh->AV->Option (List D)
 | .dv t,a=>(afi ob t a).bind λx=>some [x]
 | .ow t,.own t' v l=>if t.beq t'&&!(dead.contains v) then some [.sl l] else none
 | .ow _,.nils=>some [.sl []]
 | .same a,a'=>if AV.same a a' then some [] else none
 | .st ts l,.st ts' l'=>if Ty.beqs ts ts' then afJ ob dead l l' else none
 | _,_=>none
def afJ(ob:Nat->Option Ob)(dead:List Nat):List Sh->List AV->Option (List D)
 | [],[]=>some []
 | h::l,a::l'=>(Sh.dec ob dead h a).bind λx=>(afJ ob dead l l').bind λy=>some (x++y)
 | _,_=>none
end
def AV.still:AV->AV
 | .d t x=>.d t x
 | .own t _ l=>.d (.sl t) (.sl l)
 | .fptr t x=>.fptr t x
 | _=>.undef
def Ob.still(t:Ty):Option Ob->Option Ob
 | some (.one a (.d u x))=>if t.beq a then some (.one a (.d u x)) else none
 | _=>none
def afH(p:Option Ex):Option Ob->Option Ob
 | some (.lp i _)=>some (.lp i p)
 | _=>none
mutual
def afO:Sh->AV->List Nat
 | .ow _,.own _ v _=>[v]
 | .st _ l,.st _ l'=>afP l l'
 | _,_=>[]
def afP:List Sh->List AV->List Nat
 | h::l,a::l'=>afO h a++afP l l'
 | _,_=>[]
end
def afV(b:Nat):List (Nat×Sh)->Nat->List D->(Nat->AV)->(Nat->AV)×Nat
 | [],j,_,f=>(f,j)
 | (t,h)::l,j,s,f=>let r:=Sh.mk b h j s;afV b l r.2 s (λi=>if i=t then r.1 else f i)
def afU(b:Nat)(base:Nat->Option Ob):List (Nat×ShO)->Nat->List D->(Nat->Option Ob)->(Nat->Option Ob)
 | [],_,_,f=>f
 | (id,.one t h)::l,j,s,f=>let r:=Sh.mk b h j s;afU b base l r.2 s (λi=>if i=id then some (.one t r.1) else f i)
 | (id,.many t)::l,j,s,f=>afU b base l (j+1) s (λi=>if i=id then some (.many t (s.getD j (.bool false)).els) else f i)
 | (id,.mp c vt)::l,j,s,f=>afU b base l (j+1) s (λi=>if i=id then some (.mp c vt (s.getD j (.bool false)).els) else f i)
 | (id,.keep t _)::l,j,s,f=>afU b base l j s (λi=>if i=id then Ob.still t (base id) else f i)
 | (id,.lp p _)::l,j,s,f=>afU b base l j s (λi=>if i=id then afH p (base id) else f i)
 | (id,.fv a)::l,j,s,f=>afU b base l j s (λi=>if i=id then some (.fv a) else f i)
def Shape.mk'(h:Shape)(base:St)(s:List D)(lkS lkO:List Nat):St:=
 let b:=(base.fresh+1)*4096
 let r:=afV b h.slots 0 s (λi=>if h.keepS.contains i then(base.tm i).still else .undef)
 { tm:=r.1,ob:=afU b base.ob h.objs r.2 s (λ_=>none),fresh:=base.fresh+1,dead:=[],nt:=base.nt,lkS,lkO }
def afT(s:St):List (Nat×Sh)->Option (List D)
 | []=>some []
 | (t,h)::l=>(Sh.dec s.ob s.dead h (s.tm t)).bind λx=>(afT s l).bind λy=>some (x++y)
def afS(s:St):List (Nat×ShO)->Option (List D)
 | []=>some []
 | (id,.one t h)::l=>match s.ob id with
  | some (.one b v)=>if t.beq b then(Sh.dec s.ob s.dead h v).bind λx=>(afS s l).bind λy=>some (x++y) else none
  | _=>none
 | (id,.many t)::l=>match s.ob id with
  | some (.many b v)=>if t.beq b then(afS s l).bind λy=>some (.sl v::y) else none
  | _=>none
 | (id,.mp e vt)::l=>match s.ob id with
  | some (.mp c d v)=>if e.beq c&&vt.beq d then(afS s l).bind λy=>some (.sl v::y) else none
  | _=>none
 | (id,.keep t _)::l=>match s.ob id with
  | some (.one b _)=>if t.beq b then afS s l else none
  | _=>none
 | (id,.lp p _)::l=>match s.ob id with
  | some (.lp _ f)=>if Ee p f then afS s l else none
  | _=>none
 | (id,.fv a)::l=>match s.ob id with
  | some (.fv v)=>if AV.same a v then afS s l else none
  | _=>none
def afX(s:St):List (Nat×Sh)->List Nat
 | []=>[]
 | (t,h)::l=>afO h (s.tm t)++afX s l
def afW(s:St):List (Nat×ShO)->List Nat
 | []=>[]
 | (id,.one _ h)::l=>(match s.ob id with|some (.one _ v)=>afO h v|_=>[])++afW s l
 | _::l=>afW s l
mutual
def AV.old(n:Nat):AV->Bool
 | .ptr _ id _=>decide (id<n)
 | .mem _ id=>decide (id<n)
 | .map _ _ id=>decide (id<n)
 | .clo _ l=>afg n l
 | .yld id=>decide (id<n)
 | _=>false
def afg(n:Nat):List AV->Bool
 | []=>true
 | a::l=>AV.old n a&&afg n l
end
mutual
def Sh.cnt:Sh->Nat
 | .dv _=>1
 | .ow _=>1
 | .same _=>0
 | .st _ l=>afI l
def afI:List Sh->Nat
 | []=>0
 | h::l=>Sh.cnt h+afI l
end
mutual
def Sh.fits:Ty->Sh->Bool
 | t,.dv t'=>t.beq t'
 | t,.ow e=>t.beq (.sl e)
 | _,.same _=>false
 | t,.st ts l=>t.beq (.st ts)&&Sh.fitss ts l
def Sh.fitss:List Ty->List Sh->Bool
 | [],[]=>true
 | t::ts,h::l=>Sh.fits t h&&Sh.fitss ts l
 | _,_=>false
end
mutual
def Sh.fine(n:Nat):Sh->Bool
 | .dv t=>av t
 | .ow t=>av t
 | .same a=>AV.old n a
 | .st ts l=>bG ts&&Sh.fitss ts l&&afK n l
def afK(n:Nat):List Sh->Bool
 | []=>true
 | h::l=>Sh.fine n h&&afK n l
end
def ShO.cnt:ShO->Nat
 | .one _ h=>h.cnt
 | .many _=>1
 | .mp ..=>1
 | .keep ..=>0
 | .lp ..=>0
 | .fv _=>0
def ShO.fine(n:Nat)(base:St)(id:Nat):ShO->Bool
 | .one t h=>Sh.fine n h&&Sh.fits t h
 | .many _=>true
 | .mp ..=>true
 | .keep _ c=>match base.tm c with|.ptr _ b _=>decide (id=b)&&decide (c<base.nt)|_=>false
 | .fv a=>AV.old n a&&ni a
 | .lp _ c=>(match base.tm c with|.yld b=>decide (id=b)|.ptr _ v []=>(match base.ob v with|some (.fv (.yld b))=>decide (id=b)|_=>false)|_=>false)&&decide (c<base.nt)
def afR:List (Nat×Sh)->Nat
 | []=>0
 | p::l=>p.2.cnt+afR l
def afQ:List (Nat×ShO)->Nat
 | []=>0
 | p::l=>p.2.cnt+afQ l
def Shape.good(h:Shape)(base:St):Bool:=
 dZ (h.slots.map (·.1))&&dZ (h.objs.map (·.1))&&(h.objs.all λp=>decide (p.1<(base.fresh+1)*4096)&&ShO.fine ((base.fresh+1)*4096) base p.1 p.2)&&h.slots.all (λp=>decide (p.1<base.nt)&&Sh.fine ((base.fresh+1)*4096) p.2)&&decide (afR h.slots+afQ h.objs<=4096)
def Shape.dec(h:Shape)(base s:St):Option (List D):=
 if h.good base&&dZ (afX s h.slots++afW s h.objs) then(afT s h.slots).bind λx=>(afS s h.objs).bind λy=>some (x++y) else none
def rm{α β:Type}(body:α->Option (Sum α β))(n:Nat):α->Option β:=
 Nat.rec (motive:=λ_=>α->Option β) (λ_=>none) (λ_ ih a=>match body a with
  | none=>none
  | some (.inl a')=>ih a'
  | some (.inr b)=>some b) n
def th{α β:Type}(body:α->Option (Sum α β))(a:α):rm body 0 a=none:=rfl
theorem lF{α β:Type}(body:α->Option (Sum α β))(n:Nat)(a:α):rm body (n+1) a=match body a with
  | none=>none
  | some (.inl a')=>rm body n a'
  | some (.inr b)=>some b:=rfl
theorem tg{α β:Type}{body:α->Option (Sum α β)}:∀ {n:Nat} {a:α} {b:β} (m:Nat),rm body n a=some b->rm body (n+m) a=some b
 | 0,_,_,_,h=>by simp[th] at h
 | n+1,a,b,m,h=>by
  rw[show n+1+m=(n+m)+1 by omega]
  simp only[lF] at h ⊢;cases hb:body a with
  | none=>rw[hb] at h;simp at h
  | some x=>cases x with
   | inl a'=>rw[hb] at h;exact tg m h
   | inr c=>rw[hb] at h;exact h
open Classical in
def nU{α β:Type}(body:α->Option (Sum α β))(a:α):Option β:=
 if h:∃ n b,rm body n a=some b then some (Classical.choose (Classical.choose_spec h)) else none
def pW{α β:Type}{body:α->Option (Sum α β)}{a:α}{b:β}(h:nU body a=some b):∃ n,rm body n a=some b:=by
 unfold nU at h;split at h
 ·grind
 ·cases h
theorem kX{α β:Type}{body:α->Option (Sum α β)}{a:α}{b:β}{n:Nat}(h:rm body n a=some b):nU body a=some b:=by have c:∃ n b,rm body n a=some b:=⟨n,b,h⟩;unfold nU;rw[dif_pos c];have h2:=Classical.choose_spec (Classical.choose_spec c);have h3:=tg (Classical.choose c) h;have d:=tg n h2;grind
def dq{α β:Type}{body:α->Option (Sum α β)}{a a':α}(h:body a=some (.inl a')):nU body a=nU body a':=by
 cases h2:nU body a' with
 | some b=> obtain⟨n,hn⟩:=pW h2;exact kX (n:=n+1) (by simp only[lF,h];exact hn)
 | none=>
  cases h3:nU body a with
  | none=>rfl
  | some b=>
   obtain⟨n,hn⟩:=pW h3;cases n with
   | zero=>simp[th] at hn
   | succ n=> grind [lF,kX]
def de{α β:Type}{body:α->Option (Sum α β)}{a:α}{b:β}(h:body a=some (.inr b)):nU body a=some b:=
 kX (n:=1) (by simp only[lF,h])
def vW(e:Ex):List (Ex×Shape)->Nat->Option (Nat×Shape)
 | [],_=>none
 | (a,h)::l,j=>if e.is a then some (j,h) else vW e l (j+1)
def subset(l l':List Nat):Bool:=l.all λx=>l'.contains x
def nK{R:Type}(base:St)(k:Ex->St->Option R)(keepS a:List Nat):List (Ex×Shape)->Nat->Nat×List D->Option R
 | [],_,_=>none
 | [(e,h)],_,r=>if subset h.keepS keepS&&subset (cN h.objs) a then k e (h.mk' base r.2 base.lkS base.lkO) else none
 | (e,h)::l,j,r=>if subset h.keepS keepS&&subset (cN h.objs) a then(if r.1=j then k e (h.mk' base r.2 base.lkS base.lkO) else nK base k keepS a l (j+1) r) else none
def EF(base:St)(a:List (Ex×Shape))(e:Ex)(s:St):Option (Nat×List D):=(vW e a 0).bind λq=>(q.2.dec base s).bind λv=>some (q.1,v)
def fa(ops:List Oper):Bool:=dZ (ops.filterMap (·.dst))&&(ops.all λo=>match o.dst with|some d=>decide (d<4096)|none=>true)&&ops.all λo=>match o.op with|.store ..=>o.dst.isNone|_=>true
def sW(E:Env)(ops:Array Oper)(n:Nat):Bool:=
 ((ops.toList.take n).all λo=>!(nR E o))&&Region.noSelect ops&&Region.lexHead .any ops (ops.size-n) n 0 (Array.replicate ops.size false)&&(decide (n=ops.size)||(decide (n<ops.size)&&Region.sinkB .any ops n&&Region.chainB .any ops n)) &&
 ((ops.toList.take n).all λo=>gS o||(match o.op with|.alloc _=>true|_=>false))&&(ops.toList.drop n).all λo=>o.guard.isNone&&(match o.op with|.pick ..=>false|_=>true)
def wj(o:Oper):Bool:=match o.op with|.fieldAddr ..=>true|.load ..=>true|.build ..=>true|.alloc _=>true|.extract ..=>true|.move _=>true|_=>false
def wn{R:Type}(E:Env)(ops:Array Oper)(n id i:Nat)(s:St)(K:AV->Option R):Option R:=
 match ops[i]? with
 | none=>none
 | some o=>if rq s o then none else if Region.waitsFor .any ops n i then qv E s o K else if wj o then qv E (s.setOb id none) o K else none
def QQ{R:Type}(E:Env)(ops:Array Oper)(n id:Nat):Nat->Nat->St->(St->Option R)->Option R
 | 0,_,s,K=>K s
 | c+1,k,s,K=>wn E ops n id k s λv=>QQ E ops n id c (k+1) (s.put ((ops[k]?).bind (·.dst)) v) K
def wl(ops:Array Oper)(n:Nat):Bool:=
 match ops[n]? with
 | some o=>match o.op with
  | .store _ (.tmp p) (.tmp x)=>((List.range ops.size).all λj=>match (ops[j]?).bind (·.dst) with|some d=>!(decide (d=p)||decide (d=x))||Region.waitsFor .any ops n j|none=>true) &&
    ((ops.toList.take n).all λo=>(gS o||(match o.op with|.alloc _=>true|_=>false))&&o.guard.isNone)&&((ops.toList.drop n).all λo=>o.guard.isNone&&(match o.op with|.pick ..=>false|_=>true)) &&
    Region.noSelect ops&&Region.lexHead .any ops (ops.size-(n+1)) (n+1) 0 (Array.replicate ops.size false)&&(decide (n+1=ops.size)||(decide (n+1<ops.size)&&Region.sinkB .any ops (n+1)&&Region.chainB .any ops (n+1)))
  | _=>false
 | none=>false
def mG(ops:Array Oper)(n:Nat)(s:St):Nat:=match ops[n]? with
 | some o=>match o.op with
  | .store _ (.tmp p) _=>if ops.toList.any (λq=>match q.op,q.dst with|.alloc _,some d=>decide (d=p)|_,_=>false) then s.base+p else match s.tm p with
   | .ptr _ id _=>id
   | _=>0
  | _=>0
 | none=>0
def wh(ops:Array Oper)(n:Nat)(s:St):Option Nat:=match ops[n]? with
 | some o=>match o.op with
  | .store _ (.tmp p) _=>match s.tm p with
   | .ptr t id []=>if t.beq .fn then none else some id
   | _=>none
  | _=>none
 | none=>none
def NP(E:Env)(o:Oper):Bool:=(gS o||(match o.op with|.alloc _=>true|_=>false))&&!(nR E o)
def ev(E:Env):Code->Ann->(R:Type)->St->(Ex->St->Option R)->Option R
 | .skip,_,_,s,k=>k .normal s
 | .label _,_,_,s,k=>k .normal s
 | .exit id,_,_,s,k=>k (.exit id) s
 | .ret,_,_,s,k=>k .ret s
 | .region _ ops dr,a,R,s,k=>
  let s1:=lT E ops.toList { ij s a.fz with fresh:=s.fresh+1 }
  if fa ops.toList&&(!dr||sW E ops (a.heads ops.size)) then jP E (ops.size+1) R ops a.inner (ce 0 ops.toList) s1 (λs'=>k .normal s')
  else if fa ops.toList&&wl ops (a.heads ops.size) then QQ E ops (a.heads ops.size) (mG ops (a.heads ops.size) s1) (a.heads ops.size) 0 s1 λs2=>if wh ops (a.heads ops.size) s2=some (mG ops (a.heads ops.size) s1) then jP E (ops.size+1) R ops a.inner ((ce 0 ops.toList).drop (a.heads ops.size)) s2 (λs'=>k .normal s') else none
  else none
 | .seq c d,.cut g l i a b,R,s,k=>
  (ev E c a (Nat×List D) { s with lkS:=l++s.lkS,lkO:=i++s.lkO } (EF s g)).bind λr=> nK s (λe s'=>match e with|.normal=>ev E d b R s' k|e=>k e s') l i g 0 r
 | .seq c d,a,R,s,k=>ev E c a.fst R s λe s'=>match e with
  | .normal=>ev E d a.snd R s' k
  | e=>k e s'
 | .cond c x y,a,R,s,k=>(s.opA c).truth.bind λt=>if t then ev E x a.fst R s k else ev E y a.snd R s k
 | .block id c,a,R,s,k=>ev E c a.fst R s λe s'=>match e with
  | .exit j=>if j=id then k .normal s' else k (.exit j) s'
  | e=>k e s'
 | .scope c,a,R,s,k=>ev E c a R s k
 | .rangeFunc f ps asg bdy,a,_,s,k=>evN E f ps asg bdy a s k
 | .loop c,.loop h g a,R,s,k=>
  (h.dec s s).bind λv0=>(E.lp (λv=>ev E c a (Sum (List D) (Nat×List D)) (h.mk' s v (h.keepS++s.lkS) (cN h.objs++s.lkO)) λe s'=>match e with
    | .normal=>(h.dec s s').bind λv'=>some (.inl v')
    | e=>(EF s g e s').bind λr=>some (.inr r)) v0).bind λr=>
   nK s k h.keepS (cN h.objs) g 0 r
 | _,_,_,_,_=>none
def N6(E:Env)(c:Code)(ann:Ann)(R:Type)(s:St)(k:Ex->St->Option R):Option R:=match ann with
 | .all b e d a=>(ev E c a (Nat×List D) { s with lkS:=e++s.lkS,lkO:=d++s.lkO } (EF s b)).bind λr=>nK s k e d b 0 r
 | ann=>ev E c ann R s k
def jU(a:List Ty)(args:List D)(i:Nat):AV:=
 match a[i]?,args[i]? with
 | some t,some x=>.d t x
 | _,_=>.undef
def Kt{R:Type}(E:Env)(s:St)(t:Ty)(k:D->Option R):ResultVar->Option R
 | .tmp i=>(afi s.ob t (s.tm i)).bind k
 | .cell i T=>(E.L T).bind λu=>match s.tm i with
  | .ptr b id p=>if u.beq b then(s.ob id).bind λo=>iD o p λa=>(afi s.ob t a).bind k else none
  | _=>none
def wX{R:Type}(E:Env)(s:St):List Ty->List ResultVar->(List D->Option R)->Option R
 | [],[],k=>k []
 | t::b,r::a,k=>Kt E s t (λx=>wX E s b a λxs=>k (x::xs)) r
 | _,_,_=>none
def results(E:Env)(s:St)(a:Ty)(b:List ResultVar):Option D:=
 match b with
 | [r]=>Kt E s a some r
 | b=>match a with
  | .tup c=>wX E s c b λxs=>some (.tup xs)
  | _=>none
def Z9(E:Env)(fn:Func)(ann:Ann)(b:List Ty)(a:Ty)(args:List D):Option D:=
 match fn.body with
 | none=>none
 | some c=>N6 E c ann D { tm:=jU b args,ob:=λ_=>none,fresh:=0,dead:=[],nt:=fn.ntmps,lkS:=[],lkO:=[] } λe s=>match e with
  | .exit _=>none
  | _=>results E s a fn.results.toList
mutual
theorem cU:∀ (t:Ty) (x:D),wt t x->av t=true->x.flat.length=t.size
 | .int k,x,h,_=>by simp only[wt] at h;obtain⟨n,rfl⟩:=h;rfl
 | .bool,x,h,_=>by simp only[wt] at h;obtain⟨n,rfl⟩:=h;rfl
 | .str,x,h,_=>by simp only[wt] at h;obtain⟨n,rfl⟩:=h;rfl
 | .st ts,x,h,hn=>by simp only[wt] at h;obtain⟨l,rfl,h⟩:=h;simp only[D.flat,Ty.size];exact rX ts l h (by simpa [av] using hn)
 | .arr n t,x,h,hn=>by
  simp only[wt] at h;obtain⟨l,rfl,rfl,h⟩:=h;simp only[D.flat,Ty.size];simp only[av] at hn
  induction l with
  | nil=>simp[aft]
  | cons y l ih=>
   simp only[aft,zwa,zQa];rw[cU t y (h y j3) hn,ih (λx hx=>h x (by simp[hx]))]
   rw[zhb,zGc,z4c]
 | .sl t,x,h,_=>by simp only[wt] at h;obtain⟨l,rfl,_⟩:=h;rfl
 | .tup ts,_,_,h=>by simp[av] at h
 | .fn,x,h,_=>by simp[wt] at h
theorem rX:∀ (ts:List Ty) (l:List D),fY ts l->bG ts=true->(aft l).length=aga ts
 | [],l,h,_=>by simp only[fY] at h;subst h;rfl
 | t::ts,l,h,hn=>by simp only[fY] at h;obtain⟨d,l',rfl,h1,h2⟩:=h;simp only[bG,zaa] at hn;simp only[aft,aga,zwa];rw[cU t d h1 hn.1,rX ts l' h2 hn.2]
end
def cE(a b:List D):aft (a++b)=aft a++aft b:=by
 induction a with
 | nil=>rfl
 | cons x a ih=>simp only[zFb,aft,ih,zTa]
theorem aP{t:Ty}(hn:av t=true):∀ (l:List D),(∀ x∈l,wt t x)->(aft l).length=l.length*t.size
 | [],_=>by simp[aft]
 | y::l,h=>by simp only[aft,zwa,zQa];rw[cU t y (h y j3) hn,aP hn l (λx hx=>h x (by simp[hx])),zhb,zGc,z4c]
theorem cM{l:List D}{i:Nat}{y:D}(h:l[i]?=some y):aft l=aft (l.take i)++(y.flat++aft (l.drop (i+1))):=by
 obtain⟨a,hy⟩:=zra.1 h
 conv=>lhs;rw[<-zya i l,cE]
 rw[zSb a,hy];rfl
def oG{l:List D}{i:Nat}{y z:D}(h:l[i]?=some y):aft (l.set i z)=aft (l.take i)++(z.flat++aft (l.drop (i+1))):=by
 obtain⟨a,hy⟩:=zra.1 h;have h2:(l.set i z)[i]?=some z:=by simp[a]
 rw[cM h2,List.take_set_of_le (zka i),List.drop_set_of_lt (Nat.lt_succ_self i)]
theorem iO:∀ {b:List Ty} {l:List D} {i:Nat} {t:Ty},fY b l->b[i]?=some t->∃ y,l[i]?=some y/\wt t y
 | [],_,_,_,_,h=>by simp at h
 | u::b,l,i,t,h,a=>by
  simp only[fY] at h;obtain⟨d,l',rfl,h1,h2⟩:=h;cases i with
  | zero=>simp at a;subst a;exact⟨d,rfl,h1⟩
  | succ i=>simp at a;obtain⟨y,h3,c⟩:=iO h2 a;exact⟨y,by simpa using h3,c⟩
theorem kg:∀ {a:List Ty} {l:List D},fY a l->l.length=a.length
 | [],l,h=>by simp_all [fY]
 | t::a,l,h=>by simp only[fY] at h;obtain⟨d,l',rfl,h1,h2⟩:=h;simp[kg h2]
theorem Bk:∀ {b:List Ty} {l:List D} {i:Nat} {t:Ty} {z:D},fY b l->b[i]?=some t->wt t z->fY b (l.set i z)
 | [],_,_,_,_,_,h,_=>by simp at h
 | u::b,l,i,t,z,h,a,c=>by
  simp only[fY] at h;obtain⟨d,l',rfl,h1,h2⟩:=h;cases i with
  | zero=>simp at a;subst a;simp only[List.set_cons_zero,fY];exact⟨z,l',rfl,c,h2⟩
  | succ i=>simp at a;simp only[List.set_cons_succ,fY];exact⟨d,_,rfl,h1,Bk h2 a c⟩
theorem rY:∀ {a:List Ty} {l:List D} (i:Nat),fY a l->fY (a.take i) (l.take i)
 | a,l,0,_=>by simp[fY]
 | [],l,i+1,h=>by simp_all [fY]
 | t::a,l,i+1,h=>by simp only[fY] at h;obtain⟨d,l',rfl,h1,h2⟩:=h;simp only[zfc,fY];exact⟨d,_,rfl,h1,rY i h2⟩
theorem cu:∀ {b:List Ty} {i:Nat} {t:Ty},bG b=true->b[i]?=some t->av t=true
 | [],_,_,_,h=>by simp at h
 | u::b,i,t,h,a=>by
  simp only[bG,zaa] at h;cases i with
  | zero=>simp at a;subst a;exact h.1
  | succ i=>simp at a;exact cu h.2 a
theorem iY:∀ {a:List Ty} (i:Nat),bG a=true->bG (a.take i)=true
 | a,0,_=>by simp[bG]
 | [],i+1,_=>by simp[bG]
 | u::a,i+1,h=>by simp only[bG,zaa] at h;simp only[zfc,bG,zaa];exact⟨h.1,iY i h.2⟩
theorem eO:∀ (p:List Nat) {t u:Ty},av t=true->ba t p=some u->av u=true
 | [],t,u,h,hp=>by simp_all [ba,zea]
 | i::p,t,u,h,hp=>by
  cases t<;>simp only[ba] at hp
  case st ts=>
   cases hi:ts[i]? with
   | none=>rw[hi] at hp;cases hp
   | some v=>rw[hi] at hp;exact eO p (cu (by simpa [av] using h) hi) hp
  case arr n v=>exact eO p (by simpa [av] using h) hp
  all_goals cases hp
theorem jR:∀ (p:List Nat) {t u:Ty} {x y:D},wt t x->av t=true->ba t p=some u->x.get p=some y ->
  wt u y/\∃ a b,x.flat=a++(y.flat++b)/\a.length=bz t p
 | [],t,u,x,y,h,hn,hp,c=>by
  have d:t=u:=by simp_all [ba]
  simp only[D.get,zea] at c;subst d;subst c;exact⟨h,[],[],j3,by cases t<;>rfl⟩
 | i::p,t,u,x,y,h,hn,hp,c=>by
  simp only[D.get] at c;cases hf:x.fld i with
  | none=>rw[hf] at c;cases c
  | some z=>
   rw[hf] at c;have e:z.get p=some y:=c;cases t<;>simp only[ba] at hp
   case st ts=>
    cases hi:ts[i]? with
    | none=>rw[hi] at hp;cases hp
    | some v=>
     rw[hi] at hp;have d:ba v p=some u:=hp;simp only[wt] at h;obtain⟨l,rfl,hl⟩:=h;simp only[D.fld] at hf;obtain⟨j,g,f⟩:=iO hl hi;rw[hf] at g;cases g;simp only[av] at hn;obtain⟨h1,a,b,h2,h3⟩:=jR p f (cu hn hi) d e;refine⟨h1,aft (l.take i)++a,b++aft (l.drop (i+1)),?_,?_⟩
     ·grind [D.flat,cM,List.append_assoc]
     ·simp only[bz,zwa,h3];rw[rX _ _ (rY i hl) (iY i hn)]
      simp_all
   case arr n v=>
    simp only[wt] at h;obtain⟨l,rfl,hl,f⟩:=h;simp only[D.fld] at hf;simp only[av] at hn;obtain⟨h1,a,b,h2,h3⟩:=jR p (f z (zlb hf)) hn hp e;refine⟨h1,aft (l.take i)++a,b++aft (l.drop (i+1)),?_,?_⟩
    ·grind [D.flat,cM,List.append_assoc]
    ·grind [bz,List.length_append,aP,List.mem_of_mem_take,Nat.min_eq_left,Nat.le_of_lt]
   all_goals cases hp
theorem rK:∀ (p:List Nat) {t u:Ty} {x y k:D},wt t x->av t=true->ba t p=some u->x.set p y=some k->wt u y ->
  wt t k/\∃ a c b,x.flat=a++(c++b)/\k.flat=a++(y.flat++b)/\a.length=bz t p/\c.length=u.size
 | [],t,u,x,y,k,h,hn,hp,d,hy=>by
  have g:t=u:=by simp_all [ba]
  simp only[D.set,zea] at d;subst g;subst d;exact⟨hy,[],x.flat,[],j3,j3,by cases t<;>rfl,cU _ _ h hn⟩
 | i::p,t,u,x,y,k,h,hn,hp,d,hy=>by
  cases t<;>simp only[ba] at hp
  case st ts=>
   cases hi:ts[i]? with
   | none=>rw[hi] at hp;cases hp
   | some v=>
    rw[hi] at hp;have g:ba v p=some u:=hp;simp only[wt] at h;obtain⟨l,rfl,hl⟩:=h;simp only[D.set] at d;obtain⟨z,f,j⟩:=iO hl hi;rw[f] at d;cases hs:D.set z p y with
    | none=>rw[show((some z).bind λz=>(D.set z p y).bind λe=>some (D.st (l.set i e)))=(D.set z p y).bind λe=>some (D.st (l.set i e)) from rfl,hs] at d;cases d
    | some e=>
     rw[show((some z).bind λz=>(D.set z p y).bind λe=>some (D.st (l.set i e)))=(D.set z p y).bind λe=>some (D.st (l.set i e)) from rfl,hs] at d;simp only[zba,zea] at d;subst d;simp only[av] at hn;obtain⟨h1,a,c,b,h2,h3,m,o⟩:=rK p j (cu hn hi) g hs hy;refine⟨by simp only[wt];exact⟨_,rfl,Bk hl hi h1⟩,aft (l.take i)++a,c,b++aft (l.drop (i+1)),?_,?_,?_,o⟩
     ·simp only[D.flat];rw[cM f,h2];simp[zTa]
     ·simp only[D.flat];rw[oG f,h3];simp[zTa]
     ·simp only[bz,zwa,m];rw[rX _ _ (rY i hl) (iY i hn)];simp[List.getD,hi]
  case arr n v=>
   simp only[wt] at h;obtain⟨l,rfl,hl,j⟩:=h;simp only[D.set] at d;cases f:l[i]? with
   | none=>rw[f] at d;cases d
   | some z=>
    rw[f] at d;cases hs:D.set z p y with
    | none=>rw[show((some z).bind λz=>(D.set z p y).bind λe=>some (D.st (l.set i e)))=(D.set z p y).bind λe=>some (D.st (l.set i e)) from rfl,hs] at d;cases d
    | some e=>
     rw[show((some z).bind λz=>(D.set z p y).bind λe=>some (D.st (l.set i e)))=(D.set z p y).bind λe=>some (D.st (l.set i e)) from rfl,hs] at d;simp only[zba,zea] at d;subst d;simp only[av] at hn;obtain⟨h1,a,c,b,h2,h3,m,o⟩:=rK p (j z (zlb f)) hn hp hs hy;refine⟨?_,aft (l.take i)++a,c,b++aft (l.drop (i+1)),?_,?_,?_,o⟩
     ·simp only[wt];refine⟨_,rfl,by simpa using hl,λx hx=>?_⟩
      rcases zUc hx with h|h
      ·exact j x h
      ·rw[h];exact h1
     ·simp only[D.flat];rw[cM f,h2];simp[zTa]
     ·simp only[D.flat];rw[oG f,h3];simp[zTa]
     ·simp only[bz,zwa,m];rw[aP hn _ (λx hx=>j x (zVa hx))];have:=(zra.1 f).1;simp[zIb (zBc this)]
  all_goals cases hp
inductive CR(w:World)(S:Nat->Nat->Prop):D->Value->Prop
 | int (k:IntKind) (n:Int):CR w S (.int k n) (.int k n)
 | bool (b:Bool):CR w S (.bool b) (.bool b)
 | str (s:ByteArray):CR w S (.str s) (.string s)
 | sl (l:List D) (a:Option Addr) (cap b off:Nat) (c:Nat->Value) (ha:l=[]\/a=some ⟨b,off,none⟩) (hc:l.length<=cap)
   (h1:∀ i d,(aft l)[i]?=some d->S b (off+i)/\w.cell? ⟨b,off+i,none⟩=some (c i))
   (h2:∀ i d,(aft l)[i]?=some d->CR w S d (c i)):CR w S (.sl l) (.slice a l.length cap)
def CR.mono{w w':World}{S S':Nat->Nat->Prop}(hw:∀ b o,S b o->w'.cell? ⟨b,o,none⟩=w.cell? ⟨b,o,none⟩)(f:∀ b o,S b o->S' b o){d:D}{v:Value}(h:CR w S d v):CR w' S' d v:=by
 induction h with
 | int k n=>exact .int k n
 | bool b=>exact .bool b
 | str s=>exact .str s
 | sl l a cap b off c g hc h1 h2 ih=> exact .sl l a cap b off c g hc (λi d e=>⟨f _ _ (h1 i d e).1,by rw[hw _ _ (h1 i d e).1];exact(h1 i d e).2⟩) ih
def dF(w:World)(S:Nat->Nat->Prop)(a:List D)(cs:List Value):Prop:=a.length=cs.length/\∀ (i:Nat) (d:D) (c:Value),a[i]?=some d->cs[i]?=some c->CR w S d c
theorem dF.mono{w w':World}{S S':Nat->Nat->Prop}(hw:∀ b o,S b o->w'.cell? ⟨b,o,none⟩=w.cell? ⟨b,o,none⟩)(a:∀ b o,S b o->S' b o){d:List D}{v:List Value}(h:dF w S d v):dF w' S' d v:=
 ⟨h.1,λi d c h1 h2=>(h.2 i d c h1 h2).mono hw a⟩
def dF.nil{w:World}{S:Nat->Nat->Prop}:dF w S [] []:=⟨rfl,λi d c h=>by simp at h⟩
def dF.append{w:World}{S:Nat->Nat->Prop}{a b:List D}{c d:List Value}(h:dF w S a c)(k:dF w S b d):dF w S (a++b) (c++d):=by
 refine⟨by simp[h.1,k.1],λi x y hx hy=>?_⟩
 rw[zSc] at hx hy;by_cases hi:i<a.length
 ·rw[zja hi] at hx;rw[zja (h.1 ▸ hi)] at hy;exact h.2 i x y hx hy
 ·rw[zia hi] at hx;rw[zia (h.1 ▸ hi)] at hy;rw[h.1] at hx;exact k.2 _ x y hx hy
def dF.split{w:World}{S:Nat->Nat->Prop}{a b:List D}{cs:List Value}(h:dF w S (a++b) cs):dF w S a (cs.take a.length)/\dF w S b (cs.drop a.length):=by
 obtain⟨h1,h2⟩:=h;rw[zwa] at h1;refine⟨⟨by simp;omega,λi x y hx hy=>?_⟩,⟨by simp;omega,λi x y hx hy=>?_⟩⟩
 ·grind
 ·grind
def dF.single{w:World}{S:Nat->Nat->Prop}{d:D}{v:Value}:dF w S [d] [v]↔CR w S d v:=by
 constructor
 ·intro h;exact h.2 0 d v rfl rfl
 ·intro h;refine⟨rfl,λi x y hx hy=>?_⟩;all_goals grind
def dF.single'{w:World}{S:Nat->Nat->Prop}{d:D}{cs:List Value}(h:dF w S [d] cs):∃ v,cs=[v]/\CR w S d v:=by
 match cs,h with
 | [v],h=>exact⟨v,rfl,dF.single.1 h⟩
 | [],h=>simp[dF] at h
 | _::_::_,h=>simp[dF] at h
def si(w:World)(S:Nat->Nat->Prop)(b off:Nat)(a:List D):Prop:=∃ cs,dF w S a cs/\∀ (i:Nat) (c:Value),cs[i]?=some c->S b (off+i)/\w.cell? ⟨b,off+i,none⟩=some c
theorem si.mono{w w':World}{S S':Nat->Nat->Prop}(hw:∀ b o,S b o->w'.cell? ⟨b,o,none⟩=w.cell? ⟨b,o,none⟩)(a:∀ b o,S b o->S' b o){b off:Nat}{d:List D}(h:si w S b off d):si w' S' b off d:=by obtain⟨cs,h1,h2⟩:=h;exact⟨cs,h1.mono hw a,λi c hc=>⟨a _ _ (h2 i c hc).1,by rw[hw _ _ (h2 i c hc).1];exact(h2 i c hc).2⟩⟩
def si.part{w:World}{S:Nat->Nat->Prop}{b off:Nat}{x y z:List D}(h:si w S b off (x++(y++z))):si w S b (off+x.length) y:=by obtain⟨cs,h1,h2⟩:=h;obtain⟨_,h3⟩:=h1.split;obtain⟨a,_⟩:=h3.split;refine⟨_,a,λi c hc=>?_⟩;grind
def CR.elems{w:World}{S:Nat->Nat->Prop}{l:List D}{v:Value}(h:CR w S (.sl l) v):∃ a cap b off,v=.slice a l.length cap/\(l=[]\/a=some ⟨b,off,none⟩)/\l.length<=cap/\si w S b off (aft l):=by
 cases h with
 | sl _ a cap b off c f hc h1 h2=>
  refine⟨a,cap,b,off,rfl,f,hc,(List.range (aft l).length).map c,⟨j3,λi d c' g e=>?_⟩,λi c' e=>?_⟩
  ·grind
  ·have j:=(zra.1 e).1
   simp_all
def afj{w:World}{S:Nat->Nat->Prop}{l:List D}{a:Option Addr}{cap b off:Nat}(f:l=[]\/a=some ⟨b,off,none⟩)(hc:l.length<=cap)(h:si w S b off (aft l)):CR w S (.sl l) (.slice a l.length cap):=by
 obtain⟨cs,h1,h2⟩:=h;refine .sl l a cap b off (λi=>cs.getD i undef) f hc (λi d e=>?_) (λi d e=>?_)
 ·have c:i<cs.length:=by rw[<-h1.1];exact(zra.1 e).1
  have:=h2 i _ (zda c);simpa [List.getD,zda c] using this
 ·have c:i<cs.length:=by rw[<-h1.1];exact(zra.1 e).1
  have:=h1.2 i d _ e (zda c);simpa [List.getD,zda c] using this
def Vf:D->Value->Prop
 | .st _,v=>∃ cs,v=.agg cs
 | _,v=>∀ cs,v≠.agg cs
def gY(w:World)(S:Nat->Nat->Prop)(d:D)(v:Value):Prop:=Vf d v/\dF w S d.flat v.cells.toList
def DR(w:World)(S:Nat->Nat->Prop):D->Value->Prop
 | .tup l,v=>∃ vs:List Value,v=.tuple vs.toArray/\l.length=vs.length/\∀ (i:Nat) (d:D) (u:Value),l[i]?=some d->vs[i]?=some u->gY w S d u
 | d,v=>gY w S d v
theorem gY.mono{w w':World}{S S':Nat->Nat->Prop}(hw:∀ b o,S b o->w'.cell? ⟨b,o,none⟩=w.cell? ⟨b,o,none⟩)(a:∀ b o,S b o->S' b o){d:D}{v:Value}(h:gY w S d v):gY w' S' d v:=⟨h.1,h.2.mono hw a⟩
theorem DR.mono{w w':World}{S S':Nat->Nat->Prop}(hw:∀ b o,S b o->w'.cell? ⟨b,o,none⟩=w.cell? ⟨b,o,none⟩)(a:∀ b o,S b o->S' b o){d:D}{v:Value}(h:DR w S d v):DR w' S' d v:=by
 cases d<;>simp only[DR] at h ⊢<;>first
  | exact h.mono hw a
  | (obtain⟨vs,h1,h2,h3⟩:=h;exact⟨vs,h1,h2,λi d u c hu=>(h3 i d u c hu).mono hw a⟩)
def DR.of0{w:World}{S:Nat->Nat->Prop}{d:D}{v:Value}(h:gY w S d v):DR w S d v:=by
 cases d<;>simp only[DR]<;>first
  | exact h
  | (exfalso;obtain⟨c,e,h⟩:=dF.single' h.2;cases h)
def CR.int_inv{w:World}{S:Nat->Nat->Prop}{k:IntKind}{n:Int}{v:Value}(h:CR w S (.int k n) v):v=.int k n:=by cases h;rfl
def CR.bool_inv{w:World}{S:Nat->Nat->Prop}{n:Bool}{v:Value}(h:CR w S (.bool n) v):v=.bool n:=by cases h;rfl
def aA{v u:Value}(a:∀ cs,v≠.agg cs)(h:v.cells.toList=[u]):v=u:=by all_goals simp_all [Value.cells]
theorem gY.int_inv{w:World}{S:Nat->Nat->Prop}{k:IntKind}{n:Int}{v:Value}(h:gY w S (.int k n) v):v=.int k n:=by obtain⟨u,h1,h2⟩:=dF.single' (d:=.int k n) h.2;rw[aA h.1 h1];exact h2.int_inv
theorem gY.bool_inv{w:World}{S:Nat->Nat->Prop}{n:Bool}{v:Value}(h:gY w S (.bool n) v):v=.bool n:=by obtain⟨u,h1,h2⟩:=dF.single' (d:=.bool n) h.2;rw[aA h.1 h1];exact h2.bool_inv
def gY.sl_inv{w:World}{S:Nat->Nat->Prop}{l:List D}{v:Value}(h:gY w S (.sl l) v):CR w S (.sl l) v:=by obtain⟨u,h1,h2⟩:=dF.single' (d:=.sl l) h.2;rw[aA h.1 h1];exact h2
def CR.no_agg{w:World}{S:Nat->Nat->Prop}{d:D}{v:Value}(h:CR w S d v):(∀ cs,v≠.agg cs)/\(∀ vs,v≠.tuple vs)/\d.flat=[d]/\v.cells=#[v]:=by cases h<;>simp[D.flat,Value.cells]
def afC{w:World}{S:Nat->Nat->Prop}{d:D}{v:Value}(h:CR w S d v):gY w S d v:=by
 obtain⟨h1,_,h3,a⟩:=h.no_agg;refine⟨?_,?_⟩
 ·cases h<;>simp[Vf]
 ·rw[h3,a];exact dF.single.2 h
structure Cx where
 w:World
 S:Nat->Nat->Prop
 γ:Nat->Option Nat
 β:Nat->Option (Nat×Nat)
 ob:Nat->Option Ob
 dead:List Nat
def n8(w:World)(b:Nat):Option Nat:=(cg w b).map (·.size)
def cP:Ob->List Nat->Nat
 | .one t _,p=>bz t p
 | .many t _,i::p=>i*t.size+bz t p
 | .many ..,[]=>0
 | .mp ..,_=>0
 | .lp ..,_=>0
 | .fv _,_=>0
def tok(c:Cx)(t:Ty)(v:Nat)(l:List D)(a:Option Addr)(cap:Nat):Prop:=
 v ∉ c.dead->(a=none/\cap=0)\/∃ b off,a=some ⟨b,off,none⟩/\c.β v=some (b,off+l.length*t.size)/\∃ n,n8 c.w b=some n/\off+cap*t.size<=n
mutual
def AC(c:Cx):AV->List Value->Prop
 | .d t x,cs=>wt t x/\av t=true/\dF c.w c.S x.flat cs
 | .own t v l,cs=>av t=true/\(∀ x∈l,wt t x)/\∃ a cap,cs=[.slice a l.length cap]/\CR c.w c.S (.sl l) (.slice a l.length cap)/\tok c t v l a cap
 | .nils,cs=>cs=[.slice none 0 0]
 | .ptr t id p,cs=>∃ b off,cs=[.pointer (some ⟨b,off,none⟩)]/\c.γ id=some b/\∀ o,c.ob id=some o->fG o p=some t/\off=cP o p
 | .fptr t x,cs=>wt t x/\av t=true/\∃ b off,cs=[.pointer (some ⟨b,off,none⟩)]/\si c.w c.S b off x.flat
 | .mem t id,cs=>av t=true/\∃ b,c.γ id=some b/\∀ o,c.ob id=some o->∃ l,o=.many t l/\cs=[.slice (some ⟨b,0,none⟩) l.length l.length]
 | .st ts l,cs=>bG ts=true/\AV.fitss ts l=true/\mq c l cs
 | .clo f l,cs=>∃ caps:List Value,cs=[.func (.func f) #[] caps.toArray]/\ph c l caps
 | .map kt vt id,cs=>∃ b,cs=[.map (some b)]/\c.γ id=some b/\av kt=true/\av vt=true/\∀ o,c.ob id=some o->∃ l,o=.mp kt vt l
 | .sub sl t id p lo n,cs=>av t=true/\∃ b off cap,cs=[if sl then .slice (some ⟨b,off,none⟩) n cap else .pointer (some ⟨b,off,none⟩)]/\c.γ id=some b/\∀ o,c.ob id=some o->∃ m,fG o p=some (.arr m t)/\lo+n<=m/\off=cP o p+lo*t.size
 | .yld id,cs=>∃ L,cs=[.func (.yield L) #[] #[]]/\c.γ id=some L
 | .gone,_=>True
 | .undef,_=>True
def mq(c:Cx):List AV->List Value->Prop
 | [],cs=>cs=[]
 | a::l,cs=>∃ c1 c2,cs=c1++c2/\AC c a c1/\mq c l c2
def ph(c:Cx):List AV->List Value->Prop
 | [],cs=>cs=[]
 | a::l,cs=>∃ v c2,cs=v::c2/\AC c a [v]/\ph c l c2
end
def AR(c:Cx):AV->Value->Prop
 | .gone,v=>v=undef
 | .d t x,v=>(av t=true/\wt t x/\gY c.w c.S x v)\/∃ b,t=.tup b/\bG b=true/\wt t x/\DR c.w c.S x v
 | .undef,_=>True
 | .st b l,v=>(∃ cs,v=.agg cs)/\AC c (.st b l) v.cells.toList
 | a,v=>(∀ cs,v≠.agg cs)/\AC c a v.cells.toList
structure Cx.le(c c':Cx):Prop where
 cell:∀ b o,c.S b o->c'.w.cell? ⟨b,o,none⟩=c.w.cell? ⟨b,o,none⟩
 S:∀ b o,c.S b o->c'.S b o
 γ:∀ id b,c.γ id=some b->c'.γ id=some b
 ob:∀ id o,c'.ob id=some o->(∃ b,c.γ id=some b)->∃ o',c.ob id=some o'/\(∀ p,fG o p=fG o' p/\cP o p=cP o' p)/\(∀ t l,o'=.many t l->∃ l',o=.many t l'/\l'.length=l.length)/\(∀ kt vt l,o'=.mp kt vt l->∃ l',o=.mp kt vt l')
 β:∀ v,v ∉ c'.dead->v ∉ c.dead/\∀ b e,c.β v=some (b,e)->c'.β v=some (b,e)/\∀ n,n8 c.w b=some n->n8 c'.w b=some n
mutual
theorem AC.mono{c c':Cx}(h:c.le c'):∀ (a:AV) (cs:List Value),AC c a cs->AC c' a cs
 | .d t x,cs,k=>by simp only[AC] at k ⊢;exact⟨k.1,k.2.1,k.2.2.mono h.cell h.S⟩
 | .own t v l,cs,k=>by
  simp only[AC] at k ⊢;obtain⟨k0,k1,a,cap,rfl,k2,k3⟩:=k;refine⟨k0,k1,a,cap,rfl,k2.mono h.cell h.S,λhd=>?_⟩;obtain⟨h1,h2⟩:=h.β v hd;rcases k3 h1 with h3|⟨b,off,h3,h4,n,h5,h6⟩
  ·exact .inl h3
  ·exact .inr ⟨b,off,h3,(h2 _ _ h4).1,n,(h2 _ _ h4).2 n h5,h6⟩
 | .nils,cs,k=>by simpa only[AC] using k
 | .ptr t id p,cs,k=>by
  simp only[AC] at k ⊢;obtain⟨b,off,rfl,k1,k2⟩:=k;refine⟨b,off,rfl,h.γ _ _ k1,λo ho=>?_⟩;obtain⟨o',h1,h2,_⟩:=h.ob id o ho ⟨b,k1⟩
  simp_all
 | .fptr t x,cs,k=>by simp only[AC] at k ⊢;obtain⟨k1,k0,b,off,rfl,k2⟩:=k;exact⟨k1,k0,b,off,rfl,k2.mono h.cell h.S⟩
 | .mem t id,cs,k=>by simp only[AC] at k ⊢;obtain⟨k0,b,k1,k2⟩:=k;refine⟨k0,b,h.γ _ _ k1,λo ho=>?_⟩;obtain⟨o',h1,_,h3,_⟩:=h.ob id o ho ⟨b,k1⟩;grind
 | .st ts l,cs,k=>by simp only[AC] at k ⊢;exact⟨k.1,k.2.1,mq.mono h l cs k.2.2⟩
 | .clo f l,cs,k=>by simp only[AC] at k ⊢;obtain⟨caps,rfl,k1⟩:=k;exact⟨caps,rfl,ph.mono h l caps k1⟩
 | .map kt vt id,cs,k=>by simp only[AC] at k ⊢;obtain⟨b,e,k1,k2,k3,k4⟩:=k;refine⟨b,e,h.γ _ _ k1,k2,k3,λo ho=>?_⟩;obtain⟨o',h1,_,_,h3⟩:=h.ob id o ho ⟨b,k1⟩;grind
 | .sub sl t id p lo n,cs,k=>by
  simp only[AC] at k ⊢;obtain⟨k0,b,off,cap,rfl,k1,k2⟩:=k;refine⟨k0,b,off,cap,rfl,h.γ _ _ k1,λo ho=>?_⟩;obtain⟨o',h1,h2,_⟩:=h.ob id o ho ⟨b,k1⟩
  simp_all
 | .yld id,cs,k=>by simp only[AC] at k ⊢;obtain⟨L,rfl,k1⟩:=k;exact⟨L,rfl,h.γ _ _ k1⟩
 | .gone,cs,k=>by simp[AC]
 | .undef,cs,k=>by simp[AC]
theorem mq.mono{c c':Cx}(h:c.le c'):∀ (l:List AV) (cs:List Value),mq c l cs->mq c' l cs
 | [],cs,k=>by simpa only[mq] using k
 | a::l,cs,k=>by simp only[mq] at k ⊢;obtain⟨c1,c2,rfl,k1,k2⟩:=k;exact⟨c1,c2,rfl,AC.mono h a c1 k1,mq.mono h l c2 k2⟩
theorem ph.mono{c c':Cx}(h:c.le c'):∀ (l:List AV) (cs:List Value),ph c l cs->ph c' l cs
 | [],cs,k=>by simpa only[ph] using k
 | a::l,cs,k=>by simp only[ph] at k ⊢;obtain⟨c1,c2,rfl,k1,k2⟩:=k;exact⟨c1,c2,rfl,AC.mono h a _ k1,ph.mono h l c2 k2⟩
end
theorem AR.mono{c c':Cx}(h:c.le c'){a:AV}{v:Value}(k:AR c a v):AR c' a v:=by
 cases a<;>simp only[AR] at k ⊢
 case d t x=>
  rcases k with⟨b,e,f⟩|⟨i,b,g,e,f⟩
  ·exact .inl ⟨b,e,f.mono h.cell h.S⟩
  ·exact .inr ⟨i,b,g,e,f.mono h.cell h.S⟩
 all_goals first|exact⟨k.1,AC.mono h _ _ k.2⟩|exact k
def jI(c:Cx)(a vt:Ty):Nat->List D->List MapEntry->Prop
 | _,[],[]=>True
 | j,x::l,e::es=>(e.born=j/\∃ k v,x=.st [k,v]/\wt a k/\wt vt v/\gY c.w c.S k e.key/\gY c.w c.S v e.val)/\jI c a vt (j+1) l es
 | _,_,_=>False
def vn(c:Cx):AV->Value->Prop
 | .ptr _ id [],v=>∃ b,v=.pointer (some ⟨b,0,none⟩)/\c.γ id=some b
 | _,_=>False
def pn(c:Cx):List AV->List Value->Prop
 | [],[]=>True
 | a::l,v::vs=>vn c a v/\pn c l vs
 | _,_=>False
def gq(c:Cx):AV->Value->Prop
 | .d t x,v=>AR c (.d t x) v
 | .fptr t x,v=>AR c (.fptr t x) v
 | .ptr t id p,v=>vn c (.ptr t id p) v
 | .clo f l,v=>∃ caps:List Value,v=.func (.func f) #[] caps.toArray/\pn c l caps
 | .yld id,v=>AR c (.yld id) v
 | .map a vt id,v=>∃ b,v=.map (some b)/\c.γ id=some b/\av a=true/\av vt=true
 | _,_=>True
def vn.mono{c c':Cx}(d:∀ id b,c.γ id=some b->c'.γ id=some b){a:AV}{v:Value}(k:vn c a v):vn c' a v:=by unfold vn at k ⊢;all_goals grind
theorem pn.mono{c c':Cx}(d:∀ id b,c.γ id=some b->c'.γ id=some b):∀ {l:List AV} {vs:List Value},pn c l vs->pn c' l vs
 | [],[],_=>trivial
 | [],_::_,k=>k.elim
 | _::_,[],k=>k.elim
 | a::l,v::vs,k=>⟨k.1.mono d,pn.mono d k.2⟩
theorem gq.mono{c c':Cx}(g:∀ b o,c.S b o->c'.w.cell? ⟨b,o,none⟩=c.w.cell? ⟨b,o,none⟩)(m:∀ b o,c.S b o->c'.S b o)(j:∀ id b,c.γ id=some b->c'.γ id=some b){a:AV}{v:Value}(k:gq c a v):gq c' a v:=by
 cases a<;>simp only[gq] at k ⊢
 case d t x=>
  simp only[AR] at k ⊢;rcases k with⟨h,i,q⟩|⟨s,h,n,i,q⟩
  ·exact .inl ⟨h,i,q.mono g m⟩
  ·exact .inr ⟨s,h,n,i,q.mono g m⟩
 case fptr t x=> simp only[AR,AC] at k ⊢;obtain⟨r,h,n,b,off,e,i⟩:=k;exact⟨r,h,n,b,off,e,i.mono g m⟩
 case ptr t id p=>exact k.mono j
 case clo f l=> obtain⟨caps,e,h⟩:=k;exact⟨caps,e,h.mono j⟩
 case yld id=> simp only[AR,AC] at k ⊢;obtain⟨h,L,e,i⟩:=k;exact⟨h,L,e,j _ _ i⟩
 case map kt vt id=> obtain⟨b,e,h,i⟩:=k;exact⟨b,e,j _ _ h,i⟩
def DE:Ex->Code
 | .normal=>.skip
 | .exit id=>.exit id
 | .ret=>.ret
def LpS(i:LpI)(r:Loop):Prop:=r.tmps.size=i.nt/\r.params.toList=i.ps/\r.assign=i.asg/\r.body=i.bdy
def LpD:Option Ex->Loop->Prop
 | none,r=>r.state=.ready/\r.pending=none
 | some e,r=>r.state=.done/\r.pending=some (DE e)
def Dt(r r':Loop):Prop:=r'.tmps=r.tmps/\r'.params=r.params/\r'.assign=r.assign/\r'.body=r.body
def kN(w w':World)(b:Nat):Prop:=w'.heap[b]?=w.heap[b]?\/∃ r r',w.heap[b]?=some (Obj.loop r)/\w'.heap[b]?=some (Obj.loop r')/\Dt r r'
def kN.refl(w:World)(b:Nat):kN w w b:=.inl rfl
theorem kN.trans{w w1 f:World}{b:Nat}(h:kN w w1 b)(k:kN w1 f b):kN w f b:=by
 rcases h with h|⟨r,r1,h1,h2,h3⟩<;>rcases k with k|⟨r',e,c,d,a⟩
 ·exact .inl (k.trans h)
 ·exact .inr ⟨r',e,h.symm.trans c,d,a⟩
 ·exact .inr ⟨r,r1,h1,k.trans h2,h3⟩
 ·rw[h2] at c;cases c;exact .inr ⟨r,e,h1,d,a.1.trans h3.1,a.2.1.trans h3.2.1,a.2.2.1.trans h3.2.2.1,a.2.2.2.trans h3.2.2.2⟩
def kN.row{w w':World}{b:Nat}(h:kN w w' b){cs:Array Value}(a:cg w b=some cs):w'.heap[b]?=w.heap[b]?:=by
 rcases h with h|⟨r,r',h1,_,_⟩
 ·exact h
 ·simp[cg,h1] at a
def dS(w w':World):Prop:=∀ b:Nat,(w.heap[b]?=some (Obj.deferred (some []))->w'.heap[b]?=some (Obj.deferred (some [])))/\((∃ r,w.heap[b]?=some (Obj.loop r))->∃ r,w'.heap[b]?=some (Obj.loop r))
def dS.refl(w:World):dS w w:=λ_=>⟨id,id⟩
def dS.trans{w w1 c:World}(h:dS w w1)(k:dS w1 c):dS w c:=λb=>⟨λa=>(k b).1 ((h b).1 a),λa=>(k b).2 ((h b).2 a)⟩
def cV(lo:Nat)(w:World):Nat->List Deferred->Prop
 | _,[]=>True
 | a,d::l=>∃ K,d={ target:=.collected K,args:=#[] }/\lo<=K/\K<a/\w.heap[K]?=some (Obj.deferred (some []))/\cV lo w K l
theorem cV.mono{lo c:Nat}{w w':World}(b:c<=lo)(h:dS w w'):∀ {l:List Deferred} {e a:Nat},e<=a->cV lo w e l->cV c w' a l
 | [],_,_,_,_=>trivial
 | d::l,e,a,i,⟨K,h1,h2,h3,f,g⟩=>⟨K,h1,zHa b h2,zZa h3 i,(h K).1 f,cV.mono b h (zka K) g⟩
theorem cV.append{lo mid:Nat}{w:World}(hm:lo<=mid):∀ {l l':List Deferred} {a:Nat},mid<=a->cV mid w a l->cV lo w mid l'->cV lo w a (l++l')
 | [],l',a,b,_,h=>cV.mono (zka _) (dS.refl w) b h
 | d::l,l',a,b,⟨K,h1,h2,h3,c,e⟩,h=>⟨K,h1,zHa hm h2,h3,c,cV.append hm h2 e h⟩
def nl(l:List Nat)(a:Act)(w:World)(a':Act)(w':World):Prop:=dS w w'/\∃ m,a'.defers=m++a.defers/\cV w.heap.size w' w'.heap.size m/\(4095∈l->m=[])
def nl.same{l:List Nat}{a a':Act}{w w':World}(b:a'.defers=a.defers)(h:dS w w'):nl l a w a' w':=⟨h,[],by simpa using b,trivial,λ_=>rfl⟩
def nl.less{l l':List Nat}{a a':Act}{w w':World}(hl:∀ i∈l',i∈l)(h:nl l a w a' w'):nl l' a w a' w':=by obtain⟨e,m1,b,d,f⟩:=h;exact⟨e,m1,b,d,λc=>f (hl _ c)⟩
theorem nl.trans{l:List Nat}{a a1 a2:Act}{w w1 b:World}(h:nl l a w a1 w1)(k:nl l a1 w1 a2 b)(h1:w.heap.size<=w1.heap.size)(h2:w1.heap.size<=b.heap.size):nl l a w a2 b:=by
 obtain⟨j,m1,e,g,m⟩:=h;obtain⟨d,m2,f,i,z2⟩:=k;refine⟨j.trans d,m2++m1,by rw[f,e,zTa],?_,λc=>by rw[m c,z2 c];rfl⟩
 exact cV.append h1 h2 i (g.mono (zka _) d (zka _))
def cj{a:Act}{d:Option Nat}{v:Value}:(a.put d v).defers=a.defers:=by cases d<;>rfl
def gM(c:Cx)(b:Nat):Ob->Prop
 | .one t v=>av t=true/\AV.fits t v=true/\(∀ o,¬ c.S b o)/\∃ cs:List Value,cg c.w b=some cs.toArray/\AC c v cs/\cs.length=t.size
 | .many t l=>av t=true/\(∀ x∈l,wt t x)/\(∀ o,¬ c.S b o)/\∃ cs:List Value,cg c.w b=some cs.toArray/\dF c.w c.S (aft l) cs
 | .mp a vt l=>av a=true/\av vt=true/\(∀ o,¬ c.S b o)/\∃ es:Array MapEntry,c.w.heap[b]?=some (.map es l.length)/\jI c a vt 0 l es.toList
 | .fv v=>(∀ o,¬ c.S b o)/\∃ x:Value,cg c.w b=some #[x]/\gq c v x/\Value.oneCell' x=true
 | .lp i p=>∃ r:Loop,c.w.heap[b]?=some (Obj.loop r)/\LpS i r/\(∀ t,t<i.nt->gq c (i.caps t) (r.tmps.getD t undef))/\LpD p r
structure Root where
 w:World
 S0:Nat->Nat->Prop
 sh:Nat->Prop
abbrev Root.heap(r:Root):Array Obj:=r.w.heap
def Root.Old(r:Root)(b:Nat):Prop:=b<r.heap.size/\¬ r.sh b
structure nu(r:Root)(w:World):Prop where
 tape:w.tape=r.w.tape
 os:w.os=r.w.os
 output:w.output=r.w.output
 sz:r.heap.size<=w.heap.size
 dr:r.w.drawn<=w.drawn
 old:∀ b,r.Old b->w.heap[b]?=r.w.heap[b]?
structure Rp(w0:Root)(S:Nat->Nat->Prop)(γ:Nat->Option Nat)(β:Nat->Option (Nat×Nat))(s:St)(a:Act)(w:World):Prop where
 ext:nu w0 w
 tms:∀ t,t<a.tmps.size->AR ⟨w,S,γ,β,s.ob,s.dead⟩ (s.tm t) (a.tmps.getD t undef)
 nt:a.tmps.size=s.nt
 tmu:∀ t,s.nt<=t->s.tm t=.undef
 obs:∀ id o b,s.ob id=some o->γ id=some b->gM ⟨w,S,γ,β,s.ob,s.dead⟩ b o
 γn:∀ id b,γ id=some b->¬ w0.Old b/\b<w.heap.size
 γi:∀ id id' b,γ id=some b->γ id'=some b->id=id'
 γf:∀ id,s.base+4096<=id->γ id=none
 βn:∀ v b e,v ∉ s.dead->β v=some (b,e)->¬ w0.Old b/\b<w.heap.size/\∀ o,e<=o->¬ S b o
 βi:∀ v v' b e e',v ∉ s.dead->v' ∉ s.dead->β v=some (b,e)->β v'=some (b,e')->v=v'
 βγ:∀ v id b e,v ∉ s.dead->β v=some (b,e)->γ id≠some b
 βf:∀ v,s.base+4096<=v->β v=none
 Sb:∀ b o,S b o->b<w.heap.size
 So:∀ b o,S b o->w0.Old b->w0.S0 b o
structure Fm(s:St)(S:Nat->Nat->Prop)(γ:Nat->Option Nat)(a:Act)(w:World)(S':Nat->Nat->Prop)(γ':Nat->Option Nat)(a':Act)(w':World):Prop where
 sub:∀ b o,S b o->S' b o
 cell:∀ b o,S b o->w'.cell? ⟨b,o,none⟩=w.cell? ⟨b,o,none⟩
 slots:∀ t∈s.lkS,a'.tmps.getD t undef=a.tmps.getD t undef
 objs:∀ id∈s.lkO,∀ b,γ id=some b->γ' id=some b/\kN w w' b
 sz:w.heap.size<=w'.heap.size
 gam:∀ id b,γ id=some b->γ' id=some b
 dfs:nl s.lkO a w a' w'
structure Sk(s s':St):Prop where
 lkS:s'.lkS=s.lkS
 lkO:s'.lkO=s.lkO
 nt:s'.nt=s.nt
def Sk.refl(s:St):Sk s s:=⟨rfl,rfl,rfl⟩
theorem Sk.trans{a b c:St}(h:Sk a b)(k:Sk b c):Sk a c:=⟨k.lkS.trans h.lkS,k.lkO.trans h.lkO,k.nt.trans h.nt⟩
def dj:Ty->Bool
 | .st _=>true
 | .arr _ _=>true
 | _=>false
mutual
def Ty.high:Ty->Nat
 | .st l=>af9 l+1
 | .arr _ t=>t.high+1
 | .sl t=>t.high+1
 | .tup l=>af9 l+1
 | _=>1
def af9:List Ty->Nat
 | []=>0
 | t::l=>max t.high (af9 l)
end
def GQ:D->Value->Bool
 | .int k n,.int d e=>decide (k=d)&&decide (n=e)
 | .bool b,.bool c=>b==c
 | .str s,.string s'=>decide (s=s')
 | .sl l,.slice a len cap=>l.isEmpty&&a.isNone&&decide (len=0)&&decide (cap=0)
 | _,_=>false
def db:List D->List Value->Bool
 | [],[]=>true
 | d::l,v::l'=>GQ d v&&db l l'
 | _,_=>false
def re(P:Program)(t:TypeId)(ty:Ty):Bool:=
 match P.info? t with
 | some i=>decide (i.size=ty.size)&&decide (i.bytes<=16384)&&decide (i.size<=4096)&&(match i.zero with|some z=>db (aw ty).flat z.cells.toList&&(match z with|.agg _=>dj ty|_=>!dj ty)|none=>false)
 | none=>false
mutual
def cd(P:Program):Ty->TypeId->Bool
 | .int k,t=>re P t (.int k)&&(match P.underlying t with|some (.int k')=>decide (k=k')|_=>false)
 | .bool,t=>re P t .bool&&(match P.underlying t with|some .bool=>true|_=>false)
 | .str,t=>re P t .str&&(match P.underlying t with|some .string=>true|_=>false)
 | .st ts,t=>re P t (.st ts)&&!P.stoodInHeld t&&!P.eqGuardType P.depth t&&(match P.underlying t with|some (.struct fs)=>gQ P ts fs.toList 0|_=>false)
 | .arr n e,t=>re P t (.arr n e)&&!P.eqGuardType P.depth t&&(match P.underlying t with|some (.array m u)=>decide (m=n)&&cd P e u|_=>false)
 | .sl e,t=>re P t (.sl e)&&(match P.underlying t with|some (.slice u)=>cd P e u|_=>false)
 | _,_=>false
def gQ(P:Program):List Ty->List Field->Nat->Bool
 | [],[],_=>true
 | t :: ts, f :: fs, off => decide (f.offset = off) && decide (f.name ≠ "_") && decide (0 < t.size) && cd P t f.type && gQ P ts fs (off + t.size)
 | _,_,_=>false
end
def N8(P:Program)(t:TypeId):Bool:=
 (match P.info? t with
 | some i=>decide (i.size=1)&&decide (i.bytes<=16384)&&(match i.zero with|some z=>decide (z.cells.toList.length=1)&&z.oneCell'|none=>false)
 | none=>false)&&(match P.underlying t with|some (.struct _)=>false|some (.array _ _)=>false|some _=>true|none=>false)
def P4(P:Program)(a:List Ty)(c:Ty)(f:FuncId)(xs:List D)(y:D):Prop:=
 ∀ (w:World) (S:Nat->Nat->Prop) (vs:List Value),(∀ b o,S b o->b<w.heap.size)->fY a xs->vs.length=xs.length->(∀ (i:Nat) (x:D) (v:Value),xs[i]?=some x->vs[i]?=some v->gY w S x v) ->
  Calls P f vs.toArray w λe w'=>∃ v,e=.returned v/\(∃ os d,w.drawn<=d/\w'=grown w os d)/\wt c y/\DR w' (λb o=>S b o\/(w.heap.size<=b/\b<w'.heap.size)) y v
def P3(w:World)(S:Nat->Nat->Prop)(x:D)(b:Nat):Prop:=(∀ o,¬ S b o)/\∃ cs:List Value,cg w b=some cs.toArray/\dF w S x.flat cs
def Hn(b:Nat):Value:=.pointer (some ⟨b,0,none⟩)
def Sc(P:Program)(c:List Ty)(g:Ty)(f:FuncId)(xs:List D)(y:D)(k:Nat):Prop:=
 ∀ (w:World) (S:Nat->Nat->Prop) (vs:List Value) (a:List Nat),(∀ b o,S b o->b<w.heap.size)->fY c xs->a.length=k->vs.length+k=xs.length->(∀ (i j b:Nat),a[i]?=some b->a[j]?=some b->i=j) ->
  (∀ (i:Nat) (x:D) (v:Value),xs[i]?=some x->vs[i]?=some v->gY w S x v)->(∀ (i:Nat) (x:D) (b:Nat),xs[vs.length+i]?=some x->a[i]?=some b->P3 w S x b) ->
  Calls P f (vs++a.map Hn).toArray w λe w'=>∃ v,e=.returned v/\(∃ os d,w.drawn<=d/\w'=grown w os d)/\wt g y/\DR w' (λb o=>S b o\/(w.heap.size<=b/\b<w'.heap.size)) y v
def WL(P:Program):Nat->List Ty->Ty->FuncId->List D->D->Prop
 | 0,a,b,f,xs,y=>P4 P a b f xs y
 | k+1,a,b,f,xs,y=>Sc P a b f xs y (k+1)
def HY(P:Program)(c:List Ty)(t:Ty)(f:FuncId)(xs:List D)(l:List D):Prop:=
 ∀ (w:World) (S:Nat->Nat->Prop) (vs:List Value),(∀ b o,S b o->b<w.heap.size)->fY c xs->vs.length=xs.length->(∀ (i:Nat) (x:D) (v:Value),xs[i]?=some x->vs[i]?=some v->gY w S x v) ->
  Calls P f vs.toArray w λe w'=>∃ a cap,e=.returned (.slice a l.length cap)/\(∃ os d,w.drawn<=d/\w'=grown w os d)/\av t=true/\(∀ x∈l,wt t x)/\∃ S':Nat->Nat->Prop,(∀ b o,S b o->S' b o)/\(∀ b o,S' b o->S b o\/(w.heap.size<=b/\b<w'.heap.size)) ∧
   CR w' S' (.sl l) (.slice a l.length cap)/\((a=none/\cap=0)\/∃ b off,a=some ⟨b,off,none⟩/\(w.heap.size<=b/\b<w'.heap.size)/\(∃ n,n8 w' b=some n/\off+cap*t.size<=n)/\∀ o,off+l.length*t.size<=o->¬ S' b o)
def Lj(P:Program)(own:Bool)(k:Nat)(a:List Ty)(b:Ty)(f:FuncId)(xs:List D)(y:D):Prop:=
 WL P k a b f xs y/\(own=true->∃ t l,b=.sl t/\y=.sl l/\HY P a t f xs l)
def If(P:Program)(f:FuncId)(g:Ann->(R:Type)->St->List AV->(AV->St->Option R)->Option R):Prop:=
 ∀ (ann:Ann) (R:Type) (w0:Root) (S:Nat->Nat->Prop) (γ:Nat->Option Nat) (β:Nat->Option (Nat×Nat)) (s:St) (a:Act) (w:World) (b:List AV) (vs:List Value) (K:AV->St->Option R) (r:R),
  Rp w0 S γ β s a w->b.length=vs.length->(∀ (i:Nat) (x:AV) (v:Value),b[i]?=some x->vs[i]?=some v->AR ⟨w,S,γ,β,s.ob,s.dead⟩ x v)->g ann R s b K=some r ->
  Calls P f vs.toArray w λe w'=>∃ v y s' S' γ' β',e=.returned v/\K y s'=some r/\Rp w0 S' γ' β' s' a w'/\AR ⟨w',S',γ',β',s'.ob,s'.dead⟩ y v/\Fm s S γ a w S' γ' a w'/\Sk s s'
abbrev FW(ro:Option Nat):Fence:={ Fence.wide with round:=ro }
def Jf:Ex->Exit
 | .normal=>.normal
 | .exit i=>.exit i
 | .ret=>.ret
def HX(P:Program)(f:Code->Ann->(R:Type)->St->(Ex->St->Option R)->Option R):Prop:=
 ∀ (ro:Option Nat) (nn:Nat) (w0:Root) (c:Code) (ann:Ann) (R:Type) (Q:Exit->Act->World->Prop) (S:Nat->Nat->Prop) (γ:Nat->Option Nat) (β:Nat->Option (Nat×Nat)) (s:St) (a:Act) (w:World) (k:Ex->St->Option R) (r:R),
  (∀ l,ro=some l->∃ r0,w.heap[l]?=some (Obj.loop r0))->Rp w0 S γ β s a w->f c ann R s k=some r ->
  (∀ e s' S' γ' β' a' w',Rp w0 S' γ' β' s' a' w'->Fm s S γ a w S' γ' a' w'->Sk s s'->k e s'=some r->Q (Jf e) a' w')->c.wpIn (FW ro) nn P Q a w
structure EnvOk(P:Program)(E:Env):Prop where
 lay:∀ t ty,E.L t=some ty->(∃ ts,ty=.tup ts)\/cd P ty t=true
 high:∀ t ty,E.L t=some ty->ty.high<=1000
 flat:∀ t ty,E.L t=some ty->av ty=true
 sig : ∀ f ptys rty, E.sig f = some (ptys, rty) -> bG ptys = true /\ (av rty = true \/ ∃ ts, rty = .tup ts /\ bG ts = true) /\ ∃ fn, P.funcs[f]? = some fn /\ (fn.name == "runtime.NumGoroutine") = false /\ fn.body.isSome = true
 call:∀ f ptys rty xs y,E.sig f=some (ptys,rty)->E.call f xs=some y->fY ptys xs->Lj P (E.ownF f) (E.free f) ptys rty f xs y
 mixed:P.follows .mixedOrders=true
 lp:∀ (α β:Type) (body:α->Option (Sum α β)) (x:α) (y:β),E.lp body x=some y->∃ n,rm body n x=some y
 mapL:∀ t kt vt,E.mapL t=some (kt,vt)->cn kt=true/\∃ K V,P.underlying t=some (.map K V)/\cd P kt K=true/\cd P vt V=true/\kt.high<=1000
 inl : ∀ f g, E.inl f = some g -> (∃ fn, P.funcs[f]? = some fn /\ (fn.name == "runtime.NumGoroutine") = false /\ fn.body.isSome = true) /\ If P f g
 cod:HX P E.cod
 fnT:∀ t,E.fnT t=true->N8 P t=true
def gA{P:Program}{t:TypeId}{ty:Ty}(h:re P t ty=true):∃ i z,P.info? t=some i/\i.size=ty.size/\(i.bytes<=16384/\ty.size<=4096)/\i.zero=some z/\db (aw ty).flat z.cells.toList=true/\((∃ cs,z=.agg cs)↔dj ty=true):=by unfold re at h;all_goals grind
def io{P:Program}{t:TypeId}{ty:Ty}(h:cd P ty t=true):re P t ty=true:=by
 cases ty<;>simp only[cd,zaa] at h<;>first
  | exact h.1
  | exact h.1.1
  | exact h.1.1.1
  | cases h
def yG{P:Program}{t:TypeId}:∀ {ty:Ty},cd P ty t=true->(∃ a,ty=.tup a)\/ty=.fn->False:=by grind [cd]
def cF{P:Program}{t:TypeId}{ty:Ty}(h:cd P ty t=true)(w:World):(sizeOf t).run P w=.ok ty.size w:=by obtain⟨i,z,h1,h2,_⟩:=gA (io h);exact xb (by rw[h1];simp[h2]) w
def FA{P:Program}{t:TypeId}{ty:Ty}(h:cd P ty t=true)(w:World):(isAgg t).run P w=.ok (dj ty) w:=by
 have key:∀ d,P.underlying t=some d->(isAgg t).run P w=.ok (match d with|.struct _|.array _ _=>true|_=>false) w:=λd a=>by unfold isAgg;rw[zma,run_underlying a w];cases d<;>rfl
 cases ty<;>simp only[cd,zaa] at h
 case int k=>obtain⟨_,h⟩:=h;split at h<;>first|(rename_i hu;rw[key _ hu];rfl)|cases h
 case bool=>obtain⟨_,h⟩:=h;split at h<;>first|(rename_i hu;rw[key _ hu];rfl)|cases h
 case str=>obtain⟨_,h⟩:=h;split at h<;>first|(rename_i hu;rw[key _ hu];rfl)|cases h
 case st ts=>obtain⟨_,h⟩:=h;split at h<;>first|(rename_i hu;rw[key _ hu];rfl)|cases h
 case arr n e=>obtain⟨_,h⟩:=h;split at h<;>first|(rename_i hu;rw[key _ hu];rfl)|cases h
 case sl e=>obtain⟨_,h⟩:=h;split at h<;>first|(rename_i hu;rw[key _ hu];rfl)|cases h
 all_goals cases h
def jW{P:Program}{t:TypeId}{b:List Ty}(h:cd P (.st b) t=true):∃ a,P.underlying t=some (.struct a)/\gQ P b a.toList 0=true:=by simp only[cd,zaa] at h;all_goals grind
def fq{P:Program}{t:TypeId}{n:Nat}{e:Ty}(h:cd P (.arr n e) t=true):∃ u,P.underlying t=some (.array n u)/\cd P e u=true:=by simp only[cd,zaa] at h;all_goals grind
def jV{P:Program}{t:TypeId}{e:Ty}(h:cd P (.sl e) t=true):∃ u,P.underlying t=some (.slice u)/\cd P e u=true:=by simp only[cd,zaa] at h;all_goals grind
def kF{P:Program}{t:TypeId}{k:IntKind}(h:cd P (.int k) t=true):P.underlying t=some (.int k):=by simp only[cd,zaa] at h;all_goals grind
theorem uW{P:Program}:∀ {a:List Ty} {c:List Field} {off i:Nat} {t:Ty},gQ P a c off=true->a[i]?=some t->∃ f,c[i]?=some f/\f.offset=off+aga (a.take i)/\0<t.size/\cd P t f.type=true
 | [],_,_,_,_,_,h=>by simp at h
 | u::a,[],_,_,_,h,_=>by simp[gQ] at h
 | u::a,f::c,off,i,t,h,b=>by
  simp only[gQ,zaa,zfa] at h;obtain⟨⟨⟨⟨h1,_⟩,h2⟩,h3⟩,d⟩:=h;cases i with
  | zero=>simp at b;subst b;exact⟨f,rfl,by simp[aga,h1],h2,h3⟩
  | succ i=>
   simp at b;obtain⟨g,e,j,k⟩:=uW d b
   simp_all [e,j,aga,zVb]
def nag(cs:List Value):Prop:=∀ v∈cs,v.oneCell'=true
theorem dF.nag{w:World}{S:Nat->Nat->Prop}{a:List D}{cs:List Value}(h:dF w S a cs):nag cs:=by
 intro v c;obtain⟨i,b,he⟩:=z3a c;have h1:cs[i]?=some v:=by simp_all
 have h2:i<a.length:=by rw[h.1];exact b
 have h3:=h.2 i _ v (zda h2) h1;revert h3;generalize a[i]=d;intro h3;cases h3<;>rfl
def D7{a b:List Value}(h:nag a)(k:nag b):nag (a++b):=λv c=>by
 rcases List.mem_append.1 c with h1|h1
 ·exact h v h1
 ·exact k v h1
mutual
theorem jd{c:Cx}:∀ (a:AV) (t:Ty) (cs:List Value),AV.fits t a=true->AC c a cs->cs.length=t.size/\nag cs
 | .d t' x,t,cs,hf,h=>by
  have hf':t.beq t'=true:=by cases t<;>simpa only[AV.fits] using hf
  rw[af7 _ _ hf'];simp only[AC] at h;exact⟨by rw[<-h.2.2.1];exact cU _ _ h.1 h.2.1,h.2.2.nag⟩
 | .own t' v l,t,cs,hf,h=>by
  cases t<;>simp only[AV.fits] at hf<;>first|cases hf|skip
  simp only[AC] at h;obtain⟨_,_,a,cap,rfl,_⟩:=h;exact⟨rfl,λv hv=>by simp at hv;subst hv;rfl⟩
 | .nils,t,cs,hf,h=>by
  cases t<;>simp only[AV.fits] at hf<;>first|cases hf|skip
  simp only[AC] at h;subst h;exact⟨rfl,λv hv=>by simp at hv;subst hv;rfl⟩
 | .st ts' l,t,cs,hf,h=>by
  cases t<;>simp only[AV.fits] at hf<;>first|cases hf|skip
  rename_i ts;simp only[zaa] at hf;simp only[AC] at h;simp only[Ty.size];exact EM l ts cs hf.2 h.2.2
 | .ptr ..,t,cs,hf,_=>by cases t<;>simp[AV.fits] at hf
 | .fptr ..,t,cs,hf,_=>by cases t<;>simp[AV.fits] at hf
 | .mem ..,t,cs,hf,_=>by cases t<;>simp[AV.fits] at hf
 | .clo ..,t,cs,hf,_=>by cases t<;>simp[AV.fits] at hf
 | .map ..,t,cs,hf,_=>by cases t<;>simp[AV.fits] at hf
 | .sub ..,t,cs,hf,_=>by cases t<;>simp[AV.fits] at hf
 | .yld ..,t,cs,hf,_=>by cases t<;>simp[AV.fits] at hf
 | .gone,t,cs,hf,_=>by cases t<;>simp[AV.fits] at hf
 | .undef,t,cs,hf,_=>by cases t<;>simp[AV.fits] at hf
theorem EM{c:Cx}:∀ (l:List AV) (ts:List Ty) (cs:List Value),AV.fitss ts l=true->mq c l cs->cs.length=aga ts/\nag cs
 | [],ts,cs,hf,h=>by
  cases ts<;>simp only[AV.fitss] at hf<;>first|cases hf|skip
  simp only[mq] at h;subst h;exact⟨rfl,λv hv=>by simp at hv⟩
 | a::l,ts,cs,hf,h=>by
  cases ts<;>simp only[AV.fitss] at hf<;>first|cases hf|skip
  simp only[zaa] at hf;simp only[mq] at h;obtain⟨c1,c2,rfl,h1,h2⟩:=h;obtain⟨k1,k2⟩:=jd a _ c1 hf.1 h1;obtain⟨k3,k4⟩:=EM l _ c2 hf.2 h2;exact⟨by simp[aga,k1,k3],D7 k2 k4⟩
end
def ia(t:Ty)(cs:List Value)(v:Value):Prop:=v.cells.toList=cs/\(dj t=true->∃ xs,v=.agg xs)/\(dj t=false->∀ xs,v≠.agg xs)
mutual
theorem aT{P:Program}:∀ (ty:Ty) (t:TypeId),cd P ty t=true->av ty=true
 | .int _,_,_=>rfl
 | .bool,_,_=>rfl
 | .str,_,_=>rfl
 | .st ts,t,h=>by obtain⟨fs,_,h2⟩:=jW h;simp only[av];exact t7 ts _ _ h2
 | .arr n e,t,h=>by obtain⟨u,_,h2⟩:=fq h;simp only[av];exact aT e u h2
 | .sl e,t,h=>by obtain⟨u,_,h2⟩:=jV h;simp only[av];exact aT e u h2
 | .tup _,t,h=>by simp[cd] at h
 | .fn,t,h=>by simp[cd] at h
theorem t7{P:Program}:∀ (ts:List Ty) (fs:List Field) (off:Nat),gQ P ts fs off=true->bG ts=true
 | [],_,_,_=>rfl
 | t::ts,[],_,h=>by simp[gQ] at h
 | t::ts,f::fs,off,h=>by simp only[gQ,zaa] at h;simp only[bG,zaa];exact⟨aT t _ h.1.2,t7 ts fs _ h.2⟩
end
def qh{t:Ty}{x:D}{v:Value}(h:wt t x)(hn:av t=true)(hs:Vf x v):(dj t=true->∃ xs,v=.agg xs)/\(dj t=false->∀ xs,v≠.agg xs):=by
 cases t<;>simp only[wt] at h
 case int k=>obtain⟨n,rfl⟩:=h;exact⟨λh=>by simp[dj] at h,λ_=>hs⟩
 case bool=>obtain⟨n,rfl⟩:=h;exact⟨λh=>by simp[dj] at h,λ_=>hs⟩
 case str=>obtain⟨n,rfl⟩:=h;exact⟨λh=>by simp[dj] at h,λ_=>hs⟩
 case st ts=>obtain⟨n,rfl,_⟩:=h;exact⟨λ_=>hs,λh=>by simp[dj] at h⟩
 case arr m ts=>obtain⟨n,rfl,_⟩:=h;exact⟨λ_=>hs,λh=>by simp[dj] at h⟩
 case sl ts=>obtain⟨n,rfl,_⟩:=h;exact⟨λh=>by simp[dj] at h,λ_=>hs⟩
 case tup ts=>simp[av] at hn
def vp{t:Ty}{x:D}{v:Value}(h:wt t x)(hn:av t=true)(hs:(dj t=true->∃ xs,v=.agg xs)/\(dj t=false->∀ xs,v≠.agg xs)):Vf x v:=by
 cases t<;>simp only[wt] at h
 case int k=>obtain⟨n,rfl⟩:=h;exact hs.2 rfl
 case bool=>obtain⟨n,rfl⟩:=h;exact hs.2 rfl
 case str=>obtain⟨n,rfl⟩:=h;exact hs.2 rfl
 case st ts=>obtain⟨n,rfl,_⟩:=h;exact hs.1 rfl
 case arr m ts=>obtain⟨n,rfl,_⟩:=h;exact hs.1 rfl
 case sl ts=>obtain⟨n,rfl,_⟩:=h;exact hs.2 rfl
 case tup ts=>simp[av] at hn
def Bo{c:Cx}{t:Ty}{a:AV}{v:Value}(hf:AV.fits t a=true)(hn:av t=true)(h:AR c a v):AC c a v.cells.toList/\ia t v.cells.toList v:=by
 cases a
 case d t' x=>
  have b:t.beq t'=true:=by simp_all [AV.fits]
  have he:=af7 _ _ b;subst he;simp only[AR] at h;rcases h with⟨h1,h2,h3⟩|⟨e,rfl,_⟩
  ·refine⟨by simp only[AC];exact⟨h2,h1,h3.2⟩,rfl,qh h2 h1 h3.1⟩
  ·simp[av] at hn
 case own t' v' l=>
  cases t<;>simp only[AV.fits] at hf<;>first|cases hf|skip
  simp only[AR] at h;exact⟨h.2,rfl,by simp[dj],λ_=>h.1⟩
 case nils=>
  cases t<;>simp only[AV.fits] at hf<;>first|cases hf|skip
  simp only[AR] at h;exact⟨h.2,rfl,by simp[dj],λ_=>h.1⟩
 case st e l=>
  cases t<;>simp only[AV.fits] at hf<;>first|cases hf|skip
  simp only[AR] at h;exact⟨h.2,rfl,λ_=>h.1,by simp[dj]⟩
 all_goals simp_all [AV.fits]
def xX{c:Cx}{t:Ty}{a:AV}{v:Value}{cs:List Value}(hf:AV.fits t a=true)(h:AC c a cs)(g:ia t cs v):AR c a v:=by
 obtain⟨b,e⟩:=g;cases a
 case d t' x=>
  have f:t.beq t'=true:=by simp_all [AV.fits]
  have he:=af7 _ _ f;subst he;simp only[AC] at h;simp only[AR];exact .inl ⟨h.2.1,h.1,vp h.1 h.2.1 e,by rw[b];exact h.2.2⟩
 case own t' v' l=>
  cases t<;>simp only[AV.fits] at hf<;>first|cases hf|skip
  simp only[AR];exact⟨e.2 rfl,by rw[b];exact h⟩
 case nils=>
  cases t<;>simp only[AV.fits] at hf<;>first|cases hf|skip
  simp only[AR];exact⟨e.2 rfl,by rw[b];exact h⟩
 case st ts l=>
  cases t<;>simp only[AV.fits] at hf<;>first|cases hf|skip
  simp only[AR];exact⟨e.1 rfl,by rw[b];exact h⟩
 all_goals simp_all [AV.fits]
def kI{P:Program}{t:Ty}{T:TypeId}(hl:cd P t T=true){w:World}{b off:Nat}{cs:List Value}(hlen:cs.length=t.size)(hn:nag cs)
  (hc:∀ (i:Nat) (c:Value),cs[i]?=some c->w.cell? ⟨b,off+i,none⟩=some c):∃ v,(Instr.loadAt T (.pointer (some ⟨b,off,none⟩))).run P w=.ok v w/\ia t cs v:=by
 unfold Instr.loadAt Instr.sureAddr;simp only[pure_bind];unfold loadVar;rw[zma,FA hl,zga];cases ha:dj t
 ·have h1:cs.length=1:=by
   rw[hlen];cases t<;>simp[dj] at ha<;>first|rfl|(exfalso;exact yG hl (.inl ⟨_,rfl⟩))
  match cs,h1 with
  | [c],_=>
   refine⟨c,?_,?_⟩
   ·have:=hc 0 c rfl
    simp_all
   ·have h2:=hn c j3
    refine⟨?_,?_,?_⟩
    ·cases c<;>simp_all [Value.cells,Value.oneCell']
    ·simp_all
    ·grind [Value.oneCell']
 ·have h2:=run_loadCells_list (P:=P) w ⟨b,off,none⟩ cs (λj v a=>by rw[dI];exact hc j v a)
  rw[hlen] at h2;refine⟨.agg cs.toArray,?_,rfl,λ_=>⟨_,rfl⟩,by rw[ha];intro h;cases h⟩
  simp only[if_true,zma,cF hl,zga,h2,zua]
def QY{P:Program}{T:TypeId}(hl:N8 P T=true)(w:World):(isAgg T).run P w=.ok false w:=by
 simp only[N8,zaa] at hl;have h2:=hl.2;split at h2<;>first|(cases h2;done)|skip
 rename_i d h3 a b;unfold isAgg;rw[zma,run_underlying b w];cases d<;>first|rfl|exact z4a rfl (h3 _)|exact z4a rfl (a _ _)
def Fo{P:Program}{T:TypeId}(hl:N8 P T=true):∃ i z,P.info? T=some i/\i.size=1/\i.bytes<=16384/\i.zero=some z/\z.cells.toList.length=1/\z.oneCell'=true:=by
 simp only[N8,zaa] at hl;have h1:=hl.1;split at h1<;>first|(cases h1;done)|skip
 rename_i i a;simp only[zaa,zfa] at h1;obtain⟨⟨h1,h2⟩,h3⟩:=h1;split at h3<;>first|(cases h3;done)|skip
 rename_i z b;simp only[zaa,zfa] at h3;exact⟨i,z,a,h1,h2,b,h3.1,h3.2⟩
def C3{P:Program}{T:TypeId}(hl:N8 P T=true){w:World}{b:Nat}{x:Value}(a:cg w b=some #[x]):(Instr.loadAt T (.pointer (some ⟨b,0,none⟩))).run P w=.ok x w:=by unfold Instr.loadAt Instr.sureAddr;simp only[pure_bind];unfold loadVar;rw[zma,QY hl,zga];have:=cell_of_row _ a 0;simp at this;simp[this]
def rJ{P:Program}{t:Ty}{T:TypeId}(hl:cd P t T=true){w:World}{b off:Nat}{c:Array Value}{v:Value}{cs:List Value}(d:cg w b=some c)(a:ia t cs v)(hlen:cs.length=t.size)(hn:nag cs)(e:off+cs.length<=c.size) :
  (Instr.storeAt T (.pointer (some ⟨b,off,none⟩)) v).run P w=.ok () (putAt w b off cs.toArray):=by
 unfold Instr.storeAt Instr.sureAddr;simp only[pure_bind];unfold storeVar;have h1:v.cells.size=t.size:=by rw[<-zYb,a.1,hlen]
 have h2:=c7 (P:=P) b off cs 0 w c d j1 (by rw[zDa];intro x hx;have:=hn x hx;cases x<;>simp_all [Value.oneCell',nc])
 simp only[zjc] at h2;simp only[zma,cF hl,zga,h1,ne_eq,not_true_eq_false,if_false,a.1,h2]
def sN{v:Value}(h:v.oneCell'=true):v.cells=#[v]:=by cases v<;>simp_all [Value.cells,Value.oneCell']
def AW{P:Program}{T:TypeId}(hl:N8 P T=true){w:World}{b:Nat}{x v:Value}(c:cg w b=some #[x])(d:v.oneCell'=true) :
  (Instr.storeAt T (.pointer (some ⟨b,0,none⟩)) v).run P w=.ok () (putAt w b 0 #[v]):=by
 unfold Instr.storeAt Instr.sureAddr;simp only[pure_bind];unfold storeVar;obtain⟨i,z,a,h1,_⟩:=Fo hl;have h2:=c7 (P:=P) b 0 [v] 0 w _ c j3 (by simp;cases v<;>simp_all [Value.oneCell',nc])
 simp only[zjc] at h2;simp only[zma,xb (n:=1) (by rw[a];simp[h1]) w,zga,sN d,zNc,List.length_singleton,ne_eq,not_true_eq_false,if_false,h2]
def OH{c:Cx}{a:AV}{v:Value}(h:ni a=true)(k:AR c a v):v.oneCell'=true:=by
 cases a<;>simp only[ni] at h<;>first|(cases h;done)|skip
 all_goals simp only[AR,AC] at k
 ·obtain⟨b,_,d,_⟩:=k;rw[aA b d];rfl
 ·obtain⟨b,_,d,_⟩:=k;rw[aA b d];rfl
 ·obtain⟨b,_,d,_⟩:=k;rw[aA b d];rfl
end Sy
end
end Go.Proofs.YtphlmegkommlnaaGreatDoor
