/- Part 1 of the proof that PlaneOfBoxes answers true at every input -/
import Derived.WalkKit
import Derived.WalkSpells
import Derived.WalkLawsBesides
import Derived.Deep.QuietTactic
import Derived.BigQuiet
import Derived.Deep.Draws
import Derived.Lib.Hide
import Derived.KernelRfl
import Derived.StillTail
import Derived.Laws.StructEq
set_option linter.unusedVariables false
set_option linter.unusedSimpArgs false
set_option linter.unnecessarySimpa false
set_option linter.defProp false
set_option maxRecDepth 20000
namespace Go.Proofs.YtphlmegkommlnaaGreatDoor
noncomputable section
open Go.RowKit
theorem j1{p:Prop}(h:p:=by omega):p:=h
theorem j2{p:Prop}(h:p:=by decide):p:=h
theorem j3{p:Prop}(h:p:=by simp):p:=h
theorem u3{p:Prop}(h:p:=by kernel_rfl):p:=h
theorem h7{p:Prop}(h:p:=by grind):p:=h
abbrev zaa:=@Bool.and_eq_true
abbrev zba:=@Option.bind_some
abbrev zca:=@List.getElem?_eq_getElem
abbrev zda:=@Option.some.injEq
abbrev zea:=@decide_eq_false
abbrev zfa:=@decide_eq_true_eq
abbrev zga:=@Result.andThen_ok
abbrev zha:=@decide_eq_true
abbrev zia:=@Nat.le_refl
abbrev zja:=@Int.mul_le_mul_of_nonneg_left
abbrev zka:=@if_neg
abbrev zla:=@Sem.run_bind
abbrev zma:=@congrArg
abbrev zna:=@if_pos
abbrev zoa:=@List.mem_cons_of_mem
abbrev zpa:=@Int.le_of_lt
abbrev zqa:=@List.getElem?_eq_some_iff
abbrev zra:=@Sem.run_pure
abbrev zsa:=@List.mem_cons_self
abbrev zta:=@List.length_append
abbrev zua:=@List.take_append_drop
abbrev zva:=@Int.natAbs_natCast
abbrev zwa:=@Nat.two_pow_pos
abbrev zxa:=@Nat.lt_or_ge
abbrev zya:=@List.length_map
abbrev zza:=@Array.getElem?_eq_some_iff
abbrev zAa:=@Nat.zero_le
abbrev zBa:=@Int.mul_pos
abbrev zCa:=@List.all_eq_true
abbrev zDa:=@Bool.false_eq_true
abbrev zEa:=@List.mem_cons
abbrev zFa:=@List.getElem_mem
abbrev zGa:=@Nat.pow_le_pow_right
abbrev zHa:=@Int.mul_comm
abbrev zIa:=@Nat.le_trans
abbrev zJa:=@List.mem_append_right
abbrev zKa:=@Nat.mul_le_mul_right
abbrev zLa:=@List.mem_singleton
abbrev zMa:=@List.mem_map
abbrev zNa:=@Int.natAbs_mul
abbrev zOa:=@List.append_assoc
abbrev zPa:=@List.mem_flatMap
abbrev zQa:=@List.length_cons
abbrev zRa:=@List.mem_of_mem_take
abbrev zSa:=@List.pairwise_cons
abbrev zTa:=@Bool.not_eq_true'
abbrev zUa:=@Nat.mod_eq_of_lt
abbrev zVa:=@Int.lt_or_eq_of_le
abbrev zWa:=@List.mem_range
abbrev zXa:=@Int.mul_neg_of_pos_of_neg
abbrev zYa:=@List.getElem_of_mem
abbrev zZa:=@Nat.lt_of_le_of_lt
abbrev z0a:=@Int.natCast_mul
abbrev z1a:=@List.getD_eq_getElem?_getD
abbrev z2a:=@Nat.mod_lt
abbrev z3a:=@absurd
abbrev z4a:=@Nat.mul_le_mul
abbrev z5a:=@Nat.div_div_eq_div_mul
abbrev z6a:=@Int.ofNat_dvd_left
abbrev z7a:=@Int.mul_eq_zero
abbrev z8a:=@Int.mul_nonneg
abbrev z9a:=@Nat.mul_comm
abbrev zab:=@List.map_cons
abbrev zbb:=@List.mem_of_getElem?
abbrev zcb:=@Nat.zero_add
abbrev zdb:=@Nat.div_lt_iff_lt_mul
abbrev zeb:=@List.getElem?_eq_none
abbrev zfb:=@List.take_of_length_le
abbrev zgb:=@List.length_take
abbrev zhb:=@List.getElem?_map
abbrev zib:=@Nat.div_eq_of_lt
abbrev zjb:=@Array.getElem?_toList
abbrev zkb:=@List.take_succ_eq_append_getElem
abbrev zlb:=@Int.mul_ediv_cancel_left
abbrev zmb:=@Int.mul_lt_mul_of_pos_left
abbrev znb:=@Nat.lt_of_lt_of_le
abbrev zob:=@Nat.add_mul
abbrev zpb:=@List.getElem?_cons_succ
abbrev zqb:=@List.mem_filter
abbrev zrb:=@Int.mul_zero
abbrev zsb:=@List.length_range
abbrev ztb:=@Nat.gcd_dvd_left
abbrev zub:=@Nat.pow_add
abbrev zvb:=@List.getElem?_append_left
abbrev zwb:=@Int.lt_or_le
abbrev zxb:=@Int.lt_trichotomy
abbrev zyb:=@Rat.num_divInt_den
abbrev zzb:=@List.cons_append
abbrev zAb:=@Nat.mul_le_mul_left
abbrev zBb:=@List.append_nil
abbrev zCb:=@Bool.true_and
abbrev zDb:=@Nat.min_eq_left
abbrev zEb:=@Int.natAbs_neg
abbrev zFb:=@Int.mul_neg
abbrev zGb:=@Nat.mul_assoc
abbrev zHb:=@Rat.divInt_eq_divInt_iff
abbrev zIb:=@Option.map_some
abbrev zJb:=@Nat.mul_lt_mul_of_pos_right
abbrev zKb:=@List.map_append
abbrev zLb:=@List.length_nil
abbrev zMb:=@Rat.divInt_mul_divInt
abbrev zNb:=@Nat.add_sub_cancel_left
abbrev zOb:=@List.take_length
abbrev zPb:=@Int.mul_pos_of_neg_of_neg
abbrev zQb:=@Int.not_lt
abbrev zRb:=@Array.length_toList
abbrev zSb:=@Option.getD_some
abbrev zTb:=@Bool.not_false
abbrev zUb:=@Nat.gcd_dvd_right
abbrev zVb:=@Nat.add_assoc
abbrev zWb:=@List.getElem?_cons_zero
abbrev zXb:=@List.all_cons
abbrev zYb:=@List.getElem?_append_right
abbrev zZb:=@Int.one_mul
abbrev z0b:=@List.Nodup.length_le_of_subset
abbrev z1b:=@Int.mul_le_mul_of_nonneg_right
abbrev z2b:=@Nat.le_mul_of_pos_left
abbrev z3b:=@List.pairwise_iff_getElem
abbrev z4b:=@List.drop_eq_getElem_cons
abbrev z5b:=@Int.mul_ne_zero
abbrev z6b:=@List.getElem?_take_of_lt
abbrev z7b:=@Int.zero_mul
abbrev z8b:=@List.getElem?_drop
abbrev z9b:=@Bool.or_eq_true
abbrev zac:=@Nat.add_mul_div_left
abbrev zbc:=@List.mem_of_mem_drop
abbrev zcc:=@List.not_mem_nil
abbrev zdc:=@List.take_succ_cons
abbrev zec:=@List.mem_map_of_mem
abbrev zfc:=@Nat.pow_succ
abbrev zgc:=@List.range_succ
abbrev zhc:=@Nat.eq_zero_or_pos
abbrev zic:=@List.any_eq_true
abbrev zjc:=@Int.le_refl
abbrev zkc:=@Array.toArray_toList
abbrev zlc:=@Bool.not_true
abbrev zmc:=@Nat.add_zero
abbrev znc:=@Int.natAbs_add_le
abbrev zoc:=@Bool.eq_false_iff
abbrev zpc:=@Array.ext'
abbrev zqc:=@Nat.eq_of_beq_eq_true
abbrev zrc:=@Int.zero_add
abbrev zsc:=@Nat.div_add_mod
abbrev ztc:=@List.nil_append
abbrev zuc:=@List.ext_getElem?
abbrev zvc:=@Nat.lt_trans
abbrev zwc:=@Rat.divInt_add_divInt
abbrev zxc:=@Nat.mul_add
abbrev zyc:=@Nat.le_of_lt
abbrev zzc:=@Nat.div_le_self
abbrev zAc:=@List.length_filter_le
abbrev zBc:=@List.getElem?_toArray
abbrev zCc:=@Nat.not_lt
abbrev zDc:=@List.size_toArray
abbrev zEc:=@List.map_drop
abbrev zFc:=@Int.lt_irrefl
abbrev zGc:=@Int.fdiv_eq_ediv_of_nonneg
abbrev zHc:=@Nat.div_lt_of_lt_mul
abbrev zIc:=@List.getElem?_append
abbrev zJc:=@Array.getElem_append
abbrev zKc:=@List.mem_or_eq_of_mem_set
abbrev zLc:=@Int.mul_neg_of_neg_of_pos
abbrev zMc:=@Array.mapM_eq_mapM_toList
abbrev zNc:=@List.getElem_map
abbrev zOc:=@List.map_congr_left
abbrev zPc:=@Int.neg_ediv_of_dvd
abbrev zQc:=@Nat.mul_zero
abbrev zRc:=@Nat.gcd_pos_of_pos_right
abbrev zSc:=@Nat.add_comm
abbrev zTc:=@List.Pairwise.imp_of_mem
abbrev zUc:=@List.mem_filterMap
abbrev zVc:=@List.length_eq_zero_iff
abbrev zWc:=@List.foldl_cons
abbrev zXc:=@Int.natCast_add
abbrev zYc:=@Int.eq_ofNat_of_zero_le
abbrev zZc:=@List.drop_of_length_le
abbrev z0c:=@Nat.one_mul
abbrev z1c:=@Nat.le_succ
abbrev z2c:=@Int.pow_pos
abbrev z3c:=@Array.getElem?_setIfInBounds_ne
abbrev z4c:=@List.mapM_cons
abbrev z5c:=@Nat.le_div_iff_mul_le
abbrev z6c:=@Nat.gcd_comm
abbrev z7c:=@Nat.add_mul_div_right
abbrev z8c:=@Array.mem_of_getElem?
abbrev z9c:=@Array.getElem?_modify
abbrev zad:=@Array.mem_toList_iff
abbrev zbd:=@Nat.dvd_trans
abbrev zcd:=@Nat.mul_one
abbrev zdd:=@Nat.mod_one
abbrev zed:=@Nat.div_mul_le_self
abbrev zfd:=@List.drop_succ_cons
abbrev zgd:=@List.all_append
abbrev zhd:=@Nat.pow_zero
abbrev zid:=@Nat.mul_div_cancel
abbrev zjd:=@List.mem_replicate
abbrev zkd:=@List.map_nil
abbrev zld:=@Int.sub_eq_add_neg
abbrev zmd:=@Int.lt_or_gt_of_ne
abbrev znd:=@Int.ofNat_tmod
abbrev zod:=@Array.getElem?_eq_getElem
abbrev zpd:=@Nat.lt_trichotomy
abbrev zqd:=@List.pairwise_map
abbrev zrd:=@Int.toNat_natCast
abbrev zsd:=@Int.mul_tdiv_cancel_left
abbrev ztd:=@Array.toList_push
abbrev zud:=@Nat.le_mul_of_pos_right
abbrev zvd:=@Nat.div_one
abbrev zwd:=@Nat.le_add_right
abbrev zxd:=@List.drop_length
abbrev zyd:=@Int.natCast_ediv
abbrev zzd:=@Option.some.inj
abbrev zAd:=@Nat.mul_succ
abbrev zBd:=@Int.mul_ediv_cancel'
abbrev zCd:=@Array.push_eq_append
abbrev zDd:=@Array.getElem_toList
abbrev zEd:=@Int.ofNat_tdiv
abbrev zFd:=@Bool.false_xor
abbrev zGd:=@Bool.false_and
def grown(w:World)(os:List Obj)(d:Nat):World:={ w with heap:=w.heap++os.toArray,drawn:=d }
def bO(w:World)(b:Nat):Option (Array Value):=
 match w.heap[b]? with
 | some (.cells c _ (0,0))=>some c
 | _=>none
def jE(b:Nat)(w:World):Prop:=b<w.heap.size
def Rz(b:Nat)(w:World)(os:List Obj):Prop:=b<os.length+w.heap.size
section
variable(w:World)(os os':List Obj)(d d':Nat)(o:Obj)(a:Addr)(v:Value)(b:Nat)
@[simp,go_sem] theorem size_grown:(grown w os d).heap.size=os.length+w.heap.size:=by simp[grown];omega
@[simp,go_sem] theorem tape_grown:(grown w os d).tape=w.tape:=rfl
@[simp,go_sem] theorem drew_grown:(grown w os d).drew=grown w os (d+1):=rfl
@[simp,go_sem] theorem drewN_grown (n:Nat):(grown w os d).drewN n=grown w os (d+n):=rfl
def cV{b:Nat}(h:b<w.heap.size):(grown w os d).heap[b]?=w.heap[b]?:=by simp[grown,Array.getElem?_append,h]
def Gb:grown w [] w.drawn=w:=by simp[grown]
def dI:w.alloc o=grown w [o] w.drawn:=by show({ w with heap:=w.heap.push o }:World)=_;grind [grown,Array.push_eq_append]
@[simp,go_sem] theorem row?_drew:bO w.drew b=bO w b:=rfl
@[simp,go_sem] theorem row?_drewN (n:Nat):bO (w.drewN n) b=bO w b:=rfl
def vT{c:Array Value}{t:TypeId}(h:b=w.heap.size):bO (w.alloc (.cells c t)) b=some c:=by
 subst h;show(match (w.heap.push (.cells c t))[w.heap.size]? with|some (.cells c _ (0,0))=>some c|_=>none)=_
 simp
@[simp,go_sem] theorem inHeap_setCell:jE b (w.setCell a v)=jE b w:=by simp[jE]
@[simp,go_sem] theorem inHeap_drew:jE b w.drew=jE b w:=rfl
@[simp,go_sem] theorem inHeap_drewN (n:Nat):jE b (w.drewN n)=jE b w:=rfl
theorem cell_of_row{b:Nat}{c:Array Value}(h:bO w b=some c)(j:Nat):w.cell? ⟨b,j,none⟩=c[j]?:=by unfold bO at h;split at h<;>simp at h;rename_i a;subst h;simp[World.cell?,a]
theorem frozen_of_row{b:Nat}{c:Array Value}(h:bO w b=some c)(j:Nat):w.frozen? ⟨b,j,none⟩=false:=by unfold bO at h;split at h<;>simp at h;rename_i a;simp[World.frozen?,a]
def eJ(c:Array Value)(off:Nat)(cs:Array Value):Array Value:=c.extract 0 off++cs++c.extract (off+cs.size) c.size
def mr(c cs:Array Value)(off j:Nat)(h:off+cs.size<=c.size):(eJ c off cs)[j]?=if j<off then c[j]? else if j<off+cs.size then cs[j-off]? else c[j]?:=by simp only[eJ,Array.getElem?_append,Array.getElem?_extract,Array.size_append,Array.size_extract];all_goals grind
@[simp,go_sem] theorem splice_size (c cs:Array Value) (off:Nat) (h:off+cs.size<=c.size):(eJ c off cs).size=c.size:=by simp[eJ];omega
def tx(c:Array Value)(k:Nat)(v:Value)(l:List Value)(h:k+(l.length+1)<=c.size) :
  eJ (c.setIfInBounds k v) (k+1) l.toArray=eJ c k (v::l).toArray:=by
 apply Array.ext_getElem?;intro j;rw[mr _ _ _ _ (by simp;omega),mr _ _ _ _ (by simpa using h)]
 all_goals grind
def putAt(w:World)(b off:Nat)(cs:Array Value):World:=
 { w with heap:=w.heap.modify b λ
   | .cells c e f=>.cells (eJ c off cs) e f
   | o=>o }
@[simp,go_sem] theorem inHeap_putAt (b' off:Nat) (cs:Array Value):jE b' (putAt w b off cs)=jE b' w:=by simp[jE,putAt]
@[simp,go_sem] theorem size_putAt (off:Nat) (cs:Array Value):(putAt w b off cs).heap.size=w.heap.size:=by simp[putAt]
@[simp,go_sem] theorem tape_putAt (off:Nat) (cs:Array Value):(putAt w b off cs).tape=w.tape:=rfl
end
attribute [irreducible] jE Rz
def Dg(P:Program)(T:TypeId)(a:Addr)(w:World):Result Value:=(loadVar T a).run P w
def DO(P:Program)(T:TypeId)(a:Addr)(v:Value)(w:World):Result Unit:=(storeVar T a v).run P w
def RN(P:Program)(T:TypeId)(b off n:Nat)(w:World):Option (Array Value)->Result Value
 | some c=>if off+n<=c.size then .ok (.agg (c.extract off (off+n))) w else Dg P T ⟨b,off,none⟩ w
 | none=>Dg P T ⟨b,off,none⟩ w
@[simp,go_sem] theorem ldRow_some (P:Program) (T:TypeId) (b off n:Nat) (w:World) (c:Array Value) :
  RN P T b off n w (some c)=if off+n<=c.size then .ok (.agg (c.extract off (off+n))) w else Dg P T ⟨b,off,none⟩ w:=rfl
def mz:Value->Bool
 | .agg _|.tuple _=>false
 | _=>true
def RT(cs:Array Value):Bool:=cs.all mz
def Sf(P:Program)(T:TypeId)(b off:Nat)(cs:Array Value)(w:World):Option (Array Value)->Result Unit
 | some c=>if off+cs.size<=c.size/\RT cs=true then .ok () (putAt w b off cs) else DO P T ⟨b,off,none⟩ (.agg cs) w
 | none=>DO P T ⟨b,off,none⟩ (.agg cs) w
@[simp,go_sem] theorem stRow_some (P:Program) (T:TypeId) (b off:Nat) (cs:Array Value) (w:World) (c:Array Value) :
  Sf P T b off cs w (some c)=if off+cs.size<=c.size/\RT cs=true then .ok () (putAt w b off cs) else DO P T ⟨b,off,none⟩ (.agg cs) w:=rfl
def vY{P:Program}{T:TypeId}{n:Nat}(h:(P.info? T).map (·.size)=some n)(w:World):(sizeOf T).run P w=.ok n w:=by
 cases hq:P.info? T with
 | none=>simp[hq] at h
 | some i=> simp_all [sizeOf,typeInfo]
def de(b off j:Nat):(⟨b,off,none⟩:Addr).add j=⟨b,off+j,none⟩:=by unfold Addr.add;split<;>simp_all
theorem cP{P:Program}(b off:Nat):∀ (l:List Value) (i:Nat) (w:World) (c:Array Value),bO w b=some c->off+i+l.length<=c.size->l.all mz=true ->
  (storeCells ⟨b,off,none⟩ l i).run P w=.ok () (putAt w b (off+i) l.toArray)
 | [],i,w,c,a,_,_=>by
  simp only[storeCells,zra];congr 1;unfold bO at a;split at a<;>simp at a;rename_i h;subst a;have g:=(zza.1 h);obtain⟨g,k⟩:=g;simp only[putAt];have:w.heap.modify b (λ|.cells c e f=>.cells (eJ c (off+i) #[]) e f|o=>o)=w.heap:=by
   apply Array.ext
   ·simp
   ·intro j h1 h2;simp only[Array.getElem_modify];split
    ·simp_all [eJ]
    ·rfl
  simp_all
 | v::l,i,w,c,a,hlen,d=>by
  simp only[zXb,zaa] at d;simp only[zQa] at hlen;have hc:w.cell? ⟨b,off+i,none⟩=some c[off+i]:=by rw[cell_of_row w a,zod j1]
  have hf:w.frozen? ⟨b,off+i,none⟩=false:=frozen_of_row w a _;simp only[storeCells,zla];have n:(store ((⟨b,off,none⟩:Addr).add i) v).run P w=.ok () (w.setCell ⟨b,off+i,none⟩ v):=by rw[de];unfold store;cases v<;>simp_all [Sem.run,mz]
  rw[n];simp only[zga];have m:bO (w.setCell ⟨b,off+i,none⟩ v) b=some (c.setIfInBounds (off+i) v):=by unfold bO at a ⊢;split at a<;>simp at a;rename_i h;subst a;simp only[World.setCell,z9c,if_true,h,zIb,Option.isSome_none,zDa,if_false]
  rw[cP b off l (i+1) _ _ m (by simp;omega) d.2]
  congr 1;unfold bO at a;split at a<;>simp at a;rename_i h;subst a;obtain⟨g,k⟩:=(zza.1 h);simp only[putAt,World.setCell];congr 1;apply Array.ext
  ·simp
  ·intro j h1 h2;simp only[Array.getElem_modify];split
   ·rename_i h3;subst h3;simp only[k,Option.isSome_none,zDa,if_false];rw[<-tx _ _ _ _ j1]
    rfl
   ·rfl
def mw(place:Nat->Option (Nat×Nat))(cells:Array Value):List (Nat×Value)->Option (Array Value)
 | []=>some cells
 | (i,v)::rest=>
  match place i with
  | none=>none
  | some (off,size)=>if v.cells.size≠size\/off+v.cells.size>cells.size then none else mw place (eJ cells off v.cells) rest
theorem pU(off:Nat):∀ (l:List Value) (k:Nat) (cells:Array Value),off+k+l.length<=cells.size ->
  (l.zipIdx k).foldl (λcs (c,j)=>cs.setIfInBounds (off+j) c) cells=eJ cells (off+k) l.toArray
 | [],k,cells,_=>by simp only[List.zipIdx_nil,List.foldl_nil,eJ];all_goals simp_all
 | v::l,k,cells,h=>by simp only[zQa] at h;simp only[List.zipIdx_cons,zWc];rw[pU off l (k+1) _ (by simp;omega),show off+(k+1)=(off+k)+1 from by omega,tx _ _ _ _ j1]
theorem pS(place:Nat->Option (Nat×Nat)):∀ (l:List (Nat×Value)) (cells:Array Value),Instr.fill place cells l=mw place cells l
 | [],cells=>rfl
 | (i,v)::rest,cells=>by
  simp only[Instr.fill,mw];cases place i with
  | none=>rfl
  | some q=>
   obtain⟨off,size⟩:=q;by_cases h:v.cells.size≠size\/off+v.cells.size>cells.size
   ·simp[h]
   ·simp only[h,if_false];have b:¬ (v.cells.size≠size||decide (off+v.cells.size>cells.size))=true:=by simpa using h
    have hle:off+0+v.cells.toList.length<=cells.size:=by simp;omega
    have e:=pU off v.cells.toList 0 cells hle;simp only[zmc,zkc] at e;have a:v.cells.zipIdx.foldl (λcs (c,j)=>cs.setIfInBounds (off+j) c) cells=eJ cells off v.cells:=by rw[<-e,<-Array.foldl_toList];simp
    simp only[b,if_false,zDa,a];exact pS place rest _
def uV{place:Nat->Option (Nat×Nat)}{cells:Array Value}{i off size:Nat}{v:Value}{rest:List (Nat×Value)}(hp:place i=some (off,size))(h1:v.cells.size=size)(h2:off+size<=cells.size) :
  mw place cells ((i,v)::rest)=mw place (eJ cells off v.cells) rest:=by
 simp only[mw,hp];grind
section
variable{α:Type}{enc:α->Array Value}{c:Nat}(hc:∀ x,(enc x).size=c)
include hc
def pw(f:Nat->α)(k:Nat)(y:α):Nat->α:=λi=>if i=k then y else f i
end
end
noncomputable section
namespace Sy
open Go
inductive Ty where
 | int (k:IntKind)|bool|str|st (l:List Ty)|arr (n:Nat) (t:Ty)|sl (t:Ty)|tup (l:List Ty)|fn
mutual
def Ty.beq:Ty->Ty->Bool
 | .int k,.int k'=>decide (k=k')
 | .bool,.bool=>true
 | .str,.str=>true
 | .st l,.st l'=>Ty.beqs l l'
 | .arr n t,.arr n' t'=>decide (n=n')&&Ty.beq t t'
 | .sl t,.sl t'=>Ty.beq t t'
 | .tup l,.tup l'=>Ty.beqs l l'
 | .fn,.fn=>true
 | _,_=>false
def Ty.beqs:List Ty->List Ty->Bool
 | [],[]=>true
 | t::l,t'::l'=>Ty.beq t t'&&Ty.beqs l l'
 | _,_=>false
end
mutual
theorem aco:∀ (t t':Ty),t.beq t'=true->t=t'
 | .int k,t',h=>by cases t'<;>simp[Ty.beq] at h;rw[h]
 | .bool,t',h=>by grind [Ty.beq]
 | .str,t',h=>by grind [Ty.beq]
 | .st l,t',h=>by cases t'<;>simp[Ty.beq] at h;rw[acp _ _ h]
 | .arr n t,t',h=>by cases t'<;>simp[Ty.beq] at h;rw[h.1,aco _ _ h.2]
 | .sl t,t',h=>by cases t'<;>simp[Ty.beq] at h;rw[aco _ _ h]
 | .tup l,t',h=>by cases t'<;>simp[Ty.beq] at h;rw[acp _ _ h]
 | .fn,t',h=>by grind [Ty.beq]
theorem acp:∀ (l l':List Ty),Ty.beqs l l'=true->l=l'
 | [],l',h=>by grind [Ty.beqs]
 | t::l,l',h=>by
  cases l' with
  | nil=>simp[Ty.beqs] at h
  | cons t' l'=>simp[Ty.beqs] at h;rw[aco _ _ h.1,acp _ _ h.2]
end
mutual
def Ty.size:Ty->Nat
 | .st l=>acr l
 | .arr n t=>n*t.size
 | .tup _=>0
 | _=>1
def acr:List Ty->Nat
 | []=>0
 | t::l=>t.size+acr l
end
inductive D where
 | int (k:IntKind) (n:Int)|bool (b:Bool)|str (s:ByteArray)|st (l:List D)|sl (l:List D)|tup (l:List D)
instance:Inhabited D:=⟨.bool false⟩
mutual
def D.flat:D->List D
 | .st l=>abM l
 | .int k n=>[.int k n]
 | .bool b=>[.bool b]
 | .str s=>[.str s]
 | .sl l=>[.sl l]
 | .tup l=>[.tup l]
def abM:List D->List D
 | []=>[]
 | d::l=>D.flat d++abM l
end
mutual
def wt:Ty->D->Prop
 | .int k,d=>∃ n,d=.int k n
 | .bool,d=>∃ b,d=.bool b
 | .str,d=>∃ s,d=.str s
 | .st ts,d=>∃ l,d=.st l/\fG ts l
 | .arr n t,d=>∃ l,d=.st l/\l.length=n/\∀ x∈l,wt t x
 | .sl t,d=>∃ l,d=.sl l/\∀ x∈l,wt t x
 | .tup ts,d=>∃ l,d=.tup l/\fG ts l
 | .fn,_=>False
def fG:List Ty->List D->Prop
 | [],l=>l=[]
 | t::ts,l=>∃ d l',l=d::l'/\wt t d/\fG ts l'
end
mutual
def D.beq:D->D->Bool
 | .int k n,.int k' n'=>decide (k=k')&&decide (n=n')
 | .bool b,.bool b'=>b==b'
 | .str s,.str s'=>decide (s=s')
 | .st l,.st l'=>D.beqs l l'
 | _,_=>false
def D.beqs:List D->List D->Bool
 | [],[]=>true
 | t::l,t'::l'=>D.beq t t'&&D.beqs l l'
 | _,_=>false
end
mutual
def aq:Ty->D
 | .int k=>.int k 0
 | .bool=>.bool false
 | .str=>.str ByteArray.empty
 | .st l=>.st (gD l)
 | .arr n t=>.st (List.replicate n (aq t))
 | .sl _=>.sl []
 | .tup l=>.tup (gD l)
 | .fn=>.bool false
def gD:List Ty->List D
 | []=>[]
 | t::l=>aq t::gD l
end
mutual
def Ou:Ty->Bool
 | .st l=>zp l
 | .arr _ t=>Ou t
 | .sl _=>true
 | .tup _=>true
 | .fn=>true
 | _=>false
def zp:List Ty->Bool
 | []=>false
 | t::l=>Ou t||zp l
end
mutual
def am:Ty->Bool
 | .st l=>bq l
 | .arr _ t=>am t
 | .sl t=>am t
 | .tup _=>false
 | .fn=>false
 | _=>true
def bq:List Ty->Bool
 | []=>true
 | t::l=>am t&&bq l
end
inductive Ex where
 | normal|exit (id:Nat)|ret
def Ex.is:Ex->Ex->Bool
 | .normal,.normal=>true
 | .exit i,.exit j=>decide (i=j)
 | .ret,.ret=>true
 | _,_=>false
def Dv:Option Ex->Option Ex->Bool
 | none,none=>true
 | some e,some a=>e.is a
 | _,_=>false
inductive AV where
 | d (t:Ty) (x:D)
 | own (t:Ty) (v:Nat) (l:List D)
 | nils
 | ptr (t:Ty) (id:Nat) (p:List Nat)
 | fptr (t:Ty) (x:D)
 | mem (t:Ty) (id:Nat)
 | st (ts:List Ty) (l:List AV)
 | clo (f:Nat) (l:List AV)
 | map (kt vt:Ty) (id:Nat)
 | sub (sl:Bool) (t:Ty) (id:Nat) (p:List Nat) (lo n:Nat)
 | yld (id:Nat)
 | gone
 | undef
instance:Inhabited AV:=⟨.undef⟩
structure LpI where
 nt:Nat
 ps:List Nat
 asg:Code
 bdy:Code
 caps:Nat->AV
inductive Ob where
 | one (t:Ty) (v:AV)
 | many (t:Ty) (l:List D)
 | mp (kt vt:Ty) (l:List D)
 | lp (i:LpI) (pend:Option Ex)
 | fv (v:AV)
def D.fld:D->Nat->Option D
 | .st l,i=>l[i]?
 | _,_=>none
def D.tupAt:D->Nat->Option D
 | .tup l,i=>l[i]?
 | _,_=>none
def D.get:D->List Nat->Option D
 | x,[]=>some x
 | x,i::p=>(x.fld i).bind λy=>y.get p
def D.set:D->List Nat->D->Option D
 | _,[],y=>some y
 | .st l,i::p,y=>(l[i]?).bind λz=>(D.set z p y).bind λa=>some (.st (l.set i a))
 | _,_::_,_=>none
def D.asSl:D->Option (List D)
 | .sl l=>some l
 | _=>none
def D.stl:D->Option (List D)
 | .st l=>some l
 | _=>none
def D.asInt:D->Option (IntKind×Int)
 | .int k n=>some (k,n)
 | _=>none
def D.truth:D->Option Bool
 | .bool b=>some b
 | _=>none
def D.idx:D->Nat->Option Nat
 | .int _ i,n=>if 0<=i/\i<(n:Int) then some i.toNat else none
 | _,_=>none
def abT:D->D->Option D
 | .str s,.int _ i=>(if 0<=i then s[i.toNat]? else none).bind λb=>some (.int .u8 b.toNat)
 | _,_=>none
def D.slen:D->Option D
 | .str s=>some (.int .i64 s.size)
 | _=>none
def D.conv(k:IntKind):D->Option D
 | .int _ n=>some (.int k (k.wrap n))
 | _=>none
def abH(op:BinOp)(k:IntKind)(x y:Int):Option D:=
 match op with
 | .and=>some (.int k (k.wrap (BitVec.ofInt k.bits x &&& BitVec.ofInt k.bits y).toNat))
 | .or=>some (.int k (k.wrap (BitVec.ofInt k.bits x ||| BitVec.ofInt k.bits y).toNat))
 | .xor=>some (.int k (k.wrap (BitVec.ofInt k.bits x ^^^ BitVec.ofInt k.bits y).toNat))
 | .andNot=>some (.int k (k.wrap (BitVec.ofInt k.bits x &&& ~~~ BitVec.ofInt k.bits y).toNat))
 | _=>none
def abG(op:BinOp):D->D->Option D
 | .int k a,.int c b=>
  match op with
  | .shl=>if b<0 then none else some (.int k (k.wrap (a*2^(min b.toNat k.bits))))
  | .shr=>if b<0 then none else some (.int k (a.fdiv (2^(min b.toNat k.bits))))
  | _=>if k=c then
   match op with
   | .add=>some (.int k (k.wrap (a+b)))
   | .sub=>some (.int k (k.wrap (a-b)))
   | .mul=>some (.int k (k.wrap (a*b)))
   | .quo=>if b=0 then none else some (.int k (k.wrap (a.tdiv b)))
   | .rem=>if b=0 then none else some (.int k (a.tmod b))
   | .eql=>some (.bool (a==b))
   | .neq=>some (.bool (a != b))
   | .lss=>some (.bool (decide (a<b)))
   | .leq=>some (.bool (decide (a<=b)))
   | .gtr=>some (.bool (decide (a>b)))
   | .geq=>some (.bool (decide (a ≥ b)))
   | .and=>abH .and k a b
   | .or=>abH .or k a b
   | .xor=>abH .xor k a b
   | .andNot=>abH .andNot k a b
   | _=>none
   else none
 | _,_=>none
def abU(op:UnOp):D->Option D
 | .int k n=>match op with
  | .neg=>some (.int k (k.wrap (0-n)))
  | .xor=>abH .xor k (if k.signed then -1 else k.max) n
  | _=>none
 | .bool b=>match op with
  | .not=>some (.bool (!b))
  | _=>none
 | _=>none
def D.min2:D->D->Option D
 | .int k x,.int _ y=>some (.int k (if y<x then y else x))
 | _,_=>none
def D.max2:D->D->Option D
 | .int k x,.int _ y=>some (.int k (if y>x then y else x))
 | _,_=>none
def D.cut(l:List D)(lo a:Nat):Option (List D):=if lo<=a/\a<=l.length then some ((l.take a).drop lo) else none
def D.natOf:D->Option Nat
 | .int _ i=>if 0<=i then some i.toNat else none
 | _=>none
def abS:List D->List (Nat×D)->List D
 | l,[]=>l
 | l,(i,x)::r=>abS (l.set i x) r
def aM:Ty->List Nat->Option Ty
 | t,[]=>some t
 | .st a,i::p=>(a[i]?).bind λt=>aM t p
 | .arr _ t,_::p=>aM t p
 | _,_=>none
def aZ:Ty->List Nat->Nat
 | _,[]=>0
 | .st a,i::p=>acr (a.take i)+aZ (a.getD i .bool) p
 | .arr _ t,i::p=>i*t.size+aZ t p
 | _,_=>0
def zn{R:Type}:AV->List Nat->(AV->Option R)->Option R
 | .d t x,p,k=>match p with
  | []=>k (.d t x)
  | i::p=>(aM t (i::p)).bind λb=>(x.get (i::p)).bind λy=>k (.d b y)
 | a,[],k=>k a
 | .st _ l,i::p,k=>(l[i]?).bind λa=>zn a p k
 | _,_,_=>none
mutual
def AV.fits:Ty->AV->Bool
 | t,.d t' _=>t.beq t'
 | .sl t,.own t' _ _=>t.beq t'
 | .sl _,.nils=>true
 | .st ts,.st ts' l=>Ty.beqs ts ts'&&AV.fitss ts l
 | _,_=>false
def AV.fitss:List Ty->List AV->Bool
 | [],[]=>true
 | t::ts,a::l=>AV.fits t a&&AV.fitss ts l
 | _,_=>false
end
def DK{R:Type}:AV->List Nat->AV->(AV->Option R)->Option R
 | _,[],b,k=>k b
 | .d t x,i::p,b,k=>match b with
  | .d _ y=>(x.set (i::p) y).bind λe=>k (.d t e)
  | _=>none
 | .st c l,i::p,b,k=>(l[i]?).bind λa=>DK a p b λa'=>k (.st c (l.set i a'))
 | _,_::_,_,_=>none
mutual
def lG:Ty->AV
 | .sl _=>.nils
 | .st ts=>if zp ts then .st ts (kH ts) else .d (.st ts) (aq (.st ts))
 | t=>.d t (aq t)
def kH:List Ty->List AV
 | []=>[]
 | t::l=>lG t::kH l
end
def gT{R:Type}:Ob->List Nat->(AV->Option R)->Option R
 | .one _ v,p,k=>zn v p k
 | .many t l,i::p,k=>(l[i]?).bind λx=>zn (.d t x) p k
 | _,_,_=>none
def fk:Ob->List Nat->Option Ty
 | .one t _,p=>aM t p
 | .many t _,_::p=>aM t p
 | .fv _,[]=>some .fn
 | _,_=>none
structure St where
 tm:Nat->AV
 ob:Nat->Option Ob
 fresh:Nat
 dead:List Nat
 nt:Nat
 lkS:List Nat
 lkO:List Nat
def St.put(s:St)(dst:Option Nat)(v:AV):St:=
 match dst with
 | some t=>if t<s.nt then{ s with tm:=λi=>if i=t then v else s.tm i } else s
 | none=>s
def St.base(s:St):Nat:=s.fresh*4096
def St.setOb(s:St)(id:Nat)(o:Option Ob):St:={ s with ob:=λi=>if i=id then o else s.ob i }
mutual
def abB(ob:Nat->Option Ob):Ty->AV->Option D
 | t,.d t' x=>if t.beq t' then some x else none
 | t,.own t' _ l=>if t.beq (.sl t') then some (.sl l) else none
 | t,.nils=>match t with
  | .sl _=>some (.sl [])
  | _=>none
 | t,.st ts' l=>if t.beq (.st ts') then(AV.toDl ob ts' l).bind λxs=>some (.st xs) else none
 | _,_=>none
def AV.toDl(ob:Nat->Option Ob):List Ty->List AV->Option (List D)
 | [],[]=>some []
 | t::ts,a::l=>(abB ob t a).bind λx=>(AV.toDl ob ts l).bind λxs=>some (x::xs)
 | _,_=>none
end
def AV.asList(ob:Nat->Option Ob)(t:Ty)(a:AV):Option (List D):=(abB ob (.sl t) a).bind D.asSl
def AV.truth:AV->Option Bool
 | .d t x=>if t.beq .bool then x.truth else none
 | _=>none
inductive Sh where
 | dv (t:Ty)
 | ow (t:Ty)
 | same (a:AV)
 | st (ts:List Ty) (l:List Sh)
inductive ShO where
 | one (t:Ty) (h:Sh)
 | many (t:Ty)
 | mp (kt vt:Ty)
 | keep (t:Ty) (wit:Nat)
 | lp (pend:Option Ex) (wit:Nat)
 | fv (a:AV)
structure Shape where
 slots:List (Nat×Sh)
 objs:List (Nat×ShO)
 keepS:List Nat
inductive Ann where
 | leaf
 | reg (fz:List Nat) (n:Nat)
 | regI (fz:List Nat) (n:Nat) (a:Ann)
 | two (a b:Ann)
 | cut (exits:List (Ex×Shape)) (keepS keepO:List Nat) (a b:Ann)
 | loop (h:Shape) (exits:List (Ex×Shape)) (a:Ann)
 | all (exits:List (Ex×Shape)) (keepS keepO:List Nat) (a:Ann)
def Ann.fz:Ann->List Nat|.reg fz _=>fz|.regI fz _ _=>fz|_=>[]
def Ann.heads(m:Nat):Ann->Nat|.reg _ n=>n|.regI _ n _=>n|_=>m
def Ann.inner:Ann->Ann|.regI _ _ a=>a|_=>.leaf
def Ann.fst:Ann->Ann|.two a _=>a|.cut _ _ _ a _=>a|.loop _ _ a=>a|_=>.leaf
def Ann.snd:Ann->Ann|.two _ b=>b|.cut _ _ _ _ b=>b|_=>.leaf
structure Env where
 L:Nat->Option Ty
 sig:Nat->Option (List Ty×Ty)
 call:Nat->List D->Option D
 mapL:Nat->Option (Ty×Ty)
 lp:{α β:Type}->(α->Option (Sum α β))->α->Option β
 inl:Nat->Option (Ann->(R:Type)->St->List AV->(AV->St->Option R)->Option R)
 cod:Code->Ann->(R:Type)->St->(Ex->St->Option R)->Option R
 free:Nat->Nat
 pv:Bool
 fnT:Nat->Bool
 ownF:Nat->Bool
def Env.alTy(E:Env)(T:Nat):Option Ty:=bif E.fnT T then some .fn else E.L T
def Env.alOb(E:Env)(T:Nat):Option Ob:=bif E.fnT T then some (.fv .undef) else(E.L T).map λt=>.one t (lG t)
def mA:AV->Bool
 | .clo ..=>true
 | .yld _=>true
 | .map ..=>true
 | _=>false
structure Inl where
 pv:Bool
 f:Nat->Option (Ann->(R:Type)->St->List AV->(AV->St->Option R)->Option R)
 cod:Code->Ann->(R:Type)->St->(Ex->St->Option R)->Option R
def Ip:Value->AV
 | .int k n=>.d (.int k) (.int k n)
 | .bool b=>.d .bool (.bool b)
 | .string s=>.d .str (.str s)
 | .slice none 0 0=>.nils
 | _=>.undef
def St.opA(s:St):Operand->AV
 | .tmp t=>s.tm t
 | .const v=>Ip v
 | .func f=>.clo f []
 | _=>.undef
def isD:AV->Option (Ty×D)
 | .d t x=>some (t,x)
 | _=>none
mutual
def bV:Ty->Bool
 | .int _=>true
 | .bool=>true
 | .st ts=>mQ ts
 | .arr _ t=>bV t
 | _=>false
def mQ:List Ty->Bool
 | []=>true
 | t::l=>bV t&&mQ l
end
def partsD(ob:Nat->Option Ob)(s:St)(ty:Nat->Option Ty):List (Nat×Operand)->Option (List (Nat×D))
 | []=>some []
 | (i,x)::r=>(ty i).bind λt=>(abB ob t (s.opA x)).bind λy=>(partsD ob s ty r).bind λa=>some ((i,y)::a)
def gr(s:St)(a:List Ty)(p:Nat×Operand):Bool:=match a[p.1]? with|some u=>AV.fits u (s.opA p.2)|none=>false
def ga:AV->Bool
 | .ptr ..=>true
 | _=>false
def nY:List AV->List (Nat×AV)->List AV
 | l,[]=>l
 | l,(i,x)::r=>nY (l.set i x) r
def abN:List D->D->Option D
 | [],_=>none
 | .st [k,v]::l,x=>if D.beq x k then some v else abN l x
 | _::l,x=>abN l x
def abO:List D->D->D->List D
 | [],x,y=>[.st [x,y]]
 | .st [k,v]::l,x,y=>if D.beq x k then .st [k,y]::l else .st [k,v]::abO l x y
 | e::l,x,y=>e::abO l x y
def dC:List Nat->Bool
 | []=>true
 | a::l=>!(l.contains a)&&dC l
def uC(l:List AV):List Nat:=l.map λx=>match x with|.ptr _ id _=>id|_=>0
def pK(ob:Nat->Option Ob):List Ty->List AV->Option (List D)
 | [],[]=>some []
 | t::a,.ptr _ id []::l=>match ob id with
  | some (.one u v)=>if t.beq u then(abB ob t v).bind λz=>(pK ob a l).bind λb=>some (z::b) else none
  | _=>none
 | _,_=>none
def wD:List AV->Bool
 | []=>true
 | .ptr _ _ []::l=>wD l
 | _::_=>false
def xG:Option Ob->Bool
 | some (.one _ _)=>true
 | some (.fv _)=>true
 | _=>false
def jO(ob:Nat->Option Ob):AV->AV
 | .d t x=>.d t x
 | .own t _ l=>.d (.sl t) (.sl l)
 | .fptr t x=>.fptr t x
 | .ptr t id []=>if xG (ob id) then .ptr t id [] else .undef
 | .clo f l=>if wD l&&l.all (λa=>match a with|.ptr _ id _=>xG (ob id)|_=>false) then .clo f l else .undef
 | .yld id=>.yld id
 | .map b vt id=>.map b vt id
 | _=>.undef
def lN(ob:Nat->Option Ob):AV->AV
 | .ptr _ id []=>match ob id with
  | some (.one t _)=>.ptr t id []
  | some (.fv _)=>.ptr .fn id []
  | _=>.undef
 | _=>.undef
def oC(ob:Nat->Option Ob):AV->AV
 | .d t x=>.d t x
 | .fptr t x=>.fptr t x
 | .ptr t id p=>lN ob (.ptr t id p)
 | .clo f l=>if(l.map (lN ob)).all ga then .clo f (l.map (lN ob)) else .undef
 | .yld id=>.yld id
 | .map c vt id=>match ob id with
  | some (.mp a b _)=>if c.beq a&&vt.beq b then .map c vt id else .undef
  | _=>.undef
 | _=>.undef
def qv{R:Type}(E:Env)(s:St)(o:Oper)(K:AV->Option R):Option R:=
 match o.op with
 | .move x=>K (s.opA x)
 | .assign x=>K (s.opA x)
 | .pick c a b=>(s.opA c).truth.bind λc=>if c then K (s.opA a) else K (s.opA b)
 | .alloc T=>(E.alTy T).bind λt=>o.dst.bind λd=>K (.ptr t (s.base+d) [])
 | .load T a=>bif E.fnT T then(match s.opA a with|.ptr .fn id []=>(match s.ob id with|some (.fv v)=>if mA (oC s.ob v) then K (oC s.ob v) else none|_=>none)|_=>none) else(E.L T).bind λt=>match s.opA a with
  | .ptr h id p=>if t.beq h then(s.ob id).bind λo=>gT o p K else none
  | .fptr h x=>if t.beq h then K (.d h x) else none
  | .sub sl e id p lo n=>if !sl&&t.beq (.arr n e) then(s.ob id).bind λo=>gT o p λv=>match v with
    | .d (.arr _ A) (.st l)=>if A.beq e&&decide (lo+n<=l.length) then K (.d (.arr n e) (.st ((l.drop lo).take n))) else none
    | _=>none
   else none
  | _=>none
 | .fieldAddr T x f=>(E.L T).bind λt=>match t,s.opA x with
  | .st j,.ptr h id p=>if h.beq (.st j) then(j[f]?).bind λu=>K (.ptr u id (p++[f])) else none
  | .st j,.fptr h y=>if h.beq (.st j) then(j[f]?).bind λu=>(y.fld f).bind λz=>K (.fptr u z) else none
  | _,_=>none
 | .indexAddr T x i=>(E.L T).bind λt=>(isD (s.opA i)).bind λq=>match t with
  | .arr n e=>match s.opA x with
   | .ptr h id p=>if h.beq (.arr n e) then(q.2.idx n).bind λk=>K (.ptr e id (p++[k])) else none
   | .fptr h y=>if h.beq (.arr n e) then(q.2.idx n).bind λk=>(y.fld k).bind λz=>K (.fptr e z) else none
   | _=>none
  | .sl e=>match s.opA x with
   | .mem h id=>if h.beq e then match s.ob id with
     | some (.many _ l)=>(q.2.idx l.length).bind λk=>K (.ptr e id [k])
     | _=>none
    else none
   | a=>(a.asList s.ob e).bind λl=>(q.2.idx l.length).bind λk=>(l[k]?).bind λy=>K (.fptr e y)
  | _=>none
 | .field T x f=>(E.L T).bind λt=>match t,s.opA x with
  | .st j,.d h y=>if h.beq (.st j) then(j[f]?).bind λu=>(y.fld f).bind λz=>K (.d u z) else none
  | _,_=>none
 | .index T x i=>(E.L T).bind λt=>(isD (s.opA i)).bind λq=>match t,s.opA x with
  | .arr n e,.d h y=>if h.beq (.arr n e) then(q.2.idx n).bind λk=>(y.fld k).bind λz=>K (.d e z) else none
  | .str,.d h y=>if h.beq .str then(abT y q.2).bind λz=>K (.d (.int .u8) z) else none
  | _,_=>none
 | .binOp op T x y _=>(E.L T).bind λt=>(isD (s.opA x)).bind λa=>(isD (s.opA y)).bind λb=>
  match op with
  | .eql=>if a.1.beq t&&b.1.beq t&&bV t then K (.d .bool (.bool (D.beq a.2 b.2))) else none
  | .neq=>if a.1.beq t&&b.1.beq t&&bV t then K (.d .bool (.bool (!(D.beq a.2 b.2)))) else none
  | .lss=>(abG .lss a.2 b.2).bind λz=>K (.d .bool z)
  | .leq=>(abG .leq a.2 b.2).bind λz=>K (.d .bool z)
  | .gtr=>(abG .gtr a.2 b.2).bind λz=>K (.d .bool z)
  | .geq=>(abG .geq a.2 b.2).bind λz=>K (.d .bool z)
  | op=>(abG op a.2 b.2).bind λz=>K (.d a.1 z)
 | .unOp op _ x=>(isD (s.opA x)).bind λa=>(abU op a.2).bind λz=>K (.d a.1 z)
 | .convert S T x=>(E.L S).bind λu=>(E.L T).bind λt=>(isD (s.opA x)).bind λa=>
  match t with
  | .int k=>if a.1.beq u then(D.conv k a.2).bind λz=>K (.d t z) else none
  | _=>none
 | .build T ps=>(E.L T).bind λt=>match t with
  | .st j=>if zp j then(if ps.toList.all (gr s j) then K (.st j (nY (kH j) (ps.toList.map λp=>(p.1,s.opA p.2)))) else none)
   else(partsD s.ob s (λi=>j[i]?) ps.toList).bind λl=>K (.d t (.st (abS (gD j) l)))
  | .arr n e=>(partsD s.ob s (λi=>if i<n then some e else none) ps.toList).bind λl=>K (.d t (.st (abS (List.replicate n (aq e)) l)))
  | _=>none
 | .buildSlice T n ps=>(E.L T).bind λt=>match t with
  | .sl e=>if n<=4096 then o.dst.bind λd=>(partsD s.ob s (λi=>if i<n then some e else none) ps.toList).bind λl=>K (.own e (s.base+d) (abS (List.replicate n (aq e)) l)) else none
  | _=>none
 | .extract x i=>match s.opA x with
  | .d (.tup j) y=>(j[i]?).bind λu=>(y.tupAt i).bind λz=>K (.d u z)
  | _=>none
 | .nilCheck x=>match s.opA x with
  | .ptr t id p=>K (.ptr t id p)
  | _=>none
 | .slice T x lo r H=>match H with
  | some _=>none
  | none=>(E.L T).bind λt=>match t with
   | .sl e=>((s.opA x).asList s.ob e).bind λl=>
    (match lo with|none=>some 0|some i=>(isD (s.opA i)).bind λa=>a.2.natOf).bind λlo=>
    (match r with|none=>some l.length|some i=>(isD (s.opA i)).bind λa=>a.2.natOf).bind λr=>
    (D.cut l lo r).bind λl'=>K (.d t (.sl l'))
   | .arr m e=>match s.opA x with
    | .ptr h id p=>if h.beq (.arr m e) then
     (match lo with|none=>some 0|some i=>(isD (s.opA i)).bind λa=>a.2.natOf).bind λlo=>
     (match r with|none=>some m|some i=>(isD (s.opA i)).bind λa=>a.2.natOf).bind λr=>
     if lo<=r/\r<=m/\lo<m then K (.sub true e id p lo (r-lo)) else none
     else none
    | _=>none
   | _=>none
 | .sliceToArrayPointer T x=>(E.L T).bind λt=>match t,s.opA x with
  | .arr n e,.sub sl A id p lo I=>if sl&&A.beq e&&decide (n<=I) then K (.sub false e id p lo n) else none
  | .arr n e,a=>(a.asList s.ob e).bind λl=>if decide (1<=n)&&decide (n<=l.length) then K (.fptr (.arr n e) (.st (l.take n))) else none
  | _,_=>none
 | .lookup T x i w=>(E.mapL T).bind λG=>match s.opA x with
  | .map B vt id=>if B.beq G.1&&vt.beq G.2 then match s.ob id with
    | some (.mp C F l)=>if C.beq B&&F.beq vt then(isD (s.opA i)).bind λq=>if q.1.beq B then
      match w with
      | false=>K (.d vt ((abN l q.2).getD (aq vt)))
      | true=>K (.d (.tup [vt,.bool]) (.tup [(abN l q.2).getD (aq vt),.bool (abN l q.2).isSome]))
      else none
     else none
    | _=>none
   else none
  | _=>none
 | .makeFunc fn first captured=>match fn with
  | .func f=>if first.size=0/\(captured.toList.all λx=>ga (s.opA x))=true then K (.clo f (captured.toList.map s.opA)) else none
  | _=>none
 | .call c=>match c.callee with
  | .builtin .len=>(c.argTypes[0]?).bind λT=>(E.L T).bind λt=>(c.args[0]?).bind λx=>match t with
   | .sl e=>match s.opA x with
    | .mem h id=>if h.beq e then match s.ob id with
      | some (.many _ l)=>K (.d (.int .i64) (.int .i64 l.length))
      | _=>none
     else none
    | a=>(a.asList s.ob e).bind λl=>K (.d (.int .i64) (.int .i64 l.length))
   | .arr n _=>K (.d (.int .i64) (.int .i64 n))
   | .str=>(isD (s.opA x)).bind λa=>if a.1.beq .str then(D.slen a.2).bind λz=>K (.d (.int .i64) z) else none
   | _=>none
  | .builtin .min=>match c.args.toList with
   | [x,y]=>(isD (s.opA x)).bind λa=>(isD (s.opA y)).bind λb=>if a.1.beq b.1 then(D.min2 a.2 b.2).bind λz=>K (.d a.1 z) else none
   | _=>none
  | .builtin .max=>match c.args.toList with
   | [x,y]=>(isD (s.opA x)).bind λa=>(isD (s.opA y)).bind λb=>if a.1.beq b.1 then(D.max2 a.2 b.2).bind λz=>K (.d a.1 z) else none
   | _=>none
  | .value (.func f)=>(E.sig f).bind λg=>bif Nat.beq (E.free f) 0 then(AV.toDl s.ob g.1 (c.args.toList.map s.opA)).bind λxs=>(E.call f xs).bind λy=>bif E.ownF f then(o.dst.bind λd=>y.asSl.bind λl=>match g.2 with|.sl t=>K (.own t (s.base+d) l)|_=>none) else K (.d g.2 y) else none
  | .value (.tmp t)=>match s.tm t with
   | .clo f l=>(E.sig f).bind λg=>bif Nat.beq (E.free f) l.length&&dC (uC l) then(AV.toDl s.ob (g.1.take (g.1.length-l.length)) (c.args.toList.map s.opA)).bind λxs=>(pK s.ob (g.1.drop (g.1.length-l.length)) l).bind λJ=>(E.call f (xs++J)).bind λy=>K (.d g.2 y) else none
   | _=>none
  | _=>none
 | _=>none
def tZ{R:Type}(E:Env)(s:St)(o:Oper)(K:St->Option R):Option R:=
 match o.op with
 | .store T a x=>bif E.fnT T then(match s.opA a with|.ptr .fn id []=>if mA (jO s.ob (s.opA x))&&!(s.lkO.contains id) then(match s.ob id with|some (.fv _)=>K (s.setOb id (some (.fv (jO s.ob (s.opA x)))))|_=>none) else none|_=>none) else(E.L T).bind λt=>match s.opA a with
  | .ptr I id p=>if t.beq I&&AV.fits t (s.opA x)&&!(s.lkO.contains id) then match s.ob id with
    | some (.one u v)=>DK v p (s.opA x) λv'=>K (s.setOb id (some (.one u v')))
    | some (.many u l)=>match p with
     | i::C=>(l[i]?).bind λz=>(abB s.ob t (s.opA x)).bind λy=>(D.set z C y).bind λM=>K (s.setOb id (some (.many u (l.set i M))))
     | []=>none
    | _=>none
   else none
  | _=>none
 | .makeMap T F=>match F with
  | some _=>none
  | none=>(E.mapL T).bind λb=>o.dst.bind λd=>K ((s.setOb (s.base+d) (some (.mp b.1 b.2 []))).put o.dst (.map b.1 b.2 (s.base+d)))
 | .mapUpdate T m k v=>if o.dst.isSome then none else(E.mapL T).bind λb=>match s.opA m with
  | .map h vt id=>if h.beq b.1&&vt.beq b.2&&!(s.lkO.contains id) then match s.ob id with
    | some (.mp w G l)=>if w.beq h&&G.beq vt then(abB s.ob h (s.opA k)).bind λH=>(abB s.ob vt (s.opA v)).bind λJ=>K (s.setOb id (some (.mp h vt (abO l H J)))) else none
    | _=>none
   else none
  | _=>none
 | .box T x=>bif E.fnT T then(o.dst.bind λd=>if mA (jO s.ob (s.opA x)) then K ((s.setOb (s.base+d) (some (.fv (jO s.ob (s.opA x))))).put o.dst (.ptr .fn (s.base+d) [])) else none) else(E.L T).bind λt=>o.dst.bind λd=>if AV.fits t (s.opA x) then K ((s.setOb (s.base+d) (some (.one t (s.opA x)))).put o.dst (.ptr t (s.base+d) [])) else none
 | .makeSlice T l c=>(E.L T).bind λt=>o.dst.bind λd=>match t,l,c with
  | .sl e,.tmp i,.tmp j=>if i=j then(isD (s.tm i)).bind λa=>(a.2.natOf).bind λn=>if n<=1073741824 then K ((s.setOb (s.base+d) (some (.many e (List.replicate n (aq e))))).put o.dst (.mem e (s.base+d))) else none else none
  | _,_,_=>none
 | .call c=>match c.callee with
  | .builtin .append=>(c.argTypes[0]?).bind λT=>(E.L T).bind λt=>o.dst.bind λd=>match t,c.args.toList,c.argTypes.toList with
   | .sl e,[x,y],[_,T']=>match E.L T' with
    | some (.sl _)=>((s.opA y).asList s.ob e).bind λl'=>match s.opA x with
     | .own q v l=>if q.beq e&&!(s.dead.contains v) then(if l.length+l'.length<=1073741824 then K ({ s with dead:=v::s.dead }.put o.dst (.own e (s.base+d) (l++l'))) else none) else none
     | .nils=>if l'.length<=1073741824 then K (s.put o.dst (.own e (s.base+d) l')) else none
     | _=>none
    | _=>none
   | _,_,_=>none
  | .builtin .copy=>match c.args.toList,c.argTypes.toList with
   | [x,y],[T,_]=>match E.L T with
    | some (.sl (.int k))=>match s.opA x,s.opA y with
     | .sub true e id [] lo n,.sub true q r C A B=>match s.ob id,s.ob r with
      | some (.one (.arr m f) (.d g x)),some o'=>gT o' C λv=>match v with
       | .d (.arr O N) y=>
       if e.beq (.int k)&&q.beq (.int k)&&f.beq (.int k)&&g.beq (.arr m f)&&!(s.lkO.contains id) then
        x.stl.bind λl=>y.stl.bind λl'=>K ((s.setOb id (some (.one (.arr m f) (.d g (.st (l.take lo++((l'.drop A).take (min B n)++l.drop (lo+min B n)))))))).put o.dst (.d (.int .i64) (.int .i64 (min B n:Nat))))
       else none
       | _=>none
      | _,_=>none
     | _,_=>none
    | _=>none
   | _,_=>none
  | _=>qv E s o λv=>K (s.put o.dst v)
 | _=>qv E s o λv=>K (s.put o.dst v)
def qd(s:St)(o:Oper):Bool:=match o.dst with|some d=>s.lkS.contains d|none=>false
def Pr{R:Type}(E:Env)(s:St)(o:Oper)(K:St->Option R):Option R:=if qd s o then none else tZ E s o K
def lg(E:Env):List Oper->St->St
 | [],s=>s
 | o::l,s=>lg E l (match o.op,o.dst with
  | .alloc T,some d=>match E.alOb T with
   | some x=>s.setOb (s.base+d) (some x)
   | none=>s
  | _,_=>s)
def killD(s:St):List Oper->St
 | []=>s
 | o::l=>killD (s.put o.dst .undef) l
def xF(i:Nat)(o:Oper):Bool:=match o.guard with|some (j,_)=>decide (j=i)|none=>false
def p8(d:Option Nat)(o:Oper):Bool:=match o.op,d with|.pick (.tmp c) _ _,some d=>decide (c=d)|_,_=>false
def dD(d:Option Nat):List (Nat×Oper)->List (Nat×Oper)×List (Nat×Oper)
 | []=>([],[])
 | p::l=>if p8 d p.2 then([],p::l) else let r:=dD d l;(p::r.1,r.2)
def gB(o:Oper):Bool:=match o.op with
 | .store ..|.box ..|.makeSlice ..|.makeMap ..|.mapUpdate ..|.alloc _=>false
 | .call c=>match c.callee with|.builtin .append=>false|.builtin .copy=>false|_=>true
 | _=>true
def za(o:Oper):Bool:=match o.op with
 | .alloc _=>true|.box ..=>true|.makeSlice ..=>true|.makeMap ..=>true|.buildSlice ..=>true
 | .call c=>match c.callee with|.builtin .append=>true|.value (.func _)=>true|_=>false
 | _=>false
def mW(E:Env)(o:Oper):Bool:=match o.op with
 | .call c=>match c.callee with|.value (.func f)=>(E.inl f).isSome|.value (.tmp _)=>!E.pv|_=>false
 | _=>false
def rN(s:St)(c:Call):Option (Nat×List AV):=match c.callee with
 | .value (.func f)=>some (f,c.args.toList.map s.opA)
 | .value (.tmp t)=>match s.tm t with|.clo f l=>if l.all ga then some (f,c.args.toList.map s.opA++l) else none|_=>none
 | _=>none
def sA(i:Nat)(l:List (Nat×Oper)):Bool:=match l with|p::_=>xF i p.2|[]=>false
def zq{α:Type}(x:AV)(A B:Option α):Option α:=match x with|.gone=>A|_=>B
theorem iC{α:Type}{A B:Option α}:zq .gone A B=A:=rfl
def gP{α:Type}{x:AV}{A B:Option α}(h:x≠.gone):zq x A B=B:=by cases x<;>first|rfl|exact z3a rfl h
def fm(s:St):List Nat:=(List.range s.nt).filterMap λt=>match s.tm t with|.own _ v _=>if s.dead.contains v then none else some v|_=>none
def w6(s:St)(a:List Nat):List Nat:=(fm s).filter λv=>!(a.contains v)
def Dc(s:St)(a:List AV):Ty->List Nat
 | .sl t=>a.filterMap λx=>match x with|.own b v _=>if b.beq t&&!(s.dead.contains v) then some v else none|_=>none
 | _=>[]
def lY:Option Ob->Option Ob->Bool
 | some (.one t _),some (.one b _)=>t.beq b
 | some (.many t _),some (.many b _)=>t.beq b
 | some (.mp d vt _),some (.mp a c _)=>d.beq a&&vt.beq c
 | some (.fv _),some (.fv _)=>true
 | _,none=>true
 | _,_=>false
def Jz(ob a:Nat->Option Ob):AV->Bool
 | .ptr _ id _=>lY (ob id) (a id)
 | _=>false
def sf(s sc:St)(n:Nat)(c a:List Nat):AV->AV
 | .d t x=>.d t x
 | .own t v l=>if s.dead.contains v||a.contains v then .d (.sl t) (.sl l) else .own t (n+c.idxOf v) l
 | .nils=>.nils
 | .ptr t id p=>if lY (s.ob id) (sc.ob id) then .ptr t id p else .undef
 | .fptr t x=>.fptr t x
 | .clo f l=>if l.all (Jz s.ob sc.ob) then .clo f l else .undef
 | .map b vt id=>if lY (s.ob id) (sc.ob id) then .map b vt id else .undef
 | .yld id=>.yld id
 | _=>.undef
def M5(s:St)(nt:Nat)(a:List AV)(b:List Nat):St:={ tm:=λi=>a.getD i .undef,ob:=s.ob,fresh:=s.fresh+1,dead:=w6 s b++s.dead,nt:=nt,lkS:=[],lkO:=s.lkO }
def oM(s sc:St)(a:List Nat):St:={ tm:=λi=>if i<s.nt then sf s sc ((sc.fresh+1)*4096) (w6 s a) a (s.tm i) else .undef,ob:=sc.ob,fresh:=sc.fresh+1,dead:=sc.dead,nt:=s.nt,lkS:=s.lkS,lkO:=s.lkO }
def mf:List (Nat×AV)->(Nat->AV)->Nat->AV
 | [],f=>f
 | (p,a)::l,f=>mf l λt=>if t=p then a else f t
def EM(s:St)(i:LpI)(id:Nat)(a:List AV):St:=
 { tm:=mf (i.ps.zip a) λt=>if t<i.nt then oC s.ob (i.caps t) else .undef,ob:=s.ob,fresh:=s.fresh+1,dead:=fm s++s.dead,nt:=i.nt,lkS:=[],lkO:=id::s.lkO }
def Qm(s:St)(c:Call):Option (Nat×LpI×List AV):=match c.callee with
 | .value (.tmp t)=>match s.tm t with
  | .yld id=>match s.ob id with
   | some (.lp i none)=>some (id,i,c.args.toList.map s.opA)
   | _=>none
  | _=>none
 | _=>none
def leaveY(s:St)(id:Nat)(i:LpI)(p:Option Ex):St:={ s with tm:=λ_=>.undef,ob:=λj=>if j=id then some (.lp i p) else s.ob j }
def Xs{R:Type}(E:Env)(an:Ann)(s:St)(id:Nat)(i:LpI)(a:List AV)(K:AV->St->Option R):Option R:=
 if a.length=i.ps.length/\(i.ps.all λp=>decide (p<i.nt))=true/\(fm s).length<=4096 then
  E.cod i.asg an.fst R (EM s i id a) λe s1=>match e with
   | .normal=>match s1.ob id with
    | some (.lp _ none)=>E.cod i.bdy an.snd R (s1.setOb id none) λe s2=>match e with
     | .normal=>K (.d .bool (.bool true)) (oM s (leaveY s2 id i none) [])
     | e=>K (.d .bool (.bool false)) (oM s (leaveY s2 id i (some e)) [])
    | _=>none
   | _=>none
 else none
def Xr{R:Type}(E:Env)(f:Operand)(ps:Array Tmp)(asg bdy:Code)(an:Ann)(s:St)(k:Ex->St->Option R):Option R:=
 match f with
 | .tmp t=>match s.tm t with
  | .clo g l=>if l.all ga&&!(s.lkO.contains 4095) then(E.inl g).bind λG=>
    G an R ({ s with fresh:=s.fresh+1 }.setOb ((s.fresh+1)*4096) (some (.lp { nt:=s.nt,ps:=ps.toList,asg:=asg,bdy:=bdy,caps:=λj=>jO s.ob (s.tm j) } none))) (.yld ((s.fresh+1)*4096)::l) λ_ s2=>
     match s2.ob ((s.fresh+1)*4096) with
     | some (.lp _ none)=>k .normal (s2.setOb ((s.fresh+1)*4096) none)
     | some (.lp _ (some e))=>k e (s2.setOb ((s.fresh+1)*4096) none)
     | _=>none
   else none
  | _=>none
 | _=>none
def Tp{R:Type}(E:Env)(an:Ann)(s:St)(o:Oper)(K:AV->St->Option R):Option R:=match o.op with
 | .call c=>match Qm s c with
  | some q=>Xs E an s q.1 q.2.1 q.2.2 K
  | none=>(rN s c).bind λq=>(E.inl q.1).bind λg=>g an R s q.2 K
 | _=>none
def BY(E:Env)(o:Oper)(an:Ann):Ann:=if mW E o then an.snd else an
def zQ(o:Oper):Bool:=match o.op with|.alloc _=>false|_=>true
def CS(s:St):St:={ s with fresh:=s.fresh+1 }
def IC{R:Type}(E:Env)(an:Ann)(l:List (Nat×Oper))(s:St)(o:Oper)(K:St->Option R):Option R:=
 if mW E o then(if l.all λp=>!(za p.2) then Tp E an.fst s o λv s'=>K (s'.put o.dst v) else if l.all λp=>zQ p.2 then Tp E an.fst s o λv s'=>K (CS (s'.put o.dst v)) else none) else tZ E s o K
def tu(E:Env)(s:St)(i:Nat)(o:Oper)(l:List (Nat×Oper)):Bool:=
 sA i l&&(match (dD o.dst l).2,o.dst with
  | (_,a)::_,some d=>decide (d<s.nt)&&a.guard.isNone&&gB o&&!(mW E o)&&(dD o.dst l).1.all (λ(p:Nat×Oper)=>(gB p.2&&!(qd s p.2)&&!(mW E p.2)))&&!(qd s a)
  | _,_=>false)
def jB(E:Env):Nat->(R:Type)->(ops:Array Oper)->Ann->List (Nat×Oper)->St->(St->Option R)->Option R
 | 0,_,_,_,_,_,_=>none
 | _+1,_,_,_,[],s,k=>k s
 | n+1,R,ops,an,(i,o)::l,s,k=>
  match o.guard with
  | some (j,want)=>match (ops[j]?).bind (·.dst) with
   | some g=>if qd s o then none else zq (s.tm g) (jB E n R ops (BY E o an) l (s.put o.dst .gone) k)
    ((s.tm g).truth.bind λc=>
    if c then(if want then IC E an l (s.put (some g) (.d .bool (.bool true))) o λs'=>jB E n R ops (BY E o an) l s' k else jB E n R ops (BY E o an) l ((s.put (some g) (.d .bool (.bool true))).put o.dst .gone) k)
    else(if want then jB E n R ops (BY E o an) l ((s.put (some g) (.d .bool (.bool false))).put o.dst .gone) k else IC E an l (s.put (some g) (.d .bool (.bool false))) o λs'=>jB E n R ops (BY E o an) l s' k))
   | none=>none
  | none=>
   if tu E s i o l then
    let sp:=dD o.dst l
    match sp.2,o.dst with
    | (_,a)::l',some d=>
      Pr E s o λs1=>(s1.tm d).truth.bind λc=>
      (if c then jB E n Bool ops .leaf sp.1 (s1.put (some d) (.d .bool (.bool true))) λs2=>qv E s2 a AV.truth
       else jB E n Bool ops .leaf sp.1 (s1.put (some d) (.d .bool (.bool false))) λs2=>qv E s2 a AV.truth).bind λx=>
      jB E n R ops an l' ((killD s1 (sp.1.map Prod.snd)).put a.dst (.d .bool (.bool x))) k
    | _,_=>none
   else if qd s o then none else IC E an l s o λs'=>jB E n R ops (BY E o an) l s' k
def bK:Nat->List Oper->List (Nat×Oper)
 | _,[]=>[]
 | i,o::l=>(i,o)::bK (i+1) l
def gN(s:St):List Nat->St
 | []=>s
 | t::l=>gN (match s.tm t with
  | .mem a id=>match s.ob id with
   | some (.many u l)=>if a.beq u&&!(s.lkO.contains id) then{ s.setOb id none with tm:=λi=>if i=t then .d (.sl u) (.sl l) else s.tm i } else s
   | _=>s
  | _=>s) l
def cw:List (Nat×ShO)->List Nat
 | []=>[]
 | (id,.keep ..)::l=>id::cw l
 | (id,.lp ..)::l=>id::cw l
 | _::l=>cw l
mutual
def AV.same:AV->AV->Bool
 | .ptr t id p,.ptr t' id' p'=>t.beq t'&&decide (id=id')&&decide (p=p')
 | .mem t id,.mem t' id'=>t.beq t'&&decide (id=id')
 | .map kt vt id,.map kt' vt' id'=>kt.beq kt'&&vt.beq vt'&&decide (id=id')
 | .clo f l,.clo f' l'=>decide (f=f')&&abA l l'
 | .yld id,.yld id'=>decide (id=id')
 | _,_=>false
def abA:List AV->List AV->Bool
 | [],[]=>true
 | a::l,a'::l'=>AV.same a a'&&abA l l'
 | _,_=>false
end
def D.els:D->List D|.sl l=>l|_=>[]
mutual
def Sh.mk(b:Nat):Sh->Nat->List D->AV×Nat
 | .dv t,j,s=>(.d t (s.getD j (.bool false)),j+1)
 | .ow t,j,s=>(.own t (b+j) (s.getD j (.bool false)).els,j+1)
 | .same a,j,_=>(a,j)
 | .st ts l,j,s=>let r:=ab4 b l j s;(.st ts r.1,r.2)
def ab4(b:Nat):List Sh->Nat->List D->List AV×Nat
 | [],j,_=>([],j)
 | h::l,j,s=>let r:=Sh.mk b h j s;let q:=ab4 b l r.2 s;(r.1::q.1,q.2)
end
mutual
def Sh.dec(ob:Nat->Option Ob)(dead:List Nat):Sh->AV->Option (List D)
 | .dv t,a=>(abB ob t a).bind λx=>some [x]
 | .ow t,.own t' v l=>if t.beq t'&&!(dead.contains v) then some [.sl l] else none
 | .ow _,.nils=>some [.sl []]
 | .same a,a'=>if AV.same a a' then some [] else none
 | .st ts l,.st ts' l'=>if Ty.beqs ts ts' then ab2 ob dead l l' else none
 | _,_=>none
def ab2(ob:Nat->Option Ob)(dead:List Nat):List Sh->List AV->Option (List D)
 | [],[]=>some []
 | h::l,a::l'=>(Sh.dec ob dead h a).bind λx=>(ab2 ob dead l l').bind λy=>some (x++y)
 | _,_=>none
end
def AV.still:AV->AV
 | .d t x=>.d t x
 | .own t _ l=>.d (.sl t) (.sl l)
 | .fptr t x=>.fptr t x
 | _=>.undef
def Ob.still(t:Ty):Option Ob->Option Ob
 | some (.one a (.d u x))=>if t.beq a then some (.one a (.d u x)) else none
 | _=>none
def ab0(p:Option Ex):Option Ob->Option Ob
 | some (.lp i _)=>some (.lp i p)
 | _=>none
mutual
def ab7:Sh->AV->List Nat
 | .ow _,.own _ v _=>[v]
 | .st _ l,.st _ l'=>ab8 l l'
 | _,_=>[]
def ab8:List Sh->List AV->List Nat
 | h::l,a::l'=>ab7 h a++ab8 l l'
 | _,_=>[]
end
def ace(b:Nat):List (Nat×Sh)->Nat->List D->(Nat->AV)->(Nat->AV)×Nat
 | [],j,_,f=>(f,j)
 | (t,h)::l,j,s,f=>let r:=Sh.mk b h j s;ace b l r.2 s (λi=>if i=t then r.1 else f i)
def acd(b:Nat)(base:Nat->Option Ob):List (Nat×ShO)->Nat->List D->(Nat->Option Ob)->(Nat->Option Ob)
 | [],_,_,f=>f
 | (id,.one t h)::l,j,s,f=>let r:=Sh.mk b h j s;acd b base l r.2 s (λi=>if i=id then some (.one t r.1) else f i)
 | (id,.many t)::l,j,s,f=>acd b base l (j+1) s (λi=>if i=id then some (.many t (s.getD j (.bool false)).els) else f i)
 | (id,.mp c vt)::l,j,s,f=>acd b base l (j+1) s (λi=>if i=id then some (.mp c vt (s.getD j (.bool false)).els) else f i)
 | (id,.keep t _)::l,j,s,f=>acd b base l j s (λi=>if i=id then Ob.still t (base id) else f i)
 | (id,.lp p _)::l,j,s,f=>acd b base l j s (λi=>if i=id then ab0 p (base id) else f i)
 | (id,.fv a)::l,j,s,f=>acd b base l j s (λi=>if i=id then some (.fv a) else f i)
def Shape.mk'(h:Shape)(base:St)(s:List D)(lkS lkO:List Nat):St:=
 let b:=(base.fresh+1)*4096
 let r:=ace b h.slots 0 s (λi=>if h.keepS.contains i then(base.tm i).still else .undef)
 { tm:=r.1,ob:=acd b base.ob h.objs r.2 s (λ_=>none),fresh:=base.fresh+1,dead:=[],nt:=base.nt,lkS,lkO }
def acc(s:St):List (Nat×Sh)->Option (List D)
 | []=>some []
 | (t,h)::l=>(Sh.dec s.ob s.dead h (s.tm t)).bind λx=>(acc s l).bind λy=>some (x++y)
def acb(s:St):List (Nat×ShO)->Option (List D)
 | []=>some []
 | (id,.one t h)::l=>match s.ob id with
  | some (.one b v)=>if t.beq b then(Sh.dec s.ob s.dead h v).bind λx=>(acb s l).bind λy=>some (x++y) else none
  | _=>none
 | (id,.many t)::l=>match s.ob id with
  | some (.many b v)=>if t.beq b then(acb s l).bind λy=>some (.sl v::y) else none
  | _=>none
 | (id,.mp e vt)::l=>match s.ob id with
  | some (.mp c d v)=>if e.beq c&&vt.beq d then(acb s l).bind λy=>some (.sl v::y) else none
  | _=>none
 | (id,.keep t _)::l=>match s.ob id with
  | some (.one b _)=>if t.beq b then acb s l else none
  | _=>none
 | (id,.lp p _)::l=>match s.ob id with
  | some (.lp _ f)=>if Dv p f then acb s l else none
  | _=>none
 | (id,.fv a)::l=>match s.ob id with
  | some (.fv v)=>if AV.same a v then acb s l else none
  | _=>none
def acg(s:St):List (Nat×Sh)->List Nat
 | []=>[]
 | (t,h)::l=>ab7 h (s.tm t)++acg s l
def acf(s:St):List (Nat×ShO)->List Nat
 | []=>[]
 | (id,.one _ h)::l=>(match s.ob id with|some (.one _ v)=>ab7 h v|_=>[])++acf s l
 | _::l=>acf s l
mutual
def AV.old(n:Nat):AV->Bool
 | .ptr _ id _=>decide (id<n)
 | .mem _ id=>decide (id<n)
 | .map _ _ id=>decide (id<n)
 | .clo _ l=>abz n l
 | .yld id=>decide (id<n)
 | _=>false
def abz(n:Nat):List AV->Bool
 | []=>true
 | a::l=>AV.old n a&&abz n l
end
mutual
def Sh.cnt:Sh->Nat
 | .dv _=>1
 | .ow _=>1
 | .same _=>0
 | .st _ l=>ab1 l
def ab1:List Sh->Nat
 | []=>0
 | h::l=>Sh.cnt h+ab1 l
end
mutual
def Sh.fits:Ty->Sh->Bool
 | t,.dv t'=>t.beq t'
 | t,.ow e=>t.beq (.sl e)
 | _,.same _=>false
 | t,.st ts l=>t.beq (.st ts)&&Sh.fitss ts l
def Sh.fitss:List Ty->List Sh->Bool
 | [],[]=>true
 | t::ts,h::l=>Sh.fits t h&&Sh.fitss ts l
 | _,_=>false
end
mutual
def Sh.fine(n:Nat):Sh->Bool
 | .dv t=>am t
 | .ow t=>am t
 | .same a=>AV.old n a
 | .st ts l=>bq ts&&Sh.fitss ts l&&ab3 n l
def ab3(n:Nat):List Sh->Bool
 | []=>true
 | h::l=>Sh.fine n h&&ab3 n l
end
def ShO.cnt:ShO->Nat
 | .one _ h=>h.cnt
 | .many _=>1
 | .mp ..=>1
 | .keep ..=>0
 | .lp ..=>0
 | .fv _=>0
def ShO.fine(n:Nat)(base:St)(id:Nat):ShO->Bool
 | .one t h=>Sh.fine n h&&Sh.fits t h
 | .many _=>true
 | .mp ..=>true
 | .keep _ c=>match base.tm c with|.ptr _ b _=>decide (id=b)&&decide (c<base.nt)|_=>false
 | .fv a=>AV.old n a&&mA a
 | .lp _ c=>(match base.tm c with|.yld b=>decide (id=b)|.ptr _ v []=>(match base.ob v with|some (.fv (.yld b))=>decide (id=b)|_=>false)|_=>false)&&decide (c<base.nt)
def aca:List (Nat×Sh)->Nat
 | []=>0
 | p::l=>p.2.cnt+aca l
def ab9:List (Nat×ShO)->Nat
 | []=>0
 | p::l=>p.2.cnt+ab9 l
def Shape.good(h:Shape)(base:St):Bool:=
 dC (h.slots.map (·.1))&&dC (h.objs.map (·.1))&&(h.objs.all λp=>decide (p.1<(base.fresh+1)*4096)&&ShO.fine ((base.fresh+1)*4096) base p.1 p.2)&&h.slots.all (λp=>decide (p.1<base.nt)&&Sh.fine ((base.fresh+1)*4096) p.2)&&decide (aca h.slots+ab9 h.objs<=4096)
def Shape.dec(h:Shape)(base s:St):Option (List D):=
 if h.good base&&dC (acg s h.slots++acf s h.objs) then(acc s h.slots).bind λx=>(acb s h.objs).bind λy=>some (x++y) else none
def p9{α β:Type}(body:α->Option (Sum α β))(n:Nat):α->Option β:=
 Nat.rec (motive:=λ_=>α->Option β) (λ_=>none) (λ_ ih a=>match body a with
  | none=>none
  | some (.inl a')=>ih a'
  | some (.inr b)=>some b) n
def rR{α β:Type}(body:α->Option (Sum α β))(a:α):p9 body 0 a=none:=rfl
theorem kR{α β:Type}(body:α->Option (Sum α β))(n:Nat)(a:α):p9 body (n+1) a=match body a with
  | none=>none
  | some (.inl a')=>p9 body n a'
  | some (.inr b)=>some b:=rfl
theorem rQ{α β:Type}{body:α->Option (Sum α β)}:∀ {n:Nat} {a:α} {b:β} (m:Nat),p9 body n a=some b->p9 body (n+m) a=some b
 | 0,_,_,_,h=>by simp[rR] at h
 | n+1,a,b,m,h=>by
  rw[show n+1+m=(n+m)+1 by omega]
  simp only[kR] at h ⊢;cases hb:body a with
  | none=>rw[hb] at h;simp at h
  | some x=>cases x with
   | inl a'=>rw[hb] at h;exact rQ m h
   | inr c=>rw[hb] at h;exact h
open Classical in
def mX{α β:Type}(body:α->Option (Sum α β))(a:α):Option β:=
 if h:∃ n b,p9 body n a=some b then some (Classical.choose (Classical.choose_spec h)) else none
def oY{α β:Type}{body:α->Option (Sum α β)}{a:α}{b:β}(h:mX body a=some b):∃ n,p9 body n a=some b:=by
 unfold mX at h;split at h
 ·grind
 ·cases h
theorem kA{α β:Type}{body:α->Option (Sum α β)}{a:α}{b:β}{n:Nat}(h:p9 body n a=some b):mX body a=some b:=by have c:∃ n b,p9 body n a=some b:=⟨n,b,h⟩;unfold mX;rw[dif_pos c];have h2:=Classical.choose_spec (Classical.choose_spec c);have h3:=rQ (Classical.choose c) h;have d:=rQ n h2;grind
def dR{α β:Type}{body:α->Option (Sum α β)}{a a':α}(h:body a=some (.inl a')):mX body a=mX body a':=by
 cases h2:mX body a' with
 | some b=> obtain⟨n,hn⟩:=oY h2;exact kA (n:=n+1) (by simp only[kR,h];exact hn)
 | none=>
  cases h3:mX body a with
  | none=>rfl
  | some b=>
   obtain⟨n,hn⟩:=oY h3;cases n with
   | zero=>simp[rR] at hn
   | succ n=> grind [kR,kA]
def ew{α β:Type}{body:α->Option (Sum α β)}{a:α}{b:β}(h:body a=some (.inr b)):mX body a=some b:=
 kA (n:=1) (by simp only[kR,h])
def uW(e:Ex):List (Ex×Shape)->Nat->Option (Nat×Shape)
 | [],_=>none
 | (a,h)::l,j=>if e.is a then some (j,h) else uW e l (j+1)
def subset(l l':List Nat):Bool:=l.all λx=>l'.contains x
def mR{R:Type}(base:St)(k:Ex->St->Option R)(keepS a:List Nat):List (Ex×Shape)->Nat->Nat×List D->Option R
 | [],_,_=>none
 | [(e,h)],_,r=>if subset h.keepS keepS&&subset (cw h.objs) a then k e (h.mk' base r.2 base.lkS base.lkO) else none
 | (e,h)::l,j,r=>if subset h.keepS keepS&&subset (cw h.objs) a then(if r.1=j then k e (h.mk' base r.2 base.lkS base.lkO) else mR base k keepS a l (j+1) r) else none
def DU(base:St)(a:List (Ex×Shape))(e:Ex)(s:St):Option (Nat×List D):=(uW e a 0).bind λq=>(q.2.dec base s).bind λv=>some (q.1,v)
def dZ(ops:List Oper):Bool:=dC (ops.filterMap (·.dst))&&(ops.all λo=>match o.dst with|some d=>decide (d<4096)|none=>true)&&ops.all λo=>match o.op with|.store ..=>o.dst.isNone|_=>true
def rG(E:Env)(ops:Array Oper)(n:Nat):Bool:=
 ((ops.toList.take n).all λo=>!(mW E o))&&Region.noSelect ops&&Region.lexHead .any ops (ops.size-n) n 0 (Array.replicate ops.size false)&&(decide (n=ops.size)||(decide (n<ops.size)&&Region.sinkB .any ops n&&Region.chainB .any ops n)) &&
 ((ops.toList.take n).all λo=>gB o||(match o.op with|.alloc _=>true|_=>false))&&(ops.toList.drop n).all λo=>o.guard.isNone&&(match o.op with|.pick ..=>false|_=>true)
def ve(o:Oper):Bool:=match o.op with|.fieldAddr ..=>true|.load ..=>true|.build ..=>true|.alloc _=>true|.extract ..=>true|.move _=>true|_=>false
def vg{R:Type}(E:Env)(ops:Array Oper)(n id i:Nat)(s:St)(K:AV->Option R):Option R:=
 match ops[i]? with
 | none=>none
 | some o=>if qd s o then none else if Region.waitsFor .any ops n i then qv E s o K else if ve o then qv E (s.setOb id none) o K else none
def Pu{R:Type}(E:Env)(ops:Array Oper)(n id:Nat):Nat->Nat->St->(St->Option R)->Option R
 | 0,_,s,K=>K s
 | c+1,k,s,K=>vg E ops n id k s λv=>Pu E ops n id c (k+1) (s.put ((ops[k]?).bind (·.dst)) v) K
def vf(ops:Array Oper)(n:Nat):Bool:=
 match ops[n]? with
 | some o=>match o.op with
  | .store _ (.tmp p) (.tmp x)=>((List.range ops.size).all λj=>match (ops[j]?).bind (·.dst) with|some d=>!(decide (d=p)||decide (d=x))||Region.waitsFor .any ops n j|none=>true) &&
    ((ops.toList.take n).all λo=>(gB o||(match o.op with|.alloc _=>true|_=>false))&&o.guard.isNone)&&((ops.toList.drop n).all λo=>o.guard.isNone&&(match o.op with|.pick ..=>false|_=>true)) &&
    Region.noSelect ops&&Region.lexHead .any ops (ops.size-(n+1)) (n+1) 0 (Array.replicate ops.size false)&&(decide (n+1=ops.size)||(decide (n+1<ops.size)&&Region.sinkB .any ops (n+1)&&Region.chainB .any ops (n+1)))
  | _=>false
 | none=>false
def lX(ops:Array Oper)(n:Nat)(s:St):Nat:=match ops[n]? with
 | some o=>match o.op with
  | .store _ (.tmp p) _=>if ops.toList.any (λq=>match q.op,q.dst with|.alloc _,some d=>decide (d=p)|_,_=>false) then s.base+p else match s.tm p with
   | .ptr _ id _=>id
   | _=>0
  | _=>0
 | none=>0
def vc(ops:Array Oper)(n:Nat)(s:St):Option Nat:=match ops[n]? with
 | some o=>match o.op with
  | .store _ (.tmp p) _=>match s.tm p with
   | .ptr t id []=>if t.beq .fn then none else some id
   | _=>none
  | _=>none
 | none=>none
def MA(E:Env)(o:Oper):Bool:=(gB o||(match o.op with|.alloc _=>true|_=>false))&&!(mW E o)
def ev(E:Env):Code->Ann->(R:Type)->St->(Ex->St->Option R)->Option R
 | .skip,_,_,s,k=>k .normal s
 | .label _,_,_,s,k=>k .normal s
 | .exit id,_,_,s,k=>k (.exit id) s
 | .ret,_,_,s,k=>k .ret s
 | .region _ ops dr,a,R,s,k=>
  let s1:=lg E ops.toList { gN s a.fz with fresh:=s.fresh+1 }
  if dZ ops.toList&&(!dr||rG E ops (a.heads ops.size)) then jB E (ops.size+1) R ops a.inner (bK 0 ops.toList) s1 (λs'=>k .normal s')
  else if dZ ops.toList&&vf ops (a.heads ops.size) then Pu E ops (a.heads ops.size) (lX ops (a.heads ops.size) s1) (a.heads ops.size) 0 s1 λs2=>if vc ops (a.heads ops.size) s2=some (lX ops (a.heads ops.size) s1) then jB E (ops.size+1) R ops a.inner ((bK 0 ops.toList).drop (a.heads ops.size)) s2 (λs'=>k .normal s') else none
  else none
 | .seq c d,.cut g l i a b,R,s,k=>
  (ev E c a (Nat×List D) { s with lkS:=l++s.lkS,lkO:=i++s.lkO } (DU s g)).bind λr=> mR s (λe s'=>match e with|.normal=>ev E d b R s' k|e=>k e s') l i g 0 r
 | .seq c d,a,R,s,k=>ev E c a.fst R s λe s'=>match e with
  | .normal=>ev E d a.snd R s' k
  | e=>k e s'
 | .cond c x y,a,R,s,k=>(s.opA c).truth.bind λt=>if t then ev E x a.fst R s k else ev E y a.snd R s k
 | .block id c,a,R,s,k=>ev E c a.fst R s λe s'=>match e with
  | .exit j=>if j=id then k .normal s' else k (.exit j) s'
  | e=>k e s'
 | .scope c,a,R,s,k=>ev E c a R s k
 | .rangeFunc f ps asg bdy,a,_,s,k=>Xr E f ps asg bdy a s k
 | .loop c,.loop h g a,R,s,k=>
  (h.dec s s).bind λv0=>(E.lp (λv=>ev E c a (Sum (List D) (Nat×List D)) (h.mk' s v (h.keepS++s.lkS) (cw h.objs++s.lkO)) λe s'=>match e with
    | .normal=>(h.dec s s').bind λv'=>some (.inl v')
    | e=>(DU s g e s').bind λr=>some (.inr r)) v0).bind λr=>
   mR s k h.keepS (cw h.objs) g 0 r
 | _,_,_,_,_=>none
def MQ(E:Env)(c:Code)(ann:Ann)(R:Type)(s:St)(k:Ex->St->Option R):Option R:=match ann with
 | .all b e d a=>(ev E c a (Nat×List D) { s with lkS:=e++s.lkS,lkO:=d++s.lkO } (DU s b)).bind λr=>mR s k e d b 0 r
 | ann=>ev E c ann R s k
def jF(a:List Ty)(args:List D)(i:Nat):AV:=
 match a[i]?,args[i]? with
 | some t,some x=>.d t x
 | _,_=>.undef
def JL{R:Type}(E:Env)(s:St)(t:Ty)(k:D->Option R):ResultVar->Option R
 | .tmp i=>(abB s.ob t (s.tm i)).bind k
 | .cell i T=>(E.L T).bind λu=>match s.tm i with
  | .ptr b id p=>if u.beq b then(s.ob id).bind λo=>gT o p λa=>(abB s.ob t a).bind k else none
  | _=>none
def vQ{R:Type}(E:Env)(s:St):List Ty->List ResultVar->(List D->Option R)->Option R
 | [],[],k=>k []
 | t::b,r::a,k=>JL E s t (λx=>vQ E s b a λxs=>k (x::xs)) r
 | _,_,_=>none
def results(E:Env)(s:St)(a:Ty)(b:List ResultVar):Option D:=
 match b with
 | [r]=>JL E s a some r
 | b=>match a with
  | .tup c=>vQ E s c b λxs=>some (.tup xs)
  | _=>none
def Xq(E:Env)(fn:Func)(ann:Ann)(b:List Ty)(a:Ty)(args:List D):Option D:=
 match fn.body with
 | none=>none
 | some c=>MQ E c ann D { tm:=jF b args,ob:=λ_=>none,fresh:=0,dead:=[],nt:=fn.ntmps,lkS:=[],lkO:=[] } λe s=>match e with
  | .exit _=>none
  | _=>results E s a fn.results.toList
mutual
theorem cH:∀ (t:Ty) (x:D),wt t x->am t=true->x.flat.length=t.size
 | .int k,x,h,_=>by simp only[wt] at h;obtain⟨n,rfl⟩:=h;rfl
 | .bool,x,h,_=>by simp only[wt] at h;obtain⟨n,rfl⟩:=h;rfl
 | .str,x,h,_=>by simp only[wt] at h;obtain⟨n,rfl⟩:=h;rfl
 | .st ts,x,h,hn=>by simp only[wt] at h;obtain⟨l,rfl,h⟩:=h;simp only[D.flat,Ty.size];exact qK ts l h (by simpa [am] using hn)
 | .arr n t,x,h,hn=>by
  simp only[wt] at h;obtain⟨l,rfl,rfl,h⟩:=h;simp only[D.flat,Ty.size];simp only[am] at hn
  induction l with
  | nil=>simp[abM]
  | cons y l ih=>
   simp only[abM,zta,zQa];rw[cH t y (h y j3) hn,ih (λx hx=>h x (by simp[hx]))]
   rw[zob,z0c,zSc]
 | .sl t,x,h,_=>by simp only[wt] at h;obtain⟨l,rfl,_⟩:=h;rfl
 | .tup ts,_,_,h=>by simp[am] at h
 | .fn,x,h,_=>by simp[wt] at h
theorem qK:∀ (ts:List Ty) (l:List D),fG ts l->bq ts=true->(abM l).length=acr ts
 | [],l,h,_=>by simp only[fG] at h;subst h;rfl
 | t::ts,l,h,hn=>by simp only[fG] at h;obtain⟨d,l',rfl,h1,h2⟩:=h;simp only[bq,zaa] at hn;simp only[abM,acr,zta];rw[cH t d h1 hn.1,qK ts l' h2 hn.2]
end
def cl(a b:List D):abM (a++b)=abM a++abM b:=by
 induction a with
 | nil=>rfl
 | cons x a ih=>simp only[zzb,abM,ih,zOa]
theorem aE{t:Ty}(hn:am t=true):∀ (l:List D),(∀ x∈l,wt t x)->(abM l).length=l.length*t.size
 | [],_=>by simp[abM]
 | y::l,h=>by simp only[abM,zta,zQa];rw[cH t y (h y j3) hn,aE hn l (λx hx=>h x (by simp[hx])),zob,z0c,zSc]
theorem cu{l:List D}{i:Nat}{y:D}(h:l[i]?=some y):abM l=abM (l.take i)++(y.flat++abM (l.drop (i+1))):=by
 obtain⟨a,hy⟩:=zqa.1 h
 conv=>lhs;rw[<-zua i l,cl]
 rw[z4b a,hy];rfl
def nP{l:List D}{i:Nat}{y z:D}(h:l[i]?=some y):abM (l.set i z)=abM (l.take i)++(z.flat++abM (l.drop (i+1))):=by
 obtain⟨a,hy⟩:=zqa.1 h;have h2:(l.set i z)[i]?=some z:=by simp[a]
 rw[cu h2,List.take_set_of_le (zia i),List.drop_set_of_lt (Nat.lt_succ_self i)]
theorem ib:∀ {b:List Ty} {l:List D} {i:Nat} {t:Ty},fG b l->b[i]?=some t->∃ y,l[i]?=some y/\wt t y
 | [],_,_,_,_,h=>by simp at h
 | u::b,l,i,t,h,a=>by
  simp only[fG] at h;obtain⟨d,l',rfl,h1,h2⟩:=h;cases i with
  | zero=>simp at a;subst a;exact⟨d,rfl,h1⟩
  | succ i=>simp at a;obtain⟨y,h3,c⟩:=ib h2 a;exact⟨y,by simpa using h3,c⟩
theorem jS:∀ {a:List Ty} {l:List D},fG a l->l.length=a.length
 | [],l,h=>by simp_all [fG]
 | t::a,l,h=>by simp only[fG] at h;obtain⟨d,l',rfl,h1,h2⟩:=h;simp[jS h2]
theorem AE:∀ {b:List Ty} {l:List D} {i:Nat} {t:Ty} {z:D},fG b l->b[i]?=some t->wt t z->fG b (l.set i z)
 | [],_,_,_,_,_,h,_=>by simp at h
 | u::b,l,i,t,z,h,a,c=>by
  simp only[fG] at h;obtain⟨d,l',rfl,h1,h2⟩:=h;cases i with
  | zero=>simp at a;subst a;simp only[List.set_cons_zero,fG];exact⟨z,l',rfl,c,h2⟩
  | succ i=>simp at a;simp only[List.set_cons_succ,fG];exact⟨d,_,rfl,h1,AE h2 a c⟩
theorem qO:∀ {a:List Ty} {l:List D} (i:Nat),fG a l->fG (a.take i) (l.take i)
 | a,l,0,_=>by simp[fG]
 | [],l,i+1,h=>by simp_all [fG]
 | t::a,l,i+1,h=>by simp only[fG] at h;obtain⟨d,l',rfl,h1,h2⟩:=h;simp only[zdc,fG];exact⟨d,_,rfl,h1,qO i h2⟩
theorem bX:∀ {b:List Ty} {i:Nat} {t:Ty},bq b=true->b[i]?=some t->am t=true
 | [],_,_,_,h=>by simp at h
 | u::b,i,t,h,a=>by
  simp only[bq,zaa] at h;cases i with
  | zero=>simp at a;subst a;exact h.1
  | succ i=>simp at a;exact bX h.2 a
theorem iG:∀ {a:List Ty} (i:Nat),bq a=true->bq (a.take i)=true
 | a,0,_=>by simp[bq]
 | [],i+1,_=>by simp[bq]
 | u::a,i+1,h=>by simp only[bq,zaa] at h;simp only[zdc,bq,zaa];exact⟨h.1,iG i h.2⟩
theorem dU:∀ (p:List Nat) {t u:Ty},am t=true->aM t p=some u->am u=true
 | [],t,u,h,hp=>by simp_all [aM,zda]
 | i::p,t,u,h,hp=>by
  cases t<;>simp only[aM] at hp
  case st ts=>
   cases hi:ts[i]? with
   | none=>rw[hi] at hp;cases hp
   | some v=>rw[hi] at hp;exact dU p (bX (by simpa [am] using h) hi) hp
  case arr n v=>exact dU p (by simpa [am] using h) hp
  all_goals cases hp
theorem jD:∀ (p:List Nat) {t u:Ty} {x y:D},wt t x->am t=true->aM t p=some u->x.get p=some y ->
  wt u y/\∃ a b,x.flat=a++(y.flat++b)/\a.length=aZ t p
 | [],t,u,x,y,h,hn,hp,c=>by
  have d:t=u:=by simp_all [aM]
  simp only[D.get,zda] at c;subst d;subst c;exact⟨h,[],[],j3,by cases t<;>rfl⟩
 | i::p,t,u,x,y,h,hn,hp,c=>by
  simp only[D.get] at c;cases hf:x.fld i with
  | none=>rw[hf] at c;cases c
  | some z=>
   rw[hf] at c;have e:z.get p=some y:=c;cases t<;>simp only[aM] at hp
   case st ts=>
    cases hi:ts[i]? with
    | none=>rw[hi] at hp;cases hp
    | some v=>
     rw[hi] at hp;have d:aM v p=some u:=hp;simp only[wt] at h;obtain⟨l,rfl,hl⟩:=h;simp only[D.fld] at hf;obtain⟨j,g,f⟩:=ib hl hi;rw[hf] at g;cases g;simp only[am] at hn;obtain⟨h1,a,b,h2,h3⟩:=jD p f (bX hn hi) d e;refine⟨h1,abM (l.take i)++a,b++abM (l.drop (i+1)),?_,?_⟩
     ·grind [D.flat,cu,List.append_assoc]
     ·simp only[aZ,zta,h3];rw[qK _ _ (qO i hl) (iG i hn)]
      simp_all
   case arr n v=>
    simp only[wt] at h;obtain⟨l,rfl,hl,f⟩:=h;simp only[D.fld] at hf;simp only[am] at hn;obtain⟨h1,a,b,h2,h3⟩:=jD p (f z (zbb hf)) hn hp e;refine⟨h1,abM (l.take i)++a,b++abM (l.drop (i+1)),?_,?_⟩
    ·grind [D.flat,cu,List.append_assoc]
    ·grind [aZ,List.length_append,aE,List.mem_of_mem_take,Nat.min_eq_left,Nat.le_of_lt]
   all_goals cases hp
theorem qw:∀ (p:List Nat) {t u:Ty} {x y k:D},wt t x->am t=true->aM t p=some u->x.set p y=some k->wt u y ->
  wt t k/\∃ a c b,x.flat=a++(c++b)/\k.flat=a++(y.flat++b)/\a.length=aZ t p/\c.length=u.size
 | [],t,u,x,y,k,h,hn,hp,d,hy=>by
  have g:t=u:=by simp_all [aM]
  simp only[D.set,zda] at d;subst g;subst d;exact⟨hy,[],x.flat,[],j3,j3,by cases t<;>rfl,cH _ _ h hn⟩
 | i::p,t,u,x,y,k,h,hn,hp,d,hy=>by
  cases t<;>simp only[aM] at hp
  case st ts=>
   cases hi:ts[i]? with
   | none=>rw[hi] at hp;cases hp
   | some v=>
    rw[hi] at hp;have g:aM v p=some u:=hp;simp only[wt] at h;obtain⟨l,rfl,hl⟩:=h;simp only[D.set] at d;obtain⟨z,f,j⟩:=ib hl hi;rw[f] at d;cases hs:D.set z p y with
    | none=>rw[show((some z).bind λz=>(D.set z p y).bind λe=>some (D.st (l.set i e)))=(D.set z p y).bind λe=>some (D.st (l.set i e)) from rfl,hs] at d;cases d
    | some e=>
     rw[show((some z).bind λz=>(D.set z p y).bind λe=>some (D.st (l.set i e)))=(D.set z p y).bind λe=>some (D.st (l.set i e)) from rfl,hs] at d;simp only[zba,zda] at d;subst d;simp only[am] at hn;obtain⟨h1,a,c,b,h2,h3,m,o⟩:=qw p j (bX hn hi) g hs hy;refine⟨by simp only[wt];exact⟨_,rfl,AE hl hi h1⟩,abM (l.take i)++a,c,b++abM (l.drop (i+1)),?_,?_,?_,o⟩
     ·simp only[D.flat];rw[cu f,h2];simp[zOa]
     ·simp only[D.flat];rw[nP f,h3];simp[zOa]
     ·simp only[aZ,zta,m];rw[qK _ _ (qO i hl) (iG i hn)];simp[List.getD,hi]
  case arr n v=>
   simp only[wt] at h;obtain⟨l,rfl,hl,j⟩:=h;simp only[D.set] at d;cases f:l[i]? with
   | none=>rw[f] at d;cases d
   | some z=>
    rw[f] at d;cases hs:D.set z p y with
    | none=>rw[show((some z).bind λz=>(D.set z p y).bind λe=>some (D.st (l.set i e)))=(D.set z p y).bind λe=>some (D.st (l.set i e)) from rfl,hs] at d;cases d
    | some e=>
     rw[show((some z).bind λz=>(D.set z p y).bind λe=>some (D.st (l.set i e)))=(D.set z p y).bind λe=>some (D.st (l.set i e)) from rfl,hs] at d;simp only[zba,zda] at d;subst d;simp only[am] at hn;obtain⟨h1,a,c,b,h2,h3,m,o⟩:=qw p (j z (zbb f)) hn hp hs hy;refine⟨?_,abM (l.take i)++a,c,b++abM (l.drop (i+1)),?_,?_,?_,o⟩
     ·simp only[wt];refine⟨_,rfl,by simpa using hl,λx hx=>?_⟩
      rcases zKc hx with h|h
      ·exact j x h
      ·rw[h];exact h1
     ·simp only[D.flat];rw[cu f,h2];simp[zOa]
     ·simp only[D.flat];rw[nP f,h3];simp[zOa]
     ·simp only[aZ,zta,m];rw[aE hn _ (λx hx=>j x (zRa hx))];have:=(zqa.1 f).1;simp[zDb (zyc this)]
  all_goals cases hp
inductive CR(w:World)(S:Nat->Nat->Prop):D->Value->Prop
 | int (k:IntKind) (n:Int):CR w S (.int k n) (.int k n)
 | bool (b:Bool):CR w S (.bool b) (.bool b)
 | str (s:ByteArray):CR w S (.str s) (.string s)
 | sl (l:List D) (a:Option Addr) (cap b off:Nat) (c:Nat->Value) (ha:l=[]\/a=some ⟨b,off,none⟩) (hc:l.length<=cap)
   (h1:∀ i d,(abM l)[i]?=some d->S b (off+i)/\w.cell? ⟨b,off+i,none⟩=some (c i))
   (h2:∀ i d,(abM l)[i]?=some d->CR w S d (c i)):CR w S (.sl l) (.slice a l.length cap)
def CR.mono{w w':World}{S S':Nat->Nat->Prop}(hw:∀ b o,S b o->w'.cell? ⟨b,o,none⟩=w.cell? ⟨b,o,none⟩)(f:∀ b o,S b o->S' b o){d:D}{v:Value}(h:CR w S d v):CR w' S' d v:=by
 induction h with
 | int k n=>exact .int k n
 | bool b=>exact .bool b
 | str s=>exact .str s
 | sl l a cap b off c g hc h1 h2 ih=> exact .sl l a cap b off c g hc (λi d e=>⟨f _ _ (h1 i d e).1,by rw[hw _ _ (h1 i d e).1];exact(h1 i d e).2⟩) ih
def c8(w:World)(S:Nat->Nat->Prop)(a:List D)(cs:List Value):Prop:=a.length=cs.length/\∀ (i:Nat) (d:D) (c:Value),a[i]?=some d->cs[i]?=some c->CR w S d c
theorem c8.mono{w w':World}{S S':Nat->Nat->Prop}(hw:∀ b o,S b o->w'.cell? ⟨b,o,none⟩=w.cell? ⟨b,o,none⟩)(a:∀ b o,S b o->S' b o){d:List D}{v:List Value}(h:c8 w S d v):c8 w' S' d v:=
 ⟨h.1,λi d c h1 h2=>(h.2 i d c h1 h2).mono hw a⟩
def c8.nil{w:World}{S:Nat->Nat->Prop}:c8 w S [] []:=⟨rfl,λi d c h=>by simp at h⟩
def c8.append{w:World}{S:Nat->Nat->Prop}{a b:List D}{c d:List Value}(h:c8 w S a c)(k:c8 w S b d):c8 w S (a++b) (c++d):=by
 refine⟨by simp[h.1,k.1],λi x y hx hy=>?_⟩
 rw[zIc] at hx hy;by_cases hi:i<a.length
 ·rw[zna hi] at hx;rw[zna (h.1 ▸ hi)] at hy;exact h.2 i x y hx hy
 ·rw[zka hi] at hx;rw[zka (h.1 ▸ hi)] at hy;rw[h.1] at hx;exact k.2 _ x y hx hy
def c8.split{w:World}{S:Nat->Nat->Prop}{a b:List D}{cs:List Value}(h:c8 w S (a++b) cs):c8 w S a (cs.take a.length)/\c8 w S b (cs.drop a.length):=by
 obtain⟨h1,h2⟩:=h;rw[zta] at h1;refine⟨⟨by simp;omega,λi x y hx hy=>?_⟩,⟨by simp;omega,λi x y hx hy=>?_⟩⟩
 ·grind
 ·grind
def c8.single{w:World}{S:Nat->Nat->Prop}{d:D}{v:Value}:c8 w S [d] [v]↔CR w S d v:=by
 constructor
 ·intro h;exact h.2 0 d v rfl rfl
 ·intro h;refine⟨rfl,λi x y hx hy=>?_⟩;all_goals grind
def c8.single'{w:World}{S:Nat->Nat->Prop}{d:D}{cs:List Value}(h:c8 w S [d] cs):∃ v,cs=[v]/\CR w S d v:=by
 match cs,h with
 | [v],h=>exact⟨v,rfl,c8.single.1 h⟩
 | [],h=>simp[c8] at h
 | _::_::_,h=>simp[c8] at h
def q9(w:World)(S:Nat->Nat->Prop)(b off:Nat)(a:List D):Prop:=∃ cs,c8 w S a cs/\∀ (i:Nat) (c:Value),cs[i]?=some c->S b (off+i)/\w.cell? ⟨b,off+i,none⟩=some c
theorem q9.mono{w w':World}{S S':Nat->Nat->Prop}(hw:∀ b o,S b o->w'.cell? ⟨b,o,none⟩=w.cell? ⟨b,o,none⟩)(a:∀ b o,S b o->S' b o){b off:Nat}{d:List D}(h:q9 w S b off d):q9 w' S' b off d:=by obtain⟨cs,h1,h2⟩:=h;exact⟨cs,h1.mono hw a,λi c hc=>⟨a _ _ (h2 i c hc).1,by rw[hw _ _ (h2 i c hc).1];exact(h2 i c hc).2⟩⟩
def q9.part{w:World}{S:Nat->Nat->Prop}{b off:Nat}{x y z:List D}(h:q9 w S b off (x++(y++z))):q9 w S b (off+x.length) y:=by obtain⟨cs,h1,h2⟩:=h;obtain⟨_,h3⟩:=h1.split;obtain⟨a,_⟩:=h3.split;refine⟨_,a,λi c hc=>?_⟩;grind
def CR.elems{w:World}{S:Nat->Nat->Prop}{l:List D}{v:Value}(h:CR w S (.sl l) v):∃ a cap b off,v=.slice a l.length cap/\(l=[]\/a=some ⟨b,off,none⟩)/\l.length<=cap/\q9 w S b off (abM l):=by
 cases h with
 | sl _ a cap b off c f hc h1 h2=>
  refine⟨a,cap,b,off,rfl,f,hc,(List.range (abM l).length).map c,⟨j3,λi d c' g e=>?_⟩,λi c' e=>?_⟩
  ·grind
  ·have j:=(zqa.1 e).1
   simp_all
def abC{w:World}{S:Nat->Nat->Prop}{l:List D}{a:Option Addr}{cap b off:Nat}(f:l=[]\/a=some ⟨b,off,none⟩)(hc:l.length<=cap)(h:q9 w S b off (abM l)):CR w S (.sl l) (.slice a l.length cap):=by
 obtain⟨cs,h1,h2⟩:=h;refine .sl l a cap b off (λi=>cs.getD i undef) f hc (λi d e=>?_) (λi d e=>?_)
 ·have c:i<cs.length:=by rw[<-h1.1];exact(zqa.1 e).1
  have:=h2 i _ (zca c);simpa [List.getD,zca c] using this
 ·have c:i<cs.length:=by rw[<-h1.1];exact(zqa.1 e).1
  have:=h1.2 i d _ e (zca c);simpa [List.getD,zca c] using this
def Tr:D->Value->Prop
 | .st _,v=>∃ cs,v=.agg cs
 | _,v=>∀ cs,v≠.agg cs
def gE(w:World)(S:Nat->Nat->Prop)(d:D)(v:Value):Prop:=Tr d v/\c8 w S d.flat v.cells.toList
def DR(w:World)(S:Nat->Nat->Prop):D->Value->Prop
 | .tup l,v=>∃ vs:List Value,v=.tuple vs.toArray/\l.length=vs.length/\∀ (i:Nat) (d:D) (u:Value),l[i]?=some d->vs[i]?=some u->gE w S d u
 | d,v=>gE w S d v
theorem gE.mono{w w':World}{S S':Nat->Nat->Prop}(hw:∀ b o,S b o->w'.cell? ⟨b,o,none⟩=w.cell? ⟨b,o,none⟩)(a:∀ b o,S b o->S' b o){d:D}{v:Value}(h:gE w S d v):gE w' S' d v:=⟨h.1,h.2.mono hw a⟩
theorem DR.mono{w w':World}{S S':Nat->Nat->Prop}(hw:∀ b o,S b o->w'.cell? ⟨b,o,none⟩=w.cell? ⟨b,o,none⟩)(a:∀ b o,S b o->S' b o){d:D}{v:Value}(h:DR w S d v):DR w' S' d v:=by
 cases d<;>simp only[DR] at h ⊢<;>first
  | exact h.mono hw a
  | (obtain⟨vs,h1,h2,h3⟩:=h;exact⟨vs,h1,h2,λi d u c hu=>(h3 i d u c hu).mono hw a⟩)
def DR.of0{w:World}{S:Nat->Nat->Prop}{d:D}{v:Value}(h:gE w S d v):DR w S d v:=by
 cases d<;>simp only[DR]<;>first
  | exact h
  | (exfalso;obtain⟨c,e,h⟩:=c8.single' h.2;cases h)
def CR.int_inv{w:World}{S:Nat->Nat->Prop}{k:IntKind}{n:Int}{v:Value}(h:CR w S (.int k n) v):v=.int k n:=by cases h;rfl
def CR.bool_inv{w:World}{S:Nat->Nat->Prop}{n:Bool}{v:Value}(h:CR w S (.bool n) v):v=.bool n:=by cases h;rfl
def ar{v u:Value}(a:∀ cs,v≠.agg cs)(h:v.cells.toList=[u]):v=u:=by all_goals simp_all [Value.cells]
theorem gE.int_inv{w:World}{S:Nat->Nat->Prop}{k:IntKind}{n:Int}{v:Value}(h:gE w S (.int k n) v):v=.int k n:=by obtain⟨u,h1,h2⟩:=c8.single' (d:=.int k n) h.2;rw[ar h.1 h1];exact h2.int_inv
theorem gE.bool_inv{w:World}{S:Nat->Nat->Prop}{n:Bool}{v:Value}(h:gE w S (.bool n) v):v=.bool n:=by obtain⟨u,h1,h2⟩:=c8.single' (d:=.bool n) h.2;rw[ar h.1 h1];exact h2.bool_inv
def gE.sl_inv{w:World}{S:Nat->Nat->Prop}{l:List D}{v:Value}(h:gE w S (.sl l) v):CR w S (.sl l) v:=by obtain⟨u,h1,h2⟩:=c8.single' (d:=.sl l) h.2;rw[ar h.1 h1];exact h2
def CR.no_agg{w:World}{S:Nat->Nat->Prop}{d:D}{v:Value}(h:CR w S d v):(∀ cs,v≠.agg cs)/\(∀ vs,v≠.tuple vs)/\d.flat=[d]/\v.cells=#[v]:=by cases h<;>simp[D.flat,Value.cells]
def abV{w:World}{S:Nat->Nat->Prop}{d:D}{v:Value}(h:CR w S d v):gE w S d v:=by
 obtain⟨h1,_,h3,a⟩:=h.no_agg;refine⟨?_,?_⟩
 ·cases h<;>simp[Tr]
 ·rw[h3,a];exact c8.single.2 h
structure Cx where
 w:World
 S:Nat->Nat->Prop
 γ:Nat->Option Nat
 β:Nat->Option (Nat×Nat)
 ob:Nat->Option Ob
 dead:List Nat
def nk(w:World)(b:Nat):Option Nat:=(bO w b).map (·.size)
def cD:Ob->List Nat->Nat
 | .one t _,p=>aZ t p
 | .many t _,i::p=>i*t.size+aZ t p
 | .many ..,[]=>0
 | .mp ..,_=>0
 | .lp ..,_=>0
 | .fv _,_=>0
def Zp(c:Cx)(t:Ty)(v:Nat)(l:List D)(a:Option Addr)(cap:Nat):Prop:=
 v ∉ c.dead->(a=none/\cap=0)\/∃ b off,a=some ⟨b,off,none⟩/\c.β v=some (b,off+l.length*t.size)/\∃ n,nk c.w b=some n/\off+cap*t.size<=n
mutual
def AC(c:Cx):AV->List Value->Prop
 | .d t x,cs=>wt t x/\am t=true/\c8 c.w c.S x.flat cs
 | .own t v l,cs=>am t=true/\(∀ x∈l,wt t x)/\∃ a cap,cs=[.slice a l.length cap]/\CR c.w c.S (.sl l) (.slice a l.length cap)/\Zp c t v l a cap
 | .nils,cs=>cs=[.slice none 0 0]
 | .ptr t id p,cs=>∃ b off,cs=[.pointer (some ⟨b,off,none⟩)]/\c.γ id=some b/\∀ o,c.ob id=some o->fk o p=some t/\off=cD o p
 | .fptr t x,cs=>wt t x/\am t=true/\∃ b off,cs=[.pointer (some ⟨b,off,none⟩)]/\q9 c.w c.S b off x.flat
 | .mem t id,cs=>am t=true/\∃ b,c.γ id=some b/\∀ o,c.ob id=some o->∃ l,o=.many t l/\cs=[.slice (some ⟨b,0,none⟩) l.length l.length]
 | .st ts l,cs=>bq ts=true/\AV.fitss ts l=true/\lH c l cs
 | .clo f l,cs=>∃ caps:List Value,cs=[.func (.func f) #[] caps.toArray]/\oz c l caps
 | .map kt vt id,cs=>∃ b,cs=[.map (some b)]/\c.γ id=some b/\am kt=true/\am vt=true/\∀ o,c.ob id=some o->∃ l,o=.mp kt vt l
 | .sub sl t id p lo n,cs=>am t=true/\∃ b off cap,cs=[if sl then .slice (some ⟨b,off,none⟩) n cap else .pointer (some ⟨b,off,none⟩)]/\c.γ id=some b/\∀ o,c.ob id=some o->∃ m,fk o p=some (.arr m t)/\lo+n<=m/\off=cD o p+lo*t.size
 | .yld id,cs=>∃ L,cs=[.func (.yield L) #[] #[]]/\c.γ id=some L
 | .gone,_=>True
 | .undef,_=>True
def lH(c:Cx):List AV->List Value->Prop
 | [],cs=>cs=[]
 | a::l,cs=>∃ c1 c2,cs=c1++c2/\AC c a c1/\lH c l c2
def oz(c:Cx):List AV->List Value->Prop
 | [],cs=>cs=[]
 | a::l,cs=>∃ v c2,cs=v::c2/\AC c a [v]/\oz c l c2
end
def AR(c:Cx):AV->Value->Prop
 | .gone,v=>v=undef
 | .d t x,v=>(am t=true/\wt t x/\gE c.w c.S x v)\/∃ b,t=.tup b/\bq b=true/\wt t x/\DR c.w c.S x v
 | .undef,_=>True
 | .st b l,v=>(∃ cs,v=.agg cs)/\AC c (.st b l) v.cells.toList
 | a,v=>(∀ cs,v≠.agg cs)/\AC c a v.cells.toList
structure Cx.le(c c':Cx):Prop where
 cell:∀ b o,c.S b o->c'.w.cell? ⟨b,o,none⟩=c.w.cell? ⟨b,o,none⟩
 S:∀ b o,c.S b o->c'.S b o
 γ:∀ id b,c.γ id=some b->c'.γ id=some b
 ob:∀ id o,c'.ob id=some o->(∃ b,c.γ id=some b)->∃ o',c.ob id=some o'/\(∀ p,fk o p=fk o' p/\cD o p=cD o' p)/\(∀ t l,o'=.many t l->∃ l',o=.many t l'/\l'.length=l.length)/\(∀ kt vt l,o'=.mp kt vt l->∃ l',o=.mp kt vt l')
 β:∀ v,v ∉ c'.dead->v ∉ c.dead/\∀ b e,c.β v=some (b,e)->c'.β v=some (b,e)/\∀ n,nk c.w b=some n->nk c'.w b=some n
mutual
theorem AC.mono{c c':Cx}(h:c.le c'):∀ (a:AV) (cs:List Value),AC c a cs->AC c' a cs
 | .d t x,cs,k=>by simp only[AC] at k ⊢;exact⟨k.1,k.2.1,k.2.2.mono h.cell h.S⟩
 | .own t v l,cs,k=>by
  simp only[AC] at k ⊢;obtain⟨k0,k1,a,cap,rfl,k2,k3⟩:=k;refine⟨k0,k1,a,cap,rfl,k2.mono h.cell h.S,λhd=>?_⟩;obtain⟨h1,h2⟩:=h.β v hd;rcases k3 h1 with h3|⟨b,off,h3,h4,n,h5,h6⟩
  ·exact .inl h3
  ·exact .inr ⟨b,off,h3,(h2 _ _ h4).1,n,(h2 _ _ h4).2 n h5,h6⟩
 | .nils,cs,k=>by simpa only[AC] using k
 | .ptr t id p,cs,k=>by
  simp only[AC] at k ⊢;obtain⟨b,off,rfl,k1,k2⟩:=k;refine⟨b,off,rfl,h.γ _ _ k1,λo ho=>?_⟩;obtain⟨o',h1,h2,_⟩:=h.ob id o ho ⟨b,k1⟩
  simp_all
 | .fptr t x,cs,k=>by simp only[AC] at k ⊢;obtain⟨k1,k0,b,off,rfl,k2⟩:=k;exact⟨k1,k0,b,off,rfl,k2.mono h.cell h.S⟩
 | .mem t id,cs,k=>by simp only[AC] at k ⊢;obtain⟨k0,b,k1,k2⟩:=k;refine⟨k0,b,h.γ _ _ k1,λo ho=>?_⟩;obtain⟨o',h1,_,h3,_⟩:=h.ob id o ho ⟨b,k1⟩;grind
 | .st ts l,cs,k=>by simp only[AC] at k ⊢;exact⟨k.1,k.2.1,lH.mono h l cs k.2.2⟩
 | .clo f l,cs,k=>by simp only[AC] at k ⊢;obtain⟨caps,rfl,k1⟩:=k;exact⟨caps,rfl,oz.mono h l caps k1⟩
 | .map kt vt id,cs,k=>by simp only[AC] at k ⊢;obtain⟨b,e,k1,k2,k3,k4⟩:=k;refine⟨b,e,h.γ _ _ k1,k2,k3,λo ho=>?_⟩;obtain⟨o',h1,_,_,h3⟩:=h.ob id o ho ⟨b,k1⟩;grind
 | .sub sl t id p lo n,cs,k=>by
  simp only[AC] at k ⊢;obtain⟨k0,b,off,cap,rfl,k1,k2⟩:=k;refine⟨k0,b,off,cap,rfl,h.γ _ _ k1,λo ho=>?_⟩;obtain⟨o',h1,h2,_⟩:=h.ob id o ho ⟨b,k1⟩
  simp_all
 | .yld id,cs,k=>by simp only[AC] at k ⊢;obtain⟨L,rfl,k1⟩:=k;exact⟨L,rfl,h.γ _ _ k1⟩
 | .gone,cs,k=>by simp[AC]
 | .undef,cs,k=>by simp[AC]
theorem lH.mono{c c':Cx}(h:c.le c'):∀ (l:List AV) (cs:List Value),lH c l cs->lH c' l cs
 | [],cs,k=>by simpa only[lH] using k
 | a::l,cs,k=>by simp only[lH] at k ⊢;obtain⟨c1,c2,rfl,k1,k2⟩:=k;exact⟨c1,c2,rfl,AC.mono h a c1 k1,lH.mono h l c2 k2⟩
theorem oz.mono{c c':Cx}(h:c.le c'):∀ (l:List AV) (cs:List Value),oz c l cs->oz c' l cs
 | [],cs,k=>by simpa only[oz] using k
 | a::l,cs,k=>by simp only[oz] at k ⊢;obtain⟨c1,c2,rfl,k1,k2⟩:=k;exact⟨c1,c2,rfl,AC.mono h a _ k1,oz.mono h l c2 k2⟩
end
theorem AR.mono{c c':Cx}(h:c.le c'){a:AV}{v:Value}(k:AR c a v):AR c' a v:=by
 cases a<;>simp only[AR] at k ⊢
 case d t x=>
  rcases k with⟨b,e,f⟩|⟨i,b,g,e,f⟩
  ·exact .inl ⟨b,e,f.mono h.cell h.S⟩
  ·exact .inr ⟨i,b,g,e,f.mono h.cell h.S⟩
 all_goals first|exact⟨k.1,AC.mono h _ _ k.2⟩|exact k
def jt(c:Cx)(a vt:Ty):Nat->List D->List MapEntry->Prop
 | _,[],[]=>True
 | j,x::l,e::es=>(e.born=j/\∃ k v,x=.st [k,v]/\wt a k/\wt vt v/\gE c.w c.S k e.key/\gE c.w c.S v e.val)/\jt c a vt (j+1) l es
 | _,_,_=>False
def ul(c:Cx):AV->Value->Prop
 | .ptr _ id [],v=>∃ b,v=.pointer (some ⟨b,0,none⟩)/\c.γ id=some b
 | _,_=>False
def oA(c:Cx):List AV->List Value->Prop
 | [],[]=>True
 | a::l,v::vs=>ul c a v/\oA c l vs
 | _,_=>False
def fR(c:Cx):AV->Value->Prop
 | .d t x,v=>AR c (.d t x) v
 | .fptr t x,v=>AR c (.fptr t x) v
 | .ptr t id p,v=>ul c (.ptr t id p) v
 | .clo f l,v=>∃ caps:List Value,v=.func (.func f) #[] caps.toArray/\oA c l caps
 | .yld id,v=>AR c (.yld id) v
 | .map a vt id,v=>∃ b,v=.map (some b)/\c.γ id=some b/\am a=true/\am vt=true
 | _,_=>True
def ul.mono{c c':Cx}(d:∀ id b,c.γ id=some b->c'.γ id=some b){a:AV}{v:Value}(k:ul c a v):ul c' a v:=by unfold ul at k ⊢;all_goals grind
theorem oA.mono{c c':Cx}(d:∀ id b,c.γ id=some b->c'.γ id=some b):∀ {l:List AV} {vs:List Value},oA c l vs->oA c' l vs
 | [],[],_=>trivial
 | [],_::_,k=>k.elim
 | _::_,[],k=>k.elim
 | a::l,v::vs,k=>⟨k.1.mono d,oA.mono d k.2⟩
theorem fR.mono{c c':Cx}(g:∀ b o,c.S b o->c'.w.cell? ⟨b,o,none⟩=c.w.cell? ⟨b,o,none⟩)(m:∀ b o,c.S b o->c'.S b o)(j:∀ id b,c.γ id=some b->c'.γ id=some b){a:AV}{v:Value}(k:fR c a v):fR c' a v:=by
 cases a<;>simp only[fR] at k ⊢
 case d t x=>
  simp only[AR] at k ⊢;rcases k with⟨h,i,q⟩|⟨s,h,n,i,q⟩
  ·exact .inl ⟨h,i,q.mono g m⟩
  ·exact .inr ⟨s,h,n,i,q.mono g m⟩
 case fptr t x=> simp only[AR,AC] at k ⊢;obtain⟨r,h,n,b,off,e,i⟩:=k;exact⟨r,h,n,b,off,e,i.mono g m⟩
 case ptr t id p=>exact k.mono j
 case clo f l=> obtain⟨caps,e,h⟩:=k;exact⟨caps,e,h.mono j⟩
 case yld id=> simp only[AR,AC] at k ⊢;obtain⟨h,L,e,i⟩:=k;exact⟨h,L,e,j _ _ i⟩
 case map kt vt id=> obtain⟨b,e,h,i⟩:=k;exact⟨b,e,j _ _ h,i⟩
def CZ:Ex->Code
 | .normal=>.skip
 | .exit id=>.exit id
 | .ret=>.ret
def LpS(i:LpI)(r:Loop):Prop:=r.tmps.size=i.nt/\r.params.toList=i.ps/\r.assign=i.asg/\r.body=i.bdy
def Zf:Option Ex->Loop->Prop
 | none,r=>r.state=.ready/\r.pending=none
 | some e,r=>r.state=.done/\r.pending=some (CZ e)
def CM(r r':Loop):Prop:=r'.tmps=r.tmps/\r'.params=r.params/\r'.assign=r.assign/\r'.body=r.body
def km(w w':World)(b:Nat):Prop:=w'.heap[b]?=w.heap[b]?\/∃ r r',w.heap[b]?=some (Obj.loop r)/\w'.heap[b]?=some (Obj.loop r')/\CM r r'
def km.refl(w:World)(b:Nat):km w w b:=.inl rfl
theorem km.trans{w w1 f:World}{b:Nat}(h:km w w1 b)(k:km w1 f b):km w f b:=by
 rcases h with h|⟨r,r1,h1,h2,h3⟩<;>rcases k with k|⟨r',e,c,d,a⟩
 ·exact .inl (k.trans h)
 ·exact .inr ⟨r',e,h.symm.trans c,d,a⟩
 ·exact .inr ⟨r,r1,h1,k.trans h2,h3⟩
 ·rw[h2] at c;cases c;exact .inr ⟨r,e,h1,d,a.1.trans h3.1,a.2.1.trans h3.2.1,a.2.2.1.trans h3.2.2.1,a.2.2.2.trans h3.2.2.2⟩
def km.row{w w':World}{b:Nat}(h:km w w' b){cs:Array Value}(a:bO w b=some cs):w'.heap[b]?=w.heap[b]?:=by
 rcases h with h|⟨r,r',h1,_,_⟩
 ·exact h
 ·simp[bO,h1] at a
def dw(w w':World):Prop:=∀ b:Nat,(w.heap[b]?=some (Obj.deferred (some []))->w'.heap[b]?=some (Obj.deferred (some [])))/\((∃ r,w.heap[b]?=some (Obj.loop r))->∃ r,w'.heap[b]?=some (Obj.loop r))
def dw.refl(w:World):dw w w:=λ_=>⟨id,id⟩
def dw.trans{w w1 c:World}(h:dw w w1)(k:dw w1 c):dw w c:=λb=>⟨λa=>(k b).1 ((h b).1 a),λa=>(k b).2 ((h b).2 a)⟩
def cK(lo:Nat)(w:World):Nat->List Deferred->Prop
 | _,[]=>True
 | a,d::l=>∃ K,d={ target:=.collected K,args:=#[] }/\lo<=K/\K<a/\w.heap[K]?=some (Obj.deferred (some []))/\cK lo w K l
theorem cK.mono{lo c:Nat}{w w':World}(b:c<=lo)(h:dw w w'):∀ {l:List Deferred} {e a:Nat},e<=a->cK lo w e l->cK c w' a l
 | [],_,_,_,_=>trivial
 | d::l,e,a,i,⟨K,h1,h2,h3,f,g⟩=>⟨K,h1,zIa b h2,znb h3 i,(h K).1 f,cK.mono b h (zia K) g⟩
theorem cK.append{lo mid:Nat}{w:World}(hm:lo<=mid):∀ {l l':List Deferred} {a:Nat},mid<=a->cK mid w a l->cK lo w mid l'->cK lo w a (l++l')
 | [],l',a,b,_,h=>cK.mono (zia _) (dw.refl w) b h
 | d::l,l',a,b,⟨K,h1,h2,h3,c,e⟩,h=>⟨K,h1,zIa hm h2,h3,c,cK.append hm h2 e h⟩
def mD(l:List Nat)(a:Act)(w:World)(a':Act)(w':World):Prop:=dw w w'/\∃ m,a'.defers=m++a.defers/\cK w.heap.size w' w'.heap.size m/\(4095∈l->m=[])
def mD.same{l:List Nat}{a a':Act}{w w':World}(b:a'.defers=a.defers)(h:dw w w'):mD l a w a' w':=⟨h,[],by simpa using b,trivial,λ_=>rfl⟩
def mD.less{l l':List Nat}{a a':Act}{w w':World}(hl:∀ i∈l',i∈l)(h:mD l a w a' w'):mD l' a w a' w':=by obtain⟨e,m1,b,d,f⟩:=h;exact⟨e,m1,b,d,λc=>f (hl _ c)⟩
theorem mD.trans{l:List Nat}{a a1 a2:Act}{w w1 b:World}(h:mD l a w a1 w1)(k:mD l a1 w1 a2 b)(h1:w.heap.size<=w1.heap.size)(h2:w1.heap.size<=b.heap.size):mD l a w a2 b:=by
 obtain⟨j,m1,e,g,m⟩:=h;obtain⟨d,m2,f,i,z2⟩:=k;refine⟨j.trans d,m2++m1,by rw[f,e,zOa],?_,λc=>by rw[m c,z2 c];rfl⟩
 exact cK.append h1 h2 i (g.mono (zia _) d (zia _))
def bS{a:Act}{d:Option Nat}{v:Value}:(a.put d v).defers=a.defers:=by cases d<;>rfl
def gm(c:Cx)(b:Nat):Ob->Prop
 | .one t v=>am t=true/\AV.fits t v=true/\(∀ o,¬ c.S b o)/\∃ cs:List Value,bO c.w b=some cs.toArray/\AC c v cs/\cs.length=t.size
 | .many t l=>am t=true/\(∀ x∈l,wt t x)/\(∀ o,¬ c.S b o)/\∃ cs:List Value,bO c.w b=some cs.toArray/\c8 c.w c.S (abM l) cs
 | .mp a vt l=>am a=true/\am vt=true/\(∀ o,¬ c.S b o)/\∃ es:Array MapEntry,c.w.heap[b]?=some (.map es l.length)/\jt c a vt 0 l es.toList
 | .fv v=>(∀ o,¬ c.S b o)/\∃ x:Value,bO c.w b=some #[x]/\fR c v x/\Value.oneCell' x=true
 | .lp i p=>∃ r:Loop,c.w.heap[b]?=some (Obj.loop r)/\LpS i r/\(∀ t,t<i.nt->fR c (i.caps t) (r.tmps.getD t undef))/\Zf p r
structure Root where
 w:World
 S0:Nat->Nat->Prop
 sh:Nat->Prop
abbrev Root.heap(r:Root):Array Obj:=r.w.heap
def Root.Old(r:Root)(b:Nat):Prop:=b<r.heap.size/\¬ r.sh b
structure mG(r:Root)(w:World):Prop where
 tape:w.tape=r.w.tape
 os:w.os=r.w.os
 output:w.output=r.w.output
 sz:r.heap.size<=w.heap.size
 dr:r.w.drawn<=w.drawn
 old:∀ b,r.Old b->w.heap[b]?=r.w.heap[b]?
structure Rp(w0:Root)(S:Nat->Nat->Prop)(γ:Nat->Option Nat)(β:Nat->Option (Nat×Nat))(s:St)(a:Act)(w:World):Prop where
 ext:mG w0 w
 tms:∀ t,t<a.tmps.size->AR ⟨w,S,γ,β,s.ob,s.dead⟩ (s.tm t) (a.tmps.getD t undef)
 nt:a.tmps.size=s.nt
 tmu:∀ t,s.nt<=t->s.tm t=.undef
 obs:∀ id o b,s.ob id=some o->γ id=some b->gm ⟨w,S,γ,β,s.ob,s.dead⟩ b o
 γn:∀ id b,γ id=some b->¬ w0.Old b/\b<w.heap.size
 γi:∀ id id' b,γ id=some b->γ id'=some b->id=id'
 γf:∀ id,s.base+4096<=id->γ id=none
 βn:∀ v b e,v ∉ s.dead->β v=some (b,e)->¬ w0.Old b/\b<w.heap.size/\∀ o,e<=o->¬ S b o
 βi:∀ v v' b e e',v ∉ s.dead->v' ∉ s.dead->β v=some (b,e)->β v'=some (b,e')->v=v'
 βγ:∀ v id b e,v ∉ s.dead->β v=some (b,e)->γ id≠some b
 βf:∀ v,s.base+4096<=v->β v=none
 Sb:∀ b o,S b o->b<w.heap.size
 So:∀ b o,S b o->w0.Old b->w0.S0 b o
structure Fm(s:St)(S:Nat->Nat->Prop)(γ:Nat->Option Nat)(a:Act)(w:World)(S':Nat->Nat->Prop)(γ':Nat->Option Nat)(a':Act)(w':World):Prop where
 sub:∀ b o,S b o->S' b o
 cell:∀ b o,S b o->w'.cell? ⟨b,o,none⟩=w.cell? ⟨b,o,none⟩
 slots:∀ t∈s.lkS,a'.tmps.getD t undef=a.tmps.getD t undef
 objs:∀ id∈s.lkO,∀ b,γ id=some b->γ' id=some b/\km w w' b
 sz:w.heap.size<=w'.heap.size
 gam:∀ id b,γ id=some b->γ' id=some b
 dfs:mD s.lkO a w a' w'
structure Sk(s s':St):Prop where
 lkS:s'.lkS=s.lkS
 lkO:s'.lkO=s.lkO
 nt:s'.nt=s.nt
def Sk.refl(s:St):Sk s s:=⟨rfl,rfl,rfl⟩
theorem Sk.trans{a b c:St}(h:Sk a b)(k:Sk b c):Sk a c:=⟨k.lkS.trans h.lkS,k.lkO.trans h.lkO,k.nt.trans h.nt⟩
def cU:Ty->Bool
 | .st _=>true
 | .arr _ _=>true
 | _=>false
mutual
def Ty.high:Ty->Nat
 | .st l=>acq l+1
 | .arr _ t=>t.high+1
 | .sl t=>t.high+1
 | .tup l=>acq l+1
 | _=>1
def acq:List Ty->Nat
 | []=>0
 | t::l=>max t.high (acq l)
end
def F5:D->Value->Bool
 | .int k n,.int d e=>decide (k=d)&&decide (n=e)
 | .bool b,.bool c=>b==c
 | .str s,.string s'=>decide (s=s')
 | .sl l,.slice a len cap=>l.isEmpty&&a.isNone&&decide (len=0)&&decide (cap=0)
 | _,_=>false
def cS:List D->List Value->Bool
 | [],[]=>true
 | d::l,v::l'=>F5 d v&&cS l l'
 | _,_=>false
def pX(P:Program)(t:TypeId)(ty:Ty):Bool:=
 match P.info? t with
 | some i=>decide (i.size=ty.size)&&decide (i.bytes<=16384)&&decide (i.size<=4096)&&(match i.zero with|some z=>cS (aq ty).flat z.cells.toList&&(match z with|.agg _=>cU ty|_=>!cU ty)|none=>false)
 | none=>false
mutual
def bJ(P:Program):Ty->TypeId->Bool
 | .int k,t=>pX P t (.int k)&&(match P.underlying t with|some (.int k')=>decide (k=k')|_=>false)
 | .bool,t=>pX P t .bool&&(match P.underlying t with|some .bool=>true|_=>false)
 | .str,t=>pX P t .str&&(match P.underlying t with|some .string=>true|_=>false)
 | .st ts,t=>pX P t (.st ts)&&!P.stoodInHeld t&&!P.eqGuardType P.depth t&&(match P.underlying t with|some (.struct fs)=>gt P ts fs.toList 0|_=>false)
 | .arr n e,t=>pX P t (.arr n e)&&!P.eqGuardType P.depth t&&(match P.underlying t with|some (.array m u)=>decide (m=n)&&bJ P e u|_=>false)
 | .sl e,t=>pX P t (.sl e)&&(match P.underlying t with|some (.slice u)=>bJ P e u|_=>false)
 | _,_=>false
def gt(P:Program):List Ty->List Field->Nat->Bool
 | [],[],_=>true
 | t :: ts, f :: fs, off => decide (f.offset = off) && decide (f.name ≠ "_") && decide (0 < t.size) && bJ P t f.type && gt P ts fs (off + t.size)
 | _,_,_=>false
end
def MT(P:Program)(t:TypeId):Bool:=
 (match P.info? t with
 | some i=>decide (i.size=1)&&decide (i.bytes<=16384)&&(match i.zero with|some z=>decide (z.cells.toList.length=1)&&z.oneCell'|none=>false)
 | none=>false)&&(match P.underlying t with|some (.struct _)=>false|some (.array _ _)=>false|some _=>true|none=>false)
def OP(P:Program)(a:List Ty)(c:Ty)(f:FuncId)(xs:List D)(y:D):Prop:=
 ∀ (w:World) (S:Nat->Nat->Prop) (vs:List Value),(∀ b o,S b o->b<w.heap.size)->fG a xs->vs.length=xs.length->(∀ (i:Nat) (x:D) (v:Value),xs[i]?=some x->vs[i]?=some v->gE w S x v) ->
  Calls P f vs.toArray w λe w'=>∃ v,e=.returned v/\(∃ os d,w.drawn<=d/\w'=grown w os d)/\wt c y/\DR w' (λb o=>S b o\/(w.heap.size<=b/\b<w'.heap.size)) y v
def OO(w:World)(S:Nat->Nat->Prop)(x:D)(b:Nat):Prop:=(∀ o,¬ S b o)/\∃ cs:List Value,bO w b=some cs.toArray/\c8 w S x.flat cs
def GG(b:Nat):Value:=.pointer (some ⟨b,0,none⟩)
def QB(P:Program)(c:List Ty)(g:Ty)(f:FuncId)(xs:List D)(y:D)(k:Nat):Prop:=
 ∀ (w:World) (S:Nat->Nat->Prop) (vs:List Value) (a:List Nat),(∀ b o,S b o->b<w.heap.size)->fG c xs->a.length=k->vs.length+k=xs.length->(∀ (i j b:Nat),a[i]?=some b->a[j]?=some b->i=j) ->
  (∀ (i:Nat) (x:D) (v:Value),xs[i]?=some x->vs[i]?=some v->gE w S x v)->(∀ (i:Nat) (x:D) (b:Nat),xs[vs.length+i]?=some x->a[i]?=some b->OO w S x b) ->
  Calls P f (vs++a.map GG).toArray w λe w'=>∃ v,e=.returned v/\(∃ os d,w.drawn<=d/\w'=grown w os d)/\wt g y/\DR w' (λb o=>S b o\/(w.heap.size<=b/\b<w'.heap.size)) y v
def UM(P:Program):Nat->List Ty->Ty->FuncId->List D->D->Prop
 | 0,a,b,f,xs,y=>OP P a b f xs y
 | k+1,a,b,f,xs,y=>QB P a b f xs y (k+1)
def Hk(P:Program)(c:List Ty)(t:Ty)(f:FuncId)(xs:List D)(l:List D):Prop:=
 ∀ (w:World) (S:Nat->Nat->Prop) (vs:List Value),(∀ b o,S b o->b<w.heap.size)->fG c xs->vs.length=xs.length->(∀ (i:Nat) (x:D) (v:Value),xs[i]?=some x->vs[i]?=some v->gE w S x v) ->
  Calls P f vs.toArray w λe w'=>∃ a cap,e=.returned (.slice a l.length cap)/\(∃ os d,w.drawn<=d/\w'=grown w os d)/\am t=true/\(∀ x∈l,wt t x)/\∃ S':Nat->Nat->Prop,(∀ b o,S b o->S' b o)/\(∀ b o,S' b o->S b o\/(w.heap.size<=b/\b<w'.heap.size)) ∧
   CR w' S' (.sl l) (.slice a l.length cap)/\((a=none/\cap=0)\/∃ b off,a=some ⟨b,off,none⟩/\(w.heap.size<=b/\b<w'.heap.size)/\(∃ n,nk w' b=some n/\off+cap*t.size<=n)/\∀ o,off+l.length*t.size<=o->¬ S' b o)
def Ku(P:Program)(own:Bool)(k:Nat)(a:List Ty)(b:Ty)(f:FuncId)(xs:List D)(y:D):Prop:=
 UM P k a b f xs y/\(own=true->∃ t l,b=.sl t/\y=.sl l/\Hk P a t f xs l)
def Hz(P:Program)(f:FuncId)(g:Ann->(R:Type)->St->List AV->(AV->St->Option R)->Option R):Prop:=
 ∀ (ann:Ann) (R:Type) (w0:Root) (S:Nat->Nat->Prop) (γ:Nat->Option Nat) (β:Nat->Option (Nat×Nat)) (s:St) (a:Act) (w:World) (b:List AV) (vs:List Value) (K:AV->St->Option R) (r:R),
  Rp w0 S γ β s a w->b.length=vs.length->(∀ (i:Nat) (x:AV) (v:Value),b[i]?=some x->vs[i]?=some v->AR ⟨w,S,γ,β,s.ob,s.dead⟩ x v)->g ann R s b K=some r ->
  Calls P f vs.toArray w λe w'=>∃ v y s' S' γ' β',e=.returned v/\K y s'=some r/\Rp w0 S' γ' β' s' a w'/\AR ⟨w',S',γ',β',s'.ob,s'.dead⟩ y v/\Fm s S γ a w S' γ' a w'/\Sk s s'
abbrev FW(ro:Option Nat):Fence:={ Fence.wide with round:=ro }
def IE:Ex->Exit
 | .normal=>.normal
 | .exit i=>.exit i
 | .ret=>.ret
def Hj(P:Program)(f:Code->Ann->(R:Type)->St->(Ex->St->Option R)->Option R):Prop:=
 ∀ (ro:Option Nat) (nn:Nat) (w0:Root) (c:Code) (ann:Ann) (R:Type) (Q:Exit->Act->World->Prop) (S:Nat->Nat->Prop) (γ:Nat->Option Nat) (β:Nat->Option (Nat×Nat)) (s:St) (a:Act) (w:World) (k:Ex->St->Option R) (r:R),
  (∀ l,ro=some l->∃ r0,w.heap[l]?=some (Obj.loop r0))->Rp w0 S γ β s a w->f c ann R s k=some r ->
  (∀ e s' S' γ' β' a' w',Rp w0 S' γ' β' s' a' w'->Fm s S γ a w S' γ' a' w'->Sk s s'->k e s'=some r->Q (IE e) a' w')->c.wpIn (FW ro) nn P Q a w
structure EnvOk(P:Program)(E:Env):Prop where
 lay:∀ t ty,E.L t=some ty->(∃ ts,ty=.tup ts)\/bJ P ty t=true
 high:∀ t ty,E.L t=some ty->ty.high<=1000
 flat:∀ t ty,E.L t=some ty->am ty=true
 sig : ∀ f ptys rty, E.sig f = some (ptys, rty) -> bq ptys = true /\ (am rty = true \/ ∃ ts, rty = .tup ts /\ bq ts = true) /\ ∃ fn, P.funcs[f]? = some fn /\ (fn.name == "runtime.NumGoroutine") = false /\ fn.body.isSome = true
 call:∀ f ptys rty xs y,E.sig f=some (ptys,rty)->E.call f xs=some y->fG ptys xs->Ku P (E.ownF f) (E.free f) ptys rty f xs y
 mixed:P.follows .mixedOrders=true
 lp:∀ (α β:Type) (body:α->Option (Sum α β)) (x:α) (y:β),E.lp body x=some y->∃ n,p9 body n x=some y
 mapL:∀ t kt vt,E.mapL t=some (kt,vt)->bV kt=true/\∃ K V,P.underlying t=some (.map K V)/\bJ P kt K=true/\bJ P vt V=true/\kt.high<=1000
 inl : ∀ f g, E.inl f = some g -> (∃ fn, P.funcs[f]? = some fn /\ (fn.name == "runtime.NumGoroutine") = false /\ fn.body.isSome = true) /\ Hz P f g
 cod:Hj P E.cod
 fnT:∀ t,E.fnT t=true->MT P t=true
def fV{P:Program}{t:TypeId}{ty:Ty}(h:pX P t ty=true):∃ i z,P.info? t=some i/\i.size=ty.size/\(i.bytes<=16384/\ty.size<=4096)/\i.zero=some z/\cS (aq ty).flat z.cells.toList=true/\((∃ cs,z=.agg cs)↔cU ty=true):=by unfold pX at h;all_goals grind
def gQ{P:Program}{t:TypeId}{ty:Ty}(h:bJ P ty t=true):pX P t ty=true:=by
 cases ty<;>simp only[bJ,zaa] at h<;>first
  | exact h.1
  | exact h.1.1
  | exact h.1.1.1
  | cases h
def xI{P:Program}{t:TypeId}:∀ {ty:Ty},bJ P ty t=true->(∃ a,ty=.tup a)\/ty=.fn->False:=by grind [bJ]
def cm{P:Program}{t:TypeId}{ty:Ty}(h:bJ P ty t=true)(w:World):(sizeOf t).run P w=.ok ty.size w:=by obtain⟨i,z,h1,h2,_⟩:=fV (gQ h);exact vY (by rw[h1];simp[h2]) w
def EP{P:Program}{t:TypeId}{ty:Ty}(h:bJ P ty t=true)(w:World):(isAgg t).run P w=.ok (cU ty) w:=by
 have key:∀ d,P.underlying t=some d->(isAgg t).run P w=.ok (match d with|.struct _|.array _ _=>true|_=>false) w:=λd a=>by unfold isAgg;rw[zla,run_underlying a w];cases d<;>rfl
 cases ty<;>simp only[bJ,zaa] at h
 case int k=>obtain⟨_,h⟩:=h;split at h<;>first|(rename_i hu;rw[key _ hu];rfl)|cases h
 case bool=>obtain⟨_,h⟩:=h;split at h<;>first|(rename_i hu;rw[key _ hu];rfl)|cases h
 case str=>obtain⟨_,h⟩:=h;split at h<;>first|(rename_i hu;rw[key _ hu];rfl)|cases h
 case st ts=>obtain⟨_,h⟩:=h;split at h<;>first|(rename_i hu;rw[key _ hu];rfl)|cases h
 case arr n e=>obtain⟨_,h⟩:=h;split at h<;>first|(rename_i hu;rw[key _ hu];rfl)|cases h
 case sl e=>obtain⟨_,h⟩:=h;split at h<;>first|(rename_i hu;rw[key _ hu];rfl)|cases h
 all_goals cases h
def jH{P:Program}{t:TypeId}{b:List Ty}(h:bJ P (.st b) t=true):∃ a,P.underlying t=some (.struct a)/\gt P b a.toList 0=true:=by simp only[bJ,zaa] at h;all_goals grind
def eO{P:Program}{t:TypeId}{n:Nat}{e:Ty}(h:bJ P (.arr n e) t=true):∃ u,P.underlying t=some (.array n u)/\bJ P e u=true:=by simp only[bJ,zaa] at h;all_goals grind
def jG{P:Program}{t:TypeId}{e:Ty}(h:bJ P (.sl e) t=true):∃ u,P.underlying t=some (.slice u)/\bJ P e u=true:=by simp only[bJ,zaa] at h;all_goals grind
def ke{P:Program}{t:TypeId}{k:IntKind}(h:bJ P (.int k) t=true):P.underlying t=some (.int k):=by simp only[bJ,zaa] at h;all_goals grind
theorem t7{P:Program}:∀ {a:List Ty} {c:List Field} {off i:Nat} {t:Ty},gt P a c off=true->a[i]?=some t->∃ f,c[i]?=some f/\f.offset=off+acr (a.take i)/\0<t.size/\bJ P t f.type=true
 | [],_,_,_,_,_,h=>by simp at h
 | u::a,[],_,_,_,h,_=>by simp[gt] at h
 | u::a,f::c,off,i,t,h,b=>by
  simp only[gt,zaa,zfa] at h;obtain⟨⟨⟨⟨h1,_⟩,h2⟩,h3⟩,d⟩:=h;cases i with
  | zero=>simp at b;subst b;exact⟨f,rfl,by simp[acr,h1],h2,h3⟩
  | succ i=>
   simp at b;obtain⟨g,e,j,k⟩:=t7 d b
   simp_all [e,j,acr,zVb]
def nag(cs:List Value):Prop:=∀ v∈cs,v.oneCell'=true
theorem c8.nag{w:World}{S:Nat->Nat->Prop}{a:List D}{cs:List Value}(h:c8 w S a cs):nag cs:=by
 intro v c;obtain⟨i,b,he⟩:=zYa c;have h1:cs[i]?=some v:=by simp_all
 have h2:i<a.length:=by rw[h.1];exact b
 have h3:=h.2 i _ v (zca h2) h1;revert h3;generalize a[i]=d;intro h3;cases h3<;>rfl
def Dp{a b:List Value}(h:nag a)(k:nag b):nag (a++b):=λv c=>by
 rcases List.mem_append.1 c with h1|h1
 ·exact h v h1
 ·exact k v h1
mutual
theorem iK{c:Cx}:∀ (a:AV) (t:Ty) (cs:List Value),AV.fits t a=true->AC c a cs->cs.length=t.size/\nag cs
 | .d t' x,t,cs,hf,h=>by
  have hf':t.beq t'=true:=by cases t<;>simpa only[AV.fits] using hf
  rw[aco _ _ hf'];simp only[AC] at h;exact⟨by rw[<-h.2.2.1];exact cH _ _ h.1 h.2.1,h.2.2.nag⟩
 | .own t' v l,t,cs,hf,h=>by
  cases t<;>simp only[AV.fits] at hf<;>first|cases hf|skip
  simp only[AC] at h;obtain⟨_,_,a,cap,rfl,_⟩:=h;exact⟨rfl,λv hv=>by simp at hv;subst hv;rfl⟩
 | .nils,t,cs,hf,h=>by
  cases t<;>simp only[AV.fits] at hf<;>first|cases hf|skip
  simp only[AC] at h;subst h;exact⟨rfl,λv hv=>by simp at hv;subst hv;rfl⟩
 | .st ts' l,t,cs,hf,h=>by
  cases t<;>simp only[AV.fits] at hf<;>first|cases hf|skip
  rename_i ts;simp only[zaa] at hf;simp only[AC] at h;simp only[Ty.size];exact D4 l ts cs hf.2 h.2.2
 | .ptr ..,t,cs,hf,_=>by cases t<;>simp[AV.fits] at hf
 | .fptr ..,t,cs,hf,_=>by cases t<;>simp[AV.fits] at hf
 | .mem ..,t,cs,hf,_=>by cases t<;>simp[AV.fits] at hf
 | .clo ..,t,cs,hf,_=>by cases t<;>simp[AV.fits] at hf
 | .map ..,t,cs,hf,_=>by cases t<;>simp[AV.fits] at hf
 | .sub ..,t,cs,hf,_=>by cases t<;>simp[AV.fits] at hf
 | .yld ..,t,cs,hf,_=>by cases t<;>simp[AV.fits] at hf
 | .gone,t,cs,hf,_=>by cases t<;>simp[AV.fits] at hf
 | .undef,t,cs,hf,_=>by cases t<;>simp[AV.fits] at hf
theorem D4{c:Cx}:∀ (l:List AV) (ts:List Ty) (cs:List Value),AV.fitss ts l=true->lH c l cs->cs.length=acr ts/\nag cs
 | [],ts,cs,hf,h=>by
  cases ts<;>simp only[AV.fitss] at hf<;>first|cases hf|skip
  simp only[lH] at h;subst h;exact⟨rfl,λv hv=>by simp at hv⟩
 | a::l,ts,cs,hf,h=>by
  cases ts<;>simp only[AV.fitss] at hf<;>first|cases hf|skip
  simp only[zaa] at hf;simp only[lH] at h;obtain⟨c1,c2,rfl,h1,h2⟩:=h;obtain⟨k1,k2⟩:=iK a _ c1 hf.1 h1;obtain⟨k3,k4⟩:=D4 l _ c2 hf.2 h2;exact⟨by simp[acr,k1,k3],Dp k2 k4⟩
end
def gI(t:Ty)(cs:List Value)(v:Value):Prop:=v.cells.toList=cs/\(cU t=true->∃ xs,v=.agg xs)/\(cU t=false->∀ xs,v≠.agg xs)
mutual
theorem aH{P:Program}:∀ (ty:Ty) (t:TypeId),bJ P ty t=true->am ty=true
 | .int _,_,_=>rfl
 | .bool,_,_=>rfl
 | .str,_,_=>rfl
 | .st ts,t,h=>by obtain⟨fs,_,h2⟩:=jH h;simp only[am];exact sW ts _ _ h2
 | .arr n e,t,h=>by obtain⟨u,_,h2⟩:=eO h;simp only[am];exact aH e u h2
 | .sl e,t,h=>by obtain⟨u,_,h2⟩:=jG h;simp only[am];exact aH e u h2
 | .tup _,t,h=>by simp[bJ] at h
 | .fn,t,h=>by simp[bJ] at h
theorem sW{P:Program}:∀ (ts:List Ty) (fs:List Field) (off:Nat),gt P ts fs off=true->bq ts=true
 | [],_,_,_=>rfl
 | t::ts,[],_,h=>by simp[gt] at h
 | t::ts,f::fs,off,h=>by simp only[gt,zaa] at h;simp only[bq,zaa];exact⟨aH t _ h.1.2,sW ts fs _ h.2⟩
end
def pA{t:Ty}{x:D}{v:Value}(h:wt t x)(hn:am t=true)(hs:Tr x v):(cU t=true->∃ xs,v=.agg xs)/\(cU t=false->∀ xs,v≠.agg xs):=by
 cases t<;>simp only[wt] at h
 case int k=>obtain⟨n,rfl⟩:=h;exact⟨λh=>by simp[cU] at h,λ_=>hs⟩
 case bool=>obtain⟨n,rfl⟩:=h;exact⟨λh=>by simp[cU] at h,λ_=>hs⟩
 case str=>obtain⟨n,rfl⟩:=h;exact⟨λh=>by simp[cU] at h,λ_=>hs⟩
 case st ts=>obtain⟨n,rfl,_⟩:=h;exact⟨λ_=>hs,λh=>by simp[cU] at h⟩
 case arr m ts=>obtain⟨n,rfl,_⟩:=h;exact⟨λ_=>hs,λh=>by simp[cU] at h⟩
 case sl ts=>obtain⟨n,rfl,_⟩:=h;exact⟨λh=>by simp[cU] at h,λ_=>hs⟩
 case tup ts=>simp[am] at hn
def ur{t:Ty}{x:D}{v:Value}(h:wt t x)(hn:am t=true)(hs:(cU t=true->∃ xs,v=.agg xs)/\(cU t=false->∀ xs,v≠.agg xs)):Tr x v:=by
 cases t<;>simp only[wt] at h
 case int k=>obtain⟨n,rfl⟩:=h;exact hs.2 rfl
 case bool=>obtain⟨n,rfl⟩:=h;exact hs.2 rfl
 case str=>obtain⟨n,rfl⟩:=h;exact hs.2 rfl
 case st ts=>obtain⟨n,rfl,_⟩:=h;exact hs.1 rfl
 case arr m ts=>obtain⟨n,rfl,_⟩:=h;exact hs.1 rfl
 case sl ts=>obtain⟨n,rfl,_⟩:=h;exact hs.2 rfl
 case tup ts=>simp[am] at hn
def AL{c:Cx}{t:Ty}{a:AV}{v:Value}(hf:AV.fits t a=true)(hn:am t=true)(h:AR c a v):AC c a v.cells.toList/\gI t v.cells.toList v:=by
 cases a
 case d t' x=>
  have b:t.beq t'=true:=by simp_all [AV.fits]
  have he:=aco _ _ b;subst he;simp only[AR] at h;rcases h with⟨h1,h2,h3⟩|⟨e,rfl,_⟩
  ·refine⟨by simp only[AC];exact⟨h2,h1,h3.2⟩,rfl,pA h2 h1 h3.1⟩
  ·simp[am] at hn
 case own t' v' l=>
  cases t<;>simp only[AV.fits] at hf<;>first|cases hf|skip
  simp only[AR] at h;exact⟨h.2,rfl,by simp[cU],λ_=>h.1⟩
 case nils=>
  cases t<;>simp only[AV.fits] at hf<;>first|cases hf|skip
  simp only[AR] at h;exact⟨h.2,rfl,by simp[cU],λ_=>h.1⟩
 case st e l=>
  cases t<;>simp only[AV.fits] at hf<;>first|cases hf|skip
  simp only[AR] at h;exact⟨h.2,rfl,λ_=>h.1,by simp[cU]⟩
 all_goals simp_all [AV.fits]
def w8{c:Cx}{t:Ty}{a:AV}{v:Value}{cs:List Value}(hf:AV.fits t a=true)(h:AC c a cs)(g:gI t cs v):AR c a v:=by
 obtain⟨b,e⟩:=g;cases a
 case d t' x=>
  have f:t.beq t'=true:=by simp_all [AV.fits]
  have he:=aco _ _ f;subst he;simp only[AC] at h;simp only[AR];exact .inl ⟨h.2.1,h.1,ur h.1 h.2.1 e,by rw[b];exact h.2.2⟩
 case own t' v' l=>
  cases t<;>simp only[AV.fits] at hf<;>first|cases hf|skip
  simp only[AR];exact⟨e.2 rfl,by rw[b];exact h⟩
 case nils=>
  cases t<;>simp only[AV.fits] at hf<;>first|cases hf|skip
  simp only[AR];exact⟨e.2 rfl,by rw[b];exact h⟩
 case st ts l=>
  cases t<;>simp only[AV.fits] at hf<;>first|cases hf|skip
  simp only[AR];exact⟨e.1 rfl,by rw[b];exact h⟩
 all_goals simp_all [AV.fits]
def kh{P:Program}{t:Ty}{T:TypeId}(hl:bJ P t T=true){w:World}{b off:Nat}{cs:List Value}(hlen:cs.length=t.size)(hn:nag cs)
  (hc:∀ (i:Nat) (c:Value),cs[i]?=some c->w.cell? ⟨b,off+i,none⟩=some c):∃ v,(Instr.loadAt T (.pointer (some ⟨b,off,none⟩))).run P w=.ok v w/\gI t cs v:=by
 unfold Instr.loadAt Instr.sureAddr;simp only[pure_bind];unfold loadVar;rw[zla,EP hl,zga];cases ha:cU t
 ·have h1:cs.length=1:=by
   rw[hlen];cases t<;>simp[cU] at ha<;>first|rfl|(exfalso;exact xI hl (.inl ⟨_,rfl⟩))
  match cs,h1 with
  | [c],_=>
   refine⟨c,?_,?_⟩
   ·have:=hc 0 c rfl
    simp_all
   ·have h2:=hn c j3
    refine⟨?_,?_,?_⟩
    ·cases c<;>simp_all [Value.cells,Value.oneCell']
    ·simp_all
    ·grind [Value.oneCell']
 ·have h2:=run_loadCells_list (P:=P) w ⟨b,off,none⟩ cs (λj v a=>by rw[de];exact hc j v a)
  rw[hlen] at h2;refine⟨.agg cs.toArray,?_,rfl,λ_=>⟨_,rfl⟩,by rw[ha];intro h;cases h⟩
  simp only[if_true,zla,cm hl,zga,h2,zra]
def PD{P:Program}{T:TypeId}(hl:MT P T=true)(w:World):(isAgg T).run P w=.ok false w:=by
 simp only[MT,zaa] at hl;have h2:=hl.2;split at h2<;>first|(cases h2;done)|skip
 rename_i d h3 a b;unfold isAgg;rw[zla,run_underlying b w];cases d<;>first|rfl|exact z3a rfl (h3 _)|exact z3a rfl (a _ _)
def EE{P:Program}{T:TypeId}(hl:MT P T=true):∃ i z,P.info? T=some i/\i.size=1/\i.bytes<=16384/\i.zero=some z/\z.cells.toList.length=1/\z.oneCell'=true:=by
 simp only[MT,zaa] at hl;have h1:=hl.1;split at h1<;>first|(cases h1;done)|skip
 rename_i i a;simp only[zaa,zfa] at h1;obtain⟨⟨h1,h2⟩,h3⟩:=h1;split at h3<;>first|(cases h3;done)|skip
 rename_i z b;simp only[zaa,zfa] at h3;exact⟨i,z,a,h1,h2,b,h3.1,h3.2⟩
def Ck{P:Program}{T:TypeId}(hl:MT P T=true){w:World}{b:Nat}{x:Value}(a:bO w b=some #[x]):(Instr.loadAt T (.pointer (some ⟨b,0,none⟩))).run P w=.ok x w:=by unfold Instr.loadAt Instr.sureAddr;simp only[pure_bind];unfold loadVar;rw[zla,PD hl,zga];have:=cell_of_row _ a 0;simp at this;simp[this]
def qu{P:Program}{t:Ty}{T:TypeId}(hl:bJ P t T=true){w:World}{b off:Nat}{c:Array Value}{v:Value}{cs:List Value}(d:bO w b=some c)(a:gI t cs v)(hlen:cs.length=t.size)(hn:nag cs)(e:off+cs.length<=c.size) :
  (Instr.storeAt T (.pointer (some ⟨b,off,none⟩)) v).run P w=.ok () (putAt w b off cs.toArray):=by
 unfold Instr.storeAt Instr.sureAddr;simp only[pure_bind];unfold storeVar;have h1:v.cells.size=t.size:=by rw[<-zRb,a.1,hlen]
 have h2:=cP (P:=P) b off cs 0 w c d j1 (by rw[zCa];intro x hx;have:=hn x hx;cases x<;>simp_all [Value.oneCell',mz])
 simp only[zmc] at h2;simp only[zla,cm hl,zga,h1,ne_eq,not_true_eq_false,if_false,a.1,h2]
def ru{v:Value}(h:v.oneCell'=true):v.cells=#[v]:=by cases v<;>simp_all [Value.cells,Value.oneCell']
def Ah{P:Program}{T:TypeId}(hl:MT P T=true){w:World}{b:Nat}{x v:Value}(c:bO w b=some #[x])(d:v.oneCell'=true) :
  (Instr.storeAt T (.pointer (some ⟨b,0,none⟩)) v).run P w=.ok () (putAt w b 0 #[v]):=by
 unfold Instr.storeAt Instr.sureAddr;simp only[pure_bind];unfold storeVar;obtain⟨i,z,a,h1,_⟩:=EE hl;have h2:=cP (P:=P) b 0 [v] 0 w _ c j3 (by simp;cases v<;>simp_all [Value.oneCell',mz])
 simp only[zmc] at h2;simp only[zla,vY (n:=1) (by rw[a];simp[h1]) w,zga,ru d,zDc,List.length_singleton,ne_eq,not_true_eq_false,if_false,h2]
def Nx{c:Cx}{a:AV}{v:Value}(h:mA a=true)(k:AR c a v):v.oneCell'=true:=by
 cases a<;>simp only[mA] at h<;>first|(cases h;done)|skip
 all_goals simp only[AR,AC] at k
 ·obtain⟨b,_,d,_⟩:=k;rw[ar b d];rfl
 ·obtain⟨b,_,d,_⟩:=k;rw[ar b d];rfl
 ·obtain⟨b,_,d,_⟩:=k;rw[ar b d];rfl
end Sy
end
end Go.Proofs.YtphlmegkommlnaaGreatDoor
