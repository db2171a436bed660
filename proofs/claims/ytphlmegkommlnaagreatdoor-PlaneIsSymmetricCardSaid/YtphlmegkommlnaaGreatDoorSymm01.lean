/- Part 1 of the proof that PlaneIsSymmetric answers true at every input -/
import Derived.WalkKit
import Derived.WalkSpells
import Derived.WalkLawsBesides
import Derived.Deep.QuietTactic
import Derived.BigQuiet
import Derived.Deep.Draws
import Derived.Lib.Hide
import Derived.StillTail
import Derived.Laws.StructEq
set_option linter.unusedVariables false
set_option linter.unusedSimpArgs false
set_option linter.unnecessarySimpa false
set_option linter.defProp false
set_option maxRecDepth 20000
namespace Go.Proofs.YtphlmegkommlnaaGreatDoor
noncomputable section
open Go.RowKit
abbrev zaa:=@Bool.and_eq_true
abbrev zba:=@Option.bind_some
abbrev zca:=@Option.some.injEq
abbrev zda:=@List.getElem?_eq_getElem
abbrev zea:=@Result.andThen_ok
abbrev zfa:=@Array.getElem?_eq_some_iff
abbrev zga:=@Sem.run_bind
abbrev zha:=@Nat.le_refl
abbrev zia:=@List.mem_cons_of_mem
abbrev zja:=@List.getElem?_eq_some_iff
abbrev zka:=@List.all_eq_true
abbrev zla:=@Sem.run_pure
abbrev zma:=@Nat.zero_le
abbrev zna:=@Nat.lt_or_ge
abbrev zoa:=@List.mem_cons_self
abbrev zpa:=@List.take_append_drop
abbrev zqa:=@Int.natAbs_natCast
abbrev zra:=@Nat.two_pow_pos
abbrev zsa:=@Nat.pow_le_pow_right
abbrev zta:=@List.length_append
abbrev zua:=@List.length_map
abbrev zva:=@List.mem_cons
abbrev zwa:=@Bool.false_eq_true
abbrev zxa:=@List.take_succ_eq_append_getElem
abbrev zya:=@Array.getElem?_toList
abbrev zza:=@List.length_cons
abbrev zAa:=@Nat.mul_le_mul_right
abbrev zBa:=@Nat.mul_comm
abbrev zCa:=@List.pairwise_cons
abbrev zDa:=@Nat.le_trans
abbrev zEa:=@List.append_assoc
abbrev zFa:=@Bool.not_eq_true'
abbrev zGa:=@List.mem_of_mem_take
abbrev zHa:=@List.mem_singleton
abbrev zIa:=@List.getElem_mem
abbrev zJa:=@Nat.mod_eq_of_lt
abbrev zKa:=@Nat.lt_of_le_of_lt
abbrev zLa:=@Int.natAbs_mul
abbrev zMa:=@Int.le_of_lt
abbrev zNa:=@List.mem_range
abbrev zOa:=@Nat.lt_of_lt_of_le
abbrev zPa:=@Nat.mod_lt
abbrev zQa:=@List.mem_append_right
abbrev zRa:=@List.getElem_of_mem
abbrev zSa:=@Nat.div_lt_iff_lt_mul
abbrev zTa:=@Nat.div_div_eq_div_mul
abbrev zUa:=@List.getElem?_eq_none
abbrev zVa:=@Int.natCast_mul
abbrev zWa:=@Nat.div_eq_of_lt
abbrev zXa:=@Nat.mul_assoc
abbrev zYa:=@Nat.add_mul
abbrev zZa:=@Nat.mul_le_mul_left
abbrev z0a:=@List.mem_of_getElem?
abbrev z1a:=@Int.ofNat_dvd_left
abbrev z2a:=@Nat.mul_le_mul
abbrev z3a:=@List.take_length
abbrev z4a:=@List.map_cons
abbrev z5a:=@List.getD_eq_getElem?_getD
abbrev z6a:=@Nat.zero_add
abbrev z7a:=@List.mem_map
abbrev z8a:=@List.getElem?_map
abbrev z9a:=@Int.mul_ediv_cancel_left
abbrev zab:=@List.mem_flatMap
abbrev zbb:=@Nat.gcd_dvd_left
abbrev zcb:=@List.length_take
abbrev zdb:=@List.getElem?_cons_succ
abbrev zeb:=@List.getElem?_append_left
abbrev zfb:=@List.getElem?_drop
abbrev zgb:=@List.take_of_length_le
abbrev zhb:=@Nat.pow_add
abbrev zib:=@List.cons_append
abbrev zjb:=@Nat.pow_succ
abbrev zkb:=@Option.map_some
abbrev zlb:=@Nat.min_eq_left
abbrev zmb:=@List.length_nil
abbrev znb:=@Int.lt_or_eq_of_le
abbrev zob:=@List.drop_eq_getElem_cons
abbrev zpb:=@Nat.mul_lt_mul_of_pos_right
abbrev zqb:=@List.getElem?_take_of_lt
abbrev zrb:=@Int.mul_pos
abbrev zsb:=@Rat.num_divInt_den
abbrev ztb:=@Nat.eq_zero_or_pos
abbrev zub:=@List.getElem?_append_right
abbrev zvb:=@Nat.add_sub_cancel_left
abbrev zwb:=@Nat.add_assoc
abbrev zxb:=@Option.getD_some
abbrev zyb:=@Int.mul_le_mul_of_nonneg_left
abbrev zzb:=@Nat.gcd_dvd_right
abbrev zAb:=@List.pairwise_iff_getElem
abbrev zBb:=@Array.getElem?_eq_getElem
abbrev zCb:=@Bool.or_eq_true
abbrev zDb:=@Array.length_toList
abbrev zEb:=@List.getElem?_cons_zero
abbrev zFb:=@List.all_cons
abbrev zGb:=@Int.lt_trichotomy
abbrev zHb:=@Nat.add_mul_div_left
abbrev zIb:=@List.mem_of_mem_drop
abbrev zJb:=@Array.mem_toList_iff
abbrev zKb:=@Nat.le_mul_of_pos_left
abbrev zLb:=@List.append_nil
abbrev zMb:=@Int.mul_neg_of_pos_of_neg
abbrev zNb:=@Bool.not_false
abbrev zOb:=@Bool.true_and
abbrev zPb:=@Nat.mul_add
abbrev zQb:=@List.length_range
abbrev zRb:=@Int.mul_nonneg
abbrev zSb:=@Nat.div_add_mod
abbrev zTb:=@Nat.add_zero
abbrev zUb:=@List.not_mem_nil
abbrev zVb:=@List.take_succ_cons
abbrev zWb:=@List.mem_map_of_mem
abbrev zXb:=@Bool.eq_false_iff
abbrev zYb:=@Int.mul_pos_of_neg_of_neg
abbrev zZb:=@Nat.lt_trans
abbrev z0b:=@Nat.le_div_iff_mul_le
abbrev z1b:=@List.range_succ
abbrev z2b:=@List.nil_append
abbrev z3b:=@List.map_append
abbrev z4b:=@List.Nodup.length_le_of_subset
abbrev z5b:=@Array.mem_of_getElem?
abbrev z6b:=@Int.not_lt
abbrev z7b:=@List.any_eq_true
abbrev z8b:=@Array.toArray_toList
abbrev z9b:=@List.map_drop
abbrev zac:=@Bool.not_true
abbrev zbc:=@List.ext_getElem?
abbrev zcc:=@Array.ext'
abbrev zdc:=@Nat.div_mul_le_self
abbrev zec:=@List.map_congr_left
abbrev zfc:=@List.foldl_cons
abbrev zgc:=@List.drop_of_length_le
abbrev zhc:=@Nat.le_of_lt
abbrev zic:=@Nat.eq_of_beq_eq_true
abbrev zjc:=@List.length_filter_le
abbrev zkc:=@Int.mul_comm
abbrev zlc:=@Int.lt_or_le
abbrev zmc:=@Int.natAbs_neg
abbrev znc:=@Nat.gcd_pos_of_pos_right
abbrev zoc:=@Nat.div_le_self
abbrev zpc:=@List.mem_filter
abbrev zqc:=@Nat.pow_zero
abbrev zrc:=@Nat.add_comm
abbrev zsc:=@Int.zero_add
abbrev ztc:=@Nat.le_succ
abbrev zuc:=@List.length_eq_zero_iff
abbrev zvc:=@Int.eq_ofNat_of_zero_le
abbrev zwc:=@Nat.not_lt
abbrev zxc:=@List.mem_filterMap
abbrev zyc:=@Nat.one_mul
abbrev zzc:=@Nat.gcd_comm
abbrev zAc:=@List.getElem?_toArray
abbrev zBc:=@List.any_append
abbrev zCc:=@Int.mul_eq_zero
abbrev zDc:=@List.size_toArray
abbrev zEc:=@Int.natAbs_add_le
abbrev zFc:=@Int.lt_irrefl
abbrev zGc:=@Int.mul_lt_mul_of_pos_left
abbrev zHc:=@Int.fdiv_eq_ediv_of_nonneg
abbrev zIc:=@Nat.div_lt_of_lt_mul
abbrev zJc:=@List.getElem?_append
abbrev zKc:=@Array.getElem_append
abbrev zLc:=@List.mem_or_eq_of_mem_set
abbrev zMc:=@Nat.mul_lt_mul''
abbrev zNc:=@Nat.le_add_right
abbrev zOc:=@Nat.div_one
abbrev zPc:=@List.drop_succ_cons
abbrev zQc:=@Int.neg_ediv_of_dvd
abbrev zRc:=@List.Pairwise.imp_of_mem
abbrev zSc:=@Int.mul_zero
abbrev zTc:=@Int.toNat_natCast
abbrev zUc:=@Array.getElem?_setIfInBounds_ne
abbrev zVc:=@Int.ofNat_tmod
abbrev zWc:=@Rat.divInt_mul_divInt
abbrev zXc:=@Nat.add_mul_div_right
abbrev zYc:=@Int.zero_mul
abbrev zZc:=@Int.mul_le_mul_of_nonneg_right
abbrev z0c:=@Array.getElem?_modify
abbrev z1c:=@List.drop_length
abbrev z2c:=@Nat.dvd_trans
abbrev z3c:=@Nat.mod_one
abbrev z4c:=@List.getElem?_range
abbrev z5c:=@List.all_append
abbrev z6c:=@Int.natCast_add
abbrev z7c:=@Bool.eq_iff_iff
abbrev z8c:=@Nat.sub_self
abbrev z9c:=@Nat.mul_zero
abbrev zad:=@List.mem_replicate
abbrev zbd:=@List.map_nil
abbrev zcd:=@Nat.add_mul_mod_self_left
abbrev zdd:=@List.mapM_cons
abbrev zed:=@Bool.false_and
abbrev zfd:=@Array.mapM_eq_mapM_toList
abbrev zgd:=@Nat.lt_trichotomy
abbrev zhd:=@List.eq_of_mem_replicate
abbrev zid:=@Int.mul_tdiv_cancel_left
abbrev zjd:=@Array.toList_push
abbrev zkd:=@Nat.mul_one
abbrev zld:=@Nat.le_mul_of_pos_right
abbrev zmd:=@Int.le_refl
abbrev znd:=@Bool.false_or
abbrev zod:=@Nat.lt_succ_self
abbrev zpd:=@Int.natCast_ediv
abbrev zqd:=@Rat.divInt_add_divInt
abbrev zrd:=@Option.some.inj
abbrev zsd:=@Nat.zero_mul
abbrev ztd:=@Nat.mul_succ
abbrev zud:=@Int.mul_ne_zero
abbrev zvd:=@Nat.le_sub_one_of_lt
abbrev zwd:=@Int.mul_ediv_cancel'
abbrev zxd:=@Array.push_eq_append
abbrev zyd:=@Array.getElem_toList
abbrev zzd:=@List.drop_drop
abbrev zAd:=@Int.ofNat_tdiv
abbrev zBd:=@Bool.false_xor
def grown(w:World)(os:List Obj)(d:Nat):World:={ w with heap:=w.heap++os.toArray,drawn:=d }
def bE(w:World)(b:Nat):Option (Array Value):=
 match w.heap[b]? with
 | some (.cells c _ (0,0))=>some c
 | _=>none
def ia(b:Nat)(w:World):Prop:=b<w.heap.size
def NC(b:Nat)(w:World)(os:List Obj):Prop:=b<os.length+w.heap.size
section
variable(w:World)(os os':List Obj)(d d':Nat)(o:Obj)(a:Addr)(v:Value)(b:Nat)
@[simp,go_sem] theorem size_grown:(grown w os d).heap.size=os.length+w.heap.size:=by simp[grown];omega
@[simp,go_sem] theorem tape_grown:(grown w os d).tape=w.tape:=rfl
@[simp,go_sem] theorem drew_grown:(grown w os d).drew=grown w os (d+1):=rfl
@[simp,go_sem] theorem drewN_grown (n:Nat):(grown w os d).drewN n=grown w os (d+n):=rfl
def cB{b:Nat}(h:b<w.heap.size):(grown w os d).heap[b]?=w.heap[b]?:=by
 simp[grown,Array.getElem?_append,h]
def C3:grown w [] w.drawn=w:=by simp[grown]
def db:w.alloc o=grown w [o] w.drawn:=by
 show({ w with heap:=w.heap.push o }:World)=_;grind [grown,Array.push_eq_append]
@[simp,go_sem] theorem row?_drew:bE w.drew b=bE w b:=rfl
@[simp,go_sem] theorem row?_drewN (n:Nat):bE (w.drewN n) b=bE w b:=rfl
def tz{c:Array Value}{t:TypeId}(h:b=w.heap.size):bE (w.alloc (.cells c t)) b=some c:=by
 subst h;show(match (w.heap.push (.cells c t))[w.heap.size]? with|some (.cells c _ (0,0))=>some c|_=>none)=_
 simp
@[simp,go_sem] theorem inHeap_setCell:ia b (w.setCell a v)=ia b w:=by simp[ia]
@[simp,go_sem] theorem inHeap_drew:ia b w.drew=ia b w:=rfl
@[simp,go_sem] theorem inHeap_drewN (n:Nat):ia b (w.drewN n)=ia b w:=rfl
theorem cell_of_row{b:Nat}{c:Array Value}(h:bE w b=some c)(j:Nat):w.cell? ⟨b,j,none⟩=c[j]?:=by
 unfold bE at h;split at h<;>simp at h;rename_i hb;subst h;simp[World.cell?,hb]
theorem frozen_of_row{b:Nat}{c:Array Value}(h:bE w b=some c)(j:Nat):w.frozen? ⟨b,j,none⟩=false:=by
 unfold bE at h;split at h<;>simp at h;rename_i hb;simp[World.frozen?,hb]
def dw(c:Array Value)(off:Nat)(cs:Array Value):Array Value:=c.extract 0 off++cs++c.extract (off+cs.size) c.size
def kp(c cs:Array Value)(off j:Nat)(h:off+cs.size<=c.size):(dw c off cs)[j]?=if j<off then c[j]? else if j<off+cs.size then cs[j-off]? else c[j]?:=by
 simp only[dw,Array.getElem?_append,Array.getElem?_extract,Array.size_append,Array.size_extract];all_goals grind
@[simp,go_sem] theorem splice_size (c cs:Array Value) (off:Nat) (h:off+cs.size<=c.size):(dw c off cs).size=c.size:=by
 simp[dw];omega
def qy(c:Array Value)(k:Nat)(v:Value)(l:List Value)(h:k+(l.length+1)<=c.size) :
  dw (c.setIfInBounds k v) (k+1) l.toArray=dw c k (v::l).toArray:=by
 apply Array.ext_getElem?;intro j;rw[kp _ _ _ _ (by simp;omega),kp _ _ _ _ (by simpa using h)]
 all_goals grind
def putAt(w:World)(b off:Nat)(cs:Array Value):World:=
 { w with heap:=w.heap.modify b λ
   | .cells c e f=>.cells (dw c off cs) e f
   | o=>o }
@[simp,go_sem] theorem inHeap_putAt (b' off:Nat) (cs:Array Value):ia b' (putAt w b off cs)=ia b' w:=by simp[ia,putAt]
@[simp,go_sem] theorem size_putAt (off:Nat) (cs:Array Value):(putAt w b off cs).heap.size=w.heap.size:=by simp[putAt]
@[simp,go_sem] theorem tape_putAt (off:Nat) (cs:Array Value):(putAt w b off cs).tape=w.tape:=rfl
end
attribute [irreducible] ia NC
def Av(P:Program)(T:TypeId)(a:Addr)(w:World):Result Value:=(loadVar T a).run P w
def A4(P:Program)(T:TypeId)(a:Addr)(v:Value)(w:World):Result Unit:=(storeVar T a v).run P w
def NK(P:Program)(T:TypeId)(b off n:Nat)(w:World):Option (Array Value)->Result Value
 | some c=>if off+n<=c.size then .ok (.agg (c.extract off (off+n))) w else Av P T ⟨b,off,none⟩ w
 | none=>Av P T ⟨b,off,none⟩ w
@[simp,go_sem] theorem ldRow_some (P:Program) (T:TypeId) (b off n:Nat) (w:World) (c:Array Value) :
  NK P T b off n w (some c)=if off+n<=c.size then .ok (.agg (c.extract off (off+n))) w else Av P T ⟨b,off,none⟩ w:=rfl
def kA:Value->Bool
 | .agg _|.tuple _=>false
 | _=>true
def NO(cs:Array Value):Bool:=cs.all kA
def NX(P:Program)(T:TypeId)(b off:Nat)(cs:Array Value)(w:World):Option (Array Value)->Result Unit
 | some c=>if off+cs.size<=c.size/\NO cs=true then .ok () (putAt w b off cs) else A4 P T ⟨b,off,none⟩ (.agg cs) w
 | none=>A4 P T ⟨b,off,none⟩ (.agg cs) w
@[simp,go_sem] theorem stRow_some (P:Program) (T:TypeId) (b off:Nat) (cs:Array Value) (w:World) (c:Array Value) :
  NX P T b off cs w (some c)=if off+cs.size<=c.size/\NO cs=true then .ok () (putAt w b off cs) else A4 P T ⟨b,off,none⟩ (.agg cs) w:=rfl
def tF{P:Program}{T:TypeId}{n:Nat}(h:(P.info? T).map (·.size)=some n)(w:World):(sizeOf T).run P w=.ok n w:=by
 cases hq:P.info? T with
 | none=>simp[hq] at h
 | some i=>
  simp_all [sizeOf,typeInfo]
def cN(b off j:Nat):(⟨b,off,none⟩:Addr).add j=⟨b,off+j,none⟩:=by unfold Addr.add;split<;>simp_all
theorem ck{P:Program}(b off:Nat):∀ (l:List Value) (i:Nat) (w:World) (c:Array Value),bE w b=some c->off+i+l.length<=c.size->l.all kA=true ->
  (storeCells ⟨b,off,none⟩ l i).run P w=.ok () (putAt w b (off+i) l.toArray)
 | [],i,w,c,hr,_,_=>by
  simp only[storeCells,zla];congr 1;unfold bE at hr;split at hr<;>simp at hr;rename_i hb;subst hr;have hlt:=(zfa.1 hb);obtain⟨hlt,hb'⟩:=hlt;simp only[putAt];have:w.heap.modify b (λ|.cells c e f=>.cells (dw c (off+i) #[]) e f|o=>o)=w.heap:=by
   apply Array.ext
   ·simp
   ·intro j h1 h2;simp only[Array.getElem_modify];split
    ·simp_all [dw]
    ·rfl
  simp_all
 | v::l,i,w,c,hr,hlen,hone=>by
  simp only[zFb,zaa] at hone;simp only[zza] at hlen;have hc:w.cell? ⟨b,off+i,none⟩=some c[off+i]:=by
   rw[cell_of_row w hr,zBb (by omega)]
  have hf:w.frozen? ⟨b,off+i,none⟩=false:=frozen_of_row w hr _;simp only[storeCells,zga];have hst:(store ((⟨b,off,none⟩:Addr).add i) v).run P w=.ok () (w.setCell ⟨b,off+i,none⟩ v):=by
   rw[cN];unfold store;cases v<;>simp_all [Sem.run,kA]
  rw[hst];simp only[zea];have hr':bE (w.setCell ⟨b,off+i,none⟩ v) b=some (c.setIfInBounds (off+i) v):=by
   unfold bE at hr ⊢;split at hr<;>simp at hr;rename_i hb;subst hr;simp only[World.setCell,z0c,if_true,hb,zkb,Option.isSome_none,zwa,if_false]
  rw[ck b off l (i+1) _ _ hr' (by simp;omega) hone.2]
  congr 1;unfold bE at hr;split at hr<;>simp at hr;rename_i hb;subst hr;obtain⟨hlt,hb'⟩:=(zfa.1 hb);simp only[putAt,World.setCell];congr 1;apply Array.ext
  ·simp
  ·intro j h1 h2;simp only[Array.getElem_modify];split
   ·rename_i h3;subst h3;simp only[hb',Option.isSome_none,zwa,if_false];rw[<-qy _ _ _ _ (by omega)]
    rfl
   ·rfl
def kw(place:Nat->Option (Nat×Nat))(cells:Array Value):List (Nat×Value)->Option (Array Value)
 | []=>some cells
 | (i,v)::rest=>
  match place i with
  | none=>none
  | some (off,size)=>if v.cells.size≠size\/off+v.cells.size>cells.size then none else kw place (dw cells off v.cells) rest
theorem nZ(off:Nat):∀ (l:List Value) (k:Nat) (cells:Array Value),off+k+l.length<=cells.size ->
  (l.zipIdx k).foldl (λcs (c,j)=>cs.setIfInBounds (off+j) c) cells=dw cells (off+k) l.toArray
 | [],k,cells,_=>by
  simp only[List.zipIdx_nil,List.foldl_nil,dw];all_goals simp_all
 | v::l,k,cells,h=>by
  simp only[zza] at h;simp only[List.zipIdx_cons,zfc];rw[nZ off l (k+1) _ (by simp;omega),show off+(k+1)=(off+k)+1 from by omega,qy _ _ _ _ (by omega)]
theorem nX(place:Nat->Option (Nat×Nat)):∀ (l:List (Nat×Value)) (cells:Array Value),Instr.fill place cells l=kw place cells l
 | [],cells=>rfl
 | (i,v)::rest,cells=>by
  simp only[Instr.fill,kw];cases place i with
  | none=>rfl
  | some q=>
   obtain⟨off,size⟩:=q;by_cases h:v.cells.size≠size\/off+v.cells.size>cells.size
   ·simp[h]
   ·simp only[h,if_false];have h':¬ (v.cells.size≠size||decide (off+v.cells.size>cells.size))=true:=by simpa using h
    have hle:off+0+v.cells.toList.length<=cells.size:=by simp;omega
    have e:=nZ off v.cells.toList 0 cells hle;simp only[zTb,z8b] at e;have e2:v.cells.zipIdx.foldl (λcs (c,j)=>cs.setIfInBounds (off+j) c) cells=dw cells off v.cells:=by
     rw[<-e,<-Array.foldl_toList];simp
    simp only[h',if_false,zwa,e2];exact nX place rest _
def sC{place:Nat->Option (Nat×Nat)}{cells:Array Value}{i off size:Nat}{v:Value}{rest:List (Nat×Value)}(hp:place i=some (off,size))(h1:v.cells.size=size)(h2:off+size<=cells.size) :
  kw place cells ((i,v)::rest)=kw place (dw cells off v.cells) rest:=by
 simp only[kw,hp];grind
section
variable{α:Type}{enc:α->Array Value}{c:Nat}(hc:∀ x,(enc x).size=c)
include hc
def nA(f:Nat->α)(k:Nat)(y:α):Nat->α:=λi=>if i=k then y else f i
end
end
noncomputable section
namespace Sy
open Go
inductive Ty where
 | int (k:IntKind)|bool|str|st (l:List Ty)|arr (n:Nat) (t:Ty)|sl (t:Ty)|tup (l:List Ty)|fn
mutual
def Ty.beq:Ty->Ty->Bool
 | .int k,.int k'=>decide (k=k')
 | .bool,.bool=>true
 | .str,.str=>true
 | .st l,.st l'=>Ty.beqs l l'
 | .arr n t,.arr n' t'=>decide (n=n')&&Ty.beq t t'
 | .sl t,.sl t'=>Ty.beq t t'
 | .tup l,.tup l'=>Ty.beqs l l'
 | .fn,.fn=>true
 | _,_=>false
def Ty.beqs:List Ty->List Ty->Bool
 | [],[]=>true
 | t::l,t'::l'=>Ty.beq t t'&&Ty.beqs l l'
 | _,_=>false
end
mutual
theorem Ty.eq_of_beq:∀ (t t':Ty),t.beq t'=true->t=t'
 | .int k,t',h=>by cases t'<;>simp[Ty.beq] at h;rw[h]
 | .bool,t',h=>by grind [Ty.beq]
 | .str,t',h=>by grind [Ty.beq]
 | .st l,t',h=>by cases t'<;>simp[Ty.beq] at h;rw[Ty.eqs_of_beqs _ _ h]
 | .arr n t,t',h=>by cases t'<;>simp[Ty.beq] at h;rw[h.1,Ty.eq_of_beq _ _ h.2]
 | .sl t,t',h=>by cases t'<;>simp[Ty.beq] at h;rw[Ty.eq_of_beq _ _ h]
 | .tup l,t',h=>by cases t'<;>simp[Ty.beq] at h;rw[Ty.eqs_of_beqs _ _ h]
 | .fn,t',h=>by grind [Ty.beq]
theorem Ty.eqs_of_beqs:∀ (l l':List Ty),Ty.beqs l l'=true->l=l'
 | [],l',h=>by grind [Ty.beqs]
 | t::l,l',h=>by
  cases l' with
  | nil=>simp[Ty.beqs] at h
  | cons t' l'=>simp[Ty.beqs] at h;rw[Ty.eq_of_beq _ _ h.1,Ty.eqs_of_beqs _ _ h.2]
end
mutual
def Ty.size:Ty->Nat
 | .st l=>Ty.sizes l
 | .arr n t=>n*t.size
 | .tup _=>0
 | _=>1
def Ty.sizes:List Ty->Nat
 | []=>0
 | t::l=>t.size+Ty.sizes l
end
inductive D where
 | int (k:IntKind) (n:Int)|bool (b:Bool)|str (s:ByteArray)|st (l:List D)|sl (l:List D)|tup (l:List D)
instance:Inhabited D:=⟨.bool false⟩
mutual
def D.flat:D->List D
 | .st l=>D.flats l
 | .int k n=>[.int k n]
 | .bool b=>[.bool b]
 | .str s=>[.str s]
 | .sl l=>[.sl l]
 | .tup l=>[.tup l]
def D.flats:List D->List D
 | []=>[]
 | d::l=>D.flat d++D.flats l
end
mutual
def wt:Ty->D->Prop
 | .int k,d=>∃ n,d=.int k n
 | .bool,d=>∃ b,d=.bool b
 | .str,d=>∃ s,d=.str s
 | .st ts,d=>∃ l,d=.st l/\er ts l
 | .arr n t,d=>∃ l,d=.st l/\l.length=n/\∀ x∈l,wt t x
 | .sl t,d=>∃ l,d=.sl l/\∀ x∈l,wt t x
 | .tup ts,d=>∃ l,d=.tup l/\er ts l
 | .fn,_=>False
def er:List Ty->List D->Prop
 | [],l=>l=[]
 | t::ts,l=>∃ d l',l=d::l'/\wt t d/\er ts l'
end
mutual
def D.beq:D->D->Bool
 | .int k n,.int k' n'=>decide (k=k')&&decide (n=n')
 | .bool b,.bool b'=>b==b'
 | .str s,.str s'=>decide (s=s')
 | .st l,.st l'=>D.beqs l l'
 | _,_=>false
def D.beqs:List D->List D->Bool
 | [],[]=>true
 | t::l,t'::l'=>D.beq t t'&&D.beqs l l'
 | _,_=>false
end
mutual
def ar:Ty->D
 | .int k=>.int k 0
 | .bool=>.bool false
 | .str=>.str ByteArray.empty
 | .st l=>.st (fC l)
 | .arr n t=>.st (List.replicate n (ar t))
 | .sl _=>.sl []
 | .tup l=>.tup (fC l)
 | .fn=>.bool false
def fC:List Ty->List D
 | []=>[]
 | t::l=>ar t::fC l
end
mutual
def Kd:Ty->Bool
 | .st l=>wJ l
 | .arr _ t=>Kd t
 | .sl _=>true
 | .tup _=>true
 | .fn=>true
 | _=>false
def wJ:List Ty->Bool
 | []=>false
 | t::l=>Kd t||wJ l
end
mutual
def aj:Ty->Bool
 | .st l=>bg l
 | .arr _ t=>aj t
 | .sl t=>aj t
 | .tup _=>false
 | .fn=>false
 | _=>true
def bg:List Ty->Bool
 | []=>true
 | t::l=>aj t&&bg l
end
inductive Ex where
 | normal|exit (id:Nat)|ret
def Ex.is:Ex->Ex->Bool
 | .normal,.normal=>true
 | .exit i,.exit j=>decide (i=j)
 | .ret,.ret=>true
 | _,_=>false
def AK:Option Ex->Option Ex->Bool
 | none,none=>true
 | some e,some e'=>e.is e'
 | _,_=>false
inductive AV where
 | d (t:Ty) (x:D)
 | own (t:Ty) (v:Nat) (l:List D)
 | nils
 | ptr (t:Ty) (id:Nat) (p:List Nat)
 | fptr (t:Ty) (x:D)
 | mem (t:Ty) (id:Nat)
 | st (ts:List Ty) (l:List AV)
 | clo (f:Nat) (l:List AV)
 | map (kt vt:Ty) (id:Nat)
 | sub (sl:Bool) (t:Ty) (id:Nat) (p:List Nat) (lo n:Nat)
 | yld (id:Nat)
 | gone
 | undef
instance:Inhabited AV:=⟨.undef⟩
structure LpI where
 nt:Nat
 ps:List Nat
 asg:Code
 bdy:Code
 caps:Nat->AV
inductive Ob where
 | one (t:Ty) (v:AV)
 | many (t:Ty) (l:List D)
 | mp (kt vt:Ty) (l:List D)
 | lp (i:LpI) (pend:Option Ex)
 | fv (v:AV)
def D.fld:D->Nat->Option D
 | .st l,i=>l[i]?
 | _,_=>none
def D.tupAt:D->Nat->Option D
 | .tup l,i=>l[i]?
 | _,_=>none
def D.get:D->List Nat->Option D
 | x,[]=>some x
 | x,i::p=>(x.fld i).bind λy=>y.get p
def D.set:D->List Nat->D->Option D
 | _,[],y=>some y
 | .st l,i::p,y=>(l[i]?).bind λz=>(D.set z p y).bind λz'=>some (.st (l.set i z'))
 | _,_::_,_=>none
def D.asSl:D->Option (List D)
 | .sl l=>some l
 | _=>none
def D.stl:D->Option (List D)
 | .st l=>some l
 | _=>none
def D.asInt:D->Option (IntKind×Int)
 | .int k n=>some (k,n)
 | _=>none
def D.truth:D->Option Bool
 | .bool b=>some b
 | _=>none
def D.idx:D->Nat->Option Nat
 | .int _ i,n=>if 0<=i/\i<(n:Int) then some i.toNat else none
 | _,_=>none
def D.strAt:D->D->Option D
 | .str s,.int _ i=>(if 0<=i then s[i.toNat]? else none).bind λb=>some (.int .u8 b.toNat)
 | _,_=>none
def D.slen:D->Option D
 | .str s=>some (.int .i64 s.size)
 | _=>none
def D.conv(k:IntKind):D->Option D
 | .int _ n=>some (.int k (k.wrap n))
 | _=>none
def D.bitOp(op:BinOp)(k:IntKind)(x y:Int):Option D:=
 match op with
 | .and=>some (.int k (k.wrap (BitVec.ofInt k.bits x &&& BitVec.ofInt k.bits y).toNat))
 | .or=>some (.int k (k.wrap (BitVec.ofInt k.bits x ||| BitVec.ofInt k.bits y).toNat))
 | .xor=>some (.int k (k.wrap (BitVec.ofInt k.bits x ^^^ BitVec.ofInt k.bits y).toNat))
 | .andNot=>some (.int k (k.wrap (BitVec.ofInt k.bits x &&& ~~~ BitVec.ofInt k.bits y).toNat))
 | _=>none
def D.bin(op:BinOp):D->D->Option D
 | .int k a,.int k' b=>
  match op with
  | .shl=>if b<0 then none else some (.int k (k.wrap (a*2^(min b.toNat k.bits))))
  | .shr=>if b<0 then none else some (.int k (a.fdiv (2^(min b.toNat k.bits))))
  | _=>if k=k' then
   match op with
   | .add=>some (.int k (k.wrap (a+b)))
   | .sub=>some (.int k (k.wrap (a-b)))
   | .mul=>some (.int k (k.wrap (a*b)))
   | .quo=>if b=0 then none else some (.int k (k.wrap (a.tdiv b)))
   | .rem=>if b=0 then none else some (.int k (a.tmod b))
   | .eql=>some (.bool (a==b))
   | .neq=>some (.bool (a != b))
   | .lss=>some (.bool (decide (a<b)))
   | .leq=>some (.bool (decide (a<=b)))
   | .gtr=>some (.bool (decide (a>b)))
   | .geq=>some (.bool (decide (a ≥ b)))
   | .and=>D.bitOp .and k a b
   | .or=>D.bitOp .or k a b
   | .xor=>D.bitOp .xor k a b
   | .andNot=>D.bitOp .andNot k a b
   | _=>none
   else none
 | _,_=>none
def D.un(op:UnOp):D->Option D
 | .int k n=>match op with
  | .neg=>some (.int k (k.wrap (0-n)))
  | .xor=>D.bitOp .xor k (if k.signed then -1 else k.max) n
  | _=>none
 | .bool b=>match op with
  | .not=>some (.bool (!b))
  | _=>none
 | _=>none
def D.min2:D->D->Option D
 | .int k x,.int _ y=>some (.int k (if y<x then y else x))
 | _,_=>none
def D.max2:D->D->Option D
 | .int k x,.int _ y=>some (.int k (if y>x then y else x))
 | _,_=>none
def D.cut(l:List D)(lo hi:Nat):Option (List D):=if lo<=hi/\hi<=l.length then some ((l.take hi).drop lo) else none
def D.natOf:D->Option Nat
 | .int _ i=>if 0<=i then some i.toNat else none
 | _=>none
def D.putParts:List D->List (Nat×D)->List D
 | l,[]=>l
 | l,(i,x)::r=>D.putParts (l.set i x) r
def aH:Ty->List Nat->Option Ty
 | t,[]=>some t
 | .st ts,i::p=>(ts[i]?).bind λt=>aH t p
 | .arr _ t,_::p=>aH t p
 | _,_=>none
def aX:Ty->List Nat->Nat
 | _,[]=>0
 | .st ts,i::p=>Ty.sizes (ts.take i)+aX (ts.getD i .bool) p
 | .arr _ t,i::p=>i*t.size+aX t p
 | _,_=>0
def wI{R:Type}:AV->List Nat->(AV->Option R)->Option R
 | .d t x,p,k=>match p with
  | []=>k (.d t x)
  | i::p=>(aH t (i::p)).bind λt'=>(x.get (i::p)).bind λy=>k (.d t' y)
 | a,[],k=>k a
 | .st _ l,i::p,k=>(l[i]?).bind λa=>wI a p k
 | _,_,_=>none
mutual
def AV.fits:Ty->AV->Bool
 | t,.d t' _=>t.beq t'
 | .sl t,.own t' _ _=>t.beq t'
 | .sl _,.nils=>true
 | .st ts,.st ts' l=>Ty.beqs ts ts'&&AV.fitss ts l
 | _,_=>false
def AV.fitss:List Ty->List AV->Bool
 | [],[]=>true
 | t::ts,a::l=>AV.fits t a&&AV.fitss ts l
 | _,_=>false
end
def AZ{R:Type}:AV->List Nat->AV->(AV->Option R)->Option R
 | _,[],b,k=>k b
 | .d t x,i::p,b,k=>match b with
  | .d _ y=>(x.set (i::p) y).bind λx'=>k (.d t x')
  | _=>none
 | .st ts l,i::p,b,k=>(l[i]?).bind λa=>AZ a p b λa'=>k (.st ts (l.set i a'))
 | _,_::_,_,_=>none
mutual
def jV:Ty->AV
 | .sl _=>.nils
 | .st ts=>if wJ ts then .st ts (jr ts) else .d (.st ts) (ar (.st ts))
 | t=>.d t (ar t)
def jr:List Ty->List AV
 | []=>[]
 | t::l=>jV t::jr l
end
def fT{R:Type}:Ob->List Nat->(AV->Option R)->Option R
 | .one _ v,p,k=>wI v p k
 | .many t l,i::p,k=>(l[i]?).bind λx=>wI (.d t x) p k
 | _,_,_=>none
def dP:Ob->List Nat->Option Ty
 | .one t _,p=>aH t p
 | .many t _,_::p=>aH t p
 | .fv _,[]=>some .fn
 | _,_=>none
structure St where
 tm:Nat->AV
 ob:Nat->Option Ob
 fresh:Nat
 dead:List Nat
 nt:Nat
 lkS:List Nat
 lkO:List Nat
def St.put(s:St)(dst:Option Nat)(v:AV):St:=
 match dst with
 | some t=>if t<s.nt then{ s with tm:=λi=>if i=t then v else s.tm i } else s
 | none=>s
def St.base(s:St):Nat:=s.fresh*4096
def St.setOb(s:St)(id:Nat)(o:Option Ob):St:={ s with ob:=λi=>if i=id then o else s.ob i }
mutual
def AV.toD(ob:Nat->Option Ob):Ty->AV->Option D
 | t,.d t' x=>if t.beq t' then some x else none
 | t,.own t' _ l=>if t.beq (.sl t') then some (.sl l) else none
 | t,.nils=>match t with
  | .sl _=>some (.sl [])
  | _=>none
 | t,.st ts' l=>if t.beq (.st ts') then(AV.toDl ob ts' l).bind λxs=>some (.st xs) else none
 | _,_=>none
def AV.toDl(ob:Nat->Option Ob):List Ty->List AV->Option (List D)
 | [],[]=>some []
 | t::ts,a::l=>(AV.toD ob t a).bind λx=>(AV.toDl ob ts l).bind λxs=>some (x::xs)
 | _,_=>none
end
def AV.asList(ob:Nat->Option Ob)(t:Ty)(a:AV):Option (List D):=(AV.toD ob (.sl t) a).bind D.asSl
def AV.truth:AV->Option Bool
 | .d t x=>if t.beq .bool then x.truth else none
 | _=>none
inductive Sh where
 | dv (t:Ty)
 | ow (t:Ty)
 | same (a:AV)
 | st (ts:List Ty) (l:List Sh)
inductive ShO where
 | one (t:Ty) (h:Sh)
 | many (t:Ty)
 | mp (kt vt:Ty)
 | keep (t:Ty) (wit:Nat)
 | lp (pend:Option Ex) (wit:Nat)
 | fv (a:AV)
structure Shape where
 slots:List (Nat×Sh)
 objs:List (Nat×ShO)
 keepS:List Nat
inductive Ann where
 | leaf
 | reg (fz:List Nat) (n:Nat)
 | regI (fz:List Nat) (n:Nat) (a:Ann)
 | two (a b:Ann)
 | cut (exits:List (Ex×Shape)) (keepS keepO:List Nat) (a b:Ann)
 | loop (h:Shape) (exits:List (Ex×Shape)) (a:Ann)
 | all (exits:List (Ex×Shape)) (keepS keepO:List Nat) (a:Ann)
def Ann.fz:Ann->List Nat|.reg fz _=>fz|.regI fz _ _=>fz|_=>[]
def Ann.heads(m:Nat):Ann->Nat|.reg _ n=>n|.regI _ n _=>n|_=>m
def Ann.inner:Ann->Ann|.regI _ _ a=>a|_=>.leaf
def Ann.fst:Ann->Ann|.two a _=>a|.cut _ _ _ a _=>a|.loop _ _ a=>a|_=>.leaf
def Ann.snd:Ann->Ann|.two _ b=>b|.cut _ _ _ _ b=>b|_=>.leaf
structure Env where
 L:Nat->Option Ty
 sig:Nat->Option (List Ty×Ty)
 call:Nat->List D->Option D
 mapL:Nat->Option (Ty×Ty)
 lp:{α β:Type}->(α->Option (Sum α β))->α->Option β
 inl:Nat->Option (Ann->(R:Type)->St->List AV->(AV->St->Option R)->Option R)
 cod:Code->Ann->(R:Type)->St->(Ex->St->Option R)->Option R
 free:Nat->Nat
 pv:Bool
 fnT:Nat->Bool
 ownF:Nat->Bool
def Env.alTy(E:Env)(T:Nat):Option Ty:=bif E.fnT T then some .fn else E.L T
def Env.alOb(E:Env)(T:Nat):Option Ob:=bif E.fnT T then some (.fv .undef) else(E.L T).map λt=>.one t (jV t)
def kB:AV->Bool
 | .clo ..=>true
 | .yld _=>true
 | .map ..=>true
 | _=>false
structure Inl where
 pv:Bool
 f:Nat->Option (Ann->(R:Type)->St->List AV->(AV->St->Option R)->Option R)
 cod:Code->Ann->(R:Type)->St->(Ex->St->Option R)->Option R
def EZ:Value->AV
 | .int k n=>.d (.int k) (.int k n)
 | .bool b=>.d .bool (.bool b)
 | .string s=>.d .str (.str s)
 | .slice none 0 0=>.nils
 | _=>.undef
def St.opA(s:St):Operand->AV
 | .tmp t=>s.tm t
 | .const v=>EZ v
 | .func f=>.clo f []
 | _=>.undef
def isD:AV->Option (Ty×D)
 | .d t x=>some (t,x)
 | _=>none
mutual
def bH:Ty->Bool
 | .int _=>true
 | .bool=>true
 | .st ts=>kR ts
 | .arr _ t=>bH t
 | _=>false
def kR:List Ty->Bool
 | []=>true
 | t::l=>bH t&&kR l
end
def partsD(ob:Nat->Option Ob)(s:St)(ty:Nat->Option Ty):List (Nat×Operand)->Option (List (Nat×D))
 | []=>some []
 | (i,x)::r=>(ty i).bind λt=>(AV.toD ob t (s.opA x)).bind λy=>(partsD ob s ty r).bind λys=>some ((i,y)::ys)
def fk(s:St)(ts:List Ty)(p:Nat×Operand):Bool:=match ts[p.1]? with|some u=>AV.fits u (s.opA p.2)|none=>false
def eZ:AV->Bool
 | .ptr ..=>true
 | _=>false
def lY:List AV->List (Nat×AV)->List AV
 | l,[]=>l
 | l,(i,x)::r=>lY (l.set i x) r
def D.mget:List D->D->Option D
 | [],_=>none
 | .st [k,v]::l,x=>if D.beq x k then some v else D.mget l x
 | _::l,x=>D.mget l x
def D.mput:List D->D->D->List D
 | [],x,y=>[.st [x,y]]
 | .st [k,v]::l,x,y=>if D.beq x k then .st [k,y]::l else .st [k,v]::D.mput l x y
 | e::l,x,y=>e::D.mput l x y
def cT:List Nat->Bool
 | []=>true
 | a::l=>!(l.contains a)&&cT l
def rU(l:List AV):List Nat:=l.map λx=>match x with|.ptr _ id _=>id|_=>0
def nP(ob:Nat->Option Ob):List Ty->List AV->Option (List D)
 | [],[]=>some []
 | t::ts,.ptr _ id []::l=>match ob id with
  | some (.one u v)=>if t.beq u then(AV.toD ob t v).bind λz=>(nP ob ts l).bind λzs=>some (z::zs) else none
  | _=>none
 | _,_=>none
def tX:List AV->Bool
 | []=>true
 | .ptr _ _ []::l=>tX l
 | _::_=>false
def u0:Option Ob->Bool
 | some (.one _ _)=>true
 | some (.fv _)=>true
 | _=>false
def iG(ob:Nat->Option Ob):AV->AV
 | .d t x=>.d t x
 | .own t _ l=>.d (.sl t) (.sl l)
 | .fptr t x=>.fptr t x
 | .ptr t id []=>if u0 (ob id) then .ptr t id [] else .undef
 | .clo f l=>if tX l&&l.all (λa=>match a with|.ptr _ id _=>u0 (ob id)|_=>false) then .clo f l else .undef
 | .yld id=>.yld id
 | .map kt vt id=>.map kt vt id
 | _=>.undef
def j4(ob:Nat->Option Ob):AV->AV
 | .ptr _ id []=>match ob id with
  | some (.one t _)=>.ptr t id []
  | some (.fv _)=>.ptr .fn id []
  | _=>.undef
 | _=>.undef
def mD(ob:Nat->Option Ob):AV->AV
 | .d t x=>.d t x
 | .fptr t x=>.fptr t x
 | .ptr t id p=>j4 ob (.ptr t id p)
 | .clo f l=>if(l.map (j4 ob)).all eZ then .clo f (l.map (j4 ob)) else .undef
 | .yld id=>.yld id
 | .map kt vt id=>match ob id with
  | some (.mp kt' vt' _)=>if kt.beq kt'&&vt.beq vt' then .map kt vt id else .undef
  | _=>.undef
 | _=>.undef
def qv{R:Type}(E:Env)(s:St)(o:Oper)(K:AV->Option R):Option R:=
 match o.op with
 | .move x=>K (s.opA x)
 | .assign x=>K (s.opA x)
 | .pick c a b=>(s.opA c).truth.bind λc=>if c then K (s.opA a) else K (s.opA b)
 | .alloc T=>(E.alTy T).bind λt=>o.dst.bind λd=>K (.ptr t (s.base+d) [])
 | .load T a=>bif E.fnT T then(match s.opA a with|.ptr .fn id []=>(match s.ob id with|some (.fv v)=>if kB (mD s.ob v) then K (mD s.ob v) else none|_=>none)|_=>none) else(E.L T).bind λt=>match s.opA a with
  | .ptr t' id p=>if t.beq t' then(s.ob id).bind λo=>fT o p K else none
  | .fptr t' x=>if t.beq t' then K (.d t' x) else none
  | .sub sl e id p lo n=>if !sl&&t.beq (.arr n e) then(s.ob id).bind λo=>fT o p λv=>match v with
    | .d (.arr _ e') (.st l)=>if e'.beq e&&decide (lo+n<=l.length) then K (.d (.arr n e) (.st ((l.drop lo).take n))) else none
    | _=>none
   else none
  | _=>none
 | .fieldAddr T x f=>(E.L T).bind λt=>match t,s.opA x with
  | .st ts,.ptr t' id p=>if t'.beq (.st ts) then(ts[f]?).bind λu=>K (.ptr u id (p++[f])) else none
  | .st ts,.fptr t' y=>if t'.beq (.st ts) then(ts[f]?).bind λu=>(y.fld f).bind λz=>K (.fptr u z) else none
  | _,_=>none
 | .indexAddr T x i=>(E.L T).bind λt=>(isD (s.opA i)).bind λix=>match t with
  | .arr n e=>match s.opA x with
   | .ptr t' id p=>if t'.beq (.arr n e) then(ix.2.idx n).bind λk=>K (.ptr e id (p++[k])) else none
   | .fptr t' y=>if t'.beq (.arr n e) then(ix.2.idx n).bind λk=>(y.fld k).bind λz=>K (.fptr e z) else none
   | _=>none
  | .sl e=>match s.opA x with
   | .mem t' id=>if t'.beq e then match s.ob id with
     | some (.many _ l)=>(ix.2.idx l.length).bind λk=>K (.ptr e id [k])
     | _=>none
    else none
   | a=>(a.asList s.ob e).bind λl=>(ix.2.idx l.length).bind λk=>(l[k]?).bind λy=>K (.fptr e y)
  | _=>none
 | .field T x f=>(E.L T).bind λt=>match t,s.opA x with
  | .st ts,.d t' y=>if t'.beq (.st ts) then(ts[f]?).bind λu=>(y.fld f).bind λz=>K (.d u z) else none
  | _,_=>none
 | .index T x i=>(E.L T).bind λt=>(isD (s.opA i)).bind λix=>match t,s.opA x with
  | .arr n e,.d t' y=>if t'.beq (.arr n e) then(ix.2.idx n).bind λk=>(y.fld k).bind λz=>K (.d e z) else none
  | .str,.d t' y=>if t'.beq .str then(D.strAt y ix.2).bind λz=>K (.d (.int .u8) z) else none
  | _,_=>none
 | .binOp op T x y _=>(E.L T).bind λt=>(isD (s.opA x)).bind λa=>(isD (s.opA y)).bind λb=>
  match op with
  | .eql=>if a.1.beq t&&b.1.beq t&&bH t then K (.d .bool (.bool (D.beq a.2 b.2))) else none
  | .neq=>if a.1.beq t&&b.1.beq t&&bH t then K (.d .bool (.bool (!(D.beq a.2 b.2)))) else none
  | .lss=>(D.bin .lss a.2 b.2).bind λz=>K (.d .bool z)
  | .leq=>(D.bin .leq a.2 b.2).bind λz=>K (.d .bool z)
  | .gtr=>(D.bin .gtr a.2 b.2).bind λz=>K (.d .bool z)
  | .geq=>(D.bin .geq a.2 b.2).bind λz=>K (.d .bool z)
  | op=>(D.bin op a.2 b.2).bind λz=>K (.d a.1 z)
 | .unOp op _ x=>(isD (s.opA x)).bind λa=>(D.un op a.2).bind λz=>K (.d a.1 z)
 | .convert S T x=>(E.L S).bind λu=>(E.L T).bind λt=>(isD (s.opA x)).bind λa=>
  match t with
  | .int k=>if a.1.beq u then(D.conv k a.2).bind λz=>K (.d t z) else none
  | _=>none
 | .build T ps=>(E.L T).bind λt=>match t with
  | .st ts=>if wJ ts then(if ps.toList.all (fk s ts) then K (.st ts (lY (jr ts) (ps.toList.map λp=>(p.1,s.opA p.2)))) else none)
   else(partsD s.ob s (λi=>ts[i]?) ps.toList).bind λl=>K (.d t (.st (D.putParts (fC ts) l)))
  | .arr n e=>(partsD s.ob s (λi=>if i<n then some e else none) ps.toList).bind λl=>K (.d t (.st (D.putParts (List.replicate n (ar e)) l)))
  | _=>none
 | .buildSlice T n ps=>(E.L T).bind λt=>match t with
  | .sl e=>if n<=4096 then o.dst.bind λd=>(partsD s.ob s (λi=>if i<n then some e else none) ps.toList).bind λl=>K (.own e (s.base+d) (D.putParts (List.replicate n (ar e)) l)) else none
  | _=>none
 | .extract x i=>match s.opA x with
  | .d (.tup ts) y=>(ts[i]?).bind λu=>(y.tupAt i).bind λz=>K (.d u z)
  | _=>none
 | .nilCheck x=>match s.opA x with
  | .ptr t id p=>K (.ptr t id p)
  | _=>none
 | .slice T x lo hi mx=>match mx with
  | some _=>none
  | none=>(E.L T).bind λt=>match t with
   | .sl e=>((s.opA x).asList s.ob e).bind λl=>
    (match lo with|none=>some 0|some i=>(isD (s.opA i)).bind λa=>a.2.natOf).bind λlo=>
    (match hi with|none=>some l.length|some i=>(isD (s.opA i)).bind λa=>a.2.natOf).bind λhi=>
    (D.cut l lo hi).bind λl'=>K (.d t (.sl l'))
   | .arr m e=>match s.opA x with
    | .ptr t' id p=>if t'.beq (.arr m e) then
     (match lo with|none=>some 0|some i=>(isD (s.opA i)).bind λa=>a.2.natOf).bind λlo=>
     (match hi with|none=>some m|some i=>(isD (s.opA i)).bind λa=>a.2.natOf).bind λhi=>
     if lo<=hi/\hi<=m/\lo<m then K (.sub true e id p lo (hi-lo)) else none
     else none
    | _=>none
   | _=>none
 | .sliceToArrayPointer T x=>(E.L T).bind λt=>match t,s.opA x with
  | .arr n e,.sub sl e' id p lo n'=>if sl&&e'.beq e&&decide (n<=n') then K (.sub false e id p lo n) else none
  | .arr n e,a=>(a.asList s.ob e).bind λl=>if decide (1<=n)&&decide (n<=l.length) then K (.fptr (.arr n e) (.st (l.take n))) else none
  | _,_=>none
 | .lookup T x i cok=>(E.mapL T).bind λkv=>match s.opA x with
  | .map kt vt id=>if kt.beq kv.1&&vt.beq kv.2 then match s.ob id with
    | some (.mp kt' vt' l)=>if kt'.beq kt&&vt'.beq vt then(isD (s.opA i)).bind λix=>if ix.1.beq kt then
      match cok with
      | false=>K (.d vt ((D.mget l ix.2).getD (ar vt)))
      | true=>K (.d (.tup [vt,.bool]) (.tup [(D.mget l ix.2).getD (ar vt),.bool (D.mget l ix.2).isSome]))
      else none
     else none
    | _=>none
   else none
  | _=>none
 | .makeFunc fn first captured=>match fn with
  | .func f=>if first.size=0/\(captured.toList.all λx=>eZ (s.opA x))=true then K (.clo f (captured.toList.map s.opA)) else none
  | _=>none
 | .call c=>match c.callee with
  | .builtin .len=>(c.argTypes[0]?).bind λT=>(E.L T).bind λt=>(c.args[0]?).bind λx=>match t with
   | .sl e=>match s.opA x with
    | .mem t' id=>if t'.beq e then match s.ob id with
      | some (.many _ l)=>K (.d (.int .i64) (.int .i64 l.length))
      | _=>none
     else none
    | a=>(a.asList s.ob e).bind λl=>K (.d (.int .i64) (.int .i64 l.length))
   | .arr n _=>K (.d (.int .i64) (.int .i64 n))
   | .str=>(isD (s.opA x)).bind λa=>if a.1.beq .str then(D.slen a.2).bind λz=>K (.d (.int .i64) z) else none
   | _=>none
  | .builtin .min=>match c.args.toList with
   | [x,y]=>(isD (s.opA x)).bind λa=>(isD (s.opA y)).bind λb=>if a.1.beq b.1 then(D.min2 a.2 b.2).bind λz=>K (.d a.1 z) else none
   | _=>none
  | .builtin .max=>match c.args.toList with
   | [x,y]=>(isD (s.opA x)).bind λa=>(isD (s.opA y)).bind λb=>if a.1.beq b.1 then(D.max2 a.2 b.2).bind λz=>K (.d a.1 z) else none
   | _=>none
  | .value (.func f)=>(E.sig f).bind λg=>bif Nat.beq (E.free f) 0 then(AV.toDl s.ob g.1 (c.args.toList.map s.opA)).bind λxs=>(E.call f xs).bind λy=>bif E.ownF f then(o.dst.bind λd=>y.asSl.bind λl=>match g.2 with|.sl t=>K (.own t (s.base+d) l)|_=>none) else K (.d g.2 y) else none
  | .value (.tmp t)=>match s.tm t with
   | .clo f l=>(E.sig f).bind λg=>bif Nat.beq (E.free f) l.length&&cT (rU l) then(AV.toDl s.ob (g.1.take (g.1.length-l.length)) (c.args.toList.map s.opA)).bind λxs=>(nP s.ob (g.1.drop (g.1.length-l.length)) l).bind λzs=>(E.call f (xs++zs)).bind λy=>K (.d g.2 y) else none
   | _=>none
  | _=>none
 | _=>none
def qf{R:Type}(E:Env)(s:St)(o:Oper)(K:St->Option R):Option R:=
 match o.op with
 | .store T a x=>bif E.fnT T then(match s.opA a with|.ptr .fn id []=>if kB (iG s.ob (s.opA x))&&!(s.lkO.contains id) then(match s.ob id with|some (.fv _)=>K (s.setOb id (some (.fv (iG s.ob (s.opA x)))))|_=>none) else none|_=>none) else(E.L T).bind λt=>match s.opA a with
  | .ptr t' id p=>if t.beq t'&&AV.fits t (s.opA x)&&!(s.lkO.contains id) then match s.ob id with
    | some (.one u v)=>AZ v p (s.opA x) λv'=>K (s.setOb id (some (.one u v')))
    | some (.many u l)=>match p with
     | i::p'=>(l[i]?).bind λz=>(AV.toD s.ob t (s.opA x)).bind λy=>(D.set z p' y).bind λz'=>K (s.setOb id (some (.many u (l.set i z'))))
     | []=>none
    | _=>none
   else none
  | _=>none
 | .makeMap T rsv=>match rsv with
  | some _=>none
  | none=>(E.mapL T).bind λkv=>o.dst.bind λd=>K ((s.setOb (s.base+d) (some (.mp kv.1 kv.2 []))).put o.dst (.map kv.1 kv.2 (s.base+d)))
 | .mapUpdate T m k v=>if o.dst.isSome then none else(E.mapL T).bind λkv=>match s.opA m with
  | .map kt vt id=>if kt.beq kv.1&&vt.beq kv.2&&!(s.lkO.contains id) then match s.ob id with
    | some (.mp kt' vt' l)=>if kt'.beq kt&&vt'.beq vt then(AV.toD s.ob kt (s.opA k)).bind λkd=>(AV.toD s.ob vt (s.opA v)).bind λvd=>K (s.setOb id (some (.mp kt vt (D.mput l kd vd)))) else none
    | _=>none
   else none
  | _=>none
 | .box T x=>bif E.fnT T then(o.dst.bind λd=>if kB (iG s.ob (s.opA x)) then K ((s.setOb (s.base+d) (some (.fv (iG s.ob (s.opA x))))).put o.dst (.ptr .fn (s.base+d) [])) else none) else(E.L T).bind λt=>o.dst.bind λd=>if AV.fits t (s.opA x) then K ((s.setOb (s.base+d) (some (.one t (s.opA x)))).put o.dst (.ptr t (s.base+d) [])) else none
 | .makeSlice T l c=>(E.L T).bind λt=>o.dst.bind λd=>match t,l,c with
  | .sl e,.tmp i,.tmp j=>if i=j then(isD (s.tm i)).bind λa=>(a.2.natOf).bind λn=>if n<=1073741824 then K ((s.setOb (s.base+d) (some (.many e (List.replicate n (ar e))))).put o.dst (.mem e (s.base+d))) else none else none
  | _,_,_=>none
 | .call c=>match c.callee with
  | .builtin .append=>(c.argTypes[0]?).bind λT=>(E.L T).bind λt=>o.dst.bind λd=>match t,c.args.toList,c.argTypes.toList with
   | .sl e,[x,y],[_,T']=>match E.L T' with
    | some (.sl _)=>((s.opA y).asList s.ob e).bind λl'=>match s.opA x with
     | .own e' v l=>if e'.beq e&&!(s.dead.contains v) then(if l.length+l'.length<=1073741824 then K ({ s with dead:=v::s.dead }.put o.dst (.own e (s.base+d) (l++l'))) else none) else none
     | .nils=>if l'.length<=1073741824 then K (s.put o.dst (.own e (s.base+d) l')) else none
     | _=>none
    | _=>none
   | _,_,_=>none
  | .builtin .copy=>match c.args.toList,c.argTypes.toList with
   | [x,y],[T,_]=>match E.L T with
    | some (.sl (.int k))=>match s.opA x,s.opA y with
     | .sub true e id [] lo n,.sub true e' id' p' lo' n'=>match s.ob id,s.ob id' with
      | some (.one (.arr m f) (.d g x)),some o'=>fT o' p' λv=>match v with
       | .d (.arr m' f') y=>
       if e.beq (.int k)&&e'.beq (.int k)&&f.beq (.int k)&&g.beq (.arr m f)&&!(s.lkO.contains id) then
        x.stl.bind λl=>y.stl.bind λl'=>K ((s.setOb id (some (.one (.arr m f) (.d g (.st (l.take lo++((l'.drop lo').take (min n' n)++l.drop (lo+min n' n)))))))).put o.dst (.d (.int .i64) (.int .i64 (min n' n:Nat))))
       else none
       | _=>none
      | _,_=>none
     | _,_=>none
    | _=>none
   | _,_=>none
  | _=>qv E s o λv=>K (s.put o.dst v)
 | _=>qv E s o λv=>K (s.put o.dst v)
def jF(s:St)(o:Oper):Bool:=match o.dst with|some d=>s.lkS.contains d|none=>false
def Lb{R:Type}(E:Env)(s:St)(o:Oper)(K:St->Option R):Option R:=if jF s o then none else qf E s o K
def gM(E:Env):List Oper->St->St
 | [],s=>s
 | o::l,s=>gM E l (match o.op,o.dst with
  | .alloc T,some d=>match E.alOb T with
   | some x=>s.setOb (s.base+d) (some x)
   | none=>s
  | _,_=>s)
def killD(s:St):List Oper->St
 | []=>s
 | o::l=>killD (s.put o.dst .undef) l
def uZ(i:Nat)(o:Oper):Bool:=match o.guard with|some (j,_)=>decide (j=i)|none=>false
def oc(d:Option Nat)(o:Oper):Bool:=match o.op,d with|.pick (.tmp c) _ _,some d=>decide (c=d)|_,_=>false
def c7(d:Option Nat):List (Nat×Oper)->List (Nat×Oper)×List (Nat×Oper)
 | []=>([],[])
 | p::l=>if oc d p.2 then([],p::l) else let r:=c7 d l;(p::r.1,r.2)
def eI(o:Oper):Bool:=match o.op with
 | .store ..|.box ..|.makeSlice ..|.makeMap ..|.mapUpdate ..|.alloc _=>false
 | .call c=>match c.callee with|.builtin .append=>false|.builtin .copy=>false|_=>true
 | _=>true
def ws(o:Oper):Bool:=match o.op with
 | .alloc _=>true|.box ..=>true|.makeSlice ..=>true|.makeMap ..=>true|.buildSlice ..=>true
 | .call c=>match c.callee with|.builtin .append=>true|.value (.func _)=>true|_=>false
 | _=>false
def jB(E:Env)(o:Oper):Bool:=match o.op with
 | .call c=>match c.callee with|.value (.func f)=>(E.inl f).isSome|.value (.tmp _)=>!E.pv|_=>false
 | _=>false
def pA(s:St)(c:Call):Option (Nat×List AV):=match c.callee with
 | .value (.func f)=>some (f,c.args.toList.map s.opA)
 | .value (.tmp t)=>match s.tm t with|.clo f l=>if l.all eZ then some (f,c.args.toList.map s.opA++l) else none|_=>none
 | _=>none
def pR(i:Nat)(l:List (Nat×Oper)):Bool:=match l with|p::_=>uZ i p.2|[]=>false
def wK{α:Type}(x:AV)(A B:Option α):Option α:=match x with|.gone=>A|_=>B
theorem eW{α:Type}{A B:Option α}:wK .gone A B=A:=rfl
def eY{α:Type}{x:AV}{A B:Option α}(h:x≠.gone):wK x A B=B:=by
 cases x<;>first|rfl|exact absurd rfl h
def c6(s:St):List Nat:=(List.range s.nt).filterMap λt=>match s.tm t with|.own _ v _=>if s.dead.contains v then none else some v|_=>none
def kf:Option Ob->Option Ob->Bool
 | some (.one t _),some (.one t' _)=>t.beq t'
 | some (.many t _),some (.many t' _)=>t.beq t'
 | some (.mp kt vt _),some (.mp kt' vt' _)=>kt.beq kt'&&vt.beq vt'
 | some (.fv _),some (.fv _)=>true
 | _,none=>true
 | _,_=>false
def FZ(ob ob':Nat->Option Ob):AV->Bool
 | .ptr _ id _=>kf (ob id) (ob' id)
 | _=>false
def pM(s sc:St)(n:Nat)(tk:List Nat):AV->AV
 | .d t x=>.d t x
 | .own t v l=>if s.dead.contains v then .d (.sl t) (.sl l) else .own t (n+tk.idxOf v) l
 | .nils=>.nils
 | .ptr t id p=>if kf (s.ob id) (sc.ob id) then .ptr t id p else .undef
 | .fptr t x=>.fptr t x
 | .clo f l=>if l.all (FZ s.ob sc.ob) then .clo f l else .undef
 | .map kt vt id=>if kf (s.ob id) (sc.ob id) then .map kt vt id else .undef
 | .yld id=>.yld id
 | _=>.undef
def I6(s:St)(nt:Nat)(avs:List AV):St:={ tm:=λi=>avs.getD i .undef,ob:=s.ob,fresh:=s.fresh+1,dead:=c6 s++s.dead,nt:=nt,lkS:=[],lkO:=s.lkO }
def nM(s sc:St):St:={ tm:=λi=>if i<s.nt then pM s sc ((sc.fresh+1)*4096) (c6 s) (s.tm i) else .undef,ob:=sc.ob,fresh:=sc.fresh+1,dead:=sc.dead,nt:=s.nt,lkS:=s.lkS,lkO:=s.lkO }
def ki:List (Nat×AV)->(Nat->AV)->Nat->AV
 | [],f=>f
 | (p,a)::l,f=>ki l λt=>if t=p then a else f t
def BQ(s:St)(i:LpI)(id:Nat)(avs:List AV):St:=
 { tm:=ki (i.ps.zip avs) λt=>if t<i.nt then mD s.ob (i.caps t) else .undef,ob:=s.ob,fresh:=s.fresh+1,dead:=c6 s++s.dead,nt:=i.nt,lkS:=[],lkO:=id::s.lkO }
def LZ(s:St)(c:Call):Option (Nat×LpI×List AV):=match c.callee with
 | .value (.tmp t)=>match s.tm t with
  | .yld id=>match s.ob id with
   | some (.lp i none)=>some (id,i,c.args.toList.map s.opA)
   | _=>none
  | _=>none
 | _=>none
def leaveY(s:St)(id:Nat)(i:LpI)(p:Option Ex):St:={ s with tm:=λ_=>.undef,ob:=λj=>if j=id then some (.lp i p) else s.ob j }
def T6{R:Type}(E:Env)(an:Ann)(s:St)(id:Nat)(i:LpI)(avs:List AV)(K:AV->St->Option R):Option R:=
 if avs.length=i.ps.length/\(i.ps.all λp=>decide (p<i.nt))=true/\(c6 s).length<=4096 then
  E.cod i.asg an.fst R (BQ s i id avs) λe s1=>match e with
   | .normal=>match s1.ob id with
    | some (.lp _ none)=>E.cod i.bdy an.snd R (s1.setOb id none) λe s2=>match e with
     | .normal=>K (.d .bool (.bool true)) (nM s (leaveY s2 id i none))
     | e=>K (.d .bool (.bool false)) (nM s (leaveY s2 id i (some e)))
    | _=>none
   | _=>none
 else none
def T5{R:Type}(E:Env)(f:Operand)(ps:Array Tmp)(asg bdy:Code)(an:Ann)(s:St)(k:Ex->St->Option R):Option R:=
 match f with
 | .tmp t=>match s.tm t with
  | .clo g l=>if l.all eZ&&!(s.lkO.contains 4095) then(E.inl g).bind λG=>
    G an R ({ s with fresh:=s.fresh+1 }.setOb ((s.fresh+1)*4096) (some (.lp { nt:=s.nt,ps:=ps.toList,asg:=asg,bdy:=bdy,caps:=λj=>iG s.ob (s.tm j) } none))) (.yld ((s.fresh+1)*4096)::l) λ_ s2=>
     match s2.ob ((s.fresh+1)*4096) with
     | some (.lp _ none)=>k .normal (s2.setOb ((s.fresh+1)*4096) none)
     | some (.lp _ (some e))=>k e (s2.setOb ((s.fresh+1)*4096) none)
     | _=>none
   else none
  | _=>none
 | _=>none
def Pa{R:Type}(E:Env)(an:Ann)(s:St)(o:Oper)(K:AV->St->Option R):Option R:=match o.op with
 | .call c=>match LZ s c with
  | some q=>T6 E an s q.1 q.2.1 q.2.2 K
  | none=>(pA s c).bind λq=>(E.inl q.1).bind λg=>g an R s q.2 K
 | _=>none
def ru(E:Env)(o:Oper)(an:Ann):Ann:=if jB E o then an.snd else an
def w7(o:Oper):Bool:=match o.op with|.alloc _=>false|_=>true
def wj(s:St):St:={ s with fresh:=s.fresh+1 }
def Ap{R:Type}(E:Env)(an:Ann)(l:List (Nat×Oper))(s:St)(o:Oper)(K:St->Option R):Option R:=
 if jB E o then(if l.all λp=>!(ws p.2) then Pa E an.fst s o λv s'=>K (s'.put o.dst v) else if l.all λp=>w7 p.2 then Pa E an.fst s o λv s'=>K (wj (s'.put o.dst v)) else none) else qf E s o K
def lz(E:Env)(s:St)(i:Nat)(o:Oper)(l:List (Nat×Oper)):Bool:=
 pR i l&&(match (c7 o.dst l).2,o.dst with
  | (_,pk)::_,some d=>decide (d<s.nt)&&pk.guard.isNone&&eI o&&!(jB E o)&&(c7 o.dst l).1.all (λ(p:Nat×Oper)=>(eI p.2&&!(jF s p.2)&&!(jB E p.2)))&&!(jF s pk)
  | _,_=>false)
def dS(E:Env):Nat->(R:Type)->(ops:Array Oper)->Ann->List (Nat×Oper)->St->(St->Option R)->Option R
 | 0,_,_,_,_,_,_=>none
 | _+1,_,_,_,[],s,k=>k s
 | n+1,R,ops,an,(i,o)::l,s,k=>
  match o.guard with
  | some (j,want)=>match (ops[j]?).bind (·.dst) with
   | some g=>if jF s o then none else wK (s.tm g) (dS E n R ops (ru E o an) l (s.put o.dst .gone) k)
    ((s.tm g).truth.bind λc=>
    if c then(if want then Ap E an l (s.put (some g) (.d .bool (.bool true))) o λs'=>dS E n R ops (ru E o an) l s' k else dS E n R ops (ru E o an) l ((s.put (some g) (.d .bool (.bool true))).put o.dst .gone) k)
    else(if want then dS E n R ops (ru E o an) l ((s.put (some g) (.d .bool (.bool false))).put o.dst .gone) k else Ap E an l (s.put (some g) (.d .bool (.bool false))) o λs'=>dS E n R ops (ru E o an) l s' k))
   | none=>none
  | none=>
   if lz E s i o l then
    let sp:=c7 o.dst l
    match sp.2,o.dst with
    | (_,pk)::l',some d=>
      Lb E s o λs1=>(s1.tm d).truth.bind λc=>
      (if c then dS E n Bool ops .leaf sp.1 (s1.put (some d) (.d .bool (.bool true))) λs2=>qv E s2 pk AV.truth
       else dS E n Bool ops .leaf sp.1 (s1.put (some d) (.d .bool (.bool false))) λs2=>qv E s2 pk AV.truth).bind λx=>
      dS E n R ops an l' ((killD s1 (sp.1.map Prod.snd)).put pk.dst (.d .bool (.bool x))) k
    | _,_=>none
   else if jF s o then none else Ap E an l s o λs'=>dS E n R ops (ru E o an) l s' k
def aJ:Nat->List Oper->List (Nat×Oper)
 | _,[]=>[]
 | i,o::l=>(i,o)::aJ (i+1) l
def fN(s:St):List Nat->St
 | []=>s
 | t::l=>fN (match s.tm t with
  | .mem t' id=>match s.ob id with
   | some (.many u l)=>if t'.beq u&&!(s.lkO.contains id) then{ s.setOb id none with tm:=λi=>if i=t then .d (.sl u) (.sl l) else s.tm i } else s
   | _=>s
  | _=>s) l
def bU:List (Nat×ShO)->List Nat
 | []=>[]
 | (id,.keep ..)::l=>id::bU l
 | (id,.lp ..)::l=>id::bU l
 | _::l=>bU l
mutual
def AV.same:AV->AV->Bool
 | .ptr t id p,.ptr t' id' p'=>t.beq t'&&decide (id=id')&&decide (p=p')
 | .mem t id,.mem t' id'=>t.beq t'&&decide (id=id')
 | .map kt vt id,.map kt' vt' id'=>kt.beq kt'&&vt.beq vt'&&decide (id=id')
 | .clo f l,.clo f' l'=>decide (f=f')&&AV.sames l l'
 | .yld id,.yld id'=>decide (id=id')
 | _,_=>false
def AV.sames:List AV->List AV->Bool
 | [],[]=>true
 | a::l,a'::l'=>AV.same a a'&&AV.sames l l'
 | _,_=>false
end
def D.els:D->List D|.sl l=>l|_=>[]
mutual
def Sh.mk(b:Nat):Sh->Nat->List D->AV×Nat
 | .dv t,j,s=>(.d t (s.getD j (.bool false)),j+1)
 | .ow t,j,s=>(.own t (b+j) (s.getD j (.bool false)).els,j+1)
 | .same a,j,_=>(a,j)
 | .st ts l,j,s=>let r:=Sh.mks b l j s;(.st ts r.1,r.2)
def Sh.mks(b:Nat):List Sh->Nat->List D->List AV×Nat
 | [],j,_=>([],j)
 | h::l,j,s=>let r:=Sh.mk b h j s;let q:=Sh.mks b l r.2 s;(r.1::q.1,q.2)
end
mutual
def Sh.dec(ob:Nat->Option Ob)(dead:List Nat):Sh->AV->Option (List D)
 | .dv t,a=>(AV.toD ob t a).bind λx=>some [x]
 | .ow t,.own t' v l=>if t.beq t'&&!(dead.contains v) then some [.sl l] else none
 | .ow _,.nils=>some [.sl []]
 | .same a,a'=>if AV.same a a' then some [] else none
 | .st ts l,.st ts' l'=>if Ty.beqs ts ts' then Sh.decs ob dead l l' else none
 | _,_=>none
def Sh.decs(ob:Nat->Option Ob)(dead:List Nat):List Sh->List AV->Option (List D)
 | [],[]=>some []
 | h::l,a::l'=>(Sh.dec ob dead h a).bind λx=>(Sh.decs ob dead l l').bind λy=>some (x++y)
 | _,_=>none
end
def AV.still:AV->AV
 | .d t x=>.d t x
 | .own t _ l=>.d (.sl t) (.sl l)
 | .fptr t x=>.fptr t x
 | _=>.undef
def Ob.still(t:Ty):Option Ob->Option Ob
 | some (.one t' (.d u x))=>if t.beq t' then some (.one t' (.d u x)) else none
 | _=>none
def Ob.lpOf(p:Option Ex):Option Ob->Option Ob
 | some (.lp i _)=>some (.lp i p)
 | _=>none
mutual
def Sh.toks:Sh->AV->List Nat
 | .ow _,.own _ v _=>[v]
 | .st _ l,.st _ l'=>Sh.tokss l l'
 | _,_=>[]
def Sh.tokss:List Sh->List AV->List Nat
 | h::l,a::l'=>Sh.toks h a++Sh.tokss l l'
 | _,_=>[]
end
def Shape.mkS(b:Nat):List (Nat×Sh)->Nat->List D->(Nat->AV)->(Nat->AV)×Nat
 | [],j,_,f=>(f,j)
 | (t,h)::l,j,s,f=>let r:=Sh.mk b h j s;Shape.mkS b l r.2 s (λi=>if i=t then r.1 else f i)
def Shape.mkO(b:Nat)(base:Nat->Option Ob):List (Nat×ShO)->Nat->List D->(Nat->Option Ob)->(Nat->Option Ob)
 | [],_,_,f=>f
 | (id,.one t h)::l,j,s,f=>let r:=Sh.mk b h j s;Shape.mkO b base l r.2 s (λi=>if i=id then some (.one t r.1) else f i)
 | (id,.many t)::l,j,s,f=>Shape.mkO b base l (j+1) s (λi=>if i=id then some (.many t (s.getD j (.bool false)).els) else f i)
 | (id,.mp kt vt)::l,j,s,f=>Shape.mkO b base l (j+1) s (λi=>if i=id then some (.mp kt vt (s.getD j (.bool false)).els) else f i)
 | (id,.keep t _)::l,j,s,f=>Shape.mkO b base l j s (λi=>if i=id then Ob.still t (base id) else f i)
 | (id,.lp p _)::l,j,s,f=>Shape.mkO b base l j s (λi=>if i=id then Ob.lpOf p (base id) else f i)
 | (id,.fv a)::l,j,s,f=>Shape.mkO b base l j s (λi=>if i=id then some (.fv a) else f i)
def Shape.mk'(h:Shape)(base:St)(s:List D)(lkS lkO:List Nat):St:=
 let b:=(base.fresh+1)*4096
 let r:=Shape.mkS b h.slots 0 s (λi=>if h.keepS.contains i then(base.tm i).still else .undef)
 { tm:=r.1,ob:=Shape.mkO b base.ob h.objs r.2 s (λ_=>none),fresh:=base.fresh+1,dead:=[],nt:=base.nt,lkS,lkO }
def Shape.decS(s:St):List (Nat×Sh)->Option (List D)
 | []=>some []
 | (t,h)::l=>(Sh.dec s.ob s.dead h (s.tm t)).bind λx=>(Shape.decS s l).bind λy=>some (x++y)
def Shape.decO(s:St):List (Nat×ShO)->Option (List D)
 | []=>some []
 | (id,.one t h)::l=>match s.ob id with
  | some (.one t' v)=>if t.beq t' then(Sh.dec s.ob s.dead h v).bind λx=>(Shape.decO s l).bind λy=>some (x++y) else none
  | _=>none
 | (id,.many t)::l=>match s.ob id with
  | some (.many t' v)=>if t.beq t' then(Shape.decO s l).bind λy=>some (.sl v::y) else none
  | _=>none
 | (id,.mp kt vt)::l=>match s.ob id with
  | some (.mp kt' vt' v)=>if kt.beq kt'&&vt.beq vt' then(Shape.decO s l).bind λy=>some (.sl v::y) else none
  | _=>none
 | (id,.keep t _)::l=>match s.ob id with
  | some (.one t' _)=>if t.beq t' then Shape.decO s l else none
  | _=>none
 | (id,.lp p _)::l=>match s.ob id with
  | some (.lp _ p')=>if AK p p' then Shape.decO s l else none
  | _=>none
 | (id,.fv a)::l=>match s.ob id with
  | some (.fv v)=>if AV.same a v then Shape.decO s l else none
  | _=>none
def Shape.toksS(s:St):List (Nat×Sh)->List Nat
 | []=>[]
 | (t,h)::l=>Sh.toks h (s.tm t)++Shape.toksS s l
def Shape.toksO(s:St):List (Nat×ShO)->List Nat
 | []=>[]
 | (id,.one _ h)::l=>(match s.ob id with|some (.one _ v)=>Sh.toks h v|_=>[])++Shape.toksO s l
 | _::l=>Shape.toksO s l
mutual
def AV.old(n:Nat):AV->Bool
 | .ptr _ id _=>decide (id<n)
 | .mem _ id=>decide (id<n)
 | .map _ _ id=>decide (id<n)
 | .clo _ l=>AV.olds n l
 | .yld id=>decide (id<n)
 | _=>false
def AV.olds(n:Nat):List AV->Bool
 | []=>true
 | a::l=>AV.old n a&&AV.olds n l
end
mutual
def Sh.cnt:Sh->Nat
 | .dv _=>1
 | .ow _=>1
 | .same _=>0
 | .st _ l=>Sh.cnts l
def Sh.cnts:List Sh->Nat
 | []=>0
 | h::l=>Sh.cnt h+Sh.cnts l
end
mutual
def Sh.fits:Ty->Sh->Bool
 | t,.dv t'=>t.beq t'
 | t,.ow e=>t.beq (.sl e)
 | _,.same _=>false
 | t,.st ts l=>t.beq (.st ts)&&Sh.fitss ts l
def Sh.fitss:List Ty->List Sh->Bool
 | [],[]=>true
 | t::ts,h::l=>Sh.fits t h&&Sh.fitss ts l
 | _,_=>false
end
mutual
def Sh.fine(n:Nat):Sh->Bool
 | .dv t=>aj t
 | .ow t=>aj t
 | .same a=>AV.old n a
 | .st ts l=>bg ts&&Sh.fitss ts l&&Sh.fines n l
def Sh.fines(n:Nat):List Sh->Bool
 | []=>true
 | h::l=>Sh.fine n h&&Sh.fines n l
end
def ShO.cnt:ShO->Nat
 | .one _ h=>h.cnt
 | .many _=>1
 | .mp ..=>1
 | .keep ..=>0
 | .lp ..=>0
 | .fv _=>0
def ShO.fine(n:Nat)(base:St)(id:Nat):ShO->Bool
 | .one t h=>Sh.fine n h&&Sh.fits t h
 | .many _=>true
 | .mp ..=>true
 | .keep _ wit=>match base.tm wit with|.ptr _ id' _=>decide (id=id')&&decide (wit<base.nt)|_=>false
 | .fv a=>AV.old n a&&kB a
 | .lp _ wit=>(match base.tm wit with|.yld id'=>decide (id=id')|.ptr _ v []=>(match base.ob v with|some (.fv (.yld id'))=>decide (id=id')|_=>false)|_=>false)&&decide (wit<base.nt)
def Shape.cntS:List (Nat×Sh)->Nat
 | []=>0
 | p::l=>p.2.cnt+Shape.cntS l
def Shape.cntO:List (Nat×ShO)->Nat
 | []=>0
 | p::l=>p.2.cnt+Shape.cntO l
def Shape.good(h:Shape)(base:St):Bool:=
 cT (h.slots.map (·.1))&&cT (h.objs.map (·.1))&&(h.objs.all λp=>decide (p.1<(base.fresh+1)*4096)&&ShO.fine ((base.fresh+1)*4096) base p.1 p.2)&&h.slots.all (λp=>decide (p.1<base.nt)&&Sh.fine ((base.fresh+1)*4096) p.2)&&decide (Shape.cntS h.slots+Shape.cntO h.objs<=4096)
def Shape.dec(h:Shape)(base s:St):Option (List D):=
 if h.good base&&cT (Shape.toksS s h.slots++Shape.toksO s h.objs) then(Shape.decS s h.slots).bind λx=>(Shape.decO s h.objs).bind λy=>some (x++y) else none
def od{α β:Type}(body:α->Option (Sum α β))(n:Nat):α->Option β:=
 Nat.rec (motive:=λ_=>α->Option β) (λ_=>none) (λ_ ih a=>match body a with
  | none=>none
  | some (.inl a')=>ih a'
  | some (.inr b)=>some b) n
def pD{α β:Type}(body:α->Option (Sum α β))(a:α):od body 0 a=none:=rfl
theorem jC{α β:Type}(body:α->Option (Sum α β))(n:Nat)(a:α):od body (n+1) a=match body a with
  | none=>none
  | some (.inl a')=>od body n a'
  | some (.inr b)=>some b:=rfl
theorem pC{α β:Type}{body:α->Option (Sum α β)}:∀ {n:Nat} {a:α} {b:β} (m:Nat),od body n a=some b->od body (n+m) a=some b
 | 0,_,_,_,h=>by simp[pD] at h
 | n+1,a,b,m,h=>by
  rw[show n+1+m=(n+m)+1 by omega]
  simp only[jC] at h ⊢;cases hb:body a with
  | none=>rw[hb] at h;simp at h
  | some x=>cases x with
   | inl a'=>rw[hb] at h;exact pC m h
   | inr b'=>rw[hb] at h;exact h
open Classical in
def lc{α β:Type}(body:α->Option (Sum α β))(a:α):Option β:=
 if h:∃ n b,od body n a=some b then some (Classical.choose (Classical.choose_spec h)) else none
def m8{α β:Type}{body:α->Option (Sum α β)}{a:α}{b:β}(h:lc body a=some b):∃ n,od body n a=some b:=by
 unfold lc at h;split at h
 ·grind
 ·cases h
theorem jn{α β:Type}{body:α->Option (Sum α β)}{a:α}{b:β}{n:Nat}(h:od body n a=some b):lc body a=some b:=by
 have hh:∃ n b,od body n a=some b:=⟨n,b,h⟩;unfold lc;rw[dif_pos hh];have h2:=Classical.choose_spec (Classical.choose_spec hh);have h3:=pC (Classical.choose hh) h;have h4:=pC n h2;grind
def cS{α β:Type}{body:α->Option (Sum α β)}{a a':α}(h:body a=some (.inl a')):lc body a=lc body a':=by
 cases h2:lc body a' with
 | some b=>
  obtain⟨n,hn⟩:=m8 h2;exact jn (n:=n+1) (by simp only[jC,h];exact hn)
 | none=>
  cases h3:lc body a with
  | none=>rfl
  | some b=>
   obtain⟨n,hn⟩:=m8 h3;cases n with
   | zero=>simp[pD] at hn
   | succ n=>
    grind [jC,jn]
def cM{α β:Type}{body:α->Option (Sum α β)}{a:α}{b:β}(h:body a=some (.inr b)):lc body a=some b:=
 jn (n:=1) (by simp only[jC,h])
def sD(e:Ex):List (Ex×Shape)->Nat->Option (Nat×Shape)
 | [],_=>none
 | (e',h)::l,j=>if e.is e' then some (j,h) else sD e l (j+1)
def subset(l l':List Nat):Bool:=l.all λx=>l'.contains x
def kU{R:Type}(base:St)(k:Ex->St->Option R)(keepS keepO:List Nat):List (Ex×Shape)->Nat->Nat×List D->Option R
 | [],_,_=>none
 | [(e,h)],_,r=>if subset h.keepS keepS&&subset (bU h.objs) keepO then k e (h.mk' base r.2 base.lkS base.lkO) else none
 | (e,h)::l,j,r=>if subset h.keepS keepS&&subset (bU h.objs) keepO then(if r.1=j then k e (h.mk' base r.2 base.lkS base.lkO) else kU base k keepS keepO l (j+1) r) else none
def A7(base:St)(exits:List (Ex×Shape))(e:Ex)(s:St):Option (Nat×List D):=(sD e exits 0).bind λq=>(q.2.dec base s).bind λv=>some (q.1,v)
def bL(ops:List Oper):Bool:=cT (ops.filterMap (·.dst))&&(ops.all λo=>match o.dst with|some d=>decide (d<4096)|none=>true)&&ops.all λo=>match o.op with|.store ..=>o.dst.isNone|_=>true
def pi(E:Env)(ops:Array Oper)(n:Nat):Bool:=
 ((ops.toList.take n).all λo=>!(jB E o))&&Region.noSelect ops&&Region.lexHead .any ops (ops.size-n) n 0 (Array.replicate ops.size false)&&(decide (n=ops.size)||(decide (n<ops.size)&&Region.sinkB .any ops n&&Region.chainB .any ops n)) &&
 ((ops.toList.take n).all λo=>eI o||(match o.op with|.alloc _=>true|_=>false))&&(ops.toList.drop n).all λo=>o.guard.isNone&&(match o.op with|.pick ..=>false|_=>true)
def sP(o:Oper):Bool:=match o.op with|.fieldAddr ..=>true|.load ..=>true|.build ..=>true|.alloc _=>true|.extract ..=>true|.move _=>true|_=>false
def sR{R:Type}(E:Env)(ops:Array Oper)(n id i:Nat)(s:St)(K:AV->Option R):Option R:=
 match ops[i]? with
 | none=>none
 | some o=>if jF s o then none else if Region.waitsFor .any ops n i then qv E s o K else if sP o then qv E (s.setOb id none) o K else none
def Le{R:Type}(E:Env)(ops:Array Oper)(n id:Nat):Nat->Nat->St->(St->Option R)->Option R
 | 0,_,s,K=>K s
 | c+1,k,s,K=>sR E ops n id k s λv=>Le E ops n id c (k+1) (s.put ((ops[k]?).bind (·.dst)) v) K
def sQ(ops:Array Oper)(n:Nat):Bool:=
 match ops[n]? with
 | some o=>match o.op with
  | .store _ (.tmp p) (.tmp x)=>((List.range ops.size).all λj=>match (ops[j]?).bind (·.dst) with|some d=>!(decide (d=p)||decide (d=x))||Region.waitsFor .any ops n j|none=>true) &&
    ((ops.toList.take n).all λo=>(eI o||(match o.op with|.alloc _=>true|_=>false))&&o.guard.isNone)&&((ops.toList.drop n).all λo=>o.guard.isNone&&(match o.op with|.pick ..=>false|_=>true)) &&
    Region.noSelect ops&&Region.lexHead .any ops (ops.size-(n+1)) (n+1) 0 (Array.replicate ops.size false)&&(decide (n+1=ops.size)||(decide (n+1<ops.size)&&Region.sinkB .any ops (n+1)&&Region.chainB .any ops (n+1)))
  | _=>false
 | none=>false
def ke(ops:Array Oper)(n:Nat)(s:St):Nat:=match ops[n]? with
 | some o=>match o.op with
  | .store _ (.tmp p) _=>if ops.toList.any (λq=>match q.op,q.dst with|.alloc _,some d=>decide (d=p)|_,_=>false) then s.base+p else match s.tm p with
   | .ptr _ id _=>id
   | _=>0
  | _=>0
 | none=>0
def sO(ops:Array Oper)(n:Nat)(s:St):Option Nat:=match ops[n]? with
 | some o=>match o.op with
  | .store _ (.tmp p) _=>match s.tm p with
   | .ptr t id []=>if t.beq .fn then none else some id
   | _=>none
  | _=>none
 | none=>none
def xN{R:Type}(E:Env)(s:St)(o:Oper)(K:AV×List Nat->Option R):Option R:=match o.op with
 | .call c=>match c.callee with
  | .builtin .append=>(c.argTypes[0]?).bind λT=>(E.L T).bind λt=>o.dst.bind λd=>match t,c.args.toList,c.argTypes.toList with
   | .sl e,[x,y],[_,T']=>match E.L T' with
    | some (.sl _)=>((s.opA y).asList s.ob e).bind λl'=>match s.opA x with
     | .own e' v l=>if e'.beq e&&!(s.dead.contains v) then(if l.length+l'.length<=1073741824 then K (.own e (s.base+d) (l++l'),v::s.dead) else none) else none
     | .nils=>if l'.length<=1073741824 then K (.own e (s.base+d) l',s.dead) else none
     | _=>none
    | _=>none
   | _,_,_=>none
  | _=>none
 | _=>none
def nK(E:Env)(s:St)(o:Oper):Option (AV×List Nat):=xN E s o some
def lg(s:St)(p:Nat):List Nat:=match s.tm p with
 | .own _ v _=>v::s.dead
 | _=>s.dead
def Kc{R:Type}(E:Env)(ops:Array Oper)(m:Nat):Nat->Nat->St->(St->Option R)->Option R
 | 0,_,s,K=>K s
 | c+1,k,s,K=>match ops[k]? with
  | none=>none
  | some o=>if jF s o then none else if k=m then xN E s o λv=>Kc E ops m c (k+1) (s.put o.dst v.1) K else qv E s o λv=>Kc E ops m c (k+1) (s.put o.dst v) K
def I7(o:Oper):Bool:=match o.op with
 | .call c=>match c.callee with|.builtin .append=>true|_=>false
 | _=>false
def nJ(ops:Array Oper):Nat:=ops.toList.findIdx I7
def CF(ops:Array Oper)(m:Nat):Nat:=match ops[m]? with
 | some o=>match o.op with
  | .call c=>match c.args.toList with|[.tmp p,_]=>p|_=>0
  | _=>0
 | none=>0
def xO(E:Env)(ops:Array Oper)(n m:Nat):Bool:=
 match ops[m]? with
 | some o=>match o.op with
  | .call c=>match c.callee,c.args.toList with
   | .builtin .append,[.tmp p,_]=>decide (m<n)&&((List.range ops.size).all λj=>match (ops[j]?).bind (·.dst) with|some d=>!(decide (d=p))||Region.waitsFor .any ops m j|none=>true) &&
     ((List.range n).all λj=>match ops[j]? with|some o=>(decide (j=m)||(eI o||(match o.op with|.alloc _=>true|_=>false)))&&o.guard.isNone&&!(jB E o)|none=>false) &&
     ((ops.toList.drop n).all λo=>o.guard.isNone&&(match o.op with|.pick ..=>false|_=>true)) &&
     Region.noSelect ops&&Region.lexHead .any ops (ops.size-n) n 0 (Array.replicate ops.size false)&&(decide (n=ops.size)||(decide (n<ops.size)&&Region.sinkB .any ops n&&Region.chainB .any ops n))
   | _,_=>false
  | _=>false
 | none=>false
def jv(E:Env)(o:Oper):Bool:=(eI o||(match o.op with|.alloc _=>true|_=>false))&&!(jB E o)
def tW(ops:Array Oper):Nat->List Nat
 | 0=>[]
 | n+1=>let l:=tW ops n;l++[match ops[n]? with
  | some o=>o.after.toList.foldl (λm e=>if Region.binds .any e&&decide (e.on<n) then(m ||| 2^e.on) ||| l.getD e.on 0 else m) 0
  | none=>0]
def lv(E:Env)(ops:Array Oper)(i:Nat)(o:Oper):Nat->Nat->Bool
 | 0,_=>true
 | f+1,j=>match ops[j]? with
  | none=>true
  | some oj=>if jv E oj then(oj.after.any (λe=>Region.binds .any e&&e.on==i)||o.apart ops oj)&&lv E ops i o f (j+1) else true
def gC(E:Env)(ops:Array Oper):Bool:=
 let l:=tW ops ops.size
 (List.range ops.size).all λi=>match ops[i]? with
  | none=>true
  | some o=>(o.after.toList.all λe=>!(Region.binds .any e)||decide (e.on<i)) &&
   (if jv E o then lv E ops i o ops.size (i+1) else(List.range ops.size).all λj=>if j<i then Nat.testBit (l.getD i 0) j else decide (j=i)||Nat.testBit (l.getD j 0) i)
def ev(E:Env):Code->Ann->(R:Type)->St->(Ex->St->Option R)->Option R
 | .skip,_,_,s,k=>k .normal s
 | .label _,_,_,s,k=>k .normal s
 | .exit id,_,_,s,k=>k (.exit id) s
 | .ret,_,_,s,k=>k .ret s
 | .region _ ops dr,a,R,s,k=>
  let s1:=gM E ops.toList { fN s a.fz with fresh:=s.fresh+1 }
  if bL ops.toList&&(!dr||pi E ops (a.heads ops.size)) then dS E (ops.size+1) R ops a.inner (aJ 0 ops.toList) s1 (λs'=>k .normal s')
  else if bL ops.toList&&sQ ops (a.heads ops.size) then Le E ops (a.heads ops.size) (ke ops (a.heads ops.size) s1) (a.heads ops.size) 0 s1 λs2=>if sO ops (a.heads ops.size) s2=some (ke ops (a.heads ops.size) s1) then dS E (ops.size+1) R ops a.inner ((aJ 0 ops.toList).drop (a.heads ops.size)) s2 (λs'=>k .normal s') else none
  else if bL ops.toList&&(dr&&xO E ops (a.heads ops.size) (nJ ops)) then Kc E ops (nJ ops) (a.heads ops.size) 0 s1 λs2=>dS E (ops.size+1) R ops a.inner ((aJ 0 ops.toList).drop (a.heads ops.size)) { s2 with dead:=lg s2 (CF ops (nJ ops)) } (λs'=>k .normal s')
  else if bL ops.toList&&(dr&&gC E ops) then dS E (ops.size+1) R ops a.inner (aJ 0 ops.toList) s1 (λs'=>k .normal s')
  else none
 | .seq c d,.cut exits kS kO a b,R,s,k=>
  (ev E c a (Nat×List D) { s with lkS:=kS++s.lkS,lkO:=kO++s.lkO } (A7 s exits)).bind λr=>
   kU s (λe s'=>match e with|.normal=>ev E d b R s' k|e=>k e s') kS kO exits 0 r
 | .seq c d,a,R,s,k=>ev E c a.fst R s λe s'=>match e with
  | .normal=>ev E d a.snd R s' k
  | e=>k e s'
 | .cond c x y,a,R,s,k=>(s.opA c).truth.bind λt=>if t then ev E x a.fst R s k else ev E y a.snd R s k
 | .block id c,a,R,s,k=>ev E c a.fst R s λe s'=>match e with
  | .exit j=>if j=id then k .normal s' else k (.exit j) s'
  | e=>k e s'
 | .scope c,a,R,s,k=>ev E c a R s k
 | .rangeFunc f ps asg bdy,a,_,s,k=>T5 E f ps asg bdy a s k
 | .loop c,.loop h exits a,R,s,k=>
  (h.dec s s).bind λv0=>(E.lp (λv=>ev E c a (Sum (List D) (Nat×List D)) (h.mk' s v (h.keepS++s.lkS) (bU h.objs++s.lkO)) λe s'=>match e with
    | .normal=>(h.dec s s').bind λv'=>some (.inl v')
    | e=>(A7 s exits e s').bind λr=>some (.inr r)) v0).bind λr=>
   kU s k h.keepS (bU h.objs) exits 0 r
 | _,_,_,_,_=>none
def IX(E:Env)(c:Code)(ann:Ann)(R:Type)(s:St)(k:Ex->St->Option R):Option R:=match ann with
 | .all exits kS kO a=>(ev E c a (Nat×List D) { s with lkS:=kS++s.lkS,lkO:=kO++s.lkO } (A7 s exits)).bind λr=>kU s k kS kO exits 0 r
 | ann=>ev E c ann R s k
def ic(tys:List Ty)(args:List D)(i:Nat):AV:=
 match tys[i]?,args[i]? with
 | some t,some x=>.d t x
 | _,_=>.undef
def Ge{R:Type}(E:Env)(s:St)(t:Ty)(k:D->Option R):ResultVar->Option R
 | .tmp i=>(AV.toD s.ob t (s.tm i)).bind k
 | .cell i T=>(E.L T).bind λu=>match s.tm i with
  | .ptr t' id p=>if u.beq t' then(s.ob id).bind λo=>fT o p λa=>(AV.toD s.ob t a).bind k else none
  | _=>none
def tv{R:Type}(E:Env)(s:St):List Ty->List ResultVar->(List D->Option R)->Option R
 | [],[],k=>k []
 | t::ts,r::rs,k=>Ge E s t (λx=>tv E s ts rs λxs=>k (x::xs)) r
 | _,_,_=>none
def results(E:Env)(s:St)(rty:Ty)(rs:List ResultVar):Option D:=
 match rs with
 | [r]=>Ge E s rty some r
 | rs=>match rty with
  | .tup ts=>tv E s ts rs λxs=>some (.tup xs)
  | _=>none
def T4(E:Env)(fn:Func)(ann:Ann)(tys:List Ty)(rty:Ty)(args:List D):Option D:=
 match fn.body with
 | none=>none
 | some c=>IX E c ann D { tm:=ic tys args,ob:=λ_=>none,fresh:=0,dead:=[],nt:=fn.ntmps,lkS:=[],lkO:=[] } λe s=>match e with
  | .exit _=>none
  | _=>results E s rty fn.results.toList
end Sy
end
noncomputable section
namespace Sy
open Go
mutual
theorem cb:∀ (t:Ty) (x:D),wt t x->aj t=true->x.flat.length=t.size
 | .int k,x,h,_=>by simp only[wt] at h;obtain⟨n,rfl⟩:=h;rfl
 | .bool,x,h,_=>by simp only[wt] at h;obtain⟨n,rfl⟩:=h;rfl
 | .str,x,h,_=>by simp only[wt] at h;obtain⟨n,rfl⟩:=h;rfl
 | .st ts,x,h,hn=>by
  simp only[wt] at h;obtain⟨l,rfl,h⟩:=h;simp only[D.flat,Ty.size];exact oQ ts l h (by simpa [aj] using hn)
 | .arr n t,x,h,hn=>by
  simp only[wt] at h;obtain⟨l,rfl,rfl,h⟩:=h;simp only[D.flat,Ty.size];simp only[aj] at hn
  induction l with
  | nil=>simp[D.flats]
  | cons y l ih=>
   simp only[D.flats,zta,zza];rw[cb t y (h y (by simp)) hn,ih (λx hx=>h x (by simp[hx]))]
   rw[zYa,zyc,zrc]
 | .sl t,x,h,_=>by simp only[wt] at h;obtain⟨l,rfl,_⟩:=h;rfl
 | .tup ts,_,_,h=>by simp[aj] at h
 | .fn,x,h,_=>by simp[wt] at h
theorem oQ:∀ (ts:List Ty) (l:List D),er ts l->bg ts=true->(D.flats l).length=Ty.sizes ts
 | [],l,h,_=>by simp only[er] at h;subst h;rfl
 | t::ts,l,h,hn=>by
  simp only[er] at h;obtain⟨d,l',rfl,h1,h2⟩:=h;simp only[bg,zaa] at hn;simp only[D.flats,Ty.sizes,zta];rw[cb t d h1 hn.1,oQ ts l' h2 hn.2]
end
def bQ(a b:List D):D.flats (a++b)=D.flats a++D.flats b:=by
 induction a with
 | nil=>rfl
 | cons x a ih=>simp only[zib,D.flats,ih,zEa]
theorem aB{t:Ty}(hn:aj t=true):∀ (l:List D),(∀ x∈l,wt t x)->(D.flats l).length=l.length*t.size
 | [],_=>by simp[D.flats]
 | y::l,h=>by
  simp only[D.flats,zta,zza];rw[cb t y (h y (by simp)) hn,aB hn l (λx hx=>h x (by simp[hx])),zYa,zyc,zrc]
theorem bT{l:List D}{i:Nat}{y:D}(h:l[i]?=some y):D.flats l=D.flats (l.take i)++(y.flat++D.flats (l.drop (i+1))):=by
 obtain⟨hi,hy⟩:=zja.1 h
 conv=>lhs;rw[<-zpa i l,bQ]
 rw[zob hi,hy];rfl
def lQ{l:List D}{i:Nat}{y z:D}(h:l[i]?=some y):D.flats (l.set i z)=D.flats (l.take i)++(z.flat++D.flats (l.drop (i+1))):=by
 obtain⟨hi,hy⟩:=zja.1 h;have h2:(l.set i z)[i]?=some z:=by simp[hi]
 rw[bT h2,List.take_set_of_le (zha i),List.drop_set_of_lt (zod i)]
theorem ge:∀ {ts:List Ty} {l:List D} {i:Nat} {t:Ty},er ts l->ts[i]?=some t->∃ y,l[i]?=some y/\wt t y
 | [],_,_,_,_,h=>by simp at h
 | u::ts,l,i,t,h,hi=>by
  simp only[er] at h;obtain⟨d,l',rfl,h1,h2⟩:=h;cases i with
  | zero=>simp at hi;subst hi;exact⟨d,rfl,h1⟩
  | succ i=>simp at hi;obtain⟨y,h3,h4⟩:=ge h2 hi;exact⟨y,by simpa using h3,h4⟩
theorem iJ:∀ {ts:List Ty} {l:List D},er ts l->l.length=ts.length
 | [],l,h=>by simp_all [er]
 | t::ts,l,h=>by
  simp only[er] at h;obtain⟨d,l',rfl,h1,h2⟩:=h;simp[iJ h2]
theorem xH:∀ {ts:List Ty} {l:List D} {i:Nat} {t:Ty} {z:D},er ts l->ts[i]?=some t->wt t z->er ts (l.set i z)
 | [],_,_,_,_,_,h,_=>by simp at h
 | u::ts,l,i,t,z,h,hi,hz=>by
  simp only[er] at h;obtain⟨d,l',rfl,h1,h2⟩:=h;cases i with
  | zero=>simp at hi;subst hi;simp only[List.set_cons_zero,er];exact⟨z,l',rfl,hz,h2⟩
  | succ i=>simp at hi;simp only[List.set_cons_succ,er];exact⟨d,_,rfl,h1,xH h2 hi hz⟩
theorem oR:∀ {ts:List Ty} {l:List D} (i:Nat),er ts l->er (ts.take i) (l.take i)
 | ts,l,0,_=>by simp[er]
 | [],l,i+1,h=>by simp_all [er]
 | t::ts,l,i+1,h=>by
  simp only[er] at h;obtain⟨d,l',rfl,h1,h2⟩:=h;simp only[zVb,er];exact⟨d,_,rfl,h1,oR i h2⟩
theorem bI:∀ {ts:List Ty} {i:Nat} {t:Ty},bg ts=true->ts[i]?=some t->aj t=true
 | [],_,_,_,h=>by simp at h
 | u::ts,i,t,h,hi=>by
  simp only[bg,zaa] at h;cases i with
  | zero=>simp at hi;subst hi;exact h.1
  | succ i=>simp at hi;exact bI h.2 hi
theorem gn:∀ {ts:List Ty} (i:Nat),bg ts=true->bg (ts.take i)=true
 | ts,0,_=>by simp[bg]
 | [],i+1,_=>by simp[bg]
 | u::ts,i+1,h=>by
  simp only[bg,zaa] at h;simp only[zVb,bg,zaa];exact⟨h.1,gn i h.2⟩
theorem dj:∀ (p:List Nat) {t u:Ty},aj t=true->aH t p=some u->aj u=true
 | [],t,u,h,hp=>by simp_all [aH,zca]
 | i::p,t,u,h,hp=>by
  cases t<;>simp only[aH] at hp
  case st ts=>
   cases hi:ts[i]? with
   | none=>rw[hi] at hp;cases hp
   | some v=>rw[hi] at hp;exact dj p (bI (by simpa [aj] using h) hi) hp
  case arr n v=>exact dj p (by simpa [aj] using h) hp
  all_goals cases hp
theorem hC:∀ (p:List Nat) {t u:Ty} {x y:D},wt t x->aj t=true->aH t p=some u->x.get p=some y ->
  wt u y/\∃ a b,x.flat=a++(y.flat++b)/\a.length=aX t p
 | [],t,u,x,y,h,hn,hp,hg=>by
  have hp':t=u:=by simp_all [aH]
  simp only[D.get,zca] at hg;subst hp';subst hg;exact⟨h,[],[],by simp,by cases t<;>rfl⟩
 | i::p,t,u,x,y,h,hn,hp,hg=>by
  simp only[D.get] at hg;cases hf:x.fld i with
  | none=>rw[hf] at hg;cases hg
  | some z=>
   rw[hf] at hg;have hg':z.get p=some y:=hg;cases t<;>simp only[aH] at hp
   case st ts=>
    cases hi:ts[i]? with
    | none=>rw[hi] at hp;cases hp
    | some v=>
     rw[hi] at hp;have hp':aH v p=some u:=hp;simp only[wt] at h;obtain⟨l,rfl,hl⟩:=h;simp only[D.fld] at hf;obtain⟨z',hz,hv⟩:=ge hl hi;rw[hf] at hz;cases hz;simp only[aj] at hn;obtain⟨h1,a,b,h2,h3⟩:=hC p hv (bI hn hi) hp' hg';refine⟨h1,D.flats (l.take i)++a,b++D.flats (l.drop (i+1)),?_,?_⟩
     ·grind [D.flat,bT,List.append_assoc]
     ·simp only[aX,zta,h3];rw[oQ _ _ (oR i hl) (gn i hn)]
      simp_all
   case arr n v=>
    simp only[wt] at h;obtain⟨l,rfl,hl,hv⟩:=h;simp only[D.fld] at hf;simp only[aj] at hn;obtain⟨h1,a,b,h2,h3⟩:=hC p (hv z (z0a hf)) hn hp hg';refine⟨h1,D.flats (l.take i)++a,b++D.flats (l.drop (i+1)),?_,?_⟩
    ·grind [D.flat,bT,List.append_assoc]
    ·grind [aX,List.length_append,aB,List.mem_of_mem_take,Nat.min_eq_left,Nat.le_of_lt]
   all_goals cases hp
theorem oG:∀ (p:List Nat) {t u:Ty} {x y x':D},wt t x->aj t=true->aH t p=some u->x.set p y=some x'->wt u y ->
  wt t x'/\∃ a c b,x.flat=a++(c++b)/\x'.flat=a++(y.flat++b)/\a.length=aX t p/\c.length=u.size
 | [],t,u,x,y,x',h,hn,hp,hg,hy=>by
  have hp':t=u:=by simp_all [aH]
  simp only[D.set,zca] at hg;subst hp';subst hg;exact⟨hy,[],x.flat,[],by simp,by simp,by cases t<;>rfl,cb _ _ h hn⟩
 | i::p,t,u,x,y,x',h,hn,hp,hg,hy=>by
  cases t<;>simp only[aH] at hp
  case st ts=>
   cases hi:ts[i]? with
   | none=>rw[hi] at hp;cases hp
   | some v=>
    rw[hi] at hp;have hp':aH v p=some u:=hp;simp only[wt] at h;obtain⟨l,rfl,hl⟩:=h;simp only[D.set] at hg;obtain⟨z,hz,hv⟩:=ge hl hi;rw[hz] at hg;cases hs:D.set z p y with
    | none=>rw[show((some z).bind λz=>(D.set z p y).bind λz'=>some (D.st (l.set i z')))=(D.set z p y).bind λz'=>some (D.st (l.set i z')) from rfl,hs] at hg;cases hg
    | some z'=>
     rw[show((some z).bind λz=>(D.set z p y).bind λz'=>some (D.st (l.set i z')))=(D.set z p y).bind λz'=>some (D.st (l.set i z')) from rfl,hs] at hg;simp only[zba,zca] at hg;subst hg;simp only[aj] at hn;obtain⟨h1,a,c,b,h2,h3,h4,h5⟩:=oG p hv (bI hn hi) hp' hs hy;refine⟨by simp only[wt];exact⟨_,rfl,xH hl hi h1⟩,D.flats (l.take i)++a,c,b++D.flats (l.drop (i+1)),?_,?_,?_,h5⟩
     ·simp only[D.flat];rw[bT hz,h2];simp[zEa]
     ·simp only[D.flat];rw[lQ hz,h3];simp[zEa]
     ·simp only[aX,zta,h4];rw[oQ _ _ (oR i hl) (gn i hn)];simp[List.getD,hi]
  case arr n v=>
   simp only[wt] at h;obtain⟨l,rfl,hl,hv⟩:=h;simp only[D.set] at hg;cases hz:l[i]? with
   | none=>rw[hz] at hg;cases hg
   | some z=>
    rw[hz] at hg;cases hs:D.set z p y with
    | none=>rw[show((some z).bind λz=>(D.set z p y).bind λz'=>some (D.st (l.set i z')))=(D.set z p y).bind λz'=>some (D.st (l.set i z')) from rfl,hs] at hg;cases hg
    | some z'=>
     rw[show((some z).bind λz=>(D.set z p y).bind λz'=>some (D.st (l.set i z')))=(D.set z p y).bind λz'=>some (D.st (l.set i z')) from rfl,hs] at hg;simp only[zba,zca] at hg;subst hg;simp only[aj] at hn;obtain⟨h1,a,c,b,h2,h3,h4,h5⟩:=oG p (hv z (z0a hz)) hn hp hs hy;refine⟨?_,D.flats (l.take i)++a,c,b++D.flats (l.drop (i+1)),?_,?_,?_,h5⟩
     ·simp only[wt];refine⟨_,rfl,by simpa using hl,λx hx=>?_⟩
      rcases zLc hx with h|h
      ·exact hv x h
      ·rw[h];exact h1
     ·simp only[D.flat];rw[bT hz,h2];simp[zEa]
     ·simp only[D.flat];rw[lQ hz,h3];simp[zEa]
     ·simp only[aX,zta,h4];rw[aB hn _ (λx hx=>hv x (zGa hx))];have:=(zja.1 hz).1;simp[zlb (zhc this)]
  all_goals cases hp
inductive CR(w:World)(S:Nat->Nat->Prop):D->Value->Prop
 | int (k:IntKind) (n:Int):CR w S (.int k n) (.int k n)
 | bool (b:Bool):CR w S (.bool b) (.bool b)
 | str (s:ByteArray):CR w S (.str s) (.string s)
 | sl (l:List D) (a:Option Addr) (cap b off:Nat) (c:Nat->Value) (ha:l=[]\/a=some ⟨b,off,none⟩) (hc:l.length<=cap)
   (h1:∀ i d,(D.flats l)[i]?=some d->S b (off+i)/\w.cell? ⟨b,off+i,none⟩=some (c i))
   (h2:∀ i d,(D.flats l)[i]?=some d->CR w S d (c i)):CR w S (.sl l) (.slice a l.length cap)
def CR.mono{w w':World}{S S':Nat->Nat->Prop}(hw:∀ b o,S b o->w'.cell? ⟨b,o,none⟩=w.cell? ⟨b,o,none⟩)(hS:∀ b o,S b o->S' b o){d:D}{v:Value}(h:CR w S d v):CR w' S' d v:=by
 induction h with
 | int k n=>exact .int k n
 | bool b=>exact .bool b
 | str s=>exact .str s
 | sl l a cap b off c ha hc h1 h2 ih=>
  exact .sl l a cap b off c ha hc (λi d hd=>⟨hS _ _ (h1 i d hd).1,by rw[hw _ _ (h1 i d hd).1];exact(h1 i d hd).2⟩) ih
def cF(w:World)(S:Nat->Nat->Prop)(ds:List D)(cs:List Value):Prop:=ds.length=cs.length/\∀ (i:Nat) (d:D) (c:Value),ds[i]?=some d->cs[i]?=some c->CR w S d c
theorem cF.mono{w w':World}{S S':Nat->Nat->Prop}(hw:∀ b o,S b o->w'.cell? ⟨b,o,none⟩=w.cell? ⟨b,o,none⟩)(hS:∀ b o,S b o->S' b o){d:List D}{v:List Value}(h:cF w S d v):cF w' S' d v:=
 ⟨h.1,λi d c h1 h2=>(h.2 i d c h1 h2).mono hw hS⟩
def cF.nil{w:World}{S:Nat->Nat->Prop}:cF w S [] []:=⟨rfl,λi d c h=>by simp at h⟩
def cF.append{w:World}{S:Nat->Nat->Prop}{a b:List D}{c d:List Value}(h:cF w S a c)(k:cF w S b d):cF w S (a++b) (c++d):=by
 refine⟨by simp[h.1,k.1],λi x y hx hy=>?_⟩
 rw[zJc] at hx hy;by_cases hi:i<a.length
 ·rw[if_pos hi] at hx;rw[if_pos (h.1 ▸ hi)] at hy;exact h.2 i x y hx hy
 ·rw[if_neg hi] at hx;rw[if_neg (h.1 ▸ hi)] at hy;rw[h.1] at hx;exact k.2 _ x y hx hy
def cF.split{w:World}{S:Nat->Nat->Prop}{a b:List D}{cs:List Value}(h:cF w S (a++b) cs):cF w S a (cs.take a.length)/\cF w S b (cs.drop a.length):=by
 obtain⟨h1,h2⟩:=h;rw[zta] at h1;refine⟨⟨by simp;omega,λi x y hx hy=>?_⟩,⟨by simp;omega,λi x y hx hy=>?_⟩⟩
 ·grind
 ·grind
def cF.single{w:World}{S:Nat->Nat->Prop}{d:D}{v:Value}:cF w S [d] [v]↔CR w S d v:=by
 constructor
 ·intro h;exact h.2 0 d v rfl rfl
 ·intro h;refine⟨rfl,λi x y hx hy=>?_⟩;all_goals grind
def cF.single'{w:World}{S:Nat->Nat->Prop}{d:D}{cs:List Value}(h:cF w S [d] cs):∃ v,cs=[v]/\CR w S d v:=by
 match cs,h with
 | [v],h=>exact⟨v,rfl,cF.single.1 h⟩
 | [],h=>simp[cF] at h
 | _::_::_,h=>simp[cF] at h
def oU(w:World)(S:Nat->Nat->Prop)(b off:Nat)(ds:List D):Prop:=∃ cs,cF w S ds cs/\∀ (i:Nat) (c:Value),cs[i]?=some c->S b (off+i)/\w.cell? ⟨b,off+i,none⟩=some c
theorem oU.mono{w w':World}{S S':Nat->Nat->Prop}(hw:∀ b o,S b o->w'.cell? ⟨b,o,none⟩=w.cell? ⟨b,o,none⟩)(hS:∀ b o,S b o->S' b o){b off:Nat}{d:List D}(h:oU w S b off d):oU w' S' b off d:=by
 obtain⟨cs,h1,h2⟩:=h;exact⟨cs,h1.mono hw hS,λi c hc=>⟨hS _ _ (h2 i c hc).1,by rw[hw _ _ (h2 i c hc).1];exact(h2 i c hc).2⟩⟩
def oU.part{w:World}{S:Nat->Nat->Prop}{b off:Nat}{x y z:List D}(h:oU w S b off (x++(y++z))):oU w S b (off+x.length) y:=by
 obtain⟨cs,h1,h2⟩:=h;obtain⟨_,h3⟩:=h1.split;obtain⟨h4,_⟩:=h3.split;refine⟨_,h4,λi c hc=>?_⟩;grind
def CR.elems{w:World}{S:Nat->Nat->Prop}{l:List D}{v:Value}(h:CR w S (.sl l) v):∃ a cap b off,v=.slice a l.length cap/\(l=[]\/a=some ⟨b,off,none⟩)/\l.length<=cap/\oU w S b off (D.flats l):=by
 cases h with
 | sl _ a cap b off c ha hc h1 h2=>
  refine⟨a,cap,b,off,rfl,ha,hc,(List.range (D.flats l).length).map c,⟨by simp,λi d c' hd hc'=>?_⟩,λi c' hc'=>?_⟩
  ·grind
  ·have hi:=(zja.1 hc').1
   simp_all
def CR.of_elems{w:World}{S:Nat->Nat->Prop}{l:List D}{a:Option Addr}{cap b off:Nat}(ha:l=[]\/a=some ⟨b,off,none⟩)(hc:l.length<=cap)(h:oU w S b off (D.flats l)):CR w S (.sl l) (.slice a l.length cap):=by
 obtain⟨cs,h1,h2⟩:=h;refine .sl l a cap b off (λi=>cs.getD i undef) ha hc (λi d hd=>?_) (λi d hd=>?_)
 ·have hi:i<cs.length:=by rw[<-h1.1];exact(zja.1 hd).1
  have:=h2 i _ (zda hi);simpa [List.getD,zda hi] using this
 ·have hi:i<cs.length:=by rw[<-h1.1];exact(zja.1 hd).1
  have:=h1.2 i d _ hd (zda hi);simpa [List.getD,zda hi] using this
def Pb:D->Value->Prop
 | .st _,v=>∃ cs,v=.agg cs
 | _,v=>∀ cs,v≠.agg cs
def fD(w:World)(S:Nat->Nat->Prop)(d:D)(v:Value):Prop:=Pb d v/\cF w S d.flat v.cells.toList
def DR(w:World)(S:Nat->Nat->Prop):D->Value->Prop
 | .tup l,v=>∃ vs:List Value,v=.tuple vs.toArray/\l.length=vs.length/\∀ (i:Nat) (d:D) (u:Value),l[i]?=some d->vs[i]?=some u->fD w S d u
 | d,v=>fD w S d v
theorem fD.mono{w w':World}{S S':Nat->Nat->Prop}(hw:∀ b o,S b o->w'.cell? ⟨b,o,none⟩=w.cell? ⟨b,o,none⟩)(hS:∀ b o,S b o->S' b o){d:D}{v:Value}(h:fD w S d v):fD w' S' d v:=⟨h.1,h.2.mono hw hS⟩
theorem DR.mono{w w':World}{S S':Nat->Nat->Prop}(hw:∀ b o,S b o->w'.cell? ⟨b,o,none⟩=w.cell? ⟨b,o,none⟩)(hS:∀ b o,S b o->S' b o){d:D}{v:Value}(h:DR w S d v):DR w' S' d v:=by
 cases d<;>simp only[DR] at h ⊢<;>first
  | exact h.mono hw hS
  | (obtain⟨vs,h1,h2,h3⟩:=h;exact⟨vs,h1,h2,λi d u hd hu=>(h3 i d u hd hu).mono hw hS⟩)
def DR.of0{w:World}{S:Nat->Nat->Prop}{d:D}{v:Value}(h:fD w S d v):DR w S d v:=by
 cases d<;>simp only[DR]<;>first
  | exact h
  | (exfalso;obtain⟨c,e,h⟩:=cF.single' h.2;cases h)
def CR.int_inv{w:World}{S:Nat->Nat->Prop}{k:IntKind}{n:Int}{v:Value}(h:CR w S (.int k n) v):v=.int k n:=by cases h;rfl
def CR.bool_inv{w:World}{S:Nat->Nat->Prop}{n:Bool}{v:Value}(h:CR w S (.bool n) v):v=.bool n:=by cases h;rfl
def am{v u:Value}(hv:∀ cs,v≠.agg cs)(h:v.cells.toList=[u]):v=u:=by
 all_goals simp_all [Value.cells]
theorem fD.int_inv{w:World}{S:Nat->Nat->Prop}{k:IntKind}{n:Int}{v:Value}(h:fD w S (.int k n) v):v=.int k n:=by
 obtain⟨u,h1,h2⟩:=cF.single' (d:=.int k n) h.2;rw[am h.1 h1];exact h2.int_inv
theorem fD.bool_inv{w:World}{S:Nat->Nat->Prop}{n:Bool}{v:Value}(h:fD w S (.bool n) v):v=.bool n:=by
 obtain⟨u,h1,h2⟩:=cF.single' (d:=.bool n) h.2;rw[am h.1 h1];exact h2.bool_inv
def fD.sl_inv{w:World}{S:Nat->Nat->Prop}{l:List D}{v:Value}(h:fD w S (.sl l) v):CR w S (.sl l) v:=by
 obtain⟨u,h1,h2⟩:=cF.single' (d:=.sl l) h.2;rw[am h.1 h1];exact h2
def CR.no_agg{w:World}{S:Nat->Nat->Prop}{d:D}{v:Value}(h:CR w S d v):(∀ cs,v≠.agg cs)/\(∀ vs,v≠.tuple vs)/\d.flat=[d]/\v.cells=#[v]:=by cases h<;>simp[D.flat,Value.cells]
def fD.of_CR{w:World}{S:Nat->Nat->Prop}{d:D}{v:Value}(h:CR w S d v):fD w S d v:=by
 obtain⟨h1,_,h3,h4⟩:=h.no_agg;refine⟨?_,?_⟩
 ·cases h<;>simp[Pb]
 ·rw[h3,h4];exact cF.single.2 h
end Sy
end
noncomputable section
namespace Sy
open Go
structure Cx where
 w:World
 S:Nat->Nat->Prop
 γ:Nat->Option Nat
 β:Nat->Option (Nat×Nat)
 ob:Nat->Option Ob
 dead:List Nat
def lu(w:World)(b:Nat):Option Nat:=(bE w b).map (·.size)
def bX:Ob->List Nat->Nat
 | .one t _,p=>aX t p
 | .many t _,i::p=>i*t.size+aX t p
 | .many ..,[]=>0
 | .mp ..,_=>0
 | .lp ..,_=>0
 | .fv _,_=>0
def V1(c:Cx)(t:Ty)(v:Nat)(l:List D)(a:Option Addr)(cap:Nat):Prop:=
 v ∉ c.dead->(a=none/\cap=0)\/∃ b off,a=some ⟨b,off,none⟩/\c.β v=some (b,off+l.length*t.size)/\∃ n,lu c.w b=some n/\off+cap*t.size<=n
mutual
def AC(c:Cx):AV->List Value->Prop
 | .d t x,cs=>wt t x/\aj t=true/\cF c.w c.S x.flat cs
 | .own t v l,cs=>aj t=true/\(∀ x∈l,wt t x)/\∃ a cap,cs=[.slice a l.length cap]/\CR c.w c.S (.sl l) (.slice a l.length cap)/\V1 c t v l a cap
 | .nils,cs=>cs=[.slice none 0 0]
 | .ptr t id p,cs=>∃ b off,cs=[.pointer (some ⟨b,off,none⟩)]/\c.γ id=some b/\∀ o,c.ob id=some o->dP o p=some t/\off=bX o p
 | .fptr t x,cs=>wt t x/\aj t=true/\∃ b off,cs=[.pointer (some ⟨b,off,none⟩)]/\oU c.w c.S b off x.flat
 | .mem t id,cs=>aj t=true/\∃ b,c.γ id=some b/\∀ o,c.ob id=some o->∃ l,o=.many t l/\cs=[.slice (some ⟨b,0,none⟩) l.length l.length]
 | .st ts l,cs=>bg ts=true/\AV.fitss ts l=true/\jX c l cs
 | .clo f l,cs=>∃ caps:List Value,cs=[.func (.func f) #[] caps.toArray]/\mA c l caps
 | .map kt vt id,cs=>∃ b,cs=[.map (some b)]/\c.γ id=some b/\aj kt=true/\aj vt=true/\∀ o,c.ob id=some o->∃ l,o=.mp kt vt l
 | .sub sl t id p lo n,cs=>aj t=true/\∃ b off cap,cs=[if sl then .slice (some ⟨b,off,none⟩) n cap else .pointer (some ⟨b,off,none⟩)]/\c.γ id=some b/\∀ o,c.ob id=some o->∃ m,dP o p=some (.arr m t)/\lo+n<=m/\off=bX o p+lo*t.size
 | .yld id,cs=>∃ L,cs=[.func (.yield L) #[] #[]]/\c.γ id=some L
 | .gone,_=>True
 | .undef,_=>True
def jX(c:Cx):List AV->List Value->Prop
 | [],cs=>cs=[]
 | a::l,cs=>∃ c1 c2,cs=c1++c2/\AC c a c1/\jX c l c2
def mA(c:Cx):List AV->List Value->Prop
 | [],cs=>cs=[]
 | a::l,cs=>∃ v c2,cs=v::c2/\AC c a [v]/\mA c l c2
end
def AR(c:Cx):AV->Value->Prop
 | .gone,v=>v=undef
 | .d t x,v=>(aj t=true/\wt t x/\fD c.w c.S x v)\/∃ ts,t=.tup ts/\bg ts=true/\wt t x/\DR c.w c.S x v
 | .undef,_=>True
 | .st ts l,v=>(∃ cs,v=.agg cs)/\AC c (.st ts l) v.cells.toList
 | a,v=>(∀ cs,v≠.agg cs)/\AC c a v.cells.toList
structure Cx.le(c c':Cx):Prop where
 cell:∀ b o,c.S b o->c'.w.cell? ⟨b,o,none⟩=c.w.cell? ⟨b,o,none⟩
 S:∀ b o,c.S b o->c'.S b o
 γ:∀ id b,c.γ id=some b->c'.γ id=some b
 ob:∀ id o,c'.ob id=some o->(∃ b,c.γ id=some b)->∃ o',c.ob id=some o'/\(∀ p,dP o p=dP o' p/\bX o p=bX o' p)/\(∀ t l,o'=.many t l->∃ l',o=.many t l'/\l'.length=l.length)/\(∀ kt vt l,o'=.mp kt vt l->∃ l',o=.mp kt vt l')
 β:∀ v,v ∉ c'.dead->v ∉ c.dead/\∀ b e,c.β v=some (b,e)->c'.β v=some (b,e)/\∀ n,lu c.w b=some n->lu c'.w b=some n
mutual
theorem AC.mono{c c':Cx}(h:c.le c'):∀ (a:AV) (cs:List Value),AC c a cs->AC c' a cs
 | .d t x,cs,k=>by simp only[AC] at k ⊢;exact⟨k.1,k.2.1,k.2.2.mono h.cell h.S⟩
 | .own t v l,cs,k=>by
  simp only[AC] at k ⊢;obtain⟨k0,k1,a,cap,rfl,k2,k3⟩:=k;refine⟨k0,k1,a,cap,rfl,k2.mono h.cell h.S,λhd=>?_⟩;obtain⟨h1,h2⟩:=h.β v hd;rcases k3 h1 with h3|⟨b,off,h3,h4,n,h5,h6⟩
  ·exact .inl h3
  ·exact .inr ⟨b,off,h3,(h2 _ _ h4).1,n,(h2 _ _ h4).2 n h5,h6⟩
 | .nils,cs,k=>by simpa only[AC] using k
 | .ptr t id p,cs,k=>by
  simp only[AC] at k ⊢;obtain⟨b,off,rfl,k1,k2⟩:=k;refine⟨b,off,rfl,h.γ _ _ k1,λo ho=>?_⟩;obtain⟨o',h1,h2,_⟩:=h.ob id o ho ⟨b,k1⟩
  simp_all
 | .fptr t x,cs,k=>by
  simp only[AC] at k ⊢;obtain⟨k1,k0,b,off,rfl,k2⟩:=k;exact⟨k1,k0,b,off,rfl,k2.mono h.cell h.S⟩
 | .mem t id,cs,k=>by
  simp only[AC] at k ⊢;obtain⟨k0,b,k1,k2⟩:=k;refine⟨k0,b,h.γ _ _ k1,λo ho=>?_⟩;obtain⟨o',h1,_,h3,_⟩:=h.ob id o ho ⟨b,k1⟩;grind
 | .st ts l,cs,k=>by
  simp only[AC] at k ⊢;exact⟨k.1,k.2.1,jX.mono h l cs k.2.2⟩
 | .clo f l,cs,k=>by
  simp only[AC] at k ⊢;obtain⟨caps,rfl,k1⟩:=k;exact⟨caps,rfl,mA.mono h l caps k1⟩
 | .map kt vt id,cs,k=>by
  simp only[AC] at k ⊢;obtain⟨b,e,k1,k2,k3,k4⟩:=k;refine⟨b,e,h.γ _ _ k1,k2,k3,λo ho=>?_⟩;obtain⟨o',h1,_,_,h3⟩:=h.ob id o ho ⟨b,k1⟩;grind
 | .sub sl t id p lo n,cs,k=>by
  simp only[AC] at k ⊢;obtain⟨k0,b,off,cap,rfl,k1,k2⟩:=k;refine⟨k0,b,off,cap,rfl,h.γ _ _ k1,λo ho=>?_⟩;obtain⟨o',h1,h2,_⟩:=h.ob id o ho ⟨b,k1⟩
  simp_all
 | .yld id,cs,k=>by
  simp only[AC] at k ⊢;obtain⟨L,rfl,k1⟩:=k;exact⟨L,rfl,h.γ _ _ k1⟩
 | .gone,cs,k=>by simp[AC]
 | .undef,cs,k=>by simp[AC]
theorem jX.mono{c c':Cx}(h:c.le c'):∀ (l:List AV) (cs:List Value),jX c l cs->jX c' l cs
 | [],cs,k=>by simpa only[jX] using k
 | a::l,cs,k=>by
  simp only[jX] at k ⊢;obtain⟨c1,c2,rfl,k1,k2⟩:=k;exact⟨c1,c2,rfl,AC.mono h a c1 k1,jX.mono h l c2 k2⟩
theorem mA.mono{c c':Cx}(h:c.le c'):∀ (l:List AV) (cs:List Value),mA c l cs->mA c' l cs
 | [],cs,k=>by simpa only[mA] using k
 | a::l,cs,k=>by
  simp only[mA] at k ⊢;obtain⟨c1,c2,rfl,k1,k2⟩:=k;exact⟨c1,c2,rfl,AC.mono h a _ k1,mA.mono h l c2 k2⟩
end
theorem AR.mono{c c':Cx}(h:c.le c'){a:AV}{v:Value}(k:AR c a v):AR c' a v:=by
 cases a<;>simp only[AR] at k ⊢
 case d t x=>
  rcases k with⟨k1,k2,k3⟩|⟨ts,k1,k0,k2,k3⟩
  ·exact .inl ⟨k1,k2,k3.mono h.cell h.S⟩
  ·exact .inr ⟨ts,k1,k0,k2,k3.mono h.cell h.S⟩
 all_goals first|exact⟨k.1,AC.mono h _ _ k.2⟩|exact k
def gW(c:Cx)(kt vt:Ty):Nat->List D->List MapEntry->Prop
 | _,[],[]=>True
 | j,x::l,e::es=>(e.born=j/\∃ k v,x=.st [k,v]/\wt kt k/\wt vt v/\fD c.w c.S k e.key/\fD c.w c.S v e.val)/\gW c kt vt (j+1) l es
 | _,_,_=>False
def rH(c:Cx):AV->Value->Prop
 | .ptr _ id [],v=>∃ b,v=.pointer (some ⟨b,0,none⟩)/\c.γ id=some b
 | _,_=>False
def mB(c:Cx):List AV->List Value->Prop
 | [],[]=>True
 | a::l,v::vs=>rH c a v/\mB c l vs
 | _,_=>False
def eK(c:Cx):AV->Value->Prop
 | .d t x,v=>AR c (.d t x) v
 | .fptr t x,v=>AR c (.fptr t x) v
 | .ptr t id p,v=>rH c (.ptr t id p) v
 | .clo f l,v=>∃ caps:List Value,v=.func (.func f) #[] caps.toArray/\mB c l caps
 | .yld id,v=>AR c (.yld id) v
 | .map kt vt id,v=>∃ b,v=.map (some b)/\c.γ id=some b/\aj kt=true/\aj vt=true
 | _,_=>True
def rH.mono{c c':Cx}(hγ:∀ id b,c.γ id=some b->c'.γ id=some b){a:AV}{v:Value}(k:rH c a v):rH c' a v:=by
 unfold rH at k ⊢;all_goals grind
theorem mB.mono{c c':Cx}(hγ:∀ id b,c.γ id=some b->c'.γ id=some b):∀ {l:List AV} {vs:List Value},mB c l vs->mB c' l vs
 | [],[],_=>trivial
 | [],_::_,k=>k.elim
 | _::_,[],k=>k.elim
 | a::l,v::vs,k=>⟨k.1.mono hγ,mB.mono hγ k.2⟩
theorem eK.mono{c c':Cx}(hcell:∀ b o,c.S b o->c'.w.cell? ⟨b,o,none⟩=c.w.cell? ⟨b,o,none⟩)(hS:∀ b o,c.S b o->c'.S b o)(hγ:∀ id b,c.γ id=some b->c'.γ id=some b){a:AV}{v:Value}(k:eK c a v):eK c' a v:=by
 cases a<;>simp only[eK] at k ⊢
 case d t x=>
  simp only[AR] at k ⊢;rcases k with⟨k1,k2,k3⟩|⟨ts,k1,k0,k2,k3⟩
  ·exact .inl ⟨k1,k2,k3.mono hcell hS⟩
  ·exact .inr ⟨ts,k1,k0,k2,k3.mono hcell hS⟩
 case fptr t x=>
  simp only[AR,AC] at k ⊢;obtain⟨k4,k1,k0,b,off,e,k2⟩:=k;exact⟨k4,k1,k0,b,off,e,k2.mono hcell hS⟩
 case ptr t id p=>exact k.mono hγ
 case clo f l=>
  obtain⟨caps,e,k1⟩:=k;exact⟨caps,e,k1.mono hγ⟩
 case yld id=>
  simp only[AR,AC] at k ⊢;obtain⟨k1,L,e,k2⟩:=k;exact⟨k1,L,e,hγ _ _ k2⟩
 case map kt vt id=>
  obtain⟨b,e,k1,k2⟩:=k;exact⟨b,e,hγ _ _ k1,k2⟩
def Af:Ex->Code
 | .normal=>.skip
 | .exit id=>.exit id
 | .ret=>.ret
def XU(i:LpI)(r:Loop):Prop:=r.tmps.size=i.nt/\r.params.toList=i.ps/\r.assign=i.asg/\r.body=i.bdy
def VP:Option Ex->Loop->Prop
 | none,r=>r.state=.ready/\r.pending=none
 | some e,r=>r.state=.done/\r.pending=some (Af e)
def zW(r r':Loop):Prop:=r'.tmps=r.tmps/\r'.params=r.params/\r'.assign=r.assign/\r'.body=r.body
def iN(w w':World)(b:Nat):Prop:=w'.heap[b]?=w.heap[b]?\/∃ r r',w.heap[b]?=some (Obj.loop r)/\w'.heap[b]?=some (Obj.loop r')/\zW r r'
def iN.refl(w:World)(b:Nat):iN w w b:=.inl rfl
theorem iN.trans{w w1 w2:World}{b:Nat}(h:iN w w1 b)(k:iN w1 w2 b):iN w w2 b:=by
 rcases h with h|⟨r,r1,h1,h2,h3⟩<;>rcases k with k|⟨r',r2,k1,k2,k3⟩
 ·exact .inl (k.trans h)
 ·exact .inr ⟨r',r2,h.symm.trans k1,k2,k3⟩
 ·exact .inr ⟨r,r1,h1,k.trans h2,h3⟩
 ·rw[h2] at k1;cases k1;exact .inr ⟨r,r2,h1,k2,k3.1.trans h3.1,k3.2.1.trans h3.2.1,k3.2.2.1.trans h3.2.2.1,k3.2.2.2.trans h3.2.2.2⟩
def iN.row{w w':World}{b:Nat}(h:iN w w' b){cs:Array Value}(hr:bE w b=some cs):w'.heap[b]?=w.heap[b]?:=by
 rcases h with h|⟨r,r',h1,_,_⟩
 ·exact h
 ·simp[bE,h1] at hr
def cJ(w w':World):Prop:=∀ b:Nat,(w.heap[b]?=some (Obj.deferred (some []))->w'.heap[b]?=some (Obj.deferred (some [])))/\((∃ r,w.heap[b]?=some (Obj.loop r))->∃ r,w'.heap[b]?=some (Obj.loop r))
def cJ.refl(w:World):cJ w w:=λ_=>⟨id,id⟩
def cJ.trans{w w1 w2:World}(h:cJ w w1)(k:cJ w1 w2):cJ w w2:=λb=>⟨λhb=>(k b).1 ((h b).1 hb),λhb=>(k b).2 ((h b).2 hb)⟩
def cc(lo:Nat)(w:World):Nat->List Deferred->Prop
 | _,[]=>True
 | hi,d::l=>∃ K,d={ target:=.collected K,args:=#[] }/\lo<=K/\K<hi/\w.heap[K]?=some (Obj.deferred (some []))/\cc lo w K l
theorem cc.mono{lo lo':Nat}{w w':World}(hlo:lo'<=lo)(h:cJ w w'):∀ {l:List Deferred} {hi hi':Nat},hi<=hi'->cc lo w hi l->cc lo' w' hi' l
 | [],_,_,_,_=>trivial
 | d::l,hi,hi',hh,⟨K,h1,h2,h3,h4,h5⟩=>⟨K,h1,zDa hlo h2,zOa h3 hh,(h K).1 h4,cc.mono hlo h (zha K) h5⟩
theorem cc.append{lo mid:Nat}{w:World}(hm:lo<=mid):∀ {l l':List Deferred} {hi:Nat},mid<=hi->cc mid w hi l->cc lo w mid l'->cc lo w hi (l++l')
 | [],l',hi,hh,_,h=>cc.mono (zha _) (cJ.refl w) hh h
 | d::l,l',hi,hh,⟨K,h1,h2,h3,h4,h5⟩,h=>⟨K,h1,zDa hm h2,h3,h4,cc.append hm h2 h5 h⟩
def jW(l:List Nat)(a:Act)(w:World)(a':Act)(w':World):Prop:=cJ w w'/\∃ m,a'.defers=m++a.defers/\cc w.heap.size w' w'.heap.size m/\(4095∈l->m=[])
def jW.same{l:List Nat}{a a':Act}{w w':World}(hd:a'.defers=a.defers)(h:cJ w w'):jW l a w a' w':=⟨h,[],by simpa using hd,trivial,λ_=>rfl⟩
def jW.less{l l':List Nat}{a a':Act}{w w':World}(hl:∀ i∈l',i∈l)(h:jW l a w a' w'):jW l' a w a' w':=by
 obtain⟨q1,m1,e1,p1,z1⟩:=h;exact⟨q1,m1,e1,p1,λhh=>z1 (hl _ hh)⟩
theorem jW.trans{l:List Nat}{a a1 a2:Act}{w w1 w2:World}(h:jW l a w a1 w1)(k:jW l a1 w1 a2 w2)(h1:w.heap.size<=w1.heap.size)(h2:w1.heap.size<=w2.heap.size):jW l a w a2 w2:=by
 obtain⟨q1,m1,e1,p1,z1⟩:=h;obtain⟨q2,m2,e2,p2,z2⟩:=k;refine⟨q1.trans q2,m2++m1,by rw[e2,e1,zEa],?_,λhh=>by rw[z1 hh,z2 hh];rfl⟩
 exact cc.append h1 h2 p2 (p1.mono (zha _) q2 (zha _))
def bA{a:Act}{d:Option Nat}{v:Value}:(a.put d v).defers=a.defers:=by cases d<;>rfl
def fh(c:Cx)(b:Nat):Ob->Prop
 | .one t v=>aj t=true/\AV.fits t v=true/\(∀ o,¬ c.S b o)/\∃ cs:List Value,bE c.w b=some cs.toArray/\AC c v cs/\cs.length=t.size
 | .many t l=>aj t=true/\(∀ x∈l,wt t x)/\(∀ o,¬ c.S b o)/\∃ cs:List Value,bE c.w b=some cs.toArray/\cF c.w c.S (D.flats l) cs
 | .mp kt vt l=>aj kt=true/\aj vt=true/\(∀ o,¬ c.S b o)/\∃ es:Array MapEntry,c.w.heap[b]?=some (.map es l.length)/\gW c kt vt 0 l es.toList
 | .fv v=>(∀ o,¬ c.S b o)/\∃ x:Value,bE c.w b=some #[x]/\eK c v x/\Value.oneCell' x=true
 | .lp i p=>∃ r:Loop,c.w.heap[b]?=some (Obj.loop r)/\XU i r/\(∀ t,t<i.nt->eK c (i.caps t) (r.tmps.getD t undef))/\VP p r
structure Root where
 w:World
 S0:Nat->Nat->Prop
 sh:Nat->Prop
abbrev Root.heap(r:Root):Array Obj:=r.w.heap
def Root.Old(r:Root)(b:Nat):Prop:=b<r.heap.size/\¬ r.sh b
structure lK(r:Root)(w:World):Prop where
 tape:w.tape=r.w.tape
 os:w.os=r.w.os
 output:w.output=r.w.output
 sz:r.heap.size<=w.heap.size
 dr:r.w.drawn<=w.drawn
 old:∀ b,r.Old b->w.heap[b]?=r.w.heap[b]?
structure Rp(w0:Root)(S:Nat->Nat->Prop)(γ:Nat->Option Nat)(β:Nat->Option (Nat×Nat))(s:St)(a:Act)(w:World):Prop where
 ext:lK w0 w
 tms:∀ t,t<a.tmps.size->AR ⟨w,S,γ,β,s.ob,s.dead⟩ (s.tm t) (a.tmps.getD t undef)
 nt:a.tmps.size=s.nt
 tmu:∀ t,s.nt<=t->s.tm t=.undef
 obs:∀ id o b,s.ob id=some o->γ id=some b->fh ⟨w,S,γ,β,s.ob,s.dead⟩ b o
 γn:∀ id b,γ id=some b->¬ w0.Old b/\b<w.heap.size
 γi:∀ id id' b,γ id=some b->γ id'=some b->id=id'
 γf:∀ id,s.base+4096<=id->γ id=none
 βn:∀ v b e,v ∉ s.dead->β v=some (b,e)->¬ w0.Old b/\b<w.heap.size/\∀ o,e<=o->¬ S b o
 βi:∀ v v' b e e',v ∉ s.dead->v' ∉ s.dead->β v=some (b,e)->β v'=some (b,e')->v=v'
 βγ:∀ v id b e,v ∉ s.dead->β v=some (b,e)->γ id≠some b
 βf:∀ v,s.base+4096<=v->β v=none
 Sb:∀ b o,S b o->b<w.heap.size
 So:∀ b o,S b o->w0.Old b->w0.S0 b o
structure Fm(s:St)(S:Nat->Nat->Prop)(γ:Nat->Option Nat)(a:Act)(w:World)(S':Nat->Nat->Prop)(γ':Nat->Option Nat)(a':Act)(w':World):Prop where
 sub:∀ b o,S b o->S' b o
 cell:∀ b o,S b o->w'.cell? ⟨b,o,none⟩=w.cell? ⟨b,o,none⟩
 slots:∀ t∈s.lkS,a'.tmps.getD t undef=a.tmps.getD t undef
 objs:∀ id∈s.lkO,∀ b,γ id=some b->γ' id=some b/\iN w w' b
 sz:w.heap.size<=w'.heap.size
 gam:∀ id b,γ id=some b->γ' id=some b
 dfs:jW s.lkO a w a' w'
structure Sk(s s':St):Prop where
 lkS:s'.lkS=s.lkS
 lkO:s'.lkO=s.lkO
 nt:s'.nt=s.nt
def Sk.refl(s:St):Sk s s:=⟨rfl,rfl,rfl⟩
theorem Sk.trans{a b c:St}(h:Sk a b)(k:Sk b c):Sk a c:=⟨k.lkS.trans h.lkS,k.lkO.trans h.lkO,k.nt.trans h.nt⟩
end Sy
end
noncomputable section
namespace Sy
open Go
def cw:Ty->Bool
 | .st _=>true
 | .arr _ _=>true
 | _=>false
mutual
def Ty.high:Ty->Nat
 | .st l=>Ty.highs l+1
 | .arr _ t=>t.high+1
 | .sl t=>t.high+1
 | .tup l=>Ty.highs l+1
 | _=>1
def Ty.highs:List Ty->Nat
 | []=>0
 | t::l=>max t.high (Ty.highs l)
end
def CZ:D->Value->Bool
 | .int k n,.int k' n'=>decide (k=k')&&decide (n=n')
 | .bool b,.bool b'=>b==b'
 | .str s,.string s'=>decide (s=s')
 | .sl l,.slice a len cap=>l.isEmpty&&a.isNone&&decide (len=0)&&decide (cap=0)
 | _,_=>false
def cq:List D->List Value->Bool
 | [],[]=>true
 | d::l,v::l'=>CZ d v&&cq l l'
 | _,_=>false
def n9(P:Program)(t:TypeId)(ty:Ty):Bool:=
 match P.info? t with
 | some i=>decide (i.size=ty.size)&&decide (i.bytes<=16384)&&decide (i.size<=4096)&&(match i.zero with|some z=>cq (ar ty).flat z.cells.toList&&(match z with|.agg _=>cw ty|_=>!cw ty)|none=>false)
 | none=>false
mutual
def bC(P:Program):Ty->TypeId->Bool
 | .int k,t=>n9 P t (.int k)&&(match P.underlying t with|some (.int k')=>decide (k=k')|_=>false)
 | .bool,t=>n9 P t .bool&&(match P.underlying t with|some .bool=>true|_=>false)
 | .str,t=>n9 P t .str&&(match P.underlying t with|some .string=>true|_=>false)
 | .st ts,t=>n9 P t (.st ts)&&!P.stoodInHeld t&&!P.eqGuardType P.depth t&&(match P.underlying t with|some (.struct fs)=>fl P ts fs.toList 0|_=>false)
 | .arr n e,t=>n9 P t (.arr n e)&&!P.eqGuardType P.depth t&&(match P.underlying t with|some (.array m u)=>decide (m=n)&&bC P e u|_=>false)
 | .sl e,t=>n9 P t (.sl e)&&(match P.underlying t with|some (.slice u)=>bC P e u|_=>false)
 | _,_=>false
def fl(P:Program):List Ty->List Field->Nat->Bool
 | [],[],_=>true
 | t :: ts, f :: fs, off => decide (f.offset = off) && decide (f.name ≠ "_") && decide (0 < t.size) && bC P t f.type && fl P ts fs (off + t.size)
 | _,_,_=>false
end
def IZ(P:Program)(t:TypeId):Bool:=
 (match P.info? t with
 | some i=>decide (i.size=1)&&decide (i.bytes<=16384)&&(match i.zero with|some z=>decide (z.cells.toList.length=1)&&z.oneCell'|none=>false)
 | none=>false)&&(match P.underlying t with|some (.struct _)=>false|some (.array _ _)=>false|some _=>true|none=>false)
def Kx(P:Program)(ptys:List Ty)(rty:Ty)(f:FuncId)(xs:List D)(y:D):Prop:=
 ∀ (w:World) (S:Nat->Nat->Prop) (vs:List Value),(∀ b o,S b o->b<w.heap.size)->er ptys xs->vs.length=xs.length->(∀ (i:Nat) (x:D) (v:Value),xs[i]?=some x->vs[i]?=some v->fD w S x v) ->
  Calls P f vs.toArray w λe w'=>∃ v,e=.returned v/\(∃ os d,w.drawn<=d/\w'=grown w os d)/\wt rty y/\DR w' (λb o=>S b o\/(w.heap.size<=b/\b<w'.heap.size)) y v
def Kw(w:World)(S:Nat->Nat->Prop)(x:D)(b:Nat):Prop:=(∀ o,¬ S b o)/\∃ cs:List Value,bE w b=some cs.toArray/\cF w S x.flat cs
def Dw(b:Nat):Value:=.pointer (some ⟨b,0,none⟩)
def Mf(P:Program)(ptys:List Ty)(rty:Ty)(f:FuncId)(xs:List D)(y:D)(k:Nat):Prop:=
 ∀ (w:World) (S:Nat->Nat->Prop) (vs:List Value) (bs:List Nat),(∀ b o,S b o->b<w.heap.size)->er ptys xs->bs.length=k->vs.length+k=xs.length->(∀ (i j b:Nat),bs[i]?=some b->bs[j]?=some b->i=j) ->
  (∀ (i:Nat) (x:D) (v:Value),xs[i]?=some x->vs[i]?=some v->fD w S x v)->(∀ (i:Nat) (x:D) (b:Nat),xs[vs.length+i]?=some x->bs[i]?=some b->Kw w S x b) ->
  Calls P f (vs++bs.map Dw).toArray w λe w'=>∃ v,e=.returned v/\(∃ os d,w.drawn<=d/\w'=grown w os d)/\wt rty y/\DR w' (λb o=>S b o\/(w.heap.size<=b/\b<w'.heap.size)) y v
def QD(P:Program):Nat->List Ty->Ty->FuncId->List D->D->Prop
 | 0,ptys,rty,f,xs,y=>Kx P ptys rty f xs y
 | k+1,ptys,rty,f,xs,y=>Mf P ptys rty f xs y (k+1)
def D8(P:Program)(ptys:List Ty)(t:Ty)(f:FuncId)(xs:List D)(l:List D):Prop:=
 ∀ (w:World) (S:Nat->Nat->Prop) (vs:List Value),(∀ b o,S b o->b<w.heap.size)->er ptys xs->vs.length=xs.length->(∀ (i:Nat) (x:D) (v:Value),xs[i]?=some x->vs[i]?=some v->fD w S x v) ->
  Calls P f vs.toArray w λe w'=>∃ a cap,e=.returned (.slice a l.length cap)/\(∃ os d,w.drawn<=d/\w'=grown w os d)/\aj t=true/\(∀ x∈l,wt t x)/\∃ S':Nat->Nat->Prop,(∀ b o,S b o->S' b o)/\(∀ b o,S' b o->S b o\/(w.heap.size<=b/\b<w'.heap.size)) ∧
   CR w' S' (.sl l) (.slice a l.length cap)/\((a=none/\cap=0)\/∃ b off,a=some ⟨b,off,none⟩/\(w.heap.size<=b/\b<w'.heap.size)/\(∃ n,lu w' b=some n/\off+cap*t.size<=n)/\∀ o,off+l.length*t.size<=o->¬ S' b o)
def GW(P:Program)(own:Bool)(k:Nat)(ptys:List Ty)(rty:Ty)(f:FuncId)(xs:List D)(y:D):Prop:=
 QD P k ptys rty f xs y/\(own=true->∃ t l,rty=.sl t/\y=.sl l/\D8 P ptys t f xs l)
def Et(P:Program)(f:FuncId)(g:Ann->(R:Type)->St->List AV->(AV->St->Option R)->Option R):Prop:=
 ∀ (ann:Ann) (R:Type) (w0:Root) (S:Nat->Nat->Prop) (γ:Nat->Option Nat) (β:Nat->Option (Nat×Nat)) (s:St) (a:Act) (w:World) (avs:List AV) (vs:List Value) (K:AV->St->Option R) (r:R),
  Rp w0 S γ β s a w->avs.length=vs.length->(∀ (i:Nat) (x:AV) (v:Value),avs[i]?=some x->vs[i]?=some v->AR ⟨w,S,γ,β,s.ob,s.dead⟩ x v)->g ann R s avs K=some r ->
  Calls P f vs.toArray w λe w'=>∃ v y s' S' γ' β',e=.returned v/\K y s'=some r/\Rp w0 S' γ' β' s' a w'/\AR ⟨w',S',γ',β',s'.ob,s'.dead⟩ y v/\Fm s S γ a w S' γ' a w'/\Sk s s'
abbrev FW(ro:Option Nat):Fence:={ Fence.wide with round:=ro }
def Fa:Ex->Exit
 | .normal=>.normal
 | .exit i=>.exit i
 | .ret=>.ret
def D7(P:Program)(f:Code->Ann->(R:Type)->St->(Ex->St->Option R)->Option R):Prop:=
 ∀ (ro:Option Nat) (nn:Nat) (w0:Root) (c:Code) (ann:Ann) (R:Type) (Q:Exit->Act->World->Prop) (S:Nat->Nat->Prop) (γ:Nat->Option Nat) (β:Nat->Option (Nat×Nat)) (s:St) (a:Act) (w:World) (k:Ex->St->Option R) (r:R),
  (∀ l,ro=some l->∃ r0,w.heap[l]?=some (Obj.loop r0))->Rp w0 S γ β s a w->f c ann R s k=some r ->
  (∀ e s' S' γ' β' a' w',Rp w0 S' γ' β' s' a' w'->Fm s S γ a w S' γ' a' w'->Sk s s'->k e s'=some r->Q (Fa e) a' w')->c.wpIn (FW ro) nn P Q a w
structure EnvOk(P:Program)(E:Env):Prop where
 lay:∀ t ty,E.L t=some ty->(∃ ts,ty=.tup ts)\/bC P ty t=true
 high:∀ t ty,E.L t=some ty->ty.high<=1000
 flat:∀ t ty,E.L t=some ty->aj ty=true
 sig : ∀ f ptys rty, E.sig f = some (ptys, rty) -> bg ptys = true /\ (aj rty = true \/ ∃ ts, rty = .tup ts /\ bg ts = true) /\ ∃ fn, P.funcs[f]? = some fn /\ (fn.name == "runtime.NumGoroutine") = false /\ fn.body.isSome = true
 call:∀ f ptys rty xs y,E.sig f=some (ptys,rty)->E.call f xs=some y->er ptys xs->GW P (E.ownF f) (E.free f) ptys rty f xs y
 mixed:P.follows .mixedOrders=true
 lp:∀ (α β:Type) (body:α->Option (Sum α β)) (x:α) (y:β),E.lp body x=some y->∃ n,od body n x=some y
 mapL:∀ t kt vt,E.mapL t=some (kt,vt)->bH kt=true/\∃ K V,P.underlying t=some (.map K V)/\bC P kt K=true/\bC P vt V=true/\kt.high<=1000
 inl : ∀ f g, E.inl f = some g -> (∃ fn, P.funcs[f]? = some fn /\ (fn.name == "runtime.NumGoroutine") = false /\ fn.body.isSome = true) /\ Et P f g
 cod:D7 P E.cod
 fnT:∀ t,E.fnT t=true->IZ P t=true
def eO{P:Program}{t:TypeId}{ty:Ty}(h:n9 P t ty=true):∃ i z,P.info? t=some i/\i.size=ty.size/\(i.bytes<=16384/\ty.size<=4096)/\i.zero=some z/\cq (ar ty).flat z.cells.toList=true/\((∃ cs,z=.agg cs)↔cw ty=true):=by
 unfold n9 at h;all_goals grind
def fQ{P:Program}{t:TypeId}{ty:Ty}(h:bC P ty t=true):n9 P t ty=true:=by
 cases ty<;>simp only[bC,zaa] at h<;>first
  | exact h.1
  | exact h.1.1
  | exact h.1.1.1
  | cases h
def u5{P:Program}{t:TypeId}:∀ {ty:Ty},bC P ty t=true->(∃ ts,ty=.tup ts)\/ty=.fn->False:=by
 grind [bC]
def bR{P:Program}{t:TypeId}{ty:Ty}(h:bC P ty t=true)(w:World):(sizeOf t).run P w=.ok ty.size w:=by
 obtain⟨i,z,h1,h2,_⟩:=eO (fQ h);exact tF (by rw[h1];simp[h2]) w
def BS{P:Program}{t:TypeId}{ty:Ty}(h:bC P ty t=true)(w:World):(isAgg t).run P w=.ok (cw ty) w:=by
 have key:∀ d,P.underlying t=some d->(isAgg t).run P w=.ok (match d with|.struct _|.array _ _=>true|_=>false) w:=λd hd=>by
  unfold isAgg;rw[zga,run_underlying hd w];cases d<;>rfl
 cases ty<;>simp only[bC,zaa] at h
 case int k=>obtain⟨_,h⟩:=h;split at h<;>first|(rename_i hu;rw[key _ hu];rfl)|cases h
 case bool=>obtain⟨_,h⟩:=h;split at h<;>first|(rename_i hu;rw[key _ hu];rfl)|cases h
 case str=>obtain⟨_,h⟩:=h;split at h<;>first|(rename_i hu;rw[key _ hu];rfl)|cases h
 case st ts=>obtain⟨_,h⟩:=h;split at h<;>first|(rename_i hu;rw[key _ hu];rfl)|cases h
 case arr n e=>obtain⟨_,h⟩:=h;split at h<;>first|(rename_i hu;rw[key _ hu];rfl)|cases h
 case sl e=>obtain⟨_,h⟩:=h;split at h<;>first|(rename_i hu;rw[key _ hu];rfl)|cases h
 all_goals cases h
def ij{P:Program}{t:TypeId}{ts:List Ty}(h:bC P (.st ts) t=true):∃ fs,P.underlying t=some (.struct fs)/\fl P ts fs.toList 0=true:=by
 simp only[bC,zaa] at h;all_goals grind
def dC{P:Program}{t:TypeId}{n:Nat}{e:Ty}(h:bC P (.arr n e) t=true):∃ u,P.underlying t=some (.array n u)/\bC P e u=true:=by
 simp only[bC,zaa] at h;all_goals grind
def ii{P:Program}{t:TypeId}{e:Ty}(h:bC P (.sl e) t=true):∃ u,P.underlying t=some (.slice u)/\bC P e u=true:=by
 simp only[bC,zaa] at h;all_goals grind
def ja{P:Program}{t:TypeId}{k:IntKind}(h:bC P (.int k) t=true):P.underlying t=some (.int k):=by
 simp only[bC,zaa] at h;all_goals grind
theorem rn{P:Program}:∀ {ts:List Ty} {fs:List Field} {off i:Nat} {t:Ty},fl P ts fs off=true->ts[i]?=some t->∃ f,fs[i]?=some f/\f.offset=off+Ty.sizes (ts.take i)/\0<t.size/\bC P t f.type=true
 | [],_,_,_,_,_,h=>by simp at h
 | u::ts,[],_,_,_,h,_=>by simp[fl] at h
 | u::ts,f::fs,off,i,t,h,hi=>by
  simp only[fl,zaa,decide_eq_true_eq] at h;obtain⟨⟨⟨⟨h1,_⟩,h2⟩,h3⟩,h4⟩:=h;cases i with
  | zero=>simp at hi;subst hi;exact⟨f,rfl,by simp[Ty.sizes,h1],h2,h3⟩
  | succ i=>
   simp at hi;obtain⟨g,k1,k2,k3⟩:=rn h4 hi
   simp_all [k1,k2,Ty.sizes,zwb]
def nag(cs:List Value):Prop:=∀ v∈cs,v.oneCell'=true
theorem cF.nag{w:World}{S:Nat->Nat->Prop}{ds:List D}{cs:List Value}(h:cF w S ds cs):nag cs:=by
 intro v hv;obtain⟨i,hi,he⟩:=zRa hv;have h1:cs[i]?=some v:=by simp_all
 have h2:i<ds.length:=by rw[h.1];exact hi
 have h3:=h.2 i _ v (zda h2) h1;revert h3;generalize ds[i]=d;intro h3;cases h3<;>rfl
def AF{a b:List Value}(h:nag a)(k:nag b):nag (a++b):=λv hv=>by
 rcases List.mem_append.1 hv with h1|h1
 ·exact h v h1
 ·exact k v h1
mutual
theorem gv{c:Cx}:∀ (a:AV) (t:Ty) (cs:List Value),AV.fits t a=true->AC c a cs->cs.length=t.size/\nag cs
 | .d t' x,t,cs,hf,h=>by
  have hf':t.beq t'=true:=by cases t<;>simpa only[AV.fits] using hf
  rw[Ty.eq_of_beq _ _ hf'];simp only[AC] at h;exact⟨by rw[<-h.2.2.1];exact cb _ _ h.1 h.2.1,h.2.2.nag⟩
 | .own t' v l,t,cs,hf,h=>by
  cases t<;>simp only[AV.fits] at hf<;>first|cases hf|skip
  simp only[AC] at h;obtain⟨_,_,a,cap,rfl,_⟩:=h;exact⟨rfl,λv hv=>by simp at hv;subst hv;rfl⟩
 | .nils,t,cs,hf,h=>by
  cases t<;>simp only[AV.fits] at hf<;>first|cases hf|skip
  simp only[AC] at h;subst h;exact⟨rfl,λv hv=>by simp at hv;subst hv;rfl⟩
 | .st ts' l,t,cs,hf,h=>by
  cases t<;>simp only[AV.fits] at hf<;>first|cases hf|skip
  rename_i ts;simp only[zaa] at hf;simp only[AC] at h;simp only[Ty.size];exact Bc l ts cs hf.2 h.2.2
 | .ptr ..,t,cs,hf,_=>by cases t<;>simp[AV.fits] at hf
 | .fptr ..,t,cs,hf,_=>by cases t<;>simp[AV.fits] at hf
 | .mem ..,t,cs,hf,_=>by cases t<;>simp[AV.fits] at hf
 | .clo ..,t,cs,hf,_=>by cases t<;>simp[AV.fits] at hf
 | .map ..,t,cs,hf,_=>by cases t<;>simp[AV.fits] at hf
 | .sub ..,t,cs,hf,_=>by cases t<;>simp[AV.fits] at hf
 | .yld ..,t,cs,hf,_=>by cases t<;>simp[AV.fits] at hf
 | .gone,t,cs,hf,_=>by cases t<;>simp[AV.fits] at hf
 | .undef,t,cs,hf,_=>by cases t<;>simp[AV.fits] at hf
theorem Bc{c:Cx}:∀ (l:List AV) (ts:List Ty) (cs:List Value),AV.fitss ts l=true->jX c l cs->cs.length=Ty.sizes ts/\nag cs
 | [],ts,cs,hf,h=>by
  cases ts<;>simp only[AV.fitss] at hf<;>first|cases hf|skip
  simp only[jX] at h;subst h;exact⟨rfl,λv hv=>by simp at hv⟩
 | a::l,ts,cs,hf,h=>by
  cases ts<;>simp only[AV.fitss] at hf<;>first|cases hf|skip
  simp only[zaa] at hf;simp only[jX] at h;obtain⟨c1,c2,rfl,h1,h2⟩:=h;obtain⟨k1,k2⟩:=gv a _ c1 hf.1 h1;obtain⟨k3,k4⟩:=Bc l _ c2 hf.2 h2;exact⟨by simp[Ty.sizes,k1,k3],AF k2 k4⟩
end
def fH(t:Ty)(cs:List Value)(v:Value):Prop:=v.cells.toList=cs/\(cw t=true->∃ xs,v=.agg xs)/\(cw t=false->∀ xs,v≠.agg xs)
mutual
theorem aD{P:Program}:∀ (ty:Ty) (t:TypeId),bC P ty t=true->aj ty=true
 | .int _,_,_=>rfl
 | .bool,_,_=>rfl
 | .str,_,_=>rfl
 | .st ts,t,h=>by obtain⟨fs,_,h2⟩:=ij h;simp only[aj];exact qh ts _ _ h2
 | .arr n e,t,h=>by obtain⟨u,_,h2⟩:=dC h;simp only[aj];exact aD e u h2
 | .sl e,t,h=>by obtain⟨u,_,h2⟩:=ii h;simp only[aj];exact aD e u h2
 | .tup _,t,h=>by simp[bC] at h
 | .fn,t,h=>by simp[bC] at h
theorem qh{P:Program}:∀ (ts:List Ty) (fs:List Field) (off:Nat),fl P ts fs off=true->bg ts=true
 | [],_,_,_=>rfl
 | t::ts,[],_,h=>by simp[fl] at h
 | t::ts,f::fs,off,h=>by
  simp only[fl,zaa] at h;simp only[bg,zaa];exact⟨aD t _ h.1.2,qh ts fs _ h.2⟩
end
def nB{t:Ty}{x:D}{v:Value}(h:wt t x)(hn:aj t=true)(hs:Pb x v):(cw t=true->∃ xs,v=.agg xs)/\(cw t=false->∀ xs,v≠.agg xs):=by
 cases t<;>simp only[wt] at h
 case int k=>obtain⟨n,rfl⟩:=h;exact⟨λh=>by simp[cw] at h,λ_=>hs⟩
 case bool=>obtain⟨n,rfl⟩:=h;exact⟨λh=>by simp[cw] at h,λ_=>hs⟩
 case str=>obtain⟨n,rfl⟩:=h;exact⟨λh=>by simp[cw] at h,λ_=>hs⟩
 case st ts=>obtain⟨n,rfl,_⟩:=h;exact⟨λ_=>hs,λh=>by simp[cw] at h⟩
 case arr m ts=>obtain⟨n,rfl,_⟩:=h;exact⟨λ_=>hs,λh=>by simp[cw] at h⟩
 case sl ts=>obtain⟨n,rfl,_⟩:=h;exact⟨λh=>by simp[cw] at h,λ_=>hs⟩
 case tup ts=>simp[aj] at hn
def rI{t:Ty}{x:D}{v:Value}(h:wt t x)(hn:aj t=true)(hs:(cw t=true->∃ xs,v=.agg xs)/\(cw t=false->∀ xs,v≠.agg xs)):Pb x v:=by
 cases t<;>simp only[wt] at h
 case int k=>obtain⟨n,rfl⟩:=h;exact hs.2 rfl
 case bool=>obtain⟨n,rfl⟩:=h;exact hs.2 rfl
 case str=>obtain⟨n,rfl⟩:=h;exact hs.2 rfl
 case st ts=>obtain⟨n,rfl,_⟩:=h;exact hs.1 rfl
 case arr m ts=>obtain⟨n,rfl,_⟩:=h;exact hs.1 rfl
 case sl ts=>obtain⟨n,rfl,_⟩:=h;exact hs.2 rfl
 case tup ts=>simp[aj] at hn
def xK{c:Cx}{t:Ty}{a:AV}{v:Value}(hf:AV.fits t a=true)(hn:aj t=true)(h:AR c a v):AC c a v.cells.toList/\fH t v.cells.toList v:=by
 cases a
 case d t' x=>
  have hf':t.beq t'=true:=by simp_all [AV.fits]
  have he:=Ty.eq_of_beq _ _ hf';subst he;simp only[AR] at h;rcases h with⟨h1,h2,h3⟩|⟨ts,rfl,_⟩
  ·refine⟨by simp only[AC];exact⟨h2,h1,h3.2⟩,rfl,nB h2 h1 h3.1⟩
  ·simp[aj] at hn
 case own t' v' l=>
  cases t<;>simp only[AV.fits] at hf<;>first|cases hf|skip
  simp only[AR] at h;exact⟨h.2,rfl,by simp[cw],λ_=>h.1⟩
 case nils=>
  cases t<;>simp only[AV.fits] at hf<;>first|cases hf|skip
  simp only[AR] at h;exact⟨h.2,rfl,by simp[cw],λ_=>h.1⟩
 case st ts l=>
  cases t<;>simp only[AV.fits] at hf<;>first|cases hf|skip
  simp only[AR] at h;exact⟨h.2,rfl,λ_=>h.1,by simp[cw]⟩
 all_goals simp_all [AV.fits]
def ux{c:Cx}{t:Ty}{a:AV}{v:Value}{cs:List Value}(hf:AV.fits t a=true)(h:AC c a cs)(hv:fH t cs v):AR c a v:=by
 obtain⟨hv1,hv2⟩:=hv;cases a
 case d t' x=>
  have hf':t.beq t'=true:=by simp_all [AV.fits]
  have he:=Ty.eq_of_beq _ _ hf';subst he;simp only[AC] at h;simp only[AR];exact .inl ⟨h.2.1,h.1,rI h.1 h.2.1 hv2,by rw[hv1];exact h.2.2⟩
 case own t' v' l=>
  cases t<;>simp only[AV.fits] at hf<;>first|cases hf|skip
  simp only[AR];exact⟨hv2.2 rfl,by rw[hv1];exact h⟩
 case nils=>
  cases t<;>simp only[AV.fits] at hf<;>first|cases hf|skip
  simp only[AR];exact⟨hv2.2 rfl,by rw[hv1];exact h⟩
 case st ts l=>
  cases t<;>simp only[AV.fits] at hf<;>first|cases hf|skip
  simp only[AR];exact⟨hv2.1 rfl,by rw[hv1];exact h⟩
 all_goals simp_all [AV.fits]
def jc{P:Program}{t:Ty}{T:TypeId}(hl:bC P t T=true){w:World}{b off:Nat}{cs:List Value}(hlen:cs.length=t.size)(hn:nag cs)
  (hc:∀ (i:Nat) (c:Value),cs[i]?=some c->w.cell? ⟨b,off+i,none⟩=some c):∃ v,(Instr.loadAt T (.pointer (some ⟨b,off,none⟩))).run P w=.ok v w/\fH t cs v:=by
 unfold Instr.loadAt Instr.sureAddr;simp only[pure_bind];unfold loadVar;rw[zga,BS hl,zea];cases ha:cw t
 ·have h1:cs.length=1:=by
   rw[hlen];cases t<;>simp[cw] at ha<;>first|rfl|(exfalso;exact u5 hl (.inl ⟨_,rfl⟩))
  match cs,h1 with
  | [c],_=>
   refine⟨c,?_,?_⟩
   ·have:=hc 0 c rfl
    simp_all
   ·have h2:=hn c (by simp)
    refine⟨?_,?_,?_⟩
    ·cases c<;>simp_all [Value.cells,Value.oneCell']
    ·simp_all
    ·grind [Value.oneCell']
 ·have h2:=run_loadCells_list (P:=P) w ⟨b,off,none⟩ cs (λj v hv=>by rw[cN];exact hc j v hv)
  rw[hlen] at h2;refine⟨.agg cs.toArray,?_,rfl,λ_=>⟨_,rfl⟩,by rw[ha];intro h;cases h⟩
  simp only[if_true,zga,bR hl,zea,h2,zla]
def Lk{P:Program}{T:TypeId}(hl:IZ P T=true)(w:World):(isAgg T).run P w=.ok false w:=by
 simp only[IZ,zaa] at hl;have h2:=hl.2;split at h2<;>first|(cases h2;done)|skip
 rename_i d h3 h4 hd;unfold isAgg;rw[zga,run_underlying hd w];cases d<;>first|rfl|exact absurd rfl (h3 _)|exact absurd rfl (h4 _ _)
def BL{P:Program}{T:TypeId}(hl:IZ P T=true):∃ i z,P.info? T=some i/\i.size=1/\i.bytes<=16384/\i.zero=some z/\z.cells.toList.length=1/\z.oneCell'=true:=by
 simp only[IZ,zaa] at hl;have h1:=hl.1;split at h1<;>first|(cases h1;done)|skip
 rename_i i hi;simp only[zaa,decide_eq_true_eq] at h1;obtain⟨⟨h1,h2⟩,h3⟩:=h1;split at h3<;>first|(cases h3;done)|skip
 rename_i z hz;simp only[zaa,decide_eq_true_eq] at h3;exact⟨i,z,hi,h1,h2,hz,h3.1,h3.2⟩
def zx{P:Program}{T:TypeId}(hl:IZ P T=true){w:World}{b:Nat}{x:Value}(hr:bE w b=some #[x]):(Instr.loadAt T (.pointer (some ⟨b,0,none⟩))).run P w=.ok x w:=by
 unfold Instr.loadAt Instr.sureAddr;simp only[pure_bind];unfold loadVar;rw[zga,Lk hl,zea];have:=cell_of_row _ hr 0;simp at this;simp[this]
def oE{P:Program}{t:Ty}{T:TypeId}(hl:bC P t T=true){w:World}{b off:Nat}{c:Array Value}{v:Value}{cs:List Value}(hr:bE w b=some c)(hv:fH t cs v)(hlen:cs.length=t.size)(hn:nag cs)(hb:off+cs.length<=c.size) :
  (Instr.storeAt T (.pointer (some ⟨b,off,none⟩)) v).run P w=.ok () (putAt w b off cs.toArray):=by
 unfold Instr.storeAt Instr.sureAddr;simp only[pure_bind];unfold storeVar;have h1:v.cells.size=t.size:=by rw[<-zDb,hv.1,hlen]
 have h2:=ck (P:=P) b off cs 0 w c hr (by omega) (by
  rw[zka];intro x hx;have:=hn x hx;cases x<;>simp_all [Value.oneCell',kA])
 simp only[zTb] at h2;simp only[zga,bR hl,zea,h1,ne_eq,not_true_eq_false,if_false,hv.1,h2]
def o7{v:Value}(h:v.oneCell'=true):v.cells=#[v]:=by
 cases v<;>simp_all [Value.cells,Value.oneCell']
def xo{P:Program}{T:TypeId}(hl:IZ P T=true){w:World}{b:Nat}{x v:Value}(hr:bE w b=some #[x])(hv:v.oneCell'=true) :
  (Instr.storeAt T (.pointer (some ⟨b,0,none⟩)) v).run P w=.ok () (putAt w b 0 #[v]):=by
 unfold Instr.storeAt Instr.sureAddr;simp only[pure_bind];unfold storeVar;obtain⟨i,z,hi,h1,_⟩:=BL hl;have h2:=ck (P:=P) b 0 [v] 0 w _ hr (by simp) (by simp;cases v<;>simp_all [Value.oneCell',kA])
 simp only[zTb] at h2;simp only[zga,tF (n:=1) (by rw[hi];simp[h1]) w,zea,o7 hv,zDc,List.length_singleton,ne_eq,not_true_eq_false,if_false,h2]
def Jw{c:Cx}{a:AV}{v:Value}(h:kB a=true)(k:AR c a v):v.oneCell'=true:=by
 cases a<;>simp only[kB] at h<;>first|(cases h;done)|skip
 all_goals simp only[AR,AC] at k
 ·obtain⟨k1,_,k2,_⟩:=k;rw[am k1 k2];rfl
 ·obtain⟨k1,_,k2,_⟩:=k;rw[am k1 k2];rfl
 ·obtain⟨k1,_,k2,_⟩:=k;rw[am k1 k2];rfl
end Sy
end
end Go.Proofs.YtphlmegkommlnaaGreatDoor
