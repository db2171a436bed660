/- Part 1 of the proof that For every yard with at most 6 things -/
import Derived.WalkKit
import Derived.WalkSpells
import Derived.WalkLawsBesides
import Derived.Deep.QuietTactic
import Derived.BigQuiet
import Derived.Deep.Draws
import Derived.Lib.Hide
import Derived.StillTail
import Derived.Laws.StructEq
set_option linter.unusedVariables false
set_option linter.unusedSimpArgs false
set_option linter.unnecessarySimpa false
set_option linter.defProp false
set_option maxRecDepth 20000
namespace Go.Proofs.YtpahompifldeeaaGreat
noncomputable section
open Go.RowKit
abbrev zaa:=@Bool.and_eq_true
abbrev zba:=@Option.bind_some
abbrev zca:=@List.getElem?_eq_getElem
abbrev zda:=@Option.some.injEq
abbrev zea:=@Result.andThen_ok
abbrev zfa:=@Array.getElem?_eq_some_iff
abbrev zga:=@Nat.zero_le
abbrev zha:=@Sem.run_bind
abbrev zia:=@List.mem_cons_of_mem
abbrev zja:=@Nat.le_refl
abbrev zka:=@List.take_succ_eq_append_getElem
abbrev zla:=@List.getElem_mem
abbrev zma:=@List.mem_cons_self
abbrev zna:=@List.getElem?_eq_some_iff
abbrev zoa:=@List.length_map
abbrev zpa:=@Sem.run_pure
abbrev zqa:=@Nat.lt_or_ge
abbrev zra:=@List.all_eq_true
abbrev zsa:=@List.take_append_drop
abbrev zta:=@Nat.two_pow_pos
abbrev zua:=@List.length_append
abbrev zva:=@Nat.pow_le_pow_right
abbrev zwa:=@List.mem_append
abbrev zxa:=@Int.natAbs_natCast
abbrev zya:=@Nat.mul_le_mul_right
abbrev zza:=@Array.getElem?_toList
abbrev zAa:=@List.mem_singleton
abbrev zBa:=@Bool.false_eq_true
abbrev zCa:=@Nat.le_trans
abbrev zDa:=@List.length_cons
abbrev zEa:=@List.mem_cons
abbrev zFa:=@Int.natAbs_mul
abbrev zGa:=@Nat.mul_comm
abbrev zHa:=@Nat.mod_eq_of_lt
abbrev zIa:=@List.take_length
abbrev zJa:=@Nat.lt_of_le_of_lt
abbrev zKa:=@List.getD_eq_getElem?_getD
abbrev zLa:=@List.mem_range
abbrev zMa:=@Bool.not_eq_true'
abbrev zNa:=@Int.natCast_mul
abbrev zOa:=@List.append_assoc
abbrev zPa:=@Nat.lt_of_lt_of_le
abbrev zQa:=@List.pairwise_cons
abbrev zRa:=@Int.le_of_lt
abbrev zSa:=@List.mem_of_mem_take
abbrev zTa:=@List.getElem_of_mem
abbrev zUa:=@Nat.mod_lt
abbrev zVa:=@Nat.mul_le_mul
abbrev zWa:=@Nat.div_lt_iff_lt_mul
abbrev zXa:=@Nat.mul_le_mul_left
abbrev zYa:=@Nat.div_div_eq_div_mul
abbrev zZa:=@Nat.add_mul
abbrev z0a:=@Int.mul_ediv_cancel_left
abbrev z1a:=@Nat.div_eq_of_lt
abbrev z2a:=@Nat.mul_assoc
abbrev z3a:=@List.getElem?_eq_none
abbrev z4a:=@Int.ofNat_dvd_left
abbrev z5a:=@List.mem_map
abbrev z6a:=@List.map_cons
abbrev z7a:=@List.getElem?_cons_succ
abbrev z8a:=@List.mem_of_getElem?
abbrev z9a:=@Nat.zero_add
abbrev zab:=@Nat.pow_add
abbrev zbb:=@List.length_take
abbrev zcb:=@List.getElem?_map
abbrev zdb:=@List.cons_append
abbrev zeb:=@List.getElem?_cons_zero
abbrev zfb:=@List.getElem?_append_left
abbrev zgb:=@List.getElem?_drop
abbrev zhb:=@Nat.gcd_dvd_left
abbrev zib:=@List.length_nil
abbrev zjb:=@List.mem_append_right
abbrev zkb:=@List.drop_eq_getElem_cons
abbrev zlb:=@Array.getElem?_eq_getElem
abbrev zmb:=@Option.getD_some
abbrev znb:=@Nat.pow_succ
abbrev zob:=@List.mem_append_left
abbrev zpb:=@Rat.num_divInt_den
abbrev zqb:=@Nat.min_eq_left
abbrev zrb:=@Nat.eq_zero_or_pos
abbrev zsb:=@Int.lt_or_eq_of_le
abbrev ztb:=@List.pairwise_iff_getElem
abbrev zub:=@Nat.le_mul_of_pos_left
abbrev zvb:=@Nat.mul_lt_mul_of_pos_right
abbrev zwb:=@Nat.gcd_dvd_right
abbrev zxb:=@List.range_succ
abbrev zyb:=@List.getElem?_take_of_lt
abbrev zzb:=@List.getElem?_append_right
abbrev zAb:=@Nat.add_sub_cancel_left
abbrev zBb:=@Nat.add_assoc
abbrev zCb:=@Int.mul_le_mul_of_nonneg_left
abbrev zDb:=@List.take_of_length_le
abbrev zEb:=@Option.map_some
abbrev zFb:=@Bool.or_eq_true
abbrev zGb:=@Array.length_toList
abbrev zHb:=@List.all_cons
abbrev zIb:=@Bool.true_and
abbrev zJb:=@Bool.eq_false_iff
abbrev zKb:=@Nat.add_mul_div_left
abbrev zLb:=@List.mem_of_mem_drop
abbrev zMb:=@Int.mul_pos
abbrev zNb:=@Bool.or_eq_false_iff
abbrev zOb:=@Array.mem_toList_iff
abbrev zPb:=@List.map_append
abbrev zQb:=@Int.mul_neg_of_pos_of_neg
abbrev zRb:=@Bool.not_false
abbrev zSb:=@Nat.mul_add
abbrev zTb:=@Rat.divInt_mul_divInt
abbrev zUb:=@List.length_range
abbrev zVb:=@Int.lt_trichotomy
abbrev zWb:=@List.mem_flatMap
abbrev zXb:=@List.take_succ_cons
abbrev zYb:=@List.map_congr_left
abbrev zZb:=@Int.mul_nonneg
abbrev z0b:=@Nat.le_div_iff_mul_le
abbrev z1b:=@Nat.div_add_mod
abbrev z2b:=@Nat.add_zero
abbrev z3b:=@List.nil_append
abbrev z4b:=@List.append_nil
abbrev z5b:=@List.Nodup.length_le_of_subset
abbrev z6b:=@Array.mem_of_getElem?
abbrev z7b:=@Array.ext'
abbrev z8b:=@Array.toArray_toList
abbrev z9b:=@List.map_drop
abbrev zac:=@Bool.not_true
abbrev zbc:=@Nat.lt_trans
abbrev zcc:=@List.ext_getElem?
abbrev zdc:=@Nat.div_mul_le_self
abbrev zec:=@List.mem_map_of_mem
abbrev zfc:=@List.getD_cons_zero
abbrev zgc:=@List.getD_cons_succ
abbrev zhc:=@List.foldl_cons
abbrev zic:=@List.drop_of_length_le
abbrev zjc:=@Nat.le_add_right
abbrev zkc:=@Int.not_lt
abbrev zlc:=@List.length_filter_le
abbrev zmc:=@Int.lt_or_le
abbrev znc:=@Nat.one_mul
abbrev zoc:=@Int.mul_pos_of_neg_of_neg
abbrev zpc:=@Nat.gcd_pos_of_pos_right
abbrev zqc:=@List.mem_filter
abbrev zrc:=@Nat.pow_zero
abbrev zsc:=@Nat.le_of_lt
abbrev ztc:=@Int.zero_add
abbrev zuc:=@Nat.le_succ
abbrev zvc:=@List.length_eq_zero_iff
abbrev zwc:=@Int.eq_ofNat_of_zero_le
abbrev zxc:=@Nat.Coprime.coprime_dvd_right
abbrev zyc:=@List.not_mem_nil
abbrev zzc:=@List.drop_length
abbrev zAc:=@Nat.not_lt
abbrev zBc:=@Int.natAbs_neg
abbrev zCc:=@Nat.Coprime.coprime_dvd_left
abbrev zDc:=@List.set_cons_zero
abbrev zEc:=@Nat.gcd_comm
abbrev zFc:=@Nat.eq_of_beq_eq_true
abbrev zGc:=@Nat.add_comm
abbrev zHc:=@List.getElem?_toArray
abbrev zIc:=@List.any_append
abbrev zJc:=@Int.mul_eq_zero
abbrev zKc:=@Int.mul_comm
abbrev zLc:=@Int.natAbs_add_le
abbrev zMc:=@Int.lt_irrefl
abbrev zNc:=@Int.mul_lt_mul_of_pos_left
abbrev zOc:=@Int.fdiv_eq_ediv_of_nonneg
abbrev zPc:=@Nat.div_lt_of_lt_mul
abbrev zQc:=@List.getElem?_append
abbrev zRc:=@List.mem_or_eq_of_mem_set
abbrev zSc:=@Nat.mul_lt_mul''
abbrev zTc:=@List.any_eq_true
abbrev zUc:=@Nat.div_one
abbrev zVc:=@List.drop_succ_cons
abbrev zWc:=@Int.neg_ediv_of_dvd
abbrev zXc:=@List.Pairwise.imp_of_mem
abbrev zYc:=@Int.mul_zero
abbrev zZc:=@Nat.div_le_self
abbrev z0c:=@List.set_cons_succ
abbrev z1c:=@List.mem_filterMap
abbrev z2c:=@Bool.eq_iff_iff
abbrev z3c:=@List.size_toArray
abbrev z4c:=@Int.toNat_natCast
abbrev z5c:=@Array.getElem?_setIfInBounds_ne
abbrev z6c:=@Nat.sub_self
abbrev z7c:=@Nat.add_mul_div_right
abbrev z8c:=@Nat.Coprime.mul_right
abbrev z9c:=@Int.mul_le_mul_of_nonneg_right
abbrev zad:=@Array.getElem?_modify
abbrev zbd:=@Nat.lt_succ_self
abbrev zcd:=@Array.getElem_append
abbrev zdd:=@Nat.dvd_trans
abbrev zed:=@Nat.mod_one
abbrev zfd:=@List.getElem?_range
abbrev zgd:=@List.all_append
abbrev zhd:=@Nat.mul_zero
abbrev zid:=@List.mem_replicate
abbrev zjd:=@Nat.add_mul_mod_self_left
abbrev zkd:=@List.mapM_cons
abbrev zld:=@Int.ofNat_tmod
abbrev zmd:=@Bool.false_and
abbrev znd:=@Array.mapM_eq_mapM_toList
abbrev zod:=@Nat.lt_trichotomy
abbrev zpd:=@List.pairwise_map
abbrev zqd:=@List.foldl_append
abbrev zrd:=@List.eq_of_mem_replicate
abbrev zsd:=@Int.mul_tdiv_cancel_left
abbrev ztd:=@Array.toList_push
abbrev zud:=@Nat.mul_one
abbrev zvd:=@Nat.le_mul_of_pos_right
abbrev zwd:=@Int.le_refl
abbrev zxd:=@Bool.false_or
abbrev zyd:=@Int.natCast_ediv
abbrev zzd:=@Rat.divInt_add_divInt
abbrev zAd:=@Nat.zero_mul
abbrev zBd:=@Nat.mul_succ
abbrev zCd:=@Int.natCast_add
abbrev zDd:=@Nat.le_sub_one_of_lt
abbrev zEd:=@Int.mul_ediv_cancel'
abbrev zFd:=@Array.push_eq_append
abbrev zGd:=@Array.getElem_toList
abbrev zHd:=@List.drop_drop
abbrev zId:=@Int.ofNat_tdiv
abbrev zJd:=@Bool.false_xor
def grown(w:World)(os:List Obj)(d:Nat):World:={ w with heap:=w.heap++os.toArray,drawn:=d }
def bJ(w:World)(b:Nat):Option (Array Value):=
 match w.heap[b]? with
 | some (.cells c _ (0,0))=>some c
 | _=>none
def iB(b:Nat)(w:World):Prop:=b<w.heap.size
def Ol(b:Nat)(w:World)(os:List Obj):Prop:=b<os.length+w.heap.size
section
variable(w:World)(os os':List Obj)(d d':Nat)(o:Obj)(a:Addr)(v:Value)(b:Nat)
@[simp,go_sem] theorem size_grown:(grown w os d).heap.size=os.length+w.heap.size:=by simp[grown];omega
@[simp,go_sem] theorem tape_grown:(grown w os d).tape=w.tape:=rfl
@[simp,go_sem] theorem drew_grown:(grown w os d).drew=grown w os (d+1):=rfl
@[simp,go_sem] theorem drewN_grown (n:Nat):(grown w os d).drewN n=grown w os (d+n):=rfl
def cC{b:Nat}(h:b<w.heap.size):(grown w os d).heap[b]?=w.heap[b]?:=by
 simp[grown,Array.getElem?_append,h]
def Dw:grown w [] w.drawn=w:=by simp[grown]
def dW:w.alloc o=grown w [o] w.drawn:=by
 show({ w with heap:=w.heap.push o }:World)=_;grind [grown,Array.push_eq_append]
@[simp,go_sem] theorem row?_drew:bJ w.drew b=bJ w b:=rfl
@[simp,go_sem] theorem row?_drewN (n:Nat):bJ (w.drewN n) b=bJ w b:=rfl
def t6{c:Array Value}{t:TypeId}(h:b=w.heap.size):bJ (w.alloc (.cells c t)) b=some c:=by
 subst h;show(match (w.heap.push (.cells c t))[w.heap.size]? with|some (.cells c _ (0,0))=>some c|_=>none)=_
 simp
@[simp,go_sem] theorem inHeap_setCell:iB b (w.setCell a v)=iB b w:=by simp[iB]
@[simp,go_sem] theorem inHeap_drew:iB b w.drew=iB b w:=rfl
@[simp,go_sem] theorem inHeap_drewN (n:Nat):iB b (w.drewN n)=iB b w:=rfl
def dp{b:Nat}{c:Array Value}(h:bJ w b=some c)(j:Nat):w.cell? ⟨b,j,none⟩=c[j]?:=by
 unfold bJ at h;split at h<;>simp at h;rename_i hb;subst h;simp[World.cell?,hb]
def uJ{b:Nat}{c:Array Value}(h:bJ w b=some c)(j:Nat):w.frozen? ⟨b,j,none⟩=false:=by
 unfold bJ at h;split at h<;>simp at h;rename_i hb;simp[World.frozen?,hb]
def dM(c:Array Value)(off:Nat)(cs:Array Value):Array Value:=c.extract 0 off++cs++c.extract (off+cs.size) c.size
def kL(c cs:Array Value)(off j:Nat)(h:off+cs.size<=c.size):(dM c off cs)[j]?=if j<off then c[j]? else if j<off+cs.size then cs[j-off]? else c[j]?:=by
 simp only[dM,Array.getElem?_append,Array.getElem?_extract,Array.size_append,Array.size_extract];all_goals grind
@[simp,go_sem] theorem splice_size (c cs:Array Value) (off:Nat) (h:off+cs.size<=c.size):(dM c off cs).size=c.size:=by
 simp[dM];omega
def rm(c:Array Value)(k:Nat)(v:Value)(l:List Value)(h:k+(l.length+1)<=c.size) :
  dM (c.setIfInBounds k v) (k+1) l.toArray=dM c k (v::l).toArray:=by
 apply Array.ext_getElem?;intro j;rw[kL _ _ _ _ (by simp;omega),kL _ _ _ _ (by simpa using h)]
 all_goals grind
def putAt(w:World)(b off:Nat)(cs:Array Value):World:=
 { w with heap:=w.heap.modify b λ
   | .cells c e f=>.cells (dM c off cs) e f
   | o=>o }
@[simp,go_sem] theorem inHeap_putAt (b' off:Nat) (cs:Array Value):iB b' (putAt w b off cs)=iB b' w:=by simp[iB,putAt]
@[simp,go_sem] theorem size_putAt (off:Nat) (cs:Array Value):(putAt w b off cs).heap.size=w.heap.size:=by simp[putAt]
@[simp,go_sem] theorem tape_putAt (off:Nat) (cs:Array Value):(putAt w b off cs).tape=w.tape:=rfl
end
attribute [irreducible] iB Ol
def AU(P:Program)(T:TypeId)(a:Addr)(w:World):Result Value:=(loadVar T a).run P w
def Bx(P:Program)(T:TypeId)(a:Addr)(v:Value)(w:World):Result Unit:=(storeVar T a v).run P w
def Ow(P:Program)(T:TypeId)(b off n:Nat)(w:World):Option (Array Value)->Result Value
 | some c=>if off+n<=c.size then .ok (.agg (c.extract off (off+n))) w else AU P T ⟨b,off,none⟩ w
 | none=>AU P T ⟨b,off,none⟩ w
@[simp,go_sem] theorem ldRow_some (P:Program) (T:TypeId) (b off n:Nat) (w:World) (c:Array Value) :
  Ow P T b off n w (some c)=if off+n<=c.size then .ok (.agg (c.extract off (off+n))) w else AU P T ⟨b,off,none⟩ w:=rfl
def lH:Value->Bool
 | .agg _|.tuple _=>false
 | _=>true
def OD(cs:Array Value):Bool:=cs.all lH
def ON(P:Program)(T:TypeId)(b off:Nat)(cs:Array Value)(w:World):Option (Array Value)->Result Unit
 | some c=>if off+cs.size<=c.size/\OD cs=true then .ok () (putAt w b off cs) else Bx P T ⟨b,off,none⟩ (.agg cs) w
 | none=>Bx P T ⟨b,off,none⟩ (.agg cs) w
@[simp,go_sem] theorem stRow_some (P:Program) (T:TypeId) (b off:Nat) (cs:Array Value) (w:World) (c:Array Value) :
  ON P T b off cs w (some c)=if off+cs.size<=c.size/\OD cs=true then .ok () (putAt w b off cs) else Bx P T ⟨b,off,none⟩ (.agg cs) w:=rfl
def Bo{P:Program}{T:TypeId}{n:Nat}(h:(P.info? T).map (·.size)=some n)(w:World):(sizeOf T).run P w=.ok n w:=by
 cases hq:P.info? T with
 | none=>simp[hq] at h
 | some i=>
  simp_all [sizeOf,typeInfo]
def cO(b off j:Nat):(⟨b,off,none⟩:Addr).add j=⟨b,off+j,none⟩:=by unfold Addr.add;split<;>simp_all
theorem cZ{P:Program}(b off:Nat):∀ (l:List Value) (i:Nat) (w:World) (c:Array Value),bJ w b=some c->off+i+l.length<=c.size->l.all lH=true ->
  (storeCells ⟨b,off,none⟩ l i).run P w=.ok () (putAt w b (off+i) l.toArray)
 | [],i,w,c,hr,_,_=>by
  simp only[storeCells,zpa];congr 1;unfold bJ at hr;split at hr<;>simp at hr;rename_i hb;subst hr;have hlt:=(zfa.1 hb);obtain⟨hlt,hb'⟩:=hlt;simp only[putAt];have:w.heap.modify b (λ|.cells c e f=>.cells (dM c (off+i) #[]) e f|o=>o)=w.heap:=by
   apply Array.ext
   ·simp
   ·intro j h1 h2;simp only[Array.getElem_modify];split
    ·simp_all [dM]
    ·rfl
  simp_all
 | v::l,i,w,c,hr,hlen,hone=>by
  simp only[zHb,zaa] at hone;simp only[zDa] at hlen;have hc:w.cell? ⟨b,off+i,none⟩=some c[off+i]:=by
   rw[dp w hr,zlb (by omega)]
  have hf:w.frozen? ⟨b,off+i,none⟩=false:=uJ w hr _;simp only[storeCells,zha];have hst:(store ((⟨b,off,none⟩:Addr).add i) v).run P w=.ok () (w.setCell ⟨b,off+i,none⟩ v):=by
   rw[cO];unfold store;cases v<;>simp_all [Sem.run,lH]
  rw[hst];simp only[zea];have hr':bJ (w.setCell ⟨b,off+i,none⟩ v) b=some (c.setIfInBounds (off+i) v):=by
   unfold bJ at hr ⊢;split at hr<;>simp at hr;rename_i hb;subst hr;simp only[World.setCell,zad,if_true,hb,zEb,Option.isSome_none,zBa,if_false]
  rw[cZ b off l (i+1) _ _ hr' (by simp;omega) hone.2]
  congr 1;unfold bJ at hr;split at hr<;>simp at hr;rename_i hb;subst hr;obtain⟨hlt,hb'⟩:=(zfa.1 hb);simp only[putAt,World.setCell];congr 1;apply Array.ext
  ·simp
  ·intro j h1 h2;simp only[Array.getElem_modify];split
   ·rename_i h3;subst h3;simp only[hb',Option.isSome_none,zBa,if_false];rw[<-rm _ _ _ _ (by omega)]
    rfl
   ·rfl
def kW(place:Nat->Option (Nat×Nat))(cells:Array Value):List (Nat×Value)->Option (Array Value)
 | []=>some cells
 | (i,v)::rest=>
  match place i with
  | none=>none
  | some (off,size)=>if v.cells.size≠size\/off+v.cells.size>cells.size then none else kW place (dM cells off v.cells) rest
theorem ou(off:Nat):∀ (l:List Value) (k:Nat) (cells:Array Value),off+k+l.length<=cells.size ->
  (l.zipIdx k).foldl (λcs (c,j)=>cs.setIfInBounds (off+j) c) cells=dM cells (off+k) l.toArray
 | [],k,cells,_=>by
  simp only[List.zipIdx_nil,List.foldl_nil,dM];all_goals simp_all
 | v::l,k,cells,h=>by
  simp only[zDa] at h;simp only[List.zipIdx_cons,zhc];rw[ou off l (k+1) _ (by simp;omega),show off+(k+1)=(off+k)+1 from by omega,rm _ _ _ _ (by omega)]
theorem om(place:Nat->Option (Nat×Nat)):∀ (l:List (Nat×Value)) (cells:Array Value),Instr.fill place cells l=kW place cells l
 | [],cells=>rfl
 | (i,v)::rest,cells=>by
  simp only[Instr.fill,kW];cases place i with
  | none=>rfl
  | some q=>
   obtain⟨off,size⟩:=q;by_cases h:v.cells.size≠size\/off+v.cells.size>cells.size
   ·simp[h]
   ·simp only[h,if_false];have h':¬ (v.cells.size≠size||decide (off+v.cells.size>cells.size))=true:=by simpa using h
    have hle:off+0+v.cells.toList.length<=cells.size:=by simp;omega
    have e:=ou off v.cells.toList 0 cells hle;simp only[z2b,z8b] at e;have e2:v.cells.zipIdx.foldl (λcs (c,j)=>cs.setIfInBounds (off+j) c) cells=dM cells off v.cells:=by
     rw[<-e,<-Array.foldl_toList];simp
    simp only[h',if_false,zBa,e2];exact om place rest _
def s7{place:Nat->Option (Nat×Nat)}{cells:Array Value}{i off size:Nat}{v:Value}{rest:List (Nat×Value)}(hp:place i=some (off,size))(h1:v.cells.size=size)(h2:off+size<=cells.size) :
  kW place cells ((i,v)::rest)=kW place (dM cells off v.cells) rest:=by
 simp only[kW,hp];grind
section
variable{α:Type}{enc:α->Array Value}{c:Nat}(hc:∀ x,(enc x).size=c)
include hc
def pj(f:Nat->α)(k:Nat)(y:α):Nat->α:=λi=>if i=k then y else f i
end
end
noncomputable section
namespace Sy
open Go
inductive Ty where
 | int (k:IntKind)|bool|str|st (l:List Ty)|arr (n:Nat) (t:Ty)|sl (t:Ty)|tup (l:List Ty)|fn
mutual
def Ty.beq:Ty->Ty->Bool
 | .int k,.int k'=>decide (k=k')
 | .bool,.bool=>true
 | .str,.str=>true
 | .st l,.st l'=>Ty.beqs l l'
 | .arr n t,.arr n' t'=>decide (n=n')&&Ty.beq t t'
 | .sl t,.sl t'=>Ty.beq t t'
 | .tup l,.tup l'=>Ty.beqs l l'
 | .fn,.fn=>true
 | _,_=>false
def Ty.beqs:List Ty->List Ty->Bool
 | [],[]=>true
 | t::l,t'::l'=>Ty.beq t t'&&Ty.beqs l l'
 | _,_=>false
end
mutual
theorem Ty.eq_of_beq:∀ (t t':Ty),t.beq t'=true->t=t'
 | .int k,t',h=>by cases t'<;>simp[Ty.beq] at h;rw[h]
 | .bool,t',h=>by grind [Ty.beq]
 | .str,t',h=>by grind [Ty.beq]
 | .st l,t',h=>by cases t'<;>simp[Ty.beq] at h;rw[Ty.eqs_of_beqs _ _ h]
 | .arr n t,t',h=>by cases t'<;>simp[Ty.beq] at h;rw[h.1,Ty.eq_of_beq _ _ h.2]
 | .sl t,t',h=>by cases t'<;>simp[Ty.beq] at h;rw[Ty.eq_of_beq _ _ h]
 | .tup l,t',h=>by cases t'<;>simp[Ty.beq] at h;rw[Ty.eqs_of_beqs _ _ h]
 | .fn,t',h=>by grind [Ty.beq]
theorem Ty.eqs_of_beqs:∀ (l l':List Ty),Ty.beqs l l'=true->l=l'
 | [],l',h=>by grind [Ty.beqs]
 | t::l,l',h=>by
  cases l' with
  | nil=>simp[Ty.beqs] at h
  | cons t' l'=>simp[Ty.beqs] at h;rw[Ty.eq_of_beq _ _ h.1,Ty.eqs_of_beqs _ _ h.2]
end
mutual
def Ty.size:Ty->Nat
 | .st l=>Ty.sizes l
 | .arr n t=>n*t.size
 | .tup _=>0
 | _=>1
def Ty.sizes:List Ty->Nat
 | []=>0
 | t::l=>t.size+Ty.sizes l
end
inductive D where
 | int (k:IntKind) (n:Int)|bool (b:Bool)|str (s:ByteArray)|st (l:List D)|sl (l:List D)|tup (l:List D)
instance:Inhabited D:=⟨.bool false⟩
mutual
def D.flat:D->List D
 | .st l=>D.flats l
 | .int k n=>[.int k n]
 | .bool b=>[.bool b]
 | .str s=>[.str s]
 | .sl l=>[.sl l]
 | .tup l=>[.tup l]
def D.flats:List D->List D
 | []=>[]
 | d::l=>D.flat d++D.flats l
end
mutual
def wt:Ty->D->Prop
 | .int k,d=>∃ n,d=.int k n
 | .bool,d=>∃ b,d=.bool b
 | .str,d=>∃ s,d=.str s
 | .st ts,d=>∃ l,d=.st l/\ff ts l
 | .arr n t,d=>∃ l,d=.st l/\l.length=n/\∀ x∈l,wt t x
 | .sl t,d=>∃ l,d=.sl l/\∀ x∈l,wt t x
 | .tup ts,d=>∃ l,d=.tup l/\ff ts l
 | .fn,_=>False
def ff:List Ty->List D->Prop
 | [],l=>l=[]
 | t::ts,l=>∃ d l',l=d::l'/\wt t d/\ff ts l'
end
mutual
def D.beq:D->D->Bool
 | .int k n,.int k' n'=>decide (k=k')&&decide (n=n')
 | .bool b,.bool b'=>b==b'
 | .str s,.str s'=>decide (s=s')
 | .st l,.st l'=>D.beqs l l'
 | _,_=>false
def D.beqs:List D->List D->Bool
 | [],[]=>true
 | t::l,t'::l'=>D.beq t t'&&D.beqs l l'
 | _,_=>false
end
mutual
def aB:Ty->D
 | .int k=>.int k 0
 | .bool=>.bool false
 | .str=>.str ByteArray.empty
 | .st l=>.st (fV l)
 | .arr n t=>.st (List.replicate n (aB t))
 | .sl _=>.sl []
 | .tup l=>.tup (fV l)
 | .fn=>.bool false
def fV:List Ty->List D
 | []=>[]
 | t::l=>aB t::fV l
end
mutual
def Lf:Ty->Bool
 | .st l=>w8 l
 | .arr _ t=>Lf t
 | .sl _=>true
 | .tup _=>true
 | .fn=>true
 | _=>false
def w8:List Ty->Bool
 | []=>false
 | t::l=>Lf t||w8 l
end
mutual
def aq:Ty->Bool
 | .st l=>bi l
 | .arr _ t=>aq t
 | .sl t=>aq t
 | .tup _=>false
 | .fn=>false
 | _=>true
def bi:List Ty->Bool
 | []=>true
 | t::l=>aq t&&bi l
end
inductive Ex where
 | normal|exit (id:Nat)|ret
def Ex.is:Ex->Ex->Bool
 | .normal,.normal=>true
 | .exit i,.exit j=>decide (i=j)
 | .ret,.ret=>true
 | _,_=>false
def Ba:Option Ex->Option Ex->Bool
 | none,none=>true
 | some e,some e'=>e.is e'
 | _,_=>false
inductive AV where
 | d (t:Ty) (x:D)
 | own (t:Ty) (v:Nat) (l:List D)
 | nils
 | ptr (t:Ty) (id:Nat) (p:List Nat)
 | fptr (t:Ty) (x:D)
 | mem (t:Ty) (id:Nat)
 | st (ts:List Ty) (l:List AV)
 | clo (f:Nat) (l:List AV)
 | map (kt vt:Ty) (id:Nat)
 | sub (sl:Bool) (t:Ty) (id:Nat) (p:List Nat) (lo n:Nat)
 | yld (id:Nat)
 | gone
 | undef
instance:Inhabited AV:=⟨.undef⟩
structure LpI where
 nt:Nat
 ps:List Nat
 asg:Code
 bdy:Code
 caps:Nat->AV
inductive Ob where
 | one (t:Ty) (v:AV)
 | many (t:Ty) (l:List D)
 | mp (kt vt:Ty) (l:List D)
 | lp (i:LpI) (pend:Option Ex)
def D.fld:D->Nat->Option D
 | .st l,i=>l[i]?
 | _,_=>none
def D.tupAt:D->Nat->Option D
 | .tup l,i=>l[i]?
 | _,_=>none
def D.get:D->List Nat->Option D
 | x,[]=>some x
 | x,i::p=>(x.fld i).bind λy=>y.get p
def D.set:D->List Nat->D->Option D
 | _,[],y=>some y
 | .st l,i::p,y=>(l[i]?).bind λz=>(D.set z p y).bind λz'=>some (.st (l.set i z'))
 | _,_::_,_=>none
def D.asSl:D->Option (List D)
 | .sl l=>some l
 | _=>none
def D.stl:D->Option (List D)
 | .st l=>some l
 | _=>none
def D.asInt:D->Option (IntKind×Int)
 | .int k n=>some (k,n)
 | _=>none
def D.truth:D->Option Bool
 | .bool b=>some b
 | _=>none
def D.idx:D->Nat->Option Nat
 | .int _ i,n=>if 0<=i/\i<(n:Int) then some i.toNat else none
 | _,_=>none
def D.strAt:D->D->Option D
 | .str s,.int _ i=>(if 0<=i then s[i.toNat]? else none).bind λb=>some (.int .u8 b.toNat)
 | _,_=>none
def D.slen:D->Option D
 | .str s=>some (.int .i64 s.size)
 | _=>none
def D.conv(k:IntKind):D->Option D
 | .int _ n=>some (.int k (k.wrap n))
 | _=>none
def D.bitOp(op:BinOp)(k:IntKind)(x y:Int):Option D:=
 match op with
 | .and=>some (.int k (k.wrap (BitVec.ofInt k.bits x &&& BitVec.ofInt k.bits y).toNat))
 | .or=>some (.int k (k.wrap (BitVec.ofInt k.bits x ||| BitVec.ofInt k.bits y).toNat))
 | .xor=>some (.int k (k.wrap (BitVec.ofInt k.bits x ^^^ BitVec.ofInt k.bits y).toNat))
 | .andNot=>some (.int k (k.wrap (BitVec.ofInt k.bits x &&& ~~~ BitVec.ofInt k.bits y).toNat))
 | _=>none
def D.bin(op:BinOp):D->D->Option D
 | .int k a,.int k' b=>
  match op with
  | .shl=>if b<0 then none else some (.int k (k.wrap (a*2^(min b.toNat k.bits))))
  | .shr=>if b<0 then none else some (.int k (a.fdiv (2^(min b.toNat k.bits))))
  | _=>if k=k' then
   match op with
   | .add=>some (.int k (k.wrap (a+b)))
   | .sub=>some (.int k (k.wrap (a-b)))
   | .mul=>some (.int k (k.wrap (a*b)))
   | .quo=>if b=0 then none else some (.int k (k.wrap (a.tdiv b)))
   | .rem=>if b=0 then none else some (.int k (a.tmod b))
   | .eql=>some (.bool (a==b))
   | .neq=>some (.bool (a != b))
   | .lss=>some (.bool (decide (a<b)))
   | .leq=>some (.bool (decide (a<=b)))
   | .gtr=>some (.bool (decide (a>b)))
   | .geq=>some (.bool (decide (a ≥ b)))
   | .and=>D.bitOp .and k a b
   | .or=>D.bitOp .or k a b
   | .xor=>D.bitOp .xor k a b
   | .andNot=>D.bitOp .andNot k a b
   | _=>none
   else none
 | _,_=>none
def D.un(op:UnOp):D->Option D
 | .int k n=>match op with
  | .neg=>some (.int k (k.wrap (0-n)))
  | .xor=>D.bitOp .xor k (if k.signed then -1 else k.max) n
  | _=>none
 | .bool b=>match op with
  | .not=>some (.bool (!b))
  | _=>none
 | _=>none
def D.min2:D->D->Option D
 | .int k x,.int _ y=>some (.int k (if y<x then y else x))
 | _,_=>none
def D.max2:D->D->Option D
 | .int k x,.int _ y=>some (.int k (if y>x then y else x))
 | _,_=>none
def D.cut(l:List D)(lo hi:Nat):Option (List D):=if lo<=hi/\hi<=l.length then some ((l.take hi).drop lo) else none
def D.natOf:D->Option Nat
 | .int _ i=>if 0<=i then some i.toNat else none
 | _=>none
def D.putParts:List D->List (Nat×D)->List D
 | l,[]=>l
 | l,(i,x)::r=>D.putParts (l.set i x) r
def aQ:Ty->List Nat->Option Ty
 | t,[]=>some t
 | .st ts,i::p=>(ts[i]?).bind λt=>aQ t p
 | .arr _ t,_::p=>aQ t p
 | _,_=>none
def aX:Ty->List Nat->Nat
 | _,[]=>0
 | .st ts,i::p=>Ty.sizes (ts.take i)+aX (ts.getD i .bool) p
 | .arr _ t,i::p=>i*t.size+aX t p
 | _,_=>0
def w7{R:Type}:AV->List Nat->(AV->Option R)->Option R
 | .d t x,p,k=>match p with
  | []=>k (.d t x)
  | i::p=>(aQ t (i::p)).bind λt'=>(x.get (i::p)).bind λy=>k (.d t' y)
 | a,[],k=>k a
 | .st _ l,i::p,k=>(l[i]?).bind λa=>w7 a p k
 | _,_,_=>none
mutual
def AV.fits:Ty->AV->Bool
 | t,.d t' _=>t.beq t'
 | .sl t,.own t' _ _=>t.beq t'
 | .sl _,.nils=>true
 | .st ts,.st ts' l=>Ty.beqs ts ts'&&AV.fitss ts l
 | _,_=>false
def AV.fitss:List Ty->List AV->Bool
 | [],[]=>true
 | t::ts,a::l=>AV.fits t a&&AV.fitss ts l
 | _,_=>false
end
def Bs{R:Type}:AV->List Nat->AV->(AV->Option R)->Option R
 | _,[],b,k=>k b
 | .d t x,i::p,b,k=>match b with
  | .d _ y=>(x.set (i::p) y).bind λx'=>k (.d t x')
  | _=>none
 | .st ts l,i::p,b,k=>(l[i]?).bind λa=>Bs a p b λa'=>k (.st ts (l.set i a'))
 | _,_::_,_,_=>none
mutual
def gf:Ty->AV
 | .sl _=>.nils
 | .st ts=>if w8 ts then .st ts (jC ts) else .d (.st ts) (aB (.st ts))
 | t=>.d t (aB t)
def jC:List Ty->List AV
 | []=>[]
 | t::l=>gf t::jC l
end
def iJ{R:Type}:Ob->List Nat->(AV->Option R)->Option R
 | .one _ v,p,k=>w7 v p k
 | .many t l,i::p,k=>(l[i]?).bind λx=>w7 (.d t x) p k
 | .many ..,[],_=>none
 | .mp ..,_,_=>none
 | .lp ..,_,_=>none
def fj:Ob->List Nat->Option Ty
 | .one t _,p=>aQ t p
 | .many t _,_::p=>aQ t p
 | .many ..,[]=>none
 | .mp ..,_=>none
 | .lp ..,_=>none
structure St where
 tm:Nat->AV
 ob:Nat->Option Ob
 fresh:Nat
 dead:List Nat
 nt:Nat
 lkS:List Nat
 lkO:List Nat
def St.put(s:St)(dst:Option Nat)(v:AV):St:=
 match dst with
 | some t=>if t<s.nt then{ s with tm:=λi=>if i=t then v else s.tm i } else s
 | none=>s
def St.base(s:St):Nat:=s.fresh*4096
def St.setOb(s:St)(id:Nat)(o:Option Ob):St:={ s with ob:=λi=>if i=id then o else s.ob i }
mutual
def AV.toD(ob:Nat->Option Ob):Ty->AV->Option D
 | t,.d t' x=>if t.beq t' then some x else none
 | t,.own t' _ l=>if t.beq (.sl t') then some (.sl l) else none
 | t,.nils=>match t with
  | .sl _=>some (.sl [])
  | _=>none
 | t,.st ts' l=>if t.beq (.st ts') then(AV.toDl ob ts' l).bind λxs=>some (.st xs) else none
 | _,_=>none
def AV.toDl(ob:Nat->Option Ob):List Ty->List AV->Option (List D)
 | [],[]=>some []
 | t::ts,a::l=>(AV.toD ob t a).bind λx=>(AV.toDl ob ts l).bind λxs=>some (x::xs)
 | _,_=>none
end
def AV.asList(ob:Nat->Option Ob)(t:Ty)(a:AV):Option (List D):=(AV.toD ob (.sl t) a).bind D.asSl
def AV.truth:AV->Option Bool
 | .d t x=>if t.beq .bool then x.truth else none
 | _=>none
inductive Sh where
 | dv (t:Ty)
 | ow (t:Ty)
 | same (a:AV)
 | st (ts:List Ty) (l:List Sh)
inductive ShO where
 | one (t:Ty) (h:Sh)
 | many (t:Ty)
 | mp (kt vt:Ty)
 | keep (t:Ty) (wit:Nat)
 | lp (pend:Option Ex) (wit:Nat)
structure Shape where
 slots:List (Nat×Sh)
 objs:List (Nat×ShO)
 keepS:List Nat
inductive Ann where
 | leaf
 | reg (fz:List Nat) (n:Nat)
 | regI (fz:List Nat) (n:Nat) (a:Ann)
 | two (a b:Ann)
 | cut (exits:List (Ex×Shape)) (keepS keepO:List Nat) (a b:Ann)
 | loop (h:Shape) (exits:List (Ex×Shape)) (a:Ann)
def Ann.fz:Ann->List Nat|.reg fz _=>fz|.regI fz _ _=>fz|_=>[]
def Ann.heads(m:Nat):Ann->Nat|.reg _ n=>n|.regI _ n _=>n|_=>m
def Ann.inner:Ann->Ann|.regI _ _ a=>a|_=>.leaf
def Ann.fst:Ann->Ann|.two a _=>a|.cut _ _ _ a _=>a|.loop _ _ a=>a|_=>.leaf
def Ann.snd:Ann->Ann|.two _ b=>b|.cut _ _ _ _ b=>b|_=>.leaf
structure Env where
 L:Nat->Option Ty
 sig:Nat->Option (List Ty×Ty)
 call:Nat->List D->Option D
 mapL:Nat->Option (Ty×Ty)
 lp:{α β:Type}->(α->Option (Sum α β))->α->Option β
 inl:Nat->Option (Ann->(R:Type)->St->List AV->(AV->St->Option R)->Option R)
 cod:Code->Ann->(R:Type)->St->(Ex->St->Option R)->Option R
 free:Nat->Nat
 pv:Bool
structure Inl where
 pv:Bool
 f:Nat->Option (Ann->(R:Type)->St->List AV->(AV->St->Option R)->Option R)
 cod:Code->Ann->(R:Type)->St->(Ex->St->Option R)->Option R
def Fk:Value->AV
 | .int k n=>.d (.int k) (.int k n)
 | .bool b=>.d .bool (.bool b)
 | .string s=>.d .str (.str s)
 | .slice none 0 0=>.nils
 | _=>.undef
def St.opA(s:St):Operand->AV
 | .tmp t=>s.tm t
 | .const v=>Fk v
 | .func f=>.clo f []
 | _=>.undef
def isD:AV->Option (Ty×D)
 | .d t x=>some (t,x)
 | _=>none
mutual
def bI:Ty->Bool
 | .int _=>true
 | .bool=>true
 | .st ts=>lv ts
 | .arr _ t=>bI t
 | _=>false
def lv:List Ty->Bool
 | []=>true
 | t::l=>bI t&&lv l
end
def partsD(ob:Nat->Option Ob)(s:St)(ty:Nat->Option Ty):List (Nat×Operand)->Option (List (Nat×D))
 | []=>some []
 | (i,x)::r=>(ty i).bind λt=>(AV.toD ob t (s.opA x)).bind λy=>(partsD ob s ty r).bind λys=>some ((i,y)::ys)
def fK(s:St)(ts:List Ty)(p:Nat×Operand):Bool:=match ts[p.1]? with|some u=>AV.fits u (s.opA p.2)|none=>false
def fN:AV->Bool
 | .ptr ..=>true
 | _=>false
def mB:List AV->List (Nat×AV)->List AV
 | l,[]=>l
 | l,(i,x)::r=>mB (l.set i x) r
def D.mget:List D->D->Option D
 | [],_=>none
 | .st [k,v]::l,x=>if D.beq x k then some v else D.mget l x
 | _::l,x=>D.mget l x
def D.mput:List D->D->D->List D
 | [],x,y=>[.st [x,y]]
 | .st [k,v]::l,x,y=>if D.beq x k then .st [k,y]::l else .st [k,v]::D.mput l x y
 | e::l,x,y=>e::D.mput l x y
def cT:List Nat->Bool
 | []=>true
 | a::l=>!(l.contains a)&&cT l
def sC(l:List AV):List Nat:=l.map λx=>match x with|.ptr _ id _=>id|_=>0
def nZ(ob:Nat->Option Ob):List Ty->List AV->Option (List D)
 | [],[]=>some []
 | t::ts,.ptr _ id []::l=>match ob id with
  | some (.one u v)=>if t.beq u then(AV.toD ob t v).bind λz=>(nZ ob ts l).bind λzs=>some (z::zs) else none
  | _=>none
 | _,_=>none
def qv{R:Type}(E:Env)(s:St)(o:Oper)(K:AV->Option R):Option R:=
 match o.op with
 | .move x=>K (s.opA x)
 | .assign x=>K (s.opA x)
 | .pick c a b=>(s.opA c).truth.bind λc=>if c then K (s.opA a) else K (s.opA b)
 | .alloc T=>(E.L T).bind λt=>o.dst.bind λd=>K (.ptr t (s.base+d) [])
 | .load T a=>(E.L T).bind λt=>match s.opA a with
  | .ptr t' id p=>if t.beq t' then(s.ob id).bind λo=>iJ o p K else none
  | .fptr t' x=>if t.beq t' then K (.d t' x) else none
  | .sub sl e id p lo n=>if !sl&&t.beq (.arr n e) then(s.ob id).bind λo=>iJ o p λv=>match v with
    | .d (.arr _ e') (.st l)=>if e'.beq e&&decide (lo+n<=l.length) then K (.d (.arr n e) (.st ((l.drop lo).take n))) else none
    | _=>none
   else none
  | _=>none
 | .fieldAddr T x f=>(E.L T).bind λt=>match t,s.opA x with
  | .st ts,.ptr t' id p=>if t'.beq (.st ts) then(ts[f]?).bind λu=>K (.ptr u id (p++[f])) else none
  | .st ts,.fptr t' y=>if t'.beq (.st ts) then(ts[f]?).bind λu=>(y.fld f).bind λz=>K (.fptr u z) else none
  | _,_=>none
 | .indexAddr T x i=>(E.L T).bind λt=>(isD (s.opA i)).bind λix=>match t with
  | .arr n e=>match s.opA x with
   | .ptr t' id p=>if t'.beq (.arr n e) then(ix.2.idx n).bind λk=>K (.ptr e id (p++[k])) else none
   | .fptr t' y=>if t'.beq (.arr n e) then(ix.2.idx n).bind λk=>(y.fld k).bind λz=>K (.fptr e z) else none
   | _=>none
  | .sl e=>match s.opA x with
   | .mem t' id=>if t'.beq e then match s.ob id with
     | some (.many _ l)=>(ix.2.idx l.length).bind λk=>K (.ptr e id [k])
     | _=>none
    else none
   | a=>(a.asList s.ob e).bind λl=>(ix.2.idx l.length).bind λk=>(l[k]?).bind λy=>K (.fptr e y)
  | _=>none
 | .field T x f=>(E.L T).bind λt=>match t,s.opA x with
  | .st ts,.d t' y=>if t'.beq (.st ts) then(ts[f]?).bind λu=>(y.fld f).bind λz=>K (.d u z) else none
  | _,_=>none
 | .index T x i=>(E.L T).bind λt=>(isD (s.opA i)).bind λix=>match t,s.opA x with
  | .arr n e,.d t' y=>if t'.beq (.arr n e) then(ix.2.idx n).bind λk=>(y.fld k).bind λz=>K (.d e z) else none
  | .str,.d t' y=>if t'.beq .str then(D.strAt y ix.2).bind λz=>K (.d (.int .u8) z) else none
  | _,_=>none
 | .binOp op T x y _=>(E.L T).bind λt=>(isD (s.opA x)).bind λa=>(isD (s.opA y)).bind λb=>
  match op with
  | .eql=>if a.1.beq t&&b.1.beq t&&bI t then K (.d .bool (.bool (D.beq a.2 b.2))) else none
  | .neq=>if a.1.beq t&&b.1.beq t&&bI t then K (.d .bool (.bool (!(D.beq a.2 b.2)))) else none
  | .lss=>(D.bin .lss a.2 b.2).bind λz=>K (.d .bool z)
  | .leq=>(D.bin .leq a.2 b.2).bind λz=>K (.d .bool z)
  | .gtr=>(D.bin .gtr a.2 b.2).bind λz=>K (.d .bool z)
  | .geq=>(D.bin .geq a.2 b.2).bind λz=>K (.d .bool z)
  | op=>(D.bin op a.2 b.2).bind λz=>K (.d a.1 z)
 | .unOp op _ x=>(isD (s.opA x)).bind λa=>(D.un op a.2).bind λz=>K (.d a.1 z)
 | .convert S T x=>(E.L S).bind λu=>(E.L T).bind λt=>(isD (s.opA x)).bind λa=>
  match t with
  | .int k=>if a.1.beq u then(D.conv k a.2).bind λz=>K (.d t z) else none
  | _=>none
 | .build T ps=>(E.L T).bind λt=>match t with
  | .st ts=>if w8 ts then(if ps.toList.all (fK s ts) then K (.st ts (mB (jC ts) (ps.toList.map λp=>(p.1,s.opA p.2)))) else none)
   else(partsD s.ob s (λi=>ts[i]?) ps.toList).bind λl=>K (.d t (.st (D.putParts (fV ts) l)))
  | .arr n e=>(partsD s.ob s (λi=>if i<n then some e else none) ps.toList).bind λl=>K (.d t (.st (D.putParts (List.replicate n (aB e)) l)))
  | _=>none
 | .buildSlice T n ps=>(E.L T).bind λt=>match t with
  | .sl e=>if n<=4096 then o.dst.bind λd=>(partsD s.ob s (λi=>if i<n then some e else none) ps.toList).bind λl=>K (.own e (s.base+d) (D.putParts (List.replicate n (aB e)) l)) else none
  | _=>none
 | .extract x i=>match s.opA x with
  | .d (.tup ts) y=>(ts[i]?).bind λu=>(y.tupAt i).bind λz=>K (.d u z)
  | _=>none
 | .nilCheck x=>match s.opA x with
  | .ptr t id p=>K (.ptr t id p)
  | _=>none
 | .slice T x lo hi mx=>match mx with
  | some _=>none
  | none=>(E.L T).bind λt=>match t with
   | .sl e=>((s.opA x).asList s.ob e).bind λl=>
    (match lo with|none=>some 0|some i=>(isD (s.opA i)).bind λa=>a.2.natOf).bind λlo=>
    (match hi with|none=>some l.length|some i=>(isD (s.opA i)).bind λa=>a.2.natOf).bind λhi=>
    (D.cut l lo hi).bind λl'=>K (.d t (.sl l'))
   | .arr m e=>match s.opA x with
    | .ptr t' id p=>if t'.beq (.arr m e) then
     (match lo with|none=>some 0|some i=>(isD (s.opA i)).bind λa=>a.2.natOf).bind λlo=>
     (match hi with|none=>some m|some i=>(isD (s.opA i)).bind λa=>a.2.natOf).bind λhi=>
     if lo<=hi/\hi<=m/\lo<m then K (.sub true e id p lo (hi-lo)) else none
     else none
    | _=>none
   | _=>none
 | .sliceToArrayPointer T x=>(E.L T).bind λt=>match t,s.opA x with
  | .arr n e,.sub sl e' id p lo n'=>if sl&&e'.beq e&&decide (n<=n') then K (.sub false e id p lo n) else none
  | .arr n e,a=>(a.asList s.ob e).bind λl=>if decide (1<=n)&&decide (n<=l.length) then K (.fptr (.arr n e) (.st (l.take n))) else none
  | _,_=>none
 | .lookup T x i cok=>(E.mapL T).bind λkv=>match s.opA x with
  | .map kt vt id=>if kt.beq kv.1&&vt.beq kv.2 then match s.ob id with
    | some (.mp kt' vt' l)=>if kt'.beq kt&&vt'.beq vt then(isD (s.opA i)).bind λix=>if ix.1.beq kt then
      match cok with
      | false=>K (.d vt ((D.mget l ix.2).getD (aB vt)))
      | true=>K (.d (.tup [vt,.bool]) (.tup [(D.mget l ix.2).getD (aB vt),.bool (D.mget l ix.2).isSome]))
      else none
     else none
    | _=>none
   else none
  | _=>none
 | .makeFunc fn first captured=>match fn with
  | .func f=>if first.size=0/\(captured.toList.all λx=>fN (s.opA x))=true then K (.clo f (captured.toList.map s.opA)) else none
  | _=>none
 | .call c=>match c.callee with
  | .builtin .len=>(c.argTypes[0]?).bind λT=>(E.L T).bind λt=>(c.args[0]?).bind λx=>match t with
   | .sl e=>match s.opA x with
    | .mem t' id=>if t'.beq e then match s.ob id with
      | some (.many _ l)=>K (.d (.int .i64) (.int .i64 l.length))
      | _=>none
     else none
    | a=>(a.asList s.ob e).bind λl=>K (.d (.int .i64) (.int .i64 l.length))
   | .arr n _=>K (.d (.int .i64) (.int .i64 n))
   | .str=>(isD (s.opA x)).bind λa=>if a.1.beq .str then(D.slen a.2).bind λz=>K (.d (.int .i64) z) else none
   | _=>none
  | .builtin .min=>match c.args.toList with
   | [x,y]=>(isD (s.opA x)).bind λa=>(isD (s.opA y)).bind λb=>if a.1.beq b.1 then(D.min2 a.2 b.2).bind λz=>K (.d a.1 z) else none
   | _=>none
  | .builtin .max=>match c.args.toList with
   | [x,y]=>(isD (s.opA x)).bind λa=>(isD (s.opA y)).bind λb=>if a.1.beq b.1 then(D.max2 a.2 b.2).bind λz=>K (.d a.1 z) else none
   | _=>none
  | .value (.func f)=>(E.sig f).bind λg=>bif Nat.beq (E.free f) 0 then(AV.toDl s.ob g.1 (c.args.toList.map s.opA)).bind λxs=>(E.call f xs).bind λy=>K (.d g.2 y) else none
  | .value (.tmp t)=>match s.tm t with
   | .clo f l=>(E.sig f).bind λg=>bif Nat.beq (E.free f) l.length&&cT (sC l) then(AV.toDl s.ob (g.1.take (g.1.length-l.length)) (c.args.toList.map s.opA)).bind λxs=>(nZ s.ob (g.1.drop (g.1.length-l.length)) l).bind λzs=>(E.call f (xs++zs)).bind λy=>K (.d g.2 y) else none
   | _=>none
  | _=>none
 | _=>none
def qI{R:Type}(E:Env)(s:St)(o:Oper)(K:St->Option R):Option R:=
 match o.op with
 | .store T a x=>(E.L T).bind λt=>match s.opA a with
  | .ptr t' id p=>if t.beq t'&&AV.fits t (s.opA x)&&!(s.lkO.contains id) then match s.ob id with
    | some (.one u v)=>Bs v p (s.opA x) λv'=>K (s.setOb id (some (.one u v')))
    | some (.many u l)=>match p with
     | i::p'=>(l[i]?).bind λz=>(AV.toD s.ob t (s.opA x)).bind λy=>(D.set z p' y).bind λz'=>K (s.setOb id (some (.many u (l.set i z'))))
     | []=>none
    | _=>none
   else none
  | _=>none
 | .makeMap T rsv=>match rsv with
  | some _=>none
  | none=>(E.mapL T).bind λkv=>o.dst.bind λd=>K ((s.setOb (s.base+d) (some (.mp kv.1 kv.2 []))).put o.dst (.map kv.1 kv.2 (s.base+d)))
 | .mapUpdate T m k v=>if o.dst.isSome then none else(E.mapL T).bind λkv=>match s.opA m with
  | .map kt vt id=>if kt.beq kv.1&&vt.beq kv.2&&!(s.lkO.contains id) then match s.ob id with
    | some (.mp kt' vt' l)=>if kt'.beq kt&&vt'.beq vt then(AV.toD s.ob kt (s.opA k)).bind λkd=>(AV.toD s.ob vt (s.opA v)).bind λvd=>K (s.setOb id (some (.mp kt vt (D.mput l kd vd)))) else none
    | _=>none
   else none
  | _=>none
 | .box T x=>(E.L T).bind λt=>o.dst.bind λd=>if AV.fits t (s.opA x) then K ((s.setOb (s.base+d) (some (.one t (s.opA x)))).put o.dst (.ptr t (s.base+d) [])) else none
 | .makeSlice T l c=>(E.L T).bind λt=>o.dst.bind λd=>match t,l,c with
  | .sl e,.tmp i,.tmp j=>if i=j then(isD (s.tm i)).bind λa=>(a.2.natOf).bind λn=>if n<=1073741824 then K ((s.setOb (s.base+d) (some (.many e (List.replicate n (aB e))))).put o.dst (.mem e (s.base+d))) else none else none
  | _,_,_=>none
 | .call c=>match c.callee with
  | .builtin .append=>(c.argTypes[0]?).bind λT=>(E.L T).bind λt=>o.dst.bind λd=>match t,c.args.toList,c.argTypes.toList with
   | .sl e,[x,y],[_,T']=>match E.L T' with
    | some (.sl _)=>((s.opA y).asList s.ob e).bind λl'=>match s.opA x with
     | .own e' v l=>if e'.beq e&&!(s.dead.contains v) then(if l.length+l'.length<=1073741824 then K ({ s with dead:=v::s.dead }.put o.dst (.own e (s.base+d) (l++l'))) else none) else none
     | .nils=>if l'.length<=1073741824 then K (s.put o.dst (.own e (s.base+d) l')) else none
     | _=>none
    | _=>none
   | _,_,_=>none
  | .builtin .copy=>match c.args.toList,c.argTypes.toList with
   | [x,y],[T,_]=>match E.L T with
    | some (.sl (.int k))=>match s.opA x,s.opA y with
     | .sub true e id [] lo n,.sub true e' id' [] lo' n'=>match s.ob id,s.ob id' with
      | some (.one (.arr m f) (.d g x)),some (.one (.arr m' f') (.d g' y))=>
       if e.beq (.int k)&&e'.beq (.int k)&&f.beq (.int k)&&f'.beq (.int k)&&g.beq (.arr m f)&&g'.beq (.arr m' f')&&!(s.lkO.contains id) then
        x.stl.bind λl=>y.stl.bind λl'=>K ((s.setOb id (some (.one (.arr m f) (.d g (.st (l.take lo++((l'.drop lo').take (min n' n)++l.drop (lo+min n' n)))))))).put o.dst (.d (.int .i64) (.int .i64 (min n' n:Nat))))
       else none
      | _,_=>none
     | _,_=>none
    | _=>none
   | _,_=>none
  | _=>qv E s o λv=>K (s.put o.dst v)
 | _=>qv E s o λv=>K (s.put o.dst v)
def jT(s:St)(o:Oper):Bool:=match o.dst with|some d=>s.lkS.contains d|none=>false
def Md{R:Type}(E:Env)(s:St)(o:Oper)(K:St->Option R):Option R:=if jT s o then none else qI E s o K
def gY(E:Env):List Oper->St->St
 | [],s=>s
 | o::l,s=>gY E l (match o.op,o.dst with
  | .alloc T,some d=>match E.L T with
   | some t=>s.setOb (s.base+d) (some (.one t (gf t)))
   | none=>s
  | _,_=>s)
def killD(s:St):List Oper->St
 | []=>s
 | o::l=>killD (s.put o.dst .undef) l
def vq(i:Nat)(o:Oper):Bool:=match o.guard with|some (j,_)=>decide (j=i)|none=>false
def oG(d:Option Nat)(o:Oper):Bool:=match o.op,d with|.pick (.tmp c) _ _,some d=>decide (c=d)|_,_=>false
def df(d:Option Nat):List (Nat×Oper)->List (Nat×Oper)×List (Nat×Oper)
 | []=>([],[])
 | p::l=>if oG d p.2 then([],p::l) else let r:=df d l;(p::r.1,r.2)
def fd(o:Oper):Bool:=match o.op with
 | .store ..|.box ..|.makeSlice ..|.makeMap ..|.mapUpdate ..|.alloc _=>false
 | .call c=>match c.callee with|.builtin .append=>false|.builtin .copy=>false|_=>true
 | _=>true
def wQ(o:Oper):Bool:=match o.op with
 | .alloc _=>true|.box ..=>true|.makeSlice ..=>true|.makeMap ..=>true|.buildSlice ..=>true
 | .call c=>match c.callee with|.builtin .append=>true|_=>false
 | _=>false
def jO(E:Env)(o:Oper):Bool:=match o.op with
 | .call c=>match c.callee with|.value (.func f)=>(E.inl f).isSome|.value (.tmp _)=>!E.pv|_=>false
 | _=>false
def pS(s:St)(c:Call):Option (Nat×List AV):=match c.callee with
 | .value (.func f)=>some (f,c.args.toList.map s.opA)
 | .value (.tmp t)=>match s.tm t with|.clo f l=>if l.all fN then some (f,c.args.toList.map s.opA++l) else none|_=>none
 | _=>none
def qm(i:Nat)(l:List (Nat×Oper)):Bool:=match l with|p::_=>vq i p.2|[]=>false
def xa{α:Type}(x:AV)(A B:Option α):Option α:=match x with|.gone=>A|_=>B
theorem fo{α:Type}{A B:Option α}:xa .gone A B=A:=rfl
def fq{α:Type}{x:AV}{A B:Option α}(h:x≠.gone):xa x A B=B:=by
 cases x<;>first|rfl|exact absurd rfl h
def de(s:St):List Nat:=(List.range s.nt).filterMap λt=>match s.tm t with|.own _ v _=>if s.dead.contains v then none else some v|_=>none
def kw:Option Ob->Option Ob->Bool
 | some (.one t _),some (.one t' _)=>t.beq t'
 | some (.many t _),some (.many t' _)=>t.beq t'
 | some (.mp kt vt _),some (.mp kt' vt' _)=>kt.beq kt'&&vt.beq vt'
 | _,none=>true
 | _,_=>false
def Gm(ob ob':Nat->Option Ob):AV->Bool
 | .ptr _ id _=>kw (ob id) (ob' id)
 | _=>false
def qe(s sc:St)(n:Nat)(tk:List Nat):AV->AV
 | .d t x=>.d t x
 | .own t v l=>if s.dead.contains v then .d (.sl t) (.sl l) else .own t (n+tk.idxOf v) l
 | .nils=>.nils
 | .ptr t id p=>if kw (s.ob id) (sc.ob id) then .ptr t id p else .undef
 | .fptr t x=>.fptr t x
 | .clo f l=>if l.all (Gm s.ob sc.ob) then .clo f l else .undef
 | .map kt vt id=>if kw (s.ob id) (sc.ob id) then .map kt vt id else .undef
 | .yld id=>.yld id
 | _=>.undef
def J2(s:St)(nt:Nat)(avs:List AV):St:={ tm:=λi=>avs.getD i .undef,ob:=s.ob,fresh:=s.fresh+1,dead:=de s++s.dead,nt:=nt,lkS:=[],lkO:=s.lkO }
def nW(s sc:St):St:={ tm:=λi=>if i<s.nt then qe s sc ((sc.fresh+1)*4096) (de s) (s.tm i) else .undef,ob:=sc.ob,fresh:=sc.fresh+1,dead:=sc.dead,nt:=s.nt,lkS:=s.lkS,lkO:=s.lkO }
def xV:List AV->Bool
 | []=>true
 | .ptr _ _ []::l=>xV l
 | _::_=>false
def C4(ob:Nat->Option Ob):AV->AV
 | .d t x=>.d t x
 | .own t _ l=>.d (.sl t) (.sl l)
 | .fptr t x=>.fptr t x
 | .ptr t id []=>match ob id with
  | some (.one _ _)=>.ptr t id []
  | _=>.undef
 | .clo f l=>if xV l&&l.all (λa=>match a with|.ptr _ id _=>(match ob id with|some (.one _ _)=>true|_=>false)|_=>false) then .clo f l else .undef
 | _=>.undef
def rE(ob:Nat->Option Ob):AV->AV
 | .ptr _ id []=>match ob id with
  | some (.one t _)=>.ptr t id []
  | _=>.undef
 | _=>.undef
def B0(ob:Nat->Option Ob):AV->AV
 | .d t x=>.d t x
 | .fptr t x=>.fptr t x
 | .ptr t id p=>rE ob (.ptr t id p)
 | .clo f l=>if(l.map (rE ob)).all fN then .clo f (l.map (rE ob)) else .undef
 | _=>.undef
def kG:List (Nat×AV)->(Nat->AV)->Nat->AV
 | [],f=>f
 | (p,a)::l,f=>kG l λt=>if t=p then a else f t
def Cq(s:St)(i:LpI)(id:Nat)(avs:List AV):St:=
 { tm:=kG (i.ps.zip avs) λt=>if t<i.nt then B0 s.ob (i.caps t) else .undef,ob:=s.ob,fresh:=s.fresh+1,dead:=de s++s.dead,nt:=i.nt,lkS:=[],lkO:=id::s.lkO }
def M7(s:St)(c:Call):Option (Nat×LpI×List AV):=match c.callee with
 | .value (.tmp t)=>match s.tm t with
  | .yld id=>match s.ob id with
   | some (.lp i none)=>some (id,i,c.args.toList.map s.opA)
   | _=>none
  | _=>none
 | _=>none
def leaveY(s:St)(id:Nat)(i:LpI)(p:Option Ex):St:={ s with tm:=λ_=>.undef,ob:=λj=>if j=id then some (.lp i p) else s.ob j }
def Ve{R:Type}(E:Env)(an:Ann)(s:St)(id:Nat)(i:LpI)(avs:List AV)(K:AV->St->Option R):Option R:=
 if avs.length=i.ps.length/\(i.ps.all λp=>decide (p<i.nt))=true/\(de s).length<=4096 then
  E.cod i.asg an.fst R (Cq s i id avs) λe s1=>match e with
   | .normal=>match s1.ob id with
    | some (.lp _ none)=>E.cod i.bdy an.snd R (s1.setOb id none) λe s2=>match e with
     | .normal=>K (.d .bool (.bool true)) (nW s (leaveY s2 id i none))
     | e=>K (.d .bool (.bool false)) (nW s (leaveY s2 id i (some e)))
    | _=>none
   | _=>none
 else none
def Vd{R:Type}(E:Env)(f:Operand)(ps:Array Tmp)(asg bdy:Code)(an:Ann)(s:St)(k:Ex->St->Option R):Option R:=
 match f with
 | .tmp t=>match s.tm t with
  | .clo g l=>if l.all fN&&!(s.lkO.contains 4095) then(E.inl g).bind λG=>
    G an R ({ s with fresh:=s.fresh+1 }.setOb ((s.fresh+1)*4096) (some (.lp { nt:=s.nt,ps:=ps.toList,asg:=asg,bdy:=bdy,caps:=λj=>C4 s.ob (s.tm j) } none))) (.yld ((s.fresh+1)*4096)::l) λ_ s2=>
     match s2.ob ((s.fresh+1)*4096) with
     | some (.lp _ none)=>k .normal (s2.setOb ((s.fresh+1)*4096) none)
     | some (.lp _ (some e))=>k e (s2.setOb ((s.fresh+1)*4096) none)
     | _=>none
   else none
  | _=>none
 | _=>none
def PZ{R:Type}(E:Env)(an:Ann)(s:St)(o:Oper)(K:AV->St->Option R):Option R:=match o.op with
 | .call c=>match M7 s c with
  | some q=>Ve E an s q.1 q.2.1 q.2.2 K
  | none=>(pS s c).bind λq=>(E.inl q.1).bind λg=>g an R s q.2 K
 | _=>none
def rV(E:Env)(o:Oper)(an:Ann):Ann:=if jO E o then an.snd else an
def xq(o:Oper):Bool:=match o.op with|.alloc _=>false|_=>true
def wH(s:St):St:={ s with fresh:=s.fresh+1 }
def AF{R:Type}(E:Env)(an:Ann)(l:List (Nat×Oper))(s:St)(o:Oper)(K:St->Option R):Option R:=
 if jO E o then(if l.all λp=>!(wQ p.2) then PZ E an.fst s o λv s'=>K (s'.put o.dst v) else if l.all λp=>xq p.2 then PZ E an.fst s o λv s'=>K (wH (s'.put o.dst v)) else none) else qI E s o K
def lT(E:Env)(s:St)(i:Nat)(o:Oper)(l:List (Nat×Oper)):Bool:=
 qm i l&&(match (df o.dst l).2,o.dst with
  | (_,pk)::_,some d=>decide (d<s.nt)&&pk.guard.isNone&&fd o&&!(jO E o)&&(df o.dst l).1.all (λ(p:Nat×Oper)=>(fd p.2&&!(jT s p.2)&&!(jO E p.2)))&&!(jT s pk)
  | _,_=>false)
def ew(E:Env):Nat->(R:Type)->(ops:Array Oper)->Ann->List (Nat×Oper)->St->(St->Option R)->Option R
 | 0,_,_,_,_,_,_=>none
 | _+1,_,_,_,[],s,k=>k s
 | n+1,R,ops,an,(i,o)::l,s,k=>
  match o.guard with
  | some (j,want)=>match (ops[j]?).bind (·.dst) with
   | some g=>if jT s o then none else xa (s.tm g) (ew E n R ops (rV E o an) l (s.put o.dst .gone) k)
    ((s.tm g).truth.bind λc=>
    if c then(if want then AF E an l (s.put (some g) (.d .bool (.bool true))) o λs'=>ew E n R ops (rV E o an) l s' k else ew E n R ops (rV E o an) l ((s.put (some g) (.d .bool (.bool true))).put o.dst .gone) k)
    else(if want then ew E n R ops (rV E o an) l ((s.put (some g) (.d .bool (.bool false))).put o.dst .gone) k else AF E an l (s.put (some g) (.d .bool (.bool false))) o λs'=>ew E n R ops (rV E o an) l s' k))
   | none=>none
  | none=>
   if lT E s i o l then
    let sp:=df o.dst l
    match sp.2,o.dst with
    | (_,pk)::l',some d=>
      Md E s o λs1=>(s1.tm d).truth.bind λc=>
      (if c then ew E n Bool ops .leaf sp.1 (s1.put (some d) (.d .bool (.bool true))) λs2=>qv E s2 pk AV.truth
       else ew E n Bool ops .leaf sp.1 (s1.put (some d) (.d .bool (.bool false))) λs2=>qv E s2 pk AV.truth).bind λx=>
      ew E n R ops an l' ((killD s1 (sp.1.map Prod.snd)).put pk.dst (.d .bool (.bool x))) k
    | _,_=>none
   else if jT s o then none else AF E an l s o λs'=>ew E n R ops (rV E o an) l s' k
def aP:Nat->List Oper->List (Nat×Oper)
 | _,[]=>[]
 | i,o::l=>(i,o)::aP (i+1) l
def fM(s:St):List Nat->St
 | []=>s
 | t::l=>fM (match s.tm t with
  | .mem t' id=>match s.ob id with
   | some (.many u l)=>if t'.beq u&&!(s.lkO.contains id) then{ s.setOb id none with tm:=λi=>if i=t then .d (.sl u) (.sl l) else s.tm i } else s
   | _=>s
  | _=>s) l
def cc:List (Nat×ShO)->List Nat
 | []=>[]
 | (id,.keep ..)::l=>id::cc l
 | (id,.lp ..)::l=>id::cc l
 | _::l=>cc l
mutual
def AV.same:AV->AV->Bool
 | .ptr t id p,.ptr t' id' p'=>t.beq t'&&decide (id=id')&&decide (p=p')
 | .mem t id,.mem t' id'=>t.beq t'&&decide (id=id')
 | .map kt vt id,.map kt' vt' id'=>kt.beq kt'&&vt.beq vt'&&decide (id=id')
 | .clo f l,.clo f' l'=>decide (f=f')&&AV.sames l l'
 | .yld id,.yld id'=>decide (id=id')
 | _,_=>false
def AV.sames:List AV->List AV->Bool
 | [],[]=>true
 | a::l,a'::l'=>AV.same a a'&&AV.sames l l'
 | _,_=>false
end
def D.els:D->List D|.sl l=>l|_=>[]
mutual
def Sh.mk(b:Nat):Sh->Nat->List D->AV×Nat
 | .dv t,j,s=>(.d t (s.getD j (.bool false)),j+1)
 | .ow t,j,s=>(.own t (b+j) (s.getD j (.bool false)).els,j+1)
 | .same a,j,_=>(a,j)
 | .st ts l,j,s=>let r:=Sh.mks b l j s;(.st ts r.1,r.2)
def Sh.mks(b:Nat):List Sh->Nat->List D->List AV×Nat
 | [],j,_=>([],j)
 | h::l,j,s=>let r:=Sh.mk b h j s;let q:=Sh.mks b l r.2 s;(r.1::q.1,q.2)
end
mutual
def Sh.dec(ob:Nat->Option Ob)(dead:List Nat):Sh->AV->Option (List D)
 | .dv t,a=>(AV.toD ob t a).bind λx=>some [x]
 | .ow t,.own t' v l=>if t.beq t'&&!(dead.contains v) then some [.sl l] else none
 | .ow _,.nils=>some [.sl []]
 | .same a,a'=>if AV.same a a' then some [] else none
 | .st ts l,.st ts' l'=>if Ty.beqs ts ts' then Sh.decs ob dead l l' else none
 | _,_=>none
def Sh.decs(ob:Nat->Option Ob)(dead:List Nat):List Sh->List AV->Option (List D)
 | [],[]=>some []
 | h::l,a::l'=>(Sh.dec ob dead h a).bind λx=>(Sh.decs ob dead l l').bind λy=>some (x++y)
 | _,_=>none
end
def AV.still:AV->AV
 | .d t x=>.d t x
 | .own t _ l=>.d (.sl t) (.sl l)
 | .fptr t x=>.fptr t x
 | _=>.undef
def Ob.still(t:Ty):Option Ob->Option Ob
 | some (.one t' (.d u x))=>if t.beq t' then some (.one t' (.d u x)) else none
 | _=>none
def Ob.lpOf(p:Option Ex):Option Ob->Option Ob
 | some (.lp i _)=>some (.lp i p)
 | _=>none
mutual
def Sh.toks:Sh->AV->List Nat
 | .ow _,.own _ v _=>[v]
 | .st _ l,.st _ l'=>Sh.tokss l l'
 | _,_=>[]
def Sh.tokss:List Sh->List AV->List Nat
 | h::l,a::l'=>Sh.toks h a++Sh.tokss l l'
 | _,_=>[]
end
def Shape.mkS(b:Nat):List (Nat×Sh)->Nat->List D->(Nat->AV)->(Nat->AV)×Nat
 | [],j,_,f=>(f,j)
 | (t,h)::l,j,s,f=>let r:=Sh.mk b h j s;Shape.mkS b l r.2 s (λi=>if i=t then r.1 else f i)
def Shape.mkO(b:Nat)(base:Nat->Option Ob):List (Nat×ShO)->Nat->List D->(Nat->Option Ob)->(Nat->Option Ob)
 | [],_,_,f=>f
 | (id,.one t h)::l,j,s,f=>let r:=Sh.mk b h j s;Shape.mkO b base l r.2 s (λi=>if i=id then some (.one t r.1) else f i)
 | (id,.many t)::l,j,s,f=>Shape.mkO b base l (j+1) s (λi=>if i=id then some (.many t (s.getD j (.bool false)).els) else f i)
 | (id,.mp kt vt)::l,j,s,f=>Shape.mkO b base l (j+1) s (λi=>if i=id then some (.mp kt vt (s.getD j (.bool false)).els) else f i)
 | (id,.keep t _)::l,j,s,f=>Shape.mkO b base l j s (λi=>if i=id then Ob.still t (base id) else f i)
 | (id,.lp p _)::l,j,s,f=>Shape.mkO b base l j s (λi=>if i=id then Ob.lpOf p (base id) else f i)
def Shape.mk'(h:Shape)(base:St)(s:List D)(lkS lkO:List Nat):St:=
 let b:=(base.fresh+1)*4096
 let r:=Shape.mkS b h.slots 0 s (λi=>if h.keepS.contains i then(base.tm i).still else .undef)
 { tm:=r.1,ob:=Shape.mkO b base.ob h.objs r.2 s (λ_=>none),fresh:=base.fresh+1,dead:=[],nt:=base.nt,lkS,lkO }
def Shape.decS(s:St):List (Nat×Sh)->Option (List D)
 | []=>some []
 | (t,h)::l=>(Sh.dec s.ob s.dead h (s.tm t)).bind λx=>(Shape.decS s l).bind λy=>some (x++y)
def Shape.decO(s:St):List (Nat×ShO)->Option (List D)
 | []=>some []
 | (id,.one t h)::l=>match s.ob id with
  | some (.one t' v)=>if t.beq t' then(Sh.dec s.ob s.dead h v).bind λx=>(Shape.decO s l).bind λy=>some (x++y) else none
  | _=>none
 | (id,.many t)::l=>match s.ob id with
  | some (.many t' v)=>if t.beq t' then(Shape.decO s l).bind λy=>some (.sl v::y) else none
  | _=>none
 | (id,.mp kt vt)::l=>match s.ob id with
  | some (.mp kt' vt' v)=>if kt.beq kt'&&vt.beq vt' then(Shape.decO s l).bind λy=>some (.sl v::y) else none
  | _=>none
 | (id,.keep t _)::l=>match s.ob id with
  | some (.one t' _)=>if t.beq t' then Shape.decO s l else none
  | _=>none
 | (id,.lp p _)::l=>match s.ob id with
  | some (.lp _ p')=>if Ba p p' then Shape.decO s l else none
  | _=>none
def Shape.toksS(s:St):List (Nat×Sh)->List Nat
 | []=>[]
 | (t,h)::l=>Sh.toks h (s.tm t)++Shape.toksS s l
def Shape.toksO(s:St):List (Nat×ShO)->List Nat
 | []=>[]
 | (id,.one _ h)::l=>(match s.ob id with|some (.one _ v)=>Sh.toks h v|_=>[])++Shape.toksO s l
 | _::l=>Shape.toksO s l
mutual
def AV.old(n:Nat):AV->Bool
 | .ptr _ id _=>decide (id<n)
 | .mem _ id=>decide (id<n)
 | .map _ _ id=>decide (id<n)
 | .clo _ l=>AV.olds n l
 | .yld id=>decide (id<n)
 | _=>false
def AV.olds(n:Nat):List AV->Bool
 | []=>true
 | a::l=>AV.old n a&&AV.olds n l
end
mutual
def Sh.cnt:Sh->Nat
 | .dv _=>1
 | .ow _=>1
 | .same _=>0
 | .st _ l=>Sh.cnts l
def Sh.cnts:List Sh->Nat
 | []=>0
 | h::l=>Sh.cnt h+Sh.cnts l
end
mutual
def Sh.fits:Ty->Sh->Bool
 | t,.dv t'=>t.beq t'
 | t,.ow e=>t.beq (.sl e)
 | _,.same _=>false
 | t,.st ts l=>t.beq (.st ts)&&Sh.fitss ts l
def Sh.fitss:List Ty->List Sh->Bool
 | [],[]=>true
 | t::ts,h::l=>Sh.fits t h&&Sh.fitss ts l
 | _,_=>false
end
mutual
def Sh.fine(n:Nat):Sh->Bool
 | .dv t=>aq t
 | .ow t=>aq t
 | .same a=>AV.old n a
 | .st ts l=>bi ts&&Sh.fitss ts l&&Sh.fines n l
def Sh.fines(n:Nat):List Sh->Bool
 | []=>true
 | h::l=>Sh.fine n h&&Sh.fines n l
end
def ShO.cnt:ShO->Nat
 | .one _ h=>h.cnt
 | .many _=>1
 | .mp ..=>1
 | .keep ..=>0
 | .lp ..=>0
def ShO.fine(n:Nat)(base:St)(id:Nat):ShO->Bool
 | .one t h=>Sh.fine n h&&Sh.fits t h
 | .many _=>true
 | .mp ..=>true
 | .keep _ wit=>match base.tm wit with|.ptr _ id' _=>decide (id=id')&&decide (wit<base.nt)|_=>false
 | .lp _ wit=>match base.tm wit with|.yld id'=>decide (id=id')&&decide (wit<base.nt)|_=>false
def Shape.cntS:List (Nat×Sh)->Nat
 | []=>0
 | p::l=>p.2.cnt+Shape.cntS l
def Shape.cntO:List (Nat×ShO)->Nat
 | []=>0
 | p::l=>p.2.cnt+Shape.cntO l
def Shape.good(h:Shape)(base:St):Bool:=
 cT (h.slots.map (·.1))&&cT (h.objs.map (·.1))&&(h.objs.all λp=>decide (p.1<(base.fresh+1)*4096)&&ShO.fine ((base.fresh+1)*4096) base p.1 p.2)&&h.slots.all (λp=>decide (p.1<base.nt)&&Sh.fine ((base.fresh+1)*4096) p.2)&&decide (Shape.cntS h.slots+Shape.cntO h.objs<=4096)
def Shape.dec(h:Shape)(base s:St):Option (List D):=
 if h.good base&&cT (Shape.toksS s h.slots++Shape.toksO s h.objs) then(Shape.decS s h.slots).bind λx=>(Shape.decO s h.objs).bind λy=>some (x++y) else none
def oH{α β:Type}(body:α->Option (Sum α β))(n:Nat):α->Option β:=
 Nat.rec (motive:=λ_=>α->Option β) (λ_=>none) (λ_ ih a=>match body a with
  | none=>none
  | some (.inl a')=>ih a'
  | some (.inr b)=>some b) n
def pV{α β:Type}(body:α->Option (Sum α β))(a:α):oH body 0 a=none:=rfl
theorem jP{α β:Type}(body:α->Option (Sum α β))(n:Nat)(a:α):oH body (n+1) a=match body a with
  | none=>none
  | some (.inl a')=>oH body n a'
  | some (.inr b)=>some b:=rfl
theorem pU{α β:Type}{body:α->Option (Sum α β)}:∀ {n:Nat} {a:α} {b:β} (m:Nat),oH body n a=some b->oH body (n+m) a=some b
 | 0,_,_,_,h=>by simp[pV] at h
 | n+1,a,b,m,h=>by
  rw[show n+1+m=(n+m)+1 by omega]
  simp only[jP] at h ⊢;cases hb:body a with
  | none=>rw[hb] at h;simp at h
  | some x=>cases x with
   | inl a'=>rw[hb] at h;exact pU m h
   | inr b'=>rw[hb] at h;exact h
open Classical in
def lJ{α β:Type}(body:α->Option (Sum α β))(a:α):Option β:=
 if h:∃ n b,oH body n a=some b then some (Classical.choose (Classical.choose_spec h)) else none
def nA{α β:Type}{body:α->Option (Sum α β)}{a:α}{b:β}(h:lJ body a=some b):∃ n,oH body n a=some b:=by
 unfold lJ at h;split at h
 ·grind
 ·cases h
theorem jA{α β:Type}{body:α->Option (Sum α β)}{a:α}{b:β}{n:Nat}(h:oH body n a=some b):lJ body a=some b:=by
 have hh:∃ n b,oH body n a=some b:=⟨n,b,h⟩;unfold lJ;rw[dif_pos hh];have h2:=Classical.choose_spec (Classical.choose_spec hh);have h3:=pU (Classical.choose hh) h;have h4:=pU n h2;grind
def cS{α β:Type}{body:α->Option (Sum α β)}{a a':α}(h:body a=some (.inl a')):lJ body a=lJ body a':=by
 cases h2:lJ body a' with
 | some b=>
  obtain⟨n,hn⟩:=nA h2;exact jA (n:=n+1) (by simp only[jP,h];exact hn)
 | none=>
  cases h3:lJ body a with
  | none=>rfl
  | some b=>
   obtain⟨n,hn⟩:=nA h3;cases n with
   | zero=>simp[pV] at hn
   | succ n=>
    grind [jP,jA]
def cL{α β:Type}{body:α->Option (Sum α β)}{a:α}{b:β}(h:body a=some (.inr b)):lJ body a=some b:=
 jA (n:=1) (by simp only[jP,h])
def s8(e:Ex):List (Ex×Shape)->Nat->Option (Nat×Shape)
 | [],_=>none
 | (e',h)::l,j=>if e.is e' then some (j,h) else s8 e l (j+1)
def subset(l l':List Nat):Bool:=l.all λx=>l'.contains x
def nq{R:Type}(base:St)(k:Ex->St->Option R)(keepS keepO:List Nat):List (Ex×Shape)->Nat->Nat×List D->Option R
 | [],_,_=>none
 | [(e,h)],_,r=>if subset h.keepS keepS&&subset (cc h.objs) keepO then k e (h.mk' base r.2 base.lkS base.lkO) else none
 | (e,h)::l,j,r=>if subset h.keepS keepS&&subset (cc h.objs) keepO then(if r.1=j then k e (h.mk' base r.2 base.lkS base.lkO) else nq base k keepS keepO l (j+1) r) else none
def En(base:St)(exits:List (Ex×Shape))(e:Ex)(s:St):Option (Nat×List D):=(s8 e exits 0).bind λq=>(q.2.dec base s).bind λv=>some (q.1,v)
def bL(ops:List Oper):Bool:=cT (ops.filterMap (·.dst))&&(ops.all λo=>match o.dst with|some d=>decide (d<4096)|none=>true)&&ops.all λo=>match o.op with|.store ..=>o.dst.isNone|_=>true
def pG(E:Env)(ops:Array Oper)(n:Nat):Bool:=
 ((ops.toList.take n).all λo=>!(jO E o))&&Region.noSelect ops&&Region.lexHead .any ops (ops.size-n) n 0 (Array.replicate ops.size false)&&(decide (n=ops.size)||(decide (n<ops.size)&&Region.sinkB .any ops n&&Region.chainB .any ops n)) &&
 ((ops.toList.take n).all λo=>fd o||(match o.op with|.alloc _=>true|_=>false))&&(ops.toList.drop n).all λo=>o.guard.isNone&&(match o.op with|.pick ..=>false|_=>true)
def tw(o:Oper):Bool:=match o.op with|.fieldAddr ..=>true|.load ..=>true|.build ..=>true|.alloc _=>true|.extract ..=>true|.move _=>true|_=>false
def tz{R:Type}(E:Env)(ops:Array Oper)(n id i:Nat)(s:St)(K:AV->Option R):Option R:=
 match ops[i]? with
 | none=>none
 | some o=>if jT s o then none else if Region.waitsFor .any ops n i then qv E s o K else if tw o then qv E (s.setOb id none) o K else none
def Mg{R:Type}(E:Env)(ops:Array Oper)(n id:Nat):Nat->Nat->St->(St->Option R)->Option R
 | 0,_,s,K=>K s
 | c+1,k,s,K=>tz E ops n id k s λv=>Mg E ops n id c (k+1) (s.put ((ops[k]?).bind (·.dst)) v) K
def tx(ops:Array Oper)(n:Nat):Bool:=
 match ops[n]? with
 | some o=>match o.op with
  | .store _ (.tmp p) (.tmp x)=>((List.range ops.size).all λj=>match (ops[j]?).bind (·.dst) with|some d=>!(decide (d=p)||decide (d=x))||Region.waitsFor .any ops n j|none=>true) &&
    ((ops.toList.take n).all λo=>(fd o||(match o.op with|.alloc _=>true|_=>false))&&o.guard.isNone)&&((ops.toList.drop n).all λo=>o.guard.isNone&&(match o.op with|.pick ..=>false|_=>true)) &&
    Region.noSelect ops&&Region.lexHead .any ops (ops.size-(n+1)) (n+1) 0 (Array.replicate ops.size false)&&(decide (n+1=ops.size)||(decide (n+1<ops.size)&&Region.sinkB .any ops (n+1)&&Region.chainB .any ops (n+1)))
  | _=>false
 | none=>false
def ku(ops:Array Oper)(n:Nat)(s:St):Nat:=match ops[n]? with
 | some o=>match o.op with
  | .store _ (.tmp p) _=>if ops.toList.any (λq=>match q.op,q.dst with|.alloc _,some d=>decide (d=p)|_,_=>false) then s.base+p else match s.tm p with
   | .ptr _ id _=>id
   | _=>0
  | _=>0
 | none=>0
def tv(ops:Array Oper)(n:Nat)(s:St):Option Nat:=match ops[n]? with
 | some o=>match o.op with
  | .store _ (.tmp p) _=>match s.tm p with
   | .ptr _ id []=>some id
   | _=>none
  | _=>none
 | none=>none
def yj{R:Type}(E:Env)(s:St)(o:Oper)(K:AV×List Nat->Option R):Option R:=match o.op with
 | .call c=>match c.callee with
  | .builtin .append=>(c.argTypes[0]?).bind λT=>(E.L T).bind λt=>o.dst.bind λd=>match t,c.args.toList,c.argTypes.toList with
   | .sl e,[x,y],[_,T']=>match E.L T' with
    | some (.sl _)=>((s.opA y).asList s.ob e).bind λl'=>match s.opA x with
     | .own e' v l=>if e'.beq e&&!(s.dead.contains v) then(if l.length+l'.length<=1073741824 then K (.own e (s.base+d) (l++l'),v::s.dead) else none) else none
     | .nils=>if l'.length<=1073741824 then K (.own e (s.base+d) l',s.dead) else none
     | _=>none
    | _=>none
   | _,_,_=>none
  | _=>none
 | _=>none
def nV(E:Env)(s:St)(o:Oper):Option (AV×List Nat):=yj E s o some
def lK(s:St)(p:Nat):List Nat:=match s.tm p with
 | .own _ v _=>v::s.dead
 | _=>s.dead
def Lc{R:Type}(E:Env)(ops:Array Oper)(m:Nat):Nat->Nat->St->(St->Option R)->Option R
 | 0,_,s,K=>K s
 | c+1,k,s,K=>match ops[k]? with
  | none=>none
  | some o=>if jT s o then none else if k=m then yj E s o λv=>Lc E ops m c (k+1) (s.put o.dst v.1) K else qv E s o λv=>Lc E ops m c (k+1) (s.put o.dst v) K
def J3(o:Oper):Bool:=match o.op with
 | .call c=>match c.callee with|.builtin .append=>true|_=>false
 | _=>false
def nU(ops:Array Oper):Nat:=ops.toList.findIdx J3
def De(ops:Array Oper)(m:Nat):Nat:=match ops[m]? with
 | some o=>match o.op with
  | .call c=>match c.args.toList with|[.tmp p,_]=>p|_=>0
  | _=>0
 | none=>0
def yk(E:Env)(ops:Array Oper)(n m:Nat):Bool:=
 match ops[m]? with
 | some o=>match o.op with
  | .call c=>match c.callee,c.args.toList with
   | .builtin .append,[.tmp p,_]=>decide (m<n)&&((List.range ops.size).all λj=>match (ops[j]?).bind (·.dst) with|some d=>!(decide (d=p))||Region.waitsFor .any ops m j|none=>true) &&
     ((List.range n).all λj=>match ops[j]? with|some o=>(decide (j=m)||(fd o||(match o.op with|.alloc _=>true|_=>false)))&&o.guard.isNone&&!(jO E o)|none=>false) &&
     ((ops.toList.drop n).all λo=>o.guard.isNone&&(match o.op with|.pick ..=>false|_=>true)) &&
     Region.noSelect ops&&Region.lexHead .any ops (ops.size-n) n 0 (Array.replicate ops.size false)&&(decide (n=ops.size)||(decide (n<ops.size)&&Region.sinkB .any ops n&&Region.chainB .any ops n))
   | _,_=>false
  | _=>false
 | none=>false
def jJ(E:Env)(o:Oper):Bool:=(fd o||(match o.op with|.alloc _=>true|_=>false))&&!(jO E o)
def uq(ops:Array Oper):Nat->List Nat
 | 0=>[]
 | n+1=>let l:=uq ops n;l++[match ops[n]? with
  | some o=>o.after.toList.foldl (λm e=>if Region.binds .any e&&decide (e.on<n) then(m ||| 2^e.on) ||| l.getD e.on 0 else m) 0
  | none=>0]
def lQ(E:Env)(ops:Array Oper)(i:Nat)(o:Oper):Nat->Nat->Bool
 | 0,_=>true
 | f+1,j=>match ops[j]? with
  | none=>true
  | some oj=>if jJ E oj then(oj.after.any (λe=>Region.binds .any e&&e.on==i)||o.apart ops oj)&&lQ E ops i o f (j+1) else true
def gS(E:Env)(ops:Array Oper):Bool:=
 let l:=uq ops ops.size
 (List.range ops.size).all λi=>match ops[i]? with
  | none=>true
  | some o=>(o.after.toList.all λe=>!(Region.binds .any e)||decide (e.on<i)) &&
   (if jJ E o then lQ E ops i o ops.size (i+1) else(List.range ops.size).all λj=>if j<i then Nat.testBit (l.getD i 0) j else decide (j=i)||Nat.testBit (l.getD j 0) i)
def ev(E:Env):Code->Ann->(R:Type)->St->(Ex->St->Option R)->Option R
 | .skip,_,_,s,k=>k .normal s
 | .label _,_,_,s,k=>k .normal s
 | .exit id,_,_,s,k=>k (.exit id) s
 | .ret,_,_,s,k=>k .ret s
 | .region _ ops dr,a,R,s,k=>
  let s1:=gY E ops.toList { fM s a.fz with fresh:=s.fresh+1 }
  if bL ops.toList&&(!dr||pG E ops (a.heads ops.size)) then ew E (ops.size+1) R ops a.inner (aP 0 ops.toList) s1 (λs'=>k .normal s')
  else if bL ops.toList&&tx ops (a.heads ops.size) then Mg E ops (a.heads ops.size) (ku ops (a.heads ops.size) s1) (a.heads ops.size) 0 s1 λs2=>if tv ops (a.heads ops.size) s2=some (ku ops (a.heads ops.size) s1) then ew E (ops.size+1) R ops a.inner ((aP 0 ops.toList).drop (a.heads ops.size)) s2 (λs'=>k .normal s') else none
  else if bL ops.toList&&(dr&&yk E ops (a.heads ops.size) (nU ops)) then Lc E ops (nU ops) (a.heads ops.size) 0 s1 λs2=>ew E (ops.size+1) R ops a.inner ((aP 0 ops.toList).drop (a.heads ops.size)) { s2 with dead:=lK s2 (De ops (nU ops)) } (λs'=>k .normal s')
  else if bL ops.toList&&(dr&&gS E ops) then ew E (ops.size+1) R ops a.inner (aP 0 ops.toList) s1 (λs'=>k .normal s')
  else none
 | .seq c d,.cut exits kS kO a b,R,s,k=>
  (ev E c a (Nat×List D) { s with lkS:=kS++s.lkS,lkO:=kO++s.lkO } (En s exits)).bind λr=>
   nq s (λe s'=>match e with|.normal=>ev E d b R s' k|e=>k e s') kS kO exits 0 r
 | .seq c d,a,R,s,k=>ev E c a.fst R s λe s'=>match e with
  | .normal=>ev E d a.snd R s' k
  | e=>k e s'
 | .cond c x y,a,R,s,k=>(s.opA c).truth.bind λt=>if t then ev E x a.fst R s k else ev E y a.snd R s k
 | .block id c,a,R,s,k=>ev E c a.fst R s λe s'=>match e with
  | .exit j=>if j=id then k .normal s' else k (.exit j) s'
  | e=>k e s'
 | .scope c,a,R,s,k=>ev E c a R s k
 | .rangeFunc f ps asg bdy,a,_,s,k=>Vd E f ps asg bdy a s k
 | .loop c,.loop h exits a,R,s,k=>
  (h.dec s s).bind λv0=>(E.lp (λv=>ev E c a (Sum (List D) (Nat×List D)) (h.mk' s v (h.keepS++s.lkS) (cc h.objs++s.lkO)) λe s'=>match e with
    | .normal=>(h.dec s s').bind λv'=>some (.inl v')
    | e=>(En s exits e s').bind λr=>some (.inr r)) v0).bind λr=>
   nq s k h.keepS (cc h.objs) exits 0 r
 | _,_,_,_,_=>none
def lE(tys:List Ty)(args:List D)(i:Nat):AV:=
 match tys[i]?,args[i]? with
 | some t,some x=>.d t x
 | _,_=>.undef
def Gz{R:Type}(E:Env)(s:St)(t:Ty)(k:D->Option R):ResultVar->Option R
 | .tmp i=>(AV.toD s.ob t (s.tm i)).bind k
 | .cell i T=>(E.L T).bind λu=>match s.tm i with
  | .ptr t' id p=>if u.beq t' then(s.ob id).bind λo=>iJ o p λa=>(AV.toD s.ob t a).bind k else none
  | _=>none
def tX{R:Type}(E:Env)(s:St):List Ty->List ResultVar->(List D->Option R)->Option R
 | [],[],k=>k []
 | t::ts,r::rs,k=>Gz E s t (λx=>tX E s ts rs λxs=>k (x::xs)) r
 | _,_,_=>none
def results(E:Env)(s:St)(rty:Ty)(rs:List ResultVar):Option D:=
 match rs with
 | [r]=>Gz E s rty some r
 | rs=>match rty with
  | .tup ts=>tX E s ts rs λxs=>some (.tup xs)
  | _=>none
def Vc(E:Env)(fn:Func)(ann:Ann)(tys:List Ty)(rty:Ty)(args:List D):Option D:=
 match fn.body with
 | none=>none
 | some c=>ev E c ann D { tm:=lE tys args,ob:=λ_=>none,fresh:=0,dead:=[],nt:=fn.ntmps,lkS:=[],lkO:=[] } λe s=>match e with
  | .exit _=>none
  | _=>results E s rty fn.results.toList
end Sy
end
noncomputable section
namespace Sy
open Go
mutual
theorem ci:∀ (t:Ty) (x:D),wt t x->aq t=true->x.flat.length=t.size
 | .int k,x,h,_=>by simp only[wt] at h;obtain⟨n,rfl⟩:=h;rfl
 | .bool,x,h,_=>by simp only[wt] at h;obtain⟨n,rfl⟩:=h;rfl
 | .str,x,h,_=>by simp only[wt] at h;obtain⟨n,rfl⟩:=h;rfl
 | .st ts,x,h,hn=>by
  simp only[wt] at h;obtain⟨l,rfl,h⟩:=h;simp only[D.flat,Ty.size];exact pe ts l h (by simpa [aq] using hn)
 | .arr n t,x,h,hn=>by
  simp only[wt] at h;obtain⟨l,rfl,rfl,h⟩:=h;simp only[D.flat,Ty.size];simp only[aq] at hn
  induction l with
  | nil=>simp[D.flats]
  | cons y l ih=>
   simp only[D.flats,zua,zDa];rw[ci t y (h y (by simp)) hn,ih (λx hx=>h x (by simp[hx]))]
   rw[zZa,znc,zGc]
 | .sl t,x,h,_=>by simp only[wt] at h;obtain⟨l,rfl,_⟩:=h;rfl
 | .tup ts,_,_,h=>by simp[aq] at h
 | .fn,x,h,_=>by simp[wt] at h
theorem pe:∀ (ts:List Ty) (l:List D),ff ts l->bi ts=true->(D.flats l).length=Ty.sizes ts
 | [],l,h,_=>by simp only[ff] at h;subst h;rfl
 | t::ts,l,h,hn=>by
  simp only[ff] at h;obtain⟨d,l',rfl,h1,h2⟩:=h;simp only[bi,zaa] at hn;simp only[D.flats,Ty.sizes,zua];rw[ci t d h1 hn.1,pe ts l' h2 hn.2]
end
def bR(a b:List D):D.flats (a++b)=D.flats a++D.flats b:=by
 induction a with
 | nil=>rfl
 | cons x a ih=>simp only[zdb,D.flats,ih,zOa]
theorem aK{t:Ty}(hn:aq t=true):∀ (l:List D),(∀ x∈l,wt t x)->(D.flats l).length=l.length*t.size
 | [],_=>by simp[D.flats]
 | y::l,h=>by
  simp only[D.flats,zua,zDa];rw[ci t y (h y (by simp)) hn,aK hn l (λx hx=>h x (by simp[hx])),zZa,znc,zGc]
theorem bZ{l:List D}{i:Nat}{y:D}(h:l[i]?=some y):D.flats l=D.flats (l.take i)++(y.flat++D.flats (l.drop (i+1))):=by
 obtain⟨hi,hy⟩:=zna.1 h
 conv=>lhs;rw[<-zsa i l,bR]
 rw[zkb hi,hy];rfl
def mo{l:List D}{i:Nat}{y z:D}(h:l[i]?=some y):D.flats (l.set i z)=D.flats (l.take i)++(z.flat++D.flats (l.drop (i+1))):=by
 obtain⟨hi,hy⟩:=zna.1 h;have h2:(l.set i z)[i]?=some z:=by simp[hi]
 rw[bZ h2,List.take_set_of_le (zja i),List.drop_set_of_lt (zbd i)]
theorem g8:∀ {ts:List Ty} {l:List D} {i:Nat} {t:Ty},ff ts l->ts[i]?=some t->∃ y,l[i]?=some y/\wt t y
 | [],_,_,_,_,h=>by simp at h
 | u::ts,l,i,t,h,hi=>by
  simp only[ff] at h;obtain⟨d,l',rfl,h1,h2⟩:=h;cases i with
  | zero=>simp at hi;subst hi;exact⟨d,rfl,h1⟩
  | succ i=>simp at hi;obtain⟨y,h3,h4⟩:=g8 h2 hi;exact⟨y,by simpa using h3,h4⟩
theorem kQ:∀ {ts:List Ty} {l:List D},ff ts l->l.length=ts.length
 | [],l,h=>by simp_all [ff]
 | t::ts,l,h=>by
  simp only[ff] at h;obtain⟨d,l',rfl,h1,h2⟩:=h;simp[kQ h2]
theorem xZ:∀ {ts:List Ty} {l:List D} {i:Nat} {t:Ty} {z:D},ff ts l->ts[i]?=some t->wt t z->ff ts (l.set i z)
 | [],_,_,_,_,_,h,_=>by simp at h
 | u::ts,l,i,t,z,h,hi,hz=>by
  simp only[ff] at h;obtain⟨d,l',rfl,h1,h2⟩:=h;cases i with
  | zero=>simp at hi;subst hi;simp only[zDc,ff];exact⟨z,l',rfl,hz,h2⟩
  | succ i=>simp at hi;simp only[z0c,ff];exact⟨d,_,rfl,h1,xZ h2 hi hz⟩
theorem pg:∀ {ts:List Ty} {l:List D} (i:Nat),ff ts l->ff (ts.take i) (l.take i)
 | ts,l,0,_=>by simp[ff]
 | [],l,i+1,h=>by simp_all [ff]
 | t::ts,l,i+1,h=>by
  simp only[ff] at h;obtain⟨d,l',rfl,h1,h2⟩:=h;simp only[zXb,ff];exact⟨d,_,rfl,h1,pg i h2⟩
theorem bV:∀ {ts:List Ty} {i:Nat} {t:Ty},bi ts=true->ts[i]?=some t->aq t=true
 | [],_,_,_,h=>by simp at h
 | u::ts,i,t,h,hi=>by
  simp only[bi,zaa] at h;cases i with
  | zero=>simp at hi;subst hi;exact h.1
  | succ i=>simp at hi;exact bV h.2 hi
theorem gK:∀ {ts:List Ty} (i:Nat),bi ts=true->bi (ts.take i)=true
 | ts,0,_=>by simp[bi]
 | [],i+1,_=>by simp[bi]
 | u::ts,i+1,h=>by
  simp only[bi,zaa] at h;simp only[zXb,bi,zaa];exact⟨h.1,gK i h.2⟩
theorem dC:∀ (p:List Nat) {t u:Ty},aq t=true->aQ t p=some u->aq u=true
 | [],t,u,h,hp=>by simp_all [aQ,zda]
 | i::p,t,u,h,hp=>by
  cases t<;>simp only[aQ] at hp
  case st ts=>
   cases hi:ts[i]? with
   | none=>rw[hi] at hp;cases hp
   | some v=>rw[hi] at hp;exact dC p (bV (by simpa [aq] using h) hi) hp
  case arr n v=>exact dC p (by simpa [aq] using h) hp
  all_goals cases hp
theorem iA:∀ (p:List Nat) {t u:Ty} {x y:D},wt t x->aq t=true->aQ t p=some u->x.get p=some y ->
  wt u y/\∃ a b,x.flat=a++(y.flat++b)/\a.length=aX t p
 | [],t,u,x,y,h,hn,hp,hg=>by
  have hp':t=u:=by simp_all [aQ]
  simp only[D.get,zda] at hg;subst hp';subst hg;exact⟨h,[],[],by simp,by cases t<;>rfl⟩
 | i::p,t,u,x,y,h,hn,hp,hg=>by
  simp only[D.get] at hg;cases hf:x.fld i with
  | none=>rw[hf] at hg;cases hg
  | some z=>
   rw[hf] at hg;have hg':z.get p=some y:=hg;cases t<;>simp only[aQ] at hp
   case st ts=>
    cases hi:ts[i]? with
    | none=>rw[hi] at hp;cases hp
    | some v=>
     rw[hi] at hp;have hp':aQ v p=some u:=hp;simp only[wt] at h;obtain⟨l,rfl,hl⟩:=h;simp only[D.fld] at hf;obtain⟨z',hz,hv⟩:=g8 hl hi;rw[hf] at hz;cases hz;simp only[aq] at hn;obtain⟨h1,a,b,h2,h3⟩:=iA p hv (bV hn hi) hp' hg';refine⟨h1,D.flats (l.take i)++a,b++D.flats (l.drop (i+1)),?_,?_⟩
     ·grind [D.flat,bZ,List.append_assoc]
     ·simp only[aX,zua,h3];rw[pe _ _ (pg i hl) (gK i hn)]
      simp_all
   case arr n v=>
    simp only[wt] at h;obtain⟨l,rfl,hl,hv⟩:=h;simp only[D.fld] at hf;simp only[aq] at hn;obtain⟨h1,a,b,h2,h3⟩:=iA p (hv z (z8a hf)) hn hp hg';refine⟨h1,D.flats (l.take i)++a,b++D.flats (l.drop (i+1)),?_,?_⟩
    ·grind [D.flat,bZ,List.append_assoc]
    ·grind [aX,List.length_append,aK,List.mem_of_mem_take,Nat.min_eq_left,Nat.le_of_lt]
   all_goals cases hp
theorem oR:∀ (p:List Nat) {t u:Ty} {x y x':D},wt t x->aq t=true->aQ t p=some u->x.set p y=some x'->wt u y ->
  wt t x'/\∃ a c b,x.flat=a++(c++b)/\x'.flat=a++(y.flat++b)/\a.length=aX t p/\c.length=u.size
 | [],t,u,x,y,x',h,hn,hp,hg,hy=>by
  have hp':t=u:=by simp_all [aQ]
  simp only[D.set,zda] at hg;subst hp';subst hg;exact⟨hy,[],x.flat,[],by simp,by simp,by cases t<;>rfl,ci _ _ h hn⟩
 | i::p,t,u,x,y,x',h,hn,hp,hg,hy=>by
  cases t<;>simp only[aQ] at hp
  case st ts=>
   cases hi:ts[i]? with
   | none=>rw[hi] at hp;cases hp
   | some v=>
    rw[hi] at hp;have hp':aQ v p=some u:=hp;simp only[wt] at h;obtain⟨l,rfl,hl⟩:=h;simp only[D.set] at hg;obtain⟨z,hz,hv⟩:=g8 hl hi;rw[hz] at hg;cases hs:D.set z p y with
    | none=>rw[show((some z).bind λz=>(D.set z p y).bind λz'=>some (D.st (l.set i z')))=(D.set z p y).bind λz'=>some (D.st (l.set i z')) from rfl,hs] at hg;cases hg
    | some z'=>
     rw[show((some z).bind λz=>(D.set z p y).bind λz'=>some (D.st (l.set i z')))=(D.set z p y).bind λz'=>some (D.st (l.set i z')) from rfl,hs] at hg;simp only[zba,zda] at hg;subst hg;simp only[aq] at hn;obtain⟨h1,a,c,b,h2,h3,h4,h5⟩:=oR p hv (bV hn hi) hp' hs hy;refine⟨by simp only[wt];exact⟨_,rfl,xZ hl hi h1⟩,D.flats (l.take i)++a,c,b++D.flats (l.drop (i+1)),?_,?_,?_,h5⟩
     ·simp only[D.flat];rw[bZ hz,h2];simp[zOa]
     ·simp only[D.flat];rw[mo hz,h3];simp[zOa]
     ·simp only[aX,zua,h4];rw[pe _ _ (pg i hl) (gK i hn)];simp[List.getD,hi]
  case arr n v=>
   simp only[wt] at h;obtain⟨l,rfl,hl,hv⟩:=h;simp only[D.set] at hg;cases hz:l[i]? with
   | none=>rw[hz] at hg;cases hg
   | some z=>
    rw[hz] at hg;cases hs:D.set z p y with
    | none=>rw[show((some z).bind λz=>(D.set z p y).bind λz'=>some (D.st (l.set i z')))=(D.set z p y).bind λz'=>some (D.st (l.set i z')) from rfl,hs] at hg;cases hg
    | some z'=>
     rw[show((some z).bind λz=>(D.set z p y).bind λz'=>some (D.st (l.set i z')))=(D.set z p y).bind λz'=>some (D.st (l.set i z')) from rfl,hs] at hg;simp only[zba,zda] at hg;subst hg;simp only[aq] at hn;obtain⟨h1,a,c,b,h2,h3,h4,h5⟩:=oR p (hv z (z8a hz)) hn hp hs hy;refine⟨?_,D.flats (l.take i)++a,c,b++D.flats (l.drop (i+1)),?_,?_,?_,h5⟩
     ·simp only[wt];refine⟨_,rfl,by simpa using hl,λx hx=>?_⟩
      rcases zRc hx with h|h
      ·exact hv x h
      ·rw[h];exact h1
     ·simp only[D.flat];rw[bZ hz,h2];simp[zOa]
     ·simp only[D.flat];rw[mo hz,h3];simp[zOa]
     ·simp only[aX,zua,h4];rw[aK hn _ (λx hx=>hv x (zSa hx))];have:=(zna.1 hz).1;simp[zqb (zsc this)]
  all_goals cases hp
inductive CR(w:World)(S:Nat->Nat->Prop):D->Value->Prop
 | int (k:IntKind) (n:Int):CR w S (.int k n) (.int k n)
 | bool (b:Bool):CR w S (.bool b) (.bool b)
 | str (s:ByteArray):CR w S (.str s) (.string s)
 | sl (l:List D) (a:Option Addr) (cap b off:Nat) (c:Nat->Value) (ha:l=[]\/a=some ⟨b,off,none⟩) (hc:l.length<=cap)
   (h1:∀ i d,(D.flats l)[i]?=some d->S b (off+i)/\w.cell? ⟨b,off+i,none⟩=some (c i))
   (h2:∀ i d,(D.flats l)[i]?=some d->CR w S d (c i)):CR w S (.sl l) (.slice a l.length cap)
def CR.mono{w w':World}{S S':Nat->Nat->Prop}(hw:∀ b o,S b o->w'.cell? ⟨b,o,none⟩=w.cell? ⟨b,o,none⟩)(hS:∀ b o,S b o->S' b o){d:D}{v:Value}(h:CR w S d v):CR w' S' d v:=by
 induction h with
 | int k n=>exact .int k n
 | bool b=>exact .bool b
 | str s=>exact .str s
 | sl l a cap b off c ha hc h1 h2 ih=>
  exact .sl l a cap b off c ha hc (λi d hd=>⟨hS _ _ (h1 i d hd).1,by rw[hw _ _ (h1 i d hd).1];exact(h1 i d hd).2⟩) ih
def cG(w:World)(S:Nat->Nat->Prop)(ds:List D)(cs:List Value):Prop:=ds.length=cs.length/\∀ (i:Nat) (d:D) (c:Value),ds[i]?=some d->cs[i]?=some c->CR w S d c
theorem cG.mono{w w':World}{S S':Nat->Nat->Prop}(hw:∀ b o,S b o->w'.cell? ⟨b,o,none⟩=w.cell? ⟨b,o,none⟩)(hS:∀ b o,S b o->S' b o){d:List D}{v:List Value}(h:cG w S d v):cG w' S' d v:=
 ⟨h.1,λi d c h1 h2=>(h.2 i d c h1 h2).mono hw hS⟩
def cG.nil{w:World}{S:Nat->Nat->Prop}:cG w S [] []:=⟨rfl,λi d c h=>by simp at h⟩
def cG.append{w:World}{S:Nat->Nat->Prop}{a b:List D}{c d:List Value}(h:cG w S a c)(k:cG w S b d):cG w S (a++b) (c++d):=by
 refine⟨by simp[h.1,k.1],λi x y hx hy=>?_⟩
 rw[zQc] at hx hy;by_cases hi:i<a.length
 ·rw[if_pos hi] at hx;rw[if_pos (h.1 ▸ hi)] at hy;exact h.2 i x y hx hy
 ·rw[if_neg hi] at hx;rw[if_neg (h.1 ▸ hi)] at hy;rw[h.1] at hx;exact k.2 _ x y hx hy
def cG.split{w:World}{S:Nat->Nat->Prop}{a b:List D}{cs:List Value}(h:cG w S (a++b) cs):cG w S a (cs.take a.length)/\cG w S b (cs.drop a.length):=by
 obtain⟨h1,h2⟩:=h;rw[zua] at h1;refine⟨⟨by simp;omega,λi x y hx hy=>?_⟩,⟨by simp;omega,λi x y hx hy=>?_⟩⟩
 ·grind
 ·grind
def cG.single{w:World}{S:Nat->Nat->Prop}{d:D}{v:Value}:cG w S [d] [v]↔CR w S d v:=by
 constructor
 ·intro h;exact h.2 0 d v rfl rfl
 ·intro h;refine⟨rfl,λi x y hx hy=>?_⟩;all_goals grind
def cG.single'{w:World}{S:Nat->Nat->Prop}{d:D}{cs:List Value}(h:cG w S [d] cs):∃ v,cs=[v]/\CR w S d v:=by
 match cs,h with
 | [v],h=>exact⟨v,rfl,cG.single.1 h⟩
 | [],h=>simp[cG] at h
 | _::_::_,h=>simp[cG] at h
def pn(w:World)(S:Nat->Nat->Prop)(b off:Nat)(ds:List D):Prop:=∃ cs,cG w S ds cs/\∀ (i:Nat) (c:Value),cs[i]?=some c->S b (off+i)/\w.cell? ⟨b,off+i,none⟩=some c
theorem pn.mono{w w':World}{S S':Nat->Nat->Prop}(hw:∀ b o,S b o->w'.cell? ⟨b,o,none⟩=w.cell? ⟨b,o,none⟩)(hS:∀ b o,S b o->S' b o){b off:Nat}{d:List D}(h:pn w S b off d):pn w' S' b off d:=by
 obtain⟨cs,h1,h2⟩:=h;exact⟨cs,h1.mono hw hS,λi c hc=>⟨hS _ _ (h2 i c hc).1,by rw[hw _ _ (h2 i c hc).1];exact(h2 i c hc).2⟩⟩
def pn.part{w:World}{S:Nat->Nat->Prop}{b off:Nat}{x y z:List D}(h:pn w S b off (x++(y++z))):pn w S b (off+x.length) y:=by
 obtain⟨cs,h1,h2⟩:=h;obtain⟨_,h3⟩:=h1.split;obtain⟨h4,_⟩:=h3.split;refine⟨_,h4,λi c hc=>?_⟩;grind
def CR.elems{w:World}{S:Nat->Nat->Prop}{l:List D}{v:Value}(h:CR w S (.sl l) v):∃ a cap b off,v=.slice a l.length cap/\(l=[]\/a=some ⟨b,off,none⟩)/\l.length<=cap/\pn w S b off (D.flats l):=by
 cases h with
 | sl _ a cap b off c ha hc h1 h2=>
  refine⟨a,cap,b,off,rfl,ha,hc,(List.range (D.flats l).length).map c,⟨by simp,λi d c' hd hc'=>?_⟩,λi c' hc'=>?_⟩
  ·grind
  ·have hi:=(zna.1 hc').1
   simp_all
def CR.of_elems{w:World}{S:Nat->Nat->Prop}{l:List D}{a:Option Addr}{cap b off:Nat}(ha:l=[]\/a=some ⟨b,off,none⟩)(hc:l.length<=cap)(h:pn w S b off (D.flats l)):CR w S (.sl l) (.slice a l.length cap):=by
 obtain⟨cs,h1,h2⟩:=h;refine .sl l a cap b off (λi=>cs.getD i undef) ha hc (λi d hd=>?_) (λi d hd=>?_)
 ·have hi:i<cs.length:=by rw[<-h1.1];exact(zna.1 hd).1
  have:=h2 i _ (zca hi);simpa [List.getD,zca hi] using this
 ·have hi:i<cs.length:=by rw[<-h1.1];exact(zna.1 hd).1
  have:=h1.2 i d _ hd (zca hi);simpa [List.getD,zca hi] using this
def P1:D->Value->Prop
 | .st _,v=>∃ cs,v=.agg cs
 | _,v=>∀ cs,v≠.agg cs
def fZ(w:World)(S:Nat->Nat->Prop)(d:D)(v:Value):Prop:=P1 d v/\cG w S d.flat v.cells.toList
def DR(w:World)(S:Nat->Nat->Prop):D->Value->Prop
 | .tup l,v=>∃ vs:List Value,v=.tuple vs.toArray/\l.length=vs.length/\∀ (i:Nat) (d:D) (u:Value),l[i]?=some d->vs[i]?=some u->fZ w S d u
 | d,v=>fZ w S d v
theorem fZ.mono{w w':World}{S S':Nat->Nat->Prop}(hw:∀ b o,S b o->w'.cell? ⟨b,o,none⟩=w.cell? ⟨b,o,none⟩)(hS:∀ b o,S b o->S' b o){d:D}{v:Value}(h:fZ w S d v):fZ w' S' d v:=⟨h.1,h.2.mono hw hS⟩
theorem DR.mono{w w':World}{S S':Nat->Nat->Prop}(hw:∀ b o,S b o->w'.cell? ⟨b,o,none⟩=w.cell? ⟨b,o,none⟩)(hS:∀ b o,S b o->S' b o){d:D}{v:Value}(h:DR w S d v):DR w' S' d v:=by
 cases d<;>simp only[DR] at h ⊢<;>first
  | exact h.mono hw hS
  | (obtain⟨vs,h1,h2,h3⟩:=h;exact⟨vs,h1,h2,λi d u hd hu=>(h3 i d u hd hu).mono hw hS⟩)
def DR.of0{w:World}{S:Nat->Nat->Prop}{d:D}{v:Value}(h:fZ w S d v):DR w S d v:=by
 cases d<;>simp only[DR]<;>first
  | exact h
  | (exfalso;obtain⟨c,e,h⟩:=cG.single' h.2;cases h)
def CR.int_inv{w:World}{S:Nat->Nat->Prop}{k:IntKind}{n:Int}{v:Value}(h:CR w S (.int k n) v):v=.int k n:=by cases h;rfl
def CR.bool_inv{w:World}{S:Nat->Nat->Prop}{n:Bool}{v:Value}(h:CR w S (.bool n) v):v=.bool n:=by cases h;rfl
def ay{v u:Value}(hv:∀ cs,v≠.agg cs)(h:v.cells.toList=[u]):v=u:=by
 all_goals simp_all [Value.cells]
theorem fZ.int_inv{w:World}{S:Nat->Nat->Prop}{k:IntKind}{n:Int}{v:Value}(h:fZ w S (.int k n) v):v=.int k n:=by
 obtain⟨u,h1,h2⟩:=cG.single' (d:=.int k n) h.2;rw[ay h.1 h1];exact h2.int_inv
theorem fZ.bool_inv{w:World}{S:Nat->Nat->Prop}{n:Bool}{v:Value}(h:fZ w S (.bool n) v):v=.bool n:=by
 obtain⟨u,h1,h2⟩:=cG.single' (d:=.bool n) h.2;rw[ay h.1 h1];exact h2.bool_inv
def fZ.sl_inv{w:World}{S:Nat->Nat->Prop}{l:List D}{v:Value}(h:fZ w S (.sl l) v):CR w S (.sl l) v:=by
 obtain⟨u,h1,h2⟩:=cG.single' (d:=.sl l) h.2;rw[ay h.1 h1];exact h2
def CR.no_agg{w:World}{S:Nat->Nat->Prop}{d:D}{v:Value}(h:CR w S d v):(∀ cs,v≠.agg cs)/\(∀ vs,v≠.tuple vs)/\d.flat=[d]/\v.cells=#[v]:=by cases h<;>simp[D.flat,Value.cells]
def fZ.of_CR{w:World}{S:Nat->Nat->Prop}{d:D}{v:Value}(h:CR w S d v):fZ w S d v:=by
 obtain⟨h1,_,h3,h4⟩:=h.no_agg;refine⟨?_,?_⟩
 ·cases h<;>simp[P1]
 ·rw[h3,h4];exact cG.single.2 h
end Sy
end
noncomputable section
namespace Sy
open Go
structure Cx where
 w:World
 S:Nat->Nat->Prop
 γ:Nat->Option Nat
 β:Nat->Option (Nat×Nat)
 ob:Nat->Option Ob
 dead:List Nat
def mP(w:World)(b:Nat):Option Nat:=(bJ w b).map (·.size)
def cq:Ob->List Nat->Nat
 | .one t _,p=>aX t p
 | .many t _,i::p=>i*t.size+aX t p
 | .many ..,[]=>0
 | .mp ..,_=>0
 | .lp ..,_=>0
def XM(c:Cx)(t:Ty)(v:Nat)(l:List D)(a:Option Addr)(cap:Nat):Prop:=
 v ∉ c.dead->(a=none/\cap=0)\/∃ b off,a=some ⟨b,off,none⟩/\c.β v=some (b,off+l.length*t.size)/\∃ n,mP c.w b=some n/\off+cap*t.size<=n
mutual
def AC(c:Cx):AV->List Value->Prop
 | .d t x,cs=>wt t x/\aq t=true/\cG c.w c.S x.flat cs
 | .own t v l,cs=>aq t=true/\(∀ x∈l,wt t x)/\∃ a cap,cs=[.slice a l.length cap]/\CR c.w c.S (.sl l) (.slice a l.length cap)/\XM c t v l a cap
 | .nils,cs=>cs=[.slice none 0 0]
 | .ptr t id p,cs=>∃ b off,cs=[.pointer (some ⟨b,off,none⟩)]/\c.γ id=some b/\∀ o,c.ob id=some o->fj o p=some t/\off=cq o p
 | .fptr t x,cs=>wt t x/\aq t=true/\∃ b off,cs=[.pointer (some ⟨b,off,none⟩)]/\pn c.w c.S b off x.flat
 | .mem t id,cs=>aq t=true/\∃ b,c.γ id=some b/\∀ o,c.ob id=some o->∃ l,o=.many t l/\cs=[.slice (some ⟨b,0,none⟩) l.length l.length]
 | .st ts l,cs=>bi ts=true/\AV.fitss ts l=true/\kh c l cs
 | .clo f l,cs=>∃ caps:List Value,cs=[.func (.func f) #[] caps.toArray]/\mV c l caps
 | .map kt vt id,cs=>∃ b,cs=[.map (some b)]/\c.γ id=some b/\aq kt=true/\aq vt=true/\∀ o,c.ob id=some o->∃ l,o=.mp kt vt l
 | .sub sl t id p lo n,cs=>aq t=true/\∃ b off cap,cs=[if sl then .slice (some ⟨b,off,none⟩) n cap else .pointer (some ⟨b,off,none⟩)]/\c.γ id=some b/\∀ o,c.ob id=some o->∃ m,fj o p=some (.arr m t)/\lo+n<=m/\off=cq o p+lo*t.size
 | .yld id,cs=>∃ L,cs=[.func (.yield L) #[] #[]]/\c.γ id=some L
 | .gone,_=>True
 | .undef,_=>True
def kh(c:Cx):List AV->List Value->Prop
 | [],cs=>cs=[]
 | a::l,cs=>∃ c1 c2,cs=c1++c2/\AC c a c1/\kh c l c2
def mV(c:Cx):List AV->List Value->Prop
 | [],cs=>cs=[]
 | a::l,cs=>∃ v c2,cs=v::c2/\AC c a [v]/\mV c l c2
end
def AR(c:Cx):AV->Value->Prop
 | .gone,v=>v=undef
 | .d t x,v=>(aq t=true/\wt t x/\fZ c.w c.S x v)\/∃ ts,t=.tup ts/\bi ts=true/\wt t x/\DR c.w c.S x v
 | .undef,_=>True
 | .st ts l,v=>(∃ cs,v=.agg cs)/\AC c (.st ts l) v.cells.toList
 | a,v=>(∀ cs,v≠.agg cs)/\AC c a v.cells.toList
structure Cx.le(c c':Cx):Prop where
 cell:∀ b o,c.S b o->c'.w.cell? ⟨b,o,none⟩=c.w.cell? ⟨b,o,none⟩
 S:∀ b o,c.S b o->c'.S b o
 γ:∀ id b,c.γ id=some b->c'.γ id=some b
 ob:∀ id o,c'.ob id=some o->(∃ b,c.γ id=some b)->∃ o',c.ob id=some o'/\(∀ p,fj o p=fj o' p/\cq o p=cq o' p)/\(∀ t l,o'=.many t l->∃ l',o=.many t l'/\l'.length=l.length)/\(∀ kt vt l,o'=.mp kt vt l->∃ l',o=.mp kt vt l')
 β:∀ v,v ∉ c'.dead->v ∉ c.dead/\∀ b e,c.β v=some (b,e)->c'.β v=some (b,e)/\∀ n,mP c.w b=some n->mP c'.w b=some n
mutual
theorem AC.mono{c c':Cx}(h:c.le c'):∀ (a:AV) (cs:List Value),AC c a cs->AC c' a cs
 | .d t x,cs,k=>by simp only[AC] at k ⊢;exact⟨k.1,k.2.1,k.2.2.mono h.cell h.S⟩
 | .own t v l,cs,k=>by
  simp only[AC] at k ⊢;obtain⟨k0,k1,a,cap,rfl,k2,k3⟩:=k;refine⟨k0,k1,a,cap,rfl,k2.mono h.cell h.S,λhd=>?_⟩;obtain⟨h1,h2⟩:=h.β v hd;rcases k3 h1 with h3|⟨b,off,h3,h4,n,h5,h6⟩
  ·exact .inl h3
  ·exact .inr ⟨b,off,h3,(h2 _ _ h4).1,n,(h2 _ _ h4).2 n h5,h6⟩
 | .nils,cs,k=>by simpa only[AC] using k
 | .ptr t id p,cs,k=>by
  simp only[AC] at k ⊢;obtain⟨b,off,rfl,k1,k2⟩:=k;refine⟨b,off,rfl,h.γ _ _ k1,λo ho=>?_⟩;obtain⟨o',h1,h2,_⟩:=h.ob id o ho ⟨b,k1⟩
  simp_all
 | .fptr t x,cs,k=>by
  simp only[AC] at k ⊢;obtain⟨k1,k0,b,off,rfl,k2⟩:=k;exact⟨k1,k0,b,off,rfl,k2.mono h.cell h.S⟩
 | .mem t id,cs,k=>by
  simp only[AC] at k ⊢;obtain⟨k0,b,k1,k2⟩:=k;refine⟨k0,b,h.γ _ _ k1,λo ho=>?_⟩;obtain⟨o',h1,_,h3,_⟩:=h.ob id o ho ⟨b,k1⟩;grind
 | .st ts l,cs,k=>by
  simp only[AC] at k ⊢;exact⟨k.1,k.2.1,kh.mono h l cs k.2.2⟩
 | .clo f l,cs,k=>by
  simp only[AC] at k ⊢;obtain⟨caps,rfl,k1⟩:=k;exact⟨caps,rfl,mV.mono h l caps k1⟩
 | .map kt vt id,cs,k=>by
  simp only[AC] at k ⊢;obtain⟨b,e,k1,k2,k3,k4⟩:=k;refine⟨b,e,h.γ _ _ k1,k2,k3,λo ho=>?_⟩;obtain⟨o',h1,_,_,h3⟩:=h.ob id o ho ⟨b,k1⟩;grind
 | .sub sl t id p lo n,cs,k=>by
  simp only[AC] at k ⊢;obtain⟨k0,b,off,cap,rfl,k1,k2⟩:=k;refine⟨k0,b,off,cap,rfl,h.γ _ _ k1,λo ho=>?_⟩;obtain⟨o',h1,h2,_⟩:=h.ob id o ho ⟨b,k1⟩
  simp_all
 | .yld id,cs,k=>by
  simp only[AC] at k ⊢;obtain⟨L,rfl,k1⟩:=k;exact⟨L,rfl,h.γ _ _ k1⟩
 | .gone,cs,k=>by simp[AC]
 | .undef,cs,k=>by simp[AC]
theorem kh.mono{c c':Cx}(h:c.le c'):∀ (l:List AV) (cs:List Value),kh c l cs->kh c' l cs
 | [],cs,k=>by simpa only[kh] using k
 | a::l,cs,k=>by
  simp only[kh] at k ⊢;obtain⟨c1,c2,rfl,k1,k2⟩:=k;exact⟨c1,c2,rfl,AC.mono h a c1 k1,kh.mono h l c2 k2⟩
theorem mV.mono{c c':Cx}(h:c.le c'):∀ (l:List AV) (cs:List Value),mV c l cs->mV c' l cs
 | [],cs,k=>by simpa only[mV] using k
 | a::l,cs,k=>by
  simp only[mV] at k ⊢;obtain⟨c1,c2,rfl,k1,k2⟩:=k;exact⟨c1,c2,rfl,AC.mono h a _ k1,mV.mono h l c2 k2⟩
end
theorem AR.mono{c c':Cx}(h:c.le c'){a:AV}{v:Value}(k:AR c a v):AR c' a v:=by
 cases a<;>simp only[AR] at k ⊢
 case d t x=>
  rcases k with⟨k1,k2,k3⟩|⟨ts,k1,k0,k2,k3⟩
  ·exact .inl ⟨k1,k2,k3.mono h.cell h.S⟩
  ·exact .inr ⟨ts,k1,k0,k2,k3.mono h.cell h.S⟩
 all_goals first|exact⟨k.1,AC.mono h _ _ k.2⟩|exact k
def il(c:Cx)(kt vt:Ty):Nat->List D->List MapEntry->Prop
 | _,[],[]=>True
 | j,x::l,e::es=>(e.born=j/\∃ k v,x=.st [k,v]/\wt kt k/\wt vt v/\fZ c.w c.S k e.key/\fZ c.w c.S v e.val)/\il c kt vt (j+1) l es
 | _,_,_=>False
def uA(c:Cx):AV->Value->Prop
 | .ptr _ id [],v=>∃ b,v=.pointer (some ⟨b,0,none⟩)/\c.γ id=some b
 | _,_=>False
def qx(c:Cx):List AV->List Value->Prop
 | [],[]=>True
 | a::l,v::vs=>uA c a v/\qx c l vs
 | _,_=>False
def jt(c:Cx):AV->Value->Prop
 | .d t x,v=>AR c (.d t x) v
 | .fptr t x,v=>AR c (.fptr t x) v
 | .ptr t id p,v=>uA c (.ptr t id p) v
 | .clo f l,v=>∃ caps:List Value,v=.func (.func f) #[] caps.toArray/\qx c l caps
 | _,_=>True
def uA.mono{c c':Cx}(hγ:∀ id b,c.γ id=some b->c'.γ id=some b){a:AV}{v:Value}(k:uA c a v):uA c' a v:=by
 unfold uA at k ⊢;all_goals grind
theorem qx.mono{c c':Cx}(hγ:∀ id b,c.γ id=some b->c'.γ id=some b):∀ {l:List AV} {vs:List Value},qx c l vs->qx c' l vs
 | [],[],_=>trivial
 | [],_::_,k=>k.elim
 | _::_,[],k=>k.elim
 | a::l,v::vs,k=>⟨k.1.mono hγ,qx.mono hγ k.2⟩
theorem jt.mono{c c':Cx}(hcell:∀ b o,c.S b o->c'.w.cell? ⟨b,o,none⟩=c.w.cell? ⟨b,o,none⟩)(hS:∀ b o,c.S b o->c'.S b o)(hγ:∀ id b,c.γ id=some b->c'.γ id=some b){a:AV}{v:Value}(k:jt c a v):jt c' a v:=by
 cases a<;>simp only[jt] at k ⊢
 case d t x=>
  simp only[AR] at k ⊢;rcases k with⟨k1,k2,k3⟩|⟨ts,k1,k0,k2,k3⟩
  ·exact .inl ⟨k1,k2,k3.mono hcell hS⟩
  ·exact .inr ⟨ts,k1,k0,k2,k3.mono hcell hS⟩
 case fptr t x=>
  simp only[AR,AC] at k ⊢;obtain⟨k4,k1,k0,b,off,e,k2⟩:=k;exact⟨k4,k1,k0,b,off,e,k2.mono hcell hS⟩
 case ptr t id p=>exact k.mono hγ
 case clo f l=>
  obtain⟨caps,e,k1⟩:=k;exact⟨caps,e,k1.mono hγ⟩
def Ax:Ex->Code
 | .normal=>.skip
 | .exit id=>.exit id
 | .ret=>.ret
def Zv(i:LpI)(r:Loop):Prop:=r.tmps.size=i.nt/\r.params.toList=i.ps/\r.assign=i.asg/\r.body=i.bdy
def Xw:Option Ex->Loop->Prop
 | none,r=>r.state=.ready/\r.pending=none
 | some e,r=>r.state=.done/\r.pending=some (Ax e)
def Ap(r r':Loop):Prop:=r'.tmps=r.tmps/\r'.params=r.params/\r'.assign=r.assign/\r'.body=r.body
def iX(w w':World)(b:Nat):Prop:=w'.heap[b]?=w.heap[b]?\/∃ r r',w.heap[b]?=some (Obj.loop r)/\w'.heap[b]?=some (Obj.loop r')/\Ap r r'
def iX.refl(w:World)(b:Nat):iX w w b:=.inl rfl
theorem iX.trans{w w1 w2:World}{b:Nat}(h:iX w w1 b)(k:iX w1 w2 b):iX w w2 b:=by
 rcases h with h|⟨r,r1,h1,h2,h3⟩<;>rcases k with k|⟨r',r2,k1,k2,k3⟩
 ·exact .inl (k.trans h)
 ·exact .inr ⟨r',r2,h.symm.trans k1,k2,k3⟩
 ·exact .inr ⟨r,r1,h1,k.trans h2,h3⟩
 ·rw[h2] at k1;cases k1;exact .inr ⟨r,r2,h1,k2,k3.1.trans h3.1,k3.2.1.trans h3.2.1,k3.2.2.1.trans h3.2.2.1,k3.2.2.2.trans h3.2.2.2⟩
def iX.row{w w':World}{b:Nat}(h:iX w w' b){cs:Array Value}(hr:bJ w b=some cs):w'.heap[b]?=w.heap[b]?:=by
 rcases h with h|⟨r,r',h1,_,_⟩
 ·exact h
 ·simp[bJ,h1] at hr
def cN(w w':World):Prop:=∀ b:Nat,(w.heap[b]?=some (Obj.deferred (some []))->w'.heap[b]?=some (Obj.deferred (some [])))/\((∃ r,w.heap[b]?=some (Obj.loop r))->∃ r,w'.heap[b]?=some (Obj.loop r))
def cN.refl(w:World):cN w w:=λ_=>⟨id,id⟩
def cN.trans{w w1 w2:World}(h:cN w w1)(k:cN w1 w2):cN w w2:=λb=>⟨λhb=>(k b).1 ((h b).1 hb),λhb=>(k b).2 ((h b).2 hb)⟩
def cj(lo:Nat)(w:World):Nat->List Deferred->Prop
 | _,[]=>True
 | hi,d::l=>∃ K,d={ target:=.collected K,args:=#[] }/\lo<=K/\K<hi/\w.heap[K]?=some (Obj.deferred (some []))/\cj lo w K l
theorem cj.mono{lo lo':Nat}{w w':World}(hlo:lo'<=lo)(h:cN w w'):∀ {l:List Deferred} {hi hi':Nat},hi<=hi'->cj lo w hi l->cj lo' w' hi' l
 | [],_,_,_,_=>trivial
 | d::l,hi,hi',hh,⟨K,h1,h2,h3,h4,h5⟩=>⟨K,h1,zCa hlo h2,zPa h3 hh,(h K).1 h4,cj.mono hlo h (zja K) h5⟩
theorem cj.append{lo mid:Nat}{w:World}(hm:lo<=mid):∀ {l l':List Deferred} {hi:Nat},mid<=hi->cj mid w hi l->cj lo w mid l'->cj lo w hi (l++l')
 | [],l',hi,hh,_,h=>cj.mono (zja _) (cN.refl w) hh h
 | d::l,l',hi,hh,⟨K,h1,h2,h3,h4,h5⟩,h=>⟨K,h1,zCa hm h2,h3,h4,cj.append hm h2 h5 h⟩
def kj(l:List Nat)(a:Act)(w:World)(a':Act)(w':World):Prop:=cN w w'/\∃ m,a'.defers=m++a.defers/\cj w.heap.size w' w'.heap.size m/\(4095∈l->m=[])
def kj.same{l:List Nat}{a a':Act}{w w':World}(hd:a'.defers=a.defers)(h:cN w w'):kj l a w a' w':=⟨h,[],by simpa using hd,trivial,λ_=>rfl⟩
def kj.less{l l':List Nat}{a a':Act}{w w':World}(hl:∀ i∈l',i∈l)(h:kj l a w a' w'):kj l' a w a' w':=by
 obtain⟨q1,m1,e1,p1,z1⟩:=h;exact⟨q1,m1,e1,p1,λhh=>z1 (hl _ hh)⟩
theorem kj.trans{l:List Nat}{a a1 a2:Act}{w w1 w2:World}(h:kj l a w a1 w1)(k:kj l a1 w1 a2 w2)(h1:w.heap.size<=w1.heap.size)(h2:w1.heap.size<=w2.heap.size):kj l a w a2 w2:=by
 obtain⟨q1,m1,e1,p1,z1⟩:=h;obtain⟨q2,m2,e2,p2,z2⟩:=k;refine⟨q1.trans q2,m2++m1,by rw[e2,e1,zOa],?_,λhh=>by rw[z1 hh,z2 hh];rfl⟩
 exact cj.append h1 h2 p2 (p1.mono (zja _) q2 (zja _))
def bB{a:Act}{d:Option Nat}{v:Value}:(a.put d v).defers=a.defers:=by cases d<;>rfl
def gH(c:Cx)(b:Nat):Ob->Prop
 | .one t v=>aq t=true/\AV.fits t v=true/\(∀ o,¬ c.S b o)/\∃ cs:List Value,bJ c.w b=some cs.toArray/\AC c v cs/\cs.length=t.size
 | .many t l=>aq t=true/\(∀ x∈l,wt t x)/\(∀ o,¬ c.S b o)/\∃ cs:List Value,bJ c.w b=some cs.toArray/\cG c.w c.S (D.flats l) cs
 | .mp kt vt l=>aq kt=true/\aq vt=true/\(∀ o,¬ c.S b o)/\∃ es:Array MapEntry,c.w.heap[b]?=some (.map es l.length)/\il c kt vt 0 l es.toList
 | .lp i p=>∃ r:Loop,c.w.heap[b]?=some (Obj.loop r)/\Zv i r/\(∀ t,t<i.nt->jt c (i.caps t) (r.tmps.getD t undef))/\Xw p r
structure Root where
 w:World
 S0:Nat->Nat->Prop
 sh:Nat->Prop
abbrev Root.heap(r:Root):Array Obj:=r.w.heap
def Root.Old(r:Root)(b:Nat):Prop:=b<r.heap.size/\¬ r.sh b
structure ld(r:Root)(w:World):Prop where
 tape:w.tape=r.w.tape
 os:w.os=r.w.os
 output:w.output=r.w.output
 sz:r.heap.size<=w.heap.size
 dr:r.w.drawn<=w.drawn
 old:∀ b,r.Old b->w.heap[b]?=r.w.heap[b]?
structure Rp(w0:Root)(S:Nat->Nat->Prop)(γ:Nat->Option Nat)(β:Nat->Option (Nat×Nat))(s:St)(a:Act)(w:World):Prop where
 ext:ld w0 w
 tms:∀ t,t<a.tmps.size->AR ⟨w,S,γ,β,s.ob,s.dead⟩ (s.tm t) (a.tmps.getD t undef)
 nt:a.tmps.size=s.nt
 tmu:∀ t,s.nt<=t->s.tm t=.undef
 obs:∀ id o b,s.ob id=some o->γ id=some b->gH ⟨w,S,γ,β,s.ob,s.dead⟩ b o
 γn:∀ id b,γ id=some b->¬ w0.Old b/\b<w.heap.size
 γi:∀ id id' b,γ id=some b->γ id'=some b->id=id'
 γf:∀ id,s.base+4096<=id->γ id=none
 βn:∀ v b e,v ∉ s.dead->β v=some (b,e)->¬ w0.Old b/\b<w.heap.size/\∀ o,e<=o->¬ S b o
 βi:∀ v v' b e e',v ∉ s.dead->v' ∉ s.dead->β v=some (b,e)->β v'=some (b,e')->v=v'
 βγ:∀ v id b e,v ∉ s.dead->β v=some (b,e)->γ id≠some b
 βf:∀ v,s.base+4096<=v->β v=none
 Sb:∀ b o,S b o->b<w.heap.size
 So:∀ b o,S b o->w0.Old b->w0.S0 b o
structure Fm(s:St)(S:Nat->Nat->Prop)(γ:Nat->Option Nat)(a:Act)(w:World)(S':Nat->Nat->Prop)(γ':Nat->Option Nat)(a':Act)(w':World):Prop where
 sub:∀ b o,S b o->S' b o
 cell:∀ b o,S b o->w'.cell? ⟨b,o,none⟩=w.cell? ⟨b,o,none⟩
 slots:∀ t∈s.lkS,a'.tmps.getD t undef=a.tmps.getD t undef
 objs:∀ id∈s.lkO,∀ b,γ id=some b->γ' id=some b/\iX w w' b
 sz:w.heap.size<=w'.heap.size
 gam:∀ id b,γ id=some b->γ' id=some b
 dfs:kj s.lkO a w a' w'
structure Sk(s s':St):Prop where
 lkS:s'.lkS=s.lkS
 lkO:s'.lkO=s.lkO
 nt:s'.nt=s.nt
def Sk.refl(s:St):Sk s s:=⟨rfl,rfl,rfl⟩
theorem Sk.trans{a b c:St}(h:Sk a b)(k:Sk b c):Sk a c:=⟨k.lkS.trans h.lkS,k.lkO.trans h.lkO,k.nt.trans h.nt⟩
end Sy
end
noncomputable section
namespace Sy
open Go
def cz:Ty->Bool
 | .st _=>true
 | .arr _ _=>true
 | _=>false
mutual
def Ty.high:Ty->Nat
 | .st l=>Ty.highs l+1
 | .arr _ t=>t.high+1
 | .sl t=>t.high+1
 | .tup l=>Ty.highs l+1
 | _=>1
def Ty.highs:List Ty->Nat
 | []=>0
 | t::l=>max t.high (Ty.highs l)
end
def Dr:D->Value->Bool
 | .int k n,.int k' n'=>decide (k=k')&&decide (n=n')
 | .bool b,.bool b'=>b==b'
 | .str s,.string s'=>decide (s=s')
 | .sl l,.slice a len cap=>l.isEmpty&&a.isNone&&decide (len=0)&&decide (cap=0)
 | _,_=>false
def cr:List D->List Value->Bool
 | [],[]=>true
 | d::l,v::l'=>Dr d v&&cr l l'
 | _,_=>false
def oE(P:Program)(t:TypeId)(ty:Ty):Bool:=
 match P.info? t with
 | some i=>decide (i.size=ty.size)&&decide (i.bytes<=16384)&&decide (i.size<=4096)&&(match i.zero with|some z=>cr (aB ty).flat z.cells.toList&&(match z with|.agg _=>cz ty|_=>!cz ty)|none=>false)
 | none=>false
mutual
def bD(P:Program):Ty->TypeId->Bool
 | .int k,t=>oE P t (.int k)&&(match P.underlying t with|some (.int k')=>decide (k=k')|_=>false)
 | .bool,t=>oE P t .bool&&(match P.underlying t with|some .bool=>true|_=>false)
 | .str,t=>oE P t .str&&(match P.underlying t with|some .string=>true|_=>false)
 | .st ts,t=>oE P t (.st ts)&&!P.stoodInHeld t&&!P.eqGuardType P.depth t&&(match P.underlying t with|some (.struct fs)=>fL P ts fs.toList 0|_=>false)
 | .arr n e,t=>oE P t (.arr n e)&&!P.eqGuardType P.depth t&&(match P.underlying t with|some (.array m u)=>decide (m=n)&&bD P e u|_=>false)
 | .sl e,t=>oE P t (.sl e)&&(match P.underlying t with|some (.slice u)=>bD P e u|_=>false)
 | _,_=>false
def fL(P:Program):List Ty->List Field->Nat->Bool
 | [],[],_=>true
 | t :: ts, f :: fs, off => decide (f.offset = off) && decide (f.name ≠ "_") && decide (0 < t.size) && bD P t f.type && fL P ts fs (off + t.size)
 | _,_,_=>false
end
def Np(P:Program)(ptys:List Ty)(rty:Ty)(f:FuncId)(xs:List D)(y:D):Prop:=
 ∀ (w:World) (S:Nat->Nat->Prop) (vs:List Value),(∀ b o,S b o->b<w.heap.size)->ff ptys xs->vs.length=xs.length->(∀ (i:Nat) (x:D) (v:Value),xs[i]?=some x->vs[i]?=some v->fZ w S x v) ->
  Calls P f vs.toArray w λe w'=>∃ v,e=.returned v/\(∃ os d,w.drawn<=d/\w'=grown w os d)/\wt rty y/\DR w' (λb o=>S b o\/(w.heap.size<=b/\b<w'.heap.size)) y v
def LB(w:World)(S:Nat->Nat->Prop)(x:D)(b:Nat):Prop:=(∀ o,¬ S b o)/\∃ cs:List Value,bJ w b=some cs.toArray/\cG w S x.flat cs
def D2(b:Nat):Value:=.pointer (some ⟨b,0,none⟩)
def Nq(P:Program)(ptys:List Ty)(rty:Ty)(f:FuncId)(xs:List D)(y:D)(k:Nat):Prop:=
 ∀ (w:World) (S:Nat->Nat->Prop) (vs:List Value) (bs:List Nat),(∀ b o,S b o->b<w.heap.size)->ff ptys xs->bs.length=k->vs.length+k=xs.length->(∀ (i j b:Nat),bs[i]?=some b->bs[j]?=some b->i=j) ->
  (∀ (i:Nat) (x:D) (v:Value),xs[i]?=some x->vs[i]?=some v->fZ w S x v)->(∀ (i:Nat) (x:D) (b:Nat),xs[vs.length+i]?=some x->bs[i]?=some b->LB w S x b) ->
  Calls P f (vs++bs.map D2).toArray w λe w'=>∃ v,e=.returned v/\(∃ os d,w.drawn<=d/\w'=grown w os d)/\wt rty y/\DR w' (λb o=>S b o\/(w.heap.size<=b/\b<w'.heap.size)) y v
def Hi(P:Program):Nat->List Ty->Ty->FuncId->List D->D->Prop
 | 0,ptys,rty,f,xs,y=>Np P ptys rty f xs y
 | k+1,ptys,rty,f,xs,y=>Nq P ptys rty f xs y (k+1)
def ES(P:Program)(f:FuncId)(g:Ann->(R:Type)->St->List AV->(AV->St->Option R)->Option R):Prop:=
 ∀ (ann:Ann) (R:Type) (w0:Root) (S:Nat->Nat->Prop) (γ:Nat->Option Nat) (β:Nat->Option (Nat×Nat)) (s:St) (a:Act) (w:World) (avs:List AV) (vs:List Value) (K:AV->St->Option R) (r:R),
  Rp w0 S γ β s a w->avs.length=vs.length->(∀ (i:Nat) (x:AV) (v:Value),avs[i]?=some x->vs[i]?=some v->AR ⟨w,S,γ,β,s.ob,s.dead⟩ x v)->g ann R s avs K=some r ->
  Calls P f vs.toArray w λe w'=>∃ v y s' S' γ' β',e=.returned v/\K y s'=some r/\Rp w0 S' γ' β' s' a w'/\AR ⟨w',S',γ',β',s'.ob,s'.dead⟩ y v/\Fm s S γ a w S' γ' a w'/\Sk s s'
abbrev FW(ro:Option Nat):Fence:={ Fence.wide with round:=ro }
def Fu:Ex->Exit
 | .normal=>.normal
 | .exit i=>.exit i
 | .ret=>.ret
def EG(P:Program)(f:Code->Ann->(R:Type)->St->(Ex->St->Option R)->Option R):Prop:=
 ∀ (ro:Option Nat) (nn:Nat) (w0:Root) (c:Code) (ann:Ann) (R:Type) (Q:Exit->Act->World->Prop) (S:Nat->Nat->Prop) (γ:Nat->Option Nat) (β:Nat->Option (Nat×Nat)) (s:St) (a:Act) (w:World) (k:Ex->St->Option R) (r:R),
  (∀ l,ro=some l->∃ r0,w.heap[l]?=some (Obj.loop r0))->Rp w0 S γ β s a w->f c ann R s k=some r ->
  (∀ e s' S' γ' β' a' w',Rp w0 S' γ' β' s' a' w'->Fm s S γ a w S' γ' a' w'->Sk s s'->k e s'=some r->Q (Fu e) a' w')->c.wpIn (FW ro) nn P Q a w
structure EnvOk(P:Program)(E:Env):Prop where
 lay:∀ t ty,E.L t=some ty->(∃ ts,ty=.tup ts)\/bD P ty t=true
 high:∀ t ty,E.L t=some ty->ty.high<=1000
 flat:∀ t ty,E.L t=some ty->aq ty=true
 sig : ∀ f ptys rty, E.sig f = some (ptys, rty) -> bi ptys = true /\ (aq rty = true \/ ∃ ts, rty = .tup ts /\ bi ts = true) /\ ∃ fn, P.funcs[f]? = some fn /\ (fn.name == "runtime.NumGoroutine") = false /\ fn.body.isSome = true
 call:∀ f ptys rty xs y,E.sig f=some (ptys,rty)->E.call f xs=some y->ff ptys xs->Hi P (E.free f) ptys rty f xs y
 mixed:P.follows .mixedOrders=true
 lp:∀ (α β:Type) (body:α->Option (Sum α β)) (x:α) (y:β),E.lp body x=some y->∃ n,oH body n x=some y
 mapL:∀ t kt vt,E.mapL t=some (kt,vt)->bI kt=true/\∃ K V,P.underlying t=some (.map K V)/\bD P kt K=true/\bD P vt V=true/\kt.high<=1000
 inl : ∀ f g, E.inl f = some g -> (∃ fn, P.funcs[f]? = some fn /\ (fn.name == "runtime.NumGoroutine") = false /\ fn.body.isSome = true) /\ ES P f g
 cod:EG P E.cod
def fi{P:Program}{t:TypeId}{ty:Ty}(h:oE P t ty=true):∃ i z,P.info? t=some i/\i.size=ty.size/\(i.bytes<=16384/\ty.size<=4096)/\i.zero=some z/\cr (aB ty).flat z.cells.toList=true/\((∃ cs,z=.agg cs)↔cz ty=true):=by
 unfold oE at h;all_goals grind
def gn{P:Program}{t:TypeId}{ty:Ty}(h:bD P ty t=true):oE P t ty=true:=by
 cases ty<;>simp only[bD,zaa] at h<;>first
  | exact h.1
  | exact h.1.1
  | exact h.1.1.1
  | cases h
def vr{P:Program}{t:TypeId}:∀ {ty:Ty},bD P ty t=true->(∃ ts,ty=.tup ts)\/ty=.fn->False:=by
 grind [bD]
def bS{P:Program}{t:TypeId}{ty:Ty}(h:bD P ty t=true)(w:World):(sizeOf t).run P w=.ok ty.size w:=by
 obtain⟨i,z,h1,h2,_⟩:=fi (gn h);exact Bo (by rw[h1];simp[h2]) w
def Cs{P:Program}{t:TypeId}{ty:Ty}(h:bD P ty t=true)(w:World):(isAgg t).run P w=.ok (cz ty) w:=by
 have key:∀ d,P.underlying t=some d->(isAgg t).run P w=.ok (match d with|.struct _|.array _ _=>true|_=>false) w:=λd hd=>by
  unfold isAgg;rw[zha,run_underlying hd w];cases d<;>rfl
 cases ty<;>simp only[bD,zaa] at h
 case int k=>obtain⟨_,h⟩:=h;split at h<;>first|(rename_i hu;rw[key _ hu];rfl)|cases h
 case bool=>obtain⟨_,h⟩:=h;split at h<;>first|(rename_i hu;rw[key _ hu];rfl)|cases h
 case str=>obtain⟨_,h⟩:=h;split at h<;>first|(rename_i hu;rw[key _ hu];rfl)|cases h
 case st ts=>obtain⟨_,h⟩:=h;split at h<;>first|(rename_i hu;rw[key _ hu];rfl)|cases h
 case arr n e=>obtain⟨_,h⟩:=h;split at h<;>first|(rename_i hu;rw[key _ hu];rfl)|cases h
 case sl e=>obtain⟨_,h⟩:=h;split at h<;>first|(rename_i hu;rw[key _ hu];rfl)|cases h
 all_goals cases h
def iD{P:Program}{t:TypeId}{ts:List Ty}(h:bD P (.st ts) t=true):∃ fs,P.underlying t=some (.struct fs)/\fL P ts fs.toList 0=true:=by
 simp only[bD,zaa] at h;all_goals grind
def dP{P:Program}{t:TypeId}{n:Nat}{e:Ty}(h:bD P (.arr n e) t=true):∃ u,P.underlying t=some (.array n u)/\bD P e u=true:=by
 simp only[bD,zaa] at h;all_goals grind
def iC{P:Program}{t:TypeId}{e:Ty}(h:bD P (.sl e) t=true):∃ u,P.underlying t=some (.slice u)/\bD P e u=true:=by
 simp only[bD,zaa] at h;all_goals grind
def jo{P:Program}{t:TypeId}{k:IntKind}(h:bD P (.int k) t=true):P.underlying t=some (.int k):=by
 simp only[bD,zaa] at h;all_goals grind
theorem rQ{P:Program}:∀ {ts:List Ty} {fs:List Field} {off i:Nat} {t:Ty},fL P ts fs off=true->ts[i]?=some t->∃ f,fs[i]?=some f/\f.offset=off+Ty.sizes (ts.take i)/\0<t.size/\bD P t f.type=true
 | [],_,_,_,_,_,h=>by simp at h
 | u::ts,[],_,_,_,h,_=>by simp[fL] at h
 | u::ts,f::fs,off,i,t,h,hi=>by
  simp only[fL,zaa,decide_eq_true_eq] at h;obtain⟨⟨⟨⟨h1,_⟩,h2⟩,h3⟩,h4⟩:=h;cases i with
  | zero=>simp at hi;subst hi;exact⟨f,rfl,by simp[Ty.sizes,h1],h2,h3⟩
  | succ i=>
   simp at hi;obtain⟨g,k1,k2,k3⟩:=rQ h4 hi
   simp_all [k1,k2,Ty.sizes,zBb]
def nag(cs:List Value):Prop:=∀ v∈cs,v.oneCell'=true
theorem cG.nag{w:World}{S:Nat->Nat->Prop}{ds:List D}{cs:List Value}(h:cG w S ds cs):nag cs:=by
 intro v hv;obtain⟨i,hi,he⟩:=zTa hv;have h1:cs[i]?=some v:=by simp_all
 have h2:i<ds.length:=by rw[h.1];exact hi
 have h3:=h.2 i _ v (zca h2) h1;revert h3;generalize ds[i]=d;intro h3;cases h3<;>rfl
def A4{a b:List Value}(h:nag a)(k:nag b):nag (a++b):=λv hv=>by
 rcases zwa.1 hv with h1|h1
 ·exact h v h1
 ·exact k v h1
mutual
theorem gR{c:Cx}:∀ (a:AV) (t:Ty) (cs:List Value),AV.fits t a=true->AC c a cs->cs.length=t.size/\nag cs
 | .d t' x,t,cs,hf,h=>by
  have hf':t.beq t'=true:=by cases t<;>simpa only[AV.fits] using hf
  rw[Ty.eq_of_beq _ _ hf'];simp only[AC] at h;exact⟨by rw[<-h.2.2.1];exact ci _ _ h.1 h.2.1,h.2.2.nag⟩
 | .own t' v l,t,cs,hf,h=>by
  cases t<;>simp only[AV.fits] at hf<;>first|cases hf|skip
  simp only[AC] at h;obtain⟨_,_,a,cap,rfl,_⟩:=h;exact⟨rfl,λv hv=>by simp at hv;subst hv;rfl⟩
 | .nils,t,cs,hf,h=>by
  cases t<;>simp only[AV.fits] at hf<;>first|cases hf|skip
  simp only[AC] at h;subst h;exact⟨rfl,λv hv=>by simp at hv;subst hv;rfl⟩
 | .st ts' l,t,cs,hf,h=>by
  cases t<;>simp only[AV.fits] at hf<;>first|cases hf|skip
  rename_i ts;simp only[zaa] at hf;simp only[AC] at h;simp only[Ty.size];exact BJ l ts cs hf.2 h.2.2
 | .ptr ..,t,cs,hf,_=>by cases t<;>simp[AV.fits] at hf
 | .fptr ..,t,cs,hf,_=>by cases t<;>simp[AV.fits] at hf
 | .mem ..,t,cs,hf,_=>by cases t<;>simp[AV.fits] at hf
 | .clo ..,t,cs,hf,_=>by cases t<;>simp[AV.fits] at hf
 | .map ..,t,cs,hf,_=>by cases t<;>simp[AV.fits] at hf
 | .sub ..,t,cs,hf,_=>by cases t<;>simp[AV.fits] at hf
 | .yld ..,t,cs,hf,_=>by cases t<;>simp[AV.fits] at hf
 | .gone,t,cs,hf,_=>by cases t<;>simp[AV.fits] at hf
 | .undef,t,cs,hf,_=>by cases t<;>simp[AV.fits] at hf
theorem BJ{c:Cx}:∀ (l:List AV) (ts:List Ty) (cs:List Value),AV.fitss ts l=true->kh c l cs->cs.length=Ty.sizes ts/\nag cs
 | [],ts,cs,hf,h=>by
  cases ts<;>simp only[AV.fitss] at hf<;>first|cases hf|skip
  simp only[kh] at h;subst h;exact⟨rfl,λv hv=>by simp at hv⟩
 | a::l,ts,cs,hf,h=>by
  cases ts<;>simp only[AV.fitss] at hf<;>first|cases hf|skip
  simp only[zaa] at hf;simp only[kh] at h;obtain⟨c1,c2,rfl,h1,h2⟩:=h;obtain⟨k1,k2⟩:=gR a _ c1 hf.1 h1;obtain⟨k3,k4⟩:=BJ l _ c2 hf.2 h2;exact⟨by simp[Ty.sizes,k1,k3],A4 k2 k4⟩
end
def ga(t:Ty)(cs:List Value)(v:Value):Prop:=v.cells.toList=cs/\(cz t=true->∃ xs,v=.agg xs)/\(cz t=false->∀ xs,v≠.agg xs)
mutual
theorem aL{P:Program}:∀ (ty:Ty) (t:TypeId),bD P ty t=true->aq ty=true
 | .int _,_,_=>rfl
 | .bool,_,_=>rfl
 | .str,_,_=>rfl
 | .st ts,t,h=>by obtain⟨fs,_,h2⟩:=iD h;simp only[aq];exact qO ts _ _ h2
 | .arr n e,t,h=>by obtain⟨u,_,h2⟩:=dP h;simp only[aq];exact aL e u h2
 | .sl e,t,h=>by obtain⟨u,_,h2⟩:=iC h;simp only[aq];exact aL e u h2
 | .tup _,t,h=>by simp[bD] at h
 | .fn,t,h=>by simp[bD] at h
theorem qO{P:Program}:∀ (ts:List Ty) (fs:List Field) (off:Nat),fL P ts fs off=true->bi ts=true
 | [],_,_,_=>rfl
 | t::ts,[],_,h=>by simp[fL] at h
 | t::ts,f::fs,off,h=>by
  simp only[fL,zaa] at h;simp only[bi,zaa];exact⟨aL t _ h.1.2,qO ts fs _ h.2⟩
end
def nN{t:Ty}{x:D}{v:Value}(h:wt t x)(hn:aq t=true)(hs:P1 x v):(cz t=true->∃ xs,v=.agg xs)/\(cz t=false->∀ xs,v≠.agg xs):=by
 cases t<;>simp only[wt] at h
 case int k=>obtain⟨n,rfl⟩:=h;exact⟨λh=>by simp[cz] at h,λ_=>hs⟩
 case bool=>obtain⟨n,rfl⟩:=h;exact⟨λh=>by simp[cz] at h,λ_=>hs⟩
 case str=>obtain⟨n,rfl⟩:=h;exact⟨λh=>by simp[cz] at h,λ_=>hs⟩
 case st ts=>obtain⟨n,rfl,_⟩:=h;exact⟨λ_=>hs,λh=>by simp[cz] at h⟩
 case arr m ts=>obtain⟨n,rfl,_⟩:=h;exact⟨λ_=>hs,λh=>by simp[cz] at h⟩
 case sl ts=>obtain⟨n,rfl,_⟩:=h;exact⟨λh=>by simp[cz] at h,λ_=>hs⟩
 case tup ts=>simp[aq] at hn
def si{t:Ty}{x:D}{v:Value}(h:wt t x)(hn:aq t=true)(hs:(cz t=true->∃ xs,v=.agg xs)/\(cz t=false->∀ xs,v≠.agg xs)):P1 x v:=by
 cases t<;>simp only[wt] at h
 case int k=>obtain⟨n,rfl⟩:=h;exact hs.2 rfl
 case bool=>obtain⟨n,rfl⟩:=h;exact hs.2 rfl
 case str=>obtain⟨n,rfl⟩:=h;exact hs.2 rfl
 case st ts=>obtain⟨n,rfl,_⟩:=h;exact hs.1 rfl
 case arr m ts=>obtain⟨n,rfl,_⟩:=h;exact hs.1 rfl
 case sl ts=>obtain⟨n,rfl,_⟩:=h;exact hs.2 rfl
 case tup ts=>simp[aq] at hn
def yc{c:Cx}{t:Ty}{a:AV}{v:Value}(hf:AV.fits t a=true)(hn:aq t=true)(h:AR c a v):AC c a v.cells.toList/\ga t v.cells.toList v:=by
 cases a
 case d t' x=>
  have hf':t.beq t'=true:=by simp_all [AV.fits]
  have he:=Ty.eq_of_beq _ _ hf';subst he;simp only[AR] at h;rcases h with⟨h1,h2,h3⟩|⟨ts,rfl,_⟩
  ·refine⟨by simp only[AC];exact⟨h2,h1,h3.2⟩,rfl,nN h2 h1 h3.1⟩
  ·simp[aq] at hn
 case own t' v' l=>
  cases t<;>simp only[AV.fits] at hf<;>first|cases hf|skip
  simp only[AR] at h;exact⟨h.2,rfl,by simp[cz],λ_=>h.1⟩
 case nils=>
  cases t<;>simp only[AV.fits] at hf<;>first|cases hf|skip
  simp only[AR] at h;exact⟨h.2,rfl,by simp[cz],λ_=>h.1⟩
 case st ts l=>
  cases t<;>simp only[AV.fits] at hf<;>first|cases hf|skip
  simp only[AR] at h;exact⟨h.2,rfl,λ_=>h.1,by simp[cz]⟩
 all_goals simp_all [AV.fits]
def uS{c:Cx}{t:Ty}{a:AV}{v:Value}{cs:List Value}(hf:AV.fits t a=true)(h:AC c a cs)(hv:ga t cs v):AR c a v:=by
 obtain⟨hv1,hv2⟩:=hv;cases a
 case d t' x=>
  have hf':t.beq t'=true:=by simp_all [AV.fits]
  have he:=Ty.eq_of_beq _ _ hf';subst he;simp only[AC] at h;simp only[AR];exact .inl ⟨h.2.1,h.1,si h.1 h.2.1 hv2,by rw[hv1];exact h.2.2⟩
 case own t' v' l=>
  cases t<;>simp only[AV.fits] at hf<;>first|cases hf|skip
  simp only[AR];exact⟨hv2.2 rfl,by rw[hv1];exact h⟩
 case nils=>
  cases t<;>simp only[AV.fits] at hf<;>first|cases hf|skip
  simp only[AR];exact⟨hv2.2 rfl,by rw[hv1];exact h⟩
 case st ts l=>
  cases t<;>simp only[AV.fits] at hf<;>first|cases hf|skip
  simp only[AR];exact⟨hv2.1 rfl,by rw[hv1];exact h⟩
 all_goals simp_all [AV.fits]
def jq{P:Program}{t:Ty}{T:TypeId}(hl:bD P t T=true){w:World}{b off:Nat}{cs:List Value}(hlen:cs.length=t.size)(hn:nag cs)
  (hc:∀ (i:Nat) (c:Value),cs[i]?=some c->w.cell? ⟨b,off+i,none⟩=some c):∃ v,(Instr.loadAt T (.pointer (some ⟨b,off,none⟩))).run P w=.ok v w/\ga t cs v:=by
 unfold Instr.loadAt Instr.sureAddr;simp only[pure_bind];unfold loadVar;rw[zha,Cs hl,zea];cases ha:cz t
 ·have h1:cs.length=1:=by
   rw[hlen];cases t<;>simp[cz] at ha<;>first|rfl|(exfalso;exact vr hl (.inl ⟨_,rfl⟩))
  match cs,h1 with
  | [c],_=>
   refine⟨c,?_,?_⟩
   ·have:=hc 0 c rfl
    simp_all
   ·have h2:=hn c (by simp)
    refine⟨?_,?_,?_⟩
    ·cases c<;>simp_all [Value.cells,Value.oneCell']
    ·simp_all
    ·grind [Value.oneCell']
 ·have h2:=run_loadCells_list (P:=P) w ⟨b,off,none⟩ cs (λj v hv=>by rw[cO];exact hc j v hv)
  rw[hlen] at h2;refine⟨.agg cs.toArray,?_,rfl,λ_=>⟨_,rfl⟩,by rw[ha];intro h;cases h⟩
  simp only[if_true,zha,bS hl,zea,h2,zpa]
def oQ{P:Program}{t:Ty}{T:TypeId}(hl:bD P t T=true){w:World}{b off:Nat}{c:Array Value}{v:Value}{cs:List Value}(hr:bJ w b=some c)(hv:ga t cs v)(hlen:cs.length=t.size)(hn:nag cs)(hb:off+cs.length<=c.size) :
  (Instr.storeAt T (.pointer (some ⟨b,off,none⟩)) v).run P w=.ok () (putAt w b off cs.toArray):=by
 unfold Instr.storeAt Instr.sureAddr;simp only[pure_bind];unfold storeVar;have h1:v.cells.size=t.size:=by rw[<-zGb,hv.1,hlen]
 have h2:=cZ (P:=P) b off cs 0 w c hr (by omega) (by
  rw[zra];intro x hx;have:=hn x hx;cases x<;>simp_all [Value.oneCell',lH])
 simp only[z2b] at h2;simp only[zha,bS hl,zea,h1,ne_eq,not_true_eq_false,if_false,hv.1,h2]
end Sy
end
end Go.Proofs.YtpahompifldeeaaGreat
