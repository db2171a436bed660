/- Part 11 of the proof that HullMoves answers true at every input -/
import Derived.Test.YtjjjkojfijpeeaaGreatMoves09
import Derived.Test.YtjjjkojfijpeeaaGreatMoves10
set_option linter.unusedVariables false
set_option linter.unusedSimpArgs false
set_option linter.unnecessarySimpa false
section
set_option linter.unusedVariables false
namespace Go.Proofs.YtjjjkojfijpeeaaGreat.Sy
open Go Go.Proofs Go.Sort Go.Lib
theorem sq:∀ (l:List D) (x y z:D),(x::l).getLast?=some z->ka x (l++[y])=if y.beq z then ka x l else ka x l++[y]
 | [],x,y,z,h=>by
  simp at h
  subst h
  simp only[List.nil_append,ka]
 | w::l,x,y,z,h=>by
  have h':(w::l).getLast?=some z:=by simpa [List.getLast?_cons_cons] using h
  have ih:=sq l w y z h'
  simp only[List.cons_append,ka]
  rw[ih]
  split<;>split<;>rfl
theorem wU{l:List D}{j:Nat}{x y:D}(hx:l[j]?=some x)(hy:l[j+1]?=some y):jN (l.take (j+2))=if y.beq x then jN (l.take (j+1)) else jN (l.take (j+1))++[y]:=by
 cases l with
 | nil=>simp at hx
 | cons a l=>
  simp only[List.getElem?_cons_succ] at hy
  have e1:(a::l).take (j+2)=a::(l.take j++[y]):=by
   rw[List.take_succ_cons,List.take_add_one,hy];rfl
  have hlast:(a::l.take j).getLast?=some x:=by
   have hj:j<(a::l).length:=(List.getElem?_eq_some_iff.1 hx).1
   have e2:(a::l).take (j+1)=a::l.take j:=rfl
   rw[<-e2,List.getLast?_eq_getElem?,List.length_take]
   rw[show min (j+1) (a::l).length-1=j by omega,List.getElem?_take,if_pos (Nat.lt_succ_self j)]
   exact hx
  rw[e1]
  have:=sq (l.take j) a y x hlast
  simp only[jN,List.take_succ_cons]
  rw[this]
  split<;>rfl
theorem qb(x:D):∀ (l:List D),∀ y∈ka x l,y∈l
 | [],y,h=>by simp[ka] at h
 | z::l,y,h=>by
  simp only[ka] at h
  split at h
  ·exact List.mem_cons_of_mem _ (qb z l y h)
  ·rcases List.mem_cons.1 h with rfl|h
   ·exact List.mem_cons_self
   ·exact List.mem_cons_of_mem _ (qb z l y h)
theorem xa:∀ (l:List D),∀ y∈jN l,y∈l
 | [],y,h=>by simp[jN] at h
 | x::l,y,h=>by
  rcases List.mem_cons.1 h with rfl|h
  ·exact List.mem_cons_self
  ·exact List.mem_cons_of_mem _ (qb x l y h)
theorem qo{l:List D}(h:l.length<2):jN l=l:=by
 match l,h with
 | [],_=>rfl
 | [x],_=>rfl
def HL(e:Ty)(W:World)(b off:Nat)(M:List D):Prop:=(∃ row,bE W b=some row/\off+M.length*e.size<=row.size)/\∀ i d,(D.flats M)[i]?=some d->W.cell? ⟨b,off+i,none⟩=some (bn d)
theorem HL.lt{e:Ty}{W:World}{b off:Nat}{M:List D}(h:HL e W b off M):b<W.heap.size:=by
 obtain⟨⟨row,h1,_⟩,_⟩:=h
 unfold bE at h1
 cases hb:W.heap[b]? with
 | none=>rw[hb] at h1;cases h1
 | some o=>exact(Array.getElem?_eq_some_iff.1 hb).1
theorem HL.grow{e:Ty}{W:World}{b off:Nat}{M:List D}(h:HL e W b off M)(os:List Obj)(d:Nat):HL e (aA W os d) b off M:=by
 have hb:=h.lt
 obtain⟨⟨row,h1,h2⟩,h3⟩:=h
 have e1:bE (aA W os d) b=bE W b:=Bf hb
 refine⟨⟨row,by rw[e1];exact h1,h2⟩,fun i x hx=>?_⟩
 rw[<-h3 i x hx]
 simp only[World.cell?,co hb]
section
variable{e:Ty}(hce:ba e=true)(hne:am e=true)
include hce hne
theorem HL.crl{W:World}{b off:Nat}{M:List D}(h:HL e W b off M)(hwt:∀ x∈M,wt e x){j m cap:Nat}(hm:m=M.length-j)(hj:j<=M.length)(hc:m<=cap) :
  CR W (fun b' _=>b'=b) (.sl (M.drop j)) (.slice (some ⟨b,off+j*e.size,none⟩) m cap):=by
 have hlen:(M.drop j).length=m:=by rw[List.length_drop,hm]
 rw[<-hlen]
 have hlf:=fl hce (M.drop j) fun x hx=>hwt x (List.mem_of_mem_drop hx)
 have hfl:D.flats (M.drop j)=(D.flats M).drop (j*e.size):=by
  have h1:D.flats M=D.flats (M.take j)++D.flats (M.drop j):=by rw[<-bP,List.take_append_drop]
  have h2:(D.flats (M.take j)).length=j*e.size:=by
   rw[ay hne _ fun x hx=>hwt x (List.mem_of_mem_take hx),List.length_take,Nat.min_eq_left hj]
  rw[h1,List.drop_append,h2,Nat.sub_self,List.drop_zero,List.drop_of_length_le (Nat.le_of_eq h2),List.nil_append]
 refine CR.of_elems (b:=b) (off:=off+j*e.size) (.inr rfl) (by omega) ⟨(D.flats (M.drop j)).map bn,(bJ hlf).2 rfl,fun i c hc=>⟨rfl,?_⟩⟩
 rw[List.getElem?_map] at hc
 cases hd:(D.flats (M.drop j))[i]? with
 | none=>rw[hd] at hc;cases hc
 | some d=>
  rw[hd] at hc
  simp only[Option.map_some,Option.some.injEq] at hc
  subst hc
  rw[hfl,List.getElem?_drop] at hd
  have:=h.2 _ d hd
  rw[show off+j*e.size+i=off+(j*e.size+i) by omega]
  exact this
omit hce in
theorem HL.set{W:World}{b off:Nat}{M:List D}(h:HL e W b off M)(hwt:∀ x∈M,wt e x){k:Nat}(hk:k<M.length)(hp:0<e.size){x:D}(hx:wt e x) :
  HL e (bo W b (off+k*e.size) (x.flat.map bn).toArray) b off (M.set k x):=by
 obtain⟨⟨row,h1,h2⟩,h3⟩:=h
 have hxl:x.flat.length=e.size:=bL e x hx hne
 have hkm:k*e.size+e.size<=M.length*e.size:=by
  have:(k+1)*e.size<=M.length*e.size:=Nat.mul_le_mul_right _ hk
  rwa [Nat.add_mul,Nat.one_mul] at this
 have hs:off+k*e.size+(x.flat.map bn).toArray.size<=row.size:=by simp[hxl];omega
 refine⟨⟨_,ew h1,?_⟩,fun i d hd=>?_⟩
 ·rw[List.length_set]
  have:(cX row (off+k*e.size) (x.flat.map bn).toArray).size=row.size:=by
   simp only[cX,Array.size_append,Array.size_extract,List.size_toArray,List.length_map,hxl];omega
  omega
 ·rw[bQ _ (ew h1),g7 _ _ _ _ hs]
  have hu:∀ y∈M.set k x,y.flat.length=e.size:=fun y hy=>by
   rcases List.mem_or_eq_of_mem_set hy with hy|rfl
   ·exact bL e y (hwt y hy) hne
   ·exact hxl
  have hold:=h3 i
  rw[gW hp _ hu] at hd
  rw[gW hp _ fun y hy=>bL e y (hwt y hy) hne] at hold
  have hlt:i%e.size<e.size:=Nat.mod_lt _ hp
  have hdm:e.size*(i/e.size)+i%e.size=i:=Nat.div_add_mod i e.size
  rw[Nat.mul_comm] at hdm
  rw[List.getElem?_set] at hd
  by_cases hik:k=i/e.size
  ·rw[if_pos hik,if_pos hk] at hd
   simp only[Option.bind_some] at hd
   rw[<-hik] at hdm
   rw[if_neg (by omega),if_pos (by simp[hxl];omega)]
   have e1:off+i-(off+k*e.size)=i%e.size:=by omega
   rw[e1]
   simp[hd]
  ·rw[if_neg hik] at hd
   have:=hold d hd
   rw[bQ _ h1] at this
   rw[<-this]
   rcases Nat.lt_or_ge (i/e.size) k with c|c
   ·have:(i/e.size+1)*e.size<=k*e.size:=Nat.mul_le_mul_right _ c
    rw[Nat.add_mul,Nat.one_mul] at this
    rw[if_pos (by omega)]
   ·have:(k+1)*e.size<=i/e.size*e.size:=Nat.mul_le_mul_right _ (by omega)
    rw[Nat.add_mul,Nat.one_mul] at this
    rw[if_neg (by omega),if_neg (by simp[hxl];omega)]
end
theorem HL.take{e:Ty}{W W':World}{b off:Nat}{M:List D}(hne:am e=true)(h:HL e W b off M)(hwt:∀ x∈M,wt e x){k:Nat}(hr:∃ row,bE W' b=some row/\off+(M.take k).length*e.size<=row.size)(hc:∀ o,o<off+k*e.size->W'.cell? ⟨b,o,none⟩=W.cell? ⟨b,o,none⟩):HL e W' b off (M.take k):=by
 refine⟨hr,fun i d hd=>?_⟩
 have h2:(D.flats (M.take k)).length<=k*e.size:=by
  rw[ay hne _ fun x hx=>hwt x (List.mem_of_mem_take hx),List.length_take]
  exact Nat.mul_le_mul_right _ (Nat.min_le_left _ _)
 have h1:D.flats M=D.flats (M.take k)++D.flats (M.drop k):=by rw[<-bP,List.take_append_drop]
 have hi:=(List.getElem?_eq_some_iff.1 hd).1
 rw[hc _ (by omega)]
 refine h.2 i d ?_
 rw[h1,List.getElem?_append_left hi]
 exact hd
end Go.Proofs.YtjjjkojfijpeeaaGreat.Sy
end
section
set_option linter.unusedVariables false
namespace Go.Proofs.YtjjjkojfijpeeaaGreat.Sy
open Go Go.Proofs Go.Sort Go.Lib
section
variable{P:Program}{E:Env}{r:Root}{ro:Option Nat}{nn:Nat}
theorem gh(hE:EnvOk P E){c:Code}{ann:Ann}{W:World}{a:Act}{nt:Nat}{f:Nat->AV}{lk:List Nat}(hsz:a.tmps.size=nt)(hdf:a.defers=[]){S:Nat->Nat->Prop}(hS:∀ b o,S b o->b<W.heap.size)
  (hf:∀ t,t<nt->AR ⟨W,S,fun _=>none,fun _=>none,fun _=>none,[]⟩ (f t) (a.tmps.getD t undef)) (hu:∀ t,nt<=t->f t=.undef) {l:List (Nat×Ty)} {xs:List D} (hv:ev E c ann D (dS nt lk f) (kW l)=some (.tup xs)) {Q:Exit->Act->World->Prop}
  (hQ:∀ a' os d,W.drawn<=d->a'.tmps.size=nt->a'.defers=[]->(∀ t∈lk,a'.tmps.getD t undef=a.tmps.getD t undef)->(∀ (i t:Nat) (ty:Ty) (x:D),l[i]?=some (t,ty)->xs[i]?=some x->ba ty=true->a'.tmps.getD t undef=bn x)->Q .normal a' (aA W os d)):c.wpIn (FW ro) nn P Q a W:=by
 refine eO hE c ann D _ _ (Cn hS hsz hdf hf hu) hv fun x s' S' γ' β' a2 w2 g1 g2 g3 g4=>?_
 obtain⟨rfl,g5⟩:=ui g4
 obtain⟨os,dd,hdd,rfl⟩:=cj g1.ext (fun _ hf=>hf)
 exact hQ a2 os dd hdd (by rw[g1.nt,g3.nt];rfl) g1.df (fun t ht=>g2.slots t ht) fun i t ty x hi hx hc=>g1.word g5 hi hx hc
theorem fH{W:World}(h:ed r W){os:List Obj}{d:Nat}(hd:W.drawn<=d):ed r (aA W os d):=
 ko h rfl rfl rfl (by simp[aA]) hd fun b hb=>co (Nat.lt_of_lt_of_le hb.1 h.sz)
theorem yX{W:World}(h:ed r W){b off:Nat}{cs:Array Value}(hb:¬ r.Old b):ed r (bo W b off cs):=
 ko h rfl rfl rfl (by simp[bo]) (Nat.le_refl _) fun b' hb'=>cO fun e=>hb (e ▸ hb')
theorem Bc{T:TypeId}{e:Ty}(hl:bx P (.sl e) T=true)(hp:0<e.size){W:World}{b off m cap:Nat}{row:Array Value}(hr:bE W b=some row)(hs:off+m*e.size<=row.size)(hm:0<m)(ty:TypeId) :
  ∃ cs:Array Value,cs.size=m*e.size/\(Builtin.clear_ #[T] ty #[.slice (some ⟨b,off,none⟩) m cap]).run P W=.ok (.tuple #[]) (bo W b off cs):=by
 obtain⟨u,h1,h2⟩:=iu hl
 obtain⟨z,z1,z2,_⟩:=gn h2
 have hzl:∀ (ds:List D) (cs:List Value),ce ds cs=true->ds.length=cs.length/\∀ v∈cs,v.oneCell'=true:=by
  intro ds
  induction ds with
  | nil=>intro cs h;cases cs with|nil=>exact⟨rfl,by simp⟩|cons c cs=>simp[ce] at h
  | cons d ds ih=>
   intro cs h
   cases cs with
   | nil=>simp[ce] at h
   | cons c cs=>
    simp only[ce,Bool.and_eq_true] at h
    obtain⟨k1,k2⟩:=ih cs h.2
    refine⟨by simp[k1],fun v hv=>?_⟩
    rcases List.mem_cons.1 hv with rfl|hv
    ·have:=h.1
     cases d<;>cases v<;>simp_all [xT,Value.oneCell']
    ·exact k2 v hv
 obtain⟨q1,q2⟩:=hzl _ _ z2
 have hn:am e=true:=aG e u h2
 have hzs:z.cells.size=e.size:=by
  rw[<-Array.length_toList,<-q1];exact bL e _ (cB e hn) hn
 have hcs:(Builtin.zeroCells z.cells m).size=m*e.size:=by simp[Builtin.zeroCells,hzs]
 refine⟨Builtin.zeroCells z.cells m,hcs,?_⟩
 have hst:=cC (P:=P) b off (Builtin.zeroCells z.cells m).toList 0 W row hr (by simp only[Array.length_toList,hcs];omega) (by
  rw[List.all_eq_true]
  intro v hv
  have hv':v∈Builtin.zeroCells z.cells m:=by simpa using hv
  obtain⟨i,hi,rfl⟩:=Array.getElem_of_mem hv'
  have hlt:i%z.cells.size<z.cells.size:=Nat.mod_lt _ (by omega)
  have hone:=q2 (z.cells[i%z.cells.size]) (by simp)
  simp only[Builtin.zeroCells,Array.getElem_map,Array.getElem_range]
  rw[getElem!_pos z.cells _ hlt]
  generalize z.cells[i%z.cells.size]=y at *
  cases y<;>simp_all [Value.oneCell',pN])
 simp only[Nat.add_zero] at hst
 obtain⟨m',rfl⟩:∃ m',m=m'+1:=⟨m-1,by omega⟩
 simp[Builtin.clear_,Sem.run_bind,run_underlying h1,Result.andThen_ok,z1,hst]
end
end Go.Proofs.YtjjjkojfijpeeaaGreat.Sy
end
section
set_option linter.unusedVariables false
namespace Go.Proofs.YtjjjkojfijpeeaaGreat.Sy
open Go Go.Proofs Go.Sort Go.Lib
section
variable{P:Program}{ro:Option Nat}{nn:Nat}{ops:Array Oper}{rest:List Oper}{a:Act}{w:World}{Q:Exit->Act->World->Prop}{d:Option Nat}{x y i:Operand}{ty:TypeId}{p:String}{fs:Array Edge}{T:TypeId}{e:Ty}
theorem qD(hl:bx P (.sl e) T=true){A:Option Addr}{len cap lo hi:Nat}{olo ohi:Option Operand}(hx:a.eval x=.slice A len cap)(h1:lo<=hi)(h2:hi<=len)(h3:len<=cap)
  (hlo:(olo=none/\lo=0)\/∃ o,olo=some o/\a.eval o=.int .i64 (lo:Nat)) (hhi:(ohi=none/\hi=len)\/∃ o,ohi=some o/\a.eval o=.int .i64 (hi:Nat))
  (h:wpListIn (FW ro) nn P ops Q rest (a.put d (.slice (if cap=lo then A else A.map (·.add (lo*e.size))) (hi-lo) (cap-lo))) w):wpListIn (FW ro) nn P ops Q (⟨d,.slice T x olo ohi none,ty,p,fs,none⟩::rest) a w:=by
 refine gF (K:=fun v w'=>v=.slice (if cap=lo then A else A.map (·.add (lo*e.size))) (hi-lo) (cap-lo)/\w=w') rfl (cN.value (et (m:=Instr.sliceAt T (a.eval x) (olo.map a.eval) (ohi.map a.eval) none) rfl ?_) ⟨rfl,rfl⟩) ?_
 ·rw[hx]
  refine nA hl h1 h2 h3 ?_ ?_ w
  ·rcases hlo with⟨rfl,rfl⟩|⟨o,rfl,h⟩
   ·exact .inl ⟨rfl,rfl⟩
   ·exact .inr ⟨.i64,by rw[Option.map_some,h]⟩
  ·rcases hhi with⟨rfl,rfl⟩|⟨o,rfl,h⟩
   ·exact .inl ⟨rfl,rfl⟩
   ·exact .inr ⟨.i64,by rw[Option.map_some,h]⟩
 rintro _ _ ⟨rfl,rfl⟩
 exact h
theorem vp(hl:bx P (.sl e) T=true){b off len cap k:Nat}(hx:a.eval x=.slice (some ⟨b,off,none⟩) len cap)(hi:a.eval i=.int .i64 (k:Nat))(hk:k<len)
  (h:wpListIn (FW ro) nn P ops Q rest (a.put d (.pointer (some ⟨b,off+k*e.size,none⟩))) w):wpListIn (FW ro) nn P ops Q (⟨d,.indexAddr T x i,ty,p,fs,none⟩::rest) a w:=by
 refine gF (K:=fun v w'=>v=.pointer (some ⟨b,off+k*e.size,none⟩)/\w=w') rfl (cN.value (et (m:=Instr.indexAt T (a.eval x) (a.eval i)) rfl ?_) ⟨rfl,rfl⟩) ?_
 ·rw[hx,hi];exact il hl hk b off w
 rintro _ _ ⟨rfl,rfl⟩
 exact h
theorem Fo(hl:bx P e T=true){b off:Nat}{cs:List Value}(hx:a.eval x=.pointer (some ⟨b,off,none⟩))(hlen:cs.length=e.size)(hn:nag cs)(hc:∀ (i:Nat) (c:Value),cs[i]?=some c->w.cell? ⟨b,off+i,none⟩=some c)
  (h:∀ v,fq e cs v->wpListIn (FW ro) nn P ops Q rest (a.put d v) w):wpListIn (FW ro) nn P ops Q (⟨d,.load T x,ty,p,fs,none⟩::rest) a w:=by
 obtain⟨v,h1,h2⟩:=dZ (P:=P) hl hlen hn hc
 refine gF (K:=fun v' w'=>v'=v/\w=w') rfl (cN.value (et (m:=Instr.loadAt T (a.eval x)) rfl ?_) ⟨rfl,rfl⟩) ?_
 ·rw[hx];exact h1
 rintro _ _ ⟨rfl,rfl⟩
 exact h _ h2
theorem B7(hl:bx P e T=true){b off:Nat}{c:Array Value}{v:Value}{cs:List Value}(hx:a.eval x=.pointer (some ⟨b,off,none⟩))(hy:a.eval y=v)(hr:bE w b=some c)(hv:fq e cs v)(hlen:cs.length=e.size)(hn:nag cs)(hb:off+cs.length<=c.size)
  (h:wpListIn (FW ro) nn P ops Q rest a (bo w b off cs.toArray)):wpListIn (FW ro) nn P ops Q (⟨none,.store T x y,ty,p,fs,none⟩::rest) a w:=by
 have h1:=jL (P:=P) hl hr hv hlen hn hb
 refine gF (K:=fun v' w'=>w'=bo w b off cs.toArray) rfl (cN.skip (w':=bo w b off cs.toArray) ?_ rfl) ?_
 ·simp only[execOp,hx,hy,Sem.run_bind,h1,Result.andThen_ok,Sem.run_pure]
 rintro _ _ rfl
 exact h
theorem BS(hl:bx P (.sl e) T=true)(hp:0<e.size){b off m cap:Nat}{row:Array Value}(hx:a.eval x=.slice (some ⟨b,off,none⟩) m cap)(hr:bE w b=some row)(hs:off+m*e.size<=row.size)(hm:0<m)
  (h:∀ cs:Array Value,cs.size=m*e.size->∀ v,wpListIn (FW ro) nn P ops Q rest (a.put d v) (bo w b off cs)):wpListIn (FW ro) nn P ops Q (⟨d,.call ⟨.builtin .clear,#[x],#[T]⟩,ty,p,fs,none⟩::rest) a w:=by
 obtain⟨cs,h1,h2⟩:=Bc (P:=P) (cap:=cap) hl hp hr hs hm ty
 refine gF (K:=fun v' w'=>w'=bo w b off cs) rfl (cN.value (v:=.tuple #[]) (w':=bo w b off cs) ?_ rfl) ?_
 ·simp[execOp,resolve,invoke,builtin,hx,h2,Sem.run_bind,Result.andThen_ok]
 rintro v _ rfl
 exact h cs h1 v
end
end Go.Proofs.YtjjjkojfijpeeaaGreat.Sy
end
section
set_option linter.unusedVariables false
namespace Go.Proofs.YtjjjkojfijpeeaaGreat.Sy
open Go Go.Proofs Go.Sort Go.Lib
def Em(e:Ty)(L:List D)(k:Nat):Nat->AV:=fun i=>if i=0 then .d (.sl e) (.sl L) else if i=3 then .d (.int .i64) (.int .i64 (k:Nat)) else .undef
def Dt(t k:Nat):Nat->AV:=fun i=>if i=t then .d (.int .i64) (.int .i64 (k:Nat)) else .undef
def Dv(e:Ty)(N:List D)(k:Nat):Nat->AV:=fun i=>if i=4 then .d (.sl e) (.sl N) else if i=5 then .d (.int .i64) (.int .i64 (k:Nat)) else .undef
section
variable{P:Program}{E:Env}{r:Root}{ro:Option Nat}{nn:Nat}
theorem xx(c:Cx)(n:Int):AR c (.d (.int .i64) (.int .i64 n)) (.int .i64 n):=.inl ⟨rfl,⟨n,rfl⟩,fun _ h=>(by cases h),(bJ (ds:=[.int .i64 n]) (by intro d hd;rw[List.mem_singleton.1 hd];rfl)).2 rfl⟩
theorem xk{e:Ty}(hce:ba e=true){x:D}(hx:wt e x):nag (x.flat.map bn):=fun v hv=>by
 obtain⟨q,hq,rfl⟩:=List.mem_map.1 hv
 have:=fo e x hce hx q hq
 cases q<;>simp only[gI] at this<;>first|(cases this;done)|rfl
theorem HL.elem{e:Ty}(hne:am e=true)(hp:0<e.size){W:World}{b off:Nat}{M:List D}(h:HL e W b off M)(hwt:∀ x∈M,wt e x){j:Nat}{x:D}(hx:M[j]?=some x)(i:Nat)(c:Value)(hc:(x.flat.map bn)[i]?=some c):W.cell? ⟨b,off+j*e.size+i,none⟩=some c:=by
 rw[List.getElem?_map] at hc
 cases hd:x.flat[i]? with
 | none=>rw[hd] at hc;cases hc
 | some d=>
  rw[hd] at hc
  simp only[Option.map_some,Option.some.injEq] at hc
  subst hc
  have hxl:x.flat.length=e.size:=bL e x (hwt x (List.mem_of_getElem? hx)) hne
  have hi:i<e.size:=by rw[<-hxl];exact(List.getElem?_eq_some_iff.1 hd).1
  have:=h.2 (j*e.size+i) d (by
   rw[gW hp _ fun y hy=>bL e y (hwt y hy) hne]
   rw[show(j*e.size+i)/e.size=j by rw[Nat.mul_comm,Nat.mul_add_div hp,Nat.div_eq_of_lt hi,Nat.add_zero],show(j*e.size+i)%e.size=i by rw[Nat.mul_comm,Nat.mul_add_mod,Nat.mod_eq_of_lt hi],hx]
   exact hd)
  rw[show off+j*e.size+i=off+(j*e.size+i) by omega]
  exact this
set_option maxHeartbeats 2000000 in
theorem wR(hE:EnvOk P E){e:Ty}(hce:ba e=true)(hne:am e=true)(hp:0<e.size){L:List D}(hwt:∀ x∈L,wt e x)(hlen:L.length<=1073741824){f:Nat}{fn:Func}(hfn:P.funcs[f]?=some fn)
  {i0 i1 i2 i3 i4 i5 i6 i7 i8 i9 i10 i11 my i13 i14 i15 i16 b0 b1 b2 b3:Nat} {R0 R1 R2 R3 R4 R5 R6 R7 R8 R9 R10 R11 R12 R13 R14 R15 R16:Array Oper}
  (hbody:fn.body=some (.seq (.region i0 R0 false) (.seq (.seq (.region i1 R1 false) (.cond (.tmp 8) (.seq (.region i2 R2 false) .ret) .skip)) (.seq (.seq (.region i3 R3 false) (.block b0 (.loop (.seq (.seq (.region i4 R4 false) (.cond (.tmp 13) .skip (.exit b0))) (.seq (.block b1 (.seq (.region i6 R6 true) (.cond (.tmp 25) (.seq (.region i7 R7 false) (.seq (.seq (.region i8 R8 false) (.block b2 (.loop (.seq (.seq (.region i9 R9 false) (.cond (.tmp 32) .skip (.exit b2))) (.seq (.block b3 (.seq (.region i11 R11 true) (.cond (.tmp 44) (.seq (.region my R12 false) (.region i13 R13 false)) .skip))) (.region i10 R10 false)))))) (.seq (.region i14 R14 false) (.seq (.region i15 R15 false) .ret)))) .skip))) (.region i5 R5 false)))))) (.seq (.region i16 R16 false) .ret)))))
  (hnt:fn.ntmps=61) (hres:fn.results=#[.tmp 2]) {Ts Te:Nat} (hTs:E.L Ts=some (.sl e)) (hTe:E.L Te=some e)
  {y1 y2 y3 y4 y5 y6 y7 y8 y9 y10 y11 y12 y13 y14 y15 y16 y17 y18 y19 y20 y21 y22 y23 y24 y25 y26 y27:TypeId} {p1 p2 p3 p4 p5 p6 p7 p8 p9 p10 p11 p12 p13 p14 p15 p16 p17 Jh p19 p20 p21 p22 p23 p24 p25 p26 p27:String} {f1 f2 f3 f4 f5 f6 f7 f8 f9 f10 f11 f12 f13 f14 f15 f16 f17 f18 f19 f20 f21 f22 f23 f24 f25 f26 f27:Array Edge}
  (hR0:R0.toList=[⟨some 2,.assign (.const (.slice none 0 0)),y1,p1,f1,none⟩]) (hR2:R2.toList=[⟨some 9,.move (.tmp 0),y2,p2,f2,none⟩,⟨some 2,.assign (.tmp 9),y3,p3,f3,none⟩]) (hR3:R3.toList=[⟨some 3,.assign (.const (.int .i64 1)),y4,p4,f4,none⟩])
  (hR7:R7.toList=[⟨some 26,.move (.tmp 0),y5,p5,f5,none⟩,⟨some 27,.move (.tmp 3),y6,p6,f6,none⟩,⟨some 28,.slice Ts (.tmp 26) (some (.tmp 27)) none none,y7,p7,f7,none⟩,⟨some 4,.assign (.tmp 28),y8,p8,f8,none⟩])
  (hR8:R8.toList=[⟨some 5,.assign (.const (.int .i64 1)),y9,p9,f9,none⟩])
  (hR12:R12.toList=[⟨some 45,.move (.tmp 0),y10,p10,f10,none⟩,⟨some 46,.move (.tmp 3),y11,p11,f11,none⟩,⟨some 47,.move (.tmp 4),y12,p12,f12,none⟩,⟨some 48,.move (.tmp 5),y13,p13,f13,none⟩,⟨some 49,.indexAddr Ts (.tmp 47) (.tmp 48),y14,p14,f14,none⟩,⟨some 50,.load Te (.tmp 49),y15,p15,f15,none⟩,
   ⟨some 51,.indexAddr Ts (.tmp 45) (.tmp 46),y16,p16,f16,none⟩,⟨none,.store Te (.tmp 51) (.tmp 50),y17,p17,f17,none⟩])
  (hR14:R14.toList=[⟨some 54,.move (.tmp 0),y18,Jh,f18,none⟩,⟨some 55,.move (.tmp 3),y19,p19,f19,none⟩,⟨some 56,.slice Ts (.tmp 54) (some (.tmp 55)) none none,y20,p20,f20,none⟩,⟨none,.call ⟨.builtin .clear,#[.tmp 56],#[Ts]⟩,y21,p21,f21,none⟩])
  (hR15:R15.toList=[⟨some 57,.move (.tmp 0),y22,p22,f22,none⟩,⟨some 58,.move (.tmp 3),y23,p23,f23,none⟩,⟨some 59,.slice Ts (.tmp 57) none (some (.tmp 58)) none,y24,p24,f24,none⟩,⟨some 2,.assign (.tmp 59),y25,p25,f25,none⟩])
  (hR16:R16.toList=[⟨some 60,.move (.tmp 0),y26,p26,f26,none⟩,⟨some 2,.assign (.tmp 60),y27,p27,f27,none⟩])
  (hv1:ev E (.region i1 R1 false) .leaf D (dS 61 [0] (fun i=>if i=0 then .d (.sl e) (.sl L) else .undef)) (kW [(8,.bool)])=some (.tup [.bool (decide ((L.length:Int)<2))]))
  (hv4:∀ k:Nat,ev E (.region i4 R4 false) .leaf D (dS 61 [0,3] (Em e L k)) (kW [(13,.bool)])=some (.tup [.bool (decide ((k:Int)<(L.length:Nat)))]))
  {an6 an11:Ann} (hv6:∀ (k:Nat) (x y:D),k<1073741824->L[k]?=some x->L[k+1]?=some y->ev E (.region i6 R6 true) an6 D (dS 61 [0,3] (Em e L (k+1))) (kW [(25,.bool)])=some (.tup [.bool (y.beq x)]))
  (hv5:∀ k:Nat,ev E (.region i5 R5 false) .leaf D (dS 61 [0] (Dt 3 k)) (kW [(3,.int .i64)])=some (.tup [.int .i64 (IntKind.wrap .i64 ((k:Int)+1))]))
  (hv13:∀ k:Nat,ev E (.region i13 R13 false) .leaf D (dS 61 [0,4,5] (Dt 3 k)) (kW [(3,.int .i64)])=some (.tup [.int .i64 (IntKind.wrap .i64 ((k:Int)+1))]))
  (hv10:∀ k:Nat,ev E (.region i10 R10 false) .leaf D (dS 61 [0,3,4] (Dt 5 k)) (kW [(5,.int .i64)])=some (.tup [.int .i64 (IntKind.wrap .i64 ((k:Int)+1))]))
  (hv9:∀ (N:List D) (k:Nat),ev E (.region i9 R9 false) .leaf D (dS 61 [0,3,4,5] (Dv e N k)) (kW [(32,.bool)])=some (.tup [.bool (decide ((k:Int)<(N.length:Nat)))]))
  (hv11:∀ (N:List D) (k:Nat) (x y:D),k<1073741824->N[k]?=some x->N[k+1]?=some y->ev E (.region i11 R11 true) an11 D (dS 61 [0,3,4,5] (Dv e N (k+1))) (kW [(44,.bool)])=some (.tup [.bool (!(y.beq x))]))
  {W0:World} (hX:ed r W0) {S0:Nat->Nat->Prop} (hSb0:∀ b o,S0 b o->b<W0.heap.size) (hSo0:∀ b o,S0 b o->r.Old b->r.S0 b o) {sv:Value} (hsv:eZ W0 S0 (.sl L) sv) (hown:2<=L.length->∃ b off cap,sv=.slice (some ⟨b,off,none⟩) L.length cap/\HL e W0 b off L/\¬ r.Old b) :
  Calls P f #[sv] W0 fun en W'=>∃ v,en=.returned v/\∃ S',ed r W'/\eZ W' S' (.sl (jN L)) v/\(∀ b o,S' b o->b<W'.heap.size)/\(∀ b o,S' b o->r.Old b->r.S0 b o):=by
 have hls:bx P (.sl e) Ts=true:=(hE.lay Ts _ hTs).resolve_left (by rintro⟨ts,h⟩;cases h)
 have hle:bx P e Te=true:=(hE.lay Te _ hTe).resolve_left (by rintro⟨ts,h⟩;subst h;simp[ba] at hce)
 refine dh hfn hbody ?_
 generalize ha0:Act.mk _ _=a0
 have hsz0:a0.tmps.size=61:=by rw[<-ha0];simp[hnt]
 have e0:a0.tmps.getD 0 undef=sv:=by rw[<-ha0];simp[Array.getD]
 have hd0:a0.defers=[]:=by rw[<-ha0]
 clear ha0
 refine wpIn_seq (wpIn_region_list ?_)
 rw[hR0]
 refine bY (dJ ?_)
 generalize ha1:Act.put _ (some 2) _=a1
 have hsz1:a1.tmps.size=61:=by rw[<-ha1];simp only[ap,hsz0]
 have e1:a1.tmps.getD 0 undef=sv:=by rw[<-ha1];simp only[az,hsz0,e0,reduceIte,Nat.reduceLT,Nat.reduceEqDiff]
 have hd1:a1.defers=[]:=by rw[<-ha1];simp only[aT,hd0]
 clear ha1
 simp only[Exit.then]
 have ARL:∀ c:Cx,c.w=W0->c.S=S0->AR c (.d (.sl e) (.sl L)) sv:=fun c h1 h2=>.inl ⟨by simp only[am];exact hne,⟨L,rfl,hwt⟩,by rw[h1,h2];exact hsv⟩
 refine wpIn_seq (wpIn_seq (gh hE (lk:=[0]) (f:=fun i=>if i=0 then .d (.sl e) (.sl L) else .undef) hsz1 hd1 hSb0 (fun t ht=>?_) (fun t ht=>by rw[if_neg (by omega)]) hv1 fun a2 os2 d2 hd2 z1 z2 z3 z4=>?_))
 ·by_cases h5:t=0
  ·subst h5;rw[if_pos rfl,e1];exact ARL _ rfl rfl
  ·rw[if_neg h5];simp only[AR]
 have t8:a2.tmps.getD 8 undef=.bool (decide ((L.length:Int)<2)):=z4 0 8 .bool _ rfl rfl rfl
 have e2:a2.tmps.getD 0 undef=sv:=(z3 0 (by simp)).trans e1
 simp only[uY,Exit.then]
 by_cases h2:L.length<2
 ·
  refine wpIn_cond_true (t8.trans (by rw[decide_eq_true (by omega)])) (wpIn_seq (wpIn_region_list ?_))
  rw[hR2]
  refine cG (bY (dJ (wpIn_ret ⟨by simp only[aT,z2],sv,(results_tmp hres _ _ _).trans ?_,sv,rfl,S0,fH hX hd2,?_,fun b o hb=>?_,hSo0⟩)))
  ·simp only[aH,az,ap,z1,e2,reduceIte,Nat.reduceLT,Nat.reduceEqDiff]
  ·rw[qo h2];exact hsv.mono (fun b o hb=>dI (hSb0 b o hb)) fun _ _ h=>h
  ·exact Nat.lt_of_lt_of_le (hSb0 b o hb) (by simp[aA])
 obtain⟨b,off,cap,rfl,hHL0,hbo⟩:=hown (by omega)
 have hcap:L.length<=cap:=by
  have hq:CR W0 S0 (.sl L) (.slice (some ⟨b,off,none⟩) L.length cap):=hsv.2.2 0 _ _ rfl rfl
  obtain⟨_,_,_,_,q1,_,q2,_⟩:=hq.elems
  cases q1;exact q2
 refine wpIn_cond_false (t8.trans (by rw[decide_eq_false (by omega)])) (wpIn_skip ?_)
 simp only[Exit.then]
 refine wpIn_seq (wpIn_seq (wpIn_region_list ?_))
 rw[hR3]
 refine bY (dJ ?_)
 generalize ha3:Act.put _ (some 3) _=a3
 have hsz3:a3.tmps.size=61:=by rw[<-ha3];simp only[ap,z1]
 have e3:a3.tmps.getD 0 undef=.slice (some ⟨b,off,none⟩) L.length cap:=by rw[<-ha3];simp only[az,z1,e2,reduceIte,Nat.reduceLT,Nat.reduceEqDiff]
 have k3:a3.tmps.getD 3 undef=.int .i64 (1:Nat):=by rw[<-ha3];simp only[az,z1,reduceIte,Nat.reduceLT];rfl
 have hd3:a3.defers=[]:=by rw[<-ha3];simp only[aT,z2]
 clear ha3 t8 z1 z2 z3 z4
 simp only[Exit.then]
 refine wpIn_block ?_
 have hX3:=fH (os:=os2) hX hd2
 have hH3:=hHL0.grow os2 d2
 generalize aA W0 os2 d2=W3 at hX3 hH3 ⊢
 refine js (m:=L.length) (fun m a W=>∃ k,1<=k/\m+k=L.length+1/\k<=L.length/\jN (L.take k)=L.take k/\HL e W b off L/\ed r W/\a.tmps.size=61/\a.defers=[]/\a.tmps.getD 0 undef=.slice (some ⟨b,off,none⟩) L.length cap/\a.tmps.getD 3 undef=.int .i64 (k:Nat))
  ⟨1,Nat.le_refl _,rfl,by omega,qo (by rw[List.length_take];omega),hH3,hX3,hsz3,hd3,e3,k3⟩ ?_
 clear hH3 hX3 hsz3 hd3 e3 k3
 rintro m a W ⟨k,c1,c2,c3,c4,hH,hXW,c5,c6,c7,c8⟩
 have ARf1:∀ (a:Act) (W:World),HL e W b off L->a.tmps.getD 0 undef=.slice (some ⟨b,off,none⟩) L.length cap->a.tmps.getD 3 undef=.int .i64 (k:Nat)->∀ t,t<61->AR ⟨W,fun b' _=>b'=b,fun _=>none,fun _=>none,fun _=>none,[]⟩ (Em e L k t) (a.tmps.getD t undef):=fun a W hH c7 c8 t ht=>by
  unfold Em
  by_cases h5:t=0
  ·subst h5;rw[if_pos rfl,c7]
   refine .inl ⟨by simp only[am];exact hne,⟨L,rfl,hwt⟩,jG ?_⟩
   have:=hH.crl hce hne hwt (j:=0) (m:=L.length) (cap:=cap) (by omega) (by omega) hcap
   simpa using this
  ·rw[if_neg h5]
   by_cases h6:t=3
   ·subst h6;rw[if_pos rfl,c8];exact xx _ _
   ·rw[if_neg h6];simp only[AR]
 have f1u:∀ t,61<=t->Em e L k t=.undef:=fun t ht=>by unfold Em;rw[if_neg (by omega),if_neg (by omega)]
 refine wpIn_seq (wpIn_seq (gh hE c5 c6 (S:=fun b' _=>b'=b) (fun b' _ hb=>by rw[hb];exact hH.lt) (ARf1 a W hH c7 c8) f1u (hv4 k) fun a4 os4 d4 hd4 z1 z2 z3 z4=>?_))
 have t13:a4.tmps.getD 13 undef=.bool (decide ((k:Int)<(L.length:Nat))):=z4 0 13 .bool _ rfl rfl rfl
 have e4:=(z3 0 (by simp)).trans c7
 have k4:=(z3 3 (by simp)).trans c8
 have hH4:=hH.grow os4 d4
 have hX4:=fH (os:=os4) hXW hd4
 generalize aA W os4 d4=W4 at hH4 hX4 ⊢
 clear z3 z4
 simp only[Exit.then]
 by_cases hk:k<L.length
 rotate_left
 ·
  have hkl:k=L.length:=by omega
  subst hkl
  refine wpIn_cond_false (t13.trans (by rw[decide_eq_false (by omega)])) (wpIn_exit ?_)
  simp only[Exit.then,Exit.inBlock,if_true]
  refine wpIn_seq (wpIn_region_list ?_)
  rw[hR16]
  refine cG (bY (dJ (wpIn_ret ⟨by simp only[aT,z2],.slice (some ⟨b,off,none⟩) L.length cap,(results_tmp hres _ _ _).trans ?_,_,rfl,fun b' _=>b'=b,hX4,?_,fun b' _ hb=>by rw[hb];exact hH4.lt,fun b' _ hb ho=>absurd ho (hb ▸ hbo)⟩)))
  ·simp only[aH,az,ap,z1,e4,reduceIte,Nat.reduceLT,Nat.reduceEqDiff]
  ·rw[List.take_of_length_le (Nat.le_refl _)] at c4
   rw[c4]
   refine jG ?_
   have:=hH4.crl hce hne hwt (j:=0) (m:=L.length) (cap:=cap) (by omega) (by omega) hcap
   simpa using this
 refine wpIn_cond_true (t13.trans (by rw[decide_eq_true (by omega)])) (wpIn_skip ?_)
 simp only[Exit.then]
 obtain⟨j,rfl⟩:∃ j,k=j+1:=⟨k-1,by omega⟩
 obtain⟨x,hx⟩:∃ x,L[j]?=some x:=⟨_,List.getElem?_eq_getElem (by omega)⟩
 obtain⟨y,hy⟩:∃ y,L[j+1]?=some y:=⟨_,List.getElem?_eq_getElem hk⟩
 refine wpIn_seq (wpIn_block (wpIn_seq (gh hE z1 z2 (S:=fun b' _=>b'=b) (fun b' _ hb=>by rw[hb];exact hH4.lt) (ARf1 a4 W4 hH4 e4 k4) f1u (hv6 j x y (by omega) hx hy) fun a5 os5 d5 hd5 u1 u2 u3 u4=>?_)))
 have t25:a5.tmps.getD 25 undef=.bool (y.beq x):=u4 0 25 .bool _ rfl rfl rfl
 have e5:=(u3 0 (by simp)).trans e4
 have k5:=(u3 3 (by simp)).trans k4
 have hH5:=hH4.grow os5 d5
 have hX5:=fH (os:=os5) hX4 hd5
 generalize aA W4 os5 d5=W5 at hH5 hX5 ⊢
 have hded:=wU hx hy
 clear z1 z2 u3 u4
 simp only[Exit.then]
 have st:∀ n:Nat,n<9223372036854775806->IntKind.wrap .i64 ((n:Int)+1)=((n+1:Nat):Int):=fun n hn=>by
  rw[show((n:Int)+1)=((n+1:Nat):Int) by omega];exact lX (by omega) (by omega)
 have AR2:∀ (a:Act) (W:World) (t k:Nat),a.tmps.getD t undef=.int .i64 (k:Nat)->∀ u,u<61->AR ⟨W,fun _ _=>False,fun _=>none,fun _=>none,fun _=>none,[]⟩ (Dt t k u) (a.tmps.getD u undef):=fun a W t k h u hu=>by
  unfold Dt
  by_cases h5:u=t
  ·subst h5;rw[if_pos rfl,h];exact xx _ _
  ·rw[if_neg h5];simp only[AR]
 have f2u:∀ t k:Nat,t<61->∀ u,61<=u->Dt t k u=.undef:=fun t k ht u hu=>by unfold Dt;rw[if_neg (by omega)]
 by_cases hxy:y.beq x=true
 rotate_left
 ·
  have hxy':y.beq x=false:=by simpa using hxy
  refine wpIn_cond_false (t25.trans (by rw[hxy'])) (wpIn_skip ?_)
  simp only[Exit.inBlock,Exit.then]
  refine gh hE u1 u2 (S:=fun _ _=>False) (fun _ _ hb=>hb.elim) (AR2 a5 W5 3 (j+1) k5) (f2u 3 (j+1) (by decide)) (hv5 (j+1)) fun a6 os6 d6 hd6 q1 q2 q3 q4=>?_
  have t3:a6.tmps.getD 3 undef=.int .i64 (IntKind.wrap .i64 (((j+1:Nat):Int)+1)):=q4 0 3 (.int .i64) _ rfl rfl rfl
  refine⟨m-1,by omega,j+2,by omega,by omega,by omega,?_,hH5.grow os6 d6,fH hX5 hd6,q1,q2,(q3 0 (by simp)).trans e5,by rw[t3,st (j+1) (by omega)]⟩
  rw[hded,if_neg hxy,c4]
  have htk:L.take (j+1+1)=L.take (j+1)++L[j+1]?.toList:=List.take_add_one
  rw[hy] at htk
  exact htk.symm
 rw[if_pos hxy,c4] at hded
 refine wpIn_cond_true (t25.trans (by rw[hxy])) (wpIn_seq (wpIn_region_list ?_))
 rw[hR7]
 refine cG (cG (qD hls (A:=some ⟨b,off,none⟩) (len:=L.length) (cap:=cap) (lo:=j+1) (hi:=L.length) ?_ (by omega) (Nat.le_refl _) hcap (.inr ⟨_,rfl,?_⟩) (.inl ⟨rfl,rfl⟩) (bY (dJ ?_))))
 ·simp only[aH,az,ap,u1,e5,reduceIte,Nat.reduceLT,Nat.reduceEqDiff]
 ·simp only[aH,az,ap,u1,k5,reduceIte,Nat.reduceLT,Nat.reduceEqDiff]
 obtain⟨s2v,hs2⟩:∃ s2v:Value,s2v=.slice (some ⟨b,off+(j+1)*e.size,none⟩) (L.length-(j+1)) (cap-(j+1)):=⟨_,rfl⟩
 have hsl:(if cap=j+1 then some (⟨b,off,none⟩:Addr) else Option.map (fun z:Addr=>z.add ((j+1)*e.size)) (some ⟨b,off,none⟩))=some ⟨b,off+(j+1)*e.size,none⟩:=by
  rw[if_neg (by omega),Option.map_some,cl]
 rw[hsl,<-hs2]
 generalize ha6:Act.put _ (some 4) _=a6
 have hsz6:a6.tmps.size=61:=by rw[<-ha6];simp only[ap,u1]
 have e6:a6.tmps.getD 0 undef=.slice (some ⟨b,off,none⟩) L.length cap:=by rw[<-ha6];simp only[aH,az,ap,u1,e5,reduceIte,Nat.reduceLT,Nat.reduceEqDiff]
 have k6:a6.tmps.getD 3 undef=.int .i64 ((j+1:Nat):Int):=by rw[<-ha6];simp only[aH,az,ap,u1,k5,reduceIte,Nat.reduceLT,Nat.reduceEqDiff]
 have v6:a6.tmps.getD 4 undef=s2v:=by rw[<-ha6];simp only[aH,az,ap,u1,reduceIte,Nat.reduceLT,Nat.reduceEqDiff]
 have hd6:a6.defers=[]:=by rw[<-ha6];simp only[aT,u2]
 clear ha6 hsl
 simp only[Exit.then]
 refine wpIn_seq (wpIn_seq (wpIn_region_list ?_))
 rw[hR8]
 refine bY (dJ ?_)
 generalize ha7:Act.put _ (some 5) _=a7
 have hsz7:a7.tmps.size=61:=by rw[<-ha7];simp only[ap,hsz6]
 have e7:a7.tmps.getD 0 undef=.slice (some ⟨b,off,none⟩) L.length cap:=by rw[<-ha7];simp only[az,hsz6,e6,reduceIte,Nat.reduceLT,Nat.reduceEqDiff]
 have k7:a7.tmps.getD 3 undef=.int .i64 ((j+1:Nat):Int):=by rw[<-ha7];simp only[az,hsz6,k6,reduceIte,Nat.reduceLT,Nat.reduceEqDiff]
 have v7:a7.tmps.getD 4 undef=s2v:=by rw[<-ha7];simp only[az,hsz6,v6,reduceIte,Nat.reduceLT,Nat.reduceEqDiff]
 have n7:a7.tmps.getD 5 undef=.int .i64 ((1:Nat):Int):=by rw[<-ha7];simp only[az,hsz6,reduceIte,Nat.reduceLT];rfl
 have hd7:a7.defers=[]:=by rw[<-ha7];simp only[aT,hd6]
 clear ha7
 simp only[Exit.then]
 refine wpIn_block ?_
 obtain⟨J2,hJ2⟩:∃ J2:Nat->Act->World->Prop,J2=fun m a W=>∃ (k2 k':Nat) (M:List D),1<=k2/\m+(j+1+k2)=L.length/\k'+1<=j+1+k2/\j+1<=k'/\HL e W b off M/\ed r W/\a.tmps.size=61/\a.defers=[]/\a.tmps.getD 0 undef=.slice (some ⟨b,off,none⟩) L.length cap/\a.tmps.getD 3 undef=.int .i64 (k':Nat)/\a.tmps.getD 4 undef=s2v/\a.tmps.getD 5 undef=.int .i64 (k2:Nat) ∧
  M.length=L.length/\(∀ z∈M,wt e z)/\M.drop (j+k2)=L.drop (j+k2)/\M.take k'=jN (L.take (j+1+k2)):=⟨_,rfl⟩
 refine js (m:=L.length-(j+2)) J2 (by rw[hJ2];exact
  ⟨1,j+1,L,Nat.le_refl _,by omega,by omega,Nat.le_refl _,hH5,hX5,hsz7,hd7,e7,k7,v7,n7,rfl,hwt,rfl,hded.symm⟩) ?_
 clear hH5 hX5 hsz7 hd7 e7 k7 v7 n7 hsz6 e6 k6 v6 hd6 hH4 hX4 t25 u1 u2 e5 k5 t13 e4 k4
 intro m2 a W hj2
 rw[hJ2] at hj2
 obtain⟨k2,k',M,g1,g2,g3,g4,hH,hXW,s1,s2,s3,s4,s5,s6,hMl,hMw,hMd,hMt⟩:=hj2
 have hkn:k'<L.length:=by omega
 have hNl:(M.drop (j+1)).length=L.length-(j+1):=by rw[List.length_drop,hMl]
 have AR4:∀ (a:Act) (W:World),HL e W b off M->a.tmps.getD 4 undef=s2v->a.tmps.getD 5 undef=.int .i64 (k2:Nat)->∀ t,t<61->AR ⟨W,fun b' _=>b'=b,fun _=>none,fun _=>none,fun _=>none,[]⟩ (Dv e (M.drop (j+1)) k2 t) (a.tmps.getD t undef):=fun a W hH c7 c8 t ht=>by
  unfold Dv
  by_cases h5:t=4
  ·subst h5;rw[if_pos rfl,c7,hs2]
   exact .inl ⟨by simp only[am];exact hne,⟨_,rfl,fun z hz=>hMw z (List.mem_of_mem_drop hz)⟩,jG (hH.crl hce hne hMw (j:=j+1) (m:=L.length-(j+1)) (cap:=cap-(j+1)) (by omega) (by omega) (by omega))⟩
  ·rw[if_neg h5]
   by_cases h6:t=5
   ·subst h6;rw[if_pos rfl,c8];exact xx _ _
   ·rw[if_neg h6];simp only[AR]
 have f4u:∀ t,61<=t->Dv e (M.drop (j+1)) k2 t=.undef:=fun t ht=>by unfold Dv;rw[if_neg (by omega),if_neg (by omega)]
 refine wpIn_seq (wpIn_seq (gh hE s1 s2 (S:=fun b' _=>b'=b) (fun b' _ hb=>by rw[hb];exact hH.lt) (AR4 a W hH s5 s6) f4u (hv9 (M.drop (j+1)) k2) fun a8 os8 d8 hd8 z1 z2 z3 z4=>?_))
 have t32:a8.tmps.getD 32 undef=.bool (decide ((k2:Int)<((M.drop (j+1)).length:Nat))):=z4 0 32 .bool _ rfl rfl rfl
 rw[hNl] at t32
 have e8:=(z3 0 (by simp)).trans s3
 have k8:=(z3 3 (by simp)).trans s4
 have v8:=(z3 4 (by simp)).trans s5
 have n8:=(z3 5 (by simp)).trans s6
 have hH8:=hH.grow os8 d8
 have hX8:=fH (os:=os8) hXW hd8
 generalize aA W os8 d8=W8 at hH8 hX8 ⊢
 clear z3 z4 hH hXW s1 s2 s3 s4 s5 s6
 simp only[Exit.then]
 by_cases hk2:j+1+k2<L.length
 rotate_left
 ·
  have hend:j+1+k2=L.length:=by omega
  rw[hend,List.take_of_length_le (Nat.le_refl _)] at hMt
  refine wpIn_cond_false (t32.trans (by rw[decide_eq_false (by omega)])) (wpIn_exit ?_)
  simp only[Exit.then,Exit.inBlock,if_true]
  refine wpIn_seq (wpIn_region_list ?_)
  rw[hR14]
  obtain⟨⟨row,hr1,hr2⟩,_⟩:=hH8
  have hmul:(k'+(L.length-k'))*e.size=M.length*e.size:=by rw[hMl];congr 1;omega
  rw[Nat.add_mul] at hmul
  have hsl:(if cap=k' then some (⟨b,off,none⟩:Addr) else Option.map (fun z:Addr=>z.add (k'*e.size)) (some ⟨b,off,none⟩))=some ⟨b,off+k'*e.size,none⟩:=by
   rw[if_neg (by omega),Option.map_some,cl]
  refine cG (cG (qD hls (A:=some ⟨b,off,none⟩) (len:=L.length) (cap:=cap) (lo:=k') (hi:=L.length) ?_ (by omega) (Nat.le_refl _) hcap (.inr ⟨_,rfl,?_⟩) (.inl ⟨rfl,rfl⟩) (BS hls hp (b:=b) (off:=off+k'*e.size) (m:=L.length-k') (cap:=cap-k') (row:=row) ?_ hr1 (by omega) (by omega) fun cs hcs v=>dJ ?_)))
  ·simp only[aH,az,ap,z1,e8,reduceIte,Nat.reduceLT,Nat.reduceEqDiff]
  ·simp only[aH,az,ap,z1,k8,reduceIte,Nat.reduceLT,Nat.reduceEqDiff]
  ·rw[hsl];simp only[aH,az,ap,z1,reduceIte,Nat.reduceLT]
  have hput:∀ a:Act,a.put none v=a:=fun _=>rfl
  rw[hput]
  generalize ha9:Act.put _ (some 56) _=a9
  have hsz9:a9.tmps.size=61:=by rw[<-ha9];simp only[ap,z1]
  have e9:a9.tmps.getD 0 undef=.slice (some ⟨b,off,none⟩) L.length cap:=by rw[<-ha9];simp only[aH,az,ap,z1,e8,reduceIte,Nat.reduceLT,Nat.reduceEqDiff]
  have k9:a9.tmps.getD 3 undef=.int .i64 (k':Nat):=by rw[<-ha9];simp only[aH,az,ap,z1,k8,reduceIte,Nat.reduceLT,Nat.reduceEqDiff]
  have hd9:a9.defers=[]:=by rw[<-ha9];simp only[aT,z2]
  clear ha9 hsl
  simp only[Exit.then]
  have hsz:off+k'*e.size+cs.size<=row.size:=by rw[hcs];omega
  have hlk:(M.take k').length=k':=by rw[List.length_take];omega
  have hH9:HL e (bo W8 b (off+k'*e.size) cs) b off (M.take k'):=HL.take hne ⟨⟨row,hr1,hr2⟩,by assumption⟩ hMw ⟨_,ew hr1,by
   have:(cX row (off+k'*e.size) cs).size=row.size:=by
    simp only[cX,Array.size_append,Array.size_extract];omega
   rw[this,hlk];omega⟩ fun o ho=>jn hr1 hsz ho
  have hX9:ed r (bo W8 b (off+k'*e.size) cs):=yX hX8 hbo
  generalize bo W8 b (off+k'*e.size) cs=W9 at hH9 hX9 ⊢
  refine wpIn_seq (wpIn_region_list ?_)
  rw[hR15]
  refine cG (cG (qD hls (A:=some ⟨b,off,none⟩) (len:=L.length) (cap:=cap) (lo:=0) (hi:=k') ?_ (Nat.zero_le _) (by omega) hcap (.inl ⟨rfl,rfl⟩) (.inr ⟨_,rfl,?_⟩) (bY (dJ (wpIn_ret ⟨by simp only[aT,hd9],.slice (some ⟨b,off,none⟩) k' cap,(results_tmp hres _ _ _).trans ?_,_,rfl,fun b' _=>b'=b,hX9,?_,fun b' _ hb=>by rw[hb];exact hH9.lt,fun b' _ hb ho=>absurd ho (hb ▸ hbo)⟩)))))
  ·simp only[aH,az,ap,hsz9,e9,reduceIte,Nat.reduceLT,Nat.reduceEqDiff]
  ·simp only[aH,az,ap,hsz9,k9,reduceIte,Nat.reduceLT,Nat.reduceEqDiff]
  ·have hsl:(if cap=0 then some (⟨b,off,none⟩:Addr) else Option.map (fun z:Addr=>z.add (0*e.size)) (some ⟨b,off,none⟩))=some ⟨b,off,none⟩:=by
    rw[if_neg (by omega),Option.map_some,cl,Nat.zero_mul,Nat.add_zero]
   rw[hsl]
   simp only[aH,az,ap,hsz9,reduceIte,Nat.reduceLT,Nat.sub_zero]
  ·rw[<-hMt]
   refine jG ?_
   have:=hH9.crl hce hne (fun z hz=>hMw z (List.mem_of_mem_take hz)) (j:=0) (m:=k') (cap:=cap) (by omega) (by omega) (by omega)
   simpa using this
 refine wpIn_cond_true (t32.trans (by rw[decide_eq_true (by omega)])) (wpIn_skip ?_)
 simp only[Exit.then]
 obtain⟨i,rfl⟩:∃ i,k2=i+1:=⟨k2-1,by omega⟩
 obtain⟨x2,hx2⟩:∃ x2,L[j+(i+1)]?=some x2:=⟨_,List.getElem?_eq_getElem (by omega)⟩
 obtain⟨w2,hw2⟩:∃ w2,L[j+(i+1)+1]?=some w2:=⟨_,List.getElem?_eq_getElem (by omega)⟩
 have hMx:M[j+(i+1)]?=some x2:=by
  have:=congrArg (fun l=>l[0]?) hMd
  simp only[List.getElem?_drop,Nat.add_zero] at this
  exact this.trans hx2
 have hMy:M[j+(i+1)+1]?=some w2:=by
  have:=congrArg (fun l=>l[1]?) hMd
  simp only[List.getElem?_drop] at this
  exact this.trans hw2
 have hded2:=wU hx2 hw2
 have hw2w:wt e w2:=hMw w2 (List.mem_of_getElem? hMy)
 refine wpIn_seq (wpIn_block (wpIn_seq (gh hE z1 z2 (S:=fun b' _=>b'=b) (fun b' _ hb=>by rw[hb];exact hH8.lt) (AR4 a8 W8 hH8 v8 n8) f4u (hv11 (M.drop (j+1)) i x2 w2 (by omega) (by rw[List.getElem?_drop,show j+1+i=j+(i+1) by omega];exact hMx) (by rw[List.getElem?_drop,show j+1+(i+1)=j+(i+1)+1 by omega];exact hMy)) fun a10 os10 d10 hd10 u1 u2 u3 u4=>?_)))
 have t44:a10.tmps.getD 44 undef=.bool (!(w2.beq x2)):=u4 0 44 .bool _ rfl rfl rfl
 have e10:=(u3 0 (by simp)).trans e8
 have k10:=(u3 3 (by simp)).trans k8
 have v10:=(u3 4 (by simp)).trans v8
 have n10:=(u3 5 (by simp)).trans n8
 have hH10:=hH8.grow os10 d10
 have hX10:=fH (os:=os10) hX8 hd10
 generalize aA W8 os10 d10=W10 at hH10 hX10 ⊢
 clear z1 z2 u3 u4 hH8 hX8 e8 k8 v8 n8 t32
 simp only[Exit.then]
 have tail:∀ (a:Act) (W:World) (k'':Nat) (M':List D) (Q:Exit->Act->World->Prop),k''+1<=j+1+(i+2)->j+1<=k''->HL e W b off M'->ed r W->a.tmps.size=61->a.defers=[]->a.tmps.getD 0 undef=.slice (some ⟨b,off,none⟩) L.length cap->a.tmps.getD 3 undef=.int .i64 (k'':Nat)->a.tmps.getD 4 undef=s2v->a.tmps.getD 5 undef=.int .i64 ((i+1:Nat):Int) ->
   M'.length=L.length->(∀ z∈M',wt e z)->M'.drop (j+(i+2))=L.drop (j+(i+2))->M'.take k''=jN (L.take (j+(i+1)+2))->(∀ a' w',(∃ m',m'<m2/\J2 m' a' w')->Q .normal a' w')->(Code.region i10 R10 false).wpIn (FW none) 0 P Q a W:=by
  intro a W k'' M' Q r1 r2 r3 r4 r5 r6 r7 r8 r9 r10 r11 r12 r13 r14 hQ
  refine gh hE r5 r6 (S:=fun _ _=>False) (fun _ _ hb=>hb.elim) (AR2 a W 5 (i+1) r10) (f2u 5 (i+1) (by decide)) (hv10 (i+1)) fun a6 os6 d6 hd6 q1 q2 q3 q4=>hQ _ _ ?_
  have t5:a6.tmps.getD 5 undef=.int .i64 (IntKind.wrap .i64 (((i+1:Nat):Int)+1)):=q4 0 5 (.int .i64) _ rfl rfl rfl
  rw[hJ2]
  refine⟨m2-1,by omega,i+2,k'',M',by omega,by omega,by omega,r2,r3.grow os6 d6,fH r4 hd6,q1,q2,(q3 0 (by simp)).trans r7,(q3 3 (by simp)).trans r8,(q3 4 (by simp)).trans r9,by rw[t5,st (i+1) (by omega)],r11,r12,r13,?_⟩
  rw[r14];congr 2;omega
 have hdrop:∀ M':List D,M'.drop (j+(i+1))=L.drop (j+(i+1))->M'.drop (j+(i+2))=L.drop (j+(i+2)):=fun M' h=>by
  have:=congrArg (List.drop 1) h
  rw[List.drop_drop,List.drop_drop] at this
  rw[show j+(i+2)=j+(i+1)+1 by omega]
  exact this
 by_cases hww:w2.beq x2=true
 ·
  refine wpIn_cond_false (t44.trans (by rw[hww];rfl)) (wpIn_skip ?_)
  simp only[Exit.inBlock,Exit.then]
  rw[if_pos hww] at hded2
  refine tail a10 W10 k' M _ (by omega) g4 hH10 hX10 u1 u2 e10 k10 v10 n10 hMl hMw (hdrop M hMd) ?_ fun a' w' h=>h
  rw[hMt,hded2];congr 2;omega
 have hww':w2.beq x2=false:=by simpa using hww
 rw[if_neg hww] at hded2
 refine wpIn_cond_true (t44.trans (by rw[hww'];rfl)) (wpIn_seq (wpIn_region_list ?_))
 rw[hR12]
 obtain⟨row,hr1,hr2⟩:=hH10.1
 have hwl:(w2.flat.map bn).length=e.size:=by rw[List.length_map];exact bL e w2 hw2w hne
 have hkm:k'*e.size+e.size<=M.length*e.size:=by
  have:(k'+1)*e.size<=M.length*e.size:=Nat.mul_le_mul_right _ (by omega)
  rwa [Nat.add_mul,Nat.one_mul] at this
 have hpos:off+(j+1)*e.size+(i+1)*e.size=off+(j+(i+1)+1)*e.size:=by
  rw[Nat.add_assoc,<-Nat.add_mul];congr 2;omega
 refine cG (cG (cG (cG (vp hls (b:=b) (off:=off+(j+1)*e.size) (len:=L.length-(j+1)) (cap:=cap-(j+1)) (k:=i+1) ?_ ?_ (by omega) (Fo hle (b:=b) (off:=off+(j+1)*e.size+(i+1)*e.size) (cs:=w2.flat.map bn) ?_ hwl (xk hce hw2w) ?_ fun v hv=>
  vp hls (b:=b) (off:=off) (len:=L.length) (cap:=cap) (k:=k') ?_ ?_ hkn (B7 hle (b:=b) (off:=off+k'*e.size) (c:=row) (v:=v) (cs:=w2.flat.map bn) ?_ ?_ hr1 hv hwl (xk hce hw2w) (by rw[hwl];omega) (dJ ?_)))))))
 ·simp only[aH,az,ap,u1,v10,hs2,reduceIte,Nat.reduceLT,Nat.reduceEqDiff]
 ·simp only[aH,az,ap,u1,n10,reduceIte,Nat.reduceLT,Nat.reduceEqDiff]
 ·simp only[aH,az,ap,u1,reduceIte,Nat.reduceLT]
 ·intro i' c' hc'
  rw[hpos]
  exact hH10.elem hne hp hMw hMy i' c' hc'
 ·simp only[aH,az,ap,u1,e10,reduceIte,Nat.reduceLT,Nat.reduceEqDiff]
 ·simp only[aH,az,ap,u1,k10,reduceIte,Nat.reduceLT,Nat.reduceEqDiff]
 ·simp only[aH,az,ap,u1,reduceIte,Nat.reduceLT]
 ·simp only[aH,az,ap,u1,reduceIte,Nat.reduceLT,Nat.reduceEqDiff]
 generalize ha11:Act.put _ (some 51) _=a11
 have hsz11:a11.tmps.size=61:=by rw[<-ha11];simp only[ap,u1]
 have e11:a11.tmps.getD 0 undef=.slice (some ⟨b,off,none⟩) L.length cap:=by rw[<-ha11];simp only[aH,az,ap,u1,e10,reduceIte,Nat.reduceLT,Nat.reduceEqDiff]
 have k11:a11.tmps.getD 3 undef=.int .i64 (k':Nat):=by rw[<-ha11];simp only[aH,az,ap,u1,k10,reduceIte,Nat.reduceLT,Nat.reduceEqDiff]
 have v11:a11.tmps.getD 4 undef=s2v:=by rw[<-ha11];simp only[aH,az,ap,u1,v10,reduceIte,Nat.reduceLT,Nat.reduceEqDiff]
 have n11:a11.tmps.getD 5 undef=.int .i64 ((i+1:Nat):Int):=by rw[<-ha11];simp only[aH,az,ap,u1,n10,reduceIte,Nat.reduceLT,Nat.reduceEqDiff]
 have hd11:a11.defers=[]:=by rw[<-ha11];simp only[aT,u2]
 clear ha11
 have hH11:=hH10.set hne hMw (k:=k') (by omega) hp hw2w
 have hX11:ed r (bo W10 b (off+k'*e.size) (w2.flat.map bn).toArray):=yX hX10 hbo
 generalize bo W10 b (off+k'*e.size) (w2.flat.map bn).toArray=W11 at hH11 hX11 ⊢
 simp only[Exit.then]
 refine gh hE hsz11 hd11 (S:=fun _ _=>False) (fun _ _ hb=>hb.elim) (AR2 a11 W11 3 k' k11) (f2u 3 k' (by decide)) (hv13 k') fun a12 os12 d12 hd12 q1 q2 q3 q4=>?_
 have t3:a12.tmps.getD 3 undef=.int .i64 (IntKind.wrap .i64 ((k':Int)+1)):=q4 0 3 (.int .i64) _ rfl rfl rfl
 simp only[Exit.inBlock,Exit.then]
 refine tail a12 _ (k'+1) (M.set k' w2) _ (by omega) (by omega) (hH11.grow os12 d12) (fH hX11 hd12) q1 q2 ((q3 0 (by simp)).trans e11) (by rw[t3,st k' (by omega)]) ((q3 4 (by simp)).trans v11) ((q3 5 (by simp)).trans n11) (by rw[List.length_set];exact hMl) (fun z hz=>?_) ?_ ?_ fun a' w' h=>h
 ·rcases List.mem_or_eq_of_mem_set hz with hz|rfl
  ·exact hMw z hz
  ·exact hw2w
 ·rw[List.drop_set_of_lt (by omega)];exact hdrop M hMd
 ·have htk:(M.set k' w2).take (k'+1)=(M.set k' w2).take k'++(M.set k' w2)[k']?.toList:=List.take_add_one
  rw[htk,List.take_set_of_le (Nat.le_refl k'),hMt,List.getElem?_set_self (by omega),hded2]
  simp only[Option.toList_some]
  congr 3;omega
end
end Go.Proofs.YtjjjkojfijpeeaaGreat.Sy
end
section
set_option linter.unusedVariables false
namespace Go.Proofs.YtjjjkojfijpeeaaGreat.Sy
open Go Go.Proofs Go.Sort Go.Lib
section
variable{r:Root}{lp:Lp}{call:Nat->List D->Option D}
def F4:Code->Code|.cond _ a _=>a|c=>c
noncomputable def N5:Code:=m8 (kc Tryz.f95)
noncomputable def M0:Code:=inLoop (mU (m8 (pG (m8 N5))))
noncomputable def LW:Code:=mU (pG (m8 M0))
noncomputable def L6:Code:=inLoop (mU (m8 (pG (m8 (F4 (m8 LW))))))
noncomputable def JC:Code:=mU (pG (m8 L6))
theorem Gs{L:List D}:ev (fM lp call) (pG (pG N5)) .leaf D (dS 61 [0] (fun i=>if i=0 then .d (.sl K1) (.sl L) else .undef)) (kW [(8,.bool)])=some (.tup [.bool (decide ((L.length:Int)<2))]):=by kernel_rfl
theorem Gt{L:List D}(k:Nat):ev (fM lp call) (pG (pG M0)) .leaf D (dS 61 [0,3] (Em K1 L k)) (kW [(13,.bool)])=some (.tup [.bool (decide ((k:Int)<(L.length:Nat)))]):=by kernel_rfl
theorem Dk{L:List D}{k:Nat}{x y:D}(hk:k<1073741824)(hx:L[k]?=some x)(hy:L[k+1]?=some y)(g:D->D->Option D):((D.idx (.int .i64 ((k+1:Nat):Int)) L.length).bind fun i=>(L[i]?).bind fun u=>(D.bin .sub (.int .i64 ((k+1:Nat):Int)) (.int .i64 1)).bind fun z=>(D.idx z L.length).bind fun j=>(L[j]?).bind fun v=>g u v)=g y x:=by
 have h1:k+1<L.length:=(List.getElem?_eq_some_iff.1 hy).1
 have e1:D.idx (.int .i64 ((k+1:Nat):Int)) L.length=some (k+1):=by
  simp only[D.idx];rw[if_pos (by omega)];simp
 have e2:D.bin .sub (.int .i64 ((k+1:Nat):Int)) (.int .i64 1)=some (.int .i64 (k:Nat)):=by
  simp only[D.bin,if_true]
  rw[show((k+1:Nat):Int)-1=(k:Nat) by omega,lX (by omega) (by omega)]
 have e3:D.idx (.int .i64 (k:Nat)) L.length=some k:=by
  simp only[D.idx];rw[if_pos (by omega)];simp
 rw[e1,Option.bind_some,hy,Option.bind_some,e2,Option.bind_some,e3,Option.bind_some,hx,Option.bind_some]
theorem GJ{L:List D}(k:Nat)(x y:D)(hk:k<1073741824)(hx:L[k]?=some x)(hy:L[k+1]?=some y):ev (fM lp call) (pG LW) (.reg [] 9) D (dS 61 [0,3] (Em K1 L (k+1))) (kW [(25,.bool)])=some (.tup [.bool (y.beq x)]):=by
 have:ev (fM lp call) (pG LW) (.reg [] 9) D (dS 61 [0,3] (Em K1 L (k+1))) (kW [(25,.bool)])=((D.idx (.int .i64 ((k+1:Nat):Int)) L.length).bind fun i=>(L[i]?).bind fun u=>(D.bin .sub (.int .i64 ((k+1:Nat):Int)) (.int .i64 1)).bind fun z=>(D.idx z L.length).bind fun j=>(L[j]?).bind fun v=>some (.tup [.bool (D.beq u v)])):=by kernel_rfl
 rw[this]
 exact Dk hk hx hy fun u v=>some (.tup [.bool (D.beq u v)])
theorem Gz(k:Nat):ev (fM lp call) (m8 (m8 M0)) .leaf D (dS 61 [0] (Dt 3 k)) (kW [(3,.int .i64)])=some (.tup [.int .i64 (IntKind.wrap .i64 ((k:Int)+1))]):=by kernel_rfl
theorem EL(k:Nat):ev (fM lp call) (m8 (F4 (m8 JC))) .leaf D (dS 61 [0,4,5] (Dt 3 k)) (kW [(3,.int .i64)])=some (.tup [.int .i64 (IntKind.wrap .i64 ((k:Int)+1))]):=by kernel_rfl
theorem Fq(k:Nat):ev (fM lp call) (m8 (m8 L6)) .leaf D (dS 61 [0,3,4] (Dt 5 k)) (kW [(5,.int .i64)])=some (.tup [.int .i64 (IntKind.wrap .i64 ((k:Int)+1))]):=by kernel_rfl
theorem Hf(N:List D)(k:Nat):ev (fM lp call) (pG (pG L6)) .leaf D (dS 61 [0,3,4,5] (Dv K1 N k)) (kW [(32,.bool)])=some (.tup [.bool (decide ((k:Int)<(N.length:Nat)))]):=by kernel_rfl
theorem Ep(N:List D)(k:Nat)(x y:D)(hk:k<1073741824)(hx:N[k]?=some x)(hy:N[k+1]?=some y):ev (fM lp call) (pG JC) (.reg [] 9) D (dS 61 [0,3,4,5] (Dv K1 N (k+1))) (kW [(44,.bool)])=some (.tup [.bool (!(y.beq x))]):=by
 have:ev (fM lp call) (pG JC) (.reg [] 9) D (dS 61 [0,3,4,5] (Dv K1 N (k+1))) (kW [(44,.bool)])=((D.idx (.int .i64 ((k+1:Nat):Int)) N.length).bind fun i=>(N[i]?).bind fun u=>(D.bin .sub (.int .i64 ((k+1:Nat):Int)) (.int .i64 1)).bind fun z=>(D.idx z N.length).bind fun j=>(N[j]?).bind fun v=>some (.tup [.bool (!(D.beq u v))])):=by kernel_rfl
 rw[this]
 exact Dk hk hx hy fun u v=>some (.tup [.bool (!(D.beq u v))])
theorem Ay(hE:EnvOk Tryz.prog (fM lp call)){L:List D}(hwt:∀ x∈L,wt K1 x)(hlen:L.length<=1073741824){W0:World}(hX:ed r W0){S0:Nat->Nat->Prop}(hSb0:∀ b o,S0 b o->b<W0.heap.size)(hSo0:∀ b o,S0 b o->r.Old b->r.S0 b o){sv:Value}(hsv:eZ W0 S0 (.sl L) sv)(hown:2<=L.length->∃ b off cap,sv=.slice (some ⟨b,off,none⟩) L.length cap/\HL K1 W0 b off L/\¬ r.Old b) :
  Calls Tryz.prog 95 #[sv] W0 fun en W'=>∃ v,en=.returned v/\∃ S',ed r W'/\eZ W' S' (.sl (jN L)) v/\(∀ b o,S' b o->b<W'.heap.size)/\(∀ b o,S' b o->r.Old b->r.S0 b o):=
 wR hE rfl rfl (by decide) hwt hlen (fn:=Tryz.f95) (by kernel_rfl) rfl rfl rfl (Ts:=22) (Te:=60) (by kernel_rfl) (by kernel_rfl) rfl rfl rfl rfl rfl rfl rfl rfl rfl Gs Gt GJ Gz EL Fq Hf Ep hX hSb0 hSo0 hsv hown
end
end Go.Proofs.YtjjjkojfijpeeaaGreat.Sy
end
section
set_option linter.unusedVariables false
namespace Go.Proofs.YtjjjkojfijpeeaaGreat.Sy
open Go Go.Proofs Go.Sort Go.Lib
def WS(E:Env)(g:Nat)(l:List D):Prop:=l.Pairwise fun x y=>mw E g y x=false
section
variable{P:Program}{E:Env}
theorem Al{g:Nat}{k:List D}(hc:kp E g k=true):∀ {a b:List D},a.Perm b->WS E g a->WS E g b->(∀ x∈a,x∈k)->a=b:=by
 intro a
 induction a with
 | nil=>intro b hp _ _ _;exact hp.symm.eq_nil.symm ▸ rfl
 | cons x a ih=>
  intro b hp ha hb hm
  cases b with
  | nil=>exact absurd hp.eq_nil (by simp)
  | cons y b=>
   obtain⟨a1,a2⟩:=List.pairwise_cons.1 ha
   obtain⟨b1,b2⟩:=List.pairwise_cons.1 hb
   have e:x=y:=by
    rcases List.mem_cons.1 (hp.subset List.mem_cons_self) with e|m1
    ·exact e
    ·rcases List.mem_cons.1 (hp.symm.subset (List.mem_cons_self (a:=y))) with e|m2
     ·exact e.symm
     ·have h1:=b1 x m1
      have h2:=a1 y m2
      obtain⟨i,hi1,hi2⟩:=List.getElem_of_mem (hm x List.mem_cons_self)
      obtain⟨j,hj1,hj2⟩:=List.getElem_of_mem (hm y (List.mem_cons_of_mem _ m2))
      have ei:k[i]?=some x:=by rw[List.getElem?_eq_getElem hi1,hi2]
      have ej:k[j]?=some y:=by rw[List.getElem?_eq_getElem hj1,hj2]
      have q1:¬ i<j:=fun h=>by rw[(du hc ei ej).1.2 h] at h1;cases h1
      have q2:¬ j<i:=fun h=>by rw[(du hc ej ei).1.2 h] at h2;cases h2
      have:i=j:=by omega
      subst this
      rw[ei] at ej;cases ej;rfl
   subst e
   rw[ih ((List.perm_cons x).1 hp) a2 b2 (fun z hz=>hm z (List.mem_cons_of_mem _ hz))]
theorem xN(hE:EnvOk P E){f:Nat}{e:Ty}(hf:SortOk P f e){g:Nat}(hsig:E.sig g=some ([e,e],.int .i64)){l k:List D}(hwt:∀ x∈l,wt e x)(hchk:kp E g k=true)(hmem:∀ x∈l,x∈k)(hkm:∀ x∈k,x∈l)(hne:l≠[]){w:World}{b off cap:Nat}{row:Array Value}
  (hr:bE w b=some row) (hc:∀ (i:Nat) (d:D),(D.flats l)[i]?=some d->w.cell? ⟨b,off+i,none⟩=some (bn d)) (hlen:l.length<4611686018427387904) :
  Calls P f #[.slice (some ⟨b,off,none⟩) l.length cap,.func (.func g) #[] #[]] w fun en w'=>en=.returned (.tuple #[])/\∃ l',l'.Perm l/\WS E g l'/\(∃ row',bE w' b=some row'/\row'.size=row.size)/\w.drawn<=w'.drawn/\w'.tape=w.tape/\w'.os=w.os/\w'.output=w.output/\w.heap.size<=w'.heap.size ∧
   (∀ b',b'≠b->b'<w.heap.size->w'.heap[b']?=w.heap[b']?)/\∀ (i:Nat) (d:D),(D.flats l')[i]?=some d->w'.cell? ⟨b,off+i,none⟩=some (bn d):=by
 have hwt':∀ x∈k,wt e x:=fun x hx=>hwt x (hkm x hx)
 obtain⟨x0,hx0⟩:∃ x0,x0∈k:=by
  cases l with
  | nil=>exact absurd rfl hne
  | cons x l=>exact⟨x,hmem x List.mem_cons_self⟩
 have hinh:Inhabited {d:D // d∈k}:=⟨⟨x0,hx0⟩⟩
 have hfl:∀ x:{d:D // d∈k},x.1.flat.length=e.size:=fun x=>bL e x.1 (hwt' x.1 x.2) hf.nt
 have hleaf:∀ x:{d:D // d∈k},∀ d∈x.1.flat,gI d=true:=fun x=>fo e x.1 hf.cmp (hwt' x.1 x.2)
 obtain⟨d,hd⟩:∃ d:Array {d:D // d∈k},d.toList.map (·.1)=l:=⟨(l.pmap Subtype.mk hmem).toArray,by simp[List.map_pmap]⟩
 have hds:d.size=l.length:=by rw[<-hd];simp
 have hbs:b<w.heap.size:=by
  unfold bE at hr
  cases hb:w.heap[b]? with
  | none=>rw[hb] at hr;cases hr
  | some o=>exact(Array.getElem?_eq_some_iff.1 hb).1
 have hfro:∀ o,w.frozen? ⟨b,o,none⟩=false:=fun o=>by
  unfold bE at hr
  split at hr
  ·rename_i c t hb
   unfold World.frozen?
   simp[hb]
  ·cases hr
 have at_:∀ (dd:Array {d:D // d∈k}) (t:Nat),t<dd.size*e.size->(D.flats (dd.toList.map (·.1)))[t]?.map bn=some ((flatK (fun x:{d:D // d∈k}=>x.1.flat.map bn) e.size dd)[t]!):=fun dd t ht=>by
  rw[get_flatK _ _ _ _ ht,gW hf.pos _ (fun x hx=>by
   obtain⟨y,_,rfl⟩:=List.mem_map.1 hx
   exact hfl y)]
  have h1:t/e.size<dd.size:=(Nat.div_lt_iff_lt_mul hf.pos).2 ht
  have h2:t%e.size<e.size:=Nat.mod_lt _ hf.pos
  rw[List.getElem?_map,Array.getElem?_toList,Array.getElem?_eq_getElem h1,getElem!_pos dd _ h1]
  simp only[Option.map_some,Option.bind_some]
  have h3:t%e.size<(dd[t/e.size]).1.flat.length:=by rw[hfl];exact h2
  rw[List.getElem?_eq_getElem h3,getElem!_pos _ _ (by simpa using h3)]
  simp
 have hH:HoldsK (fun x:{d:D // d∈k}=>x.1.flat.map bn) e.size w b off d:=by
  intro j hj
  rw[size_flatK] at hj
  refine⟨?_,hfro _⟩
  have:=at_ d j hj
  rw[hd] at this
  cases hq:(D.flats l)[j]? with
  | none=>rw[hq] at this;cases this
  | some q=>
   rw[hq] at this
   simp only[Option.map_some,Option.some.injEq] at this
   rw[hc j q hq,this];rfl
 have hcmp:CmpLays P g #[] (fun x:{d:D // d∈k}=>x.1.flat.map bn) e.size (wQ E g k) b off d.size w:=by
  intro m os dk _ x y
  obtain⟨i,hi1,hi2⟩:=List.getElem_of_mem x.2
  obtain⟨j,hj1,hj2⟩:=List.getElem_of_mem y.2
  obtain⟨_,n,hn⟩:=du hchk (i:=i) (j:=j) (x:=x.1) (y:=y.1) (by rw[List.getElem?_eq_getElem hi1,hi2]) (by rw[List.getElem?_eq_getElem hj1,hj2])
  have hcall:E.call g [x.1,y.1]=some (.int .i64 n):=by
   unfold sd at hn
   obtain⟨r,h1,h2⟩:=bind_some_inv hn
   rw[h1]
   split at h2
   ·cases h2;rfl
   ·cases h2
  have hcf:wQ E g k x y=n:=by simp[wQ,hn]
  rw[hcf]
  have shpa:∀ z:{d:D // d∈k},∀ (w:World) (S:Nat->Nat->Prop),eZ w S z.1 (.agg (z.1.flat.map bn).toArray):=fun z w S=>by
   refine⟨?_,?_⟩
   ·have hz:=hwt' z.1 z.2
    have ha:=hf.agg
    cases e<;>simp only[cH] at ha<;>first|(cases ha;done)|skip
    ·simp only[wt] at hz;obtain⟨ll,h1,_⟩:=hz;rw[h1];exact⟨_,rfl⟩
    ·simp only[wt] at hz;obtain⟨ll,h1,_⟩:=hz;rw[h1];exact⟨_,rfl⟩
   ·exact(bJ (hleaf z)).2 (by simp[Value.cells])
  have hw2:gt [e,e] [x.1,y.1]:=⟨x.1,[y.1],rfl,hwt' _ x.2,⟨y.1,[],rfl,hwt' _ y.2,rfl⟩⟩
  have hctr:=hE.call g [e,e] (.int .i64) [x.1,y.1] (.int .i64 n) hsig hcall hw2
   (sortWorldK (fun x:{d:D // d∈k}=>x.1.flat.map bn) e.size w b off m dk os) (fun _ _=>False) [.agg (x.1.flat.map bn).toArray,.agg (y.1.flat.map bn).toArray] (fun _ _ h=>h.elim) hw2 rfl
   (fun i z v hz hv=>by
    cases i with
    | zero=>simp at hz hv;subst hz;subst hv;exact shpa x _ _
    | succ i=>cases i with
     | zero=>simp at hz hv;subst hz;subst hv;exact shpa y _ _
     | succ i=>simp at hz)
  refine hctr.mono ?_
  rintro en w' ⟨v,rfl,⟨os',dr,hdr,rfl⟩,_,hv⟩
  have hv':v=.int .i64 n:=by
   obtain⟨c1,c2⟩:=(hv:eZ _ _ _ _)
   have:=(bJ (by intro d hd;simp only[D.flat,List.mem_singleton] at hd;subst hd;rfl)).1 c2
   exact aq c1 (by simpa [D.flat,bn] using this)
  refine⟨by rw[hv'],dr-(sortWorldK (fun x:{d:D // d∈k}=>x.1.flat.map bn) e.size w b off m dk os).drawn,os'.toArray,?_⟩
  unfold aA grow World.drewN
  simp only[show ∀ a b:Nat,a<=b->a+(b-a)=b from fun a b h=>by omega,hdr]
 have hO:SWO (ltOf (wQ E g k)):=yJ hchk
 have key:=hf.whole {d:D // d∈k} (fun x=>x.1.flat.map bn) (fun x=>by simp[hfl x]) (fun x v hv=>by
   obtain⟨q,hq,rfl⟩:=List.mem_map.1 hv
   have:=hleaf x q hq
   cases q<;>simp only[gI] at this<;>first|(cases this;done)|rfl) (wQ E g k) hO g b off cap d w (rK hE hsig) hcmp hH hbs (by omega)
 rw[hds] at key
 refine key.mono ?_
 rintro en w' ⟨rfl,d',n,os,hp,hso,rfl⟩
 rw[<-hds] at hp hso
 have hd's:d'.size=d.size:=hp.1
 have hH':=holdsK_sortWorldK_c (fun x:{d:D // d∈k}=>x.1.flat.map bn) e.size w b off d d' n os hH hbs hd's
 have hpm:(d'.toList.map (·.1)).Perm l:=by
  obtain⟨p1,_,p3⟩:=hp
  have q:d'.toList.Perm d.toList:=by
   have e1:d'.extract 0 d.size=d':=by rw[<-p1];simp
   rw[e1] at p3
   simpa using p3
  have:=q.map (·.1)
  rwa [hd] at this
 refine⟨rfl,d'.toList.map (·.1),hpm,?_,?_,?_,rfl,rfl,rfl,?_,fun b' hb hb'=>?_,fun i q hq=>?_⟩
 ·rw[WS,List.pairwise_iff_getElem]
  intro i j hi hj hij
  simp only[List.length_map,Array.length_toList] at hi hj
  have h1:=hso i j (Nat.zero_le _) hij (by omega)
  rw[getElem!_pos d' j hj,getElem!_pos d' i hi,qa] at h1
  simpa using h1
 ·unfold bE at hr ⊢
  split at hr<;>first|(cases hr;done)|skip
  rename_i c t hbk
  cases hr
  have:(sortWorldK (fun x:{d:D // d∈k}=>x.1.flat.map bn) e.size w b off n d' os).heap[b]?=some (.cells (putCells id off (flatK (fun x:{d:D // d∈k}=>x.1.flat.map bn) e.size d') row) t (0,0)):=by
   simp only[sortWorldK,grow,putRowK,putRow,mapBlock,Go.Sort.ahead]
   rw[Array.getElem?_append_left (by simpa using hbs),Array.getElem?_modify,if_pos rfl,hbk]
   rfl
  rw[this]
  exact⟨_,rfl,by simp[putCells]⟩
 ·show w.drawn<=w.drawn+n;omega
 ·simp only[sortWorldK,grow,putRowK,putRow,mapBlock,Go.Sort.ahead,Array.size_append,Array.size_modify];omega
 ·simp only[sortWorldK,grow,putRowK,putRow,mapBlock,Go.Sort.ahead]
  rw[Array.getElem?_append_left (by simpa using hb'),Array.getElem?_modify,if_neg (Ne.symm hb)]
 ·have hi:i<d'.size*e.size:=by
   have h1:=(List.getElem?_eq_some_iff.1 hq).1
   rw[ay hf.nt _ fun x hx=>hwt x (hpm.subset hx)] at h1
   simpa using h1
  have h2:=at_ d' i hi
  rw[hq] at h2
  simp only[Option.map_some,Option.some.injEq] at h2
  have h3:=(hH' i (by rw[size_flatK];exact hi)).1
  rw[h3,<-h2];rfl
end
end Go.Proofs.YtjjjkojfijpeeaaGreat.Sy
end
section
set_option linter.unusedVariables false
namespace Go.Proofs.YtjjjkojfijpeeaaGreat.Sy
open Go Go.Proofs Go.Sort Go.Lib
theorem nr(x:D):∀ (l:List D),∀ y∈l,y∈x::ka x l
 | [],y,h=>by simp at h
 | z::l,y,h=>by
  simp only[ka]
  by_cases hz:z.beq x=true
  ·have e:=ug z x hz
   subst e
   rw[if_pos hz]
   rcases List.mem_cons.1 h with rfl|h
   ·exact List.mem_cons_self
   ·exact nr z l y h
  ·rw[if_neg hz]
   rcases List.mem_cons.1 h with rfl|h
   ·simp
   ·exact List.mem_cons_of_mem _ (nr z l y h)
theorem vE:∀ (l:List D),∀ y∈l,y∈jN l
 | [],y,h=>by simp at h
 | x::l,y,h=>by
  simp only[jN]
  rcases List.mem_cons.1 h with rfl|h
  ·exact List.mem_cons_self
  ·exact nr x l y h
section
variable{P:Program}{E:Env}{r:Root}
theorem um{g:Nat}:∀ (l:List D) (x:D),kp E g (x::ka x l)=true->WS E g (x::l)
 | [],x,_=>by simp[WS]
 | y::l,x,h=>by
  have hs:=gX h
  simp only[ka] at h hs
  by_cases hy:y.beq x=true
  ·have e:=ug y x hy
   subst e
   rw[if_pos hy] at h hs
   have ih:=um l y h
   refine List.pairwise_cons.2 ⟨fun z hz=>?_,ih⟩
   rcases List.mem_cons.1 hz with rfl|hz
   ·exact vk (hs.2 z List.mem_cons_self)
   ·exact(List.pairwise_cons.1 ih).1 z hz
  ·rw[if_neg hy] at h hs
   have h':kp E g (y::ka y l)=true:=by
    simp only[kp,Bool.and_eq_true] at h ⊢
    exact h.2
   refine List.pairwise_cons.2 ⟨fun z hz=>?_,um l y h'⟩
   have hz':z∈y::ka y l:=by
    rcases List.mem_cons.1 hz with rfl|hz
    ·exact List.mem_cons_self
    ·exact nr y l z hz
   exact vk ((List.pairwise_cons.1 hs.1).1 z hz').2
theorem pR{g:Nat}{l l':List D}(h:uS E g l=some l'):l'.Perm l/\kp E g (jN l')=true/\WS E g l':=by
 unfold uS at h
 split at h<;>first|(cases h;done)|skip
 rename_i hc
 cases h
 refine⟨fh _ l,hc,?_⟩
 generalize iw (mw E g) l=m at hc
 cases m with
 | nil=>simp[WS]
 | cons x m=>exact um m x hc
theorem wJ(hE:EnvOk P E){f:Nat}{e:Ty}(hf:SortOk P f e){g:Nat}(hsig:E.sig g=some ([e,e],.int .i64)){x:Nat}{S:Nat->Nat->Prop}{γ:Nat->Option Nat}{β:Nat->Option (Nat×Nat)}{s:St}{a:Act}{w:World}(h:Rp r S γ β s a w)
  {l l':List D} (hv:cu s e x=some l) (hs:uS E g l=some l') :
  Calls P f #[a.tmps.getD x undef,.func (.func g) #[] #[]] w fun en w1=>(∃ v,en=.returned v)/\∃ S',ed r w1/\eZ w1 S' (.sl l') (a.tmps.getD x undef)/\(∀ b o,S' b o->b<w1.heap.size)/\(∀ b o,S' b o->r.Old b->r.S0 b o)/\(2<=l'.length->∃ b off cap,a.tmps.getD x undef=.slice (some ⟨b,off,none⟩) l'.length cap/\HL e w1 b off l'/\¬ r.Old b):=by
 have hx:x<s.nt:=by
  rcases Nat.lt_or_ge x s.nt with k|k
  ·exact k
  ·unfold cu at hv;rw[h.tmu x k] at hv;cases hv
 have hax:AR ⟨w,S,γ,β,s.ob,s.dead⟩ (s.tm x) (a.tmps.getD x undef):=h.tms x (by rw[h.nt];exact hx)
 obtain⟨ad,cap,val,hwt,hcr,hown⟩:∃ ad cap,a.tmps.getD x undef=.slice ad l.length cap/\(∀ y∈l,wt e y)/\CR w S (.sl l) (.slice ad l.length cap)/\(l≠[]->∃ b off row,ad=some ⟨b,off,none⟩/\bE w b=some row/\off+l.length*e.size<=row.size/\¬ r.Old b/\b<w.heap.size)/\l.length<=1073741824:=by
  unfold cu at hv
  split at hv
  ·rename_i e' v l0 htm
   split at hv
   ·rename_i hb
    simp only[Bool.and_eq_true,Bool.not_eq_true',decide_eq_true_eq] at hb
    obtain⟨⟨hb1,hb2⟩,hb3⟩:=hb
    cases hv
    have:=Ty.eq_of_beq _ _ hb1;subst this
    rw[htm] at hax
    simp only[AR,AC] at hax
    obtain⟨n0,n1,n2,ad,cap,n3,n4,n5⟩:=hax
    have hval:=aq n0 n3
    have hdead:v ∉ s.dead:=by simpa using hb2
    refine⟨ad,cap,hval,n2,n4,fun hne=>?_,hb3⟩
    rcases n5 hdead with⟨q1,q2⟩|⟨b,off,q1,q2,n,q3,q4⟩
    ·exfalso
     obtain⟨_,_,b,off,e1,e2,e3,e4⟩:=n4.elems
     cases e1
     rcases e2 with e2|e2
     ·exact hne e2
     ·rw[q1] at e2;cases e2
    ·obtain⟨k1,k2,_⟩:=h.βn v b _ hdead q2
     unfold nE at q3
     cases hr:bE w b with
     | none=>rw[hr] at q3;cases q3
     | some row=>
      rw[hr] at q3
      simp only[Option.map_some,Option.some.injEq] at q3
      have hlc:l.length<=cap:=by
       obtain⟨_,_,_,_,e1,_,e3,_⟩:=n4.elems
       cases e1;exact e3
      have:=Nat.mul_le_mul_right e'.size hlc
      exact⟨b,off,row,q1,hr,by omega,k1,k2⟩
   ·cases hv
  ·rename_i htm
   cases hv
   rw[htm] at hax
   simp only[AR,AC] at hax
   have hval:=aq hax.1 hax.2
   exact⟨none,0,hval,by simp,CR.of_elems (b:=0) (off:=0) (.inl rfl) (Nat.le_refl _) ⟨[],cR.nil,by simp⟩,fun h=>absurd rfl h,by simp⟩
  ·cases hv
 obtain⟨hown,hlen⟩:=hown
 obtain⟨hperm,hchk,hws⟩:=pR hs
 have hll:l'.length=l.length:=hperm.length_eq
 have hwt':∀ y∈l',wt e y:=fun y hy=>hwt y (hperm.subset hy)
 rw[val]
 by_cases hne:l=[]
 ·subst hne
  have e0:l'=[]:=by cases l' with|nil=>rfl|cons y l'=>simp at hll
  subst e0
  refine(hf.empty ad cap _ w).mono ?_
  rintro en w1 ⟨rfl,rfl⟩
  exact⟨⟨_,rfl⟩,S,h.ext,jG hcr,h.Sb,h.So,fun h=>by simp at h⟩
 ·obtain⟨b,off,row,rfl,hr,hrs,hold,hbs⟩:=hown hne
  have hcell:∀ (i:Nat) (d:D),(D.flats l)[i]?=some d->w.cell? ⟨b,off+i,none⟩=some (bn d):=by
   obtain⟨_,_,b',off',e1,e2,e3,cs,e4,e5⟩:=hcr.elems
   cases e1
   rcases e2 with e2|e2
   ·exact absurd e2 hne
   ·cases e2
    have hleaf:=fl hf.cmp l hwt
    have:=(bJ hleaf).1 e4
    subst this
    intro i d hd
    exact(e5 i (bn d) (by rw[List.getElem?_map,hd];rfl)).2
  refine(xN hE hf hsig hwt hchk (fun x hx=>vE _ x (hperm.symm.subset hx)) (fun x hx=>hperm.subset (xa _ x hx)) hne (b:=b) (off:=off) (cap:=cap) hr hcell (by omega)).mono ?_
  rintro en w1 ⟨rfl,l2,hp2,hw2,⟨row',hr',hrz⟩,q1,q2,q3,q4,q5,q6,q7⟩
  have e2:l2=l':=Al hchk (hp2.trans hperm.symm) hw2 hws fun x hx=>vE _ x (hperm.symm.subset (hp2.subset hx))
  subst e2
  refine⟨⟨_,rfl⟩,fun b' o=>(S b' o/\b'≠b)\/(b'=b/\off<=o/\o<off+(D.flats l2).length),?_,?_,?_,?_,?_⟩
  ·refine ko h.ext q2 q3 q4 q5 q1 fun b' hb'=>q6 b' (fun e=>hold (e ▸ hb')) (Nat.lt_of_lt_of_le hb'.1 h.ext.sz)
  ·refine jG ?_
   rw[<-hll]
   refine CR.of_elems (b:=b) (off:=off) (.inr rfl) (by obtain⟨_,_,_,_,e1,_,e3,_⟩:=hcr.elems;cases e1;rw[hll];exact e3) ⟨(D.flats l2).map bn,?_,fun i c hc=>?_⟩
   ·exact(bJ (fl hf.cmp l2 hwt')).2 rfl
   ·rw[List.getElem?_map] at hc
    cases hd:(D.flats l2)[i]? with
    | none=>rw[hd] at hc;cases hc
    | some d=>
     rw[hd] at hc
     simp only[Option.map_some,Option.some.injEq] at hc
     subst hc
     exact⟨.inr ⟨rfl,by omega,by have:=(List.getElem?_eq_some_iff.1 hd).1;omega⟩,q7 i d hd⟩
  ·rintro b' o (⟨hb',_⟩|⟨rfl,_,_⟩)
   ·exact Nat.lt_of_lt_of_le (h.Sb b' o hb') q5
   ·exact Nat.lt_of_lt_of_le hbs q5
  ·rintro b' o (⟨hb',_⟩|⟨rfl,_,_⟩) ho
   ·exact h.So b' o hb' ho
   ·exact absurd ho hold
  ·intro _
   exact⟨b,off,cap,by rw[hll],⟨⟨row',hr',by rw[hrz,hll];exact hrs⟩,fun i d hd=>q7 i d hd⟩,hold⟩
end
end Go.Proofs.YtjjjkojfijpeeaaGreat.Sy
end
section
set_option linter.unusedVariables false
namespace Go.Proofs.YtjjjkojfijpeeaaGreat.Sy
open Go Go.Proofs Go.Sort Go.Lib
theorem J9 : ∃ fn, Tryz.prog.funcs[95]? = some fn /\ (fn.name == "runtime.NumGoroutine") = false /\ fn.body.isSome = true := uC (by kernel_rfl)
theorem Gi{lp:Lp}{call:Nat->List D->Option D}{l:List D}:ev (fM lp call) (pG (kc Tryz.f93)) .leaf D (dS 4 [] (fun i=>if i=0 then .d (.sl K1) (.sl l) else .undef)) (yV (.sl K1) 1)=some (.sl l):=by kernel_rfl
theorem N3{lp:Lp}(hlp:au lp):ae 44 (qt lp):=by
 intro call hc ptys rty' xs y hs hy hw
 have:ns 44=some ([K2],K2):=by kernel_rfl
 rw[this] at hs;cases hs
 obtain⟨a0,l0,rfl,hwa,hl0⟩:=hw
 have hl0':l0=[]:=hl0
 subst hl0'
 obtain⟨l,rfl,hwt⟩:=hwa
 simp only[qt] at hy
 split at hy<;>first|(cases hy;done)|skip
 rename_i hlen
 have hlen:l.length<=1073741824:=by simpa using hlen
 obtain⟨l',hsd,hy⟩:=bind_some_inv hy
 cases hy
 have hE:EnvOk Tryz.prog (fM lp call):=EE hlp hc
 obtain⟨hperm,_,_⟩:=pR hsd
 have hwt':∀ x∈l',wt K1 x:=fun x hx=>hwt x (hperm.subset hx)
 intro w S vs hS _ hlv hvs
 obtain⟨v0,rfl⟩:∃ v0,vs=[v0]:=by
  match vs,hlv with
  | [v],_=>exact⟨v,rfl⟩
 have hv0:=hvs 0 _ v0 rfl rfl
 have s94:(fM lp call).sig 94=some ([K1,K1],.int .i64):=by kernel_rfl
 refine xr (f:=44) (f93:=93) (f92:=92) (f95:=95) (g:=94) (fn:=Tryz.f44) (K1:=yW w S l 151)
  (K2:=fun v w2=>∃ S',ed (cE w S) w2/\eZ w2 S' (.sl l') v/\(∀ b o,S' b o->b<w2.heap.size)/\(∀ b o,S' b o->b<w.heap.size->S b o)/\(2<=l'.length->∃ b off cap,v=.slice (some ⟨b,off,none⟩) l'.length cap/\HL Sy.K1 w2 b off l'/\¬ (cE w S).Old b))
  (K3:=fun v w'=>(∃ os d,w.drawn<=d/\w'=aA w os d)/\wt Sy.K2 (.sl (jN l'))/\DR w' (fun b o=>S b o\/(w.heap.size<=b/\b<w'.heap.size)) (.sl (jN l')) v) (by kernel_rfl) rfl rfl rfl rfl rfl rfl Mo JF J9 ?_ ?_ ?_
 ·exact yo hE (e:=Sy.K1) rfl hwt (fn:=Tryz.f93) (by kernel_rfl) rfl rfl rfl rfl Gi hS hv0
 ·rintro v w1 ⟨B,S1,sv,rfl,hX,hcell,hB,hcr,hSb,hSo⟩
  have hIt:BM Tryz.prog (cE w1 S1) Sy.K1 l 151 #[.pointer (some ⟨B,0,none⟩)]:=DJ hE hwt hlen hSb (fun W hW=>by
   have:=hW.old B ⟨hB,fun hf=>hf⟩
   simp only[World.cell?,this]
   exact hcell) hcr
  have hx1:ed (cE w1 S1) w1:=⟨rfl,rfl,rfl,Nat.le_refl _,Nat.le_refl _,fun _ _=>rfl⟩
  refine qT (f150:=150) (g:=94) wL.fn (K0:=nX (cE w1 S1) Sy.K1 l) ?_ (f:=92) (f149:=149) (fn:=Tryz.f92) (by kernel_rfl) rfl rfl rfl rfl rfl rfl rfl Io (yF hE hwt hlen hIt hx1)
  intro v w2 hv
  obtain⟨X,S2,β,hX2,hR⟩:=hv.at (a:=⟨#[v],[]⟩) (nt:=1) (t:=0) rfl Nat.one_pos rfl rfl
  refine(wJ hE wL s94 hR (As hX2 hlen) hsd).mono ?_
  rintro en w3 ⟨⟨u,rfl⟩,S',q1,q2,q3,q4,q5⟩
  refine⟨u,rfl,S',hX.trans q1,q2,q3,fun b o hb hlt=>?_,fun h2=>?_⟩
  ·have h1:b<w1.heap.size:=Nat.lt_of_lt_of_le hlt hX.sz
   exact hSo b o (q4 b o hb ⟨h1,fun hf=>hf⟩) hlt
  ·obtain⟨b,off,cap,z1,z2,z3⟩:=q5 h2
   exact⟨b,off,cap,z1,z2,fun ho=>z3 ⟨Nat.lt_of_lt_of_le ho.1 hX.sz,fun hf=>hf⟩⟩
 ·rintro v w2 ⟨S',q1,q2,q3,q4,q5⟩
  refine(Ay (r:=cE w S) hE hwt' (by rw[hperm.length_eq];exact hlen) q1 q3 (fun b o hb ho=>q4 b o hb ho.1) q2 q5).mono ?_
  rintro en w3 ⟨u,rfl,S3,k1,k2,k3,k4⟩
  refine⟨u,rfl,cj k1 (fun _ hf=>hf),⟨_,rfl,fun x hx=>hwt' x (xa _ x hx)⟩,(DR.of0 k2).mono (fun _ _ _=>rfl) fun b o hb=>?_⟩
  rcases Nat.lt_or_ge b w.heap.size with hlt|hge
  ·exact .inl (k4 b o hb ⟨hlt,fun hf=>hf⟩)
  ·exact .inr ⟨hge,k3 b o hb⟩
end Go.Proofs.YtjjjkojfijpeeaaGreat.Sy
end
section
namespace Go.Proofs.YtjjjkojfijpeeaaGreat.Sy
open Go Go.Proofs Go.Proofs.YtjjjkojfijpeeaaGreat.Geo
theorem F9{d:D}(h:wt K1 d):∃ v:V,d=ac v:=by
 obtain⟨l,rfl,hl,h⟩:=h
 match l,hl with
 | [a,b,c],_=>
  obtain⟨x,rfl⟩:=h a (by simp)
  obtain⟨y,rfl⟩:=h b (by simp)
  obtain⟨z,rfl⟩:=h c (by simp)
  exact⟨⟨x,y,z⟩,rfl⟩
theorem Ir{d:D}(h:wt K2 d):∃ l:List V,d=aP l:=by
 obtain⟨l,rfl,h⟩:=h
 have key:∀ l:List D,(∀ x∈l,wt K1 x)->∃ m:List V,l=m.map ac:=by
  intro l
  induction l with
  | nil=>intro _;exact⟨[],rfl⟩
  | cons x l ih=>
   intro h
   obtain⟨v,rfl⟩:=F9 (h x (by simp))
   obtain⟨m,rfl⟩:=ih fun y hy=>h y (by simp[hy])
   exact⟨v::m,rfl⟩
 obtain⟨m,rfl⟩:=key l h
 exact⟨m,rfl⟩
theorem HX{d:D}(h:wt K3 d):∃ l:List V,d=cd l:=by
 obtain⟨l,rfl,d,l',rfl,h1,h2⟩:=h
 have h2':l'=[]:=h2
 subst h2'
 obtain⟨m,rfl⟩:=Ir h1
 exact⟨m,rfl⟩
end Go.Proofs.YtjjjkojfijpeeaaGreat.Sy
end
section
namespace Go.Proofs.YtjjjkojfijpeeaaGreat.Sy
open Go Go.Proofs Go.Proofs.YtjjjkojfijpeeaaGreat.Geo
noncomputable def wg(k:Nat)(f:Nat)(xs:List D):Option D:=if f=10 then vi (NW 2000) 20 10 xs else cA k f xs
theorem Dl(k:Nat):jH Tryz.prog (wg k):=by
 intro f ptys rty xs y hs hy hw
 unfold wg at hy
 split at hy
 ·rename_i hf
  subst hf
  exact pO (tv 2000) (N3 (tv 2000)) 20 10 ptys rty xs y hs hy hw
 ·exact pO lJ (N3 lJ) k f ptys rty xs y hs hy hw
end Go.Proofs.YtjjjkojfijpeeaaGreat.Sy
end
section
set_option linter.unusedVariables false
namespace Go.Proofs.YtjjjkojfijpeeaaGreat.Sy
open Go Go.Proofs Go.Proofs.YtjjjkojfijpeeaaGreat.Geo
abbrev FL:=List ((V×Int)×List Nat)
def aI(L:FL):List D:=L.map fun f=>j4 f.1 f.2
theorem aW(L:FL):(aI L).length=L.length:=List.length_map ..
theorem fk{L:FL}{i:Nat}(h:i<L.length):(aI L)[i]?=some (j4 L[i].1 L[i].2):=by simp[aI,h]
theorem Mi(n:Nat)(L:FL)(m:V)(hL:L.length<=3000000):cA (n+1) 108 [.sl (aI L),ac m]=some (.bool (L.any fun f=>decide (f.1.1=m))):=by
 rw[JO]
 unfold EK
 refine be (fun i s=>s=[I (i:Int)]/\(L.take i).any (fun f=>decide (f.1.1=m))=false) L.length 0 (Nat.zero_le _) ⟨rfl,by simp⟩ (fun i hi s hJ=>?_) (fun s hJ=>?_)
 ·obtain⟨rfl,hz⟩:=hJ
  by_cases he:L[i].1.1=m
  ·right
   refine⟨(0,[.bool true]),?_,?_⟩
   ·refine aa (z:=aI L) rfl (aa ag (aa af (aJ (by show((i:Int)<((aI L).length:Int));rw[aW];omega) ?_)))
    refine aa (z:=aI L) rfl (aa (z:=i) (by rw[aW];exact aw hi) (aa (fk hi) (aa (z:=ac L[i].1.1) rfl ?_)))
    rw[kb]
    exact aa af (aJ he rfl)
   ·have:L.any (fun f=>decide (f.1.1=m))=true:=List.any_eq_true.2 ⟨L[i],List.getElem_mem hi,by simpa using he⟩
    simp[this,g0]
  ·left
   refine⟨[I ((i+1:Nat):Int)],?_,rfl,?_⟩
   ·refine aa (z:=aI L) rfl (aa ag (aa af (aJ (by show((i:Int)<((aI L).length:Int));rw[aW];omega) ?_)))
    refine aa (z:=aI L) rfl (aa (z:=i) (by rw[aW];exact aw hi) (aa (fk hi) (aa (z:=ac L[i].1.1) rfl ?_)))
    rw[kb]
    exact aa af (aM he (aa (av (aF (i:=i) (by omega))) rfl))
   ·rw[List.take_succ_eq_append_getElem hi,List.any_append,hz];simp[he]
 ·obtain⟨rfl,hz⟩:=hJ
  rw[List.take_length] at hz
  refine⟨(1,[]),?_,by simp[hz]⟩
  exact aa (z:=aI L) rfl (aa ag (aa af (aM (by show ¬ ((L.length:Int)<((aI L).length:Int));rw[aW];omega) rfl)))
def j5(f:(V×Int)×List Nat):FL->FL
 | []=>[f]
 | x::L=>if aC f.1.1 x.1.1 then f::x::L else x::j5 f L
theorem MS(n:Nat)(L:FL)(f:(V×Int)×List Nat)(hL:L.length<=3000000):cA (n+2) 110 [.sl (aI L),j4 f.1 f.2]=some (.sl (aI (j5 f L))):=by
 rw[LQ]
 unfold FK
 have app:∀ (o:FL) (x:(V×Int)×List Nat),aI o++[j4 x.1 x.2]=aI (o++[x]):=fun o x=>by simp[aI]
 refine be (fun i s=>∃ (out:FL) (put:Bool),s=[.sl (aI out),.bool put,I (i:Int)]/\out.length<=2*i/\(put=false->j5 f L=out++j5 f (L.drop i))/\(put=true->j5 f L=out++L.drop i)) L.length 0 (Nat.zero_le _) ⟨[],false,rfl,by simp,by simp,by simp⟩ (fun i hi s hJ=>?_) (fun s hJ=>?_)
 ·obtain⟨out,put,rfl,hol,h1,h2⟩:=hJ
  left
  have hd:L.drop i=L[i]::L.drop (i+1):=List.drop_eq_getElem_cons hi
  have hc:=Ib n f.1.1 L[i].1.1
  obtain⟨o,p,he,ho,q1,q2⟩:∃ o p,(if put=false/\aC f.1.1 L[i].1.1 then(out++[f],true) else(out,put))=(o,p)/\o.length<=2*i+1/\(p=false->j5 f L=o++L[i]::j5 f (L.drop (i+1)))/\(p=true->j5 f L=o++L[i]::L.drop (i+1)):=by
   by_cases hput:put=false/\aC f.1.1 L[i].1.1
   ·refine⟨_,_,if_pos hput,by simp;omega,by simp,fun _=>?_⟩
    rw[h1 hput.1,hd];simp[j5,hput.2]
   ·refine⟨_,_,if_neg hput,by omega,fun hp=>?_,fun hp=>?_⟩
    ·have hnl:¬ aC f.1.1 L[i].1.1:=fun h=>hput ⟨hp,h⟩
     rw[h1 hp,hd];simp[j5,hnl]
    ·rw[h2 hp,hd]
  refine⟨[.sl (aI (o++[L[i]])),.bool p,I ((i+1:Nat):Int)],?_,o++[L[i]],p,rfl,by simp;omega,fun hp=>by rw[q1 hp];simp,fun hp=>by rw[q2 hp];simp⟩
  refine aa (z:=aI L) rfl (aa ag (aa af (aJ (by show((i:Int)<((aI L).length:Int));rw[aW];omega) ?_)))
  refine aa (z:=ac f.1.1) rfl (aa (z:=aI L) rfl (aa (z:=i) (by rw[aW];exact aw hi) (aa (fk hi) (aa (z:=ac L[i].1.1) rfl (aa hc ?_)))))
  refine aa (z:=(0,[.sl (aI o),.bool p])) ?_ ?_
  ·refine aa (z:=.bool (!put)) rfl (aa (z:=!put) rfl (aa (z:=!put&&decide (aC f.1.1 L[i].1.1)) ?_ (aa (z:=!put&&decide (aC f.1.1 L[i].1.1)) rfl ?_)))
   ·cases put
    ·exact af
    ·rfl
   ·by_cases hput:put=false/\aC f.1.1 L[i].1.1
    ·rw[if_pos hput] at he
     obtain⟨rfl,hlt⟩:=hput
     cases he
     rw[show(!false&&decide (aC f.1.1 L[i].1.1))=true by simp[hlt],if_pos rfl,if_pos (by simp only[g0,D.els,aW,List.length_cons,List.length_nil];omega)]
     simp only[g0,D.els,app]
    ·rw[if_neg hput] at he
     cases he
     rw[show(!put&&decide (aC f.1.1 L[i].1.1))=false by
      cases put
      ·simpa using hput
      ·rfl]
     rfl
  ·refine aa (z:=aI L) rfl (aa (z:=i) (by rw[aW];exact aw hi) (aa (fk hi) ?_))
   rw[if_pos (by simp only[g0,D.els,aW,List.length_cons,List.length_nil];omega)]
   refine aa (av (aF (i:=i) (by omega))) ?_
   simp only[g0,g1,D.els,app]
   rfl
 ·obtain⟨out,put,rfl,hol,h1,h2⟩:=hJ
  refine⟨(0,[.sl (aI out),.bool put]),?_,?_⟩
  ·exact aa (z:=aI L) rfl (aa ag (aa af (aM (by show ¬ ((L.length:Int)<((aI L).length:Int));rw[aW];omega) rfl)))
  ·cases put
   ·have:=h1 rfl
    rw[List.drop_length] at this
    rw[this]
    refine aa (z:=(0,[.sl (aI (out++[f]))])) ?_ rfl
    refine aa (z:=.bool true) rfl (aa (z:=true) rfl ?_)
    rw[if_pos rfl,if_pos (by simp only[g0,D.els,aW,List.length_cons,List.length_nil];omega)]
    simp only[g0,D.els,app]
   ·have:=h2 rfl
    rw[List.drop_length,List.append_nil] at this
    rw[this]
    rfl
end Go.Proofs.YtjjjkojfijpeeaaGreat.Sy
end
section
set_option linter.unusedVariables false
namespace Go.Proofs.YtjjjkojfijpeeaaGreat.Sy
open Go Go.Proofs Go.Proofs.YtjjjkojfijpeeaaGreat.Geo
def gA(l:List V)(m:V)(a b x:Nat):Bool:=
 decide (0<=T m (wy (pt l) a b) (wy (pt l) a x))&&(!decide (T m (wy (pt l) a b) (wy (pt l) a x)=0)||(decide (0<=V.dot (wy (pt l) a x) (wy (pt l) a b))&&decide (V.dot (wy (pt l) a x) (wy (pt l) a b)<=V.dot (wy (pt l) a b) (wy (pt l) a b))))
theorem xJ{l:List V}{m:V}{a b x:Nat}:gA l m a b x=true↔(0<=T m (wy (pt l) a b) (wy (pt l) a x)/\(T m (wy (pt l) a b) (wy (pt l) a x)=0->0<=V.dot (wy (pt l) a x) (wy (pt l) a b)/\V.dot (wy (pt l) a x) (wy (pt l) a b)<=V.dot (wy (pt l) a b) (wy (pt l) a b))):=by
 simp only[gA,Bool.and_eq_true,Bool.or_eq_true,Bool.not_eq_true',decide_eq_true_eq,decide_eq_false_iff_not]
 by_cases h:T m (wy (pt l) a b) (wy (pt l) a x)=0<;>simp[h]
def tD(l:List V)(m:V)(d:Int)(a b:Nat):Bool:=(aY (pt l) l.length m d).all fun x=>gA l m a b x
theorem sn{l:List V}{m:V}{d:Int}{a b:Nat}(hb:b∈aY (pt l) l.length m d)(hne:b≠a):tD l m d a b=true↔Side m (pt l) (aY (pt l) l.length m d) a b:=by
 simp only[tD,List.all_eq_true,xJ]
 exact⟨fun h=>⟨hb,hne,h⟩,fun h=>h.all⟩
theorem KX(n:Nat){l:List V}(hl:∀ x∈l,bd MV x)(hlen:l.length<=100){m:V}{d:Int}(hm0:m≠V.zero)(hm:bd 549755813888 m){a b:Nat}(ha:a<l.length)(hb:b<l.length)(hda:V.dot m (pt l a)=d)(hdb:V.dot m (pt l b)=d) :
  cA (n+3) 156 [aP l,ac m,I d,ac (pt l a),ac (pt l b)]=some (.bool (tD l m d a b)):=by
 rw[Ns]
 unfold DW
 have w1:bd 524288 (wy (pt l) a b):=lv (hl _ (cY ha)) (hl _ (cY hb))
 refine aa (z:=ac (wy (pt l) a b)) (Be (n+1) (hl _ (cY hb)) (hl _ (cY ha)) (by decide)) ?_
 have ll:(l.map ac).length=l.length:=List.length_map ..
 have hmb:V.dot m (wy (pt l) a b)=0:=by rw[dD,hda,hdb];omega
 refine be (fun i s=>s=[I (i:Int)]/\(aY (pt l) i m d).all (fun x=>gA l m a b x)=true) l.length 0 (Nat.zero_le _) ⟨rfl,by simp[aY]⟩ (fun i hi s hJ=>?_) (fun s hJ=>?_)
 ·obtain⟨rfl,hz⟩:=hJ
  have hc:=An (n+1) hm (hl _ (cY hi)) (by decide)
  by_cases hon:V.dot m (pt l i)=d
  ·have w2:bd 524288 (wy (pt l) a i):=lv (hl _ (cY ha)) (hl _ (cY hi))
   have hmi:V.dot m (wy (pt l) a i)=0:=by rw[dD,hda,hon];omega
   have c1:=Be (n+1) (hl _ (cY hi)) (hl _ (cY ha)) (by decide)
   have c2:=It (n+1) w1 w2 (by decide)
   have c3:=Lw n m (V.cross (wy (pt l) a b) (wy (pt l) a i))
   rw[zF hm0 (gR hmb hmi)] at c3
   have c4:=An (n+1) w2 w1 (by decide)
   have c5:=An (n+1) w1 w1 (by decide)
   have step:∀ (y:Nat×List D),y=(if gA l m a b i then(0,[]) else(1,[D.bool false]))->(Option.bind (D.asSl (aP l)) fun l6=>Option.bind (D.idx (I (i:Int)) (List.length l6)) fun i7=>
     Option.bind (l6[i7]?) fun x8=>Option.bind (cA (n+2) 107 [ac m,x8]) fun r9=>Option.bind (D.truth (D.bool (!(D.beq r9 (I d))))) fun b10=>
     if b10 then(some ((0:Nat),([]:List D))) else(Option.bind (D.asSl (aP l)) fun l11=>Option.bind (D.idx (I (i:Int)) (List.length l11)) fun my=>
     Option.bind (l11[my]?) fun x13=>Option.bind (cA (n+2) 112 [x13,ac (pt l a)]) fun r14=>Option.bind (cA (n+2) 123 [ac (wy (pt l) a b),r14]) fun r15=>Option.bind (cA (n+2) 188 [ac m,r15]) fun r16=>
     Option.bind (D.bin .lss r16 (D.int .i64 0)) fun x17=>Option.bind (D.truth x17) fun b18=>
     Option.bind (if b18 then(some true) else(Option.bind (D.truth (D.bool (D.beq r16 (D.int .i64 0)))) fun b19=>
     if b19 then(Option.bind (cA (n+2) 107 [r14,ac (wy (pt l) a b)]) fun r20=>Option.bind (D.bin .lss r20 (D.int .i64 0)) fun x21=>Option.bind (D.truth x21) fun b22=>
     if b22 then(some true) else(Option.bind (cA (n+2) 107 [r14,ac (wy (pt l) a b)]) fun r23=>Option.bind (cA (n+2) 107 [ac (wy (pt l) a b),ac (wy (pt l) a b)]) fun r24=>
     Option.bind (D.bin .gtr r23 r24) fun x25=>D.truth x25)) else(some false))) fun b26=>Option.bind (D.truth (D.bool b26)) fun b27=>
     if b27 then(some (1,[(D.bool false)])) else(some (0,[]))))=some y:=by
    intro y hy
    refine aa (z:=l.map ac) rfl (aa (z:=i) (by rw[ll];exact aw hi) (aa (dF hi) (aa hc (aa (z:=false) ?_ ?_))))
    ·rw[ca,show V.dot m (l.getD i V.zero)=d from hon];simp[D.truth]
    rw[if_neg (by decide)]
    refine aa (z:=l.map ac) rfl (aa (z:=i) (by rw[ll];exact aw hi) (aa (dF hi) (aa (z:=ac (wy (pt l) a i)) c1 (aa c2 (aa c3 (aa ag (aa af ?_)))))))
    rw[hy]
    have e:V.dot m (V.cross (wy (pt l) a b) (wy (pt l) a i))=T m (wy (pt l) a b) (wy (pt l) a i):=rfl
    rw[e]
    refine aa (z:=!gA l m a b i) ?_ ?_
    ·by_cases t1:T m (wy (pt l) a b) (wy (pt l) a i)<0
     ·rw[GE (Cr.2 t1)]
      have:¬ (0<=T m (wy (pt l) a b) (wy (pt l) a i)):=by omega
      simp[gA,this]
     ·rw[GF (fun h=>t1 (Cr.1 h))]
      have t1':0<=T m (wy (pt l) a b) (wy (pt l) a i):=by omega
      by_cases t2:T m (wy (pt l) a b) (wy (pt l) a i)=0
      ·refine aa (z:=true) (by rw[ca,decide_eq_true (tU.2 t2)];rfl) ?_
       rw[if_pos rfl]
       refine aa c4 (aa ag (aa af ?_))
       by_cases t3:V.dot (wy (pt l) a i) (wy (pt l) a b)<0
       ·rw[GE t3]
        have:¬ (0<=V.dot (wy (pt l) a i) (wy (pt l) a b)):=by omega
        simp[gA,t2,this]
       ·rw[GF t3]
        refine aa c4 (aa c5 (aa dV ?_))
        rw[af]
        have t3':0<=V.dot (wy (pt l) a i) (wy (pt l) a b):=by omega
        simp only[gA,t2,t3',decide_true,Bool.true_and,Bool.not_true,Bool.false_or,Int.le_refl]
        by_cases t4:V.dot (wy (pt l) a i) (wy (pt l) a b)<=V.dot (wy (pt l) a b) (wy (pt l) a b)
        ·have:¬ (V.dot (wy (pt l) a i) (wy (pt l) a b)>V.dot (wy (pt l) a b) (wy (pt l) a b)):=by omega
         simp[t4,this]
        ·have:(V.dot (wy (pt l) a i) (wy (pt l) a b)>V.dot (wy (pt l) a b) (wy (pt l) a b)):=by omega
         simp[t4,this]
      ·refine aa (z:=false) (by rw[ca,decide_eq_false (fun h=>t2 (tU.1 h))];rfl) ?_
       simp[gA,t2,t1']
    ·refine aa af ?_
     cases gA l m a b i<;>rfl
   cases hk:gA l m a b i
   ·right
    rw[hk] at step
    refine⟨(0,[.bool false]),?_,?_⟩
    ·exact aa (z:=l.map ac) rfl (aa ag (aa af (aJ (by show((i:Int)<((l.map ac).length:Int));rw[ll];omega) (aa (step _ rfl) rfl))))
    ·have:tD l m d a b=false:=by
      rw[Bool.eq_false_iff];intro h
      have:=List.all_eq_true.1 h i (aL.2 ⟨hi,hon⟩)
      rw[hk] at this;exact absurd this (by decide)
     rw[this];rfl
   ·left
    rw[hk] at step
    refine⟨[I ((i+1:Nat):Int)],?_,rfl,?_⟩
    ·exact aa (z:=l.map ac) rfl (aa ag (aa af (aJ (by show((i:Int)<((l.map ac).length:Int));rw[ll];omega) (aa (step _ rfl) (by rw[if_pos rfl,if_pos rfl];exact aa (av (aF (i:=i) (by omega))) rfl)))))
    ·rw[jf,if_pos hon,List.all_append,hz];simp[hk]
  ·left
   refine⟨[I ((i+1:Nat):Int)],?_,rfl,?_⟩
   ·refine aa (z:=l.map ac) rfl (aa ag (aa af (aJ (by show((i:Int)<((l.map ac).length:Int));rw[ll];omega) (aa (z:=(0,[])) ?_ (by rw[if_pos rfl];exact aa (av (aF (i:=i) (by omega))) rfl)))))
    refine aa (z:=l.map ac) rfl (aa (z:=i) (by rw[ll];exact aw hi) (aa (dF hi) (aa hc (aa (z:=true) ?_ rfl))))
    rw[ca,decide_eq_false (show ¬ V.dot m (l.getD i V.zero)=d from hon)];rfl
   ·rw[jf,if_neg hon];exact hz
 ·obtain⟨rfl,hz⟩:=hJ
  refine⟨(1,[]),?_,?_⟩
  ·exact aa (z:=l.map ac) rfl (aa ag (aa af (aM (by show ¬ ((l.length:Int)<((l.map ac).length:Int));rw[ll];omega) rfl)))
  ·have:tD l m d a b=true:=hz
   rw[this];rfl
end Go.Proofs.YtjjjkojfijpeeaaGreat.Sy
end
section
set_option linter.unusedVariables false
namespace Go.Proofs.YtjjjkojfijpeeaaGreat.Sy
open Go Go.Proofs Go.Proofs.YtjjjkojfijpeeaaGreat.Geo
theorem yL{body:Bd}{s0:List D}{r:Nat×List D}(h:Option.bind (bc body s0) some=some r):bc body s0=some r:=by
 cases hb:bc body s0 with
 | none=>rw[hb] at h;cases h
 | some z=>rw[hb] at h;exact h
theorem Dh{P:Nat->V}{m:V}{d:Int}{i N a:Nat}(h:(aY P i m d).head?=some a)(hi:i<=N):(aY P N m d).head?=some a:=by
 induction N with
 | zero=>
      have:i=0:=by omega
      subst this;exact h
 | succ N ih=>
  by_cases e:i=N+1
  ·rw[<-e];exact h
  ·have:=ih (by omega)
   rw[jf]
   split
   ·rw[List.head?_append,this];rfl
   ·exact this
theorem oZ{body:Bd}{S:Nat->Nat->Prop}{a M:Nat}{G:Nat->Prop}(hS:∀ c b,G c->S c b->G b)
  (hstep:∀ (c b:Nat) (out:List Nat),G c->S c b->b≠a->out.length<=M->body [.sl (ab out),I (c:Int)]=some (.inl [.sl (ab (out++[c])),I (b:Int)]))
  (hend:∀ (c:Nat) (out:List Nat),G c->S c a->out.length<=M->body [.sl (ab out),I (c:Int)]=some (.inr (0,[.sl (ab (out++[c]))]))) :
  ∀ {c:Nat} {p:List Nat},Chain S a c p->G c->∀ out:List Nat,(out++p).length<=M->bc body [.sl (ab out),I (c:Int)]=some (0,[.sl (ab (out++p))])
 | c,_,.done s,hc,out,hl=>eG (hend c out hc s (by simp at hl;omega))
 | c,_,.step (y:=y) (l:=p) s hy k,hc,out,hl=>by
  have h1:=hstep c y out hc s hy (by simp at hl;omega)
  rw[show bc body [.sl (ab out),I (c:Int)]=bc body [.sl (ab (out++[c])),I (y:Int)] from dY h1]
  have:=oZ hS hstep hend k (hS c y hc s) (out++[c]) (by simpa using hl)
  rw[this];simp
theorem MH(n:Nat){l:List V}(hl:∀ x∈l,bd MV x)(hlen:l.length<=100)(hs:BO l){m:V}{d:Int}(hF:IsF (pt l) l.length m d)(hm:bd 549755813888 m){p:List Nat}(hp:bu (pt l) l.length m d p) :
  cA (n+4) 111 [aP l,ac m,I d]=some (.sl (ab p)):=by
 have F:=hF.flat hs
 obtain⟨p',hp',hnd,hmem⟩:=hF.poly hs
 have e:=bu.eq hs hF hp hp'
 subst e
 obtain⟨a,ha1,hch⟩:=hp
 have ha:a∈aY (pt l) l.length m d:=List.mem_of_mem_head? (by rw[ha1];rfl)
 have hlt:∀ k∈aY (pt l) l.length m d,k<l.length:=fun k hk=>(aL.1 hk).1
 have hdk:∀ k∈aY (pt l) l.length m d,V.dot m (pt l k)=d:=fun k hk=>(aL.1 hk).2
 have honl:(aY (pt l) l.length m d).length<=l.length:=by
  unfold aY
  exact Nat.le_trans (List.length_filter_le _ _) (by rw[List.length_range];omega)
 have hpl:p.length<=l.length:=Nat.le_trans (List.Nodup.length_le_of_subset hnd fun z hz=>((hmem z).1 hz).1) honl
 have ll:(l.map ac).length=l.length:=List.length_map ..
 rw[L1]
 unfold D3
 have hdot:=fun(i:Nat) (hi:i<l.length)=>An (n+2) hm (hl _ (cY hi)) (by decide)
 refine aa (z:=(0,[.sl [],I (a:Int)])) ?_ ?_
 ·refine yL (cT (fun i s=>s=[.sl [],iW ((aY (pt l) i m d).head?),I (i:Int)]) l.length 0 (Nat.zero_le _) rfl (fun i hi s hJ=>?_) (fun s hJ=>?_))
  ·subst hJ
   cases hh:(aY (pt l) i m d).head? with
   | some a'=>
    right
    have:=Dh hh (Nat.le_of_lt hi)
    rw[ha1] at this;cases this
    refine⟨(0,[.sl [],I (a:Int)]),?_,rfl⟩
    refine aa (z:=l.map ac) rfl (aa ag (aa af (aa (z:=false) (aJ (by show((i:Int)<((l.map ac).length:Int));rw[ll];omega) ?_) (aa af ?_))))
    ·refine aa ag ?_
     rw[decide_eq_false (by omega)];rfl
    ·rfl
   | none=>
    left
    have hnil:aY (pt l) i m d=[]:=by simpa using hh
    refine⟨[.sl [],iW ((aY (pt l) (i+1) m d).head?),I ((i+1:Nat):Int)],?_,rfl⟩
    refine aa (z:=l.map ac) rfl (aa ag (aa af (aa (z:=true) (aJ (by show((i:Int)<((l.map ac).length:Int));rw[ll];omega) (aa (ag (a:=-1) (b:=0)) rfl)) (aa af ?_))))
    rw[if_pos rfl]
    refine aa (z:=(0,[.sl [],iW ((aY (pt l) (i+1) m d).head?)])) ?_ (aa (av (aF (i:=i) (by omega))) rfl)
    refine aa (z:=l.map ac) rfl (aa (z:=i) (by rw[ll];exact aw hi) (aa (dF hi) (aa (hdot i hi) ?_)))
    rw[ca,jf,hnil]
    by_cases hon:V.dot m (pt l i)=d
    ·rw[if_pos hon,decide_eq_true (show V.dot m (l.getD i V.zero)=d from hon)];rfl
    ·rw[if_neg hon,decide_eq_false (show ¬ V.dot m (l.getD i V.zero)=d from hon)];rfl
  ·subst hJ
   rw[ha1]
   refine⟨(0,[.sl [],I (a:Int)]),?_,rfl⟩
   refine aa (z:=l.map ac) rfl (aa ag (aa af (aa (z:=false) (aM (by show ¬ ((l.length:Int)<((l.map ac).length:Int));rw[ll];omega) rfl) (aa af rfl))))
 ·refine aa (z:=(0,[.sl (ab ([]++p))])) ?_ rfl
  refine oZ (M:=l.length) (G:=fun c=>c∈aY (pt l) l.length m d) (fun c b hc hb=>hb.mem) (fun c b out hc hb hba hol=>?_) (fun c out hc hb hol=>?_) hch ha [] (by simpa using hpl)
  all_goals
   obtain⟨b',hbb,hb'⟩:∃ b',(b'=a\/b'≠a)/\Side m (pt l) (aY (pt l) l.length m d) c b':=by first|exact⟨_,Classical.em _,hb⟩
   refine aa (z:=l.map ac) rfl (aa oH (aa af (aJ (by show(((ab out).length:Int)<=((l.map ac).length:Int));rw[ll,aj];omega) ?_)))
   rw[if_pos (by simp only[g0,D.els,aj,List.length_cons,List.length_nil];omega)]
   have happ:ab out++[I (c:Int)]=ab (out++[c]):=by simp[ab]
   have hbl:=hlt b' hb'.mem
   refine aa (z:=(0,[.sl (ab (out++[c])),I (b':Int)])) ?_ ?_
   ·refine yL (cT (fun i s=>s=[.sl (ab (out++[c])),iW (if b'<i then some b' else none),I (i:Int)]) l.length 0 (Nat.zero_le _) (by simp[g0,g1,D.els,happ,iW]) (fun i hi s hJ=>?_) (fun s hJ=>?_))
    ·subst hJ
     by_cases hbi:b'<i
     ·right
      rw[if_pos hbi]
      refine⟨(0,[.sl (ab (out++[c])),I (b':Int)]),?_,rfl⟩
      refine aa (z:=l.map ac) rfl (aa ag (aa af (aa (z:=false) (aJ (by show((i:Int)<((l.map ac).length:Int));rw[ll];omega) ?_) (aa af ?_))))
      ·refine aa ag ?_
       rw[decide_eq_false (by omega)];rfl
      ·rfl
     ·left
      rw[if_neg hbi]
      refine⟨[.sl (ab (out++[c])),iW (if b'<i+1 then some b' else none),I ((i+1:Nat):Int)],?_,rfl⟩
      refine aa (z:=l.map ac) rfl (aa ag (aa af (aa (z:=true) (aJ (by show((i:Int)<((l.map ac).length:Int));rw[ll];omega) (aa (ag (a:=-1) (b:=0)) rfl)) (aa af ?_))))
      rw[if_pos rfl]
      refine aa (z:=(0,[.sl (ab (out++[c])),iW (if b'<i+1 then some b' else none)])) ?_ (aa (av (aF (i:=i) (by omega))) rfl)
      have hcl:=hlt c hc
      by_cases hon:i≠c/\V.dot m (pt l i)=d
      ·have hion:i∈aY (pt l) l.length m d:=aL.2 ⟨hi,hon.2⟩
       refine aa (z:=true) (by show D.truth (D.bool (!(D.beq (I (i:Int)) (I (c:Int)))))=_;rw[cb,decide_eq_false hon.1];rfl) (aa (z:=true) ?_ (aa af ?_))
       ·rw[if_pos rfl]
        refine aa (z:=l.map ac) rfl (aa (z:=i) (by rw[ll];exact aw hi) (aa (dF hi) (aa (hdot i hi) ?_)))
        rw[ca,decide_eq_true (show V.dot m (l.getD i V.zero)=d from hon.2)];rfl
       ·rw[if_pos rfl]
        refine aa (z:=l.map ac) rfl (aa (z:=c) (by rw[ll];exact aw hcl) (aa (dF hcl) (aa (z:=l.map ac) rfl (aa (z:=i) (by rw[ll];exact aw hi) (aa (dF hi) (aa (KX n hl hlen hF.nz.1 hm hcl hi (hdk c hc) hon.2) (aa af ?_)))))))
        by_cases hib:i=b'
        ·subst hib
         rw[(sn hion hon.1).2 hb',if_pos rfl,if_pos (by omega)];rfl
        ·have:tD l m d c i=false:=by
          rw[Bool.eq_false_iff];intro h
          exact hib (Side.unique F hc ((sn hion hon.1).1 h) hb')
         rw[this,if_neg (show ¬ b'<i+1 by omega)];rfl
      ·have hib:i≠b':=fun e=>hon (by subst e;exact⟨hb'.ne,hdk _ hb'.mem⟩)
       rw[if_neg (show ¬ b'<i+1 by omega)]
       by_cases hic:i=c
       ·subst hic
        refine aa (z:=false) (by show D.truth (D.bool (!(D.beq (I (i:Int)) (I (i:Int)))))=_;rw[cb,decide_eq_true rfl];rfl) (aa (z:=false) rfl (aa af rfl))
       ·have hnd:¬ V.dot m (l.getD i V.zero)=d:=fun h=>hon ⟨hic,h⟩
        refine aa (z:=true) (by show D.truth (D.bool (!(D.beq (I (i:Int)) (I (c:Int)))))=_;rw[cb,decide_eq_false hic];rfl) (aa (z:=false) ?_ (aa af rfl))
        rw[if_pos rfl]
        refine aa (z:=l.map ac) rfl (aa (z:=i) (by rw[ll];exact aw hi) (aa (dF hi) (aa (hdot i hi) ?_)))
        rw[ca,decide_eq_false hnd];rfl
    ·subst hJ
     rw[if_pos hbl]
     refine⟨(0,[.sl (ab (out++[c])),I (b':Int)]),?_,rfl⟩
     exact aa (z:=l.map ac) rfl (aa ag (aa af (aa (z:=false) (aM (by show ¬ ((l.length:Int)<((l.map ac).length:Int));rw[ll];omega) rfl) (aa af rfl))))
   ·have hu:=Side.unique F hc hb hb'
    subst hu
    first
     | exact aa (z:=true) (by show D.truth (D.bool (D.beq (I (_:Int)) (I (_:Int))))=_;rw[cb,decide_eq_true rfl];rfl) (aa (z:=true) rfl (aa af rfl))
     | exact aa (z:=false) (by show D.truth (D.bool (D.beq (I (_:Int)) (I (_:Int))))=_;rw[cb,decide_eq_false hba];rfl) (aa (z:=false) (by rw[if_neg (by decide)];refine aa ag ?_;rw[decide_eq_false (by omega)];rfl) (aa af rfl))
end Go.Proofs.YtjjjkojfijpeeaaGreat.Sy
end
section
set_option linter.unusedVariables false
namespace Go.Proofs.YtjjjkojfijpeeaaGreat.Sy
open Go Go.Proofs Go.Proofs.YtjjjkojfijpeeaaGreat.Geo
def aS:List Nat->Nat
 | []=>0
 | d::l=>d+65536*aS l
def dl(l:List Nat):Prop:=∀ d∈l,d<65536
theorem dl.cons{d:Nat}{l:List Nat}(hd:d<65536)(h:dl l):dl (d::l):=fun x hx=>by
 rcases List.mem_cons.1 hx with rfl|hx
 ·exact hd
 ·exact h x hx
theorem dl.append{a b:List Nat}(ha:dl a)(hb:dl b):dl (a++b):=fun x hx=>by
 rcases List.mem_append.1 hx with hx|hx
 ·exact ha x hx
 ·exact hb x hx
theorem dl.getD{l:List Nat}(h:dl l)(i:Nat):l.getD i 0<65536:=by
 simp only[List.getD]
 cases hi:l[i]? with
 | none=>simp
 | some x=>exact h x (List.mem_of_getElem? hi)
def aE(m:Nat):List Nat:=if h:m=0 then[] else m%65536::aE (m/65536)
termination_by m
decreasing_by omega
theorem cq:aE 0=[]:=by unfold aE;simp
theorem ii{m:Nat}(h:m≠0):aE m=m%65536::aE (m/65536):=by rw[aE,dif_neg h]
theorem sK{d v:Nat}(hd:d<65536)(h:d+65536*v≠0):aE (d+65536*v)=d::aE v:=by
 rw[ii h,show(d+65536*v)%65536=d by omega,show(d+65536*v)/65536=v by omega]
theorem ao(m:Nat):aS (aE m)=m:=by
 induction m using Nat.strongRecOn with
 | _ m ih=>
  by_cases h:m=0
  ·subst h;rw[cq];rfl
  ·rw[ii h,aS,ih _ (by omega)];omega
theorem aO(m:Nat):dl (aE m):=by
 induction m using Nat.strongRecOn with
 | _ m ih=>
  by_cases h:m=0
  ·subst h;rw[cq];intro d hd;cases hd
  ·rw[ii h];exact dl.cons (by omega) (ih _ (by omega))
theorem pV{m:Nat}:aE m=[]↔m=0:=by
 constructor
 ·intro h;have:=ao m;rw[h] at this;exact this.symm
 ·rintro rfl;exact cq
theorem od(i:Nat):∀ m,(aE m).getD i 0=m/65536^i%65536:=by
 induction i with
 | zero=>
  intro m
  by_cases h:m=0
  ·subst h;rw[cq];simp
  ·rw[ii h];simp
 | succ i ih=>
  intro m
  by_cases h:m=0
  ·subst h;rw[cq];simp
  ·rw[ii h]
   show(aE (m/65536)).getD i 0=_
   rw[ih,Nat.div_div_eq_div_mul,Nat.pow_succ,Nat.mul_comm 65536]
theorem bF(k:Nat):∀ m,m<65536^k->(aE m).length<=k:=by
 induction k with
 | zero=>
      intro m h;have:m=0:=by simpa using h
      subst this;rw[cq];simp
 | succ k ih=>
  intro m h
  by_cases h0:m=0
  ·subst h0;rw[cq];simp
  ·rw[ii h0,List.length_cons]
   have:=ih (m/65536) (by rw[Nat.pow_succ] at h;exact Nat.div_lt_of_lt_mul (by rw[Nat.mul_comm];exact h))
   omega
theorem kw(a b:List Nat):aS (a++b)=aS a+65536^a.length*aS b:=by
 induction a with
 | nil=>simp[aS]
 | cons d a ih=>
  simp only[List.cons_append,aS,ih,List.length_cons,Nat.pow_succ]
  rw[Nat.mul_add,<-Nat.mul_assoc,Nat.mul_comm 65536 (65536^a.length)]
  omega
theorem ml(l:List Nat)(n:Nat):aS (l++List.replicate n 0)=aS l:=by
 rw[kw]
 have:∀ n,aS (List.replicate n 0)=0:=fun n=>by
  induction n with
  | zero=>rfl
  | succ n ih=>rw[List.replicate_succ,aS,ih]
 rw[this];simp
def vt(l:List Nat):Nat->Nat
 | 0=>0
 | k+1=>vt l k+l.getD k 0*65536^k
theorem D6(d:Nat)(l:List Nat)(k:Nat):vt (d::l) (k+1)=d+65536*vt l k:=by
 induction k with
 | zero=>simp[vt]
 | succ k ih=>
  rw[vt,ih,vt,Nat.mul_add]
  have:(d::l).getD (k+1) 0=l.getD k 0:=rfl
  rw[this,Nat.pow_succ,<-Nat.mul_assoc,<-Nat.mul_assoc,Nat.mul_comm 65536 (l.getD k 0),Nat.mul_assoc,Nat.mul_comm (65536^k),<-Nat.mul_assoc]
  omega
theorem kC(l:List Nat):vt l l.length=aS l:=by
 induction l with
 | nil=>rfl
 | cons d l ih=>rw[List.length_cons,D6,ih];rfl
theorem gN{l:List Nat}{k:Nat}(h:l.length<=k):vt l k=aS l:=by
 obtain⟨j,rfl⟩:∃ j,k=l.length+j:=⟨k-l.length,by omega⟩
 clear h
 induction j with
 | zero=>exact kC l
 | succ j ih=>
  rw[<-Nat.add_assoc,vt,ih]
  have:l.getD (l.length+j) 0=0:=by simp[List.getD]
  rw[this];simp
theorem rA{l:List Nat}(h:dl l)(k:Nat):vt l k<65536^k:=by
 induction k with
 | zero=>simp[vt]
 | succ k ih=>
  have h1:=h.getD k
  have h2:l.getD k 0*65536^k<=65535*65536^k:=Nat.mul_le_mul_right _ (by omega)
  rw[vt,Nat.pow_succ,Nat.mul_comm (65536^k)]
  omega
theorem jI{l:List Nat}(h:dl l):aS l<65536^l.length:=by rw[<-kC];exact rA h _
def jp:List Nat->List Nat
 | []=>[]
 | d::l=>match jp l with
  | []=>if d=0 then[] else[d]
  | x::t=>d::x::t
theorem gc{l:List Nat}(h:dl l):jp l=aE (aS l):=by
 induction l with
 | nil=>rw[aS,cq];rfl
 | cons d l ih=>
  have hd:d<65536:=h d List.mem_cons_self
  have ih:=ih fun x hx=>h x (List.mem_cons_of_mem _ hx)
  rw[jp,ih,aS]
  by_cases hv:aS l=0
  ·rw[hv,cq]
   by_cases h0:d=0
   ·subst h0;simp[cq]
   ·rw[sK hd (by omega),cq];simp[h0]
  ·rw[sK hd (by omega),ii hv]
theorem yi{l:List Nat}(h:∀ i,i<l.length->l.getD i 0=0):jp l=[]:=by
 induction l with
 | nil=>rfl
 | cons d l ih=>
  have h0:d=0:=h 0 (by simp)
  rw[jp,ih (fun i hi=>h (i+1) (by simpa using hi)),h0];simp
theorem su:∀ {l:List Nat} {n:Nat},n<=l.length->(∀ i,n<=i->i<l.length->l.getD i 0=0)->(n=0\/l.getD (n-1) 0≠0)->l.take n=jp l
 | [],n,_,_,_=>by simp[jp]
 | d::l,0,_,hz,_=>by rw[yi (fun i hi=>hz i (by omega) hi)];rfl
 | d::l,n+1,hn,hz,hl=>by
  have hl':(d::l).getD n 0≠0:=by
   rcases hl with h|h
   ·omega
   ·exact h
  have ih:l.take n=jp l:=su (l:=l) (n:=n) (by simpa using hn) (fun i h1 h2=>hz (i+1) (by omega) (by simpa using h2)) (by
   cases n with
   | zero=>exact .inl rfl
   | succ k=>exact .inr hl')
  rw[List.take_succ_cons,ih,jp]
  cases ht:jp l with
  | nil=>
   rw[ht] at ih
   have:n=0:=by
    cases n with
    | zero=>rfl
    | succ k=>cases l with
     | nil=>simp at hn
     | cons e l=>simp at ih
   subst this
   have:d≠0:=hl'
   simp[this]
  | cons x t=>rfl
end Go.Proofs.YtjjjkojfijpeeaaGreat.Sy
end
section
set_option linter.unusedVariables false
namespace Go.Proofs.YtjjjkojfijpeeaaGreat.Sy
open Go Go.Proofs Go.Proofs.YtjjjkojfijpeeaaGreat.Geo
theorem de{l:List Nat}{i:Nat}(h:i<l.length):(ab l)[i]?=some (I (l.getD i 0:Nat)):=lT h
theorem tA(a:List Nat)(d:Nat):ab a++[I (d:Int)]=ab (a++[d]):=by simp[ab]
theorem wl(n:Nat){l:List Nat}(hl:l.length<=1000000):cA (n+1) 140 [.sl (ab l)]=some (.sl (ab (jp l))):=by
 rw[LD]
 unfold E0
 refine aa (z:=ab l) rfl ?_
 have fin:∀ j:Nat,j<=l.length->(∀ i,j<=i->i<l.length->l.getD i 0=0)->(j=0\/l.getD (j-1) 0≠0)->(Option.bind (D.asSl (.sl (ab l))) fun l13=>Option.bind (D.natOf (I (j:Int))) fun i14=>Option.bind (D.cut l13 0 i14) fun l15=>some (D.sl l15))=some (.sl (ab (jp l))):=by
  intro j hj hz hd
  refine aa (z:=ab l) rfl (aa (z:=j) (by simp[D.natOf]) (aa (z:=ab (l.take j)) ?_ (by rw[su hj hz hd])))
  simp only[D.cut]
  rw[if_pos ⟨Nat.zero_le _,by rw[aj];exact hj⟩]
  simp[ab,List.map_take]
 refine be (fun i s=>s=[I ((l.length-i:Nat):Int)]/\∀ k,l.length-i<=k->k<l.length->l.getD k 0=0) l.length 0 (Nat.zero_le _) ⟨by rw[aj];rfl,fun k h1 h2=>by omega⟩ (fun i hi s hJ=>?_) (fun s hJ=>?_)
 ·obtain⟨rfl,hz⟩:=hJ
  have hb:inR (((l.length-i:Nat):Int)-1):=by simp only[inR];omega
  have e1:((l.length-i:Nat):Int)-1=((l.length-i-1:Nat):Int):=by omega
  have hx:(ab l)[l.length-i-1]?=some (I (l.getD (l.length-i-1) 0:Nat)):=de (by omega)
  by_cases h0:l.getD (l.length-i-1) 0=0
  ·left
   refine⟨[I ((l.length-(i+1):Nat):Int)],?_,rfl,fun k h1 h2=>?_⟩
   ·refine aa dV (aa af (aa (z:=true) (aJ (by show((l.length-i:Nat):Int)>0;omega) ?_) (aa af ?_)))
    ·refine aa (dH hb) (aa (z:=ab l) rfl (aa (z:=l.length-i-1) (by rw[e1,aj];exact aw (by omega)) (aa hx ?_)))
     rw[h0];rfl
    ·rw[if_pos rfl]
     refine aa (dH hb) ?_
     rw[e1,Nat.sub_sub]
   ·by_cases e:k=l.length-i-1
    ·rw[e];exact h0
    ·exact hz k (by omega) h2
  ·right
   refine⟨(0,[I ((l.length-i:Nat):Int)]),?_,fin _ (by omega) hz (.inr h0)⟩
   refine aa dV (aa af (aa (z:=false) (aJ (by show((l.length-i:Nat):Int)>0;omega) ?_) (aa af rfl)))
   refine aa (dH hb) (aa (z:=ab l) rfl (aa (z:=l.length-i-1) (by rw[e1,aj];exact aw (by omega)) (aa hx ?_)))
   rw[ca,decide_eq_false (by omega)];rfl
 ·obtain⟨rfl,hz⟩:=hJ
  refine⟨(0,[I ((l.length-l.length:Nat):Int)]),?_,fin _ (by omega) hz (.inl (by omega))⟩
  refine aa dV (aa af (aa (z:=false) (aM (by show ¬ ((l.length-l.length:Nat):Int)>0;omega) rfl) (aa af rfl)))
theorem Aj(n:Nat)(l:List Nat)(k:Nat):cA (n+1) 141 [.sl (ab l),I (k:Int)]=some (I (l.getD k 0:Nat)):=by
 rw[Kr]
 unfold Eu
 refine aa (z:=ab l) rfl (aa ag (aa af ?_))
 by_cases h:k<l.length
 ·refine aJ (by show(k:Int)<((ab l).length:Int);rw[aj];omega) ?_
  exact aa (z:=ab l) rfl (aa (z:=k) (by rw[aj];exact aw h) (aa (de h) rfl))
 ·refine aM (by show ¬ (k:Int)<((ab l).length:Int);rw[aj];omega) ?_
  have:l.getD k 0=0:=by simp[List.getD,h]
  rw[this];rfl
def eC(l:List Nat)(i:Nat):Nat:=l.getD (2*i) 0+65536*l.getD (2*i+1) 0
abbrev U(n:Nat):D:=.int .u32 (n:Int)
def dQ(l:List Nat):D:=.st ((List.range 16).map fun i=>U (eC l i))
def ah(x:Int):D:=.st [.bool false,.bool (decide (x<0)),dQ (aE x.natAbs)]
theorem uU{l:List Nat}(h:dl l)(i:Nat):eC l i<4294967296:=by
 have:=h.getD (2*i);have:=h.getD (2*i+1);unfold eC;omega
theorem pU{l:List Nat}{i:Nat}(h:i<16):D.fld (dQ l) i=some (U (eC l i)):=by simp[dQ,D.fld,h]
theorem cZ{x:Int}{i:Nat}(h:i<16):D.get (ah x) [2,i]=some (U (eC (aE x.natAbs) i)):=
 aa (z:=dQ (aE x.natAbs)) rfl (aa (pU h) rfl)
theorem mV{n:Int}(h:0<=n/\n<4294967296):IntKind.wrap .u32 n=n:=by
 obtain⟨h1,h2⟩:=h
 simp only[IntKind.wrap,IntKind.signed,IntKind.bits]
 first
  | omega
  | (simp;omega)
theorem GW(a:Nat):D.bin .rem (U a) (.int .u32 65536)=some (U (a%65536)):=by
 simp only[D.bin,if_true,show ¬ (65536:Int)=0 by decide,if_false]
 rw[show(65536:Int)=((65536:Nat):Int) from rfl,<-Int.ofNat_tmod]
theorem G8{a:Nat}(h:a<4294967296):D.bin .quo (U a) (.int .u32 65536)=some (U (a/65536)):=by
 simp only[D.bin,if_true,show ¬ (65536:Int)=0 by decide,if_false]
 rw[show(65536:Int)=((65536:Nat):Int) from rfl,<-Int.ofNat_tdiv,mV (by omega)]
theorem BP{a b:Nat}(h:a+b<4294967296):D.bin .add (U a) (U b)=some (U (a+b)):=by
 simp only[D.bin,if_true]
 rw[mV (by omega)];simp
theorem Gf{a b:Nat}(h:a*b<4294967296):D.bin .mul (U a) (U b)=some (U (a*b)):=by
 simp only[D.bin,if_true]
 rw[show(a:Int)*(b:Int)=((a*b:Nat):Int) by simp,mV (by omega)]
theorem pD{a:Nat}(h:a<4294967296):D.conv .i64 (U a)=some (I (a:Int)):=by
 simp only[D.conv];rw[iP (by simp only[inR];omega)]
theorem zt{a:Nat}(h:a<4294967296):D.conv .u32 (I (a:Int))=some (U a):=by
 simp only[D.conv];rw[mV (by omega)]
theorem xw(l:List Nat)(k:Nat):((List.range k).map fun i=>l.getD i 0)=if k<=l.length then l.take k else l++List.replicate (k-l.length) 0:=by
 apply List.ext_getElem?
 intro i
 by_cases h:i<k
 ·rw[List.getElem?_map,List.getElem?_range h]
  split
  ·simp[h,List.getD,show i<l.length by omega]
  ·by_cases h2:i<l.length
   ·simp[List.getElem?_append,h2,List.getD]
   ·simp[List.getElem?_append,h2,List.getD,List.getElem?_replicate,show i-l.length<k-l.length by omega]
 ·rw[List.getElem?_map,show(List.range k)[i]?=none by simp;omega]
  split
  ·simp;omega
  ·simp;omega
theorem CO{l:List Nat}(hd:dl l){k:Nat}(hk:l.length<=k):jp ((List.range k).map fun i=>l.getD i 0)=aE (aS l):=by
 have e:((List.range k).map fun i=>l.getD i 0)=l++List.replicate (k-l.length) 0:=by
  rw[xw]
  split
  ·have:k=l.length:=by omega
   subst this;simp
  ·rfl
 rw[e,gc (hd.append (fun x hx=>by rw[List.eq_of_mem_replicate hx];decide)),ml]
theorem xo(n:Nat){x:Int}(hx:x.natAbs<65536^32):cA (n+2) 77 [ah x]=some (.sl (ab (aE x.natAbs))):=by
 rw[Q8]
 unfold I3
 have hd:=aO x.natAbs
 have hlen:=bF 32 _ hx
 refine be (fun i s=>s=[.sl (ab ((List.range (2*i)).map fun i=>(aE x.natAbs).getD i 0)),I (i:Int)]) 16 0 (Nat.zero_le _) rfl (fun i hi s hJ=>?_) (fun s hJ=>?_)
 ·subst hJ
  left
  refine⟨_,?_,rfl⟩
  refine aa ag (aa af (aJ (by show(i:Int)<16;omega) ?_))
  have hlt:=uU hd i
  have h1:=hd.getD (2*i)
  refine aa (z:=i) (aw hi) (aa (cZ hi) (aa (GW _) (aa (pD (by omega)) (aa (z:=i) (aw hi) (aa (cZ hi) (aa (G8 hlt) (aa (pD (by omega)) ?_)))))))
  rw[if_pos (by simp only[g0,D.els,aj,List.length_map,List.length_range,List.length_cons,List.length_nil];omega)]
  refine aa (av (aF (i:=i) (by omega))) ?_
  have e1:eC (aE x.natAbs) i%65536=(aE x.natAbs).getD (2*i) 0:=by unfold eC;omega
  have e2:eC (aE x.natAbs) i/65536=(aE x.natAbs).getD (2*i+1) 0:=by unfold eC;omega
  rw[e1,e2,show 2*(i+1)=2*i+1+1 by omega,List.range_succ,List.range_succ]
  simp[g0,D.els,ab]
 ·subst hJ
  refine⟨(0,[.sl (ab ((List.range (2*16)).map fun i=>(aE x.natAbs).getD i 0))]),?_,?_⟩
  ·exact aa ag (aa af (aM (by decide) rfl))
  ·refine aa (wl n (by simp)) ?_
   rw[CO hd hlen,ao]
end Go.Proofs.YtjjjkojfijpeeaaGreat.Sy
end
section
set_option linter.unusedVariables false
namespace Go.Proofs.YtjjjkojfijpeeaaGreat.Sy
open Go Go.Proofs Go.Proofs.YtjjjkojfijpeeaaGreat.Geo
theorem jB(l:List Nat)(k j:Nat):(l.take k).getD j 0=if j<k then l.getD j 0 else 0:=by
 simp only[List.getD,List.getElem?_take]
 split<;>simp
theorem rC{l l':List Nat}{q v:Nat}{a b:D}(hq:q<16)(h:∀ i,eC l' i=if i=q then v else eC l i):D.set (.st [a,b,dQ l]) [2,q] (U v)=some (.st [a,b,dQ l']):=by
 have h1:D.set (dQ l) [q] (U v)=some (dQ l'):=by
  have e:((List.range 16).map fun i=>U (eC l i))[q]?=some (U (eC l q)):=by simp[hq]
  refine aa e (aa (z:=U v) rfl ?_)
  simp only[dQ,Option.some.injEq,D.st.injEq]
  apply List.ext_getElem?
  intro i
  rw[List.getElem?_set]
  by_cases hi:q=i
  ·subst hi
   simp[hq,h]
  ·rw[if_neg hi,List.getElem?_map,List.getElem?_map]
   by_cases h16:i<16
   ·rw[List.getElem?_range h16];simp[h,show i≠q from fun e=>hi e.symm]
   ·rw[show(List.range 16)[i]?=none by simp;omega];rfl
 exact aa (z:=dQ l) rfl (aa h1 rfl)
theorem GV(k:Nat):D.bin .rem (I (k:Int)) (.int .i64 2)=some (I (k%2:Nat)):=by
 rw[tH (by decide),show(2:Int)=((2:Nat):Int) from rfl,<-Int.ofNat_tmod]
theorem jd{a b:Nat}(hb:b≠0)(ha:(a:Int)<=9223372036854775807):D.bin .quo (I (a:Int)) (I (b:Int))=some (I (a/b:Nat)):=by
 have:((a/b:Nat):Int)<=9223372036854775807:=by have:=Nat.div_le_self a b;omega
 have h0:0<=((a/b:Nat):Int):=Int.natCast_nonneg _
 rw[tq (by omega) (by rw[<-Int.ofNat_tdiv];simp only[inR];omega),<-Int.ofNat_tdiv]
theorem j8{a b:Nat}(hb:b≠0):D.bin .rem (I (a:Int)) (I (b:Int))=some (I (a%b:Nat)):=by
 rw[tH (by omega),<-Int.ofNat_tmod]
theorem wa{a b:D}{l:List Nat}{i:Nat}(h:i<16):D.get (.st [a,b,dQ l]) [2,i]=some (U (eC l i)):=
 aa (z:=dQ l) rfl (aa (pU h) rfl)
def sgn(neg:Bool)(m:Nat):Int:=if neg then -(m:Int) else m
theorem FR(n:Nat){l:List Nat}{neg:Bool}(hd:dl l)(hl:l.length<=1000000)(hv:aS l<65536^32):cA (n+2) 81 [.bool neg,.sl (ab l)]=some (ah (sgn neg (aS l))):=by
 rw[ND]
 unfold H2
 have hlen:=bF 32 _ hv
 have hdd:=aO (aS l)
 have hen:ah (sgn neg (aS l))=.st [.bool false,.bool (neg&&decide (0<(aE (aS l)).length)),dQ (aE (aS l))]:=by
  have e1:(sgn neg (aS l)).natAbs=aS l:=by unfold sgn;split<;>omega
  have e2:(0<(aE (aS l)).length)↔aS l≠0:=by
   rw[List.length_pos_iff];exact not_congr pV
  unfold ah
  rw[e1]
  have:decide (sgn neg (aS l)<0)=(neg&&decide (0<(aE (aS l)).length)):=by
   simp only[e2,sgn]
   cases neg
   ·simp<;>omega
   ·by_cases h:aS l=0
    ·simp[h]
    ·simp[h]<;>omega
  rw[this]
 rw[hen]
 refine aa (wl n hl) ?_
 rw[gc hd]
 generalize aE (aS l)=d at hlen hdd
 refine aa (z:=ab d) rfl (aa dV (aa af (aM (by show ¬ ((ab d).length:Int)>32;rw[aj];omega) ?_)))
 refine aa af (aa (z:=neg&&decide (0<d.length)) ?_ ?_)
 ·cases neg
  ·rfl
  ·rw[if_pos rfl]
   refine aa (z:=ab d) rfl (aa dV ?_)
   rw[af,aj]
   simp
 refine be (fun k s=>s=[I (k:Int),.st [.bool false,.bool (neg&&decide (0<d.length)),dQ (d.take k)]]) d.length 0 (Nat.zero_le _) rfl (fun k hk s hJ=>?_) (fun s hJ=>?_)
 ·subst hJ
  left
  refine⟨_,?_,rfl⟩
  have hdk:=hdd.getD k
  refine aa (z:=ab d) rfl (aa ag (aa af (aJ (by show(k:Int)<((ab d).length:Int);rw[aj];omega) ?_)))
  refine aa (z:=(0,[.st [.bool false,.bool (neg&&decide (0<d.length)),dQ (d.take (k+1))]])) ?_ (aa (av (aF (i:=k) (by omega))) rfl)
  refine aa (GV k) ?_
  have q1:k/2<16:=by omega
  have hq:D.bin .quo (I (k:Int)) (.int .i64 2)=some (I (k/2:Nat)):=jd (b:=2) (by decide) (by omega)
  have hlk:eC (d.take k) (k/2)=if k%2=0 then 0 else d.getD (2*(k/2)) 0:=by
   simp only[eC,jB]
   by_cases hk2:k%2=0
   ·rw[if_pos hk2,if_neg (show ¬ 2*(k/2)<k by omega),if_neg (show ¬ 2*(k/2)+1<k by omega)]
   ·rw[if_neg hk2,if_pos (show 2*(k/2)<k by omega),if_neg (show ¬ 2*(k/2)+1<k by omega)];omega
  have hd2:=hdd.getD (2*(k/2))
  by_cases hk2:k%2=0
  ·rw[if_pos hk2] at hlk
   rw[hk2]
   refine aa (z:=true) rfl ?_
   rw[if_pos rfl]
   refine aa hq (aa hq (aa (aw q1) (aa (wa q1) (aa (z:=ab d) rfl (aa (z:=k) (by rw[aj];exact aw hk) (aa (de hk) (aa (zt (by omega)) (aa (BP (by rw[hlk];omega)) (aa (aw q1) (aa (rC q1 (l':=d.take (k+1)) ?_) rfl))))))))))
   intro i
   by_cases hi:i=k/2
   ·rw[if_pos hi,hlk,hi]
    simp only[eC,jB]
    rw[if_pos (show 2*(k/2)<k+1 by omega),if_neg (show ¬ 2*(k/2)+1<k+1 by omega),show 2*(k/2)=k by omega];omega
   ·rw[if_neg hi]
    simp only[eC,jB]
    have a1:(2*i<k+1)↔(2*i<k):=by omega
    have a2:(2*i+1<k+1)↔(2*i+1<k):=by omega
    simp only[a1,a2]
  ·rw[if_neg hk2] at hlk
   refine aa (z:=false) (by rw[show k%2=1 by omega];rfl) ?_
   rw[if_neg (by decide)]
   refine aa hq (aa hq (aa (aw q1) (aa (wa q1) (aa (z:=ab d) rfl (aa (z:=k) (by rw[aj];exact aw hk) (aa (de hk) (aa (zt (by omega)) (aa (Gf (b:=65536) (by omega)) (aa (BP (by rw[hlk];omega)) (aa (aw q1) (aa (rC q1 (l':=d.take (k+1)) ?_) rfl)))))))))))
   intro i
   by_cases hi:i=k/2
   ·rw[if_pos hi,hlk,hi]
    simp only[eC,jB]
    rw[if_pos (show 2*(k/2)<k+1 by omega),if_pos (show 2*(k/2)+1<k+1 by omega),show 2*(k/2)+1=k by omega];omega
   ·rw[if_neg hi]
    simp only[eC,jB]
    have a1:(2*i<k+1)↔(2*i<k):=by omega
    have a2:(2*i+1<k+1)↔(2*i+1<k):=by omega
    simp only[a1,a2]
 ·subst hJ
  refine⟨(0,[.st [.bool false,.bool (neg&&decide (0<d.length)),dQ (d.take d.length)]]),?_,?_⟩
  ·exact aa (z:=ab d) rfl (aa ag (aa af (aM (by show ¬ (d.length:Int)<((ab d).length:Int);rw[aj];omega) rfl)))
  ·rw[List.take_length];rfl
theorem NR(n:Nat){a b:List Nat}(ha:dl a)(hb:dl b)(hla:a.length<=900000)(hlb:b.length<=900000):cA (n+2) 82 [.sl (ab a),.sl (ab b)]=some (.sl (ab (aE (aS a+aS b)))):=by
 rw[O9]
 unfold Ju
 obtain⟨M,hM⟩:∃ M,M=max a.length b.length:=⟨_,rfl⟩
 have hmax:∀ k:Nat,D.max2 (D.int .i64 (ab a).length) (D.int .i64 (ab b).length)=some (I (M:Int)):=fun _=>by
  rw[CP,aj,aj,hM];congr 2;omega
 refine be (fun k s=>∃ (out:List Nat) (c:Nat),s=[.sl (ab out),I (c:Int),I (k:Int)]/\out.length=k/\dl out/\c<=1/\aS out+c*65536^k=vt a k+vt b k) (M+1) 0 (Nat.zero_le _) ⟨[],0,rfl,rfl,(by intro d hd;cases hd),by omega,by simp[aS,vt]⟩ (fun k hk s hJ=>?_) (fun s hJ=>?_)
 ·obtain⟨out,c,rfl,ho,hdo,hc,hv⟩:=hJ
  left
  have h1:=ha.getD k
  have h2:=hb.getD k
  refine⟨[.sl (ab (out++[(a.getD k 0+b.getD k 0+c)%65536])),I ((a.getD k 0+b.getD k 0+c)/65536:Nat),I ((k+1:Nat):Int)],?_,out++[(a.getD k 0+b.getD k 0+c)%65536],(a.getD k 0+b.getD k 0+c)/65536,rfl,by simp[ho],hdo.append (fun x hx=>by simp at hx;omega),by omega,?_⟩
  ·refine aa (z:=ab a) rfl (aa (z:=ab b) rfl (aa (hmax 0) (aa (av (aF (i:=M) (by omega))) (aa ag (aa af (aJ (by show(k:Int)<(M:Int)+1;omega) ?_))))))
   refine aa (Aj n a k) (aa (Aj n b k) (aa (av (by simp only[inR];omega)) (aa (av (by simp only[inR];omega)) ?_)))
   rw[show(((a.getD k 0:Nat):Int)+((b.getD k 0:Nat):Int)+(c:Int))=((a.getD k 0+b.getD k 0+c:Nat):Int) by omega]
   refine aa (j8 (b:=65536) (by decide)) ?_
   rw[if_pos (by simp only[g0,D.els,aj,List.length_cons,List.length_nil];omega)]
   refine aa (jd (b:=65536) (by decide) (by omega)) (aa (av (aF (i:=k) (by omega))) ?_)
   simp only[g0,D.els,tA]
   rfl
  ·rw[kw,ho,vt,vt,Nat.pow_succ]
   have e:a.getD k 0+b.getD k 0+c=(a.getD k 0+b.getD k 0+c)%65536+65536*((a.getD k 0+b.getD k 0+c)/65536):=by omega
   have e2:aS [(a.getD k 0+b.getD k 0+c)%65536]=(a.getD k 0+b.getD k 0+c)%65536:=by simp[aS]
   rw[e2]
   generalize 65536^k=B at *
   generalize (a.getD k 0+b.getD k 0+c)%65536=r at *
   generalize (a.getD k 0+b.getD k 0+c)/65536=q at *
   have:(a.getD k 0+b.getD k 0+c)*B=(r+65536*q)*B:=by rw[e]
   rw[Nat.add_mul,Nat.add_mul,Nat.add_mul] at this
   rw[show q*(B*65536)=65536*q*B by rw[Nat.mul_comm B,<-Nat.mul_assoc,Nat.mul_comm q],Nat.mul_comm B r]
   omega
 ·obtain⟨out,c,rfl,ho,hdo,hc,hv⟩:=hJ
  refine⟨(0,[.sl (ab out)]),?_,?_⟩
  ·refine aa (z:=ab a) rfl (aa (z:=ab b) rfl (aa (hmax 0) (aa (av (aF (i:=M) (by omega))) (aa ag (aa af (aM (by show ¬ (((M+1:Nat):Int)<(M:Int)+1);omega) rfl))))))
  ·refine aa (wl n (l:=out) (by omega)) ?_
   have va:vt a (M+1)=aS a:=gN (by omega)
   have vb:vt b (M+1)=aS b:=gN (by omega)
   have la:=rA ha M
   have lb:=rA hb M
   rw[gN (show a.length<=M by omega)] at la
   rw[gN (show b.length<=M by omega)] at lb
   have hc0:c=0:=by
    rcases Nat.eq_zero_or_pos c with h|h
    ·exact h
    ·have:1*65536^(M+1)<=c*65536^(M+1):=Nat.mul_le_mul_right _ h
     rw[Nat.pow_succ] at this
     rw[va,vb,Nat.pow_succ] at hv
     omega
   subst hc0
   rw[gc hdo,<-va,<-vb,<-hv];simp
theorem xq(n:Nat){x:Int}(hx:inR x):cA (n+3) 34 [I x]=some (ah x):=by
 rw[QA]
 unfold Jo
 obtain⟨h1,h2⟩:=hx
 have d1:∀ m:Nat,(m:Int)<=9223372036854775807->dl [m%65536,m/65536%65536,m/4294967296%65536,m/281474976710656]:=fun m hm d hd=>by
  simp only[List.mem_cons,List.not_mem_nil,or_false] at hd;omega
 have d2:∀ m:Nat,aS [m%65536,m/65536%65536,m/4294967296%65536,m/281474976710656]=m:=fun m=>by
  simp only[aS];omega
 have d3:∀ m:Nat,D.sl [I (m%65536:Nat),I (m/65536%65536:Nat),I (m/4294967296%65536:Nat),I (m/281474976710656:Nat)]=.sl (ab [m%65536,m/65536%65536,m/4294967296%65536,m/281474976710656]):=fun m=>rfl
 have big:∀ m:Nat,(m:Int)<=9223372036854775808->m<65536^32:=fun m hm=>by
  have:(65536:Nat)^4<=65536^32:=Nat.pow_le_pow_right (by decide) (by decide)
  have e:(65536:Nat)^4=18446744073709551616:=by decide
  omega
 refine aa iD (aa af ?_)
 by_cases h:x ≥ 0
 ·refine aJ h ?_
  obtain⟨m,rfl⟩:=Int.eq_ofNat_of_zero_le h
  refine aa (j8 (b:=65536) (by decide)) (aa (jd (b:=65536) (by decide) h2) (aa (j8 (b:=65536) (by decide)) (aa (jd (b:=4294967296) (by decide) h2) (aa (j8 (b:=65536) (by decide)) (aa (jd (b:=281474976710656) (by decide) h2) ?_)))))
  refine aa (z:=ah m) ?_ rfl
  rw[d3,FR n (d1 m h2) (by simp) (by rw[d2];exact big m (by omega)),d2];rfl
 ·refine aM h ?_
  obtain⟨m,hm⟩:=Int.eq_ofNat_of_zero_le (show 0<=-(x+1) by omega)
  have h3:(m:Int)<=9223372036854775807:=by omega
  refine aa (av (by simp only[inR];omega)) (aa (oJ (by simp only[inR];omega)) ?_)
  rw[hm]
  refine aa (j8 (b:=65536) (by decide)) (aa (jd (b:=65536) (by decide) h3) (aa (j8 (b:=65536) (by decide)) (aa (jd (b:=4294967296) (by decide) h3) (aa (j8 (b:=65536) (by decide)) (aa (jd (b:=281474976710656) (by decide) h3) ?_)))))
  rw[d3]
  refine aa (NR n (b:=[1]) (d1 m h3) (fun d hd=>by simp at hd;omega) (by simp) (by simp)) (aa (z:=ah x) ?_ rfl)
  rw[d2]
  have e1:aS [1]=1:=rfl
  rw[e1,FR n (aO _) ?_ ?_,ao]
  ·congr 2;simp only[sgn,if_true];omega
  ·have:=bF 32 _ (big (m+1) (by omega));omega
  ·rw[ao];exact big (m+1) (by omega)
end Go.Proofs.YtjjjkojfijpeeaaGreat.Sy
end
