/- Part 8 of the proof that HullOfBoxes answers true at every input -/
import Derived.Test.YtjjjkojfijpeeaaGreatBoxes05
import Derived.Test.YtjjjkojfijpeeaaGreatBoxes06
import Derived.Test.YtjjjkojfijpeeaaGreatBoxes07
import Derived.Shelf.SlSortCmp.NoneTotal
import Derived.Ground.SlsfProg
import Derived.KernelRfl
import Derived.Test.YtjjjkojfijpeeaaGreatProg
import Derived.Test.YtjjjkojfijpeeaaGreatChecked
set_option linter.unusedVariables false
set_option linter.unusedSimpArgs false
set_option linter.unnecessarySimpa false
section
namespace Go.Proofs.YtjjjkojfijpeeaaGreat.Sy
open Go Go.Proofs Go.Sort Go.Lib
variable{ro:Option Nat}{nn:Nat}
open Go.ChangeMaps (setBlock)
def so:D->D
 | .st (k::_)=>k
 | x=>x
theorem Do{c:Cx}{kt vt:Ty}:∀ {l:List D} {es:List MapEntry} {j:Nat},ja c kt vt j l es->es.length=l.length/\∀ (i:Nat) (en:MapEntry),es[i]?=some en->en.born=j+i/\∃ k v,l[i]?=some (.st [k,v])/\wt kt k/\wt vt v/\eN c.w c.S k en.key/\eN c.w c.S v en.val
 | [],[],j,_=>⟨rfl,fun i en h=>by simp at h⟩
 | [],_::_,_,h=>h.elim
 | _::_,[],_,h=>h.elim
 | x::l,e::es,j,h=>by
  simp only[ja] at h
  obtain⟨⟨h1,k,v,rfl,h2,h3,h4,h5⟩,h6⟩:=h
  obtain⟨q1,q2⟩:=Do h6
  refine⟨by simp[q1],fun i en hi=>?_⟩
  cases i with
  | zero=>simp at hi;subst hi;exact⟨by simpa using h1,k,v,by simp,h2,h3,h4,h5⟩
  | succ i=>
   simp only[List.getElem?_cons_succ] at hi
   obtain⟨r1,r2⟩:=q2 i en hi
   exact⟨by omega,by simpa using r2⟩
theorem pE{t:Ty}(hc:aW t=true){x:D}(hx:wt t x){w w':World}{S S':Nat->Nat->Prop}{v:Value}(h:eN w S x v):eN w' S' x v:=by
 have lf:=fe t x hc hx
 exact⟨h.1,(bq lf).2 ((bq lf).1 h.2)⟩
theorem wO:∀ (n:Nat) (l:List Nat),l.Nodup->(∀ x∈l,x<n)->l.length<=n
 | 0,l,_,h=>by
  cases l with
  | nil=>simp
  | cons x l=>exact absurd (h x List.mem_cons_self) (by omega)
 | n+1,l,hn,h=>by
  have h1:(l.erase n).length<=n:=wO n (l.erase n) (hn.erase n) fun x hx=>by
   have hx':=(hn.mem_erase_iff).1 hx
   have:=h x hx'.2
   have:=hx'.1
   omega
  have h2:=List.length_erase (a:=n) (l:=l)
  split at h2<;>omega
section
variable{P:Program}{E:Env}{w0:Root}
theorem dL{a:Act}{o:Oper}{m:Sem Value}{v:Value}{w w':World}(hex:execOp a.eval o=(m >>= fun r=>pure (Next.value r)))(hrun:m.run P w=.ok v w'):(execOp a.eval o).run P w=.ok (.value v) w':=by
 rw[hex]
 simp only[Sem.run_bind,hrun,Result.andThen_ok,Sem.run_pure]
theorem vg{nt o it t:Nat}{X:AV}(h:t≠o):(σL nt o it X).put (some t) .undef=σL nt o it X:=by
 unfold St.put σL
 simp only
 split
 ·congr 1
  funext i
  by_cases hi:i=t
  ·subst hi;rw[if_pos rfl,if_neg h]
  ·rw[if_neg hi]
 ·rfl
theorem hG{a:Act}{t:Nat}{v:Value}(h:t<a.tmps.size):(a.put (some t) v).eval (.tmp t)=v:=by
 simp[Act.eval,Act.put,Array.getD,h]
theorem al{a:Act}{d:Option Nat}{v:Value}:(a.put d v).tmps.size=a.tmps.size:=by
 cases d<;>simp[Act.put]
theorem E0(hE:EnvOk P E){e vt:Ty}(he:aW e=true)(hvt:aW vt=true)(hne:af e=true)(hnv:af vt=true){id23 id24 id25 b b2:Nat}{t72 m0 it T nx ok en o:Nat}{o23 o24 o25:Array Oper}{rest:List Oper}{c26:Code}
  {y1 y2 y3 y4 y5:TypeId} {p1 p2 p3 p4 p5:String} {f1 f2 f3 f4 f5:Array Edge} {TK TV:TypeId}
  (h23:o23.toList=[⟨some t72,.move (.tmp m0),y1,p1,f1,none⟩,⟨some it,.range T (.tmp t72),y2,p2,f2,none⟩])
  (h24:o24.toList=[⟨some nx,.next (.tmp it) false,y3,p3,f3,none⟩,⟨some ok,.extract (.tmp nx) 0,y4,p4,f4,none⟩])
  (h25:o25.toList=⟨some en,.entry (.tmp it),y5,p5,f5,none⟩::rest) (hrest:∀ x∈rest,x.guard=none) (hT:P.underlying T=some (.map TK TV))
  {S:Nat->Nat->Prop} {γ:Nat->Option Nat} {β:Nat->Option (Nat×Nat)} {s:St} {a:Act} {w:World} (h:Rp w0 S γ β s a w)
  (d1:o≠t72) (d2:o≠it) (d3:nx≠o) (d4:ok≠o) (d5:en≠o) (d6:it≠t72) (d7:it≠nx) (d8:it≠ok) (d9:it≠en) (d10:nx≠ok) (n1:t72<s.nt) (n2:it<s.nt) (n3:nx<s.nt) (n4:ok<s.nt) (n5:en<s.nt)
  {idm:Nat} {l:List D} (hm:s.tm m0=.map e vt idm) (hob:s.ob idm=some (.mp e vt l)) (hl:l.length<=1073741824) (hv:cb s e o=some [])
  (hround:∀ X L k v,xY e L X->L.length<1073741824->wt e k->ev E (.region 0 rest.toArray false) .leaf D ((σL s.nt o it X).put (some en) (.d (.tup [e,vt]) (.tup [k,v]))) (fun x s'=>match x with
   | .normal=>ev E c26 .leaf D s' (fun x s''=>match x with|.normal=>(cb s'' e o).bind fun l=>some (.sl l)|_=>none)
   | _=>none)=some (.sl (L++[k])))
  {Q:Exit->Act->World->Prop} (hQ:∀ L S' γ' β' X a' w',xY e L X->L.Perm (l.map so)->Rp w0 S' γ' β' (σL s.nt o it X) a' w'->Q .normal a' w') :
  (Code.seq (.region id23 o23 false) (.block b (.loop (.seq (.region id24 o24 false) (.seq (.cond (.tmp ok) .skip (.exit b)) (.block b2 (.seq (.region id25 o25 false) c26))))))).wpIn (FW ro) nn P Q a w:=by
 have hm0:m0<s.nt:=by
  rcases Nat.lt_or_ge m0 s.nt with k|k
  ·exact k
  ·rw[h.tmu m0 k] at hm;cases hm
 have hmv:=h.tms m0 (by rw[h.nt];exact hm0)
 rw[hm] at hmv
 simp only[AR,AC] at hmv
 obtain⟨hna,m,hmc,hγm,_,_,_⟩:=hmv
 have hmval:=ao hna hmc
 have hO:=h.obs idm _ m hob hγm
 simp only[ii] at hO
 obtain⟨_,_,hSm,es,hes,hM⟩:=hO
 obtain⟨hesl,hesat⟩:=Do hM
 have hmn:=h.γn idm m hγm
 have hborn:∀ x∈es.toList,x.born<l.length:=fun x hx=>by
  obtain⟨i,hi,rfl⟩:=List.getElem_of_mem hx
  have:=(hesat i _ (List.getElem?_eq_getElem hi)).1
  omega
 have hbn:(es.toList.map (·.born)).Nodup:=by
  rw[List.Nodup,List.pairwise_iff_getElem]
  intro i j hi hj hij
  simp only[List.length_map] at hi hj
  have a1:=(hesat i _ (List.getElem?_eq_getElem hi)).1
  have a2:=(hesat j _ (List.getElem?_eq_getElem hj)).1
  simp only[List.getElem_map,a1,a2]
  omega
 refine wpIn_seq ?_
 refine wpIn_region_list ?_
 rw[h23]
 simp only[wpListIn,Region.wanted,if_true]
 refine(be (K:=fun v w1=>v=a.tmps.getD m0 undef/\w=w1) (cD.value (v:=a.eval (.tmp m0)) (w':=w) rfl ⟨rfl,rfl⟩) ?_)
 rintro _ _ ⟨rfl,rfl⟩
 rw[hmval]
 have ha1:(a.put (some t72) (.map (some m))).eval (.tmp t72)=.map (some m):=hG (by rw[h.nt];exact n1)
 refine(be (K:=fun v w1=>v=.pointer (some ⟨w.heap.size,0,none⟩)/\w1=w.alloc (.mapIter (some m) l.length #[] l.length)) (cD.value (dL (m:=Instr.range T (.map (some m))) ?_ (run_range_map w T TK TV m es l.length hT hes)) ⟨rfl,rfl⟩) ?_)
 ·show(Instr.range T ((a.put (some t72) (.map (some m))).eval (.tmp t72)) >>= fun r=>pure (Next.value r))=_
  rw[ha1]
 rintro _ _ ⟨rfl,rfl⟩
 simp only[Exit.then]
 refine wpIn_block ?_
 obtain⟨r,hr0⟩:∃ r,r=w.heap.size:=⟨_,rfl⟩
 rw[<-hr0]
 have hmr:m≠r:=by have:=hmn.2;omega
 have hgr:w.alloc (.mapIter (some m) l.length #[] l.length)=aw w [.mapIter (some m) l.length #[] l.length] w.drawn:=by
  show({ w with heap:=w.heap.push (.mapIter (some m) l.length #[] l.length) }:World)={ w with heap:=w.heap++[Obj.mapIter (some m) l.length #[] l.length].toArray,drawn:=w.drawn }
  rw[Array.push_eq_append]
 have h1:Rp w0 S γ β ((s.put (some t72) .undef).put (some it) .undef) ((a.put (some t72) (.map (some m))).put (some it) (.pointer (some ⟨r,0,none⟩))) (w.alloc (.mapIter (some m) l.length #[] l.length)):=by
  rw[hgr]
  exact(((h.put (v:=.undef) (val:=.map (some m)) (by simp[AR]) (some t72)).put (v:=.undef) (val:=.pointer (some ⟨r,0,none⟩)) (by simp[AR]) (some it)).grow (os:=[.mapIter (some m) l.length #[] l.length]) (d:=w.drawn) (Nat.le_refl _) (S':=S) (fun _ _ hb=>hb) (fun _ _ hb=>.inl hb)).1
 have hv1:cb ((s.put (some t72) .undef).put (some it) .undef) e o=some []:=by
  have q1:((s.put (some t72) .undef).put (some it) .undef).tm o=s.tm o:=by rw[qZ (fun e=>d2 (by cases e;rfl)),qZ (fun e=>d1 (by cases e;rfl))]
  have q2:((s.put (some t72) .undef).put (some it) .undef).dead=s.dead:=by
   rw[(St.put_fields _ _ _).2.2.1,(St.put_fields _ _ _).2.2.1]
  unfold cb at hv ⊢
  rw[q1,q2];exact hv
 have hnt1:((s.put (some t72) .undef).put (some it) .undef).nt=s.nt:=by rw[(St.put_fields _ _ _).2.2.2.1,(St.put_fields _ _ _).2.2.2.1]
 have hsz1:(w.alloc (.mapIter (some m) l.length #[] l.length)).heap.size=w.heap.size+1:=by rw[hgr];simp[aw]
 have hrn:¬ w0.Old r:=fun ho=>by have:=ho.1;have:=h.ext.sz;omega
 have hdead1:((s.put (some t72) .undef).put (some it) .undef).dead=s.dead:=by rw[(St.put_fields _ _ _).2.2.1,(St.put_fields _ _ _).2.2.1]
 obtain⟨β1,X1,hX1,R1⟩:=h1.std (m:=m) (r:=r) ⟨hmn.1,by rw[hsz1];omega⟩ ⟨hrn,by rw[hsz1];omega⟩ hmr (fun v bb ee hd hb=>by
  rw[hdead1] at hd
  exact⟨fun eq=>h.βγ v idm bb ee hd hb (eq ▸ hγm),fun eq=>by have:=(h.βn v bb ee hd hb).2.1;omega⟩) he hv1 it
 rw[hnt1] at R1
 have hes1:(w.alloc (.mapIter (some m) l.length #[] l.length)).heap[m]?=some (.map es l.length):=by
  rw[hgr,bW hmn.2];exact hes
 have hit1:(w.alloc (.mapIter (some m) l.length #[] l.length)).heap[r]?=some (.mapIter (some m) l.length #[] l.length):=by rw[hr0];exact heap_alloc_new w _
 have hp1:((a.put (some t72) (.map (some m))).put (some it) (.pointer (some ⟨r,0,none⟩))).tmps.getD it undef=.pointer (some ⟨r,0,none⟩):=by
  exact hG (by rw[al,h.nt];exact n2)
 refine jo (m:=l.length) (fun n a w=>∃ (S:Nat->Nat->Prop) (β:Nat->Option (Nat×Nat)) (X:AV) (L:List D) (seen:Array Nat) (c0:Nat),xY e L X/\Rp w0 (fun b i=>S b i/\b≠m/\b≠r) (γs m r) β (σL s.nt o it X) a w/\a.tmps.getD it undef=.pointer (some ⟨r,0,none⟩) ∧
  w.heap[m]?=some (.map es l.length)/\w.heap[r]?=some (.mapIter (some m) l.length seen c0)/\l.length<=c0/\L=seen.toList.map (fun j=>so (l.getD j default))/\seen.toList.Nodup/\(∀ j∈seen.toList,j<l.length)/\n+seen.size=l.length)
  ⟨S,β1,X1,[],#[],l.length,hX1,R1,hp1,hes1,hit1,Nat.le_refl _,rfl,by simp,by simp,by simp⟩ ?_
 clear R1 h1 hv1 hp1 hes1 hit1 hX1 hgr
 rintro n a w ⟨S,β,X,L,seen,c0,hX,R,hp,hes,hit,hc0,hL,hnd,hlt,hn⟩
 have hsz:=R.nt
 refine wpIn_seq (wpIn_region_list ?_)
 rw[h24]
 simp only[wpListIn,Region.wanted,if_true]
 have hev:a.eval (.tmp it)=.pointer (some ⟨r,0,none⟩):=hp
 rcases run_next_at w y3 r m l.length c0 seen es l.length hit hes hborn hc0 with⟨hz,hrun⟩|⟨e0,he0,w1,hw1,hrun⟩
 ·
  refine(be (K:=fun v w1=>v=.tuple #[.bool false]/\w=w1) (cD.value (dL (m:=Instr.next (.pointer (some ⟨r,0,none⟩)) false y3) ?_ hrun) ⟨rfl,rfl⟩) ?_)
  ·show(Instr.next (a.eval (.tmp it)) false y3 >>= fun r=>pure (Next.value r))=_
   rw[hev]
  rintro _ _ ⟨rfl,rfl⟩
  have ex:(a.put (some nx) (.tuple #[.bool false])).eval (.tmp nx)=.tuple #[.bool false]:=hG (by rw[hsz];exact n3)
  refine(be (K:=fun v w1=>v=.bool false/\w=w1) (cD.value (dL (m:=Instr.extract (.tuple #[.bool false]) 0) ?_ (v:=.bool false) (w':=w) rfl) ⟨rfl,rfl⟩) ?_)
  ·show(Instr.extract ((a.put (some nx) (.tuple #[.bool false])).eval (.tmp nx)) 0 >>= fun r=>pure (Next.value r))=_
   rw[ex]
  rintro _ _ ⟨rfl,rfl⟩
  simp only[Exit.then]
  refine wpIn_seq (wpIn_cond_false (hG (by rw[al,hsz];exact n4)) (wpIn_exit ?_))
  simp only[Exit.then,Exit.inBlock,if_true]
  have R2:=(R.put (v:=.undef) (val:=.tuple #[.bool false]) (by simp[AR]) (some nx)).put (v:=.undef) (val:=.bool false) (by simp[AR]) (some ok)
  rw[vg d3,vg d4] at R2
  refine hQ L _ _ _ X _ _ hX ?_ R2
  have hall:∀ j,j<l.length->j∈seen.toList:=fun j hj=>by
   have hj':j<es.toList.length:=by omega
   have e1:=(hesat j _ (List.getElem?_eq_getElem hj')).1
   have hno:es.toList[j] ∉ (leftOf es seen).toList:=fun hm=>by
    have:=List.length_pos_of_mem hm
    simp at this;omega
   simp only[leftOf,Array.toList_filter,List.mem_filter,List.getElem_mem,true_and] at hno
   simp at hno
   simp only[Array.getElem_toList,Nat.zero_add] at e1
   rw[e1] at hno
   simpa using hno
  have hperm:seen.toList.Perm (List.range l.length):=(List.perm_ext_iff_of_nodup hnd List.nodup_range).2 fun j=>⟨fun hj=>List.mem_range.2 (hlt j hj),fun hj=>hall j (List.mem_range.1 hj)⟩
  rw[hL]
  refine(hperm.map _).trans ?_
  have:(List.range l.length).map (fun j=>so (l.getD j default))=l.map so:=by
   apply List.ext_getElem?
   intro j
   rw[List.getElem?_map,List.getElem?_map]
   rcases Nat.lt_or_ge j l.length with k|k
   ·simp[k,List.getD]
   ·rw[List.getElem?_eq_none (by simpa using k),List.getElem?_eq_none k];rfl
  rw[this]
 ·
  have hw1m:w1.heap[m]?=some (.map es l.length):=by rcases hw1 with rfl|rfl<;>exact hes
  have hw1s:w1.heap.size=w.heap.size:=by rcases hw1 with rfl|rfl<;>rfl
  have hrs:r<w1.heap.size:=by rw[hw1s];exact(Array.getElem?_eq_some_iff.1 hit).1
  have Rw:Rp w0 (fun b i=>S b i/\b≠m/\b≠r) (γs m r) β (σL s.nt o it X) a w1:=by
   rcases hw1 with rfl|rfl
   ·exact R
   ·have:=(R.grow (os:=[]) (d:=w.drawn+1) (Nat.le_succ _) (S':=fun b i=>S b i/\b≠m/\b≠r) (fun _ _ hb=>hb) (fun _ _ hb=>.inl hb)).1
    have e2:aw w [] (w.drawn+1)=w.drew:=by
     unfold aw
     rw[show w.heap++([]:List Obj).toArray=w.heap by simp]
     rfl
    rw[e2] at this
    exact this
  obtain⟨w2,hw2⟩:∃ w2,w2=setBlock w1 r (.mapIter (some m) l.length (seen.push e0.born) l.length):=⟨_,rfl⟩
  rw[<-hw2] at hrun
  have R2:Rp w0 (fun b i=>S b i/\b≠m/\b≠r) (γs m r) β (σL s.nt o it X) a w2:=by
   rw[hw2]
   exact Rw.setB (id:=1) rfl rfl (fun i hi=>hi.2.2 rfl) _
  have hes2:w2.heap[m]?=some (.map es l.length):=by
   rw[hw2];simp only[setBlock];rw[Array.getElem?_setIfInBounds_ne (Ne.symm hmr)];exact hw1m
  have hit2:w2.heap[r]?=some (.mapIter (some m) l.length (seen.push e0.born) l.length):=by
   rw[hw2];simp only[setBlock];rw[Array.getElem?_setIfInBounds_self_of_lt hrs]
  have he0':e0∈es.toList/\e0.born ∉ seen.toList:=by
   simp only[leftOf,Array.toList_filter,List.mem_filter] at he0
   exact⟨he0.1,by have:=he0.2;simpa using this⟩
  obtain⟨j,hj,hje⟩:=List.getElem_of_mem he0'.1
  obtain⟨q1,k,v,q2,q3,q4,q5,q6⟩:=hesat j e0 (by rw[List.getElem?_eq_getElem hj,hje])
  rw[Nat.zero_add] at q1
  have hjl:j<l.length:=by omega
  have hgetj:l.getD j default=.st [k,v]:=by simp[List.getD,q2]
  refine(be (K:=fun v w1=>v=.tuple #[.bool true,e0.key,e0.val]/\w2=w1) (cD.value (dL (m:=Instr.next (.pointer (some ⟨r,0,none⟩)) false y3) ?_ hrun) ⟨rfl,rfl⟩) ?_)
  ·show(Instr.next (a.eval (.tmp it)) false y3 >>= fun r=>pure (Next.value r))=_
   rw[hev]
  rintro _ _ ⟨rfl,rfl⟩
  have ex:(a.put (some nx) (.tuple #[.bool true,e0.key,e0.val])).eval (.tmp nx)=.tuple #[.bool true,e0.key,e0.val]:=hG (by rw[hsz];exact n3)
  refine(be (K:=fun v w1=>v=.bool true/\w2=w1) (cD.value (dL (m:=Instr.extract (.tuple #[.bool true,e0.key,e0.val]) 0) ?_ (v:=.bool true) (w':=w2) rfl) ⟨rfl,rfl⟩) ?_)
  ·show(Instr.extract ((a.put (some nx) (.tuple #[.bool true,e0.key,e0.val])).eval (.tmp nx)) 0 >>= fun r=>pure (Next.value r))=_
   rw[ex]
  rintro _ _ ⟨rfl,rfl⟩
  simp only[Exit.then]
  refine wpIn_seq (wpIn_cond_true (hG (by rw[al,hsz];exact n4)) (wpIn_skip ?_))
  simp only[Exit.then]
  refine wpIn_block (wpIn_seq (wpIn_region_list ?_))
  have R3:=(R2.put (v:=.undef) (val:=.tuple #[.bool true,e0.key,e0.val]) (by simp[AR]) (some nx)).put (v:=.undef) (val:=.bool true) (by simp[AR]) (some ok)
  rw[vg d3,vg d4] at R3
  have hp3:((a.put (some nx) (.tuple #[.bool true,e0.key,e0.val])).put (some ok) (.bool true)).tmps.getD it undef=.pointer (some ⟨r,0,none⟩):=by
   rw[bK (fun e=>d8 (by cases e;rfl)),bK (fun e=>d7 (by cases e;rfl))];exact hp
  generalize ((a.put (some nx) (.tuple #[.bool true,e0.key,e0.val])).put (some ok) (.bool true))=a3 at R3 hp3 ⊢
  rw[h25]
  simp only[wpListIn,Region.wanted,if_true]
  refine(be (K:=fun v w1=>v=.tuple #[e0.key,e0.val]/\w2=w1) (cD.value (dL (m:=Instr.entry (.pointer (some ⟨r,0,none⟩))) ?_ (run_entry_at w2 r m l.length seen es l.length e0 hit2 hes2 he0'.1 hbn)) ⟨rfl,rfl⟩) ?_)
  ·show(Instr.entry (a3.eval (.tmp it)) >>= fun r=>pure (Next.value r))=_
   rw[show a3.eval (.tmp it)=.pointer (some ⟨r,0,none⟩) from hp3]
  rintro _ _ ⟨rfl,rfl⟩
  have R4:=R3.put (v:=.d (.tup [e,vt]) (.tup [k,v])) (val:=.tuple #[e0.key,e0.val]) (by
   simp only[AR]
   refine .inr ⟨[e,vt],rfl,by simp[aY,hne,hnv],⟨[k,v],rfl,k,[v],rfl,q3,v,[],rfl,q4,rfl⟩,[e0.key,e0.val],rfl,rfl,fun i d u hd hu=>?_⟩
   cases i with
   | zero=>simp at hd hu;subst hd;subst hu;exact pE he q3 q5
   | succ i=>cases i with
    | zero=>simp at hd hu;subst hd;subst hu;exact pE hvt q4 q6
    | succ i=>simp at hd) (some en)
  have hp4:(a3.put (some en) (.tuple #[e0.key,e0.val])).tmps.getD it undef=.pointer (some ⟨r,0,none⟩):=by
   rw[bK (fun e=>d9 (by cases e;rfl))];exact hp3
  generalize (a3.put (some en) (.tuple #[e0.key,e0.val]))=a4 at R4 hp4 ⊢
  have hbs:(e0.born::seen.toList).length<=l.length:=wO _ _ (List.nodup_cons.2 ⟨he0'.2,hnd⟩) (fun x hx=>by
   rcases List.mem_cons.1 hx with rfl|hx
   ·omega
   ·exact hlt x hx)
  have hLl:L.length=seen.size:=by rw[hL];simp
  simp only[List.length_cons,Array.length_toList] at hbs
  have lkS4:((σL s.nt o it X).put (some en) (.d (.tup [e,vt]) (.tup [k,v]))).lkS=[it]:=(St.put_fields _ _ _).2.2.2.2.1
  have lkO4:((σL s.nt o it X).put (some en) (.d (.tup [e,vt]) (.tup [k,v]))).lkO=[0,1]:=(St.put_fields _ _ _).2.2.2.2.2.1
  refine mh (ops:=rest.toArray) rest _ _ hrest ?_
  have key:=Ar (ro:=ro) (nn:=nn) hE (Q:=Exit.then (c26.wpIn (FW ro) nn P (Exit.inBlock b2 (Exit.then (fun a' w'=>∃ m_1,m_1<n/\∃ (S:Nat->Nat->Prop) (β:Nat->Option (Nat×Nat)) (X:AV) (L:List D) (seen:Array Nat) (c0:Nat),xY e L X/\Rp w0 (fun b i=>S b i/\b≠m/\b≠r) (γs m r) β (σL s.nt o it X) a' w'/\a'.tmps.getD it undef=.pointer (some ⟨r,0,none⟩) ∧
   w'.heap[m]?=some (.map es l.length)/\w'.heap[r]?=some (.mapIter (some m) l.length seen c0)/\l.length<=c0/\L=seen.toList.map (fun j=>so (l.getD j default))/\seen.toList.Nodup/\(∀ j∈seen.toList,j<l.length)/\m_1+seen.size=l.length) (Exit.inBlock b Q)))) (Exit.inBlock b2 (Exit.then (fun a' w'=>∃ m_1,m_1<n/\∃ (S:Nat->Nat->Prop) (β:Nat->Option (Nat×Nat)) (X:AV) (L:List D) (seen:Array Nat) (c0:Nat),xY e L X/\Rp w0 (fun b i=>S b i/\b≠m/\b≠r) (γs m r) β (σL s.nt o it X) a' w'/\a'.tmps.getD it undef=.pointer (some ⟨r,0,none⟩) ∧
   w'.heap[m]?=some (.map es l.length)/\w'.heap[r]?=some (.mapIter (some m) l.length seen c0)/\l.length<=c0/\L=seen.toList.map (fun j=>so (l.getD j default))/\seen.toList.Nodup/\(∀ j∈seen.toList,j<l.length)/\m_1+seen.size=l.length) (Exit.inBlock b Q)))) R4 (hround X L k v hX (by omega) q3) ?_
  ·simpa using key
  intro x s' S' γ' β' a' w' g1 g2 g3 g4
  cases x with
  | ret=>cases g4
  | exit i=>cases g4
  | normal=>
   show c26.wpIn (FW ro) nn P _ a' w'
   refine em hE c26 .leaf D _ _ g1 g4 fun x2 s2 S2 γ2 β2 a5 w5 k1 k2 k3 k4=>?_
   cases x2 with
   | ret=>cases k4
   | exit i=>cases k4
   | normal=>
    have hfr:cb s2 e o=some (L++[k]):=by
     obtain⟨l2,u1,u2⟩:=bind_some_inv k4
     simp only[Option.some.injEq,D.sl.injEq] at u2
     rw[u1,u2]
    have F:=g2.tr k2 g3
    obtain⟨z1,z2⟩:=F.objs 0 (by rw[lkO4];simp) m rfl
    obtain⟨z3,z4⟩:=F.objs 1 (by rw[lkO4];simp) r rfl
    have z5:=F.slots it (by rw[lkS4];simp)
    obtain⟨β6,X6,hX6,R6⟩:=k1.std (m:=m) (r:=r) (k1.γn 0 m z1) (k1.γn 1 r z3) hmr (fun u bb ee hd hb=>⟨fun eq=>k1.βγ u 0 bb ee hd hb (eq ▸ z1),fun eq=>k1.βγ u 1 bb ee hd hb (eq ▸ z3)⟩) he hfr it
    have hnt6:s2.nt=s.nt:=by
     rw[k3.nt,g3.nt,(St.put_fields _ _ _).2.2.2.1];rfl
    rw[hnt6] at R6
    show ∃ m_1,m_1<n/\_
    refine⟨n-1,by omega,S2,β6,X6,L++[k],seen.push e0.born,l.length,hX6,R6,z5.trans hp4,z2.trans hes2,z4.trans hit2,Nat.le_refl _,?_,?_,?_,?_⟩
    ·rw[Array.toList_push,List.map_append,<-hL,List.map_cons,List.map_nil,q1,hgetj];rfl
    ·rw[Array.toList_push,List.nodup_append]
     refine⟨hnd,by simp,fun x hx y hy=>?_⟩
     rw[List.mem_singleton.1 hy]
     exact fun eq=>he0'.2 (eq ▸ hx)
    ·intro x hx
     rw[Array.toList_push] at hx
     rcases List.mem_append.1 hx with hx|hx
     ·exact hlt x hx
     ·rw[List.mem_singleton.1 hx];omega
    ·simp;omega
end
end Go.Proofs.YtjjjkojfijpeeaaGreat.Sy
end
section
namespace Go.Proofs.YtjjjkojfijpeeaaGreat.Sy
open Go Go.Proofs Go.Sort Go.Lib
section
variable{P:Program}{E:Env}
def cq(w:World)(S:Nat->Nat->Prop):Root:=⟨w,S,fun _=>False⟩
def GL(P:Program)(fn:Func)(w:World)(S:Nat->Nat->Prop)(rty:Ty)(y:D):Exit->Act->World->Prop:=
 bodyPost P fn fun e w'=>∃ v,e=.returned v/\(∃ os d,w.drawn<=d/\w'=aw w os d)/\wt rty y/\DR w' (fun b o=>S b o\/(w.heap.size<=b/\b<w'.heap.size)) y v
theorem Hv(hE:EnvOk P E){fn:Func}{rty:Ty}{y:D}{w:World}{S:Nat->Nat->Prop}(hr:ia fn.results.size rty=true){d:Code}{ann:Ann}{S':Nat->Nat->Prop}{γ':Nat->Option Nat}{β':Nat->Option (Nat×Nat)}{s':St}{a':Act}{w':World}
  (h:Rp (cq w S) S' γ' β' s' a' w') (hev:(ev E d ann D s' fun e s=>match e with|.exit _=>none|_=>results E s rty fn.results.toList)=some y):d.wpIn (FW none) 0 P (GL P fn w S rty y) a' w':=by
 refine em hE d ann D _ y h hev fun e s' S' γ' β' a' w' n1 n2 n3 n4=>?_
 have hres:results E s' rty fn.results.toList=some y->(∃ v,(Go.results fn a'.tmps).run P w'=.ok v w'/\∃ v',Ending.returned v=.returned v'/\(∃ os d,w.drawn<=d/\w'=aw w os d)/\wt rty y/\DR w' (fun b o=>S b o\/(w.heap.size<=b/\b<w'.heap.size)) y v'):=fun hq=>by
  obtain⟨v,k1,k2,k3⟩:=lY hE n1 hr hq
  refine⟨v,k1,v,rfl,bQ n1.ext (fun _ hf=>hf),k2,k3.mono (fun _ _ _=>rfl) fun b o hb=>?_⟩
  rcases Nat.lt_or_ge b w.heap.size with hlt|hge
  ·exact .inl (n1.So b o hb ⟨hlt,fun hf=>hf⟩)
  ·exact .inr ⟨hge,n1.Sb b o hb⟩
 cases e with
 | normal=>exact⟨n1.df,hres n4⟩
 | ret=>exact⟨n1.df,hres n4⟩
 | exit i=>cases n4
theorem qG(hE:EnvOk P E){f:FuncId}{fn:Func}{ann:AnnT}{ptys:List Ty}{rty:Ty}{xs:List D}{y:D}{K:St->Option D}(hf:P.funcs[f]?=some fn)(hk:(decide (ptys.length<=fn.ntmps)&&ia fn.results.size rty&&aY ptys)=true)
  (h:F5 E K fn ann ptys xs=some y) (hK:∀ c,fn.body=some c->∀ (w:World) (S S':Nat->Nat->Prop) γ' β' s' a' w',Rp (cq w S) S' γ' β' s' a' w'->K s'=some y->(oQ c ann).wpIn (FW none) 0 P (GL P fn w S rty y) a' w'):Ei P ptys rty f xs y:=by
 intro w S vs hS hwt hlen hvs
 simp only[Bool.and_eq_true,decide_eq_true_eq] at hk
 obtain⟨⟨hsz,hr⟩,hn⟩:=hk
 unfold F5 at h
 split at h<;>first|(cases h;done)|skip
 rename_i c hb
 have hxl:xs.length=ptys.length:=lP hwt
 have hntm:(vs.toArray++Array.replicate (fn.ntmps-vs.toArray.size) undef).size=fn.ntmps:=by
  simp;omega
 refine cO hf hb (Hj (w0:=cq w S) hE c ann (S:=S) (γ:=fun _=>none) (β:=fun _=>none) (s:=vK fn ptys xs) ?_ h fun s' S' γ' β' a' w' n1 n2=>hK c hb w S S' γ' β' s' a' w' n1 n2)
 refine⟨⟨rfl,rfl,rfl,Nat.le_refl _,Nat.le_refl _,fun _ _=>rfl⟩,fun t ht=>?_,hntm,fun t ht=>?_,fun id o b ho=>(by cases ho),fun id b hb=>(by cases hb),fun id id' b hb=>(by cases hb),fun _ _=>rfl,fun v b e _ hb=>(by cases hb),fun v v' b e e' _ _ hb=>(by cases hb),fun v id b e _ hb=>(by cases hb),fun _ _=>rfl,hS,fun b o hb _=>hb,rfl⟩
 ·simp only[vK,om]
  split
  ·rename_i ty x e1 e2
   have hlt:=(List.getElem?_eq_some_iff.1 e2).1
   have hlt':t<vs.length:=by omega
   have hv:(vs.toArray++Array.replicate (fn.ntmps-vs.toArray.size) undef).getD t undef=vs[t]:=by
    simp[Array.getD,Array.getElem_append,hlt']
    omega
   show AR _ _ ((vs.toArray++Array.replicate (fn.ntmps-vs.toArray.size) undef).getD t undef)
   rw[hv]
   obtain⟨x',hx',hw'⟩:=jB hwt e1
   rw[e2] at hx';cases hx'
   exact dW (cc hn e1) hw' (hvs t x _ e2 (List.getElem?_eq_getElem hlt'))
  ·simp only[AR]
 ·have ht':fn.ntmps<=t:=ht
  simp only[vK,om]
  rw[List.getElem?_eq_none (by omega)]
def G2(nt x:Nat)(e:Ty)(l:List D):St:={ tm:=fun i=>if i=x then .d (.sl e) (.sl l) else .undef,ob:=fun _=>none,fresh:=0,dead:=[],nt:=nt,lkS:=[],lkO:=[] }
theorem Rp.reset{w0:Root}{S:Nat->Nat->Prop}{s:St}{x:Nat}{e:Ty}{l:List D}{a:Act}{w:World}(h:Rp w0 S (fun _=>none) (fun _=>none) (Hw s x e l) a w){nt:Nat}(hnt:s.nt=nt):Rp w0 S (fun _=>none) (fun _=>none) (G2 nt x e l) a w:=by
 subst hnt
 exact⟨h.ext,h.tms,h.nt,h.tmu,fun id o b ho=>(by cases ho),h.γn,h.γi,fun _ _=>rfl,h.βn,h.βi,h.βγ,fun _ _=>rfl,h.Sb,h.So,h.df⟩
def AK(E:Env)(nt x g:Nat)(e:Ty)(s:St):Option D:=(cb s e x).bind fun l=>if s.nt=nt then(iN E g l).bind fun l'=>some (.sl l') else none
theorem ta(hE:EnvOk P E){f0:Nat}{e:Ty}(hf:SortOk P f0 e){g:Nat}(hsig:E.sig g=some ([e,e],.int .i64)){fn:Func}{rty:Ty}{y:D}{w:World}{S:Nat->Nat->Prop}(hr:ia fn.results.size rty=true)
  {id x t d2 nt:Nat} {ops:Array Oper} {d:Code} {ann:Ann} {ty1 ty2:TypeId} {p1 p2:String} {af1 af2:Array Edge} {args:Array Operand} {ats:Array TypeId}
  (hops:ops.toList=[⟨some t,.move (.tmp x),ty1,p1,af1,none⟩,⟨some d2,.call ⟨.value (.func f0),args,ats⟩,ty2,p2,af2,none⟩]) (hargs:args=#[.tmp t,.func g]) (hd:(decide (x≠t)&&decide (x≠d2)&&decide (t<nt))=true)
  (hev:∀ l',(ev E d ann D (G2 nt x e l') fun e s=>match e with|.exit _=>none|_=>results E s rty fn.results.toList)=some (.sl l'))
  {S':Nat->Nat->Prop} {γ':Nat->Option Nat} {β':Nat->Option (Nat×Nat)} {s':St} {a':Act} {w':World} (h:Rp (cq w S) S' γ' β' s' a' w') (hK:AK E nt x g e s'=some y):(Code.seq (.region id ops false) d).wpIn (FW none) 0 P (GL P fn w S rty y) a' w':=by
 simp only[Bool.and_eq_true,decide_eq_true_eq] at hd
 obtain⟨⟨hd1,hd2⟩,hd3⟩:=hd
 obtain⟨l,h1,h2⟩:=bind_some_inv hK
 split at h2<;>first|(cases h2;done)|skip
 rename_i hnt
 obtain⟨l',h3,h4⟩:=bind_some_inv h2
 cases h4
 refine wpIn_seq (FH hE hf hsig hops hargs h hd1 hd2 (by rw[hnt];exact hd3) h1 h3 fun a2 w2 S2 hR=>?_)
 exact Hv hE hr (hR.reset hnt) (hev l')
theorem pb{lt:D->D->Bool}{x:D}:∀ {l:List D},(∀ a∈x::l,∀ b∈x::l,∀ c∈x::l,lt a b=true->lt b c=true->lt a c=true)->(∀ y∈l,lt x y=true\/lt y x=true)->l.Pairwise (fun a b=>lt a b=true)->(vh lt x l).Pairwise (fun a b=>lt a b=true)
 | [],_,_,_=>by simp[vh]
 | y::l,htr,hto,hp=>by
  obtain⟨p1,p2⟩:=List.pairwise_cons.1 hp
  simp only[vh]
  split
  ·rename_i hxy
   refine List.pairwise_cons.2 ⟨fun z hz=>?_,hp⟩
   rcases List.mem_cons.1 hz with rfl|hz
   ·exact hxy
   ·exact htr x (by simp) y (by simp) z (by simp[hz]) hxy (p1 z hz)
  ·rename_i hxy
   have hyx:lt y x=true:=(hto y List.mem_cons_self).resolve_left hxy
   refine List.pairwise_cons.2 ⟨fun z hz=>?_,pb (fun a ha b hb c hc=>?_) (fun z hz=>hto z (List.mem_cons_of_mem _ hz)) p2⟩
   ·rcases List.mem_cons.1 ((n9 lt x l).subset hz) with rfl|hz
    ·exact hyx
    ·exact p1 z hz
   ·have up:∀ q,q∈x::l->q∈x::y::l:=fun q hq=>by
     rcases List.mem_cons.1 hq with rfl|hq
     ·simp
     ·simp[hq]
    exact htr a (up a ha) b (up b hb) c (up c hc)
theorem np{lt:D->D->Bool}:∀ {l:List D},(∀ a∈l,∀ b∈l,∀ c∈l,lt a b=true->lt b c=true->lt a c=true)->l.Pairwise (fun a b=>lt a b=true\/lt b a=true)->(gm lt l).Pairwise (fun a b=>lt a b=true)
 | [],_,_=>by simp[gm]
 | x::l,htr,hto=>by
  obtain⟨p1,p2⟩:=List.pairwise_cons.1 hto
  have hs:∀ q,q∈gm lt l->q∈l:=fun q hq=>(eV lt l).subset hq
  have up:∀ q,q∈x::gm lt l->q∈x::l:=fun q hq=>by
   rcases List.mem_cons.1 hq with rfl|hq
   ·simp
   ·simp[hs q hq]
  exact pb (fun a ha b hb c hc=>htr a (up a ha) b (up b hb) c (up c hc)) (fun y hy=>p1 y (hs y hy)) (np (fun a ha b hb c hc=>htr a (List.mem_cons_of_mem _ ha) b (List.mem_cons_of_mem _ hb) c (List.mem_cons_of_mem _ hc)) p2)
theorem qS{g:Nat}{l l':List D}(hc:iY E g l'=true)(hp:l.Perm l'):iN E g l=some l':=by
 obtain⟨h1,h2⟩:=gP hc
 have ix:∀ x∈l',∃ i,l'[i]?=some x:=fun x hx=>by
  obtain⟨i,k1,k2⟩:=List.getElem_of_mem hx
  exact⟨i,by rw[List.getElem?_eq_getElem k1,k2]⟩
 have htr:∀ a∈l,∀ b∈l,∀ c∈l,j6 E g a b=true->j6 E g b c=true->j6 E g a c=true:=fun a ha b hb c hc' k1 k2=>by
  obtain⟨i,hi⟩:=ix a (hp.subset ha);obtain⟨j,hj⟩:=ix b (hp.subset hb);obtain⟨k,hk⟩:=ix c (hp.subset hc')
  have:=(cW hc hi hj).1.1 k1
  have:=(cW hc hj hk).1.1 k2
  exact(cW hc hi hk).1.2 (by omega)
 have hnd:l.Nodup:=hp.symm.nodup (sP hc)
 have hto:l.Pairwise (fun a b=>j6 E g a b=true\/j6 E g b a=true):=by
  refine List.Pairwise.imp_of_mem (fun{a b} ha hb hab=>?_) hnd
  obtain⟨i,hi⟩:=ix a (hp.subset ha);obtain⟨j,hj⟩:=ix b (hp.subset hb)
  rcases Nat.lt_trichotomy i j with k|k|k
  ·exact .inl ((cW hc hi hj).1.2 k)
  ·subst k;rw[hi] at hj;cases hj;exact absurd rfl hab
  ·exact .inr ((cW hc hj hi).1.2 k)
 have hs:=np htr hto
 have hsp:(gm (j6 E g) l).Perm l':=(eV _ l).trans hp
 have:gm (j6 E g) l=l':=by
  have key:∀ {a b:List D},a.Pairwise (fun x y=>j6 E g x y=true)->b.Pairwise (fun x y=>j6 E g x y=true)->a.Perm b->(∀ x∈a,x∈l')->a=b:=by
   intro a
   induction a with
   | nil=>intro b _ _ hp _;exact hp.symm.eq_nil.symm ▸ rfl
   | cons x a ih=>
    intro b ha hb hp hm
    cases b with
    | nil=>exact absurd hp.eq_nil (by simp)
    | cons y b=>
     obtain⟨a1,a2⟩:=List.pairwise_cons.1 ha
     obtain⟨b1,b2⟩:=List.pairwise_cons.1 hb
     have e:x=y:=by
      rcases List.mem_cons.1 (hp.subset List.mem_cons_self) with e|m1
      ·exact e
      ·rcases List.mem_cons.1 (hp.symm.subset (List.mem_cons_self (a:=y))) with e|m2
       ·exact e.symm
       ·exfalso
        obtain⟨i,hi⟩:=ix x (hm x List.mem_cons_self)
        obtain⟨j,hj⟩:=ix y (hm y (List.mem_cons_of_mem _ m2))
        have:=(cW hc hi hj).1.1 (a1 y m2)
        have:=(cW hc hj hi).1.1 (b1 x m1)
        omega
     subst e
     rw[ih a2 b2 ((List.perm_cons x).1 hp) (fun z hz=>hm z (List.mem_cons_of_mem _ hz))]
  exact key hs (h1.imp fun h=>h.1) hsp fun x hx=>hsp.subset hx
 unfold iN
 rw[this,if_pos hc]
theorem yP{g:Nat}{l l2 l':List D}(h:iN E g l=some l')(hp:l2.Perm l):iN E g l2=some l':=by
 have hsd:iY E g l'=true/\l'=gm (j6 E g) l:=by
  unfold iN at h
  split at h
  ·rename_i hh;cases h;exact⟨hh,rfl⟩
  ·cases h
 exact qS hsd.1 (hp.trans (by rw[hsd.2];exact(eV _ l).symm))
end
end Go.Proofs.YtjjjkojfijpeeaaGreat.Sy
end
section
namespace Go.Proofs.YtjjjkojfijpeeaaGreat.Sy
open Go Go.Proofs Go.Sort Go.Lib
section
variable{P:Program}{E:Env}
def uK(E:Env)(nt m0 o g:Nat)(e vt:Ty)(s:St):Option D:=
 match s.tm m0 with
 | .map kt vt' id=>if kt.beq e&&vt'.beq vt then(match s.ob id with
   | some (.mp kt2 vt2 l)=>if kt2.beq e&&vt2.beq vt&&decide (l.length<=1073741824) then(match cb s e o with
     | some []=>if s.nt=nt then(iN E g (l.map so)).bind fun l'=>some (.sl l') else none
     | _=>none) else none
   | _=>none) else none
 | _=>none
theorem yk(hE:EnvOk P E){e vt:Ty}(he:aW e=true)(hvt:aW vt=true)(hne:af e=true)(hnv:af vt=true){fn:Func}{rty:Ty}{y:D}{w:World}{S:Nat->Nat->Prop}(hr:ia fn.results.size rty=true)
  {id23 id24 id25 b b2:Nat} {t72 m0 it T nx ok en o nt:Nat} {o23 o24 o25:Array Oper} {rest:List Oper} {c26:Code}
  {y1 y2 y3 y4 y5:TypeId} {p1 p2 p3 p4 p5:String} {f1 f2 f3 f4 f5:Array Edge} {TK TV:TypeId}
  (h23:o23.toList=[⟨some t72,.move (.tmp m0),y1,p1,f1,none⟩,⟨some it,.range T (.tmp t72),y2,p2,f2,none⟩])
  (h24:o24.toList=[⟨some nx,.next (.tmp it) false,y3,p3,f3,none⟩,⟨some ok,.extract (.tmp nx) 0,y4,p4,f4,none⟩])
  (h25:o25.toList=⟨some en,.entry (.tmp it),y5,p5,f5,none⟩::rest) (hrest:(rest.all fun x=>x.guard.isNone)=true) (hT:P.underlying T=some (.map TK TV))
  (hd:(decide (o≠t72)&&decide (o≠it)&&decide (nx≠o)&&decide (ok≠o)&&decide (en≠o)&&decide (it≠t72)&&decide (it≠nx)&&decide (it≠ok)&&decide (it≠en)&&decide (nx≠ok)&&decide (t72<nt)&&decide (it<nt)&&decide (nx<nt)&&decide (ok<nt)&&decide (en<nt))=true)
  (hround:∀ X L k v,xY e L X->L.length<1073741824->wt e k->ev E (.region 0 rest.toArray false) .leaf D ((σL nt o it X).put (some en) (.d (.tup [e,vt]) (.tup [k,v]))) (fun x s'=>match x with
   | .normal=>ev E c26 .leaf D s' (fun x s''=>match x with|.normal=>(cb s'' e o).bind fun l=>some (.sl l)|_=>none)
   | _=>none)=some (.sl (L++[k])))
  {f0 g:Nat} (hf:SortOk P f0 e) (hsig:E.sig g=some ([e,e],.int .i64)) {id t d2:Nat} {ops:Array Oper} {d:Code} {ann:Ann} {ty1 ty2:TypeId} {q1 q2:String} {af1 af2:Array Edge} {args:Array Operand} {ats:Array TypeId}
  (hops:ops.toList=[⟨some t,.move (.tmp o),ty1,q1,af1,none⟩,⟨some d2,.call ⟨.value (.func f0),args,ats⟩,ty2,q2,af2,none⟩]) (hargs:args=#[.tmp t,.func g]) (hd':(decide (o≠t)&&decide (o≠d2)&&decide (t<nt))=true)
  (hev:∀ l',(ev E d ann D (G2 nt o e l') fun x s=>match x with|.exit _=>none|_=>results E s rty fn.results.toList)=some (.sl l'))
  {S':Nat->Nat->Prop} {γ':Nat->Option Nat} {β':Nat->Option (Nat×Nat)} {s':St} {a':Act} {w':World} (h:Rp (cq w S) S' γ' β' s' a' w') (hK:uK E nt m0 o g e vt s'=some y) :
  (Code.seq (Code.seq (.region id23 o23 false) (.block b (.loop (.seq (.region id24 o24 false) (.seq (.cond (.tmp ok) .skip (.exit b)) (.block b2 (.seq (.region id25 o25 false) c26))))))) (Code.seq (.region id ops false) d)).wpIn (FW none) 0 P (GL P fn w S rty y) a' w':=by
 unfold uK at hK
 split at hK<;>first|(cases hK;done)|skip
 rename_i kt vt' idm htm
 split at hK<;>first|(cases hK;done)|skip
 rename_i hb1
 split at hK<;>first|(cases hK;done)|skip
 rename_i kt2 vt2 l hob
 split at hK<;>first|(cases hK;done)|skip
 rename_i hb2
 split at hK<;>first|(cases hK;done)|skip
 rename_i hfr
 split at hK<;>first|(cases hK;done)|skip
 rename_i hnt
 obtain⟨l',h3,h4⟩:=bind_some_inv hK
 cases h4
 simp only[Bool.and_eq_true,decide_eq_true_eq] at hb1 hb2 hd
 have e1:=Ty.eq_of_beq _ _ hb1.1;have e2:=Ty.eq_of_beq _ _ hb1.2;have e3:=Ty.eq_of_beq _ _ hb2.1.1;have e4:=Ty.eq_of_beq _ _ hb2.1.2
 subst e1;subst e2;subst e3;subst e4
 obtain⟨⟨⟨⟨⟨⟨⟨⟨⟨⟨⟨⟨⟨⟨d1,d2'⟩,d3⟩,d4⟩,d5⟩,d6⟩,d7⟩,d8⟩,d9⟩,d10⟩,n1⟩,n2⟩,n3⟩,n4⟩,n5⟩:=hd
 subst hnt
 refine wpIn_seq (E0 hE he hvt hne hnv h23 h24 h25 (fun x hx=>by simpa using List.all_eq_true.1 hrest x hx) hT h d1 d2' d3 d4 d5 d6 d7 d8 d9 d10 n1 n2 n3 n4 n5 htm hob hb2.2 hfr hround fun L S2 γ2 β2 X a2 w2 hX hp hR=>?_)
 have hlen:L.length<=1073741824:=by rw[hp.length_eq];simpa using hb2.2
 have hfX:cb (σL s'.nt o it X) kt2 o=some L:=by
  unfold cb σL
  simp only[if_true]
  rcases hX with⟨rfl,rfl⟩|rfl
  ·rfl
  ·simp only
   have:(kt2.beq kt2&&!(([]:List Nat).contains 5)&&decide (L.length<=1073741824))=true:=by
    simp only[Bool.and_eq_true,decide_eq_true_eq]
    exact⟨⟨hb2.1.1,rfl⟩,hlen⟩
   rw[if_pos this]
 refine ta hE hf hsig hr hops hargs hd' hev hR ?_
 unfold AK
 rw[hfX,Option.bind_some,if_pos (show(σL s'.nt o it X).nt=s'.nt from rfl),yP h3 hp]
 rfl
end
end Go.Proofs.YtjjjkojfijpeeaaGreat.Sy
end
section
namespace Go.Proofs
open Go.Shelf
def Tryz.sortE_ren:Go.Shelf.Ren:=⟨fun|6=>50|15=>114|14=>113|28=>165|29=>166|20=>157|21=>158|22=>159|23=>160|24=>161|25=>162|26=>163|27=>164|46=>189|47=>190|48=>191|49=>192|50=>193|57=>216|n=>n,fun|22=>40|24=>66|25=>91|3=>3|39=>143|0=>0|53=>42|55=>145|4=>4|46=>172|45=>171|50=>153|5=>5|9=>9|66=>192|70=>196|76=>215|77=>216|n=>n,fun|n=>n⟩
theorem Tryz.sortE:Go.Proofs.SlLaysF0.n6 Tryz.prog Tryz.sortE_ren:={
 mixed:=by kernel_rfl
 f6:=⟨Tryz.f50.name,by decide,Tryz.func50.trans (congrArg some (by kernel_rfl))⟩
 f14:=⟨Tryz.f113.name,by decide,Tryz.func113.trans (congrArg some (by kernel_rfl))⟩
 f15:=Tryz.func114.trans (congrArg some (by kernel_rfl))
 f20:=⟨Tryz.f157.name,by decide,Tryz.func157.trans (congrArg some (by kernel_rfl))⟩
 f21:=⟨Tryz.f158.name,by decide,Tryz.func158.trans (congrArg some (by kernel_rfl))⟩
 f22:=⟨Tryz.f159.name,by decide,Tryz.func159.trans (congrArg some (by kernel_rfl))⟩
 f23:=⟨Tryz.f160.name,by decide,Tryz.func160.trans (congrArg some (by kernel_rfl))⟩
 f24:=⟨Tryz.f161.name,by decide,Tryz.func161.trans (congrArg some (by kernel_rfl))⟩
 f25:=⟨Tryz.f162.name,by decide,Tryz.func162.trans (congrArg some (by kernel_rfl))⟩
 f26:=⟨Tryz.f163.name,by decide,Tryz.func163.trans (congrArg some (by kernel_rfl))⟩
 f27:=⟨Tryz.f164.name,by decide,Tryz.func164.trans (congrArg some (by kernel_rfl))⟩
 f28:=Tryz.func165.trans (congrArg some (by kernel_rfl))
 f29:=Tryz.func166.trans (congrArg some (by kernel_rfl))
 f46:=⟨Tryz.f189.name,by decide,Tryz.func189.trans (congrArg some (by kernel_rfl))⟩
 f47:=Tryz.func190.trans (congrArg some (by kernel_rfl))
 f48:=Tryz.func191.trans (congrArg some (by kernel_rfl))
 f49:=⟨Tryz.f192.name,by decide,Tryz.func192.trans (congrArg some (by kernel_rfl))⟩
 f50:=⟨Tryz.f193.name,by decide,Tryz.func193.trans (congrArg some (by kernel_rfl))⟩
 f57:=⟨Tryz.f216.name,by decide,Tryz.func216.trans (congrArg some (by kernel_rfl))⟩
 t0:=Tryz.underlying0
 a0:=Tryz.isAgg0
 z0:=Tryz.sizeOf0
 v0:=Tryz.zeroValue0
 t3:=Tryz.underlying3
 a3:=Tryz.isAgg3
 z3:=Tryz.sizeOf3
 v3:=Tryz.zeroValue3
 t4:=Tryz.underlying4
 a4:=Tryz.isAgg4
 z4:=Tryz.sizeOf4
 v4:=Tryz.zeroValue4
 t5:=Tryz.underlying5
 a5:=Tryz.isAgg5
 z5:=Tryz.sizeOf5
 v5:=Tryz.zeroValue5
 t9:=Tryz.underlying9
 a9:=Tryz.isAgg9
 z9:=Tryz.sizeOf9
 v9:=Tryz.zeroValue9
 t22:=Tryz.underlying40
 a22:=Tryz.isAgg40
 z22:=Tryz.sizeOf40
 v22:=Tryz.zeroValue40
 t25:=Tryz.underlying91
 a25:=Tryz.isAgg91
 z25:=Tryz.sizeOf91
 v25:=Tryz.zeroValue91
 t39:=Tryz.underlying143
 a39:=Tryz.isAgg143
 z39:=Tryz.sizeOf143
 v39:=Tryz.zeroValue143
 t45:=Tryz.underlying171
 a45:=Tryz.isAgg171
 z45:=Tryz.sizeOf171
 v45:=Tryz.zeroValue171
 t46:=Tryz.underlying172
 a46:=Tryz.isAgg172
 z46:=Tryz.sizeOf172
 v46:=Tryz.zeroValue172
 t50:=Tryz.underlying153
 a50:=Tryz.isAgg153
 z50:=Tryz.sizeOf153
 v50:=Tryz.zeroValue153
 t53:=Tryz.underlying42
 a53:=Tryz.isAgg42
 z53:=Tryz.sizeOf42
 v53:=Tryz.zeroValue42
 t55:=Tryz.underlying145
 a55:=Tryz.isAgg145
 z55:=Tryz.sizeOf145
 v55:=Tryz.zeroValue145
 t66:=Tryz.underlying192
 a66:=Tryz.isAgg192
 z66:=Tryz.sizeOf192
 v66:=Tryz.zeroValue192
 t70:=Tryz.underlying196
 a70:=Tryz.isAgg196
 z70:=Tryz.sizeOf196
 v70:=Tryz.zeroValue196
 t76:=Tryz.underlying215
 a76:=Tryz.isAgg215
 z76:=Tryz.sizeOf215
 v76:=Tryz.zeroValue215
 t77:=Tryz.underlying216
 a77:=Tryz.isAgg216
 z77:=Tryz.sizeOf216
 v77:=Tryz.zeroValue216 }
def Tryz.sortP_ren:Go.Shelf.Ren:=⟨fun|6=>99|15=>114|14=>153|28=>165|29=>166|20=>178|21=>179|22=>180|23=>181|24=>182|25=>183|26=>184|27=>185|46=>212|47=>190|48=>191|49=>213|50=>214|57=>221|n=>n,fun|22=>81|24=>85|25=>132|3=>3|39=>143|0=>0|53=>42|55=>145|4=>4|46=>172|45=>171|50=>153|5=>5|9=>9|66=>192|70=>196|76=>215|77=>216|n=>n,fun|n=>n⟩
theorem Tryz.sortP:Go.Proofs.SlLaysF0.n6 Tryz.prog Tryz.sortP_ren:={
 mixed:=by kernel_rfl
 f6:=⟨Tryz.f99.name,by decide,Tryz.func99.trans (congrArg some (by kernel_rfl))⟩
 f14:=⟨Tryz.f153.name,by decide,Tryz.func153.trans (congrArg some (by kernel_rfl))⟩
 f15:=Tryz.func114.trans (congrArg some (by kernel_rfl))
 f20:=⟨Tryz.f178.name,by decide,Tryz.func178.trans (congrArg some (by kernel_rfl))⟩
 f21:=⟨Tryz.f179.name,by decide,Tryz.func179.trans (congrArg some (by kernel_rfl))⟩
 f22:=⟨Tryz.f180.name,by decide,Tryz.func180.trans (congrArg some (by kernel_rfl))⟩
 f23:=⟨Tryz.f181.name,by decide,Tryz.func181.trans (congrArg some (by kernel_rfl))⟩
 f24:=⟨Tryz.f182.name,by decide,Tryz.func182.trans (congrArg some (by kernel_rfl))⟩
 f25:=⟨Tryz.f183.name,by decide,Tryz.func183.trans (congrArg some (by kernel_rfl))⟩
 f26:=⟨Tryz.f184.name,by decide,Tryz.func184.trans (congrArg some (by kernel_rfl))⟩
 f27:=⟨Tryz.f185.name,by decide,Tryz.func185.trans (congrArg some (by kernel_rfl))⟩
 f28:=Tryz.func165.trans (congrArg some (by kernel_rfl))
 f29:=Tryz.func166.trans (congrArg some (by kernel_rfl))
 f46:=⟨Tryz.f212.name,by decide,Tryz.func212.trans (congrArg some (by kernel_rfl))⟩
 f47:=Tryz.func190.trans (congrArg some (by kernel_rfl))
 f48:=Tryz.func191.trans (congrArg some (by kernel_rfl))
 f49:=⟨Tryz.f213.name,by decide,Tryz.func213.trans (congrArg some (by kernel_rfl))⟩
 f50:=⟨Tryz.f214.name,by decide,Tryz.func214.trans (congrArg some (by kernel_rfl))⟩
 f57:=⟨Tryz.f221.name,by decide,Tryz.func221.trans (congrArg some (by kernel_rfl))⟩
 t0:=Tryz.underlying0
 a0:=Tryz.isAgg0
 z0:=Tryz.sizeOf0
 v0:=Tryz.zeroValue0
 t3:=Tryz.underlying3
 a3:=Tryz.isAgg3
 z3:=Tryz.sizeOf3
 v3:=Tryz.zeroValue3
 t4:=Tryz.underlying4
 a4:=Tryz.isAgg4
 z4:=Tryz.sizeOf4
 v4:=Tryz.zeroValue4
 t5:=Tryz.underlying5
 a5:=Tryz.isAgg5
 z5:=Tryz.sizeOf5
 v5:=Tryz.zeroValue5
 t9:=Tryz.underlying9
 a9:=Tryz.isAgg9
 z9:=Tryz.sizeOf9
 v9:=Tryz.zeroValue9
 t22:=Tryz.underlying81
 a22:=Tryz.isAgg81
 z22:=Tryz.sizeOf81
 v22:=Tryz.zeroValue81
 t25:=Tryz.underlying132
 a25:=Tryz.isAgg132
 z25:=Tryz.sizeOf132
 v25:=Tryz.zeroValue132
 t39:=Tryz.underlying143
 a39:=Tryz.isAgg143
 z39:=Tryz.sizeOf143
 v39:=Tryz.zeroValue143
 t45:=Tryz.underlying171
 a45:=Tryz.isAgg171
 z45:=Tryz.sizeOf171
 v45:=Tryz.zeroValue171
 t46:=Tryz.underlying172
 a46:=Tryz.isAgg172
 z46:=Tryz.sizeOf172
 v46:=Tryz.zeroValue172
 t50:=Tryz.underlying153
 a50:=Tryz.isAgg153
 z50:=Tryz.sizeOf153
 v50:=Tryz.zeroValue153
 t53:=Tryz.underlying42
 a53:=Tryz.isAgg42
 z53:=Tryz.sizeOf42
 v53:=Tryz.zeroValue42
 t55:=Tryz.underlying145
 a55:=Tryz.isAgg145
 z55:=Tryz.sizeOf145
 v55:=Tryz.zeroValue145
 t66:=Tryz.underlying192
 a66:=Tryz.isAgg192
 z66:=Tryz.sizeOf192
 v66:=Tryz.zeroValue192
 t70:=Tryz.underlying196
 a70:=Tryz.isAgg196
 z70:=Tryz.sizeOf196
 v70:=Tryz.zeroValue196
 t76:=Tryz.underlying215
 a76:=Tryz.isAgg215
 z76:=Tryz.sizeOf215
 v76:=Tryz.zeroValue215
 t77:=Tryz.underlying216
 a77:=Tryz.isAgg216
 z77:=Tryz.sizeOf216
 v77:=Tryz.zeroValue216 }
def Tryz.sortV_ren:Go.Shelf.Ren:=⟨fun|6=>150|15=>114|14=>177|28=>165|29=>166|20=>204|21=>205|22=>206|23=>207|24=>208|25=>209|26=>210|27=>211|46=>218|47=>190|48=>191|49=>219|50=>220|57=>222|n=>n,fun|22=>22|24=>60|25=>126|3=>3|39=>143|0=>0|53=>42|55=>145|4=>4|46=>172|45=>171|50=>153|5=>5|9=>9|66=>192|70=>196|76=>215|77=>216|n=>n,fun|n=>n⟩
theorem Tryz.sortV:Go.Proofs.SlLaysF0.n6 Tryz.prog Tryz.sortV_ren:={
 mixed:=by kernel_rfl
 f6:=⟨Tryz.f150.name,by decide,Tryz.func150.trans (congrArg some (by kernel_rfl))⟩
 f14:=⟨Tryz.f177.name,by decide,Tryz.func177.trans (congrArg some (by kernel_rfl))⟩
 f15:=Tryz.func114.trans (congrArg some (by kernel_rfl))
 f20:=⟨Tryz.f204.name,by decide,Tryz.func204.trans (congrArg some (by kernel_rfl))⟩
 f21:=⟨Tryz.f205.name,by decide,Tryz.func205.trans (congrArg some (by kernel_rfl))⟩
 f22:=⟨Tryz.f206.name,by decide,Tryz.func206.trans (congrArg some (by kernel_rfl))⟩
 f23:=⟨Tryz.f207.name,by decide,Tryz.func207.trans (congrArg some (by kernel_rfl))⟩
 f24:=⟨Tryz.f208.name,by decide,Tryz.func208.trans (congrArg some (by kernel_rfl))⟩
 f25:=⟨Tryz.f209.name,by decide,Tryz.func209.trans (congrArg some (by kernel_rfl))⟩
 f26:=⟨Tryz.f210.name,by decide,Tryz.func210.trans (congrArg some (by kernel_rfl))⟩
 f27:=⟨Tryz.f211.name,by decide,Tryz.func211.trans (congrArg some (by kernel_rfl))⟩
 f28:=Tryz.func165.trans (congrArg some (by kernel_rfl))
 f29:=Tryz.func166.trans (congrArg some (by kernel_rfl))
 f46:=⟨Tryz.f218.name,by decide,Tryz.func218.trans (congrArg some (by kernel_rfl))⟩
 f47:=Tryz.func190.trans (congrArg some (by kernel_rfl))
 f48:=Tryz.func191.trans (congrArg some (by kernel_rfl))
 f49:=⟨Tryz.f219.name,by decide,Tryz.func219.trans (congrArg some (by kernel_rfl))⟩
 f50:=⟨Tryz.f220.name,by decide,Tryz.func220.trans (congrArg some (by kernel_rfl))⟩
 f57:=⟨Tryz.f222.name,by decide,Tryz.func222.trans (congrArg some (by kernel_rfl))⟩
 t0:=Tryz.underlying0
 a0:=Tryz.isAgg0
 z0:=Tryz.sizeOf0
 v0:=Tryz.zeroValue0
 t3:=Tryz.underlying3
 a3:=Tryz.isAgg3
 z3:=Tryz.sizeOf3
 v3:=Tryz.zeroValue3
 t4:=Tryz.underlying4
 a4:=Tryz.isAgg4
 z4:=Tryz.sizeOf4
 v4:=Tryz.zeroValue4
 t5:=Tryz.underlying5
 a5:=Tryz.isAgg5
 z5:=Tryz.sizeOf5
 v5:=Tryz.zeroValue5
 t9:=Tryz.underlying9
 a9:=Tryz.isAgg9
 z9:=Tryz.sizeOf9
 v9:=Tryz.zeroValue9
 t22:=Tryz.underlying22
 a22:=Tryz.isAgg22
 z22:=Tryz.sizeOf22
 v22:=Tryz.zeroValue22
 t25:=Tryz.underlying126
 a25:=Tryz.isAgg126
 z25:=Tryz.sizeOf126
 v25:=Tryz.zeroValue126
 t39:=Tryz.underlying143
 a39:=Tryz.isAgg143
 z39:=Tryz.sizeOf143
 v39:=Tryz.zeroValue143
 t45:=Tryz.underlying171
 a45:=Tryz.isAgg171
 z45:=Tryz.sizeOf171
 v45:=Tryz.zeroValue171
 t46:=Tryz.underlying172
 a46:=Tryz.isAgg172
 z46:=Tryz.sizeOf172
 v46:=Tryz.zeroValue172
 t50:=Tryz.underlying153
 a50:=Tryz.isAgg153
 z50:=Tryz.sizeOf153
 v50:=Tryz.zeroValue153
 t53:=Tryz.underlying42
 a53:=Tryz.isAgg42
 z53:=Tryz.sizeOf42
 v53:=Tryz.zeroValue42
 t55:=Tryz.underlying145
 a55:=Tryz.isAgg145
 z55:=Tryz.sizeOf145
 v55:=Tryz.zeroValue145
 t66:=Tryz.underlying192
 a66:=Tryz.isAgg192
 z66:=Tryz.sizeOf192
 v66:=Tryz.zeroValue192
 t70:=Tryz.underlying196
 a70:=Tryz.isAgg196
 z70:=Tryz.sizeOf196
 v70:=Tryz.zeroValue196
 t76:=Tryz.underlying215
 a76:=Tryz.isAgg215
 z76:=Tryz.sizeOf215
 v76:=Tryz.zeroValue215
 t77:=Tryz.underlying216
 a77:=Tryz.isAgg216
 z77:=Tryz.sizeOf216
 v77:=Tryz.zeroValue216 }
end Go.Proofs
end
section
namespace Go.Proofs.YtjjjkojfijpeeaaGreat.Sy
open Go Go.Proofs Go.Shelf Go.RowKit Go.Lib Go.Sort
theorem uE {P : Program} {f : Nat} (h : (match P.funcs[f]? with | some fn => !(fn.name == "runtime.NumGoroutine") && fn.body.isSome | none => false) = true) : ∃ fn, P.funcs[f]? = some fn /\ (fn.name == "runtime.NumGoroutine") = false /\ fn.body.isSome = true := by
 split at h
 ·rename_i fn hf
  simp only[Bool.and_eq_true,Bool.not_eq_true'] at h
  exact⟨fn,hf,h.1,h.2⟩
 ·cases h
theorem DZ:SortOk Tryz.prog 50 K8:=
 ⟨rfl,rfl,by decide,rfl,uE (by kernel_rfl),fun p cap fv w=>AnyF.slices_SortFunc_none Tryz.sortE p cap fv w,
  fun _ _ enc hk h1 cf hO g blk off cap d w eg hcmp hH hblk hsz=>AnyQ.slices_SortFunc Tryz.sortE 2 Tryz.isAgg66 Tryz.sizeOf66 enc hk h1 cf hO g #[] blk off cap d w eg hcmp hH hblk hsz⟩
theorem Dp:SortOk Tryz.prog 99 ew:=
 ⟨rfl,rfl,by decide,rfl,uE (by kernel_rfl),fun p cap fv w=>AnyF.slices_SortFunc_none Tryz.sortP p cap fv w,
  fun _ _ enc hk h1 cf hO g blk off cap d w eg hcmp hH hblk hsz=>AnyQ.slices_SortFunc Tryz.sortP 4 Tryz.isAgg85 Tryz.sizeOf85 enc hk h1 cf hO g #[] blk off cap d w eg hcmp hH hblk hsz⟩
theorem xp:SortOk Tryz.prog 150 K1:=
 ⟨rfl,rfl,by decide,rfl,uE (by kernel_rfl),fun p cap fv w=>AnyF.slices_SortFunc_none Tryz.sortV p cap fv w,
  fun _ _ enc hk h1 cf hO g blk off cap d w eg hcmp hH hblk hsz=>AnyQ.slices_SortFunc Tryz.sortV 3 Tryz.isAgg60 Tryz.sizeOf60 enc hk h1 cf hO g #[] blk off cap d w eg hcmp hH hblk hsz⟩
end Go.Proofs.YtjjjkojfijpeeaaGreat.Sy
end
section
set_option maxRecDepth 20000
set_option maxHeartbeats 0
set_option linter.unusedVariables false
namespace Go.Proofs.YtjjjkojfijpeeaaGreat.Sy
open Go Go.Proofs
def nb:Code->Code|.block _ c=>c|c=>c
def inLoop:Code->Code|.loop c=>c|c=>c
def pP:Code->Code|.seq a _=>a|c=>c
def nC:Code->Code|.seq _ b=>b|c=>c
def GJ:Code->List Oper|.region _ o _=>o.toList|_=>[]
def Ji:AnnT:=(.seq .leaf (.seq .leaf (.seq (.two .leaf (.two (.loop ⟨[(3,.ow K8),(12,.dv (Ty.int .i64))],[],[10,11]⟩ [(.exit 0,⟨[(3,.ow K8)],[],[]⟩)] (.two .leaf (.two .leaf (.two (.two (.two .leaf (.two .leaf (.two (.loop ⟨[(3,.ow K8),(5,.same (.ptr K6 24581 [])),(19,.dv (Ty.int .i64))],[(24581,.keep K6 5)],[10,11,12,17,18]⟩ [(.exit 2,⟨[(3,.ow K8)],[],[10,11,12]⟩)] (.two .leaf (.two .leaf (.cut [(.normal,⟨[(3,.ow K8),(5,.same (.ptr K6 24581 []))],[(24581,.keep K6 5)],[10,11,12,17,18,19]⟩)] [10,11,12,17,18,19] [24581] (.two (.two .leaf (.two (.reg [] 10) .leaf)) .leaf) .leaf)))) .leaf))) .leaf) .leaf)))) .leaf)) .hand)))
noncomputable def H0(lp:Lp)(call:Nat->List D->Option D)(a0:D):Option D:=
 Option.bind (call 18 [a0]) fun r1=>
 Option.bind (D.asSl r1) fun l2=>
 Option.bind (lp (β:=Nat×List D) (fun(v3:List D)=>
 Option.bind (D.bin .lss (gx v3 1) (D.int .i64 (List.length l2))) fun x4=>
 Option.bind (D.truth x4) fun b5=>
 if b5 then(Option.bind (D.asSl r1) fun l6=>
 Option.bind (D.idx (gx v3 1) (List.length l6)) fun i7=>
 Option.bind (l6[i7]?) fun x8=>
 Option.bind (D.get x8 [2]) fun x9=>
 Option.bind (D.asSl x9) fun l10=>
 Option.bind (lp (β:=Nat×List D) (fun(v11:List D)=>
 Option.bind (D.bin .lss (gx v11 1) (D.int .i64 (List.length l10))) fun x12=>
 Option.bind (D.truth x12) fun b13=>
 if b13 then(Option.bind (Option.bind (D.asSl x9) fun l14=>
 Option.bind (D.idx (gx v11 1) (List.length l14)) fun i15=>
 Option.bind (l14[i15]?) fun x16=>
 Option.bind (D.get x8 [2]) fun x17=>
 Option.bind (D.bin .add (gx v11 1) (D.int .i64 1)) fun x18=>
 Option.bind (D.get x8 [2]) fun x19=>
 Option.bind (D.asSl x19) fun l20=>
 Option.bind (D.bin .rem x18 (D.int .i64 (List.length l20))) fun x21=>
 Option.bind (D.asSl x17) fun l22=>
 Option.bind (D.idx x21 (List.length l22)) fun G3=>
 Option.bind (l22[G3]?) fun x24=>
 Option.bind (D.bin .lss x16 x24) fun x25=>
 Option.bind (D.truth x25) fun b26=>
 if b26 then(if List.length (D.els (gx v11 0))+List.length [(D.st [x16,x24])]<=1073741824 then(some (0,[(D.sl ((D.els (gx v11 0))++[(D.st [x16,x24])]))])) else none) else(some (0,[(D.sl (D.els (gx v11 0)))]))) fun(r27:Nat×List D)=>
 Option.bind (D.bin .add (gx v11 1) (D.int .i64 1)) fun x28=>
 some (Sum.inl [(D.sl (D.els (gx r27.2 0))),x28])) else(some (Sum.inr (0,[(D.sl (D.els (gx v11 0)))])))) [(D.sl (D.els (gx v3 0))),(D.int .i64 0)]) fun r29=>
 Option.bind (D.bin .add (gx v3 1) (D.int .i64 1)) fun x30=>
 some (Sum.inl [(D.sl (D.els (gx r29.2 0))),x30])) else(some (Sum.inr (0,[(D.sl (D.els (gx v3 0)))])))) [(D.sl []),(D.int .i64 0)]) fun r31=>
 Option.bind (if decide (List.length (D.els (gx r31.2 0))<=1073741824) then some (D.els (gx r31.2 0)) else none) fun l1=>
 Option.bind (iN (bZ lp call (eP lp call)) 51 l1) fun l2=>some (D.sl l2)
theorem OH(lp:Lp)(call:Nat->List D->Option D)(a0:D):F5 (bZ lp call (eP lp call)) (AK (bZ lp call (eP lp call)) 48 3 51 K8) Tryz.f21 Ji [K3] [a0]=H0 lp call a0:=by kernel_rfl
def Ih:AnnT:=(.seq .leaf (.seq .leaf (.seq (.two .leaf (.two (.loop ⟨[(3,.same (.map ew Ty.bool 8204)),(15,.dv (Ty.int .i64))],[(8204,.mp ew Ty.bool)],[0,14]⟩ [(.exit 0,⟨[(3,.same (.map ew Ty.bool 8204))],[(8204,.mp ew Ty.bool)],[]⟩)] (.two .leaf (.two .leaf (.two (.two (.two .leaf (.two .leaf (.two (.loop ⟨[(3,.same (.map ew Ty.bool 8204)),(19,.dv (Ty.int .i64))],[(8204,.mp ew Ty.bool)],[0,4,14,15,18]⟩ [(.exit 2,⟨[(3,.same (.map ew Ty.bool 8204))],[(8204,.mp ew Ty.bool)],[0,14,15]⟩)] (.two .leaf (.two .leaf (.two (.two (.two .leaf (.two .leaf (.two (.loop ⟨[(3,.same (.map ew Ty.bool 8204)),(23,.dv (Ty.int .i64))],[(8204,.mp ew Ty.bool)],[0,4,5,14,15,18,19,22]⟩ [(.exit 4,⟨[(3,.same (.map ew Ty.bool 8204))],[(8204,.mp ew Ty.bool)],[0,4,14,15,18,19]⟩)] (.two .leaf (.two .leaf (.cut [(.normal,⟨[(3,.same (.map ew Ty.bool 8204))],[(8204,.mp ew Ty.bool)],[0,4,5,14,15,18,19,22,23]⟩)] [0,4,5,14,15,18,19,22,23] [] (.two (.two .leaf (.two (.reg [] 14) (.two .leaf (.two .leaf (.two (.loop ⟨[(3,.same (.map ew Ty.bool 8204)),(51,.ow ew),(53,.dv (Ty.int .i64))],[(8204,.mp ew Ty.bool)],[0,4,5,14,15,18,19,22,23,52]⟩ [(.exit 6,⟨[(3,.same (.map ew Ty.bool 8204))],[(8204,.mp ew Ty.bool)],[0,4,5,14,15,18,19,22,23]⟩)] (.two .leaf (.two .leaf (.cut [(.normal,⟨[(3,.same (.map ew Ty.bool 8204)),(51,.ow ew)],[(8204,.mp ew Ty.bool)],[0,4,5,14,15,18,19,22,23,52,53]⟩)] [0,4,5,14,15,18,19,22,23,52,53] [] .leaf .leaf)))) .leaf))))) .leaf) .leaf)))) .leaf))) .leaf) .leaf)))) .leaf))) .leaf) .leaf)))) .leaf)) (.seq .leaf .hand))))
noncomputable def HZ(lp:Lp)(call:Nat->List D->Option D)(a0:D):Option D:=
 Option.bind (D.asSl a0) fun l1=>
 Option.bind (lp (β:=Nat×List D) (fun(v2:List D)=>
 Option.bind (D.bin .lss (gx v2 0) (D.int .i64 (List.length l1))) fun x3=>
 Option.bind (D.truth x3) fun b4=>
 if b4 then(Option.bind (lp (β:=Nat×List D) (fun(v5:List D)=>
 Option.bind (D.bin .lss (gx v5 0) (gx v2 0)) fun x6=>
 Option.bind (D.truth x6) fun b7=>
 if b7 then(Option.bind (lp (β:=Nat×List D) (fun(v8:List D)=>
 Option.bind (D.bin .lss (gx v8 0) (gx v5 0)) fun x9=>
 Option.bind (D.truth x9) fun b10=>
 if b10 then(Option.bind (Option.bind (D.asSl a0) fun l11=>
 Option.bind (D.idx (gx v2 0) (List.length l11)) fun Eh=>
 Option.bind (l11[Eh]?) fun x13=>
 Option.bind (D.asSl a0) fun l14=>
 Option.bind (D.idx (gx v5 0) (List.length l14)) fun i15=>
 Option.bind (l14[i15]?) fun x16=>
 Option.bind (D.asSl a0) fun l17=>
 Option.bind (D.idx (gx v8 0) (List.length l17)) fun i18=>
 Option.bind (l17[i18]?) fun x19=>
 Option.bind (call 96 [x13,x16,x19]) fun r20=>
 Option.bind (D.get r20 [0]) fun x21=>
 Option.bind (D.truth (D.bool (D.beq x21 (D.st [(D.int .i64 0),(D.int .i64 0),(D.int .i64 0)])))) fun b22=>
 if b22 then(some (0,[(D.sl (D.els (gx v8 1)))])) else(Option.bind (D.get r20 [0]) fun x23=>
 Option.bind (call 97 [x23]) fun r24=>
 Option.bind (D.get r20 [1]) fun x25=>
 Option.bind (D.un .neg x25) fun x26=>
 Option.bind (lp (β:=Nat×List D) (fun(v27:List D)=>
 Option.bind (D.bin .lss (gx v27 1) (D.int .i64 2)) fun x28=>
 Option.bind (D.truth x28) fun b29=>
 if b29 then(Option.bind (Option.bind (D.idx (gx v27 1) (List.length (D.els (gx v27 0)))) fun i30=>
 Option.bind ((D.els (gx v27 0))[i30]?) fun x31=>
 Option.bind (D.un .not (Option.getD (D.mget (D.els (gx v27 2)) x31) (D.bool false))) fun x32=>
 Option.bind (D.truth x32) fun b33=>
 Option.bind (if b33 then(Option.bind (call 98 [a0,x31]) fun r34=>
 D.truth r34) else(some false)) fun b35=>
 Option.bind (D.truth (D.bool b35)) fun b36=>
 if b36 then(some (0,[(D.sl (D.els (gx v27 0))),(D.sl (D.mput (D.els (gx v27 2)) x31 (D.bool true)))])) else(some (0,[(D.sl (D.els (gx v27 0))),(D.sl (D.els (gx v27 2)))]))) fun(r37:Nat×List D)=>
 Option.bind (D.bin .add (gx v27 1) (D.int .i64 1)) fun x38=>
 some (Sum.inl [(D.sl (D.els (gx r37.2 0))),x38,(D.sl (D.els (gx r37.2 1)))])) else(some (Sum.inr (0,[(D.sl (D.els (gx v27 2)))])))) [(D.sl [r20,(D.st [r24,x26])]),(D.int .i64 0),(D.sl (D.els (gx v8 1)))]) fun r39=>
 some (0,[(D.sl (D.els (gx r39.2 0)))]))) fun(r40:Nat×List D)=>
 Option.bind (D.bin .add (gx v8 0) (D.int .i64 1)) fun x41=>
 some (Sum.inl [x41,(D.sl (D.els (gx r40.2 0)))])) else(some (Sum.inr (0,[(D.sl (D.els (gx v8 1)))])))) [(D.int .i64 0),(D.sl (D.els (gx v5 1)))]) fun r42=>
 Option.bind (D.bin .add (gx v5 0) (D.int .i64 1)) fun x43=>
 some (Sum.inl [x43,(D.sl (D.els (gx r42.2 0)))])) else(some (Sum.inr (0,[(D.sl (D.els (gx v5 1)))])))) [(D.int .i64 0),(D.sl (D.els (gx v2 1)))]) fun r44=>
 Option.bind (D.bin .add (gx v2 0) (D.int .i64 1)) fun x45=>
 some (Sum.inl [x45,(D.sl (D.els (gx r44.2 0)))])) else(some (Sum.inr (0,[(D.sl (D.els (gx v2 1)))])))) [(D.int .i64 0),(D.sl [])]) fun r46=>
 if decide (List.length (D.els (gx r46.2 0))<=1073741824) then(Option.bind (iN (bZ lp call (eP lp call)) 100 (List.map so (D.els (gx r46.2 0)))) fun l2=>some (D.sl l2)) else none
theorem OE(lp:Lp)(call:Nat->List D->Option D)(a0:D):F5 (bZ lp call (eP lp call)) (uK (bZ lp call (eP lp call)) 85 3 10 100 ew Ty.bool) Tryz.f45 Ih [K2] [a0]=HZ lp call a0:=by kernel_rfl
def kh(f:Func):Code:=match f.body with|some c=>c|none=>.skip
noncomputable def xK:Code:=nb (nC (nC (inLoop (nb (nC (pP (oQ (kh Tryz.f45) Ih)))))))
noncomputable def yC:List Oper:=(GJ (pP xK)).tail
noncomputable def MG:Code:=nC xK
theorem I8{lp:Lp}{call:Nat->List D->Option D}(hE:EnvOk Tryz.prog (bZ lp call (eP lp call))){a0 y:D}(h:H0 lp call a0=some y):Ei Tryz.prog [K3] K9 21 [a0] y:=by
 refine qG hE (f:=21) (fn:=Tryz.f21) (ann:=Ji) (K:=AK (bZ lp call (eP lp call)) 48 3 51 K8) (by kernel_rfl) (by kernel_rfl) ((OH lp call a0).trans h) ?_
 intro c hb w S S' γ' β' s' a' w' hR hK
 have e:∀ c',Tryz.f21.body=some c'->(oQ c' Ji).wpIn (FW none) 0 Tryz.prog (GL Tryz.prog Tryz.f21 w S K9 y) a' w'->(oQ c Ji).wpIn (FW none) 0 Tryz.prog (GL Tryz.prog Tryz.f21 w S K9 y) a' w':=fun c' h1 h2=>by
  rw[hb] at h1;cases h1;exact h2
 refine e _ rfl ?_
 exact ta hE DZ (g:=51) (x:=3) (t:=45) (d2:=46) (nt:=48) (ann:=.leaf) (by kernel_rfl) (by kernel_rfl) rfl rfl (by decide) (fun l'=>by kernel_rfl) hR hK
theorem FF{lp:Lp}{call:Nat->List D->Option D}:∀ X L k v,xY ew L X->L.length<1073741824->wt ew k->ev (bZ lp call (eP lp call)) (.region 0 (yC).toArray false) .leaf D ((σL 85 10 73 X).put (some 76) (.d (.tup [ew,.bool]) (.tup [k,v]))) (fun x s'=>match x with
   | .normal=>ev (bZ lp call (eP lp call)) MG .leaf D s' (fun x s''=>match x with|.normal=>(cb s'' ew 10).bind fun l=>some (.sl l)|_=>none)
   | _=>none)=some (.sl (L++[k])):=by
 intro X L k v hX hL _
 rcases hX with⟨rfl,rfl⟩|rfl
 ·kernel_rfl
 ·have key:ev (bZ lp call (eP lp call)) (.region 0 (yC).toArray false) .leaf D ((σL 85 10 73 (.own ew 5 L)).put (some 76) (.d (.tup [ew,.bool]) (.tup [k,v]))) (fun x s'=>match x with
   | .normal=>ev (bZ lp call (eP lp call)) MG .leaf D s' (fun x s''=>match x with|.normal=>(cb s'' ew 10).bind fun l=>some (.sl l)|_=>none)
   | _=>none)=(if List.length L+List.length [k]<=1073741824 then(Option.bind (if decide (List.length (L++[k])<=1073741824) then some (L++[k]) else none) fun l=>some (.sl l)) else none):=by kernel_rfl
  rw[key,if_pos (by simp;omega),if_pos (by simp;omega)]
  rfl
theorem Im{lp:Lp}{call:Nat->List D->Option D}(hE:EnvOk Tryz.prog (bZ lp call (eP lp call))){a0 y:D}(h:HZ lp call a0=some y):Ei Tryz.prog [K2] HY 45 [a0] y:=by
 refine qG hE (f:=45) (fn:=Tryz.f45) (ann:=Ih) (K:=uK (bZ lp call (eP lp call)) 85 3 10 100 ew .bool) (by kernel_rfl) (by kernel_rfl) ((OE lp call a0).trans h) ?_
 intro c hb w S S' γ' β' s' a' w' hR hK
 have e:∀ c',Tryz.f45.body=some c'->(oQ c' Ih).wpIn (FW none) 0 Tryz.prog (GL Tryz.prog Tryz.f45 w S HY y) a' w'->(oQ c Ih).wpIn (FW none) 0 Tryz.prog (GL Tryz.prog Tryz.f45 w S HY y) a' w':=fun c' h1 h2=>by
  rw[hb] at h1;cases h1;exact h2
 refine e _ rfl ?_
 exact yk hE rfl rfl rfl rfl (by kernel_rfl) (t72:=72) (m0:=3) (it:=73) (T:=127) (nx:=74) (ok:=75) (en:=76) (o:=10) (nt:=85) (c26:=MG) (rest:=yC) rfl rfl rfl rfl (TK:=85) (TV:=4) (by kernel_rfl) (by decide) FF Dp (g:=100) (by kernel_rfl) (t:=82) (d2:=83) (ann:=.leaf) rfl rfl (by decide) (fun l'=>by kernel_rfl) hR hK
end Go.Proofs.YtjjjkojfijpeeaaGreat.Sy
end
section
namespace Go.Proofs.YtjjjkojfijpeeaaGreat.Sy
open Go Go.Proofs
theorem PN{lp:Lp}(hlp:aE lp):ac 21 (m1 (H0 lp)):=by
 intro call hc ptys rty' xs y hs hy hw
 have:nB 21=some ([K3],K9):=by kernel_rfl
 rw[this] at hs;cases hs
 unfold m1 at hy
 split at hy<;>first|(cases hy;done)|skip
 exact I8 (FM hlp hc) hy
theorem Px{lp:Lp}(hlp:aE lp):ac 45 (m1 (HZ lp)):=by
 intro call hc ptys rty' xs y hs hy hw
 have:nB 45=some ([K2],HY):=by kernel_rfl
 rw[this] at hs;cases hs
 unfold m1 at hy
 split at hy<;>first|(cases hy;done)|skip
 exact Im (FM hlp hc) hy
def jM(x:D):List D->List D
 | []=>[]
 | y::l=>if y.beq x then jM y l else y::jM y l
def iU:List D->List D
 | []=>[]
 | x::l=>x::jM x l
def qa(E:Env)(g:Nat)(l:List D):Option (List D):=if iY E g (iU (gm (j6 E g) l)) then some (gm (j6 E g) l) else none
noncomputable def oJ(lp:Lp)(call:Nat->List D->Option D)(xs:List D):Option D:=match xs with
 | [.sl l]=>if decide (l.length<=1073741824) then(qa (bZ lp call (eP lp call)) 94 l).bind fun l'=>some (.sl (iU l')) else none
 | _=>none
end Go.Proofs.YtjjjkojfijpeeaaGreat.Sy
end
section
set_option maxRecDepth 20000
set_option maxHeartbeats 0
namespace Go.Proofs.YtjjjkojfijpeeaaGreat.Sy
open Go Go.Proofs
noncomputable def Is(lp:Lp):CT:=.node 100 (.node 57 (.node 31 (.node 20 (.node 13 (.node 10 (.leaf 9 (m2 (F9 lp))) (.node 11 (.leaf 10 (fl lp 10 Tryz.f10 M6)) (.leaf 11 (m1 (Jd lp))))) (.node 17 (.node 14 (.leaf 13 (fl lp 13 Tryz.f13 Np)) (.leaf 14 (fl lp 14 Tryz.f14 .leaf))) (.node 18 (.leaf 17 (fl lp 17 Tryz.f17 Nl)) (.leaf 18 (m1 (Ju lp)))))) (.node 25 (.node 21 (.leaf 20 (fl lp 20 Tryz.f20 Nj)) (.node 23 (.leaf 21 (m1 (H0 lp))) (.leaf 23 (m1 (Jx lp))))) (.node 28 (.node 27 (.leaf 25 (m1 (Jp lp))) (.leaf 27 (fl lp 27 Tryz.f27 M8))) (.node 30 (.leaf 28 (m1 (Jw lp))) (.leaf 30 (fl lp 30 Tryz.f30 Ng)))))) (.node 45 (.node 40 (.node 34 (.leaf 31 (fl lp 31 Tryz.f31 Nu)) (.node 37 (.leaf 34 (m1 (JD lp))) (.leaf 37 (m2 (JK lp))))) (.node 43 (.node 42 (.leaf 40 (m2 (JB lp))) (.leaf 42 (m2 (JI lp)))) (.node 44 (.leaf 43 (fl lp 43 Tryz.f43 Nf)) (.leaf 44 (oJ lp))))) (.node 51 (.node 46 (.leaf 45 (m1 (HZ lp))) (.node 49 (.leaf 46 (m2 (Jj lp))) (.leaf 49 (fl lp 49 Tryz.f49 Nq)))) (.node 53 (.node 52 (.leaf 51 (m2 (JH lp))) (.leaf 52 (m1 (Jz lp)))) (.node 54 (.leaf 53 (m2 (JJ lp))) (.leaf 54 (m1 (JE lp)))))))) (.node 82 (.node 73 (.node 62 (.node 59 (.leaf 57 (m2 (Jr lp))) (.node 61 (.leaf 59 (m2 (IT lp))) (.leaf 61 (m2 (JG lp))))) (.node 71 (.node 68 (.leaf 62 (m2 (Jn lp))) (.leaf 68 (m1 (Jl lp)))) (.node 72 (.leaf 71 (fl lp 71 Tryz.f71 .leaf)) (.leaf 72 (fl lp 72 Tryz.f72 Ny))))) (.node 76 (.node 74 (.leaf 73 (fl lp 73 Tryz.f73 Nk)) (.node 75 (.leaf 74 (fl lp 74 Tryz.f74 .leaf)) (.leaf 75 (fl lp 75 Tryz.f75 .leaf)))) (.node 78 (.node 77 (.leaf 76 (m1 (Jm lp))) (.leaf 77 (m1 (Jo lp)))) (.node 81 (.leaf 78 (m2 (Jf lp))) (.leaf 81 (m2 (Ij lp))))))) (.node 89 (.node 85 (.node 83 (.leaf 82 (m2 (Js lp))) (.node 84 (.leaf 83 (m1 (Jt lp))) (.leaf 84 (fl lp 84 Tryz.f84 .leaf)))) (.node 87 (.node 86 (.leaf 85 (m2 (H8 lp))) (.leaf 86 (m1 (Jk lp)))) (.node 88 (.leaf 87 (m2 (H7 lp))) (.leaf 88 (m1 (JA lp)))))) (.node 94 (.node 90 (.leaf 89 (m2 (H4 lp))) (.node 91 (.leaf 90 (fl lp 90 Tryz.f90 No)) (.leaf 91 (m2 (Je lp))))) (.node 97 (.node 96 (.leaf 94 (m2 (JC lp))) (.leaf 96 (m3 (Jq lp)))) (.node 98 (.leaf 97 (m1 (Jy lp))) (.leaf 98 (m2 (Jh lp))))))))) (.node 140 (.node 126 (.node 118 (.node 104 (.node 101 (.leaf 100 (m2 (Ft lp))) (.node 103 (.leaf 101 (m2 (Dy lp))) (.leaf 103 (m2 (EW lp))))) (.node 116 (.node 115 (.leaf 104 (m3 (Gy lp))) (.leaf 115 (m1 (Fg lp)))) (.node 117 (.leaf 116 (m2 (Fw lp))) (.leaf 117 (m2 (FY lp)))))) (.node 121 (.node 119 (.leaf 118 (m1 (Gx lp))) (.node 120 (.leaf 119 (m0 (Gc lp))) (.leaf 120 (m2 (Fk lp))))) (.node 124 (.node 122 (.leaf 121 (m2 (Gt lp))) (.leaf 122 (m2 (E8 lp)))) (.node 125 (.leaf 124 (m1 (Cc lp))) (.leaf 125 (m0 (Fo lp))))))) (.node 133 (.node 129 (.node 127 (.leaf 126 (m2 (Fe lp))) (.node 128 (.leaf 127 (m1 (Ev lp))) (.leaf 128 (m1 (FR lp))))) (.node 131 (.node 130 (.leaf 129 (m1 (FJ lp))) (.leaf 130 (fl lp 130 Tryz.f130 .leaf))) (.node 132 (.leaf 131 (m2 (EL lp))) (.leaf 132 (m2 (EA lp)))))) (.node 136 (.node 134 (.leaf 133 (m0 (Fh lp))) (.node 135 (.leaf 134 (fl lp 134 Tryz.f134 H1)) (.leaf 135 (fl lp 135 Tryz.f135 Il)))) (.node 138 (.node 137 (.leaf 136 (fl lp 136 Tryz.f136 .leaf)) (.leaf 137 (fl lp 137 Tryz.f137 .leaf))) (.node 139 (.leaf 138 (fl lp 138 Tryz.f138 ID)) (.leaf 139 (m1 (Eu lp)))))))) (.node 169 (.node 147 (.node 143 (.node 141 (.leaf 140 (m1 (Ek lp))) (.node 142 (.leaf 141 (m2 (Gu lp))) (.leaf 142 (m1 (Fz lp))))) (.node 145 (.node 144 (.leaf 143 (m2 (Ew lp))) (.leaf 144 (m2 (EK lp)))) (.node 146 (.leaf 145 (m1 (E9 lp))) (.leaf 146 (m2 (Gb lp)))))) (.node 154 (.node 148 (.leaf 147 (m2 (Fd lp))) (.node 152 (.leaf 148 (m1 (Gh lp))) (.leaf 152 (m2 (Gs lp))))) (.node 167 (.node 165 (.leaf 154 (m2 (FK lp))) (.leaf 165 (m1 (E1 lp)))) (.node 168 (.leaf 167 (m1 (FT lp))) (.leaf 168 (m2 (Fs lp))))))) (.node 194 (.node 172 (.node 170 (.leaf 169 (fl lp 169 Tryz.f169 .leaf)) (.node 171 (.leaf 170 (m2 (EV lp))) (.leaf 171 (m1 (Ff lp))))) (.node 174 (.node 173 (.leaf 172 (m2 (En lp))) (.leaf 173 (fl lp 173 Tryz.f173 IA))) (.node 175 (.leaf 174 (fl lp 174 Tryz.f174 Io)) (.leaf 175 (m2 (EF lp)))))) (.node 201 (.node 196 (.node 195 (.leaf 194 (m1 (FC lp))) (.leaf 195 (m2 (Fu lp)))) (.node 197 (.leaf 196 (m1 (FD lp))) (.leaf 197 (m2 (FU lp))))) (.node 203 (.node 202 (.leaf 201 (m2 (FS lp))) (.leaf 202 (m1 (BL lp)))) (.node 217 (.leaf 203 (fl lp 203 Tryz.f203 I5)) (.leaf 217 (m1 (Gp lp)))))))))
theorem Gr{lp:Lp}(hlp:aE lp)(h44:ac 44 (oJ lp)):(Is lp).ok:=⟨⟨⟨⟨⟨⟨L9 hlp,⟨NU hlp,PH hlp⟩⟩,⟨⟨PM hlp,NC hlp⟩,⟨Pi hlp,N8 hlp⟩⟩⟩,⟨⟨PF hlp,⟨PN hlp,PR hlp⟩⟩,⟨⟨Oj hlp,Oa hlp⟩,⟨Pt hlp,ON hlp⟩⟩⟩⟩,⟨⟨⟨N7 hlp,⟨O1 hlp,PS hlp⟩⟩,⟨⟨Pu hlp,PB hlp⟩,⟨OU hlp,h44⟩⟩⟩,⟨⟨Px hlp,⟨Oi hlp,OB hlp⟩⟩,⟨⟨Oc hlp,PK hlp⟩,⟨PY hlp,Oz hlp⟩⟩⟩⟩⟩,⟨⟨⟨⟨NM hlp,⟨Pg hlp,Oy hlp⟩⟩,⟨⟨NP hlp,OG hlp⟩,⟨Pd hlp,Ox hlp⟩⟩⟩,⟨⟨P1 hlp,⟨NZ hlp,Ov hlp⟩⟩,⟨⟨OY hlp,Oe hlp⟩,⟨OT hlp,Og hlp⟩⟩⟩⟩,⟨⟨⟨NT hlp,⟨NO hlp,Pw hlp⟩⟩,⟨⟨Pm hlp,N9 hlp⟩,⟨OJ hlp,PC hlp⟩⟩⟩,⟨⟨PJ hlp,⟨Pc hlp,Ph hlp⟩⟩,⟨⟨OW hlp,NY hlp⟩,⟨OK hlp,O8 hlp⟩⟩⟩⟩⟩⟩,⟨⟨⟨⟨⟨LV hlp,⟨LF hlp,LY hlp⟩⟩,⟨⟨KW hlp,LR hlp⟩,⟨Mc hlp,Mh hlp⟩⟩⟩,⟨⟨Lx hlp,⟨Lo hlp,J4 hlp⟩⟩,⟨⟨KS hlp,ME hlp⟩,⟨KX hlp,Lw hlp⟩⟩⟩⟩,⟨⟨⟨Lj hlp,⟨Lf hlp,JR hlp⟩⟩,⟨⟨JM hlp,MS hlp⟩,⟨Li hlp,Mx hlp⟩⟩⟩,⟨⟨Ky hlp,⟨MB hlp,Kv hlp⟩⟩,⟨⟨L5 hlp,Ka hlp⟩,⟨KQ hlp,KK hlp⟩⟩⟩⟩⟩,⟨⟨⟨⟨L8 hlp,⟨Mk hlp,J0 hlp⟩⟩,⟨⟨Kc hlp,Ku hlp⟩,⟨LU hlp,MA hlp⟩⟩⟩,⟨⟨J5 hlp,⟨LK hlp,Lt hlp⟩⟩,⟨⟨Md hlp,Kl hlp⟩,⟨Kx hlp,JO hlp⟩⟩⟩⟩,⟨⟨⟨Mn hlp,⟨Lg hlp,LA hlp⟩⟩,⟨⟨KG hlp,ML hlp⟩,⟨LD hlp,JU hlp⟩⟩⟩,⟨⟨⟨MI hlp,JV hlp⟩,⟨Km hlp,Ke hlp⟩⟩,⟨⟨Kk hlp,JW hlp⟩,⟨Mw hlp,Mz hlp⟩⟩⟩⟩⟩⟩⟩
noncomputable def wX(lp:Lp):Nat->Nat->List D->Option D
 | 0=>fun _ _=>none
 | n+1=>fun f xs=>(Is lp).get f (wX lp n) xs
theorem rW{lp:Lp}(hlp:aE lp)(h44:ac 44 (oJ lp)):∀ n,jP Tryz.prog (wX lp n)
 | 0=>fun f ptys rty xs y _ h _=>by cases h
 | n+1=>CT.get_ok (Gr hlp h44) (rW hlp h44 n)
end Go.Proofs.YtjjjkojfijpeeaaGreat.Sy
end
section
set_option maxRecDepth 100000
set_option maxHeartbeats 0
namespace Go.Proofs.YtjjjkojfijpeeaaGreat.Sy
open Go Go.Proofs
noncomputable def Na(N:Nat):Lp:=fun{α β} body=>nh (α:=α) (β:=β) body N
theorem yo:wX (Na 2000) 20 10 []=some (.bool true):=by kernel_rfl
end Go.Proofs.YtjjjkojfijpeeaaGreat.Sy
end
section
set_option maxRecDepth 20000
namespace Go.Proofs.YtjjjkojfijpeeaaGreat.Sy
open Go Go.Proofs
noncomputable def bo:Lp:=fun{α β} body=>j8 (α:=α) (β:=β) body
noncomputable def cA(n:Nat):Nat->List D->Option D:=wX bo n
theorem KU(n:Nat)(a0:D):cA (n+1) 11 [a0]=Jd bo (cA n) a0:=by kernel_rfl
theorem Pr(n:Nat)(a0:D):cA (n+1) 18 [a0]=Ju bo (cA n) a0:=by kernel_rfl
theorem Od(n:Nat)(a0:D):cA (n+1) 21 [a0]=H0 bo (cA n) a0:=by kernel_rfl
theorem ND(n:Nat)(a0:D):cA (n+1) 23 [a0]=Jx bo (cA n) a0:=by kernel_rfl
theorem NW(n:Nat)(a0:D):cA (n+1) 25 [a0]=Jp bo (cA n) a0:=by kernel_rfl
theorem Oq(n:Nat)(a0:D):cA (n+1) 28 [a0]=Jw bo (cA n) a0:=by kernel_rfl
theorem NH(n:Nat)(a0:D):cA (n+1) 34 [a0]=JD bo (cA n) a0:=by kernel_rfl
theorem NS(n:Nat)(a0 a1:D):cA (n+1) 37 [a0,a1]=JK bo (cA n) a0 a1:=by kernel_rfl
theorem Oh(n:Nat)(a0 a1:D):cA (n+1) 40 [a0,a1]=JB bo (cA n) a0 a1:=by kernel_rfl
theorem PO(n:Nat)(a0 a1:D):cA (n+1) 42 [a0,a1]=JI bo (cA n) a0 a1:=by kernel_rfl
theorem O0(n:Nat)(a0:D):cA (n+1) 45 [a0]=HZ bo (cA n) a0:=by kernel_rfl
theorem OM(n:Nat)(a0 a1:D):cA (n+1) 46 [a0,a1]=Jj bo (cA n) a0 a1:=by kernel_rfl
theorem OR(n:Nat)(a0 a1:D):cA (n+1) 51 [a0,a1]=JH bo (cA n) a0 a1:=by kernel_rfl
theorem OC(n:Nat)(a0:D):cA (n+1) 52 [a0]=Jz bo (cA n) a0:=by kernel_rfl
theorem Pf(n:Nat)(a0 a1:D):cA (n+1) 53 [a0,a1]=JJ bo (cA n) a0 a1:=by kernel_rfl
theorem Ot(n:Nat)(a0:D):cA (n+1) 54 [a0]=JE bo (cA n) a0:=by kernel_rfl
theorem O5(n:Nat)(a0 a1:D):cA (n+1) 57 [a0,a1]=Jr bo (cA n) a0 a1:=by kernel_rfl
theorem Ni(n:Nat)(a0 a1:D):cA (n+1) 59 [a0,a1]=IT bo (cA n) a0 a1:=by kernel_rfl
theorem PP(n:Nat)(a0 a1:D):cA (n+1) 61 [a0,a1]=JG bo (cA n) a0 a1:=by kernel_rfl
theorem OQ(n:Nat)(a0 a1:D):cA (n+1) 62 [a0,a1]=Jn bo (cA n) a0 a1:=by kernel_rfl
theorem O2(n:Nat)(a0:D):cA (n+1) 68 [a0]=Jl bo (cA n) a0:=by kernel_rfl
theorem OF(n:Nat)(a0:D):cA (n+1) 76 [a0]=Jm bo (cA n) a0:=by kernel_rfl
theorem N6(n:Nat)(a0:D):cA (n+1) 77 [a0]=Jo bo (cA n) a0:=by kernel_rfl
theorem NE(n:Nat)(a0 a1:D):cA (n+1) 78 [a0,a1]=Jf bo (cA n) a0 a1:=by kernel_rfl
theorem M9(n:Nat)(a0 a1:D):cA (n+1) 81 [a0,a1]=Ij bo (cA n) a0 a1:=by kernel_rfl
theorem OO(n:Nat)(a0 a1:D):cA (n+1) 82 [a0,a1]=Js bo (cA n) a0 a1:=by kernel_rfl
theorem NN(n:Nat)(a0:D):cA (n+1) 83 [a0]=Jt bo (cA n) a0:=by kernel_rfl
theorem Nw(n:Nat)(a0 a1:D):cA (n+1) 85 [a0,a1]=H8 bo (cA n) a0 a1:=by kernel_rfl
theorem Ou(n:Nat)(a0:D):cA (n+1) 86 [a0]=Jk bo (cA n) a0:=by kernel_rfl
theorem Nx(n:Nat)(a0 a1:D):cA (n+1) 87 [a0,a1]=H7 bo (cA n) a0 a1:=by kernel_rfl
theorem N5(n:Nat)(a0:D):cA (n+1) 88 [a0]=JA bo (cA n) a0:=by kernel_rfl
theorem Nh(n:Nat)(a0 a1:D):cA (n+1) 89 [a0,a1]=H4 bo (cA n) a0 a1:=by kernel_rfl
theorem Pp(n:Nat)(a0 a1:D):cA (n+1) 91 [a0,a1]=Je bo (cA n) a0 a1:=by kernel_rfl
theorem NF(n:Nat)(a0 a1:D):cA (n+1) 94 [a0,a1]=JC bo (cA n) a0 a1:=by kernel_rfl
theorem OS(n:Nat)(a0 a1 a2:D):cA (n+1) 96 [a0,a1,a2]=Jq bo (cA n) a0 a1 a2:=by kernel_rfl
theorem P0(n:Nat)(a0:D):cA (n+1) 97 [a0]=Jy bo (cA n) a0:=by kernel_rfl
theorem Pj(n:Nat)(a0 a1:D):cA (n+1) 98 [a0,a1]=Jh bo (cA n) a0 a1:=by kernel_rfl
theorem L2(n:Nat)(a0 a1:D):cA (n+1) 100 [a0,a1]=Ft bo (cA n) a0 a1:=by kernel_rfl
theorem KC(n:Nat)(a0 a1:D):cA (n+1) 101 [a0,a1]=Dy bo (cA n) a0 a1:=by kernel_rfl
theorem LG(n:Nat)(a0 a1:D):cA (n+1) 103 [a0,a1]=EW bo (cA n) a0 a1:=by kernel_rfl
theorem M0(n:Nat)(a0 a1 a2:D):cA (n+1) 104 [a0,a1,a2]=Gy bo (cA n) a0 a1 a2:=by kernel_rfl
theorem Mi(n:Nat)(a0:D):cA (n+1) 115 [a0]=Fg bo (cA n) a0:=by kernel_rfl
theorem KV(n:Nat)(a0 a1:D):cA (n+1) 116 [a0,a1]=Fw bo (cA n) a0 a1:=by kernel_rfl
theorem JQ(n:Nat)(a0 a1:D):cA (n+1) 117 [a0,a1]=FY bo (cA n) a0 a1:=by kernel_rfl
theorem M1(n:Nat)(a0:D):cA (n+1) 118 [a0]=Gx bo (cA n) a0:=by kernel_rfl
theorem MM(n:Nat):cA (n+1) 119 []=Gc bo (cA n) :=by kernel_rfl
theorem KB(n:Nat)(a0 a1:D):cA (n+1) 120 [a0,a1]=Fk bo (cA n) a0 a1:=by kernel_rfl
theorem Kr(n:Nat)(a0 a1:D):cA (n+1) 121 [a0,a1]=Gt bo (cA n) a0 a1:=by kernel_rfl
theorem MH(n:Nat)(a0 a1:D):cA (n+1) 122 [a0,a1]=E8 bo (cA n) a0 a1:=by kernel_rfl
theorem Ir(n:Nat)(a0:D):cA (n+1) 124 [a0]=Cc bo (cA n) a0:=by kernel_rfl
theorem LI(n:Nat):cA (n+1) 125 []=Fo bo (cA n) :=by kernel_rfl
theorem JX(n:Nat)(a0 a1:D):cA (n+1) 126 [a0,a1]=Fe bo (cA n) a0 a1:=by kernel_rfl
theorem Mb(n:Nat)(a0:D):cA (n+1) 127 [a0]=Ev bo (cA n) a0:=by kernel_rfl
theorem KY(n:Nat)(a0:D):cA (n+1) 128 [a0]=FR bo (cA n) a0:=by kernel_rfl
theorem Lk(n:Nat)(a0:D):cA (n+1) 129 [a0]=FJ bo (cA n) a0:=by kernel_rfl
theorem Kh(n:Nat)(a0 a1:D):cA (n+1) 131 [a0,a1]=EL bo (cA n) a0 a1:=by kernel_rfl
theorem LL(n:Nat)(a0 a1:D):cA (n+1) 132 [a0,a1]=EA bo (cA n) a0 a1:=by kernel_rfl
theorem Ld(n:Nat):cA (n+1) 133 []=Fh bo (cA n) :=by kernel_rfl
theorem Lm(n:Nat)(a0:D):cA (n+1) 139 [a0]=Eu bo (cA n) a0:=by kernel_rfl
theorem MW(n:Nat)(a0:D):cA (n+1) 140 [a0]=Ek bo (cA n) a0:=by kernel_rfl
theorem KF(n:Nat)(a0 a1:D):cA (n+1) 141 [a0,a1]=Gu bo (cA n) a0 a1:=by kernel_rfl
theorem MD(n:Nat)(a0:D):cA (n+1) 142 [a0]=Fz bo (cA n) a0:=by kernel_rfl
theorem La(n:Nat)(a0 a1:D):cA (n+1) 143 [a0,a1]=Ew bo (cA n) a0 a1:=by kernel_rfl
theorem Mm(n:Nat)(a0 a1:D):cA (n+1) 144 [a0,a1]=EK bo (cA n) a0 a1:=by kernel_rfl
theorem Mo(n:Nat)(a0:D):cA (n+1) 145 [a0]=E9 bo (cA n) a0:=by kernel_rfl
theorem J7(n:Nat)(a0 a1:D):cA (n+1) 146 [a0,a1]=Gb bo (cA n) a0 a1:=by kernel_rfl
theorem MC(n:Nat)(a0 a1:D):cA (n+1) 147 [a0,a1]=Fd bo (cA n) a0 a1:=by kernel_rfl
theorem Ko(n:Nat)(a0:D):cA (n+1) 148 [a0]=Gh bo (cA n) a0:=by kernel_rfl
theorem Me(n:Nat)(a0 a1:D):cA (n+1) 152 [a0,a1]=Gs bo (cA n) a0 a1:=by kernel_rfl
theorem LT(n:Nat)(a0 a1:D):cA (n+1) 154 [a0,a1]=FK bo (cA n) a0 a1:=by kernel_rfl
theorem Mp(n:Nat)(a0:D):cA (n+1) 165 [a0]=E1 bo (cA n) a0:=by kernel_rfl
theorem LH(n:Nat)(a0:D):cA (n+1) 167 [a0]=FT bo (cA n) a0:=by kernel_rfl
theorem JS(n:Nat)(a0 a1:D):cA (n+1) 168 [a0,a1]=Fs bo (cA n) a0 a1:=by kernel_rfl
theorem Kf(n:Nat)(a0 a1:D):cA (n+1) 170 [a0,a1]=EV bo (cA n) a0 a1:=by kernel_rfl
theorem My(n:Nat)(a0:D):cA (n+1) 171 [a0]=Ff bo (cA n) a0:=by kernel_rfl
theorem Mv(n:Nat)(a0 a1:D):cA (n+1) 172 [a0,a1]=En bo (cA n) a0 a1:=by kernel_rfl
theorem MR(n:Nat)(a0 a1:D):cA (n+1) 175 [a0,a1]=EF bo (cA n) a0 a1:=by kernel_rfl
theorem LB(n:Nat)(a0:D):cA (n+1) 194 [a0]=FC bo (cA n) a0:=by kernel_rfl
theorem Kz(n:Nat)(a0 a1:D):cA (n+1) 195 [a0,a1]=Fu bo (cA n) a0 a1:=by kernel_rfl
theorem Ma(n:Nat)(a0:D):cA (n+1) 196 [a0]=FD bo (cA n) a0:=by kernel_rfl
theorem Lv(n:Nat)(a0 a1:D):cA (n+1) 197 [a0,a1]=FU bo (cA n) a0 a1:=by kernel_rfl
theorem Mu(n:Nat)(a0 a1:D):cA (n+1) 201 [a0,a1]=FS bo (cA n) a0 a1:=by kernel_rfl
theorem L7(n:Nat)(a0:D):cA (n+1) 202 [a0]=BL bo (cA n) a0:=by kernel_rfl
theorem KZ(n:Nat)(a0:D):cA (n+1) 217 [a0]=Gp bo (cA n) a0:=by kernel_rfl
end Go.Proofs.YtjjjkojfijpeeaaGreat.Sy
end
