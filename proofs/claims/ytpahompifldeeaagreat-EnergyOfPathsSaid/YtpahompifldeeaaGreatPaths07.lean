/- Part 7 of the proof that EnergyOfPaths answers true at every input -/
import Derived.Test.YtpahompifldeeaaGreatPaths06
import Derived.KernelRfl
set_option linter.unusedVariables false
set_option linter.unusedSimpArgs false
set_option linter.unnecessarySimpa false
set_option maxRecDepth 20000
namespace Go.Proofs.YtpahompifldeeaaGreat
section
namespace Sy
open Go
def w6(P:Program):Bool:=(List.range CF).all fun t=>match Ih t with|some ty=>bi P ty t&&decide (ty.high<=1000)&&am ty|none=>true
def A8(P:Program)(f:Nat)(g:List Ty×Ty):Bool:=
 aX g.1 && (am g.2 || match g.2 with | .tup ts => aX ts | _ => false) && match P.funcs[f]? with | some fn => !(fn.name == "runtime.NumGoroutine") && fn.body.isSome | none => false
def wQ(P:Program):Bool:=(List.range CF).all fun t=>match A4 t with|some g=>bw g.1&&decide (g.1.high<=1000)&&(match P.underlying t with|some (.map K V)=>bi P g.1 K&&bi P g.2 V|_=>false)|none=>true
def wT(P:Program):Bool:=(List.range zU).all fun f=>match mY f with|some g=>A8 P f g|none=>true
theorem Ea{t:Nat}{ty:Ty}(h:Ih t=some ty):t<CF:=by
 unfold Ih at h
 rcases Nat.lt_or_ge t CF with k|k
 ·exact k
 ·have:Nat.blt t CF=false:=Bool.eq_false_iff.2 fun hb=>absurd (Nat.blt_eq ▸ hb) (Nat.not_lt.2 k)
  rw[this] at h;cases h
theorem Bk{t:Nat}{g:Ty×Ty}(h:A4 t=some g):t<CF:=by
 unfold A4 at h
 rcases Nat.lt_or_ge t CF with k|k
 ·exact k
 ·have:Nat.blt t CF=false:=Bool.eq_false_iff.2 fun hb=>absurd (Nat.blt_eq ▸ hb) (Nat.not_lt.2 k)
  rw[this] at h;cases h
theorem wa{t:Nat}{ty:List Ty×Ty}(h:mY t=some ty):t<zU:=by
 unfold mY Dg at h
 rcases Nat.lt_or_ge t zU with k|k
 ·exact k
 ·have:Nat.blt t zU=false:=Bool.eq_false_iff.2 fun hb=>absurd (Nat.blt_eq ▸ hb) (Nat.not_lt.2 k)
  rw[this] at h;cases h
def ii(P:Program)(call:Nat->List D->Option D):Prop:=∀ f ptys rty xs y,mY f=some (ptys,rty)->call (zP f) xs=some y->dQ ptys xs->Eb P (kL f) ptys rty f xs y
abbrev Lp:Type 1:={α β:Type}->(α->Option (Sum α β))->α->Option β
def ak(lp:Lp):Prop:=∀ (α β:Type) (body:α->Option (Sum α β)) (x:α) (y:β),lp body x=some y->∃ n,lZ body n x=some y
theorem zK(N:Nat):ak (fun body=>lZ body N):=fun _ _ _ _ _ h=>⟨N,h⟩
theorem pC:ak (fun body=>jG body):=fun _ _ _ _ _ h=>li h
def A7(pv:Bool)(tab:Nat->Option (Func×Ty))(lp:Lp)(call:Nat->List D->Option D):Nat->Inl
 | 0=>⟨pv,fun _=>none,fun _ _ _ _ _=>none⟩
 | n+1=>⟨pv,fun f=>match tab f with
  | some p=>some (Gl (dP lp call (A7 pv tab lp call n)) p.1 p.2)
  | none=>none,fun c an R s k=>ev (dP lp call (A7 pv tab lp call n)) c an R s k⟩
section
variable{P:Program}
theorem qC(h1:w6 P=true)(h2:wT P=true)(h4:wQ P=true)(h3:P.follows .mixedOrders=true){lp:Lp}(hlp:ak lp){call:Nat->List D->Option D}(hc:ii P call)
  {inl : Inl} (hcod : Bq P inl.cod) (hi : ∀ f g, inl.f f = some g -> (∃ fn, P.funcs[f]? = some fn /\ (fn.name == "runtime.NumGoroutine") = false /\ fn.body.isSome = true) /\ Cr P f g) : EnvOk P (dP lp call inl) := by
 have k1:∀ t ty,Ih t=some ty->bi P ty t=true/\ty.high<=1000/\am ty=true:=fun t ty ht=>by
  have:=List.all_eq_true.1 h1 t (List.mem_range.2 (Ea ht))
  rw[ht] at this
  simp only[Bool.and_eq_true,decide_eq_true_eq] at this
  exact⟨this.1.1,this.1.2,this.2⟩
 refine⟨fun t ty ht=>.inr (k1 t ty ht).1,fun t ty ht=>(k1 t ty ht).2.1,fun t ty ht=>(k1 t ty ht).2.2,fun f ptys rty hf=>?_,hc,h3,hlp,fun t kt vt ht=>?_,hi,hcod⟩
 ·have:=List.all_eq_true.1 h2 f (List.mem_range.2 (wa hf))
  rw[show mY f=some (ptys,rty) from hf] at this
  simp only[A8,Bool.and_eq_true,Bool.or_eq_true] at this
  obtain⟨⟨q1,q2⟩,q3⟩:=this
  refine⟨q1,?_,?_⟩
  ·rcases q2 with q2|q2
   ·exact .inl q2
   ·right
    split at q2
    ·rename_i ts;exact⟨_,rfl,q2⟩
    ·cases q2
  ·split at q3
   ·rename_i fn hfn
    simp only[Bool.and_eq_true,Bool.not_eq_true'] at q3
    exact⟨fn,hfn,q3⟩
   ·cases q3
 ·have:=List.all_eq_true.1 h4 t (List.mem_range.2 (Bk ht))
  rw[show A4 t=some (kt,vt) from ht] at this
  simp only[Bool.and_eq_true,decide_eq_true_eq] at this
  obtain⟨⟨m1,m2⟩,m3⟩:=this
  refine⟨m1,?_⟩
  split at m3<;>first|(cases m3;done)|skip
  rename_i K V hu
  simp only[Bool.and_eq_true] at m3
  exact⟨K,V,hu,m3.1,m3.2,m2⟩
def xz (P : Program) (f : Nat) (p : Func × Ty) : Prop := P.funcs[f]? = some p.1 /\ (!(p.1.name == "runtime.NumGoroutine") && p.1.body.isSome && xM p.1.results.size p.2) = true
theorem tQ{pv:Bool}{tab:Nat->Option (Func×Ty)}(h1:w6 P=true)(h2:wT P=true)(h4:wQ P=true)(h3:P.follows .mixedOrders=true)(ht:∀ f p,tab f=some p->xz P f p){lp:Lp}(hlp:ak lp){call:Nat->List D->Option D}(hc:ii P call) :
  ∀ n,EnvOk P (dP lp call (A7 pv tab lp call n))
 | 0=>qC h1 h2 h4 h3 hlp hc (fun _ _ _ _ _ _ _ _ _ _ _ _ _ _ _ _ _ h=>by cases h) fun f g h=>by cases h
 | n+1=>qC h1 h2 h4 h3 hlp hc (Hf (tQ h1 h2 h4 h3 ht hlp hc n)) fun f g h=>by
  simp only[A7] at h
  split at h<;>first|(cases h;done)|skip
  rename_i p hp
  cases h
  obtain⟨q1,q2⟩:=ht f p hp
  simp only[Bool.and_eq_true,Bool.not_eq_true'] at q2
  exact⟨⟨p.1,q1,q2.1.1,q2.1.2⟩,C3 (tQ h1 h2 h4 h3 ht hlp hc n) q1 q2.2⟩
end
end Sy
end
section
namespace Sy
open Go Go.Proofs
theorem wj:w6 Tryz.prog=true:=by kernel_rfl
theorem vM:wT Tryz.prog=true:=by kernel_rfl
theorem vn:wQ Tryz.prog=true:=by kernel_rfl
theorem w8:Tryz.prog.follows .mixedOrders=true:=by kernel_rfl
noncomputable def Fp(v:Nat)(lp:Lp)(call:Nat->List D->Option D):Inl:=A7 (Nat.beq v 1) (Db v) lp call 9
noncomputable abbrev mF(lp:Lp)(call:Nat->List D->Option D):Inl:=Fp 0 lp call
theorem Ej(v:Nat):∀ f p,Db v f=some p->xz Tryz.prog f p:=by
 intro f p h
 have key:∀ q∈C5,xz Tryz.prog q.1 q.2:=by
  intro q hq
  simp only[C5,GV,List.cons_append,List.nil_append,List.mem_cons,List.not_mem_nil,or_false] at hq
  repeat' first
   | (rcases hq with hq|hq;· subst hq;exact⟨by kernel_rfl,by kernel_rfl⟩)
   | (subst hq;exact⟨by kernel_rfl,by kernel_rfl⟩)
 exact key (f,p) (BT h)
theorem HV{v:Nat}{lp:Lp}(hlp:ak lp){call:Nat->List D->Option D}(hc:ii Tryz.prog call):EnvOk Tryz.prog (dP lp call (Fp v lp call)):=
 tQ wj vM vn w8 (Ej v) hlp hc 9
theorem KX{lp:Lp}(hlp:ak lp){call:Nat->List D->Option D}(hc:ii Tryz.prog call):EnvOk Tryz.prog (dP lp call (mF lp call)):=HV hlp hc
def Jd(o:Oper):Option ByteArray:=match o.op with|.index _ (.const (.string s)) _=>some s|_=>none
def mD:Code->Option ByteArray
 | .region _ ops _=>ops.toList.findSome? Jd
 | .seq a b=>(mD a).orElse fun _=>mD b
 | .cond _ a b=>(mD a).orElse fun _=>mD b
 | .block _ a=>mD a
 | .loop a=>mD a
 | .scope a=>mD a
 | _=>none
def By(f:Func):Code:=match f.body with|some c=>c|none=>.skip
end Sy
end
section
namespace Sy
open Go Go.Proofs
inductive CT where
 | leaf (k:Nat) (g:(Nat->List D->Option D)->List D->Option D)
 | node (m:Nat) (a b:CT)
def CT.get:CT->Nat->(Nat->List D->Option D)->List D->Option D
 | .leaf k g,f,call,xs=>bif Nat.beq f k then g call xs else none
 | .node m a b,f,call,xs=>bif Nat.blt f m then a.get f call xs else b.get f call xs
def ac(f:Nat)(g:(Nat->List D->Option D)->List D->Option D):Prop:=
 ∀ call,ii Tryz.prog call->∀ ptys rty xs y,mY (dH f)=some (ptys,rty)->g call xs=some y->dQ ptys xs->Eb Tryz.prog (kL (dH f)) ptys rty (dH f) xs y
def CT.ok:CT->Prop
 | .leaf k g=>ac k g
 | .node _ a b=>a.ok/\b.ok
theorem CT.get_ok':∀ {t:CT},t.ok->∀ {call},ii Tryz.prog call->∀ f ptys rty xs y,mY (dH f)=some (ptys,rty)->t.get f call xs=some y->dQ ptys xs->Eb Tryz.prog (kL (dH f)) ptys rty (dH f) xs y
 | .leaf k g,h,call,hc,f,ptys,rty,xs,y,hs,hy,hw=>by
  simp only[CT.get] at hy
  cases hb:Nat.beq f k with
  | false=>rw[hb] at hy;cases hy
  | true=>
   rw[hb] at hy
   have:=Nat.eq_of_beq_eq_true hb
   subst this
   exact h call hc ptys rty xs y hs hy hw
 | .node m a b,h,call,hc,f,ptys,rty,xs,y,hs,hy,hw=>by
  simp only[CT.get] at hy
  cases hb:Nat.blt f m with
  | false=>rw[hb] at hy;exact CT.get_ok' h.2 hc f ptys rty xs y hs hy hw
  | true=>rw[hb] at hy;exact CT.get_ok' h.1 hc f ptys rty xs y hs hy hw
theorem Hc:((List.range zU).all fun f=>match Dg f with|some p=>Nat.beq (dH p.1) f|none=>true)=true:=by kernel_rfl
theorem DM{f:Nat}{g:List Ty×Ty}(h:mY f=some g):dH (zP f)=f:=by
 have h2:=List.all_eq_true.1 Hc f (List.mem_range.2 (wa h))
 unfold mY at h
 unfold zP
 split at h<;>first|(cases h;done)|skip
 rename_i p hp
 rw[hp] at h2
 exact Nat.eq_of_beq_eq_true h2
theorem CT.get_ok{t:CT}(h:t.ok){call}(hc:ii Tryz.prog call):ii Tryz.prog fun f xs=>t.get f call xs:=fun f ptys rty xs y hs hy hw=>by
 have e:=DM hs
 have:=CT.get_ok' h hc (zP f) ptys rty xs y (by rw[e];exact hs) hy hw
 rwa [e] at this
noncomputable def cn(v:Nat)(lp:Lp)(f:Nat)(fn:Func)(ann:Ann)(call:Nat->List D->Option D)(xs:List D):Option D:=
 (mY (dH f)).bind fun s=>bif Nat.beq (kL (dH f)) 0 then NQ (dP lp call (Fp v lp call)) fn ann s.1 s.2 xs else GW (dP lp call (Fp v lp call)) fn ann s.1 (kL (dH f)) s.2 xs
def FN(f:Nat)(fn:Func):Bool:=match mY (dH f) with
 | some (p,r)=>decide (p.length<=fn.ntmps)&&gw fn.results.size r&&aX p&&(decide (kL (dH f)<=p.length)&&decide (kL (dH f)<=4095))
 | none=>false
theorem bc{v:Nat}{lp:Lp}(hlp:ak lp){f:Nat}{fn:Func}{ann:Ann}(hf:Tryz.prog.funcs[dH f]?=some fn)(hk:FN f fn=true):ac f (cn v lp f fn ann):=by
 intro call hc ptys rty xs y hs hy hw
 unfold cn at hy
 unfold FN at hk
 rw[hs] at hy hk
 simp only[Option.bind_some] at hy
 simp only[Bool.and_eq_true,decide_eq_true_eq] at hk
 obtain⟨⟨⟨k1,k2⟩,k3⟩,k4,k5⟩:=hk
 have hE:=HV (v:=v) hlp hc
 cases hz:kL (dH f) with
 | zero=>
  rw[hz] at hy
  exact Ac hE hf k1 k3 k2 hy
 | succ k=>
  rw[hz] at hy
  exact xL hE hf k1 k3 (by rw[<-hz];exact k4) (by rw[<-hz];exact k5) k2 hy
abbrev Ann.tl(a:Ann):Ann:=.two .leaf a
abbrev Ti:Ty:=.int .i64
abbrev Sh.di:Sh:=.dv (.int .i64)
abbrev Sh.sp(t:Ty)(i:Nat):Sh:=.same (.ptr t i [])
def m0(F:(Nat->List D->Option D)->Option D)(call:Nat->List D->Option D)(xs:List D):Option D:=match xs with|[]=>F call|_=>none
theorem y9{v:Nat}{lp:Lp}(hlp:ak lp){f:Nat}{fn:Func}{ann:Ann}{F:(Nat->List D->Option D)->Option D}(hf:Tryz.prog.funcs[dH f]?=some fn:=by kernel_rfl)(hk:FN f fn=true:=by kernel_rfl)
  (hE:∀ call,cn v lp f fn ann call []=F call:=by intros;kernel_rfl):ac f (m0 F):=by
 intro call hc ptys rty xs y hs hy hw
 unfold m0 at hy
 split at hy<;>first|(cases hy;done)|skip
 exact bc (v:=v) hlp hf hk call hc ptys rty _ y hs ((hE call).trans hy) hw
def m1(F:(Nat->List D->Option D)->D->Option D)(call:Nat->List D->Option D)(xs:List D):Option D:=match xs with|[a0]=>F call a0|_=>none
theorem aV{v:Nat}{lp:Lp}(hlp:ak lp){f:Nat}{fn:Func}{ann:Ann}{F:(Nat->List D->Option D)->D->Option D}(hf:Tryz.prog.funcs[dH f]?=some fn:=by kernel_rfl)(hk:FN f fn=true:=by kernel_rfl)
  (hE:∀ call a0,cn v lp f fn ann call [a0]=F call a0:=by intros;kernel_rfl):ac f (m1 F):=by
 intro call hc ptys rty xs y hs hy hw
 unfold m1 at hy
 split at hy<;>first|(cases hy;done)|skip
 exact bc (v:=v) hlp hf hk call hc ptys rty _ y hs ((hE call _).trans hy) hw
def m2(F:(Nat->List D->Option D)->D->D->Option D)(call:Nat->List D->Option D)(xs:List D):Option D:=match xs with|[a0,a1]=>F call a0 a1|_=>none
theorem aT{v:Nat}{lp:Lp}(hlp:ak lp){f:Nat}{fn:Func}{ann:Ann}{F:(Nat->List D->Option D)->D->D->Option D}(hf:Tryz.prog.funcs[dH f]?=some fn:=by kernel_rfl)(hk:FN f fn=true:=by kernel_rfl)
  (hE:∀ call a0 a1,cn v lp f fn ann call [a0,a1]=F call a0 a1:=by intros;kernel_rfl):ac f (m2 F):=by
 intro call hc ptys rty xs y hs hy hw
 unfold m2 at hy
 split at hy<;>first|(cases hy;done)|skip
 exact bc (v:=v) hlp hf hk call hc ptys rty _ y hs ((hE call _ _).trans hy) hw
def m3(F:(Nat->List D->Option D)->D->D->D->Option D)(call:Nat->List D->Option D)(xs:List D):Option D:=match xs with|[a0,a1,a2]=>F call a0 a1 a2|_=>none
theorem kI{v:Nat}{lp:Lp}(hlp:ak lp){f:Nat}{fn:Func}{ann:Ann}{F:(Nat->List D->Option D)->D->D->D->Option D}(hf:Tryz.prog.funcs[dH f]?=some fn:=by kernel_rfl)(hk:FN f fn=true:=by kernel_rfl)
  (hE:∀ call a0 a1 a2,cn v lp f fn ann call [a0,a1,a2]=F call a0 a1 a2:=by intros;kernel_rfl):ac f (m3 F):=by
 intro call hc ptys rty xs y hs hy hw
 unfold m3 at hy
 split at hy<;>first|(cases hy;done)|skip
 exact bc (v:=v) hlp hf hk call hc ptys rty _ y hs ((hE call _ _ _).trans hy) hw
def m4(F:(Nat->List D->Option D)->D->D->D->D->Option D)(call:Nat->List D->Option D)(xs:List D):Option D:=match xs with|[a0,a1,a2,a3]=>F call a0 a1 a2 a3|_=>none
theorem HZ{v:Nat}{lp:Lp}(hlp:ak lp){f:Nat}{fn:Func}{ann:Ann}{F:(Nat->List D->Option D)->D->D->D->D->Option D}(hf:Tryz.prog.funcs[dH f]?=some fn:=by kernel_rfl)(hk:FN f fn=true:=by kernel_rfl)
  (hE:∀ call a0 a1 a2 a3,cn v lp f fn ann call [a0,a1,a2,a3]=F call a0 a1 a2 a3:=by intros;kernel_rfl):ac f (m4 F):=by
 intro call hc ptys rty xs y hs hy hw
 unfold m4 at hy
 split at hy<;>first|(cases hy;done)|skip
 exact bc (v:=v) hlp hf hk call hc ptys rty _ y hs ((hE call _ _ _ _).trans hy) hw
def m5(F:(Nat->List D->Option D)->D->D->D->D->D->Option D)(call:Nat->List D->Option D)(xs:List D):Option D:=match xs with|[a0,a1,a2,a3,a4]=>F call a0 a1 a2 a3 a4|_=>none
theorem IW{v:Nat}{lp:Lp}(hlp:ak lp){f:Nat}{fn:Func}{ann:Ann}{F:(Nat->List D->Option D)->D->D->D->D->D->Option D}(hf:Tryz.prog.funcs[dH f]?=some fn:=by kernel_rfl)(hk:FN f fn=true:=by kernel_rfl)
  (hE:∀ call a0 a1 a2 a3 a4,cn v lp f fn ann call [a0,a1,a2,a3,a4]=F call a0 a1 a2 a3 a4:=by intros;kernel_rfl):ac f (m5 F):=by
 intro call hc ptys rty xs y hs hy hw
 unfold m5 at hy
 split at hy<;>first|(cases hy;done)|skip
 exact bc (v:=v) hlp hf hk call hc ptys rty _ y hs ((hE call _ _ _ _ _).trans hy) hw
abbrev gx(l:List D)(i:Nat):D:=l.getD i (.bool false)
end Sy
end
section
set_option maxHeartbeats 0
namespace Sy
open Go Go.Proofs
def Rq:Ann:=(.tl (.tl (.two (.tl (.two (.loop ⟨[(2,.sp K4 4098),(3,.di)],[(4098,.one K4 (.st [K3,Ti] [.st [K2] [.ow K1],.di]))],[0]⟩ [(.ret,⟨[(2,.sp K4 4098)],[(4098,.one K4 (.st [K3,Ti] [.st [K2] [.ow K1],.di]))],[]⟩),(.exit 0,⟨[(2,.sp K4 4098)],[(4098,.one K4 (.st [K3,Ti] [.st [K2] [.ow K1],.di]))],[0]⟩)] (.tl (.two (.two (.tl (.two (.loop ⟨[(2,.sp K4 4098),(4,.di)],[(4098,.one K4 (.st [K3,Ti] [.st [K2] [.ow K1],.di]))],[0,3]⟩ [(.ret,⟨[(2,.sp K4 4098)],[(4098,.one K4 (.st [K3,Ti] [.st [K2] [.ow K1],.di]))],[]⟩),(.exit 2,⟨[(2,.sp K4 4098)],[(4098,.one K4 (.st [K3,Ti] [.st [K2] [.ow K1],.di]))],[0,3]⟩)] .leaf) .leaf)) .leaf) .leaf))) .leaf)) (.tl (.tl (.tl (.tl (.tl (.two (.tl (.two (.loop ⟨[(2,.sp K4 4098),(7,.sp K4 36871),(8,.di)],[(4098,.one K4 (.st [K3,Ti] [.st [K2] [.ow K1],.di])),(36871,.one K4 (.st [K3,Ti] [.st [K2] [.ow K1],.di]))],[5,6]⟩ [(.exit 4,⟨[(2,.sp K4 4098),(7,.sp K4 36871)],[(4098,.one K4 (.st [K3,Ti] [.st [K2] [.ow K1],.di])),(36871,.one K4 (.st [K3,Ti] [.st [K2] [.ow K1],.di]))],[]⟩)] (.tl (.cut [(.normal,⟨[(2,.sp K4 4098),(7,.sp K4 36871)],[(4098,.one K4 (.st [K3,Ti] [.st [K2] [.ow K1],.di])),(36871,.one K4 (.st [K3,Ti] [.st [K2] [.ow K1],.di]))],[5,6,8]⟩)] [5,6,8] [] (.two (.tl (.two (.tl (.two (.loop ⟨[(2,.sp K4 4098),(7,.sp K4 36871),(9,.dv Ty.bool),(10,.di)],[(4098,.one K4 (.st [K3,Ti] [.st [K2] [.ow K1],.di])),(36871,.one K4 (.st [K3,Ti] [.st [K2] [.ow K1],.di]))],[5,6,8]⟩ [(.exit 6,⟨[(2,.sp K4 4098),(7,.sp K4 36871),(9,.dv Ty.bool)],[(4098,.one K4 (.st [K3,Ti] [.st [K2] [.ow K1],.di])),(36871,.one K4 (.st [K3,Ti] [.st [K2] [.ow K1],.di]))],[5,6,8]⟩)] (.tl (.two (.two (.tl (.two (.loop ⟨[(2,.sp K4 4098),(7,.sp K4 36871),(9,.dv Ty.bool),(11,.di)],[(4098,.one K4 (.st [K3,Ti] [.st [K2] [.ow K1],.di])),(36871,.one K4 (.st [K3,Ti] [.st [K2] [.ow K1],.di]))],[5,6,8,10]⟩ [(.exit 8,⟨[(2,.sp K4 4098),(7,.sp K4 36871),(9,.dv Ty.bool)],[(4098,.one K4 (.st [K3,Ti] [.st [K2] [.ow K1],.di])),(36871,.one K4 (.st [K3,Ti] [.st [K2] [.ow K1],.di]))],[5,6,8,10]⟩)] .leaf) .leaf)) .leaf) .leaf))) .leaf)) (.tl (.two (.reg [] 8) .leaf)))) .leaf) .leaf))) .leaf)) .leaf)))))))))
noncomputable def Ho(lp:Lp)(call:Nat->List D->Option D)(a0:D):Option D:=
(D.asSl a0).bind fun l1=>
(D.bin .gtr (D.int .i64 (l1.length)) (D.int .i64 64)).bind fun x2=>
(D.truth x2).bind fun b3=>
 if b3 then(some (D.st [(D.st [(D.sl [])]),(D.int .i64 2)])) else((lp (β:=Nat×List D) (fun(v4:List D)=>
(D.asSl a0).bind fun l5=>
(D.bin .lss (gx v4 0) (D.int .i64 (l5.length))).bind fun x6=>
(D.truth x6).bind fun b7=>
 if b7 then((lp (β:=Nat×List D) (fun(v8:List D)=>
(D.bin .lss (gx v8 0) (D.int .i64 3)).bind fun x9=>
(D.truth x9).bind fun b10=>
 if b10 then((D.asSl a0).bind fun l11=>
(D.idx (gx v4 0) (l11.length)).bind fun kZ=>
(l11[kZ]?).bind fun x13=>
(D.idx (gx v8 0) 3).bind fun i14=>
(D.fld x13 i14).bind fun x15=>
(D.bin .gtr x15 (D.int .i64 262144)).bind fun x16=>
(D.truth x16).bind fun b17=>
(if b17 then(some true) else((D.asSl a0).bind fun l18=>
(D.idx (gx v4 0) (l18.length)).bind fun i19=>
(l18[i19]?).bind fun x20=>
(D.idx (gx v8 0) 3).bind fun i21=>
(D.fld x20 i21).bind fun x22=>
(D.bin .lss x22 (D.int .i64 (-262144))).bind fun x23=>
 D.truth x23)).bind fun b24=>
(D.truth (D.bool b24)).bind fun b25=>
 if b25 then(some (Sum.inr (0,[(D.sl []),(D.int .i64 1)]))) else((D.bin .add (gx v8 0) (D.int .i64 1)).bind fun x26=>
 some (Sum.inl [x26,(D.sl ((gx v8 1).els)),(gx v8 2)]))) else(some (Sum.inr (1,[(D.sl ((gx v8 1).els)),(gx v8 2)])))) [(D.int .i64 0),(D.sl ((gx v4 1).els)),(gx v4 2)]).bind fun r27=>
 if r27.1=0 then(some (Sum.inr (0,[(D.sl ((gx r27.2 0).els)),(gx r27.2 1)]))) else((D.bin .add (gx v4 0) (D.int .i64 1)).bind fun x28=>
 some (Sum.inl [x28,(D.sl ((gx r27.2 0).els)),(gx r27.2 1)]))) else(some (Sum.inr (1,[(D.sl ((gx v4 1).els)),(gx v4 2)])))) [(D.int .i64 0),(D.sl []),(D.int .i64 0)]).bind fun r29=>
 if r29.1=0 then(some (D.st [(D.st [(D.sl ((gx r29.2 0).els))]),(gx r29.2 1)])) else((call 47 [a0]).bind fun r30=>
(call 48 [r30]).bind fun r31=>
(D.asSl r31).bind fun l32=>
(D.truth (D.bool (D.beq (D.int .i64 (l32.length)) (D.int .i64 0)))).bind fun b33=>
 if b33 then(some (D.st [(D.st [(D.sl [])]),(D.int .i64 120)])) else((D.asSl r31).bind fun l34=>
(D.bin .gtr (D.int .i64 (l34.length)) (D.int .i64 64)).bind fun x35=>
(D.truth x35).bind fun b36=>
 if b36 then(some (D.st [(D.st [(D.sl [])]),(D.int .i64 2)])) else((lp (β:=Nat×List D) (fun(v37:List D)=>
(D.asSl r30).bind fun l38=>
(D.bin .lss (gx v37 0) (D.int .i64 (l38.length))).bind fun x39=>
(D.truth x39).bind fun b40=>
 if b40 then(((lp (β:=Nat×List D) (fun(v41:List D)=>
(D.asSl r31).bind fun l42=>
(D.bin .lss (gx v41 1) (D.int .i64 (l42.length))).bind fun x43=>
(D.truth x43).bind fun b44=>
 if b44 then((lp (β:=Nat×List D) (fun(v45:List D)=>
(D.asSl r31).bind fun l46=>
(D.idx (gx v41 1) (l46.length)).bind fun i47=>
(l46[i47]?).bind fun x48=>
(D.fld x48 2).bind fun x49=>
(D.asSl x49).bind fun l50=>
(D.bin .lss (gx v45 1) (D.int .i64 (l50.length))).bind fun x51=>
(D.truth x51).bind fun b52=>
 if b52 then((D.truth (gx v45 0)).bind fun b53=>
(if b53 then(some true) else((D.asSl r31).bind fun l54=>
(D.idx (gx v41 1) (l54.length)).bind fun i55=>
(l54[i55]?).bind fun x56=>
(D.fld x56 2).bind fun x57=>
(D.asSl x57).bind fun l58=>
(D.idx (gx v45 1) (l58.length)).bind fun i59=>
(l58[i59]?).bind fun x60=>
 D.truth (D.bool (D.beq x60 (gx v37 0))))).bind fun b61=>
(D.bin .add (gx v45 1) (D.int .i64 1)).bind fun x62=>
 some (Sum.inl [(D.bool b61),x62,(D.sl ((gx v45 2).els)),(gx v45 3),(D.sl ((gx v45 4).els)),(gx v45 5)])) else(some (Sum.inr (0,[(gx v45 0),(D.sl ((gx v45 2).els)),(gx v45 3),(D.sl ((gx v45 4).els)),(gx v45 5)])))) [(gx v41 0),(D.int .i64 0),(D.sl ((gx v41 2).els)),(gx v41 3),(D.sl ((gx v41 4).els)),(gx v41 5)]).bind fun r63=>
(D.bin .add (gx v41 1) (D.int .i64 1)).bind fun x64=>
 some (Sum.inl [(gx r63.2 0),x64,(D.sl ((gx r63.2 1).els)),(gx r63.2 2),(D.sl ((gx r63.2 3).els)),(gx r63.2 4)])) else(some (Sum.inr (0,[(gx v41 0),(D.sl ((gx v41 2).els)),(gx v41 3),(D.sl ((gx v41 4).els)),(gx v41 5)])))) [(D.bool false),(D.int .i64 0),(D.sl ((gx v37 1).els)),(gx v37 2),(D.sl ((gx v37 3).els)),(gx v37 4)]).bind fun r65=>
(D.truth (gx r65.2 0)).bind fun b66=>
 if b66 then((D.asSl r30).bind fun l67=>
(D.idx (gx v37 0) (l67.length)).bind fun i68=>
(l67[i68]?).bind fun x69=>
 if List.length ((gx r65.2 3).els)+List.length [x69]<=1073741824 then(some (0,[(D.sl ((gx r65.2 1).els)),(gx r65.2 2),(D.sl (((gx r65.2 3).els)++[x69])),(gx r65.2 4)])) else none) else(some (0,[(D.sl ((gx r65.2 1).els)),(gx r65.2 2),(D.sl ((gx r65.2 3).els)),(gx r65.2 4)]))).bind fun(r70:Nat×List D)=>
(D.bin .add (gx v37 0) (D.int .i64 1)).bind fun x71=>
 some (Sum.inl [x71,(D.sl ((gx r70.2 0).els)),(gx r70.2 1),(D.sl ((gx r70.2 2).els)),(gx r70.2 3)])) else(some (Sum.inr (0,[(D.sl ((gx v37 1).els)),(gx v37 2),(D.sl ((gx v37 3).els)),(gx v37 4)])))) [(D.int .i64 0),(D.sl ((gx r29.2 0).els)),(gx r29.2 1),(D.sl []),(D.int .i64 0)]).bind fun r72=>
 some (D.st [(D.st [(D.sl ((gx r72.2 2).els))]),(gx r72.2 3)])))))
theorem Tg{lp}(hlp:ak lp):ac 12 (m1 (Ho lp)):=aV (v:=0) (fn:=Tryz.f169) (ann:=Rq) hlp
def TG:Ann:=(.tl (.tl (.two (.tl (.two (.loop ⟨[(5,.di)],[],[0,1]⟩ [(.ret,⟨[(4,.dv Ty.bool)],[],[]⟩),(.exit 0,⟨[],[],[]⟩)] (.tl (.two (.two (.two (.reg [] 8) .leaf) .leaf) .leaf))) .leaf)) .leaf)))
noncomputable def J1(lp:Lp)(call:Nat->List D->Option D)(a0:D)(a1:D):Option D:=
(D.asSl a0).bind fun l1=>
(D.asSl a1).bind fun l2=>
(D.truth (D.bool (!(D.beq (D.int .i64 (l1.length)) (D.int .i64 (l2.length)))))).bind fun b3=>
 if b3 then(some (D.bool false)) else((lp (β:=Nat×List D) (fun(v4:List D)=>
(D.asSl a0).bind fun l5=>
(D.bin .lss (gx v4 0) (D.int .i64 (l5.length))).bind fun x6=>
(D.truth x6).bind fun b7=>
 if b7 then((D.asSl a0).bind fun l8=>
(D.idx (gx v4 0) (l8.length)).bind fun i9=>
(l8[i9]?).bind fun x10=>
(D.asSl a1).bind fun l11=>
(D.idx (gx v4 0) (l11.length)).bind fun kZ=>
(l11[kZ]?).bind fun x13=>
(D.truth (D.bool (!(D.beq x10 x13)))).bind fun b14=>
 if b14 then(some (Sum.inr (0,[(D.bool false)]))) else((D.bin .add (gx v4 0) (D.int .i64 1)).bind fun x15=>
 some (Sum.inl [x15]))) else(some (Sum.inr (1,[])))) [(D.int .i64 0)]).bind fun r16=>
 if r16.1=0 then(some (gx r16.2 0)) else(some (D.bool true)))
theorem SZ{lp}(hlp:ak lp):ac 13 (m2 (J1 lp)):=aT (v:=0) (fn:=Tryz.f170) (ann:=TG) hlp
noncomputable def JX(lp:Lp)(call:Nat->List D->Option D)(a0:D):Option D:=
(D.get a0 [0]).bind fun x1=>
(call 12 [x1]).bind fun r2=>
(D.get r2 [1]).bind fun x3=>
(D.truth (D.bool (D.beq x3 (D.int .i64 0)))).bind fun b4=>
(if b4 then((D.get r2 [0,0]).bind fun x5=>
(D.get a0 [0]).bind fun x6=>
(call 13 [x5,x6]).bind fun r7=>
(D.un .not r7).bind fun x8=>
 D.truth x8) else(some false)).bind fun b9=>
(D.truth (D.bool b9)).bind fun b10=>
 if b10 then(some (D.int .i64 3)) else((D.get r2 [1]).bind fun x11=>
 some x11)
theorem RM{lp}(hlp:ak lp):ac 15 (m1 (JX lp)):=aV (v:=0) (fn:=Tryz.f128) (ann:=.leaf) hlp
def RA:Ann:=(.tl (.tl (.two (.tl (.two (.loop ⟨[(1,.sp K3 4097),(3,.ow K6),(10,.di)],[(4097,.keep K3 1)],[8,9]⟩ [(.exit 0,⟨[(3,.ow K6)],[],[]⟩)] (.tl (.tl (.two (.two (.tl (.reg [] 11)) .leaf) .leaf)))) .leaf)) .leaf)))
noncomputable def JP(lp:Lp)(call:Nat->List D->Option D)(a0:D):Option D:=
(D.get a0 [0]).bind fun x1=>
(call 45 [x1]).bind fun r2=>
(D.asSl r2).bind fun l3=>
(lp (β:=Nat×List D) (fun(v4:List D)=>
(D.bin .lss (gx v4 1) (D.int .i64 (l3.length))).bind fun x5=>
(D.truth x5).bind fun b6=>
 if b6 then((D.asSl r2).bind fun l7=>
(D.idx (gx v4 1) (l7.length)).bind fun i8=>
(l7[i8]?).bind fun x9=>
(D.get x9 [0]).bind fun x10=>
(D.get x9 [1]).bind fun x11=>
(D.get a0 [0]).bind fun x12=>
(call 46 [x12,x9]).bind fun r13=>
 if List.length ((gx v4 0).els)+List.length [(D.st [x10,x11,r13])]<=1073741824 then((D.bin .add (gx v4 1) (D.int .i64 1)).bind fun x14=>
 some (Sum.inl [(D.sl (((gx v4 0).els)++[(D.st [x10,x11,r13])])),x14])) else none) else(some (Sum.inr (0,[(D.sl ((gx v4 0).els))])))) [(D.sl []),(D.int .i64 0)]).bind fun r15=>
 some (D.sl ((gx r15.2 0).els))
theorem RN{lp}(hlp:ak lp):ac 18 (m1 (JP lp)):=aV (v:=0) (fn:=Tryz.f176) (ann:=RA) hlp
noncomputable def Ji(lp:Lp)(call:Nat->List D->Option D)(a0:D):Option D:=
(D.get a0 [0]).bind fun x1=>
(call 48 [x1]).bind fun r2=>
 some r2
theorem Tn{lp}(hlp:ak lp):ac 19 (m1 (Ji lp)):=aV (v:=0) (fn:=Tryz.f171) (ann:=.leaf) hlp
def Rs:Ann:=(.tl (.tl (.tl (.two (.tl (.two (.loop ⟨[(1,.sp K3 4097),(3,.ow K8),(5,.di)],[(4097,.keep K3 1)],[4]⟩ [(.exit 0,⟨[(3,.ow K8)],[],[]⟩)] (.tl (.two (.two (.tl (.two (.loop ⟨[(1,.sp K3 4097),(3,.ow K8),(6,.di)],[(4097,.keep K3 1)],[4,5]⟩ [(.exit 2,⟨[(1,.sp K3 4097),(3,.ow K8)],[(4097,.keep K3 1)],[4,5]⟩)] (.tl (.cut [(.normal,⟨[(1,.sp K3 4097),(3,.ow K8)],[(4097,.keep K3 1)],[4,5,6]⟩)] [4,5,6] [4097] (.two (.tl (.two (.tl (.two (.loop ⟨[(1,.sp K3 4097),(3,.ow K8),(7,.dv Ty.bool),(8,.di)],[(4097,.keep K3 1)],[4,5,6]⟩ [(.exit 4,⟨[(1,.sp K3 4097),(3,.ow K8),(7,.dv Ty.bool)],[(4097,.keep K3 1)],[4,5,6]⟩)] (.tl (.two (.two (.tl (.tl (.two (.loop ⟨[(1,.sp K3 4097),(3,.ow K8),(7,.dv Ty.bool),(10,.di)],[(4097,.keep K3 1)],[4,5,6,8,9]⟩ [(.exit 6,⟨[(1,.sp K3 4097),(3,.ow K8),(7,.dv Ty.bool)],[(4097,.keep K3 1)],[4,5,6,8]⟩)] .leaf) .leaf))) .leaf) .leaf))) .leaf)) .leaf)) .leaf) .leaf))) .leaf)) .leaf) .leaf))) .leaf)) .leaf))))
noncomputable def JD(lp:Lp)(call:Nat->List D->Option D)(a0:D):Option D:=
(call 19 [a0]).bind fun r1=>
(lp (β:=Nat×List D) (fun(v2:List D)=>
(D.get a0 [0]).bind fun x3=>
(D.asSl x3).bind fun l4=>
(D.bin .lss (gx v2 1) (D.int .i64 (l4.length))).bind fun x5=>
(D.truth x5).bind fun b6=>
 if b6 then((D.bin .add (gx v2 1) (D.int .i64 1)).bind fun x7=>
(lp (β:=Nat×List D) (fun(v8:List D)=>
(D.get a0 [0]).bind fun x9=>
(D.asSl x9).bind fun l10=>
(D.bin .lss (gx v8 1) (D.int .i64 (l10.length))).bind fun x11=>
(D.truth x11).bind fun b12=>
 if b12 then(((lp (β:=Nat×List D) (fun(v13:List D)=>
(D.asSl r1).bind fun l14=>
(D.bin .lss (gx v13 2) (D.int .i64 (l14.length))).bind fun x15=>
(D.truth x15).bind fun b16=>
 if b16 then((D.asSl r1).bind fun l17=>
(D.idx (gx v13 2) (l17.length)).bind fun i18=>
(l17[i18]?).bind fun x19=>
(D.fld x19 2).bind fun x20=>
(lp (β:=Nat×List D) (fun(v21:List D)=>
(D.asSl x20).bind fun l22=>
(D.bin .lss (gx v21 2) (D.int .i64 (l22.length))).bind fun x23=>
(D.truth x23).bind fun b24=>
 if b24 then((D.truth (gx v21 1)).bind fun b25=>
(if b25 then(some true) else((D.asSl x20).bind fun l26=>
(D.idx (gx v21 2) (l26.length)).bind fun i27=>
(l26[i27]?).bind fun x28=>
(D.truth (D.bool (D.beq x28 (gx v2 1)))).bind fun b29=>
 if b29 then((D.bin .add (gx v21 2) (D.int .i64 1)).bind fun x30=>
(D.asSl x20).bind fun l31=>
(D.bin .rem x30 (D.int .i64 (l31.length))).bind fun x32=>
(D.asSl x20).bind fun l33=>
(D.idx x32 (l33.length)).bind fun i34=>
(l33[i34]?).bind fun x35=>
 D.truth (D.bool (D.beq x35 (gx v8 1)))) else(some false))).bind fun b36=>
(D.truth (D.bool b36)).bind fun b37=>
(if b37 then(some true) else((D.asSl x20).bind fun l38=>
(D.idx (gx v21 2) (l38.length)).bind fun i39=>
(l38[i39]?).bind fun x40=>
(D.truth (D.bool (D.beq x40 (gx v8 1)))).bind fun b41=>
 if b41 then((D.bin .add (gx v21 2) (D.int .i64 1)).bind fun x42=>
(D.asSl x20).bind fun l43=>
(D.bin .rem x42 (D.int .i64 (l43.length))).bind fun x44=>
(D.asSl x20).bind fun l45=>
(D.idx x44 (l45.length)).bind fun i46=>
(l45[i46]?).bind fun x47=>
 D.truth (D.bool (D.beq x47 (gx v2 1)))) else(some false))).bind fun b48=>
(D.bin .add (gx v21 2) (D.int .i64 1)).bind fun x49=>
 some (Sum.inl [(D.sl ((gx v21 0).els)),(D.bool b48),x49])) else(some (Sum.inr (0,[(D.sl ((gx v21 0).els)),(gx v21 1)])))) [(D.sl ((gx v13 0).els)),(gx v13 1),(D.int .i64 0)]).bind fun r50=>
(D.bin .add (gx v13 2) (D.int .i64 1)).bind fun x51=>
 some (Sum.inl [(D.sl ((gx r50.2 0).els)),(gx r50.2 1),x51])) else(some (Sum.inr (0,[(D.sl ((gx v13 0).els)),(gx v13 1)])))) [(D.sl ((gx v8 0).els)),(D.bool false),(D.int .i64 0)]).bind fun r52=>
(D.truth (gx r52.2 1)).bind fun b53=>
 if b53 then(if List.length ((gx r52.2 0).els)+List.length [(D.st [(gx v2 1),(gx v8 1)])]<=1073741824 then(some (0,[(D.sl (((gx r52.2 0).els)++[(D.st [(gx v2 1),(gx v8 1)])]))])) else none) else(some (0,[(D.sl ((gx r52.2 0).els))]))).bind fun(r54:Nat×List D)=>
(D.bin .add (gx v8 1) (D.int .i64 1)).bind fun x55=>
 some (Sum.inl [(D.sl ((gx r54.2 0).els)),x55])) else(some (Sum.inr (0,[(D.sl ((gx v8 0).els))])))) [(D.sl ((gx v2 0).els)),x7]).bind fun r56=>
(D.bin .add (gx v2 1) (D.int .i64 1)).bind fun x57=>
 some (Sum.inl [(D.sl ((gx r56.2 0).els)),x57])) else(some (Sum.inr (0,[(D.sl ((gx v2 0).els))])))) [(D.sl []),(D.int .i64 0)]).bind fun r58=>
 some (D.sl ((gx r58.2 0).els))
theorem QZ{lp}(hlp:ak lp):ac 22 (m1 (JD lp)):=aV (v:=0) (fn:=Tryz.f206) (ann:=Rs) hlp
def QO:Ann:=(.tl (.tl (.two (.regI [] 3 (.two (.tl (.tl (.two (.loop ⟨[(1,.same (.clo 183 [(.ptr aw 8195 [])])),(2,.sp K3 20482),(11,.di)],[(4098,.one aw (.dv aw)),(8195,.one aw (.dv aw)),(20482,.keep K3 2)],[9,10]⟩ [(.exit 0,⟨[],[(4098,.one aw (.dv aw)),(8195,.one aw (.dv aw))],[]⟩)] (.tl (.tl (.two (.two (.tl (.tl (.two (.loop ⟨[(1,.same (.clo 183 [(.ptr aw 8195 [])])),(2,.sp K3 20482),(5,.sp K6 36869),(6,.di)],[(4098,.one aw (.dv aw)),(8195,.one aw (.dv aw)),(20482,.keep K3 2),(36869,.keep K6 5)],[9,10,11]⟩ [(.exit 2,⟨[(1,.same (.clo 183 [(.ptr aw 8195 [])])),(2,.sp K3 20482)],[(4098,.one aw (.dv aw)),(8195,.one aw (.dv aw)),(20482,.keep K3 2)],[9,10,11]⟩)] (.tl (.two (.two (.two (.reg [] 29) (.regI [] 10 .leaf)) .leaf) .leaf))) .leaf))) .leaf) .leaf)))) .leaf))) .leaf)) .leaf)))
theorem SP{lp}(hlp:ak lp):ac 23 (cn 0 lp 23 Tryz.f142 QO):=bc hlp (by kernel_rfl) (by kernel_rfl)
def QB:Ann:=(.tl (.tl (.two (.regI [] 3 (.two (.tl (.tl (.two (.loop ⟨[(1,.same (.clo 135 [(.ptr jx 8195 [])])),(2,.sp K3 20482),(11,.di)],[(4098,.one bh (.st [Ti,Ti,eH] [.di,.di,.ow aK])),(8195,.one jx (.dv jx)),(20482,.keep K3 2)],[9,10]⟩ [(.exit 0,⟨[],[(4098,.one bh (.st [Ti,Ti,eH] [.di,.di,.ow aK])),(8195,.one jx (.dv jx))],[]⟩)] (.tl (.tl (.two (.two (.tl (.tl (.two (.loop ⟨[(1,.same (.clo 135 [(.ptr jx 8195 [])])),(2,.sp K3 20482),(5,.sp K6 36869),(6,.di)],[(4098,.one bh (.st [Ti,Ti,eH] [.di,.di,.ow aK])),(8195,.one jx (.dv jx)),(20482,.keep K3 2),(36869,.keep K6 5)],[9,10,11]⟩ [(.exit 2,⟨[(1,.same (.clo 135 [(.ptr jx 8195 [])])),(2,.sp K3 20482)],[(4098,.one bh (.st [Ti,Ti,eH] [.di,.di,.ow aK])),(8195,.one jx (.dv jx)),(20482,.keep K3 2)],[9,10,11]⟩)] (.tl (.two (.two (.two (.reg [] 29) (.regI [] 10 (.two (.tl (.tl (.two (.loop ⟨[(2,.sp jx 8195),(3,.sp aw 65539),(4,.sp yx 65540),(10,.di)],[(4098,.one bh (.st [Ti,Ti,eH] [.di,.di,.ow aK])),(8195,.one jx (.dv jx)),(20482,.one K3 (.dv K3)),(36869,.one K6 (.dv K6)),(65539,.keep aw 3),(65540,.keep yx 4)],[]⟩ [(.exit 0,⟨[],[(4098,.one bh (.st [Ti,Ti,eH] [.di,.di,.ow aK])),(8195,.one jx (.dv jx)),(20482,.one K3 (.dv K3)),(36869,.one K6 (.dv K6))],[]⟩)] (.tl (.tl (.two (.two (.tl (.tl (.two (.loop ⟨[(2,.sp jx 8195),(3,.sp aw 65539),(4,.sp yx 65540),(13,.di)],[(4098,.one bh (.st [Ti,Ti,eH] [.di,.di,.ow aK])),(8195,.one jx (.dv jx)),(20482,.one K3 (.dv K3)),(36869,.one K6 (.dv K6)),(65539,.keep aw 3),(65540,.keep yx 4)],[5,10]⟩ [(.exit 2,⟨[(2,.sp jx 8195),(3,.sp aw 65539),(4,.sp yx 65540)],[(4098,.one bh (.st [Ti,Ti,eH] [.di,.di,.ow aK])),(8195,.one jx (.dv jx)),(20482,.one K3 (.dv K3)),(36869,.one K6 (.dv K6)),(65539,.keep aw 3),(65540,.keep yx 4)],[10]⟩)] (.tl (.tl (.two (.two (.tl (.two (.reg [] 29) (.two (.tl (.two (.loop ⟨[(2,.sp jx 8195),(3,.sp aw 65539),(4,.sp yx 65540),(7,.di),(46,.di)],[(4098,.one bh (.st [Ti,Ti,eH] [.di,.di,.ow aK])),(8195,.keep jx 2),(20482,.one K3 (.dv K3)),(36869,.one K6 (.dv K6)),(65539,.keep aw 3),(65540,.keep yx 4)],[5,6,10,13,45]⟩ [(.exit 4,⟨[(2,.sp jx 8195),(3,.sp aw 65539),(4,.sp yx 65540),(7,.di)],[(4098,.one bh (.st [Ti,Ti,eH] [.di,.di,.ow aK])),(8195,.keep jx 2),(20482,.one K3 (.dv K3)),(36869,.one K6 (.dv K6)),(65539,.keep aw 3),(65540,.keep yx 4)],[5,6,10,13]⟩)] (.tl (.tl (.two (.two (.tl (.reg [] 9)) .leaf) .leaf)))) .leaf)) (.reg [] 14)))) .leaf) .leaf)))) .leaf))) .leaf) .leaf)))) .leaf))) .leaf))) .leaf) .leaf))) .leaf))) .leaf) .leaf)))) .leaf))) .leaf)) (.two (.reg [] 12) (.tl (.two (.tl (.two (.loop ⟨[(2,.sp bh 4098),(3,.sp jx 8195),(4,.sp aw 36868),(5,.sp bh 40965),(24,.di)],[(4098,.one bh (.st [Ti,Ti,eH] [.di,.di,.ow aK])),(8195,.keep jx 3),(36868,.keep aw 4),(40965,.one bh (.st [Ti,Ti,eH] [.di,.di,.ow aK]))],[]⟩ [(.exit 0,⟨[(2,.sp bh 4098),(5,.sp bh 40965)],[(4098,.one bh (.st [Ti,Ti,eH] [.di,.di,.ow aK])),(40965,.one bh (.st [Ti,Ti,eH] [.di,.di,.ow aK]))],[]⟩)] (.tl (.tl (.two (.two (.tl (.tl (.two (.loop ⟨[(2,.sp bh 4098),(3,.sp jx 8195),(4,.sp aw 36868),(5,.sp bh 40965),(27,.di)],[(4098,.one bh (.st [Ti,Ti,eH] [.di,.di,.ow aK])),(8195,.keep jx 3),(36868,.keep aw 4),(40965,.one bh (.st [Ti,Ti,eH] [.di,.di,.ow aK]))],[6,24]⟩ [(.exit 2,⟨[(2,.sp bh 4098),(3,.sp jx 8195),(4,.sp aw 36868),(5,.sp bh 40965)],[(4098,.one bh (.st [Ti,Ti,eH] [.di,.di,.ow aK])),(8195,.keep jx 3),(36868,.keep aw 4),(40965,.one bh (.st [Ti,Ti,eH] [.di,.di,.ow aK]))],[24]⟩)] (.tl (.tl (.two (.two (.tl (.tl (.cut [(.normal,⟨[(2,.sp bh 4098),(3,.sp jx 8195),(4,.sp aw 36868),(5,.sp bh 40965),(8,.sp aw 77832)],[(4098,.one bh (.st [Ti,Ti,eH] [.di,.di,.ow aK])),(8195,.keep jx 3),(36868,.keep aw 4),(40965,.one bh (.st [Ti,Ti,eH] [.di,.di,.ow aK])),(77832,.one aw (.dv aw))],[6,24,27]⟩)] [6,24,27] [8195,36868] .leaf (.reg [] 6)))) .leaf) .leaf)))) .leaf))) .leaf) .leaf)))) .leaf)) .leaf))))))
theorem RU{lp}(hlp:ak lp):ac 28 (cn 0 lp 28 Tryz.f84 QB):=bc hlp (by kernel_rfl) (by kernel_rfl)
def Rz:Ann:=(.tl (.tl (.tl (.tl (.tl (.tl (.tl (.cut [(.normal,⟨[(5,.dv K5),(6,.dv K5)],[],[]⟩)] [] [] .leaf .leaf))))))))
noncomputable def Jw(lp:Lp)(call:Nat->List D->Option D)(a0:D)(a1:D):Option D:=
(call 76 [a0]).bind fun r1=>
(D.un .not r1).bind fun x2=>
(D.truth x2).bind fun b3=>
(if b3 then((call 76 [a1]).bind fun r4=>
(D.un .not r4).bind fun x5=>
 D.truth x5) else(some false)).bind fun b6=>
(D.truth (D.bool b6)).bind fun b7=>
 if b7 then(some (D.int .i64 0)) else((call 76 [a0]).bind fun r8=>
(D.un .not r8).bind fun x9=>
(D.truth x9).bind fun b10=>
 if b10 then(some (D.int .i64 (-1))) else((call 76 [a1]).bind fun r11=>
(D.un .not r11).bind fun x12=>
(D.truth x12).bind fun b13=>
 if b13 then(some (D.int .i64 1)) else((D.get a0 [1]).bind fun x14=>
(D.get a1 [1]).bind fun x15=>
(D.truth (D.bool (!(D.beq x14 x15)))).bind fun b16=>
 if b16 then((D.get a0 [1]).bind fun x17=>
(D.truth x17).bind fun b18=>
 if b18 then(some (D.int .i64 (-1))) else(some (D.int .i64 1))) else((call 77 [a0]).bind fun r19=>
(call 77 [a1]).bind fun r20=>
((D.get a0 [1]).bind fun x21=>
(D.truth x21).bind fun b22=>
 if b22 then((call 77 [a1]).bind fun r23=>
(call 77 [a0]).bind fun r24=>
 some (0,[r23,r24])) else(some (0,[r19,r20]))).bind fun(r25:Nat×List D)=>
(call 78 [(gx r25.2 0),(gx r25.2 1)]).bind fun r26=>
(call 78 [(gx r25.2 1),(gx r25.2 0)]).bind fun r27=>
(D.truth r26).bind fun b28=>
 if b28 then(some (D.int .i64 (-1))) else((D.truth r27).bind fun b29=>
 if b29 then(some (D.int .i64 1)) else(some (D.int .i64 0)))))))
theorem Sg{lp}(hlp:ak lp):ac 32 (m2 (Jw lp)):=aT (v:=0) (fn:=Tryz.f72) (ann:=Rz) hlp
def TI:Ann:=(.tl (.two (.reg [] 5) .leaf))
noncomputable def JE(lp:Lp)(call:Nat->List D->Option D)(a0:D)(a1:D):Option D:=
(call 80 [a0]).bind fun r1=>
(call 80 [a1]).bind fun r2=>
(call 79 [r1,r2]).bind fun r3=>
 some r3
theorem Q6{lp}(hlp:ak lp):ac 33 (m2 (JE lp)):=aT (v:=0) (fn:=Tryz.f185) (ann:=TI) hlp
noncomputable def Jn(lp:Lp)(call:Nat->List D->Option D)(a0:D):Option D:=
(D.bin .geq a0 (D.int .i64 0)).bind fun x1=>
(D.truth x1).bind fun b2=>
 if b2 then((D.bin .rem a0 (D.int .i64 65536)).bind fun x3=>
(D.bin .quo a0 (D.int .i64 65536)).bind fun x4=>
(D.bin .rem x4 (D.int .i64 65536)).bind fun x5=>
(D.bin .quo a0 (D.int .i64 4294967296)).bind fun x6=>
(D.bin .rem x6 (D.int .i64 65536)).bind fun x7=>
(D.bin .quo a0 (D.int .i64 281474976710656)).bind fun x8=>
(call 81 [(D.bool false),(D.sl [x3,x5,x7,x8])]).bind fun r9=>
 some r9) else((D.bin .add a0 (D.int .i64 1)).bind fun x10=>
(D.un .neg x10).bind fun x11=>
(D.bin .rem x11 (D.int .i64 65536)).bind fun x12=>
(D.bin .quo x11 (D.int .i64 65536)).bind fun x13=>
(D.bin .rem x13 (D.int .i64 65536)).bind fun x14=>
(D.bin .quo x11 (D.int .i64 4294967296)).bind fun x15=>
(D.bin .rem x15 (D.int .i64 65536)).bind fun x16=>
(D.bin .quo x11 (D.int .i64 281474976710656)).bind fun x17=>
(call 82 [(D.sl [x12,x14,x16,x17]),(D.sl [(D.int .i64 1)])]).bind fun r18=>
(call 81 [(D.bool true),r18]).bind fun r19=>
 some r19)
theorem Tv{lp}(hlp:ak lp):ac 34 (m1 (Jn lp)):=aV (v:=0) (fn:=Tryz.f69) (ann:=.leaf) hlp
def Q1:Ann:=(.tl (.tl (.tl (.cut [(.normal,⟨[(2,.sp aw 4098),(3,.sp aw 4099),(4,.sp aK 4100),(5,.sp aw 12293)],[(4098,.keep aw 2),(4099,.keep aw 3),(4100,.keep aK 4),(12293,.one aw (.dv aw))],[]⟩)] [] [4098,4099,4100] .leaf (.two (.reg [] 7) .leaf)))))
noncomputable def Jf(lp:Lp)(call:Nat->List D->Option D)(a0:D)(a1:D):Option D:=
(call 76 [a0]).bind fun r1=>
(D.un .not r1).bind fun x2=>
(D.truth x2).bind fun b3=>
(if b3 then(some true) else((call 76 [a1]).bind fun r4=>
(D.un .not r4).bind fun x5=>
 D.truth x5)).bind fun b6=>
(D.truth (D.bool b6)).bind fun b7=>
(if b7 then(some true) else((call 83 [a1]).bind fun r8=>
 D.truth (D.bool (D.beq r8 (D.int .i64 0))))).bind fun b9=>
(D.truth (D.bool b9)).bind fun b10=>
 if b10 then((call 84 []).bind fun r11=>
 some r11) else((call 85 [a0,a1]).bind fun r12=>
((call 83 [a1]).bind fun r13=>
(D.bin .lss r13 (D.int .i64 0)).bind fun x14=>
(D.truth x14).bind fun b15=>
 if b15 then((call 86 [r12]).bind fun r16=>
 some (0,[r16])) else(some (0,[r12]))).bind fun(r17:Nat×List D)=>
(call 87 [a0,(gx r17.2 0)]).bind fun r18=>
(call 87 [a1,(gx r17.2 0)]).bind fun r19=>
 some (D.st [r18,r19]))
theorem Sf{lp}(hlp:ak lp):ac 37 (m2 (Jf lp)):=aT (v:=0) (fn:=Tryz.f67) (ann:=Q1) hlp
def TH:Ann:=(.tl (.two (.reg [] 4) .leaf))
noncomputable def Jo(lp:Lp)(call:Nat->List D->Option D)(a0:D)(a1:D):Option D:=
(call 70 [a1]).bind fun r1=>
(call 40 [a0,r1]).bind fun r2=>
 some r2
theorem Se{lp}(hlp:ak lp):ac 39 (m2 (Jo lp)):=aT (v:=0) (fn:=Tryz.f31) (ann:=TH) hlp
def R0:Ann:=(.tl (.tl (.tl (.tl (.tl (.two (.reg [] 14) .leaf))))))
noncomputable def Jm(lp:Lp)(call:Nat->List D->Option D)(a0:D)(a1:D):Option D:=
(call 88 [a0]).bind fun r1=>
(D.un .not r1).bind fun x2=>
(D.truth x2).bind fun b3=>
(if b3 then(some true) else((call 88 [a1]).bind fun r4=>
(D.un .not r4).bind fun x5=>
 D.truth x5)).bind fun b6=>
(D.truth (D.bool b6)).bind fun b7=>
 if b7 then((call 84 []).bind fun r8=>
 some r8) else((D.get a0 [1]).bind fun x9=>
(D.get a1 [1]).bind fun x10=>
(call 85 [x9,x10]).bind fun r11=>
(D.get a0 [1]).bind fun x12=>
(call 87 [x12,r11]).bind fun r13=>
(D.get a1 [1]).bind fun x14=>
(call 87 [x14,r11]).bind fun r15=>
(D.get a0 [0]).bind fun x16=>
(call 89 [x16,r15]).bind fun r17=>
(D.get a1 [0]).bind fun x18=>
(call 89 [x18,r13]).bind fun r19=>
(call 59 [r17,r19]).bind fun r20=>
(D.get a1 [1]).bind fun x21=>
(call 89 [r13,x21]).bind fun r22=>
(call 37 [r20,r22]).bind fun r23=>
 some r23)
theorem Rv{lp}(hlp:ak lp):ac 40 (m2 (Jm lp)):=aT (v:=0) (fn:=Tryz.f34) (ann:=R0) hlp
def QX:Ann:=(.tl (.tl (.two (.tl (.two (.loop ⟨[(2,.sp K2 4098),(3,.sp cN 4099),(5,.sp K5 8197),(13,.di)],[(4098,.keep K2 2),(4099,.keep cN 3),(8197,.one K5 (.ow Ti))],[11,12]⟩ [(.exit 0,⟨[(2,.sp K2 4098),(3,.sp cN 4099),(5,.sp K5 8197)],[(4098,.keep K2 2),(4099,.keep cN 3),(8197,.one K5 (.ow Ti))],[]⟩)] (.tl (.tl (.cut [(.normal,⟨[(2,.sp K2 4098),(3,.sp cN 4099),(5,.sp K5 8197)],[(4098,.keep K2 2),(4099,.keep cN 3),(8197,.one K5 (.ow Ti))],[11,12,13]⟩)] [11,12,13] [4098,4099] (.two (.tl (.two (.reg [] 6) .leaf)) .leaf) .leaf)))) .leaf)) (.tl (.tl (.two (.two (.regI [] 6 (.two (.tl (.tl (.two (.tl (.two (.loop ⟨[(2,.sp K2 4098),(3,.sp cN 4099),(6,.di),(12,.dv K5),(14,.di)],[(4098,.keep K2 2),(4099,.keep cN 3),(8197,.one K5 (.dv K5))],[0,13]⟩ [(.exit 0,⟨[(6,.di)],[(4098,.keep K2 2),(4099,.keep cN 3),(8197,.one K5 (.dv K5))],[]⟩)] (.tl (.tl (.cut [(.normal,⟨[(2,.sp K2 4098),(3,.sp cN 4099),(6,.di)],[(4098,.keep K2 2),(4099,.keep cN 3),(8197,.one K5 (.dv K5))],[0,12,13,14]⟩)] [0,12,13,14] [4098,4099] (.two (.tl (.tl (.tl (.two (.reg [] 20) .leaf)))) .leaf) .leaf)))) .leaf)) .leaf))) .leaf)) (.two (.loop ⟨[(5,.sp K5 8197),(8,.same (.clo 240 [(.ptr K5 8197 []),(.ptr K2 4098 []),(.ptr cN 4099 [])])),(9,.ow Ti),(10,.di)],[(4098,.keep K2 2),(4099,.keep cN 3),(8197,.keep K5 5)],[]⟩ [(.exit 2,⟨[(9,.ow Ti)],[],[]⟩)] (.tl (.tl (.regI [] 4 (.two (.tl (.tl (.two (.tl (.two (.loop ⟨[(2,.sp K2 4098),(3,.sp cN 4099),(6,.di),(14,.di)],[(4098,.keep K2 2),(4099,.keep cN 3),(8197,.keep K5 1)],[0,12,13]⟩ [(.exit 0,⟨[(6,.di)],[(4098,.keep K2 2),(4099,.keep cN 3),(8197,.keep K5 1)],[]⟩)] (.tl (.tl (.cut [(.normal,⟨[(2,.sp K2 4098),(3,.sp cN 4099),(6,.di)],[(4098,.keep K2 2),(4099,.keep cN 3),(8197,.one K5 (.dv K5))],[0,12,13,14]⟩)] [0,12,13,14] [4098,4099] (.two (.tl (.tl (.tl (.two (.reg [] 20) .leaf)))) .leaf) .leaf)))) .leaf)) .leaf))) .leaf))))) .leaf)) .leaf))))))
noncomputable def JW(lp:Lp)(call:Nat->List D->Option D)(a0:D)(a1:D):Option D:=
(D.asSl a0).bind fun l1=>
(lp (β:=Nat×List D) (fun(v2:List D)=>
(D.bin .lss (gx v2 0) (D.int .i64 (l1.length))).bind fun x3=>
(D.truth x3).bind fun b4=>
 if b4 then(((D.asSl a0).bind fun l5=>
(D.idx (gx v2 0) (l5.length)).bind fun i6=>
(l5[i6]?).bind fun x7=>
(D.get a1 [0]).bind fun x8=>
(call 101 [x8,x7]).bind fun r9=>
(D.get a1 [1]).bind fun x10=>
(D.truth (D.bool (D.beq r9 x10))).bind fun b11=>
 if b11 then(if List.length ((gx v2 1).els)+List.length [(gx v2 0)]<=1073741824 then(some (0,[(D.sl (((gx v2 1).els)++[(gx v2 0)]))])) else none) else(some (0,[(D.sl ((gx v2 1).els))]))).bind fun(r12:Nat×List D)=>
(D.bin .add (gx v2 0) (D.int .i64 1)).bind fun x13=>
 some (Sum.inl [x13,(D.sl ((gx r12.2 0).els))])) else(some (Sum.inr (0,[(D.sl ((gx v2 1).els))])))) [(D.int .i64 0),(D.sl [])]).bind fun r14=>
(D.idx (D.int .i64 0) (List.length ((gx r14.2 0).els))).bind fun i15=>
(((gx r14.2 0).els)[i15]?).bind fun x16=>
(D.idx (D.int .i64 0) (List.length ((gx r14.2 0).els))).bind fun i17=>
(((gx r14.2 0).els)[i17]?).bind fun x18=>
(lp (β:=Nat×List D) (fun(v19:List D)=>
(D.bin .lss (gx v19 2) (D.int .i64 (List.length ((gx r14.2 0).els)))).bind fun x20=>
(D.truth x20).bind fun b21=>
 if b21 then(((D.asSl (gx v19 1)).bind fun l22=>
(D.idx (gx v19 2) (l22.length)).bind fun wM=>
(l22[wM]?).bind fun x24=>
(D.truth (D.bool (D.beq x24 x18))).bind fun b25=>
 if b25 then(some (0,[(gx v19 0),(gx v19 3)])) else((D.bin .lss (gx v19 0) (D.int .i64 0)).bind fun x26=>
(D.truth x26).bind fun b27=>
 if b27 then(some (0,[x24,(gx v19 3)])) else((D.asSl a0).bind fun l28=>
(D.idx x24 (l28.length)).bind fun i29=>
(l28[i29]?).bind fun x30=>
(D.asSl a0).bind fun l31=>
(D.idx x18 (l31.length)).bind fun i32=>
(l31[i32]?).bind fun x33=>
(call 103 [x30,x33]).bind fun r34=>
(D.asSl a0).bind fun l35=>
(D.idx (gx v19 0) (l35.length)).bind fun i36=>
(l35[i36]?).bind fun x37=>
(D.asSl a0).bind fun l38=>
(D.idx x18 (l38.length)).bind fun i39=>
(l38[i39]?).bind fun x40=>
(call 103 [x37,x40]).bind fun r41=>
(D.get a1 [0]).bind fun x42=>
(call 104 [x42,r41,r34]).bind fun r43=>
(D.bin .lss r43 (D.int .i64 0)).bind fun x44=>
(D.truth x44).bind fun b45=>
(if b45 then(some true) else((D.truth (D.bool (D.beq r43 (D.int .i64 0)))).bind fun b46=>
 if b46 then((call 101 [r34,r34]).bind fun r47=>
(call 101 [r41,r41]).bind fun r48=>
(D.bin .gtr r47 r48).bind fun x49=>
 D.truth x49) else(some false))).bind fun b50=>
(D.truth (D.bool b50)).bind fun b51=>
 if b51 then(some (0,[x24,(gx v19 3)])) else(some (0,[(gx v19 0),(gx v19 3)]))))).bind fun(r52:Nat×List D)=>
(D.bin .add (gx v19 2) (D.int .i64 1)).bind fun x53=>
 some (Sum.inl [(gx r52.2 0),(gx v19 1),x53,(gx r52.2 1)])) else(some (Sum.inr (0,[(gx v19 0),(gx v19 3)])))) [(D.int .i64 (-1)),(D.sl ((gx r14.2 0).els)),(D.int .i64 0),(D.sl ((gx r14.2 0).els))]).bind fun r54=>
(lp (β:=Nat×List D) (fun(v55:List D)=>
(D.asSl (gx r54.2 1)).bind fun l56=>
(D.idx (D.int .i64 0) (l56.length)).bind fun i57=>
(l56[i57]?).bind fun x58=>
(D.truth (D.bool (!(D.beq (gx v55 1) x58)))).bind fun b59=>
 if b59 then(if List.length ((gx v55 0).els)+List.length [(gx v55 1)]<=1073741824 then((D.asSl (gx r54.2 1)).bind fun l60=>
(lp (β:=Nat×List D) (fun(v61:List D)=>
(D.bin .lss (gx v61 1) (D.int .i64 (l60.length))).bind fun x62=>
(D.truth x62).bind fun b63=>
 if b63 then(((D.asSl (gx r54.2 1)).bind fun l64=>
(D.idx (gx v61 1) (l64.length)).bind fun i65=>
(l64[i65]?).bind fun x66=>
(D.truth (D.bool (D.beq x66 (gx v55 1)))).bind fun b67=>
 if b67 then(some (0,[(gx v61 0),(gx r54.2 1)])) else((D.bin .lss (gx v61 0) (D.int .i64 0)).bind fun x68=>
(D.truth x68).bind fun b69=>
 if b69 then(some (0,[x66,(gx r54.2 1)])) else((D.asSl a0).bind fun l70=>
(D.idx x66 (l70.length)).bind fun i71=>
(l70[i71]?).bind fun x72=>
(D.asSl a0).bind fun l73=>
(D.idx (gx v55 1) (l73.length)).bind fun i74=>
(l73[i74]?).bind fun x75=>
(call 103 [x72,x75]).bind fun r76=>
(D.asSl a0).bind fun l77=>
(D.idx (gx v61 0) (l77.length)).bind fun i78=>
(l77[i78]?).bind fun x79=>
(D.asSl a0).bind fun l80=>
(D.idx (gx v55 1) (l80.length)).bind fun i81=>
(l80[i81]?).bind fun x82=>
(call 103 [x79,x82]).bind fun r83=>
(D.get a1 [0]).bind fun x84=>
(call 104 [x84,r83,r76]).bind fun r85=>
(D.bin .lss r85 (D.int .i64 0)).bind fun x86=>
(D.truth x86).bind fun b87=>
(if b87 then(some true) else((D.truth (D.bool (D.beq r85 (D.int .i64 0)))).bind fun b88=>
 if b88 then((call 101 [r76,r76]).bind fun r89=>
(call 101 [r83,r83]).bind fun r90=>
(D.bin .gtr r89 r90).bind fun x91=>
 D.truth x91) else(some false))).bind fun b92=>
(D.truth (D.bool b92)).bind fun b93=>
 if b93 then(some (0,[x66,(gx r54.2 1)])) else(some (0,[(gx v61 0),(gx r54.2 1)]))))).bind fun(r94:Nat×List D)=>
(D.bin .add (gx v61 1) (D.int .i64 1)).bind fun x95=>
 some (Sum.inl [(gx r94.2 0),x95])) else(some (Sum.inr (0,[(gx v61 0)])))) [(D.int .i64 (-1)),(D.int .i64 0)]).bind fun r96=>
 some (Sum.inl [(D.sl (((gx v55 0).els)++[(gx v55 1)])),(gx r96.2 0)])) else none) else(some (Sum.inr (0,[(D.sl ((gx v55 0).els))])))) [(D.sl [x16]),(gx r54.2 0)]).bind fun r97=>
 some (D.sl ((gx r97.2 0).els))
theorem Q0{lp}(hlp:ak lp):ac 46 (m2 (JW lp)):=aT (v:=0) (fn:=Tryz.f211) (ann:=QX) hlp
end Sy
end
section
set_option maxHeartbeats 0
namespace Sy
open Go Go.Proofs
def SI:Ann:=(.tl (.tl (.two (.tl (.two (.loop ⟨[(3,.ow K1),(4,.di)],[],[0]⟩ [(.exit 0,⟨[(3,.ow K1)],[],[]⟩)] (.tl (.two (.two (.tl (.tl (.two (.tl (.two (.loop ⟨[(3,.ow K1),(5,.ow K1),(6,.dv Ty.bool),(7,.di)],[],[0,4]⟩ [(.exit 2,⟨[(5,.ow K1),(6,.dv Ty.bool)],[],[0,4]⟩)] (.tl (.cut [(.normal,⟨[(3,.ow K1),(5,.ow K1),(6,.dv Ty.bool)],[],[0,4,7]⟩)] [0,4,7] [] (.two (.two (.reg [] 9) (.cut [(.normal,⟨[(3,.ow K1),(5,.ow K1),(6,.dv Ty.bool)],[],[0,4,7]⟩)] [0,4,7] [] .leaf (.two (.reg [] 8) .leaf))) .leaf) .leaf))) .leaf)) (.cut [(.normal,⟨[(5,.ow K1)],[],[0,4]⟩)] [0,4] [] .leaf .leaf)))) .leaf) .leaf))) .leaf)) .leaf)))
noncomputable def JH(lp:Lp)(call:Nat->List D->Option D)(a0:D):Option D:=
(lp (β:=Nat×List D) (fun(v1:List D)=>
(D.asSl a0).bind fun l2=>
(D.bin .lss (gx v1 1) (D.int .i64 (l2.length))).bind fun x3=>
(D.truth x3).bind fun b4=>
 if b4 then((lp (β:=Nat×List D) (fun(v5:List D)=>
(D.bin .lss (gx v5 3) (D.int .i64 (List.length ((gx v5 0).els)))).bind fun x6=>
(D.truth x6).bind fun b7=>
 if b7 then(((D.asSl a0).bind fun l8=>
(D.idx (gx v1 1) (l8.length)).bind fun i9=>
(l8[i9]?).bind fun x10=>
(D.idx (gx v5 3) (List.length ((gx v5 0).els))).bind fun i11=>
(((gx v5 0).els)[i11]?).bind fun x12=>
(call 105 [x10,x12]).bind fun r13=>
((D.un .not (gx v5 2)).bind fun x14=>
(D.truth x14).bind fun b15=>
(if b15 then((D.truth r13).bind fun b16=>
 if b16 then(some true) else((D.asSl a0).bind fun l17=>
(D.idx (gx v1 1) (l17.length)).bind fun i18=>
(l17[i18]?).bind fun x19=>
(D.idx (gx v5 3) (List.length ((gx v5 0).els))).bind fun i20=>
(((gx v5 0).els)[i20]?).bind fun x21=>
 D.truth (D.bool (D.beq x19 x21)))) else(some false)).bind fun b22=>
(D.truth (D.bool b22)).bind fun b23=>
 if b23 then((D.asSl a0).bind fun l24=>
(D.idx (gx v1 1) (l24.length)).bind fun i25=>
(l24[i25]?).bind fun x26=>
 if List.length ((gx v5 1).els)+List.length [x26]<=1073741824 then(some (0,[(D.sl ((gx v5 0).els)),(D.sl (((gx v5 1).els)++[x26])),(D.bool true)])) else none) else(some (0,[(D.sl ((gx v5 0).els)),(D.sl ((gx v5 1).els)),(gx v5 2)]))).bind fun(r27:Nat×List D)=>
(D.idx (gx v5 3) (List.length ((gx r27.2 0).els))).bind fun i28=>
(((gx r27.2 0).els)[i28]?).bind fun x29=>
(D.asSl a0).bind fun l30=>
(D.idx (gx v1 1) (l30.length)).bind fun i31=>
(l30[i31]?).bind fun x32=>
(D.truth (D.bool (!(D.beq x29 x32)))).bind fun b33=>
 if b33 then((D.idx (gx v5 3) (List.length ((gx r27.2 0).els))).bind fun i34=>
(((gx r27.2 0).els)[i34]?).bind fun x35=>
 if List.length ((gx r27.2 1).els)+List.length [x35]<=1073741824 then(some (0,[(D.sl ((gx r27.2 0).els)),(D.sl (((gx r27.2 1).els)++[x35])),(gx r27.2 2)])) else none) else(some (0,[(D.sl ((gx r27.2 0).els)),(D.sl ((gx r27.2 1).els)),(gx r27.2 2)]))).bind fun(r36:Nat×List D)=>
(D.bin .add (gx v5 3) (D.int .i64 1)).bind fun x37=>
 some (Sum.inl [(D.sl ((gx r36.2 0).els)),(D.sl ((gx r36.2 1).els)),(gx r36.2 2),x37])) else(some (Sum.inr (0,[(D.sl ((gx v5 1).els)),(gx v5 2)])))) [(D.sl ((gx v1 0).els)),(D.sl []),(D.bool false),(D.int .i64 0)]).bind fun r38=>
((D.un .not (gx r38.2 1)).bind fun x39=>
(D.truth x39).bind fun b40=>
 if b40 then((D.asSl a0).bind fun l41=>
(D.idx (gx v1 1) (l41.length)).bind fun i42=>
(l41[i42]?).bind fun x43=>
 if List.length ((gx r38.2 0).els)+List.length [x43]<=1073741824 then(some (0,[(D.sl (((gx r38.2 0).els)++[x43]))])) else none) else(some (0,[(D.sl ((gx r38.2 0).els))]))).bind fun(r44:Nat×List D)=>
(D.bin .add (gx v1 1) (D.int .i64 1)).bind fun x45=>
 some (Sum.inl [(D.sl ((gx r44.2 0).els)),x45])) else(some (Sum.inr (0,[(D.sl ((gx v1 0).els))])))) [(D.sl []),(D.int .i64 0)]).bind fun r46=>
 some (D.sl ((gx r46.2 0).els))
theorem RT{lp}(hlp:ak lp):ac 47 (m1 (JH lp)):=aV (v:=0) (fn:=Tryz.f203) (ann:=SI) hlp
def Tw:Ann:=(.tl (.tl (.two (.tl (.two (.loop ⟨[(3,.dv K7),(4,.di)],[],[0]⟩ [(.exit 0,⟨[(3,.dv K7)],[],[]⟩)] (.tl (.two (.two (.tl (.two (.loop ⟨[(3,.dv K7),(5,.di)],[],[0,4]⟩ [(.exit 2,⟨[(3,.dv K7)],[],[0,4]⟩)] (.tl (.two (.two (.tl (.two (.loop ⟨[(3,.dv K7),(6,.di)],[],[0,4,5]⟩ [(.exit 4,⟨[(3,.dv K7)],[],[0,4,5]⟩)] (.tl (.two (.two (.two (.reg [] 14) (.tl (.two (.loop ⟨[(3,.dv K7),(7,.sp K1 49159),(8,.di)],[(49159,.one K1 (.dv K1))],[0,4,5,6]⟩ [(.exit 6,⟨[(3,.dv K7)],[],[0,4,5,6]⟩)] (.tl (.two (.two (.two (.reg [] 6) (.tl (.tl (.cut [(.normal,⟨[(3,.dv K7),(7,.sp K1 49159)],[(49159,.keep K1 7)],[0,4,5,6,8]⟩)] [0,4,5,6,8] [49159] (.tl (.two (.reg [] 9) .leaf)) .leaf)))) .leaf) .leaf))) .leaf))) .leaf) .leaf))) .leaf)) .leaf) .leaf))) .leaf)) .leaf) .leaf))) .leaf)) .leaf)))
noncomputable def Jr(lp:Lp)(call:Nat->List D->Option D)(a0:D):Option D:=
(lp (β:=Nat×List D) (fun(v1:List D)=>
(D.asSl a0).bind fun l2=>
(D.bin .lss (gx v1 1) (D.int .i64 (l2.length))).bind fun x3=>
(D.truth x3).bind fun b4=>
 if b4 then((D.bin .add (gx v1 1) (D.int .i64 1)).bind fun x5=>
(lp (β:=Nat×List D) (fun(v6:List D)=>
(D.asSl a0).bind fun l7=>
(D.bin .lss (gx v6 1) (D.int .i64 (l7.length))).bind fun x8=>
(D.truth x8).bind fun b9=>
 if b9 then((D.bin .add (gx v6 1) (D.int .i64 1)).bind fun x10=>
(lp (β:=Nat×List D) (fun(v11:List D)=>
(D.asSl a0).bind fun l12=>
(D.bin .lss (gx v11 1) (D.int .i64 (l12.length))).bind fun x13=>
(D.truth x13).bind fun b14=>
 if b14 then((D.asSl a0).bind fun l15=>
(D.idx (gx v1 1) (l15.length)).bind fun i16=>
(l15[i16]?).bind fun x17=>
(D.asSl a0).bind fun l18=>
(D.idx (gx v6 1) (l18.length)).bind fun i19=>
(l18[i19]?).bind fun x20=>
(D.asSl a0).bind fun l21=>
(D.idx (gx v11 1) (l21.length)).bind fun i22=>
(l21[i22]?).bind fun x23=>
(call 106 [x17,x20,x23]).bind fun r24=>
(lp (β:=Nat×List D) (fun(v25:List D)=>
(D.bin .lss (gx v25 1) (D.int .i64 2)).bind fun x26=>
(D.truth x26).bind fun b27=>
 if b27 then((D.asSl a0).bind fun l28=>
(D.idx (gx v1 1) (l28.length)).bind fun i29=>
(l28[i29]?).bind fun x30=>
(call 107 [(gx v25 2),x30]).bind fun r31=>
(call 108 [(gx v25 0),(gx v25 2)]).bind fun r32=>
((D.un .not r32).bind fun x33=>
(D.truth x33).bind fun b34=>
(if b34 then((D.un .not (D.bool (D.beq (gx v25 2) (D.st [(D.int .i64 0),(D.int .i64 0),(D.int .i64 0)])))).bind fun x35=>
 D.truth x35) else(some false)).bind fun b36=>
(D.truth (D.bool b36)).bind fun b37=>
(if b37 then((call 109 [a0,(gx v25 2),r31]).bind fun r38=>
 D.truth r38) else(some false)).bind fun b39=>
(D.truth (D.bool b39)).bind fun b40=>
 if b40 then((call 111 [a0,(gx v25 2),r31]).bind fun r41=>
(call 110 [(gx v25 0),(D.st [(gx v25 2),r31,r41])]).bind fun r42=>
 some (0,[r42])) else(some (0,[(gx v25 0)]))).bind fun(r43:Nat×List D)=>
(call 112 [(D.st [(D.int .i64 0),(D.int .i64 0),(D.int .i64 0)]),(gx v25 2)]).bind fun r44=>
(D.bin .add (gx v25 1) (D.int .i64 1)).bind fun x45=>
 some (Sum.inl [(gx r43.2 0),x45,r44])) else(some (Sum.inr (0,[(gx v25 0)])))) [(gx v11 0),(D.int .i64 0),r24]).bind fun r46=>
(D.bin .add (gx v11 1) (D.int .i64 1)).bind fun x47=>
 some (Sum.inl [(gx r46.2 0),x47])) else(some (Sum.inr (0,[(gx v11 0)])))) [(gx v6 0),x10]).bind fun r48=>
(D.bin .add (gx v6 1) (D.int .i64 1)).bind fun x49=>
 some (Sum.inl [(gx r48.2 0),x49])) else(some (Sum.inr (0,[(gx v6 0)])))) [(gx v1 0),x5]).bind fun r50=>
(D.bin .add (gx v1 1) (D.int .i64 1)).bind fun x51=>
 some (Sum.inl [(gx r50.2 0),x51])) else(some (Sum.inr (0,[(gx v1 0)])))) [(D.sl []),(D.int .i64 0)]).bind fun r52=>
 some (gx r52.2 0)
theorem Sj{lp}(hlp:ak lp):ac 48 (m1 (Jr lp)):=aV (v:=0) (fn:=Tryz.f204) (ann:=Tw) hlp
def Sz:Ann:=(.tl (.tl (.two (.tl (.two (.loop ⟨[(8,.di)],[],[3,6,7]⟩ [(.ret,⟨[(2,.di)],[],[]⟩),(.exit 0,⟨[],[],[3]⟩)] .leaf) .leaf)) .leaf)))
noncomputable def JM(lp:Lp)(call:Nat->List D->Option D)(a0:D):Option D:=
(D.asSl a0).bind fun l1=>
(lp (β:=Nat×List D) (fun(v2:List D)=>
(D.bin .lss (gx v2 0) (D.int .i64 (l1.length))).bind fun x3=>
(D.truth x3).bind fun b4=>
 if b4 then((D.asSl a0).bind fun l5=>
(D.idx (gx v2 0) (l5.length)).bind fun i6=>
(l5[i6]?).bind fun x7=>
(D.truth (D.bool (!(D.beq x7 (D.int .i64 0))))).bind fun b8=>
 if b8 then(some (Sum.inr (0,[x7]))) else((D.bin .add (gx v2 0) (D.int .i64 1)).bind fun x9=>
 some (Sum.inl [x9]))) else(some (Sum.inr (1,[])))) [(D.int .i64 0)]).bind fun r10=>
 if r10.1=0 then(some (gx r10.2 0)) else(some (D.int .i64 0))
theorem Sl{lp}(hlp:ak lp):ac 52 (m1 (JM lp)):=aV (v:=0) (fn:=Tryz.f237) (ann:=Sz) hlp
noncomputable def Jg(lp:Lp)(call:Nat->List D->Option D)(a0:D)(a1:D):Option D:=
(call 115 [a0]).bind fun r1=>
(call 115 [a1]).bind fun r2=>
(D.truth r1).bind fun b3=>
 if b3 then((D.truth r2).bind fun b4=>
 if b4 then(some (D.int .i64 0)) else(some (D.int .i64 (-1)))) else((D.truth r2).bind fun b5=>
 if b5 then(some (D.int .i64 1)) else((D.bin .lss a0 a1).bind fun x6=>
(D.truth x6).bind fun b7=>
 if b7 then(some (D.int .i64 (-1))) else((D.bin .gtr a0 a1).bind fun x8=>
(D.truth x8).bind fun b9=>
 if b9 then(some (D.int .i64 1)) else(some (D.int .i64 0)))))
theorem Q2{lp}(hlp:ak lp):ac 53 (m2 (Jg lp)):=aT (v:=0) (fn:=Tryz.f238) (ann:=.leaf) hlp
def SW:Ann:=(.tl (.tl (.cut [(.normal,⟨[(2,.sp aw 4098),(3,.dv (Ty.int .u64))],[(4098,.keep aw 2)],[0]⟩)] [0] [4098] .leaf .leaf)))
noncomputable def Jl(lp:Lp)(call:Nat->List D->Option D)(a0:D):Option D:=
(D.conv .u64 a0).bind fun x1=>
((D.bin .lss a0 (D.int .i64 0)).bind fun x2=>
(D.truth x2).bind fun b3=>
 if b3 then((D.un .neg x1).bind fun x4=>
 some (0,[x4])) else(some (0,[x1]))).bind fun(r5:Nat×List D)=>
(D.bin .lss a0 (D.int .i64 0)).bind fun x6=>
(D.conv .u32 (gx r5.2 0)).bind fun x7=>
(D.bin .shr (gx r5.2 0) (D.int .u64 32)).bind fun x8=>
(D.conv .u32 x8).bind fun x9=>
(call 116 [x6,(D.st (D.putParts (List.replicate 16 (D.int .u32 0)) [(0,x7),(1,x9)]))]).bind fun r10=>
 some r10
theorem Q5{lp}(hlp:ak lp):ac 54 (m1 (Jl lp)):=aV (v:=0) (fn:=Tryz.f83) (ann:=SW) hlp
def Tx:Ann:=(.tl (.tl (.tl (.two (.tl (.two (.two (.reg [] 8) .leaf) .leaf)) (.two (.reg [] 8) .leaf)))))
noncomputable def JY(lp:Lp)(call:Nat->List D->Option D)(a0:D)(a1:D):Option D:=
(call 118 [(D.sl [a0,a1])]).bind fun r1=>
(D.un .not r1).bind fun x2=>
(D.truth x2).bind fun b3=>
 if b3 then((call 119 []).bind fun r4=>
 some r4) else((D.get a0 [1]).bind fun x5=>
(D.get a1 [1]).bind fun x6=>
(D.truth (D.bool (D.beq x5 x6))).bind fun b7=>
 if b7 then((D.get a0 [2]).bind fun x8=>
(D.get a1 [2]).bind fun x9=>
(call 120 [x8,x9]).bind fun r10=>
(D.tupAt r10 0).bind fun x11=>
(D.tupAt r10 1).bind fun x12=>
(D.un .not x12).bind fun x13=>
(D.truth x13).bind fun b14=>
 if b14 then((call 119 []).bind fun r15=>
 some r15) else((D.get a0 [1]).bind fun x16=>
(call 116 [x16,x11]).bind fun r17=>
 some r17)) else((D.get a0 [2]).bind fun x18=>
(D.get a1 [2]).bind fun x19=>
(call 121 [x18,x19]).bind fun r20=>
(D.bin .geq r20 (D.int .i64 0)).bind fun x21=>
(D.truth x21).bind fun b22=>
 if b22 then((D.get a0 [1]).bind fun x23=>
(D.get a0 [2]).bind fun x24=>
(D.get a1 [2]).bind fun x25=>
(call 122 [x24,x25]).bind fun r26=>
(call 116 [x23,r26]).bind fun r27=>
 some r27) else((D.get a1 [1]).bind fun x28=>
(D.get a1 [2]).bind fun x29=>
(D.get a0 [2]).bind fun x30=>
(call 122 [x29,x30]).bind fun r31=>
(call 116 [x28,r31]).bind fun r32=>
 some r32)))
theorem SR{lp}(hlp:ak lp):ac 57 (m2 (JY lp)):=aT (v:=0) (fn:=Tryz.f104) (ann:=Tx) hlp
def SD:Ann:=(.tl (.tl (.tl (.tl (.tl (.tl (.tl (.two (.tl (.two (.two (.reg [] 6) .leaf) .leaf)) (.tl (.two (.tl (.two (.two (.reg [] 6) .leaf) .leaf)) (.two (.reg [] 6) .leaf)))))))))))
noncomputable def HL(lp:Lp)(call:Nat->List D->Option D)(a0:D)(a1:D):Option D:=
(call 124 [a0]).bind fun r1=>
(D.tupAt r1 0).bind fun x2=>
(D.tupAt r1 1).bind fun x3=>
(call 124 [a1]).bind fun r4=>
(D.tupAt r4 0).bind fun x5=>
(D.tupAt r4 1).bind fun x6=>
(D.truth x3).bind fun b7=>
(if b7 then(D.truth x6) else(some false)).bind fun b8=>
(D.truth (D.bool b8)).bind fun b9=>
 if b9 then((D.bin .add x2 x5).bind fun x10=>
(call 34 [x10]).bind fun r11=>
 some r11) else((call 76 [a0]).bind fun r12=>
(D.un .not r12).bind fun x13=>
(D.truth x13).bind fun b14=>
(if b14 then(some true) else((call 76 [a1]).bind fun r15=>
(D.un .not r15).bind fun x16=>
 D.truth x16)).bind fun b17=>
(D.truth (D.bool b17)).bind fun b18=>
 if b18 then((call 125 []).bind fun r19=>
 some r19) else((call 77 [a0]).bind fun r20=>
(call 77 [a1]).bind fun r21=>
(D.get a0 [1]).bind fun x22=>
(D.get a1 [1]).bind fun x23=>
(D.truth (D.bool (D.beq x22 x23))).bind fun b24=>
 if b24 then((D.get a0 [1]).bind fun x25=>
(call 82 [r20,r21]).bind fun r26=>
(call 81 [x25,r26]).bind fun r27=>
 some r27) else((call 78 [r20,r21]).bind fun r28=>
(D.truth r28).bind fun b29=>
 if b29 then((D.get a1 [1]).bind fun x30=>
(call 126 [r21,r20]).bind fun r31=>
(call 81 [x30,r31]).bind fun r32=>
 some r32) else((D.get a0 [1]).bind fun x33=>
(call 126 [r20,r21]).bind fun r34=>
(call 81 [x33,r34]).bind fun r35=>
 some r35))))
theorem Q8{lp}(hlp:ak lp):ac 59 (m2 (HL lp)):=aT (v:=0) (fn:=Tryz.f77) (ann:=SD) hlp
def SC:Ann:=(.tl (.tl (.tl (.two (.reg [] 7) (.two (.tl (.two (.loop ⟨[(2,.sp aw 4098),(3,.sp aw 4099),(4,.sp aw 4100),(5,.sp xS 12293),(24,.di)],[(4098,.keep aw 2),(4099,.keep aw 3),(4100,.keep aw 4),(12293,.one xS (.dv xS))],[7,23]⟩ [(.exit 0,⟨[(2,.sp aw 4098),(3,.sp aw 4099),(4,.sp aw 4100),(5,.sp xS 12293)],[(4098,.keep aw 2),(4099,.keep aw 3),(4100,.keep aw 4),(12293,.one xS (.dv xS))],[]⟩)] (.tl (.tl (.two (.two (.tl (.tl (.two (.tl (.two (.loop ⟨[(2,.sp aw 4098),(3,.sp aw 4099),(4,.sp aw 4100),(5,.sp xS 12293),(9,.dv (Ty.int .u64)),(28,.di)],[(4098,.keep aw 2),(4099,.keep aw 3),(4100,.keep aw 4),(12293,.one xS (.dv xS))],[7,8,23,24,27]⟩ [(.exit 2,⟨[(2,.sp aw 4098),(3,.sp aw 4099),(4,.sp aw 4100),(5,.sp xS 12293),(9,.dv (Ty.int .u64))],[(4098,.keep aw 2),(4099,.keep aw 3),(4100,.keep aw 4),(12293,.one xS (.dv xS))],[7,8,23,24]⟩)] (.tl (.tl (.two (.two (.tl (.two (.reg [] 20) .leaf)) .leaf) .leaf)))) .leaf)) .leaf))) .leaf) .leaf)))) .leaf)) (.tl (.two (.reg [] 9) .leaf)))))))
noncomputable def Jt(lp:Lp)(call:Nat->List D->Option D)(a0:D)(a1:D):Option D:=
(call 118 [(D.sl [a0,a1])]).bind fun r1=>
(D.un .not r1).bind fun x2=>
(D.truth x2).bind fun b3=>
 if b3 then((call 119 []).bind fun r4=>
 some r4) else((D.get a0 [2]).bind fun x5=>
(call 127 [x5]).bind fun r6=>
(D.get a1 [2]).bind fun x7=>
(call 127 [x7]).bind fun r8=>
(lp (β:=Nat×List D) (fun(v9:List D)=>
(D.bin .lss (gx v9 0) r6).bind fun x10=>
(D.truth x10).bind fun b11=>
 if b11 then((lp (β:=Nat×List D) (fun(v12:List D)=>
(D.bin .lss (gx v12 1) r8).bind fun x13=>
(D.truth x13).bind fun b14=>
 if b14 then((D.idx (gx v9 0) 16).bind fun i15=>
(D.get a0 [2,i15]).bind fun x16=>
(D.conv .u64 x16).bind fun x17=>
(D.idx (gx v12 1) 16).bind fun i18=>
(D.get a1 [2,i18]).bind fun x19=>
(D.conv .u64 x19).bind fun x20=>
(D.bin .mul x17 x20).bind fun x21=>
(D.bin .add (gx v9 0) (gx v12 1)).bind fun x22=>
(D.idx x22 32).bind fun wM=>
(D.get (gx v12 2) [wM]).bind fun x24=>
(D.conv .u64 x24).bind fun x25=>
(D.bin .add x21 x25).bind fun x26=>
(D.bin .add (gx v12 0) x26).bind fun x27=>
(D.bin .add (gx v9 0) (gx v12 1)).bind fun x28=>
(D.conv .u32 x27).bind fun x29=>
(D.idx x28 32).bind fun i30=>
(D.set (gx v12 2) [i30] x29).bind fun x31=>
(D.bin .shr x27 (D.int .u64 32)).bind fun x32=>
(D.bin .add (gx v12 1) (D.int .i64 1)).bind fun x33=>
 some (Sum.inl [x32,x33,x31])) else(some (Sum.inr (0,[(gx v12 0),(gx v12 2)])))) [(D.int .u64 0),(D.int .i64 0),(gx v9 1)]).bind fun r34=>
(D.bin .add (gx v9 0) r8).bind fun x35=>
(D.conv .u32 (gx r34.2 0)).bind fun x36=>
(D.idx x35 32).bind fun i37=>
(D.set (gx r34.2 1) [i37] x36).bind fun x38=>
(D.bin .add (gx v9 0) (D.int .i64 1)).bind fun x39=>
 some (Sum.inl [x39,x38])) else(some (Sum.inr (0,[(gx v9 1)])))) [(D.int .i64 0),(aS xS)]).bind fun r40=>
(match (gx r40.2 0) with
| D.st l41=>(if decide (16+16<=l41.length) then((D.truth (D.bool (!(D.beq (D.st (List.take 16 (List.drop 16 l41))) (D.st (D.putParts (List.replicate 16 (D.int .u32 0)) [])))))).bind fun b42=>
 if b42 then((call 119 []).bind fun r43=>
 some r43) else((D.get a0 [1]).bind fun x44=>
(D.get a1 [1]).bind fun x45=>
(match (gx r40.2 0) with
| D.st l46=>(if decide (0+16<=l46.length) then((call 116 [(D.bool (!(D.beq x44 x45))),(D.st (List.take 16 (List.drop 0 l46)))]).bind fun r47=>
 some r47) else none)
| _=>none))) else none)
| _=>none))
theorem S4{lp}(hlp:ak lp):ac 61 (m2 (Jt lp)):=aT (v:=0) (fn:=Tryz.f93) (ann:=SC) hlp
def Tr:Ann:=(.tl (.tl (.tl (.cut [(.normal,⟨[(2,.sp aw 4098),(3,.sp aw 4099),(4,.sp aK 4100),(5,.sp aw 12293)],[(4098,.keep aw 2),(4099,.keep aw 3),(4100,.keep aK 4),(12293,.one aw (.dv aw))],[]⟩)] [] [4098,4099,4100] .leaf (.two (.reg [] 7) .leaf)))))
noncomputable def JG(lp:Lp)(call:Nat->List D->Option D)(a0:D)(a1:D):Option D:=
(call 128 [a0]).bind fun r1=>
(D.un .not r1).bind fun x2=>
(D.truth x2).bind fun b3=>
(if b3 then(some true) else((call 128 [a1]).bind fun r4=>
(D.un .not r4).bind fun x5=>
 D.truth x5)).bind fun b6=>
(D.truth (D.bool b6)).bind fun b7=>
(if b7 then(some true) else((call 129 [a1]).bind fun r8=>
 D.truth (D.bool (D.beq r8 (D.int .i64 0))))).bind fun b9=>
(D.truth (D.bool b9)).bind fun b10=>
 if b10 then((call 130 []).bind fun r11=>
 some r11) else((call 131 [a0,a1]).bind fun r12=>
((call 129 [a1]).bind fun r13=>
(D.bin .lss r13 (D.int .i64 0)).bind fun x14=>
(D.truth x14).bind fun b15=>
 if b15 then((call 68 [r12]).bind fun r16=>
 some (0,[r16])) else(some (0,[r12]))).bind fun(r17:Nat×List D)=>
(call 132 [a0,(gx r17.2 0)]).bind fun r18=>
(call 132 [a1,(gx r17.2 0)]).bind fun r19=>
 some (D.st [r18,r19]))
theorem Te{lp}(hlp:ak lp):ac 62 (m2 (JG lp)):=aT (v:=0) (fn:=Tryz.f92) (ann:=Tr) hlp
noncomputable def JC(lp:Lp)(call:Nat->List D->Option D)(a0:D):Option D:=
(call 118 [(D.sl [a0])]).bind fun r1=>
(D.un .not r1).bind fun x2=>
(D.truth x2).bind fun b3=>
 if b3 then((call 119 []).bind fun r4=>
 some r4) else((D.get a0 [1]).bind fun x5=>
(D.un .not x5).bind fun x6=>
(D.get a0 [2]).bind fun x7=>
(call 116 [x6,x7]).bind fun r8=>
 some r8)
theorem S8{lp}(hlp:ak lp):ac 68 (m1 (JC lp)):=aV (v:=0) (fn:=Tryz.f136) (ann:=.leaf) hlp
def QV:Ann:=(.tl (.tl (.two (.reg [] 6) .leaf)))
noncomputable def JJ(lp:Lp)(call:Nat->List D->Option D)(a0:D):Option D:=
(call 88 [a0]).bind fun r1=>
(D.un .not r1).bind fun x2=>
(D.truth x2).bind fun b3=>
 if b3 then((call 84 []).bind fun r4=>
 some r4) else((D.get a0 [0]).bind fun x5=>
(call 86 [x5]).bind fun r6=>
(D.get a0 [1]).bind fun x7=>
 some (D.st [r6,x7]))
theorem RC{lp}(hlp:ak lp):ac 70 (m1 (JJ lp)):=aV (v:=0) (fn:=Tryz.f71) (ann:=QV) hlp
def QA:Ann:=(.tl (.two (.reg [] 4) .leaf))
theorem SK{lp}(hlp:ak lp):ac 72 (cn 0 lp 72 Tryz.f109 QA):=bc hlp (by kernel_rfl) (by kernel_rfl)
def SU:Ann:=(.tl (.two (.reg [] 5) (.tl (.tl (.tl (.two (.two (.loop ⟨[(2,.sp aK 4098),(3,.sp aK 4099),(7,.di)],[(4098,.one aK (.dv aK)),(4099,.one aK (.dv aK))],[]⟩ [(.exit 1,⟨[(7,.di)],[],[]⟩)] (.two (.two (.two (.reg [] 11) .leaf) (.two (.reg [] 16) (.two (.reg [] 7) .leaf))) .leaf)) .leaf) .leaf))))))
noncomputable def J2(lp:Lp)(call:Nat->List D->Option D)(a0:D)(a1:D):Option D:=
(call 136 [a0]).bind fun r1=>
(call 136 [a1]).bind fun r2=>
(D.un .not r1).bind fun x3=>
(D.truth x3).bind fun b4=>
(if b4 then((D.un .not r2).bind fun x5=>
 D.truth x5) else(some false)).bind fun b6=>
(D.truth (D.bool b6)).bind fun b7=>
 if b7 then(some (D.int .i64 0)) else((D.un .not r1).bind fun x8=>
(D.truth x8).bind fun b9=>
 if b9 then(some (D.int .i64 (-1))) else((D.un .not r2).bind fun x10=>
(D.truth x10).bind fun b11=>
 if b11 then(some (D.int .i64 1)) else((lp (β:=Nat×List D) (fun(v12:List D)=>
(D.get (gx v12 1) [0]).bind fun x13=>
(D.get (gx v12 1) [1]).bind fun x14=>
(call 132 [x13,x14]).bind fun r15=>
(D.get (gx v12 2) [0]).bind fun x16=>
(D.get (gx v12 2) [1]).bind fun x17=>
(call 132 [x16,x17]).bind fun r18=>
(call 90 [r15,r18]).bind fun r19=>
(D.truth (D.bool (!(D.beq r19 (D.int .i64 0))))).bind fun b20=>
 if b20 then((D.bin .mul (gx v12 0) r19).bind fun x21=>
 some (Sum.inr (0,[x21]))) else((D.get (gx v12 1) [1]).bind fun x22=>
(D.get (gx v12 1) [0]).bind fun x23=>
(D.get (gx v12 1) [1]).bind fun x24=>
(call 137 [x23,x24]).bind fun r25=>
(D.get (gx v12 2) [1]).bind fun x26=>
(D.get (gx v12 2) [0]).bind fun x27=>
(D.get (gx v12 2) [1]).bind fun x28=>
(call 137 [x27,x28]).bind fun r29=>
(call 129 [r25]).bind fun r30=>
(call 129 [r29]).bind fun r31=>
(D.truth (D.bool (D.beq r30 (D.int .i64 0)))).bind fun b32=>
(if b32 then(some true) else(D.truth (D.bool (D.beq r31 (D.int .i64 0))))).bind fun b33=>
(D.truth (D.bool b33)).bind fun b34=>
 if b34 then((D.bin .sub r30 r31).bind fun x35=>
(D.bin .mul (gx v12 0) x35).bind fun x36=>
 some (Sum.inr (0,[x36]))) else((D.un .neg (gx v12 0)).bind fun x37=>
 some (Sum.inl [x37,(D.st [x22,r25]),(D.st [x26,r29])])))) [(D.int .i64 1),a0,a1]).bind fun r38=>
 some (gx r38.2 0))))
theorem SF{lp}(hlp:ak lp):ac 73 (m2 (J2 lp)):=aT (v:=0) (fn:=Tryz.f105) (ann:=SU) hlp
noncomputable def JZ(lp:Lp)(call:Nat->List D->Option D)(a0:D):Option D:=
(call 54 [a0]).bind fun r1=>
(call 138 [r1]).bind fun r2=>
 some r2
theorem Td{lp}(hlp:ak lp):ac 74 (m1 (JZ lp)):=aV (v:=0) (fn:=Tryz.f41) (ann:=.leaf) hlp
theorem Rm{lp}(hlp:ak lp):ac 75 (cn 0 lp 75 Tryz.f29 .leaf):=bc hlp (by kernel_rfl) (by kernel_rfl)
noncomputable def JF(lp:Lp)(call:Nat->List D->Option D)(a0:D):Option D:=
(call 139 [a0]).bind fun r1=>
(D.truth r1).bind fun b2=>
(if b2 then((D.get a0 [0]).bind fun x3=>
(D.un .not x3).bind fun x4=>
 D.truth x4) else(some false)).bind fun b5=>
 some (D.bool b5)
theorem Tf{lp}(hlp:ak lp):ac 76 (m1 (JF lp)):=aV (v:=0) (fn:=Tryz.f114) (ann:=.leaf) hlp
def Rl:Ann:=(.tl (.tl (.two (.tl (.two (.loop ⟨[(1,.sp aw 4097),(3,.ow Ti),(4,.di)],[(4097,.keep aw 1)],[]⟩ [(.exit 0,⟨[(3,.ow Ti)],[],[]⟩)] (.tl (.two (.two (.reg [] 14) .leaf) .leaf))) .leaf)) .leaf)))
noncomputable def JT(lp:Lp)(call:Nat->List D->Option D)(a0:D):Option D:=
(lp (β:=Nat×List D) (fun(v1:List D)=>
(D.bin .lss (gx v1 1) (D.int .i64 16)).bind fun x2=>
(D.truth x2).bind fun b3=>
 if b3 then((D.idx (gx v1 1) 16).bind fun i4=>
(D.get a0 [2,i4]).bind fun x5=>
(D.bin .rem x5 (D.int .u32 65536)).bind fun x6=>
(D.conv .i64 x6).bind fun x7=>
(D.idx (gx v1 1) 16).bind fun i8=>
(D.get a0 [2,i8]).bind fun x9=>
(D.bin .quo x9 (D.int .u32 65536)).bind fun x10=>
(D.conv .i64 x10).bind fun x11=>
 if List.length ((gx v1 0).els)+List.length [x7,x11]<=1073741824 then((D.bin .add (gx v1 1) (D.int .i64 1)).bind fun x12=>
 some (Sum.inl [(D.sl (((gx v1 0).els)++[x7,x11])),x12])) else none) else(some (Sum.inr (0,[(D.sl ((gx v1 0).els))])))) [(D.sl []),(D.int .i64 0)]).bind fun r13=>
(call 140 [(D.sl ((gx r13.2 0).els))]).bind fun r14=>
 some r14
theorem Rf{lp}(hlp:ak lp):ac 77 (m1 (JT lp)):=aV (v:=0) (fn:=Tryz.f115) (ann:=Rl) hlp
def SL:Ann:=(.tl (.two (.tl (.two (.loop ⟨[(5,.di)],[],[0,1]⟩ [(.ret,⟨[(4,.dv Ty.bool)],[],[]⟩),(.exit 0,⟨[],[],[]⟩)] .leaf) .leaf)) .leaf))
noncomputable def Js(lp:Lp)(call:Nat->List D->Option D)(a0:D)(a1:D):Option D:=
(D.asSl a0).bind fun l1=>
(D.asSl a1).bind fun l2=>
(D.max2 (D.int .i64 (l1.length)) (D.int .i64 (l2.length))).bind fun x3=>
(D.bin .sub x3 (D.int .i64 1)).bind fun x4=>
(lp (β:=Nat×List D) (fun(v5:List D)=>
(D.bin .geq (gx v5 0) (D.int .i64 0)).bind fun x6=>
(D.truth x6).bind fun b7=>
 if b7 then((call 141 [a0,(gx v5 0)]).bind fun r8=>
(call 141 [a1,(gx v5 0)]).bind fun r9=>
(D.truth (D.bool (!(D.beq r8 r9)))).bind fun b10=>
 if b10 then((call 141 [a0,(gx v5 0)]).bind fun r11=>
(call 141 [a1,(gx v5 0)]).bind fun r12=>
(D.bin .lss r11 r12).bind fun x13=>
 some (Sum.inr (0,[x13]))) else((D.bin .sub (gx v5 0) (D.int .i64 1)).bind fun x14=>
 some (Sum.inl [x14]))) else(some (Sum.inr (1,[])))) [x4]).bind fun r15=>
 if r15.1=0 then(some (gx r15.2 0)) else(some (D.bool false))
theorem Sv{lp}(hlp:ak lp):ac 78 (m2 (Js lp)):=aT (v:=0) (fn:=Tryz.f122) (ann:=SL) hlp
def Sq:Ann:=(.tl (.tl (.two (.reg [] 7) (.two (.reg [] 7) .leaf))))
noncomputable def Jk(lp:Lp)(call:Nat->List D->Option D)(a0:D)(a1:D):Option D:=
(D.get a0 [0]).bind fun x1=>
(D.get a1 [0]).bind fun x2=>
(call 89 [x1,x2]).bind fun r3=>
(D.get a0 [1]).bind fun x4=>
(D.get a1 [1]).bind fun x5=>
(call 89 [x4,x5]).bind fun r6=>
(call 59 [r3,r6]).bind fun r7=>
(D.get a0 [2]).bind fun x8=>
(D.get a1 [2]).bind fun x9=>
(call 89 [x8,x9]).bind fun r10=>
(call 59 [r7,r10]).bind fun r11=>
 some r11
theorem Th{lp}(hlp:ak lp):ac 79 (m2 (Jk lp)):=aT (v:=0) (fn:=Tryz.f217) (ann:=Sq) hlp
def Sr:Ann:=(.tl (.two (.reg [] 10) .leaf))
noncomputable def JU(lp:Lp)(call:Nat->List D->Option D)(a0:D):Option D:=
(D.get a0 [0]).bind fun x1=>
(call 34 [x1]).bind fun r2=>
(D.get a0 [1]).bind fun x3=>
(call 34 [x3]).bind fun r4=>
(D.get a0 [2]).bind fun x5=>
(call 34 [x5]).bind fun r6=>
 some (D.st [r2,r4,r6])
theorem Sa{lp}(hlp:ak lp):ac 80 (m1 (JU lp)):=aV (v:=0) (fn:=Tryz.f209) (ann:=Sr) hlp
def Rk:Ann:=(.tl (.tl (.tl (.tl (.two (.tl (.two (.loop ⟨[(4,.sp aw 4100),(6,.sp aw 16390),(7,.di)],[(4100,.keep aw 4),(16390,.one aw (.dv aw))],[5]⟩ [(.exit 0,⟨[(4,.sp aw 4100),(6,.sp aw 16390)],[(4100,.keep aw 4),(16390,.one aw (.dv aw))],[]⟩)] (.tl (.cut [(.normal,⟨[(4,.sp aw 4100),(6,.sp aw 16390)],[(4100,.keep aw 4),(16390,.one aw (.dv aw))],[5,7]⟩)] [5,7] [4100] (.two (.tl (.two (.reg [] 15) (.reg [] 16))) .leaf) .leaf))) .leaf)) .leaf)))))
noncomputable def H3(lp:Lp)(call:Nat->List D->Option D)(a0:D)(a1:D):Option D:=
(call 140 [a1]).bind fun r1=>
(D.asSl r1).bind fun l2=>
(D.bin .gtr (D.int .i64 (l2.length)) (D.int .i64 32)).bind fun x3=>
(D.truth x3).bind fun b4=>
 if b4 then((call 125 []).bind fun r5=>
 some r5) else((D.truth a0).bind fun b6=>
(if b6 then((D.asSl r1).bind fun l7=>
(D.bin .gtr (D.int .i64 (l7.length)) (D.int .i64 0)).bind fun x8=>
 D.truth x8) else(some false)).bind fun b9=>
(lp (β:=Nat×List D) (fun(v10:List D)=>
(D.asSl r1).bind fun l11=>
(D.bin .lss (gx v10 0) (D.int .i64 (l11.length))).bind fun x12=>
(D.truth x12).bind fun b13=>
 if b13 then(((D.bin .rem (gx v10 0) (D.int .i64 2)).bind fun x14=>
(D.truth (D.bool (D.beq x14 (D.int .i64 0)))).bind fun b15=>
 if b15 then((D.bin .quo (gx v10 0) (D.int .i64 2)).bind fun x16=>
(D.bin .quo (gx v10 0) (D.int .i64 2)).bind fun x17=>
(D.idx x17 16).bind fun i18=>
(D.get (gx v10 1) [2,i18]).bind fun x19=>
(D.asSl r1).bind fun l20=>
(D.idx (gx v10 0) (l20.length)).bind fun i21=>
(l20[i21]?).bind fun x22=>
(D.conv .u32 x22).bind fun x23=>
(D.bin .add x19 x23).bind fun x24=>
(D.idx x16 16).bind fun i25=>
(D.set (gx v10 1) [2,i25] x24).bind fun x26=>
 some (0,[x26])) else((D.bin .quo (gx v10 0) (D.int .i64 2)).bind fun x27=>
(D.bin .quo (gx v10 0) (D.int .i64 2)).bind fun x28=>
(D.idx x28 16).bind fun i29=>
(D.get (gx v10 1) [2,i29]).bind fun x30=>
(D.asSl r1).bind fun l31=>
(D.idx (gx v10 0) (l31.length)).bind fun i32=>
(l31[i32]?).bind fun x33=>
(D.conv .u32 x33).bind fun x34=>
(D.bin .mul x34 (D.int .u32 65536)).bind fun x35=>
(D.bin .add x30 x35).bind fun x36=>
(D.idx x27 16).bind fun i37=>
(D.set (gx v10 1) [2,i37] x36).bind fun x38=>
 some (0,[x38]))).bind fun(r39:Nat×List D)=>
(D.bin .add (gx v10 0) (D.int .i64 1)).bind fun x40=>
 some (Sum.inl [x40,(gx r39.2 0)])) else(some (Sum.inr (0,[(gx v10 1)])))) [(D.int .i64 0),(D.st [(D.bool false),(D.bool b9),(aS aY)])]).bind fun r41=>
 some (gx r41.2 0))
theorem SO{lp}(hlp:ak lp):ac 81 (m2 (H3 lp)):=aT (v:=0) (fn:=Tryz.f119) (ann:=Rk) hlp
def Su:Ann:=(.tl (.tl (.tl (.two (.tl (.two (.loop ⟨[(5,.ow Ti),(6,.di),(7,.di)],[],[0,1]⟩ [(.exit 0,⟨[(5,.ow Ti)],[],[]⟩)] .leaf) .leaf)) .leaf))))
noncomputable def Jx(lp:Lp)(call:Nat->List D->Option D)(a0:D)(a1:D):Option D:=
(lp (β:=Nat×List D) (fun(v1:List D)=>
(D.asSl a0).bind fun l2=>
(D.asSl a1).bind fun l3=>
(D.max2 (D.int .i64 (l2.length)) (D.int .i64 (l3.length))).bind fun x4=>
(D.bin .add x4 (D.int .i64 1)).bind fun x5=>
(D.bin .lss (gx v1 2) x5).bind fun x6=>
(D.truth x6).bind fun b7=>
 if b7 then((call 141 [a0,(gx v1 2)]).bind fun r8=>
(call 141 [a1,(gx v1 2)]).bind fun r9=>
(D.bin .add r8 r9).bind fun x10=>
(D.bin .add x10 (gx v1 1)).bind fun x11=>
(D.bin .rem x11 (D.int .i64 65536)).bind fun x12=>
 if List.length ((gx v1 0).els)+List.length [x12]<=1073741824 then((D.bin .quo x11 (D.int .i64 65536)).bind fun x13=>
(D.bin .add (gx v1 2) (D.int .i64 1)).bind fun x14=>
 some (Sum.inl [(D.sl (((gx v1 0).els)++[x12])),x13,x14])) else none) else(some (Sum.inr (0,[(D.sl ((gx v1 0).els))])))) [(D.sl []),(D.int .i64 0),(D.int .i64 0)]).bind fun r15=>
(call 140 [(D.sl ((gx r15.2 0).els))]).bind fun r16=>
 some r16
theorem Si{lp}(hlp:ak lp):ac 82 (m2 (Jx lp)):=aT (v:=0) (fn:=Tryz.f121) (ann:=Su) hlp
end Sy
end
section
set_option maxHeartbeats 0
namespace Sy
open Go Go.Proofs
noncomputable def Ju(lp:Lp)(call:Nat->List D->Option D)(a0:D):Option D:=
(call 76 [a0]).bind fun r1=>
(D.un .not r1).bind fun x2=>
(D.truth x2).bind fun b3=>
(if b3 then(some true) else((call 77 [a0]).bind fun r4=>
(D.asSl r4).bind fun l5=>
 D.truth (D.bool (D.beq (D.int .i64 (l5.length)) (D.int .i64 0))))).bind fun b6=>
(D.truth (D.bool b6)).bind fun b7=>
 if b7 then(some (D.int .i64 0)) else((D.get a0 [1]).bind fun x8=>
(D.truth x8).bind fun b9=>
 if b9 then(some (D.int .i64 (-1))) else(some (D.int .i64 1)))
theorem RO{lp}(hlp:ak lp):ac 83 (m1 (Ju lp)):=aV (v:=0) (fn:=Tryz.f66) (ann:=.leaf) hlp
theorem Ru{lp}(hlp:ak lp):ac 84 (cn 0 lp 84 Tryz.f50 .leaf):=bc hlp (by kernel_rfl) (by kernel_rfl)
def RK:Ann:=(.tl (.tl (.tl (.two (.tl (.two (.two (.two (.loop ⟨[(4,.sp aw 4100),(5,.di),(7,.di)],[(4100,.keep aw 4)],[]⟩ [(.exit 0,⟨[(4,.sp aw 4100),(5,.di)],[(4100,.keep aw 4)],[]⟩)] .leaf) .leaf) .leaf) .leaf)) (.tl (.tl (.tl (.two (.two (.loop ⟨[(4,.sp aw 4100),(10,.dv K5),(11,.dv K5)],[(4100,.keep aw 4)],[]⟩ [(.exit 2,⟨[(4,.sp aw 4100),(10,.dv K5)],[(4100,.keep aw 4)],[]⟩)] .leaf) .leaf) .leaf))))))))
noncomputable def Je(lp:Lp)(call:Nat->List D->Option D)(a0:D)(a1:D):Option D:=
(call 124 [a0]).bind fun r1=>
(D.tupAt r1 0).bind fun x2=>
(D.tupAt r1 1).bind fun x3=>
(call 124 [a1]).bind fun r4=>
(D.tupAt r4 0).bind fun x5=>
(D.tupAt r4 1).bind fun x6=>
(D.truth x3).bind fun b7=>
(if b7 then(D.truth x6) else(some false)).bind fun b8=>
(D.truth (D.bool b8)).bind fun b9=>
 if b9 then((lp (β:=Nat×List D) (fun(v10:List D)=>
(D.truth (D.bool (!(D.beq (gx v10 1) (D.int .i64 0))))).bind fun b11=>
 if b11 then((D.bin .rem (gx v10 0) (gx v10 1)).bind fun x12=>
 some (Sum.inl [(gx v10 1),x12])) else(some (Sum.inr (0,[(gx v10 0)])))) [x2,x5]).bind fun r13=>
(call 34 [(gx r13.2 0)]).bind fun r14=>
(call 142 [r14]).bind fun r15=>
 some r15) else((call 76 [a0]).bind fun r16=>
(D.un .not r16).bind fun x17=>
(D.truth x17).bind fun b18=>
(if b18 then(some true) else((call 76 [a1]).bind fun r19=>
(D.un .not r19).bind fun x20=>
 D.truth x20)).bind fun b21=>
(D.truth (D.bool b21)).bind fun b22=>
 if b22 then((call 125 []).bind fun r23=>
 some r23) else((call 77 [a0]).bind fun r24=>
(call 77 [a1]).bind fun r25=>
(lp (β:=Nat×List D) (fun(v26:List D)=>
(D.asSl (gx v26 1)).bind fun l27=>
(D.bin .gtr (D.int .i64 (l27.length)) (D.int .i64 0)).bind fun x28=>
(D.truth x28).bind fun b29=>
 if b29 then((call 143 [(gx v26 0),(gx v26 1)]).bind fun r30=>
(D.tupAt r30 0).bind fun x31=>
(D.tupAt r30 1).bind fun x32=>
 some (Sum.inl [(gx v26 1),x32])) else(some (Sum.inr (0,[(gx v26 0)])))) [r24,r25]).bind fun r33=>
(call 81 [(D.bool false),(gx r33.2 0)]).bind fun r34=>
 some r34))
theorem Rg{lp}(hlp:ak lp):ac 85 (m2 (Je lp)):=aT (v:=0) (fn:=Tryz.f76) (ann:=RK) hlp
def RR:Ann:=(.tl (.tl (.two (.reg [] 6) .leaf)))
noncomputable def JQ(lp:Lp)(call:Nat->List D->Option D)(a0:D):Option D:=
(call 76 [a0]).bind fun r1=>
(D.un .not r1).bind fun x2=>
(D.truth x2).bind fun b3=>
 if b3 then((call 125 []).bind fun r4=>
 some r4) else((D.get a0 [1]).bind fun x5=>
(D.un .not x5).bind fun x6=>
(call 77 [a0]).bind fun r7=>
(call 81 [x6,r7]).bind fun r8=>
 some r8)
theorem Ta{lp}(hlp:ak lp):ac 86 (m1 (JQ lp)):=aV (v:=0) (fn:=Tryz.f116) (ann:=RR) hlp
def QW:Ann:=(.tl (.tl (.tl (.tl (.tl (.two (.reg [] 9) (.cut [(.normal,⟨[(2,.sp aw 4098),(3,.sp aw 4099),(4,.sp aw 4100),(9,.dv K5)],[(4098,.keep aw 2),(4099,.keep aw 3),(4100,.keep aw 4)],[]⟩)] [] [4098,4099,4100] .leaf .leaf)))))))
noncomputable def HW(lp:Lp)(call:Nat->List D->Option D)(a0:D)(a1:D):Option D:=
(call 124 [a0]).bind fun r1=>
(D.tupAt r1 0).bind fun x2=>
(D.tupAt r1 1).bind fun x3=>
(call 124 [a1]).bind fun r4=>
(D.tupAt r4 0).bind fun x5=>
(D.tupAt r4 1).bind fun x6=>
(D.truth x3).bind fun b7=>
(if b7 then(D.truth x6) else(some false)).bind fun b8=>
(D.truth (D.bool b8)).bind fun b9=>
(if b9 then(D.truth (D.bool (!(D.beq x5 (D.int .i64 0))))) else(some false)).bind fun b10=>
(D.truth (D.bool b10)).bind fun b11=>
 if b11 then((call 144 [x2,x5]).bind fun r12=>
(call 34 [r12]).bind fun r13=>
 some r13) else((call 76 [a0]).bind fun r14=>
(D.un .not r14).bind fun x15=>
(D.truth x15).bind fun b16=>
(if b16 then(some true) else((call 76 [a1]).bind fun r17=>
(D.un .not r17).bind fun x18=>
 D.truth x18)).bind fun b19=>
(D.truth (D.bool b19)).bind fun b20=>
(if b20 then(some true) else((call 77 [a1]).bind fun r21=>
(D.asSl r21).bind fun l22=>
 D.truth (D.bool (D.beq (D.int .i64 (l22.length)) (D.int .i64 0))))).bind fun b23=>
(D.truth (D.bool b23)).bind fun b24=>
 if b24 then((call 125 []).bind fun r25=>
 some r25) else((call 77 [a0]).bind fun r26=>
(call 77 [a1]).bind fun r27=>
(call 143 [r26,r27]).bind fun r28=>
(D.tupAt r28 0).bind fun x29=>
(D.tupAt r28 1).bind fun x30=>
((D.get a0 [1]).bind fun x31=>
(D.get a1 [1]).bind fun x32=>
(D.truth (D.bool (!(D.beq x31 x32)))).bind fun b33=>
(if b33 then((D.asSl x30).bind fun l34=>
(D.bin .gtr (D.int .i64 (l34.length)) (D.int .i64 0)).bind fun x35=>
 D.truth x35) else(some false)).bind fun b36=>
(D.truth (D.bool b36)).bind fun b37=>
 if b37 then((call 82 [x29,(D.sl [(D.int .i64 1)])]).bind fun r38=>
 some (0,[r38])) else(some (0,[x29]))).bind fun(r39:Nat×List D)=>
(D.get a0 [1]).bind fun x40=>
(D.get a1 [1]).bind fun x41=>
(call 81 [(D.bool (!(D.beq x40 x41))),(gx r39.2 0)]).bind fun r42=>
 some r42))
theorem Tu{lp}(hlp:ak lp):ac 87 (m2 (HW lp)):=aT (v:=0) (fn:=Tryz.f74) (ann:=QW) hlp
noncomputable def JL(lp:Lp)(call:Nat->List D->Option D)(a0:D):Option D:=
(D.get a0 [0]).bind fun x1=>
(call 76 [x1]).bind fun r2=>
(D.un .not r2).bind fun x3=>
(D.truth x3).bind fun b4=>
(if b4 then(some true) else((D.get a0 [1]).bind fun x5=>
(call 76 [x5]).bind fun r6=>
(D.un .not r6).bind fun x7=>
 D.truth x7)).bind fun b8=>
(D.truth (D.bool b8)).bind fun b9=>
 if b9 then(some (D.bool false)) else((D.get a0 [1]).bind fun x10=>
(call 83 [x10]).bind fun r11=>
(D.bin .gtr r11 (D.int .i64 0)).bind fun x12=>
(D.truth x12).bind fun b13=>
(if b13 then((D.get a0 [0]).bind fun x14=>
(D.get a0 [1]).bind fun x15=>
(call 85 [x14,x15]).bind fun r16=>
(call 133 []).bind fun r17=>
 D.truth (D.bool (D.beq r16 r17))) else(some false)).bind fun b18=>
 some (D.bool b18))
theorem Tp{lp}(hlp:ak lp):ac 88 (m1 (JL lp)):=aV (v:=0) (fn:=Tryz.f65) (ann:=.leaf) hlp
def SN:Ann:=(.tl (.tl (.tl (.tl (.tl (.two (.reg [] 11) .leaf))))))
noncomputable def H0(lp:Lp)(call:Nat->List D->Option D)(a0:D)(a1:D):Option D:=
(call 124 [a0]).bind fun r1=>
(D.tupAt r1 0).bind fun x2=>
(D.tupAt r1 1).bind fun x3=>
(call 124 [a1]).bind fun r4=>
(D.tupAt r4 0).bind fun x5=>
(D.tupAt r4 1).bind fun x6=>
(D.truth x3).bind fun b7=>
(if b7 then(D.truth x6) else(some false)).bind fun b8=>
(D.truth (D.bool b8)).bind fun b9=>
(if b9 then((call 145 [x2]).bind fun r10=>
 D.truth r10) else(some false)).bind fun b11=>
(D.truth (D.bool b11)).bind fun b12=>
(if b12 then((call 145 [x5]).bind fun r13=>
 D.truth r13) else(some false)).bind fun b14=>
(D.truth (D.bool b14)).bind fun b15=>
 if b15 then((D.bin .mul x2 x5).bind fun x16=>
(call 34 [x16]).bind fun r17=>
 some r17) else((call 76 [a0]).bind fun r18=>
(D.un .not r18).bind fun x19=>
(D.truth x19).bind fun b20=>
(if b20 then(some true) else((call 76 [a1]).bind fun r21=>
(D.un .not r21).bind fun x22=>
 D.truth x22)).bind fun b23=>
(D.truth (D.bool b23)).bind fun b24=>
 if b24 then((call 125 []).bind fun r25=>
 some r25) else((D.get a0 [1]).bind fun x26=>
(D.get a1 [1]).bind fun x27=>
(call 77 [a0]).bind fun r28=>
(call 77 [a1]).bind fun r29=>
(call 146 [r28,r29]).bind fun r30=>
(call 81 [(D.bool (!(D.beq x26 x27))),r30]).bind fun r31=>
 some r31))
theorem S6{lp}(hlp:ak lp):ac 89 (m2 (H0 lp)):=aT (v:=0) (fn:=Tryz.f68) (ann:=SN) hlp
def Ra:Ann:=(.tl (.two (.reg [] 7) .leaf))
noncomputable def Jz(lp:Lp)(call:Nat->List D->Option D)(a0:D)(a1:D):Option D:=
(call 118 [(D.sl [a0])]).bind fun r1=>
(call 118 [(D.sl [a1])]).bind fun r2=>
(D.un .not r1).bind fun x3=>
(D.truth x3).bind fun b4=>
(if b4 then((D.un .not r2).bind fun x5=>
 D.truth x5) else(some false)).bind fun b6=>
(D.truth (D.bool b6)).bind fun b7=>
 if b7 then(some (D.int .i64 0)) else((D.un .not r1).bind fun x8=>
(D.truth x8).bind fun b9=>
 if b9 then(some (D.int .i64 (-1))) else((D.un .not r2).bind fun x10=>
(D.truth x10).bind fun b11=>
 if b11 then(some (D.int .i64 1)) else((D.get a0 [1]).bind fun x12=>
(D.get a1 [1]).bind fun x13=>
(D.truth (D.bool (!(D.beq x12 x13)))).bind fun b14=>
 if b14 then((D.get a0 [1]).bind fun x15=>
(D.truth x15).bind fun b16=>
 if b16 then(some (D.int .i64 (-1))) else(some (D.int .i64 1))) else((D.get a0 [1]).bind fun x17=>
(D.truth x17).bind fun b18=>
 if b18 then((D.get a1 [2]).bind fun x19=>
(D.get a0 [2]).bind fun x20=>
(call 121 [x19,x20]).bind fun r21=>
 some r21) else((D.get a0 [2]).bind fun x22=>
(D.get a1 [2]).bind fun x23=>
(call 121 [x22,x23]).bind fun r24=>
 some r24)))))
theorem TA{lp}(hlp:ak lp):ac 90 (m2 (Jz lp)):=aT (v:=0) (fn:=Tryz.f158) (ann:=Ra) hlp
def QK:Ann:=(.tl (.two (.reg [] 5) .leaf))
theorem SH{lp}(hlp:ak lp):ac 91 (cn 0 lp 91 Tryz.f177 QK):=bc hlp (by kernel_rfl) (by kernel_rfl)
def Tl:Ann:=(.tl (.two (.reg [] 8) (.cut [(.normal,⟨[(3,.sp K1 4099),(6,.sp cN 4102),(7,.sp K1 8199)],[(4099,.keep K1 3),(4102,.keep cN 6),(8199,.one K1 (.dv K1))],[]⟩)] [] [4099,4102] (.two (.reg [] 8) (.tl (.two (.reg [] 13) .leaf))) (.two (.reg [] 5) .leaf))))
noncomputable def JI(lp:Lp)(call:Nat->List D->Option D)(a0:D)(a1:D)(a2:D):Option D:=
(call 103 [a1,a0]).bind fun r1=>
(call 103 [a2,a0]).bind fun r2=>
(call 117 [r1,r2]).bind fun r3=>
((D.get r3 [0]).bind fun x4=>
(D.get r3 [1]).bind fun x5=>
(call 152 [x4,x5]).bind fun r6=>
(D.get r3 [2]).bind fun x7=>
(call 152 [r6,x7]).bind fun r8=>
(D.bin .gtr r8 (D.int .i64 1)).bind fun x9=>
(D.truth x9).bind fun b10=>
 if b10 then((D.get r3 [0]).bind fun x11=>
(D.bin .quo x11 r8).bind fun x12=>
(D.get r3 [1]).bind fun x13=>
(D.bin .quo x13 r8).bind fun x14=>
(D.get r3 [2]).bind fun x15=>
(D.bin .quo x15 r8).bind fun x16=>
 some (0,[(D.st [x12,x14,x16])])) else(some (0,[r3]))).bind fun(r17:Nat×List D)=>
(call 101 [(gx r17.2 0),a0]).bind fun r18=>
 some (D.st [(gx r17.2 0),r18])
theorem SV{lp}(hlp:ak lp):ac 96 (m3 (JI lp)):=kI (v:=0) (fn:=Tryz.f232) (ann:=Tl) hlp
noncomputable def Jh(lp:Lp)(call:Nat->List D->Option D)(a0:D):Option D:=
(D.get a0 [0]).bind fun x1=>
(D.un .neg x1).bind fun x2=>
(D.get a0 [1]).bind fun x3=>
(D.un .neg x3).bind fun x4=>
(D.get a0 [2]).bind fun x5=>
(D.un .neg x5).bind fun x6=>
 some (D.st [x2,x4,x6])
theorem Rr{lp}(hlp:ak lp):ac 97 (m1 (Jh lp)):=aV (v:=0) (fn:=Tryz.f233) (ann:=.leaf) hlp
def Q7:Ann:=(.tl (.tl (.two (.tl (.two (.loop ⟨[(3,.sp cN 4099),(5,.dv Ty.bool),(11,.di)],[(4099,.keep cN 3)],[9,10]⟩ [(.ret,⟨[(4,.dv Ty.bool)],[],[]⟩),(.exit 0,⟨[(5,.dv Ty.bool)],[],[]⟩)] .leaf) .leaf)) .leaf)))
noncomputable def J0(lp:Lp)(call:Nat->List D->Option D)(a0:D)(a1:D):Option D:=
(D.asSl a0).bind fun l1=>
(lp (β:=Nat×List D) (fun(v2:List D)=>
(D.bin .lss (gx v2 1) (D.int .i64 (l1.length))).bind fun x3=>
(D.truth x3).bind fun b4=>
 if b4 then((D.asSl a0).bind fun l5=>
(D.idx (gx v2 1) (l5.length)).bind fun i6=>
(l5[i6]?).bind fun x7=>
(D.get a1 [0]).bind fun x8=>
(call 101 [x8,x7]).bind fun r9=>
(D.get a1 [1]).bind fun x10=>
(D.bin .gtr r9 x10).bind fun x11=>
(D.truth x11).bind fun b12=>
 if b12 then(some (Sum.inr (0,[(D.bool false)]))) else((D.truth (gx v2 0)).bind fun b13=>
(if b13 then((D.get a1 [1]).bind fun x14=>
 D.truth (D.bool (D.beq r9 x14))) else(some false)).bind fun b15=>
(D.bin .add (gx v2 1) (D.int .i64 1)).bind fun x16=>
 some (Sum.inl [(D.bool b15),x16]))) else(some (Sum.inr (1,[(gx v2 0)])))) [(D.bool true),(D.int .i64 0)]).bind fun r17=>
 if r17.1=0 then(some (gx r17.2 0)) else((D.un .not (gx r17.2 0)).bind fun x18=>
 some x18)
theorem Rj{lp}(hlp:ak lp):ac 98 (m2 (J0 lp)):=aT (v:=0) (fn:=Tryz.f234) (ann:=Q7) hlp
def On:Ann:=(.tl (.two (.reg [] 23) .leaf))
noncomputable def Dy(lp:Lp)(call:Nat->List D->Option D)(a0:D)(a1:D):Option D:=
(D.get a0 [0,0]).bind fun x1=>
(D.get a1 [0,0]).bind fun x2=>
(call 53 [x1,x2]).bind fun r3=>
(D.get a0 [0,1]).bind fun x4=>
(D.get a1 [0,1]).bind fun x5=>
(call 53 [x4,x5]).bind fun r6=>
(D.get a0 [0,2]).bind fun x7=>
(D.get a1 [0,2]).bind fun x8=>
(call 53 [x7,x8]).bind fun r9=>
(call 52 [(D.sl [r3,r6,r9])]).bind fun r10=>
 some r10
theorem NR{lp}(hlp:ak lp):ac 100 (m2 (Dy lp)):=aT (v:=0) (fn:=Tryz.f236) (ann:=On) hlp
noncomputable def BC(lp:Lp)(call:Nat->List D->Option D)(a0:D)(a1:D):Option D:=
(D.get a0 [0]).bind fun x1=>
(D.get a1 [0]).bind fun x2=>
(D.bin .mul x1 x2).bind fun x3=>
(D.get a0 [1]).bind fun x4=>
(D.get a1 [1]).bind fun x5=>
(D.bin .mul x4 x5).bind fun x6=>
(D.bin .add x3 x6).bind fun x7=>
(D.get a0 [2]).bind fun x8=>
(D.get a1 [2]).bind fun x9=>
(D.bin .mul x8 x9).bind fun x10=>
(D.bin .add x7 x10).bind fun x11=>
 some x11
theorem Nd{lp}(hlp:ak lp):ac 101 (m2 (BC lp)):=aT (v:=0) (fn:=Tryz.f239) (ann:=.leaf) hlp
def Pm:Ann:=(.tl (.two (.reg [] 4) .leaf))
noncomputable def D0(lp:Lp)(call:Nat->List D->Option D)(a0:D)(a1:D):Option D:=
(call 97 [a1]).bind fun r1=>
(call 154 [a0,r1]).bind fun r2=>
 some r2
theorem LJ{lp}(hlp:ak lp):ac 103 (m2 (D0 lp)):=aT (v:=0) (fn:=Tryz.f241) (ann:=Pm) hlp
def KK:Ann:=(.tl (.tl (.two (.tl (.two (.loop ⟨[(7,.sp K1 8199),(14,.di)],[(8199,.keep K1 7)],[13]⟩ [(.ret,⟨[(6,.di)],[],[]⟩),(.exit 0,⟨[],[],[]⟩)] .leaf) .leaf)) .leaf)))
noncomputable def DK(lp:Lp)(call:Nat->List D->Option D)(a0:D)(a1:D)(a2:D):Option D:=
(call 117 [a1,a2]).bind fun r1=>
(lp (β:=Nat×List D) (fun(v2:List D)=>
(D.bin .lss (gx v2 0) (D.int .i64 3)).bind fun x3=>
(D.truth x3).bind fun b4=>
 if b4 then((D.idx (gx v2 0) 3).bind fun i5=>
(D.fld a0 i5).bind fun x6=>
(D.truth (D.bool (!(D.beq x6 (D.int .i64 0))))).bind fun b7=>
 if b7 then((D.idx (gx v2 0) 3).bind fun i8=>
(D.get r1 [i8]).bind fun x9=>
(call 53 [x9,(D.int .i64 0)]).bind fun r10=>
(call 53 [x6,(D.int .i64 0)]).bind fun r11=>
(D.bin .mul r10 r11).bind fun x12=>
 some (Sum.inr (0,[x12]))) else((D.bin .add (gx v2 0) (D.int .i64 1)).bind fun x13=>
 some (Sum.inl [x13]))) else(some (Sum.inr (1,[])))) [(D.int .i64 0)]).bind fun r14=>
 if r14.1=0 then(some (gx r14.2 0)) else(some (D.int .i64 0))
theorem O8{lp}(hlp:ak lp):ac 104 (m3 (DK lp)):=kI (v:=0) (fn:=Tryz.f242) (ann:=KK) hlp
noncomputable def Ev(lp:Lp)(call:Nat->List D->Option D)(a0:D)(a1:D):Option D:=
(D.get a0 [0]).bind fun x1=>
(D.get a1 [0]).bind fun x2=>
(D.truth (D.bool (!(D.beq x1 x2)))).bind fun b3=>
 if b3 then((D.get a0 [0]).bind fun x4=>
(D.get a1 [0]).bind fun x5=>
(D.bin .lss x4 x5).bind fun x6=>
 some x6) else((D.get a0 [1]).bind fun x7=>
(D.get a1 [1]).bind fun x8=>
(D.truth (D.bool (!(D.beq x7 x8)))).bind fun b9=>
 if b9 then((D.get a0 [1]).bind fun x10=>
(D.get a1 [1]).bind fun x11=>
(D.bin .lss x10 x11).bind fun x12=>
 some x12) else((D.get a0 [2]).bind fun x13=>
(D.get a1 [2]).bind fun x14=>
(D.bin .lss x13 x14).bind fun x15=>
 some x15))
theorem KP{lp}(hlp:ak lp):ac 105 (m2 (Ev lp)):=aT (v:=0) (fn:=Tryz.f224) (ann:=.leaf) hlp
def Kx:Ann:=(.tl (.two (.reg [] 8) .leaf))
noncomputable def Dc(lp:Lp)(call:Nat->List D->Option D)(a0:D)(a1:D)(a2:D):Option D:=
(call 112 [a1,a0]).bind fun r1=>
(call 112 [a2,a0]).bind fun r2=>
(call 123 [r1,r2]).bind fun r3=>
(call 80 [r3]).bind fun r4=>
(call 155 [r4]).bind fun r5=>
(D.get r5 [0]).bind fun x6=>
 some x6
theorem Ll{lp}(hlp:ak lp):ac 106 (m3 (Dc lp)):=kI (v:=0) (fn:=Tryz.f225) (ann:=Kx) hlp
noncomputable def E3(lp:Lp)(call:Nat->List D->Option D)(a0:D)(a1:D):Option D:=
(D.get a0 [0]).bind fun x1=>
(D.get a1 [0]).bind fun x2=>
(D.bin .mul x1 x2).bind fun x3=>
(D.get a0 [1]).bind fun x4=>
(D.get a1 [1]).bind fun x5=>
(D.bin .mul x4 x5).bind fun x6=>
(D.bin .add x3 x6).bind fun x7=>
(D.get a0 [2]).bind fun x8=>
(D.get a1 [2]).bind fun x9=>
(D.bin .mul x8 x9).bind fun x10=>
(D.bin .add x7 x10).bind fun x11=>
 some x11
theorem KU{lp}(hlp:ak lp):ac 107 (m2 (E3 lp)):=aT (v:=0) (fn:=Tryz.f226) (ann:=.leaf) hlp
def PN:Ann:=(.tl (.two (.tl (.two (.loop ⟨[(3,.sp K1 4099),(5,.di)],[(4099,.keep K1 3)],[0]⟩ [(.ret,⟨[(4,.dv Ty.bool)],[],[]⟩),(.exit 0,⟨[],[],[]⟩)] (.tl (.two (.two (.two (.reg [] 6) .leaf) .leaf) .leaf))) .leaf)) .leaf))
noncomputable def Ez(lp:Lp)(call:Nat->List D->Option D)(a0:D)(a1:D):Option D:=
(lp (β:=Nat×List D) (fun(v1:List D)=>
(D.asSl a0).bind fun l2=>
(D.bin .lss (gx v1 0) (D.int .i64 (l2.length))).bind fun x3=>
(D.truth x3).bind fun b4=>
 if b4 then((D.asSl a0).bind fun l5=>
(D.idx (gx v1 0) (l5.length)).bind fun i6=>
(l5[i6]?).bind fun x7=>
(D.fld x7 0).bind fun x8=>
(D.truth (D.bool (D.beq x8 a1))).bind fun b9=>
 if b9 then(some (Sum.inr (0,[(D.bool true)]))) else((D.bin .add (gx v1 0) (D.int .i64 1)).bind fun x10=>
 some (Sum.inl [x10]))) else(some (Sum.inr (1,[])))) [(D.int .i64 0)]).bind fun r11=>
 if r11.1=0 then(some (gx r11.2 0)) else(some (D.bool false))
theorem M4{lp}(hlp:ak lp):ac 108 (m2 (Ez lp)):=aT (v:=0) (fn:=Tryz.f227) (ann:=PN) hlp
def L4:Ann:=(.tl (.tl (.two (.tl (.two (.loop ⟨[(4,.sp K1 4100),(7,.dv Ty.bool),(8,.di)],[(4100,.keep K1 4)],[0,2]⟩ [(.ret,⟨[(6,.dv Ty.bool)],[],[]⟩),(.exit 0,⟨[(7,.dv Ty.bool)],[],[]⟩)] (.tl (.two (.two (.two (.reg [] 6) .leaf) .leaf) .leaf))) .leaf)) .leaf)))
noncomputable def CK(lp:Lp)(call:Nat->List D->Option D)(a0:D)(a1:D)(a2:D):Option D:=
(lp (β:=Nat×List D) (fun(v1:List D)=>
(D.asSl a0).bind fun l2=>
(D.bin .lss (gx v1 1) (D.int .i64 (l2.length))).bind fun x3=>
(D.truth x3).bind fun b4=>
 if b4 then((D.asSl a0).bind fun l5=>
(D.idx (gx v1 1) (l5.length)).bind fun i6=>
(l5[i6]?).bind fun x7=>
(call 107 [a1,x7]).bind fun r8=>
(D.bin .gtr r8 a2).bind fun x9=>
(D.truth x9).bind fun b10=>
 if b10 then(some (Sum.inr (0,[(D.bool false)]))) else((D.truth (gx v1 0)).bind fun b11=>
(if b11 then(some true) else((D.bin .lss r8 a2).bind fun x12=>
 D.truth x12)).bind fun b13=>
(D.bin .add (gx v1 1) (D.int .i64 1)).bind fun x14=>
 some (Sum.inl [(D.bool b13),x14]))) else(some (Sum.inr (1,[(gx v1 0)])))) [(D.bool false),(D.int .i64 0)]).bind fun r15=>
 if r15.1=0 then(some (gx r15.2 0)) else(some (gx r15.2 0))
theorem Oc{lp}(hlp:ak lp):ac 109 (m3 (CK lp)):=kI (v:=0) (fn:=Tryz.f228) (ann:=L4) hlp
def MC:Ann:=(.tl (.tl (.tl (.two (.tl (.two (.loop ⟨[(3,.sp K6 4099),(5,.ow K6),(6,.dv Ty.bool),(7,.di)],[(4099,.keep K6 3)],[0]⟩ [(.exit 0,⟨[(3,.sp K6 4099),(5,.ow K6),(6,.dv Ty.bool)],[(4099,.keep K6 3)],[]⟩)] (.tl (.two (.two (.two (.reg [] 8) (.cut [(.normal,⟨[(3,.sp K6 4099),(5,.ow K6),(6,.dv Ty.bool)],[(4099,.keep K6 3)],[0,7]⟩)] [0,7] [4099] .leaf .leaf)) .leaf) .leaf))) .leaf)) (.cut [(.normal,⟨[(5,.ow K6)],[],[]⟩)] [] [] .leaf .leaf)))))
noncomputable def Dt(lp:Lp)(call:Nat->List D->Option D)(a0:D)(a1:D):Option D:=
(lp (β:=Nat×List D) (fun(v1:List D)=>
(D.asSl a0).bind fun l2=>
(D.bin .lss (gx v1 2) (D.int .i64 (l2.length))).bind fun x3=>
(D.truth x3).bind fun b4=>
 if b4 then((D.get a1 [0]).bind fun x5=>
(D.asSl a0).bind fun l6=>
(D.idx (gx v1 2) (l6.length)).bind fun i7=>
(l6[i7]?).bind fun x8=>
(D.fld x8 0).bind fun x9=>
(call 105 [x5,x9]).bind fun r10=>
((D.un .not (gx v1 1)).bind fun x11=>
(D.truth x11).bind fun b12=>
(if b12 then(D.truth r10) else(some false)).bind fun b13=>
(D.truth (D.bool b13)).bind fun b14=>
 if b14 then(if List.length ((gx v1 0).els)+List.length [a1]<=1073741824 then(some (0,[(D.sl (((gx v1 0).els)++[a1])),(D.bool true)])) else none) else(some (0,[(D.sl ((gx v1 0).els)),(gx v1 1)]))).bind fun(r15:Nat×List D)=>
(D.asSl a0).bind fun l16=>
(D.idx (gx v1 2) (l16.length)).bind fun i17=>
(l16[i17]?).bind fun x18=>
 if List.length ((gx r15.2 0).els)+List.length [x18]<=1073741824 then((D.bin .add (gx v1 2) (D.int .i64 1)).bind fun x19=>
 some (Sum.inl [(D.sl (((gx r15.2 0).els)++[x18])),(gx r15.2 1),x19])) else none) else(some (Sum.inr (0,[(D.sl ((gx v1 0).els)),(gx v1 1)])))) [(D.sl []),(D.bool false),(D.int .i64 0)]).bind fun r20=>
((D.un .not (gx r20.2 1)).bind fun x21=>
(D.truth x21).bind fun b22=>
 if b22 then(if List.length ((gx r20.2 0).els)+List.length [a1]<=1073741824 then(some (0,[(D.sl (((gx r20.2 0).els)++[a1]))])) else none) else(some (0,[(D.sl ((gx r20.2 0).els))]))).bind fun(r23:Nat×List D)=>
 some (D.sl ((gx r23.2 0).els))
theorem Lv{lp}(hlp:ak lp):ac 110 (m2 (Dt lp)):=aT (v:=0) (fn:=Tryz.f229) (ann:=MC) hlp
def Lk:Ann:=(.tl (.tl (.tl (.two (.tl (.two (.loop ⟨[(4,.sp K1 4100),(7,.ow Ti),(8,.di),(9,.di)],[(4100,.keep K1 4)],[0,2]⟩ [(.exit 0,⟨[(4,.sp K1 4100),(7,.ow Ti),(8,.di)],[(4100,.keep K1 4)],[0,2]⟩)] (.tl (.cut [(.normal,⟨[(4,.sp K1 4100),(7,.ow Ti),(8,.di)],[(4100,.keep K1 4)],[0,2,9]⟩)] [0,2,9] [4100] (.two (.two (.reg [] 7) .leaf) .leaf) .leaf))) .leaf)) (.tl (.two (.two (.loop ⟨[(4,.sp K1 4100),(7,.ow Ti),(8,.di)],[(4100,.keep K1 4)],[0,2,10]⟩ [(.exit 2,⟨[(7,.ow Ti)],[],[]⟩)] (.tl (.two (.tl (.tl (.two (.tl (.two (.loop ⟨[(4,.sp K1 4100),(7,.ow Ti),(11,.di),(12,.di)],[(4100,.keep K1 4)],[0,2,8,10]⟩ [(.exit 4,⟨[(4,.sp K1 4100),(7,.ow Ti),(11,.di)],[(4100,.keep K1 4)],[0,2,10]⟩)] (.tl (.cut [(.normal,⟨[(4,.sp K1 4100),(7,.ow Ti),(11,.di)],[(4100,.keep K1 4)],[0,2,8,10,12]⟩)] [0,2,8,10,12] [4100] (.two (.tl (.two (.two (.reg [] 12) .leaf) .leaf)) .leaf) .leaf))) .leaf)) .leaf))) .leaf))) .leaf) .leaf))))))
noncomputable def DN(lp:Lp)(call:Nat->List D->Option D)(a0:D)(a1:D)(a2:D):Option D:=
(lp (β:=Nat×List D) (fun(v1:List D)=>
(D.asSl a0).bind fun l2=>
(D.bin .lss (gx v1 2) (D.int .i64 (l2.length))).bind fun x3=>
(D.truth x3).bind fun b4=>
(if b4 then((D.bin .lss (gx v1 1) (D.int .i64 0)).bind fun x5=>
 D.truth x5) else(some false)).bind fun b6=>
(D.truth (D.bool b6)).bind fun b7=>
 if b7 then(((D.asSl a0).bind fun l8=>
(D.idx (gx v1 2) (l8.length)).bind fun i9=>
(l8[i9]?).bind fun x10=>
(call 107 [a1,x10]).bind fun r11=>
(D.truth (D.bool (D.beq r11 a2))).bind fun b12=>
 if b12 then(some (0,[(D.sl ((gx v1 0).els)),(gx v1 2)])) else(some (0,[(D.sl ((gx v1 0).els)),(gx v1 1)]))).bind fun(r13:Nat×List D)=>
(D.bin .add (gx v1 2) (D.int .i64 1)).bind fun x14=>
 some (Sum.inl [(D.sl ((gx r13.2 0).els)),(gx r13.2 1),x14])) else(some (Sum.inr (0,[(D.sl ((gx v1 0).els)),(gx v1 1)])))) [(D.sl []),(D.int .i64 (-1)),(D.int .i64 0)]).bind fun r15=>
(lp (β:=Nat×List D) (fun(v16:List D)=>
(D.asSl a0).bind fun l17=>
(D.bin .leq (D.int .i64 (List.length ((gx v16 0).els))) (D.int .i64 (l17.length))).bind fun x18=>
(D.truth x18).bind fun b19=>
 if b19 then(if List.length ((gx v16 0).els)+List.length [(gx v16 1)]<=1073741824 then((lp (β:=Nat×List D) (fun(v20:List D)=>
(D.asSl a0).bind fun l21=>
(D.bin .lss (gx v20 2) (D.int .i64 (l21.length))).bind fun x22=>
(D.truth x22).bind fun b23=>
(if b23 then((D.bin .lss (gx v20 1) (D.int .i64 0)).bind fun x24=>
 D.truth x24) else(some false)).bind fun b25=>
(D.truth (D.bool b25)).bind fun b26=>
 if b26 then(((D.truth (D.bool (!(D.beq (gx v20 2) (gx v16 1))))).bind fun b27=>
(if b27 then((D.asSl a0).bind fun l28=>
(D.idx (gx v20 2) (l28.length)).bind fun i29=>
(l28[i29]?).bind fun x30=>
(call 107 [a1,x30]).bind fun r31=>
 D.truth (D.bool (D.beq r31 a2))) else(some false)).bind fun b32=>
(D.truth (D.bool b32)).bind fun b33=>
 if b33 then((D.asSl a0).bind fun l34=>
(D.idx (gx v16 1) (l34.length)).bind fun i35=>
(l34[i35]?).bind fun x36=>
(D.asSl a0).bind fun l37=>
(D.idx (gx v20 2) (l37.length)).bind fun i38=>
(l37[i38]?).bind fun x39=>
(call 156 [a0,a1,a2,x36,x39]).bind fun r40=>
(D.truth r40).bind fun b41=>
 if b41 then(some (0,[(D.sl ((gx v20 0).els)),(gx v20 2)])) else(some (0,[(D.sl ((gx v20 0).els)),(gx v20 1)]))) else(some (0,[(D.sl ((gx v20 0).els)),(gx v20 1)]))).bind fun(r42:Nat×List D)=>
(D.bin .add (gx v20 2) (D.int .i64 1)).bind fun x43=>
 some (Sum.inl [(D.sl ((gx r42.2 0).els)),(gx r42.2 1),x43])) else(some (Sum.inr (0,[(D.sl ((gx v20 0).els)),(gx v20 1)])))) [(D.sl (((gx v16 0).els)++[(gx v16 1)])),(D.int .i64 (-1)),(D.int .i64 0)]).bind fun r44=>
(D.truth (D.bool (D.beq (gx r44.2 1) (gx r15.2 1)))).bind fun b45=>
(if b45 then(some true) else((D.bin .lss (gx r44.2 1) (D.int .i64 0)).bind fun x46=>
 D.truth x46)).bind fun b47=>
(D.truth (D.bool b47)).bind fun b48=>
 if b48 then(some (Sum.inr (0,[(D.sl ((gx r44.2 0).els))]))) else(some (Sum.inl [(D.sl ((gx r44.2 0).els)),(gx r44.2 1)]))) else none) else(some (Sum.inr (0,[(D.sl ((gx v16 0).els))])))) [(D.sl ((gx r15.2 0).els)),(gx r15.2 1)]).bind fun r49=>
 some (D.sl ((gx r49.2 0).els))
theorem Ly{lp}(hlp:ak lp):ac 111 (m3 (DN lp)):=kI (v:=0) (fn:=Tryz.f230) (ann:=Lk) hlp
noncomputable def FJ(lp:Lp)(call:Nat->List D->Option D)(a0:D)(a1:D):Option D:=
(D.get a0 [0]).bind fun x1=>
(D.get a1 [0]).bind fun x2=>
(D.bin .sub x1 x2).bind fun x3=>
(D.get a0 [1]).bind fun x4=>
(D.get a1 [1]).bind fun x5=>
(D.bin .sub x4 x5).bind fun x6=>
(D.get a0 [2]).bind fun x7=>
(D.get a1 [2]).bind fun x8=>
(D.bin .sub x7 x8).bind fun x9=>
 some (D.st [x3,x6,x9])
theorem MK{lp}(hlp:ak lp):ac 112 (m2 (FJ lp)):=aT (v:=0) (fn:=Tryz.f26) (ann:=.leaf) hlp
noncomputable def Fy(lp:Lp)(call:Nat->List D->Option D)(a0:D):Option D:=
 some (D.bool (!(D.beq a0 a0)))
theorem M8{lp}(hlp:ak lp):ac 115 (m1 (Fy lp)):=aV (v:=0) (fn:=Tryz.f250) (ann:=.leaf) hlp
def Ko:Ann:=(.tl (.two (.reg [] 8) .leaf))
noncomputable def Dq(lp:Lp)(call:Nat->List D->Option D)(a0:D)(a1:D):Option D:=
(D.truth a0).bind fun b1=>
(if b1 then(D.truth (D.bool (!(D.beq a1 (D.st (D.putParts (List.replicate 16 (D.int .u32 0)) [])))))) else(some false)).bind fun b2=>
 some (D.st [(D.bool false),(D.bool b2),a1])
theorem L8{lp}(hlp:ak lp):ac 116 (m2 (Dq lp)):=aT (v:=0) (fn:=Tryz.f133) (ann:=Ko) hlp
noncomputable def Ed(lp:Lp)(call:Nat->List D->Option D)(a0:D)(a1:D):Option D:=
(D.get a0 [1]).bind fun x1=>
(D.get a1 [2]).bind fun x2=>
(D.bin .mul x1 x2).bind fun x3=>
(D.get a0 [2]).bind fun x4=>
(D.get a1 [1]).bind fun x5=>
(D.bin .mul x4 x5).bind fun x6=>
(D.bin .sub x3 x6).bind fun x7=>
(D.get a0 [2]).bind fun x8=>
(D.get a1 [0]).bind fun x9=>
(D.bin .mul x8 x9).bind fun x10=>
(D.get a0 [0]).bind fun x11=>
(D.get a1 [2]).bind fun x12=>
(D.bin .mul x11 x12).bind fun x13=>
(D.bin .sub x10 x13).bind fun x14=>
(D.get a0 [0]).bind fun x15=>
(D.get a1 [1]).bind fun x16=>
(D.bin .mul x15 x16).bind fun x17=>
(D.get a0 [1]).bind fun x18=>
(D.get a1 [0]).bind fun x19=>
(D.bin .mul x18 x19).bind fun x20=>
(D.bin .sub x17 x20).bind fun x21=>
 some (D.st [x7,x14,x21])
theorem NP{lp}(hlp:ak lp):ac 117 (m2 (Ed lp)):=aT (v:=0) (fn:=Tryz.f178) (ann:=.leaf) hlp
def Mf:Ann:=(.tl (.two (.tl (.two (.loop ⟨[(7,.di)],[],[5,6]⟩ [(.ret,⟨[(2,.dv Ty.bool)],[],[]⟩),(.exit 0,⟨[],[],[]⟩)] .leaf) .leaf)) .leaf))
noncomputable def DF(lp:Lp)(call:Nat->List D->Option D)(a0:D):Option D:=
(D.asSl a0).bind fun l1=>
(lp (β:=Nat×List D) (fun(v2:List D)=>
(D.bin .lss (gx v2 0) (D.int .i64 (l1.length))).bind fun x3=>
(D.truth x3).bind fun b4=>
 if b4 then((D.asSl a0).bind fun l5=>
(D.idx (gx v2 0) (l5.length)).bind fun i6=>
(l5[i6]?).bind fun x7=>
(D.get x7 [0]).bind fun x8=>
(D.truth x8).bind fun b9=>
(if b9 then(some true) else((call 167 [x7]).bind fun r10=>
(D.un .not r10).bind fun x11=>
 D.truth x11)).bind fun b12=>
(D.truth (D.bool b12)).bind fun b13=>
 if b13 then(some (Sum.inr (0,[(D.bool false)]))) else((D.bin .add (gx v2 0) (D.int .i64 1)).bind fun x14=>
 some (Sum.inl [x14]))) else(some (Sum.inr (1,[])))) [(D.int .i64 0)]).bind fun r15=>
 if r15.1=0 then(some (gx r15.2 0)) else(some (D.bool true))
theorem P5{lp}(hlp:ak lp):ac 118 (m1 (DF lp)):=aV (v:=0) (fn:=Tryz.f144) (ann:=Mf) hlp
noncomputable def FD(lp:Lp)(call:Nat->List D->Option D) :Option D:=
 some (D.st [(D.bool true),(D.bool false),(aS aY)])
theorem NA{lp}(hlp:ak lp):ac 119 (m0 (FD lp)):=y9 (v:=0) (fn:=Tryz.f89) (ann:=.leaf) hlp
end Sy
end
end Go.Proofs.YtpahompifldeeaaGreat
