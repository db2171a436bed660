/- Part 7 of the proof that EnergyOfPaths answers true at every input -/
import Derived.Test.YtpahompifldeeaaGreatPaths06
import Derived.KernelRfl
set_option linter.unusedVariables false
set_option linter.unusedSimpArgs false
set_option linter.unnecessarySimpa false
set_option maxRecDepth 20000
namespace Go.Proofs.YtpahompifldeeaaGreat
noncomputable section
namespace Sy
open Go
def xi(P:Program):Bool:=(List.range CL).all fun t=>match Ja t with|some ty=>bh P ty t&&decide (ty.high<=1000)&&am ty|none=>true
def Ci(P:Program)(f:Nat)(g:List Ty×Ty):Bool:=
 aY g.1 && (am g.2 || match g.2 with | .tup ts => aY ts | _ => false) && match P.funcs[f]? with | some fn => !(fn.name == "runtime.NumGoroutine") && fn.body.isSome | none => false
def xn(P:Program):Bool:=(List.range CL).all fun t=>match BG t with|some g=>bu g.1&&decide (g.1.high<=1000)&&(match P.underlying t with|some (.map K V)=>bh P g.1 K&&bh P g.2 V|_=>false)|none=>true
def xO(P:Program):Bool:=(List.range As).all fun f=>match nO f with|some g=>Ci P f g|none=>true
theorem FJ{t:Nat}{ty:Ty}(h:Ja t=some ty):t<CL:=by
 unfold Ja at h
 rcases Nat.lt_or_ge t CL with k|k
 ·exact k
 ·have:Nat.blt t CL=false:=Bool.eq_false_iff.2 fun hb=>absurd (Nat.blt_eq ▸ hb) (Nat.not_lt.2 k)
  rw[this] at h;cases h
theorem BH{t:Nat}{g:Ty×Ty}(h:BG t=some g):t<CL:=by
 unfold BG at h
 rcases Nat.lt_or_ge t CL with k|k
 ·exact k
 ·have:Nat.blt t CL=false:=Bool.eq_false_iff.2 fun hb=>absurd (Nat.blt_eq ▸ hb) (Nat.not_lt.2 k)
  rw[this] at h;cases h
theorem wD{t:Nat}{ty:List Ty×Ty}(h:nO t=some ty):t<As:=by
 unfold nO Fw at h
 rcases Nat.lt_or_ge t As with k|k
 ·exact k
 ·have:Nat.blt t As=false:=Bool.eq_false_iff.2 fun hb=>absurd (Nat.blt_eq ▸ hb) (Nat.not_lt.2 k)
  rw[this] at h;cases h
def gj(P:Program)(call:Nat->List D->Option D):Prop:=∀ f ptys rty xs y,nO f=some (ptys,rty)->call (q9 f) xs=some y->dU ptys xs->CM P (kK f) ptys rty f xs y
abbrev Lp:Type 1:={α β:Type}->(α->Option (Sum α β))->α->Option β
def ak(lp:Lp):Prop:=∀ (α β:Type) (body:α->Option (Sum α β)) (x:α) (y:β),lp body x=some y->∃ n,mo body n x=some y
theorem zK(N:Nat):ak (fun body=>mo body N):=fun _ _ _ _ _ h=>⟨N,h⟩
theorem qh:ak (fun body=>jQ body):=fun _ _ _ _ _ h=>li h
def Bz(pv:Bool)(tab:Nat->Option (Func×Ty))(lp:Lp)(call:Nat->List D->Option D):Nat->Inl
 | 0=>⟨pv,fun _=>none,fun _ _ _ _ _=>none⟩
 | n+1=>⟨pv,fun f=>match tab f with
  | some p=>some (G3 (dQ lp call (Bz pv tab lp call n)) p.1 p.2)
  | none=>none,fun c an R s k=>ev (dQ lp call (Bz pv tab lp call n)) c an R s k⟩
section
variable{P:Program}
theorem pN(h1:xi P=true)(h2:xO P=true)(h4:xn P=true)(h3:P.follows .mixedOrders=true){lp:Lp}(hlp:ak lp){call:Nat->List D->Option D}(hc:gj P call)
  {inl : Inl} (hcod : AN P inl.cod) (hi : ∀ f g, inl.f f = some g -> (∃ fn, P.funcs[f]? = some fn /\ (fn.name == "runtime.NumGoroutine") = false /\ fn.body.isSome = true) /\ AU P f g) : EnvOk P (dQ lp call inl) := by
 have k1:∀ t ty,Ja t=some ty->bh P ty t=true/\ty.high<=1000/\am ty=true:=fun t ty ht=>by
  have:=List.all_eq_true.1 h1 t (List.mem_range.2 (FJ ht))
  rw[ht] at this
  simp only[Bool.and_eq_true,decide_eq_true_eq] at this
  exact⟨this.1.1,this.1.2,this.2⟩
 refine⟨fun t ty ht=>.inr (k1 t ty ht).1,fun t ty ht=>(k1 t ty ht).2.1,fun t ty ht=>(k1 t ty ht).2.2,fun f ptys rty hf=>?_,hc,h3,hlp,fun t kt vt ht=>?_,hi,hcod⟩
 ·have:=List.all_eq_true.1 h2 f (List.mem_range.2 (wD hf))
  rw[show nO f=some (ptys,rty) from hf] at this
  simp only[Ci,Bool.and_eq_true,Bool.or_eq_true] at this
  obtain⟨⟨q1,q2⟩,q3⟩:=this
  refine⟨q1,?_,?_⟩
  ·rcases q2 with q2|q2
   ·exact .inl q2
   ·right
    split at q2
    ·rename_i ts;exact⟨_,rfl,q2⟩
    ·cases q2
  ·split at q3
   ·rename_i fn hfn
    simp only[Bool.and_eq_true,Bool.not_eq_true'] at q3
    exact⟨fn,hfn,q3⟩
   ·cases q3
 ·have:=List.all_eq_true.1 h4 t (List.mem_range.2 (BH ht))
  rw[show BG t=some (kt,vt) from ht] at this
  simp only[Bool.and_eq_true,decide_eq_true_eq] at this
  obtain⟨⟨m1,m2⟩,m3⟩:=this
  refine⟨m1,?_⟩
  split at m3<;>first|(cases m3;done)|skip
  rename_i K V hu
  simp only[Bool.and_eq_true] at m3
  exact⟨K,V,hu,m3.1,m3.2,m2⟩
def xS (P : Program) (f : Nat) (p : Func × Ty) : Prop := P.funcs[f]? = some p.1 /\ (!(p.1.name == "runtime.NumGoroutine") && p.1.body.isSome && xJ p.1.results.size p.2) = true
theorem tN{pv:Bool}{tab:Nat->Option (Func×Ty)}(h1:xi P=true)(h2:xO P=true)(h4:xn P=true)(h3:P.follows .mixedOrders=true)(ht:∀ f p,tab f=some p->xS P f p){lp:Lp}(hlp:ak lp){call:Nat->List D->Option D}(hc:gj P call) :
  ∀ n,EnvOk P (dQ lp call (Bz pv tab lp call n))
 | 0=>pN h1 h2 h4 h3 hlp hc (fun _ _ _ _ _ _ _ _ _ _ _ _ _ _ _ _ _ h=>by cases h) fun f g h=>by cases h
 | n+1=>pN h1 h2 h4 h3 hlp hc (GP (tN h1 h2 h4 h3 ht hlp hc n)) fun f g h=>by
  simp only[Bz] at h
  split at h<;>first|(cases h;done)|skip
  rename_i p hp
  cases h
  obtain⟨q1,q2⟩:=ht f p hp
  simp only[Bool.and_eq_true,Bool.not_eq_true'] at q2
  exact⟨⟨p.1,q1,q2.1.1,q2.1.2⟩,EX (tN h1 h2 h4 h3 ht hlp hc n) q1 q2.2⟩
end
end Sy
end
noncomputable section
namespace Sy
open Go Go.Proofs
theorem vL:xi Tryz.prog=true:=by kernel_rfl
theorem wC:xO Tryz.prog=true:=by kernel_rfl
theorem vR:xn Tryz.prog=true:=by kernel_rfl
theorem xo:Tryz.prog.follows .mixedOrders=true:=by kernel_rfl
def EW(v:Nat)(lp:Lp)(call:Nat->List D->Option D):Inl:=Bz (Nat.beq v 1) (FD v) lp call 9
abbrev mh(lp:Lp)(call:Nat->List D->Option D):Inl:=EW 0 lp call
theorem FE(v:Nat):∀ f p,FD v f=some p->xS Tryz.prog f p:=by
 intro f p h
 have key:∀ q∈FF,xS Tryz.prog q.1 q.2:=by
  intro q hq
  simp only[FF,He,List.cons_append,List.nil_append,List.mem_cons,List.not_mem_nil,or_false] at hq
  repeat' first
   | (rcases hq with hq|hq;· subst hq;exact⟨by kernel_rfl,by kernel_rfl⟩)
   | (subst hq;exact⟨by kernel_rfl,by kernel_rfl⟩)
 exact key (f,p) (Cn h)
theorem IJ{v:Nat}{lp:Lp}(hlp:ak lp){call:Nat->List D->Option D}(hc:gj Tryz.prog call):EnvOk Tryz.prog (dQ lp call (EW v lp call)):=
 tN vL wC vR xo (FE v) hlp hc 9
theorem ON{lp:Lp}(hlp:ak lp){call:Nat->List D->Option D}(hc:gj Tryz.prog call):EnvOk Tryz.prog (dQ lp call (mh lp call)):=IJ hlp hc
def I1(o:Oper):Option ByteArray:=match o.op with|.index _ (.const (.string s)) _=>some s|_=>none
def mH:Code->Option ByteArray
 | .region _ ops _=>ops.toList.findSome? I1
 | .seq a b=>(mH a).orElse fun _=>mH b
 | .cond _ a b=>(mH a).orElse fun _=>mH b
 | .block _ a=>mH a
 | .loop a=>mH a
 | .scope a=>mH a
 | _=>none
def Bg(f:Func):Code:=match f.body with|some c=>c|none=>.skip
end Sy
end
noncomputable section
namespace Sy
open Go Go.Proofs
inductive CT where
 | leaf (k:Nat) (g:(Nat->List D->Option D)->List D->Option D)
 | node (m:Nat) (a b:CT)
def CT.get:CT->Nat->(Nat->List D->Option D)->List D->Option D
 | .leaf k g,f,call,xs=>bif Nat.beq f k then g call xs else none
 | .node m a b,f,call,xs=>bif Nat.blt f m then a.get f call xs else b.get f call xs
def ac(f:Nat)(g:(Nat->List D->Option D)->List D->Option D):Prop:=
 ∀ call,gj Tryz.prog call->∀ ptys rty xs y,nO (dE f)=some (ptys,rty)->g call xs=some y->dU ptys xs->CM Tryz.prog (kK (dE f)) ptys rty (dE f) xs y
def CT.ok:CT->Prop
 | .leaf k g=>ac k g
 | .node _ a b=>a.ok/\b.ok
theorem CT.get_ok':∀ {t:CT},t.ok->∀ {call},gj Tryz.prog call->∀ f ptys rty xs y,nO (dE f)=some (ptys,rty)->t.get f call xs=some y->dU ptys xs->CM Tryz.prog (kK (dE f)) ptys rty (dE f) xs y
 | .leaf k g,h,call,hc,f,ptys,rty,xs,y,hs,hy,hw=>by
  simp only[CT.get] at hy
  cases hb:Nat.beq f k with
  | false=>rw[hb] at hy;cases hy
  | true=>
   rw[hb] at hy
   have:=Nat.eq_of_beq_eq_true hb
   subst this
   exact h call hc ptys rty xs y hs hy hw
 | .node m a b,h,call,hc,f,ptys,rty,xs,y,hs,hy,hw=>by
  simp only[CT.get] at hy
  cases hb:Nat.blt f m with
  | false=>rw[hb] at hy;exact CT.get_ok' h.2 hc f ptys rty xs y hs hy hw
  | true=>rw[hb] at hy;exact CT.get_ok' h.1 hc f ptys rty xs y hs hy hw
theorem Gu:((List.range As).all fun f=>match Fw f with|some p=>Nat.beq (dE p.1) f|none=>true)=true:=by kernel_rfl
theorem Ep{f:Nat}{g:List Ty×Ty}(h:nO f=some g):dE (q9 f)=f:=by
 have h2:=List.all_eq_true.1 Gu f (List.mem_range.2 (wD h))
 unfold nO at h
 unfold q9
 split at h<;>first|(cases h;done)|skip
 rename_i p hp
 rw[hp] at h2
 exact Nat.eq_of_beq_eq_true h2
theorem CT.get_ok{t:CT}(h:t.ok){call}(hc:gj Tryz.prog call):gj Tryz.prog fun f xs=>t.get f call xs:=fun f ptys rty xs y hs hy hw=>by
 have e:=Ep hs
 have:=CT.get_ok' h hc (q9 f) ptys rty xs y (by rw[e];exact hs) hy hw
 rwa [e] at this
def cY(v:Nat)(lp:Lp)(f:Nat)(fn:Func)(ann:Ann)(call:Nat->List D->Option D)(xs:List D):Option D:=
 (nO (dE f)).bind fun s=>bif Nat.beq (kK (dE f)) 0 then OO (dQ lp call (EW v lp call)) fn ann s.1 s.2 xs else GT (dQ lp call (EW v lp call)) fn ann s.1 (kK (dE f)) s.2 xs
def F8(f:Nat)(fn:Func):Bool:=match nO (dE f) with
 | some (p,r)=>decide (p.length<=fn.ntmps)&&gD fn.results.size r&&aY p&&(decide (kK (dE f)<=p.length)&&decide (kK (dE f)<=4095))
 | none=>false
theorem bx{v:Nat}{lp:Lp}(hlp:ak lp){f:Nat}{fn:Func}{ann:Ann}(hf:Tryz.prog.funcs[dE f]?=some fn)(hk:F8 f fn=true):ac f (cY v lp f fn ann):=by
 intro call hc ptys rty xs y hs hy hw
 unfold cY at hy
 unfold F8 at hk
 rw[hs] at hy hk
 simp only[Option.bind_some] at hy
 simp only[Bool.and_eq_true,decide_eq_true_eq] at hk
 obtain⟨⟨⟨k1,k2⟩,k3⟩,k4,k5⟩:=hk
 have hE:=IJ (v:=v) hlp hc
 cases hz:kK (dE f) with
 | zero=>
  rw[hz] at hy
  exact zu hE hf k1 k3 k2 hy
 | succ k=>
  rw[hz] at hy
  exact wZ hE hf k1 k3 (by rw[<-hz];exact k4) (by rw[<-hz];exact k5) k2 hy
abbrev Ann.tl(a:Ann):Ann:=.two .leaf a
abbrev Ti:Ty:=.int .i64
abbrev Jn(n:Int):D:=.int .i64 n
abbrev Ca:Type:=Nat->List D->Option D
abbrev Sh.di:Sh:=.dv (.int .i64)
abbrev Sh.sp(t:Ty)(i:Nat):Sh:=.same (.ptr t i [])
def m0(F:(Nat->List D->Option D)->Option D)(call:Nat->List D->Option D)(xs:List D):Option D:=match xs with|[]=>F call|_=>none
theorem yL{v:Nat}{lp:Lp}(hlp:ak lp){f:Nat}{fn:Func}{ann:Ann}{F:(Nat->List D->Option D)->Option D}(hf:Tryz.prog.funcs[dE f]?=some fn:=by kernel_rfl)(hk:F8 f fn=true:=by kernel_rfl)
  (hE:∀ call,cY v lp f fn ann call []=F call:=by intros;kernel_rfl):ac f (m0 F):=by
 intro call hc ptys rty xs y hs hy hw
 unfold m0 at hy
 split at hy<;>first|(cases hy;done)|skip
 exact bx (v:=v) hlp hf hk call hc ptys rty _ y hs ((hE call).trans hy) hw
def m1(F:(Nat->List D->Option D)->D->Option D)(call:Nat->List D->Option D)(xs:List D):Option D:=match xs with|[a0]=>F call a0|_=>none
theorem aU{v:Nat}{lp:Lp}(hlp:ak lp){f:Nat}{fn:Func}{ann:Ann}{F:(Nat->List D->Option D)->D->Option D}(hf:Tryz.prog.funcs[dE f]?=some fn:=by kernel_rfl)(hk:F8 f fn=true:=by kernel_rfl)
  (hE:∀ call a0,cY v lp f fn ann call [a0]=F call a0:=by intros;kernel_rfl):ac f (m1 F):=by
 intro call hc ptys rty xs y hs hy hw
 unfold m1 at hy
 split at hy<;>first|(cases hy;done)|skip
 exact bx (v:=v) hlp hf hk call hc ptys rty _ y hs ((hE call _).trans hy) hw
def m2(F:(Nat->List D->Option D)->D->D->Option D)(call:Nat->List D->Option D)(xs:List D):Option D:=match xs with|[a0,a1]=>F call a0 a1|_=>none
theorem aO{v:Nat}{lp:Lp}(hlp:ak lp){f:Nat}{fn:Func}{ann:Ann}{F:(Nat->List D->Option D)->D->D->Option D}(hf:Tryz.prog.funcs[dE f]?=some fn:=by kernel_rfl)(hk:F8 f fn=true:=by kernel_rfl)
  (hE:∀ call a0 a1,cY v lp f fn ann call [a0,a1]=F call a0 a1:=by intros;kernel_rfl):ac f (m2 F):=by
 intro call hc ptys rty xs y hs hy hw
 unfold m2 at hy
 split at hy<;>first|(cases hy;done)|skip
 exact bx (v:=v) hlp hf hk call hc ptys rty _ y hs ((hE call _ _).trans hy) hw
def m3(F:(Nat->List D->Option D)->D->D->D->Option D)(call:Nat->List D->Option D)(xs:List D):Option D:=match xs with|[a0,a1,a2]=>F call a0 a1 a2|_=>none
theorem jO{v:Nat}{lp:Lp}(hlp:ak lp){f:Nat}{fn:Func}{ann:Ann}{F:(Nat->List D->Option D)->D->D->D->Option D}(hf:Tryz.prog.funcs[dE f]?=some fn:=by kernel_rfl)(hk:F8 f fn=true:=by kernel_rfl)
  (hE:∀ call a0 a1 a2,cY v lp f fn ann call [a0,a1,a2]=F call a0 a1 a2:=by intros;kernel_rfl):ac f (m3 F):=by
 intro call hc ptys rty xs y hs hy hw
 unfold m3 at hy
 split at hy<;>first|(cases hy;done)|skip
 exact bx (v:=v) hlp hf hk call hc ptys rty _ y hs ((hE call _ _ _).trans hy) hw
def m4(F:(Nat->List D->Option D)->D->D->D->D->Option D)(call:Nat->List D->Option D)(xs:List D):Option D:=match xs with|[a0,a1,a2,a3]=>F call a0 a1 a2 a3|_=>none
theorem F9{v:Nat}{lp:Lp}(hlp:ak lp){f:Nat}{fn:Func}{ann:Ann}{F:(Nat->List D->Option D)->D->D->D->D->Option D}(hf:Tryz.prog.funcs[dE f]?=some fn:=by kernel_rfl)(hk:F8 f fn=true:=by kernel_rfl)
  (hE:∀ call a0 a1 a2 a3,cY v lp f fn ann call [a0,a1,a2,a3]=F call a0 a1 a2 a3:=by intros;kernel_rfl):ac f (m4 F):=by
 intro call hc ptys rty xs y hs hy hw
 unfold m4 at hy
 split at hy<;>first|(cases hy;done)|skip
 exact bx (v:=v) hlp hf hk call hc ptys rty _ y hs ((hE call _ _ _ _).trans hy) hw
def m5(F:(Nat->List D->Option D)->D->D->D->D->D->Option D)(call:Nat->List D->Option D)(xs:List D):Option D:=match xs with|[a0,a1,a2,a3,a4]=>F call a0 a1 a2 a3 a4|_=>none
theorem IW{v:Nat}{lp:Lp}(hlp:ak lp){f:Nat}{fn:Func}{ann:Ann}{F:(Nat->List D->Option D)->D->D->D->D->D->Option D}(hf:Tryz.prog.funcs[dE f]?=some fn:=by kernel_rfl)(hk:F8 f fn=true:=by kernel_rfl)
  (hE:∀ call a0 a1 a2 a3 a4,cY v lp f fn ann call [a0,a1,a2,a3,a4]=F call a0 a1 a2 a3 a4:=by intros;kernel_rfl):ac f (m5 F):=by
 intro call hc ptys rty xs y hs hy hw
 unfold m5 at hy
 split at hy<;>first|(cases hy;done)|skip
 exact bx (v:=v) hlp hf hk call hc ptys rty _ y hs ((hE call _ _ _ _ _).trans hy) hw
abbrev gx(l:List D)(i:Nat):D:=l.getD i (.bool false)
end Sy
end
noncomputable section
set_option maxHeartbeats 0
noncomputable section
namespace Sy
open Go Go.Proofs
def Q3:Ann:=(.tl (.tl (.two (.tl (.two (.loop ⟨[(2,.sp K4 4098),(3,.di)],[(4098,.one K4 (.st [K3,Ti] [.st [K2] [.ow K1],.di]))],[0]⟩ [(.ret,⟨[(2,.sp K4 4098)],[(4098,.one K4 (.st [K3,Ti] [.st [K2] [.ow K1],.di]))],[]⟩),(.exit 0,⟨[(2,.sp K4 4098)],[(4098,.one K4 (.st [K3,Ti] [.st [K2] [.ow K1],.di]))],[0]⟩)] (.tl (.two (.two (.tl (.two (.loop ⟨[(2,.sp K4 4098),(4,.di)],[(4098,.one K4 (.st [K3,Ti] [.st [K2] [.ow K1],.di]))],[0,3]⟩ [(.ret,⟨[(2,.sp K4 4098)],[(4098,.one K4 (.st [K3,Ti] [.st [K2] [.ow K1],.di]))],[]⟩),(.exit 2,⟨[(2,.sp K4 4098)],[(4098,.one K4 (.st [K3,Ti] [.st [K2] [.ow K1],.di]))],[0,3]⟩)] .leaf) .leaf)) .leaf) .leaf))) .leaf)) (.tl (.tl (.tl (.tl (.tl (.two (.tl (.two (.loop ⟨[(2,.sp K4 4098),(7,.sp K4 36871),(8,.di)],[(4098,.one K4 (.st [K3,Ti] [.st [K2] [.ow K1],.di])),(36871,.one K4 (.st [K3,Ti] [.st [K2] [.ow K1],.di]))],[5,6]⟩ [(.exit 4,⟨[(2,.sp K4 4098),(7,.sp K4 36871)],[(4098,.one K4 (.st [K3,Ti] [.st [K2] [.ow K1],.di])),(36871,.one K4 (.st [K3,Ti] [.st [K2] [.ow K1],.di]))],[]⟩)] (.tl (.cut [(.normal,⟨[(2,.sp K4 4098),(7,.sp K4 36871)],[(4098,.one K4 (.st [K3,Ti] [.st [K2] [.ow K1],.di])),(36871,.one K4 (.st [K3,Ti] [.st [K2] [.ow K1],.di]))],[5,6,8]⟩)] [5,6,8] [] (.two (.tl (.two (.tl (.two (.loop ⟨[(2,.sp K4 4098),(7,.sp K4 36871),(9,.dv Ty.bool),(10,.di)],[(4098,.one K4 (.st [K3,Ti] [.st [K2] [.ow K1],.di])),(36871,.one K4 (.st [K3,Ti] [.st [K2] [.ow K1],.di]))],[5,6,8]⟩ [(.exit 6,⟨[(2,.sp K4 4098),(7,.sp K4 36871),(9,.dv Ty.bool)],[(4098,.one K4 (.st [K3,Ti] [.st [K2] [.ow K1],.di])),(36871,.one K4 (.st [K3,Ti] [.st [K2] [.ow K1],.di]))],[5,6,8]⟩)] (.tl (.two (.two (.tl (.two (.loop ⟨[(2,.sp K4 4098),(7,.sp K4 36871),(9,.dv Ty.bool),(11,.di)],[(4098,.one K4 (.st [K3,Ti] [.st [K2] [.ow K1],.di])),(36871,.one K4 (.st [K3,Ti] [.st [K2] [.ow K1],.di]))],[5,6,8,10]⟩ [(.exit 8,⟨[(2,.sp K4 4098),(7,.sp K4 36871),(9,.dv Ty.bool)],[(4098,.one K4 (.st [K3,Ti] [.st [K2] [.ow K1],.di])),(36871,.one K4 (.st [K3,Ti] [.st [K2] [.ow K1],.di]))],[5,6,8,10]⟩)] .leaf) .leaf)) .leaf) .leaf))) .leaf)) (.tl (.two (.reg [] 8) .leaf)))) .leaf) .leaf))) .leaf)) .leaf)))))))))
def Hr(lp:Lp)(call:Ca)(a0:D):Option D:=
(D.asSl a0).bind fun l1=>
(D.bin .gtr (Jn (l1.length)) (Jn 64)).bind fun x2=>
(D.truth x2).bind fun b3=>
 if b3 then(some (D.st [(D.st [(D.sl [])]),(Jn 2)])) else((lp (β:=Nat×List D) (fun v4=>
(D.asSl a0).bind fun l5=>
(D.bin .lss (gx v4 0) (Jn (l5.length))).bind fun x6=>
(D.truth x6).bind fun b7=>
 if b7 then((lp (β:=Nat×List D) (fun v8=>
(D.bin .lss (gx v8 0) (Jn 3)).bind fun x9=>
(D.truth x9).bind fun b10=>
 if b10 then((D.asSl a0).bind fun l11=>
(D.idx (gx v4 0) (l11.length)).bind fun lg=>
(l11[lg]?).bind fun x13=>
(D.idx (gx v8 0) 3).bind fun i14=>
(D.fld x13 i14).bind fun x15=>
(D.bin .gtr x15 (Jn 262144)).bind fun x16=>
(D.truth x16).bind fun b17=>
(if b17 then(some true) else((D.asSl a0).bind fun l18=>
(D.idx (gx v4 0) (l18.length)).bind fun i19=>
(l18[i19]?).bind fun x20=>
(D.idx (gx v8 0) 3).bind fun i21=>
(D.fld x20 i21).bind fun x22=>
(D.bin .lss x22 (Jn (-262144))).bind fun x23=>
 D.truth x23)).bind fun b24=>
(D.truth (D.bool b24)).bind fun b25=>
 if b25 then(some (Sum.inr (0,[(D.sl []),(Jn 1)]))) else((D.bin .add (gx v8 0) (Jn 1)).bind fun x26=>
 some (Sum.inl [x26,(D.sl ((gx v8 1).els)),(gx v8 2)]))) else(some (Sum.inr (1,[(D.sl ((gx v8 1).els)),(gx v8 2)])))) [(Jn 0),(D.sl ((gx v4 1).els)),(gx v4 2)]).bind fun r27=>
 if r27.1=0 then(some (Sum.inr (0,[(D.sl ((gx r27.2 0).els)),(gx r27.2 1)]))) else((D.bin .add (gx v4 0) (Jn 1)).bind fun x28=>
 some (Sum.inl [x28,(D.sl ((gx r27.2 0).els)),(gx r27.2 1)]))) else(some (Sum.inr (1,[(D.sl ((gx v4 1).els)),(gx v4 2)])))) [(Jn 0),(D.sl []),(Jn 0)]).bind fun r29=>
 if r29.1=0 then(some (D.st [(D.st [(D.sl ((gx r29.2 0).els))]),(gx r29.2 1)])) else((call 47 [a0]).bind fun r30=>
(call 48 [r30]).bind fun r31=>
(D.asSl r31).bind fun l32=>
(D.truth (D.bool (D.beq (Jn (l32.length)) (Jn 0)))).bind fun b33=>
 if b33 then(some (D.st [(D.st [(D.sl [])]),(Jn 120)])) else((D.asSl r31).bind fun l34=>
(D.bin .gtr (Jn (l34.length)) (Jn 64)).bind fun x35=>
(D.truth x35).bind fun b36=>
 if b36 then(some (D.st [(D.st [(D.sl [])]),(Jn 2)])) else((lp (β:=Nat×List D) (fun v37=>
(D.asSl r30).bind fun l38=>
(D.bin .lss (gx v37 0) (Jn (l38.length))).bind fun x39=>
(D.truth x39).bind fun b40=>
 if b40 then(((lp (β:=Nat×List D) (fun v41=>
(D.asSl r31).bind fun l42=>
(D.bin .lss (gx v41 1) (Jn (l42.length))).bind fun x43=>
(D.truth x43).bind fun b44=>
 if b44 then((lp (β:=Nat×List D) (fun v45=>
(D.asSl r31).bind fun l46=>
(D.idx (gx v41 1) (l46.length)).bind fun i47=>
(l46[i47]?).bind fun x48=>
(D.fld x48 2).bind fun x49=>
(D.asSl x49).bind fun l50=>
(D.bin .lss (gx v45 1) (Jn (l50.length))).bind fun x51=>
(D.truth x51).bind fun b52=>
 if b52 then((D.truth (gx v45 0)).bind fun b53=>
(if b53 then(some true) else((D.asSl r31).bind fun l54=>
(D.idx (gx v41 1) (l54.length)).bind fun i55=>
(l54[i55]?).bind fun x56=>
(D.fld x56 2).bind fun x57=>
(D.asSl x57).bind fun l58=>
(D.idx (gx v45 1) (l58.length)).bind fun i59=>
(l58[i59]?).bind fun x60=>
 D.truth (D.bool (D.beq x60 (gx v37 0))))).bind fun b61=>
(D.bin .add (gx v45 1) (Jn 1)).bind fun x62=>
 some (Sum.inl [(D.bool b61),x62,(D.sl ((gx v45 2).els)),(gx v45 3),(D.sl ((gx v45 4).els)),(gx v45 5)])) else(some (Sum.inr (0,[(gx v45 0),(D.sl ((gx v45 2).els)),(gx v45 3),(D.sl ((gx v45 4).els)),(gx v45 5)])))) [(gx v41 0),(Jn 0),(D.sl ((gx v41 2).els)),(gx v41 3),(D.sl ((gx v41 4).els)),(gx v41 5)]).bind fun r63=>
(D.bin .add (gx v41 1) (Jn 1)).bind fun x64=>
 some (Sum.inl [(gx r63.2 0),x64,(D.sl ((gx r63.2 1).els)),(gx r63.2 2),(D.sl ((gx r63.2 3).els)),(gx r63.2 4)])) else(some (Sum.inr (0,[(gx v41 0),(D.sl ((gx v41 2).els)),(gx v41 3),(D.sl ((gx v41 4).els)),(gx v41 5)])))) [(D.bool false),(Jn 0),(D.sl ((gx v37 1).els)),(gx v37 2),(D.sl ((gx v37 3).els)),(gx v37 4)]).bind fun r65=>
(D.truth (gx r65.2 0)).bind fun b66=>
 if b66 then((D.asSl r30).bind fun l67=>
(D.idx (gx v37 0) (l67.length)).bind fun i68=>
(l67[i68]?).bind fun x69=>
 if List.length ((gx r65.2 3).els)+List.length [x69]<=1073741824 then(some (0,[(D.sl ((gx r65.2 1).els)),(gx r65.2 2),(D.sl (((gx r65.2 3).els)++[x69])),(gx r65.2 4)])) else none) else(some (0,[(D.sl ((gx r65.2 1).els)),(gx r65.2 2),(D.sl ((gx r65.2 3).els)),(gx r65.2 4)]))).bind fun(r70:Nat×List D)=>
(D.bin .add (gx v37 0) (Jn 1)).bind fun x71=>
 some (Sum.inl [x71,(D.sl ((gx r70.2 0).els)),(gx r70.2 1),(D.sl ((gx r70.2 2).els)),(gx r70.2 3)])) else(some (Sum.inr (0,[(D.sl ((gx v37 1).els)),(gx v37 2),(D.sl ((gx v37 3).els)),(gx v37 4)])))) [(Jn 0),(D.sl ((gx r29.2 0).els)),(gx r29.2 1),(D.sl []),(Jn 0)]).bind fun r72=>
 some (D.st [(D.st [(D.sl ((gx r72.2 2).els))]),(gx r72.2 3)])))))
theorem RN{lp}(hlp:ak lp):ac 12 (m1 (Hr lp)):=aU (v:=0) (fn:=Tryz.f169) (ann:=Q3) hlp
def Q4:Ann:=(.tl (.tl (.two (.tl (.two (.loop ⟨[(5,.di)],[],[0,1]⟩ [(.ret,⟨[(4,.dv Ty.bool)],[],[]⟩),(.exit 0,⟨[],[],[]⟩)] (.tl (.two (.two (.two (.reg [] 8) .leaf) .leaf) .leaf))) .leaf)) .leaf)))
def Jj(lp:Lp)(call:Ca)(a0:D)(a1:D):Option D:=
(D.asSl a0).bind fun l1=>
(D.asSl a1).bind fun l2=>
(D.truth (D.bool (!(D.beq (Jn (l1.length)) (Jn (l2.length)))))).bind fun b3=>
 if b3 then(some (D.bool false)) else((lp (β:=Nat×List D) (fun v4=>
(D.asSl a0).bind fun l5=>
(D.bin .lss (gx v4 0) (Jn (l5.length))).bind fun x6=>
(D.truth x6).bind fun b7=>
 if b7 then((D.asSl a0).bind fun l8=>
(D.idx (gx v4 0) (l8.length)).bind fun i9=>
(l8[i9]?).bind fun x10=>
(D.asSl a1).bind fun l11=>
(D.idx (gx v4 0) (l11.length)).bind fun lg=>
(l11[lg]?).bind fun x13=>
(D.truth (D.bool (!(D.beq x10 x13)))).bind fun b14=>
 if b14 then(some (Sum.inr (0,[(D.bool false)]))) else((D.bin .add (gx v4 0) (Jn 1)).bind fun x15=>
 some (Sum.inl [x15]))) else(some (Sum.inr (1,[])))) [(Jn 0)]).bind fun r16=>
 if r16.1=0 then(some (gx r16.2 0)) else(some (D.bool true)))
theorem RO{lp}(hlp:ak lp):ac 13 (m2 (Jj lp)):=aO (v:=0) (fn:=Tryz.f170) (ann:=Q4) hlp
def Jk(lp:Lp)(call:Ca)(a0:D):Option D:=
(D.get a0 [0]).bind fun x1=>
(call 12 [x1]).bind fun r2=>
(D.get r2 [1]).bind fun x3=>
(D.truth (D.bool (D.beq x3 (Jn 0)))).bind fun b4=>
(if b4 then((D.get r2 [0,0]).bind fun x5=>
(D.get a0 [0]).bind fun x6=>
(call 13 [x5,x6]).bind fun r7=>
(D.un .not r7).bind fun x8=>
 D.truth x8) else(some false)).bind fun b9=>
(D.truth (D.bool b9)).bind fun b10=>
 if b10 then(some (Jn 3)) else((D.get r2 [1]).bind fun x11=>
 some x11)
theorem RP{lp}(hlp:ak lp):ac 15 (m1 (Jk lp)):=aU (v:=0) (fn:=Tryz.f128) (ann:=.leaf) hlp
def Q5:Ann:=(.tl (.tl (.two (.tl (.two (.loop ⟨[(1,.sp K3 4097),(3,.ow K6),(10,.di)],[(4097,.keep K3 1)],[8,9]⟩ [(.exit 0,⟨[(3,.ow K6)],[],[]⟩)] (.tl (.tl (.two (.two (.tl (.reg [] 11)) .leaf) .leaf)))) .leaf)) .leaf)))
def Jl(lp:Lp)(call:Ca)(a0:D):Option D:=
(D.get a0 [0]).bind fun x1=>
(call 45 [x1]).bind fun r2=>
(D.asSl r2).bind fun l3=>
(lp (β:=Nat×List D) (fun v4=>
(D.bin .lss (gx v4 1) (Jn (l3.length))).bind fun x5=>
(D.truth x5).bind fun b6=>
 if b6 then((D.asSl r2).bind fun l7=>
(D.idx (gx v4 1) (l7.length)).bind fun i8=>
(l7[i8]?).bind fun x9=>
(D.get x9 [0]).bind fun x10=>
(D.get x9 [1]).bind fun x11=>
(D.get a0 [0]).bind fun x12=>
(call 46 [x12,x9]).bind fun r13=>
 if List.length ((gx v4 0).els)+List.length [(D.st [x10,x11,r13])]<=1073741824 then((D.bin .add (gx v4 1) (Jn 1)).bind fun x14=>
 some (Sum.inl [(D.sl (((gx v4 0).els)++[(D.st [x10,x11,r13])])),x14])) else none) else(some (Sum.inr (0,[(D.sl ((gx v4 0).els))])))) [(D.sl []),(Jn 0)]).bind fun r15=>
 some (D.sl ((gx r15.2 0).els))
theorem RQ{lp}(hlp:ak lp):ac 18 (m1 (Jl lp)):=aU (v:=0) (fn:=Tryz.f176) (ann:=Q5) hlp
def Jm(lp:Lp)(call:Ca)(a0:D):Option D:=
(D.get a0 [0]).bind fun x1=>
(call 48 [x1]).bind fun r2=>
 some r2
theorem RR{lp}(hlp:ak lp):ac 19 (m1 (Jm lp)):=aU (v:=0) (fn:=Tryz.f171) (ann:=.leaf) hlp
def Q6:Ann:=(.tl (.tl (.tl (.two (.tl (.two (.loop ⟨[(1,.sp K3 4097),(3,.ow K8),(5,.di)],[(4097,.keep K3 1)],[4]⟩ [(.exit 0,⟨[(3,.ow K8)],[],[]⟩)] (.tl (.two (.two (.tl (.two (.loop ⟨[(1,.sp K3 4097),(3,.ow K8),(6,.di)],[(4097,.keep K3 1)],[4,5]⟩ [(.exit 2,⟨[(1,.sp K3 4097),(3,.ow K8)],[(4097,.keep K3 1)],[4,5]⟩)] (.tl (.cut [(.normal,⟨[(1,.sp K3 4097),(3,.ow K8)],[(4097,.keep K3 1)],[4,5,6]⟩)] [4,5,6] [4097] (.two (.tl (.two (.tl (.two (.loop ⟨[(1,.sp K3 4097),(3,.ow K8),(7,.dv Ty.bool),(8,.di)],[(4097,.keep K3 1)],[4,5,6]⟩ [(.exit 4,⟨[(1,.sp K3 4097),(3,.ow K8),(7,.dv Ty.bool)],[(4097,.keep K3 1)],[4,5,6]⟩)] (.tl (.two (.two (.tl (.tl (.two (.loop ⟨[(1,.sp K3 4097),(3,.ow K8),(7,.dv Ty.bool),(10,.di)],[(4097,.keep K3 1)],[4,5,6,8,9]⟩ [(.exit 6,⟨[(1,.sp K3 4097),(3,.ow K8),(7,.dv Ty.bool)],[(4097,.keep K3 1)],[4,5,6,8]⟩)] .leaf) .leaf))) .leaf) .leaf))) .leaf)) .leaf)) .leaf) .leaf))) .leaf)) .leaf) .leaf))) .leaf)) .leaf))))
def Jo(lp:Lp)(call:Ca)(a0:D):Option D:=
(call 19 [a0]).bind fun r1=>
(lp (β:=Nat×List D) (fun v2=>
(D.get a0 [0]).bind fun x3=>
(D.asSl x3).bind fun l4=>
(D.bin .lss (gx v2 1) (Jn (l4.length))).bind fun x5=>
(D.truth x5).bind fun b6=>
 if b6 then((D.bin .add (gx v2 1) (Jn 1)).bind fun x7=>
(lp (β:=Nat×List D) (fun v8=>
(D.get a0 [0]).bind fun x9=>
(D.asSl x9).bind fun l10=>
(D.bin .lss (gx v8 1) (Jn (l10.length))).bind fun x11=>
(D.truth x11).bind fun b12=>
 if b12 then(((lp (β:=Nat×List D) (fun v13=>
(D.asSl r1).bind fun l14=>
(D.bin .lss (gx v13 2) (Jn (l14.length))).bind fun x15=>
(D.truth x15).bind fun b16=>
 if b16 then((D.asSl r1).bind fun l17=>
(D.idx (gx v13 2) (l17.length)).bind fun i18=>
(l17[i18]?).bind fun x19=>
(D.fld x19 2).bind fun x20=>
(lp (β:=Nat×List D) (fun v21=>
(D.asSl x20).bind fun l22=>
(D.bin .lss (gx v21 2) (Jn (l22.length))).bind fun x23=>
(D.truth x23).bind fun b24=>
 if b24 then((D.truth (gx v21 1)).bind fun b25=>
(if b25 then(some true) else((D.asSl x20).bind fun l26=>
(D.idx (gx v21 2) (l26.length)).bind fun i27=>
(l26[i27]?).bind fun x28=>
(D.truth (D.bool (D.beq x28 (gx v2 1)))).bind fun b29=>
 if b29 then((D.bin .add (gx v21 2) (Jn 1)).bind fun x30=>
(D.asSl x20).bind fun l31=>
(D.bin .rem x30 (Jn (l31.length))).bind fun x32=>
(D.asSl x20).bind fun l33=>
(D.idx x32 (l33.length)).bind fun i34=>
(l33[i34]?).bind fun x35=>
 D.truth (D.bool (D.beq x35 (gx v8 1)))) else(some false))).bind fun b36=>
(D.truth (D.bool b36)).bind fun b37=>
(if b37 then(some true) else((D.asSl x20).bind fun l38=>
(D.idx (gx v21 2) (l38.length)).bind fun i39=>
(l38[i39]?).bind fun x40=>
(D.truth (D.bool (D.beq x40 (gx v8 1)))).bind fun b41=>
 if b41 then((D.bin .add (gx v21 2) (Jn 1)).bind fun x42=>
(D.asSl x20).bind fun l43=>
(D.bin .rem x42 (Jn (l43.length))).bind fun x44=>
(D.asSl x20).bind fun l45=>
(D.idx x44 (l45.length)).bind fun i46=>
(l45[i46]?).bind fun x47=>
 D.truth (D.bool (D.beq x47 (gx v2 1)))) else(some false))).bind fun b48=>
(D.bin .add (gx v21 2) (Jn 1)).bind fun x49=>
 some (Sum.inl [(D.sl ((gx v21 0).els)),(D.bool b48),x49])) else(some (Sum.inr (0,[(D.sl ((gx v21 0).els)),(gx v21 1)])))) [(D.sl ((gx v13 0).els)),(gx v13 1),(Jn 0)]).bind fun r50=>
(D.bin .add (gx v13 2) (Jn 1)).bind fun x51=>
 some (Sum.inl [(D.sl ((gx r50.2 0).els)),(gx r50.2 1),x51])) else(some (Sum.inr (0,[(D.sl ((gx v13 0).els)),(gx v13 1)])))) [(D.sl ((gx v8 0).els)),(D.bool false),(Jn 0)]).bind fun r52=>
(D.truth (gx r52.2 1)).bind fun b53=>
 if b53 then(if List.length ((gx r52.2 0).els)+List.length [(D.st [(gx v2 1),(gx v8 1)])]<=1073741824 then(some (0,[(D.sl (((gx r52.2 0).els)++[(D.st [(gx v2 1),(gx v8 1)])]))])) else none) else(some (0,[(D.sl ((gx r52.2 0).els))]))).bind fun(r54:Nat×List D)=>
(D.bin .add (gx v8 1) (Jn 1)).bind fun x55=>
 some (Sum.inl [(D.sl ((gx r54.2 0).els)),x55])) else(some (Sum.inr (0,[(D.sl ((gx v8 0).els))])))) [(D.sl ((gx v2 0).els)),x7]).bind fun r56=>
(D.bin .add (gx v2 1) (Jn 1)).bind fun x57=>
 some (Sum.inl [(D.sl ((gx r56.2 0).els)),x57])) else(some (Sum.inr (0,[(D.sl ((gx v2 0).els))])))) [(D.sl []),(Jn 0)]).bind fun r58=>
 some (D.sl ((gx r58.2 0).els))
theorem RS{lp}(hlp:ak lp):ac 22 (m1 (Jo lp)):=aU (v:=0) (fn:=Tryz.f206) (ann:=Q6) hlp
def Q7:Ann:=(.tl (.tl (.two (.regI [] 3 (.two (.tl (.tl (.two (.loop ⟨[(1,.same (.clo 183 [(.ptr aw 8195 [])])),(2,.sp K3 20482),(11,.di)],[(4098,.one aw (.dv aw)),(8195,.one aw (.dv aw)),(20482,.keep K3 2)],[9,10]⟩ [(.exit 0,⟨[],[(4098,.one aw (.dv aw)),(8195,.one aw (.dv aw))],[]⟩)] (.tl (.tl (.two (.two (.tl (.tl (.two (.loop ⟨[(1,.same (.clo 183 [(.ptr aw 8195 [])])),(2,.sp K3 20482),(5,.sp K6 36869),(6,.di)],[(4098,.one aw (.dv aw)),(8195,.one aw (.dv aw)),(20482,.keep K3 2),(36869,.keep K6 5)],[9,10,11]⟩ [(.exit 2,⟨[(1,.same (.clo 183 [(.ptr aw 8195 [])])),(2,.sp K3 20482)],[(4098,.one aw (.dv aw)),(8195,.one aw (.dv aw)),(20482,.keep K3 2)],[9,10,11]⟩)] (.tl (.two (.two (.two (.reg [] 29) (.regI [] 10 .leaf)) .leaf) .leaf))) .leaf))) .leaf) .leaf)))) .leaf))) .leaf)) .leaf)))
def QG(lp:Lp)(call:Ca)(a0:D):Option D:=
(call 54 [(Jn 0)]).bind fun r1=>
(call 18 [a0]).bind fun r2=>
(D.asSl r2).bind fun l3=>
(lp (β:=Nat×List D) (fun v4=>
(D.bin .lss (gx v4 0) (Jn (l3.length))).bind fun x5=>
(D.truth x5).bind fun b6=>
 if b6 then((D.asSl r2).bind fun l7=>
(D.idx (gx v4 0) (l7.length)).bind fun i8=>
(l7[i8]?).bind fun x9=>
(lp (β:=Nat×List D) (fun v10=>
(D.get x9 [2]).bind fun x11=>
(D.asSl x11).bind fun l12=>
(D.bin .lss (gx v10 0) (Jn (l12.length))).bind fun x13=>
(D.truth x13).bind fun b14=>
 if b14 then((D.get a0 [0]).bind fun x15=>
(D.get x9 [2]).bind fun x16=>
(D.asSl x16).bind fun l17=>
(D.idx (Jn 0) (l17.length)).bind fun i18=>
(l17[i18]?).bind fun x19=>
(D.asSl x15).bind fun l20=>
(D.idx x19 (l20.length)).bind fun i21=>
(l20[i21]?).bind fun x22=>
(D.get a0 [0]).bind fun x23=>
(D.get x9 [2]).bind fun x24=>
(D.bin .sub (gx v10 0) (Jn 1)).bind fun x25=>
(D.asSl x24).bind fun l26=>
(D.idx x25 (l26.length)).bind fun i27=>
(l26[i27]?).bind fun x28=>
(D.asSl x23).bind fun l29=>
(D.idx x28 (l29.length)).bind fun i30=>
(l29[i30]?).bind fun x31=>
(D.get a0 [0]).bind fun x32=>
(D.get x9 [2]).bind fun x33=>
(D.asSl x33).bind fun l34=>
(D.idx (gx v10 0) (l34.length)).bind fun i35=>
(l34[i35]?).bind fun x36=>
(D.asSl x32).bind fun l37=>
(D.idx x36 (l37.length)).bind fun i38=>
(l37[i38]?).bind fun x39=>
(call 117 [x22,x31]).bind fun r40=>
(call 91 [r40,x39]).bind fun r41=>
(call 57 [(gx v10 2),r41]).bind fun r42=>
(D.bin .add (gx v10 0) (Jn 1)).bind fun x43=>
 some (Sum.inl [x43,(gx v10 1),r42])) else(some (Sum.inr (0,[(gx v10 1),(gx v10 2)])))) [(Jn 2),(gx v4 1),(gx v4 2)]).bind fun r44=>
(D.bin .add (gx v4 0) (Jn 1)).bind fun x45=>
 some (Sum.inl [x45,(gx r44.2 0),(gx r44.2 1)])) else(some (Sum.inr (0,[(gx v4 1),(gx v4 2)])))) [(Jn 0),(D.st [(D.bool false),(D.bool false),(aF aW)]),r1]).bind fun r46=>
 some (gx r46.2 1)
theorem RT{lp}(hlp:ak lp):ac 23 (m1 (QG lp)):=aU (v:=0) (fn:=Tryz.f142) (ann:=Q7) hlp
end Sy
end
end
noncomputable section
set_option maxHeartbeats 0
noncomputable section
namespace Sy
open Go Go.Proofs
def Q8:Ann:=(.tl (.tl (.two (.regI [] 3 (.two (.tl (.tl (.two (.loop ⟨[(1,.same (.clo 135 [(.ptr jx 8195 [])])),(2,.sp K3 20482),(11,.di)],[(4098,.one be (.st [Ti,Ti,eH] [.di,.di,.ow aL])),(8195,.one jx (.dv jx)),(20482,.keep K3 2)],[9,10]⟩ [(.exit 0,⟨[],[(4098,.one be (.st [Ti,Ti,eH] [.di,.di,.ow aL])),(8195,.one jx (.dv jx))],[]⟩)] (.tl (.tl (.two (.two (.tl (.tl (.two (.loop ⟨[(1,.same (.clo 135 [(.ptr jx 8195 [])])),(2,.sp K3 20482),(5,.sp K6 36869),(6,.di)],[(4098,.one be (.st [Ti,Ti,eH] [.di,.di,.ow aL])),(8195,.one jx (.dv jx)),(20482,.keep K3 2),(36869,.keep K6 5)],[9,10,11]⟩ [(.exit 2,⟨[(1,.same (.clo 135 [(.ptr jx 8195 [])])),(2,.sp K3 20482)],[(4098,.one be (.st [Ti,Ti,eH] [.di,.di,.ow aL])),(8195,.one jx (.dv jx)),(20482,.keep K3 2)],[9,10,11]⟩)] (.tl (.two (.two (.two (.reg [] 29) (.regI [] 10 (.two (.tl (.tl (.two (.loop ⟨[(2,.sp jx 8195),(3,.sp aw 65539),(4,.sp ye 65540),(10,.di)],[(4098,.one be (.st [Ti,Ti,eH] [.di,.di,.ow aL])),(8195,.one jx (.dv jx)),(20482,.one K3 (.dv K3)),(36869,.one K6 (.dv K6)),(65539,.keep aw 3),(65540,.keep ye 4)],[]⟩ [(.exit 0,⟨[],[(4098,.one be (.st [Ti,Ti,eH] [.di,.di,.ow aL])),(8195,.one jx (.dv jx)),(20482,.one K3 (.dv K3)),(36869,.one K6 (.dv K6))],[]⟩)] (.tl (.tl (.two (.two (.tl (.tl (.two (.loop ⟨[(2,.sp jx 8195),(3,.sp aw 65539),(4,.sp ye 65540),(13,.di)],[(4098,.one be (.st [Ti,Ti,eH] [.di,.di,.ow aL])),(8195,.one jx (.dv jx)),(20482,.one K3 (.dv K3)),(36869,.one K6 (.dv K6)),(65539,.keep aw 3),(65540,.keep ye 4)],[5,10]⟩ [(.exit 2,⟨[(2,.sp jx 8195),(3,.sp aw 65539),(4,.sp ye 65540)],[(4098,.one be (.st [Ti,Ti,eH] [.di,.di,.ow aL])),(8195,.one jx (.dv jx)),(20482,.one K3 (.dv K3)),(36869,.one K6 (.dv K6)),(65539,.keep aw 3),(65540,.keep ye 4)],[10]⟩)] (.tl (.tl (.two (.two (.tl (.two (.reg [] 29) (.two (.tl (.two (.loop ⟨[(2,.sp jx 8195),(3,.sp aw 65539),(4,.sp ye 65540),(7,.di),(46,.di)],[(4098,.one be (.st [Ti,Ti,eH] [.di,.di,.ow aL])),(8195,.keep jx 2),(20482,.one K3 (.dv K3)),(36869,.one K6 (.dv K6)),(65539,.keep aw 3),(65540,.keep ye 4)],[5,6,10,13,45]⟩ [(.exit 4,⟨[(2,.sp jx 8195),(3,.sp aw 65539),(4,.sp ye 65540),(7,.di)],[(4098,.one be (.st [Ti,Ti,eH] [.di,.di,.ow aL])),(8195,.keep jx 2),(20482,.one K3 (.dv K3)),(36869,.one K6 (.dv K6)),(65539,.keep aw 3),(65540,.keep ye 4)],[5,6,10,13]⟩)] (.tl (.tl (.two (.two (.tl (.reg [] 9)) .leaf) .leaf)))) .leaf)) (.reg [] 14)))) .leaf) .leaf)))) .leaf))) .leaf) .leaf)))) .leaf))) .leaf))) .leaf) .leaf))) .leaf))) .leaf) .leaf)))) .leaf))) .leaf)) (.two (.reg [] 12) (.tl (.two (.tl (.two (.loop ⟨[(2,.sp be 4098),(3,.sp jx 8195),(4,.sp aw 36868),(5,.sp be 40965),(24,.di)],[(4098,.one be (.st [Ti,Ti,eH] [.di,.di,.ow aL])),(8195,.keep jx 3),(36868,.keep aw 4),(40965,.one be (.st [Ti,Ti,eH] [.di,.di,.ow aL]))],[]⟩ [(.exit 0,⟨[(2,.sp be 4098),(5,.sp be 40965)],[(4098,.one be (.st [Ti,Ti,eH] [.di,.di,.ow aL])),(40965,.one be (.st [Ti,Ti,eH] [.di,.di,.ow aL]))],[]⟩)] (.tl (.tl (.two (.two (.tl (.tl (.two (.loop ⟨[(2,.sp be 4098),(3,.sp jx 8195),(4,.sp aw 36868),(5,.sp be 40965),(27,.di)],[(4098,.one be (.st [Ti,Ti,eH] [.di,.di,.ow aL])),(8195,.keep jx 3),(36868,.keep aw 4),(40965,.one be (.st [Ti,Ti,eH] [.di,.di,.ow aL]))],[6,24]⟩ [(.exit 2,⟨[(2,.sp be 4098),(3,.sp jx 8195),(4,.sp aw 36868),(5,.sp be 40965)],[(4098,.one be (.st [Ti,Ti,eH] [.di,.di,.ow aL])),(8195,.keep jx 3),(36868,.keep aw 4),(40965,.one be (.st [Ti,Ti,eH] [.di,.di,.ow aL]))],[24]⟩)] (.tl (.tl (.two (.two (.tl (.tl (.cut [(.normal,⟨[(2,.sp be 4098),(3,.sp jx 8195),(4,.sp aw 36868),(5,.sp be 40965),(8,.sp aw 77832)],[(4098,.one be (.st [Ti,Ti,eH] [.di,.di,.ow aL])),(8195,.keep jx 3),(36868,.keep aw 4),(40965,.one be (.st [Ti,Ti,eH] [.di,.di,.ow aL])),(77832,.one aw (.dv aw))],[6,24,27]⟩)] [6,24,27] [8195,36868] .leaf (.reg [] 6)))) .leaf) .leaf)))) .leaf))) .leaf) .leaf)))) .leaf)) .leaf))))))
def QH(lp:Lp)(call:Ca)(a0:D):Option D:=
(call 18 [a0]).bind fun r1=>
(D.asSl r1).bind fun l2=>
(lp (β:=Nat×List D) (fun v3=>
(D.bin .lss (gx v3 0) (Jn (l2.length))).bind fun x4=>
(D.truth x4).bind fun b5=>
 if b5 then((D.asSl r1).bind fun l6=>
(D.idx (gx v3 0) (l6.length)).bind fun i7=>
(l6[i7]?).bind fun x8=>
(lp (β:=Nat×List D) (fun v9=>
(D.get x8 [2]).bind fun x10=>
(D.asSl x10).bind fun l11=>
(D.bin .lss (gx v9 0) (Jn (l11.length))).bind fun x12=>
(D.truth x12).bind fun b13=>
 if b13 then((D.get a0 [0]).bind fun x14=>
(D.get x8 [2]).bind fun x15=>
(D.asSl x15).bind fun l16=>
(D.idx (Jn 0) (l16.length)).bind fun i17=>
(l16[i17]?).bind fun x18=>
(D.asSl x14).bind fun l19=>
(D.idx x18 (l19.length)).bind fun i20=>
(l19[i20]?).bind fun x21=>
(D.get a0 [0]).bind fun x22=>
(D.get x8 [2]).bind fun x23=>
(D.bin .sub (gx v9 0) (Jn 1)).bind fun x24=>
(D.asSl x23).bind fun l25=>
(D.idx x24 (l25.length)).bind fun i26=>
(l25[i26]?).bind fun x27=>
(D.asSl x22).bind fun l28=>
(D.idx x27 (l28.length)).bind fun i29=>
(l28[i29]?).bind fun x30=>
(D.get a0 [0]).bind fun x31=>
(D.get x8 [2]).bind fun x32=>
(D.asSl x32).bind fun l33=>
(D.idx (gx v9 0) (l33.length)).bind fun i34=>
(l33[i34]?).bind fun x35=>
(D.asSl x31).bind fun l36=>
(D.idx x35 (l36.length)).bind fun i37=>
(l36[i37]?).bind fun x38=>
(call 117 [x21,x30]).bind fun r39=>
(call 91 [r39,x38]).bind fun r40=>
(lp (β:=Nat×List D) (fun v41=>
(D.bin .lss (gx v41 0) (Jn 3)).bind fun x42=>
(D.truth x42).bind fun b43=>
 if b43 then((lp (β:=Nat×List D) (fun v44=>
(D.bin .lss (gx v44 0) (Jn 3)).bind fun x45=>
(D.truth x45).bind fun b46=>
 if b46 then((D.idx (gx v41 0) 3).bind fun i47=>
(D.get x21 [i47]).bind fun x48=>
(D.idx (gx v41 0) 3).bind fun i49=>
(D.get x30 [i49]).bind fun x50=>
(D.bin .add x48 x50).bind fun x51=>
(D.idx (gx v41 0) 3).bind fun i52=>
(D.get x38 [i52]).bind fun x53=>
(D.bin .add x51 x53).bind fun x54=>
(D.idx (gx v44 0) 3).bind fun i55=>
(D.get x21 [i55]).bind fun x56=>
(D.idx (gx v44 0) 3).bind fun i57=>
(D.get x30 [i57]).bind fun x58=>
(D.bin .add x56 x58).bind fun x59=>
(D.idx (gx v44 0) 3).bind fun i60=>
(D.get x38 [i60]).bind fun x61=>
(D.bin .add x59 x61).bind fun x62=>
(D.bin .mul x54 x62).bind fun x63=>
(lp (β:=Nat×List D) (fun v64=>
(D.bin .lss (gx v64 1) (Jn 3)).bind fun x65=>
(D.truth x65).bind fun b66=>
 if b66 then((D.idx (gx v64 1) 3).bind fun i67=>
(D.fld (D.st [x21,x30,x38]) i67).bind fun x68=>
(D.idx (gx v41 0) 3).bind fun i69=>
(D.get x68 [i69]).bind fun x70=>
(D.idx (gx v44 0) 3).bind fun i71=>
(D.get x68 [i71]).bind fun x72=>
(D.bin .mul x70 x72).bind fun x73=>
(D.bin .add (gx v64 0) x73).bind fun x74=>
(D.bin .add (gx v64 1) (Jn 1)).bind fun x75=>
 some (Sum.inl [x74,x75,(gx v64 2),(gx v64 3),(D.sl ((gx v64 4).els)),(gx v64 5),(gx v64 6)])) else(some (Sum.inr (0,[(gx v64 0),(gx v64 2),(gx v64 3),(D.sl ((gx v64 4).els)),(gx v64 5),(gx v64 6)])))) [x63,(Jn 0),(gx v44 1),(gx v44 2),(D.sl ((gx v44 3).els)),(gx v44 5),(gx v44 6)]).bind fun r76=>
(D.idx (gx v41 0) 3).bind fun i77=>
(D.idx (gx v44 0) 3).bind fun i78=>
(D.get (gx v44 4) [i77,i78]).bind fun x79=>
(call 54 [(gx r76.2 0)]).bind fun r80=>
(call 61 [r40,r80]).bind fun r81=>
(call 57 [x79,r81]).bind fun r82=>
(D.idx (gx v41 0) 3).bind fun i83=>
(D.idx (gx v44 0) 3).bind fun i84=>
(D.set (gx v44 4) [i83,i84] r82).bind fun x85=>
(D.bin .add (gx v44 0) (Jn 1)).bind fun x86=>
 some (Sum.inl [x86,(gx r76.2 1),(gx r76.2 2),(D.sl ((gx r76.2 3).els)),x85,(gx r76.2 4),(gx r76.2 5)])) else(some (Sum.inr (0,[(gx v44 1),(gx v44 2),(D.sl ((gx v44 3).els)),(gx v44 4),(gx v44 5),(gx v44 6)])))) [(Jn 0),(gx v41 1),(gx v41 2),(D.sl ((gx v41 3).els)),(gx v41 4),(gx v41 5),(gx v41 6)]).bind fun r87=>
(D.bin .add (gx v41 0) (Jn 1)).bind fun x88=>
 some (Sum.inl [x88,(gx r87.2 0),(gx r87.2 1),(D.sl ((gx r87.2 2).els)),(gx r87.2 3),(gx r87.2 4),(gx r87.2 5)])) else(some (Sum.inr (0,[(gx v41 1),(gx v41 2),(D.sl ((gx v41 3).els)),(gx v41 4),(gx v41 5),(gx v41 6)])))) [(Jn 0),(gx v9 1),(gx v9 2),(D.sl ((gx v9 3).els)),(gx v9 4),a0,x8]).bind fun r89=>
(D.bin .add (gx v9 0) (Jn 1)).bind fun x90=>
 some (Sum.inl [x90,(gx r89.2 0),(gx r89.2 1),(D.sl ((gx r89.2 2).els)),(gx r89.2 3)])) else(some (Sum.inr (0,[(gx v9 1),(gx v9 2),(D.sl ((gx v9 3).els)),(gx v9 4)])))) [(Jn 2),(gx v3 1),(gx v3 2),(D.sl ((gx v3 3).els)),(gx v3 4)]).bind fun r91=>
(D.bin .add (gx v3 0) (Jn 1)).bind fun x92=>
 some (Sum.inl [x92,(gx r91.2 0),(gx r91.2 1),(D.sl ((gx r91.2 2).els)),(gx r91.2 3)])) else(some (Sum.inr (0,[(gx v3 1),(gx v3 2),(D.sl ((gx v3 3).els)),(gx v3 4)])))) [(Jn 0),(Jn 0),(Jn 0),(D.sl []),(D.st [(D.st [(D.st [(D.bool false),(D.bool false),(aF aW)]),(D.st [(D.bool false),(D.bool false),(aF aW)]),(D.st [(D.bool false),(D.bool false),(aF aW)])]),(D.st [(D.st [(D.bool false),(D.bool false),(aF aW)]),(D.st [(D.bool false),(D.bool false),(aF aW)]),(D.st [(D.bool false),(D.bool false),(aF aW)])]),(D.st [(D.st [(D.bool false),(D.bool false),(aF aW)]),(D.st [(D.bool false),(D.bool false),(aF aW)]),(D.st [(D.bool false),(D.bool false),(aF aW)])])])]).bind fun r93=>
(D.get (gx r93.2 3) [0,0]).bind fun x94=>
(D.get (gx r93.2 3) [1,1]).bind fun x95=>
(call 57 [x94,x95]).bind fun r96=>
(D.get (gx r93.2 3) [2,2]).bind fun x97=>
(call 57 [r96,x97]).bind fun r98=>
(lp (β:=Nat×List D) (fun v99=>
(D.bin .lss (gx v99 0) (Jn 3)).bind fun x100=>
(D.truth x100).bind fun b101=>
 if b101 then((lp (β:=Nat×List D) (fun v102=>
(D.bin .lss (gx v102 0) (Jn 3)).bind fun x103=>
(D.truth x103).bind fun b104=>
 if b104 then((D.idx (gx v99 0) 3).bind fun i105=>
(D.idx (gx v102 0) 3).bind fun i106=>
(D.get (gx r93.2 3) [i105,i106]).bind fun x107=>
(call 68 [x107]).bind fun r108=>
((D.truth (D.bool (D.beq (gx v99 0) (gx v102 0)))).bind fun b109=>
 if b109 then((call 57 [r108,r98]).bind fun r110=>
 some (0,[(gx v102 1),(gx v102 2),(D.sl ((gx v102 3).els)),(gx v102 4),(gx v102 5),(D.sl ((gx v102 6).els)),r110])) else(some (0,[(gx v102 1),(gx v102 2),(D.sl ((gx v102 3).els)),(gx v102 4),(gx v102 5),(D.sl ((gx v102 6).els)),r108]))).bind fun(r111:Nat×List D)=>
(call 54 [(Jn 120)]).bind fun r112=>
(call 62 [(gx r111.2 6),r112]).bind fun r113=>
 if List.length ((gx r111.2 5).els)+List.length [r113]<=1073741824 then((D.bin .add (gx v102 0) (Jn 1)).bind fun x114=>
 some (Sum.inl [x114,(gx r111.2 0),(gx r111.2 1),(D.sl ((gx r111.2 2).els)),(gx r111.2 3),(gx r111.2 4),(D.sl (((gx r111.2 5).els)++[r113]))])) else none) else(some (Sum.inr (0,[(gx v102 1),(gx v102 2),(D.sl ((gx v102 3).els)),(gx v102 4),(gx v102 5),(D.sl ((gx v102 6).els))])))) [(Jn 0),(gx v99 1),(gx v99 2),(D.sl ((gx v99 3).els)),(gx v99 4),(gx v99 5),(D.sl ((gx v99 6).els))]).bind fun r115=>
(D.bin .add (gx v99 0) (Jn 1)).bind fun x116=>
 some (Sum.inl [x116,(gx r115.2 0),(gx r115.2 1),(D.sl ((gx r115.2 2).els)),(gx r115.2 3),(gx r115.2 4),(D.sl ((gx r115.2 5).els))])) else(some (Sum.inr (0,[(gx v99 1),(gx v99 2),(D.sl ((gx v99 3).els)),(gx v99 4),(gx v99 5),(D.sl ((gx v99 6).els))])))) [(Jn 0),(gx r93.2 0),(gx r93.2 1),(D.sl ((gx r93.2 2).els)),(Jn 3),(Jn 3),(D.sl [])]).bind fun r117=>
 some (D.st [(gx r117.2 3),(gx r117.2 4),(D.sl ((gx r117.2 5).els))])
theorem RU{lp}(hlp:ak lp):ac 28 (m1 (QH lp)):=aU (v:=0) (fn:=Tryz.f84) (ann:=Q8) hlp
def Q9:Ann:=(.tl (.tl (.tl (.tl (.tl (.tl (.tl (.cut [(.normal,⟨[(5,.dv K5),(6,.dv K5)],[],[]⟩)] [] [] .leaf .leaf))))))))
def Jp(lp:Lp)(call:Ca)(a0:D)(a1:D):Option D:=
(call 76 [a0]).bind fun r1=>
(D.un .not r1).bind fun x2=>
(D.truth x2).bind fun b3=>
(if b3 then((call 76 [a1]).bind fun r4=>
(D.un .not r4).bind fun x5=>
 D.truth x5) else(some false)).bind fun b6=>
(D.truth (D.bool b6)).bind fun b7=>
 if b7 then(some (Jn 0)) else((call 76 [a0]).bind fun r8=>
(D.un .not r8).bind fun x9=>
(D.truth x9).bind fun b10=>
 if b10 then(some (Jn (-1))) else((call 76 [a1]).bind fun r11=>
(D.un .not r11).bind fun x12=>
(D.truth x12).bind fun b13=>
 if b13 then(some (Jn 1)) else((D.get a0 [1]).bind fun x14=>
(D.get a1 [1]).bind fun x15=>
(D.truth (D.bool (!(D.beq x14 x15)))).bind fun b16=>
 if b16 then((D.get a0 [1]).bind fun x17=>
(D.truth x17).bind fun b18=>
 if b18 then(some (Jn (-1))) else(some (Jn 1))) else((call 77 [a0]).bind fun r19=>
(call 77 [a1]).bind fun r20=>
((D.get a0 [1]).bind fun x21=>
(D.truth x21).bind fun b22=>
 if b22 then((call 77 [a1]).bind fun r23=>
(call 77 [a0]).bind fun r24=>
 some (0,[r23,r24])) else(some (0,[r19,r20]))).bind fun(r25:Nat×List D)=>
(call 78 [(gx r25.2 0),(gx r25.2 1)]).bind fun r26=>
(call 78 [(gx r25.2 1),(gx r25.2 0)]).bind fun r27=>
(D.truth r26).bind fun b28=>
 if b28 then(some (Jn (-1))) else((D.truth r27).bind fun b29=>
 if b29 then(some (Jn 1)) else(some (Jn 0)))))))
theorem RW{lp}(hlp:ak lp):ac 32 (m2 (Jp lp)):=aO (v:=0) (fn:=Tryz.f72) (ann:=Q9) hlp
def Ra:Ann:=(.tl (.two (.reg [] 5) .leaf))
def Jq(lp:Lp)(call:Ca)(a0:D)(a1:D):Option D:=
(call 80 [a0]).bind fun r1=>
(call 80 [a1]).bind fun r2=>
(call 79 [r1,r2]).bind fun r3=>
 some r3
theorem RY{lp}(hlp:ak lp):ac 33 (m2 (Jq lp)):=aO (v:=0) (fn:=Tryz.f185) (ann:=Ra) hlp
def Jr(lp:Lp)(call:Ca)(a0:D):Option D:=
(D.bin .geq a0 (Jn 0)).bind fun x1=>
(D.truth x1).bind fun b2=>
 if b2 then((D.bin .rem a0 (Jn 65536)).bind fun x3=>
(D.bin .quo a0 (Jn 65536)).bind fun x4=>
(D.bin .rem x4 (Jn 65536)).bind fun x5=>
(D.bin .quo a0 (Jn 4294967296)).bind fun x6=>
(D.bin .rem x6 (Jn 65536)).bind fun x7=>
(D.bin .quo a0 (Jn 281474976710656)).bind fun x8=>
(call 81 [(D.bool false),(D.sl [x3,x5,x7,x8])]).bind fun r9=>
 some r9) else((D.bin .add a0 (Jn 1)).bind fun x10=>
(D.un .neg x10).bind fun x11=>
(D.bin .rem x11 (Jn 65536)).bind fun x12=>
(D.bin .quo x11 (Jn 65536)).bind fun x13=>
(D.bin .rem x13 (Jn 65536)).bind fun x14=>
(D.bin .quo x11 (Jn 4294967296)).bind fun x15=>
(D.bin .rem x15 (Jn 65536)).bind fun x16=>
(D.bin .quo x11 (Jn 281474976710656)).bind fun x17=>
(call 82 [(D.sl [x12,x14,x16,x17]),(D.sl [(Jn 1)])]).bind fun r18=>
(call 81 [(D.bool true),r18]).bind fun r19=>
 some r19)
theorem RZ{lp}(hlp:ak lp):ac 34 (m1 (Jr lp)):=aU (v:=0) (fn:=Tryz.f69) (ann:=.leaf) hlp
def Rb:Ann:=(.tl (.tl (.tl (.cut [(.normal,⟨[(2,.sp aw 4098),(3,.sp aw 4099),(4,.sp aL 4100),(5,.sp aw 12293)],[(4098,.keep aw 2),(4099,.keep aw 3),(4100,.keep aL 4),(12293,.one aw (.dv aw))],[]⟩)] [] [4098,4099,4100] .leaf (.two (.reg [] 7) .leaf)))))
def Js(lp:Lp)(call:Ca)(a0:D)(a1:D):Option D:=
(call 76 [a0]).bind fun r1=>
(D.un .not r1).bind fun x2=>
(D.truth x2).bind fun b3=>
(if b3 then(some true) else((call 76 [a1]).bind fun r4=>
(D.un .not r4).bind fun x5=>
 D.truth x5)).bind fun b6=>
(D.truth (D.bool b6)).bind fun b7=>
(if b7 then(some true) else((call 83 [a1]).bind fun r8=>
 D.truth (D.bool (D.beq r8 (Jn 0))))).bind fun b9=>
(D.truth (D.bool b9)).bind fun b10=>
 if b10 then((call 84 []).bind fun r11=>
 some r11) else((call 85 [a0,a1]).bind fun r12=>
((call 83 [a1]).bind fun r13=>
(D.bin .lss r13 (Jn 0)).bind fun x14=>
(D.truth x14).bind fun b15=>
 if b15 then((call 86 [r12]).bind fun r16=>
 some (0,[r16])) else(some (0,[r12]))).bind fun(r17:Nat×List D)=>
(call 87 [a0,(gx r17.2 0)]).bind fun r18=>
(call 87 [a1,(gx r17.2 0)]).bind fun r19=>
 some (D.st [r18,r19]))
theorem R0{lp}(hlp:ak lp):ac 37 (m2 (Js lp)):=aO (v:=0) (fn:=Tryz.f67) (ann:=Rb) hlp
def Rc:Ann:=(.tl (.two (.reg [] 4) .leaf))
def Jt(lp:Lp)(call:Ca)(a0:D)(a1:D):Option D:=
(call 70 [a1]).bind fun r1=>
(call 40 [a0,r1]).bind fun r2=>
 some r2
theorem R5{lp}(hlp:ak lp):ac 39 (m2 (Jt lp)):=aO (v:=0) (fn:=Tryz.f31) (ann:=Rc) hlp
def Rd:Ann:=(.tl (.tl (.tl (.tl (.tl (.two (.reg [] 14) .leaf))))))
def Ju(lp:Lp)(call:Ca)(a0:D)(a1:D):Option D:=
(call 88 [a0]).bind fun r1=>
(D.un .not r1).bind fun x2=>
(D.truth x2).bind fun b3=>
(if b3 then(some true) else((call 88 [a1]).bind fun r4=>
(D.un .not r4).bind fun x5=>
 D.truth x5)).bind fun b6=>
(D.truth (D.bool b6)).bind fun b7=>
 if b7 then((call 84 []).bind fun r8=>
 some r8) else((D.get a0 [1]).bind fun x9=>
(D.get a1 [1]).bind fun x10=>
(call 85 [x9,x10]).bind fun r11=>
(D.get a0 [1]).bind fun x12=>
(call 87 [x12,r11]).bind fun r13=>
(D.get a1 [1]).bind fun x14=>
(call 87 [x14,r11]).bind fun r15=>
(D.get a0 [0]).bind fun x16=>
(call 89 [x16,r15]).bind fun r17=>
(D.get a1 [0]).bind fun x18=>
(call 89 [x18,r13]).bind fun r19=>
(call 59 [r17,r19]).bind fun r20=>
(D.get a1 [1]).bind fun x21=>
(call 89 [r13,x21]).bind fun r22=>
(call 37 [r20,r22]).bind fun r23=>
 some r23)
theorem R7{lp}(hlp:ak lp):ac 40 (m2 (Ju lp)):=aO (v:=0) (fn:=Tryz.f34) (ann:=Rd) hlp
def Re:Ann:=(.tl (.tl (.two (.tl (.two (.loop ⟨[(2,.sp K2 4098),(3,.sp cM 4099),(5,.sp K5 8197),(13,.di)],[(4098,.keep K2 2),(4099,.keep cM 3),(8197,.one K5 (.ow Ti))],[11,12]⟩ [(.exit 0,⟨[(2,.sp K2 4098),(3,.sp cM 4099),(5,.sp K5 8197)],[(4098,.keep K2 2),(4099,.keep cM 3),(8197,.one K5 (.ow Ti))],[]⟩)] (.tl (.tl (.cut [(.normal,⟨[(2,.sp K2 4098),(3,.sp cM 4099),(5,.sp K5 8197)],[(4098,.keep K2 2),(4099,.keep cM 3),(8197,.one K5 (.ow Ti))],[11,12,13]⟩)] [11,12,13] [4098,4099] (.two (.tl (.two (.reg [] 6) .leaf)) .leaf) .leaf)))) .leaf)) (.tl (.tl (.two (.two (.regI [] 6 (.two (.tl (.tl (.two (.tl (.two (.loop ⟨[(2,.sp K2 4098),(3,.sp cM 4099),(6,.di),(12,.dv K5),(14,.di)],[(4098,.keep K2 2),(4099,.keep cM 3),(8197,.one K5 (.dv K5))],[0,13]⟩ [(.exit 0,⟨[(6,.di)],[(4098,.keep K2 2),(4099,.keep cM 3),(8197,.one K5 (.dv K5))],[]⟩)] (.tl (.tl (.cut [(.normal,⟨[(2,.sp K2 4098),(3,.sp cM 4099),(6,.di)],[(4098,.keep K2 2),(4099,.keep cM 3),(8197,.one K5 (.dv K5))],[0,12,13,14]⟩)] [0,12,13,14] [4098,4099] (.two (.tl (.tl (.tl (.two (.reg [] 20) .leaf)))) .leaf) .leaf)))) .leaf)) .leaf))) .leaf)) (.two (.loop ⟨[(5,.sp K5 8197),(8,.same (.clo 240 [(.ptr K5 8197 []),(.ptr K2 4098 []),(.ptr cM 4099 [])])),(9,.ow Ti),(10,.di)],[(4098,.keep K2 2),(4099,.keep cM 3),(8197,.keep K5 5)],[]⟩ [(.exit 2,⟨[(9,.ow Ti)],[],[]⟩)] (.tl (.tl (.regI [] 4 (.two (.tl (.tl (.two (.tl (.two (.loop ⟨[(2,.sp K2 4098),(3,.sp cM 4099),(6,.di),(14,.di)],[(4098,.keep K2 2),(4099,.keep cM 3),(8197,.keep K5 1)],[0,12,13]⟩ [(.exit 0,⟨[(6,.di)],[(4098,.keep K2 2),(4099,.keep cM 3),(8197,.keep K5 1)],[]⟩)] (.tl (.tl (.cut [(.normal,⟨[(2,.sp K2 4098),(3,.sp cM 4099),(6,.di)],[(4098,.keep K2 2),(4099,.keep cM 3),(8197,.one K5 (.dv K5))],[0,12,13,14]⟩)] [0,12,13,14] [4098,4099] (.two (.tl (.tl (.tl (.two (.reg [] 20) .leaf)))) .leaf) .leaf)))) .leaf)) .leaf))) .leaf))))) .leaf)) .leaf))))))
def Jv(lp:Lp)(call:Ca)(a0:D)(a1:D):Option D:=
(D.asSl a0).bind fun l1=>
(lp (β:=Nat×List D) (fun v2=>
(D.bin .lss (gx v2 0) (Jn (l1.length))).bind fun x3=>
(D.truth x3).bind fun b4=>
 if b4 then(((D.asSl a0).bind fun l5=>
(D.idx (gx v2 0) (l5.length)).bind fun i6=>
(l5[i6]?).bind fun x7=>
(D.get a1 [0]).bind fun x8=>
(call 101 [x8,x7]).bind fun r9=>
(D.get a1 [1]).bind fun x10=>
(D.truth (D.bool (D.beq r9 x10))).bind fun b11=>
 if b11 then(if List.length ((gx v2 1).els)+List.length [(gx v2 0)]<=1073741824 then(some (0,[(D.sl (((gx v2 1).els)++[(gx v2 0)]))])) else none) else(some (0,[(D.sl ((gx v2 1).els))]))).bind fun(r12:Nat×List D)=>
(D.bin .add (gx v2 0) (Jn 1)).bind fun x13=>
 some (Sum.inl [x13,(D.sl ((gx r12.2 0).els))])) else(some (Sum.inr (0,[(D.sl ((gx v2 1).els))])))) [(Jn 0),(D.sl [])]).bind fun r14=>
(D.idx (Jn 0) (List.length ((gx r14.2 0).els))).bind fun i15=>
(((gx r14.2 0).els)[i15]?).bind fun x16=>
(D.idx (Jn 0) (List.length ((gx r14.2 0).els))).bind fun i17=>
(((gx r14.2 0).els)[i17]?).bind fun x18=>
(lp (β:=Nat×List D) (fun v19=>
(D.bin .lss (gx v19 2) (Jn (List.length ((gx r14.2 0).els)))).bind fun x20=>
(D.truth x20).bind fun b21=>
 if b21 then(((D.asSl (gx v19 1)).bind fun l22=>
(D.idx (gx v19 2) (l22.length)).bind fun wP=>
(l22[wP]?).bind fun x24=>
(D.truth (D.bool (D.beq x24 x18))).bind fun b25=>
 if b25 then(some (0,[(gx v19 0),(gx v19 3)])) else((D.bin .lss (gx v19 0) (Jn 0)).bind fun x26=>
(D.truth x26).bind fun b27=>
 if b27 then(some (0,[x24,(gx v19 3)])) else((D.asSl a0).bind fun l28=>
(D.idx x24 (l28.length)).bind fun i29=>
(l28[i29]?).bind fun x30=>
(D.asSl a0).bind fun l31=>
(D.idx x18 (l31.length)).bind fun i32=>
(l31[i32]?).bind fun x33=>
(call 103 [x30,x33]).bind fun r34=>
(D.asSl a0).bind fun l35=>
(D.idx (gx v19 0) (l35.length)).bind fun i36=>
(l35[i36]?).bind fun x37=>
(D.asSl a0).bind fun l38=>
(D.idx x18 (l38.length)).bind fun i39=>
(l38[i39]?).bind fun x40=>
(call 103 [x37,x40]).bind fun r41=>
(D.get a1 [0]).bind fun x42=>
(call 104 [x42,r41,r34]).bind fun r43=>
(D.bin .lss r43 (Jn 0)).bind fun x44=>
(D.truth x44).bind fun b45=>
(if b45 then(some true) else((D.truth (D.bool (D.beq r43 (Jn 0)))).bind fun b46=>
 if b46 then((call 101 [r34,r34]).bind fun r47=>
(call 101 [r41,r41]).bind fun r48=>
(D.bin .gtr r47 r48).bind fun x49=>
 D.truth x49) else(some false))).bind fun b50=>
(D.truth (D.bool b50)).bind fun b51=>
 if b51 then(some (0,[x24,(gx v19 3)])) else(some (0,[(gx v19 0),(gx v19 3)]))))).bind fun(r52:Nat×List D)=>
(D.bin .add (gx v19 2) (Jn 1)).bind fun x53=>
 some (Sum.inl [(gx r52.2 0),(gx v19 1),x53,(gx r52.2 1)])) else(some (Sum.inr (0,[(gx v19 0),(gx v19 3)])))) [(Jn (-1)),(D.sl ((gx r14.2 0).els)),(Jn 0),(D.sl ((gx r14.2 0).els))]).bind fun r54=>
(lp (β:=Nat×List D) (fun v55=>
(D.asSl (gx r54.2 1)).bind fun l56=>
(D.idx (Jn 0) (l56.length)).bind fun i57=>
(l56[i57]?).bind fun x58=>
(D.truth (D.bool (!(D.beq (gx v55 1) x58)))).bind fun b59=>
 if b59 then(if List.length ((gx v55 0).els)+List.length [(gx v55 1)]<=1073741824 then((D.asSl (gx r54.2 1)).bind fun l60=>
(lp (β:=Nat×List D) (fun v61=>
(D.bin .lss (gx v61 1) (Jn (l60.length))).bind fun x62=>
(D.truth x62).bind fun b63=>
 if b63 then(((D.asSl (gx r54.2 1)).bind fun l64=>
(D.idx (gx v61 1) (l64.length)).bind fun i65=>
(l64[i65]?).bind fun x66=>
(D.truth (D.bool (D.beq x66 (gx v55 1)))).bind fun b67=>
 if b67 then(some (0,[(gx v61 0),(gx r54.2 1)])) else((D.bin .lss (gx v61 0) (Jn 0)).bind fun x68=>
(D.truth x68).bind fun b69=>
 if b69 then(some (0,[x66,(gx r54.2 1)])) else((D.asSl a0).bind fun l70=>
(D.idx x66 (l70.length)).bind fun i71=>
(l70[i71]?).bind fun x72=>
(D.asSl a0).bind fun l73=>
(D.idx (gx v55 1) (l73.length)).bind fun i74=>
(l73[i74]?).bind fun x75=>
(call 103 [x72,x75]).bind fun r76=>
(D.asSl a0).bind fun l77=>
(D.idx (gx v61 0) (l77.length)).bind fun i78=>
(l77[i78]?).bind fun x79=>
(D.asSl a0).bind fun l80=>
(D.idx (gx v55 1) (l80.length)).bind fun i81=>
(l80[i81]?).bind fun x82=>
(call 103 [x79,x82]).bind fun r83=>
(D.get a1 [0]).bind fun x84=>
(call 104 [x84,r83,r76]).bind fun r85=>
(D.bin .lss r85 (Jn 0)).bind fun x86=>
(D.truth x86).bind fun b87=>
(if b87 then(some true) else((D.truth (D.bool (D.beq r85 (Jn 0)))).bind fun b88=>
 if b88 then((call 101 [r76,r76]).bind fun r89=>
(call 101 [r83,r83]).bind fun r90=>
(D.bin .gtr r89 r90).bind fun x91=>
 D.truth x91) else(some false))).bind fun b92=>
(D.truth (D.bool b92)).bind fun b93=>
 if b93 then(some (0,[x66,(gx r54.2 1)])) else(some (0,[(gx v61 0),(gx r54.2 1)]))))).bind fun(r94:Nat×List D)=>
(D.bin .add (gx v61 1) (Jn 1)).bind fun x95=>
 some (Sum.inl [(gx r94.2 0),x95])) else(some (Sum.inr (0,[(gx v61 0)])))) [(Jn (-1)),(Jn 0)]).bind fun r96=>
 some (Sum.inl [(D.sl (((gx v55 0).els)++[(gx v55 1)])),(gx r96.2 0)])) else none) else(some (Sum.inr (0,[(D.sl ((gx v55 0).els))])))) [(D.sl [x16]),(gx r54.2 0)]).bind fun r97=>
 some (D.sl ((gx r97.2 0).els))
theorem R9{lp}(hlp:ak lp):ac 46 (m2 (Jv lp)):=aO (v:=0) (fn:=Tryz.f211) (ann:=Re) hlp
end Sy
end
end
noncomputable section
set_option maxHeartbeats 0
noncomputable section
namespace Sy
open Go Go.Proofs
def Rf:Ann:=(.tl (.tl (.two (.tl (.two (.loop ⟨[(3,.ow K1),(4,.di)],[],[0]⟩ [(.exit 0,⟨[(3,.ow K1)],[],[]⟩)] (.tl (.two (.two (.tl (.tl (.two (.tl (.two (.loop ⟨[(3,.ow K1),(5,.ow K1),(6,.dv Ty.bool),(7,.di)],[],[0,4]⟩ [(.exit 2,⟨[(5,.ow K1),(6,.dv Ty.bool)],[],[0,4]⟩)] (.tl (.cut [(.normal,⟨[(3,.ow K1),(5,.ow K1),(6,.dv Ty.bool)],[],[0,4,7]⟩)] [0,4,7] [] (.two (.two (.reg [] 9) (.cut [(.normal,⟨[(3,.ow K1),(5,.ow K1),(6,.dv Ty.bool)],[],[0,4,7]⟩)] [0,4,7] [] .leaf (.two (.reg [] 8) .leaf))) .leaf) .leaf))) .leaf)) (.cut [(.normal,⟨[(5,.ow K1)],[],[0,4]⟩)] [0,4] [] .leaf .leaf)))) .leaf) .leaf))) .leaf)) .leaf)))
def Jw(lp:Lp)(call:Ca)(a0:D):Option D:=
(lp (β:=Nat×List D) (fun v1=>
(D.asSl a0).bind fun l2=>
(D.bin .lss (gx v1 1) (Jn (l2.length))).bind fun x3=>
(D.truth x3).bind fun b4=>
 if b4 then((lp (β:=Nat×List D) (fun v5=>
(D.bin .lss (gx v5 3) (Jn (List.length ((gx v5 0).els)))).bind fun x6=>
(D.truth x6).bind fun b7=>
 if b7 then(((D.asSl a0).bind fun l8=>
(D.idx (gx v1 1) (l8.length)).bind fun i9=>
(l8[i9]?).bind fun x10=>
(D.idx (gx v5 3) (List.length ((gx v5 0).els))).bind fun i11=>
(((gx v5 0).els)[i11]?).bind fun x12=>
(call 105 [x10,x12]).bind fun r13=>
((D.un .not (gx v5 2)).bind fun x14=>
(D.truth x14).bind fun b15=>
(if b15 then((D.truth r13).bind fun b16=>
 if b16 then(some true) else((D.asSl a0).bind fun l17=>
(D.idx (gx v1 1) (l17.length)).bind fun i18=>
(l17[i18]?).bind fun x19=>
(D.idx (gx v5 3) (List.length ((gx v5 0).els))).bind fun i20=>
(((gx v5 0).els)[i20]?).bind fun x21=>
 D.truth (D.bool (D.beq x19 x21)))) else(some false)).bind fun b22=>
(D.truth (D.bool b22)).bind fun b23=>
 if b23 then((D.asSl a0).bind fun l24=>
(D.idx (gx v1 1) (l24.length)).bind fun i25=>
(l24[i25]?).bind fun x26=>
 if List.length ((gx v5 1).els)+List.length [x26]<=1073741824 then(some (0,[(D.sl ((gx v5 0).els)),(D.sl (((gx v5 1).els)++[x26])),(D.bool true)])) else none) else(some (0,[(D.sl ((gx v5 0).els)),(D.sl ((gx v5 1).els)),(gx v5 2)]))).bind fun(r27:Nat×List D)=>
(D.idx (gx v5 3) (List.length ((gx r27.2 0).els))).bind fun i28=>
(((gx r27.2 0).els)[i28]?).bind fun x29=>
(D.asSl a0).bind fun l30=>
(D.idx (gx v1 1) (l30.length)).bind fun i31=>
(l30[i31]?).bind fun x32=>
(D.truth (D.bool (!(D.beq x29 x32)))).bind fun b33=>
 if b33 then((D.idx (gx v5 3) (List.length ((gx r27.2 0).els))).bind fun i34=>
(((gx r27.2 0).els)[i34]?).bind fun x35=>
 if List.length ((gx r27.2 1).els)+List.length [x35]<=1073741824 then(some (0,[(D.sl ((gx r27.2 0).els)),(D.sl (((gx r27.2 1).els)++[x35])),(gx r27.2 2)])) else none) else(some (0,[(D.sl ((gx r27.2 0).els)),(D.sl ((gx r27.2 1).els)),(gx r27.2 2)]))).bind fun(r36:Nat×List D)=>
(D.bin .add (gx v5 3) (Jn 1)).bind fun x37=>
 some (Sum.inl [(D.sl ((gx r36.2 0).els)),(D.sl ((gx r36.2 1).els)),(gx r36.2 2),x37])) else(some (Sum.inr (0,[(D.sl ((gx v5 1).els)),(gx v5 2)])))) [(D.sl ((gx v1 0).els)),(D.sl []),(D.bool false),(Jn 0)]).bind fun r38=>
((D.un .not (gx r38.2 1)).bind fun x39=>
(D.truth x39).bind fun b40=>
 if b40 then((D.asSl a0).bind fun l41=>
(D.idx (gx v1 1) (l41.length)).bind fun i42=>
(l41[i42]?).bind fun x43=>
 if List.length ((gx r38.2 0).els)+List.length [x43]<=1073741824 then(some (0,[(D.sl (((gx r38.2 0).els)++[x43]))])) else none) else(some (0,[(D.sl ((gx r38.2 0).els))]))).bind fun(r44:Nat×List D)=>
(D.bin .add (gx v1 1) (Jn 1)).bind fun x45=>
 some (Sum.inl [(D.sl ((gx r44.2 0).els)),x45])) else(some (Sum.inr (0,[(D.sl ((gx v1 0).els))])))) [(D.sl []),(Jn 0)]).bind fun r46=>
 some (D.sl ((gx r46.2 0).els))
theorem Sa{lp}(hlp:ak lp):ac 47 (m1 (Jw lp)):=aU (v:=0) (fn:=Tryz.f203) (ann:=Rf) hlp
def Rg:Ann:=(.tl (.tl (.two (.tl (.two (.loop ⟨[(3,.dv K7),(4,.di)],[],[0]⟩ [(.exit 0,⟨[(3,.dv K7)],[],[]⟩)] (.tl (.two (.two (.tl (.two (.loop ⟨[(3,.dv K7),(5,.di)],[],[0,4]⟩ [(.exit 2,⟨[(3,.dv K7)],[],[0,4]⟩)] (.tl (.two (.two (.tl (.two (.loop ⟨[(3,.dv K7),(6,.di)],[],[0,4,5]⟩ [(.exit 4,⟨[(3,.dv K7)],[],[0,4,5]⟩)] (.tl (.two (.two (.two (.reg [] 14) (.tl (.two (.loop ⟨[(3,.dv K7),(7,.sp K1 49159),(8,.di)],[(49159,.one K1 (.dv K1))],[0,4,5,6]⟩ [(.exit 6,⟨[(3,.dv K7)],[],[0,4,5,6]⟩)] (.tl (.two (.two (.two (.reg [] 6) (.tl (.tl (.cut [(.normal,⟨[(3,.dv K7),(7,.sp K1 49159)],[(49159,.keep K1 7)],[0,4,5,6,8]⟩)] [0,4,5,6,8] [49159] (.tl (.two (.reg [] 9) .leaf)) .leaf)))) .leaf) .leaf))) .leaf))) .leaf) .leaf))) .leaf)) .leaf) .leaf))) .leaf)) .leaf) .leaf))) .leaf)) .leaf)))
def Jx(lp:Lp)(call:Ca)(a0:D):Option D:=
(lp (β:=Nat×List D) (fun v1=>
(D.asSl a0).bind fun l2=>
(D.bin .lss (gx v1 1) (Jn (l2.length))).bind fun x3=>
(D.truth x3).bind fun b4=>
 if b4 then((D.bin .add (gx v1 1) (Jn 1)).bind fun x5=>
(lp (β:=Nat×List D) (fun v6=>
(D.asSl a0).bind fun l7=>
(D.bin .lss (gx v6 1) (Jn (l7.length))).bind fun x8=>
(D.truth x8).bind fun b9=>
 if b9 then((D.bin .add (gx v6 1) (Jn 1)).bind fun x10=>
(lp (β:=Nat×List D) (fun v11=>
(D.asSl a0).bind fun l12=>
(D.bin .lss (gx v11 1) (Jn (l12.length))).bind fun x13=>
(D.truth x13).bind fun b14=>
 if b14 then((D.asSl a0).bind fun l15=>
(D.idx (gx v1 1) (l15.length)).bind fun i16=>
(l15[i16]?).bind fun x17=>
(D.asSl a0).bind fun l18=>
(D.idx (gx v6 1) (l18.length)).bind fun i19=>
(l18[i19]?).bind fun x20=>
(D.asSl a0).bind fun l21=>
(D.idx (gx v11 1) (l21.length)).bind fun i22=>
(l21[i22]?).bind fun x23=>
(call 106 [x17,x20,x23]).bind fun r24=>
(lp (β:=Nat×List D) (fun v25=>
(D.bin .lss (gx v25 1) (Jn 2)).bind fun x26=>
(D.truth x26).bind fun b27=>
 if b27 then((D.asSl a0).bind fun l28=>
(D.idx (gx v1 1) (l28.length)).bind fun i29=>
(l28[i29]?).bind fun x30=>
(call 107 [(gx v25 2),x30]).bind fun r31=>
(call 108 [(gx v25 0),(gx v25 2)]).bind fun r32=>
((D.un .not r32).bind fun x33=>
(D.truth x33).bind fun b34=>
(if b34 then((D.un .not (D.bool (D.beq (gx v25 2) (D.st [(Jn 0),(Jn 0),(Jn 0)])))).bind fun x35=>
 D.truth x35) else(some false)).bind fun b36=>
(D.truth (D.bool b36)).bind fun b37=>
(if b37 then((call 109 [a0,(gx v25 2),r31]).bind fun r38=>
 D.truth r38) else(some false)).bind fun b39=>
(D.truth (D.bool b39)).bind fun b40=>
 if b40 then((call 111 [a0,(gx v25 2),r31]).bind fun r41=>
(call 110 [(gx v25 0),(D.st [(gx v25 2),r31,r41])]).bind fun r42=>
 some (0,[r42])) else(some (0,[(gx v25 0)]))).bind fun(r43:Nat×List D)=>
(call 112 [(D.st [(Jn 0),(Jn 0),(Jn 0)]),(gx v25 2)]).bind fun r44=>
(D.bin .add (gx v25 1) (Jn 1)).bind fun x45=>
 some (Sum.inl [(gx r43.2 0),x45,r44])) else(some (Sum.inr (0,[(gx v25 0)])))) [(gx v11 0),(Jn 0),r24]).bind fun r46=>
(D.bin .add (gx v11 1) (Jn 1)).bind fun x47=>
 some (Sum.inl [(gx r46.2 0),x47])) else(some (Sum.inr (0,[(gx v11 0)])))) [(gx v6 0),x10]).bind fun r48=>
(D.bin .add (gx v6 1) (Jn 1)).bind fun x49=>
 some (Sum.inl [(gx r48.2 0),x49])) else(some (Sum.inr (0,[(gx v6 0)])))) [(gx v1 0),x5]).bind fun r50=>
(D.bin .add (gx v1 1) (Jn 1)).bind fun x51=>
 some (Sum.inl [(gx r50.2 0),x51])) else(some (Sum.inr (0,[(gx v1 0)])))) [(D.sl []),(Jn 0)]).bind fun r52=>
 some (gx r52.2 0)
theorem Sc{lp}(hlp:ak lp):ac 48 (m1 (Jx lp)):=aU (v:=0) (fn:=Tryz.f204) (ann:=Rg) hlp
def Rh:Ann:=(.tl (.tl (.two (.tl (.two (.loop ⟨[(8,.di)],[],[3,6,7]⟩ [(.ret,⟨[(2,.di)],[],[]⟩),(.exit 0,⟨[],[],[3]⟩)] .leaf) .leaf)) .leaf)))
def Jy(lp:Lp)(call:Ca)(a0:D):Option D:=
(D.asSl a0).bind fun l1=>
(lp (β:=Nat×List D) (fun v2=>
(D.bin .lss (gx v2 0) (Jn (l1.length))).bind fun x3=>
(D.truth x3).bind fun b4=>
 if b4 then((D.asSl a0).bind fun l5=>
(D.idx (gx v2 0) (l5.length)).bind fun i6=>
(l5[i6]?).bind fun x7=>
(D.truth (D.bool (!(D.beq x7 (Jn 0))))).bind fun b8=>
 if b8 then(some (Sum.inr (0,[x7]))) else((D.bin .add (gx v2 0) (Jn 1)).bind fun x9=>
 some (Sum.inl [x9]))) else(some (Sum.inr (1,[])))) [(Jn 0)]).bind fun r10=>
 if r10.1=0 then(some (gx r10.2 0)) else(some (Jn 0))
theorem Sd{lp}(hlp:ak lp):ac 52 (m1 (Jy lp)):=aU (v:=0) (fn:=Tryz.f237) (ann:=Rh) hlp
def Jz(lp:Lp)(call:Ca)(a0:D)(a1:D):Option D:=
(call 115 [a0]).bind fun r1=>
(call 115 [a1]).bind fun r2=>
(D.truth r1).bind fun b3=>
 if b3 then((D.truth r2).bind fun b4=>
 if b4 then(some (Jn 0)) else(some (Jn (-1)))) else((D.truth r2).bind fun b5=>
 if b5 then(some (Jn 1)) else((D.bin .lss a0 a1).bind fun x6=>
(D.truth x6).bind fun b7=>
 if b7 then(some (Jn (-1))) else((D.bin .gtr a0 a1).bind fun x8=>
(D.truth x8).bind fun b9=>
 if b9 then(some (Jn 1)) else(some (Jn 0)))))
theorem Se{lp}(hlp:ak lp):ac 53 (m2 (Jz lp)):=aO (v:=0) (fn:=Tryz.f238) (ann:=.leaf) hlp
def Ri:Ann:=(.tl (.tl (.cut [(.normal,⟨[(2,.sp aw 4098),(3,.dv (Ty.int .u64))],[(4098,.keep aw 2)],[0]⟩)] [0] [4098] .leaf .leaf)))
def JA(lp:Lp)(call:Ca)(a0:D):Option D:=
(D.conv .u64 a0).bind fun x1=>
((D.bin .lss a0 (Jn 0)).bind fun x2=>
(D.truth x2).bind fun b3=>
 if b3 then((D.un .neg x1).bind fun x4=>
 some (0,[x4])) else(some (0,[x1]))).bind fun(r5:Nat×List D)=>
(D.bin .lss a0 (Jn 0)).bind fun x6=>
(D.conv .u32 (gx r5.2 0)).bind fun x7=>
(D.bin .shr (gx r5.2 0) (D.int .u64 32)).bind fun x8=>
(D.conv .u32 x8).bind fun x9=>
(call 116 [x6,(D.st (D.putParts (List.replicate 16 (D.int .u32 0)) [(0,x7),(1,x9)]))]).bind fun r10=>
 some r10
theorem Sf{lp}(hlp:ak lp):ac 54 (m1 (JA lp)):=aU (v:=0) (fn:=Tryz.f83) (ann:=Ri) hlp
def Rj:Ann:=(.tl (.tl (.tl (.two (.tl (.two (.two (.reg [] 8) .leaf) .leaf)) (.two (.reg [] 8) .leaf)))))
def JB(lp:Lp)(call:Ca)(a0:D)(a1:D):Option D:=
(call 118 [(D.sl [a0,a1])]).bind fun r1=>
(D.un .not r1).bind fun x2=>
(D.truth x2).bind fun b3=>
 if b3 then((call 119 []).bind fun r4=>
 some r4) else((D.get a0 [1]).bind fun x5=>
(D.get a1 [1]).bind fun x6=>
(D.truth (D.bool (D.beq x5 x6))).bind fun b7=>
 if b7 then((D.get a0 [2]).bind fun x8=>
(D.get a1 [2]).bind fun x9=>
(call 120 [x8,x9]).bind fun r10=>
(D.tupAt r10 0).bind fun x11=>
(D.tupAt r10 1).bind fun x12=>
(D.un .not x12).bind fun x13=>
(D.truth x13).bind fun b14=>
 if b14 then((call 119 []).bind fun r15=>
 some r15) else((D.get a0 [1]).bind fun x16=>
(call 116 [x16,x11]).bind fun r17=>
 some r17)) else((D.get a0 [2]).bind fun x18=>
(D.get a1 [2]).bind fun x19=>
(call 121 [x18,x19]).bind fun r20=>
(D.bin .geq r20 (Jn 0)).bind fun x21=>
(D.truth x21).bind fun b22=>
 if b22 then((D.get a0 [1]).bind fun x23=>
(D.get a0 [2]).bind fun x24=>
(D.get a1 [2]).bind fun x25=>
(call 122 [x24,x25]).bind fun r26=>
(call 116 [x23,r26]).bind fun r27=>
 some r27) else((D.get a1 [1]).bind fun x28=>
(D.get a1 [2]).bind fun x29=>
(D.get a0 [2]).bind fun x30=>
(call 122 [x29,x30]).bind fun r31=>
(call 116 [x28,r31]).bind fun r32=>
 some r32)))
theorem Sg{lp}(hlp:ak lp):ac 57 (m2 (JB lp)):=aO (v:=0) (fn:=Tryz.f104) (ann:=Rj) hlp
def Rk:Ann:=(.tl (.tl (.tl (.tl (.tl (.tl (.tl (.two (.tl (.two (.two (.reg [] 6) .leaf) .leaf)) (.tl (.two (.tl (.two (.two (.reg [] 6) .leaf) .leaf)) (.two (.reg [] 6) .leaf)))))))))))
def H6(lp:Lp)(call:Ca)(a0:D)(a1:D):Option D:=
(call 124 [a0]).bind fun r1=>
(D.tupAt r1 0).bind fun x2=>
(D.tupAt r1 1).bind fun x3=>
(call 124 [a1]).bind fun r4=>
(D.tupAt r4 0).bind fun x5=>
(D.tupAt r4 1).bind fun x6=>
(D.truth x3).bind fun b7=>
(if b7 then(D.truth x6) else(some false)).bind fun b8=>
(D.truth (D.bool b8)).bind fun b9=>
 if b9 then((D.bin .add x2 x5).bind fun x10=>
(call 34 [x10]).bind fun r11=>
 some r11) else((call 76 [a0]).bind fun r12=>
(D.un .not r12).bind fun x13=>
(D.truth x13).bind fun b14=>
(if b14 then(some true) else((call 76 [a1]).bind fun r15=>
(D.un .not r15).bind fun x16=>
 D.truth x16)).bind fun b17=>
(D.truth (D.bool b17)).bind fun b18=>
 if b18 then((call 125 []).bind fun r19=>
 some r19) else((call 77 [a0]).bind fun r20=>
(call 77 [a1]).bind fun r21=>
(D.get a0 [1]).bind fun x22=>
(D.get a1 [1]).bind fun x23=>
(D.truth (D.bool (D.beq x22 x23))).bind fun b24=>
 if b24 then((D.get a0 [1]).bind fun x25=>
(call 82 [r20,r21]).bind fun r26=>
(call 81 [x25,r26]).bind fun r27=>
 some r27) else((call 78 [r20,r21]).bind fun r28=>
(D.truth r28).bind fun b29=>
 if b29 then((D.get a1 [1]).bind fun x30=>
(call 126 [r21,r20]).bind fun r31=>
(call 81 [x30,r31]).bind fun r32=>
 some r32) else((D.get a0 [1]).bind fun x33=>
(call 126 [r20,r21]).bind fun r34=>
(call 81 [x33,r34]).bind fun r35=>
 some r35))))
theorem Si{lp}(hlp:ak lp):ac 59 (m2 (H6 lp)):=aO (v:=0) (fn:=Tryz.f77) (ann:=Rk) hlp
def Rl:Ann:=(.tl (.tl (.tl (.two (.reg [] 7) (.two (.tl (.two (.loop ⟨[(2,.sp aw 4098),(3,.sp aw 4099),(4,.sp aw 4100),(5,.sp wQ 12293),(24,.di)],[(4098,.keep aw 2),(4099,.keep aw 3),(4100,.keep aw 4),(12293,.one wQ (.dv wQ))],[7,23]⟩ [(.exit 0,⟨[(2,.sp aw 4098),(3,.sp aw 4099),(4,.sp aw 4100),(5,.sp wQ 12293)],[(4098,.keep aw 2),(4099,.keep aw 3),(4100,.keep aw 4),(12293,.one wQ (.dv wQ))],[]⟩)] (.tl (.tl (.two (.two (.tl (.tl (.two (.tl (.two (.loop ⟨[(2,.sp aw 4098),(3,.sp aw 4099),(4,.sp aw 4100),(5,.sp wQ 12293),(9,.dv (Ty.int .u64)),(28,.di)],[(4098,.keep aw 2),(4099,.keep aw 3),(4100,.keep aw 4),(12293,.one wQ (.dv wQ))],[7,8,23,24,27]⟩ [(.exit 2,⟨[(2,.sp aw 4098),(3,.sp aw 4099),(4,.sp aw 4100),(5,.sp wQ 12293),(9,.dv (Ty.int .u64))],[(4098,.keep aw 2),(4099,.keep aw 3),(4100,.keep aw 4),(12293,.one wQ (.dv wQ))],[7,8,23,24]⟩)] (.tl (.tl (.two (.two (.tl (.two (.reg [] 20) .leaf)) .leaf) .leaf)))) .leaf)) .leaf))) .leaf) .leaf)))) .leaf)) (.tl (.two (.reg [] 9) .leaf)))))))
def JC(lp:Lp)(call:Ca)(a0:D)(a1:D):Option D:=
(call 118 [(D.sl [a0,a1])]).bind fun r1=>
(D.un .not r1).bind fun x2=>
(D.truth x2).bind fun b3=>
 if b3 then((call 119 []).bind fun r4=>
 some r4) else((D.get a0 [2]).bind fun x5=>
(call 127 [x5]).bind fun r6=>
(D.get a1 [2]).bind fun x7=>
(call 127 [x7]).bind fun r8=>
(lp (β:=Nat×List D) (fun v9=>
(D.bin .lss (gx v9 0) r6).bind fun x10=>
(D.truth x10).bind fun b11=>
 if b11 then((lp (β:=Nat×List D) (fun v12=>
(D.bin .lss (gx v12 1) r8).bind fun x13=>
(D.truth x13).bind fun b14=>
 if b14 then((D.idx (gx v9 0) 16).bind fun i15=>
(D.get a0 [2,i15]).bind fun x16=>
(D.conv .u64 x16).bind fun x17=>
(D.idx (gx v12 1) 16).bind fun i18=>
(D.get a1 [2,i18]).bind fun x19=>
(D.conv .u64 x19).bind fun x20=>
(D.bin .mul x17 x20).bind fun x21=>
(D.bin .add (gx v9 0) (gx v12 1)).bind fun x22=>
(D.idx x22 32).bind fun wP=>
(D.get (gx v12 2) [wP]).bind fun x24=>
(D.conv .u64 x24).bind fun x25=>
(D.bin .add x21 x25).bind fun x26=>
(D.bin .add (gx v12 0) x26).bind fun x27=>
(D.bin .add (gx v9 0) (gx v12 1)).bind fun x28=>
(D.conv .u32 x27).bind fun x29=>
(D.idx x28 32).bind fun i30=>
(D.set (gx v12 2) [i30] x29).bind fun x31=>
(D.bin .shr x27 (D.int .u64 32)).bind fun x32=>
(D.bin .add (gx v12 1) (Jn 1)).bind fun x33=>
 some (Sum.inl [x32,x33,x31])) else(some (Sum.inr (0,[(gx v12 0),(gx v12 2)])))) [(D.int .u64 0),(Jn 0),(gx v9 1)]).bind fun r34=>
(D.bin .add (gx v9 0) r8).bind fun x35=>
(D.conv .u32 (gx r34.2 0)).bind fun x36=>
(D.idx x35 32).bind fun i37=>
(D.set (gx r34.2 1) [i37] x36).bind fun x38=>
(D.bin .add (gx v9 0) (Jn 1)).bind fun x39=>
 some (Sum.inl [x39,x38])) else(some (Sum.inr (0,[(gx v9 1)])))) [(Jn 0),(aF wQ)]).bind fun r40=>
(match (gx r40.2 0) with
| D.st l41=>(if decide (16+16<=l41.length) then((D.truth (D.bool (!(D.beq (D.st (List.take 16 (List.drop 16 l41))) (D.st (D.putParts (List.replicate 16 (D.int .u32 0)) [])))))).bind fun b42=>
 if b42 then((call 119 []).bind fun r43=>
 some r43) else((D.get a0 [1]).bind fun x44=>
(D.get a1 [1]).bind fun x45=>
(match (gx r40.2 0) with
| D.st l46=>(if decide (0+16<=l46.length) then((call 116 [(D.bool (!(D.beq x44 x45))),(D.st (List.take 16 (List.drop 0 l46)))]).bind fun r47=>
 some r47) else none)
| _=>none))) else none)
| _=>none))
theorem Sj{lp}(hlp:ak lp):ac 61 (m2 (JC lp)):=aO (v:=0) (fn:=Tryz.f93) (ann:=Rl) hlp
def Rm:Ann:=(.tl (.tl (.tl (.cut [(.normal,⟨[(2,.sp aw 4098),(3,.sp aw 4099),(4,.sp aL 4100),(5,.sp aw 12293)],[(4098,.keep aw 2),(4099,.keep aw 3),(4100,.keep aL 4),(12293,.one aw (.dv aw))],[]⟩)] [] [4098,4099,4100] .leaf (.two (.reg [] 7) .leaf)))))
def JD(lp:Lp)(call:Ca)(a0:D)(a1:D):Option D:=
(call 128 [a0]).bind fun r1=>
(D.un .not r1).bind fun x2=>
(D.truth x2).bind fun b3=>
(if b3 then(some true) else((call 128 [a1]).bind fun r4=>
(D.un .not r4).bind fun x5=>
 D.truth x5)).bind fun b6=>
(D.truth (D.bool b6)).bind fun b7=>
(if b7 then(some true) else((call 129 [a1]).bind fun r8=>
 D.truth (D.bool (D.beq r8 (Jn 0))))).bind fun b9=>
(D.truth (D.bool b9)).bind fun b10=>
 if b10 then((call 130 []).bind fun r11=>
 some r11) else((call 131 [a0,a1]).bind fun r12=>
((call 129 [a1]).bind fun r13=>
(D.bin .lss r13 (Jn 0)).bind fun x14=>
(D.truth x14).bind fun b15=>
 if b15 then((call 68 [r12]).bind fun r16=>
 some (0,[r16])) else(some (0,[r12]))).bind fun(r17:Nat×List D)=>
(call 132 [a0,(gx r17.2 0)]).bind fun r18=>
(call 132 [a1,(gx r17.2 0)]).bind fun r19=>
 some (D.st [r18,r19]))
theorem Sl{lp}(hlp:ak lp):ac 62 (m2 (JD lp)):=aO (v:=0) (fn:=Tryz.f92) (ann:=Rm) hlp
def JE(lp:Lp)(call:Ca)(a0:D):Option D:=
(call 118 [(D.sl [a0])]).bind fun r1=>
(D.un .not r1).bind fun x2=>
(D.truth x2).bind fun b3=>
 if b3 then((call 119 []).bind fun r4=>
 some r4) else((D.get a0 [1]).bind fun x5=>
(D.un .not x5).bind fun x6=>
(D.get a0 [2]).bind fun x7=>
(call 116 [x6,x7]).bind fun r8=>
 some r8)
theorem Sn{lp}(hlp:ak lp):ac 68 (m1 (JE lp)):=aU (v:=0) (fn:=Tryz.f136) (ann:=.leaf) hlp
def Ro:Ann:=(.tl (.tl (.two (.reg [] 6) .leaf)))
def JF(lp:Lp)(call:Ca)(a0:D):Option D:=
(call 88 [a0]).bind fun r1=>
(D.un .not r1).bind fun x2=>
(D.truth x2).bind fun b3=>
 if b3 then((call 84 []).bind fun r4=>
 some r4) else((D.get a0 [0]).bind fun x5=>
(call 86 [x5]).bind fun r6=>
(D.get a0 [1]).bind fun x7=>
 some (D.st [r6,x7]))
theorem Sp{lp}(hlp:ak lp):ac 70 (m1 (JF lp)):=aU (v:=0) (fn:=Tryz.f71) (ann:=Ro) hlp
def QE:Ann:=(.tl (.two (.reg [] 4) .leaf))
theorem Sq{lp}(hlp:ak lp):ac 72 (cY 0 lp 72 Tryz.f109 QE):=bx hlp (by kernel_rfl) (by kernel_rfl)
def Rq:Ann:=(.tl (.two (.reg [] 5) (.tl (.tl (.tl (.two (.two (.loop ⟨[(2,.sp aL 4098),(3,.sp aL 4099),(7,.di)],[(4098,.one aL (.dv aL)),(4099,.one aL (.dv aL))],[]⟩ [(.exit 1,⟨[(7,.di)],[],[]⟩)] (.two (.two (.two (.reg [] 11) .leaf) (.two (.reg [] 16) (.two (.reg [] 7) .leaf))) .leaf)) .leaf) .leaf))))))
def JG(lp:Lp)(call:Ca)(a0:D)(a1:D):Option D:=
(call 136 [a0]).bind fun r1=>
(call 136 [a1]).bind fun r2=>
(D.un .not r1).bind fun x3=>
(D.truth x3).bind fun b4=>
(if b4 then((D.un .not r2).bind fun x5=>
 D.truth x5) else(some false)).bind fun b6=>
(D.truth (D.bool b6)).bind fun b7=>
 if b7 then(some (Jn 0)) else((D.un .not r1).bind fun x8=>
(D.truth x8).bind fun b9=>
 if b9 then(some (Jn (-1))) else((D.un .not r2).bind fun x10=>
(D.truth x10).bind fun b11=>
 if b11 then(some (Jn 1)) else((lp (β:=Nat×List D) (fun v12=>
(D.get (gx v12 1) [0]).bind fun x13=>
(D.get (gx v12 1) [1]).bind fun x14=>
(call 132 [x13,x14]).bind fun r15=>
(D.get (gx v12 2) [0]).bind fun x16=>
(D.get (gx v12 2) [1]).bind fun x17=>
(call 132 [x16,x17]).bind fun r18=>
(call 90 [r15,r18]).bind fun r19=>
(D.truth (D.bool (!(D.beq r19 (Jn 0))))).bind fun b20=>
 if b20 then((D.bin .mul (gx v12 0) r19).bind fun x21=>
 some (Sum.inr (0,[x21]))) else((D.get (gx v12 1) [1]).bind fun x22=>
(D.get (gx v12 1) [0]).bind fun x23=>
(D.get (gx v12 1) [1]).bind fun x24=>
(call 137 [x23,x24]).bind fun r25=>
(D.get (gx v12 2) [1]).bind fun x26=>
(D.get (gx v12 2) [0]).bind fun x27=>
(D.get (gx v12 2) [1]).bind fun x28=>
(call 137 [x27,x28]).bind fun r29=>
(call 129 [r25]).bind fun r30=>
(call 129 [r29]).bind fun r31=>
(D.truth (D.bool (D.beq r30 (Jn 0)))).bind fun b32=>
(if b32 then(some true) else(D.truth (D.bool (D.beq r31 (Jn 0))))).bind fun b33=>
(D.truth (D.bool b33)).bind fun b34=>
 if b34 then((D.bin .sub r30 r31).bind fun x35=>
(D.bin .mul (gx v12 0) x35).bind fun x36=>
 some (Sum.inr (0,[x36]))) else((D.un .neg (gx v12 0)).bind fun x37=>
 some (Sum.inl [x37,(D.st [x22,r25]),(D.st [x26,r29])])))) [(Jn 1),a0,a1]).bind fun r38=>
 some (gx r38.2 0))))
theorem Sr{lp}(hlp:ak lp):ac 73 (m2 (JG lp)):=aO (v:=0) (fn:=Tryz.f105) (ann:=Rq) hlp
def JH(lp:Lp)(call:Ca)(a0:D):Option D:=
(call 54 [a0]).bind fun r1=>
(call 138 [r1]).bind fun r2=>
 some r2
theorem Ss{lp}(hlp:ak lp):ac 74 (m1 (JH lp)):=aU (v:=0) (fn:=Tryz.f41) (ann:=.leaf) hlp
theorem Su{lp}(hlp:ak lp):ac 75 (cY 0 lp 75 Tryz.f29 .leaf):=bx hlp (by kernel_rfl) (by kernel_rfl)
def JI(lp:Lp)(call:Ca)(a0:D):Option D:=
(call 139 [a0]).bind fun r1=>
(D.truth r1).bind fun b2=>
(if b2 then((D.get a0 [0]).bind fun x3=>
(D.un .not x3).bind fun x4=>
 D.truth x4) else(some false)).bind fun b5=>
 some (D.bool b5)
theorem Sv{lp}(hlp:ak lp):ac 76 (m1 (JI lp)):=aU (v:=0) (fn:=Tryz.f114) (ann:=.leaf) hlp
def Rr:Ann:=(.tl (.tl (.two (.tl (.two (.loop ⟨[(1,.sp aw 4097),(3,.ow Ti),(4,.di)],[(4097,.keep aw 1)],[]⟩ [(.exit 0,⟨[(3,.ow Ti)],[],[]⟩)] (.tl (.two (.two (.reg [] 14) .leaf) .leaf))) .leaf)) .leaf)))
def JJ(lp:Lp)(call:Ca)(a0:D):Option D:=
(lp (β:=Nat×List D) (fun v1=>
(D.bin .lss (gx v1 1) (Jn 16)).bind fun x2=>
(D.truth x2).bind fun b3=>
 if b3 then((D.idx (gx v1 1) 16).bind fun i4=>
(D.get a0 [2,i4]).bind fun x5=>
(D.bin .rem x5 (D.int .u32 65536)).bind fun x6=>
(D.conv .i64 x6).bind fun x7=>
(D.idx (gx v1 1) 16).bind fun i8=>
(D.get a0 [2,i8]).bind fun x9=>
(D.bin .quo x9 (D.int .u32 65536)).bind fun x10=>
(D.conv .i64 x10).bind fun x11=>
 if List.length ((gx v1 0).els)+List.length [x7,x11]<=1073741824 then((D.bin .add (gx v1 1) (Jn 1)).bind fun x12=>
 some (Sum.inl [(D.sl (((gx v1 0).els)++[x7,x11])),x12])) else none) else(some (Sum.inr (0,[(D.sl ((gx v1 0).els))])))) [(D.sl []),(Jn 0)]).bind fun r13=>
(call 140 [(D.sl ((gx r13.2 0).els))]).bind fun r14=>
 some r14
theorem Sw{lp}(hlp:ak lp):ac 77 (m1 (JJ lp)):=aU (v:=0) (fn:=Tryz.f115) (ann:=Rr) hlp
def Rs:Ann:=(.tl (.two (.tl (.two (.loop ⟨[(5,.di)],[],[0,1]⟩ [(.ret,⟨[(4,.dv Ty.bool)],[],[]⟩),(.exit 0,⟨[],[],[]⟩)] .leaf) .leaf)) .leaf))
def JK(lp:Lp)(call:Ca)(a0:D)(a1:D):Option D:=
(D.asSl a0).bind fun l1=>
(D.asSl a1).bind fun l2=>
(D.max2 (Jn (l1.length)) (Jn (l2.length))).bind fun x3=>
(D.bin .sub x3 (Jn 1)).bind fun x4=>
(lp (β:=Nat×List D) (fun v5=>
(D.bin .geq (gx v5 0) (Jn 0)).bind fun x6=>
(D.truth x6).bind fun b7=>
 if b7 then((call 141 [a0,(gx v5 0)]).bind fun r8=>
(call 141 [a1,(gx v5 0)]).bind fun r9=>
(D.truth (D.bool (!(D.beq r8 r9)))).bind fun b10=>
 if b10 then((call 141 [a0,(gx v5 0)]).bind fun r11=>
(call 141 [a1,(gx v5 0)]).bind fun r12=>
(D.bin .lss r11 r12).bind fun x13=>
 some (Sum.inr (0,[x13]))) else((D.bin .sub (gx v5 0) (Jn 1)).bind fun x14=>
 some (Sum.inl [x14]))) else(some (Sum.inr (1,[])))) [x4]).bind fun r15=>
 if r15.1=0 then(some (gx r15.2 0)) else(some (D.bool false))
theorem Sx{lp}(hlp:ak lp):ac 78 (m2 (JK lp)):=aO (v:=0) (fn:=Tryz.f122) (ann:=Rs) hlp
def Rt:Ann:=(.tl (.tl (.two (.reg [] 7) (.two (.reg [] 7) .leaf))))
def JL(lp:Lp)(call:Ca)(a0:D)(a1:D):Option D:=
(D.get a0 [0]).bind fun x1=>
(D.get a1 [0]).bind fun x2=>
(call 89 [x1,x2]).bind fun r3=>
(D.get a0 [1]).bind fun x4=>
(D.get a1 [1]).bind fun x5=>
(call 89 [x4,x5]).bind fun r6=>
(call 59 [r3,r6]).bind fun r7=>
(D.get a0 [2]).bind fun x8=>
(D.get a1 [2]).bind fun x9=>
(call 89 [x8,x9]).bind fun r10=>
(call 59 [r7,r10]).bind fun r11=>
 some r11
theorem Sz{lp}(hlp:ak lp):ac 79 (m2 (JL lp)):=aO (v:=0) (fn:=Tryz.f217) (ann:=Rt) hlp
def Ru:Ann:=(.tl (.two (.reg [] 10) .leaf))
def JM(lp:Lp)(call:Ca)(a0:D):Option D:=
(D.get a0 [0]).bind fun x1=>
(call 34 [x1]).bind fun r2=>
(D.get a0 [1]).bind fun x3=>
(call 34 [x3]).bind fun r4=>
(D.get a0 [2]).bind fun x5=>
(call 34 [x5]).bind fun r6=>
 some (D.st [r2,r4,r6])
theorem SA{lp}(hlp:ak lp):ac 80 (m1 (JM lp)):=aU (v:=0) (fn:=Tryz.f209) (ann:=Ru) hlp
def Rv:Ann:=(.tl (.tl (.tl (.tl (.two (.tl (.two (.loop ⟨[(4,.sp aw 4100),(6,.sp aw 16390),(7,.di)],[(4100,.keep aw 4),(16390,.one aw (.dv aw))],[5]⟩ [(.exit 0,⟨[(4,.sp aw 4100),(6,.sp aw 16390)],[(4100,.keep aw 4),(16390,.one aw (.dv aw))],[]⟩)] (.tl (.cut [(.normal,⟨[(4,.sp aw 4100),(6,.sp aw 16390)],[(4100,.keep aw 4),(16390,.one aw (.dv aw))],[5,7]⟩)] [5,7] [4100] (.two (.tl (.two (.reg [] 15) (.reg [] 16))) .leaf) .leaf))) .leaf)) .leaf)))))
def H7(lp:Lp)(call:Ca)(a0:D)(a1:D):Option D:=
(call 140 [a1]).bind fun r1=>
(D.asSl r1).bind fun l2=>
(D.bin .gtr (Jn (l2.length)) (Jn 32)).bind fun x3=>
(D.truth x3).bind fun b4=>
 if b4 then((call 125 []).bind fun r5=>
 some r5) else((D.truth a0).bind fun b6=>
(if b6 then((D.asSl r1).bind fun l7=>
(D.bin .gtr (Jn (l7.length)) (Jn 0)).bind fun x8=>
 D.truth x8) else(some false)).bind fun b9=>
(lp (β:=Nat×List D) (fun v10=>
(D.asSl r1).bind fun l11=>
(D.bin .lss (gx v10 0) (Jn (l11.length))).bind fun x12=>
(D.truth x12).bind fun b13=>
 if b13 then(((D.bin .rem (gx v10 0) (Jn 2)).bind fun x14=>
(D.truth (D.bool (D.beq x14 (Jn 0)))).bind fun b15=>
 if b15 then((D.bin .quo (gx v10 0) (Jn 2)).bind fun x16=>
(D.bin .quo (gx v10 0) (Jn 2)).bind fun x17=>
(D.idx x17 16).bind fun i18=>
(D.get (gx v10 1) [2,i18]).bind fun x19=>
(D.asSl r1).bind fun l20=>
(D.idx (gx v10 0) (l20.length)).bind fun i21=>
(l20[i21]?).bind fun x22=>
(D.conv .u32 x22).bind fun x23=>
(D.bin .add x19 x23).bind fun x24=>
(D.idx x16 16).bind fun i25=>
(D.set (gx v10 1) [2,i25] x24).bind fun x26=>
 some (0,[x26])) else((D.bin .quo (gx v10 0) (Jn 2)).bind fun x27=>
(D.bin .quo (gx v10 0) (Jn 2)).bind fun x28=>
(D.idx x28 16).bind fun i29=>
(D.get (gx v10 1) [2,i29]).bind fun x30=>
(D.asSl r1).bind fun l31=>
(D.idx (gx v10 0) (l31.length)).bind fun i32=>
(l31[i32]?).bind fun x33=>
(D.conv .u32 x33).bind fun x34=>
(D.bin .mul x34 (D.int .u32 65536)).bind fun x35=>
(D.bin .add x30 x35).bind fun x36=>
(D.idx x27 16).bind fun i37=>
(D.set (gx v10 1) [2,i37] x36).bind fun x38=>
 some (0,[x38]))).bind fun(r39:Nat×List D)=>
(D.bin .add (gx v10 0) (Jn 1)).bind fun x40=>
 some (Sum.inl [x40,(gx r39.2 0)])) else(some (Sum.inr (0,[(gx v10 1)])))) [(Jn 0),(D.st [(D.bool false),(D.bool b9),(aF aW)])]).bind fun r41=>
 some (gx r41.2 0))
theorem SB{lp}(hlp:ak lp):ac 81 (m2 (H7 lp)):=aO (v:=0) (fn:=Tryz.f119) (ann:=Rv) hlp
def Rx:Ann:=(.tl (.tl (.tl (.two (.tl (.two (.loop ⟨[(5,.ow Ti),(6,.di),(7,.di)],[],[0,1]⟩ [(.exit 0,⟨[(5,.ow Ti)],[],[]⟩)] .leaf) .leaf)) .leaf))))
def JN(lp:Lp)(call:Ca)(a0:D)(a1:D):Option D:=
(lp (β:=Nat×List D) (fun v1=>
(D.asSl a0).bind fun l2=>
(D.asSl a1).bind fun l3=>
(D.max2 (Jn (l2.length)) (Jn (l3.length))).bind fun x4=>
(D.bin .add x4 (Jn 1)).bind fun x5=>
(D.bin .lss (gx v1 2) x5).bind fun x6=>
(D.truth x6).bind fun b7=>
 if b7 then((call 141 [a0,(gx v1 2)]).bind fun r8=>
(call 141 [a1,(gx v1 2)]).bind fun r9=>
(D.bin .add r8 r9).bind fun x10=>
(D.bin .add x10 (gx v1 1)).bind fun x11=>
(D.bin .rem x11 (Jn 65536)).bind fun x12=>
 if List.length ((gx v1 0).els)+List.length [x12]<=1073741824 then((D.bin .quo x11 (Jn 65536)).bind fun x13=>
(D.bin .add (gx v1 2) (Jn 1)).bind fun x14=>
 some (Sum.inl [(D.sl (((gx v1 0).els)++[x12])),x13,x14])) else none) else(some (Sum.inr (0,[(D.sl ((gx v1 0).els))])))) [(D.sl []),(Jn 0),(Jn 0)]).bind fun r15=>
(call 140 [(D.sl ((gx r15.2 0).els))]).bind fun r16=>
 some r16
theorem SC{lp}(hlp:ak lp):ac 82 (m2 (JN lp)):=aO (v:=0) (fn:=Tryz.f121) (ann:=Rx) hlp
end Sy
end
end
noncomputable section
set_option maxHeartbeats 0
noncomputable section
namespace Sy
open Go Go.Proofs
def JO(lp:Lp)(call:Ca)(a0:D):Option D:=
(call 76 [a0]).bind fun r1=>
(D.un .not r1).bind fun x2=>
(D.truth x2).bind fun b3=>
(if b3 then(some true) else((call 77 [a0]).bind fun r4=>
(D.asSl r4).bind fun l5=>
 D.truth (D.bool (D.beq (Jn (l5.length)) (Jn 0))))).bind fun b6=>
(D.truth (D.bool b6)).bind fun b7=>
 if b7 then(some (Jn 0)) else((D.get a0 [1]).bind fun x8=>
(D.truth x8).bind fun b9=>
 if b9 then(some (Jn (-1))) else(some (Jn 1)))
theorem SD{lp}(hlp:ak lp):ac 83 (m1 (JO lp)):=aU (v:=0) (fn:=Tryz.f66) (ann:=.leaf) hlp
theorem SE{lp}(hlp:ak lp):ac 84 (cY 0 lp 84 Tryz.f50 .leaf):=bx hlp (by kernel_rfl) (by kernel_rfl)
def Ry:Ann:=(.tl (.tl (.tl (.two (.tl (.two (.two (.two (.loop ⟨[(4,.sp aw 4100),(5,.di),(7,.di)],[(4100,.keep aw 4)],[]⟩ [(.exit 0,⟨[(4,.sp aw 4100),(5,.di)],[(4100,.keep aw 4)],[]⟩)] .leaf) .leaf) .leaf) .leaf)) (.tl (.tl (.tl (.two (.two (.loop ⟨[(4,.sp aw 4100),(10,.dv K5),(11,.dv K5)],[(4100,.keep aw 4)],[]⟩ [(.exit 2,⟨[(4,.sp aw 4100),(10,.dv K5)],[(4100,.keep aw 4)],[]⟩)] .leaf) .leaf) .leaf))))))))
def H8(lp:Lp)(call:Ca)(a0:D)(a1:D):Option D:=
(call 124 [a0]).bind fun r1=>
(D.tupAt r1 0).bind fun x2=>
(D.tupAt r1 1).bind fun x3=>
(call 124 [a1]).bind fun r4=>
(D.tupAt r4 0).bind fun x5=>
(D.tupAt r4 1).bind fun x6=>
(D.truth x3).bind fun b7=>
(if b7 then(D.truth x6) else(some false)).bind fun b8=>
(D.truth (D.bool b8)).bind fun b9=>
 if b9 then((lp (β:=Nat×List D) (fun v10=>
(D.truth (D.bool (!(D.beq (gx v10 1) (Jn 0))))).bind fun b11=>
 if b11 then((D.bin .rem (gx v10 0) (gx v10 1)).bind fun x12=>
 some (Sum.inl [(gx v10 1),x12])) else(some (Sum.inr (0,[(gx v10 0)])))) [x2,x5]).bind fun r13=>
(call 34 [(gx r13.2 0)]).bind fun r14=>
(call 142 [r14]).bind fun r15=>
 some r15) else((call 76 [a0]).bind fun r16=>
(D.un .not r16).bind fun x17=>
(D.truth x17).bind fun b18=>
(if b18 then(some true) else((call 76 [a1]).bind fun r19=>
(D.un .not r19).bind fun x20=>
 D.truth x20)).bind fun b21=>
(D.truth (D.bool b21)).bind fun b22=>
 if b22 then((call 125 []).bind fun r23=>
 some r23) else((call 77 [a0]).bind fun r24=>
(call 77 [a1]).bind fun r25=>
(lp (β:=Nat×List D) (fun v26=>
(D.asSl (gx v26 1)).bind fun l27=>
(D.bin .gtr (Jn (l27.length)) (Jn 0)).bind fun x28=>
(D.truth x28).bind fun b29=>
 if b29 then((call 143 [(gx v26 0),(gx v26 1)]).bind fun r30=>
(D.tupAt r30 0).bind fun x31=>
(D.tupAt r30 1).bind fun x32=>
 some (Sum.inl [(gx v26 1),x32])) else(some (Sum.inr (0,[(gx v26 0)])))) [r24,r25]).bind fun r33=>
(call 81 [(D.bool false),(gx r33.2 0)]).bind fun r34=>
 some r34))
theorem SF{lp}(hlp:ak lp):ac 85 (m2 (H8 lp)):=aO (v:=0) (fn:=Tryz.f76) (ann:=Ry) hlp
def Rz:Ann:=(.tl (.tl (.two (.reg [] 6) .leaf)))
def JP(lp:Lp)(call:Ca)(a0:D):Option D:=
(call 76 [a0]).bind fun r1=>
(D.un .not r1).bind fun x2=>
(D.truth x2).bind fun b3=>
 if b3 then((call 125 []).bind fun r4=>
 some r4) else((D.get a0 [1]).bind fun x5=>
(D.un .not x5).bind fun x6=>
(call 77 [a0]).bind fun r7=>
(call 81 [x6,r7]).bind fun r8=>
 some r8)
theorem SG{lp}(hlp:ak lp):ac 86 (m1 (JP lp)):=aU (v:=0) (fn:=Tryz.f116) (ann:=Rz) hlp
def RA:Ann:=(.tl (.tl (.tl (.tl (.tl (.two (.reg [] 9) (.cut [(.normal,⟨[(2,.sp aw 4098),(3,.sp aw 4099),(4,.sp aw 4100),(9,.dv K5)],[(4098,.keep aw 2),(4099,.keep aw 3),(4100,.keep aw 4)],[]⟩)] [] [4098,4099,4100] .leaf .leaf)))))))
def H9(lp:Lp)(call:Ca)(a0:D)(a1:D):Option D:=
(call 124 [a0]).bind fun r1=>
(D.tupAt r1 0).bind fun x2=>
(D.tupAt r1 1).bind fun x3=>
(call 124 [a1]).bind fun r4=>
(D.tupAt r4 0).bind fun x5=>
(D.tupAt r4 1).bind fun x6=>
(D.truth x3).bind fun b7=>
(if b7 then(D.truth x6) else(some false)).bind fun b8=>
(D.truth (D.bool b8)).bind fun b9=>
(if b9 then(D.truth (D.bool (!(D.beq x5 (Jn 0))))) else(some false)).bind fun b10=>
(D.truth (D.bool b10)).bind fun b11=>
 if b11 then((call 144 [x2,x5]).bind fun r12=>
(call 34 [r12]).bind fun r13=>
 some r13) else((call 76 [a0]).bind fun r14=>
(D.un .not r14).bind fun x15=>
(D.truth x15).bind fun b16=>
(if b16 then(some true) else((call 76 [a1]).bind fun r17=>
(D.un .not r17).bind fun x18=>
 D.truth x18)).bind fun b19=>
(D.truth (D.bool b19)).bind fun b20=>
(if b20 then(some true) else((call 77 [a1]).bind fun r21=>
(D.asSl r21).bind fun l22=>
 D.truth (D.bool (D.beq (Jn (l22.length)) (Jn 0))))).bind fun b23=>
(D.truth (D.bool b23)).bind fun b24=>
 if b24 then((call 125 []).bind fun r25=>
 some r25) else((call 77 [a0]).bind fun r26=>
(call 77 [a1]).bind fun r27=>
(call 143 [r26,r27]).bind fun r28=>
(D.tupAt r28 0).bind fun x29=>
(D.tupAt r28 1).bind fun x30=>
((D.get a0 [1]).bind fun x31=>
(D.get a1 [1]).bind fun x32=>
(D.truth (D.bool (!(D.beq x31 x32)))).bind fun b33=>
(if b33 then((D.asSl x30).bind fun l34=>
(D.bin .gtr (Jn (l34.length)) (Jn 0)).bind fun x35=>
 D.truth x35) else(some false)).bind fun b36=>
(D.truth (D.bool b36)).bind fun b37=>
 if b37 then((call 82 [x29,(D.sl [(Jn 1)])]).bind fun r38=>
 some (0,[r38])) else(some (0,[x29]))).bind fun(r39:Nat×List D)=>
(D.get a0 [1]).bind fun x40=>
(D.get a1 [1]).bind fun x41=>
(call 81 [(D.bool (!(D.beq x40 x41))),(gx r39.2 0)]).bind fun r42=>
 some r42))
theorem SH{lp}(hlp:ak lp):ac 87 (m2 (H9 lp)):=aO (v:=0) (fn:=Tryz.f74) (ann:=RA) hlp
def JQ(lp:Lp)(call:Ca)(a0:D):Option D:=
(D.get a0 [0]).bind fun x1=>
(call 76 [x1]).bind fun r2=>
(D.un .not r2).bind fun x3=>
(D.truth x3).bind fun b4=>
(if b4 then(some true) else((D.get a0 [1]).bind fun x5=>
(call 76 [x5]).bind fun r6=>
(D.un .not r6).bind fun x7=>
 D.truth x7)).bind fun b8=>
(D.truth (D.bool b8)).bind fun b9=>
 if b9 then(some (D.bool false)) else((D.get a0 [1]).bind fun x10=>
(call 83 [x10]).bind fun r11=>
(D.bin .gtr r11 (Jn 0)).bind fun x12=>
(D.truth x12).bind fun b13=>
(if b13 then((D.get a0 [0]).bind fun x14=>
(D.get a0 [1]).bind fun x15=>
(call 85 [x14,x15]).bind fun r16=>
(call 133 []).bind fun r17=>
 D.truth (D.bool (D.beq r16 r17))) else(some false)).bind fun b18=>
 some (D.bool b18))
theorem SI{lp}(hlp:ak lp):ac 88 (m1 (JQ lp)):=aU (v:=0) (fn:=Tryz.f65) (ann:=.leaf) hlp
def RB:Ann:=(.tl (.tl (.tl (.tl (.tl (.two (.reg [] 11) .leaf))))))
def Ia(lp:Lp)(call:Ca)(a0:D)(a1:D):Option D:=
(call 124 [a0]).bind fun r1=>
(D.tupAt r1 0).bind fun x2=>
(D.tupAt r1 1).bind fun x3=>
(call 124 [a1]).bind fun r4=>
(D.tupAt r4 0).bind fun x5=>
(D.tupAt r4 1).bind fun x6=>
(D.truth x3).bind fun b7=>
(if b7 then(D.truth x6) else(some false)).bind fun b8=>
(D.truth (D.bool b8)).bind fun b9=>
(if b9 then((call 145 [x2]).bind fun r10=>
 D.truth r10) else(some false)).bind fun b11=>
(D.truth (D.bool b11)).bind fun b12=>
(if b12 then((call 145 [x5]).bind fun r13=>
 D.truth r13) else(some false)).bind fun b14=>
(D.truth (D.bool b14)).bind fun b15=>
 if b15 then((D.bin .mul x2 x5).bind fun x16=>
(call 34 [x16]).bind fun r17=>
 some r17) else((call 76 [a0]).bind fun r18=>
(D.un .not r18).bind fun x19=>
(D.truth x19).bind fun b20=>
(if b20 then(some true) else((call 76 [a1]).bind fun r21=>
(D.un .not r21).bind fun x22=>
 D.truth x22)).bind fun b23=>
(D.truth (D.bool b23)).bind fun b24=>
 if b24 then((call 125 []).bind fun r25=>
 some r25) else((D.get a0 [1]).bind fun x26=>
(D.get a1 [1]).bind fun x27=>
(call 77 [a0]).bind fun r28=>
(call 77 [a1]).bind fun r29=>
(call 146 [r28,r29]).bind fun r30=>
(call 81 [(D.bool (!(D.beq x26 x27))),r30]).bind fun r31=>
 some r31))
theorem SJ{lp}(hlp:ak lp):ac 89 (m2 (Ia lp)):=aO (v:=0) (fn:=Tryz.f68) (ann:=RB) hlp
def RC:Ann:=(.tl (.two (.reg [] 7) .leaf))
def JR(lp:Lp)(call:Ca)(a0:D)(a1:D):Option D:=
(call 118 [(D.sl [a0])]).bind fun r1=>
(call 118 [(D.sl [a1])]).bind fun r2=>
(D.un .not r1).bind fun x3=>
(D.truth x3).bind fun b4=>
(if b4 then((D.un .not r2).bind fun x5=>
 D.truth x5) else(some false)).bind fun b6=>
(D.truth (D.bool b6)).bind fun b7=>
 if b7 then(some (Jn 0)) else((D.un .not r1).bind fun x8=>
(D.truth x8).bind fun b9=>
 if b9 then(some (Jn (-1))) else((D.un .not r2).bind fun x10=>
(D.truth x10).bind fun b11=>
 if b11 then(some (Jn 1)) else((D.get a0 [1]).bind fun x12=>
(D.get a1 [1]).bind fun x13=>
(D.truth (D.bool (!(D.beq x12 x13)))).bind fun b14=>
 if b14 then((D.get a0 [1]).bind fun x15=>
(D.truth x15).bind fun b16=>
 if b16 then(some (Jn (-1))) else(some (Jn 1))) else((D.get a0 [1]).bind fun x17=>
(D.truth x17).bind fun b18=>
 if b18 then((D.get a1 [2]).bind fun x19=>
(D.get a0 [2]).bind fun x20=>
(call 121 [x19,x20]).bind fun r21=>
 some r21) else((D.get a0 [2]).bind fun x22=>
(D.get a1 [2]).bind fun x23=>
(call 121 [x22,x23]).bind fun r24=>
 some r24)))))
theorem SK{lp}(hlp:ak lp):ac 90 (m2 (JR lp)):=aO (v:=0) (fn:=Tryz.f158) (ann:=RC) hlp
def QF:Ann:=(.tl (.two (.reg [] 5) .leaf))
theorem SL{lp}(hlp:ak lp):ac 91 (cY 0 lp 91 Tryz.f177 QF):=bx hlp (by kernel_rfl) (by kernel_rfl)
def RD:Ann:=(.tl (.two (.reg [] 8) (.cut [(.normal,⟨[(3,.sp K1 4099),(6,.sp cM 4102),(7,.sp K1 8199)],[(4099,.keep K1 3),(4102,.keep cM 6),(8199,.one K1 (.dv K1))],[]⟩)] [] [4099,4102] (.two (.reg [] 8) (.tl (.two (.reg [] 13) .leaf))) (.two (.reg [] 5) .leaf))))
def JS(lp:Lp)(call:Ca)(a0:D)(a1:D)(a2:D):Option D:=
(call 103 [a1,a0]).bind fun r1=>
(call 103 [a2,a0]).bind fun r2=>
(call 117 [r1,r2]).bind fun r3=>
((D.get r3 [0]).bind fun x4=>
(D.get r3 [1]).bind fun x5=>
(call 152 [x4,x5]).bind fun r6=>
(D.get r3 [2]).bind fun x7=>
(call 152 [r6,x7]).bind fun r8=>
(D.bin .gtr r8 (Jn 1)).bind fun x9=>
(D.truth x9).bind fun b10=>
 if b10 then((D.get r3 [0]).bind fun x11=>
(D.bin .quo x11 r8).bind fun x12=>
(D.get r3 [1]).bind fun x13=>
(D.bin .quo x13 r8).bind fun x14=>
(D.get r3 [2]).bind fun x15=>
(D.bin .quo x15 r8).bind fun x16=>
 some (0,[(D.st [x12,x14,x16])])) else(some (0,[r3]))).bind fun(r17:Nat×List D)=>
(call 101 [(gx r17.2 0),a0]).bind fun r18=>
 some (D.st [(gx r17.2 0),r18])
theorem SM{lp}(hlp:ak lp):ac 96 (m3 (JS lp)):=jO (v:=0) (fn:=Tryz.f232) (ann:=RD) hlp
def JT(lp:Lp)(call:Ca)(a0:D):Option D:=
(D.get a0 [0]).bind fun x1=>
(D.un .neg x1).bind fun x2=>
(D.get a0 [1]).bind fun x3=>
(D.un .neg x3).bind fun x4=>
(D.get a0 [2]).bind fun x5=>
(D.un .neg x5).bind fun x6=>
 some (D.st [x2,x4,x6])
theorem SN{lp}(hlp:ak lp):ac 97 (m1 (JT lp)):=aU (v:=0) (fn:=Tryz.f233) (ann:=.leaf) hlp
def RE:Ann:=(.tl (.tl (.two (.tl (.two (.loop ⟨[(3,.sp cM 4099),(5,.dv Ty.bool),(11,.di)],[(4099,.keep cM 3)],[9,10]⟩ [(.ret,⟨[(4,.dv Ty.bool)],[],[]⟩),(.exit 0,⟨[(5,.dv Ty.bool)],[],[]⟩)] .leaf) .leaf)) .leaf)))
def JU(lp:Lp)(call:Ca)(a0:D)(a1:D):Option D:=
(D.asSl a0).bind fun l1=>
(lp (β:=Nat×List D) (fun v2=>
(D.bin .lss (gx v2 1) (Jn (l1.length))).bind fun x3=>
(D.truth x3).bind fun b4=>
 if b4 then((D.asSl a0).bind fun l5=>
(D.idx (gx v2 1) (l5.length)).bind fun i6=>
(l5[i6]?).bind fun x7=>
(D.get a1 [0]).bind fun x8=>
(call 101 [x8,x7]).bind fun r9=>
(D.get a1 [1]).bind fun x10=>
(D.bin .gtr r9 x10).bind fun x11=>
(D.truth x11).bind fun b12=>
 if b12 then(some (Sum.inr (0,[(D.bool false)]))) else((D.truth (gx v2 0)).bind fun b13=>
(if b13 then((D.get a1 [1]).bind fun x14=>
 D.truth (D.bool (D.beq r9 x14))) else(some false)).bind fun b15=>
(D.bin .add (gx v2 1) (Jn 1)).bind fun x16=>
 some (Sum.inl [(D.bool b15),x16]))) else(some (Sum.inr (1,[(gx v2 0)])))) [(D.bool true),(Jn 0)]).bind fun r17=>
 if r17.1=0 then(some (gx r17.2 0)) else((D.un .not (gx r17.2 0)).bind fun x18=>
 some x18)
theorem SO{lp}(hlp:ak lp):ac 98 (m2 (JU lp)):=aO (v:=0) (fn:=Tryz.f234) (ann:=RE) hlp
def J8:Ann:=(.tl (.two (.reg [] 23) .leaf))
def CN(lp:Lp)(call:Ca)(a0:D)(a1:D):Option D:=
(D.get a0 [0,0]).bind fun x1=>
(D.get a1 [0,0]).bind fun x2=>
(call 53 [x1,x2]).bind fun r3=>
(D.get a0 [0,1]).bind fun x4=>
(D.get a1 [0,1]).bind fun x5=>
(call 53 [x4,x5]).bind fun r6=>
(D.get a0 [0,2]).bind fun x7=>
(D.get a1 [0,2]).bind fun x8=>
(call 53 [x7,x8]).bind fun r9=>
(call 52 [(D.sl [r3,r6,r9])]).bind fun r10=>
 some r10
theorem Ly{lp}(hlp:ak lp):ac 100 (m2 (CN lp)):=aO (v:=0) (fn:=Tryz.f236) (ann:=J8) hlp
def AP(lp:Lp)(call:Ca)(a0:D)(a1:D):Option D:=
(D.get a0 [0]).bind fun x1=>
(D.get a1 [0]).bind fun x2=>
(D.bin .mul x1 x2).bind fun x3=>
(D.get a0 [1]).bind fun x4=>
(D.get a1 [1]).bind fun x5=>
(D.bin .mul x4 x5).bind fun x6=>
(D.bin .add x3 x6).bind fun x7=>
(D.get a0 [2]).bind fun x8=>
(D.get a1 [2]).bind fun x9=>
(D.bin .mul x8 x9).bind fun x10=>
(D.bin .add x7 x10).bind fun x11=>
 some x11
theorem Lz{lp}(hlp:ak lp):ac 101 (m2 (AP lp)):=aO (v:=0) (fn:=Tryz.f239) (ann:=.leaf) hlp
def J9:Ann:=(.tl (.two (.reg [] 4) .leaf))
def CO(lp:Lp)(call:Ca)(a0:D)(a1:D):Option D:=
(call 97 [a1]).bind fun r1=>
(call 154 [a0,r1]).bind fun r2=>
 some r2
theorem LA{lp}(hlp:ak lp):ac 103 (m2 (CO lp)):=aO (v:=0) (fn:=Tryz.f241) (ann:=J9) hlp
def Ka:Ann:=(.tl (.tl (.two (.tl (.two (.loop ⟨[(7,.sp K1 8199),(14,.di)],[(8199,.keep K1 7)],[13]⟩ [(.ret,⟨[(6,.di)],[],[]⟩),(.exit 0,⟨[],[],[]⟩)] .leaf) .leaf)) .leaf)))
def CP(lp:Lp)(call:Ca)(a0:D)(a1:D)(a2:D):Option D:=
(call 117 [a1,a2]).bind fun r1=>
(lp (β:=Nat×List D) (fun v2=>
(D.bin .lss (gx v2 0) (Jn 3)).bind fun x3=>
(D.truth x3).bind fun b4=>
 if b4 then((D.idx (gx v2 0) 3).bind fun i5=>
(D.fld a0 i5).bind fun x6=>
(D.truth (D.bool (!(D.beq x6 (Jn 0))))).bind fun b7=>
 if b7 then((D.idx (gx v2 0) 3).bind fun i8=>
(D.get r1 [i8]).bind fun x9=>
(call 53 [x9,(Jn 0)]).bind fun r10=>
(call 53 [x6,(Jn 0)]).bind fun r11=>
(D.bin .mul r10 r11).bind fun x12=>
 some (Sum.inr (0,[x12]))) else((D.bin .add (gx v2 0) (Jn 1)).bind fun x13=>
 some (Sum.inl [x13]))) else(some (Sum.inr (1,[])))) [(Jn 0)]).bind fun r14=>
 if r14.1=0 then(some (gx r14.2 0)) else(some (Jn 0))
theorem LB{lp}(hlp:ak lp):ac 104 (m3 (CP lp)):=jO (v:=0) (fn:=Tryz.f242) (ann:=Ka) hlp
def CQ(lp:Lp)(call:Ca)(a0:D)(a1:D):Option D:=
(D.get a0 [0]).bind fun x1=>
(D.get a1 [0]).bind fun x2=>
(D.truth (D.bool (!(D.beq x1 x2)))).bind fun b3=>
 if b3 then((D.get a0 [0]).bind fun x4=>
(D.get a1 [0]).bind fun x5=>
(D.bin .lss x4 x5).bind fun x6=>
 some x6) else((D.get a0 [1]).bind fun x7=>
(D.get a1 [1]).bind fun x8=>
(D.truth (D.bool (!(D.beq x7 x8)))).bind fun b9=>
 if b9 then((D.get a0 [1]).bind fun x10=>
(D.get a1 [1]).bind fun x11=>
(D.bin .lss x10 x11).bind fun x12=>
 some x12) else((D.get a0 [2]).bind fun x13=>
(D.get a1 [2]).bind fun x14=>
(D.bin .lss x13 x14).bind fun x15=>
 some x15))
theorem LC{lp}(hlp:ak lp):ac 105 (m2 (CQ lp)):=aO (v:=0) (fn:=Tryz.f224) (ann:=.leaf) hlp
def Kb:Ann:=(.tl (.two (.reg [] 8) .leaf))
def CS(lp:Lp)(call:Ca)(a0:D)(a1:D)(a2:D):Option D:=
(call 112 [a1,a0]).bind fun r1=>
(call 112 [a2,a0]).bind fun r2=>
(call 123 [r1,r2]).bind fun r3=>
(call 80 [r3]).bind fun r4=>
(call 155 [r4]).bind fun r5=>
(D.get r5 [0]).bind fun x6=>
 some x6
theorem LD{lp}(hlp:ak lp):ac 106 (m3 (CS lp)):=jO (v:=0) (fn:=Tryz.f225) (ann:=Kb) hlp
def CU(lp:Lp)(call:Ca)(a0:D)(a1:D):Option D:=
(D.get a0 [0]).bind fun x1=>
(D.get a1 [0]).bind fun x2=>
(D.bin .mul x1 x2).bind fun x3=>
(D.get a0 [1]).bind fun x4=>
(D.get a1 [1]).bind fun x5=>
(D.bin .mul x4 x5).bind fun x6=>
(D.bin .add x3 x6).bind fun x7=>
(D.get a0 [2]).bind fun x8=>
(D.get a1 [2]).bind fun x9=>
(D.bin .mul x8 x9).bind fun x10=>
(D.bin .add x7 x10).bind fun x11=>
 some x11
theorem LE{lp}(hlp:ak lp):ac 107 (m2 (CU lp)):=aO (v:=0) (fn:=Tryz.f226) (ann:=.leaf) hlp
def Kc:Ann:=(.tl (.two (.tl (.two (.loop ⟨[(3,.sp K1 4099),(5,.di)],[(4099,.keep K1 3)],[0]⟩ [(.ret,⟨[(4,.dv Ty.bool)],[],[]⟩),(.exit 0,⟨[],[],[]⟩)] (.tl (.two (.two (.two (.reg [] 6) .leaf) .leaf) .leaf))) .leaf)) .leaf))
def CV(lp:Lp)(call:Ca)(a0:D)(a1:D):Option D:=
(lp (β:=Nat×List D) (fun v1=>
(D.asSl a0).bind fun l2=>
(D.bin .lss (gx v1 0) (Jn (l2.length))).bind fun x3=>
(D.truth x3).bind fun b4=>
 if b4 then((D.asSl a0).bind fun l5=>
(D.idx (gx v1 0) (l5.length)).bind fun i6=>
(l5[i6]?).bind fun x7=>
(D.fld x7 0).bind fun x8=>
(D.truth (D.bool (D.beq x8 a1))).bind fun b9=>
 if b9 then(some (Sum.inr (0,[(D.bool true)]))) else((D.bin .add (gx v1 0) (Jn 1)).bind fun x10=>
 some (Sum.inl [x10]))) else(some (Sum.inr (1,[])))) [(Jn 0)]).bind fun r11=>
 if r11.1=0 then(some (gx r11.2 0)) else(some (D.bool false))
theorem LF{lp}(hlp:ak lp):ac 108 (m2 (CV lp)):=aO (v:=0) (fn:=Tryz.f227) (ann:=Kc) hlp
def Kd:Ann:=(.tl (.tl (.two (.tl (.two (.loop ⟨[(4,.sp K1 4100),(7,.dv Ty.bool),(8,.di)],[(4100,.keep K1 4)],[0,2]⟩ [(.ret,⟨[(6,.dv Ty.bool)],[],[]⟩),(.exit 0,⟨[(7,.dv Ty.bool)],[],[]⟩)] (.tl (.two (.two (.two (.reg [] 6) .leaf) .leaf) .leaf))) .leaf)) .leaf)))
def CW(lp:Lp)(call:Ca)(a0:D)(a1:D)(a2:D):Option D:=
(lp (β:=Nat×List D) (fun v1=>
(D.asSl a0).bind fun l2=>
(D.bin .lss (gx v1 1) (Jn (l2.length))).bind fun x3=>
(D.truth x3).bind fun b4=>
 if b4 then((D.asSl a0).bind fun l5=>
(D.idx (gx v1 1) (l5.length)).bind fun i6=>
(l5[i6]?).bind fun x7=>
(call 107 [a1,x7]).bind fun r8=>
(D.bin .gtr r8 a2).bind fun x9=>
(D.truth x9).bind fun b10=>
 if b10 then(some (Sum.inr (0,[(D.bool false)]))) else((D.truth (gx v1 0)).bind fun b11=>
(if b11 then(some true) else((D.bin .lss r8 a2).bind fun x12=>
 D.truth x12)).bind fun b13=>
(D.bin .add (gx v1 1) (Jn 1)).bind fun x14=>
 some (Sum.inl [(D.bool b13),x14]))) else(some (Sum.inr (1,[(gx v1 0)])))) [(D.bool false),(Jn 0)]).bind fun r15=>
 if r15.1=0 then(some (gx r15.2 0)) else(some (gx r15.2 0))
theorem LG{lp}(hlp:ak lp):ac 109 (m3 (CW lp)):=jO (v:=0) (fn:=Tryz.f228) (ann:=Kd) hlp
def Ke:Ann:=(.tl (.tl (.tl (.two (.tl (.two (.loop ⟨[(3,.sp K6 4099),(5,.ow K6),(6,.dv Ty.bool),(7,.di)],[(4099,.keep K6 3)],[0]⟩ [(.exit 0,⟨[(3,.sp K6 4099),(5,.ow K6),(6,.dv Ty.bool)],[(4099,.keep K6 3)],[]⟩)] (.tl (.two (.two (.two (.reg [] 8) (.cut [(.normal,⟨[(3,.sp K6 4099),(5,.ow K6),(6,.dv Ty.bool)],[(4099,.keep K6 3)],[0,7]⟩)] [0,7] [4099] .leaf .leaf)) .leaf) .leaf))) .leaf)) (.cut [(.normal,⟨[(5,.ow K6)],[],[]⟩)] [] [] .leaf .leaf)))))
def CX(lp:Lp)(call:Ca)(a0:D)(a1:D):Option D:=
(lp (β:=Nat×List D) (fun v1=>
(D.asSl a0).bind fun l2=>
(D.bin .lss (gx v1 2) (Jn (l2.length))).bind fun x3=>
(D.truth x3).bind fun b4=>
 if b4 then((D.get a1 [0]).bind fun x5=>
(D.asSl a0).bind fun l6=>
(D.idx (gx v1 2) (l6.length)).bind fun i7=>
(l6[i7]?).bind fun x8=>
(D.fld x8 0).bind fun x9=>
(call 105 [x5,x9]).bind fun r10=>
((D.un .not (gx v1 1)).bind fun x11=>
(D.truth x11).bind fun b12=>
(if b12 then(D.truth r10) else(some false)).bind fun b13=>
(D.truth (D.bool b13)).bind fun b14=>
 if b14 then(if List.length ((gx v1 0).els)+List.length [a1]<=1073741824 then(some (0,[(D.sl (((gx v1 0).els)++[a1])),(D.bool true)])) else none) else(some (0,[(D.sl ((gx v1 0).els)),(gx v1 1)]))).bind fun(r15:Nat×List D)=>
(D.asSl a0).bind fun l16=>
(D.idx (gx v1 2) (l16.length)).bind fun i17=>
(l16[i17]?).bind fun x18=>
 if List.length ((gx r15.2 0).els)+List.length [x18]<=1073741824 then((D.bin .add (gx v1 2) (Jn 1)).bind fun x19=>
 some (Sum.inl [(D.sl (((gx r15.2 0).els)++[x18])),(gx r15.2 1),x19])) else none) else(some (Sum.inr (0,[(D.sl ((gx v1 0).els)),(gx v1 1)])))) [(D.sl []),(D.bool false),(Jn 0)]).bind fun r20=>
((D.un .not (gx r20.2 1)).bind fun x21=>
(D.truth x21).bind fun b22=>
 if b22 then(if List.length ((gx r20.2 0).els)+List.length [a1]<=1073741824 then(some (0,[(D.sl (((gx r20.2 0).els)++[a1]))])) else none) else(some (0,[(D.sl ((gx r20.2 0).els))]))).bind fun(r23:Nat×List D)=>
 some (D.sl ((gx r23.2 0).els))
theorem LH{lp}(hlp:ak lp):ac 110 (m2 (CX lp)):=aO (v:=0) (fn:=Tryz.f229) (ann:=Ke) hlp
def Kf:Ann:=(.tl (.tl (.tl (.two (.tl (.two (.loop ⟨[(4,.sp K1 4100),(7,.ow Ti),(8,.di),(9,.di)],[(4100,.keep K1 4)],[0,2]⟩ [(.exit 0,⟨[(4,.sp K1 4100),(7,.ow Ti),(8,.di)],[(4100,.keep K1 4)],[0,2]⟩)] (.tl (.cut [(.normal,⟨[(4,.sp K1 4100),(7,.ow Ti),(8,.di)],[(4100,.keep K1 4)],[0,2,9]⟩)] [0,2,9] [4100] (.two (.two (.reg [] 7) .leaf) .leaf) .leaf))) .leaf)) (.tl (.two (.two (.loop ⟨[(4,.sp K1 4100),(7,.ow Ti),(8,.di)],[(4100,.keep K1 4)],[0,2,10]⟩ [(.exit 2,⟨[(7,.ow Ti)],[],[]⟩)] (.tl (.two (.tl (.tl (.two (.tl (.two (.loop ⟨[(4,.sp K1 4100),(7,.ow Ti),(11,.di),(12,.di)],[(4100,.keep K1 4)],[0,2,8,10]⟩ [(.exit 4,⟨[(4,.sp K1 4100),(7,.ow Ti),(11,.di)],[(4100,.keep K1 4)],[0,2,10]⟩)] (.tl (.cut [(.normal,⟨[(4,.sp K1 4100),(7,.ow Ti),(11,.di)],[(4100,.keep K1 4)],[0,2,8,10,12]⟩)] [0,2,8,10,12] [4100] (.two (.tl (.two (.two (.reg [] 12) .leaf) .leaf)) .leaf) .leaf))) .leaf)) .leaf))) .leaf))) .leaf) .leaf))))))
def CY(lp:Lp)(call:Ca)(a0:D)(a1:D)(a2:D):Option D:=
(lp (β:=Nat×List D) (fun v1=>
(D.asSl a0).bind fun l2=>
(D.bin .lss (gx v1 2) (Jn (l2.length))).bind fun x3=>
(D.truth x3).bind fun b4=>
(if b4 then((D.bin .lss (gx v1 1) (Jn 0)).bind fun x5=>
 D.truth x5) else(some false)).bind fun b6=>
(D.truth (D.bool b6)).bind fun b7=>
 if b7 then(((D.asSl a0).bind fun l8=>
(D.idx (gx v1 2) (l8.length)).bind fun i9=>
(l8[i9]?).bind fun x10=>
(call 107 [a1,x10]).bind fun r11=>
(D.truth (D.bool (D.beq r11 a2))).bind fun b12=>
 if b12 then(some (0,[(D.sl ((gx v1 0).els)),(gx v1 2)])) else(some (0,[(D.sl ((gx v1 0).els)),(gx v1 1)]))).bind fun(r13:Nat×List D)=>
(D.bin .add (gx v1 2) (Jn 1)).bind fun x14=>
 some (Sum.inl [(D.sl ((gx r13.2 0).els)),(gx r13.2 1),x14])) else(some (Sum.inr (0,[(D.sl ((gx v1 0).els)),(gx v1 1)])))) [(D.sl []),(Jn (-1)),(Jn 0)]).bind fun r15=>
(lp (β:=Nat×List D) (fun v16=>
(D.asSl a0).bind fun l17=>
(D.bin .leq (Jn (List.length ((gx v16 0).els))) (Jn (l17.length))).bind fun x18=>
(D.truth x18).bind fun b19=>
 if b19 then(if List.length ((gx v16 0).els)+List.length [(gx v16 1)]<=1073741824 then((lp (β:=Nat×List D) (fun v20=>
(D.asSl a0).bind fun l21=>
(D.bin .lss (gx v20 2) (Jn (l21.length))).bind fun x22=>
(D.truth x22).bind fun b23=>
(if b23 then((D.bin .lss (gx v20 1) (Jn 0)).bind fun x24=>
 D.truth x24) else(some false)).bind fun b25=>
(D.truth (D.bool b25)).bind fun b26=>
 if b26 then(((D.truth (D.bool (!(D.beq (gx v20 2) (gx v16 1))))).bind fun b27=>
(if b27 then((D.asSl a0).bind fun l28=>
(D.idx (gx v20 2) (l28.length)).bind fun i29=>
(l28[i29]?).bind fun x30=>
(call 107 [a1,x30]).bind fun r31=>
 D.truth (D.bool (D.beq r31 a2))) else(some false)).bind fun b32=>
(D.truth (D.bool b32)).bind fun b33=>
 if b33 then((D.asSl a0).bind fun l34=>
(D.idx (gx v16 1) (l34.length)).bind fun i35=>
(l34[i35]?).bind fun x36=>
(D.asSl a0).bind fun l37=>
(D.idx (gx v20 2) (l37.length)).bind fun i38=>
(l37[i38]?).bind fun x39=>
(call 156 [a0,a1,a2,x36,x39]).bind fun r40=>
(D.truth r40).bind fun b41=>
 if b41 then(some (0,[(D.sl ((gx v20 0).els)),(gx v20 2)])) else(some (0,[(D.sl ((gx v20 0).els)),(gx v20 1)]))) else(some (0,[(D.sl ((gx v20 0).els)),(gx v20 1)]))).bind fun(r42:Nat×List D)=>
(D.bin .add (gx v20 2) (Jn 1)).bind fun x43=>
 some (Sum.inl [(D.sl ((gx r42.2 0).els)),(gx r42.2 1),x43])) else(some (Sum.inr (0,[(D.sl ((gx v20 0).els)),(gx v20 1)])))) [(D.sl (((gx v16 0).els)++[(gx v16 1)])),(Jn (-1)),(Jn 0)]).bind fun r44=>
(D.truth (D.bool (D.beq (gx r44.2 1) (gx r15.2 1)))).bind fun b45=>
(if b45 then(some true) else((D.bin .lss (gx r44.2 1) (Jn 0)).bind fun x46=>
 D.truth x46)).bind fun b47=>
(D.truth (D.bool b47)).bind fun b48=>
 if b48 then(some (Sum.inr (0,[(D.sl ((gx r44.2 0).els))]))) else(some (Sum.inl [(D.sl ((gx r44.2 0).els)),(gx r44.2 1)]))) else none) else(some (Sum.inr (0,[(D.sl ((gx v16 0).els))])))) [(D.sl ((gx r15.2 0).els)),(gx r15.2 1)]).bind fun r49=>
 some (D.sl ((gx r49.2 0).els))
theorem LI{lp}(hlp:ak lp):ac 111 (m3 (CY lp)):=jO (v:=0) (fn:=Tryz.f230) (ann:=Kf) hlp
def CZ(lp:Lp)(call:Ca)(a0:D)(a1:D):Option D:=
(D.get a0 [0]).bind fun x1=>
(D.get a1 [0]).bind fun x2=>
(D.bin .sub x1 x2).bind fun x3=>
(D.get a0 [1]).bind fun x4=>
(D.get a1 [1]).bind fun x5=>
(D.bin .sub x4 x5).bind fun x6=>
(D.get a0 [2]).bind fun x7=>
(D.get a1 [2]).bind fun x8=>
(D.bin .sub x7 x8).bind fun x9=>
 some (D.st [x3,x6,x9])
theorem LJ{lp}(hlp:ak lp):ac 112 (m2 (CZ lp)):=aO (v:=0) (fn:=Tryz.f26) (ann:=.leaf) hlp
def C0(lp:Lp)(call:Ca)(a0:D):Option D:=
 some (D.bool (!(D.beq a0 a0)))
theorem LK{lp}(hlp:ak lp):ac 115 (m1 (C0 lp)):=aU (v:=0) (fn:=Tryz.f250) (ann:=.leaf) hlp
def Kg:Ann:=(.tl (.two (.reg [] 8) .leaf))
def C1(lp:Lp)(call:Ca)(a0:D)(a1:D):Option D:=
(D.truth a0).bind fun b1=>
(if b1 then(D.truth (D.bool (!(D.beq a1 (D.st (D.putParts (List.replicate 16 (D.int .u32 0)) [])))))) else(some false)).bind fun b2=>
 some (D.st [(D.bool false),(D.bool b2),a1])
theorem LL{lp}(hlp:ak lp):ac 116 (m2 (C1 lp)):=aO (v:=0) (fn:=Tryz.f133) (ann:=Kg) hlp
def C2(lp:Lp)(call:Ca)(a0:D)(a1:D):Option D:=
(D.get a0 [1]).bind fun x1=>
(D.get a1 [2]).bind fun x2=>
(D.bin .mul x1 x2).bind fun x3=>
(D.get a0 [2]).bind fun x4=>
(D.get a1 [1]).bind fun x5=>
(D.bin .mul x4 x5).bind fun x6=>
(D.bin .sub x3 x6).bind fun x7=>
(D.get a0 [2]).bind fun x8=>
(D.get a1 [0]).bind fun x9=>
(D.bin .mul x8 x9).bind fun x10=>
(D.get a0 [0]).bind fun x11=>
(D.get a1 [2]).bind fun x12=>
(D.bin .mul x11 x12).bind fun x13=>
(D.bin .sub x10 x13).bind fun x14=>
(D.get a0 [0]).bind fun x15=>
(D.get a1 [1]).bind fun x16=>
(D.bin .mul x15 x16).bind fun x17=>
(D.get a0 [1]).bind fun x18=>
(D.get a1 [0]).bind fun x19=>
(D.bin .mul x18 x19).bind fun x20=>
(D.bin .sub x17 x20).bind fun x21=>
 some (D.st [x7,x14,x21])
theorem LN{lp}(hlp:ak lp):ac 117 (m2 (C2 lp)):=aO (v:=0) (fn:=Tryz.f178) (ann:=.leaf) hlp
def Kh:Ann:=(.tl (.two (.tl (.two (.loop ⟨[(7,.di)],[],[5,6]⟩ [(.ret,⟨[(2,.dv Ty.bool)],[],[]⟩),(.exit 0,⟨[],[],[]⟩)] .leaf) .leaf)) .leaf))
def C3(lp:Lp)(call:Ca)(a0:D):Option D:=
(D.asSl a0).bind fun l1=>
(lp (β:=Nat×List D) (fun v2=>
(D.bin .lss (gx v2 0) (Jn (l1.length))).bind fun x3=>
(D.truth x3).bind fun b4=>
 if b4 then((D.asSl a0).bind fun l5=>
(D.idx (gx v2 0) (l5.length)).bind fun i6=>
(l5[i6]?).bind fun x7=>
(D.get x7 [0]).bind fun x8=>
(D.truth x8).bind fun b9=>
(if b9 then(some true) else((call 167 [x7]).bind fun r10=>
(D.un .not r10).bind fun x11=>
 D.truth x11)).bind fun b12=>
(D.truth (D.bool b12)).bind fun b13=>
 if b13 then(some (Sum.inr (0,[(D.bool false)]))) else((D.bin .add (gx v2 0) (Jn 1)).bind fun x14=>
 some (Sum.inl [x14]))) else(some (Sum.inr (1,[])))) [(Jn 0)]).bind fun r15=>
 if r15.1=0 then(some (gx r15.2 0)) else(some (D.bool true))
theorem LO{lp}(hlp:ak lp):ac 118 (m1 (C3 lp)):=aU (v:=0) (fn:=Tryz.f144) (ann:=Kh) hlp
def C4(lp:Lp)(call:Ca) :Option D:=
 some (D.st [(D.bool true),(D.bool false),(aF aW)])
theorem LP{lp}(hlp:ak lp):ac 119 (m0 (C4 lp)):=yL (v:=0) (fn:=Tryz.f89) (ann:=.leaf) hlp
end Sy
end
end
end Go.Proofs.YtpahompifldeeaaGreat
