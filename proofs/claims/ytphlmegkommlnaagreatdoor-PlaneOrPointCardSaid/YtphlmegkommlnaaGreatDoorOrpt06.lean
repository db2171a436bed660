/- Part 6 of the proof that PlaneOrPoint answers true at every input -/
import Derived.Test.YtphlmegkommlnaaGreatDoorOrpt05
import Derived.KernelRfl
set_option linter.unusedVariables false
set_option linter.unusedSimpArgs false
set_option linter.unnecessarySimpa false
set_option linter.defProp false
set_option maxRecDepth 20000
namespace Go.Proofs.YtphlmegkommlnaaGreatDoor
noncomputable section
namespace Sy
open Go
def wo(P:Program):Bool:=((List.range Lh).all λt=>match T8 t with|some ty=>cd P ty t&&decide (ty.high<=1000)&&av ty|none=>true)&&fnL.all (N8 P)
def KA(P:Program)(f:Nat)(g:List Ty×Ty):Bool:=
 bG g.1 && (av g.2 || match g.2 with | .tup ts => bG ts | _ => false) && match P.funcs[f]? with | some fn => !(fn.name == "runtime.NumGoroutine") && fn.body.isSome | none => false
def DY(P:Program):Bool:=(List.range Lh).all λt=>match JK t with|some g=>cn g.1&&decide (g.1.high<=1000)&&(match P.underlying t with|some (.map K V)=>cd P g.1 K&&cd P g.2 V|_=>false)|none=>true
def Ey(P:Program):Bool:=(List.range Hz).all λf=>match rM f with|some g=>KA P f g|none=>true
def O3{t:Nat}{ty:Ty}(h:T8 t=some ty):t<Lh:=by
 unfold T8 at h;rcases zAa t Lh with k|k
 ·exact k
 ·have:Nat.blt t Lh=false:=ztc.2 λa=>z4a (Nat.blt_eq ▸ a) (zMc.2 k);rw[this] at h;cases h
def JL{t:Nat}{g:Ty×Ty}(h:JK t=some g):t<Lh:=by
 unfold JK at h;rcases zAa t Lh with k|k
 ·exact k
 ·have:Nat.blt t Lh=false:=ztc.2 λa=>z4a (Nat.blt_eq ▸ a) (zMc.2 k);rw[this] at h;cases h
def C9{t:Nat}{ty:List Ty×Ty}(h:rM t=some ty):t<Hz:=by
 unfold rM OO at h;rcases zAa t Hz with k|k
 ·exact k
 ·have:Nat.blt t Hz=false:=ztc.2 λa=>z4a (Nat.blt_eq ▸ a) (zMc.2 k);rw[this] at h;cases h
def je(P:Program)(call:Nat->List D->Option D):Prop:=∀ f a b xs y,rM f=some (a,b)->call (vA f) xs=some y->fY a xs->Lj P (rE f) (kD f) a b f xs y
abbrev Lp:Type 1:={α β:Type}->(α->Option (Sum α β))->α->Option β
def au(lp:Lp):Prop:=∀ (α β:Type) (body:α->Option (Sum α β)) (x:α) (y:β),lp body x=some y->∃ n,rm body n x=some y
def yP(N:Nat):au (λbody=>rm body N):=λ_ _ _ _ _ h=>⟨N,h⟩
def wA:au (λbody=>nU body):=λ_ _ _ _ _ h=>pW h
def Jy(pv:Bool)(a:Nat->Option (Func×Ty))(lp:Lp)(call:Nat->List D->Option D):Nat->Inl
 | 0=>⟨pv,λ_=>none,λ_ _ _ _ _=>none⟩
 | n+1=>⟨pv,λf=>match a f with
  | some p=>some (Q9 (dG lp call (Jy pv a lp call n)) p.1 p.2)
  | none=>none,λc an R s k=>N6 (dG lp call (Jy pv a lp call n)) c an R s k⟩
def QX{P:Program}(h:wo P=true){t:Nat}(ht:fnF t=true):N8 P t=true:=by simp only[wo,zaa] at h;exact zDa.1 h.2 t (by simpa [fnF] using ht)
section
variable{P:Program}
def vT(h1:wo P=true)(h2:Ey P=true)(h4:DY P=true)(h3:P.follows .mixedOrders=true){lp:Lp}(hlp:au lp){call:Nat->List D->Option D}(hc:je P call)
  {inl : Inl} (hcod : HX P inl.cod) (hi : ∀ f g, inl.f f = some g -> (∃ fn, P.funcs[f]? = some fn /\ (fn.name == "runtime.NumGoroutine") = false /\ fn.body.isSome = true) /\ If P f g) : EnvOk P (dG lp call inl) := by
 have k1:∀ t ty,T8 t=some ty->cd P ty t=true/\ty.high<=1000/\av ty=true:=λt ty ht=>by have:=zDa.1 (zaa _ _ ▸ h1:_/\_).1 t (z0a.2 (O3 ht));rw[ht] at this;simp only[zaa,zfa] at this;exact⟨this.1.1,this.1.2,this.2⟩
 refine⟨λt ty ht=>.inr (k1 t ty ht).1,λt ty ht=>(k1 t ty ht).2.1,λt ty ht=>(k1 t ty ht).2.2,λf ptys rty hf=>?_,hc,h3,hlp,λt kt vt ht=>?_,hi,hcod,λt ht=>QX h1 ht⟩
 ·have:=zDa.1 h2 f (z0a.2 (C9 hf));rw[show rM f=some (ptys,rty) from hf] at this;simp only[KA,zaa,zmc] at this;obtain⟨⟨q1,q2⟩,q3⟩:=this;refine⟨q1,?_,?_⟩
  ·rcases q2 with q2|q2
   ·exact .inl q2
   ·right;split at q2
    ·rename_i ts;exact⟨_,rfl,q2⟩
    ·cases q2
  ·split at q3
   ·rename_i fn hfn;simp only[zaa,zWa] at q3;exact⟨fn,hfn,q3⟩
   ·cases q3
 ·have:=zDa.1 h4 t (z0a.2 (JL ht));rw[show JK t=some (kt,vt) from ht] at this;simp only[zaa,zfa] at this;obtain⟨⟨m1,m2⟩,m3⟩:=this;refine⟨m1,?_⟩;split at m3<;>first|(cases m3;done)|skip
  rename_i K V hu;simp only[zaa] at m3;exact⟨K,V,hu,m3.1,m3.2,m2⟩
def EC (P : Program) (f : Nat) (p : Func × Ty) : Prop := P.funcs[f]? = some p.1 /\ (!(p.1.name == "runtime.NumGoroutine") && p.1.body.isSome && Et p.1.results.size p.2) = true
theorem An{pv:Bool}{b:Nat->Option (Func×Ty)}(h1:wo P=true)(h2:Ey P=true)(c:DY P=true)(h3:P.follows .mixedOrders=true)(ht:∀ f p,b f=some p->EC P f p){lp:Lp}(a:au lp){call:Nat->List D->Option D}(hc:je P call) :
  ∀ n,EnvOk P (dG lp call (Jy pv b lp call n))
 | 0=>vT h1 h2 c h3 a hc (λ_ _ _ _ _ _ _ _ _ _ _ _ _ _ _ _ _ h=>by cases h) λf g h=>by cases h
 | n+1=>vT h1 h2 c h3 a hc (QH (An h1 h2 c h3 ht a hc n)) λf g h=>by
  simp only[Jy] at h;split at h<;>first|(cases h;done)|skip
  rename_i p hp;cases h;obtain⟨e,d⟩:=ht f p hp;simp only[zaa,zWa] at d;exact⟨⟨p.1,e,d.1.1,d.1.2⟩,Oa (An h1 h2 c h3 ht a hc n) e d.2⟩
end
end Sy
end
noncomputable section
namespace Sy
open Go Go.Proofs
def Ck:wo Tryz.prog=true:=u3
def C8:Ey Tryz.prog=true:=u3
def Cr:DY Tryz.prog=true:=u3
def DZ:Tryz.prog.follows .mixedOrders=true:=u3
def Jx(v:Nat)(lp:Lp)(call:Nat->List D->Option D):Inl:=Jy (Nat.beq v 1) (OV v) lp call 9
noncomputable abbrev kl(lp:Lp)(call:Nat->List D->Option D):Inl:=Jx 0 lp call
def OX(v:Nat):∀ f p,OV v f=some p->EC Tryz.prog f p:=by
 intro f p h;have key:∀ q∈OY,EC Tryz.prog q.1 q.2:=by
  intro q hq;simp only[OY,Rv,zFb,zlc,zEa,zxc,or_false] at hq;repeat' first
   | (rcases hq with hq|hq;· subst hq;exact⟨u3,u3⟩)
   | (subst hq;exact⟨u3,u3⟩)
 exact key (f,p) (KG h)
def Tu{v:Nat}{lp:Lp}(a:au lp){call:Nat->List D->Option D}(hc:je Tryz.prog call):EnvOk Tryz.prog (dG lp call (Jx v lp call)):=
 An Ck C8 Cr DZ (OX v) a hc 9
def Tv{lp:Lp}(a:au lp){call:Nat->List D->Option D}(hc:je Tryz.prog call):EnvOk Tryz.prog (dG lp call (kl lp call)):=Tu a hc
def TO(o:Oper):Option ByteArray:=match o.op with|.index _ (.const (.string s)) _=>some s|_=>none
def rP:Code->Option ByteArray
 | .region _ ops _=>ops.toList.findSome? TO
 | .seq a b=>(rP a).orElse λ_=>rP b
 | .cond _ a b=>(rP a).orElse λ_=>rP b
 | .block _ a=>rP a
 | .loop a=>rP a
 | .scope a=>rP a
 | _=>none
def IZ(f:Func):Code:=match f.body with|some c=>c|none=>.skip
inductive CT where
 | leaf (k:Nat) (g:(Nat->List D->Option D)->List D->Option D)
 | node (m:Nat) (a b:CT)
def CT.get:CT->Nat->(Nat->List D->Option D)->List D->Option D
 | .leaf k g,f,call,xs=>bif Nat.beq f k then g call xs else none
 | .node m a b,f,call,xs=>bif Nat.blt f m then a.get f call xs else b.get f call xs
def ag(f:Nat)(g:(Nat->List D->Option D)->List D->Option D):Prop:=
 ∀ call,je Tryz.prog call->∀ a b xs y,rM (cO f)=some (a,b)->g call xs=some y->fY a xs->Lj Tryz.prog (rE (cO f)) (kD (cO f)) a b (cO f) xs y
def CT.ok:CT->Prop
 | .leaf k g=>ag k g
 | .node _ a b=>a.ok/\b.ok
theorem afm:∀ {t:CT},t.ok->∀ {call},je Tryz.prog call->∀ f c d xs y,rM (cO f)=some (c,d)->t.get f call xs=some y->fY c xs->Lj Tryz.prog (rE (cO f)) (kD (cO f)) c d (cO f) xs y
 | .leaf k g,h,call,hc,f,c,d,xs,y,hs,hy,hw=>by
  simp only[CT.get] at hy;cases hb:Nat.beq f k with
  | false=>rw[hb] at hy;cases hy
  | true=> rw[hb] at hy;have:=zyc hb;subst this;exact h call hc c d xs y hs hy hw
 | .node m a b,h,call,hc,f,c,d,xs,y,hs,hy,hw=>by
  simp only[CT.get] at hy;cases hb:Nat.blt f m with
  | false=>rw[hb] at hy;exact afm h.2 hc f c d xs y hs hy hw
  | true=>rw[hb] at hy;exact afm h.1 hc f c d xs y hs hy hw
def P8:((List.range Hz).all λf=>match OO f with|some p=>Nat.beq (cO p.1) f|none=>true)=true:=u3
def Nv{f:Nat}{g:List Ty×Ty}(h:rM f=some g):cO (vA f)=f:=by
 have h2:=zDa.1 P8 f (z0a.2 (C9 h));unfold rM at h;unfold vA;split at h<;>first|(cases h;done)|skip
 rename_i p hp;rw[hp] at h2;exact zyc h2
def afl{t:CT}(h:t.ok){call}(hc:je Tryz.prog call):je Tryz.prog λf xs=>t.get f call xs:=λf a b xs y hs hy hw=>by
 have e:=Nv hs;have:=afm h hc (vA f) a b xs y (by rw[e];exact hs) hy hw
 rwa [e] at this
def GS(v:Nat)(lp:Lp)(f:Nat)(fn:Func)(ann:Ann)(call:Nat->List D->Option D)(xs:List D):Option D:=
 (rM (cO f)).bind λs=>bif rE (cO f) then(match s.2 with|.sl t=>(QO (dG lp call (Jx v lp call)) fn ann s.1 t xs).bind λl=>some (.sl l)|_=>none) else bif Nat.beq (kD (cO f)) 0 then Z9 (dG lp call (Jx v lp call)) fn ann s.1 s.2 xs else QP (dG lp call (Jx v lp call)) fn ann s.1 (kD (cO f)) s.2 xs
def Oh(f:Nat)(fn:Func):Bool:=match rM (cO f) with
 | some (p,r)=>decide (p.length<=fn.ntmps)&&j4 fn.results.size r&&bG p&&(decide (kD (cO f)<=p.length)&&(bif rE (cO f) then Nat.beq (kD (cO f)) 0 else decide (kD (cO f)<=4095)))
 | none=>false
def rp{v:Nat}{lp:Lp}(c:au lp){f:Nat}{fn:Func}{ann:Ann}(hf:Tryz.prog.funcs[cO f]?=some fn)(hk:Oh f fn=true):ag f (GS v lp f fn ann):=by
 intro call hc i m xs y hs hy hw;unfold GS at hy;unfold Oh at hk;rw[hs] at hy hk;simp only[zba] at hy;simp only[zaa,zfa] at hk;obtain⟨⟨⟨d,g⟩,e⟩,j,a⟩:=hk;have b:=Tu (v:=v) c hc;cases how:rE (cO f) with
 | true=>
  rw[how] at hy;simp only[cond_true] at hy;split at hy<;>first|(cases hy;done)|skip
  rename_i t;obtain⟨l,h1,h2⟩:=ab hy;cases h2;have hO:=BM b hf d e h1;have h0:kD (cO f)=0:=by rw[how] at a;simpa using a
  rw[h0];exact⟨hO.ctr,λ_=>⟨t,l,rfl,rfl,hO⟩⟩
 | false=>
 rw[how] at hy;simp only[cond_false] at hy;refine⟨?_,λh=>by cases h⟩
 cases hz:kD (cO f) with
 | zero=> rw[hz] at hy;exact GP b hf d e g hy
 | succ k=> rw[hz] at hy;exact DH b hf d e (by rw[<-hz];exact j) (by rw[<-hz];rw[how] at a;simpa using a) g hy
abbrev Ann.tl(a:Ann):Ann:=.two .leaf a
section
variable{α:Type}
noncomputable abbrev qT(x:D)(f:Bool->Option α):Option α:=(D.truth x).bind f
noncomputable abbrev qG(x:D)(p:List Nat)(f:D->Option α):Option α:=(D.get x p).bind f
noncomputable abbrev qS(x:D)(f:List D->Option α):Option α:=(D.asSl x).bind f
noncomputable abbrev qI(x:D)(l:List D)(f:D->Option α):Option α:=(D.idx x l.length).bind λk=>(l[k]?).bind f
noncomputable abbrev qB(o:BinOp)(x y:D)(f:D->Option α):Option α:=(afn o x y).bind f
noncomputable abbrev qC(o:BinOp)(x y:D)(f:Bool->Option α):Option α:=(afn o x y).bind λz=>(D.truth z).bind f
noncomputable abbrev qN(x:D)(f:Bool->Option α):Option α:=(afB .not x).bind λz=>(D.truth z).bind f
noncomputable abbrev qX(x i:D)(f:D->Option α):Option α:=(D.asSl x).bind λl=>(D.idx i l.length).bind λk=>(l[k]?).bind f
noncomputable abbrev qL(x i:D)(f:Bool->Option α):Option α:=(D.asSl x).bind λl=>(afn .lss i (.int .i64 l.length)).bind λz=>(D.truth z).bind f
noncomputable abbrev qY(x:D)(p:List Nat)(i:D)(f:D->Option α):Option α:=(D.get x p).bind λx=>(D.asSl x).bind λl=>(D.idx i l.length).bind λk=>(l[k]?).bind f
noncomputable abbrev qM(x:D)(p:List Nat)(i:D)(f:Bool->Option α):Option α:=(D.get x p).bind λx=>(D.asSl x).bind λl=>(afn .lss i (.int .i64 l.length)).bind λz=>(D.truth z).bind f
noncomputable abbrev qP(x:D)(p:List Nat)(f:List D->Option α):Option α:=(D.get x p).bind λx=>(D.asSl x).bind f
noncomputable abbrev qJ(i:D)(n:Nat)(x:D)(f:D->Option α):Option α:=(D.idx i n).bind λk=>(D.get x [k]).bind f
end
abbrev qV(l:List D)(i:Nat):List D:=(l.getD i (.bool false)).els
abbrev qW(l:List D)(i:Nat):D:=D.sl ((l.getD i (.bool false)).els)
abbrev qZ(lp:Lp)(f:List D->Option (Sum (List D) (Nat×List D))):List D->Option (Nat×List D):=lp f
abbrev iL(l:List D):Option (Sum (List D) (Nat×List D)):=some (Sum.inl l)
abbrev iR(l:Nat×List D):Option (Sum (List D) (Nat×List D)):=some (Sum.inr l)
abbrev LO:Type:=List (Nat×ShO)
abbrev LS:Type:=List (Nat×Sh)
abbrev Jn(n:Int):D:=.int .i64 n
abbrev Ca:Type:=Nat->List D->Option D
abbrev Sh.di:Sh:=.dv (.int .i64)
abbrev Sh.sp(t:Ty)(i:Nat):Sh:=.same (.ptr t i [])
def m0(F:(Nat->List D->Option D)->Option D)(call:Nat->List D->Option D)(xs:List D):Option D:=match xs with|[]=>F call|_=>none
def yH(v:Nat)(fn:Func)(ann:Ann){lp:Lp}(b:au lp){f:Nat}{F:(Nat->List D->Option D)->Option D}(hf:Tryz.prog.funcs[cO f]?=some fn:=by kernel_rfl)(hk:Oh f fn=true:=by kernel_rfl)
  (d:∀ call,GS v lp f fn ann call []=F call:=by intros;kernel_rfl):ag f (m0 F):=by
 intro call hc a c xs y hs hy hw;unfold m0 at hy;split at hy<;>first|(cases hy;done)|skip
 exact rp (v:=v) b hf hk call hc a c _ y hs ((d call).trans hy) hw
def m1(F:(Nat->List D->Option D)->D->Option D)(call:Nat->List D->Option D)(xs:List D):Option D:=match xs with|[a0]=>F call a0|_=>none
def bA(v:Nat)(fn:Func)(ann:Ann){lp:Lp}(b:au lp){f:Nat}{F:(Nat->List D->Option D)->D->Option D}(hf:Tryz.prog.funcs[cO f]?=some fn:=by kernel_rfl)(hk:Oh f fn=true:=by kernel_rfl)
  (d:∀ call a0,GS v lp f fn ann call [a0]=F call a0:=by intros;kernel_rfl):ag f (m1 F):=by
 intro call hc a c xs y hs hy hw;unfold m1 at hy;split at hy<;>first|(cases hy;done)|skip
 exact rp (v:=v) b hf hk call hc a c _ y hs ((d call _).trans hy) hw
def m2(F:(Nat->List D->Option D)->D->D->Option D)(call:Nat->List D->Option D)(xs:List D):Option D:=match xs with|[a0,a1]=>F call a0 a1|_=>none
def aN(v:Nat)(fn:Func)(ann:Ann){lp:Lp}(b:au lp){f:Nat}{F:(Nat->List D->Option D)->D->D->Option D}(hf:Tryz.prog.funcs[cO f]?=some fn:=by kernel_rfl)(hk:Oh f fn=true:=by kernel_rfl)
  (d:∀ call a0 a1,GS v lp f fn ann call [a0,a1]=F call a0 a1:=by intros;kernel_rfl):ag f (m2 F):=by
 intro call hc a c xs y hs hy hw;unfold m2 at hy;split at hy<;>first|(cases hy;done)|skip
 exact rp (v:=v) b hf hk call hc a c _ y hs ((d call _ _).trans hy) hw
def m3(F:(Nat->List D->Option D)->D->D->D->Option D)(call:Nat->List D->Option D)(xs:List D):Option D:=match xs with|[a0,a1,a2]=>F call a0 a1 a2|_=>none
def nS(v:Nat)(fn:Func)(ann:Ann){lp:Lp}(b:au lp){f:Nat}{F:(Nat->List D->Option D)->D->D->D->Option D}(hf:Tryz.prog.funcs[cO f]?=some fn:=by kernel_rfl)(hk:Oh f fn=true:=by kernel_rfl)
  (d:∀ call a0 a1 a2,GS v lp f fn ann call [a0,a1,a2]=F call a0 a1 a2:=by intros;kernel_rfl):ag f (m3 F):=by
 intro call hc a c xs y hs hy hw;unfold m3 at hy;split at hy<;>first|(cases hy;done)|skip
 exact rp (v:=v) b hf hk call hc a c _ y hs ((d call _ _ _).trans hy) hw
def m4(F:(Nat->List D->Option D)->D->D->D->D->Option D)(call:Nat->List D->Option D)(xs:List D):Option D:=match xs with|[a0,a1,a2,a3]=>F call a0 a1 a2 a3|_=>none
def FB(v:Nat)(fn:Func)(ann:Ann){lp:Lp}(b:au lp){f:Nat}{F:(Nat->List D->Option D)->D->D->D->D->Option D}(hf:Tryz.prog.funcs[cO f]?=some fn:=by kernel_rfl)(hk:Oh f fn=true:=by kernel_rfl)
  (d:∀ call a0 a1 a2 a3,GS v lp f fn ann call [a0,a1,a2,a3]=F call a0 a1 a2 a3:=by intros;kernel_rfl):ag f (m4 F):=by
 intro call hc a c xs y hs hy hw;unfold m4 at hy;split at hy<;>first|(cases hy;done)|skip
 exact rp (v:=v) b hf hk call hc a c _ y hs ((d call _ _ _ _).trans hy) hw
def m5(F:(Nat->List D->Option D)->D->D->D->D->D->Option D)(call:Nat->List D->Option D)(xs:List D):Option D:=match xs with|[a0,a1,a2,a3,a4]=>F call a0 a1 a2 a3 a4|_=>none
def FC(v:Nat)(fn:Func)(ann:Ann){lp:Lp}(b:au lp){f:Nat}{F:(Nat->List D->Option D)->D->D->D->D->D->Option D}(hf:Tryz.prog.funcs[cO f]?=some fn:=by kernel_rfl)(hk:Oh f fn=true:=by kernel_rfl)
  (d:∀ call a0 a1 a2 a3 a4,GS v lp f fn ann call [a0,a1,a2,a3,a4]=F call a0 a1 a2 a3 a4:=by intros;kernel_rfl):ag f (m5 F):=by
 intro call hc a c xs y hs hy hw;unfold m5 at hy;split at hy<;>first|(cases hy;done)|skip
 exact rp (v:=v) b hf hk call hc a c _ y hs ((d call _ _ _ _ _).trans hy) hw
def m6(F:(Nat->List D->Option D)->D->D->D->D->D->D->Option D)(call:Nat->List D->Option D)(xs:List D):Option D:=match xs with|[a0,a1,a2,a3,a4,a5]=>F call a0 a1 a2 a3 a4 a5|_=>none
def leaf6(v:Nat)(fn:Func)(ann:Ann){lp:Lp}(b:au lp){f:Nat}{F:(Nat->List D->Option D)->D->D->D->D->D->D->Option D}(hf:Tryz.prog.funcs[cO f]?=some fn:=by kernel_rfl)(hk:Oh f fn=true:=by kernel_rfl)
  (d:∀ call a0 a1 a2 a3 a4 a5,GS v lp f fn ann call [a0,a1,a2,a3,a4,a5]=F call a0 a1 a2 a3 a4 a5:=by intros;kernel_rfl):ag f (m6 F):=by
 intro call hc a c xs y hs hy hw;unfold m6 at hy;split at hy<;>first|(cases hy;done)|skip
 exact rp (v:=v) b hf hk call hc a c _ y hs ((d call _ _ _ _ _ _).trans hy) hw
abbrev gx(l:List D)(i:Nat):D:=l.getD i (.bool false)
end Sy
end
noncomputable section
set_option maxHeartbeats 0
noncomputable section
namespace Sy
open Go Go.Proofs
section
variable{lp}(a:au lp)
def A12:Ann:=let a:LO:=[(4098,.one K4 (.st [K3,Ti] [.st [K2] [.ow K1],.di])),(36871,.one K4 (.st [K3,Ti] [.st [K2] [.ow K1],.di]))];let b:LO:=[(4098,.one K4 (.st [K3,Ti] [.st [K2] [.ow K1],.di]))];let c:LS:=[(2,.sp K4 4098),(7,.sp K4 36871),(9,.dv Ty.bool)];let d:LS:=[(2,.sp K4 4098),(7,.sp K4 36871)];(.tl (.tl (.two (.tl (.two (.loop ⟨[(2,.sp K4 4098),(3,.di)],b,[0]⟩ [(.ret,⟨[(2,.sp K4 4098)],b,[]⟩),(.exit 0,⟨[(2,.sp K4 4098)],b,[0]⟩)] (.tl (.two (.two (.tl (.two (.loop ⟨[(2,.sp K4 4098),(4,.di)],b,[0,3]⟩ [(.ret,⟨[(2,.sp K4 4098)],b,[]⟩),(.exit 2,⟨[(2,.sp K4 4098)],b,[0,3]⟩)] .leaf) .leaf)) .leaf) .leaf))) .leaf)) (.tl (.tl (.tl (.tl (.tl (.two (.tl (.two (.loop ⟨[(2,.sp K4 4098),(7,.sp K4 36871),(8,.di)],a,[5,6]⟩ [(.exit 4,⟨d,a,[]⟩)] (.tl (.cut [(.normal,⟨d,a,[5,6,8]⟩)] [5,6,8] [] (.two (.tl (.two (.tl (.two (.loop ⟨[(2,.sp K4 4098),(7,.sp K4 36871),(9,.dv Ty.bool),(10,.di)],a,[5,6,8]⟩ [(.exit 6,⟨c,a,[5,6,8]⟩)] (.tl (.two (.two (.tl (.two (.loop ⟨[(2,.sp K4 4098),(7,.sp K4 36871),(9,.dv Ty.bool),(11,.di)],a,[5,6,8,10]⟩ [(.exit 8,⟨c,a,[5,6,8,10]⟩)] .leaf) .leaf)) .leaf) .leaf))) .leaf)) (.tl (.two (.reg [] 8) .leaf)))) .leaf) .leaf))) .leaf)) .leaf)))))))))
def RL(lp:Lp)(c:Ca)(a0:D):Option D:=qS a0 λR=>qC .gtr (Jn (R.length)) (Jn 64) λP=>if P then(some (D.st [(D.st [(D.sl [])]),(Jn 2)])) else((qZ lp (λv4=>qL a0 (gx v4 0) λQ=>if Q then((qZ lp (λh=>qC .lss (gx h 0) (Jn 3) λl=>if l then(qX a0 (gx v4 0) λz=>(D.idx (gx h 0) 3).bind λi14=>(D.fld z i14).bind λA=>qC .gtr A (Jn 262144) λm=>(if m then(some true) else(qX a0 (gx v4 0) λB=>(D.idx (gx h 0) 3).bind λi21=>(D.fld B i21).bind λC=>qB .lss C (Jn (-262144)) λE=>D.truth E)).bind λn=>qT (D.bool n) λo=>if o then(iR (0,[(D.sl []),(Jn 1)])) else(qB .add (gx h 0) (Jn 1) λF=>iL [F,(qW h 1),(gx h 2)])) else(iR (1,[(qW h 1),(gx h 2)]))) [(Jn 0),(qW v4 1),(gx v4 2)]).bind λb=>if b.1=0 then(iR (0,[(qW b.2 0),(gx b.2 1)])) else(qB .add (gx v4 0) (Jn 1) λG=>iL [G,(qW b.2 0),(gx b.2 1)])) else(iR (1,[(qW v4 1),(gx v4 2)]))) [(Jn 0),(D.sl []),(Jn 0)]).bind λd=>if d.1=0 then(some (D.st [(D.st [(qW d.2 0)]),(gx d.2 1)])) else((c 47 [a0]).bind λi=>(c 48 [i]).bind λe=>qS e λx=>qT (D.bool (D.beq (Jn (x.length)) (Jn 0))) λp=>if p then(some (D.st [(D.st [(D.sl [])]),(Jn 120)])) else(qS e λy=>qC .gtr (Jn (y.length)) (Jn 64) λq=>if q then(some (D.st [(D.st [(D.sl [])]),(Jn 2)])) else((qZ lp (λv37=>qL i (gx v37 0) λr=>if r then(((qZ lp (λv41=>qL e (gx v41 1) λs=>if s then((qZ lp (λv45=>qX e (gx v41 1) λH=>(D.fld H 2).bind λI=>qL I (gx v45 1) λt=>if t then(qT (gx v45 0) λu=>(if u then(some true) else(qX e (gx v41 1) λJ=>(D.fld J 2).bind λK=>qX K (gx v45 1) λL=>D.truth (D.bool (D.beq L (gx v37 0))))).bind λv=>qB .add (gx v45 1) (Jn 1) λM=>iL [(D.bool v),M,(qW v45 2),(gx v45 3),(qW v45 4),(gx v45 5)]) else(iR (0,[(gx v45 0),(qW v45 2),(gx v45 3),(qW v45 4),(gx v45 5)]))) [(gx v41 0),(Jn 0),(qW v41 2),(gx v41 3),(qW v41 4),(gx v41 5)]).bind λf=>qB .add (gx v41 1) (Jn 1) λN=>iL [(gx f.2 0),N,(qW f.2 1),(gx f.2 2),(qW f.2 3),(gx f.2 4)]) else(iR (0,[(gx v41 0),(qW v41 2),(gx v41 3),(qW v41 4),(gx v41 5)]))) [(D.bool false),(Jn 0),(qW v37 1),(gx v37 2),(qW v37 3),(gx v37 4)]).bind λa=>qT (gx a.2 0) λw=>if w then(qX i (gx v37 0) λk=>if List.length (qV a.2 3)+List.length [k]<=1073741824 then(some (0,[(qW a.2 1),(gx a.2 2),(D.sl ((qV a.2 3)++[k])),(gx a.2 4)])) else none) else(some (0,[(qW a.2 1),(gx a.2 2),(qW a.2 3),(gx a.2 4)]))).bind λ(g:Nat×List D)=>qB .add (gx v37 0) (Jn 1) λO=>iL [O,(qW g.2 0),(gx g.2 1),(qW g.2 2),(gx g.2 3)]) else(iR (0,[(qW v37 1),(gx v37 2),(qW v37 3),(gx v37 4)]))) [(Jn 0),(qW d.2 0),(gx d.2 1),(D.sl []),(Jn 0)]).bind λj=>some (D.st [(D.st [(qW j.2 2)]),(gx j.2 3)])))))
def L12:ag 12 (m1 (RL lp)):=bA 0 Tryz.f158 A12 a
def A13:Ann:=(.tl (.tl (.two (.tl (.two (.loop ⟨[(5,.di)],[],[0,1]⟩ [(.ret,⟨[(4,.dv Ty.bool)],[],[]⟩),(.exit 0,⟨[],[],[]⟩)] (.tl (.two (.two (.two (.reg [] 8) .leaf) .leaf) .leaf))) .leaf)) .leaf)))
def Uu(lp:Lp)(c:Ca)(a0 a1:D):Option D:=qS a0 λi=>qS a1 λj=>qT (D.bool (!(D.beq (Jn (i.length)) (Jn (j.length))))) λg=>if g then(some (D.bool false)) else((qZ lp (λv4=>qL a0 (gx v4 0) λh=>if h then(qX a0 (gx v4 0) λd=>qX a1 (gx v4 0) λe=>qT (D.bool (!(D.beq d e))) λb=>if b then(iR (0,[(D.bool false)])) else(qB .add (gx v4 0) (Jn 1) λf=>iL [f])) else(iR (1,[]))) [(Jn 0)]).bind λa=>if a.1=0 then(some (gx a.2 0)) else(some (D.bool true)))
def L13:ag 13 (m2 (Uu lp)):=aN 0 Tryz.f159 A13 a
def Uv(lp:Lp)(c:Ca)(a0:D):Option D:=qG a0 [0] λh=>(c 12 [h]).bind λb=>qG b [1] λi=>qT (D.bool (D.beq i (Jn 0))) λe=>(if e then(qG b [0,0] λj=>qG a0 [0] λk=>(c 13 [j,k]).bind λg=>(afB .not g).bind λl=>D.truth l) else(some false)).bind λf=>qT (D.bool f) λa=>if a then(some (Jn 3)) else(qG b [1] λd=>some d)
def L15:ag 15 (m1 (Uv lp)):=bA 0 Tryz.f94 .leaf a
def A18:Ann:=(.tl (.tl (.two (.tl (.two (.loop ⟨[(1,.sp K3 4097),(3,.ow K6),(10,.di)],[(4097,.keep K3 1)],[8,9]⟩ [(.exit 0,⟨[(3,.ow K6)],[],[]⟩)] (.tl (.tl (.two (.two (.tl (.reg [] 11)) .leaf) .leaf)))) .leaf)) .leaf)))
def Uw(lp:Lp)(c:Ca)(a0:D):Option D:=qG a0 [0] λl=>(c 45 [l]).bind λi=>qS i λk=>(qZ lp (λv4=>qC .lss (gx v4 1) (Jn (k.length)) λj=>if j then(qX i (gx v4 1) λh=>qG h [0] λb=>qG h [1] λd=>qG a0 [0] λf=>(c 46 [f,h]).bind λa=>if List.length (qV v4 0)+List.length [(D.st [b,d,a])]<=1073741824 then(qB .add (gx v4 1) (Jn 1) λg=>iL [(D.sl ((qV v4 0)++[(D.st [b,d,a])])),g]) else none) else(iR (0,[(qW v4 0)]))) [(D.sl []),(Jn 0)]).bind λe=>some (qW e.2 0)
def L18:ag 18 (m1 (Uw lp)):=bA 0 Tryz.f64 A18 a
def Ux(lp:Lp)(c:Ca)(a0:D):Option D:=qG a0 [0] λb=>(c 48 [b]).bind λa=>some a
def L19:ag 19 (m1 (Ux lp)):=bA 0 Tryz.f69 .leaf a
def A31:Ann:=(.tl (.two (.reg [] 10) .leaf))
def Uy(lp:Lp)(c:Ca)(a0:D):Option D:=qG a0 [0] λe=>(c 75 [e]).bind λa=>qG a0 [1] λf=>(c 75 [f]).bind λb=>qG a0 [2] λg=>(c 75 [g]).bind λd=>some (D.st [a,b,d])
def L31:ag 31 (m1 (Uy lp)):=bA 0 Tryz.f34 A31 a
def A32:Ann:=(.tl (.tl (.tl (.tl (.tl (.tl (.tl (.cut [(.normal,⟨[(5,.dv K5),(6,.dv K5)],[],[]⟩)] [] [] .leaf .leaf))))))))
def RN(lp:Lp)(c:Ca)(a0 a1:D):Option D:=(c 76 [a0]).bind λr1=>qN r1 λu=>(if u then((c 76 [a1]).bind λx=>(afB .not x).bind λz=>D.truth z) else(some false)).bind λv=>qT (D.bool v) λw=>if w then(some (Jn 0)) else((c 76 [a0]).bind λy=>qN y λb=>if b then(some (Jn (-1))) else((c 76 [a1]).bind λj=>qN j λd=>if d then(some (Jn 1)) else(qG a0 [1] λq=>qG a1 [1] λr=>qT (D.bool (!(D.beq q r))) λe=>if e then(qG a0 [1] λs=>qT s λf=>if f then(some (Jn (-1))) else(some (Jn 1))) else((c 77 [a0]).bind λk=>(c 77 [a1]).bind λl=>(qG a0 [1] λt=>qT t λg=>if g then((c 77 [a1]).bind λm=>(c 77 [a0]).bind λn=>some (0,[m,n])) else(some (0,[k,l]))).bind λ(a:Nat×List D)=>(c 78 [(gx a.2 0),(gx a.2 1)]).bind λo=>(c 78 [(gx a.2 1),(gx a.2 0)]).bind λp=>qT o λh=>if h then(some (Jn (-1))) else(qT p λi=>if i then(some (Jn 1)) else(some (Jn 0)))))))
def L32:ag 32 (m2 (RN lp)):=aN 0 Tryz.f95 A32 a
def A33:Ann:=(.tl (.two (.reg [] 5) .leaf))
def Uz(lp:Lp)(c:Ca)(a0 a1:D):Option D:=(c 80 [a0]).bind λr1=>(c 80 [a1]).bind λa=>(c 79 [r1,a]).bind λb=>some b
def L33:ag 33 (m2 (Uz lp)):=aN 0 Tryz.f29 A33 a
def UA(lp:Lp)(c:Ca)(a0:D):Option D:=qC .geq a0 (Jn 0) λl=>if l then(qB .rem a0 (Jn 65536) λn=>qB .quo a0 (Jn 65536) λo=>qB .rem o (Jn 65536) λp=>qB .quo a0 (Jn 4294967296) λq=>qB .rem q (Jn 65536) λr=>qB .quo a0 (Jn 281474976710656) λs=>(c 81 [(D.bool false),(D.sl [n,p,r,s])]).bind λm=>some m) else(qB .add a0 (Jn 1) λe=>(afB .neg e).bind λa=>qB .rem a (Jn 65536) λf=>qB .quo a (Jn 65536) λg=>qB .rem g (Jn 65536) λh=>qB .quo a (Jn 4294967296) λi=>qB .rem i (Jn 65536) λj=>qB .quo a (Jn 281474976710656) λk=>(c 82 [(D.sl [f,h,j,k]),(D.sl [(Jn 1)])]).bind λb=>(c 81 [(D.bool true),b]).bind λd=>some d)
def L34:ag 34 (m1 (UA lp)):=bA 0 Tryz.f98 .leaf a
def A37:Ann:=(.tl (.tl (.tl (.cut [(.normal,⟨[(2,.sp be 4098),(3,.sp be 4099),(4,.sp cq 4100),(5,.sp be 12293)],[(4098,.keep be 2),(4099,.keep be 3),(4100,.keep cq 4),(12293,.one be (.dv be))],[]⟩)] [] [4098,4099,4100] .leaf (.two (.reg [] 7) .leaf)))))
def RO(lp:Lp)(c:Ca)(a0 a1:D):Option D:=(c 76 [a0]).bind λr1=>qN r1 λk=>(if k then(some true) else((c 76 [a1]).bind λo=>(afB .not o).bind λq=>D.truth q)).bind λl=>qT (D.bool l) λm=>(if m then(some true) else((c 83 [a1]).bind λp=>D.truth (D.bool (D.beq p (Jn 0))))).bind λn=>qT (D.bool n) λd=>if d then((c 84 []).bind λf=>some f) else((c 85 [a0,a1]).bind λa=>((c 83 [a1]).bind λg=>qC .lss g (Jn 0) λe=>if e then((c 86 [a]).bind λh=>some (0,[h])) else(some (0,[a]))).bind λ(b:Nat×List D)=>(c 87 [a0,(gx b.2 0)]).bind λi=>(c 87 [a1,(gx b.2 0)]).bind λj=>some (D.st [i,j]))
def L37:ag 37 (m2 (RO lp)):=aN 0 Tryz.f88 A37 a
def Sd(lp:Lp)(c:Ca)(a0 a1:D):Option D:=(c 88 [a0]).bind λr1=>qN r1 λn=>(if n then(some true) else((c 88 [a1]).bind λq=>(afB .not q).bind λs=>D.truth s)).bind λo=>qT (D.bool o) λp=>if p then((c 84 []).bind λr=>some r) else(qG a0 [0] λt=>qG a1 [1] λg=>(c 37 [t,g]).bind λa=>qG a1 [0] λh=>qG a0 [1] λi=>(c 37 [h,i]).bind λb=>qG a [0] λj=>qG b [0] λk=>(c 89 [j,k]).bind λd=>qG a [1] λl=>qG b [1] λm=>(c 89 [l,m]).bind λe=>(c 37 [d,e]).bind λf=>some f)
def L38:ag 38 (m2 (Sd lp)):=aN 0 Tryz.f54 .leaf a
def A39:Ann:=(.tl (.two (.reg [] 4) .leaf))
def UB(lp:Lp)(c:Ca)(a0 a1:D):Option D:=(c 70 [a1]).bind λr1=>(c 40 [a0,r1]).bind λa=>some a
def L39:ag 39 (m2 (UB lp)):=aN 0 Tryz.f57 A39 a
def A40:Ann:=(.tl (.tl (.tl (.tl (.tl (.two (.reg [] 14) .leaf))))))
def Se(lp:Lp)(c:Ca)(a0 a1:D):Option D:=(c 88 [a0]).bind λr1=>qN r1 λp=>(if p then(some true) else((c 88 [a1]).bind λs=>(afB .not s).bind λu=>D.truth u)).bind λq=>qT (D.bool q) λr=>if r then((c 84 []).bind λt=>some t) else(qG a0 [1] λv=>qG a1 [1] λj=>(c 85 [v,j]).bind λa=>qG a0 [1] λk=>(c 87 [k,a]).bind λb=>qG a1 [1] λl=>(c 87 [l,a]).bind λd=>qG a0 [0] λm=>(c 89 [m,d]).bind λe=>qG a1 [0] λn=>(c 89 [n,b]).bind λf=>(c 59 [e,f]).bind λg=>qG a1 [1] λo=>(c 89 [b,o]).bind λh=>(c 37 [g,h]).bind λi=>some i)
def L40:ag 40 (m2 (Se lp)):=aN 0 Tryz.f27 A40 a
def A41:Ann:=(.tl (.tl (.two (.reg [] 7) (.two (.reg [] 7) .leaf))))
def UC(lp:Lp)(c:Ca)(a0 a1:D):Option D:=qG a0 [0] λg=>qG a1 [0] λh=>(c 38 [g,h]).bind λd=>qG a0 [1] λi=>qG a1 [1] λj=>(c 38 [i,j]).bind λe=>(c 40 [d,e]).bind λf=>qG a0 [2] λk=>qG a1 [2] λl=>(c 38 [k,l]).bind λa=>(c 40 [f,a]).bind λb=>some b
def L41:ag 41 (m2 (UC lp)):=aN 0 Tryz.f134 A41 a
def A46:Ann:=let a:LO:=[(4098,.keep K2 2),(4099,.keep eZ 3),(8197,.one K5 (.dv K5))];let b:LO:=[(4098,.keep K2 2),(4099,.keep eZ 3),(8197,.one K5 (.ow Ti))];let c:LO:=[(4098,.keep K2 2),(4099,.keep eZ 3),(8197,.keep K5 1)];let d:LS:=[(2,.sp K2 4098),(3,.sp eZ 4099),(5,.sp K5 8197)];let e:LS:=[(2,.sp K2 4098),(3,.sp eZ 4099),(6,.di)];(.tl (.tl (.two (.tl (.two (.loop ⟨[(2,.sp K2 4098),(3,.sp eZ 4099),(5,.sp K5 8197),(13,.di)],b,[11,12]⟩ [(.exit 0,⟨d,b,[]⟩)] (.tl (.tl (.cut [(.normal,⟨d,b,[11,12,13]⟩)] [11,12,13] [4098,4099] (.two (.tl (.two (.reg [] 6) .leaf)) .leaf) .leaf)))) .leaf)) (.tl (.tl (.two (.two (.regI [] 6 (.two (.tl (.tl (.two (.tl (.two (.loop ⟨[(2,.sp K2 4098),(3,.sp eZ 4099),(6,.di),(12,.dv K5),(14,.di)],a,[0,13]⟩ [(.exit 0,⟨[(6,.di)],a,[]⟩)] (.tl (.tl (.cut [(.normal,⟨e,a,[0,12,13,14]⟩)] [0,12,13,14] [4098,4099] (.two (.tl (.tl (.tl (.two (.reg [] 20) .leaf)))) .leaf) .leaf)))) .leaf)) .leaf))) .leaf)) (.two (.loop ⟨[(5,.sp K5 8197),(8,.same (.clo 182 [(.ptr K5 8197 []),(.ptr K2 4098 []),(.ptr eZ 4099 [])])),(9,.ow Ti),(10,.di)],[(4098,.keep K2 2),(4099,.keep eZ 3),(8197,.keep K5 5)],[]⟩ [(.exit 2,⟨[(9,.ow Ti)],[],[]⟩)] (.tl (.tl (.regI [] 4 (.two (.tl (.tl (.two (.tl (.two (.loop ⟨[(2,.sp K2 4098),(3,.sp eZ 4099),(6,.di),(14,.di)],c,[0,12,13]⟩ [(.exit 0,⟨[(6,.di)],c,[]⟩)] (.tl (.tl (.cut [(.normal,⟨e,a,[0,12,13,14]⟩)] [0,12,13,14] [4098,4099] (.two (.tl (.tl (.tl (.two (.reg [] 20) .leaf)))) .leaf) .leaf)))) .leaf)) .leaf))) .leaf))))) .leaf)) .leaf))))))
def UD(lp:Lp)(c:Ca)(a0 a1:D):Option D:=qS a0 λl1=>(qZ lp (λv2=>qC .lss (gx v2 0) (Jn (l1.length)) λb4=>if b4 then((qX a0 (gx v2 0) λx7=>qG a1 [0] λx8=>(c 101 [x8,x7]).bind λr9=>qG a1 [1] λP=>qT (D.bool (D.beq r9 P)) λp=>if p then(if List.length (qV v2 1)+List.length [(gx v2 0)]<=1073741824 then(some (0,[(D.sl ((qV v2 1)++[(gx v2 0)]))])) else none) else(some (0,[(qW v2 1)]))).bind λ(H:Nat×List D)=>qB .add (gx v2 0) (Jn 1) λQ=>iL [Q,(qW H.2 0)]) else(iR (0,[(qW v2 1)]))) [(Jn 0),(D.sl [])]).bind λe=>(D.idx (Jn 0) (List.length (qV e.2 0))).bind λi15=>((qV e.2 0)[i15]?).bind λR=>(D.idx (Jn 0) (List.length (qV e.2 0))).bind λi17=>((qV e.2 0)[i17]?).bind λl=>(qZ lp (λa=>qC .lss (gx a 2) (Jn (List.length (qV e.2 0))) λq=>if q then((qX (gx a 1) (gx a 2) λf=>qT (D.bool (D.beq f l)) λr=>if r then(some (0,[(gx a 0),(gx a 3)])) else(qC .lss (gx a 0) (Jn 0) λs=>if s then(some (0,[f,(gx a 3)])) else(qX a0 f λS=>qX a0 l λT=>(c 103 [S,T]).bind λh=>qX a0 (gx a 0) λU=>qX a0 l λV=>(c 103 [U,V]).bind λi=>qG a1 [0] λW=>(c 104 [W,i,h]).bind λm=>qC .lss m (Jn 0) λt=>(if t then(some true) else(qT (D.bool (D.beq m (Jn 0))) λu=>if u then((c 101 [h,h]).bind λI=>(c 101 [i,i]).bind λJ=>qB .gtr I J λX=>D.truth X) else(some false))).bind λv=>qT (D.bool v) λw=>if w then(some (0,[f,(gx a 3)])) else(some (0,[(gx a 0),(gx a 3)]))))).bind λ(n:Nat×List D)=>qB .add (gx a 2) (Jn 1) λY=>iL [(gx n.2 0),(gx a 1),Y,(gx n.2 1)]) else(iR (0,[(gx a 0),(gx a 3)]))) [(Jn (-1)),(qW e.2 0),(Jn 0),(qW e.2 0)]).bind λb=>(qZ lp (λv55=>qX (gx b.2 1) (Jn 0) λZ=>qT (D.bool (!(D.beq (gx v55 1) Z))) λx=>if x then(if List.length (qV v55 0)+List.length [(gx v55 1)]<=1073741824 then(qS (gx b.2 1) λG=>(qZ lp (λd=>qC .lss (gx d 1) (Jn (G.length)) λy=>if y then((qX (gx b.2 1) (gx d 1) λg=>qT (D.bool (D.beq g (gx v55 1))) λz=>if z then(some (0,[(gx d 0),(gx b.2 1)])) else(qC .lss (gx d 0) (Jn 0) λA=>if A then(some (0,[g,(gx b.2 1)])) else(qX a0 g λad=>qX a0 (gx v55 1) λai=>(c 103 [ad,ai]).bind λj=>qX a0 (gx d 0) λaj=>qX a0 (gx v55 1) λak=>(c 103 [aj,ak]).bind λk=>qG a1 [0] λal=>(c 104 [al,k,j]).bind λo=>qC .lss o (Jn 0) λB=>(if B then(some true) else(qT (D.bool (D.beq o (Jn 0))) λC=>if C then((c 101 [j,j]).bind λK=>(c 101 [k,k]).bind λL=>qB .gtr K L λan=>D.truth an) else(some false))).bind λE=>qT (D.bool E) λF=>if F then(some (0,[g,(gx b.2 1)])) else(some (0,[(gx d 0),(gx b.2 1)]))))).bind λ(M:Nat×List D)=>qB .add (gx d 1) (Jn 1) λax=>iL [(gx M.2 0),ax]) else(iR (0,[(gx d 0)]))) [(Jn (-1)),(Jn 0)]).bind λN=>iL [(D.sl ((qV v55 0)++[(gx v55 1)])),(gx N.2 0)]) else none) else(iR (0,[(qW v55 0)]))) [(D.sl [R]),(gx b.2 0)]).bind λO=>some (qW O.2 0)
def L46:ag 46 (m2 (UD lp)):=aN 0 Tryz.f129 A46 a
def A47:Ann:=let a:LS:=[(3,.ow K1),(5,.ow K1),(6,.dv Ty.bool)];(.tl (.tl (.two (.tl (.two (.loop ⟨[(3,.ow K1),(4,.di)],[],[0]⟩ [(.exit 0,⟨[(3,.ow K1)],[],[]⟩)] (.tl (.two (.two (.tl (.tl (.two (.tl (.two (.loop ⟨[(3,.ow K1),(5,.ow K1),(6,.dv Ty.bool),(7,.di)],[],[0,4]⟩ [(.exit 2,⟨[(5,.ow K1),(6,.dv Ty.bool)],[],[0,4]⟩)] (.tl (.cut [(.normal,⟨a,[],[0,4,7]⟩)] [0,4,7] [] (.two (.two (.reg [] 9) (.cut [(.normal,⟨a,[],[0,4,7]⟩)] [0,4,7] [] .leaf (.two (.reg [] 8) .leaf))) .leaf) .leaf))) .leaf)) (.cut [(.normal,⟨[(5,.ow K1)],[],[0,4]⟩)] [0,4] [] .leaf .leaf)))) .leaf) .leaf))) .leaf)) .leaf)))
def UE(lp:Lp)(c:Ca)(a0:D):Option D:=(qZ lp (λv1=>qL a0 (gx v1 1) λy=>if y then((qZ lp (λv5=>qC .lss (gx v5 3) (Jn (List.length (qV v5 0))) λz=>if z then((qX a0 (gx v1 1) λq=>(D.idx (gx v5 3) (List.length (qV v5 0))).bind λi11=>((qV v5 0)[i11]?).bind λr=>(c 105 [q,r]).bind λn=>(qN (gx v5 2) λh=>(if h then(qT n λi=>if i then(some true) else(qX a0 (gx v1 1) λs=>(D.idx (gx v5 3) (List.length (qV v5 0))).bind λi20=>((qV v5 0)[i20]?).bind λt=>D.truth (D.bool (D.beq s t)))) else(some false)).bind λj=>qT (D.bool j) λk=>if k then(qX a0 (gx v1 1) λe=>if List.length (qV v5 1)+List.length [e]<=1073741824 then(some (0,[(qW v5 0),(D.sl ((qV v5 1)++[e])),(D.bool true)])) else none) else(some (0,[(qW v5 0),(qW v5 1),(gx v5 2)]))).bind λ(a:Nat×List D)=>(D.idx (gx v5 3) (List.length (qV a.2 0))).bind λi28=>((qV a.2 0)[i28]?).bind λu=>qX a0 (gx v1 1) λv=>qT (D.bool (!(D.beq u v))) λl=>if l then((D.idx (gx v5 3) (List.length (qV a.2 0))).bind λi34=>((qV a.2 0)[i34]?).bind λf=>if List.length (qV a.2 1)+List.length [f]<=1073741824 then(some (0,[(qW a.2 0),(D.sl ((qV a.2 1)++[f])),(gx a.2 2)])) else none) else(some (0,[(qW a.2 0),(qW a.2 1),(gx a.2 2)]))).bind λ(d:Nat×List D)=>qB .add (gx v5 3) (Jn 1) λw=>iL [(qW d.2 0),(qW d.2 1),(gx d.2 2),w]) else(iR (0,[(qW v5 1),(gx v5 2)]))) [(qW v1 0),(D.sl []),(D.bool false),(Jn 0)]).bind λb=>(qN (gx b.2 1) λm=>if m then(qX a0 (gx v1 1) λg=>if List.length (qV b.2 0)+List.length [g]<=1073741824 then(some (0,[(D.sl ((qV b.2 0)++[g]))])) else none) else(some (0,[(qW b.2 0)]))).bind λ(o:Nat×List D)=>qB .add (gx v1 1) (Jn 1) λx=>iL [(qW o.2 0),x]) else(iR (0,[(qW v1 0)]))) [(D.sl []),(Jn 0)]).bind λp=>some (qW p.2 0)
def L47:ag 47 (m1 (UE lp)):=bA 0 Tryz.f199 A47 a
end
end Sy
end
set_option maxHeartbeats 0
noncomputable section
namespace Sy
open Go Go.Proofs
section
variable{lp}(a:au lp)
def A48:Ann:=(.tl (.tl (.two (.tl (.two (.loop ⟨[(3,.dv K7),(4,.di)],[],[0]⟩ [(.exit 0,⟨[(3,.dv K7)],[],[]⟩)] (.tl (.two (.two (.tl (.two (.loop ⟨[(3,.dv K7),(5,.di)],[],[0,4]⟩ [(.exit 2,⟨[(3,.dv K7)],[],[0,4]⟩)] (.tl (.two (.two (.tl (.two (.loop ⟨[(3,.dv K7),(6,.di)],[],[0,4,5]⟩ [(.exit 4,⟨[(3,.dv K7)],[],[0,4,5]⟩)] (.tl (.two (.two (.two (.reg [] 14) (.tl (.two (.loop ⟨[(3,.dv K7),(7,.sp K1 49159),(8,.di)],[(49159,.one K1 (.dv K1))],[0,4,5,6]⟩ [(.exit 6,⟨[(3,.dv K7)],[],[0,4,5,6]⟩)] (.tl (.two (.two (.two (.reg [] 6) (.tl (.tl (.cut [(.normal,⟨[(3,.dv K7),(7,.sp K1 49159)],[(49159,.keep K1 7)],[0,4,5,6,8]⟩)] [0,4,5,6,8] [49159] (.tl (.two (.reg [] 9) .leaf)) .leaf)))) .leaf) .leaf))) .leaf))) .leaf) .leaf))) .leaf)) .leaf) .leaf))) .leaf)) .leaf) .leaf))) .leaf)) .leaf)))
def UF(lp:Lp)(c:Ca)(a0:D):Option D:=(qZ lp (λv1=>qL a0 (gx v1 1) λF=>if F then(qB .add (gx v1 1) (Jn 1) λH=>(qZ lp (λv6=>qL a0 (gx v6 1) λG=>if G then(qB .add (gx v6 1) (Jn 1) λu=>(qZ lp (λv11=>qL a0 (gx v11 1) λb=>if b then(qX a0 (gx v1 1) λv=>qX a0 (gx v6 1) λw=>qX a0 (gx v11 1) λx=>(c 106 [v,w,x]).bind λj=>(qZ lp (λv25=>qC .lss (gx v25 1) (Jn 2) λd=>if d then(qX a0 (gx v1 1) λy=>(c 107 [(gx v25 2),y]).bind λa=>(c 108 [(gx v25 0),(gx v25 2)]).bind λk=>(qN k λe=>(if e then((afB .not (D.bool (D.beq (gx v25 2) (D.st [(Jn 0),(Jn 0),(Jn 0)])))).bind λz=>D.truth z) else(some false)).bind λf=>qT (D.bool f) λg=>(if g then((c 109 [a0,(gx v25 2),a]).bind λl=>D.truth l) else(some false)).bind λh=>qT (D.bool h) λi=>if i then((c 111 [a0,(gx v25 2),a]).bind λm=>(c 110 [(gx v25 0),(D.st [(gx v25 2),a,m])]).bind λn=>some (0,[n])) else(some (0,[(gx v25 0)]))).bind λ(o:Nat×List D)=>(c 112 [(D.st [(Jn 0),(Jn 0),(Jn 0)]),(gx v25 2)]).bind λp=>qB .add (gx v25 1) (Jn 1) λA=>iL [(gx o.2 0),A,p]) else(iR (0,[(gx v25 0)]))) [(gx v11 0),(Jn 0),j]).bind λq=>qB .add (gx v11 1) (Jn 1) λB=>iL [(gx q.2 0),B]) else(iR (0,[(gx v11 0)]))) [(gx v6 0),u]).bind λr=>qB .add (gx v6 1) (Jn 1) λC=>iL [(gx r.2 0),C]) else(iR (0,[(gx v6 0)]))) [(gx v1 0),H]).bind λs=>qB .add (gx v1 1) (Jn 1) λE=>iL [(gx s.2 0),E]) else(iR (0,[(gx v1 0)]))) [(D.sl []),(Jn 0)]).bind λt=>some (gx t.2 0)
def L48:ag 48 (m1 (UF lp)):=bA 0 Tryz.f133 A48 a
def A51:Ann:=(.tl (.two (.reg [] 12) .leaf))
def UG(lp:Lp)(c:Ca)(a0 a1:D):Option D:=qG a0 [0] λe=>qG a1 [0] λf=>(c 53 [e,f]).bind λa=>qG a0 [1] λg=>qG a1 [1] λh=>(c 53 [g,h]).bind λb=>(c 52 [(D.sl [a,b])]).bind λd=>some d
def L51:ag 51 (m2 (UG lp)):=aN 0 Tryz.f191 A51 a
def A52:Ann:=(.tl (.tl (.two (.tl (.two (.loop ⟨[(8,.di)],[],[3,6,7]⟩ [(.ret,⟨[(2,.di)],[],[]⟩),(.exit 0,⟨[],[],[3]⟩)] .leaf) .leaf)) .leaf)))
def UH(lp:Lp)(c:Ca)(a0:D):Option D:=qS a0 λf=>(qZ lp (λv2=>qC .lss (gx v2 0) (Jn (f.length)) λd=>if d then(qX a0 (gx v2 0) λb=>qT (D.bool (!(D.beq b (Jn 0)))) λe=>if e then(iR (0,[b])) else(qB .add (gx v2 0) (Jn 1) λg=>iL [g])) else(iR (1,[]))) [(Jn 0)]).bind λa=>if a.1=0 then(some (gx a.2 0)) else(some (Jn 0))
def L52:ag 52 (m1 (UH lp)):=bA 0 Tryz.f179 A52 a
def UI(lp:Lp)(c:Ca)(a0 a1:D):Option D:=(c 115 [a0]).bind λr1=>(c 115 [a1]).bind λa=>qT r1 λb=>if b then(qT a λd=>if d then(some (Jn 0)) else(some (Jn (-1)))) else(qT a λe=>if e then(some (Jn 1)) else(qC .lss a0 a1 λf=>if f then(some (Jn (-1))) else(qC .gtr a0 a1 λg=>if g then(some (Jn 1)) else(some (Jn 0)))))
def L53:ag 53 (m2 (UI lp)):=aN 0 Tryz.f180 .leaf a
def A54:Ann:=(.tl (.tl (.cut [(.normal,⟨[(2,.sp be 4098),(3,.dv (Ty.int .u64))],[(4098,.keep be 2)],[0]⟩)] [0] [4098] .leaf .leaf)))
def UJ(lp:Lp)(c:Ca)(a0:D):Option D:=(D.conv .u64 a0).bind λd=>(qC .lss a0 (Jn 0) λe=>if e then((afB .neg d).bind λf=>some (0,[f])) else(some (0,[d]))).bind λ(b:Nat×List D)=>qB .lss a0 (Jn 0) λg=>(D.conv .u32 (gx b.2 0)).bind λh=>qB .shr (gx b.2 0) (D.int .u64 32) λi=>(D.conv .u32 i).bind λj=>(c 116 [g,(D.st (afz (List.replicate 16 (D.int .u32 0)) [(0,h),(1,j)]))]).bind λa=>some a
def L54:ag 54 (m1 (UJ lp)):=bA 0 Tryz.f45 A54 a
def A57:Ann:=(.tl (.tl (.tl (.two (.tl (.two (.two (.reg [] 8) .leaf) .leaf)) (.two (.reg [] 8) .leaf)))))
def UK(lp:Lp)(c:Ca)(a0 a1:D):Option D:=(c 118 [(D.sl [a0,a1])]).bind λr1=>qN r1 λw=>if w then((c 119 []).bind λy=>some y) else(qG a0 [1] λz=>qG a1 [1] λA=>qT (D.bool (D.beq z A)) λx=>if x then(qG a0 [2] λB=>qG a1 [2] λC=>(c 120 [B,C]).bind λa=>(D.tupAt a 0).bind λl=>(D.tupAt a 1).bind λm=>qN m λb=>if b then((c 119 []).bind λe=>some e) else(qG a0 [1] λn=>(c 116 [n,l]).bind λf=>some f)) else(qG a0 [2] λo=>qG a1 [2] λp=>(c 121 [o,p]).bind λg=>qC .geq g (Jn 0) λd=>if d then(qG a0 [1] λq=>qG a0 [2] λr=>qG a1 [2] λs=>(c 122 [r,s]).bind λh=>(c 116 [q,h]).bind λi=>some i) else(qG a1 [1] λt=>qG a1 [2] λu=>qG a0 [2] λv=>(c 122 [u,v]).bind λj=>(c 116 [t,j]).bind λk=>some k)))
def L57:ag 57 (m2 (UK lp)):=aN 0 Tryz.f118 A57 a
def A59:Ann:=(.tl (.tl (.tl (.tl (.tl (.tl (.tl (.two (.tl (.two (.two (.reg [] 6) .leaf) .leaf)) (.tl (.two (.tl (.two (.two (.reg [] 6) .leaf) .leaf)) (.two (.reg [] 6) .leaf)))))))))))
def RQ(lp:Lp)(c:Ca)(a0 a1:D):Option D:=(c 124 [a0]).bind λr1=>(D.tupAt r1 0).bind λF=>(D.tupAt r1 1).bind λG=>(c 124 [a1]).bind λA=>(D.tupAt A 0).bind λH=>(D.tupAt A 1).bind λI=>qT G λB=>(if B then(D.truth I) else(some false)).bind λC=>qT (D.bool C) λE=>if E then(qB .add F H λt=>(c 34 [t]).bind λi=>some i) else((c 76 [a0]).bind λj=>qN j λd=>(if d then(some true) else((c 76 [a1]).bind λk=>(afB .not k).bind λu=>D.truth u)).bind λe=>qT (D.bool e) λf=>if f then((c 125 []).bind λl=>some l) else((c 77 [a0]).bind λa=>(c 77 [a1]).bind λb=>qG a0 [1] λv=>qG a1 [1] λw=>qT (D.bool (D.beq v w)) λg=>if g then(qG a0 [1] λx=>(c 82 [a,b]).bind λm=>(c 81 [x,m]).bind λn=>some n) else((c 78 [a,b]).bind λo=>qT o λh=>if h then(qG a1 [1] λy=>(c 126 [b,a]).bind λp=>(c 81 [y,p]).bind λq=>some q) else(qG a0 [1] λz=>(c 126 [a,b]).bind λr=>(c 81 [z,r]).bind λs=>some s))))
def L59:ag 59 (m2 (RQ lp)):=aN 0 Tryz.f89 A59 a
def A61:Ann:=let a:LO:=[(4098,.keep be 2),(4099,.keep be 3),(4100,.keep be 4),(12293,.one Nr (.dv Nr))];(.tl (.tl (.tl (.two (.reg [] 7) (.two (.tl (.two (.loop ⟨[(2,.sp be 4098),(3,.sp be 4099),(4,.sp be 4100),(5,.sp Nr 12293),(24,.di)],a,[7,23]⟩ [(.exit 0,⟨[(2,.sp be 4098),(3,.sp be 4099),(4,.sp be 4100),(5,.sp Nr 12293)],a,[]⟩)] (.tl (.tl (.two (.two (.tl (.tl (.two (.tl (.two (.loop ⟨[(2,.sp be 4098),(3,.sp be 4099),(4,.sp be 4100),(5,.sp Nr 12293),(9,.dv (Ty.int .u64)),(28,.di)],a,[7,8,23,24,27]⟩ [(.exit 2,⟨[(2,.sp be 4098),(3,.sp be 4099),(4,.sp be 4100),(5,.sp Nr 12293),(9,.dv (Ty.int .u64))],a,[7,8,23,24]⟩)] (.tl (.tl (.two (.two (.tl (.two (.reg [] 20) .leaf)) .leaf) .leaf)))) .leaf)) .leaf))) .leaf) .leaf)))) .leaf)) (.tl (.two (.reg [] 9) .leaf)))))))
def UL(lp:Lp)(c:Ca)(a0 a1:D):Option D:=(c 118 [(D.sl [a0,a1])]).bind λr1=>qN r1 λH=>if H then((c 119 []).bind λI=>some I) else(qG a0 [2] λK=>(c 127 [K]).bind λJ=>qG a1 [2] λL=>(c 127 [L]).bind λG=>(qZ lp (λv9=>qC .lss (gx v9 0) J λg=>if g then((qZ lp (λv12=>qC .lss (gx v12 1) G λh=>if h then((D.idx (gx v9 0) 16).bind λi15=>qG a0 [2,i15] λl=>(D.conv .u64 l).bind λm=>(D.idx (gx v12 1) 16).bind λi18=>qG a1 [2,i18] λn=>(D.conv .u64 n).bind λo=>qB .mul m o λp=>qB .add (gx v9 0) (gx v12 1) λq=>qJ q 32 (gx v12 2) λr=>(D.conv .u64 r).bind λs=>qB .add p s λt=>qB .add (gx v12 0) t λf=>qB .add (gx v9 0) (gx v12 1) λu=>(D.conv .u32 f).bind λv=>(D.idx u 32).bind λi30=>(D.set (gx v12 2) [i30] v).bind λw=>qB .shr f (D.int .u64 32) λx=>qB .add (gx v12 1) (Jn 1) λy=>iL [x,y,w]) else(iR (0,[(gx v12 0),(gx v12 2)]))) [(D.int .u64 0),(Jn 0),(gx v9 1)]).bind λd=>qB .add (gx v9 0) G λz=>(D.conv .u32 (gx d.2 0)).bind λA=>(D.idx z 32).bind λi37=>(D.set (gx d.2 1) [i37] A).bind λB=>qB .add (gx v9 0) (Jn 1) λC=>iL [C,B]) else(iR (0,[(gx v9 1)]))) [(Jn 0),(aw Nr)]).bind λe=>(match (gx e.2 0) with
| D.st a=>(if decide (16+16<=a.length) then(qT (D.bool (!(D.beq (D.st (List.take 16 (List.drop 16 a))) (D.st (afz (List.replicate 16 (D.int .u32 0)) []))))) λi=>
 if i then((c 119 []).bind λj=>
 some j) else(qG a0 [1] λE=>
 qG a1 [1] λF=>
(match (gx e.2 0) with
| D.st b=>(if decide (0+16<=b.length) then((c 116 [(D.bool (!(D.beq E F))),(D.st (List.take 16 (List.drop 0 b)))]).bind λk=> some k) else none)
| _=>none))) else none)
| _=>none))
def L61:ag 61 (m2 (UL lp)):=aN 0 Tryz.f108 A61 a
def A62:Ann:=(.tl (.tl (.tl (.cut [(.normal,⟨[(2,.sp be 4098),(3,.sp be 4099),(4,.sp cq 4100),(5,.sp be 12293)],[(4098,.keep be 2),(4099,.keep be 3),(4100,.keep cq 4),(12293,.one be (.dv be))],[]⟩)] [] [4098,4099,4100] .leaf (.two (.reg [] 7) .leaf)))))
def RR(lp:Lp)(c:Ca)(a0 a1:D):Option D:=(c 128 [a0]).bind λr1=>qN r1 λk=>(if k then(some true) else((c 128 [a1]).bind λo=>(afB .not o).bind λq=>D.truth q)).bind λl=>qT (D.bool l) λm=>(if m then(some true) else((c 129 [a1]).bind λp=>D.truth (D.bool (D.beq p (Jn 0))))).bind λn=>qT (D.bool n) λd=>if d then((c 130 []).bind λf=>some f) else((c 131 [a0,a1]).bind λa=>((c 129 [a1]).bind λg=>qC .lss g (Jn 0) λe=>if e then((c 68 [a]).bind λh=>some (0,[h])) else(some (0,[a]))).bind λ(b:Nat×List D)=>(c 132 [a0,(gx b.2 0)]).bind λi=>(c 132 [a1,(gx b.2 0)]).bind λj=>some (D.st [i,j]))
def L62:ag 62 (m2 (RR lp)):=aN 0 Tryz.f43 A62 a
def UM(lp:Lp)(c:Ca)(a0:D):Option D:=(c 118 [(D.sl [a0])]).bind λr1=>qN r1 λa=>if a then((c 119 []).bind λb=>some b) else(qG a0 [1] λe=>(afB .not e).bind λf=>qG a0 [2] λg=>(c 116 [f,g]).bind λd=>some d)
def L68:ag 68 (m1 (UM lp)):=bA 0 Tryz.f111 .leaf a
def A70:Ann:=(.tl (.tl (.two (.reg [] 6) .leaf)))
def Sq(lp:Lp)(c:Ca)(a0:D):Option D:=(c 88 [a0]).bind λr1=>qN r1 λa=>if a then((c 84 []).bind λb=>some b) else(qG a0 [0] λe=>(c 86 [e]).bind λd=>qG a0 [1] λf=>some (D.st [d,f]))
def L70:ag 70 (m1 (Sq lp)):=bA 0 Tryz.f52 A70 a
def UN(lp:Lp)(c:Ca)(a0:D):Option D:=qG a0 [0,0,0] λf=>qT f λa=>(if a then(some true) else(qG a0 [1,0,0] λg=>D.truth g)).bind λb=>qT (D.bool b) λd=>(if d then(some true) else(qG a0 [2,0,0] λh=>D.truth h)).bind λe=>some (D.bool e)
def L71:ag 71 (m1 (UN lp)):=bA 0 Tryz.f60 .leaf a
def A72:Ann:=(.tl (.two (.reg [] 4) .leaf))
def UO(lp:Lp)(c:Ca)(a0 a1:D):Option D:=(c 135 [a0]).bind λr1=>(c 134 [r1,a1]).bind λa=>some a
def L72:ag 72 (m2 (UO lp)):=aN 0 Tryz.f65 A72 a
def A73:Ann:=(.tl (.two (.reg [] 5) (.tl (.tl (.tl (.two (.two (.loop ⟨[(2,.sp cq 4098),(3,.sp cq 4099),(7,.di)],[(4098,.one cq (.dv cq)),(4099,.one cq (.dv cq))],[]⟩ [(.exit 1,⟨[(7,.di)],[],[]⟩)] (.two (.two (.two (.reg [] 11) .leaf) (.two (.reg [] 16) (.two (.reg [] 7) .leaf))) .leaf)) .leaf) .leaf))))))
def UP(lp:Lp)(c:Ca)(a0 a1:D):Option D:=(c 136 [a0]).bind λr1=>(c 136 [a1]).bind λC=>qN r1 λE=>(if E then((afB .not C).bind λI=>D.truth I) else(some false)).bind λF=>qT (D.bool F) λG=>if G then(some (Jn 0)) else(qN r1 λH=>if H then(some (Jn (-1))) else(qN C λg=>if g then(some (Jn 1)) else((qZ lp (λv12=>qG (gx v12 1) [0] λo=>qG (gx v12 1) [1] λp=>(c 132 [o,p]).bind λl=>qG (gx v12 2) [0] λq=>qG (gx v12 2) [1] λr=>(c 132 [q,r]).bind λm=>(c 90 [l,m]).bind λa=>qT (D.bool (!(D.beq a (Jn 0)))) λh=>if h then(qB .mul (gx v12 0) a λs=>iR (0,[s])) else(qG (gx v12 1) [1] λt=>qG (gx v12 1) [0] λu=>qG (gx v12 1) [1] λv=>(c 137 [u,v]).bind λb=>qG (gx v12 2) [1] λw=>qG (gx v12 2) [0] λx=>qG (gx v12 2) [1] λy=>(c 137 [x,y]).bind λd=>(c 129 [b]).bind λe=>(c 129 [d]).bind λf=>qT (D.bool (D.beq e (Jn 0))) λi=>(if i then(some true) else(D.truth (D.bool (D.beq f (Jn 0))))).bind λj=>qT (D.bool j) λk=>if k then(qB .sub e f λz=>qB .mul (gx v12 0) z λA=>iR (0,[A])) else((afB .neg (gx v12 0)).bind λB=>iL [B,(D.st [t,b]),(D.st [w,d])]))) [(Jn 1),a0,a1]).bind λn=>some (gx n.2 0))))
def L73:ag 73 (m2 (UP lp)):=aN 0 Tryz.f46 A73 a
def UQ(lp:Lp)(c:Ca)(a0:D):Option D:=(c 54 [a0]).bind λr1=>(c 138 [r1]).bind λa=>some a
def L74:ag 74 (m1 (UQ lp)):=bA 0 Tryz.f49 .leaf a
def UR(lp:Lp)(c:Ca)(a0:D):Option D:=(c 34 [a0]).bind λr1=>(c 133 []).bind λa=>(c 37 [r1,a]).bind λb=>some b
def L75:ag 75 (m1 (UR lp)):=bA 0 Tryz.f36 .leaf a
def Sr(lp:Lp)(c:Ca)(a0:D):Option D:=(c 139 [a0]).bind λr1=>qT r1 λa=>(if a then(qG a0 [0] λd=>(afB .not d).bind λe=>D.truth e) else(some false)).bind λb=>some (D.bool b)
def L76:ag 76 (m1 (Sr lp)):=bA 0 Tryz.f78 .leaf a
def A77:Ann:=(.tl (.tl (.two (.tl (.two (.loop ⟨[(1,.sp be 4097),(3,.ow Ti),(4,.di)],[(4097,.keep be 1)],[]⟩ [(.exit 0,⟨[(3,.ow Ti)],[],[]⟩)] (.tl (.two (.two (.reg [] 14) .leaf) .leaf))) .leaf)) .leaf)))
def US(lp:Lp)(c:Ca)(a0:D):Option D:=(qZ lp (λv1=>qC .lss (gx v1 1) (Jn 16) λh=>if h then((D.idx (gx v1 1) 16).bind λi4=>qG a0 [2,i4] λi=>qB .rem i (D.int .u32 65536) λj=>(D.conv .i64 j).bind λg=>(D.idx (gx v1 1) 16).bind λi8=>qG a0 [2,i8] λk=>qB .quo k (D.int .u32 65536) λe=>(D.conv .i64 e).bind λa=>if List.length (qV v1 0)+List.length [g,a]<=1073741824 then(qB .add (gx v1 1) (Jn 1) λf=>iL [(D.sl ((qV v1 0)++[g,a])),f]) else none) else(iR (0,[(qW v1 0)]))) [(D.sl []),(Jn 0)]).bind λb=>(c 140 [(qW b.2 0)]).bind λd=>some d
def L77:ag 77 (m1 (US lp)):=bA 0 Tryz.f79 A77 a
def A78:Ann:=(.tl (.two (.tl (.two (.loop ⟨[(5,.di)],[],[0,1]⟩ [(.ret,⟨[(4,.dv Ty.bool)],[],[]⟩),(.exit 0,⟨[],[],[]⟩)] .leaf) .leaf)) .leaf))
def UT(lp:Lp)(c:Ca)(a0 a1:D):Option D:=qS a0 λi=>qS a1 λj=>(D.max2 (Jn (i.length)) (Jn (j.length))).bind λm=>qB .sub m (Jn 1) λn=>(qZ lp (λv5=>qC .geq (gx v5 0) (Jn 0) λh=>if h then((c 141 [a0,(gx v5 0)]).bind λk=>(c 141 [a1,(gx v5 0)]).bind λl=>qT (D.bool (!(D.beq k l))) λb=>if b then((c 141 [a0,(gx v5 0)]).bind λd=>(c 141 [a1,(gx v5 0)]).bind λe=>qB .lss d e λf=>iR (0,[f])) else(qB .sub (gx v5 0) (Jn 1) λg=>iL [g])) else(iR (1,[]))) [n]).bind λa=>if a.1=0 then(some (gx a.2 0)) else(some (D.bool false))
def L78:ag 78 (m2 (UT lp)):=aN 0 Tryz.f154 A78 a
def A79:Ann:=(.tl (.tl (.two (.reg [] 7) (.two (.reg [] 7) .leaf))))
def UU(lp:Lp)(c:Ca)(a0 a1:D):Option D:=qG a0 [0] λg=>qG a1 [0] λh=>(c 89 [g,h]).bind λd=>qG a0 [1] λi=>qG a1 [1] λj=>(c 89 [i,j]).bind λe=>(c 59 [d,e]).bind λf=>qG a0 [2] λk=>qG a1 [2] λl=>(c 89 [k,l]).bind λa=>(c 59 [f,a]).bind λb=>some b
def L79:ag 79 (m2 (UU lp)):=aN 0 Tryz.f92 A79 a
def A80:Ann:=(.tl (.two (.reg [] 10) .leaf))
def UV(lp:Lp)(c:Ca)(a0:D):Option D:=qG a0 [0] λe=>(c 34 [e]).bind λa=>qG a0 [1] λf=>(c 34 [f]).bind λb=>qG a0 [2] λg=>(c 34 [g]).bind λd=>some (D.st [a,b,d])
def L80:ag 80 (m1 (UV lp)):=bA 0 Tryz.f93 A80 a
def A81:Ann:=let a:LO:=[(4100,.keep be 4),(16390,.one be (.dv be))];let b:LS:=[(4,.sp be 4100),(6,.sp be 16390)];(.tl (.tl (.tl (.tl (.two (.tl (.two (.loop ⟨[(4,.sp be 4100),(6,.sp be 16390),(7,.di)],a,[5]⟩ [(.exit 0,⟨b,a,[]⟩)] (.tl (.cut [(.normal,⟨b,a,[5,7]⟩)] [5,7] [4100] (.two (.tl (.two (.reg [] 15) (.reg [] 16))) .leaf) .leaf))) .leaf)) .leaf)))))
def Ss(lp:Lp)(c:Ca)(a0 a1:D):Option D:=(c 140 [a1]).bind λr1=>qS r1 λz=>qC .gtr (Jn (z.length)) (Jn 32) λw=>if w then((c 125 []).bind λB=>some B) else(qT a0 λx=>(if x then(qS r1 λA=>qB .gtr (Jn (A.length)) (Jn 0) λC=>D.truth C) else(some false)).bind λy=>(qZ lp (λv10=>qL r1 (gx v10 0) λa=>if a then((qB .rem (gx v10 0) (Jn 2) λf=>qT (D.bool (D.beq f (Jn 0))) λb=>if b then(qB .quo (gx v10 0) (Jn 2) λg=>qB .quo (gx v10 0) (Jn 2) λh=>(D.idx h 16).bind λi18=>qG (gx v10 1) [2,i18] λi=>qX r1 (gx v10 0) λj=>(D.conv .u32 j).bind λk=>qB .add i k λl=>(D.idx g 16).bind λi25=>(D.set (gx v10 1) [2,i25] l).bind λm=>some (0,[m])) else(qB .quo (gx v10 0) (Jn 2) λn=>qB .quo (gx v10 0) (Jn 2) λo=>(D.idx o 16).bind λi29=>qG (gx v10 1) [2,i29] λp=>qX r1 (gx v10 0) λq=>(D.conv .u32 q).bind λr=>qB .mul r (D.int .u32 65536) λs=>qB .add p s λt=>(D.idx n 16).bind λi37=>(D.set (gx v10 1) [2,i37] t).bind λu=>some (0,[u]))).bind λ(d:Nat×List D)=>qB .add (gx v10 0) (Jn 1) λv=>iL [v,(gx d.2 0)]) else(iR (0,[(gx v10 1)]))) [(Jn 0),(D.st [(D.bool false),(D.bool y),(aw bc)])]).bind λe=>some (gx e.2 0))
def L81:ag 81 (m2 (Ss lp)):=aN 0 Tryz.f151 A81 a
def A82:Ann:=(.tl (.tl (.tl (.two (.tl (.two (.loop ⟨[(5,.ow Ti),(6,.di),(7,.di)],[],[0,1]⟩ [(.exit 0,⟨[(5,.ow Ti)],[],[]⟩)] .leaf) .leaf)) .leaf))))
def UW(lp:Lp)(c:Ca)(a0 a1:D):Option D:=(qZ lp (λv1=>qS a0 λj=>qS a1 λk=>(D.max2 (Jn (j.length)) (Jn (k.length))).bind λn=>qB .add n (Jn 1) λo=>qC .lss (gx v1 2) o λi=>if i then((c 141 [a0,(gx v1 2)]).bind λl=>(c 141 [a1,(gx v1 2)]).bind λm=>qB .add l m λf=>qB .add f (gx v1 1) λa=>qB .rem a (Jn 65536) λb=>if List.length (qV v1 0)+List.length [b]<=1073741824 then(qB .quo a (Jn 65536) λg=>qB .add (gx v1 2) (Jn 1) λh=>iL [(D.sl ((qV v1 0)++[b])),g,h]) else none) else(iR (0,[(qW v1 0)]))) [(D.sl []),(Jn 0),(Jn 0)]).bind λd=>(c 140 [(qW d.2 0)]).bind λe=>some e
def L82:ag 82 (m2 (UW lp)):=aN 0 Tryz.f153 A82 a
def UX(lp:Lp)(c:Ca)(a0:D):Option D:=(c 76 [a0]).bind λr1=>qN r1 λa=>(if a then(some true) else((c 77 [a0]).bind λg=>qS g λf=>D.truth (D.bool (D.beq (Jn (f.length)) (Jn 0))))).bind λb=>qT (D.bool b) λd=>if d then(some (Jn 0)) else(qG a0 [1] λh=>qT h λe=>if e then(some (Jn (-1))) else(some (Jn 1)))
def L83:ag 83 (m1 (UX lp)):=bA 0 Tryz.f82 .leaf a
def UY(lp:Lp)(c:Ca) :Option D:=(c 125 []).bind λr1=>(c 133 []).bind λa=>some (D.st [r1,a])
def L84:ag 84 (m0 (UY lp)):=yH 0 Tryz.f85 .leaf a
def A85:Ann:=(.tl (.tl (.tl (.two (.tl (.two (.two (.two (.loop ⟨[(4,.sp be 4100),(5,.di),(7,.di)],[(4100,.keep be 4)],[]⟩ [(.exit 0,⟨[(4,.sp be 4100),(5,.di)],[(4100,.keep be 4)],[]⟩)] .leaf) .leaf) .leaf) .leaf)) (.tl (.tl (.tl (.two (.two (.loop ⟨[(4,.sp be 4100),(10,.dv K5),(11,.dv K5)],[(4100,.keep be 4)],[]⟩ [(.exit 2,⟨[(4,.sp be 4100),(10,.dv K5)],[(4100,.keep be 4)],[]⟩)] .leaf) .leaf) .leaf))))))))
def Su(lp:Lp)(c:Ca)(a0 a1:D):Option D:=(c 124 [a0]).bind λr1=>(D.tupAt r1 0).bind λz=>(D.tupAt r1 1).bind λA=>(c 124 [a1]).bind λv=>(D.tupAt v 0).bind λC=>(D.tupAt v 1).bind λE=>qT A λw=>(if w then(D.truth E) else(some false)).bind λx=>qT (D.bool x) λy=>if y then((qZ lp (λv10=>qT (D.bool (!(D.beq (gx v10 1) (Jn 0)))) λb=>if b then(qB .rem (gx v10 0) (gx v10 1) λs=>iL [(gx v10 1),s]) else(iR (0,[(gx v10 0)]))) [z,C]).bind λi=>(c 34 [(gx i.2 0)]).bind λj=>(c 142 [j]).bind λk=>some k) else((c 76 [a0]).bind λl=>qN l λd=>(if d then(some true) else((c 76 [a1]).bind λm=>(afB .not m).bind λt=>D.truth t)).bind λe=>qT (D.bool e) λf=>if f then((c 125 []).bind λn=>some n) else((c 77 [a0]).bind λo=>(c 77 [a1]).bind λp=>(qZ lp (λv26=>qS (gx v26 1) λh=>qC .gtr (Jn (h.length)) (Jn 0) λg=>if g then((c 143 [(gx v26 0),(gx v26 1)]).bind λa=>(D.tupAt a 0).bind λB=>(D.tupAt a 1).bind λu=>iL [(gx v26 1),u]) else(iR (0,[(gx v26 0)]))) [o,p]).bind λq=>(c 81 [(D.bool false),(gx q.2 0)]).bind λr=>some r))
def L85:ag 85 (m2 (Su lp)):=aN 0 Tryz.f86 A85 a
def A86:Ann:=(.tl (.tl (.two (.reg [] 6) .leaf)))
def UZ(lp:Lp)(c:Ca)(a0:D):Option D:=(c 76 [a0]).bind λr1=>qN r1 λa=>if a then((c 125 []).bind λb=>some b) else(qG a0 [1] λf=>(afB .not f).bind λg=>(c 77 [a0]).bind λd=>(c 81 [g,d]).bind λe=>some e)
def L86:ag 86 (m1 (UZ lp)):=bA 0 Tryz.f125 A86 a
end
end Sy
end
set_option maxHeartbeats 0
noncomputable section
namespace Sy
open Go Go.Proofs
section
variable{lp}(a:au lp)
def A87:Ann:=(.tl (.tl (.tl (.tl (.tl (.two (.reg [] 9) (.cut [(.normal,⟨[(2,.sp be 4098),(3,.sp be 4099),(4,.sp be 4100),(9,.dv K5)],[(4098,.keep be 2),(4099,.keep be 3),(4100,.keep be 4)],[]⟩)] [] [4098,4099,4100] .leaf .leaf)))))))
def RS(lp:Lp)(c:Ca)(a0 a1:D):Option D:=(c 124 [a0]).bind λr1=>(D.tupAt r1 0).bind λN=>(D.tupAt r1 1).bind λO=>(c 124 [a1]).bind λI=>(D.tupAt I 0).bind λJ=>(D.tupAt I 1).bind λP=>qT O λK=>(if K then(D.truth P) else(some false)).bind λL=>qT (D.bool L) λM=>(if M then(D.truth (D.bool (!(D.beq J (Jn 0))))) else(some false)).bind λd=>qT (D.bool d) λe=>if e then((c 144 [N,J]).bind λp=>(c 34 [p]).bind λq=>some q) else((c 76 [a0]).bind λr=>qN r λf=>(if f then(some true) else((c 76 [a1]).bind λs=>(afB .not s).bind λA=>D.truth A)).bind λg=>qT (D.bool g) λh=>(if h then(some true) else((c 77 [a1]).bind λt=>qS t λn=>D.truth (D.bool (D.beq (Jn (n.length)) (Jn 0))))).bind λi=>qT (D.bool i) λj=>if j then((c 125 []).bind λu=>some u) else((c 77 [a0]).bind λv=>(c 77 [a1]).bind λw=>(c 143 [v,w]).bind λa=>(D.tupAt a 0).bind λb=>(D.tupAt a 1).bind λB=>(qG a0 [1] λC=>qG a1 [1] λE=>qT (D.bool (!(D.beq C E))) λk=>(if k then(qS B λo=>qB .gtr (Jn (o.length)) (Jn 0) λF=>D.truth F) else(some false)).bind λl=>qT (D.bool l) λm=>if m then((c 82 [b,(D.sl [(Jn 1)])]).bind λx=>some (0,[x])) else(some (0,[b]))).bind λ(y:Nat×List D)=>qG a0 [1] λG=>qG a1 [1] λH=>(c 81 [(D.bool (!(D.beq G H))),(gx y.2 0)]).bind λz=>some z))
def L87:ag 87 (m2 (RS lp)):=aN 0 Tryz.f87 A87 a
def Sv(lp:Lp)(c:Ca)(a0:D):Option D:=qG a0 [0] λo=>(c 76 [o]).bind λm=>qN m λj=>(if j then(some true) else(qG a0 [1] λp=>(c 76 [p]).bind λn=>(afB .not n).bind λq=>D.truth q)).bind λk=>qT (D.bool k) λl=>if l then(some (D.bool false)) else(qG a0 [1] λg=>(c 83 [g]).bind λd=>qC .gtr d (Jn 0) λa=>(if a then(qG a0 [0] λh=>qG a0 [1] λi=>(c 85 [h,i]).bind λe=>(c 133 []).bind λf=>D.truth (D.bool (D.beq e f))) else(some false)).bind λb=>some (D.bool b))
def L88:ag 88 (m1 (Sv lp)):=bA 0 Tryz.f81 .leaf a
def A89:Ann:=(.tl (.tl (.tl (.tl (.tl (.two (.reg [] 11) .leaf))))))
def RT(lp:Lp)(c:Ca)(a0 a1:D):Option D:=(c 124 [a0]).bind λr1=>(D.tupAt r1 0).bind λx=>(D.tupAt r1 1).bind λC=>(c 124 [a1]).bind λw=>(D.tupAt w 0).bind λy=>(D.tupAt w 1).bind λE=>qT C λz=>(if z then(D.truth E) else(some false)).bind λA=>qT (D.bool A) λB=>(if B then((c 145 [x]).bind λi=>D.truth i) else(some false)).bind λa=>qT (D.bool a) λb=>(if b then((c 145 [y]).bind λj=>D.truth j) else(some false)).bind λd=>qT (D.bool d) λe=>if e then(qB .mul x y λs=>(c 34 [s]).bind λk=>some k) else((c 76 [a0]).bind λl=>qN l λf=>(if f then(some true) else((c 76 [a1]).bind λm=>(afB .not m).bind λt=>D.truth t)).bind λg=>qT (D.bool g) λh=>if h then((c 125 []).bind λn=>some n) else(qG a0 [1] λu=>qG a1 [1] λv=>(c 77 [a0]).bind λo=>(c 77 [a1]).bind λp=>(c 146 [o,p]).bind λq=>(c 81 [(D.bool (!(D.beq u v))),q]).bind λr=>some r))
def L89:ag 89 (m2 (RT lp)):=aN 0 Tryz.f90 A89 a
def A90:Ann:=(.tl (.two (.reg [] 7) .leaf))
def U0(lp:Lp)(c:Ca)(a0 a1:D):Option D:=(c 118 [(D.sl [a0])]).bind λr1=>(c 118 [(D.sl [a1])]).bind λp=>qN r1 λq=>(if q then((afB .not p).bind λu=>D.truth u) else(some false)).bind λr=>qT (D.bool r) λs=>if s then(some (Jn 0)) else(qN r1 λt=>if t then(some (Jn (-1))) else(qN p λa=>if a then(some (Jn 1)) else(qG a0 [1] λh=>qG a1 [1] λi=>qT (D.bool (!(D.beq h i))) λb=>if b then(qG a0 [1] λj=>qT j λd=>if d then(some (Jn (-1))) else(some (Jn 1))) else(qG a0 [1] λk=>qT k λe=>if e then(qG a1 [2] λl=>qG a0 [2] λm=>(c 121 [l,m]).bind λf=>some f) else(qG a0 [2] λn=>qG a1 [2] λo=>(c 121 [n,o]).bind λg=>some g)))))
def L90:ag 90 (m2 (U0 lp)):=aN 0 Tryz.f116 A90 a
def A91:Ann:=(.tl (.two (.reg [] 5) .leaf))
def U2(lp:Lp)(c:Ca)(a0 a1:D):Option D:=(c 148 [a0]).bind λr1=>(c 148 [a1]).bind λa=>(c 147 [r1,a]).bind λb=>some b
def L91:ag 91 (m2 (U2 lp)):=aN 0 Tryz.f44 A91 a
def A96:Ann:=(.tl (.two (.reg [] 8) (.cut [(.normal,⟨[(3,.sp K1 4099),(6,.sp eZ 4102),(7,.sp K1 8199)],[(4099,.keep K1 3),(4102,.keep eZ 6),(8199,.one K1 (.dv K1))],[]⟩)] [] [4099,4102] (.two (.reg [] 8) (.tl (.two (.reg [] 13) .leaf))) (.two (.reg [] 5) .leaf))))
def U3(lp:Lp)(c:Ca)(a0 a1 a2:D):Option D:=(c 103 [a1,a0]).bind λr1=>(c 103 [a2,a0]).bind λm=>(c 117 [r1,m]).bind λa=>(qG a [0] λo=>qG a [1] λp=>(c 152 [o,p]).bind λn=>qG a [2] λq=>(c 152 [n,q]).bind λd=>qC .gtr d (Jn 1) λe=>if e then(qG a [0] λg=>qB .quo g d λh=>qG a [1] λi=>qB .quo i d λj=>qG a [2] λk=>qB .quo k d λl=>some (0,[(D.st [h,j,l])])) else(some (0,[a]))).bind λ(b:Nat×List D)=>(c 101 [(gx b.2 0),a0]).bind λf=>some (D.st [(gx b.2 0),f])
def L96:ag 96 (m3 (U3 lp)):=nS 0 Tryz.f175 A96 a
def U4(lp:Lp)(c:Ca)(a0:D):Option D:=qG a0 [0] λa=>(afB .neg a).bind λb=>qG a0 [1] λd=>(afB .neg d).bind λe=>qG a0 [2] λf=>(afB .neg f).bind λg=>some (D.st [b,e,g])
def L97:ag 97 (m1 (U4 lp)):=bA 0 Tryz.f58 .leaf a
def A98:Ann:=(.tl (.tl (.two (.tl (.two (.loop ⟨[(3,.sp eZ 4099),(5,.dv Ty.bool),(11,.di)],[(4099,.keep eZ 3)],[9,10]⟩ [(.ret,⟨[(4,.dv Ty.bool)],[],[]⟩),(.exit 0,⟨[(5,.dv Ty.bool)],[],[]⟩)] .leaf) .leaf)) .leaf)))
def U5(lp:Lp)(c:Ca)(a0 a1:D):Option D:=qS a0 λl=>(qZ lp (λv2=>qC .lss (gx v2 1) (Jn (l.length)) λk=>if k then(qX a0 (gx v2 1) λm=>qG a1 [0] λn=>(c 101 [n,m]).bind λj=>qG a1 [1] λf=>qC .gtr j f λb=>if b then(iR (0,[(D.bool false)])) else(qT (gx v2 0) λd=>(if d then(qG a1 [1] λg=>D.truth (D.bool (D.beq j g))) else(some false)).bind λe=>qB .add (gx v2 1) (Jn 1) λh=>iL [(D.bool e),h])) else(iR (1,[(gx v2 0)]))) [(D.bool true),(Jn 0)]).bind λa=>if a.1=0 then(some (gx a.2 0)) else((afB .not (gx a.2 0)).bind λi=>some i)
def L98:ag 98 (m2 (U5 lp)):=aN 0 Tryz.f176 A98 a
def Vi:Ann:=(.tl (.two (.reg [] 23) .leaf))
def Lk(lp:Lp)(c:Ca)(a0 a1:D):Option D:=qG a0 [0,0] λf=>qG a1 [0,0] λg=>(c 53 [f,g]).bind λb=>qG a0 [0,1] λh=>qG a1 [0,1] λi=>(c 53 [h,i]).bind λd=>qG a0 [0,2] λj=>qG a1 [0,2] λk=>(c 53 [j,k]).bind λe=>(c 52 [(D.sl [b,d,e])]).bind λa=>some a
def WP:ag 100 (m2 (Lk lp)):=aN 0 Tryz.f178 Vi a
def H1(lp:Lp)(c:Ca)(a0 a1:D):Option D:=qG a0 [0] λd=>qG a1 [0] λe=>qB .mul d e λf=>qG a0 [1] λg=>qG a1 [1] λh=>qB .mul g h λi=>qB .add f i λj=>qG a0 [2] λk=>qG a1 [2] λl=>qB .mul k l λa=>qB .add j a λb=>some b
def WQ:ag 101 (m2 (H1 lp)):=aN 0 Tryz.f181 .leaf a
def Vj:Ann:=(.tl (.two (.reg [] 4) .leaf))
def Ll(lp:Lp)(c:Ca)(a0 a1:D):Option D:=(c 97 [a1]).bind λr1=>(c 154 [a0,r1]).bind λa=>some a
def WR:ag 103 (m2 (Ll lp)):=aN 0 Tryz.f161 Vj a
def Vk:Ann:=(.tl (.tl (.two (.tl (.two (.loop ⟨[(7,.sp K1 8199),(14,.di)],[(8199,.keep K1 7)],[13]⟩ [(.ret,⟨[(6,.di)],[],[]⟩),(.exit 0,⟨[],[],[]⟩)] .leaf) .leaf)) .leaf)))
def Lm(lp:Lp)(c:Ca)(a0 a1 a2:D):Option D:=(c 117 [a1,a2]).bind λr1=>(qZ lp (λv2=>qC .lss (gx v2 0) (Jn 3) λh=>if h then((D.idx (gx v2 0) 3).bind λi5=>(D.fld a0 i5).bind λg=>qT (D.bool (!(D.beq g (Jn 0)))) λi=>if i then(qJ (gx v2 0) 3 r1 λj=>(c 53 [j,(Jn 0)]).bind λb=>(c 53 [g,(Jn 0)]).bind λd=>qB .mul b d λe=>iR (0,[e])) else(qB .add (gx v2 0) (Jn 1) λf=>iL [f])) else(iR (1,[]))) [(Jn 0)]).bind λa=>if a.1=0 then(some (gx a.2 0)) else(some (Jn 0))
def WS:ag 104 (m3 (Lm lp)):=nS 0 Tryz.f183 Vk a
def Ln(lp:Lp)(c:Ca)(a0 a1:D):Option D:=qG a0 [0] λj=>qG a1 [0] λk=>qT (D.bool (!(D.beq j k))) λh=>if h then(qG a0 [0] λl=>qG a1 [0] λm=>qB .lss l m λn=>some n) else(qG a0 [1] λo=>qG a1 [1] λp=>qT (D.bool (!(D.beq o p))) λi=>if i then(qG a0 [1] λa=>qG a1 [1] λb=>qB .lss a b λd=>some d) else(qG a0 [2] λe=>qG a1 [2] λf=>qB .lss e f λg=>some g))
def WT:ag 105 (m2 (Ln lp)):=aN 0 Tryz.f216 .leaf a
def Vl:Ann:=(.tl (.two (.reg [] 8) .leaf))
def Lo(lp:Lp)(c:Ca)(a0 a1 a2:D):Option D:=(c 112 [a1,a0]).bind λr1=>(c 112 [a2,a0]).bind λa=>(c 123 [r1,a]).bind λb=>(c 80 [b]).bind λd=>(c 155 [d]).bind λe=>qG e [0] λf=>some f
def WU:ag 106 (m3 (Lo lp)):=nS 0 Tryz.f184 Vl a
def Lr(lp:Lp)(c:Ca)(a0 a1:D):Option D:=qG a0 [0] λd=>qG a1 [0] λe=>qB .mul d e λf=>qG a0 [1] λg=>qG a1 [1] λh=>qB .mul g h λi=>qB .add f i λj=>qG a0 [2] λk=>qG a1 [2] λl=>qB .mul k l λa=>qB .add j a λb=>some b
def WW:ag 107 (m2 (Lr lp)):=aN 0 Tryz.f185 .leaf a
def Vm:Ann:=(.tl (.two (.tl (.two (.loop ⟨[(3,.sp K1 4099),(5,.di)],[(4099,.keep K1 3)],[0]⟩ [(.ret,⟨[(4,.dv Ty.bool)],[],[]⟩),(.exit 0,⟨[],[],[]⟩)] (.tl (.two (.two (.two (.reg [] 6) .leaf) .leaf) .leaf))) .leaf)) .leaf))
def Ls(lp:Lp)(c:Ca)(a0 a1:D):Option D:=(qZ lp (λv1=>qL a0 (gx v1 0) λd=>if d then(qX a0 (gx v1 0) λf=>(D.fld f 0).bind λg=>qT (D.bool (D.beq g a1)) λe=>if e then(iR (0,[(D.bool true)])) else(qB .add (gx v1 0) (Jn 1) λb=>iL [b])) else(iR (1,[]))) [(Jn 0)]).bind λa=>if a.1=0 then(some (gx a.2 0)) else(some (D.bool false))
def WX:ag 108 (m2 (Ls lp)):=aN 0 Tryz.f186 Vm a
def Vn:Ann:=(.tl (.tl (.two (.tl (.two (.loop ⟨[(4,.sp K1 4100),(7,.dv Ty.bool),(8,.di)],[(4100,.keep K1 4)],[0,2]⟩ [(.ret,⟨[(6,.dv Ty.bool)],[],[]⟩),(.exit 0,⟨[(7,.dv Ty.bool)],[],[]⟩)] (.tl (.two (.two (.two (.reg [] 6) .leaf) .leaf) .leaf))) .leaf)) .leaf)))
def Lt(lp:Lp)(c:Ca)(a0 a1 a2:D):Option D:=(qZ lp (λv1=>qL a0 (gx v1 1) λi=>if i then(qX a0 (gx v1 1) λj=>(c 107 [a1,j]).bind λh=>qC .gtr h a2 λb=>if b then(iR (0,[(D.bool false)])) else(qT (gx v1 0) λd=>(if d then(some true) else(qB .lss h a2 λf=>D.truth f)).bind λe=>qB .add (gx v1 1) (Jn 1) λg=>iL [(D.bool e),g])) else(iR (1,[(gx v1 0)]))) [(D.bool false),(Jn 0)]).bind λa=>if a.1=0 then(some (gx a.2 0)) else(some (gx a.2 0))
def WY:ag 109 (m3 (Lt lp)):=nS 0 Tryz.f187 Vn a
def Vo:Ann:=let a:LS:=[(3,.sp K6 4099),(5,.ow K6),(6,.dv Ty.bool)];(.tl (.tl (.tl (.two (.tl (.two (.loop ⟨[(3,.sp K6 4099),(5,.ow K6),(6,.dv Ty.bool),(7,.di)],[(4099,.keep K6 3)],[0]⟩ [(.exit 0,⟨a,[(4099,.keep K6 3)],[]⟩)] (.tl (.two (.two (.two (.reg [] 8) (.cut [(.normal,⟨a,[(4099,.keep K6 3)],[0,7]⟩)] [0,7] [4099] .leaf .leaf)) .leaf) .leaf))) .leaf)) (.cut [(.normal,⟨[(5,.ow K6)],[],[]⟩)] [] [] .leaf .leaf)))))
def Lu(lp:Lp)(c:Ca)(a0 a1:D):Option D:=(qZ lp (λv1=>qL a0 (gx v1 2) λl=>if l then(qG a1 [0] λm=>qX a0 (gx v1 2) λn=>(D.fld n 0).bind λo=>(c 105 [m,o]).bind λi=>(qN (gx v1 1) λe=>(if e then(D.truth i) else(some false)).bind λf=>qT (D.bool f) λg=>if g then(if List.length (qV v1 0)+List.length [a1]<=1073741824 then(some (0,[(D.sl ((qV v1 0)++[a1])),(D.bool true)])) else none) else(some (0,[(qW v1 0),(gx v1 1)]))).bind λ(b:Nat×List D)=>qX a0 (gx v1 2) λd=>if List.length (qV b.2 0)+List.length [d]<=1073741824 then(qB .add (gx v1 2) (Jn 1) λk=>iL [(D.sl ((qV b.2 0)++[d])),(gx b.2 1),k]) else none) else(iR (0,[(qW v1 0),(gx v1 1)]))) [(D.sl []),(D.bool false),(Jn 0)]).bind λa=>(qN (gx a.2 1) λh=>if h then(if List.length (qV a.2 0)+List.length [a1]<=1073741824 then(some (0,[(D.sl ((qV a.2 0)++[a1]))])) else none) else(some (0,[(qW a.2 0)]))).bind λ(j:Nat×List D)=>some (qW j.2 0)
def WZ:ag 110 (m2 (Lu lp)):=aN 0 Tryz.f188 Vo a
def Vp:Ann:=let a:LS:=[(4,.sp K1 4100),(7,.ow Ti),(8,.di)];let b:LS:=[(4,.sp K1 4100),(7,.ow Ti),(11,.di)];(.tl (.tl (.tl (.two (.tl (.two (.loop ⟨[(4,.sp K1 4100),(7,.ow Ti),(8,.di),(9,.di)],[(4100,.keep K1 4)],[0,2]⟩ [(.exit 0,⟨a,[(4100,.keep K1 4)],[0,2]⟩)] (.tl (.cut [(.normal,⟨a,[(4100,.keep K1 4)],[0,2,9]⟩)] [0,2,9] [4100] (.two (.two (.reg [] 7) .leaf) .leaf) .leaf))) .leaf)) (.tl (.two (.two (.loop ⟨a,[(4100,.keep K1 4)],[0,2,10]⟩ [(.exit 2,⟨[(7,.ow Ti)],[],[]⟩)] (.tl (.two (.tl (.tl (.two (.tl (.two (.loop ⟨[(4,.sp K1 4100),(7,.ow Ti),(11,.di),(12,.di)],[(4100,.keep K1 4)],[0,2,8,10]⟩ [(.exit 4,⟨b,[(4100,.keep K1 4)],[0,2,10]⟩)] (.tl (.cut [(.normal,⟨b,[(4100,.keep K1 4)],[0,2,8,10,12]⟩)] [0,2,8,10,12] [4100] (.two (.tl (.two (.two (.reg [] 12) .leaf) .leaf)) .leaf) .leaf))) .leaf)) .leaf))) .leaf))) .leaf) .leaf))))))
def Lv(lp:Lp)(c:Ca)(a0 a1 a2:D):Option D:=(qZ lp (λv1=>qL a0 (gx v1 2) λG=>(if G then(qB .lss (gx v1 1) (Jn 0) λJ=>D.truth J) else(some false)).bind λH=>qT (D.bool H) λI=>if I then((qX a0 (gx v1 2) λx=>(c 107 [a1,x]).bind λt=>qT (D.bool (D.beq t a2)) λg=>if g then(some (0,[(qW v1 0),(gx v1 2)])) else(some (0,[(qW v1 0),(gx v1 1)]))).bind λ(e:Nat×List D)=>qB .add (gx v1 2) (Jn 1) λy=>iL [(qW e.2 0),(gx e.2 1),y]) else(iR (0,[(qW v1 0),(gx v1 1)]))) [(D.sl []),(Jn (-1)),(Jn 0)]).bind λd=>(qZ lp (λa=>qS a0 λs=>qC .leq (Jn (List.length (qV a 0))) (Jn (s.length)) λh=>if h then(if List.length (qV a 0)+List.length [(gx a 1)]<=1073741824 then((qZ lp (λv20=>qL a0 (gx v20 2) λi=>(if i then(qB .lss (gx v20 1) (Jn 0) λz=>D.truth z) else(some false)).bind λj=>qT (D.bool j) λk=>if k then((qT (D.bool (!(D.beq (gx v20 2) (gx a 1)))) λl=>(if l then(qX a0 (gx v20 2) λA=>(c 107 [a1,A]).bind λu=>D.truth (D.bool (D.beq u a2))) else(some false)).bind λm=>qT (D.bool m) λn=>if n then(qX a0 (gx a 1) λB=>qX a0 (gx v20 2) λC=>(c 156 [a0,a1,a2,B,C]).bind λv=>qT v λo=>if o then(some (0,[(qW v20 0),(gx v20 2)])) else(some (0,[(qW v20 0),(gx v20 1)]))) else(some (0,[(qW v20 0),(gx v20 1)]))).bind λ(f:Nat×List D)=>qB .add (gx v20 2) (Jn 1) λE=>iL [(qW f.2 0),(gx f.2 1),E]) else(iR (0,[(qW v20 0),(gx v20 1)]))) [(D.sl ((qV a 0)++[(gx a 1)])),(Jn (-1)),(Jn 0)]).bind λb=>qT (D.bool (D.beq (gx b.2 1) (gx d.2 1))) λp=>(if p then(some true) else(qB .lss (gx b.2 1) (Jn 0) λF=>D.truth F)).bind λq=>qT (D.bool q) λr=>if r then(iR (0,[(qW b.2 0)])) else(iL [(qW b.2 0),(gx b.2 1)])) else none) else(iR (0,[(qW a 0)]))) [(qW d.2 0),(gx d.2 1)]).bind λw=>some (qW w.2 0)
def W0:ag 111 (m3 (Lv lp)):=nS 0 Tryz.f189 Vp a
def Lw(lp:Lp)(c:Ca)(a0 a1:D):Option D:=qG a0 [0] λa=>qG a1 [0] λb=>qB .sub a b λd=>qG a0 [1] λe=>qG a1 [1] λf=>qB .sub e f λg=>qG a0 [2] λh=>qG a1 [2] λi=>qB .sub h i λj=>some (D.st [d,g,j])
def W2:ag 112 (m2 (Lw lp)):=aN 0 Tryz.f122 .leaf a
def Lx(lp:Lp)(c:Ca)(a0:D):Option D:=some (D.bool (!(D.beq a0 a0)))
def W3:ag 115 (m1 (Lx lp)):=bA 0 Tryz.f214 .leaf a
def Vq:Ann:=(.tl (.two (.reg [] 8) .leaf))
def Ly(lp:Lp)(c:Ca)(a0 a1:D):Option D:=qT a0 λa=>(if a then(D.truth (D.bool (!(D.beq a1 (D.st (afz (List.replicate 16 (D.int .u32 0)) [])))))) else(some false)).bind λb=>some (D.st [(D.bool false),(D.bool b),a1])
def W4:ag 116 (m2 (Ly lp)):=aN 0 Tryz.f115 Vq a
def Lz(lp:Lp)(c:Ca)(a0 a1:D):Option D:=qG a0 [1] λn=>qG a1 [2] λo=>qB .mul n o λp=>qG a0 [2] λq=>qG a1 [1] λr=>qB .mul q r λs=>qB .sub p s λt=>qG a0 [2] λu=>qG a1 [0] λv=>qB .mul u v λa=>qG a0 [0] λb=>qG a1 [2] λd=>qB .mul b d λe=>qB .sub a e λf=>qG a0 [0] λg=>qG a1 [1] λh=>qB .mul g h λi=>qG a0 [1] λj=>qG a1 [0] λk=>qB .mul j k λl=>qB .sub i l λm=>some (D.st [t,f,m])
def W5:ag 117 (m2 (Lz lp)):=aN 0 Tryz.f210 .leaf a
def Vr:Ann:=(.tl (.two (.tl (.two (.loop ⟨[(7,.di)],[],[5,6]⟩ [(.ret,⟨[(2,.dv Ty.bool)],[],[]⟩),(.exit 0,⟨[],[],[]⟩)] .leaf) .leaf)) .leaf))
def LA(lp:Lp)(c:Ca)(a0:D):Option D:=qS a0 λk=>(qZ lp (λv2=>qC .lss (gx v2 0) (Jn (k.length)) λi=>if i then(qX a0 (gx v2 0) λh=>qG h [0] λl=>qT l λj=>(if j then(some true) else((c 167 [h]).bind λe=>(afB .not e).bind λf=>D.truth f)).bind λb=>qT (D.bool b) λd=>if d then(iR (0,[(D.bool false)])) else(qB .add (gx v2 0) (Jn 1) λg=>iL [g])) else(iR (1,[]))) [(Jn 0)]).bind λa=>if a.1=0 then(some (gx a.2 0)) else(some (D.bool true))
def W6:ag 118 (m1 (LA lp)):=bA 0 Tryz.f163 Vr a
def LB(lp:Lp)(c:Ca) :Option D:=some (D.st [(D.bool true),(D.bool false),(aw bc)])
def W7:ag 119 (m0 (LB lp)):=yH 0 Tryz.f164 .leaf a
def Vs:Ann:=(.tl (.tl (.tl (.two (.tl (.two (.loop ⟨[(2,.sp bc 4098),(3,.sp bc 4099),(4,.sp bc 4100),(6,.sp bc 8198),(7,.dv (Ty.int .u64)),(9,.di)],[(4098,.keep bc 2),(4099,.keep bc 3),(4100,.keep bc 4),(8198,.one bc (.dv bc))],[]⟩ [(.exit 0,⟨[(4,.sp bc 4100),(6,.sp bc 8198),(7,.dv (Ty.int .u64))],[(4100,.keep bc 4),(8198,.one bc (.dv bc))],[]⟩)] (.tl (.tl (.two (.two (.tl (.two (.reg [] 11) .leaf)) .leaf) .leaf)))) .leaf)) .leaf))))
def LC(lp:Lp)(c:Ca)(a0 a1:D):Option D:=(qZ lp (λv1=>qC .lss (gx v1 1) (Jn 16) λi=>if i then(qJ (gx v1 1) 16 a0 λj=>(D.conv .u64 j).bind λk=>qJ (gx v1 1) 16 a1 λl=>(D.conv .u64 l).bind λm=>qB .add k m λd=>qB .add (gx v1 0) d λb=>(D.conv .u32 b).bind λe=>(D.idx (gx v1 1) 16).bind λi13=>(D.set (gx v1 2) [i13] e).bind λf=>qB .shr b (D.int .u64 32) λg=>qB .add (gx v1 1) (Jn 1) λh=>iL [g,h,f]) else(iR (0,[(gx v1 0),(gx v1 2)]))) [(D.int .u64 0),(Jn 0),(aw bc)]).bind λa=>some (D.tup [(gx a.2 1),(D.bool (D.beq (gx a.2 0) (D.int .u64 0)))])
def W8:ag 120 (m2 (LC lp)):=aN 0 Tryz.f171 Vs a
def Vt:Ann:=(.tl (.two (.tl (.two (.loop ⟨[(2,.sp bc 4098),(3,.sp bc 4099),(5,.di)],[(4098,.keep bc 2),(4099,.keep bc 3)],[]⟩ [(.ret,⟨[(4,.di)],[],[]⟩),(.exit 0,⟨[],[],[]⟩)] (.tl (.two (.two (.two (.reg [] 6) (.two (.two (.reg [] 7) .leaf) .leaf)) .leaf) .leaf))) .leaf)) .leaf))
def LD(lp:Lp)(c:Ca)(a0 a1:D):Option D:=(qZ lp (λv1=>qC .geq (gx v1 0) (Jn 0) λg=>if g then(qJ (gx v1 0) 16 a0 λi=>qJ (gx v1 0) 16 a1 λj=>qT (D.bool (!(D.beq i j))) λh=>if h then(qJ (gx v1 0) 16 a0 λd=>qJ (gx v1 0) 16 a1 λe=>(c 168 [d,e]).bind λb=>iR (0,[b])) else(qB .sub (gx v1 0) (Jn 1) λf=>iL [f])) else(iR (1,[]))) [(Jn 15)]).bind λa=>if a.1=0 then(some (gx a.2 0)) else(some (Jn 0))
def W9:ag 121 (m2 (LD lp)):=aN 0 Tryz.f170 Vt a
def Vu:Ann:=(.tl (.tl (.tl (.two (.tl (.two (.loop ⟨[(2,.sp bc 4098),(3,.sp bc 4099),(4,.sp bc 4100),(5,.sp bc 8197),(6,.dv (Ty.int .u64)),(9,.di)],[(4098,.keep bc 2),(4099,.keep bc 3),(4100,.keep bc 4),(8197,.one bc (.dv bc))],[]⟩ [(.exit 0,⟨[(4,.sp bc 4100),(5,.sp bc 8197)],[(4100,.keep bc 4),(8197,.one bc (.dv bc))],[]⟩)] (.tl (.tl (.two (.two (.tl (.two (.reg [] 11) .leaf)) .leaf) .leaf)))) .leaf)) .leaf))))
def LE(lp:Lp)(c:Ca)(a0 a1:D):Option D:=(qZ lp (λv1=>qC .lss (gx v1 1) (Jn 16) λi=>if i then(qJ (gx v1 1) 16 a0 λj=>(D.conv .u64 j).bind λk=>qJ (gx v1 1) 16 a1 λl=>(D.conv .u64 l).bind λm=>qB .sub k m λd=>qB .sub d (gx v1 0) λa=>(D.conv .u32 a).bind λe=>(D.idx (gx v1 1) 16).bind λi13=>(D.set (gx v1 2) [i13] e).bind λf=>qB .shr a (D.int .u64 63) λg=>qB .add (gx v1 1) (Jn 1) λh=>iL [g,h,f]) else(iR (0,[(gx v1 2)]))) [(D.int .u64 0),(Jn 0),(aw bc)]).bind λb=>some (gx b.2 0)
def Xa:ag 122 (m2 (LE lp)):=aN 0 Tryz.f172 Vu a
def LF(lp:Lp)(c:Ca)(a0 a1:D):Option D:=qG a0 [1] λn=>qG a1 [2] λo=>qB .mul n o λp=>qG a0 [2] λq=>qG a1 [1] λr=>qB .mul q r λs=>qB .sub p s λt=>qG a0 [2] λu=>qG a1 [0] λv=>qB .mul u v λa=>qG a0 [0] λb=>qG a1 [2] λd=>qB .mul b d λe=>qB .sub a e λf=>qG a0 [0] λg=>qG a1 [1] λh=>qB .mul g h λi=>qG a0 [1] λj=>qG a1 [0] λk=>qB .mul j k λl=>qB .sub i l λm=>some (D.st [t,f,m])
def Xb:ag 123 (m2 (LF lp)):=aN 0 Tryz.f215 .leaf a
end
end Sy
end
set_option maxHeartbeats 0
noncomputable section
namespace Sy
open Go Go.Proofs
section
variable{lp}(a:au lp)
def Vv:Ann:=(.tl (.tl (.tl (.two (.tl (.two (.loop ⟨[(1,.sp be 4097),(5,.di)],[(4097,.keep be 1)],[]⟩ [(.ret,⟨[(2,.di),(3,.dv Ty.bool)],[],[]⟩),(.exit 0,⟨[(1,.sp be 4097)],[(4097,.keep be 1)],[]⟩)] .leaf) .leaf)) .leaf))))
def Gu(lp:Lp)(c:Ca)(a0:D):Option D:=(c 76 [a0]).bind λr1=>qN r1 λq=>(if q then(some true) else(qG a0 [2,1] λt=>qB .geq t (D.int .u32 1073741824) λu=>D.truth u)).bind λr=>qT (D.bool r) λs=>if s then(some (D.tup [(Jn 0),(D.bool false)])) else((qZ lp (λg=>qC .lss (gx g 0) (Jn 16) λd=>if d then((D.idx (gx g 0) 16).bind λi11=>qG a0 [2,i11] λh=>qT (D.bool (!(D.beq h (D.int .u32 0)))) λe=>if e then(iR (0,[(Jn 0),(D.bool false)])) else(qB .add (gx g 0) (Jn 1) λi=>iL [i])) else(iR (1,[]))) [(Jn 2)]).bind λa=>if a.1=0 then(some (D.tup [(gx a.2 0),(gx a.2 1)])) else(qG a0 [2,1] λj=>(D.conv .i64 j).bind λk=>qB .mul k (Jn 4294967296) λl=>qG a0 [2,0] λm=>(D.conv .i64 m).bind λn=>qB .add l n λb=>qG a0 [1] λo=>qT o λf=>if f then((afB .neg b).bind λp=>some (D.tup [p,(D.bool true)])) else(some (D.tup [b,(D.bool true)]))))
def Xc:ag 124 (m1 (Gu lp)):=bA 0 Tryz.f148 Vv a
def LG(lp:Lp)(c:Ca) :Option D:=some (D.st [(D.bool true),(D.bool false),(aw bc)])
def Xd:ag 125 (m0 (LG lp)):=yH 0 Tryz.f147 .leaf a
def Vw:Ann:=(.tl (.tl (.tl (.two (.tl (.two (.loop ⟨[(5,.ow Ti),(6,.di),(7,.di)],[],[0,1]⟩ [(.exit 0,⟨[(5,.ow Ti)],[],[]⟩)] (.tl (.two (.two (.two (.reg [] 10) (.tl (.cut [(.normal,⟨[(5,.ow Ti),(6,.di),(8,.di)],[],[0,1,7]⟩)] [0,1,7] [] .leaf .leaf))) .leaf) .leaf))) .leaf)) .leaf))))
def LH(lp:Lp)(c:Ca)(a0 a1:D):Option D:=(qZ lp (λv1=>qL a0 (gx v1 2) λi=>if i then(qX a0 (gx v1 2) λk=>(c 141 [a1,(gx v1 2)]).bind λj=>qB .sub k j λl=>qB .sub l (gx v1 1) λb=>(qC .lss b (Jn 0) λd=>if d then(qB .add b (Jn 65536) λg=>some (0,[(qW v1 0),(Jn 1),g])) else(some (0,[(qW v1 0),(Jn 0),b]))).bind λ(a:Nat×List D)=>if List.length (qV a.2 0)+List.length [(gx a.2 2)]<=1073741824 then(qB .add (gx v1 2) (Jn 1) λh=>iL [(D.sl ((qV a.2 0)++[(gx a.2 2)])),(gx a.2 1),h]) else none) else(iR (0,[(qW v1 0)]))) [(D.sl []),(Jn 0),(Jn 0)]).bind λe=>(c 140 [(qW e.2 0)]).bind λf=>some f
def Xe:ag 126 (m2 (LH lp)):=aN 0 Tryz.f155 Vw a
def Vx:Ann:=(.tl (.tl (.two (.two (.loop ⟨[(1,.sp bc 4097),(3,.di)],[(4097,.keep bc 1)],[]⟩ [(.exit 0,⟨[(3,.di)],[],[]⟩)] .leaf) .leaf) .leaf)))
def LI(lp:Lp)(c:Ca)(a0:D):Option D:=(qZ lp (λv1=>qC .gtr (gx v1 0) (Jn 0) λb=>(if b then(qB .sub (gx v1 0) (Jn 1) λf=>qJ f 16 a0 λg=>D.truth (D.bool (D.beq g (D.int .u32 0)))) else(some false)).bind λd=>qT (D.bool d) λe=>if e then(qB .sub (gx v1 0) (Jn 1) λh=>iL [h]) else(iR (0,[(gx v1 0)]))) [(Jn 16)]).bind λa=>some (gx a.2 0)
def Xf:ag 127 (m1 (LI lp)):=bA 0 Tryz.f165 Vx a
def H2(lp:Lp)(c:Ca)(a0:D):Option D:=qG a0 [0] λe=>qN e λa=>(if a then((c 167 [a0]).bind λd=>D.truth d) else(some false)).bind λb=>some (D.bool b)
def Xg:ag 128 (m1 (H2 lp)):=bA 0 Tryz.f109 .leaf a
def LJ(lp:Lp)(c:Ca)(a0:D):Option D:=(c 118 [(D.sl [a0])]).bind λr1=>qN r1 λa=>(if a then(some true) else(qG a0 [2] λf=>D.truth (D.bool (D.beq f (D.st (afz (List.replicate 16 (D.int .u32 0)) [])))))).bind λb=>qT (D.bool b) λd=>if d then(some (Jn 0)) else(qG a0 [1] λg=>qT g λe=>if e then(some (Jn (-1))) else(some (Jn 1)))
def Xh:ag 129 (m1 (LJ lp)):=bA 0 Tryz.f106 .leaf a
def LK(lp:Lp)(c:Ca) :Option D:=(c 119 []).bind λr1=>(c 169 []).bind λa=>some (D.st [r1,a])
def Xi:ag 130 (m0 (LK lp)):=yH 0 Tryz.f107 .leaf a
def Vy:Ann:=(.tl (.tl (.two (.tl (.two (.two (.reg [] 21) (.two (.two (.loop ⟨[(4,.sp be 4100),(5,.dv (Ty.int .u64)),(6,.dv (Ty.int .u64))],[(4100,.keep be 4)],[]⟩ [(.exit 0,⟨[(4,.sp be 4100),(5,.dv (Ty.int .u64))],[(4100,.keep be 4)],[]⟩)] (.tl (.two (.reg [] 5) .leaf))) .leaf) .leaf)) .leaf)) (.two (.two (.reg [] 6) (.tl (.two (.tl (.two (.reg [] 5) .leaf)) .leaf))) .leaf))))
def LL(lp:Lp)(c:Ca)(a0 a1:D):Option D:=(c 118 [(D.sl [a0,a1])]).bind λr1=>qN r1 λI=>if I then((c 119 []).bind λK=>some K) else(qG a0 [2] λN=>(c 127 [N]).bind λL=>qC .leq L (Jn 2) λJ=>(if J then(qG a1 [2] λO=>(c 127 [O]).bind λi=>qB .leq i (Jn 2) λo=>D.truth o) else(some false)).bind λe=>qT (D.bool e) λf=>if f then(qG a0 [2,1] λp=>(D.conv .u64 p).bind λq=>qB .shl q (D.int .u64 32) λr=>qG a0 [2,0] λs=>(D.conv .u64 s).bind λt=>qB .or r t λu=>qG a1 [2,1] λv=>(D.conv .u64 v).bind λw=>qB .shl w (D.int .u64 32) λx=>qG a1 [2,0] λy=>(D.conv .u64 y).bind λz=>qB .or x z λA=>(qZ lp (λv26=>qT (D.bool (!(D.beq (gx v26 1) (D.int .u64 0)))) λg=>if g then(qB .rem (gx v26 0) (gx v26 1) λB=>iL [(gx v26 1),B]) else(iR (0,[(gx v26 0)]))) [u,A]).bind λb=>(D.conv .u32 (gx b.2 0)).bind λC=>qB .shr (gx b.2 0) (D.int .u64 32) λE=>(D.conv .u32 E).bind λF=>(c 116 [(D.bool false),(D.st (afz (List.replicate 16 (D.int .u32 0)) [(0,C),(1,F)]))]).bind λj=>some j) else(qG a0 [2] λG=>qG a1 [2] λa=>qT (D.bool (!(D.beq a (D.st (afz (List.replicate 16 (D.int .u32 0)) []))))) λh=>if h then((c 170 [G,a]).bind λd=>(D.tupAt d 0).bind λM=>(D.tupAt d 1).bind λH=>(c 116 [(D.bool false),a]).bind λk=>(c 116 [(D.bool false),H]).bind λl=>(c 131 [k,l]).bind λm=>some m) else((c 171 [a0]).bind λn=>some n)))
def Xj:ag 131 (m2 (LL lp)):=aN 0 Tryz.f110 Vy a
def Gv(lp:Lp)(c:Ca)(a0 a1:D):Option D:=(c 172 [a0,a1]).bind λr1=>(D.tupAt r1 0).bind λa=>(D.tupAt r1 1).bind λb=>some a
def Xk:ag 132 (m2 (Gv lp)):=aN 0 Tryz.f112 .leaf a
def LN(lp:Lp)(c:Ca) :Option D:=(c 34 [(Jn 1)]).bind λr1=>some r1
def Xl:ag 133 (m0 (LN lp)):=yH 0 Tryz.f91 .leaf a
def Vz:Ann:=(.tl (.tl (.two (.tl (.two (.loop ⟨[(2,.sp cC 4098),(3,.sp cC 4099),(4,.sp cq 4100),(5,.sp cq 8197),(8,.di)],[(4098,.keep cC 2),(4099,.keep cC 3),(4100,.keep cq 4),(8197,.one cq (.dv cq))],[]⟩ [(.exit 0,⟨[(4,.sp cq 4100),(5,.sp cq 8197)],[(4100,.keep cq 4),(8197,.one cq (.dv cq))],[]⟩)] (.tl (.tl (.two (.two (.tl (.reg [] 9)) .leaf) .leaf)))) .leaf)) .leaf)))
def LP(lp:Lp)(c:Ca)(a0 a1:D):Option D:=(c 74 [(Jn 0)]).bind λr1=>(qZ lp (λv2=>qC .lss (gx v2 0) (Jn 3) λe=>if e then(qJ (gx v2 0) 3 a0 λg=>qJ (gx v2 0) 3 a1 λh=>(c 174 [g,h]).bind λf=>(c 173 [(gx v2 1),f]).bind λa=>qB .add (gx v2 0) (Jn 1) λd=>iL [d,a]) else(iR (0,[(gx v2 1)]))) [(Jn 0),r1]).bind λb=>some (gx b.2 0)
def Xm:ag 134 (m2 (LP lp)):=aN 0 Tryz.f130 Vz a
def VA:Ann:=(.tl (.two (.reg [] 10) .leaf))
def LQ(lp:Lp)(c:Ca)(a0:D):Option D:=qG a0 [0] λe=>(c 74 [e]).bind λa=>qG a0 [1] λf=>(c 74 [f]).bind λb=>qG a0 [2] λg=>(c 74 [g]).bind λd=>some (D.st [a,b,d])
def Xn:ag 135 (m1 (LQ lp)):=bA 0 Tryz.f62 VA a
def H3(lp:Lp)(c:Ca)(a0:D):Option D:=qG a0 [0] λp=>(c 128 [p]).bind λm=>qT m λj=>(if j then(qG a0 [1] λq=>(c 128 [q]).bind λn=>D.truth n) else(some false)).bind λk=>qT (D.bool k) λl=>(if l then(qG a0 [1] λr=>(c 129 [r]).bind λo=>qB .gtr o (Jn 0) λg=>D.truth g) else(some false)).bind λa=>qT (D.bool a) λb=>(if b then(qG a0 [0] λh=>qG a0 [1] λi=>(c 131 [h,i]).bind λe=>(c 169 []).bind λf=>D.truth (D.bool (D.beq e f))) else(some false)).bind λd=>some (D.bool d)
def Xo:ag 136 (m1 (H3 lp)):=bA 0 Tryz.f105 .leaf a
def LR(lp:Lp)(c:Ca)(a0 a1:D):Option D:=(c 172 [a0,a1]).bind λr1=>(D.tupAt r1 0).bind λb=>(D.tupAt r1 1).bind λa=>some a
def Xp:ag 137 (m2 (LR lp)):=aN 0 Tryz.f117 .leaf a
def VB:Ann:=(.tl (.two (.reg [] 3) .leaf))
def LT(lp:Lp)(c:Ca)(a0:D):Option D:=(c 169 []).bind λr1=>(c 62 [a0,r1]).bind λa=>some a
def Xq:ag 138 (m1 (LT lp)):=bA 0 Tryz.f119 VB a
def VC:Ann:=(.tl (.tl (.two (.tl (.two (.loop ⟨[(1,.sp be 4097),(3,.dv Ty.bool),(4,.di)],[(4097,.keep be 1)],[]⟩ [(.exit 0,⟨[(1,.sp be 4097),(3,.dv Ty.bool)],[(4097,.keep be 1)],[]⟩)] .leaf) .leaf)) .leaf)))
def H4(lp:Lp)(c:Ca)(a0:D):Option D:=(qZ lp (λv1=>qC .lss (gx v1 1) (Jn 16) λm=>if m then(qT (gx v1 0) λn=>(if n then((D.idx (gx v1 1) 16).bind λi5=>qG a0 [2,i5] λp=>D.truth (D.bool (D.beq p (D.int .u32 0)))) else(some false)).bind λo=>qB .add (gx v1 1) (Jn 1) λq=>iL [(D.bool o),q]) else(iR (0,[(gx v1 0)]))) [(D.bool true),(Jn 0)]).bind λl=>qG a0 [0] λg=>qT g λa=>if a then(qT (gx l.2 0) λb=>(if b then(qG a0 [1] λh=>(afB .not h).bind λi=>D.truth i) else(some false)).bind λd=>some (D.bool d)) else(qN (gx l.2 0) λe=>(if e then(some true) else(qG a0 [1] λj=>(afB .not j).bind λk=>D.truth k)).bind λf=>some (D.bool f))
def Xr:ag 139 (m1 (H4 lp)):=bA 0 Tryz.f142 VC a
def VD:Ann:=(.tl (.tl (.two (.two (.loop ⟨[(3,.di)],[],[0]⟩ [(.exit 0,⟨[(3,.di)],[],[0]⟩)] .leaf) .leaf) .leaf)))
def LU(lp:Lp)(c:Ca)(a0:D):Option D:=qS a0 λi=>(qZ lp (λv2=>qC .gtr (gx v2 0) (Jn 0) λg=>(if g then(qB .sub (gx v2 0) (Jn 1) λj=>qX a0 j λk=>D.truth (D.bool (D.beq k (Jn 0)))) else(some false)).bind λh=>qT (D.bool h) λa=>if a then(qB .sub (gx v2 0) (Jn 1) λf=>iL [f]) else(iR (0,[(gx v2 0)]))) [(Jn (i.length))]).bind λe=>qS a0 λb=>(D.natOf (gx e.2 0)).bind λi14=>(D.cut b 0 i14).bind λd=>some (D.sl d)
def Xs:ag 140 (m1 (LU lp)):=bA 0 Tryz.f143 VD a
def LV(lp:Lp)(c:Ca)(a0 a1:D):Option D:=qL a0 a1 λa=>if a then(qX a0 a1 λb=>some b) else(some (Jn 0))
def Xt:ag 141 (m2 (LV lp)):=aN 0 Tryz.f144 .leaf a
def LW(lp:Lp)(c:Ca)(a0:D):Option D:=(c 76 [a0]).bind λr1=>qN r1 λa=>if a then((c 125 []).bind λb=>some b) else((c 77 [a0]).bind λd=>(c 81 [(D.bool false),d]).bind λe=>some e)
def Xu:ag 142 (m1 (LW lp)):=bA 0 Tryz.f149 .leaf a
def VE:Ann:=let a:LS:=[(6,.same (.mem Ti 8207)),(11,.di),(12,.dv K5)];(.tl (.tl (.tl (.two (.reg [] 11) (.tl (.two (.tl (.two (.loop ⟨[(6,.same (.mem Ti 8207)),(9,.dv K5),(10,.di)],[(8207,.many Ti)],[0,1,7,8]⟩ [(.exit 0,⟨[(6,.same (.mem Ti 8207)),(9,.dv K5)],[(8207,.many Ti)],[]⟩)] (.tl (.two (.two (.tl (.tl (.tl (.two (.two (.loop ⟨a,[(8207,.many Ti)],[0,1,7,8,9,10]⟩ [(.exit 2,⟨a,[(8207,.many Ti)],[0,1,7,8,9,10]⟩)] .leaf) .leaf) .leaf)))) .leaf) .leaf))) .leaf)) (.two (.reg [6] 5) .leaf)))))))
def LX(lp:Lp)(c:Ca)(a0 a1:D):Option D:=qS a0 λI=>(D.natOf (Jn (I.length))).bind λi2=>if i2<=1073741824 then(qS a1 λg=>qB .sub (Jn (g.length)) (Jn 1) λJ=>qX a1 J λL=>qB .mul L (Jn 65536) λM=>qB .sub (Jn (g.length)) (Jn 2) λN=>(c 175 [a1,N]).bind λn=>qB .add M n λw=>qS a0 λm=>qB .sub (Jn (m.length)) (Jn 1) λx=>(qZ lp (λa=>qC .geq (gx a 1) (Jn 0) λk=>if k then(qX a0 (gx a 1) λi=>qS (gx a 0) λf=>if List.length [i]+f.length<=1073741824 then((c 140 [(D.sl ([i]++f))]).bind λd=>(c 175 [d,(Jn (g.length))]).bind λo=>qB .mul o (Jn 4294967296) λy=>qB .sub (Jn (g.length)) (Jn 1) λz=>(c 175 [d,z]).bind λp=>qB .mul p (Jn 65536) λA=>qB .add y A λB=>qB .sub (Jn (g.length)) (Jn 2) λC=>(c 175 [d,C]).bind λq=>qB .add B q λE=>qB .quo E w λF=>(D.min2 (Jn 65535) F).bind λj=>(c 146 [a1,(D.sl [j])]).bind λr=>(qZ lp (λb=>(c 78 [d,(gx b 1)]).bind λs=>qT s λl=>if l then(qB .sub (gx b 0) (Jn 1) λG=>(c 126 [(gx b 1),a1]).bind λt=>iL [G,t,(qW b 2)]) else(iR (0,[(gx b 0),(gx b 1),(qW b 2)]))) [j,r,(qW a 2)]).bind λe=>(D.idx (gx a 1) (List.length (qV e.2 2))).bind λi40=>((qV e.2 2)[i40]?).bind λK=>(c 126 [d,(gx e.2 1)]).bind λu=>qB .sub (gx a 1) (Jn 1) λH=>iL [u,H,(D.sl (List.set (qV e.2 2) i40 (gx e.2 0)))]) else none) else(iR (0,[(gx a 0),(qW a 2)]))) [(D.sl []),x,(D.sl (List.replicate i2 (Jn 0)))]).bind λh=>(c 140 [(qW h.2 1)]).bind λv=>some (D.tup [v,(gx h.2 0)])) else none
def Xv:ag 143 (m2 (LX lp)):=aN 0 Tryz.f150 VE a
def VF:Ann:=(.tl (.tl (.cut [(.normal,⟨[(5,.di)],[],[]⟩)] [] [] .leaf .leaf)))
def H5(lp:Lp)(c:Ca)(a0 a1:D):Option D:=qB .quo a0 a1 λa=>(qB .rem a0 a1 λg=>qT (D.bool (!(D.beq g (Jn 0)))) λb=>(if b then(qB .lss a0 (Jn 0) λh=>qB .lss a1 (Jn 0) λi=>D.truth (D.bool (!(D.beq h i)))) else(some false)).bind λd=>qT (D.bool d) λe=>if e then(qB .sub a (Jn 1) λj=>some (0,[j])) else(some (0,[a]))).bind λ(f:Nat×List D)=>some (gx f.2 0)
def Xw:ag 144 (m2 (H5 lp)):=aN 0 Tryz.f152 VF a
def LY(lp:Lp)(c:Ca)(a0:D):Option D:=qC .lss a0 (Jn 2147483648) λa=>(if a then(qB .gtr a0 (Jn (-2147483648)) λd=>D.truth d) else(some false)).bind λb=>some (D.bool b)
def Xx:ag 145 (m1 (LY lp)):=bA 0 Tryz.f156 .leaf a
def VG:Ann:=let a:LS:=[(5,.same (.mem Ti 8209))];(.tl (.tl (.two (.tl (.two (.loop ⟨[(5,.same (.mem Ti 8209)),(6,.di)],[(8209,.many Ti)],[0,1]⟩ [(.exit 0,⟨a,[(8209,.many Ti)],[]⟩)] (.tl (.two (.two (.two (.tl (.two (.loop ⟨[(5,.same (.mem Ti 8209)),(7,.di)],[(8209,.many Ti)],[0,1,6]⟩ [(.exit 2,⟨a,[(8209,.many Ti)],[0,1,6]⟩)] (.tl (.two (.two (.reg [] 21) .leaf) .leaf))) .leaf)) (.tl (.tl (.two (.loop ⟨[(5,.same (.mem Ti 8209)),(8,.di),(9,.di)],[(8209,.many Ti)],[0,1,6]⟩ [(.exit 4,⟨a,[(8209,.many Ti)],[0,1,6]⟩)] .leaf) .leaf)))) .leaf) .leaf))) .leaf)) (.two (.reg [5] 3) .leaf))))
def LZ(lp:Lp)(c:Ca)(a0 a1:D):Option D:=qS a0 λw=>qS a1 λx=>qB .add (Jn (w.length)) (Jn (x.length)) λz=>qB .add z (Jn 1) λB=>(D.natOf B).bind λi5=>if i5<=1073741824 then((qZ lp (λv6=>qL a0 (gx v6 0) λv=>if v then((qZ lp (λv10=>qL a1 (gx v10 0) λb=>if b then(qB .add (gx v6 0) (gx v10 0) λi=>qB .add (gx v6 0) (gx v10 0) λj=>(D.idx j (List.length (qV v10 1))).bind λi16=>((qV v10 1)[i16]?).bind λk=>qX a0 (gx v6 0) λl=>qX a1 (gx v10 0) λm=>qB .mul l m λn=>qB .add k n λo=>(D.idx i (List.length (qV v10 1))).bind λi26=>((qV v10 1)[i26]?).bind λy=>qB .add (gx v10 0) (Jn 1) λp=>iL [p,(D.sl (List.set (qV v10 1) i26 o))]) else(iR (0,[(qW v10 1)]))) [(Jn 0),(qW v6 1)]).bind λe=>(qZ lp (λv30=>qC .lss (gx v30 1) (Jn (List.length (qV v30 2))) λd=>if d then((D.idx (gx v30 1) (List.length (qV v30 2))).bind λi33=>((qV v30 2)[i33]?).bind λq=>qB .add q (gx v30 0) λa=>qB .rem a (Jn 65536) λr=>(D.idx (gx v30 1) (List.length (qV v30 2))).bind λi37=>((qV v30 2)[i37]?).bind λA=>qB .quo a (Jn 65536) λs=>qB .add (gx v30 1) (Jn 1) λt=>iL [s,t,(D.sl (List.set (qV v30 2) i37 r))]) else(iR (0,[(qW v30 2)]))) [(Jn 0),(Jn 0),(qW e.2 0)]).bind λf=>qB .add (gx v6 0) (Jn 1) λu=>iL [u,(qW f.2 0)]) else(iR (0,[(qW v6 1)]))) [(Jn 0),(D.sl (List.replicate i5 (Jn 0)))]).bind λg=>(c 140 [(qW g.2 0)]).bind λh=>some h) else none
def Xy:ag 146 (m2 (LZ lp)):=aN 0 Tryz.f157 VG a
def VH:Ann:=(.tl (.tl (.two (.tl (.two (.loop ⟨[(2,.sp iP 4098),(3,.sp iP 4099),(4,.sp be 4100),(5,.sp be 8197),(8,.di)],[(4098,.keep iP 2),(4099,.keep iP 3),(4100,.keep be 4),(8197,.one be (.dv be))],[]⟩ [(.exit 0,⟨[(4,.sp be 4100),(5,.sp be 8197)],[(4100,.keep be 4),(8197,.one be (.dv be))],[]⟩)] (.tl (.tl (.two (.two (.tl (.reg [] 9)) .leaf) .leaf)))) .leaf)) .leaf)))
def L4(lp:Lp)(c:Ca)(a0 a1:D):Option D:=(c 54 [(Jn 0)]).bind λr1=>(qZ lp (λv2=>qC .lss (gx v2 0) (Jn 3) λe=>if e then(qJ (gx v2 0) 3 a0 λg=>qJ (gx v2 0) 3 a1 λh=>(c 61 [g,h]).bind λf=>(c 57 [(gx v2 1),f]).bind λa=>qB .add (gx v2 0) (Jn 1) λd=>iL [d,a]) else(iR (0,[(gx v2 1)]))) [(Jn 0),r1]).bind λb=>some (gx b.2 0)
def Xz:ag 147 (m2 (L4 lp)):=aN 0 Tryz.f113 VH a
def VI:Ann:=(.tl (.two (.tl (.two (.loop ⟨[(2,.sp iP 4098),(6,.di)],[(4098,.one iP (.dv iP))],[5]⟩ [(.exit 0,⟨[(2,.sp iP 4098)],[(4098,.one iP (.dv iP))],[]⟩)] .leaf) .leaf)) .leaf))
def L5(lp:Lp)(c:Ca)(a0:D):Option D:=(qZ lp (λv1=>qC .lss (gx v1 0) (Jn 3) λb=>if b then((D.idx (gx v1 0) 3).bind λi4=>(D.fld a0 i4).bind λe=>(c 54 [e]).bind λd=>(D.idx (gx v1 0) 3).bind λi7=>(D.set (gx v1 1) [i7] d).bind λf=>qB .add (gx v1 0) (Jn 1) λg=>iL [g,f]) else(iR (0,[(gx v1 1)]))) [(Jn 0),(D.st [(D.st [(D.bool false),(D.bool false),(aw bc)]),(D.st [(D.bool false),(D.bool false),(aw bc)]),(D.st [(D.bool false),(D.bool false),(aw bc)])])]).bind λa=>some (gx a.2 0)
def XA:ag 148 (m1 (L5 lp)):=bA 0 Tryz.f114 VI a
def VJ:Ann:=(.tl (.two (.two (.loop ⟨[(0,.di),(1,.di)],[],[]⟩ [(.exit 0,⟨[(0,.di)],[],[]⟩)] (.tl (.two (.reg [] 5) .leaf))) .leaf) .leaf))
def H6(lp:Lp)(c:Ca)(a0 a1:D):Option D:=(qZ lp (λv1=>qT (D.bool (!(D.beq (gx v1 1) (Jn 0)))) λb=>if b then(qB .rem (gx v1 0) (gx v1 1) λd=>iL [(gx v1 1),d]) else(iR (0,[(gx v1 0)]))) [a0,a1]).bind λa=>(afB .neg (gx a.2 0)).bind λe=>(D.max2 (gx a.2 0) e).bind λf=>some f
def XB:ag 152 (m2 (H6 lp)):=aN 0 Tryz.f211 VJ a
def VK:Ann:=(.tl (.two (.tl (.two (.loop ⟨[(2,.sp K1 4098),(3,.sp K1 4099),(4,.sp K1 4100),(6,.di)],[(4098,.one K1 (.dv K1)),(4099,.keep K1 3),(4100,.keep K1 4)],[]⟩ [(.exit 0,⟨[(2,.sp K1 4098),(4,.sp K1 4100)],[(4098,.one K1 (.dv K1)),(4100,.keep K1 4)],[]⟩)] (.tl (.tl (.two (.two (.tl (.reg [] 8)) .leaf) .leaf)))) .leaf)) .leaf))
def L6(lp:Lp)(c:Ca)(a0 a1:D):Option D:=(qZ lp (λv1=>qC .lss (gx v1 0) (Jn 3) λe=>if e then(qJ (gx v1 0) 3 (gx v1 1) λf=>qJ (gx v1 0) 3 a1 λg=>qB .add f g λh=>(D.idx (gx v1 0) 3).bind λi9=>(D.set (gx v1 1) [i9] h).bind λb=>qB .add (gx v1 0) (Jn 1) λd=>iL [d,b]) else(iR (0,[(gx v1 1)]))) [(Jn 0),a0]).bind λa=>some (gx a.2 0)
def XC:ag 154 (m2 (L6 lp)):=aN 0 Tryz.f200 VK a
def VL:Ann:=let a:LO:=[(4097,.keep iP 1),(4098,.keep eZ 2),(8195,.one be (.dv be))];(.tl (.tl (.two (.tl (.two (.loop ⟨[(1,.sp iP 4097),(2,.sp eZ 4098),(3,.sp be 8195),(4,.di)],a,[]⟩ [(.exit 0,⟨[(1,.sp iP 4097),(2,.sp eZ 4098),(3,.sp be 8195)],a,[]⟩)] (.tl (.two (.two (.reg [] 5) .leaf) .leaf))) .leaf)) (.tl (.tl (.tl (.two (.tl (.two (.loop ⟨[(1,.sp iP 4097),(2,.sp eZ 4098),(3,.sp be 8195),(5,.sp eZ 28677),(6,.di)],[(4097,.keep iP 1),(4098,.one eZ (.dv eZ)),(8195,.keep be 3),(28677,.one eZ (.dv eZ))],[]⟩ [(.ret,⟨[(2,.sp eZ 4098)],[(4098,.one eZ (.dv eZ))],[]⟩),(.exit 2,⟨[(2,.sp eZ 4098),(5,.sp eZ 28677)],[(4098,.one eZ (.dv eZ)),(28677,.one eZ (.dv eZ))],[]⟩)] (.tl (.two (.two (.two (.reg [] 10) .leaf) .leaf) .leaf))) .leaf)) .leaf)))))))
def L7(lp:Lp)(c:Ca)(a0:D):Option D:=(c 34 [(Jn 0)]).bind λr1=>(qZ lp (λv2=>qC .lss (gx v2 0) (Jn 3) λu=>if u then(qJ (gx v2 0) 3 a0 λw=>(c 85 [(gx v2 1),w]).bind λv=>qB .add (gx v2 0) (Jn 1) λx=>iL [x,v]) else(iR (0,[(gx v2 1)]))) [(Jn 0),r1]).bind λm=>qG (gx m.2 0) [0] λn=>qT n λe=>if e then(some (D.st [(D.st [(Jn 0),(Jn 0),(Jn 0)]),(Jn 30)])) else((c 83 [(gx m.2 0)]).bind λj=>qT (D.bool (D.beq j (Jn 0))) λf=>if f then(some (D.st [(D.st [(Jn 0),(Jn 0),(Jn 0)]),(Jn 31)])) else((qZ lp (λa=>qC .lss (gx a 0) (Jn 3) λg=>if g then(qJ (gx a 0) 3 a0 λo=>(c 87 [o,(gx m.2 0)]).bind λk=>(c 186 [k]).bind λd=>(D.tupAt d 0).bind λp=>(D.tupAt d 1).bind λq=>qN q λh=>if h then(iR (0,[(D.st [(D.st [(Jn 0),(Jn 0),(Jn 0)]),(Jn 30)])])) else((D.idx (gx a 0) 3).bind λi25=>(D.set (gx a 2) [0,i25] p).bind λr=>qB .add (gx a 0) (Jn 1) λs=>iL [s,(gx a 1),r])) else(iR (1,[(gx a 1),(gx a 2)]))) [(Jn 0),(D.st [(D.st [(Jn 0),(Jn 0),(Jn 0)]),(Jn 0)]),(D.st [(D.st [(Jn 0),(Jn 0),(Jn 0)]),(Jn 0)])]).bind λb=>if b.1=0 then(some (gx b.2 0)) else(qG (gx b.2 1) [0] λt=>(c 187 [t]).bind λl=>qN l λi=>if i then(some (D.st [(D.st [(Jn 0),(Jn 0),(Jn 0)]),(Jn 30)])) else(some (gx b.2 1)))))
def XD:ag 155 (m1 (L7 lp)):=bA 0 Tryz.f173 VL a
end
end Sy
end
set_option maxHeartbeats 0
noncomputable section
namespace Sy
open Go Go.Proofs
section
variable{lp}(a:au lp)
def VM:Ann:=let a:LO:=[(4102,.keep K1 6),(4104,.keep K1 8),(8203,.keep K1 11)];(.tl (.tl (.two (.tl (.two (.loop ⟨[(6,.sp K1 4102),(8,.sp K1 4104),(11,.sp K1 8203),(12,.di)],a,[0,2]⟩ [(.ret,⟨[(10,.dv Ty.bool)],[],[]⟩),(.exit 0,⟨[],[],[]⟩)] (.tl (.cut [(.normal,⟨[(6,.sp K1 4102),(8,.sp K1 4104),(11,.sp K1 8203)],a,[0,2,12]⟩),(.ret,⟨[(10,.dv Ty.bool)],[],[]⟩)] [0,2,12] [4102,4104,8203] (.two (.two (.two (.reg [] 7) .leaf) (.two (.reg [] 7) (.two (.reg [] 5) .leaf))) .leaf) .leaf))) .leaf)) .leaf)))
def L8(lp:Lp)(c:Ca)(a0 a1:D)(a2 a3 a4:D):Option D:=(c 112 [a4,a3]).bind λr1=>(qZ lp (λv2=>qL a0 (gx v2 0) λs=>if s then((qX a0 (gx v2 0) λu=>(c 107 [a1,u]).bind λt=>qT (D.bool (!(D.beq t a2))) λf=>if f then(some (0,[])) else(qX a0 (gx v2 0) λp=>(c 112 [p,a3]).bind λa=>(c 123 [r1,a]).bind λl=>(c 188 [a1,l]).bind λb=>qC .lss b (Jn 0) λg=>(if g then(some true) else(qT (D.bool (D.beq b (Jn 0))) λh=>if h then((c 107 [a,r1]).bind λm=>qC .lss m (Jn 0) λi=>if i then(some true) else((c 107 [a,r1]).bind λn=>(c 107 [r1,r1]).bind λo=>qB .gtr n o λq=>D.truth q)) else(some false))).bind λj=>qT (D.bool j) λk=>if k then(some (1,[(D.bool false)])) else(some (0,[])))).bind λ(d:Nat×List D)=>if d.1=0 then(qB .add (gx v2 0) (Jn 1) λr=>iL [r]) else(iR (0,[(gx d.2 0)]))) else(iR (1,[]))) [(Jn 0)]).bind λe=>if e.1=0 then(some (gx e.2 0)) else(some (D.bool true))
def XE:ag 156 (m5 (L8 lp)):=FC 0 Tryz.f217 VM a
def VN:Ann:=let a:LS:=[(0,.dv (Ty.int .u32)),(2,.di)];(.tl (.cut [(.normal,⟨a,[],[]⟩)] [] [] .leaf (.cut [(.normal,⟨a,[],[]⟩)] [] [] .leaf .leaf)))
def L9(lp:Lp)(c:Ca)(a0:D):Option D:=(qC .geq a0 (D.int .u32 65536) λh=>if h then(qB .shr a0 (D.int .u64 16) λj=>some (0,[j,(Jn 16)])) else(some (0,[a0,(Jn 0)]))).bind λ(a:Nat×List D)=>(qC .geq (gx a.2 0) (D.int .u32 256) λi=>if i then(qB .shr (gx a.2 0) (D.int .u64 8) λk=>qB .add (gx a.2 1) (Jn 8) λl=>some (0,[k,l])) else(some (0,[(gx a.2 0),(gx a.2 1)]))).bind λ(g:Nat×List D)=>(D.conv .u8 (gx g.2 0)).bind λb=>(afA (D.str ((rP (IZ Tryz.f219)).getD ByteArray.empty)) b).bind λd=>(D.conv .i64 d).bind λe=>qB .add (gx g.2 1) e λf=>some f
def XF:ag 165 (m1 (L9 lp)):=bA 0 Tryz.f219 VN a
def Md(lp:Lp)(c:Ca)(a0:D):Option D:=qG a0 [2] λe=>qG a0 [0] λj=>qT j λf=>if f then(qT (D.bool (D.beq e (D.st (afz (List.replicate 16 (D.int .u32 0)) [])))) λg=>(if g then(qG a0 [1] λk=>(afB .not k).bind λl=>D.truth l) else(some false)).bind λh=>some (D.bool h)) else(qN (D.bool (D.beq e (D.st (afz (List.replicate 16 (D.int .u32 0)) [])))) λi=>(if i then(some true) else(qG a0 [1] λb=>(afB .not b).bind λd=>D.truth d)).bind λa=>some (D.bool a))
def XG:ag 167 (m1 (Md lp)):=bA 0 Tryz.f166 .leaf a
def Me(lp:Lp)(c:Ca)(a0 a1:D):Option D:=(c 194 [a0]).bind λr1=>(c 194 [a1]).bind λa=>qT r1 λb=>if b then(qT a λd=>if d then(some (Jn 0)) else(some (Jn (-1)))) else(qT a λe=>if e then(some (Jn 1)) else(qC .lss a0 a1 λf=>if f then(some (Jn (-1))) else(qC .gtr a0 a1 λg=>if g then(some (Jn 1)) else(some (Jn 0)))))
def XH:ag 168 (m2 (Me lp)):=aN 0 Tryz.f207 .leaf a
def Mf(lp:Lp)(c:Ca) :Option D:=(c 54 [(Jn 1)]).bind λr1=>some r1
def XI:ag 169 (m0 (Mf lp)):=yH 0 Tryz.f141 .leaf a
def VO:Ann:=let a:LO:=[(4100,.one bc (.dv bc)),(4101,.one bc (.dv bc)),(24587,.one bc (.dv bc)),(32783,.one uL (.dv uL))];(.tl (.two (.reg [] 5) (.two (.tl (.two (.two (.reg [] 2) .leaf) .leaf)) (.tl (.tl (.tl (.tl (.tl (.two (.reg [] 2) (.tl (.two (.tl (.two (.loop ⟨[(4,.sp bc 4100),(5,.sp bc 4101),(11,.sp bc 24587),(15,.sp uL 32783),(16,.di)],[(4100,.one bc (.dv bc)),(4101,.keep bc 5),(24587,.keep bc 11),(32783,.one uL (.dv uL))],[6,10]⟩ [(.exit 0,⟨[(4,.sp bc 4100),(5,.sp bc 4101),(15,.sp uL 32783)],[(4100,.one bc (.dv bc)),(4101,.keep bc 5),(32783,.one uL (.dv uL))],[10]⟩)] (.tl (.two (.two (.two (.regI [] 5 (.two (.tl (.two (.reg [] 19) (.tl (.two (.reg [] 7) (.two (.two (.loop ⟨[(0,.sp uL 32783),(5,.sp bc 65541),(11,.dv (Ty.int .u64)),(12,.dv (Ty.int .u64))],[(4100,.one bc (.dv bc)),(4101,.one bc (.dv bc)),(24587,.one bc (.dv bc)),(32783,.keep uL 0),(65541,.keep bc 5)],[2,3,10]⟩ [(.exit 0,⟨[(11,.dv (Ty.int .u64))],[(4100,.one bc (.dv bc)),(4101,.one bc (.dv bc)),(24587,.one bc (.dv bc)),(32783,.keep uL 0)],[]⟩)] .leaf) .leaf) .leaf))))) .leaf)) (.cut [(.normal,⟨[(4,.sp bc 4100),(5,.sp bc 4101),(11,.sp bc 24587),(15,.sp uL 32783),(17,.dv (Ty.int .u64))],[(4100,.keep bc 4),(4101,.keep bc 5),(24587,.keep bc 11),(32783,.one uL (.dv uL))],[6,10,16]⟩)] [6,10,16] [4100,4101,24587] (.two (.regI [] 5 (.two (.tl (.tl (.two (.tl (.two (.loop ⟨[(0,.sp uL 32783),(6,.sp bc 102406),(11,.dv (Ty.int .u64)),(12,.dv (Ty.int .u64)),(17,.di)],[(4100,.one bc (.dv bc)),(4101,.one bc (.dv bc)),(24587,.one bc (.dv bc)),(32783,.one uL (.dv uL)),(102406,.keep bc 6)],[2,3,4,16]⟩ [(.exit 0,⟨[(0,.sp uL 32783),(11,.dv (Ty.int .u64)),(12,.dv (Ty.int .u64))],a,[2,3]⟩)] .leaf) .leaf)) .leaf))) .leaf)) (.two (.tl (.regI [] 4 (.two (.tl (.tl (.two (.tl (.two (.loop ⟨[(0,.sp uL 32783),(5,.sp bc 147461),(8,.dv (Ty.int .u64)),(11,.di)],[(4100,.one bc (.dv bc)),(4101,.one bc (.dv bc)),(24587,.one bc (.dv bc)),(32783,.one uL (.dv uL)),(147461,.keep bc 5)],[2,3,10]⟩ [(.exit 0,⟨[(0,.sp uL 32783),(8,.dv (Ty.int .u64))],a,[2,3]⟩)] (.tl (.tl (.two (.two (.tl (.two (.reg [] 15) .leaf)) .leaf) .leaf)))) .leaf)) (.reg [] 12)))) .leaf))) .leaf)) .leaf)) .leaf) .leaf))) .leaf)) (.two (.reg [] 6) .leaf))))))))))))
def Mg(lp:Lp)(c:Ca)(a0 a1:D):Option D:=(c 127 [a1]).bind λr1=>(c 127 [a0]).bind λr2=>(c 121 [a0,a1]).bind λr3=>qC .lss r3 (Jn 0) λb5=>if b5 then(some (D.tup [(D.st (afz (List.replicate 16 (D.int .u32 0)) [])),a0])) else(qT (D.bool (D.beq r1 (Jn 1))) λb6=>if b6 then(qG a1 [0] λx7=>(c 195 [a0,x7]).bind λr8=>(D.tupAt r8 0).bind λx9=>(D.tupAt r8 1).bind λad=>some (D.tup [x9,(D.st (afz (List.replicate 16 (D.int .u32 0)) [(0,ad)]))])) else(qB .sub r1 (Jn 1) λai=>qJ ai 16 a1 λaj=>(c 196 [aj]).bind λl=>(c 197 [a1,l]).bind λs=>(D.tupAt s 0).bind λm=>(D.tupAt s 1).bind λc1=>(c 197 [a0,l]).bind λt=>(D.tupAt t 0).bind λak=>(D.tupAt t 1).bind λal=>(D.stl (aw uL)).bind λq=>(D.stl ak).bind λZ=>(D.set (D.st (List.take 0 q++(List.take 16 (List.drop 0 Z)++List.drop 16 q))) [16] al).bind λan=>qB .sub r2 r1 λax=>(qZ lp (λv25=>qC .geq (gx v25 0) (Jn 0) λT=>if T then(qB .add (gx v25 0) r1 λaB=>qJ aB 17 (gx v25 2) λaI=>(D.conv .u64 aI).bind λa2=>qB .shl a2 (D.int .u64 32) λa3=>qB .add (gx v25 0) r1 λa4=>qB .sub a4 (Jn 1) λa5=>qJ a5 17 (gx v25 2) λa6=>(D.conv .u64 a6).bind λa9=>qB .or a3 a9 λP=>qB .sub r1 (Jn 1) λbi=>qJ bi 16 m λbj=>(D.conv .u64 bj).bind λn=>qB .quo P n λbk=>qB .rem P n λbl=>(qZ lp (λv45=>qC .lss (gx v45 1) (D.int .u64 4294967296) λU=>(if U then(qC .geq (gx v45 0) (D.int .u64 4294967296) λV=>if V then(some true) else(qB .sub r1 (Jn 2) λbm=>qJ bm 16 m λbn=>(D.conv .u64 bn).bind λbp=>qB .mul (gx v45 0) bp λbs=>qB .shl (gx v45 1) (D.int .u64 32) λbt=>qB .add (gx v25 0) r1 λbv=>qB .sub bv (Jn 2) λbx=>qJ bx 17 (gx v25 2) λbL=>(D.conv .u64 bL).bind λbM=>qB .or bt bM λbN=>qB .gtr bs bN λbP=>D.truth bP)) else(some false)).bind λW=>qT (D.bool W) λX=>if X then(qB .sub (gx v45 0) (D.int .u64 1) λbT=>qB .add (gx v45 1) n λbW=>iL [bT,bW,(gx v45 2),(gx v45 3),(gx v45 4)]) else(iR (0,[(gx v45 0),(gx v45 2),(gx v45 3),(gx v45 4)]))) [bk,bl,(gx v25 1),(aw bc),m]).bind λb=>((qZ lp (λa=>qC .lss (gx a 2) r1 λY=>if Y then(qJ (gx a 2) 16 (gx b.2 3) λb0=>(D.conv .u64 b0).bind λb1=>qB .mul (gx b.2 0) b1 λb2=>qB .add (gx a 0) b2 λQ=>qB .add (gx v25 0) (gx a 2) λb3=>qJ b3 17 (gx a 6) λb4=>(D.conv .u64 b4).bind λb7=>(D.conv .u32 Q).bind λb8=>(D.conv .u64 b8).bind λb9=>qB .sub b7 b9 λca=>qB .sub ca (gx a 1) λR=>qB .add (gx v25 0) (gx a 2) λcb=>(D.conv .u32 R).bind λcc=>(D.idx cb 17).bind λi86=>(D.set (gx a 6) [i86] cc).bind λcf=>qB .shr R (D.int .u64 63) λch=>qB .shr Q (D.int .u64 32) λcp=>qB .add (gx a 2) (Jn 1) λcs=>iL [cp,ch,cs,(gx a 3),(gx a 4),(gx a 5),cf]) else(iR (0,[(gx a 0),(gx a 1),(gx a 3),(gx a 4),(gx a 5),(gx a 6)]))) [(D.int .u64 0),(D.int .u64 0),(Jn 0),(gx b.2 1),(gx b.2 2),(gx b.2 3),(gx v25 2)]).bind λd=>qB .add (gx v25 0) r1 λcv=>qJ cv 17 (gx d.2 5) λcx=>(D.conv .u64 cx).bind λcy=>qB .sub cy (gx d.2 0) λcB=>qB .sub cB (gx d.2 1) λS=>qB .add (gx v25 0) r1 λcI=>(D.conv .u32 S).bind λc0=>(D.idx cI 17).bind λi100=>(D.set (gx d.2 5) [i100] c0).bind λi=>qB .shr S (D.int .u64 63) λu=>qT (D.bool (D.beq u (D.int .u64 1))) λo=>if o then(qB .sub (gx b.2 0) (D.int .u64 1) λv=>(qZ lp (λv105=>qC .lss (gx v105 1) r1 λp=>if p then(qB .add (gx v25 0) (gx v105 1) λw=>qJ w 17 (gx v105 5) λx=>(D.conv .u64 x).bind λy=>qJ (gx v105 1) 16 (gx d.2 4) λz=>(D.conv .u64 z).bind λA=>qB .add y A λB=>qB .add (gx v105 0) B λj=>qB .add (gx v25 0) (gx v105 1) λC=>(D.conv .u32 j).bind λE=>(D.idx C 17).bind λi119=>(D.set (gx v105 5) [i119] E).bind λF=>qB .shr j (D.int .u64 32) λG=>qB .add (gx v105 1) (Jn 1) λH=>iL [G,H,(gx v105 2),(gx v105 3),(gx v105 4),F]) else(iR (0,[(gx v105 0),(gx v105 2),(gx v105 3),(gx v105 4),(gx v105 5)]))) [(D.int .u64 0),(Jn 0),(gx d.2 2),(gx d.2 3),(gx d.2 4),i]).bind λe=>qB .add (gx v25 0) r1 λk=>qJ k 17 (gx e.2 4) λI=>(D.conv .u32 (gx e.2 0)).bind λJ=>qB .add I J λK=>(D.idx k 17).bind λi129=>(D.set (gx e.2 4) [i129] K).bind λL=>some (0,[v,L])) else(some (0,[(gx b.2 0),i]))).bind λ(g:Nat×List D)=>(D.conv .u32 (gx g.2 0)).bind λM=>(D.idx (gx v25 0) 16).bind λi133=>(D.set (gx b.2 1) [i133] M).bind λN=>qB .sub (gx v25 0) (Jn 1) λO=>iL [O,N,(gx g.2 1)]) else(iR (0,[(gx v25 1),(gx v25 2)]))) [ax,(aw bc),an]).bind λh=>(match (gx h.2 1) with
| D.st f=>(if decide (0+16<=f.length) then((c 201 [(D.st (List.take 16 (List.drop 0 f))),l]).bind λr=> some (D.tup [(gx h.2 0),r])) else none)
| _=>none)))
def XJ:ag 170 (m2 (Mg lp)):=aN 0 Tryz.f167 VO a
def Mh(lp:Lp)(c:Ca)(a0:D):Option D:=(c 118 [(D.sl [a0])]).bind λr1=>qN r1 λa=>if a then((c 119 []).bind λb=>some b) else(qG a0 [2] λe=>(c 116 [(D.bool false),e]).bind λd=>some d)
def XK:ag 171 (m1 (Mh lp)):=bA 0 Tryz.f168 .leaf a
def VP:Ann:=(.tl (.tl (.cut [(.ret,⟨[(4,.sp be 4100),(5,.sp be 4101)],[(4100,.one be (.dv be)),(4101,.one be (.dv be))],[]⟩),(.normal,⟨[(2,.sp be 4098),(3,.sp be 4099),(4,.sp be 4100),(5,.sp be 4101)],[(4098,.keep be 2),(4099,.keep be 3),(4100,.one be (.dv be)),(4101,.one be (.dv be))],[]⟩)] [] [4098,4099] (.tl (.tl (.two (.tl (.tl (.two (.two (.reg [] 7) (.cut [(.normal,⟨[(4,.sp be 4100),(5,.sp be 4101),(10,.di),(11,.di)],[(4100,.keep be 4),(4101,.keep be 5)],[]⟩)] [] [4100,4101] .leaf .leaf)) .leaf))) .leaf))) (.tl (.tl (.cut [(.normal,⟨[(3,.sp be 4099),(4,.sp be 4100),(5,.sp be 4101),(13,.sp bc 16397),(14,.sp be 20494)],[(4099,.keep be 3),(4100,.keep be 4),(4101,.keep be 5),(16397,.one bc (.dv bc)),(20494,.one be (.dv be))],[]⟩)] [] [4099,4100,4101] (.tl (.two (.reg [] 7) .leaf)) (.two (.reg [] 5) .leaf)))))))
def Gw(lp:Lp)(c:Ca)(a0 a1:D):Option D:=(c 118 [(D.sl [a0,a1])]).bind λr1=>qN r1 λV=>(if V then(some true) else((c 129 [a1]).bind λY=>D.truth (D.bool (D.beq Y (Jn 0))))).bind λW=>qT (D.bool W) λX=>if X then((c 119 []).bind λZ=>(c 119 []).bind λr8=>some (D.tup [Z,r8])) else(((c 202 [a0]).bind λU=>(D.tupAt U 0).bind λe=>(D.tupAt U 1).bind λF=>qT F λm=>(if m then(D.truth (D.bool (!(D.beq e (Jn (-9223372036854775808)))))) else(some false)).bind λn=>qT (D.bool n) λo=>if o then((c 202 [a1]).bind λg=>(D.tupAt g 0).bind λa=>(D.tupAt g 1).bind λG=>qT G λp=>(if p then(D.truth (D.bool (!(D.beq a (Jn (-9223372036854775808)))))) else(some false)).bind λq=>qT (D.bool q) λr=>if r then(qB .quo e a λl=>qB .rem e a λb=>(qT (D.bool (!(D.beq b (Jn 0)))) λs=>(if s then(qB .lss b (Jn 0) λH=>qB .lss a (Jn 0) λI=>D.truth (D.bool (!(D.beq H I)))) else(some false)).bind λt=>qT (D.bool t) λu=>if u then(qB .sub l (Jn 1) λJ=>qB .add b a λK=>some (0,[J,K])) else(some (0,[l,b]))).bind λ(h:Nat×List D)=>(c 54 [(gx h.2 0)]).bind λy=>(c 54 [(gx h.2 1)]).bind λz=>some (0,[y,z])) else(some (1,[(D.st [(D.bool false),(D.bool false),(aw bc)]),(D.st [(D.bool false),(D.bool false),(aw bc)])]))) else(some (1,[(D.st [(D.bool false),(D.bool false),(aw bc)]),(D.st [(D.bool false),(D.bool false),(aw bc)])]))).bind λ(d:Nat×List D)=>if d.1=0 then(some (D.tup [(gx d.2 0),(gx d.2 1)])) else(qG a0 [2] λL=>qG a1 [2] λM=>(c 170 [L,M]).bind λi=>(D.tupAt i 0).bind λN=>(D.tupAt i 1).bind λf=>qG a0 [1] λO=>qG a1 [1] λP=>(c 116 [(D.bool (!(D.beq O P))),N]).bind λj=>(qT (D.bool (!(D.beq f (D.st (afz (List.replicate 16 (D.int .u32 0)) []))))) λv=>(if v then(qG a0 [1] λQ=>qG a1 [1] λR=>D.truth (D.bool (!(D.beq Q R)))) else(some false)).bind λw=>qT (D.bool w) λx=>if x then((c 54 [(Jn 1)]).bind λA=>(c 203 [j,A]).bind λB=>qG a1 [2] λS=>(c 122 [S,f]).bind λC=>some (0,[C,B])) else(some (0,[f,j]))).bind λ(k:Nat×List D)=>qG a1 [1] λT=>(c 116 [T,(gx k.2 0)]).bind λE=>some (D.tup [(gx k.2 1),E])))
def XL:ag 172 (m2 (Gw lp)):=aN 0 Tryz.f169 VP a
def VQ:Ann:=(.tl (.tl (.tl (.two (.reg [] 10) (.two (.reg [] 14) .leaf)))))
def H7(lp:Lp)(c:Ca)(a0 a1:D):Option D:=(c 136 [a0]).bind λr1=>qN r1 λp=>(if p then(some true) else((c 136 [a1]).bind λs=>(afB .not s).bind λu=>D.truth u)).bind λq=>qT (D.bool q) λr=>if r then((c 130 []).bind λt=>some t) else(qG a0 [1] λv=>qG a1 [1] λj=>(c 131 [v,j]).bind λa=>qG a0 [1] λk=>(c 132 [k,a]).bind λb=>qG a1 [1] λl=>(c 132 [l,a]).bind λd=>qG a0 [0] λm=>(c 61 [m,d]).bind λe=>qG a1 [0] λn=>(c 61 [n,b]).bind λf=>(c 57 [e,f]).bind λg=>qG a1 [1] λo=>(c 61 [b,o]).bind λh=>(c 62 [g,h]).bind λi=>some i)
def XM:ag 173 (m2 (H7 lp)):=aN 0 Tryz.f47 VQ a
def VR:Ann:=(.tl (.tl (.two (.reg [] 12) (.two (.reg [] 12) .leaf))))
def H8(lp:Lp)(c:Ca)(a0 a1:D):Option D:=(c 136 [a0]).bind λr1=>qN r1 λs=>(if s then(some true) else((c 136 [a1]).bind λv=>(afB .not v).bind λx=>D.truth x)).bind λt=>qT (D.bool t) λu=>if u then((c 130 []).bind λw=>some w) else(qG a0 [0] λy=>qG a1 [1] λj=>(c 62 [y,j]).bind λa=>qG a1 [0] λk=>qG a0 [1] λl=>(c 62 [k,l]).bind λb=>qG a [0] λm=>qG b [0] λn=>(c 61 [m,n]).bind λd=>qG a [1] λo=>qG b [1] λp=>(c 61 [o,p]).bind λe=>qG d [0] λq=>qT q λf=>(if f then(some true) else(qG e [0] λr=>D.truth r)).bind λg=>qT (D.bool g) λh=>if h then((c 130 []).bind λi=>some i) else(some (D.st [d,e])))
def XN:ag 174 (m2 (H8 lp)):=aN 0 Tryz.f42 VR a
def Mi(lp:Lp)(c:Ca)(a0 a1:D):Option D:=qC .lss a1 (Jn 0) λa=>if a then(some (Jn 0)) else((c 141 [a0,a1]).bind λb=>some b)
def XO:ag 175 (m2 (Mi lp)):=aN 0 Tryz.f198 .leaf a
def VS:Ann:=(.tl (.tl (.tl (.tl (.tl (.tl (.cut [(.normal,⟨[(6,.di)],[],[]⟩)] [] [] .leaf .leaf)))))))
def Mj(lp:Lp)(c:Ca)(a0:D):Option D:=(c 76 [a0]).bind λr1=>qN r1 λp=>if p then(some (D.tup [(Jn 0),(D.bool false)])) else((c 34 [(Jn (-9223372036854775808))]).bind λr=>(c 34 [(Jn 9223372036854775807)]).bind λs=>(c 32 [a0,r]).bind λt=>qC .lss t (Jn 0) λq=>(if q then(some true) else((c 32 [a0,s]).bind λu=>qB .gtr u (Jn 0) λg=>D.truth g)).bind λb=>qT (D.bool b) λd=>if d then(some (D.tup [(Jn 0),(D.bool false)])) else(qG a0 [2,1] λh=>(D.conv .u64 h).bind λi=>qB .mul i (D.int .u64 4294967296) λj=>qG a0 [2,0] λk=>(D.conv .u64 k).bind λl=>qB .add j l λm=>(D.conv .i64 m).bind λa=>(qG a0 [1] λn=>qT n λe=>if e then((afB .neg a).bind λo=>some (0,[o])) else(some (0,[a]))).bind λ(f:Nat×List D)=>some (D.tup [(gx f.2 0),(D.bool true)])))
def XP:ag 186 (m1 (Mj lp)):=bA 0 Tryz.f208 VS a
def VU:Ann:=(.tl (.two (.tl (.two (.loop ⟨[(1,.sp K1 4097),(3,.di)],[(4097,.keep K1 1)],[]⟩ [(.ret,⟨[(2,.dv Ty.bool)],[],[]⟩),(.exit 0,⟨[],[],[]⟩)] .leaf) .leaf)) .leaf))
def H9(lp:Lp)(c:Ca)(a0:D):Option D:=(qZ lp (λv1=>qC .lss (gx v1 0) (Jn 3) λg=>if g then(qJ (gx v1 0) 3 a0 λi=>qC .geq i (Jn 2305843009213693952) λh=>(if h then(some true) else(qJ (gx v1 0) 3 a0 λj=>qB .leq j (Jn (-2305843009213693952)) λe=>D.truth e)).bind λb=>qT (D.bool b) λd=>if d then(iR (0,[(D.bool false)])) else(qB .add (gx v1 0) (Jn 1) λf=>iL [f])) else(iR (1,[]))) [(Jn 0)]).bind λa=>if a.1=0 then(some (gx a.2 0)) else(some (D.bool true))
def XQ:ag 187 (m1 (H9 lp)):=bA 0 Tryz.f14 VU a
def VV:Ann:=(.tl (.two (.tl (.two (.loop ⟨[(2,.sp K1 4098),(3,.sp K1 4099),(5,.di)],[(4098,.keep K1 2),(4099,.keep K1 3)],[]⟩ [(.ret,⟨[(4,.di)],[],[]⟩),(.exit 0,⟨[],[],[]⟩)] (.tl (.two (.two (.tl (.two (.two (.reg [] 9) .leaf) .leaf)) .leaf) .leaf))) .leaf)) .leaf))
def Mk(lp:Lp)(c:Ca)(a0 a1:D):Option D:=(qZ lp (λv1=>qC .lss (gx v1 0) (Jn 3) λg=>if g then(qJ (gx v1 0) 3 a0 λj=>qT (D.bool (!(D.beq j (Jn 0)))) λh=>if h then(qJ (gx v1 0) 3 a0 λk=>(c 215 [k]).bind λi=>qJ (gx v1 0) 3 a1 λd=>(c 215 [d]).bind λb=>qB .mul i b λe=>iR (0,[e])) else(qB .add (gx v1 0) (Jn 1) λf=>iL [f])) else(iR (1,[]))) [(Jn 0)]).bind λa=>if a.1=0 then(some (gx a.2 0)) else(some (Jn 0))
def XR:ag 188 (m2 (Mk lp)):=aN 0 Tryz.f232 VV a
def Ml(lp:Lp)(c:Ca)(a0:D):Option D:=some (D.bool (!(D.beq a0 a0)))
def XS:ag 194 (m1 (Ml lp)):=bA 0 Tryz.f221 .leaf a
def VW:Ann:=(.tl (.tl (.two (.tl (.two (.loop ⟨[(2,.sp bc 4098),(4,.sp bc 4100),(6,.dv (Ty.int .u64)),(7,.di)],[(4098,.keep bc 2),(4100,.one bc (.dv bc))],[1]⟩ [(.exit 0,⟨[(4,.sp bc 4100),(6,.dv (Ty.int .u64))],[(4100,.one bc (.dv bc))],[]⟩)] .leaf) .leaf)) .leaf)))
def Mm(lp:Lp)(c:Ca)(a0 a1:D):Option D:=(qZ lp (λv1=>qC .geq (gx v1 1) (Jn 0) λk=>if k then(qB .shl (gx v1 0) (D.int .u64 32) λl=>qJ (gx v1 1) 16 a0 λm=>(D.conv .u64 m).bind λn=>qB .or l n λj=>(D.conv .u64 a1).bind λo=>qB .quo j o λb=>(D.conv .u32 b).bind λd=>(D.idx (gx v1 1) 16).bind λuY=>(D.set (gx v1 2) [uY] d).bind λe=>(D.conv .u64 a1).bind λf=>qB .rem j f λg=>qB .sub (gx v1 1) (Jn 1) λh=>iL [g,h,e]) else(iR (0,[(gx v1 0),(gx v1 2)]))) [(D.int .u64 0),(Jn 15),(aw bc)]).bind λa=>(D.conv .u32 (gx a.2 0)).bind λi=>some (D.tup [(gx a.2 1),i])
def XT:ag 195 (m2 (Mm lp)):=aN 0 Tryz.f202 VW a
def Mn(lp:Lp)(c:Ca)(a0:D):Option D:=(c 165 [a0]).bind λr1=>qB .sub (Jn 32) r1 λa=>some a
def XU:ag 196 (m1 (Mn lp)):=bA 0 Tryz.f203 .leaf a
def VX:Ann:=(.tl (.tl (.tl (.two (.tl (.two (.loop ⟨[(2,.sp bc 4098),(4,.sp bc 4100),(6,.sp bc 8198),(7,.dv (Ty.int .u64)),(9,.di)],[(4098,.keep bc 2),(4100,.keep bc 4),(8198,.one bc (.dv bc))],[1]⟩ [(.exit 0,⟨[(4,.sp bc 4100),(6,.sp bc 8198),(7,.dv (Ty.int .u64))],[(4100,.keep bc 4),(8198,.one bc (.dv bc))],[]⟩)] .leaf) .leaf)) .leaf))))
def Mo(lp:Lp)(c:Ca)(a0 a1:D):Option D:=(qZ lp (λv1=>qC .lss (gx v1 1) (Jn 16) λh=>if h then(qJ (gx v1 1) 16 a0 λi=>(D.conv .u64 i).bind λj=>qB .shl j a1 λk=>qB .or (gx v1 0) k λg=>(D.conv .u32 g).bind λl=>(D.idx (gx v1 1) 16).bind λi10=>(D.set (gx v1 2) [i10] l).bind λb=>qB .shr g (D.int .u64 32) λd=>qB .add (gx v1 1) (Jn 1) λe=>iL [d,e,b]) else(iR (0,[(gx v1 0),(gx v1 2)]))) [(D.int .u64 0),(Jn 0),(aw bc)]).bind λa=>(D.conv .u32 (gx a.2 0)).bind λf=>some (D.tup [(gx a.2 1),f])
def XV:ag 197 (m2 (Mo lp)):=aN 0 Tryz.f194 VX a
def VY:Ann:=(.tl (.tl (.two (.tl (.two (.loop ⟨[(2,.sp bc 4098),(4,.sp bc 4100),(5,.sp bc 8197),(8,.di)],[(4098,.keep bc 2),(4100,.keep bc 4),(8197,.one bc (.dv bc))],[1]⟩ [(.exit 0,⟨[(4,.sp bc 4100),(5,.sp bc 8197)],[(4100,.keep bc 4),(8197,.one bc (.dv bc))],[]⟩)] (.tl (.tl (.two (.two (.tl (.tl (.cut [(.normal,⟨[(2,.sp bc 4098),(4,.sp bc 4100),(5,.sp bc 8197),(7,.dv (Ty.int .u64))],[(4098,.keep bc 2),(4100,.keep bc 4),(8197,.keep bc 5)],[1,6,8]⟩)] [1,6,8] [4098,4100,8197] .leaf .leaf))) .leaf) .leaf)))) .leaf)) .leaf)))
def Mp(lp:Lp)(c:Ca)(a0 a1:D):Option D:=(qZ lp (λv1=>qC .lss (gx v1 0) (Jn 16) λm=>if m then((qB .add (gx v1 0) (Jn 1) λo=>qC .lss o (Jn 16) λn=>if n then(qB .add (gx v1 0) (Jn 1) λp=>qJ p 16 a0 λq=>(D.conv .u64 q).bind λd=>some (0,[d])) else(some (0,[(D.int .u64 0)]))).bind λ(a:Nat×List D)=>qB .shl (gx a.2 0) (D.int .u64 32) λe=>qJ (gx v1 0) 16 a0 λf=>(D.conv .u64 f).bind λg=>qB .or e g λh=>qB .shr h a1 λi=>(D.conv .u32 i).bind λj=>(D.idx (gx v1 0) 16).bind λi19=>(D.set (gx v1 1) [i19] j).bind λk=>qB .add (gx v1 0) (Jn 1) λl=>iL [l,k]) else(iR (0,[(gx v1 1)]))) [(Jn 0),(aw bc)]).bind λb=>some (gx b.2 0)
def XW:ag 201 (m2 (Mp lp)):=aN 0 Tryz.f195 VY a
end
end Sy
end
end
end Go.Proofs.YtphlmegkommlnaaGreatDoor
