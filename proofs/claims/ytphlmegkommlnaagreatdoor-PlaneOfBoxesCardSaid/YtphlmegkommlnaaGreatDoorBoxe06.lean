/- Part 6 of the proof that PlaneOfBoxes answers true at every input -/
import Derived.Test.YtphlmegkommlnaaGreatDoorBoxe05
import Derived.KernelRfl
set_option linter.unusedVariables false
set_option linter.unusedSimpArgs false
set_option linter.unnecessarySimpa false
set_option linter.defProp false
set_option maxRecDepth 20000
namespace Go.Proofs.YtphlmegkommlnaaGreatDoor
noncomputable section
namespace Sy
open Go
def vh(P:Program):Bool:=((List.range Ks).all λt=>match Sp t with|some ty=>bJ P ty t&&decide (ty.high<=1000)&&am ty|none=>true)&&Zn.all (MT P)
def JT(P:Program)(f:Nat)(g:List Ty×Ty):Bool:=
 bq g.1 && (am g.2 || match g.2 with | .tup ts => bq ts | _ => false) && match P.funcs[f]? with | some fn => !(fn.name == "runtime.NumGoroutine") && fn.body.isSome | none => false
def Dj(P:Program):Bool:=(List.range Ks).all λt=>match I4 t with|some g=>bV g.1&&decide (g.1.high<=1000)&&(match P.underlying t with|some (.map K V)=>bJ P g.1 K&&bJ P g.2 V|_=>false)|none=>true
def DM(P:Program):Bool:=(List.range GS).all λf=>match qx f with|some g=>JT P f g|none=>true
def NT{t:Nat}{ty:Ty}(h:Sp t=some ty):t<Ks:=by
 unfold Sp at h;rcases zxa t Ks with k|k
 ·exact k
 ·have:Nat.blt t Ks=false:=zoc.2 λa=>z3a (Nat.blt_eq ▸ a) (zCc.2 k);rw[this] at h;cases h
def I5{t:Nat}{g:Ty×Ty}(h:I4 t=some g):t<Ks:=by
 unfold I4 at h;rcases zxa t Ks with k|k
 ·exact k
 ·have:Nat.blt t Ks=false:=zoc.2 λa=>z3a (Nat.blt_eq ▸ a) (zCc.2 k);rw[this] at h;cases h
def Cq{t:Nat}{ty:List Ty×Ty}(h:qx t=some ty):t<GS:=by
 unfold qx NH at h;rcases zxa t GS with k|k
 ·exact k
 ·have:Nat.blt t GS=false:=zoc.2 λa=>z3a (Nat.blt_eq ▸ a) (zCc.2 k);rw[this] at h;cases h
def iM(P:Program)(call:Nat->List D->Option D):Prop:=∀ f a b xs y,qx f=some (a,b)->call (uB f) xs=some y->fG a xs->Ku P (qm f) (j8 f) a b f xs y
abbrev Lp:Type 1:={α β:Type}->(α->Option (Sum α β))->α->Option β
def av(lp:Lp):Prop:=∀ (α β:Type) (body:α->Option (Sum α β)) (x:α) (y:β),lp body x=some y->∃ n,p9 body n x=some y
def xR(N:Nat):av (λbody=>p9 body N):=λ_ _ _ _ _ h=>⟨N,h⟩
def vp:av (λbody=>mX body):=λ_ _ _ _ _ h=>oY h
def IP(pv:Bool)(a:Nat->Option (Func×Ty))(lp:Lp)(call:Nat->List D->Option D):Nat->Inl
 | 0=>⟨pv,λ_=>none,λ_ _ _ _ _=>none⟩
 | n+1=>⟨pv,λf=>match a f with
  | some p=>some (PL (c9 lp call (IP pv a lp call n)) p.1 p.2)
  | none=>none,λc an R s k=>MQ (c9 lp call (IP pv a lp call n)) c an R s k⟩
def PC{P:Program}(h:vh P=true){t:Nat}(ht:Xu t=true):MT P t=true:=by simp only[vh,zaa] at h;exact zCa.1 h.2 t (by simpa [Xu] using ht)
section
variable{P:Program}
def uT(h1:vh P=true)(h2:DM P=true)(h4:Dj P=true)(h3:P.follows .mixedOrders=true){lp:Lp}(hlp:av lp){call:Nat->List D->Option D}(hc:iM P call)
  {inl : Inl} (hcod : Hj P inl.cod) (hi : ∀ f g, inl.f f = some g -> (∃ fn, P.funcs[f]? = some fn /\ (fn.name == "runtime.NumGoroutine") = false /\ fn.body.isSome = true) /\ Hz P f g) : EnvOk P (c9 lp call inl) := by
 have k1:∀ t ty,Sp t=some ty->bJ P ty t=true/\ty.high<=1000/\am ty=true:=λt ty ht=>by have:=zCa.1 (zaa _ _ ▸ h1:_/\_).1 t (zWa.2 (NT ht));rw[ht] at this;simp only[zaa,zfa] at this;exact⟨this.1.1,this.1.2,this.2⟩
 refine⟨λt ty ht=>.inr (k1 t ty ht).1,λt ty ht=>(k1 t ty ht).2.1,λt ty ht=>(k1 t ty ht).2.2,λf ptys rty hf=>?_,hc,h3,hlp,λt kt vt ht=>?_,hi,hcod,λt ht=>PC h1 ht⟩
 ·have:=zCa.1 h2 f (zWa.2 (Cq hf));rw[show qx f=some (ptys,rty) from hf] at this;simp only[JT,zaa,z9b] at this;obtain⟨⟨q1,q2⟩,q3⟩:=this;refine⟨q1,?_,?_⟩
  ·rcases q2 with q2|q2
   ·exact .inl q2
   ·right;split at q2
    ·rename_i ts;exact⟨_,rfl,q2⟩
    ·cases q2
  ·split at q3
   ·rename_i fn hfn;simp only[zaa,zTa] at q3;exact⟨fn,hfn,q3⟩
   ·cases q3
 ·have:=zCa.1 h4 t (zWa.2 (I5 ht));rw[show I4 t=some (kt,vt) from ht] at this;simp only[zaa,zfa] at this;obtain⟨⟨m1,m2⟩,m3⟩:=this;refine⟨m1,?_⟩;split at m3<;>first|(cases m3;done)|skip
  rename_i K V hu;simp only[zaa] at m3;exact⟨K,V,hu,m3.1,m3.2,m2⟩
def DQ (P : Program) (f : Nat) (p : Func × Ty) : Prop := P.funcs[f]? = some p.1 /\ (!(p.1.name == "runtime.NumGoroutine") && p.1.body.isSome && DI p.1.results.size p.2) = true
theorem zw{pv:Bool}{b:Nat->Option (Func×Ty)}(h1:vh P=true)(h2:DM P=true)(c:Dj P=true)(h3:P.follows .mixedOrders=true)(ht:∀ f p,b f=some p->DQ P f p){lp:Lp}(a:av lp){call:Nat->List D->Option D}(hc:iM P call) :
  ∀ n,EnvOk P (c9 lp call (IP pv b lp call n))
 | 0=>uT h1 h2 c h3 a hc (λ_ _ _ _ _ _ _ _ _ _ _ _ _ _ _ _ _ h=>by cases h) λf g h=>by cases h
 | n+1=>uT h1 h2 c h3 a hc (Pj (zw h1 h2 c h3 ht a hc n)) λf g h=>by
  simp only[IP] at h;split at h<;>first|(cases h;done)|skip
  rename_i p hp;cases h;obtain⟨e,d⟩:=ht f p hp;simp only[zaa,zTa] at d;exact⟨⟨p.1,e,d.1.1,d.1.2⟩,MX (zw h1 h2 c h3 ht a hc n) e d.2⟩
end
end Sy
end
noncomputable section
namespace Sy
open Go Go.Proofs
def BC:vh Tryz.prog=true:=u3
def Cp:DM Tryz.prog=true:=u3
def BJ:Dj Tryz.prog=true:=u3
def Dk:Tryz.prog.follows .mixedOrders=true:=u3
def IN(v:Nat)(lp:Lp)(call:Nat->List D->Option D):Inl:=IP (Nat.beq v 1) (NM v) lp call 9
noncomputable abbrev jW(lp:Lp)(call:Nat->List D->Option D):Inl:=IN 0 lp call
def NN(v:Nat):∀ f p,NM v f=some p->DQ Tryz.prog f p:=by
 intro f p h;have key:∀ q∈NO,DQ Tryz.prog q.1 q.2:=by
  intro q hq;simp only[NO,Qa,zzb,ztc,zEa,zcc,or_false] at hq;repeat' first
   | (rcases hq with hq|hq;· subst hq;exact⟨u3,u3⟩)
   | (subst hq;exact⟨u3,u3⟩)
 exact key (f,p) (JX h)
def Rx{v:Nat}{lp:Lp}(a:av lp){call:Nat->List D->Option D}(hc:iM Tryz.prog call):EnvOk Tryz.prog (c9 lp call (IN v lp call)):=
 zw BC Cp BJ Dk (NN v) a hc 9
def Ry{lp:Lp}(a:av lp){call:Nat->List D->Option D}(hc:iM Tryz.prog call):EnvOk Tryz.prog (c9 lp call (jW lp call)):=Rx a hc
def RU(o:Oper):Option ByteArray:=match o.op with|.index _ (.const (.string s)) _=>some s|_=>none
def qz:Code->Option ByteArray
 | .region _ ops _=>ops.toList.findSome? RU
 | .seq a b=>(qz a).orElse λ_=>qz b
 | .cond _ a b=>(qz a).orElse λ_=>qz b
 | .block _ a=>qz a
 | .loop a=>qz a
 | .scope a=>qz a
 | _=>none
def Im(f:Func):Code:=match f.body with|some c=>c|none=>.skip
inductive CT where
 | leaf (k:Nat) (g:(Nat->List D->Option D)->List D->Option D)
 | node (m:Nat) (a b:CT)
def CT.get:CT->Nat->(Nat->List D->Option D)->List D->Option D
 | .leaf k g,f,call,xs=>bif Nat.beq f k then g call xs else none
 | .node m a b,f,call,xs=>bif Nat.blt f m then a.get f call xs else b.get f call xs
def ae(f:Nat)(g:(Nat->List D->Option D)->List D->Option D):Prop:=
 ∀ call,iM Tryz.prog call->∀ a b xs y,qx (cz f)=some (a,b)->g call xs=some y->fG a xs->Ku Tryz.prog (qm (cz f)) (j8 (cz f)) a b (cz f) xs y
def CT.ok:CT->Prop
 | .leaf k g=>ae k g
 | .node _ a b=>a.ok/\b.ok
theorem abF:∀ {t:CT},t.ok->∀ {call},iM Tryz.prog call->∀ f c d xs y,qx (cz f)=some (c,d)->t.get f call xs=some y->fG c xs->Ku Tryz.prog (qm (cz f)) (j8 (cz f)) c d (cz f) xs y
 | .leaf k g,h,call,hc,f,c,d,xs,y,hs,hy,hw=>by
  simp only[CT.get] at hy;cases hb:Nat.beq f k with
  | false=>rw[hb] at hy;cases hy
  | true=> rw[hb] at hy;have:=zqc hb;subst this;exact h call hc c d xs y hs hy hw
 | .node m a b,h,call,hc,f,c,d,xs,y,hs,hy,hw=>by
  simp only[CT.get] at hy;cases hb:Nat.blt f m with
  | false=>rw[hb] at hy;exact abF h.2 hc f c d xs y hs hy hw
  | true=>rw[hb] at hy;exact abF h.1 hc f c d xs y hs hy hw
def OU:((List.range GS).all λf=>match NH f with|some p=>Nat.beq (cz p.1) f|none=>true)=true:=u3
def Mi{f:Nat}{g:List Ty×Ty}(h:qx f=some g):cz (uB f)=f:=by
 have h2:=zCa.1 OU f (zWa.2 (Cq h));unfold qx at h;unfold uB;split at h<;>first|(cases h;done)|skip
 rename_i p hp;rw[hp] at h2;exact zqc h2
def abE{t:CT}(h:t.ok){call}(hc:iM Tryz.prog call):iM Tryz.prog λf xs=>t.get f call xs:=λf a b xs y hs hy hw=>by
 have e:=Mi hs;have:=abF h hc (uB f) a b xs y (by rw[e];exact hs) hy hw
 rwa [e] at this
def F9(v:Nat)(lp:Lp)(f:Nat)(fn:Func)(ann:Ann)(call:Nat->List D->Option D)(xs:List D):Option D:=
 (qx (cz f)).bind λs=>bif qm (cz f) then(match s.2 with|.sl t=>(Ps (c9 lp call (IN v lp call)) fn ann s.1 t xs).bind λl=>some (.sl l)|_=>none) else bif Nat.beq (j8 (cz f)) 0 then Xq (c9 lp call (IN v lp call)) fn ann s.1 s.2 xs else Pt (c9 lp call (IN v lp call)) fn ann s.1 (j8 (cz f)) s.2 xs
def M7(f:Nat)(fn:Func):Bool:=match qx (cz f) with
 | some (p,r)=>decide (p.length<=fn.ntmps)&&jK fn.results.size r&&bq p&&(decide (j8 (cz f)<=p.length)&&(bif qm (cz f) then Nat.beq (j8 (cz f)) 0 else decide (j8 (cz f)<=4095)))
 | none=>false
def qc{v:Nat}{lp:Lp}(c:av lp){f:Nat}{fn:Func}{ann:Ann}(hf:Tryz.prog.funcs[cz f]?=some fn)(hk:M7 f fn=true):ae f (F9 v lp f fn ann):=by
 intro call hc i m xs y hs hy hw;unfold F9 at hy;unfold M7 at hk;rw[hs] at hy hk;simp only[zba] at hy;simp only[zaa,zfa] at hk;obtain⟨⟨⟨d,g⟩,e⟩,j,a⟩:=hk;have b:=Rx (v:=v) c hc;cases how:qm (cz f) with
 | true=>
  rw[how] at hy;simp only[cond_true] at hy;split at hy<;>first|(cases hy;done)|skip
  rename_i t;obtain⟨l,h1,h2⟩:=ab hy;cases h2;have hO:=A9 b hf d e h1;have h0:j8 (cz f)=0:=by rw[how] at a;simpa using a
  rw[h0];exact⟨hO.ctr,λ_=>⟨t,l,rfl,rfl,hO⟩⟩
 | false=>
 rw[how] at hy;simp only[cond_false] at hy;refine⟨?_,λh=>by cases h⟩
 cases hz:j8 (cz f) with
 | zero=> rw[hz] at hy;exact FZ b hf d e g hy
 | succ k=> rw[hz] at hy;exact C2 b hf d e (by rw[<-hz];exact j) (by rw[<-hz];rw[how] at a;simpa using a) g hy
abbrev Ann.tl(a:Ann):Ann:=.two .leaf a
section
variable{α:Type}
noncomputable abbrev qT(x:D)(f:Bool->Option α):Option α:=(D.truth x).bind f
noncomputable abbrev qG(x:D)(p:List Nat)(f:D->Option α):Option α:=(D.get x p).bind f
noncomputable abbrev qS(x:D)(f:List D->Option α):Option α:=(D.asSl x).bind f
noncomputable abbrev qI(x:D)(l:List D)(f:D->Option α):Option α:=(D.idx x l.length).bind λk=>(l[k]?).bind f
noncomputable abbrev qB(o:BinOp)(x y:D)(f:D->Option α):Option α:=(abG o x y).bind f
noncomputable abbrev qC(o:BinOp)(x y:D)(f:Bool->Option α):Option α:=(abG o x y).bind λz=>(D.truth z).bind f
noncomputable abbrev qN(x:D)(f:Bool->Option α):Option α:=(abU .not x).bind λz=>(D.truth z).bind f
noncomputable abbrev qX(x i:D)(f:D->Option α):Option α:=(D.asSl x).bind λl=>(D.idx i l.length).bind λk=>(l[k]?).bind f
noncomputable abbrev qL(x i:D)(f:Bool->Option α):Option α:=(D.asSl x).bind λl=>(abG .lss i (.int .i64 l.length)).bind λz=>(D.truth z).bind f
noncomputable abbrev qY(x:D)(p:List Nat)(i:D)(f:D->Option α):Option α:=(D.get x p).bind λx=>(D.asSl x).bind λl=>(D.idx i l.length).bind λk=>(l[k]?).bind f
noncomputable abbrev qM(x:D)(p:List Nat)(i:D)(f:Bool->Option α):Option α:=(D.get x p).bind λx=>(D.asSl x).bind λl=>(abG .lss i (.int .i64 l.length)).bind λz=>(D.truth z).bind f
noncomputable abbrev qP(x:D)(p:List Nat)(f:List D->Option α):Option α:=(D.get x p).bind λx=>(D.asSl x).bind f
noncomputable abbrev qJ(i:D)(n:Nat)(x:D)(f:D->Option α):Option α:=(D.idx i n).bind λk=>(D.get x [k]).bind f
end
abbrev qV(l:List D)(i:Nat):List D:=(l.getD i (.bool false)).els
abbrev qW(l:List D)(i:Nat):D:=D.sl ((l.getD i (.bool false)).els)
abbrev qZ(lp:Lp)(f:List D->Option (Sum (List D) (Nat×List D))):List D->Option (Nat×List D):=lp f
abbrev iL(l:List D):Option (Sum (List D) (Nat×List D)):=some (Sum.inl l)
abbrev iR(l:Nat×List D):Option (Sum (List D) (Nat×List D)):=some (Sum.inr l)
abbrev LO:Type:=List (Nat×ShO)
abbrev LS:Type:=List (Nat×Sh)
abbrev Jn(n:Int):D:=.int .i64 n
abbrev Ca:Type:=Nat->List D->Option D
abbrev Sh.di:Sh:=.dv (.int .i64)
abbrev Sh.sp(t:Ty)(i:Nat):Sh:=.same (.ptr t i [])
def m0(F:(Nat->List D->Option D)->Option D)(call:Nat->List D->Option D)(xs:List D):Option D:=match xs with|[]=>F call|_=>none
def xJ(v:Nat)(fn:Func)(ann:Ann){lp:Lp}(b:av lp){f:Nat}{F:(Nat->List D->Option D)->Option D}(hf:Tryz.prog.funcs[cz f]?=some fn:=by kernel_rfl)(hk:M7 f fn=true:=by kernel_rfl)
  (d:∀ call,F9 v lp f fn ann call []=F call:=by intros;kernel_rfl):ae f (m0 F):=by
 intro call hc a c xs y hs hy hw;unfold m0 at hy;split at hy<;>first|(cases hy;done)|skip
 exact qc (v:=v) b hf hk call hc a c _ y hs ((d call).trans hy) hw
def m1(F:(Nat->List D->Option D)->D->Option D)(call:Nat->List D->Option D)(xs:List D):Option D:=match xs with|[a0]=>F call a0|_=>none
def bD(v:Nat)(fn:Func)(ann:Ann){lp:Lp}(b:av lp){f:Nat}{F:(Nat->List D->Option D)->D->Option D}(hf:Tryz.prog.funcs[cz f]?=some fn:=by kernel_rfl)(hk:M7 f fn=true:=by kernel_rfl)
  (d:∀ call a0,F9 v lp f fn ann call [a0]=F call a0:=by intros;kernel_rfl):ae f (m1 F):=by
 intro call hc a c xs y hs hy hw;unfold m1 at hy;split at hy<;>first|(cases hy;done)|skip
 exact qc (v:=v) b hf hk call hc a c _ y hs ((d call _).trans hy) hw
def m2(F:(Nat->List D->Option D)->D->D->Option D)(call:Nat->List D->Option D)(xs:List D):Option D:=match xs with|[a0,a1]=>F call a0 a1|_=>none
def aR(v:Nat)(fn:Func)(ann:Ann){lp:Lp}(b:av lp){f:Nat}{F:(Nat->List D->Option D)->D->D->Option D}(hf:Tryz.prog.funcs[cz f]?=some fn:=by kernel_rfl)(hk:M7 f fn=true:=by kernel_rfl)
  (d:∀ call a0 a1,F9 v lp f fn ann call [a0,a1]=F call a0 a1:=by intros;kernel_rfl):ae f (m2 F):=by
 intro call hc a c xs y hs hy hw;unfold m2 at hy;split at hy<;>first|(cases hy;done)|skip
 exact qc (v:=v) b hf hk call hc a c _ y hs ((d call _ _).trans hy) hw
def m3(F:(Nat->List D->Option D)->D->D->D->Option D)(call:Nat->List D->Option D)(xs:List D):Option D:=match xs with|[a0,a1,a2]=>F call a0 a1 a2|_=>none
def qb(v:Nat)(fn:Func)(ann:Ann){lp:Lp}(b:av lp){f:Nat}{F:(Nat->List D->Option D)->D->D->D->Option D}(hf:Tryz.prog.funcs[cz f]?=some fn:=by kernel_rfl)(hk:M7 f fn=true:=by kernel_rfl)
  (d:∀ call a0 a1 a2,F9 v lp f fn ann call [a0,a1,a2]=F call a0 a1 a2:=by intros;kernel_rfl):ae f (m3 F):=by
 intro call hc a c xs y hs hy hw;unfold m3 at hy;split at hy<;>first|(cases hy;done)|skip
 exact qc (v:=v) b hf hk call hc a c _ y hs ((d call _ _ _).trans hy) hw
def m4(F:(Nat->List D->Option D)->D->D->D->D->Option D)(call:Nat->List D->Option D)(xs:List D):Option D:=match xs with|[a0,a1,a2,a3]=>F call a0 a1 a2 a3|_=>none
def IZ(v:Nat)(fn:Func)(ann:Ann){lp:Lp}(b:av lp){f:Nat}{F:(Nat->List D->Option D)->D->D->D->D->Option D}(hf:Tryz.prog.funcs[cz f]?=some fn:=by kernel_rfl)(hk:M7 f fn=true:=by kernel_rfl)
  (d:∀ call a0 a1 a2 a3,F9 v lp f fn ann call [a0,a1,a2,a3]=F call a0 a1 a2 a3:=by intros;kernel_rfl):ae f (m4 F):=by
 intro call hc a c xs y hs hy hw;unfold m4 at hy;split at hy<;>first|(cases hy;done)|skip
 exact qc (v:=v) b hf hk call hc a c _ y hs ((d call _ _ _ _).trans hy) hw
def m5(F:(Nat->List D->Option D)->D->D->D->D->D->Option D)(call:Nat->List D->Option D)(xs:List D):Option D:=match xs with|[a0,a1,a2,a3,a4]=>F call a0 a1 a2 a3 a4|_=>none
def I0(v:Nat)(fn:Func)(ann:Ann){lp:Lp}(b:av lp){f:Nat}{F:(Nat->List D->Option D)->D->D->D->D->D->Option D}(hf:Tryz.prog.funcs[cz f]?=some fn:=by kernel_rfl)(hk:M7 f fn=true:=by kernel_rfl)
  (d:∀ call a0 a1 a2 a3 a4,F9 v lp f fn ann call [a0,a1,a2,a3,a4]=F call a0 a1 a2 a3 a4:=by intros;kernel_rfl):ae f (m5 F):=by
 intro call hc a c xs y hs hy hw;unfold m5 at hy;split at hy<;>first|(cases hy;done)|skip
 exact qc (v:=v) b hf hk call hc a c _ y hs ((d call _ _ _ _ _).trans hy) hw
def m6(F:(Nat->List D->Option D)->D->D->D->D->D->D->Option D)(call:Nat->List D->Option D)(xs:List D):Option D:=match xs with|[a0,a1,a2,a3,a4,a5]=>F call a0 a1 a2 a3 a4 a5|_=>none
def leaf6(v:Nat)(fn:Func)(ann:Ann){lp:Lp}(b:av lp){f:Nat}{F:(Nat->List D->Option D)->D->D->D->D->D->D->Option D}(hf:Tryz.prog.funcs[cz f]?=some fn:=by kernel_rfl)(hk:M7 f fn=true:=by kernel_rfl)
  (d:∀ call a0 a1 a2 a3 a4 a5,F9 v lp f fn ann call [a0,a1,a2,a3,a4,a5]=F call a0 a1 a2 a3 a4 a5:=by intros;kernel_rfl):ae f (m6 F):=by
 intro call hc a c xs y hs hy hw;unfold m6 at hy;split at hy<;>first|(cases hy;done)|skip
 exact qc (v:=v) b hf hk call hc a c _ y hs ((d call _ _ _ _ _ _).trans hy) hw
abbrev gx(l:List D)(i:Nat):D:=l.getD i (.bool false)
end Sy
end
noncomputable section
set_option maxHeartbeats 0
noncomputable section
namespace Sy
open Go Go.Proofs
section
variable{lp}(a:av lp)
def Zs:Ann:=(.tl (.tl (.two (.tl (.two (.loop ⟨[(1,.sp K3 4097),(3,.ow K6),(10,.di)],[(4097,.keep K3 1)],[8,9]⟩ [(.exit 0,⟨[(3,.ow K6)],[],[]⟩)] (.tl (.tl (.two (.two (.tl (.reg [] 11)) .leaf) .leaf)))) .leaf)) .leaf)))
def SL(lp:Lp)(c:Ca)(a0:D):Option D:=qG a0 [0] λl=>(c 45 [l]).bind λi=>qS i λk=>(qZ lp (λv4=>qC .lss (gx v4 1) (Jn (k.length)) λj=>if j then(qX i (gx v4 1) λh=>qG h [0] λb=>qG h [1] λd=>qG a0 [0] λf=>(c 46 [f,h]).bind λa=>if List.length (qV v4 0)+List.length [(D.st [b,d,a])]<=1073741824 then(qB .add (gx v4 1) (Jn 1) λg=>iL [(D.sl ((qV v4 0)++[(D.st [b,d,a])])),g]) else none) else(iR (0,[(qW v4 0)]))) [(D.sl []),(Jn 0)]).bind λe=>some (qW e.2 0)
def L18:ae 18 (m1 (SL lp)):=bD 0 Tryz.f64 Zs a
def SM(lp:Lp)(c:Ca)(a0:D):Option D:=qG a0 [0] λb=>(c 48 [b]).bind λa=>some a
def L19:ae 19 (m1 (SM lp)):=bD 0 Tryz.f69 .leaf a
def Zt:Ann:=(.tl (.two (.reg [] 10) .leaf))
def Y7(lp:Lp)(c:Ca)(a0:D):Option D:=qG a0 [0] λe=>(c 75 [e]).bind λa=>qG a0 [1] λf=>(c 75 [f]).bind λb=>qG a0 [2] λg=>(c 75 [g]).bind λd=>some (D.st [a,b,d])
def L31:ae 31 (m1 (Y7 lp)):=bD 0 Tryz.f34 Zt a
def Zu:Ann:=(.tl (.tl (.tl (.tl (.tl (.tl (.tl (.cut [(.normal,⟨[(5,.dv K5),(6,.dv K5)],[],[]⟩)] [] [] .leaf .leaf))))))))
def SN(lp:Lp)(c:Ca)(a0 a1:D):Option D:=(c 76 [a0]).bind λr1=>qN r1 λu=>(if u then((c 76 [a1]).bind λx=>(abU .not x).bind λz=>D.truth z) else(some false)).bind λv=>qT (D.bool v) λw=>if w then(some (Jn 0)) else((c 76 [a0]).bind λy=>qN y λb=>if b then(some (Jn (-1))) else((c 76 [a1]).bind λj=>qN j λd=>if d then(some (Jn 1)) else(qG a0 [1] λq=>qG a1 [1] λr=>qT (D.bool (!(D.beq q r))) λe=>if e then(qG a0 [1] λs=>qT s λf=>if f then(some (Jn (-1))) else(some (Jn 1))) else((c 77 [a0]).bind λk=>(c 77 [a1]).bind λl=>(qG a0 [1] λt=>qT t λg=>if g then((c 77 [a1]).bind λm=>(c 77 [a0]).bind λn=>some (0,[m,n])) else(some (0,[k,l]))).bind λ(a:Nat×List D)=>(c 78 [(gx a.2 0),(gx a.2 1)]).bind λo=>(c 78 [(gx a.2 1),(gx a.2 0)]).bind λp=>qT o λh=>if h then(some (Jn (-1))) else(qT p λi=>if i then(some (Jn 1)) else(some (Jn 0)))))))
def L32:ae 32 (m2 (SN lp)):=aR 0 Tryz.f95 Zu a
def SO(lp:Lp)(c:Ca)(a0:D):Option D:=qC .geq a0 (Jn 0) λl=>if l then(qB .rem a0 (Jn 65536) λn=>qB .quo a0 (Jn 65536) λo=>qB .rem o (Jn 65536) λp=>qB .quo a0 (Jn 4294967296) λq=>qB .rem q (Jn 65536) λr=>qB .quo a0 (Jn 281474976710656) λs=>(c 81 [(D.bool false),(D.sl [n,p,r,s])]).bind λm=>some m) else(qB .add a0 (Jn 1) λe=>(abU .neg e).bind λa=>qB .rem a (Jn 65536) λf=>qB .quo a (Jn 65536) λg=>qB .rem g (Jn 65536) λh=>qB .quo a (Jn 4294967296) λi=>qB .rem i (Jn 65536) λj=>qB .quo a (Jn 281474976710656) λk=>(c 82 [(D.sl [f,h,j,k]),(D.sl [(Jn 1)])]).bind λb=>(c 81 [(D.bool true),b]).bind λd=>some d)
def L34:ae 34 (m1 (SO lp)):=bD 0 Tryz.f98 .leaf a
def Zw:Ann:=(.tl (.tl (.tl (.cut [(.normal,⟨[(2,.sp aQ 4098),(3,.sp aQ 4099),(4,.sp cd 4100),(5,.sp aQ 12293)],[(4098,.keep aQ 2),(4099,.keep aQ 3),(4100,.keep cd 4),(12293,.one aQ (.dv aQ))],[]⟩)] [] [4098,4099,4100] .leaf (.two (.reg [] 7) .leaf)))))
def Y8(lp:Lp)(c:Ca)(a0 a1:D):Option D:=(c 76 [a0]).bind λr1=>qN r1 λk=>(if k then(some true) else((c 76 [a1]).bind λo=>(abU .not o).bind λq=>D.truth q)).bind λl=>qT (D.bool l) λm=>(if m then(some true) else((c 83 [a1]).bind λp=>D.truth (D.bool (D.beq p (Jn 0))))).bind λn=>qT (D.bool n) λd=>if d then((c 84 []).bind λf=>some f) else((c 85 [a0,a1]).bind λa=>((c 83 [a1]).bind λg=>qC .lss g (Jn 0) λe=>if e then((c 86 [a]).bind λh=>some (0,[h])) else(some (0,[a]))).bind λ(b:Nat×List D)=>(c 87 [a0,(gx b.2 0)]).bind λi=>(c 87 [a1,(gx b.2 0)]).bind λj=>some (D.st [i,j]))
def L37:ae 37 (m2 (Y8 lp)):=aR 0 Tryz.f88 Zw a
def Zx:Ann:=let a:LO:=[(4098,.keep K2 2),(4099,.keep dX 3),(8197,.one K5 (.dv K5))];let b:LO:=[(4098,.keep K2 2),(4099,.keep dX 3),(8197,.one K5 (.ow Ti))];let c:LO:=[(4098,.keep K2 2),(4099,.keep dX 3),(8197,.keep K5 1)];let d:LS:=[(2,.sp K2 4098),(3,.sp dX 4099),(5,.sp K5 8197)];let e:LS:=[(2,.sp K2 4098),(3,.sp dX 4099),(6,.di)];(.tl (.tl (.two (.tl (.two (.loop ⟨[(2,.sp K2 4098),(3,.sp dX 4099),(5,.sp K5 8197),(13,.di)],b,[11,12]⟩ [(.exit 0,⟨d,b,[]⟩)] (.tl (.tl (.cut [(.normal,⟨d,b,[11,12,13]⟩)] [11,12,13] [4098,4099] (.two (.tl (.two (.reg [] 6) .leaf)) .leaf) .leaf)))) .leaf)) (.tl (.tl (.two (.two (.regI [] 6 (.two (.tl (.tl (.two (.tl (.two (.loop ⟨[(2,.sp K2 4098),(3,.sp dX 4099),(6,.di),(12,.dv K5),(14,.di)],a,[0,13]⟩ [(.exit 0,⟨[(6,.di)],a,[]⟩)] (.tl (.tl (.cut [(.normal,⟨e,a,[0,12,13,14]⟩)] [0,12,13,14] [4098,4099] (.two (.tl (.tl (.tl (.two (.reg [] 20) .leaf)))) .leaf) .leaf)))) .leaf)) .leaf))) .leaf)) (.two (.loop ⟨[(5,.sp K5 8197),(8,.same (.clo 182 [(.ptr K5 8197 []),(.ptr K2 4098 []),(.ptr dX 4099 [])])),(9,.ow Ti),(10,.di)],[(4098,.keep K2 2),(4099,.keep dX 3),(8197,.keep K5 5)],[]⟩ [(.exit 2,⟨[(9,.ow Ti)],[],[]⟩)] (.tl (.tl (.regI [] 4 (.two (.tl (.tl (.two (.tl (.two (.loop ⟨[(2,.sp K2 4098),(3,.sp dX 4099),(6,.di),(14,.di)],c,[0,12,13]⟩ [(.exit 0,⟨[(6,.di)],c,[]⟩)] (.tl (.tl (.cut [(.normal,⟨e,a,[0,12,13,14]⟩)] [0,12,13,14] [4098,4099] (.two (.tl (.tl (.tl (.two (.reg [] 20) .leaf)))) .leaf) .leaf)))) .leaf)) .leaf))) .leaf))))) .leaf)) .leaf))))))
def SP(lp:Lp)(c:Ca)(a0 a1:D):Option D:=qS a0 λl1=>(qZ lp (λv2=>qC .lss (gx v2 0) (Jn (l1.length)) λb4=>if b4 then((qX a0 (gx v2 0) λx7=>qG a1 [0] λx8=>(c 101 [x8,x7]).bind λr9=>qG a1 [1] λP=>qT (D.bool (D.beq r9 P)) λp=>if p then(if List.length (qV v2 1)+List.length [(gx v2 0)]<=1073741824 then(some (0,[(D.sl ((qV v2 1)++[(gx v2 0)]))])) else none) else(some (0,[(qW v2 1)]))).bind λ(H:Nat×List D)=>qB .add (gx v2 0) (Jn 1) λQ=>iL [Q,(qW H.2 0)]) else(iR (0,[(qW v2 1)]))) [(Jn 0),(D.sl [])]).bind λe=>(D.idx (Jn 0) (List.length (qV e.2 0))).bind λi15=>((qV e.2 0)[i15]?).bind λR=>(D.idx (Jn 0) (List.length (qV e.2 0))).bind λi17=>((qV e.2 0)[i17]?).bind λl=>(qZ lp (λa=>qC .lss (gx a 2) (Jn (List.length (qV e.2 0))) λq=>if q then((qX (gx a 1) (gx a 2) λf=>qT (D.bool (D.beq f l)) λr=>if r then(some (0,[(gx a 0),(gx a 3)])) else(qC .lss (gx a 0) (Jn 0) λs=>if s then(some (0,[f,(gx a 3)])) else(qX a0 f λS=>qX a0 l λT=>(c 103 [S,T]).bind λh=>qX a0 (gx a 0) λU=>qX a0 l λV=>(c 103 [U,V]).bind λi=>qG a1 [0] λW=>(c 104 [W,i,h]).bind λm=>qC .lss m (Jn 0) λt=>(if t then(some true) else(qT (D.bool (D.beq m (Jn 0))) λu=>if u then((c 101 [h,h]).bind λI=>(c 101 [i,i]).bind λJ=>qB .gtr I J λX=>D.truth X) else(some false))).bind λv=>qT (D.bool v) λw=>if w then(some (0,[f,(gx a 3)])) else(some (0,[(gx a 0),(gx a 3)]))))).bind λ(n:Nat×List D)=>qB .add (gx a 2) (Jn 1) λY=>iL [(gx n.2 0),(gx a 1),Y,(gx n.2 1)]) else(iR (0,[(gx a 0),(gx a 3)]))) [(Jn (-1)),(qW e.2 0),(Jn 0),(qW e.2 0)]).bind λb=>(qZ lp (λv55=>qX (gx b.2 1) (Jn 0) λZ=>qT (D.bool (!(D.beq (gx v55 1) Z))) λx=>if x then(if List.length (qV v55 0)+List.length [(gx v55 1)]<=1073741824 then(qS (gx b.2 1) λG=>(qZ lp (λd=>qC .lss (gx d 1) (Jn (G.length)) λy=>if y then((qX (gx b.2 1) (gx d 1) λg=>qT (D.bool (D.beq g (gx v55 1))) λz=>if z then(some (0,[(gx d 0),(gx b.2 1)])) else(qC .lss (gx d 0) (Jn 0) λA=>if A then(some (0,[g,(gx b.2 1)])) else(qX a0 g λad=>qX a0 (gx v55 1) λai=>(c 103 [ad,ai]).bind λj=>qX a0 (gx d 0) λaj=>qX a0 (gx v55 1) λak=>(c 103 [aj,ak]).bind λk=>qG a1 [0] λal=>(c 104 [al,k,j]).bind λo=>qC .lss o (Jn 0) λB=>(if B then(some true) else(qT (D.bool (D.beq o (Jn 0))) λC=>if C then((c 101 [j,j]).bind λK=>(c 101 [k,k]).bind λL=>qB .gtr K L λan=>D.truth an) else(some false))).bind λE=>qT (D.bool E) λF=>if F then(some (0,[g,(gx b.2 1)])) else(some (0,[(gx d 0),(gx b.2 1)]))))).bind λ(M:Nat×List D)=>qB .add (gx d 1) (Jn 1) λax=>iL [(gx M.2 0),ax]) else(iR (0,[(gx d 0)]))) [(Jn (-1)),(Jn 0)]).bind λN=>iL [(D.sl ((qV v55 0)++[(gx v55 1)])),(gx N.2 0)]) else none) else(iR (0,[(qW v55 0)]))) [(D.sl [R]),(gx b.2 0)]).bind λO=>some (qW O.2 0)
def L46:ae 46 (m2 (SP lp)):=aR 0 Tryz.f129 Zx a
def Zy:Ann:=(.tl (.tl (.two (.tl (.two (.loop ⟨[(3,.dv K7),(4,.di)],[],[0]⟩ [(.exit 0,⟨[(3,.dv K7)],[],[]⟩)] (.tl (.two (.two (.tl (.two (.loop ⟨[(3,.dv K7),(5,.di)],[],[0,4]⟩ [(.exit 2,⟨[(3,.dv K7)],[],[0,4]⟩)] (.tl (.two (.two (.tl (.two (.loop ⟨[(3,.dv K7),(6,.di)],[],[0,4,5]⟩ [(.exit 4,⟨[(3,.dv K7)],[],[0,4,5]⟩)] (.tl (.two (.two (.two (.reg [] 14) (.tl (.two (.loop ⟨[(3,.dv K7),(7,.sp K1 49159),(8,.di)],[(49159,.one K1 (.dv K1))],[0,4,5,6]⟩ [(.exit 6,⟨[(3,.dv K7)],[],[0,4,5,6]⟩)] (.tl (.two (.two (.two (.reg [] 6) (.tl (.tl (.cut [(.normal,⟨[(3,.dv K7),(7,.sp K1 49159)],[(49159,.keep K1 7)],[0,4,5,6,8]⟩)] [0,4,5,6,8] [49159] (.tl (.two (.reg [] 9) .leaf)) .leaf)))) .leaf) .leaf))) .leaf))) .leaf) .leaf))) .leaf)) .leaf) .leaf))) .leaf)) .leaf) .leaf))) .leaf)) .leaf)))
def SQ(lp:Lp)(c:Ca)(a0:D):Option D:=(qZ lp (λv1=>qL a0 (gx v1 1) λF=>if F then(qB .add (gx v1 1) (Jn 1) λH=>(qZ lp (λv6=>qL a0 (gx v6 1) λG=>if G then(qB .add (gx v6 1) (Jn 1) λu=>(qZ lp (λv11=>qL a0 (gx v11 1) λb=>if b then(qX a0 (gx v1 1) λv=>qX a0 (gx v6 1) λw=>qX a0 (gx v11 1) λx=>(c 106 [v,w,x]).bind λj=>(qZ lp (λv25=>qC .lss (gx v25 1) (Jn 2) λd=>if d then(qX a0 (gx v1 1) λy=>(c 107 [(gx v25 2),y]).bind λa=>(c 108 [(gx v25 0),(gx v25 2)]).bind λk=>(qN k λe=>(if e then((abU .not (D.bool (D.beq (gx v25 2) (D.st [(Jn 0),(Jn 0),(Jn 0)])))).bind λz=>D.truth z) else(some false)).bind λf=>qT (D.bool f) λg=>(if g then((c 109 [a0,(gx v25 2),a]).bind λl=>D.truth l) else(some false)).bind λh=>qT (D.bool h) λi=>if i then((c 111 [a0,(gx v25 2),a]).bind λm=>(c 110 [(gx v25 0),(D.st [(gx v25 2),a,m])]).bind λn=>some (0,[n])) else(some (0,[(gx v25 0)]))).bind λ(o:Nat×List D)=>(c 112 [(D.st [(Jn 0),(Jn 0),(Jn 0)]),(gx v25 2)]).bind λp=>qB .add (gx v25 1) (Jn 1) λA=>iL [(gx o.2 0),A,p]) else(iR (0,[(gx v25 0)]))) [(gx v11 0),(Jn 0),j]).bind λq=>qB .add (gx v11 1) (Jn 1) λB=>iL [(gx q.2 0),B]) else(iR (0,[(gx v11 0)]))) [(gx v6 0),u]).bind λr=>qB .add (gx v6 1) (Jn 1) λC=>iL [(gx r.2 0),C]) else(iR (0,[(gx v6 0)]))) [(gx v1 0),H]).bind λs=>qB .add (gx v1 1) (Jn 1) λE=>iL [(gx s.2 0),E]) else(iR (0,[(gx v1 0)]))) [(D.sl []),(Jn 0)]).bind λt=>some (gx t.2 0)
def L48:ae 48 (m1 (SQ lp)):=bD 0 Tryz.f133 Zy a
def Zz:Ann:=(.tl (.two (.reg [] 12) .leaf))
def SR(lp:Lp)(c:Ca)(a0 a1:D):Option D:=qG a0 [0] λe=>qG a1 [0] λf=>(c 53 [e,f]).bind λa=>qG a0 [1] λg=>qG a1 [1] λh=>(c 53 [g,h]).bind λb=>(c 52 [(D.sl [a,b])]).bind λd=>some d
def L51:ae 51 (m2 (SR lp)):=aR 0 Tryz.f191 Zz a
def ZA:Ann:=(.tl (.tl (.two (.tl (.two (.loop ⟨[(8,.di)],[],[3,6,7]⟩ [(.ret,⟨[(2,.di)],[],[]⟩),(.exit 0,⟨[],[],[3]⟩)] .leaf) .leaf)) .leaf)))
def SS(lp:Lp)(c:Ca)(a0:D):Option D:=qS a0 λf=>(qZ lp (λv2=>qC .lss (gx v2 0) (Jn (f.length)) λd=>if d then(qX a0 (gx v2 0) λb=>qT (D.bool (!(D.beq b (Jn 0)))) λe=>if e then(iR (0,[b])) else(qB .add (gx v2 0) (Jn 1) λg=>iL [g])) else(iR (1,[]))) [(Jn 0)]).bind λa=>if a.1=0 then(some (gx a.2 0)) else(some (Jn 0))
def L52:ae 52 (m1 (SS lp)):=bD 0 Tryz.f179 ZA a
def ST(lp:Lp)(c:Ca)(a0 a1:D):Option D:=(c 115 [a0]).bind λr1=>(c 115 [a1]).bind λa=>qT r1 λb=>if b then(qT a λd=>if d then(some (Jn 0)) else(some (Jn (-1)))) else(qT a λe=>if e then(some (Jn 1)) else(qC .lss a0 a1 λf=>if f then(some (Jn (-1))) else(qC .gtr a0 a1 λg=>if g then(some (Jn 1)) else(some (Jn 0)))))
def L53:ae 53 (m2 (ST lp)):=aR 0 Tryz.f180 .leaf a
def ZB:Ann:=(.tl (.tl (.cut [(.normal,⟨[(2,.sp aQ 4098),(3,.dv (Ty.int .u64))],[(4098,.keep aQ 2)],[0]⟩)] [0] [4098] .leaf .leaf)))
def SU(lp:Lp)(c:Ca)(a0:D):Option D:=(D.conv .u64 a0).bind λd=>(qC .lss a0 (Jn 0) λe=>if e then((abU .neg d).bind λf=>some (0,[f])) else(some (0,[d]))).bind λ(b:Nat×List D)=>qB .lss a0 (Jn 0) λg=>(D.conv .u32 (gx b.2 0)).bind λh=>qB .shr (gx b.2 0) (D.int .u64 32) λi=>(D.conv .u32 i).bind λj=>(c 116 [g,(D.st (abS (List.replicate 16 (D.int .u32 0)) [(0,h),(1,j)]))]).bind λa=>some a
def L54:ae 54 (m1 (SU lp)):=bD 0 Tryz.f45 ZB a
def ZC:Ann:=(.tl (.tl (.tl (.two (.tl (.two (.two (.reg [] 8) .leaf) .leaf)) (.two (.reg [] 8) .leaf)))))
def SV(lp:Lp)(c:Ca)(a0 a1:D):Option D:=(c 118 [(D.sl [a0,a1])]).bind λr1=>qN r1 λw=>if w then((c 119 []).bind λy=>some y) else(qG a0 [1] λz=>qG a1 [1] λA=>qT (D.bool (D.beq z A)) λx=>if x then(qG a0 [2] λB=>qG a1 [2] λC=>(c 120 [B,C]).bind λa=>(D.tupAt a 0).bind λl=>(D.tupAt a 1).bind λm=>qN m λb=>if b then((c 119 []).bind λe=>some e) else(qG a0 [1] λn=>(c 116 [n,l]).bind λf=>some f)) else(qG a0 [2] λo=>qG a1 [2] λp=>(c 121 [o,p]).bind λg=>qC .geq g (Jn 0) λd=>if d then(qG a0 [1] λq=>qG a0 [2] λr=>qG a1 [2] λs=>(c 122 [r,s]).bind λh=>(c 116 [q,h]).bind λi=>some i) else(qG a1 [1] λt=>qG a1 [2] λu=>qG a0 [2] λv=>(c 122 [u,v]).bind λj=>(c 116 [t,j]).bind λk=>some k)))
def L57:ae 57 (m2 (SV lp)):=aR 0 Tryz.f118 ZC a
def ZD:Ann:=let a:LO:=[(4098,.keep aQ 2),(4099,.keep aQ 3),(4100,.keep aQ 4),(12293,.one Me (.dv Me))];(.tl (.tl (.tl (.two (.reg [] 7) (.two (.tl (.two (.loop ⟨[(2,.sp aQ 4098),(3,.sp aQ 4099),(4,.sp aQ 4100),(5,.sp Me 12293),(24,.di)],a,[7,23]⟩ [(.exit 0,⟨[(2,.sp aQ 4098),(3,.sp aQ 4099),(4,.sp aQ 4100),(5,.sp Me 12293)],a,[]⟩)] (.tl (.tl (.two (.two (.tl (.tl (.two (.tl (.two (.loop ⟨[(2,.sp aQ 4098),(3,.sp aQ 4099),(4,.sp aQ 4100),(5,.sp Me 12293),(9,.dv (Ty.int .u64)),(28,.di)],a,[7,8,23,24,27]⟩ [(.exit 2,⟨[(2,.sp aQ 4098),(3,.sp aQ 4099),(4,.sp aQ 4100),(5,.sp Me 12293),(9,.dv (Ty.int .u64))],a,[7,8,23,24]⟩)] (.tl (.tl (.two (.two (.tl (.two (.reg [] 20) .leaf)) .leaf) .leaf)))) .leaf)) .leaf))) .leaf) .leaf)))) .leaf)) (.tl (.two (.reg [] 9) .leaf)))))))
def SW(lp:Lp)(c:Ca)(a0 a1:D):Option D:=(c 118 [(D.sl [a0,a1])]).bind λr1=>qN r1 λH=>if H then((c 119 []).bind λI=>some I) else(qG a0 [2] λK=>(c 127 [K]).bind λJ=>qG a1 [2] λL=>(c 127 [L]).bind λG=>(qZ lp (λv9=>qC .lss (gx v9 0) J λg=>if g then((qZ lp (λv12=>qC .lss (gx v12 1) G λh=>if h then((D.idx (gx v9 0) 16).bind λi15=>qG a0 [2,i15] λl=>(D.conv .u64 l).bind λm=>(D.idx (gx v12 1) 16).bind λi18=>qG a1 [2,i18] λn=>(D.conv .u64 n).bind λo=>qB .mul m o λp=>qB .add (gx v9 0) (gx v12 1) λq=>qJ q 32 (gx v12 2) λr=>(D.conv .u64 r).bind λs=>qB .add p s λt=>qB .add (gx v12 0) t λf=>qB .add (gx v9 0) (gx v12 1) λu=>(D.conv .u32 f).bind λv=>(D.idx u 32).bind λi30=>(D.set (gx v12 2) [i30] v).bind λw=>qB .shr f (D.int .u64 32) λx=>qB .add (gx v12 1) (Jn 1) λy=>iL [x,y,w]) else(iR (0,[(gx v12 0),(gx v12 2)]))) [(D.int .u64 0),(Jn 0),(gx v9 1)]).bind λd=>qB .add (gx v9 0) G λz=>(D.conv .u32 (gx d.2 0)).bind λA=>(D.idx z 32).bind λi37=>(D.set (gx d.2 1) [i37] A).bind λB=>qB .add (gx v9 0) (Jn 1) λC=>iL [C,B]) else(iR (0,[(gx v9 1)]))) [(Jn 0),(aq Me)]).bind λe=>(match (gx e.2 0) with
| D.st a=>(if decide (16+16<=a.length) then(qT (D.bool (!(D.beq (D.st (List.take 16 (List.drop 16 a))) (D.st (abS (List.replicate 16 (D.int .u32 0)) []))))) λi=>
 if i then((c 119 []).bind λj=>
 some j) else(qG a0 [1] λE=>
 qG a1 [1] λF=>
(match (gx e.2 0) with
| D.st b=>(if decide (0+16<=b.length) then((c 116 [(D.bool (!(D.beq E F))),(D.st (List.take 16 (List.drop 0 b)))]).bind λk=> some k) else none)
| _=>none))) else none)
| _=>none))
def L61:ae 61 (m2 (SW lp)):=aR 0 Tryz.f108 ZD a
def ZE:Ann:=(.tl (.tl (.tl (.cut [(.normal,⟨[(2,.sp aQ 4098),(3,.sp aQ 4099),(4,.sp cd 4100),(5,.sp aQ 12293)],[(4098,.keep aQ 2),(4099,.keep aQ 3),(4100,.keep cd 4),(12293,.one aQ (.dv aQ))],[]⟩)] [] [4098,4099,4100] .leaf (.two (.reg [] 7) .leaf)))))
def Qq(lp:Lp)(c:Ca)(a0 a1:D):Option D:=(c 128 [a0]).bind λr1=>qN r1 λk=>(if k then(some true) else((c 128 [a1]).bind λo=>(abU .not o).bind λq=>D.truth q)).bind λl=>qT (D.bool l) λm=>(if m then(some true) else((c 129 [a1]).bind λp=>D.truth (D.bool (D.beq p (Jn 0))))).bind λn=>qT (D.bool n) λd=>if d then((c 130 []).bind λf=>some f) else((c 131 [a0,a1]).bind λa=>((c 129 [a1]).bind λg=>qC .lss g (Jn 0) λe=>if e then((c 68 [a]).bind λh=>some (0,[h])) else(some (0,[a]))).bind λ(b:Nat×List D)=>(c 132 [a0,(gx b.2 0)]).bind λi=>(c 132 [a1,(gx b.2 0)]).bind λj=>some (D.st [i,j]))
def L62:ae 62 (m2 (Qq lp)):=aR 0 Tryz.f43 ZE a
def SX(lp:Lp)(c:Ca)(a0:D):Option D:=(c 118 [(D.sl [a0])]).bind λr1=>qN r1 λa=>if a then((c 119 []).bind λb=>some b) else(qG a0 [1] λe=>(abU .not e).bind λf=>qG a0 [2] λg=>(c 116 [f,g]).bind λd=>some d)
def L68:ae 68 (m1 (SX lp)):=bD 0 Tryz.f111 .leaf a
def SY(lp:Lp)(c:Ca)(a0:D):Option D:=qG a0 [0,0,0] λf=>qT f λa=>(if a then(some true) else(qG a0 [1,0,0] λg=>D.truth g)).bind λb=>qT (D.bool b) λd=>(if d then(some true) else(qG a0 [2,0,0] λh=>D.truth h)).bind λe=>some (D.bool e)
def L71:ae 71 (m1 (SY lp)):=bD 0 Tryz.f60 .leaf a
def ZF:Ann:=(.tl (.two (.reg [] 4) .leaf))
def SZ(lp:Lp)(c:Ca)(a0 a1:D):Option D:=(c 135 [a0]).bind λr1=>(c 134 [r1,a1]).bind λa=>some a
def L72:ae 72 (m2 (SZ lp)):=aR 0 Tryz.f65 ZF a
def ZG:Ann:=(.tl (.two (.reg [] 5) (.tl (.tl (.tl (.two (.two (.loop ⟨[(2,.sp cd 4098),(3,.sp cd 4099),(7,.di)],[(4098,.one cd (.dv cd)),(4099,.one cd (.dv cd))],[]⟩ [(.exit 1,⟨[(7,.di)],[],[]⟩)] (.two (.two (.two (.reg [] 11) .leaf) (.two (.reg [] 16) (.two (.reg [] 7) .leaf))) .leaf)) .leaf) .leaf))))))
def S4(lp:Lp)(c:Ca)(a0 a1:D):Option D:=(c 136 [a0]).bind λr1=>(c 136 [a1]).bind λC=>qN r1 λE=>(if E then((abU .not C).bind λI=>D.truth I) else(some false)).bind λF=>qT (D.bool F) λG=>if G then(some (Jn 0)) else(qN r1 λH=>if H then(some (Jn (-1))) else(qN C λg=>if g then(some (Jn 1)) else((qZ lp (λv12=>qG (gx v12 1) [0] λo=>qG (gx v12 1) [1] λp=>(c 132 [o,p]).bind λl=>qG (gx v12 2) [0] λq=>qG (gx v12 2) [1] λr=>(c 132 [q,r]).bind λm=>(c 90 [l,m]).bind λa=>qT (D.bool (!(D.beq a (Jn 0)))) λh=>if h then(qB .mul (gx v12 0) a λs=>iR (0,[s])) else(qG (gx v12 1) [1] λt=>qG (gx v12 1) [0] λu=>qG (gx v12 1) [1] λv=>(c 137 [u,v]).bind λb=>qG (gx v12 2) [1] λw=>qG (gx v12 2) [0] λx=>qG (gx v12 2) [1] λy=>(c 137 [x,y]).bind λd=>(c 129 [b]).bind λe=>(c 129 [d]).bind λf=>qT (D.bool (D.beq e (Jn 0))) λi=>(if i then(some true) else(D.truth (D.bool (D.beq f (Jn 0))))).bind λj=>qT (D.bool j) λk=>if k then(qB .sub e f λz=>qB .mul (gx v12 0) z λA=>iR (0,[A])) else((abU .neg (gx v12 0)).bind λB=>iL [B,(D.st [t,b]),(D.st [w,d])]))) [(Jn 1),a0,a1]).bind λn=>some (gx n.2 0))))
def L73:ae 73 (m2 (S4 lp)):=aR 0 Tryz.f46 ZG a
def S5(lp:Lp)(c:Ca)(a0:D):Option D:=(c 54 [a0]).bind λr1=>(c 138 [r1]).bind λa=>some a
def L74:ae 74 (m1 (S5 lp)):=bD 0 Tryz.f49 .leaf a
def Y9(lp:Lp)(c:Ca)(a0:D):Option D:=(c 34 [a0]).bind λr1=>(c 133 []).bind λa=>(c 37 [r1,a]).bind λb=>some b
def L75:ae 75 (m1 (Y9 lp)):=bD 0 Tryz.f36 .leaf a
end
end Sy
end
set_option maxHeartbeats 0
noncomputable section
namespace Sy
open Go Go.Proofs
section
variable{lp}(a:av lp)
def S6(lp:Lp)(c:Ca)(a0:D):Option D:=(c 139 [a0]).bind λr1=>qT r1 λa=>(if a then(qG a0 [0] λd=>(abU .not d).bind λe=>D.truth e) else(some false)).bind λb=>some (D.bool b)
def L76:ae 76 (m1 (S6 lp)):=bD 0 Tryz.f78 .leaf a
def ZH:Ann:=(.tl (.tl (.two (.tl (.two (.loop ⟨[(1,.sp aQ 4097),(3,.ow Ti),(4,.di)],[(4097,.keep aQ 1)],[]⟩ [(.exit 0,⟨[(3,.ow Ti)],[],[]⟩)] (.tl (.two (.two (.reg [] 14) .leaf) .leaf))) .leaf)) .leaf)))
def S7(lp:Lp)(c:Ca)(a0:D):Option D:=(qZ lp (λv1=>qC .lss (gx v1 1) (Jn 16) λh=>if h then((D.idx (gx v1 1) 16).bind λi4=>qG a0 [2,i4] λi=>qB .rem i (D.int .u32 65536) λj=>(D.conv .i64 j).bind λg=>(D.idx (gx v1 1) 16).bind λi8=>qG a0 [2,i8] λk=>qB .quo k (D.int .u32 65536) λe=>(D.conv .i64 e).bind λa=>if List.length (qV v1 0)+List.length [g,a]<=1073741824 then(qB .add (gx v1 1) (Jn 1) λf=>iL [(D.sl ((qV v1 0)++[g,a])),f]) else none) else(iR (0,[(qW v1 0)]))) [(D.sl []),(Jn 0)]).bind λb=>(c 140 [(qW b.2 0)]).bind λd=>some d
def L77:ae 77 (m1 (S7 lp)):=bD 0 Tryz.f79 ZH a
def ZI:Ann:=(.tl (.two (.tl (.two (.loop ⟨[(5,.di)],[],[0,1]⟩ [(.ret,⟨[(4,.dv Ty.bool)],[],[]⟩),(.exit 0,⟨[],[],[]⟩)] .leaf) .leaf)) .leaf))
def S8(lp:Lp)(c:Ca)(a0 a1:D):Option D:=qS a0 λi=>qS a1 λj=>(D.max2 (Jn (i.length)) (Jn (j.length))).bind λm=>qB .sub m (Jn 1) λn=>(qZ lp (λv5=>qC .geq (gx v5 0) (Jn 0) λh=>if h then((c 141 [a0,(gx v5 0)]).bind λk=>(c 141 [a1,(gx v5 0)]).bind λl=>qT (D.bool (!(D.beq k l))) λb=>if b then((c 141 [a0,(gx v5 0)]).bind λd=>(c 141 [a1,(gx v5 0)]).bind λe=>qB .lss d e λf=>iR (0,[f])) else(qB .sub (gx v5 0) (Jn 1) λg=>iL [g])) else(iR (1,[]))) [n]).bind λa=>if a.1=0 then(some (gx a.2 0)) else(some (D.bool false))
def L78:ae 78 (m2 (S8 lp)):=aR 0 Tryz.f154 ZI a
def ZJ:Ann:=(.tl (.two (.reg [] 10) .leaf))
def S9(lp:Lp)(c:Ca)(a0:D):Option D:=qG a0 [0] λe=>(c 34 [e]).bind λa=>qG a0 [1] λf=>(c 34 [f]).bind λb=>qG a0 [2] λg=>(c 34 [g]).bind λd=>some (D.st [a,b,d])
def L80:ae 80 (m1 (S9 lp)):=bD 0 Tryz.f93 ZJ a
def ZK:Ann:=let a:LO:=[(4100,.keep aQ 4),(16390,.one aQ (.dv aQ))];let b:LS:=[(4,.sp aQ 4100),(6,.sp aQ 16390)];(.tl (.tl (.tl (.tl (.two (.tl (.two (.loop ⟨[(4,.sp aQ 4100),(6,.sp aQ 16390),(7,.di)],a,[5]⟩ [(.exit 0,⟨b,a,[]⟩)] (.tl (.cut [(.normal,⟨b,a,[5,7]⟩)] [5,7] [4100] (.two (.tl (.two (.reg [] 15) (.reg [] 16))) .leaf) .leaf))) .leaf)) .leaf)))))
def Ta(lp:Lp)(c:Ca)(a0 a1:D):Option D:=(c 140 [a1]).bind λr1=>qS r1 λz=>qC .gtr (Jn (z.length)) (Jn 32) λw=>if w then((c 125 []).bind λB=>some B) else(qT a0 λx=>(if x then(qS r1 λA=>qB .gtr (Jn (A.length)) (Jn 0) λC=>D.truth C) else(some false)).bind λy=>(qZ lp (λv10=>qL r1 (gx v10 0) λa=>if a then((qB .rem (gx v10 0) (Jn 2) λf=>qT (D.bool (D.beq f (Jn 0))) λb=>if b then(qB .quo (gx v10 0) (Jn 2) λg=>qB .quo (gx v10 0) (Jn 2) λh=>(D.idx h 16).bind λi18=>qG (gx v10 1) [2,i18] λi=>qX r1 (gx v10 0) λj=>(D.conv .u32 j).bind λk=>qB .add i k λl=>(D.idx g 16).bind λi25=>(D.set (gx v10 1) [2,i25] l).bind λm=>some (0,[m])) else(qB .quo (gx v10 0) (Jn 2) λn=>qB .quo (gx v10 0) (Jn 2) λo=>(D.idx o 16).bind λi29=>qG (gx v10 1) [2,i29] λp=>qX r1 (gx v10 0) λq=>(D.conv .u32 q).bind λr=>qB .mul r (D.int .u32 65536) λs=>qB .add p s λt=>(D.idx n 16).bind λi37=>(D.set (gx v10 1) [2,i37] t).bind λu=>some (0,[u]))).bind λ(d:Nat×List D)=>qB .add (gx v10 0) (Jn 1) λv=>iL [v,(gx d.2 0)]) else(iR (0,[(gx v10 1)]))) [(Jn 0),(D.st [(D.bool false),(D.bool y),(aq aP)])]).bind λe=>some (gx e.2 0))
def L81:ae 81 (m2 (Ta lp)):=aR 0 Tryz.f151 ZK a
def ZL:Ann:=(.tl (.tl (.tl (.two (.tl (.two (.loop ⟨[(5,.ow Ti),(6,.di),(7,.di)],[],[0,1]⟩ [(.exit 0,⟨[(5,.ow Ti)],[],[]⟩)] .leaf) .leaf)) .leaf))))
def Tb(lp:Lp)(c:Ca)(a0 a1:D):Option D:=(qZ lp (λv1=>qS a0 λj=>qS a1 λk=>(D.max2 (Jn (j.length)) (Jn (k.length))).bind λn=>qB .add n (Jn 1) λo=>qC .lss (gx v1 2) o λi=>if i then((c 141 [a0,(gx v1 2)]).bind λl=>(c 141 [a1,(gx v1 2)]).bind λm=>qB .add l m λf=>qB .add f (gx v1 1) λa=>qB .rem a (Jn 65536) λb=>if List.length (qV v1 0)+List.length [b]<=1073741824 then(qB .quo a (Jn 65536) λg=>qB .add (gx v1 2) (Jn 1) λh=>iL [(D.sl ((qV v1 0)++[b])),g,h]) else none) else(iR (0,[(qW v1 0)]))) [(D.sl []),(Jn 0),(Jn 0)]).bind λd=>(c 140 [(qW d.2 0)]).bind λe=>some e
def L82:ae 82 (m2 (Tb lp)):=aR 0 Tryz.f153 ZL a
def Tc(lp:Lp)(c:Ca)(a0:D):Option D:=(c 76 [a0]).bind λr1=>qN r1 λa=>(if a then(some true) else((c 77 [a0]).bind λg=>qS g λf=>D.truth (D.bool (D.beq (Jn (f.length)) (Jn 0))))).bind λb=>qT (D.bool b) λd=>if d then(some (Jn 0)) else(qG a0 [1] λh=>qT h λe=>if e then(some (Jn (-1))) else(some (Jn 1)))
def L83:ae 83 (m1 (Tc lp)):=bD 0 Tryz.f82 .leaf a
def Za(lp:Lp)(c:Ca) :Option D:=(c 125 []).bind λr1=>(c 133 []).bind λa=>some (D.st [r1,a])
def L84:ae 84 (m0 (Za lp)):=xJ 0 Tryz.f85 .leaf a
def ZM:Ann:=(.tl (.tl (.tl (.two (.tl (.two (.two (.two (.loop ⟨[(4,.sp aQ 4100),(5,.di),(7,.di)],[(4100,.keep aQ 4)],[]⟩ [(.exit 0,⟨[(4,.sp aQ 4100),(5,.di)],[(4100,.keep aQ 4)],[]⟩)] .leaf) .leaf) .leaf) .leaf)) (.tl (.tl (.tl (.two (.two (.loop ⟨[(4,.sp aQ 4100),(10,.dv K5),(11,.dv K5)],[(4100,.keep aQ 4)],[]⟩ [(.exit 2,⟨[(4,.sp aQ 4100),(10,.dv K5)],[(4100,.keep aQ 4)],[]⟩)] .leaf) .leaf) .leaf))))))))
def Td(lp:Lp)(c:Ca)(a0 a1:D):Option D:=(c 124 [a0]).bind λr1=>(D.tupAt r1 0).bind λz=>(D.tupAt r1 1).bind λA=>(c 124 [a1]).bind λv=>(D.tupAt v 0).bind λC=>(D.tupAt v 1).bind λE=>qT A λw=>(if w then(D.truth E) else(some false)).bind λx=>qT (D.bool x) λy=>if y then((qZ lp (λv10=>qT (D.bool (!(D.beq (gx v10 1) (Jn 0)))) λb=>if b then(qB .rem (gx v10 0) (gx v10 1) λs=>iL [(gx v10 1),s]) else(iR (0,[(gx v10 0)]))) [z,C]).bind λi=>(c 34 [(gx i.2 0)]).bind λj=>(c 142 [j]).bind λk=>some k) else((c 76 [a0]).bind λl=>qN l λd=>(if d then(some true) else((c 76 [a1]).bind λm=>(abU .not m).bind λt=>D.truth t)).bind λe=>qT (D.bool e) λf=>if f then((c 125 []).bind λn=>some n) else((c 77 [a0]).bind λo=>(c 77 [a1]).bind λp=>(qZ lp (λv26=>qS (gx v26 1) λh=>qC .gtr (Jn (h.length)) (Jn 0) λg=>if g then((c 143 [(gx v26 0),(gx v26 1)]).bind λa=>(D.tupAt a 0).bind λB=>(D.tupAt a 1).bind λu=>iL [(gx v26 1),u]) else(iR (0,[(gx v26 0)]))) [o,p]).bind λq=>(c 81 [(D.bool false),(gx q.2 0)]).bind λr=>some r))
def L85:ae 85 (m2 (Td lp)):=aR 0 Tryz.f86 ZM a
def ZN:Ann:=(.tl (.tl (.two (.reg [] 6) .leaf)))
def Zb(lp:Lp)(c:Ca)(a0:D):Option D:=(c 76 [a0]).bind λr1=>qN r1 λa=>if a then((c 125 []).bind λb=>some b) else(qG a0 [1] λf=>(abU .not f).bind λg=>(c 77 [a0]).bind λd=>(c 81 [g,d]).bind λe=>some e)
def L86:ae 86 (m1 (Zb lp)):=bD 0 Tryz.f125 ZN a
def ZO:Ann:=(.tl (.tl (.tl (.tl (.tl (.two (.reg [] 9) (.cut [(.normal,⟨[(2,.sp aQ 4098),(3,.sp aQ 4099),(4,.sp aQ 4100),(9,.dv K5)],[(4098,.keep aQ 2),(4099,.keep aQ 3),(4100,.keep aQ 4)],[]⟩)] [] [4098,4099,4100] .leaf .leaf)))))))
def Te(lp:Lp)(c:Ca)(a0 a1:D):Option D:=(c 124 [a0]).bind λr1=>(D.tupAt r1 0).bind λN=>(D.tupAt r1 1).bind λO=>(c 124 [a1]).bind λI=>(D.tupAt I 0).bind λJ=>(D.tupAt I 1).bind λP=>qT O λK=>(if K then(D.truth P) else(some false)).bind λL=>qT (D.bool L) λM=>(if M then(D.truth (D.bool (!(D.beq J (Jn 0))))) else(some false)).bind λd=>qT (D.bool d) λe=>if e then((c 144 [N,J]).bind λp=>(c 34 [p]).bind λq=>some q) else((c 76 [a0]).bind λr=>qN r λf=>(if f then(some true) else((c 76 [a1]).bind λs=>(abU .not s).bind λA=>D.truth A)).bind λg=>qT (D.bool g) λh=>(if h then(some true) else((c 77 [a1]).bind λt=>qS t λn=>D.truth (D.bool (D.beq (Jn (n.length)) (Jn 0))))).bind λi=>qT (D.bool i) λj=>if j then((c 125 []).bind λu=>some u) else((c 77 [a0]).bind λv=>(c 77 [a1]).bind λw=>(c 143 [v,w]).bind λa=>(D.tupAt a 0).bind λb=>(D.tupAt a 1).bind λB=>(qG a0 [1] λC=>qG a1 [1] λE=>qT (D.bool (!(D.beq C E))) λk=>(if k then(qS B λo=>qB .gtr (Jn (o.length)) (Jn 0) λF=>D.truth F) else(some false)).bind λl=>qT (D.bool l) λm=>if m then((c 82 [b,(D.sl [(Jn 1)])]).bind λx=>some (0,[x])) else(some (0,[b]))).bind λ(y:Nat×List D)=>qG a0 [1] λG=>qG a1 [1] λH=>(c 81 [(D.bool (!(D.beq G H))),(gx y.2 0)]).bind λz=>some z))
def L87:ae 87 (m2 (Te lp)):=aR 0 Tryz.f87 ZO a
def Zc(lp:Lp)(c:Ca)(a0:D):Option D:=qG a0 [0] λo=>(c 76 [o]).bind λm=>qN m λj=>(if j then(some true) else(qG a0 [1] λp=>(c 76 [p]).bind λn=>(abU .not n).bind λq=>D.truth q)).bind λk=>qT (D.bool k) λl=>if l then(some (D.bool false)) else(qG a0 [1] λg=>(c 83 [g]).bind λd=>qC .gtr d (Jn 0) λa=>(if a then(qG a0 [0] λh=>qG a0 [1] λi=>(c 85 [h,i]).bind λe=>(c 133 []).bind λf=>D.truth (D.bool (D.beq e f))) else(some false)).bind λb=>some (D.bool b))
def L88:ae 88 (m1 (Zc lp)):=bD 0 Tryz.f81 .leaf a
def ZP:Ann:=(.tl (.two (.reg [] 7) .leaf))
def Tf(lp:Lp)(c:Ca)(a0 a1:D):Option D:=(c 118 [(D.sl [a0])]).bind λr1=>(c 118 [(D.sl [a1])]).bind λp=>qN r1 λq=>(if q then((abU .not p).bind λu=>D.truth u) else(some false)).bind λr=>qT (D.bool r) λs=>if s then(some (Jn 0)) else(qN r1 λt=>if t then(some (Jn (-1))) else(qN p λa=>if a then(some (Jn 1)) else(qG a0 [1] λh=>qG a1 [1] λi=>qT (D.bool (!(D.beq h i))) λb=>if b then(qG a0 [1] λj=>qT j λd=>if d then(some (Jn (-1))) else(some (Jn 1))) else(qG a0 [1] λk=>qT k λe=>if e then(qG a1 [2] λl=>qG a0 [2] λm=>(c 121 [l,m]).bind λf=>some f) else(qG a0 [2] λn=>qG a1 [2] λo=>(c 121 [n,o]).bind λg=>some g)))))
def L90:ae 90 (m2 (Tf lp)):=aR 0 Tryz.f116 ZP a
def ZQ:Ann:=(.tl (.two (.reg [] 5) .leaf))
def Tg(lp:Lp)(c:Ca)(a0 a1:D):Option D:=(c 148 [a0]).bind λr1=>(c 148 [a1]).bind λa=>(c 147 [r1,a]).bind λb=>some b
def L91:ae 91 (m2 (Tg lp)):=aR 0 Tryz.f44 ZQ a
def ZR:Ann:=(.tl (.two (.reg [] 8) (.cut [(.normal,⟨[(3,.sp K1 4099),(6,.sp dX 4102),(7,.sp K1 8199)],[(4099,.keep K1 3),(4102,.keep dX 6),(8199,.one K1 (.dv K1))],[]⟩)] [] [4099,4102] (.two (.reg [] 8) (.tl (.two (.reg [] 13) .leaf))) (.two (.reg [] 5) .leaf))))
def Th(lp:Lp)(c:Ca)(a0 a1 a2:D):Option D:=(c 103 [a1,a0]).bind λr1=>(c 103 [a2,a0]).bind λm=>(c 117 [r1,m]).bind λa=>(qG a [0] λo=>qG a [1] λp=>(c 152 [o,p]).bind λn=>qG a [2] λq=>(c 152 [n,q]).bind λd=>qC .gtr d (Jn 1) λe=>if e then(qG a [0] λg=>qB .quo g d λh=>qG a [1] λi=>qB .quo i d λj=>qG a [2] λk=>qB .quo k d λl=>some (0,[(D.st [h,j,l])])) else(some (0,[a]))).bind λ(b:Nat×List D)=>(c 101 [(gx b.2 0),a0]).bind λf=>some (D.st [(gx b.2 0),f])
def L96:ae 96 (m3 (Th lp)):=qb 0 Tryz.f175 ZR a
def Tj(lp:Lp)(c:Ca)(a0:D):Option D:=qG a0 [0] λa=>(abU .neg a).bind λb=>qG a0 [1] λd=>(abU .neg d).bind λe=>qG a0 [2] λf=>(abU .neg f).bind λg=>some (D.st [b,e,g])
def L97:ae 97 (m1 (Tj lp)):=bD 0 Tryz.f58 .leaf a
def ZS:Ann:=(.tl (.tl (.two (.tl (.two (.loop ⟨[(3,.sp dX 4099),(5,.dv Ty.bool),(11,.di)],[(4099,.keep dX 3)],[9,10]⟩ [(.ret,⟨[(4,.dv Ty.bool)],[],[]⟩),(.exit 0,⟨[(5,.dv Ty.bool)],[],[]⟩)] .leaf) .leaf)) .leaf)))
def Tk(lp:Lp)(c:Ca)(a0 a1:D):Option D:=qS a0 λl=>(qZ lp (λv2=>qC .lss (gx v2 1) (Jn (l.length)) λk=>if k then(qX a0 (gx v2 1) λm=>qG a1 [0] λn=>(c 101 [n,m]).bind λj=>qG a1 [1] λf=>qC .gtr j f λb=>if b then(iR (0,[(D.bool false)])) else(qT (gx v2 0) λd=>(if d then(qG a1 [1] λg=>D.truth (D.bool (D.beq j g))) else(some false)).bind λe=>qB .add (gx v2 1) (Jn 1) λh=>iL [(D.bool e),h])) else(iR (1,[(gx v2 0)]))) [(D.bool true),(Jn 0)]).bind λa=>if a.1=0 then(some (gx a.2 0)) else((abU .not (gx a.2 0)).bind λi=>some i)
def L98:ae 98 (m2 (Tk lp)):=aR 0 Tryz.f176 ZS a
def Tu:Ann:=(.tl (.two (.reg [] 23) .leaf))
def Kv(lp:Lp)(c:Ca)(a0 a1:D):Option D:=qG a0 [0,0] λf=>qG a1 [0,0] λg=>(c 53 [f,g]).bind λb=>qG a0 [0,1] λh=>qG a1 [0,1] λi=>(c 53 [h,i]).bind λd=>qG a0 [0,2] λj=>qG a1 [0,2] λk=>(c 53 [j,k]).bind λe=>(c 52 [(D.sl [b,d,e])]).bind λa=>some a
def UP:ae 100 (m2 (Kv lp)):=aR 0 Tryz.f178 Tu a
def Hn(lp:Lp)(c:Ca)(a0 a1:D):Option D:=qG a0 [0] λd=>qG a1 [0] λe=>qB .mul d e λf=>qG a0 [1] λg=>qG a1 [1] λh=>qB .mul g h λi=>qB .add f i λj=>qG a0 [2] λk=>qG a1 [2] λl=>qB .mul k l λa=>qB .add j a λb=>some b
def UQ:ae 101 (m2 (Hn lp)):=aR 0 Tryz.f181 .leaf a
def Tv:Ann:=(.tl (.two (.reg [] 4) .leaf))
def Kw(lp:Lp)(c:Ca)(a0 a1:D):Option D:=(c 97 [a1]).bind λr1=>(c 154 [a0,r1]).bind λa=>some a
def UR:ae 103 (m2 (Kw lp)):=aR 0 Tryz.f161 Tv a
def Tw:Ann:=(.tl (.tl (.two (.tl (.two (.loop ⟨[(7,.sp K1 8199),(14,.di)],[(8199,.keep K1 7)],[13]⟩ [(.ret,⟨[(6,.di)],[],[]⟩),(.exit 0,⟨[],[],[]⟩)] .leaf) .leaf)) .leaf)))
def Kx(lp:Lp)(c:Ca)(a0 a1 a2:D):Option D:=(c 117 [a1,a2]).bind λr1=>(qZ lp (λv2=>qC .lss (gx v2 0) (Jn 3) λh=>if h then((D.idx (gx v2 0) 3).bind λi5=>(D.fld a0 i5).bind λg=>qT (D.bool (!(D.beq g (Jn 0)))) λi=>if i then(qJ (gx v2 0) 3 r1 λj=>(c 53 [j,(Jn 0)]).bind λb=>(c 53 [g,(Jn 0)]).bind λd=>qB .mul b d λe=>iR (0,[e])) else(qB .add (gx v2 0) (Jn 1) λf=>iL [f])) else(iR (1,[]))) [(Jn 0)]).bind λa=>if a.1=0 then(some (gx a.2 0)) else(some (Jn 0))
def US:ae 104 (m3 (Kx lp)):=qb 0 Tryz.f183 Tw a
def Ky(lp:Lp)(c:Ca)(a0 a1:D):Option D:=qG a0 [0] λj=>qG a1 [0] λk=>qT (D.bool (!(D.beq j k))) λh=>if h then(qG a0 [0] λl=>qG a1 [0] λm=>qB .lss l m λn=>some n) else(qG a0 [1] λo=>qG a1 [1] λp=>qT (D.bool (!(D.beq o p))) λi=>if i then(qG a0 [1] λa=>qG a1 [1] λb=>qB .lss a b λd=>some d) else(qG a0 [2] λe=>qG a1 [2] λf=>qB .lss e f λg=>some g))
def UT:ae 105 (m2 (Ky lp)):=aR 0 Tryz.f216 .leaf a
def Tx:Ann:=(.tl (.two (.reg [] 8) .leaf))
def KA(lp:Lp)(c:Ca)(a0 a1 a2:D):Option D:=(c 112 [a1,a0]).bind λr1=>(c 112 [a2,a0]).bind λa=>(c 123 [r1,a]).bind λb=>(c 80 [b]).bind λd=>(c 155 [d]).bind λe=>qG e [0] λf=>some f
def UU:ae 106 (m3 (KA lp)):=qb 0 Tryz.f184 Tx a
def KB(lp:Lp)(c:Ca)(a0 a1:D):Option D:=qG a0 [0] λd=>qG a1 [0] λe=>qB .mul d e λf=>qG a0 [1] λg=>qG a1 [1] λh=>qB .mul g h λi=>qB .add f i λj=>qG a0 [2] λk=>qG a1 [2] λl=>qB .mul k l λa=>qB .add j a λb=>some b
def UV:ae 107 (m2 (KB lp)):=aR 0 Tryz.f185 .leaf a
def Tz:Ann:=(.tl (.two (.tl (.two (.loop ⟨[(3,.sp K1 4099),(5,.di)],[(4099,.keep K1 3)],[0]⟩ [(.ret,⟨[(4,.dv Ty.bool)],[],[]⟩),(.exit 0,⟨[],[],[]⟩)] (.tl (.two (.two (.two (.reg [] 6) .leaf) .leaf) .leaf))) .leaf)) .leaf))
def KC(lp:Lp)(c:Ca)(a0 a1:D):Option D:=(qZ lp (λv1=>qL a0 (gx v1 0) λd=>if d then(qX a0 (gx v1 0) λf=>(D.fld f 0).bind λg=>qT (D.bool (D.beq g a1)) λe=>if e then(iR (0,[(D.bool true)])) else(qB .add (gx v1 0) (Jn 1) λb=>iL [b])) else(iR (1,[]))) [(Jn 0)]).bind λa=>if a.1=0 then(some (gx a.2 0)) else(some (D.bool false))
def UW:ae 108 (m2 (KC lp)):=aR 0 Tryz.f186 Tz a
def TA:Ann:=(.tl (.tl (.two (.tl (.two (.loop ⟨[(4,.sp K1 4100),(7,.dv Ty.bool),(8,.di)],[(4100,.keep K1 4)],[0,2]⟩ [(.ret,⟨[(6,.dv Ty.bool)],[],[]⟩),(.exit 0,⟨[(7,.dv Ty.bool)],[],[]⟩)] (.tl (.two (.two (.two (.reg [] 6) .leaf) .leaf) .leaf))) .leaf)) .leaf)))
def KD(lp:Lp)(c:Ca)(a0 a1 a2:D):Option D:=(qZ lp (λv1=>qL a0 (gx v1 1) λi=>if i then(qX a0 (gx v1 1) λj=>(c 107 [a1,j]).bind λh=>qC .gtr h a2 λb=>if b then(iR (0,[(D.bool false)])) else(qT (gx v1 0) λd=>(if d then(some true) else(qB .lss h a2 λf=>D.truth f)).bind λe=>qB .add (gx v1 1) (Jn 1) λg=>iL [(D.bool e),g])) else(iR (1,[(gx v1 0)]))) [(D.bool false),(Jn 0)]).bind λa=>if a.1=0 then(some (gx a.2 0)) else(some (gx a.2 0))
def UX:ae 109 (m3 (KD lp)):=qb 0 Tryz.f187 TA a
def TB:Ann:=let a:LS:=[(3,.sp K6 4099),(5,.ow K6),(6,.dv Ty.bool)];(.tl (.tl (.tl (.two (.tl (.two (.loop ⟨[(3,.sp K6 4099),(5,.ow K6),(6,.dv Ty.bool),(7,.di)],[(4099,.keep K6 3)],[0]⟩ [(.exit 0,⟨a,[(4099,.keep K6 3)],[]⟩)] (.tl (.two (.two (.two (.reg [] 8) (.cut [(.normal,⟨a,[(4099,.keep K6 3)],[0,7]⟩)] [0,7] [4099] .leaf .leaf)) .leaf) .leaf))) .leaf)) (.cut [(.normal,⟨[(5,.ow K6)],[],[]⟩)] [] [] .leaf .leaf)))))
def KE(lp:Lp)(c:Ca)(a0 a1:D):Option D:=(qZ lp (λv1=>qL a0 (gx v1 2) λl=>if l then(qG a1 [0] λm=>qX a0 (gx v1 2) λn=>(D.fld n 0).bind λo=>(c 105 [m,o]).bind λi=>(qN (gx v1 1) λe=>(if e then(D.truth i) else(some false)).bind λf=>qT (D.bool f) λg=>if g then(if List.length (qV v1 0)+List.length [a1]<=1073741824 then(some (0,[(D.sl ((qV v1 0)++[a1])),(D.bool true)])) else none) else(some (0,[(qW v1 0),(gx v1 1)]))).bind λ(b:Nat×List D)=>qX a0 (gx v1 2) λd=>if List.length (qV b.2 0)+List.length [d]<=1073741824 then(qB .add (gx v1 2) (Jn 1) λk=>iL [(D.sl ((qV b.2 0)++[d])),(gx b.2 1),k]) else none) else(iR (0,[(qW v1 0),(gx v1 1)]))) [(D.sl []),(D.bool false),(Jn 0)]).bind λa=>(qN (gx a.2 1) λh=>if h then(if List.length (qV a.2 0)+List.length [a1]<=1073741824 then(some (0,[(D.sl ((qV a.2 0)++[a1]))])) else none) else(some (0,[(qW a.2 0)]))).bind λ(j:Nat×List D)=>some (qW j.2 0)
def UY:ae 110 (m2 (KE lp)):=aR 0 Tryz.f188 TB a
end
end Sy
end
set_option maxHeartbeats 0
noncomputable section
namespace Sy
open Go Go.Proofs
section
variable{lp}(a:av lp)
def TC:Ann:=let a:LS:=[(4,.sp K1 4100),(7,.ow Ti),(8,.di)];let b:LS:=[(4,.sp K1 4100),(7,.ow Ti),(11,.di)];(.tl (.tl (.tl (.two (.tl (.two (.loop ⟨[(4,.sp K1 4100),(7,.ow Ti),(8,.di),(9,.di)],[(4100,.keep K1 4)],[0,2]⟩ [(.exit 0,⟨a,[(4100,.keep K1 4)],[0,2]⟩)] (.tl (.cut [(.normal,⟨a,[(4100,.keep K1 4)],[0,2,9]⟩)] [0,2,9] [4100] (.two (.two (.reg [] 7) .leaf) .leaf) .leaf))) .leaf)) (.tl (.two (.two (.loop ⟨a,[(4100,.keep K1 4)],[0,2,10]⟩ [(.exit 2,⟨[(7,.ow Ti)],[],[]⟩)] (.tl (.two (.tl (.tl (.two (.tl (.two (.loop ⟨[(4,.sp K1 4100),(7,.ow Ti),(11,.di),(12,.di)],[(4100,.keep K1 4)],[0,2,8,10]⟩ [(.exit 4,⟨b,[(4100,.keep K1 4)],[0,2,10]⟩)] (.tl (.cut [(.normal,⟨b,[(4100,.keep K1 4)],[0,2,8,10,12]⟩)] [0,2,8,10,12] [4100] (.two (.tl (.two (.two (.reg [] 12) .leaf) .leaf)) .leaf) .leaf))) .leaf)) .leaf))) .leaf))) .leaf) .leaf))))))
def KF(lp:Lp)(c:Ca)(a0 a1 a2:D):Option D:=(qZ lp (λv1=>qL a0 (gx v1 2) λG=>(if G then(qB .lss (gx v1 1) (Jn 0) λJ=>D.truth J) else(some false)).bind λH=>qT (D.bool H) λI=>if I then((qX a0 (gx v1 2) λx=>(c 107 [a1,x]).bind λt=>qT (D.bool (D.beq t a2)) λg=>if g then(some (0,[(qW v1 0),(gx v1 2)])) else(some (0,[(qW v1 0),(gx v1 1)]))).bind λ(e:Nat×List D)=>qB .add (gx v1 2) (Jn 1) λy=>iL [(qW e.2 0),(gx e.2 1),y]) else(iR (0,[(qW v1 0),(gx v1 1)]))) [(D.sl []),(Jn (-1)),(Jn 0)]).bind λd=>(qZ lp (λa=>qS a0 λs=>qC .leq (Jn (List.length (qV a 0))) (Jn (s.length)) λh=>if h then(if List.length (qV a 0)+List.length [(gx a 1)]<=1073741824 then((qZ lp (λv20=>qL a0 (gx v20 2) λi=>(if i then(qB .lss (gx v20 1) (Jn 0) λz=>D.truth z) else(some false)).bind λj=>qT (D.bool j) λk=>if k then((qT (D.bool (!(D.beq (gx v20 2) (gx a 1)))) λl=>(if l then(qX a0 (gx v20 2) λA=>(c 107 [a1,A]).bind λu=>D.truth (D.bool (D.beq u a2))) else(some false)).bind λm=>qT (D.bool m) λn=>if n then(qX a0 (gx a 1) λB=>qX a0 (gx v20 2) λC=>(c 156 [a0,a1,a2,B,C]).bind λv=>qT v λo=>if o then(some (0,[(qW v20 0),(gx v20 2)])) else(some (0,[(qW v20 0),(gx v20 1)]))) else(some (0,[(qW v20 0),(gx v20 1)]))).bind λ(f:Nat×List D)=>qB .add (gx v20 2) (Jn 1) λE=>iL [(qW f.2 0),(gx f.2 1),E]) else(iR (0,[(qW v20 0),(gx v20 1)]))) [(D.sl ((qV a 0)++[(gx a 1)])),(Jn (-1)),(Jn 0)]).bind λb=>qT (D.bool (D.beq (gx b.2 1) (gx d.2 1))) λp=>(if p then(some true) else(qB .lss (gx b.2 1) (Jn 0) λF=>D.truth F)).bind λq=>qT (D.bool q) λr=>if r then(iR (0,[(qW b.2 0)])) else(iL [(qW b.2 0),(gx b.2 1)])) else none) else(iR (0,[(qW a 0)]))) [(qW d.2 0),(gx d.2 1)]).bind λw=>some (qW w.2 0)
def UZ:ae 111 (m3 (KF lp)):=qb 0 Tryz.f189 TC a
def KG(lp:Lp)(c:Ca)(a0 a1:D):Option D:=qG a0 [0] λa=>qG a1 [0] λb=>qB .sub a b λd=>qG a0 [1] λe=>qG a1 [1] λf=>qB .sub e f λg=>qG a0 [2] λh=>qG a1 [2] λi=>qB .sub h i λj=>some (D.st [d,g,j])
def U0:ae 112 (m2 (KG lp)):=aR 0 Tryz.f122 .leaf a
def KH(lp:Lp)(c:Ca)(a0:D):Option D:=some (D.bool (!(D.beq a0 a0)))
def U2:ae 115 (m1 (KH lp)):=bD 0 Tryz.f214 .leaf a
def TD:Ann:=(.tl (.two (.reg [] 8) .leaf))
def KI(lp:Lp)(c:Ca)(a0 a1:D):Option D:=qT a0 λa=>(if a then(D.truth (D.bool (!(D.beq a1 (D.st (abS (List.replicate 16 (D.int .u32 0)) [])))))) else(some false)).bind λb=>some (D.st [(D.bool false),(D.bool b),a1])
def U3:ae 116 (m2 (KI lp)):=aR 0 Tryz.f115 TD a
def KJ(lp:Lp)(c:Ca)(a0 a1:D):Option D:=qG a0 [1] λn=>qG a1 [2] λo=>qB .mul n o λp=>qG a0 [2] λq=>qG a1 [1] λr=>qB .mul q r λs=>qB .sub p s λt=>qG a0 [2] λu=>qG a1 [0] λv=>qB .mul u v λa=>qG a0 [0] λb=>qG a1 [2] λd=>qB .mul b d λe=>qB .sub a e λf=>qG a0 [0] λg=>qG a1 [1] λh=>qB .mul g h λi=>qG a0 [1] λj=>qG a1 [0] λk=>qB .mul j k λl=>qB .sub i l λm=>some (D.st [t,f,m])
def U4:ae 117 (m2 (KJ lp)):=aR 0 Tryz.f210 .leaf a
def TE:Ann:=(.tl (.two (.tl (.two (.loop ⟨[(7,.di)],[],[5,6]⟩ [(.ret,⟨[(2,.dv Ty.bool)],[],[]⟩),(.exit 0,⟨[],[],[]⟩)] .leaf) .leaf)) .leaf))
def KK(lp:Lp)(c:Ca)(a0:D):Option D:=qS a0 λk=>(qZ lp (λv2=>qC .lss (gx v2 0) (Jn (k.length)) λi=>if i then(qX a0 (gx v2 0) λh=>qG h [0] λl=>qT l λj=>(if j then(some true) else((c 167 [h]).bind λe=>(abU .not e).bind λf=>D.truth f)).bind λb=>qT (D.bool b) λd=>if d then(iR (0,[(D.bool false)])) else(qB .add (gx v2 0) (Jn 1) λg=>iL [g])) else(iR (1,[]))) [(Jn 0)]).bind λa=>if a.1=0 then(some (gx a.2 0)) else(some (D.bool true))
def U5:ae 118 (m1 (KK lp)):=bD 0 Tryz.f163 TE a
def KL(lp:Lp)(c:Ca) :Option D:=some (D.st [(D.bool true),(D.bool false),(aq aP)])
def U6:ae 119 (m0 (KL lp)):=xJ 0 Tryz.f164 .leaf a
def TF:Ann:=(.tl (.tl (.tl (.two (.tl (.two (.loop ⟨[(2,.sp aP 4098),(3,.sp aP 4099),(4,.sp aP 4100),(6,.sp aP 8198),(7,.dv (Ty.int .u64)),(9,.di)],[(4098,.keep aP 2),(4099,.keep aP 3),(4100,.keep aP 4),(8198,.one aP (.dv aP))],[]⟩ [(.exit 0,⟨[(4,.sp aP 4100),(6,.sp aP 8198),(7,.dv (Ty.int .u64))],[(4100,.keep aP 4),(8198,.one aP (.dv aP))],[]⟩)] (.tl (.tl (.two (.two (.tl (.two (.reg [] 11) .leaf)) .leaf) .leaf)))) .leaf)) .leaf))))
def KM(lp:Lp)(c:Ca)(a0 a1:D):Option D:=(qZ lp (λv1=>qC .lss (gx v1 1) (Jn 16) λi=>if i then(qJ (gx v1 1) 16 a0 λj=>(D.conv .u64 j).bind λk=>qJ (gx v1 1) 16 a1 λl=>(D.conv .u64 l).bind λm=>qB .add k m λd=>qB .add (gx v1 0) d λb=>(D.conv .u32 b).bind λe=>(D.idx (gx v1 1) 16).bind λi13=>(D.set (gx v1 2) [i13] e).bind λf=>qB .shr b (D.int .u64 32) λg=>qB .add (gx v1 1) (Jn 1) λh=>iL [g,h,f]) else(iR (0,[(gx v1 0),(gx v1 2)]))) [(D.int .u64 0),(Jn 0),(aq aP)]).bind λa=>some (D.tup [(gx a.2 1),(D.bool (D.beq (gx a.2 0) (D.int .u64 0)))])
def U7:ae 120 (m2 (KM lp)):=aR 0 Tryz.f171 TF a
def TG:Ann:=(.tl (.two (.tl (.two (.loop ⟨[(2,.sp aP 4098),(3,.sp aP 4099),(5,.di)],[(4098,.keep aP 2),(4099,.keep aP 3)],[]⟩ [(.ret,⟨[(4,.di)],[],[]⟩),(.exit 0,⟨[],[],[]⟩)] (.tl (.two (.two (.two (.reg [] 6) (.two (.two (.reg [] 7) .leaf) .leaf)) .leaf) .leaf))) .leaf)) .leaf))
def KN(lp:Lp)(c:Ca)(a0 a1:D):Option D:=(qZ lp (λv1=>qC .geq (gx v1 0) (Jn 0) λg=>if g then(qJ (gx v1 0) 16 a0 λi=>qJ (gx v1 0) 16 a1 λj=>qT (D.bool (!(D.beq i j))) λh=>if h then(qJ (gx v1 0) 16 a0 λd=>qJ (gx v1 0) 16 a1 λe=>(c 168 [d,e]).bind λb=>iR (0,[b])) else(qB .sub (gx v1 0) (Jn 1) λf=>iL [f])) else(iR (1,[]))) [(Jn 15)]).bind λa=>if a.1=0 then(some (gx a.2 0)) else(some (Jn 0))
def U8:ae 121 (m2 (KN lp)):=aR 0 Tryz.f170 TG a
def TH:Ann:=(.tl (.tl (.tl (.two (.tl (.two (.loop ⟨[(2,.sp aP 4098),(3,.sp aP 4099),(4,.sp aP 4100),(5,.sp aP 8197),(6,.dv (Ty.int .u64)),(9,.di)],[(4098,.keep aP 2),(4099,.keep aP 3),(4100,.keep aP 4),(8197,.one aP (.dv aP))],[]⟩ [(.exit 0,⟨[(4,.sp aP 4100),(5,.sp aP 8197)],[(4100,.keep aP 4),(8197,.one aP (.dv aP))],[]⟩)] (.tl (.tl (.two (.two (.tl (.two (.reg [] 11) .leaf)) .leaf) .leaf)))) .leaf)) .leaf))))
def KO(lp:Lp)(c:Ca)(a0 a1:D):Option D:=(qZ lp (λv1=>qC .lss (gx v1 1) (Jn 16) λi=>if i then(qJ (gx v1 1) 16 a0 λj=>(D.conv .u64 j).bind λk=>qJ (gx v1 1) 16 a1 λl=>(D.conv .u64 l).bind λm=>qB .sub k m λd=>qB .sub d (gx v1 0) λa=>(D.conv .u32 a).bind λe=>(D.idx (gx v1 1) 16).bind λi13=>(D.set (gx v1 2) [i13] e).bind λf=>qB .shr a (D.int .u64 63) λg=>qB .add (gx v1 1) (Jn 1) λh=>iL [g,h,f]) else(iR (0,[(gx v1 2)]))) [(D.int .u64 0),(Jn 0),(aq aP)]).bind λb=>some (gx b.2 0)
def U9:ae 122 (m2 (KO lp)):=aR 0 Tryz.f172 TH a
def KP(lp:Lp)(c:Ca)(a0 a1:D):Option D:=qG a0 [1] λn=>qG a1 [2] λo=>qB .mul n o λp=>qG a0 [2] λq=>qG a1 [1] λr=>qB .mul q r λs=>qB .sub p s λt=>qG a0 [2] λu=>qG a1 [0] λv=>qB .mul u v λa=>qG a0 [0] λb=>qG a1 [2] λd=>qB .mul b d λe=>qB .sub a e λf=>qG a0 [0] λg=>qG a1 [1] λh=>qB .mul g h λi=>qG a0 [1] λj=>qG a1 [0] λk=>qB .mul j k λl=>qB .sub i l λm=>some (D.st [t,f,m])
def Va:ae 123 (m2 (KP lp)):=aR 0 Tryz.f215 .leaf a
def TI:Ann:=(.tl (.tl (.tl (.two (.tl (.two (.loop ⟨[(1,.sp aQ 4097),(5,.di)],[(4097,.keep aQ 1)],[]⟩ [(.ret,⟨[(2,.di),(3,.dv Ty.bool)],[],[]⟩),(.exit 0,⟨[(1,.sp aQ 4097)],[(4097,.keep aQ 1)],[]⟩)] .leaf) .leaf)) .leaf))))
def Ho(lp:Lp)(c:Ca)(a0:D):Option D:=(c 76 [a0]).bind λr1=>qN r1 λq=>(if q then(some true) else(qG a0 [2,1] λt=>qB .geq t (D.int .u32 1073741824) λu=>D.truth u)).bind λr=>qT (D.bool r) λs=>if s then(some (D.tup [(Jn 0),(D.bool false)])) else((qZ lp (λg=>qC .lss (gx g 0) (Jn 16) λd=>if d then((D.idx (gx g 0) 16).bind λi11=>qG a0 [2,i11] λh=>qT (D.bool (!(D.beq h (D.int .u32 0)))) λe=>if e then(iR (0,[(Jn 0),(D.bool false)])) else(qB .add (gx g 0) (Jn 1) λi=>iL [i])) else(iR (1,[]))) [(Jn 2)]).bind λa=>if a.1=0 then(some (D.tup [(gx a.2 0),(gx a.2 1)])) else(qG a0 [2,1] λj=>(D.conv .i64 j).bind λk=>qB .mul k (Jn 4294967296) λl=>qG a0 [2,0] λm=>(D.conv .i64 m).bind λn=>qB .add l n λb=>qG a0 [1] λo=>qT o λf=>if f then((abU .neg b).bind λp=>some (D.tup [p,(D.bool true)])) else(some (D.tup [b,(D.bool true)]))))
def Vb:ae 124 (m1 (Ho lp)):=bD 0 Tryz.f148 TI a
def QC(lp:Lp)(c:Ca) :Option D:=some (D.st [(D.bool true),(D.bool false),(aq aP)])
def Vc:ae 125 (m0 (QC lp)):=xJ 0 Tryz.f147 .leaf a
def TJ:Ann:=(.tl (.tl (.tl (.two (.tl (.two (.loop ⟨[(5,.ow Ti),(6,.di),(7,.di)],[],[0,1]⟩ [(.exit 0,⟨[(5,.ow Ti)],[],[]⟩)] (.tl (.two (.two (.two (.reg [] 10) (.tl (.cut [(.normal,⟨[(5,.ow Ti),(6,.di),(8,.di)],[],[0,1,7]⟩)] [0,1,7] [] .leaf .leaf))) .leaf) .leaf))) .leaf)) .leaf))))
def QD(lp:Lp)(c:Ca)(a0 a1:D):Option D:=(qZ lp (λv1=>qL a0 (gx v1 2) λi=>if i then(qX a0 (gx v1 2) λk=>(c 141 [a1,(gx v1 2)]).bind λj=>qB .sub k j λl=>qB .sub l (gx v1 1) λb=>(qC .lss b (Jn 0) λd=>if d then(qB .add b (Jn 65536) λg=>some (0,[(qW v1 0),(Jn 1),g])) else(some (0,[(qW v1 0),(Jn 0),b]))).bind λ(a:Nat×List D)=>if List.length (qV a.2 0)+List.length [(gx a.2 2)]<=1073741824 then(qB .add (gx v1 2) (Jn 1) λh=>iL [(D.sl ((qV a.2 0)++[(gx a.2 2)])),(gx a.2 1),h]) else none) else(iR (0,[(qW v1 0)]))) [(D.sl []),(Jn 0),(Jn 0)]).bind λe=>(c 140 [(qW e.2 0)]).bind λf=>some f
def Vd:ae 126 (m2 (QD lp)):=aR 0 Tryz.f155 TJ a
def TL:Ann:=(.tl (.tl (.two (.two (.loop ⟨[(1,.sp aP 4097),(3,.di)],[(4097,.keep aP 1)],[]⟩ [(.exit 0,⟨[(3,.di)],[],[]⟩)] .leaf) .leaf) .leaf)))
def KQ(lp:Lp)(c:Ca)(a0:D):Option D:=(qZ lp (λv1=>qC .gtr (gx v1 0) (Jn 0) λb=>(if b then(qB .sub (gx v1 0) (Jn 1) λf=>qJ f 16 a0 λg=>D.truth (D.bool (D.beq g (D.int .u32 0)))) else(some false)).bind λd=>qT (D.bool d) λe=>if e then(qB .sub (gx v1 0) (Jn 1) λh=>iL [h]) else(iR (0,[(gx v1 0)]))) [(Jn 16)]).bind λa=>some (gx a.2 0)
def Ve:ae 127 (m1 (KQ lp)):=bD 0 Tryz.f165 TL a
def Hp(lp:Lp)(c:Ca)(a0:D):Option D:=qG a0 [0] λe=>qN e λa=>(if a then((c 167 [a0]).bind λd=>D.truth d) else(some false)).bind λb=>some (D.bool b)
def Vf:ae 128 (m1 (Hp lp)):=bD 0 Tryz.f109 .leaf a
def KR(lp:Lp)(c:Ca)(a0:D):Option D:=(c 118 [(D.sl [a0])]).bind λr1=>qN r1 λa=>(if a then(some true) else(qG a0 [2] λf=>D.truth (D.bool (D.beq f (D.st (abS (List.replicate 16 (D.int .u32 0)) [])))))).bind λb=>qT (D.bool b) λd=>if d then(some (Jn 0)) else(qG a0 [1] λg=>qT g λe=>if e then(some (Jn (-1))) else(some (Jn 1)))
def Vg:ae 129 (m1 (KR lp)):=bD 0 Tryz.f106 .leaf a
def KS(lp:Lp)(c:Ca) :Option D:=(c 119 []).bind λr1=>(c 169 []).bind λa=>some (D.st [r1,a])
def Vh:ae 130 (m0 (KS lp)):=xJ 0 Tryz.f107 .leaf a
def TM:Ann:=(.tl (.tl (.two (.tl (.two (.two (.reg [] 21) (.two (.two (.loop ⟨[(4,.sp aQ 4100),(5,.dv (Ty.int .u64)),(6,.dv (Ty.int .u64))],[(4100,.keep aQ 4)],[]⟩ [(.exit 0,⟨[(4,.sp aQ 4100),(5,.dv (Ty.int .u64))],[(4100,.keep aQ 4)],[]⟩)] (.tl (.two (.reg [] 5) .leaf))) .leaf) .leaf)) .leaf)) (.two (.two (.reg [] 6) (.tl (.two (.tl (.two (.reg [] 5) .leaf)) .leaf))) .leaf))))
def KU(lp:Lp)(c:Ca)(a0 a1:D):Option D:=(c 118 [(D.sl [a0,a1])]).bind λr1=>qN r1 λI=>if I then((c 119 []).bind λK=>some K) else(qG a0 [2] λN=>(c 127 [N]).bind λL=>qC .leq L (Jn 2) λJ=>(if J then(qG a1 [2] λO=>(c 127 [O]).bind λi=>qB .leq i (Jn 2) λo=>D.truth o) else(some false)).bind λe=>qT (D.bool e) λf=>if f then(qG a0 [2,1] λp=>(D.conv .u64 p).bind λq=>qB .shl q (D.int .u64 32) λr=>qG a0 [2,0] λs=>(D.conv .u64 s).bind λt=>qB .or r t λu=>qG a1 [2,1] λv=>(D.conv .u64 v).bind λw=>qB .shl w (D.int .u64 32) λx=>qG a1 [2,0] λy=>(D.conv .u64 y).bind λz=>qB .or x z λA=>(qZ lp (λv26=>qT (D.bool (!(D.beq (gx v26 1) (D.int .u64 0)))) λg=>if g then(qB .rem (gx v26 0) (gx v26 1) λB=>iL [(gx v26 1),B]) else(iR (0,[(gx v26 0)]))) [u,A]).bind λb=>(D.conv .u32 (gx b.2 0)).bind λC=>qB .shr (gx b.2 0) (D.int .u64 32) λE=>(D.conv .u32 E).bind λF=>(c 116 [(D.bool false),(D.st (abS (List.replicate 16 (D.int .u32 0)) [(0,C),(1,F)]))]).bind λj=>some j) else(qG a0 [2] λG=>qG a1 [2] λa=>qT (D.bool (!(D.beq a (D.st (abS (List.replicate 16 (D.int .u32 0)) []))))) λh=>if h then((c 170 [G,a]).bind λd=>(D.tupAt d 0).bind λM=>(D.tupAt d 1).bind λH=>(c 116 [(D.bool false),a]).bind λk=>(c 116 [(D.bool false),H]).bind λl=>(c 131 [k,l]).bind λm=>some m) else((c 171 [a0]).bind λn=>some n)))
def Vi:ae 131 (m2 (KU lp)):=aR 0 Tryz.f110 TM a
def FC(lp:Lp)(c:Ca)(a0 a1:D):Option D:=(c 172 [a0,a1]).bind λr1=>(D.tupAt r1 0).bind λa=>(D.tupAt r1 1).bind λb=>some a
def Vj:ae 132 (m2 (FC lp)):=aR 0 Tryz.f112 .leaf a
def QE(lp:Lp)(c:Ca) :Option D:=(c 34 [(Jn 1)]).bind λr1=>some r1
def Vk:ae 133 (m0 (QE lp)):=xJ 0 Tryz.f91 .leaf a
def TN:Ann:=(.tl (.tl (.two (.tl (.two (.loop ⟨[(2,.sp cr 4098),(3,.sp cr 4099),(4,.sp cd 4100),(5,.sp cd 8197),(8,.di)],[(4098,.keep cr 2),(4099,.keep cr 3),(4100,.keep cd 4),(8197,.one cd (.dv cd))],[]⟩ [(.exit 0,⟨[(4,.sp cd 4100),(5,.sp cd 8197)],[(4100,.keep cd 4),(8197,.one cd (.dv cd))],[]⟩)] (.tl (.tl (.two (.two (.tl (.reg [] 9)) .leaf) .leaf)))) .leaf)) .leaf)))
def KV(lp:Lp)(c:Ca)(a0 a1:D):Option D:=(c 74 [(Jn 0)]).bind λr1=>(qZ lp (λv2=>qC .lss (gx v2 0) (Jn 3) λe=>if e then(qJ (gx v2 0) 3 a0 λg=>qJ (gx v2 0) 3 a1 λh=>(c 174 [g,h]).bind λf=>(c 173 [(gx v2 1),f]).bind λa=>qB .add (gx v2 0) (Jn 1) λd=>iL [d,a]) else(iR (0,[(gx v2 1)]))) [(Jn 0),r1]).bind λb=>some (gx b.2 0)
def Vl:ae 134 (m2 (KV lp)):=aR 0 Tryz.f130 TN a
def TO:Ann:=(.tl (.two (.reg [] 10) .leaf))
def KW(lp:Lp)(c:Ca)(a0:D):Option D:=qG a0 [0] λe=>(c 74 [e]).bind λa=>qG a0 [1] λf=>(c 74 [f]).bind λb=>qG a0 [2] λg=>(c 74 [g]).bind λd=>some (D.st [a,b,d])
def Vm:ae 135 (m1 (KW lp)):=bD 0 Tryz.f62 TO a
def Hq(lp:Lp)(c:Ca)(a0:D):Option D:=qG a0 [0] λp=>(c 128 [p]).bind λm=>qT m λj=>(if j then(qG a0 [1] λq=>(c 128 [q]).bind λn=>D.truth n) else(some false)).bind λk=>qT (D.bool k) λl=>(if l then(qG a0 [1] λr=>(c 129 [r]).bind λo=>qB .gtr o (Jn 0) λg=>D.truth g) else(some false)).bind λa=>qT (D.bool a) λb=>(if b then(qG a0 [0] λh=>qG a0 [1] λi=>(c 131 [h,i]).bind λe=>(c 169 []).bind λf=>D.truth (D.bool (D.beq e f))) else(some false)).bind λd=>some (D.bool d)
def Vn:ae 136 (m1 (Hq lp)):=bD 0 Tryz.f105 .leaf a
def KX(lp:Lp)(c:Ca)(a0 a1:D):Option D:=(c 172 [a0,a1]).bind λr1=>(D.tupAt r1 0).bind λb=>(D.tupAt r1 1).bind λa=>some a
def Vo:ae 137 (m2 (KX lp)):=aR 0 Tryz.f117 .leaf a
def TP:Ann:=(.tl (.two (.reg [] 3) .leaf))
def KY(lp:Lp)(c:Ca)(a0:D):Option D:=(c 169 []).bind λr1=>(c 62 [a0,r1]).bind λa=>some a
def Vp:ae 138 (m1 (KY lp)):=bD 0 Tryz.f119 TP a
def TQ:Ann:=(.tl (.tl (.two (.tl (.two (.loop ⟨[(1,.sp aQ 4097),(3,.dv Ty.bool),(4,.di)],[(4097,.keep aQ 1)],[]⟩ [(.exit 0,⟨[(1,.sp aQ 4097),(3,.dv Ty.bool)],[(4097,.keep aQ 1)],[]⟩)] .leaf) .leaf)) .leaf)))
def KZ(lp:Lp)(c:Ca)(a0:D):Option D:=(qZ lp (λv1=>qC .lss (gx v1 1) (Jn 16) λm=>if m then(qT (gx v1 0) λn=>(if n then((D.idx (gx v1 1) 16).bind λi5=>qG a0 [2,i5] λp=>D.truth (D.bool (D.beq p (D.int .u32 0)))) else(some false)).bind λo=>qB .add (gx v1 1) (Jn 1) λq=>iL [(D.bool o),q]) else(iR (0,[(gx v1 0)]))) [(D.bool true),(Jn 0)]).bind λl=>qG a0 [0] λg=>qT g λa=>if a then(qT (gx l.2 0) λb=>(if b then(qG a0 [1] λh=>(abU .not h).bind λi=>D.truth i) else(some false)).bind λd=>some (D.bool d)) else(qN (gx l.2 0) λe=>(if e then(some true) else(qG a0 [1] λj=>(abU .not j).bind λk=>D.truth k)).bind λf=>some (D.bool f))
def Vq:ae 139 (m1 (KZ lp)):=bD 0 Tryz.f142 TQ a
def TR:Ann:=(.tl (.tl (.two (.two (.loop ⟨[(3,.di)],[],[0]⟩ [(.exit 0,⟨[(3,.di)],[],[0]⟩)] .leaf) .leaf) .leaf)))
def La(lp:Lp)(c:Ca)(a0:D):Option D:=qS a0 λi=>(qZ lp (λv2=>qC .gtr (gx v2 0) (Jn 0) λg=>(if g then(qB .sub (gx v2 0) (Jn 1) λj=>qX a0 j λk=>D.truth (D.bool (D.beq k (Jn 0)))) else(some false)).bind λh=>qT (D.bool h) λa=>if a then(qB .sub (gx v2 0) (Jn 1) λf=>iL [f]) else(iR (0,[(gx v2 0)]))) [(Jn (i.length))]).bind λe=>qS a0 λb=>(D.natOf (gx e.2 0)).bind λi14=>(D.cut b 0 i14).bind λd=>some (D.sl d)
def Vr:ae 140 (m1 (La lp)):=bD 0 Tryz.f143 TR a
def Lb(lp:Lp)(c:Ca)(a0 a1:D):Option D:=qL a0 a1 λa=>if a then(qX a0 a1 λb=>some b) else(some (Jn 0))
def Vs:ae 141 (m2 (Lb lp)):=aR 0 Tryz.f144 .leaf a
def Lc(lp:Lp)(c:Ca)(a0:D):Option D:=(c 76 [a0]).bind λr1=>qN r1 λa=>if a then((c 125 []).bind λb=>some b) else((c 77 [a0]).bind λd=>(c 81 [(D.bool false),d]).bind λe=>some e)
def Vt:ae 142 (m1 (Lc lp)):=bD 0 Tryz.f149 .leaf a
end
end Sy
end
set_option maxHeartbeats 0
noncomputable section
namespace Sy
open Go Go.Proofs
section
variable{lp}(a:av lp)
def TS:Ann:=let a:LS:=[(6,.same (.mem Ti 8207)),(11,.di),(12,.dv K5)];(.tl (.tl (.tl (.two (.reg [] 11) (.tl (.two (.tl (.two (.loop ⟨[(6,.same (.mem Ti 8207)),(9,.dv K5),(10,.di)],[(8207,.many Ti)],[0,1,7,8]⟩ [(.exit 0,⟨[(6,.same (.mem Ti 8207)),(9,.dv K5)],[(8207,.many Ti)],[]⟩)] (.tl (.two (.two (.tl (.tl (.tl (.two (.two (.loop ⟨a,[(8207,.many Ti)],[0,1,7,8,9,10]⟩ [(.exit 2,⟨a,[(8207,.many Ti)],[0,1,7,8,9,10]⟩)] .leaf) .leaf) .leaf)))) .leaf) .leaf))) .leaf)) (.two (.reg [6] 5) .leaf)))))))
def QF(lp:Lp)(c:Ca)(a0 a1:D):Option D:=qS a0 λI=>(D.natOf (Jn (I.length))).bind λi2=>if i2<=1073741824 then(qS a1 λg=>qB .sub (Jn (g.length)) (Jn 1) λJ=>qX a1 J λL=>qB .mul L (Jn 65536) λM=>qB .sub (Jn (g.length)) (Jn 2) λN=>(c 175 [a1,N]).bind λn=>qB .add M n λw=>qS a0 λm=>qB .sub (Jn (m.length)) (Jn 1) λx=>(qZ lp (λa=>qC .geq (gx a 1) (Jn 0) λk=>if k then(qX a0 (gx a 1) λi=>qS (gx a 0) λf=>if List.length [i]+f.length<=1073741824 then((c 140 [(D.sl ([i]++f))]).bind λd=>(c 175 [d,(Jn (g.length))]).bind λo=>qB .mul o (Jn 4294967296) λy=>qB .sub (Jn (g.length)) (Jn 1) λz=>(c 175 [d,z]).bind λp=>qB .mul p (Jn 65536) λA=>qB .add y A λB=>qB .sub (Jn (g.length)) (Jn 2) λC=>(c 175 [d,C]).bind λq=>qB .add B q λE=>qB .quo E w λF=>(D.min2 (Jn 65535) F).bind λj=>(c 146 [a1,(D.sl [j])]).bind λr=>(qZ lp (λb=>(c 78 [d,(gx b 1)]).bind λs=>qT s λl=>if l then(qB .sub (gx b 0) (Jn 1) λG=>(c 126 [(gx b 1),a1]).bind λt=>iL [G,t,(qW b 2)]) else(iR (0,[(gx b 0),(gx b 1),(qW b 2)]))) [j,r,(qW a 2)]).bind λe=>(D.idx (gx a 1) (List.length (qV e.2 2))).bind λi40=>((qV e.2 2)[i40]?).bind λK=>(c 126 [d,(gx e.2 1)]).bind λu=>qB .sub (gx a 1) (Jn 1) λH=>iL [u,H,(D.sl (List.set (qV e.2 2) i40 (gx e.2 0)))]) else none) else(iR (0,[(gx a 0),(qW a 2)]))) [(D.sl []),x,(D.sl (List.replicate i2 (Jn 0)))]).bind λh=>(c 140 [(qW h.2 1)]).bind λv=>some (D.tup [v,(gx h.2 0)])) else none
def Vu:ae 143 (m2 (QF lp)):=aR 0 Tryz.f150 TS a
def TT:Ann:=(.tl (.tl (.cut [(.normal,⟨[(5,.di)],[],[]⟩)] [] [] .leaf .leaf)))
def Ld(lp:Lp)(c:Ca)(a0 a1:D):Option D:=qB .quo a0 a1 λa=>(qB .rem a0 a1 λg=>qT (D.bool (!(D.beq g (Jn 0)))) λb=>(if b then(qB .lss a0 (Jn 0) λh=>qB .lss a1 (Jn 0) λi=>D.truth (D.bool (!(D.beq h i)))) else(some false)).bind λd=>qT (D.bool d) λe=>if e then(qB .sub a (Jn 1) λj=>some (0,[j])) else(some (0,[a]))).bind λ(f:Nat×List D)=>some (gx f.2 0)
def Vv:ae 144 (m2 (Ld lp)):=aR 0 Tryz.f152 TT a
def TU:Ann:=let a:LS:=[(5,.same (.mem Ti 8209))];(.tl (.tl (.two (.tl (.two (.loop ⟨[(5,.same (.mem Ti 8209)),(6,.di)],[(8209,.many Ti)],[0,1]⟩ [(.exit 0,⟨a,[(8209,.many Ti)],[]⟩)] (.tl (.two (.two (.two (.tl (.two (.loop ⟨[(5,.same (.mem Ti 8209)),(7,.di)],[(8209,.many Ti)],[0,1,6]⟩ [(.exit 2,⟨a,[(8209,.many Ti)],[0,1,6]⟩)] (.tl (.two (.two (.reg [] 21) .leaf) .leaf))) .leaf)) (.tl (.tl (.two (.loop ⟨[(5,.same (.mem Ti 8209)),(8,.di),(9,.di)],[(8209,.many Ti)],[0,1,6]⟩ [(.exit 4,⟨a,[(8209,.many Ti)],[0,1,6]⟩)] .leaf) .leaf)))) .leaf) .leaf))) .leaf)) (.two (.reg [5] 3) .leaf))))
def QG(lp:Lp)(c:Ca)(a0 a1:D):Option D:=qS a0 λw=>qS a1 λx=>qB .add (Jn (w.length)) (Jn (x.length)) λz=>qB .add z (Jn 1) λB=>(D.natOf B).bind λi5=>if i5<=1073741824 then((qZ lp (λv6=>qL a0 (gx v6 0) λv=>if v then((qZ lp (λv10=>qL a1 (gx v10 0) λb=>if b then(qB .add (gx v6 0) (gx v10 0) λi=>qB .add (gx v6 0) (gx v10 0) λj=>(D.idx j (List.length (qV v10 1))).bind λi16=>((qV v10 1)[i16]?).bind λk=>qX a0 (gx v6 0) λl=>qX a1 (gx v10 0) λm=>qB .mul l m λn=>qB .add k n λo=>(D.idx i (List.length (qV v10 1))).bind λi26=>((qV v10 1)[i26]?).bind λy=>qB .add (gx v10 0) (Jn 1) λp=>iL [p,(D.sl (List.set (qV v10 1) i26 o))]) else(iR (0,[(qW v10 1)]))) [(Jn 0),(qW v6 1)]).bind λe=>(qZ lp (λv30=>qC .lss (gx v30 1) (Jn (List.length (qV v30 2))) λd=>if d then((D.idx (gx v30 1) (List.length (qV v30 2))).bind λi33=>((qV v30 2)[i33]?).bind λq=>qB .add q (gx v30 0) λa=>qB .rem a (Jn 65536) λr=>(D.idx (gx v30 1) (List.length (qV v30 2))).bind λi37=>((qV v30 2)[i37]?).bind λA=>qB .quo a (Jn 65536) λs=>qB .add (gx v30 1) (Jn 1) λt=>iL [s,t,(D.sl (List.set (qV v30 2) i37 r))]) else(iR (0,[(qW v30 2)]))) [(Jn 0),(Jn 0),(qW e.2 0)]).bind λf=>qB .add (gx v6 0) (Jn 1) λu=>iL [u,(qW f.2 0)]) else(iR (0,[(qW v6 1)]))) [(Jn 0),(D.sl (List.replicate i5 (Jn 0)))]).bind λg=>(c 140 [(qW g.2 0)]).bind λh=>some h) else none
def Vw:ae 146 (m2 (QG lp)):=aR 0 Tryz.f157 TU a
def TW:Ann:=(.tl (.tl (.two (.tl (.two (.loop ⟨[(2,.sp ii 4098),(3,.sp ii 4099),(4,.sp aQ 4100),(5,.sp aQ 8197),(8,.di)],[(4098,.keep ii 2),(4099,.keep ii 3),(4100,.keep aQ 4),(8197,.one aQ (.dv aQ))],[]⟩ [(.exit 0,⟨[(4,.sp aQ 4100),(5,.sp aQ 8197)],[(4100,.keep aQ 4),(8197,.one aQ (.dv aQ))],[]⟩)] (.tl (.tl (.two (.two (.tl (.reg [] 9)) .leaf) .leaf)))) .leaf)) .leaf)))
def Le(lp:Lp)(c:Ca)(a0 a1:D):Option D:=(c 54 [(Jn 0)]).bind λr1=>(qZ lp (λv2=>qC .lss (gx v2 0) (Jn 3) λe=>if e then(qJ (gx v2 0) 3 a0 λg=>qJ (gx v2 0) 3 a1 λh=>(c 61 [g,h]).bind λf=>(c 57 [(gx v2 1),f]).bind λa=>qB .add (gx v2 0) (Jn 1) λd=>iL [d,a]) else(iR (0,[(gx v2 1)]))) [(Jn 0),r1]).bind λb=>some (gx b.2 0)
def Vx:ae 147 (m2 (Le lp)):=aR 0 Tryz.f113 TW a
def TX:Ann:=(.tl (.two (.tl (.two (.loop ⟨[(2,.sp ii 4098),(6,.di)],[(4098,.one ii (.dv ii))],[5]⟩ [(.exit 0,⟨[(2,.sp ii 4098)],[(4098,.one ii (.dv ii))],[]⟩)] .leaf) .leaf)) .leaf))
def Lf(lp:Lp)(c:Ca)(a0:D):Option D:=(qZ lp (λv1=>qC .lss (gx v1 0) (Jn 3) λb=>if b then((D.idx (gx v1 0) 3).bind λi4=>(D.fld a0 i4).bind λe=>(c 54 [e]).bind λd=>(D.idx (gx v1 0) 3).bind λi7=>(D.set (gx v1 1) [i7] d).bind λf=>qB .add (gx v1 0) (Jn 1) λg=>iL [g,f]) else(iR (0,[(gx v1 1)]))) [(Jn 0),(D.st [(D.st [(D.bool false),(D.bool false),(aq aP)]),(D.st [(D.bool false),(D.bool false),(aq aP)]),(D.st [(D.bool false),(D.bool false),(aq aP)])])]).bind λa=>some (gx a.2 0)
def Vy:ae 148 (m1 (Lf lp)):=bD 0 Tryz.f114 TX a
def TY:Ann:=(.tl (.two (.two (.loop ⟨[(0,.di),(1,.di)],[],[]⟩ [(.exit 0,⟨[(0,.di)],[],[]⟩)] (.tl (.two (.reg [] 5) .leaf))) .leaf) .leaf))
def Lg(lp:Lp)(c:Ca)(a0 a1:D):Option D:=(qZ lp (λv1=>qT (D.bool (!(D.beq (gx v1 1) (Jn 0)))) λb=>if b then(qB .rem (gx v1 0) (gx v1 1) λd=>iL [(gx v1 1),d]) else(iR (0,[(gx v1 0)]))) [a0,a1]).bind λa=>(abU .neg (gx a.2 0)).bind λe=>(D.max2 (gx a.2 0) e).bind λf=>some f
def Vz:ae 152 (m2 (Lg lp)):=aR 0 Tryz.f211 TY a
def TZ:Ann:=(.tl (.two (.tl (.two (.loop ⟨[(2,.sp K1 4098),(3,.sp K1 4099),(4,.sp K1 4100),(6,.di)],[(4098,.one K1 (.dv K1)),(4099,.keep K1 3),(4100,.keep K1 4)],[]⟩ [(.exit 0,⟨[(2,.sp K1 4098),(4,.sp K1 4100)],[(4098,.one K1 (.dv K1)),(4100,.keep K1 4)],[]⟩)] (.tl (.tl (.two (.two (.tl (.reg [] 8)) .leaf) .leaf)))) .leaf)) .leaf))
def Lh(lp:Lp)(c:Ca)(a0 a1:D):Option D:=(qZ lp (λv1=>qC .lss (gx v1 0) (Jn 3) λe=>if e then(qJ (gx v1 0) 3 (gx v1 1) λf=>qJ (gx v1 0) 3 a1 λg=>qB .add f g λh=>(D.idx (gx v1 0) 3).bind λi9=>(D.set (gx v1 1) [i9] h).bind λb=>qB .add (gx v1 0) (Jn 1) λd=>iL [d,b]) else(iR (0,[(gx v1 1)]))) [(Jn 0),a0]).bind λa=>some (gx a.2 0)
def VA:ae 154 (m2 (Lh lp)):=aR 0 Tryz.f200 TZ a
def T1:Ann:=let a:LO:=[(4097,.keep ii 1),(4098,.keep dX 2),(8195,.one aQ (.dv aQ))];(.tl (.tl (.two (.tl (.two (.loop ⟨[(1,.sp ii 4097),(2,.sp dX 4098),(3,.sp aQ 8195),(4,.di)],a,[]⟩ [(.exit 0,⟨[(1,.sp ii 4097),(2,.sp dX 4098),(3,.sp aQ 8195)],a,[]⟩)] (.tl (.two (.two (.reg [] 5) .leaf) .leaf))) .leaf)) (.tl (.tl (.tl (.two (.tl (.two (.loop ⟨[(1,.sp ii 4097),(2,.sp dX 4098),(3,.sp aQ 8195),(5,.sp dX 28677),(6,.di)],[(4097,.keep ii 1),(4098,.one dX (.dv dX)),(8195,.keep aQ 3),(28677,.one dX (.dv dX))],[]⟩ [(.ret,⟨[(2,.sp dX 4098)],[(4098,.one dX (.dv dX))],[]⟩),(.exit 2,⟨[(2,.sp dX 4098),(5,.sp dX 28677)],[(4098,.one dX (.dv dX)),(28677,.one dX (.dv dX))],[]⟩)] (.tl (.two (.two (.two (.reg [] 10) .leaf) .leaf) .leaf))) .leaf)) .leaf)))))))
def Li(lp:Lp)(c:Ca)(a0:D):Option D:=(c 34 [(Jn 0)]).bind λr1=>(qZ lp (λv2=>qC .lss (gx v2 0) (Jn 3) λu=>if u then(qJ (gx v2 0) 3 a0 λw=>(c 85 [(gx v2 1),w]).bind λv=>qB .add (gx v2 0) (Jn 1) λx=>iL [x,v]) else(iR (0,[(gx v2 1)]))) [(Jn 0),r1]).bind λm=>qG (gx m.2 0) [0] λn=>qT n λe=>if e then(some (D.st [(D.st [(Jn 0),(Jn 0),(Jn 0)]),(Jn 30)])) else((c 83 [(gx m.2 0)]).bind λj=>qT (D.bool (D.beq j (Jn 0))) λf=>if f then(some (D.st [(D.st [(Jn 0),(Jn 0),(Jn 0)]),(Jn 31)])) else((qZ lp (λa=>qC .lss (gx a 0) (Jn 3) λg=>if g then(qJ (gx a 0) 3 a0 λo=>(c 87 [o,(gx m.2 0)]).bind λk=>(c 186 [k]).bind λd=>(D.tupAt d 0).bind λp=>(D.tupAt d 1).bind λq=>qN q λh=>if h then(iR (0,[(D.st [(D.st [(Jn 0),(Jn 0),(Jn 0)]),(Jn 30)])])) else((D.idx (gx a 0) 3).bind λi25=>(D.set (gx a 2) [0,i25] p).bind λr=>qB .add (gx a 0) (Jn 1) λs=>iL [s,(gx a 1),r])) else(iR (1,[(gx a 1),(gx a 2)]))) [(Jn 0),(D.st [(D.st [(Jn 0),(Jn 0),(Jn 0)]),(Jn 0)]),(D.st [(D.st [(Jn 0),(Jn 0),(Jn 0)]),(Jn 0)])]).bind λb=>if b.1=0 then(some (gx b.2 0)) else(qG (gx b.2 1) [0] λt=>(c 187 [t]).bind λl=>qN l λi=>if i then(some (D.st [(D.st [(Jn 0),(Jn 0),(Jn 0)]),(Jn 30)])) else(some (gx b.2 1)))))
def VB:ae 155 (m1 (Li lp)):=bD 0 Tryz.f173 T1 a
def T2:Ann:=let a:LO:=[(4102,.keep K1 6),(4104,.keep K1 8),(8203,.keep K1 11)];(.tl (.tl (.two (.tl (.two (.loop ⟨[(6,.sp K1 4102),(8,.sp K1 4104),(11,.sp K1 8203),(12,.di)],a,[0,2]⟩ [(.ret,⟨[(10,.dv Ty.bool)],[],[]⟩),(.exit 0,⟨[],[],[]⟩)] (.tl (.cut [(.normal,⟨[(6,.sp K1 4102),(8,.sp K1 4104),(11,.sp K1 8203)],a,[0,2,12]⟩),(.ret,⟨[(10,.dv Ty.bool)],[],[]⟩)] [0,2,12] [4102,4104,8203] (.two (.two (.two (.reg [] 7) .leaf) (.two (.reg [] 7) (.two (.reg [] 5) .leaf))) .leaf) .leaf))) .leaf)) .leaf)))
def Lj(lp:Lp)(c:Ca)(a0 a1:D)(a2 a3 a4:D):Option D:=(c 112 [a4,a3]).bind λr1=>(qZ lp (λv2=>qL a0 (gx v2 0) λs=>if s then((qX a0 (gx v2 0) λu=>(c 107 [a1,u]).bind λt=>qT (D.bool (!(D.beq t a2))) λf=>if f then(some (0,[])) else(qX a0 (gx v2 0) λp=>(c 112 [p,a3]).bind λa=>(c 123 [r1,a]).bind λl=>(c 188 [a1,l]).bind λb=>qC .lss b (Jn 0) λg=>(if g then(some true) else(qT (D.bool (D.beq b (Jn 0))) λh=>if h then((c 107 [a,r1]).bind λm=>qC .lss m (Jn 0) λi=>if i then(some true) else((c 107 [a,r1]).bind λn=>(c 107 [r1,r1]).bind λo=>qB .gtr n o λq=>D.truth q)) else(some false))).bind λj=>qT (D.bool j) λk=>if k then(some (1,[(D.bool false)])) else(some (0,[])))).bind λ(d:Nat×List D)=>if d.1=0 then(qB .add (gx v2 0) (Jn 1) λr=>iL [r]) else(iR (0,[(gx d.2 0)]))) else(iR (1,[]))) [(Jn 0)]).bind λe=>if e.1=0 then(some (gx e.2 0)) else(some (D.bool true))
def VC:ae 156 (m5 (Lj lp)):=I0 0 Tryz.f217 T2 a
def T4:Ann:=let a:LS:=[(0,.dv (Ty.int .u32)),(2,.di)];(.tl (.cut [(.normal,⟨a,[],[]⟩)] [] [] .leaf (.cut [(.normal,⟨a,[],[]⟩)] [] [] .leaf .leaf)))
def Lk(lp:Lp)(c:Ca)(a0:D):Option D:=(qC .geq a0 (D.int .u32 65536) λh=>if h then(qB .shr a0 (D.int .u64 16) λj=>some (0,[j,(Jn 16)])) else(some (0,[a0,(Jn 0)]))).bind λ(a:Nat×List D)=>(qC .geq (gx a.2 0) (D.int .u32 256) λi=>if i then(qB .shr (gx a.2 0) (D.int .u64 8) λk=>qB .add (gx a.2 1) (Jn 8) λl=>some (0,[k,l])) else(some (0,[(gx a.2 0),(gx a.2 1)]))).bind λ(g:Nat×List D)=>(D.conv .u8 (gx g.2 0)).bind λb=>(abT (D.str ((qz (Im Tryz.f219)).getD ByteArray.empty)) b).bind λd=>(D.conv .i64 d).bind λe=>qB .add (gx g.2 1) e λf=>some f
def VD:ae 165 (m1 (Lk lp)):=bD 0 Tryz.f219 T4 a
def Ll(lp:Lp)(c:Ca)(a0:D):Option D:=qG a0 [2] λe=>qG a0 [0] λj=>qT j λf=>if f then(qT (D.bool (D.beq e (D.st (abS (List.replicate 16 (D.int .u32 0)) [])))) λg=>(if g then(qG a0 [1] λk=>(abU .not k).bind λl=>D.truth l) else(some false)).bind λh=>some (D.bool h)) else(qN (D.bool (D.beq e (D.st (abS (List.replicate 16 (D.int .u32 0)) [])))) λi=>(if i then(some true) else(qG a0 [1] λb=>(abU .not b).bind λd=>D.truth d)).bind λa=>some (D.bool a))
def VE:ae 167 (m1 (Ll lp)):=bD 0 Tryz.f166 .leaf a
def Lm(lp:Lp)(c:Ca)(a0 a1:D):Option D:=(c 194 [a0]).bind λr1=>(c 194 [a1]).bind λa=>qT r1 λb=>if b then(qT a λd=>if d then(some (Jn 0)) else(some (Jn (-1)))) else(qT a λe=>if e then(some (Jn 1)) else(qC .lss a0 a1 λf=>if f then(some (Jn (-1))) else(qC .gtr a0 a1 λg=>if g then(some (Jn 1)) else(some (Jn 0)))))
def VF:ae 168 (m2 (Lm lp)):=aR 0 Tryz.f207 .leaf a
def Ln(lp:Lp)(c:Ca) :Option D:=(c 54 [(Jn 1)]).bind λr1=>some r1
def VG:ae 169 (m0 (Ln lp)):=xJ 0 Tryz.f141 .leaf a
def T5:Ann:=let a:LO:=[(4100,.one aP (.dv aP)),(4101,.one aP (.dv aP)),(24587,.one aP (.dv aP)),(32783,.one tP (.dv tP))];(.tl (.two (.reg [] 5) (.two (.tl (.two (.two (.reg [] 2) .leaf) .leaf)) (.tl (.tl (.tl (.tl (.tl (.two (.reg [] 2) (.tl (.two (.tl (.two (.loop ⟨[(4,.sp aP 4100),(5,.sp aP 4101),(11,.sp aP 24587),(15,.sp tP 32783),(16,.di)],[(4100,.one aP (.dv aP)),(4101,.keep aP 5),(24587,.keep aP 11),(32783,.one tP (.dv tP))],[6,10]⟩ [(.exit 0,⟨[(4,.sp aP 4100),(5,.sp aP 4101),(15,.sp tP 32783)],[(4100,.one aP (.dv aP)),(4101,.keep aP 5),(32783,.one tP (.dv tP))],[10]⟩)] (.tl (.two (.two (.two (.regI [] 5 (.two (.tl (.two (.reg [] 19) (.tl (.two (.reg [] 7) (.two (.two (.loop ⟨[(0,.sp tP 32783),(5,.sp aP 65541),(11,.dv (Ty.int .u64)),(12,.dv (Ty.int .u64))],[(4100,.one aP (.dv aP)),(4101,.one aP (.dv aP)),(24587,.one aP (.dv aP)),(32783,.keep tP 0),(65541,.keep aP 5)],[2,3,10]⟩ [(.exit 0,⟨[(11,.dv (Ty.int .u64))],[(4100,.one aP (.dv aP)),(4101,.one aP (.dv aP)),(24587,.one aP (.dv aP)),(32783,.keep tP 0)],[]⟩)] .leaf) .leaf) .leaf))))) .leaf)) (.cut [(.normal,⟨[(4,.sp aP 4100),(5,.sp aP 4101),(11,.sp aP 24587),(15,.sp tP 32783),(17,.dv (Ty.int .u64))],[(4100,.keep aP 4),(4101,.keep aP 5),(24587,.keep aP 11),(32783,.one tP (.dv tP))],[6,10,16]⟩)] [6,10,16] [4100,4101,24587] (.two (.regI [] 5 (.two (.tl (.tl (.two (.tl (.two (.loop ⟨[(0,.sp tP 32783),(6,.sp aP 102406),(11,.dv (Ty.int .u64)),(12,.dv (Ty.int .u64)),(17,.di)],[(4100,.one aP (.dv aP)),(4101,.one aP (.dv aP)),(24587,.one aP (.dv aP)),(32783,.one tP (.dv tP)),(102406,.keep aP 6)],[2,3,4,16]⟩ [(.exit 0,⟨[(0,.sp tP 32783),(11,.dv (Ty.int .u64)),(12,.dv (Ty.int .u64))],a,[2,3]⟩)] .leaf) .leaf)) .leaf))) .leaf)) (.two (.tl (.regI [] 4 (.two (.tl (.tl (.two (.tl (.two (.loop ⟨[(0,.sp tP 32783),(5,.sp aP 147461),(8,.dv (Ty.int .u64)),(11,.di)],[(4100,.one aP (.dv aP)),(4101,.one aP (.dv aP)),(24587,.one aP (.dv aP)),(32783,.one tP (.dv tP)),(147461,.keep aP 5)],[2,3,10]⟩ [(.exit 0,⟨[(0,.sp tP 32783),(8,.dv (Ty.int .u64))],a,[2,3]⟩)] (.tl (.tl (.two (.two (.tl (.two (.reg [] 15) .leaf)) .leaf) .leaf)))) .leaf)) (.reg [] 12)))) .leaf))) .leaf)) .leaf)) .leaf) .leaf))) .leaf)) (.two (.reg [] 6) .leaf))))))))))))
def Lo(lp:Lp)(c:Ca)(a0 a1:D):Option D:=(c 127 [a1]).bind λr1=>(c 127 [a0]).bind λr2=>(c 121 [a0,a1]).bind λr3=>qC .lss r3 (Jn 0) λb5=>if b5 then(some (D.tup [(D.st (abS (List.replicate 16 (D.int .u32 0)) [])),a0])) else(qT (D.bool (D.beq r1 (Jn 1))) λb6=>if b6 then(qG a1 [0] λx7=>(c 195 [a0,x7]).bind λr8=>(D.tupAt r8 0).bind λx9=>(D.tupAt r8 1).bind λad=>some (D.tup [x9,(D.st (abS (List.replicate 16 (D.int .u32 0)) [(0,ad)]))])) else(qB .sub r1 (Jn 1) λai=>qJ ai 16 a1 λaj=>(c 196 [aj]).bind λl=>(c 197 [a1,l]).bind λs=>(D.tupAt s 0).bind λm=>(D.tupAt s 1).bind λcB=>(c 197 [a0,l]).bind λt=>(D.tupAt t 0).bind λak=>(D.tupAt t 1).bind λal=>(D.stl (aq tP)).bind λq=>(D.stl ak).bind λZ=>(D.set (D.st (List.take 0 q++(List.take 16 (List.drop 0 Z)++List.drop 16 q))) [16] al).bind λan=>qB .sub r2 r1 λax=>(qZ lp (λv25=>qC .geq (gx v25 0) (Jn 0) λT=>if T then(qB .add (gx v25 0) r1 λaB=>qJ aB 17 (gx v25 2) λaI=>(D.conv .u64 aI).bind λa2=>qB .shl a2 (D.int .u64 32) λa3=>qB .add (gx v25 0) r1 λa4=>qB .sub a4 (Jn 1) λa5=>qJ a5 17 (gx v25 2) λa6=>(D.conv .u64 a6).bind λa7=>qB .or a3 a7 λP=>qB .sub r1 (Jn 1) λa9=>qJ a9 16 m λbi=>(D.conv .u64 bi).bind λn=>qB .quo P n λbj=>qB .rem P n λbk=>(qZ lp (λv45=>qC .lss (gx v45 1) (D.int .u64 4294967296) λU=>(if U then(qC .geq (gx v45 0) (D.int .u64 4294967296) λV=>if V then(some true) else(qB .sub r1 (Jn 2) λbl=>qJ bl 16 m λbm=>(D.conv .u64 bm).bind λbn=>qB .mul (gx v45 0) bn λbp=>qB .shl (gx v45 1) (D.int .u64 32) λbs=>qB .add (gx v25 0) r1 λbt=>qB .sub bt (Jn 2) λbv=>qJ bv 17 (gx v25 2) λbx=>(D.conv .u64 bx).bind λbL=>qB .or bs bL λbM=>qB .gtr bp bM λbN=>D.truth bN)) else(some false)).bind λW=>qT (D.bool W) λX=>if X then(qB .sub (gx v45 0) (D.int .u64 1) λbP=>qB .add (gx v45 1) n λbT=>iL [bP,bT,(gx v45 2),(gx v45 3),(gx v45 4)]) else(iR (0,[(gx v45 0),(gx v45 2),(gx v45 3),(gx v45 4)]))) [bj,bk,(gx v25 1),(aq aP),m]).bind λb=>((qZ lp (λa=>qC .lss (gx a 2) r1 λY=>if Y then(qJ (gx a 2) 16 (gx b.2 3) λbW=>(D.conv .u64 bW).bind λb0=>qB .mul (gx b.2 0) b0 λb1=>qB .add (gx a 0) b1 λQ=>qB .add (gx v25 0) (gx a 2) λb2=>qJ b2 17 (gx a 6) λb3=>(D.conv .u64 b3).bind λb4=>(D.conv .u32 Q).bind λb7=>(D.conv .u64 b7).bind λb8=>qB .sub b4 b8 λb9=>qB .sub b9 (gx a 1) λR=>qB .add (gx v25 0) (gx a 2) λca=>(D.conv .u32 R).bind λcb=>(D.idx ca 17).bind λi86=>(D.set (gx a 6) [i86] cb).bind λcc=>qB .shr R (D.int .u64 63) λcf=>qB .shr Q (D.int .u64 32) λch=>qB .add (gx a 2) (Jn 1) λci=>iL [ch,cf,ci,(gx a 3),(gx a 4),(gx a 5),cc]) else(iR (0,[(gx a 0),(gx a 1),(gx a 3),(gx a 4),(gx a 5),(gx a 6)]))) [(D.int .u64 0),(D.int .u64 0),(Jn 0),(gx b.2 1),(gx b.2 2),(gx b.2 3),(gx v25 2)]).bind λd=>qB .add (gx v25 0) r1 λcj=>qJ cj 17 (gx d.2 5) λcp=>(D.conv .u64 cp).bind λcs=>qB .sub cs (gx d.2 0) λcv=>qB .sub cv (gx d.2 1) λS=>qB .add (gx v25 0) r1 λcx=>(D.conv .u32 S).bind λcy=>(D.idx cx 17).bind λi100=>(D.set (gx d.2 5) [i100] cy).bind λi=>qB .shr S (D.int .u64 63) λu=>qT (D.bool (D.beq u (D.int .u64 1))) λo=>if o then(qB .sub (gx b.2 0) (D.int .u64 1) λv=>(qZ lp (λv105=>qC .lss (gx v105 1) r1 λp=>if p then(qB .add (gx v25 0) (gx v105 1) λw=>qJ w 17 (gx v105 5) λx=>(D.conv .u64 x).bind λy=>qJ (gx v105 1) 16 (gx d.2 4) λz=>(D.conv .u64 z).bind λA=>qB .add y A λB=>qB .add (gx v105 0) B λj=>qB .add (gx v25 0) (gx v105 1) λC=>(D.conv .u32 j).bind λE=>(D.idx C 17).bind λi119=>(D.set (gx v105 5) [i119] E).bind λF=>qB .shr j (D.int .u64 32) λG=>qB .add (gx v105 1) (Jn 1) λH=>iL [G,H,(gx v105 2),(gx v105 3),(gx v105 4),F]) else(iR (0,[(gx v105 0),(gx v105 2),(gx v105 3),(gx v105 4),(gx v105 5)]))) [(D.int .u64 0),(Jn 0),(gx d.2 2),(gx d.2 3),(gx d.2 4),i]).bind λe=>qB .add (gx v25 0) r1 λk=>qJ k 17 (gx e.2 4) λI=>(D.conv .u32 (gx e.2 0)).bind λJ=>qB .add I J λK=>(D.idx k 17).bind λi129=>(D.set (gx e.2 4) [i129] K).bind λL=>some (0,[v,L])) else(some (0,[(gx b.2 0),i]))).bind λ(g:Nat×List D)=>(D.conv .u32 (gx g.2 0)).bind λM=>(D.idx (gx v25 0) 16).bind λi133=>(D.set (gx b.2 1) [i133] M).bind λN=>qB .sub (gx v25 0) (Jn 1) λO=>iL [O,N,(gx g.2 1)]) else(iR (0,[(gx v25 1),(gx v25 2)]))) [ax,(aq aP),an]).bind λh=>(match (gx h.2 1) with
| D.st f=>(if decide (0+16<=f.length) then((c 201 [(D.st (List.take 16 (List.drop 0 f))),l]).bind λr=> some (D.tup [(gx h.2 0),r])) else none)
| _=>none)))
def VH:ae 170 (m2 (Lo lp)):=aR 0 Tryz.f167 T5 a
def Lr(lp:Lp)(c:Ca)(a0:D):Option D:=(c 118 [(D.sl [a0])]).bind λr1=>qN r1 λa=>if a then((c 119 []).bind λb=>some b) else(qG a0 [2] λe=>(c 116 [(D.bool false),e]).bind λd=>some d)
def VI:ae 171 (m1 (Lr lp)):=bD 0 Tryz.f168 .leaf a
end
end Sy
end
set_option maxHeartbeats 0
noncomputable section
namespace Sy
open Go Go.Proofs
section
variable{lp}(a:av lp)
def T6:Ann:=(.tl (.tl (.cut [(.ret,⟨[(4,.sp aQ 4100),(5,.sp aQ 4101)],[(4100,.one aQ (.dv aQ)),(4101,.one aQ (.dv aQ))],[]⟩),(.normal,⟨[(2,.sp aQ 4098),(3,.sp aQ 4099),(4,.sp aQ 4100),(5,.sp aQ 4101)],[(4098,.keep aQ 2),(4099,.keep aQ 3),(4100,.one aQ (.dv aQ)),(4101,.one aQ (.dv aQ))],[]⟩)] [] [4098,4099] (.tl (.tl (.two (.tl (.tl (.two (.two (.reg [] 7) (.cut [(.normal,⟨[(4,.sp aQ 4100),(5,.sp aQ 4101),(10,.di),(11,.di)],[(4100,.keep aQ 4),(4101,.keep aQ 5)],[]⟩)] [] [4100,4101] .leaf .leaf)) .leaf))) .leaf))) (.tl (.tl (.cut [(.normal,⟨[(3,.sp aQ 4099),(4,.sp aQ 4100),(5,.sp aQ 4101),(13,.sp aP 16397),(14,.sp aQ 20494)],[(4099,.keep aQ 3),(4100,.keep aQ 4),(4101,.keep aQ 5),(16397,.one aP (.dv aP)),(20494,.one aQ (.dv aQ))],[]⟩)] [] [4099,4100,4101] (.tl (.two (.reg [] 7) .leaf)) (.two (.reg [] 5) .leaf)))))))
def FD(lp:Lp)(c:Ca)(a0 a1:D):Option D:=(c 118 [(D.sl [a0,a1])]).bind λr1=>qN r1 λV=>(if V then(some true) else((c 129 [a1]).bind λY=>D.truth (D.bool (D.beq Y (Jn 0))))).bind λW=>qT (D.bool W) λX=>if X then((c 119 []).bind λZ=>(c 119 []).bind λr8=>some (D.tup [Z,r8])) else(((c 202 [a0]).bind λU=>(D.tupAt U 0).bind λe=>(D.tupAt U 1).bind λF=>qT F λm=>(if m then(D.truth (D.bool (!(D.beq e (Jn (-9223372036854775808)))))) else(some false)).bind λn=>qT (D.bool n) λo=>if o then((c 202 [a1]).bind λg=>(D.tupAt g 0).bind λa=>(D.tupAt g 1).bind λG=>qT G λp=>(if p then(D.truth (D.bool (!(D.beq a (Jn (-9223372036854775808)))))) else(some false)).bind λq=>qT (D.bool q) λr=>if r then(qB .quo e a λl=>qB .rem e a λb=>(qT (D.bool (!(D.beq b (Jn 0)))) λs=>(if s then(qB .lss b (Jn 0) λH=>qB .lss a (Jn 0) λI=>D.truth (D.bool (!(D.beq H I)))) else(some false)).bind λt=>qT (D.bool t) λu=>if u then(qB .sub l (Jn 1) λJ=>qB .add b a λK=>some (0,[J,K])) else(some (0,[l,b]))).bind λ(h:Nat×List D)=>(c 54 [(gx h.2 0)]).bind λy=>(c 54 [(gx h.2 1)]).bind λz=>some (0,[y,z])) else(some (1,[(D.st [(D.bool false),(D.bool false),(aq aP)]),(D.st [(D.bool false),(D.bool false),(aq aP)])]))) else(some (1,[(D.st [(D.bool false),(D.bool false),(aq aP)]),(D.st [(D.bool false),(D.bool false),(aq aP)])]))).bind λ(d:Nat×List D)=>if d.1=0 then(some (D.tup [(gx d.2 0),(gx d.2 1)])) else(qG a0 [2] λL=>qG a1 [2] λM=>(c 170 [L,M]).bind λi=>(D.tupAt i 0).bind λN=>(D.tupAt i 1).bind λf=>qG a0 [1] λO=>qG a1 [1] λP=>(c 116 [(D.bool (!(D.beq O P))),N]).bind λj=>(qT (D.bool (!(D.beq f (D.st (abS (List.replicate 16 (D.int .u32 0)) []))))) λv=>(if v then(qG a0 [1] λQ=>qG a1 [1] λR=>D.truth (D.bool (!(D.beq Q R)))) else(some false)).bind λw=>qT (D.bool w) λx=>if x then((c 54 [(Jn 1)]).bind λA=>(c 203 [j,A]).bind λB=>qG a1 [2] λS=>(c 122 [S,f]).bind λC=>some (0,[C,B])) else(some (0,[f,j]))).bind λ(k:Nat×List D)=>qG a1 [1] λT=>(c 116 [T,(gx k.2 0)]).bind λE=>some (D.tup [(gx k.2 1),E])))
def VJ:ae 172 (m2 (FD lp)):=aR 0 Tryz.f169 T6 a
def T7:Ann:=(.tl (.tl (.tl (.two (.reg [] 10) (.two (.reg [] 14) .leaf)))))
def Hr(lp:Lp)(c:Ca)(a0 a1:D):Option D:=(c 136 [a0]).bind λr1=>qN r1 λp=>(if p then(some true) else((c 136 [a1]).bind λs=>(abU .not s).bind λu=>D.truth u)).bind λq=>qT (D.bool q) λr=>if r then((c 130 []).bind λt=>some t) else(qG a0 [1] λv=>qG a1 [1] λj=>(c 131 [v,j]).bind λa=>qG a0 [1] λk=>(c 132 [k,a]).bind λb=>qG a1 [1] λl=>(c 132 [l,a]).bind λd=>qG a0 [0] λm=>(c 61 [m,d]).bind λe=>qG a1 [0] λn=>(c 61 [n,b]).bind λf=>(c 57 [e,f]).bind λg=>qG a1 [1] λo=>(c 61 [b,o]).bind λh=>(c 62 [g,h]).bind λi=>some i)
def VK:ae 173 (m2 (Hr lp)):=aR 0 Tryz.f47 T7 a
def T8:Ann:=(.tl (.tl (.two (.reg [] 12) (.two (.reg [] 12) .leaf))))
def Hs(lp:Lp)(c:Ca)(a0 a1:D):Option D:=(c 136 [a0]).bind λr1=>qN r1 λs=>(if s then(some true) else((c 136 [a1]).bind λv=>(abU .not v).bind λx=>D.truth x)).bind λt=>qT (D.bool t) λu=>if u then((c 130 []).bind λw=>some w) else(qG a0 [0] λy=>qG a1 [1] λj=>(c 62 [y,j]).bind λa=>qG a1 [0] λk=>qG a0 [1] λl=>(c 62 [k,l]).bind λb=>qG a [0] λm=>qG b [0] λn=>(c 61 [m,n]).bind λd=>qG a [1] λo=>qG b [1] λp=>(c 61 [o,p]).bind λe=>qG d [0] λq=>qT q λf=>(if f then(some true) else(qG e [0] λr=>D.truth r)).bind λg=>qT (D.bool g) λh=>if h then((c 130 []).bind λi=>some i) else(some (D.st [d,e])))
def VL:ae 174 (m2 (Hs lp)):=aR 0 Tryz.f42 T8 a
def QH(lp:Lp)(c:Ca)(a0 a1:D):Option D:=qC .lss a1 (Jn 0) λa=>if a then(some (Jn 0)) else((c 141 [a0,a1]).bind λb=>some b)
def VM:ae 175 (m2 (QH lp)):=aR 0 Tryz.f198 .leaf a
def T9:Ann:=(.tl (.tl (.tl (.tl (.tl (.tl (.cut [(.normal,⟨[(6,.di)],[],[]⟩)] [] [] .leaf .leaf)))))))
def Ls(lp:Lp)(c:Ca)(a0:D):Option D:=(c 76 [a0]).bind λr1=>qN r1 λp=>if p then(some (D.tup [(Jn 0),(D.bool false)])) else((c 34 [(Jn (-9223372036854775808))]).bind λr=>(c 34 [(Jn 9223372036854775807)]).bind λs=>(c 32 [a0,r]).bind λt=>qC .lss t (Jn 0) λq=>(if q then(some true) else((c 32 [a0,s]).bind λu=>qB .gtr u (Jn 0) λg=>D.truth g)).bind λb=>qT (D.bool b) λd=>if d then(some (D.tup [(Jn 0),(D.bool false)])) else(qG a0 [2,1] λh=>(D.conv .u64 h).bind λi=>qB .mul i (D.int .u64 4294967296) λj=>qG a0 [2,0] λk=>(D.conv .u64 k).bind λl=>qB .add j l λm=>(D.conv .i64 m).bind λa=>(qG a0 [1] λn=>qT n λe=>if e then((abU .neg a).bind λo=>some (0,[o])) else(some (0,[a]))).bind λ(f:Nat×List D)=>some (D.tup [(gx f.2 0),(D.bool true)])))
def VN:ae 186 (m1 (Ls lp)):=bD 0 Tryz.f208 T9 a
def Ua:Ann:=(.tl (.two (.tl (.two (.loop ⟨[(1,.sp K1 4097),(3,.di)],[(4097,.keep K1 1)],[]⟩ [(.ret,⟨[(2,.dv Ty.bool)],[],[]⟩),(.exit 0,⟨[],[],[]⟩)] .leaf) .leaf)) .leaf))
def Lt(lp:Lp)(c:Ca)(a0:D):Option D:=(qZ lp (λv1=>qC .lss (gx v1 0) (Jn 3) λg=>if g then(qJ (gx v1 0) 3 a0 λi=>qC .geq i (Jn 2305843009213693952) λh=>(if h then(some true) else(qJ (gx v1 0) 3 a0 λj=>qB .leq j (Jn (-2305843009213693952)) λe=>D.truth e)).bind λb=>qT (D.bool b) λd=>if d then(iR (0,[(D.bool false)])) else(qB .add (gx v1 0) (Jn 1) λf=>iL [f])) else(iR (1,[]))) [(Jn 0)]).bind λa=>if a.1=0 then(some (gx a.2 0)) else(some (D.bool true))
def VO:ae 187 (m1 (Lt lp)):=bD 0 Tryz.f14 Ua a
def Ub:Ann:=(.tl (.two (.tl (.two (.loop ⟨[(2,.sp K1 4098),(3,.sp K1 4099),(5,.di)],[(4098,.keep K1 2),(4099,.keep K1 3)],[]⟩ [(.ret,⟨[(4,.di)],[],[]⟩),(.exit 0,⟨[],[],[]⟩)] (.tl (.two (.two (.tl (.two (.two (.reg [] 9) .leaf) .leaf)) .leaf) .leaf))) .leaf)) .leaf))
def Lu(lp:Lp)(c:Ca)(a0 a1:D):Option D:=(qZ lp (λv1=>qC .lss (gx v1 0) (Jn 3) λg=>if g then(qJ (gx v1 0) 3 a0 λj=>qT (D.bool (!(D.beq j (Jn 0)))) λh=>if h then(qJ (gx v1 0) 3 a0 λk=>(c 215 [k]).bind λi=>qJ (gx v1 0) 3 a1 λd=>(c 215 [d]).bind λb=>qB .mul i b λe=>iR (0,[e])) else(qB .add (gx v1 0) (Jn 1) λf=>iL [f])) else(iR (1,[]))) [(Jn 0)]).bind λa=>if a.1=0 then(some (gx a.2 0)) else(some (Jn 0))
def VP:ae 188 (m2 (Lu lp)):=aR 0 Tryz.f232 Ub a
def Lv(lp:Lp)(c:Ca)(a0:D):Option D:=some (D.bool (!(D.beq a0 a0)))
def VQ:ae 194 (m1 (Lv lp)):=bD 0 Tryz.f221 .leaf a
def Uc:Ann:=(.tl (.tl (.two (.tl (.two (.loop ⟨[(2,.sp aP 4098),(4,.sp aP 4100),(6,.dv (Ty.int .u64)),(7,.di)],[(4098,.keep aP 2),(4100,.one aP (.dv aP))],[1]⟩ [(.exit 0,⟨[(4,.sp aP 4100),(6,.dv (Ty.int .u64))],[(4100,.one aP (.dv aP))],[]⟩)] .leaf) .leaf)) .leaf)))
def Lw(lp:Lp)(c:Ca)(a0 a1:D):Option D:=(qZ lp (λv1=>qC .geq (gx v1 1) (Jn 0) λk=>if k then(qB .shl (gx v1 0) (D.int .u64 32) λl=>qJ (gx v1 1) 16 a0 λm=>(D.conv .u64 m).bind λn=>qB .or l n λj=>(D.conv .u64 a1).bind λo=>qB .quo j o λb=>(D.conv .u32 b).bind λd=>(D.idx (gx v1 1) 16).bind λAI=>(D.set (gx v1 2) [AI] d).bind λe=>(D.conv .u64 a1).bind λf=>qB .rem j f λg=>qB .sub (gx v1 1) (Jn 1) λh=>iL [g,h,e]) else(iR (0,[(gx v1 0),(gx v1 2)]))) [(D.int .u64 0),(Jn 15),(aq aP)]).bind λa=>(D.conv .u32 (gx a.2 0)).bind λi=>some (D.tup [(gx a.2 1),i])
def VR:ae 195 (m2 (Lw lp)):=aR 0 Tryz.f202 Uc a
def Lx(lp:Lp)(c:Ca)(a0:D):Option D:=(c 165 [a0]).bind λr1=>qB .sub (Jn 32) r1 λa=>some a
def VS:ae 196 (m1 (Lx lp)):=bD 0 Tryz.f203 .leaf a
def Ud:Ann:=(.tl (.tl (.tl (.two (.tl (.two (.loop ⟨[(2,.sp aP 4098),(4,.sp aP 4100),(6,.sp aP 8198),(7,.dv (Ty.int .u64)),(9,.di)],[(4098,.keep aP 2),(4100,.keep aP 4),(8198,.one aP (.dv aP))],[1]⟩ [(.exit 0,⟨[(4,.sp aP 4100),(6,.sp aP 8198),(7,.dv (Ty.int .u64))],[(4100,.keep aP 4),(8198,.one aP (.dv aP))],[]⟩)] .leaf) .leaf)) .leaf))))
def Ly(lp:Lp)(c:Ca)(a0 a1:D):Option D:=(qZ lp (λv1=>qC .lss (gx v1 1) (Jn 16) λh=>if h then(qJ (gx v1 1) 16 a0 λi=>(D.conv .u64 i).bind λj=>qB .shl j a1 λk=>qB .or (gx v1 0) k λg=>(D.conv .u32 g).bind λl=>(D.idx (gx v1 1) 16).bind λi10=>(D.set (gx v1 2) [i10] l).bind λb=>qB .shr g (D.int .u64 32) λd=>qB .add (gx v1 1) (Jn 1) λe=>iL [d,e,b]) else(iR (0,[(gx v1 0),(gx v1 2)]))) [(D.int .u64 0),(Jn 0),(aq aP)]).bind λa=>(D.conv .u32 (gx a.2 0)).bind λf=>some (D.tup [(gx a.2 1),f])
def VU:ae 197 (m2 (Ly lp)):=aR 0 Tryz.f194 Ud a
def Ue:Ann:=(.tl (.tl (.two (.tl (.two (.loop ⟨[(2,.sp aP 4098),(4,.sp aP 4100),(5,.sp aP 8197),(8,.di)],[(4098,.keep aP 2),(4100,.keep aP 4),(8197,.one aP (.dv aP))],[1]⟩ [(.exit 0,⟨[(4,.sp aP 4100),(5,.sp aP 8197)],[(4100,.keep aP 4),(8197,.one aP (.dv aP))],[]⟩)] (.tl (.tl (.two (.two (.tl (.tl (.cut [(.normal,⟨[(2,.sp aP 4098),(4,.sp aP 4100),(5,.sp aP 8197),(7,.dv (Ty.int .u64))],[(4098,.keep aP 2),(4100,.keep aP 4),(8197,.keep aP 5)],[1,6,8]⟩)] [1,6,8] [4098,4100,8197] .leaf .leaf))) .leaf) .leaf)))) .leaf)) .leaf)))
def Lz(lp:Lp)(c:Ca)(a0 a1:D):Option D:=(qZ lp (λv1=>qC .lss (gx v1 0) (Jn 16) λm=>if m then((qB .add (gx v1 0) (Jn 1) λo=>qC .lss o (Jn 16) λn=>if n then(qB .add (gx v1 0) (Jn 1) λp=>qJ p 16 a0 λq=>(D.conv .u64 q).bind λd=>some (0,[d])) else(some (0,[(D.int .u64 0)]))).bind λ(a:Nat×List D)=>qB .shl (gx a.2 0) (D.int .u64 32) λe=>qJ (gx v1 0) 16 a0 λf=>(D.conv .u64 f).bind λg=>qB .or e g λh=>qB .shr h a1 λi=>(D.conv .u32 i).bind λj=>(D.idx (gx v1 0) 16).bind λi19=>(D.set (gx v1 1) [i19] j).bind λk=>qB .add (gx v1 0) (Jn 1) λl=>iL [l,k]) else(iR (0,[(gx v1 1)]))) [(Jn 0),(aq aP)]).bind λb=>some (gx b.2 0)
def VV:ae 201 (m2 (Lz lp)):=aR 0 Tryz.f195 Ue a
def FE(lp:Lp)(c:Ca)(a0:D):Option D:=(c 118 [(D.sl [a0])]).bind λr1=>qN r1 λs=>(if s then(some true) else((c 217 [a0]).bind λv=>qB .gtr v (Jn 64) λw=>D.truth w)).bind λt=>qT (D.bool t) λu=>if u then(some (D.tup [(Jn 0),(D.bool false)])) else(qG a0 [2,1] λx=>(D.conv .u64 x).bind λy=>qB .shl y (D.int .u64 32) λi=>qG a0 [2,0] λj=>(D.conv .u64 j).bind λk=>qB .or i k λa=>qG a0 [1] λl=>qT l λb=>(if b then(qB .leq a (D.int .u64 9223372036854775808) λm=>D.truth m) else(some false)).bind λd=>qT (D.bool d) λe=>if e then((abU .neg a).bind λn=>(D.conv .i64 n).bind λo=>some (D.tup [o,(D.bool true)])) else(qG a0 [1] λp=>qN p λf=>(if f then(qB .lss a (D.int .u64 9223372036854775808) λq=>D.truth q) else(some false)).bind λg=>qT (D.bool g) λh=>if h then((D.conv .i64 a).bind λr=>some (D.tup [r,(D.bool true)])) else(some (D.tup [(Jn 0),(D.bool false)]))))
def VW:ae 202 (m1 (FE lp)):=bD 0 Tryz.f160 .leaf a
def Uf:Ann:=(.tl (.two (.reg [] 4) .leaf))
def Ht(lp:Lp)(c:Ca)(a0 a1:D):Option D:=(c 68 [a1]).bind λr1=>(c 57 [a0,r1]).bind λa=>some a
def VX:ae 203 (m2 (Ht lp)):=aR 0 Tryz.f201 Uf a
def LA(lp:Lp)(c:Ca)(a0:D):Option D:=qC .lss a0 (Jn 0) λa=>if a then(some (Jn (-1))) else(qC .gtr a0 (Jn 0) λb=>if b then(some (Jn 1)) else(some (Jn 0)))
def VY:ae 215 (m1 (LA lp)):=bD 0 Tryz.f247 .leaf a
def LB(lp:Lp)(c:Ca)(a0:D):Option D:=qG a0 [2] λk=>(c 127 [k]).bind λb=>(c 118 [(D.sl [a0])]).bind λj=>qN j λg=>(if g then(some true) else(D.truth (D.bool (D.beq b (Jn 0))))).bind λh=>qT (D.bool h) λi=>if i then(some (Jn 0)) else(qB .sub b (Jn 1) λl=>qB .mul (Jn 32) l λm=>qB .sub b (Jn 1) λd=>(D.idx d 16).bind λi11=>qG a0 [2,i11] λe=>(c 165 [e]).bind λa=>qB .add m a λf=>some f)
def VZ:ae 217 (m1 (LB lp)):=bD 0 Tryz.f192 .leaf a
def Ug:Ann:=(.tl (.tl (.tl (.two (.tl (.two (.two (.reg [] 7) .leaf) .leaf)) (.tl (.tl (.tl (.two (.loop ⟨[(7,.di),(8,.sp OS 24584),(9,.sp OS 28681)],[(24584,.one OS (.dv OS)),(28681,.one OS (.dv OS))],[]⟩ [(.ret,⟨[(4,.di)],[],[]⟩)] (.two (.tl (.tl (.tl (.tl (.two (.reg [] 8) (.two (.reg [] 8) (.two (.tl (.two (.two (.reg [] 9) .leaf) .leaf)) .leaf))))))) .leaf)) .leaf))))))))
def QI(lp:Lp)(c:Ca)(a0 a1:D):Option D:=(c 88 [a0]).bind λr1=>(c 88 [a1]).bind λK=>qN r1 λL=>(if L then(some true) else((abU .not K).bind λQ=>D.truth Q)).bind λM=>qT (D.bool M) λN=>if N then((c 344 [a0,r1]).bind λO=>(c 344 [a1,K]).bind λP=>(c 32 [O,P]).bind λj=>some j) else(qG a0 [0] λr=>qG a0 [1] λs=>qG a1 [0] λt=>qG a1 [1] λu=>(qZ lp (λa=>qG (gx a 1) [0] λv=>qG (gx a 1) [1] λw=>(c 87 [v,w]).bind λk=>qG (gx a 2) [0] λx=>qG (gx a 2) [1] λy=>(c 87 [x,y]).bind λl=>(c 32 [k,l]).bind λe=>qT (D.bool (!(D.beq e (Jn 0)))) λf=>if f then(qB .mul (gx a 0) e λz=>iR (0,[z])) else(qG (gx a 1) [1] λA=>qG (gx a 1) [0] λB=>qG (gx a 1) [1] λC=>(c 345 [B,C]).bind λb=>qG (gx a 2) [1] λE=>qG (gx a 2) [0] λF=>qG (gx a 2) [1] λG=>(c 345 [F,G]).bind λd=>(c 83 [b]).bind λm=>qT (D.bool (D.beq m (Jn 0))) λg=>(if g then(some true) else((c 83 [d]).bind λn=>D.truth (D.bool (D.beq n (Jn 0))))).bind λh=>qT (D.bool h) λi=>if i then((c 83 [b]).bind λo=>(c 83 [d]).bind λp=>qB .sub o p λH=>qB .mul (gx a 0) H λI=>iR (0,[I])) else((abU .neg (gx a 0)).bind λJ=>iL [J,(D.st [A,b]),(D.st [E,d])]))) [(Jn 1),(D.st [r,s]),(D.st [t,u])]).bind λq=>some (gx q.2 0))
def V0:ae 324 (m2 (QI lp)):=aR 0 Tryz.f35 Ug a
def LC(lp:Lp)(c:Ca)(a0 a1:D):Option D:=(c 54 [a0]).bind λr1=>(c 54 [a1]).bind λa=>(c 62 [r1,a]).bind λb=>some b
def V1:ae 333 (m2 (LC lp)):=aR 0 Tryz.f77 .leaf a
def Uh:Ann:=(.tl (.two (.reg [] 4) .leaf))
def LD(lp:Lp)(c:Ca)(a0 a1:D):Option D:=(c 357 [a1]).bind λr1=>(c 173 [a0,r1]).bind λa=>some a
def V2:ae 336 (m2 (LD lp)):=aR 0 Tryz.f126 Uh a
def LE(lp:Lp)(c:Ca)(a0:D):Option D:=(c 136 [a0]).bind λr1=>qN r1 λa=>if a then(some (Jn 0)) else(qG a0 [0] λd=>(c 129 [d]).bind λb=>some b)
def V3:ae 342 (m1 (LE lp)):=bD 0 Tryz.f40 .leaf a
def QJ(lp:Lp)(c:Ca)(a0 a1:D):Option D:=qT a1 λa=>if a then((c 34 [(Jn 0)]).bind λb=>some b) else((c 125 []).bind λd=>some d)
def V4:ae 344 (m2 (QJ lp)):=aR 0 Tryz.f96 .leaf a
def Ui:Ann:=(.tl (.tl (.tl (.tl (.tl (.two (.reg [] 9) (.cut [(.normal,⟨[(3,.sp aQ 4099),(4,.sp aQ 4100),(10,.dv K5)],[(4099,.keep aQ 3),(4100,.keep aQ 4)],[]⟩)] [] [4099,4100] .leaf .leaf)))))))
def QK(lp:Lp)(c:Ca)(a0 a1:D):Option D:=(c 124 [a0]).bind λr1=>(D.tupAt r1 0).bind λL=>(D.tupAt r1 1).bind λP=>(c 124 [a1]).bind λK=>(D.tupAt K 0).bind λJ=>(D.tupAt K 1).bind λR=>qT P λM=>(if M then(D.truth R) else(some false)).bind λN=>qT (D.bool N) λO=>(if O then(D.truth (D.bool (!(D.beq J (Jn 0))))) else(some false)).bind λd=>qT (D.bool d) λe=>if e then((c 144 [L,J]).bind λp=>qB .mul J p λB=>qB .sub L B λC=>(c 34 [C]).bind λq=>some q) else((c 76 [a0]).bind λr=>qN r λf=>(if f then(some true) else((c 76 [a1]).bind λs=>(abU .not s).bind λE=>D.truth E)).bind λg=>qT (D.bool g) λh=>(if h then(some true) else((c 77 [a1]).bind λt=>qS t λn=>D.truth (D.bool (D.beq (Jn (n.length)) (Jn 0))))).bind λi=>qT (D.bool i) λj=>if j then((c 125 []).bind λu=>some u) else((c 77 [a0]).bind λv=>(c 77 [a1]).bind λw=>(c 143 [v,w]).bind λb=>(D.tupAt b 0).bind λQ=>(D.tupAt b 1).bind λa=>(qG a0 [1] λF=>qG a1 [1] λG=>qT (D.bool (!(D.beq F G))) λk=>(if k then(qS a λo=>qB .gtr (Jn (o.length)) (Jn 0) λH=>D.truth H) else(some false)).bind λl=>qT (D.bool l) λm=>if m then((c 77 [a1]).bind λx=>(c 126 [x,a]).bind λy=>some (0,[y])) else(some (0,[a]))).bind λ(z:Nat×List D)=>qG a1 [1] λI=>(c 81 [I,(gx z.2 0)]).bind λA=>some A))
def V5:ae 345 (m2 (QK lp)):=aR 0 Tryz.f97 Ui a
def Uj:Ann:=(.tl (.tl (.two (.reg [] 7) .leaf)))
def LF(lp:Lp)(c:Ca)(a0 a1:D):Option D:=(c 136 [a1]).bind λr1=>qN r1 λa=>if a then((c 130 []).bind λb=>some b) else(qG a1 [1] λf=>qG a1 [0] λg=>(c 62 [f,g]).bind λd=>(c 174 [a0,d]).bind λe=>some e)
def V6:ae 352 (m2 (LF lp)):=aR 0 Tryz.f41 Uj a
def Uk:Ann:=(.tl (.tl (.two (.reg [] 6) .leaf)))
def Hu(lp:Lp)(c:Ca)(a0:D):Option D:=(c 136 [a0]).bind λr1=>qN r1 λa=>if a then((c 130 []).bind λb=>some b) else(qG a0 [0] λe=>(c 68 [e]).bind λd=>qG a0 [1] λf=>some (D.st [d,f]))
def V7:ae 357 (m1 (Hu lp)):=bD 0 Tryz.f59 Uk a
def Ul:Ann:=(.tl (.two (.tl (.two (.loop ⟨[(2,.sp cr 4098),(3,.sp cr 4099),(4,.sp cr 4100),(6,.di)],[(4098,.one cr (.dv cr)),(4099,.keep cr 3),(4100,.keep cr 4)],[]⟩ [(.exit 0,⟨[(2,.sp cr 4098),(4,.sp cr 4100)],[(4098,.one cr (.dv cr)),(4100,.keep cr 4)],[]⟩)] (.tl (.tl (.two (.two (.tl (.reg [] 9)) .leaf) .leaf)))) .leaf)) .leaf))
def LG(lp:Lp)(c:Ca)(a0 a1:D):Option D:=(qZ lp (λv1=>qC .lss (gx v1 0) (Jn 3) λe=>if e then(qJ (gx v1 0) 3 (gx v1 1) λg=>qJ (gx v1 0) 3 a1 λh=>(c 173 [g,h]).bind λf=>(D.idx (gx v1 0) 3).bind λi9=>(D.set (gx v1 1) [i9] f).bind λb=>qB .add (gx v1 0) (Jn 1) λd=>iL [d,b]) else(iR (0,[(gx v1 1)]))) [(Jn 0),a0]).bind λa=>some (gx a.2 0)
def V8:ae 371 (m2 (LG lp)):=aR 0 Tryz.f75 Ul a
def LH(lp:Lp)(c:Ca)(a0:D):Option D:=(c 392 [a0,a0]).bind λr1=>some r1
def V9:ae 385 (m1 (LH lp)):=bD 0 Tryz.f63 .leaf a
def Um:Ann:=(.tl (.tl (.tl (.two (.tl (.two (.loop ⟨[(3,.sp K1 4099),(4,.sp K1 4100),(5,.sp QR 8197),(6,.sp K1 12294),(10,.di)],[(4099,.keep K1 3),(4100,.keep K1 4),(8197,.keep QR 5),(12294,.one K1 (.dv K1))],[]⟩ [(.exit 0,⟨[(4,.sp K1 4100),(6,.sp K1 12294)],[(4100,.keep K1 4),(12294,.one K1 (.dv K1))],[]⟩)] (.tl (.tl (.two (.two (.tl (.reg [] 24)) .leaf) .leaf)))) .leaf)) .leaf))))
def Hv(lp:Lp)(c:Ca)(a0 a1:D):Option D:=(c 393 [a0]).bind λr1=>(qZ lp (λv2=>qC .lss (gx v2 0) (Jn 3) λm=>if m then(qB .mul (Jn 3) (gx v2 0) λn=>qJ n 9 r1 λo=>qG a1 [0] λp=>qB .mul (Jn 3) (gx v2 0) λq=>qB .add q (Jn 1) λd=>qJ d 9 r1 λe=>qG a1 [1] λf=>qB .mul (Jn 3) (gx v2 0) λg=>qB .add g (Jn 2) λh=>qJ h 9 r1 λi=>qG a1 [2] λj=>(c 394 [(D.sl [o,p,e,f,i,j])]).bind λa=>(D.idx (gx v2 0) 3).bind λi20=>(D.set (gx v2 1) [i20] a).bind λk=>qB .add (gx v2 0) (Jn 1) λl=>iL [l,k]) else(iR (0,[(gx v2 1)]))) [(Jn 0),(D.st [(Jn 0),(Jn 0),(Jn 0)])]).bind λb=>some (gx b.2 0)
def Wa:ae 386 (m2 (Hv lp)):=aR 0 Tryz.f66 Um a
def LI(lp:Lp)(c:Ca)(a0 a1:D):Option D:=qG a0 [0] λb=>qG a1 [0] λd=>qG a0 [1] λe=>qG a1 [1] λf=>qG a0 [2] λg=>qG a1 [2] λh=>qG a0 [3] λi=>qG a1 [3] λj=>(c 394 [(D.sl [b,d,e,f,g,h,i,j])]).bind λa=>some a
def Wb:ae 392 (m2 (LI lp)):=aR 0 Tryz.f127 .leaf a
def Un:Ann:=(.tl (.two (.reg [] 11) .leaf))
def LJ(lp:Lp)(c:Ca)(a0:D):Option D:=qG a0 [0] λa=>qG a0 [1] λb=>qG a0 [2] λd=>qG a0 [3] λe=>(abU .neg d).bind λA=>(abU .neg e).bind λB=>(c 394 [(D.sl [a,a,b,b,A,d,B,e])]).bind λy=>(abU .neg a).bind λC=>(c 394 [(D.sl [b,d,C,e])]).bind λz=>qB .mul (Jn 2) z λm=>(c 394 [(D.sl [b,e,a,d])]).bind λf=>qB .mul (Jn 2) f λn=>(c 394 [(D.sl [b,d,a,e])]).bind λg=>qB .mul (Jn 2) g λo=>(abU .neg b).bind λp=>(abU .neg e).bind λq=>(c 394 [(D.sl [a,a,p,b,d,d,q,e])]).bind λh=>(abU .neg a).bind λr=>(c 394 [(D.sl [d,e,r,b])]).bind λi=>qB .mul (Jn 2) i λs=>(abU .neg a).bind λt=>(c 394 [(D.sl [b,e,t,d])]).bind λj=>qB .mul (Jn 2) j λu=>(c 394 [(D.sl [d,e,a,b])]).bind λk=>qB .mul (Jn 2) k λv=>(abU .neg b).bind λw=>(abU .neg d).bind λx=>(c 394 [(D.sl [a,a,w,b,x,d,e,e])]).bind λl=>some (D.st (abS (List.replicate 9 (Jn 0)) [(0,y),(1,m),(2,n),(3,o),(4,h),(5,s),(6,u),(7,v),(8,l)]))
def Wc:ae 393 (m1 (LJ lp)):=bD 0 Tryz.f131 Un a
end
end Sy
end
end
end Go.Proofs.YtphlmegkommlnaaGreatDoor
