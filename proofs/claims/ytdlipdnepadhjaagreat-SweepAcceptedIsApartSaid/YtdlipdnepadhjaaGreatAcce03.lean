/- Part 3 -/
import Derived.Test.YtdlipdnepadhjaaGreatAcce02
import Derived.Maps.RangeRun
import Derived.Shelf.SlSortCmp.NoneTotal
import Derived.Ground.SlsfProg
import Derived.Test.YtdlipdnepadhjaaGreatChecked
set_option linter.all false
set_option maxRecDepth 20000
namespace Go.Proofs.YtdlipdnepadhjaaGreat
noncomputable section
namespace Sy
open Go
def xu(P:Program):Bool:=((List.range Oz).all λt=>match YP t with|some ty=>cb P ty t&&decide (ty.high<=1000)&&aj ty|none=>true)&&fnL.all (Ps P)
def NN(P:Program)(f:Nat)(g:List Ty×Ty):Bool:=
 aP g.1 && (aj g.2 || match g.2 with | .tup ts => aP ts | _ => false) && match P.funcs[f]? with | some fn => !(fn.name == "runtime.NumGoroutine") && fn.body.isSome | none => false
def FG(P:Program):Bool:=(List.range Oz).all λt=>match MM t with|some g=>bS g.1&&decide (g.1.high<=1000)&&(match P.underlying t with|some (.map K V)=>cb P g.1 K&&cb P g.2 V|_=>false)|none=>true
def Gv(P:Program):Bool:=(List.range JQ).all λf=>match pe f with|some g=>NN P f g|none=>true
def QM{t:Nat}{ty:Ty}(h:YP t=some ty):t<Oz:=by
 unfold YP at h;rcases zua t Oz with k|k
 ·exact k
 ·have:Nat.blt t Oz=false:=zpc.2 λa=>z8a (Nat.blt_eq ▸ a)<|zOc.2 k;rw[this] at h;cases h
def MN{t:Nat}{g:Ty×Ty}(h:MM t=some g):t<Oz:=by
 unfold MM at h;rcases zua t Oz with k|k
 ·exact k
 ·have:Nat.blt t Oz=false:=zpc.2 λa=>z8a (Nat.blt_eq ▸ a)<|zOc.2 k;rw[this] at h;cases h
def Et{t:Nat}{ty:List Ty×Ty}(h:pe t=some ty):t<JQ:=by
 unfold pe Qu at h;rcases zua t JQ with k|k
 ·exact k
 ·have:Nat.blt t JQ=false:=zpc.2 λa=>z8a (Nat.blt_eq ▸ a)<|zOc.2 k;rw[this] at h;cases h
def gm(P:Program)(call:Nat->List D->Option D):Prop:=∀ f a b xs y,pe f=some (a,b)->call (rV f) xs=some y->fq a xs->OD P (pM f) (kg f) a b f xs y
abbrev Lp:Type 1:={α β:Type}->(α->Option (Sum α β))->α->Option β
def tD(lp:Lp):Prop:=∀ (α β:Type) (body:α->Option (Sum α β)) (x:α) (y:β),lp body x=some y->∃ n,sG body n x=some y
def zQ(N:Nat):tD (λbody=>sG body N):=λ_ _ _ _ _ h=>⟨N,h⟩
def q8:tD (λbody=>nT body):=λ_ _ _ _ _ h=>qU h
def Mx(pv:Nat->Bool)(a:Nat->Option (Func×Ty))(lp:Lp)(call:Nat->List D->Option D):Nat->Inl
 | 0=>⟨pv,λ_=>none,λ_ _ _ _ _=>none⟩
 | n+1=>⟨pv,λf=>match a f with
  | some p=>some (VO (da lp call<|Mx pv a lp call n) p.1 p.2)
  | none=>none,λc an R s k=>Ow (da lp call<|Mx pv a lp call n) c an R s k⟩
def Vu{P:Program}(h:xu P=true){t:Nat}(a:fnF t=true):Ps P t=true:=by simp only[xu,Y] at h;exact zxa.1 h.2 t (by simpa [fnF] using a)
section
variable{P:Program}
def w9(h1:xu P=true)(h2:Gv P=true)(h4:FG P=true)(h3:P.follows .mixedOrders=true){lp:Lp}(hlp:tD lp){call:Nat->List D->Option D}(hc:gm P call)
  {inl : Inl} (hcod : Ko P inl.cod) (hi : ∀ f g, inl.f f = some g -> (∃ fn, P.funcs[f]? = some fn /\ (fn.name == "runtime.NumGoroutine") = false /\ fn.body.isSome = true) /\ KP P f g) : EnvOk P (da lp call inl) := by
 have k1:∀ t ty,YP t=some ty->cb P ty t=true/\ty.high<=1000/\aj ty=true:=λt ty ht=>by have:=zxa.1 (Y _ _ ▸ h1:_/\_).1 t<|zRa.2<|QM ht;rw[ht] at this;simp[Y,zea] at this;exact⟨this.1.1,this.1.2,this.2⟩
 refine⟨λt ty ht=>.inr (k1 t ty ht).1,λt ty ht=>(k1 t ty ht).2.1,λt ty ht=>(k1 t ty ht).2.2,λf ptys rty hf=>?_,hc,h3,hlp,λt kt vt ht=>?_,hi,hcod,λt ht=>Vu h1 ht⟩
 ·have:=zxa.1 h2 f<|zRa.2<|Et hf;rw[show pe f=some (ptys,rty) from hf] at this;simp[NN,Y,zHb] at this;obtain⟨⟨q1,q2⟩,q3⟩:=this;refine⟨q1,?_,?_⟩
  ·rcases q2 with q2|q2
   ·exact .inl q2
   ·right;split at q2
    ·rename_i ts;exact⟨_,rfl,q2⟩
    ·cases q2
  ·split at q3
   ·rename_i fn hfn;simp only[Y,zCa] at q3;exact⟨fn,hfn,q3⟩
   ·cases q3
 ·have:=zxa.1 h4 t<|zRa.2<|MN ht;rw[show MM t=some (kt,vt) from ht] at this;simp[Y,zea] at this;obtain⟨⟨m1,m2⟩,m3⟩:=this;refine⟨m1,?_⟩;split at m3<;>try(cases m3;done)
  rename_i K V hu;simp[Y] at m3;exact⟨K,V,hu,m3.1,m3.2,m2⟩
def GA (P : Program) (f : Nat) (p : Func × Ty) : Prop := P.funcs[f]? = some p.1 /\ (!(p.1.name == "runtime.NumGoroutine") && p.1.body.isSome && Gk p.1.results.size p.2) = true
theorem Bp{pv:Nat->Bool}{b:Nat->Option (Func×Ty)}(c:xu P=true)(d:Gv P=true)(i:FG P=true)(e:P.follows .mixedOrders=true)(l:∀ f p,b f=some p->GA P f p){lp:Lp}(a:tD lp){call:Nat->List D->Option D}(j:gm P call) :
  ∀ n,EnvOk P (da lp call<|Mx pv b lp call n)
 | 0=>w9 c d i e a j (λ_ _ _ _ _ _ _ _ _ _ _ _ _ _ _ _ _ h=>by cases h) λf g h=>by cases h
 | n+1=>w9 c d i e a j (Vc<|Bp c d i e l a j n) λf g h=>by
  simp[Mx] at h;split at h<;>try(cases h;done)
  rename_i p hp;cases h;obtain⟨q1,k⟩:=l f p hp;simp only[Y,zCa] at k;exact⟨⟨p.1,q1,k.1.1,k.1.2⟩,PD (Bp c d i e l a j n) q1 k.2⟩
end
end Sy
end
noncomputable section
namespace Sy
open Go Go.Proofs
def Dt:xu Tryz.prog=true:=j3
def Es:Gv Tryz.prog=true:=j3
def DA:FG Tryz.prog=true:=j3
def FJ:Tryz.prog.follows .mixedOrders=true:=j3
def FB(v:Nat)(lp:Lp)(call:Nat->List D->Option D):Inl:=Mx (λt=>Nat.beq v 1||(Nat.ble 3 v&&(pvL.getD (v-3) []).any (Nat.beq t))) (QD v) lp call 9
noncomputable abbrev kP(lp:Lp)(call:Nat->List D->Option D):Inl:=FB 0 lp call
def QE(v:Nat):∀ f p,QD v f=some p->GA Tryz.prog f p:=by
 intro f p h;have key:∀ q∈QF,GA Tryz.prog q.1 q.2:=by
  intro q hq;simp only[QF,Wt,zrb,z7b,zMa,zbc,or_false] at hq;repeat' first
   | (rcases hq with hq|hq;· subst hq;exact⟨j3,j3⟩)
   | (subst hq;exact⟨j3,j3⟩)
 exact key (f,p)<|NT h
def Vh{v:Nat}{lp:Lp}(a:tD lp){call:Nat->List D->Option D}(b:gm Tryz.prog call):EnvOk Tryz.prog (da lp call<|FB v lp call):=
 Bp Dt Es DA FJ (QE v) a b 9
def X2{lp:Lp}(a:tD lp){call:Nat->List D->Option D}(b:gm Tryz.prog call):EnvOk Tryz.prog (da lp call<|kP lp call):=Vh a b
def YA(o:Oper):Option ByteArray:=match o.op with|.index _ (.const (.string s)) _=>some s|_=>none
def tj:Code->Option ByteArray
 | .region _ ops _=>ops.toList.findSome? YA
 | .seq a b=>(tj a).orElse λ_=>tj b
 | .cond _ a b=>(tj a).orElse λ_=>tj b
 | .block _ a=>tj a
 | .loop a=>tj a
 | .scope a=>tj a
 | _=>none
def LQ(f:Func):Code:=match f.body with|some c=>c|none=>.skip
end Sy
end
noncomputable section
namespace Sy
open Go
section
variable{y:D}{l:List D}{f:FuncId}{c:World}{j:Ty}
variable{ro:Option Nat}{nn:Nat}
def uf(s:St)(t:Ty):AV->Option (List D)
 | .own t' v l=>if t'.beq t&&!(s.dead.contains v) then some l else none
 | .nils=>some []
 | _=>none
def RM(s:St)(t:Ty)(ts:List Ty):AV->Option D
 | .st ts' (b::l)=>if Ty.beqs (.sl t::ts) ts' then(uf s t b).bind λl0=>(AV.toDl s.ob ts l).bind λxs=>some (.st<|.sl l0::xs) else none
 | _=>none
def Qf(E:Env)(s:St):Ty->List ResultVar->Option D
 | .tup (.sl t::u::ts),.tmp i::r::b=>(uf s t<|s.tm i).bind λl=>ve E s (u::ts) (r::b) λxs=>some (.tup<|.sl l::xs)
 | .st (.sl t::ts),[.cell i T]=>(E.L T).bind λu=>match s.tm i with
  | .ptr t' id p=>if u.beq t'&&u.beq (.st<|.sl t::ts) then(s.ob id).bind λo=>gV o p λa=>RM s t ts a else none
  | _=>none
 | _,_=>none
def Vl(E:Env)(fn:Func)(ann:Ann)(b:List Ty)(a:Ty)(args:List D):Option D:=
 match fn.body with
 | none=>none
 | some c=>Ow E c ann D { tm:=gT b args,ob:=λ_=>none,fresh:=0,dead:=[],nt:=fn.ntmps,lkS:=[],lkO:=[] } λe s=>match e with
  | .exit _=>none
  | _=>Qf E s a fn.results.toList
section
variable{P:Program}{E:Env}{S S':Nat->Nat->Prop}{γ γ':Nat->Option Nat}{β β' β'':Nat->Option (Nat×Nat)}{s sc:St}{a:Act}{w w':World}
def zC(p:Rp ⟨c,S,λ_=>False⟩ S' γ β s a w){t:Ty}(j:aj t=true){x:AV}{cs:List Value}(hx:AC ⟨w,S',γ,β,s.ob,s.dead⟩ x cs)(hq:uf s t x=some l):∃ v0,cs=[v0]/\IA c w S' t l v0:=by
 unfold uf at hq;split at hq<;>try(cases hq;done)
 ·rename_i t' v l';split at hq<;>try(cases hq;done)
  rename_i e;simp[Y,zCa] at e;have:=ags _ _ e.1;subst this;cases hq;have d:v ∉ s.dead:=by simpa using e.2
  simp[AC] at hx;obtain⟨m1,m2,A,cap,rfl,k,h⟩:=hx;refine⟨_,rfl,A,cap,rfl,m1,m2,k,?_⟩;rcases h d with h|⟨b,off,rfl,m,o⟩
  ·exact .inl h
  ·obtain⟨q,r,u⟩:=p.βn _ _ _ d m;refine .inr ⟨b,off,rfl,⟨?_,r⟩,o,u⟩;rcases zua b c.heap.size with g|f
   ·exact z8a ⟨g,λi=>i⟩ q
   ·exact f
 ·cases hq;simp[AC] at hx;subst hx;exact⟨_,rfl,none,0,rfl,j,j2,afw (b:=0) (off:=0) (.inl rfl) (zja _) ⟨[],c7.nil,j2⟩,.inl ⟨rfl,rfl⟩⟩
theorem IA.wt{w w':World}{t:Ty}{v:Value}(h:IA w w' S' t l v):aj t=true/\Sy.wt (.sl t) (.sl l)/\ge w' S' (.sl l) v:=by obtain⟨A,cap,rfl,a,b,c,_⟩:=h;exact⟨a,by simp only[Sy.wt];exact⟨l,rfl,b⟩,afQ c⟩
theorem Qg(a1:EnvOk P E)(d:Rp ⟨c,S,λ_=>False⟩ S' γ β s a w){fn:Func}(hn:aj j=true\/∃ ts,j=.tup ts/\aP ts=true)(hq:Qf E s j fn.results.toList=some y) :
  ∃ v,(Go.results fn a.tmps).run P w=.ok v w/\wv c w S' j y v:=by
 rw[kr];have hm:fn.results.mapM (lU a.tmps)=Functor.map List.toArray (fn.results.toList.mapM<|lU a.tmps):=by rw[zxc]
 rw[hm];generalize fn.results.toList=J at *;unfold Qf at hq;split at hq<;>try(cases hq;done)
 ·rename_i t u ts i r J;have e:aj t=true/\aP (u::ts)=true:=by
   all_goals simp_all [aj,aP,Y]
  obtain⟨l,F,L⟩:=ab hq;obtain⟨xs,vs,k,U,k3,V,k5,k6⟩:=s7 a1 d (u::ts) (r::J) _ y e.2 L;simp[zda] at k;subst k;have hi:i<a.tmps.size:=by all_goals grind [d.tmu,d.nt,uf]
  have hx:=d.tms i hi;have h:(∀ cs,a.tmps.getD i undef≠.agg cs)/\AC ⟨w,S',γ,β,s.ob,s.dead⟩ (s.tm i) (a.tmps.getD i undef).cells.toList:=by unfold uf at F;all_goals grind [AR]
  obtain⟨v0,e0,B⟩:=zC d e.1 h.2 F;have e1:=ak h.1 e0;refine⟨.tuple (v0::vs).toArray,?_,?_⟩
  ·have H:(v0::vs).length≠1:=by simp only[zOa,V];omega
   have C:=U;rw[zVc];simp only[lU,pure_bind,G,map_eq_pure_bind,C,zga,zta,e1]
   simp_all
  ·grind [wv]
 ·rename_i t ts i T;have e:aj t=true/\aP ts=true:=by
   all_goals simp_all [aP,aj,Y]
  obtain⟨u,M,hq⟩:=ab hq;split at hq<;>try(cases hq;done)
  rename_i t' id p A;split at hq<;>try(cases hq;done)
  rename_i m;simp[Y] at m;have e1:=ags _ _ m.1;have e2:=ags _ _ m.2;subst e1;subst e2;obtain⟨o,I,hq⟩:=ab hq;have hi:i<a.tmps.size:=by
   rcases zua i a.tmps.size with x|q
   ·exact x
   ·have:=d.tmu i (by rw[<-d.nt];exact q)
    simp_all
  have hx:=d.tms i hi;rw[A] at hx;obtain⟨b,off,N,Q,z⟩:=lj hx;obtain⟨k,rfl⟩:=z o I;obtain⟨a',cs,m1,m2,W,X,a0⟩:=lT (d.obs id o b I Q) k hq;obtain⟨Z,m7⟩:=iG _ _ _ W m2;obtain⟨v,f,g⟩:=jx (jQ a1 M X) (w:=w) (b:=b) (off:=cC o p) Z m7 a0;have O:v=.agg cs.toArray:=by obtain⟨i1,R,_⟩:=g;obtain⟨zs,rfl⟩:=R rfl;rw[<-i1];simp[Value.cells]
  refine⟨v,?_,?_⟩
  ·have:(lU a.tmps<|.cell i T).run P w=.ok v w:=by
    rw[<-f];simp only[lU,Instr.loadAt,Instr.sureAddr,pure_bind];rw[show a.tmps.getD i undef=.pointer (some ⟨b,cC o p,none⟩) from N];rfl
   simp_all
  ·unfold RM at m1;split at m1<;>try(cases m1;done)
   rename_i ts' b0 l;split at m1<;>try(cases m1;done)
   rename_i n;have:=agt _ _ n;subst this;obtain⟨l0,q1,q2⟩:=ab m1;obtain⟨xs,q3,q4⟩:=ab q2;cases q4;simp[AC,jW] at m2;obtain⟨_,_,c1,K,rfl,g1,g2⟩:=m2;obtain⟨v0,rfl,B⟩:=zC d e.1 g1 q1;obtain⟨g3,g4⟩:=Cf l ts K xs q3 g2;grind [wv]
theorem wv.wt{w w':World}{v:Value}(h:wv w w' S' j y v):Sy.wt j y/\DR w' S' y v:=by
 unfold wv at h;split at h<;>first|(exact h.elim)|skip
 ·rename_i t ts;obtain⟨l,m,v0,vs,rfl,rfl,a,g,b,c,n⟩:=h;obtain⟨k,e,f⟩:=a.wt;refine⟨by simp only[Sy.wt];exact⟨_,rfl,_,_,rfl,e,b⟩,v0::vs,rfl,by simp[c],λi d u o p=>?_⟩
  all_goals grind
 ·rename_i t ts;obtain⟨l,m,v0,cs,rfl,rfl,a,g,b,c⟩:=h;obtain⟨k,e,f⟩:=a.wt;refine⟨by simp only[Sy.wt];exact⟨_,rfl,_,_,rfl,e,b⟩,?_⟩
  obtain⟨A,cap,rfl,_⟩:=a;refine DR.of0 ⟨⟨_,rfl⟩,?_⟩;simp[D.flat,N,Value.cells];exact f.2.append c
def Kr.ctr{a:List Ty}{xs:List D}(h:Kr P a j f xs y):OC P a j f xs y:=by intro w S vs i d b c;refine(h w S vs i d b c).mono λe w' ⟨v,k,l,S',s1,s2,g⟩=>⟨v,k,l,g.wt.1,g.wt.2.mono (λ_ _ _=>rfl) s2⟩
theorem CV(z:EnvOk P E){fn:Func}{ann:Ann}{g:List Ty}{xs:List D}(i:P.funcs[f]?=some fn)(K:g.length<=fn.ntmps)(H:aP g=true)(J:aj j=true\/∃ ts,j=.tup ts/\aP ts=true)
  (h:Vl E fn ann g j xs=some y):Kr P g j f xs y:=by
 intro w S vs F n A s;unfold Vl at h;split at h<;>try(cases h;done)
 rename_i c a;have N:=iZ n;have m:(vs.toArray++Array.replicate (fn.ntmps-vs.toArray.size) undef).size=fn.ntmps:=by simp;omega
 refine jm (w0:=⟨w,S,λ_=>False⟩) (S:=S) (γ:=λ_=>none) (β:=λ_=>none) z i a rfl ?_ h (λ_ _ G=>by cases G) λe s' S' γ' β' a' w' q T V W=>?_
 ·refine⟨⟨rfl,rfl,rfl,zja _,zja _,λ_ _=>rfl⟩,λt C=>?_,m,λt C=>?_,λid o b I=>(by cases I),λid b a=>(by cases a),λid O b a=>(by cases a),λ_ _=>rfl,λv b e _ a=>(by cases a),λv v' b e U _ _ a=>(by cases a),λv id b e _ a=>(by cases a),λ_ _=>rfl,F,λb o a _=>a⟩
  ·simp only[gT];split
   ·rename_i ty x e1 e2;have k:=(zra.1 e2).1;have l:t<vs.length:=u0
    have M:(vs.toArray++Array.replicate (fn.ntmps-vs.toArray.size) undef).getD t undef=vs[t]:=by simp_all
    rw[M];obtain⟨X,p,u⟩:=gk n e1;rw[e2] at p;cases p;exact dC (bZ H e1) u<|s t x _ e2<|zca l
   ·simp[AR]
  ·have L:=C;simp[gT];grind
 ·have B:Qf E s' j fn.results.toList=some y->(∃ v,(Go.results fn a'.tmps).run P w'=.ok v w'/\∃ v',Ending.returned v=.returned v'/\(∃ os d,w.drawn<=d/\w'=grown w os d)/\∃ S':Nat->Nat->Prop,(∀ b o,S b o->S' b o)/\(∀ b o,S' b o->S b o\/(w.heap.size<=b/\b<w'.heap.size))/\wv w w' S' j y v'):=λhq=>by
   obtain⟨v,Q,R⟩:=Qg z q J hq;refine⟨v,Q,v,rfl,fV q.ext<|λ_ i=>i,S',T.sub,λb o a=>?_,R⟩;rcases zua b w.heap.size with k|r
   ·exact .inl<|q.So b o a ⟨k,λi=>i⟩
   ·exact .inr ⟨r,q.Sb b o a⟩
  all_goals grind
end
end
end Sy
end
noncomputable section
namespace Sy
open Go Go.Proofs
section
variable{f:Nat}
inductive CT where
 | leaf (k:Nat) (g:(Nat->List D->Option D)->List D->Option D)
 | node (m:Nat) (a b:CT)
def CT.get:CT->Nat->(Nat->List D->Option D)->List D->Option D
 | .leaf k g,f,call,xs=>bif Nat.beq f k then g call xs else none
 | .node m a b,f,call,xs=>bif Nat.blt f m then a.get f call xs else b.get f call xs
def xv(f:Nat)(g:(Nat->List D->Option D)->List D->Option D):Prop:=
 ∀ call,gm Tryz.prog call->∀ a b xs y,pe (cj f)=some (a,b)->g call xs=some y->fq a xs->OD Tryz.prog (pM<|cj f) (kg<|cj f) a b (cj f) xs y
def CT.ok:CT->Prop
 | .leaf k g=>xv k g
 | .node _ a b=>a.ok/\b.ok
theorem afz:∀ {t:CT},t.ok->∀ {call},gm Tryz.prog call->∀ f c d xs y,pe (cj f)=some (c,d)->t.get f call xs=some y->fq c xs->OD Tryz.prog (pM<|cj f) (kg<|cj f) c d (cj f) xs y
 | .leaf k g,h,call,i,f,c,d,xs,y,j,e,l=>by
  simp[CT.get] at e;cases hb:Nat.beq f k with
  | false=>rw[hb] at e;cases e
  | true=> rw[hb] at e;have:=z3b hb;subst this;exact h call i c d xs y j e l
 | .node m a b,h,call,i,f,c,d,xs,y,j,e,l=>by
  simp[CT.get] at e;cases hb:Nat.blt f m with
  | false=>rw[hb] at e;exact afz h.2 i f c d xs y j e l
  | true=>rw[hb] at e;exact afz h.1 i f c d xs y j e l
def UB:((List.range JQ).all λf=>match Qu f with|some p=>Nat.beq (cj p.1) f|none=>true)=true:=j3
def OL{g:List Ty×Ty}(h:pe f=some g):cj (rV f)=f:=by
 have a:=zxa.1 UB f<|zRa.2<|Et h;unfold pe at h;unfold rV;split at h<;>try(cases h;done)
 rename_i p hp;rw[hp] at a;exact z3b a
def afy{t:CT}(h:t.ok){call}(d:gm Tryz.prog call):gm Tryz.prog λf xs=>t.get f call xs:=λf a b xs y c i g=>by
 have e:=OL c;have:=afz h d (rV f) a b xs y (by rw[e];exact c) i g
 rwa [e] at this
def L8(v:Nat)(lp:Lp)(f:Nat)(fn:Func)(ann:Ann)(call:Nat->List D->Option D)(xs:List D):Option D:=
 (pe<|cj f).bind λs=>bif pM (cj f) then(match s.2 with|.sl t=>(Vj (da lp call<|FB v lp call) fn ann s.1 t xs).bind λl=>some (.sl l)|r=>Vl (da lp call<|FB v lp call) fn ann s.1 r xs) else bif Nat.beq (kg<|cj f) 0 then evF (da lp call<|FB v lp call) fn ann s.1 s.2 xs else Vk (da lp call<|FB v lp call) fn ann s.1 (kg<|cj f) s.2 xs
def MC(f:Nat)(fn:Func):Bool:=match pe (cj f) with
 | some (p,r)=>decide (p.length<=fn.ntmps)&&gg fn.results.size r&&aP p&&(decide (kg (cj f)<=p.length)&&(bif pM (cj f) then Nat.beq (kg<|cj f) 0 else decide (kg (cj f)<=4095)))
 | none=>false
def sJ{v:Nat}{lp:Lp}(n:tD lp){fn:Func}{ann:Ann}(e:Tryz.prog.funcs[cj f]?=some fn)(g:MC f fn=true):xv f (L8 v lp f fn ann):=by
 intro call u q c xs y x a A;unfold L8 at a;unfold MC at g;rw[x] at a g;simp[zba] at a;simp[Y,zea] at g;obtain⟨⟨⟨i,b⟩,j⟩,z,m⟩:=g;have d:=Vh (v:=v) n u;cases how:pM (cj f) with
 | true=>
  rw[how] at a;simp[cond_true] at a;have h0:kg (cj f)=0:=by rw[how] at m;simpa using m
  rw[h0];split at a
  ·rename_i t;obtain⟨l,r,s⟩:=ab a;cases s;have o:=CU d e i j r;exact⟨o.ctr,λ_=>.inl ⟨t,l,rfl,rfl,o⟩⟩
  ·have w:aj c=true\/∃ ts,c=.tup ts/\aP ts=true:=by
    unfold gg at b;split at b
    ·exact .inl b
    ·split at b
     ·exact .inr ⟨_,rfl,b⟩
     ·cases b
   have p:=CV d e i j w a;exact⟨p.ctr,λ_=>.inr p⟩
 | false=>
 rw[how] at a;simp[cond_false] at a;refine⟨?_,λh=>by cases h⟩
 cases hz:kg (cj f) with
 | zero=> rw[hz] at a;exact IT d e i j b a
 | succ k=> rw[hz] at a;exact Fb d e i j (by rw[<-hz];exact z) (by rw[<-hz];rw[how] at m;simpa using m) b a
abbrev Ann.tl(a:Ann):Ann:=.two .leaf a
section
variable{α:Type}
noncomputable abbrev qT(x:D)(f:Bool->Option α):Option α:=(D.truth x).bind f
noncomputable abbrev Q(x:D)(p:List Nat)(f:D->Option α):Option α:=(D.get x p).bind f
noncomputable abbrev qS(x:D)(f:List D->Option α):Option α:=(D.asSl x).bind f
noncomputable abbrev qI(x:D)(l:List D)(f:D->Option α):Option α:=(D.idx x l.length).bind λk=>(l[k]?).bind f
noncomputable abbrev P(o:BinOp)(x y:D)(f:D->Option α):Option α:=(afA o x y).bind f
noncomputable abbrev qC(o:BinOp)(x y:D)(f:Bool->Option α):Option α:=(afA o x y).bind λz=>(D.truth z).bind f
noncomputable abbrev qN(x:D)(f:Bool->Option α):Option α:=(afP .not x).bind λz=>(D.truth z).bind f
noncomputable abbrev qX(x i:D)(f:D->Option α):Option α:=(D.asSl x).bind λl=>(D.idx i l.length).bind λk=>(l[k]?).bind f
noncomputable abbrev qL(x i:D)(f:Bool->Option α):Option α:=(D.asSl x).bind λl=>(afA .lss i<|.int .i64 l.length).bind λz=>(D.truth z).bind f
noncomputable abbrev qY(x:D)(p:List Nat)(i:D)(f:D->Option α):Option α:=(D.get x p).bind λx=>(D.asSl x).bind λl=>(D.idx i l.length).bind λk=>(l[k]?).bind f
noncomputable abbrev qM(x:D)(p:List Nat)(i:D)(f:Bool->Option α):Option α:=(D.get x p).bind λx=>(D.asSl x).bind λl=>(afA .lss i<|.int .i64 l.length).bind λz=>(D.truth z).bind f
noncomputable abbrev qP(x:D)(p:List Nat)(f:List D->Option α):Option α:=(D.get x p).bind λx=>(D.asSl x).bind f
noncomputable abbrev qJ(i:D)(n:Nat)(x:D)(f:D->Option α):Option α:=(D.idx i n).bind λk=>(D.get x [k]).bind f
end
abbrev qV(l:List D)(i:Nat):List D:=(l.getD i<|.bool false).els
abbrev qW(l:List D)(i:Nat):D:=D.sl<|(l.getD i<|.bool false).els
abbrev qZ(lp:Lp)(f:List D->Option (Sum (List D)<|Nat×List D)):List D->Option (Nat×List D):=lp f
abbrev iL(l:List D):Option (Sum (List D)<|Nat×List D):=some<|Sum.inl l
abbrev iR(l:Nat×List D):Option (Sum (List D)<|Nat×List D):=some<|Sum.inr l
abbrev LO:Type:=List<|Nat×ShO
abbrev LS:Type:=List<|Nat×Sh
abbrev Jn(n:Int):D:=.int .i64 n
abbrev Ca:Type:=Nat->List D->Option D
abbrev Sh.di:Sh:=.dv<|.int .i64
abbrev Sh.sp(t:Ty)(i:Nat):Sh:=.same<|.ptr t i []
structure TT where
 k:Nat
 t:Lp->CT
 p:∀ lp,tD lp->(t lp).ok
instance:Add TT:=⟨λa b=>⟨a.k,λlp=>.node b.k (a.t lp)<|b.t lp,λlp h=>⟨a.p lp h,b.p lp h⟩⟩⟩
section
variable(k:Nat)(fn:Func)
def lf(g:Lp->Ca->List D->Option D)(h:∀ lp,tD lp->xv k (g lp)):TT:=⟨k,λlp=>.leaf k<|g lp,h⟩
def eR(ann:Ann)(v:Nat:=0)(b:Tryz.prog.funcs[cj k]?=some fn:=by kernel_rfl)(c:MC k fn=true:=by kernel_rfl):TT:=lf k (λlp=>L8 v lp k fn ann) λlp a=>sJ a b c
abbrev M0:Type 1:=Lp->Ca->Option D
def e0(F:M0)(ann:Ann)(v:Nat:=0)(g:Tryz.prog.funcs[cj k]?=some fn:=by kernel_rfl)(h:MC k fn=true:=by kernel_rfl)
  (e:∀ lp call,L8 v lp k fn ann call []=F lp call:=by intros;kernel_rfl):TT:=lf k (λlp call xs=>match xs with|[]=>F lp call|_=>none) λlp c call f a d xs y i b j=>by
 dsimp only at b;split at b<;>try(cases b;done)
 exact sJ (v:=v) c g h call f a d _ y i ((e lp call).trans b) j
abbrev M1:Type 1:=Lp->Ca->D->Option D
def e1(F:M1)(ann:Ann)(v:Nat:=0)(g:Tryz.prog.funcs[cj k]?=some fn:=by kernel_rfl)(h:MC k fn=true:=by kernel_rfl)
  (e:∀ lp call a0,L8 v lp k fn ann call [a0]=F lp call a0:=by intros;kernel_rfl):TT:=lf k (λlp call xs=>match xs with|[a0]=>F lp call a0|_=>none) λlp c call f a d xs y i b j=>by
 dsimp only at b;split at b<;>try(cases b;done)
 exact sJ (v:=v) c g h call f a d _ y i ((e lp call _).trans b) j
abbrev M2:Type 1:=Lp->Ca->D->D->Option D
def e2(F:M2)(ann:Ann)(v:Nat:=0)(g:Tryz.prog.funcs[cj k]?=some fn:=by kernel_rfl)(h:MC k fn=true:=by kernel_rfl)
  (e:∀ lp call a0 a1,L8 v lp k fn ann call [a0,a1]=F lp call a0 a1:=by intros;kernel_rfl):TT:=lf k (λlp call xs=>match xs with|[a0,a1]=>F lp call a0 a1|_=>none) λlp c call f a d xs y i b j=>by
 dsimp only at b;split at b<;>try(cases b;done)
 exact sJ (v:=v) c g h call f a d _ y i ((e lp call _ _).trans b) j
abbrev M3:Type 1:=Lp->Ca->D->D->D->Option D
def e3(F:M3)(ann:Ann)(v:Nat:=0)(g:Tryz.prog.funcs[cj k]?=some fn:=by kernel_rfl)(h:MC k fn=true:=by kernel_rfl)
  (e:∀ lp call a0 a1 a2,L8 v lp k fn ann call [a0,a1,a2]=F lp call a0 a1 a2:=by intros;kernel_rfl):TT:=lf k (λlp call xs=>match xs with|[a0,a1,a2]=>F lp call a0 a1 a2|_=>none) λlp c call f a d xs y i b j=>by
 dsimp only at b;split at b<;>try(cases b;done)
 exact sJ (v:=v) c g h call f a d _ y i ((e lp call _ _ _).trans b) j
abbrev M4:Type 1:=Lp->Ca->D->D->D->D->Option D
def e4(F:M4)(ann:Ann)(v:Nat:=0)(h:Tryz.prog.funcs[cj k]?=some fn:=by kernel_rfl)(i:MC k fn=true:=by kernel_rfl)
  (f:∀ lp call a0 a1 a2 b,L8 v lp k fn ann call [a0,a1,a2,b]=F lp call a0 a1 a2 b:=by intros;kernel_rfl):TT:=lf k (λlp call xs=>match xs with|[a0,a1,a2,b]=>F lp call a0 a1 a2 b|_=>none) λlp d call g a e xs y j c l=>by
 dsimp only at c;split at c<;>try(cases c;done)
 exact sJ (v:=v) d h i call g a e _ y j ((f lp call _ _ _ _).trans c) l
abbrev M5:Type 1:=Lp->Ca->D->D->D->D->D->Option D
def e5(F:M5)(ann:Ann)(v:Nat:=0)(i:Tryz.prog.funcs[cj k]?=some fn:=by kernel_rfl)(j:MC k fn=true:=by kernel_rfl)
  (g:∀ lp call a0 a1 a2 b c,L8 v lp k fn ann call [a0,a1,a2,b,c]=F lp call a0 a1 a2 b c:=by intros;kernel_rfl):TT:=lf k (λlp call xs=>match xs with|[a0,a1,a2,b,c]=>F lp call a0 a1 a2 b c|_=>none) λlp e call h a f xs y l d m=>by
 dsimp only at d;split at d<;>try(cases d;done)
 exact sJ (v:=v) e i j call h a f _ y l ((g lp call _ _ _ _ _).trans d) m
abbrev M6:Type 1:=Lp->Ca->D->D->D->D->D->D->Option D
def e6(F:M6)(ann:Ann)(v:Nat:=0)(j:Tryz.prog.funcs[cj k]?=some fn:=by kernel_rfl)(l:MC k fn=true:=by kernel_rfl)
  (h:∀ lp call a0 a1 a2 b c d,L8 v lp k fn ann call [a0,a1,a2,b,c,d]=F lp call a0 a1 a2 b c d:=by intros;kernel_rfl):TT:=lf k (λlp call xs=>match xs with|[a0,a1,a2,b,c,d]=>F lp call a0 a1 a2 b c d|_=>none) λlp f call i a g xs y m e n=>by
 dsimp only at e;split at e<;>try(cases e;done)
 exact sJ (v:=v) f j l call i a g _ y m ((h lp call _ _ _ _ _ _).trans e) n
abbrev M7:Type 1:=Lp->Ca->D->D->D->D->D->D->D->Option D
def e7(F:M7)(ann:Ann)(v:Nat:=0)(l:Tryz.prog.funcs[cj k]?=some fn:=by kernel_rfl)(m:MC k fn=true:=by kernel_rfl)
  (i:∀ lp call a0 a1 a2 b c d e,L8 v lp k fn ann call [a0,a1,a2,b,c,d,e]=F lp call a0 a1 a2 b c d e:=by intros;kernel_rfl):TT:=lf k (λlp call xs=>match xs with|[a0,a1,a2,b,c,d,e]=>F lp call a0 a1 a2 b c d e|_=>none) λlp g call j a h xs y n f o=>by
 dsimp only at f;split at f<;>try(cases f;done)
 exact sJ (v:=v) g l m call j a h _ y n ((i lp call _ _ _ _ _ _ _).trans f) o
end
abbrev Z(l:List D)(i:Nat):D:=l.getD i<|.bool false
section
variable{α:Type}
abbrev qc(o:BinOp)(x y:D)(A B:Option α):Option α:=(afA o x y).bind λz=>(D.truth z).bind λk=>if k=true then A else B
abbrev qt(x:D)(A B:Option α):Option α:=(D.truth x).bind λk=>if k=true then A else B
abbrev qn(x:D)(A B:Option α):Option α:=(afP .not x).bind λz=>(D.truth z).bind λk=>if k=true then A else B
abbrev ql(x i:D)(A B:Option α):Option α:=(D.asSl x).bind λl=>(afA .lss i<|.int .i64 l.length).bind λz=>(D.truth z).bind λk=>if k=true then A else B
abbrev qm(x:D)(p:List Nat)(i:D)(A B:Option α):Option α:=(D.get x p).bind λx=>(D.asSl x).bind λl=>(afA .lss i<|.int .i64 l.length).bind λz=>(D.truth z).bind λk=>if k=true then A else B
abbrev qe(b:Bool)(A B:Option α):Option α:=if b=true then A else B
abbrev qa(b:Bool)(X:Option Bool)(f:Bool->Option α):Option α:=(if b=true then X else some false).bind λk=>(D.truth<|.bool k).bind f
abbrev qo(b:Bool)(X:Option Bool)(f:Bool->Option α):Option α:=(if b=true then some true else X).bind λk=>(D.truth<|.bool k).bind f
abbrev C(c:Ca)(n:Nat)(l:List D)(f:D->Option α):Option α:=(c n l).bind f
abbrev qi(x:D)(n:Nat)(f:Nat->Option α):Option α:=(D.idx x n).bind f
abbrev qs(x:D)(p:List Nat)(y:D)(f:D->Option α):Option α:=(D.set x p y).bind f
abbrev qw(k:IntKind)(x:D)(f:D->Option α):Option α:=(D.conv k x).bind f
abbrev qp(x:D)(i:Nat)(f:D->Option α):Option α:=(D.tupAt x i).bind f
abbrev qf(x:D)(i:Nat)(f:D->Option α):Option α:=(D.fld x i).bind f
abbrev qb(x:Option<|Nat×List D)(f:Nat×List D->Option α):Option α:=x.bind f
abbrev qu(l m:List D)(A:Option α):Option α:=if l.length+m.length<=1073741824 then A else none
abbrev qr(a:Nat×List D)(B:Option D):Option D:=if a.1=0 then some (Z a.2 0) else B
abbrev qz(x:D):Option Bool:=(afP .not x).bind λz=>D.truth z
abbrev qh(o:BinOp)(x y:D):Option Bool:=(afA o x y).bind λz=>D.truth z
abbrev qj(x:D)(f:D->Option α):Option α:=(afA .add x<|.int .i64 1).bind f
abbrev qy(lp:Lp)(f:List D->Option (Sum (List D)<|Nat×List D))(s:List D)(g:Nat×List D->Option α):Option α:=(qZ lp f s).bind g
abbrev qA(b:Bool)(X:Option Bool)(A B:Option α):Option α:=(if b=true then X else some false).bind λk=>(D.truth<|.bool k).bind λk=>if k=true then A else B
abbrev qO(b:Bool)(X:Option Bool)(A B:Option α):Option α:=(if b=true then some true else X).bind λk=>(D.truth<|.bool k).bind λk=>if k=true then A else B
end
abbrev nq(x y:D):D:=.bool<|!(D.beq x y)
abbrev bq(x y:D):D:=.bool<|D.beq x y
abbrev jl(l:List D):D:=.int .i64 l.length
abbrev S:D:=.bool false
abbrev bT:D:=.bool true
abbrev J0:D:=Jn 0
abbrev J1:D:=Jn 1
abbrev J2:D:=Jn 2
abbrev J3:D:=Jn 3
abbrev Ann.w(a b:Ann):Ann:=.two a b
abbrev Ann.o:Ann:=.leaf
abbrev Ann.t(a:Ann):Ann:=.two .leaf a
abbrev Ann.p(a:List<|Nat×Sh)(b:List<|Nat×ShO)(c:List Nat)(e:List<|Ex×Shape)(x:Ann):Ann:=.loop ⟨a,b,c⟩ e x
abbrev Ann.g:=Ann.reg
abbrev ShO.k:=ShO.keep
abbrev ShO.e:=ShO.one
abbrev Sh.s:=Sh.sp
abbrev Sh.i:=Sh.di
abbrev Sh.v:=Sh.dv
abbrev Sh.b:=Sh.dv Ty.bool
abbrev Ex.x:=Ex.exit
abbrev Ex.r:=Ex.ret
abbrev Ex.m:=Ex.normal
abbrev S1(a:List<|Nat×Sh):Shape:=⟨a,[],[]⟩
abbrev u(a:List<|Nat×Sh)(b:List<|Nat×ShO)(c:List Nat):Shape:=⟨a,b,c⟩
end
def WbQ:Shape:=⟨[(7,.v cn)],[],[]⟩
def zb:Ann:=.w (.w (.loop WbQ [(.x 2,WbQ)] .o) .o) .o
def zc:Nat×ShO:=(20494,.e Ty.bool<|.v Ty.bool)
def wa:Nat×ShO:=(57348,.fv<|.map h Ty.bool 57360)
def wb:Nat×Sh:=(5,.same<|.clo 181 [.ptr Ty.fn 57348 [],.ptr Ty.fn 53251 []])
def H':Ann:=.g [] 7
def tf:Ann:=.w H' .o
def Wa9:Ann:=.regI [] 7<|.w (.t tf) .o
def wm:Ann:=.t<|.t<|.w (.w (.t<|.w Wa9 .o) .o) .o
def D':Ann:=.g [] 10
def wr:Ann:=.t<|.w D' .o
def w6:Nat×ShO:=(12300,.e dH<|.v dH)
def va:Nat×ShO:=(16397,.e be<|.v be)
def WaR:Ann:=.g [] 5
def vb:Ann:=.w WaR .o
def vd:Nat×Sh:=(4,.s z 4100)
def vl:Nat×ShO:=(53251,.fv<|.yld 45056)
def vv:Nat×ShO:=(57360,.mp h Ty.bool)
def v8:Nat×ShO:=(4104,.e dH<|.v dH)
def ub:Nat×ShO:=(8202,.e cF<|.v cF)
def un:Nat×ShO:=(8203,.e cF<|.v cF)
def Wac:Nat×Sh:=(5,.i)
def sL:Shape:=⟨[(4,.b)],[],[]⟩
def rk:Shape:=⟨[],[],[]⟩
def gi:Ann:=.g [] 8
def sd:Ann:=.w gi .o
def us:Ann:=.t<|.t<|.w (.t<|.w (.p [Wac] [] [0,1] [(.r,sL),(.x 0,rk)]<|.t<|.w (.w sd .o) .o) .o) .o
def u3:Nat×ShO:=(4100,.k z 4)
def tk:Nat×ShO:=(4100,.k h 4)
def tp:Nat×Sh:=(5,.s z 8197)
def tt:Ann:=.w (.t<|.t<|.w D'<|.t<|.w gi<|.g [] 4) .o
def tw:Nat×ShO:=(4100,.e aY<|.v aY)
def tI:Nat×Sh:=(4,.s aY 4100)
def C':Nat×Sh:=(7,.ow z)
def sq:Shape:=⟨[C'],[],[]⟩
def sv:Nat×Sh:=(2,.s fY 4098)
def sw:Nat×Sh:=(8,.s K3 4104)
def sx:Shape:=⟨[(10,.b)],[],[]⟩
def sy:Nat×ShO:=(4100,.e cF<|.st [gP,K3,Ti,K2] [.v gP,.st [K2] [.ow h],.di,.ow h])
def sI:Nat×Sh:=(0,.same<|.yld 45056)
def sP:Nat×Sh:=(4,.s h 4100)
def g8:Nat×Sh:=(2,.same<|.clo 225 [])
def Wbd:Nat×Sh:=(15,.i)
def s6:LS:=[(1,.same<|.clo 224 [.ptr Ty.fn 20485 [],.ptr cn 20483 [],.ptr cn 20484 []]),g8,C',Wbd]
def ra:LS:=[(1,.same<|.clo 224 [.ptr Ty.fn 16389 [],.ptr cn 16387 [],.ptr cn 16388 []]),g8,C',Wbd]
def rf:Shape:=⟨[(6,.v cn)],[],[]⟩
def ri:Nat×ShO:=(4100,.k aY 4)
def rv:Nat×Sh:=(2,.s K4 4098)
def rz:Nat×Sh:=(2,.s z 4098)
def rI:Nat×ShO:=(8197,.e z<|.v z)
def pd:Nat×ShO:=(8197,.e cF<|.st [gP,K3,Ti,K2] [.v gP,.v K3,.di,.ow h])
def WaC:Ann:=.g [] 12
def pp:Ann:=.w WaC .o
def WaB:Ann:=.g [] 11
def pr:Ann:=.w WaB .o
def WaQ:Ann:=.g [] 6
def pI:Ann:=.w WaQ .o
def oj:Nat×Sh:=(3,.s h 4099)
def om:Shape:=⟨[(2,.b)],[],[]⟩
def oq:Nat×ShO:=(32783,.e vG<|.v vG)
def ot:Nat×ShO:=(90124,.e h<|.v h)
def ov:Nat×Sh:=(7,.s cX 4103)
def nf:Nat×Sh:=(10,.s K3 4106)
def ng:Nat×ShO:=(4109,.e Ty.bool<|.v Ty.bool)
def Wbi:Ann:=.g [] 9
def ma:Ann:=.w Wbi .o
def mb:Ann:=.w (.g [] 4) .o
def mg:Nat×Sh:=(3,.s z 4099)
def mi:Nat×Sh:=(2,.s h 4098)
def mj:Nat×Sh:=(3,.same<|.ptr Ty.fn 53251 [])
def ms:Nat×Sh:=(9,.s cX 4105)
def mu:Nat×ShO:=(4098,.k z 2)
def mv:Nat×ShO:=(4099,.k h 3)
def mB:Nat×ShO:=(4098,.k aY 2)
def mI:Nat×ShO:=(24587,.e aY<|.v aY)
def kd:Shape:=⟨[(14,.b)],[],[]⟩
def ky:Nat×Sh:=(6,.i)
def WbI:Nat×Sh:=(6,.s aY 8198)
def M':Nat×Sh:=(7,.v<|Ty.int .u64)
def WaF:Nat×ShO:=(8198,.e aY<|.v aY)
def k7:Shape:=⟨[tI,WbI,M'],[ri,WaF],[]⟩
def ie:Nat×ShO:=(4098,.e h<|.v h)
def ig:Nat×ShO:=(4101,.e aY<|.v aY)
def im:Ann:=.regI [] 9<|.w wr .o
def ip:Nat×ShO:=(4098,.e fY<|.v fY)
def ir:Nat×Sh:=(13,.s be 4109)
def iz:Ann:=.t<|.t<|.w (.w wr .o) .o
def iA:Nat×Sh:=(3,.i)
def iB:Nat×Sh:=(0,.same<|.yld 36864)
def iN:Ann:=.t<|.t<|.w (.w (.t<|.w (.regI [] 6 .o) .o) .o) .o
def i5:LO:=[(8209,.many Ti)]
def i9:Nat×ShO:=(45056,.lp none 3)
def hC:Nat×Sh:=(6,.b)
def hJ:Nat×Sh:=(2,.s aY 4098)
def h7:Nat×Sh:=(1,.s fY 4097)
def h9:Nat×Sh:=(4,.s z 8196)
def g':LO:=[(4097,.k z 1)]
def gb:Nat×ShO:=(4098,.k fY 2)
def gl:Nat×Sh:=(7,.same<|.sub true Ti 4097 [] 0 4)
def gp:Nat×Sh:=(5,.same<|.mem Ti 8209)
def gy:Nat×Sh:=(3,.s fe 4099)
def g5:Ann:=.t<|.w (.g [] 20) .o
def g6:Nat×Sh:=(4,.s be 4100)
def g7:Ann:=.t<|.w (.g [] 15) .o
def fa:Nat×ShO:=(8197,.e aY<|.v aY)
def fl:Nat×ShO:=(4100,.e z<|.v z)
def fp:Nat×ShO:=(4101,.e z<|.v z)
def fu:Nat×ShO:=(45056,.lp none 0)
def fw:Nat×ShO:=(4102,.e cX<|.v cX)
def fx:Nat×ShO:=(4103,.e K3<|.v K3)
def fy:Nat×ShO:=(4104,.e cX<|.v cX)
def fI:Nat×ShO:=(4105,.e K3<|.v K3)
def fT:Nat×ShO:=(4106,.e be<|.v be)
def es:Nat×ShO:=(4107,.e be<|.v be)
def ez:Nat×ShO:=(4108,.e dH<|.v dH)
def eB:Nat×ShO:=(36864,.lp none 0)
def eE:Ann:=.t<|.t<|.w (.w (.t WaB) .o) .o
def eF:Nat×Sh:=(11,.v<|Ty.int .u64)
def eL:Nat×Sh:=(4,.i)
def Z':Nat×Sh:=(8,.i)
def Y':Nat×Sh:=(3,.v K7)
def X':Ann:=.t<|.t<|.w (.w (.t Wbi) .o) .o
def V':Nat×Sh:=(2,.same<|.ptr Ty.fn 57348 [])
def U':Nat×ShO:=(4099,.k fe 3)
def R':Nat×ShO:=(4099,.k z 3)
def P':Nat×ShO:=(4100,.k be 4)
def O':Nat×ShO:=(4104,.k K3 8)
def K':Nat×Sh:=(6,.v<|Ty.int .u64)
def J':LO:=[(4098,.k K3 2)]
def I':Nat×Sh:=(7,.s K4 36871)
def G':Nat×Sh:=(0,.s vG 32783)
def Waa:Nat×ShO:=(4098,.e K4<|.st [K3,Ti] [.st [K2] [.ow h],.di])
def Wab:Nat×Sh:=(2,.s K2 4098)
def Wad:Nat×Sh:=(1,.s z 4097)
def Wae:Ann:=.w (.g [] 14) .o
def Waf:Nat×Sh:=(5,.s aY 8197)
def Wag:Nat×Sh:=(1,.s kK 4097)
def Wah:Nat×Sh:=(2,.s fe 4098)
def Wai:Nat×Sh:=(3,.s z 8195)
def Waj:Nat×Sh:=(6,.s K3 4102)
def Wak:Nat×Sh:=(2,.s cX 4098)
def Wal:Ann:=.t<|.t<|.w (.w (.t pr) .o) .o
def Wam:LO:=[(8207,.many Ti)]
def Wan:Ann:=.t<|.t<|.w (.w (.t gi) .o) .o
def Wao:Ann:=.w (.g [] 3) .o
def Wap:Nat×Sh:=(7,.i)
def Waq:Nat×ShO:=(110607,.e kK<|.v kK)
def War:Nat×Sh:=(6,.same<|.mem Ti 8207)
def Was:Nat×Sh:=(15,.s AL 90127)
def Wat:Nat×ShO:=(4098,.k K2 2)
def Wau:Shape:=⟨[eL],[],[]⟩
def Wav:Nat×ShO:=(32770,.e cF<|.v cF)
def Waw:Nat×ShO:=(32771,.e cF<|.v cF)
def Wax:Nat×ShO:=(77831,.e cF<|.v cF)
def Waz:Nat×ShO:=(4103,.k cX 7)
def WaA:Ann:=.t<|.w pp .o
def WaD:Nat×Sh:=(5,.s OI 12293)
def WaE:Nat×ShO:=(4099,.e be<|.v be)
def WaG:Nat×ShO:=(8195,.e z<|.v z)
def WaH:Nat×ShO:=(4098,.e fe<|.v fe)
def WaI:Nat×Sh:=(1,.s cF 32770)
def WaJ:Nat×Sh:=(2,.s cF 32771)
def WaK:Nat×ShO:=(24590,.fv<|.clo 112 [.ptr oD 20493 []])
def WaL:Nat×ShO:=(8200,.e be<|.v be)
def WaM:Nat×ShO:=(4098,.e cn<|.v cn)
def WaN:Nat×Sh:=(12,.v<|Ty.int .u64)
def WaO:LO:=[(4099,.k K6 3)]
def WaP:Nat×Sh:=(9,.b)
def WaS:Nat×Sh:=(3,.s be 4099)
def WaT:Nat×Sh:=(2,.s kK 4098)
def WaU:Nat×Sh:=(5,.s z 4101)
def WaV:Nat×Sh:=(5,.s dH 4101)
def WaW:Nat×Sh:=(2,.s K3 4098)
def WaX:Nat×Sh:=(4,.s cF 4100)
def WaY:Nat×Sh:=(5,.s cF 8197)
def WaZ:Nat×Sh:=(5,.s cX 4101)
def Wa0:Nat×Sh:=(4,.s AL 4100)
def Wa1:Nat×Sh:=(7,.s be 4103)
def Wa2:Nat×Sh:=(8,.s be 8200)
def Wa3:Nat×Sh:=(4,.s gP 4100)
def Wa4:Nat×Sh:=(5,.s gP 8197)
def Wa5:Nat×Sh:=(10,.i)
def Wa6:Nat×Sh:=(3,.ow h)
def Wa7:Ann:=.t<|.w (.w pI .o) .o
def Wa8:Ann:=.w (.t<|.w ma .o) .o
def Wba:Ann:=.t vb
def Wbb:Shape:=⟨[(5,.ow Ti),ky,Wap],[],[0,1]⟩
def Wbc:Nat×Sh:=(11,.i)
def Wbe:Nat×ShO:=(8202,.k cF 10)
def Wbf:Nat×ShO:=(8203,.k cF 11)
def Wbg:Nat×ShO:=(4106,.k K3 10)
def Wbh:Ann:=.w (.t<|.t g5) .o
def Wbj:Nat×Sh:=(7,.ow Ti)
def Wbk:Shape:=⟨[(0,.i),(1,.i)],[],[]⟩
def Wbl:Nat×Sh:=(15,.s vG 32783)
def Wbm:Nat×Sh:=(18,.s dH 32786)
def Wbn:Nat×Sh:=(6,.same<|.ptr Ty.fn 24590 [])
def Wbo:Nat×Sh:=(14,.s W6 86030)
def Wbp:Nat×Sh:=(10,.s fY 32778)
def Wbq:Nat×ShO:=(4099,.k aY 3)
def Wbr:LO:=[(4098,.e kK<|.v kK)]
def Wbs:Nat×ShO:=(4097,.k kK 1)
def Wbt:Nat×ShO:=(4101,.k aY 5)
def Wbu:Nat×ShO:=(4097,.k fY 1)
def Wbv:Nat×ShO:=(4104,.k dH 8)
def Wbw:Nat×ShO:=(4101,.k dH 5)
def Wbx:Nat×ShO:=(8196,.k z 4)
def Wby:Nat×ShO:=(4105,.k cX 9)
def Wbz:Nat×ShO:=(4101,.k cX 5)
def WbA:Nat×ShO:=(4103,.k be 7)
def WbB:Nat×Sh:=(3,.s oD 0)
def WbC:Nat×ShO:=(4100,.k gP 4)
def WbD:Nat×ShO:=(4098,.k GS 2)
def WbE:Ann:=.w (.g [] 13) .o
def WbF:Ann:=.w (.g [] 2) .o
def WbG:Nat×Sh:=(5,.s K5 8197)
def WbH:Nat×Sh:=(3,.s aY 4099)
def WbJ:Shape:=⟨[tI,Waf],[ri,fa],[]⟩
def WbK:Nat×Sh:=(3,.b)
def WbL:Nat×Sh:=(5,.s aY 4101)
def WbM:Nat×Sh:=(2,.s gP 4098)
def WbN:Nat×Sh:=(2,.s cF 4098)
def WbO:Nat×Sh:=(2,.s GS 4098)
def WbP:Shape:=⟨[(5,.ow Ti)],[],[]⟩
end Sy
end
noncomputable section
namespace Sy
open Go Go.Proofs Go.Sort Go.Lib
section
variable{S:Nat->Nat->Prop}{B γ:Nat->Option Nat}{a:Act}{l:List D}
variable{ro:Option Nat}{nn:Nat}
inductive AnnT where
 | hand
 | seq (a:Ann) (b:AnnT)
def Rk(E:Env)(K:St->Option D):Code->AnnT->St->Option D
 | .seq c d,.seq a b,s=>ev E c a D s λe s'=>match e with
  | .normal=>Rk E K d b s'
  | _=>none
 | _,.hand,s=>K s
 | _,_,_=>none
def vm:Code->AnnT->Code
 | .seq _ d,.seq _ b=>vm d b
 | c,_=>c
def qQ(fn:Func)(a:List Ty)(args:List D):St:={ tm:=gT a args,ob:=λ_=>none,fresh:=0,dead:=[],nt:=fn.ntmps,lkS:=[],lkO:=[4095] }
def L7(E:Env)(K:St->Option D)(fn:Func)(ann:AnnT)(a:List Ty)(args:List D):Option D:=
 match fn.body with
 | none=>none
 | some c=>Rk E K c ann<|qQ fn a args
section
variable{P:Program}{E:Env}{w0:Root}
def Fm.df0{s:St}{S':Nat->Nat->Prop}{a':Act}{w w':World}(h:Fm s S γ a w S' B a' w')(b:4095∈s.lkO)(c:a.defers=[]):a'.defers=[]:=by
 obtain⟨_,m,e,_,z⟩:=h.dfs
 simp_all
theorem kL.eq{w w':World}{b:Nat}{o:Obj}(h:kL w w' b)(c:w.heap[b]?=some o)(hl:∀ r,o≠.loop r):w'.heap[b]?=some o:=by
 rcases h with h|⟨r,_,a,_⟩
 ·simp_all
 ·grind
def Vq(n:EnvOk P E){K:St->Option D}{Q:Exit->Act->World->Prop}{y:D}:∀ (c:Code) (ann:AnnT) {S:Nat->Nat->Prop} {γ:Nat->Option Nat} {β:Nat->Option (Nat×Nat)} {s:St} {a:Act} {w:World},
  Rp w0 S γ β s a w->a.defers=[]->4095∈s.lkO->Rk E K c ann s=some y->(∀ s' S' m l a' w',Rp w0 S' m l s' a' w'->a'.defers=[]->K s'=some y->(vm c ann).wpIn (FW none) nn P Q a' w')->c.wpIn (FW none) nn P Q a w:=by
 intro c
 induction c with
 | seq c d _ ih=>
  intro ann S γ β s a w h g j f hQ;cases ann with
  | hand=>exact hQ s S γ β a w h g (by simpa only[Rk] using f)
  | seq a1 b=>
   simp[Rk] at f;refine wpIn_seq<|Da n c a1 D _ y h f λe s' S' m l a' w' o p q k=>?_;cases e with
   | normal=>exact ih b o (p.df0 j g) (by rw[q.lkO];exact j) k hQ
   | ret=>cases k
   | exit i=>cases k
 | _=>
  intro ann S γ β s a w h g j f hQ;cases ann with
  | hand=>exact hQ s S γ β a w h g (by simpa only[Rk] using f)
  | seq a1 b=>simp[Rk] at f
def eQ(s:St)(e:Ty)(x:Nat):Option (List D):=match s.tm x with
 | .own a v l=>if a.beq e&&!(s.dead.contains v)&&decide (l.length<=1073741824) then some l else none
 | .nils=>some []
 | _=>none
def Wc(s:St)(x:Nat)(e:Ty)(l:List D):St:={ tm:=λi=>if i=x then .d (.sl e) (.sl l) else .undef,ob:=λ_=>none,fresh:=s.fresh+1,dead:=[],nt:=s.nt,lkS:=[],lkO:=[4095] }
def Ks{w:World}{a:Option Addr}{n cap:Nat}(h:CR w S (.sl l)<|.slice a n cap):ge w S (.sl l) (.slice a n cap):=by
 refine⟨λcs h=>(by cases h),rfl,λi d c e b=>?_⟩
 cases i with
 | zero=>simp[D.flat,zAb,zda,Value.cells] at e b;subst e;first|(subst b;exact h)|(simp at b;subst b;exact h)
 | succ i=>simp[D.flat] at e
theorem iQ{e:Ty}(b:bS e=true):∀ l:List D,(∀ x∈l,wt e x)->∀ d∈N l,u5 d=true
 | [],_,d,a=>by simp[N] at a
 | y::l,h,d,a=>by
  simp[N,zJa] at a;rcases a with a|a
  ·exact iP e y b (h y zBa) d a
  ·exact iQ b l (λz c=>h z<|zsa _ c) d a
def Rp.new{S':Nat->Nat->Prop}{β:Nat->Option (Nat×Nat)}{s:St}{a':Act}{w w':World}(h:Rp w0 S γ β s a w)(n:nD w0 w'){x:Nat}{e:Ty}(p:aj e=true)(hx:x<s.nt)(j:∀ y∈l,wt e y)
  (r:ge w' S' (.sl l)<|a'.tmps.getD x undef) (i:a'.tmps.size=s.nt) (m:a'.defers=[]) (f:∀ b o,S' b o->b<w'.heap.size) (g:∀ b o,S' b o->w0.Old b->w0.S0 b o):Rp w0 S' (λ_=>none) (λ_=>none) (Wc s x e l) a' w':=by
 refine⟨n,λt k=>?_,i,λt k=>?_,λid o b q=>(by cases q),λid b c=>(by cases c),λid u b c=>(by cases c),λ_ _=>rfl,λv b e _ c=>(by cases c),λv v' b e z _ _ c=>(by cases c),λv id b e _ c=>(by cases c),λ_ _=>rfl,f,g⟩
 ·show AR _ (if t=x then AV.d (.sl e) (.sl l) else .undef) (a'.tmps.getD t undef)
  by_cases htx:t=x
  ·rw[zma htx];subst htx;exact .inl ⟨by simp[aj];exact p,⟨l,rfl,j⟩,r⟩
  ·simp_all [AR]
 ·show(if t=x then AV.d (.sl e) (.sl l) else .undef)=_
  rw[zha<|λh=>by subst h;exact z8a hx<|zOc.2 k]
def Qx(hE:EnvOk P E){f:Nat}{e:Ty}(hf:SortOk P f e){g:Nat}(hsig:E.sig g=some ([e,e],.int .i64)/\E.free g=0){id x t d2:Nat}{ops:Array Oper}{ty1 ty2:TypeId}{p1 p2:String}{af1 af2:Array Edge}{args:Array Operand}{ats:Array TypeId}
  (hops:ops.toList=[⟨some t,.move<|.tmp x,ty1,p1,af1,none⟩,⟨some d2,.call ⟨.value<|.func f,args,ats⟩,ty2,p2,af2,none⟩]) (hargs:args=#[.tmp t,.func g]) {Q:Exit->Act->World->Prop}
  {S:Nat->Nat->Prop} {γ:Nat->Option Nat} {β:Nat->Option (Nat×Nat)} {s:St} {a:Act} {w:World} (h:Rp w0 S γ β s a w) (hdf:a.defers=[]) (hxt:x≠t) (hxd:x≠d2) (ht:t<s.nt) {l l':List D} (hv:eQ s e x=some l) (hs:ld E g l=some l')
  (hQ:∀ a' w' S',Rp w0 S' (λ_=>none) (λ_=>none) (Wc s x e l') a' w'->a'.defers=[]->Q .normal a' w'):(Code.region id ops false).wpIn (FW ro) nn P Q a w:=by
 have hx:x<s.nt:=by all_goals grind [eQ,h.tmu]
 have hax:=h.tms x (by rw[h.nt];exact hx)
 obtain⟨ad,cap,val,hwt,hcr,hown⟩:∃ ad cap,a.tmps.getD x undef=.slice ad l.length cap/\(∀ y∈l,wt e y)/\CR w S (.sl l) (.slice ad l.length cap)/\(l≠[]->∃ b off row,ad=some ⟨b,off,none⟩/\ce w b=some row/\¬ w0.Old b/\b<w.heap.size)/\l.length<=1073741824:=by
  unfold eQ at hv;split at hv
  ·rename_i e' v l0 htm;split at hv
   ·rename_i hb;simp[Y,zCa,zea] at hb;obtain⟨⟨hb1,hb2⟩,hb3⟩:=hb;cases hv;have:=ags _ _ hb1;subst this;rw[htm] at hax;simp only[AR,AC] at hax;obtain⟨n0,n1,n2,ad,cap,n3,n4,n5⟩:=hax;have hval:=ak n0 n3;have hdead:v ∉ s.dead:=by simpa using hb2
    refine⟨ad,cap,hval,n2,n4,λhne=>?_,hb3⟩;rcases n5 hdead with⟨q1,q2⟩|⟨b,off,q1,q2,n,q3,q4⟩
    ·exfalso;obtain⟨_,_,b,off,e1,e2,e3,e4⟩:=n4.elems;all_goals simp_all
    ·obtain⟨k1,k2,_⟩:=h.βn v b _ hdead q2;unfold rL at q3;cases hr:ce w b with
     | none=>rw[hr] at q3;cases q3
     | some row=>exact⟨b,off,row,q1,hr,k1,k2⟩
   ·cases hv
  ·rename_i htm;cases hv;rw[htm] at hax;simp only[AR,AC] at hax;have hval:=ak hax.1 hax.2;exact⟨none,0,hval,j2,afw (b:=0) (off:=0) (.inl rfl) (zja _) ⟨[],c7.nil,j2⟩,λh=>z8a rfl h,j2⟩
  ·cases hv
 obtain⟨hown,hlen⟩:=hown;have hperm:l'.Perm l:=by
  unfold ld at hs;split at hs
  ·cases hs;exact iX _ l
  ·cases hs
 have hll:=hperm.length_eq;have hwt':∀ y∈l',wt e y:=λy hy=>hwt y<|hperm.subset hy;refine wpIn_region_list ?_;rw[hops];simp[wpListIn,Region.wanted,if_true];refine(bC (K:=λv w1=>v=a.tmps.getD x undef/\w=w1) (fh.value (v:=a.eval<|.tmp x) (w':=w) rfl ⟨rfl,rfl⟩) ?_);rintro _ _ ⟨rfl,rfl⟩;have hsz:(a.put (some t)<|a.tmps.getD x undef).tmps.size=s.nt:=by simp[Act.put,h.nt]
 have ht1:(a.put (some t)<|a.tmps.getD x undef).eval (.tmp t)=a.tmps.getD x undef:=by simp_all [h.nt,Act.eval,Act.put,Array.getD]
 have hx1:(a.put (some t)<|a.tmps.getD x undef).tmps.getD x undef=a.tmps.getD x undef:=by exact cq<|λe=>hxt (by cases e;rfl)
 have hdf1:(a.put (some t)<|a.tmps.getD x undef).defers=[]:=hdf;generalize (a.put (some t)<|a.tmps.getD x undef)=a1 at *;refine(bC (K:=λv w1=>∃ S',nD w0 w1/\ge w1 S' (.sl l') (a.tmps.getD x undef)/\(∀ b o,S' b o->b<w1.heap.size)/\(∀ b o,S' b o->w0.Old b->w0.S0 b o)) ?_ ?_)
 ·obtain⟨fn,f1,f2,f3⟩:=hf.fn;refine fh.enter (f:=f) (args:=#[.slice ad l.length cap,.func (.func g) #[] #[]]) (w':=w) ?_ ?_
  ·have hb:¬ fn.body=none:=by intro hh;rw[hh] at f3;cases f3
   have f2' : ¬ fn.name = "runtime.NumGoroutine" := by simpa using f2
   have e1:a1.eval (.tmp t)=.slice ad l.length cap:=by rw[ht1,val]
   subst hargs;have e2:a1.eval (.func g)=.func (.func g) #[] #[]:=rfl;simp[execOp,resolve,Deferred.ofValue,invoke,callFunc,f1,f2',hb,e1,e2];simp[Act.eval,f1,f2',hb]
  ·by_cases hne:l=[]
   ·subst hne;have e0:l'=[]:=by simp_all
    subst e0;refine(hf.empty ad cap _ w).mono ?_;rintro en w1 ⟨rfl,rfl⟩;exact⟨_,rfl,S,h.ext,by rw[val];exact Ks hcr,h.Sb,h.So⟩
   ·obtain⟨b,off,row,rfl,hr,hold,hbs⟩:=hown hne;have hcell:∀ (i:Nat) (d:D),(N l)[i]?=some d->w.cell? ⟨b,off+i,none⟩=some (g9 d):=by
     obtain⟨_,_,b',off',e1,e2,e3,cs,e4,e5⟩:=hcr.elems;cases e1;rcases e2 with e2|e2
     ·simp_all
     ·cases e2;have hleaf:=iQ hf.cmp l hwt;have:=(dm hleaf).1 e4
      simp_all
    refine(JS hE hf hsig hwt hs hne (b:=b) (off:=off) (cap:=cap) hr hcell u0).mono ?_
    rintro en w1 ⟨rfl,_,q1,q2,q3,q4,q5,q6,q7⟩;refine⟨_,rfl,λb' o=>(S b' o/\b'≠b)\/(b'=b/\off<=o/\o<off+(N l').length),?_,?_,?_,?_⟩
    ·refine qg h.ext q2 q3 q4 q5 q1 λb' hb'=>q6 b' (λe=>hold<|e ▸ hb')<|zeb hb'.1 h.ext.sz
    ·rw[val];refine Ks ?_;rw[<-hll];refine afw (b:=b) (off:=off) (.inr rfl) (by obtain⟨_,_,_,_,e1,_,e3,_⟩:=hcr.elems;cases e1;rw[hll];exact e3) ⟨(N l').map g9,?_,λi c hc=>?_⟩
     ·exact(dm<|iQ hf.cmp l' hwt').2 rfl
     ·grind
    ·rintro b' o (⟨hb',_⟩|⟨rfl,_,_⟩)
     ·exact zeb (h.Sb b' o hb') q5
     ·omega
    ·rintro b' o (⟨hb',_⟩|⟨rfl,_,_⟩) ho
     ·exact h.So b' o hb' ho
     ·simp_all
 ·rintro v w1 ⟨S',k1,k2,k3,k4⟩;refine hQ _ w1 S' (Rp.new h k1 hf.nt hx hwt' ?_ (by simp[Act.put,hsz]) hdf1 k3 k4) hdf1
  have:(a1.put (some d2) v).tmps.getD x undef=a.tmps.getD x undef:=by rw[<-hx1];exact cq<|λe=>hxd (by cases e;rfl)
  simp_all
end
end
section
variable{S:Nat->Nat->Prop}{γ:Nat->Option Nat}{β:Nat->Option (Nat×Nat)}{a:Act}
variable{ro:Option Nat}{nn:Nat}
open Go.ChangeMaps (setBlock)
section
variable{P:Program}{E:Env}{w0:Root}
theorem yx{ops b:Array Oper}{Q:Exit->Act->World->Prop}:∀ (l:List Oper) (a:Act) (w:World),(∀ o∈l,o.guard=none)->wpListIn (FW ro) nn P ops Q l a w->wpListIn (FW ro) nn P b Q l a w
 | [],_,_,_,h=>h
 | o::l,a,w,e,h=>by have d:=e o zBa;have c:∀ a w,wpListIn (FW ro) nn P ops Q l a w->wpListIn (FW ro) nn P b Q l a w:=λa w=>yx l a w λo f=>e o<|zsa _ f;simp only[wpListIn,Region.wanted,d,if_true] at h ⊢;exact Oper.wpIn_mono c h
def PN(N:EnvOk P E){Q:Exit->Act->World->Prop}{id:Nat}{ops:Array Oper}{R:Type}{s:St}{w:World}{k:Ex->St->Option R}{r:R}
  (h:Rp w0 S γ β s a w) (G:ev E (.region id ops false) .leaf R s k=some r) (hQ:Kp Q w0 s S γ a w k r):wpListIn (FW ro) nn P ops Q ops.toList a w:=by
 obtain⟨S1,b,L,z⟩:=ue (Ann.leaf).fz h;obtain⟨s1,g⟩:∃ s1,s1={ iK s (Ann.leaf).fz with fresh:=s.fresh+1 }:=⟨_,rfl⟩;obtain⟨C,D⟩:=zx g G;obtain⟨h2,M⟩:(!false||tZ E ops ((Ann.leaf).heads ops.size))=true/\_:=D.resolve_right λh=>h.elim (λh=>by cases h.1)<|λh=>by cases h.1
 have F:s1.base=s.base+4096:=by rw[g];simp only[St.base];omega
 have r1:Rp w0 S1 γ β s1 a w:=by
  rw[g];have q1:∀ id,({ iK s (Ann.leaf).fz with fresh:=s.fresh+1 }:St).base+4096<=id->s.base+4096<=id:=λid hid=>by
   have e:({ iK s (Ann.leaf).fz with fresh:=s.fresh+1 }:St).base=s.base+4096:=by simp only[St.base];omega
   rw[e] at hid;exact zva (zbd _ _) hid
  exact⟨b.ext,b.tms,b.nt,b.tmu,b.obs,b.γn,b.γi,λid hid=>h.γf id<|q1 id hid,b.βn,b.βi,b.βγ,λv U=>h.βf v<|q1 v U,b.Sb,b.So⟩
 have j:∀ d,s.base+4096<=s1.base+d:=λd=>by have:=zbd s1.base d;rw[F] at this ⊢;exact this
 have K:∀ d,γ (s1.base+d)=none:=λd=>h.γf (s1.base+d)<|j d;have I:∀ d,β (s1.base+d)=none:=λd=>h.βf (s1.base+d)<|j d;obtain⟨Z,m2⟩:=BL (E:=E) ops.toList r1 K;have q:=C;simp only[cY,Y,zxa] at q;obtain⟨⟨m,J⟩,O⟩:=q;have H:Ke E (ik E ops.toList s1) γ β ops.toList:=by intro o y hc d x;rw[m2.base_eq];have l:=J o y;rw[x] at l;simp only[zea] at l;exact⟨l,K d,I d,λT t e1 e2=>vZ ops.toList m y e1 x e2⟩
 have u:Sk s (ik E ops.toList s1):=by
  refine⟨m2.lkS.trans ?_,m2.lkO.trans ?_,m2.nt.trans ?_⟩<;>rw[g]
  ·exact z.lkS
  ·exact z.lkO
  ·exact z.nt
 have c:(ops.toList.all λo=>match o.op with|.store ..=>o.dst.isNone|_=>true)=true:=by simp only[cY,Y] at C;exact C.2
 have:=Bc (ro:=ro) (nn:=nn) (ops:=ops) N c _ R (aX 0 ops.toList) _ r _ Z (by rw[bn];exact H) (by rw[bn];exact λA B o o' e y d x=>gv m A B o o' e y d x) (λp hp=>mR hp) M
  (Q:=Q) λs' S' γ' β' a' w' V W X a0=>hQ .normal s' S' γ' β' a' w' V (L.tr W u) (u.trans X) a0
 rwa [bn] at this
def σL(nt o it:Nat)(X:AV):St:={ tm:=λi=>if i=o then X else .undef,ob:=λ_=>none,fresh:=0,dead:=[],nt:=nt,lkS:=[it],lkO:=[0,1,4095] }
def γs(m r:Nat):Nat->Option Nat:=λi=>if i=0 then some m else if i=1 then some r else none
def Rv(e:Ty)(L:List D)(X:AV):Prop:=(X=.nils/\L=[])\/X=.own e 5 L
def Ft{s:St}{e:Ty}{o:Nat}{L:List D}(h:eQ s e o=some L):(s.tm o=.nils/\L=[])\/∃ v,s.tm o=.own e v L/\v ∉ s.dead:=by
 unfold eQ at h;split at h
 ·rename_i c v l a;split at h
  ·rename_i b;simp only[Y,zCa,zea] at b;cases h;have:=ags _ _ b.1.1;subst this;exact .inr ⟨v,a,by simpa using b.1.2⟩
  ·cases h
 ·rename_i a;cases h;exact .inl ⟨a,rfl⟩
 ·cases h
def Rp.std{s:St}{w:World}(h:Rp w0 S γ β s a w){m r:Nat}(hm:¬ w0.Old m/\m<w.heap.size)(U:¬ w0.Old r/\r<w.heap.size)(y:m≠r)
  (P:∀ v b e,v ∉ s.dead->β v=some (b,e)->b≠m/\b≠r) {e:Ty} (I:bS e=true) {o:Nat} {L:List D} (C:eQ s e o=some L) (it:Nat) :
  ∃ β' X,Rv e L X/\Rp w0 (λb i=>S b i/\b≠m/\b≠r) (γs m r) β' (σL s.nt o it X) a w:=by
 have x:o<s.nt:=by
  rcases zua o s.nt with k|k
  ·exact k
  ·unfold eQ at C;rw[h.tmu o k] at C;cases C
 have g:=h.tms o (by rw[h.nt];exact x)
 have g1:∀ id b,γs m r id=some b->(id=0/\b=m)\/(id=1/\b=r):=λid b d=>by
  unfold γs at d;split at d
  ·rename_i e;cases d;exact .inl ⟨e,rfl⟩
  ·split at d
   ·rename_i e;cases d;exact .inr ⟨e,rfl⟩
   ·cases d
 have γn':∀ id b,γs m r id=some b->¬ w0.Old b/\b<w.heap.size:=λid b d=>by
  rcases g1 id b d with⟨_,rfl⟩|⟨_,rfl⟩
  ·exact hm
  ·exact U
 have γi':∀ id j b,γs m r id=some b->γs m r j=some b->id=j:=λid j b d f=>by
  rcases g1 id b d with⟨Z,J⟩|⟨Z,J⟩<;>rcases g1 j b f with⟨k3,K⟩|⟨k3,K⟩
  ·omega
  ·exact z8a (J.symm.trans K) y
  ·exact z8a (K.symm.trans J) y
  ·omega
 have γf':∀ id,0*4096+4096<=id->γs m r id=none:=λid hid=>by unfold γs;rw[zha u0,zha u0]
 rcases Ft C with⟨H,p⟩|⟨v,H,p⟩
 ·refine⟨λ_=>none,.nils,.inl ⟨rfl,p⟩,h.ext,λt z=>?_,h.nt,λt z=>?_,λid o b x=>(by cases x),γn',γi',γf',λv b e _ d=>(by cases d),λv v' b e l _ _ d=>(by cases d),λv id b e _ d=>(by cases d),λ_ _=>rfl,λb i d=>h.Sb b i d.1,λb i d=>h.So b i d.1⟩
  ·show AR _ (if t=o then AV.nils else .undef) (a.tmps.getD t undef)
   by_cases hto:t=o
   ·rw[zma hto];subst hto;rw[H] at g;simpa only[AR,AC] using g
   ·rw[zha hto];simp only[AR]
  ·show(if t=o then AV.nils else .undef)=_
   rw[zha<|λh=>by subst h;exact z8a x<|zOc.2 z]
 ·refine⟨λi=>if i=5 then β v else none,.own e 5 L,.inr rfl,h.ext,λt z=>?_,h.nt,λt z=>?_,λid o b x=>(by cases x),γn',γi',γf',λu b l _ d=>?_,λu u' b l G _ _ d f=>?_,λu id b l _ d hid=>?_,λu W=>?_,λb i d=>h.Sb b i d.1,λb i d=>h.So b i d.1⟩
  ·show AR _ (if t=o then AV.own e 5 L else .undef) (a.tmps.getD t undef)
   by_cases hto:t=o
   ·rw[zma hto];subst hto;rw[H] at g;simp only[AR,AC] at g ⊢;obtain⟨n0,n1,Q,F,cap,n3,n4,R⟩:=g;have M:CR w (λb i=>S b i/\b≠m/\b≠r) (.sl L) (.slice F L.length cap):=by
     obtain⟨T,N,b',A,e1,e2,e3,cs,e4,e5⟩:=n4.elems;cases e1;by_cases hL:L=[]
     ·subst hL;exact afw (b:=0) (off:=0) (.inl rfl) e3 ⟨[],c7.nil,j2⟩
     ·have e2:F=some ⟨b',A,none⟩:=e2.resolve_left hL;have f:b'≠m/\b'≠r:=by
       rcases R p with q|⟨b,off,q1,B,E⟩
       ·rw[q.1] at e2;cases e2
       ·rw[q1] at e2;cases e2;exact P v _ _ p B
      have lf:=iQ I L Q;exact afw (.inr e2) e3 ⟨cs,(dm lf).2<|(dm lf).1 e4,λi c O=>⟨⟨(e5 i c O).1,f⟩,(e5 i c O).2⟩⟩
    refine⟨n0,n1,Q,F,cap,n3,M,λ_=>?_⟩;rcases R p with q|⟨b,off,q1,B,E⟩
    ·exact .inl q
    ·exact .inr ⟨b,off,q1,by simpa using B,E⟩
   ·rw[zha hto];simp only[AR]
  ·show(if t=o then AV.own e 5 L else .undef)=_
   rw[zha<|λh=>by subst h;exact z8a x<|zOc.2 z]
  ·have d:(if u=5 then β v else none)=some (b,l):=d
   split at d
   ·obtain⟨q1,B,E⟩:=h.βn v b l p d;exact⟨q1,B,λi hi V=>E i hi V.1⟩
   ·cases d
  ·have d:(if u=5 then β v else none)=some (b,l):=d
   have f:(if u'=5 then β v else none)=some (b,G):=f
   split at d<;>split at f<;>first|(cases d;done)|(cases f;done)|omega
  ·have d:(if u=5 then β v else none)=some (b,l):=d
   split at d
   ·have:=P v b l p d;rcases g1 id b hid with⟨_,q⟩|⟨_,q⟩
    ·exact this.1 q
    ·exact this.2 q
   ·cases d
  ·have Y:4096<=u:=by simpa [σL,St.base] using W
   show(if u=5 then β v else none)=none
   rw[zha u0]
def Rp.setB{s:St}{w:World}(h:Rp w0 S γ β s a w){id b:Nat}(F:s.ob id=none)(C:γ id=some b)(D:∀ o,¬ S b o)(x:Obj) :
  Rp w0 S γ β s a (setBlock w b x):=by
 have B:∀ b' o,S b' o->b'≠b:=λb' o d e=>D o<|e ▸ d;have k:∀ b',b'≠b->(setBlock w b x).heap[b']?=w.heap[b']?:=λb' c=>by simp only[setBlock];rw[z8c<|Ne.symm c]
 have g:(setBlock w b x).heap.size=w.heap.size:=by simp[setBlock]
 have m:Cx.le ⟨w,S,γ,β,s.ob,s.dead⟩ ⟨setBlock w b x,S,γ,β,s.ob,s.dead⟩:=by
  refine⟨λb' o d=>by simp only[World.cell?,k b'<|B b' o d],λ_ _ d=>d,λ_ _ d=>d,λi y r _=>⟨y,r,λp=>⟨rfl,rfl⟩,λt l e=>⟨l,e,rfl⟩,λ_ _ l e=>⟨l,e⟩⟩,λv z=>⟨z,λb' e u=>⟨u,λn E=>?_⟩⟩⟩
  have j:b'≠b:=λA=>h.βγ v id b' e z u<|A ▸ C;have q:rL w b'=some n:=E;show rL (setBlock w b x) b'=some n;simp only[rL,ce,k b' j] at q ⊢;exact q
 refine⟨qg h.ext rfl rfl rfl (by rw[g];exact zja _) (zja _) (λb' c=>k b' λe=>(h.γn id b C).1<|e ▸ c),λt G=>(h.tms t G).mono m,h.nt,h.tmu,λi y b' r c=>?_,λi b' c=>by rw[g];exact h.γn i b' c,h.γi,h.γf,
  λv b' e z u=>by rw[g];exact h.βn v b' e z u,h.βi,h.βγ,h.βf,λb' o d=>by rw[g];exact h.Sb b' o d,h.So⟩
 have j:b'≠b:=λA=>by have:=h.γi i id b' c<|A ▸ C;subst this;rw[F] at r;cases r
 exact(h.obs i y b' r c).mono m (k b' j) λ_ k=>k
end
end
section
variable{a:Act}{S:Nat->Nat->Prop}{H J M:String}{N O Y:Array Edge}
variable{ro:Option Nat}{nn:Nat}
open Go.ChangeMaps (setBlock)
def yK:D->D
 | .st (k::_)=>k
 | x=>x
theorem KQ{c:Cx}{kt vt:Ty}:∀ {l:List D} {a:List MapEntry} {j:Nat},j6 c kt vt j l a->a.length=l.length/\∀ (i:Nat) (en:MapEntry),a[i]?=some en->en.born=j+i/\∃ k v,l[i]?=some (.st [k,v])/\wt kt k/\wt vt v/\ge c.w c.S k en.key/\ge c.w c.S v en.val
 | [],[],j,_=>⟨rfl,λi en h=>by simp at h⟩
 | [],_::_,_,h=>h.elim
 | _::_,[],_,h=>h.elim
 | x::l,e::a,j,h=>by simp[j6] at h;obtain⟨⟨d,k,v,rfl,f,g,m,n⟩,b⟩:=h;obtain⟨q1,o⟩:=KQ b;grind
def AK{t:Ty}(a:bS t=true){x:D}(hx:wt t x){w w':World}{S':Nat->Nat->Prop}{v:Value}(h:ge w S x v):ge w' S' x v:=by have lf:=iP t x a hx;exact⟨h.1,(dm lf).2<|(dm lf).1 h.2⟩
theorem DP:∀ (n:Nat) (l:List Nat),l.Nodup->(∀ x∈l,x<n)->l.length<=n
 | 0,l,_,h=>by
  cases l with
  | nil=>simp
  | cons x l=>exact z8a (h x zBa) u0
 | n+1,l,a,h=>by
  have b:=DP n (l.erase n) (a.erase n) λx hx=>by grind
  grind
section
variable{P:Program}{E:Env}{w0:Root}
def mr{o:Oper}{m:Sem Value}{v:Value}{w w':World}(c:execOp a.eval o=(m >>= λr=>pure<|Next.value r))(b:m.run P w=.ok v w'):(execOp a.eval o).run P w=.ok (.value v) w':=by simp_all
theorem Co{nt o it t:Nat}{X:AV}(h:t≠o):(σL nt o it X).put (some t) .undef=σL nt o it X:=by unfold St.put σL;all_goals grind
def lK{t:Nat}{v:Value}(h:t<a.tmps.size):(a.put (some t) v).eval (.tmp t)=v:=by simp[Act.eval,Act.put,Array.getD,h]
def yc{d:Option Nat}{v:Value}:(a.put d v).tmps.size=a.tmps.size:=by cases d<;>simp[Act.put]
theorem PO(hE:EnvOk P E){e vt:Ty}(he:bS e=true)(eg:bS vt=true)(d0:aj e=true)(ea:aj vt=true){cx cy cI b b2:Nat}{t72 m0 it T nx ok en o:Nat}{c1 c2 c3:Array Oper}{rest:List Oper}{c26:Code}
  {y1 y2 y3 y4 y5:TypeId} {p1 p5:String} {f4 f5:Array Edge} {TK TV:TypeId}
  (c4:c1.toList=[⟨some t72,.move<|.tmp m0,y1,p1,N,none⟩,⟨some it,.range T<|.tmp t72,y2,H,O,none⟩])
  (c5:c2.toList=[⟨some nx,.next (.tmp it) false,y3,J,Y,none⟩,⟨some ok,.extract (.tmp nx) 0,y4,M,f4,none⟩])
  (db:c3.toList=⟨some en,.entry<|.tmp it,y5,p5,f5,none⟩::rest) (bx:∀ x∈rest,x.guard=none) (hT:P.underlying T=some (.map TK TV))
   {γ:Nat->Option Nat} {β:Nat->Option (Nat×Nat)} {s:St}  {w:World} (h:Rp w0 S γ β s a w) (dv:a.defers=[])
  (d1:o≠t72) (d2:o≠it) (d3:nx≠o) (d4:ok≠o) (d5:en≠o) (d6:it≠t72) (d7:it≠nx) (d8:it≠ok) (d9:it≠en) (ek:nx≠ok) (n1:t72<s.nt) (n2:it<s.nt) (n3:nx<s.nt) (n4:ok<s.nt) (n5:en<s.nt)
  {B:Nat} {l:List D} (hm:s.tm m0=.map e vt B) (eb:s.ob B=some (.mp e vt l)) (hl:l.length<=1073741824) (hv:eQ s e o=some [])
  (ad:∀ X L k v,Rv e L X->L.length<1073741824->wt e k->ev E (.region 0 rest.toArray false) .leaf D ((σL s.nt o it X).put (some en)<|.d (.tup [e,vt])<|.tup [k,v]) (λx s'=>match x with
   | .normal=>ev E c26 .leaf D s' (λx ei=>match x with|.normal=>(eQ ei e o).bind λl=>some (.sl l)|_=>none)
   | _=>none)=some (.sl<|L++[k]))
  {Q:Exit->Act->World->Prop} (hQ:∀ L S' γ' β' X a' w',Rv e L X->L.Perm (l.map yK)->Rp w0 S' γ' β' (σL s.nt o it X) a' w'->a'.defers=[]->Q .normal a' w') :
  (Code.seq (.region cx c1 false)<|.block b<|.loop<|.seq (.region cy c2 false)<|.seq (.cond (.tmp ok) .skip<|.exit b)<|.block b2<|.seq (.region cI c3 false) c26).wpIn (FW none) nn P Q a w:=by
 have dB:m0<s.nt:=by
  rcases zua m0 s.nt with k|k
  ·exact k
  ·rw[h.tmu m0 k] at hm;cases hm
 have bm:=h.tms m0 (by rw[h.nt];exact dB)
 rw[hm] at bm;simp only[AR,AC] at bm;obtain⟨dR,m,dE,bY,_,_,_⟩:=bm;have bp:=ak dR dE;have hO:=h.obs B _ m eb bY;simp only[gM] at hO;obtain⟨_,_,em,f,A,hM⟩:=hO;obtain⟨ej,c⟩:=KQ hM;have b7:=h.γn B m bY;have a9:∀ x∈f.toList,x.born<l.length:=λx hx=>by obtain⟨i,hi,rfl⟩:=z3a hx;have:=(c i _<|zca hi).1;omega
 have dq:(f.toList.map (·.born)).Nodup:=by rw[List.Nodup,zIb];intro i j hi W eo;simp only[zla] at hi W;have a1:=(c i _<|zca hi).1;have a2:=(c j _<|zca W).1;grind
 refine wpIn_seq ?_;refine wpIn_region_list ?_;rw[c4];simp only[wpListIn,Region.wanted,if_true];refine(bC (K:=λv w1=>v=a.tmps.getD m0 undef/\w=w1) (fh.value (v:=a.eval<|.tmp m0) (w':=w) rfl ⟨rfl,rfl⟩) ?_);rintro _ _ ⟨rfl,rfl⟩;rw[bp];have dp:(a.put (some t72)<|.map<|some m).eval (.tmp t72)=.map (some m):=lK (by rw[h.nt];exact n1)
 refine(bC (K:=λv w1=>v=.pointer (some ⟨w.heap.size,0,none⟩)/\w1=w.alloc (.mapIter (some m) l.length #[] l.length)) (fh.value (mr (m:=Instr.range T<|.map<|some m) ?_<|run_range_map w T TK TV m f l.length hT A) ⟨rfl,rfl⟩) ?_)
 ·show(Instr.range T ((a.put (some t72)<|.map<|some m).eval<|.tmp t72) >>= λr=>pure<|Next.value r)=_;rw[dp]
 rintro _ _ ⟨rfl,rfl⟩;simp[Exit.then];refine wpIn_block ?_;obtain⟨r,ch⟩:∃ r,r=w.heap.size:=⟨_,rfl⟩;rw[<-ch];have bl:m≠r:=u0
 have V:w.alloc (.mapIter (some m) l.length #[] l.length)=grown w [.mapIter (some m) l.length #[] l.length] w.drawn:=by
  show({ w with heap:=w.heap.push (.mapIter (some m) l.length #[] l.length) }:World)={ w with heap:=w.heap++[Obj.mapIter (some m) l.length #[] l.length].toArray,drawn:=w.drawn }
  simp_all
 have h1:Rp w0 S γ β ((s.put (some t72) .undef).put (some it) .undef) ((a.put (some t72)<|.map<|some m).put (some it)<|.pointer<|some ⟨r,0,none⟩) (w.alloc<|.mapIter (some m) l.length #[] l.length):=by rw[V];exact(((h.put (v:=.undef) (val:=.map<|some m) (by simp[AR])<|some t72).put (v:=.undef) (val:=.pointer<|some ⟨r,0,none⟩) (by simp[AR])<|some it).grow (os:=[.mapIter (some m) l.length #[] l.length]) (d:=w.drawn) (zja _) (S':=S) (λ_ _ t=>t)<|λ_ _ t=>.inl t).1
 have cm:eQ ((s.put (some t72) .undef).put (some it) .undef) e o=some []:=by
  have q1:((s.put (some t72) .undef).put (some it) .undef).tm o=s.tm o:=by rw[BO (λe=>d2 (by cases e;rfl)),BO<|λe=>d1 (by cases e;rfl)]
  have q2:((s.put (some t72) .undef).put (some it) .undef).dead=s.dead:=by simp_all [agm]
  simp_all [eQ,q1,q2]
 have b8:((s.put (some t72) .undef).put (some it) .undef).nt=s.nt:=by rw[(agm _ _ _).2.2.2.1,(agm _ _ _).2.2.2.1]
 have a8:(w.alloc<|.mapIter (some m) l.length #[] l.length).heap.size=w.heap.size+1:=by rw[V];simp[grown]
 have ec:¬ w0.Old r:=λho=>by have:=ho.1;have:=h.ext.sz;omega
 have U:((s.put (some t72) .undef).put (some it) .undef).dead=s.dead:=by rw[(agm _ _ _).2.2.1,(agm _ _ _).2.2.1]
 obtain⟨β1,X1,b1,R1⟩:=h1.std (m:=m) (r:=r) ⟨b7.1,by rw[a8];omega⟩ ⟨ec,by rw[a8];omega⟩ bl (λv bb ee z t=>by rw[U] at z;exact⟨λeq=>h.βγ v B bb ee z t<|eq ▸ bY,λeq=>by have:=(h.βn v bb ee z t).2.1;omega⟩) he cm it
 rw[b8] at R1;have aI:(w.alloc<|.mapIter (some m) l.length #[] l.length).heap[m]?=some (.map f l.length):=by rw[V,dL b7.2];exact A
 have a6:(w.alloc<|.mapIter (some m) l.length #[] l.length).heap[r]?=some (.mapIter (some m) l.length #[] l.length):=by rw[ch];exact heap_alloc_new w _
 have cd:((a.put (some t72)<|.map<|some m).put (some it)<|.pointer<|some ⟨r,0,none⟩).tmps.getD it undef=.pointer (some ⟨r,0,none⟩):=by exact lK (by rw[yc,h.nt];exact n2)
 refine AG (m:=l.length) (λn a w=>∃ (S:Nat->Nat->Prop) (β:Nat->Option (Nat×Nat)) (X:AV) (L:List D) (seen:Array Nat) (G:Nat),Rv e L X/\Rp w0 (λb i=>S b i/\b≠m/\b≠r) (γs m r) β (σL s.nt o it X) a w/\a.defers=[]/\a.tmps.getD it undef=.pointer (some ⟨r,0,none⟩) ∧
  w.heap[m]?=some (.map f l.length)/\w.heap[r]?=some (.mapIter (some m) l.length seen G)/\l.length<=G/\L=seen.toList.map (λj=>yK<|l.getD j default)/\seen.toList.Nodup/\(∀ j∈seen.toList,j<l.length)/\n+seen.size=l.length)
  ⟨S,β1,X1,[],#[],l.length,b1,R1,dv,cd,aI,a6,zja _,rfl,j2,j2,j2⟩ ?_
 clear R1 h1 cm cd aI a6 b1 V;rintro n a w ⟨S,β,X,L,seen,G,hX,R,b4,hp,A,b6,ds,hL,bs,bj,hn⟩;have al:=R.nt;refine wpIn_seq<|wpIn_region_list ?_;rw[c5];simp[wpListIn,Region.wanted,if_true];have b5:a.eval (.tmp it)=.pointer (some ⟨r,0,none⟩):=hp;rcases run_next_at w y3 r m l.length G seen f l.length b6 A a9 ds with⟨hz,q⟩|⟨e0,ba,w1,bz,q⟩
 ·
  refine(bC (K:=λv w1=>v=.tuple #[.bool false]/\w=w1) (fh.value (mr (m:=Instr.next (.pointer<|some ⟨r,0,none⟩) false y3) ?_ q) ⟨rfl,rfl⟩) ?_)
  ·show(Instr.next (a.eval<|.tmp it) false y3 >>= λr=>pure<|Next.value r)=_
   rw[b5]
  rintro _ _ ⟨rfl,rfl⟩;have ex:(a.put (some nx)<|.tuple #[.bool false]).eval (.tmp nx)=.tuple #[.bool false]:=lK (by rw[al];exact n3)
  refine(bC (K:=λv w1=>v=.bool false/\w=w1) (fh.value (mr (m:=Instr.extract (.tuple #[.bool false]) 0) ?_ (v:=.bool false) (w':=w) rfl) ⟨rfl,rfl⟩) ?_)
  ·show(Instr.extract ((a.put (some nx)<|.tuple #[.bool false]).eval<|.tmp nx) 0 >>= λr=>pure<|Next.value r)=_;rw[ex]
  rintro _ _ ⟨rfl,rfl⟩;simp[Exit.then];refine wpIn_seq<|wpIn_cond_false (lK (by rw[yc,al];exact n4))<|wpIn_exit ?_
  simp[Exit.then,Exit.inBlock,if_true];have R2:=(R.put (v:=.undef) (val:=.tuple #[.bool false]) (by simp[AR])<|some nx).put (v:=.undef) (val:=.bool false) (by simp[AR])<|some ok
  rw[Co d3,Co d4] at R2;refine hQ L _ _ _ X _ _ hX ?_ R2 b4;have b3:∀ j,j<l.length->j∈seen.toList:=λj W=>by
   have dy:j<f.toList.length:=u0
   have e1:=(c j _<|zca dy).1;have Z:f.toList[j] ∉ (leftOf f seen).toList:=λhm=>by have:=List.length_pos_of_mem hm;simp at this;omega
   simp only[leftOf,Array.toList_filter,zKc,zya,true_and] at Z;simp at Z;simp[zFd,zbb] at e1;rw[e1] at Z;simpa using Z
  have bv:=(List.perm_ext_iff_of_nodup bs List.nodup_range).2 λj=>⟨λW=>zRa.2<|bj j W,λW=>b3 j<|zRa.1 W⟩;rw[hL];refine(bv.map _).trans ?_;have:(List.range l.length).map (λj=>yK<|l.getD j default)=l.map yK:=by
   apply zTb;intro j;rw[z4b,z4b];rcases zua j l.length with k|k
   ·simp[k,List.getD]
   ·rw[zXa (by simpa using k),zXa k];rfl
  rw[this]
 ·
  have cs:w1.heap[m]?=some (.map f l.length):=by rcases bz with rfl|rfl<;>exact A
  have cv:w1.heap.size=w.heap.size:=by rcases bz with rfl|rfl<;>rfl
  have ed:r<w1.heap.size:=by rw[cv];exact(zqa.1 b6).1
  have Rw:Rp w0 (λb i=>S b i/\b≠m/\b≠r) (γs m r) β (σL s.nt o it X) a w1:=by
   rcases bz with rfl|rfl
   ·exact R
   ·have:=(R.grow (os:=[]) (d:=w.drawn+1) (zIc _) (S':=λb i=>S b i/\b≠m/\b≠r) (λ_ _ t=>t)<|λ_ _ t=>.inl t).1;have e2:grown w [] (w.drawn+1)=w.drew:=by
     unfold grown;rw[show w.heap++([]:List Obj).toArray=w.heap by simp]
     rfl
    rw[e2] at this;exact this
  obtain⟨I,an⟩:∃ I,I=setBlock w1 r (.mapIter (some m) l.length (seen.push e0.born) l.length):=⟨_,rfl⟩;rw[<-an] at q;have R2:Rp w0 (λb i=>S b i/\b≠m/\b≠r) (γs m r) β (σL s.nt o it X) a I:=by rw[an];exact Rw.setB (id:=1) rfl rfl (λi hi=>hi.2.2 rfl) _
  have aO:I.heap[m]?=some (.map f l.length):=by rw[an];simp[setBlock];rw[z8c<|Ne.symm bl];exact cs
  have a7:I.heap[r]?=some (.mapIter (some m) l.length (seen.push e0.born) l.length):=by rw[an];simp[setBlock];rw[Array.getElem?_setIfInBounds_self_of_lt ed]
  have p:e0∈f.toList/\e0.born ∉ seen.toList:=by simp only[leftOf,Array.toList_filter,zKc] at ba;exact⟨ba.1,by have:=ba.2;simpa using this⟩
  obtain⟨j,W,dz⟩:=z3a p.1;obtain⟨q1,k,v,q2,q3,q4,q5,q6⟩:=c j e0 (by rw[zca W,dz])
  rw[zbb] at q1;have ep:j<l.length:=u0
  have bh:l.getD j default=.st [k,v]:=by simp[List.getD,q2]
  refine(bC (K:=λv w1=>v=.tuple #[.bool true,e0.key,e0.val]/\I=w1) (fh.value (mr (m:=Instr.next (.pointer<|some ⟨r,0,none⟩) false y3) ?_ q) ⟨rfl,rfl⟩) ?_)
  ·show(Instr.next (a.eval<|.tmp it) false y3 >>= λr=>pure<|Next.value r)=_
   rw[b5]
  rintro _ _ ⟨rfl,rfl⟩;have ex:(a.put (some nx)<|.tuple #[.bool true,e0.key,e0.val]).eval (.tmp nx)=.tuple #[.bool true,e0.key,e0.val]:=lK (by rw[al];exact n3)
  refine(bC (K:=λv w1=>v=.bool true/\I=w1) (fh.value (mr (m:=Instr.extract (.tuple #[.bool true,e0.key,e0.val]) 0) ?_ (v:=.bool true) (w':=I) rfl) ⟨rfl,rfl⟩) ?_)
  ·show(Instr.extract ((a.put (some nx)<|.tuple #[.bool true,e0.key,e0.val]).eval<|.tmp nx) 0 >>= λr=>pure<|Next.value r)=_;rw[ex]
  rintro _ _ ⟨rfl,rfl⟩;simp[Exit.then];refine wpIn_seq<|wpIn_cond_true (lK (by rw[yc,al];exact n4))<|wpIn_skip ?_
  simp[Exit.then];refine wpIn_block<|wpIn_seq<|wpIn_region_list ?_;have R3:=(R2.put (v:=.undef) (val:=.tuple #[.bool true,e0.key,e0.val]) (by simp[AR])<|some nx).put (v:=.undef) (val:=.bool true) (by simp[AR])<|some ok
  rw[Co d3,Co d4] at R3;have bt:((a.put (some nx)<|.tuple #[.bool true,e0.key,e0.val]).put (some ok)<|.bool true).tmps.getD it undef=.pointer (some ⟨r,0,none⟩):=by rw[cq (λe=>d8 (by cases e;rfl)),cq<|λe=>d7 (by cases e;rfl)];exact hp
  have ap:((a.put (some nx)<|.tuple #[.bool true,e0.key,e0.val]).put (some ok)<|.bool true).defers=[]:=b4;generalize ((a.put (some nx)<|.tuple #[.bool true,e0.key,e0.val]).put (some ok)<|.bool true)=a3 at R3 bt ap ⊢;rw[db];simp[wpListIn,Region.wanted,if_true];refine(bC (K:=λv w1=>v=.tuple #[e0.key,e0.val]/\I=w1) (fh.value (mr (m:=Instr.entry<|.pointer<|some ⟨r,0,none⟩) ?_<|run_entry_at I r m l.length seen f l.length e0 a7 aO p.1 dq) ⟨rfl,rfl⟩) ?_)
  ·show(Instr.entry (a3.eval<|.tmp it) >>= λr=>pure<|Next.value r)=_;rw[show a3.eval (.tmp it)=.pointer (some ⟨r,0,none⟩) from bt]
  rintro _ _ ⟨rfl,rfl⟩;have R4:=R3.put (v:=.d (.tup [e,vt])<|.tup [k,v]) (val:=.tuple #[e0.key,e0.val]) (by
   simp only[AR];refine .inr ⟨[e,vt],rfl,by simp[aP,d0,ea],⟨[k,v],rfl,k,[v],rfl,q3,v,[],rfl,q4,rfl⟩,[e0.key,e0.val],rfl,rfl,λi d u z hu=>?_⟩
   cases i with
   | zero=>simp at z hu;subst z;subst hu;exact AK he q3 q5
   | succ i=>cases i with
    | zero=>simp at z hu;subst z;subst hu;exact AK eg q4 q6
    | succ i=>simp at z)<|some en
  have cf:(a3.put (some en)<|.tuple #[e0.key,e0.val]).tmps.getD it undef=.pointer (some ⟨r,0,none⟩):=by rw[cq<|λe=>d9 (by cases e;rfl)];exact bt
  have ax:(a3.put (some en)<|.tuple #[e0.key,e0.val]).defers=[]:=ap;generalize (a3.put (some en)<|.tuple #[e0.key,e0.val])=a4 at R4 cf ax ⊢;have dr:(e0.born::seen.toList).length<=l.length:=DP _ _ (zBd.2 ⟨p.2,bs⟩) (λx hx=>by
   rcases zMa.1 hx with rfl|hx
   ·omega
   ·exact bj x hx)
  have el:L.length=seen.size:=by rw[hL];simp
  simp[zOa,zFb] at dr;have cS:((σL s.nt o it X).put (some en)<|.d (.tup [e,vt])<|.tup [k,v]).lkS=[it]:=(agm _ _ _).2.2.2.2.1;have C:((σL s.nt o it X).put (some en)<|.d (.tup [e,vt])<|.tup [k,v]).lkO=[0,1,4095]:=(agm _ _ _).2.2.2.2.2.1;refine yx (ops:=rest.toArray) rest _ _ bx ?_;have key:=PN (ro:=none) (nn:=nn) hE (Q:=Exit.then (c26.wpIn (FW none) nn P (Exit.inBlock b2 (Exit.then (λa' w'=>∃ g,g<n/\∃ (S:Nat->Nat->Prop) (β:Nat->Option (Nat×Nat)) (X:AV) (L:List D) (seen:Array Nat) (G:Nat),Rv e L X/\Rp w0 (λb i=>S b i/\b≠m/\b≠r) (γs m r) β (σL s.nt o it X) a' w'/\a'.defers=[]/\a'.tmps.getD it undef=.pointer (some ⟨r,0,none⟩) ∧
   w'.heap[m]?=some (.map f l.length)/\w'.heap[r]?=some (.mapIter (some m) l.length seen G)/\l.length<=G/\L=seen.toList.map (λj=>yK<|l.getD j default)/\seen.toList.Nodup/\(∀ j∈seen.toList,j<l.length)/\g+seen.size=l.length)<|Exit.inBlock b Q))) (Exit.inBlock b2 (Exit.then (λa' w'=>∃ g,g<n/\∃ (S:Nat->Nat->Prop) (β:Nat->Option (Nat×Nat)) (X:AV) (L:List D) (seen:Array Nat) (G:Nat),Rv e L X/\Rp w0 (λb i=>S b i/\b≠m/\b≠r) (γs m r) β (σL s.nt o it X) a' w'/\a'.defers=[]/\a'.tmps.getD it undef=.pointer (some ⟨r,0,none⟩) ∧
   w'.heap[m]?=some (.map f l.length)/\w'.heap[r]?=some (.mapIter (some m) l.length seen G)/\l.length<=G/\L=seen.toList.map (λj=>yK<|l.getD j default)/\seen.toList.Nodup/\(∀ j∈seen.toList,j<l.length)/\g+seen.size=l.length)<|Exit.inBlock b Q))) R4 (ad X L k v hX u0 q3) ?_
  ·simpa using key
  intro x s' S' γ' β' a' w' g1 g2 g3 g4;cases x with
  | ret=>cases g4
  | exit i=>cases g4
  | normal=>
   show c26.wpIn (FW none) nn P _ a' w';refine Da hE c26 .leaf D _ _ g1 g4 λx2 s2 S2 γ2 β2 a5 w5 k1 k2 k3 k4=>?_;cases x2 with
   | ret=>cases k4
   | exit i=>cases k4
   | normal=>
    have dx:eQ s2 e o=some (L++[k]):=by obtain⟨l2,u1,u2⟩:=ab k4;simp[zda,D.sl.injEq] at u2;rw[u1,u2]
    have F:=g2.tr k2 g3;obtain⟨z1,z2⟩:=F.objs 0 (by rw[C];simp) m rfl
    obtain⟨z3,z4⟩:=F.objs 1 (by rw[C];simp) r rfl
    have z5:=F.slots it (by rw[cS];simp)
    obtain⟨β6,X6,dk,R6⟩:=k1.std (m:=m) (r:=r) (k1.γn 0 m z1) (k1.γn 1 r z3) bl (λu bb ee z t=>⟨λeq=>k1.βγ u 0 bb ee z t<|eq ▸ z1,λeq=>k1.βγ u 1 bb ee z t<|eq ▸ z3⟩) he dx it;have b9:s2.nt=s.nt:=by rw[k3.nt,g3.nt,(agm _ _ _).2.2.2.1];rfl
    rw[b9] at R6;show ∃ g,g<n/\_;refine⟨n-1,u0,S2,β6,X6,L++[k],seen.push e0.born,l.length,dk,R6,F.df0 (by rw[C];simp) ax,z5.trans cf,z2.eq aO (λ_ h=>by cases h),z4.eq a7 (λ_ h=>by cases h),zja _,?_,?_,?_,?_⟩
    ·rw[zrd,zob,<-hL,z4a,zmd,q1,bh];rfl
    ·rw[zrd,List.nodup_append];refine⟨bs,j2,λx hx y hy=>?_⟩
     rw[zSa.1 hy];exact λeq=>p.2<|eq ▸ hx
    ·intro x hx;rw[zrd] at hx;rcases zJa.1 hx with hx|hx
     ·exact bj x hx
     ·rw[zSa.1 hx];omega
    ·simp;omega
end
end
section
variable{y:D}{S:Nat->Nat->Prop}{l q:List D}{z:Ty}
section
variable{P:Program}{E:Env}
def rq(w:World)(S:Nat->Nat->Prop):Root:=⟨w,S,λ_=>False⟩
def Ot(P:Program)(fn:Func)(w:World)(S:Nat->Nat->Prop)(a:Ty)(y:D):Exit->Act->World->Prop:=
 bodyPost P fn λe w'=>∃ v,e=.returned v/\(∃ os d,w.drawn<=d/\w'=grown w os d)/\wt a y/\DR w' (λb o=>S b o\/(w.heap.size<=b/\b<w'.heap.size)) y v
def Md(p:EnvOk P E){fn:Func}{w:World}(x:gg fn.results.size z=true){d:Code}{ann:Ann}{S':Nat->Nat->Prop}{u:Nat->Option Nat}{t:Nat->Option (Nat×Nat)}{s':St}{a':Act}{w':World}
  (h:Rp (rq w S) S' u t s' a' w') (c:a'.defers=[]) (n:4095∈s'.lkO) (g:(ev E d ann D s' λe s=>match e with|.exit _=>none|_=>results E s z fn.results.toList)=some y):d.wpIn (FW none) 0 P (Ot P fn w S z y) a' w':=by
 refine Da p d ann D _ y h g λe s' S' u t a' w' f r F m=>?_;have a:results E s' z fn.results.toList=some y->(∃ v,(Go.results fn a'.tmps).run P w'=.ok v w'/\∃ v',Ending.returned v=.returned v'/\(∃ os d,w.drawn<=d/\w'=grown w os d)/\wt z y/\DR w' (λb o=>S b o\/(w.heap.size<=b/\b<w'.heap.size)) y v'):=λhq=>by
  obtain⟨v,A,B,C⟩:=ks p f x hq;refine⟨v,A,v,rfl,fV f.ext<|λ_ j=>j,B,C.mono (λ_ _ _=>rfl) λb o q=>?_⟩;rcases zua b w.heap.size with l|k
  ·exact .inl<|f.So b o q ⟨l,λj=>j⟩
  ·exact .inr ⟨k,f.Sb b o q⟩
 cases e with
 | normal=>exact⟨r.df0 n c,a m⟩
 | ret=>exact⟨r.df0 n c,a m⟩
 | exit i=>cases m
def pZ(A:EnvOk P E){f:FuncId}{fn:Func}{ann:AnnT}{a:List Ty}{xs:List D}{K:St->Option D}(F:P.funcs[f]?=some fn)(q:(decide (a.length<=fn.ntmps)&&gg fn.results.size z&&aP a)=true)
  (h:L7 E K fn ann a xs=some y) (B:∀ c,fn.body=some c->∀ (w:World) (S S':Nat->Nat->Prop) p n s' a' w',Rp (rq w S) S' p n s' a' w'->a'.defers=[]->K s'=some y->(vm c ann).wpIn (FW none) 0 P (Ot P fn w S z y) a' w'):OC P a z f xs y:=by
 intro w S vs C j r l;simp[Y,zea] at q;obtain⟨⟨J,U⟩,H⟩:=q;unfold L7 at h;split at h<;>try(cases h;done)
 rename_i c d;have N:=iZ j;have i:(vs.toArray++Array.replicate (fn.ntmps-vs.toArray.size) undef).size=fn.ntmps:=by simp;omega
 refine AY F d<|Vq (w0:=rq w S) A c ann (S:=S) (γ:=λ_=>none) (β:=λ_=>none) (s:=qQ fn a xs) ?_ rfl (by simp[qQ]) h λs' S' p n a' w' Q nd R=>B c d w S S' p n s' a' w' Q nd R
 refine⟨⟨rfl,rfl,rfl,zja _,zja _,λ_ _=>rfl⟩,λt u=>?_,i,λt u=>?_,λid o b I=>(by cases I),λid b d=>(by cases d),λid O b d=>(by cases d),λ_ _=>rfl,λv b e _ d=>(by cases d),λv v' b e T _ _ d=>(by cases d),λv id b e _ d=>(by cases d),λ_ _=>rfl,C,λb o d _=>d⟩
 ·simp only[qQ,gT];split
  ·rename_i ty x e1 e2;have G:=(zra.1 e2).1;have g:t<vs.length:=u0
   have M:(vs.toArray++Array.replicate (fn.ntmps-vs.toArray.size) undef).getD t undef=vs[t]:=by simp[Array.getD,zGd,g];omega
   rw[M];obtain⟨V,k,m⟩:=gk j e1;rw[e2] at k;cases k;exact dC (bZ H e1) m<|l t x _ e2<|zca g
  ·simp[AR]
 ·have L:fn.ntmps<=t:=u;simp[qQ,gT];rw[zXa u0]
def Qi(nt x:Nat)(e:Ty)(l:List D):St:={ tm:=λi=>if i=x then .d (.sl e) (.sl l) else .undef,ob:=λ_=>none,fresh:=0,dead:=[],nt:=nt,lkS:=[],lkO:=[4095] }
def Rp.reset{w0:Root}{s:St}{x:Nat}{e:Ty}{a:Act}{w:World}(h:Rp w0 S (λ_=>none) (λ_=>none) (Wc s x e l) a w){nt:Nat}(c:s.nt=nt):Rp w0 S (λ_=>none) (λ_=>none) (Qi nt x e l) a w:=by subst c;exact⟨h.ext,h.tms,h.nt,h.tmu,λid o b d=>(by cases d),h.γn,h.γi,λ_ _=>rfl,h.βn,h.βi,h.βγ,λ_ _=>rfl,h.Sb,h.So⟩
def Ip(E:Env)(nt x g:Nat)(e:Ty)(s:St):Option D:=(eQ s e x).bind λl=>if s.nt=nt then(ld E g l).bind λl'=>some (.sl l') else none
def At(C:EnvOk P E){B:Nat}{e:Ty}(L:SortOk P B e){g:Nat}(i:E.sig g=some ([e,e],.int .i64)/\E.free g=0){fn:Func}{w:World}(M:gg fn.results.size z=true)
  {id x t d2 nt:Nat} {ops:Array Oper} {d:Code} {ann:Ann} {v A:TypeId} {p1 N:String} {j k:Array Edge} {args:Array Operand} {m:Array TypeId}
  (f:ops.toList=[⟨some t,.move<|.tmp x,v,p1,j,none⟩,⟨some d2,.call ⟨.value<|.func B,args,m⟩,A,N,k,none⟩]) (a:args=#[.tmp t,.func g]) (F:(decide (x≠t)&&decide (x≠d2)&&decide (t<nt))=true)
  (u:∀ l',(ev E d ann D (Qi nt x e l') λe s=>match e with|.exit _=>none|_=>results E s z fn.results.toList)=some (.sl l'))
  {S':Nat->Nat->Prop} {γ':Nat->Option Nat} {β':Nat->Option (Nat×Nat)} {s':St} {a':Act} {w':World} (h:Rp (rq w S) S' γ' β' s' a' w') (r:a'.defers=[]) (J:Ip E nt x g e s'=some y):(Code.seq (.region id ops false) d).wpIn (FW none) 0 P (Ot P fn w S z y) a' w':=by
 simp[Y,zea] at F;obtain⟨⟨o,p⟩,q⟩:=F;obtain⟨l,G,n⟩:=ab J;split at n<;>try(cases n;done)
 rename_i c;obtain⟨l',H,I⟩:=ab n;cases I;refine wpIn_seq<|Qx C L i f a h r o p (by rw[c];exact q) G H λa2 O S2 K b=>?_
 exact Md C M (K.reset c) b (by simp[Qi])<|u l'
theorem uY{lt:D->D->Bool}{x:D}:∀ {l:List D},(∀ a∈x::l,∀ b∈x::l,∀ c∈x::l,lt a b=true->lt b c=true->lt a c=true)->(∀ y∈l,lt x y=true\/lt y x=true)->l.Pairwise (λa b=>lt a b=true)->(FC lt x l).Pairwise (λa b=>lt a b=true)
 | [],_,_,_=>by simp[FC]
 | y::l,g,f,hp=>by
  obtain⟨p1,m⟩:=zNa.1 hp;simp[FC];split
  ·rename_i e;refine zNa.2 ⟨λz d=>?_,hp⟩;rcases zMa.1 d with rfl|d
   ·exact e
   ·exact g x j2 y j2 z (by simp[d]) e<|p1 z d
  ·rename_i e;have h:=(f y zBa).resolve_left e;refine zNa.2 ⟨λz d=>?_,uY (λa i b j c k=>?_) (λz d=>f z<|zsa _ d) m⟩
   ·rcases zMa.1 ((ul lt x l).subset d) with rfl|d
    ·exact h
    ·exact p1 z d
   ·have up:∀ q,q∈x::l->q∈x::y::l:=λq hq=>by
     rcases zMa.1 hq with rfl|hq
     ·simp
     ·simp[hq]
    exact g a (up a i) b (up b j) c<|up c k
theorem th{lt:D->D->Bool}:∀ {l:List D},(∀ a∈l,∀ b∈l,∀ c∈l,lt a b=true->lt b c=true->lt a c=true)->l.Pairwise (λa b=>lt a b=true\/lt b a=true)->(nu lt l).Pairwise (λa b=>lt a b=true)
 | [],_,_=>by simp[nu]
 | x::l,d,h=>by
  obtain⟨p1,k⟩:=zNa.1 h;have i:∀ q,q∈nu lt l->q∈l:=λq hq=>(iX lt l).subset hq;have up:∀ q,q∈x::nu lt l->q∈x::l:=λq hq=>by
   rcases zMa.1 hq with rfl|hq
   ·simp
   ·simp[i q hq]
  exact uY (λa e b f c g=>d a (up a e) b (up b f) c<|up c g) (λy j=>p1 y<|i y j)<|th (λa e b f c g=>d a (zsa _ e) b (zsa _ f) c<|zsa _ g) k
def yd{g:Nat}{l':List D}(d:vz E g l'=true)(hp:l.Perm l'):ld E g l=some l':=by
 obtain⟨B,G⟩:=lF d;have m:∀ x∈l',∃ i,l'[i]?=some x:=λx hx=>by obtain⟨i,v,w⟩:=z3a hx;exact⟨i,by rw[zca v,w]⟩
 have u:∀ a∈l,∀ b∈l,∀ c∈l,uu E g a b=true->uu E g b c=true->uu E g a c=true:=λa n b o c r v w=>by obtain⟨i,hi⟩:=m a<|hp.subset n;obtain⟨j,f⟩:=m b<|hp.subset o;obtain⟨k,A⟩:=m c<|hp.subset r;have:=(fR d hi f).1.1 v;have:=(fR d f A).1.1 w;exact(fR d hi A).1.2 u0
 have s:l.Nodup:=hp.symm.nodup<|zh d;have t:l.Pairwise (λa b=>uu E g a b=true\/uu E g b a=true):=by
  refine z3c (λ{a b} n o q=>?_) s;obtain⟨i,hi⟩:=m a<|hp.subset n;obtain⟨j,f⟩:=m b<|hp.subset o;rcases zpd i j with k|k|k
  ·exact .inl<|(fR d hi f).1.2 k
  ·subst k;rw[hi] at f;cases f;exact z8a rfl q
  ·exact .inr<|(fR d f hi).1.2 k
 have C:=th u t;have p:(nu (uu E g) l).Perm l':=(iX _ l).trans hp;have:nu (uu E g) l=l':=by
  have key:∀ {a b:List D},a.Pairwise (λx y=>uu E g x y=true)->b.Pairwise (λx y=>uu E g x y=true)->a.Perm b->(∀ x∈a,x∈l')->a=b:=by
   intro a
   induction a with
   | nil=>intro b _ _ hp _;exact hp.symm.eq_nil.symm ▸ rfl
   | cons x a ih=>
    intro b n o hp hm;cases b with
    | nil=>exact z8a hp.eq_nil j2
    | cons y b=>
     obtain⟨a1,a2⟩:=zNa.1 n;obtain⟨b1,b2⟩:=zNa.1 o;have e:x=y:=by
      rcases zMa.1 (hp.subset zBa) with e|m1
      ·exact e
      ·rcases zMa.1 (hp.symm.subset (zBa (a:=y))) with e|m2
       ·exact e.symm
       ·exfalso;obtain⟨i,hi⟩:=m x<|hm x zBa;obtain⟨j,f⟩:=m y<|hm y<|zsa _ m2;have:=(fR d hi f).1.1<|a1 y m2;have:=(fR d f hi).1.1<|b1 x m1;omega
     subst e;rw[ih a2 b2 ((List.perm_cons x).1 hp)<|λz F=>hm z<|zsa _ F]
  exact key C (B.imp λh=>h.1) p λx hx=>p.subset hx
 unfold ld;rw[this,zma d]
def Gx{g:Nat}{l':List D}(h:ld E g l=some l')(hp:q.Perm l):ld E g q=some l':=by
 have a:vz E g l'=true/\l'=nu (uu E g) l:=by
  unfold ld at h;split at h
  ·rename_i b;cases h;exact⟨b,rfl⟩
  ·cases h
 exact yd a.1<|hp.trans (by rw[a.2];exact(iX _ l).symm)
end
end
section
variable{a c f:Nat}{j q u:TypeId}{A B C z:String}{F G H J:Array Edge}{K M N:Array Oper}
section
variable{P:Program}{E:Env}
def BV(E:Env)(nt m0 o g:Nat)(e vt:Ty)(s:St):Option D:=
 match s.tm m0 with
 | .map kt b id=>if kt.beq e&&b.beq vt then(match s.ob id with
   | some (.mp a c l)=>if a.beq e&&c.beq vt&&decide (l.length<=1073741824) then(match eQ s e o with
     | some []=>if s.nt=nt then(ld E g<|l.map yK).bind λl'=>some (.sl l') else none
     | _=>none) else none
   | _=>none) else none
 | _=>none
def Gj(hE:EnvOk P E){e vt:Ty}(he:bS e=true)(bh:bS vt=true)(a6:aj e=true)(a8:aj vt=true){fn:Func}{Q:Ty}{y:D}{w:World}{S:Nat->Nat->Prop}(hr:gg fn.results.size Q=true)
  {b b2:Nat} {t72 m0 it T nx ok en o nt:Nat}  {rest:List Oper} {c26:Code}
  {y4 y5:TypeId} {p1:String} {f5:Array Edge} {TK TV:TypeId}
  (ap:K.toList=[⟨some t72,.move<|.tmp m0,j,p1,F,none⟩,⟨some it,.range T<|.tmp t72,q,z,G,none⟩])
  (ax:M.toList=[⟨some nx,.next (.tmp it) false,u,A,H,none⟩,⟨some ok,.extract (.tmp nx) 0,y4,B,J,none⟩])
  (aI:N.toList=⟨some en,.entry<|.tmp it,y5,C,f5,none⟩::rest) (I:(rest.all λx=>x.guard.isNone)=true) (hT:P.underlying T=some (.map TK TV))
  (hd:(decide (o≠t72)&&decide (o≠it)&&decide (nx≠o)&&decide (ok≠o)&&decide (en≠o)&&decide (it≠t72)&&decide (it≠nx)&&decide (it≠ok)&&decide (it≠en)&&decide (nx≠ok)&&decide (t72<nt)&&decide (it<nt)&&decide (nx<nt)&&decide (ok<nt)&&decide (en<nt))=true)
  (n:∀ X L k v,Rv e L X->L.length<1073741824->wt e k->ev E (.region 0 rest.toArray false) .leaf D ((σL nt o it X).put (some en)<|.d (.tup [e,vt])<|.tup [k,v]) (λx s'=>match x with
   | .normal=>ev E c26 .leaf D s' (λx bj=>match x with|.normal=>(eQ bj e o).bind λl=>some (.sl l)|_=>none)
   | _=>none)=some (.sl<|L++[k]))
  {f0 g:Nat} (hf:SortOk P f0 e) (W:E.sig g=some ([e,e],.int .i64)/\E.free g=0) {id t d2:Nat} {ops:Array Oper} {d:Code} {ann:Ann} {bl bm:TypeId} {q1 q2:String} {a0 Z:Array Edge} {args:Array Operand} {ad:Array TypeId}
  (V:ops.toList=[⟨some t,.move<|.tmp o,bl,q1,a0,none⟩,⟨some d2,.call ⟨.value<|.func f0,args,ad⟩,bm,q2,Z,none⟩]) (p:args=#[.tmp t,.func g]) (aO:(decide (o≠t)&&decide (o≠d2)&&decide (t<nt))=true)
  (a3:∀ l',(ev E d ann D (Qi nt o e l') λx s=>match x with|.exit _=>none|_=>results E s Q fn.results.toList)=some (.sl l'))
  {S':Nat->Nat->Prop} {γ':Nat->Option Nat} {β':Nat->Option (Nat×Nat)} {s':St} {a':Act} {w':World} (h:Rp (rq w S) S' γ' β' s' a' w') (a1:a'.defers=[]) (i:BV E nt m0 o g e vt s'=some y) :
  (Code.seq (Code.seq (.region a K false)<|.block b<|.loop<|.seq (.region c M false)<|.seq (.cond (.tmp ok) .skip<|.exit b)<|.block b2<|.seq (.region f N false) c26)<|Code.seq (.region id ops false) d).wpIn (FW none) 0 P (Ot P fn w S Q y) a' w':=by
 unfold BV at i;split at i<;>try(cases i;done)
 rename_i kt bs bp ba;split at i<;>try(cases i;done)
 rename_i r;split at i<;>try(cases i;done)
 rename_i O bt l a9;split at i<;>try(cases i;done)
 rename_i m;split at i<;>try(cases i;done)
 rename_i a5;split at i<;>try(cases i;done)
 rename_i a7;obtain⟨l',h3,h4⟩:=ab i;cases h4;simp[Y,zea] at r m hd;have e1:=ags _ _ r.1;have e2:=ags _ _ r.2;have e3:=ags _ _ m.1.1;have e4:=ags _ _ m.1.2;subst e1;subst e2;subst e3;subst e4;obtain⟨⟨⟨⟨⟨⟨⟨⟨⟨⟨⟨⟨⟨⟨d1,an⟩,d3⟩,d4⟩,d5⟩,d6⟩,d7⟩,d8⟩,d9⟩,al⟩,n1⟩,n2⟩,n3⟩,n4⟩,n5⟩:=hd;subst a7;refine wpIn_seq<|PO hE he bh a6 a8 ap ax aI (λx hx=>by simpa using zxa.1 I x hx) hT h a1 d1 an d3 d4 d5 d6 d7 d8 d9 al n1 n2 n3 n4 n5 ba a9 m.2 a5 n λL S2 γ2 β2 X a2 w2 hX hp hR R=>?_
 have U:L.length<=1073741824:=by rw[hp.length_eq];simpa using m.2
 have a4:eQ (σL s'.nt o it X) O o=some L:=by
  unfold eQ σL;simp only[if_true];rcases hX with⟨rfl,rfl⟩|rfl
  ·rfl
  ·simp only;have:(O.beq O&&!(([]:List Nat).contains 5)&&decide (L.length<=1073741824))=true:=by
    simp only[Y,zea];exact⟨⟨m.1.1,rfl⟩,U⟩
   rw[zma this]
 refine At hE hf W hr V p aO a3 hR R ?_;unfold Ip;rw[a4,zba,zma<|show(σL s'.nt o it X).nt=s'.nt from rfl,Gx h3 hp];rfl
end
end
end Sy
end
noncomputable section
namespace Go.Proofs
open Go.Shelf
def agq:Go.Shelf.Ren:=⟨λ|6=>294|15=>316|14=>315|28=>56|29=>329|20=>321|21=>322|22=>323|23=>324|24=>325|25=>326|26=>327|27=>328|46=>339|47=>340|48=>341|49=>342|50=>343|57=>347|n=>n,λ|22=>261|24=>264|25=>291|3=>3|39=>155|0=>0|53=>33|55=>157|4=>4|46=>304|45=>303|50=>195|5=>5|9=>9|66=>315|70=>319|76=>323|77=>324|n=>n,λ|n=>n⟩
def agp:Go.Proofs.SlLaysF0.n6 Tryz.prog agq:={
 mixed:=j3
 f6:=⟨Tryz.f294.name,H,Tryz.func294.trans<|zEa some j3⟩
 f14:=⟨Tryz.f315.name,H,Tryz.func315.trans<|zEa some j3⟩
 f15:=Tryz.func316.trans (zEa some j3)
 f20:=⟨Tryz.f321.name,H,Tryz.func321.trans<|zEa some j3⟩
 f21:=⟨Tryz.f322.name,H,Tryz.func322.trans<|zEa some j3⟩
 f22:=⟨Tryz.f323.name,H,Tryz.func323.trans<|zEa some j3⟩
 f23:=⟨Tryz.f324.name,H,Tryz.func324.trans<|zEa some j3⟩
 f24:=⟨Tryz.f325.name,H,Tryz.func325.trans<|zEa some j3⟩
 f25:=⟨Tryz.f326.name,H,Tryz.func326.trans<|zEa some j3⟩
 f26:=⟨Tryz.f327.name,H,Tryz.func327.trans<|zEa some j3⟩
 f27:=⟨Tryz.f328.name,H,Tryz.func328.trans<|zEa some j3⟩
 f28:=Tryz.func56.trans (zEa some j3)
 f29:=Tryz.func329.trans (zEa some j3)
 f46:=⟨Tryz.f339.name,H,Tryz.func339.trans<|zEa some j3⟩
 f47:=Tryz.func340.trans (zEa some j3)
 f48:=Tryz.func341.trans (zEa some j3)
 f49:=⟨Tryz.f342.name,H,Tryz.func342.trans<|zEa some j3⟩
 f50:=⟨Tryz.f343.name,H,Tryz.func343.trans<|zEa some j3⟩
 f57:=⟨Tryz.f347.name,H,Tryz.func347.trans<|zEa some j3⟩
 t0:=Tryz.underlying0
 a0:=Tryz.isAgg0
 z0:=Tryz.sizeOf0
 v0:=Tryz.zeroValue0
 t3:=Tryz.underlying3
 a3:=Tryz.isAgg3
 z3:=Tryz.sizeOf3
 v3:=Tryz.zeroValue3
 t4:=Tryz.underlying4
 a4:=Tryz.isAgg4
 z4:=Tryz.sizeOf4
 v4:=Tryz.zeroValue4
 t5:=Tryz.underlying5
 a5:=Tryz.isAgg5
 z5:=Tryz.sizeOf5
 v5:=Tryz.zeroValue5
 t9:=Tryz.underlying9
 a9:=Tryz.isAgg9
 z9:=Tryz.sizeOf9
 v9:=Tryz.zeroValue9
 t22:=Tryz.underlying261
 a22:=Tryz.isAgg261
 z22:=Tryz.sizeOf261
 v22:=Tryz.zeroValue261
 t25:=Tryz.underlying291
 a25:=Tryz.isAgg291
 z25:=Tryz.sizeOf291
 v25:=Tryz.zeroValue291
 t39:=Tryz.underlying155
 a39:=Tryz.isAgg155
 z39:=Tryz.sizeOf155
 v39:=Tryz.zeroValue155
 t45:=Tryz.underlying303
 a45:=Tryz.isAgg303
 z45:=Tryz.sizeOf303
 v45:=Tryz.zeroValue303
 t46:=Tryz.underlying304
 a46:=Tryz.isAgg304
 z46:=Tryz.sizeOf304
 v46:=Tryz.zeroValue304
 t50:=Tryz.underlying195
 a50:=Tryz.isAgg195
 z50:=Tryz.sizeOf195
 v50:=Tryz.zeroValue195
 t53:=Tryz.underlying33
 a53:=Tryz.isAgg33
 z53:=Tryz.sizeOf33
 v53:=Tryz.zeroValue33
 t55:=Tryz.underlying157
 a55:=Tryz.isAgg157
 z55:=Tryz.sizeOf157
 v55:=Tryz.zeroValue157
 t66:=Tryz.underlying315
 a66:=Tryz.isAgg315
 z66:=Tryz.sizeOf315
 v66:=Tryz.zeroValue315
 t70:=Tryz.underlying319
 a70:=Tryz.isAgg319
 z70:=Tryz.sizeOf319
 v70:=Tryz.zeroValue319
 t76:=Tryz.underlying323
 a76:=Tryz.isAgg323
 z76:=Tryz.sizeOf323
 v76:=Tryz.zeroValue323
 t77:=Tryz.underlying324
 a77:=Tryz.isAgg324
 z77:=Tryz.sizeOf324
 v77:=Tryz.zeroValue324 }
def ago:Go.Shelf.Ren:=⟨λ|6=>301|15=>316|14=>318|28=>56|29=>329|20=>330|21=>331|22=>332|23=>333|24=>334|25=>335|26=>336|27=>337|46=>344|47=>340|48=>341|49=>345|50=>346|57=>348|n=>n,λ|22=>217|24=>219|25=>294|3=>3|39=>155|0=>0|53=>33|55=>157|4=>4|46=>304|45=>303|50=>195|5=>5|9=>9|66=>315|70=>319|76=>323|77=>324|n=>n,λ|n=>n⟩
def agn:Go.Proofs.SlLaysF0.n6 Tryz.prog ago:={
 mixed:=j3
 f6:=⟨Tryz.f301.name,H,Tryz.func301.trans<|zEa some j3⟩
 f14:=⟨Tryz.f318.name,H,Tryz.func318.trans<|zEa some j3⟩
 f15:=Tryz.func316.trans (zEa some j3)
 f20:=⟨Tryz.f330.name,H,Tryz.func330.trans<|zEa some j3⟩
 f21:=⟨Tryz.f331.name,H,Tryz.func331.trans<|zEa some j3⟩
 f22:=⟨Tryz.f332.name,H,Tryz.func332.trans<|zEa some j3⟩
 f23:=⟨Tryz.f333.name,H,Tryz.func333.trans<|zEa some j3⟩
 f24:=⟨Tryz.f334.name,H,Tryz.func334.trans<|zEa some j3⟩
 f25:=⟨Tryz.f335.name,H,Tryz.func335.trans<|zEa some j3⟩
 f26:=⟨Tryz.f336.name,H,Tryz.func336.trans<|zEa some j3⟩
 f27:=⟨Tryz.f337.name,H,Tryz.func337.trans<|zEa some j3⟩
 f28:=Tryz.func56.trans (zEa some j3)
 f29:=Tryz.func329.trans (zEa some j3)
 f46:=⟨Tryz.f344.name,H,Tryz.func344.trans<|zEa some j3⟩
 f47:=Tryz.func340.trans (zEa some j3)
 f48:=Tryz.func341.trans (zEa some j3)
 f49:=⟨Tryz.f345.name,H,Tryz.func345.trans<|zEa some j3⟩
 f50:=⟨Tryz.f346.name,H,Tryz.func346.trans<|zEa some j3⟩
 f57:=⟨Tryz.f348.name,H,Tryz.func348.trans<|zEa some j3⟩
 t0:=Tryz.underlying0
 a0:=Tryz.isAgg0
 z0:=Tryz.sizeOf0
 v0:=Tryz.zeroValue0
 t3:=Tryz.underlying3
 a3:=Tryz.isAgg3
 z3:=Tryz.sizeOf3
 v3:=Tryz.zeroValue3
 t4:=Tryz.underlying4
 a4:=Tryz.isAgg4
 z4:=Tryz.sizeOf4
 v4:=Tryz.zeroValue4
 t5:=Tryz.underlying5
 a5:=Tryz.isAgg5
 z5:=Tryz.sizeOf5
 v5:=Tryz.zeroValue5
 t9:=Tryz.underlying9
 a9:=Tryz.isAgg9
 z9:=Tryz.sizeOf9
 v9:=Tryz.zeroValue9
 t22:=Tryz.underlying217
 a22:=Tryz.isAgg217
 z22:=Tryz.sizeOf217
 v22:=Tryz.zeroValue217
 t25:=Tryz.underlying294
 a25:=Tryz.isAgg294
 z25:=Tryz.sizeOf294
 v25:=Tryz.zeroValue294
 t39:=Tryz.underlying155
 a39:=Tryz.isAgg155
 z39:=Tryz.sizeOf155
 v39:=Tryz.zeroValue155
 t45:=Tryz.underlying303
 a45:=Tryz.isAgg303
 z45:=Tryz.sizeOf303
 v45:=Tryz.zeroValue303
 t46:=Tryz.underlying304
 a46:=Tryz.isAgg304
 z46:=Tryz.sizeOf304
 v46:=Tryz.zeroValue304
 t50:=Tryz.underlying195
 a50:=Tryz.isAgg195
 z50:=Tryz.sizeOf195
 v50:=Tryz.zeroValue195
 t53:=Tryz.underlying33
 a53:=Tryz.isAgg33
 z53:=Tryz.sizeOf33
 v53:=Tryz.zeroValue33
 t55:=Tryz.underlying157
 a55:=Tryz.isAgg157
 z55:=Tryz.sizeOf157
 v55:=Tryz.zeroValue157
 t66:=Tryz.underlying315
 a66:=Tryz.isAgg315
 z66:=Tryz.sizeOf315
 v66:=Tryz.zeroValue315
 t70:=Tryz.underlying319
 a70:=Tryz.isAgg319
 z70:=Tryz.sizeOf319
 v70:=Tryz.zeroValue319
 t76:=Tryz.underlying323
 a76:=Tryz.isAgg323
 z76:=Tryz.sizeOf323
 v76:=Tryz.zeroValue323
 t77:=Tryz.underlying324
 a77:=Tryz.isAgg324
 z77:=Tryz.sizeOf324
 v77:=Tryz.zeroValue324 }
end Go.Proofs
end
noncomputable section
namespace Sy
open Go Go.Proofs Go.Shelf Go.RowKit Go.Lib Go.Sort
def Yd {P : Program} {f : Nat} (h : (match P.funcs[f]? with | some fn => !(fn.name == "runtime.NumGoroutine") && fn.body.isSome | none => false) = true) : ∃ fn, P.funcs[f]? = some fn /\ (fn.name == "runtime.NumGoroutine") = false /\ fn.body.isSome = true := by
 split at h
 ·rename_i fn hf;simp only[Y,zCa] at h;exact⟨fn,hf,h.1,h.2⟩
 ·cases h
def NQ:SortOk Tryz.prog 301 K8:=
 ⟨rfl,rfl,H,rfl,Yd j3,λp cap fv w=>AnyF.slices_SortFunc_none agn p cap fv w,
  λ_ _ enc l i f k g c off cap d w h b j a e=>AnyQ.slices_SortFunc agn 2 Tryz.isAgg219 Tryz.sizeOf219 enc l i f k g #[] c off cap d w h b j a e⟩
def NR:SortOk Tryz.prog 294 fe:=
 ⟨rfl,rfl,H,rfl,Yd j3,λp cap fv w=>AnyF.slices_SortFunc_none agp p cap fv w,
  λ_ _ enc l i f k g c off cap d w h b j a e=>AnyQ.slices_SortFunc agp 4 Tryz.isAgg264 Tryz.sizeOf264 enc l i f k g #[] c off cap d w h b j a e⟩
end Sy
end
noncomputable section
set_option maxHeartbeats 0
namespace Sy
open Go Go.Proofs
section
variable{y:D}
def Rt:Code->Code|.block _ c=>c|c=>c
def inLoop:Code->Code|.loop c=>c|c=>c
def sq1:Code->Code|.seq a _=>a|c=>c
def Zf:Code->Code|.seq _ b=>b|c=>c
def YB:Code->List Oper|.region _ o _=>o.toList|_=>[]
def Y1:AnnT:=(.seq .leaf<|.seq .leaf<|.seq (.two .leaf<|.two (.loop ⟨[(3,.ow K8),(12,.dv<|Ty.int .i64)],[],[10,11]⟩ [(.exit 0,⟨[(3,.ow K8)],[],[]⟩)]<|.two .leaf<|.two .leaf<|.two (.two (.two .leaf<|.two .leaf<|.two (.loop ⟨[(3,.ow K8),(5,.same<|.ptr K6 24581 []),(19,.dv<|Ty.int .i64)],[(24581,.keep K6 5)],[10,11,12,17,18]⟩ [(.exit 2,⟨[(3,.ow K8)],[],[10,11,12]⟩)]<|.two .leaf<|.two .leaf<|.cut [(.normal,⟨[(3,.ow K8),(5,.same<|.ptr K6 24581 [])],[(24581,.keep K6 5)],[10,11,12,17,18,19]⟩)] [10,11,12,17,18,19] [24581] (.two (.two .leaf<|.two (.reg [] 10) .leaf) .leaf) .leaf) .leaf) .leaf) .leaf) .leaf) .hand)
def WY(lp:Lp)(call:Nat->List D->Option D)(a0:D):Option D:=
 (call 18 [a0]).bind λr1=>
 (D.asSl r1).bind λk=>
 Option.bind (lp (β:=Nat×List D) (λ(f:List D)=>
 (afA .lss (Z f 1)<|D.int .i64<|List.length k).bind λB=>
 (D.truth B).bind λz=>
 if z then((D.asSl r1).bind λx=>
 (D.idx (Z f 1)<|List.length x).bind λA=>
 (x[A]?).bind λw=>
 (D.get w [2]).bind λy=>
 (D.asSl y).bind λj=>
 Option.bind (lp (β:=Nat×List D) (λ(v11:List D)=>
 (afA .lss (Z v11 1)<|D.int .i64<|List.length j).bind λo=>
 (D.truth o).bind λg=>
 if g then(Option.bind ((D.asSl y).bind λc=>
 (D.idx (Z v11 1)<|List.length c).bind λi=>
 (c[i]?).bind λa=>
 (D.get w [2]).bind λp=>
 (afA .add (Z v11 1)<|D.int .i64 1).bind λq=>
 (D.get w [2]).bind λr=>
 (D.asSl r).bind λl=>
 (afA .rem q<|D.int .i64<|List.length l).bind λs=>
 (D.asSl p).bind λd=>
 (D.idx s<|List.length d).bind λRs=>
 (d[Rs]?).bind λb=>
 (afA .lss a b).bind λt=>
 (D.truth t).bind λh=>
 if h then(if List.length (D.els<|Z v11 0)+List.length [D.st [a,b]]<=1073741824 then(some (0,[D.sl<|(D.els<|Z v11 0)++[D.st [a,b]]])) else none) else(some (0,[D.sl<|D.els<|Z v11 0]))) λ(m:Nat×List D)=>
 (afA .add (Z v11 1)<|D.int .i64 1).bind λu=>
 some (Sum.inl [D.sl<|D.els<|Z m.2 0,u])) else(some<|Sum.inr (0,[D.sl<|D.els<|Z v11 0]))) [D.sl<|D.els<|Z f 0,D.int .i64 0]) λn=>
 (afA .add (Z f 1)<|D.int .i64 1).bind λv=>
 some (Sum.inl [D.sl<|D.els<|Z n.2 0,v])) else(some<|Sum.inr (0,[D.sl<|D.els<|Z f 0]))) [D.sl [],D.int .i64 0]) λe=>
 Option.bind (if decide (List.length (D.els<|Z e.2 0)<=1073741824) then some (D.els<|Z e.2 0) else none) λl1=>
 (ld (da lp call<|kP lp call) (cj 51) l1).bind λk=>some<|D.sl k
def E21(lp:Lp)(call:Nat->List D->Option D)(a0:D):L7 (da lp call<|kP lp call) (Ip (da lp call<|kP lp call) 48 3 (cj 51) K8) Tryz.f261 Y1 [K3] [a0]=WY lp call a0:=j3
def WW:AnnT:=(.seq .leaf<|.seq .leaf<|.seq (.two .leaf<|.two (.loop ⟨[(3,.same<|.map fe Ty.bool 8204),(15,.dv<|Ty.int .i64)],[(8204,.mp fe Ty.bool)],[0,14]⟩ [(.exit 0,⟨[(3,.same<|.map fe Ty.bool 8204)],[(8204,.mp fe Ty.bool)],[]⟩)]<|.two .leaf<|.two .leaf<|.two (.two (.two .leaf<|.two .leaf<|.two (.loop ⟨[(3,.same<|.map fe Ty.bool 8204),(19,.dv<|Ty.int .i64)],[(8204,.mp fe Ty.bool)],[0,4,14,15,18]⟩ [(.exit 2,⟨[(3,.same<|.map fe Ty.bool 8204)],[(8204,.mp fe Ty.bool)],[0,14,15]⟩)]<|.two .leaf<|.two .leaf<|.two (.two (.two .leaf<|.two .leaf<|.two (.loop ⟨[(3,.same<|.map fe Ty.bool 8204),(23,.dv<|Ty.int .i64)],[(8204,.mp fe Ty.bool)],[0,4,5,14,15,18,19,22]⟩ [(.exit 4,⟨[(3,.same<|.map fe Ty.bool 8204)],[(8204,.mp fe Ty.bool)],[0,4,14,15,18,19]⟩)]<|.two .leaf<|.two .leaf<|.cut [(.normal,⟨[(3,.same<|.map fe Ty.bool 8204)],[(8204,.mp fe Ty.bool)],[0,4,5,14,15,18,19,22,23]⟩)] [0,4,5,14,15,18,19,22,23] [] (.two (.two .leaf<|.two (.reg [] 14)<|.two .leaf<|.two .leaf<|.two (.loop ⟨[(3,.same<|.map fe Ty.bool 8204),(51,.ow fe),(53,.dv<|Ty.int .i64)],[(8204,.mp fe Ty.bool)],[0,4,5,14,15,18,19,22,23,52]⟩ [(.exit 6,⟨[(3,.same<|.map fe Ty.bool 8204)],[(8204,.mp fe Ty.bool)],[0,4,5,14,15,18,19,22,23]⟩)]<|.two .leaf<|.two .leaf<|.cut [(.normal,⟨[(3,.same<|.map fe Ty.bool 8204),(51,.ow fe)],[(8204,.mp fe Ty.bool)],[0,4,5,14,15,18,19,22,23,52,53]⟩)] [0,4,5,14,15,18,19,22,23,52,53] [] .leaf .leaf) .leaf) .leaf) .leaf) .leaf) .leaf) .leaf) .leaf) .leaf) .leaf) .leaf)<|.seq .leaf .hand)
def WZ(lp:Lp)(call:Nat->List D->Option D)(a0:D):Option D:=
 (D.asSl a0).bind λl1=>
 Option.bind (lp (β:=Nat×List D) (λ(d:List D)=>
 (afA .lss (Z d 0)<|D.int .i64<|List.length l1).bind λR=>
 (D.truth R).bind λO=>
 if O then(Option.bind (lp (β:=Nat×List D) (λ(e:List D)=>
 (afA .lss (Z e 0)<|Z d 0).bind λS=>
 (D.truth S).bind λP=>
 if P then(Option.bind (lp (β:=Nat×List D) (λ(f:List D)=>
 (afA .lss (Z f 0)<|Z e 0).bind λT=>
 (D.truth T).bind λl=>
 if l then(Option.bind ((D.asSl a0).bind λg=>
 (D.idx (Z d 0)<|List.length g).bind λyA=>
 (g[yA]?).bind λA=>
 (D.asSl a0).bind λh=>
 (D.idx (Z e 0)<|List.length h).bind λr=>
 (h[r]?).bind λB=>
 (D.asSl a0).bind λi=>
 (D.idx (Z f 0)<|List.length i).bind λs=>
 (i[s]?).bind λC=>
 (call 96 [A,B,C]).bind λb=>
 (D.get b [0]).bind λE=>
 (D.truth<|D.bool<|D.beq E<|D.st [D.int .i64 0,D.int .i64 0,D.int .i64 0]).bind λm=>
 if m then(some (0,[D.sl<|D.els<|Z f 1])) else((D.get b [0]).bind λF=>
 (call 97 [F]).bind λu=>
 (D.get b [1]).bind λG=>
 (afP .neg G).bind λH=>
 Option.bind (lp (β:=Nat×List D) (λ(a:List D)=>
 (afA .lss (Z a 1)<|D.int .i64 2).bind λI=>
 (D.truth I).bind λn=>
 if n then(Option.bind ((D.idx (Z a 1)<|List.length<|D.els<|Z a 0).bind λt=>
 ((D.els<|Z a 0)[t]?).bind λc=>
 (afP .not<|Option.getD (afH (D.els<|Z a 2) c)<|D.bool false).bind λJ=>
 (D.truth J).bind λo=>
 Option.bind (if o then((call 98 [a0,c]).bind λv=>
 D.truth v) else(some false)) λp=>
 (D.truth<|D.bool p).bind λq=>
 if q then(some (0,[D.sl<|D.els<|Z a 0,D.sl<|afI (D.els<|Z a 2) c<|D.bool true])) else(some (0,[D.sl<|D.els<|Z a 0,D.sl<|D.els<|Z a 2]))) λ(j:Nat×List D)=>
 (afA .add (Z a 1)<|D.int .i64 1).bind λK=>
 some (Sum.inl [D.sl<|D.els<|Z j.2 0,K,D.sl<|D.els<|Z j.2 1])) else(some<|Sum.inr (0,[D.sl<|D.els<|Z a 2]))) [D.sl [b,D.st [u,H]],D.int .i64 0,D.sl<|D.els<|Z f 1]) λw=>
 some (0,[D.sl<|D.els<|Z w.2 0]))) λ(x:Nat×List D)=>
 (afA .add (Z f 0)<|D.int .i64 1).bind λL=>
 some (Sum.inl [L,D.sl<|D.els<|Z x.2 0])) else(some<|Sum.inr (0,[D.sl<|D.els<|Z f 1]))) [D.int .i64 0,D.sl<|D.els<|Z e 1]) λy=>
 (afA .add (Z e 0)<|D.int .i64 1).bind λM=>
 some (Sum.inl [M,D.sl<|D.els<|Z y.2 0])) else(some<|Sum.inr (0,[D.sl<|D.els<|Z e 1]))) [D.int .i64 0,D.sl<|D.els<|Z d 1]) λz=>
 (afA .add (Z d 0)<|D.int .i64 1).bind λN=>
 some (Sum.inl [N,D.sl<|D.els<|Z z.2 0])) else(some<|Sum.inr (0,[D.sl<|D.els<|Z d 1]))) [D.int .i64 0,D.sl []]) λk=>
 if decide (List.length (D.els<|Z k.2 0)<=1073741824) then((ld (da lp call<|kP lp call) (cj 100)<|List.map yK<|D.els<|Z k.2 0).bind λQ=>some<|D.sl Q) else none
def E45(lp:Lp)(call:Nat->List D->Option D)(a0:D):L7 (da lp call<|kP lp call) (BV (da lp call<|kP lp call) 85 3 10 (cj 100) fe Ty.bool) Tryz.f259 WW [K2] [a0]=WZ lp call a0:=j3
def UK(f:Func):Code:=match f.body with|some c=>c|none=>.skip
def Ef:Code:=Rt<|Zf<|Zf<|inLoop<|Rt<|Zf<|sq1<|vm (UK Tryz.f259) WW
def Gg:List Oper:=(YB<|sq1 Ef).tail
def c45:Code:=Zf Ef
def XT{lp:Lp}{call:Nat->List D->Option D}(b:EnvOk Tryz.prog<|da lp call<|kP lp call){a0:D}(h:WY lp call a0=some y):OC Tryz.prog [K3] K9 (cj 21) [a0] y:=by
 refine pZ b (f:=cj 21) (fn:=Tryz.f261) (ann:=Y1) (K:=Ip (da lp call<|kP lp call) 48 3 (cj 51) K8) j3 j3 ((E21 lp call a0).trans h) ?_
 intro c k w S S' n m s' a' w' j l i;have e:∀ c',Tryz.f261.body=some c'->(vm c' Y1).wpIn (FW none) 0 Tryz.prog (Ot Tryz.prog Tryz.f261 w S K9 y) a' w'->(vm c Y1).wpIn (FW none) 0 Tryz.prog (Ot Tryz.prog Tryz.f261 w S K9 y) a' w':=λc' a d=>by rw[k] at a;cases a;exact d
 refine e _ rfl ?_;exact At b NQ (g:=302) ⟨j3,j3⟩ j3 (x:=3) (t:=45) (d2:=46) (nt:=48) (ann:=.leaf) rfl rfl H (λl'=>j3) j l i
def Qh{lp:Lp}{call:Nat->List D->Option D}:∀ X L k v,Rv fe L X->L.length<1073741824->wt fe k->ev (da lp call<|kP lp call) (.region 0 (Gg).toArray false) .leaf D ((σL 85 10 73 X).put (some 76)<|.d (.tup [fe,.bool])<|.tup [k,v]) (λx s'=>match x with
   | .normal=>ev (da lp call<|kP lp call) c45 .leaf D s' (λx a=>match x with|.normal=>(eQ a fe 10).bind λl=>some (.sl l)|_=>none)
   | _=>none)=some (.sl<|L++[k]):=by
 intro X L k v b hL _;rcases b with⟨rfl,rfl⟩|rfl
 ·kernel_rfl
 ·have key:ev (da lp call<|kP lp call) (.region 0 (Gg).toArray false) .leaf D ((σL 85 10 73<|.own fe 5 L).put (some 76)<|.d (.tup [fe,.bool])<|.tup [k,v]) (λx s'=>match x with
   | .normal=>ev (da lp call<|kP lp call) c45 .leaf D s' (λx a=>match x with|.normal=>(eQ a fe 10).bind λl=>some (.sl l)|_=>none)
   | _=>none)=(if List.length L+List.length [k]<=1073741824 then(Option.bind (if decide (List.length (L++[k])<=1073741824) then some (L++[k]) else none) λl=>some<|.sl l) else none):=j3
  rw[key,zma (by simp;omega),zma (by simp;omega)]
  rfl
def XU{lp:Lp}{call:Nat->List D->Option D}(b:EnvOk Tryz.prog<|da lp call<|kP lp call){a0:D}(h:WZ lp call a0=some y):OC Tryz.prog [K2] WN (cj 45) [a0] y:=by
 refine pZ b (f:=cj 45) (fn:=Tryz.f259) (ann:=WW) (K:=BV (da lp call<|kP lp call) 85 3 10 (cj 100) fe .bool) j3 j3 ((E45 lp call a0).trans h) ?_
 intro c k w S S' n m s' a' w' j l i;have e:∀ c',Tryz.f259.body=some c'->(vm c' WW).wpIn (FW none) 0 Tryz.prog (Ot Tryz.prog Tryz.f259 w S WN y) a' w'->(vm c WW).wpIn (FW none) 0 Tryz.prog (Ot Tryz.prog Tryz.f259 w S WN y) a' w':=λc' a d=>by rw[k] at a;cases a;exact d
 refine e _ rfl ?_;exact Gj b rfl rfl rfl rfl j3 (t72:=72) (m0:=3) (it:=73) (T:=287) (nx:=74) (ok:=75) (en:=76) (o:=10) (nt:=85) (c26:=c45) (rest:=Gg) rfl rfl rfl rfl (TK:=264) (TV:=4) j3 H Qh NR (g:=295) ⟨j3,j3⟩ (t:=82) (d2:=83) (ann:=.leaf) rfl rfl H (λl'=>j3) j l i
end
end Sy
end
noncomputable section
namespace Sy
open Go Go.Proofs
def L21:TT:=lf 21 (λlp call xs=>match xs with|[a0]=>WY lp call a0|_=>none) λlp b call f d e xs y c a g=>by
 have:pe (cj 21)=some ([K3],K9):=j3
 rw[this] at c;cases c;dsimp only at a;split at a<;>try(cases a;done)
 have h0:kg (cj 21)=0:=j3
 rw[h0];exact⟨XT (X2 b f) a,λh=>by rw[show pM (cj 21)=false by kernel_rfl] at h;cases h⟩
def L45:TT:=lf 45 (λlp call xs=>match xs with|[a0]=>WZ lp call a0|_=>none) λlp b call f d e xs y c a g=>by
 have:pe (cj 45)=some ([K2],WN):=j3
 rw[this] at c;cases c;dsimp only at a;split at a<;>try(cases a;done)
 have h0:kg (cj 45)=0:=j3
 rw[h0];exact⟨XU (X2 b f) a,λh=>by rw[show pM (cj 45)=false by kernel_rfl] at h;cases h⟩
end Sy
end
noncomputable section
set_option maxHeartbeats 0
noncomputable section
namespace Sy
open Go Go.Proofs
def A12:Ann:=let a:LO:=[Waa,(36871,.e K4<|.st [K3,Ti] [.st [K2] [.ow h],.di])];let b:LO:=[Waa];let c:LS:=[rv,I',WaP];let d:LS:=[rv,I'];(.t<|.t<|.w (.t<|.w (.p [rv,iA] b [0] [(.r,u [rv] b []),(.x 0,u [rv] b [0])]<|.t<|.w (.w (.t<|.w (.p [rv,eL] b [0,3] [(.r,u [rv] b []),(.x 2,u [rv] b [0,3])] .o) .o) .o) .o) .o)<|.t<|.t<|.t<|.t<|.t<|.w (.t<|.w (.p [rv,I',Z'] a [5,6] [(.x 4,u d a [])]<|.t<|.cut [(.m,u d a [5,6,8])] [5,6,8] [] (.w (.t<|.w (.t<|.w (.p [rv,I',WaP,Wa5] a [5,6,8] [(.x 6,u c a [5,6,8])]<|.t<|.w (.w (.t<|.w (.p [rv,I',WaP,Wbc] a [5,6,8,10] [(.x 8,u c a [5,6,8,10])] .o) .o) .o) .o) .o)<|.t sd) .o) .o) .o) .o)
def Sv:M1:=λq c a0=>qS a0 λl1=>qc .gtr (jl l1) (Jn 64) (some<|D.st [D.st [D.sl []],J2])<|qy q (λv4=>ql a0 (Z v4 0) (qy q (λk=>qc .lss (Z k 0) J3 (qX a0 (Z v4 0) λF=>qi (Z k 0) 3 λA=>qf F A λG=>qC .gtr G (Jn 262144) λp=>qO p (qX a0 (Z v4 0) λH=>qi (Z k 0) 3 λB=>qf H B λI=>qh .lss I<|Jn<|-262144) (iR (0,[D.sl [],J1]))<|qj (Z k 0) λK=>iL [K,qW k 1,Z k 2])<|iR (1,[qW k 1,Z k 2])) [J0,qW v4 1,Z v4 2] λf=>if f.1=0 then(iR (0,[qW f.2 0,Z f.2 1])) else(qj (Z v4 0) λL=>iL [L,qW f.2 0,Z f.2 1]))<|iR (1,[qW v4 1,Z v4 2])) [J0,D.sl [],J0] λg=>if g.1=0 then(some<|D.st [D.st [qW g.2 0],Z g.2 1]) else(C c 47 [a0] λl=>C c 48 [l] λh=>qS h λu=>qt (bq (jl u) J0) (some<|D.st [D.st [D.sl []],Jn 120])<|qS h λE=>qc .gtr (jl E) (Jn 64) (some<|D.st [D.st [D.sl []],J2])<|qy q (λd=>ql l (Z d 0) (qb (qy q (λa=>ql h (Z a 1) (qy q (λb=>qX h (Z a 1) λM=>qf M 2 λN=>ql N (Z b 1) (qT (Z b 0) λx=>(qe x (some true)<|qX h (Z a 1) λO=>qf O 2 λP=>qX P (Z b 1) λQ=>D.truth<|bq Q<|Z d 0).bind λy=>qj (Z b 1) λR=>iL [D.bool y,R,qW b 2,Z b 3,qW b 4,Z b 5])<|iR (0,[Z b 0,qW b 2,Z b 3,qW b 4,Z b 5])) [Z a 0,J0,qW a 2,Z a 3,qW a 4,Z a 5] λi=>qj (Z a 1) λz=>iL [Z i.2 0,z,qW i.2 1,Z i.2 2,qW i.2 3,Z i.2 4])<|iR (0,[Z a 0,qW a 2,Z a 3,qW a 4,Z a 5])) [S,J0,qW d 1,Z d 2,qW d 3,Z d 4] λe=>qt (Z e.2 0) (qX l (Z d 0) λn=>qu (qV e.2 3) [n]<|some (0,[qW e.2 1,Z e.2 2,D.sl<|(qV e.2 3)++[n],Z e.2 4]))<|some (0,[qW e.2 1,Z e.2 2,qW e.2 3,Z e.2 4])) λj=>qj (Z d 0) λT=>iL [T,qW j.2 0,Z j.2 1,qW j.2 2,Z j.2 3])<|iR (0,[qW d 1,Z d 2,qW d 3,Z d 4])) [J0,qW g.2 0,Z g.2 1,D.sl [],J0] λm=>some<|D.st [D.st [qW m.2 2],Z m.2 3])
def A13:Ann:=us
def F13:M2:=λl c a0 a1=>qS a0 λl1=>qS a1 λi=>qt (nq (jl l1)<|jl i) (some S)<|qy l (λv4=>ql a0 (Z v4 0) (qX a0 (Z v4 0) λd=>qX a1 (Z v4 0) λe=>qt (nq d e) (iR (0,[S]))<|qj (Z v4 0) λf=>iL [f])<|iR (1,[])) [J0] λa=>qr a<|some bT
def F15:M1:=λl c a0=>Q a0 [0] λx1=>C c 12 [x1] λb=>Q b [1] λh=>qT (bq h J0) λe=>qA e (Q b [0,0] λi=>Q a0 [0] λj=>C c 13 [i,j] λg=>qz g) (some J3)<|Q b [1] λd=>some d
def A18:Ann:=.t<|.t<|.w (.t<|.w (.p [(1,.s K3 4097),(3,.ow K6),Wa5] [(4097,.k K3 1)] [8,9] [(.x 0,S1 [(3,.ow K6)])] eE) .o) .o
def F18:M1:=λl c a0=>Q a0 [0] λx1=>C c 45 [x1] λi=>qS i λk=>qy l (λv4=>qc .lss (Z v4 1) (jl k) (qX i (Z v4 1) λh=>Q h [0] λb=>Q h [1] λd=>Q a0 [0] λf=>C c 46 [f,h] λa=>qu (qV v4 0) [D.st [b,d,a]]<|qj (Z v4 1) λg=>iL [D.sl<|(qV v4 0)++[D.st [b,d,a]],g])<|iR (0,[qW v4 0])) [D.sl [],J0] λe=>some<|qW e.2 0
def F19:M1:=λl c a0=>Q a0 [0] λx1=>C c 48 [x1] λa=>some a
def L19:TT:=e1 19 Tryz.f189 F19 .leaf
def A32:Ann:=.t<|.t<|.t<|.t<|.t<|.t<|.t<|.cut [(.m,S1 [(5,.v K5),(6,.v K5)])] [] [] .o .o
def F32:M2:=λL c a0 a1=>C c 76 [a0] λr1=>qN r1 λu=>qA u (C c 76 [a1] λx=>qz x) (some J0)<|C c 76 [a0] λy=>qn y (some<|Jn<|-1)<|C c 76 [a1] λj=>qn j (some J1)<|Q a0 [1] λq=>Q a1 [1] λr=>qt (nq q r) (Q a0 [1] λs=>qt s (some<|Jn<|-1)<|some J1)<|C c 77 [a0] λk=>C c 77 [a1] λl=>qb (Q a0 [1] λt=>qt t (C c 77 [a1] λm=>C c 77 [a0] λn=>some (0,[m,n]))<|some (0,[k,l])) λa=>C c 78 [Z a.2 0,Z a.2 1] λo=>C c 78 [Z a.2 1,Z a.2 0] λp=>qt o (some<|Jn<|-1)<|qt p (some J1)<|some J0
def F34:M1:=λs c a0=>qc .geq a0 J0 (P .rem a0 (Jn 65536) λm=>P .quo a0 (Jn 65536) λn=>P .rem n (Jn 65536) λo=>P .quo a0 (Jn 4294967296) λp=>P .rem p (Jn 65536) λq=>P .quo a0 (Jn 281474976710656) λr=>C c 81 [S,D.sl [m,o,q,r]] λl=>some l)<|qj a0 λe=>(afP .neg e).bind λa=>P .rem a (Jn 65536) λf=>P .quo a (Jn 65536) λg=>P .rem g (Jn 65536) λh=>P .quo a (Jn 4294967296) λi=>P .rem i (Jn 65536) λj=>P .quo a (Jn 281474976710656) λk=>C c 82 [D.sl [f,h,j,k],D.sl [J1]] λb=>C c 81 [bT,b] λd=>some d
def A46:Ann:=let a:LO:=[Wat,U',(8197,.e K5<|.v K5)];let b:LO:=[Wat,U',(8197,.e K5<|.ow Ti)];let c:LO:=[Wat,U',(8197,.k K5 1)];let d:LS:=[Wab,gy,WbG];let e:LS:=[Wab,gy,ky];(.t<|.t<|.w (.t<|.w (.p [Wab,gy,WbG,(13,.i)] b [11,12] [(.x 0,u d b [])]<|.t<|.t<|.cut [(.m,u d b [11,12,13])] [11,12,13] [4098,4099] (.w (.t pI) .o) .o) .o)<|.t<|.t<|.w (.w (.regI [] 6<|.w (.t<|.t<|.w (.t<|.w (.p [Wab,gy,ky,(12,.v K5),(14,.i)] a [0,13] [(.x 0,u [ky] a [])]<|.t<|.t<|.cut [(.m,u e a [0,12,13,14])] [0,12,13,14] [4098,4099] Wbh .o) .o) .o) .o)<|.w (.loop ⟨[WbG,(8,.same<|.clo 299 [.ptr K5 8197 [],.ptr K2 4098 [],.ptr fe 4099 []]),(9,.ow Ti),Wa5],[Wat,U',(8197,.k K5 5)],[]⟩ [(.x 2,S1 [(9,.ow Ti)])]<|.t<|.t<|.regI [] 4<|.w (.t<|.t<|.w (.t<|.w (.p [Wab,gy,ky,(14,.i)] c [0,12,13] [(.x 0,u [ky] c [])]<|.t<|.t<|.cut [(.m,u e a [0,12,13,14])] [0,12,13,14] [4098,4099] Wbh .o) .o) .o) .o) .o) .o)
def F46:M2:=λs c a0 a1=>qS a0 λl1=>qy s (λg=>qc .lss (Z g 0) (jl l1) (qb (qX a0 (Z g 0) λx7=>Q a1 [0] λx8=>C c 101 [x8,x7] λr9=>Q a1 [1] λT=>qt (bq r9 T) (qu (qV g 1) [Z g 0]<|some (0,[D.sl<|(qV g 1)++[Z g 0]]))<|some (0,[qW g 1])) λL=>qj (Z g 0) λU=>iL [U,qW L.2 0])<|iR (0,[qW g 1])) [J0,D.sl []] λf=>qi J0 (List.length<|qV f.2 0) λI=>((qV f.2 0)[I]?).bind λV=>qi J0 (List.length<|qV f.2 0) λJ=>((qV f.2 0)[J]?).bind λn=>qy s (λa=>qc .lss (Z a 2) (Jn<|List.length<|qV f.2 0) (qb (qX (Z a 1) (Z a 2) λh=>qt (bq h n) (some (0,[Z a 0,Z a 3]))<|qc .lss (Z a 0) J0 (some (0,[h,Z a 3]))<|qX a0 h λW=>qX a0 n λX=>C c 103 [W,X] λj=>qX a0 (Z a 0) λY=>qX a0 n λu=>C c 103 [Y,u] λk=>Q a1 [0] λad=>C c 104 [ad,k,j] λo=>qC .lss o J0 λv=>qO v (qt (bq o J0) (C c 101 [j,j] λM=>C c 101 [k,k] λN=>qh .gtr M N)<|some false) (some (0,[h,Z a 3]))<|some (0,[Z a 0,Z a 3])) λp=>qj (Z a 2) λan=>iL [Z p.2 0,Z a 1,an,Z p.2 1])<|iR (0,[Z a 0,Z a 3])) [Jn<|-1,qW f.2 0,J0,qW f.2 0] λd=>qy s (λb=>qX (Z d.2 1) J0 λap=>qt (nq (Z b 1) ap) (qu (qV b 0) [Z b 1]<|qS (Z d.2 1) λK=>qy s (λe=>qc .lss (Z e 1) (jl K) (qb (qX (Z d.2 1) (Z e 1) λi=>qt (bq i<|Z b 1) (some (0,[Z e 0,Z d.2 1]))<|qc .lss (Z e 0) J0 (some (0,[i,Z d.2 1]))<|qX a0 i λax=>qX a0 (Z b 1) λaI=>C c 103 [ax,aI] λl=>qX a0 (Z e 0) λaO=>qX a0 (Z b 1) λa2=>C c 103 [aO,a2] λm=>Q a1 [0] λa3=>C c 104 [a3,m,l] λq=>qC .lss q J0 λE=>qO E (qt (bq q J0) (C c 101 [l,l] λO=>C c 101 [m,m] λP=>qh .gtr O P)<|some false) (some (0,[i,Z d.2 1]))<|some (0,[Z e 0,Z d.2 1])) λy=>qj (Z e 1) λa5=>iL [Z y.2 0,a5])<|iR (0,[Z e 0])) [Jn<|-1,J0] λR=>iL [D.sl<|(qV b 0)++[Z b 1],Z R.2 0])<|iR (0,[qW b 0])) [D.sl [V],Z d.2 0] λS=>some<|qW S.2 0
def A47:Ann:=let a:LS:=[Wa6,(5,.ow h),hC];(.t<|.t<|.w (.t<|.w (.p [Wa6,eL] [] [0] [(.x 0,S1 [Wa6])]<|.t<|.w (.w (.t<|.t<|.w (.t<|.w (.p [Wa6,(5,.ow h),hC,Wap] [] [0,4] [(.x 2,u [(5,.ow h),hC] [] [0,4])]<|.t<|.cut [(.m,u a [] [0,4,7])] [0,4,7] [] (.w (.w Wbi<|.cut [(.m,u a [] [0,4,7])] [0,4,7] [] .o sd) .o) .o) .o)<|.cut [(.m,u [(5,.ow h)] [] [0,4])] [0,4] [] .o .o) .o) .o) .o) .o)
def F47:M1:=λl c a0=>qy l (λv1=>ql a0 (Z v1 1) (qy l (λb=>qc .lss (Z b 3) (Jn<|List.length<|qV b 0) (qb (qX a0 (Z v1 1) λv=>qi (Z b 3) (List.length<|qV b 0) λo=>((qV b 0)[o]?).bind λw=>C c 105 [v,w] λs=>qb (qN (Z b 2) λi=>qA i (qt s (some true)<|qX a0 (Z v1 1) λx=>qi (Z b 3) (List.length<|qV b 0) λp=>((qV b 0)[p]?).bind λy=>D.truth<|bq x y) (qX a0 (Z v1 1) λf=>qu (qV b 1) [f]<|some (0,[qW b 0,D.sl<|(qV b 1)++[f],bT]))<|some (0,[qW b 0,qW b 1,Z b 2])) λa=>qi (Z b 3) (List.length<|qV a.2 0) λq=>((qV a.2 0)[q]?).bind λz=>qX a0 (Z v1 1) λA=>qt (nq z A) (qi (Z b 3) (List.length<|qV a.2 0) λr=>((qV a.2 0)[r]?).bind λg=>qu (qV a.2 1) [g]<|some (0,[qW a.2 0,D.sl<|(qV a.2 1)++[g],Z a.2 2]))<|some (0,[qW a.2 0,qW a.2 1,Z a.2 2])) λe=>qj (Z b 3) λB=>iL [qW e.2 0,qW e.2 1,Z e.2 2,B])<|iR (0,[qW b 1,Z b 2])) [qW v1 0,D.sl [],S,J0] λd=>qb (qn (Z d.2 1) (qX a0 (Z v1 1) λh=>qu (qV d.2 0) [h]<|some (0,[D.sl<|(qV d.2 0)++[h]]))<|some (0,[qW d.2 0])) λt=>qj (Z v1 1) λj=>iL [qW t.2 0,j])<|iR (0,[qW v1 0])) [D.sl [],J0] λu=>some<|qW u.2 0
def A48:Ann:=.t<|.t<|.w (.t<|.w (.p [Y',eL] [] [0] [(.x 0,S1 [Y'])]<|.t<|.w (.w (.t<|.w (.p [Y',Wac] [] [0,4] [(.x 2,u [Y'] [] [0,4])]<|.t<|.w (.w (.t<|.w (.p [Y',ky] [] [0,4,5] [(.x 4,u [Y'] [] [0,4,5])]<|.t<|.w (.w (.w (.g [] 14)<|.t<|.w (.p [Y',(7,.s h 49159),Z'] [(49159,.e h<|.v h)] [0,4,5,6] [(.x 6,u [Y'] [] [0,4,5,6])]<|.t<|.w (.w (.w WaQ<|.t<|.t<|.cut [(.m,u [Y',(7,.s h 49159)] [(49159,.k h 7)] [0,4,5,6,8])] [0,4,5,6,8] [49159] (.t ma) .o) .o) .o) .o) .o) .o) .o) .o) .o) .o) .o) .o) .o) .o
def F48:M1:=λL c a0=>qy L (λv1=>ql a0 (Z v1 1) (qj (Z v1 1) λI=>qy L (λv6=>ql a0 (Z v6 1) (qj (Z v6 1) λv=>qy L (λv11=>ql a0 (Z v11 1) (qX a0 (Z v1 1) λw=>qX a0 (Z v6 1) λx=>qX a0 (Z v11 1) λy=>C c 106 [w,x,y] λk=>qy L (λa=>qc .lss (Z a 1) J2 (qX a0 (Z v1 1) λz=>C c 107 [Z a 2,z] λb=>C c 108 [Z a 0,Z a 2] λl=>qb (qN l λf=>qa f (qz<|bq (Z a 2)<|D.st [J0,J0,J0]) λh=>qA h (C c 109 [a0,Z a 2,b] λm=>D.truth m) (C c 111 [a0,Z a 2,b] λn=>C c 110 [Z a 0,D.st [Z a 2,b,n]] λo=>some (0,[o]))<|some (0,[Z a 0])) λp=>C c 112 [D.st [J0,J0,J0],Z a 2] λq=>qj (Z a 1) λB=>iL [Z p.2 0,B,q])<|iR (0,[Z a 0])) [Z v11 0,J0,k] λr=>qj (Z v11 1) λj=>iL [Z r.2 0,j])<|iR (0,[Z v11 0])) [Z v6 0,v] λs=>qj (Z v6 1) λE=>iL [Z s.2 0,E])<|iR (0,[Z v6 0])) [Z v1 0,I] λt=>qj (Z v1 1) λF=>iL [Z t.2 0,F])<|iR (0,[Z v1 0])) [D.sl [],J0] λu=>some<|Z u.2 0
def A51:Ann:=.t pp
def F51:M2:=λl c a0 a1=>Q a0 [0] λx1=>Q a1 [0] λe=>C c 53 [x1,e] λa=>Q a0 [1] λf=>Q a1 [1] λg=>C c 53 [f,g] λb=>C c 52 [D.sl [a,b]] λd=>some d
def TCa:TT:=e1 12 Tryz.f169 Sv A12+(e2 13 Tryz.f170 F13 A13+e1 15 Tryz.f89 F15 .leaf)+(e1 18 Tryz.f183 F18 A18+(L19+L21))+(e2 32 Tryz.f59 F32 A32+(e1 34 Tryz.f60 F34 .leaf+L45)+(e2 46 Tryz.f260 F46 A46+e1 47 Tryz.f256 F47 A47+(e1 48 Tryz.f257 F48 A48+e2 51 Tryz.f302 F51 A51)))
end Sy
end
set_option maxHeartbeats 0
noncomputable section
namespace Sy
open Go Go.Proofs
def A52:Ann:=.t<|.t<|.w (.t<|.w (.p [Z'] [] [3,6,7] [(.r,S1 [(2,.i)]),(.x 0,u [] [] [3])] .o) .o) .o
def F52:M1:=λl c a0=>qS a0 λl1=>qy l (λb=>qc .lss (Z b 0) (jl l1) (qX a0 (Z b 0) λd=>qt (nq d J0) (iR (0,[d]))<|qj (Z b 0) λg=>iL [g])<|iR (1,[])) [J0] λa=>qr a<|some J0
def F53:M2:=λl c a0 a1=>C c 115 [a0] λr1=>C c 115 [a1] λa=>qt r1 (qt a (some J0)<|some<|Jn<|-1)<|qt a (some J1)<|qc .lss a0 a1 (some<|Jn<|-1)<|qc .gtr a0 a1 (some J1)<|some J0
def A54:Ann:=.t<|.t<|.cut [(.m,u [rz,(3,.v<|Ty.int .u64)] [mu] [0])] [0] [4098] .o .o
def F54:M1:=λl c a0=>qw .u64 a0 λx1=>qb (qc .lss a0 J0 ((afP .neg x1).bind λe=>some (0,[e]))<|some (0,[x1])) λb=>P .lss a0 J0 λf=>qw .u32 (Z b.2 0) λg=>P .shr (Z b.2 0) (D.int .u64 32) λh=>qw .u32 h λi=>C c 116 [f,D.st<|afN (List.replicate 16<|D.int .u32 0) [(0,g),(1,i)]] λa=>some a
def A57:Ann:=.t<|.t<|.t<|.w (.t<|.w sd .o) sd
def F57:M2:=λL c a0 a1=>C c 118 [D.sl [a0,a1]] λr1=>qn r1 (C c 119 [] λy=>some y)<|Q a0 [1] λz=>Q a1 [1] λA=>qt (bq z A) (Q a0 [2] λB=>Q a1 [2] λE=>C c 120 [B,E] λa=>qp a 0 λl=>qp a 1 λm=>qn m (C c 119 [] λe=>some e)<|Q a0 [1] λn=>C c 116 [n,l] λf=>some f)<|Q a0 [2] λo=>Q a1 [2] λp=>C c 121 [o,p] λg=>qc .geq g J0 (Q a0 [1] λq=>Q a0 [2] λr=>Q a1 [2] λs=>C c 122 [r,s] λh=>C c 116 [q,h] λi=>some i)<|Q a1 [1] λt=>Q a1 [2] λu=>Q a0 [2] λv=>C c 122 [u,v] λj=>C c 116 [t,j] λk=>some k
def A61:Ann:=let a:LO:=[mu,R',u3,(12293,.e OI<|.v OI)];(.t<|.t<|.t<|.w H'<|.w (.t<|.w (.p [rz,mg,vd,WaD,(24,.i)] a [7,23] [(.x 0,u [rz,mg,vd,WaD] a [])]<|.t<|.t<|.w (.w (.t<|.t<|.w (.t<|.w (.p [rz,mg,vd,WaD,(9,.v<|Ty.int .u64),(28,.i)] a [7,8,23,24,27] [(.x 2,u [rz,mg,vd,WaD,(9,.v<|Ty.int .u64)] a [7,8,23,24])]<|.t<|.t<|.w (.w g5 .o) .o) .o) .o) .o) .o) .o)<|.t ma)
def F61:M2:=λp c a0 a1=>(c 118 [D.sl [a0,a1]]).bind λr1=>qN r1 λN=>if N then((c 119 []).bind λO=>some O) else(Q a0 [2] λS=>(c 127 [S]).bind λa2=>Q a1 [2] λR=>(c 127 [R]).bind λM=>(qZ p (λb=>qC .lss (Z b 0) a2 λi=>if i then((qZ p (λa=>qC .lss (Z a 1) M λj=>if j then((D.idx (Z b 0) 16).bind λl=>Q a0 [2,l] λr=>(D.conv .u64 r).bind λs=>(D.idx (Z a 1) 16).bind λm=>Q a1 [2,m] λt=>(D.conv .u64 t).bind λu=>P .mul s u λv=>P .add (Z b 0) (Z a 1) λw=>qJ w 32 (Z a 2) λx=>(D.conv .u64 x).bind λy=>P .add v y λz=>P .add (Z a 0) z λh=>P .add (Z b 0) (Z a 1) λA=>(D.conv .u32 h).bind λB=>(D.idx A 32).bind λn=>(D.set (Z a 2) [n] B).bind λC=>P .shr h (D.int .u64 32) λE=>P .add (Z a 1) (Jn 1) λF=>iL [E,F,C]) else(iR (0,[Z a 0,Z a 2]))) [D.int .u64 0,Jn 0,Z b 1]).bind λf=>P .add (Z b 0) M λG=>(D.conv .u32<|Z f.2 0).bind λH=>(D.idx G 32).bind λo=>(D.set (Z f.2 1) [o] H).bind λI=>P .add (Z b 0) (Jn 1) λJ=>iL [J,I]) else(iR (0,[Z b 1]))) [Jn 0,aw OI]).bind λg=>(match (Z g.2 0) with
| D.st d=>(if decide (16+16<=d.length) then(qT (D.bool<|!(D.beq (D.st<|List.take 16<|List.drop 16 d)<|D.st<|afN (List.replicate 16<|D.int .u32 0) [])) λk=>
 if k then((c 119 []).bind λp=>
 some p) else(Q a0 [1] λK=>
 Q a1 [1] λL=>
(match (Z g.2 0) with
| D.st e=>(if decide (0+16<=e.length) then((c 116 [D.bool<|!(D.beq K L),D.st<|List.take 16<|List.drop 0 e]).bind λq=> some q) else none)
| _=>none))) else none)
| _=>none))
def A62:Ann:=.t<|.t<|.t<|.cut [(.m,u [rz,mg,g6,(5,.s z 12293)] [mu,R',P',(12293,.e z<|.v z)] [])] [] [4098,4099,4100] .o tf
def W2:M2:=λl c a0 a1=>C c 128 [a0] λr1=>qN r1 λk=>qo k (C c 128 [a1] λo=>qz o) λm=>qO m (C c 129 [a1] λp=>D.truth<|bq p J0) (C c 130 [] λf=>some f)<|C c 131 [a0,a1] λa=>qb (C c 129 [a1] λg=>qc .lss g J0 (C c 68 [a] λh=>some (0,[h]))<|some (0,[a])) λb=>C c 132 [a0,Z b.2 0] λi=>C c 132 [a1,Z b.2 0] λj=>some<|D.st [i,j]
def F68:M1:=λl c a0=>C c 118 [D.sl [a0]] λr1=>qn r1 (C c 119 [] λb=>some b)<|Q a0 [1] λe=>(afP .not e).bind λf=>Q a0 [2] λg=>C c 116 [f,g] λd=>some d
def A72:Ann:=.t mb
def F72:M2:=λl c a0 a1=>C c 135 [a0] λr1=>C c 134 [r1,a1] λa=>some a
def A73:Ann:=.t<|.w WaR<|.t<|.t<|.t<|.w (.w (.p [(2,.s be 4098),WaS,Wap] [(4098,.e be<|.v be),WaE] [] [(.x 1,S1 [Wap])]<|.w (.w pr<|.w (.g [] 16) tf) .o) .o) .o
def F73:M2:=λl c a0 a1=>C c 136 [a0] λr1=>C c 136 [a1] λE=>qN r1 λF=>qA F (qz E) (some J0)<|qn r1 (some<|Jn<|-1)<|qn E (some J1)<|qy l (λa=>Q (Z a 1) [0] λp=>Q (Z a 1) [1] λq=>C c 132 [p,q] λm=>Q (Z a 2) [0] λr=>Q (Z a 2) [1] λs=>C c 132 [r,s] λn=>C c 90 [m,n] λb=>qt (nq b J0) (P .mul (Z a 0) b λt=>iR (0,[t]))<|Q (Z a 1) [1] λu=>Q (Z a 1) [0] λv=>Q (Z a 1) [1] λw=>C c 137 [v,w] λd=>Q (Z a 2) [1] λx=>Q (Z a 2) [0] λy=>Q (Z a 2) [1] λz=>C c 137 [y,z] λe=>C c 129 [d] λf=>C c 129 [e] λg=>qT (bq f J0) λj=>qO j (D.truth<|bq g J0) (P .sub f g λA=>P .mul (Z a 0) A λB=>iR (0,[B]))<|(afP .neg<|Z a 0).bind λh=>iL [h,D.st [u,d],D.st [x,e]]) [J1,a0,a1] λo=>some<|Z o.2 0
def F74:M1:=λl c a0=>C c 54 [a0] λr1=>C c 138 [r1] λa=>some a
def W3:M1:=λl c a0=>C c 139 [a0] λr1=>qT r1 λb2=>(qe b2 (Q a0 [0] λb=>qz b)<|some false).bind λa=>some<|D.bool a
def A77:Ann:=.t<|.t<|.w (.t<|.w (.loop ⟨[Wad,(3,.ow Ti),eL],g',[]⟩ [(.x 0,S1 [(3,.ow Ti)])]<|.t<|.w Wae .o) .o) .o
def F77:M1:=λp c a0=>qy p (λv1=>qc .lss (Z v1 1) (Jn 16) (qi (Z v1 1) 16 λi=>Q a0 [2,i] λj=>P .rem j (D.int .u32 65536) λk=>qw .i64 k λg=>qi (Z v1 1) 16 λi8=>Q a0 [2,i8] λl=>P .quo l (D.int .u32 65536) λe=>qw .i64 e λa=>qu (qV v1 0) [g,a]<|qj (Z v1 1) λf=>iL [D.sl<|(qV v1 0)++[g,a],f])<|iR (0,[qW v1 0])) [D.sl [],J0] λb=>C c 140 [qW b.2 0] λd=>some d
def A78:Ann:=.t<|.w (.t<|.w (.p [Wac] [] [0,1] [(.r,sL),(.x 0,rk)] .o) .o) .o
def F78:M2:=λp c a0 a1=>qS a0 λl1=>qS a1 λj=>(D.max2 (jl l1)<|jl j).bind λm=>P .sub m J1 λn=>qy p (λa=>qc .geq (Z a 0) J0 (C c 141 [a0,Z a 0] λk=>C c 141 [a1,Z a 0] λl=>qt (nq k l) (C c 141 [a0,Z a 0] λe=>C c 141 [a1,Z a 0] λf=>P .lss e f λg=>iR (0,[g]))<|P .sub (Z a 0) J1 λh=>iL [h])<|iR (1,[])) [n] λb=>qr b<|some S
def A80:Ann:=wr
def F80:M1:=λl c a0=>Q a0 [0] λx1=>C c 34 [x1] λa=>Q a0 [1] λe=>C c 34 [e] λb=>Q a0 [2] λf=>C c 34 [f] λd=>some<|D.st [a,b,d]
def A81:Ann:=let a:LO:=[u3,(16390,.e z<|.v z)];let b:LS:=[vd,(6,.s z 16390)];(.t<|.t<|.t<|.t<|.w (.t<|.w (.p [vd,(6,.s z 16390),Wap] a [5] [(.x 0,u b a [])]<|.t<|.cut [(.m,u b a [5,7])] [5,7] [4100] (.w (.t<|.w (.g [] 15)<|.g [] 16) .o) .o) .o) .o)
def F81:M2:=λL c a0 a1=>C c 140 [a1] λr1=>qS r1 λE=>qc .gtr (jl E) (Jn 32) (C c 125 [] λG=>some G)<|qT a0 λB=>(qe B (qS r1 λF=>qh .gtr (jl F) J0)<|some false).bind λa=>qy L (λv10=>ql r1 (Z v10 0) (qb (P .rem (Z v10 0) J2 λj=>qt (bq j J0) (P .quo (Z v10 0) J2 λk=>P .quo (Z v10 0) J2 λl=>qi l 16 λd=>Q (Z v10 1) [2,d] λm=>qX r1 (Z v10 0) λn=>qw .u32 n λo=>P .add m o λp=>qi k 16 λe=>qs (Z v10 1) [2,e] p λq=>some (0,[q]))<|P .quo (Z v10 0) J2 λr=>P .quo (Z v10 0) J2 λs=>qi s 16 λf=>Q (Z v10 1) [2,f] λt=>qX r1 (Z v10 0) λu=>qw .u32 u λv=>P .mul v (D.int .u32 65536) λw=>P .add t w λx=>qi r 16 λg=>qs (Z v10 1) [2,g] x λy=>some (0,[y])) λh=>qj (Z v10 0) λz=>iL [z,Z h.2 0])<|iR (0,[Z v10 1])) [J0,D.st [S,D.bool a,aw aY]] λi=>some<|Z i.2 0
def A82:Ann:=.t<|.t<|.t<|.w (.t<|.w (.loop Wbb [(.x 0,WbP)] .o) .o) .o
def F82:M2:=λp c a0 a1=>qy p (λv1=>qS a0 λj=>qS a1 λk=>(D.max2 (jl j)<|jl k).bind λn=>qj n λo=>qc .lss (Z v1 2) o (C c 141 [a0,Z v1 2] λl=>C c 141 [a1,Z v1 2] λm=>P .add l m λf=>P .add f (Z v1 1) λa=>P .rem a (Jn 65536) λb=>qu (qV v1 0) [b]<|P .quo a (Jn 65536) λg=>qj (Z v1 2) λh=>iL [D.sl<|(qV v1 0)++[b],g,h])<|iR (0,[qW v1 0])) [D.sl [],J0,J0] λd=>C c 140 [qW d.2 0] λe=>some e
def F83:M1:=λl c a0=>C c 76 [a0] λr1=>qN r1 λa=>qO a (C c 77 [a0] λg=>qS g λf=>D.truth<|bq (jl f) J0) (some J0)<|Q a0 [1] λh=>qt h (some<|Jn<|-1)<|some J1
def A85:Ann:=.t<|.t<|.t<|.w (.t<|.w (.w (.w (.p [vd,Wac,Wap] [u3] [] [(.x 0,u [vd,Wac] [u3] [])] .o) .o) .o) .o)<|.t<|.t<|.t<|.w (.w (.p [vd,(10,.v K5),(11,.v K5)] [u3] [] [(.x 2,u [vd,(10,.v K5)] [u3] [])] .o) .o) .o
def W4:M2:=λL c a0 a1=>C c 124 [a0] λr1=>qp r1 0 λA=>qp r1 1 λB=>C c 124 [a1] λw=>qp w 0 λE=>qp w 1 λF=>qT B λx=>qA x (D.truth F) (qy L (λv10=>qt (nq (Z v10 1) J0) (P .rem (Z v10 0) (Z v10 1) λt=>iL [Z v10 1,t])<|iR (0,[Z v10 0])) [A,E] λj=>C c 34 [Z j.2 0] λk=>C c 142 [k] λl=>some l)<|C c 76 [a0] λm=>qN m λe=>qO e (C c 76 [a1] λn=>qz n) (C c 125 [] λo=>some o)<|C c 77 [a0] λp=>C c 77 [a1] λq=>qy L (λa=>qS (Z a 1) λi=>qc .gtr (jl i) J0 (C c 143 [Z a 0,Z a 1] λb=>qp b 0 λf=>qp b 1 λv=>iL [Z a 1,v])<|iR (0,[Z a 0])) [p,q] λr=>C c 81 [S,Z r.2 0] λs=>some s
def A87:Ann:=.t<|.t<|.t<|.t<|.t<|.w Wbi<|.cut [(.m,u [rz,mg,vd,(9,.v K5)] [mu,R',u3] [])] [] [4098,4099,4100] .o .o
def F87:M2:=λl c a0 a1=>C c 124 [a0] λr1=>qp r1 0 λN=>qp r1 1 λO=>C c 124 [a1] λI=>qp I 0 λJ=>qp I 1 λP=>qT O λK=>qa K (D.truth P) λM=>qA M (D.truth<|nq J J0) (C c 144 [N,J] λp=>C c 34 [p] λq=>some q)<|C c 76 [a0] λr=>qN r λf=>qo f (C c 76 [a1] λs=>qz s) λh=>qO h (C c 77 [a1] λt=>qS t λn=>D.truth<|bq (jl n) J0) (C c 125 [] λu=>some u)<|C c 77 [a0] λv=>C c 77 [a1] λw=>C c 143 [v,w] λa=>qp a 0 λb=>qp a 1 λB=>qb (Q a0 [1] λj=>Q a1 [1] λE=>qT (nq j E) λk=>qA k (qS B λo=>qh .gtr (jl o) J0) (C c 82 [b,D.sl [J1]] λx=>some (0,[x]))<|some (0,[b])) λy=>Q a0 [1] λG=>Q a1 [1] λH=>C c 81 [nq G H,Z y.2 0] λz=>some z
def WM:M1:=λl c a0=>Q a0 [0] λx1=>C c 76 [x1] λm=>qN m λj=>qO j (Q a0 [1] λo=>C c 76 [o] λn=>qz n) (some S)<|Q a0 [1] λg=>C c 83 [g] λd=>qC .gtr d J0 λa=>(qe a (Q a0 [0] λh=>Q a0 [1] λi=>C c 85 [h,i] λe=>C c 133 [] λf=>D.truth<|bq e f)<|some false).bind λb=>some<|D.bool b
def L88:TT:=e1 88 Tryz.f34 WM .leaf
def A90:Ann:=.t tf
def F90:M2:=λs c a0 a1=>C c 118 [D.sl [a0]] λr1=>C c 118 [D.sl [a1]] λp=>qN r1 λq=>qA q (qz p) (some J0)<|qn r1 (some<|Jn<|-1)<|qn p (some J1)<|Q a0 [1] λh=>Q a1 [1] λi=>qt (nq h i) (Q a0 [1] λj=>qt j (some<|Jn<|-1)<|some J1)<|Q a0 [1] λk=>qt k (Q a1 [2] λl=>Q a0 [2] λm=>C c 121 [l,m] λf=>some f)<|Q a0 [2] λn=>Q a1 [2] λo=>C c 121 [n,o] λg=>some g
def A91:Ann:=Wba
def F91:M2:=λl c a0 a1=>C c 148 [a0] λr1=>C c 148 [a1] λa=>C c 147 [r1,a] λb=>some b
def A96:Ann:=.t<|.w gi<|.cut [(.m,u [oj,(6,.s fe 4102),(7,.s h 8199)] [mv,(4102,.k fe 6),(8199,.e h<|.v h)] [])] [] [4099,4102] (.w gi<|.t WbE) vb
def F96:M3:=λs c a0 a1 a2=>C c 103 [a1,a0] λr1=>C c 103 [a2,a0] λm=>C c 117 [r1,m] λa=>qb (Q a [0] λo=>Q a [1] λp=>C c 152 [o,p] λn=>Q a [2] λq=>C c 152 [n,q] λd=>qc .gtr d J1 (Q a [0] λg=>P .quo g d λh=>Q a [1] λi=>P .quo i d λj=>Q a [2] λk=>P .quo k d λl=>some (0,[D.st [h,j,l]]))<|some (0,[a])) λb=>C c 101 [Z b.2 0,a0] λf=>some<|D.st [Z b.2 0,f]
def F97:M1:=λl c a0=>Q a0 [0] λx1=>(afP .neg x1).bind λa=>Q a0 [1] λb=>(afP .neg b).bind λd=>Q a0 [2] λe=>(afP .neg e).bind λf=>some<|D.st [a,d,f]
def A98:Ann:=.t<|.t<|.w (.t<|.w (.p [gy,(5,.b),Wbc] [U'] [9,10] [(.r,sL),(.x 0,S1 [(5,.b)])] .o) .o) .o
def F98:M2:=λl c a0 a1=>qS a0 λl1=>qy l (λb=>qc .lss (Z b 1) (jl l1) (qX a0 (Z b 1) λm=>Q a1 [0] λn=>C c 101 [n,m] λk=>Q a1 [1] λg=>qc .gtr k g (iR (0,[S]))<|qT (Z b 0) λe=>(qe e (Q a1 [1] λh=>D.truth<|bq k h)<|some false).bind λf=>qj (Z b 1) λi=>iL [D.bool f,i])<|iR (1,[Z b 0])) [bT,J0] λa=>qr a<|(afP .not<|Z a.2 0).bind λj=>some j
def Zj:Ann:=.t<|.w (.g [] 23) .o
def Sa:M2:=λl c a0 a1=>Q a0 [0,0] λx1=>Q a1 [0,0] λf=>C c 53 [x1,f] λb=>Q a0 [0,1] λg=>Q a1 [0,1] λh=>C c 53 [g,h] λd=>Q a0 [0,2] λi=>Q a1 [0,2] λj=>C c 53 [i,j] λe=>C c 52 [D.sl [b,d,e]] λa=>some a
def OE:M2:=λl c a0 a1=>Q a0 [0] λx1=>Q a1 [0] λd=>P .mul x1 d λe=>Q a0 [1] λf=>Q a1 [1] λg=>P .mul f g λh=>P .add e h λi=>Q a0 [2] λj=>Q a1 [2] λk=>P .mul j k λa=>P .add i a λb=>some b
def Zk:Ann:=.t mb
def Sc:M2:=λl c a0 a1=>C c 97 [a1] λr1=>C c 154 [a0,r1] λa=>some a
def TCb:TT:=e1 52 Tryz.f296 F52 A52+(e2 53 Tryz.f297 F53 .leaf+e1 54 Tryz.f58 F54 A54)+(e2 57 Tryz.f154 F57 A57+e2 61 Tryz.f142 F61 A61+(e2 62 Tryz.f100 W2 A62+e1 68 Tryz.f72 F68 .leaf))+(e2 72 Tryz.f29 F72 A72+(e2 73 Tryz.f28 F73 A73+e1 74 Tryz.f20 F74 .leaf)+(e1 76 Tryz.f90 W3 .leaf+e1 77 Tryz.f94 F77 A77+(e2 78 Tryz.f134 F78 A78+e1 80 Tryz.f191 F80 A80)))+(e2 81 Tryz.f135 F81 A81+(e2 82 Tryz.f136 F82 A82+e1 83 Tryz.f91 F83 .leaf)+(e2 85 Tryz.f92 W4 A85+e2 87 Tryz.f97 F87 A87+(L88+e2 90 Tryz.f57 F90 A90))+(e2 91 Tryz.f103 F91 A91+(e3 96 Tryz.f292 F96 A96+e1 97 Tryz.f23 F97 .leaf)+(e2 98 Tryz.f293 F98 A98+e2 100 Tryz.f295 Sa Zj+(e2 101 Tryz.f298 OE .leaf+e2 103 Tryz.f262 Sc Zk))))
end Sy
end
set_option maxHeartbeats 0
noncomputable section
namespace Sy
open Go Go.Proofs
def Zl:Ann:=.t<|.t<|.w (.t<|.w (.p [(7,.s h 8199),(14,.i)] [(8199,.k h 7)] [13] [(.r,S1 [ky]),(.x 0,rk)] .o) .o) .o
def Sd:M3:=λp c a0 a1 a2=>C c 117 [a1,a2] λr1=>qy p (λb=>qc .lss (Z b 0) J3 (qi (Z b 0) 3 λk=>qf a0 k λh=>qt (nq h J0) (qJ (Z b 0) 3 r1 λl=>C c 53 [l,J0] λd=>C c 53 [h,J0] λe=>P .mul d e λf=>iR (0,[f]))<|qj (Z b 0) λg=>iL [g])<|iR (1,[])) [J0] λa=>qr a<|some J0
def Se:M2:=λp c a0 a1=>Q a0 [0] λx1=>Q a1 [0] λj=>qt (nq x1 j) (Q a0 [0] λk=>Q a1 [0] λl=>P .lss k l λm=>some m)<|Q a0 [1] λn=>Q a1 [1] λo=>qt (nq n o) (Q a0 [1] λa=>Q a1 [1] λb=>P .lss a b λd=>some d)<|Q a0 [2] λe=>Q a1 [2] λf=>P .lss e f λg=>some g
def Zm:Ann:=.t sd
def Sf:M3:=λl c a0 a1 a2=>C c 112 [a1,a0] λr1=>C c 112 [a2,a0] λa=>C c 123 [r1,a] λb=>C c 80 [b] λd=>C c 155 [d] λe=>Q e [0] λf=>some f
def Sg:M2:=λl c a0 a1=>Q a0 [0] λx1=>Q a1 [0] λd=>P .mul x1 d λe=>Q a0 [1] λf=>Q a1 [1] λg=>P .mul f g λh=>P .add e h λi=>Q a0 [2] λj=>Q a1 [2] λk=>P .mul j k λa=>P .add i a λb=>some b
def Zn:Ann:=.t<|.w (.t<|.w (.p [oj,Wac] [mv] [0] [(.r,sL),(.x 0,rk)] Wa7) .o) .o
def Si:M2:=λl c a0 a1=>qy l (λv1=>ql a0 (Z v1 0) (qX a0 (Z v1 0) λf=>qf f 0 λg=>qt (bq g a1) (iR (0,[bT]))<|qj (Z v1 0) λb=>iL [b])<|iR (1,[])) [J0] λa=>qr a<|some S
def Zo:Ann:=.t<|.t<|.w (.t<|.w (.p [sP,(7,.b),Z'] [tk] [0,2] [(.r,S1 [hC]),(.x 0,S1 [(7,.b)])] Wa7) .o) .o
def Sj:M3:=λl c a0 a1 a2=>qy l (λv1=>ql a0 (Z v1 1) (qX a0 (Z v1 1) λj=>C c 107 [a1,j] λh=>qc .gtr h a2 (iR (0,[S]))<|qT (Z v1 0) λd=>(qe d (some true)<|qh .lss h a2).bind λe=>qj (Z v1 1) λg=>iL [D.bool e,g])<|iR (1,[Z v1 0])) [S,J0] λa=>qr a<|some<|Z a.2 0
def Zp:Ann:=let a:LS:=[(3,.s K6 4099),(5,.ow K6),hC];(.t<|.t<|.t<|.w (.t<|.w (.p [(3,.s K6 4099),(5,.ow K6),hC,Wap] WaO [0] [(.x 0,u a WaO [])]<|.t<|.w (.w (.w gi<|.cut [(.m,u a WaO [0,7])] [0,7] [4099] .o .o) .o) .o) .o)<|.cut [(.m,S1 [(5,.ow K6)])] [] [] .o .o)
def Sl:M2:=λl c a0 a1=>qy l (λv1=>ql a0 (Z v1 2) (Q a1 [0] λm=>qX a0 (Z v1 2) λn=>qf n 0 λo=>C c 105 [m,o] λi=>qb (qN (Z v1 1) λe=>qA e (D.truth i) (qu (qV v1 0) [a1]<|some (0,[D.sl<|(qV v1 0)++[a1],bT]))<|some (0,[qW v1 0,Z v1 1])) λb=>qX a0 (Z v1 2) λd=>qu (qV b.2 0) [d]<|qj (Z v1 2) λk=>iL [D.sl<|(qV b.2 0)++[d],Z b.2 1,k])<|iR (0,[qW v1 0,Z v1 1])) [D.sl [],S,J0] λa=>qb (qn (Z a.2 1) (qu (qV a.2 0) [a1]<|some (0,[D.sl<|(qV a.2 0)++[a1]]))<|some (0,[qW a.2 0])) λj=>some<|qW j.2 0
def Zq:Ann:=let a:LS:=[sP,Wbj,Z'];let b:LS:=[sP,Wbj,Wbc];(.t<|.t<|.t<|.w (.t<|.w (.p [sP,Wbj,Z',(9,.i)] [tk] [0,2] [(.x 0,u a [tk] [0,2])]<|.t<|.cut [(.m,u a [tk] [0,2,9])] [0,2,9] [4100] (.w tf .o) .o) .o)<|.t<|.w (.w (.p a [tk] [0,2,10] [(.x 2,S1 [Wbj])]<|.t<|.w (.t<|.t<|.w (.t<|.w (.p [sP,Wbj,Wbc,(12,.i)] [tk] [0,2,8,10] [(.x 4,u b [tk] [0,2,10])]<|.t<|.cut [(.m,u b [tk] [0,2,8,10,12])] [0,2,8,10,12] [4100] (.w WaA .o) .o) .o) .o) .o) .o) .o)
def Sn:M3:=λq c a0 a1 a2=>qy q (λv1=>qL a0 (Z v1 2) λG=>qA G (qh .lss (Z v1 1) J0) (qb (qX a0 (Z v1 2) λx=>C c 107 [a1,x] λt=>qt (bq t a2) (some (0,[qW v1 0,Z v1 2]))<|some (0,[qW v1 0,Z v1 1])) λe=>qj (Z v1 2) λy=>iL [qW e.2 0,Z e.2 1,y])<|iR (0,[qW v1 0,Z v1 1])) [D.sl [],Jn<|-1,J0] λd=>qy q (λa=>qS a0 λs=>qc .leq (Jn<|List.length<|qV a 0) (jl s) (qu (qV a 0) [Z a 1]<|qy q (λv20=>qL a0 (Z v20 2) λi=>qA i (qh .lss (Z v20 1) J0) (qb (qT (nq (Z v20 2)<|Z a 1) λl=>qA l (qX a0 (Z v20 2) λA=>C c 107 [a1,A] λu=>D.truth<|bq u a2) (qX a0 (Z a 1) λB=>qX a0 (Z v20 2) λh=>C c 156 [a0,a1,a2,B,h] λv=>qt v (some (0,[qW v20 0,Z v20 2]))<|some (0,[qW v20 0,Z v20 1]))<|some (0,[qW v20 0,Z v20 1])) λf=>qj (Z v20 2) λE=>iL [qW f.2 0,Z f.2 1,E])<|iR (0,[qW v20 0,Z v20 1])) [D.sl<|(qV a 0)++[Z a 1],Jn<|-1,J0] λb=>qT (bq (Z b.2 1)<|Z d.2 1) λp=>qO p (qh .lss (Z b.2 1) J0) (iR (0,[qW b.2 0]))<|iL [qW b.2 0,Z b.2 1])<|iR (0,[qW a 0])) [qW d.2 0,Z d.2 1] λw=>some<|qW w.2 0
def Sp:M2:=λl c a0 a1=>Q a0 [0] λx1=>Q a1 [0] λa=>P .sub x1 a λb=>Q a0 [1] λd=>Q a1 [1] λe=>P .sub d e λf=>Q a0 [2] λg=>Q a1 [2] λh=>P .sub g h λi=>some<|D.st [b,f,i]
def Sq:M1:=λl c a0=>some<|nq a0 a0
def Zr:Ann:=.t sd
def Sr:M2:=λl c a0 a1=>qT a0 λb1=>(qe b1 (D.truth<|nq a1<|D.st<|afN (List.replicate 16<|D.int .u32 0) [])<|some false).bind λb2=>some<|D.st [S,D.bool b2,a1]
def Ss:M2:=λL c a0 a1=>Q a0 [1] λx1=>Q a1 [2] λn=>P .mul x1 n λo=>Q a0 [2] λp=>Q a1 [1] λq=>P .mul p q λr=>P .sub o r λs=>Q a0 [2] λt=>Q a1 [0] λu=>P .mul t u λa=>Q a0 [0] λb=>Q a1 [2] λd=>P .mul b d λe=>P .sub a e λf=>Q a0 [0] λg=>Q a1 [1] λh=>P .mul g h λi=>Q a0 [1] λj=>Q a1 [0] λk=>P .mul j k λl=>P .sub i l λm=>some<|D.st [s,f,m]
def Zs:Ann:=.t<|.w (.t<|.w (.p [Wap] [] [5,6] [(.r,om),(.x 0,rk)] .o) .o) .o
def Kv:M1:=λp c a0=>qS a0 λl1=>qy p (λf=>qc .lss (Z f 0) (jl l1) (qX a0 (Z f 0) λi=>Q i [0] λl=>qT l λk=>qO k (C c 167 [i] λe=>qz e) (iR (0,[S]))<|qj (Z f 0) λh=>iL [h])<|iR (1,[])) [J0] λa=>qr a<|some bT
def Su:M0:=λl c=>some<|D.st [bT,S,aw aY]
def Zt:Ann:=.t<|.t<|.t<|.w (.t<|.w (.p [hJ,WbH,tI,WbI,M',(9,.i)] [mB,Wbq,ri,WaF] [] [(.x 0,k7)] Wal) .o) .o
def Sw:M2:=λp c a0 a1=>qy p (λv1=>qc .lss (Z v1 1) (Jn 16) (qJ (Z v1 1) 16 a0 λk=>qw .u64 k λl=>qJ (Z v1 1) 16 a1 λm=>qw .u64 m λn=>P .add l n λe=>P .add (Z v1 0) e λb=>qw .u32 b λf=>qi (Z v1 1) 16 λd=>qs (Z v1 2) [d] f λg=>P .shr b (D.int .u64 32) λh=>qj (Z v1 1) λi=>iL [h,i,g])<|iR (0,[Z v1 0,Z v1 2])) [D.int .u64 0,J0,aw aY] λa=>some<|D.tup [Z a.2 1,bq (Z a.2 0)<|D.int .u64 0]
def Zu:Ann:=.t<|.w (.t<|.w (.p [hJ,WbH,Wac] [mB,Wbq] [] [(.r,Wau),(.x 0,rk)]<|.t<|.w (.w (.w WaQ<|.w tf .o) .o) .o) .o) .o
def Sx:M2:=λl c a0 a1=>qy l (λv1=>qc .geq (Z v1 0) J0 (qJ (Z v1 0) 16 a0 λi=>qJ (Z v1 0) 16 a1 λj=>qt (nq i j) (qJ (Z v1 0) 16 a0 λd=>qJ (Z v1 0) 16 a1 λe=>C c 168 [d,e] λb=>iR (0,[b]))<|P .sub (Z v1 0) J1 λf=>iL [f])<|iR (1,[])) [Jn 15] λa=>qr a<|some J0
def Zv:Ann:=.t<|.t<|.t<|.w (.t<|.w (.p [hJ,WbH,tI,Waf,K',(9,.i)] [mB,Wbq,ri,fa] [] [(.x 0,WbJ)] Wal) .o) .o
def SA:M2:=λp c a0 a1=>qy p (λv1=>qc .lss (Z v1 1) (Jn 16) (qJ (Z v1 1) 16 a0 λk=>qw .u64 k λl=>qJ (Z v1 1) 16 a1 λm=>qw .u64 m λn=>P .sub l n λe=>P .sub e (Z v1 0) λa=>qw .u32 a λf=>qi (Z v1 1) 16 λb=>qs (Z v1 2) [b] f λg=>P .shr a (D.int .u64 63) λh=>qj (Z v1 1) λi=>iL [h,i,g])<|iR (0,[Z v1 2])) [D.int .u64 0,J0,aw aY] λd=>some<|Z d.2 0
def SB:M2:=λL c a0 a1=>Q a0 [1] λx1=>Q a1 [2] λn=>P .mul x1 n λo=>Q a0 [2] λp=>Q a1 [1] λq=>P .mul p q λr=>P .sub o r λs=>Q a0 [2] λt=>Q a1 [0] λu=>P .mul t u λa=>Q a0 [0] λb=>Q a1 [2] λd=>P .mul b d λe=>P .sub a e λf=>Q a0 [0] λg=>Q a1 [1] λh=>P .mul g h λi=>Q a0 [1] λj=>Q a1 [0] λk=>P .mul j k λl=>P .sub i l λm=>some<|D.st [s,f,m]
def Zw:Ann:=.t<|.t<|.t<|.w (.t<|.w (.loop ⟨[Wad,Wac],g',[]⟩ [(.r,S1 [(2,.i),WbK]),(.x 0,⟨[Wad],g',[]⟩)] .o) .o) .o
def OF:M1:=λs c a0=>C c 76 [a0] λr1=>qN r1 λr=>qO r (Q a0 [2,1] λu=>qh .geq u<|D.int .u32 1073741824) (some<|D.tup [J0,S])<|qy s (λh=>qc .lss (Z h 0) (Jn 16) (qi (Z h 0) 16 λg=>Q a0 [2,g] λi=>qt (nq i<|D.int .u32 0) (iR (0,[J0,S]))<|qj (Z h 0) λj=>iL [j])<|iR (1,[])) [J2] λa=>if a.1=0 then(some<|D.tup [Z a.2 0,Z a.2 1]) else(Q a0 [2,1] λk=>qw .i64 k λl=>P .mul l (Jn 4294967296) λm=>Q a0 [2,0] λn=>qw .i64 n λo=>P .add m o λb=>Q a0 [1] λp=>qt p ((afP .neg b).bind λq=>some<|D.tup [q,bT])<|some<|D.tup [b,bT])
def aa1:M0:=λl c=>some<|D.st [bT,S,aw aY]
def Zx:Ann:=.t<|.t<|.t<|.w (.t<|.w (.loop Wbb [(.x 0,WbP)]<|.t<|.w (.w (.w D'<|.t<|.cut [(.m,u [(5,.ow Ti),ky,Z'] [] [0,1,7])] [0,1,7] [] .o .o) .o) .o) .o) .o
def SC:M2:=λp c a0 a1=>qy p (λv1=>ql a0 (Z v1 2) (qX a0 (Z v1 2) λk=>C c 141 [a1,Z v1 2] λj=>P .sub k j λl=>P .sub l (Z v1 1) λb=>qb (qc .lss b J0 (P .add b (Jn 65536) λg=>some (0,[qW v1 0,J1,g]))<|some (0,[qW v1 0,J0,b])) λa=>qu (qV a.2 0) [Z a.2 2]<|qj (Z v1 2) λh=>iL [D.sl<|(qV a.2 0)++[Z a.2 2],Z a.2 1,h])<|iR (0,[qW v1 0])) [D.sl [],J0,J0] λe=>C c 140 [qW e.2 0] λf=>some f
def Zy:Ann:=.t<|.t<|.w (.w (.p [(1,.s aY 4097),iA] [(4097,.k aY 1)] [] [(.x 0,S1 [iA])] .o) .o) .o
def SD:M1:=λl c a0=>qy l (λv1=>qC .gtr (Z v1 0) J0 λb=>qA b (P .sub (Z v1 0) J1 λf=>qJ f 16 a0 λg=>D.truth<|bq g<|D.int .u32 0) (P .sub (Z v1 0) J1 λh=>iL [h])<|iR (0,[Z v1 0])) [Jn 16] λa=>some<|Z a.2 0
def EV:M1:=λl c a0=>Q a0 [0] λx1=>qN x1 λa=>(qe a (C c 167 [a0] λd=>D.truth d)<|some false).bind λb=>some<|D.bool b
def SE:M1:=λl c a0=>C c 118 [D.sl [a0]] λr1=>qN r1 λa=>qO a (Q a0 [2] λf=>D.truth<|bq f<|D.st<|afN (List.replicate 16<|D.int .u32 0) []) (some J0)<|Q a0 [1] λg=>qt g (some<|Jn<|-1)<|some J1
def SF:M0:=λl c=>C c 119 [] λr1=>C c 169 [] λa=>some<|D.st [r1,a]
def Zz:Ann:=.t<|.t<|.w (.t<|.w (.w (.g [] 21)<|.w (.w (.p [vd,(5,.v<|Ty.int .u64),K'] [u3] [] [(.x 0,u [vd,(5,.v<|Ty.int .u64)] [u3] [])] Wba) .o) .o) .o)<|.w (.w WaQ<|.t<|.w Wba .o) .o
def SG:M2:=λp c a0 a1=>C c 118 [D.sl [a0,a1]] λr1=>qn r1 (C c 119 [] λL=>some L)<|Q a0 [2] λO=>C c 127 [O] λM=>qC .leq M J2 λK=>qA K (Q a1 [2] λh=>C c 127 [h] λj=>qh .leq j J2) (Q a0 [2,1] λq=>qw .u64 q λr=>P .shl r (D.int .u64 32) λs=>Q a0 [2,0] λt=>qw .u64 t λu=>P .or s u λv=>Q a1 [2,1] λw=>qw .u64 w λx=>P .shl x (D.int .u64 32) λy=>Q a1 [2,0] λz=>qw .u64 z λA=>P .or y A λB=>qy p (λa=>qt (nq (Z a 1)<|D.int .u64 0) (P .rem (Z a 0) (Z a 1) λf=>iL [Z a 1,f])<|iR (0,[Z a 0])) [v,B] λd=>qw .u32 (Z d.2 0) λE=>P .shr (Z d.2 0) (D.int .u64 32) λF=>qw .u32 F λG=>C c 116 [S,D.st<|afN (List.replicate 16<|D.int .u32 0) [(0,E),(1,G)]] λk=>some k)<|Q a0 [2] λH=>Q a1 [2] λb=>qt (nq b<|D.st<|afN (List.replicate 16<|D.int .u32 0) []) (C c 170 [H,b] λe=>qp e 0 λN=>qp e 1 λI=>C c 116 [S,b] λl=>C c 116 [S,I] λm=>C c 131 [l,m] λn=>some n)<|C c 171 [a0] λo=>some o
def Kw:M2:=λl c a0 a1=>C c 172 [a0,a1] λr1=>qp r1 0 λa=>qp r1 1 λb=>some a
def SH:M0:=λl c=>C c 34 [J1] λr1=>some r1
def abB:TT:=e0 133 Tryz.f93 SH .leaf
def ZA:Ann:=.t<|.t<|.w (.t<|.w (.p [(2,.s oD 4098),(3,.s oD 4099),g6,(5,.s be 8197),Z'] [(4098,.k oD 2),(4099,.k oD 3),P',(8197,.e be<|.v be)] [] [(.x 0,u [g6,(5,.s be 8197)] [P',(8197,.e be<|.v be)] [])] X') .o) .o
def SI:M2:=λl c a0 a1=>C c 74 [J0] λr1=>qy l (λa=>qc .lss (Z a 0) J3 (qJ (Z a 0) 3 a0 λh=>qJ (Z a 0) 3 a1 λi=>C c 174 [h,i] λg=>C c 173 [Z a 1,g] λb=>qj (Z a 0) λe=>iL [e,b])<|iR (0,[Z a 1])) [J0,r1] λd=>some<|Z d.2 0
def TCc:TT:=e3 104 Tryz.f300 Sd Zl+(e2 105 Tryz.f285 Se .leaf+e3 106 Tryz.f286 Sf Zm)+(e2 107 Tryz.f287 Sg .leaf+e2 108 Tryz.f288 Si Zn+(e3 109 Tryz.f289 Sj Zo+e2 110 Tryz.f290 Sl Zp))+(e3 111 Tryz.f291 Sn Zq+(e2 112 Tryz.f51 Sp .leaf+e1 115 Tryz.f317 Sq .leaf)+(e2 116 Tryz.f133 Sr Zr+e2 117 Tryz.f313 Ss .leaf+(e1 118 Tryz.f55 Kv Zs+e0 119 Tryz.f153 Su .leaf)))+(e2 120 Tryz.f237 Sw Zt+(e2 121 Tryz.f132 Sx Zu+e2 122 Tryz.f238 SA Zv)+(e2 123 Tryz.f311 SB .leaf+e1 124 Tryz.f172 OF Zw+(e0 125 Tryz.f174 aa1 .leaf+e2 126 Tryz.f179 SC Zx))+(e1 127 Tryz.f54 SD Zy+e1 128 Tryz.f75 EV .leaf+(e1 129 Tryz.f76 SE .leaf+e0 130 Tryz.f71 SF .leaf)+(e2 131 Tryz.f77 SG Zz+e2 132 Tryz.f79 Kw .leaf+(abB+e2 134 Tryz.f81 SI ZA))))
end Sy
end
set_option maxHeartbeats 0
noncomputable section
namespace Sy
open Go Go.Proofs
def ZB:Ann:=wr
def SJ:M1:=λl c a0=>Q a0 [0] λx1=>C c 74 [x1] λa=>Q a0 [1] λe=>C c 74 [e] λb=>Q a0 [2] λf=>C c 74 [f] λd=>some<|D.st [a,b,d]
def Ct:M1:=λs c a0=>Q a0 [0] λx1=>C c 128 [x1] λm=>qT m λj=>qa j (Q a0 [1] λp=>C c 128 [p] λn=>D.truth n) λl=>qa l (Q a0 [1] λq=>C c 129 [q] λo=>qh .gtr o J0) λb=>(qe b (Q a0 [0] λh=>Q a0 [1] λi=>C c 131 [h,i] λe=>C c 169 [] λf=>D.truth<|bq e f)<|some false).bind λd=>some<|D.bool d
def SK:M2:=λl c a0 a1=>C c 172 [a0,a1] λr1=>qp r1 0 λb=>qp r1 1 λa=>some a
def ZC:Ann:=.t Wao
def SL:M1:=λl c a0=>C c 169 [] λr1=>C c 62 [a0,r1] λa=>some a
def ZD:Ann:=.t<|.t<|.w (.t<|.w (.loop ⟨[Wad,WbK,eL],g',[]⟩ [(.x 0,⟨[Wad,WbK],g',[]⟩)] .o) .o) .o
def Kx:M1:=λs c a0=>qy s (λv1=>qc .lss (Z v1 1) (Jn 16) (qT (Z v1 0) λn=>(qe n (qi (Z v1 1) 16 λp=>Q a0 [2,p] λq=>D.truth<|bq q<|D.int .u32 0)<|some false).bind λo=>qj (Z v1 1) λr=>iL [D.bool o,r])<|iR (0,[Z v1 0])) [bT,J0] λl=>Q a0 [0] λg=>qt g (qT (Z l.2 0) λb=>(qe b (Q a0 [1] λh=>qz h)<|some false).bind λd=>some<|D.bool d)<|qN (Z l.2 0) λe=>(qe e (some true)<|Q a0 [1] λj=>qz j).bind λf=>some<|D.bool f
def ZE:Ann:=.t<|.t<|.w (.w (.p [iA] [] [0] [(.x 0,u [iA] [] [0])] .o) .o) .o
def SM:M1:=λp c a0=>qS a0 λl1=>qy p (λa=>qC .gtr (Z a 0) J0 λi=>qA i (P .sub (Z a 0) J1 λk=>qX a0 k λl=>D.truth<|bq l J0) (P .sub (Z a 0) J1 λh=>iL [h])<|iR (0,[Z a 0])) [jl l1] λg=>qS a0 λe=>(D.natOf<|Z g.2 0).bind λd=>(D.cut e 0 d).bind λf=>some<|D.sl f
def SN:M2:=λl c a0 a1=>ql a0 a1 (qX a0 a1 λb=>some b)<|some J0
def SO:M1:=λl c a0=>C c 76 [a0] λr1=>qn r1 (C c 125 [] λb=>some b)<|C c 77 [a0] λd=>C c 81 [S,d] λe=>some e
def ZF:Ann:=let a:LS:=[War,Wbc,(12,.v K5)];(.t<|.t<|.t<|.w WaB<|.t<|.w (.t<|.w (.p [War,(9,.v K5),Wa5] Wam [0,1,7,8] [(.x 0,u [War,(9,.v K5)] Wam [])]<|.t<|.w (.w (.t<|.t<|.t<|.w (.w (.p a Wam [0,1,7,8,9,10] [(.x 2,u a Wam [0,1,7,8,9,10])] .o) .o) .o) .o) .o) .o)<|.w (.g [6] 5) .o)
def SP:M2:=λl c a0 a1=>qS a0 λl1=>(D.natOf<|jl l1).bind λJ=>if J<=1073741824 then(qS a1 λh=>P .sub (jl h) J1 λK=>qX a1 K λM=>P .mul M (Jn 65536) λN=>P .sub (jl h) J2 λO=>C c 175 [a1,O] λo=>P .add N o λx=>qS a0 λn=>P .sub (jl n) J1 λy=>qy l (λa=>qc .geq (Z a 1) J0 (qX a0 (Z a 1) λj=>qS (Z a 0) λg=>if List.length [j]+g.length<=1073741824 then(C c 140 [D.sl<|[j]++g] λd=>C c 175 [d,jl h] λp=>P .mul p (Jn 4294967296) λz=>P .sub (jl h) J1 λA=>C c 175 [d,A] λq=>P .mul q (Jn 65536) λB=>P .add z B λS=>P .sub (jl h) J2 λE=>C c 175 [d,E] λr=>P .add S r λF=>P .quo F x λG=>(D.min2 (Jn 65535) G).bind λk=>C c 146 [a1,D.sl [k]] λs=>qy l (λb=>C c 78 [d,Z b 1] λt=>qt t (P .sub (Z b 0) J1 λH=>C c 126 [Z b 1,a1] λu=>iL [H,u,qW b 2])<|iR (0,[Z b 0,Z b 1,qW b 2])) [k,s,qW a 2] λe=>qi (Z a 1) (List.length<|qV e.2 2) λf=>((qV e.2 2)[f]?).bind λL=>C c 126 [d,Z e.2 1] λv=>P .sub (Z a 1) J1 λI=>iL [v,I,D.sl<|List.set (qV e.2 2) f<|Z e.2 0]) else none)<|iR (0,[Z a 0,qW a 2])) [D.sl [],y,D.sl<|List.replicate J J0] λi=>C c 140 [qW i.2 1] λw=>some<|D.tup [w,Z i.2 0]) else none
def ZG:Ann:=.t<|.t<|.cut [(.m,S1 [Wac])] [] [] .o .o
def SQ:M2:=λl c a0 a1=>P .quo a0 a1 λx1=>qb (P .rem a0 a1 λf=>qT (nq f J0) λa=>qA a (P .lss a0 J0 λg=>P .lss a1 J0 λh=>D.truth<|nq g h) (P .sub x1 J1 λi=>some (0,[i]))<|some (0,[x1])) λe=>some<|Z e.2 0
def ZH:Ann:=let a:LS:=[gp];(.t<|.t<|.w (.t<|.w (.p [gp,ky] i5 [0,1] [(.x 0,u a i5 [])]<|.t<|.w (.w (.w (.t<|.w (.p [gp,Wap] i5 [0,1,6] [(.x 2,u a i5 [0,1,6])]<|.t<|.w (.w (.g [] 21) .o) .o) .o)<|.t<|.t<|.w (.p [gp,Z',(9,.i)] i5 [0,1,6] [(.x 4,u a i5 [0,1,6])] .o) .o) .o) .o) .o)<|.w (.g [5] 3) .o)
def SR:M2:=λL c a0 a1=>qS a0 λl1=>qS a1 λA=>P .add (jl l1) (jl A) λf=>qj f λF=>(D.natOf F).bind λy=>if y<=1073741824 then(qy L (λv6=>ql a0 (Z v6 0) (qy L (λv10=>ql a1 (Z v10 0) (P .add (Z v6 0) (Z v10 0) λl=>P .add (Z v6 0) (Z v10 0) λm=>qi m (List.length<|qV v10 1) λi16=>((qV v10 1)[i16]?).bind λn=>qX a0 (Z v6 0) λo=>qX a1 (Z v10 0) λp=>P .mul o p λq=>P .add n q λr=>qi l (List.length<|qV v10 1) λa=>((qV v10 1)[a]?).bind λB=>qj (Z v10 0) λs=>iL [s,D.sl<|List.set (qV v10 1) a r])<|iR (0,[qW v10 1])) [J0,qW v6 1] λh=>qy L (λv30=>qc .lss (Z v30 1) (Jn<|List.length<|qV v30 2) (qi (Z v30 1) (List.length<|qV v30 2) λg=>((qV v30 2)[g]?).bind λt=>P .add t (Z v30 0) λd=>P .rem d (Jn 65536) λu=>qi (Z v30 1) (List.length<|qV v30 2) λb=>((qV v30 2)[b]?).bind λE=>P .quo d (Jn 65536) λv=>qj (Z v30 1) λw=>iL [v,w,D.sl<|List.set (qV v30 2) b u])<|iR (0,[qW v30 2])) [J0,J0,qW h.2 0] λi=>qj (Z v6 0) λx=>iL [x,qW i.2 0])<|iR (0,[qW v6 1])) [J0,D.sl<|List.replicate y J0] λj=>C c 140 [qW j.2 0] λk=>some k) else none
def ZI:Ann:=.t<|.t<|.w (.t<|.w (.p [WaT,(3,.s kK 4099),vd,tp,Z'] [(4098,.k kK 2),(4099,.k kK 3),u3,rI] [] [(.x 0,u [vd,tp] [u3,rI] [])] X') .o) .o
def SS:M2:=λl c a0 a1=>C c 54 [J0] λr1=>qy l (λa=>qc .lss (Z a 0) J3 (qJ (Z a 0) 3 a0 λh=>qJ (Z a 0) 3 a1 λi=>C c 61 [h,i] λg=>C c 57 [Z a 1,g] λb=>qj (Z a 0) λe=>iL [e,b])<|iR (0,[Z a 1])) [J0,r1] λd=>some<|Z d.2 0
def ZJ:Ann:=.t<|.w (.t<|.w (.p [WaT,ky] Wbr [5] [(.x 0,u [WaT] Wbr [])] .o) .o) .o
def ST:M1:=λl c a0=>qy l (λv1=>qc .lss (Z v1 0) J3 (qi (Z v1 0) 3 λd=>qf a0 d λg=>C c 54 [g] λf=>qi (Z v1 0) 3 λe=>qs (Z v1 1) [e] f λh=>qj (Z v1 0) λi=>iL [i,h])<|iR (0,[Z v1 1])) [J0,D.st [D.st [S,S,aw aY],D.st [S,S,aw aY],D.st [S,S,aw aY]]] λa=>some<|Z a.2 0
def ZL:Ann:=.t<|.w (.w (.loop Wbk [(.x 0,S1 [(0,.i)])] Wba) .o) .o
def OG:M2:=λl c a0 a1=>qy l (λv1=>qt (nq (Z v1 1) J0) (P .rem (Z v1 0) (Z v1 1) λb=>iL [Z v1 1,b])<|iR (0,[Z v1 0])) [a0,a1] λa=>(afP .neg<|Z a.2 0).bind λd=>(D.max2 (Z a.2 0) d).bind λe=>some e
def ZM:Ann:=.t<|.w (.t<|.w (.p [mi,oj,sP,ky] [ie,mv,tk] [] [(.x 0,u [mi,sP] [ie,tk] [])] Wan) .o) .o
def SU:M2:=λl c a0 a1=>qy l (λv1=>qc .lss (Z v1 0) J3 (qJ (Z v1 0) 3 (Z v1 1) λg=>qJ (Z v1 0) 3 a1 λh=>P .add g h λi=>qi (Z v1 0) 3 λf=>qs (Z v1 1) [f] i λb=>qj (Z v1 0) λd=>iL [d,b])<|iR (0,[Z v1 1])) [J0,a0] λa=>some<|Z a.2 0
def ZN:Ann:=let a:LO:=[Wbs,(4098,.k fe 2),WaG];(.t<|.t<|.w (.t<|.w (.p [Wag,Wah,Wai,eL] a [] [(.x 0,u [Wag,Wah,Wai] a [])]<|.t<|.w vb .o) .o)<|.t<|.t<|.t<|.w (.t<|.w (.p [Wag,Wah,Wai,(5,.s fe 28677),ky] [Wbs,WaH,(8195,.k z 3),(28677,.e fe<|.v fe)] [] [(.r,u [Wah] [WaH] []),(.x 2,u [Wah,(5,.s fe 28677)] [WaH,(28677,.e fe<|.v fe)] [])]<|.t<|.w (.w (.w D' .o) .o) .o) .o) .o)
def SV:M1:=λL c a0=>C c 34 [J0] λr1=>qy L (λe=>qc .lss (Z e 0) J3 (qJ (Z e 0) 3 a0 λy=>C c 85 [Z e 1,y] λx=>qj (Z e 0) λz=>iL [z,x])<|iR (0,[Z e 1])) [J0,r1] λo=>Q (Z o.2 0) [0] λp=>qt p (some<|D.st [D.st [J0,J0,J0],Jn 30])<|C c 83 [Z o.2 0] λl=>qt (bq l J0) (some<|D.st [D.st [J0,J0,J0],Jn 31])<|qy L (λa=>qc .lss (Z a 0) J3 (qJ (Z a 0) 3 a0 λq=>C c 87 [q,Z o.2 0] λm=>C c 186 [m] λd=>qp d 0 λr=>qp d 1 λs=>qn s (iR (0,[D.st [D.st [J0,J0,J0],Jn 30]]))<|qi (Z a 0) 3 λk=>qs (Z a 2) [0,k] r λt=>qj (Z a 0) λu=>iL [u,Z a 1,t])<|iR (1,[Z a 1,Z a 2])) [J0,D.st [D.st [J0,J0,J0],J0],D.st [D.st [J0,J0,J0],J0]] λb=>qr b<|Q (Z b.2 1) [0] λv=>C c 187 [v] λn=>qn n (some<|D.st [D.st [J0,J0,J0],Jn 30])<|some<|Z b.2 1
def ZO:Ann:=let a:LO:=[(4102,.k h 6),(4104,.k h 8),(8203,.k h 11)];(.t<|.t<|.w (.t<|.w (.p [(6,.s h 4102),(8,.s h 4104),(11,.s h 8203),(12,.i)] a [0,2] [(.r,sx),(.x 0,rk)]<|.t<|.cut [(.m,u [(6,.s h 4102),(8,.s h 4104),(11,.s h 8203)] a [0,2,12]),(.r,sx)] [0,2,12] [4102,4104,8203] (.w (.w tf<|.w H' vb) .o) .o) .o) .o)
def SW:M5:=λl c a0 a1 a2 t u=>C c 112 [u,t] λr1=>qy l (λf=>ql a0 (Z f 0) (qb (qX a0 (Z f 0) λx=>C c 107 [a1,x] λw=>qt (nq w a2) (some (0,[]))<|qX a0 (Z f 0) λq=>C c 112 [q,t] λa=>C c 123 [r1,a] λm=>C c 188 [a1,m] λb=>qC .lss b J0 λh=>qO h (qt (bq b J0) (C c 107 [a,r1] λn=>qc .lss n J0 (some true)<|C c 107 [a,r1] λo=>C c 107 [r1,r1] λp=>qh .gtr o p)<|some false) (some (1,[S]))<|some (0,[])) λd=>if d.1=0 then(qj (Z f 0) λs=>iL [s]) else(iR (0,[Z d.2 0])))<|iR (1,[])) [J0] λe=>qr e<|some bT
def ZP:Ann:=let a:LS:=[(0,.v<|Ty.int .u32),(2,.i)];(.t<|.cut [(.m,S1 a)] [] [] .o<|.cut [(.m,S1 a)] [] [] .o .o)
def SX:M1:=λl c a0=>qb (qc .geq a0 (D.int .u32 65536) (P .shr a0 (D.int .u64 16) λi=>some (0,[i,Jn 16]))<|some (0,[a0,J0])) λa=>qb (qc .geq (Z a.2 0) (D.int .u32 256) (P .shr (Z a.2 0) (D.int .u64 8) λj=>P .add (Z a.2 1) (Jn 8) λk=>some (0,[j,k]))<|some (0,[Z a.2 0,Z a.2 1])) λg=>qw .u8 (Z g.2 0) λb=>(afO (D.str<|(tj<|LQ Tryz.f56).getD ByteArray.empty) b).bind λd=>qw .i64 d λe=>P .add (Z g.2 1) e λf=>some f
def Ky:M1:=λl c a0=>Q a0 [2] λx1=>Q a0 [0] λi=>qt i (qT (bq x1<|D.st<|afN (List.replicate 16<|D.int .u32 0) []) λf=>(qe f (Q a0 [1] λj=>qz j)<|some false).bind λg=>some<|D.bool g)<|qN (bq x1<|D.st<|afN (List.replicate 16<|D.int .u32 0) []) λh=>(qe h (some true)<|Q a0 [1] λb=>qz b).bind λa=>some<|D.bool a
def SY:M2:=λl c a0 a1=>C c 194 [a0] λr1=>C c 194 [a1] λa=>qt r1 (qt a (some J0)<|some<|Jn<|-1)<|qt a (some J1)<|qc .lss a0 a1 (some<|Jn<|-1)<|qc .gtr a0 a1 (some J1)<|some J0
def SZ:M0:=λl c=>C c 54 [J1] λr1=>some r1
def TCd:TT:=e1 135 Tryz.f82 SJ ZB+e1 136 Tryz.f26 Ct .leaf+(e2 137 Tryz.f80 SK .leaf+(e1 138 Tryz.f61 SL ZC+e1 139 Tryz.f171 Kx ZD))+(e1 140 Tryz.f176 SM ZE+e2 141 Tryz.f177 SN .leaf+(e1 142 Tryz.f173 SO .leaf+(e2 143 Tryz.f175 SP ZF+e2 144 Tryz.f178 SQ ZG)))+(e2 146 Tryz.f207 SR ZH+e2 147 Tryz.f187 SS ZI+(e1 148 Tryz.f188 ST ZJ+(e2 152 Tryz.f314 OG ZL+e2 154 Tryz.f303 SU ZM))+(e1 155 Tryz.f264 SV ZN+(e5 156 Tryz.f312 SW ZO+e1 165 Tryz.f56 SX ZP)+(e1 167 Tryz.f131 Ky .leaf+(e2 168 Tryz.f216 SY .leaf+e0 169 Tryz.f78 SZ .leaf))))
end Sy
end
set_option maxHeartbeats 0
noncomputable section
namespace Sy
open Go Go.Proofs
def ZQ:Ann:=let a:LO:=[tw,ig,mI,oq];(.t<|.w WaR<|.w (.t<|.w WbF .o)<|.t<|.t<|.t<|.t<|.t<|.w (.g [] 2)<|.t<|.w (.t<|.w (.p [tI,WbL,(11,.s aY 24587),Wbl,(16,.i)] [tw,Wbt,(24587,.k aY 11),oq] [6,10] [(.x 0,u [tI,WbL,Wbl] [tw,Wbt,oq] [10])]<|.t<|.w (.w (.w (.regI [] 5<|.w (.t<|.w (.g [] 19)<|.t<|.w H'<|.w (.w (.p [G',(5,.s aY 65541),eF,WaN] [tw,ig,mI,(32783,.k vG 0),(65541,.k aY 5)] [2,3,10] [(.x 0,u [eF] [tw,ig,mI,(32783,.k vG 0)] [])] .o) .o) .o) .o)<|.cut [(.m,u [tI,WbL,(11,.s aY 24587),Wbl,(17,.v<|Ty.int .u64)] [ri,Wbt,(24587,.k aY 11),oq] [6,10,16])] [6,10,16] [4100,4101,24587] (.w (.regI [] 5<|.w (.t<|.t<|.w (.t<|.w (.p [G',(6,.s aY 102406),eF,WaN,(17,.i)] [tw,ig,mI,oq,(102406,.k aY 6)] [2,3,4,16] [(.x 0,u [G',eF,WaN] a [2,3])] .o) .o) .o) .o)<|.w (.t<|.regI [] 4<|.w (.t<|.t<|.w (.t<|.w (.p [G',(5,.s aY 147461),(8,.v<|Ty.int .u64),Wbc] [tw,ig,mI,oq,(147461,.k aY 5)] [2,3,10] [(.x 0,u [G',(8,.v<|Ty.int .u64)] a [2,3])]<|.t<|.t<|.w (.w g7 .o) .o) .o) WaC) .o) .o) .o) .o) .o) .o) pI)
def S4:M2:=λlp c a0 a1=>(c 127 [a1]).bind λr1=>(c 127 [a0]).bind λr2=>(c 121 [a0,a1]).bind λr3=>qC .lss r3 (Jn 0) λb5=>if b5 then(some<|D.tup [D.st<|afN (List.replicate 16<|D.int .u32 0) [],a0]) else(qT (D.bool<|D.beq r1<|Jn 1) λb6=>if b6 then(Q a1 [0] λx7=>(c 195 [a0,x7]).bind λr8=>(D.tupAt r8 0).bind λx9=>(D.tupAt r8 1).bind λap=>some<|D.tup [x9,D.st<|afN (List.replicate 16<|D.int .u32 0) [(0,ap)]]) else(P .sub r1 (Jn 1) λax=>qJ ax 16 a1 λaI=>(c 196 [aI]).bind λn=>(c 197 [a1,n]).bind λu=>(D.tupAt u 0).bind λo=>(D.tupAt u 1).bind λdv=>(c 197 [a0,n]).bind λv=>(D.tupAt v 0).bind λaO=>(D.tupAt v 1).bind λa2=>(D.stl<|aw vG).bind λs=>(D.stl aO).bind λan=>(D.set (D.st<|List.take 0 s++(List.take 16 (List.drop 0 an)++List.drop 16 s)) [16] a2).bind λa3=>P .sub r2 r1 λa4=>(qZ lp (λa=>qC .geq (Z a 0) (Jn 0) λV=>if V then(P .add (Z a 0) r1 λa5=>qJ a5 17 (Z a 2) λa6=>(D.conv .u64 a6).bind λa7=>P .shl a7 (D.int .u64 32) λa8=>P .add (Z a 0) r1 λa9=>P .sub a9 (Jn 1) λba=>qJ ba 17 (Z a 2) λbh=>(D.conv .u64 bh).bind λbj=>P .or a8 bj λR=>P .sub r1 (Jn 1) λbl=>qJ bl 16 o λbm=>(D.conv .u64 bm).bind λp=>P .quo R p λbp=>P .rem R p λbs=>(qZ lp (λd=>qC .lss (Z d 1) (D.int .u64 4294967296) λW=>(if W then(qC .geq (Z d 0) (D.int .u64 4294967296) λX=>if X then(some true) else(P .sub r1 (Jn 2) λbt=>qJ bt 16 o λbv=>(D.conv .u64 bv).bind λbx=>P .mul (Z d 0) bx λbz=>P .shl (Z d 1) (D.int .u64 32) λbY=>P .add (Z a 0) r1 λb1=>P .sub b1 (Jn 2) λb2=>qJ b2 17 (Z a 2) λb3=>(D.conv .u64 b3).bind λb4=>P .or bY b4 λb7=>P .gtr bz b7 λb8=>D.truth b8)) else(some false)).bind λY=>qT (D.bool Y) λb0=>if b0 then(P .sub (Z d 0) (D.int .u64 1) λb9=>P .add (Z d 1) p λcd=>iL [b9,cd,Z d 2,Z d 3,Z d 4]) else(iR (0,[Z d 0,Z d 2,Z d 3,Z d 4]))) [bp,bs,Z a 1,aw aY,o]).bind λe=>((qZ lp (λb=>qC .lss (Z b 2) r1 λad=>if ad then(qJ (Z b 2) 16 (Z e.2 3) λcf=>(D.conv .u64 cf).bind λch=>P .mul (Z e.2 0) ch λcm=>P .add (Z b 0) cm λS=>P .add (Z a 0) (Z b 2) λcs=>qJ cs 17 (Z b 6) λcv=>(D.conv .u64 cv).bind λcx=>(D.conv .u32 S).bind λcy=>(D.conv .u64 cy).bind λcI=>P .sub cx cI λcS=>P .sub cS (Z b 1) λT=>P .add (Z a 0) (Z b 2) λc0=>(D.conv .u32 T).bind λc1=>(D.idx c0 17).bind λal=>(D.set (Z b 6) [al] c1).bind λc2=>P .shr T (D.int .u64 63) λc3=>P .shr S (D.int .u64 32) λc4=>P .add (Z b 2) (Jn 1) λc5=>iL [c4,c3,c5,Z b 3,Z b 4,Z b 5,c2]) else(iR (0,[Z b 0,Z b 1,Z b 3,Z b 4,Z b 5,Z b 6]))) [D.int .u64 0,D.int .u64 0,Jn 0,Z e.2 1,Z e.2 2,Z e.2 3,Z a 2]).bind λf=>P .add (Z a 0) r1 λdb=>qJ db 17 (Z f.2 5) λdk=>(D.conv .u64 dk).bind λdp=>P .sub dp (Z f.2 0) λdq=>P .sub dq (Z f.2 1) λU=>P .add (Z a 0) r1 λdr=>(D.conv .u32 U).bind λds=>(D.idx dr 17).bind λi100=>(D.set (Z f.2 5) [i100] ds).bind λk=>P .shr U (D.int .u64 63) λw=>qT (D.bool<|D.beq w<|D.int .u64 1) λq=>if q then(P .sub (Z e.2 0) (D.int .u64 1) λx=>(qZ lp (λv105=>qC .lss (Z v105 1) r1 λr=>if r then(P .add (Z a 0) (Z v105 1) λy=>qJ y 17 (Z v105 5) λz=>(D.conv .u64 z).bind λA=>qJ (Z v105 1) 16 (Z f.2 4) λB=>(D.conv .u64 B).bind λC=>P .add A C λE=>P .add (Z v105 0) E λl=>P .add (Z a 0) (Z v105 1) λF=>(D.conv .u32 l).bind λG=>(D.idx F 17).bind λi119=>(D.set (Z v105 5) [i119] G).bind λH=>P .shr l (D.int .u64 32) λI=>P .add (Z v105 1) (Jn 1) λJ=>iL [I,J,Z v105 2,Z v105 3,Z v105 4,H]) else(iR (0,[Z v105 0,Z v105 2,Z v105 3,Z v105 4,Z v105 5]))) [D.int .u64 0,Jn 0,Z f.2 2,Z f.2 3,Z f.2 4,k]).bind λg=>P .add (Z a 0) r1 λm=>qJ m 17 (Z g.2 4) λK=>(D.conv .u32<|Z g.2 0).bind λL=>P .add K L λM=>(D.idx m 17).bind λi129=>(D.set (Z g.2 4) [i129] M).bind λN=>some (0,[x,N])) else(some (0,[Z e.2 0,k]))).bind λ(i:Nat×List D)=>(D.conv .u32<|Z i.2 0).bind λO=>(D.idx (Z a 0) 16).bind λi133=>(D.set (Z e.2 1) [i133] O).bind λd1=>P .sub (Z a 0) (Jn 1) λd0=>iL [d0,d1,Z i.2 1]) else(iR (0,[Z a 1,Z a 2]))) [a4,aw aY,a3]).bind λj=>(match (Z j.2 1) with
| D.st h=>(if decide (0+16<=h.length) then((c 201 [D.st<|List.take 16<|List.drop 0 h,n]).bind λt=> some<|D.tup [Z j.2 0,t]) else none)
| _=>none)))
def S5:M1:=λl c a0=>C c 118 [D.sl [a0]] λr1=>qn r1 (C c 119 [] λb=>some b)<|Q a0 [2] λe=>C c 116 [S,e] λd=>some d
def ZR:Ann:=.t<|.t<|.cut [(.r,u [vd,WaU] [fl,fp] []),(.m,u [rz,mg,vd,WaU] [mu,R',fl,fp] [])] [] [4098,4099] (.t<|.t<|.w (.t<|.t<|.w (.w H'<|.cut [(.m,u [vd,WaU,Wa5,Wbc] [u3,(4101,.k z 5)] [])] [] [4100,4101] .o .o) .o) .o)<|.t<|.t<|.cut [(.m,u [mg,vd,WaU,(13,.s aY 16397),(14,.s z 20494)] [R',u3,(4101,.k z 5),(16397,.e aY<|.v aY),(20494,.e z<|.v z)] [])] [] [4099,4100,4101] (.t tf) vb
def Kz:M2:=λq c a0 a1=>C c 118 [D.sl [a0,a1]] λr1=>qN r1 λV=>qO V (C c 129 [a1] λY=>D.truth<|bq Y J0) (C c 119 [] λu=>C c 119 [] λr8=>some<|D.tup [u,r8])<|qb (C c 202 [a0] λU=>qp U 0 λe=>qp U 1 λF=>qT F λm=>qA m (D.truth<|nq e<|Jn<|-9223372036854775808) (C c 202 [a1] λg=>qp g 0 λa=>qp g 1 λG=>qT G λp=>qA p (D.truth<|nq a<|Jn<|-9223372036854775808) (P .quo e a λl=>P .rem e a λb=>qb (qT (nq b J0) λs=>qA s (P .lss b J0 λH=>P .lss a J0 λI=>D.truth<|nq H I) (P .sub l J1 λJ=>P .add b a λK=>some (0,[J,K]))<|some (0,[l,b])) λh=>C c 54 [Z h.2 0] λy=>C c 54 [Z h.2 1] λz=>some (0,[y,z]))<|some (1,[D.st [S,S,aw aY],D.st [S,S,aw aY]]))<|some (1,[D.st [S,S,aw aY],D.st [S,S,aw aY]])) λd=>if d.1=0 then(some<|D.tup [Z d.2 0,Z d.2 1]) else(Q a0 [2] λL=>Q a1 [2] λM=>C c 170 [L,M] λi=>qp i 0 λN=>qp i 1 λf=>Q a0 [1] λO=>Q a1 [1] λa3=>C c 116 [nq O a3,N] λj=>qb (qT (nq f<|D.st<|afN (List.replicate 16<|D.int .u32 0) []) λv=>qA v (Q a0 [1] λa2=>Q a1 [1] λR=>D.truth<|nq a2 R) (C c 54 [J1] λA=>C c 203 [j,A] λB=>Q a1 [2] λa4=>C c 122 [a4,f] λX=>some (0,[X,B]))<|some (0,[f,j])) λk=>Q a1 [1] λT=>C c 116 [T,Z k.2 0] λE=>some<|D.tup [Z k.2 1,E])
def ZS:Ann:=.t<|.t<|.t<|.w D' Wae
def KA:M2:=λq c a0 a1=>C c 136 [a0] λr1=>qN r1 λp=>qO p (C c 136 [a1] λs=>qz s) (C c 130 [] λt=>some t)<|Q a0 [1] λv=>Q a1 [1] λj=>C c 131 [v,j] λa=>Q a0 [1] λk=>C c 132 [k,a] λb=>Q a1 [1] λl=>C c 132 [l,a] λd=>Q a0 [0] λm=>C c 61 [m,d] λe=>Q a1 [0] λn=>C c 61 [n,b] λf=>C c 57 [e,f] λg=>Q a1 [1] λo=>C c 61 [b,o] λh=>C c 62 [g,h] λi=>some i
def ZT:Ann:=.t<|.t<|.w WaC pp
def KB:M2:=λL c a0 a1=>C c 136 [a0] λr1=>qN r1 λs=>qO s (C c 136 [a1] λv=>qz v) (C c 130 [] λw=>some w)<|Q a0 [0] λy=>Q a1 [1] λj=>C c 62 [y,j] λa=>Q a1 [0] λk=>Q a0 [1] λl=>C c 62 [k,l] λb=>Q a [0] λm=>Q b [0] λn=>C c 61 [m,n] λd=>Q a [1] λo=>Q b [1] λp=>C c 61 [o,p] λe=>Q d [0] λq=>qT q λf=>qO f (Q e [0] λr=>D.truth r) (C c 130 [] λi=>some i)<|some<|D.st [d,e]
def S6:M2:=λl c a0 a1=>qc .lss a1 J0 (some J0)<|C c 141 [a0,a1] λa=>some a
def ZU:Ann:=.t<|.t<|.t<|.t<|.t<|.t<|.cut [(.m,S1 [ky])] [] [] .o .o
def S7:M1:=λp c a0=>C c 76 [a0] λr1=>qn r1 (some<|D.tup [J0,S])<|C c 34 [Jn<|-9223372036854775808] λr=>C c 34 [Jn 9223372036854775807] λs=>C c 32 [a0,r] λt=>qC .lss t J0 λq=>qO q (C c 32 [a0,s] λu=>qh .gtr u J0) (some<|D.tup [J0,S])<|Q a0 [2,1] λh=>qw .u64 h λi=>P .mul i (D.int .u64 4294967296) λj=>Q a0 [2,0] λk=>qw .u64 k λl=>P .add j l λm=>qw .i64 m λa=>qb (Q a0 [1] λn=>qt n ((afP .neg a).bind λo=>some (0,[o]))<|some (0,[a])) λf=>some<|D.tup [Z f.2 0,bT]
def ZV:Ann:=.t<|.w (.t<|.w (.p [(1,.s h 4097),iA] [(4097,.k h 1)] [] [(.r,om),(.x 0,rk)] .o) .o) .o
def S8:M1:=λl c a0=>qy l (λv1=>qc .lss (Z v1 0) J3 (qJ (Z v1 0) 3 a0 λi=>qC .geq i (Jn 2305843009213693952) λh=>qO h (qJ (Z v1 0) 3 a0 λj=>qh .leq j<|Jn<|-2305843009213693952) (iR (0,[S]))<|qj (Z v1 0) λf=>iL [f])<|iR (1,[])) [J0] λa=>qr a<|some bT
def ZW:Ann:=.t<|.w (.t<|.w (.p [mi,oj,Wac] [(4098,.k h 2),mv] [] [(.r,Wau),(.x 0,rk)]<|.t<|.w Wa8 .o) .o) .o
def S9:M2:=λl c a0 a1=>qy l (λv1=>qc .lss (Z v1 0) J3 (qJ (Z v1 0) 3 a0 λj=>qt (nq j J0) (qJ (Z v1 0) 3 a0 λk=>C c 215 [k] λi=>qJ (Z v1 0) 3 a1 λd=>C c 215 [d] λb=>P .mul i b λe=>iR (0,[e]))<|qj (Z v1 0) λf=>iL [f])<|iR (1,[])) [J0] λa=>qr a<|some J0
def Ta:M1:=λl c a0=>some<|nq a0 a0
def ZX:Ann:=.t<|.t<|.w (.t<|.w (.p [hJ,tI,K',Wap] [mB,tw] [1] [(.x 0,u [tI,K'] [tw] [])] .o) .o) .o
def Tc:M2:=λp c a0 a1=>qy p (λv1=>qc .geq (Z v1 1) J0 (P .shl (Z v1 0) (D.int .u64 32) λl=>qJ (Z v1 1) 16 a0 λm=>qw .u64 m λn=>P .or l n λj=>qw .u64 a1 λo=>P .quo j o λb=>qw .u32 b λd=>qi (Z v1 1) 16 λyA=>qs (Z v1 2) [yA] d λe=>qw .u64 a1 λf=>P .rem j f λg=>P .sub (Z v1 1) J1 λh=>iL [g,h,e])<|iR (0,[Z v1 0,Z v1 2])) [D.int .u64 0,Jn 15,aw aY] λa=>qw .u32 (Z a.2 0) λi=>some<|D.tup [Z a.2 1,i]
def Td:M1:=λl c a0=>C c 165 [a0] λr1=>P .sub (Jn 32) r1 λa=>some a
def ZY:Ann:=.t<|.t<|.t<|.w (.t<|.w (.p [hJ,tI,WbI,M',(9,.i)] [mB,ri,WaF] [1] [(.x 0,k7)] .o) .o) .o
def Te:M2:=λp c a0 a1=>qy p (λv1=>qc .lss (Z v1 1) (Jn 16) (qJ (Z v1 1) 16 a0 λj=>qw .u64 j λk=>P .shl k a1 λl=>P .or (Z v1 0) l λh=>qw .u32 h λm=>qi (Z v1 1) 16 λb=>qs (Z v1 2) [b] m λd=>P .shr h (D.int .u64 32) λe=>qj (Z v1 1) λf=>iL [e,f,d])<|iR (0,[Z v1 0,Z v1 2])) [D.int .u64 0,J0,aw aY] λa=>qw .u32 (Z a.2 0) λg=>some<|D.tup [Z a.2 1,g]
def ZZ:Ann:=.t<|.t<|.w (.t<|.w (.p [hJ,tI,Waf,Z'] [mB,ri,fa] [1] [(.x 0,WbJ)]<|.t<|.t<|.w (.w (.t<|.t<|.cut [(.m,u [hJ,tI,Waf,M'] [mB,ri,(8197,.k aY 5)] [1,6,8])] [1,6,8] [4098,4100,8197] .o .o) .o) .o) .o) .o
def Tf:M2:=λs c a0 a1=>qy s (λv1=>qc .lss (Z v1 0) (Jn 16) (qb (qj (Z v1 0) λp=>qc .lss p (Jn 16) (qj (Z v1 0) λq=>qJ q 16 a0 λr=>qw .u64 r λe=>some (0,[e]))<|some (0,[D.int .u64 0])) λb=>P .shl (Z b.2 0) (D.int .u64 32) λf=>qJ (Z v1 0) 16 a0 λg=>qw .u64 g λh=>P .or f h λi=>P .shr i a1 λj=>qw .u32 j λk=>qi (Z v1 0) 16 λa=>qs (Z v1 1) [a] k λl=>qj (Z v1 0) λm=>iL [m,l])<|iR (0,[Z v1 1])) [J0,aw aY] λd=>some<|Z d.2 0
def KC:M1:=λq c a0=>C c 118 [D.sl [a0]] λr1=>qN r1 λs=>qO s (C c 217 [a0] λv=>qh .gtr v<|Jn 64) (some<|D.tup [J0,S])<|Q a0 [2,1] λx=>qw .u64 x λy=>P .shl y (D.int .u64 32) λi=>Q a0 [2,0] λj=>qw .u64 j λk=>P .or i k λa=>Q a0 [1] λl=>qT l λb=>qA b (qh .leq a<|D.int .u64 9223372036854775808) ((afP .neg a).bind λn=>qw .i64 n λo=>some<|D.tup [o,bT])<|Q a0 [1] λp=>qN p λf=>qA f (qh .lss a<|D.int .u64 9223372036854775808) (qw .i64 a λr=>some<|D.tup [r,bT])<|some<|D.tup [J0,S]
def Z0:Ann:=.t mb
def KD:M2:=λl c a0 a1=>C c 68 [a1] λr1=>C c 57 [a0,r1] λa=>some a
def Tg:M1:=λl c a0=>qc .lss a0 J0 (some<|Jn<|-1)<|qc .gtr a0 J0 (some J1)<|some J0
def KE:M1:=λp c a0=>Q a0 [2] λx1=>C c 127 [x1] λd=>C c 118 [D.sl [a0]] λk=>qN k λh=>qO h (D.truth<|bq d J0) (some J0)<|P .sub d J1 λl=>P .mul (Jn 32) l λm=>P .sub d J1 λe=>qi e 16 λa=>Q a0 [2,a] λf=>C c 165 [f] λb=>P .add m b λg=>some g
def Th:M1:=λl c a0=>C c 348 [a0] λr1=>qn r1 (some S)<|C c 349 [a0] λa=>qp a 0 λf=>qp a 1 λg=>qT g λd=>(qe d (D.truth<|bq f a0)<|some false).bind λe=>some<|D.bool e
def Tj:M2:=λl c a0 a1=>C c 54 [a0] λr1=>C c 54 [a1] λa=>C c 62 [r1,a] λb=>some b
def Z1:Ann:=.t mb
def Tk:M2:=λl c a0 a1=>C c 357 [a1] λr1=>C c 173 [a0,r1] λa=>some a
def Tl:M2:=λl c a0 a1=>C c 136 [a0] λr1=>qN r1 λb=>qO b (C c 136 [a1] λf=>qz f) (C c 130 [] λg=>some g)<|C c 73 [a0,a1] λh=>qc .lss h J0 (some a1)<|some a0
def Tn:M1:=λl c a0=>C c 136 [a0] λr1=>qn r1 (some J0)<|Q a0 [0] λd=>C c 129 [d] λb=>some b
def TCe:TT:=e2 170 Tryz.f155 S4 ZQ+e1 171 Tryz.f156 S5 .leaf+(e2 172 Tryz.f157 Kz ZR+(e2 173 Tryz.f74 KA ZS+e2 174 Tryz.f73 KB ZT))+(e2 175 Tryz.f258 S6 .leaf+(e1 186 Tryz.f204 S7 ZU+e1 187 Tryz.f304 S8 ZV)+(e2 188 Tryz.f320 S9 ZW+(e1 194 Tryz.f272 Ta .leaf+e2 195 Tryz.f239 Tc ZX)))+(e1 196 Tryz.f240 Td .leaf+(e2 197 Tryz.f241 Te ZY+e2 201 Tryz.f245 Tf ZZ)+(e1 202 Tryz.f201 KC .leaf+(e2 203 Tryz.f226 KD Z0+e1 215 Tryz.f338 Tg .leaf))+(e1 217 Tryz.f17 KE .leaf+(e1 331 Tryz.f88 Th .leaf+e2 333 Tryz.f42 Tj .leaf)+(e2 336 Tryz.f118 Tk Z1+(e2 337 Tryz.f113 Tl .leaf+e1 342 Tryz.f27 Tn .leaf))))
end Sy
end
set_option maxHeartbeats 0
noncomputable section
namespace Sy
open Go Go.Proofs
def Z3:Ann:=.t<|.w (.t<|.w (.p [h7,iA] [Wbu] [] [(.r,om),(.x 0,rk)] .o) .o) .o
def Tp:M1:=λl c a0=>qy l (λv1=>qc .lss (Z v1 0) (Jn 4) (qJ (Z v1 0) 4 a0 λi=>qC .gtr i (Jn 64) λh=>qO h (qJ (Z v1 0) 4 a0 λj=>qh .lss j<|Jn<|-64) (iR (0,[S]))<|qj (Z v1 0) λf=>iL [f])<|iR (1,[])) [J0] λa=>qr a<|some bT
def Z4:Ann:=let a:LO:=[Wbu,gb];let b:LS:=[h7,sv,eL,Wac];(.t<|.t<|.t<|.w (.t<|.w (.p [h7,sv,eL,Wac,ky] a [] [(.x 0,u b a [])]<|.t<|.cut [(.m,u b a [6])] [6] [4097,4098] .o .o) .o)<|.t<|.t<|.w (.g [] 17) .o)
def Tq:M1:=λL c a0=>qy L (λv1=>qc .geq (Z v1 2) J0 (qb (qJ (Z v1 2) 4 a0 λv=>C c 364 [Z v1 0,v] λs=>qJ (Z v1 2) 4 a0 λw=>qt (nq w J0) (qJ (Z v1 2) 4 a0 λg=>C c 365 [g] λf=>some (0,[s,f]))<|some (0,[s,Z v1 1])) λd=>P .sub (Z v1 2) J1 λh=>iL [Z d.2 0,Z d.2 1,h])<|iR (0,[Z v1 0,Z v1 1])) [J0,J0,J3] λb=>(afP .neg<|Z b.2 0).bind λi=>(D.max2 (Z b.2 0) i).bind λj=>P .mul (Z b.2 1) j λa=>qt (bq a J0) (some<|D.tup [D.st [J0,J0,J0,J0],S])<|Q a0 [0] λk=>P .quo k a λl=>Q a0 [1] λm=>P .quo m a λn=>Q a0 [2] λo=>P .quo o a λp=>Q a0 [3] λq=>P .quo q a λr=>some<|D.tup [D.st [l,n,p,r],bT]
def Z5:Ann:=.t<|.t tf
def Tr:M2:=λl c a0 a1=>C c 136 [a1] λr1=>qn r1 (C c 130 [] λb=>some b)<|Q a1 [1] λf=>Q a1 [0] λg=>C c 62 [f,g] λd=>C c 174 [a0,d] λe=>some e
def Z6:Ann:=.t<|.t pI
def KF:M1:=λl c a0=>C c 136 [a0] λr1=>qn r1 (C c 130 [] λb=>some b)<|Q a0 [0] λe=>C c 68 [e] λd=>Q a0 [1] λf=>some<|D.st [d,f]
def Z7:Ann:=.t<|.w (.w (.loop Wbk [(.x 0,S1 [(0,.i)])] .o) .o) .o
def Tt:M2:=λl c a0 a1=>qy l (λv1=>qt (nq (Z v1 1) J0) (P .rem (Z v1 0) (Z v1 1) λb=>iL [Z v1 1,b])<|iR (0,[Z v1 0])) [a0,a1] λa=>(afP .neg<|Z a.2 0).bind λd=>(D.max2 (Z a.2 0) d).bind λe=>some e
def Tu:M1:=λl c a0=>qc .lss a0 J0 (some<|Jn<|-1)<|(D.min2 a0 J1).bind λa=>some a
def Tv:M1:=λl c a0=>C c 392 [a0,a0] λr1=>some r1
def Z8:Ann:=.t<|.t<|.t<|.w (.t<|.w (.p [oj,sP,(5,.s Y3 8197),(6,.s h 12294),Wa5] [mv,tk,(8197,.k Y3 5),(12294,.e h<|.v h)] [] [(.x 0,u [sP,(6,.s h 12294)] [tk,(12294,.e h<|.v h)] [])]<|.t<|.t<|.w (.w (.t<|.g [] 24) .o) .o) .o) .o
def KG:M2:=λL c a0 a1=>C c 393 [a0] λr1=>qy L (λa=>qc .lss (Z a 0) J3 (P .mul J3 (Z a 0) λp=>qJ p 9 r1 λq=>Q a1 [0] λr=>P .mul J3 (Z a 0) λs=>qj s λf=>qJ f 9 r1 λg=>Q a1 [1] λh=>P .mul J3 (Z a 0) λi=>P .add i J2 λj=>qJ j 9 r1 λk=>Q a1 [2] λl=>C c 394 [D.sl [q,r,g,h,k,l]] λd=>qi (Z a 0) 3 λb=>qs (Z a 1) [b] d λm=>qj (Z a 0) λn=>iL [n,m])<|iR (0,[Z a 1])) [J0,D.st [J0,J0,J0]] λe=>some<|Z e.2 0
def OH:M2:=λl c a0 a1=>Q a0 [0] λx1=>Q a1 [0] λb=>Q a0 [1] λd=>Q a1 [1] λe=>Q a0 [2] λf=>Q a1 [2] λg=>Q a0 [3] λh=>Q a1 [3] λi=>C c 394 [D.sl [x1,b,d,e,f,g,h,i]] λa=>some a
def Z9:Ann:=.t pr
def Tw:M1:=λL c a0=>Q a0 [0] λx1=>Q a0 [1] λa=>Q a0 [2] λb=>Q a0 [3] λd=>(afP .neg b).bind λz=>(afP .neg d).bind λA=>C c 394 [D.sl [x1,x1,a,a,z,b,A,d]] λx=>(afP .neg x1).bind λB=>C c 394 [D.sl [a,b,B,d]] λy=>P .mul J2 y λl=>C c 394 [D.sl [a,d,x1,b]] λe=>P .mul J2 e λm=>C c 394 [D.sl [a,b,x1,d]] λf=>P .mul J2 f λn=>(afP .neg a).bind λo=>(afP .neg d).bind λp=>C c 394 [D.sl [x1,x1,o,a,b,b,p,d]] λg=>(afP .neg x1).bind λq=>C c 394 [D.sl [b,d,q,a]] λh=>P .mul J2 h λr=>(afP .neg x1).bind λs=>C c 394 [D.sl [a,d,s,b]] λi=>P .mul J2 i λt=>C c 394 [D.sl [b,d,x1,a]] λj=>P .mul J2 j λu=>(afP .neg a).bind λv=>(afP .neg b).bind λw=>C c 394 [D.sl [x1,x1,v,a,w,b,d,d]] λk=>some<|D.st<|afN (List.replicate 9 J0) [(0,x),(1,l),(2,m),(3,n),(4,g),(5,r),(6,t),(7,u),(8,k)]
def aaa:Ann:=.t<|.t<|.w (.t<|.w (.p [iA,eL] [] [0] [(.x 0,S1 [iA])] WaA) .o) .o
def EW:M1:=λl c a0=>qy l (λv1=>qj (Z v1 1) λh=>ql a0 h (qX a0 (Z v1 1) λi=>qj (Z v1 1) λj=>qX a0 j λb=>P .mul i b λd=>P .add (Z v1 0) d λe=>P .add (Z v1 1) J2 λf=>iL [e,f])<|iR (0,[Z v1 0])) [J0,J0] λa=>some<|Z a.2 0
def TCf:TT:=e1 348 Tryz.f167 Tp Z3+e1 349 Tryz.f168 Tq Z4+(e2 352 Tryz.f84 Tr Z5+(e1 357 Tryz.f24 KF Z6+e2 364 Tryz.f254 Tt Z7))+(e1 365 Tryz.f255 Tu .leaf+(e1 385 Tryz.f165 Tv .leaf+e2 386 Tryz.f166 KG Z8)+(e2 392 Tryz.f246 OH .leaf+(e1 393 Tryz.f252 Tw Z9+e1 394 Tryz.f253 EW aaa)))
end Sy
end
set_option maxHeartbeats 0
noncomputable section
namespace Sy
open Go Go.Proofs
def aab:Ann:=let a:LO:=[v8,ub,un,w6,va,zc,fu];let c:LO:=[v8,ub,un,w6,va,zc,(32770,.k cF 1),(32771,.k cF 2),fu,vl,wa,vv];let e:LO:=[v8,ub,un,w6,va,zc,fu,vl,wa,vv];let b:LS:=[sI];let d:LS:=[mj,hC];(.t<|.w gi<|.t<|.t<|.t<|.w (.w (.regI [] 3 .o)<|.w (.all [(.m,u b a []),(.r,u b a [])] [] [45056]<|.t<|.t<|.t<|.w (.t<|.w (.p [sI,WaI,WaJ,wb,(20,.ow cF),(22,.i)] c [21] [(.r,u b a []),(.x 0,u [sI,WaI,WaJ,wb] c [])]<|.t<|.t<|.w (.w (.t<|.t<|.w (.p [sI,WaI,WaJ,wb,(7,.s cF 77831),(20,.ow cF),(31,.i)] [v8,ub,un,w6,va,zc,(32770,.k cF 1),(32771,.k cF 2),fu,vl,wa,vv,(77831,.k cF 7)] [6,21,22,29,30] [(.r,u b a []),(.x 2,u [sI,WaI,WaJ,wb,(20,.ow cF)] c [21,22])]<|.t<|.t<|.w (.w (.t<|.w (.regI [] 13<|.w (.all [(.r,u d [v8,ub,un,w6,va,zc,Wav,Waw,i9,vl,wa,vv,Wax] [])] [] [45056]<|.t<|.t<|.cut [(.m,u [V',mj,(7,.s h 110599)] [v8,ub,un,w6,va,zc,Wav,Waw,i9,vl,wa,vv,Wax,(110599,.e h<|.v h)] [8])] [8] [45056] .o<|.t<|.t<|.w (.regI [] 4<|.w (.t<|.all [(.m,u [] [Wbv,Wbe,Wbf,w6,va,zc,Wav,Waw,vl,wa,vv,Wax] [])] [] [4104,8202,8203] tt) .o) .o) .o) .o) .o) .o) .o) .o) .o) .o)<|.t<|.t<|.w (.p [sI,wb,(55,.i)] e [10,53,54] [(.r,u b a []),(.x 4,u b a [])]<|.t<|.t<|.w (.w (.t<|.t<|.w (.p [sI,wb,(12,.s h 90124),(61,.i)] [v8,ub,un,w6,va,zc,fu,vl,wa,vv,(90124,.k h 12)] [10,53,54,55,59,60] [(.r,u b a []),(.x 6,u [sI,wb] e [10,53,54,55])]<|.t<|.t<|.w (.w (.t<|.t<|.w (.regI [] 10<|.w (.all [(.r,u d [v8,ub,un,w6,va,zc,i9,vl,wa,vv,ot,Waq] [])] [] [45056]<|.t<|.t<|.cut [(.m,u [V',mj,(7,.s h 126983)] [v8,ub,un,w6,va,zc,i9,vl,wa,vv,ot,Waq,(126983,.e h<|.v h)] [8])] [8] [45056] .o<|.t<|.t<|.w (.regI [] 4<|.w (.t<|.all [(.m,u [] [Wbv,Wbe,Wbf,w6,va,zc,vl,wa,vv,ot,Waq] [])] [] [4104,8202,8203] tt) .o) .o)<|.w (.all [(.r,u d [v8,ub,un,w6,va,zc,i9,vl,wa,vv,ot] [])] [] [45056]<|.t<|.t<|.cut [(.m,u [V',mj,(7,.s h 139271)] [v8,ub,un,w6,va,zc,i9,vl,wa,vv,ot,(139271,.e h<|.v h)] [8])] [8] [45056] .o<|.t<|.t<|.w (.regI [] 4<|.w (.t<|.all [(.m,u [] [Wbv,Wbe,Wbf,w6,va,zc,vl,wa,vv,ot] [])] [] [4104,8202,8203] tt) .o) .o) .o) .o) .o) .o) .o) .o) .o) .o) .o) WbF)
def Tx:M4:=λlp c a0 a1 a2 a3=>C c 433 [a0,a1] λr1=>C c 433 [a2,a3] λr2=>qb (qy lp (λn=>qc .lss (Z n 1) J2 (qi (Z n 1) (List.length<|qV n 0) λi6=>((qV n 0)[i6]?).bind λx7=>Q x7 [1] λx8=>C c 18 [x8] λr9=>qS r9 λb9=>qy lp (λv11=>qc .lss (Z v11 1) (jl b9) (qX r9 (Z v11 1) λdv=>Q x7 [0,1] λdx=>Q dv [0] λdy=>C c 386 [dx,dy] λch=>C c 448 [ch] λcm=>P .mul J2 (Z n 1) λdz=>P .sub J1 dz λdB=>qb (C c 447 [cm] λad=>qp ad 0 λa7=>qp ad 1 λdE=>qb (qc .lss dB J0 (C c 97 [a7] λcs=>some (0,[Z v11 2,Z v11 3,Z v11 4,Z v11 5,Z v11 6,Z v11 7,r1,r2,qW v11 8,x7,cs]))<|some (0,[Z v11 2,Z v11 3,Z v11 4,Z v11 5,Z v11 6,Z v11 7,r1,r2,qW v11 8,x7,a7])) λb=>qT (nq dE J0) λbh=>qO bh (D.truth<|Option.getD (afH (qV b.2 8)<|Z b.2 10) S) (some (0,[bT,Z b.2 0,Z b.2 1,Z b.2 2,Z b.2 3,Z b.2 4,Z b.2 5,Z b.2 6,Z b.2 7,qW b.2 8,Z b.2 9]))<|qb (C c 434 [Z b.2 10,Z b.2 1,Z b.2 2] λt=>C c 342 [t] λcv=>qc .lss cv J0 (some (0,[Z b.2 3,Z b.2 4,Z b.2 5,Z b.2 6,Z b.2 7,D.sl<|afI (qV b.2 8) (Z b.2 10) bT,Z b.2 9]))<|C c 174 [t,t] λcx=>C c 91 [Z b.2 10,Z b.2 10] λcy=>C c 54 [J1] λcI=>C c 62 [cy,cI] λcS=>C c 352 [cx,cS] λal=>qT (Z b.2 5) λbp=>qA bp (C c 73 [al,Z b.2 4] λc0=>qh .leq c0 J0) (some (0,[Z b.2 3,Z b.2 4,Z b.2 5,Z b.2 6,Z b.2 7,D.sl<|afI (qV b.2 8) (Z b.2 10) bT,Z b.2 9]))<|C c 435 [Z b.2 1,Z b.2 10] λc1=>C c 74 [J2] λc2=>C c 352 [t,c2] λc3=>C c 173 [c1,c3] λc4=>some (0,[D.st [Z b.2 10,c4],al,bT,Z b.2 6,Z b.2 7,D.sl<|afI (qV b.2 8) (Z b.2 10) bT,Z b.2 9])) λr=>some (0,[bT,Z b.2 0,Z b.2 1,Z b.2 2,Z r.2 0,Z r.2 1,Z r.2 2,Z r.2 3,Z r.2 4,qW r.2 5,Z r.2 6])) λl=>qn (Z l.2 0) (iR (0,[Z l.2 1,Z l.2 2,Z l.2 3,Z l.2 4,Z l.2 5,Z l.2 6]))<|qj (Z v11 1) λd0=>iL [qW v11 0,d0,Z l.2 1,Z l.2 2,Z l.2 3,Z l.2 4,Z l.2 5,Z l.2 6,qW l.2 9])<|iR (1,[qW v11 0,Z v11 2,Z v11 3,Z v11 4,Z v11 5,Z v11 6,Z v11 7,qW v11 8])) [qW n 0,J0,Z n 2,Z n 3,Z n 4,Z n 5,Z n 6,Z n 7,qW n 8] λk=>if k.1=0 then(iR (0,[Z k.2 0,Z k.2 1,Z k.2 2,Z k.2 3,Z k.2 4,Z k.2 5])) else(qj (Z n 1) λd1=>iL [qW k.2 0,d1,Z k.2 1,Z k.2 2,Z k.2 3,Z k.2 4,Z k.2 5,Z k.2 6,qW k.2 7]))<|iR (1,[Z n 2,Z n 3,Z n 4,Z n 5,Z n 6,Z n 7,qW n 8])) [D.sl [r1,r2],J0,D.st [D.st [J0,J0,J0],D.st [D.st [S,S,aw aY],D.st [S,S,aw aY]]],r1,r2,D.st [D.st [J0,J0,J0],D.st [D.st [S,S,aw aY],D.st [S,S,aw aY]]],D.st [D.st [S,S,aw aY],D.st [S,S,aw aY]],S,D.sl []] λm=>if m.1=0 then(some (1,[Z m.2 0,Z m.2 1,Z m.2 2,Z m.2 3,Z m.2 4,Z m.2 5])) else(C c 449 [r2] λan=>C c 449 [r1] λap=>qS ap λcd=>qy lp (λj=>qc .lss (Z j 0) (jl cd) (qX ap (Z j 0) λz=>qS an λcf=>qy lp (λf=>qc .lss (Z f 0) (jl cf) (qX an (Z f 0) λd2=>C c 450 [z,d2] λy=>qb (C c 447 [y] λax=>qp ax 0 λa8=>qp ax 1 λd3=>qb (qc .lss J1 J0 (C c 97 [a8] λc5=>some (0,[Z f 1,Z f 2,Z f 3,Z f 4,Z f 5,Z f 6,qW f 7,z,y,c5]))<|some (0,[Z f 1,Z f 2,Z f 3,Z f 4,Z f 5,Z f 6,qW f 7,z,y,a8])) λd=>qT (nq d3 J0) λb1=>qO b1 (D.truth<|Option.getD (afH (qV d.2 6)<|Z d.2 9) S) (some (0,[bT,Z d.2 0,Z d.2 1,Z d.2 2,Z d.2 3,Z d.2 4,Z d.2 5,qW d.2 6,Z d.2 7,Z d.2 8]))<|qb (C c 434 [Z d.2 9,Z d.2 1,Z d.2 2] λu=>C c 342 [u] λdb=>qc .lss db J0 (some (0,[Z d.2 3,Z d.2 4,Z d.2 5,D.sl<|afI (qV d.2 6) (Z d.2 9) bT,Z d.2 7,Z d.2 8]))<|C c 174 [u,u] λdk=>C c 91 [Z d.2 9,Z d.2 9] λdp=>C c 54 [J1] λdq=>C c 62 [dp,dq] λdr=>C c 352 [dk,dr] λaI=>qT (Z d.2 5) λb6=>qA b6 (C c 73 [aI,Z d.2 4] λds=>qh .leq ds J0) (some (0,[Z d.2 3,Z d.2 4,Z d.2 5,D.sl<|afI (qV d.2 6) (Z d.2 9) bT,Z d.2 7,Z d.2 8]))<|C c 435 [Z d.2 1,Z d.2 9] λL=>C c 74 [J2] λM=>C c 352 [u,M] λN=>C c 173 [L,N] λO=>some (0,[D.st [Z d.2 9,O],aI,bT,D.sl<|afI (qV d.2 6) (Z d.2 9) bT,Z d.2 7,Z d.2 8])) λo=>some (0,[bT,Z d.2 0,Z d.2 1,Z d.2 2,Z o.2 0,Z o.2 1,Z o.2 2,qW o.2 3,Z o.2 4,Z o.2 5])) λe=>qn (Z e.2 0) (iR (0,[Z e.2 1,Z e.2 2,Z e.2 3,Z e.2 4,Z e.2 5,Z e.2 6]))<|qb (C c 447 [Z e.2 9] λv=>qp v 0 λx=>qp v 1 λaO=>qb (qc .lss (Jn<|-1) J0 (C c 97 [x] λF=>some (0,[Z e.2 1,Z e.2 2,Z e.2 3,Z e.2 4,Z e.2 5,Z e.2 6,qW e.2 7,Z e.2 8,F]))<|some (0,[Z e.2 1,Z e.2 2,Z e.2 3,Z e.2 4,Z e.2 5,Z e.2 6,qW e.2 7,Z e.2 8,x])) λa=>qT (nq aO J0) λB=>qO B (D.truth<|Option.getD (afH (qV a.2 6)<|Z a.2 8) S) (some (0,[bT,Z a.2 0,Z a.2 1,Z a.2 2,Z a.2 3,Z a.2 4,Z a.2 5,qW a.2 6,Z a.2 7]))<|qb (C c 434 [Z a.2 8,Z a.2 1,Z a.2 2] λs=>C c 342 [s] λE=>qc .lss E J0 (some (0,[Z a.2 3,Z a.2 4,Z a.2 5,D.sl<|afI (qV a.2 6) (Z a.2 8) bT,Z a.2 7]))<|C c 174 [s,s] λR=>C c 91 [Z a.2 8,Z a.2 8] λa4=>C c 54 [J1] λT=>C c 62 [a4,T] λU=>C c 352 [R,U] λw=>qT (Z a.2 5) λH=>qA H (C c 73 [w,Z a.2 4] λV=>qh .leq V J0) (some (0,[Z a.2 3,Z a.2 4,Z a.2 5,D.sl<|afI (qV a.2 6) (Z a.2 8) bT,Z a.2 7]))<|C c 435 [Z a.2 1,Z a.2 8] λW=>C c 74 [J2] λX=>C c 352 [s,X] λY=>C c 173 [W,Y] λA=>some (0,[D.st [Z a.2 8,A],w,bT,D.sl<|afI (qV a.2 6) (Z a.2 8) bT,Z a.2 7])) λp=>some (0,[bT,Z a.2 0,Z a.2 1,Z a.2 2,Z p.2 0,Z p.2 1,Z p.2 2,qW p.2 3,Z p.2 4])) λg=>qn (Z g.2 0) (iR (0,[Z g.2 1,Z g.2 2,Z g.2 3,Z g.2 4,Z g.2 5,Z g.2 6]))<|qj (Z f 0) λa5=>iL [a5,Z g.2 1,Z g.2 2,Z g.2 3,Z g.2 4,Z g.2 5,Z g.2 6,qW g.2 7])<|iR (1,[Z f 1,Z f 2,Z f 3,Z f 4,Z f 5,Z f 6,qW f 7])) [J0,Z j 1,Z j 2,Z j 3,Z j 4,Z j 5,Z j 6,qW j 7] λh=>if h.1=0 then(iR (0,[Z h.2 0,Z h.2 1,Z h.2 2,Z h.2 3,Z h.2 4,Z h.2 5])) else(qj (Z j 0) λa6=>iL [a6,Z h.2 0,Z h.2 1,Z h.2 2,Z h.2 3,Z h.2 4,Z h.2 5,qW h.2 6]))<|iR (1,[Z j 1,Z j 2,Z j 3,Z j 4,Z j 5,Z j 6])) [J0,Z m.2 0,Z m.2 1,Z m.2 2,Z m.2 3,Z m.2 4,Z m.2 5,qW m.2 6] λi=>if i.1=0 then(some (1,[Z i.2 0,Z i.2 1,Z i.2 2,Z i.2 3,Z i.2 4,Z i.2 5])) else(some (0,[Z i.2 0,Z i.2 1,Z i.2 2,Z i.2 3,Z i.2 4,Z i.2 5])))) λq=>if q.1=0 then(some<|D.tup [Z q.2 3,Z q.2 5]) else(some<|D.tup [Z q.2 3,Z q.2 5])
def aac:Ann:=let a:LO:=[Wbw,(4102,.k gP 6),(4103,.k K3 7),(4104,.k gP 8),(4105,.k K3 9)];(.t<|.w (.t<|.w (.p [WaV,(6,.s gP 4102),(7,.s K3 4103),(8,.s gP 4104),(9,.s K3 4105),Wbd] a [14] [(.r,sx),(.x 0,u [WaV,(6,.s gP 4102),(7,.s K3 4103),(8,.s gP 4104),(9,.s K3 4105)] a [])] .o) .o)<|.t<|.w (.g [] 24) .o)
def Tz:M5:=λL c a0 a1 a2 B f=>Q a0 [0] λx1=>qy L (λr=>qc .lss (Z r 0) J3 (qi (Z r 0) 3 λG=>qf x1 G λA=>qC .geq A (Jn 2305843009213693952) λF=>qO F (qh .leq A<|Jn<|-2305843009213693952) (iR (0,[S]))<|qj (Z r 0) λs=>iL [s])<|iR (1,[])) [J0] λa=>qr a<|Q a0 [0] λt=>qT (bq t<|D.st [J0,J0,J0]) λe=>qO e (Q a0 [1,0,0] λu=>D.truth u) (some S)<|C c 433 [a1,a2] λj=>Q a0 [0] λv=>C c 435 [j,v] λk=>Q a0 [1] λw=>C c 73 [k,w] λl=>qC .leq l J0 λh=>(qe h (C c 433 [B,f] λm=>Q a0 [0] λx=>C c 97 [x] λn=>C c 435 [m,n] λo=>Q a0 [1] λy=>C c 357 [y] λp=>C c 73 [o,p] λq=>qh .leq q J0)<|some false).bind λi=>some<|D.bool i
def aad:Ann:=.t<|.w (.t<|.w (.p [(1,.s gP 4097),iA] [(4097,.k gP 1)] [] [(.r,om),(.x 0,u [(1,.s gP 4097)] [(4097,.k gP 1)] [])] .o) .o) .o
def TA:M1:=λp c a0=>qy p (λv1=>qc .lss (Z v1 0) J3 (qi (Z v1 0) 3 λk=>Q a0 [0,k] λl=>qC .geq l (Jn 140737488355328) λj=>qO j (qi (Z v1 0) 3 λi8=>Q a0 [0,i8] λm=>qh .leq m<|Jn<|-140737488355328) (iR (0,[S]))<|qj (Z v1 0) λg=>iL [g])<|iR (1,[])) [J0] λa=>qr a<|Q a0 [1] λh=>C c 331 [h] λe=>some e
def aae:Ann:=.t<|.t<|.w (.t<|.w (.loop ⟨[WaW,Wac],J',[]⟩ [(.r,sL),(.x 0,⟨[WaW],J',[]⟩)]<|.t<|.w (.w (.t<|.w (.loop ⟨[WaW,ky],J',[5]⟩ [(.r,sL),(.x 2,⟨[WaW],J',[5]⟩)] .o) .o) .o) .o) .o) .o
def TC:M2:=λp c a0 a1=>qP a0 [0] λu=>qc .gtr (jl u) a1 (some S)<|qy p (λd=>qm a0 [0] (Z d 0) (qy p (λv10=>qc .lss (Z v10 0) J3 (qY a0 [0] (Z d 0) λl=>qi (Z v10 0) 3 λi=>qf l i λm=>qC .gtr m (Jn 4096) λf=>qO f (qY a0 [0] (Z d 0) λn=>qi (Z v10 0) 3 λj=>qf n j λo=>qh .lss o<|Jn<|-4096) (iR (0,[S]))<|qj (Z v10 0) λq=>iL [q])<|iR (1,[])) [J0] λa=>if a.1=0 then(iR (0,[Z a.2 0])) else(qj (Z d 0) λr=>iL [r]))<|iR (1,[])) [J0] λb=>qr b<|C c 15 [a0] λk=>some<|bq k J0
def TCg:TT:=e4 416 Tryz.f43 Tx aab+e5 421 Tryz.f31 Tz aac+(e1 427 Tryz.f32 TA aad+e2 431 Tryz.f33 TC aae)
end Sy
end
set_option maxHeartbeats 0
noncomputable section
namespace Sy
open Go Go.Proofs
def aaf:Ann:=let a:LO:=[(4098,.k gP 2),sy,pd,(28680,.e h<|.v h)];(.t<|.w H'<|.w (.t<|.w (.p [WbM,WaX,WaY,(19,.i)] [(4098,.k gP 2),sy,pd] [17,18] [(.x 0,u [WaX,WaY] [sy,pd] [])]<|.t<|.t<|.w (.w (.t<|.t<|.w (.t<|.w (.p [WbM,WaX,WaY,(8,.s h 28680),(27,.i)] a [17,18,19] [(.x 2,u [WbM,WaX,WaY,(8,.s h 28680)] a [17,18,19])]<|.t<|.t<|.w (.w (.t WaC) .o) .o) .o) .o) .o) .o) .o) .o)
def TD:M2:=λL c a0 a1=>Q a0 [1] λx1=>C c 385 [x1] λv=>Q a1 [0] λs=>qS s λu=>qy L (λd=>qc .lss (Z d 0) (jl u) (qX s (Z d 0) λj=>Q a0 [1] λk=>C c 386 [k,j] λi=>qy L (λa=>qc .lss (Z a 0) J3 (qJ (Z a 0) 3 (Z a 9) λl=>qi (Z a 0) 3 λg=>Q a0 [0,g] λm=>P .mul (Z a 7) m λn=>P .add l n λo=>qi (Z a 0) 3 λh=>qs (Z a 9) [h] o λp=>qj (Z a 0) λq=>iL [q,Z a 1,qW a 2,Z a 3,qW a 4,Z a 5,Z a 6,Z a 7,qW a 8,p])<|iR (0,[Z a 1,qW a 2,Z a 3,qW a 4,Z a 5,Z a 6,Z a 7,qW a 8,Z a 9])) [J0,Z d 1,qW d 2,Z d 3,qW d 4,Z d 5,Z d 6,Z d 7,qW d 8,i] λb=>qu (qV b.2 7) [Z b.2 8]<|qj (Z d 0) λr=>iL [r,Z b.2 0,qW b.2 1,Z b.2 2,qW b.2 3,Z b.2 4,Z b.2 5,Z b.2 6,D.sl<|(qV b.2 7)++[Z b.2 8]])<|iR (0,[Z d 1,qW d 2,Z d 3,qW d 4,Z d 5,Z d 6,Z d 7,qW d 8])) [J0,D.st [D.st [J0,J0,J0],D.st [J0,J0,J0,J0]],D.sl [],J0,D.sl [],a0,a1,v,D.sl []] λe=>some<|D.st [Z e.2 4,Z e.2 5,Z e.2 6,qW e.2 7]
def aag:Ann:=.t ma
def TE:M3:=λl c a0 a1 a2=>C c 97 [a0] λr1=>C c 435 [a2,r1] λa=>C c 435 [a1,a0] λb=>C c 173 [a,b] λd=>C c 357 [d] λe=>some e
def aah:Ann:=let a:LO:=[(4098,.k cF 2),mv,P',rI];(.t<|.w H'<|.w (.t<|.w (.p [WbN,oj,g6,tp,(19,.i)] a [17,18] [(.x 0,u [WbN,g6,tp] [(4098,.k cF 2),P',rI] [])]<|.t<|.t<|.cut [(.m,u [WbN,oj,g6,tp] a [17,18,19])] [17,18,19] [4098,4099,4100] .o .o) .o) vb)
def TF:M2:=λs c a0 a1=>qY a0 [3] J0 λq=>C c 91 [a1,q] λp=>qP a0 [3] λn=>(D.cut n 1<|n.length).bind λo=>qy s (λa=>qc .lss (Z a 0) (jl o) (qb (qI (Z a 0) o λk=>C c 91 [a1,k] λb=>C c 90 [b,Z a 1] λf=>qc .gtr f J0 (some (0,[b]))<|some (0,[Z a 1])) λg=>qj (Z a 0) λl=>iL [l,Z g.2 0])<|iR (0,[Z a 1])) [J0,p] λh=>Q a0 [2] λm=>C c 54 [m] λi=>C c 62 [Z h.2 0,i] λj=>some j
def aai:Ann:=let a:LO:=[Wbs,(4098,.k h 2),(8196,.e z<|.v z)];(.t<|.t<|.w (.t<|.w (.p [Wag,mi,h9,(14,.i)] a [13] [(.x 0,u [Wag,mi,h9] a [])] .o) .o)<|.t<|.t<|.w (.t<|.w (.p [mi,h9,(7,.s h 28679),(31,.i)] [ie,Wbx,(28679,.e h<|.v h)] [30] [(.r,u [mi,iA] [ie] []),(.x 3,u [mi,(7,.s h 28679)] [ie,(28679,.e h<|.v h)] [])] .o) .o) .o)
def TG:M1:=λL c a0=>C c 54 [J0] λr1=>qy L (λf=>qc .lss (Z f 0) J3 (qi (Z f 0) 3 λB=>qf a0 B λE=>C c 131 [Z f 1,E] λh=>qj (Z f 0) λF=>iL [F,h])<|iR (0,[Z f 1])) [J0,r1] λs=>Q (Z s.2 0) [0] λt=>qt t (some<|D.tup [D.st [J0,J0,J0],Jn 30])<|C c 129 [Z s.2 0] λq=>qt (bq q J0) (some<|D.tup [D.st [J0,J0,J0],Jn 31])<|qy L (λa=>qc .lss (Z a 0) J3 (qi (Z a 0) 3 λo=>qf a0 o λu=>C c 132 [u,Z s.2 0] λr=>C c 202 [r] λe=>qp e 0 λd=>qp e 1 λv=>qN v λj=>qo j (qh .geq d<|Jn 2305843009213693952) λl=>qO l (qh .leq d<|Jn<|-2305843009213693952) (iR (0,[Jn 30,D.st [J0,J0,J0]]))<|qi (Z a 0) 3 λp=>qs (Z a 2) [p] d λy=>qj (Z a 0) λz=>iL [z,Z a 1,y])<|iR (1,[Z a 1,Z a 2])) [J0,D.st [J0,J0,J0],D.st [J0,J0,J0]] λb=>if b.1=0 then(some<|D.tup [Z b.2 1,Z b.2 0]) else(some<|D.tup [Z b.2 1,J0])
def aaj:Ann:=wr
def TH:M1:=λl c a0=>Q a0 [0] λx1=>C c 54 [x1] λa=>Q a0 [1] λe=>C c 54 [e] λb=>Q a0 [2] λf=>C c 54 [f] λd=>some<|D.st [a,b,d]
def aak:Ann:=.t<|.t<|.w (.t<|.w (.p [(1,.s cF 4097),Wa6,Wa5] [(4097,.k cF 1)] [8,9] [(.x 0,S1 [Wa6])]<|.t<|.t<|.w (.w (.t<|.g [] 21) .o) .o) .o) .o
def TI:M1:=λq c a0=>Q a0 [1] λx1=>C c 21 [x1] λm=>qS m λp=>qy q (λv4=>qc .lss (Z v4 1) (jl p) (qX m (Z v4 1) λn=>Q a0 [0,1] λe=>Q a0 [1,0] λf=>Q n [1] λg=>qX f g λh=>Q a0 [1,0] λi=>Q n [0] λj=>qX i j λk=>C c 103 [h,k] λb=>C c 386 [e,b] λa=>qu (qV v4 0) [a]<|qj (Z v4 1) λl=>iL [D.sl<|(qV v4 0)++[a],l])<|iR (0,[qW v4 0])) [D.sl [],J0] λd=>some<|qW d.2 0
def aal:Ann:=Wba
def TJ:M2:=λl c a0 a1=>C c 148 [a0] λr1=>C c 148 [a1] λa=>C c 456 [r1,a] λb=>some b
def aam:Ann:=.t<|.w (.t<|.w (.p [WaT,(3,.s kK 4099),(4,.s kK 4100),Z'] [(4098,.k kK 2),(4099,.k kK 3),(4100,.e kK<|.v kK)] [] [(.x 0,u [(4,.s kK 4100)] [(4100,.e kK<|.v kK)] [])]<|.t<|.t<|.w (.w (.t<|.t<|.g [] 17) .o) .o) .o) .o
def TL:M2:=λs c a0 a1=>qy s (λv1=>qc .lss (Z v1 0) J3 (qj (Z v1 0) λo=>P .rem o J3 λl=>P .add (Z v1 0) J2 λp=>P .rem p J3 λm=>qJ l 3 a0 λq=>qJ m 3 a1 λg=>C c 61 [q,g] λb=>qJ m 3 a0 λh=>qJ l 3 a1 λi=>C c 61 [h,i] λd=>C c 203 [b,d] λe=>qi (Z v1 0) 3 λa=>qs (Z v1 1) [a] e λj=>qj (Z v1 0) λk=>iL [k,j])<|iR (0,[Z v1 1])) [J0,D.st [D.st [S,S,aw aY],D.st [S,S,aw aY],D.st [S,S,aw aY]]] λf=>some<|Z f.2 0
def aan:Ann:=let a:LO:=[Waz,O',Wby,Wbg,(4109,.k be 13)];let b:LO:=[Waz,O',Wby,Wbg,(4109,.k be 13),(32786,.k dH 18)];let c:LS:=[ov,sw,ms,nf,ir,(17,.i)];(.t<|.t<|.w (.t<|.w (.p [ov,sw,ms,nf,ir,(59,.i)] a [4,5,57,58] [(.r,kd),(.x 0,u [ov,sw,ms,nf,ir] a [4,5])] .o) .o)<|.cut [(.r,kd),(.m,u [(4,.v EX),ov,sw,ms,nf,ir] a [])] [] [4103,4104,4105,4106,4109] .o<|.t<|.w (.w (.p c a [4] [(.x 2,u c a [4])] .o) .o)<|.t<|.w (.t<|.w (.p [ov,sw,ms,nf,ir,Wbm,(133,.i)] b [4,131,132] [(.r,kd),(.x 4,u [ov,sw,ms,nf,ir,Wbm] b [4])] iz) .o)<|.w (.t<|.w (.p [ov,sw,ms,nf,ir,Wbm,(152,.i)] b [4,150,151] [(.r,kd),(.x 6,u [ov,sw,ms,nf] [Waz,O',Wby,Wbg] [4])] iz) .o)<|.w (.g [] 30) .o)
def TM:M7:=λp c a0 a1 a2 k l a5 f=>C c 471 [a0,a1,a2,k,Jn 8] λr1=>qN r1 λb3=>qo b3 (qS l λl4=>qh .gtr (jl l4)<|Jn 5) λb7=>qo b7 (C c 136 [f] λr8=>qz r8) λU=>qo U (Q f [1] λcx=>C c 217 [cx] λbx=>qh .gtr bx<|Jn 6) λW=>qo W (C c 342 [f] λbz=>qh .lss bz J0) λY=>qO Y (C c 74 [J1] λbY=>C c 73 [f,bY] λb1=>qh .gtr b1 J0) (C c 473 [] λb2=>some b2)<|qS l λbm=>qy p (λg=>qc .lss (Z g 0) (jl bm) (qX l (Z g 0) λj=>Q j [1,1,0,0] λc0=>qT c0 λan=>qo an (Q j [1,1,0] λc1=>C c 217 [c1] λb4=>qh .gtr b4<|Jn 60) λax=>qO ax (Q j [1,1,1] λc3=>C c 217 [c3] λb5=>qh .gtr b5<|Jn 60) (C c 473 [] λb8=>iR (0,[b8]))<|qj (Z g 0) λc5=>iL [c5])<|iR (1,[])) [J0] λz=>qr z<|qb (C c 481 [a0,a1,a2,k,l] λb9=>qn b9 (qw .i64 a5 λdb=>P .rem db (Jn 4) λdk=>C c 474 [a0,a1,a2,k,dk] λA=>qp A 0 λa3=>qp A 1 λdR=>qS a3 λbp=>qt (bq (jl bp) J0) (C c 473 [] λcd=>some (0,[cd]))<|some (1,[a3]))<|some (1,[l])) λa=>qr a<|qy p (λb=>qS (Z a.2 0) λbs=>P .sub (jl bs) J1 λdp=>qC .lss (Z b 0) dp λa9=>qA a9 (qX (Z a.2 0) (Z b 0) λdq=>qf dq 0 λdr=>C c 73 [dr,f] λcf=>qh .lss cf J0) (qj (Z b 0) λdv=>iL [dv])<|iR (0,[Z b 0])) [J0] λch=>qX (Z a.2 0) (Z ch.2 0) λdx=>qf dx 1 λd=>Q a1 [0] λR=>qS R λbt=>qy p (λh=>qc .lss (Z h 0) (jl bt) (qX R (Z h 0) λdy=>Q d [0] λdz=>C c 486 [a0,dy,f] λcm=>C c 72 [dz,cm] λcs=>Q d [1] λdB=>C c 73 [cs,dB] λcv=>qc .gtr cv J0 (iR (0,[S]))<|qj (Z h 0) λdE=>iL [dE])<|iR (1,[])) [J0] λB=>qr B<|Q k [0] λa6=>qS a6 λbv=>qy p (λi=>qc .lss (Z i 0) (jl bv) (qX a6 (Z i 0) λX=>Q d [0] λE=>C c 486 [a2,X,f] λt=>C c 72 [E,t] λu=>Q d [1] λF=>C c 73 [u,F] λv=>qc .lss v J0 (iR (0,[S]))<|qj (Z i 0) λG=>iL [G])<|iR (1,[])) [J0] λe=>qr e<|C c 473 [] λw=>qT w λo=>qa o (qX (Z a.2 0) J0 λH=>qf H 1 λI=>Q a0 [0] λJ=>Q a2 [0] λK=>C c 421 [I,J,a1,K,k] λx=>D.truth x) λq=>(qe q (qS (Z a.2 0) λs=>P .sub (jl s) J1 λL=>qX (Z a.2 0) L λM=>qf M 1 λN=>Q a0 [1] λO=>Q a2 [1] λa4=>C c 421 [N,O,a1,a4,k] λy=>D.truth y)<|some false).bind λr=>some<|D.bool r
def W7:TT:=e7 470 Tryz.f6 TM aan
def aao:Ann:=let a:LO:=[(4102,.k K3 6),O'];(.t<|.t<|.w (.t<|.w (.p [Waj,sw,(11,.ow gP),(12,.i)] a [4] [(.r,sx),(.x 0,u [Waj,sw] a [4])]<|.t<|.w (.w (.w (.t<|.w (.p [Waj,sw,(11,.ow gP),(13,.i)] a [4,12] [(.r,sx),(.x 2,u [Waj,sw,(11,.ow gP)] a [4,12])] .o) .o) .o) .o) .o) .o) .o)
def TN:M5:=λL c a0 a1 a2 G F=>Q a0 [0] λx1=>Q a0 [1] λI=>Q a2 [0] λJ=>Q a2 [1] λK=>qy L (λd=>qc .lss (Z d 1) (Jn 4) (qy L (λb=>qc .lss (Z b 1) J3 (qi (Z d 1) (List.length<|qV b 0) λm=>((qV b 0)[m]?).bind λu=>qf u 0 λv=>qi (Z b 1) 3 λn=>qf v n λw=>qC .gtr w (Jn 1000) λg=>qO g (qi (Z d 1) (List.length<|qV b 0) λo=>((qV b 0)[o]?).bind λx=>qf x 0 λy=>qi (Z b 1) 3 λp=>qf y p λz=>qh .lss z<|Jn<|-1000) (iR (0,[S]))<|qj (Z b 1) λB=>iL [qW b 0,B])<|iR (1,[qW b 0])) [qW d 0,J0] λa=>if a.1=0 then(iR (0,[Z a.2 0])) else(qi (Z d 1) (List.length<|qV a.2 0) λq=>((qV a.2 0)[q]?).bind λf=>C c 427 [f] λr=>qn r (iR (0,[S]))<|qj (Z d 1) λE=>iL [qW a.2 0,E]))<|iR (1,[])) [D.sl [x1,I,J,K],J0] λe=>qr e<|C c 431 [a1,F] λs=>qT s λk=>(qe k (C c 431 [G,F] λt=>D.truth t)<|some false).bind λl=>some<|D.bool l
def aap:Ann:=.t<|.t<|.t<|.w im<|.w im<|.w im<|.w im<|.t<|.t<|.w (.g [] 33)<|.t<|.w (.g [] 28) .o
def aaq:Ann:=.t<|.t<|.t<|.t<|.t pp
def TO:M5:=λq c a0 a1 a2 d e=>qC .lss e J0 λb2=>qO b2 (qh .gtr e<|Jn 12) (some<|D.tup [D.sl [],J1])<|Q a0 [0] λy=>Q a2 [0] λz=>C c 416 [y,a1,z,d] λt=>qp t 0 λA=>qp t 1 λm=>Q a0 [1] λn=>Q a2 [1] λo=>C c 416 [n,a1,o,d] λa=>qp a 0 λw=>qp a 1 λp=>qN m λf=>qO f (qz p) (some<|D.tup [D.sl [],Jn 150])<|C c 74 [J0] λk=>C c 74 [J1] λl=>C c 479 [a0,a1,a2,d,k,l,e] λb=>qp b 0 λr=>qS r λj=>qp b 1 λs=>qn s (some<|D.tup [D.sl [],Jn 160])<|some<|D.tup [D.sl j,J0]
def TCh:TT:=e2 433 Tryz.f86 TD aaf+(e3 434 Tryz.f102 TE aag+e2 435 Tryz.f87 TF aah)+(e1 447 Tryz.f182 TG aai+(e1 448 Tryz.f184 TH aaj+e1 449 Tryz.f185 TI aak))+(e2 450 Tryz.f186 TJ aal+(e2 456 Tryz.f263 TL aam+W7)+(e5 471 Tryz.f7 TN aao+(eR 473 Tryz.f9 aap+e5 474 Tryz.f10 TO aaq)))
end Sy
end
set_option maxHeartbeats 0
noncomputable section
namespace Sy
open Go Go.Proofs
def aar:Ann:=let b:LO:=[fw,fx,fy,fI,fT,es,ez,ng,(36864,.lp (some<|.ret) 0)];let a:LS:=[iB];(.t<|.w (.w Wa9<|.w (.t<|.w (.p [iB,(2,.s cX 16390),(3,.s K3 16391),(4,.s cX 16392),(5,.s K3 16393),Wbn,(13,.i)] [fw,fx,fy,fI,fT,es,ez,ng,(16390,.k cX 2),(16391,.k K3 3),(16392,.k cX 4),(16393,.k K3 5),(20493,.k oD 1),WaK,eB] [12] [(.r,u a b []),(.x 0,u a [fw,fx,fy,fI,fT,es,ez,ng,eB] [])]<|.t<|.t<|.cut [(.m,u [iB,(2,.s cX 16390),(3,.s K3 16391),(4,.s cX 16392),(5,.s K3 16393),Wbn] [fw,fx,fy,fI,fT,es,ez,ng,(16390,.k cX 2),(16391,.k K3 3),(16392,.k cX 4),(16393,.k K3 5),(20493,.e oD<|.v oD),WaK,eB] [12,13]),(.r,u a b [])] [12,13] [16390,16391,16392,16393,36864] (.w (.t<|.w (.g [] 13)<|.t<|.w (.regI [] 20 Wa8) .o) .o) .o) .o) .o) .o)
def TP:M6:=λl c a0 a1 a2 j d e=>C c 485 [d,e] λr1=>qy l (λa=>qc .lss (Z a 0) J3 (qb (qi (Z a 0) 3 λy=>qf (D.st [r1,d,e]) y λw=>C c 508 [a0,w] λz=>C c 508 [a2,w] λA=>C c 416 [z,a1,A,j] λv=>qp v 0 λg=>qp v 1 λr=>qn r (some (0,[Z a 1,Z a 2,Z a 3,Z a 4,Z a 5,Z a 6,Z a 7,Z a 8,D.st [r1,d,e]]))<|Q g [0] λi=>Q g [0] λs=>C c 507 [s,a0,a1,D.st [r1,d,e]] λm=>Q g [0] λt=>C c 97 [t] λn=>C c 507 [n,a2,j,D.st [r1,d,e]] λo=>C c 357 [o] λp=>C c 490 [m,p] λh=>C c 483 [D.st [i,h],Z a 1,Z a 2,Z a 3,Z a 4,Z a 5,Z a 6] λq=>qt q (some (1,[Z a 1,Z a 2,Z a 3,Z a 4,Z a 5,Z a 6,D.st [i,h],bT]))<|some (0,[Z a 1,Z a 2,Z a 3,Z a 4,Z a 5,Z a 6,Z a 7,Z a 8,D.st [r1,d,e]])) λb=>if b.1=0 then(qj (Z a 0) λu=>iL [u,Z b.2 0,Z b.2 1,Z b.2 2,Z b.2 3,Z b.2 4,Z b.2 5,Z b.2 6,Z b.2 7]) else(iR (0,[Z b.2 0,Z b.2 1,Z b.2 2,Z b.2 3,Z b.2 4,Z b.2 5,Z b.2 6,Z b.2 7])))<|iR (1,[Z a 1,Z a 2,Z a 3,Z a 4,Z a 5,Z a 6,Z a 7,Z a 8])) [J0,a0,a1,a2,j,d,e,D.st [D.st [J0,J0,J0],D.st [D.st [S,S,aw aY],D.st [S,S,aw aY]]],S] λf=>if f.1=0 then(some<|D.tup [Z f.2 6,Z f.2 7]) else(some<|D.tup [D.st [D.st [J0,J0,J0],D.st [D.st [S,S,aw aY],D.st [S,S,aw aY]]],S])
def aas:Ann:=us
def TQ:M7:=λs c a0 a1 a2 f g e h=>C c 476 [a0,a1,a2,f,g,e] λr1=>qp r1 0 λt=>qp r1 1 λu=>qt u (some<|D.tup [D.sl [D.st [e,t]],bT])<|qc .leq h J0 (some<|D.tup [D.sl [],S])<|C c 485 [g,e] λp=>P .sub h J1 λv=>C c 479 [a0,a1,a2,f,g,p,v] λq=>qp q 0 λk=>qS k λa=>qp q 1 λl=>qn l (some<|D.tup [D.sl [],S])<|P .sub h J1 λm=>C c 479 [a0,a1,a2,f,p,e,m] λd=>qp d 0 λn=>qS n λb=>qp d 1 λo=>qn o (some<|D.tup [D.sl [],S])<|qu a b<|some<|D.tup [D.sl<|a++b,bT]
def aat:Ann:=.t<|.t<|.w (.t<|.w (.p [WaZ,Waj,ov,sw,(11,.s be 8203),(12,.s be 8204),(19,.i)] [Wbz,(4102,.k K3 6),Waz,O',(8203,.e be<|.v be),(8204,.k be 12)] [17,18] [(.r,sx),(.x 0,u [(11,.s be 8203),(12,.s be 8204)] [(8203,.e be<|.v be),(8204,.k be 12)] [])] .o) .o) .o
def TR:M5:=λl c a0 a1 a2 H F=>C c 74 [J0] λr1=>C c 74 [J1] λG=>qS F λJ=>qy l (λv4=>qc .lss (Z v4 0) (jl J) (qX F (Z v4 0) λb=>Q b [0] λs=>C c 136 [s] λm=>qN m λd=>qo d (Q b [0] λt=>C c 73 [t,Z v4 1] λn=>qh .leq n J0) λf=>qo f (Q b [0] λv=>C c 73 [v,G] λo=>qh .gtr o J0) λh=>qo h (Q b [0,1] λx=>C c 54 [Jn 1048576] λp=>C c 90 [x,p] λq=>qh .gtr q J0) λj=>qO j (Q b [1] λz=>Q b [0] λA=>C c 483 [z,a0,a1,a2,H,Z v4 1,A] λr=>qz r) (iR (0,[S]))<|Q b [0] λu=>qj (Z v4 0) λE=>iL [E,u])<|iR (1,[Z v4 1])) [J0,r1] λa=>qr a<|some<|bq (Z a.2 0) G
def KH:M7:=λl c a0 a1 a2 d e a b=>C c 496 [a0] λr1=>qn r1 (some S)<|C c 497 [a1,a2,Jn<|-1,a0,a,b] λi=>qT i λg=>(qe g (C c 497 [d,e,J1,a0,a,b] λj=>D.truth j)<|some false).bind λh=>some<|D.bool h
def TS:M2:=λl c a0 a1=>C c 173 [a0,a1] λr1=>C c 333 [J1,J2] λa=>C c 174 [r1,a] λb=>some b
def aau:Ann:=.t<|.t<|.t<|.w (.t<|.w (.p [(5,.s be 4101),(6,.s oD 4102),(7,.s AL 8199),(9,.s oD 12297),(17,.i)] [(4101,.k be 5),(4102,.k oD 6),(8199,.k AL 7),(12297,.e oD<|.v oD)] [8] [(.x 0,u [(6,.s oD 4102),(9,.s oD 12297)] [(4102,.k oD 6),(12297,.e oD<|.v oD)] [])] eE) .o) .o
def TU:M3:=λl c a0 a1 a2=>C c 505 [a0,a1] λr1=>qp r1 0 λi=>qp r1 1 λj=>qy l (λv4=>qc .lss (Z v4 0) J3 (qJ (Z v4 0) 3 i λk=>C c 506 [k,a2] λh=>C c 506 [j,a2] λa=>C c 352 [h,a] λb=>qi (Z v4 0) 3 λyA=>qs (Z v4 1) [yA] b λe=>qj (Z v4 0) λf=>iL [f,e])<|iR (0,[Z v4 1])) [J0,D.st [D.st [D.st [S,S,aw aY],D.st [S,S,aw aY]],D.st [D.st [S,S,aw aY],D.st [S,S,aw aY]],D.st [D.st [S,S,aw aY],D.st [S,S,aw aY]]]] λd=>some<|Z d.2 0
def aav:Ann:=let a:LO:=[(4096,.e K3<|.st [K2] [.ow h]),(8193,.e K3<|.st [K2] [.ow h])];(.t<|.t<|.w (.t<|.w (.p [(0,.s K3 4096),(1,.s K3 8193),iA] a [] [(.x 0,u [(0,.s K3 4096),(1,.s K3 8193)] a [])] .o) .o) .o)
def aaw:Ann:=.t<|.w (.w (.t<|.t<|.t<|.t<|.t<|.w pI .o) .o)<|.t g7
def KI:M2:=λP c a0 a1=>C c 136 [a0] λr1=>qN r1 λI=>qo I (C c 136 [a1] λL=>qz L) λK=>qO K (C c 73 [a0,a1] λM=>qh .gtr M J0) (C c 130 [] λk=>some k)<|C c 342 [a0] λl=>qC .leq l J0 λf=>qA f (C c 342 [a1] λm=>qh .geq m J0) (C c 74 [J0] λn=>some n)<|C c 342 [a1] λo=>qc .lss o J0 (C c 357 [a1] λp=>C c 357 [a0] λq=>C c 490 [p,q] λr=>C c 357 [r] λs=>some s)<|C c 509 [a0] λt=>C c 138 [t] λb=>C c 73 [b,a1] λu=>qc .leq u J0 (some b)<|C c 510 [a0] λv=>C c 138 [v] λa=>C c 74 [J1] λw=>C c 74 [J1] λx=>C c 336 [a1,a] λy=>C c 352 [x,y] λz=>C c 74 [J1] λA=>C c 336 [a0,a] λB=>C c 352 [A,B] λh=>C c 490 [z,h] λE=>C c 352 [w,E] λF=>C c 173 [a,F] λG=>some G
def aax:Ann:=.t<|.w (.t<|.w (.p [(1,.s dH 4097),Wap] [(4097,.k dH 1)] [6] [(.r,om),(.x 0,u [(1,.s dH 4097)] [(4097,.k dH 1)] [])] .o) .o) .o
def TW:M1:=λp c a0=>Q a0 [0] λx1=>qy p (λh=>qc .lss (Z h 0) J3 (qi (Z h 0) 3 λo=>qf x1 o λl=>qC .geq l (Jn 2305843009213693952) λn=>qO n (qh .leq l<|Jn<|-2305843009213693952) (iR (0,[S]))<|qj (Z h 0) λi=>iL [i])<|iR (1,[])) [J0] λa=>qr a<|Q a0 [0] λj=>qT (nq j<|D.st [J0,J0,J0]) λe=>(qe e (Q a0 [1] λk=>C c 136 [k] λg=>D.truth g)<|some false).bind λf=>some<|D.bool f
def aay:Ann:=let a:LO:=[(0,.k dH 3),(1,.k be 4),(2,.k be 5)];(.t<|.w (.t<|.w (.p [(3,.s dH 0),(4,.s be 1),(5,.s be 2),(6,.s cX 4102),Wbd] [(0,.k dH 3),(1,.k be 4),(2,.k be 5),(4102,.k cX 6)] [2,13,14] [(.r,u [(3,.s dH 0),(4,.s be 1),(5,.s be 2),WaP] a []),(.x 0,u [(3,.s dH 0),(4,.s be 1),(5,.s be 2)] a [])] iz) .o) .o)
def TX:M6:=λl c a0 a1 a2 i j k=>Q a1 [0] λx1=>qS x1 λm=>qy l (λg=>qc .lss (Z g 0) (jl m) (qX x1 (Z g 0) λo=>C c 500 [a0,o,i] λn=>C c 54 [a2] λd=>C c 499 [n,d] λe=>C c 498 [e,j,k] λf=>qn f (iR (0,[S]))<|qj (Z g 0) λh=>iL [h])<|iR (1,[])) [J0] λa=>qr a<|some bT
def aaz:Ann:=.t<|.t<|.w (.t<|.w (.p [(8,.b),(20,.i)] [] [18,19] [(.x 0,S1 [(8,.b)])] .o) .o) .o
def TY:M3:=λp c a0 a1 a2=>C c 516 [a0,a1,a2] λr1=>qp r1 0 λj=>qp r1 1 λm=>qS j λl=>qy p (λa=>qc .lss (Z a 1) (jl l) (qX j (Z a 1) λg=>qT (Z a 0) λb=>(qe b (C c 129 [g] λe=>qh .geq e J0)<|some false).bind λd=>qj (Z a 1) λi=>iL [D.bool d,i])<|iR (0,[Z a 0])) [m,J0] λf=>some<|Z f.2 0
def aaA:Ann:=.t<|.t<|.w (.regI [] 4<|.w (.t<|.t<|.w (.regI [] 8<|.w (.t<|.t<|.w (.t<|.w (.loop ⟨s6,[(4099,.e z<|.v z),(20483,.e cn<|.v cn),(20484,.e cn<|.ow z),(20485,.fv<|.clo 141 [.ptr z 4099 []])],[14]⟩ [(.r,rf),(.x 0,sq)] wm) .o) zb) .o) .o) .o) .o
def TZ:M2:=λl c a0 a1=>C c 517 [a1] λr1=>qn r1 (C c 518 [] λN=>some N)<|C c 546 [a0] λQ=>qT Q λM=>qO M (C c 546 [D.sl []] λR=>D.truth R) (C c 518 [] λw=>some w)<|qS a0 λp=>(D.max2 (jl p) J0).bind λg=>(D.max2 g J0).bind λF=>(D.natOf F).bind λn=>if n<=1073741824 then((D.max2 g J0).bind λG=>qy l (λa=>qc .lss (Z a 1) G (C c 550 [Z a 3,Z a 1] λx=>C c 550 [qW a 4,Z a 1] λy=>C c 519 [x,y,Z a 2] λz=>C c 552 [z] λd=>C c 517 [d] λA=>qn A (C c 518 [] λB=>iR (0,[B]))<|qu (qV a 0) [d]<|qj (Z a 1) λH=>iL [D.sl<|(qV a 0)++[d],H,Z a 2,Z a 3,qW a 4])<|iR (1,[qW a 0])) [D.sl [],J0,a1,a0,D.sl []] λe=>qr e<|qy l (λb=>qS (Z b 0) λq=>qC .gtr (jl q) J0 λj=>qA j (qS (Z b 0) λr=>P .sub (jl r) J1 λI=>qX (Z b 0) I λJ=>C c 129 [J] λh=>D.truth<|bq h J0) (qS (Z b 0) λs=>P .sub (jl s) J1 λK=>qS (Z b 0) λt=>(D.natOf K).bind λo=>(D.cut t 0 o).bind λu=>iL [D.sl u])<|iR (0,[Z b 0])) [qW e.2 0] λf=>qS (Z f.2 0) λv=>qc .gtr (jl v) (Jn 25) (C c 518 [] λE=>some E)<|some<|Z f.2 0) else none
def aaB:Ann:=.t<|.t<|.t<|.w (.t<|.w (.p [WaV,(9,.v cn),(19,.i)] [Wbw] [8,18] [(.x 0,u [WaV,(9,.v cn)] [Wbw] [8])] .o) .o) pr
def T1:M3:=λs c a0 a1 a2=>C c 505 [a0,a1] λr1=>qp r1 0 λp=>qp r1 1 λq=>qy s (λv4=>qc .lss (Z v4 1) J3 (qi (Z v4 1) 3 λn=>qf p n λr=>qi (Z v4 1) 3 λo=>Q a2 [0,o] λi=>C c 54 [i] λa=>C c 499 [r,a] λb=>C c 520 [Z v4 0,b] λd=>qj (Z v4 1) λj=>iL [d,j])<|iR (0,[Z v4 0])) [D.sl [],J0] λe=>Q a2 [1,1] λk=>C c 499 [Z e.2 0,k] λf=>Q a2 [1,0] λl=>C c 499 [q,l] λg=>C c 521 [f,g] λh=>some h
def aaC:Ann:=let a:LO:=[(4098,.k cX 2),mv,(4100,.k AL 4),(86030,.k W6 14),(90127,.e AL<|.v AL)];(.t<|.w WaR<|.w WaB<|.t<|.t<|.w (.regI [] 57 .o)<|.t<|.w (.t<|.w (.p [Wak,oj,Wa0,Wbo,Was,(89,.i)] a [7] [(.x 0,u [Wa0,Was] [(4100,.k AL 4),(90127,.e AL<|.v AL)] [7])]<|.t<|.t<|.w (.w (.t<|.w (.g [] 22)<|.t<|.w (.p [Wak,oj,Wa0,Wbo,Was,(115,.i)] a [7,16,89,114] [(.x 2,u [Wak,oj,Wa0,Wbo,Was] a [7,89])]<|.t<|.t<|.w (.w (.t<|.g [] 15) .o) .o) .o) .o) .o) .o) .o)
def T2:M2:=λlp c a0 a1=>C c 530 [a0] λr1=>C c 531 [a0] λr2=>Q r1 [0] λg=>Q r1 [1] λd=>Q r1 [2] λe=>Q r1 [3] λf=>C c 54 [Jn<|-1] λr7=>C c 499 [g,r7] λM=>C c 533 [J1,D.sl [g,g,d,d]] λr9=>C c 533 [J1,D.sl [e,e,f,f]] λq=>C c 521 [r9,q] λr=>C c 533 [J2,D.sl [d,e,M,f]] λs=>C c 533 [J2,D.sl [d,f,g,e]] λt=>C c 533 [J2,D.sl [d,e,g,f]] λu=>C c 533 [J1,D.sl [g,g,e,e]] λv=>C c 533 [J1,D.sl [d,d,f,f]] λw=>C c 521 [v,w] λx=>C c 533 [J2,D.sl [e,f,M,d]] λy=>C c 533 [J2,D.sl [d,f,M,e]] λz=>C c 533 [J2,D.sl [e,f,g,d]] λA=>C c 533 [J1,D.sl [g,g,f,f]] λB=>C c 533 [J1,D.sl [d,d,e,e]] λa2=>C c 521 [B,a2] λE=>qy lp (λa=>qc .lss (Z a 0) J3 (qi (Z a 0) 3 λj=>Q a0 [0,0,j] λN=>qi (Z a 0) 3 λk=>Q a0 [1,0,k] λO=>qi (Z a 0) 3 λl=>Q a0 [0,0,l] λa4=>P .sub O a4 λa3=>C c 535 [D.sl [N,a3]] λF=>C c 534 [r2,F] λG=>qi (Z a 0) 3 λm=>qs (Z a 1) [m] G λR=>qy lp (λb=>qc .lss (Z b 0) J3 (qi (Z b 0) 3 λn=>qf a1 n λS=>qJ (Z a 0) 3 (Z b 1) λT=>P .mul J3 (Z a 0) λU=>P .add U (Z b 0) λV=>qi V 9 λo=>Q (D.st<|afN (List.replicate 9<|D.sl []) [(0,r),(1,s),(2,t),(3,u),(4,x),(5,y),(6,z),(7,A),(8,E)]) [o] λW=>C c 54 [S] λH=>C c 499 [W,H] λI=>C c 520 [T,I] λJ=>qi (Z a 0) 3 λp=>qs (Z b 1) [p] J λX=>qj (Z b 0) λY=>iL [Y,X])<|iR (0,[Z b 1])) [J0,R] λK=>qj (Z a 0) λh=>iL [h,Z K.2 0])<|iR (0,[Z a 1])) [J0,D.st [D.sl [],D.sl [],D.sl []]] λL=>some<|D.tup [Z L.2 0,r2]
def T4:M2:=λl c a0 a1=>C c 536 [a0,a1] λr1=>qp r1 0 λb=>qp r1 1 λd=>C c 62 [b,d] λa=>some a
def aaD:Ann:=let a:LO:=[(0,.k oD 3),tk,Wbz,WbA,WaL];(.t<|.w WaB<|.w (.t<|.w (.p [WbB,sP,WaZ,Wa1,Wa2,(26,.i)] a [24,25] [(.x 0,u [WbB,Wa1,Wa2] [(0,.k oD 3),WbA,WaL] [])]<|.t<|.t<|.w (.w (.t<|.t<|.w (.p [WbB,sP,WaZ,Wa1,Wa2,(10,.s h 24586),(31,.i)] [(0,.k oD 3),tk,Wbz,WbA,WaL,(24586,.k h 10)] [24,25,26,30] [(.x 2,u [WbB,sP,WaZ,Wa1,Wa2] a [24,25,26])] Wan) .o) .o) .o) .o) .o)
def T5:M4:=λL c a0 a1 a2 o=>qY a2 [0] J0 λt=>Q o [0] λu=>C c 486 [a1,t,u] λr=>C c 72 [a0,r] λs=>Q a2 [0] λp=>qS p λq=>qy L (λv10=>qc .lss (Z v10 0) (jl q) (qX p (Z v10 0) λk=>qy L (λa=>qc .lss (Z a 0) J3 (qi (Z a 0) 3 λe=>qf o e λl=>C c 486 [a1,k,l] λf=>C c 72 [a0,f] λg=>C c 337 [Z a 1,g] λh=>qj (Z a 0) λm=>iL [m,h])<|iR (0,[Z a 1])) [J0,Z v10 1] λi=>qj (Z v10 0) λn=>iL [n,Z i.2 0])<|iR (0,[Z v10 1])) [J0,s] λj=>some<|Z j.2 0
def TCi:TT:=e6 476 Tryz.f12 TP aar 3+eR 478 Tryz.f14 aas+(e7 479 Tryz.f15 TQ .leaf+e5 481 Tryz.f18 TR aat)+(e7 483 Tryz.f21 KH .leaf 1+e2 485 Tryz.f25 TS .leaf+(e3 486 Tryz.f30 TU aau+(eR 487 Tryz.f39 aav+eR 488 Tryz.f40 .leaf)))+(e2 490 Tryz.f46 KI aaw+e1 496 Tryz.f62 TW aax+(e6 497 Tryz.f63 TX aay+e3 498 Tryz.f64 TY aaz)+(e2 499 Tryz.f65 TZ aaA 4+e3 500 Tryz.f66 T1 aaB+(e2 505 Tryz.f83 T2 aaC+(e2 506 Tryz.f85 T4 .leaf+e4 507 Tryz.f112 T5 aaD))))
end Sy
end
set_option maxHeartbeats 0
noncomputable section
namespace Sy
open Go Go.Proofs
def aaE:Ann:=let a:LO:=[(4098,.k cX 2),(4099,.k be 3),WbC,(8197,.e gP<|.v gP)];(.t<|.t<|.w (.t<|.w (.p [Wak,WaS,Wa3,Wa4,(16,.i)] a [15] [(.x 0,u [Wak,WaS,Wa3,Wa4] a [])]<|.t<|.t<|.w (.w (.t Wae) .o) .o) .o)<|.t<|.w (.t<|.w (.p [WaS,Wa3,Wa4,(9,.s Kf 20489),(45,.i)] [(4099,.k be 3),WbC,(8197,.k gP 5),(20489,.e Kf<|.v Kf)] [44] [(.x 2,u [Wa3,Wa4,(9,.s Kf 20489)] [WbC,(8197,.k gP 5),(20489,.e Kf<|.v Kf)] [])]<|.t<|.t<|.w (.w (.t<|.t D') .o) .o) .o) .o)
def T6:M2:=λa2 c a0 a1=>Q a0 [0,0] λx1=>qy a2 (λb=>qc .lss (Z b 0) J3 (qi (Z b 0) 3 λI=>qf x1 I λG=>C c 74 [G] λJ=>qi (Z b 0) 3 λi8=>Q a0 [1,0,i8] λM=>P .sub M G λt=>C c 74 [t] λk=>C c 174 [a1,k] λl=>C c 173 [J,l] λm=>C c 537 [m] λn=>C c 202 [n] λd=>qp d 0 λu=>qp d 1 λK=>qi (Z b 0) 3 λh=>qs (Z b 1) [0,h] u λv=>qj (Z b 0) λw=>iL [w,v])<|iR (0,[Z b 1])) [J0,D.st [D.st [J0,J0,J0],D.st [J0,J0,J0,J0]]] λo=>C c 530 [a0] λp=>qy a2 (λa=>qc .lss (Z a 0) (Jn 4) (qi (Z a 0) 4 λi=>qf p i λx=>C c 506 [x,a1] λe=>Q e [0] λy=>Q a1 [1] λz=>Q e [1] λA=>C c 132 [z,A] λq=>C c 61 [y,q] λr=>qi (Z a 0) 4 λj=>qs (Z a 1) [j] r λB=>qj (Z a 0) λN=>iL [N,B])<|iR (0,[Z a 1])) [J0,D.st [D.st [S,S,aw aY],D.st [S,S,aw aY],D.st [S,S,aw aY],D.st [S,S,aw aY]]] λs=>C c 538 [Z s.2 0] λf=>qp f 0 λE=>qp f 1 λL=>qs (Z o.2 0) [1] E λF=>some F
def T7:M1:=λl c a0=>C c 357 [a0] λr1=>C c 510 [r1] λa=>C c 68 [a] λb=>some b
def T8:M1:=λl c a0=>C c 136 [a0] λr1=>qn r1 (C c 119 [] λb=>some b)<|Q a0 [0] λe=>Q a0 [1] λf=>C c 132 [e,f] λd=>some d
def TCj:TT:=e2 508 Tryz.f115 T6 aaE+(e1 509 Tryz.f116 T7 .leaf+e1 510 Tryz.f117 T8 .leaf)
end Sy
end
end
noncomputable section
namespace Sy
open Go Go.Proofs
section
variable{y:D}{A:Ty}{B:Nat->Option Nat}
inductive AnnU where
 | fin (a:Ann)
 | seq (a:Ann) (b:AnnU)
 | next (a:Ann) (b:AnnU)
 | asc (a:AnnU)
 | thaw (x:Nat) (e:Ty) (a b:AnnU)
mutual
def nI(dead:List Nat):AV->Bool
 | .d t _=>bS t
 | .nils=>true
 | .own t v _=>bS t&&!(dead.contains v)
 | .st _ l=>AZ dead l
 | _=>false
def AZ(dead:List Nat):List AV->Bool
 | []=>true
 | a::l=>nI dead a&&AZ dead l
end
def EF(dead:List Nat)(v:AV):AV:=if nI dead v then v else match v with
 | .ptr t id p=>.ptr t id p
 | _=>.undef
def EE(dead:List Nat):Option Ob->Option Ob
 | some (.one t v)=>if nI dead v then some (.one t v) else none
 | _=>none
def DB(s:St)(x:Nat):List Nat:=match s.tm x with
 | .own _ v _=>v::s.dead
 | _=>s.dead
def Az(s:St)(e:Ty)(x:Nat):Option (List D):=match s.tm x with
 | .own a v l=>if a.beq e&&!(s.dead.contains v)&&bS e&&aj e then some l else none
 | _=>none
def thaw(s:St)(x:Nat)(e:Ty)(l:List D):St:=
 { tm:=λi=>if i=x then .mem e ((s.fresh+1)*4096) else EF (DB s x)<|s.tm i,ob:=λi=>if i=(s.fresh+1)*4096 then some (.many e l) else EE (DB s x)<|s.ob i,fresh:=s.fresh+1,dead:=DB s x,nt:=s.nt,lkS:=[],lkO:=[4095] }
def C9(E:Env)(fn:Func)(f:Ty):Code->List Code->AnnU->St->Option D
 | c,[],.fin a,s=>ev E c a D s λe s=>match e with
  | .exit _=>none
  | _=>results E s f fn.results.toList
 | .seq c d,st,.seq a b,s=>ev E c a D s λe s'=>match e with
  | .normal=>C9 E fn f d st b s'
  | .ret=>results E s' f fn.results.toList
  | .exit _=>none
 | c,d::st,.next a b,s=>ev E c a D s λe s'=>match e with
  | .normal=>C9 E fn f d st b s'
  | .ret=>results E s' f fn.results.toList
  | .exit _=>none
 | .seq c d,st,.asc a,s=>C9 E fn f c (d::st) a s
 | c,st,.thaw x e a b,s=>(Az s e x).bind λl=>if l.isEmpty then C9 E fn f c st a (s.put (some x)<|.d (.sl e)<|.sl []) else C9 E fn f c st b (thaw s x e l)
 | _,_,_,_=>none
def Vm(E:Env)(fn:Func)(ann:AnnU)(b:List Ty)(a:Ty)(args:List D):Option D:=
 match fn.body with
 | none=>none
 | some c=>C9 E fn a c [] ann<|qQ fn b args
section
variable{P:Program}{E:Env}{w0:Root}{S:Nat->Nat->Prop}{γ:Nat->Option Nat}{β:Nat->Option (Nat×Nat)}{s:St}{a:Act}{w:World}
def Km{w w':World}{S S':Nat->Nat->Prop}{t:Ty}{x:D}{cs:List Value}(a:bS t=true)(b:wt t x)(h:c7 w S x.flat cs):c7 w' S' x.flat cs:=
 (dm<|iP t x a b).2 ((dm<|iP t x a b).1 h)
mutual
theorem AI{w:World}{S:Nat->Nat->Prop}{γ γ':Nat->Option Nat}{β:Nat->Option (Nat×Nat)}{ob ob':Nat->Option Ob}{dead:List Nat}{v b':Nat}(hb:∀ u b e,u ∉ v::dead->β u=some (b,e)->b≠b') :
  ∀ (x:AV) (cs:List Value),nI (v::dead) x=true->AC ⟨w,S,γ,β,ob,dead⟩ x cs->AC ⟨w,λb o=>S b o/\b≠b',γ',β,ob',v::dead⟩ x cs
 | .d t x,cs,h,k=>by simp[AC] at k ⊢;exact⟨k.1,k.2.1,Km h k.1 k.2.2⟩
 | .nils,cs,_,k=>by simpa only[AC] using k
 | .own t u l,cs,h,k=>by
  simp[nI,Y,zCa] at h;have hu:u ∉ v::dead:=by simpa using h.2
  have hu':u ∉ dead:=λhh=>hu<|zsa _ hh;simp[AC] at k ⊢;obtain⟨k1,k2,A,cap,k3,k4,k5⟩:=k;refine⟨k1,k2,A,cap,k3,?_,λ_=>k5 hu'⟩;obtain⟨_,_,b,off,e1,e2,e3,cs2,e4,e5⟩:=k4.elems;cases e1;have lf:=iQ h.1 l k2;by_cases hne:l=[]
  ·subst hne;exact afw (b:=0) (off:=0) (.inl rfl) e3 ⟨[],c7.nil,j2⟩
  ·replace e2:=e2.resolve_left hne;refine afw (.inr e2) e3 ⟨cs2,(dm lf).2<|(dm lf).1 e4,λi c hi=>⟨⟨(e5 i c hi).1,?_⟩,(e5 i c hi).2⟩⟩;rcases k5 hu' with⟨z1,_⟩|⟨b2,off2,z1,z2,_⟩
   ·simp_all
   ·grind
 | .st ts l,cs,h,k=>by simp[AC] at k ⊢;exact⟨k.1,k.2.1,Cq hb l cs (by simpa only[nI] using h) k.2.2⟩
 | .ptr ..,_,h,_|.fptr ..,_,h,_|.mem ..,_,h,_|.clo ..,_,h,_|.map ..,_,h,_|.sub ..,_,h,_|.yld ..,_,h,_|.tpo ..,_,h,_|.gone,_,h,_|.undef,_,h,_=>by cases h
theorem Cq{w:World}{S:Nat->Nat->Prop}{γ γ':Nat->Option Nat}{β:Nat->Option (Nat×Nat)}{ob ob':Nat->Option Ob}{dead:List Nat}{v b':Nat}(hb:∀ u b e,u ∉ v::dead->β u=some (b,e)->b≠b') :
  ∀ (l:List AV) (cs:List Value),AZ (v::dead) l=true->jW ⟨w,S,γ,β,ob,dead⟩ l cs->jW ⟨w,λb o=>S b o/\b≠b',γ',β,ob',v::dead⟩ l cs
 | [],cs,_,k=>by simpa only[jW] using k
 | x::l,cs,h,k=>by simp[AZ,Y] at h;simp[jW] at k ⊢;obtain⟨c1,c2,e,k1,k2⟩:=k;exact⟨c1,c2,e,AI hb x c1 h.1 k1,Cq hb l c2 h.2 k2⟩
end
def OB{w:World}{S:Nat->Nat->Prop}{γ:Nat->Option Nat}{β:Nat->Option (Nat×Nat)}{ob a:Nat->Option Ob}{dead:List Nat}{v b':Nat}(f:∀ u b e,u ∉ v::dead->β u=some (b,e)->b≠b')
  {y:AV} {x:Value} (h:nI (v::dead) y=true) (k:AR ⟨w,S,γ,β,ob,dead⟩ y x):AR ⟨w,λb o=>S b o/\b≠b',B,β,a,v::dead⟩ y x:=by
 cases y<;>simp[AR] at k ⊢<;>try(cases h;done)
 case d t y=>
  simp[nI] at h;rcases k with⟨g,c,i⟩|⟨ts,rfl,_⟩
  ·exact .inl ⟨g,c,AK h c i⟩
  ·simp[bS] at h
 all_goals exact⟨k.1,AI f _ _ h k.2⟩
def GB(dead:List Nat)(v:AV):(nI dead v=true/\EF dead v=v)\/(∃ t id p,v=.ptr t id p/\EF dead v=v)\/EF dead v=.undef:=by
 by_cases h:nI dead v=true
 ·exact .inl ⟨h,zma h⟩
 ·cases v<;>first
   | exact .inr (.inl ⟨_,_,_,rfl,rfl⟩)
   | exact .inr (.inr (zha h))
theorem yj{dead:List Nat}{o:Option Ob}{o':Ob}(h:EE dead o=some o'):∃ t v,o=some (.one t v)/\o'=.one t v/\nI dead v=true:=by unfold EE at h;grind
theorem Rp.thaw(h:Rp w0 S γ β s a w){x:Nat}{e:Ty}{l:List D}(hl:Az s e x=some l)(R:l≠[]):∃ S' γ' β',Rp w0 S' γ' β' (thaw s x e l) a w:=by
 unfold Az at hl;split at hl<;>try(cases hl;done)
 rename_i A v l0 F;split at hl<;>try(cases hl;done)
 rename_i c;cases hl;simp[Y,zCa] at c;obtain⟨⟨⟨O,P⟩,X⟩,hn⟩:=c;have:=ags _ _ O;subst this;have K:v ∉ s.dead:=by simpa using P
 have hx:x<s.nt:=by
  rcases zua x s.nt with k|k
  ·exact k
  ·have:=h.tmu x k;rw[F] at this;cases this
 have C:=h.tms x (by rw[h.nt];exact hx)
 rw[F] at C;simp[AR,AC] at C;obtain⟨n0,n1,U,ad,cap,n3,n4,n5⟩:=C;obtain⟨al,V,b',a0,e1,e2,e3,cs,c1,c2⟩:=n4.elems;cases e1;replace e2:=e2.resolve_left R;rcases n5 K with⟨rfl,_⟩|⟨b,off,q1,M,n,q3,q4,q5⟩
 ·cases e2
 rw[e2] at q1;cases q1;subst q5;obtain⟨row,B,ap⟩:=rt q3;obtain⟨k1,k2,k3⟩:=h.βn v _ _ K M;have E:ce w b'=some (cs++row.toList.drop cs.length).toArray:=by
  rw[B];congr 1;apply zkc;have:row.toList.take cs.length=cs:=by
   apply zTb;intro i;rcases zua i cs.length with hi|hi
   ·have:=(c2 i cs[i]<|zca hi).2;rw[cell_of_row w B,zbb] at this
    simp_all
   ·grind
  conv=>lhs;rw[<-zza cs.length row.toList,this]
 have d:DB s x=v::s.dead:=by simp[DB,F]
 have J:∀ u b e,u ∉ v::s.dead->β u=some (b,e)->b≠b':=λu b e m he I=>by subst I;exact m (by rw[h.βi u v b e _ (λy=>m<|zsa _ y) K he M];exact zBa)
 have hid:γ ((s.fresh+1)*4096)=none:=h.γf _ (by unfold St.base;omega)
 obtain⟨id,q⟩:∃ id,id=(s.fresh+1)*4096:=⟨_,rfl⟩;rw[<-q] at hid;refine⟨λb o=>S b o/\b≠b',λi=>if i=id then some b' else γ i,β,⟨h.ext,λt T=>?_,h.nt,λt T=>?_,λi o b z c=>?_,λi b c=>?_,λi H b c g=>?_,λi hi=>?_,λu b e m c=>?_,λu Z b e A m G c g=>?_,λu i b e m c L=>?_,λu m=>h.βf u ?_,λb o c=>h.Sb b o c.1,λb o c=>h.So b o c.1⟩⟩
 ·have j:=h.tms t T;have e0:(Sy.thaw s x A l).tm t=if t=x then .mem A id else EF (v::s.dead) (s.tm t):=by rw[q,<-d];rfl
  have e1:(Sy.thaw s x A l).ob=λi=>if i=id then some (.many A l) else EE (v::s.dead) (s.ob i):=by rw[q,<-d];rfl
  have e6:(Sy.thaw s x A l).dead=v::s.dead:=d;rw[e0,e1,e6];by_cases htx:t=x
  ·subst htx;rw[zma rfl];simp[AR,AC]
   simp_all
  ·rw[zha htx];rcases GB (v::s.dead) (s.tm t) with⟨Q,e2⟩|⟨t',H,p,hp,e2⟩|e2
   ·rw[e2];exact OB J Q j
   ·rw[e2,hp];rw[hp] at j;simp[AR,AC] at j ⊢;obtain⟨m0,b,off,m1,m2,m3⟩:=j;have r:H≠id:=λI=>by rw[I,hid] at m2;cases m2
    refine⟨m0,b,off,m1,by rw[zha r];exact m2,λo z=>?_⟩
    rw[zha r] at z;obtain⟨t2,v2,z1,z2,_⟩:=yj z
    simp_all
   ·rw[e2];simp[AR]
 ·have j:=T;simp[Sy.thaw];rw[zha (λI=>by subst I;exact z8a hx<|zOc.2 j),h.tmu t j]
  rfl
 ·have e1:(Sy.thaw s x A l).ob=λi=>if i=id then some (.many A l) else EE (v::s.dead) (s.ob i):=by rw[q,<-d];rfl
  have e6:(Sy.thaw s x A l).dead=v::s.dead:=d;rw[e1] at z;rw[e1,e6];simp only at z c;by_cases hii:i=id
  ·subst hii;rw[zma rfl] at z c;cases z;cases c;simp only[gM];exact⟨hn,U,λo z=>z.2 rfl,cs,_,E,(dm<|iQ X l U).2<|(dm<|iQ X l U).1 c1⟩
  ·rw[zha hii] at z c;obtain⟨t2,v2,z1,rfl,z3⟩:=yj z;have W:=h.obs i _ b z1 c;simp only[gM] at W ⊢;obtain⟨o1,o2,o3,N,o4,o5,o6⟩:=W;exact⟨o1,o2,λo y=>o3 o y.1,N,o4,AI J _ _ z3 o5,o6⟩
 ·replace c:(if i=id then some b' else γ i)=some b:=c
  split at c
  ·simp_all
  ·exact h.γn i b c
 ·replace c:(if i=id then some b' else γ i)=some b:=c
  replace g:(if H=id then some b' else γ H)=some b:=g
  split at c<;>split at g
  ·simp_all
  ·cases c;exact z8a g<|h.βγ v H _ _ K M
  ·cases g;exact z8a c<|h.βγ v i _ _ K M
  ·exact h.γi i H b c g
 ·have an:(s.fresh+1)*4096+4096<=i:=by simpa only[St.base,Sy.thaw] using hi
  have r:i≠id:=u0
  rw[zha r];refine h.γf i ?_;have e5:s.base=s.fresh*4096:=rfl;omega
 ·replace m:u ∉ v::s.dead:=by rw[<-d];exact m
  obtain⟨m1,m2,m3⟩:=h.βn u b e (λy=>m<|zsa _ y) c
  simp_all
 ·replace m:u ∉ v::s.dead:=by rw[<-d];exact m
  replace G:Z ∉ v::s.dead:=by rw[<-d];exact G
  exact h.βi u Z b e A (λy=>m<|zsa _ y) (λy=>G<|zsa _ y) c g
 ·replace m:u ∉ v::s.dead:=by rw[<-d];exact m
  replace L:(if i=id then some b' else γ i)=some b:=L
  split at L
  ·grind
  ·exact h.βγ u i b e (λy=>m<|zsa _ y) c L
 ·grind [St.base,Sy.thaw]
def Rp.empty(h:Rp w0 S γ β s a w){x:Nat}{e:Ty}(hl:Az s e x=some []):Rp w0 S γ β (s.put (some x)<|.d (.sl e)<|.sl []) a w:=by
 unfold Az at hl;split at hl<;>try(cases hl;done)
 rename_i j v l0 c;split at hl<;>try(cases hl;done)
 rename_i g;cases hl;simp[Y,zCa] at g;obtain⟨⟨⟨f,l⟩,t⟩,m⟩:=g;have:=ags _ _ f;subst this;have hx:x<s.nt:=by
  rcases zua x s.nt with k|k
  ·exact k
  ·have:=h.tmu x k;rw[c] at this;cases this
 have b:=h.tms x (by rw[h.nt];exact hx)
 rw[c] at b;simp only[AR,AC] at b;obtain⟨o,u,y,r,cap,p,q,z⟩:=b;have:=h.put (v:=.d (.sl j)<|.sl []) (val:=a.tmps.getD x undef) (by have n:=ak o p;rw[n];refine dC (by simpa only[aj] using m) (by simp only[wt];exact⟨[],rfl,j2⟩)<|afQ q)<|some x
 have e:a.put (some x) (a.tmps.getD x undef)=a:=by
  have:a.tmps.setIfInBounds x (a.tmps.getD x undef)=a.tmps:=by
   apply Array.ext_getElem?;intro i;rw[Array.getElem?_setIfInBounds];split
   ·rename_i hi;subst hi;split
    ·simp_all
    ·simp_all
   ·rfl
  show({ a with tmps:=a.tmps.setIfInBounds x (a.tmps.getD x undef) }:Act)=a;rw[this]
 rwa [e] at this
def RJ(h:EnvOk P E){fn:Func}{w:World}{S:Nat->Nat->Prop}(i:gg fn.results.size A=true){S':Nat->Nat->Prop}{β':Nat->Option (Nat×Nat)}{s':St}{a':Act}{w':World}
  (a:Rp (rq w S) S' B β' s' a' w') (hq:results E s' A fn.results.toList=some y):∃ v,(Go.results fn a'.tmps).run P w'=.ok v w'/\∃ v',Ending.returned v=.returned v'/\(∃ os d,w.drawn<=d/\w'=grown w os d)/\wt A y/\DR w' (λb o=>S b o\/(w.heap.size<=b/\b<w'.heap.size)) y v':=by
 obtain⟨v,j,k,l⟩:=ks h a i hq;refine⟨v,j,v,rfl,fV a.ext<|λ_ c=>c,k,l.mono (λ_ _ _=>rfl) λb o g=>?_⟩;rcases zua b w.heap.size with f|e
 ·exact .inl<|a.So b o g ⟨f,λc=>c⟩
 ·exact .inr ⟨e,a.Sb b o g⟩
def Y5(P:Program)(fn:Func)(w:World)(S:Nat->Nat->Prop)(a:Ty)(y:D):List Code->Exit->Act->World->Prop
 | []=>Ot P fn w S a y
 | d::st=>Exit.then (d.wpIn (FW none) 0 P<|Y5 P fn w S a y st)<|Y5 P fn w S a y st
theorem AM{fn:Func}{w:World}{S:Nat->Nat->Prop}{a':Act}{w':World}(h:Ot P fn w S A y .ret a' w'):∀ st,Y5 P fn w S A y st .ret a' w'
 | []=>h
 | _::st=>AM h st
theorem t7(m:EnvOk P E){fn:Func}{w:World}{S:Nat->Nat->Prop}(n:gg fn.results.size A=true):∀ (ann:AnnU) (c:Code) (st:List Code) {S':Nat->Nat->Prop} {q:Nat->Option Nat} {p:Nat->Option (Nat×Nat)} {s':St} {a':Act} {w':World},
  Rp (rq w S) S' q p s' a' w'->a'.defers=[]->4095∈s'.lkO->C9 E fn A c st ann s'=some y->c.wpIn (FW none) 0 P (Y5 P fn w S A y st) a' w'
 | .fin ann,c,st,S',q,p,s',a',w',h,j,g,a=>by
  cases st with
  | nil=>exact Md m n h j g (by cases c<;>exact a)
  | cons d st=>cases c<;>simp[C9] at a
 | .seq a1 b,c,st,S',q,p,s',a',w',h,j,g,a=>by
  cases c<;>first|(cases st<;>simp[C9] at a;done)|skip
  rename_i c d;have f:(ev E c a1 D s' λe s'=>match e with|.normal=>C9 E fn A d st b s'|.ret=>results E s' A fn.results.toList|.exit _=>none)=some y:=by cases st<;>exact a
  refine wpIn_seq<|Da m c a1 D _ y h f λe s2 S2 C B a2 F r s v o=>?_;cases e with
  | normal=>exact t7 m n b d st r (s.df0 g j) (by rw[v.lkO];exact g) o
  | ret=>exact AM ⟨s.df0 g j,RJ m n r o⟩ st
  | exit i=>cases o
 | .next a1 b,c,st,S',q,p,s',a',w',h,j,g,a=>by
  cases st with
  | nil=>cases c<;>simp[C9] at a
  | cons d st=>
   have f:(ev E c a1 D s' λe s'=>match e with|.normal=>C9 E fn A d st b s'|.ret=>results E s' A fn.results.toList|.exit _=>none)=some y:=by cases c<;>exact a
   refine Da m c a1 D _ y h f λe s2 S2 C B a2 F r s v o=>?_;cases e with
   | normal=>exact t7 m n b d st r (s.df0 g j) (by rw[v.lkO];exact g) o
   | ret=>exact AM ⟨s.df0 g j,RJ m n r o⟩ (d::st)
   | exit i=>cases o
 | .asc b,c,st,S',q,p,s',a',w',h,j,g,a=>by
  cases c<;>first|(cases st<;>simp[C9] at a;done)|skip
  rename_i c d;exact wpIn_seq (t7 m n b c (d::st) h j g (by cases st<;>exact a))
 | .thaw x e a1 b,c,st,S',q,p,s',a',w',h,j,g,a=>by
  have f:((Az s' e x).bind λl=>if l.isEmpty then C9 E fn A c st a1 (s'.put (some x)<|.d (.sl e)<|.sl []) else C9 E fn A c st b<|Sy.thaw s' x e l)=some y:=by cases c<;>cases st<;>exact a
  obtain⟨l,z,t⟩:=ab f;split at t
  ·rename_i u;have:l=[]:=by simpa using u
   subst this;exact t7 m n a1 c st (h.empty z) j (by rw[(agm _ _ _).2.2.2.2.2.1];exact g) t
  ·rename_i u;obtain⟨S2,C,B,k⟩:=h.thaw z (by simpa using u)
   exact t7 m n b c st k j (by simp[Sy.thaw]) t
def Fc(e:EnvOk P E){f:FuncId}{fn:Func}{ann:AnnU}{a:List Ty}{xs:List D}(i:P.funcs[f]?=some fn)(j:(decide (a.length<=fn.ntmps)&&gg fn.results.size A&&aP a)=true)
  (h:Vm E fn ann a A xs=some y):OC P a A f xs y:=by
 have k:gg fn.results.size A=true:=by simp_all
 refine pZ e (ann:=.hand) (K:=λs=>if s.lkO.contains 4095 then fn.body.bind λc=>C9 E fn A c [] ann s else none) i j ?_ λc d w S S' n m s' a' w' l nd b=>?_
 ·unfold Vm at h;unfold L7;split at h<;>try(cases h;done)
  rename_i c d;rw[d];try simp only
  have:Rk E (λs=>if s.lkO.contains 4095 then(some c).bind λc=>C9 E fn A c [] ann s else none) c .hand (qQ fn a xs)=some y:=by cases c<;>exact h
  omega
 ·split at b
  ·rename_i g;rw[d] at b;have key:=t7 e k ann c [] l nd (by simpa using g) b
   cases c<;>exact key
  ·cases b
end
def Vn(v:Nat)(lp:Lp)(f:Nat)(fn:Func)(ann:AnnU)(call:Nat->List D->Option D)(xs:List D):Option D:=
 (pe<|cj f).bind λs=>Vm (da lp call<|FB v lp call) fn ann s.1 s.2 xs
def VV(f:Nat)(fn:Func):Bool:=match pe (cj f) with
 | some (p,r)=>decide (p.length<=fn.ntmps)&&gg fn.results.size r&&aP p&&(Nat.beq (kg<|cj f) 0&&!(pM<|cj f))
 | none=>false
def Yr{v:Nat}{lp:Lp}(c:tD lp){f:Nat}{fn:Func}{ann:AnnU}(g:Tryz.prog.funcs[cj f]?=some fn)(a:VV f fn=true):xv f (Vn v lp f fn ann):=by intro call e d o xs y i b p;unfold Vn at b;unfold VV at a;rw[i] at b a;simp only[zba] at b;simp only[Y,zCa,zea] at a;obtain⟨⟨⟨j,k⟩,l⟩,m,n⟩:=a;rw[z3b m,n];exact⟨Fc (Vh (v:=v) c e) g (by simp[j,k,l]) b,λh=>by cases h⟩
def eU3(k:Nat)(fn:Func)(F:M3)(ann:AnnU)(v:Nat:=0)(g:Tryz.prog.funcs[cj k]?=some fn:=by kernel_rfl)(h:VV k fn=true:=by kernel_rfl)
  (e:∀ lp call a0 a1 a2,Vn v lp k fn ann call [a0,a1,a2]=F lp call a0 a1 a2:=by intros;kernel_rfl):TT:=lf k (λlp call xs=>match xs with|[a0,a1,a2]=>F lp call a0 a1 a2|_=>none) λlp c call f a d xs y i b j=>by
 dsimp only at b;split at b<;>try(cases b;done)
 exact Yr (v:=v) c g h call f a d _ y i ((e lp call _ _ _).trans b) j
end
end Sy
end
noncomputable section
set_option maxHeartbeats 0
noncomputable section
namespace Sy
open Go Go.Proofs
def aaF:AnnU:=(.seq .leaf<|.seq .leaf<|.seq (.reg [] 6)<|.seq .leaf<|.seq .leaf<|.seq (.tl<|.two (.loop ⟨[(9,.ow z),(35,.di)],[],[0,8,34]⟩ [(.ret,⟨[(6,.ow z),(7,.dv Ty.bool)],[],[]⟩),(.exit 0,⟨[(9,.ow z)],[],[]⟩)]<|.tl<|.tl<|.two (.two (.tl<|.tl<|.two (.tl<|.two (.loop ⟨[(9,.ow z),(11,.sp z 40971),(44,.di)],[(40971,.one z<|.dv z)],[0,8,34,35,42,43]⟩ [(.exit 2,⟨[(9,.ow z),(11,.sp z 40971)],[(40971,.one z<|.dv z)],[0,8,34,35]⟩)]<|.tl<|.tl<|.two (.two (.tl<|.reg [] 7) .leaf) .leaf) .leaf) .leaf) .leaf) .leaf) .leaf)<|.asc<|.seq .leaf<|.seq .leaf<|.thaw 9 z (.next (.two (.tl<|.two (.loop ⟨[(14,.sp z 32782),(71,.di)],[(32782,.keep z 14)],[9,70]⟩ [(.exit 4,⟨[],[],[9]⟩)]<|.tl<|.tl<|.two (.two (.tl<|.reg [] 9) .leaf) .leaf) .leaf) .leaf)<|.fin .leaf)<|.next (.two (.tl<|.two (.loop ⟨[(9,.same<|.mem z 40960),(14,.sp z 32782),(71,.di)],[(32782,.keep z 14),(40960,.many z)],[70]⟩ [(.exit 4,⟨[(9,.same<|.mem z 40960)],[(40960,.many z)],[]⟩)]<|.tl<|.tl<|.two (.two (.tl<|.reg [] 9) .leaf) .leaf) .leaf) .leaf)<|.fin<|.two (.reg [9] 3) .leaf)
def T9:M3:=λl c a0 a1 a2=>C c 546 [a0] λr1=>qT r1 λb2=>qO b2 (C c 547 [D.sl [a1,a2]] λa3=>qz a3) (some<|D.tup [D.sl [],S])<|C c 336 [a2,a1] λT=>C c 548 [a0,a1,T] λN=>C c 546 [N] λU=>qt U (some<|D.tup [D.sl [],S])<|qS a0 λw=>qy l (λf=>qc .lss (Z f 1) (jl w) (qS a0 λx=>P .sub (jl x) J1 λF=>C c 549 [F,Z f 1] λj=>qS j λy=>qy l (λd=>qc .lss (Z d 1) (jl y) (qX j (Z d 1) λG=>C c 550 [N,Z d 1] λz=>C c 61 [G,z] λA=>C c 57 [Z d 2,A] λB=>qj (Z d 1) λH=>iL [qW d 0,H,B])<|iR (0,[qW d 0,Z d 2])) [qW f 0,J0,D.st [S,S,aw aY]] λe=>Q (Z e.2 1) [0] λI=>qt I (iR (0,[D.sl [],S]))<|qu (qV e.2 0) [Z e.2 1]<|qj (Z f 1) λJ=>iL [D.sl<|(qV e.2 0)++[Z e.2 1],J])<|iR (1,[qW f 0])) [D.sl [],J0] λb=>if b.1=0 then(some<|D.tup [qW b.2 0,Z b.2 1]) else(C c 551 [qW b.2 0] λg=>C c 129 [g] λk=>if(List.isEmpty<|qV b.2 0) then(qt (nq k J0) (qy l (λh=>qc .lss (Z h 0) J0 (qi (Z h 0) 0 λt=>(([]:List D)[t]?).bind λK=>C c 132 [K,g] λR=>qi (Z h 0) 0 λu=>(([]:List D)[u]?).bind λW=>none)<|iR (0,[])) [J0] λa4=>some<|D.tup [D.sl [],bT])<|some<|D.tup [D.sl [],bT]) else(qt (nq k J0) (qy l (λa=>qc .lss (Z a 0) (Jn<|List.length<|qV b.2 0) (qi (Z a 0) (List.length<|qV a 1) λv=>((qV a 1)[v]?).bind λL=>C c 132 [L,g] λq=>qi (Z a 0) (List.length<|qV a 1) λi=>((qV a 1)[i]?).bind λX=>qj (Z a 0) λM=>iL [M,D.sl<|List.set (qV a 1) i q])<|iR (0,[qW a 1])) [J0,qW b.2 0] λE=>some<|D.tup [qW E.2 0,bT])<|some<|D.tup [qW b.2 0,bT]))
def TCk:TT:=eU3 516 Tryz.f137 T9 aaF
end Sy
end
set_option maxHeartbeats 0
noncomputable section
namespace Sy
open Go Go.Proofs
def Ua:M1:=λl c a0=>Q a0 [0] λx1=>qN x1 λa=>(qe a (C c 167 [a0] λd=>D.truth d)<|some false).bind λb=>some<|D.bool b
def abc:M0:=λl c=>C c 119 [] λr1=>some<|D.sl [r1]
def Ub:M3:=λl c a0 a1 a2=>C c 61 [a0,a2] λr1=>some r1
def aaG:Ann:=.t<|.w (.regI [] 4<|.w (.t<|.t<|.w (.regI [] 8<|.w (.t<|.t<|.w (.t<|.w (.loop ⟨ra,[(16387,.e cn<|.v cn),(16388,.e cn<|.v cn),(16389,.fv<|.clo 154 [])],[14]⟩ [(.r,rf),(.x 0,sq)] wm) .o) zb) .o) .o) .o) .o
def Uc:M2:=λl c a0 a1=>C c 546 [a0] λr1=>qT r1 λb2=>qO b2 (C c 546 [a1] λN=>D.truth N) (C c 518 [] λO=>some O)<|qS a0 λL=>qS a1 λM=>(D.max2 (jl L)<|jl M).bind λI=>(D.max2 I J0).bind λB=>(D.natOf B).bind λm=>if m<=1073741824 then((D.max2 I J0).bind λh=>qy l (λa=>qc .lss (Z a 1) h (C c 550 [Z a 2,Z a 1] λu=>C c 550 [Z a 3,Z a 1] λv=>C c 57 [u,v] λw=>C c 552 [w] λd=>C c 517 [d] λx=>qn x (C c 518 [] λy=>iR (0,[y]))<|qu (qV a 0) [d]<|qj (Z a 1) λE=>iL [D.sl<|(qV a 0)++[d],E,Z a 2,Z a 3])<|iR (1,[qW a 0])) [D.sl [],J0,a0,a1] λe=>qr e<|qy l (λb=>qS (Z b 0) λo=>qC .gtr (jl o) J0 λi=>qA i (qS (Z b 0) λp=>P .sub (jl p) J1 λF=>qX (Z b 0) F λG=>C c 129 [G] λz=>D.truth<|bq z J0) (qS (Z b 0) λq=>P .sub (jl q) J1 λH=>qS (Z b 0) λr=>(D.natOf H).bind λn=>(D.cut r 0 n).bind λs=>iL [D.sl s])<|iR (0,[Z b 0])) [qW e.2 0] λf=>qS (Z f.2 0) λt=>qc .gtr (jl t) (Jn 25) (C c 518 [] λA=>some A)<|some<|Z f.2 0) else none
def aaH:Ann:=.t<|.w (.regI [] 4<|.w (.t<|.t<|.w (.regI [] 8<|.w (.t<|.t<|.w (.t<|.w (.loop ⟨ra,[(16387,.e cn<|.v cn),(16388,.e cn<|.v cn),(16389,.fv<|.clo 226 [])],[14]⟩ [(.r,rf),(.x 0,sq)] wm) .o) zb) .o) .o) .o) .o
def Ud:M2:=λl c a0 a1=>C c 546 [a0] λr1=>qT r1 λb2=>qO b2 (C c 546 [a1] λN=>D.truth N) (C c 518 [] λO=>some O)<|qS a0 λL=>qS a1 λM=>(D.max2 (jl L)<|jl M).bind λI=>(D.max2 I J0).bind λB=>(D.natOf B).bind λm=>if m<=1073741824 then((D.max2 I J0).bind λh=>qy l (λa=>qc .lss (Z a 1) h (C c 550 [Z a 2,Z a 1] λu=>C c 550 [Z a 3,Z a 1] λv=>C c 203 [u,v] λw=>C c 552 [w] λd=>C c 517 [d] λx=>qn x (C c 518 [] λy=>iR (0,[y]))<|qu (qV a 0) [d]<|qj (Z a 1) λE=>iL [D.sl<|(qV a 0)++[d],E,Z a 2,Z a 3])<|iR (1,[qW a 0])) [D.sl [],J0,a0,a1] λe=>qr e<|qy l (λb=>qS (Z b 0) λo=>qC .gtr (jl o) J0 λi=>qA i (qS (Z b 0) λp=>P .sub (jl p) J1 λF=>qX (Z b 0) F λG=>C c 129 [G] λz=>D.truth<|bq z J0) (qS (Z b 0) λq=>P .sub (jl q) J1 λH=>qS (Z b 0) λr=>(D.natOf H).bind λn=>(D.cut r 0 n).bind λs=>iL [D.sl s])<|iR (0,[Z b 0])) [qW e.2 0] λf=>qS (Z f.2 0) λt=>qc .gtr (jl t) (Jn 25) (C c 518 [] λA=>some A)<|some<|Z f.2 0) else none
def aaI:Ann:=.t<|.t<|.cut [(.m,u [(1,.s cX 4097),WbO,iA] [(4097,.k cX 1),WbD] [])] [] [4097,4098] .o<|.t<|.w (.t<|.w (.p [(1,.s cX 4097),WbO,(4,.s GS 16388),(18,.i)] [(4097,.k cX 1),WbD,(16388,.e GS<|.v GS)] [3,17] [(.x 0,u [WbO,(4,.s GS 16388)] [WbD,(16388,.e GS<|.v GS)] [])] .o) .o) .o
def Ue:M1:=λL c a0=>qb (Q a0 [0,1] λx1=>Q a0 [1,1] λr=>C c 392 [x1,r] λp=>qc .lss p J0 (some (0,[Jn<|-1]))<|some (0,[J1])) λq=>Q a0 [0,1] λs=>qy L (λa=>qc .lss (Z a 0) (Jn 4) (qi (Z a 0) 4 λe=>qf s e λb=>qi (Z a 0) 4 λf=>Q a0 [1,1,f] λj=>P .mul (Z q.2 0) j λk=>P .sub k b λl=>C c 535 [D.sl [b,l]] λh=>qi (Z a 0) 4 λg=>qs (Z a 1) [g] h λm=>qj (Z a 0) λn=>iL [n,m])<|iR (0,[Z a 1])) [J0,D.st [D.sl [],D.sl [],D.sl [],D.sl []]] λi=>some<|Z i.2 0
def Uf:M1:=λl c a0=>C c 530 [a0] λr1=>Q r1 [0] λb=>Q r1 [0] λd=>Q r1 [1] λe=>Q r1 [1] λf=>Q r1 [2] λg=>Q r1 [2] λh=>Q r1 [3] λi=>Q r1 [3] λj=>C c 533 [J1,D.sl [b,d,e,f,g,h,i,j]] λa=>some a
def aaJ:Ann:=.t<|.t<|.w (.t<|.w (.p [(5,.v cn),ky] [] [0,1] [(.x 0,u [(5,.v cn)] [] [0])] WaA) .o) .o
def KJ:M2:=λp c a0 a1=>qy p (λv1=>qj (Z v1 1) λj=>ql a1 j (qX a1 (Z v1 1) λk=>qj (Z v1 1) λl=>qX a1 l λg=>C c 534 [k,g] λa=>C c 520 [Z v1 0,a] λb=>P .add (Z v1 1) J2 λh=>iL [b,h])<|iR (0,[Z v1 0])) [D.sl [],J0] λd=>C c 54 [a0] λe=>C c 499 [Z d.2 0,e] λf=>some f
def aaK:Ann:=.t<|.t<|.t<|.w (.regI [] 9<|.w (.t<|.t<|.w (.t<|.w (.loop ⟨[(1,.same<|.clo 247 [.ptr cn 4099 [],.ptr cn 4098 []]),g8,C',Wbd],[WaM,(4099,.e cn<|.v cn)],[14]⟩ [(.r,rf),(.x 0,sq)] .o) .o) zb) .o) .o
def Ug:M2:=λl c a0 a1=>C c 546 [a0] λr1=>qT r1 λb2=>qO b2 (C c 546 [a1] λQ=>D.truth Q) (C c 518 [] λR=>some R)<|qS a0 λO=>qT (bq (jl O) J0) λN=>qO N (qS a1 λj=>D.truth<|bq (jl j) J0) (some<|D.sl [])<|qS a0 λq=>qS a1 λr=>P .add (jl q) (jl r) λE=>P .sub E J1 λf=>(D.max2 f J0).bind λF=>(D.natOf F).bind λo=>if o<=1073741824 then((D.max2 f J0).bind λG=>qy l (λa=>qc .lss (Z a 1) G (C c 563 [Z a 1,Z a 3,Z a 2] λy=>C c 552 [y] λb=>C c 517 [b] λz=>qn z (C c 518 [] λA=>iR (0,[A]))<|qu (qV a 0) [b]<|qj (Z a 1) λH=>iL [D.sl<|(qV a 0)++[b],H,Z a 2,Z a 3])<|iR (1,[qW a 0])) [D.sl [],J0,a0,a1] λd=>qr d<|qy l (λv30=>qS (Z v30 0) λs=>qC .gtr (jl s) J0 λk=>qA k (qS (Z v30 0) λt=>P .sub (jl t) J1 λI=>qX (Z v30 0) I λJ=>C c 129 [J] λB=>D.truth<|bq B J0) (qS (Z v30 0) λu=>P .sub (jl u) J1 λK=>qS (Z v30 0) λv=>(D.natOf K).bind λp=>(D.cut v 0 p).bind λw=>iL [D.sl w])<|iR (0,[Z v30 0])) [qW d.2 0] λe=>qS (Z e.2 0) λx=>qc .gtr (jl x) (Jn 25) (C c 518 [] λh=>some h)<|some<|Z e.2 0) else none
def aaL:Ann:=.t<|.w (.regI [] 5<|.w (.t<|.t<|.w (.t<|.w (.loop ⟨[(1,.same<|.clo 249 [.ptr K5 4097 []]),(2,.same<|.clo 58 []),C',Wbd],[(4097,.e K5<|.v K5)],[14]⟩ [(.r,rf),(.x 0,sq)] .o) .o) zb) .o) .o
def Uh:M1:=λL c a0=>qS a0 λl1=>(D.max2 (jl l1) J0).bind λE=>(D.natOf E).bind λB=>if B<=1073741824 then((D.max2 (jl l1) J0).bind λF=>qy L (λb=>qc .lss (Z b 1) F (C c 564 [Z b 1,Z b 2] λf=>C c 54 [f] λv=>C c 517 [v] λr=>qn r (C c 518 [] λs=>iR (0,[s]))<|qu (qV b 0) [v]<|qj (Z b 1) λw=>iL [D.sl<|(qV b 0)++[v],w,Z b 2])<|iR (1,[qW b 0])) [D.sl [],J0,a0] λd=>qr d<|qy L (λa=>qS (Z a 0) λl=>qC .gtr (jl l) J0 λg=>qA g (qS (Z a 0) λm=>P .sub (jl m) J1 λx=>qX (Z a 0) x λy=>C c 129 [y] λt=>D.truth<|bq t J0) (qS (Z a 0) λn=>P .sub (jl n) J1 λz=>qS (Z a 0) λo=>(D.natOf z).bind λk=>(D.cut o 0 k).bind λp=>iL [D.sl p])<|iR (0,[Z a 0])) [qW d.2 0] λe=>qS (Z e.2 0) λq=>qc .gtr (jl q) (Jn 25) (C c 518 [] λu=>some u)<|some<|Z e.2 0) else none
def aaM:Ann:=.t<|.t<|.t<|.w (.w (.regI [] 2 .o)<|.w (.t<|.w (.p [iB,(1,.s cn 24577),iA] [WaM,WaE,fl,fp,(12294,.e cn<|.v cn),(24577,.k cn 1),eB] [] [(.x 0,u [iB] [WaM,WaE,fl,fp,(12294,.e cn<|.v cn),eB] [])]<|.t<|.w (.w (.w (.regI [] 8<|.w g7 .o) .o) .o) .o) .o) .o) sd
def Ui:M2:=λL c a0 a1=>C c 546 [a0] λr1=>qT r1 λb2=>qO b2 (C c 547 [D.sl [a1]] λy=>qz y) (C c 119 [] λz=>C c 54 [J1] λA=>some<|D.tup [z,A])<|Q a1 [1] λB=>qS a0 λe=>C c 565 [B,jl e] λi=>qS a0 λf=>P .sub (jl f) J1 λm=>qy L (λa=>qc .geq (Z a 0) J0 (qX a0 (Z a 0) λn=>Q (Z a 2) [0] λo=>C c 61 [Z a 3,o] λj=>qS (Z a 1) λg=>P .sub (jl g) J1 λp=>P .sub p (Z a 0) λq=>qX (Z a 5) q λr=>C c 61 [n,r] λk=>C c 57 [j,k] λl=>P .sub (Z a 0) J1 λs=>iL [s,Z a 1,Z a 2,l,Z a 4,Z a 5])<|iR (0,[Z a 1,Z a 2,Z a 3,Z a 4,Z a 5])) [m,a0,a1,D.st [S,S,aw aY],D.st [S,S,aw aY],i] λb=>qS (Z b.2 0) λh=>P .sub (jl h) J1 λt=>(D.max2 J0 t).bind λu=>qX (Z b.2 4) u λv=>some<|D.tup [Z b.2 2,v]
def aaN:Ann:=.t<|.t<|.t<|.w (.t<|.w WaQ<|.w Wao .o) .o
def Uj:M1:=λp c a0=>C c 510 [a0] λr1=>Q r1 [0] λi=>qt i (some r1)<|Q a0 [0] λj=>Q a0 [1] λk=>C c 137 [j,k] λe=>Q a0 [1] λl=>C c 203 [l,e] λg=>C c 90 [e,g] λh=>qc .geq h J0 (C c 169 [] λb=>C c 57 [r1,b] λd=>some d)<|some r1
def aaO:Ann:=let a:LO:=[(4097,.k Kf 1),ip,(8196,.e z<|.v z),rI];let b:LS:=[(1,.s Kf 4097),sv,h9,tp];(.t<|.t<|.w (.t<|.w (.p [(1,.s Kf 4097),sv,h9,tp,(16,.i)] a [15] [(.r,u [sv,iA] [ip] []),(.x 0,u b a [])]<|.t<|.t<|.cut [(.r,u [sv,iA] [ip] []),(.m,u b a [15,16])] [15,16] [4097] .o .o) .o)<|.t<|.t<|.t<|.t<|.w (.t<|.w (.p [sv,h9,tp,(9,.s z 28681),Wbp,(52,.i)] [gb,Wbx,(8197,.k z 5),(28681,.k z 9),(32778,.e fY<|.v fY)] [51] [(.x 2,u [sv,Wbp] [gb,(32778,.e fY<|.v fY)] [])]<|.t<|.t<|.w (.w (.t<|.t<|.cut [(.m,u [sv,h9,tp,(9,.s z 28681),Wbp,(12,.s z 49164)] [gb,Wbx,(8197,.k z 5),(28681,.k z 9),(32778,.k fY 10),(49164,.e z<|.v z)] [11,51,52])] [11,51,52] [4098,8196,8197,28681,32778] Wba .o) .o) .o) .o) .o)
def Uk:M1:=λp c a0=>qy p (λv1=>qc .lss (Z v1 0) (Jn 4) (qb (qi (Z v1 0) 4 λO=>qf a0 O λl=>Q l [0] λa1=>qT a1 λN=>qo N (C c 167 [l] λP=>qz P) λn=>qO n (C c 217 [l] λw=>qh .gtr w<|Jn 400) (some (0,[J1,D.st [J0,J0,J0,J0]]))<|C c 131 [Z v1 2,l] λe=>C c 171 [l] λf=>C c 90 [f,Z v1 3] λx=>qc .gtr x J0 (some (1,[Z v1 1,e,f]))<|some (1,[Z v1 1,e,Z v1 3])) λb=>if b.1=0 then(iR (0,[Z b.2 0,Z b.2 1])) else(qj (Z v1 0) λG=>iL [G,Z b.2 0,Z b.2 1,Z b.2 2]))<|iR (1,[Z v1 1,Z v1 2,Z v1 3])) [J0,D.st [J0,J0,J0,J0],D.st [S,S,aw aY],D.st [S,S,aw aY]] λa=>if a.1=0 then(some<|D.tup [Z a.2 1,Z a.2 0]) else(C c 129 [Z a.2 1] λy=>qt (bq y J0) (some<|D.tup [D.st [J0,J0,J0,J0],J1])<|C c 132 [Z a.2 2,Z a.2 1] λg=>C c 54 [Jn 64] λh=>qy p (λd=>qc .lss (Z d 0) (Jn 4) (qi (Z d 0) 4 λu=>qf a0 u λH=>C c 132 [H,Z a.2 1] λi=>qb (C c 90 [g,h] λz=>qc .gtr z J0 (C c 61 [i,h] λA=>C c 566 [A,g] λB=>some (0,[B]))<|some (0,[i])) λq=>C c 202 [Z q.2 0] λj=>qp j 0 λI=>qp j 1 λF=>qi (Z d 0) 4 λv=>qs (Z d 1) [v] I λJ=>qj (Z d 0) λK=>iL [K,J])<|iR (0,[Z d 1])) [J0,D.st [J0,J0,J0,J0]] λE=>C c 567 [Z E.2 0] λk=>qp k 0 λL=>qp k 1 λR=>some<|D.tup [L,J0])
def aaP:Ann:=.t<|.w (.regI [] 3<|.w (.t<|.w (.regI [] 5<|.w (.t<|.w (.t<|.w (.loop ⟨[(1,.same<|.clo 274 []),Z'],[],[0,7]⟩ [(.r,Wau),(.x 0,rk)] iN) .o) .o) .o) .o) .o) .o
def Ul:M1:=λl c a0=>qS a0 λl1=>qy l (λb=>qc .lss (Z b 0) (jl l1) (qX a0 (Z b 0) λj=>C c 517 [j] λi=>qn i (iR (0,[Z b 0]))<|qj (Z b 0) λe=>iL [e])<|iR (1,[])) [J0] λa=>if a.1=0 then(P .geq (Z a.2 0) J0 λg=>some g) else(P .geq (Jn<|-1) J0 λf=>some f)
def aaQ:Ann:=.t<|.w (.regI [] 4<|.w (.t<|.w (.regI [] 5<|.w (.t<|.w (.t<|.w (.loop ⟨[(1,.same<|.clo 276 []),Z'],[],[0,7]⟩ [(.r,Wau),(.x 0,rk)] iN) .o) .o) .o) .o) .o) .o
def KK:M1:=λp c a0=>qS a0 λl1=>qy p (λb=>qc .lss (Z b 0) (jl l1) (qX a0 (Z b 0) λl=>C c 136 [l] λk=>qn k (iR (0,[Z b 0]))<|qj (Z b 0) λe=>iL [e])<|iR (1,[])) [J0] λa=>if a.1=0 then(P .geq (Z a.2 0) J0 λh=>(afP .not h).bind λi=>some i) else(P .geq (Jn<|-1) J0 λf=>(afP .not f).bind λg=>some g)
def Um:M3:=λl c a0 a1 a2=>C c 573 [a0,a1,a2] λr1=>C c 572 [r1] λa=>some a
def aaR:Ann:=let a:LO:=[rI];(.t<|.t<|.w (.t<|.w (.p [tp,ky] a [0,1] [(.x 0,u [tp] a [0,1])]<|.t<|.w mb .o) .o)<|.t<|.w (.t<|.w (.p [tp,C',(21,.i)] a [0,1,20] [(.x 2,sq)]<|.t<|.t<|.cut [(.m,u [tp,C'] a [0,1,20,21])] [0,1,20,21] [] (.w (.t<|.t<|.t pr) .o) .o) .o) .o)
def Un:M2:=λL c a0 a1=>C c 54 [J1] λr1=>qy L (λb=>qc .leq (Z b 0) a0 (C c 54 [Z b 0] λo=>C c 61 [Z b 1,o] λp=>qj (Z b 0) λr=>iL [r,p])<|iR (0,[Z b 1])) [J2,r1] λq=>qj a1 λs=>qy L (λv10=>qc .lss (Z v10 1) s (qb (qu (qV v10 0) [Z v10 2]<|qc .lss (Z v10 1) a0 (P .sub a1 (Z v10 1) λk=>C c 54 [k] λf=>C c 61 [Z v10 2,f] λg=>P .sub a0 (Z v10 1) λl=>C c 54 [l] λh=>C c 132 [g,h] λi=>some (0,[D.sl<|(qV v10 0)++[Z v10 2],i]))<|some (0,[D.sl<|(qV v10 0)++[Z v10 2],Z v10 2])) λa=>qj (Z v10 1) λm=>iL [qW a.2 0,m,Z a.2 1])<|iR (0,[qW v10 0])) [D.sl [],J0,Z q.2 0] λj=>some<|qW j.2 0
def Uo:M2:=λl c a0 a1=>qC .lss a1 J0 λb2=>qO b2 (qS a0 λd=>qh .geq a1<|jl d) (some<|D.st [S,S,aw aY])<|qX a0 a1 λf=>some f
def TCl:TT:=e1 517 Tryz.f138 Ua .leaf+e0 518 Tryz.f139 abc .leaf+(e3 519 Tryz.f141 Ub .leaf+e2 520 Tryz.f143 Uc aaG 4)+(e2 521 Tryz.f144 Ud aaH 4+e1 530 Tryz.f158 Ue aaI+(e1 531 Tryz.f159 Uf .leaf+(e2 533 Tryz.f161 KJ aaJ+e2 534 Tryz.f162 Ug aaK 1)))+(e1 535 Tryz.f163 Uh aaL 1+e2 536 Tryz.f164 Ui aaM+(e1 537 Tryz.f202 Uj aaN+e1 538 Tryz.f203 Uk aaO)+(e1 546 Tryz.f217 Ul aaP+e1 547 Tryz.f218 KK aaQ+(e3 548 Tryz.f219 Um .leaf+(e2 549 Tryz.f220 Un aaR+e2 550 Tryz.f221 Uo .leaf))))
end Sy
end
set_option maxHeartbeats 0
noncomputable section
namespace Sy
open Go Go.Proofs
def aaS:Ann:=let a:LO:=[mu,WaG];(.t<|.t<|.w (.t<|.w (.p [rz,Wai,Z'] a [6,7] [(.x 0,u [rz,Wai] a [])] .o) .o) .o)
def Up:M1:=λl c a0=>qS a0 λl1=>qy l (λa=>qc .lss (Z a 0) (jl l1) (qX a0 (Z a 0) λf=>C c 131 [Z a 1,f] λe=>qj (Z a 0) λg=>iL [g,e])<|iR (0,[Z a 1])) [J0,D.st [S,S,aw aY]] λb=>some<|Z b.2 0
def W0:M1:=λl c a0=>some a0
def aaT:Ann:=let a:LO:=[(0,.k cn 1),(1,.k cn 2),u3,rI];(.t<|.t<|.w (.t<|.w (.p [(1,.s cn 0),(2,.s cn 1),vd,tp,ky] a [0] [(.x 0,u [(1,.s cn 0),(2,.s cn 1),vd,tp] a [])]<|.t<|.w WbE .o) .o) .o)
def Uq:M3:=λq c a0 a1 a2=>qS a1 λl1=>P .sub a0 (jl l1) λl=>qj l λm=>(D.max2 J0 m).bind λn=>qy q (λa=>qS a2 λk=>P .sub (jl k) J1 λo=>(D.min2 a0 o).bind λp=>qc .leq (Z a 0) p (qX a2 (Z a 0) λg=>P .sub a0 (Z a 0) λh=>qX a1 h λi=>C c 61 [g,i] λd=>C c 57 [Z a 1,d] λe=>qj (Z a 0) λj=>iL [j,e])<|iR (0,[Z a 1])) [n,D.st [S,S,aw aY]] λf=>some<|Z f.2 0
def Ur:M2:=λl c a0 a1=>qX a1 a0 λa=>some a
def aaU:Ann:=.t<|.t<|.w (.w (.p [rz,(5,.ow z)] [mu] [1] [(.x 0,S1 [(5,.ow z)])] wr) .o) .o
def Us:M2:=λl c a0 a1=>C c 54 [J1] λr1=>qy l (λa=>qc .lss (Jn<|List.length<|qV a 0) a1 (P .sub (Jn<|List.length<|qV a 0) J1 λg=>qi g (List.length<|qV a 0) λe=>((qV a 0)[e]?).bind λh=>C c 61 [h,a0] λb=>qu (qV a 0) [b]<|iL [D.sl<|(qV a 0)++[b]])<|iR (0,[qW a 0])) [D.sl [r1]] λf=>some<|qW f.2 0
def aaV:Ann:=.t<|.w (.t<|.w vb .o)<|.w gi<|.cut [(.m,u [vd,(5,.s z 12293)] [u3,(12293,.e z<|.v z)] [])] [] [4100] (.w WaR Wao) .o
def KL:M2:=λp c a0 a1=>C c 129 [a0] λr1=>qc .lss r1 J0 (C c 68 [a0] λj=>C c 566 [j,a1] λk=>C c 68 [k] λl=>some l)<|C c 132 [a0,a1] λg=>C c 137 [a0,a1] λh=>qb (C c 57 [h,h] λm=>C c 90 [m,a1] λb=>qc .gtr b J0 (C c 54 [J1] λd=>C c 57 [g,d] λe=>some (0,[e]))<|some (0,[g])) λf=>some<|Z f.2 0
def aaW:Ann:=let a:LO:=[Wbu,gb];let b:LO:=[(4097,.e fY<|.v fY),ip];let c:LO:=[(4097,.k fY 11),ip];let d:LO:=[(4097,.e fY<|.v fY),gb];let e:LS:=[h7,sv,eL];(.t<|.w (.regI [] 3<|.w (.t<|.t<|.w (.t<|.w (.p [iA,gl,(9,.i)] b [8] [(.x 0,u [iA] b [])]<|.t<|.t<|.w (.w (.t<|.t<|.w (.p [iA,ky,gl] c [8,9] [(.x 2,u [iA,gl] c [8,9])] Wba) .o) .o) .o) .o) .o) .o)<|.t<|.w (.t<|.w (.p [h7,sv,eL,(14,.i)] a [13] [(.x 0,u e a [])]<|.t<|.t<|.w (.w (.t<|.t<|.w (.cut [(.m,u e a [])] [] [4097,4098] .o .o) .o) .o) .o) .o)<|.w (.t<|.w (.p [h7,sv,(24,.i)] d [4] [(.x 2,u [h7,sv] d [])] .o) .o) .o)
def Ut:M1:=λl c a0=>qy l (λv1=>qc .lss (Z v1 1) (Jn 4) (qi (Z v1 1) 4 λC=>Q (Z v1 2) [0+C] λz=>(afP .neg z).bind λE=>(D.max2 z E).bind λF=>qy l (λe=>qt (nq (Z e 1) J0) (P .rem (Z e 0) (Z e 1) λr=>iL [Z e 1,r,Z e 2])<|iR (0,[Z e 0,Z e 2])) [Z v1 0,F,Z v1 3] λf=>qj (Z v1 1) λs=>iL [Z f.2 0,s,Z v1 2,Z f.2 1])<|iR (0,[Z v1 0,Z v1 2,Z v1 3])) [J0,J0,a0,D.st [J0,J0,J0,J0]] λd=>qt (bq (Z d.2 0) J0) (some<|D.tup [D.st [J0,J0,J0,J0],S])<|qy l (λa=>qc .lss (Z a 1) (Jn 4) (qi (Z a 1) 4 λm=>qf (Z d.2 1) m λg=>qt (nq g J0) (qb (qc .lss g J0 ((afP .neg<|Z a 0).bind λt=>some (0,[t]))<|some (0,[Z a 0])) λo=>iR (0,[Z o.2 0]))<|qj (Z a 1) λu=>iL [Z a 0,u])<|iR (0,[Z a 0])) [Z d.2 0,J0] λp=>qy l (λb=>qc .lss (Z b 0) (Jn 4) (qJ (Z b 0) 4 (Z b 1) λv=>P .quo v (Z p.2 0) λw=>qi (Z b 0) 4 λn=>qs (Z b 1) [n] w λx=>qj (Z b 0) λy=>iL [y,x])<|iR (0,[Z b 1])) [J0,Z d.2 1] λq=>some<|D.tup [Z q.2 0,bT]
def aaX:Ann:=.t<|.t<|.w (.regI [] 4<|.w (.t<|.t<|.w (.regI [] 8<|.w (.t<|.t<|.w (.t<|.w (.loop ⟨s6,[WaG,(20483,.e cn<|.v cn),(20484,.e cn<|.ow z),(20485,.fv<|.clo 309 [.ptr z 8195 []])],[14]⟩ [(.r,rf),(.x 0,sq)] wm) .o) zb) .o) .o) .o) .o
def Uu:M1:=λl c a0=>C c 551 [a0] λr1=>C c 546 [a0] λN=>qT N λJ=>qO J (C c 546 [D.sl []] λO=>D.truth O) (C c 518 [] λj=>some j)<|qS a0 λM=>(D.max2 (jl M) J0).bind λI=>(D.max2 I J0).bind λB=>(D.natOf B).bind λm=>if m<=1073741824 then((D.max2 I J0).bind λh=>qy l (λa=>qc .lss (Z a 1) h (C c 550 [Z a 3,Z a 1] λu=>C c 550 [qW a 4,Z a 1] λv=>C c 580 [u,v,Z a 2] λw=>C c 552 [w] λd=>C c 517 [d] λx=>qn x (C c 518 [] λy=>iR (0,[y]))<|qu (qV a 0) [d]<|qj (Z a 1) λE=>iL [D.sl<|(qV a 0)++[d],E,Z a 2,Z a 3,qW a 4])<|iR (1,[qW a 0])) [D.sl [],J0,r1,a0,D.sl []] λe=>qr e<|qy l (λb=>qS (Z b 0) λo=>qC .gtr (jl o) J0 λi=>qA i (qS (Z b 0) λp=>P .sub (jl p) J1 λF=>qX (Z b 0) F λG=>C c 129 [G] λz=>D.truth<|bq z J0) (qS (Z b 0) λq=>P .sub (jl q) J1 λH=>qS (Z b 0) λr=>(D.natOf H).bind λn=>(D.cut r 0 n).bind λs=>iL [D.sl s])<|iR (0,[Z b 0])) [qW e.2 0] λf=>qS (Z f.2 0) λt=>qc .gtr (jl t) (Jn 25) (C c 518 [] λA=>some A)<|some<|Z f.2 0) else none
def aaY:Ann:=.t<|.t<|.w WaC<|.t<|.t<|.w (.t<|.w (.p [(9,.v cn),Wa5] [] [0,7,8] [(.x 0,S1 [(9,.v cn)])]<|.t<|.w (.w (.g [] 19) .o) .o) .o) .o
def Uv:M3:=λL c a0 a1 a2=>C c 546 [a0] λr1=>qT r1 λb2=>qO b2 (C c 547 [D.sl [a1,a2]] λA=>qz A) (C c 518 [] λE=>some E)<|Q a1 [0] λG=>Q a2 [1] λH=>C c 61 [G,H] λg=>Q a2 [0] λq=>Q a1 [1] λr=>C c 61 [q,r] λh=>C c 581 [D.sl [g,h]] λi=>Q a1 [1] λs=>Q a2 [1] λt=>C c 61 [s,t] λj=>qS a0 λd=>C c 565 [j,jl d] λk=>qS a0 λe=>P .sub (jl e) J1 λu=>qy L (λa=>qc .geq (Z a 1) J0 (C c 534 [Z a 0,i] λl=>qX a0 (Z a 1) λv=>qS a0 λf=>P .sub (jl f) J1 λw=>P .sub w (Z a 1) λx=>qX k x λy=>C c 61 [v,y] λm=>C c 581 [D.sl [m]] λn=>C c 520 [l,n] λo=>P .sub (Z a 1) J1 λz=>iL [o,z])<|iR (0,[Z a 0])) [D.sl [],u] λp=>some<|Z p.2 0
def Uw:M3:=λl c a0 a1 a2=>C c 132 [a0,a2] λr1=>some r1
def aaZ:Ann:=.t<|.w (.regI [] 5<|.w (.t<|.t<|.w (.t<|.w (.loop ⟨[(1,.same<|.clo 319 [.ptr cn 4097 []]),g8,C',Wbd],[(4097,.e cn<|.v cn)],[14]⟩ [(.r,rf),(.x 0,sq)] .o) .o) zb) .o) .o
def Ux:M1:=λL c a0=>qS a0 λl1=>(D.max2 (jl l1) J0).bind λE=>(D.natOf E).bind λB=>if B<=1073741824 then((D.max2 (jl l1) J0).bind λF=>qy L (λb=>qc .lss (Z b 1) F (C c 582 [Z b 1,Z b 2] λf=>C c 552 [f] λv=>C c 517 [v] λr=>qn r (C c 518 [] λs=>iR (0,[s]))<|qu (qV b 0) [v]<|qj (Z b 1) λw=>iL [D.sl<|(qV b 0)++[v],w,Z b 2])<|iR (1,[qW b 0])) [D.sl [],J0,a0] λd=>qr d<|qy L (λa=>qS (Z a 0) λl=>qC .gtr (jl l) J0 λg=>qA g (qS (Z a 0) λm=>P .sub (jl m) J1 λx=>qX (Z a 0) x λy=>C c 129 [y] λt=>D.truth<|bq t J0) (qS (Z a 0) λn=>P .sub (jl n) J1 λz=>qS (Z a 0) λo=>(D.natOf z).bind λk=>(D.cut o 0 k).bind λp=>iL [D.sl p])<|iR (0,[Z a 0])) [qW d.2 0] λe=>qS (Z e.2 0) λq=>qc .gtr (jl q) (Jn 25) (C c 518 [] λu=>some u)<|some<|Z e.2 0) else none
def Uy:M2:=λl c a0 a1=>qX a1 a0 λa=>some a
def TCm:TT:=e1 551 Tryz.f222 Up aaS+(e1 552 Tryz.f225 W0 .leaf+e3 563 Tryz.f247 Uq aaT)+(e2 564 Tryz.f249 Ur .leaf+(e2 565 Tryz.f250 Us aaU+e2 566 Tryz.f268 KL aaV))+(e1 567 Tryz.f269 Ut aaW 2+(e1 572 Tryz.f277 Uu aaX 4+e3 573 Tryz.f278 Uv aaY)+(e3 580 Tryz.f309 Uw .leaf+(e1 581 Tryz.f310 Ux aaZ 1+e2 582 Tryz.f319 Uy .leaf)))
end Sy
end
set_option maxHeartbeats 0
namespace Sy
open Go Go.Proofs
def YK:TT:=TCa+TCb+(TCc+TCd)+(TCe+(TCf+TCg+TCh)+(TCi+(TCj+TCk)+(TCl+TCm)))
def QC(lp:Lp):CT:=YK.t lp
def Iu{lp:Lp}(a:tD lp):(QC lp).ok:=YK.p lp a
def LC(lp:Lp):Nat->Nat->List D->Option D
 | 0=>λ_ _=>none
 | n+1=>λf xs=>(QC lp).get f (LC lp n) xs
theorem wK{lp:Lp}(a:tD lp):∀ n,gm Tryz.prog (LC lp n)
 | 0=>λf b c xs y _ h _=>by cases h
 | n+1=>afy (Iu a)<|wK a n
end Sy
end
noncomputable section
namespace Sy
open Go Go.Proofs
section
variable{a c:D}
def cB:Lp:=λ{α β} body=>nT (α:=α) (β:=β) body
def cA(n:Nat):Nat->List D->Option D:=LC cB n
def Zh{n k:Nat}{r:Option D}(f:M0)(h:f cB (cA n)=r)(e:cA (n+1) k []=f cB (cA n):=by kernel_rfl):cA (n+1) k []=r:=e.trans h
def fN{n k:Nat}{x0:D}{r:Option D}(f:M1)(h:f cB (cA n) x0=r)(e:cA (n+1) k [x0]=f cB (cA n) x0:=by kernel_rfl):cA (n+1) k [x0]=r:=e.trans h
def eN{n k:Nat}{x0 x1:D}{r:Option D}(f:M2)(h:f cB (cA n) x0 x1=r)(e:cA (n+1) k [x0,x1]=f cB (cA n) x0 x1:=by kernel_rfl):cA (n+1) k [x0,x1]=r:=e.trans h
def GH{n k:Nat}{x0 x1:D}{r:Option D}(f:M3)(h:f cB (cA n) x0 x1 a=r)(e:cA (n+1) k [x0,x1,a]=f cB (cA n) x0 x1 a:=by kernel_rfl):cA (n+1) k [x0,x1,a]=r:=e.trans h
def uu4{n k:Nat}{x0 x1:D}{r:Option D}(f:M4)(h:f cB (cA n) x0 x1 a c=r)(e:cA (n+1) k [x0,x1,a,c]=f cB (cA n) x0 x1 a c:=by kernel_rfl):cA (n+1) k [x0,x1,a,c]=r:=e.trans h
def Zi{n k:Nat}{x0 x1 b:D}{r:Option D}(f:M5)(h:f cB (cA n) x0 x1 a c b=r)(e:cA (n+1) k [x0,x1,a,c,b]=f cB (cA n) x0 x1 a c b:=by kernel_rfl):cA (n+1) k [x0,x1,a,c,b]=r:=e.trans h
def uu6{n k:Nat}{x0 x1 b d:D}{r:Option D}(f:M6)(h:f cB (cA n) x0 x1 a c b d=r)(e:cA (n+1) k [x0,x1,a,c,b,d]=f cB (cA n) x0 x1 a c b d:=by kernel_rfl):cA (n+1) k [x0,x1,a,c,b,d]=r:=e.trans h
def uu7{n k:Nat}{x0 x1 b d g:D}{r:Option D}(f:M7)(h:f cB (cA n) x0 x1 a c b d g=r)(e:cA (n+1) k [x0,x1,a,c,b,d,g]=f cB (cA n) x0 x1 a c b d g:=by kernel_rfl):cA (n+1) k [x0,x1,a,c,b,d,g]=r:=e.trans h
section
variable(n:Nat)(a0 a1 a2 a3 a4 a5 a6:D)
def u15:cA (n+1) 15 [a0]=F15 cB (cA n) a0:=j3
def u18:cA (n+1) 18 [a0]=F18 cB (cA n) a0:=j3
def u19:cA (n+1) 19 [a0]=F19 cB (cA n) a0:=j3
def u21:cA (n+1) 21 [a0]=WY cB (cA n) a0:=j3
def u32:cA (n+1) 32 [a0,a1]=F32 cB (cA n) a0 a1:=j3
def u45:cA (n+1) 45 [a0]=WZ cB (cA n) a0:=j3
def u46:cA (n+1) 46 [a0,a1]=F46 cB (cA n) a0 a1:=j3
def u48:cA (n+1) 48 [a0]=F48 cB (cA n) a0:=j3
def u62:cA (n+1) 62 [a0,a1]=W2 cB (cA n) a0 a1:=j3
def u81:cA (n+1) 81 [a0,a1]=F81 cB (cA n) a0 a1:=j3
def Zg:cA (n+1) 88 [a0]=WM cB (cA n) a0:=j3
def adk:cA (n+1) 115 [a0]=Sq cB (cA n) a0:=j3
def YQ:cA (n+1) 124 [a0]=OF cB (cA n) a0:=j3
def J5:cA (n+1) 136 [a0]=Ct cB (cA n) a0:=j3
def adl:cA (n+1) 147 [a0,a1]=SS cB (cA n) a0 a1:=j3
def YR:cA (n+1) 152 [a0,a1]=OG cB (cA n) a0 a1:=j3
def WA:cA (n+1) 173 [a0,a1]=KA cB (cA n) a0 a1:=j3
def WB:cA (n+1) 174 [a0,a1]=KB cB (cA n) a0 a1:=j3
def adm:cA (n+1) 202 [a0]=KC cB (cA n) a0:=j3
def adn:cA (n+1) 331 [a0]=Th cB (cA n) a0:=j3
def ado:cA (n+1) 349 [a0]=Tq cB (cA n) a0:=j3
def adp:cA (n+1) 364 [a0,a1]=Tt cB (cA n) a0 a1:=j3
def YS:cA (n+1) 392 [a0,a1]=OH cB (cA n) a0 a1:=j3
def adq:cA (n+1) 427 [a0]=TA cB (cA n) a0:=j3
def adr:cA (n+1) 431 [a0,a1]=TC cB (cA n) a0 a1:=j3
def ads:cA (n+1) 456 [a0,a1]=TL cB (cA n) a0 a1:=j3
def adt:cA (n+1) 471 [a0,a1,a2,a3,a4]=TN cB (cA n) a0 a1 a2 a3 a4:=j3
def adu:cA (n+1) 479 [a0,a1,a2,a3,a4,a5,a6]=TQ cB (cA n) a0 a1 a2 a3 a4 a5 a6:=j3
end
end
end Sy
end
noncomputable section
namespace Geo
section
variable{a c y z:Nat}{l:List Nat}{S:Nat->Nat->Prop}{f q:Int}
structure V where
 x:Int
 y:Int
 z:Int
deriving DecidableEq
namespace V
def sub(a b:V):V:=⟨a.x-b.x,a.y-b.y,a.z-b.z⟩
def neg(a:V):V:=⟨-a.x,-a.y,-a.z⟩
def add(a b:V):V:=⟨a.x+b.x,a.y+b.y,a.z+b.z⟩
def smul(k:Int)(a:V):V:=⟨k*a.x,k*a.y,k*a.z⟩
def dot(a b:V):Int:=a.x*b.x+a.y*b.y+a.z*b.z
def cross(a b:V):V:=⟨a.y*b.z-a.z*b.y,a.z*b.x-a.x*b.z,a.x*b.y-a.y*b.x⟩
def zero:V:=⟨0,0,0⟩
def ext'{a b:V}(c:a.x=b.x)(d:a.y=b.y)(e:a.z=b.z):a=b:=by cases a;cases b;simp_all
end V
open V
def Gy{a:Int}(h:a≠0):0<a*a:=by
 rcases Int.lt_or_lt_of_ne h with h|h
 ·exact zZb h h
 ·exact zub h h
def oy(a:Int):0<=a*a:=by
 rcases zKb a 0 with h|h|h
 ·exact zTa<|zZb h h
 ·simp_all
 ·exact zTa<|zub h h
theorem uR(a:V):0<=dot a a:=by have:=oy a.x;have:=oy a.y;have:=oy a.z;grind [dot]
def pD{a:V}(h:dot a a=0):a=zero:=by
 have b:=oy a.x;have c:=oy a.y;have d:=oy a.z;simp[dot] at h;have e1:a.x*a.x=0:=u0
 have e2:a.y*a.y=0:=u0
 have e3:a.z*a.z=0:=u0
 apply V.ext'<;>simp[zero]<;>(first|(rcases zMc.1 e1 with h|h<;>exact h)|(rcases zMc.1 e2 with h|h<;>exact h)|(rcases zMc.1 e3 with h|h<;>exact h))
def bL{a:V}(h:a≠zero):0<dot a a:=by
 have:=uR a;rcases zBb this with b|b
 ·exact b
 ·exact z8a (pD b.symm) h
def T(n u v:V):Int:=dot n<|cross u v
def xO{a b:Int}(d:0<a)(h:0<a*b):0<b:=by
 rcases zKb b 0 with c|c|c
 ·have:=zCb d c;omega
 ·simp_all
 ·exact c
def Ab{a b:Int}(d:0<a)(h:0<=a*b):0<=b:=by
 rcases z5b b 0 with c|c
 ·have:=zCb d c;omega
 ·exact c
def bJ{a b:Int}(c:0<a)(h:a*b=0):b=0:=by
 rcases zMc.1 h with h|h
 ·omega
 ·exact h
section plane
variable{n:V}(hn:n≠zero)
include hn
theorem H7(f:V){u v w:V}(a:dot n u=0)(b:dot n v=0)(c:dot n w=0) :
  dot f u*T n v w+dot f v*T n w u+dot f w*T n u v=0:=by
 have h:dot n n*(dot f u*T n v w+dot f v*T n w u+dot f w*T n u v)=0:=by simp[T,dot,cross] at *;grind
 exact bJ (bL hn) h
theorem GW{f u v w:V}(g:dot n u=0)(i:dot n v=0)(j:dot n w=0)(a:0<dot f u)(fv:0<dot f v)(b:0<dot f w)
  (c:0<=T n u v) (d:0<=T n v w):0<=T n u w/\(0<T n u v\/0<T n v w->0<T n u w):=by
 have p:=H7 hn f g i j;have e:T n w u=- T n u w:=by simp[T,dot,cross];grind
 rw[e] at p;have q:dot f v*T n u w=dot f u*T n v w+dot f w*T n u v:=by grind
 have q1:=zRb (zTa a) d;have k:=zRb (zTa b) c;refine⟨Ab fv u0,λh=>xO fv ?_⟩
 rcases h with h|h
 ·have:=zub b h;omega
 ·have:=zub a h;omega
theorem fE{u v:V}(a:dot n u=0)(b:dot n v=0)(h:T n u v=0):cross u v=zero:=by
 have hp:=bL hn;have e1:dot n n*(cross u v).x=T n u v*n.x:=by simp[T,dot,cross] at *;grind
 have e2:dot n n*(cross u v).y=T n u v*n.y:=by simp[T,dot,cross] at *;grind
 have e3:dot n n*(cross u v).z=T n u v*n.z:=by simp[T,dot,cross] at *;grind
 rw[h,zCc] at e1 e2 e3;exact V.ext' (bJ hp e1) (bJ hp e2)<|bJ hp e3
end plane
theorem Ni{u v:V}(h:cross u v=zero)(f:V):smul (dot f u) v=smul (dot f v) u:=by
 have a:(cross u v).x=0:=by rw[h];rfl
 have b:(cross u v).y=0:=by rw[h];rfl
 have c:(cross u v).z=0:=by rw[h];rfl
 grind [cross,smul,dot]
theorem Nj{u v:V}(h:cross u v=zero)(b:u≠zero)(a:dot v u=dot u u):v=u:=by
 have p:=Ni h u;have e:dot u v=dot v u:=by simp[dot];grind
 have hp:=bL b;rw[e,a] at p;have p1:dot u u*(v.x-u.x)=0:=by grind [smul]
 have c:dot u u*(v.y-u.y)=0:=by grind [smul]
 have d:dot u u*(v.z-u.z)=0:=by grind [smul]
 have:=bJ hp p1;have:=bJ hp c;have:=bJ hp d;exact V.ext' u0 u0 u0
theorem km{α:Type}(φ:α->Int):∀ l:List α,∃ N:Int,0<N/\∀ x∈l,-N<φ x/\φ x<N
 | []=>⟨1,H,j2⟩
 | a::l=>by
  obtain⟨N,h0,h⟩:=km φ l;refine⟨N+(φ a).natAbs+1,u0,λx hx=>?_⟩
  all_goals grind
def R(P:Nat->V)(a x:Nat):V:=sub (P x)<|P a
structure Side(n:V)(P:Nat->V)(on:List Nat)(a b:Nat):Prop where
 mem:b∈on
 ne:b≠a
 all:∀ x∈on,0<=T n (R P a b) (R P a x)/\(T n (R P a b) (R P a x)=0->0<=dot (R P a x) (R P a b)/\dot (R P a x) (R P a b)<=dot (R P a b) (R P a b))
def nD(P:Nat->V)(on:List Nat)(a:Nat):Prop:=∃ f:V,∀ x∈on,x≠a->0<dot f (R P a x)
structure Flat(n:V)(P:Nat->V)(on:List Nat):Prop where
 nz:n≠zero
 pl:∀ x∈on,∀ y∈on,dot n (R P x y)=0
 inj:∀ x∈on,∀ y∈on,P x=P y->x=y
section poly
variable{n:V}{P:Nat->V}{on:List Nat}
def vq(h:Flat n P on){b:Nat}(d:a∈on)(f:b∈on)(c:b≠a):R P a b≠zero:=λe=>by apply c;apply h.inj b f a d;have e1:=zEa V.x e;have e2:=zEa V.y e;have e3:=zEa V.z e;simp[R,sub,zero] at e1 e2 e3;exact V.ext' u0 u0 u0
def Oo{b:Nat}(h:R P a b=R P a c):P b=P c:=by have e1:=zEa V.x h;have e2:=zEa V.y h;have e3:=zEa V.z h;simp[R,sub] at e1 e2 e3;exact V.ext' u0 u0 u0
theorem agl(h:Flat n P on){b:Nat}(g:a∈on)(d:Side n P on a b)(f:Side n P on a c):b=c:=by
 have s:=d.all c f.mem;have l:=f.all b d.mem;have e:T n (R P a c) (R P a b)=- T n (R P a b) (R P a c):=by simp[T,dot,cross];grind
 rw[e] at l;have q:T n (R P a b) (R P a c)=0:=u0
 have m:=s.2 q;have o:=l.2 u0
 have r:dot (R P a b) (R P a c)=dot (R P a c) (R P a b):=by simp[dot];grind
 have hx:=fE h.nz (h.pl a g b d.mem) (h.pl a g c f.mem) q;have hq:dot (R P a b) (R P a b)*dot (R P a c) (R P a c)=dot (R P a c) (R P a b)*dot (R P a c) (R P a b):=by have p:=Ni hx<|R P a b;grind [smul,dot]
 have t:=bL<|vq h g d.mem d.ne;have i:=bL<|vq h g f.mem f.ne;have j:dot (R P a c) (R P a b)=dot (R P a b) (R P a b):=by
  generalize dot (R P a b) (R P a b)=B at *;generalize dot (R P a c) (R P a c)=C at *;generalize dot (R P a c) (R P a b)=X at *;rw[r] at o;rcases zBb m.2 with k|heq
  ·exfalso;have:X*X<B*C:=by
    have a1:=zwb o.2 m.1;have a2:=Int.mul_lt_mul_of_pos_right k i;omega
   omega
  ·exact heq
 have:=Nj hx (vq h g d.mem d.ne) j;exact(h.inj c f.mem b d.mem<|Oo this).symm
theorem Side.ext(h:Flat n P on){b:Nat}(d:a∈on)(c:Side n P on a b):nD P on b:=by
 obtain⟨N,o,m⟩:=km (λx=>dot (R P b a)<|R P b x) on;refine⟨add (smul N<|cross n<|R P a b)<|R P b a,λx hx g=>?_⟩;have e:dot (add (smul N<|cross n<|R P a b)<|R P b a) (R P b x)=N*T n (R P a b) (R P a x)+dot (R P b a) (R P b x):=by simp[T,dot,cross,add,smul,R,sub];grind
 rw[e];obtain⟨j,k⟩:=c.all x hx;have q:=m x hx;rcases zBb j with p|heq
 ·have:N*1<=N*T n (R P a b) (R P a x):=zwb u0 u0
  omega
 ·rw[<-heq,znd,zvc];have l:=k heq.symm;have e2:dot (R P b a) (R P b x)=dot (R P a b) (R P a b)-dot (R P a x) (R P a b):=by simp[dot,R,sub];grind
  rw[e2];rcases zBb l.2 with i|i
  ·omega
  ·exfalso;have f:=fE h.nz (h.pl a d b c.mem) (h.pl a d x hx) heq.symm;exact g<|h.inj x hx b c.mem<|Oo<|Nj f (vq h d c.mem c.ne) i
theorem afR(h:Flat n P on){x:Nat}(i:a∈on)(hx:x∈on)(q:y∈on)(C:nD P on a)(ex:nD P on x)(D:nD P on y)(d:x≠a)(e:y≠a)(G:T n (R P a x) (R P a y)=0):x=y:=by
 by_cases hxy:x=y
 ·exact hxy
 exfalso;obtain⟨f,t⟩:=C;obtain⟨g,u⟩:=ex;obtain⟨k,w⟩:=D;have c:=fE h.nz (h.pl a i x hx) (h.pl a i y q) G;have p:=Ni c f;have E:=t x hx d;have s:=t y q e;have g1:=u a i<|Ne.symm d;have g2:=u y q<|Ne.symm hxy;have H:=w a i<|Ne.symm e;have I:=w x hx hxy;have q1:dot f (R P a x)*dot g (R P a y)=dot f (R P a y)*dot g (R P a x):=by grind [smul,dot]
 have L:dot f (R P a x)*dot k (R P a y)=dot f (R P a y)*dot k (R P a x):=by have p1:=zEa V.x p;have J:=zEa V.y p;have K:=zEa V.z p;simp[smul] at p1 J K;generalize dot f (R P a x)=A at *;generalize dot f (R P a y)=B at *;simp[dot];grind
 have j:dot g (R P x a)=- dot g (R P a x):=by simp[dot,R,sub];grind
 have l:dot g (R P x y)=dot g (R P a y)-dot g (R P a x):=by simp[dot,R,sub];grind
 have m:dot k (R P y a)=- dot k (R P a y):=by simp[dot,R,sub];grind
 have o:dot k (R P y x)=dot k (R P a x)-dot k (R P a y):=by simp[dot,R,sub];grind
 rw[j] at g1;rw[l] at g2;rw[m] at H;rw[o] at I;generalize dot f (R P a x)=A at *;generalize dot f (R P a y)=B at *;generalize dot g (R P a x)=Z at *;generalize dot g (R P a y)=F at *;generalize dot k (R P a x)=r at *;generalize dot k (R P a y)=b at *;have r1:B<A:=by
  rcases z5b B A with v|v
  ·exact v
  ·exfalso;have s1:B*Z<=A*Z:=by
    simp_all
   have s2:A*Z<A*F:=zRc u0 E
   omega
 have N:A*b<B*b:=by
  have M:B*b<B*r:=zRc u0 s
  have O:A*b=B*r:=L;have Q:A*b<=B*b:=by
   have:=Int.mul_le_mul_of_nonneg_right (zTa r1)<|show 0<=-b by omega
   grind
  omega
 have M:B*b<B*r:=zRc u0 s
 omega
theorem YN(a x y:Nat):T n (R P x y) (R P x a)=T n (R P a x) (R P a y):=by grind [T,dot,cross,R,sub]
theorem RQ(u v:V):T n v u=- T n u v:=by simp[T,dot,cross];grind
def Side.after(h:Flat n P on){x:Nat}(g:a∈on)(hx:x∈on)(i:nD P on a)(ex:nD P on x)(d:x≠a)(b:Side n P on x y)(e:y≠a):0<T n (R P a x) (R P a y):=by
 have f:=(b.all a g).1;rw[YN] at f;rcases zBb f with c|c
 ·exact c
 ·exact z8a (afR h g hx b.mem i ex (b.ext h hx) d e c.symm) b.ne.symm
theorem OT(h:Flat n P on){x:Nat}(l:a∈on)(hx:x∈on)(b:z∈on)(d:Side n P on x y)(m:nD P on z)(r:0<T n (R P a x) (R P a z))(k:0<T n (R P a z) (R P a y)):False:=by
 obtain⟨f,c⟩:=m;have g:a≠z:=λe=>by subst e;simp[T,dot,cross,R,sub] at k
 have i:x≠z:=λe=>by grind [T,dot,cross]
 have j:y≠z:=λe=>by grind [T,dot,cross]
 have o:=c a l g;have p:=c x hx i;have q:=c y d.mem j;have s:=(d.all z b).1;have e:dot n n*(T n (R P x y) (R P x z)*dot f (R P z a)+T n (R P a z) (R P a y)*dot f (R P z x)+T n (R P a x) (R P a z)*dot f (R P z y))=0:=by
  have p1:=h.pl z b a l;have t:=h.pl z b x hx;have u:=h.pl z b y d.mem;have e1:T n (R P x y) (R P x z)=T n (R P z x) (R P z y):=YN z x y;have e2:T n (R P a z) (R P a y)=T n (R P z y) (R P z a):=by simp[T,dot,cross,R,sub];grind
  have e3:T n (R P a x) (R P a z)=T n (R P z a) (R P z x):=by simp[T,dot,cross,R,sub];grind
  rw[e1,e2,e3];have A:=H7 h.nz f p1 t u;grind
 have v:=bJ (bL h.nz) e;have m1:=zRb s<|zTa o;have m2:=zub k p;have w:=zub r q;omega
theorem zk{α:Type}{p q:α->Bool}:∀ {l:List α},(∀ x∈l,p x=true->q x=true)->(∃ y∈l,q y=true/\p y=false)->l.countP p<l.countP q
 | [],_,h=>by simp_all
 | a::l,h,c=>by
  have hl:l.countP p<=l.countP q:=by have b:∀ x∈l,p x=true->q x=true:=λx hx=>h x<|zsa _ hx;exact List.countP_mono_left b
  have d:=h a zBa;rw[List.countP_cons,List.countP_cons];obtain⟨y,hm,hq,hp⟩:=c;rcases zMa.1 hm with rfl|hm
  ·grind
  ·have:=zk (l:=l) (λx hx=>h x<|zsa _ hx) ⟨y,hm,hq,hp⟩;all_goals grind
inductive Chain(S:Nat->Nat->Prop)(a₀:Nat):Nat->List Nat->Prop
 | done {c:Nat}:S c a₀->Chain S a₀ c [c]
 | step {c y:Nat} {l:List Nat}:S c y->y≠a₀->Chain S a₀ y l->Chain S a₀ c (c::l)
theorem walk(h:Flat n P on)(q:a∈on)(B:nD P on a)(j:∀ c∈on,nD P on c->∃ b,Side n P on c b)(r:c∈on)(v:nD P on c)(s:c≠a) :
  ∃ l,Chain (Side n P on) a c l/\(∀ z∈l,z∈on/\nD P on z/\z≠a/\(z=c\/0<T n (R P a c) (R P a z)))/\(∀ z∈on,nD P on z->z≠a->0<T n (R P a c) (R P a z)->z∈l) ∧
   l.Pairwise (λx y=>0<T n (R P a x) (R P a y)):=by
 generalize hm:on.countP (λz=>decide (0<T n (R P a c) (R P a z)))=m
 induction m using Nat.strongRecOn generalizing c with
 | _ m ih=>
  obtain⟨y,g⟩:=j c r v;obtain⟨f,t⟩:=B;by_cases hya:y=a
  ·subst hya;refine⟨[c],.done g,λz d=>?_,λz d u i k=>?_,j2⟩
   ·simp_all
   ·have F:=(g.all z d).1;have e:T n (R P c y) (R P c z)=- T n (R P y c) (R P y z):=by simp[T,dot,cross,R,sub];grind
    omega
  ·have o:=Side.after h q r ⟨f,t⟩ v s g hya;have w:=g.ext h r;have tr:∀ z∈on,0<T n (R P a y) (R P a z)->0<T n (R P a c) (R P a z):=λz d k=>by
    have i:z≠a:=λe=>by simp_all [T,dot,cross,R,sub]
    exact(GW h.nz (h.pl a q c r) (h.pl a q y g.mem) (h.pl a q z d) (t c r s) (t y g.mem hya) (t z d i) (zTa o)<|zTa k).2<|.inl o
   have p:T n (R P a y) (R P a y)=0:=by simp[T,dot,cross];grind
   obtain⟨l,A,G,H,E⟩:=ih _ (by rw[<-hm];refine zk (λz d k=>by simp[zea] at k ⊢;exact tr z d k) ⟨y,g.mem,by simpa using o,by simp[p]⟩) g.mem w hya rfl
   refine⟨c::l,.step g hya A,λz d=>?_,λz d u i k=>?_,zNa.2 ⟨λz d=>?_,E⟩⟩
   ·grind
   ·rcases zKb (T n (R P a y) (R P a z)) 0 with D|heq|C
    ·have e:=RQ (n:=n) (R P a y)<|R P a z;exact(OT h q r d g u k u0).elim
    ·have:=afR h q g.mem d ⟨f,t⟩ w u hya i heq;subst this;have:y∈l:=by cases A<;>exact zBa
     simp_all
    ·simp_all
   ·grind
def tK(n:V)(P:Nat->V)(a b k:Nat):Bool:=
 decide (T n (R P a b) (R P a k)<0)||(decide (T n (R P a b) (R P a k)=0)&&decide (dot (R P a b) (R P a b)<dot (R P a k) (R P a k)))
def dU(n:V)(P:Nat->V)(a:Nat)(best:Option Nat)(k:Nat):Option Nat:=
 if k=a then best else match best with
  | none=>some k
  | some b=>if tK n P a b k then some k else some b
theorem u6(h:Flat n P on)(j:a∈on)(u:nD P on a):∀ (l pre:List Nat) (best:Option Nat),(∀ x∈pre,x∈on)->(∀ x∈l,x∈on) ->
  (match best with
   | none=>∀ x∈pre,x=a
   | some b=>b∈pre/\b≠a/\∀ x∈pre,x≠a->0<T n (R P a b) (R P a x)\/(T n (R P a b) (R P a x)=0/\dot (R P a x) (R P a x)<=dot (R P a b) (R P a b))) ->
  match l.foldl (dU n P a) best with
   | none=>∀ x∈pre++l,x=a
   | some b=>b∈pre++l/\b≠a/\∀ x∈pre++l,x≠a->0<T n (R P a b) (R P a x)\/(T n (R P a b) (R P a x)=0/\dot (R P a x) (R P a x)<=dot (R P a b) (R P a b))
 | [],pre,best,_,_,e=>by simpa using e
 | k::l,pre,best,m,v,e=>by
  rw[zzc];have p:=v k zBa;rw[show pre++k::l=(pre++[k])++l by simp]
  refine u6 h j u l (pre++[k]) _ (λx hx=>?_) (λx hx=>v x<|zsa _ hx) ?_
  ·rcases zJa.1 hx with hx|hx
   ·exact m x hx
   ·rw[zSa] at hx;exact hx ▸ p
  unfold dU;by_cases hka:k=a
  ·rw[zma hka];subst hka;cases best with
   | none=>
    simp only at e ⊢;intro x hx;rcases zJa.1 hx with hx|hx
    ·exact e x hx
    ·exact zSa.1 hx
   | some b=>
    simp only at e ⊢;refine⟨List.mem_append_left _ e.1,e.2.1,λx hx d=>?_⟩;rcases zJa.1 hx with hx|hx
    ·exact e.2.2 x hx d
    ·exact z8a (zSa.1 hx) d
  ·rw[zha hka];cases best with
   | none=>
    simp only at e ⊢;refine⟨z9a _<|zSa.2 rfl,hka,λx hx d=>?_⟩;rcases zJa.1 hx with hx|hx
    ·exact z8a (e x hx) d
    ·rw[zSa.1 hx];right;exact⟨by simp[T,dot,cross];grind,Int.le_refl _⟩
   | some b=>
    simp only at e ⊢;obtain⟨b1,b2,t⟩:=e;have g:=m b b1;obtain⟨f,o⟩:=u;by_cases hbt:tK n P a b k=true
    ·rw[zma hbt];simp only;refine⟨z9a _<|zSa.2 rfl,hka,λx hx d=>?_⟩;have A:=RQ (n:=n) (R P a b)<|R P a k;simp[tK,zHb,Y,zea] at hbt;rcases zJa.1 hx with hx|hx
     ·have i:=m x hx;have c:=t x hx d;have r:0<=T n (R P a k) (R P a b):=u0
      have s:0<=T n (R P a b) (R P a x):=u0
      obtain⟨y,z⟩:=GW h.nz (h.pl a j k p) (h.pl a j b g) (h.pl a j x i) (o k p hka) (o b g b2) (o x i d) r s;rcases zBb y with q|heq
      ·exact .inl q
      ·right;refine⟨heq.symm,?_⟩;have:¬ (0<T n (R P a k) (R P a b)\/0<T n (R P a b) (R P a x)):=λw=>by have:=z w;omega
       omega
     ·rw[zSa.1 hx];right;exact⟨by simp[T,dot,cross];grind,Int.le_refl _⟩
    ·rw[zha hbt];simp only;refine⟨List.mem_append_left _ b1,b2,λx hx d=>?_⟩;rcases zJa.1 hx with hx|hx
     ·exact t x hx d
     ·rw[zSa.1 hx];simp[tK,zHb,Y,zea] at hbt;omega
theorem lO(h:Flat n P on)(l:a∈on)(r:nD P on a)(v:∃ x∈on,x≠a):∃ b,on.foldl (dU n P a) none=some b/\Side n P on a b:=by
 have key:=u6 h l r on [] none j2 (λx hx=>hx) j2
 cases hr:on.foldl (dU n P a) none with
 | none=>
  rw[hr] at key;obtain⟨x,hx,d⟩:=v
  simp_all
 | some b=>
  rw[hr] at key;simp[z7b] at key;obtain⟨m,q,w⟩:=key;refine⟨b,rfl,m,q,λx hx=>?_⟩;by_cases d:x=a
  ·subst d;have e:R P x x=zero:=by simp[R,sub,zero]
   have:T n (R P x b) (R P x x)=0:=by rw[e];simp[T,dot,cross,zero]
   have hp:=uR<|R P x b;have e2:dot (R P x x) (R P x b)=0:=by rw[e];simp[dot,zero]
   omega
  ·have c:=w x hx d;refine⟨u0,λy=>?_⟩
   have t:dot (R P a x) (R P a x)<=dot (R P a b) (R P a b):=u0
   obtain⟨f,s⟩:=r;have k:=fE h.nz (h.pl a l b m) (h.pl a l x hx) y;have p:=Ni k f;have fb:=s b m q;have u:=s x hx d;have i:=bL<|vq h l m q;have q1:dot f (R P a b)*dot (R P a x) (R P a b)=dot f (R P a x)*dot (R P a b) (R P a b):=by grind [smul,dot]
   have g:=xO fb (by rw[q1];exact zub u i)
   refine⟨zTa g,?_⟩;have A:dot (R P a b) (R P a b)*dot (R P a x) (R P a x)=dot (R P a x) (R P a b)*dot (R P a x) (R P a b):=by have p:=Ni k<|R P a b;grind [smul,dot]
   generalize dot (R P a b) (R P a b)=B at *;generalize dot (R P a x) (R P a x)=X at *;generalize dot (R P a x) (R P a b)=D at *;rcases z5b B D with j|o
   ·exfalso;have a1:=zwb t<|zTa i;have a2:=zRc j i;have z:=Int.mul_lt_mul_of_pos_right j g;omega
   ·exact o
end poly
open V
def aH(a b:V):Prop:=a.x<b.x\/a.x=b.x/\(a.y<b.y\/a.y=b.y/\a.z<b.z)
theorem IX{P:Nat->V}{on:List Nat}(h:∀ x∈on,x≠a->aH (P a) (P x)):nD P on a:=by
 obtain⟨N1,p1,b1⟩:=km (λx=>(R P a x).y) on;obtain⟨N2,q,b2⟩:=km (λx=>(R P a x).z) on;refine⟨⟨(N1+N2)*(N1+N2)+(N1+N2),N1+N2,1⟩,λx hx f=>?_⟩;have m:=b1 x hx;have n:=b2 x hx;have hl:=h x hx f;simp[R,sub,aH,dot] at *;generalize hX:(P x).x-(P a).x=X at *;generalize hY:(P x).y-(P a).y=Y at *;generalize hZ:(P x).z-(P a).z=Z at *;generalize hN:N1+N2=N;have b:0<N:=u0
 have d:-N+1<=Y:=u0
 have j:Y<=N-1:=u0
 have k:-N+1<=Z:=u0
 have m1:=zwb d<|zTa b;have m2:N*(-N+1)=-(N*N)+N:=i4
 have g:=zub b b;rcases hl with hl|⟨o,hl|⟨p,hl⟩⟩
 ·have c:1<=X:=u0
  have l:(N*N+N)*1<=(N*N+N)*X:=zwb c u0
  omega
 ·have i:X=0:=u0
  have e:1<=Y:=u0
  have l:N*1<=N*Y:=zwb e u0
  grind
 ·grind
section poly
variable{n:V}{P:Nat->V}{on:List Nat}
def Chain.head(h:Chain S a c l):∃ l',l=c::l':=by cases h<;>exact⟨_,rfl⟩
theorem Chain.pairs:∀ {c:Nat} {l:List Nat},Chain S a c l->∀ i x,l[i]?=some x->∃ y,(l++[a])[i+1]?=some y/\S x y
 | c,_,.done h,i,x,hx=>by all_goals grind
 | c,_,.step (y:=y) (l:=l) h hne k,i,x,hx=>by
  cases i with
  | zero=>
   simp at hx;subst hx;obtain⟨l',rfl⟩:=k.head
   simp_all
  | succ i=>
   obtain⟨z,b,d⟩:=Chain.pairs k i x (by simpa using hx)
   simp_all
theorem F7(h:Flat n P on)(i:a∈on)(j:nD P on a)(q:∀ c∈on,∃ x∈on,x≠c) :
  ∃ l,Chain (Side n P on) a a l/\l.Nodup/\(∀ z∈l,z∈on/\nD P on z)/\∀ z∈on,nD P on z->z∈l:=by
 have d:∀ c∈on,nD P on c->∃ b,Side n P on c b:=λc m g=>by obtain⟨b,_,v⟩:=lO h m g<|q c m;grind
 obtain⟨c,f⟩:=d a i j;have g:=f.ext h i;obtain⟨l,o,t,w,u⟩:=walk h i j d f.mem g f.ne;refine⟨a::l,.step f f.ne o,zBd.2 ⟨λhm=>(t a hm).2.2.1 rfl,?_⟩,λz k=>?_,λz k p=>?_⟩
 ·refine List.Pairwise.imp (λ{x y} s e=>?_) u;grind [T,dot,cross]
 ·grind
 ·by_cases hza:z=a
  ·simp_all
  ·refine zsa _ ?_;have h0:=(f.all z k).1;rcases zBb h0 with hp|r
   ·simp_all
   ·have:=afR h i f.mem k j g p f.ne hza r.symm;subst this;obtain⟨l',rfl⟩:=o.head
    simp_all
end poly
def sg(x:Int):Int:=if x<0 then -1 else if 0<x then 1 else 0
def ya(a b:Int):sg a*sg b=sg (a*b):=by
 rcases zKb a 0 with h|h|h<;>rcases zKb b 0 with k|k|k
 ·have:=zZb h k;simp[sg,h,k,this,zAc.2<|zTa this]
 ·subst k;simp[sg]
 ·have:=Int.mul_neg_of_neg_of_pos h k;simp[sg,h,k,this,zAc.2<|zTa k]
 ·subst h;simp[sg]
 ·subst h;simp[sg]
 ·subst h;simp[sg]
 ·have:=zCb h k;simp[sg,h,k,this,zAc.2<|zTa h]
 ·subst k;simp[sg]
 ·have:=zub h k;simp[sg,h,k,this,zAc.2<|zTa h,zAc.2<|zTa k,zAc.2<|zTa this]
def gW{x:Int}(h:0<x):sg x=1:=by simp[sg,h,zAc.2<|zTa h]
def Gs{x:Int}(h:x<0):sg x=-1:=by simp[sg,h]
def zL(n c:V):Int:=if n.x≠0 then sg n.x*sg c.x else if n.y≠0 then sg n.y*sg c.y else if n.z≠0 then sg n.z*sg c.z else 0
def yb{a b p:Int}(hp:0<p)(hq:0<q)(h:a*p=q*b):sg a=sg b:=by
 have c:sg (a*p)=sg a:=by rw[<-ya,gW hp];simp
 have d:sg (q*b)=sg b:=by rw[<-ya,gW hq];simp
 simp_all
theorem HK{n c:V}(hn:n≠zero)(h:cross n c=zero):zL n c=sg (dot n c):=by
 have a:=zEa V.x h;have b:=zEa V.y h;have d:=zEa V.z h;simp[cross,zero] at a b d;have hp:=bL hn;have e1:n.x*c.x*dot n n=n.x*n.x*dot n c:=by simp[dot];grind
 have e2:n.y*c.y*dot n n=n.y*n.y*dot n c:=by simp[dot];grind
 have e3:n.z*c.z*dot n n=n.z*n.z*dot n c:=by simp[dot];grind
 unfold zL;split
 ·rename_i k;rw[ya];exact yb hp (Gy k) e1
 ·split
  ·rename_i k;rw[ya];exact yb hp (Gy k) e2
  ·split
   ·rename_i k;rw[ya];exact yb hp (Gy k) e3
   ·rename_i e f g;exact z8a (V.ext' (by simpa [zero] using e) (by simpa [zero] using f) (by simpa [zero] using g)) hn
theorem iJ{n u v:V}(a:dot n u=0)(b:dot n v=0):cross n (cross u v)=zero:=by grind [dot,cross,zero]
open V
def bB(P:Nat->V)(N:Nat)(n:V)(d:Int):List Nat:=(List.range N).filter λk=>decide (dot n (P k)=d)
def E1(P:Nat->V)(N:Nat)(n:V)(d:Int):Prop:=(∀ k,k<N->dot n (P k)<=d)/\∃ k,k<N/\dot n (P k)<d
def gz(P:Nat->V)(i j k:Nat):V:=cross (R P i j)<|R P i k
def bk(v:V):Nat:=Nat.gcd (Nat.gcd v.x.natAbs v.y.natAbs) v.z.natAbs
def aQ(v:V):V:=⟨v.x/bk v,v.y/bk v,v.z/bk v⟩
structure IsF(P:Nat->V)(N:Nat)(n:V)(d:Int):Prop where
 ex:∃ i j k,i<j/\j<k/\k<N/\gz P i j k≠zero/\(n=aQ (gz P i j k)\/n=neg (aQ<|gz P i j k))/\d=dot n (P i)
 supp:E1 P N n d
def kh{v:V}(h:v≠zero):0<bk v:=by
 rcases zMb (bk v) with e|p
 ·exfalso;unfold bk at e;rw[Nat.gcd_eq_zero_iff,Nat.gcd_eq_zero_iff] at e;exact h<|V.ext' (by simp[zero];omega) (by simp[zero];omega) (by simp[zero];omega)
 ·exact p
def kq(v:V):v=smul (bk v) (aQ v):=by
 have a:(bk v:Int) ∣ v.x:=zgb.2<|zEc (zhb _ _)<|zhb _ _;have d2:(bk v:Int) ∣ v.y:=zgb.2<|zEc (zhb _ _)<|znb _ _;have b:(bk v:Int) ∣ v.z:=zgb.2<|znb _ _;apply V.ext'
 ·exact(zTc a).symm
 ·exact(zTc d2).symm
 ·exact(zTc b).symm
def ug(k:Nat)(v:V):bk (smul k v)=k*bk v:=by simp_all [bk,smul,zwa,zia,Nat.gcd_mul_left]
def zD{v:V}(h:v≠zero):bk (aQ v)=1:=by have p:=kh h;have e:=ug (bk v)<|aQ v;rw[<-kq v] at e;exact(Nat.eq_of_mul_eq_mul_left p u0).symm
def De(v:V):bk (neg v)=bk v:=by simp[bk,neg]
theorem D3(v:V):aQ (neg v)=neg (aQ v):=by have e:=kq v;unfold aQ;rw[De];have a:(bk v:Int) ∣ v.x:=zgb.2<|zEc (zhb _ _)<|zhb _ _;have d2:(bk v:Int) ∣ v.y:=zgb.2<|zEc (zhb _ _)<|znb _ _;have b:(bk v:Int) ∣ v.z:=zgb.2<|znb _ _;simp[neg,z0c a,z0c d2,z0c b]
def v7{v:V}(h:v≠zero):aQ v≠zero:=λe=>h (by rw[kq v,e];apply V.ext'<;>simp[smul,zero])
def D4{u v:V}(k:bk u=1)(l:bk v=1){a b:Int}(i:0<a)(j:0<b)(h:smul a u=smul b v):u=v:=by
 obtain⟨a,rfl⟩:=zFc<|zTa i;obtain⟨b,rfl⟩:=zFc<|zTa j;have e:=ug a u;have e2:=ug b v;rw[h,e2,k,l] at e;have:a=b:=u0
 subst this;have d:=zEa V.x h;have f:=zEa V.y h;have g:=zEa V.z h;simp[smul] at d f g;have c:(a:Int)≠0:=u0
 exact V.ext' (Int.eq_of_mul_eq_mul_left c d) (Int.eq_of_mul_eq_mul_left c f)<|Int.eq_of_mul_eq_mul_left c g
section
variable{P:Nat->V}{N:Nat}
def IsF.nz{n:V}{d:Int}(h:IsF P N n d):n≠zero/\bk n=1:=by
 obtain⟨i,j,k,_,_,_,a,b|b,_⟩:=h.ex
 ·subst b;exact⟨v7 a,zD a⟩
 ·subst b;refine⟨λe=>v7 a ?_,by rw[De];exact zD a⟩
  have e1:=zEa V.x e;have e2:=zEa V.y e;have e3:=zEa V.z e;simp[neg,zero] at e1 e2 e3;exact V.ext' (by simp[zero];omega) (by simp[zero];omega) (by simp[zero];omega)
def aU{n:V}{d:Int}{k:Nat}:k∈bB P N n d↔k<N/\dot n (P k)=d:=by simp[bB]
theorem eG(n:V)(i k:Nat):dot n (R P i k)=dot n (P k)-dot n (P i):=by simp[dot,R,sub];grind
theorem IsF.three{n:V}{d:Int}(h:IsF P N n d):∃ i j k,i<j/\j<k/\k<N/\i∈bB P N n d/\j∈bB P N n d/\k∈bB P N n d/\gz P i j k≠zero:=by
 obtain⟨i,j,k,a,b,f,c,r,s⟩:=h.ex;have g:=kh c;have e:=kq<|gz P i j k;have p:dot (gz P i j k) (R P i j)=0:=by simp[gz,dot,cross];grind
 have q:dot (gz P i j k) (R P i k)=0:=by simp[gz,dot,cross];grind
 have key:∀ v:V,dot (gz P i j k) v=0->dot n v=0:=λv l=>by
  rw[e] at l;have:(bk (gz P i j k):Int)*dot (aQ<|gz P i j k) v=0:=by rw[<-l];simp[dot,smul];grind
  have h0:=bJ u0 this
  all_goals grind [dot,neg]
 have m:=key _ p;have o:=key _ q;rw[eG] at m o;exact⟨i,j,k,a,b,f,aU.2 ⟨u0,u0⟩,aU.2 ⟨u0,u0⟩,aU.2 ⟨f,u0⟩,c⟩
theorem IsF.flat(hl:∀ i j,i<j->j<N->aH (P i) (P j)){n:V}{d:Int}(h:IsF P N n d):Flat n P (bB P N n d):=by
 refine⟨h.nz.1,λx hx y f=>?_,λx hx y f e=>?_⟩
 ·have a:=(aU.1 hx).2;have b:=(aU.1 f).2;rw[eG];omega
 ·have a:=(aU.1 hx).1;have b:=(aU.1 f).1;rcases zpd x y with c|c|c
  ·grind [aH]
  ·exact c
  ·grind [aH]
theorem IsF.left(hl:∀ i j,i<j->j<N->aH (P i) (P j)){n:V}{d:Int}(h:IsF P N n d){b:Nat}(l:a∈bB P N n d)(f:Side n P (bB P N n d) a b) :
  ∃ x∈bB P N n d,0<T n (R P a b) (R P a x):=by
 obtain⟨i,j,k,s,t,Q,G,H,mk,E⟩:=h.three;have F:=h.flat hl;have key:∀ x∈bB P N n d,0<T n (R P a b) (R P a x)\/cross (R P a b) (R P a x)=zero:=λx hx=>by
  rcases zBb (f.all x hx).1 with c|c
  ·omega
  ·exact .inr<|fE F.nz (F.pl a l b f.mem) (F.pl a l x hx) c.symm
 rcases key i G with c|c
 ·grind
 rcases key j H with p|p
 ·grind
 rcases key k mk with q|q
 ·grind
 exfalso;apply E;have r:=bL<|vq F l f.mem f.ne;have p1:=Ni c<|R P a b;have m:=Ni p<|R P a b;have o:=Ni q<|R P a b;have w1:R P i j=sub (R P a j) (R P a i):=by grind [R,sub]
 have O:R P i k=sub (R P a k) (R P a i):=by grind [R,sub]
 unfold gz;rw[w1,O];generalize R P a b=e at *;generalize R P a i=u at *;generalize R P a j=v at *;generalize R P a k=w at *;generalize dot e u=A at *;generalize dot e v=B at *;generalize dot e w=C at *;generalize dot e e=D at *;have q1:=zEa V.x p1;have I:=zEa V.y p1;have J:=zEa V.z p1;have r1:=zEa V.x m;have K:=zEa V.y m;have L:=zEa V.z m;have s1:=zEa V.x o;have s2:=zEa V.y o;have M:=zEa V.z o;simp[smul] at q1 I J r1 K L s1 s2 M;have g:=zub r r;apply V.ext'<;>simp[cross,sub,zero]<;>refine bJ g ?_<;>grind
theorem far{n e:V}(d:dot n e=0){w:Nat->V}:∀ l:List Nat,l≠[]->(∀ y∈l,dot n (w y)<0)->∃ y∈l,∀ x∈l,0<=dot e (cross (w y)<|w x)
 | [],h,_=>z8a rfl h
 | [y],_,hn=>⟨y,zBa,λx hx=>by
   rw[zSa.1 hx];have:dot e (cross (w y)<|w y)=0:=by simp[dot,cross];grind
   omega⟩
 | z::o::l,_,hn=>by
  obtain⟨y,b,a⟩:=far d (o::l) j2<|λy b=>hn y<|zsa _ b
  have self:∀ v:V,dot e (cross v v)=0:=λv=>by simp[dot,cross];grind
  have m:∀ u v:V,dot e (cross v u)=- dot e (cross u v):=λu v=>by simp[dot,cross];grind
  have pl:∀ x y z:V,dot n x*dot e (cross y z)=dot n z*dot e (cross y x)+dot n y*dot e (cross x z):=λx y z=>by
   have:dot n x*dot e (cross y z)-(dot n z*dot e (cross y x)+dot n y*dot e (cross x z))=dot n e*dot x (cross y z):=by simp[dot,cross];grind
   rw[d] at this;omega
  rcases z5b (dot e (cross (w y) (w z))) 0 with i|c
  ·refine⟨z,zBa,λx hx=>?_⟩;rcases zMa.1 hx with rfl|hx
   ·have:=self<|w x;omega
   ·have g:=a x hx;have p:=pl (w y) (w z)<|w x;have r:=hn y<|zsa _ b;have j:=hn z zBa;have k:=hn x<|zsa _ hx;have q:=m (w y)<|w z;have a1:dot n (w x)*dot e (cross (w z)<|w y)<=0:=Int.mul_nonpos_of_nonpos_of_nonneg (zTa k) u0
    have a2:dot n (w z)*dot e (cross (w y)<|w x)<=0:=Int.mul_nonpos_of_nonpos_of_nonneg (zTa j) g;have f:0<=(-(dot n<|w y))*dot e (cross (w z)<|w x):=by rw[Int.neg_mul];omega
    exact Ab u0 f
  ·refine⟨y,zsa _ b,λx hx=>?_⟩;rcases zMa.1 hx with rfl|hx
   ·exact c
   ·exact a x hx
theorem VR{p q r:Nat}(hp:p<N)(hq:q<N)(E:r<N)(z:p≠q)(A:p≠r)(B:q≠r){m:V}(hm:m=gz P p q r)(s:∀ x,x<N->dot m (R P p x)<=0)(t:∃ x,x<N/\dot m (R P p x)<0) :
  ∃ n',∃ g:Int,0<g/\m=smul g n'/\IsF P N n' (dot n'<|P p):=by
 have d:m≠zero:=λe=>by grind [dot,zero]
 have G:=kh d;have e:=kq m;refine⟨aQ m,bk m,u0,e,?_,?_⟩
 ·have perm:∀ i j k,i<j->j<k->k<N->(m=gz P i j k\/m=neg (gz P i j k))->(dot (aQ m) (R P i p)=0)->∃ i j k,i<j/\j<k/\k<N/\gz P i j k≠zero/\(aQ m=aQ (gz P i j k)\/aQ m=neg (aQ<|gz P i j k))/\dot (aQ m) (P p)=dot (aQ m) (P i):=by
   intro i j k n o D c C;rw[eG] at C;refine⟨i,j,k,n,o,D,λe0=>d ?_,?_,u0⟩
   ·rcases c with c|c
    ·rw[c,e0]
    ·rw[c,e0];rfl
   ·grind [D3]
  have l:∀ v:V,dot m v=0->dot (aQ m) v=0:=λv H=>by
   have:(bk m:Int)*dot (aQ m) v=0:=by grind [dot,smul]
   exact bJ u0 this
  have F:dot (aQ m) (R P p p)=0:=l _ (by simp only[dot,R,sub];grind)
  have w:dot (aQ m) (R P q p)=0:=l _ (by rw[hm];simp[dot,gz,cross,R,sub];grind)
  have y:dot (aQ m) (R P r p)=0:=l _ (by rw[hm];simp[dot,gz,cross,R,sub];grind)
  rcases Nat.lt_or_gt_of_ne z with a1|a1<;>rcases Nat.lt_or_gt_of_ne A with a2|a2<;>rcases Nat.lt_or_gt_of_ne B with f|f
  ·grind
  ·exact perm p r q a2 f hq (.inr (by rw[hm];apply V.ext'<;>simp[gz,neg,cross,R,sub]<;>grind)) F
  ·omega
  ·exact perm r p q a2 a1 hq (.inl (by rw[hm];apply V.ext'<;>simp[gz,neg,cross,R,sub]<;>grind)) y
  ·exact perm q p r a1 a2 E (.inr (by rw[hm];apply V.ext'<;>simp[gz,neg,cross,R,sub]<;>grind)) w
  ·omega
  ·exact perm q r p f a2 hp (.inl (by rw[hm];apply V.ext'<;>simp[gz,neg,cross,R,sub]<;>grind)) w
  ·exact perm r q p f a1 hp (.inr (by rw[hm];apply V.ext'<;>simp[gz,neg,cross,R,sub]<;>grind)) y
 ·have u:∀ v:V,dot m v=(bk m:Int)*dot (aQ m) v:=λv=>by
   conv=>lhs;rw[e]
   grind [dot,smul]
  refine⟨λx hx=>?_,?_⟩
  ·have h:=s x hx;rw[u,eG] at h;rcases z5b (dot (aQ m) (P p)) (dot (aQ m) (P x)) with k|k
   ·have:=zub (a:=(bk m:Int)) (b:=dot (aQ m) (P x)-dot (aQ m) (P p)) u0 u0
    omega
   ·exact k
  ·obtain⟨x,hx,h⟩:=t;rw[u,eG] at h;refine⟨x,hx,?_⟩;rcases z5b (dot (aQ m) (P x)) (dot (aQ m) (P p)) with k|k
   ·exact k
   ·have:=zRb (a:=(bk m:Int)) (b:=dot (aQ m) (P x)-dot (aQ m) (P p)) u0 u0
    omega
end
open V
section
variable{P:Nat->V}{N:Nat}
theorem mF(hl:∀ i j,i<j->j<N->aH (P i) (P j)){n:V}{d:Int}(h:IsF P N n d){b:Nat}(E:a∈bB P N n d)(s:Side n P (bB P N n d) a b) :
  ∃ n' Y,IsF P N n' Y/\a∈bB P N n' Y/\b∈bB P N n' Y/\Side n' P (bB P N n' Y) b a:=by
 have F:=h.flat hl;have I:=(aU.1 E).1;have a3:=(aU.1 E).2;have K:=(aU.1 s.mem).1;have Z:dot n (R P a b)=0:=F.pl a E b s.mem;obtain⟨x1,A,H⟩:=h.left hl E s;have a0:dot n (R P a x1)=0:=F.pl a E x1 A;have O:∀ x,x<N->dot n (R P a x)<=0:=λx hx=>by rw[eG];have:=h.supp.1 x hx;omega
 have o:=bL F.nz;obtain⟨z,aI,hz⟩:=h.supp.2;obtain⟨y,hy,M⟩:=far (w:=R P a) Z ((List.range N).filter λk=>decide (dot n (R P a k)<0)) (List.ne_nil_of_mem (a:=z) (by simp[aI,eG];omega))<|λy hy=>by simpa using(zKc.1 hy).2
 have an:y<N:=by simpa using(zKc.1 hy).1
 have B:dot n (R P a y)<0:=by simpa using(zKc.1 hy).2
 have m:∀ x,x<N->dot n (R P a x)<0->0<=dot (R P a b) (cross (R P a y)<|R P a x):=λx hx hn=>M x (by simp[hx,hn])
 have l:∀ u v:V,dot n u=0->dot n v=0->∀ y:V,dot n n*dot (cross u v) y=dot n (cross u v)*dot n y:=λu v hu hv y=>by have c:=iJ hu hv;have G:=zEa V.x c;have c2:=zEa V.y c;have c3:=zEa V.z c;generalize cross u v=k at *;simp[cross,zero] at G c2 c3;simp[dot];grind
 have U:∀ v:V,dot (cross (R P a y)<|R P a b) v=- dot (R P a b) (cross (R P a y) v):=λv=>by simp[dot,cross];grind
 have C:∀ v:V,dot (cross (R P a y)<|R P a b) v=dot (cross (R P a b) v) (R P a y):=λv=>by simp[dot,cross];grind
 have D:∀ x∈bB P N n d,dot n n*dot (cross (R P a y)<|R P a b) (R P a x)=T n (R P a b) (R P a x)*dot n (R P a y):=λx hx=>by rw[C];exact l _ _ Z (F.pl a E x hx) _
 have aO:∀ x,x<N->dot (cross (R P a y)<|R P a b) (R P a x)<=0:=λx hx=>by
  rcases zBb (O x hx) with k|k
  ·rw[U];have:=m x hx k;omega
  ·have f:x∈bB P N n d:=aU.2 ⟨hx,by rw[eG] at k;omega⟩
   have e:=D x f;have t:=(s.all x f).1;have:T n (R P a b) (R P a x)*dot n (R P a y)<=0:=Int.mul_nonpos_of_nonneg_of_nonpos t<|zTa B;rcases z5b 0 (dot (cross (R P a y) (R P a b)) (R P a x)) with q|q
   ·have:=zub o q;omega
   ·exact q
 have W:dot (cross (R P a y)<|R P a b) (R P a x1)<0:=by
  have e:=D x1 A;have:T n (R P a b) (R P a x1)*dot n (R P a y)<0:=zCb H B;rcases z5b (dot (cross (R P a y) (R P a b)) (R P a x1)) 0 with q|q
  ·exact q
  ·have:=zRb (zTa o) q;omega
 have ap:a≠y:=λe=>by subst e;rw[show dot n (R P a a)=0 by simp only[dot,R,sub];grind] at B;omega
 have ax:y≠b:=λe=>by subst e;omega
 obtain⟨n',g,hg,hm,hF⟩:=VR (p:=a) (q:=y) (r:=b) I an K ap (Ne.symm s.ne) ax rfl aO ⟨x1,(aU.1 A).1,W⟩;have sc:∀ v:V,dot (cross (R P a y)<|R P a b) v=g*dot n' v:=λv=>by have:gz P a y b=cross (R P a y) (R P a b):=rfl;rw[<-this,hm];simp[dot,smul];grind
 have L:dot n' (R P a b)=0:=bJ hg (by rw[<-sc];simp[dot,cross];grind)
 have J:a∈bB P N n' (dot n'<|P a):=aU.2 ⟨I,rfl⟩;have al:b∈bB P N n' (dot n'<|P a):=aU.2 ⟨K,by rw[eG] at L;omega⟩
 refine⟨n',_,hF,J,al,J,Ne.symm s.ne,λx hx=>?_⟩;have S:=(aU.1 hx).1;have Q:dot n' (R P a x)=0:=by rw[eG];have:=(aU.1 hx).2;omega
 have a1:dot (cross (R P a y)<|R P a b) (R P a x)=0:=by rw[sc,Q,znd]
 have tE:T n' (R P b a) (R P b x)=dot n' (cross (R P a x)<|R P a b):=by simp[T,dot,cross,R,sub];grind
 have dE:dot (R P b x) (R P b a)=dot (R P a b) (R P a b)-dot (R P a x) (R P a b):=by simp[dot,R,sub];grind
 have ad:dot (R P b a) (R P b a)=dot (R P a b) (R P a b):=by simp[dot,R,sub];grind
 rw[tE,dE,ad];rcases zBb (O x S) with k|k
 ·
  have G:dot (cross (R P a x)<|R P a b) (R P a x1)<0:=by
   have e:=l (R P a b) (R P a x1) Z a0<|R P a x;have e2:dot (cross (R P a x)<|R P a b) (R P a x1)=dot (cross (R P a b)<|R P a x1) (R P a x):=by simp[dot,cross];grind
   have:T n (R P a b) (R P a x1)*dot n (R P a x)<0:=zCb H k;rw[e2];simp[T] at this;rcases z5b (dot (cross (R P a b) (R P a x1)) (R P a x)) 0 with q|q
   ·exact q
   ·have:=zRb (zTa o) q;omega
  have a2:dot n' n'*dot (cross (R P a x)<|R P a b) (R P a x1)=dot n' (cross (R P a x)<|R P a b)*dot n' (R P a x1):=by have c:=iJ Q L;have G:=zEa V.x c;have c2:=zEa V.y c;have c3:=zEa V.z c;generalize cross (R P a x) (R P a b)=k at *;simp[cross,zero] at G c2 c3;simp[dot];grind
  have X:=bL hF.nz.1;have n1:dot n' (R P a x1)<0:=by
   rw[sc] at W;rcases z5b (dot n' (R P a x1)) 0 with q|q
   ·exact q
   ·have:=zRb (zTa hg) q;omega
  have l1:=zCb X G;have pos:0<dot n' (cross (R P a x)<|R P a b):=by
   rcases z5b 0 (dot n' (cross (R P a x) (R P a b))) with q|q
   ·exact q
   ·have:=Int.mul_nonneg_of_nonpos_of_nonpos q<|zTa n1;omega
  exact⟨zTa pos,λh0=>u0⟩
 ·have f:x∈bB P N n d:=aU.2 ⟨S,by rw[eG] at k;omega⟩
  have e:=D x f;rw[a1,znd] at e;have t0:T n (R P a b) (R P a x)=0:=by
   rcases zMc.1 e.symm with q|q
   ·exact q
   ·omega
  have s2:=(s.all x f).2 t0;have c0:=fE F.nz Z k t0;have:dot n' (cross (R P a x)<|R P a b)=0:=by
   have e2:dot n' (cross (R P a x)<|R P a b)=- dot n' (cross (R P a b)<|R P a x):=by simp[dot,cross];grind
   rw[e2,c0];simp[dot,zero]
  rw[this];exact⟨Int.le_refl _,λ_=>⟨u0,u0⟩⟩
theorem L1(hl:∀ i j,i<j->j<N->aH (P i) (P j)){d h:V}{d2:Int}(G:IsF P N d f)(H:IsF P N h d2){b:Nat}(m:a∈bB P N d f)(o:a∈bB P N h d2)
  (p:Side d P (bB P N d f) a b) (B:Side h P (bB P N h d2) a b):d=h:=by
 have F1:=G.flat hl;have F2:=H.flat hl;obtain⟨x1,E,I⟩:=G.left hl m p;obtain⟨g,r,C⟩:=H.left hl o B;have e1:=F1.pl a m b p.mem;have e2:=F2.pl a o b B.mem;have z1:=F1.pl a m x1 E;have Q:=F2.pl a o g r;have J:dot d (R P a g)<=0:=by rw[eG];have:=G.supp.1 g (aU.1 r).1;have:=(aU.1 m).2;omega
 have K:dot h (R P a x1)<=0:=by rw[eG];have:=H.supp.1 x1 (aU.1 E).1;have:=(aU.1 o).2;omega
 have w:=bL F1.nz;have A:=bL F2.nz;have l:∀ (n u v:V),dot n u=0->dot n v=0->smul (dot n n) (cross u v)=smul (dot n<|cross u v) n:=λn u v U W=>by have c:=iJ U W;have L:=zEa V.x c;have M:=zEa V.y c;have S:=zEa V.z c;generalize cross u v=k at *;simp[cross,zero] at L M S;apply V.ext'<;>simp[smul,dot]<;>grind
 have t:∀ (k:Int) (u v:V),dot (smul k u) v=k*dot u v:=λk u v=>by simp[dot,smul];grind
 have O:dot d d*dot (cross (R P a b)<|R P a x1) (R P a g)=T d (R P a b) (R P a x1)*dot d (R P a g):=by have:=zEa (λv=>dot v<|R P a g)<|l d _ _ e1 z1;simp[t] at this;exact this
 have X:dot h h*dot (cross (R P a b)<|R P a g) (R P a x1)=T h (R P a b) (R P a g)*dot h (R P a x1):=by have:=zEa (λv=>dot v<|R P a x1)<|l h _ _ e2 Q;simp[t] at this;exact this
 have Y:dot (cross (R P a b)<|R P a g) (R P a x1)=- dot (cross (R P a b)<|R P a x1) (R P a g):=by simp[dot,cross];grind
 have m1:=Int.mul_nonpos_of_nonneg_of_nonpos (zTa I) J;have m2:=Int.mul_nonpos_of_nonneg_of_nonpos (zTa C) K;have D0:dot (cross (R P a b)<|R P a x1) (R P a g)=0:=by
  rw[Y] at X;generalize dot (cross (R P a b)<|R P a x1) (R P a g)=D at *;rcases zKb D 0 with q|q|q
  ·have:=zub (a:=dot h h) (b:=-D) A u0;omega
  ·exact q
  ·have:=zub w q;omega
 have s:dot d (R P a g)=0:=by
  rw[D0,znd] at O;rcases zMc.1 O.symm with q|q
  ·omega
  ·exact q
 have F:g∈bB P N d f:=aU.2 ⟨(aU.1 r).1,by rw[eG] at s;have:=(aU.1 m).2;omega⟩
 have M:=l h _ _ e2 Q;have L:=l d _ _ e1 s;have Z:=(p.all g F).1;have ne:T d (R P a b) (R P a g)≠0:=λe=>by
  have a0:=fE F1.nz e1 s e
  simp_all [T,a0,dot,zero]
 refine D4 G.nz.2 H.nz.2 (a:=T d (R P a b) (R P a g)*dot h h) (b:=T h (R P a b) (R P a g)*dot d d) (zub u0 A) (zub C w) ?_
 grind [T,smul]
end
open V
section
variable{n:V}{P:Nat->V}{on:List Nat}
theorem Side.start(h:Flat n P on){b:Nat}(d:a∈on)(f:Side n P on a b):nD P on a:=by
 obtain⟨K,s,t⟩:=km (λx=>dot (R P a b)<|R P a x) on;refine⟨add (smul K<|cross n<|R P a b)<|R P a b,λx hx i=>?_⟩;have e:dot (add (smul K<|cross n<|R P a b)<|R P a b) (R P a x)=K*T n (R P a b) (R P a x)+dot (R P a b) (R P a x):=by simp[T,dot,add,smul,cross];grind
 rw[e];obtain⟨q,r⟩:=f.all x hx;have c:=t x hx;rcases zBb q with k|k
 ·have:K*1<=K*T n (R P a b) (R P a x):=zwb u0<|zTa s
  omega
 ·rw[<-k,znd,zvc];obtain⟨q1,u⟩:=r k.symm;have m:dot (R P a b) (R P a x)=dot (R P a x) (R P a b):=by simp[dot];grind
  rw[m];rcases zBb q1 with p|p
  ·exact p
  ·exfalso;have o:=fE h.nz (h.pl a d b f.mem) (h.pl a d x hx) k.symm;have g:=Ni o<|R P a b;rw[m,<-p] at g;have hp:=bL<|vq h d f.mem f.ne;apply vq h d hx i;have p1:=zEa V.x g;have j:=zEa V.y g;have l:=zEa V.z g;simp[smul,zCc] at p1 j l;exact V.ext' (bJ hp p1) (bJ hp j)<|bJ hp l
end
theorem oT{α:Type}{r:α->α->Prop}(d:∀ a,¬ r a a)(c:∀ a b,r a b->¬ r b a):∀ {l l':List α},l.Pairwise r->l'.Pairwise r->(∀ x,x∈l↔x∈l')->l=l'
 | [],[],_,_,_=>rfl
 | [],b::l',_,_,h=>z8a ((h b).2 zBa) j2
 | a::l,[],_,_,h=>z8a ((h a).1 zBa) j2
 | a::l,b::l',f,g,h=>by
  obtain⟨k,i⟩:=zNa.1 f;obtain⟨n,j⟩:=zNa.1 g;have e:a=b:=by
   rcases zMa.1 ((h a).1 zBa) with e|m
   ·exact e
   ·rcases zMa.1 ((h b).2 zBa) with e|o
    ·exact e.symm
    ·grind
  subst e;rw[oT d c i j λx=>?_];all_goals grind
def oN(a:V):¬ aH a a:=by simp only[aH];omega
def zM(a b:V):aH a b->¬ aH b a:=by simp[aH];omega
def nS{a b c:V}:aH a b->aH b c->aH a c:=by simp[aH];omega
def ur{a b:V}(h:a≠b):aH a b\/aH b a:=by simp[aH];rcases zKb a.x b.x with c|c|c<;>rcases zKb a.y b.y with d|d|d<;>rcases zKb a.z b.z with e|e|e<;>first|omega|exact z8a (V.ext' c d e) h
structure Facets(P:Nat->V)(N:Nat)(L:List<|V×Int):Prop where
 ord:L.Pairwise (λa b=>aH a.1 b.1)
 mem:∀ q,q∈L↔IsF P N q.1 q.2
def Facets.eq{P:Nat->V}{N:Nat}{L L':List<|V×Int}(h:Facets P N L)(c:Facets P N L'):L=L':=
 oT (r:=λa b=>aH a.1 b.1) (λa=>oN a.1) (λa b=>zM a.1 b.1) h.ord c.ord λx=>(h.mem x).trans (c.mem x).symm
section
variable{P:Nat->V}{N:Nat}{n:V}{d:Int}
def IsF.d_eq(h:IsF P N n d)(a:IsF P N n q):d=q:=by
 obtain⟨i,_,_,f,g,p,_,_,e⟩:=h.ex;obtain⟨k,_,_,b,c,j,_,_,l⟩:=a.ex;have m:=h.supp.1 k u0
 have o:=a.supp.1 i u0
 omega
def bU(P:Nat->V)(N:Nat)(n:V)(d:Int)(l:List Nat):Prop:=∃ a,(bB P N n d).head?=some a/\Chain (Side n P<|bB P N n d) a a l
def Nc:(bB P N n d).Pairwise (·<·):=List.Pairwise.sublist List.filter_sublist List.pairwise_lt_range
theorem IsF.head(hl:∀ i j,i<j->j<N->aH (P i) (P j))(h:IsF P N n d):∃ a,(bB P N n d).head?=some a/\a∈bB P N n d/\nD P (bB P N n d) a/\(∀ x∈bB P N n d,a<=x)/\∀ c∈bB P N n d,∃ x∈bB P N n d,x≠c:=by
 obtain⟨i,j,k,f,g,q,e,s,mk,r⟩:=h.three;cases hon:bB P N n d with
 | nil=>rw[hon] at e;simp at e
 | cons a l=>
  have m:(a::l).Pairwise (·<·):=by rw[<-hon];exact Nc
  rw[zNa] at m;have b:∀ x∈a::l,a<=x:=λx hx=>by all_goals grind
  refine⟨a,rfl,zBa,IX λx hx o=>?_,b,λc p=>?_⟩
  ·have:=b x hx;rw[<-hon] at hx;exact hl a x u0 (aU.1 hx).1
  ·grind
def IsF.poly(hl:∀ i j,i<j->j<N->aH (P i) (P j))(h:IsF P N n d) :
  ∃ l,bU P N n d l/\l.Nodup/\∀ z,z∈l↔z∈bB P N n d/\nD P (bB P N n d) z:=by
 obtain⟨a,b,c,e,q,f⟩:=h.head hl;obtain⟨l,g,k,m,o⟩:=F7 (h.flat hl) c e f;exact⟨l,⟨a,b,g⟩,k,λz=>⟨m z,λ⟨q1,p⟩=>o z q1 p⟩⟩
theorem bU.eq(hl:∀ i j,i<j->j<N->aH (P i) (P j))(h:IsF P N n d){l':List Nat}(k:bU P N n d l)(k':bU P N n d l'):l=l':=by
 obtain⟨a,p,v⟩:=k;obtain⟨a',g,q⟩:=k';rw[p] at g;cases g;obtain⟨b,g1,g2,g3,t,u⟩:=h.head hl;rw[p] at g1;cases g1;have F:=h.flat hl;have key:∀ {c:Nat} {l l':List Nat},c∈bB P N n d->Chain (Side n P<|bB P N n d) a c l->Chain (Side n P<|bB P N n d) a c l'->l=l':=by
  intro c l l' m r
  induction r generalizing l' with
  | done s=>intro o;cases o with
   | done _=>rfl
   | step s' f _=>exact z8a (agl F m s' s) f
  | step s f k ih=>intro o;cases o with
   | done s'=>exact z8a (agl F m s s') f
   | step s' _ k'=> have e:=agl F m s s';subst e;rw[ih s.mem k']
 grind
def mG(l:List Nat):List (Nat×Nat):=(List.range l.length).filterMap λk=>if l.getD k 0<l.getD ((k+1)%l.length) 0 then some (l.getD k 0,l.getD ((k+1)%l.length) 0) else none
def bU.next(k:bU P N n d l){i:Nat}(hi:i<l.length):Side n P (bB P N n d) (l.getD i 0) (l.getD ((i+1)%l.length) 0):=by
 obtain⟨a,g,b⟩:=k;obtain⟨l',e⟩:=b.head;obtain⟨y,q1,h⟩:=b.pairs i (l.getD i 0) (by simp[List.getD,zca hi])
 rcases zua (i+1) l.length with c|c
 ·rw[zab c] at q1;rw[z0a c]
  simp_all
 ·have f:i+1=l.length:=u0
  simp_all
theorem nW{b:Nat}:(a,b)∈mG l↔a<b/\∃ i,i<l.length/\l.getD i 0=a/\l.getD ((i+1)%l.length) 0=b:=by simp[mG,z4c,zRa];all_goals grind
def Kt(P:Nat->V)(N:Nat)(n:V)(d:Int)(a b:Nat):Prop:=a∈bB P N n d/\Side n P (bB P N n d) a b
theorem afS(hl:∀ i j,i<j->j<N->aH (P i) (P j))(h:IsF P N n d)(k:bU P N n d l){b:Nat} :
  (∃ i,i<l.length/\l.getD i 0=a/\l.getD ((i+1)%l.length) 0=b)↔Kt P N n d a b:=by
 obtain⟨p,p1,q,g⟩:=h.poly hl;have:=bU.eq hl h k p1;subst this;constructor
 ·rintro⟨i,hi,m,o⟩;have s:=k.next hi
  rw[m,o] at s;refine⟨((g a).1 ?_).1,s⟩;grind
 ·rintro⟨c,s⟩;have hm:=(g a).2 ⟨c,s.start (h.flat hl) c⟩;obtain⟨i,hi,e⟩:=z3a hm;have f:l.getD i 0=a:=by simp_all
  have s2:=k.next hi
  rw[f] at s2;exact⟨i,hi,f,agl (h.flat hl) c s2 s⟩
theorem yG(h:l.Nodup):(mG l).Nodup:=by
 unfold mG;refine List.Pairwise.filterMap _ (R:=λi j:Nat=>i≠j/\i<l.length/\j<l.length) (S:=λx y=>x≠y) ?_ ?_
 ·intro i j ⟨a,hi,b⟩ x hx y d e;subst e;simp[Option.ite_none_right_eq_some,zda] at hx d;have e1:l.getD i 0=l.getD j 0:=i4
  simp[List.getD,zca hi,zca b,z0b] at e1;rcases Nat.lt_or_gt_of_ne a with c|c
  ·exact zIb.1 h i j hi b c e1
  ·exact zIb.1 h j i b hi c e1.symm
 ·have:=List.nodup_range (n:=l.length);refine z3c ?_ this
  simp_all
end
def DY(a b:Nat×Nat):Prop:=a.1<b.1\/a.1=b.1/\a.2<b.2
def dF(L:List<|V×Int)(poly:V×Int->List Nat):List (Nat×Nat):=L.flatMap λq=>mG<|poly q
section
variable{P:Nat->V}{N:Nat}
def EL(hl:∀ i j,i<j->j<N->aH (P i) (P j)){L:List<|V×Int}(hL:Facets P N L){poly:V×Int->List Nat}(hp:∀ q∈L,bU P N q.1 q.2<|poly q){b:Nat} :
  (a,b)∈dF L poly↔a<b/\∃ n d,IsF P N n d/\Kt P N n d a b:=by
 simp only[dF,zqb,nW];constructor
 ·rintro⟨q,hq,c,hi⟩;exact⟨c,q.1,q.2,(hL.mem q).1 hq,(afS hl ((hL.mem q).1 hq)<|hp q hq).1 hi⟩
 ·rintro⟨c,n,d,e,f⟩;have hq:=(hL.mem (n,d)).2 e;exact⟨(n,d),hq,c,(afS hl e<|hp _ hq).2 f⟩
def yU(hl:∀ i j,i<j->j<N->aH (P i) (P j)){L:List<|V×Int}(hL:Facets P N L){poly:V×Int->List Nat}(hp:∀ q∈L,bU P N q.1 q.2<|poly q):(dF L poly).Nodup:=by
 unfold dF List.Nodup;rw[List.pairwise_flatMap];refine⟨λq hq=>?_,?_⟩
 ·obtain⟨l,p1,n,_⟩:=((hL.mem q).1 hq).poly hl;have:=bU.eq hl ((hL.mem q).1 hq) (hp q hq) p1;rw[this];exact yG n
 ·refine z3c ?_ hL.ord;intro q h hq d c x hx y m e;subst e;obtain⟨a,b⟩:=x;have F:=(hL.mem q).1 hq;have F':=(hL.mem h).1 d;obtain⟨k,d2⟩:=(afS hl F<|hp q hq).1 (nW.1 hx).2;obtain⟨f,g⟩:=(afS hl F'<|hp h d).1 (nW.1 m).2;have:=L1 hl F F' k f d2 g;rw[this] at c;exact oN _ c
theorem Fe(hl:∀ i j,i<j->j<N->aH (P i) (P j)){b:Nat}:(∃ n d,IsF P N n d/\(Kt P N n d a b\/Kt P N n d b a))↔∃ n d,IsF P N n d/\Kt P N n d a b:=by
 constructor
 ·rintro⟨n,d,k,h|h⟩
  ·grind
  ·obtain⟨n',c,e,l,f,g⟩:=mF hl k h.1 h.2;exact⟨n',c,e,f,g⟩
 ·grind
end
end
end Geo
end
noncomputable section
namespace Sy
open Go Go.Proofs Geo
section
variable{A B a:Int}{u:V}
abbrev I(n:Int):D:=.int .i64 n
def X(v:V):D:=.st [I v.x,I v.y,I v.z]
def inR(n:Int):Prop:=-9223372036854775808<=n/\n<=9223372036854775807
theorem jg{n:Int}(h:inR n):IntKind.wrap .i64 n=n:=by obtain⟨a,b⟩:=h;grind [IntKind.wrap,IntKind.signed,IntKind.bits]
def az{b:Int}(h:inR<|a+b):afA .add (I a) (I b)=some (I<|a+b):=by simp[afA,if_true,jg h]
theorem bP{a b:Int}(h:inR<|a-b):afA .sub (I a) (I b)=some (I<|a-b):=by simp[afA,if_true,jg h]
def cL{a b:Int}(h:inR<|a*b):afA .mul (I a) (I b)=some (I<|a*b):=by simp[afA,if_true,jg h]
def ag{a b:Int}:afA .lss (I a) (I b)=some (.bool<|decide (a<b)):=by simp[afA,if_true]
def gC{b:Int}:afA .leq (I a) (I b)=some (.bool<|decide (a<=b)):=by simp[afA,if_true]
def bR{b:Int}:afA .gtr (I a) (I b)=some (.bool<|decide (a>b)):=by simp[afA,if_true]
def fD{b:Int}:afA .geq (I a) (I b)=some (.bool<|decide (a ≥ b)):=by simp[afA,if_true]
def rP{b:Int}(h:b≠0):afA .rem (I a) (I b)=some (I<|a.tmod b):=by simp[afA,if_true,h,if_false]
def uN{b:Int}(h:b≠0)(c:inR<|a.tdiv b):afA .quo (I a) (I b)=some (I<|a.tdiv b):=by simp[afA,if_true,h,if_false,jg c]
theorem ny{a:Int}(h:inR<|-a):afP .neg (I a)=some (I<|-a):=by simp[afP,Int.zero_sub,jg h]
def aD{b:Bool}:afP .not (.bool b)=some (.bool<|!b):=rfl
def ac{b:Bool}:D.truth (.bool b)=some b:=rfl
theorem sM{a b:Int}:D.max2 (I a) (I b)=some (I<|max a b):=by grind [D.max2]
theorem MP{b:Int}:D.min2 (I a) (I b)=some (I<|min a b):=by grind [D.min2]
theorem cc{b:Int}:D.beq (I a) (I b)=decide (a=b):=by simp[D.beq]
def qF(v:V):D.get (X v) [0]=some (I v.x):=rfl
def qH(v:V):D.get (X v) [1]=some (I v.y):=rfl
def qK(v:V):D.get (X v) [2]=some (I v.z):=rfl
def w8(x y z:Int):D.st [D.int .i64 x,D.int .i64 y,D.int .i64 z]=X ⟨x,y,z⟩:=rfl
def bd(k:Int)(v:V):Prop:=(-k<=v.x/\v.x<=k)/\(-k<=v.y/\v.y<=k)/\(-k<=v.z/\v.z<=k)
def jG{b A B:Int}(g:-A<=a/\a<=A)(h:-B<=b/\b<=B):-(A*B)<=a*b/\a*b<=A*B:=by
 have c:0<=A:=u0
 have d:0<=B:=u0
 have e:(a*b).natAbs<=(A*B).natAbs:=by rw[zwa,zwa];exact zHa u0 u0
 have f:=zRb c d;omega
theorem lr{v:V}(a:bd A u)(b:bd B v):bd (A+B) (u.sub v):=by grind [bd,V.sub]
theorem tJ(a:bd A u):bd A u.neg:=by grind [bd,V.neg]
theorem kc{v:V}(a:bd A u)(b:bd B v):bd (2*(A*B)) (V.cross u v):=by have:=jG a.1 b.1;have:=jG a.1 b.2.1;have:=jG a.1 b.2.2;have:=jG a.2.1 b.1;have:=jG a.2.1 b.2.1;have:=jG a.2.1 b.2.2;have:=jG a.2.2 b.1;have:=jG a.2.2 b.2.1;have:=jG a.2.2 b.2.2;grind [bd,V.cross]
theorem Ld{v:V}(a:bd A u)(b:bd B v):-(3*(A*B))<=V.dot u v/\V.dot u v<=3*(A*B):=by have:=jG a.1 b.1;have:=jG a.2.1 b.2.1;have:=jG a.2.2 b.2.2;grind [V.dot]
theorem C5{v:V}(a:bd A u)(b:bd B v)(h:3*(A*B)<=9223372036854775807) :
  inR (u.x*v.x)/\inR (u.y*v.y)/\inR (u.z*v.z)/\inR (u.x*v.x+u.y*v.y)/\inR (u.x*v.x+u.y*v.y+u.z*v.z):=by
 have:=jG a.1 b.1;have:=jG a.2.1 b.2.1;have:=jG a.2.2 b.2.2;grind [inR]
def f101{call:Nat->List D->Option D}{v:V}(f:bd A u)(g:bd B v)(h:3*(A*B)<=9223372036854775807):OE cB call (X u) (X v)=some (I<|V.dot u v):=by obtain⟨a,b,c,d,e⟩:=C5 f g h;simp only[OE,Q,P,qF,qH,qK,zba,cL a,cL b,cL c,az d,az e];rfl
def Ll(n:Nat){v:V}(a:bd A u)(b:bd B v)(h:3*(A*B)<=9223372036854775807):cA (n+1) 101 [X u,X v]=some (I<|V.dot u v):=by refine eN OE ?_;exact f101 a b h
def IE(n:Nat){v:V}(f:bd A u)(g:bd B v)(h:3*(A*B)<=9223372036854775807):cA (n+1) 107 [X u,X v]=some (I<|V.dot u v):=by obtain⟨a,b,c,d,e⟩:=C5 f g h;refine eN Sg ?_;simp only[Sg,Q,P,qF,qH,qK,zba,cL a,cL b,cL c,az d,az e];rfl
theorem wP{v:V}(a:bd A u)(b:bd B v)(h:2*(A*B)<=9223372036854775807) :
  inR (u.y*v.z)/\inR (u.z*v.y)/\inR (u.z*v.x)/\inR (u.x*v.z)/\inR (u.x*v.y)/\inR (u.y*v.x)/\inR (u.y*v.z-u.z*v.y)/\inR (u.z*v.x-u.x*v.z)/\inR (u.x*v.y-u.y*v.x):=by
 have:=jG a.1 b.1;have:=jG a.1 b.2.1;have:=jG a.1 b.2.2;have:=jG a.2.1 b.1;have:=jG a.2.1 b.2.1;have:=jG a.2.1 b.2.2;have:=jG a.2.2 b.1;have:=jG a.2.2 b.2.1;have:=jG a.2.2 b.2.2;grind [inR]
def Xl(n:Nat){v:V}(k:bd A u)(l:bd B v)(h:2*(A*B)<=9223372036854775807):cA (n+1) 117 [X u,X v]=some (X<|V.cross u v):=by obtain⟨a,b,c,d,e,f,g,i,j⟩:=wP k l h;refine eN Ss ?_;simp only[Ss,Q,P,qF,qH,qK,zba,cL a,cL b,cL c,cL d,cL e,cL f,bP g,bP i,bP j];rfl
def Xo(n:Nat){v:V}(k:bd A u)(l:bd B v)(h:2*(A*B)<=9223372036854775807):cA (n+1) 123 [X u,X v]=some (X<|V.cross u v):=by obtain⟨a,b,c,d,e,f,g,i,j⟩:=wP k l h;refine eN SB ?_;simp only[SB,Q,P,qF,qH,qK,zba,cL a,cL b,cL c,cL d,cL e,cL f,bP g,bP i,bP j];rfl
def Q8(n:Nat)(d:bd A u)(h:A<=9223372036854775807):cA (n+1) 97 [X u]=some (X u.neg):=by
 have a:inR (-u.x):=by simp[bd,inR] at *;omega
 have b:inR (-u.y):=by simp[bd,inR] at *;omega
 have c:inR (-u.z):=by simp[bd,inR] at *;omega
 refine fN F97 ?_;simp only[F97,Q,qF,qH,qK,zba,ny a,ny b,ny c];rfl
end
end Sy
end
end Go.Proofs.YtdlipdnepadhjaaGreat
