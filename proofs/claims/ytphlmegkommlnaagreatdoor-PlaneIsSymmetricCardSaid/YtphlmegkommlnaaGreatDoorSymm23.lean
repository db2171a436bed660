/- PlaneIsSymmetric answers true at every input, and the input reads afterwards as it read before. -/
import Derived.Test.YtphlmegkommlnaaGreatDoorSymm06
import Derived.Test.YtphlmegkommlnaaGreatDoorSymm22
import Derived.Test.YtphlmegkommlnaaGreatDoorRows
import Derived.Test.YtphlmegkommlnaaGreatDoorTie
import Derived.Test.YtphlmegkommlnaaGreatDoorCards
import Derived.SevenTiedAt
import Derived.LaidLaws
import Derived.Handed
set_option linter.unusedVariables false
set_option linter.unusedSimpArgs false
set_option linter.unnecessarySimpa false
set_option linter.defProp false
set_option maxRecDepth 20000
namespace Go.Proofs.YtphlmegkommlnaaGreatDoor
noncomputable section
namespace Sy
open Go Go.Proofs Geo
def Gg{mg vl:V->Rat}(R:List V):(∀ u∈R,u≠V.zero->u∈(mw mg vl R).1)/\∀ u∈(mw mg vl R).1,¬ mg u<0->∃ p,(mw mg vl R).2=some p/\vl u<=p.2:=by
 refine yN (P:=λR=>(∀ u∈R,u≠V.zero->u∈(mw mg vl R).1)/\∀ u∈(mw mg vl R).1,¬ mg u<0->∃ p,(mw mg vl R).2=some p/\vl u<=p.2) ⟨λu hu=>(by cases hu),λu hu=>(by cases hu)⟩ (λR w ih=>?_) R
 obtain⟨i1,i2⟩:=ih;rw[tB];unfold kq;split
 ·rename_i hw;refine⟨λu hu h0=>?_,i2⟩;rcases List.mem_append.1 hu with hu|hu
  ·exact i1 u hu h0
  ·rw[zHa.1 hu] at h0 ⊢;exact hw.resolve_left h0
 ·refine⟨λu hu h0=>?_,λu hu hm=>?_⟩
  ·rcases List.mem_append.1 hu with hu|hu
   ·exact List.mem_append_left _ (i1 u hu h0)
   ·exact zQa _ hu
  ·dsimp only[gN];rcases List.mem_append.1 hu with hu|hu
   ·obtain⟨p,e,hp⟩:=i2 u hu hm;rw[e];dsimp only;by_cases hw:mg w<0
    ·rw[if_pos hw];exact⟨p,rfl,hp⟩
    ·rw[if_neg hw];by_cases hlt:p.2<vl w
     ·rw[if_pos hlt];exact⟨_,rfl,Rat.le_trans hp (Rat.le_of_lt hlt)⟩
     ·rw[if_neg hlt];exact⟨p,rfl,hp⟩
   ·rw[zHa.1 hu] at hm ⊢;rw[if_neg hm];cases (mw mg vl R).2 with
    | none=>exact⟨_,rfl,Rat.le_refl⟩
    | some p=>
     dsimp only;split
     ·exact⟨_,rfl,Rat.le_refl⟩
     ·rename_i hlt;exact⟨p,rfl,Rat.not_lt.1 hlt⟩
def w6(u:V):u.neg.neg=u:=by cases u;simp[V.neg]
def Ag(u v:V):V.cross u v=(V.cross v u).neg:=by
 obtain⟨a,b,c⟩:=u;obtain⟨d,e,f⟩:=v;simp only[V.cross,V.neg,V.mk.injEq];grind
def Aj(u:V):V.dot u.neg u.neg=V.dot u u:=by
 cases u;simp only[V.dot,V.neg];grind
def Ju{q r:Nat->Int}{l m:List V}{F G:FL}{E E':List (Nat×Nat)}{u:V}(h:u∈jJ q r l m F G E E'):u.neg∈jJ r q m l G F E' E:=by
 rcases List.mem_append.1 h with h|h
 ·rcases List.mem_append.1 h with h|h
  ·exact List.mem_append_left _ (zQa _ (z7a.2 ⟨u,h,rfl⟩))
  ·obtain⟨w,hw,rfl⟩:=z7a.1 h;rw[w6];exact List.mem_append_left _ (List.mem_append_left _ hw)
 ·obtain⟨e,he,h⟩:=zab.1 h;obtain⟨f,hf,h⟩:=zab.1 h;refine zQa _ (zab.2 ⟨f,hf,zab.2 ⟨e,he,?_⟩⟩);have ec:=Ag (mE r m f) (mE q l e);rw[ec,ti,w6];simp only[zva,zUb,or_false] at h ⊢;rcases h with rfl|rfl
  ·exact .inl rfl
  ·exact .inr (w6 _)
def yQ(u x y:V)(q r:Nat->Int)(l m:List V):dM u.neg y x r q m l=dM u x y q r l m:=by
 unfold dM;rw[w6,Rat.add_comm]
def GH(u x y:V)(q r:Nat->Int)(l m:List V):gc u.neg y x r q m l=gc u x y q r l m:=by
 unfold gc;rw[yQ,Aj]
section
variable{x y:V}{q r:Nat->Int}{l m:List V}{F G:FL}{E E':List (Nat×Nat)}
def oF{p:V×Rat}(h:(cX x y q r l m (jJ q r l m F G E E')).2=some p):∃ p',(cX y x r q m l (jJ r q m l G F E' E)).2=some p'/\p.2<=p'.2:=by
 obtain⟨h1,h2,h3,h4⟩:=(rC _).2 p h;obtain⟨m1,m2⟩:=Gg (mg:=λu=>dM u y x r q m l) (vl:=λu=>gc u y x r q m l) (jJ r q m l G F E' E);obtain⟨p',e,hp⟩:=m2 p.1.neg (m1 _ (Ju h1) (λhz=>h2 (tb.1 hz))) (by rw[yQ];exact h3)
 refine⟨p',e,?_⟩;rw[GH] at hp;rw[h4];exact hp
def Gj:(cX x y q r l m (jJ q r l m F G E E')).2.isSome=(cX y x r q m l (jJ r q m l G F E' E)).2.isSome:=by
 rw[z7c,Option.isSome_iff_exists,Option.isSome_iff_exists];constructor
 ·rintro⟨p,h⟩;obtain⟨p',e,_⟩:=oF h;exact⟨p',e⟩
 ·rintro⟨p,h⟩;obtain⟨p',e,_⟩:=oF h;exact⟨p',e⟩
def Gi{p p':V×Rat}(h:(cX x y q r l m (jJ q r l m F G E E')).2=some p)(h':(cX y x r q m l (jJ r q m l G F E' E)).2=some p'):p.2=p'.2:=by
 obtain⟨a,e,ha⟩:=oF h;rw[h'] at e;cases e;obtain⟨b,e,hb⟩:=oF h';rw[h] at e;cases e;exact Rat.le_antisymm ha hb
def PairOk.swap(h:PairOk x y q r l m):PairOk y x r q m l:=⟨h.pb,h.pa,h.lb,h.la,h.nb,h.na,h.kb,h.ka⟩
end
def Ci(x b:V)(q:Nat->Int)(u v:V):V.dot u (qs (V.add x b) q v)=V.dot u (qs x q v)+eC q*V.dot u b:=by
 obtain⟨a1,a2,a3⟩:=u;simp only[V.dot,qs,V.add];grind
def xf{l:List V}(g:V->V){i:Nat}(h:i<l.length):pt (l.map g) i=g (pt l i):=by
 unfold pt;rw[z5a,z5a,z8a,zda h];rfl
theorem B8(x b:V)(q:Nat->Int)(u:V)(l:List V):∀ k,k<l.length->y6 u (l.map (qs (V.add x b) q)) k=y6 u (l.map (qs x q)) k+eC q*V.dot u b
 | 0,h=>by
  simp only[y6];rw[xf _ h,xf _ h,Ci]
 | k+1,h=>by
  simp only[y7];rw[B8 x b q u l k (by omega),xf _ h,xf _ h,Ci]
  split<;>split<;>omega
def so{s:Int}(hs:s≠0)(a d:Int):Rat.divInt (a+s*d) s=Rat.divInt a s+(d:Rat):=by
 rw[<-div_one d,zqd _ _ hs (by decide)]
 congr 1
 ·rw[Int.mul_one,zkc s d]
 ·rw[Int.mul_one]
def pN{x b:V}{q:Nat->Int}(hs:eC q≠0)(u:V){l:List V}(h0:0<l.length):fa u (V.add x b) q l=fa u x q l+(V.dot u b:Rat):=by
 unfold fa;rw[B8 x b q u l _ (by omega),so hs]
def E1(u b:V):V.dot u.neg b=-V.dot u b:=by cases u;simp only[V.dot,V.neg];grind
section
variable{x y b:V}{q r:Nat->Int}{l m:List V}
def wS(hq:eC q≠0)(hr:eC r≠0)(u:V)(hl:0<l.length)(hm:0<m.length):dM u (V.add x b) (V.add y b) q r l m=dM u x y q r l m:=by
 unfold dM;rw[pN hq u hl,pN hr u.neg hm,E1,Rat.intCast_neg];generalize fa u.neg y r m=A;generalize fa u x q l=B;generalize ((V.dot u b:Int):Rat)=C;grind
def IS(hq:eC q≠0)(hr:eC r≠0)(u:V)(hl:0<l.length)(hm:0<m.length):zT u (V.add x b) (V.add y b) q r l m=zT u x y q r l m+(V.dot u b:Rat):=by
 unfold zT;rw[wS hq hr u hl hm,pN hq u hl];generalize dM u x y q r l m*Rat.divInt 1 2=A;generalize fa u x q l=B;generalize ((V.dot u b:Int):Rat)=C;grind
def Gh(hq:eC q≠0)(hr:eC r≠0)(hl:0<l.length)(hm:0<m.length)(R:List V):cX (V.add x b) (V.add y b) q r l m R=cX x y q r l m R:=by
 unfold cX;congr 1
 ·funext u;exact wS hq hr u hl hm
 ·funext u;unfold gc;rw[wS hq hr u hl hm]
end
def Nh(n:Nat){u x y:V}{q r:Nat->Int}{l m:List V}(h:PairOk x y q r l m)(hu:bd NB u)(h0:u≠V.zero):cA (n+9) 428 [ac u,bW (FD u x y q r l m)]=some (gz (gc u x y q r l m)):=by
 rw[Vw];unfold H8;rw[yR h hu];have sm:=ld h hu;have om:OW (some (dM u x y q r l m)):=de (sm.InR (by decide) (by decide))
 obtain⟨v1,v2⟩:=Oi h hu h0;have i1:In (V.dot u u):=(kW hu (nH hu)).2.2.2.2;have k1:=Nd (n+1) om om;rw[v1] at k1;have k2:=TU n (a:=some (dM u x y q r l m*dM u x y q r l m)) (b:=some ((V.dot u u:Int):Rat)) (de ((sm.mul sm).InR (by decide) (by decide))) (de (Bi i1))
 rw[v2] at k2;exact aa k1 (aa (Nb (n+2) hu (nH hu)) (aa (VW (n+2) i1) (aa k2 rfl)))
def LB{call:Nat->List D->Option D}(n:Nat)(x y b:V)(q r:Nat->Int)(l m:List V)
  (hc:∀ f xs,f≠415->call f xs=cA (n+1040) f xs) (h415:call 415 []=some (.bool true)):H3 aO call (eV x q) (cm l) (eV y r) (cm m) (ac b)=some (.bool true):=by
 delta H3 qG qT qN
 obtain⟨v,h1,k1⟩:=TO (n+1029) x y q r l m;refine aa ((hc 414 _ (by decide)).trans h1) (aa aP (aa ab ?_))
 cases v with
 | false=>exact fm (aa h415 rfl)
 | true=>
 obtain⟨hp,hul,hum⟩:=k1 rfl;obtain⟨F,E,hF⟩:=J1 hp.la hul.len hul.srt;obtain⟨G,E',hG⟩:=J1 hp.lb hum.len hum.srt;have s1:=Gj (x:=x) (y:=y) (q:=q) (r:=r) (l:=l) (m:=m) (F:=F) (G:=G) (E:=E) (E':=E');refine t7 (aa ((hc 416 _ (by decide)).trans (KR (n+6) hp hF hG)) (aa (z:=fE (λu=>zT u x y q r l m) (cX x y q r l m (jJ q r l m F G E E')).2) rfl (aa (z:=.bool (cX x y q r l m (jJ q r l m F G E E')).2.isSome) rfl (aa ((hc 416 _ (by decide)).trans (KR (n+6) hp.swap hG hF)) (aa (z:=fE (λu=>zT u y x r q m l) (cX y x r q m l (jJ r q m l G F E' E)).2) rfl (aa (z:=.bool (cX y x r q m l (jJ r q m l G F E' E)).2.isSome) rfl (aa (z:=false) ?_ (t7 (aa ((hc 187 _ (by decide)).trans (M8 (n+1039) b)) (aa aP (aa ab ?_)))))))))))
 ·rw[<-s1];generalize Option.isSome _=a;cases a<;>rfl
 cases hs:jq 2305843009213693952 b with
 | false=>exact fm (aa h415 rfl)
 | true=>
 have hb:=LK hs;have hx:=hp.pa.hx;have hy:=hp.pb.hx;have ax:cA (n+1040) 64 [ac x,ac b]=some (ac (V.add x b)):=by
  simp only[bd,NB] at hx hb;exact VX (n+1039) (by simp only[inR];omega) (by simp only[inR];omega) (by simp only[inR];omega)
 have ay:cA (n+1040) 64 [ac y,ac b]=some (ac (V.add y b)):=by
  simp only[bd,NB] at hy hb;exact VX (n+1039) (by simp only[inR];omega) (by simp only[inR];omega) (by simp only[inR];omega)
 obtain⟨v1,g1,j1⟩:=IC (n+1036) (V.add x b) q;obtain⟨v2,g2,j2⟩:=IC (n+1036) (V.add y b) r;refine t7 (aa (z:=ac x) rfl (aa ((hc 64 _ (by decide)).trans ax) (aa (z:=kF q) rfl (aa (z:=ac y) rfl (aa ((hc 64 _ (by decide)).trans ay) (aa (z:=kF r) rfl (aa ((hc 427 _ (by decide)).trans g1) (aa aP (aa ab (aa (Uc (aa ((hc 427 _ (by decide)).trans g2) (aa aP ab))) (aa ab ?_)))))))))))
 cases ho:(!v1||!v2) with
 | true=>exact fm (aa h415 rfl)
 | false=>
 simp only[Bool.or_eq_false_iff,Bool.not_eq_false'] at ho;have hp2:PairOk (V.add x b) (V.add y b) q r l m:=⟨j1 ho.1,j2 ho.2,hp.la,hp.lb,hp.na,hp.nb,hp.ka,hp.kb⟩;have nq:=(tG hp.pa).2;have nr:=(tG hp.pb).2;have k3:=KR (n+6) hp2 hF hG;rw[Gh nq nr hp.na hp.nb] at k3;obtain⟨S,eS⟩:∃ S,(cX x y q r l m (jJ q r l m F G E E')).2=S:=⟨_,rfl⟩;obtain⟨S',eS'⟩:∃ S',(cX y x r q m l (jJ r q m l G F E' E)).2=S':=⟨_,rfl⟩;rw[eS] at k3 s1 ⊢;rw[eS'] at s1 ⊢;refine t7 (aa ((hc 416 _ (by decide)).trans k3) (aa (z:=fE (λu=>zT u (V.add x b) (V.add y b) q r l m) S) rfl (aa (z:=.bool S.isSome) rfl (aa (z:=false) ?_ (t7 (aa aP (aa ab ?_)))))))
 ·generalize Option.isSome S=a;cases a<;>rfl
 cases S with
 | none=>exact fm (aa h415 rfl)
 | some p=>
 cases S' with
 | none=>cases s1
 | some p'=>
 obtain⟨p1,p2,_,p4⟩:=(rC _).2 p eS;obtain⟨p1',p2',_,p4'⟩:=(rC _).2 p' eS';have hu:=xi hp hF hG _ p1;have hu':=xi hp.swap hG hF _ p1';have e2:=Gi eS eS';have i3:=(kW hu (nH hb)).2.2.2.2;have mv:addW (some (zT p.1 x y q r l m)) (some ((V.dot p.1 b:Int):Rat))=some (zT p.1 (V.add x b) (V.add y b) q r l m):=by
  rw[IS nq nr p.1 hp.na hp.nb];exact(E3 hp hu).addW (S4 (nT hu (nH hb))) (by decide) (by decide) (by decide)
 have k40:=TN (n+1033) (a:=some (zT p.1 x y q r l m)) (b:=some ((V.dot p.1 b:Int):Rat)) (de ((E3 hp hu).InR (by decide) (by decide))) (de (Bi i3))
 rw[mv] at k40;refine t7 (aa (z:=ac p.1) rfl (aa (z:=ac p.1) rfl (aa ((hc 419 _ (by decide)).trans (Ng (n+6) hp hu)) (aa ((hc 428 _ (by decide)).trans (Nh (n+1031) hp hu p2)) ?_))))
 refine aa (z:=ac p'.1) rfl (aa (z:=ac p'.1) rfl (aa ((hc 419 _ (by decide)).trans (Ng (n+6) hp.swap hu')) (aa ((hc 428 _ (by decide)).trans (Nh (n+1031) hp.swap hu' p2')) ?_)))
 refine aa (z:=bW (some (zT p.1 x y q r l m))) rfl (aa (z:=ac p.1) rfl (aa ((hc 33 _ (by decide)).trans (Nb (n+1034) hu (nH hb))) (aa ((hc 63 _ (by decide)).trans (VW (n+1034) i3)) (aa ((hc 40 _ (by decide)).trans k40) (aa h415 (aa ab ?_))))))
 rw[<-show p.2=gc p.1 x y q r l m from p4,<-show p'.2=gc p'.1 y x r q m l from p4',<-e2];refine aa (z:=true) (fm (by rw[JZ];rfl)) (aa ab (aa (z:=true) (fm (aa (z:=ac p.1) rfl (aa (z:=ac p.1) rfl (by rw[iQ,decide_eq_true rfl];rfl)))) (aa ab (aa (z:=true) (fm (aa (z:=bW (some (zT p.1 (V.add x b) (V.add y b) q r l m))) rfl (by rw[MP];rfl))) rfl))))
end Sy
end
noncomputable section
namespace Sy
open Go Go.Proofs Geo
def ctr412{d0 d1 d2 d3 d4:D}(h0:wt cG d0)(h1:wt K3 d1)(h2:wt cG d2)(h3:wt K3 d3)(h4:wt K1 d4):Kx Tryz.prog [cG,K3,cG,K3,K1] .bool 7 [d0,d1,d2,d3,d4] (.bool true):=by
 have hw:er [cG,K3,cG,K3,K1] [d0,d1,d2,d3,d4]:=⟨_,_,rfl,h0,_,_,rfl,h1,_,_,rfl,h2,_,_,rfl,h3,_,_,rfl,h4,rfl⟩;obtain⟨x,q,rfl⟩:=GP h0;obtain⟨l,rfl⟩:=Kt h1;obtain⟨y,r,rfl⟩:=GP h2;obtain⟨m,rfl⟩:=Kt h3;obtain⟨b,rfl⟩:=GO h4;have key:=MM sZ (xY (0+1040)) (EP _) [cG,K3,cG,K3,K1] .bool [eV x q,cm l,eV y r,cm m,ac b] (.bool true) (by kernel_rfl) (LB 0 x y b q r l m (λf xs hf=>by unfold xY;rw[if_neg hf]) (by unfold xY;rw[if_pos rfl];exact AY)) hw
 rw[show iX (bV 412)=0 by kernel_rfl] at key
 exact key.1
end Sy
end
noncomputable section
set_option maxHeartbeats 1000000
open Go Go.ChangeShapes Go.WideShapes Go.ChangeAt Go.RowKit
def Ud:ownKnob Tryz.prog.godebug=none:=by kernel_rfl
def Fw:laidOutB Tryz.prog=true:=by kernel_rfl
def LW:Tryz.prog.underlying 4=some .bool:=by kernel_rfl
def Cf:Tryz.f7.params=#[27,30,27,30,23]:=by kernel_rfl
def NJ:Sy.yK Tryz.prog [Sy.cG,Sy.K3,Sy.cG,Sy.K3,Sy.K1] [27,30,27,30,23]=true:=by kernel_rfl
def NU:List.all [27,30,27,30,23] (λt=>Tryz.prog.readableRec t&&decide (t<Tryz.prog.types.size))=true:=by kernel_rfl
def DW{l:Array TypeId}(h:l.toList.all (λt=>!(Tryz.prog.wantsStandIn t))=true){j:Nat}{t:TypeId}(ht:l[j]?=some t):Tryz.prog.wantsStandIn t=false:=by
 have:=zka.1 h t (by have:=z0a (l:=l.toList) (i:=j) (a:=t) (by simpa using ht);exact this)
 simpa using this
def shape{α:Type}{l:List α}(h:l.length=5):∃ d0 d1 d2 d3 d4,l=[d0,d1,d2,d3,d4]:=by
 match l,h with
 | [d0,d1,d2,d3,d4],_=>exact⟨d0,d1,d2,d3,d4,rfl⟩
def u4(os:Os):World:=
 let w0:=World.holding Tryz.prog os ⟨#[],#[],[]⟩
 { w0 with heap:=w0.heap.modify 0 λ
   | .cells _ t frozen=>.cells #[.int .u8 0,.int .u8 1,.int .u8 28,.int .u8 2,.int .u8 29,.int .u8 14,.int .u8 24,.int .u8 3,.int .u8 30,.int .u8 22,.int .u8 20,.int .u8 15,.int .u8 25,.int .u8 17,.int .u8 4,.int .u8 8,.int .u8 31,.int .u8 27,.int .u8 13,.int .u8 23,.int .u8 21,.int .u8 19,.int .u8 16,.int .u8 7,.int .u8 26,.int .u8 12,.int .u8 18,.int .u8 6,.int .u8 11,.int .u8 5,.int .u8 10,.int .u8 9] t frozen
   | o=>o }
def ul(os:Os)(args:Array Value):laidMet Tryz.prog Rows.planeIsSymmetricRow.laid ((u4 os).forCall (λ_ _=>0) ⟨#[],args,[]⟩).memory:=
 laidMet_of_run' 8 (by kernel_rfl) (by kernel_rfl)
set_option maxRecDepth 100000 in
theorem planeIsSymmetric_lifted(os:Os)(started:os.Started)(H:Type)(enc:TypeId×Value->H) :
  ReturnsInHanded {} Tryz.checked os 7 .any (λw args=>(Rows.planeIsSymmetricSpec.pre enc Tryz.prog Tryz.f7 Rows.planeIsSymmetricRow.domain false w args/\laidMet Tryz.prog Rows.planeIsSymmetricRow.laid w)/\sizedMet enc Tryz.prog Tryz.f7 (OpenSpec.ofChange Rows.planeIsSymmetricSpec) false w args) (Rows.planeIsSymmetricSpec.post enc Tryz.prog Tryz.f7 false true false false):=by
 refine returnsInHanded_of_change_and (C:=Tryz.checked) (X:=λw _=>laidMet Tryz.prog Rows.planeIsSymmetricRow.laid w) (λ_ _ _ hh h=>h.of_heap hh) Ud started (by kernel_rfl) (show Tryz.prog.funcs[7]?=some Tryz.f7 by kernel_rfl)
  (ChangeSpec.witness_at (enc:=enc) (C:=Tryz.checked) (os:=os) (X:=λw _=>laidMet Tryz.prog Rows.planeIsSymmetricRow.laid w) false (u4 os) #[.agg #[.int .i64 0,.int .i64 0,.int .i64 0,.int .i64 0,.int .i64 0,.int .i64 0,.int .i64 0],.agg #[.slice none 0 0],.agg #[.int .i64 0,.int .i64 0,.int .i64 0,.int .i64 0,.int .i64 0,.int .i64 0,.int .i64 0],.agg #[.slice none 0 0],.agg #[.int .i64 0,.int .i64 0,.int .i64 0]] 8 rfl (by kernel_rfl) (by kernel_rfl) (by kernel_rfl) (by kernel_rfl) (by kernel_rfl) (ul os _)) ?_
 intro W base args ds gs before hval0 hW hcnd _ _ _;have hval:∀ (j:Nat) t v,Tryz.f7.params[j]?=some t->args[j]?=some v->Value.okWide Tryz.prog W .any base t v:=hval0;have hW':=hW;obtain⟨p,q,hA0,hV,rfl,hfz,hnd⟩:=hW;have hA:DataW.TrodAll enc Tryz.prog W 0 (λ_=>true) true Tryz.f7.params.toList args.toList ds p:=hA0;rw[Cf] at hA hval;obtain⟨rfl,rfl⟩:=trodVars_none hV;clear hA0 hval0;obtain⟨xs,hx,ho,hlen,hd⟩:=Sy.Ip NJ hA (λj t v h1 h2=>hval j t v (by simpa using h1) (by simpa using h2))
 have hx':=hx;obtain⟨x0,r0,rfl,w0,x1,r1,rfl,w1,x2,r2,rfl,w2,x3,r3,rfl,w3,x4,r4,rfl,w4,hn⟩:=hx';have hn':_=[]:=hn;subst hn';have hctr:=Sy.ctr412 w0 w1 w2 w3 w4  W (Sy.oO W) args.toList (λ_ _ h=>Sy.valid_lt h) hx hlen hd;rw[z8b] at hctr;obtain⟨d0,d1,d2,d3,d4,rfl⟩:=shape (Sy.La hA);refine Go.Calls.mono hctr λe W' he=>?_;obtain⟨v,rfl,⟨os',dr,hdr,rfl⟩,_,hv⟩:=he;have hv':v=.bool true:=Sy.bool_of hv;subst hv';have hb:Below W.heap.size W (grown W os' dr):=⟨rfl,rfl,rfl,by simp[grown],λk hk=>cB W os' dr hk⟩
 have hlt:∀ x∈p,x.block<W.heap.size:=λx hx=>by simpa using hW'.lt x (by simpa using hx)
 exact⟨_,rfl,_,_,_,[],p,[],hW',trodAll_mk1 ((Go.RowKit.shut_bool (P:=Tryz.prog) LW true)),Sy.CI Fw NU hA hb hlt,rfl,hb.frame _,λh=>by cases h⟩
theorem planeIsSymmetric_row:Rows.PlaneIsSymmetricSaid:=
 OpenClaim.holds_of_wide 7 Tryz.f7 rfl rfl rfl rfl rfl rfl rfl ⟨rfl,rfl,rfl,rfl,rfl⟩ rfl rfl rfl rfl rfl (by kernel_rfl) (show Tryz.prog.funcs[7]?=some Tryz.f7 by kernel_rfl) (by kernel_rfl)
  (of_decide_eq_true (by kernel_rfl)) (by unfold Func.isWrapper;first|(rw[if_pos (by decide +kernel)];kernel_rfl)|(rw[if_neg (by decide +kernel)];exact⟨rfl,rfl⟩))
  (λos started H enc _=>planeIsSymmetric_lifted os started H enc)
theorem planeIsSymmetric_holds:Rows.PlaneIsSymmetricCardSaid:=
 Claim7.holds_tied_plain_at .later [] [.data] true (true, "af7a03bd2c7ac196ce4e3bd4e884afe91d5d9462e962db29bbf1e0f2b31f9681") false
  planeIsSymmetric_row (λ_ h=>by cases h) (by kernel_rfl) (λ_ h=>by cases h) planeIsSymmetric_row_tie rfl ⟨rfl,rfl⟩ (by kernel_rfl) rfl
  (λf fn hf hfn=>by
   obtain rfl:f=7:=zrd ((show Tryz.prog.funcNamed Rows.planeIsSymmetricRow.func=some 7 by kernel_rfl).symm.trans hf) |>.symm
   obtain rfl:fn=Tryz.f7:=(zrd ((show Tryz.prog.funcs[7]?=some Tryz.f7 by kernel_rfl).symm.trans hfn)).symm
   exact⟨by kernel_rfl,λj t ht=>DW (by rw[Cf];kernel_rfl) ht⟩)
  (by kernel_rfl)
end
end Go.Proofs.YtphlmegkommlnaaGreatDoor
