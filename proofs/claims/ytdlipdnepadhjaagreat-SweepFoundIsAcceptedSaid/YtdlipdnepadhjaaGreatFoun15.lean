/- SweepFoundIsAccepted answers true at every input, and the input reads afterwards as it read before. -/
import Derived.Test.YtdlipdnepadhjaaGreatFoun03
import Derived.Test.YtdlipdnepadhjaaGreatFoun14
import Derived.Test.YtdlipdnepadhjaaGreatRows
set_option linter.all false
set_option maxRecDepth 20000
namespace Go.Proofs.YtdlipdnepadhjaaGreat
noncomputable section
open Go Go.ChangeShapes Go.WideShapes Go.ChangeAt Go.RowKit
def afh:ownKnob Tryz.prog.godebug=none:=B
def Mb:laidOutB Tryz.prog=true:=B
def We:Tryz.prog.underlying 4=some .bool:=B
def RB:Tryz.f5.params=#[29,32,29,32,5,5]:=B
def XU:Sy.C9 Tryz.prog [Sy.dG,Sy.K3,Sy.dG,Sy.K3,.int .u8,.int .u8] [29,32,29,32,5,5]=true:=B
def Ye:List.all [29,32,29,32,5,5] (λt=>Tryz.prog.readableRec t&&decide (t<Tryz.prog.types.size))=true:=B
def shape{α:Type}{l:List α}(h:l.length=6):∃ d0 d1 d2 d3 d4 d5,l=[d0,d1,d2,d3,d4,d5]:=by
 match l,h with
 | [d0,d1,d2,d3,d4,d5],_=>exact⟨d0,d1,d2,d3,d4,d5,rfl⟩
set_option maxRecDepth 100000 in
theorem sweepFoundIsAccepted_lifted(os:Os)(started:os.Started)(H:Type)(enc:TypeId×Value->H) :
  ReturnsInHanded {} Tryz.checked os 5 .any (Rows.sweepFoundIsAcceptedSpec.pre6 enc Tryz.prog Tryz.f5 Rows.sweepFoundIsAcceptedRow.domain false) (Rows.sweepFoundIsAcceptedSpec.post enc Tryz.prog Tryz.f5 false true false false):=by
 refine returnsInHanded_of_change (C:=Tryz.checked) afh started B (show Tryz.prog.funcs[5]?=some Tryz.f5 by kernel_rfl)
  (ChangeSpec.witness6 (enc:=enc) (C:=Tryz.checked) false ⟨#[],#[.agg #[.int .i64 0,.int .i64 0,.int .i64 0,.int .i64 0,.int .i64 0,.int .i64 0,.int .i64 0,.int .i64 0,.int .i64 0,.int .i64 0,.int .i64 0,.int .i64 0,.int .i64 0,.int .i64 0],.agg #[.slice none 0 0],.agg #[.int .i64 0,.int .i64 0,.int .i64 0,.int .i64 0,.int .i64 0,.int .i64 0,.int .i64 0,.int .i64 0,.int .i64 0,.int .i64 0,.int .i64 0,.int .i64 0,.int .i64 0,.int .i64 0],.agg #[.slice none 0 0],.int .u8 0,.int .u8 0],[]⟩ 8 B B B B) ?_
 intro W base args w gs before a o s _;have c:∀ (j:Nat) t v,Tryz.f5.params[j]?=some t->args[j]?=some v->Value.okWide Tryz.prog W .any base t v:=a;have f:=o;obtain⟨p,q,d,z,rfl,D,E⟩:=o;have g:DataW.TrodAll enc Tryz.prog W 0 (λ_=>true) true Tryz.f5.params.toList args.toList w p:=d;rw[RB] at g c;obtain⟨rfl,rfl⟩:=trodVars_none z;clear d a;obtain⟨xs,hx,u,hlen,A⟩:=Sy.Qq XU g (λj t v h1 y=>c j t v (by simpa using h1) (by simpa using y))
 have n:=hx;obtain⟨x0,r0,rfl,w0,x1,r1,rfl,w1,Q,L,rfl,G,R,M,rfl,I,S,N,rfl,J,T,O,rfl,K,hn⟩:=n;have l:_=[]:=hn;subst l;have b:=Sy.ctr469 w0 w1 G I J K u.2.2.2.2.1 u.2.2.2.2.2.1 W (Sy.s9 W) args.toList (λ_ _ h=>Sy.valid_lt h) hx hlen A;rw[z8b] at b;obtain⟨d0,d1,d2,d3,d4,d5,rfl⟩:=shape (Sy.UM g);refine Go.Calls.mono b λe W' he=>?_;obtain⟨v,rfl,⟨os',dr,a0,rfl⟩,_,F⟩:=he;have m:v=.bool true:=Sy.bool_of F;subst m;have r:Below W.heap.size W (grown W os' dr):=⟨rfl,rfl,rfl,by simp[grown],λk hk=>dn W os' dr hk⟩
 have i:∀ x∈p,x.block<W.heap.size:=λx hx=>by simpa using f.lt x (by simpa using hx)
 exact⟨_,rfl,_,_,_,[],p,[],f,trodAll_mk1 ((Go.RowKit.shut_bool (P:=Tryz.prog) We true)),Sy.H8 Mb Ye g r i,rfl,r.frame _,λh=>by cases h⟩
def Uz:Tryz.prog.closure 5=[5,7,32,88,167,168,254,255,33,89,169,256,285,257,286,51,311,191,60,135,176,174,136,177,264,92,172,90,171,173,94,175,258,207,134,179,91,97,178,204,59,304,287,288,289,291,312,320,338,290,170,9,39,40,41,10,43,86,165,246,253,166,252,101,180,181,182,58,133,77,55,131,153,54,155,132,216,272,239,240,56,241,242,243,244,245,156,76,79,157,201,17,226,72,154,237,238,23,183,259,292,262,303,313,314,298,293,294,316,329,315,321,322,339,323,340,341,324,342,343,347,325,326,327,328,295,297,317,296,260,299,300,184,185,261,301,318,330,331,344,332,333,345,346,348,334,335,336,337,302,186,188,263,142,102,87,103,187,57,100,75,71,78,74,26,24,27,73,84,28,80,20,61,15,12,45,25,42,112,30,83,158,163,249,248,138,139,159,161,162,217,273,307,274,247,223,225,143,140,224,221,65,141,160,144,85,164,218,275,308,276,250,251,284,29,82,81,113,114,115,202,117,203,268,269,306,46,116,118,21,62,63,66,64,137,219,278,310,319,277,222,309,220,14,18]:=B
def afd:Tryz.prog.inPlace 5=Rows.sweepFoundIsAcceptedRow.inPlace:=by unfold Program.inPlace;rw[Uz];kernel_rfl
def YF:Tryz.prog.unfollowed 5=true:=by unfold Program.unfollowed;rw[Uz];kernel_rfl
def afk:Tryz.prog.recurses 5=true:=by unfold Program.recurses;rw[YF];rfl
def ahy:Tryz.prog.varsNamed 5=Rows.sweepFoundIsAcceptedRow.named:=by unfold Program.varsNamed;rw[Uz];kernel_rfl
def afe:joinedFacts Tryz.prog 5 Tryz.f5 Rows.sweepFoundIsAcceptedSpec Rows.sweepFoundIsAcceptedRow=true:=by
 unfold joinedFacts;rw[afd,YF,afk,ahy]
 kernel_rfl
theorem sweepFoundIsAccepted_holds:Rows.SweepFoundIsAcceptedSaid:=
 OpenClaim.holds_of_wide 5 Tryz.f5 rfl rfl rfl rfl rfl rfl rfl ⟨rfl,rfl,rfl,rfl,rfl⟩ rfl rfl rfl rfl rfl B (show Tryz.prog.funcs[5]?=some Tryz.f5 by kernel_rfl) afe
  (of_decide_eq_true B) (by unfold Func.isWrapper;first|(rw[zla (by decide +kernel)];kernel_rfl)|(rw[zia (by decide +kernel)];exact⟨rfl,rfl⟩))
  (λos started H enc _=>sweepFoundIsAccepted_lifted os started H enc)
end
end Go.Proofs.YtdlipdnepadhjaaGreat
