/- HullMoves answers true at every input, and the input reads afterwards as it read before (HullMovesSaid). No condition. -/
import Derived.Test.YtjjjkojfijpeeaaGreatMoves01
import Derived.Test.YtjjjkojfijpeeaaGreatMoves14
import Derived.Test.YtjjjkojfijpeeaaGreatRows
import Derived.ProofKit
set_option linter.unusedVariables false
set_option linter.unusedSimpArgs false
set_option linter.unnecessarySimpa false
section
namespace Go.Proofs.YtjjjkojfijpeeaaGreat
open Go Go.ChangeShapes Go.WideShapes Go.ChangeAt Go.RowKit
namespace Sy
theorem lay25:bx Tryz.prog K3 25=true:=by kernel_rfl
theorem under4:Tryz.prog.underlying 4=some .bool:=by kernel_rfl
theorem DR0_of{W:World}{S:Nat->Nat->Prop}{d:D}{cs:Array Value}(h:wt K3 d)(k:cR W S d.flat (Value.agg cs).cells.toList):eZ W S d (.agg cs):=by
 obtain⟨l,rfl,_⟩:=h
 exact⟨⟨_,rfl⟩,k⟩
theorem bool_of{W:World}{S:Nat->Nat->Prop}{b:Bool}{v:Value}(h:DR W S (.bool b) v):v=.bool b:=by
 obtain⟨h1,h2⟩:=(h:eZ W S (.bool b) v)
 have h3:=(bJ (by intro d hd;simp only[D.flat,List.mem_singleton] at hd;subst hd;rfl)).1 h2
 exact aq h1 (by simpa [D.flat,bn] using h3)
theorem agg_of{P:Program}{ts:List Ty}{t:TypeId}(hl:bx P (.st ts) t=true){W:World}{base:Nat}{v:Value}(h:Value.okWide P W .any base t v):∃ cs,v=.agg cs:=by
 obtain⟨fs,hu,_⟩:=ia hl
 obtain⟨cs,h1,_⟩:=okWide_struct hu h
 exact⟨cs,h1⟩
theorem lay60:bx Tryz.prog K1 60=true:=by kernel_rfl
theorem DR0_of1{W:World}{S:Nat->Nat->Prop}{d:D}{cs:Array Value}(h:wt K1 d)(k:cR W S d.flat (Value.agg cs).cells.toList):eZ W S d (.agg cs):=by
 obtain⟨l,rfl,_⟩:=h
 exact⟨⟨_,rfl⟩,k⟩
theorem agg_ofA{P:Program}{n:Nat}{e:Ty}{t:TypeId}(hl:bx P (.arr n e) t=true){W:World}{base:Nat}{v:Value}(h:Value.okWide P W .any base t v):∃ cs,v=.agg cs:=by
 obtain⟨u,hu,_⟩:=eD hl
 simp only[Value.okWide,hu] at h
 obtain⟨cs,h1,_⟩:=h
 exact⟨cs,h1⟩
end Sy
theorem M1:ownKnob Tryz.prog.godebug=none:=by kernel_rfl
theorem ww:laidOutB Tryz.prog=true:=by kernel_rfl
theorem CA:Tryz.f8.params=#[25,60]:=by kernel_rfl
set_option maxRecDepth 100000 in
theorem ua(os:Os)(started:os.Started)(H:Type)(enc:TypeId×Value->H) :
  ReturnsInHanded {} Tryz.checked os 8 .any (Rows.hullMovesSpec.pre6 enc Tryz.prog Tryz.f8 Rows.hullMovesRow.domain false) (Rows.hullMovesSpec.post enc Tryz.prog Tryz.f8 false true false false):=by
 refine returnsInHanded_of_change (C:=Tryz.checked) M1 started (by kernel_rfl) (show Tryz.prog.funcs[8]?=some Tryz.f8 by kernel_rfl)
  (ChangeSpec.witness6 (enc:=enc) (C:=Tryz.checked) false ⟨#[],#[.agg #[.slice none 0 0],.agg #[.int .i64 0,.int .i64 0,.int .i64 0]],[]⟩ 8 (by kernel_rfl) (by kernel_rfl) (by kernel_rfl) (by kernel_rfl)) ?_
 intro W base args ds gs before hval0 hW hcnd _
 have hval:∀ (j:Nat) t v,Tryz.f8.params[j]?=some t->args[j]?=some v->Value.okWide Tryz.prog W .any base t v:=hval0
 have hW':=hW
 obtain⟨p,q,hA0,hV,rfl,hfz,hnd⟩:=hW
 have hA:DataW.TrodAll enc Tryz.prog W 0 (fun _=>true) true Tryz.f8.params.toList args.toList ds p:=hA0
 rw[CA] at hA hval
 obtain⟨v0,v1,d0,d1,p0,p1,rfl,rfl,rfl,h0,h1⟩:=trodAll_two hA
 obtain⟨rfl,rfl⟩:=trodVars_none hV
 clear hA0 hval0
 obtain⟨cs,rfl⟩:∃ cs,v0=.agg cs:=Sy.agg_of (P:=Tryz.prog) (t:=25) Sy.lay25 (hval 0 25 v0 rfl rfl)
 obtain⟨cs1,rfl⟩:∃ cs,v1=.agg cs:=Sy.agg_ofA (P:=Tryz.prog) (t:=60) Sy.lay60 (hval 1 60 v1 rfl rfl)
 have h0':=h0
 have h1':=h1
 obtain⟨fuel,hf⟩:=h0
 obtain⟨fuel1,hf1⟩:=h1
 obtain⟨d,hd1,hd2⟩:=Sy.uF (W:=W) Sy.K3 25 fuel _ _ Sy.lay25 (by rfl) hf
 obtain⟨e,he1,he2⟩:=Sy.uF (W:=W) Sy.K1 60 fuel1 _ _ Sy.lay60 (by rfl) hf1
 have hctr:=Sy.ctr8 hd1 he1 W (Sy.qU W) [.agg cs,.agg cs1] (fun _ _ h=>Sy.valid_lt h) ⟨_,_,rfl,hd1,_,[],rfl,he1,rfl⟩ rfl (fun i x v hx hv=>by
  cases i with
  | zero=>simp at hx hv;subst hx;subst hv;exact Sy.DR0_of hd1 hd2
  | succ i=>
   cases i with
   | zero=>simp at hx hv;subst hx;subst hv;exact Sy.DR0_of1 he1 he2
   | succ i=>simp at hx)
 refine Go.Calls.mono hctr fun e W' he=>?_
 obtain⟨v,rfl,⟨os',dr,hdr,rfl⟩,_,hv⟩:=he
 have hv':v=.bool true:=Sy.bool_of hv
 subst hv'
 have hb:Below W.heap.size W (aA W os' dr):=⟨rfl,rfl,rfl,by simp[aA],fun k hk=>cP W os' dr hk⟩
 have hlt0:∀ x∈p0,x.block<W.heap.size:=fun x hx=>by simpa using hW'.lt x (by simp[hx])
 have hlt1:∀ x∈p1,x.block<W.heap.size:=fun x hx=>by simpa using hW'.lt x (by simp[hx])
 exact⟨_,rfl,_,_,_,[],p0++p1,[],hW',trodAll_mk1 ((Go.RowKit.shut_bool (P:=Tryz.prog) Sy.under4 true)),trodAll_mk2 (Below.trod ww (by kernel_rfl) (of_decide_eq_true (by kernel_rfl)) h0' hb hlt0) (Below.trod ww (by kernel_rfl) (of_decide_eq_true (by kernel_rfl)) h1' hb hlt1),rfl,hb.frame _,fun h=>by cases h⟩
theorem hullMoves_holds:Rows.HullMovesSaid:=
 OpenClaim.holds_of_wide 8 Tryz.f8 rfl rfl rfl rfl rfl rfl rfl ⟨rfl,rfl,rfl,rfl,rfl⟩ rfl rfl rfl rfl rfl (by kernel_rfl) (show Tryz.prog.funcs[8]?=some Tryz.f8 by kernel_rfl) (by kernel_rfl)
  (of_decide_eq_true (by kernel_rfl)) (by unfold Func.isWrapper;first|(rw[if_pos (by decide +kernel)];kernel_rfl)|(rw[if_neg (by decide +kernel)];exact⟨rfl,rfl⟩))
  (fun os started H enc _=>ua os started H enc)
end Go.Proofs.YtjjjkojfijpeeaaGreat
end
