/-
  No cell of these rows narrows 'for every input' (looked for: loops, veiled, ifaces, maps, wideKeys, modest, calm, conditions, laid).
  DERIVED. THE GIVEN ROWS OF THIS SEAT. 6 by the template 'for every input the law returns true; each argument reads behind the call as it read before'; 0 by the template 'total and deterministic' (their statements: YtpahompifldeeaaGreatTotals.lean).
  GIVEN WITH THE SEED: the statements are not yours to turn. If you find one false, say at which input.
  Laid BY PROGRAM, IN A SANDBOX (cutbox-rows.mjs): the forced cells as the released guide's own fill.sh prints them over the translation e2427b4d00c8d174… (all of the seat's roots in one cut). By AI agents, Wed Nov 11 2026. No macro, syntax, notation, axiom, sorry.
-/
import Derived.Test.YtpahompifldeeaaGreatChecked
import GoSem.Claim
import GoSem.ClaimJoined
import GoSem.ClaimMapViews
import Derived.JoinedTies
import Derived.KernelRfl
namespace Go.Proofs.YtpahompifldeeaaGreat
/- THE CELL 'sum', in the pinned program and in every row, IS THE sha256 OF THE DUMP (.gsa) THAT YtpahompifldeeaaGreatProg.lean LOADS. Nothing in Lean hashes anything: it is a label: what it is worth is what the hold of that sum in a sandbox is worth. -/
noncomputable def Tryz.pinned : Pinned := { name := "ytpahompifldeeaagreat", sum := "e2427b4d00c8d174ae7fec3fcb2694749ea9c3ad5a13e437042c44a89c3d75ba", checked := Tryz.checked }
namespace Rows
def none {H : Type} : Left H := { results := [], args := [] }

/-- 'skewbacklaw27.EnergyPartsMatchSpec': WHATEVER THE INPUT: true; the input reads as it did. -/
def energyPartsMatchSpecSpec : ChangeSpec := { name := "energyPartsMatchSpec", fn := fun _ => fun
  | [d1, d2, d3, d4, d5] => { results := [.lit (.bool true)], args := [d1, d2, d3, d4, d5] }
  | _ => none }
def energyPartsMatchSpecRow : OpenClaim := { program := "ytpahompifldeeaagreat", sum := "e2427b4d00c8d174ae7fec3fcb2694749ea9c3ad5a13e437042c44a89c3d75ba", func := "skewback/skewbacklaw27.EnergyPartsMatchSpec", spec := "energyPartsMatchSpec", unfollowed := true, recurses := true, plainKeys := false, apart := false }
def EnergyPartsMatchSpecSaid : Prop := energyPartsMatchSpecRow.holds Tryz.pinned (OpenSpec.ofChange energyPartsMatchSpecSpec)

/-- ITS FALSE NEIGHBOUR: 'it returns false'. Refute it at one input. -/
def energyPartsMatchSpecWrong : ChangeSpec := { name := "energyPartsMatchSpec", fn := fun _ => fun
  | [d1, d2, d3, d4, d5] => { results := [.lit (.bool false)], args := [d1, d2, d3, d4, d5] }
  | _ => none }
def EnergyPartsMatchSpecWrongFalsely : Prop := energyPartsMatchSpecRow.holds Tryz.pinned (OpenSpec.ofChange energyPartsMatchSpecWrong)

/-- 'skewbacklaw27.EnergyTotalsMatchSpec': WHATEVER THE INPUT: true; the input reads as it did. -/
def energyTotalsMatchSpecSpec : ChangeSpec := { name := "energyTotalsMatchSpec", fn := fun _ => fun
  | [d1, d2, d3] => { results := [.lit (.bool true)], args := [d1, d2, d3] }
  | _ => none }
def energyTotalsMatchSpecRow : OpenClaim := { program := "ytpahompifldeeaagreat", sum := "e2427b4d00c8d174ae7fec3fcb2694749ea9c3ad5a13e437042c44a89c3d75ba", func := "skewback/skewbacklaw27.EnergyTotalsMatchSpec", spec := "energyTotalsMatchSpec", unfollowed := true, recurses := true, plainKeys := false, apart := false }
def EnergyTotalsMatchSpecSaid : Prop := energyTotalsMatchSpecRow.holds Tryz.pinned (OpenSpec.ofChange energyTotalsMatchSpecSpec)

/-- ITS FALSE NEIGHBOUR: 'it returns false'. Refute it at one input. -/
def energyTotalsMatchSpecWrong : ChangeSpec := { name := "energyTotalsMatchSpec", fn := fun _ => fun
  | [d1, d2, d3] => { results := [.lit (.bool false)], args := [d1, d2, d3] }
  | _ => none }
def EnergyTotalsMatchSpecWrongFalsely : Prop := energyTotalsMatchSpecRow.holds Tryz.pinned (OpenSpec.ofChange energyTotalsMatchSpecWrong)

/-- 'skewbacklaw27.EnergyIsQuadratic': WHATEVER THE INPUT: true; the input reads as it did. -/
def energyIsQuadraticSpec : ChangeSpec := { name := "energyIsQuadratic", fn := fun _ => fun
  | [d1, d2, d3] => { results := [.lit (.bool true)], args := [d1, d2, d3] }
  | _ => none }
def energyIsQuadraticRow : OpenClaim := { program := "ytpahompifldeeaagreat", sum := "e2427b4d00c8d174ae7fec3fcb2694749ea9c3ad5a13e437042c44a89c3d75ba", func := "skewback/skewbacklaw27.EnergyIsQuadratic", spec := "energyIsQuadratic", unfollowed := true, recurses := true, plainKeys := false, apart := false }
def EnergyIsQuadraticSaid : Prop := energyIsQuadraticRow.holds Tryz.pinned (OpenSpec.ofChange energyIsQuadraticSpec)

/-- ITS FALSE NEIGHBOUR: 'it returns false'. Refute it at one input. -/
def energyIsQuadraticWrong : ChangeSpec := { name := "energyIsQuadratic", fn := fun _ => fun
  | [d1, d2, d3] => { results := [.lit (.bool false)], args := [d1, d2, d3] }
  | _ => none }
def EnergyIsQuadraticWrongFalsely : Prop := energyIsQuadraticRow.holds Tryz.pinned (OpenSpec.ofChange energyIsQuadraticWrong)

/-- 'skewbacklaw27.EnergyOfPaths': WHATEVER THE INPUT: true; the input reads as it did. -/
def energyOfPathsSpec : ChangeSpec := { name := "energyOfPaths", fn := fun _ => fun
  | [d1, d2, d3] => { results := [.lit (.bool true)], args := [d1, d2, d3] }
  | _ => none }
def energyOfPathsRow : OpenClaim := { program := "ytpahompifldeeaagreat", sum := "e2427b4d00c8d174ae7fec3fcb2694749ea9c3ad5a13e437042c44a89c3d75ba", func := "skewback/skewbacklaw27.EnergyOfPaths", spec := "energyOfPaths", unfollowed := true, recurses := true, plainKeys := false, apart := false }
def EnergyOfPathsSaid : Prop := energyOfPathsRow.holds Tryz.pinned (OpenSpec.ofChange energyOfPathsSpec)

/-- ITS FALSE NEIGHBOUR: 'it returns false'. Refute it at one input. -/
def energyOfPathsWrong : ChangeSpec := { name := "energyOfPaths", fn := fun _ => fun
  | [d1, d2, d3] => { results := [.lit (.bool false)], args := [d1, d2, d3] }
  | _ => none }
def EnergyOfPathsWrongFalsely : Prop := energyOfPathsRow.holds Tryz.pinned (OpenSpec.ofChange energyOfPathsWrong)

/-- 'skewbacklaw27.EnergyStepsFollow': WHATEVER THE INPUT: true; the input reads as it did. -/
def energyStepsFollowSpec : ChangeSpec := { name := "energyStepsFollow", fn := fun _ => fun
  | [d1, d2, d3, d4] => { results := [.lit (.bool true)], args := [d1, d2, d3, d4] }
  | _ => none }
def energyStepsFollowRow : OpenClaim := { program := "ytpahompifldeeaagreat", sum := "e2427b4d00c8d174ae7fec3fcb2694749ea9c3ad5a13e437042c44a89c3d75ba", func := "skewback/skewbacklaw27.EnergyStepsFollow", spec := "energyStepsFollow", unfollowed := true, recurses := true, plainKeys := false, apart := false }
def EnergyStepsFollowSaid : Prop := energyStepsFollowRow.holds Tryz.pinned (OpenSpec.ofChange energyStepsFollowSpec)

/-- ITS FALSE NEIGHBOUR: 'it returns false'. Refute it at one input. -/
def energyStepsFollowWrong : ChangeSpec := { name := "energyStepsFollow", fn := fun _ => fun
  | [d1, d2, d3, d4] => { results := [.lit (.bool false)], args := [d1, d2, d3, d4] }
  | _ => none }
def EnergyStepsFollowWrongFalsely : Prop := energyStepsFollowRow.holds Tryz.pinned (OpenSpec.ofChange energyStepsFollowWrong)

/-- 'skewbacklaw27.EnergyAddsUp': WHATEVER THE INPUT: true; the input reads as it did. -/
def energyAddsUpSpec : ChangeSpec := { name := "energyAddsUp", fn := fun _ => fun
  | [d1, d2] => { results := [.lit (.bool true)], args := [d1, d2] }
  | _ => none }
def energyAddsUpRow : OpenClaim := { program := "ytpahompifldeeaagreat", sum := "e2427b4d00c8d174ae7fec3fcb2694749ea9c3ad5a13e437042c44a89c3d75ba", func := "skewback/skewbacklaw27.EnergyAddsUp", spec := "energyAddsUp", unfollowed := true, recurses := true, plainKeys := false, apart := false }
def EnergyAddsUpSaid : Prop := energyAddsUpRow.holds Tryz.pinned (OpenSpec.ofChange energyAddsUpSpec)

/-- ITS FALSE NEIGHBOUR: 'it returns false'. Refute it at one input. -/
def energyAddsUpWrong : ChangeSpec := { name := "energyAddsUp", fn := fun _ => fun
  | [d1, d2] => { results := [.lit (.bool false)], args := [d1, d2] }
  | _ => none }
def EnergyAddsUpWrongFalsely : Prop := energyAddsUpRow.holds Tryz.pinned (OpenSpec.ofChange energyAddsUpWrong)

/- THE SECOND FORM. 'bulk': how many values and letters a reading holds, each counted each time it is reached (what is shared counts as often as it is met; a slice's spare places count too). A statement '..UptoSaid' is the law's where the arguments, and the package variables that the reading takes, are together of bulk at most 1048576: NARROWER than '..Said'. Prove '..Said' where nothing that the law and all that it calls make is longer than what came in: it says more and counts as full. Else prove '..UptoSaid'. A law counts once. -/
mutual
def uptoBulk {H : Type} : DataW H → Nat
  | .lit (.string bytes) => bytes.length + 1
  | .lit _ => 1
  | .nil => 1
  | .ptr d => uptoBulk d + 1
  | .slice elems spare => uptoBulkAll elems + uptoBulkAll spare + 1
  | .agg parts => uptoBulkAll parts + 1
  | .iface _ d => uptoBulk d + 1
  | .map entries => uptoBulkEntries entries + 1
  | .held _ => 1
def uptoBulkAll {H : Type} : List (DataW H) → Nat
  | [] => 0
  | d :: r => uptoBulk d + uptoBulkAll r
def uptoBulkEntries {H : Type} : List (Lit × DataW H) → Nat
  | [] => 0
  | x :: r => uptoBulkEntry x + uptoBulkEntries r
def uptoBulkEntry {H : Type} : Lit × DataW H → Nat
  | (.string bytes, d) => bytes.length + uptoBulk d + 1
  | (_, d) => uptoBulk d + 1
 end
def uptoSmall : (H : Type) → List (DataW H) → Bool := fun _ ds => decide (uptoBulkAll ds ≤ 1048576)
def OpenSpec.upto (s : _root_.Go.ChangeSpec) : _root_.Go.OpenSpec := { _root_.Go.OpenSpec.ofChange s with cond := some uptoSmall }

/-- 'skewbacklaw27.EnergyPartsMatchSpec', WHERE WHAT IT READS IS OF BULK AT MOST 1048576: true; the input reads as it did. -/
def energyPartsMatchSpecUptoRow : OpenClaim := { program := "ytpahompifldeeaagreat", sum := "e2427b4d00c8d174ae7fec3fcb2694749ea9c3ad5a13e437042c44a89c3d75ba", func := "skewback/skewbacklaw27.EnergyPartsMatchSpec", spec := "energyPartsMatchSpec", unfollowed := true, recurses := true, plainKeys := false, apart := false, narrowed := true }
def EnergyPartsMatchSpecUptoSaid : Prop := energyPartsMatchSpecUptoRow.holds Tryz.pinned (OpenSpec.upto energyPartsMatchSpecSpec)

/-- 'skewbacklaw27.EnergyTotalsMatchSpec', WHERE WHAT IT READS IS OF BULK AT MOST 1048576: true; the input reads as it did. -/
def energyTotalsMatchSpecUptoRow : OpenClaim := { program := "ytpahompifldeeaagreat", sum := "e2427b4d00c8d174ae7fec3fcb2694749ea9c3ad5a13e437042c44a89c3d75ba", func := "skewback/skewbacklaw27.EnergyTotalsMatchSpec", spec := "energyTotalsMatchSpec", unfollowed := true, recurses := true, plainKeys := false, apart := false, narrowed := true }
def EnergyTotalsMatchSpecUptoSaid : Prop := energyTotalsMatchSpecUptoRow.holds Tryz.pinned (OpenSpec.upto energyTotalsMatchSpecSpec)

/-- 'skewbacklaw27.EnergyIsQuadratic', WHERE WHAT IT READS IS OF BULK AT MOST 1048576: true; the input reads as it did. -/
def energyIsQuadraticUptoRow : OpenClaim := { program := "ytpahompifldeeaagreat", sum := "e2427b4d00c8d174ae7fec3fcb2694749ea9c3ad5a13e437042c44a89c3d75ba", func := "skewback/skewbacklaw27.EnergyIsQuadratic", spec := "energyIsQuadratic", unfollowed := true, recurses := true, plainKeys := false, apart := false, narrowed := true }
def EnergyIsQuadraticUptoSaid : Prop := energyIsQuadraticUptoRow.holds Tryz.pinned (OpenSpec.upto energyIsQuadraticSpec)

/-- 'skewbacklaw27.EnergyOfPaths', WHERE WHAT IT READS IS OF BULK AT MOST 1048576: true; the input reads as it did. -/
def energyOfPathsUptoRow : OpenClaim := { program := "ytpahompifldeeaagreat", sum := "e2427b4d00c8d174ae7fec3fcb2694749ea9c3ad5a13e437042c44a89c3d75ba", func := "skewback/skewbacklaw27.EnergyOfPaths", spec := "energyOfPaths", unfollowed := true, recurses := true, plainKeys := false, apart := false, narrowed := true }
def EnergyOfPathsUptoSaid : Prop := energyOfPathsUptoRow.holds Tryz.pinned (OpenSpec.upto energyOfPathsSpec)

/-- 'skewbacklaw27.EnergyStepsFollow', WHERE WHAT IT READS IS OF BULK AT MOST 1048576: true; the input reads as it did. -/
def energyStepsFollowUptoRow : OpenClaim := { program := "ytpahompifldeeaagreat", sum := "e2427b4d00c8d174ae7fec3fcb2694749ea9c3ad5a13e437042c44a89c3d75ba", func := "skewback/skewbacklaw27.EnergyStepsFollow", spec := "energyStepsFollow", unfollowed := true, recurses := true, plainKeys := false, apart := false, narrowed := true }
def EnergyStepsFollowUptoSaid : Prop := energyStepsFollowUptoRow.holds Tryz.pinned (OpenSpec.upto energyStepsFollowSpec)

/-- 'skewbacklaw27.EnergyAddsUp', WHERE WHAT IT READS IS OF BULK AT MOST 1048576: true; the input reads as it did. -/
def energyAddsUpUptoRow : OpenClaim := { program := "ytpahompifldeeaagreat", sum := "e2427b4d00c8d174ae7fec3fcb2694749ea9c3ad5a13e437042c44a89c3d75ba", func := "skewback/skewbacklaw27.EnergyAddsUp", spec := "energyAddsUp", unfollowed := true, recurses := true, plainKeys := false, apart := false, narrowed := true }
def EnergyAddsUpUptoSaid : Prop := energyAddsUpUptoRow.holds Tryz.pinned (OpenSpec.upto energyAddsUpSpec)

end Rows
end Go.Proofs.YtpahompifldeeaaGreat
