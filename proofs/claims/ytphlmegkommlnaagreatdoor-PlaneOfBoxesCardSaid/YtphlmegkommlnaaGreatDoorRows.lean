/-
  NARROWER THAN 'FOR EVERY INPUT', by the rows' own cells (each row's printed sentence says how): PlaneSeparatesAsSpecified: laid · PlaneChecksMatchSpec: laid · PlaneOrPoint: laid · PlaneNoPointOnBothSides: laid · PlaneIsSymmetric: laid · PlaneOfBoxes: laid.
  DERIVED. THE GIVEN ROWS OF THIS SEAT. 6 by the template 'for every input the law returns true; each argument reads behind the call as it read before'; 0 by the template 'total and deterministic' (their statements: YtphlmegkommlnaaGreatDoorTotals.lean).
  GIVEN WITH THE SEED: the statements are not yours to turn. If you find one false, say at which input.
  Laid BY PROGRAM, IN A SANDBOX (cutbox-rows.mjs): the forced cells as the released guide's own fill.sh prints them over the translation 9be7a6aad7cae363… (all of the seat's roots in one cut). By AI agents, Wed Nov 11 2026. No macro, syntax, notation, axiom, sorry.
-/
import Derived.Test.YtphlmegkommlnaaGreatDoorChecked
import GoSem.Claim
import GoSem.ClaimJoined
import GoSem.ClaimMapViews
import Derived.JoinedTies
import Derived.KernelRfl
namespace Go.Proofs.YtphlmegkommlnaaGreatDoor
/- THE CELL 'sum', in the pinned program and in every row, IS THE sha256 OF THE DUMP (.gsa) THAT YtphlmegkommlnaaGreatDoorProg.lean LOADS. Nothing in Lean hashes anything: it is a label: what it is worth is what the hold of that sum in a sandbox is worth. -/
noncomputable def Tryz.pinned : Pinned := { name := "ytphlmegkommlnaagreatdoor", sum := "9be7a6aad7cae3637ca41a7da262a4e0275be15f6e6d5f5faea8ade9aea1e627", checked := Tryz.checked }
namespace Rows
def none {H : Type} : Left H := { results := [], args := [] }

/- WHAT THE LISTED PACKAGE-LEVEL VARIABLES READ AS WHEN THE CALL BEGINS. Each datum BY PROGRAM (the guide's laid-datum.mjs) off the statement by which the dump's own 'gosem.cut.vars' lays the variable. In a bare row this is a premise. The card (YtphlmegkommlnaaGreatDoorCards.lean) ties it to the program's text. -/
def laid_math_bits_deBruijn32tab {H : Type} : DataW H := .agg [.lit (.int .u8 0), .lit (.int .u8 1), .lit (.int .u8 28), .lit (.int .u8 2), .lit (.int .u8 29), .lit (.int .u8 14), .lit (.int .u8 24), .lit (.int .u8 3), .lit (.int .u8 30), .lit (.int .u8 22), .lit (.int .u8 20), .lit (.int .u8 15), .lit (.int .u8 25), .lit (.int .u8 17), .lit (.int .u8 4), .lit (.int .u8 8), .lit (.int .u8 31), .lit (.int .u8 27), .lit (.int .u8 13), .lit (.int .u8 23), .lit (.int .u8 21), .lit (.int .u8 19), .lit (.int .u8 16), .lit (.int .u8 7), .lit (.int .u8 26), .lit (.int .u8 12), .lit (.int .u8 18), .lit (.int .u8 6), .lit (.int .u8 11), .lit (.int .u8 5), .lit (.int .u8 10), .lit (.int .u8 9)]

/-- 'skewbacklaw15.PlaneSeparatesAsSpecified': WHATEVER THE INPUT: true; the input reads as it did. -/
def planeSeparatesAsSpecifiedSpec : ChangeSpec := { name := "planeSeparatesAsSpecified", fn := fun _ => fun
  | [d1, d2, d3, d4] => { results := [.lit (.bool true)], args := [d1, d2, d3, d4] }
  | _ => none }
def planeSeparatesAsSpecifiedRow : OpenClaim := { program := "ytphlmegkommlnaagreatdoor", sum := "9be7a6aad7cae3637ca41a7da262a4e0275be15f6e6d5f5faea8ade9aea1e627", func := "skewback/skewbacklaw15.PlaneSeparatesAsSpecified", spec := "planeSeparatesAsSpecified", unfollowed := true, recurses := true, named := ["math/bits.deBruijn32tab"], plainKeys := false, apart := false, laid := [("math/bits.deBruijn32tab", laid_math_bits_deBruijn32tab)] }
def PlaneSeparatesAsSpecifiedSaid : Prop := planeSeparatesAsSpecifiedRow.holds Tryz.pinned (OpenSpec.ofChange planeSeparatesAsSpecifiedSpec)

/-- ITS FALSE NEIGHBOUR: 'it returns false'. Refute it at one input. -/
def planeSeparatesAsSpecifiedWrong : ChangeSpec := { name := "planeSeparatesAsSpecified", fn := fun _ => fun
  | [d1, d2, d3, d4] => { results := [.lit (.bool false)], args := [d1, d2, d3, d4] }
  | _ => none }
def PlaneSeparatesAsSpecifiedWrongFalsely : Prop := planeSeparatesAsSpecifiedRow.holds Tryz.pinned (OpenSpec.ofChange planeSeparatesAsSpecifiedWrong)

/-- 'skewbacklaw15.PlaneChecksMatchSpec': WHATEVER THE INPUT: true; the input reads as it did. -/
def planeChecksMatchSpecSpec : ChangeSpec := { name := "planeChecksMatchSpec", fn := fun _ => fun
  | [d1, d2, d3, d4, d5, d6] => { results := [.lit (.bool true)], args := [d1, d2, d3, d4, d5, d6] }
  | _ => none }
def planeChecksMatchSpecRow : OpenClaim := { program := "ytphlmegkommlnaagreatdoor", sum := "9be7a6aad7cae3637ca41a7da262a4e0275be15f6e6d5f5faea8ade9aea1e627", func := "skewback/skewbacklaw15.PlaneChecksMatchSpec", spec := "planeChecksMatchSpec", unfollowed := true, recurses := true, named := ["math/bits.deBruijn32tab"], plainKeys := false, apart := false, laid := [("math/bits.deBruijn32tab", laid_math_bits_deBruijn32tab)] }
def PlaneChecksMatchSpecSaid : Prop := planeChecksMatchSpecRow.holds Tryz.pinned (OpenSpec.ofChange planeChecksMatchSpecSpec)

/-- ITS FALSE NEIGHBOUR: 'it returns false'. Refute it at one input. -/
def planeChecksMatchSpecWrong : ChangeSpec := { name := "planeChecksMatchSpec", fn := fun _ => fun
  | [d1, d2, d3, d4, d5, d6] => { results := [.lit (.bool false)], args := [d1, d2, d3, d4, d5, d6] }
  | _ => none }
def PlaneChecksMatchSpecWrongFalsely : Prop := planeChecksMatchSpecRow.holds Tryz.pinned (OpenSpec.ofChange planeChecksMatchSpecWrong)

/-- 'skewbacklaw15.PlaneOrPoint': WHATEVER THE INPUT: true; the input reads as it did. -/
def planeOrPointSpec : ChangeSpec := { name := "planeOrPoint", fn := fun _ => fun
  | [d1, d2, d3, d4] => { results := [.lit (.bool true)], args := [d1, d2, d3, d4] }
  | _ => none }
def planeOrPointRow : OpenClaim := { program := "ytphlmegkommlnaagreatdoor", sum := "9be7a6aad7cae3637ca41a7da262a4e0275be15f6e6d5f5faea8ade9aea1e627", func := "skewback/skewbacklaw15.PlaneOrPoint", spec := "planeOrPoint", unfollowed := true, recurses := true, named := ["math/bits.deBruijn32tab"], plainKeys := false, apart := false, laid := [("math/bits.deBruijn32tab", laid_math_bits_deBruijn32tab)] }
def PlaneOrPointSaid : Prop := planeOrPointRow.holds Tryz.pinned (OpenSpec.ofChange planeOrPointSpec)

/-- ITS FALSE NEIGHBOUR: 'it returns false'. Refute it at one input. -/
def planeOrPointWrong : ChangeSpec := { name := "planeOrPoint", fn := fun _ => fun
  | [d1, d2, d3, d4] => { results := [.lit (.bool false)], args := [d1, d2, d3, d4] }
  | _ => none }
def PlaneOrPointWrongFalsely : Prop := planeOrPointRow.holds Tryz.pinned (OpenSpec.ofChange planeOrPointWrong)

/-- 'skewbacklaw15.PlaneNoPointOnBothSides': WHATEVER THE INPUT: true; the input reads as it did. -/
def planeNoPointOnBothSidesSpec : ChangeSpec := { name := "planeNoPointOnBothSides", fn := fun _ => fun
  | [d1, d2, d3, d4, d5, d6] => { results := [.lit (.bool true)], args := [d1, d2, d3, d4, d5, d6] }
  | _ => none }
def planeNoPointOnBothSidesRow : OpenClaim := { program := "ytphlmegkommlnaagreatdoor", sum := "9be7a6aad7cae3637ca41a7da262a4e0275be15f6e6d5f5faea8ade9aea1e627", func := "skewback/skewbacklaw15.PlaneNoPointOnBothSides", spec := "planeNoPointOnBothSides", unfollowed := true, recurses := true, named := ["math/bits.deBruijn32tab"], plainKeys := false, apart := false, laid := [("math/bits.deBruijn32tab", laid_math_bits_deBruijn32tab)] }
def PlaneNoPointOnBothSidesSaid : Prop := planeNoPointOnBothSidesRow.holds Tryz.pinned (OpenSpec.ofChange planeNoPointOnBothSidesSpec)

/-- ITS FALSE NEIGHBOUR: 'it returns false'. Refute it at one input. -/
def planeNoPointOnBothSidesWrong : ChangeSpec := { name := "planeNoPointOnBothSides", fn := fun _ => fun
  | [d1, d2, d3, d4, d5, d6] => { results := [.lit (.bool false)], args := [d1, d2, d3, d4, d5, d6] }
  | _ => none }
def PlaneNoPointOnBothSidesWrongFalsely : Prop := planeNoPointOnBothSidesRow.holds Tryz.pinned (OpenSpec.ofChange planeNoPointOnBothSidesWrong)

/-- 'skewbacklaw15.PlaneIsSymmetric': WHATEVER THE INPUT: true; the input reads as it did. -/
def planeIsSymmetricSpec : ChangeSpec := { name := "planeIsSymmetric", fn := fun _ => fun
  | [d1, d2, d3, d4, d5] => { results := [.lit (.bool true)], args := [d1, d2, d3, d4, d5] }
  | _ => none }
def planeIsSymmetricRow : OpenClaim := { program := "ytphlmegkommlnaagreatdoor", sum := "9be7a6aad7cae3637ca41a7da262a4e0275be15f6e6d5f5faea8ade9aea1e627", func := "skewback/skewbacklaw15.PlaneIsSymmetric", spec := "planeIsSymmetric", unfollowed := true, recurses := true, named := ["math/bits.deBruijn32tab"], plainKeys := false, apart := false, laid := [("math/bits.deBruijn32tab", laid_math_bits_deBruijn32tab)] }
def PlaneIsSymmetricSaid : Prop := planeIsSymmetricRow.holds Tryz.pinned (OpenSpec.ofChange planeIsSymmetricSpec)

/-- ITS FALSE NEIGHBOUR: 'it returns false'. Refute it at one input. -/
def planeIsSymmetricWrong : ChangeSpec := { name := "planeIsSymmetric", fn := fun _ => fun
  | [d1, d2, d3, d4, d5] => { results := [.lit (.bool false)], args := [d1, d2, d3, d4, d5] }
  | _ => none }
def PlaneIsSymmetricWrongFalsely : Prop := planeIsSymmetricRow.holds Tryz.pinned (OpenSpec.ofChange planeIsSymmetricWrong)

/-- 'skewbacklaw15.PlaneOfBoxes': WHATEVER THE INPUT: true; the input reads as it did. -/
def planeOfBoxesSpec : ChangeSpec := { name := "planeOfBoxes", fn := fun _ => fun
  | [d1, d2, d3, d4] => { results := [.lit (.bool true)], args := [d1, d2, d3, d4] }
  | _ => none }
def planeOfBoxesRow : OpenClaim := { program := "ytphlmegkommlnaagreatdoor", sum := "9be7a6aad7cae3637ca41a7da262a4e0275be15f6e6d5f5faea8ade9aea1e627", func := "skewback/skewbacklaw15.PlaneOfBoxes", spec := "planeOfBoxes", unfollowed := true, recurses := true, named := ["math/bits.deBruijn32tab"], plainKeys := false, apart := false, laid := [("math/bits.deBruijn32tab", laid_math_bits_deBruijn32tab)] }
def PlaneOfBoxesSaid : Prop := planeOfBoxesRow.holds Tryz.pinned (OpenSpec.ofChange planeOfBoxesSpec)

/-- ITS FALSE NEIGHBOUR: 'it returns false'. Refute it at one input. -/
def planeOfBoxesWrong : ChangeSpec := { name := "planeOfBoxes", fn := fun _ => fun
  | [d1, d2, d3, d4] => { results := [.lit (.bool false)], args := [d1, d2, d3, d4] }
  | _ => none }
def PlaneOfBoxesWrongFalsely : Prop := planeOfBoxesRow.holds Tryz.pinned (OpenSpec.ofChange planeOfBoxesWrong)

/- THE SECOND FORM. 'bulk': how many values and letters a reading holds, each counted each time it is reached (what is shared counts as often as it is met; a slice's spare places count too). A statement '..UptoSaid' is the law's where the arguments, and the package variables that the reading takes, are together of bulk at most 1048576: NARROWER than '..Said'. Prove '..Said' where nothing that the law and all that it calls make is longer than what came in: it says more and counts as full. Else prove '..UptoSaid'. A law counts once. -/
mutual
def uptoBulk {H : Type} : DataW H → Nat
  | .lit (.string bytes) => bytes.length + 1
  | .lit _ => 1
  | .nil => 1
  | .ptr d => uptoBulk d + 1
  | .slice elems spare => uptoBulkAll elems + uptoBulkAll spare + 1
  | .agg parts => uptoBulkAll parts + 1
  | .iface _ d => uptoBulk d + 1
  | .map entries => uptoBulkEntries entries + 1
  | .held _ => 1
def uptoBulkAll {H : Type} : List (DataW H) → Nat
  | [] => 0
  | d :: r => uptoBulk d + uptoBulkAll r
def uptoBulkEntries {H : Type} : List (Lit × DataW H) → Nat
  | [] => 0
  | x :: r => uptoBulkEntry x + uptoBulkEntries r
def uptoBulkEntry {H : Type} : Lit × DataW H → Nat
  | (.string bytes, d) => bytes.length + uptoBulk d + 1
  | (_, d) => uptoBulk d + 1
 end
def uptoSmall : (H : Type) → List (DataW H) → Bool := fun _ ds => decide (uptoBulkAll ds ≤ 1048576)
def OpenSpec.upto (s : _root_.Go.ChangeSpec) : _root_.Go.OpenSpec := { _root_.Go.OpenSpec.ofChange s with cond := some uptoSmall }

/-- 'skewbacklaw15.PlaneSeparatesAsSpecified', WHERE WHAT IT READS IS OF BULK AT MOST 1048576: true; the input reads as it did. -/
def planeSeparatesAsSpecifiedUptoRow : OpenClaim := { program := "ytphlmegkommlnaagreatdoor", sum := "9be7a6aad7cae3637ca41a7da262a4e0275be15f6e6d5f5faea8ade9aea1e627", func := "skewback/skewbacklaw15.PlaneSeparatesAsSpecified", spec := "planeSeparatesAsSpecified", unfollowed := true, recurses := true, named := ["math/bits.deBruijn32tab"], plainKeys := false, apart := false, laid := [("math/bits.deBruijn32tab", laid_math_bits_deBruijn32tab)], narrowed := true }
def PlaneSeparatesAsSpecifiedUptoSaid : Prop := planeSeparatesAsSpecifiedUptoRow.holds Tryz.pinned (OpenSpec.upto planeSeparatesAsSpecifiedSpec)

/-- 'skewbacklaw15.PlaneChecksMatchSpec', WHERE WHAT IT READS IS OF BULK AT MOST 1048576: true; the input reads as it did. -/
def planeChecksMatchSpecUptoRow : OpenClaim := { program := "ytphlmegkommlnaagreatdoor", sum := "9be7a6aad7cae3637ca41a7da262a4e0275be15f6e6d5f5faea8ade9aea1e627", func := "skewback/skewbacklaw15.PlaneChecksMatchSpec", spec := "planeChecksMatchSpec", unfollowed := true, recurses := true, named := ["math/bits.deBruijn32tab"], plainKeys := false, apart := false, laid := [("math/bits.deBruijn32tab", laid_math_bits_deBruijn32tab)], narrowed := true }
def PlaneChecksMatchSpecUptoSaid : Prop := planeChecksMatchSpecUptoRow.holds Tryz.pinned (OpenSpec.upto planeChecksMatchSpecSpec)

/-- 'skewbacklaw15.PlaneOrPoint', WHERE WHAT IT READS IS OF BULK AT MOST 1048576: true; the input reads as it did. -/
def planeOrPointUptoRow : OpenClaim := { program := "ytphlmegkommlnaagreatdoor", sum := "9be7a6aad7cae3637ca41a7da262a4e0275be15f6e6d5f5faea8ade9aea1e627", func := "skewback/skewbacklaw15.PlaneOrPoint", spec := "planeOrPoint", unfollowed := true, recurses := true, named := ["math/bits.deBruijn32tab"], plainKeys := false, apart := false, laid := [("math/bits.deBruijn32tab", laid_math_bits_deBruijn32tab)], narrowed := true }
def PlaneOrPointUptoSaid : Prop := planeOrPointUptoRow.holds Tryz.pinned (OpenSpec.upto planeOrPointSpec)

/-- 'skewbacklaw15.PlaneNoPointOnBothSides', WHERE WHAT IT READS IS OF BULK AT MOST 1048576: true; the input reads as it did. -/
def planeNoPointOnBothSidesUptoRow : OpenClaim := { program := "ytphlmegkommlnaagreatdoor", sum := "9be7a6aad7cae3637ca41a7da262a4e0275be15f6e6d5f5faea8ade9aea1e627", func := "skewback/skewbacklaw15.PlaneNoPointOnBothSides", spec := "planeNoPointOnBothSides", unfollowed := true, recurses := true, named := ["math/bits.deBruijn32tab"], plainKeys := false, apart := false, laid := [("math/bits.deBruijn32tab", laid_math_bits_deBruijn32tab)], narrowed := true }
def PlaneNoPointOnBothSidesUptoSaid : Prop := planeNoPointOnBothSidesUptoRow.holds Tryz.pinned (OpenSpec.upto planeNoPointOnBothSidesSpec)

/-- 'skewbacklaw15.PlaneIsSymmetric', WHERE WHAT IT READS IS OF BULK AT MOST 1048576: true; the input reads as it did. -/
def planeIsSymmetricUptoRow : OpenClaim := { program := "ytphlmegkommlnaagreatdoor", sum := "9be7a6aad7cae3637ca41a7da262a4e0275be15f6e6d5f5faea8ade9aea1e627", func := "skewback/skewbacklaw15.PlaneIsSymmetric", spec := "planeIsSymmetric", unfollowed := true, recurses := true, named := ["math/bits.deBruijn32tab"], plainKeys := false, apart := false, laid := [("math/bits.deBruijn32tab", laid_math_bits_deBruijn32tab)], narrowed := true }
def PlaneIsSymmetricUptoSaid : Prop := planeIsSymmetricUptoRow.holds Tryz.pinned (OpenSpec.upto planeIsSymmetricSpec)

/-- 'skewbacklaw15.PlaneOfBoxes', WHERE WHAT IT READS IS OF BULK AT MOST 1048576: true; the input reads as it did. -/
def planeOfBoxesUptoRow : OpenClaim := { program := "ytphlmegkommlnaagreatdoor", sum := "9be7a6aad7cae3637ca41a7da262a4e0275be15f6e6d5f5faea8ade9aea1e627", func := "skewback/skewbacklaw15.PlaneOfBoxes", spec := "planeOfBoxes", unfollowed := true, recurses := true, named := ["math/bits.deBruijn32tab"], plainKeys := false, apart := false, laid := [("math/bits.deBruijn32tab", laid_math_bits_deBruijn32tab)], narrowed := true }
def PlaneOfBoxesUptoSaid : Prop := planeOfBoxesUptoRow.holds Tryz.pinned (OpenSpec.upto planeOfBoxesSpec)

end Rows
end Go.Proofs.YtphlmegkommlnaaGreatDoor
