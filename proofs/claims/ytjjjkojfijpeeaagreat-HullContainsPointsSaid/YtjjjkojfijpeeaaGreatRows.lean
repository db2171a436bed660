/-
  No cell of these rows narrows 'for every input' (looked for: loops, veiled, ifaces, maps, wideKeys, modest, calm, conditions, laid).
  DERIVED. THE GIVEN ROWS OF THIS SEAT. 7 by the template 'for every input the law returns true; each argument reads behind the call as it read before'; 0 by the template 'total and deterministic' (their statements: YtjjjkojfijpeeaaGreatTotals.lean).
  GIVEN WITH THE SEED: the statements are not yours to turn. If you find one false, say at which input.
  Laid BY PROGRAM, IN A SANDBOX (cutbox-rows.mjs): the forced cells as the released guide's own fill.sh prints them over the translation 03954b47e21a9bbe… (all of the seat's roots in one cut). By AI agents, Wed Nov 11 2026. No macro, syntax, notation, axiom, sorry.
-/
import Derived.Test.YtjjjkojfijpeeaaGreatChecked
import GoSem.Claim
import GoSem.ClaimJoined
import GoSem.ClaimMapViews
import Derived.JoinedTies
import Derived.KernelRfl
namespace Go.Proofs.YtjjjkojfijpeeaaGreat
/- THE CELL 'sum', in the pinned program and in every row, IS THE sha256 OF THE DUMP (.gsa) THAT YtjjjkojfijpeeaaGreatProg.lean LOADS. Nothing in Lean hashes anything: it is a label: what it is worth is what the hold of that sum in a sandbox is worth. -/
noncomputable def Tryz.pinned : Pinned := { name := "ytjjjkojfijpeeaagreat", sum := "03954b47e21a9bbeccf5387ece670bf47ff32fb1820bbd2cad14683f8c2c48b3", checked := Tryz.checked }
namespace Rows
def none {H : Type} : Left H := { results := [], args := [] }

/-- 'skewbacklaw12.HullMatchesSpec': WHATEVER THE INPUT: true; the input reads as it did. -/
def hullMatchesSpecSpec : ChangeSpec := { name := "hullMatchesSpec", fn := fun _ => fun
  | [d] => { results := [.lit (.bool true)], args := [d] }
  | _ => none }
def hullMatchesSpecRow : OpenClaim := { program := "ytjjjkojfijpeeaagreat", sum := "03954b47e21a9bbeccf5387ece670bf47ff32fb1820bbd2cad14683f8c2c48b3", func := "skewback/skewbacklaw12.HullMatchesSpec", spec := "hullMatchesSpec", unfollowed := true, recurses := true, plainKeys := false, apart := false }
def HullMatchesSpecSaid : Prop := hullMatchesSpecRow.holds Tryz.pinned (OpenSpec.ofChange hullMatchesSpecSpec)

/-- ITS FALSE NEIGHBOUR: 'it returns false'. Refute it at one input. -/
def hullMatchesSpecWrong : ChangeSpec := { name := "hullMatchesSpec", fn := fun _ => fun
  | [d] => { results := [.lit (.bool false)], args := [d] }
  | _ => none }
def HullMatchesSpecWrongFalsely : Prop := hullMatchesSpecRow.holds Tryz.pinned (OpenSpec.ofChange hullMatchesSpecWrong)

/-- 'skewbacklaw12.HullFacetsMatchSpec': WHATEVER THE INPUT: true; the input reads as it did. -/
def hullFacetsMatchSpecSpec : ChangeSpec := { name := "hullFacetsMatchSpec", fn := fun _ => fun
  | [d] => { results := [.lit (.bool true)], args := [d] }
  | _ => none }
def hullFacetsMatchSpecRow : OpenClaim := { program := "ytjjjkojfijpeeaagreat", sum := "03954b47e21a9bbeccf5387ece670bf47ff32fb1820bbd2cad14683f8c2c48b3", func := "skewback/skewbacklaw12.HullFacetsMatchSpec", spec := "hullFacetsMatchSpec", unfollowed := true, recurses := true, plainKeys := false, apart := false }
def HullFacetsMatchSpecSaid : Prop := hullFacetsMatchSpecRow.holds Tryz.pinned (OpenSpec.ofChange hullFacetsMatchSpecSpec)

/-- ITS FALSE NEIGHBOUR: 'it returns false'. Refute it at one input. -/
def hullFacetsMatchSpecWrong : ChangeSpec := { name := "hullFacetsMatchSpec", fn := fun _ => fun
  | [d] => { results := [.lit (.bool false)], args := [d] }
  | _ => none }
def HullFacetsMatchSpecWrongFalsely : Prop := hullFacetsMatchSpecRow.holds Tryz.pinned (OpenSpec.ofChange hullFacetsMatchSpecWrong)

/-- 'skewbacklaw12.HullMassesMatchSpec': WHATEVER THE INPUT: true; the input reads as it did. -/
def hullMassesMatchSpecSpec : ChangeSpec := { name := "hullMassesMatchSpec", fn := fun _ => fun
  | [d] => { results := [.lit (.bool true)], args := [d] }
  | _ => none }
def hullMassesMatchSpecRow : OpenClaim := { program := "ytjjjkojfijpeeaagreat", sum := "03954b47e21a9bbeccf5387ece670bf47ff32fb1820bbd2cad14683f8c2c48b3", func := "skewback/skewbacklaw12.HullMassesMatchSpec", spec := "hullMassesMatchSpec", unfollowed := true, recurses := true, plainKeys := false, apart := false }
def HullMassesMatchSpecSaid : Prop := hullMassesMatchSpecRow.holds Tryz.pinned (OpenSpec.ofChange hullMassesMatchSpecSpec)

/-- ITS FALSE NEIGHBOUR: 'it returns false'. Refute it at one input. -/
def hullMassesMatchSpecWrong : ChangeSpec := { name := "hullMassesMatchSpec", fn := fun _ => fun
  | [d] => { results := [.lit (.bool false)], args := [d] }
  | _ => none }
def HullMassesMatchSpecWrongFalsely : Prop := hullMassesMatchSpecRow.holds Tryz.pinned (OpenSpec.ofChange hullMassesMatchSpecWrong)

/-- 'skewbacklaw12.HullContainsPoints': WHATEVER THE INPUT: true; the input reads as it did. -/
def hullContainsPointsSpec : ChangeSpec := { name := "hullContainsPoints", fn := fun _ => fun
  | [d1, d2] => { results := [.lit (.bool true)], args := [d1, d2] }
  | _ => none }
def hullContainsPointsRow : OpenClaim := { program := "ytjjjkojfijpeeaagreat", sum := "03954b47e21a9bbeccf5387ece670bf47ff32fb1820bbd2cad14683f8c2c48b3", func := "skewback/skewbacklaw12.HullContainsPoints", spec := "hullContainsPoints", unfollowed := true, recurses := true, plainKeys := false, apart := false }
def HullContainsPointsSaid : Prop := hullContainsPointsRow.holds Tryz.pinned (OpenSpec.ofChange hullContainsPointsSpec)

/-- ITS FALSE NEIGHBOUR: 'it returns false'. Refute it at one input. -/
def hullContainsPointsWrong : ChangeSpec := { name := "hullContainsPoints", fn := fun _ => fun
  | [d1, d2] => { results := [.lit (.bool false)], args := [d1, d2] }
  | _ => none }
def HullContainsPointsWrongFalsely : Prop := hullContainsPointsRow.holds Tryz.pinned (OpenSpec.ofChange hullContainsPointsWrong)

/-- 'skewbacklaw12.HullIsClosed': WHATEVER THE INPUT: true; the input reads as it did. -/
def hullIsClosedSpec : ChangeSpec := { name := "hullIsClosed", fn := fun _ => fun
  | [d] => { results := [.lit (.bool true)], args := [d] }
  | _ => none }
def hullIsClosedRow : OpenClaim := { program := "ytjjjkojfijpeeaagreat", sum := "03954b47e21a9bbeccf5387ece670bf47ff32fb1820bbd2cad14683f8c2c48b3", func := "skewback/skewbacklaw12.HullIsClosed", spec := "hullIsClosed", unfollowed := true, recurses := true, plainKeys := false, apart := false }
def HullIsClosedSaid : Prop := hullIsClosedRow.holds Tryz.pinned (OpenSpec.ofChange hullIsClosedSpec)

/-- ITS FALSE NEIGHBOUR: 'it returns false'. Refute it at one input. -/
def hullIsClosedWrong : ChangeSpec := { name := "hullIsClosed", fn := fun _ => fun
  | [d] => { results := [.lit (.bool false)], args := [d] }
  | _ => none }
def HullIsClosedWrongFalsely : Prop := hullIsClosedRow.holds Tryz.pinned (OpenSpec.ofChange hullIsClosedWrong)

/-- 'skewbacklaw12.HullMoves': WHATEVER THE INPUT: true; the input reads as it did. -/
def hullMovesSpec : ChangeSpec := { name := "hullMoves", fn := fun _ => fun
  | [d1, d2] => { results := [.lit (.bool true)], args := [d1, d2] }
  | _ => none }
def hullMovesRow : OpenClaim := { program := "ytjjjkojfijpeeaagreat", sum := "03954b47e21a9bbeccf5387ece670bf47ff32fb1820bbd2cad14683f8c2c48b3", func := "skewback/skewbacklaw12.HullMoves", spec := "hullMoves", unfollowed := true, recurses := true, plainKeys := false, apart := false }
def HullMovesSaid : Prop := hullMovesRow.holds Tryz.pinned (OpenSpec.ofChange hullMovesSpec)

/-- ITS FALSE NEIGHBOUR: 'it returns false'. Refute it at one input. -/
def hullMovesWrong : ChangeSpec := { name := "hullMoves", fn := fun _ => fun
  | [d1, d2] => { results := [.lit (.bool false)], args := [d1, d2] }
  | _ => none }
def HullMovesWrongFalsely : Prop := hullMovesRow.holds Tryz.pinned (OpenSpec.ofChange hullMovesWrong)

/-- 'skewbacklaw12.HullOfBoxes': WHATEVER THE INPUT: true; the input reads as it did. -/
def hullOfBoxesSpec : ChangeSpec := { name := "hullOfBoxes", fn := fun _ => fun
  | [d1, d2] => { results := [.lit (.bool true)], args := [d1, d2] }
  | _ => none }
def hullOfBoxesRow : OpenClaim := { program := "ytjjjkojfijpeeaagreat", sum := "03954b47e21a9bbeccf5387ece670bf47ff32fb1820bbd2cad14683f8c2c48b3", func := "skewback/skewbacklaw12.HullOfBoxes", spec := "hullOfBoxes", unfollowed := true, recurses := true, plainKeys := false, apart := false }
def HullOfBoxesSaid : Prop := hullOfBoxesRow.holds Tryz.pinned (OpenSpec.ofChange hullOfBoxesSpec)

/-- ITS FALSE NEIGHBOUR: 'it returns false'. Refute it at one input. -/
def hullOfBoxesWrong : ChangeSpec := { name := "hullOfBoxes", fn := fun _ => fun
  | [d1, d2] => { results := [.lit (.bool false)], args := [d1, d2] }
  | _ => none }
def HullOfBoxesWrongFalsely : Prop := hullOfBoxesRow.holds Tryz.pinned (OpenSpec.ofChange hullOfBoxesWrong)

/- THE SECOND FORM. 'bulk': how many values and letters a reading holds, each counted each time it is reached (what is shared counts as often as it is met; a slice's spare places count too). A statement '..UptoSaid' is the law's where the arguments, and the package variables that the reading takes, are together of bulk at most 1048576: NARROWER than '..Said'. Prove '..Said' where nothing that the law and all that it calls make is longer than what came in: it says more and counts as full. Else prove '..UptoSaid'. A law counts once. -/
mutual
def uptoBulk {H : Type} : DataW H → Nat
  | .lit (.string bytes) => bytes.length + 1
  | .lit _ => 1
  | .nil => 1
  | .ptr d => uptoBulk d + 1
  | .slice elems spare => uptoBulkAll elems + uptoBulkAll spare + 1
  | .agg parts => uptoBulkAll parts + 1
  | .iface _ d => uptoBulk d + 1
  | .map entries => uptoBulkEntries entries + 1
  | .held _ => 1
def uptoBulkAll {H : Type} : List (DataW H) → Nat
  | [] => 0
  | d :: r => uptoBulk d + uptoBulkAll r
def uptoBulkEntries {H : Type} : List (Lit × DataW H) → Nat
  | [] => 0
  | x :: r => uptoBulkEntry x + uptoBulkEntries r
def uptoBulkEntry {H : Type} : Lit × DataW H → Nat
  | (.string bytes, d) => bytes.length + uptoBulk d + 1
  | (_, d) => uptoBulk d + 1
 end
def uptoSmall : (H : Type) → List (DataW H) → Bool := fun _ ds => decide (uptoBulkAll ds ≤ 1048576)
def OpenSpec.upto (s : _root_.Go.ChangeSpec) : _root_.Go.OpenSpec := { _root_.Go.OpenSpec.ofChange s with cond := some uptoSmall }

/-- 'skewbacklaw12.HullMatchesSpec', WHERE WHAT IT READS IS OF BULK AT MOST 1048576: true; the input reads as it did. -/
def hullMatchesSpecUptoRow : OpenClaim := { program := "ytjjjkojfijpeeaagreat", sum := "03954b47e21a9bbeccf5387ece670bf47ff32fb1820bbd2cad14683f8c2c48b3", func := "skewback/skewbacklaw12.HullMatchesSpec", spec := "hullMatchesSpec", unfollowed := true, recurses := true, plainKeys := false, apart := false, narrowed := true }
def HullMatchesSpecUptoSaid : Prop := hullMatchesSpecUptoRow.holds Tryz.pinned (OpenSpec.upto hullMatchesSpecSpec)

/-- 'skewbacklaw12.HullFacetsMatchSpec', WHERE WHAT IT READS IS OF BULK AT MOST 1048576: true; the input reads as it did. -/
def hullFacetsMatchSpecUptoRow : OpenClaim := { program := "ytjjjkojfijpeeaagreat", sum := "03954b47e21a9bbeccf5387ece670bf47ff32fb1820bbd2cad14683f8c2c48b3", func := "skewback/skewbacklaw12.HullFacetsMatchSpec", spec := "hullFacetsMatchSpec", unfollowed := true, recurses := true, plainKeys := false, apart := false, narrowed := true }
def HullFacetsMatchSpecUptoSaid : Prop := hullFacetsMatchSpecUptoRow.holds Tryz.pinned (OpenSpec.upto hullFacetsMatchSpecSpec)

/-- 'skewbacklaw12.HullMassesMatchSpec', WHERE WHAT IT READS IS OF BULK AT MOST 1048576: true; the input reads as it did. -/
def hullMassesMatchSpecUptoRow : OpenClaim := { program := "ytjjjkojfijpeeaagreat", sum := "03954b47e21a9bbeccf5387ece670bf47ff32fb1820bbd2cad14683f8c2c48b3", func := "skewback/skewbacklaw12.HullMassesMatchSpec", spec := "hullMassesMatchSpec", unfollowed := true, recurses := true, plainKeys := false, apart := false, narrowed := true }
def HullMassesMatchSpecUptoSaid : Prop := hullMassesMatchSpecUptoRow.holds Tryz.pinned (OpenSpec.upto hullMassesMatchSpecSpec)

/-- 'skewbacklaw12.HullContainsPoints', WHERE WHAT IT READS IS OF BULK AT MOST 1048576: true; the input reads as it did. -/
def hullContainsPointsUptoRow : OpenClaim := { program := "ytjjjkojfijpeeaagreat", sum := "03954b47e21a9bbeccf5387ece670bf47ff32fb1820bbd2cad14683f8c2c48b3", func := "skewback/skewbacklaw12.HullContainsPoints", spec := "hullContainsPoints", unfollowed := true, recurses := true, plainKeys := false, apart := false, narrowed := true }
def HullContainsPointsUptoSaid : Prop := hullContainsPointsUptoRow.holds Tryz.pinned (OpenSpec.upto hullContainsPointsSpec)

/-- 'skewbacklaw12.HullIsClosed', WHERE WHAT IT READS IS OF BULK AT MOST 1048576: true; the input reads as it did. -/
def hullIsClosedUptoRow : OpenClaim := { program := "ytjjjkojfijpeeaagreat", sum := "03954b47e21a9bbeccf5387ece670bf47ff32fb1820bbd2cad14683f8c2c48b3", func := "skewback/skewbacklaw12.HullIsClosed", spec := "hullIsClosed", unfollowed := true, recurses := true, plainKeys := false, apart := false, narrowed := true }
def HullIsClosedUptoSaid : Prop := hullIsClosedUptoRow.holds Tryz.pinned (OpenSpec.upto hullIsClosedSpec)

/-- 'skewbacklaw12.HullMoves', WHERE WHAT IT READS IS OF BULK AT MOST 1048576: true; the input reads as it did. -/
def hullMovesUptoRow : OpenClaim := { program := "ytjjjkojfijpeeaagreat", sum := "03954b47e21a9bbeccf5387ece670bf47ff32fb1820bbd2cad14683f8c2c48b3", func := "skewback/skewbacklaw12.HullMoves", spec := "hullMoves", unfollowed := true, recurses := true, plainKeys := false, apart := false, narrowed := true }
def HullMovesUptoSaid : Prop := hullMovesUptoRow.holds Tryz.pinned (OpenSpec.upto hullMovesSpec)

/-- 'skewbacklaw12.HullOfBoxes', WHERE WHAT IT READS IS OF BULK AT MOST 1048576: true; the input reads as it did. -/
def hullOfBoxesUptoRow : OpenClaim := { program := "ytjjjkojfijpeeaagreat", sum := "03954b47e21a9bbeccf5387ece670bf47ff32fb1820bbd2cad14683f8c2c48b3", func := "skewback/skewbacklaw12.HullOfBoxes", spec := "hullOfBoxes", unfollowed := true, recurses := true, plainKeys := false, apart := false, narrowed := true }
def HullOfBoxesUptoSaid : Prop := hullOfBoxesUptoRow.holds Tryz.pinned (OpenSpec.upto hullOfBoxesSpec)

end Rows
end Go.Proofs.YtjjjkojfijpeeaaGreat
