/-
  No cell of these rows narrows 'for every input' (looked for: loops, veiled, ifaces, maps, wideKeys, modest, calm, conditions, laid).
  DERIVED. THE GIVEN ROWS OF THIS SEAT. 4 by the template 'for every input the law returns true; each argument reads behind the call as it read before'; 0 by the template 'total and deterministic' (their statements: YtdlipdnepadhjaaGreatTotals.lean).
  GIVEN WITH THE SEED: the statements are not yours to turn. If you find one false, say at which input.
  Laid BY PROGRAM, IN A SANDBOX (cutbox-rows.mjs): the forced cells as the released guide's own fill.sh prints them over the translation f41022e6a46945e7… (all of the seat's roots in one cut). By AI agents, Wed Nov 11 2026. No macro, syntax, notation, axiom, sorry.
-/
import Derived.Test.YtdlipdnepadhjaaGreatChecked
import GoSem.Claim
import GoSem.ClaimJoined
import GoSem.ClaimMapViews
import Derived.JoinedTies
import Derived.KernelRfl
namespace Go.Proofs.YtdlipdnepadhjaaGreat
/- THE CELL 'sum', in the pinned program and in every row, IS THE sha256 OF THE DUMP (.gsa) THAT YtdlipdnepadhjaaGreatProg.lean LOADS. Nothing in Lean hashes anything: it is a label: what it is worth is what the hold of that sum in a sandbox is worth. -/
noncomputable def Tryz.pinned : Pinned := { name := "ytdlipdnepadhjaagreat", sum := "f41022e6a46945e74b8f15bfa3c63966e92567bcf4164f0d80d0d4746419cf0d", checked := Tryz.checked }
namespace Rows
def none {H : Type} : Left H := { results := [], args := [] }

/-- 'skewbacklaw16.SweepFindsAsSpecified': WHATEVER THE INPUT: true; the input reads as it did. -/
def sweepFindsAsSpecifiedSpec : ChangeSpec := { name := "sweepFindsAsSpecified", fn := fun _ => fun
  | [d1, d2, d3, d4, d5, d6, d7] => { results := [.lit (.bool true)], args := [d1, d2, d3, d4, d5, d6, d7] }
  | _ => none }
def sweepFindsAsSpecifiedRow : OpenClaim := { program := "ytdlipdnepadhjaagreat", sum := "f41022e6a46945e74b8f15bfa3c63966e92567bcf4164f0d80d0d4746419cf0d", func := "skewback/skewbacklaw16.SweepFindsAsSpecified", spec := "sweepFindsAsSpecified", unfollowed := true, recurses := true, plainKeys := false, apart := false }
def SweepFindsAsSpecifiedSaid : Prop := sweepFindsAsSpecifiedRow.holds Tryz.pinned (OpenSpec.ofChange sweepFindsAsSpecifiedSpec)

/-- ITS FALSE NEIGHBOUR: 'it returns false'. Refute it at one input. -/
def sweepFindsAsSpecifiedWrong : ChangeSpec := { name := "sweepFindsAsSpecified", fn := fun _ => fun
  | [d1, d2, d3, d4, d5, d6, d7] => { results := [.lit (.bool false)], args := [d1, d2, d3, d4, d5, d6, d7] }
  | _ => none }
def SweepFindsAsSpecifiedWrongFalsely : Prop := sweepFindsAsSpecifiedRow.holds Tryz.pinned (OpenSpec.ofChange sweepFindsAsSpecifiedWrong)

/-- 'skewbacklaw16.SweepChecksAsSpecified': WHATEVER THE INPUT: true; the input reads as it did. -/
def sweepChecksAsSpecifiedSpec : ChangeSpec := { name := "sweepChecksAsSpecified", fn := fun _ => fun
  | [d1, d2, d3, d4, d5] => { results := [.lit (.bool true)], args := [d1, d2, d3, d4, d5] }
  | _ => none }
def sweepChecksAsSpecifiedRow : OpenClaim := { program := "ytdlipdnepadhjaagreat", sum := "f41022e6a46945e74b8f15bfa3c63966e92567bcf4164f0d80d0d4746419cf0d", func := "skewback/skewbacklaw16.SweepChecksAsSpecified", spec := "sweepChecksAsSpecified", unfollowed := true, recurses := true, plainKeys := false, apart := false }
def SweepChecksAsSpecifiedSaid : Prop := sweepChecksAsSpecifiedRow.holds Tryz.pinned (OpenSpec.ofChange sweepChecksAsSpecifiedSpec)

/-- ITS FALSE NEIGHBOUR: 'it returns false'. Refute it at one input. -/
def sweepChecksAsSpecifiedWrong : ChangeSpec := { name := "sweepChecksAsSpecified", fn := fun _ => fun
  | [d1, d2, d3, d4, d5] => { results := [.lit (.bool false)], args := [d1, d2, d3, d4, d5] }
  | _ => none }
def SweepChecksAsSpecifiedWrongFalsely : Prop := sweepChecksAsSpecifiedRow.holds Tryz.pinned (OpenSpec.ofChange sweepChecksAsSpecifiedWrong)

/-- 'skewbacklaw16.SweepFoundIsAccepted': WHATEVER THE INPUT: true; the input reads as it did. -/
def sweepFoundIsAcceptedSpec : ChangeSpec := { name := "sweepFoundIsAccepted", fn := fun _ => fun
  | [d1, d2, d3, d4, d5, d6] => { results := [.lit (.bool true)], args := [d1, d2, d3, d4, d5, d6] }
  | _ => none }
def sweepFoundIsAcceptedRow : OpenClaim := { program := "ytdlipdnepadhjaagreat", sum := "f41022e6a46945e74b8f15bfa3c63966e92567bcf4164f0d80d0d4746419cf0d", func := "skewback/skewbacklaw16.SweepFoundIsAccepted", spec := "sweepFoundIsAccepted", unfollowed := true, recurses := true, plainKeys := false, apart := false }
def SweepFoundIsAcceptedSaid : Prop := sweepFoundIsAcceptedRow.holds Tryz.pinned (OpenSpec.ofChange sweepFoundIsAcceptedSpec)

/-- ITS FALSE NEIGHBOUR: 'it returns false'. Refute it at one input. -/
def sweepFoundIsAcceptedWrong : ChangeSpec := { name := "sweepFoundIsAccepted", fn := fun _ => fun
  | [d1, d2, d3, d4, d5, d6] => { results := [.lit (.bool false)], args := [d1, d2, d3, d4, d5, d6] }
  | _ => none }
def SweepFoundIsAcceptedWrongFalsely : Prop := sweepFoundIsAcceptedRow.holds Tryz.pinned (OpenSpec.ofChange sweepFoundIsAcceptedWrong)

/-- 'skewbacklaw16.SweepAcceptedIsApart': WHATEVER THE INPUT: true; the input reads as it did. -/
def sweepAcceptedIsApartSpec : ChangeSpec := { name := "sweepAcceptedIsApart", fn := fun _ => fun
  | [d1, d2, d3, d4, d5, d6, d7] => { results := [.lit (.bool true)], args := [d1, d2, d3, d4, d5, d6, d7] }
  | _ => none }
def sweepAcceptedIsApartRow : OpenClaim := { program := "ytdlipdnepadhjaagreat", sum := "f41022e6a46945e74b8f15bfa3c63966e92567bcf4164f0d80d0d4746419cf0d", func := "skewback/skewbacklaw16.SweepAcceptedIsApart", spec := "sweepAcceptedIsApart", unfollowed := true, recurses := true, plainKeys := false, apart := false }
def SweepAcceptedIsApartSaid : Prop := sweepAcceptedIsApartRow.holds Tryz.pinned (OpenSpec.ofChange sweepAcceptedIsApartSpec)

/-- ITS FALSE NEIGHBOUR: 'it returns false'. Refute it at one input. -/
def sweepAcceptedIsApartWrong : ChangeSpec := { name := "sweepAcceptedIsApart", fn := fun _ => fun
  | [d1, d2, d3, d4, d5, d6, d7] => { results := [.lit (.bool false)], args := [d1, d2, d3, d4, d5, d6, d7] }
  | _ => none }
def SweepAcceptedIsApartWrongFalsely : Prop := sweepAcceptedIsApartRow.holds Tryz.pinned (OpenSpec.ofChange sweepAcceptedIsApartWrong)

/- THE SECOND FORM. 'bulk': how many values and letters a reading holds, each counted each time it is reached (what is shared counts as often as it is met; a slice's spare places count too). A statement '..UptoSaid' is the law's where the arguments, and the package variables that the reading takes, are together of bulk at most 1048576: NARROWER than '..Said'. Prove '..Said' where nothing that the law and all that it calls make is longer than what came in: it says more and counts as full. Else prove '..UptoSaid'. A law counts once. -/
mutual
def uptoBulk {H : Type} : DataW H → Nat
  | .lit (.string bytes) => bytes.length + 1
  | .lit _ => 1
  | .nil => 1
  | .ptr d => uptoBulk d + 1
  | .slice elems spare => uptoBulkAll elems + uptoBulkAll spare + 1
  | .agg parts => uptoBulkAll parts + 1
  | .iface _ d => uptoBulk d + 1
  | .map entries => uptoBulkEntries entries + 1
  | .held _ => 1
def uptoBulkAll {H : Type} : List (DataW H) → Nat
  | [] => 0
  | d :: r => uptoBulk d + uptoBulkAll r
def uptoBulkEntries {H : Type} : List (Lit × DataW H) → Nat
  | [] => 0
  | x :: r => uptoBulkEntry x + uptoBulkEntries r
def uptoBulkEntry {H : Type} : Lit × DataW H → Nat
  | (.string bytes, d) => bytes.length + uptoBulk d + 1
  | (_, d) => uptoBulk d + 1
 end
def uptoSmall : (H : Type) → List (DataW H) → Bool := fun _ ds => decide (uptoBulkAll ds ≤ 1048576)
def OpenSpec.upto (s : _root_.Go.ChangeSpec) : _root_.Go.OpenSpec := { _root_.Go.OpenSpec.ofChange s with cond := some uptoSmall }

/-- 'skewbacklaw16.SweepFindsAsSpecified', WHERE WHAT IT READS IS OF BULK AT MOST 1048576: true; the input reads as it did. -/
def sweepFindsAsSpecifiedUptoRow : OpenClaim := { program := "ytdlipdnepadhjaagreat", sum := "f41022e6a46945e74b8f15bfa3c63966e92567bcf4164f0d80d0d4746419cf0d", func := "skewback/skewbacklaw16.SweepFindsAsSpecified", spec := "sweepFindsAsSpecified", unfollowed := true, recurses := true, plainKeys := false, apart := false, narrowed := true }
def SweepFindsAsSpecifiedUptoSaid : Prop := sweepFindsAsSpecifiedUptoRow.holds Tryz.pinned (OpenSpec.upto sweepFindsAsSpecifiedSpec)

/-- 'skewbacklaw16.SweepChecksAsSpecified', WHERE WHAT IT READS IS OF BULK AT MOST 1048576: true; the input reads as it did. -/
def sweepChecksAsSpecifiedUptoRow : OpenClaim := { program := "ytdlipdnepadhjaagreat", sum := "f41022e6a46945e74b8f15bfa3c63966e92567bcf4164f0d80d0d4746419cf0d", func := "skewback/skewbacklaw16.SweepChecksAsSpecified", spec := "sweepChecksAsSpecified", unfollowed := true, recurses := true, plainKeys := false, apart := false, narrowed := true }
def SweepChecksAsSpecifiedUptoSaid : Prop := sweepChecksAsSpecifiedUptoRow.holds Tryz.pinned (OpenSpec.upto sweepChecksAsSpecifiedSpec)

/-- 'skewbacklaw16.SweepFoundIsAccepted', WHERE WHAT IT READS IS OF BULK AT MOST 1048576: true; the input reads as it did. -/
def sweepFoundIsAcceptedUptoRow : OpenClaim := { program := "ytdlipdnepadhjaagreat", sum := "f41022e6a46945e74b8f15bfa3c63966e92567bcf4164f0d80d0d4746419cf0d", func := "skewback/skewbacklaw16.SweepFoundIsAccepted", spec := "sweepFoundIsAccepted", unfollowed := true, recurses := true, plainKeys := false, apart := false, narrowed := true }
def SweepFoundIsAcceptedUptoSaid : Prop := sweepFoundIsAcceptedUptoRow.holds Tryz.pinned (OpenSpec.upto sweepFoundIsAcceptedSpec)

/-- 'skewbacklaw16.SweepAcceptedIsApart', WHERE WHAT IT READS IS OF BULK AT MOST 1048576: true; the input reads as it did. -/
def sweepAcceptedIsApartUptoRow : OpenClaim := { program := "ytdlipdnepadhjaagreat", sum := "f41022e6a46945e74b8f15bfa3c63966e92567bcf4164f0d80d0d4746419cf0d", func := "skewback/skewbacklaw16.SweepAcceptedIsApart", spec := "sweepAcceptedIsApart", unfollowed := true, recurses := true, plainKeys := false, apart := false, narrowed := true }
def SweepAcceptedIsApartUptoSaid : Prop := sweepAcceptedIsApartUptoRow.holds Tryz.pinned (OpenSpec.upto sweepAcceptedIsApartSpec)

end Rows
end Go.Proofs.YtdlipdnepadhjaaGreat
