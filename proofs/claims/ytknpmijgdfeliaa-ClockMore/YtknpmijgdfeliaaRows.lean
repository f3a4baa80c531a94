/-
  No cell of these rows narrows 'for every input' (looked for: loops, veiled, ifaces, maps, wideKeys, modest, calm, conditions, laid).
  DERIVED. THE GIVEN ROWS OF THIS SEAT. 6 by the template 'for every input the law returns true; each argument reads behind the call as it read before'; 0 by the template 'total and deterministic' (their statements: YtknpmijgdfeliaaTotals.lean).
  GIVEN WITH THE SEED: the statements are not yours to turn. If you find one false, say at which input.
  Laid BY PROGRAM, IN A SANDBOX (cutbox-rows.mjs): the forced cells as the released guide's own fill.sh prints them over the translation 9b91737465109b67… (all of the seat's roots in one cut). By AI agents, Wed Nov 11 2026. No macro, syntax, notation, axiom, sorry.
-/
import Derived.Test.YtknpmijgdfeliaaChecked
import GoSem.Claim
import GoSem.ClaimJoined
import GoSem.ClaimMapViews
import Derived.JoinedTies
import Derived.KernelRfl
namespace Go.Proofs.Ytknpmijgdfeliaa
/- THE CELL 'sum', in the pinned program and in every row, IS THE sha256 OF THE DUMP (.gsa) THAT YtknpmijgdfeliaaProg.lean LOADS. Nothing in Lean hashes anything: it is a label: what it is worth is what the hold of that sum in a sandbox is worth. -/
noncomputable def Try.pinned : Pinned := { name := "ytknpmijgdfeliaa", sum := "9b91737465109b67c5fa2ba666145902e83f279d66a4e67b41964824f1e0cf8c", checked := Try.checked }
namespace Rows
def none {H : Type} : Left H := { results := [], args := [] }

/-- 'furrowworkslaw07.ClockDrop': WHATEVER THE INPUT: true; the input reads as it did. -/
def clockDropSpec : ChangeSpec := { name := "clockDrop", fn := fun _ => fun
  | [d1, d2] => { results := [.lit (.bool true)], args := [d1, d2] }
  | _ => none }
def clockDropRow : OpenClaim := { program := "ytknpmijgdfeliaa", sum := "9b91737465109b67c5fa2ba666145902e83f279d66a4e67b41964824f1e0cf8c", func := "furrowworks/furrowworkslaw07.ClockDrop", spec := "clockDrop", unfollowed := true, recurses := true, plainKeys := false, apart := false }
def ClockDropSaid : Prop := clockDropRow.holds Try.pinned (OpenSpec.ofChange clockDropSpec)

/-- ITS FALSE NEIGHBOUR: 'it returns false'. Refute it at one input. -/
def clockDropWrong : ChangeSpec := { name := "clockDrop", fn := fun _ => fun
  | [d1, d2] => { results := [.lit (.bool false)], args := [d1, d2] }
  | _ => none }
def ClockDropWrongFalsely : Prop := clockDropRow.holds Try.pinned (OpenSpec.ofChange clockDropWrong)

/-- 'furrowworkslaw07.ClockNames': WHATEVER THE INPUT: true; the input reads as it did. -/
def clockNamesSpec : ChangeSpec := { name := "clockNames", fn := fun _ => fun
  | [] => { results := [.lit (.bool true)], args := [] }
  | _ => none }
def clockNamesRow : OpenClaim := { program := "ytknpmijgdfeliaa", sum := "9b91737465109b67c5fa2ba666145902e83f279d66a4e67b41964824f1e0cf8c", func := "furrowworks/furrowworkslaw07.ClockNames", spec := "clockNames", unfollowed := true, recurses := true, plainKeys := false, apart := false }
def ClockNamesSaid : Prop := clockNamesRow.holds Try.pinned (OpenSpec.ofChange clockNamesSpec)

/-- ITS FALSE NEIGHBOUR: 'it returns false'. Refute it at one input. -/
def clockNamesWrong : ChangeSpec := { name := "clockNames", fn := fun _ => fun
  | [] => { results := [.lit (.bool false)], args := [] }
  | _ => none }
def ClockNamesWrongFalsely : Prop := clockNamesRow.holds Try.pinned (OpenSpec.ofChange clockNamesWrong)

/-- 'furrowworkslaw07.ClockTrue': WHATEVER THE INPUT: true; the input reads as it did. -/
def clockTrueSpec : ChangeSpec := { name := "clockTrue", fn := fun _ => fun
  | [d] => { results := [.lit (.bool true)], args := [d] }
  | _ => none }
def clockTrueRow : OpenClaim := { program := "ytknpmijgdfeliaa", sum := "9b91737465109b67c5fa2ba666145902e83f279d66a4e67b41964824f1e0cf8c", func := "furrowworks/furrowworkslaw07.ClockTrue", spec := "clockTrue", unfollowed := true, recurses := true, plainKeys := false, apart := false }
def ClockTrueSaid : Prop := clockTrueRow.holds Try.pinned (OpenSpec.ofChange clockTrueSpec)

/-- ITS FALSE NEIGHBOUR: 'it returns false'. Refute it at one input. -/
def clockTrueWrong : ChangeSpec := { name := "clockTrue", fn := fun _ => fun
  | [d] => { results := [.lit (.bool false)], args := [d] }
  | _ => none }
def ClockTrueWrongFalsely : Prop := clockTrueRow.holds Try.pinned (OpenSpec.ofChange clockTrueWrong)

/-- 'furrowworkslaw07.ClockMore': WHATEVER THE INPUT: true; the input reads as it did. -/
def clockMoreSpec : ChangeSpec := { name := "clockMore", fn := fun _ => fun
  | [d1, d2, d3, d4, d5, d6, d7] => { results := [.lit (.bool true)], args := [d1, d2, d3, d4, d5, d6, d7] }
  | _ => none }
def clockMoreRow : OpenClaim := { program := "ytknpmijgdfeliaa", sum := "9b91737465109b67c5fa2ba666145902e83f279d66a4e67b41964824f1e0cf8c", func := "furrowworks/furrowworkslaw07.ClockMore", spec := "clockMore", unfollowed := true, recurses := true, plainKeys := false, apart := false }
def ClockMoreSaid : Prop := clockMoreRow.holds Try.pinned (OpenSpec.ofChange clockMoreSpec)

/-- ITS FALSE NEIGHBOUR: 'it returns false'. Refute it at one input. -/
def clockMoreWrong : ChangeSpec := { name := "clockMore", fn := fun _ => fun
  | [d1, d2, d3, d4, d5, d6, d7] => { results := [.lit (.bool false)], args := [d1, d2, d3, d4, d5, d6, d7] }
  | _ => none }
def ClockMoreWrongFalsely : Prop := clockMoreRow.holds Try.pinned (OpenSpec.ofChange clockMoreWrong)

/-- 'furrowworkslaw07.ClockTurned': WHATEVER THE INPUT: true; the input reads as it did. -/
def clockTurnedSpec : ChangeSpec := { name := "clockTurned", fn := fun _ => fun
  | [d1, d2, d3, d4, d5] => { results := [.lit (.bool true)], args := [d1, d2, d3, d4, d5] }
  | _ => none }
def clockTurnedRow : OpenClaim := { program := "ytknpmijgdfeliaa", sum := "9b91737465109b67c5fa2ba666145902e83f279d66a4e67b41964824f1e0cf8c", func := "furrowworks/furrowworkslaw07.ClockTurned", spec := "clockTurned", unfollowed := true, recurses := true, plainKeys := false, apart := false }
def ClockTurnedSaid : Prop := clockTurnedRow.holds Try.pinned (OpenSpec.ofChange clockTurnedSpec)

/-- ITS FALSE NEIGHBOUR: 'it returns false'. Refute it at one input. -/
def clockTurnedWrong : ChangeSpec := { name := "clockTurned", fn := fun _ => fun
  | [d1, d2, d3, d4, d5] => { results := [.lit (.bool false)], args := [d1, d2, d3, d4, d5] }
  | _ => none }
def ClockTurnedWrongFalsely : Prop := clockTurnedRow.holds Try.pinned (OpenSpec.ofChange clockTurnedWrong)

/-- 'furrowworkslaw07.ClockAlone': WHATEVER THE INPUT: true; the input reads as it did. -/
def clockAloneSpec : ChangeSpec := { name := "clockAlone", fn := fun _ => fun
  | [d1, d2, d3] => { results := [.lit (.bool true)], args := [d1, d2, d3] }
  | _ => none }
def clockAloneRow : OpenClaim := { program := "ytknpmijgdfeliaa", sum := "9b91737465109b67c5fa2ba666145902e83f279d66a4e67b41964824f1e0cf8c", func := "furrowworks/furrowworkslaw07.ClockAlone", spec := "clockAlone", unfollowed := true, recurses := true, plainKeys := false, apart := false }
def ClockAloneSaid : Prop := clockAloneRow.holds Try.pinned (OpenSpec.ofChange clockAloneSpec)

/-- ITS FALSE NEIGHBOUR: 'it returns false'. Refute it at one input. -/
def clockAloneWrong : ChangeSpec := { name := "clockAlone", fn := fun _ => fun
  | [d1, d2, d3] => { results := [.lit (.bool false)], args := [d1, d2, d3] }
  | _ => none }
def ClockAloneWrongFalsely : Prop := clockAloneRow.holds Try.pinned (OpenSpec.ofChange clockAloneWrong)

/- THE SECOND FORM. 'bulk': how many values and letters a reading holds, each counted each time it is reached (what is shared counts as often as it is met; a slice's spare places count too). A statement '..UptoSaid' is the law's where the arguments, and the package variables that the reading takes, are together of bulk at most 1048576: NARROWER than '..Said'. Prove '..Said' where nothing that the law and all that it calls make is longer than what came in: it says more and counts as full. Else prove '..UptoSaid'. A law counts once. -/
mutual
def uptoBulk {H : Type} : DataW H → Nat
  | .lit (.string bytes) => bytes.length + 1
  | .lit _ => 1
  | .nil => 1
  | .ptr d => uptoBulk d + 1
  | .slice elems spare => uptoBulkAll elems + uptoBulkAll spare + 1
  | .agg parts => uptoBulkAll parts + 1
  | .iface _ d => uptoBulk d + 1
  | .map entries => uptoBulkEntries entries + 1
  | .held _ => 1
def uptoBulkAll {H : Type} : List (DataW H) → Nat
  | [] => 0
  | d :: r => uptoBulk d + uptoBulkAll r
def uptoBulkEntries {H : Type} : List (Lit × DataW H) → Nat
  | [] => 0
  | x :: r => uptoBulkEntry x + uptoBulkEntries r
def uptoBulkEntry {H : Type} : Lit × DataW H → Nat
  | (.string bytes, d) => bytes.length + uptoBulk d + 1
  | (_, d) => uptoBulk d + 1
 end
def uptoSmall : (H : Type) → List (DataW H) → Bool := fun _ ds => decide (uptoBulkAll ds ≤ 1048576)
def OpenSpec.upto (s : _root_.Go.ChangeSpec) : _root_.Go.OpenSpec := { _root_.Go.OpenSpec.ofChange s with cond := some uptoSmall }

/-- 'furrowworkslaw07.ClockDrop', WHERE WHAT IT READS IS OF BULK AT MOST 1048576: true; the input reads as it did. -/
def clockDropUptoRow : OpenClaim := { program := "ytknpmijgdfeliaa", sum := "9b91737465109b67c5fa2ba666145902e83f279d66a4e67b41964824f1e0cf8c", func := "furrowworks/furrowworkslaw07.ClockDrop", spec := "clockDrop", unfollowed := true, recurses := true, plainKeys := false, apart := false, narrowed := true }
def ClockDropUptoSaid : Prop := clockDropUptoRow.holds Try.pinned (OpenSpec.upto clockDropSpec)

/-- 'furrowworkslaw07.ClockNames', WHERE WHAT IT READS IS OF BULK AT MOST 1048576: true; the input reads as it did. -/
def clockNamesUptoRow : OpenClaim := { program := "ytknpmijgdfeliaa", sum := "9b91737465109b67c5fa2ba666145902e83f279d66a4e67b41964824f1e0cf8c", func := "furrowworks/furrowworkslaw07.ClockNames", spec := "clockNames", unfollowed := true, recurses := true, plainKeys := false, apart := false, narrowed := true }
def ClockNamesUptoSaid : Prop := clockNamesUptoRow.holds Try.pinned (OpenSpec.upto clockNamesSpec)

/-- 'furrowworkslaw07.ClockTrue', WHERE WHAT IT READS IS OF BULK AT MOST 1048576: true; the input reads as it did. -/
def clockTrueUptoRow : OpenClaim := { program := "ytknpmijgdfeliaa", sum := "9b91737465109b67c5fa2ba666145902e83f279d66a4e67b41964824f1e0cf8c", func := "furrowworks/furrowworkslaw07.ClockTrue", spec := "clockTrue", unfollowed := true, recurses := true, plainKeys := false, apart := false, narrowed := true }
def ClockTrueUptoSaid : Prop := clockTrueUptoRow.holds Try.pinned (OpenSpec.upto clockTrueSpec)

/-- 'furrowworkslaw07.ClockMore', WHERE WHAT IT READS IS OF BULK AT MOST 1048576: true; the input reads as it did. -/
def clockMoreUptoRow : OpenClaim := { program := "ytknpmijgdfeliaa", sum := "9b91737465109b67c5fa2ba666145902e83f279d66a4e67b41964824f1e0cf8c", func := "furrowworks/furrowworkslaw07.ClockMore", spec := "clockMore", unfollowed := true, recurses := true, plainKeys := false, apart := false, narrowed := true }
def ClockMoreUptoSaid : Prop := clockMoreUptoRow.holds Try.pinned (OpenSpec.upto clockMoreSpec)

/-- 'furrowworkslaw07.ClockTurned', WHERE WHAT IT READS IS OF BULK AT MOST 1048576: true; the input reads as it did. -/
def clockTurnedUptoRow : OpenClaim := { program := "ytknpmijgdfeliaa", sum := "9b91737465109b67c5fa2ba666145902e83f279d66a4e67b41964824f1e0cf8c", func := "furrowworks/furrowworkslaw07.ClockTurned", spec := "clockTurned", unfollowed := true, recurses := true, plainKeys := false, apart := false, narrowed := true }
def ClockTurnedUptoSaid : Prop := clockTurnedUptoRow.holds Try.pinned (OpenSpec.upto clockTurnedSpec)

/-- 'furrowworkslaw07.ClockAlone', WHERE WHAT IT READS IS OF BULK AT MOST 1048576: true; the input reads as it did. -/
def clockAloneUptoRow : OpenClaim := { program := "ytknpmijgdfeliaa", sum := "9b91737465109b67c5fa2ba666145902e83f279d66a4e67b41964824f1e0cf8c", func := "furrowworks/furrowworkslaw07.ClockAlone", spec := "clockAlone", unfollowed := true, recurses := true, plainKeys := false, apart := false, narrowed := true }
def ClockAloneUptoSaid : Prop := clockAloneUptoRow.holds Try.pinned (OpenSpec.upto clockAloneSpec)

end Rows
end Go.Proofs.Ytknpmijgdfeliaa
