/-
  No cell of these rows narrows 'for every input' (looked for: loops, veiled, ifaces, maps, wideKeys, modest, calm, conditions, laid).
  DERIVED. THE GIVEN ROWS OF THIS SEAT. 10 by the template 'for every input the law returns true; each argument reads behind the call as it read before'; 0 by the template 'total and deterministic' (their statements: YtfaeokcbfnlgbaaTotals.lean).
  GIVEN WITH THE SEED: the statements are not yours to turn. If you find one false, say at which input.
  Laid BY PROGRAM, IN A SANDBOX (cutbox-rows.mjs): the forced cells as the released guide's own fill.sh prints them over the translation 66be1d42f9e13502… (all of the seat's roots in one cut). By AI agents, Wed Nov 11 2026. No macro, syntax, notation, axiom, sorry.
-/
import Derived.Test.YtfaeokcbfnlgbaaChecked
import GoSem.Claim
import GoSem.ClaimJoined
import GoSem.ClaimMapViews
import Derived.JoinedTies
import Derived.KernelRfl
namespace Go.Proofs.Ytfaeokcbfnlgbaa
/- THE CELL 'sum', in the pinned program and in every row, IS THE sha256 OF THE DUMP (.gsa) THAT YtfaeokcbfnlgbaaProg.lean LOADS. Nothing in Lean hashes anything: it is a label: what it is worth is what the hold of that sum in a sandbox is worth. -/
noncomputable def Try.pinned : Pinned := { name := "ytfaeokcbfnlgbaa", sum := "66be1d42f9e135024a67f6eca23de5c9e9f972176d5691a7aa98852c709711b8", checked := Try.checked }
namespace Rows
def none {H : Type} : Left H := { results := [], args := [] }

/-- 'furrowworkslaw13.PrizeReads': WHATEVER THE INPUT: true; the input reads as it did. -/
def prizeReadsSpec : ChangeSpec := { name := "prizeReads", fn := fun _ => fun
  | [d1, d2, d3, d4] => { results := [.lit (.bool true)], args := [d1, d2, d3, d4] }
  | _ => none }
def prizeReadsRow : OpenClaim := { program := "ytfaeokcbfnlgbaa", sum := "66be1d42f9e135024a67f6eca23de5c9e9f972176d5691a7aa98852c709711b8", func := "furrowworks/furrowworkslaw13.PrizeReads", spec := "prizeReads", inPlace := ["slices.overlaps[int]"], unfollowed := true, recurses := true, apart := false }
def PrizeReadsSaid : Prop := prizeReadsRow.holds Try.pinned (OpenSpec.ofChange prizeReadsSpec)

/-- ITS FALSE NEIGHBOUR: 'it returns false'. Refute it at one input. -/
def prizeReadsWrong : ChangeSpec := { name := "prizeReads", fn := fun _ => fun
  | [d1, d2, d3, d4] => { results := [.lit (.bool false)], args := [d1, d2, d3, d4] }
  | _ => none }
def PrizeReadsWrongFalsely : Prop := prizeReadsRow.holds Try.pinned (OpenSpec.ofChange prizeReadsWrong)

/-- 'furrowworkslaw13.PrizeLooks': WHATEVER THE INPUT: true; the input reads as it did. -/
def prizeLooksSpec : ChangeSpec := { name := "prizeLooks", fn := fun _ => fun
  | [d1, d2] => { results := [.lit (.bool true)], args := [d1, d2] }
  | _ => none }
def prizeLooksRow : OpenClaim := { program := "ytfaeokcbfnlgbaa", sum := "66be1d42f9e135024a67f6eca23de5c9e9f972176d5691a7aa98852c709711b8", func := "furrowworks/furrowworkslaw13.PrizeLooks", spec := "prizeLooks", inPlace := ["slices.overlaps[int]"], unfollowed := true, recurses := true, apart := false }
def PrizeLooksSaid : Prop := prizeLooksRow.holds Try.pinned (OpenSpec.ofChange prizeLooksSpec)

/-- ITS FALSE NEIGHBOUR: 'it returns false'. Refute it at one input. -/
def prizeLooksWrong : ChangeSpec := { name := "prizeLooks", fn := fun _ => fun
  | [d1, d2] => { results := [.lit (.bool false)], args := [d1, d2] }
  | _ => none }
def PrizeLooksWrongFalsely : Prop := prizeLooksRow.holds Try.pinned (OpenSpec.ofChange prizeLooksWrong)

/-- 'furrowworkslaw13.PrizeDue': WHATEVER THE INPUT: true; the input reads as it did. -/
def prizeDueSpec : ChangeSpec := { name := "prizeDue", fn := fun _ => fun
  | [d] => { results := [.lit (.bool true)], args := [d] }
  | _ => none }
def prizeDueRow : OpenClaim := { program := "ytfaeokcbfnlgbaa", sum := "66be1d42f9e135024a67f6eca23de5c9e9f972176d5691a7aa98852c709711b8", func := "furrowworks/furrowworkslaw13.PrizeDue", spec := "prizeDue", inPlace := ["slices.overlaps[int]"], unfollowed := true, recurses := true, apart := false }
def PrizeDueSaid : Prop := prizeDueRow.holds Try.pinned (OpenSpec.ofChange prizeDueSpec)

/-- ITS FALSE NEIGHBOUR: 'it returns false'. Refute it at one input. -/
def prizeDueWrong : ChangeSpec := { name := "prizeDue", fn := fun _ => fun
  | [d] => { results := [.lit (.bool false)], args := [d] }
  | _ => none }
def PrizeDueWrongFalsely : Prop := prizeDueRow.holds Try.pinned (OpenSpec.ofChange prizeDueWrong)

/-- 'furrowworkslaw13.PrizeClub': WHATEVER THE INPUT: true; the input reads as it did. -/
def prizeClubSpec : ChangeSpec := { name := "prizeClub", fn := fun _ => fun
  | [d] => { results := [.lit (.bool true)], args := [d] }
  | _ => none }
def prizeClubRow : OpenClaim := { program := "ytfaeokcbfnlgbaa", sum := "66be1d42f9e135024a67f6eca23de5c9e9f972176d5691a7aa98852c709711b8", func := "furrowworks/furrowworkslaw13.PrizeClub", spec := "prizeClub", inPlace := ["slices.overlaps[int]"], unfollowed := true, recurses := true, apart := false }
def PrizeClubSaid : Prop := prizeClubRow.holds Try.pinned (OpenSpec.ofChange prizeClubSpec)

/-- ITS FALSE NEIGHBOUR: 'it returns false'. Refute it at one input. -/
def prizeClubWrong : ChangeSpec := { name := "prizeClub", fn := fun _ => fun
  | [d] => { results := [.lit (.bool false)], args := [d] }
  | _ => none }
def PrizeClubWrongFalsely : Prop := prizeClubRow.holds Try.pinned (OpenSpec.ofChange prizeClubWrong)

/-- 'furrowworkslaw13.PrizeWorth': WHATEVER THE INPUT: true; the input reads as it did. -/
def prizeWorthSpec : ChangeSpec := { name := "prizeWorth", fn := fun _ => fun
  | [d1, d2, d3] => { results := [.lit (.bool true)], args := [d1, d2, d3] }
  | _ => none }
def prizeWorthRow : OpenClaim := { program := "ytfaeokcbfnlgbaa", sum := "66be1d42f9e135024a67f6eca23de5c9e9f972176d5691a7aa98852c709711b8", func := "furrowworks/furrowworkslaw13.PrizeWorth", spec := "prizeWorth", inPlace := ["slices.overlaps[int]"], unfollowed := true, recurses := true, apart := false }
def PrizeWorthSaid : Prop := prizeWorthRow.holds Try.pinned (OpenSpec.ofChange prizeWorthSpec)

/-- ITS FALSE NEIGHBOUR: 'it returns false'. Refute it at one input. -/
def prizeWorthWrong : ChangeSpec := { name := "prizeWorth", fn := fun _ => fun
  | [d1, d2, d3] => { results := [.lit (.bool false)], args := [d1, d2, d3] }
  | _ => none }
def PrizeWorthWrongFalsely : Prop := prizeWorthRow.holds Try.pinned (OpenSpec.ofChange prizeWorthWrong)

/-- 'furrowworkslaw13.PrizeMost': WHATEVER THE INPUT: true; the input reads as it did. -/
def prizeMostSpec : ChangeSpec := { name := "prizeMost", fn := fun _ => fun
  | [d1, d2] => { results := [.lit (.bool true)], args := [d1, d2] }
  | _ => none }
def prizeMostRow : OpenClaim := { program := "ytfaeokcbfnlgbaa", sum := "66be1d42f9e135024a67f6eca23de5c9e9f972176d5691a7aa98852c709711b8", func := "furrowworks/furrowworkslaw13.PrizeMost", spec := "prizeMost", inPlace := ["slices.overlaps[int]"], unfollowed := true, recurses := true, apart := false }
def PrizeMostSaid : Prop := prizeMostRow.holds Try.pinned (OpenSpec.ofChange prizeMostSpec)

/-- ITS FALSE NEIGHBOUR: 'it returns false'. Refute it at one input. -/
def prizeMostWrong : ChangeSpec := { name := "prizeMost", fn := fun _ => fun
  | [d1, d2] => { results := [.lit (.bool false)], args := [d1, d2] }
  | _ => none }
def PrizeMostWrongFalsely : Prop := prizeMostRow.holds Try.pinned (OpenSpec.ofChange prizeMostWrong)

/-- 'furrowworkslaw13.PrizeStay': WHATEVER THE INPUT: true; the input reads as it did. -/
def prizeStaySpec : ChangeSpec := { name := "prizeStay", fn := fun _ => fun
  | [d1, d2] => { results := [.lit (.bool true)], args := [d1, d2] }
  | _ => none }
def prizeStayRow : OpenClaim := { program := "ytfaeokcbfnlgbaa", sum := "66be1d42f9e135024a67f6eca23de5c9e9f972176d5691a7aa98852c709711b8", func := "furrowworks/furrowworkslaw13.PrizeStay", spec := "prizeStay", inPlace := ["slices.overlaps[int]"], unfollowed := true, recurses := true, apart := false }
def PrizeStaySaid : Prop := prizeStayRow.holds Try.pinned (OpenSpec.ofChange prizeStaySpec)

/-- ITS FALSE NEIGHBOUR: 'it returns false'. Refute it at one input. -/
def prizeStayWrong : ChangeSpec := { name := "prizeStay", fn := fun _ => fun
  | [d1, d2] => { results := [.lit (.bool false)], args := [d1, d2] }
  | _ => none }
def PrizeStayWrongFalsely : Prop := prizeStayRow.holds Try.pinned (OpenSpec.ofChange prizeStayWrong)

/-- 'furrowworkslaw13.PrizeFor': WHATEVER THE INPUT: true; the input reads as it did. -/
def prizeForSpec : ChangeSpec := { name := "prizeFor", fn := fun _ => fun
  | [d1, d2, d3] => { results := [.lit (.bool true)], args := [d1, d2, d3] }
  | _ => none }
def prizeForRow : OpenClaim := { program := "ytfaeokcbfnlgbaa", sum := "66be1d42f9e135024a67f6eca23de5c9e9f972176d5691a7aa98852c709711b8", func := "furrowworks/furrowworkslaw13.PrizeFor", spec := "prizeFor", inPlace := ["slices.overlaps[int]"], unfollowed := true, recurses := true, apart := false }
def PrizeForSaid : Prop := prizeForRow.holds Try.pinned (OpenSpec.ofChange prizeForSpec)

/-- ITS FALSE NEIGHBOUR: 'it returns false'. Refute it at one input. -/
def prizeForWrong : ChangeSpec := { name := "prizeFor", fn := fun _ => fun
  | [d1, d2, d3] => { results := [.lit (.bool false)], args := [d1, d2, d3] }
  | _ => none }
def PrizeForWrongFalsely : Prop := prizeForRow.holds Try.pinned (OpenSpec.ofChange prizeForWrong)

/-- 'furrowworkslaw13.PrizeEnd': WHATEVER THE INPUT: true; the input reads as it did. -/
def prizeEndSpec : ChangeSpec := { name := "prizeEnd", fn := fun _ => fun
  | [d1, d2, d3, d4, d5] => { results := [.lit (.bool true)], args := [d1, d2, d3, d4, d5] }
  | _ => none }
def prizeEndRow : OpenClaim := { program := "ytfaeokcbfnlgbaa", sum := "66be1d42f9e135024a67f6eca23de5c9e9f972176d5691a7aa98852c709711b8", func := "furrowworks/furrowworkslaw13.PrizeEnd", spec := "prizeEnd", inPlace := ["slices.overlaps[int]"], unfollowed := true, recurses := true, apart := false }
def PrizeEndSaid : Prop := prizeEndRow.holds Try.pinned (OpenSpec.ofChange prizeEndSpec)

/-- ITS FALSE NEIGHBOUR: 'it returns false'. Refute it at one input. -/
def prizeEndWrong : ChangeSpec := { name := "prizeEnd", fn := fun _ => fun
  | [d1, d2, d3, d4, d5] => { results := [.lit (.bool false)], args := [d1, d2, d3, d4, d5] }
  | _ => none }
def PrizeEndWrongFalsely : Prop := prizeEndRow.holds Try.pinned (OpenSpec.ofChange prizeEndWrong)

/-- 'furrowworkslaw13.PrizeTurned': WHATEVER THE INPUT: true; the input reads as it did. -/
def prizeTurnedSpec : ChangeSpec := { name := "prizeTurned", fn := fun _ => fun
  | [d1, d2, d3] => { results := [.lit (.bool true)], args := [d1, d2, d3] }
  | _ => none }
def prizeTurnedRow : OpenClaim := { program := "ytfaeokcbfnlgbaa", sum := "66be1d42f9e135024a67f6eca23de5c9e9f972176d5691a7aa98852c709711b8", func := "furrowworks/furrowworkslaw13.PrizeTurned", spec := "prizeTurned", inPlace := ["slices.overlaps[int]"], unfollowed := true, recurses := true, apart := false }
def PrizeTurnedSaid : Prop := prizeTurnedRow.holds Try.pinned (OpenSpec.ofChange prizeTurnedSpec)

/-- ITS FALSE NEIGHBOUR: 'it returns false'. Refute it at one input. -/
def prizeTurnedWrong : ChangeSpec := { name := "prizeTurned", fn := fun _ => fun
  | [d1, d2, d3] => { results := [.lit (.bool false)], args := [d1, d2, d3] }
  | _ => none }
def PrizeTurnedWrongFalsely : Prop := prizeTurnedRow.holds Try.pinned (OpenSpec.ofChange prizeTurnedWrong)

/- THE SECOND FORM. 'bulk': how many values and letters a reading holds, each counted each time it is reached (what is shared counts as often as it is met; a slice's spare places count too). A statement '..UptoSaid' is the law's where the arguments, and the package variables that the reading takes, are together of bulk at most 1048576: NARROWER than '..Said'. Prove '..Said' where nothing that the law and all that it calls make is longer than what came in: it says more and counts as full. Else prove '..UptoSaid'. A law counts once. -/
mutual
def uptoBulk {H : Type} : DataW H → Nat
  | .lit (.string bytes) => bytes.length + 1
  | .lit _ => 1
  | .nil => 1
  | .ptr d => uptoBulk d + 1
  | .slice elems spare => uptoBulkAll elems + uptoBulkAll spare + 1
  | .agg parts => uptoBulkAll parts + 1
  | .iface _ d => uptoBulk d + 1
  | .map entries => uptoBulkEntries entries + 1
  | .held _ => 1
def uptoBulkAll {H : Type} : List (DataW H) → Nat
  | [] => 0
  | d :: r => uptoBulk d + uptoBulkAll r
def uptoBulkEntries {H : Type} : List (Lit × DataW H) → Nat
  | [] => 0
  | x :: r => uptoBulkEntry x + uptoBulkEntries r
def uptoBulkEntry {H : Type} : Lit × DataW H → Nat
  | (.string bytes, d) => bytes.length + uptoBulk d + 1
  | (_, d) => uptoBulk d + 1
 end
def uptoSmall : (H : Type) → List (DataW H) → Bool := fun _ ds => decide (uptoBulkAll ds ≤ 1048576)
def OpenSpec.upto (s : _root_.Go.ChangeSpec) : _root_.Go.OpenSpec := { _root_.Go.OpenSpec.ofChange s with cond := some uptoSmall }

/-- 'furrowworkslaw13.PrizeReads', WHERE WHAT IT READS IS OF BULK AT MOST 1048576: true; the input reads as it did. -/
def prizeReadsUptoRow : OpenClaim := { program := "ytfaeokcbfnlgbaa", sum := "66be1d42f9e135024a67f6eca23de5c9e9f972176d5691a7aa98852c709711b8", func := "furrowworks/furrowworkslaw13.PrizeReads", spec := "prizeReads", inPlace := ["slices.overlaps[int]"], unfollowed := true, recurses := true, apart := false, narrowed := true }
def PrizeReadsUptoSaid : Prop := prizeReadsUptoRow.holds Try.pinned (OpenSpec.upto prizeReadsSpec)

/-- 'furrowworkslaw13.PrizeLooks', WHERE WHAT IT READS IS OF BULK AT MOST 1048576: true; the input reads as it did. -/
def prizeLooksUptoRow : OpenClaim := { program := "ytfaeokcbfnlgbaa", sum := "66be1d42f9e135024a67f6eca23de5c9e9f972176d5691a7aa98852c709711b8", func := "furrowworks/furrowworkslaw13.PrizeLooks", spec := "prizeLooks", inPlace := ["slices.overlaps[int]"], unfollowed := true, recurses := true, apart := false, narrowed := true }
def PrizeLooksUptoSaid : Prop := prizeLooksUptoRow.holds Try.pinned (OpenSpec.upto prizeLooksSpec)

/-- 'furrowworkslaw13.PrizeDue', WHERE WHAT IT READS IS OF BULK AT MOST 1048576: true; the input reads as it did. -/
def prizeDueUptoRow : OpenClaim := { program := "ytfaeokcbfnlgbaa", sum := "66be1d42f9e135024a67f6eca23de5c9e9f972176d5691a7aa98852c709711b8", func := "furrowworks/furrowworkslaw13.PrizeDue", spec := "prizeDue", inPlace := ["slices.overlaps[int]"], unfollowed := true, recurses := true, apart := false, narrowed := true }
def PrizeDueUptoSaid : Prop := prizeDueUptoRow.holds Try.pinned (OpenSpec.upto prizeDueSpec)

/-- 'furrowworkslaw13.PrizeClub', WHERE WHAT IT READS IS OF BULK AT MOST 1048576: true; the input reads as it did. -/
def prizeClubUptoRow : OpenClaim := { program := "ytfaeokcbfnlgbaa", sum := "66be1d42f9e135024a67f6eca23de5c9e9f972176d5691a7aa98852c709711b8", func := "furrowworks/furrowworkslaw13.PrizeClub", spec := "prizeClub", inPlace := ["slices.overlaps[int]"], unfollowed := true, recurses := true, apart := false, narrowed := true }
def PrizeClubUptoSaid : Prop := prizeClubUptoRow.holds Try.pinned (OpenSpec.upto prizeClubSpec)

/-- 'furrowworkslaw13.PrizeWorth', WHERE WHAT IT READS IS OF BULK AT MOST 1048576: true; the input reads as it did. -/
def prizeWorthUptoRow : OpenClaim := { program := "ytfaeokcbfnlgbaa", sum := "66be1d42f9e135024a67f6eca23de5c9e9f972176d5691a7aa98852c709711b8", func := "furrowworks/furrowworkslaw13.PrizeWorth", spec := "prizeWorth", inPlace := ["slices.overlaps[int]"], unfollowed := true, recurses := true, apart := false, narrowed := true }
def PrizeWorthUptoSaid : Prop := prizeWorthUptoRow.holds Try.pinned (OpenSpec.upto prizeWorthSpec)

/-- 'furrowworkslaw13.PrizeMost', WHERE WHAT IT READS IS OF BULK AT MOST 1048576: true; the input reads as it did. -/
def prizeMostUptoRow : OpenClaim := { program := "ytfaeokcbfnlgbaa", sum := "66be1d42f9e135024a67f6eca23de5c9e9f972176d5691a7aa98852c709711b8", func := "furrowworks/furrowworkslaw13.PrizeMost", spec := "prizeMost", inPlace := ["slices.overlaps[int]"], unfollowed := true, recurses := true, apart := false, narrowed := true }
def PrizeMostUptoSaid : Prop := prizeMostUptoRow.holds Try.pinned (OpenSpec.upto prizeMostSpec)

/-- 'furrowworkslaw13.PrizeStay', WHERE WHAT IT READS IS OF BULK AT MOST 1048576: true; the input reads as it did. -/
def prizeStayUptoRow : OpenClaim := { program := "ytfaeokcbfnlgbaa", sum := "66be1d42f9e135024a67f6eca23de5c9e9f972176d5691a7aa98852c709711b8", func := "furrowworks/furrowworkslaw13.PrizeStay", spec := "prizeStay", inPlace := ["slices.overlaps[int]"], unfollowed := true, recurses := true, apart := false, narrowed := true }
def PrizeStayUptoSaid : Prop := prizeStayUptoRow.holds Try.pinned (OpenSpec.upto prizeStaySpec)

/-- 'furrowworkslaw13.PrizeFor', WHERE WHAT IT READS IS OF BULK AT MOST 1048576: true; the input reads as it did. -/
def prizeForUptoRow : OpenClaim := { program := "ytfaeokcbfnlgbaa", sum := "66be1d42f9e135024a67f6eca23de5c9e9f972176d5691a7aa98852c709711b8", func := "furrowworks/furrowworkslaw13.PrizeFor", spec := "prizeFor", inPlace := ["slices.overlaps[int]"], unfollowed := true, recurses := true, apart := false, narrowed := true }
def PrizeForUptoSaid : Prop := prizeForUptoRow.holds Try.pinned (OpenSpec.upto prizeForSpec)

/-- 'furrowworkslaw13.PrizeEnd', WHERE WHAT IT READS IS OF BULK AT MOST 1048576: true; the input reads as it did. -/
def prizeEndUptoRow : OpenClaim := { program := "ytfaeokcbfnlgbaa", sum := "66be1d42f9e135024a67f6eca23de5c9e9f972176d5691a7aa98852c709711b8", func := "furrowworks/furrowworkslaw13.PrizeEnd", spec := "prizeEnd", inPlace := ["slices.overlaps[int]"], unfollowed := true, recurses := true, apart := false, narrowed := true }
def PrizeEndUptoSaid : Prop := prizeEndUptoRow.holds Try.pinned (OpenSpec.upto prizeEndSpec)

/-- 'furrowworkslaw13.PrizeTurned', WHERE WHAT IT READS IS OF BULK AT MOST 1048576: true; the input reads as it did. -/
def prizeTurnedUptoRow : OpenClaim := { program := "ytfaeokcbfnlgbaa", sum := "66be1d42f9e135024a67f6eca23de5c9e9f972176d5691a7aa98852c709711b8", func := "furrowworks/furrowworkslaw13.PrizeTurned", spec := "prizeTurned", inPlace := ["slices.overlaps[int]"], unfollowed := true, recurses := true, apart := false, narrowed := true }
def PrizeTurnedUptoSaid : Prop := prizeTurnedUptoRow.holds Try.pinned (OpenSpec.upto prizeTurnedSpec)

end Rows
end Go.Proofs.Ytfaeokcbfnlgbaa
