/-
  No cell of these rows narrows 'for every input' (looked for: loops, veiled, ifaces, maps, wideKeys, modest, calm, conditions, laid).
  DERIVED. THE GIVEN ROWS OF THIS SEAT. 9 by the template 'for every input the law returns true; each argument reads behind the call as it read before'; 0 by the template 'total and deterministic' (their statements: YtkgcbfbbcaajpaaTotals.lean).
  GIVEN WITH THE SEED: the statements are not yours to turn. If you find one false, say at which input.
  Laid BY PROGRAM, IN A SANDBOX (cutbox-rows.mjs): the forced cells as the released guide's own fill.sh prints them over the translation afc86cc6c9108e6c… (all of the seat's roots in one cut). By AI agents, Wed Nov 11 2026. No macro, syntax, notation, axiom, sorry.
-/
import Derived.Test.YtkgcbfbbcaajpaaChecked
import GoSem.Claim
import GoSem.ClaimJoined
import GoSem.ClaimMapViews
import Derived.JoinedTies
import Derived.KernelRfl
namespace Go.Proofs.Ytkgcbfbbcaajpaa
/- THE CELL 'sum', in the pinned program and in every row, IS THE sha256 OF THE DUMP (.gsa) THAT YtkgcbfbbcaajpaaProg.lean LOADS. Nothing in Lean hashes anything: it is a label: what it is worth is what the hold of that sum in a sandbox is worth. -/
noncomputable def Try.pinned : Pinned := { name := "ytkgcbfbbcaajpaa", sum := "afc86cc6c9108e6cde23e20f1cdfc25fe75c9cfec9406432c1ffa6012d3db0bf", checked := Try.checked }
namespace Rows
def none {H : Type} : Left H := { results := [], args := [] }

/-- 'furrowworkslaw10.RankReads': WHATEVER THE INPUT: true; the input reads as it did. -/
def rankReadsSpec : ChangeSpec := { name := "rankReads", fn := fun _ => fun
  | [d1, d2, d3] => { results := [.lit (.bool true)], args := [d1, d2, d3] }
  | _ => none }
def rankReadsRow : OpenClaim := { program := "ytkgcbfbbcaajpaa", sum := "afc86cc6c9108e6cde23e20f1cdfc25fe75c9cfec9406432c1ffa6012d3db0bf", func := "furrowworks/furrowworkslaw10.RankReads", spec := "rankReads", unfollowed := true, recurses := true, plainKeys := false, apart := false }
def RankReadsSaid : Prop := rankReadsRow.holds Try.pinned (OpenSpec.ofChange rankReadsSpec)

/-- ITS FALSE NEIGHBOUR: 'it returns false'. Refute it at one input. -/
def rankReadsWrong : ChangeSpec := { name := "rankReads", fn := fun _ => fun
  | [d1, d2, d3] => { results := [.lit (.bool false)], args := [d1, d2, d3] }
  | _ => none }
def RankReadsWrongFalsely : Prop := rankReadsRow.holds Try.pinned (OpenSpec.ofChange rankReadsWrong)

/-- 'furrowworkslaw10.RankLooks': WHATEVER THE INPUT: true; the input reads as it did. -/
def rankLooksSpec : ChangeSpec := { name := "rankLooks", fn := fun _ => fun
  | [d1, d2, d3, d4, d5] => { results := [.lit (.bool true)], args := [d1, d2, d3, d4, d5] }
  | _ => none }
def rankLooksRow : OpenClaim := { program := "ytkgcbfbbcaajpaa", sum := "afc86cc6c9108e6cde23e20f1cdfc25fe75c9cfec9406432c1ffa6012d3db0bf", func := "furrowworks/furrowworkslaw10.RankLooks", spec := "rankLooks", unfollowed := true, recurses := true, plainKeys := false, apart := false }
def RankLooksSaid : Prop := rankLooksRow.holds Try.pinned (OpenSpec.ofChange rankLooksSpec)

/-- ITS FALSE NEIGHBOUR: 'it returns false'. Refute it at one input. -/
def rankLooksWrong : ChangeSpec := { name := "rankLooks", fn := fun _ => fun
  | [d1, d2, d3, d4, d5] => { results := [.lit (.bool false)], args := [d1, d2, d3, d4, d5] }
  | _ => none }
def RankLooksWrongFalsely : Prop := rankLooksRow.holds Try.pinned (OpenSpec.ofChange rankLooksWrong)

/-- 'furrowworkslaw10.RankTrue': WHATEVER THE INPUT: true; the input reads as it did. -/
def rankTrueSpec : ChangeSpec := { name := "rankTrue", fn := fun _ => fun
  | [d1, d2] => { results := [.lit (.bool true)], args := [d1, d2] }
  | _ => none }
def rankTrueRow : OpenClaim := { program := "ytkgcbfbbcaajpaa", sum := "afc86cc6c9108e6cde23e20f1cdfc25fe75c9cfec9406432c1ffa6012d3db0bf", func := "furrowworks/furrowworkslaw10.RankTrue", spec := "rankTrue", unfollowed := true, recurses := true, plainKeys := false, apart := false }
def RankTrueSaid : Prop := rankTrueRow.holds Try.pinned (OpenSpec.ofChange rankTrueSpec)

/-- ITS FALSE NEIGHBOUR: 'it returns false'. Refute it at one input. -/
def rankTrueWrong : ChangeSpec := { name := "rankTrue", fn := fun _ => fun
  | [d1, d2] => { results := [.lit (.bool false)], args := [d1, d2] }
  | _ => none }
def RankTrueWrongFalsely : Prop := rankTrueRow.holds Try.pinned (OpenSpec.ofChange rankTrueWrong)

/-- 'furrowworkslaw10.RankEnds': WHATEVER THE INPUT: true; the input reads as it did. -/
def rankEndsSpec : ChangeSpec := { name := "rankEnds", fn := fun _ => fun
  | [d1, d2, d3] => { results := [.lit (.bool true)], args := [d1, d2, d3] }
  | _ => none }
def rankEndsRow : OpenClaim := { program := "ytkgcbfbbcaajpaa", sum := "afc86cc6c9108e6cde23e20f1cdfc25fe75c9cfec9406432c1ffa6012d3db0bf", func := "furrowworks/furrowworkslaw10.RankEnds", spec := "rankEnds", unfollowed := true, recurses := true, plainKeys := false, apart := false }
def RankEndsSaid : Prop := rankEndsRow.holds Try.pinned (OpenSpec.ofChange rankEndsSpec)

/-- ITS FALSE NEIGHBOUR: 'it returns false'. Refute it at one input. -/
def rankEndsWrong : ChangeSpec := { name := "rankEnds", fn := fun _ => fun
  | [d1, d2, d3] => { results := [.lit (.bool false)], args := [d1, d2, d3] }
  | _ => none }
def RankEndsWrongFalsely : Prop := rankEndsRow.holds Try.pinned (OpenSpec.ofChange rankEndsWrong)

/-- 'furrowworkslaw10.RankThird': WHATEVER THE INPUT: true; the input reads as it did. -/
def rankThirdSpec : ChangeSpec := { name := "rankThird", fn := fun _ => fun
  | [d] => { results := [.lit (.bool true)], args := [d] }
  | _ => none }
def rankThirdRow : OpenClaim := { program := "ytkgcbfbbcaajpaa", sum := "afc86cc6c9108e6cde23e20f1cdfc25fe75c9cfec9406432c1ffa6012d3db0bf", func := "furrowworks/furrowworkslaw10.RankThird", spec := "rankThird", unfollowed := true, recurses := true, plainKeys := false, apart := false }
def RankThirdSaid : Prop := rankThirdRow.holds Try.pinned (OpenSpec.ofChange rankThirdSpec)

/-- ITS FALSE NEIGHBOUR: 'it returns false'. Refute it at one input. -/
def rankThirdWrong : ChangeSpec := { name := "rankThird", fn := fun _ => fun
  | [d] => { results := [.lit (.bool false)], args := [d] }
  | _ => none }
def RankThirdWrongFalsely : Prop := rankThirdRow.holds Try.pinned (OpenSpec.ofChange rankThirdWrong)

/-- 'furrowworkslaw10.RankCould': WHATEVER THE INPUT: true; the input reads as it did. -/
def rankCouldSpec : ChangeSpec := { name := "rankCould", fn := fun _ => fun
  | [d1, d2, d3, d4, d5] => { results := [.lit (.bool true)], args := [d1, d2, d3, d4, d5] }
  | _ => none }
def rankCouldRow : OpenClaim := { program := "ytkgcbfbbcaajpaa", sum := "afc86cc6c9108e6cde23e20f1cdfc25fe75c9cfec9406432c1ffa6012d3db0bf", func := "furrowworks/furrowworkslaw10.RankCould", spec := "rankCould", unfollowed := true, recurses := true, plainKeys := false, apart := false }
def RankCouldSaid : Prop := rankCouldRow.holds Try.pinned (OpenSpec.ofChange rankCouldSpec)

/-- ITS FALSE NEIGHBOUR: 'it returns false'. Refute it at one input. -/
def rankCouldWrong : ChangeSpec := { name := "rankCould", fn := fun _ => fun
  | [d1, d2, d3, d4, d5] => { results := [.lit (.bool false)], args := [d1, d2, d3, d4, d5] }
  | _ => none }
def RankCouldWrongFalsely : Prop := rankCouldRow.holds Try.pinned (OpenSpec.ofChange rankCouldWrong)

/-- 'furrowworkslaw10.RankNeed': WHATEVER THE INPUT: true; the input reads as it did. -/
def rankNeedSpec : ChangeSpec := { name := "rankNeed", fn := fun _ => fun
  | [d1, d2, d3, d4, d5] => { results := [.lit (.bool true)], args := [d1, d2, d3, d4, d5] }
  | _ => none }
def rankNeedRow : OpenClaim := { program := "ytkgcbfbbcaajpaa", sum := "afc86cc6c9108e6cde23e20f1cdfc25fe75c9cfec9406432c1ffa6012d3db0bf", func := "furrowworks/furrowworkslaw10.RankNeed", spec := "rankNeed", unfollowed := true, recurses := true, plainKeys := false, apart := false }
def RankNeedSaid : Prop := rankNeedRow.holds Try.pinned (OpenSpec.ofChange rankNeedSpec)

/-- ITS FALSE NEIGHBOUR: 'it returns false'. Refute it at one input. -/
def rankNeedWrong : ChangeSpec := { name := "rankNeed", fn := fun _ => fun
  | [d1, d2, d3, d4, d5] => { results := [.lit (.bool false)], args := [d1, d2, d3, d4, d5] }
  | _ => none }
def RankNeedWrongFalsely : Prop := rankNeedRow.holds Try.pinned (OpenSpec.ofChange rankNeedWrong)

/-- 'furrowworkslaw10.RankMore': WHATEVER THE INPUT: true; the input reads as it did. -/
def rankMoreSpec : ChangeSpec := { name := "rankMore", fn := fun _ => fun
  | [d1, d2, d3, d4] => { results := [.lit (.bool true)], args := [d1, d2, d3, d4] }
  | _ => none }
def rankMoreRow : OpenClaim := { program := "ytkgcbfbbcaajpaa", sum := "afc86cc6c9108e6cde23e20f1cdfc25fe75c9cfec9406432c1ffa6012d3db0bf", func := "furrowworks/furrowworkslaw10.RankMore", spec := "rankMore", unfollowed := true, recurses := true, plainKeys := false, apart := false }
def RankMoreSaid : Prop := rankMoreRow.holds Try.pinned (OpenSpec.ofChange rankMoreSpec)

/-- ITS FALSE NEIGHBOUR: 'it returns false'. Refute it at one input. -/
def rankMoreWrong : ChangeSpec := { name := "rankMore", fn := fun _ => fun
  | [d1, d2, d3, d4] => { results := [.lit (.bool false)], args := [d1, d2, d3, d4] }
  | _ => none }
def RankMoreWrongFalsely : Prop := rankMoreRow.holds Try.pinned (OpenSpec.ofChange rankMoreWrong)

/-- 'furrowworkslaw10.RankOrder': WHATEVER THE INPUT: true; the input reads as it did. -/
def rankOrderSpec : ChangeSpec := { name := "rankOrder", fn := fun _ => fun
  | [d1, d2] => { results := [.lit (.bool true)], args := [d1, d2] }
  | _ => none }
def rankOrderRow : OpenClaim := { program := "ytkgcbfbbcaajpaa", sum := "afc86cc6c9108e6cde23e20f1cdfc25fe75c9cfec9406432c1ffa6012d3db0bf", func := "furrowworks/furrowworkslaw10.RankOrder", spec := "rankOrder", unfollowed := true, recurses := true, plainKeys := false, apart := false }
def RankOrderSaid : Prop := rankOrderRow.holds Try.pinned (OpenSpec.ofChange rankOrderSpec)

/-- ITS FALSE NEIGHBOUR: 'it returns false'. Refute it at one input. -/
def rankOrderWrong : ChangeSpec := { name := "rankOrder", fn := fun _ => fun
  | [d1, d2] => { results := [.lit (.bool false)], args := [d1, d2] }
  | _ => none }
def RankOrderWrongFalsely : Prop := rankOrderRow.holds Try.pinned (OpenSpec.ofChange rankOrderWrong)

/- THE SECOND FORM. 'bulk': how many values and letters a reading holds, each counted each time it is reached (what is shared counts as often as it is met; a slice's spare places count too). A statement '..UptoSaid' is the law's where the arguments, and the package variables that the reading takes, are together of bulk at most 1048576: NARROWER than '..Said'. Prove '..Said' where nothing that the law and all that it calls make is longer than what came in: it says more and counts as full. Else prove '..UptoSaid'. A law counts once. -/
mutual
def uptoBulk {H : Type} : DataW H → Nat
  | .lit (.string bytes) => bytes.length + 1
  | .lit _ => 1
  | .nil => 1
  | .ptr d => uptoBulk d + 1
  | .slice elems spare => uptoBulkAll elems + uptoBulkAll spare + 1
  | .agg parts => uptoBulkAll parts + 1
  | .iface _ d => uptoBulk d + 1
  | .map entries => uptoBulkEntries entries + 1
  | .held _ => 1
def uptoBulkAll {H : Type} : List (DataW H) → Nat
  | [] => 0
  | d :: r => uptoBulk d + uptoBulkAll r
def uptoBulkEntries {H : Type} : List (Lit × DataW H) → Nat
  | [] => 0
  | x :: r => uptoBulkEntry x + uptoBulkEntries r
def uptoBulkEntry {H : Type} : Lit × DataW H → Nat
  | (.string bytes, d) => bytes.length + uptoBulk d + 1
  | (_, d) => uptoBulk d + 1
 end
def uptoSmall : (H : Type) → List (DataW H) → Bool := fun _ ds => decide (uptoBulkAll ds ≤ 1048576)
def OpenSpec.upto (s : _root_.Go.ChangeSpec) : _root_.Go.OpenSpec := { _root_.Go.OpenSpec.ofChange s with cond := some uptoSmall }

/-- 'furrowworkslaw10.RankReads', WHERE WHAT IT READS IS OF BULK AT MOST 1048576: true; the input reads as it did. -/
def rankReadsUptoRow : OpenClaim := { program := "ytkgcbfbbcaajpaa", sum := "afc86cc6c9108e6cde23e20f1cdfc25fe75c9cfec9406432c1ffa6012d3db0bf", func := "furrowworks/furrowworkslaw10.RankReads", spec := "rankReads", unfollowed := true, recurses := true, plainKeys := false, apart := false, narrowed := true }
def RankReadsUptoSaid : Prop := rankReadsUptoRow.holds Try.pinned (OpenSpec.upto rankReadsSpec)

/-- 'furrowworkslaw10.RankLooks', WHERE WHAT IT READS IS OF BULK AT MOST 1048576: true; the input reads as it did. -/
def rankLooksUptoRow : OpenClaim := { program := "ytkgcbfbbcaajpaa", sum := "afc86cc6c9108e6cde23e20f1cdfc25fe75c9cfec9406432c1ffa6012d3db0bf", func := "furrowworks/furrowworkslaw10.RankLooks", spec := "rankLooks", unfollowed := true, recurses := true, plainKeys := false, apart := false, narrowed := true }
def RankLooksUptoSaid : Prop := rankLooksUptoRow.holds Try.pinned (OpenSpec.upto rankLooksSpec)

/-- 'furrowworkslaw10.RankTrue', WHERE WHAT IT READS IS OF BULK AT MOST 1048576: true; the input reads as it did. -/
def rankTrueUptoRow : OpenClaim := { program := "ytkgcbfbbcaajpaa", sum := "afc86cc6c9108e6cde23e20f1cdfc25fe75c9cfec9406432c1ffa6012d3db0bf", func := "furrowworks/furrowworkslaw10.RankTrue", spec := "rankTrue", unfollowed := true, recurses := true, plainKeys := false, apart := false, narrowed := true }
def RankTrueUptoSaid : Prop := rankTrueUptoRow.holds Try.pinned (OpenSpec.upto rankTrueSpec)

/-- 'furrowworkslaw10.RankEnds', WHERE WHAT IT READS IS OF BULK AT MOST 1048576: true; the input reads as it did. -/
def rankEndsUptoRow : OpenClaim := { program := "ytkgcbfbbcaajpaa", sum := "afc86cc6c9108e6cde23e20f1cdfc25fe75c9cfec9406432c1ffa6012d3db0bf", func := "furrowworks/furrowworkslaw10.RankEnds", spec := "rankEnds", unfollowed := true, recurses := true, plainKeys := false, apart := false, narrowed := true }
def RankEndsUptoSaid : Prop := rankEndsUptoRow.holds Try.pinned (OpenSpec.upto rankEndsSpec)

/-- 'furrowworkslaw10.RankThird', WHERE WHAT IT READS IS OF BULK AT MOST 1048576: true; the input reads as it did. -/
def rankThirdUptoRow : OpenClaim := { program := "ytkgcbfbbcaajpaa", sum := "afc86cc6c9108e6cde23e20f1cdfc25fe75c9cfec9406432c1ffa6012d3db0bf", func := "furrowworks/furrowworkslaw10.RankThird", spec := "rankThird", unfollowed := true, recurses := true, plainKeys := false, apart := false, narrowed := true }
def RankThirdUptoSaid : Prop := rankThirdUptoRow.holds Try.pinned (OpenSpec.upto rankThirdSpec)

/-- 'furrowworkslaw10.RankCould', WHERE WHAT IT READS IS OF BULK AT MOST 1048576: true; the input reads as it did. -/
def rankCouldUptoRow : OpenClaim := { program := "ytkgcbfbbcaajpaa", sum := "afc86cc6c9108e6cde23e20f1cdfc25fe75c9cfec9406432c1ffa6012d3db0bf", func := "furrowworks/furrowworkslaw10.RankCould", spec := "rankCould", unfollowed := true, recurses := true, plainKeys := false, apart := false, narrowed := true }
def RankCouldUptoSaid : Prop := rankCouldUptoRow.holds Try.pinned (OpenSpec.upto rankCouldSpec)

/-- 'furrowworkslaw10.RankNeed', WHERE WHAT IT READS IS OF BULK AT MOST 1048576: true; the input reads as it did. -/
def rankNeedUptoRow : OpenClaim := { program := "ytkgcbfbbcaajpaa", sum := "afc86cc6c9108e6cde23e20f1cdfc25fe75c9cfec9406432c1ffa6012d3db0bf", func := "furrowworks/furrowworkslaw10.RankNeed", spec := "rankNeed", unfollowed := true, recurses := true, plainKeys := false, apart := false, narrowed := true }
def RankNeedUptoSaid : Prop := rankNeedUptoRow.holds Try.pinned (OpenSpec.upto rankNeedSpec)

/-- 'furrowworkslaw10.RankMore', WHERE WHAT IT READS IS OF BULK AT MOST 1048576: true; the input reads as it did. -/
def rankMoreUptoRow : OpenClaim := { program := "ytkgcbfbbcaajpaa", sum := "afc86cc6c9108e6cde23e20f1cdfc25fe75c9cfec9406432c1ffa6012d3db0bf", func := "furrowworks/furrowworkslaw10.RankMore", spec := "rankMore", unfollowed := true, recurses := true, plainKeys := false, apart := false, narrowed := true }
def RankMoreUptoSaid : Prop := rankMoreUptoRow.holds Try.pinned (OpenSpec.upto rankMoreSpec)

/-- 'furrowworkslaw10.RankOrder', WHERE WHAT IT READS IS OF BULK AT MOST 1048576: true; the input reads as it did. -/
def rankOrderUptoRow : OpenClaim := { program := "ytkgcbfbbcaajpaa", sum := "afc86cc6c9108e6cde23e20f1cdfc25fe75c9cfec9406432c1ffa6012d3db0bf", func := "furrowworks/furrowworkslaw10.RankOrder", spec := "rankOrder", unfollowed := true, recurses := true, plainKeys := false, apart := false, narrowed := true }
def RankOrderUptoSaid : Prop := rankOrderUptoRow.holds Try.pinned (OpenSpec.upto rankOrderSpec)

end Rows
end Go.Proofs.Ytkgcbfbbcaajpaa
