/-
  No cell of these rows narrows 'for every input' (looked for: loops, veiled, ifaces, maps, wideKeys, modest, calm, conditions, laid).
  DERIVED. THE GIVEN ROWS OF THIS SEAT. 9 by the template 'for every input the law returns true; each argument reads behind the call as it read before'; 0 by the template 'total and deterministic' (their statements: YtocnkdkgajdejaaTotals.lean).
  GIVEN WITH THE SEED: the statements are not yours to turn. If you find one false, say at which input.
  Laid BY PROGRAM, IN A SANDBOX (cutbox-rows.mjs): the forced cells as the released guide's own fill.sh prints them over the translation ed49b4c964026ab2… (all of the seat's roots in one cut). By AI agents, Wed Nov 11 2026. No macro, syntax, notation, axiom, sorry.
-/
import Derived.Test.YtocnkdkgajdejaaChecked
import GoSem.Claim
import GoSem.ClaimJoined
import GoSem.ClaimMapViews
import Derived.JoinedTies
import Derived.KernelRfl
namespace Go.Proofs.Ytocnkdkgajdejaa
/- THE CELL 'sum', in the pinned program and in every row, IS THE sha256 OF THE DUMP (.gsa) THAT YtocnkdkgajdejaaProg.lean LOADS. Nothing in Lean hashes anything: it is a label: what it is worth is what the hold of that sum in a sandbox is worth. -/
noncomputable def Try.pinned : Pinned := { name := "ytocnkdkgajdejaa", sum := "ed49b4c964026ab2752135f8ee687bca64c7e18814c524e530390e3ef6072c8f", checked := Try.checked }
namespace Rows
def none {H : Type} : Left H := { results := [], args := [] }

/-- 'furrowworkslaw03.LotReads': WHATEVER THE INPUT: true; the input reads as it did. -/
def lotReadsSpec : ChangeSpec := { name := "lotReads", fn := fun _ => fun
  | [d1, d2, d3, d4] => { results := [.lit (.bool true)], args := [d1, d2, d3, d4] }
  | _ => none }
def lotReadsRow : OpenClaim := { program := "ytocnkdkgajdejaa", sum := "ed49b4c964026ab2752135f8ee687bca64c7e18814c524e530390e3ef6072c8f", func := "furrowworks/furrowworkslaw03.LotReads", spec := "lotReads", unfollowed := true, recurses := true, apart := false }
def LotReadsSaid : Prop := lotReadsRow.holds Try.pinned (OpenSpec.ofChange lotReadsSpec)

/-- ITS FALSE NEIGHBOUR: 'it returns false'. Refute it at one input. -/
def lotReadsWrong : ChangeSpec := { name := "lotReads", fn := fun _ => fun
  | [d1, d2, d3, d4] => { results := [.lit (.bool false)], args := [d1, d2, d3, d4] }
  | _ => none }
def LotReadsWrongFalsely : Prop := lotReadsRow.holds Try.pinned (OpenSpec.ofChange lotReadsWrong)

/-- 'furrowworkslaw03.LotLooks': WHATEVER THE INPUT: true; the input reads as it did. -/
def lotLooksSpec : ChangeSpec := { name := "lotLooks", fn := fun _ => fun
  | [d1, d2, d3, d4] => { results := [.lit (.bool true)], args := [d1, d2, d3, d4] }
  | _ => none }
def lotLooksRow : OpenClaim := { program := "ytocnkdkgajdejaa", sum := "ed49b4c964026ab2752135f8ee687bca64c7e18814c524e530390e3ef6072c8f", func := "furrowworks/furrowworkslaw03.LotLooks", spec := "lotLooks", unfollowed := true, recurses := true, apart := false }
def LotLooksSaid : Prop := lotLooksRow.holds Try.pinned (OpenSpec.ofChange lotLooksSpec)

/-- ITS FALSE NEIGHBOUR: 'it returns false'. Refute it at one input. -/
def lotLooksWrong : ChangeSpec := { name := "lotLooks", fn := fun _ => fun
  | [d1, d2, d3, d4] => { results := [.lit (.bool false)], args := [d1, d2, d3, d4] }
  | _ => none }
def LotLooksWrongFalsely : Prop := lotLooksRow.holds Try.pinned (OpenSpec.ofChange lotLooksWrong)

/-- 'furrowworkslaw03.LotLawful': WHATEVER THE INPUT: true; the input reads as it did. -/
def lotLawfulSpec : ChangeSpec := { name := "lotLawful", fn := fun _ => fun
  | [d1, d2] => { results := [.lit (.bool true)], args := [d1, d2] }
  | _ => none }
def lotLawfulRow : OpenClaim := { program := "ytocnkdkgajdejaa", sum := "ed49b4c964026ab2752135f8ee687bca64c7e18814c524e530390e3ef6072c8f", func := "furrowworks/furrowworkslaw03.LotLawful", spec := "lotLawful", unfollowed := true, recurses := true, apart := false }
def LotLawfulSaid : Prop := lotLawfulRow.holds Try.pinned (OpenSpec.ofChange lotLawfulSpec)

/-- ITS FALSE NEIGHBOUR: 'it returns false'. Refute it at one input. -/
def lotLawfulWrong : ChangeSpec := { name := "lotLawful", fn := fun _ => fun
  | [d1, d2] => { results := [.lit (.bool false)], args := [d1, d2] }
  | _ => none }
def LotLawfulWrongFalsely : Prop := lotLawfulRow.holds Try.pinned (OpenSpec.ofChange lotLawfulWrong)

/-- 'furrowworkslaw03.LotDraws': WHATEVER THE INPUT: true; the input reads as it did. -/
def lotDrawsSpec : ChangeSpec := { name := "lotDraws", fn := fun _ => fun
  | [d1, d2] => { results := [.lit (.bool true)], args := [d1, d2] }
  | _ => none }
def lotDrawsRow : OpenClaim := { program := "ytocnkdkgajdejaa", sum := "ed49b4c964026ab2752135f8ee687bca64c7e18814c524e530390e3ef6072c8f", func := "furrowworks/furrowworkslaw03.LotDraws", spec := "lotDraws", unfollowed := true, recurses := true, apart := false }
def LotDrawsSaid : Prop := lotDrawsRow.holds Try.pinned (OpenSpec.ofChange lotDrawsSpec)

/-- ITS FALSE NEIGHBOUR: 'it returns false'. Refute it at one input. -/
def lotDrawsWrong : ChangeSpec := { name := "lotDraws", fn := fun _ => fun
  | [d1, d2] => { results := [.lit (.bool false)], args := [d1, d2] }
  | _ => none }
def LotDrawsWrongFalsely : Prop := lotDrawsRow.holds Try.pinned (OpenSpec.ofChange lotDrawsWrong)

/-- 'furrowworkslaw03.LotOrder': WHATEVER THE INPUT: true; the input reads as it did. -/
def lotOrderSpec : ChangeSpec := { name := "lotOrder", fn := fun _ => fun
  | [d1, d2, d3] => { results := [.lit (.bool true)], args := [d1, d2, d3] }
  | _ => none }
def lotOrderRow : OpenClaim := { program := "ytocnkdkgajdejaa", sum := "ed49b4c964026ab2752135f8ee687bca64c7e18814c524e530390e3ef6072c8f", func := "furrowworks/furrowworkslaw03.LotOrder", spec := "lotOrder", unfollowed := true, recurses := true, apart := false }
def LotOrderSaid : Prop := lotOrderRow.holds Try.pinned (OpenSpec.ofChange lotOrderSpec)

/-- ITS FALSE NEIGHBOUR: 'it returns false'. Refute it at one input. -/
def lotOrderWrong : ChangeSpec := { name := "lotOrder", fn := fun _ => fun
  | [d1, d2, d3] => { results := [.lit (.bool false)], args := [d1, d2, d3] }
  | _ => none }
def LotOrderWrongFalsely : Prop := lotOrderRow.holds Try.pinned (OpenSpec.ofChange lotOrderWrong)

/-- 'furrowworkslaw03.LotOften': WHATEVER THE INPUT: true; the input reads as it did. -/
def lotOftenSpec : ChangeSpec := { name := "lotOften", fn := fun _ => fun
  | [d1, d2, d3] => { results := [.lit (.bool true)], args := [d1, d2, d3] }
  | _ => none }
def lotOftenRow : OpenClaim := { program := "ytocnkdkgajdejaa", sum := "ed49b4c964026ab2752135f8ee687bca64c7e18814c524e530390e3ef6072c8f", func := "furrowworks/furrowworkslaw03.LotOften", spec := "lotOften", unfollowed := true, recurses := true, apart := false }
def LotOftenSaid : Prop := lotOftenRow.holds Try.pinned (OpenSpec.ofChange lotOftenSpec)

/-- ITS FALSE NEIGHBOUR: 'it returns false'. Refute it at one input. -/
def lotOftenWrong : ChangeSpec := { name := "lotOften", fn := fun _ => fun
  | [d1, d2, d3] => { results := [.lit (.bool false)], args := [d1, d2, d3] }
  | _ => none }
def LotOftenWrongFalsely : Prop := lotOftenRow.holds Try.pinned (OpenSpec.ofChange lotOftenWrong)

/-- 'furrowworkslaw03.LotSwaps': WHATEVER THE INPUT: true; the input reads as it did. -/
def lotSwapsSpec : ChangeSpec := { name := "lotSwaps", fn := fun _ => fun
  | [d1, d2] => { results := [.lit (.bool true)], args := [d1, d2] }
  | _ => none }
def lotSwapsRow : OpenClaim := { program := "ytocnkdkgajdejaa", sum := "ed49b4c964026ab2752135f8ee687bca64c7e18814c524e530390e3ef6072c8f", func := "furrowworks/furrowworkslaw03.LotSwaps", spec := "lotSwaps", unfollowed := true, recurses := true, apart := false }
def LotSwapsSaid : Prop := lotSwapsRow.holds Try.pinned (OpenSpec.ofChange lotSwapsSpec)

/-- ITS FALSE NEIGHBOUR: 'it returns false'. Refute it at one input. -/
def lotSwapsWrong : ChangeSpec := { name := "lotSwaps", fn := fun _ => fun
  | [d1, d2] => { results := [.lit (.bool false)], args := [d1, d2] }
  | _ => none }
def LotSwapsWrongFalsely : Prop := lotSwapsRow.holds Try.pinned (OpenSpec.ofChange lotSwapsWrong)

/-- 'furrowworkslaw03.LotLeast': WHATEVER THE INPUT: true; the input reads as it did. -/
def lotLeastSpec : ChangeSpec := { name := "lotLeast", fn := fun _ => fun
  | [d1, d2] => { results := [.lit (.bool true)], args := [d1, d2] }
  | _ => none }
def lotLeastRow : OpenClaim := { program := "ytocnkdkgajdejaa", sum := "ed49b4c964026ab2752135f8ee687bca64c7e18814c524e530390e3ef6072c8f", func := "furrowworks/furrowworkslaw03.LotLeast", spec := "lotLeast", unfollowed := true, recurses := true, apart := false }
def LotLeastSaid : Prop := lotLeastRow.holds Try.pinned (OpenSpec.ofChange lotLeastSpec)

/-- ITS FALSE NEIGHBOUR: 'it returns false'. Refute it at one input. -/
def lotLeastWrong : ChangeSpec := { name := "lotLeast", fn := fun _ => fun
  | [d1, d2] => { results := [.lit (.bool false)], args := [d1, d2] }
  | _ => none }
def LotLeastWrongFalsely : Prop := lotLeastRow.holds Try.pinned (OpenSpec.ofChange lotLeastWrong)

/-- 'furrowworkslaw03.LotMore': WHATEVER THE INPUT: true; the input reads as it did. -/
def lotMoreSpec : ChangeSpec := { name := "lotMore", fn := fun _ => fun
  | [d1, d2, d3] => { results := [.lit (.bool true)], args := [d1, d2, d3] }
  | _ => none }
def lotMoreRow : OpenClaim := { program := "ytocnkdkgajdejaa", sum := "ed49b4c964026ab2752135f8ee687bca64c7e18814c524e530390e3ef6072c8f", func := "furrowworks/furrowworkslaw03.LotMore", spec := "lotMore", unfollowed := true, recurses := true, apart := false }
def LotMoreSaid : Prop := lotMoreRow.holds Try.pinned (OpenSpec.ofChange lotMoreSpec)

/-- ITS FALSE NEIGHBOUR: 'it returns false'. Refute it at one input. -/
def lotMoreWrong : ChangeSpec := { name := "lotMore", fn := fun _ => fun
  | [d1, d2, d3] => { results := [.lit (.bool false)], args := [d1, d2, d3] }
  | _ => none }
def LotMoreWrongFalsely : Prop := lotMoreRow.holds Try.pinned (OpenSpec.ofChange lotMoreWrong)

/- THE SECOND FORM. 'bulk': how many values and letters a reading holds, each counted each time it is reached (what is shared counts as often as it is met; a slice's spare places count too). A statement '..UptoSaid' is the law's where the arguments, and the package variables that the reading takes, are together of bulk at most 1048576: NARROWER than '..Said'. Prove '..Said' where nothing that the law and all that it calls make is longer than what came in: it says more and counts as full. Else prove '..UptoSaid'. A law counts once. -/
mutual
def uptoBulk {H : Type} : DataW H → Nat
  | .lit (.string bytes) => bytes.length + 1
  | .lit _ => 1
  | .nil => 1
  | .ptr d => uptoBulk d + 1
  | .slice elems spare => uptoBulkAll elems + uptoBulkAll spare + 1
  | .agg parts => uptoBulkAll parts + 1
  | .iface _ d => uptoBulk d + 1
  | .map entries => uptoBulkEntries entries + 1
  | .held _ => 1
def uptoBulkAll {H : Type} : List (DataW H) → Nat
  | [] => 0
  | d :: r => uptoBulk d + uptoBulkAll r
def uptoBulkEntries {H : Type} : List (Lit × DataW H) → Nat
  | [] => 0
  | x :: r => uptoBulkEntry x + uptoBulkEntries r
def uptoBulkEntry {H : Type} : Lit × DataW H → Nat
  | (.string bytes, d) => bytes.length + uptoBulk d + 1
  | (_, d) => uptoBulk d + 1
 end
def uptoSmall : (H : Type) → List (DataW H) → Bool := fun _ ds => decide (uptoBulkAll ds ≤ 1048576)
def OpenSpec.upto (s : _root_.Go.ChangeSpec) : _root_.Go.OpenSpec := { _root_.Go.OpenSpec.ofChange s with cond := some uptoSmall }

/-- 'furrowworkslaw03.LotReads', WHERE WHAT IT READS IS OF BULK AT MOST 1048576: true; the input reads as it did. -/
def lotReadsUptoRow : OpenClaim := { program := "ytocnkdkgajdejaa", sum := "ed49b4c964026ab2752135f8ee687bca64c7e18814c524e530390e3ef6072c8f", func := "furrowworks/furrowworkslaw03.LotReads", spec := "lotReads", unfollowed := true, recurses := true, apart := false, narrowed := true }
def LotReadsUptoSaid : Prop := lotReadsUptoRow.holds Try.pinned (OpenSpec.upto lotReadsSpec)

/-- 'furrowworkslaw03.LotLooks', WHERE WHAT IT READS IS OF BULK AT MOST 1048576: true; the input reads as it did. -/
def lotLooksUptoRow : OpenClaim := { program := "ytocnkdkgajdejaa", sum := "ed49b4c964026ab2752135f8ee687bca64c7e18814c524e530390e3ef6072c8f", func := "furrowworks/furrowworkslaw03.LotLooks", spec := "lotLooks", unfollowed := true, recurses := true, apart := false, narrowed := true }
def LotLooksUptoSaid : Prop := lotLooksUptoRow.holds Try.pinned (OpenSpec.upto lotLooksSpec)

/-- 'furrowworkslaw03.LotLawful', WHERE WHAT IT READS IS OF BULK AT MOST 1048576: true; the input reads as it did. -/
def lotLawfulUptoRow : OpenClaim := { program := "ytocnkdkgajdejaa", sum := "ed49b4c964026ab2752135f8ee687bca64c7e18814c524e530390e3ef6072c8f", func := "furrowworks/furrowworkslaw03.LotLawful", spec := "lotLawful", unfollowed := true, recurses := true, apart := false, narrowed := true }
def LotLawfulUptoSaid : Prop := lotLawfulUptoRow.holds Try.pinned (OpenSpec.upto lotLawfulSpec)

/-- 'furrowworkslaw03.LotDraws', WHERE WHAT IT READS IS OF BULK AT MOST 1048576: true; the input reads as it did. -/
def lotDrawsUptoRow : OpenClaim := { program := "ytocnkdkgajdejaa", sum := "ed49b4c964026ab2752135f8ee687bca64c7e18814c524e530390e3ef6072c8f", func := "furrowworks/furrowworkslaw03.LotDraws", spec := "lotDraws", unfollowed := true, recurses := true, apart := false, narrowed := true }
def LotDrawsUptoSaid : Prop := lotDrawsUptoRow.holds Try.pinned (OpenSpec.upto lotDrawsSpec)

/-- 'furrowworkslaw03.LotOrder', WHERE WHAT IT READS IS OF BULK AT MOST 1048576: true; the input reads as it did. -/
def lotOrderUptoRow : OpenClaim := { program := "ytocnkdkgajdejaa", sum := "ed49b4c964026ab2752135f8ee687bca64c7e18814c524e530390e3ef6072c8f", func := "furrowworks/furrowworkslaw03.LotOrder", spec := "lotOrder", unfollowed := true, recurses := true, apart := false, narrowed := true }
def LotOrderUptoSaid : Prop := lotOrderUptoRow.holds Try.pinned (OpenSpec.upto lotOrderSpec)

/-- 'furrowworkslaw03.LotOften', WHERE WHAT IT READS IS OF BULK AT MOST 1048576: true; the input reads as it did. -/
def lotOftenUptoRow : OpenClaim := { program := "ytocnkdkgajdejaa", sum := "ed49b4c964026ab2752135f8ee687bca64c7e18814c524e530390e3ef6072c8f", func := "furrowworks/furrowworkslaw03.LotOften", spec := "lotOften", unfollowed := true, recurses := true, apart := false, narrowed := true }
def LotOftenUptoSaid : Prop := lotOftenUptoRow.holds Try.pinned (OpenSpec.upto lotOftenSpec)

/-- 'furrowworkslaw03.LotSwaps', WHERE WHAT IT READS IS OF BULK AT MOST 1048576: true; the input reads as it did. -/
def lotSwapsUptoRow : OpenClaim := { program := "ytocnkdkgajdejaa", sum := "ed49b4c964026ab2752135f8ee687bca64c7e18814c524e530390e3ef6072c8f", func := "furrowworks/furrowworkslaw03.LotSwaps", spec := "lotSwaps", unfollowed := true, recurses := true, apart := false, narrowed := true }
def LotSwapsUptoSaid : Prop := lotSwapsUptoRow.holds Try.pinned (OpenSpec.upto lotSwapsSpec)

/-- 'furrowworkslaw03.LotLeast', WHERE WHAT IT READS IS OF BULK AT MOST 1048576: true; the input reads as it did. -/
def lotLeastUptoRow : OpenClaim := { program := "ytocnkdkgajdejaa", sum := "ed49b4c964026ab2752135f8ee687bca64c7e18814c524e530390e3ef6072c8f", func := "furrowworks/furrowworkslaw03.LotLeast", spec := "lotLeast", unfollowed := true, recurses := true, apart := false, narrowed := true }
def LotLeastUptoSaid : Prop := lotLeastUptoRow.holds Try.pinned (OpenSpec.upto lotLeastSpec)

/-- 'furrowworkslaw03.LotMore', WHERE WHAT IT READS IS OF BULK AT MOST 1048576: true; the input reads as it did. -/
def lotMoreUptoRow : OpenClaim := { program := "ytocnkdkgajdejaa", sum := "ed49b4c964026ab2752135f8ee687bca64c7e18814c524e530390e3ef6072c8f", func := "furrowworks/furrowworkslaw03.LotMore", spec := "lotMore", unfollowed := true, recurses := true, apart := false, narrowed := true }
def LotMoreUptoSaid : Prop := lotMoreUptoRow.holds Try.pinned (OpenSpec.upto lotMoreSpec)

end Rows
end Go.Proofs.Ytocnkdkgajdejaa
