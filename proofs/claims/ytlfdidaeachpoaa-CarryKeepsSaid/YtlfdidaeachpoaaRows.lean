/-
  No cell of these rows narrows 'for every input' (looked for: loops, veiled, ifaces, maps, wideKeys, modest, calm, conditions, laid).
  DERIVED. THE GIVEN ROWS OF THIS SEAT. 4 by the template 'for every input the law returns true; each argument reads behind the call as it read before'; 0 by the template 'total and deterministic' (their statements: YtlfdidaeachpoaaTotals.lean).
  GIVEN WITH THE SEED: the statements are not yours to turn. If you find one false, say at which input.
  Laid BY PROGRAM, IN A SANDBOX (cutbox-rows.mjs): the forced cells as the released guide's own fill.sh prints them over the translation a6c15a93687b1eb6… (all of the seat's roots in one cut). By AI agents, Wed Nov 11 2026. No macro, syntax, notation, axiom, sorry.
-/
import Derived.Test.YtlfdidaeachpoaaChecked
import GoSem.Claim
import GoSem.ClaimJoined
import GoSem.ClaimMapViews
import Derived.JoinedTies
import Derived.KernelRfl
namespace Go.Proofs.Ytlfdidaeachpoaa
/- THE CELL 'sum', in the pinned program and in every row, IS THE sha256 OF THE DUMP (.gsa) THAT YtlfdidaeachpoaaProg.lean LOADS. Nothing in Lean hashes anything: it is a label: what it is worth is what the hold of that sum in a sandbox is worth. -/
noncomputable def Try.pinned : Pinned := { name := "ytlfdidaeachpoaa", sum := "a6c15a93687b1eb6c294cf1fb1564d00a081a3dcfc50e6c951325270179cf59d", checked := Try.checked }
namespace Rows
def none {H : Type} : Left H := { results := [], args := [] }

/-- 'tombolalaw50.MergeLists': WHATEVER THE INPUT: true; the input reads as it did. -/
def mergeListsSpec : ChangeSpec := { name := "mergeLists", fn := fun _ => fun
  | [d1, d2, d3, d4] => { results := [.lit (.bool true)], args := [d1, d2, d3, d4] }
  | _ => none }
def mergeListsRow : OpenClaim := { program := "ytlfdidaeachpoaa", sum := "a6c15a93687b1eb6c294cf1fb1564d00a081a3dcfc50e6c951325270179cf59d", func := "tombola/tombolalaw50.MergeLists", spec := "mergeLists", unfollowed := true, recurses := true, apart := false }
def MergeListsSaid : Prop := mergeListsRow.holds Try.pinned (OpenSpec.ofChange mergeListsSpec)

/-- ITS FALSE NEIGHBOUR: 'it returns false'. Refute it at one input. -/
def mergeListsWrong : ChangeSpec := { name := "mergeLists", fn := fun _ => fun
  | [d1, d2, d3, d4] => { results := [.lit (.bool false)], args := [d1, d2, d3, d4] }
  | _ => none }
def MergeListsWrongFalsely : Prop := mergeListsRow.holds Try.pinned (OpenSpec.ofChange mergeListsWrong)

/-- 'tombolalaw50.MergeCounts': WHATEVER THE INPUT: true; the input reads as it did. -/
def mergeCountsSpec : ChangeSpec := { name := "mergeCounts", fn := fun _ => fun
  | [d1, d2] => { results := [.lit (.bool true)], args := [d1, d2] }
  | _ => none }
def mergeCountsRow : OpenClaim := { program := "ytlfdidaeachpoaa", sum := "a6c15a93687b1eb6c294cf1fb1564d00a081a3dcfc50e6c951325270179cf59d", func := "tombola/tombolalaw50.MergeCounts", spec := "mergeCounts", unfollowed := true, recurses := true, apart := false }
def MergeCountsSaid : Prop := mergeCountsRow.holds Try.pinned (OpenSpec.ofChange mergeCountsSpec)

/-- ITS FALSE NEIGHBOUR: 'it returns false'. Refute it at one input. -/
def mergeCountsWrong : ChangeSpec := { name := "mergeCounts", fn := fun _ => fun
  | [d1, d2] => { results := [.lit (.bool false)], args := [d1, d2] }
  | _ => none }
def MergeCountsWrongFalsely : Prop := mergeCountsRow.holds Try.pinned (OpenSpec.ofChange mergeCountsWrong)

/-- 'tombolalaw21.ScaleBrings': WHATEVER THE INPUT: true; the input reads as it did. -/
def scaleBringsSpec : ChangeSpec := { name := "scaleBrings", fn := fun _ => fun
  | [d] => { results := [.lit (.bool true)], args := [d] }
  | _ => none }
def scaleBringsRow : OpenClaim := { program := "ytlfdidaeachpoaa", sum := "a6c15a93687b1eb6c294cf1fb1564d00a081a3dcfc50e6c951325270179cf59d", func := "tombola/tombolalaw21.ScaleBrings", spec := "scaleBrings", apart := false }
def ScaleBringsSaid : Prop := scaleBringsRow.holds Try.pinned (OpenSpec.ofChange scaleBringsSpec)

/-- ITS FALSE NEIGHBOUR: 'it returns false'. Refute it at one input. -/
def scaleBringsWrong : ChangeSpec := { name := "scaleBrings", fn := fun _ => fun
  | [d] => { results := [.lit (.bool false)], args := [d] }
  | _ => none }
def ScaleBringsWrongFalsely : Prop := scaleBringsRow.holds Try.pinned (OpenSpec.ofChange scaleBringsWrong)

/-- 'tombolalaw19.CarryKeeps': WHATEVER THE INPUT: true; the input reads as it did. -/
def carryKeepsSpec : ChangeSpec := { name := "carryKeeps", fn := fun _ => fun
  | [d] => { results := [.lit (.bool true)], args := [d] }
  | _ => none }
def carryKeepsRow : OpenClaim := { program := "ytlfdidaeachpoaa", sum := "a6c15a93687b1eb6c294cf1fb1564d00a081a3dcfc50e6c951325270179cf59d", func := "tombola/tombolalaw19.CarryKeeps", spec := "carryKeeps", unfollowed := true, recurses := true, apart := false }
def CarryKeepsSaid : Prop := carryKeepsRow.holds Try.pinned (OpenSpec.ofChange carryKeepsSpec)

/-- ITS FALSE NEIGHBOUR: 'it returns false'. Refute it at one input. -/
def carryKeepsWrong : ChangeSpec := { name := "carryKeeps", fn := fun _ => fun
  | [d] => { results := [.lit (.bool false)], args := [d] }
  | _ => none }
def CarryKeepsWrongFalsely : Prop := carryKeepsRow.holds Try.pinned (OpenSpec.ofChange carryKeepsWrong)

/- THE SECOND FORM. 'bulk': how many values and letters a reading holds, each counted each time it is reached (what is shared counts as often as it is met; a slice's spare places count too). A statement '..UptoSaid' is the law's where the arguments, and the package variables that the reading takes, are together of bulk at most 1048576: NARROWER than '..Said'. Prove '..Said' where nothing that the law and all that it calls make is longer than what came in: it says more and counts as full. Else prove '..UptoSaid'. A law counts once. -/
mutual
def uptoBulk {H : Type} : DataW H → Nat
  | .lit (.string bytes) => bytes.length + 1
  | .lit _ => 1
  | .nil => 1
  | .ptr d => uptoBulk d + 1
  | .slice elems spare => uptoBulkAll elems + uptoBulkAll spare + 1
  | .agg parts => uptoBulkAll parts + 1
  | .iface _ d => uptoBulk d + 1
  | .map entries => uptoBulkEntries entries + 1
  | .held _ => 1
def uptoBulkAll {H : Type} : List (DataW H) → Nat
  | [] => 0
  | d :: r => uptoBulk d + uptoBulkAll r
def uptoBulkEntries {H : Type} : List (Lit × DataW H) → Nat
  | [] => 0
  | x :: r => uptoBulkEntry x + uptoBulkEntries r
def uptoBulkEntry {H : Type} : Lit × DataW H → Nat
  | (.string bytes, d) => bytes.length + uptoBulk d + 1
  | (_, d) => uptoBulk d + 1
 end
def uptoSmall : (H : Type) → List (DataW H) → Bool := fun _ ds => decide (uptoBulkAll ds ≤ 1048576)
def OpenSpec.upto (s : _root_.Go.ChangeSpec) : _root_.Go.OpenSpec := { _root_.Go.OpenSpec.ofChange s with cond := some uptoSmall }

/-- 'tombolalaw50.MergeLists', WHERE WHAT IT READS IS OF BULK AT MOST 1048576: true; the input reads as it did. -/
def mergeListsUptoRow : OpenClaim := { program := "ytlfdidaeachpoaa", sum := "a6c15a93687b1eb6c294cf1fb1564d00a081a3dcfc50e6c951325270179cf59d", func := "tombola/tombolalaw50.MergeLists", spec := "mergeLists", unfollowed := true, recurses := true, apart := false, narrowed := true }
def MergeListsUptoSaid : Prop := mergeListsUptoRow.holds Try.pinned (OpenSpec.upto mergeListsSpec)

/-- 'tombolalaw50.MergeCounts', WHERE WHAT IT READS IS OF BULK AT MOST 1048576: true; the input reads as it did. -/
def mergeCountsUptoRow : OpenClaim := { program := "ytlfdidaeachpoaa", sum := "a6c15a93687b1eb6c294cf1fb1564d00a081a3dcfc50e6c951325270179cf59d", func := "tombola/tombolalaw50.MergeCounts", spec := "mergeCounts", unfollowed := true, recurses := true, apart := false, narrowed := true }
def MergeCountsUptoSaid : Prop := mergeCountsUptoRow.holds Try.pinned (OpenSpec.upto mergeCountsSpec)

/-- 'tombolalaw21.ScaleBrings', WHERE WHAT IT READS IS OF BULK AT MOST 1048576: true; the input reads as it did. -/
def scaleBringsUptoRow : OpenClaim := { program := "ytlfdidaeachpoaa", sum := "a6c15a93687b1eb6c294cf1fb1564d00a081a3dcfc50e6c951325270179cf59d", func := "tombola/tombolalaw21.ScaleBrings", spec := "scaleBrings", apart := false, narrowed := true }
def ScaleBringsUptoSaid : Prop := scaleBringsUptoRow.holds Try.pinned (OpenSpec.upto scaleBringsSpec)

/-- 'tombolalaw19.CarryKeeps', WHERE WHAT IT READS IS OF BULK AT MOST 1048576: true; the input reads as it did. -/
def carryKeepsUptoRow : OpenClaim := { program := "ytlfdidaeachpoaa", sum := "a6c15a93687b1eb6c294cf1fb1564d00a081a3dcfc50e6c951325270179cf59d", func := "tombola/tombolalaw19.CarryKeeps", spec := "carryKeeps", unfollowed := true, recurses := true, apart := false, narrowed := true }
def CarryKeepsUptoSaid : Prop := carryKeepsUptoRow.holds Try.pinned (OpenSpec.upto carryKeepsSpec)

end Rows
end Go.Proofs.Ytlfdidaeachpoaa
