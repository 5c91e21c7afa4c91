/-
  No cell of these rows narrows 'for every input' (looked for: loops, veiled, ifaces, maps, wideKeys, modest, calm, conditions, laid).
  DERIVED. THE GIVEN ROWS OF THIS SEAT. 8 by the template 'for every input the law returns true; each argument reads behind the call as it read before'; 0 by the template 'total and deterministic' (their statements: YtlfdidaeachpoaaGreatTotals.lean).
  GIVEN WITH THE SEED: the statements are not yours to turn. If you find one false, say at which input.
  Laid BY PROGRAM, IN A SANDBOX (cutbox-rows.mjs): the forced cells as the released guide's own fill.sh prints them over the translation 18ae03be7d4f2877… (all of the seat's roots in one cut). By AI agents, Wed Nov 11 2026. No macro, syntax, notation, axiom, sorry.
-/
import Derived.Test.YtlfdidaeachpoaaGreatChecked
import GoSem.Claim
import GoSem.ClaimJoined
import GoSem.ClaimMapViews
import Derived.JoinedTies
import Derived.KernelRfl
namespace Go.Proofs.YtlfdidaeachpoaaGreat
/- THE CELL 'sum', in the pinned program and in every row, IS THE sha256 OF THE DUMP (.gsa) THAT YtlfdidaeachpoaaGreatProg.lean LOADS. Nothing in Lean hashes anything: it is a label: what it is worth is what the hold of that sum in a sandbox is worth. -/
noncomputable def Tryz.pinned : Pinned := { name := "ytlfdidaeachpoaagreat", sum := "18ae03be7d4f2877d3f794d99854bd353a5b2f59717fb473c7c85baf27ffbd86", checked := Tryz.checked }
namespace Rows
def none {H : Type} : Left H := { results := [], args := [] }

/-- 'tombolalaw18.WorthTells': WHATEVER THE INPUT: true; the input reads as it did. -/
def worthTellsSpec : ChangeSpec := { name := "worthTells", fn := fun _ => fun
  | [d] => { results := [.lit (.bool true)], args := [d] }
  | _ => none }
def worthTellsRow : OpenClaim := { program := "ytlfdidaeachpoaagreat", sum := "18ae03be7d4f2877d3f794d99854bd353a5b2f59717fb473c7c85baf27ffbd86", func := "tombola/tombolalaw18.WorthTells", spec := "worthTells", unfollowed := true, recurses := true, apart := false }
def WorthTellsSaid : Prop := worthTellsRow.holds Tryz.pinned (OpenSpec.ofChange worthTellsSpec)

/-- ITS FALSE NEIGHBOUR: 'it returns false'. Refute it at one input. -/
def worthTellsWrong : ChangeSpec := { name := "worthTells", fn := fun _ => fun
  | [d] => { results := [.lit (.bool false)], args := [d] }
  | _ => none }
def WorthTellsWrongFalsely : Prop := worthTellsRow.holds Tryz.pinned (OpenSpec.ofChange worthTellsWrong)

/-- 'tombolalaw18.WorthKeeps': WHATEVER THE INPUT: true; the input reads as it did. -/
def worthKeepsSpec : ChangeSpec := { name := "worthKeeps", fn := fun _ => fun
  | [d] => { results := [.lit (.bool true)], args := [d] }
  | _ => none }
def worthKeepsRow : OpenClaim := { program := "ytlfdidaeachpoaagreat", sum := "18ae03be7d4f2877d3f794d99854bd353a5b2f59717fb473c7c85baf27ffbd86", func := "tombola/tombolalaw18.WorthKeeps", spec := "worthKeeps", unfollowed := true, recurses := true, apart := false }
def WorthKeepsSaid : Prop := worthKeepsRow.holds Tryz.pinned (OpenSpec.ofChange worthKeepsSpec)

/-- ITS FALSE NEIGHBOUR: 'it returns false'. Refute it at one input. -/
def worthKeepsWrong : ChangeSpec := { name := "worthKeeps", fn := fun _ => fun
  | [d] => { results := [.lit (.bool false)], args := [d] }
  | _ => none }
def WorthKeepsWrongFalsely : Prop := worthKeepsRow.holds Tryz.pinned (OpenSpec.ofChange worthKeepsWrong)

/-- 'tombolalaw19.CarryTells': WHATEVER THE INPUT: true; the input reads as it did. -/
def carryTellsSpec : ChangeSpec := { name := "carryTells", fn := fun _ => fun
  | [d1, d2] => { results := [.lit (.bool true)], args := [d1, d2] }
  | _ => none }
def carryTellsRow : OpenClaim := { program := "ytlfdidaeachpoaagreat", sum := "18ae03be7d4f2877d3f794d99854bd353a5b2f59717fb473c7c85baf27ffbd86", func := "tombola/tombolalaw19.CarryTells", spec := "carryTells", unfollowed := true, recurses := true, apart := false }
def CarryTellsSaid : Prop := carryTellsRow.holds Tryz.pinned (OpenSpec.ofChange carryTellsSpec)

/-- ITS FALSE NEIGHBOUR: 'it returns false'. Refute it at one input. -/
def carryTellsWrong : ChangeSpec := { name := "carryTells", fn := fun _ => fun
  | [d1, d2] => { results := [.lit (.bool false)], args := [d1, d2] }
  | _ => none }
def CarryTellsWrongFalsely : Prop := carryTellsRow.holds Tryz.pinned (OpenSpec.ofChange carryTellsWrong)

/-- 'tombolalaw21.ScaleOf': WHATEVER THE INPUT: true; the input reads as it did. -/
def scaleOfSpec : ChangeSpec := { name := "scaleOf", fn := fun _ => fun
  | [d] => { results := [.lit (.bool true)], args := [d] }
  | _ => none }
def scaleOfRow : OpenClaim := { program := "ytlfdidaeachpoaagreat", sum := "18ae03be7d4f2877d3f794d99854bd353a5b2f59717fb473c7c85baf27ffbd86", func := "tombola/tombolalaw21.ScaleOf", spec := "scaleOf", unfollowed := true, recurses := true, apart := false }
def ScaleOfSaid : Prop := scaleOfRow.holds Tryz.pinned (OpenSpec.ofChange scaleOfSpec)

/-- ITS FALSE NEIGHBOUR: 'it returns false'. Refute it at one input. -/
def scaleOfWrong : ChangeSpec := { name := "scaleOf", fn := fun _ => fun
  | [d] => { results := [.lit (.bool false)], args := [d] }
  | _ => none }
def ScaleOfWrongFalsely : Prop := scaleOfRow.holds Tryz.pinned (OpenSpec.ofChange scaleOfWrong)

/-- 'tombolalaw22.LotteryDraws': WHATEVER THE INPUT: true; the input reads as it did. -/
def lotteryDrawsSpec : ChangeSpec := { name := "lotteryDraws", fn := fun _ => fun
  | [d1, d2, d3] => { results := [.lit (.bool true)], args := [d1, d2, d3] }
  | _ => none }
def lotteryDrawsRow : OpenClaim := { program := "ytlfdidaeachpoaagreat", sum := "18ae03be7d4f2877d3f794d99854bd353a5b2f59717fb473c7c85baf27ffbd86", func := "tombola/tombolalaw22.LotteryDraws", spec := "lotteryDraws", unfollowed := true, recurses := true, apart := false }
def LotteryDrawsSaid : Prop := lotteryDrawsRow.holds Tryz.pinned (OpenSpec.ofChange lotteryDrawsSpec)

/-- ITS FALSE NEIGHBOUR: 'it returns false'. Refute it at one input. -/
def lotteryDrawsWrong : ChangeSpec := { name := "lotteryDraws", fn := fun _ => fun
  | [d1, d2, d3] => { results := [.lit (.bool false)], args := [d1, d2, d3] }
  | _ => none }
def LotteryDrawsWrongFalsely : Prop := lotteryDrawsRow.holds Tryz.pinned (OpenSpec.ofChange lotteryDrawsWrong)

/-- 'tombolalaw22.LotteryTells': WHATEVER THE INPUT: true; the input reads as it did. -/
def lotteryTellsSpec : ChangeSpec := { name := "lotteryTells", fn := fun _ => fun
  | [d1, d2, d3] => { results := [.lit (.bool true)], args := [d1, d2, d3] }
  | _ => none }
def lotteryTellsRow : OpenClaim := { program := "ytlfdidaeachpoaagreat", sum := "18ae03be7d4f2877d3f794d99854bd353a5b2f59717fb473c7c85baf27ffbd86", func := "tombola/tombolalaw22.LotteryTells", spec := "lotteryTells", unfollowed := true, recurses := true, apart := false }
def LotteryTellsSaid : Prop := lotteryTellsRow.holds Tryz.pinned (OpenSpec.ofChange lotteryTellsSpec)

/-- ITS FALSE NEIGHBOUR: 'it returns false'. Refute it at one input. -/
def lotteryTellsWrong : ChangeSpec := { name := "lotteryTells", fn := fun _ => fun
  | [d1, d2, d3] => { results := [.lit (.bool false)], args := [d1, d2, d3] }
  | _ => none }
def LotteryTellsWrongFalsely : Prop := lotteryTellsRow.holds Tryz.pinned (OpenSpec.ofChange lotteryTellsWrong)

/-- 'tombolalaw22.LotteryCounts': WHATEVER THE INPUT: true; the input reads as it did. -/
def lotteryCountsSpec : ChangeSpec := { name := "lotteryCounts", fn := fun _ => fun
  | [d] => { results := [.lit (.bool true)], args := [d] }
  | _ => none }
def lotteryCountsRow : OpenClaim := { program := "ytlfdidaeachpoaagreat", sum := "18ae03be7d4f2877d3f794d99854bd353a5b2f59717fb473c7c85baf27ffbd86", func := "tombola/tombolalaw22.LotteryCounts", spec := "lotteryCounts", unfollowed := true, recurses := true, apart := false }
def LotteryCountsSaid : Prop := lotteryCountsRow.holds Tryz.pinned (OpenSpec.ofChange lotteryCountsSpec)

/-- ITS FALSE NEIGHBOUR: 'it returns false'. Refute it at one input. -/
def lotteryCountsWrong : ChangeSpec := { name := "lotteryCounts", fn := fun _ => fun
  | [d] => { results := [.lit (.bool false)], args := [d] }
  | _ => none }
def LotteryCountsWrongFalsely : Prop := lotteryCountsRow.holds Tryz.pinned (OpenSpec.ofChange lotteryCountsWrong)

/-- 'tombolalaw38.OddsTell': WHATEVER THE INPUT: true; the input reads as it did. -/
def oddsTellSpec : ChangeSpec := { name := "oddsTell", fn := fun _ => fun
  | [d1, d2, d3, d4] => { results := [.lit (.bool true)], args := [d1, d2, d3, d4] }
  | _ => none }
def oddsTellRow : OpenClaim := { program := "ytlfdidaeachpoaagreat", sum := "18ae03be7d4f2877d3f794d99854bd353a5b2f59717fb473c7c85baf27ffbd86", func := "tombola/tombolalaw38.OddsTell", spec := "oddsTell", unfollowed := true, recurses := true, apart := false }
def OddsTellSaid : Prop := oddsTellRow.holds Tryz.pinned (OpenSpec.ofChange oddsTellSpec)

/-- ITS FALSE NEIGHBOUR: 'it returns false'. Refute it at one input. -/
def oddsTellWrong : ChangeSpec := { name := "oddsTell", fn := fun _ => fun
  | [d1, d2, d3, d4] => { results := [.lit (.bool false)], args := [d1, d2, d3, d4] }
  | _ => none }
def OddsTellWrongFalsely : Prop := oddsTellRow.holds Tryz.pinned (OpenSpec.ofChange oddsTellWrong)

/- THE SECOND FORM. 'bulk': how many values and letters a reading holds, each counted each time it is reached (what is shared counts as often as it is met; a slice's spare places count too). A statement '..UptoSaid' is the law's where the arguments, and the package variables that the reading takes, are together of bulk at most 1048576: NARROWER than '..Said'. Prove '..Said' where nothing that the law and all that it calls make is longer than what came in: it says more and counts as full. Else prove '..UptoSaid'. A law counts once. -/
mutual
def uptoBulk {H : Type} : DataW H → Nat
  | .lit (.string bytes) => bytes.length + 1
  | .lit _ => 1
  | .nil => 1
  | .ptr d => uptoBulk d + 1
  | .slice elems spare => uptoBulkAll elems + uptoBulkAll spare + 1
  | .agg parts => uptoBulkAll parts + 1
  | .iface _ d => uptoBulk d + 1
  | .map entries => uptoBulkEntries entries + 1
  | .held _ => 1
def uptoBulkAll {H : Type} : List (DataW H) → Nat
  | [] => 0
  | d :: r => uptoBulk d + uptoBulkAll r
def uptoBulkEntries {H : Type} : List (Lit × DataW H) → Nat
  | [] => 0
  | x :: r => uptoBulkEntry x + uptoBulkEntries r
def uptoBulkEntry {H : Type} : Lit × DataW H → Nat
  | (.string bytes, d) => bytes.length + uptoBulk d + 1
  | (_, d) => uptoBulk d + 1
 end
def uptoSmall : (H : Type) → List (DataW H) → Bool := fun _ ds => decide (uptoBulkAll ds ≤ 1048576)
def OpenSpec.upto (s : _root_.Go.ChangeSpec) : _root_.Go.OpenSpec := { _root_.Go.OpenSpec.ofChange s with cond := some uptoSmall }

/-- 'tombolalaw18.WorthTells', WHERE WHAT IT READS IS OF BULK AT MOST 1048576: true; the input reads as it did. -/
def worthTellsUptoRow : OpenClaim := { program := "ytlfdidaeachpoaagreat", sum := "18ae03be7d4f2877d3f794d99854bd353a5b2f59717fb473c7c85baf27ffbd86", func := "tombola/tombolalaw18.WorthTells", spec := "worthTells", unfollowed := true, recurses := true, apart := false, narrowed := true }
def WorthTellsUptoSaid : Prop := worthTellsUptoRow.holds Tryz.pinned (OpenSpec.upto worthTellsSpec)

/-- 'tombolalaw18.WorthKeeps', WHERE WHAT IT READS IS OF BULK AT MOST 1048576: true; the input reads as it did. -/
def worthKeepsUptoRow : OpenClaim := { program := "ytlfdidaeachpoaagreat", sum := "18ae03be7d4f2877d3f794d99854bd353a5b2f59717fb473c7c85baf27ffbd86", func := "tombola/tombolalaw18.WorthKeeps", spec := "worthKeeps", unfollowed := true, recurses := true, apart := false, narrowed := true }
def WorthKeepsUptoSaid : Prop := worthKeepsUptoRow.holds Tryz.pinned (OpenSpec.upto worthKeepsSpec)

/-- 'tombolalaw19.CarryTells', WHERE WHAT IT READS IS OF BULK AT MOST 1048576: true; the input reads as it did. -/
def carryTellsUptoRow : OpenClaim := { program := "ytlfdidaeachpoaagreat", sum := "18ae03be7d4f2877d3f794d99854bd353a5b2f59717fb473c7c85baf27ffbd86", func := "tombola/tombolalaw19.CarryTells", spec := "carryTells", unfollowed := true, recurses := true, apart := false, narrowed := true }
def CarryTellsUptoSaid : Prop := carryTellsUptoRow.holds Tryz.pinned (OpenSpec.upto carryTellsSpec)

/-- 'tombolalaw21.ScaleOf', WHERE WHAT IT READS IS OF BULK AT MOST 1048576: true; the input reads as it did. -/
def scaleOfUptoRow : OpenClaim := { program := "ytlfdidaeachpoaagreat", sum := "18ae03be7d4f2877d3f794d99854bd353a5b2f59717fb473c7c85baf27ffbd86", func := "tombola/tombolalaw21.ScaleOf", spec := "scaleOf", unfollowed := true, recurses := true, apart := false, narrowed := true }
def ScaleOfUptoSaid : Prop := scaleOfUptoRow.holds Tryz.pinned (OpenSpec.upto scaleOfSpec)

/-- 'tombolalaw22.LotteryDraws', WHERE WHAT IT READS IS OF BULK AT MOST 1048576: true; the input reads as it did. -/
def lotteryDrawsUptoRow : OpenClaim := { program := "ytlfdidaeachpoaagreat", sum := "18ae03be7d4f2877d3f794d99854bd353a5b2f59717fb473c7c85baf27ffbd86", func := "tombola/tombolalaw22.LotteryDraws", spec := "lotteryDraws", unfollowed := true, recurses := true, apart := false, narrowed := true }
def LotteryDrawsUptoSaid : Prop := lotteryDrawsUptoRow.holds Tryz.pinned (OpenSpec.upto lotteryDrawsSpec)

/-- 'tombolalaw22.LotteryTells', WHERE WHAT IT READS IS OF BULK AT MOST 1048576: true; the input reads as it did. -/
def lotteryTellsUptoRow : OpenClaim := { program := "ytlfdidaeachpoaagreat", sum := "18ae03be7d4f2877d3f794d99854bd353a5b2f59717fb473c7c85baf27ffbd86", func := "tombola/tombolalaw22.LotteryTells", spec := "lotteryTells", unfollowed := true, recurses := true, apart := false, narrowed := true }
def LotteryTellsUptoSaid : Prop := lotteryTellsUptoRow.holds Tryz.pinned (OpenSpec.upto lotteryTellsSpec)

/-- 'tombolalaw22.LotteryCounts', WHERE WHAT IT READS IS OF BULK AT MOST 1048576: true; the input reads as it did. -/
def lotteryCountsUptoRow : OpenClaim := { program := "ytlfdidaeachpoaagreat", sum := "18ae03be7d4f2877d3f794d99854bd353a5b2f59717fb473c7c85baf27ffbd86", func := "tombola/tombolalaw22.LotteryCounts", spec := "lotteryCounts", unfollowed := true, recurses := true, apart := false, narrowed := true }
def LotteryCountsUptoSaid : Prop := lotteryCountsUptoRow.holds Tryz.pinned (OpenSpec.upto lotteryCountsSpec)

/-- 'tombolalaw38.OddsTell', WHERE WHAT IT READS IS OF BULK AT MOST 1048576: true; the input reads as it did. -/
def oddsTellUptoRow : OpenClaim := { program := "ytlfdidaeachpoaagreat", sum := "18ae03be7d4f2877d3f794d99854bd353a5b2f59717fb473c7c85baf27ffbd86", func := "tombola/tombolalaw38.OddsTell", spec := "oddsTell", unfollowed := true, recurses := true, apart := false, narrowed := true }
def OddsTellUptoSaid : Prop := oddsTellUptoRow.holds Tryz.pinned (OpenSpec.upto oddsTellSpec)

end Rows
end Go.Proofs.YtlfdidaeachpoaaGreat
