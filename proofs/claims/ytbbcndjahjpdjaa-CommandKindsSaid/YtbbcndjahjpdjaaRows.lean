/-
  No cell of these rows narrows 'for every input' (looked for: loops, veiled, ifaces, maps, wideKeys, modest, calm, conditions, laid).
  DERIVED. THE GIVEN ROWS OF THIS SEAT. 12 by the template 'for every input the law returns true; each argument reads behind the call as it read before'; 0 by the template 'total and deterministic' (their statements: YtbbcndjahjpdjaaTotals.lean).
  GIVEN WITH THE SEED: the statements are not yours to turn. If you find one false, say at which input.
  Laid BY PROGRAM, IN A SANDBOX (cutbox-rows.mjs): the forced cells as the released guide's own fill.sh prints them over the translation 1c4d4854a8bbd663… (all of the seat's roots in one cut). By AI agents, Wed Nov 11 2026. No macro, syntax, notation, axiom, sorry.
-/
import Derived.Test.YtbbcndjahjpdjaaChecked
import GoSem.Claim
import GoSem.ClaimJoined
import GoSem.ClaimMapViews
import Derived.JoinedTies
import Derived.KernelRfl
namespace Go.Proofs.Ytbbcndjahjpdjaa
/- THE CELL 'sum', in the pinned program and in every row, IS THE sha256 OF THE DUMP (.gsa) THAT YtbbcndjahjpdjaaProg.lean LOADS. Nothing in Lean hashes anything: it is a label: what it is worth is what the hold of that sum in a sandbox is worth. -/
noncomputable def Try.pinned : Pinned := { name := "ytbbcndjahjpdjaa", sum := "1c4d4854a8bbd6631a2918d4f06c609aa20caaedce743c9c5a7953a1878223ba", checked := Try.checked }
namespace Rows
def none {H : Type} : Left H := { results := [], args := [] }

/-- 'corbellaw09.CommandKinds': WHATEVER THE INPUT: true; the input reads as it did. -/
def commandKindsSpec : ChangeSpec := { name := "commandKinds", fn := fun _ => fun
  | [d] => { results := [.lit (.bool true)], args := [d] }
  | _ => none }
def commandKindsRow : OpenClaim := { program := "ytbbcndjahjpdjaa", sum := "1c4d4854a8bbd6631a2918d4f06c609aa20caaedce743c9c5a7953a1878223ba", func := "corbel/corbellaw09.CommandKinds", spec := "commandKinds", unfollowed := true, recurses := true, apart := false }
def CommandKindsSaid : Prop := commandKindsRow.holds Try.pinned (OpenSpec.ofChange commandKindsSpec)

/-- ITS FALSE NEIGHBOUR: 'it returns false'. Refute it at one input. -/
def commandKindsWrong : ChangeSpec := { name := "commandKinds", fn := fun _ => fun
  | [d] => { results := [.lit (.bool false)], args := [d] }
  | _ => none }
def CommandKindsWrongFalsely : Prop := commandKindsRow.holds Try.pinned (OpenSpec.ofChange commandKindsWrong)

/-- 'corbellaw01.CodecOrder': WHATEVER THE INPUT: true; the input reads as it did. -/
def codecOrderSpec : ChangeSpec := { name := "codecOrder", fn := fun _ => fun
  | [d1, d2] => { results := [.lit (.bool true)], args := [d1, d2] }
  | _ => none }
def codecOrderRow : OpenClaim := { program := "ytbbcndjahjpdjaa", sum := "1c4d4854a8bbd6631a2918d4f06c609aa20caaedce743c9c5a7953a1878223ba", func := "corbel/corbellaw01.CodecOrder", spec := "codecOrder", apart := false }
def CodecOrderSaid : Prop := codecOrderRow.holds Try.pinned (OpenSpec.ofChange codecOrderSpec)

/-- ITS FALSE NEIGHBOUR: 'it returns false'. Refute it at one input. -/
def codecOrderWrong : ChangeSpec := { name := "codecOrder", fn := fun _ => fun
  | [d1, d2] => { results := [.lit (.bool false)], args := [d1, d2] }
  | _ => none }
def CodecOrderWrongFalsely : Prop := codecOrderRow.holds Try.pinned (OpenSpec.ofChange codecOrderWrong)

/-- 'corbellaw01.CodecShort': WHATEVER THE INPUT: true; the input reads as it did. -/
def codecShortSpec : ChangeSpec := { name := "codecShort", fn := fun _ => fun
  | [d] => { results := [.lit (.bool true)], args := [d] }
  | _ => none }
def codecShortRow : OpenClaim := { program := "ytbbcndjahjpdjaa", sum := "1c4d4854a8bbd6631a2918d4f06c609aa20caaedce743c9c5a7953a1878223ba", func := "corbel/corbellaw01.CodecShort", spec := "codecShort", apart := false }
def CodecShortSaid : Prop := codecShortRow.holds Try.pinned (OpenSpec.ofChange codecShortSpec)

/-- ITS FALSE NEIGHBOUR: 'it returns false'. Refute it at one input. -/
def codecShortWrong : ChangeSpec := { name := "codecShort", fn := fun _ => fun
  | [d] => { results := [.lit (.bool false)], args := [d] }
  | _ => none }
def CodecShortWrongFalsely : Prop := codecShortRow.holds Try.pinned (OpenSpec.ofChange codecShortWrong)

/-- 'corbellaw01.CodecNumbers': WHATEVER THE INPUT: true; the input reads as it did. -/
def codecNumbersSpec : ChangeSpec := { name := "codecNumbers", fn := fun _ => fun
  | [d1, d2, d3] => { results := [.lit (.bool true)], args := [d1, d2, d3] }
  | _ => none }
def codecNumbersRow : OpenClaim := { program := "ytbbcndjahjpdjaa", sum := "1c4d4854a8bbd6631a2918d4f06c609aa20caaedce743c9c5a7953a1878223ba", func := "corbel/corbellaw01.CodecNumbers", spec := "codecNumbers", apart := false }
def CodecNumbersSaid : Prop := codecNumbersRow.holds Try.pinned (OpenSpec.ofChange codecNumbersSpec)

/-- ITS FALSE NEIGHBOUR: 'it returns false'. Refute it at one input. -/
def codecNumbersWrong : ChangeSpec := { name := "codecNumbers", fn := fun _ => fun
  | [d1, d2, d3] => { results := [.lit (.bool false)], args := [d1, d2, d3] }
  | _ => none }
def CodecNumbersWrongFalsely : Prop := codecNumbersRow.holds Try.pinned (OpenSpec.ofChange codecNumbersWrong)

/-- 'corbellaw09.CommandTells': WHATEVER THE INPUT: true; the input reads as it did. -/
def commandTellsSpec : ChangeSpec := { name := "commandTells", fn := fun _ => fun
  | [d1, d2] => { results := [.lit (.bool true)], args := [d1, d2] }
  | _ => none }
def commandTellsRow : OpenClaim := { program := "ytbbcndjahjpdjaa", sum := "1c4d4854a8bbd6631a2918d4f06c609aa20caaedce743c9c5a7953a1878223ba", func := "corbel/corbellaw09.CommandTells", spec := "commandTells", unfollowed := true, recurses := true, apart := false }
def CommandTellsSaid : Prop := commandTellsRow.holds Try.pinned (OpenSpec.ofChange commandTellsSpec)

/-- ITS FALSE NEIGHBOUR: 'it returns false'. Refute it at one input. -/
def commandTellsWrong : ChangeSpec := { name := "commandTells", fn := fun _ => fun
  | [d1, d2] => { results := [.lit (.bool false)], args := [d1, d2] }
  | _ => none }
def CommandTellsWrongFalsely : Prop := commandTellsRow.holds Try.pinned (OpenSpec.ofChange commandTellsWrong)

/-- 'corbellaw01.CodecFrames': WHATEVER THE INPUT: true; the input reads as it did. -/
def codecFramesSpec : ChangeSpec := { name := "codecFrames", fn := fun _ => fun
  | [d] => { results := [.lit (.bool true)], args := [d] }
  | _ => none }
def codecFramesRow : OpenClaim := { program := "ytbbcndjahjpdjaa", sum := "1c4d4854a8bbd6631a2918d4f06c609aa20caaedce743c9c5a7953a1878223ba", func := "corbel/corbellaw01.CodecFrames", spec := "codecFrames", apart := false }
def CodecFramesSaid : Prop := codecFramesRow.holds Try.pinned (OpenSpec.ofChange codecFramesSpec)

/-- ITS FALSE NEIGHBOUR: 'it returns false'. Refute it at one input. -/
def codecFramesWrong : ChangeSpec := { name := "codecFrames", fn := fun _ => fun
  | [d] => { results := [.lit (.bool false)], args := [d] }
  | _ => none }
def CodecFramesWrongFalsely : Prop := codecFramesRow.holds Try.pinned (OpenSpec.ofChange codecFramesWrong)

/-- 'corbellaw01.CodecTells': WHATEVER THE INPUT: true; the input reads as it did. -/
def codecTellsSpec : ChangeSpec := { name := "codecTells", fn := fun _ => fun
  | [d1, d2, d3] => { results := [.lit (.bool true)], args := [d1, d2, d3] }
  | _ => none }
def codecTellsRow : OpenClaim := { program := "ytbbcndjahjpdjaa", sum := "1c4d4854a8bbd6631a2918d4f06c609aa20caaedce743c9c5a7953a1878223ba", func := "corbel/corbellaw01.CodecTells", spec := "codecTells", apart := false }
def CodecTellsSaid : Prop := codecTellsRow.holds Try.pinned (OpenSpec.ofChange codecTellsSpec)

/-- ITS FALSE NEIGHBOUR: 'it returns false'. Refute it at one input. -/
def codecTellsWrong : ChangeSpec := { name := "codecTells", fn := fun _ => fun
  | [d1, d2, d3] => { results := [.lit (.bool false)], args := [d1, d2, d3] }
  | _ => none }
def CodecTellsWrongFalsely : Prop := codecTellsRow.holds Try.pinned (OpenSpec.ofChange codecTellsWrong)

/-- 'corbellaw01.CodecMarks': WHATEVER THE INPUT: true; the input reads as it did. -/
def codecMarksSpec : ChangeSpec := { name := "codecMarks", fn := fun _ => fun
  | [d1, d2] => { results := [.lit (.bool true)], args := [d1, d2] }
  | _ => none }
def codecMarksRow : OpenClaim := { program := "ytbbcndjahjpdjaa", sum := "1c4d4854a8bbd6631a2918d4f06c609aa20caaedce743c9c5a7953a1878223ba", func := "corbel/corbellaw01.CodecMarks", spec := "codecMarks", apart := false }
def CodecMarksSaid : Prop := codecMarksRow.holds Try.pinned (OpenSpec.ofChange codecMarksSpec)

/-- ITS FALSE NEIGHBOUR: 'it returns false'. Refute it at one input. -/
def codecMarksWrong : ChangeSpec := { name := "codecMarks", fn := fun _ => fun
  | [d1, d2] => { results := [.lit (.bool false)], args := [d1, d2] }
  | _ => none }
def CodecMarksWrongFalsely : Prop := codecMarksRow.holds Try.pinned (OpenSpec.ofChange codecMarksWrong)

/-- 'corbellaw01.CodecTexts': WHATEVER THE INPUT: true; the input reads as it did. -/
def codecTextsSpec : ChangeSpec := { name := "codecTexts", fn := fun _ => fun
  | [d1, d2, d3] => { results := [.lit (.bool true)], args := [d1, d2, d3] }
  | _ => none }
def codecTextsRow : OpenClaim := { program := "ytbbcndjahjpdjaa", sum := "1c4d4854a8bbd6631a2918d4f06c609aa20caaedce743c9c5a7953a1878223ba", func := "corbel/corbellaw01.CodecTexts", spec := "codecTexts", apart := false }
def CodecTextsSaid : Prop := codecTextsRow.holds Try.pinned (OpenSpec.ofChange codecTextsSpec)

/-- ITS FALSE NEIGHBOUR: 'it returns false'. Refute it at one input. -/
def codecTextsWrong : ChangeSpec := { name := "codecTexts", fn := fun _ => fun
  | [d1, d2, d3] => { results := [.lit (.bool false)], args := [d1, d2, d3] }
  | _ => none }
def CodecTextsWrongFalsely : Prop := codecTextsRow.holds Try.pinned (OpenSpec.ofChange codecTextsWrong)

/-- 'corbellaw22.HistoryLinear': WHATEVER THE INPUT: true; the input reads as it did. -/
def historyLinearSpec : ChangeSpec := { name := "historyLinear", fn := fun _ => fun
  | [d1, d2] => { results := [.lit (.bool true)], args := [d1, d2] }
  | _ => none }
def historyLinearRow : OpenClaim := { program := "ytbbcndjahjpdjaa", sum := "1c4d4854a8bbd6631a2918d4f06c609aa20caaedce743c9c5a7953a1878223ba", func := "corbel/corbellaw22.HistoryLinear", spec := "historyLinear", inPlace := ["slices.overlaps[corbel/model.Session]", "slices.overlaps[corbel/api.Pair]"], unfollowed := true, recurses := true, apart := false }
def HistoryLinearSaid : Prop := historyLinearRow.holds Try.pinned (OpenSpec.ofChange historyLinearSpec)

/-- ITS FALSE NEIGHBOUR: 'it returns false'. Refute it at one input. -/
def historyLinearWrong : ChangeSpec := { name := "historyLinear", fn := fun _ => fun
  | [d1, d2] => { results := [.lit (.bool false)], args := [d1, d2] }
  | _ => none }
def HistoryLinearWrongFalsely : Prop := historyLinearRow.holds Try.pinned (OpenSpec.ofChange historyLinearWrong)

/-- 'corbellaw09.CommandSames': WHATEVER THE INPUT: true; the input reads as it did. -/
def commandSamesSpec : ChangeSpec := { name := "commandSames", fn := fun _ => fun
  | [d1, d2] => { results := [.lit (.bool true)], args := [d1, d2] }
  | _ => none }
def commandSamesRow : OpenClaim := { program := "ytbbcndjahjpdjaa", sum := "1c4d4854a8bbd6631a2918d4f06c609aa20caaedce743c9c5a7953a1878223ba", func := "corbel/corbellaw09.CommandSames", spec := "commandSames", unfollowed := true, recurses := true, apart := false }
def CommandSamesSaid : Prop := commandSamesRow.holds Try.pinned (OpenSpec.ofChange commandSamesSpec)

/-- ITS FALSE NEIGHBOUR: 'it returns false'. Refute it at one input. -/
def commandSamesWrong : ChangeSpec := { name := "commandSames", fn := fun _ => fun
  | [d1, d2] => { results := [.lit (.bool false)], args := [d1, d2] }
  | _ => none }
def CommandSamesWrongFalsely : Prop := commandSamesRow.holds Try.pinned (OpenSpec.ofChange commandSamesWrong)

/-- 'corbellaw09.CommandReads': WHATEVER THE INPUT: true; the input reads as it did. -/
def commandReadsSpec : ChangeSpec := { name := "commandReads", fn := fun _ => fun
  | [d] => { results := [.lit (.bool true)], args := [d] }
  | _ => none }
def commandReadsRow : OpenClaim := { program := "ytbbcndjahjpdjaa", sum := "1c4d4854a8bbd6631a2918d4f06c609aa20caaedce743c9c5a7953a1878223ba", func := "corbel/corbellaw09.CommandReads", spec := "commandReads", unfollowed := true, recurses := true, apart := false }
def CommandReadsSaid : Prop := commandReadsRow.holds Try.pinned (OpenSpec.ofChange commandReadsSpec)

/-- ITS FALSE NEIGHBOUR: 'it returns false'. Refute it at one input. -/
def commandReadsWrong : ChangeSpec := { name := "commandReads", fn := fun _ => fun
  | [d] => { results := [.lit (.bool false)], args := [d] }
  | _ => none }
def CommandReadsWrongFalsely : Prop := commandReadsRow.holds Try.pinned (OpenSpec.ofChange commandReadsWrong)

/- THE SECOND FORM. 'bulk': how many values and letters a reading holds, each counted each time it is reached (what is shared counts as often as it is met; a slice's spare places count too). A statement '..UptoSaid' is the law's where the arguments, and the package variables that the reading takes, are together of bulk at most 1048576: NARROWER than '..Said'. Prove '..Said' where nothing that the law and all that it calls make is longer than what came in: it says more and counts as full. Else prove '..UptoSaid'. A law counts once. -/
mutual
def uptoBulk {H : Type} : DataW H → Nat
  | .lit (.string bytes) => bytes.length + 1
  | .lit _ => 1
  | .nil => 1
  | .ptr d => uptoBulk d + 1
  | .slice elems spare => uptoBulkAll elems + uptoBulkAll spare + 1
  | .agg parts => uptoBulkAll parts + 1
  | .iface _ d => uptoBulk d + 1
  | .map entries => uptoBulkEntries entries + 1
  | .held _ => 1
def uptoBulkAll {H : Type} : List (DataW H) → Nat
  | [] => 0
  | d :: r => uptoBulk d + uptoBulkAll r
def uptoBulkEntries {H : Type} : List (Lit × DataW H) → Nat
  | [] => 0
  | x :: r => uptoBulkEntry x + uptoBulkEntries r
def uptoBulkEntry {H : Type} : Lit × DataW H → Nat
  | (.string bytes, d) => bytes.length + uptoBulk d + 1
  | (_, d) => uptoBulk d + 1
 end
def uptoSmall : (H : Type) → List (DataW H) → Bool := fun _ ds => decide (uptoBulkAll ds ≤ 1048576)
def OpenSpec.upto (s : _root_.Go.ChangeSpec) : _root_.Go.OpenSpec := { _root_.Go.OpenSpec.ofChange s with cond := some uptoSmall }

/-- 'corbellaw09.CommandKinds', WHERE WHAT IT READS IS OF BULK AT MOST 1048576: true; the input reads as it did. -/
def commandKindsUptoRow : OpenClaim := { program := "ytbbcndjahjpdjaa", sum := "1c4d4854a8bbd6631a2918d4f06c609aa20caaedce743c9c5a7953a1878223ba", func := "corbel/corbellaw09.CommandKinds", spec := "commandKinds", unfollowed := true, recurses := true, apart := false, narrowed := true }
def CommandKindsUptoSaid : Prop := commandKindsUptoRow.holds Try.pinned (OpenSpec.upto commandKindsSpec)

/-- 'corbellaw01.CodecOrder', WHERE WHAT IT READS IS OF BULK AT MOST 1048576: true; the input reads as it did. -/
def codecOrderUptoRow : OpenClaim := { program := "ytbbcndjahjpdjaa", sum := "1c4d4854a8bbd6631a2918d4f06c609aa20caaedce743c9c5a7953a1878223ba", func := "corbel/corbellaw01.CodecOrder", spec := "codecOrder", apart := false, narrowed := true }
def CodecOrderUptoSaid : Prop := codecOrderUptoRow.holds Try.pinned (OpenSpec.upto codecOrderSpec)

/-- 'corbellaw01.CodecShort', WHERE WHAT IT READS IS OF BULK AT MOST 1048576: true; the input reads as it did. -/
def codecShortUptoRow : OpenClaim := { program := "ytbbcndjahjpdjaa", sum := "1c4d4854a8bbd6631a2918d4f06c609aa20caaedce743c9c5a7953a1878223ba", func := "corbel/corbellaw01.CodecShort", spec := "codecShort", apart := false, narrowed := true }
def CodecShortUptoSaid : Prop := codecShortUptoRow.holds Try.pinned (OpenSpec.upto codecShortSpec)

/-- 'corbellaw01.CodecNumbers', WHERE WHAT IT READS IS OF BULK AT MOST 1048576: true; the input reads as it did. -/
def codecNumbersUptoRow : OpenClaim := { program := "ytbbcndjahjpdjaa", sum := "1c4d4854a8bbd6631a2918d4f06c609aa20caaedce743c9c5a7953a1878223ba", func := "corbel/corbellaw01.CodecNumbers", spec := "codecNumbers", apart := false, narrowed := true }
def CodecNumbersUptoSaid : Prop := codecNumbersUptoRow.holds Try.pinned (OpenSpec.upto codecNumbersSpec)

/-- 'corbellaw09.CommandTells', WHERE WHAT IT READS IS OF BULK AT MOST 1048576: true; the input reads as it did. -/
def commandTellsUptoRow : OpenClaim := { program := "ytbbcndjahjpdjaa", sum := "1c4d4854a8bbd6631a2918d4f06c609aa20caaedce743c9c5a7953a1878223ba", func := "corbel/corbellaw09.CommandTells", spec := "commandTells", unfollowed := true, recurses := true, apart := false, narrowed := true }
def CommandTellsUptoSaid : Prop := commandTellsUptoRow.holds Try.pinned (OpenSpec.upto commandTellsSpec)

/-- 'corbellaw01.CodecFrames', WHERE WHAT IT READS IS OF BULK AT MOST 1048576: true; the input reads as it did. -/
def codecFramesUptoRow : OpenClaim := { program := "ytbbcndjahjpdjaa", sum := "1c4d4854a8bbd6631a2918d4f06c609aa20caaedce743c9c5a7953a1878223ba", func := "corbel/corbellaw01.CodecFrames", spec := "codecFrames", apart := false, narrowed := true }
def CodecFramesUptoSaid : Prop := codecFramesUptoRow.holds Try.pinned (OpenSpec.upto codecFramesSpec)

/-- 'corbellaw01.CodecTells', WHERE WHAT IT READS IS OF BULK AT MOST 1048576: true; the input reads as it did. -/
def codecTellsUptoRow : OpenClaim := { program := "ytbbcndjahjpdjaa", sum := "1c4d4854a8bbd6631a2918d4f06c609aa20caaedce743c9c5a7953a1878223ba", func := "corbel/corbellaw01.CodecTells", spec := "codecTells", apart := false, narrowed := true }
def CodecTellsUptoSaid : Prop := codecTellsUptoRow.holds Try.pinned (OpenSpec.upto codecTellsSpec)

/-- 'corbellaw01.CodecMarks', WHERE WHAT IT READS IS OF BULK AT MOST 1048576: true; the input reads as it did. -/
def codecMarksUptoRow : OpenClaim := { program := "ytbbcndjahjpdjaa", sum := "1c4d4854a8bbd6631a2918d4f06c609aa20caaedce743c9c5a7953a1878223ba", func := "corbel/corbellaw01.CodecMarks", spec := "codecMarks", apart := false, narrowed := true }
def CodecMarksUptoSaid : Prop := codecMarksUptoRow.holds Try.pinned (OpenSpec.upto codecMarksSpec)

/-- 'corbellaw01.CodecTexts', WHERE WHAT IT READS IS OF BULK AT MOST 1048576: true; the input reads as it did. -/
def codecTextsUptoRow : OpenClaim := { program := "ytbbcndjahjpdjaa", sum := "1c4d4854a8bbd6631a2918d4f06c609aa20caaedce743c9c5a7953a1878223ba", func := "corbel/corbellaw01.CodecTexts", spec := "codecTexts", apart := false, narrowed := true }
def CodecTextsUptoSaid : Prop := codecTextsUptoRow.holds Try.pinned (OpenSpec.upto codecTextsSpec)

/-- 'corbellaw22.HistoryLinear', WHERE WHAT IT READS IS OF BULK AT MOST 1048576: true; the input reads as it did. -/
def historyLinearUptoRow : OpenClaim := { program := "ytbbcndjahjpdjaa", sum := "1c4d4854a8bbd6631a2918d4f06c609aa20caaedce743c9c5a7953a1878223ba", func := "corbel/corbellaw22.HistoryLinear", spec := "historyLinear", inPlace := ["slices.overlaps[corbel/model.Session]", "slices.overlaps[corbel/api.Pair]"], unfollowed := true, recurses := true, apart := false, narrowed := true }
def HistoryLinearUptoSaid : Prop := historyLinearUptoRow.holds Try.pinned (OpenSpec.upto historyLinearSpec)

/-- 'corbellaw09.CommandSames', WHERE WHAT IT READS IS OF BULK AT MOST 1048576: true; the input reads as it did. -/
def commandSamesUptoRow : OpenClaim := { program := "ytbbcndjahjpdjaa", sum := "1c4d4854a8bbd6631a2918d4f06c609aa20caaedce743c9c5a7953a1878223ba", func := "corbel/corbellaw09.CommandSames", spec := "commandSames", unfollowed := true, recurses := true, apart := false, narrowed := true }
def CommandSamesUptoSaid : Prop := commandSamesUptoRow.holds Try.pinned (OpenSpec.upto commandSamesSpec)

/-- 'corbellaw09.CommandReads', WHERE WHAT IT READS IS OF BULK AT MOST 1048576: true; the input reads as it did. -/
def commandReadsUptoRow : OpenClaim := { program := "ytbbcndjahjpdjaa", sum := "1c4d4854a8bbd6631a2918d4f06c609aa20caaedce743c9c5a7953a1878223ba", func := "corbel/corbellaw09.CommandReads", spec := "commandReads", unfollowed := true, recurses := true, apart := false, narrowed := true }
def CommandReadsUptoSaid : Prop := commandReadsUptoRow.holds Try.pinned (OpenSpec.upto commandReadsSpec)

end Rows
end Go.Proofs.Ytbbcndjahjpdjaa
