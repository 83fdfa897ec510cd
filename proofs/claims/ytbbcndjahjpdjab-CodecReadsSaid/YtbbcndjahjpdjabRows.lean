/-
  No cell of these rows narrows 'for every input' (looked for: loops, veiled, ifaces, maps, wideKeys, modest, calm, conditions, laid).
  DERIVED. THE GIVEN ROWS OF THIS SEAT. 12 by the template 'for every input the law returns true; each argument reads behind the call as it read before'; 0 by the template 'total and deterministic' (their statements: YtbbcndjahjpdjabTotals.lean).
  GIVEN WITH THE SEED: the statements are not yours to turn. If you find one false, say at which input.
  Laid BY PROGRAM, IN A SANDBOX (cutbox-rows.mjs): the forced cells as the released guide's own fill.sh prints them over the translation b9ea3315254701fa… (all of the seat's roots in one cut). By AI agents, Wed Nov 11 2026. No macro, syntax, notation, axiom, sorry.
-/
import Derived.Test.YtbbcndjahjpdjabChecked
import GoSem.Claim
import GoSem.ClaimJoined
import GoSem.ClaimMapViews
import Derived.JoinedTies
import Derived.KernelRfl
namespace Go.Proofs.Ytbbcndjahjpdjab
/- THE CELL 'sum', in the pinned program and in every row, IS THE sha256 OF THE DUMP (.gsa) THAT YtbbcndjahjpdjabProg.lean LOADS. Nothing in Lean hashes anything: it is a label: what it is worth is what the hold of that sum in a sandbox is worth. -/
noncomputable def Try.pinned : Pinned := { name := "ytbbcndjahjpdjab", sum := "b9ea3315254701fa8b8d6df6ab186180244549ad045c2655313f9ccc3d3d2436", checked := Try.checked }
namespace Rows
def none {H : Type} : Left H := { results := [], args := [] }

/-- 'corbellaw01.CodecBack': WHATEVER THE INPUT: true; the input reads as it did. -/
def codecBackSpec : ChangeSpec := { name := "codecBack", fn := fun _ => fun
  | [d1, d2, d3] => { results := [.lit (.bool true)], args := [d1, d2, d3] }
  | _ => none }
def codecBackRow : OpenClaim := { program := "ytbbcndjahjpdjab", sum := "b9ea3315254701fa8b8d6df6ab186180244549ad045c2655313f9ccc3d3d2436", func := "corbel/corbellaw01.CodecBack", spec := "codecBack", unfollowed := true, recurses := true, apart := false }
def CodecBackSaid : Prop := codecBackRow.holds Try.pinned (OpenSpec.ofChange codecBackSpec)

/-- ITS FALSE NEIGHBOUR: 'it returns false'. Refute it at one input. -/
def codecBackWrong : ChangeSpec := { name := "codecBack", fn := fun _ => fun
  | [d1, d2, d3] => { results := [.lit (.bool false)], args := [d1, d2, d3] }
  | _ => none }
def CodecBackWrongFalsely : Prop := codecBackRow.holds Try.pinned (OpenSpec.ofChange codecBackWrong)

/-- 'corbellaw22.HistoryOrders': WHATEVER THE INPUT: true; the input reads as it did. -/
def historyOrdersSpec : ChangeSpec := { name := "historyOrders", fn := fun _ => fun
  | [d] => { results := [.lit (.bool true)], args := [d] }
  | _ => none }
def historyOrdersRow : OpenClaim := { program := "ytbbcndjahjpdjab", sum := "b9ea3315254701fa8b8d6df6ab186180244549ad045c2655313f9ccc3d3d2436", func := "corbel/corbellaw22.HistoryOrders", spec := "historyOrders", inPlace := ["slices.overlaps[corbel/model.Session]", "slices.overlaps[corbel/api.Pair]"], unfollowed := true, recurses := true, apart := false }
def HistoryOrdersSaid : Prop := historyOrdersRow.holds Try.pinned (OpenSpec.ofChange historyOrdersSpec)

/-- ITS FALSE NEIGHBOUR: 'it returns false'. Refute it at one input. -/
def historyOrdersWrong : ChangeSpec := { name := "historyOrders", fn := fun _ => fun
  | [d] => { results := [.lit (.bool false)], args := [d] }
  | _ => none }
def HistoryOrdersWrongFalsely : Prop := historyOrdersRow.holds Try.pinned (OpenSpec.ofChange historyOrdersWrong)

/-- 'corbellaw01.CodecReads': WHATEVER THE INPUT: true; the input reads as it did. -/
def codecReadsSpec : ChangeSpec := { name := "codecReads", fn := fun _ => fun
  | [d1, d2] => { results := [.lit (.bool true)], args := [d1, d2] }
  | _ => none }
def codecReadsRow : OpenClaim := { program := "ytbbcndjahjpdjab", sum := "b9ea3315254701fa8b8d6df6ab186180244549ad045c2655313f9ccc3d3d2436", func := "corbel/corbellaw01.CodecReads", spec := "codecReads", unfollowed := true, recurses := true, apart := false }
def CodecReadsSaid : Prop := codecReadsRow.holds Try.pinned (OpenSpec.ofChange codecReadsSpec)

/-- ITS FALSE NEIGHBOUR: 'it returns false'. Refute it at one input. -/
def codecReadsWrong : ChangeSpec := { name := "codecReads", fn := fun _ => fun
  | [d1, d2] => { results := [.lit (.bool false)], args := [d1, d2] }
  | _ => none }
def CodecReadsWrongFalsely : Prop := codecReadsRow.holds Try.pinned (OpenSpec.ofChange codecReadsWrong)

/-- 'corbellaw01.CodecNone': WHATEVER THE INPUT: true; the input reads as it did. -/
def codecNoneSpec : ChangeSpec := { name := "codecNone", fn := fun _ => fun
  | [d] => { results := [.lit (.bool true)], args := [d] }
  | _ => none }
def codecNoneRow : OpenClaim := { program := "ytbbcndjahjpdjab", sum := "b9ea3315254701fa8b8d6df6ab186180244549ad045c2655313f9ccc3d3d2436", func := "corbel/corbellaw01.CodecNone", spec := "codecNone", unfollowed := true, recurses := true, apart := false }
def CodecNoneSaid : Prop := codecNoneRow.holds Try.pinned (OpenSpec.ofChange codecNoneSpec)

/-- ITS FALSE NEIGHBOUR: 'it returns false'. Refute it at one input. -/
def codecNoneWrong : ChangeSpec := { name := "codecNone", fn := fun _ => fun
  | [d] => { results := [.lit (.bool false)], args := [d] }
  | _ => none }
def CodecNoneWrongFalsely : Prop := codecNoneRow.holds Try.pinned (OpenSpec.ofChange codecNoneWrong)

/-- 'corbellaw10.EntrySnaps': WHATEVER THE INPUT: true; the input reads as it did. -/
def entrySnapsSpec : ChangeSpec := { name := "entrySnaps", fn := fun _ => fun
  | [d1, d2] => { results := [.lit (.bool true)], args := [d1, d2] }
  | _ => none }
def entrySnapsRow : OpenClaim := { program := "ytbbcndjahjpdjab", sum := "b9ea3315254701fa8b8d6df6ab186180244549ad045c2655313f9ccc3d3d2436", func := "corbel/corbellaw10.EntrySnaps", spec := "entrySnaps", unfollowed := true, recurses := true, apart := false }
def EntrySnapsSaid : Prop := entrySnapsRow.holds Try.pinned (OpenSpec.ofChange entrySnapsSpec)

/-- ITS FALSE NEIGHBOUR: 'it returns false'. Refute it at one input. -/
def entrySnapsWrong : ChangeSpec := { name := "entrySnaps", fn := fun _ => fun
  | [d1, d2] => { results := [.lit (.bool false)], args := [d1, d2] }
  | _ => none }
def EntrySnapsWrongFalsely : Prop := entrySnapsRow.holds Try.pinned (OpenSpec.ofChange entrySnapsWrong)

/-- 'corbellaw10.EntryRises': WHATEVER THE INPUT: true; the input reads as it did. -/
def entryRisesSpec : ChangeSpec := { name := "entryRises", fn := fun _ => fun
  | [d] => { results := [.lit (.bool true)], args := [d] }
  | _ => none }
def entryRisesRow : OpenClaim := { program := "ytbbcndjahjpdjab", sum := "b9ea3315254701fa8b8d6df6ab186180244549ad045c2655313f9ccc3d3d2436", func := "corbel/corbellaw10.EntryRises", spec := "entryRises", unfollowed := true, recurses := true, apart := false }
def EntryRisesSaid : Prop := entryRisesRow.holds Try.pinned (OpenSpec.ofChange entryRisesSpec)

/-- ITS FALSE NEIGHBOUR: 'it returns false'. Refute it at one input. -/
def entryRisesWrong : ChangeSpec := { name := "entryRises", fn := fun _ => fun
  | [d] => { results := [.lit (.bool false)], args := [d] }
  | _ => none }
def EntryRisesWrongFalsely : Prop := entryRisesRow.holds Try.pinned (OpenSpec.ofChange entryRisesWrong)

/-- 'corbellaw10.EntryTells': WHATEVER THE INPUT: true; the input reads as it did. -/
def entryTellsSpec : ChangeSpec := { name := "entryTells", fn := fun _ => fun
  | [d1, d2] => { results := [.lit (.bool true)], args := [d1, d2] }
  | _ => none }
def entryTellsRow : OpenClaim := { program := "ytbbcndjahjpdjab", sum := "b9ea3315254701fa8b8d6df6ab186180244549ad045c2655313f9ccc3d3d2436", func := "corbel/corbellaw10.EntryTells", spec := "entryTells", unfollowed := true, recurses := true, apart := false }
def EntryTellsSaid : Prop := entryTellsRow.holds Try.pinned (OpenSpec.ofChange entryTellsSpec)

/-- ITS FALSE NEIGHBOUR: 'it returns false'. Refute it at one input. -/
def entryTellsWrong : ChangeSpec := { name := "entryTells", fn := fun _ => fun
  | [d1, d2] => { results := [.lit (.bool false)], args := [d1, d2] }
  | _ => none }
def EntryTellsWrongFalsely : Prop := entryTellsRow.holds Try.pinned (OpenSpec.ofChange entryTellsWrong)

/-- 'corbellaw09.CommandReplies': WHATEVER THE INPUT: true; the input reads as it did. -/
def commandRepliesSpec : ChangeSpec := { name := "commandReplies", fn := fun _ => fun
  | [d1, d2, d3] => { results := [.lit (.bool true)], args := [d1, d2, d3] }
  | _ => none }
def commandRepliesRow : OpenClaim := { program := "ytbbcndjahjpdjab", sum := "b9ea3315254701fa8b8d6df6ab186180244549ad045c2655313f9ccc3d3d2436", func := "corbel/corbellaw09.CommandReplies", spec := "commandReplies", unfollowed := true, recurses := true, apart := false }
def CommandRepliesSaid : Prop := commandRepliesRow.holds Try.pinned (OpenSpec.ofChange commandRepliesSpec)

/-- ITS FALSE NEIGHBOUR: 'it returns false'. Refute it at one input. -/
def commandRepliesWrong : ChangeSpec := { name := "commandReplies", fn := fun _ => fun
  | [d1, d2, d3] => { results := [.lit (.bool false)], args := [d1, d2, d3] }
  | _ => none }
def CommandRepliesWrongFalsely : Prop := commandRepliesRow.holds Try.pinned (OpenSpec.ofChange commandRepliesWrong)

/-- 'corbellaw09.CommandBack': WHATEVER THE INPUT: true; the input reads as it did. -/
def commandBackSpec : ChangeSpec := { name := "commandBack", fn := fun _ => fun
  | [d1, d2] => { results := [.lit (.bool true)], args := [d1, d2] }
  | _ => none }
def commandBackRow : OpenClaim := { program := "ytbbcndjahjpdjab", sum := "b9ea3315254701fa8b8d6df6ab186180244549ad045c2655313f9ccc3d3d2436", func := "corbel/corbellaw09.CommandBack", spec := "commandBack", unfollowed := true, recurses := true, apart := false }
def CommandBackSaid : Prop := commandBackRow.holds Try.pinned (OpenSpec.ofChange commandBackSpec)

/-- ITS FALSE NEIGHBOUR: 'it returns false'. Refute it at one input. -/
def commandBackWrong : ChangeSpec := { name := "commandBack", fn := fun _ => fun
  | [d1, d2] => { results := [.lit (.bool false)], args := [d1, d2] }
  | _ => none }
def CommandBackWrongFalsely : Prop := commandBackRow.holds Try.pinned (OpenSpec.ofChange commandBackWrong)

/-- 'corbellaw10.EntryReads': WHATEVER THE INPUT: true; the input reads as it did. -/
def entryReadsSpec : ChangeSpec := { name := "entryReads", fn := fun _ => fun
  | [d] => { results := [.lit (.bool true)], args := [d] }
  | _ => none }
def entryReadsRow : OpenClaim := { program := "ytbbcndjahjpdjab", sum := "b9ea3315254701fa8b8d6df6ab186180244549ad045c2655313f9ccc3d3d2436", func := "corbel/corbellaw10.EntryReads", spec := "entryReads", unfollowed := true, recurses := true, apart := false }
def EntryReadsSaid : Prop := entryReadsRow.holds Try.pinned (OpenSpec.ofChange entryReadsSpec)

/-- ITS FALSE NEIGHBOUR: 'it returns false'. Refute it at one input. -/
def entryReadsWrong : ChangeSpec := { name := "entryReads", fn := fun _ => fun
  | [d] => { results := [.lit (.bool false)], args := [d] }
  | _ => none }
def EntryReadsWrongFalsely : Prop := entryReadsRow.holds Try.pinned (OpenSpec.ofChange entryReadsWrong)

/-- 'corbellaw20.ModelFolds': WHATEVER THE INPUT: true; the input reads as it did. -/
def modelFoldsSpec : ChangeSpec := { name := "modelFolds", fn := fun _ => fun
  | [d1, d2, d3] => { results := [.lit (.bool true)], args := [d1, d2, d3] }
  | _ => none }
def modelFoldsRow : OpenClaim := { program := "ytbbcndjahjpdjab", sum := "b9ea3315254701fa8b8d6df6ab186180244549ad045c2655313f9ccc3d3d2436", func := "corbel/corbellaw20.ModelFolds", spec := "modelFolds", inPlace := ["slices.overlaps[corbel/model.Session]", "slices.overlaps[corbel/api.Pair]"], unfollowed := true, recurses := true, apart := false }
def ModelFoldsSaid : Prop := modelFoldsRow.holds Try.pinned (OpenSpec.ofChange modelFoldsSpec)

/-- ITS FALSE NEIGHBOUR: 'it returns false'. Refute it at one input. -/
def modelFoldsWrong : ChangeSpec := { name := "modelFolds", fn := fun _ => fun
  | [d1, d2, d3] => { results := [.lit (.bool false)], args := [d1, d2, d3] }
  | _ => none }
def ModelFoldsWrongFalsely : Prop := modelFoldsRow.holds Try.pinned (OpenSpec.ofChange modelFoldsWrong)

/-- 'corbellaw10.EntryBack': WHATEVER THE INPUT: true; the input reads as it did. -/
def entryBackSpec : ChangeSpec := { name := "entryBack", fn := fun _ => fun
  | [d1, d2, d3] => { results := [.lit (.bool true)], args := [d1, d2, d3] }
  | _ => none }
def entryBackRow : OpenClaim := { program := "ytbbcndjahjpdjab", sum := "b9ea3315254701fa8b8d6df6ab186180244549ad045c2655313f9ccc3d3d2436", func := "corbel/corbellaw10.EntryBack", spec := "entryBack", unfollowed := true, recurses := true, apart := false }
def EntryBackSaid : Prop := entryBackRow.holds Try.pinned (OpenSpec.ofChange entryBackSpec)

/-- ITS FALSE NEIGHBOUR: 'it returns false'. Refute it at one input. -/
def entryBackWrong : ChangeSpec := { name := "entryBack", fn := fun _ => fun
  | [d1, d2, d3] => { results := [.lit (.bool false)], args := [d1, d2, d3] }
  | _ => none }
def EntryBackWrongFalsely : Prop := entryBackRow.holds Try.pinned (OpenSpec.ofChange entryBackWrong)

/- THE SECOND FORM. 'bulk': how many values and letters a reading holds, each counted each time it is reached (what is shared counts as often as it is met; a slice's spare places count too). A statement '..UptoSaid' is the law's where the arguments, and the package variables that the reading takes, are together of bulk at most 1048576: NARROWER than '..Said'. Prove '..Said' where nothing that the law and all that it calls make is longer than what came in: it says more and counts as full. Else prove '..UptoSaid'. A law counts once. -/
mutual
def uptoBulk {H : Type} : DataW H → Nat
  | .lit (.string bytes) => bytes.length + 1
  | .lit _ => 1
  | .nil => 1
  | .ptr d => uptoBulk d + 1
  | .slice elems spare => uptoBulkAll elems + uptoBulkAll spare + 1
  | .agg parts => uptoBulkAll parts + 1
  | .iface _ d => uptoBulk d + 1
  | .map entries => uptoBulkEntries entries + 1
  | .held _ => 1
def uptoBulkAll {H : Type} : List (DataW H) → Nat
  | [] => 0
  | d :: r => uptoBulk d + uptoBulkAll r
def uptoBulkEntries {H : Type} : List (Lit × DataW H) → Nat
  | [] => 0
  | x :: r => uptoBulkEntry x + uptoBulkEntries r
def uptoBulkEntry {H : Type} : Lit × DataW H → Nat
  | (.string bytes, d) => bytes.length + uptoBulk d + 1
  | (_, d) => uptoBulk d + 1
 end
def uptoSmall : (H : Type) → List (DataW H) → Bool := fun _ ds => decide (uptoBulkAll ds ≤ 1048576)
def OpenSpec.upto (s : _root_.Go.ChangeSpec) : _root_.Go.OpenSpec := { _root_.Go.OpenSpec.ofChange s with cond := some uptoSmall }

/-- 'corbellaw01.CodecBack', WHERE WHAT IT READS IS OF BULK AT MOST 1048576: true; the input reads as it did. -/
def codecBackUptoRow : OpenClaim := { program := "ytbbcndjahjpdjab", sum := "b9ea3315254701fa8b8d6df6ab186180244549ad045c2655313f9ccc3d3d2436", func := "corbel/corbellaw01.CodecBack", spec := "codecBack", unfollowed := true, recurses := true, apart := false, narrowed := true }
def CodecBackUptoSaid : Prop := codecBackUptoRow.holds Try.pinned (OpenSpec.upto codecBackSpec)

/-- 'corbellaw22.HistoryOrders', WHERE WHAT IT READS IS OF BULK AT MOST 1048576: true; the input reads as it did. -/
def historyOrdersUptoRow : OpenClaim := { program := "ytbbcndjahjpdjab", sum := "b9ea3315254701fa8b8d6df6ab186180244549ad045c2655313f9ccc3d3d2436", func := "corbel/corbellaw22.HistoryOrders", spec := "historyOrders", inPlace := ["slices.overlaps[corbel/model.Session]", "slices.overlaps[corbel/api.Pair]"], unfollowed := true, recurses := true, apart := false, narrowed := true }
def HistoryOrdersUptoSaid : Prop := historyOrdersUptoRow.holds Try.pinned (OpenSpec.upto historyOrdersSpec)

/-- 'corbellaw01.CodecReads', WHERE WHAT IT READS IS OF BULK AT MOST 1048576: true; the input reads as it did. -/
def codecReadsUptoRow : OpenClaim := { program := "ytbbcndjahjpdjab", sum := "b9ea3315254701fa8b8d6df6ab186180244549ad045c2655313f9ccc3d3d2436", func := "corbel/corbellaw01.CodecReads", spec := "codecReads", unfollowed := true, recurses := true, apart := false, narrowed := true }
def CodecReadsUptoSaid : Prop := codecReadsUptoRow.holds Try.pinned (OpenSpec.upto codecReadsSpec)

/-- 'corbellaw01.CodecNone', WHERE WHAT IT READS IS OF BULK AT MOST 1048576: true; the input reads as it did. -/
def codecNoneUptoRow : OpenClaim := { program := "ytbbcndjahjpdjab", sum := "b9ea3315254701fa8b8d6df6ab186180244549ad045c2655313f9ccc3d3d2436", func := "corbel/corbellaw01.CodecNone", spec := "codecNone", unfollowed := true, recurses := true, apart := false, narrowed := true }
def CodecNoneUptoSaid : Prop := codecNoneUptoRow.holds Try.pinned (OpenSpec.upto codecNoneSpec)

/-- 'corbellaw10.EntrySnaps', WHERE WHAT IT READS IS OF BULK AT MOST 1048576: true; the input reads as it did. -/
def entrySnapsUptoRow : OpenClaim := { program := "ytbbcndjahjpdjab", sum := "b9ea3315254701fa8b8d6df6ab186180244549ad045c2655313f9ccc3d3d2436", func := "corbel/corbellaw10.EntrySnaps", spec := "entrySnaps", unfollowed := true, recurses := true, apart := false, narrowed := true }
def EntrySnapsUptoSaid : Prop := entrySnapsUptoRow.holds Try.pinned (OpenSpec.upto entrySnapsSpec)

/-- 'corbellaw10.EntryRises', WHERE WHAT IT READS IS OF BULK AT MOST 1048576: true; the input reads as it did. -/
def entryRisesUptoRow : OpenClaim := { program := "ytbbcndjahjpdjab", sum := "b9ea3315254701fa8b8d6df6ab186180244549ad045c2655313f9ccc3d3d2436", func := "corbel/corbellaw10.EntryRises", spec := "entryRises", unfollowed := true, recurses := true, apart := false, narrowed := true }
def EntryRisesUptoSaid : Prop := entryRisesUptoRow.holds Try.pinned (OpenSpec.upto entryRisesSpec)

/-- 'corbellaw10.EntryTells', WHERE WHAT IT READS IS OF BULK AT MOST 1048576: true; the input reads as it did. -/
def entryTellsUptoRow : OpenClaim := { program := "ytbbcndjahjpdjab", sum := "b9ea3315254701fa8b8d6df6ab186180244549ad045c2655313f9ccc3d3d2436", func := "corbel/corbellaw10.EntryTells", spec := "entryTells", unfollowed := true, recurses := true, apart := false, narrowed := true }
def EntryTellsUptoSaid : Prop := entryTellsUptoRow.holds Try.pinned (OpenSpec.upto entryTellsSpec)

/-- 'corbellaw09.CommandReplies', WHERE WHAT IT READS IS OF BULK AT MOST 1048576: true; the input reads as it did. -/
def commandRepliesUptoRow : OpenClaim := { program := "ytbbcndjahjpdjab", sum := "b9ea3315254701fa8b8d6df6ab186180244549ad045c2655313f9ccc3d3d2436", func := "corbel/corbellaw09.CommandReplies", spec := "commandReplies", unfollowed := true, recurses := true, apart := false, narrowed := true }
def CommandRepliesUptoSaid : Prop := commandRepliesUptoRow.holds Try.pinned (OpenSpec.upto commandRepliesSpec)

/-- 'corbellaw09.CommandBack', WHERE WHAT IT READS IS OF BULK AT MOST 1048576: true; the input reads as it did. -/
def commandBackUptoRow : OpenClaim := { program := "ytbbcndjahjpdjab", sum := "b9ea3315254701fa8b8d6df6ab186180244549ad045c2655313f9ccc3d3d2436", func := "corbel/corbellaw09.CommandBack", spec := "commandBack", unfollowed := true, recurses := true, apart := false, narrowed := true }
def CommandBackUptoSaid : Prop := commandBackUptoRow.holds Try.pinned (OpenSpec.upto commandBackSpec)

/-- 'corbellaw10.EntryReads', WHERE WHAT IT READS IS OF BULK AT MOST 1048576: true; the input reads as it did. -/
def entryReadsUptoRow : OpenClaim := { program := "ytbbcndjahjpdjab", sum := "b9ea3315254701fa8b8d6df6ab186180244549ad045c2655313f9ccc3d3d2436", func := "corbel/corbellaw10.EntryReads", spec := "entryReads", unfollowed := true, recurses := true, apart := false, narrowed := true }
def EntryReadsUptoSaid : Prop := entryReadsUptoRow.holds Try.pinned (OpenSpec.upto entryReadsSpec)

/-- 'corbellaw20.ModelFolds', WHERE WHAT IT READS IS OF BULK AT MOST 1048576: true; the input reads as it did. -/
def modelFoldsUptoRow : OpenClaim := { program := "ytbbcndjahjpdjab", sum := "b9ea3315254701fa8b8d6df6ab186180244549ad045c2655313f9ccc3d3d2436", func := "corbel/corbellaw20.ModelFolds", spec := "modelFolds", inPlace := ["slices.overlaps[corbel/model.Session]", "slices.overlaps[corbel/api.Pair]"], unfollowed := true, recurses := true, apart := false, narrowed := true }
def ModelFoldsUptoSaid : Prop := modelFoldsUptoRow.holds Try.pinned (OpenSpec.upto modelFoldsSpec)

/-- 'corbellaw10.EntryBack', WHERE WHAT IT READS IS OF BULK AT MOST 1048576: true; the input reads as it did. -/
def entryBackUptoRow : OpenClaim := { program := "ytbbcndjahjpdjab", sum := "b9ea3315254701fa8b8d6df6ab186180244549ad045c2655313f9ccc3d3d2436", func := "corbel/corbellaw10.EntryBack", spec := "entryBack", unfollowed := true, recurses := true, apart := false, narrowed := true }
def EntryBackUptoSaid : Prop := entryBackUptoRow.holds Try.pinned (OpenSpec.upto entryBackSpec)

end Rows
end Go.Proofs.Ytbbcndjahjpdjab
