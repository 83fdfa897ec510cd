/-
  No cell of these rows narrows 'for every input' (looked for: loops, veiled, ifaces, maps, wideKeys, modest, calm, conditions, laid).
  DERIVED. THE GIVEN ROWS OF THIS SEAT. 11 by the template 'for every input the law returns true; each argument reads behind the call as it read before'; 0 by the template 'total and deterministic' (their statements: YtondhngfjngngaaTotals.lean).
  GIVEN WITH THE SEED: the statements are not yours to turn. If you find one false, say at which input.
  Laid BY PROGRAM, IN A SANDBOX (cutbox-rows.mjs): the forced cells as the released guide's own fill.sh prints them over the translation 0d7af000885e86d4… (all of the seat's roots in one cut). By AI agents, Wed Nov 11 2026. No macro, syntax, notation, axiom, sorry.
-/
import Derived.Test.YtondhngfjngngaaChecked
import GoSem.Claim
import GoSem.ClaimJoined
import GoSem.ClaimMapViews
import Derived.JoinedTies
import Derived.KernelRfl
namespace Go.Proofs.Ytondhngfjngngaa
/- THE CELL 'sum', in the pinned program and in every row, IS THE sha256 OF THE DUMP (.gsa) THAT YtondhngfjngngaaProg.lean LOADS. Nothing in Lean hashes anything: it is a label: what it is worth is what the hold of that sum in a sandbox is worth. -/
noncomputable def Try.pinned : Pinned := { name := "ytondhngfjngngaa", sum := "0d7af000885e86d4efb722f2f4065fec034ed4899d8e573cc1a563986d57e93a", checked := Try.checked }
namespace Rows
def none {H : Type} : Left H := { results := [], args := [] }

/-- 'corbellaw09.CommandTells': WHATEVER THE INPUT: true; the input reads as it did. -/
def commandTellsSpec : ChangeSpec := { name := "commandTells", fn := fun _ => fun
  | [d1, d2] => { results := [.lit (.bool true)], args := [d1, d2] }
  | _ => none }
def commandTellsRow : OpenClaim := { program := "ytondhngfjngngaa", sum := "0d7af000885e86d4efb722f2f4065fec034ed4899d8e573cc1a563986d57e93a", func := "corbel/corbellaw09.CommandTells", spec := "commandTells", unfollowed := true, recurses := true, apart := false }
def CommandTellsSaid : Prop := commandTellsRow.holds Try.pinned (OpenSpec.ofChange commandTellsSpec)

/-- ITS FALSE NEIGHBOUR: 'it returns false'. Refute it at one input. -/
def commandTellsWrong : ChangeSpec := { name := "commandTells", fn := fun _ => fun
  | [d1, d2] => { results := [.lit (.bool false)], args := [d1, d2] }
  | _ => none }
def CommandTellsWrongFalsely : Prop := commandTellsRow.holds Try.pinned (OpenSpec.ofChange commandTellsWrong)

/-- 'corbellaw09.CommandSames': WHATEVER THE INPUT: true; the input reads as it did. -/
def commandSamesSpec : ChangeSpec := { name := "commandSames", fn := fun _ => fun
  | [d1, d2] => { results := [.lit (.bool true)], args := [d1, d2] }
  | _ => none }
def commandSamesRow : OpenClaim := { program := "ytondhngfjngngaa", sum := "0d7af000885e86d4efb722f2f4065fec034ed4899d8e573cc1a563986d57e93a", func := "corbel/corbellaw09.CommandSames", spec := "commandSames", unfollowed := true, recurses := true, apart := false }
def CommandSamesSaid : Prop := commandSamesRow.holds Try.pinned (OpenSpec.ofChange commandSamesSpec)

/-- ITS FALSE NEIGHBOUR: 'it returns false'. Refute it at one input. -/
def commandSamesWrong : ChangeSpec := { name := "commandSames", fn := fun _ => fun
  | [d1, d2] => { results := [.lit (.bool false)], args := [d1, d2] }
  | _ => none }
def CommandSamesWrongFalsely : Prop := commandSamesRow.holds Try.pinned (OpenSpec.ofChange commandSamesWrong)

/-- 'corbellaw09.CommandReads': WHATEVER THE INPUT: true; the input reads as it did. -/
def commandReadsSpec : ChangeSpec := { name := "commandReads", fn := fun _ => fun
  | [d] => { results := [.lit (.bool true)], args := [d] }
  | _ => none }
def commandReadsRow : OpenClaim := { program := "ytondhngfjngngaa", sum := "0d7af000885e86d4efb722f2f4065fec034ed4899d8e573cc1a563986d57e93a", func := "corbel/corbellaw09.CommandReads", spec := "commandReads", unfollowed := true, recurses := true, apart := false }
def CommandReadsSaid : Prop := commandReadsRow.holds Try.pinned (OpenSpec.ofChange commandReadsSpec)

/-- ITS FALSE NEIGHBOUR: 'it returns false'. Refute it at one input. -/
def commandReadsWrong : ChangeSpec := { name := "commandReads", fn := fun _ => fun
  | [d] => { results := [.lit (.bool false)], args := [d] }
  | _ => none }
def CommandReadsWrongFalsely : Prop := commandReadsRow.holds Try.pinned (OpenSpec.ofChange commandReadsWrong)

/-- 'corbellaw10.EntrySnaps': WHATEVER THE INPUT: true; the input reads as it did. -/
def entrySnapsSpec : ChangeSpec := { name := "entrySnaps", fn := fun _ => fun
  | [d1, d2] => { results := [.lit (.bool true)], args := [d1, d2] }
  | _ => none }
def entrySnapsRow : OpenClaim := { program := "ytondhngfjngngaa", sum := "0d7af000885e86d4efb722f2f4065fec034ed4899d8e573cc1a563986d57e93a", func := "corbel/corbellaw10.EntrySnaps", spec := "entrySnaps", unfollowed := true, recurses := true, apart := false }
def EntrySnapsSaid : Prop := entrySnapsRow.holds Try.pinned (OpenSpec.ofChange entrySnapsSpec)

/-- ITS FALSE NEIGHBOUR: 'it returns false'. Refute it at one input. -/
def entrySnapsWrong : ChangeSpec := { name := "entrySnaps", fn := fun _ => fun
  | [d1, d2] => { results := [.lit (.bool false)], args := [d1, d2] }
  | _ => none }
def EntrySnapsWrongFalsely : Prop := entrySnapsRow.holds Try.pinned (OpenSpec.ofChange entrySnapsWrong)

/-- 'corbellaw10.EntryRises': WHATEVER THE INPUT: true; the input reads as it did. -/
def entryRisesSpec : ChangeSpec := { name := "entryRises", fn := fun _ => fun
  | [d] => { results := [.lit (.bool true)], args := [d] }
  | _ => none }
def entryRisesRow : OpenClaim := { program := "ytondhngfjngngaa", sum := "0d7af000885e86d4efb722f2f4065fec034ed4899d8e573cc1a563986d57e93a", func := "corbel/corbellaw10.EntryRises", spec := "entryRises", unfollowed := true, recurses := true, apart := false }
def EntryRisesSaid : Prop := entryRisesRow.holds Try.pinned (OpenSpec.ofChange entryRisesSpec)

/-- ITS FALSE NEIGHBOUR: 'it returns false'. Refute it at one input. -/
def entryRisesWrong : ChangeSpec := { name := "entryRises", fn := fun _ => fun
  | [d] => { results := [.lit (.bool false)], args := [d] }
  | _ => none }
def EntryRisesWrongFalsely : Prop := entryRisesRow.holds Try.pinned (OpenSpec.ofChange entryRisesWrong)

/-- 'corbellaw10.EntryTells': WHATEVER THE INPUT: true; the input reads as it did. -/
def entryTellsSpec : ChangeSpec := { name := "entryTells", fn := fun _ => fun
  | [d1, d2] => { results := [.lit (.bool true)], args := [d1, d2] }
  | _ => none }
def entryTellsRow : OpenClaim := { program := "ytondhngfjngngaa", sum := "0d7af000885e86d4efb722f2f4065fec034ed4899d8e573cc1a563986d57e93a", func := "corbel/corbellaw10.EntryTells", spec := "entryTells", unfollowed := true, recurses := true, apart := false }
def EntryTellsSaid : Prop := entryTellsRow.holds Try.pinned (OpenSpec.ofChange entryTellsSpec)

/-- ITS FALSE NEIGHBOUR: 'it returns false'. Refute it at one input. -/
def entryTellsWrong : ChangeSpec := { name := "entryTells", fn := fun _ => fun
  | [d1, d2] => { results := [.lit (.bool false)], args := [d1, d2] }
  | _ => none }
def EntryTellsWrongFalsely : Prop := entryTellsRow.holds Try.pinned (OpenSpec.ofChange entryTellsWrong)

/-- 'corbellaw09.CommandReplies': WHATEVER THE INPUT: true; the input reads as it did. -/
def commandRepliesSpec : ChangeSpec := { name := "commandReplies", fn := fun _ => fun
  | [d1, d2, d3] => { results := [.lit (.bool true)], args := [d1, d2, d3] }
  | _ => none }
def commandRepliesRow : OpenClaim := { program := "ytondhngfjngngaa", sum := "0d7af000885e86d4efb722f2f4065fec034ed4899d8e573cc1a563986d57e93a", func := "corbel/corbellaw09.CommandReplies", spec := "commandReplies", unfollowed := true, recurses := true, apart := false }
def CommandRepliesSaid : Prop := commandRepliesRow.holds Try.pinned (OpenSpec.ofChange commandRepliesSpec)

/-- ITS FALSE NEIGHBOUR: 'it returns false'. Refute it at one input. -/
def commandRepliesWrong : ChangeSpec := { name := "commandReplies", fn := fun _ => fun
  | [d1, d2, d3] => { results := [.lit (.bool false)], args := [d1, d2, d3] }
  | _ => none }
def CommandRepliesWrongFalsely : Prop := commandRepliesRow.holds Try.pinned (OpenSpec.ofChange commandRepliesWrong)

/-- 'corbellaw09.CommandBack': WHATEVER THE INPUT: true; the input reads as it did. -/
def commandBackSpec : ChangeSpec := { name := "commandBack", fn := fun _ => fun
  | [d1, d2] => { results := [.lit (.bool true)], args := [d1, d2] }
  | _ => none }
def commandBackRow : OpenClaim := { program := "ytondhngfjngngaa", sum := "0d7af000885e86d4efb722f2f4065fec034ed4899d8e573cc1a563986d57e93a", func := "corbel/corbellaw09.CommandBack", spec := "commandBack", unfollowed := true, recurses := true, apart := false }
def CommandBackSaid : Prop := commandBackRow.holds Try.pinned (OpenSpec.ofChange commandBackSpec)

/-- ITS FALSE NEIGHBOUR: 'it returns false'. Refute it at one input. -/
def commandBackWrong : ChangeSpec := { name := "commandBack", fn := fun _ => fun
  | [d1, d2] => { results := [.lit (.bool false)], args := [d1, d2] }
  | _ => none }
def CommandBackWrongFalsely : Prop := commandBackRow.holds Try.pinned (OpenSpec.ofChange commandBackWrong)

/-- 'corbellaw10.EntryReads': WHATEVER THE INPUT: true; the input reads as it did. -/
def entryReadsSpec : ChangeSpec := { name := "entryReads", fn := fun _ => fun
  | [d] => { results := [.lit (.bool true)], args := [d] }
  | _ => none }
def entryReadsRow : OpenClaim := { program := "ytondhngfjngngaa", sum := "0d7af000885e86d4efb722f2f4065fec034ed4899d8e573cc1a563986d57e93a", func := "corbel/corbellaw10.EntryReads", spec := "entryReads", unfollowed := true, recurses := true, apart := false }
def EntryReadsSaid : Prop := entryReadsRow.holds Try.pinned (OpenSpec.ofChange entryReadsSpec)

/-- ITS FALSE NEIGHBOUR: 'it returns false'. Refute it at one input. -/
def entryReadsWrong : ChangeSpec := { name := "entryReads", fn := fun _ => fun
  | [d] => { results := [.lit (.bool false)], args := [d] }
  | _ => none }
def EntryReadsWrongFalsely : Prop := entryReadsRow.holds Try.pinned (OpenSpec.ofChange entryReadsWrong)

/-- 'corbellaw10.EntryBack': WHATEVER THE INPUT: true; the input reads as it did. -/
def entryBackSpec : ChangeSpec := { name := "entryBack", fn := fun _ => fun
  | [d1, d2, d3] => { results := [.lit (.bool true)], args := [d1, d2, d3] }
  | _ => none }
def entryBackRow : OpenClaim := { program := "ytondhngfjngngaa", sum := "0d7af000885e86d4efb722f2f4065fec034ed4899d8e573cc1a563986d57e93a", func := "corbel/corbellaw10.EntryBack", spec := "entryBack", unfollowed := true, recurses := true, apart := false }
def EntryBackSaid : Prop := entryBackRow.holds Try.pinned (OpenSpec.ofChange entryBackSpec)

/-- ITS FALSE NEIGHBOUR: 'it returns false'. Refute it at one input. -/
def entryBackWrong : ChangeSpec := { name := "entryBack", fn := fun _ => fun
  | [d1, d2, d3] => { results := [.lit (.bool false)], args := [d1, d2, d3] }
  | _ => none }
def EntryBackWrongFalsely : Prop := entryBackRow.holds Try.pinned (OpenSpec.ofChange entryBackWrong)

/-- 'corbellaw10.EntrySends': WHATEVER THE INPUT: true; the input reads as it did. -/
def entrySendsSpec : ChangeSpec := { name := "entrySends", fn := fun _ => fun
  | [d1, d2] => { results := [.lit (.bool true)], args := [d1, d2] }
  | _ => none }
def entrySendsRow : OpenClaim := { program := "ytondhngfjngngaa", sum := "0d7af000885e86d4efb722f2f4065fec034ed4899d8e573cc1a563986d57e93a", func := "corbel/corbellaw10.EntrySends", spec := "entrySends", unfollowed := true, recurses := true, apart := false }
def EntrySendsSaid : Prop := entrySendsRow.holds Try.pinned (OpenSpec.ofChange entrySendsSpec)

/-- ITS FALSE NEIGHBOUR: 'it returns false'. Refute it at one input. -/
def entrySendsWrong : ChangeSpec := { name := "entrySends", fn := fun _ => fun
  | [d1, d2] => { results := [.lit (.bool false)], args := [d1, d2] }
  | _ => none }
def EntrySendsWrongFalsely : Prop := entrySendsRow.holds Try.pinned (OpenSpec.ofChange entrySendsWrong)

/- THE SECOND FORM. 'bulk': how many values and letters a reading holds, each counted each time it is reached (what is shared counts as often as it is met; a slice's spare places count too). A statement '..UptoSaid' is the law's where the arguments, and the package variables that the reading takes, are together of bulk at most 1048576: NARROWER than '..Said'. Prove '..Said' where nothing that the law and all that it calls make is longer than what came in: it says more and counts as full. Else prove '..UptoSaid'. A law counts once. -/
mutual
def uptoBulk {H : Type} : DataW H → Nat
  | .lit (.string bytes) => bytes.length + 1
  | .lit _ => 1
  | .nil => 1
  | .ptr d => uptoBulk d + 1
  | .slice elems spare => uptoBulkAll elems + uptoBulkAll spare + 1
  | .agg parts => uptoBulkAll parts + 1
  | .iface _ d => uptoBulk d + 1
  | .map entries => uptoBulkEntries entries + 1
  | .held _ => 1
def uptoBulkAll {H : Type} : List (DataW H) → Nat
  | [] => 0
  | d :: r => uptoBulk d + uptoBulkAll r
def uptoBulkEntries {H : Type} : List (Lit × DataW H) → Nat
  | [] => 0
  | x :: r => uptoBulkEntry x + uptoBulkEntries r
def uptoBulkEntry {H : Type} : Lit × DataW H → Nat
  | (.string bytes, d) => bytes.length + uptoBulk d + 1
  | (_, d) => uptoBulk d + 1
 end
def uptoSmall : (H : Type) → List (DataW H) → Bool := fun _ ds => decide (uptoBulkAll ds ≤ 1048576)
def OpenSpec.upto (s : _root_.Go.ChangeSpec) : _root_.Go.OpenSpec := { _root_.Go.OpenSpec.ofChange s with cond := some uptoSmall }

/-- 'corbellaw09.CommandTells', WHERE WHAT IT READS IS OF BULK AT MOST 1048576: true; the input reads as it did. -/
def commandTellsUptoRow : OpenClaim := { program := "ytondhngfjngngaa", sum := "0d7af000885e86d4efb722f2f4065fec034ed4899d8e573cc1a563986d57e93a", func := "corbel/corbellaw09.CommandTells", spec := "commandTells", unfollowed := true, recurses := true, apart := false, narrowed := true }
def CommandTellsUptoSaid : Prop := commandTellsUptoRow.holds Try.pinned (OpenSpec.upto commandTellsSpec)

/-- 'corbellaw09.CommandSames', WHERE WHAT IT READS IS OF BULK AT MOST 1048576: true; the input reads as it did. -/
def commandSamesUptoRow : OpenClaim := { program := "ytondhngfjngngaa", sum := "0d7af000885e86d4efb722f2f4065fec034ed4899d8e573cc1a563986d57e93a", func := "corbel/corbellaw09.CommandSames", spec := "commandSames", unfollowed := true, recurses := true, apart := false, narrowed := true }
def CommandSamesUptoSaid : Prop := commandSamesUptoRow.holds Try.pinned (OpenSpec.upto commandSamesSpec)

/-- 'corbellaw09.CommandReads', WHERE WHAT IT READS IS OF BULK AT MOST 1048576: true; the input reads as it did. -/
def commandReadsUptoRow : OpenClaim := { program := "ytondhngfjngngaa", sum := "0d7af000885e86d4efb722f2f4065fec034ed4899d8e573cc1a563986d57e93a", func := "corbel/corbellaw09.CommandReads", spec := "commandReads", unfollowed := true, recurses := true, apart := false, narrowed := true }
def CommandReadsUptoSaid : Prop := commandReadsUptoRow.holds Try.pinned (OpenSpec.upto commandReadsSpec)

/-- 'corbellaw10.EntrySnaps', WHERE WHAT IT READS IS OF BULK AT MOST 1048576: true; the input reads as it did. -/
def entrySnapsUptoRow : OpenClaim := { program := "ytondhngfjngngaa", sum := "0d7af000885e86d4efb722f2f4065fec034ed4899d8e573cc1a563986d57e93a", func := "corbel/corbellaw10.EntrySnaps", spec := "entrySnaps", unfollowed := true, recurses := true, apart := false, narrowed := true }
def EntrySnapsUptoSaid : Prop := entrySnapsUptoRow.holds Try.pinned (OpenSpec.upto entrySnapsSpec)

/-- 'corbellaw10.EntryRises', WHERE WHAT IT READS IS OF BULK AT MOST 1048576: true; the input reads as it did. -/
def entryRisesUptoRow : OpenClaim := { program := "ytondhngfjngngaa", sum := "0d7af000885e86d4efb722f2f4065fec034ed4899d8e573cc1a563986d57e93a", func := "corbel/corbellaw10.EntryRises", spec := "entryRises", unfollowed := true, recurses := true, apart := false, narrowed := true }
def EntryRisesUptoSaid : Prop := entryRisesUptoRow.holds Try.pinned (OpenSpec.upto entryRisesSpec)

/-- 'corbellaw10.EntryTells', WHERE WHAT IT READS IS OF BULK AT MOST 1048576: true; the input reads as it did. -/
def entryTellsUptoRow : OpenClaim := { program := "ytondhngfjngngaa", sum := "0d7af000885e86d4efb722f2f4065fec034ed4899d8e573cc1a563986d57e93a", func := "corbel/corbellaw10.EntryTells", spec := "entryTells", unfollowed := true, recurses := true, apart := false, narrowed := true }
def EntryTellsUptoSaid : Prop := entryTellsUptoRow.holds Try.pinned (OpenSpec.upto entryTellsSpec)

/-- 'corbellaw09.CommandReplies', WHERE WHAT IT READS IS OF BULK AT MOST 1048576: true; the input reads as it did. -/
def commandRepliesUptoRow : OpenClaim := { program := "ytondhngfjngngaa", sum := "0d7af000885e86d4efb722f2f4065fec034ed4899d8e573cc1a563986d57e93a", func := "corbel/corbellaw09.CommandReplies", spec := "commandReplies", unfollowed := true, recurses := true, apart := false, narrowed := true }
def CommandRepliesUptoSaid : Prop := commandRepliesUptoRow.holds Try.pinned (OpenSpec.upto commandRepliesSpec)

/-- 'corbellaw09.CommandBack', WHERE WHAT IT READS IS OF BULK AT MOST 1048576: true; the input reads as it did. -/
def commandBackUptoRow : OpenClaim := { program := "ytondhngfjngngaa", sum := "0d7af000885e86d4efb722f2f4065fec034ed4899d8e573cc1a563986d57e93a", func := "corbel/corbellaw09.CommandBack", spec := "commandBack", unfollowed := true, recurses := true, apart := false, narrowed := true }
def CommandBackUptoSaid : Prop := commandBackUptoRow.holds Try.pinned (OpenSpec.upto commandBackSpec)

/-- 'corbellaw10.EntryReads', WHERE WHAT IT READS IS OF BULK AT MOST 1048576: true; the input reads as it did. -/
def entryReadsUptoRow : OpenClaim := { program := "ytondhngfjngngaa", sum := "0d7af000885e86d4efb722f2f4065fec034ed4899d8e573cc1a563986d57e93a", func := "corbel/corbellaw10.EntryReads", spec := "entryReads", unfollowed := true, recurses := true, apart := false, narrowed := true }
def EntryReadsUptoSaid : Prop := entryReadsUptoRow.holds Try.pinned (OpenSpec.upto entryReadsSpec)

/-- 'corbellaw10.EntryBack', WHERE WHAT IT READS IS OF BULK AT MOST 1048576: true; the input reads as it did. -/
def entryBackUptoRow : OpenClaim := { program := "ytondhngfjngngaa", sum := "0d7af000885e86d4efb722f2f4065fec034ed4899d8e573cc1a563986d57e93a", func := "corbel/corbellaw10.EntryBack", spec := "entryBack", unfollowed := true, recurses := true, apart := false, narrowed := true }
def EntryBackUptoSaid : Prop := entryBackUptoRow.holds Try.pinned (OpenSpec.upto entryBackSpec)

/-- 'corbellaw10.EntrySends', WHERE WHAT IT READS IS OF BULK AT MOST 1048576: true; the input reads as it did. -/
def entrySendsUptoRow : OpenClaim := { program := "ytondhngfjngngaa", sum := "0d7af000885e86d4efb722f2f4065fec034ed4899d8e573cc1a563986d57e93a", func := "corbel/corbellaw10.EntrySends", spec := "entrySends", unfollowed := true, recurses := true, apart := false, narrowed := true }
def EntrySendsUptoSaid : Prop := entrySendsUptoRow.holds Try.pinned (OpenSpec.upto entrySendsSpec)

end Rows
end Go.Proofs.Ytondhngfjngngaa
