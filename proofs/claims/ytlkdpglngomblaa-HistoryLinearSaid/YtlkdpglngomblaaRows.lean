/-
  No cell of these rows narrows 'for every input' (looked for: loops, veiled, ifaces, maps, wideKeys, modest, calm, conditions, laid).
  DERIVED. THE GIVEN ROWS OF THIS SEAT. 11 by the template 'for every input the law returns true; each argument reads behind the call as it read before'; 0 by the template 'total and deterministic' (their statements: YtlkdpglngomblaaTotals.lean).
  GIVEN WITH THE SEED: the statements are not yours to turn. If you find one false, say at which input.
  Laid BY PROGRAM, IN A SANDBOX (cutbox-rows.mjs): the forced cells as the released guide's own fill.sh prints them over the translation 82a91dd453b30a30… (all of the seat's roots in one cut). By AI agents, Wed Nov 11 2026. No macro, syntax, notation, axiom, sorry.
-/
import Derived.Test.YtlkdpglngomblaaChecked
import GoSem.Claim
import GoSem.ClaimJoined
import GoSem.ClaimMapViews
import Derived.JoinedTies
import Derived.KernelRfl
namespace Go.Proofs.Ytlkdpglngomblaa
/- THE CELL 'sum', in the pinned program and in every row, IS THE sha256 OF THE DUMP (.gsa) THAT YtlkdpglngomblaaProg.lean LOADS. Nothing in Lean hashes anything: it is a label: what it is worth is what the hold of that sum in a sandbox is worth. -/
noncomputable def Try.pinned : Pinned := { name := "ytlkdpglngomblaa", sum := "82a91dd453b30a307eb00bd113e3018cdfee174d6ac33501f8b706bf64dc3031", checked := Try.checked }
namespace Rows
def none {H : Type} : Left H := { results := [], args := [] }

/-- 'corbellaw22.HistoryLinear': WHATEVER THE INPUT: true; the input reads as it did. -/
def historyLinearSpec : ChangeSpec := { name := "historyLinear", fn := fun _ => fun
  | [d1, d2] => { results := [.lit (.bool true)], args := [d1, d2] }
  | _ => none }
def historyLinearRow : OpenClaim := { program := "ytlkdpglngomblaa", sum := "82a91dd453b30a307eb00bd113e3018cdfee174d6ac33501f8b706bf64dc3031", func := "corbel/corbellaw22.HistoryLinear", spec := "historyLinear", inPlace := ["slices.overlaps[corbel/model.Session]", "slices.overlaps[corbel/api.Pair]"], unfollowed := true, recurses := true, apart := false }
def HistoryLinearSaid : Prop := historyLinearRow.holds Try.pinned (OpenSpec.ofChange historyLinearSpec)

/-- ITS FALSE NEIGHBOUR: 'it returns false'. Refute it at one input. -/
def historyLinearWrong : ChangeSpec := { name := "historyLinear", fn := fun _ => fun
  | [d1, d2] => { results := [.lit (.bool false)], args := [d1, d2] }
  | _ => none }
def HistoryLinearWrongFalsely : Prop := historyLinearRow.holds Try.pinned (OpenSpec.ofChange historyLinearWrong)

/-- 'corbellaw22.HistoryOrders': WHATEVER THE INPUT: true; the input reads as it did. -/
def historyOrdersSpec : ChangeSpec := { name := "historyOrders", fn := fun _ => fun
  | [d] => { results := [.lit (.bool true)], args := [d] }
  | _ => none }
def historyOrdersRow : OpenClaim := { program := "ytlkdpglngomblaa", sum := "82a91dd453b30a307eb00bd113e3018cdfee174d6ac33501f8b706bf64dc3031", func := "corbel/corbellaw22.HistoryOrders", spec := "historyOrders", inPlace := ["slices.overlaps[corbel/model.Session]", "slices.overlaps[corbel/api.Pair]"], unfollowed := true, recurses := true, apart := false }
def HistoryOrdersSaid : Prop := historyOrdersRow.holds Try.pinned (OpenSpec.ofChange historyOrdersSpec)

/-- ITS FALSE NEIGHBOUR: 'it returns false'. Refute it at one input. -/
def historyOrdersWrong : ChangeSpec := { name := "historyOrders", fn := fun _ => fun
  | [d] => { results := [.lit (.bool false)], args := [d] }
  | _ => none }
def HistoryOrdersWrongFalsely : Prop := historyOrdersRow.holds Try.pinned (OpenSpec.ofChange historyOrdersWrong)

/-- 'corbellaw20.ModelFolds': WHATEVER THE INPUT: true; the input reads as it did. -/
def modelFoldsSpec : ChangeSpec := { name := "modelFolds", fn := fun _ => fun
  | [d1, d2, d3] => { results := [.lit (.bool true)], args := [d1, d2, d3] }
  | _ => none }
def modelFoldsRow : OpenClaim := { program := "ytlkdpglngomblaa", sum := "82a91dd453b30a307eb00bd113e3018cdfee174d6ac33501f8b706bf64dc3031", func := "corbel/corbellaw20.ModelFolds", spec := "modelFolds", inPlace := ["slices.overlaps[corbel/model.Session]", "slices.overlaps[corbel/api.Pair]"], unfollowed := true, recurses := true, apart := false }
def ModelFoldsSaid : Prop := modelFoldsRow.holds Try.pinned (OpenSpec.ofChange modelFoldsSpec)

/-- ITS FALSE NEIGHBOUR: 'it returns false'. Refute it at one input. -/
def modelFoldsWrong : ChangeSpec := { name := "modelFolds", fn := fun _ => fun
  | [d1, d2, d3] => { results := [.lit (.bool false)], args := [d1, d2, d3] }
  | _ => none }
def ModelFoldsWrongFalsely : Prop := modelFoldsRow.holds Try.pinned (OpenSpec.ofChange modelFoldsWrong)

/-- 'corbellaw20.ModelMaps': WHATEVER THE INPUT: true; the input reads as it did. -/
def modelMapsSpec : ChangeSpec := { name := "modelMaps", fn := fun _ => fun
  | [d1, d2, d3] => { results := [.lit (.bool true)], args := [d1, d2, d3] }
  | _ => none }
def modelMapsRow : OpenClaim := { program := "ytlkdpglngomblaa", sum := "82a91dd453b30a307eb00bd113e3018cdfee174d6ac33501f8b706bf64dc3031", func := "corbel/corbellaw20.ModelMaps", spec := "modelMaps", inPlace := ["slices.overlaps[corbel/model.Session]", "slices.overlaps[corbel/api.Pair]"], unfollowed := true, recurses := true, apart := false }
def ModelMapsSaid : Prop := modelMapsRow.holds Try.pinned (OpenSpec.ofChange modelMapsSpec)

/-- ITS FALSE NEIGHBOUR: 'it returns false'. Refute it at one input. -/
def modelMapsWrong : ChangeSpec := { name := "modelMaps", fn := fun _ => fun
  | [d1, d2, d3] => { results := [.lit (.bool false)], args := [d1, d2, d3] }
  | _ => none }
def ModelMapsWrongFalsely : Prop := modelMapsRow.holds Try.pinned (OpenSpec.ofChange modelMapsWrong)

/-- 'corbellaw20.ModelScans': WHATEVER THE INPUT: true; the input reads as it did. -/
def modelScansSpec : ChangeSpec := { name := "modelScans", fn := fun _ => fun
  | [d1, d2] => { results := [.lit (.bool true)], args := [d1, d2] }
  | _ => none }
def modelScansRow : OpenClaim := { program := "ytlkdpglngomblaa", sum := "82a91dd453b30a307eb00bd113e3018cdfee174d6ac33501f8b706bf64dc3031", func := "corbel/corbellaw20.ModelScans", spec := "modelScans", inPlace := ["slices.overlaps[corbel/model.Session]", "slices.overlaps[corbel/api.Pair]"], unfollowed := true, recurses := true, apart := false }
def ModelScansSaid : Prop := modelScansRow.holds Try.pinned (OpenSpec.ofChange modelScansSpec)

/-- ITS FALSE NEIGHBOUR: 'it returns false'. Refute it at one input. -/
def modelScansWrong : ChangeSpec := { name := "modelScans", fn := fun _ => fun
  | [d1, d2] => { results := [.lit (.bool false)], args := [d1, d2] }
  | _ => none }
def ModelScansWrongFalsely : Prop := modelScansRow.holds Try.pinned (OpenSpec.ofChange modelScansWrong)

/-- 'corbellaw20.ModelOnce': WHATEVER THE INPUT: true; the input reads as it did. -/
def modelOnceSpec : ChangeSpec := { name := "modelOnce", fn := fun _ => fun
  | [d1, d2, d3] => { results := [.lit (.bool true)], args := [d1, d2, d3] }
  | _ => none }
def modelOnceRow : OpenClaim := { program := "ytlkdpglngomblaa", sum := "82a91dd453b30a307eb00bd113e3018cdfee174d6ac33501f8b706bf64dc3031", func := "corbel/corbellaw20.ModelOnce", spec := "modelOnce", inPlace := ["slices.overlaps[corbel/model.Session]", "slices.overlaps[corbel/api.Pair]"], unfollowed := true, recurses := true, apart := false }
def ModelOnceSaid : Prop := modelOnceRow.holds Try.pinned (OpenSpec.ofChange modelOnceSpec)

/-- ITS FALSE NEIGHBOUR: 'it returns false'. Refute it at one input. -/
def modelOnceWrong : ChangeSpec := { name := "modelOnce", fn := fun _ => fun
  | [d1, d2, d3] => { results := [.lit (.bool false)], args := [d1, d2, d3] }
  | _ => none }
def ModelOnceWrongFalsely : Prop := modelOnceRow.holds Try.pinned (OpenSpec.ofChange modelOnceWrong)

/-- 'corbellaw20.ModelQueries': WHATEVER THE INPUT: true; the input reads as it did. -/
def modelQueriesSpec : ChangeSpec := { name := "modelQueries", fn := fun _ => fun
  | [d1, d2] => { results := [.lit (.bool true)], args := [d1, d2] }
  | _ => none }
def modelQueriesRow : OpenClaim := { program := "ytlkdpglngomblaa", sum := "82a91dd453b30a307eb00bd113e3018cdfee174d6ac33501f8b706bf64dc3031", func := "corbel/corbellaw20.ModelQueries", spec := "modelQueries", inPlace := ["slices.overlaps[corbel/model.Session]", "slices.overlaps[corbel/api.Pair]"], unfollowed := true, recurses := true, apart := false }
def ModelQueriesSaid : Prop := modelQueriesRow.holds Try.pinned (OpenSpec.ofChange modelQueriesSpec)

/-- ITS FALSE NEIGHBOUR: 'it returns false'. Refute it at one input. -/
def modelQueriesWrong : ChangeSpec := { name := "modelQueries", fn := fun _ => fun
  | [d1, d2] => { results := [.lit (.bool false)], args := [d1, d2] }
  | _ => none }
def ModelQueriesWrongFalsely : Prop := modelQueriesRow.holds Try.pinned (OpenSpec.ofChange modelQueriesWrong)

/-- 'corbellaw20.ModelExpires': WHATEVER THE INPUT: true; the input reads as it did. -/
def modelExpiresSpec : ChangeSpec := { name := "modelExpires", fn := fun _ => fun
  | [d1, d2, d3] => { results := [.lit (.bool true)], args := [d1, d2, d3] }
  | _ => none }
def modelExpiresRow : OpenClaim := { program := "ytlkdpglngomblaa", sum := "82a91dd453b30a307eb00bd113e3018cdfee174d6ac33501f8b706bf64dc3031", func := "corbel/corbellaw20.ModelExpires", spec := "modelExpires", inPlace := ["slices.overlaps[corbel/model.Session]", "slices.overlaps[corbel/api.Pair]"], unfollowed := true, recurses := true, apart := false }
def ModelExpiresSaid : Prop := modelExpiresRow.holds Try.pinned (OpenSpec.ofChange modelExpiresSpec)

/-- ITS FALSE NEIGHBOUR: 'it returns false'. Refute it at one input. -/
def modelExpiresWrong : ChangeSpec := { name := "modelExpires", fn := fun _ => fun
  | [d1, d2, d3] => { results := [.lit (.bool false)], args := [d1, d2, d3] }
  | _ => none }
def ModelExpiresWrongFalsely : Prop := modelExpiresRow.holds Try.pinned (OpenSpec.ofChange modelExpiresWrong)

/-- 'corbellaw22.HistoryParts': WHATEVER THE INPUT: true; the input reads as it did. -/
def historyPartsSpec : ChangeSpec := { name := "historyParts", fn := fun _ => fun
  | [d1, d2, d3] => { results := [.lit (.bool true)], args := [d1, d2, d3] }
  | _ => none }
def historyPartsRow : OpenClaim := { program := "ytlkdpglngomblaa", sum := "82a91dd453b30a307eb00bd113e3018cdfee174d6ac33501f8b706bf64dc3031", func := "corbel/corbellaw22.HistoryParts", spec := "historyParts", inPlace := ["slices.overlaps[corbel/model.Session]", "slices.overlaps[corbel/api.Pair]"], unfollowed := true, recurses := true, apart := false }
def HistoryPartsSaid : Prop := historyPartsRow.holds Try.pinned (OpenSpec.ofChange historyPartsSpec)

/-- ITS FALSE NEIGHBOUR: 'it returns false'. Refute it at one input. -/
def historyPartsWrong : ChangeSpec := { name := "historyParts", fn := fun _ => fun
  | [d1, d2, d3] => { results := [.lit (.bool false)], args := [d1, d2, d3] }
  | _ => none }
def HistoryPartsWrongFalsely : Prop := historyPartsRow.holds Try.pinned (OpenSpec.ofChange historyPartsWrong)

/-- 'corbellaw22.HistoryWrong': WHATEVER THE INPUT: true; the input reads as it did. -/
def historyWrongSpec : ChangeSpec := { name := "historyWrong", fn := fun _ => fun
  | [d1, d2, d3] => { results := [.lit (.bool true)], args := [d1, d2, d3] }
  | _ => none }
def historyWrongRow : OpenClaim := { program := "ytlkdpglngomblaa", sum := "82a91dd453b30a307eb00bd113e3018cdfee174d6ac33501f8b706bf64dc3031", func := "corbel/corbellaw22.HistoryWrong", spec := "historyWrong", inPlace := ["slices.overlaps[corbel/model.Session]", "slices.overlaps[corbel/api.Pair]"], unfollowed := true, recurses := true, apart := false }
def HistoryWrongSaid : Prop := historyWrongRow.holds Try.pinned (OpenSpec.ofChange historyWrongSpec)

/-- ITS FALSE NEIGHBOUR: 'it returns false'. Refute it at one input. -/
def historyWrongWrong : ChangeSpec := { name := "historyWrong", fn := fun _ => fun
  | [d1, d2, d3] => { results := [.lit (.bool false)], args := [d1, d2, d3] }
  | _ => none }
def HistoryWrongWrongFalsely : Prop := historyWrongRow.holds Try.pinned (OpenSpec.ofChange historyWrongWrong)

/-- 'corbellaw22.HistoryChecks': WHATEVER THE INPUT: true; the input reads as it did. -/
def historyChecksSpec : ChangeSpec := { name := "historyChecks", fn := fun _ => fun
  | [d1, d2] => { results := [.lit (.bool true)], args := [d1, d2] }
  | _ => none }
def historyChecksRow : OpenClaim := { program := "ytlkdpglngomblaa", sum := "82a91dd453b30a307eb00bd113e3018cdfee174d6ac33501f8b706bf64dc3031", func := "corbel/corbellaw22.HistoryChecks", spec := "historyChecks", inPlace := ["slices.overlaps[corbel/model.Session]", "slices.overlaps[corbel/api.Pair]"], unfollowed := true, recurses := true, apart := false }
def HistoryChecksSaid : Prop := historyChecksRow.holds Try.pinned (OpenSpec.ofChange historyChecksSpec)

/-- ITS FALSE NEIGHBOUR: 'it returns false'. Refute it at one input. -/
def historyChecksWrong : ChangeSpec := { name := "historyChecks", fn := fun _ => fun
  | [d1, d2] => { results := [.lit (.bool false)], args := [d1, d2] }
  | _ => none }
def HistoryChecksWrongFalsely : Prop := historyChecksRow.holds Try.pinned (OpenSpec.ofChange historyChecksWrong)

/- THE SECOND FORM. 'bulk': how many values and letters a reading holds, each counted each time it is reached (what is shared counts as often as it is met; a slice's spare places count too). A statement '..UptoSaid' is the law's where the arguments, and the package variables that the reading takes, are together of bulk at most 1048576: NARROWER than '..Said'. Prove '..Said' where nothing that the law and all that it calls make is longer than what came in: it says more and counts as full. Else prove '..UptoSaid'. A law counts once. -/
mutual
def uptoBulk {H : Type} : DataW H → Nat
  | .lit (.string bytes) => bytes.length + 1
  | .lit _ => 1
  | .nil => 1
  | .ptr d => uptoBulk d + 1
  | .slice elems spare => uptoBulkAll elems + uptoBulkAll spare + 1
  | .agg parts => uptoBulkAll parts + 1
  | .iface _ d => uptoBulk d + 1
  | .map entries => uptoBulkEntries entries + 1
  | .held _ => 1
def uptoBulkAll {H : Type} : List (DataW H) → Nat
  | [] => 0
  | d :: r => uptoBulk d + uptoBulkAll r
def uptoBulkEntries {H : Type} : List (Lit × DataW H) → Nat
  | [] => 0
  | x :: r => uptoBulkEntry x + uptoBulkEntries r
def uptoBulkEntry {H : Type} : Lit × DataW H → Nat
  | (.string bytes, d) => bytes.length + uptoBulk d + 1
  | (_, d) => uptoBulk d + 1
 end
def uptoSmall : (H : Type) → List (DataW H) → Bool := fun _ ds => decide (uptoBulkAll ds ≤ 1048576)
def OpenSpec.upto (s : _root_.Go.ChangeSpec) : _root_.Go.OpenSpec := { _root_.Go.OpenSpec.ofChange s with cond := some uptoSmall }

/-- 'corbellaw22.HistoryLinear', WHERE WHAT IT READS IS OF BULK AT MOST 1048576: true; the input reads as it did. -/
def historyLinearUptoRow : OpenClaim := { program := "ytlkdpglngomblaa", sum := "82a91dd453b30a307eb00bd113e3018cdfee174d6ac33501f8b706bf64dc3031", func := "corbel/corbellaw22.HistoryLinear", spec := "historyLinear", inPlace := ["slices.overlaps[corbel/model.Session]", "slices.overlaps[corbel/api.Pair]"], unfollowed := true, recurses := true, apart := false, narrowed := true }
def HistoryLinearUptoSaid : Prop := historyLinearUptoRow.holds Try.pinned (OpenSpec.upto historyLinearSpec)

/-- 'corbellaw22.HistoryOrders', WHERE WHAT IT READS IS OF BULK AT MOST 1048576: true; the input reads as it did. -/
def historyOrdersUptoRow : OpenClaim := { program := "ytlkdpglngomblaa", sum := "82a91dd453b30a307eb00bd113e3018cdfee174d6ac33501f8b706bf64dc3031", func := "corbel/corbellaw22.HistoryOrders", spec := "historyOrders", inPlace := ["slices.overlaps[corbel/model.Session]", "slices.overlaps[corbel/api.Pair]"], unfollowed := true, recurses := true, apart := false, narrowed := true }
def HistoryOrdersUptoSaid : Prop := historyOrdersUptoRow.holds Try.pinned (OpenSpec.upto historyOrdersSpec)

/-- 'corbellaw20.ModelFolds', WHERE WHAT IT READS IS OF BULK AT MOST 1048576: true; the input reads as it did. -/
def modelFoldsUptoRow : OpenClaim := { program := "ytlkdpglngomblaa", sum := "82a91dd453b30a307eb00bd113e3018cdfee174d6ac33501f8b706bf64dc3031", func := "corbel/corbellaw20.ModelFolds", spec := "modelFolds", inPlace := ["slices.overlaps[corbel/model.Session]", "slices.overlaps[corbel/api.Pair]"], unfollowed := true, recurses := true, apart := false, narrowed := true }
def ModelFoldsUptoSaid : Prop := modelFoldsUptoRow.holds Try.pinned (OpenSpec.upto modelFoldsSpec)

/-- 'corbellaw20.ModelMaps', WHERE WHAT IT READS IS OF BULK AT MOST 1048576: true; the input reads as it did. -/
def modelMapsUptoRow : OpenClaim := { program := "ytlkdpglngomblaa", sum := "82a91dd453b30a307eb00bd113e3018cdfee174d6ac33501f8b706bf64dc3031", func := "corbel/corbellaw20.ModelMaps", spec := "modelMaps", inPlace := ["slices.overlaps[corbel/model.Session]", "slices.overlaps[corbel/api.Pair]"], unfollowed := true, recurses := true, apart := false, narrowed := true }
def ModelMapsUptoSaid : Prop := modelMapsUptoRow.holds Try.pinned (OpenSpec.upto modelMapsSpec)

/-- 'corbellaw20.ModelScans', WHERE WHAT IT READS IS OF BULK AT MOST 1048576: true; the input reads as it did. -/
def modelScansUptoRow : OpenClaim := { program := "ytlkdpglngomblaa", sum := "82a91dd453b30a307eb00bd113e3018cdfee174d6ac33501f8b706bf64dc3031", func := "corbel/corbellaw20.ModelScans", spec := "modelScans", inPlace := ["slices.overlaps[corbel/model.Session]", "slices.overlaps[corbel/api.Pair]"], unfollowed := true, recurses := true, apart := false, narrowed := true }
def ModelScansUptoSaid : Prop := modelScansUptoRow.holds Try.pinned (OpenSpec.upto modelScansSpec)

/-- 'corbellaw20.ModelOnce', WHERE WHAT IT READS IS OF BULK AT MOST 1048576: true; the input reads as it did. -/
def modelOnceUptoRow : OpenClaim := { program := "ytlkdpglngomblaa", sum := "82a91dd453b30a307eb00bd113e3018cdfee174d6ac33501f8b706bf64dc3031", func := "corbel/corbellaw20.ModelOnce", spec := "modelOnce", inPlace := ["slices.overlaps[corbel/model.Session]", "slices.overlaps[corbel/api.Pair]"], unfollowed := true, recurses := true, apart := false, narrowed := true }
def ModelOnceUptoSaid : Prop := modelOnceUptoRow.holds Try.pinned (OpenSpec.upto modelOnceSpec)

/-- 'corbellaw20.ModelQueries', WHERE WHAT IT READS IS OF BULK AT MOST 1048576: true; the input reads as it did. -/
def modelQueriesUptoRow : OpenClaim := { program := "ytlkdpglngomblaa", sum := "82a91dd453b30a307eb00bd113e3018cdfee174d6ac33501f8b706bf64dc3031", func := "corbel/corbellaw20.ModelQueries", spec := "modelQueries", inPlace := ["slices.overlaps[corbel/model.Session]", "slices.overlaps[corbel/api.Pair]"], unfollowed := true, recurses := true, apart := false, narrowed := true }
def ModelQueriesUptoSaid : Prop := modelQueriesUptoRow.holds Try.pinned (OpenSpec.upto modelQueriesSpec)

/-- 'corbellaw20.ModelExpires', WHERE WHAT IT READS IS OF BULK AT MOST 1048576: true; the input reads as it did. -/
def modelExpiresUptoRow : OpenClaim := { program := "ytlkdpglngomblaa", sum := "82a91dd453b30a307eb00bd113e3018cdfee174d6ac33501f8b706bf64dc3031", func := "corbel/corbellaw20.ModelExpires", spec := "modelExpires", inPlace := ["slices.overlaps[corbel/model.Session]", "slices.overlaps[corbel/api.Pair]"], unfollowed := true, recurses := true, apart := false, narrowed := true }
def ModelExpiresUptoSaid : Prop := modelExpiresUptoRow.holds Try.pinned (OpenSpec.upto modelExpiresSpec)

/-- 'corbellaw22.HistoryParts', WHERE WHAT IT READS IS OF BULK AT MOST 1048576: true; the input reads as it did. -/
def historyPartsUptoRow : OpenClaim := { program := "ytlkdpglngomblaa", sum := "82a91dd453b30a307eb00bd113e3018cdfee174d6ac33501f8b706bf64dc3031", func := "corbel/corbellaw22.HistoryParts", spec := "historyParts", inPlace := ["slices.overlaps[corbel/model.Session]", "slices.overlaps[corbel/api.Pair]"], unfollowed := true, recurses := true, apart := false, narrowed := true }
def HistoryPartsUptoSaid : Prop := historyPartsUptoRow.holds Try.pinned (OpenSpec.upto historyPartsSpec)

/-- 'corbellaw22.HistoryWrong', WHERE WHAT IT READS IS OF BULK AT MOST 1048576: true; the input reads as it did. -/
def historyWrongUptoRow : OpenClaim := { program := "ytlkdpglngomblaa", sum := "82a91dd453b30a307eb00bd113e3018cdfee174d6ac33501f8b706bf64dc3031", func := "corbel/corbellaw22.HistoryWrong", spec := "historyWrong", inPlace := ["slices.overlaps[corbel/model.Session]", "slices.overlaps[corbel/api.Pair]"], unfollowed := true, recurses := true, apart := false, narrowed := true }
def HistoryWrongUptoSaid : Prop := historyWrongUptoRow.holds Try.pinned (OpenSpec.upto historyWrongSpec)

/-- 'corbellaw22.HistoryChecks', WHERE WHAT IT READS IS OF BULK AT MOST 1048576: true; the input reads as it did. -/
def historyChecksUptoRow : OpenClaim := { program := "ytlkdpglngomblaa", sum := "82a91dd453b30a307eb00bd113e3018cdfee174d6ac33501f8b706bf64dc3031", func := "corbel/corbellaw22.HistoryChecks", spec := "historyChecks", inPlace := ["slices.overlaps[corbel/model.Session]", "slices.overlaps[corbel/api.Pair]"], unfollowed := true, recurses := true, apart := false, narrowed := true }
def HistoryChecksUptoSaid : Prop := historyChecksUptoRow.holds Try.pinned (OpenSpec.upto historyChecksSpec)

end Rows
end Go.Proofs.Ytlkdpglngomblaa
