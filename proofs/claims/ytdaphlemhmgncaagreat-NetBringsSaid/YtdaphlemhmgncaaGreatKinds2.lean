/- Kinds of structs, as rows of cells. -/
import Derived.Test.YtdaphlemhmgncaaGreatWk23
set_option linter.unusedVariables false
set_option linter.unusedSimpArgs false
namespace Go.Wk
open Go Go.RowKit
structure Bs where
  b : List UInt8
deriving DecidableEq
structure Act where
  kind : Int
  m : Msg
  n : Int
  k : Int
  b : Int
deriving DecidableEq
def kBs : Kd Bs := Kd.of (β := (Option Addr × Nat)) 1 (fun (x : Bs) (y : (Option Addr × Nat)) => [.slice y.1 x.b.length y.2]) (fun (x : Bs) (y : (Option Addr × Nat)) => [.dat kByte.sl x.b [.slice y.1 x.b.length y.2]]) (fun (x : Bs) => x.b.length ≤ BIG) (fun _ _ => rfl) (by intro x y u hu; simp only [List.mem_cons, List.not_mem_nil, or_false] at hu; rcases hu with rfl <;> rfl) (by intro x y a ha; simp only [List.mem_cons, List.not_mem_nil, or_false] at ha; rcases ha with rfl <;> rfl)
def kAct : Kd Act := Kd.of (β := (Option Addr × Nat) × (Option Addr × Nat) × (Option Addr × Nat) × (Option Addr × Nat)) 20 (fun (x : Act) (y : (Option Addr × Nat) × (Option Addr × Nat) × (Option Addr × Nat) × (Option Addr × Nat)) => [.int .i64 x.kind, .int .i64 x.m.kind, .int .i64 x.m.frm, .int .i64 x.m.to, .int .i64 x.m.term, .int .i64 x.m.idx, .int .i64 x.m.lterm, .int .i64 x.m.commit, .int .i64 x.m.round, .bool x.m.rej, .int .i64 x.m.hint, .slice y.1.1 x.m.ents.length y.1.2, .int .i64 x.m.snap.idx, .int .i64 x.m.snap.term, .slice y.2.1.1 x.m.snap.conf.vot.length y.2.1.2, .slice y.2.2.1.1 x.m.snap.conf.lea.length y.2.2.1.2, .slice y.2.2.2.1 x.m.snap.data.length y.2.2.2.2, .int .i64 x.n, .int .i64 x.k, .int .i64 x.b]) (fun (x : Act) (y : (Option Addr × Nat) × (Option Addr × Nat) × (Option Addr × Nat) × (Option Addr × Nat)) => [.dat kEnt.sl x.m.ents [.slice y.1.1 x.m.ents.length y.1.2], .dat kInt.sl x.m.snap.conf.vot [.slice y.2.1.1 x.m.snap.conf.vot.length y.2.1.2], .dat kInt.sl x.m.snap.conf.lea [.slice y.2.2.1.1 x.m.snap.conf.lea.length y.2.2.1.2], .dat kByte.sl x.m.snap.data [.slice y.2.2.2.1 x.m.snap.data.length y.2.2.2.2]]) (fun (x : Act) => (-9223372036854775808 ≤ x.kind ∧ x.kind ≤ 9223372036854775807) ∧ (-9223372036854775808 ≤ x.m.kind ∧ x.m.kind ≤ 9223372036854775807) ∧ (-9223372036854775808 ≤ x.m.frm ∧ x.m.frm ≤ 9223372036854775807) ∧ (-9223372036854775808 ≤ x.m.to ∧ x.m.to ≤ 9223372036854775807) ∧ (-9223372036854775808 ≤ x.m.term ∧ x.m.term ≤ 9223372036854775807) ∧ (-9223372036854775808 ≤ x.m.idx ∧ x.m.idx ≤ 9223372036854775807) ∧ (-9223372036854775808 ≤ x.m.lterm ∧ x.m.lterm ≤ 9223372036854775807) ∧ (-9223372036854775808 ≤ x.m.commit ∧ x.m.commit ≤ 9223372036854775807) ∧ (-9223372036854775808 ≤ x.m.round ∧ x.m.round ≤ 9223372036854775807) ∧ (-9223372036854775808 ≤ x.m.hint ∧ x.m.hint ≤ 9223372036854775807) ∧ x.m.ents.length ≤ BIG ∧ (-9223372036854775808 ≤ x.m.snap.idx ∧ x.m.snap.idx ≤ 9223372036854775807) ∧ (-9223372036854775808 ≤ x.m.snap.term ∧ x.m.snap.term ≤ 9223372036854775807) ∧ x.m.snap.conf.vot.length ≤ BIG ∧ x.m.snap.conf.lea.length ≤ BIG ∧ x.m.snap.data.length ≤ BIG ∧ (-9223372036854775808 ≤ x.n ∧ x.n ≤ 9223372036854775807) ∧ (-9223372036854775808 ≤ x.k ∧ x.k ≤ 9223372036854775807) ∧ (-9223372036854775808 ≤ x.b ∧ x.b ≤ 9223372036854775807)) (fun _ _ => rfl) (by intro x y u hu; simp only [List.mem_cons, List.not_mem_nil, or_false] at hu; rcases hu with rfl | rfl | rfl | rfl | rfl | rfl | rfl | rfl | rfl | rfl | rfl | rfl | rfl | rfl | rfl | rfl | rfl | rfl | rfl | rfl <;> rfl) (by intro x y a ha; simp only [List.mem_cons, List.not_mem_nil, or_false] at ha; rcases ha with rfl | rfl | rfl | rfl <;> rfl)
def kUint : Kd Nat := .flat 1 (fun x => [.int .u64 (x : Int)]) (fun x => x < 18446744073709551616) (fun _ => rfl) (by intro x u hu; simp at hu; subst hu; rfl)
theorem open_Uint : Opens kUint Unit (fun z _ => [.int .u64 (z : Int)]) (fun _ _ => []) (fun z => z < 18446744073709551616) := ⟨fun h => ⟨h.2, (), h.1, fun a ha => by cases ha⟩⟩
theorem Rd.uint {P : Program} {t : TypeId} (hu : P.underlying t = some (.int .u64)) : Rd P t kUint := fun h _ => by
  obtain ⟨n, e, hn⟩ := rd_u64 hu h
  exact ⟨n, e, hn⟩
end Go.Wk
