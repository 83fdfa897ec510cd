/- Contracts of the program's functions, each proved by walking its code. -/
import Derived.Test.YtdaphlemhmgncaaGreatWk18
import Derived.Test.YtdaphlemhmgncaaGreatCmd
set_option linter.unusedVariables false
set_option linter.unusedSimpArgs false
namespace Go.Wk
open Go Go.RowKit
deriving instance DecidableEq for Cmd
structure Pair where
  key : ByteArray
  val : ByteArray
deriving DecidableEq
structure Reply where
  err : Int
  found : Bool
  val : ByteArray
  sess : Int
  pairs : List Pair
deriving DecidableEq
structure Conf where
  vot : List Int
  lea : List Int
deriving DecidableEq
structure Ent where
  idx : Int
  term : Int
  kind : Int
  cmd : Cmd
  conf : Conf
deriving DecidableEq
structure Hard where
  term : Int
  vote : Int
  commit : Int
deriving DecidableEq
structure Snap where
  idx : Int
  term : Int
  conf : Conf
  data : List UInt8
deriving DecidableEq
structure Msg where
  kind : Int
  frm : Int
  to : Int
  term : Int
  idx : Int
  lterm : Int
  commit : Int
  round : Int
  rej : Bool
  hint : Int
  ents : List Ent
  snap : Snap
deriving DecidableEq
structure Sess where
  id : Int
  seq : Int
  rep : Reply
deriving DecidableEq
structure Op where
  cmd : Cmd
  rep : Reply
  start : Int
  stop : Int
  at_ : Int
  read : Bool
deriving DecidableEq
theorem list13 {α : Type} {l : List α} (h : l.length = 13) : ∃ c0 c1 c2 c3 c4 c5 c6 c7 c8 c9 c10 c11 c12, l = [c0, c1, c2, c3, c4, c5, c6, c7, c8, c9, c10, c11, c12] := by
  match l, h with
  | [c0, c1, c2, c3, c4, c5, c6, c7, c8, c9, c10, c11, c12], _ => exact ⟨c0, c1, c2, c3, c4, c5, c6, c7, c8, c9, c10, c11, c12, rfl⟩
def kPair : Kd Pair := Kd.of (β := Unit) 2 (fun (x : Pair) (y : Unit) => [.string x.key, .string x.val]) (fun (x : Pair) (y : Unit) => []) (fun (x : Pair) => x.key.size ≤ BIG ∧ x.val.size ≤ BIG) (fun _ _ => rfl) (by intro x y u hu; simp only [List.mem_cons, List.not_mem_nil, or_false] at hu; rcases hu with rfl | rfl <;> rfl) (by intro x y a ha; cases ha)
def kCmd : Kd Cmd := Kd.of (β := Unit) 8 (fun (x : Cmd) (y : Unit) => [.int .i64 x.kind, .int .i64 x.sess, .int .i64 x.seq, .string x.key, .string x.old, .string x.val, .string x.til, .int .i64 x.lim]) (fun (x : Cmd) (y : Unit) => []) (fun (x : Cmd) => (-9223372036854775808 ≤ x.kind ∧ x.kind ≤ 9223372036854775807) ∧ (-9223372036854775808 ≤ x.sess ∧ x.sess ≤ 9223372036854775807) ∧ (-9223372036854775808 ≤ x.seq ∧ x.seq ≤ 9223372036854775807) ∧ x.key.size ≤ BIG ∧ x.old.size ≤ BIG ∧ x.val.size ≤ BIG ∧ x.til.size ≤ BIG ∧ (-9223372036854775808 ≤ x.lim ∧ x.lim ≤ 9223372036854775807)) (fun _ _ => rfl) (by intro x y u hu; simp only [List.mem_cons, List.not_mem_nil, or_false] at hu; rcases hu with rfl | rfl | rfl | rfl | rfl | rfl | rfl | rfl <;> rfl) (by intro x y a ha; cases ha)
def kReply : Kd Reply := Kd.of (β := (Option Addr × Nat)) 5 (fun (x : Reply) (y : (Option Addr × Nat)) => [.int .i64 x.err, .bool x.found, .string x.val, .int .i64 x.sess, .slice y.1 x.pairs.length y.2]) (fun (x : Reply) (y : (Option Addr × Nat)) => [.dat kPair.sl x.pairs [.slice y.1 x.pairs.length y.2]]) (fun (x : Reply) => (-9223372036854775808 ≤ x.err ∧ x.err ≤ 9223372036854775807) ∧ x.val.size ≤ BIG ∧ (-9223372036854775808 ≤ x.sess ∧ x.sess ≤ 9223372036854775807) ∧ x.pairs.length ≤ BIG) (fun _ _ => rfl) (by intro x y u hu; simp only [List.mem_cons, List.not_mem_nil, or_false] at hu; rcases hu with rfl | rfl | rfl | rfl | rfl <;> rfl) (by intro x y a ha; simp only [List.mem_cons, List.not_mem_nil, or_false] at ha; rcases ha with rfl <;> rfl)
def kConf : Kd Conf := Kd.of (β := (Option Addr × Nat) × (Option Addr × Nat)) 2 (fun (x : Conf) (y : (Option Addr × Nat) × (Option Addr × Nat)) => [.slice y.1.1 x.vot.length y.1.2, .slice y.2.1 x.lea.length y.2.2]) (fun (x : Conf) (y : (Option Addr × Nat) × (Option Addr × Nat)) => [.dat kInt.sl x.vot [.slice y.1.1 x.vot.length y.1.2], .dat kInt.sl x.lea [.slice y.2.1 x.lea.length y.2.2]]) (fun (x : Conf) => x.vot.length ≤ BIG ∧ x.lea.length ≤ BIG) (fun _ _ => rfl) (by intro x y u hu; simp only [List.mem_cons, List.not_mem_nil, or_false] at hu; rcases hu with rfl | rfl <;> rfl) (by intro x y a ha; simp only [List.mem_cons, List.not_mem_nil, or_false] at ha; rcases ha with rfl | rfl <;> rfl)
def kEnt : Kd Ent := Kd.of (β := (Option Addr × Nat) × (Option Addr × Nat)) 13 (fun (x : Ent) (y : (Option Addr × Nat) × (Option Addr × Nat)) => [.int .i64 x.idx, .int .i64 x.term, .int .i64 x.kind, .int .i64 x.cmd.kind, .int .i64 x.cmd.sess, .int .i64 x.cmd.seq, .string x.cmd.key, .string x.cmd.old, .string x.cmd.val, .string x.cmd.til, .int .i64 x.cmd.lim, .slice y.1.1 x.conf.vot.length y.1.2, .slice y.2.1 x.conf.lea.length y.2.2]) (fun (x : Ent) (y : (Option Addr × Nat) × (Option Addr × Nat)) => [.dat kInt.sl x.conf.vot [.slice y.1.1 x.conf.vot.length y.1.2], .dat kInt.sl x.conf.lea [.slice y.2.1 x.conf.lea.length y.2.2]]) (fun (x : Ent) => (-9223372036854775808 ≤ x.idx ∧ x.idx ≤ 9223372036854775807) ∧ (-9223372036854775808 ≤ x.term ∧ x.term ≤ 9223372036854775807) ∧ (-9223372036854775808 ≤ x.kind ∧ x.kind ≤ 9223372036854775807) ∧ (-9223372036854775808 ≤ x.cmd.kind ∧ x.cmd.kind ≤ 9223372036854775807) ∧ (-9223372036854775808 ≤ x.cmd.sess ∧ x.cmd.sess ≤ 9223372036854775807) ∧ (-9223372036854775808 ≤ x.cmd.seq ∧ x.cmd.seq ≤ 9223372036854775807) ∧ x.cmd.key.size ≤ BIG ∧ x.cmd.old.size ≤ BIG ∧ x.cmd.val.size ≤ BIG ∧ x.cmd.til.size ≤ BIG ∧ (-9223372036854775808 ≤ x.cmd.lim ∧ x.cmd.lim ≤ 9223372036854775807) ∧ x.conf.vot.length ≤ BIG ∧ x.conf.lea.length ≤ BIG) (fun _ _ => rfl) (by intro x y u hu; simp only [List.mem_cons, List.not_mem_nil, or_false] at hu; rcases hu with rfl | rfl | rfl | rfl | rfl | rfl | rfl | rfl | rfl | rfl | rfl | rfl | rfl <;> rfl) (by intro x y a ha; simp only [List.mem_cons, List.not_mem_nil, or_false] at ha; rcases ha with rfl | rfl <;> rfl)
theorem open_Ent : Opens kEnt ((Option Addr × Nat) × (Option Addr × Nat)) (fun (x : Ent) (y : (Option Addr × Nat) × (Option Addr × Nat)) => [.int .i64 x.idx, .int .i64 x.term, .int .i64 x.kind, .int .i64 x.cmd.kind, .int .i64 x.cmd.sess, .int .i64 x.cmd.seq, .string x.cmd.key, .string x.cmd.old, .string x.cmd.val, .string x.cmd.til, .int .i64 x.cmd.lim, .slice y.1.1 x.conf.vot.length y.1.2, .slice y.2.1 x.conf.lea.length y.2.2]) (fun (x : Ent) (y : (Option Addr × Nat) × (Option Addr × Nat)) => [.dat kInt.sl x.conf.vot [.slice y.1.1 x.conf.vot.length y.1.2], .dat kInt.sl x.conf.lea [.slice y.2.1 x.conf.lea.length y.2.2]]) (fun (x : Ent) => (-9223372036854775808 ≤ x.idx ∧ x.idx ≤ 9223372036854775807) ∧ (-9223372036854775808 ≤ x.term ∧ x.term ≤ 9223372036854775807) ∧ (-9223372036854775808 ≤ x.kind ∧ x.kind ≤ 9223372036854775807) ∧ (-9223372036854775808 ≤ x.cmd.kind ∧ x.cmd.kind ≤ 9223372036854775807) ∧ (-9223372036854775808 ≤ x.cmd.sess ∧ x.cmd.sess ≤ 9223372036854775807) ∧ (-9223372036854775808 ≤ x.cmd.seq ∧ x.cmd.seq ≤ 9223372036854775807) ∧ x.cmd.key.size ≤ BIG ∧ x.cmd.old.size ≤ BIG ∧ x.cmd.val.size ≤ BIG ∧ x.cmd.til.size ≤ BIG ∧ (-9223372036854775808 ≤ x.cmd.lim ∧ x.cmd.lim ≤ 9223372036854775807) ∧ x.conf.vot.length ≤ BIG ∧ x.conf.lea.length ≤ BIG) := Kd.of_opens _
def kHard : Kd Hard := Kd.of (β := Unit) 3 (fun (x : Hard) (y : Unit) => [.int .i64 x.term, .int .i64 x.vote, .int .i64 x.commit]) (fun (x : Hard) (y : Unit) => []) (fun (x : Hard) => (-9223372036854775808 ≤ x.term ∧ x.term ≤ 9223372036854775807) ∧ (-9223372036854775808 ≤ x.vote ∧ x.vote ≤ 9223372036854775807) ∧ (-9223372036854775808 ≤ x.commit ∧ x.commit ≤ 9223372036854775807)) (fun _ _ => rfl) (by intro x y u hu; simp only [List.mem_cons, List.not_mem_nil, or_false] at hu; rcases hu with rfl | rfl | rfl <;> rfl) (by intro x y a ha; cases ha)
def kSnap : Kd Snap := Kd.of (β := (Option Addr × Nat) × (Option Addr × Nat) × (Option Addr × Nat)) 5 (fun (x : Snap) (y : (Option Addr × Nat) × (Option Addr × Nat) × (Option Addr × Nat)) => [.int .i64 x.idx, .int .i64 x.term, .slice y.1.1 x.conf.vot.length y.1.2, .slice y.2.1.1 x.conf.lea.length y.2.1.2, .slice y.2.2.1 x.data.length y.2.2.2]) (fun (x : Snap) (y : (Option Addr × Nat) × (Option Addr × Nat) × (Option Addr × Nat)) => [.dat kInt.sl x.conf.vot [.slice y.1.1 x.conf.vot.length y.1.2], .dat kInt.sl x.conf.lea [.slice y.2.1.1 x.conf.lea.length y.2.1.2], .dat kByte.sl x.data [.slice y.2.2.1 x.data.length y.2.2.2]]) (fun (x : Snap) => (-9223372036854775808 ≤ x.idx ∧ x.idx ≤ 9223372036854775807) ∧ (-9223372036854775808 ≤ x.term ∧ x.term ≤ 9223372036854775807) ∧ x.conf.vot.length ≤ BIG ∧ x.conf.lea.length ≤ BIG ∧ x.data.length ≤ BIG) (fun _ _ => rfl) (by intro x y u hu; simp only [List.mem_cons, List.not_mem_nil, or_false] at hu; rcases hu with rfl | rfl | rfl | rfl | rfl <;> rfl) (by intro x y a ha; simp only [List.mem_cons, List.not_mem_nil, or_false] at ha; rcases ha with rfl | rfl | rfl <;> rfl)
def kMsg : Kd Msg := Kd.of (β := (Option Addr × Nat) × (Option Addr × Nat) × (Option Addr × Nat) × (Option Addr × Nat)) 16 (fun (x : Msg) (y : (Option Addr × Nat) × (Option Addr × Nat) × (Option Addr × Nat) × (Option Addr × Nat)) => [.int .i64 x.kind, .int .i64 x.frm, .int .i64 x.to, .int .i64 x.term, .int .i64 x.idx, .int .i64 x.lterm, .int .i64 x.commit, .int .i64 x.round, .bool x.rej, .int .i64 x.hint, .slice y.1.1 x.ents.length y.1.2, .int .i64 x.snap.idx, .int .i64 x.snap.term, .slice y.2.1.1 x.snap.conf.vot.length y.2.1.2, .slice y.2.2.1.1 x.snap.conf.lea.length y.2.2.1.2, .slice y.2.2.2.1 x.snap.data.length y.2.2.2.2]) (fun (x : Msg) (y : (Option Addr × Nat) × (Option Addr × Nat) × (Option Addr × Nat) × (Option Addr × Nat)) => [.dat kEnt.sl x.ents [.slice y.1.1 x.ents.length y.1.2], .dat kInt.sl x.snap.conf.vot [.slice y.2.1.1 x.snap.conf.vot.length y.2.1.2], .dat kInt.sl x.snap.conf.lea [.slice y.2.2.1.1 x.snap.conf.lea.length y.2.2.1.2], .dat kByte.sl x.snap.data [.slice y.2.2.2.1 x.snap.data.length y.2.2.2.2]]) (fun (x : Msg) => (-9223372036854775808 ≤ x.kind ∧ x.kind ≤ 9223372036854775807) ∧ (-9223372036854775808 ≤ x.frm ∧ x.frm ≤ 9223372036854775807) ∧ (-9223372036854775808 ≤ x.to ∧ x.to ≤ 9223372036854775807) ∧ (-9223372036854775808 ≤ x.term ∧ x.term ≤ 9223372036854775807) ∧ (-9223372036854775808 ≤ x.idx ∧ x.idx ≤ 9223372036854775807) ∧ (-9223372036854775808 ≤ x.lterm ∧ x.lterm ≤ 9223372036854775807) ∧ (-9223372036854775808 ≤ x.commit ∧ x.commit ≤ 9223372036854775807) ∧ (-9223372036854775808 ≤ x.round ∧ x.round ≤ 9223372036854775807) ∧ (-9223372036854775808 ≤ x.hint ∧ x.hint ≤ 9223372036854775807) ∧ x.ents.length ≤ BIG ∧ (-9223372036854775808 ≤ x.snap.idx ∧ x.snap.idx ≤ 9223372036854775807) ∧ (-9223372036854775808 ≤ x.snap.term ∧ x.snap.term ≤ 9223372036854775807) ∧ x.snap.conf.vot.length ≤ BIG ∧ x.snap.conf.lea.length ≤ BIG ∧ x.snap.data.length ≤ BIG) (fun _ _ => rfl) (by intro x y u hu; simp only [List.mem_cons, List.not_mem_nil, or_false] at hu; rcases hu with rfl | rfl | rfl | rfl | rfl | rfl | rfl | rfl | rfl | rfl | rfl | rfl | rfl | rfl | rfl | rfl <;> rfl) (by intro x y a ha; simp only [List.mem_cons, List.not_mem_nil, or_false] at ha; rcases ha with rfl | rfl | rfl | rfl <;> rfl)
def kSess : Kd Sess := Kd.of (β := (Option Addr × Nat)) 7 (fun (x : Sess) (y : (Option Addr × Nat)) => [.int .i64 x.id, .int .i64 x.seq, .int .i64 x.rep.err, .bool x.rep.found, .string x.rep.val, .int .i64 x.rep.sess, .slice y.1 x.rep.pairs.length y.2]) (fun (x : Sess) (y : (Option Addr × Nat)) => [.dat kPair.sl x.rep.pairs [.slice y.1 x.rep.pairs.length y.2]]) (fun (x : Sess) => (-9223372036854775808 ≤ x.id ∧ x.id ≤ 9223372036854775807) ∧ (-9223372036854775808 ≤ x.seq ∧ x.seq ≤ 9223372036854775807) ∧ (-9223372036854775808 ≤ x.rep.err ∧ x.rep.err ≤ 9223372036854775807) ∧ x.rep.val.size ≤ BIG ∧ (-9223372036854775808 ≤ x.rep.sess ∧ x.rep.sess ≤ 9223372036854775807) ∧ x.rep.pairs.length ≤ BIG) (fun _ _ => rfl) (by intro x y u hu; simp only [List.mem_cons, List.not_mem_nil, or_false] at hu; rcases hu with rfl | rfl | rfl | rfl | rfl | rfl | rfl <;> rfl) (by intro x y a ha; simp only [List.mem_cons, List.not_mem_nil, or_false] at ha; rcases ha with rfl <;> rfl)
def kOp : Kd Op := Kd.of (β := (Option Addr × Nat)) 17 (fun (x : Op) (y : (Option Addr × Nat)) => [.int .i64 x.cmd.kind, .int .i64 x.cmd.sess, .int .i64 x.cmd.seq, .string x.cmd.key, .string x.cmd.old, .string x.cmd.val, .string x.cmd.til, .int .i64 x.cmd.lim, .int .i64 x.rep.err, .bool x.rep.found, .string x.rep.val, .int .i64 x.rep.sess, .slice y.1 x.rep.pairs.length y.2, .int .i64 x.start, .int .i64 x.stop, .int .i64 x.at_, .bool x.read]) (fun (x : Op) (y : (Option Addr × Nat)) => [.dat kPair.sl x.rep.pairs [.slice y.1 x.rep.pairs.length y.2]]) (fun (x : Op) => (-9223372036854775808 ≤ x.cmd.kind ∧ x.cmd.kind ≤ 9223372036854775807) ∧ (-9223372036854775808 ≤ x.cmd.sess ∧ x.cmd.sess ≤ 9223372036854775807) ∧ (-9223372036854775808 ≤ x.cmd.seq ∧ x.cmd.seq ≤ 9223372036854775807) ∧ x.cmd.key.size ≤ BIG ∧ x.cmd.old.size ≤ BIG ∧ x.cmd.val.size ≤ BIG ∧ x.cmd.til.size ≤ BIG ∧ (-9223372036854775808 ≤ x.cmd.lim ∧ x.cmd.lim ≤ 9223372036854775807) ∧ (-9223372036854775808 ≤ x.rep.err ∧ x.rep.err ≤ 9223372036854775807) ∧ x.rep.val.size ≤ BIG ∧ (-9223372036854775808 ≤ x.rep.sess ∧ x.rep.sess ≤ 9223372036854775807) ∧ x.rep.pairs.length ≤ BIG ∧ (-9223372036854775808 ≤ x.start ∧ x.start ≤ 9223372036854775807) ∧ (-9223372036854775808 ≤ x.stop ∧ x.stop ≤ 9223372036854775807) ∧ (-9223372036854775808 ≤ x.at_ ∧ x.at_ ≤ 9223372036854775807)) (fun _ _ => rfl) (by intro x y u hu; simp only [List.mem_cons, List.not_mem_nil, or_false] at hu; rcases hu with rfl | rfl | rfl | rfl | rfl | rfl | rfl | rfl | rfl | rfl | rfl | rfl | rfl | rfl | rfl | rfl | rfl <;> rfl) (by intro x y a ha; simp only [List.mem_cons, List.not_mem_nil, or_false] at ha; rcases ha with rfl <;> rfl)
end Go.Wk
