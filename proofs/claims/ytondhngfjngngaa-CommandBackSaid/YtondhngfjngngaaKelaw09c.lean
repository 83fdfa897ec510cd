/- Contracts of the program's functions, each proved by walking its code. -/
import Derived.Test.YtondhngfjngngaaKerep
import Derived.Test.YtondhngfjngngaaRep
import Derived.Test.YtondhngfjngngaaKinds
set_option maxRecDepth 100000
set_option linter.unusedVariables false
set_option linter.unusedSimpArgs false
namespace Go.Wk.Flaw09c
open Go Go.RowKit Go.Proofs Go.Wk
theorem elt5 : Elt Try.prog 5 (.int .u8 (0)) 1 1 := Elt.of (by kernel_rfl) (by rfl) (by decide) (by decide)
theorem eq23_eql {x y : Operand} {a0 b0 : Int} {a1 b1 : Int} {a2 b2 : Int} {a3 b3 : ByteArray} {a4 b4 : ByteArray} {a5 b5 : ByteArray} {a6 b6 : ByteArray} {a7 b7 : Int} : BinR Try.prog .eql 23 x y (.agg #[.int .i64 a0, .int .i64 a1, .int .i64 a2, .string a3, .string a4, .string a5, .string a6, .int .i64 a7]) (.agg #[.int .i64 b0, .int .i64 b1, .int .i64 b2, .string b3, .string b4, .string b5, .string b6, .int .i64 b7]) (.bool (decide (a0 = b0) && (decide (a1 = b1) && (decide (a2 = b2) && (decide (a3 = b3) && (decide (a4 = b4) && (decide (a5 = b5) && (decide (a6 = b6) && (decide (a7 = b7) && true))))))))) :=
  bin_eqs_agg (by kernel_rfl) Try.underlying23 (by kernel_rfl) (fun w => (eqF_int (by decide) Try.underlying3 Try.isAgg3 rfl rfl (eqF_int (by decide) Try.underlying3 Try.isAgg3 rfl rfl (eqF_int (by decide) Try.underlying3 Try.isAgg3 rfl rfl (eqF_str (by decide) Try.underlying9 Try.isAgg9 rfl rfl (eqF_str (by decide) Try.underlying9 Try.isAgg9 rfl rfl (eqF_str (by decide) Try.underlying9 Try.isAgg9 rfl rfl (eqF_str (by decide) Try.underlying9 Try.isAgg9 rfl rfl (eqF_int (by decide) Try.underlying3 Try.isAgg3 rfl rfl eqF_nil)))))))))
theorem eq23_neq {x y : Operand} {a0 b0 : Int} {a1 b1 : Int} {a2 b2 : Int} {a3 b3 : ByteArray} {a4 b4 : ByteArray} {a5 b5 : ByteArray} {a6 b6 : ByteArray} {a7 b7 : Int} : BinR Try.prog .neq 23 x y (.agg #[.int .i64 a0, .int .i64 a1, .int .i64 a2, .string a3, .string a4, .string a5, .string a6, .int .i64 a7]) (.agg #[.int .i64 b0, .int .i64 b1, .int .i64 b2, .string b3, .string b4, .string b5, .string b6, .int .i64 b7]) (.bool (!(decide (a0 = b0) && (decide (a1 = b1) && (decide (a2 = b2) && (decide (a3 = b3) && (decide (a4 = b4) && (decide (a5 = b5) && (decide (a6 = b6) && (decide (a7 = b7) && true)))))))))) :=
  bin_nes_agg (by kernel_rfl) Try.underlying23 (by kernel_rfl) (fun w => (eqF_int (by decide) Try.underlying3 Try.isAgg3 rfl rfl (eqF_int (by decide) Try.underlying3 Try.isAgg3 rfl rfl (eqF_int (by decide) Try.underlying3 Try.isAgg3 rfl rfl (eqF_str (by decide) Try.underlying9 Try.isAgg9 rfl rfl (eqF_str (by decide) Try.underlying9 Try.isAgg9 rfl rfl (eqF_str (by decide) Try.underlying9 Try.isAgg9 rfl rfl (eqF_str (by decide) Try.underlying9 Try.isAgg9 rfl rfl (eqF_int (by decide) Try.underlying3 Try.isAgg3 rfl rfl eqF_nil)))))))))
end Go.Wk.Flaw09c
namespace Go.Wk
open Go Go.RowKit Go.Proofs Flaw09c 
theorem CommandBack_spec (ki cs sq : Int) (ke ol cv ti : ByteArray) (li : Int) (er : Int) (fo : Bool) (va : ByteArray) (se : Int) (ps : List Pair) (a : Option Addr) (c : Nat) (s1 : ke.size ≤ 140737488351232) (s2 : ol.size ≤ 140737488351232) (s3 : cv.size ≤ 140737488351232) (s4 : ti.size ≤ 140737488351232) (hw : Cmd.whole ⟨ki, cs, sq, ke, ol, cv, ti, li⟩) (ve : -9223372036854775808 ≤ er ∧ er ≤ 9223372036854775807) (vs : -9223372036854775808 ≤ se ∧ se ≤ 9223372036854775807) (sv : va.size ≤ BIG) (sl : ps.length ≤ BIG) : Spec Try.prog 10 #[.agg #[.int .i64 (ki), .int .i64 (cs), .int .i64 (sq), .string (ke), .string (ol), .string (cv), .string (ti), .int .i64 (li)], .agg #[.int .i64 (er), .bool (fo), .string (va), .int .i64 (se), .slice a (ps.length) c]] [.dat kPair.sl (ps) [.slice a (ps.length) c]] (β := Unit) (fun y => .bool (true)) (fun y => True) (fun y => []) := by
  refine Spec.enter (vs := [_, _]) Try.func10 rfl Try.ntmps10 rfl (Nat.le_of_ble_eq_true rfl) (fun w0 ok0 => ?_)
  generalize hM0 : blks _ = M0
  have hMn : ∀ {R : List Atom} (b : Nat), M0 b → blks R b := fun b hb => absurd (hM0 ▸ hb) (blks_none (by simp [Atom.dat, Atom.elem]) b)
  refine H_len_le (i := 0) rfl ?_
  intro hlen0
  refine H_seq ?_
  -- R0 law.go:61
  refine H_region (l := [_, _, _]) rfl ?_
  refine HO_box (cs := [_, _, _, _, _, _, _, _]) rfl rfl rfl rfl ?_
  intro g2
  refine HO_box (cs := [_, _, _, _, _]) rfl rfl rfl rfl ?_
  intro g3
  refine HO_assign rfl rfl rfl ?_
  refine HO_nil ?_
  refine H_env (ρ' := [(3, _), (2, _)]) ⟨rfl, rfl, trivial⟩ ?_
  refine H_seq ?_
  refine H_seq ?_
  -- R1 law.go:62
  refine H_region (l := [_, _, _, _, _, _, _]) rfl ?_
  refine HO_loadA (i := 1) (us := []) (cs := [_, _, _, _, _, _, _, _]) (ts := []) rfl rfl rfl Try.isAgg23 Try.sizeOf23 rfl (.loc _ _ _) rfl rfl rfl rfl ?_
  refine HO_call (first := []) (capt := []) (is := []) (R := [_, _, _]) rfl rfl rfl rfl rfl Try.call14 rfl (great_spec _ _ _ _ _ _ _ _ ?_ ?_ ?_ ?_) ?_
  · (first | omega | assumption | decide)
  · (first | omega | assumption | decide)
  · (first | omega | assumption | decide)
  · (first | omega | assumption | decide)
  intro y12 hy12
  clear y12 hy12
  refine HO_move rfl rfl rfl ?_
  refine HO_split (d := 13) rfl ?_ ?_
  · intro h13
    (try simp only [decide_eq_true_eq, decide_eq_false_iff_not, Bool.not_eq_true', Bool.not_eq_false', Bool.not_eq_true, Bool.not_eq_false, Bool.true_eq_false, Bool.false_eq_true, not_false_eq_true, not_true_eq_false] at h13)
    refine HO_no rfl rfl rfl ?_
    refine HO_no rfl rfl rfl ?_
    refine HO_no rfl rfl rfl ?_
    refine HO_pick_t rfl rfl rfl rfl ?_
    refine HO_nil ?_
    refine H_env (ρ' := [(17, _), (3, _), (2, _)]) ⟨rfl, rfl, rfl, trivial⟩ ?_
    refine H_cond rfl (fun _ => ?_) (fun h => nomatch h)
    refine H_seq ?_
    -- R2 law.go:63
    refine H_region (l := [_, _]) rfl ?_
    refine HO_call (first := []) (capt := []) (is := []) (R := [_, _, _]) rfl rfl rfl rfl rfl Try.call15 rfl lives09_spec ?_
    intro y18 hy18
    clear y18 hy18
    refine HO_assign rfl rfl rfl ?_
    refine HO_nil ?_
    refine H_env (ρ' := [(4, _)]) ⟨rfl, trivial⟩ ?_
    refine H_world (fun _ hA => hA.drop (is := [0, 1, 2]) (Y := [_, _, _]) (Z := []) rfl) ?_
    -- end1
    refine H_ret1 Try.results10 (.tmp rfl) (fun w hA => ⟨(), congrArg Ending.returned ?_, ?_, ?_⟩)
    · (exact congrArg Value.bool (by first | rfl | assumption | simp_all))
    · trivial
    · exact hA.only (is := []) (Z := []) rfl
  · intro h13
    (try simp only [decide_eq_true_eq, decide_eq_false_iff_not, Bool.not_eq_true', Bool.not_eq_false', Bool.not_eq_true, Bool.not_eq_false, Bool.true_eq_false, Bool.false_eq_true, not_false_eq_true, not_true_eq_false] at h13)
    refine HO_loadA (i := 0) (us := []) (cs := [_, _, _, _, _]) (ts := []) rfl rfl rfl Try.isAgg34 Try.sizeOf34 rfl (.loc _ _ _) rfl rfl rfl rfl ?_
    refine HO_dup (i := 2) rfl rfl ?_
    refine HO_call (first := []) (capt := []) (is := [0]) (R := [_, _, _]) rfl rfl rfl rfl rfl Try.call25 rfl (few_spec _ _ _ _ _ _ _ ?_) ?_
    · (first | omega | assumption | decide)
    intro y15 hy15
    clear y15 hy15
    refine HO_not rfl rfl rfl ?_
    refine HO_pick_f rfl rfl rfl rfl ?_
    refine HO_nil ?_
    refine H_env (ρ' := [(17, _), (3, _), (2, _)]) ⟨rfl, rfl, rfl, trivial⟩ ?_
    refine H_cond rfl ?_ ?_
    · intro h17
      (try simp only [decide_eq_true_eq, decide_eq_false_iff_not, Bool.not_eq_true', Bool.not_eq_false', Bool.not_eq_true, Bool.not_eq_false, Bool.true_eq_false, Bool.false_eq_true, not_false_eq_true, not_true_eq_false] at h17)
      refine H_seq ?_
      -- R2 law.go:63
      refine H_region (l := [_, _]) rfl ?_
      refine HO_call (first := []) (capt := []) (is := []) (R := [_, _, _]) rfl rfl rfl rfl rfl Try.call15 rfl lives09_spec ?_
      intro y18 hy18
      clear y18 hy18
      refine HO_assign rfl rfl rfl ?_
      refine HO_nil ?_
      refine H_env (ρ' := [(4, _)]) ⟨rfl, trivial⟩ ?_
      refine H_world (fun _ hA => hA.drop (is := [0, 1, 2]) (Y := [_, _, _]) (Z := []) rfl) ?_
      -- end2
      refine H_ret1 Try.results10 (.tmp rfl) (fun w hA => ⟨(), congrArg Ending.returned ?_, ?_, ?_⟩)
      · (exact congrArg Value.bool (by first | rfl | assumption | simp_all))
      · trivial
      · exact hA.only (is := []) (Z := []) rfl
    · intro h17
      (try simp only [decide_eq_true_eq, decide_eq_false_iff_not, Bool.not_eq_true', Bool.not_eq_false', Bool.not_eq_true, Bool.not_eq_false, Bool.true_eq_false, Bool.false_eq_true, not_false_eq_true, not_true_eq_false] at h17)
      refine H_skip ?_
      refine H_seq ?_
      -- R3 law.go:65
      have ok : Reply.ok ⟨er, fo, va, se, ps⟩ := ⟨ve, vs, h17⟩
      have hb := Reply.few_len ok.2.2
      have hs : Cmd.sized ⟨ki, cs, sq, ke, ol, cv, ti, li⟩ := by unfold Cmd.sized; dsimp only; omega
      refine H_region (l := [_, _, _, _, _, _, _, _, _]) rfl ?_
      refine HO_loadA (i := 1) (us := []) (cs := [_, _, _, _, _, _, _, _]) (ts := []) rfl rfl rfl Try.isAgg23 Try.sizeOf23 rfl (.loc _ _ _) rfl rfl rfl rfl ?_
      refine HO_call (first := []) (capt := []) (is := []) (R := [_, _, _]) rfl rfl rfl rfl rfl Try.call23 rfl (bytes_spec _ _ _ _ _ _ _ _ ?_) ?_
      · omega
      intro y21 hy21
      refine HO_call (first := []) (capt := []) (is := [0]) (R := [_, _, _]) rfl rfl rfl rfl rfl Try.call28 rfl (Spec.lend (pre1 := []) (pre2 := []) (cread_spec _ _ _ ?_) rfl (fun _ _ ha => nomatch ha)) ?_
      · (exact Cmd.bytes_len hs)
      intro y22 hy22
      clear y22 hy22
      rw [Cmd.read_bytes hw hs]
      refine HO_move rfl rfl rfl ?_
      refine HO_extract (vs := [_, _]) rfl rfl rfl rfl ?_
      refine HO_extract (vs := [_, _]) rfl rfl rfl rfl ?_
      refine HO_alloc (cs := [_, _, _, _, _, _, _, _]) rfl rfl Try.zeroValue23 rfl ?_
      intro g5
      refine HO_store (i := 0) (j := 0) (us := []) (old := [_, _, _, _, _, _, _, _]) (ts := []) (cs := [_, _, _, _, _, _, _, _]) (R := [_, _, _, _]) (new := [_, _, _, _, _, _, _, _]) rfl rfl rfl Try.sizeOf23 rfl (by simp [Value.oneCell']) rfl rfl rfl rfl rfl rfl ?_
      refine HO_assign rfl rfl rfl ?_
      refine HO_nil ?_
      refine H_env (ρ' := [(6, _), (5, _), (3, _), (2, _)]) ⟨rfl, rfl, rfl, rfl, trivial⟩ ?_
      refine H_world (fun _ hA => hA.drop (is := [1]) (Y := [_]) (Z := [_, _, _, _]) rfl) ?_
      refine H_seq ?_
      refine H_seq ?_
      -- R4 law.go:66
      refine H_region (l := [_, _, _, _, _, _, _, _, _, _, _, _, _, _]) rfl ?_
      refine HO_loadA (i := 2) (us := []) (cs := [_, _, _, _, _, _, _, _]) (ts := []) rfl rfl rfl Try.isAgg23 Try.sizeOf23 rfl (.loc _ _ _) rfl rfl rfl rfl ?_
      refine HO_call (first := []) (capt := []) (is := []) (R := [_, _, _, _]) rfl rfl rfl rfl rfl Try.call16 rfl (good_spec _ _ _ _ _ _ _ _) ?_
      intro y26 hy26
      clear y26 hy26
      refine HO_move rfl rfl rfl ?_
      refine HO_bin rfl rfl rfl rfl bin_eql ?_
      refine HO_bin rfl rfl rfl rfl (bin_neb Try.runUnderlying4) ?_
      refine HO_move rfl rfl rfl ?_
      refine HO_split (d := 30) rfl ?_ ?_
      · intro h30
        (try simp only [decide_eq_true_eq, decide_eq_false_iff_not, Bool.not_eq_true', Bool.not_eq_false', Bool.not_eq_true, Bool.not_eq_false, Bool.true_eq_false, Bool.false_eq_true, not_false_eq_true, not_true_eq_false] at h30)
        (exfalso; by_cases hg : Cmd.good ⟨ki, cs, sq, ke, ol, cv, ti, li⟩ = true <;> simp [hg] at h30)
      · intro h30
        (try simp only [decide_eq_true_eq, decide_eq_false_iff_not, Bool.not_eq_true', Bool.not_eq_false', Bool.not_eq_true, Bool.not_eq_false, Bool.true_eq_false, Bool.false_eq_true, not_false_eq_true, not_true_eq_false] at h30)
        refine HO_move rfl rfl rfl ?_
        refine HO_bin rfl rfl rfl rfl bin_eql ?_
        refine HO_move rfl rfl rfl ?_
        refine HO_split (d := 33) rfl ?_ ?_
        · intro h33
          (try simp only [decide_eq_true_eq, decide_eq_false_iff_not, Bool.not_eq_true', Bool.not_eq_false', Bool.not_eq_true, Bool.not_eq_false, Bool.true_eq_false, Bool.false_eq_true, not_false_eq_true, not_true_eq_false] at h33)
          refine HO_loadA (i := 0) (us := []) (cs := [_, _, _, _, _, _, _, _]) (ts := []) rfl rfl rfl Try.isAgg23 Try.sizeOf23 rfl (.loc _ _ _) rfl rfl rfl rfl ?_
          refine HO_loadA (i := 2) (us := []) (cs := [_, _, _, _, _, _, _, _]) (ts := []) rfl rfl rfl Try.isAgg23 Try.sizeOf23 rfl (.loc _ _ _) rfl rfl rfl rfl ?_
          refine HO_bin rfl rfl rfl rfl eq23_neq ?_
          refine HO_pick_t rfl rfl rfl rfl ?_
          refine HO_pick_f rfl rfl rfl rfl ?_
          refine HO_nil ?_
          refine H_env (ρ' := [(38, _), (3, _)]) ⟨rfl, rfl, trivial⟩ ?_
          refine H_world (fun _ hA => hA.drop (is := [0, 2]) (Y := [_, _]) (Z := [_, _]) rfl) ?_
          refine H_cond rfl ?_ ?_
          · intro h38
            (try simp only [decide_eq_true_eq, decide_eq_false_iff_not, Bool.not_eq_true', Bool.not_eq_false', Bool.not_eq_true, Bool.not_eq_false, Bool.true_eq_false, Bool.false_eq_true, not_false_eq_true, not_true_eq_false] at h38)
            (exfalso; by_cases hg : Cmd.good ⟨ki, cs, sq, ke, ol, cv, ti, li⟩ = true <;> simp [hg] at h33 h38)
          · intro h38
            (try simp only [decide_eq_true_eq, decide_eq_false_iff_not, Bool.not_eq_true', Bool.not_eq_false', Bool.not_eq_true, Bool.not_eq_false, Bool.true_eq_false, Bool.false_eq_true, not_false_eq_true, not_true_eq_false] at h38)
            refine H_skip ?_
            refine H_seq ?_
            -- R6 law.go:69
            refine H_region (l := [_, _, _, _, _, _, _, _, _]) rfl ?_
            refine HO_loadA (i := 0) (us := []) (cs := [_, _, _, _, _]) (ts := []) rfl rfl rfl Try.isAgg34 Try.sizeOf34 rfl (.loc _ _ _) rfl rfl rfl rfl ?_
            refine HO_dup (i := 1) rfl rfl ?_
            refine HO_call (first := []) (capt := []) (is := [0]) (R := [_, _]) rfl rfl rfl rfl rfl Try.call27 rfl (rep_spec _ _ _ _ _ _ _ ?_ ?_ ?_) ?_
            · omega
            · exact sv
            · exact sl
            intro y41 hy41
            refine HO_freeze (i := 0) (R := [_, _]) rfl hMn ?_
            refine HO_dup (i := 0) rfl rfl ?_
            refine HO_call (first := []) (capt := []) (is := [0]) (R := [_, _, _]) rfl rfl rfl rfl rfl Try.call49 rfl (readrep_spec _ _ _ ?_) ?_
            · omega
            intro y42 hy42
            rw [Reply.read_ok ok]
            refine HO_move rfl rfl rfl ?_
            refine HO_extract (vs := [_, _]) rfl rfl rfl rfl ?_
            refine HO_extract (vs := [_, _]) rfl rfl rfl rfl ?_
            refine HO_alloc (cs := [_, _, _, _, _]) rfl rfl Try.zeroValue34 rfl ?_
            intro g7
            refine HO_store (i := 0) (j := 0) (us := []) (old := [_, _, _, _, _]) (ts := []) (cs := [_, _, _, _, _]) (R := [_, _, _, _]) (new := [_, _, _, _, _]) rfl rfl rfl Try.sizeOf34 rfl (by simp [Value.oneCell']) rfl rfl rfl rfl rfl rfl ?_
            refine HO_assign rfl rfl rfl ?_
            refine HO_nil ?_
            refine H_env (ρ' := [(8, _), (7, _), (3, _)]) ⟨rfl, rfl, rfl, trivial⟩ ?_
            refine H_world (fun _ hA => hA.drop (is := [2]) (Y := [_]) (Z := [_, _, _, _]) rfl) ?_
            refine H_seq ?_
            -- R7 law.go:70
            refine H_region (l := [_, _, _, _, _, _, _, _, _, _, _]) rfl ?_
            refine HO_loadA (i := 2) (us := []) (cs := [_, _, _, _, _]) (ts := []) rfl rfl rfl Try.isAgg34 Try.sizeOf34 rfl (.loc _ _ _) rfl rfl rfl rfl ?_
            refine HO_dup (i := 3) rfl rfl ?_
            refine HO_call (first := []) (capt := []) (is := [0]) (R := [_, _, _, _]) rfl rfl rfl rfl rfl Try.call27 rfl (rep_spec _ _ _ _ _ _ _ ?_ ?_ ?_) ?_
            · omega
            · exact sv
            · exact sl
            intro y47 hy47
            refine HO_buildSlice (kd := kByte) (xo := [_]) (vs := [_]) (cs := [_]) (xs := [(0 : UInt8)]) rfl rfl rfl rfl Try.underlying28 elt5 rfl rfl rfl (by decide) (by decide) (by simp [Value.cells]) rfl (fun _ _ _ => ⟨_, _, rfl, ⟨rfl, trivial⟩, rfl⟩) ?_
            intro g48
            refine HO_append (i := 1) (R := [_, _, _, _, _]) rfl rfl rfl rfl rfl Try.underlying28 elt5 rfl rfl (SrcOk.own (j := 0) Try.underlying28 rfl rfl) ?_ ?_
            · (simp only [List.length_append, List.length_cons, List.length_nil]; omega)
            intro a49 c49
            refine HO_freeze (i := 0) (R := [_, _, _, _, _]) rfl hMn ?_
            refine HO_dup (i := 0) rfl rfl ?_
            refine HO_call (first := []) (capt := []) (is := [0]) (R := [_, _, _, _, _, _]) rfl rfl rfl rfl rfl Try.call49 rfl (readrep_spec _ _ _ ?_) ?_
            · (simp only [List.length_append, List.length_cons, List.length_nil]; omega)
            intro y50 hy50
            rw [Reply.read_more ok]
            refine HO_move rfl rfl rfl ?_
            refine HO_extract (vs := [_, _]) rfl rfl rfl rfl ?_
            refine HO_extract (vs := [_, _]) rfl rfl rfl rfl ?_
            refine HO_alloc (cs := [_, _, _, _, _]) rfl rfl Try.zeroValue34 rfl ?_
            intro g9
            refine HO_store (i := 0) (j := 0) (us := []) (old := [_, _, _, _, _]) (ts := []) (cs := [_, _, _, _, _]) (R := [_, _, _, _, _, _, _]) (new := [_, _, _, _, _]) rfl rfl rfl Try.sizeOf34 rfl (by simp [Value.oneCell']) rfl rfl rfl rfl rfl rfl ?_
            refine HO_assign rfl rfl rfl ?_
            refine HO_nil ?_
            refine H_env (ρ' := [(10, _), (8, _), (7, _), (3, _)]) ⟨rfl, rfl, rfl, rfl, trivial⟩ ?_
            refine H_world (fun _ hA => hA.drop (is := [0, 1, 2, 3]) (Y := [_, _, _, _]) (Z := [_, _, _, _]) rfl) ?_
            refine H_seq ?_
            -- R8 law.go:71
            refine H_region (l := [_, _, _, _, _, _, _, _, _, _, _, _, _, _, _, _, _, _, _, _]) rfl ?_
            refine HO_move rfl rfl rfl ?_
            refine HO_bin rfl rfl rfl rfl bin_eql ?_
            refine HO_move rfl rfl rfl ?_
            refine HO_split (d := 55) rfl ?_ ?_
            · intro h55
              (try simp only [decide_eq_true_eq, decide_eq_false_iff_not, Bool.not_eq_true', Bool.not_eq_false', Bool.not_eq_true, Bool.not_eq_false, Bool.true_eq_false, Bool.false_eq_true, not_false_eq_true, not_true_eq_false] at h55)
              refine HO_loadA (i := 2) (us := []) (cs := [_, _, _, _, _]) (ts := []) rfl rfl rfl Try.isAgg34 Try.sizeOf34 rfl (.loc _ _ _) rfl rfl rfl rfl ?_
              refine HO_loadA (i := 0) (us := []) (cs := [_, _, _, _, _]) (ts := []) rfl rfl rfl Try.isAgg34 Try.sizeOf34 rfl (.loc _ _ _) rfl rfl rfl rfl ?_
              refine HO_dup (i := 3) rfl rfl ?_
              refine HO_dup (i := 2) rfl rfl ?_
              refine HO_call (first := []) (capt := []) (is := [0, 0]) (R := [_, _, _, _]) rfl rfl rfl rfl rfl Try.call52 rfl (rrsame9_spec _ _ _ _ _ _ _ _ _ _ _ _ _ _) ?_
              intro y58 hy58
              clear y58 hy58
              refine HO_pick_t rfl rfl rfl rfl ?_
              refine HO_move rfl rfl rfl ?_
              refine HO_split (d := 60) rfl ?_ ?_
              · intro h60
                (try simp only [decide_eq_true_eq, decide_eq_false_iff_not, Bool.not_eq_true', Bool.not_eq_false', Bool.not_eq_true, Bool.not_eq_false, Bool.true_eq_false, Bool.false_eq_true, not_false_eq_true, not_true_eq_false] at h60)
                refine HO_loadA (i := 2) (us := []) (cs := [_, _, _, _, _]) (ts := []) rfl rfl rfl Try.isAgg34 Try.sizeOf34 rfl (.loc _ _ _) rfl rfl rfl rfl ?_
                refine HO_loadA (i := 0) (us := []) (cs := [_, _, _, _, _]) (ts := []) rfl rfl rfl Try.isAgg34 Try.sizeOf34 rfl (.loc _ _ _) rfl rfl rfl rfl ?_
                refine HO_dup (i := 3) rfl rfl ?_
                refine HO_dup (i := 2) rfl rfl ?_
                refine HO_call (first := []) (capt := []) (is := [0, 0]) (R := [_, _, _, _]) rfl rfl rfl rfl rfl Try.call26 rfl (rsame9_spec _ _ _ _ _ _ _ _ _ _ _ _ _ _) ?_
                intro y63 hy63
                clear y63 hy63
                refine HO_pick_t rfl rfl rfl rfl ?_
                refine HO_move rfl rfl rfl ?_
                refine HO_split (d := 65) rfl ?_ ?_
                · intro h65
                  (try simp only [decide_eq_true_eq, decide_eq_false_iff_not, Bool.not_eq_true', Bool.not_eq_false', Bool.not_eq_true, Bool.not_eq_false, Bool.true_eq_false, Bool.false_eq_true, not_false_eq_true, not_true_eq_false] at h65)
                  refine HO_move rfl rfl rfl ?_
                  refine HO_bin rfl rfl rfl rfl bin_eql ?_
                  refine HO_pick_t rfl rfl rfl rfl ?_
                  refine HO_move rfl rfl rfl ?_
                  refine HO_split (d := 69) rfl ?_ ?_
                  · intro h69
                    (try simp only [decide_eq_true_eq, decide_eq_false_iff_not, Bool.not_eq_true', Bool.not_eq_false', Bool.not_eq_true, Bool.not_eq_false, Bool.true_eq_false, Bool.false_eq_true, not_false_eq_true, not_true_eq_false] at h69)
                    refine HO_call (first := []) (capt := []) (is := []) (R := [_, _, _, _]) rfl rfl rfl rfl rfl Try.call15 rfl lives09_spec ?_
                    intro y70 hy70
                    clear y70 hy70
                    refine HO_pick_t rfl rfl rfl rfl ?_
                    refine HO_assign rfl rfl rfl ?_
                    refine HO_nil ?_
                    refine H_env (ρ' := [(4, _)]) ⟨rfl, trivial⟩ ?_
                    refine H_world (fun _ hA => hA.drop (is := [0, 1, 2, 3]) (Y := [_, _, _, _]) (Z := []) rfl) ?_
                    -- end3
                    refine H_ret1 Try.results10 (.tmp rfl) (fun w hA => ⟨(), congrArg Ending.returned ?_, ?_, ?_⟩)
                    · (exact congrArg Value.bool (by first | rfl | assumption | simp_all))
                    · trivial
                    · exact hA.only (is := []) (Z := []) rfl
                  · intro h69
                    (try simp only [decide_eq_true_eq, decide_eq_false_iff_not, Bool.not_eq_true', Bool.not_eq_false', Bool.not_eq_true, Bool.not_eq_false, Bool.true_eq_false, Bool.false_eq_true, not_false_eq_true, not_true_eq_false] at h69)
                    all_goals (exact absurd rfl h69)
                · intro h65
                  (try simp only [decide_eq_true_eq, decide_eq_false_iff_not, Bool.not_eq_true', Bool.not_eq_false', Bool.not_eq_true, Bool.not_eq_false, Bool.true_eq_false, Bool.false_eq_true, not_false_eq_true, not_true_eq_false] at h65)
                  all_goals (exact absurd rfl h65)
              · intro h60
                (try simp only [decide_eq_true_eq, decide_eq_false_iff_not, Bool.not_eq_true', Bool.not_eq_false', Bool.not_eq_true, Bool.not_eq_false, Bool.true_eq_false, Bool.false_eq_true, not_false_eq_true, not_true_eq_false] at h60)
                all_goals (exact absurd rfl h60)
            · intro h55
              (try simp only [decide_eq_true_eq, decide_eq_false_iff_not, Bool.not_eq_true', Bool.not_eq_false', Bool.not_eq_true, Bool.not_eq_false, Bool.true_eq_false, Bool.false_eq_true, not_false_eq_true, not_true_eq_false] at h55)
              all_goals (exact absurd rfl h55)
        · intro h33
          (try simp only [decide_eq_true_eq, decide_eq_false_iff_not, Bool.not_eq_true', Bool.not_eq_false', Bool.not_eq_true, Bool.not_eq_false, Bool.true_eq_false, Bool.false_eq_true, not_false_eq_true, not_true_eq_false] at h33)
          refine HO_no rfl rfl rfl ?_
          refine HO_no rfl rfl rfl ?_
          refine HO_no rfl rfl rfl ?_
          refine HO_pick_f rfl rfl rfl rfl ?_
          refine HO_pick_f rfl rfl rfl rfl ?_
          refine HO_nil ?_
          refine H_env (ρ' := [(38, _), (3, _)]) ⟨rfl, rfl, trivial⟩ ?_
          refine H_world (fun _ hA => hA.drop (is := [0, 2]) (Y := [_, _]) (Z := [_, _]) rfl) ?_
          refine H_cond rfl (fun h => nomatch h) (fun _ => ?_)
          refine H_skip ?_
          refine H_seq ?_
          -- R6 law.go:69
          refine H_region (l := [_, _, _, _, _, _, _, _, _]) rfl ?_
          refine HO_loadA (i := 0) (us := []) (cs := [_, _, _, _, _]) (ts := []) rfl rfl rfl Try.isAgg34 Try.sizeOf34 rfl (.loc _ _ _) rfl rfl rfl rfl ?_
          refine HO_dup (i := 1) rfl rfl ?_
          refine HO_call (first := []) (capt := []) (is := [0]) (R := [_, _]) rfl rfl rfl rfl rfl Try.call27 rfl (rep_spec _ _ _ _ _ _ _ ?_ ?_ ?_) ?_
          · omega
          · exact sv
          · exact sl
          intro y41 hy41
          refine HO_freeze (i := 0) (R := [_, _]) rfl hMn ?_
          refine HO_dup (i := 0) rfl rfl ?_
          refine HO_call (first := []) (capt := []) (is := [0]) (R := [_, _, _]) rfl rfl rfl rfl rfl Try.call49 rfl (readrep_spec _ _ _ ?_) ?_
          · omega
          intro y42 hy42
          rw [Reply.read_ok ok]
          refine HO_move rfl rfl rfl ?_
          refine HO_extract (vs := [_, _]) rfl rfl rfl rfl ?_
          refine HO_extract (vs := [_, _]) rfl rfl rfl rfl ?_
          refine HO_alloc (cs := [_, _, _, _, _]) rfl rfl Try.zeroValue34 rfl ?_
          intro g7
          refine HO_store (i := 0) (j := 0) (us := []) (old := [_, _, _, _, _]) (ts := []) (cs := [_, _, _, _, _]) (R := [_, _, _, _]) (new := [_, _, _, _, _]) rfl rfl rfl Try.sizeOf34 rfl (by simp [Value.oneCell']) rfl rfl rfl rfl rfl rfl ?_
          refine HO_assign rfl rfl rfl ?_
          refine HO_nil ?_
          refine H_env (ρ' := [(8, _), (7, _), (3, _)]) ⟨rfl, rfl, rfl, trivial⟩ ?_
          refine H_world (fun _ hA => hA.drop (is := [2]) (Y := [_]) (Z := [_, _, _, _]) rfl) ?_
          refine H_seq ?_
          -- R7 law.go:70
          refine H_region (l := [_, _, _, _, _, _, _, _, _, _, _]) rfl ?_
          refine HO_loadA (i := 2) (us := []) (cs := [_, _, _, _, _]) (ts := []) rfl rfl rfl Try.isAgg34 Try.sizeOf34 rfl (.loc _ _ _) rfl rfl rfl rfl ?_
          refine HO_dup (i := 3) rfl rfl ?_
          refine HO_call (first := []) (capt := []) (is := [0]) (R := [_, _, _, _]) rfl rfl rfl rfl rfl Try.call27 rfl (rep_spec _ _ _ _ _ _ _ ?_ ?_ ?_) ?_
          · omega
          · exact sv
          · exact sl
          intro y47 hy47
          refine HO_buildSlice (kd := kByte) (xo := [_]) (vs := [_]) (cs := [_]) (xs := [(0 : UInt8)]) rfl rfl rfl rfl Try.underlying28 elt5 rfl rfl rfl (by decide) (by decide) (by simp [Value.cells]) rfl (fun _ _ _ => ⟨_, _, rfl, ⟨rfl, trivial⟩, rfl⟩) ?_
          intro g48
          refine HO_append (i := 1) (R := [_, _, _, _, _]) rfl rfl rfl rfl rfl Try.underlying28 elt5 rfl rfl (SrcOk.own (j := 0) Try.underlying28 rfl rfl) ?_ ?_
          · (simp only [List.length_append, List.length_cons, List.length_nil]; omega)
          intro a49 c49
          refine HO_freeze (i := 0) (R := [_, _, _, _, _]) rfl hMn ?_
          refine HO_dup (i := 0) rfl rfl ?_
          refine HO_call (first := []) (capt := []) (is := [0]) (R := [_, _, _, _, _, _]) rfl rfl rfl rfl rfl Try.call49 rfl (readrep_spec _ _ _ ?_) ?_
          · (simp only [List.length_append, List.length_cons, List.length_nil]; omega)
          intro y50 hy50
          rw [Reply.read_more ok]
          refine HO_move rfl rfl rfl ?_
          refine HO_extract (vs := [_, _]) rfl rfl rfl rfl ?_
          refine HO_extract (vs := [_, _]) rfl rfl rfl rfl ?_
          refine HO_alloc (cs := [_, _, _, _, _]) rfl rfl Try.zeroValue34 rfl ?_
          intro g9
          refine HO_store (i := 0) (j := 0) (us := []) (old := [_, _, _, _, _]) (ts := []) (cs := [_, _, _, _, _]) (R := [_, _, _, _, _, _, _]) (new := [_, _, _, _, _]) rfl rfl rfl Try.sizeOf34 rfl (by simp [Value.oneCell']) rfl rfl rfl rfl rfl rfl ?_
          refine HO_assign rfl rfl rfl ?_
          refine HO_nil ?_
          refine H_env (ρ' := [(10, _), (8, _), (7, _), (3, _)]) ⟨rfl, rfl, rfl, rfl, trivial⟩ ?_
          refine H_world (fun _ hA => hA.drop (is := [0, 1, 2, 3]) (Y := [_, _, _, _]) (Z := [_, _, _, _]) rfl) ?_
          refine H_seq ?_
          -- R8 law.go:71
          refine H_region (l := [_, _, _, _, _, _, _, _, _, _, _, _, _, _, _, _, _, _, _, _]) rfl ?_
          refine HO_move rfl rfl rfl ?_
          refine HO_bin rfl rfl rfl rfl bin_eql ?_
          refine HO_move rfl rfl rfl ?_
          refine HO_split (d := 55) rfl ?_ ?_
          · intro h55
            (try simp only [decide_eq_true_eq, decide_eq_false_iff_not, Bool.not_eq_true', Bool.not_eq_false', Bool.not_eq_true, Bool.not_eq_false, Bool.true_eq_false, Bool.false_eq_true, not_false_eq_true, not_true_eq_false] at h55)
            refine HO_loadA (i := 2) (us := []) (cs := [_, _, _, _, _]) (ts := []) rfl rfl rfl Try.isAgg34 Try.sizeOf34 rfl (.loc _ _ _) rfl rfl rfl rfl ?_
            refine HO_loadA (i := 0) (us := []) (cs := [_, _, _, _, _]) (ts := []) rfl rfl rfl Try.isAgg34 Try.sizeOf34 rfl (.loc _ _ _) rfl rfl rfl rfl ?_
            refine HO_dup (i := 3) rfl rfl ?_
            refine HO_dup (i := 2) rfl rfl ?_
            refine HO_call (first := []) (capt := []) (is := [0, 0]) (R := [_, _, _, _]) rfl rfl rfl rfl rfl Try.call52 rfl (rrsame9_spec _ _ _ _ _ _ _ _ _ _ _ _ _ _) ?_
            intro y58 hy58
            clear y58 hy58
            refine HO_pick_t rfl rfl rfl rfl ?_
            refine HO_move rfl rfl rfl ?_
            refine HO_split (d := 60) rfl ?_ ?_
            · intro h60
              (try simp only [decide_eq_true_eq, decide_eq_false_iff_not, Bool.not_eq_true', Bool.not_eq_false', Bool.not_eq_true, Bool.not_eq_false, Bool.true_eq_false, Bool.false_eq_true, not_false_eq_true, not_true_eq_false] at h60)
              refine HO_loadA (i := 2) (us := []) (cs := [_, _, _, _, _]) (ts := []) rfl rfl rfl Try.isAgg34 Try.sizeOf34 rfl (.loc _ _ _) rfl rfl rfl rfl ?_
              refine HO_loadA (i := 0) (us := []) (cs := [_, _, _, _, _]) (ts := []) rfl rfl rfl Try.isAgg34 Try.sizeOf34 rfl (.loc _ _ _) rfl rfl rfl rfl ?_
              refine HO_dup (i := 3) rfl rfl ?_
              refine HO_dup (i := 2) rfl rfl ?_
              refine HO_call (first := []) (capt := []) (is := [0, 0]) (R := [_, _, _, _]) rfl rfl rfl rfl rfl Try.call26 rfl (rsame9_spec _ _ _ _ _ _ _ _ _ _ _ _ _ _) ?_
              intro y63 hy63
              clear y63 hy63
              refine HO_pick_t rfl rfl rfl rfl ?_
              refine HO_move rfl rfl rfl ?_
              refine HO_split (d := 65) rfl ?_ ?_
              · intro h65
                (try simp only [decide_eq_true_eq, decide_eq_false_iff_not, Bool.not_eq_true', Bool.not_eq_false', Bool.not_eq_true, Bool.not_eq_false, Bool.true_eq_false, Bool.false_eq_true, not_false_eq_true, not_true_eq_false] at h65)
                refine HO_move rfl rfl rfl ?_
                refine HO_bin rfl rfl rfl rfl bin_eql ?_
                refine HO_pick_t rfl rfl rfl rfl ?_
                refine HO_move rfl rfl rfl ?_
                refine HO_split (d := 69) rfl ?_ ?_
                · intro h69
                  (try simp only [decide_eq_true_eq, decide_eq_false_iff_not, Bool.not_eq_true', Bool.not_eq_false', Bool.not_eq_true, Bool.not_eq_false, Bool.true_eq_false, Bool.false_eq_true, not_false_eq_true, not_true_eq_false] at h69)
                  refine HO_call (first := []) (capt := []) (is := []) (R := [_, _, _, _]) rfl rfl rfl rfl rfl Try.call15 rfl lives09_spec ?_
                  intro y70 hy70
                  clear y70 hy70
                  refine HO_pick_t rfl rfl rfl rfl ?_
                  refine HO_assign rfl rfl rfl ?_
                  refine HO_nil ?_
                  refine H_env (ρ' := [(4, _)]) ⟨rfl, trivial⟩ ?_
                  refine H_world (fun _ hA => hA.drop (is := [0, 1, 2, 3]) (Y := [_, _, _, _]) (Z := []) rfl) ?_
                  -- end4
                  refine H_ret1 Try.results10 (.tmp rfl) (fun w hA => ⟨(), congrArg Ending.returned ?_, ?_, ?_⟩)
                  · (exact congrArg Value.bool (by first | rfl | assumption | simp_all))
                  · trivial
                  · exact hA.only (is := []) (Z := []) rfl
                · intro h69
                  (try simp only [decide_eq_true_eq, decide_eq_false_iff_not, Bool.not_eq_true', Bool.not_eq_false', Bool.not_eq_true, Bool.not_eq_false, Bool.true_eq_false, Bool.false_eq_true, not_false_eq_true, not_true_eq_false] at h69)
                  all_goals (exact absurd rfl h69)
              · intro h65
                (try simp only [decide_eq_true_eq, decide_eq_false_iff_not, Bool.not_eq_true', Bool.not_eq_false', Bool.not_eq_true, Bool.not_eq_false, Bool.true_eq_false, Bool.false_eq_true, not_false_eq_true, not_true_eq_false] at h65)
                all_goals (exact absurd rfl h65)
            · intro h60
              (try simp only [decide_eq_true_eq, decide_eq_false_iff_not, Bool.not_eq_true', Bool.not_eq_false', Bool.not_eq_true, Bool.not_eq_false, Bool.true_eq_false, Bool.false_eq_true, not_false_eq_true, not_true_eq_false] at h60)
              all_goals (exact absurd rfl h60)
          · intro h55
            (try simp only [decide_eq_true_eq, decide_eq_false_iff_not, Bool.not_eq_true', Bool.not_eq_false', Bool.not_eq_true, Bool.not_eq_false, Bool.true_eq_false, Bool.false_eq_true, not_false_eq_true, not_true_eq_false] at h55)
            all_goals (exact absurd rfl h55)
end Go.Wk
