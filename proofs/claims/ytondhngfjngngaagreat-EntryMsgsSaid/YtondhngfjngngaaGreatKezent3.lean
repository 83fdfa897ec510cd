/- Contracts of the program's functions, each proved by walking its code. -/
import Derived.Test.YtondhngfjngngaaGreatKezent2
import Derived.Test.YtondhngfjngngaaGreatEnt
import Derived.Test.YtondhngfjngngaaGreatKezrdr
set_option maxRecDepth 100000
set_option linter.unusedVariables false
set_option linter.unusedSimpArgs false
namespace Go.Wk.Fent3
open Go Go.RowKit Go.Proofs Go.Wk
theorem elt3 : Elt Tryz.prog 3 (.int .i64 (0)) 1 8 := Elt.of (by kernel_rfl) (by rfl) (by decide) (by decide)
theorem bd25_0_s {a1 : Option Addr} {n1 c1 : Nat} : ∀ w, (Instr.build 25 (List.toArray (List.zip [0] [.slice a1 n1 c1]))).run Tryz.prog w = .ok (.agg #[.slice a1 n1 c1, .slice none 0 0]) w := fun _ => by kernel_rfl
theorem bd28_0_1_ii {x1 : Int} {x2 : Int} : ∀ w, (Instr.build 28 (List.toArray (List.zip [0, 1] [.int .i64 x1, .int .i64 x2]))).run Tryz.prog w = .ok (.agg #[.int .i64 x1, .int .i64 x2, .slice none 0 0, .slice none 0 0, .slice none 0 0]) w := fun _ => by kernel_rfl
theorem bd45_0_1_2_iii {x1 : Int} {x2 : Int} {x3 : Int} : ∀ w, (Instr.build 45 (List.toArray (List.zip [0, 1, 2] [.int .i64 x1, .int .i64 x2, .int .i64 x3]))).run Tryz.prog w = .ok (.agg #[.int .i64 x1, .int .i64 x2, .int .i64 x3, .int .i64 (0), .int .i64 (0), .int .i64 (0), .string (⟨#[]⟩), .string (⟨#[]⟩), .string (⟨#[]⟩), .string (⟨#[]⟩), .int .i64 (0), .slice none 0 0, .slice none 0 0]) w := fun _ => by kernel_rfl
theorem bd56_0_s {a1 : Option Addr} {n1 c1 : Nat} : ∀ w, (Instr.build 56 (List.toArray (List.zip [0] [.slice a1 n1 c1]))).run Tryz.prog w = .ok (.agg #[.slice a1 n1 c1, .bool (false)]) w := fun _ => by kernel_rfl
theorem bd58_0_AsoE {a2 : Option Addr} {n2 c2 : Nat} {x3 : Bool} : ∀ w, (Instr.build 58 (List.toArray (List.zip [0] [.agg #[.slice a2 n2 c2, .bool x3]]))).run Tryz.prog w = .ok (.agg #[.slice a2 n2 c2, .bool x3]) w := fun _ => by kernel_rfl
end Go.Wk.Fent3
namespace Go.Wk
open Go Go.RowKit Go.Proofs Fent3 
theorem rwrong_spec (T : TypeId) (g : Nat) (b : List UInt8) (w : Bool) (a : Option Addr) (c : Nat)  : Spec Tryz.prog 60 #[.pointer (some ⟨g, 0, none⟩)] [.loc g [.slice a (b.length) c, .bool (w)] T, .dat kByte.sl (b) [.slice a (b.length) c]] (β := Unit) (fun y => .tuple #[]) (fun y => True) (fun y => [.loc g [.slice none 0 0, .bool (true)] T, .dat kByte.sl ([]) [.slice none 0 0]]) := by
 refine Spec.enter (vs := [_]) Tryz.func60 rfl Tryz.ntmps60 rfl (Nat.le_of_ble_eq_true rfl) (fun w0 ok0 => ?_)
 generalize hM0 : blks _ = M0
 refine H_region (l := [_, _, _, _, _, _, _, _, _, _]) rfl ?_
 iterate 2 refine HO_move rfl rfl rfl ?_
 refine HO_nilCheck rfl rfl rfl ?_
 refine HO_fieldAddr (r := 0) rfl rfl rfl Tryz.underlying58 rfl Tryz.sizeOf56 rfl ?_
 refine HO_fieldAddr (r := 0) rfl rfl rfl Tryz.underlying56 rfl Tryz.sizeOf26 rfl ?_
 refine HO_store (i := 0) (j := 0) (us := []) (old := [_]) (ts := [_]) (cs := [_]) (R := [_]) (new := [_, _]) rfl rfl rfl Tryz.sizeOf26 rfl (by simp [Value.oneCell']) rfl rfl rfl rfl rfl rfl ?_
 refine HO_nilCheck rfl rfl rfl ?_
 refine HO_fieldAddr (r := 0) rfl rfl rfl Tryz.underlying58 rfl Tryz.sizeOf56 rfl ?_
 refine HO_fieldAddr (r := 1) rfl rfl rfl Tryz.underlying56 rfl Tryz.sizeOf4 rfl ?_
 refine HO_store (i := 0) (j := 0) (us := [_]) (old := [_]) (ts := []) (cs := [_]) (R := [_]) (new := [_, _]) rfl rfl rfl Tryz.sizeOf4 rfl (by simp [Value.oneCell']) rfl rfl rfl rfl rfl rfl ?_
 refine HO_nil ?_
 refine H_env (ρ' := []) trivial ?_
 refine H_world (fun _ hA => hA.keep (m := [yy, nn]) (Y := [_]) rfl) ?_
 refine H_nilDat kByte ?_
 refine H_end0 Tryz.results60 (fun w hA => ⟨(), congrArg Ending.returned ?_, ?_, ?_⟩)
 ·rfl
 ·trivial
 ·exact hA.only (is := [0, 0]) (Z := []) rfl
theorem over_spec (b : List UInt8) (a : Option Addr) (c : Nat)  : Spec Tryz.prog 18 #[.slice a (b.length) c] [.dat kByte.sl (b) [.slice a (b.length) c]] (β := Nat) (fun y => .pointer (some ⟨y, 0, none⟩)) (fun y => True) (fun y => [.loc y [.slice a (b.length) c, .bool (false)] 58, .dat kByte.sl (b) [.slice a (b.length) c]]) := by
 refine Spec.enter (vs := [_]) Tryz.func18 rfl Tryz.ntmps18 rfl (Nat.le_of_ble_eq_true rfl) (fun w0 ok0 => ?_)
 generalize hM0 : blks _ = M0
 have hMn := @noM _ _ hM0 (by simp [Atom.dat, Atom.elem])
 refine H_seq ?_
 refine H_region (l := [_]) rfl ?_
 refine HO_assign rfl rfl rfl ?_
 refine HO_nil ?_
 refine H_env (ρ' := [(0, _)]) ⟨rfl, trivial⟩ ?_
 refine H_seq ?_
 refine H_region (l := [_, _, _, _, _]) rfl ?_
 refine HO_move rfl rfl rfl ?_
 refine HO_build (xo := [(0, _)]) (vs := [_]) rfl rfl rfl rfl (bd56_0_s) ?_
 refine HO_build (xo := [(0, _)]) (vs := [_]) rfl rfl rfl rfl (bd58_0_AsoE) ?_
 refine HO_box (cs := [_, _]) rfl rfl rfl rfl ?_
 intro g6
 refine HO_assign rfl rfl rfl ?_
 refine HO_nil ?_
 refine H_env (ρ' := [(2, _)]) ⟨rfl, trivial⟩ ?_
 refine H_ret1 Tryz.results18 (.tmp rfl) (fun w hA => ⟨g6, congrArg Ending.returned ?_, ?_, ?_⟩)
 ·rfl
 ·trivial
 ·exact hA.keep (m := [yy, yy]) (Y := [_, _]) rfl
theorem itemsint_spec (T : TypeId) (g : Nat) (b : List UInt8) (w : Bool) (a : Option Addr) (c : Nat) (k : Int) (hb : b.length ≤ 100000) (hk : 0 ≤ k ∧ k ≤ 9223372036854775807) : Spec Tryz.prog 92 #[.pointer (some ⟨g, 0, none⟩), .int .i64 (k), .func (.func 19) #[.pointer (some ⟨g, 0, none⟩)] #[]] [.loc g [.slice a (b.length) c, .bool (w)] T, .dat kByte.sl (b) [.slice a (b.length) c]] (β := (Option Addr × Nat) × (Option Addr × Nat)) (fun y => .slice y.2.1 (((Ent.listP k (b, w)).1).length) y.2.2) (fun y => True) (fun y => [.loc g [.slice y.1.1 (((Ent.listP k (b, w)).2.1).length) y.1.2, .bool ((Ent.listP k (b, w)).2.2)] T, .dat kByte.sl ((Ent.listP k (b, w)).2.1) [.slice y.1.1 (((Ent.listP k (b, w)).2.1).length) y.1.2], .dat kInt.sl ((Ent.listP k (b, w)).1) [.slice y.2.1 (((Ent.listP k (b, w)).1).length) y.2.2]]) := by
 refine Spec.enter (vs := [_, _, _]) Tryz.func92 rfl Tryz.ntmps92 rfl (Nat.le_of_ble_eq_true rfl) (fun w0 ok0 => ?_)
 generalize hM0 : blks _ = M0
 refine H_seq ?_
 refine H_region (l := [_]) rfl ?_
 refine HO_assign rfl rfl rfl ?_
 refine HO_nil ?_
 refine H_env (ρ' := [(0, _), (1, _), (2, _)]) ⟨rfl, rfl, rfl, trivial⟩ ?_
 refine H_seq ?_
 refine H_region (l := [_]) rfl ?_
 refine HO_assign rfl rfl rfl ?_
 refine HO_nil ?_
 refine H_seq ?_
 refine H_seq ?_
 refine H_region (l := [_, _, _, _, _, _]) rfl ?_
 refine HO_move rfl rfl rfl ?_
 refine HO_nilCheck rfl rfl rfl ?_
 refine HO_fieldAddr (r := 0) rfl rfl rfl Tryz.underlying58 rfl Tryz.sizeOf56 rfl ?_
 refine HO_move rfl rfl rfl ?_
 refine HO_dup (i := 1) rfl rfl ?_
 refine HO_call (first := []) (capt := []) (is := [0, 0]) (R := [_]) rfl rfl rfl rfl rfl Tryz.call57 rfl (cCount_spec _ _ _ _ _ _ _ ?_) ?_
 ·omega
 intro y13 hy13
 generalize hr_r1 : Cod.cnt k b w = r1
 have hl_r1 : r1.2.1.length ≤ b.length := hr_r1 ▸ Cod.cnt_len _ _ _
 refine HO_assign rfl rfl rfl ?_
 refine HO_nil ?_
 refine H_env (ρ' := [(8, _), (7, _), (0, _), (2, _)]) ⟨rfl, rfl, rfl, rfl, trivial⟩ ?_
 refine H_world (fun _ hA => hA.keep (m := [yy, yy, nn]) (Y := [_, _]) rfl) ?_
 refine H_block ?_
 refine H_own0 kInt 3 none ?_
 refine H_loop (σ := Nat × List UInt8 × Bool × List Int × Option Addr × Nat × Option Addr × Nat) (fun s => Ent.numsP r1.1 r1.2 = (s.2.2.2.1 ++ (Ent.numsP s.1 (s.2.1, s.2.2.1)).1, (Ent.numsP s.1 (s.2.1, s.2.2.1)).2) ∧ s.2.1.length ≤ 100000 ∧ (s.2.2.1 = false → s.2.2.2.1.length + s.2.1.length ≤ 100000) ∧ s.1 ≤ 9223372036854775807) (fun s => [(0, .pointer (some ⟨g, 0, none⟩)), (2, .func (.func 19) #[.pointer (some ⟨g, 0, none⟩)] #[]), (7, .slice s.2.2.2.2.2.2.1 (s.2.2.2.1.length) s.2.2.2.2.2.2.2), (8, .int .i64 ((s.1 : Int)))]) (fun s => Asn w0 ok0 M0 [.loc g [.slice s.2.2.2.2.1 (s.2.1.length) s.2.2.2.2.2.1, .bool (s.2.2.1)] T, .dat kByte.sl (s.2.1) [.slice s.2.2.2.2.1 (s.2.1.length) s.2.2.2.2.2.1], .own 3 kInt s.2.2.2.2.2.2.1 s.2.2.2.2.2.2.2 (s.2.2.2.1)]) (fun s => s.1) ⟨r1.1, r1.2.1, r1.2.2, [], y13.1, y13.2, none, 0⟩ ?_ ?_ ?_ ?_
 ·exact ⟨by simp, by dsimp only; omega, fun _ => by dsimp only [List.length_nil]; omega, by dsimp only; have := Cod.cnt_le hk.1 b w; rw [hr_r1] at this; omega⟩
 ·exact ⟨rfl, rfl, rfl, rfl, trivial⟩
 ·intro w hA
  exact hA.only (is := [0, 1, 0]) (Z := []) rfl
 ·rintro ⟨m, bs, wr, l, p, q, p2, q2⟩ hI
  (try dsimp only at hI ⊢)
  have hbs := hI.2.1
  refine H_seq ?_
  refine H_seq ?_
  refine H_region (l := [_, _, _, _, _, _, _, _, _, _]) rfl ?_
  refine HO_move rfl rfl rfl ?_
  refine HO_bin rfl rfl rfl rfl bin_gtr ?_
  refine HO_move rfl rfl rfl ?_
  refine HO_split (d := 16) rfl ?_ ?_
  ·intro h16
   replace h16 := dT h16
   refine HO_move rfl rfl rfl ?_
   refine HO_nilCheck rfl rfl rfl ?_
   refine HO_fieldAddr (r := 0) rfl rfl rfl Tryz.underlying58 rfl Tryz.sizeOf56 rfl ?_
   refine HO_fieldAddr (r := 1) rfl rfl rfl Tryz.underlying56 rfl Tryz.sizeOf4 rfl ?_
   refine HO_load1 (i := 0) (j := 1) rfl rfl rfl Tryz.isAgg4 rfl (.loc _ _ _) rfl rfl ?_
   refine HO_not rfl rfl rfl ?_
   refine HO_pick_t rfl rfl rfl rfl ?_
   refine HO_nil ?_
   refine H_env (ρ' := [(23, _), (0, _), (2, _), (7, _), (8, _)]) ⟨rfl, rfl, rfl, rfl, rfl, trivial⟩ ?_
   refine H_cond rfl ?_ ?_
   ·intro h23
    replace h23 := nT h23
    refine H_skip ?_
    refine H_seq ?_
    refine H_block ?_
    have hwr : wr = false := by simpa using h23
    obtain ⟨m, rfl⟩ : ∃ q, m = q + 1 := ⟨m - 1, by omega⟩
    refine H_region (l := [_, _, _, _, _, _]) rfl ?_
    iterate 2 refine HO_move rfl rfl rfl ?_
    refine HO_dup (i := 1) rfl rfl ?_
    refine HO_call (first := [_]) (capt := []) (is := [0, 0]) (R := [_, _]) rfl rfl rfl rfl rfl Tryz.call19 rfl (cInt_spec _ _ _ _ _ _) ?_
    intro y28 hy28
    generalize hr_r2 : Cod.rd 0 (Cod.dec bs) bs wr = r2
    have hl_r2 : r2.2.1.length ≤ bs.length := hr_r2 ▸ Cod.rd_len _ _ _ _
    have hz_r2 := Cod.zag_lo' hr_r2
    refine HO_buildSlice (kd := kInt) (xo := [_]) (vs := [_]) (cs := [_]) (xs := [_]) rfl rfl rfl rfl Tryz.underlying23 elt3 rfl rfl rfl (by decide) (by decide) (by simp [Value.cells]) rfl (by intro ok w _; exact ⟨_, _, rfl, ⟨rfl, by first | omega | (constructor <;> omega)⟩, rfl⟩) ?_
    intro g29
    refine HO_append (i := 4) (R := [_, _, _, _]) rfl rfl rfl rfl rfl Tryz.underlying23 elt3 rfl rfl (SrcOk.own (j := 0) Tryz.underlying23 rfl rfl) ?_ ?_
    ·(simp only [List.length_append, List.length_cons, List.length_nil]; have := hI.2.2.1 hwr; omega)
    intro a30 c30
    refine HO_assign rfl rfl rfl ?_
    refine HO_nil ?_
    refine H_env (ρ' := [(7, _), (0, _), (2, _), (8, _)]) ⟨rfl, rfl, rfl, rfl, trivial⟩ ?_
    refine H_world (fun _ hA => hA.keep (m := [yy, nn, yy, yy, nn]) (Y := [_, _, _]) rfl) ?_
    refine H_blk ?_
    refine H_region (l := [_, _, _]) rfl ?_
    refine HO_move rfl rfl rfl ?_
    refine HO_bin rfl rfl rfl rfl (bin_sub ?_ ?_) ?_
    ·omega
    ·omega
    refine HO_assign rfl rfl rfl ?_
    refine HO_nil ?_
    refine H_env (ρ' := [(8, _), (7, _), (0, _), (2, _)]) ⟨rfl, rfl, rfl, rfl, trivial⟩ ?_
    refine H_inv (fun a w hf hA => ⟨⟨m, r2.2.1, r2.2.2, l ++ [Cod.zag r2.1], y28.1, y28.2, a30, c30⟩, ?_, ?_, hf.sub ?_, ?_⟩)
    ·exact ⟨by dsimp only;  exact Ent.nums_more hI.1 hwr hr_r2, by dsimp only; omega, Ent.nums_more_len hwr hI.2.2.1 hr_r2, by dsimp only; omega⟩
    ·(try dsimp only); omega
    ·exact ⟨rfl, rfl, rfl, congrArg (fun z => some (Value.int .i64 z)) (by dsimp only; omega), trivial⟩
    ·exact hA.only (is := [0, 1, 0]) (Z := []) rfl
   intro h23
   replace h23 := nF h23
   refine H_exit rfl ?_
   refine H_seq ?_
   have hps : Ent.numsP r1.1 r1.2 = (l, (bs, wr)) := by first | exact Ent.nums0 hI.1 (by omega) | exact Ent.numsW hI.1 h23
   have hlp : Ent.listP k (b, w) = (l, (bs, wr)) := Ent.listP_of hr_r1 hps
   refine H_region (l := [_, _]) rfl ?_
   refine HO_move rfl rfl rfl ?_
   refine HO_assign rfl rfl rfl ?_
   refine HO_nil ?_
   refine H_env (ρ' := [(6, _)]) ⟨rfl, trivial⟩ ?_
   refine H_freeze (i := 2) (R := [_, _]) rfl (keepM hM0 ⟨(fun _ h => ⟨_, List.mem_of_getElem? (i := 0) rfl, h⟩), (fun _ h => nomatch h), trivial⟩) ?_
   refine H_ret1 Tryz.results92 (.tmp rfl) (fun w hA => ⟨((p, q), (p2, q2)), congrArg Ending.returned ?_, ?_, ?_⟩)
   ·(rw [hlp])
   ·trivial
   ·(rw [hlp]; exact hA.only (is := [0, 1, 0]) (Z := []) rfl)
  intro h16
  replace h16 := dF h16
  iterate 6 refine HO_no rfl rfl rfl ?_
  refine HO_pick_f rfl rfl rfl rfl ?_
  refine HO_nil ?_
  refine H_env (ρ' := [(23, _), (0, _), (2, _), (7, _), (8, _)]) ⟨rfl, rfl, rfl, rfl, rfl, trivial⟩ ?_
  refine H_cond rfl (fun h => nomatch h) (fun _ => ?_)
  refine H_exit rfl ?_
  refine H_seq ?_
  have hps : Ent.numsP r1.1 r1.2 = (l, (bs, wr)) := by first | exact Ent.nums0 hI.1 (by omega) | exact Ent.numsW hI.1 h23
  have hlp : Ent.listP k (b, w) = (l, (bs, wr)) := Ent.listP_of hr_r1 hps
  refine H_region (l := [_, _]) rfl ?_
  refine HO_move rfl rfl rfl ?_
  refine HO_assign rfl rfl rfl ?_
  refine HO_nil ?_
  refine H_env (ρ' := [(6, _)]) ⟨rfl, trivial⟩ ?_
  refine H_freeze (i := 2) (R := [_, _]) rfl (keepM hM0 ⟨(fun _ h => ⟨_, List.mem_of_getElem? (i := 0) rfl, h⟩), (fun _ h => nomatch h), trivial⟩) ?_
  refine H_ret1 Tryz.results92 (.tmp rfl) (fun w hA => ⟨((p, q), (p2, q2)), congrArg Ending.returned ?_, ?_, ?_⟩)
  ·(rw [hlp])
  ·trivial
  ·(rw [hlp]; exact hA.only (is := [0, 1, 0]) (Z := []) rfl)
theorem rreadlist_spec (T : TypeId) (g : Nat) (b : List UInt8) (w : Bool) (a : Option Addr) (c : Nat) (hb : b.length ≤ 100000) : Spec Tryz.prog 95 #[.pointer (some ⟨g, 0, none⟩)] [.loc g [.slice a (b.length) c, .bool (w)] T, .dat kByte.sl (b) [.slice a (b.length) c]] (β := (Option Addr × Nat) × (Option Addr × Nat)) (fun y => .slice y.2.1 (((Ent.listP 1000000 (b, w)).1).length) y.2.2) (fun y => True) (fun y => [.loc g [.slice y.1.1 (((Ent.listP 1000000 (b, w)).2.1).length) y.1.2, .bool ((Ent.listP 1000000 (b, w)).2.2)] T, .dat kByte.sl ((Ent.listP 1000000 (b, w)).2.1) [.slice y.1.1 (((Ent.listP 1000000 (b, w)).2.1).length) y.1.2], .dat kInt.sl ((Ent.listP 1000000 (b, w)).1) [.slice y.2.1 (((Ent.listP 1000000 (b, w)).1).length) y.2.2]]) := by
 refine Spec.enter (vs := [_]) Tryz.func95 rfl Tryz.ntmps95 rfl (Nat.le_of_ble_eq_true rfl) (fun w0 ok0 => ?_)
 generalize hM0 : blks _ = M0
 refine H_seq ?_
 refine H_region (l := [_]) rfl ?_
 refine HO_assign rfl rfl rfl ?_
 refine HO_nil ?_
 refine H_env (ρ' := [(0, _)]) ⟨rfl, trivial⟩ ?_
 refine H_seq ?_
 refine H_region (l := [_, _, _]) rfl ?_
 refine HO_move rfl rfl rfl ?_
 refine HO_dup (i := 1) rfl rfl ?_
 refine HO_call (first := []) (capt := []) (is := [0, 0]) (R := [_]) rfl rfl rfl rfl rfl Tryz.call27 rfl (rCount_spec _ _ _ _ _ _ _ ?_) ?_
 ·(constructor <;> decide)
 intro y7 hy7
 generalize hr_r1 : Cod.cnt 1000000 b w = r1
 have hl_r1 : r1.2.1.length ≤ b.length := hr_r1 ▸ Cod.cnt_len _ _ _
 have hc9 := Cod.cnt_le (k := 1000000) (by decide) b w
 rw [hr_r1] at hc9
 refine HO_assign rfl rfl rfl ?_
 refine HO_nil ?_
 refine H_env (ρ' := [(3, _), (0, _)]) ⟨rfl, rfl, trivial⟩ ?_
 refine H_world (fun _ hA => hA.keep (m := [yy, yy, nn]) (Y := [_, _]) rfl) ?_
 refine H_seq ?_
 refine H_region (l := [_]) rfl ?_
 refine HO_assign rfl rfl rfl ?_
 refine HO_nil ?_
 refine H_seq ?_
 refine H_seq ?_
 refine H_region (l := [_]) rfl ?_
 refine HO_assign rfl rfl rfl ?_
 refine HO_nil ?_
 refine H_block ?_
 refine H_own0 kInt 3 none ?_
 refine H_loop (σ := Nat × List UInt8 × Bool × List Int × Option Addr × Nat × Option Addr × Nat) (fun s => Ent.numsP r1.1 r1.2 = (s.2.2.2.1 ++ (Ent.numsP (r1.1 - s.1) (s.2.1, s.2.2.1)).1, (Ent.numsP (r1.1 - s.1) (s.2.1, s.2.2.1)).2) ∧ s.2.1.length ≤ 100000 ∧ (s.2.2.1 = false → s.2.2.2.1.length + s.2.1.length ≤ 100000) ∧ s.1 ≤ r1.1) (fun s => [(0, .pointer (some ⟨g, 0, none⟩)), (3, .int .i64 ((r1.1 : Int))), (4, .slice s.2.2.2.2.2.2.1 (s.2.2.2.1.length) s.2.2.2.2.2.2.2), (5, .int .i64 ((s.1 : Int)))]) (fun s => Asn w0 ok0 M0 [.loc g [.slice s.2.2.2.2.1 (s.2.1.length) s.2.2.2.2.2.1, .bool (s.2.2.1)] T, .dat kByte.sl (s.2.1) [.slice s.2.2.2.2.1 (s.2.1.length) s.2.2.2.2.2.1], .own 3 kInt s.2.2.2.2.2.2.1 s.2.2.2.2.2.2.2 (s.2.2.2.1)]) (fun s => r1.1 - s.1) ⟨0, r1.2.1, r1.2.2, [], y7.1, y7.2, none, 0⟩ ?_ ?_ ?_ ?_
 ·exact ⟨by simp, by dsimp only; omega, fun _ => by dsimp only [List.length_nil]; omega, Nat.zero_le _⟩
 ·exact ⟨rfl, rfl, rfl, rfl, trivial⟩
 ·intro w hA
  exact hA.only (is := [0, 1, 0]) (Z := []) rfl
 ·rintro ⟨i, bs, wr, l, p, q, p2, q2⟩ hI
  (try dsimp only at hI ⊢)
  have hbs := hI.2.1
  refine H_seq ?_
  refine H_seq ?_
  refine H_region (l := [_, _, _, _, _, _, _, _, _, _]) rfl ?_
  iterate 2 refine HO_move rfl rfl rfl ?_
  refine HO_bin rfl rfl rfl rfl bin_lss ?_
  refine HO_move rfl rfl rfl ?_
  refine HO_split (d := 11) rfl ?_ ?_
  ·intro h11
   replace h11 := dT h11
   refine HO_move rfl rfl rfl ?_
   refine HO_nilCheck rfl rfl rfl ?_
   refine HO_fieldAddr (r := 1) rfl rfl rfl Tryz.underlying64 rfl Tryz.sizeOf4 rfl ?_
   refine HO_load1 (i := 0) (j := 1) rfl rfl rfl Tryz.isAgg4 rfl (.loc _ _ _) rfl rfl ?_
   refine HO_not rfl rfl rfl ?_
   refine HO_pick_t rfl rfl rfl rfl ?_
   refine HO_nil ?_
   refine H_env (ρ' := [(17, _), (0, _), (3, _), (4, _), (5, _)]) ⟨rfl, rfl, rfl, rfl, rfl, trivial⟩ ?_
   refine H_cond rfl ?_ ?_
   ·intro h17
    replace h17 := nT h17
    refine H_skip ?_
    refine H_seq ?_
    refine H_block ?_
    have hwr : wr = false := by simpa using h17
    obtain ⟨m, hm⟩ : ∃ q, r1.1 - i = q + 1 := ⟨r1.1 - i - 1, by omega⟩
    have hm2 : r1.1 - (i + 1) = m := by omega
    rw [hm] at hI
    refine H_region (l := [_, _, _, _, _, _]) rfl ?_
    iterate 2 refine HO_move rfl rfl rfl ?_
    refine HO_dup (i := 1) rfl rfl ?_
    refine HO_call (first := []) (capt := []) (is := [0, 0]) (R := [_, _]) rfl rfl rfl rfl rfl Tryz.call25 rfl (rInt_spec _ _ _ _ _ _) ?_
    intro y22 hy22
    generalize hr_r2 : Cod.rd 0 (Cod.dec bs) bs wr = r2
    have hl_r2 : r2.2.1.length ≤ bs.length := hr_r2 ▸ Cod.rd_len _ _ _ _
    have hz_r2 := Cod.zag_lo' hr_r2
    refine HO_buildSlice (kd := kInt) (xo := [_]) (vs := [_]) (cs := [_]) (xs := [_]) rfl rfl rfl rfl Tryz.underlying23 elt3 rfl rfl rfl (by decide) (by decide) (by simp [Value.cells]) rfl (by intro ok w _; exact ⟨_, _, rfl, ⟨rfl, by first | omega | (constructor <;> omega)⟩, rfl⟩) ?_
    intro g23
    refine HO_append (i := 4) (R := [_, _, _, _]) rfl rfl rfl rfl rfl Tryz.underlying23 elt3 rfl rfl (SrcOk.own (j := 0) Tryz.underlying23 rfl rfl) ?_ ?_
    ·(simp only [List.length_append, List.length_cons, List.length_nil]; have := hI.2.2.1 hwr; omega)
    intro a24 c24
    refine HO_assign rfl rfl rfl ?_
    refine HO_nil ?_
    refine H_env (ρ' := [(4, _), (0, _), (3, _), (5, _)]) ⟨rfl, rfl, rfl, rfl, trivial⟩ ?_
    refine H_world (fun _ hA => hA.keep (m := [yy, nn, yy, yy, nn]) (Y := [_, _, _]) rfl) ?_
    refine H_blk ?_
    refine H_region (l := [_, _, _]) rfl ?_
    refine HO_move rfl rfl rfl ?_
    refine HO_bin rfl rfl rfl rfl (bin_add ?_ ?_) ?_
    ·omega
    ·omega
    refine HO_assign rfl rfl rfl ?_
    refine HO_nil ?_
    refine H_env (ρ' := [(5, _), (4, _), (0, _), (3, _)]) ⟨rfl, rfl, rfl, rfl, trivial⟩ ?_
    refine H_inv (fun a w hf hA => ⟨⟨i + 1, r2.2.1, r2.2.2, l ++ [Cod.zag r2.1], y22.1, y22.2, a24, c24⟩, ?_, ?_, hf.sub ?_, ?_⟩)
    ·exact ⟨by dsimp only; rw [hm2]; exact Ent.nums_more hI.1 hwr hr_r2, by dsimp only; omega, Ent.nums_more_len hwr hI.2.2.1 hr_r2, by dsimp only; omega⟩
    ·(try dsimp only); omega
    ·exact ⟨rfl, rfl, rfl, rfl, trivial⟩
    ·exact hA.only (is := [0, 1, 0]) (Z := []) rfl
   intro h17
   replace h17 := nF h17
   refine H_exit rfl ?_
   refine H_seq ?_
   have hps : Ent.numsP r1.1 r1.2 = (l, (bs, wr)) := by first | exact Ent.nums0 hI.1 (by omega) | exact Ent.numsW hI.1 h17
   have hlp : Ent.listP 1000000 (b, w) = (l, (bs, wr)) := Ent.listP_of hr_r1 hps
   refine H_region (l := [_, _]) rfl ?_
   refine HO_move rfl rfl rfl ?_
   refine HO_assign rfl rfl rfl ?_
   refine HO_nil ?_
   refine H_env (ρ' := [(2, _)]) ⟨rfl, trivial⟩ ?_
   refine H_freeze (i := 2) (R := [_, _]) rfl (keepM hM0 ⟨(fun _ h => ⟨_, List.mem_of_getElem? (i := 0) rfl, h⟩), (fun _ h => nomatch h), trivial⟩) ?_
   refine H_ret1 Tryz.results95 (.tmp rfl) (fun w hA => ⟨((p, q), (p2, q2)), congrArg Ending.returned ?_, ?_, ?_⟩)
   ·(rw [hlp])
   ·trivial
   ·(rw [hlp]; exact hA.only (is := [0, 1, 0]) (Z := []) rfl)
  intro h11
  replace h11 := dF h11
  iterate 5 refine HO_no rfl rfl rfl ?_
  refine HO_pick_f rfl rfl rfl rfl ?_
  refine HO_nil ?_
  refine H_env (ρ' := [(17, _), (0, _), (3, _), (4, _), (5, _)]) ⟨rfl, rfl, rfl, rfl, rfl, trivial⟩ ?_
  refine H_cond rfl (fun h => nomatch h) (fun _ => ?_)
  refine H_exit rfl ?_
  refine H_seq ?_
  have hps : Ent.numsP r1.1 r1.2 = (l, (bs, wr)) := by first | exact Ent.nums0 hI.1 (by omega) | exact Ent.numsW hI.1 h17
  have hlp : Ent.listP 1000000 (b, w) = (l, (bs, wr)) := Ent.listP_of hr_r1 hps
  refine H_region (l := [_, _]) rfl ?_
  refine HO_move rfl rfl rfl ?_
  refine HO_assign rfl rfl rfl ?_
  refine HO_nil ?_
  refine H_env (ρ' := [(2, _)]) ⟨rfl, trivial⟩ ?_
  refine H_freeze (i := 2) (R := [_, _]) rfl (keepM hM0 ⟨(fun _ h => ⟨_, List.mem_of_getElem? (i := 0) rfl, h⟩), (fun _ h => nomatch h), trivial⟩) ?_
  refine H_ret1 Tryz.results95 (.tmp rfl) (fun w hA => ⟨((p, q), (p2, q2)), congrArg Ending.returned ?_, ?_, ?_⟩)
  ·(rw [hlp])
  ·trivial
  ·(rw [hlp]; exact hA.only (is := [0, 1, 0]) (Z := []) rfl)
theorem cconf_spec (T : TypeId) (g : Nat) (b : List UInt8) (w : Bool) (a : Option Addr) (c : Nat) (hb : b.length ≤ 100000) : Spec Tryz.prog 61 #[.pointer (some ⟨g, 0, none⟩)] [.loc g [.slice a (b.length) c, .bool (w)] T, .dat kByte.sl (b) [.slice a (b.length) c]] (β := (Option Addr × Nat) × (Option Addr × Nat) × (Option Addr × Nat)) (fun y => .agg #[.slice y.2.1.1 (((Ent.confP (b, w)).1.vot).length) y.2.1.2, .slice y.2.2.1 (((Ent.confP (b, w)).1.lea).length) y.2.2.2]) (fun y => True) (fun y => [.loc g [.slice y.1.1 (((Ent.confP (b, w)).2.1).length) y.1.2, .bool ((Ent.confP (b, w)).2.2)] T, .dat kByte.sl ((Ent.confP (b, w)).2.1) [.slice y.1.1 (((Ent.confP (b, w)).2.1).length) y.1.2], .dat kInt.sl ((Ent.confP (b, w)).1.vot) [.slice y.2.1.1 (((Ent.confP (b, w)).1.vot).length) y.2.1.2], .dat kInt.sl ((Ent.confP (b, w)).1.lea) [.slice y.2.2.1 (((Ent.confP (b, w)).1.lea).length) y.2.2.2]]) := by
 refine Spec.enter (vs := [_]) Tryz.func61 rfl Tryz.ntmps61 rfl (Nat.le_of_ble_eq_true rfl) (fun w0 ok0 => ?_)
 generalize hM0 : blks _ = M0
 refine H_seq ?_
 refine H_region (l := [_]) rfl ?_
 refine HO_alloc (cs := [_, _]) rfl rfl Tryz.zeroValue25 rfl ?_
 intro g2
 refine HO_nil ?_
 refine H_seq ?_
 refine H_region (l := [_, _, _, _, _]) rfl ?_
 refine HO_move rfl rfl rfl ?_
 refine HO_nilCheck rfl rfl rfl ?_
 refine HO_fieldAddr (r := 0) rfl rfl rfl Tryz.underlying58 rfl Tryz.sizeOf56 rfl ?_
 refine HO_makeFunc (vs := [_]) (us := []) rfl rfl rfl rfl ?_
 refine HO_assign rfl rfl rfl ?_
 refine HO_nil ?_
 refine H_env (ρ' := [(3, _), (2, _), (0, _)]) ⟨rfl, rfl, rfl, trivial⟩ ?_
 refine H_seq ?_
 refine H_region (l := [_, _, _, _, _, _]) rfl ?_
 iterate 2 refine HO_move rfl rfl rfl ?_
 refine HO_dup (i := 2) rfl rfl ?_
 refine HO_call (first := []) (capt := []) (is := [1, 0]) (R := [_, _]) rfl rfl rfl rfl rfl Tryz.call92 rfl (itemsint_spec _ _ _ _ _ _ _ ?_ ?_) ?_
 ·omega
 ·(constructor <;> decide)
 intro y11 hy11
 generalize hv1 : Ent.listP 1000000 (b, w) = v1
 have hvl1 : v1.2.1.length ≤ b.length := by have := Ent.listP_len 1000000 (b, w); rw [hv1] at this; exact this
 refine HO_build (xo := [(0, _)]) (vs := [_]) rfl rfl rfl rfl (bd25_0_s) ?_
 refine HO_alloc (cs := [_, _]) rfl rfl Tryz.zeroValue25 rfl ?_
 intro g4
 refine HO_store (i := 0) (j := 0) (us := []) (old := [_, _]) (ts := []) (cs := [_, _]) (R := [_, _, _, _, _]) (new := [_, _]) rfl rfl rfl Tryz.sizeOf25 rfl (by simp [Value.oneCell']) rfl rfl rfl rfl rfl rfl ?_
 refine HO_nil ?_
 refine H_env (ρ' := [(4, _), (3, _), (2, _), (0, _)]) ⟨rfl, rfl, rfl, rfl, trivial⟩ ?_
 refine H_world (fun _ hA => hA.keep (m := [yy, yy, yy, yy, yy, nn]) (Y := [_, _, _, _, _]) rfl) ?_
 refine H_seq ?_
 refine H_region (l := [_, _, _, _, _]) rfl ?_
 iterate 2 refine HO_move rfl rfl rfl ?_
 refine HO_dup (i := 2) rfl rfl ?_
 refine HO_call (first := []) (capt := []) (is := [1, 0]) (R := [_, _, _, _]) rfl rfl rfl rfl rfl Tryz.call92 rfl (itemsint_spec _ _ _ _ _ _ _ ?_ ?_) ?_
 ·omega
 ·(constructor <;> decide)
 intro y15 hy15
 generalize hv2 : Ent.listP 1000000 (v1.2.1, v1.2.2) = v2
 have hvl2 : v2.2.1.length ≤ v1.2.1.length := by have := Ent.listP_len 1000000 (v1.2.1, v1.2.2); rw [hv2] at this; exact this
 refine HO_fieldAddr (r := 1) rfl rfl rfl Tryz.underlying25 rfl Tryz.sizeOf23 rfl ?_
 refine HO_store (i := 3) (j := 0) (us := [_]) (old := [_]) (ts := []) (cs := [_]) (R := [_, _, _, _, _, _]) (new := [_, _]) rfl rfl rfl Tryz.sizeOf23 rfl (by simp [Value.oneCell']) rfl rfl rfl rfl rfl rfl ?_
 refine HO_nil ?_
 refine H_env (ρ' := [(4, _), (2, _)]) ⟨rfl, rfl, trivial⟩ ?_
 refine H_world (fun _ hA => hA.keep (m := [yy, yy, yy, yy, nn, yy, yy]) (Y := [_, _, _, _, _, _]) rfl) ?_
 refine H_seq ?_
 refine H_region (l := [_, _]) rfl ?_
 refine HO_loadA (i := 0) (us := []) (cs := [_, _]) (ts := []) rfl rfl rfl Tryz.isAgg25 Tryz.sizeOf25 rfl (.loc _ _ _) rfl rfl rfl rfl ?_
 refine HO_store (i := 5) (j := 0) (us := []) (old := [_, _]) (ts := []) (cs := [_, _]) (R := [_, _, _, _, _]) (new := [_, _]) rfl rfl rfl Tryz.sizeOf25 rfl (by simp [Value.oneCell']) rfl rfl rfl rfl rfl rfl ?_
 refine HO_nil ?_
 refine H_env (ρ' := [(2, _)]) ⟨rfl, trivial⟩ ?_
 refine H_world (fun _ hA => hA.keep (m := [yy, nn, yy, yy, yy, yy]) (Y := [_, _, _, _, _]) rfl) ?_
 have hcp := Ent.confP_of hv1 hv2
 refine H_ret1 Tryz.results61 (.cell rfl (fun w hA => run_loadVarA (cs := [_, _]) (Tryz.isAgg25 w) (Tryz.sizeOf25 w) (Tells.cells (.loc _ _ _) (hA.get (i := 0) rfl)))) (fun w hA => ⟨(y15.1, y11.2, y15.2), congrArg Ending.returned ?_, ?_, ?_⟩)
 ·(rw [hcp])
 ·trivial
 ·(rw [hcp]; exact hA.only (is := [1, 2, 3, 3]) (Z := [_]) rfl)
theorem rreadconf_spec (T : TypeId) (g : Nat) (b : List UInt8) (w : Bool) (a : Option Addr) (c : Nat) (hb : b.length ≤ 100000) : Spec Tryz.prog 69 #[.pointer (some ⟨g, 0, none⟩)] [.loc g [.slice a (b.length) c, .bool (w)] T, .dat kByte.sl (b) [.slice a (b.length) c]] (β := (Option Addr × Nat) × (Option Addr × Nat) × (Option Addr × Nat)) (fun y => .agg #[.slice y.2.1.1 (((Ent.confP (b, w)).1.vot).length) y.2.1.2, .slice y.2.2.1 (((Ent.confP (b, w)).1.lea).length) y.2.2.2]) (fun y => True) (fun y => [.loc g [.slice y.1.1 (((Ent.confP (b, w)).2.1).length) y.1.2, .bool ((Ent.confP (b, w)).2.2)] T, .dat kByte.sl ((Ent.confP (b, w)).2.1) [.slice y.1.1 (((Ent.confP (b, w)).2.1).length) y.1.2], .dat kInt.sl ((Ent.confP (b, w)).1.vot) [.slice y.2.1.1 (((Ent.confP (b, w)).1.vot).length) y.2.1.2], .dat kInt.sl ((Ent.confP (b, w)).1.lea) [.slice y.2.2.1 (((Ent.confP (b, w)).1.lea).length) y.2.2.2]]) := by
 refine Spec.enter (vs := [_]) Tryz.func69 rfl Tryz.ntmps69 rfl (Nat.le_of_ble_eq_true rfl) (fun w0 ok0 => ?_)
 generalize hM0 : blks _ = M0
 refine H_seq ?_
 refine H_region (l := [_]) rfl ?_
 refine HO_alloc (cs := [_, _]) rfl rfl Tryz.zeroValue25 rfl ?_
 intro g2
 refine HO_nil ?_
 refine H_seq ?_
 refine H_region (l := [_]) rfl ?_
 refine HO_alloc (cs := [_, _]) rfl rfl Tryz.zeroValue25 rfl ?_
 intro g3
 refine HO_nil ?_
 refine H_seq ?_
 refine H_region (l := [_, _, _, _]) rfl ?_
 refine HO_move rfl rfl rfl ?_
 refine HO_dup (i := 3) rfl rfl ?_
 refine HO_call (first := []) (capt := []) (is := [2, 0]) (R := [_, _, _]) rfl rfl rfl rfl rfl Tryz.call95 rfl (rreadlist_spec _ _ _ _ _ _ ?_) ?_
 ·omega
 intro y5 hy5
 generalize hv1 : Ent.listP 1000000 (b, w) = v1
 have hvl1 : v1.2.1.length ≤ b.length := by have := Ent.listP_len 1000000 (b, w); rw [hv1] at this; exact this
 refine HO_fieldAddr (r := 0) rfl rfl rfl Tryz.underlying25 rfl Tryz.sizeOf23 rfl ?_
 refine HO_store (i := 3) (j := 0) (us := []) (old := [_]) (ts := [_]) (cs := [_]) (R := [_, _, _, _, _]) (new := [_, _]) rfl rfl rfl Tryz.sizeOf23 rfl (by simp [Value.oneCell']) rfl rfl rfl rfl rfl rfl ?_
 refine HO_nil ?_
 refine H_env (ρ' := [(3, _), (2, _), (0, _)]) ⟨rfl, rfl, rfl, trivial⟩ ?_
 refine H_world (fun _ hA => hA.keep (m := [yy, yy, yy, yy, yy, nn]) (Y := [_, _, _, _, _]) rfl) ?_
 refine H_seq ?_
 refine H_region (l := [_, _, _, _]) rfl ?_
 refine HO_move rfl rfl rfl ?_
 refine HO_dup (i := 2) rfl rfl ?_
 refine HO_call (first := []) (capt := []) (is := [1, 0]) (R := [_, _, _, _]) rfl rfl rfl rfl rfl Tryz.call95 rfl (rreadlist_spec _ _ _ _ _ _ ?_) ?_
 ·omega
 intro y8 hy8
 generalize hv2 : Ent.listP 1000000 (v1.2.1, v1.2.2) = v2
 have hvl2 : v2.2.1.length ≤ v1.2.1.length := by have := Ent.listP_len 1000000 (v1.2.1, v1.2.2); rw [hv2] at this; exact this
 refine HO_fieldAddr (r := 1) rfl rfl rfl Tryz.underlying25 rfl Tryz.sizeOf23 rfl ?_
 refine HO_store (i := 3) (j := 0) (us := [_]) (old := [_]) (ts := []) (cs := [_]) (R := [_, _, _, _, _, _]) (new := [_, _]) rfl rfl rfl Tryz.sizeOf23 rfl (by simp [Value.oneCell']) rfl rfl rfl rfl rfl rfl ?_
 refine HO_nil ?_
 refine H_env (ρ' := [(3, _), (2, _)]) ⟨rfl, rfl, trivial⟩ ?_
 refine H_world (fun _ hA => hA.keep (m := [yy, yy, yy, yy, nn, yy, yy]) (Y := [_, _, _, _, _, _]) rfl) ?_
 refine H_seq ?_
 refine H_region (l := [_, _]) rfl ?_
 refine HO_loadA (i := 0) (us := []) (cs := [_, _]) (ts := []) rfl rfl rfl Tryz.isAgg25 Tryz.sizeOf25 rfl (.loc _ _ _) rfl rfl rfl rfl ?_
 refine HO_store (i := 5) (j := 0) (us := []) (old := [_, _]) (ts := []) (cs := [_, _]) (R := [_, _, _, _, _]) (new := [_, _]) rfl rfl rfl Tryz.sizeOf25 rfl (by simp [Value.oneCell']) rfl rfl rfl rfl rfl rfl ?_
 refine HO_nil ?_
 refine H_env (ρ' := [(2, _)]) ⟨rfl, trivial⟩ ?_
 refine H_world (fun _ hA => hA.keep (m := [yy, nn, yy, yy, yy, yy]) (Y := [_, _, _, _, _]) rfl) ?_
 have hcp := Ent.confP_of hv1 hv2
 refine H_ret1 Tryz.results69 (.cell rfl (fun w hA => run_loadVarA (cs := [_, _]) (Tryz.isAgg25 w) (Tryz.sizeOf25 w) (Tells.cells (.loc _ _ _) (hA.get (i := 0) rfl)))) (fun w hA => ⟨(y8.1, y5.2, y8.2), congrArg Ending.returned ?_, ?_, ?_⟩)
 ·(rw [hcp])
 ·trivial
 ·(rw [hcp]; exact hA.only (is := [1, 2, 3, 3]) (Z := [_]) rfl)
theorem creadent_spec (T : TypeId) (g : Nat) (b : List UInt8) (w : Bool) (a : Option Addr) (c : Nat) (hb : b.length ≤ 100000) : Spec Tryz.prog 22 #[.pointer (some ⟨g, 0, none⟩)] [.loc g [.slice a (b.length) c, .bool (w)] T, .dat kByte.sl (b) [.slice a (b.length) c]] (β := (Option Addr × Nat) × (Option Addr × Nat) × (Option Addr × Nat)) (fun y => .agg #[.int .i64 ((Ent.entP (b, w)).1.idx), .int .i64 ((Ent.entP (b, w)).1.term), .int .i64 ((Ent.entP (b, w)).1.kind), .int .i64 ((Ent.entP (b, w)).1.cmd.kind), .int .i64 ((Ent.entP (b, w)).1.cmd.sess), .int .i64 ((Ent.entP (b, w)).1.cmd.seq), .string ((Ent.entP (b, w)).1.cmd.key), .string ((Ent.entP (b, w)).1.cmd.old), .string ((Ent.entP (b, w)).1.cmd.val), .string ((Ent.entP (b, w)).1.cmd.til), .int .i64 ((Ent.entP (b, w)).1.cmd.lim), .slice y.2.1.1 (((Ent.entP (b, w)).1.conf.vot).length) y.2.1.2, .slice y.2.2.1 (((Ent.entP (b, w)).1.conf.lea).length) y.2.2.2]) (fun y => True) (fun y => [.loc g [.slice y.1.1 (((Ent.entP (b, w)).2.1).length) y.1.2, .bool ((Ent.entP (b, w)).2.2)] T, .dat kByte.sl ((Ent.entP (b, w)).2.1) [.slice y.1.1 (((Ent.entP (b, w)).2.1).length) y.1.2], .dat kInt.sl ((Ent.entP (b, w)).1.conf.vot) [.slice y.2.1.1 (((Ent.entP (b, w)).1.conf.vot).length) y.2.1.2], .dat kInt.sl ((Ent.entP (b, w)).1.conf.lea) [.slice y.2.2.1 (((Ent.entP (b, w)).1.conf.lea).length) y.2.2.2]]) := by
 refine Spec.enter (vs := [_]) Tryz.func22 rfl Tryz.ntmps22 rfl (Nat.le_of_ble_eq_true rfl) (fun w0 ok0 => ?_)
 generalize hM0 : blks _ = M0
 refine H_seq ?_
 refine H_region (l := [_]) rfl ?_
 refine HO_alloc (cs := [_, _, _, _, _, _, _, _, _, _, _, _, _]) rfl rfl Tryz.zeroValue45 rfl ?_
 intro g2
 refine HO_nil ?_
 refine H_seq ?_
 refine H_meetE (σ := (Nat × List UInt8 × Bool) × (Nat × List UInt8 × Bool) × (Nat × List UInt8 × Bool) × Option Addr × Nat × Nat) _ (fun s => Cod.rd 0 (Cod.dec b) b w = s.1 ∧ Cod.rd 0 (Cod.dec s.1.2.1) s.1.2.1 s.1.2.2 = s.2.1 ∧ Cod.rd 0 (Cod.dec s.2.1.2.1) s.2.1.2.1 s.2.1.2.2 = s.2.2.1) (fun s => [(0, .pointer (some ⟨g, 0, none⟩)), (2, .pointer (some ⟨g2, 0, none⟩)), (3, .pointer (some ⟨s.2.2.2.2.2, 0, none⟩))]) (fun s => Asn w0 ok0 M0 [.loc g [.slice s.2.2.2.1 ((s.2.2.1.2.1).length) s.2.2.2.2.1, .bool (s.2.2.1.2.2)] T, .dat kByte.sl (s.2.2.1.2.1) [.slice s.2.2.2.1 ((s.2.2.1.2.1).length) s.2.2.2.2.1], .loc g2 [.int .i64 (0), .int .i64 (0), .int .i64 (0), .int .i64 (0), .int .i64 (0), .int .i64 (0), .string (⟨#[]⟩), .string (⟨#[]⟩), .string (⟨#[]⟩), .string (⟨#[]⟩), .int .i64 (0), .slice none 0 0, .slice none 0 0] 45, .loc s.2.2.2.2.2 [.int .i64 (Cod.zag s.1.1), .int .i64 (Cod.zag s.2.1.1), .int .i64 (Cod.zag s.2.2.1.1), .int .i64 (0), .int .i64 (0), .int .i64 (0), .string (⟨#[]⟩), .string (⟨#[]⟩), .string (⟨#[]⟩), .string (⟨#[]⟩), .int .i64 (0), .slice none 0 0, .slice none 0 0] 45]) ?_ ?_
 ·skip
  refine H_drawB (m := [yy, nn, yy]) (Xs := [_, _]) (fuel := 15) (l := #[false, false, false, false, false, false, false, false, false, false, false, false, false, false, false]) mixed rfl rfl rfl ?_
  refine HA_take (i := 0) (listed' := #[true, false, false, false, false, false, false, false, false, false, false, false, false, false, false]) (bodyPost_pan _ _ _) rfl rfl rfl rfl (by kernel_rfl) rfl (V_move rfl) (fun _ hA => hA.keep (m := [yy, nn, yy]) (Y := [_, _]) rfl) ?_
  refine HA_take (i := 1) (listed' := #[true, true, false, false, false, false, false, false, false, false, false, false, false, false, false]) (bodyPost_pan _ _ _) rfl rfl rfl rfl (by kernel_rfl) rfl (V_nilCheck rfl) (fun _ hA => hA.keep (m := [yy, nn, yy]) (Y := [_, _]) rfl) ?_
  refine HA_take (i := 2) (listed' := #[true, true, true, false, false, false, false, false, false, false, false, false, false, false, false]) (bodyPost_pan _ _ _) rfl rfl rfl rfl (by kernel_rfl) rfl (V_fieldAddr (r := 0) rfl Tryz.underlying58 rfl Tryz.sizeOf56 rfl) (fun _ hA => hA.keep (m := [yy, nn, yy]) (Y := [_, _]) rfl) ?_
  refine HA_take (i := 4) (listed' := #[true, true, true, false, true, false, false, false, false, false, false, false, false, false, false]) (bodyPost_pan _ _ _) rfl rfl rfl rfl (by kernel_rfl) rfl (V_move rfl) (fun _ hA => hA.keep (m := [yy, nn, yy]) (Y := [_, _]) rfl) ?_
  refine HA_take (i := 5) (listed' := #[true, true, true, false, true, true, false, false, false, false, false, false, false, false, false]) (bodyPost_pan _ _ _) rfl rfl rfl rfl (by kernel_rfl) rfl (V_nilCheck rfl) (fun _ hA => hA.keep (m := [yy, nn, yy]) (Y := [_, _]) rfl) ?_
  refine HA_take (i := 6) (listed' := #[true, true, true, false, true, true, true, false, false, false, false, false, false, false, false]) (bodyPost_pan _ _ _) rfl rfl rfl rfl (by kernel_rfl) rfl (V_fieldAddr (r := 0) rfl Tryz.underlying58 rfl Tryz.sizeOf56 rfl) (fun _ hA => hA.keep (m := [yy, nn, yy]) (Y := [_, _]) rfl) ?_
  refine HA_take (i := 8) (listed' := #[true, true, true, false, true, true, true, false, true, false, false, false, false, false, false]) (bodyPost_pan _ _ _) rfl rfl rfl rfl (by kernel_rfl) rfl (V_move rfl) (fun _ hA => hA.keep (m := [yy, nn, yy]) (Y := [_, _]) rfl) ?_
  refine HA_take (i := 9) (listed' := #[true, true, true, false, true, true, true, false, true, true, false, false, false, false, false]) (bodyPost_pan _ _ _) rfl rfl rfl rfl (by kernel_rfl) rfl (V_nilCheck rfl) (fun _ hA => hA.keep (m := [yy, nn, yy]) (Y := [_, _]) rfl) ?_
  refine HA_take (i := 10) (listed' := #[true, true, true, false, true, true, true, false, true, true, true, false, false, false, false]) (bodyPost_pan _ _ _) rfl rfl rfl rfl (by kernel_rfl) rfl (V_fieldAddr (r := 0) rfl Tryz.underlying58 rfl Tryz.sizeOf56 rfl) (fun _ hA => hA.keep (m := [yy, nn, yy]) (Y := [_, _]) rfl) ?_
  refine HA_loud2 (i := 3) (j := 13) (by kernel_rfl) rfl rfl ?_ ?_
  ·refine HO_dup (i := 2) rfl rfl ?_
   refine HO_call (first := []) (capt := []) (is := [1, 0]) (R := [_, _]) rfl rfl rfl rfl rfl Tryz.call19 rfl (cInt_spec _ _ _ _ _ _) ?_
   intro y9 hy9
   refine HA_back (listed' := #[true, true, true, true, true, true, true, false, true, true, true, false, false, false, false]) rfl (fun _ hA => hA.keep (m := [nn, nn, yy, yy]) (Y := [_, _]) rfl) ?_
   refine HA_loud2 (i := 7) (j := 13) (by kernel_rfl) rfl rfl ?_ ?_
   ·generalize hr_r1 : Cod.rd 0 (Cod.dec b) b w = r1
    have hl_r1 : r1.2.1.length ≤ b.length := hr_r1 ▸ Cod.rd_len _ _ _ _
    refine HO_dup (i := 1) rfl rfl ?_
    refine HO_call (first := []) (capt := []) (is := [0, 0]) (R := [_, _, _]) rfl rfl rfl rfl rfl Tryz.call19 rfl (cInt_spec _ _ _ _ _ _) ?_
    intro y13 hy13
    refine HA_back (listed' := #[true, true, true, true, true, true, true, true, true, true, true, false, false, false, false]) rfl (fun _ hA => hA.keep (m := [nn, nn, nn, yy, yy]) (Y := [_, _]) rfl) ?_
    refine HA_loud2 (i := 11) (j := 13) (by kernel_rfl) rfl rfl ?_ ?_
    ·generalize hr_r2 : Cod.rd 0 (Cod.dec r1.2.1) r1.2.1 r1.2.2 = r2
     have hl_r2 : r2.2.1.length ≤ r1.2.1.length := hr_r2 ▸ Cod.rd_len _ _ _ _
     refine HO_dup (i := 1) rfl rfl ?_
     refine HO_call (first := []) (capt := []) (is := [0, 0]) (R := [_, _, _, _]) rfl rfl rfl rfl rfl Tryz.call19 rfl (cInt_spec _ _ _ _ _ _) ?_
     intro y17 hy17
     refine HA_back (listed' := #[true, true, true, true, true, true, true, true, true, true, true, true, false, false, false]) rfl (fun _ hA => hA.keep (m := [nn, nn, nn, nn, yy, yy]) (Y := [_, _]) rfl) ?_
     generalize hr_r3 : Cod.rd 0 (Cod.dec r2.2.1) r2.2.1 r2.2.2 = r3
     have hl_r3 : r3.2.1.length ≤ r2.2.1.length := hr_r3 ▸ Cod.rd_len _ _ _ _
     refine HA_take (i := 12) (listed' := #[true, true, true, true, true, true, true, true, true, true, true, true, true, false, false]) (bodyPost_pan _ _ _) rfl rfl rfl rfl (by kernel_rfl) rfl (V_build (xo := [(0, _), (1, _), (2, _)]) (vs := [_, _, _]) rfl rfl (bd45_0_1_2_iii)) (fun _ hA => hA.keep (m := [nn, nn, nn, nn, yy, yy]) (Y := [_, _]) rfl) ?_
     refine HA_loud1 (i := 13) (by kernel_rfl) rfl ?_
     refine HO_alloc (cs := [_, _, _, _, _, _, _, _, _, _, _, _, _]) rfl rfl Tryz.zeroValue45 rfl ?_
     intro g3
     refine HA_back (listed' := #[true, true, true, true, true, true, true, true, true, true, true, true, true, true, false]) rfl (fun _ hA => hA.keep (m := [nn, nn, nn, nn, nn, yy, yy]) (Y := [_, _]) rfl) ?_
     refine HA_loud1 (i := 14) (by kernel_rfl) rfl ?_
     refine HO_store (i := 0) (j := 0) (us := []) (old := [_, _, _, _, _, _, _, _, _, _, _, _, _]) (ts := []) (cs := [_, _, _, _, _, _, _, _, _, _, _, _, _]) (R := [_, _, _, _, _, _]) (new := [_, _, _, _, _, _, _, _, _, _, _, _, _]) rfl rfl rfl Tryz.sizeOf45 rfl (by simp [Value.oneCell']) rfl rfl rfl rfl rfl rfl ?_
     refine HA_back (listed' := #[true, true, true, true, true, true, true, true, true, true, true, true, true, true, true]) rfl (fun _ hA => hA.keep (m := [nn, nn, nn, nn, nn, yy, yy]) (Y := [_, _]) rfl) ?_
     refine HA_done (by kernel_rfl) ?_
     refine H_env (ρ' := [(3, _), (2, _), (0, _)]) ⟨rfl, rfl, rfl, trivial⟩ ?_
     refine H_world (fun _ hA => hA.keep (m := [yy, yy, yy, nn, nn, yy, nn]) (Y := [_, _, _, _]) rfl) ?_
     refine H_inv (fun a w hf hA => ⟨⟨r1, r2, r3, y17.1, y17.2, g3⟩, ?_, hf.sub ?_, ?_⟩)
     ·exact ⟨rfl, hr_r2, hr_r3⟩
     ·exact ⟨rfl, rfl, rfl, trivial⟩
     ·exact hA.only (is := [0, 1, 2, 0]) (Z := []) rfl
    ·refine HO_alloc (cs := [_, _, _, _, _, _, _, _, _, _, _, _, _]) rfl rfl Tryz.zeroValue45 rfl ?_
     intro g3
     refine HA_back (listed' := #[true, true, true, true, true, true, true, true, true, true, true, false, false, true, false]) rfl (fun _ hA => hA.keep (m := [nn, nn, nn, nn, yy, yy]) (Y := [_, _]) rfl) ?_
     refine HA_loud1 (i := 11) (by kernel_rfl) rfl ?_
     generalize hr_r2 : Cod.rd 0 (Cod.dec r1.2.1) r1.2.1 r1.2.2 = r2
     have hl_r2 : r2.2.1.length ≤ r1.2.1.length := hr_r2 ▸ Cod.rd_len _ _ _ _
     refine HO_dup (i := 2) rfl rfl ?_
     refine HO_call (first := []) (capt := []) (is := [1, 0]) (R := [_, _, _, _, _]) rfl rfl rfl rfl rfl Tryz.call19 rfl (cInt_spec _ _ _ _ _ _) ?_
     intro y17 hy17
     refine HA_back (listed' := #[true, true, true, true, true, true, true, true, true, true, true, true, false, true, false]) rfl (fun _ hA => hA.keep (m := [nn, nn, nn, nn, nn, yy, yy]) (Y := [_, _]) rfl) ?_
     generalize hr_r3 : Cod.rd 0 (Cod.dec r2.2.1) r2.2.1 r2.2.2 = r3
     have hl_r3 : r3.2.1.length ≤ r2.2.1.length := hr_r3 ▸ Cod.rd_len _ _ _ _
     refine HA_take (i := 12) (listed' := #[true, true, true, true, true, true, true, true, true, true, true, true, true, true, false]) (bodyPost_pan _ _ _) rfl rfl rfl rfl (by kernel_rfl) rfl (V_build (xo := [(0, _), (1, _), (2, _)]) (vs := [_, _, _]) rfl rfl (bd45_0_1_2_iii)) (fun _ hA => hA.keep (m := [nn, nn, nn, nn, nn, yy, yy]) (Y := [_, _]) rfl) ?_
     refine HA_loud1 (i := 14) (by kernel_rfl) rfl ?_
     refine HO_store (i := 2) (j := 0) (us := []) (old := [_, _, _, _, _, _, _, _, _, _, _, _, _]) (ts := []) (cs := [_, _, _, _, _, _, _, _, _, _, _, _, _]) (R := [_, _, _, _, _, _]) (new := [_, _, _, _, _, _, _, _, _, _, _, _, _]) rfl rfl rfl Tryz.sizeOf45 rfl (by simp [Value.oneCell']) rfl rfl rfl rfl rfl rfl ?_
     refine HA_back (listed' := #[true, true, true, true, true, true, true, true, true, true, true, true, true, true, true]) rfl (fun _ hA => hA.keep (m := [nn, nn, nn, nn, nn, yy, yy]) (Y := [_, _]) rfl) ?_
     refine HA_done (by kernel_rfl) ?_
     refine H_env (ρ' := [(3, _), (2, _), (0, _)]) ⟨rfl, rfl, rfl, trivial⟩ ?_
     refine H_world (fun _ hA => hA.keep (m := [yy, yy, yy, nn, nn, yy, nn]) (Y := [_, _, _, _]) rfl) ?_
     refine H_inv (fun a w hf hA => ⟨⟨r1, r2, r3, y17.1, y17.2, g3⟩, ?_, hf.sub ?_, ?_⟩)
     ·exact ⟨rfl, hr_r2, hr_r3⟩
     ·exact ⟨rfl, rfl, rfl, trivial⟩
     ·exact hA.only (is := [0, 1, 2, 0]) (Z := []) rfl
   ·refine HO_alloc (cs := [_, _, _, _, _, _, _, _, _, _, _, _, _]) rfl rfl Tryz.zeroValue45 rfl ?_
    intro g3
    refine HA_back (listed' := #[true, true, true, true, true, true, true, false, true, true, true, false, false, true, false]) rfl (fun _ hA => hA.keep (m := [nn, nn, nn, yy, yy]) (Y := [_, _]) rfl) ?_
    refine HA_loud1 (i := 7) (by kernel_rfl) rfl ?_
    generalize hr_r1 : Cod.rd 0 (Cod.dec b) b w = r1
    have hl_r1 : r1.2.1.length ≤ b.length := hr_r1 ▸ Cod.rd_len _ _ _ _
    refine HO_dup (i := 2) rfl rfl ?_
    refine HO_call (first := []) (capt := []) (is := [1, 0]) (R := [_, _, _, _]) rfl rfl rfl rfl rfl Tryz.call19 rfl (cInt_spec _ _ _ _ _ _) ?_
    intro y13 hy13
    refine HA_back (listed' := #[true, true, true, true, true, true, true, true, true, true, true, false, false, true, false]) rfl (fun _ hA => hA.keep (m := [nn, nn, nn, nn, yy, yy]) (Y := [_, _]) rfl) ?_
    refine HA_loud1 (i := 11) (by kernel_rfl) rfl ?_
    generalize hr_r2 : Cod.rd 0 (Cod.dec r1.2.1) r1.2.1 r1.2.2 = r2
    have hl_r2 : r2.2.1.length ≤ r1.2.1.length := hr_r2 ▸ Cod.rd_len _ _ _ _
    refine HO_dup (i := 1) rfl rfl ?_
    refine HO_call (first := []) (capt := []) (is := [0, 0]) (R := [_, _, _, _, _]) rfl rfl rfl rfl rfl Tryz.call19 rfl (cInt_spec _ _ _ _ _ _) ?_
    intro y17 hy17
    refine HA_back (listed' := #[true, true, true, true, true, true, true, true, true, true, true, true, false, true, false]) rfl (fun _ hA => hA.keep (m := [nn, nn, nn, nn, nn, yy, yy]) (Y := [_, _]) rfl) ?_
    generalize hr_r3 : Cod.rd 0 (Cod.dec r2.2.1) r2.2.1 r2.2.2 = r3
    have hl_r3 : r3.2.1.length ≤ r2.2.1.length := hr_r3 ▸ Cod.rd_len _ _ _ _
    refine HA_take (i := 12) (listed' := #[true, true, true, true, true, true, true, true, true, true, true, true, true, true, false]) (bodyPost_pan _ _ _) rfl rfl rfl rfl (by kernel_rfl) rfl (V_build (xo := [(0, _), (1, _), (2, _)]) (vs := [_, _, _]) rfl rfl (bd45_0_1_2_iii)) (fun _ hA => hA.keep (m := [nn, nn, nn, nn, nn, yy, yy]) (Y := [_, _]) rfl) ?_
    refine HA_loud1 (i := 14) (by kernel_rfl) rfl ?_
    refine HO_store (i := 3) (j := 0) (us := []) (old := [_, _, _, _, _, _, _, _, _, _, _, _, _]) (ts := []) (cs := [_, _, _, _, _, _, _, _, _, _, _, _, _]) (R := [_, _, _, _, _, _]) (new := [_, _, _, _, _, _, _, _, _, _, _, _, _]) rfl rfl rfl Tryz.sizeOf45 rfl (by simp [Value.oneCell']) rfl rfl rfl rfl rfl rfl ?_
    refine HA_back (listed' := #[true, true, true, true, true, true, true, true, true, true, true, true, true, true, true]) rfl (fun _ hA => hA.keep (m := [nn, nn, nn, nn, nn, yy, yy]) (Y := [_, _]) rfl) ?_
    refine HA_done (by kernel_rfl) ?_
    refine H_env (ρ' := [(3, _), (2, _), (0, _)]) ⟨rfl, rfl, rfl, trivial⟩ ?_
    refine H_world (fun _ hA => hA.keep (m := [yy, yy, yy, nn, nn, yy, nn]) (Y := [_, _, _, _]) rfl) ?_
    refine H_inv (fun a w hf hA => ⟨⟨r1, r2, r3, y17.1, y17.2, g3⟩, ?_, hf.sub ?_, ?_⟩)
    ·exact ⟨rfl, hr_r2, hr_r3⟩
    ·exact ⟨rfl, rfl, rfl, trivial⟩
    ·exact hA.only (is := [0, 1, 2, 0]) (Z := []) rfl
  ·refine HO_alloc (cs := [_, _, _, _, _, _, _, _, _, _, _, _, _]) rfl rfl Tryz.zeroValue45 rfl ?_
   intro g3
   refine HA_back (listed' := #[true, true, true, false, true, true, true, false, true, true, true, false, false, true, false]) rfl (fun _ hA => hA.keep (m := [nn, yy, nn, yy]) (Y := [_, _]) rfl) ?_
   refine HA_loud1 (i := 3) (by kernel_rfl) rfl ?_
   refine HO_dup (i := 3) rfl rfl ?_
   refine HO_call (first := []) (capt := []) (is := [2, 0]) (R := [_, _, _]) rfl rfl rfl rfl rfl Tryz.call19 rfl (cInt_spec _ _ _ _ _ _) ?_
   intro y9 hy9
   refine HA_back (listed' := #[true, true, true, true, true, true, true, false, true, true, true, false, false, true, false]) rfl (fun _ hA => hA.keep (m := [nn, nn, nn, yy, yy]) (Y := [_, _]) rfl) ?_
   refine HA_loud1 (i := 7) (by kernel_rfl) rfl ?_
   generalize hr_r1 : Cod.rd 0 (Cod.dec b) b w = r1
   have hl_r1 : r1.2.1.length ≤ b.length := hr_r1 ▸ Cod.rd_len _ _ _ _
   refine HO_dup (i := 1) rfl rfl ?_
   refine HO_call (first := []) (capt := []) (is := [0, 0]) (R := [_, _, _, _]) rfl rfl rfl rfl rfl Tryz.call19 rfl (cInt_spec _ _ _ _ _ _) ?_
   intro y13 hy13
   refine HA_back (listed' := #[true, true, true, true, true, true, true, true, true, true, true, false, false, true, false]) rfl (fun _ hA => hA.keep (m := [nn, nn, nn, nn, yy, yy]) (Y := [_, _]) rfl) ?_
   refine HA_loud1 (i := 11) (by kernel_rfl) rfl ?_
   generalize hr_r2 : Cod.rd 0 (Cod.dec r1.2.1) r1.2.1 r1.2.2 = r2
   have hl_r2 : r2.2.1.length ≤ r1.2.1.length := hr_r2 ▸ Cod.rd_len _ _ _ _
   refine HO_dup (i := 1) rfl rfl ?_
   refine HO_call (first := []) (capt := []) (is := [0, 0]) (R := [_, _, _, _, _]) rfl rfl rfl rfl rfl Tryz.call19 rfl (cInt_spec _ _ _ _ _ _) ?_
   intro y17 hy17
   refine HA_back (listed' := #[true, true, true, true, true, true, true, true, true, true, true, true, false, true, false]) rfl (fun _ hA => hA.keep (m := [nn, nn, nn, nn, nn, yy, yy]) (Y := [_, _]) rfl) ?_
   generalize hr_r3 : Cod.rd 0 (Cod.dec r2.2.1) r2.2.1 r2.2.2 = r3
   have hl_r3 : r3.2.1.length ≤ r2.2.1.length := hr_r3 ▸ Cod.rd_len _ _ _ _
   refine HA_take (i := 12) (listed' := #[true, true, true, true, true, true, true, true, true, true, true, true, true, true, false]) (bodyPost_pan _ _ _) rfl rfl rfl rfl (by kernel_rfl) rfl (V_build (xo := [(0, _), (1, _), (2, _)]) (vs := [_, _, _]) rfl rfl (bd45_0_1_2_iii)) (fun _ hA => hA.keep (m := [nn, nn, nn, nn, nn, yy, yy]) (Y := [_, _]) rfl) ?_
   refine HA_loud1 (i := 14) (by kernel_rfl) rfl ?_
   refine HO_store (i := 4) (j := 0) (us := []) (old := [_, _, _, _, _, _, _, _, _, _, _, _, _]) (ts := []) (cs := [_, _, _, _, _, _, _, _, _, _, _, _, _]) (R := [_, _, _, _, _, _]) (new := [_, _, _, _, _, _, _, _, _, _, _, _, _]) rfl rfl rfl Tryz.sizeOf45 rfl (by simp [Value.oneCell']) rfl rfl rfl rfl rfl rfl ?_
   refine HA_back (listed' := #[true, true, true, true, true, true, true, true, true, true, true, true, true, true, true]) rfl (fun _ hA => hA.keep (m := [nn, nn, nn, nn, nn, yy, yy]) (Y := [_, _]) rfl) ?_
   refine HA_done (by kernel_rfl) ?_
   refine H_env (ρ' := [(3, _), (2, _), (0, _)]) ⟨rfl, rfl, rfl, trivial⟩ ?_
   refine H_world (fun _ hA => hA.keep (m := [yy, yy, yy, nn, nn, yy, nn]) (Y := [_, _, _, _]) rfl) ?_
   refine H_inv (fun a w hf hA => ⟨⟨r1, r2, r3, y17.1, y17.2, g3⟩, ?_, hf.sub ?_, ?_⟩)
   ·exact ⟨rfl, hr_r2, hr_r3⟩
   ·exact ⟨rfl, rfl, rfl, trivial⟩
   ·exact hA.only (is := [0, 1, 2, 0]) (Z := []) rfl
 rintro ⟨r1, r2, r3, p, q, g3⟩ hJ
 (try dsimp only at hJ ⊢)
 obtain ⟨hr_r1, hr_r2, hr_r3⟩ := hJ
 have hl_r1 : r1.2.1.length ≤ b.length := hr_r1 ▸ Cod.rd_len _ _ _ _
 have hl_r2 : r2.2.1.length ≤ r1.2.1.length := hr_r2 ▸ Cod.rd_len _ _ _ _
 have hl_r3 : r3.2.1.length ≤ r2.2.1.length := hr_r3 ▸ Cod.rd_len _ _ _ _
 refine H_seq ?_
 refine H_seq ?_
 refine H_region (l := [_, _]) rfl ?_
 refine HO_fieldAddr (r := 2) rfl rfl rfl Tryz.underlying45 rfl Tryz.sizeOf3 rfl ?_
 refine HO_load1 (i := 3) (j := 2) rfl rfl rfl Tryz.isAgg3 rfl (.loc _ _ _) rfl rfl ?_
 refine HO_nil ?_
 refine H_env (ρ' := [(20, _), (0, _), (2, _), (3, _)]) ⟨rfl, rfl, rfl, rfl, trivial⟩ ?_
 refine H_block ?_
 refine H_seq ?_
 refine H_region (l := [_, _]) rfl ?_
 refine HO_bin rfl rfl rfl rfl bin_eql ?_
 refine HO_assign rfl rfl rfl ?_
 refine HO_nil ?_
 refine H_env (ρ' := [(21, _), (20, _), (0, _), (2, _), (3, _)]) ⟨rfl, rfl, rfl, rfl, rfl, trivial⟩ ?_
 refine H_cond rfl ?_ ?_
 ·intro h21
  replace h21 := dT h21
  refine H_seq ?_
  refine H_region (l := [_, _, _, _, _, _, _, _, _, _, _, _]) rfl ?_
  refine HO_move rfl rfl rfl ?_
  refine HO_nilCheck rfl rfl rfl ?_
  refine HO_fieldAddr (r := 0) rfl rfl rfl Tryz.underlying58 rfl Tryz.sizeOf56 rfl ?_
  refine HO_dup (i := 1) rfl rfl ?_
  refine HO_call (first := []) (capt := []) (is := [0, 0]) (R := [_, _, _]) rfl rfl rfl rfl rfl Tryz.call59 rfl (cText_spec _ _ _ _ _ _ ?_) ?_
  ·(first | omega | assumption | decide)
  intro y27 hy27
  generalize hr_r4 : Cod.rd [] (Cod.decT r3.2.1) r3.2.1 r3.2.2 = r4
  have hl_r4 : r4.2.1.length ≤ r3.2.1.length := hr_r4 ▸ Cod.rd_len _ _ _ _
  have hs_r4 := Cod.rdT_size hr_r4
  refine HO_strBytes rfl rfl rfl Tryz.underlying9 Tryz.underlying26 Tryz.underlying5 ?_ ?_
  ·(simp only [maxLen]; omega)
  intro a28 c28
  refine HO_dup (i := 0) rfl rfl ?_
  refine HO_call (first := []) (capt := []) (is := [0]) (R := [_, _, _, _, _, _]) rfl rfl rfl rfl rfl Tryz.call58 rfl (cread_spec _ _ _ ?_) ?_
  ·(have h := hs_r4; rw [Cod.size_mk] at h; show List.length r4.1 ≤ _; omega)
  intro y29 hy29
  clear y29 hy29
  generalize hc4 : Cmd.read ({ data := r4.1.toArray } : ByteArray).data.toList = c4
  replace hc4 : Cmd.read r4.1 = c4 := hc4
  refine HO_move rfl rfl rfl ?_
  refine HO_extract (vs := [_, _]) rfl rfl rfl rfl ?_
  refine HO_extract (vs := [_, _]) rfl rfl rfl rfl ?_
  refine HO_alloc (cs := [_, _, _, _, _, _, _, _]) rfl rfl Tryz.zeroValue43 rfl ?_
  intro g4
  refine HO_store (i := 0) (j := 0) (us := []) (old := [_, _, _, _, _, _, _, _]) (ts := []) (cs := [_, _, _, _, _, _, _, _]) (R := [_, _, _, _, _, _]) (new := [_, _, _, _, _, _, _, _]) rfl rfl rfl Tryz.sizeOf43 rfl (by simp [Value.oneCell']) rfl rfl rfl rfl rfl rfl ?_
  refine HO_assign rfl rfl rfl ?_
  refine HO_nil ?_
  refine H_env (ρ' := [(5, _), (4, _), (0, _), (2, _), (3, _)]) ⟨rfl, rfl, rfl, rfl, rfl, trivial⟩ ?_
  refine H_world (fun _ hA => hA.keep (m := [yy, nn, yy, yy, nn, yy, yy]) (Y := [_, _, _, _, _]) rfl) ?_
  refine H_seq ?_
  refine H_seq ?_
  refine H_region (l := [_, _]) rfl ?_
  refine HO_move rfl rfl rfl ?_
  refine HO_bin rfl rfl rfl rfl bin_neq ?_
  refine HO_nil ?_
  refine H_env (ρ' := [(33, _), (4, _), (0, _), (2, _), (3, _)]) ⟨rfl, rfl, rfl, rfl, rfl, trivial⟩ ?_
  refine H_cond rfl ?_ ?_
  ·intro h33
   replace h33 := dT h33
   refine H_region (l := [_, _]) rfl ?_
   refine HO_move rfl rfl rfl ?_
   refine HO_dup (i := 2) rfl rfl ?_
   refine HO_call (first := []) (capt := []) (is := [1, 0]) (R := [_, _, _, _]) rfl rfl rfl rfl rfl Tryz.call60 rfl (rwrong_spec _ _ _ _ _ _) ?_
   intro y35 hy35
   clear y35 hy35
   refine HO_nil ?_
   refine H_env (ρ' := [(4, _), (2, _), (3, _)]) ⟨rfl, rfl, rfl, trivial⟩ ?_
   refine H_world (fun _ hA => hA.keep (m := [yy, yy, yy, nn, yy, yy]) (Y := [_, _, _, _, _]) rfl) ?_
   refine H_region (l := [_, _, _]) rfl ?_
   refine HO_loadA (i := 2) (us := []) (cs := [_, _, _, _, _, _, _, _]) (ts := []) rfl rfl rfl Tryz.isAgg43 Tryz.sizeOf43 rfl (.loc _ _ _) rfl rfl rfl rfl ?_
   refine HO_fieldAddr (r := 3) rfl rfl rfl Tryz.underlying45 rfl Tryz.sizeOf43 rfl ?_
   refine HO_store (i := 4) (j := 0) (us := [_, _, _]) (old := [_, _, _, _, _, _, _, _]) (ts := [_, _]) (cs := [_, _, _, _, _, _, _, _]) (R := [_, _, _, _]) (new := [_, _, _, _, _, _, _, _, _, _, _, _, _]) rfl rfl rfl Tryz.sizeOf43 rfl (by simp [Value.oneCell']) rfl rfl rfl rfl rfl rfl ?_
   refine HO_nil ?_
   refine H_env (ρ' := [(2, _), (3, _)]) ⟨rfl, rfl, trivial⟩ ?_
   refine H_world (fun _ hA => hA.keep (m := [yy, yy, yy, nn, yy]) (Y := [_, _, _, _]) rfl) ?_
   refine H_blk ?_
   refine H_seq ?_
   refine H_region (l := [_, _]) rfl ?_
   refine HO_loadA (i := 0) (us := []) (cs := [_, _, _, _, _, _, _, _, _, _, _, _, _]) (ts := []) rfl rfl rfl Tryz.isAgg45 Tryz.sizeOf45 rfl (.loc _ _ _) rfl rfl rfl rfl ?_
   refine HO_store (i := 3) (j := 0) (us := []) (old := [_, _, _, _, _, _, _, _, _, _, _, _, _]) (ts := []) (cs := [_, _, _, _, _, _, _, _, _, _, _, _, _]) (R := [_, _, _]) (new := [_, _, _, _, _, _, _, _, _, _, _, _, _]) rfl rfl rfl Tryz.sizeOf45 rfl (by simp [Value.oneCell']) rfl rfl rfl rfl rfl rfl ?_
   refine HO_nil ?_
   refine H_env (ρ' := [(2, _)]) ⟨rfl, trivial⟩ ?_
   refine H_world (fun _ hA => hA.keep (m := [yy, nn, yy, yy]) (Y := [_, _, _]) rfl) ?_
   refine H_nilDat kInt ?_
   refine H_nilDat kInt ?_
   have hent := (Ent.entP_2 hr_r1 hr_r2 hr_r3 hr_r4 h21).trans (by rw [hc4, if_neg h33])
   refine H_ret1 Tryz.results22 (.cell rfl (fun w hA => run_loadVarA (cs := [_, _, _, _, _, _, _, _, _, _, _, _, _]) (Tryz.isAgg45 w) (Tryz.sizeOf45 w) (Tells.cells (.loc _ _ _) (hA.get (i := 2) rfl)))) (fun w hA => ⟨((none, 0), (none, 0), (none, 0)), congrArg Ending.returned ?_, ?_, ?_⟩)
   ·(rw [hent] <;> rfl)
   ·trivial
   ·(rw [hent]; exact hA.only (is := [1, 2, 0, 0]) (Z := [_]) rfl)
  intro h33
  replace h33 := dF h33
  refine H_skip ?_
  refine H_region (l := [_, _, _]) rfl ?_
  refine HO_loadA (i := 0) (us := []) (cs := [_, _, _, _, _, _, _, _]) (ts := []) rfl rfl rfl Tryz.isAgg43 Tryz.sizeOf43 rfl (.loc _ _ _) rfl rfl rfl rfl ?_
  refine HO_fieldAddr (r := 3) rfl rfl rfl Tryz.underlying45 rfl Tryz.sizeOf43 rfl ?_
  refine HO_store (i := 4) (j := 0) (us := [_, _, _]) (old := [_, _, _, _, _, _, _, _]) (ts := [_, _]) (cs := [_, _, _, _, _, _, _, _]) (R := [_, _, _, _]) (new := [_, _, _, _, _, _, _, _, _, _, _, _, _]) rfl rfl rfl Tryz.sizeOf43 rfl (by simp [Value.oneCell']) rfl rfl rfl rfl rfl rfl ?_
  refine HO_nil ?_
  refine H_env (ρ' := [(2, _), (3, _)]) ⟨rfl, rfl, trivial⟩ ?_
  refine H_world (fun _ hA => hA.keep (m := [yy, nn, yy, yy, yy]) (Y := [_, _, _, _]) rfl) ?_
  refine H_blk ?_
  refine H_seq ?_
  refine H_region (l := [_, _]) rfl ?_
  refine HO_loadA (i := 0) (us := []) (cs := [_, _, _, _, _, _, _, _, _, _, _, _, _]) (ts := []) rfl rfl rfl Tryz.isAgg45 Tryz.sizeOf45 rfl (.loc _ _ _) rfl rfl rfl rfl ?_
  refine HO_store (i := 3) (j := 0) (us := []) (old := [_, _, _, _, _, _, _, _, _, _, _, _, _]) (ts := []) (cs := [_, _, _, _, _, _, _, _, _, _, _, _, _]) (R := [_, _, _]) (new := [_, _, _, _, _, _, _, _, _, _, _, _, _]) rfl rfl rfl Tryz.sizeOf45 rfl (by simp [Value.oneCell']) rfl rfl rfl rfl rfl rfl ?_
  refine HO_nil ?_
  refine H_env (ρ' := [(2, _)]) ⟨rfl, trivial⟩ ?_
  refine H_world (fun _ hA => hA.keep (m := [yy, nn, yy, yy]) (Y := [_, _, _]) rfl) ?_
  refine H_nilDat kInt ?_
  refine H_nilDat kInt ?_
  have hent := (Ent.entP_2 hr_r1 hr_r2 hr_r3 hr_r4 h21).trans (by rw [hc4, if_pos (Decidable.not_not.1 h33)])
  refine H_ret1 Tryz.results22 (.cell rfl (fun w hA => run_loadVarA (cs := [_, _, _, _, _, _, _, _, _, _, _, _, _]) (Tryz.isAgg45 w) (Tryz.sizeOf45 w) (Tells.cells (.loc _ _ _) (hA.get (i := 2) rfl)))) (fun w hA => ⟨(y27, (none, 0), (none, 0)), congrArg Ending.returned ?_, ?_, ?_⟩)
  ·(rw [hent] <;> rfl)
  ·trivial
  ·(rw [hent]; exact hA.only (is := [1, 2, 0, 0]) (Z := [_]) rfl)
 intro h21
 replace h21 := dF h21
 refine H_seq ?_
 refine H_region (l := [_, _]) rfl ?_
 refine HO_bin rfl rfl rfl rfl bin_eql ?_
 refine HO_assign rfl rfl rfl ?_
 refine HO_nil ?_
 refine H_env (ρ' := [(38, _), (0, _), (2, _), (3, _)]) ⟨rfl, rfl, rfl, rfl, trivial⟩ ?_
 refine H_cond rfl ?_ ?_
 ·intro h38
  replace h38 := dT h38
  refine H_region (l := [_, _, _, _]) rfl ?_
  refine HO_move rfl rfl rfl ?_
  refine HO_dup (i := 1) rfl rfl ?_
  refine HO_call (first := []) (capt := []) (is := [0, 0]) (R := [_, _, _]) rfl rfl rfl rfl rfl Tryz.call61 rfl (cconf_spec _ _ _ _ _ _ ?_) ?_
  ·(first | omega | assumption | decide)
  intro y41 hy41
  generalize hc3 : Ent.confP (r3.2.1, r3.2.2) = c3
  refine HO_fieldAddr (r := 11) rfl rfl rfl Tryz.underlying45 rfl Tryz.sizeOf25 rfl ?_
  refine HO_store (i := 6) (j := 0) (us := [_, _, _, _, _, _, _, _, _, _, _]) (old := [_, _]) (ts := []) (cs := [_, _]) (R := [_, _, _, _, _, _]) (new := [_, _, _, _, _, _, _, _, _, _, _, _, _]) rfl rfl rfl Tryz.sizeOf25 rfl (by simp [Value.oneCell']) rfl rfl rfl rfl rfl rfl ?_
  refine HO_nil ?_
  refine H_env (ρ' := [(2, _), (3, _)]) ⟨rfl, rfl, trivial⟩ ?_
  refine H_world (fun _ hA => hA.keep (m := [yy, yy, yy, yy, yy, nn, yy]) (Y := [_, _, _, _, _, _]) rfl) ?_
  refine H_blk ?_
  refine H_seq ?_
  refine H_region (l := [_, _]) rfl ?_
  refine HO_loadA (i := 0) (us := []) (cs := [_, _, _, _, _, _, _, _, _, _, _, _, _]) (ts := []) rfl rfl rfl Tryz.isAgg45 Tryz.sizeOf45 rfl (.loc _ _ _) rfl rfl rfl rfl ?_
  refine HO_store (i := 5) (j := 0) (us := []) (old := [_, _, _, _, _, _, _, _, _, _, _, _, _]) (ts := []) (cs := [_, _, _, _, _, _, _, _, _, _, _, _, _]) (R := [_, _, _, _, _]) (new := [_, _, _, _, _, _, _, _, _, _, _, _, _]) rfl rfl rfl Tryz.sizeOf45 rfl (by simp [Value.oneCell']) rfl rfl rfl rfl rfl rfl ?_
  refine HO_nil ?_
  refine H_env (ρ' := [(2, _)]) ⟨rfl, trivial⟩ ?_
  refine H_world (fun _ hA => hA.keep (m := [yy, nn, yy, yy, yy, yy]) (Y := [_, _, _, _, _]) rfl) ?_
  have hent := (Ent.entP_3 hr_r1 hr_r2 hr_r3 h38).trans (by rw [hc3])
  refine H_ret1 Tryz.results22 (.cell rfl (fun w hA => run_loadVarA (cs := [_, _, _, _, _, _, _, _, _, _, _, _, _]) (Tryz.isAgg45 w) (Tryz.sizeOf45 w) (Tells.cells (.loc _ _ _) (hA.get (i := 0) rfl)))) (fun w hA => ⟨y41, congrArg Ending.returned ?_, ?_, ?_⟩)
  ·(rw [hent] <;> rfl)
  ·trivial
  ·(rw [hent]; exact hA.keep (m := [nn, yy, yy, yy, yy]) (Y := [_, _, _, _]) rfl)
 intro h38
 replace h38 := dF h38
 refine H_skip ?_
 refine H_blk ?_
 refine H_seq ?_
 refine H_region (l := [_, _]) rfl ?_
 refine HO_loadA (i := 3) (us := []) (cs := [_, _, _, _, _, _, _, _, _, _, _, _, _]) (ts := []) rfl rfl rfl Tryz.isAgg45 Tryz.sizeOf45 rfl (.loc _ _ _) rfl rfl rfl rfl ?_
 refine HO_store (i := 2) (j := 0) (us := []) (old := [_, _, _, _, _, _, _, _, _, _, _, _, _]) (ts := []) (cs := [_, _, _, _, _, _, _, _, _, _, _, _, _]) (R := [_, _, _]) (new := [_, _, _, _, _, _, _, _, _, _, _, _, _]) rfl rfl rfl Tryz.sizeOf45 rfl (by simp [Value.oneCell']) rfl rfl rfl rfl rfl rfl ?_
 refine HO_nil ?_
 refine H_env (ρ' := [(2, _)]) ⟨rfl, trivial⟩ ?_
 refine H_world (fun _ hA => hA.keep (m := [yy, yy, yy, nn]) (Y := [_, _, _]) rfl) ?_
 refine H_nilDat kInt ?_
 refine H_nilDat kInt ?_
 have hent := Ent.entP_0 hr_r1 hr_r2 hr_r3 h21 h38
 refine H_ret1 Tryz.results22 (.cell rfl (fun w hA => run_loadVarA (cs := [_, _, _, _, _, _, _, _, _, _, _, _, _]) (Tryz.isAgg45 w) (Tryz.sizeOf45 w) (Tells.cells (.loc _ _ _) (hA.get (i := 2) rfl)))) (fun w hA => ⟨((p, q), (none, 0), (none, 0)), congrArg Ending.returned ?_, ?_, ?_⟩)
 ·(rw [hent] <;> rfl)
 ·trivial
 ·(rw [hent]; exact hA.only (is := [1, 2, 0, 0]) (Z := [_]) rfl)
theorem rreadent_spec (T : TypeId) (g : Nat) (b : List UInt8) (w : Bool) (a : Option Addr) (c : Nat) (hb : b.length ≤ 100000) : Spec Tryz.prog 28 #[.pointer (some ⟨g, 0, none⟩)] [.loc g [.slice a (b.length) c, .bool (w)] T, .dat kByte.sl (b) [.slice a (b.length) c]] (β := (Option Addr × Nat) × (Option Addr × Nat) × (Option Addr × Nat)) (fun y => .agg #[.int .i64 ((Ent.entP (b, w)).1.idx), .int .i64 ((Ent.entP (b, w)).1.term), .int .i64 ((Ent.entP (b, w)).1.kind), .int .i64 ((Ent.entP (b, w)).1.cmd.kind), .int .i64 ((Ent.entP (b, w)).1.cmd.sess), .int .i64 ((Ent.entP (b, w)).1.cmd.seq), .string ((Ent.entP (b, w)).1.cmd.key), .string ((Ent.entP (b, w)).1.cmd.old), .string ((Ent.entP (b, w)).1.cmd.val), .string ((Ent.entP (b, w)).1.cmd.til), .int .i64 ((Ent.entP (b, w)).1.cmd.lim), .slice y.2.1.1 (((Ent.entP (b, w)).1.conf.vot).length) y.2.1.2, .slice y.2.2.1 (((Ent.entP (b, w)).1.conf.lea).length) y.2.2.2]) (fun y => True) (fun y => [.loc g [.slice y.1.1 (((Ent.entP (b, w)).2.1).length) y.1.2, .bool ((Ent.entP (b, w)).2.2)] T, .dat kByte.sl ((Ent.entP (b, w)).2.1) [.slice y.1.1 (((Ent.entP (b, w)).2.1).length) y.1.2], .dat kInt.sl ((Ent.entP (b, w)).1.conf.vot) [.slice y.2.1.1 (((Ent.entP (b, w)).1.conf.vot).length) y.2.1.2], .dat kInt.sl ((Ent.entP (b, w)).1.conf.lea) [.slice y.2.2.1 (((Ent.entP (b, w)).1.conf.lea).length) y.2.2.2]]) := by
 refine Spec.enter (vs := [_]) Tryz.func28 rfl Tryz.ntmps28 rfl (Nat.le_of_ble_eq_true rfl) (fun w0 ok0 => ?_)
 generalize hM0 : blks _ = M0
 refine H_seq ?_
 refine H_region (l := [_]) rfl ?_
 refine HO_alloc (cs := [_, _, _, _, _, _, _, _, _, _, _, _, _]) rfl rfl Tryz.zeroValue45 rfl ?_
 intro g2
 refine HO_nil ?_
 refine H_seq ?_
 refine H_region (l := [_]) rfl ?_
 refine HO_alloc (cs := [_, _, _, _, _, _, _, _, _, _, _, _, _]) rfl rfl Tryz.zeroValue45 rfl ?_
 intro g3
 refine HO_nil ?_
 refine H_seq ?_
 refine H_region (l := [_, _, _, _]) rfl ?_
 refine HO_move rfl rfl rfl ?_
 refine HO_dup (i := 3) rfl rfl ?_
 refine HO_call (first := []) (capt := []) (is := [2, 0]) (R := [_, _, _]) rfl rfl rfl rfl rfl Tryz.call25 rfl (rInt_spec _ _ _ _ _ _) ?_
 intro y7 hy7
 generalize hr_r1 : Cod.rd 0 (Cod.dec b) b w = r1
 have hl_r1 : r1.2.1.length ≤ b.length := hr_r1 ▸ Cod.rd_len _ _ _ _
 refine HO_fieldAddr (r := 0) rfl rfl rfl Tryz.underlying45 rfl Tryz.sizeOf3 rfl ?_
 refine HO_store (i := 2) (j := 0) (us := []) (old := [_]) (ts := [_, _, _, _, _, _, _, _, _, _, _, _]) (cs := [_]) (R := [_, _, _, _]) (new := [_, _, _, _, _, _, _, _, _, _, _, _, _]) rfl rfl rfl Tryz.sizeOf3 rfl (by simp [Value.oneCell']) rfl rfl rfl rfl rfl rfl ?_
 refine HO_nil ?_
 refine H_env (ρ' := [(3, _), (2, _), (0, _)]) ⟨rfl, rfl, rfl, trivial⟩ ?_
 refine H_world (fun _ hA => hA.keep (m := [yy, yy, yy, yy, nn]) (Y := [_, _, _, _]) rfl) ?_
 refine H_seq ?_
 refine H_region (l := [_, _, _, _]) rfl ?_
 refine HO_move rfl rfl rfl ?_
 refine HO_dup (i := 2) rfl rfl ?_
 refine HO_call (first := []) (capt := []) (is := [1, 0]) (R := [_, _, _]) rfl rfl rfl rfl rfl Tryz.call25 rfl (rInt_spec _ _ _ _ _ _) ?_
 intro y10 hy10
 generalize hr_r2 : Cod.rd 0 (Cod.dec r1.2.1) r1.2.1 r1.2.2 = r2
 have hl_r2 : r2.2.1.length ≤ r1.2.1.length := hr_r2 ▸ Cod.rd_len _ _ _ _
 refine HO_fieldAddr (r := 1) rfl rfl rfl Tryz.underlying45 rfl Tryz.sizeOf3 rfl ?_
 refine HO_store (i := 2) (j := 0) (us := [_]) (old := [_]) (ts := [_, _, _, _, _, _, _, _, _, _, _]) (cs := [_]) (R := [_, _, _, _]) (new := [_, _, _, _, _, _, _, _, _, _, _, _, _]) rfl rfl rfl Tryz.sizeOf3 rfl (by simp [Value.oneCell']) rfl rfl rfl rfl rfl rfl ?_
 refine HO_nil ?_
 refine H_env (ρ' := [(3, _), (2, _), (0, _)]) ⟨rfl, rfl, rfl, trivial⟩ ?_
 refine H_world (fun _ hA => hA.keep (m := [yy, yy, yy, nn, yy]) (Y := [_, _, _, _]) rfl) ?_
 refine H_seq ?_
 refine H_region (l := [_, _, _, _]) rfl ?_
 refine HO_move rfl rfl rfl ?_
 refine HO_dup (i := 2) rfl rfl ?_
 refine HO_call (first := []) (capt := []) (is := [1, 0]) (R := [_, _, _]) rfl rfl rfl rfl rfl Tryz.call25 rfl (rInt_spec _ _ _ _ _ _) ?_
 intro y13 hy13
 generalize hr_r3 : Cod.rd 0 (Cod.dec r2.2.1) r2.2.1 r2.2.2 = r3
 have hl_r3 : r3.2.1.length ≤ r2.2.1.length := hr_r3 ▸ Cod.rd_len _ _ _ _
 refine HO_fieldAddr (r := 2) rfl rfl rfl Tryz.underlying45 rfl Tryz.sizeOf3 rfl ?_
 refine HO_store (i := 2) (j := 0) (us := [_, _]) (old := [_]) (ts := [_, _, _, _, _, _, _, _, _, _]) (cs := [_]) (R := [_, _, _, _]) (new := [_, _, _, _, _, _, _, _, _, _, _, _, _]) rfl rfl rfl Tryz.sizeOf3 rfl (by simp [Value.oneCell']) rfl rfl rfl rfl rfl rfl ?_
 refine HO_nil ?_
 refine H_env (ρ' := [(3, _), (2, _), (0, _)]) ⟨rfl, rfl, rfl, trivial⟩ ?_
 refine H_world (fun _ hA => hA.keep (m := [yy, yy, yy, nn, yy]) (Y := [_, _, _, _]) rfl) ?_
 refine H_seq ?_
 refine H_seq ?_
 refine H_region (l := [_, _, _]) rfl ?_
 refine HO_fieldAddr (r := 2) rfl rfl rfl Tryz.underlying45 rfl Tryz.sizeOf3 rfl ?_
 refine HO_load1 (i := 0) (j := 2) rfl rfl rfl Tryz.isAgg3 rfl (.loc _ _ _) rfl rfl ?_
 refine HO_bin rfl rfl rfl rfl bin_eql ?_
 refine HO_nil ?_
 refine H_env (ρ' := [(17, _), (3, _), (2, _), (0, _)]) ⟨rfl, rfl, rfl, rfl, trivial⟩ ?_
 refine H_cond rfl ?_ ?_
 ·intro h17
  replace h17 := dT h17
  refine H_seq ?_
  refine H_region (l := [_, _, _, _, _, _, _, _, _, _]) rfl ?_
  refine HO_move rfl rfl rfl ?_
  refine HO_dup (i := 2) rfl rfl ?_
  refine HO_call (first := []) (capt := []) (is := [1, 0]) (R := [_, _, _]) rfl rfl rfl rfl rfl Tryz.call68 rfl (rText_spec _ _ _ _ _ _ ?_) ?_
  ·(first | omega | assumption | decide)
  intro y20 hy20
  generalize hr_r4 : Cod.rd [] (Cod.decT r3.2.1) r3.2.1 r3.2.2 = r4
  have hl_r4 : r4.2.1.length ≤ r3.2.1.length := hr_r4 ▸ Cod.rd_len _ _ _ _
  have hs_r4 := Cod.rdT_size hr_r4
  refine HO_strBytes rfl rfl rfl Tryz.underlying9 Tryz.underlying26 Tryz.underlying5 ?_ ?_
  ·(simp only [maxLen]; omega)
  intro a21 c21
  refine HO_dup (i := 0) rfl rfl ?_
  refine HO_call (first := []) (capt := []) (is := [0]) (R := [_, _, _, _, _, _]) rfl rfl rfl rfl rfl Tryz.call67 rfl (rcread_spec _ _ _ ?_) ?_
  ·(have h := hs_r4; rw [Cod.size_mk] at h; show List.length r4.1 ≤ _; omega)
  intro y22 hy22
  clear y22 hy22
  generalize hc4 : Cmd.read ({ data := r4.1.toArray } : ByteArray).data.toList = c4
  replace hc4 : Cmd.read r4.1 = c4 := hc4
  refine HO_move rfl rfl rfl ?_
  refine HO_extract (vs := [_, _]) rfl rfl rfl rfl ?_
  refine HO_extract (vs := [_, _]) rfl rfl rfl rfl ?_
  refine HO_alloc (cs := [_, _, _, _, _, _, _, _]) rfl rfl Tryz.zeroValue43 rfl ?_
  intro g4
  refine HO_store (i := 0) (j := 0) (us := []) (old := [_, _, _, _, _, _, _, _]) (ts := []) (cs := [_, _, _, _, _, _, _, _]) (R := [_, _, _, _, _, _]) (new := [_, _, _, _, _, _, _, _]) rfl rfl rfl Tryz.sizeOf43 rfl (by simp [Value.oneCell']) rfl rfl rfl rfl rfl rfl ?_
  refine HO_assign rfl rfl rfl ?_
  refine HO_nil ?_
  refine H_env (ρ' := [(5, _), (4, _), (3, _), (2, _), (0, _)]) ⟨rfl, rfl, rfl, rfl, rfl, trivial⟩ ?_
  refine H_world (fun _ hA => hA.keep (m := [yy, nn, yy, yy, yy, nn, yy]) (Y := [_, _, _, _, _]) rfl) ?_
  refine H_seq ?_
  refine H_seq ?_
  refine H_region (l := [_, _]) rfl ?_
  refine HO_move rfl rfl rfl ?_
  refine HO_bin rfl rfl rfl rfl bin_neq ?_
  refine HO_nil ?_
  refine H_env (ρ' := [(26, _), (4, _), (3, _), (2, _), (0, _)]) ⟨rfl, rfl, rfl, rfl, rfl, trivial⟩ ?_
  refine H_cond rfl ?_ ?_
  ·intro h26
   replace h26 := dT h26
   refine H_seq ?_
   refine H_region (l := [_, _, _, _]) rfl ?_
   refine HO_move rfl rfl rfl ?_
   refine HO_nilCheck rfl rfl rfl ?_
   refine HO_fieldAddr (r := 1) rfl rfl rfl Tryz.underlying64 rfl Tryz.sizeOf4 rfl ?_
   refine HO_store (i := 1) (j := 0) (us := [_]) (old := [_]) (ts := []) (cs := [_]) (R := [_, _, _, _]) (new := [_, _]) rfl rfl rfl Tryz.sizeOf4 rfl (by simp [Value.oneCell']) rfl rfl rfl rfl rfl rfl ?_
   refine HO_nil ?_
   refine H_env (ρ' := [(4, _), (3, _), (2, _), (0, _)]) ⟨rfl, rfl, rfl, rfl, trivial⟩ ?_
   refine H_region (l := [_, _, _, _]) rfl ?_
   refine HO_move rfl rfl rfl ?_
   refine HO_nilCheck rfl rfl rfl ?_
   refine HO_fieldAddr (r := 0) rfl rfl rfl Tryz.underlying64 rfl Tryz.sizeOf26 rfl ?_
   refine HO_store (i := 0) (j := 0) (us := []) (old := [_]) (ts := [_]) (cs := [_]) (R := [_, _, _, _]) (new := [_, _]) rfl rfl rfl Tryz.sizeOf26 rfl (by simp [Value.oneCell']) rfl rfl rfl rfl rfl rfl ?_
   refine HO_nil ?_
   refine H_env (ρ' := [(4, _), (3, _), (2, _), (0, _)]) ⟨rfl, rfl, rfl, rfl, trivial⟩ ?_
   refine H_world (fun _ hA => hA.keep (m := [yy, yy, nn, yy, yy]) (Y := [_, _, _, _]) rfl) ?_
   refine H_region (l := [_, _, _]) rfl ?_
   refine HO_loadA (i := 1) (us := []) (cs := [_, _, _, _, _, _, _, _]) (ts := []) rfl rfl rfl Tryz.isAgg43 Tryz.sizeOf43 rfl (.loc _ _ _) rfl rfl rfl rfl ?_
   refine HO_fieldAddr (r := 3) rfl rfl rfl Tryz.underlying45 rfl Tryz.sizeOf43 rfl ?_
   refine HO_store (i := 2) (j := 0) (us := [_, _, _]) (old := [_, _, _, _, _, _, _, _]) (ts := [_, _]) (cs := [_, _, _, _, _, _, _, _]) (R := [_, _, _]) (new := [_, _, _, _, _, _, _, _, _, _, _, _, _]) rfl rfl rfl Tryz.sizeOf43 rfl (by simp [Value.oneCell']) rfl rfl rfl rfl rfl rfl ?_
   refine HO_nil ?_
   refine H_env (ρ' := [(3, _), (2, _), (0, _)]) ⟨rfl, rfl, rfl, trivial⟩ ?_
   refine H_world (fun _ hA => hA.keep (m := [yy, yy, nn, yy]) (Y := [_, _, _]) rfl) ?_
   refine H_seq ?_
   refine H_seq ?_
   refine H_region (l := [_, _, _]) rfl ?_
   refine HO_fieldAddr (r := 2) rfl rfl rfl Tryz.underlying45 rfl Tryz.sizeOf3 rfl ?_
   refine HO_load1 (i := 0) (j := 2) rfl rfl rfl Tryz.isAgg3 rfl (.loc _ _ _) rfl rfl ?_
   refine HO_bin rfl rfl rfl rfl bin_eql ?_
   refine HO_nil ?_
   refine H_env (ρ' := [(37, _), (3, _), (2, _), (0, _)]) ⟨rfl, rfl, rfl, rfl, trivial⟩ ?_
   refine H_cond rfl ?_ ?_
   ·intro h37
    replace h37 := dT h37
    (exfalso; omega)
   intro h37
   replace h37 := dF h37
   refine H_skip ?_
   refine H_seq ?_
   refine H_region (l := [_, _]) rfl ?_
   refine HO_loadA (i := 0) (us := []) (cs := [_, _, _, _, _, _, _, _, _, _, _, _, _]) (ts := []) rfl rfl rfl Tryz.isAgg45 Tryz.sizeOf45 rfl (.loc _ _ _) rfl rfl rfl rfl ?_
   refine HO_store (i := 2) (j := 0) (us := []) (old := [_, _, _, _, _, _, _, _, _, _, _, _, _]) (ts := []) (cs := [_, _, _, _, _, _, _, _, _, _, _, _, _]) (R := [_, _]) (new := [_, _, _, _, _, _, _, _, _, _, _, _, _]) rfl rfl rfl Tryz.sizeOf45 rfl (by simp [Value.oneCell']) rfl rfl rfl rfl rfl rfl ?_
   refine HO_nil ?_
   refine H_env (ρ' := [(2, _)]) ⟨rfl, trivial⟩ ?_
   refine H_world (fun _ hA => hA.keep (m := [yy, nn, yy]) (Y := [_, _]) rfl) ?_
   refine H_nilDat kByte ?_
   refine H_nilDat kInt ?_
   refine H_nilDat kInt ?_
   have hent := (Ent.entP_2 hr_r1 hr_r2 hr_r3 hr_r4 h17).trans (by rw [hc4, if_neg h26])
   refine H_ret1 Tryz.results28 (.cell rfl (fun w hA => run_loadVarA (cs := [_, _, _, _, _, _, _, _, _, _, _, _, _]) (Tryz.isAgg45 w) (Tryz.sizeOf45 w) (Tells.cells (.loc _ _ _) (hA.get (i := 3) rfl)))) (fun w hA => ⟨((none, 0), (none, 0), (none, 0)), congrArg Ending.returned ?_, ?_, ?_⟩)
   ·(rw [hent] <;> rfl)
   ·trivial
   ·(rw [hent]; exact hA.only (is := [1, 0, 0, 0]) (Z := [_]) rfl)
  intro h26
  replace h26 := dF h26
  refine H_skip ?_
  refine H_region (l := [_, _, _]) rfl ?_
  refine HO_loadA (i := 0) (us := []) (cs := [_, _, _, _, _, _, _, _]) (ts := []) rfl rfl rfl Tryz.isAgg43 Tryz.sizeOf43 rfl (.loc _ _ _) rfl rfl rfl rfl ?_
  refine HO_fieldAddr (r := 3) rfl rfl rfl Tryz.underlying45 rfl Tryz.sizeOf43 rfl ?_
  refine HO_store (i := 3) (j := 0) (us := [_, _, _]) (old := [_, _, _, _, _, _, _, _]) (ts := [_, _]) (cs := [_, _, _, _, _, _, _, _]) (R := [_, _, _, _]) (new := [_, _, _, _, _, _, _, _, _, _, _, _, _]) rfl rfl rfl Tryz.sizeOf43 rfl (by simp [Value.oneCell']) rfl rfl rfl rfl rfl rfl ?_
  refine HO_nil ?_
  refine H_env (ρ' := [(3, _), (2, _), (0, _)]) ⟨rfl, rfl, rfl, trivial⟩ ?_
  refine H_world (fun _ hA => hA.keep (m := [yy, nn, yy, yy, yy]) (Y := [_, _, _, _]) rfl) ?_
  refine H_seq ?_
  refine H_seq ?_
  refine H_region (l := [_, _, _]) rfl ?_
  refine HO_fieldAddr (r := 2) rfl rfl rfl Tryz.underlying45 rfl Tryz.sizeOf3 rfl ?_
  refine HO_load1 (i := 0) (j := 2) rfl rfl rfl Tryz.isAgg3 rfl (.loc _ _ _) rfl rfl ?_
  refine HO_bin rfl rfl rfl rfl bin_eql ?_
  refine HO_nil ?_
  refine H_env (ρ' := [(37, _), (3, _), (2, _), (0, _)]) ⟨rfl, rfl, rfl, rfl, trivial⟩ ?_
  refine H_cond rfl ?_ ?_
  ·intro h37
   replace h37 := dT h37
   (exfalso; omega)
  intro h37
  replace h37 := dF h37
  refine H_skip ?_
  refine H_seq ?_
  refine H_region (l := [_, _]) rfl ?_
  refine HO_loadA (i := 0) (us := []) (cs := [_, _, _, _, _, _, _, _, _, _, _, _, _]) (ts := []) rfl rfl rfl Tryz.isAgg45 Tryz.sizeOf45 rfl (.loc _ _ _) rfl rfl rfl rfl ?_
  refine HO_store (i := 3) (j := 0) (us := []) (old := [_, _, _, _, _, _, _, _, _, _, _, _, _]) (ts := []) (cs := [_, _, _, _, _, _, _, _, _, _, _, _, _]) (R := [_, _, _]) (new := [_, _, _, _, _, _, _, _, _, _, _, _, _]) rfl rfl rfl Tryz.sizeOf45 rfl (by simp [Value.oneCell']) rfl rfl rfl rfl rfl rfl ?_
  refine HO_nil ?_
  refine H_env (ρ' := [(2, _)]) ⟨rfl, trivial⟩ ?_
  refine H_world (fun _ hA => hA.keep (m := [yy, nn, yy, yy]) (Y := [_, _, _]) rfl) ?_
  refine H_nilDat kInt ?_
  refine H_nilDat kInt ?_
  have hent := (Ent.entP_2 hr_r1 hr_r2 hr_r3 hr_r4 h17).trans (by rw [hc4, if_pos (Decidable.not_not.1 h26)])
  refine H_ret1 Tryz.results28 (.cell rfl (fun w hA => run_loadVarA (cs := [_, _, _, _, _, _, _, _, _, _, _, _, _]) (Tryz.isAgg45 w) (Tryz.sizeOf45 w) (Tells.cells (.loc _ _ _) (hA.get (i := 2) rfl)))) (fun w hA => ⟨(y20, (none, 0), (none, 0)), congrArg Ending.returned ?_, ?_, ?_⟩)
  ·(rw [hent] <;> rfl)
  ·trivial
  ·(rw [hent]; exact hA.only (is := [1, 2, 0, 0]) (Z := [_]) rfl)
 intro h17
 replace h17 := dF h17
 refine H_skip ?_
 refine H_seq ?_
 refine H_seq ?_
 refine H_region (l := [_, _, _]) rfl ?_
 refine HO_fieldAddr (r := 2) rfl rfl rfl Tryz.underlying45 rfl Tryz.sizeOf3 rfl ?_
 refine HO_load1 (i := 0) (j := 2) rfl rfl rfl Tryz.isAgg3 rfl (.loc _ _ _) rfl rfl ?_
 refine HO_bin rfl rfl rfl rfl bin_eql ?_
 refine HO_nil ?_
 refine H_env (ρ' := [(37, _), (3, _), (2, _), (0, _)]) ⟨rfl, rfl, rfl, rfl, trivial⟩ ?_
 refine H_cond rfl ?_ ?_
 ·intro h37
  replace h37 := dT h37
  refine H_region (l := [_, _, _, _]) rfl ?_
  refine HO_move rfl rfl rfl ?_
  refine HO_dup (i := 2) rfl rfl ?_
  refine HO_call (first := []) (capt := []) (is := [1, 0]) (R := [_, _, _]) rfl rfl rfl rfl rfl Tryz.call69 rfl (rreadconf_spec _ _ _ _ _ _ ?_) ?_
  ·(first | omega | assumption | decide)
  intro y39 hy39
  generalize hc3 : Ent.confP (r3.2.1, r3.2.2) = c3
  refine HO_fieldAddr (r := 11) rfl rfl rfl Tryz.underlying45 rfl Tryz.sizeOf25 rfl ?_
  refine HO_store (i := 4) (j := 0) (us := [_, _, _, _, _, _, _, _, _, _, _]) (old := [_, _]) (ts := []) (cs := [_, _]) (R := [_, _, _, _, _, _]) (new := [_, _, _, _, _, _, _, _, _, _, _, _, _]) rfl rfl rfl Tryz.sizeOf25 rfl (by simp [Value.oneCell']) rfl rfl rfl rfl rfl rfl ?_
  refine HO_nil ?_
  refine H_env (ρ' := [(3, _), (2, _)]) ⟨rfl, rfl, trivial⟩ ?_
  refine H_world (fun _ hA => hA.keep (m := [yy, yy, yy, yy, yy, nn, yy]) (Y := [_, _, _, _, _, _]) rfl) ?_
  refine H_seq ?_
  refine H_region (l := [_, _]) rfl ?_
  refine HO_loadA (i := 0) (us := []) (cs := [_, _, _, _, _, _, _, _, _, _, _, _, _]) (ts := []) rfl rfl rfl Tryz.isAgg45 Tryz.sizeOf45 rfl (.loc _ _ _) rfl rfl rfl rfl ?_
  refine HO_store (i := 5) (j := 0) (us := []) (old := [_, _, _, _, _, _, _, _, _, _, _, _, _]) (ts := []) (cs := [_, _, _, _, _, _, _, _, _, _, _, _, _]) (R := [_, _, _, _, _]) (new := [_, _, _, _, _, _, _, _, _, _, _, _, _]) rfl rfl rfl Tryz.sizeOf45 rfl (by simp [Value.oneCell']) rfl rfl rfl rfl rfl rfl ?_
  refine HO_nil ?_
  refine H_env (ρ' := [(2, _)]) ⟨rfl, trivial⟩ ?_
  refine H_world (fun _ hA => hA.keep (m := [yy, nn, yy, yy, yy, yy]) (Y := [_, _, _, _, _]) rfl) ?_
  have hent := (Ent.entP_3 hr_r1 hr_r2 hr_r3 h37).trans (by rw [hc3])
  refine H_ret1 Tryz.results28 (.cell rfl (fun w hA => run_loadVarA (cs := [_, _, _, _, _, _, _, _, _, _, _, _, _]) (Tryz.isAgg45 w) (Tryz.sizeOf45 w) (Tells.cells (.loc _ _ _) (hA.get (i := 0) rfl)))) (fun w hA => ⟨y39, congrArg Ending.returned ?_, ?_, ?_⟩)
  ·(rw [hent] <;> rfl)
  ·trivial
  ·(rw [hent]; exact hA.keep (m := [nn, yy, yy, yy, yy]) (Y := [_, _, _, _]) rfl)
 intro h37
 replace h37 := dF h37
 refine H_skip ?_
 refine H_seq ?_
 refine H_region (l := [_, _]) rfl ?_
 refine HO_loadA (i := 0) (us := []) (cs := [_, _, _, _, _, _, _, _, _, _, _, _, _]) (ts := []) rfl rfl rfl Tryz.isAgg45 Tryz.sizeOf45 rfl (.loc _ _ _) rfl rfl rfl rfl ?_
 refine HO_store (i := 3) (j := 0) (us := []) (old := [_, _, _, _, _, _, _, _, _, _, _, _, _]) (ts := []) (cs := [_, _, _, _, _, _, _, _, _, _, _, _, _]) (R := [_, _, _]) (new := [_, _, _, _, _, _, _, _, _, _, _, _, _]) rfl rfl rfl Tryz.sizeOf45 rfl (by simp [Value.oneCell']) rfl rfl rfl rfl rfl rfl ?_
 refine HO_nil ?_
 refine H_env (ρ' := [(2, _)]) ⟨rfl, trivial⟩ ?_
 refine H_world (fun _ hA => hA.keep (m := [yy, nn, yy, yy]) (Y := [_, _, _]) rfl) ?_
 refine H_nilDat kInt ?_
 refine H_nilDat kInt ?_
 have hent := Ent.entP_0 hr_r1 hr_r2 hr_r3 h17 h37
 refine H_ret1 Tryz.results28 (.cell rfl (fun w hA => run_loadVarA (cs := [_, _, _, _, _, _, _, _, _, _, _, _, _]) (Tryz.isAgg45 w) (Tryz.sizeOf45 w) (Tells.cells (.loc _ _ _) (hA.get (i := 2) rfl)))) (fun w hA => ⟨(y13, (none, 0), (none, 0)), congrArg Ending.returned ?_, ?_, ?_⟩)
 ·(rw [hent] <;> rfl)
 ·trivial
 ·(rw [hent]; exact hA.only (is := [1, 2, 0, 0]) (Z := [_]) rfl)
theorem creadsnap_spec (T : TypeId) (g : Nat) (b : List UInt8) (w : Bool) (a : Option Addr) (c : Nat) (hb : b.length ≤ 100000) : Spec Tryz.prog 23 #[.pointer (some ⟨g, 0, none⟩)] [.loc g [.slice a (b.length) c, .bool (w)] T, .dat kByte.sl (b) [.slice a (b.length) c]] (β := (Option Addr × Nat) × (Option Addr × Nat) × (Option Addr × Nat) × (Option Addr × Nat)) (fun y => .agg #[.int .i64 ((Ent.snapP (b, w)).1.idx), .int .i64 ((Ent.snapP (b, w)).1.term), .slice y.2.1.1 (((Ent.snapP (b, w)).1.conf.vot).length) y.2.1.2, .slice y.2.2.1.1 (((Ent.snapP (b, w)).1.conf.lea).length) y.2.2.1.2, .slice y.2.2.2.1 (((Ent.snapP (b, w)).1.data).length) y.2.2.2.2]) (fun y => True) (fun y => [.loc g [.slice y.1.1 (((Ent.snapP (b, w)).2.1).length) y.1.2, .bool ((Ent.snapP (b, w)).2.2)] T, .dat kByte.sl ((Ent.snapP (b, w)).2.1) [.slice y.1.1 (((Ent.snapP (b, w)).2.1).length) y.1.2], .dat kInt.sl ((Ent.snapP (b, w)).1.conf.vot) [.slice y.2.1.1 (((Ent.snapP (b, w)).1.conf.vot).length) y.2.1.2], .dat kInt.sl ((Ent.snapP (b, w)).1.conf.lea) [.slice y.2.2.1.1 (((Ent.snapP (b, w)).1.conf.lea).length) y.2.2.1.2], .dat kByte.sl ((Ent.snapP (b, w)).1.data) [.slice y.2.2.2.1 (((Ent.snapP (b, w)).1.data).length) y.2.2.2.2]]) := by
 refine Spec.enter (vs := [_]) Tryz.func23 rfl Tryz.ntmps23 rfl (Nat.le_of_ble_eq_true rfl) (fun w0 ok0 => ?_)
 generalize hM0 : blks _ = M0
 refine H_seq ?_
 refine H_region (l := [_]) rfl ?_
 refine HO_alloc (cs := [_, _, _, _, _]) rfl rfl Tryz.zeroValue28 rfl ?_
 intro g2
 refine HO_nil ?_
 refine H_seq ?_
 refine H_drawB (m := [yy, nn, yy]) (Xs := [_, _]) (fuel := 11) (l := #[false, false, false, false, false, false, false, false, false, false, false]) mixed rfl rfl rfl ?_
 refine HA_take (i := 0) (listed' := #[true, false, false, false, false, false, false, false, false, false, false]) (bodyPost_pan _ _ _) rfl rfl rfl rfl (by kernel_rfl) rfl (V_move rfl) (fun _ hA => hA.keep (m := [yy, nn, yy]) (Y := [_, _]) rfl) ?_
 refine HA_take (i := 1) (listed' := #[true, true, false, false, false, false, false, false, false, false, false]) (bodyPost_pan _ _ _) rfl rfl rfl rfl (by kernel_rfl) rfl (V_nilCheck rfl) (fun _ hA => hA.keep (m := [yy, nn, yy]) (Y := [_, _]) rfl) ?_
 refine HA_take (i := 2) (listed' := #[true, true, true, false, false, false, false, false, false, false, false]) (bodyPost_pan _ _ _) rfl rfl rfl rfl (by kernel_rfl) rfl (V_fieldAddr (r := 0) rfl Tryz.underlying58 rfl Tryz.sizeOf56 rfl) (fun _ hA => hA.keep (m := [yy, nn, yy]) (Y := [_, _]) rfl) ?_
 refine HA_take (i := 4) (listed' := #[true, true, true, false, true, false, false, false, false, false, false]) (bodyPost_pan _ _ _) rfl rfl rfl rfl (by kernel_rfl) rfl (V_move rfl) (fun _ hA => hA.keep (m := [yy, nn, yy]) (Y := [_, _]) rfl) ?_
 refine HA_take (i := 5) (listed' := #[true, true, true, false, true, true, false, false, false, false, false]) (bodyPost_pan _ _ _) rfl rfl rfl rfl (by kernel_rfl) rfl (V_nilCheck rfl) (fun _ hA => hA.keep (m := [yy, nn, yy]) (Y := [_, _]) rfl) ?_
 refine HA_take (i := 6) (listed' := #[true, true, true, false, true, true, true, false, false, false, false]) (bodyPost_pan _ _ _) rfl rfl rfl rfl (by kernel_rfl) rfl (V_fieldAddr (r := 0) rfl Tryz.underlying58 rfl Tryz.sizeOf56 rfl) (fun _ hA => hA.keep (m := [yy, nn, yy]) (Y := [_, _]) rfl) ?_
 refine HA_loud2 (i := 3) (j := 9) (by kernel_rfl) rfl rfl ?_ ?_
 ·refine HO_dup (i := 2) rfl rfl ?_
  refine HO_call (first := []) (capt := []) (is := [1, 0]) (R := [_, _]) rfl rfl rfl rfl rfl Tryz.call19 rfl (cInt_spec _ _ _ _ _ _) ?_
  intro y7 hy7
  refine HA_back (listed' := #[true, true, true, true, true, true, true, false, false, false, false]) rfl (fun _ hA => hA.keep (m := [nn, nn, yy, yy]) (Y := [_, _]) rfl) ?_
  refine HA_loud2 (i := 7) (j := 9) (by kernel_rfl) rfl rfl ?_ ?_
  ·generalize hr_r1 : Cod.rd 0 (Cod.dec b) b w = r1
   have hl_r1 : r1.2.1.length ≤ b.length := hr_r1 ▸ Cod.rd_len _ _ _ _
   refine HO_dup (i := 1) rfl rfl ?_
   refine HO_call (first := []) (capt := []) (is := [0, 0]) (R := [_, _, _]) rfl rfl rfl rfl rfl Tryz.call19 rfl (cInt_spec _ _ _ _ _ _) ?_
   intro y11 hy11
   refine HA_back (listed' := #[true, true, true, true, true, true, true, true, false, false, false]) rfl (fun _ hA => hA.keep (m := [nn, nn, nn, yy, yy]) (Y := [_, _]) rfl) ?_
   generalize hr_r2 : Cod.rd 0 (Cod.dec r1.2.1) r1.2.1 r1.2.2 = r2
   have hl_r2 : r2.2.1.length ≤ r1.2.1.length := hr_r2 ▸ Cod.rd_len _ _ _ _
   refine HA_take (i := 8) (listed' := #[true, true, true, true, true, true, true, true, true, false, false]) (bodyPost_pan _ _ _) rfl rfl rfl rfl (by kernel_rfl) rfl (V_build (xo := [(0, _), (1, _)]) (vs := [_, _]) rfl rfl (bd28_0_1_ii)) (fun _ hA => hA.keep (m := [nn, nn, nn, yy, yy]) (Y := [_, _]) rfl) ?_
   refine HA_loud1 (i := 9) (by kernel_rfl) rfl ?_
   refine HO_alloc (cs := [_, _, _, _, _]) rfl rfl Tryz.zeroValue28 rfl ?_
   intro g3
   refine HA_back (listed' := #[true, true, true, true, true, true, true, true, true, true, false]) rfl (fun _ hA => hA.keep (m := [nn, nn, nn, nn, yy, yy]) (Y := [_, _]) rfl) ?_
   refine HA_loud1 (i := 10) (by kernel_rfl) rfl ?_
   refine HO_store (i := 0) (j := 0) (us := []) (old := [_, _, _, _, _]) (ts := []) (cs := [_, _, _, _, _]) (R := [_, _, _, _, _]) (new := [_, _, _, _, _]) rfl rfl rfl Tryz.sizeOf28 rfl (by simp [Value.oneCell']) rfl rfl rfl rfl rfl rfl ?_
   refine HA_back (listed' := #[true, true, true, true, true, true, true, true, true, true, true]) rfl (fun _ hA => hA.keep (m := [nn, nn, nn, nn, yy, yy]) (Y := [_, _]) rfl) ?_
   refine HA_done (by kernel_rfl) ?_
   refine H_env (ρ' := [(3, _), (2, _), (0, _)]) ⟨rfl, rfl, rfl, trivial⟩ ?_
   refine H_world (fun _ hA => hA.keep (m := [yy, yy, yy, nn, yy, nn]) (Y := [_, _, _, _]) rfl) ?_
   refine H_seq ?_
   refine H_region (l := [_, _, _, _]) rfl ?_
   refine HO_move rfl rfl rfl ?_
   refine HO_dup (i := 2) rfl rfl ?_
   refine HO_call (first := []) (capt := []) (is := [1, 0]) (R := [_, _, _]) rfl rfl rfl rfl rfl Tryz.call61 rfl (cconf_spec _ _ _ _ _ _ ?_) ?_
   ·(first | omega | assumption | decide)
   intro y14 hy14
   have hcl3 := Ent.confP_len (r2.2.1, r2.2.2)
   obtain ⟨c3, hc3⟩ : ∃ e, Ent.confP (r2.2.1, r2.2.2) = e := ⟨_, rfl⟩
   rw [hc3] at hcl3 ⊢
   dsimp only at hcl3
   refine HO_fieldAddr (r := 2) rfl rfl rfl Tryz.underlying28 rfl Tryz.sizeOf25 rfl ?_
   refine HO_store (i := 4) (j := 0) (us := [_, _]) (old := [_, _]) (ts := [_]) (cs := [_, _]) (R := [_, _, _, _, _, _]) (new := [_, _, _, _, _]) rfl rfl rfl Tryz.sizeOf25 rfl (by simp [Value.oneCell']) rfl rfl rfl rfl rfl rfl ?_
   refine HO_nil ?_
   refine H_env (ρ' := [(3, _), (2, _), (0, _)]) ⟨rfl, rfl, rfl, trivial⟩ ?_
   refine H_world (fun _ hA => hA.keep (m := [yy, yy, yy, yy, yy, nn, yy]) (Y := [_, _, _, _, _, _]) rfl) ?_
   refine H_seq ?_
   refine H_region (l := [_, _, _, _, _, _, _]) rfl ?_
   refine HO_move rfl rfl rfl ?_
   refine HO_nilCheck rfl rfl rfl ?_
   refine HO_fieldAddr (r := 0) rfl rfl rfl Tryz.underlying58 rfl Tryz.sizeOf56 rfl ?_
   refine HO_dup (i := 2) rfl rfl ?_
   refine HO_call (first := []) (capt := []) (is := [1, 0]) (R := [_, _, _, _, _]) rfl rfl rfl rfl rfl Tryz.call59 rfl (cText_spec _ _ _ _ _ _ ?_) ?_
   ·(first | omega | assumption | decide)
   intro y19 hy19
   generalize hr_r3 : Cod.rd [] (Cod.decT c3.2.1) c3.2.1 c3.2.2 = r3
   have hl_r3 : r3.2.1.length ≤ c3.2.1.length := hr_r3 ▸ Cod.rd_len _ _ _ _
   have hs_r3 := Cod.rdT_size hr_r3
   refine HO_strBytes rfl rfl rfl Tryz.underlying9 Tryz.underlying26 Tryz.underlying5 ?_ ?_
   ·(simp only [maxLen]; omega)
   intro a20 c20
   refine HO_fieldAddr (r := 4) rfl rfl rfl Tryz.underlying28 rfl Tryz.sizeOf26 rfl ?_
   refine HO_store (i := 3) (j := 0) (us := [_, _, _, _]) (old := [_]) (ts := []) (cs := [_]) (R := [_, _, _, _, _, _, _]) (new := [_, _, _, _, _]) rfl rfl rfl Tryz.sizeOf26 rfl (by simp [Value.oneCell']) rfl rfl rfl rfl rfl rfl ?_
   refine HO_nil ?_
   refine H_env (ρ' := [(3, _), (2, _)]) ⟨rfl, rfl, trivial⟩ ?_
   refine H_world (fun _ hA => hA.keep (m := [yy, yy, yy, yy, nn, yy, yy, yy]) (Y := [_, _, _, _, _, _, _]) rfl) ?_
   refine H_seq ?_
   refine H_region (l := [_, _]) rfl ?_
   refine HO_loadA (i := 0) (us := []) (cs := [_, _, _, _, _]) (ts := []) rfl rfl rfl Tryz.isAgg28 Tryz.sizeOf28 rfl (.loc _ _ _) rfl rfl rfl rfl ?_
   refine HO_store (i := 6) (j := 0) (us := []) (old := [_, _, _, _, _]) (ts := []) (cs := [_, _, _, _, _]) (R := [_, _, _, _, _, _]) (new := [_, _, _, _, _]) rfl rfl rfl Tryz.sizeOf28 rfl (by simp [Value.oneCell']) rfl rfl rfl rfl rfl rfl ?_
   refine HO_nil ?_
   refine H_env (ρ' := [(2, _)]) ⟨rfl, trivial⟩ ?_
   refine H_world (fun _ hA => hA.keep (m := [yy, nn, yy, yy, yy, yy, yy]) (Y := [_, _, _, _, _, _]) rfl) ?_
   have hsp := Ent.snapP_of hr_r1 hr_r2 hc3 hr_r3
   refine H_ret1 Tryz.results23 (.cell rfl (fun w hA => run_loadVarA (cs := [_, _, _, _, _]) (Tryz.isAgg28 w) (Tryz.sizeOf28 w) (Tells.cells (.loc _ _ _) (hA.get (i := 0) rfl)))) (fun w hA => ⟨(y19, y14.2.1, y14.2.2, (a20, c20)), congrArg Ending.returned ?_, ?_, ?_⟩)
   ·(rw [hsp] <;> rfl)
   ·trivial
   ·(rw [hsp]; exact hA.only (is := [1, 2, 3, 4, 1]) (Z := [_]) rfl)
  ·refine HO_alloc (cs := [_, _, _, _, _]) rfl rfl Tryz.zeroValue28 rfl ?_
   intro g3
   refine HA_back (listed' := #[true, true, true, true, true, true, true, false, false, true, false]) rfl (fun _ hA => hA.keep (m := [nn, nn, nn, yy, yy]) (Y := [_, _]) rfl) ?_
   refine HA_loud1 (i := 7) (by kernel_rfl) rfl ?_
   generalize hr_r1 : Cod.rd 0 (Cod.dec b) b w = r1
   have hl_r1 : r1.2.1.length ≤ b.length := hr_r1 ▸ Cod.rd_len _ _ _ _
   refine HO_dup (i := 2) rfl rfl ?_
   refine HO_call (first := []) (capt := []) (is := [1, 0]) (R := [_, _, _, _]) rfl rfl rfl rfl rfl Tryz.call19 rfl (cInt_spec _ _ _ _ _ _) ?_
   intro y11 hy11
   refine HA_back (listed' := #[true, true, true, true, true, true, true, true, false, true, false]) rfl (fun _ hA => hA.keep (m := [nn, nn, nn, nn, yy, yy]) (Y := [_, _]) rfl) ?_
   generalize hr_r2 : Cod.rd 0 (Cod.dec r1.2.1) r1.2.1 r1.2.2 = r2
   have hl_r2 : r2.2.1.length ≤ r1.2.1.length := hr_r2 ▸ Cod.rd_len _ _ _ _
   refine HA_take (i := 8) (listed' := #[true, true, true, true, true, true, true, true, true, true, false]) (bodyPost_pan _ _ _) rfl rfl rfl rfl (by kernel_rfl) rfl (V_build (xo := [(0, _), (1, _)]) (vs := [_, _]) rfl rfl (bd28_0_1_ii)) (fun _ hA => hA.keep (m := [nn, nn, nn, nn, yy, yy]) (Y := [_, _]) rfl) ?_
   refine HA_loud1 (i := 10) (by kernel_rfl) rfl ?_
   refine HO_store (i := 2) (j := 0) (us := []) (old := [_, _, _, _, _]) (ts := []) (cs := [_, _, _, _, _]) (R := [_, _, _, _, _]) (new := [_, _, _, _, _]) rfl rfl rfl Tryz.sizeOf28 rfl (by simp [Value.oneCell']) rfl rfl rfl rfl rfl rfl ?_
   refine HA_back (listed' := #[true, true, true, true, true, true, true, true, true, true, true]) rfl (fun _ hA => hA.keep (m := [nn, nn, nn, nn, yy, yy]) (Y := [_, _]) rfl) ?_
   refine HA_done (by kernel_rfl) ?_
   refine H_env (ρ' := [(3, _), (2, _), (0, _)]) ⟨rfl, rfl, rfl, trivial⟩ ?_
   refine H_world (fun _ hA => hA.keep (m := [yy, yy, yy, nn, yy, nn]) (Y := [_, _, _, _]) rfl) ?_
   refine H_seq ?_
   refine H_region (l := [_, _, _, _]) rfl ?_
   refine HO_move rfl rfl rfl ?_
   refine HO_dup (i := 2) rfl rfl ?_
   refine HO_call (first := []) (capt := []) (is := [1, 0]) (R := [_, _, _]) rfl rfl rfl rfl rfl Tryz.call61 rfl (cconf_spec _ _ _ _ _ _ ?_) ?_
   ·(first | omega | assumption | decide)
   intro y14 hy14
   have hcl3 := Ent.confP_len (r2.2.1, r2.2.2)
   obtain ⟨c3, hc3⟩ : ∃ e, Ent.confP (r2.2.1, r2.2.2) = e := ⟨_, rfl⟩
   rw [hc3] at hcl3 ⊢
   dsimp only at hcl3
   refine HO_fieldAddr (r := 2) rfl rfl rfl Tryz.underlying28 rfl Tryz.sizeOf25 rfl ?_
   refine HO_store (i := 4) (j := 0) (us := [_, _]) (old := [_, _]) (ts := [_]) (cs := [_, _]) (R := [_, _, _, _, _, _]) (new := [_, _, _, _, _]) rfl rfl rfl Tryz.sizeOf25 rfl (by simp [Value.oneCell']) rfl rfl rfl rfl rfl rfl ?_
   refine HO_nil ?_
   refine H_env (ρ' := [(3, _), (2, _), (0, _)]) ⟨rfl, rfl, rfl, trivial⟩ ?_
   refine H_world (fun _ hA => hA.keep (m := [yy, yy, yy, yy, yy, nn, yy]) (Y := [_, _, _, _, _, _]) rfl) ?_
   refine H_seq ?_
   refine H_region (l := [_, _, _, _, _, _, _]) rfl ?_
   refine HO_move rfl rfl rfl ?_
   refine HO_nilCheck rfl rfl rfl ?_
   refine HO_fieldAddr (r := 0) rfl rfl rfl Tryz.underlying58 rfl Tryz.sizeOf56 rfl ?_
   refine HO_dup (i := 2) rfl rfl ?_
   refine HO_call (first := []) (capt := []) (is := [1, 0]) (R := [_, _, _, _, _]) rfl rfl rfl rfl rfl Tryz.call59 rfl (cText_spec _ _ _ _ _ _ ?_) ?_
   ·(first | omega | assumption | decide)
   intro y19 hy19
   generalize hr_r3 : Cod.rd [] (Cod.decT c3.2.1) c3.2.1 c3.2.2 = r3
   have hl_r3 : r3.2.1.length ≤ c3.2.1.length := hr_r3 ▸ Cod.rd_len _ _ _ _
   have hs_r3 := Cod.rdT_size hr_r3
   refine HO_strBytes rfl rfl rfl Tryz.underlying9 Tryz.underlying26 Tryz.underlying5 ?_ ?_
   ·(simp only [maxLen]; omega)
   intro a20 c20
   refine HO_fieldAddr (r := 4) rfl rfl rfl Tryz.underlying28 rfl Tryz.sizeOf26 rfl ?_
   refine HO_store (i := 3) (j := 0) (us := [_, _, _, _]) (old := [_]) (ts := []) (cs := [_]) (R := [_, _, _, _, _, _, _]) (new := [_, _, _, _, _]) rfl rfl rfl Tryz.sizeOf26 rfl (by simp [Value.oneCell']) rfl rfl rfl rfl rfl rfl ?_
   refine HO_nil ?_
   refine H_env (ρ' := [(3, _), (2, _)]) ⟨rfl, rfl, trivial⟩ ?_
   refine H_world (fun _ hA => hA.keep (m := [yy, yy, yy, yy, nn, yy, yy, yy]) (Y := [_, _, _, _, _, _, _]) rfl) ?_
   refine H_seq ?_
   refine H_region (l := [_, _]) rfl ?_
   refine HO_loadA (i := 0) (us := []) (cs := [_, _, _, _, _]) (ts := []) rfl rfl rfl Tryz.isAgg28 Tryz.sizeOf28 rfl (.loc _ _ _) rfl rfl rfl rfl ?_
   refine HO_store (i := 6) (j := 0) (us := []) (old := [_, _, _, _, _]) (ts := []) (cs := [_, _, _, _, _]) (R := [_, _, _, _, _, _]) (new := [_, _, _, _, _]) rfl rfl rfl Tryz.sizeOf28 rfl (by simp [Value.oneCell']) rfl rfl rfl rfl rfl rfl ?_
   refine HO_nil ?_
   refine H_env (ρ' := [(2, _)]) ⟨rfl, trivial⟩ ?_
   refine H_world (fun _ hA => hA.keep (m := [yy, nn, yy, yy, yy, yy, yy]) (Y := [_, _, _, _, _, _]) rfl) ?_
   have hsp := Ent.snapP_of hr_r1 hr_r2 hc3 hr_r3
   refine H_ret1 Tryz.results23 (.cell rfl (fun w hA => run_loadVarA (cs := [_, _, _, _, _]) (Tryz.isAgg28 w) (Tryz.sizeOf28 w) (Tells.cells (.loc _ _ _) (hA.get (i := 0) rfl)))) (fun w hA => ⟨(y19, y14.2.1, y14.2.2, (a20, c20)), congrArg Ending.returned ?_, ?_, ?_⟩)
   ·(rw [hsp] <;> rfl)
   ·trivial
   ·(rw [hsp]; exact hA.only (is := [1, 2, 3, 4, 1]) (Z := [_]) rfl)
 ·refine HO_alloc (cs := [_, _, _, _, _]) rfl rfl Tryz.zeroValue28 rfl ?_
  intro g3
  refine HA_back (listed' := #[true, true, true, false, true, true, true, false, false, true, false]) rfl (fun _ hA => hA.keep (m := [nn, yy, nn, yy]) (Y := [_, _]) rfl) ?_
  refine HA_loud1 (i := 3) (by kernel_rfl) rfl ?_
  refine HO_dup (i := 3) rfl rfl ?_
  refine HO_call (first := []) (capt := []) (is := [2, 0]) (R := [_, _, _]) rfl rfl rfl rfl rfl Tryz.call19 rfl (cInt_spec _ _ _ _ _ _) ?_
  intro y7 hy7
  refine HA_back (listed' := #[true, true, true, true, true, true, true, false, false, true, false]) rfl (fun _ hA => hA.keep (m := [nn, nn, nn, yy, yy]) (Y := [_, _]) rfl) ?_
  refine HA_loud1 (i := 7) (by kernel_rfl) rfl ?_
  generalize hr_r1 : Cod.rd 0 (Cod.dec b) b w = r1
  have hl_r1 : r1.2.1.length ≤ b.length := hr_r1 ▸ Cod.rd_len _ _ _ _
  refine HO_dup (i := 1) rfl rfl ?_
  refine HO_call (first := []) (capt := []) (is := [0, 0]) (R := [_, _, _, _]) rfl rfl rfl rfl rfl Tryz.call19 rfl (cInt_spec _ _ _ _ _ _) ?_
  intro y11 hy11
  refine HA_back (listed' := #[true, true, true, true, true, true, true, true, false, true, false]) rfl (fun _ hA => hA.keep (m := [nn, nn, nn, nn, yy, yy]) (Y := [_, _]) rfl) ?_
  generalize hr_r2 : Cod.rd 0 (Cod.dec r1.2.1) r1.2.1 r1.2.2 = r2
  have hl_r2 : r2.2.1.length ≤ r1.2.1.length := hr_r2 ▸ Cod.rd_len _ _ _ _
  refine HA_take (i := 8) (listed' := #[true, true, true, true, true, true, true, true, true, true, false]) (bodyPost_pan _ _ _) rfl rfl rfl rfl (by kernel_rfl) rfl (V_build (xo := [(0, _), (1, _)]) (vs := [_, _]) rfl rfl (bd28_0_1_ii)) (fun _ hA => hA.keep (m := [nn, nn, nn, nn, yy, yy]) (Y := [_, _]) rfl) ?_
  refine HA_loud1 (i := 10) (by kernel_rfl) rfl ?_
  refine HO_store (i := 3) (j := 0) (us := []) (old := [_, _, _, _, _]) (ts := []) (cs := [_, _, _, _, _]) (R := [_, _, _, _, _]) (new := [_, _, _, _, _]) rfl rfl rfl Tryz.sizeOf28 rfl (by simp [Value.oneCell']) rfl rfl rfl rfl rfl rfl ?_
  refine HA_back (listed' := #[true, true, true, true, true, true, true, true, true, true, true]) rfl (fun _ hA => hA.keep (m := [nn, nn, nn, nn, yy, yy]) (Y := [_, _]) rfl) ?_
  refine HA_done (by kernel_rfl) ?_
  refine H_env (ρ' := [(3, _), (2, _), (0, _)]) ⟨rfl, rfl, rfl, trivial⟩ ?_
  refine H_world (fun _ hA => hA.keep (m := [yy, yy, yy, nn, yy, nn]) (Y := [_, _, _, _]) rfl) ?_
  refine H_seq ?_
  refine H_region (l := [_, _, _, _]) rfl ?_
  refine HO_move rfl rfl rfl ?_
  refine HO_dup (i := 2) rfl rfl ?_
  refine HO_call (first := []) (capt := []) (is := [1, 0]) (R := [_, _, _]) rfl rfl rfl rfl rfl Tryz.call61 rfl (cconf_spec _ _ _ _ _ _ ?_) ?_
  ·(first | omega | assumption | decide)
  intro y14 hy14
  have hcl3 := Ent.confP_len (r2.2.1, r2.2.2)
  obtain ⟨c3, hc3⟩ : ∃ e, Ent.confP (r2.2.1, r2.2.2) = e := ⟨_, rfl⟩
  rw [hc3] at hcl3 ⊢
  dsimp only at hcl3
  refine HO_fieldAddr (r := 2) rfl rfl rfl Tryz.underlying28 rfl Tryz.sizeOf25 rfl ?_
  refine HO_store (i := 4) (j := 0) (us := [_, _]) (old := [_, _]) (ts := [_]) (cs := [_, _]) (R := [_, _, _, _, _, _]) (new := [_, _, _, _, _]) rfl rfl rfl Tryz.sizeOf25 rfl (by simp [Value.oneCell']) rfl rfl rfl rfl rfl rfl ?_
  refine HO_nil ?_
  refine H_env (ρ' := [(3, _), (2, _), (0, _)]) ⟨rfl, rfl, rfl, trivial⟩ ?_
  refine H_world (fun _ hA => hA.keep (m := [yy, yy, yy, yy, yy, nn, yy]) (Y := [_, _, _, _, _, _]) rfl) ?_
  refine H_seq ?_
  refine H_region (l := [_, _, _, _, _, _, _]) rfl ?_
  refine HO_move rfl rfl rfl ?_
  refine HO_nilCheck rfl rfl rfl ?_
  refine HO_fieldAddr (r := 0) rfl rfl rfl Tryz.underlying58 rfl Tryz.sizeOf56 rfl ?_
  refine HO_dup (i := 2) rfl rfl ?_
  refine HO_call (first := []) (capt := []) (is := [1, 0]) (R := [_, _, _, _, _]) rfl rfl rfl rfl rfl Tryz.call59 rfl (cText_spec _ _ _ _ _ _ ?_) ?_
  ·(first | omega | assumption | decide)
  intro y19 hy19
  generalize hr_r3 : Cod.rd [] (Cod.decT c3.2.1) c3.2.1 c3.2.2 = r3
  have hl_r3 : r3.2.1.length ≤ c3.2.1.length := hr_r3 ▸ Cod.rd_len _ _ _ _
  have hs_r3 := Cod.rdT_size hr_r3
  refine HO_strBytes rfl rfl rfl Tryz.underlying9 Tryz.underlying26 Tryz.underlying5 ?_ ?_
  ·(simp only [maxLen]; omega)
  intro a20 c20
  refine HO_fieldAddr (r := 4) rfl rfl rfl Tryz.underlying28 rfl Tryz.sizeOf26 rfl ?_
  refine HO_store (i := 3) (j := 0) (us := [_, _, _, _]) (old := [_]) (ts := []) (cs := [_]) (R := [_, _, _, _, _, _, _]) (new := [_, _, _, _, _]) rfl rfl rfl Tryz.sizeOf26 rfl (by simp [Value.oneCell']) rfl rfl rfl rfl rfl rfl ?_
  refine HO_nil ?_
  refine H_env (ρ' := [(3, _), (2, _)]) ⟨rfl, rfl, trivial⟩ ?_
  refine H_world (fun _ hA => hA.keep (m := [yy, yy, yy, yy, nn, yy, yy, yy]) (Y := [_, _, _, _, _, _, _]) rfl) ?_
  refine H_seq ?_
  refine H_region (l := [_, _]) rfl ?_
  refine HO_loadA (i := 0) (us := []) (cs := [_, _, _, _, _]) (ts := []) rfl rfl rfl Tryz.isAgg28 Tryz.sizeOf28 rfl (.loc _ _ _) rfl rfl rfl rfl ?_
  refine HO_store (i := 6) (j := 0) (us := []) (old := [_, _, _, _, _]) (ts := []) (cs := [_, _, _, _, _]) (R := [_, _, _, _, _, _]) (new := [_, _, _, _, _]) rfl rfl rfl Tryz.sizeOf28 rfl (by simp [Value.oneCell']) rfl rfl rfl rfl rfl rfl ?_
  refine HO_nil ?_
  refine H_env (ρ' := [(2, _)]) ⟨rfl, trivial⟩ ?_
  refine H_world (fun _ hA => hA.keep (m := [yy, nn, yy, yy, yy, yy, yy]) (Y := [_, _, _, _, _, _]) rfl) ?_
  have hsp := Ent.snapP_of hr_r1 hr_r2 hc3 hr_r3
  refine H_ret1 Tryz.results23 (.cell rfl (fun w hA => run_loadVarA (cs := [_, _, _, _, _]) (Tryz.isAgg28 w) (Tryz.sizeOf28 w) (Tells.cells (.loc _ _ _) (hA.get (i := 0) rfl)))) (fun w hA => ⟨(y19, y14.2.1, y14.2.2, (a20, c20)), congrArg Ending.returned ?_, ?_, ?_⟩)
  ·(rw [hsp] <;> rfl)
  ·trivial
  ·(rw [hsp]; exact hA.only (is := [1, 2, 3, 4, 1]) (Z := [_]) rfl)
theorem rreadsnap_spec (T : TypeId) (g : Nat) (b : List UInt8) (w : Bool) (a : Option Addr) (c : Nat) (hb : b.length ≤ 100000) : Spec Tryz.prog 29 #[.pointer (some ⟨g, 0, none⟩)] [.loc g [.slice a (b.length) c, .bool (w)] T, .dat kByte.sl (b) [.slice a (b.length) c]] (β := (Option Addr × Nat) × (Option Addr × Nat) × (Option Addr × Nat) × (Option Addr × Nat)) (fun y => .agg #[.int .i64 ((Ent.snapP (b, w)).1.idx), .int .i64 ((Ent.snapP (b, w)).1.term), .slice y.2.1.1 (((Ent.snapP (b, w)).1.conf.vot).length) y.2.1.2, .slice y.2.2.1.1 (((Ent.snapP (b, w)).1.conf.lea).length) y.2.2.1.2, .slice y.2.2.2.1 (((Ent.snapP (b, w)).1.data).length) y.2.2.2.2]) (fun y => True) (fun y => [.loc g [.slice y.1.1 (((Ent.snapP (b, w)).2.1).length) y.1.2, .bool ((Ent.snapP (b, w)).2.2)] T, .dat kByte.sl ((Ent.snapP (b, w)).2.1) [.slice y.1.1 (((Ent.snapP (b, w)).2.1).length) y.1.2], .dat kInt.sl ((Ent.snapP (b, w)).1.conf.vot) [.slice y.2.1.1 (((Ent.snapP (b, w)).1.conf.vot).length) y.2.1.2], .dat kInt.sl ((Ent.snapP (b, w)).1.conf.lea) [.slice y.2.2.1.1 (((Ent.snapP (b, w)).1.conf.lea).length) y.2.2.1.2], .dat kByte.sl ((Ent.snapP (b, w)).1.data) [.slice y.2.2.2.1 (((Ent.snapP (b, w)).1.data).length) y.2.2.2.2]]) := by
 refine Spec.enter (vs := [_]) Tryz.func29 rfl Tryz.ntmps29 rfl (Nat.le_of_ble_eq_true rfl) (fun w0 ok0 => ?_)
 generalize hM0 : blks _ = M0
 refine H_seq ?_
 refine H_region (l := [_]) rfl ?_
 refine HO_alloc (cs := [_, _, _, _, _]) rfl rfl Tryz.zeroValue28 rfl ?_
 intro g2
 refine HO_nil ?_
 refine H_seq ?_
 refine H_region (l := [_]) rfl ?_
 refine HO_alloc (cs := [_, _, _, _, _]) rfl rfl Tryz.zeroValue28 rfl ?_
 intro g3
 refine HO_nil ?_
 refine H_seq ?_
 refine H_region (l := [_, _, _, _]) rfl ?_
 refine HO_move rfl rfl rfl ?_
 refine HO_dup (i := 3) rfl rfl ?_
 refine HO_call (first := []) (capt := []) (is := [2, 0]) (R := [_, _, _]) rfl rfl rfl rfl rfl Tryz.call25 rfl (rInt_spec _ _ _ _ _ _) ?_
 intro y5 hy5
 generalize hr_r1 : Cod.rd 0 (Cod.dec b) b w = r1
 have hl_r1 : r1.2.1.length ≤ b.length := hr_r1 ▸ Cod.rd_len _ _ _ _
 refine HO_fieldAddr (r := 0) rfl rfl rfl Tryz.underlying28 rfl Tryz.sizeOf3 rfl ?_
 refine HO_store (i := 2) (j := 0) (us := []) (old := [_]) (ts := [_, _, _, _]) (cs := [_]) (R := [_, _, _, _]) (new := [_, _, _, _, _]) rfl rfl rfl Tryz.sizeOf3 rfl (by simp [Value.oneCell']) rfl rfl rfl rfl rfl rfl ?_
 refine HO_nil ?_
 refine H_env (ρ' := [(3, _), (2, _), (0, _)]) ⟨rfl, rfl, rfl, trivial⟩ ?_
 refine H_world (fun _ hA => hA.keep (m := [yy, yy, yy, yy, nn]) (Y := [_, _, _, _]) rfl) ?_
 refine H_seq ?_
 refine H_region (l := [_, _, _, _]) rfl ?_
 refine HO_move rfl rfl rfl ?_
 refine HO_dup (i := 2) rfl rfl ?_
 refine HO_call (first := []) (capt := []) (is := [1, 0]) (R := [_, _, _]) rfl rfl rfl rfl rfl Tryz.call25 rfl (rInt_spec _ _ _ _ _ _) ?_
 intro y8 hy8
 generalize hr_r2 : Cod.rd 0 (Cod.dec r1.2.1) r1.2.1 r1.2.2 = r2
 have hl_r2 : r2.2.1.length ≤ r1.2.1.length := hr_r2 ▸ Cod.rd_len _ _ _ _
 refine HO_fieldAddr (r := 1) rfl rfl rfl Tryz.underlying28 rfl Tryz.sizeOf3 rfl ?_
 refine HO_store (i := 2) (j := 0) (us := [_]) (old := [_]) (ts := [_, _, _]) (cs := [_]) (R := [_, _, _, _]) (new := [_, _, _, _, _]) rfl rfl rfl Tryz.sizeOf3 rfl (by simp [Value.oneCell']) rfl rfl rfl rfl rfl rfl ?_
 refine HO_nil ?_
 refine H_env (ρ' := [(3, _), (2, _), (0, _)]) ⟨rfl, rfl, rfl, trivial⟩ ?_
 refine H_world (fun _ hA => hA.keep (m := [yy, yy, yy, nn, yy]) (Y := [_, _, _, _]) rfl) ?_
 refine H_seq ?_
 refine H_region (l := [_, _, _, _]) rfl ?_
 refine HO_move rfl rfl rfl ?_
 refine HO_dup (i := 2) rfl rfl ?_
 refine HO_call (first := []) (capt := []) (is := [1, 0]) (R := [_, _, _]) rfl rfl rfl rfl rfl Tryz.call69 rfl (rreadconf_spec _ _ _ _ _ _ ?_) ?_
 ·(first | omega | assumption | decide)
 intro y11 hy11
 have hcl3 := Ent.confP_len (r2.2.1, r2.2.2)
 obtain ⟨c3, hc3⟩ : ∃ e, Ent.confP (r2.2.1, r2.2.2) = e := ⟨_, rfl⟩
 rw [hc3] at hcl3 ⊢
 dsimp only at hcl3
 refine HO_fieldAddr (r := 2) rfl rfl rfl Tryz.underlying28 rfl Tryz.sizeOf25 rfl ?_
 refine HO_store (i := 4) (j := 0) (us := [_, _]) (old := [_, _]) (ts := [_]) (cs := [_, _]) (R := [_, _, _, _, _, _]) (new := [_, _, _, _, _]) rfl rfl rfl Tryz.sizeOf25 rfl (by simp [Value.oneCell']) rfl rfl rfl rfl rfl rfl ?_
 refine HO_nil ?_
 refine H_env (ρ' := [(3, _), (2, _), (0, _)]) ⟨rfl, rfl, rfl, trivial⟩ ?_
 refine H_world (fun _ hA => hA.keep (m := [yy, yy, yy, yy, yy, nn, yy]) (Y := [_, _, _, _, _, _]) rfl) ?_
 refine H_seq ?_
 refine H_region (l := [_, _, _, _, _]) rfl ?_
 refine HO_move rfl rfl rfl ?_
 refine HO_dup (i := 2) rfl rfl ?_
 refine HO_call (first := []) (capt := []) (is := [1, 0]) (R := [_, _, _, _, _]) rfl rfl rfl rfl rfl Tryz.call68 rfl (rText_spec _ _ _ _ _ _ ?_) ?_
 ·(first | omega | assumption | decide)
 intro y14 hy14
 generalize hr_r3 : Cod.rd [] (Cod.decT c3.2.1) c3.2.1 c3.2.2 = r3
 have hl_r3 : r3.2.1.length ≤ c3.2.1.length := hr_r3 ▸ Cod.rd_len _ _ _ _
 have hs_r3 := Cod.rdT_size hr_r3
 refine HO_strBytes rfl rfl rfl Tryz.underlying9 Tryz.underlying26 Tryz.underlying5 ?_ ?_
 ·(simp only [maxLen]; omega)
 intro a15 c15
 refine HO_fieldAddr (r := 4) rfl rfl rfl Tryz.underlying28 rfl Tryz.sizeOf26 rfl ?_
 refine HO_store (i := 3) (j := 0) (us := [_, _, _, _]) (old := [_]) (ts := []) (cs := [_]) (R := [_, _, _, _, _, _, _]) (new := [_, _, _, _, _]) rfl rfl rfl Tryz.sizeOf26 rfl (by simp [Value.oneCell']) rfl rfl rfl rfl rfl rfl ?_
 refine HO_nil ?_
 refine H_env (ρ' := [(3, _), (2, _)]) ⟨rfl, rfl, trivial⟩ ?_
 refine H_world (fun _ hA => hA.keep (m := [yy, yy, yy, yy, nn, yy, yy, yy]) (Y := [_, _, _, _, _, _, _]) rfl) ?_
 refine H_seq ?_
 refine H_region (l := [_, _]) rfl ?_
 refine HO_loadA (i := 0) (us := []) (cs := [_, _, _, _, _]) (ts := []) rfl rfl rfl Tryz.isAgg28 Tryz.sizeOf28 rfl (.loc _ _ _) rfl rfl rfl rfl ?_
 refine HO_store (i := 6) (j := 0) (us := []) (old := [_, _, _, _, _]) (ts := []) (cs := [_, _, _, _, _]) (R := [_, _, _, _, _, _]) (new := [_, _, _, _, _]) rfl rfl rfl Tryz.sizeOf28 rfl (by simp [Value.oneCell']) rfl rfl rfl rfl rfl rfl ?_
 refine HO_nil ?_
 refine H_env (ρ' := [(2, _)]) ⟨rfl, trivial⟩ ?_
 refine H_world (fun _ hA => hA.keep (m := [yy, nn, yy, yy, yy, yy, yy]) (Y := [_, _, _, _, _, _]) rfl) ?_
 have hsp := Ent.snapP_of hr_r1 hr_r2 hc3 hr_r3
 refine H_ret1 Tryz.results29 (.cell rfl (fun w hA => run_loadVarA (cs := [_, _, _, _, _]) (Tryz.isAgg28 w) (Tryz.sizeOf28 w) (Tells.cells (.loc _ _ _) (hA.get (i := 0) rfl)))) (fun w hA => ⟨(y14, y11.2.1, y11.2.2, (a15, c15)), congrArg Ending.returned ?_, ?_, ?_⟩)
 ·(rw [hsp] <;> rfl)
 ·trivial
 ·(rw [hsp]; exact hA.only (is := [1, 2, 3, 4, 1]) (Z := [_]) rfl)
end Go.Wk
