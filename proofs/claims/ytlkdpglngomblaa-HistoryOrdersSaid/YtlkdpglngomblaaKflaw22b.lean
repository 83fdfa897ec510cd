/- Contracts of the program's functions, each proved by walking its code. -/
import Derived.Test.YtlkdpglngomblaaKflaw22
import Derived.Test.YtlkdpglngomblaaKfsort3
import Derived.Test.YtlkdpglngomblaaWk22
import Derived.Test.YtlkdpglngomblaaOrd2
set_option maxRecDepth 100000
set_option linter.unusedVariables false
set_option linter.unusedSimpArgs false
namespace Go.Wk.Flaw22b
open Go Go.RowKit Go.Proofs Go.Wk
theorem elt4 : Elt Try.prog 4 (.bool (false)) 1 1 := Elt.of (by kernel_rfl) (by rfl) (by decide) (by decide)
end Go.Wk.Flaw22b
namespace Go.Wk
open Go Go.RowKit Go.Proofs Flaw22b 
set_option maxHeartbeats 0 in
theorem HistoryOrders_spec (ops : List Op) (a9 : Option Addr) (c9 : Nat)  : Spec Try.prog 4 #[.slice a9 (ops.length) c9] [.dat kOp.sl (ops) [.slice a9 (ops.length) c9]] (β := Unit) (fun y => .bool (true)) (fun y => True) (fun y => []) := by
 refine Spec.enter (vs := [_]) Try.func4 rfl Try.ntmps4 rfl (Nat.le_of_ble_eq_true rfl) (fun w0 ok0 => ?_)
 generalize hM0 : blks _ = M0
 have hMn := @noM _ _ hM0 (by simp [Atom.dat, Atom.elem])
 refine H_len_le (i := 0) rfl ?_
 intro hlen0
 refine H_seq ?_
 refine H_region (l := [_]) rfl ?_
 refine HO_assign rfl rfl rfl ?_
 refine HO_nil ?_
 refine H_env (ρ' := [(0, _)]) ⟨rfl, trivial⟩ ?_
 refine H_seq ?_
 refine H_seq ?_
 refine H_region (l := [_, _]) rfl ?_
 refine HO_move rfl rfl rfl ?_
 refine HO_nilDat kEnt ?_
 refine HO_dup (i := 0) rfl rfl ?_
 refine HO_dup (i := 2) rfl rfl ?_
 refine HO_call (first := []) (capt := []) (is := [0, 0]) (R := [_, _]) rfl rfl rfl rfl rfl Try.call14 rfl (heavy22_spec _ _ _ _ _ _) ?_
 intro y13 hy13
 refine HO_nil ?_
 refine H_env (ρ' := [(13, _), (0, _)]) ⟨rfl, rfl, trivial⟩ ?_
 refine H_world (fun _ hA => hA.keep (m := [nn, yy]) (Y := [_]) rfl) ?_
 refine H_cond rfl ?_ ?_
 ·intro h13
  refine H_seq ?_
  refine H_region (l := [_, _]) rfl ?_
  refine HO_call (first := []) (capt := []) (is := []) (R := [_]) rfl rfl rfl rfl rfl Try.call15 rfl lives22_spec ?_
  intro y14 hy14
  clear y14 hy14
  refine HO_assign rfl rfl rfl ?_
  refine HO_nil ?_
  refine H_env (ρ' := [(2, _)]) ⟨rfl, trivial⟩ ?_
  refine H_world (fun _ hA => hA.keep (m := [nn]) (Y := []) rfl) ?_
  refine H_ret1 Try.results4 (.tmp rfl) (fun w hA => ⟨(), congrArg Ending.returned ?_, ?_, ?_⟩)
  ·(exact congrArg Value.bool (by first | rfl | assumption | simp_all))
  ·trivial
  ·exact hA.keep (m := []) (Y := []) rfl
 intro h13
 refine H_skip ?_
 refine H_seq ?_
 have hlen := (hy13 h13).2
 refine H_region (l := [_, _, _]) rfl ?_
 refine HO_move rfl rfl rfl ?_
 refine HO_dup (i := 0) rfl rfl ?_
 refine HO_call (first := []) (capt := []) (is := [0]) (R := [_]) rfl rfl rfl rfl rfl Try.call17 rfl (order_spec _ _ _ ?_) ?_
 ·omega
 intro y16 hy16
 refine HO_assign rfl rfl rfl ?_
 refine HO_nil ?_
 refine H_env (ρ' := [(3, _), (0, _)]) ⟨rfl, rfl, trivial⟩ ?_
 refine H_seq ?_
 have hyl := hy16.len
 refine H_freeze (i := 0) (R := [_]) rfl hMn ?_
 refine H_region (l := [_]) rfl ?_
 refine HO_assign rfl rfl rfl ?_
 refine HO_nil ?_
 refine H_seq ?_
 refine H_seq ?_
 refine H_region (l := [_, _, _]) rfl ?_
 refine HO_move rfl rfl rfl ?_
 refine HO_bi rfl rfl rfl (bi_len_sl Try.underlying23) ?_
 refine HO_move rfl rfl rfl ?_
 refine HO_nil ?_
 refine H_block ?_
 refine H_loop (σ := Nat) (fun s => s ≤ ops.length) (fun s => [(0, .slice a9 (ops.length) c9), (3, .slice y16.2.1 (y16.1.length) y16.2.2), (4, .int .i64 (((Hist.idxs ops s).length : Int))), (17, .slice a9 (ops.length) c9), (18, .int .i64 ((ops.length : Int))), (19, .int .i64 ((s : Int)))]) (fun s => Asn w0 ok0 M0 [.dat kOp.sl (ops) [.slice a9 (ops.length) c9], .dat kInt.sl (y16.1) [.slice y16.2.1 (y16.1.length) y16.2.2]]) (fun s => ops.length - s) 0 ?_ ?_ ?_ ?_
 ·exact Nat.zero_le _
 ·exact ⟨rfl, rfl, rfl, rfl, rfl, rfl, trivial⟩
 ·intro w hA
  exact hA.only (is := [0, 0]) (Z := []) rfl
 ·intro i hI
  (try dsimp only at hI ⊢)
  refine H_seq ?_
  refine H_region (l := [_]) rfl ?_
  refine HO_bin rfl rfl rfl rfl bin_lss ?_
  refine HO_nil ?_
  refine H_seq ?_
  refine H_cond rfl ?_ ?_
  ·intro h20
   replace h20 := dT h20
   refine H_skip ?_
   refine H_seq ?_
   refine H_block ?_
   refine H_seq ?_
   refine H_region (l := [_, _, _, _]) rfl ?_
   refine HO_indexAddr open_Op (i := 0) rfl rfl rfl rfl rfl Try.underlying23 Try.sizeOf40 rfl ?_ ?_
   ·omega
   intro b21 o21 z21 y21 hz21 hI21
   (try simp only [BIG] at hI21)
   refine HO_loadA (i := 0) (us := []) (cs := [_, _, _, _, _, _, _, _, _, _, _, _, _, _, _, _, _]) (ts := []) rfl rfl rfl Try.isAgg40 Try.sizeOf40 rfl (.elem _ _ _) rfl rfl rfl rfl ?_
   refine HO_alloc (cs := [_, _, _, _, _, _, _, _, _, _, _, _, _, _, _, _, _]) rfl rfl Try.zeroValue40 rfl ?_
   intro g6
   refine HO_store (i := 0) (j := 0) (us := []) (old := [_, _, _, _, _, _, _, _, _, _, _, _, _, _, _, _, _]) (ts := []) (cs := [_, _, _, _, _, _, _, _, _, _, _, _, _, _, _, _, _]) (R := [_, _, _, _]) (new := [_, _, _, _, _, _, _, _, _, _, _, _, _, _, _, _, _]) rfl rfl rfl Try.sizeOf40 rfl (by simp [Value.oneCell']) rfl rfl rfl rfl rfl rfl ?_
   refine HO_nil ?_
   refine H_env (ρ' := [(6, _), (0, _), (3, _), (4, _), (17, _), (18, _), (19, _)]) ⟨rfl, rfl, rfl, rfl, rfl, rfl, rfl, trivial⟩ ?_
   refine H_world (fun _ hA => hA.keep (m := [yy, nn, yy, yy, yy]) (Y := [_, _, _, _]) rfl) ?_
   refine H_seq ?_
   refine H_region (l := [_, _, _]) rfl ?_
   refine HO_fieldAddr (r := 15) rfl rfl rfl Try.underlying40 rfl Try.sizeOf3 rfl ?_
   refine HO_load1 (i := 0) (j := 15) rfl rfl rfl Try.isAgg3 rfl (.loc _ _ _) rfl rfl ?_
   refine HO_bin rfl rfl rfl rfl bin_geq ?_
   refine HO_nil ?_
   refine H_env (ρ' := [(25, _), (0, _), (3, _), (4, _), (17, _), (18, _), (19, _)]) ⟨rfl, rfl, rfl, rfl, rfl, rfl, rfl, trivial⟩ ?_
   refine H_world (fun _ hA => hA.keep (m := [nn, nn, yy, yy]) (Y := [_, _]) rfl) ?_
   refine H_cond rfl ?_ ?_
   ·intro h25
    replace h25 := dT h25
    have he := Hist.idxs_yes hz21 (by omega)
    have hil := Hist.idxs_len (ops := ops) (i := i)
    refine H_region (l := [_, _, _]) rfl ?_
    refine HO_move rfl rfl rfl ?_
    refine HO_bin rfl rfl rfl rfl (bin_add ?_ ?_) ?_
    ·omega
    ·omega
    refine HO_assign rfl rfl rfl ?_
    refine HO_nil ?_
    refine H_env (ρ' := [(4, _), (0, _), (3, _), (17, _), (18, _), (19, _)]) ⟨rfl, rfl, rfl, rfl, rfl, rfl, trivial⟩ ?_
    refine H_blk ?_
    refine H_region (l := [_, _]) rfl ?_
    refine HO_bin rfl rfl rfl rfl (bin_add ?_ ?_) ?_
    ·omega
    ·omega
    refine HO_move rfl rfl rfl ?_
    refine HO_nil ?_
    refine H_env (ρ' := [(19, _), (4, _), (0, _), (3, _), (17, _), (18, _)]) ⟨rfl, rfl, rfl, rfl, rfl, rfl, trivial⟩ ?_
    refine H_inv (fun a w hf hA => ⟨i + 1, ?_, ?_, hf.sub ?_, ?_⟩)
    ·omega
    ·(try dsimp only); omega
    ·exact ⟨rfl, rfl, congrArg (fun z => some (Value.int .i64 z)) (by simp [he]), rfl, rfl, rfl, trivial⟩
    ·exact hA.only (is := [0, 1]) (Z := []) rfl
   intro h25
   replace h25 := dF h25
   have he := Hist.idxs_no hz21 (by omega)
   refine H_skip ?_
   refine H_blk ?_
   refine H_region (l := [_, _]) rfl ?_
   refine HO_bin rfl rfl rfl rfl (bin_add ?_ ?_) ?_
   ·omega
   ·omega
   refine HO_move rfl rfl rfl ?_
   refine HO_nil ?_
   refine H_env (ρ' := [(19, _), (0, _), (3, _), (4, _), (17, _), (18, _)]) ⟨rfl, rfl, rfl, rfl, rfl, rfl, trivial⟩ ?_
   refine H_inv (fun a w hf hA => ⟨i + 1, ?_, ?_, hf.sub ?_, ?_⟩)
   ·omega
   ·(try dsimp only); omega
   ·exact ⟨rfl, rfl, congrArg (fun z => some (Value.int .i64 z)) (by simp [he]), rfl, rfl, rfl, trivial⟩
   ·exact hA.only (is := [0, 1]) (Z := []) rfl
  intro h20
  replace h20 := dF h20
  refine H_exit rfl ?_
  refine H_seq ?_
  refine H_region (l := [_, _, _, _]) rfl ?_
  refine HO_move rfl rfl rfl ?_
  refine HO_bi rfl rfl rfl (bi_len_sl Try.underlying23) ?_
  refine HO_makeSlice (kd := kBool) (zs := [_]) (x0 := false) rfl rfl rfl rfl Try.underlying50 elt4 rfl rfl rfl rfl (fun _ _ => ⟨rfl, trivial⟩) ?_ ?_
  ·omega
  intro g31
  refine HO_assign rfl rfl rfl ?_
  refine HO_nil ?_
  refine H_env (ρ' := [(7, _), (0, _), (3, _), (4, _)]) ⟨rfl, rfl, rfl, rfl, trivial⟩ ?_
  refine H_seq ?_
  refine H_seq ?_
  obtain rfl : i = ops.length := by omega
  have hil2 := Hist.idxs_len (ops := ops) (i := ops.length)
  refine H_region (l := [_, _, _]) rfl ?_
  refine HO_move rfl rfl rfl ?_
  refine HO_bi rfl rfl rfl (bi_len_sl Try.underlying29) ?_
  refine HO_move rfl rfl rfl ?_
  refine HO_nil ?_
  refine H_block ?_
  refine H_loop (σ := Nat × List Bool) (fun s => s.1 ≤ y16.1.length ∧ Hist.Seen ops y16.1 s.2 s.1) (fun s => [(0, .slice a9 (ops.length) c9), (3, .slice y16.2.1 (y16.1.length) y16.2.2), (4, .int .i64 (((Hist.idxs ops ops.length).length : Int))), (7, .slice (some ⟨g31, 0, none⟩) (ops.length) ops.length), (32, .slice y16.2.1 (y16.1.length) y16.2.2), (33, .int .i64 ((y16.1.length : Int))), (34, .int .i64 ((s.1 : Int)))]) (fun s => Asn w0 ok0 M0 [.dat kOp.sl (ops) [.slice a9 (ops.length) c9], .dat kInt.sl (y16.1) [.slice y16.2.1 (y16.1.length) y16.2.2], .own 4 kBool (some ⟨g31, 0, none⟩) ops.length (s.2)]) (fun s => y16.1.length - s.1) ⟨0, List.replicate ops.length false⟩ ?_ ?_ ?_ ?_
  ·exact ⟨Nat.zero_le _, .start⟩
  ·exact ⟨rfl, rfl, rfl, congrArg (fun n : Nat => some (Value.slice (some ⟨g31, 0, none⟩) n ops.length)) List.length_replicate, rfl, rfl, rfl, trivial⟩
  ·intro w hA
   exact hA.only (is := [0, 1, 0]) (Z := []) rfl
  ·rintro ⟨i, seen⟩ hI
   (try dsimp only at hI ⊢)
   refine H_seq ?_
   refine H_region (l := [_]) rfl ?_
   refine HO_bin rfl rfl rfl rfl bin_lss ?_
   refine HO_nil ?_
   refine H_seq ?_
   refine H_cond rfl ?_ ?_
   ·intro h35
    replace h35 := dT h35
    refine H_skip ?_
    refine H_seq ?_
    refine H_block ?_
    refine H_seq ?_
    refine H_region (l := [_, _, _, _, _]) rfl ?_
    refine HO_move rfl rfl rfl ?_
    refine HO_indexAddr open_int (i := 1) rfl rfl rfl rfl rfl Try.underlying29 Try.sizeOf3 rfl ?_ ?_
    ·omega
    intro b37 o37 z37 y37 hz37 hI37
    clear y37
    refine HO_load1 (i := 0) (j := 0) rfl rfl rfl Try.isAgg3 rfl (.elem _ _ _) rfl rfl ?_
    iterate 2 refine HO_assign rfl rfl rfl ?_
    refine HO_nil ?_
    refine H_env (ρ' := [(9, _), (8, _), (0, _), (3, _), (4, _), (7, _), (32, _), (33, _), (34, _)]) ⟨rfl, rfl, rfl, rfl, rfl, rfl, rfl, rfl, rfl, trivial⟩ ?_
    refine H_world (fun _ hA => hA.keep (m := [nn, yy, yy, yy]) (Y := [_, _, _]) rfl) ?_
    refine H_seq ?_
    refine H_seq ?_
    obtain ⟨k, hzk, hk, za, hza, hat⟩ := hy16.good hz37
    obtain ⟨zs, hzs⟩ : ∃ zs, seen[k]? = some zs := ⟨_, List.getElem?_eq_getElem (by have := hI.2.len; omega)⟩
    have hzi := hz37
    rw [hzk] at hzi
    refine H_elem open_Op (i := 0) (k) rfl hk ?_
    intro bf of zf yf haf hzf hIf
    cases haf
    (try simp only [BIG] at hIf)
    refine H_region (l := [_, _, _, _, _, _, _, _, _, _, _, _, _, _, _, _, _, _, _, _, _, _]) rfl ?_
    refine HO_move rfl rfl rfl ?_
    refine HO_bin rfl rfl rfl rfl bin_lss ?_
    refine HO_move rfl rfl rfl ?_
    refine HO_split (d := 41) rfl ?_ ?_
    ·intro h41
     replace h41 := dT h41
     (exfalso; omega)
    intro h41
    replace h41 := dF h41
    iterate 2 refine HO_move rfl rfl rfl ?_
    refine HO_bi rfl rfl rfl (bi_len_sl Try.underlying23) ?_
    refine HO_bin rfl rfl rfl rfl bin_geq ?_
    refine HO_pick_f rfl rfl rfl rfl ?_
    refine HO_move rfl rfl rfl ?_
    refine HO_split (d := 47) rfl ?_ ?_
    ·intro h47
     replace h47 := dT h47
     (exfalso; omega)
    intro h47
    replace h47 := dF h47
    iterate 2 refine HO_move rfl rfl rfl ?_
    refine HO_indexC (j := k) rfl rfl rfl rfl ?_ Try.underlying50 Try.sizeOf4 ?_ ((congrArg (0 + ·) (Nat.mul_one _)).trans (Nat.zero_add _)) ?_
    ·omega
    ·omega
    refine HO_loadOwn (i := 4) (v := .bool ((zs))) rfl rfl rfl Try.isAgg4 rfl rfl (Nat.mul_one _) hzs (fun _ _ _ h => h.1) ?_
    refine HO_pick_f rfl rfl rfl rfl ?_
    refine HO_move rfl rfl rfl ?_
    refine HO_split (d := 53) rfl ?_ ?_
    ·intro h53
     (exact absurd (by rw [hzs, h53]) (fun hs => hI.2.not hy16 hzi hs))
    intro h53
    iterate 2 refine HO_move rfl rfl rfl ?_
    refine HO_indexC (j := k) rfl rfl rfl rfl ?_ Try.underlying23 Try.sizeOf40 ?_ rfl ?_
    ·omega
    ·omega
    refine HO_fieldAddr rfl rfl rfl Try.underlying40 rfl Try.sizeOf3 rfl ?_
    refine HO_load1 (i := 0) (j := 15) rfl rfl rfl Try.isAgg3 rfl (.elem _ _ _) rfl rfl ?_
    refine HO_bin rfl rfl rfl rfl bin_lss ?_
    refine HO_pick_f rfl rfl rfl rfl ?_
    refine HO_nil ?_
    refine H_env (ρ' := [(60, _), (9, _), (8, _), (0, _), (3, _), (4, _), (7, _), (32, _), (33, _), (34, _)]) ⟨rfl, rfl, rfl, rfl, rfl, rfl, rfl, rfl, rfl, rfl, trivial⟩ ?_
    refine H_world (fun _ hA => hA.keep (m := [nn, nn, yy, yy, yy]) (Y := [_, _, _]) rfl) ?_
    refine H_cond rfl ?_ ?_
    ·intro h60
     replace h60 := dT h60
     (rw [hzf] at hza; cases hza; exfalso; omega)
    intro h60
    replace h60 := dF h60
    refine H_skip ?_
    refine H_seq ?_
    refine H_region (l := [_, _, _, _]) rfl ?_
    iterate 2 refine HO_move rfl rfl rfl ?_
    refine HO_indexC (j := k) rfl rfl rfl rfl ?_ Try.underlying50 Try.sizeOf4 ?_ ((congrArg (0 + ·) (Nat.mul_one _)).trans (Nat.zero_add _)) ?_
    ·omega
    ·omega
    refine HO_storeOwn (i := 2) (cs := [_]) (R := [_, _]) (z' := true) rfl rfl rfl Try.sizeOf4 rfl (by simp [Value.oneCell']) rfl rfl rfl (Nat.mul_one _) ?_ (fun _ _ _ => ⟨rfl, trivial⟩) ?_
    ·(have := hI.2.len; omega)
    refine HO_nil ?_
    refine H_env (ρ' := [(9, _), (8, _), (0, _), (3, _), (4, _), (7, _), (32, _), (33, _), (34, _)]) ⟨rfl, rfl, rfl, rfl, rfl, rfl, rfl, rfl, rfl, trivial⟩ ?_
    refine H_seq ?_
    refine H_region (l := [_, _]) rfl ?_
    refine HO_move rfl rfl rfl ?_
    refine HO_bin rfl rfl rfl rfl bin_gtr ?_
    refine HO_nil ?_
    refine H_env (ρ' := [(65, _), (9, _), (8, _), (0, _), (3, _), (4, _), (7, _), (32, _), (33, _), (34, _)]) ⟨rfl, rfl, rfl, rfl, rfl, rfl, rfl, rfl, rfl, rfl, trivial⟩ ?_
    refine H_cond rfl ?_ ?_
    ·intro h65
     replace h65 := dT h65
     refine H_seq ?_
     obtain ⟨u0, hu0⟩ : ∃ u, y16.1[i - 1]? = some u := ⟨_, List.getElem?_eq_getElem (by omega)⟩
     obtain ⟨k0, hu0k, hk0, zb, hzb, hbt⟩ := hy16.good hu0
     have hu0' := hu0
     rw [hu0k] at hu0'
     have htw := hy16.two (show i - 1 < i by omega) hu0' hzi hzb hza
     refine H_elem open_int (i := 2) (i - 1) rfl (by omega) ?_
     intro be oe ze ye hae hze hIe
     rw [hae]
     clear ye
     refine H_elem open_Op (i := 2) (k0) rfl hk0 ?_
     intro bg og zg yg hag hzg hIg
     cases hag
     (try simp only [BIG] at hIg)
     refine H_elem open_Op (i := 4) (k) rfl hk ?_
     intro bh oh zh yh hah hzh hIh
     cases hah
     (try simp only [BIG] at hIh)
     refine H_drawB (m := [yy, yy, yy, yy, yy, yy, yy, yy]) (Xs := [_, _, _, _, _, _, _, _]) (fuel := 16) (l := #[false, false, false, false, false, false, false, false, false, false, false, false, false, false, false, false]) mixed rfl rfl rfl ?_
     have hez : ze = (k0 : Int) := by rw [hu0'] at hze; cases hze; rfl
     refine HA_take (i := 0) (listed' := #[true, false, false, false, false, false, false, false, false, false, false, false, false, false, false, false]) (bodyPost_pan _ _ _) rfl rfl rfl rfl (by kernel_rfl) rfl (V_move rfl) (fun _ hA => hA) ?_
     refine HA_take (i := 1) (listed' := #[true, true, false, false, false, false, false, false, false, false, false, false, false, false, false, false]) (bodyPost_pan _ _ _) rfl rfl rfl rfl (by kernel_rfl) rfl (V_move rfl) (fun _ hA => hA) ?_
     refine HA_take (i := 2) (listed' := #[true, true, true, false, false, false, false, false, false, false, false, false, false, false, false, false]) (bodyPost_pan _ _ _) rfl rfl rfl rfl (by kernel_rfl) rfl (V_move rfl) (fun _ hA => hA) ?_
     refine HA_take (i := 3) (listed' := #[true, true, true, true, false, false, false, false, false, false, false, false, false, false, false, false]) (bodyPost_pan _ _ _) rfl rfl rfl rfl (by kernel_rfl) rfl (V_bin rfl rfl (bin_sub ?_ ?_)) (fun _ hA => hA) ?_
     ·omega
     ·omega
     refine HA_take (i := 4) (listed' := #[true, true, true, true, true, false, false, false, false, false, false, false, false, false, false, false]) (bodyPost_pan _ _ _) rfl rfl rfl rfl (by kernel_rfl) rfl (V_indexC (j := i - 1) rfl rfl ?_ Try.underlying29 Try.sizeOf3 ?_ rfl) (fun _ hA => hA) ?_
     ·omega
     ·omega
     refine HA_take (i := 5) (listed' := #[true, true, true, true, true, true, false, false, false, false, false, false, false, false, false, false]) (bodyPost_pan _ _ _) rfl rfl rfl rfl (by kernel_rfl) rfl (V_load1 (i := 4) (j := 0) rfl Try.isAgg3 rfl (.elem _ _ _) rfl rfl) (fun _ hA => hA) ?_
     refine HA_take (i := 6) (listed' := #[true, true, true, true, true, true, true, false, false, false, false, false, false, false, false, false]) (bodyPost_pan _ _ _) rfl rfl rfl rfl (by kernel_rfl) rfl (V_indexC (j := k0) rfl rfl ?_ Try.underlying23 Try.sizeOf40 ?_ rfl) (fun _ hA => hA) ?_
     ·omega
     ·omega
     refine HA_take (i := 7) (listed' := #[true, true, true, true, true, true, true, true, false, false, false, false, false, false, false, false]) (bodyPost_pan _ _ _) rfl rfl rfl rfl (by kernel_rfl) rfl (V_loadA (i := 2) (us := []) (cs := [_, _, _, _, _, _, _, _, _, _, _, _, _, _, _, _, _]) (ts := []) rfl Try.isAgg40 Try.sizeOf40 rfl (.elem _ _ _) rfl rfl rfl rfl) (fun _ hA => hA) ?_
     refine HA_take (i := 8) (listed' := #[true, true, true, true, true, true, true, true, true, false, false, false, false, false, false, false]) (bodyPost_pan _ _ _) rfl rfl rfl rfl (by kernel_rfl) rfl (V_move rfl) (fun _ hA => hA) ?_
     refine HA_take (i := 9) (listed' := #[true, true, true, true, true, true, true, true, true, true, false, false, false, false, false, false]) (bodyPost_pan _ _ _) rfl rfl rfl rfl (by kernel_rfl) rfl (V_move rfl) (fun _ hA => hA) ?_
     refine HA_take (i := 10) (listed' := #[true, true, true, true, true, true, true, true, true, true, true, false, false, false, false, false]) (bodyPost_pan _ _ _) rfl rfl rfl rfl (by kernel_rfl) rfl (V_indexC (j := k) rfl rfl ?_ Try.underlying23 Try.sizeOf40 ?_ rfl) (fun _ hA => hA) ?_
     ·omega
     ·omega
     refine HA_take (i := 11) (listed' := #[true, true, true, true, true, true, true, true, true, true, true, true, false, false, false, false]) (bodyPost_pan _ _ _) rfl rfl rfl rfl (by kernel_rfl) rfl (V_loadA (i := 0) (us := []) (cs := [_, _, _, _, _, _, _, _, _, _, _, _, _, _, _, _, _]) (ts := []) rfl Try.isAgg40 Try.sizeOf40 rfl (.elem _ _ _) rfl rfl rfl rfl) (fun _ hA => hA) ?_
     refine HA_loud2 (i := 12) (j := 13) (by kernel_rfl) rfl rfl ?_ ?_
     ·refine HO_alloc (cs := [_, _, _, _, _, _, _, _, _, _, _, _, _, _, _, _, _]) rfl rfl Try.zeroValue40 rfl ?_
      intro g10
      refine HA_back (listed' := #[true, true, true, true, true, true, true, true, true, true, true, true, true, false, false, false]) rfl (fun _ hA => hA.keep (m := [nn, yy, yy, yy, yy, yy, yy, yy, yy]) (Y := [_, _, _, _, _, _, _, _]) rfl) ?_
      refine HA_loud1 (i := 13) (by kernel_rfl) rfl ?_
      refine HO_alloc (cs := [_, _, _, _, _, _, _, _, _, _, _, _, _, _, _, _, _]) rfl rfl Try.zeroValue40 rfl ?_
      intro g11
      refine HA_back (listed' := #[true, true, true, true, true, true, true, true, true, true, true, true, true, true, false, false]) rfl (fun _ hA => hA.keep (m := [nn, nn, yy, yy, yy, yy, yy, yy, yy, yy]) (Y := [_, _, _, _, _, _, _, _]) rfl) ?_
      refine HA_loud1 (i := 14) (by kernel_rfl) rfl ?_
      refine HO_store (i := 1) (j := 0) (us := []) (old := [_, _, _, _, _, _, _, _, _, _, _, _, _, _, _, _, _]) (ts := []) (cs := [_, _, _, _, _, _, _, _, _, _, _, _, _, _, _, _, _]) (R := [_, _, _, _, _, _, _, _, _]) (new := [_, _, _, _, _, _, _, _, _, _, _, _, _, _, _, _, _]) rfl rfl rfl Try.sizeOf40 rfl (by simp [Value.oneCell']) rfl rfl rfl rfl rfl rfl ?_
      refine HA_back (listed' := #[true, true, true, true, true, true, true, true, true, true, true, true, true, true, true, false]) rfl (fun _ hA => hA.keep (m := [nn, nn, yy, yy, yy, yy, yy, yy, yy, yy]) (Y := [_, _, _, _, _, _, _, _]) rfl) ?_
      refine HA_loud1 (i := 15) (by kernel_rfl) rfl ?_
      refine HO_store (i := 1) (j := 0) (us := []) (old := [_, _, _, _, _, _, _, _, _, _, _, _, _, _, _, _, _]) (ts := []) (cs := [_, _, _, _, _, _, _, _, _, _, _, _, _, _, _, _, _]) (R := [_, _, _, _, _, _, _, _, _]) (new := [_, _, _, _, _, _, _, _, _, _, _, _, _, _, _, _, _]) rfl rfl rfl Try.sizeOf40 rfl (by simp [Value.oneCell']) rfl rfl rfl rfl rfl rfl ?_
      refine HA_back (listed' := #[true, true, true, true, true, true, true, true, true, true, true, true, true, true, true, true]) rfl (fun _ hA => hA.keep (m := [nn, nn, yy, yy, yy, yy, yy, yy, yy, yy]) (Y := [_, _, _, _, _, _, _, _]) rfl) ?_
      refine HA_done (by kernel_rfl) ?_
      refine H_env (ρ' := [(11, _), (10, _), (0, _), (3, _), (4, _), (7, _), (32, _), (33, _), (34, _)]) ⟨rfl, rfl, rfl, rfl, rfl, rfl, rfl, rfl, rfl, trivial⟩ ?_
      refine H_world (fun _ hA => hA.keep (m := [yy, yy, nn, yy, nn, yy, nn, yy, yy, yy]) (Y := [_, _, _, _, _, _, _]) rfl) ?_
      refine H_seq ?_
      rw [hzg] at hzb
      cases hzb
      rw [hzh] at hza
      cases hza
      refine H_region (l := [_, _, _, _, _, _, _, _, _, _, _, _, _, _, _, _, _, _, _, _, _]) rfl ?_
      refine HO_fieldAddr (r := 15) rfl rfl rfl Try.underlying40 rfl Try.sizeOf3 rfl ?_
      refine HO_load1 (i := 1) (j := 15) rfl rfl rfl Try.isAgg3 rfl (.loc _ _ _) rfl rfl ?_
      refine HO_fieldAddr (r := 15) rfl rfl rfl Try.underlying40 rfl Try.sizeOf3 rfl ?_
      refine HO_load1 (i := 0) (j := 15) rfl rfl rfl Try.isAgg3 rfl (.loc _ _ _) rfl rfl ?_
      refine HO_bin rfl rfl rfl rfl bin_gtr ?_
      refine HO_move rfl rfl rfl ?_
      refine HO_split (d := 83) rfl ?_ ?_
      ·intro h83
       replace h83 := dT h83
       (exfalso; omega)
      intro h83
      replace h83 := dF h83
      refine HO_fieldAddr (r := 15) rfl rfl rfl Try.underlying40 rfl Try.sizeOf3 rfl ?_
      refine HO_load1 (i := 1) (j := 15) rfl rfl rfl Try.isAgg3 rfl (.loc _ _ _) rfl rfl ?_
      refine HO_fieldAddr (r := 15) rfl rfl rfl Try.underlying40 rfl Try.sizeOf3 rfl ?_
      refine HO_load1 (i := 0) (j := 15) rfl rfl rfl Try.isAgg3 rfl (.loc _ _ _) rfl rfl ?_
      refine HO_bin rfl rfl rfl rfl bin_eql ?_
      refine HO_move rfl rfl rfl ?_
      refine HO_split (d := 89) rfl ?_ ?_
      ·intro h89
       replace h89 := dT h89
       refine HO_fieldAddr (r := 16) rfl rfl rfl Try.underlying40 rfl Try.sizeOf4 rfl ?_
       refine HO_load1 (i := 1) (j := 16) rfl rfl rfl Try.isAgg4 rfl (.loc _ _ _) rfl rfl ?_
       refine HO_pick_t rfl rfl rfl rfl ?_
       refine HO_move rfl rfl rfl ?_
       refine HO_split (d := 93) rfl ?_ ?_
       ·intro h93
        refine HO_fieldAddr (r := 16) rfl rfl rfl Try.underlying40 rfl Try.sizeOf4 rfl ?_
        refine HO_load1 (i := 0) (j := 16) rfl rfl rfl Try.isAgg4 rfl (.loc _ _ _) rfl rfl ?_
        refine HO_not rfl rfl rfl ?_
        refine HO_pick_t rfl rfl rfl rfl ?_
        refine HO_pick_f rfl rfl rfl rfl ?_
        refine HO_nil ?_
        refine H_env (ρ' := [(98, _), (0, _), (3, _), (4, _), (7, _), (32, _), (33, _), (34, _)]) ⟨rfl, rfl, rfl, rfl, rfl, rfl, rfl, rfl, trivial⟩ ?_
        refine H_world (fun _ hA => hA.keep (m := [nn, nn, nn, nn, yy, yy, yy]) (Y := [_, _, _]) rfl) ?_
        refine H_cond rfl ?_ ?_
        ·intro h98
         replace h98 := nT h98
         (exact absurd (htw.2 (by omega) (by simp_all)) (by simp_all))
        intro h98
        replace h98 := nF h98
        refine H_skip ?_
        refine H_blk ?_
        refine H_region (l := [_, _]) rfl ?_
        refine HO_bin rfl rfl rfl rfl (bin_add ?_ ?_) ?_
        ·omega
        ·omega
        refine HO_move rfl rfl rfl ?_
        refine HO_nil ?_
        refine H_env (ρ' := [(34, _), (0, _), (3, _), (4, _), (7, _), (32, _), (33, _)]) ⟨rfl, rfl, rfl, rfl, rfl, rfl, rfl, trivial⟩ ?_
        refine H_inv (fun a w hf hA => ⟨⟨i + 1, seen.set k true⟩, ?_, ?_, hf.sub ?_, ?_⟩)
        ·exact ⟨by dsimp only; omega, hI.2.next hzi⟩
        ·(try dsimp only); omega
        ·exact ⟨rfl, rfl, rfl, rfl, rfl, rfl, rfl, trivial⟩
        ·exact hA.only (is := [0, 1, 0]) (Z := []) rfl
       intro h93
       iterate 3 refine HO_no rfl rfl rfl ?_
       iterate 2 refine HO_pick_f rfl rfl rfl rfl ?_
       refine HO_nil ?_
       refine H_env (ρ' := [(98, _), (0, _), (3, _), (4, _), (7, _), (32, _), (33, _), (34, _)]) ⟨rfl, rfl, rfl, rfl, rfl, rfl, rfl, rfl, trivial⟩ ?_
       refine H_world (fun _ hA => hA.keep (m := [nn, nn, nn, nn, yy, yy, yy]) (Y := [_, _, _]) rfl) ?_
       refine H_cond rfl (fun h => nomatch h) (fun _ => ?_)
       refine H_skip ?_
       refine H_blk ?_
       refine H_region (l := [_, _]) rfl ?_
       refine HO_bin rfl rfl rfl rfl (bin_add ?_ ?_) ?_
       ·omega
       ·omega
       refine HO_move rfl rfl rfl ?_
       refine HO_nil ?_
       refine H_env (ρ' := [(34, _), (0, _), (3, _), (4, _), (7, _), (32, _), (33, _)]) ⟨rfl, rfl, rfl, rfl, rfl, rfl, rfl, trivial⟩ ?_
       refine H_inv (fun a w hf hA => ⟨⟨i + 1, seen.set k true⟩, ?_, ?_, hf.sub ?_, ?_⟩)
       ·exact ⟨by dsimp only; omega, hI.2.next hzi⟩
       ·(try dsimp only); omega
       ·exact ⟨rfl, rfl, rfl, rfl, rfl, rfl, rfl, trivial⟩
       ·exact hA.only (is := [0, 1, 0]) (Z := []) rfl
      intro h89
      replace h89 := dF h89
      iterate 2 refine HO_no rfl rfl rfl ?_
      refine HO_pick_f rfl rfl rfl rfl ?_
      refine HO_move rfl rfl rfl ?_
      iterate 3 refine HO_no rfl rfl rfl ?_
      iterate 2 refine HO_pick_f rfl rfl rfl rfl ?_
      refine HO_nil ?_
      refine H_env (ρ' := [(98, _), (0, _), (3, _), (4, _), (7, _), (32, _), (33, _), (34, _)]) ⟨rfl, rfl, rfl, rfl, rfl, rfl, rfl, rfl, trivial⟩ ?_
      refine H_world (fun _ hA => hA.keep (m := [nn, nn, nn, nn, yy, yy, yy]) (Y := [_, _, _]) rfl) ?_
      refine H_cond rfl (fun h => nomatch h) (fun _ => ?_)
      refine H_skip ?_
      refine H_blk ?_
      refine H_region (l := [_, _]) rfl ?_
      refine HO_bin rfl rfl rfl rfl (bin_add ?_ ?_) ?_
      ·omega
      ·omega
      refine HO_move rfl rfl rfl ?_
      refine HO_nil ?_
      refine H_env (ρ' := [(34, _), (0, _), (3, _), (4, _), (7, _), (32, _), (33, _)]) ⟨rfl, rfl, rfl, rfl, rfl, rfl, rfl, trivial⟩ ?_
      refine H_inv (fun a w hf hA => ⟨⟨i + 1, seen.set k true⟩, ?_, ?_, hf.sub ?_, ?_⟩)
      ·exact ⟨by dsimp only; omega, hI.2.next hzi⟩
      ·(try dsimp only); omega
      ·exact ⟨rfl, rfl, rfl, rfl, rfl, rfl, rfl, trivial⟩
      ·exact hA.only (is := [0, 1, 0]) (Z := []) rfl
     ·refine HO_alloc (cs := [_, _, _, _, _, _, _, _, _, _, _, _, _, _, _, _, _]) rfl rfl Try.zeroValue40 rfl ?_
      intro g11
      refine HA_back (listed' := #[true, true, true, true, true, true, true, true, true, true, true, true, false, true, false, false]) rfl (fun _ hA => hA.keep (m := [nn, yy, yy, yy, yy, yy, yy, yy, yy]) (Y := [_, _, _, _, _, _, _, _]) rfl) ?_
      refine HA_loud1 (i := 12) (by kernel_rfl) rfl ?_
      refine HO_alloc (cs := [_, _, _, _, _, _, _, _, _, _, _, _, _, _, _, _, _]) rfl rfl Try.zeroValue40 rfl ?_
      intro g10
      refine HA_back (listed' := #[true, true, true, true, true, true, true, true, true, true, true, true, true, true, false, false]) rfl (fun _ hA => hA.keep (m := [nn, nn, yy, yy, yy, yy, yy, yy, yy, yy]) (Y := [_, _, _, _, _, _, _, _]) rfl) ?_
      refine HA_loud1 (i := 14) (by kernel_rfl) rfl ?_
      refine HO_store (i := 0) (j := 0) (us := []) (old := [_, _, _, _, _, _, _, _, _, _, _, _, _, _, _, _, _]) (ts := []) (cs := [_, _, _, _, _, _, _, _, _, _, _, _, _, _, _, _, _]) (R := [_, _, _, _, _, _, _, _, _]) (new := [_, _, _, _, _, _, _, _, _, _, _, _, _, _, _, _, _]) rfl rfl rfl Try.sizeOf40 rfl (by simp [Value.oneCell']) rfl rfl rfl rfl rfl rfl ?_
      refine HA_back (listed' := #[true, true, true, true, true, true, true, true, true, true, true, true, true, true, true, false]) rfl (fun _ hA => hA.keep (m := [nn, nn, yy, yy, yy, yy, yy, yy, yy, yy]) (Y := [_, _, _, _, _, _, _, _]) rfl) ?_
      refine HA_loud1 (i := 15) (by kernel_rfl) rfl ?_
      refine HO_store (i := 1) (j := 0) (us := []) (old := [_, _, _, _, _, _, _, _, _, _, _, _, _, _, _, _, _]) (ts := []) (cs := [_, _, _, _, _, _, _, _, _, _, _, _, _, _, _, _, _]) (R := [_, _, _, _, _, _, _, _, _]) (new := [_, _, _, _, _, _, _, _, _, _, _, _, _, _, _, _, _]) rfl rfl rfl Try.sizeOf40 rfl (by simp [Value.oneCell']) rfl rfl rfl rfl rfl rfl ?_
      refine HA_back (listed' := #[true, true, true, true, true, true, true, true, true, true, true, true, true, true, true, true]) rfl (fun _ hA => hA.keep (m := [nn, nn, yy, yy, yy, yy, yy, yy, yy, yy]) (Y := [_, _, _, _, _, _, _, _]) rfl) ?_
      refine HA_done (by kernel_rfl) ?_
      refine H_env (ρ' := [(10, _), (11, _), (0, _), (3, _), (4, _), (7, _), (32, _), (33, _), (34, _)]) ⟨rfl, rfl, rfl, rfl, rfl, rfl, rfl, rfl, rfl, trivial⟩ ?_
      refine H_world (fun _ hA => hA.keep (m := [yy, yy, nn, yy, nn, yy, nn, yy, yy, yy]) (Y := [_, _, _, _, _, _, _]) rfl) ?_
      refine H_seq ?_
      rw [hzg] at hzb
      cases hzb
      rw [hzh] at hza
      cases hza
      refine H_region (l := [_, _, _, _, _, _, _, _, _, _, _, _, _, _, _, _, _, _, _, _, _]) rfl ?_
      refine HO_fieldAddr (r := 15) rfl rfl rfl Try.underlying40 rfl Try.sizeOf3 rfl ?_
      refine HO_load1 (i := 1) (j := 15) rfl rfl rfl Try.isAgg3 rfl (.loc _ _ _) rfl rfl ?_
      refine HO_fieldAddr (r := 15) rfl rfl rfl Try.underlying40 rfl Try.sizeOf3 rfl ?_
      refine HO_load1 (i := 0) (j := 15) rfl rfl rfl Try.isAgg3 rfl (.loc _ _ _) rfl rfl ?_
      refine HO_bin rfl rfl rfl rfl bin_gtr ?_
      refine HO_move rfl rfl rfl ?_
      refine HO_split (d := 83) rfl ?_ ?_
      ·intro h83
       replace h83 := dT h83
       (exfalso; omega)
      intro h83
      replace h83 := dF h83
      refine HO_fieldAddr (r := 15) rfl rfl rfl Try.underlying40 rfl Try.sizeOf3 rfl ?_
      refine HO_load1 (i := 1) (j := 15) rfl rfl rfl Try.isAgg3 rfl (.loc _ _ _) rfl rfl ?_
      refine HO_fieldAddr (r := 15) rfl rfl rfl Try.underlying40 rfl Try.sizeOf3 rfl ?_
      refine HO_load1 (i := 0) (j := 15) rfl rfl rfl Try.isAgg3 rfl (.loc _ _ _) rfl rfl ?_
      refine HO_bin rfl rfl rfl rfl bin_eql ?_
      refine HO_move rfl rfl rfl ?_
      refine HO_split (d := 89) rfl ?_ ?_
      ·intro h89
       replace h89 := dT h89
       refine HO_fieldAddr (r := 16) rfl rfl rfl Try.underlying40 rfl Try.sizeOf4 rfl ?_
       refine HO_load1 (i := 1) (j := 16) rfl rfl rfl Try.isAgg4 rfl (.loc _ _ _) rfl rfl ?_
       refine HO_pick_t rfl rfl rfl rfl ?_
       refine HO_move rfl rfl rfl ?_
       refine HO_split (d := 93) rfl ?_ ?_
       ·intro h93
        refine HO_fieldAddr (r := 16) rfl rfl rfl Try.underlying40 rfl Try.sizeOf4 rfl ?_
        refine HO_load1 (i := 0) (j := 16) rfl rfl rfl Try.isAgg4 rfl (.loc _ _ _) rfl rfl ?_
        refine HO_not rfl rfl rfl ?_
        refine HO_pick_t rfl rfl rfl rfl ?_
        refine HO_pick_f rfl rfl rfl rfl ?_
        refine HO_nil ?_
        refine H_env (ρ' := [(98, _), (0, _), (3, _), (4, _), (7, _), (32, _), (33, _), (34, _)]) ⟨rfl, rfl, rfl, rfl, rfl, rfl, rfl, rfl, trivial⟩ ?_
        refine H_world (fun _ hA => hA.keep (m := [nn, nn, nn, nn, yy, yy, yy]) (Y := [_, _, _]) rfl) ?_
        refine H_cond rfl ?_ ?_
        ·intro h98
         replace h98 := nT h98
         (exact absurd (htw.2 (by omega) (by simp_all)) (by simp_all))
        intro h98
        replace h98 := nF h98
        refine H_skip ?_
        refine H_blk ?_
        refine H_region (l := [_, _]) rfl ?_
        refine HO_bin rfl rfl rfl rfl (bin_add ?_ ?_) ?_
        ·omega
        ·omega
        refine HO_move rfl rfl rfl ?_
        refine HO_nil ?_
        refine H_env (ρ' := [(34, _), (0, _), (3, _), (4, _), (7, _), (32, _), (33, _)]) ⟨rfl, rfl, rfl, rfl, rfl, rfl, rfl, trivial⟩ ?_
        refine H_inv (fun a w hf hA => ⟨⟨i + 1, seen.set k true⟩, ?_, ?_, hf.sub ?_, ?_⟩)
        ·exact ⟨by dsimp only; omega, hI.2.next hzi⟩
        ·(try dsimp only); omega
        ·exact ⟨rfl, rfl, rfl, rfl, rfl, rfl, rfl, trivial⟩
        ·exact hA.only (is := [0, 1, 0]) (Z := []) rfl
       intro h93
       iterate 3 refine HO_no rfl rfl rfl ?_
       iterate 2 refine HO_pick_f rfl rfl rfl rfl ?_
       refine HO_nil ?_
       refine H_env (ρ' := [(98, _), (0, _), (3, _), (4, _), (7, _), (32, _), (33, _), (34, _)]) ⟨rfl, rfl, rfl, rfl, rfl, rfl, rfl, rfl, trivial⟩ ?_
       refine H_world (fun _ hA => hA.keep (m := [nn, nn, nn, nn, yy, yy, yy]) (Y := [_, _, _]) rfl) ?_
       refine H_cond rfl (fun h => nomatch h) (fun _ => ?_)
       refine H_skip ?_
       refine H_blk ?_
       refine H_region (l := [_, _]) rfl ?_
       refine HO_bin rfl rfl rfl rfl (bin_add ?_ ?_) ?_
       ·omega
       ·omega
       refine HO_move rfl rfl rfl ?_
       refine HO_nil ?_
       refine H_env (ρ' := [(34, _), (0, _), (3, _), (4, _), (7, _), (32, _), (33, _)]) ⟨rfl, rfl, rfl, rfl, rfl, rfl, rfl, trivial⟩ ?_
       refine H_inv (fun a w hf hA => ⟨⟨i + 1, seen.set k true⟩, ?_, ?_, hf.sub ?_, ?_⟩)
       ·exact ⟨by dsimp only; omega, hI.2.next hzi⟩
       ·(try dsimp only); omega
       ·exact ⟨rfl, rfl, rfl, rfl, rfl, rfl, rfl, trivial⟩
       ·exact hA.only (is := [0, 1, 0]) (Z := []) rfl
      intro h89
      replace h89 := dF h89
      iterate 2 refine HO_no rfl rfl rfl ?_
      refine HO_pick_f rfl rfl rfl rfl ?_
      refine HO_move rfl rfl rfl ?_
      iterate 3 refine HO_no rfl rfl rfl ?_
      iterate 2 refine HO_pick_f rfl rfl rfl rfl ?_
      refine HO_nil ?_
      refine H_env (ρ' := [(98, _), (0, _), (3, _), (4, _), (7, _), (32, _), (33, _), (34, _)]) ⟨rfl, rfl, rfl, rfl, rfl, rfl, rfl, rfl, trivial⟩ ?_
      refine H_world (fun _ hA => hA.keep (m := [nn, nn, nn, nn, yy, yy, yy]) (Y := [_, _, _]) rfl) ?_
      refine H_cond rfl (fun h => nomatch h) (fun _ => ?_)
      refine H_skip ?_
      refine H_blk ?_
      refine H_region (l := [_, _]) rfl ?_
      refine HO_bin rfl rfl rfl rfl (bin_add ?_ ?_) ?_
      ·omega
      ·omega
      refine HO_move rfl rfl rfl ?_
      refine HO_nil ?_
      refine H_env (ρ' := [(34, _), (0, _), (3, _), (4, _), (7, _), (32, _), (33, _)]) ⟨rfl, rfl, rfl, rfl, rfl, rfl, rfl, trivial⟩ ?_
      refine H_inv (fun a w hf hA => ⟨⟨i + 1, seen.set k true⟩, ?_, ?_, hf.sub ?_, ?_⟩)
      ·exact ⟨by dsimp only; omega, hI.2.next hzi⟩
      ·(try dsimp only); omega
      ·exact ⟨rfl, rfl, rfl, rfl, rfl, rfl, rfl, trivial⟩
      ·exact hA.only (is := [0, 1, 0]) (Z := []) rfl
    intro h65
    replace h65 := dF h65
    refine H_skip ?_
    refine H_blk ?_
    refine H_region (l := [_, _]) rfl ?_
    refine HO_bin rfl rfl rfl rfl (bin_add ?_ ?_) ?_
    ·omega
    ·omega
    refine HO_move rfl rfl rfl ?_
    refine HO_nil ?_
    refine H_env (ρ' := [(34, _), (0, _), (3, _), (4, _), (7, _), (32, _), (33, _)]) ⟨rfl, rfl, rfl, rfl, rfl, rfl, rfl, trivial⟩ ?_
    refine H_inv (fun a w hf hA => ⟨⟨i + 1, seen.set k true⟩, ?_, ?_, hf.sub ?_, ?_⟩)
    ·exact ⟨by dsimp only; omega, hI.2.next hzi⟩
    ·(try dsimp only); omega
    ·exact ⟨rfl, rfl, rfl, rfl, rfl, rfl, rfl, trivial⟩
    ·exact hA.only (is := [0, 1, 0]) (Z := []) rfl
   intro h35
   replace h35 := dF h35
   refine H_exit rfl ?_
   refine H_seq ?_
   refine H_region (l := [_, _, _, _, _, _, _, _]) rfl ?_
   refine HO_move rfl rfl rfl ?_
   refine HO_bi rfl rfl rfl (bi_len_sl Try.underlying29) ?_
   refine HO_move rfl rfl rfl ?_
   refine HO_bin rfl rfl rfl rfl bin_eql ?_
   refine HO_move rfl rfl rfl ?_
   refine HO_split (d := 104) rfl ?_ ?_
   ·intro h104
    replace h104 := dT h104
    refine HO_call (first := []) (capt := []) (is := []) (R := [_, _, _]) rfl rfl rfl rfl rfl Try.call15 rfl lives22_spec ?_
    intro y105 hy105
    clear y105 hy105
    refine HO_pick_t rfl rfl rfl rfl ?_
    refine HO_assign rfl rfl rfl ?_
    refine HO_nil ?_
    refine H_env (ρ' := [(2, _)]) ⟨rfl, trivial⟩ ?_
    refine H_world (fun _ hA => hA.keep (m := [nn, nn, nn]) (Y := []) rfl) ?_
    refine H_ret1 Try.results4 (.tmp rfl) (fun w hA => ⟨(), congrArg Ending.returned ?_, ?_, ?_⟩)
    ·(exact congrArg Value.bool (by first | rfl | assumption | simp_all))
    ·trivial
    ·exact hA.keep (m := []) (Y := []) rfl
   intro h104
   replace h104 := dF h104
   refine HO_no rfl rfl rfl ?_
   refine HO_pick_f rfl rfl rfl rfl ?_
   refine HO_assign rfl rfl rfl ?_
   refine HO_nil ?_
   refine H_env (ρ' := [(2, _)]) ⟨rfl, trivial⟩ ?_
   refine H_world (fun _ hA => hA.keep (m := [nn, nn, nn]) (Y := []) rfl) ?_
   refine H_ret1 Try.results4 (.tmp rfl) (fun w hA => ⟨(), congrArg Ending.returned ?_, ?_, ?_⟩)
   ·(exact congrArg Value.bool (by first | rfl | assumption | simp_all))
   ·trivial
   ·exact hA.keep (m := []) (Y := []) rfl
end Go.Wk
